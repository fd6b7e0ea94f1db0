import PyProof.Rows.All
import OpenK.KLine
import KE.KEqDict
import PyProof.CompFree
import PyProof.Cells
import PyProof.DictKinds
import PyProof.Calls
import PyProof.Rows.Tup
import PyProof.Rules2
import PyProof.Rules3
import PyProof.CallRoads
import PyProof.CallType
import PyProof.EvalArms
import PyProof.Raises
import PyProof.Rows.StrTemp
import PyProof.Rows.TupSub
import PyProof.RulesRaise
import PyProof.ForAny
import PyProof.WalksMore
import PyProof.StrWalks
import PyProof.DictWalks
import PyProof.MakeMany
import PyProof.PureInt
import PyProof.NoPylong
import PyProof.Rows.RuleB_floordiv
import PyProof.Rows.RuleB_mod
import PyProof.Rows.StrRules
import PyProof.FString5
import PyProof.ListIndex
import PyProof.ListIndexNeg
import PyProof.SliceList
import PyProof.SliceStr2
import PyProof.StrCalls2
import PyProof.ConsumeWalk
import PyProof.WalkInts
import PyProof.IsiPairs
import PyProof.IsiHeapPairs
import PyProof.CallStr
import PyProof.P3Eq
import PyProof.EqLayable
import PyProof.Methods
import PyProof.SeqRoads
import PyProof.SliceSyntax
import PyProof.Rows.SeqMore
import PyProof.IsiNone
import PyProof.StrBlock
import PyProof.RangeFor
import PyProof.Rows.Range3
import PyProof.Rows.Chain
import OpenK.KCall
import PyProof.StrBlockI
import PyProof.StrBlockL
import PyProof.DictRoads
import PyProof.DictCalls
import PyProof.MeetsDictList
import PyProof.MeetsDict
import PyProof.Rows.ListAppend
import PyProof.MeetsIn
import PyProof.FactsAll.list_0
import PyProof.DictTruth
import PyProof.TupleIter
import PyProof.RulesAssignMore
import KE.KDictLaws
import OpenK.KCls
import OpenK.KMake
import OpenK.KWalk
import PyProof.AssignAttr
import KE.KDictSum
import PyProof.Rows.SortStr
import PyProof.Rows.SortWalk
import PyProof.ListCopy
import PyProof.Conv_int_bool
import PyProof.ListMulAny
import PyProof.ListMulRoad
import PyProof.AutoSeq1
import PyProof.WalksEnum
import PyProof.DictDisplay
import PyProof.DictStraight
import PyProof.Rows.StrInSeq3
import PyProof.AttrMissHeap
import KE.KDictOf
import PyProof.MeetsSeq
import PyProof.Draws
import PyProof.DictUpdate
import PyProof.NeKinds
import KE.KItem
import PyProof.Rows.ChunkEnd
import KE.KRevIter
import PyProof.Rows.SeqIn
import PyProof.DictList
import Lean
import PySem.Challenge.RW_uf010025_10
set_option autoImplicit false
set_option linter.unusedVariables false
set_option linter.unusedSimpArgs false
set_option linter.unusedSectionVars false
set_option Elab.async false
set_option genSizeOf false
set_option maxRecDepth 100000
set_option compiler.extract_closed false
set_option maxHeartbeats 8000000
namespace Mine
section
open PySem PySem.W PyProof.Rows
namespace Tp
section
local macro_rules
  | `(tactic| o_head $_:term) => `(tactic| assumption)
theorem lay (h : (OpenLaw.row PySem.Challenge.rw_uf010025_10).Holds) : (OpenLaw.row PySem.Challenge.rw_uf010025_10).Holds := by k_head
end
noncomputable def alt : List Obj → List Obj
  | [] => []
  | [a] => [a]
  | a :: _ :: r => a :: alt r
noncomputable def ofL : Nat → List Obj → BT
  | 0, _ => .nil
  | _ + 1, [] => .nil
  | n + 1, a :: r => .node a (ofL n (alt r)) (ofL n (alt r.tail))
noncomputable def life : Life := { }
noncomputable def drawn : Drawn := { }
noncomputable def o (k : Nat) (P : Params) : Obj := (((lay.heap_1 P)[k]?).map (·.2)).getD default
noncomputable def fo (k : Nat) (P : Params) : FuncData := match (o k P).data with | .func f => f | _ => default
noncomputable def vs (s : String) (t : Nat) : Value := .str (Str.ofString s) t
noncomputable def vi (k : Int) : Value := .int k 0
noncomputable def de (P : Params) (k : String) (t : Nat) (v : Value) : DictEntry := { hash := PyData.keyHash P (Str.ofString k), key := .str (Str.ofString k) t, val := v }
noncomputable def bp : Obj := { cls := .type "builtin_function_or_method", data := Data.fields #[.builtin "type.__prepare__", .type "type"] }
noncomputable def tp : Obj := { cls := .type "tuple", data := Data.seq #[] }
noncomputable def nf : Obj := { cls := .none, data := Data.fields #[] }
noncomputable def nl (l : List Value) : Obj := { cls := .none, data := Data.fields l.toArray }
noncomputable def di (l : List DictEntry) (k : Nat) : Obj := { cls := .type "dict", data := Data.dict l.toArray k }
noncomputable def co (a : String) (t1 : Nat) (b : String) (t2 t3 t4 : Nat) (l : List Value) : Obj := { cls := .type "code", data := Data.fields ([vs a t1, vs b t2, vs "/claim/cut.py" t3] ++ (l ++ [vs "/claim/cut.py" t4])).toArray }
noncomputable def fm (a b c : Nat) (v : Value) : Obj := { cls := .type "frame", slots := #[some (.ref a), some (.ref b), some (.ref c), none, some v, none, some (.ref 0)] }
noncomputable def xs (P : Params) : List Obj := [
  tp,
  nf,
  co "<module>" 182 "<module>" 183 184 186 [vi 1, vi 0, vi 0, vi 0, vi 0, .ref 11, .bool false, vi 181, .ref 12, .none, .none, .none, .none, vi 185, vi 1],
  fm 13 3 3 (vs "__main__" 164),
  di [(de P "__name__" 165 (vs "pickfloor.errors" 194)), (de P "__doc__" 166 .none), (de P "__package__" 167 .none), (de P "__loader__" 168 (.builtin "__main__.__loader__#opaque")), (de P "__spec__" 169 .none), (de P "__annotations__" 170 (.ref 6)), (de P "__builtins__" 171 (.ref 4)), (de P "__file__" 173 (vs "/claim/cut.py" 172)), (de P "__cached__" 174 .none), (de P "_wall" 193 (.ref 21)), (de P "PickError" 213 (.ref 31)), (de P "BadWare" 229 (.ref 44)), (de P "BadMake" 245 (.ref 56)), (de P "BadNeed" 261 (.ref 68)), (de P "Twice" 277 (.ref 80))] 15,
  nl [vi 1, vi 0, .ref 20, vi 5, vi 0, .ref 27, vi 7, vi 0, .ref 40, vi 9, vi 0, .ref 52, vi 11, vi 0, .ref 64, vi 13, vi 0, .ref 76],
  nf,
  { cls := .none, dict := none, data := Data.func { fo 6 P with globals := 0, pyModule := .none, code := .none }, slots := #[] },
  bp,
  di [(de P "__module__" 203 (vs "pickfloor.errors" 194)), (de P "__qualname__" 205 (vs "PickError" 204)), (de P "__firstlineno__" 207 (Value.int 5 206)), (de P "__static_attributes__" 208 (.ref 29))] 4,
  tp,
  nf,
  co "PickError" 198 "PickError" 199 200 202 [vi 5, vi 0, vi 0, vi 0, vi 0, .ref 25, .bool false, vi 181, .ref 26, .none, .none, .none, .none, vi 201, vi 5],
  fm 27 3 24 (vs "pickfloor.errors" 194),
  { cls := .type "type", data := Data.cls { name := Str.ofString "PickError", bases := [.type "ValueError"], mro := [.ref 31, .type "ValueError", .type "Exception", .type "BaseException", .type "object"], ns := 30, qualname := Str.ofString "PickError", subclasses := [.ref 44, .ref 56, .ref 68, .ref 80] }, slots := #[some (.ref 22), none, some (vs "PickError" 196), some (vs "PickError" 204), some (.builtin "ValueError.__new__"), some (.bool true)] },
  { cls := .type "super", data := Data.fields #[.ref 31, .ref 31, .ref 31] },
  { cls := .type "builtin_function_or_method", data := Data.fields #[.builtin "object.__init_subclass__", .ref 31] },
  bp,
  di [(de P "__module__" 221 (vs "pickfloor.errors" 194)), (de P "__qualname__" 223 (vs "BadWare" 222)), (de P "__firstlineno__" 225 (Value.int 7 224)), (de P "__static_attributes__" 226 (.ref 42))] 4,
  tp,
  nf,
  co "BadWare" 216 "BadWare" 217 218 220 [vi 7, vi 0, vi 0, vi 0, vi 0, .ref 38, .bool false, vi 181, .ref 39, .none, .none, .none, .none, vi 219, vi 7],
  fm 40 3 37 (vs "pickfloor.errors" 194),
  { cls := .type "super", data := Data.fields #[.ref 44, .ref 44, .ref 44] },
  { cls := .type "builtin_function_or_method", data := Data.fields #[.builtin "object.__init_subclass__", .ref 44] },
  bp,
  di [(de P "__module__" 237 (vs "pickfloor.errors" 194)), (de P "__qualname__" 239 (vs "BadMake" 238)), (de P "__firstlineno__" 241 (Value.int 9 240)), (de P "__static_attributes__" 242 (.ref 54))] 4,
  tp,
  nf,
  co "BadMake" 232 "BadMake" 233 234 236 [vi 9, vi 0, vi 0, vi 0, vi 0, .ref 50, .bool false, vi 181, .ref 51, .none, .none, .none, .none, vi 235, vi 9],
  fm 52 3 49 (vs "pickfloor.errors" 194),
  { cls := .type "super", data := Data.fields #[.ref 56, .ref 56, .ref 56] },
  { cls := .type "builtin_function_or_method", data := Data.fields #[.builtin "object.__init_subclass__", .ref 56] },
  bp,
  di [(de P "__module__" 253 (vs "pickfloor.errors" 194)), (de P "__qualname__" 255 (vs "BadNeed" 254)), (de P "__firstlineno__" 257 (Value.int 11 256)), (de P "__static_attributes__" 258 (.ref 66))] 4,
  tp,
  nf,
  co "BadNeed" 248 "BadNeed" 249 250 252 [vi 11, vi 0, vi 0, vi 0, vi 0, .ref 62, .bool false, vi 181, .ref 63, .none, .none, .none, .none, vi 251, vi 11],
  fm 64 3 61 (vs "pickfloor.errors" 194),
  { cls := .type "super", data := Data.fields #[.ref 68, .ref 68, .ref 68] },
  { cls := .type "builtin_function_or_method", data := Data.fields #[.builtin "object.__init_subclass__", .ref 68] },
  bp,
  di [(de P "__module__" 269 (vs "pickfloor.errors" 194)), (de P "__qualname__" 271 (vs "Twice" 270)), (de P "__firstlineno__" 273 (Value.int 13 272)), (de P "__static_attributes__" 274 (.ref 78))] 4,
  tp,
  nf,
  co "Twice" 264 "Twice" 265 266 268 [vi 13, vi 0, vi 0, vi 0, vi 0, .ref 74, .bool false, vi 181, .ref 75, .none, .none, .none, .none, vi 267, vi 13],
  fm 76 3 73 (vs "pickfloor.errors" 194),
  { cls := .type "super", data := Data.fields #[.ref 80, .ref 80, .ref 80] },
  { cls := .type "builtin_function_or_method", data := Data.fields #[.builtin "object.__init_subclass__", .ref 80] },
  di [(de P "__name__" 165 (vs "pickfloor.shop" 476)), (de P "__doc__" 166 .none), (de P "__package__" 167 .none), (de P "__loader__" 168 (.builtin "__main__.__loader__#opaque")), (de P "__spec__" 169 .none), (de P "__annotations__" 170 (.ref 6)), (de P "__builtins__" 171 (.ref 4)), (de P "__file__" 173 (vs "/claim/cut.py" 172)), (de P "__cached__" 174 .none), (de P "_wall" 193 (.ref 21)), (de P "PickError" 213 (.ref 31)), (de P "BadWare" 229 (.ref 44)), (de P "BadMake" 245 (.ref 56)), (de P "BadNeed" 261 (.ref 68)), (de P "Twice" 277 (.ref 80)), (de P "Full" 293 (.ref 92)), (de P "NoMake" 309 (.ref 104)), (de P "BadWish" 325 (.ref 116)), (de P "LETTERS" 329 (vs "abcdefghijklmnopqrstuvwxyz" 328)), (de P "MOST_LETTERS" 331 (Value.int 8 330)), (de P "MOST_MAKE" 333 (Value.int 999 332)), (de P "is_ware" 339 (.ref 123)), (de P "is_make" 346 (.ref 130)), (de P "is_need" 353 (.ref 137)), (de P "within" 362 (.ref 144)), (de P "MOST_WISHES" 366 (Value.int 8 365)), (de P "need_wish" 372 (.ref 149)), (de P "agenda_of" 384 (.ref 156)), (de P "is_number" 394 (.ref 163)), (de P "is_granted" 403 (.ref 170)), (de P "stretch_of" 416 (.ref 177)), (de P "left_by" 422 (.ref 182)), (de P "sources_for" 430 (.ref 187)), (de P "clash" 443 (.ref 194)), (de P "outside" 459 (.ref 201)), (de P "settled" 465 (.ref 206)), (de P "settle" 475 (.ref 213)), (de P "MOST_WARES" 479 (Value.int 12 478)), (de P "MOST_MAKES" 481 (Value.int 8 480))] 39,
  nl [vi 1, vi 0, .ref 20, vi 5, vi 0, .ref 27, vi 7, vi 0, .ref 40, vi 9, vi 0, .ref 52, vi 11, vi 0, .ref 64, vi 13, vi 0, .ref 76, vi 15, vi 0, .ref 88, vi 17, vi 0, .ref 100, vi 19, vi 0, .ref 112, vi 25, vi 0, .ref 122, vi 29, vi 0, .ref 129, vi 31, vi 0, .ref 136, vi 35, vi 0, .ref 143, vi 39, vi 0, .ref 148, vi 42, vi 0, .ref 155, vi 56, vi 0, .ref 162, vi 58, vi 0, .ref 169, vi 60, vi 0, .ref 176, vi 75, vi 0, .ref 181, vi 82, vi 0, .ref 186, vi 89, vi 0, .ref 193, vi 96, vi 0, .ref 200, vi 103, vi 0, .ref 205, vi 124, vi 0, .ref 212],
  bp,
  di [(de P "__module__" 285 (vs "pickfloor.errors" 194)), (de P "__qualname__" 287 (vs "Full" 286)), (de P "__firstlineno__" 289 (Value.int 15 288)), (de P "__static_attributes__" 290 (.ref 90))] 4,
  tp,
  nf,
  co "Full" 280 "Full" 281 282 284 [vi 15, vi 0, vi 0, vi 0, vi 0, .ref 86, .bool false, vi 181, .ref 87, .none, .none, .none, .none, vi 283, vi 15],
  fm 88 3 85 (vs "pickfloor.errors" 194),
  { cls := .type "super", data := Data.fields #[.ref 92, .ref 92, .ref 92] },
  { cls := .type "builtin_function_or_method", data := Data.fields #[.builtin "object.__init_subclass__", .ref 92] },
  bp,
  di [(de P "__module__" 301 (vs "pickfloor.errors" 194)), (de P "__qualname__" 303 (vs "NoMake" 302)), (de P "__firstlineno__" 305 (Value.int 17 304)), (de P "__static_attributes__" 306 (.ref 102))] 4,
  tp,
  nf,
  co "NoMake" 296 "NoMake" 297 298 300 [vi 17, vi 0, vi 0, vi 0, vi 0, .ref 98, .bool false, vi 181, .ref 99, .none, .none, .none, .none, vi 299, vi 17],
  fm 100 3 97 (vs "pickfloor.errors" 194),
  { cls := .type "super", data := Data.fields #[.ref 104, .ref 104, .ref 104] },
  { cls := .type "builtin_function_or_method", data := Data.fields #[.builtin "object.__init_subclass__", .ref 104] },
  bp,
  di [(de P "__module__" 317 (vs "pickfloor.errors" 194)), (de P "__qualname__" 319 (vs "BadWish" 318)), (de P "__firstlineno__" 321 (Value.int 19 320)), (de P "__static_attributes__" 322 (.ref 114))] 4,
  tp,
  nf,
  co "BadWish" 312 "BadWish" 313 314 316 [vi 19, vi 0, vi 0, vi 0, vi 0, .ref 110, .bool false, vi 181, .ref 111, .none, .none, .none, .none, vi 315, vi 19],
  fm 112 3 109 (vs "pickfloor.errors" 194),
  { cls := .type "super", data := Data.fields #[.ref 116, .ref 116, .ref 116] },
  { cls := .type "builtin_function_or_method", data := Data.fields #[.builtin "object.__init_subclass__", .ref 116] },
  nf,
  { cls := .none, dict := none, data := Data.func { fo 42 P with globals := 0, pyModule := .none, code := .none }, slots := #[] },
  nf,
  { cls := .none, dict := none, data := Data.func { fo 47 P with globals := 0, pyModule := .none, code := .none }, slots := #[] },
  nf,
  { cls := .none, dict := none, data := Data.func { fo 52 P with globals := 0, pyModule := .none, code := .none }, slots := #[] },
  nf,
  { cls := .none, dict := none, data := Data.func { fo 57 P with globals := 0, pyModule := .none, code := .none }, slots := #[] },
  nf,
  { cls := .none, dict := none, data := Data.func { fo 60 P with globals := 0, pyModule := .none, code := .none }, slots := #[] },
  nf,
  { cls := .none, dict := none, data := Data.func { fo 65 P with globals := 0, pyModule := .none, code := .none }, slots := #[] },
  nf,
  { cls := .none, dict := none, data := Data.func { fo 70 P with globals := 0, pyModule := .none, code := .none }, slots := #[] },
  nf,
  { cls := .none, dict := none, data := Data.func { fo 75 P with globals := 0, pyModule := .none, code := .none }, slots := #[] },
  nf,
  { cls := .none, dict := none, data := Data.func { fo 80 P with globals := 0, pyModule := .none, code := .none }, slots := #[] },
  nf,
  { cls := .none, dict := none, data := Data.func { fo 83 P with globals := 0, pyModule := .none, code := .none }, slots := #[] },
  nf,
  { cls := .none, dict := none, data := Data.func { fo 86 P with globals := 0, pyModule := .none, code := .none }, slots := #[] },
  nf,
  { cls := .none, dict := none, data := Data.func { fo 91 P with globals := 0, pyModule := .none, code := .none }, slots := #[] },
  nf,
  { cls := .none, dict := none, data := Data.func { fo 96 P with globals := 0, pyModule := .none, code := .none }, slots := #[] },
  nf,
  { cls := .none, dict := none, data := Data.func { fo 99 P with globals := 0, pyModule := .none, code := .none }, slots := #[] },
  nf,
  { cls := .none, dict := none, data := Data.func { fo 104 P with globals := 0, pyModule := .none, code := .none }, slots := #[] },
  nl [vi 1, vi 0, .ref 20, vi 5, vi 0, .ref 27, vi 7, vi 0, .ref 40, vi 9, vi 0, .ref 52, vi 11, vi 0, .ref 64, vi 13, vi 0, .ref 76, vi 15, vi 0, .ref 88, vi 17, vi 0, .ref 100, vi 19, vi 0, .ref 112, vi 25, vi 0, .ref 122, vi 29, vi 0, .ref 129, vi 31, vi 0, .ref 136, vi 35, vi 0, .ref 143, vi 39, vi 0, .ref 148, vi 42, vi 0, .ref 155, vi 56, vi 0, .ref 162, vi 58, vi 0, .ref 169, vi 60, vi 0, .ref 176, vi 75, vi 0, .ref 181, vi 82, vi 0, .ref 186, vi 89, vi 0, .ref 193, vi 96, vi 0, .ref 200, vi 103, vi 0, .ref 205, vi 124, vi 0, .ref 212, vi 134, vi 0, .ref 219, vi 142, vi 0, .ref 226, vi 180, vi 0, .ref 289, vi 186, vi 0, .ref 294, vi 199, vi 0, .ref 301, vi 214, vi 0, .ref 306, vi 226, vi 0, .ref 311, vi 240, vi 0, .ref 318, vi 252, vi 0, .ref 325, vi 258, vi 0, .ref 330, vi 268, vi 0, .ref 337, vi 276, vi 0, .ref 342, vi 288, vi 0, .ref 349, vi 293, vi 0, .ref 354],
  nf,
  { cls := .none, dict := none, data := Data.func { fo 109 P with globals := 0, pyModule := .none, code := .none }, slots := #[] },
  tp,
  bp,
  di [(de P "__module__" 501 (vs "pickfloor.shop" 476)), (de P "__qualname__" 503 (vs "Shop" 502)), (de P "__firstlineno__" 505 (Value.int 142 504)), (de P "__init__" 512 (.ref 234)), (de P "has" 521 (.ref 241)), (de P "put" 531 (.ref 248)), (de P "take" 540 (.ref 255)), (de P "makes" 548 (.ref 262)), (de P "needs" 557 (.ref 269)), (de P "wares" 564 (.ref 276)), (de P "__static_attributes__" 566 (.ref 277))] 11,
  tp,
  nl [vi 144, vi 4, .ref 233, vi 147, vi 4, .ref 240, vi 150, vi 4, .ref 247, vi 164, vi 4, .ref 254, vi 167, vi 4, .ref 261, vi 172, vi 4, .ref 268, vi 177, vi 4, .ref 275],
  co "Shop" 496 "Shop" 497 498 500 [vi 142, vi 0, vi 0, vi 0, vi 0, .ref 224, .bool false, vi 181, .ref 225, .none, .none, .none, .none, vi 499, vi 142],
  fm 226 3 223 (vs "pickfloor.shop" 476),
  nf,
  { cls := .none, dict := none, data := Data.func { fo 114 P with globals := 0, pyModule := .none, code := .none }, slots := #[] },
  nf,
  { cls := .none, dict := none, data := Data.func { fo 119 P with globals := 0, pyModule := .none, code := .none }, slots := #[] },
  nf,
  { cls := .none, dict := none, data := Data.func { fo 124 P with globals := 0, pyModule := .none, code := .none }, slots := #[] },
  nf,
  { cls := .none, dict := none, data := Data.func { fo 129 P with globals := 0, pyModule := .none, code := .none }, slots := #[] },
  nf,
  { cls := .none, dict := none, data := Data.func { fo 134 P with globals := 0, pyModule := .none, code := .none }, slots := #[] },
  nf,
  { cls := .none, dict := none, data := Data.func { fo 139 P with globals := 0, pyModule := .none, code := .none }, slots := #[] },
  nf,
  { cls := .none, dict := none, data := Data.func { fo 144 P with globals := 0, pyModule := .none, code := .none }, slots := #[] },
  { cls := .type "super", data := Data.fields #[.ref 279, .ref 279, .ref 279] },
  { cls := .type "builtin_function_or_method", data := Data.fields #[.builtin "object.__init_subclass__", .ref 279] },
  nf,
  { cls := .none, dict := none, data := Data.func { fo 154 P with globals := 0, pyModule := .none, code := .none }, slots := #[] },
  nf,
  { cls := .none, dict := none, data := Data.func { fo 157 P with globals := 0, pyModule := .none, code := .none }, slots := #[] },
  nf,
  { cls := .none, dict := none, data := Data.func { fo 162 P with globals := 0, pyModule := .none, code := .none }, slots := #[] },
  nf,
  { cls := .none, dict := none, data := Data.func { fo 165 P with globals := 0, pyModule := .none, code := .none }, slots := #[] },
  nf,
  { cls := .none, dict := none, data := Data.func { fo 168 P with globals := 0, pyModule := .none, code := .none }, slots := #[] },
  nf,
  { cls := .none, dict := none, data := Data.func { fo 173 P with globals := 0, pyModule := .none, code := .none }, slots := #[] },
  nf,
  { cls := .none, dict := none, data := Data.func { fo 178 P with globals := 0, pyModule := .none, code := .none }, slots := #[] },
  nf,
  { cls := .none, dict := none, data := Data.func { fo 181 P with globals := 0, pyModule := .none, code := .none }, slots := #[] },
  nf,
  { cls := .none, dict := none, data := Data.func { fo 186 P with globals := 0, pyModule := .none, code := .none }, slots := #[] },
  nf,
  { cls := .none, dict := none, data := Data.func { fo 189 P with globals := 0, pyModule := .none, code := .none }, slots := #[] },
  nf,
  { cls := .none, dict := none, data := Data.func { fo 194 P with globals := 0, pyModule := .none, code := .none }, slots := #[] },
  nf,
  { cls := .none, dict := none, data := Data.func { fo 197 P with globals := 0, pyModule := .none, code := .none }, slots := #[] }]
noncomputable def x (k : Nat) (P : Params) : Obj := ((xs P)[k]?).getD default
noncomputable def sa (P : Params) : BT := ofL 400 [boot_o_0 P, boot_o_1 P, boot_o_2 P, boot_o_3 P, boot_o_4 P, boot_o_5 P, boot_o_6 P, boot_o_7 P, boot_o_8 P, boot_o_9 P, boot_o_10 P, x 0 P, x 1 P, x 2 P, x 3 P]
noncomputable def sb (P : Params) : BT := ofL 400 [boot_o_0 P, boot_o_1 P, boot_o_2 P, boot_o_3 P, boot_o_4 P, boot_o_5 P, boot_o_6 P, boot_o_7 P, boot_o_8 P, boot_o_9 P, boot_o_10 P, x 0 P, x 1 P, x 2 P, x 3 P]
noncomputable def s1 (P : Params) : BT := ofL 400 [boot_o_0 P, boot_o_1 P, boot_o_2 P, x 4 P, boot_o_4 P, boot_o_5 P, boot_o_6 P, boot_o_7 P, boot_o_8 P, boot_o_9 P, boot_o_10 P, x 0 P, x 5 P, x 2 P, x 3 P, o 2 P, x 6 P, o 3 P, o 4 P, x 7 P, o 5 P, o 6 P, o 7 P, x 8 P, x 9 P, x 10 P, x 11 P, x 12 P, x 13 P, o 8 P, o 9 P, x 14 P, o 11 P, x 15 P, x 16 P, o 12 P, x 17 P, x 18 P, x 19 P, x 20 P, x 21 P, x 22 P, o 13 P, o 14 P, o 15 P, x 23 P, x 24 P, o 16 P, x 25 P, x 26 P, x 27 P, x 28 P, x 29 P, x 30 P, o 17 P, o 18 P, o 19 P, x 31 P, x 32 P, o 20 P, x 33 P, x 34 P, x 35 P, x 36 P, x 37 P, x 38 P, o 21 P, o 22 P, o 23 P, x 39 P, x 40 P, o 24 P, x 41 P, x 42 P, x 43 P, x 44 P, x 45 P, x 46 P, o 25 P, o 26 P, o 27 P, x 47 P, x 48 P]
noncomputable def s2 (P : Params) : BT := ofL 400 [boot_o_0 P, boot_o_1 P, boot_o_2 P, x 49 P, boot_o_4 P, boot_o_5 P, boot_o_6 P, boot_o_7 P, boot_o_8 P, boot_o_9 P, boot_o_10 P, x 0 P, x 50 P, x 2 P, x 3 P, o 2 P, x 6 P, o 3 P, o 4 P, x 7 P, o 5 P, o 6 P, o 7 P, x 8 P, x 9 P, x 10 P, x 11 P, x 12 P, x 13 P, o 8 P, o 9 P, o 10 P, o 11 P, x 15 P, x 16 P, o 12 P, x 17 P, x 18 P, x 19 P, x 20 P, x 21 P, x 22 P, o 13 P, o 14 P, o 15 P, x 23 P, x 24 P, o 16 P, x 25 P, x 26 P, x 27 P, x 28 P, x 29 P, x 30 P, o 17 P, o 18 P, o 19 P, x 31 P, x 32 P, o 20 P, x 33 P, x 34 P, x 35 P, x 36 P, x 37 P, x 38 P, o 21 P, o 22 P, o 23 P, x 39 P, x 40 P, o 24 P, x 41 P, x 42 P, x 43 P, x 44 P, x 45 P, x 46 P, o 25 P, o 26 P, o 27 P, x 47 P, x 48 P, o 28 P, x 51 P, x 52 P, x 53 P, x 54 P, x 55 P, x 56 P, o 29 P, o 30 P, o 31 P, x 57 P, x 58 P, o 32 P, x 59 P, x 60 P, x 61 P, x 62 P, x 63 P, x 64 P, o 33 P, o 34 P, o 35 P, x 65 P, x 66 P, o 36 P, x 67 P, x 68 P, x 69 P, x 70 P, x 71 P, x 72 P, o 37 P, o 38 P, o 39 P, x 73 P, x 74 P, o 40 P, x 75 P, x 76 P, o 41 P, o 42 P, o 43 P, x 77 P, o 44 P, o 45 P, x 78 P, o 46 P, o 47 P, o 48 P, x 79 P, o 49 P, o 50 P, x 80 P, o 51 P, o 52 P, o 53 P, x 81 P, o 54 P, o 55 P, x 82 P, o 56 P, o 57 P, o 58 P, x 83 P, x 84 P, o 59 P, o 60 P, o 61 P, x 85 P, o 62 P, o 63 P, x 86 P, o 64 P, o 65 P, o 66 P, x 87 P, o 67 P, o 68 P, x 88 P, o 69 P, o 70 P, o 71 P, x 89 P, o 72 P, o 73 P, x 90 P, o 74 P, o 75 P, o 76 P, x 91 P, o 77 P, o 78 P, x 92 P, o 79 P, o 80 P, o 81 P, x 93 P, x 94 P, o 82 P, o 83 P, o 84 P, x 95 P, x 96 P, o 85 P, o 86 P, o 87 P, x 97 P, o 88 P, o 89 P, x 98 P, o 90 P, o 91 P, o 92 P, x 99 P, o 93 P, o 94 P, x 100 P, o 95 P, o 96 P, o 97 P, x 101 P, x 102 P, o 98 P, o 99 P, o 100 P, x 103 P, o 101 P, o 102 P, x 104 P, o 103 P, o 104 P]
noncomputable def s3 (P : Params) : BT := ofL 400 [boot_o_0 P, boot_o_1 P, boot_o_2 P, o 1 P, boot_o_4 P, boot_o_5 P, boot_o_6 P, boot_o_7 P, boot_o_8 P, boot_o_9 P, boot_o_10 P, x 0 P, x 105 P, x 2 P, x 3 P, o 2 P, x 6 P, o 3 P, o 4 P, x 7 P, o 5 P, o 6 P, o 7 P, x 8 P, x 9 P, x 10 P, x 11 P, x 12 P, x 13 P, o 8 P, o 9 P, o 10 P, o 11 P, x 15 P, x 16 P, o 12 P, x 17 P, x 18 P, x 19 P, x 20 P, x 21 P, x 22 P, o 13 P, o 14 P, o 15 P, x 23 P, x 24 P, o 16 P, x 25 P, x 26 P, x 27 P, x 28 P, x 29 P, x 30 P, o 17 P, o 18 P, o 19 P, x 31 P, x 32 P, o 20 P, x 33 P, x 34 P, x 35 P, x 36 P, x 37 P, x 38 P, o 21 P, o 22 P, o 23 P, x 39 P, x 40 P, o 24 P, x 41 P, x 42 P, x 43 P, x 44 P, x 45 P, x 46 P, o 25 P, o 26 P, o 27 P, x 47 P, x 48 P, o 28 P, x 51 P, x 52 P, x 53 P, x 54 P, x 55 P, x 56 P, o 29 P, o 30 P, o 31 P, x 57 P, x 58 P, o 32 P, x 59 P, x 60 P, x 61 P, x 62 P, x 63 P, x 64 P, o 33 P, o 34 P, o 35 P, x 65 P, x 66 P, o 36 P, x 67 P, x 68 P, x 69 P, x 70 P, x 71 P, x 72 P, o 37 P, o 38 P, o 39 P, x 73 P, x 74 P, o 40 P, x 75 P, x 76 P, o 41 P, o 42 P, o 43 P, x 77 P, o 44 P, o 45 P, x 78 P, o 46 P, o 47 P, o 48 P, x 79 P, o 49 P, o 50 P, x 80 P, o 51 P, o 52 P, o 53 P, x 81 P, o 54 P, o 55 P, x 82 P, o 56 P, o 57 P, o 58 P, x 83 P, x 84 P, o 59 P, o 60 P, o 61 P, x 85 P, o 62 P, o 63 P, x 86 P, o 64 P, o 65 P, o 66 P, x 87 P, o 67 P, o 68 P, x 88 P, o 69 P, o 70 P, o 71 P, x 89 P, o 72 P, o 73 P, x 90 P, o 74 P, o 75 P, o 76 P, x 91 P, o 77 P, o 78 P, x 92 P, o 79 P, o 80 P, o 81 P, x 93 P, x 94 P, o 82 P, o 83 P, o 84 P, x 95 P, x 96 P, o 85 P, o 86 P, o 87 P, x 97 P, o 88 P, o 89 P, x 98 P, o 90 P, o 91 P, o 92 P, x 99 P, o 93 P, o 94 P, x 100 P, o 95 P, o 96 P, o 97 P, x 101 P, x 102 P, o 98 P, o 99 P, o 100 P, x 103 P, o 101 P, o 102 P, x 104 P, o 103 P, o 104 P, o 105 P, x 106 P, o 106 P, o 107 P, x 107 P, o 108 P, o 109 P, x 108 P, x 109 P, x 110 P, x 111 P, x 112 P, x 113 P, x 114 P, o 110 P, x 115 P, o 111 P, o 112 P, x 116 P, o 113 P, o 114 P, o 115 P, x 117 P, o 116 P, o 117 P, x 118 P, o 118 P, o 119 P, o 120 P, x 119 P, o 121 P, o 122 P, x 120 P, o 123 P, o 124 P, o 125 P, x 121 P, o 126 P, o 127 P, x 122 P, o 128 P, o 129 P, o 130 P, x 123 P, o 131 P, o 132 P, x 124 P, o 133 P, o 134 P, o 135 P, x 125 P, o 136 P, o 137 P, x 126 P, o 138 P, o 139 P, o 140 P, x 127 P, o 141 P, o 142 P, x 128 P, o 143 P, o 144 P, o 145 P, o 146 P, o 147 P, o 148 P, o 149 P, x 129 P, x 130 P, o 150 P, x 131 P, o 151 P, o 152 P, x 132 P, o 153 P, o 154 P, o 155 P, x 133 P, x 134 P, o 156 P, o 157 P, o 158 P, x 135 P, o 159 P, o 160 P, x 136 P, o 161 P, o 162 P, o 163 P, x 137 P, x 138 P, o 164 P, o 165 P, o 166 P, x 139 P, x 140 P, o 167 P, o 168 P, o 169 P, x 141 P, o 170 P, o 171 P, x 142 P, o 172 P, o 173 P, o 174 P, x 143 P, o 175 P, o 176 P, x 144 P, o 177 P, o 178 P, o 179 P, x 145 P, x 146 P, o 180 P, o 181 P, o 182 P, x 147 P, o 183 P, o 184 P, x 148 P, o 185 P, o 186 P, o 187 P, x 149 P, x 150 P, o 188 P, o 189 P, o 190 P, x 151 P, o 191 P, o 192 P, x 152 P, o 193 P, o 194 P, o 195 P, x 153 P, x 154 P, o 196 P, o 197 P]
noncomputable def last (P : Params) : Heap := ⟨⟨[boot_o_0 P, boot_o_1 P, boot_o_2 P, o 1 P, boot_o_4 P, boot_o_5 P, boot_o_6 P, boot_o_7 P, boot_o_8 P, boot_o_9 P, boot_o_10 P, x 0 P, x 105 P, x 2 P, x 3 P, o 2 P, x 6 P, o 3 P, o 4 P, x 7 P, o 5 P, o 6 P, o 7 P, x 8 P, x 9 P, x 10 P, x 11 P, x 12 P, x 13 P, o 8 P, o 9 P, o 10 P, o 11 P, x 15 P, x 16 P, o 12 P, x 17 P, x 18 P, x 19 P, x 20 P, x 21 P, x 22 P, o 13 P, o 14 P, o 15 P, x 23 P, x 24 P, o 16 P, x 25 P, x 26 P, x 27 P, x 28 P, x 29 P, x 30 P, o 17 P, o 18 P, o 19 P, x 31 P, x 32 P, o 20 P, x 33 P, x 34 P, x 35 P, x 36 P, x 37 P, x 38 P, o 21 P, o 22 P, o 23 P, x 39 P, x 40 P, o 24 P, x 41 P, x 42 P, x 43 P, x 44 P, x 45 P, x 46 P, o 25 P, o 26 P, o 27 P, x 47 P, x 48 P, o 28 P, x 51 P, x 52 P, x 53 P, x 54 P, x 55 P, x 56 P, o 29 P, o 30 P, o 31 P, x 57 P, x 58 P, o 32 P, x 59 P, x 60 P, x 61 P, x 62 P, x 63 P, x 64 P, o 33 P, o 34 P, o 35 P, x 65 P, x 66 P, o 36 P, x 67 P, x 68 P, x 69 P, x 70 P, x 71 P, x 72 P, o 37 P, o 38 P, o 39 P, x 73 P, x 74 P, o 40 P, x 75 P, x 76 P, o 41 P, o 42 P, o 43 P, x 77 P, o 44 P, o 45 P, x 78 P, o 46 P, o 47 P, o 48 P, x 79 P, o 49 P, o 50 P, x 80 P, o 51 P, o 52 P, o 53 P, x 81 P, o 54 P, o 55 P, x 82 P, o 56 P, o 57 P, o 58 P, x 83 P, x 84 P, o 59 P, o 60 P, o 61 P, x 85 P, o 62 P, o 63 P, x 86 P, o 64 P, o 65 P, o 66 P, x 87 P, o 67 P, o 68 P, x 88 P, o 69 P, o 70 P, o 71 P, x 89 P, o 72 P, o 73 P, x 90 P, o 74 P, o 75 P, o 76 P, x 91 P, o 77 P, o 78 P, x 92 P, o 79 P, o 80 P, o 81 P, x 93 P, x 94 P, o 82 P, o 83 P, o 84 P, x 95 P, x 96 P, o 85 P, o 86 P, o 87 P, x 97 P, o 88 P, o 89 P, x 98 P, o 90 P, o 91 P, o 92 P, x 99 P, o 93 P, o 94 P, x 100 P, o 95 P, o 96 P, o 97 P, x 101 P, x 102 P, o 98 P, o 99 P, o 100 P, x 103 P, o 101 P, o 102 P, x 104 P, o 103 P, o 104 P, o 105 P, x 106 P, o 106 P, o 107 P, x 107 P, o 108 P, o 109 P, x 108 P, x 109 P, x 110 P, x 111 P, x 112 P, x 113 P, x 114 P, o 110 P, x 115 P, o 111 P, o 112 P, x 116 P, o 113 P, o 114 P, o 115 P, x 117 P, o 116 P, o 117 P, x 118 P, o 118 P, o 119 P, o 120 P, x 119 P, o 121 P, o 122 P, x 120 P, o 123 P, o 124 P, o 125 P, x 121 P, o 126 P, o 127 P, x 122 P, o 128 P, o 129 P, o 130 P, x 123 P, o 131 P, o 132 P, x 124 P, o 133 P, o 134 P, o 135 P, x 125 P, o 136 P, o 137 P, x 126 P, o 138 P, o 139 P, o 140 P, x 127 P, o 141 P, o 142 P, x 128 P, o 143 P, o 144 P, o 145 P, o 146 P, o 147 P, o 148 P, o 149 P, x 129 P, x 130 P, o 150 P, x 131 P, o 151 P, o 152 P, x 132 P, o 153 P, o 154 P, o 155 P, x 133 P, x 134 P, o 156 P, o 157 P, o 158 P, x 135 P, o 159 P, o 160 P, x 136 P, o 161 P, o 162 P, o 163 P, x 137 P, x 138 P, o 164 P, o 165 P, o 166 P, x 139 P, x 140 P, o 167 P, o 168 P, o 169 P, x 141 P, o 170 P, o 171 P, x 142 P, o 172 P, o 173 P, o 174 P, x 143 P, o 175 P, o 176 P, x 144 P, o 177 P, o 178 P, o 179 P, x 145 P, x 146 P, o 180 P, o 181 P, o 182 P, x 147 P, o 183 P, o 184 P, x 148 P, o 185 P, o 186 P, o 187 P, x 149 P, x 150 P, o 188 P, o 189 P, o 190 P, x 151 P, o 191 P, o 192 P, x 152 P, o 193 P, o 194 P, o 195 P, x 153 P, x 154 P, o 196 P, o 197 P]⟩, life⟩
noncomputable def env : Env := { scope := PySem.Challenge.pw_uf010025_10.main.scope, locals := mainNs, globals := mainNs, cells := [], code := Value.ref 13, frame := some 14 }
noncomputable def sts1 : List Stmt := ((behindTheImports PySem.Challenge.pw_uf010025_10).drop 0).take 7
noncomputable def sts2 : List Stmt := ((behindTheImports PySem.Challenge.pw_uf010025_10).drop 7).take 29
noncomputable def sts3 : List Stmt := ((behindTheImports PySem.Challenge.pw_uf010025_10).drop 36).take 16
noncomputable def code : Code := .body (sts1 ++ (sts2 ++ (sts3 ++ ([])))) env
noncomputable def fr : List Frame := [topFrame { line := 0, col := 0, endLine := 0, endCol := 0 }]
theorem pre (w : World) (os : OsState) : topGo treeTable PySem.Challenge.pw_uf010025_10 w 11 (some (Value.ref 6)) 12 ⟨boot_heap w.params, ⟨[]⟩, boot_drawn, boot_toks, os⟩ (topStub PySem.Challenge.pw_uf010025_10) = some (SharedT.abs ⟨sa w.params, 15, life, ⟨[]⟩, drawn, 187, os⟩, ⟨denote treeTable code, code, ({ line := 0, col := 0, endLine := 0, endCol := 0 }), fr⟩) := by kernel_rfl
theorem block (w : World) (os : OsState) : segRunT treeTable PySem.Challenge.pw_uf010025_10 w 11 (some (Value.ref 6)) 1 1 ⟨sa w.params, 15, life, ⟨[]⟩, drawn, 187, os⟩ (blockOf (sts1 ++ (sts2 ++ (sts3 ++ ([])))) env code ({ line := 0, col := 0, endLine := 0, endCol := 0 }) fr) = some (.next, ⟨sb w.params, 15, life, ⟨[]⟩, drawn, 187, os⟩, code, ({ line := 0, col := 0, endLine := 0, endCol := 0 })) := by kernel_rfl
theorem seg1 (w : World) (os : OsState) : segRunT treeTable PySem.Challenge.pw_uf010025_10 w 11 (some (Value.ref 6)) 1 1077 ⟨sb w.params, 15, life, ⟨[]⟩, drawn, 187, os⟩ (piecesOf sts1 env code ({ line := 0, col := 0, endLine := 0, endCol := 0 }) fr) = some (.next, ⟨s1 w.params, 83, life, ⟨[]⟩, drawn, 278, os⟩, code, ({ line := 13, col := 0, endLine := 14, endCol := 8 })) := by kernel_rfl
theorem seg2 (w : World) (os : OsState) : segRunT treeTable PySem.Challenge.pw_uf010025_10 w 11 (some (Value.ref 6)) 1 1193 ⟨s1 w.params, 83, life, ⟨[]⟩, drawn, 278, os⟩ (piecesOf sts2 env code ({ line := 13, col := 0, endLine := 14, endCol := 8 }) fr) = some (.next, ⟨s2 w.params, 214, life, ⟨[]⟩, drawn, 482, os⟩, code, ({ line := 132, col := 0, endLine := 132, endCol := 10 })) := by kernel_rfl
theorem seg3 (w : World) (os : OsState) : segRunT treeTable PySem.Challenge.pw_uf010025_10 w 11 (some (Value.ref 6)) 1 827 ⟨s2 w.params, 214, life, ⟨[]⟩, drawn, 482, os⟩ (piecesOf sts3 env code ({ line := 132, col := 0, endLine := 132, endCol := 10 }) fr) = some (.next, ⟨s3 w.params, 356, life, ⟨[]⟩, drawn, 683, os⟩, code, ({ line := 293, col := 0, endLine := 306, endCol := 135 })) := by kernel_rfl
theorem fin (w : World) (os : OsState) : topRun treeTable PySem.Challenge.pw_uf010025_10 w 11 (some (Value.ref 6)) 2 (SharedT.abs ⟨s3 w.params, 356, life, ⟨[]⟩, drawn, 683, os⟩) (restOf [] env code ({ line := 293, col := 0, endLine := 306, endCol := 135 }) fr) = some ⟨last w.params, ⟨[]⟩, drawn, 683, os⟩ := by kernel_rfl
theorem run (w : World) (os : OsState) : topRun treeTable PySem.Challenge.pw_uf010025_10 w 11 (some (Value.ref 6)) (12 + (1 + (1077 + (1193 + (827 + (2)))))) ⟨boot_heap w.params, ⟨[]⟩, boot_drawn, boot_toks, os⟩ (topStub PySem.Challenge.pw_uf010025_10) = some ⟨last w.params, ⟨[]⟩, drawn, 683, os⟩ :=
  go_top (pre w os) (piece_block (segRun_of (block w os)) (piece_app (segRun_of (seg1 w os)) (piece_app (segRun_of (seg2 w os)) (piece_app (segRun_of (seg3 w os)) (fin w os)))))
theorem le : Nat.ble (12 + (1 + (1077 + (1193 + (827 + (2)))))) 9000 = true := by kernel_rfl
theorem op : opening PySem.Challenge.pw_uf010025_10 = plainProg PySem.Challenge.pw_uf010025_10.main.scope.names := by kernel_rfl
theorem fence (s : Shared) : fenceModules? PySem.Challenge.pw_uf010025_10 s = some s := by kernel_rfl
theorem size (w : World) : ((boot_heap w.params).isNs mainGlobals && (Array.mk ([] : List GenState)).size == 0, (boot_heap w.params).objs.size, (boot_heap w.params).nsMap mainGlobals "__annotations__") = (true, 11, some (Value.ref 6)) := by kernel_rfl
noncomputable def q10 : Program := view PySem.Challenge.pw_uf010025_10 [0, 2, 3, 4, 5, 6, 7, 8, 9, 11, 12, 13, 14, 15, 16, 17, 19, 20, 21, 23, 24, 25, 26, 28, 29, 30, 31, 32, 34, 35, 36, 37, 38, 40, 41, 42, 43, 44, 45, 46, 47, 48, 49, 50, 51]
theorem look1 (w : World) (os : OsState) : (staticsOk (importedModules PySem.Challenge.pw_uf010025_10.main.body) (boot_heap w.params) (last w.params) && namesBound PySem.Challenge.pw_uf010025_10 (last w.params) && gensDone ⟨last w.params, ⟨[]⟩, drawn, 683, os⟩ && laidKept (boot_heap w.params) (last w.params)) = true := by kernel_rfl
theorem look2 (w : World) (os : OsState) : openSeen q10 [] (importedModules PySem.Challenge.pw_uf010025_10.main.body) (fun s => xlAt q10 [] s && recOk (RowW.records (OpenRow.toRowW (OpenLaw.row PySem.Challenge.rw_uf010025_10))) s) true ⟨last w.params, ⟨[]⟩, drawn, 683, os⟩ = openGood q10 [] := by kernel_rfl
end Tp
local macro_rules
  | `(tactic| o_law) => `(tactic| refine holds_law (by decide +kernel) fun said => ?_)
local macro_rules
  | `(tactic| o_head $H:term) => do
    let hw := Lean.mkIdent `hw
    let hc := Lean.mkIdent `hc
    `(tactic| (refine holds_open (q := Tp.q10) (loose := []) (Xt := fun s => xlAt Tp.q10 [] s && recOk (RowW.records (OpenRow.toRowW (OpenLaw.row PySem.Challenge.rw_uf010025_10))) s) (XP := XL Tp.q10 []) (Yf := Hook.obs $H) (Ya := Hook.val $H) (YP := Hook.says $H) (N := 9000) ?hl (Hook.of $H) (Hook.keeps $H) (fun s e => xl_of s (Bool.and_eq_true_iff.mp e).1) XL.keeps (by rfl) (by rfl) (by rfl) (fun s e => recFacts_of (Bool.and_eq_true_iff.mp e).2) (by rfl) (by first | assumption | decide +kernel) (by decide +kernel) ⟨rfl, rfl, rfl, rfl, rfl, by decide +kernel⟩ ?$hw ?$hc
               (case hl => exact LeftO.of_pieces (p := PySem.Challenge.pw_uf010025_10) (boot_open Tp.op rfl Tp.fence) Tp.size Tp.run Tp.le (fun w => funext fun os => looks_pair (Tp.look1 w os) (looks_pair (Tp.look2 w os) (by kernel_rfl))))))
open_top hd10 for PySem.Challenge.rw_uf010025_10
end
end Mine
set_option autoImplicit false
set_option linter.unusedVariables false
namespace Mine
open PySem

set_option genSizeOf false in
inductive V where
  | none
  | bool (b : Bool)
  | int (i : Int)
  | str (x : Str)
  | tup (vs : List V)
  | lst (vs : List V)
  | dct (es : List (V × V))
  | rng (lo hi st : Int)
  | slc (l u s : V)
  | ref (a : Addr)
  | type (n : String)
  | bi (n : String)

set_option genSizeOf false in
inductive AO where
  | list (vs : List V)
  | dict (es : List (V × V))
  | inst (c dx : Addr) (fs : List (Str × V))

noncomputable abbrev Gh := Addr → Option Obj
noncomputable abbrev Sto := List (Addr × Obj × AO)
noncomputable abbrev Loc := List (Option V)

noncomputable abbrev tupO (vs : Array Value) (n : Nat) : Obj := { cls := .type "tuple", data := .seq vs n }
noncomputable abbrev lstO (vs : Array Value) (n : Nat) : Obj := { cls := .type "list", data := .seq vs n }
noncomputable abbrev dctO (es : Array DictEntry) (n : Nat) : Obj := { cls := .type "dict", data := .dict es n }
noncomputable abbrev instO (c dx : Addr) : Obj := { cls := .ref c, dict := some dx }

noncomputable def KH (w : World) : V → Int → Prop
  | .int i, h => h = hashInt i
  | .str x, h => h = hashStr w x
  | _, _ => False

mutual
inductive VR (w : World) (D : Gh) : Value → V → Prop
  | none : VR w D .none .none
  | bool (b : Bool) : VR w D (.bool b) (.bool b)
  | int (i : Int) (t : Tok) : VR w D (.int i t) (.int i)
  | str (x : Str) (t : Tok) : VR w D (.str x t) (.str x)
  | ref (a : Addr) : VR w D (.ref a) (.ref a)
  | type (n : String) : VR w D (.type n) (.type n)
  | bi (n : String) : VR w D (.builtin n) (.bi n)
  | tup {a : Addr} {o : Obj} {vs : List Value} {n : Nat} {Vs : List V} : D a = some o → o.cls = .type "tuple" → o.data = .seq vs.toArray n → VRs w D vs Vs → VR w D (.ref a) (.tup Vs)
  | lst {a : Addr} {vs : List Value} {n : Nat} {Vs : List V} : D a = some (lstO vs.toArray n) → VRs w D vs Vs → VR w D (.ref a) (.lst Vs)
  | rng {a : Addr} {x y z : Int} {t u v : Tok} : D a = some { cls := .type "range", dict := none, data := .fields #[.int x t, .int y u, .int z v], slots := #[] } → VR w D (.ref a) (.rng x y z)
  | slc {a : Addr} {l u st : Value} {L U S : V} : D a = some { cls := .type "slice", data := .fields #[l, u, st] } → VR w D l L → VR w D u U → VR w D st S → VR w D (.ref a) (.slc L U S)
  | dct {a : Addr} {es : List DictEntry} {n : Nat} {Es : List (V × V)} : D a = some (dctO es.toArray n) → VRd w D es Es → VR w D (.ref a) (.dct Es)
inductive VRs (w : World) (D : Gh) : List Value → List V → Prop
  | nil : VRs w D [] []
  | cons {v : Value} {x : V} {vs : List Value} {xs : List V} : VR w D v x → VRs w D vs xs → VRs w D (v :: vs) (x :: xs)
inductive VRd (w : World) (D : Gh) : List DictEntry → List (V × V) → Prop
  | nil : VRd w D [] []
  | cons {e : DictEntry} {k x : V} {es : List DictEntry} {xs : List (V × V)} : KH w k e.hash → VR w D e.key k → VR w D e.val x → VRd w D es xs → VRd w D (e :: es) ((k, x) :: xs)
end

theorem VR.noneI {w : World} {D : Gh} {v : Value} (h : VR w D v .none) : v = .none := by cases h; rfl
theorem VR.boolI {w : World} {D : Gh} {v : Value} {b : Bool} (h : VR w D v (.bool b)) : v = .bool b := by cases h; rfl
theorem VR.biI {w : World} {D : Gh} {v : Value} {n : String} (h : VR w D v (.bi n)) : v = .builtin n := by cases h; rfl
theorem VR.typeI {w : World} {D : Gh} {v : Value} {n : String} (h : VR w D v (.type n)) : v = .type n := by cases h; rfl
theorem VR.refI {w : World} {D : Gh} {v : Value} {a : Addr} (h : VR w D v (.ref a)) : v = .ref a := by cases h; rfl
theorem VR.intI {w : World} {D : Gh} {v : Value} {n : Int} (h : VR w D v (.int n)) : ∃ t, v = .int n t := by cases h; exact ⟨_, rfl⟩
theorem VR.strI {w : World} {D : Gh} {v : Value} {n : Str} (h : VR w D v (.str n)) : ∃ t, v = .str n t := by cases h; exact ⟨_, rfl⟩
theorem VRs.nilI {w : World} {D : Gh} {vs : List Value} (h : VRs w D vs []) : vs = [] := by cases h; rfl
theorem VRs.consI {w : World} {D : Gh} {vs : List Value} {X : V} {xs : List V} (h : VRs w D vs (X :: xs)) : ∃ y r, vs = y :: r ∧ VR w D y X ∧ VRs w D r xs := by
  cases h with
  | cons h1 h2 => exact ⟨_, _, rfl, h1, h2⟩
theorem VR.tupI {w : World} {D : Gh} {v : Value} {xs : List V} (h : VR w D v (.tup xs)) : ∃ a o vs n, v = .ref a ∧ D a = some o ∧ o.cls = .type "tuple" ∧ o.data = .seq (List.toArray vs) n ∧ VRs w D vs xs := by
  cases h with
  | tup e c q r => exact ⟨_, _, _, _, rfl, e, c, q, r⟩
theorem VR.lstI {w : World} {D : Gh} {v : Value} {xs : List V} (h : VR w D v (.lst xs)) : ∃ a vs n, v = .ref a ∧ D a = some (lstO (List.toArray vs) n) ∧ VRs w D vs xs := by
  cases h with
  | lst e r => exact ⟨_, _, _, rfl, e, r⟩
theorem VRd.nilI {w : World} {D : Gh} {es : List DictEntry} (h : VRd w D es []) : es = [] := by cases h; rfl
theorem VRd.consI {w : World} {D : Gh} {es : List DictEntry} {p : V × V} {xs : List (V × V)} (h : VRd w D es (p :: xs)) : ∃ e r, es = e :: r ∧ KH w p.1 e.hash ∧ VR w D e.key p.1 ∧ VR w D e.val p.2 ∧ VRd w D r xs := by
  cases h with
  | cons h1 h2 h3 h4 => exact ⟨_, _, rfl, h1, h2, h3, h4⟩
theorem VR.dctI {w : World} {D : Gh} {v : Value} {xs : List (V × V)} (h : VR w D v (.dct xs)) : ∃ a es n, v = .ref a ∧ D a = some (dctO (List.toArray es) n) ∧ VRd w D es xs := by
  cases h with
  | dct e r => exact ⟨_, _, _, rfl, e, r⟩
theorem VR.rngI {w : World} {D : Gh} {v : Value} {x y z : Int} (h : VR w D v (.rng x y z)) : ∃ a t u r, v = .ref a ∧ D a = some { cls := .type "range", dict := Option.none, data := .fields #[.int x t, .int y u, .int z r], slots := #[] } := by
  cases h with
  | rng e => exact ⟨_, _, _, _, rfl, e⟩
theorem VR.slcI {w : World} {D : Gh} {v : Value} {L U S : V} (h : VR w D v (.slc L U S)) : ∃ a l u st, v = .ref a ∧ D a = some { cls := .type "slice", data := .fields #[l, u, st] } ∧ VR w D l L ∧ VR w D u U ∧ VR w D st S := by
  cases h with
  | slc e a b c => exact ⟨_, _, _, _, rfl, e, a, b, c⟩
noncomputable def Sub (D D' : Gh) : Prop := ∀ a o, D a = some o → D' a = some o
theorem Sub.refl (D : Gh) : Sub D D := fun _ _ e => e
theorem Sub.trans {D D' D'' : Gh} (h : Sub D D') (h' : Sub D' D'') : Sub D D'' := fun a o e => h' a o (h a o e)

section
variable {w : World} {D D' : Gh}
theorem VR.mono (h : Sub D D') {v : Value} {x : V} (r : VR w D v x) : VR w D' v x :=
  VR.rec (motive_1 := fun v x _ => VR w D' v x) (motive_2 := fun v x _ => VRs w D' v x) (motive_3 := fun v x _ => VRd w D' v x)
    .none .bool .int .str .ref .type .bi (fun e c q _ ih => .tup (h _ _ e) c q ih) (fun e _ ih => .lst (h _ _ e) ih) (fun e => .rng (h _ _ e)) (fun e _ _ _ a b c => .slc (h _ _ e) a b c) (fun e _ ih => .dct (h _ _ e) ih)
    .nil (fun _ _ a b => .cons a b) .nil (fun k _ _ _ a b c => .cons k a b c) r
theorem VRs.mono (h : Sub D D') : ∀ {x : List V} {v : List Value}, VRs w D v x → VRs w D' v x := fun {x} => by
  induction x with
  | nil => intro v r; rw [VRs.nilI r]; exact .nil
  | cons X xs ih => intro v r; obtain ⟨_, _, rfl, a, b⟩ := VRs.consI r; exact .cons (a.mono h) (ih b)
theorem VRd.mono (h : Sub D D') {v : List DictEntry} {x : List (V × V)} (r : VRd w D v x) : VRd w D' v x :=
  VRd.rec (motive_1 := fun v x _ => VR w D' v x) (motive_2 := fun v x _ => VRs w D' v x) (motive_3 := fun v x _ => VRd w D' v x)
    .none .bool .int .str .ref .type .bi (fun e c q _ ih => .tup (h _ _ e) c q ih) (fun e _ ih => .lst (h _ _ e) ih) (fun e => .rng (h _ _ e)) (fun e _ _ _ a b c => .slc (h _ _ e) a b c) (fun e _ ih => .dct (h _ _ e) ih)
    .nil (fun _ _ a b => .cons a b) .nil (fun k _ _ _ a b c => .cons k a b c) r
theorem VRs.length : ∀ {x : List V} {v : List Value}, VRs w D v x → v.length = x.length := fun {x} => by
  induction x with
  | nil => intro v r; rw [VRs.nilI r]; rfl
  | cons X xs ih => intro v r; obtain ⟨_, _, rfl, a, b⟩ := VRs.consI r; exact congrArg (· + 1) (ih b)
theorem VRs.append {v v' : List Value} {x x' : List V} (r : VRs w D v x) (h' : VRs w D v' x') : VRs w D (v ++ v') (x ++ x') := by
  induction x generalizing v with
  | nil => rw [VRs.nilI r]; exact h'
  | cons X xs ih => obtain ⟨_, _, rfl, a, b⟩ := VRs.consI r; exact .cons a (ih b)
theorem VRs.get : ∀ {x : List V} {v : List Value}, VRs w D v x → ∀ {i : Nat} {X : V}, x[i]? = some X → ∃ u, v[i]? = some u ∧ VR w D u X := fun {x} => by
  induction x with
  | nil => intro v r i X h; cases h
  | cons Y xs ih =>
    intro v r i X h
    obtain ⟨u, _, rfl, a, b⟩ := VRs.consI r
    cases i with
    | zero => cases h; exact ⟨u, rfl, a⟩
    | succ i => exact ih b h
theorem VRs.get' : ∀ {x : List V} {v : List Value}, VRs w D v x → ∀ {i : Nat} {u : Value}, v[i]? = some u → ∃ X, x[i]? = some X ∧ VR w D u X := fun {x} => by
  induction x with
  | nil => intro v r i u h; rw [VRs.nilI r] at h; cases h
  | cons Y xs ih =>
    intro v r i u h
    obtain ⟨_, _, rfl, a, b⟩ := VRs.consI r
    cases i with
    | zero => cases h; exact ⟨Y, rfl, a⟩
    | succ i => exact ih b h
end

noncomputable def footO (a : Addr) : AO → List Addr
  | .inst _ dx _ => [a, dx]
  | _ => [a]
noncomputable def foot : Sto → List Addr
  | [] => []
  | (a, _, o) :: r => footO a o ++ foot r

theorem mem_foot {σ : Sto} {a : Addr} {ob : Obj} {o : AO} (h : (a, ob, o) ∈ σ) : ∀ b ∈ footO a o, b ∈ foot σ := by
  induction σ with
  | nil => cases h
  | cons p r ih =>
    intro b hb
    obtain ⟨c, q, z⟩ := p
    rcases List.mem_cons.mp h with e | h
    · cases e; exact List.mem_append_left _ hb
    · exact List.mem_append_right _ (ih h b hb)
theorem self_footO (a : Addr) (o : AO) : a ∈ footO a o := by cases o <;> simp [footO]
theorem self_foot {σ : Sto} {a : Addr} {ob : Obj} {o : AO} (h : (a, ob, o) ∈ σ) : a ∈ foot σ := mem_foot h a (self_footO a o)

noncomputable def FR (w : World) (D : Gh) : List DictEntry → List (Str × V) → Prop
  | [], [] => True
  | e :: es, (n, x) :: fs => (∃ t, e.key = .str n t) ∧ e.hash = hashStr w n ∧ VR w D e.val x ∧ FR w D es fs
  | _, _ => False
theorem FR.mono {w : World} {D D' : Gh} (h : Sub D D') : ∀ {es : List DictEntry} {fs : List (Str × V)}, FR w D es fs → FR w D' es fs
  | [], [], _ => trivial
  | e :: es, (n, x) :: fs, ⟨a, b, c, d⟩ => ⟨a, b, VR.mono h c, FR.mono h d⟩
  | [], _ :: _, h => h.elim
  | _ :: _, [], h => h.elim

noncomputable def HR (w : World) (D : Gh) (o : Obj) : AO → Prop
  | .list xs => ∃ vs n, o = lstO vs n ∧ VRs w D vs.toList xs
  | .dict xs => ∃ es n, o = dctO es n ∧ VRd w D es.toList xs
  | .inst _ _ fs => ∃ es n, o = dctO es n ∧ FR w D es.toList fs
theorem HR.mono {w : World} {D D' : Gh} {o : Obj} (hs : Sub D D') : ∀ {x : AO}, HR w D o x → HR w D' o x
  | .list _, ⟨vs, n, e, r⟩ => ⟨vs, n, e, r.mono hs⟩
  | .dict _, ⟨vs, n, e, r⟩ => ⟨vs, n, e, r.mono hs⟩
  | .inst _ _ _, ⟨vs, n, e, r⟩ => ⟨vs, n, e, FR.mono hs r⟩
noncomputable def PR (h : Heap) (a : Addr) (o : Obj) : AO → Prop
  | .inst c dx _ => h.get? a = some (instO c dx) ∧ h.get? dx = some o
  | _ => h.get? a = some o
theorem PR.at {h h' : Heap} {a : Addr} {o : Obj} : ∀ {x : AO}, (∀ b ∈ footO a x, ∀ ob, h.get? b = some ob → h'.get? b = some ob) → PR h a o x → PR h' a o x
  | .list _, k, e => k a (by simp [footO]) _ e
  | .dict _, k, e => k a (by simp [footO]) _ e
  | .inst _ _ _, k, ⟨e, e'⟩ => ⟨k _ (by simp [footO]) _ e, k _ (by simp [footO]) _ e'⟩
theorem PR.lives {h : Heap} {a : Addr} {o : Obj} : ∀ {x : AO}, PR h a o x → ∀ b ∈ footO a x, ∃ ob, h.get? b = some ob
  | .list _, e, b, hb => by simp [footO] at hb; subst hb; exact ⟨_, e⟩
  | .dict _, e, b, hb => by simp [footO] at hb; subst hb; exact ⟨_, e⟩
  | .inst _ _ _, ⟨e, e'⟩, b, hb => by
    simp [footO] at hb
    rcases hb with rfl | rfl
    · exact ⟨_, e⟩
    · exact ⟨_, e'⟩

set_option genInjectivity false in
structure Cx where
  prog : Program
  w : World
  base : Heap
  s₀ : Shared
  mg : Str → Option Value
  mb : Str → Option Value
  hg : base.Ns mainGlobals mg
  hb : base.Ns builtinsNs mb
  lim : base.NoLimit

noncomputable abbrev Cx.M (C : Cx) : Model := model C.prog C.w

structure RelC (C : Cx) (G D : Gh) (σ : Sto) (s : Shared) : Prop where
  same : ∃ h tk, s = { C.s₀ with heap := h, toks := tk }
  g : ∀ a o, G a = some o → s.heap.get? a = some o
  d : ∀ a o, D a = some o → s.heap.get? a = some o
  base : ∀ a o, C.base.get? a = some o → G a = some o
  nd : (foot σ).Nodup
  offG : ∀ a ∈ foot σ, G a = none
  offD : ∀ a ∈ foot σ, D a = none
  pl : ∀ p ∈ σ, PR s.heap p.1 p.2.1 p.2.2
  sto : ∀ p ∈ σ, HR C.w D p.2.1 p.2.2

structure DX (G D D' : Gh) : Prop where
  sub : Sub D D'
  off : ∀ a, D a = none → G a ≠ none → D' a = none
theorem DX.refl (G D : Gh) : DX G D D := ⟨Sub.refl D, fun _ h _ => h⟩
theorem DX.trans {G D D' D'' : Gh} (h : DX G D D') (h' : DX G D' D'') : DX G D D'' := ⟨h.sub.trans h'.sub, fun a e g => h'.off a (h.off a e g) g⟩
theorem DX.less {G G' D D' : Gh} (h : DX G' D D') (hg : ∀ a, G a ≠ none → G' a ≠ none) : DX G D D' := ⟨h.sub, fun a e g => h.off a e (hg a g)⟩

structure AOk (A : Around) (d : Nat) : Prop where
  h : A.handled = none
  depth : A.depth + d < 1000
  units : A.units + 8 * d < 9000

inductive PostC (C : Cx) (G D : Gh) (Q : V → Sto → Prop) (v : Value) (s' : Shared) : Prop
  | mk (x : V) (D' : Gh) (σ' : Sto) : DX G D D' → VR C.w D' v x → RelC C G D' σ' s' → Q x σ' → PostC C G D Q v s'
noncomputable def CW (C : Cx) (d : Nat) (f : Value) (xs : List V) (σ : Sto) (Q : V → Sto → Prop) : Prop :=
  ∀ A G D s vs, AOk A d → RelC C G D σ s → VRs C.w D vs xs →
    codeAny C.M A (.call f ⟨vs, []⟩) (fun r s' => match r with | .ok (.ret v) => PostC C G D Q v s' | _ => False) s

noncomputable def GlobR (C : Cx) (x : Str) (X : V) : Prop := ∃ v, VR C.w (fun _ => .none) v X ∧ (C.mg x = some v ∨ (C.mg x = .none ∧ C.mb x = some v))

structure FmOk (C : Cx) (env : Env) (vars : List Str) (gl : List (Str × V)) (own : Bool) : Prop where
  fn : env.scope.kind = .function
  nd : vars.Nodup
  vk : ∀ x ∈ vars, (x == ("__debug__" : Str)) = false ∧ (env.kindOf x = some .local ∨ (env.kindOf x = some .cell ∧ ∃ c, env.cells.lookup x = some c))
  ap : env.cells.Pairwise fun x y => x.2 ≠ y.2
  gk : ∀ p ∈ gl, (p.1 == ("__debug__" : Str)) = false ∧ env.kindOf p.1 = some .globalImplicit ∧ GlobR C p.1 p.2
  gg : env.globals = mainGlobals
  gb : env.builtins = builtinsNs

structure RelF (C : Cx) (env : Env) (vars : List Str) (gl : List (Str × V)) (own : Bool) (G D : Gh) (m : Loc) (σ : Sto) (s : Shared) : Prop extends RelC C G D σ s where
  ok : FmOk C env vars gl own
  offL : G env.locals = none ∧ D env.locals = none ∧ env.locals ∉ foot σ
  ns : ∃ mm, s.heap.Ns env.locals mm ∧ ∀ (i : Nat) x X, vars[i]? = some x → env.kindOf x = some .local → m[i]? = some (some X) → ∃ v, mm x = some v ∧ VR C.w D v X
  cl : ∀ (i : Nat) x c, vars[i]? = some x → env.kindOf x = some .cell → env.cells.lookup x = some c →
    c ≠ env.locals ∧ (∃ ov, s.heap.IsCell c ov ∧ ∀ X, m[i]? = some (some X) → ∃ v, ov = some v ∧ VR C.w D v X) ∧
    (if own then G c = none ∧ D c = none ∧ c ∉ foot σ else ∃ o, G c = some o)

noncomputable def Held (env : Env) (vars : List Str) (a : Addr) : Prop := a = env.locals ∨ ∃ (i : Nat) (x : Str), vars[i]? = some x ∧ env.kindOf x = some .cell ∧ env.cells.lookup x = some a
open Classical in
noncomputable def lift (env : Env) (vars : List Str) (G : Gh) (s : Shared) : Gh := fun a => if Held env vars a then s.heap.get? a else G a

section
variable {C : Cx} {env : Env} {vars : List Str} {gl : List (Str × V)} {own : Bool} {G D D' : Gh} {m : Loc} {σ σ' : Sto} {s s' : Shared}

theorem lift_mine {a : Addr} (h : Held env vars a) : lift env vars G s a = s.heap.get? a := by unfold lift; rw [if_pos h]
theorem lift_not {a : Addr} (h : ¬ Held env vars a) : lift env vars G s a = G a := by unfold lift; rw [if_neg h]

theorem RelF.over (R : RelF C env vars gl own G D m σ s) {a : Addr} {o : Obj} (h : G a = some o) : lift env vars G s a = some o := by
  by_cases hm : Held env vars a
  · rw [lift_mine hm]; exact R.g a o h
  · rw [lift_not hm]; exact h

theorem RelF.mineFoot (R : RelF C env vars gl own G D m σ s) {a : Addr} (h : Held env vars a) : a ∉ foot σ := by
  rcases h with rfl | ⟨i, x, h1, h2, h3⟩
  · exact R.offL.2.2
  · have := (R.cl i x a h1 h2 h3).2.2
    cases own with
    | true => exact this.2.2
    | false =>
      obtain ⟨o, ho⟩ := this
      intro hf
      rw [R.offG a hf] at ho; cases ho
theorem RelF.mineLives (R : RelF C env vars gl own G D m σ s) {a : Addr} (h : Held env vars a) : ∃ o, s.heap.get? a = some o := by
  rcases h with rfl | ⟨i, x, h1, h2, h3⟩
  · obtain ⟨mm, ⟨o, _, _, ho, _⟩, _⟩ := R.ns; exact ⟨o, ho⟩
  · obtain ⟨_, ⟨ov, ⟨o, ho, _⟩, _⟩, _⟩ := R.cl i x a h1 h2 h3; exact ⟨o, ho⟩

theorem RelF.lifted (R : RelF C env vars gl own G D m σ s) : RelC C (lift env vars G s) D σ s where
  same := R.same
  g := fun a o h => by
    by_cases hm : Held env vars a
    · rw [lift_mine hm] at h; exact h
    · rw [lift_not hm] at h; exact R.g a o h
  d := R.d
  base := fun a o h => R.over (R.base a o h)
  nd := R.nd
  offG := fun a h => by
    by_cases hm : Held env vars a
    · exact absurd h (R.mineFoot hm)
    · rw [lift_not hm]; exact R.offG a h
  offD := R.offD
  pl := R.pl
  sto := R.sto

theorem RelF.dx (R : RelF C env vars gl own G D m σ s) (h : DX (lift env vars G s) D D') : DX G D D' :=
  h.less fun a g => by
    cases e : G a with
    | none => exact absurd e g
    | some o => rw [R.over e]; exact nofun

theorem RelF.mineD (R : RelF C env vars gl own G D m σ s) (h : DX (lift env vars G s) D D') {a : Addr} (hm : Held env vars a) (hd : D a = none) : D' a = none :=
  h.off a hd (by rw [lift_mine hm]; obtain ⟨o, ho⟩ := R.mineLives hm; rw [ho]; exact nofun)

theorem RelF.back (R : RelF C env vars gl own G D m σ s) (R' : RelC C (lift env vars G s) D' σ' s') (h : DX (lift env vars G s) D D') : RelF C env vars gl own G D' m σ' s' where
  same := R'.same
  g := fun a o e => R'.g a o (R.over e)
  d := R'.d
  base := R.base
  nd := R'.nd
  offG := fun a hf => by
    cases e : G a with
    | none => rfl
    | some o => have := R'.offG a hf; rw [R.over e] at this; cases this
  offD := R'.offD
  pl := R'.pl
  sto := R'.sto
  ok := R.ok
  offL := ⟨R.offL.1, R.mineD h (Or.inl rfl) R.offL.2.1, fun hf => by
    have := R'.offG _ hf
    rw [lift_mine (Or.inl rfl)] at this
    obtain ⟨o, ho⟩ := R.mineLives (Or.inl rfl)
    rw [ho] at this; cases this⟩
  ns := by
    obtain ⟨mm, ⟨o, es, ep, ho, r⟩, hv⟩ := R.ns
    refine ⟨mm, ⟨o, es, ep, R'.g _ _ (by rw [lift_mine (Or.inl rfl)]; exact ho), r⟩, fun i x X h1 h2 h3 => ?_⟩
    obtain ⟨v, e, q⟩ := hv i x X h1 h2 h3
    exact ⟨v, e, q.mono h.sub⟩
  cl := fun i x c h1 h2 h3 => by
    have hm : Held env vars c := Or.inr ⟨i, x, h1, h2, h3⟩
    obtain ⟨hne, ⟨ov, ⟨o, ho, hd⟩, hx⟩, hw⟩ := R.cl i x c h1 h2 h3
    refine ⟨hne, ⟨ov, ⟨o, R'.g _ _ (by rw [lift_mine hm]; exact ho), hd⟩, fun X e => ?_⟩, ?_⟩
    · obtain ⟨v, e1, q⟩ := hx X e
      exact ⟨v, e1, q.mono h.sub⟩
    · cases own with
      | true =>
        refine ⟨hw.1, R.mineD h hm hw.2.1, fun hf => ?_⟩
        have := R'.offG _ hf
        rw [lift_mine hm, ho] at this; cases this
      | false => exact hw
end

inductive PostE (C : Cx) (env : Env) (vars : List Str) (gl : List (Str × V)) (own : Bool) (G D : Gh) (m : Loc) (Q : V → Sto → Prop) (v : Value) (s' : Shared) : Prop
  | mk (x : V) (D' : Gh) (σ' : Sto) : DX G D D' → VR C.w D' v x → RelF C env vars gl own G D' m σ' s' → Q x σ' → PostE C env vars gl own G D m Q v s'

noncomputable def AT (C : Cx) (env : Env) (vars : List Str) (gl : List (Str × V)) (own : Bool) (d : Nat) (t : Sem Value) (m : Loc) (σ : Sto) (Q : V → Sto → Prop) : Prop :=
  ∀ A G D s, AOk A d → RelF C env vars gl own G D m σ s → wpAny C.M A t (PostE C env vars gl own G D m Q) (fun _ _ => False) s

section
variable {C : Cx} {env : Env} {vars : List Str} {gl : List (Str × V)} {own : Bool} {d : Nat} {m : Loc} {σ : Sto} {Q Q' : V → Sto → Prop}

theorem AT.mono {t : Sem Value} (h : AT C env vars gl own d t m σ Q) (hQ : ∀ x σ', Q x σ' → Q' x σ') : AT C env vars gl own d t m σ Q' :=
  fun A G D s hA R => wpAny_mono (h A G D s hA R) (fun _ _ hpp => by obtain ⟨x, D', σ', a, b, c, e⟩ := hpp; exact ⟨x, D', σ', a, b, c, hQ _ _ e⟩) fun _ _ e => e

end

end Mine

set_option autoImplicit false
set_option linter.unusedVariables false
namespace Mine
open PySem

inductive Lk : List Str → Loc → Str → V → Prop
  | head {x : Str} {ns : List Str} {X : V} {m : Loc} : Lk (x :: ns) (some X :: m) x X
  | tail {x y : Str} {ns : List Str} {X : V} {o : Option V} {m : Loc} : Lk ns m x X → Lk (y :: ns) (o :: m) x X
theorem Lk.get {ns : List Str} {m : Loc} {x : Str} {X : V} (h : Lk ns m x X) : ∃ i : Nat, ns[i]? = some x ∧ m[i]? = some (some X) := by
  induction h with
  | head => exact ⟨0, rfl, rfl⟩
  | tail _ ih => obtain ⟨i, a, b⟩ := ih; exact ⟨i + 1, by simpa using a, by simpa using b⟩
inductive Put : List Str → Loc → Str → V → Loc → Prop
  | head {x : Str} {ns : List Str} {X : V} {o : Option V} {m : Loc} : Put (x :: ns) (o :: m) x X (some X :: m)
  | tail {x y : Str} {ns : List Str} {X : V} {o : Option V} {m m' : Loc} : Put ns m x X m' → Put (y :: ns) (o :: m) x X (o :: m')
theorem Put.get {ns : List Str} {m m' : Loc} {x : Str} {X : V} (h : Put ns m x X m') : ∃ i : Nat, ns[i]? = some x ∧ m' = m.set i (some X) := by
  induction h with
  | head => exact ⟨0, rfl, rfl⟩
  | tail _ ih => obtain ⟨i, a, b⟩ := ih; exact ⟨i + 1, by simpa using a, by simp [b]⟩

section
variable {C : Cx} {env : Env} {vars : List Str} {gl : List (Str × V)} {own : Bool} {d : Nat} {m : Loc} {σ : Sto} {Q Q' : V → Sto → Prop}
variable {A : Around} {G D D₁ : Gh} {s : Shared}

theorem AT.run {t : Sem Value} (h : AT C env vars gl own d t m σ Q) (hA : AOk A d) (R : RelF C env vars gl own G D m σ s) {K : Value → Shared → Prop}
    (k : ∀ v s' x D' σ', DX G D D' → VR C.w D' v x → RelF C env vars gl own G D' m σ' s' → Q x σ' → K v s') : wpAny C.M A t K (fun _ _ => False) s :=
  wpAny_mono (h A G D s hA R) (fun v s' hpp => by obtain ⟨x, D', σ', a, b, c, e⟩ := hpp; exact k v s' x D' σ' a b c e) fun _ _ e => e

theorem PostE.weak {v : Value} {s' : Shared} (h : DX G D D₁) (p : PostE C env vars gl own G D₁ m Q v s') : PostE C env vars gl own G D m Q v s' :=
  by obtain ⟨x, D', σ', a, b, c, e⟩ := p; exact ⟨x, D', σ', h.trans a, b, c, e⟩
theorem wp_weak {t : Sem Value} (h : DX G D D₁) (p : wpAny C.M A t (PostE C env vars gl own G D₁ m Q) (fun _ _ => False) s) : wpAny C.M A t (PostE C env vars gl own G D m Q) (fun _ _ => False) s :=
  wpAny_mono p (fun _ _ q => q.weak h) fun _ _ e => e

theorem RelC.tok (R : RelC C G D σ s) (t : Nat) : RelC C G D σ { s with toks := t } :=
  ⟨let ⟨h, _, e⟩ := R.same; ⟨h, t, by rw [e]⟩, R.g, R.d, R.base, R.nd, R.offG, R.offD, R.pl, R.sto⟩
theorem RelF.tok (R : RelF C env vars gl own G D m σ s) (t : Nat) : RelF C env vars gl own G D m σ { s with toks := t } :=
  { R.toRelC.tok t with ok := R.ok, offL := R.offL, ns := R.ns, cl := R.cl }

theorem PostE.now {v : Value} {x : V} (R : RelF C env vars gl own G D m σ s) (hv : VR C.w D v x) (q : Q x σ) : PostE C env vars gl own G D m Q v s := ⟨x, D, σ, DX.refl _ _, hv, R, q⟩
theorem PostC.now {v : Value} {x : V} (R : RelC C G D σ s) (hv : VR C.w D v x) (q : Q x σ) : PostC C G D Q v s := ⟨x, D, σ, DX.refl _ _, hv, R, q⟩

theorem AT_local {x : Str} {p : Pos} {X : V} (h : Lk vars m x X) (q : Q X σ) : AT C env vars gl own d (eval (.Name x p) env) m σ Q := fun A G D s hA R => by
  obtain ⟨i, h1, h2⟩ := h.get
  have hv := R.ok.vk x (List.mem_of_getElem? h1)
  rcases hv.2 with hl | ⟨hc, c, hcc⟩
  · obtain ⟨mm, hn, hmm⟩ := R.ns
    obtain ⟨v, e, r⟩ := hmm i x X h1 hl h2
    exact wpAny_Name (wpAny_loadName_local R.ok.fn hl hn e (PostE.now R r q)) hv.1
  · obtain ⟨_, ⟨ov, hcell, hx⟩, _⟩ := R.cl i x c h1 hc hcc
    obtain ⟨v, rfl, r⟩ := hx X h2
    exact wpAny_Name (wpAny_loadName_cell R.ok.fn hc hcc hcell (PostE.now R r q)) hv.1

theorem VR.any {w : World} {v : Value} {x : V} (h : VR w (fun _ => Option.none) v x) (D : Gh) : VR w D v x := h.mono fun _ _ e => by cases e

theorem AT_glob {x : Str} {p : Pos} {X : V} (h : (x, X) ∈ gl) (q : Q X σ) : AT C env vars gl own d (eval (.Name x p) env) m σ Q := fun A G D s hA R => by
  obtain ⟨h1, h2, v, hv, h3⟩ := R.ok.gk _ h
  have keep : ∀ b o, C.base.get? b = some o → s.heap.get? b = some o := fun b o e => R.g b o (R.base b o e)
  have ng : s.heap.Ns env.globals C.mg := by rw [R.ok.gg]; exact C.hg.keeps keep
  have nb : s.heap.Ns env.builtins C.mb := by rw [R.ok.gb]; exact C.hb.keeps keep
  have fin : PostE C env vars gl own G D m Q v s := PostE.now R (hv.any D) q
  refine Calls.Name_function_global R.ok.fn h2 ?_ h1
  rcases h3 with h3 | ⟨h3, h4⟩
  · exact Calls.loadGlobal_global ng h3 fin
  · exact Calls.loadGlobal_builtin ng h3 nb h4 fin

theorem AT_int {i : Int} {k : Nat} {p : Pos} (q : Q (.int i) σ) : AT C env vars gl own d (eval (.Constant (.int i) k p) env) m σ Q := fun A G D s hA R =>
  wpAny_Constant_int (PostE.now (R.tok _) (.int i _) q)
theorem AT_str {x : Str} {k : Nat} {p : Pos} (q : Q (.str x) σ) : AT C env vars gl own d (eval (.Constant (.str x) k p) env) m σ Q := fun A G D s hA R =>
  wpAny_Constant_str (PostE.now (R.tok _) (.str x _) q)
theorem AT_bool {b : Bool} {k : Nat} {p : Pos} (q : Q (.bool b) σ) : AT C env vars gl own d (eval (.Constant (.bool b) k p) env) m σ Q := fun A G D s hA R =>
  wpAny_Constant_bool (PostE.now R (.bool b) q)
theorem AT_none {k : Nat} {p : Pos} (q : Q .none σ) : AT C env vars gl own d (eval (.Constant .none k p) env) m σ Q := fun A G D s hA R =>
  wpAny_Constant_none (PostE.now R .none q)
end

noncomputable def AC1 (C : Cx) (d : Nat) (f : Value → Sem Value) (x : V) (σ : Sto) (Q : V → Sto → Prop) : Prop :=
  ∀ A G D s v, AOk A d → RelC C G D σ s → VR C.w D v x → wpAny C.M A (f v) (PostC C G D Q) (fun _ _ => False) s
noncomputable def AC2 (C : Cx) (d : Nat) (f : Value → Value → Sem Value) (x y : V) (σ : Sto) (Q : V → Sto → Prop) : Prop :=
  ∀ A G D s v u, AOk A d → RelC C G D σ s → VR C.w D v x → VR C.w D u y → wpAny C.M A (f v u) (PostC C G D Q) (fun _ _ => False) s
noncomputable def TR (C : Cx) (d : Nat) (x : V) (σ : Sto) (b : Bool) : Prop :=
  ∀ A G D s v, AOk A d → RelC C G D σ s → VR C.w D v x → ∀ (K : Bool → Shared → Prop), (∀ tk, K b { s with toks := tk }) → wpAny C.M A (truthy v) K (fun _ _ => False) s

section
variable {C : Cx} {env : Env} {vars : List Str} {gl : List (Str × V)} {own : Bool} {d : Nat} {m : Loc} {σ : Sto} {Q Q' : V → Sto → Prop}
variable {A : Around} {G D D₁ : Gh} {s : Shared}

theorem AC1.inF {f : Value → Sem Value} {x : V} (h : AC1 C d f x σ Q) {v : Value} (hA : AOk A d) (R : RelF C env vars gl own G D m σ s) (hv : VR C.w D v x) :
    wpAny C.M A (f v) (PostE C env vars gl own G D m Q) (fun _ _ => False) s :=
  wpAny_mono (h A _ D s v hA R.lifted hv) (fun _ _ hpp => by obtain ⟨x, D', σ', a, b, c, e⟩ := hpp; exact ⟨x, D', σ', R.dx a, b, R.back c a, e⟩) fun _ _ e => e
theorem AC2.inF {f : Value → Value → Sem Value} {x y : V} (h : AC2 C d f x y σ Q) {v u : Value} (hA : AOk A d) (R : RelF C env vars gl own G D m σ s) (hv : VR C.w D v x) (hu : VR C.w D u y) :
    wpAny C.M A (f v u) (PostE C env vars gl own G D m Q) (fun _ _ => False) s :=
  wpAny_mono (h A _ D s v u hA R.lifted hv hu) (fun _ _ hpp => by obtain ⟨x, D', σ', a, b, c, e⟩ := hpp; exact ⟨x, D', σ', R.dx a, b, R.back c a, e⟩) fun _ _ e => e

theorem AT_BinOp {l r : Expr} {op : Operator} {p : Pos} (h : AT C env vars gl own d (eval l env) m σ fun X σ₁ => AT C env vars gl own d (eval r env) m σ₁ fun Y σ₂ => AC2 C d (binaryOp op) X Y σ₂ Q) :
    AT C env vars gl own d (eval (.BinOp l op r p) env) m σ Q := fun A G D s hA R =>
  wpAny_BinOp (h.run hA R fun v s₁ X D₁ σ₁ a b c e => wpAny_mono (wpAny_mono (e A G D₁ s₁ hA c) (fun u s₂ hpp => by obtain ⟨Y, D₂, σ₂, a', b', c', e'⟩ := hpp; exact wp_weak (a.trans a') (e'.inF hA c' (b.mono a'.sub) b')) fun _ _ x => x) (fun _ _ x => x) fun _ _ x => x)

theorem AT_Cmp1 {l r : Expr} {op : CmpOp} {p : Pos} (h : AT C env vars gl own d (eval l env) m σ fun X σ₁ => AT C env vars gl own d (eval r env) m σ₁ fun Y σ₂ => AC2 C d (compareOp op) X Y σ₂ Q)
    (hm : behindInMarks op r = false := by with_unfolding_all rfl) :
    AT C env vars gl own d (eval (.Compare l [op] [r] p) env) m σ Q := fun A G D s hA R =>
  wpAny_Compare1 (h.run hA R fun v s₁ X D₁ σ₁ a b c e => wpAny_mono (e A G D₁ s₁ hA c) (fun u s₂ hpp => by obtain ⟨Y, D₂, σ₂, a', b', c', e'⟩ := hpp; exact wp_weak (a.trans a') (e'.inF hA c' (b.mono a'.sub) b')) fun _ _ x => x) hm

theorem AT_Unary {x : Expr} {op : UnaryOp} {p : Pos} (h : AT C env vars gl own d (eval x env) m σ fun X σ₁ => AC1 C d (unaryOp op) X σ₁ Q) : AT C env vars gl own d (eval (.UnaryOp op x p) env) m σ Q := fun A G D s hA R =>
  wpAny_UnaryOp (h.run hA R fun v s₁ X D₁ σ₁ a b c e => wp_weak a (e.inF hA c b))
theorem AC1_not {X : V} {b : Bool} (t : TR C d X σ b) (q : Q (.bool (!b)) σ) : AC1 C d (unaryOp .Not) X σ Q := fun A G D s v hA R hv =>
  not_value (t A G D s v hA R hv _ fun tk => PostC.now (R.tok tk) (.bool _) q)

inductive PostB (C : Cx) (env : Env) (vars : List Str) (gl : List (Str × V)) (own : Bool) (G D : Gh) (m : Loc) (Q : Bool → Sto → Prop) (b : Bool) (s' : Shared) : Prop
  | mk (D' : Gh) (σ' : Sto) : DX G D D' → RelF C env vars gl own G D' m σ' s' → Q b σ' → PostB C env vars gl own G D m Q b s'
noncomputable def AB (C : Cx) (env : Env) (vars : List Str) (gl : List (Str × V)) (own : Bool) (d : Nat) (t : Sem Bool) (m : Loc) (σ : Sto) (Q : Bool → Sto → Prop) : Prop :=
  ∀ A G D s, AOk A d → RelF C env vars gl own G D m σ s → wpAny C.M A t (PostB C env vars gl own G D m Q) (fun _ _ => False) s
variable {P : Bool → Sto → Prop}
theorem PostB.weak {b : Bool} {s' : Shared} (h : DX G D D₁) (p : PostB C env vars gl own G D₁ m P b s') : PostB C env vars gl own G D m P b s' :=
  by obtain ⟨D', σ', a, c, e⟩ := p; exact ⟨D', σ', h.trans a, c, e⟩
theorem wpB_weak {t : Sem Bool} (h : DX G D D₁) (p : wpAny C.M A t (PostB C env vars gl own G D₁ m P) (fun _ _ => False) s) : wpAny C.M A t (PostB C env vars gl own G D m P) (fun _ _ => False) s :=
  wpAny_mono p (fun _ _ q => q.weak h) fun _ _ e => e
theorem AB.run {t : Sem Bool} (h : AB C env vars gl own d t m σ P) (hA : AOk A d) (R : RelF C env vars gl own G D m σ s) {K : Bool → Shared → Prop}
    (k : ∀ b s' D' σ', DX G D D' → RelF C env vars gl own G D' m σ' s' → P b σ' → K b s') : wpAny C.M A t K (fun _ _ => False) s :=
  wpAny_mono (h A G D s hA R) (fun v s' hpp => by obtain ⟨D', σ', a, c, e⟩ := hpp; exact k v s' D' σ' a c e) fun _ _ e => e
theorem TR.inF {x : V} {b : Bool} (t : TR C d x σ b) {v : Value} (hA : AOk A d) (R : RelF C env vars gl own G D m σ s) (hv : VR C.w D v x) {K : Bool → Shared → Prop} (k : ∀ tk, K b { s with toks := tk }) :
    wpAny C.M A (truthy v) K (fun _ _ => False) s := t A _ D s v hA R.lifted hv K k

noncomputable def TRX (C : Cx) (d : Nat) (x : V) (σ : Sto) (P : Bool → Sto → Prop) : Prop := ∃ b, TR C d x σ b ∧ P b σ
theorem AB_val {e : Expr} (h : AT C env vars gl own d (eval e env) m σ fun X σ₁ => TRX C d X σ₁ P)
    (he : ∀ whole, isTrue e env whole = (do let v ← whole; standAt e.pos; holding [v] (truthy v)) := by intro; with_unfolding_all exact rfl) : AB C env vars gl own d (isTrue e env (eval e env)) m σ P := fun A G D s hA R =>
  wpAny_isTrue_value (h.run hA R fun v s₁ X D₁ σ₁ a b c hpp => by obtain ⟨t, ht, hp⟩ := hpp; exact ht.inF hA c b fun tk => ⟨D₁, σ₁, a, c.tok tk, hp⟩) (he _)
theorem AB_Not {x : Expr} {p : Pos} {whole : Sem Value} (h : AB C env vars gl own d (isTrue x env (eval x env)) m σ fun b σ₁ => P (!b) σ₁) : AB C env vars gl own d (isTrue (.UnaryOp .Not x p) env whole) m σ P := fun A G D s hA R =>
  wpAny_isTrue_Not (h.run hA R fun b s₁ D₁ σ₁ a c e => ⟨D₁, σ₁, a, c, e⟩)
theorem AB_Cmp1 {l r : Expr} {op : CmpOp} {p : Pos} {whole : Sem Value} (h : AT C env vars gl own d (eval l env) m σ fun X σ₁ => AT C env vars gl own d (eval r env) m σ₁ fun Y σ₂ => AC2 C d (compareOp op) X Y σ₂ fun Z σ₃ => TRX C d Z σ₃ P)
    (hm : behindInMarks op r = false := by with_unfolding_all rfl) : AB C env vars gl own d (isTrue (.Compare l [op] [r] p) env whole) m σ P := fun A G D s hA R =>
  wpAny_isTrue_Compare1 (h.run hA R fun v s₁ X D₁ σ₁ a b c e => wpAny_mono (e A G D₁ s₁ hA c) (fun u s₂ hpp => by obtain ⟨Y, D₂, σ₂, a', b', c', e'⟩ := hpp; exact wpAny_mono (e'.inF hA c' (b.mono a'.sub) b') (fun z s₃ hpp => by obtain ⟨Z, D₃, σ₃, a'', b'', c'', t, ht, hp⟩ := hpp; exact ht.inF hA c'' b'' fun tk => ⟨D₃, σ₃, (a.trans a').trans a'', c''.tok tk, hp⟩) fun _ _ x => x) fun _ _ x => x) hm
theorem AB_BoolOp {op : BoolOp} {vs : List Expr} {p : Pos} {whole : Sem Value} (h : AB C env vars gl own d (allTrue op vs env) m σ P) : AB C env vars gl own d (isTrue (.BoolOp op vs p) env whole) m σ P := fun A G D s hA R =>
  wpAny_isTrue_BoolOp (h A G D s hA R)
theorem AB_andNil (q : P true σ) : AB C env vars gl own d (allTrue .And [] env) m σ P := fun A G D s hA R => wpAny_allTrue_And_nil ⟨D, σ, DX.refl _ _, R, q⟩
theorem AB_orNil (q : P false σ) : AB C env vars gl own d (allTrue .Or [] env) m σ P := fun A G D s hA R => wpAny_allTrue_Or_nil ⟨D, σ, DX.refl _ _, R, q⟩
theorem AB_and {x : Expr} {rest : List Expr} (h : AB C env vars gl own d (isTrue x env (eval x env)) m σ fun b σ₁ => (b = true → AB C env vars gl own d (allTrue .And rest env) m σ₁ P) ∧ (b = false → P false σ₁)) :
    AB C env vars gl own d (allTrue .And (x :: rest) env) m σ P := fun A G D s hA R =>
  wpAny_allTrue_And_cons (h.run hA R fun b s₁ D₁ σ₁ a c e => by
    cases b with
    | true => exact wpB_weak a (e.1 rfl A G D₁ s₁ hA c)
    | false => exact ⟨D₁, σ₁, a, c, e.2 rfl⟩)
theorem AB_or {x : Expr} {rest : List Expr} (h : AB C env vars gl own d (isTrue x env (eval x env)) m σ fun b σ₁ => (b = true → P true σ₁) ∧ (b = false → AB C env vars gl own d (allTrue .Or rest env) m σ₁ P)) :
    AB C env vars gl own d (allTrue .Or (x :: rest) env) m σ P := fun A G D s hA R =>
  wpAny_allTrue_Or_cons (h.run hA R fun b s₁ D₁ σ₁ a c e => by
    cases b with
    | false => exact wpB_weak a (e.2 rfl A G D₁ s₁ hA c)
    | true => exact ⟨D₁, σ₁, a, c, e.1 rfl⟩)
theorem AT_and {x y : Sem Value} {r : List (Sem Value)} {p : Pos} (h : AT C env vars gl own d x m σ fun X σ₁ => ∃ b, TR C d X σ₁ b ∧ (b = true → AT C env vars gl own d (boolOp p .And (y :: r)) m σ₁ Q) ∧ (b = false → Q X σ₁)) :
    AT C env vars gl own d (boolOp p .And (x :: y :: r)) m σ Q := fun A G D s hA R => by
  show wpAny C.M A (do
    let v ← x
    standAt p
    let t ← holding [v] (truthy v)
    match BoolOp.And, t with
    | .And, false | .Or, true => pure v
    | _, _ => boolOp p .And (y :: r)) _ _ s
  refine wpAny_bind (h.run hA R fun v s₁ X D₁ σ₁ a b c hpp => ?_)
  obtain ⟨t, ht, h1, h2⟩ := hpp
  refine wpAny_bind (wpAny_standAt (wpAny_bind (wpAny_holding (ht.inF hA c b fun tk => ?_))))
  cases t with
  | false => exact wpAny_pure ⟨X, D₁, σ₁, a, b, c.tok tk, h2 rfl⟩
  | true => exact wp_weak a (h1 rfl A G D₁ _ hA (c.tok tk))
theorem AT_BoolOp {op : BoolOp} {vs : List Expr} {p : Pos} (h : AT C env vars gl own d (boolOp p op (evalEach vs env)) m σ Q) : AT C env vars gl own d (eval (.BoolOp op vs p) env) m σ Q := fun A G D s hA R => by
  rw [arm_eval_BoolOp]
  exact h A G D s hA R
end
end Mine

set_option autoImplicit false
set_option linter.unusedVariables false
namespace Mine
open PySem

section
variable {C : Cx} {env : Env} {vars : List Str} {gl : List (Str × V)} {own : Bool} {d : Nat} {m : Loc} {σ σ' : Sto}
variable {A : Around} {G D D₁ : Gh} {s : Shared}

theorem RelC.footLives (R : RelC C G D σ s) {a : Addr} (h : a ∈ foot σ) : ∃ o, s.heap.get? a = some o := by
  have key : ∀ (τ : Sto), (∀ p ∈ τ, PR s.heap p.1 p.2.1 p.2.2) → a ∈ foot τ → ∃ o, s.heap.get? a = some o := by
    intro τ
    induction τ with
    | nil => intro _ h; simp [foot] at h
    | cons p r ih =>
      obtain ⟨b, o, x⟩ := p
      intro hp h
      rcases List.mem_append.mp h with h | h
      · exact (hp _ (.head _)).lives a h
      · exact ih (fun q hq => hp q (.tail _ hq)) h
  exact key σ R.pl h
theorem RelC.footLt (R : RelC C G D σ s) {a : Addr} (h : a ∈ foot σ) : a < s.heap.objs.size := let ⟨_, e⟩ := R.footLives h; Heap.lt_size e
theorem RelC.new_notFoot (R : RelC C G D σ s) : s.heap.objs.size ∉ foot σ := fun h => Nat.lt_irrefl _ (R.footLt h)
theorem RelC.new_G (R : RelC C G D σ s) : G s.heap.objs.size = none := by
  cases e : G s.heap.objs.size with
  | none => rfl
  | some o => exact absurd (Heap.lt_size (R.g _ _ e)) (Nat.lt_irrefl _)
theorem RelC.new_D (R : RelC C G D σ s) : D s.heap.objs.size = none := by
  cases e : D s.heap.objs.size with
  | none => rfl
  | some o => exact absurd (Heap.lt_size (R.d _ _ e)) (Nat.lt_irrefl _)

theorem RelC.keep (R : RelC C G D σ s) {h' : Heap} (t : Nat) (k : ∀ b o, s.heap.get? b = some o → h'.get? b = some o) : RelC C G D σ { s with heap := h', toks := t } where
  same := let ⟨h, _, e⟩ := R.same; ⟨h', t, by rw [e]⟩
  g := fun a o e => k _ _ (R.g a o e)
  d := fun a o e => k _ _ (R.d a o e)
  base := R.base
  nd := R.nd
  offG := R.offG
  offD := R.offD
  pl := fun p hp => (R.pl p hp).at fun b _ ob e => k _ _ e
  sto := R.sto
theorem RelC.keepBut (R : RelC C G D σ s) {h' : Heap} (t : Nat) (wr : List Addr) (hw : ∀ a ∈ wr, G a = none ∧ D a = none ∧ a ∉ foot σ) (k : ∀ b o, b ∉ wr → s.heap.get? b = some o → h'.get? b = some o) :
    RelC C G D σ { s with heap := h', toks := t } where
  same := let ⟨h, _, e⟩ := R.same; ⟨h', t, by rw [e]⟩
  g := fun a o e => k _ _ (fun m => by rw [(hw a m).1] at e; cases e) (R.g a o e)
  d := fun a o e => k _ _ (fun m => by rw [(hw a m).2.1] at e; cases e) (R.d a o e)
  base := R.base
  nd := R.nd
  offG := R.offG
  offD := R.offD
  pl := fun p hp => (R.pl p hp).at fun b hb ob e => k _ _ (fun m => (hw b m).2.2 (mem_foot (ob := p.2.1) hp b hb)) e
  sto := R.sto
theorem RelC.push (R : RelC C G D σ s) (o : Obj) : RelC C G D σ { s with heap := s.heap.push o } := by
  have := R.keep (h' := s.heap.push o) s.toks fun b x e => Heap.get?_push_of_some _ e
  exact this

noncomputable def putD (D : Gh) (a : Addr) (o : Obj) : Gh := fun b => if b = a then some o else D b
theorem putD_self (D : Gh) (a : Addr) (o : Obj) : putD D a o a = some o := by simp [putD]
theorem putD_ne {D : Gh} {a b : Addr} (o : Obj) (h : b ≠ a) : putD D a o b = D b := by simp [putD, h]
theorem putD_sub {D : Gh} {a : Addr} (o : Obj) (h : D a = none) : Sub D (putD D a o) := fun b x e => by
  rw [putD_ne]; exact e
  rintro rfl; rw [h] at e; cases e

theorem RelC.newF (R : RelC C G D σ s) (o : Obj) (hf : o.isFreed = false := by rfl) : RelC C G (putD D s.heap.objs.size o) σ { s with heap := s.heap.push o } ∧ DX G D (putD D s.heap.objs.size o) := by
  have R' := R.push o
  refine ⟨⟨R'.same, R'.g, fun a x e => ?_, R'.base, R'.nd, R'.offG, fun a ha => ?_, R'.pl, fun p hp => (R'.sto p hp).mono (putD_sub o R.new_D)⟩, putD_sub o R.new_D, fun a e g => ?_⟩
  · by_cases h : a = s.heap.objs.size
    · subst h; rw [putD_self] at e; cases e; exact Heap.get?_push_size _ hf
    · rw [putD_ne o h] at e; exact R'.d a x e
  · rw [putD_ne]; exact R.offD a ha
    rintro rfl; exact R.new_notFoot ha
  · rw [putD_ne]; exact e
    rintro rfl; exact g R.new_G

theorem RelC.newM (R : RelC C G D σ s) (o : Obj) (x : AO) (hr : HR C.w D o x) (hx : footO s.heap.objs.size x = [s.heap.objs.size]) (hp : ∀ h a, PR h a o x = (h.get? a = some o)) (hf : o.isFreed = false := by rfl) :
    RelC C G D ((s.heap.objs.size, o, x) :: σ) { s with heap := s.heap.push o } := by
  have R' := R.push o
  refine ⟨R'.same, R'.g, R'.d, R'.base, ?_, fun a ha => ?_, fun a ha => ?_, fun p hp' => ?_, fun p hp' => ?_⟩
  · show (footO _ _ ++ foot σ).Nodup
    rw [hx]
    exact List.nodup_cons.mpr ⟨R.new_notFoot, R.nd⟩
  · have : a ∈ footO s.heap.objs.size x ++ foot σ := ha
    rw [hx] at this
    rcases List.mem_cons.mp this with rfl | h
    · exact R.new_G
    · exact R.offG a h
  · have : a ∈ footO s.heap.objs.size x ++ foot σ := ha
    rw [hx] at this
    rcases List.mem_cons.mp this with rfl | h
    · exact R.new_D
    · exact R.offD a h
  · rcases List.mem_cons.mp hp' with rfl | h
    · show PR _ _ _ _
      rw [hp]; exact Heap.get?_push_size _ hf
    · exact R'.pl p h
  · rcases List.mem_cons.mp hp' with rfl | h
    · exact hr
    · exact R'.sto p h

inductive Upd (a : Addr) (o : Obj) (x : AO) (o' : Obj) (x' : AO) : Sto → Sto → Prop
  | head {r : Sto} : Upd a o x o' x' ((a, o, x) :: r) ((a, o', x') :: r)
  | tail {p : Addr × Obj × AO} {r r' : Sto} : Upd a o x o' x' r r' → Upd a o x o' x' (p :: r) (p :: r')
theorem foot_append (σ τ : Sto) : foot (σ ++ τ) = foot σ ++ foot τ := by
  induction σ with
  | nil => rfl
  | cons p r ih => obtain ⟨a, o, x⟩ := p; show footO a x ++ foot (r ++ τ) = footO a x ++ foot r ++ foot τ; rw [ih, List.append_assoc]
theorem Upd.app {a : Addr} {o o' : Obj} {x x' : AO} {r r' : Sto} (τ : Sto) (h : Upd a o x o' x' r r') : Upd a o x o' x' (τ ++ r) (τ ++ r') := by
  induction τ with
  | nil => exact h
  | cons p t ih => exact .tail ih
theorem Upd.split {a : Addr} {o o' : Obj} {x x' : AO} {r r' : Sto} (h : Upd a o x o' x' r r') : ∃ u v, r = u ++ (a, o, x) :: v ∧ r' = u ++ (a, o', x') :: v := by
  induction h with
  | head => exact ⟨[], _, rfl, rfl⟩
  | tail _ ih => obtain ⟨u, v, rfl, rfl⟩ := ih; exact ⟨_ :: u, v, rfl, rfl⟩
theorem Upd.mem {a : Addr} {o o' : Obj} {x x' : AO} {r r' : Sto} (h : Upd a o x o' x' r r') : (a, o, x) ∈ r := by
  obtain ⟨u, v, rfl, rfl⟩ := h.split; simp
theorem RelC.upd (R : RelC C G D σ s) {a b : Addr} {o o' : Obj} {x x' : AO} (U : Upd a o x o' x' σ σ') {h' : Heap} (t : Nat) (hb : b ∈ footO a x) (hs : Heap.SameBut b s.heap h') (hx : footO a x' = footO a x)
    (hp : PR h' a o' x') (hr : HR C.w D o' x') : RelC C G D σ' { s with heap := h', toks := t } := by
  obtain ⟨u, v, rfl, rfl⟩ := U.split
  have hmem : (a, o, x) ∈ u ++ (a, o, x) :: v := by simp
  have hbf : b ∈ foot (u ++ (a, o, x) :: v) := mem_foot hmem b hb
  have ft : foot (u ++ (a, o', x') :: v) = foot (u ++ (a, o, x) :: v) := by rw [foot_append, foot_append]; show foot u ++ (footO a x' ++ foot v) = foot u ++ (footO a x ++ foot v); rw [hx]
  have nd := R.nd
  rw [foot_append] at nd
  have nd' : (foot u ++ (footO a x ++ foot v)).Nodup := nd
  have off : ∀ q, q ∈ u ∨ q ∈ v → b ∉ footO q.1 q.2.2 := by
    intro q hq hbq
    have h1 := List.nodup_append.mp nd'
    rcases hq with hq | hq
    · exact h1.2.2 b (mem_foot (a := q.1) (ob := q.2.1) (o := q.2.2) hq b hbq) b (List.mem_append_left _ hb) rfl
    · exact (List.nodup_append.mp h1.2.1).2.2 b hb b (mem_foot (a := q.1) (ob := q.2.1) (o := q.2.2) hq b hbq) rfl
  refine ⟨let ⟨h, _, e⟩ := R.same; ⟨h', t, by rw [e]⟩, fun c oc e => ?_, fun c oc e => ?_, R.base, by rw [ft]; exact R.nd, fun c hc => R.offG c (by rw [ft] at hc; exact hc), fun c hc => R.offD c (by rw [ft] at hc; exact hc), fun q hq => ?_, fun q hq => ?_⟩
  · exact hs.extBut c oc (by rintro rfl; rw [R.offG _ hbf] at e; cases e) (R.g c oc e)
  · exact hs.extBut c oc (by rintro rfl; rw [R.offD _ hbf] at e; cases e) (R.d c oc e)
  · have keep : (q ∈ u ∨ q ∈ v) → PR h' q.1 q.2.1 q.2.2 := fun hq' => (R.pl q (by rcases hq' with h | h <;> simp [h])).at fun c hc ob e => hs.extBut c ob (by rintro rfl; exact off q hq' hc) e
    rcases List.mem_append.mp hq with h | h
    · exact keep (.inl h)
    · rcases List.mem_cons.mp h with rfl | h
      · exact hp
      · exact keep (.inr h)
  · rcases List.mem_append.mp hq with h | h
    · exact R.sto q (by simp [h])
    · rcases List.mem_cons.mp h with rfl | h
      · exact hr
      · exact R.sto q (by simp [h])

theorem RelC.drop (R : RelC C G D σ s) {τ : Sto} (hs : τ.Sublist σ) : RelC C G D τ s := by
  have fs : (foot τ).Sublist (foot σ) := by
    have key : ∀ {a b : Sto}, a.Sublist b → (foot a).Sublist (foot b) := by
      intro a b h
      induction h with
      | slnil => exact .slnil
      | cons p _ ih => obtain ⟨c, o, x⟩ := p; exact ih.trans (List.sublist_append_right _ _)
      | cons_cons p _ ih => obtain ⟨c, o, x⟩ := p; exact List.Sublist.append (List.Sublist.refl _) ih
    exact key hs
  exact ⟨R.same, R.g, R.d, R.base, fs.nodup R.nd, fun a h => R.offG a (fs.subset h), fun a h => R.offD a (fs.subset h), fun p h => R.pl p (hs.subset h), fun p h => R.sto p (hs.subset h)⟩

theorem RelC.freezeL (R : RelC C G D σ s) {a : Addr} {o : Obj} {xs : List V} {u v : Sto} (e : σ = u ++ (a, o, .list xs) :: v) :
    RelC C G (putD D a o) (u ++ v) s ∧ DX G D (putD D a o) ∧ VR C.w (putD D a o) (.ref a) (.lst xs) := by
  have hmem : (a, o, AO.list xs) ∈ σ := by rw [e]; simp
  have haf : a ∈ foot σ := self_foot hmem
  have hD := R.offD a haf
  have hsub := putD_sub o hD
  have R' := R.drop (τ := u ++ v) (by rw [e]; exact List.Sublist.append (List.Sublist.refl _) (List.sublist_cons_self _ _))
  have hno : a ∉ foot (u ++ v) := by
    have nd := R.nd
    rw [e, foot_append] at nd
    have nd' : (foot u ++ (a :: foot v)).Nodup := nd
    rw [foot_append]
    intro h
    have h1 := List.nodup_append.mp nd'
    rcases List.mem_append.mp h with h | h
    · exact h1.2.2 a h a (.head _) rfl
    · exact (List.nodup_cons.mp h1.2.1).1 h
  have hpl : s.heap.get? a = some o := R.pl _ hmem
  obtain ⟨vs, n, ho, hr⟩ := R.sto _ hmem
  refine ⟨⟨R'.same, R'.g, fun b x eb => ?_, R'.base, R'.nd, R'.offG, fun b hb => ?_, R'.pl, fun p hp => (R'.sto p hp).mono hsub⟩, ⟨hsub, fun b eb g => ?_⟩, ?_⟩
  · by_cases h : b = a
    · subst h; rw [putD_self] at eb; cases eb; exact hpl
    · rw [putD_ne o h] at eb; exact R'.d b x eb
  · rw [putD_ne]; exact R'.offD b hb
    rintro rfl; exact hno hb
  · rw [putD_ne]; exact eb
    rintro rfl; exact g (R.offG _ haf)
  · have ho' : o = lstO vs n := ho
    refine VR.lst (vs := vs.toList) (n := n) ?_ (hr.mono hsub)
    rw [putD_self, ho']
end
end Mine

set_option autoImplicit false
set_option linter.unusedVariables false
namespace Mine
open PySem

section
variable {C : Cx} {env : Env} {vars : List Str} {gl : List (Str × V)} {own : Bool} {d : Nat} {m m' : Loc} {σ σ' : Sto}
variable {A : Around} {G D D₁ : Gh} {s : Shared}

theorem set_get {m : Loc} {i j : Nat} {X Y : V} (h : (m.set i (some X))[j]? = some (some Y)) : (j = i ∧ Y = X) ∨ (j ≠ i ∧ m[j]? = some (some Y)) := by
  rw [List.getElem?_set] at h
  by_cases e : i = j
  · subst e
    rw [if_pos rfl] at h
    split at h
    · simp at h; exact .inl ⟨rfl, h.symm⟩
    · cases h
  · rw [if_neg e] at h; exact .inr ⟨fun q => e q.symm, h⟩
theorem nodup_idx {l : List Str} (hn : l.Nodup) {i j : Nat} {x : Str} (h1 : l[i]? = some x) (h2 : l[j]? = some x) : i = j := by
  have hi := (List.getElem?_eq_some_iff.mp h1)
  have hj := (List.getElem?_eq_some_iff.mp h2)
  exact (List.getElem_inj (h₀ := hi.1) (h₁ := hj.1) hn).mp (hi.2.trans hj.2.symm)

theorem RelF.store (R : RelF C env vars gl own G D m σ s) {x : Str} {X : V} {v : Value} (hP : Put vars m x X m') (hv : VR C.w D v X) (hk : own = true ∨ env.kindOf x = some .local) {K : Unit → Shared → Prop}
    (k : ∀ s', RelF C env vars gl own G D m' σ s' → K () s') : wpAny C.M A (storeName env x v) K (fun _ _ => False) s := by
  obtain ⟨i, h1, rfl⟩ := hP.get
  rcases (R.ok.vk x (List.mem_of_getElem? h1)).2 with hl | ⟨hc, c, hcc⟩
  · obtain ⟨mm, hn, hmm⟩ := R.ns
    refine wpAny_storeName_local hl hn (fun h' hn' hs' => k _ ?_) (by rw [R.ok.fn]; rfl)
    have RC : RelC C G D σ { s with heap := h', toks := s.toks + 1 } := R.toRelC.keepBut _ [env.locals] (by intro a ha; simp at ha; subst ha; exact R.offL) fun b o hb e => hs'.extBut b o (by simpa using hb) e
    refine { RC with ok := R.ok, offL := R.offL, ns := ⟨_, hn', fun j y Y e1 e2 e3 => ?_⟩, cl := fun j y c e1 e2 e3 => ?_ }
    · rcases set_get e3 with ⟨rfl, rfl⟩ | ⟨hne, e3⟩
      · rw [h1] at e1; cases e1; exact ⟨v, by simp, hv⟩
      · have : y ≠ x := by rintro rfl; exact hne (nodup_idx R.ok.nd e1 h1)
        simp only [this, if_false]
        exact hmm j y Y e1 e2 e3
    · obtain ⟨q1, ⟨ov, q2, q3⟩, q4⟩ := R.cl j y c e1 e2 e3
      refine ⟨q1, ⟨ov, q2.sameBut hs' q1, fun Y e => ?_⟩, q4⟩
      rcases set_get e with ⟨rfl, rfl⟩ | ⟨hne, e⟩
      · rw [h1] at e1; cases e1; rw [hl] at e2; cases e2
      · exact q3 Y e
  · have hown : own = true := hk.resolve_right (by rw [hc]; intro e; cases e)
    subst hown
    obtain ⟨q1, ⟨ov, q2, q3⟩, q4⟩ := R.cl i x c h1 hc hcc
    refine wpAny_storeName_cell R.ok.fn hc hcc q2 fun h' hc' hs' => k _ ?_
    have RC : RelC C G D σ { s with heap := h' } := by
      have := R.toRelC.keepBut (h' := h') s.toks [c] (by intro a ha; simp at ha; subst ha; exact q4) fun b o hb e => hs'.extBut b o (by simpa using hb) e
      exact this
    obtain ⟨mm, hn, hmm⟩ := R.ns
    refine { RC with ok := R.ok, offL := R.offL, ns := ⟨mm, hn.sameBut hs' (Ne.symm q1), fun j y Y e1 e2 e3 => ?_⟩, cl := fun j y c₂ e1 e2 e3 => ?_ }
    · rcases set_get e3 with ⟨rfl, rfl⟩ | ⟨hne, e3⟩
      · rw [h1] at e1; cases e1; rw [hc] at e2; cases e2
      · exact hmm j y Y e1 e2 e3
    · obtain ⟨p1, ⟨ov', p2, p3⟩, p4⟩ := R.cl j y c₂ e1 e2 e3
      by_cases hy : y = x
      · subst hy
        rw [hcc] at e3; cases e3
        refine ⟨p1, ⟨_, hc', fun Y e => ?_⟩, p4⟩
        rcases set_get e with ⟨rfl, rfl⟩ | ⟨hne, e⟩
        · exact ⟨v, rfl, hv⟩
        · exact absurd (nodup_idx R.ok.nd e1 h1) hne
      · have hcne : c₂ ≠ c := fun e => hy (name_of_addr R.ok.ap (mem_of_lookup e3) (e ▸ mem_of_lookup hcc))
        refine ⟨p1, ⟨ov', p2.sameBut hs' hcne, fun Y e => ?_⟩, p4⟩
        rcases set_get e with ⟨rfl, rfl⟩ | ⟨hne, e⟩
        · rw [h1] at e1; cases e1; exact absurd rfl hy
        · exact p3 Y e

inductive PostU (C : Cx) (env : Env) (vars : List Str) (gl : List (Str × V)) (own : Bool) (G D : Gh) (K : Loc → Sto → Prop) (u : Unit) (s' : Shared) : Prop
  | mk (m' : Loc) (D' : Gh) (σ' : Sto) : DX G D D' → RelF C env vars gl own G D' m' σ' s' → K m' σ' → PostU C env vars gl own G D K u s'
noncomputable def AA (C : Cx) (env : Env) (vars : List Str) (gl : List (Str × V)) (own : Bool) (d : Nat) (t : Value → Sem Unit) (x : V) (m : Loc) (σ : Sto) (K : Loc → Sto → Prop) : Prop :=
  ∀ A G D s v, AOk A d → RelF C env vars gl own G D m σ s → VR C.w D v x → wpAny C.M A (t v) (PostU C env vars gl own G D K) (fun _ _ => False) s
variable {K : Loc → Sto → Prop}
theorem PostU.weak {u : Unit} {s' : Shared} (h : DX G D D₁) (p : PostU C env vars gl own G D₁ K u s') : PostU C env vars gl own G D K u s' :=
  by obtain ⟨m', D', σ', a, c, e⟩ := p; exact ⟨m', D', σ', h.trans a, c, e⟩
theorem AA_Name {x : Str} {p : Pos} {X : V} (hP : Put vars m x X m') (k : K m' σ) (hk : own = true ∨ env.kindOf x = some .local := by exact .inl rfl) : AA C env vars gl own d (assign (.Name x p) env) X m σ K := fun A G D s v hA R hv => by
  show wpAny C.M A (do standAt p; bindName env x v) _ _ s
  exact wpAny_bind (wpAny_standAt (wpAny_bindName (R.store hP hv hk fun s' R' => ⟨m', D, σ, DX.refl _ _, R', k⟩)))

inductive Fl where
  | next
  | brk
  | cont
  | ret (x : V)
noncomputable def FlR (w : World) (D : Gh) : Flow → Fl → Prop
  | .next, .next => True
  | .brk, .brk => True
  | .cont, .cont => True
  | .ret v, .ret x => VR w D v x
  | _, _ => False
inductive PostS (C : Cx) (env : Env) (vars : List Str) (gl : List (Str × V)) (own : Bool) (G D : Gh) (Q : Fl → Loc → Sto → Prop) (f : Flow) (s' : Shared) : Prop
  | mk (fl : Fl) (m' : Loc) (D' : Gh) (σ' : Sto) : DX G D D' → FlR C.w D' f fl → RelF C env vars gl own G D' m' σ' s' → Q fl m' σ' → PostS C env vars gl own G D Q f s'
noncomputable def AS (C : Cx) (env : Env) (vars : List Str) (gl : List (Str × V)) (own : Bool) (d : Nat) (t : Sem Flow) (m : Loc) (σ : Sto) (Q : Fl → Loc → Sto → Prop) : Prop :=
  ∀ A G D s, AOk A d → RelF C env vars gl own G D m σ s → wpAny C.M A t (PostS C env vars gl own G D Q) (fun _ _ => False) s
variable {Q : Fl → Loc → Sto → Prop}
theorem PostS.weak {u : Flow} {s' : Shared} (h : DX G D D₁) (p : PostS C env vars gl own G D₁ Q u s') : PostS C env vars gl own G D Q u s' :=
  by obtain ⟨fl, m', D', σ', a, b, c, e⟩ := p; exact ⟨fl, m', D', σ', h.trans a, b, c, e⟩
theorem wpS_weak {t : Sem Flow} (h : DX G D D₁) (p : wpAny C.M A t (PostS C env vars gl own G D₁ Q) (fun _ _ => False) s) : wpAny C.M A t (PostS C env vars gl own G D Q) (fun _ _ => False) s :=
  wpAny_mono p (fun _ _ q => q.weak h) fun _ _ e => e
theorem AS.run {t : Sem Flow} (h : AS C env vars gl own d t m σ Q) (hA : AOk A d) (R : RelF C env vars gl own G D m σ s) {K : Flow → Shared → Prop}
    (k : ∀ f s' fl m' D' σ', DX G D D' → FlR C.w D' f fl → RelF C env vars gl own G D' m' σ' s' → Q fl m' σ' → K f s') : wpAny C.M A t K (fun _ _ => False) s :=
  wpAny_mono (h A G D s hA R) (fun v s' hpp => by obtain ⟨fl, m', D', σ', a, b, c, e⟩ := hpp; exact k v s' fl m' D' σ' a b c e) fun _ _ e => e
theorem AS.mono {t : Sem Flow} {Q' : Fl → Loc → Sto → Prop} (h : AS C env vars gl own d t m σ Q) (hQ : ∀ f m σ, Q f m σ → Q' f m σ) : AS C env vars gl own d t m σ Q' := fun A G D s hA R =>
  h.run hA R fun f s' fl m' D' σ' a b c e => ⟨fl, m', D', σ', a, b, c, hQ _ _ _ e⟩

theorem S_nil (q : Q .next m σ) : AS C env vars gl own d (execs [] env) m σ Q := fun A G D s hA R => wpAny_execs_nil ⟨.next, m, D, σ, DX.refl _ _, trivial, R, q⟩
noncomputable def Then (C : Cx) (env : Env) (vars : List Str) (gl : List (Str × V)) (own : Bool) (d : Nat) (rest : List Stmt) (Q : Fl → Loc → Sto → Prop) : Fl → Loc → Sto → Prop
  | .next, m, σ => AS C env vars gl own d (execs rest env) m σ Q
  | f, m, σ => Q f m σ
theorem S_cons {st : Stmt} {rest : List Stmt} (h : AS C env vars gl own d (exec st env) m σ (Then C env vars gl own d rest Q)) : AS C env vars gl own d (execs (st :: rest) env) m σ Q := fun A G D s hA R => by
  refine wpAny_execs_cons (h.run hA R fun f s' fl m' D' σ' a b c e => ?_)
  cases f <;> cases fl <;> first | exact b.elim | skip
  · exact wpS_weak a (e A G D' s' hA c)
  · exact ⟨.brk, m', D', σ', a, b, c, e⟩
  · exact ⟨.cont, m', D', σ', a, b, c, e⟩
  · exact ⟨.ret _, m', D', σ', a, b, c, e⟩

theorem S_Assign {x : Str} {p' p : Pos} {e : Expr} (h : AT C env vars gl own d (eval e env) m σ fun X σ₁ => ∃ m', Put vars m x X m' ∧ Q .next m' σ₁)
    (hk : own = true := by with_unfolding_all exact rfl) (hs : swapsWith e (some (.Name x p')) p.line env = pure false := by with_unfolding_all exact rfl) : AS C env vars gl own d (exec (.Assign [.Name x p'] e p) env) m σ Q := fun A G D s hA R =>
  wpAny_Assign_Name (h.run hA R fun v s₁ X D₁ σ₁ a b c hpp => by obtain ⟨m', hP, q⟩ := hpp; exact c.store hP b (.inl hk) fun s' R' => ⟨.next, m', D₁, σ₁, a, trivial, R', q⟩) hs
theorem S_Return {e : Expr} {p : Pos} (h : AT C env vars gl own d (eval e env) m σ fun X σ₁ => Q (.ret X) m σ₁) : AS C env vars gl own d (exec (.Return (some e) p) env) m σ Q := fun A G D s hA R =>
  wpAny_Return_some (h.run hA R fun v s₁ X D₁ σ₁ a b c q => ⟨.ret X, m, D₁, σ₁, a, b, c, q⟩)
theorem S_If {t : Expr} {b o : List Stmt} {p : Pos} (h : AB C env vars gl own d (isTrue t env (eval t env)) m σ fun c σ₁ => (c = true → AS C env vars gl own d (execs b env) m σ₁ Q) ∧ (c = false → AS C env vars gl own d (execs o env) m σ₁ Q)) :
    AS C env vars gl own d (exec (.If t b o p) env) m σ Q := fun A G D s hA R =>
  wpAny_If (h.run hA R fun b s₁ D₁ σ₁ a c e => by
    cases b with
    | true => exact wpS_weak a (e.1 rfl A G D₁ s₁ hA c)
    | false => exact wpS_weak a (e.2 rfl A G D₁ s₁ hA c))
theorem S_Expr {e : Expr} {p : Pos} (h : AT C env vars gl own d (eval e env) m σ fun _ σ₁ => Q .next m σ₁)
    (hs : swapsWith e none p.line env = pure false := by with_unfolding_all exact rfl) : AS C env vars gl own d (exec (.Expr e p) env) m σ Q := fun A G D s hA R => by
  have hi : interactive env = false := by unfold interactive; rw [R.ok.fn]; rfl
  rw [exec_Expr env e p hi hs]
  refine wpAny_bind (wpAny_standAt (wpAny_bind (h.run hA R fun v s₁ X D₁ σ₁ a b c q => ?_)))
  have fin : PostS C env vars gl own G D Q .next s₁ := ⟨.next, m, D₁, σ₁, a, trivial, c, q⟩
  exact wpAny_dropValue fin

inductive PostL (C : Cx) (env : Env) (vars : List Str) (gl : List (Str × V)) (own : Bool) (G D : Gh) (m : Loc) (Q : List V → Sto → Prop) (v : List Value) (s' : Shared) : Prop
  | mk (x : List V) (D' : Gh) (σ' : Sto) : DX G D D' → VRs C.w D' v x → RelF C env vars gl own G D' m σ' s' → Q x σ' → PostL C env vars gl own G D m Q v s'
noncomputable def AL (C : Cx) (env : Env) (vars : List Str) (gl : List (Str × V)) (own : Bool) (d : Nat) (t : Sem (List Value)) (m : Loc) (σ : Sto) (Q : List V → Sto → Prop) : Prop :=
  ∀ A G D s, AOk A d → RelF C env vars gl own G D m σ s → wpAny C.M A t (PostL C env vars gl own G D m Q) (fun _ _ => False) s
variable {L : List V → Sto → Prop}
theorem AL.run {t : Sem (List Value)} (h : AL C env vars gl own d t m σ L) (hA : AOk A d) (R : RelF C env vars gl own G D m σ s) {K : List Value → Shared → Prop}
    (k : ∀ v s' x D' σ', DX G D D' → VRs C.w D' v x → RelF C env vars gl own G D' m σ' s' → L x σ' → K v s') : wpAny C.M A t K (fun _ _ => False) s :=
  wpAny_mono (h A G D s hA R) (fun v s' hpp => by obtain ⟨x, D', σ', a, b, c, e⟩ := hpp; exact k v s' x D' σ' a b c e) fun _ _ e => e
theorem AL_nil {p : Pos} (q : L [] σ) : AL C env vars gl own d (spliced (backTo p (starEach [] env))) m σ L := fun A G D s hA R => wpAny_items_nil ⟨[], D, σ, DX.refl _ _, .nil, R, q⟩
theorem AL_cons {p : Pos} {e : Expr} {rest : List Expr} (h : AT C env vars gl own d (eval e env) m σ fun X σ₁ => AL C env vars gl own d (spliced (backTo p (starEach rest env))) m σ₁ fun Xs σ₂ => L (X :: Xs) σ₂)
    (he : starEach (e :: rest) env = (false, eval e env) :: starEach rest env := by with_unfolding_all exact rfl) : AL C env vars gl own d (spliced (backTo p (starEach (e :: rest) env))) m σ L := fun A G D s hA R =>
  wpAny_items_cons (h.run hA R fun v s₁ X D₁ σ₁ a b c e => e.run hA c fun vs s₂ Xs D₂ σ₂ a' b' c' q => ⟨X :: Xs, D₂, σ₂, a.trans a', .cons (b.mono a'.sub) b', c', q⟩) he

variable {P : V → Sto → Prop}
theorem RelF.newF (R : RelF C env vars gl own G D m σ s) (o : Obj) (hf : o.isFreed = false := by with_unfolding_all exact rfl) :
    RelF C env vars gl own G (putD D s.heap.objs.size o) m σ { s with heap := s.heap.push o } ∧ DX G D (putD D s.heap.objs.size o) := by
  obtain ⟨a, b⟩ := R.lifted.newF o hf
  exact ⟨R.back a b, R.dx b⟩
theorem AT_Tuple {es : List Expr} {k : Nat} {p : Pos} (h : AL C env vars gl own d (spliced (backTo p (starEach es env))) m σ fun Xs σ₁ => Xs.length ≤ sizeLine ∧ P (.tup Xs) σ₁) :
    AT C env vars gl own d (eval (.Tuple es k p) env) m σ P := fun A G D s hA R =>
  wpAny_Tuple (h.run hA R fun vs s₁ Xs D₁ σ₁ a b c hpp => by obtain ⟨hl, q⟩ := hpp; exact ⟨by rw [b.length]; exact hl, by
    obtain ⟨R', dx⟩ := c.newF (tupO vs.toArray 0)
    exact ⟨.tup Xs, _, σ₁, a.trans dx, .tup (putD_self ..) rfl rfl (b.mono dx.sub), R', q⟩⟩)
theorem AT_ListF {es : List Expr} {p : Pos} (h : AL C env vars gl own d (spliced (backTo p (starEach es env))) m σ fun Xs σ₁ => Xs.length ≤ sizeLine ∧ P (.lst Xs) σ₁) :
    AT C env vars gl own d (eval (.List es p) env) m σ P := fun A G D s hA R =>
  wpAny_List (h.run hA R fun vs s₁ Xs D₁ σ₁ a b c hpp => by obtain ⟨hl, q⟩ := hpp; exact ⟨by rw [b.length]; exact hl, by
    obtain ⟨R', dx⟩ := c.newF (lstO vs.toArray 0)
    exact ⟨.lst Xs, _, σ₁, a.trans dx, .lst (putD_self ..) (b.mono dx.sub), R', q⟩⟩)
theorem RelF.newL (R : RelF C env vars gl own G D m σ s) {vs : List Value} {xs : List V} (h : VRs C.w D vs xs) :
    RelF C env vars gl own G D m ((s.heap.objs.size, lstO vs.toArray 0, .list xs) :: σ) { s with heap := s.heap.push (lstO vs.toArray 0) } :=
  R.back (R.lifted.newM (lstO vs.toArray 0) (.list xs) ⟨vs.toArray, 0, rfl, by simpa using h⟩ rfl (fun _ _ => rfl)) (DX.refl _ _)
noncomputable def SubR (C : Cx) (d : Nat) (x i : V) (σ : Sto) (P : V → Sto → Prop) : Prop :=
  ∀ A G D s o v, AOk A d → RelC C G D σ s → VR C.w D o x → VR C.w D v i → ∃ T id, s.TypeIs o T ∧ typeLookup (.type T) "__getitem__" = pure (some (.builtin id)) ∧ wpAny C.M A (getItem o v) (PostC C G D P) (fun _ _ => False) s
theorem subscripted_ex (slice : Expr) (o i : Value) : ∃ ops, subscripted slice false o i = operate ops (getItem o i) := by
  cases slice <;> first | exact ⟨_, rfl⟩ | (rename_i a b c p; cases c <;> exact ⟨_, rfl⟩)
theorem AT_Sub {e i : Expr} {p : Pos} (h : AT C env vars gl own d (eval e env) m σ fun X σ₁ => AT C env vars gl own d (eval i env) m σ₁ fun I σ₂ => SubR C d X I σ₂ P) :
    AT C env vars gl own d (eval (.Subscript e i p) env) m σ P := fun A G D s hA R =>
  PyProof.Rows.Subscript_ (h.run hA R fun v s₁ X D₁ σ₁ a b c e₁ => e₁.run hA c fun u s₂ I D₂ σ₂ a' b' c' q => by
    obtain ⟨T, id, hT, hl, hw⟩ := q A _ D₂ s₂ v u hA c'.lifted (b.mono a'.sub) b'
    obtain ⟨ops, ho⟩ := subscripted_ex i v u
    exact PyProof.Rows.tail_any hT hl (wpAny_mono hw (fun _ _ hpp => by obtain ⟨x, D', σ', a₂, b₂, c₂, q₂⟩ := hpp; exact ⟨x, D', σ', (a.trans a').trans (c'.dx a₂), b₂, c'.back c₂ a₂, q₂⟩) fun _ _ x => x) ho)
end

end Mine

set_option autoImplicit false
set_option linter.unusedVariables false
namespace Mine
open PySem

section
variable {C : Cx} {env : Env} {vars : List Str} {gl : List (Str × V)} {own : Bool} {d : Nat} {m m' : Loc} {σ σ' : Sto}
variable {A : Around} {G D D₁ : Gh} {s : Shared} {P : V → Sto → Prop}

noncomputable def KW (C : Cx) (d : Nat) (f : V) (xs : List V) (σ : Sto) (P : V → Sto → Prop) : Prop :=
  ∀ A G D s v vs, AOk A d → RelC C G D σ s → VR C.w D v f → VRs C.w D vs xs → wpAny C.M A (call v vs) (PostC C G D P) (fun _ _ => False) s
theorem KW_of_CW {a : Addr} {xs : List V} (h : CW C d (.ref a) xs σ P) : KW C d (.ref a) xs σ P := fun A G D s v vs hA R hv hs => by
  (first | obtain rfl := VR.biI hv | obtain rfl := VR.typeI hv | obtain rfl := VR.refI hv | obtain ⟨_, rfl⟩ := VR.intI hv | obtain ⟨_, rfl⟩ := VR.strI hv | obtain rfl := VR.boolI hv | obtain rfl := VR.noneI hv | obtain rfl := VRs.nilI hv | cases hv)
  exact wpAny_call (codeAny_mono (h A G D s vs hA R hs) fun r s' q => by
    cases r with
    | error e => exact q.elim
    | ok f => cases f <;> exact q)

noncomputable def Callee (C : Cx) : V → Prop
  | .bi _ => True
  | .type _ => True
  | .ref a => ∃ o fd, C.base.get? a = some o ∧ o.data = .func fd
  | _ => False

theorem callee_run {F : V} (hF : Callee C F) {f : Value} {pos : Pos} {first : List Value} {args : List (Bool × Sem Value)} {K : Value → Shared → Prop} {E : Value → Shared → Prop} (hf : VR C.w D f F) (hplain : args.any (·.1) = false)
    (h : wpAny C.M A (evalArgs f true args []) (fun x s₁ => (∀ b o, C.base.get? b = some o → s₁.heap.get? b = some o) ∧ wpAny C.M A (call f (first ++ x.pos) x.kw) K E s₁) E s) :
    wpAny C.M A (callWith pos f first args []) K E s := by
  cases hf with
  | bi n => exact Calls.callWith_builtin hplain (wpAny_mono h (fun _ _ x => x.2) fun _ _ x => x)
  | type n => exact callWith_type hplain (wpAny_mono h (fun _ _ x => x.2) fun _ _ x => x)
  | ref a =>
    obtain ⟨o, fd, ho, hd⟩ := hF
    exact Calls.callWith_function (wpAny_mono h (fun _ _ x => ⟨⟨x.1 _ _ ho, hd⟩, x.2⟩) fun _ _ x => x)
  | _ => exact hF.elim

theorem RelC.baseIn (R : RelC C G D σ s) : ∀ b o, C.base.get? b = some o → s.heap.get? b = some o := fun b o e => R.g b o (R.base b o e)

theorem KW.inF {f : V} {xs : List V} (h : KW C d f xs σ P) {v : Value} {vs : List Value} (hA : AOk A d) (R : RelF C env vars gl own G D m σ s) (hv : VR C.w D v f) (hs : VRs C.w D vs xs) :
    wpAny C.M A (call v vs) (PostE C env vars gl own G D m P) (fun _ _ => False) s :=
  wpAny_mono (h A _ D s v vs hA R.lifted hv hs) (fun _ _ hpp => by obtain ⟨x, D', σ', a, b, c, e⟩ := hpp; exact ⟨x, D', σ', R.dx a, b, R.back c a, e⟩) fun _ _ e => e

theorem AT_Call {x : Str} {np p : Pos} {e : Expr} {rest : List Expr} (h : AT C env vars gl own d (eval (.Name x np) env) m σ fun F σ₁ => Callee C F ∧ AL C env vars gl own d (spliced (backTo p (starEach (e :: rest) env))) m σ₁ fun Xs σ₂ => KW C d F Xs σ₂ P)
    (he : starEach (e :: rest) env = (false, eval e env) :: starEach rest env := by with_unfolding_all exact rfl) (hplain : (backTo p (starEach rest env)).any (·.1) = false := by with_unfolding_all exact rfl) :
    AT C env vars gl own d (eval (.Call (.Name x np) (e :: rest) [] p) env) m σ P := fun A G D s hA R =>
  wpAny_Call_ofName (h.run hA R fun v s₁ F D₁ σ₁ a b c hpp => by obtain ⟨hF, hk⟩ := hpp; exact callee_run hF b (by rw [he]; exact hplain) (by
    rw [he] at hk ⊢
    exact Calls.evalArgs_plain (AL.run hk hA c fun vs s₂ Xs D₂ σ₂ a' b' c' q => ⟨c'.toRelC.baseIn, wp_weak (a.trans a') (q.inF hA c' (b.mono a'.sub) b')⟩)))

noncomputable def RetQ (Q : V → Sto → Prop) : Fl → Loc → Sto → Prop
  | .ret x, _, σ => Q x σ
  | .next, _, σ => Q .none σ
  | _, _, _ => False

noncomputable def nodupB : List Str → Bool
  | [] => true
  | x :: r => !r.contains x && nodupB r
theorem nodupB_ok : ∀ {l : List Str}, nodupB l = true → l.Nodup
  | [], _ => .nil
  | x :: r, h => by
    simp only [nodupB, Bool.and_eq_true, Bool.not_eq_true'] at h
    exact List.nodup_cons.mpr ⟨fun hm => by have := List.contains_iff_mem.mpr hm; rw [this] at h; exact absurd h.1 (by decide), nodupB_ok h.2⟩

noncomputable def scopeOk (sc : Scope) (vars : List Str) (gl : List Str) : Bool :=
  sc.kind == .function && !sc.isCoroutine && !sc.isGenerator && nodupB vars &&
  vars.all (fun x => !(x == ("__debug__" : Str)) && (sc.names.lookup x == some .local || sc.names.lookup x == some .cell)) &&
  gl.all fun x => !(x == ("__debug__" : Str)) && sc.names.lookup x == some .globalImplicit

theorem cellsFrom_has {x : Str} : ∀ (names : List (Str × NameKind)) (n : Nat) (acc : List (Str × Addr)), names.lookup x = some .cell ∨ (∃ c, acc.lookup x = some c) → ∃ c, (cellsFrom n names acc).lookup x = some c
  | [], _, _, h => h.elim (fun e => by cases e) id
  | (y, k) :: r, n, acc, h => by
    unfold cellsFrom
    by_cases hk : (k == .cell) = true
    · rw [if_pos hk]
      refine cellsFrom_has r (n + 1) ((y, n) :: acc) ?_
      by_cases hy : (x == y) = true
      · exact .inr ⟨n, by rw [List.lookup_cons, hy]⟩
      · refine h.imp (fun e => ?_) fun ⟨c, e⟩ => ⟨c, ?_⟩
        · rw [List.lookup_cons] at e; simpa only [hy] using e
        · rw [List.lookup_cons]; simpa only [hy] using e
    · rw [if_neg hk]
      refine cellsFrom_has r n acc ?_
      by_cases hy : (x == y) = true
      · refine .inr (h.elim (fun e => ?_) id)
        rw [List.lookup_cons, hy] at e
        exact absurd (by rw [Option.some.inj e]; rfl) hk
      · refine h.imp (fun e => ?_) id
        rw [List.lookup_cons] at e; simpa only [hy] using e

theorem bindL_off {kf : Str → Option NameKind} {x : Str} : ∀ {b : List (Str × Value)} {mm : Str → Option Value}, x ∉ b.map (·.1) → bindL kf b mm x = mm x
  | [], _, _ => rfl
  | (n, v) :: r, mm, h => by
    simp only [List.map_cons, List.mem_cons, not_or] at h
    unfold bindL
    rw [bindL_off h.2]
    split
    · simp [h.1]
    · rfl
theorem bindC_off {kf : Str → Option NameKind} {x : Str} : ∀ {b : List (Str × Value)} {mm : Str → Option Value}, x ∉ b.map (·.1) → bindC kf b mm x = mm x
  | [], _, _ => rfl
  | (n, v) :: r, mm, h => by
    simp only [List.map_cons, List.mem_cons, not_or] at h
    unfold bindC
    rw [bindC_off h.2]
    split
    · rfl
    · simp [h.1]
theorem bindL_at {kf : Str → Option NameKind} {x : Str} {v : Value} : ∀ {b : List (Str × Value)} {mm : Str → Option Value}, (b.map (·.1)).Nodup → (x, v) ∈ b → kf x = some .local → bindL kf b mm x = some v
  | (n, u) :: r, mm, hn, hm, hk => by
    have hn' := List.nodup_cons.mp hn
    unfold bindL
    rcases List.mem_cons.mp hm with e | hm
    · cases e
      rw [bindL_off hn'.1, if_pos hk]; simp
    · exact bindL_at hn'.2 hm hk
theorem bindC_at {kf : Str → Option NameKind} {x : Str} {v : Value} : ∀ {b : List (Str × Value)} {mm : Str → Option Value}, (b.map (·.1)).Nodup → (x, v) ∈ b → kf x ≠ some .local → bindC kf b mm x = some v
  | (n, u) :: r, mm, hn, hm, hk => by
    have hn' := List.nodup_cons.mp hn
    unfold bindC
    rcases List.mem_cons.mp hm with e | hm
    · cases e
      rw [bindC_off hn'.1, if_neg hk]; simp
    · exact bindC_at hn'.2 hm hk

theorem AOk.deeper {A : Around} {d : Nat} {env : Env} (h : AOk A (d + 1)) : AOk (A.deeper env) d :=
  ⟨h.h, by have := h.depth; show A.depth + 1 + d < 1000; lia, by have := h.units; show A.units + 3 + 8 * d < 9000; lia⟩

structure FnIs (C : Cx) (a : Addr) (fd : FuncData) (body : List Stmt) (params : List Str) : Prop where
  ob : ∃ o, C.base.get? a = some o ∧ o.data = .func fd
  body : fd.body = .stmts body
  clo : fd.closure = []
  code : C.base.CodeRec fd.code fd.qualname
  gl : fd.globals = mainGlobals
  bi : fd.builtins = builtinsNs
  bind : ∀ vs : List Value, vs.length = params.length → bindArgs fd ⟨vs, []⟩ = pure (params.zip vs)

theorem zip_get {α β : Type} : ∀ {l : List α} {r : List β} {i : Nat} {x : α} {y : β}, l[i]? = some x → r[i]? = some y → (x, y) ∈ l.zip r
  | a :: l, b :: r, 0, x, y, h1, h2 => by simp at h1 h2; subst h1 h2; simp
  | a :: l, b :: r, i + 1, x, y, h1, h2 => by
    have := zip_get (l := l) (r := r) (i := i) (by simpa using h1) (by simpa using h2)
    simp [this]
  | [], _, i, _, _, h1, _ => by simp at h1
  | _ :: _, [], i, _, _, _, h2 => by simp at h2

open Classical in
theorem CW_fn {a : Addr} {fd : FuncData} {body : List Stmt} {params others : List Str} {gl : List (Str × V)} {xs : List V} (F : FnIs C a fd body params) (hlen : xs.length = params.length)
    (hst : scopeOk fd.scope (params ++ others) (gl.map (·.1)) = true) (hgl : ∀ p ∈ gl, GlobR C p.1 p.2)
    (h : ∀ env, env.scope = fd.scope → AS C env (params ++ others) gl true d (execs body env) (xs.map some ++ others.map fun _ => none) σ (RetQ P)) : CW C (d + 1) (.ref a) xs σ P := by
  intro A G D s vs hA R hv
  obtain ⟨o, ho, hd⟩ := F.ob
  have hvl : vs.length = params.length := hv.length.trans hlen
  have keepB := R.baseIn
  simp only [scopeOk, Bool.and_eq_true, Bool.not_eq_true', beq_iff_eq] at hst
  obtain ⟨⟨⟨⟨⟨k1, k2⟩, k3⟩, k4⟩, k5⟩, k6⟩ := hst
  have nd : (params ++ others).Nodup := nodupB_ok k4
  have vk : ∀ x ∈ params ++ others, (x == ("__debug__" : Str)) = false ∧ (fd.scope.names.lookup x = some .local ∨ fd.scope.names.lookup x = some .cell) := fun x hx => by
    have := List.all_eq_true.mp k5 x hx
    simp only [Bool.and_eq_true, Bool.not_eq_true', Bool.or_eq_true, beq_iff_eq] at this
    exact this
  have zn : (params.zip vs).map (·.1) = params := by
    rw [List.map_fst_zip]; lia
  refine codeAny_call_cells (fd := fd) (by have := hA.depth; show A.depth < 1000; lia) (keepB _ _ ho) hd (C.lim.keeps keepB) (F.code.keeps keepB) F.body (F.bind vs hvl) F.clo (fun x hx => ?_) (fun s₁ x => ?_) k2 k3 k1
  · have hm : x.1 ∈ params := zn ▸ List.mem_map_of_mem hx
    rcases (vk x.1 (List.mem_append_left _ hm)).2 with e | e
    · exact .inl e
    · obtain ⟨c, hc⟩ := cellsFrom_has (x := x.1) fd.scope.names (s.heap.objs.size + 1) [] (.inl e)
      exact .inr ⟨e, by rw [hc]; rfl⟩
  · generalize hE : callEnvC fd s.heap.objs.size a = E at x ⊢
    have eL : E.locals = s.heap.objs.size := by rw [← hE]; rfl
    have eK : ∀ y, E.kindOf y = fd.scope.names.lookup y := fun y => by rw [← hE]; rfl
    have eC : E.cells = cellsFrom (s.heap.objs.size + 1) fd.scope.names [] := by rw [← hE]; rfl
    obtain ⟨h₁, tk, hs₁, kp⟩ := x.done
    let Gc : Gh := fun b => if b ∈ foot σ then none else s.heap.get? b
    have gc1 : ∀ b o, Gc b = some o → s.heap.get? b = some o ∧ b ∉ foot σ := fun b o e => by
      have e' : (if b ∈ foot σ then none else s.heap.get? b) = some o := e
      split at e'
      · cases e'
      · rename_i hb; exact ⟨e', hb⟩
    have gc2 : ∀ b o, s.heap.get? b = some o → b ∉ foot σ → Gc b = some o := fun b o e hb => by show (if b ∈ foot σ then none else s.heap.get? b) = some o; rw [if_neg hb]; exact e
    have gG : ∀ b o, G b = some o → Gc b = some o := fun b o e => gc2 b o (R.g b o e) fun hb => by rw [R.offG b hb] at e; cases e
    have new : ∀ c, s.heap.objs.size ≤ c → Gc c = none ∧ D c = none ∧ c ∉ foot σ := fun c hc => ⟨by
        cases e : Gc c with
        | none => rfl
        | some o => exact absurd (Heap.lt_size (gc1 c o e).1) (Nat.not_lt.mpr hc), by
        cases e : D c with
        | none => rfl
        | some o => exact absurd (Heap.lt_size (R.d c o e)) (Nat.not_lt.mpr hc), fun hf => absurd (R.footLt hf) (Nat.not_lt.mpr hc)⟩
    have hkeep : ∀ b o, s.heap.get? b = some o → s₁.heap.get? b = some o := by rw [hs₁]; exact kp
    have RC : RelC C Gc D σ s₁ := by
      refine ⟨?_, fun b o e => hkeep b o (gc1 b o e).1, fun b o e => hkeep b o (R.d b o e), fun b o e => gG b o (R.base b o e), R.nd, fun b hb => ?_, R.offD, fun p hp => (R.pl p hp).at fun b _ ob e => hkeep _ _ e, R.sto⟩
      · obtain ⟨h₂, t₂, e⟩ := R.same
        exact ⟨h₁, tk, by rw [hs₁, e]⟩
      · show (if b ∈ foot σ then none else s.heap.get? b) = none; rw [if_pos hb]
    have ndz : ((params.zip vs).map (·.1)).Nodup := by rw [zn]; exact (List.nodup_append.mp nd).1
    have locs : ∀ (i : Nat) y X, (params ++ others)[i]? = some y → (xs.map some ++ others.map fun _ => none)[i]? = some (some X) → ∃ v, (y, v) ∈ params.zip vs ∧ VR C.w D v X := by
      intro i y X e1 e2
      rw [List.getElem?_append] at e1 e2
      rw [List.length_map] at e2
      by_cases hi : i < xs.length
      · rw [if_pos hi] at e2
        rw [if_pos (by lia)] at e1
        rw [List.getElem?_map] at e2
        obtain ⟨Y, hY, e3⟩ := Option.map_eq_some_iff.mp e2
        cases e3
        obtain ⟨u, hu, ru⟩ := hv.get hY
        exact ⟨u, zip_get e1 hu, ru⟩
      · rw [if_neg hi] at e2
        rw [List.getElem?_map] at e2
        obtain ⟨Y, hY, e3⟩ := Option.map_eq_some_iff.mp e2
        cases e3
    have RF : RelF C E (params ++ others) gl true Gc D (xs.map some ++ others.map fun _ => none) σ s₁ :=
      { RC with
        ok := ⟨by rw [← hE]; exact k1, nd, fun y hy => ⟨(vk y hy).1, (vk y hy).2.imp (fun e => by rw [eK]; exact e) fun e => ⟨by rw [eK]; exact e, by rw [eC]; exact cellsFrom_has _ _ _ (.inl e)⟩⟩, x.apart,
          fun p hp => by
            have := List.all_eq_true.mp k6 p.1 (List.mem_map_of_mem hp)
            simp only [Bool.and_eq_true, Bool.not_eq_true', beq_iff_eq] at this
            exact ⟨this.1, by rw [eK]; exact this.2, hgl p hp⟩,
          by rw [← hE]; exact F.gl, by rw [← hE]; exact F.bi⟩
        offL := by rw [eL]; exact new _ (Nat.le_refl _)
        ns := ⟨_, x.toInCall.ns, fun i y X e1 e2 e3 => by
          obtain ⟨v, hv1, hv2⟩ := locs i y X e1 e3
          exact ⟨v, bindL_at ndz hv1 e2, hv2⟩⟩
        cl := fun i y c e1 e2 e3 => by
          have hab := x.above y c (mem_of_lookup e3)
          rw [eL] at hab
          refine ⟨by rw [eL]; exact Nat.ne_of_gt hab, ⟨_, x.cell y c e3, fun X e4 => ?_⟩, new c (Nat.le_of_lt hab)⟩
          obtain ⟨v, hv1, hv2⟩ := locs i y X e1 e4
          exact ⟨v, bindC_at ndz hv1 (by rw [e2]; intro q; cases q), hv2⟩ }
    refine wpAny_mono ((h E (by rw [← hE]; rfl)).run hA.deeper RF fun f s' fl m' D' σ' a b c q => ?_) (fun _ _ e => e) (fun _ _ e => e.elim)
    have dx : DX G D D' := a.less fun b hb => by
      cases e : G b with
      | none => exact absurd e hb
      | some o => rw [gG b o e]; exact nofun
    have RC' : RelC C G D' σ' s' := ⟨c.same, fun b o e => c.g b o (gG b o e), c.d, R.base, c.nd, (fun b hb => by
        cases e : G b with
        | none => rfl
        | some o => have := c.offG b hb; rw [gG b o e] at this; cases this), c.offD, c.pl, c.sto⟩
    cases f <;> cases fl <;> first | exact b.elim | exact q.elim | skip
    · exact ⟨.none, D', σ', dx, .none, RC', q⟩
    · exact ⟨_, D', σ', dx, b, RC', q⟩
end
end Mine

set_option autoImplicit false
set_option linter.unusedVariables false
namespace Mine
open PySem

noncomputable def ItemR (w : World) (D : Gh) (h h' : Heap) (v : Value) (X : V) : Prop :=
  VR w D v X ∨ ∃ T o vals n Xs, v = .ref T ∧ X = .tup Xs ∧ VRs w D vals Xs ∧ h.objs.size ≤ T ∧ h'.get? T = some o ∧ o.cls = .type "tuple" ∧ o.data = .seq vals.toArray n

noncomputable def KeptBut (wr : List Addr) (h h' : Heap) : Prop := ∀ b o, b ∉ wr → h.get? b = some o → h'.get? b = some o

structure IW (C : Cx) (A : Around) (tgt : Expr) (I : Addr) (fp wr : List Addr) (D : Gh) (xs : List V) (St : Nat → Heap → Prop) : Prop where
  live : ∀ i h, St i h → ∀ a ∈ wr, ∃ o, h.get? a = some o
  sub : ∀ b ∈ wr, b ∈ fp
  old : ∀ b ∈ fp, b ∉ wr → ∀ h : Heap, St 0 h → h.get? b = none → False
  frame : ∀ i h h', St i h → (∀ b ∈ fp, ∀ o, h.get? b = some o → h'.get? b = some o) → St i h'
  item : ∀ (i : Nat) X (s : Shared) (K : Option Value → Shared → Prop), xs[i]? = some X → St i s.heap →
    (∀ v s₁, (∀ Q' : Unit → Shared → Prop, (∀ h' tk, ItemR C.w D s.heap h' v X → St (i + 1) h' → KeptBut wr s.heap h' → Q' () { s with heap := h', toks := tk }) →
      wpAny C.M A (letOwnedTupleGo tgt (.ref I) v) Q' (fun _ _ => False) s₁) → K (some v) s₁) → wpAny C.M A (pyNext (.ref I)) K (fun _ _ => False) s
  self : ∀ (i : Nat) (s : Shared) (K : Value → Shared → Prop), St i s.heap → K (.ref I) s → wpAny C.M A (pyIter (.ref I)) K (fun _ _ => False) s
  done : ∀ (s : Shared) (K : Option Value → Shared → Prop), St xs.length s.heap → (∀ h' tk, KeptBut wr s.heap h' → K none { s with heap := h', toks := tk }) → wpAny C.M A (pyNext (.ref I)) K (fun _ _ => False) s

section
variable {C : Cx} {env : Env} {vars : List Str} {gl : List (Str × V)} {own : Bool} {d : Nat} {m m' : Loc} {σ σ' : Sto}
variable {A : Around} {G D D₀ D₁ : Gh} {s : Shared}

noncomputable def Off (env : Env) (vars : List Str) (G D : Gh) (σ : Sto) (wr : List Addr) : Prop := ∀ a ∈ wr, G a = none ∧ D a = none ∧ a ∉ foot σ ∧ ¬ Held env vars a

theorem RelF.keepBut (R : RelF C env vars gl own G D m σ s) {h' : Heap} (t : Nat) {wr : List Addr} (hw : Off env vars G D σ wr) (k : KeptBut wr s.heap h') : RelF C env vars gl own G D m σ { s with heap := h', toks := t } := by
  have R' := R.lifted.keepBut (h' := h') t wr (fun a ha => ⟨by rw [lift_not (hw a ha).2.2.2]; exact (hw a ha).1, (hw a ha).2.1, (hw a ha).2.2.1⟩) k
  exact R.back R' (DX.refl _ _)

theorem item_in (R : RelF C env vars gl own G D m σ s) (hs : Sub D₀ D) {h' : Heap} {t : Nat} {wr : List Addr} (hw : Off env vars G D σ wr) (k : KeptBut wr s.heap h') {v : Value} {X : V} (hi : ItemR C.w D₀ s.heap h' v X) :
    ∃ D', DX G D D' ∧ RelF C env vars gl own G D' m σ { s with heap := h', toks := t } ∧ VR C.w D' v X ∧ ∀ w2 : List Addr, (∀ a ∈ w2, ∃ o, s.heap.get? a = some o) → Off env vars G D σ w2 → Off env vars G D' σ w2 := by
  have R₁ := R.keepBut t hw k
  rcases hi with hv | ⟨T, o, vals, n, Xs, rfl, rfl, hvs, hT, ho, hc, hd⟩
  · exact ⟨D, DX.refl _ _, R₁, hv.mono hs, fun _ _ h => h⟩
  · have nT : ∀ (b : Addr) (ob : Obj), s.heap.get? b = some ob → b ≠ T := fun b ob e q => absurd (Heap.lt_size (q ▸ e)) (Nat.not_lt.mpr hT)
    have hD : D T = none := by
      cases e : D T with
      | none => rfl
      | some ob => exact absurd rfl (nT T ob (R.d _ _ e))
    have hG : lift env vars G s T = none := by
      cases e : lift env vars G s T with
      | none => rfl
      | some ob => exact absurd rfl (nT T ob (R.lifted.g _ _ e))
    have hf : T ∉ foot σ := fun h => by obtain ⟨ob, e⟩ := R.toRelC.footLives h; exact nT T ob e rfl
    have hsub := putD_sub o hD
    have RC := R₁.lifted
    have hl : lift env vars G { s with heap := h', toks := t } T = none := by
      by_cases hm : Held env vars T
      · obtain ⟨ob, e⟩ := R.mineLives hm; exact absurd rfl (nT T ob e)
      · rw [lift_not hm] at hG ⊢; exact hG
    have RC' : RelC C (lift env vars G { s with heap := h', toks := t }) (putD D T o) σ { s with heap := h', toks := t } :=
      ⟨RC.same, RC.g, fun b ob e => by
        by_cases hb : b = T
        · subst hb; rw [putD_self] at e; cases e; exact ho
        · rw [putD_ne o hb] at e; exact RC.d b ob e, RC.base, RC.nd, RC.offG, fun b hb => by
        rw [putD_ne]; exact RC.offD b hb
        rintro rfl; exact hf hb, RC.pl, fun p hp => (RC.sto p hp).mono hsub⟩
    have dx : DX (lift env vars G { s with heap := h', toks := t }) D (putD D T o) := ⟨hsub, fun b eb g => by
      rw [putD_ne]; exact eb
      rintro rfl; exact g hl⟩
    refine ⟨putD D T o, R₁.dx dx, R₁.back RC' dx, .tup (putD_self ..) hc hd ((hvs.mono hs).mono hsub), fun w2 hl2 hw2 a ha => ⟨(hw2 a ha).1, ?_, (hw2 a ha).2.2⟩⟩
    rw [putD_ne]; exact (hw2 a ha).2.1
    obtain ⟨ob, e⟩ := hl2 a ha
    exact nT a ob e

noncomputable def Loop (C : Cx) (env : Env) (vars : List Str) (gl : List (Str × V)) (own : Bool) (d : Nat) (tgt : Expr) (body : List Stmt) (P : Sto → Prop) (Q : Fl → Loc → Sto → Prop) : List V → Loc → Sto → Prop
  | [], m, σ => Q .next m σ
  | X :: xs, m, σ => AA C env vars gl own d (assign tgt env) X m σ fun m₁ σ₁ => AS C env vars gl own d (execs body env) m₁ σ₁ fun fl m₂ σ₂ => match fl with
    | .next => P σ₂ ∧ Loop C env vars gl own d tgt body P Q xs m₂ σ₂
    | .cont => P σ₂ ∧ Loop C env vars gl own d tgt body P Q xs m₂ σ₂
    | .brk => Q .next m₂ σ₂
    | .ret v => Q (.ret v) m₂ σ₂

noncomputable def Stay (C : Cx) (D : Gh) (P : Sto → Prop) (h : Heap) (fp wr : List Addr) : Prop :=
  ∀ G' D' σ' (s' : Shared), RelC C G' D' σ' s' → Sub D D' → P σ' → ∀ b ∈ fp, b ∉ wr → ∀ o, h.get? b = some o → s'.heap.get? b = some o

inductive Ready (C : Cx) (A : Around) (env : Env) (vars : List Str) (gl : List (Str × V)) (own : Bool) (tgt : Expr) (G D : Gh) (m : Loc) (σ : Sto) (it : Value) (s : Shared) (xs : List V) (P : Sto → Prop) : Prop
  | mk (I : Addr) (fp wr : List Addr) (St : Nat → Heap → Prop) : it = .ref I → IW C A tgt I fp wr D xs St → St 0 s.heap → RelF C env vars gl own G D m σ s → Off env vars G D σ wr → P σ → Stay C D P s.heap fp wr → Ready C A env vars gl own tgt G D m σ it s xs P

inductive PostI (C : Cx) (A : Around) (env : Env) (vars : List Str) (gl : List (Str × V)) (own : Bool) (tgt : Expr) (G D : Gh) (m : Loc) (Q : List V → (Sto → Prop) → Sto → Prop) (it : Value) (s₂ : Shared) : Prop
  | mk (D' : Gh) (σ' : Sto) (xs : List V) (P : Sto → Prop) : DX G D D' → Ready C A env vars gl own tgt G D' m σ' it s₂ xs P → Q xs P σ' → PostI C A env vars gl own tgt G D m Q it s₂
noncomputable def AI (C : Cx) (env : Env) (vars : List Str) (gl : List (Str × V)) (own : Bool) (d : Nat) (iter tgt : Expr) (m : Loc) (σ : Sto) (Q : List V → (Sto → Prop) → Sto → Prop) : Prop :=
  ∀ A G D s, AOk A d → RelF C env vars gl own G D m σ s → wpAny C.M A (eval iter env) (fun x s₁ => wpAny C.M A (pyIter x) (PostI C A env vars gl own tgt G D m Q) (fun _ _ => False) s₁) (fun _ _ => False) s

open Classical in
noncomputable def withW (G : Gh) (wr : List Addr) (h : Heap) : Gh := fun a => if a ∈ wr then h.get? a else G a
theorem withW_in {wr : List Addr} {h : Heap} {a : Addr} (e : a ∈ wr) : withW G wr h a = h.get? a := by unfold withW; rw [if_pos e]
theorem withW_out {wr : List Addr} {h : Heap} {a : Addr} (e : a ∉ wr) : withW G wr h a = G a := by unfold withW; rw [if_neg e]

theorem RelF.withW (R : RelF C env vars gl own G D m σ s) {wr : List Addr} (hw : Off env vars G D σ wr) : RelF C env vars gl own (withW G wr s.heap) D m σ s where
  same := R.same
  g := fun a o e => by
    by_cases h : a ∈ wr
    · rw [withW_in h] at e; exact e
    · rw [withW_out h] at e; exact R.g a o e
  d := R.d
  base := fun a o e => by
    by_cases h : a ∈ wr
    · have := R.base a o e; rw [(hw a h).1] at this; cases this
    · rw [withW_out h]; exact R.base a o e
  nd := R.nd
  offG := fun a ha => by
    by_cases h : a ∈ wr
    · exact absurd ha (hw a h).2.2.1
    · rw [withW_out h]; exact R.offG a ha
  offD := R.offD
  pl := R.pl
  sto := R.sto
  ok := R.ok
  offL := ⟨by
    by_cases h : env.locals ∈ wr
    · exact absurd (Or.inl rfl) (hw _ h).2.2.2
    · rw [withW_out h]; exact R.offL.1, R.offL.2⟩
  ns := R.ns
  cl := fun i x c h1 h2 h3 => by
    obtain ⟨q1, q2, q3⟩ := R.cl i x c h1 h2 h3
    refine ⟨q1, q2, ?_⟩
    have hc : c ∉ wr := fun h => (hw _ h).2.2.2 (Or.inr ⟨i, x, h1, h2, h3⟩)
    rw [withW_out hc]; exact q3

theorem RelF.lessW {wr : List Addr} {h : Heap} {σ₀ : Sto} {D₀ : Gh} (R : RelF C env vars gl own (Mine.withW G wr h) D m σ s) (hw : Off env vars G D₀ σ₀ wr) (hb : ∀ a o, C.base.get? a = some o → G a = some o) (hdx : DX (Mine.withW G wr h) D₀ D)
    (hlive : ∀ a ∈ wr, ∃ o, h.get? a = some o) : RelF C env vars gl own G D m σ s ∧ DX G D₀ D ∧ Off env vars G D σ wr := by
  have up : ∀ a o, G a = some o → Mine.withW G wr h a = some o := fun a o e => by
    by_cases h' : a ∈ wr
    · rw [(hw a h').1] at e; cases e
    · rw [withW_out h']; exact e
  have none_of : ∀ a, Mine.withW G wr h a = none → G a = none := fun a e => by
    cases q : G a with
    | none => rfl
    | some o => rw [up a o q] at e; cases e
  refine ⟨⟨⟨R.same, fun a o e => R.g a o (up a o e), R.d, hb, R.nd, fun a ha => none_of a (R.offG a ha), R.offD, R.pl, R.sto⟩, R.ok, ⟨none_of _ R.offL.1, R.offL.2⟩, R.ns, fun i x c h1 h2 h3 => ?_⟩, hdx.less fun a g => ?_, fun a ha => ?_⟩
  · obtain ⟨q1, q2, q3⟩ := R.cl i x c h1 h2 h3
    refine ⟨q1, q2, ?_⟩
    have hc : c ∉ wr := fun h => (hw _ h).2.2.2 (Or.inr ⟨i, x, h1, h2, h3⟩)
    rw [withW_out hc] at q3; exact q3
  · cases q : G a with
    | none => exact absurd q g
    | some o => rw [up a o q]; exact nofun
  · obtain ⟨o, ho⟩ := hlive a ha
    have hg : Mine.withW G wr h a = some o := by rw [withW_in ha]; exact ho
    refine ⟨(hw a ha).1, hdx.off a (hw a ha).2.1 (by rw [hg]; exact nofun), fun hf => ?_, (hw a ha).2.2.2⟩
    have := R.offG a hf; rw [hg] at this; cases this

inductive LoopI (C : Cx) (env : Env) (vars : List Str) (gl : List (Str × V)) (own : Bool) (d : Nat) (tgt : Expr) (body : List Stmt) (P : Sto → Prop) (Q : Fl → Loc → Sto → Prop) (G D₁ : Gh) (St : Nat → Heap → Prop) (wr : List Addr) (xs : List V) (k : Nat) (s' : Shared) : Prop
  | mk (i : Nat) (m' : Loc) (D' : Gh) (σ' : Sto) : k = xs.length - i → i ≤ xs.length → DX G D₁ D' → St i s'.heap → RelF C env vars gl own G D' m' σ' s' → Off env vars G D' σ' wr → P σ' → Loop C env vars gl own d tgt body P Q (xs.drop i) m' σ' → LoopI C env vars gl own d tgt body P Q G D₁ St wr xs k s'
theorem S_For {tgt iter : Expr} {body : List Stmt} {p : Pos} {Q : Fl → Loc → Sto → Prop} (h : AI C env vars gl own d iter tgt m σ fun xs P σ₁ => Loop C env vars gl own d tgt body P Q xs m σ₁)
    (hs : ∀ x, foldedSetIterable iter env x = pure x := by intro _; with_unfolding_all exact rfl) : AS C env vars gl own d (exec (.For tgt iter body [] p) env) m σ Q := fun A G D s hA R => by
  refine wpAny_For (wpAny_mono (h A G D s hA R) (fun x s₁ h₁ => wpAny_mono h₁ (fun it s₂ h₂ => ?_) fun _ _ e => e) fun _ _ e => e) hs
  obtain ⟨D₁, σ₁, xs, P, dx₁, ⟨I, fp, wr, St, rfl, W, st₀, R₁, off₁, hP₁, stay⟩, hL⟩ := h₂
  have hb := R.base
  refine codeAny_forLoop_any (LoopI C env vars gl own d tgt body P Q G D₁ St wr xs) ?_ (xs.length - 0) ⟨0, m, D₁, σ₁, rfl, Nat.zero_le _, DX.refl _ _, st₀, R₁, off₁, hP₁, hL⟩
  rintro k s' ⟨i, m', D', σ', rfl, hi, dx', st', R', off', hP', hL'⟩
  by_cases hlt : i < xs.length
  · have hX : xs[i]? = some xs[i] := List.getElem?_eq_getElem hlt
    rw [List.drop_eq_getElem_cons hlt] at hL'
    refine wpAny_mono (W.item i _ s' _ hX st' fun v s₁ hgo => ?_) (fun _ _ e => e) fun _ _ e => e.elim
    refine wpAny_mono (hgo _ fun h' tk hitem st₂ kept => ?_) (fun _ _ e => e) fun _ _ e => e.elim
    obtain ⟨D₂, dx₂, R₂, hv, offS⟩ := item_in (t := tk) R' dx'.sub off' kept hitem
    have off₂ := offS wr (W.live i _ st') off'
    have R₃ := R₂.withW off₂
    refine wpAny_mono (hL' A _ D₂ _ v hA R₃ hv) (fun _ s₃ q₃ => ?_) fun _ _ e => e.elim
    obtain ⟨m₃, D₃, σ₃, dx₃, R₄, hbody⟩ := q₃
    refine wpAny_mono (hbody.run hA R₄ fun f s₄ fl m₄ D₄ σ₄ dx₄ hfl R₅ q => ?_) (fun _ _ e => e) fun _ _ e => e.elim
    obtain ⟨R₆, dx₆, off₆⟩ := R₅.lessW off₂ hb (dx₃.trans dx₄) (W.live _ _ st₂)
    have cont : (P σ₄ ∧ Loop C env vars gl own d tgt body P Q (xs.drop (i + 1)) m₄ σ₄) → ∃ k', k' < xs.length - i ∧ LoopI C env vars gl own d tgt body P Q G D₁ St wr xs k' s₄ := by
      rintro ⟨hP₄, hL₄⟩
      refine ⟨xs.length - (i + 1), Nat.sub_lt_sub_left hlt (Nat.lt_succ_self i), i + 1, m₄, D₄, σ₄, rfl, hlt, (dx'.trans dx₂).trans dx₆, ?_, R₆, off₆, hP₄, hL₄⟩
      refine W.frame _ _ _ st₂ fun b hb' o e => ?_
      by_cases hbw : b ∈ wr
      · exact R₅.g b o (by rw [withW_in hbw]; exact e)
      · -- what stood at the start stands still
        have e0 : s₂.heap.get? b = some o ∨ s₂.heap.get? b = none := by
          cases q0 : s₂.heap.get? b with
          | none => exact .inr rfl
          | some o0 =>
            have e1 := stay _ _ _ _ R₂.toRelC ((dx'.trans dx₂).sub) hP' b hb' hbw o0 q0
            rw [e] at e1; cases e1; exact .inl rfl
        rcases e0 with e0 | e0
        · exact stay _ _ _ _ R₆.toRelC (((dx'.trans dx₂).trans dx₆).sub) hP₄ b hb' hbw o e0
        · exact (W.old b hb' hbw _ st₀ e0).elim
    cases f <;> cases fl <;> first | exact hfl.elim | skip
    · exact cont q
    · exact ⟨.next, m₄, D₄, σ₄, ((dx₁.trans dx').trans dx₂).trans dx₆, trivial, R₆, q⟩
    · exact cont q
    · exact ⟨.ret _, m₄, D₄, σ₄, ((dx₁.trans dx').trans dx₂).trans dx₆, hfl, R₆, q⟩
  · have hie : i = xs.length := Nat.le_antisymm hi (Nat.not_lt.mp hlt)
    subst hie
    rw [List.drop_length] at hL'
    refine wpAny_mono (W.done s' _ st' fun h' tk kept => ?_) (fun _ _ e => e) fun _ _ e => e.elim
    exact wpAny_execs_nil ⟨.next, m', D', σ', dx₁.trans dx', trivial, R'.keepBut tk off' kept, hL'⟩
end
end Mine

set_option autoImplicit false
set_option linter.unusedVariables false
namespace Mine
open PySem

noncomputable def ownerNames : List String := ["enumerate", "zip", "dict_itemiterator", "dict_reverseitemiterator", "odict_iterator", "itertools.zip_longest", "itertools.pairwise"]

theorem letOwned_plain {M : Model} {A : Around} {E : Value → Shared → Prop} {s : Shared} {tgt : Expr} {I : Addr} {v : Value} {o : Obj} {n : String} {Q : Unit → Shared → Prop}
    (ho : s.heap.get? I = some o) (hc : o.cls = .type n) (hn : ownerNames.contains n = false) (h : Q () s) : wpAny M A (letOwnedTupleGo tgt (.ref I) v) Q E s := by
  unfold letOwnedTupleGo
  have key : wpAny M A (match v with
      | .ref a => (do
        let o ← load I
        match o.cls, o.data with
        | .type n, .fields vs =>
          if (ownerNames.contains n && vs[0]? == some (rawInt a)) = true then do
            rule "for.unpacks-the-owned-tuple"
            updateField I 0 .none
          else pure ()
        | _, _ => pure () : Sem Unit)
      | _ => pure ()) Q E s := by
    cases v with
    | ref a =>
      refine wpAny_bind (wpAny_load ho ?_)
      rw [hc]
      cases o.data <;> dsimp only <;> first | exact wpAny_pure h | (rw [hn]; exact wpAny_pure h)
    | _ => exact wpAny_pure h
  cases tgt <;> first | exact wpAny_pure h | (cases v <;> first | exact wpAny_pure h | exact key)

section
variable {C : Cx} {env : Env} {vars : List Str} {gl : List (Str × V)} {own : Bool} {d : Nat} {m m' : Loc} {σ σ' : Sto}
variable {A : Around} {G D D₀ D₁ : Gh} {s : Shared} {Q : List V → (Sto → Prop) → Sto → Prop}

theorem IW.ofWalks {tgt : Expr} {I : Addr} {fp wr : List Addr} {n : Nat} {Pw : Nat → Value → Prop} {St : Nat → Heap → Prop} {xs : List V} (W : Walks C.prog C.w A I fp wr n Pw St) (hn : n = xs.length)
    (hx : ∀ (i : Nat) v X, Pw i v → xs[i]? = some X → VR C.w D v X) (hl : ∀ i h, St i h → ∀ a ∈ wr, ∃ o, h.get? a = some o)
    (hold : ∀ b ∈ fp, b ∉ wr → ∀ h : Heap, St 0 h → h.get? b = none → False)
    (hc : ∀ i h, St i h → ∃ o n, h.get? I = some o ∧ o.cls = .type n ∧ ownerNames.contains n = false) : IW C A tgt I fp wr D xs St where
  live := hl
  sub := W.sub
  old := hold
  frame := W.frame
  item := fun i X s K hX st h => W.item i s K _ (by rw [hn]; exact (List.getElem?_eq_some_iff.mp hX).1) st fun v h' tk hP st' hk => h v _ fun Q' q => by
    obtain ⟨o, nm, ho, hcl, hno⟩ := hc _ _ st'
    exact letOwned_plain ho hcl hno (q h' tk (.inl (hx i v X hP hX)) st' hk)
  self := fun i s K st h => W.self i s K _ st h
  done := fun s K st h => W.done s K _ (by rw [hn]; exact st) fun h' tk hk => h h' tk hk

inductive Has (σ : Sto) : V → AO → (Sto → Prop) → Prop
  | lst (xs : List V) : Has σ (.lst xs) (.list xs) (fun _ => True)
  | dct (es : List (V × V)) : Has σ (.dct es) (.dict es) (fun _ => True)
  | refL {a : Addr} {o : Obj} {xs : List V} : (a, o, AO.list xs) ∈ σ → Has σ (.ref a) (.list xs) (fun σ' => (a, o, AO.list xs) ∈ σ')
  | refD {a : Addr} {o : Obj} {es : List (V × V)} : (a, o, AO.dict es) ∈ σ → Has σ (.ref a) (.dict es) (fun σ' => (a, o, AO.dict es) ∈ σ')

theorem Has.run {x : V} {ao : AO} {P : Sto → Prop} (h : Has σ x ao P) (R : RelC C G D σ s) {v : Value} (hv : VR C.w D v x) :
    ∃ a o, v = .ref a ∧ s.heap.get? a = some o ∧ HR C.w D o ao ∧ P σ ∧ ∀ G' D' σ' (s' : Shared), RelC C G' D' σ' s' → Sub D D' → P σ' → s'.heap.get? a = some o := by
  cases h with
  | lst xs => obtain ⟨_, _, _, rfl, e, r⟩ := VR.lstI hv; exact ⟨_, _, rfl, R.d _ _ e, ⟨_, _, rfl, by simpa using r⟩, trivial, fun G' D' σ' s' R' hs _ => R'.d _ _ (hs _ _ e)⟩
  | dct xs => obtain ⟨_, _, _, rfl, e, r⟩ := VR.dctI hv; exact ⟨_, _, rfl, R.d _ _ e, ⟨_, _, rfl, by simpa using r⟩, trivial, fun G' D' σ' s' R' hs _ => R'.d _ _ (hs _ _ e)⟩
  | refL hm => (first | obtain rfl := VR.biI hv | obtain rfl := VR.typeI hv | obtain rfl := VR.refI hv | obtain ⟨_, rfl⟩ := VR.intI hv | obtain ⟨_, rfl⟩ := VR.strI hv | obtain rfl := VR.boolI hv | obtain rfl := VR.noneI hv | obtain rfl := VRs.nilI hv | cases hv); exact ⟨_, _, rfl, R.pl _ hm, R.sto _ hm, hm, fun G' D' σ' s' R' hs hm' => R'.pl _ hm'⟩
  | refD hm => (first | obtain rfl := VR.biI hv | obtain rfl := VR.typeI hv | obtain rfl := VR.refI hv | obtain ⟨_, rfl⟩ := VR.intI hv | obtain ⟨_, rfl⟩ := VR.strI hv | obtain rfl := VR.boolI hv | obtain rfl := VR.noneI hv | obtain rfl := VRs.nilI hv | cases hv); exact ⟨_, _, rfl, R.pl _ hm, R.sto _ hm, hm, fun G' D' σ' s' R' hs hm' => R'.pl _ hm'⟩

theorem Has.isList {x : V} {xs : List V} {P : Sto → Prop} (h : Has σ x (.list xs) P) (R : RelC C G D σ s) {v : Value} (hv : VR C.w D v x) :
    ∃ a vs n, v = .ref a ∧ s.heap.get? a = some (lstO vs n) ∧ VRs C.w D vs.toList xs := by
  obtain ⟨a, o, rfl, ho, ⟨vs, n, rfl, hr⟩, _⟩ := h.run R hv
  exact ⟨a, vs, n, rfl, ho, hr⟩

theorem RelF.offNew (R : RelF C env vars gl own G D m σ s) (o : Obj) : Off env vars G D σ [s.heap.objs.size] := fun a ha => by
  simp at ha; subst ha
  refine ⟨?_, R.toRelC.new_D, R.toRelC.new_notFoot, fun hm => ?_⟩
  · exact R.toRelC.new_G
  · obtain ⟨o, e⟩ := R.mineLives hm; exact Nat.lt_irrefl _ (Heap.lt_size e)

theorem RelF.push (R : RelF C env vars gl own G D m σ s) (o : Obj) : RelF C env vars gl own G D m σ { s with heap := s.heap.push o } := R.back (R.lifted.push o) (DX.refl _ _)

theorem AI_list {iter tgt : Expr} (h : AT C env vars gl own d (eval iter env) m σ fun X σ₁ => ∃ xs P, Has σ₁ X (.list xs) P ∧ Q xs P σ₁) : AI C env vars gl own d iter tgt m σ Q := fun A G D s hA R =>
  h.run hA R fun v s₁ X D₁ σ₁ a b c hpp => by
    obtain ⟨xs, P, hH, q⟩ := hpp
    obtain ⟨ax, o, rfl, ho, ⟨vs, n, rfl, hr⟩, hP, hst⟩ := hH.run c.toRelC b
    have hl : s₁.heap.IsList ax vs := ⟨_, ho, rfl, n, rfl⟩
    have hne : ax ≠ s₁.heap.objs.size := Nat.ne_of_lt (Heap.lt_size ho)
    refine wpAny_pyIter_list hl ⟨D₁, σ₁, xs, P, a, ⟨s₁.heap.objs.size, _, _, _, rfl, IW.ofWalks (Walks.list hA.h s₁.heap.objs.size ax hne vs) (by rw [← hr.length]; simp) ?_ ?_ ?_ ?_, ⟨⟨_, Heap.get?_push_size _ rfl, rfl, rfl⟩, hl.push _⟩, c.push _, c.offNew (lstO #[] 0), hP, ?_⟩, q⟩
    · intro i u X e hX
      obtain ⟨u', e', r⟩ := hr.get hX
      rw [Array.getElem?_toList, e] at e'; cases e'; exact r
    · rintro i h ⟨⟨o, ho, _⟩, _⟩ a ha; simp at ha; subst ha; exact ⟨o, ho⟩
    · rintro b hb hbw h ⟨_, o, ho, _⟩ e
      simp at hb hbw
      rcases hb with rfl | rfl
      · exact hbw rfl
      · rw [ho] at e; cases e
    · rintro i h ⟨⟨o, ho, hc, _⟩, _⟩; exact ⟨o, _, ho, hc, by decide⟩
    · intro G' D' σ' s' R' hs hP' b hb hbw o' e
      simp at hb hbw
      rcases hb with rfl | rfl
      · exact absurd rfl hbw
      · rw [Heap.get?_push_of_some _ ho] at e; cases e; exact hst G' D' σ' s' R' hs hP'

noncomputable def rangeL (a c : Int) (n : Nat) : List V := (List.range n).map fun (i : Nat) => V.int (a + (i : Int) * c)
theorem AI_range {iter tgt : Expr} (h : AT C env vars gl own d (eval iter env) m σ fun X σ₁ => ∃ (a b c : Int) (n : Nat), X = .rng a b c ∧ Builtin.Range.small a b c = true ∧ Builtin.Range.rangeSize a b c = (n : Int) ∧ Q (rangeL a c n) (fun _ => True) σ₁) :
    AI C env vars gl own d iter tgt m σ Q := fun A G D s hA R =>
  h.run hA R fun v s₁ X D₁ σ₁ dx b c hpp => by
    obtain ⟨x, y, z, n, hX, hsm, hsz, q⟩ := hpp
    subst hX
    obtain ⟨_, _, _, _, rfl, e⟩ := VR.rngI b
    · skip
      have ho := c.d _ _ e
      refine wpAny_pyIter_range ho hsm ⟨D₁, σ₁, _, fun _ => True, dx, ⟨s₁.heap.objs.size, _, _, _, rfl, IW.ofWalks (Walks.range hA.h s₁.heap.objs.size x z n) (by simp [rangeL]) ?_ ?_ ?_ ?_, ?_, c.push _, c.offNew (lstO #[] 0), trivial, ?_⟩, q⟩
      · rintro i u X ⟨t, rfl⟩ hX
        have hlt : i < n := by simpa [rangeL] using (List.getElem?_eq_some_iff.mp hX).1
        simp [rangeL, hlt] at hX
        subst hX
        exact .int _ _
      · rintro i h st a ha; simp at ha; subst ha; exact ⟨_, st⟩
      · rintro b hb hbw h _ e; exact hbw hb
      · rintro i h st; exact ⟨_, _, st, rfl, by decide⟩
      · show IsRangeIter _ _ _ _ _
        rw [hsz]; simpa using Heap.get?_push_size _ rfl
      · intro G' D' σ' s' R' hs hP' b hb hbw o' e'
        exact absurd hb hbw
end
end Mine

set_option autoImplicit false
set_option linter.unusedVariables false
namespace Mine
open PySem

noncomputable def clOf (env : Env) : List (Str × NameKind) → List (Str × Addr) → List (Str × Addr)
  | [], acc => acc
  | (n, k) :: r, acc => if k == .free then (match env.cells.lookup n with
      | some c => clOf env r ((n, c) :: acc)
      | none => clOf env r acc) else clOf env r acc

theorem closureFor_eq {sc : Scope} {env : Env} (h : ∀ x ∈ sc.names, x.2 = .free → ∃ c, env.cells.lookup x.1 = some c) : closureFor sc env = pure (clOf env sc.names []) := by
  have key : ∀ (names : List (Str × NameKind)) (acc : List (Str × Addr)) (f : Str × NameKind → List (Str × Addr) → Sem (ForInStep (List (Str × Addr)))),
      (∀ n k a, f (n, k) a = if k == .free then (do let c ← cellOf env n; pure (.yield ((n, c) :: a))) else pure (.yield a)) → (∀ x ∈ names, x.2 = .free → ∃ c, env.cells.lookup x.1 = some c) →
      forIn names acc f = pure (clOf env names acc) := by
    intro names
    induction names with
    | nil => intro acc f _ _; rw [List.forIn_nil]; rfl
    | cons p r ih =>
      obtain ⟨n, k⟩ := p
      intro acc f hf hx
      rw [List.forIn_cons, hf]
      unfold clOf
      cases hk : (k == NameKind.free) with
      | false =>
        simp only [Bool.false_eq_true, if_false, pure_bind]
        exact ih acc f hf fun x h => hx x (.tail _ h)
      | true =>
        obtain ⟨c, hc⟩ := hx (n, k) (.head _) (beq_iff_eq.mp hk)
        simp only [if_true, cellOf, hc, pure_bind]
        exact ih _ f hf fun x h => hx x (.tail _ h)
  unfold closureFor
  show (forIn sc.names ([] : List (Str × Addr)) _ >>= fun cs => pure cs) = _
  rw [key sc.names [] _ (fun n k a => by cases hk : (k == NameKind.free) <;> simp [hk]) h]
  rfl

theorem clOf_mem {env : Env} {n : Str} {c : Addr} : ∀ {names : List (Str × NameKind)} {acc : List (Str × Addr)}, (n, c) ∈ clOf env names acc → (n, c) ∈ acc ∨ ((n, NameKind.free) ∈ names ∧ env.cells.lookup n = some c)
  | [], _, h => .inl h
  | (y, k) :: r, acc, h => by
    unfold clOf at h
    cases hk : (k == NameKind.free) with
    | false =>
      rw [hk] at h
      simp only [Bool.false_eq_true, if_false] at h
      exact (clOf_mem h).imp id fun q => ⟨.tail _ q.1, q.2⟩
    | true =>
      rw [hk] at h
      simp only [if_true] at h
      cases hc : env.cells.lookup y with
      | none => rw [hc] at h; exact (clOf_mem h).imp id fun q => ⟨.tail _ q.1, q.2⟩
      | some c' =>
        rw [hc] at h
        rcases clOf_mem h with q | q
        · rcases List.mem_cons.mp q with e | q
          · cases e; rw [← beq_iff_eq.mp hk]; exact .inr ⟨.head _, hc⟩
          · exact .inl q
        · exact .inr ⟨.tail _ q.1, q.2⟩
theorem clOf_keys {env : Env} : ∀ {names : List (Str × NameKind)} {acc : List (Str × Addr)}, (names.map (·.1)).Nodup → (acc.map (·.1)).Nodup → (∀ n ∈ acc.map (·.1), n ∉ names.map (·.1)) → ((clOf env names acc).map (·.1)).Nodup
  | [], _, _, h, _ => h
  | (y, k) :: r, acc, h1, h2, h3 => by
    have h1' := List.nodup_cons.mp h1
    have h3' : ∀ n ∈ acc.map (·.1), n ∉ r.map (·.1) := fun n hn q => h3 n hn (.tail _ q)
    have hy : y ∉ acc.map (·.1) := fun q => h3 y q (.head _)
    unfold clOf
    split
    · split
      · refine clOf_keys h1'.2 (List.nodup_cons.mpr ⟨hy, h2⟩) fun n hn => ?_
        rcases List.mem_cons.mp hn with rfl | hn
        · exact h1'.1
        · exact h3' n hn
      · exact clOf_keys h1'.2 h2 h3'
    · exact clOf_keys h1'.2 h2 h3'
theorem lookup_of_nodup {l : List (Str × Addr)} (hn : (l.map (·.1)).Nodup) {n : Str} {c : Addr} (h : (n, c) ∈ l) : l.lookup n = some c := by
  induction l with
  | nil => cases h
  | cons p r ih =>
    obtain ⟨y, b⟩ := p
    have hn' := List.nodup_cons.mp hn
    rcases List.mem_cons.mp h with e | h
    · cases e; simp [List.lookup_cons]
    · have hne : n ≠ y := fun e => hn'.1 (e ▸ List.mem_map.mpr ⟨(n, c), h, rfl⟩)
      rw [List.lookup_cons]
      have hb : (n == y) = false := beq_eq_false_iff_ne.mpr hne
      rw [hb]; exact ih hn'.2 h
theorem clOf_has {env : Env} {n : Str} {c : Addr} : ∀ {names : List (Str × NameKind)} {acc : List (Str × Addr)}, ((n, NameKind.free) ∈ names ∧ env.cells.lookup n = some c) ∨ (n, c) ∈ acc → (n, c) ∈ clOf env names acc
  | [], _, h => h.elim (fun q => by cases q.1) id
  | (y, k) :: r, acc, h => by
    unfold clOf
    cases hk : (k == NameKind.free) with
    | false =>
      simp only [Bool.false_eq_true, if_false]
      refine clOf_has (h.imp (fun q => ⟨?_, q.2⟩) id)
      rcases List.mem_cons.mp q.1 with e | e
      · cases e; exact absurd hk (by decide)
      · exact e
    | true =>
      simp only [if_true]
      cases hc : env.cells.lookup y with
      | none =>
        refine clOf_has (h.imp (fun q => ⟨?_, q.2⟩) id)
        rcases List.mem_cons.mp q.1 with e | e
        · cases e; rw [hc] at q; cases q.2
        · exact e
      | some c' =>
        refine clOf_has ?_
        rcases h with q | q
        · rcases List.mem_cons.mp q.1 with e | e
          · cases e; have q2 := q.2; rw [hc] at q2; cases q2; exact .inr (.head _)
          · exact .inl ⟨e, q.2⟩
        · exact .inr (.tail _ q)

theorem lookup_relabel {env : Env} (hf : env.scope.kind = .function) : ∀ {names : List (Str × NameKind)} {x : Str} {k : NameKind}, names.lookup x = some k →
    (names.map fun (n, k) => if (k == NameKind.free && env.scope.kind == .function && env.kindOf n == some .cell) then (n, NameKind.cell) else (n, k)).lookup x = some (if k == .free && env.kindOf x == some .cell then .cell else k)
  | [], _, _, h => by simp at h
  | (n, k') :: r, x, k, h => by
    rw [List.lookup_cons] at h
    show List.lookup x ((if (k' == NameKind.free && env.scope.kind == .function && env.kindOf n == some .cell) = true then (n, NameKind.cell) else (n, k')) :: _) = _
    cases hx : x == n with
    | true =>
      rw [hx] at h; cases h
      have e := beq_iff_eq.mp hx; subst e
      rw [hf]
      by_cases hc : (k' == NameKind.free && env.kindOf x == some .cell) = true
      · have hc' : (k' == NameKind.free && (ScopeKind.function == ScopeKind.function) && env.kindOf x == some .cell) = true := by simpa using hc
        rw [if_pos hc', if_pos hc]; simp
      · have hc' : ¬ (k' == NameKind.free && (ScopeKind.function == ScopeKind.function) && env.kindOf x == some .cell) = true := by simpa using hc
        rw [if_neg hc', if_neg hc]; simp
    | false =>
      rw [hx] at h
      have ih := lookup_relabel hf h
      by_cases hc : (k' == NameKind.free && env.scope.kind == .function && env.kindOf n == some .cell) = true
      · rw [if_pos hc, List.lookup_cons]
        show (match x == n with | true => _ | false => _) = _
        rw [hx]; exact ih
      · rw [if_neg hc, List.lookup_cons]
        show (match x == n with | true => _ | false => _) = _
        rw [hx]; exact ih

noncomputable def compOk (sc osc : Scope) (vars locals caps gl : List Str) : Bool :=
  sc.kind == .function && nodupB (sc.names.map (·.1)) && nodupB (locals ++ caps) &&
  sc.names.all (fun p => !(p.2 == .cell) && (!(p.2 == .free) || caps.contains p.1)) &&
  locals.all (fun x => !(x == ("__debug__" : Str)) && sc.names.lookup x == some .local) &&
  caps.all (fun x => !(x == ("__debug__" : Str)) && sc.names.lookup x == some .free && osc.names.lookup x == some .cell && vars.contains x) &&
  gl.all fun x => !(x == ("__debug__" : Str)) && sc.names.lookup x == some .globalImplicit

inductive Caps : List Str → Loc → List Str → Loc → Prop
  | nil {vars : List Str} {m : Loc} : Caps vars m [] []
  | cons {vars : List Str} {m : Loc} {x : Str} {X : V} {cs : List Str} {ms : Loc} : Lk vars m x X → Caps vars m cs ms → Caps vars m (x :: cs) (some X :: ms)
  | skip {vars : List Str} {m : Loc} {x : Str} {cs : List Str} {ms : Loc} : Caps vars m cs ms → Caps vars m (x :: cs) (none :: ms)
theorem Caps.get {vars : List Str} {m : Loc} {cs : List Str} {ms : Loc} (h : Caps vars m cs ms) : ∀ {i : Nat} {x : Str} {X : V}, cs[i]? = some x → ms[i]? = some (some X) → Lk vars m x X := by
  induction h with
  | nil => intro i x X h; simp at h
  | cons hl _ ih =>
    intro i x X h1 h2
    cases i with
    | zero => simp at h1 h2; subst h1 h2; exact hl
    | succ i => exact ih (by simpa using h1) (by simpa using h2)
  | skip _ ih =>
    intro i x X h1 h2
    cases i with
    | zero => simp at h2
    | succ i => exact ih (by simpa using h1) (by simpa using h2)
section
variable {C : Cx} {env : Env} {vars : List Str} {gl gl' : List (Str × V)} {own : Bool} {d : Nat} {m m' : Loc} {σ σ' : Sto}
variable {A : Around} {G D D₀ D₁ : Gh} {s : Shared}

noncomputable def ATs (C : Cx) (env : Env) (vars : List Str) (gl : List (Str × V)) (own : Bool) (d : Nat) : List Expr → Loc → Sto → (Bool → Sto → Prop) → Prop
  | [], m, σ, K => K true σ
  | [c], m, σ, K => AB C env vars gl own d (isTrue c env (eval c env)) m σ K
  | _, _, _, _ => False

noncomputable def CompL (C : Cx) (env : Env) (vars : List Str) (gl : List (Str × V)) (d : Nat) (tgt elt : Expr) (ifs : List Expr) (P : Sto → Prop) (Q : List V → Sto → Prop) : List V → List V → Loc → Sto → Prop
  | [], acc, m, σ => Q acc σ
  | X :: xs, acc, m, σ => AA C env vars gl false d (assign tgt env) X m σ fun m₁ σ₁ => ATs C env vars gl false d ifs m₁ σ₁ fun b σ₂ =>
    (b = true → AT C env vars gl false d (eval elt env) m₁ σ₂ fun Y σ₃ => P σ₃ ∧ CompL C env vars gl d tgt elt ifs P Q xs (acc ++ [Y]) m₁ σ₃) ∧
    (b = false → P σ₂ ∧ CompL C env vars gl d tgt elt ifs P Q xs acc m₁ σ₂)

theorem ATs.run {ifs : List Expr} {K : Bool → Sto → Prop} (h : ATs C env vars gl own d ifs m σ K) (hA : AOk A d) (R : RelF C env vars gl own G D m σ s) :
    wpAny C.M A (forIn ifs true fun c r => if r = true then do let ok ← isTrue c env (eval c env); pure (ForInStep.yield ok) else pure (ForInStep.yield r)) (PostB C env vars gl own G D m K) (fun _ _ => False) s := by
  match ifs, h with
  | [], h => exact wpAny_tests_nil ⟨D, σ, DX.refl _ _, R, h⟩
  | [c], h => exact wpAny_tests_one (h A G D s hA R)
  | _ :: _ :: _, h => exact h.elim

inductive CompI (C : Cx) (env : Env) (vars : List Str) (gl : List (Str × V)) (d : Nat) (tgt elt : Expr) (ifs : List Expr) (P : Sto → Prop) (Q : List V → Sto → Prop) (G D : Gh) (St : Nat → Heap → Prop) (acc : Addr) (wr : List Addr) (xs : List V) (k : Nat) (s' : Shared) : Prop
  | mk (i : Nat) (m' : Loc) (D' : Gh) (σ' : Sto) (ys : List V) (vs : Array Value) (n : Nat) : k = xs.length + 1 - i → i ≤ xs.length → ys.length ≤ i → DX G D D' → St i s'.heap → RelF C env vars gl false G D' m' σ' s' → Off env vars G D' σ' (acc :: wr) → P σ' →
    s'.heap.get? acc = some (lstO vs n) → VRs C.w D' vs.toList ys → CompL C env vars gl d tgt elt ifs P Q (xs.drop i) ys m' σ' → CompI C env vars gl d tgt elt ifs P Q G D St acc wr xs k s'
theorem comp_loop {elt tgt iter : Expr} {ifs : List Expr} {scope : Scope} {pos : Pos} {I acc : Addr} {fp wr : List Addr} {xs : List V} {St : Nat → Heap → Prop} {P : Sto → Prop} {Q : List V → Sto → Prop}
    {R' : Result → Shared → Prop} (W : IW C A tgt I fp wr D₀ xs St) (hA : AOk A d) (hsz : xs.length ≤ sizeLine) (hst : St 0 s.heap) (R : RelF C env vars gl false G D m σ s) (hD : Sub D₀ D)
    (hoff : Off env vars G D σ (acc :: wr)) (haw : acc ∉ wr) (haf : acc ∉ fp) (hacc : s.heap.get? acc = some (lstO #[] 0)) (hP : P σ) (hstay : Stay C D₀ P s.heap fp wr)
    (hL : CompL C env vars gl d tgt elt ifs P Q xs [] m σ)
    (hQ : ∀ s' D' σ' m' vs n ys, DX G D D' → RelF C env vars gl false G D' m' σ' s' → Off env vars G D' σ' [acc] → s'.heap.get? acc = some (lstO vs n) → VRs C.w D' vs.toList ys → Q ys σ' → R' (.ok .next) s') :
    codeAny C.M A (.compLoop (.ListComp elt [⟨tgt, iter, ifs, 0⟩] scope pos) 0 (.ref I) (.ref acc) env) R' s := by
  refine codeAny_loop rfl (CompI C env vars gl d tgt elt ifs P Q G D St acc wr xs) ?_ (xs.length + 1 - 0)
    ⟨0, m, D, σ, [], #[], 0, rfl, Nat.zero_le _, Nat.zero_le _, DX.refl _ _, hst, R, hoff, hP, hacc, .nil, hL⟩
  rintro k s' ⟨i, m', D', σ', ys, vs, n, rfl, hi, hys, dx', st', R₁, off', hP', hac', hvs', hL'⟩
  show wpAny _ A ((compTurn (.ListComp elt [⟨tgt, iter, ifs, 0⟩] scope pos) 0 (.ref I) (.ref acc) env).onRaise (fun x => do noteFrame x env; theTreesLotGoes x)) _ _ s'
  refine wpAny_noted ?_
  rw [compTurn_list]
  refine wpAny_bind (wpAny_standAt (wpAny_bind ?_))
  have offw : Off env vars G D' σ' wr := fun a ha => off' a (.tail _ ha)
  by_cases hlt : i < xs.length
  · have hX : xs[i]? = some xs[i] := List.getElem?_eq_getElem hlt
    rw [List.drop_eq_getElem_cons hlt] at hL'
    refine wpAny_mono (W.item i _ s' _ hX st' fun v s₁ hgo => ?_) (fun _ _ e => e) fun _ _ e => e.elim
    refine wpAny_bind (wpAny_mono (hgo _ fun h' tk hitem st₂ kept => ?_) (fun _ _ e => e) fun _ _ e => e.elim)
    obtain ⟨D₂, dx₂, R₂, hv, offS⟩ := item_in (t := tk) R₁ (hD.trans dx'.sub) offw kept hitem
    have hac₂ : h'.get? acc = some (lstO vs n) := kept acc _ haw hac'
    have offa : Off env vars G D₂ σ' (acc :: wr) := offS _ (fun a ha => by
      rcases List.mem_cons.mp ha with rfl | ha
      · exact ⟨_, hac'⟩
      · exact W.live i _ st' a ha) off'
    have R₃ := R₂.withW offa
    have live₂ : ∀ a ∈ acc :: wr, ∃ o, h'.get? a = some o := fun a ha => by
      rcases List.mem_cons.mp ha with rfl | ha
      · exact ⟨_, hac₂⟩
      · exact W.live _ _ st₂ a ha
    have stOk : ∀ {G₅ D₅ σ₅ m₅} {s₅ : Shared}, RelF C env vars gl false (withW G (acc :: wr) h') D₅ m₅ σ₅ s₅ → Sub D₀ D₅ → P σ₅ → RelC C G₅ D₅ σ₅ s₅ → St (i + 1) s₅.heap := by
      intro G₅ D₅ σ₅ m₅ s₅ R₅ hs₅ hP₅ RC₅
      refine W.frame _ _ _ st₂ fun b hb' o e => ?_
      by_cases hbw : b ∈ wr
      · exact R₅.g b o (by rw [withW_in (.tail _ hbw)]; exact e)
      · cases q0 : s.heap.get? b with
        | none => exact (W.old b hb' hbw _ hst q0).elim
        | some o0 =>
          have e1 := hstay _ _ _ _ R₂.toRelC ((hD.trans dx'.sub).trans dx₂.sub) hP' b hb' hbw o0 q0
          have e2 : h'.get? b = some o0 := e1
          rw [e] at e2; cases e2
          exact hstay _ _ _ _ RC₅ hs₅ hP₅ b hb' hbw o q0
    refine wpAny_bind (wpAny_mono (hL' A _ D₂ _ v hA R₃ hv) (fun _ s₃ q₃ => ?_) fun _ _ e => e.elim)
    obtain ⟨m₃, D₃, σ₃, dx₃, R₄, htests⟩ := q₃
    refine wpAny_bind (wpAny_mono (htests.run hA R₄) (fun ok s₄ q₄ => ?_) fun _ _ e => e.elim)
    obtain ⟨D₄, σ₄, dx₄, R₅, q₅⟩ := q₄
    cases ok with
    | false =>
      obtain ⟨hP₅, hL₅⟩ := q₅.2 rfl
      obtain ⟨R₆, dx₆, off₆⟩ := R₅.lessW offa R.base (dx₃.trans dx₄) live₂
      have hac₅ : s₄.heap.get? acc = some (lstO vs n) := R₅.g acc _ (by rw [withW_in (.head _)]; exact hac₂)
      have hsub : Sub D' D₄ := (dx₂.trans dx₆).sub
      exact wpAny_pure ⟨rfl, xs.length + 1 - (i + 1), Nat.sub_lt_sub_left (Nat.lt_succ_of_lt hlt) (Nat.lt_succ_self i), i + 1, m₃, D₄, σ₄, ys, vs, n, rfl, hlt, Nat.le_succ_of_le hys, (dx'.trans dx₂).trans dx₆, stOk R₅ ((hD.trans dx'.sub).trans hsub) hP₅ R₆.toRelC, R₆, off₆, hP₅, hac₅, hvs'.mono hsub, hL₅⟩
    | true =>
      refine wpAny_bind (wpAny_bind ((q₅.1 rfl).run hA R₅ fun y s₅ Y D₅ σ₅ dx₅ hy R₆ q₆ => ?_) |> fun h => wpAny_mono h (fun _ _ e => e) fun _ _ e => e.elim)
      obtain ⟨hP₆, hL₆⟩ := q₆
      obtain ⟨R₇, dx₇, off₇⟩ := R₆.lessW offa R.base ((dx₃.trans dx₄).trans dx₅) live₂
      have hac₅ : s₅.heap.get? acc = some (lstO vs n) := R₆.g acc _ (by rw [withW_in (.head _)]; exact hac₂)
      have hsub : Sub D' D₅ := (dx₂.trans dx₇).sub
      have hvs₅ := hvs'.mono hsub
      have hvl : vs.size = ys.length := by rw [← hvs₅.length]; simp
      refine wpAny_bind (wpAny_list_append_plain (hsz := Nat.le_trans (Nat.le_of_eq hvl) (Nat.le_trans hys (Nat.le_trans hi hsz))) ⟨n, hac₅⟩ fun h₆ hl₆ hs₆ => ?_)
      obtain ⟨n₆, hl₆⟩ := hl₆
      have R₈ : RelF C env vars gl false G D₅ m₃ σ₅ { s₅ with heap := h₆ } := by
        have := R₇.keepBut (h' := h₆) s₅.toks (wr := [acc]) (fun a ha => by simp at ha; subst ha; exact off₇ a (.head _)) fun b o hb e => hs₆.extBut b o (by simpa using hb) e
        exact this
      have st₇ := stOk (s₅ := s₅) R₆ ((hD.trans dx'.sub).trans hsub) hP₆ R₇.toRelC
      refine wpAny_pure (wpAny_pure ⟨rfl, xs.length + 1 - (i + 1), Nat.sub_lt_sub_left (Nat.lt_succ_of_lt hlt) (Nat.lt_succ_self i), i + 1, m₃, D₅, σ₅, ys ++ [Y], vs.push y, n₆, rfl, hlt, by rw [List.length_append]; exact Nat.succ_le_succ hys, (dx'.trans dx₂).trans dx₇, ?_, R₈, off₇, hP₆, hl₆, ?_, hL₆⟩)
      · refine W.frame _ _ _ st₇ fun b hb o e => hs₆.extBut b o ?_ e
        rintro rfl
        exact haf hb
      · rw [Array.toList_push]
        exact hvs₅.append (.cons hy .nil)
  · have hie : i = xs.length := Nat.le_antisymm hi (Nat.not_lt.mp hlt)
    subst hie
    rw [List.drop_length] at hL'
    refine wpAny_mono (W.done s' _ st' fun h' tk kept => ?_) (fun _ _ e => e) fun _ _ e => e.elim
    refine wpAny_pure (hQ _ D' σ' m' vs n ys dx' (R₁.keepBut tk offw kept) (fun a ha => off' a (by simp at ha; subst ha; exact .head _)) (kept acc _ haw hac') hvs' hL')
end
end Mine
namespace Mine
open PySem
section
variable {C : Cx} {env : Env} {vars : List Str} {gl gl' : List (Str × V)} {own : Bool} {d : Nat} {m m' : Loc} {σ σ' : Sto}
variable {A : Around} {G D D₀ D₁ : Gh} {s : Shared}

theorem RelC.addL (R : RelC C G D σ s) {a : Addr} {vs : Array Value} {n : Nat} {ys : List V} (h1 : G a = none) (h2 : D a = none) (h3 : a ∉ foot σ) (ho : s.heap.get? a = some (lstO vs n)) (hr : VRs C.w D vs.toList ys) :
    RelC C G D ((a, lstO vs n, .list ys) :: σ) s where
  same := R.same
  g := R.g
  d := R.d
  base := R.base
  nd := List.nodup_cons.mpr ⟨h3, R.nd⟩
  offG := fun b hb => by
    rcases List.mem_cons.mp hb with rfl | hb
    · exact h1
    · exact R.offG b hb
  offD := fun b hb => by
    rcases List.mem_cons.mp hb with rfl | hb
    · exact h2
    · exact R.offD b hb
  pl := fun p hp => by
    rcases List.mem_cons.mp hp with rfl | hp
    · exact ho
    · exact R.pl p hp
  sto := fun p hp => by
    rcases List.mem_cons.mp hp with rfl | hp
    · exact ⟨vs, n, rfl, hr⟩
    · exact R.sto p hp

theorem comp_whole {elt tgt iter : Expr} {ifs : List Expr} {scope : Scope} {pos pos' : Pos} {locals caps : List Str} {ms : Loc} {use : Option (Value → Sem Unit)} {K : Value → Shared → Prop} {Q : List V → Sto → Prop}
    (hA : AOk A d) (R : RelF C env vars gl own G D m σ s) (hok : compOk scope env.scope vars locals caps (gl'.map (·.1)) = true) (hgl : ∀ p ∈ gl', GlobR C p.1 p.2) (hcaps : Caps vars m caps ms)
    (h : AI C env vars gl own d iter tgt m σ fun xs P σ₁ => xs.length ≤ sizeLine ∧ ∀ env', env'.scope = relabel scope env → CompL C env' (locals ++ caps) gl' d tgt elt ifs P Q xs [] ((locals.map fun _ => none) ++ ms) σ₁)
    (hs : ∀ x, foldedSetIterable iter env x = pure x)
    (hK : ∀ s' D' σ' a vs n ys L mm, DX G D D' → RelF C env vars gl own G D' m ((a, lstO vs n, .list ys) :: σ') s' → Off env vars G D' ((a, lstO vs n, .list ys) :: σ') [L] → s'.heap.Ns L mm → Q ys σ' → compPost C.M A (fun _ _ => False) use K (.ref a) L (.ok .next) s') :
    wpAny C.M A (comprehension (.ListComp elt [⟨tgt, iter, ifs, 0⟩] scope pos) scope env pos' (newList []) false (eval iter env) use) K (fun _ _ => False) s := by
  simp only [compOk, Bool.and_eq_true, Bool.not_eq_true', beq_iff_eq, Bool.or_eq_true] at hok
  obtain ⟨⟨⟨⟨⟨⟨k1, k2⟩, k3⟩, k4⟩, k5⟩, k6⟩, k7⟩ := hok
  have ndN : (scope.names.map (·.1)).Nodup := nodupB_ok k2
  have ndV : (locals ++ caps).Nodup := nodupB_ok k3
  have hnc : ∀ x ∈ scope.names, x.2 ≠ .cell := fun x hx e => by
    have := List.all_eq_true.mp k4 x hx
    simp [e] at this
  have hfree : ∀ x ∈ scope.names, x.2 = .free → x.1 ∈ caps := fun x hx e => by
    have := List.all_eq_true.mp k4 x hx
    simpa [e] using this
  have hloc : ∀ x ∈ locals, (x == ("__debug__" : Str)) = false ∧ scope.names.lookup x = some .local := fun x hx => by
    have := List.all_eq_true.mp k5 x hx
    simpa only [Bool.and_eq_true, Bool.not_eq_true', beq_iff_eq] using this
  have hcap : ∀ x ∈ caps, (x == ("__debug__" : Str)) = false ∧ scope.names.lookup x = some .free ∧ env.scope.names.lookup x = some .cell ∧ x ∈ vars := fun x hx => by
    have := List.all_eq_true.mp k6 x hx
    simp only [Bool.and_eq_true, Bool.not_eq_true', beq_iff_eq, List.contains_iff_mem] at this
    exact ⟨this.1.1.1, this.1.1.2, this.1.2, this.2⟩
  have capCell : ∀ x ∈ caps, ∃ (i : Nat) (c : Addr), vars[i]? = some x ∧ env.kindOf x = some .cell ∧ env.cells.lookup x = some c := fun x hx => by
    obtain ⟨_, _, h3, h4⟩ := hcap x hx
    obtain ⟨i, hi⟩ := List.mem_iff_getElem?.mp h4
    rcases (R.ok.vk x h4).2 with e | ⟨e, c, hc⟩
    · have h3' : env.kindOf x = some .cell := h3
      rw [e] at h3'; cases h3'
    · exact ⟨i, c, hi, e, hc⟩
  have hclos : closureFor scope env = pure (clOf env scope.names []) := closureFor_eq fun x hx e => by
    obtain ⟨_, c, _, _, hc⟩ := capCell x.1 (hfree x hx e); exact ⟨c, hc⟩
  have clNd : ((clOf env scope.names []).map (·.1)).Nodup := clOf_keys ndN .nil (fun n hn => by cases hn)
  have clLk : ∀ x c, (clOf env scope.names []).lookup x = some c → env.cells.lookup x = some c := fun x c e => by
    rcases clOf_mem (mem_of_lookup e) with q | q
    · cases q
    · exact q.2
  refine wpAny_comprehension_free (g := ⟨tgt, iter, ifs, 0⟩) (gs := []) rfl hs hclos k1 (fun x hx e => ?_) ?_
  · have key : ∀ (l : List (Str × NameKind)), (l.map (·.1)).Nodup → x ∈ l → l.lookup x.1 = some x.2 := by
      intro l
      induction l with
      | nil => intro _ h; cases h
      | cons p r ih =>
        intro hn hm
        have hn' := List.nodup_cons.mp hn
        rcases List.mem_cons.mp hm with rfl | hm'
        · rw [List.lookup_cons]; simp
        · have hb : (x.1 == p.1) = false := beq_eq_false_iff_ne.mpr fun q => hn'.1 (List.mem_map.mpr ⟨x, hm', q⟩)
          obtain ⟨p1, p2⟩ := p
          rw [List.lookup_cons]
          show (match x.1 == p1 with | true => _ | false => _) = _
          have hb' : (x.1 == p1) = false := hb
          rw [hb']; exact ih hn'.2 hm'
    rw [key _ ndN hx, e]
  · refine wpAny_mono (h A G D s hA R) (fun x s₁ h₁ => wpAny_mono h₁ (fun it s₂ h₂ => ?_) fun _ _ e => e) fun _ _ e => e
    obtain ⟨D₁, σ₁, xs, P, dx₁, ⟨I, fp, wr, St, rfl, W, st₀, R₁, off₁, hP₁, stay⟩, hsz, hL⟩ := h₂
    refine wpAny_newList (items := []) (wpAny_newFunctionEnv hnc (by intro y hy; cases hy) (fun h₁ hns hsb => ?_) k1) (by show 0 ≤ sizeLine; exact Nat.zero_le _)
    -- the new list and the new frame
    have esz : (s₂.heap.push (lstO #[] 0)).objs.size = s₂.heap.objs.size + 1 := Heap.size_push ..
    generalize hacc₀ : s₂.heap.objs.size = acc at *
    have hLe : (s₂.heap.push (lstO #[] 0)).objs.size = acc + 1 := esz
    have kp : ∀ b o, s₂.heap.get? b = some o → h₁.get? b = some o := fun b o e => by
      have hlt : b < acc := hacc₀ ▸ Heap.lt_size e
      refine hsb.extBut b o ?_ (Heap.get?_push_of_some _ (Heap.get?_push_of_some _ e))
      show b ≠ (s₂.heap.push (lstO #[] 0)).objs.size
      rw [hLe]; exact Nat.ne_of_lt (Nat.lt_succ_of_lt hlt)
    have hacc : h₁.get? acc = some (lstO #[] 0) := by
      refine hsb.extBut acc _ ?_ (Heap.get?_push_of_some _ (hacc₀ ▸ Heap.get?_push_size _ rfl))
      show acc ≠ (s₂.heap.push (lstO #[] 0)).objs.size
      rw [hLe]; exact Nat.ne_of_lt (Nat.lt_succ_self _)
    have hns' : h₁.Ns (acc + 1) (fun x => ([] : List (Str × Value)).reverse.lookup x) := hLe ▸ hns
    have dead : ∀ b : Addr, acc ≤ b → s₂.heap.get? b = none := fun b hb => by
      cases e : s₂.heap.get? b with
      | none => rfl
      | some o => exact absurd (hacc₀ ▸ Heap.lt_size e : b < acc) (Nat.not_lt.mpr hb)
    have deadG : ∀ b : Addr, acc ≤ b → lift env vars G s₂ b = none ∧ D₁ b = none ∧ b ∉ foot σ₁ := fun b hb => ⟨(by
        cases e : lift env vars G s₂ b with
        | none => rfl
        | some o => have := R₁.lifted.g b o e; rw [dead b hb] at this; cases this), (by
        cases e : D₁ b with
        | none => rfl
        | some o => have := R₁.d b o e; rw [dead b hb] at this; cases this), (fun hf => by
        obtain ⟨o, e⟩ := R₁.toRelC.footLives hf; rw [dead b hb] at e; cases e)⟩
    generalize hE : ({ (newEnv scope (s₂.heap.push (lstO #[] 0)).objs.size env.globals (clOf env scope.names []) env.qual none .none (some env) builtinsNs) with scope := relabel scope env } : Env) = E
    have eL : E.locals = acc + 1 := by rw [← hE, ← hLe]; rfl
    have eK : ∀ y k, scope.names.lookup y = some k → E.kindOf y = some (if k == .free && env.kindOf y == some .cell then .cell else k) := fun y k e => by rw [← hE]; exact lookup_relabel R.ok.fn e
    have eC : E.cells = clOf env scope.names [] := by rw [← hE]; rfl
    have eS : E.scope = relabel scope env := by rw [← hE]
    have eG : E.globals = env.globals := by rw [← hE]; rfl
    have eB : E.builtins = env.builtins := by rw [← hE]; rfl
    have kLoc : ∀ x ∈ locals, E.kindOf x = some .local := fun x hx => by rw [eK x _ (hloc x hx).2]; rfl
    have kCap : ∀ x ∈ caps, E.kindOf x = some .cell := fun x hx => by
      obtain ⟨_, _, _, e, _⟩ := capCell x hx
      rw [eK x _ (hcap x hx).2.1, e]; rfl
    have isCap : ∀ (i : Nat) x, (locals ++ caps)[i]? = some x → E.kindOf x = some .cell → locals.length ≤ i ∧ caps[i - locals.length]? = some x ∧ x ∈ caps := fun i x e1 e2 => by
      rw [List.getElem?_append] at e1
      by_cases hi : i < locals.length
      · rw [if_pos hi] at e1
        rw [kLoc x (List.mem_of_getElem? e1)] at e2; cases e2
      · rw [if_neg hi] at e1
        exact ⟨Nat.not_lt.mp hi, e1, List.mem_of_getElem? e1⟩
    have capVal : ∀ (i : Nat) x X, (locals ++ caps)[i]? = some x → ((locals.map fun _ => (none : Option V)) ++ ms)[i]? = some (some X) → Lk vars m x X := fun i x X e1 e2 => by
      rw [List.getElem?_append] at e1 e2
      rw [List.length_map] at e2
      by_cases hi : i < locals.length
      · rw [if_pos hi] at e2
        rw [List.getElem?_map] at e2
        obtain ⟨y, _, e⟩ := Option.map_eq_some_iff.mp e2
        cases e
      · rw [if_neg hi] at e1 e2
        exact hcaps.get e1 e2
    have RI : RelF C E (locals ++ caps) gl' false (lift env vars G s₂) D₁ ((locals.map fun _ => none) ++ ms) σ₁ { s₂ with heap := h₁, toks := s₂.toks + 0 } := by
      have RL := R₁.lifted
      refine ⟨⟨?_, fun b o e => kp b o (RL.g b o e), fun b o e => kp b o (RL.d b o e), RL.base, RL.nd, RL.offG, RL.offD, fun p hp => (RL.pl p hp).at fun b _ ob e => kp b ob e, RL.sto⟩, ⟨?_, ndV, fun x hx => ?_, ?_, fun p hp => ?_, ?_, ?_⟩, ?_, ⟨_, eL ▸ hns', fun i x X e1 e2 e3 => ?_⟩, fun i x c e1 e2 e3 => ?_⟩
      · obtain ⟨h0, t0, e⟩ := RL.same
        exact ⟨h₁, _, by rw [e]⟩
      · rw [eS]; exact k1
      · rcases List.mem_append.mp hx with hx | hx
        · exact ⟨(hloc x hx).1, .inl (kLoc x hx)⟩
        · obtain ⟨_, c, _, _, hc⟩ := capCell x hx
          exact ⟨(hcap x hx).1, .inr ⟨kCap x hx, c, by rw [eC]; exact lookup_of_nodup clNd (clOf_has (.inl ⟨mem_of_lookup (hcap x hx).2.1, hc⟩))⟩⟩
      · rw [eC]
        have pw : (clOf env scope.names []).Pairwise fun x y => x.1 ≠ y.1 := List.pairwise_map.mp clNd
        refine pw.imp_of_mem fun {x y} hx hy hne e => hne ?_
        have hx' := (clOf_mem (n := x.1) (c := x.2) hx).resolve_left (by intro q; cases q)
        have hy' := (clOf_mem (n := y.1) (c := y.2) hy).resolve_left (by intro q; cases q)
        exact name_of_addr R.ok.ap (mem_of_lookup hx'.2) (e ▸ mem_of_lookup hy'.2)
      · have := List.all_eq_true.mp k7 p.1 (List.mem_map_of_mem hp)
        simp only [Bool.and_eq_true, Bool.not_eq_true', beq_iff_eq] at this
        exact ⟨this.1, by rw [eK _ _ this.2]; rfl, hgl p hp⟩
      · rw [eG]; exact R.ok.gg
      · rw [eB]; exact R.ok.gb
      · rw [eL]; exact deadG _ (Nat.le_succ _)
      · obtain ⟨j, hj1, hj2⟩ := (capVal i x X e1 e3).get
        exfalso
        rw [List.getElem?_append] at e1 e3
        rw [List.length_map] at e3
        by_cases hi : i < locals.length
        · rw [if_pos hi] at e3
          rw [List.getElem?_map] at e3
          obtain ⟨y, _, e⟩ := Option.map_eq_some_iff.mp e3
          cases e
        · rw [if_neg hi] at e1
          rw [kCap x (List.mem_of_getElem? e1)] at e2; cases e2
      · obtain ⟨hi1, hi2, hxc⟩ := isCap i x e1 e2
        rw [eC] at e3
        have hc := clLk x c e3
        obtain ⟨i0, c0, g1, g2, g3⟩ := capCell x hxc
        obtain ⟨q1, ⟨ov, q2, q3⟩, q4⟩ := R₁.cl i0 x c g1 g2 hc
        obtain ⟨oc, hoc, _⟩ := id q2
        refine ⟨(by rw [eL]; rintro rfl; rw [dead _ (Nat.le_succ _)] at hoc; cases hoc), ⟨ov, q2.keeps kp, fun X e4 => ?_⟩, oc, by rw [lift_mine (Or.inr ⟨i0, x, g1, g2, hc⟩)]; exact hoc⟩
        obtain ⟨j, hj1, hj2⟩ := (capVal i x X e1 e4).get
        have : j = i0 := nodup_idx R.ok.nd hj1 g1
        subst this
        exact q3 X hj2
    have offW : Off E (locals ++ caps) (lift env vars G s₂) D₁ σ₁ (acc :: wr) := fun a ha => by
      have hcellAlive : ∀ (i : Nat) x c, (locals ++ caps)[i]? = some x → E.kindOf x = some .cell → E.cells.lookup x = some c → Held env vars c := fun i x c e1 e2 e3 => by
        obtain ⟨_, _, hxc⟩ := isCap i x e1 e2
        rw [eC] at e3
        obtain ⟨i0, c0, g1, g2, g3⟩ := capCell x hxc
        exact Or.inr ⟨i0, x, g1, g2, clLk x c e3⟩
      rcases List.mem_cons.mp ha with rfl | ha
      · refine ⟨(deadG a (Nat.le_refl _)).1, (deadG a (Nat.le_refl _)).2.1, (deadG a (Nat.le_refl _)).2.2, ?_⟩
        rintro (e | ⟨i, x, e1, e2, e3⟩)
        · rw [eL] at e; exact absurd e (Nat.ne_of_lt (Nat.lt_succ_self _))
        · obtain ⟨o, e⟩ := R₁.mineLives (hcellAlive i x a e1 e2 e3)
          rw [dead a (Nat.le_refl _)] at e; cases e
      · obtain ⟨o, hal⟩ := W.live _ _ st₀ a ha
        have q := off₁ a ha
        refine ⟨by rw [lift_not q.2.2.2]; exact q.1, q.2.1, q.2.2.1, ?_⟩
        rintro (e | ⟨i, x, e1, e2, e3⟩)
        · rw [eL] at e; rw [e, dead _ (Nat.le_succ _)] at hal; cases hal
        · exact q.2.2.2 (hcellAlive i x a e1 e2 e3)
    have stA : St 0 h₁ := W.frame _ _ _ st₀ fun b _ o e => kp b o e
    have haw : acc ∉ wr := fun hw => by
      obtain ⟨o, e⟩ := W.live _ _ st₀ acc hw
      rw [dead acc (Nat.le_refl _)] at e; cases e
    have haf : acc ∉ fp := fun hf => W.old acc hf haw _ st₀ (dead acc (Nat.le_refl _))
    have stay' : Stay C D₁ P h₁ fp wr := fun G' D' σ' s' R' hs' hP' b hb hbw o e => by
      cases q : s₂.heap.get? b with
      | none => exact (W.old b hb hbw _ st₀ q).elim
      | some o0 =>
        have := kp b o0 q
        rw [e] at this; cases this
        exact stay G' D' σ' s' R' hs' hP' b hb hbw o q
    have loop : ∀ (s₄ : Shared), s₄ = { s₂ with heap := h₁, toks := s₂.toks + 0 } → codeAny C.M A (.compLoop (.ListComp elt [⟨tgt, iter, ifs, 0⟩] scope pos) 0 (.ref I) (.ref acc) E) (compPost C.M A (fun _ _ => False) use K (.ref acc) (acc + 1)) s₄ := by
      rintro s₄ rfl
      refine comp_loop W hA hsz stA RI (Sub.refl _) offW haw haf hacc hP₁ stay' (hL E eS) fun s' D' σ' m'' vs n ys dx' RF' off' ho' hvs' hq' => ?_
      have oa := off' acc (.head _)
      have RC := RF'.toRelC.addL oa.1 oa.2.1 oa.2.2.1 ho' hvs'
      have RO := R₁.back RC dx'
      obtain ⟨mm, hmm, _⟩ := RF'.ns
      refine hK s' D' σ' acc vs n ys (acc + 1) mm (dx₁.trans (R₁.dx dx')) RO (fun a ha => ?_) (eL ▸ hmm) hq'
      simp at ha; subst ha
      have hl := RF'.offL
      rw [eL] at hl
      refine ⟨?_, hl.2.1, fun hf => ?_, fun hm => ?_⟩
      · cases e : G (acc + 1) with
        | none => rfl
        | some o => have := R₁.over e; rw [hl.1] at this; cases this
      · rcases List.mem_cons.mp hf with e | hf
        · exact absurd e (Nat.ne_of_gt (Nat.lt_succ_self _))
        · exact hl.2.2 hf
      · obtain ⟨o, e⟩ := R₁.mineLives hm
        rw [dead _ (Nat.le_succ _)] at e; cases e
    have fin := codeAny_compStart_list (loop _ rfl) (W.self 0 _ _ stA (loop _ rfl) |> fun h => wpAny_mono h (fun _ _ e => e) fun _ _ e => e.elim)
    have e1 : (newEnv scope (s₂.heap.push (lstO #[] 0)).objs.size env.globals (clOf env scope.names []) env.qual none .none (some env) builtinsNs).locals = acc + 1 := by rw [← hLe]; rfl
    rw [e1]
    exact fin
end
end Mine

set_option autoImplicit false
set_option linter.unusedVariables false
namespace Mine
open PySem
section
variable {C : Cx} {env : Env} {vars : List Str} {gl gl' : List (Str × V)} {own : Bool} {d : Nat} {m m' : Loc} {σ σ' : Sto}
variable {A : Around} {G D D₀ D₁ : Gh} {s : Shared} {P : V → Sto → Prop}


theorem RelF.freeze {a : Addr} {o : Obj} {xs : List V} {u v : Sto} (R : RelF C env vars gl own G D m (u ++ (a, o, .list xs) :: v) s) :
    RelF C env vars gl own G (putD D a o) m (u ++ v) s ∧ DX G D (putD D a o) ∧ VR C.w (putD D a o) (.ref a) (.lst xs) := by
  obtain ⟨h1, h2, h3⟩ := R.lifted.freezeL rfl
  exact ⟨R.back h1 h2, R.dx h2, h3⟩

theorem AT_CompF {elt tgt iter : Expr} {ifs : List Expr} {scope : Scope} {pos : Pos} (locals caps : List Str) (gl' : List (Str × V)) {ms : Loc}
    (hok : compOk scope env.scope vars locals caps (gl'.map (·.1)) = true) (hgl : ∀ p ∈ gl', GlobR C p.1 p.2) (hcaps : Caps vars m caps ms)
    (h : AI C env vars gl own d iter tgt m σ fun xs Pp σ₁ => xs.length ≤ sizeLine ∧ ∀ env', env'.scope = relabel scope env →
      CompL C env' (locals ++ caps) gl' d tgt elt ifs Pp (fun ys σ₂ => P (.lst ys) σ₂) xs [] ((locals.map fun _ => none) ++ ms) σ₁)
    (hs : ∀ x, foldedSetIterable iter env x = pure x := by intro _; with_unfolding_all exact rfl) :
    AT C env vars gl own d (eval (.ListComp elt [⟨tgt, iter, ifs, 0⟩] scope pos) env) m σ P := fun A G D s hA R => by
  rw [eval_ListComp]
  refine comp_whole hA R hok hgl hcaps h hs fun s' D' σ' a vs n ys L mm dx RO off hns q => ?_
  refine ⟨mm, hns, fun h' hs' => ?_⟩
  have R1 : RelF C env vars gl own G D' m ((a, lstO vs n, .list ys) :: σ') { s' with heap := h' } := by
    have := RO.keepBut (h' := h') s'.toks off fun b o hb e => hs'.extBut b o (by simpa using hb) e
    exact this
  obtain ⟨R2, dx2, hv⟩ := RelF.freeze (u := []) R1
  exact ⟨.lst ys, _, σ', dx.trans dx2, hv, R2, q⟩

variable {Q : Fl → Loc → Sto → Prop}
theorem comp_used {elt tgt iter : Expr} {ifs : List Expr} {scope : Scope} {pos p' p : Pos} {x : Str} {locals caps : List Str} {gl' : List (Str × V)} {ms : Loc} {Z : List V → Sto → Prop}
    (hA : AOk A d) (R : RelF C env vars gl own G D m σ s) (hown : own = true)
    (hsw : swapsWith (.ListComp elt [⟨tgt, iter, ifs, 0⟩] scope pos) (some (.Name x p')) p.line env = pure true)
    (hok : compOk scope env.scope vars locals caps (gl'.map (·.1)) = true) (hgl : ∀ p ∈ gl', GlobR C p.1 p.2) (hcaps : Caps vars m caps ms)
    (h : AI C env vars gl own d iter tgt m σ fun xs Pp σ₁ => xs.length ≤ sizeLine ∧ ∀ env', env'.scope = relabel scope env → CompL C env' (locals ++ caps) gl' d tgt elt ifs Pp Z xs [] ((locals.map fun _ => none) ++ ms) σ₁)
    (hs : ∀ x, foldedSetIterable iter env x = pure x)
    (k : ∀ s' D' σ' a vs n ys, DX G D D' → RelF C env vars gl own G D' m ((a, lstO vs n, .list ys) :: σ') s' → Z ys σ' → ∃ X m' D₂ σ₂, DX G D' D₂ ∧ VR C.w D₂ (.ref a) X ∧ RelF C env vars gl own G D₂ m σ₂ s' ∧ Sub D' D₂ ∧ (∀ L, Off env vars G D' ((a, lstO vs n, .list ys) :: σ') [L] → Off env vars G D₂ σ₂ [L]) ∧ Put vars m x X m' ∧ Q .next m' σ₂) :
    wpAny C.M A (exec (.Assign [.Name x p'] (.ListComp elt [⟨tgt, iter, ifs, 0⟩] scope pos) p) env) (PostS C env vars gl own G D Q) (fun _ _ => False) s := by
  rw [exec_Assign_Name_used _ _ _ _ hsw]
  refine wpAny_bind (wpAny_standAt (wpAny_bind ?_))
  show wpAny _ A (do let _ ← comprehension (.ListComp elt [⟨tgt, iter, ifs, 0⟩] scope pos) scope env _ (newList []) false (eval iter env) (some (assign (.Name x p') env))) _ _ s
  refine wpAny_bind (wpAny_mono (comp_whole (K := fun _ s' => PostS C env vars gl own G D Q .next s') hA R hok hgl hcaps h hs fun s' D' σ' a vs n ys L mm dx RO off hns q => ?_) (fun _ s' hq => wpAny_pure (wpAny_pure hq)) fun _ _ e => e)
  obtain ⟨X, m', D₂, σ₂, dx₂, hv, R₂, _, off₂, hP, q₂⟩ := k s' D' σ' a vs n ys dx RO q
  have offL := off₂ L off
  have RW := R₂.withW offL
  show wpAny C.M A (assign (.Name x p') env (.ref a)) _ _ s'
  refine wpAny_bind (wpAny_standAt (wpAny_bindName (RW.store hP hv (.inl hown) fun s'' R'' => ?_)))
  obtain ⟨oL, hoL⟩ : ∃ o, s'.heap.get? L = some o := let ⟨o, _, _, ho, _⟩ := hns; ⟨o, ho⟩
  have hL'' : s''.heap.get? L = some oL := R''.g L oL (by rw [withW_in (.head _)]; exact hoL)
  obtain ⟨R₃, _, off₃⟩ := R''.lessW offL R.base (DX.refl _ _) (fun a ha => by simp at ha; subst ha; exact ⟨_, hoL⟩)
  refine ⟨mm, hns.at' (fun o e => by rw [hoL] at e; cases e; exact hL''), fun h' hs' => ⟨.next, m', D₂, σ₂, dx.trans dx₂, trivial, ?_, q₂⟩⟩
  have := R₃.keepBut (h' := h') s''.toks off₃ fun b o hb e => hs'.extBut b o (by simpa using hb) e
  exact this

theorem Off.freeze {a L : Addr} {o : Obj} {xs : List V} (h : Off env vars G D ((a, o, .list xs) :: σ) [L]) : Off env vars G (putD D a o) σ [L] := fun b hb => by
  have q := h b hb
  have hne : b ≠ a := fun e => q.2.2.1 (by rw [e]; exact .head _)
  exact ⟨q.1, by rw [putD_ne o hne]; exact q.2.1, fun hf => q.2.2.1 (.tail _ hf), q.2.2.2⟩

theorem S_AssignCompF {elt tgt iter : Expr} {ifs : List Expr} {scope : Scope} {pos p' p : Pos} {x : Str} (locals caps : List Str) (gl' : List (Str × V)) {ms : Loc}
    (hsw : swapsWith (.ListComp elt [⟨tgt, iter, ifs, 0⟩] scope pos) (some (.Name x p')) p.line env = pure true)
    (hok : compOk scope env.scope vars locals caps (gl'.map (·.1)) = true) (hgl : ∀ p ∈ gl', GlobR C p.1 p.2) (hcaps : Caps vars m caps ms)
    (h : AI C env vars gl own d iter tgt m σ fun xs Pp σ₁ => xs.length ≤ sizeLine ∧ ∀ env', env'.scope = relabel scope env →
      CompL C env' (locals ++ caps) gl' d tgt elt ifs Pp (fun ys σ₂ => ∃ m', Put vars m x (.lst ys) m' ∧ Q .next m' σ₂) xs [] ((locals.map fun _ => none) ++ ms) σ₁)
    (hown : own = true := by with_unfolding_all exact rfl) (hs : ∀ x, foldedSetIterable iter env x = pure x := by intro _; with_unfolding_all exact rfl) :
    AS C env vars gl own d (exec (.Assign [.Name x p'] (.ListComp elt [⟨tgt, iter, ifs, 0⟩] scope pos) p) env) m σ Q := fun A G D s hA R =>
  comp_used hA R hown hsw hok hgl hcaps h hs fun s' D' σ' a vs n ys dx RO hpp => by
    obtain ⟨m', hP, q⟩ := hpp
    obtain ⟨R2, dx2, hv⟩ := RelF.freeze (u := []) RO
    exact ⟨.lst ys, m', _, σ', dx2, hv, R2, dx2.sub, fun L off => off.freeze, hP, q⟩
theorem S_AssignCompM {elt tgt iter : Expr} {ifs : List Expr} {scope : Scope} {pos p' p : Pos} {x : Str} (locals caps : List Str) (gl' : List (Str × V)) {ms : Loc}
    (hsw : swapsWith (.ListComp elt [⟨tgt, iter, ifs, 0⟩] scope pos) (some (.Name x p')) p.line env = pure true)
    (hok : compOk scope env.scope vars locals caps (gl'.map (·.1)) = true) (hgl : ∀ p ∈ gl', GlobR C p.1 p.2) (hcaps : Caps vars m caps ms)
    (h : AI C env vars gl own d iter tgt m σ fun xs Pp σ₁ => xs.length ≤ sizeLine ∧ ∀ env', env'.scope = relabel scope env →
      CompL C env' (locals ++ caps) gl' d tgt elt ifs Pp (fun ys σ₂ => ∀ a o, ∃ m', Put vars m x (.ref a) m' ∧ Q .next m' ((a, o, .list ys) :: σ₂)) xs [] ((locals.map fun _ => none) ++ ms) σ₁)
    (hown : own = true := by with_unfolding_all exact rfl) (hs : ∀ x, foldedSetIterable iter env x = pure x := by intro _; with_unfolding_all exact rfl) :
    AS C env vars gl own d (exec (.Assign [.Name x p'] (.ListComp elt [⟨tgt, iter, ifs, 0⟩] scope pos) p) env) m σ Q := fun A G D s hA R =>
  comp_used hA R hown hsw hok hgl hcaps h hs fun s' D' σ' a vs n ys dx RO q => by
    obtain ⟨m', hP, q⟩ := q a (lstO vs n)
    exact ⟨.ref a, m', D', _, DX.refl _ _, .ref a, RO, Sub.refl _, fun L off => off, hP, q⟩
end
end Mine

set_option autoImplicit false
set_option linter.unusedVariables false
namespace Mine
open PySem

section
variable {C : Cx} {d : Nat} {σ : Sto} {Q : V → Sto → Prop}

theorem B_add {a b : Int} (q : Q (.int (a + b)) σ) : AC2 C d (binaryOp .Add) (.int a) (.int b) σ Q := fun A G D s v u hA R hv hu => by
  (first | obtain rfl := VR.biI hv | obtain rfl := VR.typeI hv | obtain rfl := VR.refI hv | obtain ⟨_, rfl⟩ := VR.intI hv | obtain ⟨_, rfl⟩ := VR.strI hv | obtain rfl := VR.boolI hv | obtain rfl := VR.noneI hv | obtain rfl := VRs.nilI hv | cases hv); (first | obtain rfl := VR.biI hu | obtain rfl := VR.typeI hu | obtain rfl := VR.refI hu | obtain ⟨_, rfl⟩ := VR.intI hu | obtain ⟨_, rfl⟩ := VR.strI hu | obtain rfl := VR.boolI hu | obtain rfl := VR.noneI hu | obtain rfl := VRs.nilI hu | cases hu); exact P.add_int (PostC.now (R.tok _) (.int _ _) q)
theorem B_sub {a b : Int} (q : Q (.int (a - b)) σ) : AC2 C d (binaryOp .Sub) (.int a) (.int b) σ Q := fun A G D s v u hA R hv hu => by
  (first | obtain rfl := VR.biI hv | obtain rfl := VR.typeI hv | obtain rfl := VR.refI hv | obtain ⟨_, rfl⟩ := VR.intI hv | obtain ⟨_, rfl⟩ := VR.strI hv | obtain rfl := VR.boolI hv | obtain rfl := VR.noneI hv | obtain rfl := VRs.nilI hv | cases hv); (first | obtain rfl := VR.biI hu | obtain rfl := VR.typeI hu | obtain rfl := VR.refI hu | obtain ⟨_, rfl⟩ := VR.intI hu | obtain ⟨_, rfl⟩ := VR.strI hu | obtain rfl := VR.boolI hu | obtain rfl := VR.noneI hu | obtain rfl := VRs.nilI hu | cases hu); exact P.sub_int (PostC.now (R.tok _) (.int _ _) q)
theorem B_mul {a b : Int} (q : Q (.int (a * b)) σ) (h : IntMulOk a b) : AC2 C d (binaryOp .Mult) (.int a) (.int b) σ Q := fun A G D s v u hA R hv hu => by
  (first | obtain rfl := VR.biI hv | obtain rfl := VR.typeI hv | obtain rfl := VR.refI hv | obtain ⟨_, rfl⟩ := VR.intI hv | obtain ⟨_, rfl⟩ := VR.strI hv | obtain rfl := VR.boolI hv | obtain rfl := VR.noneI hv | obtain rfl := VRs.nilI hv | cases hv); (first | obtain rfl := VR.biI hu | obtain rfl := VR.typeI hu | obtain rfl := VR.refI hu | obtain ⟨_, rfl⟩ := VR.intI hu | obtain ⟨_, rfl⟩ := VR.strI hu | obtain rfl := VR.boolI hu | obtain rfl := VR.noneI hu | obtain rfl := VRs.nilI hu | cases hu); exact P.mul_int (PostC.now (R.tok _) (.int _ _) q) h
theorem B_div {a b : Int} (q : Q (.int (a.fdiv b)) σ) (h : b ≠ 0) (hs : b.natAbs < 1073741824) : AC2 C d (binaryOp .FloorDiv) (.int a) (.int b) σ Q := fun A G D s v u hA R hv hu => by
  (first | obtain rfl := VR.biI hv | obtain rfl := VR.typeI hv | obtain rfl := VR.refI hv | obtain ⟨_, rfl⟩ := VR.intI hv | obtain ⟨_, rfl⟩ := VR.strI hv | obtain rfl := VR.boolI hv | obtain rfl := VR.noneI hv | obtain rfl := VRs.nilI hv | cases hv); (first | obtain rfl := VR.biI hu | obtain rfl := VR.typeI hu | obtain rfl := VR.refI hu | obtain ⟨_, rfl⟩ := VR.intI hu | obtain ⟨_, rfl⟩ := VR.strI hu | obtain rfl := VR.boolI hu | obtain rfl := VR.noneI hu | obtain rfl := VRs.nilI hu | cases hu); exact PyProof.Rows.floordiv_int h (PostC.now (R.tok _) (.int _ _) q) (.inl (PyProof.noPylong_small hs))
theorem B_mod {a b : Int} (q : Q (.int (a.fmod b)) σ) (h : b ≠ 0) : AC2 C d (binaryOp .Mod) (.int a) (.int b) σ Q := fun A G D s v u hA R hv hu => by
  (first | obtain rfl := VR.biI hv | obtain rfl := VR.typeI hv | obtain rfl := VR.refI hv | obtain ⟨_, rfl⟩ := VR.intI hv | obtain ⟨_, rfl⟩ := VR.strI hv | obtain rfl := VR.boolI hv | obtain rfl := VR.noneI hv | obtain rfl := VRs.nilI hv | cases hv); (first | obtain rfl := VR.biI hu | obtain rfl := VR.typeI hu | obtain rfl := VR.refI hu | obtain ⟨_, rfl⟩ := VR.intI hu | obtain ⟨_, rfl⟩ := VR.strI hu | obtain rfl := VR.boolI hu | obtain rfl := VR.noneI hu | obtain rfl := VRs.nilI hu | cases hu); exact PyProof.Rows.mod_int' h (PostC.now (R.tok _) (.int _ _) q)
theorem U_neg {a : Int} (q : Q (.int (-a)) σ) : AC1 C d (unaryOp .USub) (.int a) σ Q := fun A G D s v hA R hv => by
  (first | obtain rfl := VR.biI hv | obtain rfl := VR.typeI hv | obtain rfl := VR.refI hv | obtain ⟨_, rfl⟩ := VR.intI hv | obtain ⟨_, rfl⟩ := VR.strI hv | obtain rfl := VR.boolI hv | obtain rfl := VR.noneI hv | obtain rfl := VRs.nilI hv | cases hv); exact P.neg_int (PostC.now (R.tok _) (.int _ _) q)
theorem C_lt {a b : Int} (q : Q (.bool (decide (a < b))) σ) : AC2 C d (compareOp .Lt) (.int a) (.int b) σ Q := fun A G D s v u hA R hv hu => by
  (first | obtain rfl := VR.biI hv | obtain rfl := VR.typeI hv | obtain rfl := VR.refI hv | obtain ⟨_, rfl⟩ := VR.intI hv | obtain ⟨_, rfl⟩ := VR.strI hv | obtain rfl := VR.boolI hv | obtain rfl := VR.noneI hv | obtain rfl := VRs.nilI hv | cases hv); (first | obtain rfl := VR.biI hu | obtain rfl := VR.typeI hu | obtain rfl := VR.refI hu | obtain ⟨_, rfl⟩ := VR.intI hu | obtain ⟨_, rfl⟩ := VR.strI hu | obtain rfl := VR.boolI hu | obtain rfl := VR.noneI hu | obtain rfl := VRs.nilI hu | cases hu); exact P.lt_int (PostC.now R (.bool _) q)
theorem C_le {a b : Int} (q : Q (.bool (decide (a ≤ b))) σ) : AC2 C d (compareOp .LtE) (.int a) (.int b) σ Q := fun A G D s v u hA R hv hu => by
  (first | obtain rfl := VR.biI hv | obtain rfl := VR.typeI hv | obtain rfl := VR.refI hv | obtain ⟨_, rfl⟩ := VR.intI hv | obtain ⟨_, rfl⟩ := VR.strI hv | obtain rfl := VR.boolI hv | obtain rfl := VR.noneI hv | obtain rfl := VRs.nilI hv | cases hv); (first | obtain rfl := VR.biI hu | obtain rfl := VR.typeI hu | obtain rfl := VR.refI hu | obtain ⟨_, rfl⟩ := VR.intI hu | obtain ⟨_, rfl⟩ := VR.strI hu | obtain rfl := VR.boolI hu | obtain rfl := VR.noneI hu | obtain rfl := VRs.nilI hu | cases hu); exact P.le_int (PostC.now R (.bool _) q)
theorem C_gt {a b : Int} (q : Q (.bool (decide (b < a))) σ) : AC2 C d (compareOp .Gt) (.int a) (.int b) σ Q := fun A G D s v u hA R hv hu => by
  (first | obtain rfl := VR.biI hv | obtain rfl := VR.typeI hv | obtain rfl := VR.refI hv | obtain ⟨_, rfl⟩ := VR.intI hv | obtain ⟨_, rfl⟩ := VR.strI hv | obtain rfl := VR.boolI hv | obtain rfl := VR.noneI hv | obtain rfl := VRs.nilI hv | cases hv); (first | obtain rfl := VR.biI hu | obtain rfl := VR.typeI hu | obtain rfl := VR.refI hu | obtain ⟨_, rfl⟩ := VR.intI hu | obtain ⟨_, rfl⟩ := VR.strI hu | obtain rfl := VR.boolI hu | obtain rfl := VR.noneI hu | obtain rfl := VRs.nilI hu | cases hu); exact P.gt_int (PostC.now R (.bool _) q)
theorem C_eq {a b : Int} (q : Q (.bool (decide (a = b))) σ) : AC2 C d (compareOp .Eq) (.int a) (.int b) σ Q := fun A G D s v u hA R hv hu => by
  (first | obtain rfl := VR.biI hv | obtain rfl := VR.typeI hv | obtain rfl := VR.refI hv | obtain ⟨_, rfl⟩ := VR.intI hv | obtain ⟨_, rfl⟩ := VR.strI hv | obtain rfl := VR.boolI hv | obtain rfl := VR.noneI hv | obtain rfl := VRs.nilI hv | cases hv); (first | obtain rfl := VR.biI hu | obtain rfl := VR.typeI hu | obtain rfl := VR.refI hu | obtain ⟨_, rfl⟩ := VR.intI hu | obtain ⟨_, rfl⟩ := VR.strI hu | obtain rfl := VR.boolI hu | obtain rfl := VR.noneI hu | obtain rfl := VRs.nilI hu | cases hu)
  refine P.eq_int (PostC.now R ?_ q)
  rw [show (a == b) = decide (a = b) from rfl]; exact .bool _
theorem C_ne {a b : Int} (q : Q (.bool (!decide (a = b))) σ) : AC2 C d (compareOp .NotEq) (.int a) (.int b) σ Q := fun A G D s v u hA R hv hu => by
  (first | obtain rfl := VR.biI hv | obtain rfl := VR.typeI hv | obtain rfl := VR.refI hv | obtain ⟨_, rfl⟩ := VR.intI hv | obtain ⟨_, rfl⟩ := VR.strI hv | obtain rfl := VR.boolI hv | obtain rfl := VR.noneI hv | obtain rfl := VRs.nilI hv | cases hv); (first | obtain rfl := VR.biI hu | obtain rfl := VR.typeI hu | obtain rfl := VR.refI hu | obtain ⟨_, rfl⟩ := VR.intI hu | obtain ⟨_, rfl⟩ := VR.strI hu | obtain rfl := VR.boolI hu | obtain rfl := VR.noneI hu | obtain rfl := VRs.nilI hu | cases hu)
  refine P.ne_int (PostC.now R ?_ q)
  rw [show (a != b) = !decide (a = b) from rfl]; exact .bool _

theorem T_bool {b : Bool} : TR C d (.bool b) σ b := fun A G D s v hA R hv K k => by (first | obtain rfl := VR.biI hv | obtain rfl := VR.typeI hv | obtain rfl := VR.refI hv | obtain ⟨_, rfl⟩ := VR.intI hv | obtain ⟨_, rfl⟩ := VR.strI hv | obtain rfl := VR.boolI hv | obtain rfl := VR.noneI hv | obtain rfl := VRs.nilI hv | cases hv); exact wpAny_truthy_bool (k s.toks)
theorem TX_bool {b : Bool} {P : Bool → Sto → Prop} (p : P b σ) : TRX C d (.bool b) σ P := ⟨b, T_bool, p⟩

noncomputable def V.isNone : V → Bool
  | .none => true
  | _ => false
theorem C_isNone {x : V} (q : Q (.bool x.isNone) σ) : AC2 C d (compareOp .Is) x .none σ Q := fun A G D s v u hA R hv hu => by
  (first | obtain rfl := VR.biI hu | obtain rfl := VR.typeI hu | obtain rfl := VR.refI hu | obtain ⟨_, rfl⟩ := VR.intI hu | obtain ⟨_, rfl⟩ := VR.strI hu | obtain rfl := VR.boolI hu | obtain rfl := VR.noneI hu | obtain rfl := VRs.nilI hu | cases hu)
  refine is_none (PostC.now R ?_ q)
  cases hv <;> exact .bool _
theorem C_isNotNone {x : V} (q : Q (.bool (!x.isNone)) σ) : AC2 C d (compareOp .IsNot) x .none σ Q := fun A G D s v u hA R hv hu => by
  (first | obtain rfl := VR.biI hu | obtain rfl := VR.typeI hu | obtain rfl := VR.refI hu | obtain ⟨_, rfl⟩ := VR.intI hu | obtain ⟨_, rfl⟩ := VR.strI hu | obtain rfl := VR.boolI hu | obtain rfl := VR.noneI hu | obtain rfl := VRs.nilI hu | cases hu)
  refine isNot_none (PostC.now R ?_ q)
  cases hv <;> exact .bool _
noncomputable def V.isBool (b : Bool) : V → Bool
  | .bool c => c == b
  | _ => false
theorem B_addS {x y : Str} (q : Q (.str (x ++ y)) σ) (h : x.length + y.length ≤ sizeLine) : AC2 C d (binaryOp .Add) (.str x) (.str y) σ Q := fun A G D s v u hA R hv hu => by
  (first | obtain rfl := VR.biI hv | obtain rfl := VR.typeI hv | obtain rfl := VR.refI hv | obtain ⟨_, rfl⟩ := VR.intI hv | obtain ⟨_, rfl⟩ := VR.strI hv | obtain rfl := VR.boolI hv | obtain rfl := VR.noneI hv | obtain rfl := VRs.nilI hv | cases hv); (first | obtain rfl := VR.biI hu | obtain rfl := VR.typeI hu | obtain rfl := VR.refI hu | obtain ⟨_, rfl⟩ := VR.intI hu | obtain ⟨_, rfl⟩ := VR.strI hu | obtain rfl := VR.boolI hu | obtain rfl := VR.noneI hu | obtain rfl := VRs.nilI hu | cases hu); exact PyProof.Rows.add_str (fun t' tk => PostC.now (R.tok tk) (.str _ _) q) h
theorem C_eqS {x y : Str} (q : Q (.bool (x == y)) σ) : AC2 C d (compareOp .Eq) (.str x) (.str y) σ Q := fun A G D s v u hA R hv hu => by
  (first | obtain rfl := VR.biI hv | obtain rfl := VR.typeI hv | obtain rfl := VR.refI hv | obtain ⟨_, rfl⟩ := VR.intI hv | obtain ⟨_, rfl⟩ := VR.strI hv | obtain rfl := VR.boolI hv | obtain rfl := VR.noneI hv | obtain rfl := VRs.nilI hv | cases hv); (first | obtain rfl := VR.biI hu | obtain rfl := VR.typeI hu | obtain rfl := VR.refI hu | obtain ⟨_, rfl⟩ := VR.intI hu | obtain ⟨_, rfl⟩ := VR.strI hu | obtain rfl := VR.boolI hu | obtain rfl := VR.noneI hu | obtain rfl := VRs.nilI hu | cases hu); exact PyProof.Rows.eq_str (PostC.now R (.bool _) q)
theorem C_inS {x y : Str} (q : Q (.bool (!(Builtin.Str.occurrences x y 0 x.length 1).isEmpty)) σ) : AC2 C d (compareOp .In) (.str y) (.str x) σ Q := fun A G D s v u hA R hv hu => by
  (first | obtain rfl := VR.biI hv | obtain rfl := VR.typeI hv | obtain rfl := VR.refI hv | obtain ⟨_, rfl⟩ := VR.intI hv | obtain ⟨_, rfl⟩ := VR.strI hv | obtain rfl := VR.boolI hv | obtain rfl := VR.noneI hv | obtain rfl := VRs.nilI hv | cases hv); (first | obtain rfl := VR.biI hu | obtain rfl := VR.typeI hu | obtain rfl := VR.refI hu | obtain ⟨_, rfl⟩ := VR.intI hu | obtain ⟨_, rfl⟩ := VR.strI hu | obtain rfl := VR.boolI hu | obtain rfl := VR.noneI hu | obtain rfl := VRs.nilI hu | cases hu); exact P.in_str (PostC.now R (.bool _) q)
end
end Mine

set_option autoImplicit false
set_option linter.unusedVariables false
namespace Mine
open PySem

noncomputable def NLq (P : V → Sto → Prop) (Xs : List V) (σ : Sto) : Prop := P (.lst Xs) σ ∨ ∀ a o, P (.ref a) ((a, o, .list Xs) :: σ)

section
variable {C : Cx} {d : Nat} {σ : Sto} {Q : V → Sto → Prop} {G D : Gh} {s : Shared} {A : Around}

theorem RelC.mkL (R : RelC C G D σ s) {vs : List Value} {Xs : List V} (h : VRs C.w D vs Xs) (q : NLq Q Xs σ) : PostC C G D Q (.ref s.heap.objs.size) { s with heap := s.heap.push (lstO vs.toArray 0) } := by
  rcases q with q | q
  · obtain ⟨R', dx⟩ := R.newF (lstO vs.toArray 0)
    exact ⟨.lst Xs, _, σ, dx, .lst (putD_self ..) (h.mono dx.sub), R', q⟩
  · exact ⟨.ref _, D, _, DX.refl _ _, .ref _, R.newM (lstO vs.toArray 0) (.list Xs) ⟨vs.toArray, 0, rfl, by simpa using h⟩ rfl (fun _ _ => rfl), q _ _⟩

mutual
inductive Dp (σ : Sto) : V → PyData → Prop
  | none : Dp σ .none .none
  | bool (b : Bool) : Dp σ (.bool b) (.bool b)
  | int (i : Int) : Dp σ (.int i) (.int i)
  | str (x : Str) : Dp σ (.str x) (.str x)
  | tup {xs : List V} {ds : List PyData} : Dps σ xs ds → Dp σ (.tup xs) (.tuple ds)
  | lst {xs : List V} {ds : List PyData} : Dps σ xs ds → Dp σ (.lst xs) (.list ds)
  | ref {a : Addr} {o : Obj} {xs : List V} {ds : List PyData} : (a, o, AO.list xs) ∈ σ → Dps σ xs ds → Dp σ (.ref a) (.list ds)
inductive Dps (σ : Sto) : List V → List PyData → Prop
  | nil : Dps σ [] []
  | cons {x : V} {e : PyData} {xs : List V} {ds : List PyData} : Dp σ x e → Dps σ xs ds → Dps σ (x :: xs) (e :: ds)
end
theorem Dp.reads (R : RelC C G D σ s) {x : V} {e : PyData} (p : Dp σ x e) : ∀ {v : Value}, VR C.w D v x → ∃ as, Reads s.heap v e as :=
  fun {v} => Dp.rec (motive_1 := fun x e _ => ∀ v, VR C.w D v x → ∃ as, Reads s.heap v e as) (motive_2 := fun x e _ => ∀ v, VRs C.w D v x → ∃ as, ReadsAll s.heap v e as)
    (fun v h => by rw [h.noneI]; exact ⟨_, .none⟩) (fun b v h => by rw [h.boolI]; exact ⟨_, .bool b⟩) (fun i v h => by obtain ⟨_, rfl⟩ := h.intI; exact ⟨_, .int i _⟩) (fun x v h => by obtain ⟨_, rfl⟩ := h.strI; exact ⟨_, .str x _⟩)
    (fun r ih v h => by
      obtain ⟨a, o, vs, n, rfl, e, hc, hd, hv⟩ := h.tupI
      obtain ⟨as, q⟩ := ih vs hv
      exact ⟨_, .tuple (R.d _ _ e) hc hd (by simpa using q)⟩)
    (fun r ih v h => by
      obtain ⟨a, vs, n, rfl, e, hv⟩ := h.lstI
      obtain ⟨as, q⟩ := ih vs hv
      exact ⟨_, .list (R.d _ _ e) rfl rfl (by simpa using q)⟩)
    (fun hm r ih v h => by
      rw [h.refI]
      obtain ⟨vs, n, e, hv⟩ := R.sto _ hm
      obtain ⟨as, q⟩ := ih _ hv
      have e' := R.pl _ hm
      exact ⟨_, .list e' (by rw [show _ = lstO vs n from e]) (by rw [show _ = lstO vs n from e]) q⟩)
    (fun v h => by rw [h.nilI]; exact ⟨_, .nil⟩)
    (fun a b ia ib v h => by
      obtain ⟨_, _, rfl, h1, h2⟩ := h.consI
      obtain ⟨as, q⟩ := ia _ h1
      obtain ⟨bs, q'⟩ := ib _ h2
      exact ⟨_, .cons q q'⟩) p v

theorem AOk.line {A : Around} {d : Nat} (h : AOk A d) : A.units + 64 < cLine := Nat.lt_of_le_of_lt (Nat.add_le_add_right (Nat.le_of_lt (Nat.lt_of_le_of_lt (Nat.le_add_right _ _) h.units)) 64) (show 9000 + 64 < 9900 by decide)
theorem C_eqD {x y : V} {e f : PyData} (hx : Dp σ x e) (hy : Dp σ y f) (he : SeqAt.shaped e = true) (hf : SeqAt.shaped f = true) (q : Q (.bool (PyData.eqv e f)) σ) : AC2 C d (compareOp .Eq) x y σ Q := fun A G D s v u hA R hv hu => by
  obtain ⟨_, r1⟩ := hx.reads R hv
  obtain ⟨_, r2⟩ := hy.reads R hu
  exact SeqAt.compareEq_shaped r1 r2 he hf hA.line (PostC.now R (.bool _) q)
theorem C_neD {x y : V} {e f : PyData} (hx : Dp σ x e) (hy : Dp σ y f) (he : SeqAt.shaped e = true) (hf : SeqAt.shaped f = true) (q : Q (.bool (!PyData.eqv e f)) σ) : AC2 C d (compareOp .NotEq) x y σ Q := fun A G D s v u hA R hv hu => by
  obtain ⟨_, r1⟩ := hx.reads R hv
  obtain ⟨_, r2⟩ := hy.reads R hu
  exact SeqAt.compareNe_shaped r1 r2 he hf hA.line (PostC.now R (.bool _) q)

theorem Has.isL {x : V} {xs : List V} {P : Sto → Prop} (h : Has σ x (.list xs) P) (R : RelC C G D σ s) {v : Value} (hv : VR C.w D v x) :
    ∃ a vs, v = .ref a ∧ s.heap.IsList a vs ∧ VRs C.w D vs.toList xs := by
  obtain ⟨a, vs, n, rfl, ho, hr⟩ := h.isList R hv
  exact ⟨a, vs, rfl, ⟨_, ho, rfl, n, rfl⟩, hr⟩
theorem VR.isT {xs : List V} (R : RelC C G D σ s) {v : Value} (hv : VR C.w D v (.tup xs)) : ∃ a vs, v = .ref a ∧ PyProof.Rows.IsTup s.heap a vs ∧ s.heap.IsTuple a vs ∧ VRs C.w D vs.toList xs := by
  cases hv with
  | tup e hc hd hr => exact ⟨_, _, rfl, ⟨_, R.d _ _ e, hc, _, hd⟩, ⟨_, R.d _ _ e, hc, _, hd⟩, by simpa using hr⟩

theorem K_lenL {x : V} {xs : List V} {P : Sto → Prop} (h : Has σ x (.list xs) P) (hl : xs.length ≤ sizeLine) (q : Q (.int xs.length) σ) : KW C d (.bi "len") [x] σ Q := fun A G D s v vs hA R hv hs => by
  (first | obtain rfl := VR.biI hv | obtain rfl := VR.typeI hv | obtain rfl := VR.refI hv | obtain ⟨_, rfl⟩ := VR.intI hv | obtain ⟨_, rfl⟩ := VR.strI hv | obtain rfl := VR.boolI hv | obtain rfl := VR.noneI hv | obtain rfl := VRs.nilI hv | cases hv)
  obtain ⟨_, _, rfl, h1, h2⟩ := VRs.consI hs
  · skip
    (first | obtain rfl := VR.biI h2 | obtain rfl := VR.typeI h2 | obtain rfl := VR.refI h2 | obtain ⟨_, rfl⟩ := VR.intI h2 | obtain ⟨_, rfl⟩ := VR.strI h2 | obtain rfl := VR.boolI h2 | obtain rfl := VR.noneI h2 | obtain rfl := VRs.nilI h2 | cases h2)
    obtain ⟨a, ws, rfl, hL, hr⟩ := h.isL R h1
    have e : ws.size = xs.length := by rw [← hr.length]; simp
    refine Calls.call_len_list hL (by rw [e]; have : xs.length ≤ 16777216 := hl; lia) ?_
    rw [e]; exact PostC.now (R.tok _) (.int _ _) q
theorem K_lenT {xs : List V} (hl : xs.length ≤ sizeLine) (q : Q (.int xs.length) σ) : KW C d (.bi "len") [.tup xs] σ Q := fun A G D s v vs hA R hv hs => by
  (first | obtain rfl := VR.biI hv | obtain rfl := VR.typeI hv | obtain rfl := VR.refI hv | obtain ⟨_, rfl⟩ := VR.intI hv | obtain ⟨_, rfl⟩ := VR.strI hv | obtain rfl := VR.boolI hv | obtain rfl := VR.noneI hv | obtain rfl := VRs.nilI hv | cases hv)
  obtain ⟨_, _, rfl, h1, h2⟩ := VRs.consI hs
  · skip
    (first | obtain rfl := VR.biI h2 | obtain rfl := VR.typeI h2 | obtain rfl := VR.refI h2 | obtain ⟨_, rfl⟩ := VR.intI h2 | obtain ⟨_, rfl⟩ := VR.strI h2 | obtain rfl := VR.boolI h2 | obtain rfl := VR.noneI h2 | obtain rfl := VRs.nilI h2 | cases h2)
    obtain ⟨a, ws, rfl, hT, _, hr⟩ := VR.isT R h1
    have e : ws.size = xs.length := by rw [← hr.length]; simp
    refine PyProof.Rows.len_tuple hT (by rw [e]; have : xs.length ≤ 16777216 := hl; lia) ?_
    rw [e]; exact PostC.now (R.tok _) (.int _ _) q
theorem K_lenS {x : Str} (hl : x.length ≤ sizeLine) (q : Q (.int x.length) σ) : KW C d (.bi "len") [.str x] σ Q := fun A G D s v vs hA R hv hs => by
  (first | obtain rfl := VR.biI hv | obtain rfl := VR.typeI hv | obtain rfl := VR.refI hv | obtain ⟨_, rfl⟩ := VR.intI hv | obtain ⟨_, rfl⟩ := VR.strI hv | obtain rfl := VR.boolI hv | obtain rfl := VR.noneI hv | obtain rfl := VRs.nilI hv | cases hv)
  obtain ⟨_, _, rfl, h1, h2⟩ := VRs.consI hs
  · skip
    (first | obtain rfl := VR.biI h2 | obtain rfl := VR.typeI h2 | obtain rfl := VR.refI h2 | obtain ⟨_, rfl⟩ := VR.intI h2 | obtain ⟨_, rfl⟩ := VR.strI h2 | obtain rfl := VR.boolI h2 | obtain rfl := VR.noneI h2 | obtain rfl := VRs.nilI h2 | cases h2); (first | obtain rfl := VR.biI h1 | obtain rfl := VR.typeI h1 | obtain rfl := VR.refI h1 | obtain ⟨_, rfl⟩ := VR.intI h1 | obtain ⟨_, rfl⟩ := VR.strI h1 | obtain rfl := VR.boolI h1 | obtain rfl := VR.noneI h1 | obtain rfl := VRs.nilI h1 | cases h1)
    exact PyProof.Rows.len_str (by have : x.length ≤ 16777216 := hl; lia) (PostC.now (R.tok _) (.int _ _) q)

theorem G_list {x : V} {xs : List V} {P : Sto → Prop} {k : Int} {X : V} (h : Has σ x (.list xs) P) (h0 : 0 ≤ k) (hf : k < 2 ^ 63) (hx : xs[k.toNat]? = some X) (q : Q X σ) : SubR C d x (.int k) σ Q := fun A G D s o v hA R ho hv => by
  (first | obtain rfl := VR.biI hv | obtain rfl := VR.typeI hv | obtain rfl := VR.refI hv | obtain ⟨_, rfl⟩ := VR.intI hv | obtain ⟨_, rfl⟩ := VR.strI hv | obtain rfl := VR.boolI hv | obtain rfl := VR.noneI hv | obtain rfl := VRs.nilI hv | cases hv)
  obtain ⟨a, ws, rfl, hL, hr⟩ := h.isL R ho
  obtain ⟨u, hu, ru⟩ := hr.get hx
  exact ⟨"list", _, hL.typeIs, slot_list_getitem.lookup, wpAny_getItem_list hL h0 hf (by rw [← Array.getElem?_toList]; exact hu) (PostC.now R ru q)⟩
theorem G_listN {x : V} {xs : List V} {P : Sto → Prop} {k : Int} {X : V} (h : Has σ x (.list xs) P) (h0 : k < 0) (h1 : -(xs.length : Int) ≤ k) (hf : -(2 ^ 63) ≤ k) (hx : xs[(k + xs.length).toNat]? = some X) (q : Q X σ) : SubR C d x (.int k) σ Q := fun A G D s o v hA R ho hv => by
  (first | obtain rfl := VR.biI hv | obtain rfl := VR.typeI hv | obtain rfl := VR.refI hv | obtain ⟨_, rfl⟩ := VR.intI hv | obtain ⟨_, rfl⟩ := VR.strI hv | obtain rfl := VR.boolI hv | obtain rfl := VR.noneI hv | obtain rfl := VRs.nilI hv | cases hv)
  obtain ⟨a, ws, rfl, hL, hr⟩ := h.isL R ho
  obtain ⟨u, hu, ru⟩ := hr.get hx
  have e : ws.size = xs.length := by rw [← hr.length]; simp
  exact ⟨"list", _, hL.typeIs, slot_list_getitem.lookup, wpAny_getItem_list_neg hL h0 (by rw [e]; exact h1) hf (by rw [← Array.getElem?_toList, e]; exact hu) (PostC.now R ru q)⟩
theorem G_tup {xs : List V} {k : Int} {X : V} (h0 : 0 ≤ k) (hf : k < 2 ^ 63) (hx : xs[k.toNat]? = some X) (q : Q X σ) : SubR C d (.tup xs) (.int k) σ Q := fun A G D s o v hA R ho hv => by
  (first | obtain rfl := VR.biI hv | obtain rfl := VR.typeI hv | obtain rfl := VR.refI hv | obtain ⟨_, rfl⟩ := VR.intI hv | obtain ⟨_, rfl⟩ := VR.strI hv | obtain rfl := VR.boolI hv | obtain rfl := VR.noneI hv | obtain rfl := VRs.nilI hv | cases hv)
  obtain ⟨a, ws, rfl, hT, _, hr⟩ := VR.isT R ho
  obtain ⟨u, hu, ru⟩ := hr.get hx
  have e : ws.size = xs.length := by rw [← hr.length]; simp
  have hk : k.toNat < xs.length := (List.getElem?_eq_some_iff.mp hx).1
  have hj : seqIndex? k ws.size = some k.toNat := by
    unfold seqIndex?
    rw [e]
    have h1 : (k : Int) < (xs.length : Int) := by lia
    simp [show ¬ k < 0 by lia, h0, h1]
  exact ⟨"tuple", _, hT.typeIs, PyProof.Rows.slot_tuple_getitem.lookup, PyProof.Rows.getItem_tuple hT (by lia) hf hj (by rw [← Array.getElem?_toList]; exact hu) (PostC.now R ru q)⟩
theorem G_str {x : Str} {k : Int} {c : Nat} (h0 : 0 ≤ k) (hf : k < 2 ^ 63) (hx : x.cps[k.toNat]? = some c) (q : Q (.str ⟨#[c]⟩) σ) : SubR C d (.str x) (.int k) σ Q := fun A G D s o v hA R ho hv => by
  (first | obtain rfl := VR.biI hv | obtain rfl := VR.typeI hv | obtain rfl := VR.refI hv | obtain ⟨_, rfl⟩ := VR.intI hv | obtain ⟨_, rfl⟩ := VR.strI hv | obtain rfl := VR.boolI hv | obtain rfl := VR.noneI hv | obtain rfl := VRs.nilI hv | cases hv); cases ho
  have hk : k.toNat < x.cps.size := by
    rcases Nat.lt_or_ge k.toNat x.cps.size with h | h
    · exact h
    · rw [Array.getElem?_eq_none h] at hx; cases hx
  have hj : seqIndex? k x.length = some k.toNat := by
    unfold seqIndex? Str.length
    have h1 : (k : Int) < (x.cps.size : Int) := by lia
    simp [show ¬ k < 0 by lia, h0, h1]
  refine ⟨"str", _, typeIs_str _ _ _, F.slot_str_getitem.lookup, PyProof.Rows.getItem_str (c := c) (by simp; lia) (by rw [hj]; exact hx) (PostC.now (R.tok _) (.str _ _) q)⟩
end
end Mine

set_option autoImplicit false
set_option linter.unusedVariables false
namespace Mine
open PySem

section
variable {C : Cx} {d : Nat} {σ : Sto} {Q : V → Sto → Prop} {G D : Gh} {s : Shared} {A : Around}

theorem I_int_int {i : Int} (q : Q (.bool true) σ) : KW C d (.bi "isinstance") [.int i, .type "int"] σ Q := fun A G D s v vs hA R hv hs => by
  (first | obtain rfl := VR.biI hv | obtain rfl := VR.typeI hv | obtain rfl := VR.refI hv | obtain ⟨_, rfl⟩ := VR.intI hv | obtain ⟨_, rfl⟩ := VR.strI hv | obtain rfl := VR.boolI hv | obtain rfl := VR.noneI hv | obtain rfl := VRs.nilI hv | cases hv); obtain ⟨_, _, rfl, h1, h2⟩ := VRs.consI hs; obtain ⟨_, _, rfl, h3, h4⟩ := VRs.consI h2; (first | obtain rfl := VR.biI h4 | obtain rfl := VR.typeI h4 | obtain rfl := VR.refI h4 | obtain ⟨_, rfl⟩ := VR.intI h4 | obtain ⟨_, rfl⟩ := VR.strI h4 | obtain rfl := VR.boolI h4 | obtain rfl := VR.noneI h4 | obtain rfl := VRs.nilI h4 | cases h4); (first | obtain rfl := VR.biI h3 | obtain rfl := VR.typeI h3 | obtain rfl := VR.refI h3 | obtain ⟨_, rfl⟩ := VR.intI h3 | obtain ⟨_, rfl⟩ := VR.strI h3 | obtain rfl := VR.boolI h3 | obtain rfl := VR.noneI h3 | obtain rfl := VRs.nilI h3 | cases h3); (first | obtain rfl := VR.biI h1 | obtain rfl := VR.typeI h1 | obtain rfl := VR.refI h1 | obtain ⟨_, rfl⟩ := VR.intI h1 | obtain ⟨_, rfl⟩ := VR.strI h1 | obtain rfl := VR.boolI h1 | obtain rfl := VR.noneI h1 | obtain rfl := VRs.nilI h1 | cases h1); exact IsiPair.int_int (PostC.now R (.bool _) q)
theorem I_int_bool {i : Int} (q : Q (.bool false) σ) : KW C d (.bi "isinstance") [.int i, .type "bool"] σ Q := fun A G D s v vs hA R hv hs => by
  (first | obtain rfl := VR.biI hv | obtain rfl := VR.typeI hv | obtain rfl := VR.refI hv | obtain ⟨_, rfl⟩ := VR.intI hv | obtain ⟨_, rfl⟩ := VR.strI hv | obtain rfl := VR.boolI hv | obtain rfl := VR.noneI hv | obtain rfl := VRs.nilI hv | cases hv); obtain ⟨_, _, rfl, h1, h2⟩ := VRs.consI hs; obtain ⟨_, _, rfl, h3, h4⟩ := VRs.consI h2; (first | obtain rfl := VR.biI h4 | obtain rfl := VR.typeI h4 | obtain rfl := VR.refI h4 | obtain ⟨_, rfl⟩ := VR.intI h4 | obtain ⟨_, rfl⟩ := VR.strI h4 | obtain rfl := VR.boolI h4 | obtain rfl := VR.noneI h4 | obtain rfl := VRs.nilI h4 | cases h4); (first | obtain rfl := VR.biI h3 | obtain rfl := VR.typeI h3 | obtain rfl := VR.refI h3 | obtain ⟨_, rfl⟩ := VR.intI h3 | obtain ⟨_, rfl⟩ := VR.strI h3 | obtain rfl := VR.boolI h3 | obtain rfl := VR.noneI h3 | obtain rfl := VRs.nilI h3 | cases h3); (first | obtain rfl := VR.biI h1 | obtain rfl := VR.typeI h1 | obtain rfl := VR.refI h1 | obtain ⟨_, rfl⟩ := VR.intI h1 | obtain ⟨_, rfl⟩ := VR.strI h1 | obtain rfl := VR.boolI h1 | obtain rfl := VR.noneI h1 | obtain rfl := VRs.nilI h1 | cases h1); exact IsiPair.int_bool (PostC.now (R.tok _) (.bool _) q)
theorem I_str_str {x : Str} (q : Q (.bool true) σ) : KW C d (.bi "isinstance") [.str x, .type "str"] σ Q := fun A G D s v vs hA R hv hs => by
  (first | obtain rfl := VR.biI hv | obtain rfl := VR.typeI hv | obtain rfl := VR.refI hv | obtain ⟨_, rfl⟩ := VR.intI hv | obtain ⟨_, rfl⟩ := VR.strI hv | obtain rfl := VR.boolI hv | obtain rfl := VR.noneI hv | obtain rfl := VRs.nilI hv | cases hv); obtain ⟨_, _, rfl, h1, h2⟩ := VRs.consI hs; obtain ⟨_, _, rfl, h3, h4⟩ := VRs.consI h2; (first | obtain rfl := VR.biI h4 | obtain rfl := VR.typeI h4 | obtain rfl := VR.refI h4 | obtain ⟨_, rfl⟩ := VR.intI h4 | obtain ⟨_, rfl⟩ := VR.strI h4 | obtain rfl := VR.boolI h4 | obtain rfl := VR.noneI h4 | obtain rfl := VRs.nilI h4 | cases h4); (first | obtain rfl := VR.biI h3 | obtain rfl := VR.typeI h3 | obtain rfl := VR.refI h3 | obtain ⟨_, rfl⟩ := VR.intI h3 | obtain ⟨_, rfl⟩ := VR.strI h3 | obtain rfl := VR.boolI h3 | obtain rfl := VR.noneI h3 | obtain rfl := VRs.nilI h3 | cases h3); (first | obtain rfl := VR.biI h1 | obtain rfl := VR.typeI h1 | obtain rfl := VR.refI h1 | obtain ⟨_, rfl⟩ := VR.intI h1 | obtain ⟨_, rfl⟩ := VR.strI h1 | obtain rfl := VR.boolI h1 | obtain rfl := VR.noneI h1 | obtain rfl := VRs.nilI h1 | cases h1); exact IsiPair.str_str (PostC.now R (.bool _) q)
theorem I_tuple_tuple {xs : List V} (q : Q (.bool true) σ) : KW C d (.bi "isinstance") [.tup xs, .type "tuple"] σ Q := fun A G D s v vs hA R hv hs => by
  (first | obtain rfl := VR.biI hv | obtain rfl := VR.typeI hv | obtain rfl := VR.refI hv | obtain ⟨_, rfl⟩ := VR.intI hv | obtain ⟨_, rfl⟩ := VR.strI hv | obtain rfl := VR.boolI hv | obtain rfl := VR.noneI hv | obtain rfl := VRs.nilI hv | cases hv); obtain ⟨_, _, rfl, h1, h2⟩ := VRs.consI hs; obtain ⟨_, _, rfl, h3, h4⟩ := VRs.consI h2; (first | obtain rfl := VR.biI h4 | obtain rfl := VR.typeI h4 | obtain rfl := VR.refI h4 | obtain ⟨_, rfl⟩ := VR.intI h4 | obtain ⟨_, rfl⟩ := VR.strI h4 | obtain rfl := VR.boolI h4 | obtain rfl := VR.noneI h4 | obtain rfl := VRs.nilI h4 | cases h4); (first | obtain rfl := VR.biI h3 | obtain rfl := VR.typeI h3 | obtain rfl := VR.refI h3 | obtain ⟨_, rfl⟩ := VR.intI h3 | obtain ⟨_, rfl⟩ := VR.strI h3 | obtain rfl := VR.boolI h3 | obtain rfl := VR.noneI h3 | obtain rfl := VRs.nilI h3 | cases h3); cases h1 with | tup e hc hd hr => exact IsiPair.tuple_tuple (R.d _ _ e) hc (PostC.now R (.bool _) q)
theorem I_list_list {x : V} {xs : List V} {P : Sto → Prop} (h : Has σ x (.list xs) P) (q : Q (.bool true) σ) : KW C d (.bi "isinstance") [x, .type "list"] σ Q := fun A G D s v vs hA R hv hs => by
  (first | obtain rfl := VR.biI hv | obtain rfl := VR.typeI hv | obtain rfl := VR.refI hv | obtain ⟨_, rfl⟩ := VR.intI hv | obtain ⟨_, rfl⟩ := VR.strI hv | obtain rfl := VR.boolI hv | obtain rfl := VR.noneI hv | obtain rfl := VRs.nilI hv | cases hv); obtain ⟨_, _, rfl, h1, h2⟩ := VRs.consI hs; obtain ⟨_, _, rfl, h3, h4⟩ := VRs.consI h2; (first | obtain rfl := VR.biI h4 | obtain rfl := VR.typeI h4 | obtain rfl := VR.refI h4 | obtain ⟨_, rfl⟩ := VR.intI h4 | obtain ⟨_, rfl⟩ := VR.strI h4 | obtain rfl := VR.boolI h4 | obtain rfl := VR.noneI h4 | obtain rfl := VRs.nilI h4 | cases h4); (first | obtain rfl := VR.biI h3 | obtain rfl := VR.typeI h3 | obtain rfl := VR.refI h3 | obtain ⟨_, rfl⟩ := VR.intI h3 | obtain ⟨_, rfl⟩ := VR.strI h3 | obtain rfl := VR.boolI h3 | obtain rfl := VR.noneI h3 | obtain rfl := VRs.nilI h3 | cases h3); obtain ⟨a, o, rfl, ho, hr, _⟩ := h.run R h1; obtain ⟨_, _, rfl, _⟩ := hr; exact IsiPair.list_list ho rfl (PostC.now R (.bool _) q)
inductive PartV : V → Option Int → Prop
  | none : PartV .none none
  | int (i : Int) : PartV (.int i) (some i)
theorem PartV.is {w : World} {x : V} {o : Option Int} (h : PartV x o) {v : Value} (hv : VR w D v x) : IsPart v o := by
  cases h with
  | none => rw [VR.noneI hv]; exact .none
  | int i => obtain ⟨_, rfl⟩ := VR.intI hv; exact .int _ _
noncomputable def slL (xs : List V) (lo hi st : Option Int) : List V :=
  (sliceRange (sliceBounds lo hi st xs.length).1 (sliceBounds lo hi st xs.length).2.1 (sliceBounds lo hi st xs.length).2.2).filterMap (xs[·]?)
theorem VRs.pick {w : World} {vs : List Value} {xs : List V} (h : VRs w D vs xs) (is : List Nat) : VRs w D (is.filterMap (vs[·]?)) (is.filterMap (xs[·]?)) := by
  induction is with
  | nil => exact .nil
  | cons i r ih =>
    cases e : xs[i]? with
    | some X =>
      obtain ⟨u, hu, ru⟩ := h.get e
      rw [List.filterMap_cons_some hu, List.filterMap_cons_some e]
      exact .cons ru ih
    | none =>
      have e' : vs[i]? = none := by
        rw [List.getElem?_eq_none_iff] at e ⊢; rw [h.length]; exact e
      rw [List.filterMap_cons_none e', List.filterMap_cons_none e]
      exact ih
theorem G_slice {x L U S : V} {xs : List V} {P : Sto → Prop} {lo hi st : Option Int} (h : Has σ x (.list xs) P) (hL : PartV L lo) (hU : PartV U hi) (hS : PartV S st) (h0 : st ≠ some 0) (hl : xs.length ≤ sizeLine)
    (q : NLq Q (slL xs lo hi st) σ) : SubR C d x (.slc L U S) σ Q := fun A G D s o v hA R ho hv => by
  obtain ⟨_, _, _, _, rfl, e, h1, h2, h3⟩ := VR.slcI hv
  · skip
    obtain ⟨a, ws, rfl, hIs, hr⟩ := h.isL R ho
    have es : ws.size = xs.length := by rw [← hr.length]; simp
    refine ⟨"list", _, hIs.typeIs, slot_list_getitem.lookup, wpAny_getItem_list_slice hIs ⟨_, R.d _ _ e, rfl, rfl⟩ (hL.is h1) (hU.is h2) (hS.is h3) h0 ?_ (by rw [es]; exact hl)⟩
    have ep : slicePick ws lo hi st = ((sliceRange (sliceBounds lo hi st xs.length).1 (sliceBounds lo hi st xs.length).2.1 (sliceBounds lo hi st xs.length).2.2).filterMap (ws.toList[·]?)).toArray := by
      unfold slicePick; rw [es]; congr 1
      simp
    rw [ep]
    exact R.mkL (hr.pick _) q

theorem B_addL {x y : V} {xs ys : List V} {P P' : Sto → Prop} (h : Has σ x (.list xs) P) (h' : Has σ y (.list ys) P') (hl : xs.length + ys.length ≤ sizeLine) (q : NLq Q (xs ++ ys) σ) : AC2 C d (binaryOp .Add) x y σ Q := fun A G D s v u hA R hv hu => by
  obtain ⟨a, ws, n, rfl, ho, hr⟩ := h.isList R hv
  obtain ⟨b, zs, n', rfl, ho', hr'⟩ := h'.isList R hu
  have e1 : ws.size = xs.length := by rw [← hr.length]; simp
  have e2 : zs.size = ys.length := by rw [← hr'.length]; simp
  refine concat_meets ⟨_, ho, rfl⟩ ⟨_, ho', rfl⟩ noFill_list_add seq_list_add F.slot_list_add F.entry_list_add (F.args_list_add_2 _ _) (PyProof.Rows.list_addW a b ws zs n n' none none #[] #[] (by lia)) ⟨ho, ho', ?_⟩
  have e : ws ++ zs = (ws.toList ++ zs.toList).toArray := by simp
  rw [e]
  exact R.mkL (hr.append hr') q

theorem K_all {x : V} {bs : List Bool} {P : Sto → Prop} (h : Has σ x (.list (bs.map V.bool)) P) (q : Q (.bool (bs.all id)) σ) : KW C d (.bi "all") [x] σ Q := fun A G D s v vs hA R hv hs => by
  (first | obtain rfl := VR.biI hv | obtain rfl := VR.typeI hv | obtain rfl := VR.refI hv | obtain ⟨_, rfl⟩ := VR.intI hv | obtain ⟨_, rfl⟩ := VR.strI hv | obtain rfl := VR.boolI hv | obtain rfl := VR.noneI hv | obtain rfl := VRs.nilI hv | cases hv)
  obtain ⟨_, _, rfl, h1, h2⟩ := VRs.consI hs
  · skip
    (first | obtain rfl := VR.biI h2 | obtain rfl := VR.typeI h2 | obtain rfl := VR.refI h2 | obtain ⟨_, rfl⟩ := VR.intI h2 | obtain ⟨_, rfl⟩ := VR.strI h2 | obtain rfl := VR.boolI h2 | obtain rfl := VR.noneI h2 | obtain rfl := VRs.nilI h2 | cases h2)
    obtain ⟨a, ws, rfl, hL, hr⟩ := h.isL R h1
    have ew : ws.size = bs.length := by rw [show ws.size = ws.toList.length by simp, hr.length]; simp
    have hne : a ≠ s.heap.objs.size := Nat.ne_of_lt (let ⟨_, e, _⟩ := hL; Heap.lt_size e)
    refine call_all_walk (wpAny_pyIter_list hL ⟨s.heap.objs.size, _, _, ws.size, _, _, fun i => bs.getD i false, rfl, Walks.list (A := A.in1) hA.h s.heap.objs.size a hne ws, ⟨⟨_, Heap.get?_push_size _ rfl, rfl, rfl⟩, hL.push _⟩, ?_, fun h' tk hk => ?_⟩)
    · intro i u s' K E' hu hK
      have hu' : ws.toList[i]? = some u := by simpa using hu
      obtain ⟨X, hX, rX⟩ := hr.get' hu'
      rw [List.getElem?_map] at hX
      obtain ⟨b, hb, e⟩ := Option.map_eq_some_iff.mp hX
      subst e
      cases rX
      refine wpAny_truthy_bool ?_
      simpa [List.getD, hb] using hK
    · have : (List.range ws.size).all (fun i => bs.getD i false) = bs.all id := by
        rw [ew]
        clear hr ew hL hne hk h q h1
        induction bs with
        | nil => rfl
        | cons b r ih =>
          rw [List.length_cons, List.range_succ_eq_map, List.all_cons, List.all_map]
          simp only [List.getD_cons_zero, List.all_cons, id, Function.comp_def, List.getD_cons_succ]
          rw [ih]
      rw [this]
      exact PostC.now ((R.push _).keepBut (h' := h') tk [s.heap.objs.size] (fun c hc => by simp at hc; subst hc; exact ⟨R.new_G, R.new_D, R.new_notFoot⟩) hk) (.bool _) q
theorem K_max2 {a b : Int} (q : Q (.int (max a b)) σ) : KW C d (.bi "max") [.int a, .int b] σ Q := fun A G D s v vs hA R hv hs => by
  (first | obtain rfl := VR.biI hv | obtain rfl := VR.typeI hv | obtain rfl := VR.refI hv | obtain ⟨_, rfl⟩ := VR.intI hv | obtain ⟨_, rfl⟩ := VR.strI hv | obtain rfl := VR.boolI hv | obtain rfl := VR.noneI hv | obtain rfl := VRs.nilI hv | cases hv); cases hs with
  | cons h1 h2 =>
    obtain ⟨_, _, rfl, h3, h4⟩ := VRs.consI h2
    · skip
      (first | obtain rfl := VR.biI h4 | obtain rfl := VR.typeI h4 | obtain rfl := VR.refI h4 | obtain ⟨_, rfl⟩ := VR.intI h4 | obtain ⟨_, rfl⟩ := VR.strI h4 | obtain rfl := VR.boolI h4 | obtain rfl := VR.noneI h4 | obtain rfl := VRs.nilI h4 | cases h4); (first | obtain rfl := VR.biI h3 | obtain rfl := VR.typeI h3 | obtain rfl := VR.refI h3 | obtain ⟨_, rfl⟩ := VR.intI h3 | obtain ⟨_, rfl⟩ := VR.strI h3 | obtain rfl := VR.boolI h3 | obtain rfl := VR.noneI h3 | obtain rfl := VRs.nilI h3 | cases h3); (first | obtain rfl := VR.biI h1 | obtain rfl := VR.typeI h1 | obtain rfl := VR.refI h1 | obtain ⟨_, rfl⟩ := VR.intI h1 | obtain ⟨_, rfl⟩ := VR.strI h1 | obtain rfl := VR.boolI h1 | obtain rfl := VR.noneI h1 | obtain rfl := VRs.nilI h1 | cases h1)
      refine max_two_ints hA.h fun h' tk hk => ?_
      have R' := R.keep (h' := h') tk hk
      by_cases hc : b > a
      · rw [if_pos hc]; rw [show max a b = b by lia] at q; exact PostC.now R' (.int _ _) q
      · rw [if_neg hc]; rw [show max a b = a by lia] at q; exact PostC.now R' (.int _ _) q
theorem K_min2 {a b : Int} (q : Q (.int (min a b)) σ) : KW C d (.bi "min") [.int a, .int b] σ Q := fun A G D s v vs hA R hv hs => by
  (first | obtain rfl := VR.biI hv | obtain rfl := VR.typeI hv | obtain rfl := VR.refI hv | obtain ⟨_, rfl⟩ := VR.intI hv | obtain ⟨_, rfl⟩ := VR.strI hv | obtain rfl := VR.boolI hv | obtain rfl := VR.noneI hv | obtain rfl := VRs.nilI hv | cases hv); cases hs with
  | cons h1 h2 =>
    obtain ⟨_, _, rfl, h3, h4⟩ := VRs.consI h2
    · skip
      (first | obtain rfl := VR.biI h4 | obtain rfl := VR.typeI h4 | obtain rfl := VR.refI h4 | obtain ⟨_, rfl⟩ := VR.intI h4 | obtain ⟨_, rfl⟩ := VR.strI h4 | obtain rfl := VR.boolI h4 | obtain rfl := VR.noneI h4 | obtain rfl := VRs.nilI h4 | cases h4); (first | obtain rfl := VR.biI h3 | obtain rfl := VR.typeI h3 | obtain rfl := VR.refI h3 | obtain ⟨_, rfl⟩ := VR.intI h3 | obtain ⟨_, rfl⟩ := VR.strI h3 | obtain rfl := VR.boolI h3 | obtain rfl := VR.noneI h3 | obtain rfl := VRs.nilI h3 | cases h3); (first | obtain rfl := VR.biI h1 | obtain rfl := VR.typeI h1 | obtain rfl := VR.refI h1 | obtain ⟨_, rfl⟩ := VR.intI h1 | obtain ⟨_, rfl⟩ := VR.strI h1 | obtain rfl := VR.boolI h1 | obtain rfl := VR.noneI h1 | obtain rfl := VRs.nilI h1 | cases h1)
      refine min_two_ints hA.h fun h' tk hk => ?_
      have R' := R.keep (h' := h') tk hk
      by_cases hc : b < a
      · rw [if_pos hc]; rw [show min a b = b by lia] at q; exact PostC.now R' (.int _ _) q
      · rw [if_neg hc]; rw [show min a b = a by lia] at q; exact PostC.now R' (.int _ _) q
theorem K_range1 {n : Int} (q : Q (.rng 0 n 1) σ) : KW C d (.type "range") [.int n] σ Q := fun A G D s v vs hA R hv hs => by
  (first | obtain rfl := VR.biI hv | obtain rfl := VR.typeI hv | obtain rfl := VR.refI hv | obtain ⟨_, rfl⟩ := VR.intI hv | obtain ⟨_, rfl⟩ := VR.strI hv | obtain rfl := VR.boolI hv | obtain rfl := VR.noneI hv | obtain rfl := VRs.nilI hv | cases hv); cases hs with
  | cons h1 h2 =>
    (first | obtain rfl := VR.biI h2 | obtain rfl := VR.typeI h2 | obtain rfl := VR.refI h2 | obtain ⟨_, rfl⟩ := VR.intI h2 | obtain ⟨_, rfl⟩ := VR.strI h2 | obtain rfl := VR.boolI h2 | obtain rfl := VR.noneI h2 | obtain rfl := VRs.nilI h2 | cases h2); (first | obtain rfl := VR.biI h1 | obtain rfl := VR.typeI h1 | obtain rfl := VR.refI h1 | obtain ⟨_, rfl⟩ := VR.intI h1 | obtain ⟨_, rfl⟩ := VR.strI h1 | obtain rfl := VR.boolI h1 | obtain rfl := VR.noneI h1 | obtain rfl := VRs.nilI h1 | cases h1)
    refine call_range_1 ?_
    obtain ⟨R', dx⟩ := (R.tok (s.toks + 1 + 1)).newF { cls := .type "range", data := .fields #[.int 0 s.toks, .int n _, .int 1 (s.toks + 1)] }
    exact ⟨_, _, σ, dx, .rng (putD_self ..), R', q⟩
end
end Mine

set_option autoImplicit false
set_option linter.unusedVariables false
namespace Mine
open PySem

section
variable {C : Cx} {env : Env} {vars : List Str} {gl : List (Str × V)} {own : Bool} {d : Nat} {m m' : Loc} {σ σ' : Sto}
variable {A : Around} {G D D₀ D₁ : Gh} {s : Shared} {P : V → Sto → Prop}

noncomputable def APart (C : Cx) (env : Env) (vars : List Str) (gl : List (Str × V)) (own : Bool) (d : Nat) : Option Expr → Loc → Sto → (V → Sto → Prop) → Prop
  | none, m, σ, K => K .none σ
  | some e, m, σ, K => AT C env vars gl own d (eval e env) m σ K
theorem APart.run {e : Option Expr} {K : V → Sto → Prop} (h : APart C env vars gl own d e m σ K) (hA : AOk A d) (R : RelF C env vars gl own G D m σ s) {Z : Value → Shared → Prop}
    (k : ∀ v s' x D' σ', DX G D D' → VR C.w D' v x → RelF C env vars gl own G D' m σ' s' → K x σ' → Z v s') : wpAny C.M A (evalPart e env) Z (fun _ _ => False) s := by
  cases e with
  | none => rw [evalPart_none]; exact wpAny_pure (k _ _ _ _ _ (DX.refl _ _) .none R h)
  | some e => rw [evalPart_some]; exact AT.run h hA R k
theorem AT_Slice {l u st : Option Expr} {p : Pos} (h : APart C env vars gl own d l m σ fun L σ₁ => APart C env vars gl own d u m σ₁ fun U σ₂ => APart C env vars gl own d st m σ₂ fun S σ₃ => P (.slc L U S) σ₃) :
    AT C env vars gl own d (eval (.Slice l u st p) env) m σ P := fun A G D s hA R =>
  wpAny_Slice (h.run hA R fun v₁ s₁ L D₁ σ₁ a₁ b₁ c₁ e₁ => e₁.run hA c₁ fun v₂ s₂ U D₂ σ₂ a₂ b₂ c₂ e₂ => e₂.run hA c₂ fun v₃ s₃ S D₃ σ₃ a₃ b₃ c₃ e₃ => by
    obtain ⟨R', dx⟩ := c₃.newF { cls := .type "slice", data := .fields #[v₁, v₂, v₃] }
    exact ⟨.slc L U S, _, σ₃, ((a₁.trans a₂).trans a₃).trans dx, .slc (putD_self ..) (b₁.mono ((a₂.trans a₃).trans dx).sub) (b₂.mono (a₃.trans dx).sub) (b₃.mono dx.sub), R', e₃⟩)

structure MethIs (T : String) (name : Str) (id : String) : Prop where
  pa : PlainAttrs T
  slot : Slot T name id
  ty : typeOf (.builtin id) = pure (.type "method_descriptor")
noncomputable def TyR (C : Cx) (x : V) (σ : Sto) (T : String) : Prop :=
  ∀ G D s v, RelC C G D σ s → VR C.w D v x → s.TypeIs v T ∧ ∀ a, v = .ref a → ∃ ob, s.heap.get? a = some ob ∧ ob.dict = none
theorem TyR_str {x : Str} : TyR C (.str x) σ "str" := fun G D s v R hv => by (first | obtain rfl := VR.biI hv | obtain rfl := VR.typeI hv | obtain rfl := VR.refI hv | obtain ⟨_, rfl⟩ := VR.intI hv | obtain ⟨_, rfl⟩ := VR.strI hv | obtain rfl := VR.boolI hv | obtain rfl := VR.noneI hv | obtain rfl := VRs.nilI hv | cases hv); exact ⟨typeIs_str _ _ _, fun a e => by cases e⟩
theorem TyR_list {x : V} {xs : List V} {P : Sto → Prop} (h : Has σ x (.list xs) P) : TyR C x σ "list" := fun G D s v R hv => by
  obtain ⟨a, vs, n, rfl, ho, hr⟩ := h.isList R hv
  exact ⟨⟨_, ho, rfl⟩, fun b e => by cases e; exact ⟨_, ho, rfl⟩⟩
theorem TyR_dict {x : V} {es : List (V × V)} {P : Sto → Prop} (h : Has σ x (.dict es) P) : TyR C x σ "dict" := fun G D s v R hv => by
  obtain ⟨a, o, rfl, ho, ⟨es, n, rfl, hr⟩, _⟩ := h.run R hv
  exact ⟨⟨_, ho, rfl⟩, fun b e => by cases e; exact ⟨_, ho, rfl⟩⟩

theorem AT_Meth {T id : String} {o e : Expr} {rest : List Expr} {name : Str} {ap p : Pos} (hM : MethIs T name id)
    (h : AT C env vars gl own d (eval o env) m σ fun X σ₁ => TyR C X σ₁ T ∧ AL C env vars gl own d (spliced (backTo p (starEach (e :: rest) env))) m σ₁ fun Xs σ₂ => KW C d (.bi id) (X :: Xs) σ₂ P)
    (hbase : attributeBase o name env (eval o env) = eval o env := by with_unfolding_all exact rfl) (hline : (ap.endLine == p.line) = true := by with_unfolding_all exact rfl)
    (he : starEach (e :: rest) env = (false, eval e env) :: starEach rest env := by with_unfolding_all exact rfl) (hplain : (backTo p (starEach rest env)).any (·.1) = false := by with_unfolding_all exact rfl)
    (hfew : ((backTo p (starEach (e :: rest) env)).all (fun x => !x.1) && (backToKw p (keywordEach [] env)).all (fun x => x.1.isSome) && decide ((e :: rest).length + ([] : List Keyword).length + (if ([] : List Keyword).isEmpty then 0 else 1) < 30)) = true := by with_unfolding_all exact rfl) :
    AT C env vars gl own d (eval (.Call (.Attribute o name ap) (e :: rest) [] p) env) m σ P := fun A G D s hA R =>
  wpAny_Call_method_lateS hbase hfew hline (h.run hA R fun v s₁ X D₁ σ₁ a b c hpp => by obtain ⟨hT, hk⟩ := hpp; exact ⟨T, id, hM.pa, hM.slot, hM.ty, (hT _ _ _ _ c.toRelC b).1, (hT _ _ _ _ c.toRelC b).2, by
    rw [he] at hk ⊢
    exact Calls.callWith_builtin hplain (Calls.evalArgs_plain (AL.run hk hA c fun vs s₂ Xs D₂ σ₂ a' b' c' q => wp_weak (a.trans a') (q.inF hA c' (.bi id) (.cons (b.mono a'.sub) b'))))⟩)

theorem M_join : MethIs "str" "join" "str.join" := ⟨F.plainAttrs_str, F.slot_str_join, F.type_str_join⟩

theorem AT_Cmp2 {l r r2 : Expr} {op op2 : CmpOp} {p : Pos} (h : AT C env vars gl own d (eval l env) m σ fun X σ₁ => AT C env vars gl own d (eval r env) m σ₁ fun Y σ₂ => AC2 C d (compareOp op) X Y σ₂ fun Z σ₃ =>
      ∃ b, TR C d Z σ₃ b ∧ (b = false → P Z σ₃) ∧ (b = true → AT C env vars gl own d (eval r2 env) m σ₃ fun W σ₄ => AC2 C d (compareOp op2) Y W σ₄ P))
    (hm2 : behindInMarks op2 r2 = false := by with_unfolding_all rfl) :
    AT C env vars gl own d (eval (.Compare l [op, op2] [r, r2] p) env) m σ P := fun A G D s hA R => by
  rw [arm_eval_Compare]
  have e0 : markedEach [op, op2] [r, r2] (evalEach [r, r2] env) = [eval r env, markedBehindIn op2 r2 (eval r2 env)] := rfl
  rw [e0, markedBehindIn_of_false hm2]
  refine wpAny_bind (h.run hA R fun v s₁ X D₁ σ₁ a b c e => ?_)
  show wpAny C.M A (do
    let rv ← holding [v] (eval r env)
    standAt p
    let c ← holding [v, rv] (compareOp op v rv)
    release [v, rv] [c]
    if ← holding [c, rv] (truthy c) then compareChain p rv [op2] [eval r2 env] else pure c) _ _ s₁
  refine wpAny_bind (wpAny_holding (e.run hA c fun u s₂ Y D₂ σ₂ a' b' c' e' => wpAny_bind (wpAny_standAt (wpAny_bind (wpAny_holding ?_)))))
  refine wpAny_mono (e'.inF hA c' (b.mono a'.sub) b') (fun z s₃ hpp => ?_) fun _ _ x => x
  obtain ⟨Z, D₃, σ₃, a₃, b₃, c₃, t, ht, h1, h2⟩ := hpp
  refine wpAny_bind (PyProof.Rows.wpAny_release' (wpAny_bind (wpAny_holding (ht.inF hA c₃ b₃ fun tk => ?_))))
  have dx3 := (a.trans a').trans a₃
  cases t with
  | false => exact wpAny_pure ⟨Z, D₃, σ₃, dx3, b₃, c₃.tok tk, h1 rfl⟩
  | true =>
    show wpAny C.M A (do
      let rv ← holding [u] (eval r2 env)
      standAt p
      operate [u, rv] (compareOp op2 u rv)) _ _ _
    refine wpAny_bind (wpAny_holding ((h2 rfl).run hA (c₃.tok tk) fun u2 s₄ W D₄ σ₄ a₄ b₄ c₄ e₄ => wpAny_bind (wpAny_standAt (wpAny_operating ?_))))
    exact wp_weak (dx3.trans a₄) (e₄.inF hA c₄ (b'.mono (a₃.trans a₄).sub) b₄)
variable {K : Bool → Sto → Prop}
theorem AB_Cmp2 {l r r2 : Expr} {op op2 : CmpOp} {p : Pos} {whole : Sem Value} (h : AT C env vars gl own d (eval l env) m σ fun X σ₁ => AT C env vars gl own d (eval r env) m σ₁ fun Y σ₂ => AC2 C d (compareOp op) X Y σ₂ fun Z σ₃ =>
      ∃ b, TR C d Z σ₃ b ∧ (b = false → K false σ₃) ∧ (b = true → AT C env vars gl own d (eval r2 env) m σ₃ fun W σ₄ => AC2 C d (compareOp op2) Y W σ₄ fun Z2 σ₅ => TRX C d Z2 σ₅ K))
    (hm2 : behindInMarks op2 r2 = false := by with_unfolding_all rfl) :
    AB C env vars gl own d (isTrue (.Compare l [op, op2] [r, r2] p) env whole) m σ K := fun A G D s hA R => by
  rw [arm_isTrue_Compare]
  have e0 : markedEach [op, op2] [r, r2] (evalEach [r, r2] env) = [eval r env, markedBehindIn op2 r2 (eval r2 env)] := rfl
  rw [e0, markedBehindIn_of_false hm2]
  refine wpAny_bind (h.run hA R fun v s₁ X D₁ σ₁ a b c e => ?_)
  show wpAny C.M A (do
    let rv ← holding [v] (eval r env)
    standAt p
    let c ← holding [v, rv] (compareOp op v rv)
    release [v, rv] [c]
    if ← holding [c, rv] (truthy c) then testChain p rv [op2] [eval r2 env] else pure false) _ _ s₁
  refine wpAny_bind (wpAny_holding (e.run hA c fun u s₂ Y D₂ σ₂ a' b' c' e' => wpAny_bind (wpAny_standAt (wpAny_bind (wpAny_holding ?_)))))
  refine wpAny_mono (e'.inF hA c' (b.mono a'.sub) b') (fun z s₃ hpp => ?_) fun _ _ x => x
  obtain ⟨Z, D₃, σ₃, a₃, b₃, c₃, t, ht, h1, h2⟩ := hpp
  refine wpAny_bind (PyProof.Rows.wpAny_release' (wpAny_bind (wpAny_holding (ht.inF hA c₃ b₃ fun tk => ?_))))
  have dx3 := (a.trans a').trans a₃
  cases t with
  | false => exact wpAny_pure ⟨D₃, σ₃, dx3, c₃.tok tk, h1 rfl⟩
  | true =>
    show wpAny C.M A (do
      let rv ← holding [u] (eval r2 env)
      standAt p
      let c ← operate [u, rv] (compareOp op2 u rv)
      holding [c] (truthy c)) _ _ _
    refine wpAny_bind (wpAny_holding ((h2 rfl).run hA (c₃.tok tk) fun u2 s₄ W D₄ σ₄ a₄ b₄ c₄ e₄ => wpAny_bind (wpAny_standAt (wpAny_bind (wpAny_operating ?_)))))
    refine wpAny_mono (e₄.inF hA c₄ (b'.mono (a₃.trans a₄).sub) b₄) (fun z s₅ hpp => ?_) fun _ _ x => x
    obtain ⟨Z2, D₅, σ₅, a₅, b₅, c₅, t2, ht2, hk⟩ := hpp
    refine wpAny_holding (ht2.inF hA c₅ b₅ fun tk2 => ?_)
    exact ⟨D₅, σ₅, (dx3.trans a₄).trans a₅, c₅.tok tk2, hk⟩

noncomputable def signsOf (x : Str) : List V := x.cps.toList.map fun c => V.str ⟨#[c]⟩
variable {Q : List V → (Sto → Prop) → Sto → Prop}
theorem AI_str {iter tgt : Expr} (h : AT C env vars gl own d (eval iter env) m σ fun X σ₁ => ∃ x, X = .str x ∧ Q (signsOf x) (fun _ => True) σ₁) : AI C env vars gl own d iter tgt m σ Q := fun A G D s hA R =>
  h.run hA R fun v s₁ X D₁ σ₁ dx b c hpp => by
    obtain ⟨x, hX, q⟩ := hpp
    subst hX
    cases b with
    | str x t =>
      have rel : ∀ (i : Nat) v X, SignAt x i v → (signsOf x)[i]? = some X → VR C.w D₁ v X := by
        rintro i v X ⟨ch, u, hc, rfl⟩ hX
        have hc' : x.cps.toList[i]? = some ch := by simpa using hc
        simp only [signsOf, List.getElem?_map, hc', Option.map_some, Option.some.injEq] at hX
        subst hX; exact .str _ _
      have len : x.cps.size = (signsOf x).length := by simp [signsOf]
      have stay : ∀ h : Heap, Stay C D₁ (fun _ => True) h [s₁.heap.objs.size] [s₁.heap.objs.size] := fun h G' D' σ' s' R' hs hP' b hb hbw o' e' => absurd hb hbw
      cases ha : x.cps.all (· < 128)
      · refine wpAny_pyIter_wide ha ⟨D₁, σ₁, _, fun _ => True, dx, ⟨s₁.heap.objs.size, _, _, _, rfl, IW.ofWalks (Walks.strWide hA.h s₁.heap.objs.size x t) len rel ?_ ?_ ?_, ⟨_, Heap.get?_push_size _ rfl, rfl, rfl⟩, c.push _, c.offNew (lstO #[] 0), trivial, stay _⟩, q⟩
        · rintro i h ⟨o, ho, _⟩ a ha; simp at ha; subst ha; exact ⟨_, ho⟩
        · rintro b hb hbw h _ e; exact hbw hb
        · rintro i h ⟨o, ho, hc, _⟩; exact ⟨_, _, ho, hc, by decide⟩
      · refine wpAny_pyIter_ascii ha ⟨D₁, σ₁, _, fun _ => True, dx, ⟨s₁.heap.objs.size, _, _, _, rfl, IW.ofWalks (Walks.strAscii hA.h s₁.heap.objs.size x t) len rel ?_ ?_ ?_, ⟨_, Heap.get?_push_size _ rfl, rfl, rfl⟩, c.push _, c.offNew (lstO #[] 0), trivial, stay _⟩, q⟩
        · rintro i h ⟨o, ho, _⟩ a ha; simp at ha; subst ha; exact ⟨_, ho⟩
        · rintro b hb hbw h _ e; exact hbw hb
        · rintro i h ⟨o, ho, hc, _⟩; exact ⟨_, _, ho, hc, by decide⟩
end
end Mine

set_option autoImplicit false
set_option linter.unusedVariables false
namespace Mine
open PySem

class LkC (ns : List Str) (m : Loc) (x : Str) (X : outParam V) : Prop where
  lk : Lk ns m x X
instance LkC.head {x : Str} {ns : List Str} {X : V} {m : Loc} : LkC (x :: ns) (some X :: m) x X := ⟨.head⟩
instance (priority := low) LkC.tail {x y : Str} {ns : List Str} {X : V} {o : Option V} {m : Loc} [h : LkC ns m x X] : LkC (y :: ns) (o :: m) x X := ⟨.tail h.lk⟩
class PutC (ns : List Str) (m : Loc) (x : Str) (X : V) (m' : outParam Loc) : Prop where
  put : Put ns m x X m'
instance PutC.head {x : Str} {ns : List Str} {X : V} {o : Option V} {m : Loc} : PutC (x :: ns) (o :: m) x X (some X :: m) := ⟨.head⟩
instance (priority := low) PutC.tail {x y : Str} {ns : List Str} {X : V} {o : Option V} {m m' : Loc} [h : PutC ns m x X m'] : PutC (y :: ns) (o :: m) x X (o :: m') := ⟨.tail h.put⟩
class GInC (gl : List (Str × V)) (x : Str) (X : outParam V) : Prop where
  mem : (x, X) ∈ gl
instance GInC.head {x : Str} {X : V} {r : List (Str × V)} : GInC ((x, X) :: r) x X := ⟨List.mem_cons_self⟩
instance (priority := low) GInC.tail {x : Str} {X : V} {p : Str × V} {r : List (Str × V)} [h : GInC r x X] : GInC (p :: r) x X := ⟨List.mem_cons_of_mem _ h.mem⟩
inductive GIn : List (Str × V) → Str → V → Prop
  | head {x : Str} {X : V} {r : List (Str × V)} : GIn ((x, X) :: r) x X
  | tail {x : Str} {X : V} {p : Str × V} {r : List (Str × V)} : GIn r x X → GIn (p :: r) x X
section
variable {C : Cx} {env : Env} {vars : List Str} {gl : List (Str × V)} {own : Bool} {d : Nat} {m m' : Loc} {σ σ' : Sto}
variable {A : Around} {G D D₀ D₁ : Gh} {s : Shared} {Q : V → Sto → Prop}

theorem PartV.is2 {w : World} {x : V} {o : Option Int} (h : PartV x o) {v : Value} (hv : VR w D v x) : ∃ l : Option (Int × Tok), v = partValue l ∧ l.map (·.1) = o := by
  cases h with
  | none => rw [VR.noneI hv]; exact ⟨Option.none, rfl, rfl⟩
  | int i => obtain ⟨_, rfl⟩ := VR.intI hv; exact ⟨Option.some (_, _), rfl, rfl⟩
theorem G_strSl {x : Str} {L U : V} {lo hi : Option Int} (hL : PartV L lo) (hU : PartV U hi) (hl : x.length ≤ sizeLine) (q : Q (.str (Txt.slice x lo hi)) σ) : SubR C d (.str x) (.slc L U .none) σ Q := fun A G D s o v hA R ho hv => by
  obtain ⟨_, rfl⟩ := VR.strI ho
  obtain ⟨_, _, _, _, rfl, e, h1, h2, h3⟩ := VR.slcI hv
  · skip
    (first | obtain rfl := VR.biI h3 | obtain rfl := VR.typeI h3 | obtain rfl := VR.refI h3 | obtain ⟨_, rfl⟩ := VR.intI h3 | obtain ⟨_, rfl⟩ := VR.strI h3 | obtain rfl := VR.boolI h3 | obtain rfl := VR.noneI h3 | obtain rfl := VRs.nilI h3 | cases h3)
    obtain ⟨l, rfl, rfl⟩ := hL.is2 h1
    obtain ⟨u, rfl, rfl⟩ := hU.is2 h2
    refine ⟨"str", _, typeIs_str _ _ _, F.slot_str_getitem.lookup, wpAny_getItem_str_slice (l := l) (u := u) (st := none) ⟨_, R.d _ _ e, rfl, rfl⟩ rfl (post_val_or_str ⟨?_, fun t' k => ?_⟩)⟩
    · exact Nat.le_trans (Txt.slice_le x _ _) hl
    · exact PostC.now (R.tok k) (.str _ _) q
theorem strsV {w : World} {vs : List Value} {xs : List Str} (h : VRs w D vs (xs.map V.str)) : ∃ l : List (Str × Tok), vs = strValues l ∧ l.map (·.1) = xs := by
  induction xs generalizing vs with
  | nil => rw [VRs.nilI h]; exact ⟨[], rfl, rfl⟩
  | cons x xs ih =>
    obtain ⟨_, _, rfl, h1, h2⟩ := VRs.consI h
    obtain ⟨t, rfl⟩ := VR.strI h1
    obtain ⟨l, rfl, e⟩ := ih h2
    exact ⟨(x, t) :: l, rfl, by rw [List.map_cons, e]⟩
theorem K_join {x : V} {sep : Str} {xs : List Str} {P : Sto → Prop} (h : Has σ x (.list (xs.map V.str)) P) (hok : JoinOk sep xs = true) (q : Q (.str (Txt.join sep xs)) σ) : KW C d (.bi "str.join") [.str sep, x] σ Q := fun A G D s v vs hA R hv hs => by
  (first | obtain rfl := VR.biI hv | obtain rfl := VR.typeI hv | obtain rfl := VR.refI hv | obtain ⟨_, rfl⟩ := VR.intI hv | obtain ⟨_, rfl⟩ := VR.strI hv | obtain rfl := VR.boolI hv | obtain rfl := VR.noneI hv | obtain rfl := VRs.nilI hv | cases hv)
  obtain ⟨_, _, rfl, h1, h2⟩ := VRs.consI hs
  · skip
    obtain ⟨_, _, rfl, h3, h4⟩ := VRs.consI h2
    · skip
      (first | obtain rfl := VR.biI h4 | obtain rfl := VR.typeI h4 | obtain rfl := VR.refI h4 | obtain ⟨_, rfl⟩ := VR.intI h4 | obtain ⟨_, rfl⟩ := VR.strI h4 | obtain rfl := VR.boolI h4 | obtain rfl := VR.noneI h4 | obtain rfl := VRs.nilI h4 | cases h4); (first | obtain rfl := VR.biI h1 | obtain rfl := VR.typeI h1 | obtain rfl := VR.refI h1 | obtain ⟨_, rfl⟩ := VR.intI h1 | obtain ⟨_, rfl⟩ := VR.strI h1 | obtain rfl := VR.boolI h1 | obtain rfl := VR.noneI h1 | obtain rfl := VRs.nilI h1 | cases h1)
      obtain ⟨a, ws, rfl, hL, hr⟩ := h.isL R h3
      obtain ⟨l, e, e2⟩ := strsV hr
      have : ws = (strValues l).toArray := by rw [← e]
      rw [this] at hL
      exact SC.join hL e2 hok fun t' k => PostC.now (R.tok k) (.str _ _) q

theorem AT_lc {x : Str} {p : Pos} {X : V} [h : LkC vars m x X] (q : Q X σ) : AT C env vars gl own d (eval (.Name x p) env) m σ Q := AT_local h.lk q
theorem AT_gc {x : Str} {p : Pos} {X : V} [h : GInC gl x X] (q : Q X σ) : AT C env vars gl own d (eval (.Name x p) env) m σ Q := AT_glob h.mem q
theorem put_c {x : Str} {X : V} {m' : Loc} {K : Loc → Prop} [h : PutC vars m x X m'] (k : K m') : ∃ m', Put vars m x X m' ∧ K m' := ⟨m', h.put, k⟩
theorem AT_andE {x y : Expr} {r : List Expr} {p : Pos} (h : AT C env vars gl own d (eval x env) m σ fun X σ₁ => ∃ b, TR C d X σ₁ b ∧ (b = true → AT C env vars gl own d (boolOp p .And (evalEach (y :: r) env)) m σ₁ Q) ∧ (b = false → Q X σ₁)) :
    AT C env vars gl own d (boolOp p .And (evalEach (x :: y :: r) env)) m σ Q := AT_and h
theorem AT_and1E {x : Expr} {p : Pos} (h : AT C env vars gl own d (eval x env) m σ Q) : AT C env vars gl own d (boolOp p .And (evalEach [x] env)) m σ Q := h
variable {QS : Fl → Loc → Sto → Prop} {rest : List Stmt} {X : V}
theorem Then_ret (q : QS (.ret X) m σ) : Then C env vars gl own d rest QS (.ret X) m σ := q
theorem Then_next (q : AS C env vars gl own d (execs rest env) m σ QS) : Then C env vars gl own d rest QS .next m σ := q
theorem RetQ_ret (q : Q X σ) : RetQ Q (.ret X) m σ := q
theorem RetQ_next (q : Q .none σ) : RetQ Q .next m σ := q
theorem APart_none {K : V → Sto → Prop} (q : K .none σ) : APart C env vars gl own d none m σ K := q
theorem APart_some {e : Expr} {K : V → Sto → Prop} (q : AT C env vars gl own d (eval e env) m σ K) : APart C env vars gl own d (some e) m σ K := q
theorem GL_nil : ∀ p ∈ ([] : List (Str × V)), GlobR C p.1 p.2 := fun p h => by cases h
theorem GL_cons {x : Str} {X : V} {r : List (Str × V)} (h : GlobR C x X) (t : ∀ p ∈ r, GlobR C p.1 p.2) : ∀ p ∈ (x, X) :: r, GlobR C p.1 p.2 := fun p hp => by
  rcases List.mem_cons.mp hp with rfl | hp
  · exact h
  · exact t p hp
theorem callee_bi {n : String} : Callee C (.bi n) := trivial
theorem callee_type {n : String} : Callee C (.type n) := trivial
theorem callee_at {K : W.Frag} (H : K.In C.base) {a : Addr} {o : Obj} {fd : FuncData} (e1 : K.lookup a = some o) (e2 : o.data = .func fd) : Callee C (.ref a) := ⟨o, fd, H a o e1, e2⟩
theorem fnc {a : Addr} {xs : List V} (h : CW C d (.ref a) xs σ Q) : KW C d (.ref a) xs σ Q := KW_of_CW h
theorem comp_local {sc : Scope} {env env' : Env} {x : Str} (hsc : env'.scope = relabel sc env) (h : sc.names.lookup x = some .local) : env'.kindOf x = some .local := by
  show env'.scope.names.lookup x = some .local
  rw [hsc]; exact lookup_relabel_local h
section
variable {x : Str} {pp : Pos} {caps : List Str} {elt c : Expr} {ms : Loc} {P : Sto → Prop} {Z : List V → Sto → Prop}
theorem apn {Z : List V → Sto → Prop} {acc : List V} {τ : Sto} (q : Z (acc ++ []) τ) : Z acc τ := by rw [List.append_nil] at q; exact q
theorem CompL_map {f : V → V} (hk : env.kindOf x = some .local) (hP : P σ) (xs : List V) :
    ∀ (acc : List V) (o : Option V), (∀ X ∈ xs, ∀ K : V → Sto → Prop, K (f X) σ → AT C env (x :: caps) gl false d (eval elt env) (some X :: ms) σ K) → Z (acc ++ xs.map f) σ →
      CompL C env (x :: caps) gl d (.Name x pp) elt [] P Z xs acc (o :: ms) σ := by
  induction xs with
  | nil => intro acc o _ q; show Z acc _; exact apn (q)
  | cons X xs ih =>
    intro acc o h q
    refine AA_Name Put.head ?_ (.inr hk)
    refine ⟨fun _ => h X (.head _) _ ⟨hP, ih (acc ++ [f X]) (some X) (fun Y hY => h Y (.tail _ hY)) (by simpa using q)⟩, fun e => by cases e⟩
theorem CompL_filter {f : V → V} {t : V → Bool} (hk : env.kindOf x = some .local) (hP : P σ) (xs : List V) :
    ∀ (acc : List V) (o : Option V), (∀ X ∈ xs, ∀ K : Bool → Sto → Prop, K (t X) σ → AB C env (x :: caps) gl false d (isTrue c env (eval c env)) (some X :: ms) σ K) →
      (∀ X ∈ xs, t X = true → ∀ K : V → Sto → Prop, K (f X) σ → AT C env (x :: caps) gl false d (eval elt env) (some X :: ms) σ K) → Z (acc ++ (xs.filter t).map f) σ →
      CompL C env (x :: caps) gl d (.Name x pp) elt [c] P Z xs acc (o :: ms) σ := by
  induction xs with
  | nil => intro acc o _ _ q; show Z acc _; exact apn (q)
  | cons X xs ih =>
    intro acc o ht h q
    refine AA_Name Put.head ?_ (.inr hk)
    refine ht X (.head _) _ ⟨fun e => h X (.head _) e _ ⟨hP, ih (acc ++ [f X]) (some X) (fun Y hY => ht Y (.tail _ hY)) (fun Y hY => h Y (.tail _ hY)) ?_⟩, fun e => ⟨hP, ih acc (some X) (fun Y hY => ht Y (.tail _ hY)) (fun Y hY => h Y (.tail _ hY)) ?_⟩⟩
    · simpa [List.filter_cons, e] using q
    · simpa [List.filter_cons, e] using q
theorem CompL_some {R : V → V → Prop} (hk : env.kindOf x = some .local) (hP : P σ) (xs : List V) :
    ∀ (acc : List V) (o : Option V), (∀ X ∈ xs, ∀ K : V → Sto → Prop, (∀ Y, R X Y → K Y σ) → AT C env (x :: caps) gl false d (eval elt env) (some X :: ms) σ K) →
      (∀ ys : List V, ys.length = xs.length → (∀ y ∈ ys, ∃ X ∈ xs, R X y) → Z (acc ++ ys) σ) → CompL C env (x :: caps) gl d (.Name x pp) elt [] P Z xs acc (o :: ms) σ := by
  induction xs with
  | nil => intro acc o _ q; show Z acc _; exact apn (q [] rfl (fun y hy => by cases hy))
  | cons X xs ih =>
    intro acc o h q
    refine AA_Name Put.head ?_ (.inr hk)
    refine ⟨fun _ => h X (.head _) _ fun Y hY => ⟨hP, ih (acc ++ [Y]) (some X) (fun Y hY => h Y (.tail _ hY)) fun ys hl hys => ?_⟩, fun e => by cases e⟩
    have := q (Y :: ys) (by simp [hl]) (fun y hy => by
      rcases List.mem_cons.mp hy with rfl | hy
      · exact ⟨X, .head _, hY⟩
      · obtain ⟨Z, h1, h2⟩ := hys y hy; exact ⟨Z, .tail _ h1, h2⟩)
    simpa using this
end

section
variable {elt tgt iter : Expr} {ifs : List Expr} {scope : Scope} {pos p' p : Pos} {y : Str} {ms : Loc} {QS : Fl → Loc → Sto → Prop}
theorem AT_CompF1 (x : Str) (caps : List Str) (gl' : List (Str × V))
    (hok : compOk scope env.scope vars [x] caps (gl'.map (·.1)) = true) (hgl : ∀ p ∈ gl', GlobR C p.1 p.2) (hcaps : Caps vars m caps ms)
    (h : AI C env vars gl own d iter tgt m σ fun xs Pp σ₁ => xs.length ≤ sizeLine ∧ ∀ env', env'.scope = relabel scope env →
      CompL C env' (x :: caps) gl' d tgt elt ifs Pp (fun ys σ₂ => Q (.lst ys) σ₂) xs [] (none :: ms) σ₁)
    (hs : ∀ x, foldedSetIterable iter env x = pure x := by intro _; with_unfolding_all exact rfl) :
    AT C env vars gl own d (eval (.ListComp elt [⟨tgt, iter, ifs, 0⟩] scope pos) env) m σ Q := AT_CompF [x] caps gl' hok hgl hcaps h hs
theorem S_AssignCompF1 (x : Str) (caps : List Str) (gl' : List (Str × V))
    (hsw : swapsWith (.ListComp elt [⟨tgt, iter, ifs, 0⟩] scope pos) (some (.Name y p')) p.line env = pure true)
    (hok : compOk scope env.scope vars [x] caps (gl'.map (·.1)) = true) (hgl : ∀ p ∈ gl', GlobR C p.1 p.2) (hcaps : Caps vars m caps ms)
    (h : AI C env vars gl own d iter tgt m σ fun xs Pp σ₁ => xs.length ≤ sizeLine ∧ ∀ env', env'.scope = relabel scope env →
      CompL C env' (x :: caps) gl' d tgt elt ifs Pp (fun ys σ₂ => ∃ m', Put vars m y (.lst ys) m' ∧ QS .next m' σ₂) xs [] (none :: ms) σ₁)
    (hown : own = true := by rfl) (hs : ∀ x, foldedSetIterable iter env x = pure x := by intro _; with_unfolding_all exact rfl) :
    AS C env vars gl own d (exec (.Assign [.Name y p'] (.ListComp elt [⟨tgt, iter, ifs, 0⟩] scope pos) p) env) m σ QS := S_AssignCompF [x] caps gl' hsw hok hgl hcaps h hown hs
theorem S_AssignCompM1 (x : Str) (caps : List Str) (gl' : List (Str × V))
    (hsw : swapsWith (.ListComp elt [⟨tgt, iter, ifs, 0⟩] scope pos) (some (.Name y p')) p.line env = pure true)
    (hok : compOk scope env.scope vars [x] caps (gl'.map (·.1)) = true) (hgl : ∀ p ∈ gl', GlobR C p.1 p.2) (hcaps : Caps vars m caps ms)
    (h : AI C env vars gl own d iter tgt m σ fun xs Pp σ₁ => xs.length ≤ sizeLine ∧ ∀ env', env'.scope = relabel scope env →
      CompL C env' (x :: caps) gl' d tgt elt ifs Pp (fun ys σ₂ => ∀ a o, ∃ m', Put vars m y (.ref a) m' ∧ QS .next m' ((a, o, .list ys) :: σ₂)) xs [] (none :: ms) σ₁)
    (hown : own = true := by rfl) (hs : ∀ x, foldedSetIterable iter env x = pure x := by intro _; with_unfolding_all exact rfl) :
    AS C env vars gl own d (exec (.Assign [.Name y p'] (.ListComp elt [⟨tgt, iter, ifs, 0⟩] scope pos) p) env) m σ QS := S_AssignCompM [x] caps gl' hsw hok hgl hcaps h hown hs
end
theorem NL_f {Xs : List V} (q : Q (.lst Xs) σ) : NLq Q Xs σ := Or.inl q
theorem NL_m {Xs : List V} (q : ∀ a o, Q (.ref a) ((a, o, .list Xs) :: σ)) : NLq Q Xs σ := Or.inr q
theorem log2_small {n : Int} (h : n.natAbs < 2 ^ 64) : n.natAbs.log2 < 1920 := by
  by_cases h0 : n.natAbs = 0
  · rw [h0]; decide
  · exact Nat.lt_of_lt_of_le ((Nat.log2_lt h0).mpr h) (by decide)
theorem len_ok {n : Nat} (h : n ≤ 100000) : n ≤ sizeLine := Nat.le_trans h (by decide)
theorem qB {a b : Bool} (q : Q (.bool a) σ) (e : a = b) : Q (.bool b) σ := e ▸ q

theorem slL_mem {xs : List V} {lo hi st : Option Int} : ∀ x ∈ slL xs lo hi st, x ∈ xs := fun x h => by
  unfold slL at h
  obtain ⟨i, _, e⟩ := List.mem_filterMap.mp h
  exact List.mem_of_getElem? e
theorem sr_len {a b : Int} {n : Nat} (h0 : 0 ≤ a) (h1 : b ≤ n) : (sliceRange a b 1).length ≤ n := by
  unfold sliceRange
  rw [List.length_map, List.length_range, if_pos (by decide)]
  split
  · rw [Int.ediv_one]; lia
  · exact Nat.zero_le _
theorem sr_le (l u : Option Int) (n : Nat) : (sliceRange (sliceBounds l u none n).1 (sliceBounds l u none n).2.1 (sliceBounds l u none n).2.2).length ≤ n := by
  refine sr_len ?_ ?_
  · cases l with
    | none => exact Int.le_refl 0
    | some i => exact Int.le_max_left 0 _
  · cases u with
    | none => exact Int.le_refl _
    | some i => exact Int.max_le.mpr ⟨Int.natCast_nonneg n, Int.min_le_right _ _⟩
theorem slL_le {xs : List V} {lo hi : Option Int} : (slL xs lo hi none).length ≤ xs.length := by
  unfold slL
  exact Nat.le_trans (List.length_filterMap_le _ _) (sr_le _ _ _)

inductive MM : List V → List Str → Loc → Prop
  | nil : MM [] [] []
  | oth {y : Str} {o : List Str} {m : Loc} : MM [] o m → MM [] (y :: o) (none :: m)
  | arg {x : V} {xs : List V} {o : List Str} {m : Loc} : MM xs o m → MM (x :: xs) o (some x :: m)
theorem MM.eq {xs : List V} {o : List Str} {m : Loc} (h : MM xs o m) : (xs.map some ++ o.map fun _ => none) = m := by
  induction h with
  | nil => rfl
  | oth _ ih => simpa using ih
  | arg _ ih => simpa using ih
theorem CW_at {K : W.Frag} (H : K.In C.base) {a : Addr} {o : Obj} {fd : FuncData} {body : List Stmt} {params : List Str} (others : List Str) {vars : List Str} (gl : List (Str × V)) {xs : List V} {mm : Loc}
    (e1 : K.lookup a = some o) (e2 : o.data = .func fd) (e3 : fd.body = .stmts body) (e4 : fd.closure = []) (e5 : W.codeIn K fd.code fd.qualname = true) (e6 : fd.globals = mainGlobals) (e7 : fd.builtins = builtinsNs)
    (e8 : ∀ vs : List Value, vs.length = params.length → bindArgs fd ⟨vs, []⟩ = pure (params.zip vs)) (e9 : xs.length = params.length) (e10 : params ++ others = vars) (e11 : MM xs others mm)
    (hst : scopeOk fd.scope vars (gl.map (·.1)) = true) (hgl : ∀ p ∈ gl, GlobR C p.1 p.2)
    (h : ∀ env, env.scope = fd.scope → AS C env vars gl true d (execs body env) mm σ (RetQ Q)) : CW C (d + 1) (.ref a) xs σ Q := by
  have e11 := e11.eq
  subst e10 e11
  exact CW_fn ⟨⟨o, H a o e1, e2⟩, e3, e4, W.codeRec_of H e5, e6, e7, e8⟩ e9 hst hgl h
end
end Mine

set_option autoImplicit false
set_option linter.unusedVariables false
namespace Mine
open PySem

set_option genInjectivity false in
structure KK (prog : Program) (w : World) (K : Type) [DecidableEq K] where
  knd : KeyKind prog w K
  v : K → V
  isOf : ∀ {D : Gh} {x : Value} {k : K}, VR w D x (v k) → knd.is k x = true
  ofIs : ∀ {D : Gh} {x : Value} {k : K}, knd.is k x = true → VR w D x (v k)
  hashOf : ∀ {k : K} {h : Int}, KH w (v k) h → h = knd.hash k
  ofHash : ∀ {k : K}, KH w (v k) (knd.hash k)
  part : ∀ {D : Gh} {x : Value} {k : K}, VR w D x (v k) → (keyPart x).isSome = true

noncomputable def KK.int (prog : Program) (w : World) : KK prog w Int where
  knd := intKind prog w
  v := V.int
  isOf := fun h => by obtain ⟨_, rfl⟩ := VR.intI h; exact beq_self_eq_true _
  ofIs := fun {D x k} h => by obtain ⟨t, rfl⟩ := Value.isInt_shape (show Value.isInt k x = true from h); exact .int _ _
  hashOf := fun h => h
  ofHash := rfl
  part := fun h => by obtain ⟨_, rfl⟩ := VR.intI h; rfl
noncomputable def KK.str (prog : Program) (w : World) : KK prog w Str where
  knd := strKind prog w
  v := V.str
  isOf := fun h => by obtain ⟨_, rfl⟩ := VR.strI h; exact beq_self_eq_true _
  ofIs := fun {D x k} h => by obtain ⟨t, rfl⟩ := Value.isStrOf_shape (show Value.isStrOf k x = true from h); exact .str _ _
  hashOf := fun h => h
  ofHash := rfl
  part := fun h => by obtain ⟨_, rfl⟩ := VR.strI h; rfl

set_option linter.unusedSectionVars false
section
variable {C : Cx} {d : Nat} {σ : Sto} {Q : V → Sto → Prop} {G D : Gh} {s : Shared} {A : Around} {K : Type} [DecidableEq K]

noncomputable def ents (kk : KK C.prog C.w K) (kvs : List (K × V)) : List (V × V) := kvs.map fun p => (kk.v p.1, p.2)
inductive KR (w : World) (D : Gh) : List (K × Value) → List (K × V) → Prop
  | nil : KR w D [] []
  | cons {k : K} {v : Value} {x : V} {l : List (K × Value)} {r : List (K × V)} : VR w D v x → KR w D l r → KR w D ((k, v) :: l) ((k, x) :: r)
theorem KR.keys {w : World} {l : List (K × Value)} {r : List (K × V)} (h : KR w D l r) : l.map (·.1) = r.map (·.1) := by
  induction h with
  | nil => rfl
  | cons _ _ ih => simp [ih]
theorem KR.length {w : World} {l : List (K × Value)} {r : List (K × V)} (h : KR w D l r) : l.length = r.length := by
  induction h with
  | nil => rfl
  | cons _ _ ih => simp [ih]

theorem VRd.pairs (kk : KK C.prog C.w K) {es : List DictEntry} {kvs : List (K × V)} (h : VRd C.w D es (ents kk kvs)) :
    ∃ cvs, Pairs kk.knd es cvs ∧ KR C.w D cvs kvs ∧ ∀ e ∈ es, ∃ k, kk.knd.is k e.key = true ∧ e.hash = kk.knd.hash k := by
  induction kvs generalizing es with
  | nil => rw [VRd.nilI h]; exact ⟨[], .nil, .nil, fun _ h => by cases h⟩
  | cons p kvs ih =>
    obtain ⟨e, r, rfl, h1, h2, h3, h4⟩ := VRd.consI h
    obtain ⟨cvs, p1, q, r⟩ := ih h4
    refine ⟨(p.1, e.val) :: cvs, .cons (kk.isOf h2) rfl p1, .cons h3 q, fun e' he => ?_⟩
    rcases List.mem_cons.mp he with rfl | he
    · exact ⟨_, kk.isOf h2, kk.hashOf h1⟩
    · exact r e' he
theorem VRd.ofPairs (kk : KK C.prog C.w K) {es : List DictEntry} {cvs : List (K × Value)} {kvs : List (K × V)} (p : Pairs kk.knd es cvs) (q : KR C.w D cvs kvs) (r : ∀ e ∈ es, ∃ k, kk.knd.is k e.key = true ∧ e.hash = kk.knd.hash k) :
    VRd C.w D es (ents kk kvs) := by
  induction q generalizing es with
  | nil => cases p; exact .nil
  | cons h1 _ ih =>
    cases p with
    | @cons e _ es _ p1 p2 p3 =>
      obtain ⟨k', i1, i2⟩ := r e (.head _)
      have ek := kk.knd.inj _ _ _ i1 p1
      subst ek
      exact .cons (by rw [i2]; exact kk.ofHash) (kk.ofIs p1) (by rw [p2]; exact h1) (ih p3 fun e he => r e (.tail _ he))

theorem Has.isD (kk : KK C.prog C.w K) {x : V} {kvs : List (K × V)} {P : Sto → Prop} (h : Has σ x (.dict (ents kk kvs)) P) (hn : (kvs.map (·.1)).Nodup) (R : RelC C G D σ s) {v : Value} (hv : VR C.w D v x) :
    ∃ a cvs, v = .ref a ∧ s.heap.DictOf kk.knd a cvs ∧ KR C.w D cvs kvs := by
  obtain ⟨a, o, rfl, ho, ⟨es, n, rfl, hr⟩, _⟩ := h.run R hv
  obtain ⟨cvs, p, q, r⟩ := VRd.pairs kk hr
  exact ⟨a, cvs, rfl, ⟨_, es, n, ho, ⟨rfl, rfl, rfl⟩, rfl, fun e he => r e (by simpa using he), p, by rw [q.keys]; exact hn⟩, q⟩
noncomputable def vAt (kvs : List (K × V)) (k : K) : Option V := (kvs.find? fun p => p.1 = k).map (·.2)
theorem KR.at {w : World} {l : List (K × Value)} {r : List (K × V)} (h : KR w D l r) (k : K) :
    (valueAt l k = none ∧ vAt r k = none) ∨ ∃ v x, valueAt l k = some v ∧ vAt r k = some x ∧ VR w D v x := by
  induction h with
  | nil => exact .inl ⟨rfl, rfl⟩
  | @cons k' v x l r hv _ ih =>
    by_cases e : k' = k
    · exact .inr ⟨v, x, by simp [valueAt, e], by simp [vAt, e], hv⟩
    · have e1 : valueAt ((k', v) :: l) k = valueAt l k := by simp [valueAt, List.find?_cons, e]
      have e2 : vAt ((k', x) :: r) k = vAt r k := by simp [vAt, List.find?_cons, e]
      rw [e1, e2]; exact ih
theorem G_dict (kk : KK C.prog C.w K) {x X : V} {kvs : List (K × V)} {k : K} {P : Sto → Prop} (h : Has σ x (.dict (ents kk kvs)) P) (hn : (kvs.map (·.1)).Nodup) (hx : vAt kvs k = some X) (q : Q X σ) : SubR C d x (kk.v k) σ Q := fun A G D s o v hA R ho hv => by
  obtain ⟨a, cvs, rfl, hD, hk⟩ := h.isD kk hn R ho
  rcases hk.at k with ⟨_, e⟩ | ⟨u, Y, e1, e2, hu⟩
  · rw [hx] at e; cases e
  · rw [hx] at e2; cases e2
    exact ⟨"dict", _, hD.typeIs, slot_dict_getitem.lookup, wpAny_getItem_of (kk.isOf hv) hD.mapOf e1 (PostC.now (R.tok _) hu q)⟩
noncomputable def NoSys (C : Cx) : Prop := ∃ o, C.base.get? sysModules = some o
theorem RelC.notSys (R : RelC C G D σ s) (hs : NoSys C) {a : Addr} {o : Obj} {x : AO} (hm : (a, o, x) ∈ σ) : (a == sysModules) = false := by
  obtain ⟨ob, hb⟩ := hs
  cases e : a == sysModules with
  | false => rfl
  | true =>
    have : a = sysModules := by simpa using e
    have h1 := R.offG a (self_foot hm)
    rw [this, R.base _ _ hb] at h1; (first | obtain rfl := VR.biI h1 | obtain rfl := VR.typeI h1 | obtain rfl := VR.refI h1 | obtain ⟨_, rfl⟩ := VR.intI h1 | obtain ⟨_, rfl⟩ := VR.strI h1 | obtain rfl := VR.boolI h1 | obtain rfl := VR.noneI h1 | obtain rfl := VRs.nilI h1 | cases h1)
theorem C_inD (kk : KK C.prog C.w K) {a : Addr} {o : Obj} {kvs : List (K × V)} {k : K} (hs : NoSys C) (hm : (a, o, AO.dict (ents kk kvs)) ∈ σ) (hn : (kvs.map (·.1)).Nodup) (q : Q (.bool (vAt kvs k).isSome) σ) :
    AC2 C d (compareOp .In) (kk.v k) (.ref a) σ Q := fun A G D s v u hA R hv hu => by
  obtain ⟨b, cvs, e, hD, hk⟩ := (Has.refD hm).isD kk hn R hu
  (first | obtain rfl := VR.biI hu | obtain rfl := VR.typeI hu | obtain rfl := VR.refI hu | obtain ⟨_, rfl⟩ := VR.intI hu | obtain ⟨_, rfl⟩ := VR.strI hu | obtain rfl := VR.boolI hu | obtain rfl := VR.noneI hu | obtain rfl := VRs.nilI hu | cases hu); cases e
  refine wpAny_in_of (kk.isOf hv) (R.notSys hs hm) hD.mapOf ?_
  have : (valueAt cvs k).isSome = (vAt kvs k).isSome := by
    rcases hk.at k with ⟨e1, e2⟩ | ⟨_, _, e1, e2, _⟩ <;> rw [e1, e2] <;> rfl
  rw [this]
  exact PostC.now (R.tok _) (.bool _) q
end
end Mine

set_option autoImplicit false
set_option linter.unusedVariables false
set_option linter.unusedSectionVars false
namespace Mine
open PySem

section
variable {C : Cx} {env : Env} {vars : List Str} {gl : List (Str × V)} {own : Bool} {d : Nat} {m m' : Loc} {σ : Sto} {σ' : Obj → Sto} {Q : V → Sto → Prop} {G D : Gh} {s : Shared} {A : Around} {K : Type} [DecidableEq K]

theorem K_append {a : Addr} {o : Obj} {xs : List V} {X : V} (U : ∀ o', Upd a o (.list xs) o' (.list (xs ++ [X])) σ (σ' o')) (hl : xs.length ≤ sizeLine) (q : ∀ o', Q .none (σ' o')) :
    KW C d (.bi "list.append") [.ref a, X] σ Q := fun A G D s v vs hA R hv hs => by
  (first | obtain rfl := VR.biI hv | obtain rfl := VR.typeI hv | obtain rfl := VR.refI hv | obtain ⟨_, rfl⟩ := VR.intI hv | obtain ⟨_, rfl⟩ := VR.strI hv | obtain rfl := VR.boolI hv | obtain rfl := VR.noneI hv | obtain rfl := VRs.nilI hv | cases hv)
  obtain ⟨_, _, rfl, h1, h2⟩ := VRs.consI hs
  · skip
    obtain ⟨_, _, rfl, h3, h4⟩ := VRs.consI h2
    · skip
      (first | obtain rfl := VR.biI h4 | obtain rfl := VR.typeI h4 | obtain rfl := VR.refI h4 | obtain ⟨_, rfl⟩ := VR.intI h4 | obtain ⟨_, rfl⟩ := VR.strI h4 | obtain rfl := VR.boolI h4 | obtain rfl := VR.noneI h4 | obtain rfl := VRs.nilI h4 | cases h4); (first | obtain rfl := VR.biI h1 | obtain rfl := VR.typeI h1 | obtain rfl := VR.refI h1 | obtain ⟨_, rfl⟩ := VR.intI h1 | obtain ⟨_, rfl⟩ := VR.strI h1 | obtain rfl := VR.boolI h1 | obtain rfl := VR.noneI h1 | obtain rfl := VRs.nilI h1 | cases h1)
      have hm : (a, o, AO.list xs) ∈ σ := by obtain ⟨u, w, e, _⟩ := (U o).split; rw [e]; simp
      obtain ⟨ws, n, rfl, hr⟩ := R.sto _ hm
      have ho : s.heap.get? a = some (lstO ws n) := R.pl _ hm
      have hz0 : True := trivial
      have hz : ws.size = xs.length := by rw [← hr.length]; simp
      refine PyProof.Rows.append_at (its := ws) (n := n) ho (fun h' hs' ho' => ?_) (by rw [hz]; exact hl)
      rename_i y
      refine ⟨.none, D, σ' (lstO (ws.push y) (n + 1)), DX.refl _ _, .none, ?_, q _⟩
      have := R.upd (U (lstO (ws.push y) (n + 1))) s.toks (self_footO _ _) hs' rfl ho' ⟨_, _, rfl, by simpa using hr.append (.cons h3 .nil)⟩
      exact this

noncomputable def putV (kvs : List (K × V)) (k : K) (x : V) : List (K × V) := if kvs.any (fun kv => kv.1 = k) then kvs.map (fun kv => if kv.1 = k then (kv.1, x) else kv) else kvs ++ [(k, x)]
theorem KR.append {w : World} {l l' : List (K × Value)} {r r' : List (K × V)} (h : KR w D l r) (h' : KR w D l' r') : KR w D (l ++ l') (r ++ r') := by
  induction h with
  | nil => exact h'
  | cons hv _ ih => exact .cons hv ih
theorem KR.map {w : World} {l : List (K × Value)} {r : List (K × V)} (h : KR w D l r) {k : K} {v : Value} {x : V} (hv : VR w D v x) :
    KR w D (l.map fun kv => if kv.1 = k then (kv.1, v) else kv) (r.map fun kv => if kv.1 = k then (kv.1, x) else kv) := by
  induction h with
  | nil => exact .nil
  | @cons k' u y l r hu _ ih =>
    simp only [List.map_cons]
    by_cases e : k' = k
    · rw [if_pos e, if_pos e]; exact .cons hv ih
    · rw [if_neg e, if_neg e]; exact .cons hu ih
theorem KR.any {w : World} {l : List (K × Value)} {r : List (K × V)} (h : KR w D l r) (k : K) : (l.any fun kv => kv.1 = k) = (r.any fun kv => kv.1 = k) := by
  induction h with
  | nil => rfl
  | cons _ _ ih => simp only [List.any_cons, ih]
theorem KR.stored {w : World} {l : List (K × Value)} {r : List (K × V)} (h : KR w D l r) {k : K} {v : Value} {x : V} (hv : VR w D v x) : KR w D (PySem.stored l k v) (putV r k x) := by
  unfold PySem.stored putV
  rw [h.any k]
  split
  · exact h.map hv
  · exact h.append (.cons hv .nil)
theorem HR.ofDict (kk : KK C.prog C.w K) {h : Heap} {a : Addr} {cvs : List (K × Value)} {kvs : List (K × V)} (hD : h.DictOf kk.knd a cvs) (hk : KR C.w D cvs kvs) :
    ∃ o, h.get? a = some o ∧ HR C.w D o (.dict (ents kk kvs)) := by
  obtain ⟨o, es, ep, ho, ⟨hc, hd, hsl⟩, hdat, hks, hp, _⟩ := hD
  have eo : o = dctO es ep := by cases o; simp_all
  exact ⟨o, ho, es, ep, eo, VRd.ofPairs kk hp hk fun e he => hks e (by simpa using he)⟩
theorem setItem_dict (kk : KK C.prog C.w K) {a : Addr} {o : Obj} {kvs : List (K × V)} {k : K} {X : V} {key v : Value} {Z : Unit → Shared → Prop} {E : Value → Shared → Prop} (U : ∀ o', Upd a o (.dict (ents kk kvs)) o' (.dict (ents kk (putV kvs k X))) σ (σ' o')) (hn : (kvs.map (·.1)).Nodup) (hl : kvs.length ≤ sizeLine)
    (R : RelC C G D σ s) (hkey : VR C.w D key (kk.v k)) (hv : VR C.w D v X) (q : ∀ o' s', RelC C G D (σ' o') s' → Z () s') : wpAny C.M A (setItem (.ref a) key v) Z E s := by
  have hm : (a, o, AO.dict (ents kk kvs)) ∈ σ := by obtain ⟨u, w, e, _⟩ := (U o).split; rw [e]; simp
  obtain ⟨b, cvs, e, hD, hk⟩ := (Has.refD hm).isD kk hn R (.ref a)
  cases e
  refine wpAny_setItem_pairs (kk.isOf hkey) hD (fun h' hD' hs' => ?_) (by rw [hk.length]; exact hl)
  obtain ⟨o', ho', hr'⟩ := HR.ofDict kk hD' (hk.stored hv)
  exact q o' _ (R.upd (U o') (s.toks + 1) (self_footO _ _) hs' rfl ho' hr')
end
end Mine

set_option autoImplicit false
set_option linter.unusedVariables false
set_option linter.unusedSectionVars false
namespace Mine
open PySem

section
variable {C : Cx} {env : Env} {vars : List Str} {gl : List (Str × V)} {own : Bool} {d : Nat} {m m' : Loc} {σ : Sto} {σ' : Obj → Sto} {Q : V → Sto → Prop} {G D : Gh} {s : Shared} {A : Around} {K : Type} [DecidableEq K]

theorem K_get2 (kk : KK C.prog C.w K) {a : Addr} {o : Obj} {kvs : List (K × V)} {k : K} {X : V} (hs : NoSys C) (hm : (a, o, AO.dict (ents kk kvs)) ∈ σ) (hn : (kvs.map (·.1)).Nodup) (q : Q ((vAt kvs k).getD X) σ) :
    KW C d (.bi "dict.get") [.ref a, kk.v k, X] σ Q := fun A G D s v vs hA R hv hss => by
  (first | obtain rfl := VR.biI hv | obtain rfl := VR.typeI hv | obtain rfl := VR.refI hv | obtain ⟨_, rfl⟩ := VR.intI hv | obtain ⟨_, rfl⟩ := VR.strI hv | obtain rfl := VR.boolI hv | obtain rfl := VR.noneI hv | obtain rfl := VRs.nilI hv | cases hv)
  obtain ⟨_, _, rfl, h1, h2⟩ := VRs.consI hss
  · skip
    obtain ⟨_, _, rfl, h3, h4⟩ := VRs.consI h2
    · skip
      cases h4 with
      | cons h5 h6 =>
        cases h6; (first | obtain rfl := VR.biI h1 | obtain rfl := VR.typeI h1 | obtain rfl := VR.refI h1 | obtain ⟨_, rfl⟩ := VR.intI h1 | obtain ⟨_, rfl⟩ := VR.strI h1 | obtain rfl := VR.boolI h1 | obtain rfl := VR.noneI h1 | obtain rfl := VRs.nilI h1 | cases h1)
        obtain ⟨b, cvs, e, hD, hk⟩ := (Has.refD hm).isD kk hn R (.ref a)
        cases e
        refine call_meetsIn F.slot_dict_get hD.typeIs F.entry_dict_get (F.args_dict_get_3 _ _ _) (meets_dict_get_default kk.knd a (kk.isOf h3) (R.notSys hs hm) _) ⟨_, hD.mapOf, ?_⟩
        rcases hk.at k with ⟨e1, e2⟩ | ⟨_, _, e1, e2, hu⟩
        · rw [e1]; rw [e2] at q; exact PostC.now (R.tok _) h5 q
        · rw [e1]; rw [e2] at q; exact PostC.now (R.tok _) hu q
theorem K_get1 (kk : KK C.prog C.w K) {a : Addr} {o : Obj} {kvs : List (K × V)} {k : K} (hs : NoSys C) (hm : (a, o, AO.dict (ents kk kvs)) ∈ σ) (hn : (kvs.map (·.1)).Nodup) (q : Q ((vAt kvs k).getD .none) σ) :
    KW C d (.bi "dict.get") [.ref a, kk.v k] σ Q := fun A G D s v vs hA R hv hss => by
  (first | obtain rfl := VR.biI hv | obtain rfl := VR.typeI hv | obtain rfl := VR.refI hv | obtain ⟨_, rfl⟩ := VR.intI hv | obtain ⟨_, rfl⟩ := VR.strI hv | obtain rfl := VR.boolI hv | obtain rfl := VR.noneI hv | obtain rfl := VRs.nilI hv | cases hv)
  obtain ⟨_, _, rfl, h1, h2⟩ := VRs.consI hss
  · skip
    obtain ⟨_, _, rfl, h3, h4⟩ := VRs.consI h2
    · skip
      (first | obtain rfl := VR.biI h4 | obtain rfl := VR.typeI h4 | obtain rfl := VR.refI h4 | obtain ⟨_, rfl⟩ := VR.intI h4 | obtain ⟨_, rfl⟩ := VR.strI h4 | obtain rfl := VR.boolI h4 | obtain rfl := VR.noneI h4 | obtain rfl := VRs.nilI h4 | cases h4); (first | obtain rfl := VR.biI h1 | obtain rfl := VR.typeI h1 | obtain rfl := VR.refI h1 | obtain ⟨_, rfl⟩ := VR.intI h1 | obtain ⟨_, rfl⟩ := VR.strI h1 | obtain rfl := VR.boolI h1 | obtain rfl := VR.noneI h1 | obtain rfl := VRs.nilI h1 | cases h1)
      obtain ⟨b, cvs, e, hD, hk⟩ := (Has.refD hm).isD kk hn R (.ref a)
      cases e
      refine call_meetsIn F.slot_dict_get hD.typeIs F.entry_dict_get (F.args_dict_get_2 _ _) (meets_dict_get kk.knd a (kk.isOf h3) (R.notSys hs hm)) ⟨_, hD.mapOf, ?_⟩
      rcases hk.at k with ⟨e1, e2⟩ | ⟨_, _, e1, e2, hu⟩
      · rw [e1]; rw [e2] at q; exact PostC.now (R.tok _) .none q
      · rw [e1]; rw [e2] at q; exact PostC.now (R.tok _) hu q
noncomputable def SetR (C : Cx) (d : Nat) (x i v : V) (σ : Sto) (P : Sto → Prop) : Prop :=
  ∀ A G D s o k u, AOk A d → RelC C G D σ s → VR C.w D o x → VR C.w D k i → VR C.w D u v → wpAny C.M A (setItem o k u) (fun _ s' => ∃ D' σ', DX G D D' ∧ RelC C G D' σ' s' ∧ P σ') (fun _ _ => False) s
theorem Set_dict (kk : KK C.prog C.w K) {a : Addr} {o : Obj} {kvs : List (K × V)} {k : K} {X : V} {P : Sto → Prop} (U : ∀ o', Upd a o (.dict (ents kk kvs)) o' (.dict (ents kk (putV kvs k X))) σ (σ' o')) (hn : (kvs.map (·.1)).Nodup) (hl : kvs.length ≤ sizeLine) (q : ∀ o', P (σ' o')) :
    SetR C d (.ref a) (kk.v k) X σ P := fun A G D s o k' u hA R ho hk hu => by
  cases ho
  exact setItem_dict kk U hn hl R hk hu fun o' s' R' => ⟨D, _, DX.refl _ _, R', q o'⟩
variable {QS : Fl → Loc → Sto → Prop}
theorem S_SetSub {o i value : Expr} {p' p : Pos} (h : AT C env vars gl own d (eval value env) m σ fun X σ₁ => AT C env vars gl own d (eval o env) m σ₁ fun Y σ₂ => AT C env vars gl own d (eval i env) m σ₂ fun I σ₃ => SetR C d Y I X σ₃ fun σ₄ => QS .next m σ₄)
    (hs : swapsWith value (some (.Subscript o i p')) p.line env = pure false := by with_unfolding_all exact rfl) : AS C env vars gl own d (exec (.Assign [.Subscript o i p'] value p) env) m σ QS := fun A G D s hA R =>
  wpAny_Assign_Subscript (h.run hA R fun v s₁ X D₁ σ₁ a b c e => e.run hA c fun u s₂ Y D₂ σ₂ a' b' c' e' => e'.run hA c' fun w s₃ I D₃ σ₃ a₃ b₃ c₃ e₃ =>
    wpAny_mono (e₃ A _ D₃ s₃ u w v hA c₃.lifted (b'.mono a₃.sub) b₃ (b.mono (a'.trans a₃).sub)) (fun _ s₄ hpp => by obtain ⟨D₄, σ₄, dx, R₄, q⟩ := hpp; exact ⟨.next, m, D₄, σ₄, ((a.trans a').trans a₃).trans (c₃.dx dx), trivial, c₃.back R₄ dx, q⟩) fun _ _ e => e) hs
end
end Mine

set_option autoImplicit false
set_option linter.unusedVariables false
set_option linter.unusedSectionVars false
namespace Mine
open PySem
section
variable {C : Cx} {env : Env} {vars : List Str} {gl : List (Str × V)} {own : Bool} {d : Nat} {m m' : Loc} {σ : Sto} {QS : Fl → Loc → Sto → Prop}

theorem S_While {test : Expr} {body : List Stmt} {p : Pos} (I : Nat → Loc → Sto → Prop)
    (turn : ∀ n m σ, I n m σ → AB C env vars gl own d (isTrue test env (eval test env)) m σ fun b σ₁ =>
      (b = true → AS C env vars gl own d (execs body env) m σ₁ fun fl m₂ σ₂ => match fl with
        | .next => ∃ k, k < n ∧ I k m₂ σ₂
        | .cont => ∃ k, k < n ∧ I k m₂ σ₂
        | .brk => QS .next m₂ σ₂
        | .ret v => QS (.ret v) m₂ σ₂) ∧ (b = false → QS .next m σ₁))
    (n : Nat) (h : I n m σ) : AS C env vars gl own d (exec (.While test body [] p) env) m σ QS := fun A G D s hA R => by
  refine wpAny_While (codeAny_whileLoop (fun n s' => ∃ m' D' σ', DX G D D' ∧ RelF C env vars gl own G D' m' σ' s' ∧ I n m' σ') ?_ n ⟨m, D, σ, DX.refl _ _, R, h⟩)
  rintro n s' ⟨m', D', σ', dx, R', hI⟩
  refine wpAny_mono ((turn n m' σ' hI).run hA R' fun b s₁ D₁ σ₁ a c e => ?_) (fun _ _ e => e) fun _ _ e => e.elim
  cases b with
  | true =>
    rw [if_pos rfl]
    refine wpAny_mono ((e.1 rfl).run hA c fun f s₂ fl m₂ D₂ σ₂ a₂ hfl R₂ q => ?_) (fun _ _ e => e) fun _ _ e => e.elim
    have dx2 := (dx.trans a).trans a₂
    cases f <;> cases fl <;> first | exact hfl.elim | skip
    · obtain ⟨k, hk, hI'⟩ := q; exact ⟨k, hk, m₂, D₂, σ₂, dx2, R₂, hI'⟩
    · exact ⟨.next, m₂, D₂, σ₂, dx2, trivial, R₂, q⟩
    · obtain ⟨k, hk, hI'⟩ := q; exact ⟨k, hk, m₂, D₂, σ₂, dx2, R₂, hI'⟩
    · exact ⟨.ret _, m₂, D₂, σ₂, dx2, hfl, R₂, q⟩
  | false =>
    rw [if_neg (by decide)]
    exact wpAny_execs_nil ⟨.next, m', D₁, σ₁, dx.trans a, trivial, c, e.2 rfl⟩
theorem S_WhileQ {test : Expr} {body : List Stmt} {p : Pos} (I : Nat → Loc → Sto → Prop)
    (turn : ∀ n m σ, I n m σ → ∀ QB : Fl → Loc → Sto → Prop, (∀ k m σ, k < n → I k m σ → QB .next m σ) → AB C env vars gl own d (isTrue test env (eval test env)) m σ fun b σ₁ =>
      (b = true → AS C env vars gl own d (execs body env) m σ₁ QB) ∧ (b = false → QS .next m σ₁))
    (n : Nat) (h : I n m σ) : AS C env vars gl own d (exec (.While test body [] p) env) m σ QS :=
  S_While I (fun n m σ hI => turn n m σ hI _ fun k m σ hk hI => ⟨k, hk, hI⟩) n h
end
end Mine

set_option autoImplicit false
set_option linter.unusedVariables false
set_option linter.unusedSectionVars false
namespace Mine
open PySem
theorem M_append : MethIs "list" "append" "list.append" := ⟨F.plainAttrs_list, F.slot_list_append, F.type_list_append⟩
theorem M_lpop : MethIs "list" "pop" "list.pop" := ⟨F.plainAttrs_list, F.slot_list_pop, F.type_list_pop⟩
theorem M_get : MethIs "dict" "get" "dict.get" := ⟨F.plainAttrs_dict, F.slot_dict_get, F.type_dict_get⟩
theorem M_setdefault : MethIs "dict" "setdefault" "dict.setdefault" := ⟨F.plainAttrs_dict, F.slot_dict_setdefault, F.type_dict_setdefault⟩
section
variable {C : Cx} {env : Env} {vars : List Str} {gl : List (Str × V)} {own : Bool} {d : Nat} {m m' : Loc} {σ : Sto} {σ' : Obj → Sto} {Q : V → Sto → Prop} {G D : Gh} {s : Shared} {A : Around} {K : Type} [DecidableEq K]
end
end Mine

set_option autoImplicit false
set_option linter.unusedVariables false
set_option linter.unusedSectionVars false
namespace Mine
open PySem
section
variable {C : Cx} {env : Env} {vars : List Str} {gl : List (Str × V)} {own : Bool} {d : Nat} {m m' : Loc} {σ : Sto} {σ' : Obj → Sto} {Q : V → Sto → Prop} {G D : Gh} {s : Shared} {A : Around} {K : Type} [DecidableEq K]
variable {QI : List V → (Sto → Prop) → Sto → Prop}
theorem AI_dict (kk : KK C.prog C.w K) {iter tgt : Expr} (hsys : NoSys C) (h : AT C env vars gl own d (eval iter env) m σ fun X σ₁ => ∃ a o kvs, X = .ref a ∧ (a, o, AO.dict (ents kk kvs)) ∈ σ₁ ∧ (kvs.map (·.1)).Nodup ∧ QI (kvs.map fun p => kk.v p.1) (fun σ' => (a, o, AO.dict (ents kk kvs)) ∈ σ') σ₁) :
    AI C env vars gl own d iter tgt m σ QI := fun A G D s hA R =>
  h.run hA R fun v s₁ X D₁ σ₁ dx b c hpp => by
    obtain ⟨ax, o, kvs, hX, hm, hn, q⟩ := hpp
    subst hX
    obtain ⟨_, ob, e, ho, ⟨es, n, rfl, hr⟩, hP, hst⟩ := (Has.refD hm).run c.toRelC b
    (first | obtain rfl := VR.biI b | obtain rfl := VR.typeI b | obtain rfl := VR.refI b | obtain ⟨_, rfl⟩ := VR.intI b | obtain ⟨_, rfl⟩ := VR.strI b | obtain rfl := VR.boolI b | obtain rfl := VR.noneI b | obtain rfl := VRs.nilI b | cases b); cases e
    obtain ⟨cvs, p, kr, r⟩ := VRd.pairs kk hr
    have hD : s₁.heap.DictAt kk.knd ax cvs n := ⟨_, es, ho, ⟨rfl, rfl, rfl⟩, rfl, fun e he => r e (by simpa using he), p, by rw [kr.keys]; exact hn⟩
    have hne : ax ≠ s₁.heap.objs.size := Nat.ne_of_lt (Heap.lt_size ho)
    refine wpAny_pyIter_dict (c.toRelC.notSys hsys hm) hD ⟨D₁, σ₁, _, _, dx, ⟨s₁.heap.objs.size, _, _, _, rfl, IW.ofWalks (Walks.dictKeys (knd := kk.knd) hA.h s₁.heap.objs.size ax hne cvs n) (by rw [kr.length]; simp) ?_ ?_ ?_ ?_, ⟨⟨_, Heap.get?_push_size _ rfl, rfl, rfl⟩, hD.push _⟩, c.push _, c.offNew (lstO #[] 0), hP, ?_⟩, q⟩
    · rintro i u X ⟨k, x, hx, hk⟩ hX
      have e1 : (cvs.map (·.1))[i]? = some k := by rw [List.getElem?_map, hx]; rfl
      rw [kr.keys, List.getElem?_map] at e1
      rw [List.getElem?_map] at hX
      cases e3 : kvs[i]? with
      | none => rw [e3] at e1; cases e1
      | some p =>
        rw [e3] at e1 hX
        simp only [Option.map_some, Option.some.injEq] at e1 hX
        subst hX; rw [e1]; exact kk.ofIs hk
    · rintro i h ⟨⟨o, ho, _⟩, _⟩ a ha; simp at ha; subst ha; exact ⟨o, ho⟩
    · rintro b hb hbw h ⟨_, o, _, ho, _⟩ e
      simp at hb hbw
      rcases hb with rfl | rfl
      · exact hbw rfl
      · rw [ho] at e; cases e
    · rintro i h ⟨⟨o, ho, hc, _⟩, _⟩; exact ⟨o, _, ho, hc, by decide⟩
    · intro G' D' σ' s' R' hs hP' b hb hbw o' e
      simp at hb hbw
      rcases hb with rfl | rfl
      · exact absurd rfl hbw
      · rw [Heap.get?_push_of_some _ ho] at e; cases e; exact hst G' D' σ' s' R' hs hP'
theorem K_lenD (kk : KK C.prog C.w K) {a : Addr} {o : Obj} {kvs : List (K × V)} (hs : NoSys C) (hm : (a, o, AO.dict (ents kk kvs)) ∈ σ) (hn : (kvs.map (·.1)).Nodup) (hl : kvs.length ≤ sizeLine) (q : Q (.int kvs.length) σ) :
    KW C d (.bi "len") [.ref a] σ Q := fun A G D s v vs hA R hv hss => by
  (first | obtain rfl := VR.biI hv | obtain rfl := VR.typeI hv | obtain rfl := VR.refI hv | obtain ⟨_, rfl⟩ := VR.intI hv | obtain ⟨_, rfl⟩ := VR.strI hv | obtain rfl := VR.boolI hv | obtain rfl := VR.noneI hv | obtain rfl := VRs.nilI hv | cases hv)
  obtain ⟨_, _, rfl, h1, h2⟩ := VRs.consI hss
  · skip
    (first | obtain rfl := VR.biI h2 | obtain rfl := VR.typeI h2 | obtain rfl := VR.refI h2 | obtain ⟨_, rfl⟩ := VR.intI h2 | obtain ⟨_, rfl⟩ := VR.strI h2 | obtain rfl := VR.boolI h2 | obtain rfl := VR.noneI h2 | obtain rfl := VRs.nilI h2 | cases h2); (first | obtain rfl := VR.biI h1 | obtain rfl := VR.typeI h1 | obtain rfl := VR.refI h1 | obtain ⟨_, rfl⟩ := VR.intI h1 | obtain ⟨_, rfl⟩ := VR.strI h1 | obtain rfl := VR.boolI h1 | obtain rfl := VR.noneI h1 | obtain rfl := VRs.nilI h1 | cases h1)
    obtain ⟨b, cvs, e, hD, hk⟩ := (Has.refD hm).isD kk hn R (.ref a)
    cases e
    refine call_len_dict (R.notSys hs hm) hD (by rw [hk.length]; have : kvs.length ≤ 16777216 := hl; lia) ?_
    rw [hk.length]; exact PostC.now (R.tok _) (.int _ _) q
end
end Mine

set_option autoImplicit false
set_option linter.unusedVariables false
set_option linter.unusedSectionVars false
namespace Mine
open PySem
section
variable {C : Cx} {env : Env} {vars : List Str} {gl : List (Str × V)} {own : Bool} {d : Nat} {m m' : Loc} {σ : Sto} {KA : Loc → Sto → Prop}
noncomputable def AAs (C : Cx) (env : Env) (vars : List Str) (gl : List (Str × V)) (own : Bool) (d : Nat) (ts : List (Value → Sem Unit)) (xs : List V) (m : Loc) (σ : Sto) (KA : Loc → Sto → Prop) : Prop :=
  ∀ A G D s vs, AOk A d → RelF C env vars gl own G D m σ s → VRs C.w D vs xs → wpAny C.M A (assignInOrder ts vs) (PostU C env vars gl own G D KA) (fun _ _ => False) s
theorem AAs_nil (k : KA m σ) : AAs C env vars gl own d [] [] m σ KA := fun A G D s vs hA R hv => by
  (first | obtain rfl := VR.biI hv | obtain rfl := VR.typeI hv | obtain rfl := VR.refI hv | obtain ⟨_, rfl⟩ := VR.intI hv | obtain ⟨_, rfl⟩ := VR.strI hv | obtain rfl := VR.boolI hv | obtain rfl := VR.noneI hv | obtain rfl := VRs.nilI hv | cases hv)
  show wpAny C.M A (assignInOrder [] []) _ _ s
  exact wpAny_pure ⟨m, D, σ, DX.refl _ _, R, k⟩
theorem AAs_cons {t : Value → Sem Unit} {ts : List (Value → Sem Unit)} {x : V} {xs : List V} (h : AA C env vars gl own d t x m σ fun m₁ σ₁ => AAs C env vars gl own d ts xs m₁ σ₁ KA) : AAs C env vars gl own d (t :: ts) (x :: xs) m σ KA := fun A G D s vs hA R hv => by
  cases hv with
  | cons h1 h2 =>
    rename_i v vs
    have key : wpAny C.M A (t v) (fun _ s' => wpAny C.M A (assignInOrder ts vs) (PostU C env vars gl own G D KA) (fun _ _ => False) s') (fun _ _ => False) s :=
      wpAny_mono (h A G D s v hA R h1) (fun _ s' hpp => by obtain ⟨m₁, D₁, σ₁, dx, R₁, q⟩ := hpp; exact wpAny_mono (q A G D₁ s' vs hA R₁ (h2.mono dx.sub)) (fun _ _ p => p.weak dx) fun _ _ e => e) fun _ _ e => e
    exact wpAny_bind (wpAny_holding key)
theorem AA_Tup {elts : List Expr} {k : Nat} {p : Pos} {xs : List V} (hn : (assignEach elts env).length = xs.length) (hstar : (assignEach elts env).findIdx? (·.1) = none) (h : AAs C env vars gl own d ((assignEach elts env).map (·.2)) xs m σ KA) :
    AA C env vars gl own d (assign (.Tuple elts k p) env) (.tup xs) m σ KA := fun A G D s v hA R hv => by
  obtain ⟨a, ws, rfl, _, hT, hr⟩ := VR.isT R.toRelC hv
  refine wpAny_assign_Tuple hA.h hT (by rw [hn, ← hr.length]; simp) hstar fun h' he => ?_
  have R' : RelF C env vars gl own G D m σ { s with heap := h' } := by
    have := R.keepBut (h' := h') s.toks (R.offNew (lstO #[] 0)) fun b o hb e => he b o (by simpa using hb) e
    exact this
  exact h A G D _ _ hA R' hr
variable {QS : Fl → Loc → Sto → Prop}
theorem AAs2 {x y : Expr} {X Y : V} (h : AA C env vars gl own d (assign x env) X m σ fun m₁ σ₁ => AA C env vars gl own d (assign y env) Y m₁ σ₁ KA) {k : Nat} {p : Pos}
    (hn : (assignEach [x, y] env).map (·.2) = [assign x env, assign y env] := by with_unfolding_all exact rfl) (hstar : (assignEach [x, y] env).findIdx? (·.1) = none := by with_unfolding_all exact rfl) :
    AA C env vars gl own d (assign (.Tuple [x, y] k p) env) (.tup [X, Y]) m σ KA := by
  refine AA_Tup (by have := congrArg List.length hn; simpa using this) hstar ?_
  rw [hn]
  refine AAs_cons fun A G D s v hA R hv => wpAny_mono (h A G D s v hA R hv) (fun _ s' hpp => by obtain ⟨m₁, D₁, σ₁, dx, R₁, q⟩ := hpp; exact ⟨m₁, D₁, σ₁, dx, R₁, AAs_cons fun A G D s v hA R hv => wpAny_mono (q A G D s v hA R hv) (fun _ s' hpp => by obtain ⟨m₁, D₁, σ₁, dx, R₁, q⟩ := hpp; exact ⟨m₁, D₁, σ₁, dx, R₁, AAs_nil q⟩) fun _ _ e => e⟩) fun _ _ e => e
theorem AAs3 {x y z : Expr} {X Y Z : V} (h : AA C env vars gl own d (assign x env) X m σ fun m₁ σ₁ => AA C env vars gl own d (assign y env) Y m₁ σ₁ fun m₂ σ₂ => AA C env vars gl own d (assign z env) Z m₂ σ₂ KA) {k : Nat} {p : Pos}
    (hn : (assignEach [x, y, z] env).map (·.2) = [assign x env, assign y env, assign z env] := by with_unfolding_all exact rfl) (hstar : (assignEach [x, y, z] env).findIdx? (·.1) = none := by with_unfolding_all exact rfl) :
    AA C env vars gl own d (assign (.Tuple [x, y, z] k p) env) (.tup [X, Y, Z]) m σ KA := by
  refine AA_Tup (by have := congrArg List.length hn; simpa using this) hstar ?_
  rw [hn]
  refine AAs_cons fun A G D s v hA R hv => wpAny_mono (h A G D s v hA R hv) (fun _ s' hpp => by obtain ⟨m₁, D₁, σ₁, dx, R₁, q⟩ := hpp; exact ⟨m₁, D₁, σ₁, dx, R₁, AAs_cons fun A G D s v hA R hv => wpAny_mono (q A G D s v hA R hv) (fun _ s' hpp => by obtain ⟨m₁, D₁, σ₁, dx, R₁, q⟩ := hpp; exact ⟨m₁, D₁, σ₁, dx, R₁, AAs_cons fun A G D s v hA R hv => wpAny_mono (q A G D s v hA R hv) (fun _ s' hpp => by obtain ⟨m₁, D₁, σ₁, dx, R₁, q⟩ := hpp; exact ⟨m₁, D₁, σ₁, dx, R₁, AAs_nil q⟩) fun _ _ e => e⟩) fun _ _ e => e⟩) fun _ _ e => e
end
end Mine

set_option autoImplicit false
set_option linter.unusedVariables false
set_option linter.unusedSectionVars false
namespace Mine
open PySem
section
variable {C : Cx} {env : Env} {vars : List Str} {gl : List (Str × V)} {own : Bool} {d : Nat} {m m' : Loc} {σ : Sto} {σ' : Obj → Sto} {Q : V → Sto → Prop} {QS : Fl → Loc → Sto → Prop} {K : Type} [DecidableEq K]
theorem S_AssignT {t value : Expr} {p : Pos} (h : AT C env vars gl own d (eval value env) m σ fun X σ₁ => AA C env vars gl own d (assign t env) X m σ₁ fun m₂ σ₂ => QS .next m₂ σ₂)
    (he : (assignEach [t] env).map (·.2) = [assign t env] := by with_unfolding_all exact rfl) (hs : swapsWithSole [t] value p.line env = pure false := by with_unfolding_all exact rfl)
    (hw : swappedStores [t] value env = pure none := by with_unfolding_all exact rfl) : AS C env vars gl own d (exec (.Assign [t] value p) env) m σ QS := fun A G D s hA R => by
  refine wpAny_Assign_stores (h.run hA R fun v s₁ X D₁ σ₁ a b c e => ?_) hs hw
  rw [he]
  show wpAny C.M A (assign t env v) _ _ s₁
  exact wpAny_mono (e A G D₁ s₁ v hA c b) (fun _ s₂ hpp => by obtain ⟨m₂, D₂, σ₂, dx, R₂, q⟩ := hpp; exact ⟨.next, m₂, D₂, σ₂, a.trans dx, trivial, R₂, q⟩) fun _ _ x => x
theorem K_setdefault (kk : KK C.prog C.w K) {a : Addr} {o : Obj} {kvs : List (K × V)} {k : K} {X : V} (hs : NoSys C) (U : ∀ o', Upd a o (.dict (ents kk kvs)) o' (.dict (ents kk (putV kvs k X))) σ (σ' o')) (hn : (kvs.map (·.1)).Nodup) (hl : kvs.length ≤ sizeLine)
    (q1 : ∀ Y, vAt kvs k = some Y → Q Y σ) (q2 : vAt kvs k = none → ∀ o', Q X (σ' o')) :
    KW C d (.bi "dict.setdefault") [.ref a, kk.v k, X] σ Q := fun A G D s v vs hA R hv hss => by
  (first | obtain rfl := VR.biI hv | obtain rfl := VR.typeI hv | obtain rfl := VR.refI hv | obtain ⟨_, rfl⟩ := VR.intI hv | obtain ⟨_, rfl⟩ := VR.strI hv | obtain rfl := VR.boolI hv | obtain rfl := VR.noneI hv | obtain rfl := VRs.nilI hv | cases hv)
  obtain ⟨_, _, rfl, h1, h2⟩ := VRs.consI hss
  · skip
    obtain ⟨_, _, rfl, h3, h4⟩ := VRs.consI h2
    · skip
      cases h4 with
      | cons h5 h6 =>
        cases h6; (first | obtain rfl := VR.biI h1 | obtain rfl := VR.typeI h1 | obtain rfl := VR.refI h1 | obtain ⟨_, rfl⟩ := VR.intI h1 | obtain ⟨_, rfl⟩ := VR.strI h1 | obtain rfl := VR.boolI h1 | obtain rfl := VR.noneI h1 | obtain rfl := VRs.nilI h1 | cases h1)
        have hm : (a, o, AO.dict (ents kk kvs)) ∈ σ := by obtain ⟨u, w, e, _⟩ := (U o).split; rw [e]; simp
        obtain ⟨b, cvs, e, hD, hk⟩ := (Has.refD hm).isD kk hn R (.ref a)
        cases e
        refine call_meetsIn F.slot_dict_setdefault hD.typeIs F.entry_dict_setdefault (F.args_dict_setdefault_3 _ _ _) (kt_meets_setdefault kk.knd a (kk.isOf h3) (R.notSys hs hm) _) ⟨cvs, hD, by rw [hk.length]; exact hl, fun u hu => ?_, fun hnone h' hD' hs' => ?_⟩
        · rcases hk.at k with ⟨e1, e2⟩ | ⟨u', Y, e1, e2, hY⟩
          · rw [hu] at e1; cases e1
          · rw [hu] at e1; cases e1; exact PostC.now (R.tok _) hY (q1 Y e2)
        · rcases hk.at k with ⟨e1, e2⟩ | ⟨u', Y, e1, e2, hY⟩
          · obtain ⟨o', ho', hr'⟩ := HR.ofDict kk hD' (hk.stored h5)
            exact ⟨X, D, σ' o', DX.refl _ _, h5, R.upd (U o') (s.toks + 1) (self_footO _ _) hs' rfl ho' hr', q2 e2 o'⟩
          · rw [hnone] at e1; cases e1
end
end Mine

set_option autoImplicit false
set_option linter.unusedVariables false
set_option linter.unusedSectionVars false
namespace Mine
open PySem
theorem FR.look {w : World} {D : Gh} {name : Str} : ∀ {es : List DictEntry} {fs : List (Str × V)}, FR w D es fs →
    (es.any (·.refKey) = false) ∧ ((fs.lookup name = none ∧ es.find? (·.key.isStr name) = none) ∨ ∃ e x, fs.lookup name = some x ∧ es.find? (·.key.isStr name) = some e ∧ VR w D e.val x)
  | [], [], _ => ⟨rfl, .inl ⟨rfl, rfl⟩⟩
  | e :: es, (n, x) :: fs, ⟨⟨t, hk⟩, _, hv, hr⟩ => by
    obtain ⟨h1, h2⟩ := FR.look (name := name) hr
    have hrk : e.refKey = false := by unfold DictEntry.refKey; rw [hk]
    refine ⟨by rw [List.any_cons, hrk, h1]; rfl, ?_⟩
    by_cases en : name = n
    · subst en
      exact .inr ⟨e, x, by simp [List.lookup], by rw [List.find?_cons, hk]; simp [Value.isStr], hv⟩
    · have e1 : (e.key.isStr name) = false := by rw [hk]; simp [Value.isStr]; exact fun h => en h.symm
      have e2 : (name == n) = false := by simpa using en
      rw [List.lookup_cons, e2, List.find?_cons, e1]
      exact h2
  | [], _ :: _, h => h.elim
  | _ :: _, [], h => h.elim
section
variable {C : Cx} {env : Env} {vars : List Str} {gl : List (Str × V)} {own : Bool} {d : Nat} {m m' : Loc} {σ : Sto} {P : V → Sto → Prop} {G D : Gh} {s : Shared}
theorem inst_at {x c dx : Addr} {o : Obj} {fs : List (Str × V)} (R : RelC C G D σ s) (hm : (x, o, AO.inst c dx fs) ∈ σ) : W.InstAt s.heap x (instO c dx) c (some o) := by
  obtain ⟨h1, h2⟩ := R.pl _ hm
  exact ⟨h1, rfl, rfl, h2⟩
structure MethAt (C : Cx) (K : W.Frag) (c : Addr) (name : Str) (f : Addr) : Prop where
  kin : K.In C.base
  ga : W.findIn K (.ref c) "__getattribute__" = some (some (.builtin "object.__getattribute__"))
  gk : W.findIn K (.ref c) "__getattr__" = some none
  fn : W.findIn K (.ref c) name = some (some (.ref f))
  ty : W.typeIn K (.ref f) = some (.type "function")
  cal : Callee C (.ref f)
theorem AT_MethI {K : W.Frag} {c f : Addr} {o e : Expr} {rest : List Expr} {name : Str} {ap p : Pos} (hM : MethAt C K c name f)
    (h : AT C env vars gl own d (eval o env) m σ fun X σ₁ => ∃ x ob dx fs, X = .ref x ∧ (x, ob, AO.inst c dx fs) ∈ σ₁ ∧ fs.lookup name = none ∧ AL C env vars gl own d (spliced (backTo p (starEach (e :: rest) env))) m σ₁ fun Xs σ₂ => KW C d (.ref f) (.ref x :: Xs) σ₂ P)
    (hbase : attributeBase o name env (eval o env) = eval o env := by with_unfolding_all exact rfl) (hline : (ap.endLine == p.line) = true := by with_unfolding_all exact rfl)
    (he : starEach (e :: rest) env = (false, eval e env) :: starEach rest env := by with_unfolding_all exact rfl) (hplain : (backTo p (starEach rest env)).any (·.1) = false := by with_unfolding_all exact rfl)
    (hfew : ((backTo p (starEach (e :: rest) env)).all (fun x => !x.1) && (backToKw p (keywordEach [] env)).all (fun x => x.1.isSome) && decide ((e :: rest).length + ([] : List Keyword).length + (if ([] : List Keyword).isEmpty then 0 else 1) < 30)) = true := by with_unfolding_all exact rfl) :
    AT C env vars gl own d (eval (.Call (.Attribute o name ap) (e :: rest) [] p) env) m σ P := fun A G D s hA R => by
  rw [arm_eval_Call, hbase]
  refine wpAny_bind (h.run hA R fun v s₁ X D₁ σ₁ a b c₁ hpp => ?_)
  obtain ⟨x, ob, dx, fs, hX, hm, hsh, hk⟩ := hpp
  subst hX
  (first | obtain rfl := VR.biI b | obtain rfl := VR.typeI b | obtain rfl := VR.refI b | obtain ⟨_, rfl⟩ := VR.intI b | obtain ⟨_, rfl⟩ := VR.strI b | obtain rfl := VR.boolI b | obtain rfl := VR.noneI b | obtain rfl := VRs.nilI b | cases b)
  refine wpAny_bind (wpAny_standAt ?_)
  have hform : methodCallForm ((e :: rest).length + ([] : List Keyword).length) (backTo p (starEach (e :: rest) env)) (backToKw p (keywordEach [] env)) = true := hfew
  have hpos : methodCallPos true o env ap p = pure p := by unfold methodCallPos; simp [hline]
  unfold methodCall
  rw [hform]
  obtain ⟨es, n, rfl, hr⟩ := c₁.sto _ hm
  have hl := (FR.look (name := name) hr)
  have hshadow : W.shadowIn (some (dctO es n)) name = some false := by
    unfold W.shadowIn W.lookIn
    rcases hl.2 with ⟨_, e2⟩ | ⟨_, _, e1, _, _⟩
    · simp [e2, hl.1]
    · rw [hsh] at e1; cases e1
  refine wpAny_bind (wpAny_holding (W.method_fn (hM.kin.keeps c₁.toRelC.baseIn) (inst_at c₁.toRelC hm) hM.ga hM.gk hM.fn hM.ty hshadow ?_))
  refine wpAny_bind (wpAny_of_eq hpos ?_)
  rw [he] at hk ⊢
  refine callee_run (F := .ref f) hM.cal (.ref f) (D := D₁) hplain (Calls.evalArgs_plain (AL.run hk hA c₁ fun vs s₂ Xs D₂ σ₂ a' b' c' q => ⟨c'.toRelC.baseIn, wp_weak (a.trans a') (q.inF hA c' (.ref f) (.cons (.ref x) b'))⟩))
end
end Mine

set_option autoImplicit false
set_option linter.unusedVariables false
set_option linter.unusedSectionVars false
namespace Mine
open PySem
section
variable {C : Cx} {env : Env} {vars : List Str} {gl : List (Str × V)} {own : Bool} {d : Nat} {m m' : Loc} {σ : Sto} {P : V → Sto → Prop} {G D : Gh} {s : Shared}
structure AttrAt (C : Cx) (K : W.Frag) (c : Addr) (name : Str) : Prop where
  kin : K.In C.base
  ga : W.findIn K (.ref c) "__getattribute__" = some (some (.builtin "object.__getattribute__"))
  cls : ∃ cd, W.clsIn K c = some cd ∧ cd.hasDict = true
  nf : W.findIn K (.ref c) name = some none
theorem handed {w : World} {D : Gh} {v : Value} {x : V} (h : VR w D v x) (hx : ∀ n, x ≠ .bi n) : W.handedIn v = true := by
  cases h <;> first | rfl | exact absurd rfl (hx _)
theorem AT_Attr {K : W.Frag} {c : Addr} {o : Expr} {name : Str} {p : Pos} (hM : AttrAt C K c name)
    (h : AT C env vars gl own d (eval o env) m σ fun X σ₁ => ∃ x ob dx fs Y, X = .ref x ∧ (x, ob, AO.inst c dx fs) ∈ σ₁ ∧ fs.lookup name = some Y ∧ (∀ n, Y ≠ .bi n) ∧ P Y σ₁)
    (hbase : attributeBase o name env (eval o env) = eval o env := by with_unfolding_all exact rfl) (ht : ∀ u r, letTemporaryGo o u r = pure () := by intro _ _; with_unfolding_all exact rfl) :
    AT C env vars gl own d (eval (.Attribute o name p) env) m σ P := fun A G D s hA R => by
  rw [arm_eval_Attribute, hbase]
  refine wpAny_bind (h.run hA R fun v s₁ X D₁ σ₁ a b c₁ hpp => ?_)
  obtain ⟨x, ob, dx, fs, Y, hX, hm, hl, hnb, q⟩ := hpp
  subst hX
  (first | obtain rfl := VR.biI b | obtain rfl := VR.typeI b | obtain rfl := VR.refI b | obtain ⟨_, rfl⟩ := VR.intI b | obtain ⟨_, rfl⟩ := VR.strI b | obtain rfl := VR.boolI b | obtain rfl := VR.noneI b | obtain rfl := VRs.nilI b | cases b)
  refine wpAny_bind (wpAny_standAt (wpAny_bind (wpAny_holding ?_)))
  obtain ⟨es, n, rfl, hr⟩ := c₁.sto _ hm
  have hL := FR.look (name := name) hr
  rcases hL.2 with ⟨e1, _⟩ | ⟨e, Z, e1, e2, hv⟩
  · rw [hl] at e1; cases e1
  rw [hl] at e1; cases e1
  obtain ⟨cd, hc1, hc2⟩ := hM.cls
  have hlook : W.lookIn name (dctO es n) = some (some e.val) := by unfold W.lookIn; simp [e2]
  have hf : W.findObj K c (some (dctO es n)) name = some (.value e.val) := by
    unfold W.findObj W.ownOf
    rw [hc1, hM.nf]
    simp [hc2, hlook]
  refine W.get_value (hM.kin.keeps c₁.toRelC.baseIn) (inst_at c₁.toRelC hm) hM.ga hf (handed hv hnb) ?_
  rw [ht]
  exact wpAny_bind (wpAny_pure (wpAny_pure ⟨Y, D₁, σ₁, a, hv, c₁.tok _, q⟩))
end
end Mine

set_option autoImplicit false
set_option linter.unusedVariables false
set_option linter.unusedSectionVars false
namespace Mine
open PySem
noncomputable def At (σ : Sto) (a : Addr) (x : AO) : Prop := ∃ o, (a, o, x) ∈ σ
theorem At.cons {σ : Sto} {a : Addr} {x : AO} (p : Addr × Obj × AO) (h : At σ a x) : At (p :: σ) a x := let ⟨o, e⟩ := h; ⟨o, .tail _ e⟩
theorem At.hd {σ : Sto} {a : Addr} {o : Obj} {x : AO} : At ((a, o, x) :: σ) a x := ⟨o, .head _⟩
structure UpdS (σ σ' : Sto) (a : Addr) (x : AO) : Prop where
  here : At σ' a x
  keep : ∀ p ∈ σ, p.1 ≠ a → p ∈ σ'
theorem UpdS.at {σ σ' : Sto} {a b : Addr} {x y : AO} (U : UpdS σ σ' a x) (h : At σ b y) (hne : b ≠ a) : At σ' b y := let ⟨o, e⟩ := h; ⟨o, U.keep _ e hne⟩
noncomputable def Fresh (σ : Sto) (a : Addr) : Prop := ∀ p ∈ σ, p.1 ≠ a
theorem Fresh.ne {σ : Sto} {a b : Addr} {x : AO} (h : Fresh σ a) (hb : At σ b x) : b ≠ a := let ⟨o, e⟩ := hb; h _ e
theorem Upd.updS {a : Addr} {o o' : Obj} {x x' : AO} {σ σ' : Sto} (U : Upd a o x o' x' σ σ') : UpdS σ σ' a x' := by
  obtain ⟨u, v, rfl, rfl⟩ := U.split
  refine ⟨⟨o', by simp⟩, fun p hp hn => ?_⟩
  rcases List.mem_append.mp hp with h | h
  · exact List.mem_append_left _ h
  · rcases List.mem_cons.mp h with rfl | h
    · exact absurd rfl hn
    · exact List.mem_append_right _ (.tail _ h)
theorem At.upd {σ : Sto} {a : Addr} {x : AO} (h : At σ a x) (x' : AO) : ∃ (o : Obj) (σ' : Obj → Sto), (∀ o' : Obj, Upd a o x o' x' σ (σ' o')) ∧ ∀ o' : Obj, UpdS σ (σ' o') a x' := by
  obtain ⟨o, h⟩ := h
  obtain ⟨u, v, rfl⟩ := List.append_of_mem h
  exact ⟨o, fun o' => u ++ (a, o', x') :: v, fun o' => Upd.app u .head, fun o' => (Upd.app u .head).updS⟩
section
variable {C : Cx} {env : Env} {vars : List Str} {gl : List (Str × V)} {own : Bool} {d : Nat} {m m' : Loc} {σ : Sto} {Q : V → Sto → Prop} {QS : Fl → Loc → Sto → Prop} {G D : Gh} {s : Shared} {A : Around} {K : Type} [DecidableEq K]
theorem mem_footS {σ : Sto} {p : Addr × Obj × AO} (h : p ∈ σ) : p.1 ∈ foot σ := self_foot (a := p.1) (ob := p.2.1) (o := p.2.2) h
theorem RelC.fresh (R : RelC C G D σ s) : Fresh σ s.heap.objs.size := fun p hp e => R.new_notFoot (e ▸ mem_footS hp)
theorem CW_drop {a : Addr} {xs : List V} (h : CW C d (.ref a) xs σ fun x σ' => ∃ τ, τ.Sublist σ' ∧ Q x τ) : CW C d (.ref a) xs σ Q := fun A G D s vs hA R hv =>
  codeAny_mono (h A G D s vs hA R hv) fun r s' q => by
    cases r with
    | error e => exact q
    | ok f =>
      cases f <;> first | exact q.elim | skip
      obtain ⟨x, D', σ', dx, hx, R', τ, hs, q⟩ := q
      exact ⟨x, D', τ, dx, hx, R'.drop hs, q⟩
theorem AT_DictN {p : Pos} (q : ∀ a o, Fresh σ a → Q (.ref a) ((a, o, .dict []) :: σ)) : AT C env vars gl own d (eval (.Dict [] [] p) env) m σ Q := fun A G D s hA R => by
  refine wpAny_Dict_empty ⟨.ref _, D, _, DX.refl _ _, .ref _, R.back (R.lifted.newM (dctO #[] 0) (.dict []) ⟨#[], 0, rfl, .nil⟩ rfl (fun _ _ => rfl)) (DX.refl _ _), q _ _ R.toRelC.fresh⟩
theorem AT_ListN {es : List Expr} {p : Pos} (h : AL C env vars gl own d (spliced (backTo p (starEach es env))) m σ fun Xs σ₁ => Xs.length ≤ sizeLine ∧ ∀ a o, Fresh σ₁ a → Q (.ref a) ((a, o, .list Xs) :: σ₁)) :
    AT C env vars gl own d (eval (.List es p) env) m σ Q := fun A G D s hA R =>
  wpAny_List (h.run hA R fun vs s₁ Xs D₁ σ₁ a b c hpp => by obtain ⟨hl, q⟩ := hpp; exact ⟨by rw [b.length]; exact hl, ⟨.ref _, D₁, _, a, .ref _, c.newL b, q _ _ c.toRelC.fresh⟩⟩)
noncomputable def NLf (P : V → Sto → Prop) (Xs : List V) (σ : Sto) : Prop := P (.lst Xs) σ ∨ ∀ a o, Fresh σ a → P (.ref a) ((a, o, .list Xs) :: σ)
theorem new_none (h : Heap) : h.get? h.objs.size = none := by
  cases e : h.get? h.objs.size with
  | none => rfl
  | some o => exact absurd (Heap.lt_size e) (Nat.lt_irrefl _)
theorem RelC.madeL (R : RelC C G D σ s) {h' : Heap} {t : Nat} {a : Addr} {vs : Array Value} {n : Nat} {Xs : List V} (hk : ∀ b o, s.heap.get? b = some o → h'.get? b = some o) (ha : s.heap.get? a = none) (ho : h'.get? a = some (lstO vs n)) (h : VRs C.w D vs.toList Xs) (q : NLf Q Xs σ) :
    PostC C G D Q (.ref a) { s with heap := h', toks := t } := by
  have R' := R.keep t hk
  have hG : G a = none := by
    cases e : G a with
    | none => rfl
    | some o => rw [R.g _ _ e] at ha; cases ha
  have hD : D a = none := by
    cases e : D a with
    | none => rfl
    | some o => rw [R.d _ _ e] at ha; cases ha
  have hf : a ∉ foot σ := fun hf => by obtain ⟨o, e⟩ := R.footLives hf; rw [e] at ha; cases ha
  have R2 := R'.addL hG hD hf ho h
  rcases q with q | q
  · obtain ⟨R3, dx, hv⟩ := R2.freezeL (u := []) (v := σ) rfl
    exact ⟨.lst Xs, _, σ, dx, hv, R3, q⟩
  · exact ⟨.ref a, D, _, DX.refl _ _, .ref a, R2, q _ _ fun p hp e => hf (e ▸ mem_footS hp)⟩
end
end Mine

set_option autoImplicit false
set_option linter.unusedVariables false
set_option linter.unusedSectionVars false
namespace Mine
open PySem
theorem FR.put {w : World} {D : Gh} {name : Str} {v : Value} {X : V} {t : Tok} (hv : VR w D v X) : ∀ {es : List DictEntry} {fs : List (Str × V)}, FR w D es fs → fs.lookup name = none →
    FR w D (W.putL name (hashStr w name) (.str name t) v es) (fs ++ [(name, X)])
  | [], [], _, _ => ⟨⟨t, rfl⟩, rfl, hv, trivial⟩
  | e :: es, (n, x) :: fs, ⟨⟨t', hk⟩, hh, hx, hr⟩, hl => by
    have hne : (name == n) = false := by
      cases q : name == n with
      | false => rfl
      | true => rw [List.lookup_cons, q] at hl; cases hl
    have e1 : (e.key.isStr name) = false := by rw [hk]; simp [Value.isStr]; intro h; rw [h] at hne; simp at hne
    unfold W.putL
    rw [e1]
    exact ⟨⟨t', hk⟩, hh, hx, FR.put hv hr (by rw [List.lookup_cons, hne] at hl; exact hl)⟩
  | [], _ :: _, h, _ => h.elim
  | _ :: _, [], h, _ => h.elim
theorem FR.len {w : World} {D : Gh} : ∀ {es : List DictEntry} {fs : List (Str × V)}, FR w D es fs → es.length = fs.length
  | [], [], _ => rfl
  | _ :: es, _ :: fs, ⟨_, _, _, h⟩ => by simp [FR.len h]
  | [], _ :: _, h => h.elim
  | _ :: _, [], h => h.elim
section
variable {C : Cx} {env : Env} {vars : List Str} {gl : List (Str × V)} {own : Bool} {d : Nat} {m m' : Loc} {σ : Sto} {σ' : Obj → Sto} {P : V → Sto → Prop} {QS : Fl → Loc → Sto → Prop} {G D : Gh} {s : Shared}
structure StoreAt (C : Cx) (K : W.Frag) (c : Addr) (name : Str) : Prop where
  kin : K.In C.base
  sa : W.findIn K (.ref c) "__setattr__" = some (some (.builtin "object.__setattr__"))
  po : W.plainOver K c = true
  ta : W.takerIn K c name = some none
  hd : (W.clsIn K c).any (·.hasDict) = true
theorem setAttr_new {K : W.Frag} {c x dx : Addr} {ob : Obj} {fs : List (Str × V)} {name : Str} {X : V} {v : Value} {A : Around} {Z : Unit → Shared → Prop} {E : Value → Shared → Prop} (hM : StoreAt C K c name)
    (U : ∀ o', Upd x ob (.inst c dx fs) o' (.inst c dx (fs ++ [(name, X)])) σ (σ' o')) (hn : fs.lookup name = none) (hz : fs.length ≤ 100) (R : RelC C G D σ s) (hv : VR C.w D v X)
    (q : ∀ o' s', RelC C G D (σ' o') s' → Z () s') : wpAny C.M A (setAttr (.ref x) name v) Z E s := by
  have hm : (x, ob, AO.inst c dx fs) ∈ σ := (U ob).mem
  have X0 := hM.kin.keeps R.baseIn
  have I := inst_at R hm
  obtain ⟨hx, hdx⟩ : s.heap.get? x = some (instO c dx) ∧ s.heap.get? dx = some ob := R.pl _ hm
  obtain ⟨es, n, rfl, hr⟩ : ∃ es n, ob = dctO es n ∧ FR C.w D es.toList fs := R.sto _ hm
  obtain ⟨cd, hc, hd'⟩ := W.any_some hM.hd
  refine W.set_plain X0 I hM.sa (W.osa_open (s := { s with toks := s.toks + 1 }) X0 I hM.po hM.ta fun b => ?_)
  refine wpAny_bind (wpAny_pure (wpAny_bind (wpAny_bind (wpAny_loadPart hx (wpAny_bind (W.Looks.here (s := { s with toks := s.toks + 1 }) (W.looks_clsIn X0 hc) ?_))))))
  rw [hd']
  refine wpAny_pure (a := some dx) (wpAny_bind (wpAny_pure (wpAny_bind ?_)))
  unfold nsSet
  refine wpAny_bind (wpAny_bind (wpAny_askSetting (wpAny_pure (wpAny_bind (wpAny_mkText (wpAny_bind (wpAny_loadPart hdx ?_)))))))
  dsimp only
  have hL := FR.look (name := name) hr
  have c1 : (!es.any (·.key.isStr name) && es.any (·.refKey)) = false := by
    rw [← Array.any_toList, ← Array.any_toList, hL.1, Bool.and_false]
  rw [aRefKeyMayBeTheName_at, c1]
  refine wpAny_updatePart hdx ?_
  have ef : Obj.putName name (PyData.keyHash C.w.params name) (.str name (s.toks + 1)) v (dctO es n) = W.dictOf (W.putL name (hashStr C.w name) (.str name (s.toks + 1)) v es.toList) (W.putN name es.toList n) := by
    have := W.putName_dict name (PyData.keyHash C.w.params name) (.str name (s.toks + 1)) v es.toList n
    have e0 : W.dictOf es.toList n = dctO es n := by show ({ cls := _, data := .dict es.toList.toArray n } : Obj) = _; rw [Array.toArray_toList]
    rw [e0] at this
    exact this
  have hr' := FR.put (t := s.toks + 1) hv hr hn
  have hself := Heap.get?_update_self (Obj.putName name (PyData.keyHash C.w.params name) (.str name (s.toks + 1)) v) hdx (by rw [ef]; rfl)
  rw [ef] at hself
  have hne : x ≠ dx := by
    obtain ⟨u, w, e, _⟩ := (U (dctO es n)).split
    have nd := R.nd
    rw [e, foot_append] at nd
    have : ([x, dx] ++ foot w).Nodup := (List.nodup_append.mp nd).2.1
    intro h; subst h
    simp at this
  refine wpAny_bind (wpAny_lookBehind hself (by
    refine pastItsLine_dict ?_
    rw [List.size_toArray, hr'.len, sizeLine_eq]; simp; lia) ?_)
  refine wpAny_pure (q _ _ (R.upd (U _) (s.toks + 2) (b := dx) (by simp [footO]) (Heap.SameBut.update ..) rfl ⟨?_, hself⟩ ⟨_, _, rfl, by simpa using hr'⟩))
  rw [Heap.get?_update_ne _ _ _ _ hne]; exact hx
theorem S_SetAttr {K : W.Frag} {c : Addr} {o value : Expr} {name : Str} {p' p : Pos} (hM : StoreAt C K c name)
    (h : AT C env vars gl own d (eval value env) m σ fun X σ₁ => AT C env vars gl own d (eval o env) m σ₁ fun Y σ₂ => ∃ x dx fs, Y = .ref x ∧ At σ₂ x (.inst c dx fs) ∧ fs.lookup name = none ∧ fs.length ≤ 100 ∧ ∀ σ', UpdS σ₂ σ' x (.inst c dx (fs ++ [(name, X)])) → QS .next m σ')
    (hs : swapsWith value (some (.Attribute o name p')) p.line env = pure false := by with_unfolding_all exact rfl) : AS C env vars gl own d (exec (.Assign [.Attribute o name p'] value p) env) m σ QS := fun A G D s hA R =>
  plainObj_wpAny_Assign_Attribute (h.run hA R fun v s₁ X D₁ σ₁ a b c₁ e => e.run hA c₁ fun u s₂ Y D₂ σ₂ a' b' c₂ hpp => by
    obtain ⟨x, dx, fs, hY, hat, hn, hz, q⟩ := hpp
    subst hY; cases b'
    obtain ⟨ob, σ', U, US⟩ := hat.upd (.inst c dx (fs ++ [(name, X)]))
    exact setAttr_new hM U hn hz c₂.lifted (b.mono a'.sub) fun o' s' R' => ⟨.next, m, D₂, _, a.trans a', trivial, c₂.back R' (DX.refl _ _), q _ (US o')⟩) hs
structure ClassAt (C : Cx) (K : W.Frag) (c f : Addr) : Prop where
  kin : K.In C.base
  mks : W.makesIn K c = true
  ini : W.findIn K (.ref c) "__init__" = some (some (.ref f))
  ty : W.typeIn K (.ref f) = some (.type "function")
  kp : W.keepIn K (.ref c) = true
theorem AOk.underC {A : Around} {d : Nat} {c : Addr} {rest : List Value} (h : AOk A (d + 1)) : AOk (A.under (.builtin "type.__call__" ⟨.ref c :: rest, []⟩)) d := by
  have e1 : (Code.builtin "type.__call__" ⟨.ref c :: rest, []⟩).weight = 1 := rfl
  have e2 : (Code.builtin "type.__call__" ⟨.ref c :: rest, []⟩).cUnits = 1 := rfl
  refine ⟨h.h, ?_, ?_⟩
  · have := h.depth
    show A.depth + (Code.builtin "type.__call__" ⟨.ref c :: rest, []⟩).weight + d < 1000
    rw [e1]; lia
  · have := h.units
    show A.units + (Code.builtin "type.__call__" ⟨.ref c :: rest, []⟩).cUnits + 8 * d < 9000
    rw [e2]; lia
theorem RelC.newI (R : RelC C G D σ s) (c : Addr) : RelC C G D ((s.heap.objs.size + 1, W.emptyDict, .inst c s.heap.objs.size []) :: σ) { s with heap := (s.heap.push W.emptyDict).push (W.instObj c s.heap.objs.size) } := by
  have R' := (R.push W.emptyDict).push (W.instObj c s.heap.objs.size)
  have hsz : (s.heap.push W.emptyDict).objs.size = s.heap.objs.size + 1 := PyProof.Rows.size_push' _ _
  have hx : ((s.heap.push W.emptyDict).push (W.instObj c s.heap.objs.size)).get? (s.heap.objs.size + 1) = some (W.instObj c s.heap.objs.size) := by rw [← hsz]; exact Heap.get?_push_size _ rfl
  have hdx : ((s.heap.push W.emptyDict).push (W.instObj c s.heap.objs.size)).get? s.heap.objs.size = some W.emptyDict := Heap.get?_push_of_some _ (Heap.get?_push_size _ rfl)
  have lt : ∀ b o, s.heap.get? b = some o → b ≠ s.heap.objs.size ∧ b ≠ s.heap.objs.size + 1 := fun b o e => by
    have := Heap.lt_size e
    exact ⟨Nat.ne_of_lt this, Nat.ne_of_lt (Nat.lt_succ_of_lt this)⟩
  have nG : ∀ b, (b = s.heap.objs.size + 1 ∨ b = s.heap.objs.size) → G b = none ∧ D b = none ∧ b ∉ foot σ := fun b hb => ⟨by
      cases e : G b with
      | none => rfl
      | some o => exact (hb.elim (lt b o (R.g _ _ e)).2 (lt b o (R.g _ _ e)).1).elim, by
      cases e : D b with
      | none => rfl
      | some o => exact (hb.elim (lt b o (R.d _ _ e)).2 (lt b o (R.d _ _ e)).1).elim, fun hf => by
      obtain ⟨o, e⟩ := R.footLives hf
      exact hb.elim (lt b o e).2 (lt b o e).1⟩
  refine ⟨R'.same, R'.g, R'.d, R'.base, ?_, fun a ha => ?_, fun a ha => ?_, fun p hp => ?_, fun p hp => ?_⟩
  · show ([s.heap.objs.size + 1, s.heap.objs.size] ++ foot σ).Nodup
    refine List.nodup_cons.mpr ⟨fun hm => ?_, List.nodup_cons.mpr ⟨(nG _ (.inr rfl)).2.2, R.nd⟩⟩
    rcases List.mem_cons.mp hm with e | e
    · lia
    · exact (nG _ (.inl rfl)).2.2 e
  · have : a ∈ [s.heap.objs.size + 1, s.heap.objs.size] ++ foot σ := ha
    rcases List.mem_append.mp this with h | h
    · exact (nG a (by simpa using h)).1
    · exact R.offG a h
  · have : a ∈ [s.heap.objs.size + 1, s.heap.objs.size] ++ foot σ := ha
    rcases List.mem_append.mp this with h | h
    · exact (nG a (by simpa using h)).2.1
    · exact R.offD a h
  · rcases List.mem_cons.mp hp with rfl | h
    · exact ⟨hx, hdx⟩
    · exact R'.pl p h
  · rcases List.mem_cons.mp hp with rfl | h
    · exact ⟨#[], 0, rfl, trivial⟩
    · exact R'.sto p h
theorem CW_new {K : W.Frag} {c f : Addr} {xs : List V} (hM : ClassAt C K c f)
    (h : ∀ x dx o, Fresh σ x → CW C d (.ref f) (.ref x :: xs) ((x, o, .inst c dx []) :: σ) fun r σ' => r = .none ∧ P (.ref x) σ') : CW C (d + 1) (.ref c) xs σ P := fun A G D s vs hA R hv => by
  have X0 := hM.kin.keeps R.baseIn
  obtain ⟨hh, g, dr, t, os⟩ := s
  refine W.make_core (W.makes_of X0 hM.mks) (W.looks_findIn X0 hM.ini) (fun self => W.bind_fn X0 self hM.ty) (.inl rfl) ?_
  have hfr : Fresh σ (hh.objs.size + 1) := fun p hp e => by
    have := R.footLt (mem_footS hp)
    rw [e] at this
    exact absurd this (Nat.not_lt.mpr (Nat.le_succ _))
  have R2 := R.newI c
  refine codeAny_mono (h (hh.objs.size + 1) hh.objs.size W.emptyDict hfr _ G D _ (.ref (hh.objs.size + 1) :: vs) hA.underC R2 (.cons (.ref _) hv)) fun r s' q => ?_
  cases r with
  | error e => exact q.elim
  | ok fl =>
    cases fl <;> first | exact q.elim | skip
    obtain ⟨x, D', σ', dx, hx, R', rfl, q⟩ := q
    cases hx
    exact ⟨rfl, ⟨_, D', σ', dx, .ref _, R', q⟩⟩
theorem AT_CallC0 {K : W.Frag} {c f : Addr} {x : Str} {np p : Pos} (hM : ClassAt C K c f) (h : AT C env vars gl own d (eval (.Name x np) env) m σ fun F σ₁ => F = .ref c ∧ CW C d (.ref c) [] σ₁ P) :
    AT C env vars gl own d (eval (.Call (.Name x np) [] [] p) env) m σ P := fun A G D s hA R =>
  wpAny_Call_ofName (h.run hA R fun v s₁ F D₁ σ₁ a b c₁ hpp => by
    obtain ⟨hF, hk⟩ := hpp
    subst hF; (first | obtain rfl := VR.biI b | obtain rfl := VR.typeI b | obtain rfl := VR.refI b | obtain ⟨_, rfl⟩ := VR.intI b | obtain ⟨_, rfl⟩ := VR.strI b | obtain rfl := VR.boolI b | obtain rfl := VR.noneI b | obtain rfl := VRs.nilI b | cases b)
    exact W.callWith_K0 (hM.kin.keeps c₁.toRelC.baseIn) hM.kp (wp_weak a ((KW_of_CW hk).inF hA c₁ (.ref c) .nil)))
end
end Mine

set_option autoImplicit false
set_option linter.unusedVariables false
set_option linter.unusedSectionVars false
namespace Mine
open PySem
open PyProof.Rows (IntsAre StrsAre sortedS)

noncomputable def sortI (l : List Int) : List Int := l.mergeSort fun a b => decide (a ≤ b)
noncomputable def leS (a b : Str) : Bool := !decide (b.cps.toList < a.cps.toList)
noncomputable def sortS (l : List Str) : List Str := l.mergeSort leS
theorem sortI_perm (l : List Int) : (sortI l).Perm l := List.mergeSort_perm _ _
theorem sortS_perm (l : List Str) : (sortS l).Perm l := List.mergeSort_perm _ _
theorem sortI_pw (l : List Int) : (sortI l).Pairwise (· ≤ ·) := by
  have := List.pairwise_mergeSort (le := fun a b : Int => decide (a ≤ b)) (by intro a b c; simp; lia) (by intro a b; simp; lia) l
  exact this.imp fun h => by simpa using h
theorem sortI_eq {a b : List Int} (p : a.Perm b) (h : a.Pairwise (· ≤ ·)) : a = sortI b :=
  (p.trans (sortI_perm b).symm).eq_of_pairwise (fun x y _ _ h1 h2 => Int.le_antisymm h1 h2) h (sortI_pw b)
theorem leS_trans {a b c : Str} (h1 : leS a b = true) (h2 : leS b c = true) : leS a c = true := by
  simp only [leS, Bool.not_eq_true', decide_eq_false_iff_not] at *
  exact List.le_trans h1 h2
theorem leS_total (a b : Str) : (leS a b || leS b a) = true := by
  simp only [leS, Bool.or_eq_true, Bool.not_eq_true', decide_eq_false_iff_not]
  exact List.le_total a.cps.toList b.cps.toList
theorem leS_anti {a b : Str} (h1 : leS a b = true) (h2 : leS b a = true) : a = b := by
  simp only [leS, Bool.not_eq_true', decide_eq_false_iff_not] at *
  have : a.cps.toList = b.cps.toList := List.le_antisymm h1 h2
  cases a; (first | obtain rfl := VR.biI b | obtain rfl := VR.typeI b | obtain rfl := VR.refI b | obtain ⟨_, rfl⟩ := VR.intI b | obtain ⟨_, rfl⟩ := VR.strI b | obtain rfl := VR.boolI b | obtain rfl := VR.noneI b | obtain rfl := VRs.nilI b | cases b); simp at this; simpa using this
theorem sortS_pw (l : List Str) : (sortS l).Pairwise (fun a b => leS a b = true) := List.pairwise_mergeSort (le := leS) (fun _ _ _ => leS_trans) leS_total l
theorem risingS_pw : ∀ (p : Str) (l : List Str), PyProof.Rows.risingS p l = true → (p :: l).Pairwise (fun a b => leS a b = true)
  | p, [], _ => List.pairwise_singleton _ _
  | p, x :: r, h => by
    have h' : (!PySem.Spec.ltCps x.cps.toList p.cps.toList && PyProof.Rows.risingS x r) = true := h
    simp only [Bool.and_eq_true, PyProof.Rows.ltCps_eq] at h'
    have ih := risingS_pw x r h'.2
    refine List.pairwise_cons.mpr ⟨fun y hy => ?_, ih⟩
    rcases List.mem_cons.mp hy with rfl | hy
    · exact h'.1
    · exact leS_trans h'.1 ((List.pairwise_cons.mp ih).1 y hy)
theorem sortedS_pw : ∀ (l : List Str), sortedS l = true → l.Pairwise (fun a b => leS a b = true)
  | [], _ => .nil
  | x :: r, h => risingS_pw x r h
theorem sortS_eq' {a b : List Str} (p : a.Perm b) (h : a.Pairwise (fun a b => leS a b = true)) : a = sortS b :=
  (p.trans (sortS_perm b).symm).eq_of_pairwise (fun x y _ _ h1 h2 => leS_anti h1 h2) h (sortS_pw b)
theorem sortS_perm_eq {a b : List Str} (p : a.Perm b) : sortS a = sortS b := sortS_eq' ((sortS_perm a).trans p) (sortS_pw a)
theorem VRs.ofInts {w : World} {D : Gh} {vs : List Value} {ns : List Int} (h : IntsAre vs ns) : VRs w D vs (ns.map V.int) := by
  induction h with
  | nil => exact .nil
  | cons n t _ ih => exact .cons (.int _ _) ih
theorem VRs.ofStrs {w : World} {D : Gh} {vs : List Value} {ns : List Str} (h : StrsAre vs ns) : VRs w D vs (ns.map V.str) := by
  induction h with
  | nil => exact .nil
  | cons n t _ ih => exact .cons (.str _ _) ih
theorem VRs.ints {w : World} {D : Gh} {vs : List Value} {ns : List Int} (h : VRs w D vs (ns.map V.int)) : IntsAre vs ns := by
  induction ns generalizing vs with
  | nil => rw [VRs.nilI h]; exact .nil
  | cons n ns ih =>
    obtain ⟨_, _, rfl, h1, h2⟩ := VRs.consI h
    obtain ⟨t, rfl⟩ := VR.intI h1
    exact .cons _ _ (ih h2)
theorem VRs.strs {w : World} {D : Gh} {vs : List Value} {ns : List Str} (h : VRs w D vs (ns.map V.str)) : StrsAre vs ns := by
  induction ns generalizing vs with
  | nil => rw [VRs.nilI h]; exact .nil
  | cons n ns ih =>
    obtain ⟨_, _, rfl, h1, h2⟩ := VRs.consI h
    obtain ⟨t, rfl⟩ := VR.strI h1
    exact .cons _ _ (ih h2)
section
variable {C : Cx} {env : Env} {vars : List Str} {gl : List (Str × V)} {own : Bool} {d : Nat} {m m' : Loc} {σ : Sto} {Q : V → Sto → Prop} {QS : Fl → Loc → Sto → Prop} {G D : Gh} {s : Shared} {A : Around} {K : Type} [DecidableEq K]
theorem keysVR (kk : KK C.prog C.w K) : ∀ {l : List Value} {cvs : List (K × Value)}, l.length = cvs.length → (∀ (j : Nat) v, l[j]? = some v → ∃ k x, cvs[j]? = some (k, x) ∧ kk.knd.is k v = true) → VRs C.w D l (cvs.map fun p => kk.v p.1)
  | [], [], _, _ => .nil
  | v :: l, p :: cvs, hl, h => by
    obtain ⟨k, x, e, hk⟩ := h 0 v rfl
    simp at e; subst e
    exact .cons (kk.ofIs hk) (keysVR kk (by simpa using hl) fun j u hu => by simpa using h (j + 1) u (by simpa using hu))
  | [], _ :: _, h, _ => by simp at h
  | _ :: _, [], h, _ => by simp at h
theorem K_listD (kk : KK C.prog C.w K) {a : Addr} {kvs : List (K × V)} (hs : NoSys C) (hm : At σ a (.dict (ents kk kvs))) (hn : (kvs.map (·.1)).Nodup) (hl : kvs.length ≤ sizeLine) (q : NLf Q (kvs.map fun p => kk.v p.1) σ) :
    KW C d (.type "list") [.ref a] σ Q := fun A G D s v vs hA R hv hss => by
  (first | obtain rfl := VR.biI hv | obtain rfl := VR.typeI hv | obtain rfl := VR.refI hv | obtain ⟨_, rfl⟩ := VR.intI hv | obtain ⟨_, rfl⟩ := VR.strI hv | obtain rfl := VR.boolI hv | obtain rfl := VR.noneI hv | obtain rfl := VRs.nilI hv | cases hv)
  obtain ⟨o, hm⟩ := hm
  obtain ⟨_, _, rfl, h1, h2⟩ := VRs.consI hss
  · skip
    (first | obtain rfl := VR.biI h2 | obtain rfl := VR.typeI h2 | obtain rfl := VR.refI h2 | obtain ⟨_, rfl⟩ := VR.intI h2 | obtain ⟨_, rfl⟩ := VR.strI h2 | obtain rfl := VR.boolI h2 | obtain rfl := VR.noneI h2 | obtain rfl := VRs.nilI h2 | cases h2); (first | obtain rfl := VR.biI h1 | obtain rfl := VR.typeI h1 | obtain rfl := VR.refI h1 | obtain ⟨_, rfl⟩ := VR.intI h1 | obtain ⟨_, rfl⟩ := VR.strI h1 | obtain rfl := VR.boolI h1 | obtain rfl := VR.noneI h1 | obtain rfl := VRs.nilI h1 | cases h1)
    obtain ⟨b, cvs, e, hD, hk⟩ := (Has.refD hm).isD kk hn R (.ref a)
    cases e
    obtain ⟨ep, hat⟩ := hD.dictAt
    refine W.kdl_call (W.kdl_dict (knd := kk.knd) (kvs := cvs) (ep := ep) (R.notSys hs hm)) hA.h hat (by rw [hk.length]; exact hl) fun h' tk acc' c' hk' hS hacc => ?_
    refine R.madeL hk' (new_none _) hS (Xs := kvs.map fun p => kk.v p.1) ?_ q
    have e1 : (kvs.map fun p => kk.v p.1) = cvs.map fun p => kk.v p.1 := by
      have := hk.keys
      have e2 := congrArg (List.map kk.v) this
      simpa [List.map_map, Function.comp_def] using e2.symm
    rw [e1]
    exact keysVR kk (by rw [Array.length_toList]; exact hacc.1) fun j v e => hacc.2 j v (by rw [← Array.getElem?_toList]; exact e)
theorem K_listL {x : V} {xs : List V} {P : Sto → Prop} (h : Has σ x (.list xs) P) (hl : xs.length ≤ sizeLine) (q : NLf Q xs σ) : KW C d (.type "list") [x] σ Q := fun A G D s v vs hA R hv hss => by
  (first | obtain rfl := VR.biI hv | obtain rfl := VR.typeI hv | obtain rfl := VR.refI hv | obtain ⟨_, rfl⟩ := VR.intI hv | obtain ⟨_, rfl⟩ := VR.strI hv | obtain rfl := VR.boolI hv | obtain rfl := VR.noneI hv | obtain rfl := VRs.nilI hv | cases hv)
  obtain ⟨_, _, rfl, h1, h2⟩ := VRs.consI hss
  · skip
    (first | obtain rfl := VR.biI h2 | obtain rfl := VR.typeI h2 | obtain rfl := VR.refI h2 | obtain ⟨_, rfl⟩ := VR.intI h2 | obtain ⟨_, rfl⟩ := VR.strI h2 | obtain rfl := VR.boolI h2 | obtain rfl := VR.noneI h2 | obtain rfl := VRs.nilI h2 | cases h2)
    obtain ⟨a, ws, n, rfl, ho, hr⟩ := h.isList R h1
    refine call_list_seq a (T := "list") (.inl rfl) ho rfl rfl (fun h' c' hk hS => ?_) (by rw [show ws.size = xs.length by rw [← hr.length]; simp]; exact hl)
    have := R.madeL (t := s.toks) hk (new_none _) hS hr q
    exact this
theorem sortedHeap_keeps {h : Heap} {a b : Addr} {vs : List Value} {out : Array Value} {o : Obj} (hb : b ≠ a) (e : h.get? b = some o) : (PyProof.Rows.sortedHeap h a vs out).get? b = some o := by
  rw [PyProof.Rows.sortedHeap_old hb (Heap.lt_size e)]; exact e
theorem sorted_end (R : RelC C G D σ s) {h' : Heap} {t : Nat} {vs : List Value} {out : Array Value} {Xs : List V} (hk : ∀ b o, s.heap.get? b = some o → h'.get? b = some o) (h : VRs C.w D out.toList Xs) (q : NLf Q Xs σ) :
    PostC C G D Q (.ref h'.objs.size) { s with heap := PyProof.Rows.sortedHeap (h'.push (PyProof.Rows.seqObj "list" vs.toArray 0)) h'.objs.size vs out, toks := t } := by
  obtain ⟨e, he⟩ := PyProof.Rows.sortedHeap_at (h := h'.push (PyProof.Rows.seqObj "list" vs.toArray 0)) (a := h'.objs.size) (vs := vs) (n := 0) (out := out) (Heap.get?_push_size _ rfl)
  refine R.madeL (fun b o eb => ?_) ?_ he h q
  rotate_left
  · cases e0 : s.heap.get? h'.objs.size with
    | none => rfl
    | some o => exact absurd (Heap.lt_size (hk _ _ e0)) (Nat.lt_irrefl _)
  have hb := hk b o eb
  exact sortedHeap_keeps (Nat.ne_of_lt (Heap.lt_size hb)) (Heap.get?_push_of_some _ hb)
theorem K_sortedDI {a : Addr} {kvs : List (Int × V)} (hs : NoSys C) (hm : At σ a (.dict (ents (KK.int C.prog C.w) kvs))) (hn : (kvs.map (·.1)).Nodup) (hl : kvs.length < 64) (q : NLf Q ((sortI (kvs.map (·.1))).map V.int) σ) :
    KW C d (.bi "sorted") [.ref a] σ Q := fun A G D s v vs hA R hv hss => by
  (first | obtain rfl := VR.biI hv | obtain rfl := VR.typeI hv | obtain rfl := VR.refI hv | obtain ⟨_, rfl⟩ := VR.intI hv | obtain ⟨_, rfl⟩ := VR.strI hv | obtain rfl := VR.boolI hv | obtain rfl := VR.noneI hv | obtain rfl := VRs.nilI hv | cases hv)
  obtain ⟨o, hm⟩ := hm
  obtain ⟨_, _, rfl, h1, h2⟩ := VRs.consI hss
  · skip
    (first | obtain rfl := VR.biI h2 | obtain rfl := VR.typeI h2 | obtain rfl := VR.refI h2 | obtain ⟨_, rfl⟩ := VR.intI h2 | obtain ⟨_, rfl⟩ := VR.strI h2 | obtain rfl := VR.boolI h2 | obtain rfl := VR.noneI h2 | obtain rfl := VRs.nilI h2 | cases h2); (first | obtain rfl := VR.biI h1 | obtain rfl := VR.typeI h1 | obtain rfl := VR.refI h1 | obtain ⟨_, rfl⟩ := VR.intI h1 | obtain ⟨_, rfl⟩ := VR.strI h1 | obtain rfl := VR.boolI h1 | obtain rfl := VR.noneI h1 | obtain rfl := VRs.nilI h1 | cases h1)
    obtain ⟨b, cvs, e, hD, hk⟩ := (Has.refD hm).isD (KK.int C.prog C.w) hn R (.ref a)
    cases e
    obtain ⟨ep, hat⟩ := hD.dictAt
    refine Calls.call_function_entry PyProof.Rows.kind_sorted PyProof.Rows.plain_sorted PyProof.Rows.entry_sorted (PyProof.Rows.args_sorted1 _) ?_
    unfold Builtin.«sorted»
    refine wpAny_bind (m := checkCount "sorted" 1 1 _) (wpAny_pure ?_)
    refine wpAny_bind (W.kdu_collect (A := A.in1) (W.kdl_dict (knd := intKind C.prog C.w) (kvs := cvs) (ep := ep) (R.notSys hs hm)) hA.h hat (by rw [hk.length]; exact Nat.le_of_lt (Nat.lt_of_lt_of_le hl (by decide))) fun h' tk acc hk' hacc => ?_)
    have hlen : acc.toList.length = cvs.length := by rw [Array.length_toList]; exact hacc.1
    refine wpAny_bind (wpAny_newList ?_ (by rw [hlen, hk.length]; exact Nat.le_of_lt (Nat.lt_of_lt_of_le hl (by decide))))
    have hI : IntsAre acc.toList (kvs.map (·.1)) := by
      have := keysVR (D := D) (KK.int C.prog C.w) hlen fun j v e => hacc.2 j v (by rw [← Array.getElem?_toList]; exact e)
      have e1 : (cvs.map fun p => (KK.int C.prog C.w).v p.1) = (kvs.map (·.1)).map V.int := by rw [← hk.keys, List.map_map]; rfl
      rw [e1] at this; exact this.ints
    have hoL : (h'.push (PyProof.Rows.seqObj "list" acc.toList.toArray 0)).get? h'.objs.size = some (PyProof.Rows.seqObj "list" acc.toList.toArray 0) := Heap.get?_push_size _ rfl
    refine wpAny_bind (wpAny_holding (wpAny_call_entry PyProof.Rows.slot_list_sort ⟨_, hoL, rfl⟩ PyProof.Rows.entry_list_sort (PyProof.Rows.list_sort_tree hoL hI (by rw [hlen, hk.length]; exact hl) fun out ns' a1 a2 a3 => ⟨_, rfl, ?_⟩) (PyProof.Rows.args_list_sort _)))
    refine wpAny_pure ⟨_, rfl, ?_⟩
    refine sorted_end R hk' (VRs.ofInts a1) ?_
    rw [sortI_eq a2 a3]; exact q
theorem K_sortedDS {a : Addr} {kvs : List (Str × V)} (hs : NoSys C) (hm : At σ a (.dict (ents (KK.str C.prog C.w) kvs))) (hn : (kvs.map (·.1)).Nodup) (hl : kvs.length < 64) (q : NLf Q ((sortS (kvs.map (·.1))).map V.str) σ) :
    KW C d (.bi "sorted") [.ref a] σ Q := fun A G D s v vs hA R hv hss => by
  (first | obtain rfl := VR.biI hv | obtain rfl := VR.typeI hv | obtain rfl := VR.refI hv | obtain ⟨_, rfl⟩ := VR.intI hv | obtain ⟨_, rfl⟩ := VR.strI hv | obtain rfl := VR.boolI hv | obtain rfl := VR.noneI hv | obtain rfl := VRs.nilI hv | cases hv)
  obtain ⟨o, hm⟩ := hm
  obtain ⟨_, _, rfl, h1, h2⟩ := VRs.consI hss
  · skip
    (first | obtain rfl := VR.biI h2 | obtain rfl := VR.typeI h2 | obtain rfl := VR.refI h2 | obtain ⟨_, rfl⟩ := VR.intI h2 | obtain ⟨_, rfl⟩ := VR.strI h2 | obtain rfl := VR.boolI h2 | obtain rfl := VR.noneI h2 | obtain rfl := VRs.nilI h2 | cases h2); (first | obtain rfl := VR.biI h1 | obtain rfl := VR.typeI h1 | obtain rfl := VR.refI h1 | obtain ⟨_, rfl⟩ := VR.intI h1 | obtain ⟨_, rfl⟩ := VR.strI h1 | obtain rfl := VR.boolI h1 | obtain rfl := VR.noneI h1 | obtain rfl := VRs.nilI h1 | cases h1)
    obtain ⟨b, cvs, e, hD, hk⟩ := (Has.refD hm).isD (KK.str C.prog C.w) hn R (.ref a)
    cases e
    obtain ⟨ep, hat⟩ := hD.dictAt
    refine Calls.call_function_entry PyProof.Rows.kind_sorted PyProof.Rows.plain_sorted PyProof.Rows.entry_sorted (PyProof.Rows.args_sorted1 _) ?_
    unfold Builtin.«sorted»
    refine wpAny_bind (m := checkCount "sorted" 1 1 _) (wpAny_pure ?_)
    refine wpAny_bind (W.kdu_collect (A := A.in1) (W.kdl_dict (knd := strKind C.prog C.w) (kvs := cvs) (ep := ep) (R.notSys hs hm)) hA.h hat (by rw [hk.length]; exact Nat.le_of_lt (Nat.lt_of_lt_of_le hl (by decide))) fun h' tk acc hk' hacc => ?_)
    have hlen : acc.toList.length = cvs.length := by rw [Array.length_toList]; exact hacc.1
    refine wpAny_bind (wpAny_newList ?_ (by rw [hlen, hk.length]; exact Nat.le_of_lt (Nat.lt_of_lt_of_le hl (by decide))))
    have hI : StrsAre acc.toList (kvs.map (·.1)) := by
      have := keysVR (D := D) (KK.str C.prog C.w) hlen fun j v e => hacc.2 j v (by rw [← Array.getElem?_toList]; exact e)
      have e1 : (cvs.map fun p => (KK.str C.prog C.w).v p.1) = (kvs.map (·.1)).map V.str := by rw [← hk.keys, List.map_map]; rfl
      rw [e1] at this; exact this.strs
    have hoL : (h'.push (PyProof.Rows.seqObj "list" acc.toList.toArray 0)).get? h'.objs.size = some (PyProof.Rows.seqObj "list" acc.toList.toArray 0) := Heap.get?_push_size _ rfl
    refine wpAny_bind (wpAny_holding (wpAny_call_entry PyProof.Rows.slot_list_sort ⟨_, hoL, rfl⟩ PyProof.Rows.entry_list_sort (PyProof.Rows.list_sort_treeK PyProof.Rows.strKind_oneLt hoL hI.keysOf (fun v₁ v₂ rest e => PyProof.Rows.keyKind_strs (by rw [← e]; exact hI)) (by rw [hlen, hk.length]; exact hl) fun st' hp hst => ⟨_, rfl, ?_⟩) (PyProof.Rows.args_list_sort _)))
    refine wpAny_pure ⟨_, rfl, ?_⟩
    obtain ⟨ss', a1, a2, a3⟩ := PyProof.Rows.sorted_out_str hI hp hst
    refine sorted_end R hk' (VRs.ofStrs a1) ?_
    rw [sortS_eq' a2 (sortedS_pw _ a3)]; exact q
theorem K_sortedLS {x : V} {ns : List Str} {P : Sto → Prop} (h : Has σ x (.list (ns.map V.str)) P) (hl : ns.length < 64) (q : NLf Q ((sortS ns).map V.str) σ) : KW C d (.bi "sorted") [x] σ Q := fun A G D s v vs hA R hv hss => by
  (first | obtain rfl := VR.biI hv | obtain rfl := VR.typeI hv | obtain rfl := VR.refI hv | obtain ⟨_, rfl⟩ := VR.intI hv | obtain ⟨_, rfl⟩ := VR.strI hv | obtain rfl := VR.boolI hv | obtain rfl := VR.noneI hv | obtain rfl := VRs.nilI hv | cases hv)
  obtain ⟨_, _, rfl, h1, h2⟩ := VRs.consI hss
  · skip
    (first | obtain rfl := VR.biI h2 | obtain rfl := VR.typeI h2 | obtain rfl := VR.refI h2 | obtain ⟨_, rfl⟩ := VR.intI h2 | obtain ⟨_, rfl⟩ := VR.strI h2 | obtain rfl := VR.boolI h2 | obtain rfl := VR.noneI h2 | obtain rfl := VRs.nilI h2 | cases h2)
    obtain ⟨a, ws, rfl, hL, hr⟩ := h.isL R h1
    have hI := hr.strs
    refine PyProof.Rows.sorted_strs (vs := ws.toList) (by simpa using hL) hI (by have := hr.length; simp at this ⊢; lia) fun out ns' a1 a2 a3 => ?_
    obtain ⟨e, he⟩ := PyProof.Rows.sortedAll_at s.heap ws.toList out
    have := R.madeL (t := s.toks) (fun b o => PyProof.Rows.sortedAll_old) (by
      cases e0 : s.heap.get? (s.heap.objs.size + 1) with
      | none => rfl
      | some o => exact absurd (Heap.lt_size e0) (Nat.not_lt.mpr (Nat.le_succ _))) he (VRs.ofStrs a1) (by rw [sortS_eq' a2 (sortedS_pw _ a3)]; exact q)
    exact this
end
end Mine

set_option autoImplicit false
set_option linter.unusedVariables false
set_option linter.unusedSectionVars false
namespace Mine
open PySem
open PyProof.Rows (IntsAre StrsAre)
section
variable {C : Cx} {env : Env} {vars : List Str} {gl : List (Str × V)} {own : Bool} {d : Nat} {m m' : Loc} {σ : Sto} {Q : V → Sto → Prop} {QS : Fl → Loc → Sto → Prop} {P : Bool → Sto → Prop} {G D : Gh} {s : Shared} {A : Around} {K : Type} [DecidableEq K]
theorem RelF.drop (R : RelF C env vars gl own G D m σ s) {τ : Sto} (hs : τ.Sublist σ) : RelF C env vars gl own G D m τ s := R.back (R.lifted.drop hs) (DX.refl _ _)
theorem AT_drop {t : Sem Value} (h : AT C env vars gl own d t m σ fun x σ' => ∃ τ, τ.Sublist σ' ∧ Q x τ) : AT C env vars gl own d t m σ Q := fun A G D s hA R =>
  h.run hA R fun v s' x D' σ' a b c hpp => by obtain ⟨τ, hs, q⟩ := hpp; exact ⟨x, D', τ, a, b, c.drop hs, q⟩
theorem AOk.line0 {A : Around} {d : Nat} (h : AOk A d) : A.units < cLine := by have := h.units; show A.units < 9900; lia
theorem AT_Dict1 (kk : KK C.prog C.w K) {ke ve : Expr} {p : Pos} (h : ∀ a o, Fresh σ a → AT C env vars gl own d (eval ke env) m ((a, o, .dict []) :: σ) fun X σ₁ => AT C env vars gl own d (eval ve env) m σ₁ fun Y σ₂ =>
      ∃ k, X = kk.v k ∧ σ₂ = (a, o, .dict []) :: σ ∧ ∀ o', Q (.ref a) ((a, o', .dict (ents kk [(k, Y)])) :: σ)) :
    AT C env vars gl own d (eval (.Dict [some ke] [ve] p) env) m σ Q := fun A G D s hA R => by
  refine wpAny_Dict_pairs (knd := kk.knd) (pairs := [(eval ke env, do let x ← eval ve env; standAt p; pure x)]) rfl (by simp) (by simp) ?_
  have R₁ : RelF C env vars gl own G D m ((s.heap.objs.size, dctO #[] 0, .dict []) :: σ) { s with heap := s.heap.push (dctO #[] 0) } :=
    R.back (R.lifted.newM (dctO #[] 0) (.dict []) ⟨#[], 0, rfl, .nil⟩ rfl (fun _ _ => rfl)) (DX.refl _ _)
  refine evalPairs_cons ((h _ _ R.toRelC.fresh).run hA R₁ fun v s₁ X D₁ σ₁ a b c e => ?_)
  refine wpAny_bind (e.run hA c fun u s₂ Y D₂ σ₂ a' b' c' hpp => ?_)
  obtain ⟨k, hX, hσ, q⟩ := hpp
  refine wpAny_bind (wpAny_standAt (wpAny_pure (evalPairs_nil ?_)))
  subst hX hσ
  have ho : s₂.heap.get? s.heap.objs.size = some (dctO #[] 0) := c'.pl _ (.head _)
  refine ⟨[(k, u)], ⟨kk.isOf (b.mono a'.sub), rfl, trivial⟩, ⟨_, #[], 0, ho, ⟨rfl, rfl, rfl⟩, rfl, fun e he => by simp at he, .nil, .nil⟩, fun h' hD' hs' => ?_⟩
  have hm : merged ([] : List (K × Value)) [(k, u)] = [(k, u)] := by simp [merged, stored]
  rw [hm] at hD'
  obtain ⟨o', ho', hr'⟩ := HR.ofDict kk hD' (kvs := [(k, Y)]) (.cons b' .nil)
  exact ⟨.ref _, D₂, _, a.trans a', .ref _, c'.back (c'.lifted.upd (Upd.head (o' := o') (x' := .dict (ents kk [(k, Y)]))) _ (self_footO _ _) hs' rfl ho' hr') (DX.refl _ _), q o'⟩
theorem C_notInS {x : V} {xs : List Str} {k : Str} {P : Sto → Prop} (h : Has σ x (.list (xs.map V.str)) P) (q : Q (.bool (!(xs.any (· == k)))) σ) : AC2 C d (compareOp .NotIn) (.str k) x σ Q := fun A G D s v u hA R hv hu => by
  obtain ⟨a, ws, rfl, hL, hr⟩ := h.isL R hu
  (first | obtain rfl := VR.biI hv | obtain rfl := VR.typeI hv | obtain rfl := VR.refI hv | obtain ⟨_, rfl⟩ := VR.intI hv | obtain ⟨_, rfl⟩ := VR.strI hv | obtain rfl := VR.boolI hv | obtain rfl := VR.noneI hv | obtain rfl := VRs.nilI hv | cases hv)
  exact PyProof.Rows.notin_list_strs (vs := ws.toList) (by simpa using hL) hr.strs (PostC.now R (.bool _) q)
theorem IW.ofWalksT {elts : List Expr} {k : Nat} {pos : Pos} {I : Addr} {fp wr : List Addr} {n : Nat} {Pw : Nat → Array Value → Prop} {St : Nat → Heap → Prop} {Mid : Nat → Addr → Heap → Prop} {xs : List V} (W : WalksT C.prog C.w A I fp wr n Pw St Mid) (hn : n = xs.length)
    (hx : ∀ (i : Nat) vals X, Pw i vals → xs[i]? = some X → ∃ Xs, X = .tup Xs ∧ VRs C.w D vals.toList Xs) (hl : ∀ i h, St i h → ∀ a ∈ wr, ∃ o, h.get? a = some o)
    (hold : ∀ b ∈ fp, b ∉ wr → ∀ h : Heap, St 0 h → h.get? b = none → False) : IW C A (.Tuple elts k pos) I fp wr D xs St where
  live := hl
  sub := W.sub
  old := hold
  frame := W.frame
  item := fun i X s K hX st h => W.item i s K _ (by rw [hn]; exact (List.getElem?_eq_some_iff.mp hX).1) st fun T vals h' tk hP hT ht hM hk => h (.ref T) _ fun Q' q => by
    obtain ⟨Xs, rfl, hv⟩ := hx i vals X hP hX
    refine W.go elts k pos i T _ Q' _ hM fun h'' st' hk' => ?_
    obtain ⟨o, ho, hc, n', hd⟩ := ht
    exact q h'' tk (.inr ⟨T, o, vals.toList, n', Xs, rfl, rfl, hv, hT, hk' T o (W.apart _ _ _ hM) ho, hc, by simpa using hd⟩) st' fun b ob hb e => hk' b ob hb (hk b ob hb e)
  self := fun i s K st h => W.self i s K _ st h
  done := fun s K st h => W.done s K _ (by rw [hn]; exact st) fun h' tk hk => h h' tk hk
noncomputable def enumL (xs : List V) : List V := xs.zipIdx.map fun p => V.tup [.int p.2, p.1]
variable {QI : List V → (Sto → Prop) → Sto → Prop}
theorem AI_enum {np p : Pos} {e : Expr} {elts : List Expr} {k : Nat} {pos : Pos} (h : AT C env vars gl own d (eval (.Name "enumerate" np) env) m σ fun F σ₁ => F = .type "enumerate" ∧ AL C env vars gl own d (spliced (backTo p (starEach [e] env))) m σ₁ fun Xs σ₂ => ∃ X xs P, Xs = [X] ∧ Has σ₂ X (.list xs) P ∧ QI (enumL xs) P σ₂)
    (he : starEach [e] env = (false, eval e env) :: starEach [] env := by with_unfolding_all exact rfl) (hplain : (backTo p (starEach [] env)).any (·.1) = false := by with_unfolding_all exact rfl) :
    AI C env vars gl own d (.Call (.Name "enumerate" np) [e] [] p) (.Tuple elts k pos) m σ QI := fun A G D s hA R => by
  refine wpAny_Call_ofName (h.run hA R fun v s₁ F D₁ σ₁ a b c hpp => ?_)
  obtain ⟨hF, hk⟩ := hpp
  subst hF
  refine callee_run (F := .type "enumerate") trivial b (by rw [he]; exact hplain) ?_
  rw [he] at hk ⊢
  refine Calls.evalArgs_plain (AL.run hk hA c fun vs s₂ Xs D₂ σ₂ a' b' c' hpp => ?_)
  obtain ⟨X, xs, P, hX, hH, q⟩ := hpp
  refine ⟨c'.toRelC.baseIn, ?_⟩
  subst hX
  (first | obtain rfl := VR.biI b | obtain rfl := VR.typeI b | obtain rfl := VR.refI b | obtain ⟨_, rfl⟩ := VR.intI b | obtain ⟨_, rfl⟩ := VR.strI b | obtain rfl := VR.boolI b | obtain rfl := VR.noneI b | obtain rfl := VRs.nilI b | cases b)
  obtain ⟨_, _, rfl, h1, h2⟩ := VRs.consI b'
  · skip
    (first | obtain rfl := VR.biI h2 | obtain rfl := VR.typeI h2 | obtain rfl := VR.refI h2 | obtain ⟨_, rfl⟩ := VR.intI h2 | obtain ⟨_, rfl⟩ := VR.strI h2 | obtain rfl := VR.boolI h2 | obtain rfl := VR.noneI h2 | obtain rfl := VRs.nilI h2 | cases h2)
    obtain ⟨ax, o, rfl, ho, ⟨ws, n, rfl, hr⟩, hP, hst⟩ := hH.run c'.toRelC h1
    refine call_enumerate_1 ho fun h' hen hit hsz hkp => wpAny_pyIter_enum hen ?_
    have hlt := Heap.lt_size ho
    have hl : h'.IsList ax ws := ⟨_, hkp _ _ ho, rfl, n, rfl⟩
    have R' : RelF C env vars gl own G D₂ m σ₂ { s₂ with heap := h' } := by
      have := R.ok
      exact c'.back (c'.lifted.keep s₂.toks hkp) (DX.refl _ _)
    have offn : ∀ b, s₂.heap.objs.size ≤ b → G b = none ∧ D₂ b = none ∧ b ∉ foot σ₂ ∧ ¬ Held env vars b := fun b hb => ⟨by
        cases e : G b with
        | none => rfl
        | some o => exact absurd (Heap.lt_size (c'.g _ _ e)) (Nat.not_lt.mpr hb), by
        cases e : D₂ b with
        | none => rfl
        | some o => exact absurd (Heap.lt_size (c'.d _ _ e)) (Nat.not_lt.mpr hb), fun hf => absurd (c'.toRelC.footLt hf) (Nat.not_lt.mpr hb), fun hm => by
        obtain ⟨o, eo⟩ := c'.mineLives hm
        exact absurd (Heap.lt_size eo) (Nat.not_lt.mpr hb)⟩
    refine ⟨D₂, σ₂, enumL xs, P, a.trans a', ⟨s₂.heap.objs.size + 1, _, _, _, rfl, IW.ofWalksT (WalksT.enumerate hA.h (s₂.heap.objs.size + 1) s₂.heap.objs.size ax (Nat.succ_ne_self _) (Nat.ne_of_lt (Nat.lt_succ_of_lt hlt)) (Nat.ne_of_lt hlt) ws) (by simp [enumL]; rw [← hr.length]; simp) ?_ ?_ ?_, ⟨⟨_, hen⟩, hit, hl⟩, R', ?_, hP, ?_⟩, q⟩
    · rintro i vals X ⟨t, x, hx, rfl⟩ hX
      have h3 : ∃ Y, xs[i]? = some Y ∧ X = .tup [.int i, Y] := by
        simp only [enumL, List.getElem?_map, List.getElem?_zipIdx, Nat.zero_add] at hX
        cases e3 : xs[i]? with
        | none => rw [e3] at hX; simp at hX
        | some Y => rw [e3] at hX; simp at hX; exact ⟨Y, rfl, hX.symm⟩
      obtain ⟨Y, hY, rfl⟩ := h3
      obtain ⟨u', e', r⟩ := hr.get hY
      rw [Array.getElem?_toList, hx] at e'; cases e'
      exact ⟨_, rfl, .cons (.int _ _) (.cons r .nil)⟩
    · rintro i h ⟨⟨old, he1⟩, ⟨o1, ho1, _⟩, _⟩ b hb
      simp at hb
      rcases hb with rfl | rfl
      · exact ⟨_, he1⟩
      · exact ⟨_, ho1⟩
    · rintro b hb hbw h ⟨_, _, ⟨o1, ho1, _⟩⟩ e1
      simp at hb hbw
      rcases hb with rfl | rfl | rfl
      · exact hbw.1 rfl
      · exact hbw.2 rfl
      · rw [ho1] at e1; cases e1
    · intro b hb
      simp at hb
      rcases hb with rfl | rfl
      · exact offn _ (Nat.le_succ _)
      · exact offn _ (Nat.le_refl _)
    · intro G' D' σ' s' Rx hsb hP' b hb hbw o' e1
      simp at hb hbw
      rcases hb with rfl | rfl | rfl
      · exact absurd rfl hbw.1
      · exact absurd rfl hbw.2
      · have e2 : h'.get? b = some o' := e1
        rw [hkp _ _ ho] at e2; cases e2; exact hst G' D' σ' s' Rx hsb hP'
end
end Mine

set_option autoImplicit false
set_option linter.unusedVariables false
set_option linter.unusedSectionVars false
namespace Mine
open PySem
section
variable {C : Cx} {d : Nat} {σ : Sto} {Q : V → Sto → Prop} {K : Type} [DecidableEq K]
theorem C_niD (kk : KK C.prog C.w K) {a : Addr} {o : Obj} {kvs : List (K × V)} {k : K} (hs : NoSys C) (hm : (a, o, AO.dict (ents kk kvs)) ∈ σ) (hn : (kvs.map (·.1)).Nodup) (q : Q (.bool (!(vAt kvs k).isSome)) σ) :
    AC2 C d (compareOp .NotIn) (kk.v k) (.ref a) σ Q := fun A G D s v u hA R hv hu => by
  obtain ⟨b, cvs, e, hD, hk⟩ := (Has.refD hm).isD kk hn R hu
  (first | obtain rfl := VR.biI hu | obtain rfl := VR.typeI hu | obtain rfl := VR.refI hu | obtain ⟨_, rfl⟩ := VR.intI hu | obtain ⟨_, rfl⟩ := VR.strI hu | obtain rfl := VR.boolI hu | obtain rfl := VR.noneI hu | obtain rfl := VRs.nilI hu | cases hu); cases e
  refine wpAny_notIn_of (kk.isOf hv) (R.notSys hs hm) hD.mapOf ?_
  have : (valueAt cvs k).isSome = (vAt kvs k).isSome := by
    rcases hk.at k with ⟨e1, e2⟩ | ⟨_, _, e1, e2, _⟩ <;> rw [e1, e2] <;> rfl
  rw [this]
  exact PostC.now (R.tok _) (.bool _) q
end

noncomputable abbrev dS (kvs : List (Str × V)) : AO := .dict (kvs.map fun p => (V.str p.1, p.2))
section
variable {C : Cx} {env : Env} {vars : List Str} {gl : List (Str × V)} {own : Bool} {d : Nat} {m m' : Loc} {σ : Sto} {Q : V → Sto → Prop} {QS : Fl → Loc → Sto → Prop} {PB : Bool → Sto → Prop} {PS : Sto → Prop} {a : Addr} {kvs : List (Str × V)} {k : Str} {X : V}
theorem G_DS (h : At σ a (dS kvs)) (hn : (kvs.map (·.1)).Nodup) (hx : vAt kvs k = some X) (q : Q X σ) : SubR C d (.ref a) (V.str k) σ Q := by
  obtain ⟨o, h⟩ := h
  exact G_dict (KK.str C.prog C.w) (Has.refD h) hn hx q
theorem C_inDS (hs : NoSys C) (h : At σ a (dS kvs)) (hn : (kvs.map (·.1)).Nodup) (q : Q (.bool (vAt kvs k).isSome) σ) : AC2 C d (compareOp .In) (V.str k) (.ref a) σ Q := by
  obtain ⟨o, h⟩ := h
  exact C_inD (KK.str C.prog C.w) hs h hn q
theorem C_niDS (hs : NoSys C) (h : At σ a (dS kvs)) (hn : (kvs.map (·.1)).Nodup) (q : Q (.bool (!(vAt kvs k).isSome)) σ) : AC2 C d (compareOp .NotIn) (V.str k) (.ref a) σ Q := by
  obtain ⟨o, h⟩ := h
  exact C_niD (KK.str C.prog C.w) hs h hn q
theorem K_getDS (hs : NoSys C) (h : At σ a (dS kvs)) (hn : (kvs.map (·.1)).Nodup) (q : Q ((vAt kvs k).getD X) σ) : KW C d (.bi "dict.get") [.ref a, V.str k, X] σ Q := by
  obtain ⟨o, h⟩ := h
  exact K_get2 (KK.str C.prog C.w) hs h hn q
theorem K_setdefDS (hs : NoSys C) (h : At σ a (dS kvs)) (hn : (kvs.map (·.1)).Nodup) (hl : kvs.length ≤ sizeLine) (q1 : ∀ Y, vAt kvs k = some Y → Q Y σ) (q2 : vAt kvs k = none → ∀ σ', UpdS σ σ' a (dS (putV kvs k X)) → Q X σ') :
    KW C d (.bi "dict.setdefault") [.ref a, V.str k, X] σ Q := by
  obtain ⟨o, σ', U, US⟩ := h.upd (dS (putV kvs k X))
  exact K_setdefault (KK.str C.prog C.w) hs U hn hl q1 fun e o' => q2 e _ (US o')
theorem Set_DS (h : At σ a (dS kvs)) (hn : (kvs.map (·.1)).Nodup) (hl : kvs.length ≤ sizeLine) (q : ∀ σ', UpdS σ σ' a (dS (putV kvs k X)) → PS σ') : SetR C d (.ref a) (V.str k) X σ PS := by
  obtain ⟨o, σ', U, US⟩ := h.upd (dS (putV kvs k X))
  exact Set_dict (KK.str C.prog C.w) U hn hl fun o' => q _ (US o')
theorem K_lenDS (hs : NoSys C) (h : At σ a (dS kvs)) (hn : (kvs.map (·.1)).Nodup) (hl : kvs.length ≤ sizeLine) (q : Q (.int kvs.length) σ) : KW C d (.bi "len") [.ref a] σ Q := by
  obtain ⟨o, h⟩ := h
  exact K_lenD (KK.str C.prog C.w) hs h hn hl q
theorem K_listDS (hs : NoSys C) (h : At σ a (dS kvs)) (hn : (kvs.map (·.1)).Nodup) (hl : kvs.length ≤ sizeLine) (q : NLf Q (kvs.map fun p => V.str p.1) σ) : KW C d (.type "list") [.ref a] σ Q :=
  K_listD (KK.str C.prog C.w) hs h hn hl q
theorem K_sortDS (hs : NoSys C) (h : At σ a (dS kvs)) (hn : (kvs.map (·.1)).Nodup) (hl : kvs.length < 64) (q : NLf Q ((sortS (kvs.map (·.1))).map V.str) σ) : KW C d (.bi "sorted") [.ref a] σ Q :=
  K_sortedDS hs h hn hl q
end


noncomputable abbrev dI (kvs : List (Int × V)) : AO := .dict (kvs.map fun p => (V.int p.1, p.2))
section
variable {C : Cx} {env : Env} {vars : List Str} {gl : List (Str × V)} {own : Bool} {d : Nat} {m m' : Loc} {σ : Sto} {Q : V → Sto → Prop} {QS : Fl → Loc → Sto → Prop} {PB : Bool → Sto → Prop} {PS : Sto → Prop} {a : Addr} {kvs : List (Int × V)} {k : Int} {X : V}
theorem G_DI (h : At σ a (dI kvs)) (hn : (kvs.map (·.1)).Nodup) (hx : vAt kvs k = some X) (q : Q X σ) : SubR C d (.ref a) (V.int k) σ Q := by
  obtain ⟨o, h⟩ := h
  exact G_dict (KK.int C.prog C.w) (Has.refD h) hn hx q
theorem C_inDI (hs : NoSys C) (h : At σ a (dI kvs)) (hn : (kvs.map (·.1)).Nodup) (q : Q (.bool (vAt kvs k).isSome) σ) : AC2 C d (compareOp .In) (V.int k) (.ref a) σ Q := by
  obtain ⟨o, h⟩ := h
  exact C_inD (KK.int C.prog C.w) hs h hn q
theorem Set_DI (h : At σ a (dI kvs)) (hn : (kvs.map (·.1)).Nodup) (hl : kvs.length ≤ sizeLine) (q : ∀ σ', UpdS σ σ' a (dI (putV kvs k X)) → PS σ') : SetR C d (.ref a) (V.int k) X σ PS := by
  obtain ⟨o, σ', U, US⟩ := h.upd (dI (putV kvs k X))
  exact Set_dict (KK.int C.prog C.w) U hn hl fun o' => q _ (US o')
theorem K_lenDI (hs : NoSys C) (h : At σ a (dI kvs)) (hn : (kvs.map (·.1)).Nodup) (hl : kvs.length ≤ sizeLine) (q : Q (.int kvs.length) σ) : KW C d (.bi "len") [.ref a] σ Q := by
  obtain ⟨o, h⟩ := h
  exact K_lenD (KK.int C.prog C.w) hs h hn hl q
theorem K_sortDI (hs : NoSys C) (h : At σ a (dI kvs)) (hn : (kvs.map (·.1)).Nodup) (hl : kvs.length < 64) (q : NLf Q ((sortI (kvs.map (·.1))).map V.int) σ) : KW C d (.bi "sorted") [.ref a] σ Q :=
  K_sortedDI hs h hn hl q
end

section
variable {C : Cx} {env : Env} {vars : List Str} {gl : List (Str × V)} {own : Bool} {d : Nat} {m m' : Loc} {σ : Sto} {Q : V → Sto → Prop} {QS : Fl → Loc → Sto → Prop} {a : Addr}
theorem K_app {xs : List V} {X : V} (h : At σ a (.list xs)) (hl : xs.length ≤ sizeLine) (q : ∀ σ', UpdS σ σ' a (.list (xs ++ [X])) → Q .none σ') : KW C d (.bi "list.append") [.ref a, X] σ Q := by
  obtain ⟨o, σ', U, US⟩ := h.upd (.list (xs ++ [X]))
  exact K_append U hl fun o' => q _ (US o')
noncomputable def InstQ (c : Addr) (name : Str) (Y : V) (τ : Sto) (P : Addr → Prop) : Prop := ∃ x dx fs, Y = .ref x ∧ At τ x (.inst c dx fs) ∧ fs.lookup name = none ∧ P x
theorem instQ {c dx : Addr} {name : Str} {fs : List (Str × V)} {P : Addr → Prop} (h : At σ a (.inst c dx fs)) (hl : fs.lookup name = none) (q : P a) : InstQ c name (.ref a) σ P := ⟨a, dx, fs, rfl, h, hl, q⟩
noncomputable def AttrQ (c : Addr) (name : Str) (Y : V) (τ : Sto) (P : V → Prop) : Prop := ∃ x dx fs Z, Y = .ref x ∧ At τ x (.inst c dx fs) ∧ fs.lookup name = some Z ∧ (∀ n, Z ≠ .bi n) ∧ P Z
theorem attrQ {c dx : Addr} {name : Str} {fs : List (Str × V)} {b : Addr} {P : V → Prop} (h : At σ a (.inst c dx fs)) (hl : fs.lookup name = some (.ref b)) (q : P (.ref b)) : AttrQ c name (.ref a) σ P := ⟨a, dx, fs, _, rfl, h, hl, (fun n e => by cases e), q⟩
theorem AT_MethA {K : W.Frag} {c f : Addr} {o e : Expr} {rest : List Expr} {name : Str} {ap p : Pos} (hM : MethAt C K c name f)
    (h : AT C env vars gl own d (eval o env) m σ fun X σ₁ => InstQ c name X σ₁ fun x => AL C env vars gl own d (spliced (backTo p (starEach (e :: rest) env))) m σ₁ fun Xs σ₂ => KW C d (.ref f) (.ref x :: Xs) σ₂ Q)
    (hbase : attributeBase o name env (eval o env) = eval o env := by with_unfolding_all exact rfl) (hline : (ap.endLine == p.line) = true := by with_unfolding_all exact rfl)
    (he : starEach (e :: rest) env = (false, eval e env) :: starEach rest env := by with_unfolding_all exact rfl) (hplain : (backTo p (starEach rest env)).any (·.1) = false := by with_unfolding_all exact rfl)
    (hfew : ((backTo p (starEach (e :: rest) env)).all (fun x => !x.1) && (backToKw p (keywordEach [] env)).all (fun x => x.1.isSome) && decide ((e :: rest).length + ([] : List Keyword).length + (if ([] : List Keyword).isEmpty then 0 else 1) < 30)) = true := by with_unfolding_all exact rfl) :
    AT C env vars gl own d (eval (.Call (.Attribute o name ap) (e :: rest) [] p) env) m σ Q :=
  AT_MethI hM (h.mono fun X σ₁ hpp => by obtain ⟨x, dx, fs, hX, ⟨ob, hm⟩, hl, k⟩ := hpp; exact ⟨x, ob, dx, fs, hX, hm, hl, k⟩) hbase hline he hplain hfew
theorem AT_AttrA {K : W.Frag} {c : Addr} {o : Expr} {name : Str} {p : Pos} (hM : AttrAt C K c name)
    (h : AT C env vars gl own d (eval o env) m σ fun X σ₁ => AttrQ c name X σ₁ fun Y => Q Y σ₁)
    (hbase : attributeBase o name env (eval o env) = eval o env := by with_unfolding_all exact rfl) (ht : ∀ u r, letTemporaryGo o u r = pure () := by intro _ _; with_unfolding_all exact rfl) :
    AT C env vars gl own d (eval (.Attribute o name p) env) m σ Q :=
  AT_Attr hM (h.mono fun X σ₁ hpp => by obtain ⟨x, dx, fs, Y, hX, ⟨ob, hm⟩, hl, hb, k⟩ := hpp; exact ⟨x, ob, dx, fs, Y, hX, hm, hl, hb, k⟩) hbase ht
theorem tyD {es : List (V × V)} (h : At σ a (.dict es)) : TyR C (.ref a) σ "dict" := by
  obtain ⟨o, h⟩ := h
  exact TyR_dict (Has.refD h)
theorem tyL {xs : List V} (h : At σ a (.list xs)) : TyR C (.ref a) σ "list" := by
  obtain ⟨o, h⟩ := h
  exact TyR_list (Has.refL h)
end
end Mine

set_option autoImplicit false
set_option linter.unusedVariables false
set_option linter.unusedSectionVars false
set_option maxRecDepth 8000
namespace Mine
open PySem
theorem keys_miss : typeLookup (.type "list") "keys" = pure none := by rw [typeLookup_type, builtinLookup_eq_fast]; kernel_rfl
theorem getAttr?_miss {prog : Program} {w : World} {A : Around} {E : Value → Shared → Prop} {s : Shared} {a : Addr} {xs : Array Value} {k : Nat} {Q : Option Value → Shared → Prop}
    (hx : s.heap.get? a = some (lstO xs k)) (hA : A.handled = none)
    (h : ∀ h' tk, (∀ b o, s.heap.get? b = some o → h'.get? b = some o) → Q none { s with heap := h', toks := tk }) :
    wpAny (model prog w) A (getAttr? (.ref a) "keys") Q E s := by
  obtain ⟨hp, g, d, tk, os⟩ := s
  have hT : ∀ tk', (⟨hp, g, d, tk', os⟩ : Shared).TypeIs (.ref a) "list" := fun _ => ⟨_, hx, rfl⟩
  have f1 := sub_AttributeError
  have f3 := F.slot_list_getattribute.lookup
  have f4 := F.slot_list_getattribute.bind (.ref a)
  have f5 := am_list_getattr_none
  unfold getAttr? getAttrBy? getAttrBy
  repeat (any_goals (first | assumption | exact hT _ | ((with_reducible show wpAny _ _ (call (Value.builtin "list.__getattribute__") _ _) _ _ _); refine call_meets F.slot_list_getattribute (hT _) am_entry_list_getattribute (F.args_list_getattribute_2 _ _) (meets_getattribute_miss_list a xs k #[] "keys" _ keys_miss (by decide +kernel) (by decide +kernel)) ⟨hx, hA, fun h' tk' e hx' => ?_⟩) | wp_step))
  obtain ⟨t', u', he⟩ := hx'.there
  show wpAny _ _ (getattributeRaised _ _ _ _ _ _ _) _ _ _
  unfold getattributeRaised
  repeat (any_goals (first | assumption | wp_step))
  exact h _ _ hx'.keeps
theorem entry_update_loop : entryFor table "dict.update.loop" = some Builtin.«dict.update.loop» := entryFor_of_tree (by kernel_rfl)
theorem plain_update_loop : plainId "dict.update.loop" = true := by decide +kernel
section
variable {prog : Program} {w : World} {K : Type} [DecidableEq K] {knd : KeyKind prog w K} {A : Around} {E : Value → Shared → Prop}
noncomputable def PairAt (knd : KeyKind prog w K) (h : Heap) (v : Value) (p : K × Value) : Prop := ∃ t o key n, v = .ref t ∧ h.get? t = some o ∧ o.cls = .type "tuple" ∧ o.data = .seq #[key, p.2] n ∧ knd.is p.1 key = true
theorem update_loop {S I ax : Addr} {ws : Array Value} {R : Result → Shared → Prop} (hh : A.handled = none) (hIS : I ≠ S) (hax : ax ≠ I) (hxS : ax ≠ S) (ps : List (K × Value)) (hl : ps.length = ws.size) (hz : ps.length ≤ 1000) :
    ∀ (k i : Nat) (s : Shared) (acc : List (K × Value)), ws.size - i = k → i ≤ ws.size → s.heap.IsListIter I ax i → s.heap.IsList ax ws → s.heap.DictOf knd S acc → acc.length ≤ i →
      (∀ (j : Nat) v p, ws[j]? = some v → ps[j]? = some p → PairAt knd s.heap v p) → (∀ (j : Nat) t, ws[j]? = some (.ref t) → t ≠ I ∧ t ≠ S) →
      (∀ h' tk, h'.DictOf knd S (merged acc (ps.drop i)) → (∀ b o, b ≠ S → b ≠ I → s.heap.get? b = some o → h'.get? b = some o) → R (.ok (.ret .none)) { s with heap := h', toks := tk }) →
      codeAny (model prog w) A (.builtin "dict.update.loop" ⟨[.ref S, .ref I, rawInt i, .none], []⟩) R s := by
  intro k
  induction k with
  | zero =>
    intro i s acc hk hi hit hL hD hacc hP hne hR
    have hin : i = ws.size := Nat.le_antisymm hi (Nat.le_of_sub_eq_zero hk)
    subst hin
    have W := Walks.list (prog := prog) (w := w) (A := A.in1) hh I ax hax ws
    refine codeAny_builtin entry_update_loop ?_
    rw [Around.under_plainId plain_update_loop _]
    show wpAny _ A.in1 (pyNext (.ref I) >>= _) _ _ s
    refine wpAny_bind (W.done s _ _ ⟨hit, hL⟩ fun h' tk hkp => ?_)
    show wpAny _ _ (Builtin.Dict.addKeywords S [] >>= _) _ _ _
    refine wpAny_bind (wpAny_pure (wpAny_pure (hR h' tk ?_ fun b o hb hbI e => hkp b o (by simpa using hbI) e)))
    rw [List.drop_eq_nil_of_le (Nat.le_of_eq hl)]
    show h'.DictOf knd S acc
    obtain ⟨o, es, ep, ho, r⟩ := hD
    exact ⟨o, es, ep, hkp S o (by simpa using hIS.symm) ho, r⟩
  | succ k ih =>
    intro i s acc hk hi hit hL hD hacc hP hne hR
    have hlt : i < ws.size := Nat.lt_of_sub_eq_succ hk
    have W := Walks.list (prog := prog) (w := w) (A := A.in1) hh I ax hax ws
    refine codeAny_builtin entry_update_loop ?_
    rw [Around.under_plainId plain_update_loop _]
    show wpAny _ A.in1 (pyNext (.ref I) >>= _) _ _ s
    refine wpAny_bind (W.item i s _ _ hlt ⟨hit, hL⟩ fun v h' tk hv hst' hkp => ?_)
    have hv' : ws[i]? = some v := hv
    obtain ⟨p, hp⟩ : ∃ p, ps[i]? = some p := ⟨_, List.getElem?_eq_getElem (hl ▸ hlt)⟩
    obtain ⟨t, o, key, n, rfl, ho, hc, hd, hkey⟩ := hP i v p hv' hp
    have hnt := hne i t hv'
    have ho' : h'.get? t = some o := hkp t o (by simpa using hnt.1) ho
    have hD' : h'.DictOf knd S acc := by
      obtain ⟨o, es, ep, ho, r⟩ := hD
      exact ⟨o, es, ep, hkp S o (by simpa using hIS.symm) ho, r⟩
    refine wpAny_bind (wpAny_holding ?_)
    refine wpAny_bind (wpAny_tryCatch ?_)
    unfold Builtin.Dict.pairItems
    refine wpAny_bind (wpAny_typeOf (T := "tuple") ⟨o, ho', hc⟩ ?_)
    rw [if_pos (by decide)]
    unfold seqItems?
    refine wpAny_bind (wpAny_bind (wpAny_loadPart ho' ?_))
    rw [hd]
    refine wpAny_pure (wpAny_pure ?_)
    show wpAny _ _ (holding [key, p.2] (dictSet S key p.2)) _ _ _
    refine wpAny_holding (wpAny_dictSet_pairs (hsz := len_ok (Nat.le_trans (Nat.le_of_lt (Nat.lt_of_le_of_lt hacc (hl ▸ hlt))) (Nat.le_trans hz (by decide)))) hkey hD' fun h₁ hm₁ hs₁ => ?_)
    refine wpAny_pure ⟨plainId_quiet plain_update_loop _, ?_⟩
    have kp2 : ∀ b o, b ≠ S → b ≠ I → s.heap.get? b = some o → h₁.get? b = some o := fun b o hb hbI e => (hs₁.2 b hb).trans (hkp b o (by simpa using hbI) e)
    have e1 : rawInt (i : Int) = .int i 0 := rfl
    refine ih (i + 1) _ (stored acc p.1 p.2) (by rw [Nat.sub_add_eq, hk]; rfl) hlt ?_ ?_ hm₁ (Nat.le_trans (stored_length_le _ _ _) (Nat.succ_le_succ hacc)) (fun j v q hv hq => ?_) hne fun h'' tk'' hD'' hk'' => ?_
    · obtain ⟨oi, h1, h2⟩ := hst'.1; exact ⟨oi, (hs₁.2 I hIS).trans h1, h2⟩
    · obtain ⟨ol, h1, h2⟩ := hst'.2; exact ⟨ol, (hs₁.2 ax hxS).trans h1, h2⟩
    · obtain ⟨t2, o2, key2, n2, rfl, ho2, r2⟩ := hP j v q hv hq
      exact ⟨t2, o2, key2, n2, rfl, kp2 t2 o2 (hne j t2 hv).2 (hne j t2 hv).1 ho2, r2⟩
    · refine hR h'' tk'' ?_ fun b o hb hbI e => hk'' b o hb hbI (kp2 b o hb hbI e)
      have : ps.drop i = p :: ps.drop (i + 1) := by
        obtain ⟨hlt', e⟩ := List.getElem?_eq_some_iff.mp hp
        rw [List.drop_eq_getElem_cons hlt', e]
      rw [this]
      exact hD''
end
section
variable {C : Cx} {d : Nat} {σ : Sto} {Q : V → Sto → Prop} {G D : Gh} {s : Shared} {K : Type} [DecidableEq K]
noncomputable def foldP (ps : List (K × V)) : List (K × V) := ps.foldl (fun acc p => putV acc p.1 p.2) []
theorem KR.merged {w : World} {l : List (K × Value)} {r : List (K × V)} (h : KR w D l r) : ∀ {a : List (K × Value)} {b : List (K × V)}, KR w D a b → KR w D (PySem.merged a l) (r.foldl (fun acc p => putV acc p.1 p.2) b) := by
  induction h with
  | nil => intro a b hab; exact hab
  | @cons k v x l r hv _ ih => intro a b hab; exact ih (hab.stored hv)
theorem pairs_at (kk : KK C.prog C.w K) (R : RelC C G D σ s) : ∀ {ps : List (K × V)} {vs : List Value}, VRs C.w D vs (ps.map fun p => V.tup [kk.v p.1, p.2]) →
    ∃ cps, KR C.w D cps ps ∧ (∀ (j : Nat) v p, vs[j]? = some v → cps[j]? = some p → PairAt kk.knd s.heap v p) ∧ ∀ (j : Nat) t, vs[j]? = some (.ref t) → ∃ o, s.heap.get? t = some o := fun {ps} => by
  induction ps with
  | nil => intro vs h; obtain rfl := VRs.nilI h; exact ⟨[], .nil, (fun j v p e => by simp at e), fun j t e => by simp at e⟩
  | cons p ps ih =>
    intro vs h
    obtain ⟨y, r, rfl, h1, h2⟩ := VRs.consI h
    obtain ⟨cps, hk, hp, ht⟩ := ih h2
    obtain ⟨t, o, us, n, rfl, e, hc, hd, hr⟩ := VR.tupI h1
    obtain ⟨key, _, rfl, a1, hr⟩ := VRs.consI hr
    obtain ⟨val, _, rfl, a3, hr⟩ := VRs.consI hr
    obtain rfl := VRs.nilI hr
    refine ⟨(p.1, val) :: cps, .cons (k := p.1) a3 hk, fun j => ?_, fun j => ?_⟩
    · cases j with
      | zero => intro v q e1 e2; obtain rfl := Option.some.inj e1; obtain rfl := Option.some.inj e2; exact ⟨t, o, key, n, rfl, R.d _ _ e, hc, hd, kk.isOf a1⟩
      | succ j => exact fun v q e1 e2 => hp j v q e1 e2
    · cases j with
      | zero => intro t' e1; cases Option.some.inj e1; exact ⟨o, R.d _ _ e⟩
      | succ j => exact ht j
theorem K_dictP (kk : KK C.prog C.w K) {x : V} {ps : List (K × V)} {P : Sto → Prop} (h : Has σ x (.list (ps.map fun p => V.tup [kk.v p.1, p.2])) P) (hz : ps.length ≤ 1000)
    (q : ∀ a o, Fresh σ a → Q (.ref a) ((a, o, .dict (ents kk (foldP ps))) :: σ)) : KW C d (.type "dict") [x] σ Q := fun A G D s v vs hA R hv hss => by
  (first | obtain rfl := VR.biI hv | obtain rfl := VR.typeI hv | obtain rfl := VR.refI hv | obtain ⟨_, rfl⟩ := VR.intI hv | obtain ⟨_, rfl⟩ := VR.strI hv | obtain rfl := VR.boolI hv | obtain rfl := VR.noneI hv | obtain rfl := VRs.nilI hv | cases hv)
  obtain ⟨_, _, rfl, h1, h2⟩ := VRs.consI hss
  · skip
    (first | obtain rfl := VR.biI h2 | obtain rfl := VR.typeI h2 | obtain rfl := VR.refI h2 | obtain ⟨_, rfl⟩ := VR.intI h2 | obtain ⟨_, rfl⟩ := VR.strI h2 | obtain rfl := VR.boolI h2 | obtain rfl := VR.noneI h2 | obtain rfl := VRs.nilI h2 | cases h2)
    obtain ⟨ax, ws, n, rfl, ho, hr⟩ := h.isList R h1
    obtain ⟨cps, hk, hp, ht⟩ := pairs_at kk R hr
    have hlen : cps.length = ws.size := by rw [hk.length]; have := hr.length; simp at this; lia
    refine callType_codes (Q₁ := fun obj s₁ => obj = .ref s.heap.objs.size ∧ s₁ = { s with heap := s.heap.push { cls := .type "dict", data := .dict #[] } }) F.kt_called_dict (F.kt_typeCall_dict_1 _) F.entry_dict_init (kt_code_dict_new _ ⟨rfl, rfl⟩) ?_
    rintro obj s₁ ⟨rfl, rfl⟩
    have hnew : (s.heap.push { cls := .type "dict", data := .dict #[] }).DictOf kk.knd s.heap.objs.size [] := Heap.DictOf.new s.heap
    have ho1 : (s.heap.push { cls := .type "dict", data := .dict #[] }).get? ax = some (lstO ws n) := Heap.get?_push_of_some _ ho
    refine ⟨hnew.typeIs, F.args_dict_init_2 _ _, ?_⟩
    unfold Builtin.«dict.__init__»
    refine wpAny_bind ?_
    unfold Builtin.Dict.selfAndRest
    refine wpAny_bind (wpAny_notOrdered_dict hnew.typeIs ?_)
    show wpAny _ _ (pure (s.heap.objs.size, [Value.ref ax])) _ _ _
    refine wpAny_pure ?_
    show wpAny _ _ (Builtin.Dict.updateFrom "dict.__init__" s.heap.objs.size (.ref ax) [] .none) _ _ _
    unfold Builtin.Dict.updateFrom
    refine wpAny_bind (wpAny_typeOf (T := "list") ⟨_, ho1, rfl⟩ ?_)
    rw [if_pos (by decide)]
    refine wpAny_bind (getAttr?_miss ho1 hA.h fun h' tk hkp => ?_)
    simp only [Option.isNone_none, if_true]
    refine wpAny_bind (wpAny_rule ?_)
    have ho2 : h'.get? ax = some (lstO ws n) := hkp _ _ ho1
    have hL : h'.IsList ax ws := ⟨_, ho2, rfl, n, rfl⟩
    have hD2 : h'.DictOf kk.knd s.heap.objs.size [] := by
      obtain ⟨o, es, ep, ho, r⟩ := hnew
      exact ⟨o, es, ep, hkp _ o ho, r⟩
    have hdlt : s.heap.objs.size < h'.objs.size := by obtain ⟨o, es, ep, ho, r⟩ := hD2; exact Heap.lt_size ho
    have haxlt : ax < h'.objs.size := Heap.lt_size ho2
    refine wpAny_bind (wpAny_pyIter_list (s := { s with heap := h', toks := tk }) hL ?_)
    have liveS : ∀ t o, s.heap.get? t = some o → t ≠ s.heap.objs.size ∧ t ≠ h'.objs.size := fun t o e => ⟨Nat.ne_of_lt (Heap.lt_size e), Nat.ne_of_lt (Heap.lt_size (hkp _ _ (Heap.get?_push_of_some _ e)))⟩
    have kp3 : ∀ (oI : Obj) b o, s.heap.get? b = some o → (h'.push oI).get? b = some o := fun oI b o e => Heap.get?_push_of_some _ (hkp _ _ (Heap.get?_push_of_some _ e))
    refine wpAny_pure ⟨plainId_quiet plain_update_loop _, update_loop (knd := kk.knd) (A := A.in1) hA.h (Nat.ne_of_gt hdlt) (Nat.ne_of_lt haxlt) (liveS _ _ ho).1 cps hlen (by rw [hk.length]; exact hz) _ 0 _ [] rfl (Nat.zero_le _) ⟨_, Heap.get?_push_size _ rfl, rfl, rfl⟩ (hL.push _) (by
      obtain ⟨o, es, ep, ho, r⟩ := hD2
      exact ⟨o, es, ep, Heap.get?_push_of_some _ ho, r⟩) (Nat.le_refl _) (fun j v p e1 e2 => ?_) (fun j t e1 => ?_) fun h'' tk'' hD'' hk'' => ⟨rfl, ?_⟩⟩
    · obtain ⟨t, o, key, n', rfl, ho', r⟩ := hp j v p (by rw [Array.getElem?_toList]; exact e1) e2
      exact ⟨t, o, key, n', rfl, kp3 _ _ _ ho', r⟩
    · obtain ⟨o, e⟩ := ht j t (by rw [Array.getElem?_toList]; exact e1)
      exact ⟨(liveS t o e).2, (liveS t o e).1⟩
    · obtain ⟨o', ho', hr'⟩ := HR.ofDict kk hD'' (hk.merged (.nil : KR C.w D ([] : List (K × Value)) []))
      have kp4 : ∀ b o, s.heap.get? b = some o → h''.get? b = some o := fun b o e => hk'' b o (liveS b o e).1 (liveS b o e).2 (kp3 _ b o e)
      have R' := R.keep (h' := h'') tk'' kp4
      refine ⟨.ref _, D, _, DX.refl _ _, .ref _, ?_, q _ o' R.fresh⟩
      refine ⟨R'.same, R'.g, R'.d, R'.base, ?_, fun a ha => ?_, fun a ha => ?_, fun p hp' => ?_, fun p hp' => ?_⟩
      · exact List.nodup_cons.mpr ⟨R.new_notFoot, R.nd⟩
      · rcases List.mem_cons.mp ha with rfl | h
        · exact R.new_G
        · exact R.offG a h
      · rcases List.mem_cons.mp ha with rfl | h
        · exact R.new_D
        · exact R.offD a h
      · rcases List.mem_cons.mp hp' with rfl | h
        · exact ho'
        · exact R'.pl p h
      · rcases List.mem_cons.mp hp' with rfl | h
        · exact hr'
        · exact R'.sto p h
end
end Mine

set_option autoImplicit false
set_option linter.unusedVariables false
set_option linter.unusedSectionVars false
namespace Mine
open PySem
section
variable {C : Cx} {env : Env} {vars : List Str} {gl : List (Str × V)} {own : Bool} {d : Nat} {m : Loc} {σ : Sto} {tgt : Expr} {body : List Stmt} {P : Sto → Prop} {QS : Fl → Loc → Sto → Prop}
noncomputable def LS (I : Loc → Sto → Prop) (P : Sto → Prop) (QS : Fl → Loc → Sto → Prop) : Fl → Loc → Sto → Prop
  | .next, m, σ => P σ ∧ I m σ
  | .cont, m, σ => P σ ∧ I m σ
  | .brk, m, σ => QS .next m σ
  | .ret v, m, σ => QS (.ret v) m σ
theorem LS_ret {I : Loc → Sto → Prop} {X : V} (q : QS (.ret X) m σ) : LS I P QS (.ret X) m σ := q
theorem LS_next {I : Loc → Sto → Prop} (hP : P σ) (q : I m σ) : LS I P QS .next m σ := ⟨hP, q⟩
theorem Loop_st (I : Nat → Loc → Sto → Prop) : ∀ (ys : List V) (k : Nat) (m : Loc) (σ : Sto),
    (∀ (i : Nat) X, ys[i]? = some X → ∀ m σ, I (k + i) m σ → AA C env vars gl own d (assign tgt env) X m σ fun m₁ σ₁ => AS C env vars gl own d (execs body env) m₁ σ₁ (LS (I (k + i + 1)) P QS)) →
    (∀ m σ, I (k + ys.length) m σ → QS .next m σ) → I k m σ → Loop C env vars gl own d tgt body P QS ys m σ
  | [], k, m, σ, _, hq, hI => hq m σ hI
  | X :: ys, k, m, σ, h, hq, hI => by
    intro A G D s v hA R hv
    refine wpAny_mono (h 0 X rfl m σ hI A G D s v hA R hv) (fun u s' hpp => ?_) fun _ _ e => e
    obtain ⟨m', D', σ', a, c, e⟩ := hpp
    refine ⟨m', D', σ', a, c, e.mono fun fl m₂ σ₂ q => ?_⟩
    have ih : I (k + 1) m₂ σ₂ → Loop C env vars gl own d tgt body P QS ys m₂ σ₂ := fun hI' => Loop_st I ys (k + 1) m₂ σ₂ (fun i Y hY m σ hm => by
        have := h (i + 1) Y (by simpa using hY) m σ (by rw [show k + (i + 1) = k + 1 + i by lia]; exact hm)
        rw [show k + (i + 1) + 1 = k + 1 + i + 1 by lia] at this
        exact this) (fun m σ hm => hq m σ (by rw [List.length_cons, show k + (ys.length + 1) = k + 1 + ys.length by lia]; exact hm)) hI'
    cases fl with
    | next => exact ⟨q.1, ih q.2⟩
    | cont => exact ⟨q.1, ih q.2⟩
    | brk => exact q
    | ret v => exact q
theorem rg_small {n : Int} (h0 : 0 ≤ n) (h1 : n ≤ 1000) : Builtin.Range.small 0 n 1 = true := small_one (by decide) (by decide) (by lia) (by lia)
theorem rg_size {n : Int} (h0 : 0 ≤ n) : Builtin.Range.rangeSize 0 n 1 = (n.toNat : Int) := by rw [rangeSize_one]; split <;> lia
theorem rg_s {n : Nat} (h : n ≤ 1000) : Builtin.Range.small 0 (n : Int) 1 = true := rg_small (Int.natCast_nonneg n) (Int.ofNat_le.mpr h)
theorem rg_z (n : Nat) : Builtin.Range.rangeSize 0 (n : Int) 1 = ((n : Nat) : Int) := rg_size (Int.natCast_nonneg n)
theorem rangeL_at {n i : Nat} {X : V} (h : (rangeL 0 1 n)[i]? = some X) : i < n ∧ X = V.int (i : Int) := by
  have hi : i < n := by simpa [rangeL] using (List.getElem?_eq_some_iff.mp h).1
  rw [rangeL, List.getElem?_map, List.getElem?_range hi] at h
  exact ⟨hi, by simpa using h.symm⟩
theorem rangeL_in {n : Nat} {X : V} (h : X ∈ rangeL 0 1 n) : ∃ i : Nat, i < n ∧ X = V.int (i : Int) := by
  obtain ⟨i, hi⟩ := List.mem_iff_getElem?.mp h
  exact ⟨i, rangeL_at hi⟩
theorem rangeL_len (n : Nat) : (rangeL 0 1 n).length = n := by unfold rangeL; rw [List.length_map, List.length_range]
theorem rangeL_eq (n : Nat) : rangeL 0 1 n = (List.range n).map fun i : Nat => V.int (i : Int) := by
  unfold rangeL
  exact List.map_congr_left fun i _ => by rw [Int.zero_add, Int.mul_one]
theorem take_new {α : Type} {l : List α} {i : Nat} (hn : l.Nodup) (hi : i < l.length) : l[i] ∉ l.take i := fun hm => by
  obtain ⟨j, hj, e⟩ := List.mem_iff_getElem.mp hm
  rw [List.getElem_take] at e
  have := (List.getElem_inj hn).mp e
  rw [List.length_take] at hj
  lia
theorem take_one {α : Type} {l : List α} {i : Nat} (hi : i < l.length) : l.take (i + 1) = l.take i ++ [l[i]] := by rw [List.take_succ, List.getElem?_eq_getElem hi]; rfl
theorem take_len {α β : Type} {l : List α} {r : List β} {f : β → α} {i : Nat} (h : r.map f = l.take i) (hi : i ≤ l.length) : r.length = i := by
  have := congrArg List.length h
  rw [List.length_map, List.length_take] at this
  lia
theorem lenM {α β : Type} {l : List α} {f : α → β} {n : Nat} (h : l.length ≤ n) (hn : n ≤ 100000) : (l.map f).length ≤ sizeLine := by rw [List.length_map]; exact len_ok (Nat.le_trans h hn)
theorem map_at {α β : Type} {l : List α} {f : α → β} {i : Nat} {x : α} (h : l[i]? = some x) : (l.map f)[i]? = some (f x) := by rw [List.getElem?_map, h]; rfl
noncomputable def CutQ (R : Loc → Sto → Prop) (QS : Fl → Loc → Sto → Prop) : Fl → Loc → Sto → Prop
  | .next, m, σ => R m σ
  | f, m, σ => QS f m σ
theorem CutQ_next {R : Loc → Sto → Prop} (q : R m σ) : CutQ R QS .next m σ := q
theorem CutQ_ret {R : Loc → Sto → Prop} {X : V} (q : QS (.ret X) m σ) : CutQ R QS (.ret X) m σ := q
theorem S_cut (R : Loc → Sto → Prop) {st : Stmt} {rest : List Stmt} (h1 : AS C env vars gl own d (exec st env) m σ (CutQ R QS)) (h2 : ∀ m σ, R m σ → AS C env vars gl own d (execs rest env) m σ QS) : AS C env vars gl own d (execs (st :: rest) env) m σ QS :=
  S_cons (h1.mono fun fl m σ q => by cases fl <;> first | exact h2 m σ q | exact q)
theorem S_ForI (I : Nat → Loc → Sto → Prop) {iter : Expr} {p : Pos} (h : AI C env vars gl own d iter tgt m σ fun ys P σ₁ => I 0 m σ₁ ∧ (∀ (i : Nat) X, ys[i]? = some X → ∀ m σ, I i m σ → AA C env vars gl own d (assign tgt env) X m σ fun m₁ σ₁ => AS C env vars gl own d (execs body env) m₁ σ₁ (LS (I (i + 1)) P QS)) ∧ (∀ m σ, I ys.length m σ → QS .next m σ))
    (hs : ∀ x, foldedSetIterable iter env x = pure x := by intro _; with_unfolding_all exact rfl) : AS C env vars gl own d (exec (.For tgt iter body [] p) env) m σ QS :=
  S_For (fun A G D s hA R => wpAny_mono (h A G D s hA R) (fun x s₁ h₁ => wpAny_mono h₁ (fun it s₂ hpp => by obtain ⟨D', σ', xs, P, a, b, c1, c2, c3⟩ := hpp; exact ⟨D', σ', xs, P, a, b, Loop_st I xs 0 m σ' (fun i X hX m σ hm => by
    have := c2 i X hX m σ (by simpa using hm)
    simpa using this) (fun m σ hm => c3 m σ (by simpa using hm)) c1⟩) fun _ _ e => e) fun _ _ e => e) hs
theorem S_ForQ (I : Nat → Loc → Sto → Prop) {iter : Expr} {p : Pos} (h : AI C env vars gl own d iter tgt m σ fun ys P σ₁ => I 0 m σ₁ ∧ (∀ (i : Nat) X, ys[i]? = some X → ∀ m σ, I i m σ → ∀ QB : Fl → Loc → Sto → Prop, (∀ m σ, P σ → I (i + 1) m σ → QB .next m σ) → AA C env vars gl own d (assign tgt env) X m σ fun m₁ σ₁ => AS C env vars gl own d (execs body env) m₁ σ₁ QB) ∧ (∀ m σ, I ys.length m σ → QS .next m σ))
    (hs : ∀ x, foldedSetIterable iter env x = pure x := by intro _; with_unfolding_all exact rfl) : AS C env vars gl own d (exec (.For tgt iter body [] p) env) m σ QS :=
  S_ForI I (fun A G D s hA R => wpAny_mono (h A G D s hA R) (fun x s₁ h₁ => wpAny_mono h₁ (fun it s₂ hpp => by obtain ⟨D', σ', xs, P, a, b, c1, c2, c3⟩ := hpp; exact ⟨D', σ', xs, P, a, b, c1, fun i X hX m σ hm => c2 i X hX m σ hm _ fun m σ hP hI => LS_next hP hI, c3⟩) fun _ _ e => e) fun _ _ e => e) hs
theorem S_ForR (I : Nat → Loc → Sto → Prop) {iter : Expr} {p : Pos} (h : AI C env vars gl own d iter tgt m σ fun ys P σ₁ => I 0 m σ₁ ∧ (∀ (i : Nat) X, ys[i]? = some X → ∀ m σ, I i m σ → ∀ QB : Fl → Loc → Sto → Prop, (∀ m σ, P σ → I (i + 1) m σ → QB .next m σ) → (∀ Y m σ, QS (.ret Y) m σ → QB (.ret Y) m σ) → AA C env vars gl own d (assign tgt env) X m σ fun m₁ σ₁ => AS C env vars gl own d (execs body env) m₁ σ₁ QB) ∧ (∀ m σ, I ys.length m σ → QS .next m σ))
    (hs : ∀ x, foldedSetIterable iter env x = pure x := by intro _; with_unfolding_all exact rfl) : AS C env vars gl own d (exec (.For tgt iter body [] p) env) m σ QS :=
  S_ForI I (fun A G D s hA R => wpAny_mono (h A G D s hA R) (fun x s₁ h₁ => wpAny_mono h₁ (fun it s₂ hpp => by obtain ⟨D', σ', xs, P, a, b, c1, c2, c3⟩ := hpp; exact ⟨D', σ', xs, P, a, b, c1, fun i X hX m σ hm => c2 i X hX m σ hm _ (fun m σ hP hI => LS_next hP hI) fun Y m σ q => LS_ret q, c3⟩) fun _ _ e => e) fun _ _ e => e) hs
theorem S_cutQ (R : Loc → Sto → Prop) {st : Stmt} {rest : List Stmt} (h1 : ∀ QC : Fl → Loc → Sto → Prop, (∀ m σ, R m σ → QC .next m σ) → AS C env vars gl own d (exec st env) m σ QC) (h2 : ∀ m σ, R m σ → AS C env vars gl own d (execs rest env) m σ QS) : AS C env vars gl own d (execs (st :: rest) env) m σ QS :=
  S_cut R (h1 _ fun m σ q => CutQ_next q) h2
variable {x : Str} {pp : Pos} {caps : List Str} {elt c : Expr} {ms : Loc} {Z : List V → Sto → Prop}
variable {Q : V → Sto → Prop}
theorem G_two {X Y : V} {k : Int} (h0 : 0 ≤ k) (h1 : k < 2) (q : Q X σ) (q' : Q Y σ) : SubR C d (.lst [X, Y]) (.int k) σ Q := by
  rcases (show k = 0 ∨ k = 1 by lia) with rfl | rfl
  · exact G_list (.lst _) (by decide) (by decide) (X := X) rfl q
  · exact G_list (.lst _) (by decide) (by decide) (X := Y) rfl q'
theorem G_nat {x : V} {xs : List V} {P : Sto → Prop} {i : Nat} {X : V} (h : Has σ x (.list xs) P) (hi : i < 1000) (hx : xs[i]? = some X) (q : Q X σ) : SubR C d x (.int (i : Int)) σ Q :=
  G_list h (Int.natCast_nonneg i) (by lia) (by rw [Int.toNat_natCast]; exact hx) q
theorem G_any {xs : List V} {k : Int} (h0 : 0 ≤ k) (h1 : k < xs.length) (hs : xs.length < 2 ^ 40) (q : ∀ X ∈ xs, Q X σ) : SubR C d (.lst xs) (.int k) σ Q := by
  have hk : k.toNat < xs.length := by lia
  exact G_list (.lst _) h0 (by lia) (X := xs[k.toNat]) (List.getElem?_eq_getElem hk) (q _ (List.getElem_mem hk))
theorem C_neS {x y : Str} (q : Q (.bool (x != y)) σ) : AC2 C d (compareOp .NotEq) (.str x) (.str y) σ Q := fun A G D s v u hA R hv hu => by
  (first | obtain rfl := VR.biI hv | obtain rfl := VR.typeI hv | obtain rfl := VR.refI hv | obtain ⟨_, rfl⟩ := VR.intI hv | obtain ⟨_, rfl⟩ := VR.strI hv | obtain rfl := VR.boolI hv | obtain rfl := VR.noneI hv | obtain rfl := VRs.nilI hv | cases hv); (first | obtain rfl := VR.biI hu | obtain rfl := VR.typeI hu | obtain rfl := VR.refI hu | obtain ⟨_, rfl⟩ := VR.intI hu | obtain ⟨_, rfl⟩ := VR.strI hu | obtain rfl := VR.boolI hu | obtain rfl := VR.noneI hu | obtain rfl := VRs.nilI hu | cases hu); exact PyProof.Rows.ne_str (PostC.now R (.bool _) q)
theorem S_AssignL0 {y : Str} {p' pe p : Pos} (q : ∀ a o, Fresh σ a → ∃ m', Put vars m y (.ref a) m' ∧ QS .next m' ((a, o, .list []) :: σ)) (hk : own = true := by with_unfolding_all exact rfl)
    (hs : swapsWith (.List [] pe) (some (.Name y p')) p.line env = pure false := by with_unfolding_all exact rfl) : AS C env vars gl own d (exec (.Assign [.Name y p'] (.List [] pe) p) env) m σ QS :=
  S_Assign (AT_ListN (AL_nil ⟨Nat.zero_le _, q⟩)) hk hs
theorem S_AssignD0 {y : Str} {p' pe p : Pos} (q : ∀ a o, Fresh σ a → ∃ m', Put vars m y (.ref a) m' ∧ QS .next m' ((a, o, .dict []) :: σ)) (hk : own = true := by with_unfolding_all exact rfl)
    (hs : swapsWith (.Dict [] [] pe) (some (.Name y p')) p.line env = pure false := by with_unfolding_all exact rfl) : AS C env vars gl own d (exec (.Assign [.Name y p'] (.Dict [] [] pe) p) env) m σ QS :=
  S_Assign (AT_DictN q) hk hs
theorem K_apph {a : Addr} {o : Obj} {xs : List V} {X : V} (hl : xs.length ≤ sizeLine) (q : ∀ o', Q .none ((a, o', .list (xs ++ [X])) :: σ)) : KW C d (.bi "list.append") [.ref a, X] ((a, o, .list xs) :: σ) Q :=
  K_append (fun o' => Upd.head) hl q
theorem Set_DSh {a : Addr} {o : Obj} {kvs : List (Str × V)} {k : Str} {X : V} {PS : Sto → Prop} (hn : (kvs.map (·.1)).Nodup) (hl : kvs.length ≤ sizeLine) (q : ∀ o', PS ((a, o', dS (putV kvs k X)) :: σ)) : SetR C d (.ref a) (.str k) X ((a, o, dS kvs) :: σ) PS :=
  Set_dict (KK.str C.prog C.w) (σ' := fun o' => (a, o', dS (putV kvs k X)) :: σ) (fun o' => Upd.head) hn hl q
theorem putV_new {K : Type} [DecidableEq K] {kvs : List (K × V)} {k : K} {X : V} (h : k ∉ kvs.map (·.1)) : putV kvs k X = kvs ++ [(k, X)] := by
  unfold putV
  rw [if_neg]
  intro e
  obtain ⟨p, hp, hk⟩ := List.any_eq_true.mp e
  exact h (List.mem_map.mpr ⟨p, hp, by simpa using hk⟩)
theorem vAt_none {K : Type} [DecidableEq K] {kvs : List (K × V)} {k : K} (h : k ∉ kvs.map (·.1)) : vAt kvs k = none := by
  unfold vAt
  rw [List.find?_eq_none.mpr]
  · rfl
  · intro p hp e; exact h (List.mem_map.mpr ⟨p, hp, by simpa using e⟩)
theorem vAt_mem {K : Type} [DecidableEq K] {kvs : List (K × V)} {k : K} {X : V} (hn : (kvs.map (·.1)).Nodup) (h : (k, X) ∈ kvs) : vAt kvs k = some X := by
  induction kvs with
  | nil => cases h
  | cons p r ih =>
    obtain ⟨k', Y⟩ := p
    have hn' := List.nodup_cons.mp hn
    rcases List.mem_cons.mp h with e | h
    · cases e; simp [vAt]
    · have hne : k' ≠ k := fun e => hn'.1 (by rw [e]; exact List.mem_map.mpr ⟨_, h, rfl⟩)
      have := ih hn'.2 h
      unfold vAt at this ⊢
      rw [List.find?_cons]; simpa [hne] using this
theorem strs_of {P : Str → Prop} : ∀ {ys : List V}, (∀ y ∈ ys, ∃ w, y = .str w ∧ P w) → ∃ ws : List Str, ys = ws.map V.str ∧ ∀ w ∈ ws, P w
  | [], _ => ⟨[], rfl, fun _ h => by cases h⟩
  | y :: ys, h => by
    obtain ⟨ws, rfl, hw⟩ := strs_of fun z hz => h z (.tail _ hz)
    obtain ⟨w, rfl, hp⟩ := h y (.head _)
    exact ⟨w :: ws, rfl, fun z hz => by rcases List.mem_cons.mp hz with rfl | hz; exact hp; exact hw z hz⟩
end
end Mine

set_option autoImplicit false
set_option linter.unusedVariables false
set_option linter.unusedSectionVars false
namespace Mine
open PySem
section
variable {C : Cx} {d : Nat} {σ : Sto} {Q : V → Sto → Prop}
theorem CW_freeze {f : Addr} {xs : List V} (h : CW C d (.ref f) xs σ fun x σ' => ∃ a o ys τ, x = .ref a ∧ σ' = (a, o, .list ys) :: τ ∧ Q (.lst ys) τ) : CW C d (.ref f) xs σ Q := fun A G D s vs hA R hv =>
  codeAny_mono (h A G D s vs hA R hv) fun r s' q => by
    cases r with
    | error e => exact q
    | ok fl =>
      cases fl <;> first | exact q.elim | skip
      obtain ⟨x, D', σ', dx, hx, R', a, o, ys, τ, rfl, rfl, q⟩ := q
      cases hx
      obtain ⟨R3, dx3, hv3⟩ := R'.freezeL (u := []) (v := τ) rfl
      exact ⟨.lst ys, _, τ, dx.trans dx3, hv3, R3, q⟩
end
end Mine

set_option autoImplicit false
set_option linter.unusedVariables false
set_option linter.unusedSectionVars false
namespace Mine
open PySem
section
variable {C : Cx} {env : Env} {vars : List Str} {gl : List (Str × V)} {own : Bool} {d : Nat} {m m' : Loc} {σ : Sto} {Q : V → Sto → Prop} {QS : Fl → Loc → Sto → Prop} {G D : Gh} {s : Shared} {A : Around} {K : Type} [DecidableEq K]
theorem VRs.hd {w : World} {vs : List Value} {X : V} {xs : List V} (h : VRs w D vs (X :: xs)) : ∃ y r, vs = y :: r ∧ VR w D y X ∧ VRs w D r xs := by
  cases h with
  | cons h1 h2 => exact ⟨_, _, rfl, h1, h2⟩
theorem K_pop0u {a : Addr} {o : Obj} {σ' : Obj → Sto} {X : V} {xs : List V} (U : ∀ o', Upd a o (.list (X :: xs)) o' (.list xs) σ (σ' o')) (hl : (X :: xs).length ≤ sizeLine) (q : ∀ o', Q X (σ' o')) : KW C d (.bi "list.pop") [.ref a, .int 0] σ Q := fun A G D s v vs hA R hv hss => by
  obtain rfl := hv.biI
  obtain ⟨_, _, rfl, h1, hr2⟩ := hss.consI
  obtain ⟨_, _, rfl, h2, hr3⟩ := hr2.consI
  obtain rfl := hr3.nilI
  obtain rfl := h1.refI
  obtain ⟨t, rfl⟩ := h2.intI
  obtain ⟨ws, n, rfl, hr⟩ : ∃ ws n, o = lstO ws n ∧ VRs C.w D ws.toList (X :: xs) := R.sto _ (U o).mem
  have ho : s.heap.get? a = some (lstO ws n) := R.pl _ (U (lstO ws n)).mem
  have hz : ws.size = (X :: xs).length := by rw [← hr.length]; simp
  obtain ⟨y, r, e, hy, hr'⟩ := hr.hd
  have ew : ws = (y :: r).toArray := by rw [← e, Array.toArray_toList]
  subst ew
  refine call_meets F.slot_list_pop ⟨_, ho, rfl⟩ F.entry_list_pop (F.args_list_pop_2 _ _) (MeetsSeq.list_pop_at a _ n 0 _ 0 y (by decide) (by simp [seqIndex?]) (by simp) (by rw [hz]; exact hl)) ⟨ho, ?_⟩
  have h1 := PyProof.Rows.get?_update_seq (c := "list") ho (fun xs => xs.eraseIdxIfInBounds 0)
  have := R.upd (U _) s.toks (self_footO _ _) (Heap.SameBut.update ..) rfl h1 ⟨_, _, rfl, by simpa using hr'⟩
  exact ⟨X, D, _, DX.refl _ _, hy, this, q _⟩
theorem K_pop0h {a : Addr} {o : Obj} {X : V} {xs : List V} (hl : (X :: xs).length ≤ sizeLine) (q : ∀ o', Q X ((a, o', .list xs) :: σ)) : KW C d (.bi "list.pop") [.ref a, .int 0] ((a, o, .list (X :: xs)) :: σ) Q :=
  K_pop0u (σ' := fun o' => (a, o', .list xs) :: σ) (fun o' => Upd.head) hl q
theorem Has.p {x : V} {ao : AO} {P : Sto → Prop} (h : Has σ x ao P) : P σ := by cases h <;> first | trivial | assumption
theorem Has.mono {τ : Sto} {x : V} {ao : AO} {P : Sto → Prop} (h : Has σ x ao P) (hs : ∀ p ∈ σ, p ∈ τ) : Has τ x ao P := by
  cases h with
  | lst => exact .lst _
  | dct => exact .dct _
  | refL h => exact .refL (hs _ h)
  | refD h => exact .refD (hs _ h)
theorem K_dictD (kk : KK C.prog C.w K) {a : Addr} {kvs : List (K × V)} (hs : NoSys C) (hm : At σ a (.dict (ents kk kvs))) (hn : (kvs.map (·.1)).Nodup) (hl : kvs.length ≤ sizeLine)
    (q : ∀ b o, Fresh σ b → Q (.ref b) ((b, o, .dict (ents kk kvs)) :: σ)) : KW C d (.type "dict") [.ref a] σ Q := fun A G D s v vs hA R hv hss => by
  obtain rfl := hv.typeI
  obtain ⟨o, hm⟩ := hm
  obtain ⟨_, _, rfl, h1, h2⟩ := hss.consI
  obtain rfl := h2.nilI
  obtain rfl := h1.refI
  · skip
    obtain ⟨b, cvs, e, hD, hk⟩ := (Has.refD hm).isD kk hn R (.ref a)
    cases e
    refine kt_call_dict (R.notSys hs hm) hD (by rw [hk.length]; exact hl) fun h' hD' hsb => ?_
    have R1 := R.newM (dctO #[] 0) (.dict []) ⟨#[], 0, rfl, .nil⟩ rfl (fun _ _ => rfl)
    obtain ⟨o', ho', hr'⟩ := HR.ofDict kk hD' hk
    exact ⟨.ref _, D, _, DX.refl _ _, .ref _, R1.upd (Upd.head (o' := o') (x' := .dict (ents kk kvs))) s.toks (self_footO _ _) hsb rfl ho' hr', q _ _ R.fresh⟩
theorem K_dictDS {a : Addr} {kvs : List (Str × V)} (hs : NoSys C) (hm : At σ a (dS kvs)) (hn : (kvs.map (·.1)).Nodup) (hl : kvs.length ≤ sizeLine)
    (q : ∀ b o, Fresh σ b → Q (.ref b) ((b, o, dS kvs) :: σ)) : KW C d (.type "dict") [.ref a] σ Q := K_dictD (KK.str C.prog C.w) hs hm hn hl q
end
end Mine

set_option autoImplicit false
set_option linter.unusedVariables false
set_option linter.unusedSectionVars false
set_option maxRecDepth 100000
namespace Mine
open PySem
section
variable {C : Cx} {env : Env} {vars : List Str} {gl : List (Str × V)} {own : Bool} {d : Nat} {m m' : Loc} {σ : Sto} {Q : V → Sto → Prop} {QS : Fl → Loc → Sto → Prop} {G D : Gh} {s : Shared} {A : Around} {K : Type} [DecidableEq K]
open AutoSeq1 (wpAny_loadPart')
open MeetsSeq MeetsSeq2 MeetsSeq3
end
end Mine

set_option autoImplicit false
set_option linter.unusedVariables false
set_option linter.unusedSectionVars false
set_option maxRecDepth 100000
namespace Mine
open PySem
section
variable {C : Cx} {env : Env} {vars : List Str} {gl : List (Str × V)} {own : Bool} {d : Nat} {m m' : Loc} {σ : Sto} {Q : V → Sto → Prop} {QS : Fl → Loc → Sto → Prop} {G D : Gh} {s : Shared} {A : Around} {K : Type} [DecidableEq K]
inductive F2 {α β : Type} (R : α → β → Prop) : List α → List β → Prop
  | nil : F2 R [] []
  | cons {a : α} {b : β} {as : List α} {bs : List β} : R a b → F2 R as bs → F2 R (a :: as) (b :: bs)
theorem CompL_relL {caps : List Str} {x : Str} {elt : Expr} {pp : Pos} {P : Sto → Prop} {Z : List V → Sto → Prop} {ms : Loc} {Gd : V → Prop} (hk : env.kindOf x = some .local) (hP : P σ) (xs : List V) :
    ∀ (acc : List V) (o : Option V), (∀ X ∈ xs, ∀ K : V → Sto → Prop, (∀ Y, Gd Y → K Y σ) → AT C env (x :: caps) gl false d (eval elt env) (some X :: ms) σ K) → (∀ ys : List V, ys.length = xs.length → (∀ y ∈ ys, Gd y) → Z (acc ++ ys) σ) →
      CompL C env (x :: caps) gl d (.Name x pp) elt [] P Z xs acc (o :: ms) σ := by
  induction xs with
  | nil => intro acc o _ q; show Z acc _; exact apn (q [] rfl (fun _ h => by cases h))
  | cons X xs ih =>
    intro acc o h q
    refine AA_Name Put.head ?_ (.inr hk)
    refine ⟨fun _ => h X (.head _) _ fun Y hY => ⟨hP, ih (acc ++ [Y]) (some X) (fun Y hY => h Y (.tail _ hY)) fun ys hl hs => ?_⟩, fun e => by cases e⟩
    rw [List.append_assoc]
    refine q (Y :: ys) (by rw [List.length_cons, List.length_cons, hl]) fun y hm => ?_
    rcases List.mem_cons.mp hm with rfl | hm
    · exact hY
    · exact hs y hm
theorem CompL_rel2 {caps : List Str} {x y : Str} {elt : Expr} {p1 p2 pt : Pos} {kt : Nat} {P : Sto → Prop} {Z : List V → Sto → Prop} {ms : Loc} {Gd : V × V → V → Prop} (hk1 : env.kindOf x = some .local) (hk2 : env.kindOf y = some .local) (hP : P σ) (ps : List (V × V)) :
    ∀ (acc : List V) (o1 o2 : Option V), (∀ p ∈ ps, ∀ K : V → Sto → Prop, (∀ Y, Gd p Y → K Y σ) → AT C env (x :: y :: caps) gl false d (eval elt env) (some p.1 :: some p.2 :: ms) σ K) → (∀ ys : List V, F2 Gd ps ys → Z (acc ++ ys) σ) →
      CompL C env (x :: y :: caps) gl d (.Tuple [.Name x p1, .Name y p2] kt pt) elt [] P Z (ps.map fun p => V.tup [p.1, p.2]) acc (o1 :: o2 :: ms) σ := by
  induction ps with
  | nil => intro acc o1 o2 _ q; show Z acc _; exact apn (q [] .nil)
  | cons p ps ih =>
    intro acc o1 o2 h q
    refine AAs2 (AA_Name Put.head (AA_Name (Put.tail Put.head) ?_ (.inr hk2)) (.inr hk1))
    refine ⟨fun _ => h p (.head _) _ fun Y hY => ⟨hP, ih (acc ++ [Y]) _ _ (fun Y hY => h Y (.tail _ hY)) fun ys hs => ?_⟩, fun e => by cases e⟩
    rw [List.append_assoc]
    exact q (Y :: ys) (.cons hY hs)
theorem vAt_in {kvs : List (K × V)} {k : K} {X : V} (h : vAt kvs k = some X) : (k, X) ∈ kvs := by
  unfold vAt at h
  obtain ⟨⟨k', Y⟩, e, rfl⟩ := Option.map_eq_some_iff.mp h
  have h2 := List.find?_some e
  have h3 : k' = k := by simpa using h2
  rw [← h3]; exact List.mem_of_find?_eq_some e
open AutoSeq1 (wpAny_loadPart')
open MeetsSeq
end
end Mine

set_option autoImplicit false
set_option linter.unusedVariables false
set_option linter.unusedSectionVars false
set_option maxRecDepth 100000
namespace Mine
open PySem
section
variable {C : Cx} {env : Env} {vars : List Str} {gl : List (Str × V)} {own : Bool} {d : Nat} {m m' : Loc} {σ : Sto} {Q : V → Sto → Prop} {QI : List V → (Sto → Prop) → Sto → Prop}
theorem AI_rev {np p : Pos} {e tgt : Expr} (h : AT C env vars gl own d (eval (.Name "reversed" np) env) m σ fun F σ₁ => F = .type "reversed" ∧ AL C env vars gl own d (spliced (backTo p (starEach [e] env))) m σ₁ fun Xs σ₂ => ∃ X xs P, Xs = [X] ∧ Has σ₂ X (.list xs) P ∧ QI xs.reverse P σ₂)
    (he : starEach [e] env = (false, eval e env) :: starEach [] env := by with_unfolding_all exact rfl) (hplain : (backTo p (starEach [] env)).any (·.1) = false := by with_unfolding_all exact rfl) :
    AI C env vars gl own d (.Call (.Name "reversed" np) [e] [] p) tgt m σ QI := fun A G D s hA R => by
  refine wpAny_Call_ofName (h.run hA R fun v s₁ F D₁ σ₁ a b c hpp => ?_)
  obtain ⟨hF, hk⟩ := hpp
  subst hF
  refine callee_run (F := .type "reversed") trivial b (by rw [he]; exact hplain) ?_
  rw [he] at hk ⊢
  refine Calls.evalArgs_plain (AL.run hk hA c fun vs s₂ Xs D₂ σ₂ a' b' c' hpp => ?_)
  obtain ⟨X, xs, P, hX, hH, q⟩ := hpp
  refine ⟨c'.toRelC.baseIn, ?_⟩
  subst hX
  obtain rfl := VR.typeI b
  obtain ⟨_, _, rfl, h1, h2⟩ := VRs.consI b'
  obtain rfl := VRs.nilI h2
  obtain ⟨ax, o, rfl, ho, ⟨vs, n, rfl, hr⟩, hP, hst⟩ := hH.run c'.toRelC h1
  have hl : s₂.heap.IsList ax vs := ⟨_, ho, rfl, n, rfl⟩
  have hne : ax ≠ s₂.heap.objs.size := Nat.ne_of_lt (Heap.lt_size ho)
  have hz : vs.size = xs.length := by rw [← hr.length, Array.length_toList]
  have hit : (s₂.heap.push (revObj ax ((vs.size : Int) - 1))).IsRevIter s₂.heap.objs.size ax ((vs.size : Int) - 1 - ((0 : Nat) : Int)) := ⟨_, Heap.get?_push_size _ rfl, rfl, by simp [revObj]⟩
  refine call_reversed_list hl (wpAny_pyIter_revIter hit ⟨D₂, σ₂, xs.reverse, P, a.trans a', ⟨s₂.heap.objs.size, _, _, _, rfl, IW.ofWalks (Walks.listRev hA.h s₂.heap.objs.size ax hne vs) (by rw [List.length_reverse]; exact hz) ?_ ?_ ?_ ?_, ⟨Nat.zero_le _, hit, hl.push _⟩, c'.push _, c'.offNew (lstO #[] 0), hP, ?_⟩, q⟩)
  · intro i u X e hX
    have hi : i < xs.length := by rw [← List.length_reverse]; exact (List.getElem?_eq_some_iff.mp hX).1
    rw [List.getElem?_reverse hi] at hX
    obtain ⟨u', e', r⟩ := hr.get hX
    rw [Array.getElem?_toList, ← hz, e] at e'; cases e'; exact r
  · rintro i h ⟨_, ⟨o, ho, _⟩, _⟩ a ha; simp at ha; subst ha; exact ⟨o, ho⟩
  · rintro b hb hbw h ⟨_, _, o, ho, _⟩ e
    simp at hb hbw
    rcases hb with rfl | rfl
    · exact hbw rfl
    · rw [ho] at e; cases e
  · rintro i h ⟨_, ⟨o, ho, hc, _⟩, _⟩; exact ⟨o, _, ho, hc, by decide⟩
  · intro G' D' σ' s' R' hs hP' b hb hbw o' e
    simp at hb hbw
    rcases hb with rfl | rfl
    · exact absurd rfl hbw
    · rw [Heap.get?_push_of_some _ ho] at e; cases e; exact hst G' D' σ' s' R' hs hP'
theorem C_inLI {x : V} {ns : List Int} {k : Int} {P : Sto → Prop} (h : Has σ x (.list (ns.map V.int)) P) (q : Q (.bool (ns.any (· == k))) σ) : AC2 C d (compareOp .In) (.int k) x σ Q := fun A G D s v u hA R hv hu => by
  obtain ⟨a, ws, rfl, hL, hr⟩ := h.isL R hu
  obtain ⟨t, rfl⟩ := VR.intI hv
  exact PyProof.Rows.in_list_ints (vs := ws.toList) (by simpa using hL) hr.ints (PostC.now R (.bool _) q)
theorem foot_inj {σ : Sto} : (foot σ).Nodup → ∀ {a : Addr} {o o' : Obj} {x y : AO}, (a, o, x) ∈ σ → (a, o', y) ∈ σ → x = y := by
  induction σ with
  | nil => exact fun _ _ _ _ _ _ h => by cases h
  | cons p σ ih =>
    obtain ⟨b, ob, z⟩ := p
    intro hn a o o' x y h1 h2
    obtain ⟨_, hn2, hd⟩ := List.nodup_append.mp (show (footO b z ++ foot σ).Nodup from hn)
    rcases List.mem_cons.mp h1 with e1 | h1
    · cases e1
      rcases List.mem_cons.mp h2 with e2 | h2
      · cases e2; rfl
      · exact absurd rfl (hd _ (self_footO _ _) _ (self_foot h2))
    · rcases List.mem_cons.mp h2 with e2 | h2
      · cases e2
        exact absurd rfl (hd _ (self_footO _ _) _ (self_foot h1))
      · exact ih hn2 h1 h2
theorem At.inj {a : Addr} {x y : AO} (hn : (foot σ).Nodup) (h : At σ a x) (h' : At σ a y) : x = y := by
  obtain ⟨_, h⟩ := h; obtain ⟨_, h'⟩ := h'
  exact foot_inj hn h h'
theorem AS_nd {t : Sem Flow} {QS : Fl → Loc → Sto → Prop} (h : (foot σ).Nodup → AS C env vars gl own d t m σ QS) : AS C env vars gl own d t m σ QS := fun A G D s hA R => h R.toRelC.nd A G D s hA R
theorem CompL_keep {x : Str} {caps : List Str} {elt c : Expr} {pp : Pos} {P : Sto → Prop} {Z : List V → Sto → Prop} {ms : Loc} {Gd Bd : V → Prop} (hk : env.kindOf x = some .local) (hP : P σ) (xs : List V) :
    ∀ (acc : List V) (o : Option V), (∀ X ∈ xs, ∀ K : Bool → Sto → Prop, (∀ b, (b = true → Gd X) → (b = false → Bd X) → K b σ) → AB C env (x :: caps) gl false d (isTrue c env (eval c env)) (some X :: ms) σ K) →
      (∀ X ∈ xs, ∀ K : V → Sto → Prop, K X σ → AT C env (x :: caps) gl false d (eval elt env) (some X :: ms) σ K) → (∀ ys : List V, ys.Sublist xs → (∀ y ∈ ys, Gd y) → (∀ X ∈ xs, X ∈ ys ∨ Bd X) → Z (acc ++ ys) σ) →
      CompL C env (x :: caps) gl d (.Name x pp) elt [c] P Z xs acc (o :: ms) σ := by
  induction xs with
  | nil => intro acc o _ _ q; show Z acc _; exact apn (q [] (List.Sublist.refl _) (fun _ h => by cases h) (fun _ h => by cases h))
  | cons X xs ih =>
    intro acc o ht h q
    refine AA_Name Put.head ?_ (.inr hk)
    refine ht X (.head _) _ fun b hg hb => ⟨fun e => h X (.head _) _ ⟨hP, ih (acc ++ [X]) (some X) (fun Y hY => ht Y (.tail _ hY)) (fun Y hY => h Y (.tail _ hY)) fun ys hs hy hz => ?_⟩, fun e => ⟨hP, ih acc (some X) (fun Y hY => ht Y (.tail _ hY)) (fun Y hY => h Y (.tail _ hY)) fun ys hs hy hz => q ys (hs.cons _) hy fun Y hY => ?_⟩⟩
    · rw [List.append_assoc]
      refine q (X :: ys) (hs.cons_cons _) (fun y hm => ?_) fun Y hY => ?_
      · rcases List.mem_cons.mp hm with rfl | hm
        · exact hg e
        · exact hy y hm
      · rcases List.mem_cons.mp hY with rfl | hY
        · exact .inl (.head _)
        · exact (hz Y hY).imp (fun h => .tail _ h) id
    · rcases List.mem_cons.mp hY with rfl | hY
      · exact .inr (hb e)
      · exact hz Y hY
end
end Mine

set_option autoImplicit false
set_option linter.unusedVariables false
namespace Mine
open PySem
noncomputable def letB (c : Nat) : Bool := decide (97 ≤ c) && decide (c ≤ 122)
noncomputable def Lt (x : Str) : Prop := ∀ c ∈ x.cps.toList, letB c = true
theorem Lt.append {x y : Str} (hx : Lt x) (hy : Lt y) : Lt (x ++ y) := by
  intro c hc
  have : c ∈ (x.cps ++ y.cps).toList := hc
  rw [Array.toList_append, List.mem_append] at this
  rcases this with h | h
  · exact hx c h
  · exact hy c h
theorem slen_append (x y : Str) : (x ++ y).length = x.length + y.length := by
  show (x.cps ++ y.cps).size = _
  rw [Array.size_append]; rfl
theorem Lt.slice {x : Str} (hx : Lt x) (l u : Option Int) : Lt (Txt.slice x l u) := by
  unfold Txt.slice
  split
  · exact hx
  · intro c hc
    simp only [List.mem_filterMap] at hc
    obtain ⟨i, _, e⟩ := hc
    exact hx c (by simpa using Array.mem_of_getElem? e)
theorem filterMap_len {α : Type} (xs : Array α) : ∀ (l : List Nat), (∀ i ∈ l, i < xs.size) → (l.filterMap (xs[·]?)).length = l.length
  | [], _ => rfl
  | i :: l, h => by
    have hi := h i (.head _)
    rw [List.filterMap_cons, Array.getElem?_eq_getElem hi]
    simp [filterMap_len xs l fun j hj => h j (.tail _ hj)]
theorem slice_len {x : Str} (l u : Option Int) (h : ∀ i ∈ Builtin.Str.strSliceIndices l u 1 x.length, i < x.length) : (Txt.slice x l u).length = (Builtin.Str.strSliceIndices l u 1 x.length).length := by
  unfold Txt.slice
  split
  · rename_i h1; simp at h1; exact h1.symm
  · show (List.toArray _).size = _
    rw [List.size_toArray, filterMap_len x.cps _ h]
theorem sr1 {a b : Nat} (h : a ≤ b) : sliceRange (a : Int) (b : Int) 1 = (List.range (b - a)).map fun k => a + k := by
  obtain ⟨c, rfl⟩ := Nat.exists_eq_add_of_le h
  have e : (if (a : Int) < ((a + c : Nat) : Int) then (((a + c : Nat) : Int) - a + 1 - 1) / 1 else 0) = (c : Int) := by
    rw [Int.ediv_one]
    split <;> lia
  show (List.range (if (a : Int) < ((a + c : Nat) : Int) then (((a + c : Nat) : Int) - a + 1 - 1) / 1 else 0).toNat).map _ = _
  rw [e, Int.toNat_natCast, Nat.add_sub_cancel_left]
  refine List.map_congr_left fun k _ => ?_
  rw [Int.one_mul]
  exact Int.toNat_natCast (a + k)
theorem clipN {n l : Nat} (h : n ≤ l) : max 0 (min (if (n : Int) < 0 then (n : Int) + l else n) (l : Int)) = (n : Int) := by
  rw [if_neg (Int.not_lt.mpr (Int.natCast_nonneg n)), Int.min_eq_left (Int.ofNat_le.mpr h), Int.max_eq_right (Int.natCast_nonneg n)]
theorem slice_hiN {x : Str} {n : Nat} (h : n ≤ x.length) : (Txt.slice x none (some (n : Int))).length = n := by
  have e : Builtin.Str.strSliceIndices none (some (n : Int)) 1 x.length = (List.range (n - 0)).map fun k => 0 + k := by
    show sliceRange ((0 : Nat) : Int) (max 0 (min (if (n : Int) < 0 then (n : Int) + x.length else n) (x.length : Int))) 1 = _
    rw [clipN h, sr1 (Nat.zero_le n)]
  rw [slice_len, e, List.length_map, List.length_range]
  · rfl
  · rw [e]; intro i hi
    obtain ⟨j, hj, rfl⟩ := List.mem_map.mp hi
    rw [Nat.zero_add]; exact Nat.lt_of_lt_of_le (List.mem_range.mp hj) h
theorem slice_loN {x : Str} {n : Nat} (h : n ≤ x.length) : (Txt.slice x (some (n : Int)) none).length = x.length - n := by
  have e : Builtin.Str.strSliceIndices (some (n : Int)) none 1 x.length = (List.range (x.length - n)).map fun k => n + k := by
    show sliceRange (max 0 (min (if (n : Int) < 0 then (n : Int) + x.length else n) (x.length : Int))) (x.length : Int) 1 = _
    rw [clipN h, sr1 h]
  rw [slice_len, e, List.length_map, List.length_range]
  rw [e]; intro i hi
  obtain ⟨j, hj, rfl⟩ := List.mem_map.mp hi
  exact Nat.add_lt_of_lt_sub' (List.mem_range.mp hj)
theorem glued_lt (ps : List Str) : ∀ (acc : Array Nat), (∀ c ∈ acc.toList, letB c = true) → (∀ p ∈ ps, Lt p ∧ p.length = 1) →
    (∀ c ∈ (ps.foldl (fun acc p => acc ++ (Str.ofString "").cps ++ p.cps) acc).toList, letB c = true) ∧ (ps.foldl (fun acc p => acc ++ (Str.ofString "").cps ++ p.cps) acc).size = acc.size + ps.length := by
  have e0 : (Str.ofString "").cps = #[] := by decide +kernel
  rw [e0]
  induction ps with
  | nil => intro acc h _; exact ⟨h, rfl⟩
  | cons p ps ih =>
    intro acc h hp
    have h1 := hp p (.head _)
    have := ih (acc ++ #[] ++ p.cps) (by
      intro c hc
      simp only [Array.append_empty, Array.toList_append, List.mem_append] at hc
      rcases hc with hc | hc
      · exact h c hc
      · exact h1.1 c hc) (fun q hq => hp q (.tail _ hq))
    refine ⟨this.1, ?_⟩
    rw [List.foldl_cons, this.2]
    have : p.cps.size = 1 := h1.2
    simp [this]; lia
theorem join_lt {ps : List Str} (hp : ∀ p ∈ ps, Lt p ∧ p.length = 1) : Lt (Txt.join "" ps) ∧ (Txt.join "" ps).length = ps.length := by
  unfold Txt.join Builtin.Str.glued
  cases ps with
  | nil => exact ⟨fun c hc => by simp [Str.empty] at hc, rfl⟩
  | cons p ps =>
    have h1 := hp p (.head _)
    have := glued_lt ps p.cps h1.1 fun q hq => hp q (.tail _ hq)
    refine ⟨this.1, ?_⟩
    show (ps.foldl (fun acc p => acc ++ (Str.ofString "").cps ++ p.cps) p.cps).size = _
    rw [this.2]
    have : p.cps.size = 1 := h1.2
    simp [this]; lia
theorem joinOk_small {ps : List Str} (hp : ∀ p ∈ ps, p.length = 1) (hl : ps.length ≤ 1000) : JoinOk "" ps = true := by
  unfold JoinOk
  have e0 : (Str.ofString "").length = 0 := by decide +kernel
  have : ∀ (l : List Str) (n : Nat), (∀ p ∈ l, p.length = 1) → l.foldl (fun (a : Nat) (p : Str) => a + p.length + (Str.ofString "").length) n = n + l.length := by
    intro l
    induction l with
    | nil => intro n _; rfl
    | cons p l ih => intro n h; rw [List.foldl_cons, ih _ (fun q hq => h q (.tail _ hq)), h p (.head _), e0]; simp; lia
  have h2 : ps.toArray.foldl (fun (a : Nat) (p : Str) => a + p.length + (Str.ofString "").length) 0 = ps.length := by
    rw [← Array.foldl_toList]; rw [this _ _ hp]; simp
  rw [h2]
  unfold Builtin.Str.tooLong
  simp
  show ps.length ≤ 16777216
  lia
theorem filterMap_lenL {α : Type} (xs : List α) : ∀ (l : List Nat), (∀ i ∈ l, i < xs.length) → (l.filterMap (xs[·]?)).length = l.length
  | [], _ => rfl
  | i :: l, h => by
    have hi := h i (.head _)
    rw [List.filterMap_cons, List.getElem?_eq_getElem hi]
    simp [filterMap_lenL xs l fun j hj => h j (.tail _ hj)]
theorem srm {n : Nat} : sliceRange ((n : Int) - 1) (-1) (-1) = (List.range n).map fun k => n - 1 - k := by
  have e : (if (n : Int) - 1 > -1 then ((n : Int) - 1 - -1 - -1 - 1) / -(-1) else 0) = (n : Int) := by
    rw [show -(-1 : Int) = 1 from rfl, Int.ediv_one]
    split <;> lia
  show (List.range (if (n : Int) - 1 > -1 then ((n : Int) - 1 - -1 - -1 - 1) / -(-1) else 0).toNat).map _ = _
  rw [e, Int.toNat_natCast]
  exact List.map_congr_left fun k hk => by have := List.mem_range.mp hk; lia
theorem tuX {n j : Nat} (hj : j < n) : n - 1 - j < n := Nat.lt_of_le_of_lt (Nat.sub_le _ _) (Nat.sub_lt (Nat.lt_of_le_of_lt (Nat.zero_le _) hj) Nat.one_pos)
theorem slL_turn {xs : List V} {k : Int} (h : k = 1 ∨ k = -1) : (slL xs none none (some k)).length = xs.length := by
  have key : ∀ l : List Nat, (∀ i ∈ l, i < xs.length) → l.length = xs.length → (l.filterMap (xs[·]?)).length = xs.length := fun l h1 h2 => (filterMap_lenL xs l h1).trans h2
  rcases h with rfl | rfl
  · have e : sliceRange ((0 : Nat) : Int) (xs.length : Int) 1 = _ := sr1 (Nat.zero_le xs.length)
    show ((sliceRange ((0 : Nat) : Int) (xs.length : Int) 1).filterMap (xs[·]?)).length = _
    rw [e]
    refine key _ (fun i hi => ?_) (by rw [List.length_map, List.length_range]; rfl)
    obtain ⟨j, hj, rfl⟩ := List.mem_map.mp hi
    rw [Nat.zero_add]; exact List.mem_range.mp hj
  · show ((sliceRange ((xs.length : Int) - 1) (-1) (-1)).filterMap (xs[·]?)).length = _
    rw [srm]
    refine key _ (fun i hi => ?_) (by rw [List.length_map, List.length_range])
    obtain ⟨j, hj, rfl⟩ := List.mem_map.mp hi
    have hj := List.mem_range.mp hj
    exact tuX hj
theorem let_size : ("abcdefghijklmnopqrstuvwxyz" : Str).cps.size = 26 := by decide +kernel
theorem let_lt : Lt ("abcdefghijklmnopqrstuvwxyz" : Str) := by
  have : ("abcdefghijklmnopqrstuvwxyz" : Str).cps.toList.all letB = true := by decide +kernel
  intro c hc
  exact List.all_eq_true.mp this c hc
theorem letters_at {k : Int} (h0 : 0 ≤ k) (h1 : k < 26) : ∃ c, ("abcdefghijklmnopqrstuvwxyz" : Str).cps[k.toNat]? = some c ∧ letB c = true := by
  have hk : k.toNat < ("abcdefghijklmnopqrstuvwxyz" : Str).cps.size := by rw [let_size]; lia
  refine ⟨_, Array.getElem?_eq_getElem hk, let_lt _ (by simp)⟩
theorem let_small : ∀ c < 128, (!(Builtin.Str.occurrences ("abcdefghijklmnopqrstuvwxyz" : Str) ⟨#[c]⟩ 0 (Str.length "abcdefghijklmnopqrstuvwxyz") 1).isEmpty) = letB c := by
  decide +kernel
theorem let_in {c : Nat} (h : letB c = true) : (!(Builtin.Str.occurrences ("abcdefghijklmnopqrstuvwxyz" : Str) ⟨#[c]⟩ 0 (Str.length "abcdefghijklmnopqrstuvwxyz") 1).isEmpty) = true := by
  rw [let_small c (by simp [letB] at h; lia)]; exact h
theorem one_lt {c : Nat} (h : letB c = true) : Lt ⟨#[c]⟩ := by
  intro k hk
  simp at hk
  subst hk; exact h
structure Ware (x : Str) : Prop where
  lo : 1 ≤ x.length
  hi : x.length ≤ 8
  lt : Lt x
end Mine

set_option autoImplicit false
set_option linter.unusedVariables false
namespace Mine
open PySem
inductive Bf (nx : Str → List Str) : Nat → List Str → List Str → List Str → Prop
  | nil {f : List Str} : Bf nx 0 f [] f
  | skip {n : Nat} {f w r : List Str} {x : Str} : x ∈ f → Bf nx n f w r → Bf nx (n + 1) f (x :: w) r
  | take {n : Nat} {f w r : List Str} {x : Str} : x ∉ f → Bf nx n (f ++ [x]) (w ++ nx x) r → Bf nx (n + 1) f (x :: w) r
section
variable {nx : Str → List Str}
theorem Bf.len {n : Nat} {f w r : List Str} (h : Bf nx n f w r) : w.length ≤ n := by
  induction h with
  | nil => exact Nat.le_refl _
  | skip _ _ ih => simp; lia
  | take _ _ ih => simp at ih ⊢; lia
theorem Bf.rlen {n : Nat} {f w r : List Str} (h : Bf nx n f w r) : r.length ≤ f.length + n := by
  induction h with
  | nil => exact Nat.le_refl _
  | skip _ _ ih => lia
  | take _ _ ih => simp at ih; lia
theorem Bf.all {P : Str → Prop} (hn : ∀ x, ∀ y ∈ nx x, P y) {n : Nat} {f w r : List Str} (h : Bf nx n f w r) : (∀ x ∈ f, P x) → (∀ x ∈ w, P x) → ∀ x ∈ r, P x := by
  induction h with
  | nil => exact fun h _ => h
  | skip _ _ ih => exact fun h1 h2 => ih h1 fun x hx => h2 x (.tail _ hx)
  | @take n f w r x _ _ ih =>
    intro h1 h2
    refine ih (fun y hy => ?_) fun y hy => ?_
    · rcases List.mem_append.mp hy with h | h
      · exact h1 y h
      · rw [List.mem_singleton.mp h]; exact h2 _ (.head _)
    · rcases List.mem_append.mp hy with h | h
      · exact h2 y (.tail _ h)
      · exact hn x y h
theorem Bf.drop {n : Nat} {f u r : List Str} (h : Bf nx n f u r) : ∀ {w1 w2 : List Str} {y : Str}, u = w1 ++ y :: w2 → (y ∈ f ∨ y ∈ w1) → ∃ k, k ≤ n ∧ Bf nx k f (w1 ++ w2) r := by
  induction h with
  | nil => intro w1 w2 y e _; simp at e
  | @skip n f w r x hx h ih =>
    intro w1 w2 y e hy
    cases w1 with
    | nil => simp at e; obtain ⟨rfl, rfl⟩ := e; exact ⟨n, by lia, h⟩
    | cons z w1 =>
      simp at e; obtain ⟨rfl, rfl⟩ := e
      obtain ⟨k, hk, hb⟩ := ih rfl (by
        rcases hy with h | h
        · exact .inl h
        · rcases List.mem_cons.mp h with rfl | h
          · exact .inl hx
          · exact .inr h)
      exact ⟨k + 1, by lia, .skip hx hb⟩
  | @take n f w r x hx h ih =>
    intro w1 w2 y e hy
    cases w1 with
    | nil =>
      simp at e; obtain ⟨rfl, rfl⟩ := e
      rcases hy with h | h
      · exact absurd h hx
      · cases h
    | cons z w1 =>
      simp at e; obtain ⟨rfl, rfl⟩ := e
      obtain ⟨k, hk, hb⟩ := ih (w1 := w1) (w2 := w2 ++ nx x) (y := y) (by simp) (by
        rcases hy with h | h
        · exact .inl (List.mem_append_left _ h)
        · rcases List.mem_cons.mp h with rfl | h
          · exact .inl (List.mem_append_right _ (.head _))
          · exact .inr h)
      exact ⟨k + 1, by lia, .take hx (by simpa using hb)⟩
noncomputable def addNew (f ys : List Str) : List Str := ys.foldl (fun g y => if g.any (· == y) then g else g ++ [y]) f
theorem any_mem {xs : List Str} {k : Str} : xs.any (· == k) = true ↔ k ∈ xs := by simp [List.any_eq_true]
theorem addNew_nodup : ∀ {ys f : List Str}, f.Nodup → (addNew f ys).Nodup
  | [], f, h => h
  | y :: ys, f, h => by
    show (addNew (if f.any (· == y) then f else f ++ [y]) ys).Nodup
    refine addNew_nodup ?_
    by_cases e : f.any (· == y) = true
    · rw [if_pos e]; exact h
    · rw [if_neg e]
      exact List.nodup_append.mpr ⟨h, by simp, fun a ha b hb => by rw [List.mem_singleton.mp hb]; exact fun e2 => e (any_mem.mpr (e2 ▸ ha))⟩
theorem addNew_snoc (f ys : List Str) (y : Str) : addNew f (ys ++ [y]) = if (addNew f ys).any (· == y) then addNew f ys else addNew f ys ++ [y] := by
  unfold addNew; rw [List.foldl_append]; rfl
theorem addNew_len : ∀ (ys f : List Str), (addNew f ys).length ≤ f.length + ys.length
  | [], f => Nat.le_refl _
  | y :: ys, f => by
    show (addNew (if f.any (· == y) then f else f ++ [y]) ys).length ≤ _
    have := addNew_len ys (if f.any (· == y) then f else f ++ [y])
    split at this <;> simp at this ⊢ <;> split <;> simp_all <;> lia
theorem Bf.news {r f : List Str} : ∀ {ys w : List Str} {n : Nat}, Bf nx n f (w ++ ys) r → ∃ k v, k ≤ n ∧ Bf nx k f v r ∧ addNew (f ++ w) ys = f ++ v
  | [], w, n, h => ⟨n, w, Nat.le_refl _, by simpa using h, rfl⟩
  | y :: ys, w, n, h => by
    show ∃ k v, k ≤ n ∧ Bf nx k f v r ∧ addNew (if (f ++ w).any (· == y) then f ++ w else (f ++ w) ++ [y]) ys = f ++ v
    by_cases e : (f ++ w).any (· == y) = true
    · rw [if_pos e]
      obtain ⟨k, hk, hb⟩ := h.drop rfl (List.mem_append.mp (any_mem.mp e))
      obtain ⟨k', v, hk', hb', e'⟩ := Bf.news hb
      exact ⟨k', v, by lia, hb', e'⟩
    · rw [if_neg e]
      obtain ⟨k', v, hk', hb', e'⟩ := Bf.news (ys := ys) (w := w ++ [y]) (n := n) (by simpa using h)
      exact ⟨k', v, hk', hb', by rw [← e']; simp⟩
noncomputable def rest (nx : Str → List Str) (U f : List Str) : Nat := ((U.filter fun x => !f.any (· == x)).map fun x => (nx x).length).sum
theorem rest_le (U f : List Str) (x : Str) : rest nx U (f ++ [x]) ≤ rest nx U f := by
  induction U with
  | nil => exact Nat.le_refl _
  | cons u U ih =>
    unfold rest at *
    simp only [List.filter_cons]
    by_cases e : f.any (· == u) = true
    · have e2 : (f ++ [x]).any (· == u) = true := by rw [List.any_append, e]; rfl
      simp only [e, e2, Bool.not_true, Bool.false_eq_true, if_false]; exact ih
    · have e' : f.any (· == u) = false := eq_false_of_ne_true e
      simp only [e', Bool.not_false, if_true]
      split
      · simp only [List.map_cons, List.sum_cons]; lia
      · simp only [List.map_cons, List.sum_cons]; lia
theorem rest_lt {U f : List Str} {x : Str} (hx : x ∈ U) (hf : x ∉ f) : rest nx U (f ++ [x]) + (nx x).length ≤ rest nx U f := by
  induction U with
  | nil => cases hx
  | cons u U ih =>
    by_cases e : u = x
    · subst e
      have h1 : f.any (· == u) = false := by
        cases h : f.any (· == u) with
        | false => rfl
        | true => exact absurd (any_mem.mp h) hf
      have h2 : (f ++ [u]).any (· == u) = true := any_mem.mpr (by simp)
      have := rest_le (nx := nx) U f u
      unfold rest at *
      simp only [List.filter_cons, h1, h2, Bool.not_true, Bool.not_false, Bool.false_eq_true, if_false, if_true, List.map_cons, List.sum_cons]
      lia
    · have ih := ih (by
        rcases List.mem_cons.mp hx with h | h
        · exact absurd h.symm e
        · exact h)
      have h2 : (f ++ [x]).any (· == u) = f.any (· == u) := by
        rw [List.any_append]
        have : ([x].any fun y => y == u) = false := by simp; exact fun h => e h.symm
        rw [this, Bool.or_false]
      unfold rest at *
      simp only [List.filter_cons, h2]
      split
      · simp only [List.map_cons, List.sum_cons]; lia
      · exact ih
theorem bf_ex {U : List Str} (hU : ∀ x, x ∉ U → nx x = []) : ∀ (n : Nat) (f w : List Str), w.length + rest nx U f ≤ n → ∃ k r, k ≤ n ∧ Bf nx k f w r
  | n, f, [], _ => ⟨0, f, Nat.zero_le _, .nil⟩
  | 0, f, x :: w, h => by simp at h
  | n + 1, f, x :: w, h => by
    simp at h
    by_cases e : x ∈ f
    · obtain ⟨k, r, hk, hb⟩ := bf_ex hU n f w (by lia)
      exact ⟨k + 1, r, by lia, .skip e hb⟩
    · obtain ⟨k, r, hk, hb⟩ := bf_ex hU n (f ++ [x]) (w ++ nx x) (by
        by_cases hx : x ∈ U
        · have := rest_lt (nx := nx) hx e; simp; lia
        · have := rest_le (nx := nx) U f x; rw [hU x hx]; simp; lia)
      exact ⟨k + 1, r, by lia, .take e hb⟩
theorem rest_max {U f : List Str} {b : Nat} (h : ∀ x, (nx x).length ≤ b) : rest nx U f ≤ b * U.length := by
  induction U with
  | nil => exact Nat.zero_le _
  | cons u U ih =>
    have := h u
    unfold rest at *
    simp only [List.filter_cons]
    rw [List.length_cons, Nat.mul_succ]
    split
    · simp; lia
    · lia
end
end Mine

set_option autoImplicit false
set_option linter.unusedVariables false
namespace Mine
open PySem
section
variable {nx : Str → List Str}
theorem Bf.pre {n : Nat} {f w r : List Str} (h : Bf nx n f w r) : f <+: r := by
  induction h with
  | nil => exact List.prefix_refl _
  | skip _ _ ih => exact ih
  | take _ _ ih => exact List.IsPrefix.trans (List.prefix_append _ _) ih
theorem Bf.src {n : Nat} {f w r : List Str} (h : Bf nx n f w r) : ∀ {j : Nat} {x : Str}, f.length ≤ j → r[j]? = some x → x ∈ w ∨ ∃ i y, i < j ∧ r[i]? = some y ∧ x ∈ nx y := by
  induction h with
  | nil => intro j x hj hx; rw [List.getElem?_eq_none hj] at hx; cases hx
  | skip _ _ ih =>
    intro j x hj hx
    rcases ih hj hx with h | h
    · exact .inl (.tail _ h)
    · exact .inr h
  | @take n f w r x0 _ hb ih =>
    intro j x hj hx
    have h0 : r[f.length]? = some x0 := by
      obtain ⟨t, rfl⟩ := hb.pre
      rw [List.append_assoc, List.getElem?_append_right (Nat.le_refl _), Nat.sub_self]; rfl
    rcases Nat.eq_or_lt_of_le hj with e | hlt
    · rw [← e, h0] at hx; cases hx; exact .inl (.head _)
    · rcases ih (by rw [List.length_append]; exact hlt) hx with h | h
      · rcases List.mem_append.mp h with h | h
        · exact .inl (.tail _ h)
        · exact .inr ⟨_, x0, hlt, h0, h⟩
      · exact .inr h
noncomputable def ahead (f g : Str → Option Int) : List Str → Bool
  | [] => false
  | w :: ws => if f w = g w then ahead f g ws else decide ((g w).getD 0 < (f w).getD 0)
theorem ahead_eq {f g : Str → Option Int} {w : Str} (ws : List Str) (h : f w = g w) : ahead f g (w :: ws) = ahead f g ws := if_pos h
theorem ahead_ne {f g : Str → Option Int} {w : Str} {a b : Int} (ws : List Str) (h1 : f w = some a) (h2 : g w = some b) (h : a ≠ b) : ahead f g (w :: ws) = decide (b < a) := by
  unfold ahead; rw [h1, h2, if_neg (fun e => h (Option.some.inj e))]; rfl
theorem drop_at {α : Type} : ∀ {l : List α} {j : Nat} {x : α}, l[j]? = some x → l.drop j = x :: l.drop (j + 1)
  | [], _, _, h => by simp at h
  | a :: l, 0, x, h => by simp at h; subst h; rfl
  | a :: l, j + 1, x, h => drop_at (l := l) (by simpa using h)
end
end Mine

set_option autoImplicit false
set_option linter.unusedVariables false
namespace Mine
open PySem
section
variable {nx nx1 nx2 : Str → List Str}
theorem Bf.nodup {n : Nat} {f w r : List Str} (h : Bf nx n f w r) : f.Nodup → r.Nodup := by
  induction h with
  | nil => exact id
  | skip _ _ ih => exact ih
  | take hx _ ih => exact fun hf => ih (List.nodup_append.mpr ⟨hf, by simp, fun a ha b hb => by rw [List.mem_singleton.mp hb]; exact fun e => hx (e ▸ ha)⟩)
theorem Bf.det {n1 n2 : Nat} {f w r1 r2 : List Str} (h : Bf nx n1 f w r1) : Bf nx n2 f w r2 → r1 = r2 := by
  induction h generalizing n2 with
  | nil => intro h2; cases h2; rfl
  | skip hx _ ih => intro h2; cases h2 with
    | skip _ h2 => exact ih h2
    | take hn _ => exact absurd hx hn
  | take hx _ ih => intro h2; cases h2 with
    | skip h _ => exact absurd h hx
    | take _ h2 => exact ih h2
theorem Bf.closed {n : Nat} {f w r : List Str} (h : Bf nx n f w r) : (∀ x ∈ f, x ∈ r) ∧ (∀ x ∈ w, x ∈ r) ∧ ∀ y ∈ r, y ∉ f → ∀ x ∈ nx y, x ∈ r := by
  induction h with
  | nil => exact ⟨fun _ h => h, (fun _ h => by cases h), fun y hy hn => absurd hy hn⟩
  | skip hx _ ih =>
    obtain ⟨h1, h2, h3⟩ := ih
    refine ⟨h1, fun x hx' => ?_, h3⟩
    rcases List.mem_cons.mp hx' with rfl | h
    · exact h1 _ hx
    · exact h2 _ h
  | @take n f w r x hx _ ih =>
    obtain ⟨h1, h2, h3⟩ := ih
    refine ⟨fun y hy => h1 y (List.mem_append_left _ hy), fun y hy => ?_, fun y hy hn z hz => ?_⟩
    · rcases List.mem_cons.mp hy with rfl | h
      · exact h1 _ (List.mem_append_right _ (.head _))
      · exact h2 _ (List.mem_append_left _ h)
    · by_cases e : y = x
      · subst e; exact h2 z (List.mem_append_right _ hz)
      · exact h3 y hy (fun h => by
          rcases List.mem_append.mp h with h | h
          · exact hn h
          · exact e (List.mem_singleton.mp h)) z hz
theorem Bf.agree {n1 n2 : Nat} {f w r1 r2 : List Str} {m : Nat} (h : Bf nx1 n1 f w r1) : Bf nx2 n2 f w r2 → (∀ x ∈ r1.take m, nx1 x = nx2 x) → r1.take (m + 1) = r2.take (m + 1) := by
  induction h generalizing n2 with
  | nil => intro h2 _; cases h2; rfl
  | skip hx _ ih => intro h2 ha; cases h2 with
    | skip _ h2 => exact ih h2 ha
    | take hn _ => exact absurd hx hn
  | @take n f w r x hx hb ih => intro h2 ha; cases h2 with
    | skip h _ => exact absurd h hx
    | take _ h2 =>
      by_cases hl : f.length < m
      · have h0 : x ∈ r.take m := List.mem_iff_getElem?.mpr ⟨f.length, by
          rw [List.getElem?_take_of_lt hl]
          obtain ⟨t, rfl⟩ := hb.pre
          rw [List.append_assoc, List.getElem?_append_right (Nat.le_refl _), Nat.sub_self]; rfl⟩
        rw [← ha x h0] at h2
        exact ih h2 ha
      · obtain ⟨t, rfl⟩ := hb.pre
        obtain ⟨t2, rfl⟩ := h2.pre
        have : m + 1 ≤ (f ++ [x]).length := by rw [List.length_append]; simp; lia
        rw [List.take_append_of_le_length this, List.take_append_of_le_length this]
end
end Mine

set_option autoImplicit false
set_option linter.unusedVariables false
set_option linter.unusedSimpArgs false
set_option Elab.async false
set_option maxRecDepth 100000
set_option maxHeartbeats 8000000
namespace Mine
open PySem
noncomputable abbrev K1 (C : Cx) : W.Frag := hd10.heap_1 C.w.params
structure G1 (C : Cx) : Prop where
  kin : (K1 C).In C.base
  bi : ∀ x : Str, x ≠ "__name__" → C.mb x = bootBuiltins x
  ns : NoSys C
section
variable {C : Cx}
theorem glF (H : G1 C) {x : Str} {v : Value} {X : V} (e : W.nsIn (K1 C) mainGlobals x = some (some v)) (hv : VR C.w (fun _ => none) v X) : GlobR C x X := ⟨v, hv, .inl (W.mg_of H.kin C.hg e)⟩
theorem glB (H : G1 C) {x : Str} {v : Value} {X : V} (e : W.nsIn (K1 C) mainGlobals x = some none) (hb : bootBuiltins x = some v) (hv : VR C.w (fun _ => none) v X) (hn : x ≠ "__name__" := by decide +kernel) : GlobR C x X :=
  ⟨v, hv, .inr ⟨W.mg_none_of H.kin C.hg e, (H.bi x hn).trans hb⟩⟩
end
section
variable {C : Cx}
theorem g_isinstance (H : G1 C) : GlobR C "isinstance" (.bi "isinstance") := glB H (by rfl) (by decide +kernel) (.bi _)
theorem g_str (H : G1 C) : GlobR C "str" (.type "str") := glB H (by rfl) (by decide +kernel) (.type _)
theorem g_len (H : G1 C) : GlobR C "len" (.bi "len") := glB H (by rfl) (by decide +kernel) (.bi _)
theorem g_MOST_LETTERS (H : G1 C) : GlobR C "MOST_LETTERS" (.int 8) := glF H (by rfl) (.int _ _)
theorem g_all (H : G1 C) : GlobR C "all" (.bi "all") := glB H (by rfl) (by decide +kernel) (.bi _)
theorem g_LETTERS (H : G1 C) : GlobR C "LETTERS" (.str "abcdefghijklmnopqrstuvwxyz") := glF H (by rfl) (.str _ _)
theorem g_int (H : G1 C) : GlobR C "int" (.type "int") := glB H (by rfl) (by decide +kernel) (.type _)
theorem g_bool (H : G1 C) : GlobR C "bool" (.type "bool") := glB H (by rfl) (by decide +kernel) (.type _)
theorem g_MOST_MAKE (H : G1 C) : GlobR C "MOST_MAKE" (.int 999) := glF H (by rfl) (.int _ _)
theorem g_tuple (H : G1 C) : GlobR C "tuple" (.type "tuple") := glB H (by rfl) (by decide +kernel) (.type _)
theorem g_is_ware (H : G1 C) : GlobR C "is_ware" (.ref 123) := glF H (by rfl) (.ref _)
theorem g_is_make (H : G1 C) : GlobR C "is_make" (.ref 130) := glF H (by rfl) (.ref _)
theorem g_list (H : G1 C) : GlobR C "list" (.type "list") := glB H (by rfl) (by decide +kernel) (.type _)
theorem g_MOST_WISHES (H : G1 C) : GlobR C "MOST_WISHES" (.int 8) := glF H (by rfl) (.int _ _)
theorem g_BadWish (H : G1 C) : GlobR C "BadWish" (.ref 116) := glF H (by rfl) (.ref _)
theorem g_is_need (H : G1 C) : GlobR C "is_need" (.ref 137) := glF H (by rfl) (.ref _)
theorem g_is_number (H : G1 C) : GlobR C "is_number" (.ref 163) := glF H (by rfl) (.ref _)
theorem g_is_granted (H : G1 C) : GlobR C "is_granted" (.ref 170) := glF H (by rfl) (.ref _)
theorem g_reversed (H : G1 C) : GlobR C "reversed" (.type "reversed") := glB H (by rfl) (by decide +kernel) (.type _)
theorem g_within (H : G1 C) : GlobR C "within" (.ref 144) := glF H (by rfl) (.ref _)
theorem g_range (H : G1 C) : GlobR C "range" (.type "range") := glB H (by rfl) (by decide +kernel) (.type _)
theorem g_enumerate (H : G1 C) : GlobR C "enumerate" (.type "enumerate") := glB H (by rfl) (by decide +kernel) (.type _)
theorem g_dict (H : G1 C) : GlobR C "dict" (.type "dict") := glB H (by rfl) (by decide +kernel) (.type _)
theorem g_stretch_of (H : G1 C) : GlobR C "stretch_of" (.ref 177) := glF H (by rfl) (.ref _)
theorem g_clash (H : G1 C) : GlobR C "clash" (.ref 194) := glF H (by rfl) (.ref _)
theorem g_agenda_of (H : G1 C) : GlobR C "agenda_of" (.ref 156) := glF H (by rfl) (.ref _)
theorem g_sources_for (H : G1 C) : GlobR C "sources_for" (.ref 187) := glF H (by rfl) (.ref _)
theorem g_left_by (H : G1 C) : GlobR C "left_by" (.ref 182) := glF H (by rfl) (.ref _)
theorem g_outside (H : G1 C) : GlobR C "outside" (.ref 201) := glF H (by rfl) (.ref _)
theorem g_settled (H : G1 C) : GlobR C "settled" (.ref 206) := glF H (by rfl) (.ref _)
theorem g_need_wish (H : G1 C) : GlobR C "need_wish" (.ref 149) := glF H (by rfl) (.ref _)
theorem g_MOST_NEEDS (H : G1 C) : GlobR C "MOST_NEEDS" (.int 6) := glF H (by rfl) (.int _ _)
theorem g_BadNeed (H : G1 C) : GlobR C "BadNeed" (.ref 68) := glF H (by rfl) (.ref _)
theorem g_BadWare (H : G1 C) : GlobR C "BadWare" (.ref 44) := glF H (by rfl) (.ref _)
theorem g_BadMake (H : G1 C) : GlobR C "BadMake" (.ref 56) := glF H (by rfl) (.ref _)
theorem g_need_needs (H : G1 C) : GlobR C "need_needs" (.ref 220) := glF H (by rfl) (.ref _)
theorem g_Twice (H : G1 C) : GlobR C "Twice" (.ref 80) := glF H (by rfl) (.ref _)
theorem g_MOST_WARES (H : G1 C) : GlobR C "MOST_WARES" (.int 12) := glF H (by rfl) (.int _ _)
theorem g_Full (H : G1 C) : GlobR C "Full" (.ref 92) := glF H (by rfl) (.ref _)
theorem g_MOST_MAKES (H : G1 C) : GlobR C "MOST_MAKES" (.int 8) := glF H (by rfl) (.int _ _)
theorem g__wall (H : G1 C) : GlobR C "_wall" (.ref 21) := glF H (by rfl) (.ref _)
theorem g_sorted (H : G1 C) : GlobR C "sorted" (.bi "sorted") := glB H (by rfl) (by decide +kernel) (.bi _)
theorem g_NoMake (H : G1 C) : GlobR C "NoMake" (.ref 104) := glF H (by rfl) (.ref _)
theorem g__law_mixed (H : G1 C) : GlobR C "_law_mixed" (.ref 290) := glF H (by rfl) (.ref _)
theorem g_min (H : G1 C) : GlobR C "min" (.bi "min") := glB H (by rfl) (by decide +kernel) (.bi _)
theorem g_max (H : G1 C) : GlobR C "max" (.bi "max") := glB H (by rfl) (by decide +kernel) (.bi _)
theorem g__law_stretch (H : G1 C) : GlobR C "_law_stretch" (.ref 302) := glF H (by rfl) (.ref _)
theorem g__law_names (H : G1 C) : GlobR C "_law_names" (.ref 295) := glF H (by rfl) (.ref _)
theorem g__law_needs (H : G1 C) : GlobR C "_law_needs" (.ref 307) := glF H (by rfl) (.ref _)
theorem g_Shop (H : G1 C) : GlobR C "Shop" (.ref 279) := glF H (by rfl) (.ref _)
theorem g__law_agenda (H : G1 C) : GlobR C "_law_agenda" (.ref 331) := glF H (by rfl) (.ref _)
theorem g__law_meets (H : G1 C) : GlobR C "_law_meets" (.ref 338) := glF H (by rfl) (.ref _)
theorem g__law_rows (H : G1 C) : GlobR C "_law_rows" (.ref 312) := glF H (by rfl) (.ref _)
theorem g__law_wish (H : G1 C) : GlobR C "_law_wish" (.ref 319) := glF H (by rfl) (.ref _)
theorem g__law_all_picks (H : G1 C) : GlobR C "_law_all_picks" (.ref 343) := glF H (by rfl) (.ref _)
theorem g_settle (H : G1 C) : GlobR C "settle" (.ref 213) := glF H (by rfl) (.ref _)
theorem g__law_shop (H : G1 C) : GlobR C "_law_shop" (.ref 326) := glF H (by rfl) (.ref _)
theorem g__law_ahead (H : G1 C) : GlobR C "_law_ahead" (.ref 350) := glF H (by rfl) (.ref _)
theorem c__wall (H : G1 C) : Callee C (.ref 21) := callee_at H.kin rfl rfl
theorem c_is_ware (H : G1 C) : Callee C (.ref 123) := callee_at H.kin rfl rfl
theorem c_is_make (H : G1 C) : Callee C (.ref 130) := callee_at H.kin rfl rfl
theorem c_is_need (H : G1 C) : Callee C (.ref 137) := callee_at H.kin rfl rfl
theorem c_within (H : G1 C) : Callee C (.ref 144) := callee_at H.kin rfl rfl
theorem c_need_wish (H : G1 C) : Callee C (.ref 149) := callee_at H.kin rfl rfl
theorem c_agenda_of (H : G1 C) : Callee C (.ref 156) := callee_at H.kin rfl rfl
theorem c_is_number (H : G1 C) : Callee C (.ref 163) := callee_at H.kin rfl rfl
theorem c_is_granted (H : G1 C) : Callee C (.ref 170) := callee_at H.kin rfl rfl
theorem c_stretch_of (H : G1 C) : Callee C (.ref 177) := callee_at H.kin rfl rfl
theorem c_left_by (H : G1 C) : Callee C (.ref 182) := callee_at H.kin rfl rfl
theorem c_sources_for (H : G1 C) : Callee C (.ref 187) := callee_at H.kin rfl rfl
theorem c_clash (H : G1 C) : Callee C (.ref 194) := callee_at H.kin rfl rfl
theorem c_outside (H : G1 C) : Callee C (.ref 201) := callee_at H.kin rfl rfl
theorem c_settled (H : G1 C) : Callee C (.ref 206) := callee_at H.kin rfl rfl
theorem c_settle (H : G1 C) : Callee C (.ref 213) := callee_at H.kin rfl rfl
theorem c_need_needs (H : G1 C) : Callee C (.ref 220) := callee_at H.kin rfl rfl
theorem c_Shop___init__ (H : G1 C) : Callee C (.ref 234) := callee_at H.kin rfl rfl
theorem c_Shop_has (H : G1 C) : Callee C (.ref 241) := callee_at H.kin rfl rfl
theorem c_Shop_put (H : G1 C) : Callee C (.ref 248) := callee_at H.kin rfl rfl
theorem c_Shop_take (H : G1 C) : Callee C (.ref 255) := callee_at H.kin rfl rfl
theorem c_Shop_makes (H : G1 C) : Callee C (.ref 262) := callee_at H.kin rfl rfl
theorem c_Shop_needs (H : G1 C) : Callee C (.ref 269) := callee_at H.kin rfl rfl
theorem c_Shop_wares (H : G1 C) : Callee C (.ref 276) := callee_at H.kin rfl rfl
theorem c__law_mixed (H : G1 C) : Callee C (.ref 290) := callee_at H.kin rfl rfl
theorem c__law_names (H : G1 C) : Callee C (.ref 295) := callee_at H.kin rfl rfl
theorem c__law_stretch (H : G1 C) : Callee C (.ref 302) := callee_at H.kin rfl rfl
theorem c__law_needs (H : G1 C) : Callee C (.ref 307) := callee_at H.kin rfl rfl
theorem c__law_rows (H : G1 C) : Callee C (.ref 312) := callee_at H.kin rfl rfl
theorem c__law_wish (H : G1 C) : Callee C (.ref 319) := callee_at H.kin rfl rfl
theorem c__law_shop (H : G1 C) : Callee C (.ref 326) := callee_at H.kin rfl rfl
theorem c__law_agenda (H : G1 C) : Callee C (.ref 331) := callee_at H.kin rfl rfl
theorem c__law_meets (H : G1 C) : Callee C (.ref 338) := callee_at H.kin rfl rfl
theorem c__law_all_picks (H : G1 C) : Callee C (.ref 343) := callee_at H.kin rfl rfl
theorem c__law_ahead (H : G1 C) : Callee C (.ref 350) := callee_at H.kin rfl rfl
theorem c_law (H : G1 C) : Callee C (.ref 355) := callee_at H.kin rfl rfl
theorem n_Shop (H : G1 C) : ClassAt C (K1 C) 279 234 := ⟨H.kin, rfl, rfl, rfl, rfl⟩
theorem m_Shop_has (H : G1 C) : MethAt C (K1 C) 279 "has" 241 := ⟨H.kin, rfl, rfl, rfl, rfl, c_Shop_has H⟩
theorem m_Shop_put (H : G1 C) : MethAt C (K1 C) 279 "put" 248 := ⟨H.kin, rfl, rfl, rfl, rfl, c_Shop_put H⟩
theorem m_Shop_take (H : G1 C) : MethAt C (K1 C) 279 "take" 255 := ⟨H.kin, rfl, rfl, rfl, rfl, c_Shop_take H⟩
theorem m_Shop_makes (H : G1 C) : MethAt C (K1 C) 279 "makes" 262 := ⟨H.kin, rfl, rfl, rfl, rfl, c_Shop_makes H⟩
theorem m_Shop_needs (H : G1 C) : MethAt C (K1 C) 279 "needs" 269 := ⟨H.kin, rfl, rfl, rfl, rfl, c_Shop_needs H⟩
theorem m_Shop_wares (H : G1 C) : MethAt C (K1 C) 279 "wares" 276 := ⟨H.kin, rfl, rfl, rfl, rfl, c_Shop_wares H⟩
theorem a_Shop_kept (H : G1 C) : AttrAt C (K1 C) 279 "kept" := ⟨H.kin, rfl, ⟨_, rfl, rfl⟩, rfl⟩
theorem s_Shop_kept (H : G1 C) : StoreAt C (K1 C) 279 "kept" := ⟨H.kin, rfl, rfl, rfl, rfl⟩
end
end Mine
set_option autoImplicit false
set_option linter.unusedVariables false
set_option linter.unusedSimpArgs false
set_option Elab.async false
set_option maxRecDepth 100000
set_option maxHeartbeats 8000000
namespace Mine
open PySem
def alts (ns : List Lean.Name) : Lean.MacroM (Lean.TSyntax `tactic) := do
  let ts ← ns.toArray.mapM fun n => `(Lean.Parser.Tactic.tacticSeq| refine $(Lean.mkIdent n) ?_)
  `(tactic| first $[| $ts]*)
set_option hygiene false in
def useArg (c : String) : Lean.MacroM (Lean.TSyntax `term) := do
  let nm := (c.drop 1).toString.toName
  if c == "h" then `(?_) else if c == "a" then `((by assumption)) else if c == "w" then `((by walk_at "at")) else if c == "k" then `((by decide +kernel)) else if c == "d" then `((by with_unfolding_all decide))
  else if c == "r" then `((by with_unfolding_all exact rfl)) else if c == "3" then `((fun _ _ _ => ?_)) else if c == "2" then `((fun _ _ => ?_)) else if c == "L" then `((.lst _)) else if c == "N" then `(.none) else if c == "I" then `((.int _))
  else if c == "o" then `((by omega)) else if c == "R" then `((.refL (by assumption)))
  else if c.startsWith "^" then `(($(Lean.mkIdent nm) (by assumption))) else return Lean.mkIdent nm
set_option hygiene false in
def useOne (l : Nat × String × List String) : Lean.MacroM (Lean.TSyntax ``Lean.Parser.Tactic.tacticSeq) := do
  let as ← l.2.2.toArray.mapM useArg
  let n : Lean.TSyntax `term := Lean.mkIdent l.2.1.toName
  let t ← if as.size == 0 then pure n else `($n $as*)
  if l.1 == 0 then `(Lean.Parser.Tactic.tacticSeq| refine $t) else if l.1 == 1 then `(Lean.Parser.Tactic.tacticSeq| refine fnc ($t)) else `(Lean.Parser.Tactic.tacticSeq| refine ⟨$t, ?_⟩)
def useL : List (Nat × String × List String) := [
  (0, "G_tup", ["d", "d", "r", "h"]),
  (1, "w_is_ware", ["a", "a", "h"]),
  (1, "w_is_make", ["a", "a", "a", "h"]),
  (1, "w__law_mixed", ["a", "a", "d", "d", "3"]),
  (0, "G_twoI", ["2"]),
  (0, "letter_at", ["h"]),
  (2, "tyL", ["@At.hd"]),
  (0, "G_strSl", ["N", "I", "a", "h"]),
  (0, "G_strSl", ["I", "N", "a", "h"]),
  (0, "AT_Meth", ["@M_append", "h"]),
  (1, "w_is_need", ["a", "a", "h"]),
  (0, "S_SetSub", ["h"]),
  (0, "attr_kept", ["w", "h"]),
  (0, "inst_kept", ["w", "k", "h"]),
  (2, "tyD", ["w"]),
  (0, "AT_DictN", ["3"]),
  (0, "AT_AttrA", ["^a_Shop_kept", "h"]),
  (0, "AT_Meth", ["@M_get", "h"]),
  (0, "AT_Meth", ["@M_pop", "h"]),
  (0, "AT_Meth", ["@M_setdefault", "h"]),
  (0, "AT_MethA", ["^m_Shop_has", "h"]),
  (1, "w_need_needs", ["a", "w", "a", "h"]),
  (0, "K_max2", ["h"]),
  (0, "K_min2", ["h"]),
  (0, "G_DS", ["w", "a", "a", "h"]),
  (0, "G_DI", ["w", "a", "a", "h"]),
  (0, "AT_CallC0", ["^n_Shop", "h"]),
  (0, "AT_MethA", ["^m_Shop_put", "h"]),
  (0, "G_list", ["@Has.hd", "a", "a", "a", "h"]),
  (0, "AT_MethA", ["^m_Shop_needs", "h"]),
  (2, "tyL", ["w"]),
  (0, "AT_Meth", ["@M_lpop", "h"]),
  (0, "AT_MethA", ["^m_Shop_makes", "h"])]
def uses (ks : List Nat) : Lean.MacroM (Lean.TSyntax `tactic) := do
  let ts ← ks.toArray.mapM fun k => useOne ((useL[k]?).getD (0, "rfl", []))
  `(tactic| first $[| $ts]*)
def parts : List (List Nat) := [[], [0, 1, 2], [3, 4, 5, 6, 7, 8, 9], [0, 10, 11], [12, 13, 14, 1, 2, 15, 16, 17, 18, 19, 20], [12, 13, 14, 1, 2, 21, 15, 16, 17, 18, 19, 20, 11], [22, 23], [6, 22, 0, 9], [6, 14, 9, 15, 11], [6, 14, 9, 17], [13, 24, 25, 26, 27], [28, 24, 10, 13, 20, 29, 6, 9, 0], [24, 25, 30, 9, 31, 0], [0, 24, 13, 29], [24, 25], [14, 18, 24, 11], [30, 15, 9, 24, 11], [24], [1, 2, 14, 17, 13, 29, 0], [14, 6, 9, 24, 13, 29, 32, 0], [6, 9, 13, 29, 0], [30, 9, 13, 32, 0], [0], [24, 0]]
set_option hygiene false in
local macro_rules
  | `(tactic| walk_at "use") => do
    let mut k := 0
    for i in List.range 24 do
      unless (← Lean.Macro.resolveGlobalName (.mkSimple ("part" ++ toString i))).isEmpty do k := i
    uses ((parts[k]?).getD [])
  | `(tactic| walk_at "cmp") => `(tactic| first | refine AB_eqEI (G1.ns (by assumption)) ?_ | refine AB_neEI (G1.ns (by assumption)) ?_)
  | `(tactic| walk_at "isi") => do
    let ts := ["int", "bool", "str", "tuple", "list", "dict"]
    let a ← alts (["int", "bool", "str", "NoneType", "tuple"].flatMap fun p => ts.map fun t => .mkSimple ("I_" ++ p ++ "_" ++ t))
    let bs ← ts.toArray.mapM fun t => `(Lean.Parser.Tactic.tacticSeq| refine $(Lean.mkIdent (.mkSimple ("I_list_" ++ t))) (.lst _) ?_)
    `(tactic| first | (show KW _ _ _ [V.lst _, _] _ _; first $[| $bs]*) | (show KW _ _ _ [V.ref _, _] _ _; fail) | $a:tactic)
  | `(tactic| walk_at "len") => `(tactic| first | (with_unfolding_all exact Nat.le_of_ble_eq_true rfl) | (refine len_ok ?_; omega))
  | `(tactic| walk_at "nz") => `(tactic| first | (with_unfolding_all decide) | omega)
  | `(tactic| walk_at "call") => do
    let a ← alts [`K_max2, `K_min2, `K_range1, `K_range2]
    `(tactic| first
      | (show KW _ _ (V.bi "isinstance") _ _ _; walk_at "isi")
      | refine K_lenL (.lst _) (by walk_at "len") ?_ | refine K_lenT (by walk_at "len") ?_ | refine K_lenS (by walk_at "len") ?_
      | $a:tactic | walk_at "use")
  | `(tactic| walk_at "op") => do
    let a ← alts [`B_add, `B_sub]
    let b ← alts [`C_lt, `C_le, `C_gt, `C_ge, `C_eq, `C_ne, `C_isNone, `C_isNotNone, `C_isBb, `C_isNotBb, `C_leS, `C_neS, `C_eqS, `C_inS]
    `(tactic| first
      | $a:tactic | refine B_mod ?_ (by walk_at "nz") | refine B_div ?_ (by walk_at "nz") (by walk_at "nz") | refine B_mod ?_ ?_ | refine B_div ?_ ?_ ?_ | refine B_mul ?_ (IntMulOk.of_left (by with_unfolding_all decide)) | refine B_mul ?_ ?_
      | $b:tactic | refine B_addS ?_ ?_ | walk_at "use")
  | `(tactic| walk_at "tree") => do
    let a ← alts [`AT_lc, `AT_gc]
    let b ← alts [`AT_int, `AT_str, `AT_bool, `AT_none]
    let c ← alts [`AT_Sub, `AT_BinOp, `AT_Cmp1, `AT_Cmp2, `AT_BoolOp, `AT_andE, `AT_orE, `AT_and1E, `AT_or1E, `AT_Unary, `AT_Tuple, `AT_ListF, `AT_Slice, `AT_IfExp]
    `(tactic| first
      | (show AT _ _ _ _ _ _ (eval (.Name _ _) _) _ _ _; $a:tactic)
      | (show AT _ _ _ _ _ _ (eval (.Constant _ _ _) _) _ _ _; $b:tactic)
      | refine AT_Call ?_ | refine AT_Meth M_join ?_ | $c:tactic | walk_at "use")
  | `(tactic| walk_at "stmt") => do
    let a ← alts [`S_cons, `S_nil, `S_If, `S_Return]
    let b ← alts [`S_Assign, `S_Expr, `S_Pass, `S_ReturnN]
    `(tactic| first
      | $a:tactic | refine S_AssignL0 (fun _ _ _ => ?_) | refine S_AssignD0 (fun _ _ _ => ?_) | $b:tactic | walk_at "use")
  | `(tactic| walk_at "test") => do
    let a ← alts [`AB_Not, `AB_Cmp1, `AB_Cmp2, `AB_BoolOp, `AB_and, `AB_or, `AB_andNil, `AB_orNil, `AB_val]
    `(tactic| first | walk_at "cmp" | $a:tactic)
  | `(tactic| walk_at "logic") => do
    let a ← alts [`Then_ret, `Then_next, `LS_ret, `CutQ_ret, `RetQ_ret, `RetQ_next, `TX_bool, `put_c]
    let b ← alts [`APart_none, `APart_some]
    `(tactic| first
      | $a:tactic
      | refine ⟨TyR_str, ?_⟩ | refine ⟨callee_bi, ?_⟩ | refine ⟨callee_type, ?_⟩ | walk_at "callee"
      | (refine ⟨_, T_bool, fun _ => ?_, fun _ => ?_⟩ <;> try walk_at "dead")
      | (refine ⟨fun _ => ?_, fun _ => ?_⟩ <;> try walk_at "dead")
      | refine ⟨by with_unfolding_all exact Nat.le_of_ble_eq_true rfl, ?_⟩
      | $b:tactic | walk_at "use")
  | `(tactic| walk_at "no") => `(tactic| (exfalso; first | omega | (simp_all; done) | (simp_all; omega)))
  | `(tactic| walk_at "at") => `(tactic| first | assumption | exact At.hd | (refine At.cons _ ?_; walk_at "at"))
  | `(tactic| walk_at "dead") => `(tactic| (exfalso; rename_i hb; revert hb; simp [V.isNone, V.isBool]; done))
  | `(tactic| walk_at "one") => do
    let a ← alts [`AL_cons, `AL_nil]
    `(tactic| with_reducible first
      | (show AT _ _ _ _ _ _ _ _ _ _; walk_at "tree")
      | (show AL _ _ _ _ _ _ _ _ _ _; $a:tactic)
      | (show AC2 _ _ _ _ _ _ _; walk_at "op")
      | (show KW _ _ _ _ _ _; walk_at "call")
      | (show AS _ _ _ _ _ _ _ _ _ _; walk_at "stmt")
      | (show AB _ _ _ _ _ _ _ _ _ _; walk_at "test")
      | (show AC1 _ _ _ _ _ _; first | refine AC1_not T_bool ?_ | refine U_neg ?_)
      | walk_at "logic")
set_option hygiene false in
local macro_rules
  | `(tactic| walk_at "callee") => do
    let ts ← [`c__wall, `c_is_ware, `c_is_make, `c_is_need, `c_within, `c_need_wish, `c_agenda_of, `c_is_number, `c_is_granted, `c_stretch_of, `c_left_by, `c_sources_for, `c_clash, `c_outside, `c_settled, `c_settle, `c_need_needs, `c_Shop___init__, `c_Shop_has, `c_Shop_put, `c_Shop_take, `c_Shop_makes, `c_Shop_needs, `c_Shop_wares, `c__law_mixed, `c__law_names, `c__law_stretch, `c__law_needs, `c__law_rows, `c__law_wish, `c__law_shop, `c__law_agenda, `c__law_meets, `c__law_all_picks, `c__law_ahead, `c_law].toArray.mapM fun n => `(Lean.Parser.Tactic.tacticSeq| refine ⟨$(Lean.mkIdent n) (by assumption), ?_⟩)
    `(tactic| with_reducible first $[| $ts]*)

theorem mulOk_r {a b : Int} (h : b.natAbs < 2 ^ 63) : IntMulOk a b := by
  refine IntMulOk.of_right ?_
  unfold Builtin.Int.intBits
  have := log2_small (n := b) (by lia)
  split
  · lia
  · rename_i h0
    have : b.natAbs.log2 < 63 := (Nat.log2_lt (by simpa using h0)).mpr h
    lia
section
variable {C : Cx} {d : Nat} {σ : Sto} {Q : V → Sto → Prop}
theorem signs_mem {x : Str} {X : V} (h : X ∈ signsOf x) : ∃ c ∈ x.cps.toList, X = .str ⟨#[c]⟩ := by
  unfold signsOf at h
  obtain ⟨c, hc, rfl⟩ := List.mem_map.mp h
  exact ⟨c, hc, rfl⟩
theorem signs_len (x : Str) : (signsOf x).length = x.length := by simp [signsOf, Str.length]
theorem w_is_ware (H : G1 C) {x : Str} (h : Ware x) (q : Q (.bool true) σ) : CW C (d + 1) (.ref 123) [.str x] σ Q := by
  refine CW_at (G1.kin (by assumption)) [] [("isinstance", .bi "isinstance"), ("str", .type "str"), ("len", .bi "len"), ("MOST_LETTERS", .int 8), ("all", .bi "all")] rfl rfl rfl rfl (by rfl) rfl rfl (params := ["thing"]) (by intro vs h; rcases vs with _ | ⟨a, _ | ⟨b, _ | ⟨c, _ | ⟨e, _ | ⟨f, _ | ⟨g, _ | ⟨g2, r⟩⟩⟩⟩⟩⟩⟩ <;> first | (exact rfl) | (exact absurd h (by simp))) rfl (vars := ["thing"]) rfl (.arg (.nil)) (by decide +kernel) (GL_cons (g_isinstance (by assumption)) (GL_cons (g_str (by assumption)) (GL_cons (g_len (by assumption)) (GL_cons (g_MOST_LETTERS (by assumption)) (GL_cons (g_all (by assumption)) GL_nil))))) ?_
  intro env hsc
  have h1 := h.lo
  have h2 := h.hi
  repeat' walk_at "one"
  all_goals first | (clear q hsc; walk_at "no") | skip
  refine AT_CompF1 "sign" [] [("LETTERS", .str "abcdefghijklmnopqrstuvwxyz")] (by rw [hsc]; decide +kernel) (GL_cons (g_LETTERS H) GL_nil) .nil (AI_str (AT_lc ⟨x, rfl, len_ok (by rw [signs_len]; lia), fun env' he => CompL_map (f := fun _ => .bool true) (comp_local he (by decide +kernel)) trivial _ _ _ (fun X hX K hK => ?_) ?_⟩))
  · obtain ⟨c, hc, rfl⟩ := signs_mem hX
    repeat' walk_at "one"
    rw [let_in (h.lt c hc)]; exact hK
  · rw [List.nil_append, show (signsOf x).map (fun _ => V.bool true) = ((signsOf x).map fun _ => true).map V.bool by simp]
    repeat' walk_at "one"
    refine K_all (.lst _) ?_
    repeat' walk_at "one"
    refine qB q ?_
    simp
theorem w_is_make (H : G1 C) {i : Int} (h1 : 1 ≤ i) (h2 : i ≤ 999) (q : Q (.bool true) σ) : CW C (d + 1) (.ref 130) [.int i] σ Q := by
  refine CW_at (G1.kin (by assumption)) [] [("isinstance", .bi "isinstance"), ("int", .type "int"), ("bool", .type "bool"), ("MOST_MAKE", .int 999)] rfl rfl rfl rfl (by rfl) rfl rfl (params := ["thing"]) (by intro vs h; rcases vs with _ | ⟨a, _ | ⟨b, _ | ⟨c, _ | ⟨e, _ | ⟨f, _ | ⟨g, _ | ⟨g2, r⟩⟩⟩⟩⟩⟩⟩ <;> first | (exact rfl) | (exact absurd h (by simp))) rfl (vars := ["thing"]) rfl (.arg (.nil)) (by decide +kernel) (GL_cons (g_isinstance (by assumption)) (GL_cons (g_int (by assumption)) (GL_cons (g_bool (by assumption)) (GL_cons (g_MOST_MAKE (by assumption)) GL_nil)))) ?_
  intro env hsc
  clear hsc
  repeat' walk_at "one"
  all_goals first | (clear q; walk_at "no") | (refine qB q ?_; simp; lia)
noncomputable def needV (n : Str × Int × Int) : V := .tup [.str n.1, .int n.2.1, .int n.2.2]
structure NeedOk (n : Str × Int × Int) : Prop where
  w : Ware n.1
  lo : 1 ≤ n.2.1
  le : n.2.1 ≤ n.2.2
  hi : n.2.2 ≤ 999
noncomputable def part1 : Unit := ()
theorem w_is_need (H : G1 C) {n : Str × Int × Int} (h : NeedOk n) (q : Q (.bool true) σ) : CW C (d + 2) (.ref 137) [needV n] σ Q := by
  obtain ⟨x, l, u⟩ := n
  have hw : Ware x := h.w
  have h1 : 1 ≤ l := h.lo
  have h2 : l ≤ u := h.le
  have h3 : u ≤ 999 := h.hi
  have h4 : 1 ≤ u := by lia
  have h5 : l ≤ 999 := by lia
  clear h
  unfold needV
  refine CW_at (G1.kin (by assumption)) [] [("isinstance", .bi "isinstance"), ("tuple", .type "tuple"), ("len", .bi "len"), ("is_ware", .ref 123), ("is_make", .ref 130)] rfl rfl rfl rfl (by rfl) rfl rfl (params := ["thing"]) (by intro vs h; rcases vs with _ | ⟨a, _ | ⟨b, _ | ⟨c, _ | ⟨e, _ | ⟨f, _ | ⟨g, _ | ⟨g2, r⟩⟩⟩⟩⟩⟩⟩ <;> first | (exact rfl) | (exact absurd h (by simp))) rfl (vars := ["thing"]) rfl (.arg (.nil)) (by decide +kernel) (GL_cons (g_isinstance (by assumption)) (GL_cons (g_tuple (by assumption)) (GL_cons (g_len (by assumption)) (GL_cons (g_is_ware (by assumption)) (GL_cons (g_is_make (by assumption)) GL_nil))))) ?_
  intro env hsc
  clear hsc
  repeat' walk_at "one"
  refine qB q ?_
  exact (decide_eq_true h2).symm
theorem w__law_mixed (H : G1 C) {xs : List Int} {k : Int} (hx : xs.length ≤ 100) (h0 : 0 ≤ k) (hk : k < 1000) (q : ∀ n : Int, 0 ≤ n → n < 2147483629 → Q (.int n) σ) : CW C (d + 1) (.ref 290) [.lst (xs.map V.int), .int k] σ Q := by
  obtain ⟨k, rfl⟩ := Int.eq_ofNat_of_zero_le h0
  have hk : k < 1000 := by lia
  refine CW_at (G1.kin (by assumption)) ["_law_cell", "_law_number"] [("len", .bi "len")] rfl rfl rfl rfl (by rfl) rfl rfl (params := ["_law_script", "_law_k"]) (by intro vs h; rcases vs with _ | ⟨a, _ | ⟨b, _ | ⟨c, _ | ⟨e, _ | ⟨f, _ | ⟨g, _ | ⟨g2, r⟩⟩⟩⟩⟩⟩⟩ <;> first | (exact rfl) | (exact absurd h (by simp))) rfl (vars := ["_law_script", "_law_k", "_law_cell", "_law_number"]) rfl (.arg (.arg (.oth (.oth (.nil))))) (by decide +kernel) (GL_cons (g_len (by assumption)) GL_nil) ?_
  intro env hsc
  clear hsc
  have hl : (xs.map V.int).length ≤ sizeLine := by rw [List.length_map]; show _ ≤ 16777216; lia
  have fin : ∀ c : Int, Q (.int ((((c + 7919 * (k : Int)) * 48271).fmod 2147483647 * (16807 + (k : Int) * k)).fmod 2147483629)) σ := fun c => q _ (Int.fmod_nonneg_of_pos _ (by decide)) (Int.fmod_lt_of_pos _ (by decide))
  have hk1 : (0 : Int) ≤ (k : Int) * k := Int.mul_nonneg (by lia) (by lia)
  have hk2 : (k : Int) * k < 1000000 := by
    have h : k * k < 1000 * 1000 := Nat.mul_lt_mul'' hk hk
    have h' := Int.ofNat_lt.mpr h
    rw [Int.natCast_mul] at h'
    exact h'
  have hkm : IntMulOk (k : Int) k := mulOk_r (by lia)
  have hkn : ∀ a : Int, IntMulOk a (16807 + (k : Int) * k) := fun a => mulOk_r (by generalize (k : Int) * k = z at hk1 hk2; lia)
  have hkc : ∀ a : Int, IntMulOk a 48271 := fun a => mulOk_r (by decide)
  repeat' walk_at "one"
  refine K_lenL (.lst _) hl ?_
  repeat' walk_at "one"
  all_goals first | exact hkc _ | exact hkm | exact hkn _ | exact fin 0 | skip
  rename_i hb
  simp at hb
  refine K_lenL (.lst _) hl ?_
  have hp : (0 : Int) < (xs.map V.int).length := by simp; lia
  have e1 := Int.fmod_nonneg_of_pos (k : Int) hp
  have e2 := Int.fmod_lt_of_pos (k : Int) hp
  have e3 : ((k : Int).fmod (xs.map V.int).length).toNat < xs.length := by simp only [List.length_map] at e1 e2 ⊢; lia
  obtain ⟨X, hX⟩ : ∃ X, xs[((k : Int).fmod (xs.map V.int).length).toNat]? = some X := ⟨_, List.getElem?_eq_getElem e3⟩
  have e4 : ((xs.map V.int).length : Int) ≠ 0 := by lia
  generalize ((xs.map V.int).length : Int) = L at *
  repeat' walk_at "one"
  all_goals first | exact e4 | skip
  refine G_list (.lst _) e1 (by have := e3; lia) (X := .int X) (by rw [List.getElem?_map, hX]; rfl) ?_
  repeat' walk_at "one"
  all_goals first | exact hkc _ | exact hkm | exact hkn _ | exact fin X
end

section
variable {C : Cx} {d : Nat} {σ : Sto} {Q : V → Sto → Prop}
theorem G_twoI {a b x : Int} (q : ∀ i, (i = a ∨ i = b) → Q (.int i) σ) : SubR C d (.lst [.int a, .int b]) (.int (x.fmod 2)) σ Q :=
  G_two (Int.fmod_nonneg_of_pos _ (by decide)) (Int.fmod_lt_of_pos _ (by decide)) (q a (.inl rfl)) (q b (.inr rfl))
noncomputable def letC (a : Int) : Nat := (("abcdefghijklmnopqrstuvwxyz" : Str).cps[(a.fmod 26).toNat]?).getD 0
theorem letC_ok (a : Int) : ("abcdefghijklmnopqrstuvwxyz" : Str).cps[(a.fmod 26).toNat]? = some (letC a) ∧ letB (letC a) = true := by
  obtain ⟨c, hc, hb⟩ := letters_at (Int.fmod_nonneg_of_pos a (by decide : (0 : Int) < 26)) (Int.fmod_lt_of_pos a (by decide))
  unfold letC
  rw [hc]; exact ⟨rfl, hb⟩
theorem let_inj : ∀ i < 26, ∀ j < 26, ("abcdefghijklmnopqrstuvwxyz" : Str).cps[i]? = ("abcdefghijklmnopqrstuvwxyz" : Str).cps[j]? → i = j := by decide +kernel
theorem letC_inj {a b : Int} (h : letC a = letC b) : a.fmod 26 = b.fmod 26 := by
  have a0 := Int.fmod_nonneg_of_pos a (show (0 : Int) < 26 by decide)
  have b0 := Int.fmod_nonneg_of_pos b (show (0 : Int) < 26 by decide)
  have := let_inj (a.fmod 26).toNat ((Int.toNat_lt a0).mpr (Int.fmod_lt_of_pos a (show (0 : Int) < 26 by decide))) (b.fmod 26).toNat ((Int.toNat_lt b0).mpr (Int.fmod_lt_of_pos b (show (0 : Int) < 26 by decide))) (by rw [(letC_ok a).1, (letC_ok b).1, h])
  exact (Int.toNat_of_nonneg a0).symm.trans ((congrArg Int.ofNat this).trans (Int.toNat_of_nonneg b0))
theorem letter_at {a : Int} {K : V → Sto → Prop} (q : K (.str ⟨#[letC a]⟩) σ) : SubR C d (.str "abcdefghijklmnopqrstuvwxyz") (.int (a.fmod 26)) σ K := by
  have h0 : 0 ≤ a.fmod 26 := Int.fmod_nonneg_of_pos _ (by decide)
  have h9 : a.fmod 26 < 26 := Int.fmod_lt_of_pos _ (by decide)
  exact G_str h0 (by lia) (letC_ok a).1 q
theorem step_inj {N st : Int} {i j : Nat} (hs : st = 3 ∨ st = 23) (hi : i < 20) (hj : j < 20) (h : (N + st * (i : Int)).fmod 26 = (N + st * (j : Int)).fmod 26) : i = j := by
  rw [Int.fmod_eq_emod_of_nonneg _ (by decide), Int.fmod_eq_emod_of_nonneg _ (by decide)] at h
  have h2 := Int.emod_eq_emod_iff_emod_sub_eq_zero.mp h
  rw [Int.add_sub_add_left] at h2
  rcases hs with rfl | rfl
  · exact (show ∀ i < 20, ∀ j < 20, ((3 : Int) * (i : Nat) - 3 * (j : Nat)) % 26 = 0 → i = j by decide +kernel) i hi j hj h2
  · exact (show ∀ i < 20, ∀ j < 20, ((23 : Int) * (i : Nat) - 23 * (j : Nat)) % 26 = 0 → i = j by decide +kernel) i hi j hj h2
theorem mid_inj {x y : Str} {a b : Nat} (h : x ++ ⟨#[a]⟩ ++ y = x ++ ⟨#[b]⟩ ++ y) : a = b := by
  have h' : (x.cps ++ #[a] ++ y.cps).toList = (x.cps ++ #[b] ++ y.cps).toList := congrArg (fun s : Str => s.cps.toList) h
  simp only [Array.toList_append] at h'
  have := List.append_cancel_left (List.append_cancel_right h')
  simpa using this
theorem nodup_range {α : Type} {f : Nat → α} {n : Nat} (h : ∀ i j, i < n → j < n → f i = f j → i = j) : ((List.range n).map f).Nodup := by
  refine List.nodup_iff_pairwise_ne.mpr (List.pairwise_map.mpr ?_)
  refine List.Pairwise.imp_of_mem ?_ List.nodup_range
  intro a b ha hb hne e
  exact hne (h a b (List.mem_range.mp ha) (List.mem_range.mp hb) e)
theorem slX {n i j : Nat} (hi : i < n) (hj : j < n) (e : n - 1 - i = n - 1 - j) : i = j := by
  cases n with
  | zero => cases hi
  | succ n => exact (Nat.sub_sub_self (Nat.le_of_lt_succ hi)).symm.trans ((congrArg (n - ·) e).trans (Nat.sub_sub_self (Nat.le_of_lt_succ hj)))
theorem slL_nodup {xs : List V} {k : Int} (hk : k = 1 ∨ k = -1) (h : xs.Nodup) : (slL xs none none (some k)).Nodup := by
  unfold slL
  refine List.nodup_iff_pairwise_ne.mpr (List.pairwise_filterMap.mpr ?_)
  have key : ∀ l : List Nat, l.Nodup → l.Pairwise fun i j => ∀ b, xs[i]? = some b → ∀ b', xs[j]? = some b' → b ≠ b' := fun l hl => by
    refine hl.imp fun {i j} hne b hb b' hb' e => hne ?_
    subst e
    obtain ⟨h1, e1⟩ := List.getElem?_eq_some_iff.mp hb
    obtain ⟨h2, e2⟩ := List.getElem?_eq_some_iff.mp hb'
    exact (List.getElem_inj (h₀ := h1) (h₁ := h2) h).mp (e1.trans e2.symm)
  refine key _ ?_
  rcases hk with rfl | rfl
  · show (sliceRange ((0 : Nat) : Int) (xs.length : Int) 1).Nodup
    rw [sr1 (Nat.zero_le _)]
    exact nodup_range fun i j _ _ e => by rw [Nat.zero_add, Nat.zero_add] at e; exact e
  · show (sliceRange ((xs.length : Int) - 1) (-1) (-1)).Nodup
    rw [srm]
    exact nodup_range fun i j hi hj e => slX hi hj e
noncomputable def part2 : Unit := ()
noncomputable def swB (sc cs : Scope) (t : Str) (l1 l2 : Nat) : Bool := (if sc.kind.isAnnotationScope then ScopeKind.function else sc.kind) == .function && sc.names.lookup t == some .local && l1 == l2 && !(cs.names.any fun (n, k) => n == t && (k == .local || k == .cell))
theorem swaps_of {env : Env} {elt : Expr} {gens : List Comprehension} {cs : Scope} {pos p' : Pos} {t : Str} {l : Nat} {b : Bool} (h : swB env.scope cs t p'.line pos.line = b) : swapsWith (.ListComp elt gens cs pos) (some (.Name t p')) l env = pure b := by
  rw [← h]; rfl
theorem turned {ws : List Str} {i : Int} (hi : i = 1 ∨ i = -1) (hw : ∀ w ∈ ws, Ware w) (hn : ws.Nodup) : ∃ ws' : List Str, slL (ws.map V.str) none none (some i) = ws'.map V.str ∧ ws'.length = ws.length ∧ (∀ w ∈ ws', Ware w) ∧ ws'.Nodup := by
  obtain ⟨ws', e, h⟩ := strs_of (P := Ware) (ys := slL (ws.map V.str) none none (some i)) fun y hy => by
    obtain ⟨w, hm, rfl⟩ := List.mem_map.mp (slL_mem y hy)
    exact ⟨w, rfl, hw w hm⟩
  have hnv : (ws.map V.str).Nodup := List.nodup_iff_pairwise_ne.mpr (List.pairwise_map.mpr ((List.nodup_iff_pairwise_ne.mp hn).imp fun hne e => hne (by injection e)))
  have hs := slL_nodup hi hnv
  rw [e] at hs
  refine ⟨ws', e, ?_, h, ?_⟩
  · have := slL_turn (xs := ws.map V.str) hi
    rw [e] at this
    simpa using this
  · exact List.nodup_iff_pairwise_ne.mpr ((List.pairwise_map.mp (List.nodup_iff_pairwise_ne.mp hs)).imp fun hne e => hne (by rw [e]))
theorem let_len : ("abcdefghijklmnopqrstuvwxyz" : Str).length = 26 := by decide +kernel
noncomputable def cutV (B : Str) : V → V
  | .int i => .str (Txt.slice B none (some (1 + i)))
  | v => v
theorem one_add (j : Nat) : 1 + (j : Int) = ((1 + j : Nat) : Int) := by lia
theorem w__law_names (H : G1 C) {xs : List Int} {n : Int} (hx : xs.length ≤ 100) (h0 : 0 ≤ n) (h1 : n ≤ 20) (q : ∀ ws : List Str, (ws.length : Int) = n → (∀ w ∈ ws, Ware w) → ws.Nodup → Q (.lst (ws.map V.str)) σ) :
    CW C (d + 2) (.ref 295) [.lst (xs.map V.int), .int n] σ Q := by
  obtain ⟨n, rfl⟩ := Int.eq_ofNat_of_zero_le h0
  have h1 : n ≤ 20 := Int.ofNat_le.mp h1
  have h1k : n ≤ 1000 := Nat.le_trans h1 (by decide)
  refine CW_drop ?_
  refine CW_at (G1.kin (by assumption)) ["_law_letters", "_law_number", "_law_step", "_law_frame", "_law_at", "_law_names_here", "_law_k", "_law_sign"] [("_law_mixed", .ref 290), ("range", .type "range"), ("len", .bi "len")] rfl rfl rfl rfl (by rfl) rfl rfl (params := ["_law_script", "_law_many"]) (by intro vs h; rcases vs with _ | ⟨a, _ | ⟨b, _ | ⟨c, _ | ⟨e, _ | ⟨f, _ | ⟨g, _ | ⟨g2, r⟩⟩⟩⟩⟩⟩⟩ <;> first | (exact rfl) | (exact absurd h (by simp))) rfl (vars := ["_law_script", "_law_many", "_law_letters", "_law_number", "_law_step", "_law_frame", "_law_at", "_law_names_here", "_law_k", "_law_sign"]) rfl (.arg (.arg (.oth (.oth (.oth (.oth (.oth (.oth (.oth (.oth (.nil))))))))))) (by decide +kernel) (GL_cons (g__law_mixed (by assumption)) (GL_cons (g_range (by assumption)) (GL_cons (g_len (by assumption)) GL_nil))) ?_
  intro env hsc
  repeat' walk_at "one"
  rename_i N hN0 hN1 step hstep
  have f1 : 0 ≤ (N.fdiv 2).fmod 8 := Int.fmod_nonneg_of_pos _ (by decide)
  have f2 : (N.fdiv 2).fmod 8 < 8 := Int.fmod_lt_of_pos _ (by decide)
  refine AT_CompF1 "_law_j" ["_law_letters", "_law_number"] [] (by rw [hsc]; decide +kernel) GL_nil (.cons LkC.lk (.cons LkC.lk .nil)) (AI_range ?_)
  repeat' walk_at "one"
  obtain ⟨c, hc⟩ := Int.eq_ofNat_of_zero_le f1
  rw [hc]
  have hc8 : c < 8 := by lia
  clear hc f1 f2
  refine ⟨_, _, _, c, rfl, rg_s (Nat.le_trans (Nat.le_of_lt hc8) (by decide)), rg_z c, len_ok (by rw [rangeL_len]; exact Nat.le_trans (Nat.le_of_lt hc8) (by decide)), fun env' he =>
    CompL_some (R := fun _ Y => ∃ c, Y = .str ⟨#[c]⟩ ∧ letB c = true) (comp_local he (by decide +kernel)) trivial _ _ _ (fun X hX K hK => ?_) (fun ys hl hys => ?_)⟩
  · obtain ⟨i, _, rfl⟩ := rangeL_in hX
    repeat' walk_at "one"
    exact hK _ ⟨_, rfl, (letC_ok _).2⟩
  obtain ⟨ps, rfl, hps⟩ := strs_of (P := fun p => Lt p ∧ p.length = 1) (ys := ys) fun y hy => by
    obtain ⟨_, _, c, rfl, hc⟩ := hys y hy
    exact ⟨_, rfl, one_lt hc, rfl⟩
  have hpl : ps.length ≤ 7 := by rw [List.length_map, rangeL_len] at hl; lia
  have hj := join_lt hps
  repeat' walk_at "one"
  refine K_join (.lst _) (joinOk_small (fun p hp => (hps p hp).2) (Nat.le_trans hpl (by decide))) ?_
  generalize Txt.join "" ps = fr at hj ⊢
  obtain ⟨hj1, hj2⟩ := hj
  have hfl : fr.length ≤ 7 := by rw [hj2]; exact hpl
  have hfs : fr.length ≤ sizeLine := len_ok (Nat.le_trans hfl (by decide))
  have a0 : 0 ≤ (N.fdiv 56).fmod ((fr.length : Int) + 1) := Int.fmod_nonneg_of_pos _ (by lia)
  have a1 : (N.fdiv 56).fmod ((fr.length : Int) + 1) < (fr.length : Int) + 1 := Int.fmod_lt_of_pos _ (by lia)
  repeat' walk_at "one"
  generalize (N.fdiv 56).fmod ((fr.length : Int) + 1) = at_ at a0 a1 ⊢
  obtain ⟨at_, rfl⟩ := Int.eq_ofNat_of_zero_le a0
  have hal : at_ ≤ fr.length := by lia
  clear a0 a1
  rename_i a o hf
  have l1 := slice_hiN (x := fr) hal
  have l2 := slice_loN (x := fr) hal
  have hone : ∀ c : Nat, (⟨#[c]⟩ : Str).length = 1 := fun c => rfl
  have hF : ∀ j : Nat, Ware (Txt.slice fr none (some (at_ : Int)) ++ ⟨#[letC (N.fdiv 504 + step * (j : Int))]⟩ ++ Txt.slice fr (some (at_ : Int)) none) := fun j =>
    ⟨by rw [slen_append, slen_append, hone]; lia, by rw [slen_append, slen_append, hone, l1, l2]; lia, ((hj1.slice _ _).append (one_lt (letC_ok _).2)).append (hj1.slice _ _)⟩
  have hFi : ∀ i j : Nat, i < 20 → j < 20 → (Txt.slice fr none (some (at_ : Int)) ++ ⟨#[letC (N.fdiv 504 + step * (i : Int))]⟩ ++ Txt.slice fr (some (at_ : Int)) none) = (Txt.slice fr none (some (at_ : Int)) ++ ⟨#[letC (N.fdiv 504 + step * (j : Int))]⟩ ++ Txt.slice fr (some (at_ : Int)) none) → i = j := fun i j hi hj e => step_inj hstep hi hj (letC_inj (mid_inj e))
  refine S_ForQ (fun i m τ => ∃ (o : Obj) (k sg : Option V), τ = (a, o, .list (((List.range i).map fun j : Nat => Txt.slice fr none (some (at_ : Int)) ++ ⟨#[letC (N.fdiv 504 + step * (j : Int))]⟩ ++ Txt.slice fr (some (at_ : Int)) none).map V.str)) :: σ ∧ m = [some (.lst (xs.map V.int)), some (.int (n : Int)), some (.str "abcdefghijklmnopqrstuvwxyz"), some (.int N), some (.int step), some (.str fr), some (.int (at_ : Int)), some (.ref a), k, sg]) (AI_range ?_)
  repeat' walk_at "one"
  refine ⟨_, _, _, n, rfl, rg_s h1k, rg_z n, ⟨o, none, none, rfl, rfl⟩, fun i X hX m τ hI QB hQB => ?_, fun m τ hI => ?_⟩
  · obtain ⟨o, k, sg, rfl, rfl⟩ := hI
    obtain ⟨hi, rfl⟩ := rangeL_at hX
    have hmo : IntMulOk step (i : Int) := mulOk_r (by lia)
    with_reducible refine AA_Name PutC.put ?_
    repeat' walk_at "one"
    all_goals first | exact hmo | skip
    · refine K_apph (len_ok (by rw [List.length_map, List.length_map, List.length_range]; lia)) (fun o' => ?_)
      repeat' walk_at "one"
      refine hQB _ _ trivial ⟨o', _, _, ?_, rfl⟩
      rw [List.range_succ, List.map_append, List.map_append]; rfl
    all_goals first | (rw [slen_append, hone, l1, l2]; exact len_ok (by lia)) | (rw [hone, l1]; exact len_ok (by lia))
  · obtain ⟨o, k, sg, rfl, rfl⟩ := hI
    rw [rangeL_len]
    generalize hws : (List.range n).map (fun j : Nat => Txt.slice fr none (some (at_ : Int)) ++ ⟨#[letC (N.fdiv 504 + step * (j : Int))]⟩ ++ Txt.slice fr (some (at_ : Int)) none) = ws
    have hwl : ws.length = n := by rw [← hws, List.length_map, List.length_range]
    have hw : ∀ w ∈ ws, Ware w := fun w hw => by rw [← hws] at hw; obtain ⟨j, _, rfl⟩ := List.mem_map.mp hw; exact hF j
    have hnd : ws.Nodup := by rw [← hws]; exact nodup_range fun i j hi hj e => hFi i j (Nat.lt_of_lt_of_le hi h1) (Nat.lt_of_lt_of_le hj h1) e
    clear hl hys hN0 hN1 hstep hF hFi hws
    repeat' walk_at "one"
    · rename_i hn9 _
      simp at hn9
      refine S_AssignCompF1 "_law_k" ["_law_frame", "_law_letters", "_law_number"] [] (swaps_of (by rw [hsc]; decide +kernel)) (by rw [hsc]; decide +kernel) GL_nil (.cons LkC.lk (.cons LkC.lk (.cons LkC.lk .nil))) (AI_range ?_)
      have g0 : 0 ≤ (N.fdiv 504).fmod 26 := Int.fmod_nonneg_of_pos _ (by decide)
      have g1 : (N.fdiv 504).fmod 26 < 26 := Int.fmod_lt_of_pos _ (by decide)
      have hls : ("abcdefghijklmnopqrstuvwxyz" : Str).length ≤ sizeLine := len_ok (by rw [let_len]; decide)
      obtain ⟨ci, hci⟩ := Int.eq_ofNat_of_zero_le g0
      have hci26 : ci < 26 := by lia
      have m1 : (Txt.slice "abcdefghijklmnopqrstuvwxyz" (some ((N.fdiv 504).fmod 26)) none).length = 26 - ci := by rw [hci, slice_loN (by rw [let_len]; exact Nat.le_of_lt hci26), let_len]
      have hbig : (fr ++ Txt.slice "abcdefghijklmnopqrstuvwxyz" (some ((N.fdiv 504).fmod 26)) none ++ "abcdefghijklmnopqrstuvwxyz").length ≤ sizeLine := len_ok (by rw [slen_append, slen_append, m1, let_len]; lia)
      have m2 : ∀ j : Nat, j < n → (Txt.slice (fr ++ Txt.slice "abcdefghijklmnopqrstuvwxyz" (some ((N.fdiv 504).fmod 26)) none ++ "abcdefghijklmnopqrstuvwxyz") none (some (1 + (j : Int)))).length = 1 + j := fun j hj => by
        rw [one_add j]
        exact slice_hiN (by rw [slen_append, slen_append, m1, let_len]; lia)
      repeat' walk_at "one"
      refine ⟨_, _, _, n, rfl, rg_s h1k, rg_z n, len_ok (by rw [rangeL_len]; exact Nat.le_trans h1k (by decide)), fun env' he =>
        CompL_map (f := cutV (fr ++ Txt.slice "abcdefghijklmnopqrstuvwxyz" (some ((N.fdiv 504).fmod 26)) none ++ "abcdefghijklmnopqrstuvwxyz")) (comp_local he (by decide +kernel)) trivial _ _ _ (fun X hX K hK => ?_) ?_⟩
      · obtain ⟨j, hj, rfl⟩ := rangeL_in hX
        repeat' walk_at "one"
        · exact hK
        all_goals first | (rw [slen_append, m1, let_len]; exact len_ok (by lia)) | (rw [m1]; exact len_ok (by lia))
      · rw [List.nil_append, show (rangeL 0 1 n).map (cutV (fr ++ Txt.slice "abcdefghijklmnopqrstuvwxyz" (some ((N.fdiv 504).fmod 26)) none ++ "abcdefghijklmnopqrstuvwxyz")) = ((List.range n).map fun j : Nat => Txt.slice (fr ++ Txt.slice "abcdefghijklmnopqrstuvwxyz" (some ((N.fdiv 504).fmod 26)) none ++ "abcdefghijklmnopqrstuvwxyz") none (some (1 + (j : Int)))).map V.str by rw [rangeL_eq, List.map_map, List.map_map]; rfl]
        generalize hvs : ((List.range n).map fun j : Nat => Txt.slice (fr ++ Txt.slice "abcdefghijklmnopqrstuvwxyz" (some ((N.fdiv 504).fmod 26)) none ++ "abcdefghijklmnopqrstuvwxyz") none (some (1 + (j : Int)))) = vs
        have hvl : vs.length = n := by rw [← hvs, List.length_map, List.length_range]
        have hv : ∀ w ∈ vs, Ware w := fun w hw => by
          rw [← hvs] at hw
          obtain ⟨j, hj, rfl⟩ := List.mem_map.mp hw
          have hj := List.mem_range.mp hj
          exact ⟨by rw [m2 j hj]; lia, by rw [m2 j hj]; lia, ((hj1.append (let_lt.slice _ _)).append let_lt).slice _ _⟩
        have hvn : vs.Nodup := by
          rw [← hvs]
          refine nodup_range fun i j hi hj e => ?_
          have := congrArg Str.length e
          rw [m2 i hi, m2 j hj] at this
          lia
        clear hvs
        with_reducible refine put_c ?_
        repeat' walk_at "one"
        rename_i i hi
        refine G_slice (.lst _) .none .none (.int _) (by rcases hi with rfl | rfl <;> simp) (len_ok (by rw [List.length_map]; lia)) (NL_f ?_)
        obtain ⟨vs', e, h4, h2, h3⟩ := turned hi hv hvn
        rw [e]
        repeat' walk_at "one"
        exact ⟨σ, List.sublist_cons_self _ _, q _ (congrArg Int.ofNat (h4.trans hvl)) h2 h3⟩
    all_goals (
      rename_i i hi
      refine G_slice (.refL (.head _)) .none .none (.int _) (by rcases hi with rfl | rfl <;> simp) (len_ok (by rw [List.length_map]; lia)) (NL_f ?_)
      obtain ⟨vs', e, h4, h2, h3⟩ := turned hi hw hnd
      rw [e]
      repeat' walk_at "one"
      exact ⟨σ, List.sublist_cons_self _ _, q _ (congrArg Int.ofNat (h4.trans hwl)) h2 h3⟩)
end

section
variable {C : Cx} {d : Nat} {σ : Sto} {Q : V → Sto → Prop}
structure NeedsOk (w : Str) (ns : List (Str × Int × Int)) : Prop where
  len : ns.length ≤ 6
  ok : ∀ n ∈ ns, NeedOk n
  ne : ∀ n ∈ ns, n.1 ≠ w
  nd : (ns.map (·.1)).Nodup
noncomputable def fstV : V → V
  | .tup (x :: _) => x
  | v => v
noncomputable def part3 : Unit := ()
theorem w_need_needs (H : G1 C) {w : Str} {a : Addr} {ns : List (Str × Int × Int)} (hat : At σ a (.list (ns.map needV))) (hok : NeedsOk w ns) (q : Q .none σ) : CW C (d + 3) (.ref 220) [.str w, .ref a] σ Q := by
  refine CW_drop ?_
  refine CW_at (G1.kin (by assumption)) ["met", "need"] [("isinstance", .bi "isinstance"), ("list", .type "list"), ("len", .bi "len"), ("MOST_NEEDS", .int 6), ("BadNeed", .ref 68), ("is_need", .ref 137)] rfl rfl rfl rfl (by rfl) rfl rfl (params := ["ware", "needs"]) (by intro vs h; rcases vs with _ | ⟨a, _ | ⟨b, _ | ⟨c, _ | ⟨e, _ | ⟨f, _ | ⟨g, _ | ⟨g2, r⟩⟩⟩⟩⟩⟩⟩ <;> first | (exact rfl) | (exact absurd h (by simp))) rfl (vars := ["ware", "needs", "met", "need"]) rfl (.arg (.arg (.oth (.oth (.nil))))) (by decide +kernel) (GL_cons (g_isinstance (by assumption)) (GL_cons (g_list (by assumption)) (GL_cons (g_len (by assumption)) (GL_cons (g_MOST_NEEDS (by assumption)) (GL_cons (g_BadNeed (by assumption)) (GL_cons (g_is_need (by assumption)) GL_nil)))))) ?_
  intro env hsc
  clear hsc
  obtain ⟨oa, hm⟩ := hat
  have h6 := hok.len
  repeat' walk_at "one"
  refine I_list_list (.refL hm) ?_
  repeat' walk_at "one"
  refine K_lenL (.refL hm) (lenM h6 (by decide)) ?_
  repeat' walk_at "one"
  · clear q; rename_i hb1 hb2; simp at hb1; lia
  refine AT_Dict1 (KK.str C.prog C.w) (fun b o hf => ?_)
  repeat' walk_at "one"
  refine ⟨w, rfl, rfl, fun o' => ?_⟩
  repeat' walk_at "one"
  refine S_ForQ (fun i m τ => ∃ (o : Obj) (x : Option V), τ = (b, o, dS ((w, .bool true) :: (ns.take i).map fun n => (n.1, .bool true))) :: σ ∧ m = [some (.str w), some (.ref a), some (.ref b), x]) (AI_list ?_)
  with_reducible refine AT_lc ?_
  refine ⟨_, _, .refL (.tail _ hm), ⟨o', none, by simp; rfl, rfl⟩, fun i X hX m τ hI QB hQB => ?_, fun m τ hI => ?_⟩
  · obtain ⟨o, x, rfl, rfl⟩ := hI
    rw [List.getElem?_map] at hX
    obtain ⟨n, hn, rfl⟩ := Option.map_eq_some_iff.mp hX
    have hmem := List.mem_of_getElem? hn
    have hno := hok.ok n hmem
    have hil := (List.getElem?_eq_some_iff.mp hn).1
    have hkeys : ((w, V.bool true) :: (ns.take i).map fun n => (n.1, V.bool true)).map (·.1) = w :: (ns.take i).map (·.1) := by rw [List.map_cons, List.map_map]; rfl
    have hnd : (w :: ns.map (·.1)).Nodup := List.nodup_cons.mpr ⟨fun h => by obtain ⟨x, hx, e⟩ := List.mem_map.mp h; exact hok.ne x hx e, hok.nd⟩
    have hsub : (w :: (ns.take (i + 1)).map (·.1)).Sublist (w :: ns.map (·.1)) := ((List.take_sublist _ _).map _).cons_cons w
    have hnd1 := hsub.nodup hnd
    have htk : ns.take (i + 1) = ns.take i ++ [n] := by rw [List.take_succ, hn]; rfl
    rw [htk, List.map_append] at hnd1
    have hnew : n.1 ∉ w :: (ns.take i).map (·.1) := fun hm => by
      have := List.nodup_append.mp (show ((w :: (ns.take i).map (·.1)) ++ [n.1]).Nodup from hnd1)
      exact this.2.2 _ hm _ (.head _) rfl
    have hnd0 : (w :: (ns.take i).map (·.1)).Nodup := (List.nodup_append.mp (show ((w :: (ns.take i).map (·.1)) ++ [n.1]).Nodup from hnd1)).1
    rw [← hkeys] at hnew hnd0
    with_reducible refine AA_Name PutC.put ?_
    repeat' walk_at "one"
    unfold needV
    repeat' walk_at "one"
    refine C_inDS H.ns At.hd hnd0 ?_
    rw [vAt_none hnew]
    repeat' walk_at "one"
    refine Set_DSh hnd0 (len_ok (by simp; lia)) (fun o' => ?_)
    rw [putV_new hnew]
    repeat' walk_at "one"
    refine hQB _ _ (.tail _ hm) ⟨o', _, ?_, rfl⟩
    rw [htk, List.map_append]; rfl
  · obtain ⟨o, x, rfl, rfl⟩ := hI
    repeat' walk_at "one"
    exact ⟨σ, List.sublist_cons_self _ _, q⟩
end

section
variable {C : Cx} {d : Nat} {σ : Sto} {Q : V → Sto → Prop}
noncomputable abbrev Need := Str × Int × Int
noncomputable abbrev kvV (kv : List (Str × Addr)) : List (Str × V) := kv.map fun p => (p.1, .ref p.2)
noncomputable abbrev esV (es : List (Int × List Need)) : List (Int × V) := es.map fun p => (p.1, .lst (p.2.map needV))
theorem kvV_keys (kv : List (Str × Addr)) : (kvV kv).map (·.1) = kv.map (·.1) := by simp [List.map_map, Function.comp_def]
theorem esV_keys (es : List (Int × List Need)) : (esV es).map (·.1) = es.map (·.1) := by simp [List.map_map, Function.comp_def]
structure Shp (σ : Sto) (i k : Addr) (kv : List (Str × Addr)) (es : Str → List (Int × List Need)) : Prop where
  inst : ∃ dx, At σ i (.inst 279 dx [("kept", .ref k)])
  kept : At σ k (dS (kvV kv))
  kvn : (kv.map (·.1)).Nodup
  kl : kv.length ≤ 12
  inn : ∀ p ∈ kv, At σ p.2 (dI (esV (es p.1)))
  out : ∀ w, w ∉ kv.map (·.1) → es w = []
  eok : ∀ w, ((es w).map (·.1)).Nodup ∧ (es w).length ≤ 8 ∧ ∀ p ∈ es w, p.2.length ≤ 6
  sep : (i :: k :: kv.map (·.2)).Nodup
theorem Shp.at {i k : Addr} {kv : List (Str × Addr)} {es : Str → List (Int × List Need)} (S : Shp σ i k kv es) (w : Str) :
    (vAt (kvV kv) w = none ∧ w ∉ kv.map (·.1) ∧ es w = []) ∨ ∃ a, vAt (kvV kv) w = some (.ref a) ∧ (w, a) ∈ kv ∧ At σ a (dI (esV (es w))) := by
  by_cases h : w ∈ kv.map (·.1)
  · obtain ⟨p, hp, rfl⟩ := List.mem_map.mp h
    exact .inr ⟨p.2, vAt_mem (by rw [kvV_keys]; exact S.kvn) (List.mem_map.mpr ⟨p, hp, rfl⟩), hp, S.inn p hp⟩
  · exact .inl ⟨vAt_none (by rw [kvV_keys]; exact h), h, S.out w h⟩
theorem attr_kept {a b dx : Addr} {P : V → Prop} (h : At σ a (.inst 279 dx [("kept", .ref b)])) (q : P (.ref b)) : AttrQ 279 "kept" (.ref a) σ P := attrQ h rfl q
theorem inst_kept {a b dx : Addr} {nm : Str} {P : Addr → Prop} (h : At σ a (.inst 279 dx [("kept", .ref b)])) (hn : (nm == ("kept" : Str)) = false) (q : P a) : InstQ 279 nm (.ref a) σ P :=
  instQ h (by rw [List.lookup_cons, hn]; rfl) q
noncomputable def part4 : Unit := ()
theorem w_has (H : G1 C) {i k : Addr} {kv : List (Str × Addr)} {es : Str → List (Int × List Need)} {w : Str} {mk : Int} (S : Shp σ i k kv es) (hw : Ware w) (h1 : 1 ≤ mk) (h2 : mk ≤ 999) (q : Q (.bool (vAt (esV (es w)) mk).isSome) σ) :
    CW C (d + 2) (.ref 241) [.ref i, .str w, .int mk] σ Q := by
  refine CW_drop ?_
  refine CW_at (G1.kin (by assumption)) [] [("is_ware", .ref 123), ("is_make", .ref 130)] rfl rfl rfl rfl (by rfl) rfl rfl (params := ["self", "ware", "make"]) (by intro vs h; rcases vs with _ | ⟨a, _ | ⟨b, _ | ⟨c, _ | ⟨e, _ | ⟨f, _ | ⟨g, _ | ⟨g2, r⟩⟩⟩⟩⟩⟩⟩ <;> first | (exact rfl) | (exact absurd h (by simp))) rfl (vars := ["self", "ware", "make"]) rfl (.arg (.arg (.arg (.nil)))) (by decide +kernel) (GL_cons (g_is_ware (by assumption)) (GL_cons (g_is_make (by assumption)) GL_nil)) ?_
  intro env hsc
  clear hsc
  obtain ⟨dx, hin⟩ := S.inst
  have hk := S.kept
  have hkn : ((kvV kv).map (·.1)).Nodup := by rw [kvV_keys]; exact S.kvn
  have hen : ((esV (es w)).map (·.1)).Nodup := by rw [esV_keys]; exact (S.eok w).1
  repeat' walk_at "one"
  rename_i b o hf
  refine K_getDS H.ns (by walk_at "at") hkn ?_
  rcases S.at w with ⟨e, _, e2⟩ | ⟨a, e, _, ha⟩
  · rw [e]
    rw [e2] at q
    repeat' walk_at "one"
    refine C_inDI (kvs := []) H.ns At.hd List.nodup_nil ?_
    repeat' walk_at "one"
    exact ⟨σ, List.sublist_cons_self _ _, q⟩
  · rw [e]
    repeat' walk_at "one"
    refine C_inDI H.ns (by walk_at "at") hen ?_
    repeat' walk_at "one"
    exact ⟨σ, List.sublist_cons_self _ _, q⟩
theorem NLf_drop {Xs : List V} {σ₁ : Sto} (hs : σ.Sublist σ₁) (q : NLf Q Xs σ) : NLf (fun x σ' => ∃ τ, τ.Sublist σ' ∧ Q x τ) Xs σ₁ := by
  rcases q with q | q
  · exact .inl ⟨σ, hs, q⟩
  · exact .inr fun a o hf => ⟨_, hs.cons_cons _, q a o fun p hp => hf p (hs.subset hp)⟩
theorem w_makes (H : G1 C) {i k : Addr} {kv : List (Str × Addr)} {es : Str → List (Int × List Need)} {w : Str} (S : Shp σ i k kv es) (hw : Ware w) (q : NLf Q ((sortI ((es w).map (·.1))).map V.int) σ) :
    CW C (d + 2) (.ref 262) [.ref i, .str w] σ Q := by
  refine CW_drop ?_
  refine CW_at (G1.kin (by assumption)) [] [("is_ware", .ref 123), ("BadWare", .ref 44), ("sorted", .bi "sorted")] rfl rfl rfl rfl (by rfl) rfl rfl (params := ["self", "ware"]) (by intro vs h; rcases vs with _ | ⟨a, _ | ⟨b, _ | ⟨c, _ | ⟨e, _ | ⟨f, _ | ⟨g, _ | ⟨g2, r⟩⟩⟩⟩⟩⟩⟩ <;> first | (exact rfl) | (exact absurd h (by simp))) rfl (vars := ["self", "ware"]) rfl (.arg (.arg (.nil))) (by decide +kernel) (GL_cons (g_is_ware (by assumption)) (GL_cons (g_BadWare (by assumption)) (GL_cons (g_sorted (by assumption)) GL_nil))) ?_
  intro env hsc
  clear hsc
  obtain ⟨dx, hin⟩ := S.inst
  have hk := S.kept
  have hkn : ((kvV kv).map (·.1)).Nodup := by rw [kvV_keys]; exact S.kvn
  have hen : ((esV (es w)).map (·.1)).Nodup := by rw [esV_keys]; exact (S.eok w).1
  have hel := (S.eok w).2.1
  repeat' walk_at "one"
  refine K_getDS H.ns (by walk_at "at") hkn ?_
  rcases S.at w with ⟨e, _, e2⟩ | ⟨a, e, _, ha⟩
  · rw [e]
    rw [e2] at q
    repeat' walk_at "one"
    refine K_sortDI (kvs := []) H.ns At.hd List.nodup_nil (by decide) ?_
    exact NLf_drop (List.sublist_cons_self _ _) q
  · rw [e]
    repeat' walk_at "one"
    refine K_sortDI H.ns (by walk_at "at") hen (by simp; lia) ?_
    rw [esV_keys]
    exact NLf_drop (List.sublist_cons_self _ _) q
theorem w_needs (H : G1 C) {i k : Addr} {kv : List (Str × Addr)} {es : Str → List (Int × List Need)} {w : Str} {mk : Int} {ns : List Need} (S : Shp σ i k kv es) (hw : Ware w) (h1 : 1 ≤ mk) (h2 : mk ≤ 999) (hm : (mk, ns) ∈ es w)
    (q : NLf Q (ns.map needV) σ) : CW C (d + 3) (.ref 269) [.ref i, .str w, .int mk] σ Q := by
  refine CW_at (G1.kin (by assumption)) [] [("NoMake", .ref 104), ("list", .type "list")] rfl rfl rfl rfl (by rfl) rfl rfl (params := ["self", "ware", "make"]) (by intro vs h; rcases vs with _ | ⟨a, _ | ⟨b, _ | ⟨c, _ | ⟨e, _ | ⟨f, _ | ⟨g, _ | ⟨g2, r⟩⟩⟩⟩⟩⟩⟩ <;> first | (exact rfl) | (exact absurd h (by simp))) rfl (vars := ["self", "ware", "make"]) rfl (.arg (.arg (.arg (.nil)))) (by decide +kernel) (GL_cons (g_NoMake (by assumption)) (GL_cons (g_list (by assumption)) GL_nil)) ?_
  intro env hsc
  clear hsc
  obtain ⟨dx, hin⟩ := S.inst
  have hk := S.kept
  have hkn : ((kvV kv).map (·.1)).Nodup := by rw [kvV_keys]; exact S.kvn
  have hen : ((esV (es w)).map (·.1)).Nodup := by rw [esV_keys]; exact (S.eok w).1
  have hv : vAt (esV (es w)) mk = some (.lst (ns.map needV)) := vAt_mem hen (List.mem_map.mpr ⟨_, hm, rfl⟩)
  have hnl := (S.eok w).2.2 _ hm
  rcases S.at w with ⟨_, _, e2⟩ | ⟨a, e, _, ha⟩
  · rw [e2] at hm; cases hm
  repeat' walk_at "one"
  refine fnc (w_has H S hw h1 h2 ?_)
  rw [hv]
  repeat' walk_at "one"
  refine G_DS (by walk_at "at") hkn e ?_
  repeat' walk_at "one"
  refine G_DI ha hen hv ?_
  repeat' walk_at "one"
  exact K_listL (.lst _) (len_ok (by simp; simp at hnl; lia)) q
end

section
variable {C : Cx} {d : Nat} {σ : Sto} {Q : V → Sto → Prop}
theorem kvV_app (kv : List (Str × Addr)) (w : Str) (b : Addr) : kvV (kv ++ [(w, b)]) = kvV kv ++ [(w, .ref b)] := List.map_append
theorem esV_app (es : List (Int × List Need)) (mk : Int) (ns : List Need) : esV (es ++ [(mk, ns)]) = esV es ++ [(mk, .lst (ns.map needV))] := List.map_append
theorem Shp.ne {i k : Addr} {kv : List (Str × Addr)} {es : Str → List (Int × List Need)} (S : Shp σ i k kv es) {w : Str} {a : Addr} (h : (w, a) ∈ kv) : i ≠ a ∧ k ≠ a ∧ i ≠ k := by
  have := S.sep
  have ha : a ∈ kv.map (·.2) := List.mem_map.mpr ⟨_, h, rfl⟩
  have h1 := List.nodup_cons.mp this
  have h2 := List.nodup_cons.mp h1.2
  exact ⟨fun e => h1.1 (.tail _ (e ▸ ha)), fun e => h2.1 (e ▸ ha), fun e => h1.1 (e ▸ .head _)⟩
noncomputable def part5 : Unit := ()
theorem w_put (H : G1 C) {i k nl : Addr} {kv : List (Str × Addr)} {es : Str → List (Int × List Need)} {w : Str} {mk : Int} {ns : List Need} (S : Shp σ i k kv es) (hw : Ware w) (h1 : 1 ≤ mk) (h2 : mk ≤ 999)
    (hnl : At σ nl (.list (ns.map needV))) (hns : NeedsOk w ns) (hnew : mk ∉ (es w).map (·.1)) (hroom : (es w).length ≠ 8) (hroom2 : w ∉ kv.map (·.1) → kv.length ≠ 12)
    (qa : ∀ a, (w, a) ∈ kv → ∀ σ', UpdS σ σ' a (dI (esV (es w ++ [(mk, ns)]))) → Q .none σ')
    (qb : w ∉ kv.map (·.1) → ∀ b σ', Fresh σ b → At σ' b (dI (esV [(mk, ns)])) → At σ' k (dS (kvV (kv ++ [(w, b)]))) → (∀ p ∈ σ, p.1 ≠ k → p ∈ σ') → Q .none σ') :
    CW C (d + 4) (.ref 248) [.ref i, .str w, .int mk, .ref nl] σ Q := by
  refine CW_at (G1.kin (by assumption)) [] [("is_ware", .ref 123), ("BadWare", .ref 44), ("is_make", .ref 130), ("BadMake", .ref 56), ("need_needs", .ref 220), ("Twice", .ref 80), ("len", .bi "len"), ("MOST_WARES", .int 12), ("Full", .ref 92), ("MOST_MAKES", .int 8), ("list", .type "list")] rfl rfl rfl rfl (by rfl) rfl rfl (params := ["self", "ware", "make", "needs"]) (by intro vs h; rcases vs with _ | ⟨a, _ | ⟨b, _ | ⟨c, _ | ⟨e, _ | ⟨f, _ | ⟨g, _ | ⟨g2, r⟩⟩⟩⟩⟩⟩⟩ <;> first | (exact rfl) | (exact absurd h (by simp))) rfl (vars := ["self", "ware", "make", "needs"]) rfl (.arg (.arg (.arg (.arg (.nil))))) (by decide +kernel) (GL_cons (g_is_ware (by assumption)) (GL_cons (g_BadWare (by assumption)) (GL_cons (g_is_make (by assumption)) (GL_cons (g_BadMake (by assumption)) (GL_cons (g_need_needs (by assumption)) (GL_cons (g_Twice (by assumption)) (GL_cons (g_len (by assumption)) (GL_cons (g_MOST_WARES (by assumption)) (GL_cons (g_Full (by assumption)) (GL_cons (g_MOST_MAKES (by assumption)) (GL_cons (g_list (by assumption)) GL_nil))))))))))) ?_
  intro env hsc
  clear hsc
  obtain ⟨dx, hin⟩ := S.inst
  have hk := S.kept
  have hkn : ((kvV kv).map (·.1)).Nodup := by rw [kvV_keys]; exact S.kvn
  have hkl := S.kl
  have hen : ((esV (es w)).map (·.1)).Nodup := by rw [esV_keys]; exact (S.eok w).1
  have hel := (S.eok w).2.1
  have hv : vAt (esV (es w)) mk = none := vAt_none (by rw [esV_keys]; exact hnew)
  have h6 := hns.len
  obtain ⟨onl, hnm⟩ := hnl
  have hnl : At σ nl (.list (ns.map needV)) := ⟨onl, hnm⟩
  repeat' walk_at "one"
  refine fnc (w_has H S hw h1 h2 ?_)
  rw [hv]
  repeat' walk_at "one"
  refine C_niDS H.ns (by walk_at "at") hkn ?_
  rcases S.at w with ⟨e, hno, e2⟩ | ⟨a, e, ha, hat⟩
  · have hr2 := hroom2 hno
    rw [e]
    repeat' walk_at "one"
    refine K_lenDS H.ns (by walk_at "at") hkn (lenM hkl (by decide)) ?_
    repeat' walk_at "one"
    · clear qa qb; rename_i hb1 hb2; simp at hb1; lia
    rename_i b0 o0 hf0
    refine K_getDS H.ns (by walk_at "at") hkn ?_
    rw [e]
    repeat' walk_at "one"
    refine K_lenDI (kvs := []) H.ns At.hd List.nodup_nil (by decide) ?_
    repeat' walk_at "one"
    refine K_listL (.refL (.tail _ hnm)) (lenM h6 (by decide)) (.inl ?_)
    repeat' walk_at "one"
    rename_i b o hf
    refine K_setdefDS H.ns (by walk_at "at") hkn (lenM hkl (by decide)) (fun Y hY => by rw [e] at hY; cases hY) (fun _ σ' U => ?_)
    rw [putV_new (by rw [kvV_keys]; exact hno)] at U
    have hfb : Fresh σ b := fun p hp => hf p (.tail _ hp)
    have hb : At σ' b (dI []) := U.at At.hd (hfb.ne hk).symm
    repeat' walk_at "one"
    refine Set_DI hb List.nodup_nil (by decide) (fun σ'' U2 => ?_)
    repeat' walk_at "one"
    have hbk : k ≠ b := hfb.ne hk
    refine qb hno b σ'' hfb U2.here (U2.at ?_ hbk) fun p hp hne => U2.keep p (U.keep p (.tail _ (.tail _ hp)) hne) (hfb p hp)
    rw [kvV_app]
    exact U.here
  · rw [e]
    repeat' walk_at "one"
    rename_i b0 o0 hf0
    refine K_getDS H.ns (by walk_at "at") hkn ?_
    rw [e]
    repeat' walk_at "one"
    refine K_lenDI H.ns (by walk_at "at") hen (lenM hel (by decide)) ?_
    repeat' walk_at "one"
    · clear qa qb; rename_i hb; simp at hb; lia
    refine K_listL (.refL (.tail _ hnm)) (lenM h6 (by decide)) (.inl ?_)
    repeat' walk_at "one"
    rename_i b o hf
    refine K_setdefDS H.ns (by walk_at "at") hkn (lenM hkl (by decide)) (fun Y hY => ?_) (fun hY => by rw [e] at hY; cases hY)
    rw [e] at hY
    cases hY
    repeat' walk_at "one"
    refine Set_DI (by walk_at "at") hen (lenM hel (by decide)) (fun σ'' U2 => ?_)
    repeat' walk_at "one"
    rw [putV_new (by rw [esV_keys]; exact hnew)] at U2
    refine qa a ha σ'' ⟨?_, fun p hp hne => U2.keep p (.tail _ (.tail _ hp)) hne⟩
    rw [esV_app]
    exact U2.here
theorem w_init (H : G1 C) {x dx : Addr} {o : Obj} (q : ∀ k σ', Fresh ((x, o, .inst 279 dx []) :: σ) k → At σ' x (.inst 279 dx [("kept", .ref k)]) → At σ' k (dS []) → (∀ p ∈ σ, p.1 ≠ x → p ∈ σ') → Q .none σ') :
    CW C (d + 1) (.ref 234) [.ref x] ((x, o, .inst 279 dx []) :: σ) Q := by
  refine CW_at (G1.kin (by assumption)) [] [] rfl rfl rfl rfl (by rfl) rfl rfl (params := ["self"]) (by intro vs h; rcases vs with _ | ⟨a, _ | ⟨b, _ | ⟨c, _ | ⟨e, _ | ⟨f, _ | ⟨g, _ | ⟨g2, r⟩⟩⟩⟩⟩⟩⟩ <;> first | (exact rfl) | (exact absurd h (by simp))) rfl (vars := ["self"]) rfl (.arg (.nil)) (by decide +kernel) GL_nil ?_
  intro env hsc
  clear hsc
  repeat' walk_at "one"
  refine S_SetAttr (s_Shop_kept H) ?_
  repeat' walk_at "one"
  rename_i k o' hf
  refine ⟨x, dx, [], rfl, At.hd.cons _, rfl, by decide, fun σ' U => ?_⟩
  repeat' walk_at "one"
  have hne : x ≠ k := hf _ (.head _)
  exact q k σ' hf U.here (U.at At.hd hne.symm) fun p hp hn => U.keep p (.tail _ (.tail _ hp)) hn
theorem w_Shop (H : G1 C) (q : ∀ x k dx σ', Fresh σ x → Fresh σ k → x ≠ k → At σ' x (.inst 279 dx [("kept", .ref k)]) → At σ' k (dS []) → (∀ p ∈ σ, p ∈ σ') → Q (.ref x) σ') : CW C (d + 2) (.ref 279) [] σ Q := by
  refine CW_new (n_Shop H) fun x dx o hf => ?_
  exact w_init H fun k σ' hk h1 h2 h3 => ⟨rfl, q x k dx σ' hf (fun p hp => hk p (.tail _ hp)) (hk _ (.head _)) h1 h2 fun p hp => h3 p hp (hf p hp)⟩
end

section
variable {C : Cx} {d : Nat} {σ : Sto} {Q : V → Sto → Prop}
noncomputable def part6 : Unit := ()
theorem w__law_stretch (H : G1 C) {ms : List Int} {n : Int} (h0 : 0 < ms.length) (h1 : ms.length ≤ 20) (hm : ∀ i ∈ ms, 1 ≤ i ∧ i ≤ 999) (q : ∀ lo hi : Int, 1 ≤ lo → lo ≤ hi → hi ≤ 999 → Q (.tup [.int lo, .int hi]) σ) :
    CW C (d + 1) (.ref 302) [.int n, .lst (ms.map V.int)] σ Q := by
  refine CW_at (G1.kin (by assumption)) ["_law_one", "_law_other", "_law_way"] [("len", .bi "len"), ("min", .bi "min"), ("max", .bi "max")] rfl rfl rfl rfl (by rfl) rfl rfl (params := ["_law_number", "_law_makes"]) (by intro vs h; rcases vs with _ | ⟨a, _ | ⟨b, _ | ⟨c, _ | ⟨e, _ | ⟨f, _ | ⟨g, _ | ⟨g2, r⟩⟩⟩⟩⟩⟩⟩ <;> first | (exact rfl) | (exact absurd h (by simp))) rfl (vars := ["_law_number", "_law_makes", "_law_one", "_law_other", "_law_way"]) rfl (.arg (.arg (.oth (.oth (.oth (.nil)))))) (by decide +kernel) (GL_cons (g_len (by assumption)) (GL_cons (g_min (by assumption)) (GL_cons (g_max (by assumption)) GL_nil))) ?_
  intro env hsc
  clear hsc
  have hl : (ms.map V.int).length ≤ sizeLine := lenM h1 (by decide)
  have hp : (0 : Int) < (ms.map V.int).length := by simp; lia
  have hz : ((ms.map V.int).length : Int) ≠ 0 := by lia
  have hpick : ∀ (x : Int) (K : V → Sto → Prop), (∀ i, 1 ≤ i → i ≤ 999 → K (.int i) σ) → SubR C d (.lst (ms.map V.int)) (.int (x.fmod (ms.map V.int).length)) σ K := fun x K k =>
    G_any (Int.fmod_nonneg_of_pos _ hp) (Int.fmod_lt_of_pos _ hp) (by simp; lia) fun X hX => by
      obtain ⟨i, hi, rfl⟩ := List.mem_map.mp hX
      exact k i (hm i hi).1 (hm i hi).2
  repeat' walk_at "one"
  refine K_lenL (.lst _) hl ?_
  repeat' walk_at "one"
  all_goals first | exact hz | skip
  refine hpick _ _ fun one b1 b2 => ?_
  repeat' walk_at "one"
  refine K_lenL (.lst _) hl ?_
  repeat' walk_at "one"
  all_goals first | exact hz | skip
  refine hpick _ _ fun other b3 b4 => ?_
  repeat' walk_at "one"
  refine G_any (Int.fmod_nonneg_of_pos _ (by decide)) (Int.fmod_lt_of_pos _ (by decide)) (by decide) fun X hX => ?_
  obtain ⟨way, rfl⟩ : ∃ way : Int, X = .int way := by
    simp only [List.mem_cons, List.not_mem_nil, or_false] at hX
    rcases hX with rfl | rfl | rfl | rfl | rfl | rfl | rfl | rfl | rfl | rfl <;> exact ⟨_, rfl⟩
  clear hX hpick
  repeat' walk_at "one"
  all_goals exact q _ _ (by lia) (by lia) (by lia)
end

section
variable {C : Cx} {d : Nat} {σ : Sto} {Q : V → Sto → Prop}
noncomputable def msV (mss : List (List Int)) : List V := mss.map fun ms => V.lst (ms.map V.int)
structure MsOk (mss : List (List Int)) : Prop where
  lo : 0 < mss.length
  hi : mss.length ≤ 12
  each : ∀ ms ∈ mss, 0 < ms.length ∧ ms.length ≤ 4 ∧ ∀ i ∈ ms, 1 ≤ i ∧ i ≤ 999
  nd : ∀ ms ∈ mss, ms.Nodup
theorem smallInts {l : List V} {b : Nat} (h : (l.all fun x => match x with | .int k => decide (0 ≤ k) && decide (k ≤ (b : Int)) | _ => false) = true) : ∀ X ∈ l, ∃ n : Nat, X = .int (n : Int) ∧ n ≤ b := fun X hX => by
  have := List.all_eq_true.mp h X hX
  cases X with
  | int k =>
    simp at this
    obtain ⟨n, rfl⟩ := Int.eq_ofNat_of_zero_le this.1
    exact ⟨n, rfl, Int.ofNat_le.mp this.2⟩
  | _ => cases this
theorem msV_at {mss : List (List Int)} (h : MsOk mss) {K : V → Sto → Prop} {x : Int} (h0 : 0 ≤ x) (h1 : x ≤ mss.length) (q : ∀ ms : List Int, 0 < ms.length → ms.length ≤ 20 → (∀ i ∈ ms, 1 ≤ i ∧ i ≤ 999) → K (.lst (ms.map V.int)) σ) :
    SubR C d (.lst (msV mss ++ [.lst [.int 5]])) (.int x) σ K := by
  have hh := h.hi
  refine G_any h0 (by simp [msV]; lia) (by simp [msV]; lia) fun X hX => ?_
  rcases List.mem_append.mp hX with hX | hX
  · obtain ⟨ms, hm, rfl⟩ := List.mem_map.mp hX
    have := h.each ms hm
    exact q ms this.1 (by lia) this.2.2
  · rw [List.mem_singleton.mp hX]
    exact q [5] (by decide) (by decide) fun i hi => by simp at hi; lia
noncomputable def part7 : Unit := ()
theorem w__law_needs (H : G1 C) {xs : List Int} {ws : List Str} {mka : Addr} {mss : List (List Int)} {w : Str} {k : Nat} {at_ : Int} (hx : xs.length ≤ 100) (hmk : At σ mka (.list (msV mss))) (hms : MsOk mss) (hwl : ws.length = mss.length + 1) (hw : ∀ x ∈ ws, Ware x) (hwn : ws.Nodup)
    (h1 : k < mss.length) (hkw : ws[k]? = some w) (a0 : 0 ≤ at_) (a1 : at_ < 900) (q : ∀ ns, NeedsOk w ns → Q (.lst (ns.map needV)) σ) :
    CW C (d + 3) (.ref 307) [.lst (xs.map V.int), .lst (ws.map V.str), .ref mka, .int (k : Int), .int at_] σ Q := by
  refine CW_freeze ?_
  refine CW_at (G1.kin (by assumption)) ["_law_found", "_law_first", "_law_turn", "_law_number", "_law_other", "_law_low", "_law_high"] [("_law_mixed", .ref 290), ("range", .type "range"), ("max", .bi "max"), ("len", .bi "len"), ("_law_stretch", .ref 302)] rfl rfl rfl rfl (by rfl) rfl rfl (params := ["_law_script", "_law_names_here", "_law_makes", "_law_k", "_law_at"]) (by intro vs h; rcases vs with _ | ⟨a, _ | ⟨b, _ | ⟨c, _ | ⟨e, _ | ⟨f, _ | ⟨g, _ | ⟨g2, r⟩⟩⟩⟩⟩⟩⟩ <;> first | (exact rfl) | (exact absurd h (by simp))) rfl (vars := ["_law_script", "_law_names_here", "_law_makes", "_law_k", "_law_at", "_law_found", "_law_first", "_law_turn", "_law_number", "_law_other", "_law_low", "_law_high"]) rfl (.arg (.arg (.arg (.arg (.arg (.oth (.oth (.oth (.oth (.oth (.oth (.oth (.nil))))))))))))) (by decide +kernel) (GL_cons (g__law_mixed (by assumption)) (GL_cons (g_range (by assumption)) (GL_cons (g_max (by assumption)) (GL_cons (g_len (by assumption)) (GL_cons (g__law_stretch (by assumption)) GL_nil))))) ?_
  intro env hsc
  have hhi := hms.hi
  obtain ⟨omk, hmm⟩ := id hmk
  have hml : (msV mss).length = mss.length := List.length_map _
  have hmz : (msV mss).length ≤ sizeLine := len_ok (by rw [hml]; exact Nat.le_trans hhi (by decide))
  repeat' walk_at "one"
  rename_i a o hf
  refine fnc (w__law_mixed H hx a0 (by lia) (fun fst b0 b1 => ?_))
  repeat' walk_at "one"
  refine S_ForQ (fun i m τ => i ≤ 6 ∧ ∃ (o : Obj) (ns : List Need) (o1 o2 o3 o4 o5 : Option V), ns.length ≤ i ∧ (∀ n ∈ ns, NeedOk n) ∧ (∀ n ∈ ns, n.1 ≠ w) ∧ (ns.map (·.1)).Nodup ∧ τ = (a, o, .list (ns.map needV)) :: σ ∧ m = [some (.lst (xs.map V.int)), some (.lst (ws.map V.str)), some (.ref mka), some (.int (k : Int)), some (.int at_), some (.ref a), some (.int fst), o1, o2, o3, o4, o5]) (AI_range ?_)
  repeat' walk_at "one"
  refine G_any (Int.fmod_nonneg_of_pos _ (by decide)) (Int.fmod_lt_of_pos _ (by decide)) (by decide) fun X hX => ?_
  obtain ⟨cnt, rfl, c1⟩ : ∃ cnt : Nat, X = .int (cnt : Int) ∧ cnt ≤ 6 := smallInts (by decide) X hX
  clear hX
  repeat' walk_at "one"
  refine ⟨_, _, _, cnt, rfl, rg_s (Nat.le_trans c1 (by decide)), rg_z cnt, ⟨by decide, o, [], none, none, none, none, none, by decide, (fun _ h => by cases h), (fun _ h => by cases h), List.nodup_nil, rfl, rfl⟩, fun i X hX m τ hI QB hQB => ?_, fun m τ hI => ?_⟩
  · obtain ⟨hi6, o, ns, o1, o2, o3, o4, o5, hnl, hok, hne, hnd, rfl, rfl⟩ := hI
    obtain ⟨hi, rfl⟩ := rangeL_at hX
    have hi6' : i + 1 ≤ 6 := Nat.le_trans hi c1
    have hwz : (ws.map V.str).length < 2 ^ 40 := by rw [List.length_map, hwl]; lia
    with_reducible refine AA_Name PutC.put ?_
    repeat' walk_at "one"
    refine fnc (w__law_mixed H hx (by lia) (by lia) (fun num b2 b3 => ?_))
    with_reducible refine put_c ?_
    with_reducible refine Then_next ?_
    refine S_cutQ (fun m τ => τ = (a, o, .list (ns.map needV)) :: σ ∧ ∃ ot : Int, 0 ≤ ot ∧ ot < mss.length ∧ m = [some (.lst (xs.map V.int)), some (.lst (ws.map V.str)), some (.ref mka), some (.int (k : Int)), some (.int at_), some (.ref a), some (.int fst), some (.int (i : Int)), some (.int num), some (.int ot), o4, o5]) ?_ ?_
    · intro QC hQC
      repeat' walk_at "one"
      refine K_lenL (.refL (.tail _ hmm)) hmz ?_
      repeat' walk_at "one"
      refine K_lenL (.refL (.tail _ hmm)) hmz ?_
      rw [hml]
      have hM : (0 : Int) < max 1 ((mss.length : Int) - 1) := by lia
      have hM2 : (max 1 ((mss.length : Int) - 1)) ≠ 0 := by lia
      have hL : (mss.length : Int) ≠ 0 := by lia
      repeat' walk_at "one"
      all_goals first | exact hM2 | exact hL | skip
      refine hQC _ _ ⟨rfl, _, Int.fmod_nonneg_of_pos _ ?_, Int.fmod_lt_of_pos _ ?_, rfl⟩ <;> lia
    rintro m τ ⟨rfl, ot0, s0, s1, rfl⟩
    refine S_cutQ (fun m τ => τ = (a, o, .list (ns.map needV)) :: σ ∧ ∃ ot : Int, 0 ≤ ot ∧ ot ≤ mss.length ∧ m = [some (.lst (xs.map V.int)), some (.lst (ws.map V.str)), some (.ref mka), some (.int (k : Int)), some (.int at_), some (.ref a), some (.int fst), some (.int (i : Int)), some (.int num), some (.int ot), o4, o5]) ?_ ?_
    · intro QC hQC
      repeat' walk_at "one"
      · refine K_lenL (.refL (.tail _ hmm)) hmz ?_
        rw [hml]
        repeat' walk_at "one"
        exact hQC _ _ ⟨rfl, _, Int.natCast_nonneg _, Int.le_refl _, rfl⟩
      · exact hQC _ _ ⟨rfl, _, s0, Int.le_of_lt s1, rfl⟩
    clear s0 s1
    rintro m τ ⟨rfl, ot, t0, t1, rfl⟩
    obtain ⟨ot, rfl⟩ := Int.eq_ofNat_of_zero_le t0
    have t2 : ot ≤ mss.length := Int.ofNat_le.mp t1
    repeat' walk_at "one"
    rotate_left
    · exact hQB _ _ trivial ⟨hi6', o, ns, _, _, _, _, _, Nat.le_succ_of_le hnl, hok, hne, hnd, rfl, rfl⟩
    rename_i hb
    have hb : ot ≠ k := fun e => by rw [e] at hb; simp at hb
    have hoi : ot < ws.length := by rw [hwl]; exact Nat.lt_succ_of_le t2
    have hok2 : ot < 1000 := by lia
    have hot : ws[ot]? = some ws[ot] := List.getElem?_eq_getElem hoi
    have hom : ws[ot] ∈ ws := List.getElem_mem hoi
    have hnw : ws[ot] ≠ w := by
      intro e
      have hk2 := (List.getElem?_eq_some_iff.mp hkw)
      obtain ⟨hk3, hk4⟩ := hk2
      exact hb ((List.getElem_inj (h₀ := hoi) (h₁ := hk3) hwn).mp (e.trans hk4.symm))
    generalize ws[ot] = nm at hot hom hnw
    have hotV := map_at (f := V.str) hot
    refine G_nat (.lst _) hok2 hotV ?_
    have hnz : (ns.map needV).length ≤ sizeLine := lenM (Nat.le_trans hnl hi6) (by decide)
    refine AT_CompF1 "_law_need" [] [] (by rw [hsc]; decide +kernel) GL_nil .nil (AI_list ?_)
    with_reducible refine AT_lc ?_
    refine ⟨_, _, .refL (.head _), hnz, fun env' he => CompL_map (f := fstV) (comp_local he (by decide +kernel)) (.head _) _ _ _ (fun X hX K hK => ?_) ?_⟩
    · obtain ⟨n, _, rfl⟩ := List.mem_map.mp hX
      unfold needV at hK ⊢
      repeat' walk_at "one"
      exact hK
    rw [List.nil_append, show (ns.map needV).map fstV = (ns.map (·.1)).map V.str by rw [List.map_map, List.map_map]; rfl]
    refine C_notInS (.lst _) ?_
    repeat' walk_at "one"
    rotate_left
    · exact hQB _ _ trivial ⟨hi6', o, ns, _, _, _, _, _, Nat.le_succ_of_le hnl, hok, hne, hnd, rfl, rfl⟩
    rename_i hb1 _
    have hb1 : nm ∉ ns.map (·.1) := by
      intro hm
      simp only [Bool.not_eq_true'] at hb1
      rw [List.any_eq_true.mpr ⟨nm, hm, by simp⟩] at hb1
      cases hb1
    refine S_AssignT ?_
    repeat' walk_at "one"
    refine B_addL (.refL (.tail _ hmm)) (.lst _) (len_ok (by rw [hml]; exact Nat.le_trans (Nat.succ_le_succ hhi) (by decide))) (NL_f ?_)
    repeat' walk_at "one"
    refine msV_at hms t0 t1 fun ms m0 m1 m2 => ?_
    repeat' walk_at "one"
    refine fnc (w__law_stretch H m0 m1 m2 fun lo hi u0 u1 u2 => ?_)
    with_reducible refine AAs2 ?_
    with_reducible refine AA_Name PutC.put ?_
    with_reducible refine AA_Name PutC.put ?_
    repeat' walk_at "one"
    refine G_nat (.lst _) hok2 hotV ?_
    repeat' walk_at "one"
    refine K_apph hnz (fun o' => ?_)
    repeat' walk_at "one"
    refine hQB _ _ trivial ⟨hi6', o', ns ++ [(nm, lo, hi)], _, _, _, _, _, by rw [List.length_append]; exact Nat.succ_le_succ hnl, fun n hn => ?_, fun n hn => ?_, ?_, by rw [List.map_append]; rfl, rfl⟩
    · rcases List.mem_append.mp hn with h | h
      · exact hok n h
      · rw [List.mem_singleton.mp h]; exact ⟨hw nm hom, u0, u1, u2⟩
    · rcases List.mem_append.mp hn with h | h
      · exact hne n h
      · rw [List.mem_singleton.mp h]; exact hnw
    · rw [List.map_append]
      refine List.nodup_append.mpr ⟨hnd, List.nodup_cons.mpr ⟨List.not_mem_nil, List.nodup_nil⟩, fun x hx y hy => ?_⟩
      simp at hy; subst hy
      rintro rfl; exact hb1 hx
  · obtain ⟨hi6, o, ns, o1, o2, o3, o4, o5, hnl, hok, hne, hnd, rfl, rfl⟩ := hI
    repeat' walk_at "one"
    exact ⟨a, o, _, σ, rfl, rfl, q ns ⟨Nat.le_trans hnl hi6, hok, hne, hnd⟩⟩
end

section
variable {C : Cx} {d : Nat} {σ : Sto} {Q : V → Sto → Prop}
theorem nodup_inj {α β : Type} {f : α → β} : ∀ {l : List α}, (l.map f).Nodup → ∀ {x y : α}, x ∈ l → y ∈ l → f x = f y → x = y
  | a :: l, h, x, y, hx, hy, e => by
    have h' := List.nodup_cons.mp h
    rcases List.mem_cons.mp hx with hx | hx
    · rcases List.mem_cons.mp hy with hy | hy
      · rw [hx, hy]
      · exact absurd (List.mem_map.mpr ⟨y, hy, by rw [← e, hx]⟩) h'.1
    · rcases List.mem_cons.mp hy with hy | hy
      · exact absurd (List.mem_map.mpr ⟨x, hx, by rw [e, hy]⟩) h'.1
      · exact nodup_inj h'.2 hx hy e
theorem nodup_snoc {α : Type} {l : List α} {x : α} (h : l.Nodup) (hx : x ∉ l) : (l ++ [x]).Nodup :=
  List.nodup_append.mpr ⟨h, List.nodup_cons.mpr ⟨List.not_mem_nil, List.nodup_nil⟩, fun a ha b hb => by
    rw [List.mem_singleton.mp hb]; rintro rfl; exact hx ha⟩
structure EsOk (w : Str) (l : List (Int × List Need)) : Prop where
  nd : (l.map (·.1)).Nodup
  len : l.length ≤ 8
  mb : ∀ p ∈ l, 1 ≤ p.1 ∧ p.1 ≤ 999
  nok : ∀ p ∈ l, NeedsOk w p.2
theorem EsOk.nil {w : Str} : EsOk w [] := ⟨List.nodup_nil, by decide, (fun p h => by cases h), fun p h => by cases h⟩
theorem EsOk.add {w : Str} {l : List (Int × List Need)} (h : EsOk w l) {mk : Int} {ns : List Need} (hn : mk ∉ l.map (·.1)) (hl : l.length < 8) (h1 : 1 ≤ mk) (h2 : mk ≤ 999) (h6 : NeedsOk w ns) : EsOk w (l ++ [(mk, ns)]) := by
  refine ⟨by rw [List.map_append]; exact nodup_snoc h.nd hn, by simp; lia, fun p hp => ?_, fun p hp => ?_⟩
  · rcases List.mem_append.mp hp with e | e
    · exact h.mb p e
    · rw [List.mem_singleton.mp e]; exact ⟨h1, h2⟩
  · rcases List.mem_append.mp hp with e | e
    · exact h.nok p e
    · rw [List.mem_singleton.mp e]; exact h6
noncomputable def updE (es : Str → List (Int × List Need)) (w : Str) (l : List (Int × List Need)) : Str → List (Int × List Need) := fun v => if v = w then l else es v
theorem updE_self (es : Str → List (Int × List Need)) (w : Str) (l : List (Int × List Need)) : updE es w l w = l := by simp [updE]
theorem updE_ne {es : Str → List (Int × List Need)} {w v : Str} {l : List (Int × List Need)} (h : v ≠ w) : updE es w l v = es v := by simp [updE, h]
theorem updE_updE (es : Str → List (Int × List Need)) (w : Str) (l l' : List (Int × List Need)) : updE (updE es w l) w l' = updE es w l' := by
  funext v
  by_cases e : v = w
  · rw [e, updE_self, updE_self]
  · rw [updE_ne e, updE_ne e, updE_ne e]
theorem updE_id {es : Str → List (Int × List Need)} {w : Str} {l : List (Int × List Need)} (h : es w = l) : updE es w l = es := by
  funext v
  by_cases e : v = w
  · rw [e, updE_self, h]
  · rw [updE_ne e]
structure Rw (σ : Sto) (ro : Addr) (rv : List (Str × Addr)) (es : Str → List (Int × List Need)) : Prop where
  rows : At σ ro (dS (kvV rv))
  rin : ∀ p ∈ rv, At σ p.2 (dI (esV (es p.1)))
  rwn : (rv.map (·.1)).Nodup
  rl : rv.length ≤ 12
  wok : ∀ p ∈ rv, Ware p.1
  out : ∀ w, w ∉ rv.map (·.1) → es w = []
  eok : ∀ w, EsOk w (es w)
  sep : (ro :: rv.map (·.2)).Nodup
variable {ro : Addr} {rv : List (Str × Addr)} {es : Str → List (Int × List Need)}
theorem Rw.frame {σ' : Sto} (S : Rw σ ro rv es) (h : ∀ a ∈ ro :: rv.map (·.2), ∀ x, At σ a x → At σ' a x) : Rw σ' ro rv es :=
  { S with rows := h _ (.head _) _ S.rows, rin := fun p hp => h _ (.tail _ (List.mem_map.mpr ⟨p, hp, rfl⟩)) _ (S.rin p hp) }
theorem Rw.ne (S : Rw σ ro rv es) {p : Str × Addr} (h : p ∈ rv) : p.2 ≠ ro := fun e => (List.nodup_cons.mp S.sep).1 (e ▸ List.mem_map.mpr ⟨p, h, rfl⟩)
theorem Rw.set (S : Rw σ ro rv es) {σ' : Sto} {w : Str} {b : Addr} {l : List (Int × List Need)} (hb : (w, b) ∈ rv) (ok : EsOk w l) (U : UpdS σ σ' b (dI (esV l))) : Rw σ' ro rv (updE es w l) := by
  refine { S with rows := U.at S.rows (S.ne hb).symm, rin := fun p hp => ?_, out := fun v hv => ?_, eok := fun v => ?_ }
  · by_cases e : p.1 = w
    · have : p = (w, b) := nodup_inj S.rwn hp hb e
      subst this; rw [updE_self]; exact U.here
    · rw [updE_ne e]
      exact U.at (S.rin p hp) fun e2 => e (by rw [nodup_inj (List.nodup_cons.mp S.sep).2 hp hb e2])
  · rw [updE_ne (fun e => hv (by rw [e]; exact List.mem_map.mpr ⟨_, hb, rfl⟩))]; exact S.out v hv
  · by_cases e : v = w
    · subst e; rw [updE_self]; exact ok
    · rw [updE_ne e]; exact S.eok v
theorem Rw.add (S : Rw σ ro rv es) {σ' : Sto} {w : Str} {b : Addr} {o : Obj} (hw : Ware w) (hn : w ∉ rv.map (·.1)) (hl : rv.length < 12) (hf : Fresh σ b) (U : UpdS ((b, o, dI []) :: σ) σ' ro (dS (kvV (rv ++ [(w, b)])))) : Rw σ' ro (rv ++ [(w, b)]) es := by
  have hr : b ≠ ro := (hf.ne S.rows).symm
  have mem : ∀ p ∈ rv ++ [(w, b)], p ∈ rv ∨ p = (w, b) := fun p hp => by simpa using hp
  refine ⟨U.here, fun p hp => ?_, by rw [List.map_append]; exact nodup_snoc S.rwn hn, by simp; lia, fun p hp => ?_, fun v hv => S.out v fun h => hv (by rw [List.map_append]; exact List.mem_append_left _ h), S.eok, ?_⟩
  · rcases mem p hp with h | rfl
    · exact U.at ((S.rin p h).cons _) (S.ne h)
    · rw [S.out w hn]; exact U.at At.hd hr
  · rcases mem p hp with h | rfl
    · exact S.wok p h
    · exact hw
  · rw [List.map_append]
    refine nodup_snoc (l := ro :: rv.map (·.2)) S.sep fun h => ?_
    rcases List.mem_cons.mp h with h | h
    · exact hr h
    · obtain ⟨p, hp, e⟩ := List.mem_map.mp h
      exact hf.ne (S.rin p hp) e
theorem Rw.at (S : Rw σ ro rv es) {w : Str} (h : w ∈ rv.map (·.1)) : ∃ b, (w, b) ∈ rv ∧ vAt (kvV rv) w = some (.ref b) ∧ At σ b (dI (esV (es w))) := by
  obtain ⟨p, hp, rfl⟩ := List.mem_map.mp h
  exact ⟨p.2, hp, vAt_mem (by rw [kvV_keys]; exact S.rwn) (List.mem_map.mpr ⟨p, hp, rfl⟩), S.rin p hp⟩
noncomputable def stepV (f s : Int) : V → V
  | .int j => .int (f + j * s)
  | v => v
structure RwNew (σ σ' : Sto) (ro : Addr) (rv : List (Str × Addr)) (es : Str → List (Int × List Need)) : Prop where
  rw_ : Rw σ' ro rv es
  ne : ∀ p ∈ rv, es p.1 ≠ [] ∧ (es p.1).length ≤ 4
  lo : 0 < rv.length
  fr : Fresh σ ro ∧ ∀ p ∈ rv, Fresh σ p.2
  keep : ∀ p ∈ σ, p ∈ σ'
noncomputable def part8 : Unit := ()
theorem succ_nat {r m : Int} (h0 : 0 ≤ r) (h1 : r < m) : ∃ k : Nat, 1 + r = (k : Int) ∧ 0 < k ∧ (k : Int) ≤ m := by
  obtain ⟨n, rfl⟩ := Int.eq_ofNat_of_zero_le h0
  exact ⟨n + 1, by lia, Nat.succ_pos n, by lia⟩
theorem mk_steps {f st mm : Int} {c : Nat} (g0 : 1 ≤ f) (g1 : f ≤ 999 - 3 * mm) (hc : 0 < c) (hcm : (c : Int) ≤ mm) (hm : mm ≤ 4) (e0 : 0 ≤ st) (e1 : st < 3) :
    ∃ ms : List Int, (rangeL 0 1 c).map (stepV f (1 + st)) = ms.map V.int ∧ (0 < ms.length ∧ ms.length ≤ 4 ∧ ∀ i ∈ ms, 1 ≤ i ∧ i ≤ 999) ∧ ms.Nodup := by
  have h3 : st = 0 ∨ st = 1 ∨ st = 2 := by lia
  refine ⟨(List.range c).map fun j : Nat => f + (j : Int) * (1 + st), by rw [rangeL_eq, List.map_map, List.map_map]; rfl, ⟨by rw [List.length_map, List.length_range]; exact hc, by rw [List.length_map, List.length_range]; lia, fun x hx => ?_⟩, nodup_range fun a b _ _ e => ?_⟩
  · obtain ⟨j, hj, rfl⟩ := List.mem_map.mp hx
    have hj := List.mem_range.mp hj
    clear hx
    rcases h3 with rfl | rfl | rfl <;> constructor <;> lia
  · rcases h3 with rfl | rfl | rfl <;> lia
theorem w__law_rows (H : G1 C) {xs : List Int} {most mm : Int} (hx : xs.length ≤ 100) (h0 : 0 < most) (h1 : most ≤ 12) (m0 : 3 ≤ mm) (m3 : mm ≤ 4)
    (q : ∀ ro rv es σ', RwNew σ σ' ro rv es → (rv.length : Int) ≤ most → Q (.ref ro) σ') :
    CW C (d + 4) (.ref 312) [.lst (xs.map V.int), .int most, .int mm] σ Q := by
  refine CW_at (G1.kin (by assumption)) ["_law_many", "_law_names_here", "_law_makes", "_law_k", "_law_number", "_law_first", "_law_rows_here", "_law_j"] [("_law_mixed", .ref 290), ("_law_names", .ref 295), ("range", .type "range"), ("len", .bi "len"), ("_law_needs", .ref 307)] rfl rfl rfl rfl (by rfl) rfl rfl (params := ["_law_script", "_law_most", "_law_many_makes"]) (by intro vs h; rcases vs with _ | ⟨a, _ | ⟨b, _ | ⟨c, _ | ⟨e, _ | ⟨f, _ | ⟨g, _ | ⟨g2, r⟩⟩⟩⟩⟩⟩⟩ <;> first | (exact rfl) | (exact absurd h (by simp))) rfl (vars := ["_law_script", "_law_most", "_law_many_makes", "_law_many", "_law_names_here", "_law_makes", "_law_k", "_law_number", "_law_first", "_law_rows_here", "_law_j"]) rfl (.arg (.arg (.arg (.oth (.oth (.oth (.oth (.oth (.oth (.oth (.oth (.nil)))))))))))) (by decide +kernel) (GL_cons (g__law_mixed (by assumption)) (GL_cons (g__law_names (by assumption)) (GL_cons (g_range (by assumption)) (GL_cons (g_len (by assumption)) (GL_cons (g__law_needs (by assumption)) GL_nil))))) ?_
  intro env hsc
  repeat' walk_at "one"
  refine fnc (w__law_mixed H hx (by decide) (by decide) (fun n0 b0 b1 => ?_))
  repeat' walk_at "one"
  all_goals first | (have := h0; lia) | skip
  have r0 := Int.fmod_nonneg_of_pos n0 h0
  have r1 := Int.fmod_lt_of_pos n0 h0
  generalize n0.fmod most = r at r0 r1 ⊢
  obtain ⟨r, hr, hr1, hr3⟩ := succ_nat r0 r1
  have hr2 : r ≤ 12 := by lia
  clear r0 r1
  rw [hr]
  clear hr
  have hr1k : r ≤ 1000 := Nat.le_trans hr2 (by decide)
  refine fnc (w__law_names H hx (by lia) (by lia) (fun ws wl hw hwn => ?_))
  have wl : ws.length = r + 1 := by lia
  repeat' walk_at "one"
  rename_i mka omk hfm
  refine S_ForQ (fun i m τ => ∃ (o : Obj) (mss : List (List Int)) (k num fst : Option V), mss.length = i ∧ (∀ ms ∈ mss, (0 < ms.length ∧ ms.length ≤ 4 ∧ ∀ i ∈ ms, 1 ≤ i ∧ i ≤ 999) ∧ ms.Nodup) ∧ τ = (mka, o, .list (msV mss)) :: σ ∧ m = [some (.lst (xs.map V.int)), some (.int most), some (.int mm), some (.int (r : Int)), some (.lst (ws.map V.str)), some (.ref mka), k, num, fst, none, none]) (AI_range ?_)
  repeat' walk_at "one"
  refine ⟨_, _, _, r, rfl, rg_s hr1k, rg_z r, ⟨omk, [], none, none, none, rfl, (fun _ h => by cases h), rfl, rfl⟩, fun i X hX m τ hI QB hQB => ?_, fun m τ hI => ?_⟩
  · obtain ⟨o, mss, k, num, fst, hml, hms, rfl, rfl⟩ := hI
    obtain ⟨hi, rfl⟩ := rangeL_at hX
    with_reducible refine AA_Name PutC.put ?_
    repeat' walk_at "one"
    refine fnc (w__law_mixed H hx (by lia) (by lia) (fun n c0 c1 => ?_))
    have d0 := Int.fmod_nonneg_of_pos (n.fdiv 12) (show (0 : Int) < 900 by decide)
    have d1 := Int.fmod_lt_of_pos (n.fdiv 12) (show (0 : Int) < 900 by decide)
    have d2 := Int.fmod_nonneg_of_pos (n.fdiv 12) (show (0 : Int) < 20 by decide)
    have d3 := Int.fmod_lt_of_pos (n.fdiv 12) (show (0 : Int) < 20 by decide)
    have e0 := Int.fmod_nonneg_of_pos (n.fdiv 24) (show (0 : Int) < 3 by decide)
    have e1 := Int.fmod_lt_of_pos (n.fdiv 24) (show (0 : Int) < 3 by decide)
    have hmp : (0 : Int) < mm := by lia
    have f0 := Int.fmod_nonneg_of_pos (n.fdiv 72) hmp
    have f1 := Int.fmod_lt_of_pos (n.fdiv 72) hmp
    have hmz : mm ≠ 0 := by lia
    with_reducible refine put_c ?_
    with_reducible refine Then_next ?_
    refine S_cutQ (fun m τ => τ = (mka, o, .list (msV mss)) :: σ ∧ ∃ f : Int, 1 ≤ f ∧ f ≤ 999 - 3 * mm ∧ m = [some (.lst (xs.map V.int)), some (.int most), some (.int mm), some (.int (r : Int)), some (.lst (ws.map V.str)), some (.ref mka), some (.int (i : Int)), some (.int n), some (.int f), none, none]) ?_ ?_
    · intro QC hQC
      repeat' walk_at "one"
      refine G_any (Int.fmod_nonneg_of_pos _ (by decide)) (Int.fmod_lt_of_pos _ (by decide)) (by simp) fun X hX => ?_
      obtain ⟨f, rfl, g0, g1⟩ : ∃ f : Int, X = .int f ∧ 1 ≤ f ∧ f ≤ 999 - 3 * mm := by
        simp only [List.mem_cons, List.not_mem_nil, or_false] at hX
        rcases hX with rfl | rfl | rfl | rfl <;> exact ⟨_, rfl, by lia, by lia⟩
      clear hX
      repeat' walk_at "one"
      exact hQC _ _ ⟨rfl, f, g0, g1, rfl⟩
    rintro m τ ⟨rfl, f, g0, g1, rfl⟩
    repeat' walk_at "one"
    refine AT_CompF1 "_law_j" ["_law_first", "_law_number"] [] (by rw [hsc]; decide +kernel) GL_nil (.cons LkC.lk (.cons LkC.lk .nil)) (AI_range ?_)
    repeat' walk_at "one"
    all_goals first | exact hmz | skip
    obtain ⟨c, hc, hc1, hc2⟩ := succ_nat f0 f1
    rw [hc]
    generalize hst : (n.fdiv 24).fmod 3 = st at e0 e1
    have hmo : ∀ j : Int, IntMulOk j (1 + st) := fun j => mulOk_r (by lia)
    have hc4 : c ≤ 4 := by lia
    obtain ⟨ms, hme, hmo1, hmo2⟩ := mk_steps g0 g1 hc1 hc2 m3 e0 e1
    clear d0 d1 d2 d3 f0 f1 hc e0 e1 g0 g1
    refine ⟨_, _, _, c, rfl, rg_s (Nat.le_trans hc4 (by decide)), rg_z c, len_ok (by rw [rangeL_len]; exact Nat.le_trans hc4 (by decide)), fun env' he => CompL_map (f := stepV f (1 + st)) (comp_local he (by decide +kernel)) trivial _ _ _ (fun X hX K hK => ?_) ?_⟩
    · obtain ⟨j, hj, rfl⟩ := rangeL_in hX
      repeat' walk_at "one"
      all_goals rw [hst]
      all_goals first | exact hmo _ | exact hK
    rw [List.nil_append, hme]
    repeat' walk_at "one"
    refine K_apph (len_ok (by unfold msV; rw [List.length_map]; lia)) (fun o' => ?_)
    repeat' walk_at "one"
    refine hQB _ _ trivial ⟨o', mss ++ [ms], _, _, _, by rw [List.length_append, hml]; rfl, fun x hx => ?_, by unfold msV; rw [List.map_append]; rfl, rfl⟩
    rcases List.mem_append.mp hx with h | h
    · exact hms x h
    · rw [List.mem_singleton.mp h]; exact ⟨hmo1, hmo2⟩
  obtain ⟨o, mss, k, num, fst, hml, hms, rfl, rfl⟩ := hI
  rw [rangeL_len] at hml
  have hMs : MsOk mss := ⟨by rw [hml]; exact hr1, by rw [hml]; exact hr2, fun ms hm => (hms ms hm).1, fun ms hm => (hms ms hm).2⟩
  repeat' walk_at "one"
  rename_i ro oro hfr
  have hmem : (mka, o, AO.list (msV mss)) ∈ (mka, o, AO.list (msV mss)) :: σ := .head _
  generalize hσ1 : (mka, o, AO.list (msV mss)) :: σ = σ1 at hfr hmem ⊢
  have hsub : ∀ p ∈ σ, p ∈ σ1 := fun p hp => by rw [← hσ1]; exact .tail _ hp
  clear hσ1
  refine S_ForQ (fun i m τ => ∃ (rv : List (Str × Addr)) (es : Str → List (Int × List Need)) (k j : Option V), Rw τ ro rv es ∧ rv.map (·.1) = ws.take i ∧ (∀ p ∈ rv, es p.1 ≠ [] ∧ (es p.1).length ≤ 4) ∧ (∀ p ∈ rv, Fresh σ1 p.2) ∧ (∀ p ∈ σ1, p ∈ τ) ∧ m = [some (.lst (xs.map V.int)), some (.int most), some (.int mm), some (.int (r : Int)), some (.lst (ws.map V.str)), some (.ref mka), k, num, fst, some (.ref ro), j]) (AI_range ?_)
  repeat' walk_at "one"
  refine ⟨_, _, _, r, rfl, rg_s hr1k, rg_z r, ⟨[], fun _ => [], _, none, ⟨At.hd, (fun _ h => by cases h), List.nodup_nil, by decide, (fun _ h => by cases h), (fun _ _ => rfl), (fun _ => .nil), List.nodup_cons.mpr ⟨List.not_mem_nil, List.nodup_nil⟩⟩, rfl, (fun _ h => by cases h), (fun _ h => by cases h), fun p hp => .tail _ hp, rfl⟩, fun i X hX m τ hI QB hQB => ?_, fun m τ hI => ?_⟩
  · obtain ⟨rv, es, k, j, S, hkeys, hne, hfp, hkp, rfl⟩ := hI
    obtain ⟨hi, rfl⟩ := rangeL_at hX
    have hi12 : i < 12 := Nat.lt_of_lt_of_le hi hr2
    have hik : i < 1000 := Nat.lt_trans hi12 (by decide)
    have hwi : i < ws.length := by rw [wl]; exact Nat.lt_succ_of_lt hi
    have hwe : ws[i]? = some ws[i] := List.getElem?_eq_getElem hwi
    have hwm : ws[i] ∈ ws := List.getElem_mem hwi
    have hwnew : ws[i] ∉ rv.map (·.1) := by rw [hkeys]; exact take_new hwn hwi
    have htk : ws.take (i + 1) = ws.take i ++ [ws[i]] := take_one hwi
    generalize ws[i] = w at hwe hwm hwnew htk
    have hweV := map_at (f := V.str) hwe
    have hme : i < mss.length := by rw [hml]; exact hi
    have hmse : mss[i]? = some mss[i] := List.getElem?_eq_getElem hme
    have hmsm := hMs.each _ (List.getElem_mem hme)
    have hmsn := hMs.nd _ (List.getElem_mem hme)
    generalize mss[i] = ms at hmse hmsm hmsn
    have hmsV : (msV mss)[i]? = some (V.lst (ms.map V.int)) := map_at hmse
    have hkl : rv.length = i := take_len hkeys (Nat.le_of_lt hwi)
    have hrn : ((kvV rv).map (·.1)).Nodup := by rw [kvV_keys]; exact S.rwn
    with_reducible refine AA_Name PutC.put ?_
    repeat' walk_at "one"
    rename_i b ob hfb
    refine G_nat (.lst _) hik hweV ?_
    refine Set_DS (S.rows.cons _) hrn (len_ok (by unfold kvV; rw [List.length_map, hkl]; lia)) (fun τ1 U => ?_)
    rw [putV_new (by rw [kvV_keys]; exact hwnew), ← kvV_app] at U
    have S1 := S.add (hw w hwm) hwnew (by lia) hfb U
    have hb1 : (w, b) ∈ rv ++ [(w, b)] := List.mem_append_right _ (.head _)
    have hkp1 : ∀ p ∈ σ1, p ∈ τ1 := fun p hp => U.keep p (.tail _ (hkp p hp)) fun e => hfr p hp e
    have hbf : Fresh σ1 b := fun p hp => hfb p (hkp p hp)
    with_reducible refine Then_next ?_
    repeat' walk_at "one"
    refine S_ForQ (fun jj m τ => ∃ (l : List (Int × List Need)) (j : Option V), Rw τ ro (rv ++ [(w, b)]) (updE es w l) ∧ l.map (·.1) = ms.take jj ∧ (∀ p ∈ σ1, p ∈ τ) ∧ m = [some (.lst (xs.map V.int)), some (.int most), some (.int mm), some (.int (r : Int)), some (.lst (ws.map V.str)), some (.ref mka), some (.int (i : Int)), num, fst, some (.ref ro), j]) (AI_range ?_)
    have hmil : (ms.map V.int).length = ms.length := List.length_map _
    have hm4 := hmsm.2.1
    repeat' walk_at "one"
    refine G_nat (.refL (hkp1 _ hmem)) hik hmsV ?_
    repeat' walk_at "one"
    rw [hmil]
    refine ⟨_, _, _, ms.length, rfl, rg_s (Nat.le_trans hm4 (by decide)), rg_z _, ⟨[], _, by rw [updE_id (S.out w hwnew)]; exact S1, rfl, hkp1, rfl⟩, fun jj X hX m τ2 hI QB hQB => ?_, fun m τ2 hI => ?_⟩
    · obtain ⟨l, j2, S2, hlk, hkp2, rfl⟩ := hI
      obtain ⟨hj, rfl⟩ := rangeL_at hX
      have hjk : jj < 1000 := by lia
      have hje : ms[jj]? = some ms[jj] := List.getElem?_eq_getElem hj
      have hjm := hmsm.2.2 _ (List.getElem_mem hj)
      have hjnew : ms[jj] ∉ l.map (·.1) := by rw [hlk]; exact take_new hmsn hj
      have hjt : ms.take (jj + 1) = ms.take jj ++ [ms[jj]] := take_one hj
      generalize ms[jj] = mk at hje hjm hjnew hjt
      have hjV := map_at (f := V.int) hje
      have hat := S2.rin _ hb1
      have hlok := S2.eok w
      simp only [updE_self] at hat hlok
      have hll : l.length = jj := take_len hlk (Nat.le_of_lt hj)
      have hrn2 : ((kvV (rv ++ [(w, b)])).map (·.1)).Nodup := by rw [kvV_keys]; exact S2.rwn
      have hrv2 : vAt (kvV (rv ++ [(w, b)])) w = some (.ref b) := vAt_mem hrn2 (List.mem_map.mpr ⟨_, hb1, rfl⟩)
      have hen : ((esV l).map (·.1)).Nodup := by rw [esV_keys]; exact hlok.nd
      with_reducible refine AA_Name PutC.put ?_
      repeat' walk_at "one"
      refine fnc (w__law_needs H hx ⟨_, hkp2 _ hmem⟩ hMs (by rw [wl, hml]) hw hwn hme hwe (by lia) (by lia) (fun ns hns => ?_))
      repeat' walk_at "one"
      refine G_nat (.lst _) hik hweV ?_
      refine G_DS S2.rows hrn2 hrv2 ?_
      repeat' walk_at "one"
      refine G_nat (.refL (hkp2 _ hmem)) hik hmsV ?_
      repeat' walk_at "one"
      refine G_nat (.lst _) hjk hjV ?_
      refine Set_DI hat hen (len_ok (by unfold esV; rw [List.length_map, hll]; lia)) (fun τ3 U3 => ?_)
      rw [putV_new (by rw [esV_keys]; exact hjnew), ← esV_app] at U3
      repeat' walk_at "one"
      refine hQB _ _ trivial ⟨l ++ [(mk, ns)], _, ?_, by rw [List.map_append, hlk, hjt]; rfl, fun p hp => U3.keep p (hkp2 p hp) (hbf p hp), rfl⟩
      rw [← updE_updE es w l]
      exact S2.set hb1 (hlok.add hjnew (by lia) hjm.1 hjm.2 hns) U3
    · obtain ⟨l, j2, S2, hlk, hkp2, rfl⟩ := hI
      have hlk : l.map (·.1) = ms := by rw [hlk, rangeL_len]; exact List.take_length
      have hll : l.length = ms.length := by have := congrArg List.length hlk; simpa using this
      repeat' walk_at "one"
      refine hQB _ _ trivial ⟨rv ++ [(w, b)], updE es w l, _, _, S2, by rw [List.map_append, hkeys, htk]; rfl, fun p hp => ?_, fun p hp => ?_, hkp2, rfl⟩
      · rcases List.mem_append.mp hp with h | h
        · rw [updE_ne (fun e => hwnew (by rw [← e]; exact List.mem_map.mpr ⟨p, h, rfl⟩))]; exact hne p h
        · rw [List.mem_singleton.mp h, updE_self]
          exact ⟨fun e => Nat.lt_irrefl 0 (by have := hmsm.1; rw [← hll, e] at this; exact this), by rw [hll]; exact hm4⟩
      · rcases List.mem_append.mp hp with h | h
        · exact hfp p h
        · rw [List.mem_singleton.mp h]; exact hbf
  · obtain ⟨rv, es, k, j, S, hkeys, hne, hfp, hkp, rfl⟩ := hI
    have hkl : rv.length = r := by rw [rangeL_len] at hkeys; exact take_len hkeys (by lia)
    repeat' walk_at "one"
    exact q ro rv es τ ⟨S, hne, by rw [hkl]; exact hr1, ⟨fun p hp => hfr p (hsub p hp), fun p hp p' hp' => hfp p hp p' (hsub p' hp')⟩, fun p hp => hkp p (hsub p hp)⟩ (by rw [hkl]; exact hr3)
end

section
variable {C : Cx} {d : Nat} {σ : Sto} {Q : V → Sto → Prop} {ro : Addr} {rv : List (Str × Addr)} {es : Str → List (Int × List Need)}
structure WishOk (wi : List Need) : Prop where
  len : wi.length ≤ 8
  ok : ∀ n ∈ wi, NeedOk n
theorem G_last {xs : List V} (h1 : 0 < xs.length) (hs : xs.length < 2 ^ 40) (q : ∀ X ∈ xs, Q X σ) : SubR C d (.lst xs) (.int (-1)) σ Q := by
  have hl : (-1 + (xs.length : Int)).toNat < xs.length := by lia
  exact G_listN (.lst _) (by decide) (by lia) (by decide) (List.getElem?_eq_getElem hl) (q _ (List.getElem_mem hl))
theorem sortI_ok {l : List Int} {P : Int → Prop} (h : ∀ i ∈ l, P i) : ∀ i ∈ sortI l, P i := fun i hi => h i ((sortI_perm l).mem_iff.mp hi)
theorem w_row_makes (H : G1 C) (S : Rw σ ro rv es) (hne : ∀ p ∈ rv, es p.1 ≠ [] ∧ (es p.1).length ≤ 4) {w : Str} (hw : w ∈ rv.map (·.1)) :
    0 < (sortI ((es w).map (·.1))).length ∧ (sortI ((es w).map (·.1))).length ≤ 20 ∧ ∀ i ∈ sortI ((es w).map (·.1)), 1 ≤ i ∧ i ≤ 999 := by
  obtain ⟨p, hp, rfl⟩ := List.mem_map.mp hw
  have h := hne p hp
  have hl : (sortI ((es p.1).map (·.1))).length = (es p.1).length := by rw [(sortI_perm _).length_eq, List.length_map]
  refine ⟨by rw [hl]; exact List.length_pos_iff.mpr h.1, by lia, sortI_ok fun i hi => ?_⟩
  obtain ⟨e, he, rfl⟩ := List.mem_map.mp hi
  exact (S.eok p.1).mb e he
noncomputable def part9 : Unit := ()
theorem w__law_wish (H : G1 C) {xs : List Int} {most : Int} (hx : xs.length ≤ 100) (S : Rw σ ro rv es) (hlo : 0 < rv.length) (hne : ∀ p ∈ rv, es p.1 ≠ [] ∧ (es p.1).length ≤ 4) (m0 : 0 < most) (m1 : most ≤ 8)
    (q : ∀ wi, WishOk wi → Q (.lst (wi.map needV)) σ) : CW C (d + 3) (.ref 319) [.lst (xs.map V.int), .ref ro, .int most] σ Q := by
  refine CW_freeze ?_
  refine CW_at (G1.kin (by assumption)) ["_law_names_here", "_law_found", "_law_number", "_law_turn", "_law_name", "_law_low", "_law_high"] [("list", .type "list"), ("_law_names", .ref 295), ("len", .bi "len"), ("_law_mixed", .ref 290), ("range", .type "range"), ("_law_stretch", .ref 302), ("sorted", .bi "sorted")] rfl rfl rfl rfl (by rfl) rfl rfl (params := ["_law_script", "_law_rows_here", "_law_most"]) (by intro vs h; rcases vs with _ | ⟨a, _ | ⟨b, _ | ⟨c, _ | ⟨e, _ | ⟨f, _ | ⟨g, _ | ⟨g2, r⟩⟩⟩⟩⟩⟩⟩ <;> first | (exact rfl) | (exact absurd h (by simp))) rfl (vars := ["_law_script", "_law_rows_here", "_law_most", "_law_names_here", "_law_found", "_law_number", "_law_turn", "_law_name", "_law_low", "_law_high"]) rfl (.arg (.arg (.arg (.oth (.oth (.oth (.oth (.oth (.oth (.oth (.nil))))))))))) (by decide +kernel) (GL_cons (g_list (by assumption)) (GL_cons (g__law_names (by assumption)) (GL_cons (g_len (by assumption)) (GL_cons (g__law_mixed (by assumption)) (GL_cons (g_range (by assumption)) (GL_cons (g__law_stretch (by assumption)) (GL_cons (g_sorted (by assumption)) GL_nil))))))) ?_
  intro env hsc
  have hrl := S.rl
  have hro := S.rows
  have hrn : ((kvV rv).map (·.1)).Nodup := by rw [kvV_keys]; exact S.rwn
  have hkl : (kvV rv).length = rv.length := List.length_map _
  have hkz0 : (kvV rv).length ≤ sizeLine := lenM hrl (by decide)
  repeat' walk_at "one"
  refine K_listDS H.ns hro hrn hkz0 (.inl ?_)
  repeat' walk_at "one"
  refine K_lenDS H.ns hro hrn hkz0 ?_
  repeat' walk_at "one"
  refine fnc (w__law_names H hx (by lia) (by lia) (fun ws wl hw hwn => ?_))
  repeat' walk_at "one"
  have hwl : (ws.map V.str).length ≤ 20 := by rw [List.length_map]; lia
  refine G_slice (.lst _) (.int _) .none .none (fun e => nomatch e) (len_ok (Nat.le_trans hwl (by decide))) (NL_f ?_)
  have hsl := slL_le (xs := ws.map V.str) (lo := some (-1)) (hi := none)
  have hsm : ∀ X ∈ slL (ws.map V.str) (some (-1)) none none, ∃ w, X = .str w ∧ Ware w := fun X hX => by
    obtain ⟨w, hm, rfl⟩ := List.mem_map.mp (slL_mem X hX)
    exact ⟨w, rfl, hw w hm⟩
  have hsl := Nat.le_trans hsl hwl
  generalize slL (ws.map V.str) (some (-1)) none none = sl at hsl hsm ⊢
  have hkl2 : ((kvV rv).map fun p => V.str p.1).length = rv.length := by rw [List.length_map, hkl]
  have hsum : rv.length + sl.length ≤ 40 := by lia
  refine B_addL (.lst _) (.lst _) (len_ok (by rw [hkl2]; exact Nat.le_trans hsum (by decide))) (NL_f ?_)
  have hnm : ∀ X ∈ ((kvV rv).map fun p => V.str p.1) ++ sl, ∃ w, X = .str w ∧ Ware w := fun X hX => by
    rcases List.mem_append.mp hX with h | h
    · obtain ⟨p, hp, rfl⟩ := List.mem_map.mp h
      obtain ⟨p', hp', rfl⟩ := List.mem_map.mp hp
      exact ⟨_, rfl, S.wok p' hp'⟩
    · exact hsm X h
  have hnl : (((kvV rv).map fun p => V.str p.1) ++ sl).length ≤ 40 := by rw [List.length_append, hkl2]; exact hsum
  have hnl0 : (((kvV rv).map fun p => V.str p.1) ++ sl).length = rv.length + sl.length := by rw [List.length_append, hkl2]
  generalize ((kvV rv).map fun p => V.str p.1) ++ sl = nms at hnm hnl hnl0 ⊢
  repeat' walk_at "one"
  rename_i a o hf
  refine fnc (w__law_mixed H hx (by decide) (by decide) (fun n0 b0 b1 => ?_))
  repeat' walk_at "one"
  refine S_ForQ (fun i m τ => i ≤ 8 ∧ ∃ (o : Obj) (wi : List Need) (v1 v2 v3 v4 v5 : Option V), wi.length ≤ i ∧ (∀ n ∈ wi, NeedOk n) ∧ τ = (a, o, .list (wi.map needV)) :: σ ∧ m = [some (.lst (xs.map V.int)), some (.ref ro), some (.int most), some (.lst nms), some (.ref a), v1, v2, v3, v4, v5]) (AI_range ?_)
  have r0 := Int.fmod_nonneg_of_pos (n0.fdiv 9) m0
  have r1 := Int.fmod_lt_of_pos (n0.fdiv 9) m0
  have hmz : most ≠ 0 := by lia
  repeat' walk_at "one"
  all_goals first | exact hmz | skip
  refine G_any (Int.fmod_nonneg_of_pos _ (by decide)) (Int.fmod_lt_of_pos _ (by decide)) (by decide) fun X hX => ?_
  obtain ⟨w0, rfl, w2⟩ : ∃ w0 : Nat, X = .int (w0 : Int) ∧ w0 ≤ 2 := smallInts (by decide) X hX
  clear hX
  obtain ⟨k1, hk1, k2, k3⟩ := succ_nat r0 r1
  rw [hk1]
  refine G_any (Int.natCast_nonneg w0) (Int.ofNat_lt.mpr (Nat.lt_succ_of_le w2)) (show 3 < 2 ^ 40 by decide) fun X hX => ?_
  obtain ⟨cnt, rfl, c1⟩ : ∃ cnt : Nat, X = .int (cnt : Int) ∧ cnt ≤ 8 := by
    simp only [List.mem_cons, List.not_mem_nil, or_false] at hX
    rcases hX with rfl | rfl | rfl
    · first | exact ⟨0, rfl, by decide⟩ | exact ⟨k1, rfl, by lia⟩ | exact ⟨8, rfl, by decide⟩
    · first | exact ⟨0, rfl, by decide⟩ | exact ⟨k1, rfl, by lia⟩ | exact ⟨8, rfl, by decide⟩
    · first | exact ⟨0, rfl, by decide⟩ | exact ⟨k1, rfl, by lia⟩ | exact ⟨8, rfl, by decide⟩
  clear hX r0 r1 hk1 k2 k3
  repeat' walk_at "one"
  refine ⟨_, _, _, cnt, rfl, rg_s (Nat.le_trans c1 (by decide)), rg_z cnt, ⟨by decide, o, [], _, none, none, none, none, by decide, (fun _ h => by cases h), rfl, rfl⟩, fun i X hX m τ hI QB hQB => ?_, fun m τ hI => ?_⟩
  · obtain ⟨hi8, o, wi, v1, v2, v3, v4, v5, hwl2, hok, rfl, rfl⟩ := hI
    obtain ⟨hi, rfl⟩ := rangeL_at hX
    have hi9 : i + 1 ≤ 8 := Nat.le_trans hi c1
    have hwV : (wi.map needV).length ≤ sizeLine := lenM (Nat.le_trans hwl2 hi8) (by decide)
    with_reducible refine AA_Name PutC.put ?_
    repeat' walk_at "one"
    refine fnc (w__law_mixed H hx (by lia) (by lia) (fun n c2 c3 => ?_))
    with_reducible refine put_c ?_
    with_reducible refine Then_next ?_
    refine S_cutQ (fun m τ => τ = (a, o, .list (wi.map needV)) :: σ ∧ ∃ nm : Str, Ware nm ∧ m = [some (.lst (xs.map V.int)), some (.ref ro), some (.int most), some (.lst nms), some (.ref a), some (.int n), some (.int (i : Int)), some (.str nm), v4, v5]) ?_ ?_
    · intro QC hQC
      repeat' walk_at "one"
      refine K_lenDS H.ns (hro.cons _) hrn hkz0 ?_
      have hkz : ((kvV rv).length : Int) ≠ 0 := by lia
      have hkp : (0 : Int) < (kvV rv).length := by lia
      have s1 := Int.fmod_lt_of_pos n hkp
      repeat' walk_at "one"
      all_goals first | exact hkz | skip
      refine G_any (Int.fmod_nonneg_of_pos _ hkp) (by lia) (by lia) fun X hX => ?_
      obtain ⟨nm, rfl, hnw⟩ := hnm X hX
      repeat' walk_at "one"
      exact hQC _ _ ⟨rfl, nm, hnw, rfl⟩
    rintro m τ ⟨rfl, nm, hnw, rfl⟩
    refine S_cutQ (fun m τ => τ = (a, o, .list (wi.map needV)) :: σ ∧ ∃ nm : Str, Ware nm ∧ m = [some (.lst (xs.map V.int)), some (.ref ro), some (.int most), some (.lst nms), some (.ref a), some (.int n), some (.int (i : Int)), some (.str nm), v4, v5]) ?_ ?_
    · intro QC hQC
      repeat' walk_at "one"
      · refine G_last (by lia) (by lia) fun X hX => ?_
        obtain ⟨nm, rfl, hnw⟩ := hnm X hX
        repeat' walk_at "one"
        exact hQC _ _ ⟨rfl, nm, hnw, rfl⟩
      · exact hQC _ _ ⟨rfl, nm, hnw, rfl⟩
    clear hnw
    rintro m τ ⟨rfl, nm, hnw, rfl⟩
    with_reducible refine S_cons ?_
    refine S_AssignT (AT_drop ?_)
    repeat' walk_at "one"
    refine AT_Dict1 (KK.int C.prog C.w) (fun b ob hfb => ?_)
    repeat' walk_at "one"
    refine ⟨7, rfl, rfl, fun ob' => ?_⟩
    repeat' walk_at "one"
    refine K_getDS H.ns ((hro.cons _).cons _) hrn ?_
    have hsort : ∀ K : V → Sto → Prop, (∀ ms : List Int, 0 < ms.length → ms.length ≤ 20 → (∀ i ∈ ms, 1 ≤ i ∧ i ≤ 999) → K (.lst (ms.map V.int)) ((b, ob', AO.dict (ents (KK.int C.prog C.w) [(7, V.lst [])])) :: (a, o, AO.list (wi.map needV)) :: σ)) →
        KW C (d + 2) (.bi "sorted") [(vAt (kvV rv) nm).getD (.ref b)] ((b, ob', AO.dict (ents (KK.int C.prog C.w) [(7, V.lst [])])) :: (a, o, AO.list (wi.map needV)) :: σ) K := fun K k => by
      by_cases hm : nm ∈ rv.map (·.1)
      · obtain ⟨b', hb', e, hat⟩ := S.at hm
        have hs := w_row_makes H S hne hm
        have h4 := (hne _ hb').2
        rw [e]
        refine K_sortDI (kvs := esV (es nm)) H.ns ((hat.cons _).cons _) (by rw [esV_keys]; exact (S.eok nm).nd) (by unfold esV; rw [List.length_map]; exact Nat.lt_of_le_of_lt h4 (by decide)) (.inl ?_)
        rw [esV_keys]
        exact k _ hs.1 hs.2.1 hs.2.2
      · rw [vAt_none (by rw [kvV_keys]; exact hm)]
        refine K_sortDI (kvs := [(7, V.lst [])]) H.ns At.hd (by decide) (by decide) (.inl ?_)
        show K (.lst ((sortI [7]).map V.int)) _
        rw [show sortI [7] = [7] from by simp [sortI]]
        exact k [7] (by decide) (by decide) (by decide)
    repeat' walk_at "one"
    refine hsort _ fun ms k0 k1 k2 => ?_
    clear hsort
    repeat' walk_at "one"
    refine fnc (w__law_stretch H k0 k1 k2 fun lo hi u0 u1 u2 => ?_)
    refine ⟨(a, o, .list (wi.map needV)) :: σ, List.sublist_cons_self _ _, ?_⟩
    with_reducible refine AAs2 ?_
    with_reducible refine AA_Name PutC.put ?_
    with_reducible refine AA_Name PutC.put ?_
    repeat' walk_at "one"
    refine K_apph hwV (fun o' => ?_)
    repeat' walk_at "one"
    refine hQB _ _ trivial ⟨hi9, o', wi ++ [(nm, lo, hi)], _, _, _, _, _, by rw [List.length_append]; exact Nat.succ_le_succ hwl2, fun n hn => ?_, by rw [List.map_append]; rfl, rfl⟩
    rcases List.mem_append.mp hn with h | h
    · exact hok n h
    · rw [List.mem_singleton.mp h]; exact ⟨hnw, u0, u1, u2⟩
  · obtain ⟨hi8, o, wi, v1, v2, v3, v4, v5, hwl2, hok, rfl, rfl⟩ := hI
    repeat' walk_at "one"
    exact ⟨a, o, _, σ, rfl, rfl, q wi ⟨Nat.le_trans hwl2 hi8, hok⟩⟩
end

section
variable {C : Cx} {d : Nat} {σ : Sto} {Q : V → Sto → Prop} {i k ro : Addr} {kv rv : List (Str × Addr)} {es : Str → List (Int × List Need)}
theorem EsOk.e3 {w : Str} {l : List (Int × List Need)} (h : EsOk w l) : (l.map (·.1)).Nodup ∧ l.length ≤ 8 ∧ ∀ p ∈ l, p.2.length ≤ 6 := ⟨h.nd, h.len, fun p hp => (h.nok p hp).len⟩
theorem Shp.frame {σ' : Sto} (S : Shp σ i k kv es) (h : ∀ a ∈ i :: k :: kv.map (·.2), ∀ x, At σ a x → At σ' a x) : Shp σ' i k kv es :=
  ⟨let ⟨dx, e⟩ := S.inst; ⟨dx, h _ (.head _) _ e⟩, h _ (.tail _ (.head _)) _ S.kept, S.kvn, S.kl, fun p hp => h _ (.tail _ (.tail _ (List.mem_map.mpr ⟨p, hp, rfl⟩))) _ (S.inn p hp), S.out, S.eok, S.sep⟩
theorem updE_all {P : Str → List (Int × List Need) → Prop} {w : Str} {l : List (Int × List Need)} (h : ∀ v, P v (es v)) (hl : P w l) : ∀ v, P v (updE es w l v) := fun v => by
  by_cases e : v = w
  · subst e; rw [updE_self]; exact hl
  · rw [updE_ne e]; exact h v
noncomputable abbrev E3 (l : List (Int × List Need)) : Prop := (l.map (·.1)).Nodup ∧ l.length ≤ 8 ∧ ∀ p ∈ l, p.2.length ≤ 6
theorem Shp.vv (S : Shp σ i k kv es) : (kv.map (·.2)).Nodup := (List.nodup_cons.mp (List.nodup_cons.mp S.sep).2).2
theorem Shp.set (S : Shp σ i k kv es) {σ' : Sto} {w : Str} {a : Addr} {l : List (Int × List Need)} (ha : (w, a) ∈ kv) (ok : EsOk w l) (U : UpdS σ σ' a (dI (esV l))) : Shp σ' i k kv (updE es w l) := by
  obtain ⟨n1, n2, n3⟩ := S.ne ha
  obtain ⟨dx, hin⟩ := S.inst
  refine ⟨⟨dx, U.at hin n1⟩, U.at S.kept n2, S.kvn, S.kl, fun p hp => ?_, fun v hv => ?_, updE_all (P := fun _ l => E3 l) S.eok ok.e3, S.sep⟩
  · by_cases e : p.1 = w
    · have : p = (w, a) := nodup_inj S.kvn hp ha e
      subst this; rw [updE_self]; exact U.here
    · rw [updE_ne e]
      exact U.at (S.inn p hp) fun e2 => e (by rw [nodup_inj S.vv hp ha e2])
  · rw [updE_ne (fun e => hv (by rw [e]; exact List.mem_map.mpr ⟨_, ha, rfl⟩))]; exact S.out v hv
theorem Shp.add (S : Shp σ i k kv es) {σ' : Sto} {w : Str} {b : Addr} {l : List (Int × List Need)} (hno : w ∉ kv.map (·.1)) (hl : kv.length < 12) (ok : EsOk w l) (hf : Fresh σ b) (h1 : At σ' b (dI (esV l))) (h2 : At σ' k (dS (kvV (kv ++ [(w, b)])))) (h3 : ∀ p ∈ σ, p.1 ≠ k → p ∈ σ') :
    Shp σ' i k (kv ++ [(w, b)]) (updE es w l) := by
  have mv : ∀ c x, c ≠ k → At σ c x → At σ' c x := fun c x h ⟨o, ho⟩ => ⟨o, h3 _ ho h⟩
  have mem : ∀ p ∈ kv ++ [(w, b)], p ∈ kv ∨ p = (w, b) := fun p hp => by simpa using hp
  obtain ⟨dx, hin⟩ := S.inst
  have s1 := List.nodup_cons.mp S.sep
  have s2 := List.nodup_cons.mp s1.2
  refine ⟨⟨dx, mv _ _ (fun e => s1.1 (e ▸ .head _)) hin⟩, h2, by rw [List.map_append]; exact nodup_snoc S.kvn hno, by simp; lia, fun p hp => ?_, fun v hv => ?_, updE_all (P := fun _ l => E3 l) S.eok ok.e3, ?_⟩
  · rcases mem p hp with h | rfl
    · rw [updE_ne (fun e => hno (by rw [← e]; exact List.mem_map.mpr ⟨p, h, rfl⟩))]
      exact mv _ _ (fun e => s2.1 (e ▸ List.mem_map.mpr ⟨p, h, rfl⟩)) (S.inn p h)
    · rw [updE_self]; exact h1
  · rw [List.map_append, List.mem_append, not_or] at hv
    rw [updE_ne (fun e => hv.2 (by rw [e]; exact .head _))]; exact S.out v hv.1
  · rw [List.map_append]
    refine nodup_snoc (l := i :: k :: kv.map (·.2)) S.sep fun h => ?_
    rcases List.mem_cons.mp h with h | h
    · exact hf.ne hin h.symm
    · rcases List.mem_cons.mp h with h | h
      · exact hf.ne S.kept h.symm
      · obtain ⟨p, hp, e⟩ := List.mem_map.mp h
        exact hf.ne (S.inn p hp) e
theorem keysV (l : List (Int × List Need)) : ((esV l).map fun p => (KK.int C.prog C.w).v p.1) = (l.map (·.1)).map V.int := by rw [List.map_map, List.map_map]; rfl
theorem keysK (l : List (Str × Addr)) : ((kvV l).map fun p => (KK.str C.prog C.w).v p.1) = (l.map (·.1)).map V.str := by rw [List.map_map, List.map_map]; rfl
noncomputable def part10 : Unit := ()
theorem w__law_shop (H : G1 C) (S : Rw σ ro rv es) (hne : ∀ p ∈ rv, es p.1 ≠ [])
    (q : ∀ x k kv σ', Shp σ' x k kv es → kv.map (·.1) = rv.map (·.1) → Fresh σ x → Fresh σ k → (∀ p ∈ kv, Fresh σ p.2) → (∀ p ∈ σ, p ∈ σ') → Q (.ref x) σ') : CW C (d + 5) (.ref 326) [.ref ro] σ Q := by
  refine CW_at (G1.kin (by assumption)) ["_law_shop_here", "_law_ware", "_law_make"] [("Shop", .ref 279), ("list", .type "list")] rfl rfl rfl rfl (by rfl) rfl rfl (params := ["_law_rows_here"]) (by intro vs h; rcases vs with _ | ⟨a, _ | ⟨b, _ | ⟨c, _ | ⟨e, _ | ⟨f, _ | ⟨g, _ | ⟨g2, r⟩⟩⟩⟩⟩⟩⟩ <;> first | (exact rfl) | (exact absurd h (by simp))) rfl (vars := ["_law_rows_here", "_law_shop_here", "_law_ware", "_law_make"]) rfl (.arg (.oth (.oth (.oth (.nil))))) (by decide +kernel) (GL_cons (g_Shop (by assumption)) (GL_cons (g_list (by assumption)) GL_nil)) ?_
  intro env hsc
  clear hsc
  repeat' walk_at "one"
  refine ⟨rfl, w_Shop H fun x k dx σ1 f1 f2 f3 f4 f5 f6 => ?_⟩
  have hrn : ((kvV rv).map (·.1)).Nodup := by rw [kvV_keys]; exact S.rwn
  have hrl := S.rl
  obtain ⟨oro, hrm⟩ := S.rows
  repeat' walk_at "one"
  refine S_ForQ (fun i m τ => ∃ (kv : List (Str × Addr)) (es' : Str → List (Int × List Need)) (u v : Option V), Shp τ x k kv es' ∧ kv.map (·.1) = (rv.map (·.1)).take i ∧ (∀ w ∈ (rv.map (·.1)).take i, es' w = es w) ∧ (∀ p ∈ kv, Fresh σ p.2) ∧ (∀ p ∈ σ, p ∈ τ) ∧ m = [some (.ref ro), some (.ref x), u, v]) (AI_dict (KK.str C.prog C.w) H.ns ?_)
  with_reducible refine AT_lc ?_
  refine ⟨ro, oro, kvV rv, rfl, f6 _ hrm, hrn, ⟨[], fun _ => [], none, none, ⟨⟨dx, f4⟩, f5, List.nodup_nil, by decide, (fun _ h => by cases h), (fun _ _ => rfl), (fun _ => (EsOk.nil (w := "")).e3), ?_⟩, rfl, (fun _ h => by cases h), (fun _ h => by cases h), f6, rfl⟩, fun i X hX m τ hI QB hQB => ?_, fun m τ hI => ?_⟩
  · exact List.nodup_cons.mpr ⟨fun h => f3 (by simpa using h), List.nodup_cons.mpr ⟨List.not_mem_nil, List.nodup_nil⟩⟩
  · obtain ⟨kv, es', u, v, T, hkeys, hes, hfp, hkp, rfl⟩ := hI
    rw [keysK, List.getElem?_map] at hX
    obtain ⟨w, hwe, rfl⟩ := Option.map_eq_some_iff.mp hX
    have hwm := List.mem_of_getElem? hwe
    obtain ⟨b, hb, hrb, hat⟩ := S.at hwm
    obtain ⟨ob, hbm⟩ := hat
    have hil := (List.getElem?_eq_some_iff.mp hwe).1
    have htk : (rv.map (·.1)).take (i + 1) = (rv.map (·.1)).take i ++ [w] := by rw [List.take_succ, hwe]; rfl
    have hnew : w ∉ kv.map (·.1) := by
      rw [hkeys]
      have := ((List.take_sublist (i + 1) (rv.map (·.1)))).nodup S.rwn
      rw [htk] at this
      exact fun hm => (List.nodup_append.mp this).2.2 _ hm _ (.head _) rfl
    have hkl : kv.length = i := by have := congrArg List.length hkeys; simp at this; simp at hil; lia
    have hil : i < rv.length := by simpa using hil
    have hok := S.eok w
    have hw := S.wok _ hb
    have hen : ((esV (es w)).map (·.1)).Nodup := by rw [esV_keys]; exact hok.nd
    have hel := hok.len
    with_reducible refine AA_Name PutC.put ?_
    repeat' walk_at "one"
    refine S_ForQ (fun j m τ => ∃ (kv' : List (Str × Addr)) (v : Option V), Shp τ x k kv' (updE es' w ((es w).take j)) ∧ (j = 0 ∧ kv' = kv ∨ 0 < j ∧ kv'.map (·.1) = kv.map (·.1) ++ [w]) ∧ (∀ p ∈ kv', Fresh σ p.2) ∧ (∀ p ∈ σ, p ∈ τ) ∧ m = [some (.ref ro), some (.ref x), some (.str w), v]) (AI_dict (KK.int C.prog C.w) H.ns ?_)
    have hro : At τ ro (dS (kvV rv)) := ⟨oro, hkp _ hrm⟩
    repeat' walk_at "one"
    refine ⟨b, ob, esV (es w), rfl, hkp _ hbm, hen, ⟨kv, _, by rw [List.take_zero, updE_id (T.out w hnew)]; exact T, .inl ⟨rfl, rfl⟩, hfp, hkp, rfl⟩, fun j X hX m τ2 hI QB hQB => ?_, fun m τ2 hI => ?_⟩
    · obtain ⟨kv', v', T2, hk2, hfp2, hkp2, rfl⟩ := hI
      rw [keysV, List.getElem?_map, List.getElem?_map] at hX
      obtain ⟨mk0, hme, rfl⟩ := Option.map_eq_some_iff.mp hX
      obtain ⟨⟨mk, ns⟩, hne', rfl⟩ := Option.map_eq_some_iff.mp hme
      have hmem := List.mem_of_getElem? hne'
      have hjl := (List.getElem?_eq_some_iff.mp hne').1
      have hns := hok.nok _ hmem
      have hmb := hok.mb _ hmem
      have h6 := hns.len
      have hv : vAt (esV (es w)) mk = some (.lst (ns.map needV)) := vAt_mem hen (List.mem_map.mpr ⟨_, hmem, rfl⟩)
      have hjt : (es w).take (j + 1) = (es w).take j ++ [(mk, ns)] := by rw [List.take_succ, hne']; rfl
      have hjnew : mk ∉ ((es w).take j).map (·.1) := by
        have := ((List.take_sublist (j + 1) (es w)).map (·.1)).nodup hok.nd
        rw [hjt, List.map_append] at this
        exact fun hm => (List.nodup_append.mp this).2.2 _ hm _ (.head _) rfl
      have hokj : EsOk w ((es w).take (j + 1)) := ⟨((List.take_sublist _ _).map _).nodup hok.nd, by rw [List.length_take]; lia, fun p hp => hok.mb p (List.mem_of_mem_take hp), fun p hp => hok.nok p (List.mem_of_mem_take hp)⟩
      have hro : At τ2 ro (dS (kvV rv)) := ⟨oro, hkp2 _ hrm⟩
      have hbat : At τ2 b (dI (esV (es w))) := ⟨ob, hkp2 _ hbm⟩
      obtain ⟨dx', hin⟩ := T2.inst
      with_reducible refine AA_Name PutC.put ?_
      repeat' walk_at "one"
      refine K_listL (.lst _) (len_ok (by simp; simp only at h6; lia)) (.inr fun nl onl hfn => ?_)
      repeat' walk_at "one"
      have T3 : Shp ((nl, onl, .list (ns.map needV)) :: τ2) x k kv' (updE es' w ((es w).take j)) := T2.frame fun a _ y hy => hy.cons _
      have hkl2 : w ∉ kv'.map (·.1) → kv'.length ≠ 12 ∧ kv' = kv := fun hno => by
        rcases hk2 with ⟨_, rfl⟩ | ⟨_, e⟩
        · exact ⟨by lia, rfl⟩
        · rw [e] at hno; exact absurd (List.mem_append_right _ (.head _)) hno
      refine fnc (w_put H T3 hw hmb.1 hmb.2 At.hd hns (by rw [updE_self]; exact hjnew) (by rw [updE_self, List.length_take]; lia) (fun hno => (hkl2 hno).1) (fun a ha σ2 U => ?_) (fun hno b2 σ2 hf h1 h2 h3 => ?_))
      · rw [updE_self, ← hjt] at U
        repeat' walk_at "one"
        have T4 := T3.set ha hokj U
        rw [updE_updE] at T4
        refine hQB _ _ (U.keep _ (.tail _ (hkp2 _ hbm)) fun e => hfp2 _ ha _ hbm e) ⟨kv', _, T4, .inr ⟨by lia, ?_⟩, hfp2, fun p hp => U.keep p (.tail _ (hkp2 p hp)) fun e => hfp2 _ ha p hp e, rfl⟩
        rcases hk2 with ⟨_, rfl⟩ | ⟨_, e⟩
        · exact absurd (List.mem_map.mpr ⟨_, ha, rfl⟩) hnew
        · exact e
      · obtain ⟨_, rfl⟩ := hkl2 hno
        have hj0 : j = 0 := by
          rcases hk2 with ⟨e, _⟩ | ⟨_, e⟩
          · exact e
          · have := congrArg List.length e; simp at this
        subst hj0
        repeat' walk_at "one"
        have T4 := T3.add hno (by lia) hokj hf (by rw [hjt]; exact h1) h2 h3
        rw [updE_updE] at T4
        have kp : ∀ p ∈ σ, p ∈ σ2 := fun p hp => h3 p (.tail _ (hkp2 p hp)) (f2 p hp)
        refine hQB _ _ (kp _ hbm) ⟨_, _, T4, .inr ⟨by lia, List.map_append⟩, fun p hp => ?_, kp, rfl⟩
        rcases List.mem_append.mp hp with h | h
        · exact hfp2 p h
        · rw [List.mem_singleton.mp h]; exact fun p' hp' => hf p' (.tail _ (hkp2 p' hp'))
    · obtain ⟨kv', v', T2, hk2, hfp2, hkp2, rfl⟩ := hI
      rw [keysV, List.length_map, List.length_map, List.take_length] at T2
      rw [keysV, List.length_map, List.length_map] at hk2
      have hk3 : kv'.map (·.1) = kv.map (·.1) ++ [w] := by
        rcases hk2 with ⟨e, _⟩ | ⟨_, e⟩
        · exact absurd (List.eq_nil_of_length_eq_zero e) (hne _ hb)
        · exact e
      repeat' walk_at "one"
      refine hQB _ _ (hkp2 _ hrm) ⟨kv', _, _, _, T2, by rw [hk3, htk, hkeys], fun v hv => ?_, hfp2, hkp2, rfl⟩
      rw [htk] at hv
      by_cases e : v = w
      · rw [e, updE_self]
      · rw [updE_ne e]
        rcases List.mem_append.mp hv with h | h
        · exact hes v h
        · exact absurd (List.mem_singleton.mp h) e
  · obtain ⟨kv, es', u, v, T, hkeys, hes, hfp, hkp, rfl⟩ := hI
    rw [keysK, List.length_map, List.take_length] at hkeys hes
    have e : es' = es := by
      funext v
      by_cases h : v ∈ rv.map (·.1)
      · exact hes v h
      · rw [S.out v h, T.out v (by rw [hkeys]; exact h)]
    subst e
    repeat' walk_at "one"
    exact q x k kv τ T hkeys f1 f2 hfp hkp
end

section
variable {C : Cx} {d : Nat} {σ : Sto} {Q : V → Sto → Prop} {i k ro : Addr} {kv rv : List (Str × Addr)} {es : Str → List (Int × List Need)}
noncomputable abbrev pkV (pk : List (Str × Int)) : List (Str × V) := pk.map fun p => (p.1, V.int p.2)
theorem pkV_keys (pk : List (Str × Int)) : (pkV pk).map (·.1) = pk.map (·.1) := by simp [List.map_map, Function.comp_def]
structure PkB (pk : List (Str × Int)) : Prop where
  nd : (pk.map (·.1)).Nodup
  len : pk.length ≤ 12
  ok : ∀ p ∈ pk, Ware p.1 ∧ 1 ≤ p.2 ∧ p.2 ≤ 999
noncomputable def PkIn (es : Str → List (Int × List Need)) (pk : List (Str × Int)) : Prop := ∀ p ∈ pk, ∃ ns, (p.2, ns) ∈ es p.1
noncomputable def nx (es : Str → List (Int × List Need)) (pk : List (Str × Int)) (w : Str) : List Str :=
  match pk.find? (fun p => decide (p.1 = w)) with
  | none => []
  | some p => match (es w).find? (fun e => decide (e.1 = p.2)) with
    | none => []
    | some e => e.2.map (·.1)
theorem find_key {K B : Type} [DecidableEq K] {l : List (K × B)} (hn : (l.map (·.1)).Nodup) {k : K} {b : B} (h : (k, b) ∈ l) : l.find? (fun p => decide (p.1 = k)) = some (k, b) := by
  cases e : l.find? (fun p => decide (p.1 = k)) with
  | none => exact absurd (List.find?_eq_none.mp e _ h) (by simp)
  | some p =>
    have h1 := List.mem_of_find?_eq_some e
    have h2 := List.find?_some e
    rw [nodup_inj hn h1 h (by simpa using h2)]
theorem find_no {K B : Type} [DecidableEq K] {l : List (K × B)} {k : K} (h : k ∉ l.map (·.1)) : l.find? (fun p => decide (p.1 = k)) = none :=
  List.find?_eq_none.mpr fun p hp => by
    have : p.1 ≠ k := fun e => h (e ▸ List.mem_map.mpr ⟨p, hp, rfl⟩)
    simpa using this
theorem nx_at {pk : List (Str × Int)} (pb : PkB pk) (pi : PkIn es pk) (w : Str) (en : ((es w).map (·.1)).Nodup) :
    (w ∉ pk.map (·.1) ∧ vAt (pkV pk) w = none ∧ nx es pk w = []) ∨ ∃ mk ns, (w, mk) ∈ pk ∧ vAt (pkV pk) w = some (.int mk) ∧ (mk, ns) ∈ es w ∧ nx es pk w = ns.map (·.1) := by
  by_cases h : w ∈ pk.map (·.1)
  · obtain ⟨⟨w, mk⟩, hp, rfl⟩ := List.mem_map.mp h
    obtain ⟨ns, hns⟩ := pi _ hp
    refine .inr ⟨mk, ns, hp, vAt_mem (by rw [pkV_keys]; exact pb.nd) (List.mem_map.mpr ⟨_, hp, rfl⟩), hns, ?_⟩
    unfold nx
    rw [find_key pb.nd hp]
    show (match (es w).find? (fun e : Int × List Need => decide (e.1 = mk)) with | none => [] | some e => e.2.map (fun n : Need => n.1)) = _
    rw [find_key en hns]
  · refine .inl ⟨h, vAt_none (by rw [pkV_keys]; exact h), ?_⟩
    unfold nx
    rw [find_no h]
theorem nx_len {pk : List (Str × Int)} (h : ∀ w, ∀ p ∈ es w, p.2.length ≤ 6) (w : Str) : (nx es pk w).length ≤ 6 := by
  unfold nx
  split
  · exact Nat.zero_le _
  · split
    · exact Nat.zero_le _
    · rename_i e he
      rw [List.length_map]; exact h w _ (List.mem_of_find?_eq_some he)
theorem Has.hd {a : Addr} {o : Obj} {xs : List V} : Has ((a, o, .list xs) :: σ) (.ref a) (.list xs) (fun σ' => (a, o, AO.list xs) ∈ σ') := .refL (.head _)
theorem notB {b : Bool} (h : (!b) = true) : ¬ b = true := by cases b <;> simp at h ⊢
theorem notB' {b : Bool} (h : (!b) = false) : b = true := by cases b <;> simp at h ⊢
noncomputable def part11 : Unit := ()
theorem w_need_wish (H : G1 C) {x : V} {wi : List Need} {Px : Sto → Prop} (hx : Has σ x (.list (wi.map needV)) Px) (ok : WishOk wi) (q : Q .none σ) : CW C (d + 3) (.ref 149) [x] σ Q := by
  refine CW_at (G1.kin (by assumption)) [] [("isinstance", .bi "isinstance"), ("list", .type "list"), ("len", .bi "len"), ("MOST_WISHES", .int 8), ("all", .bi "all"), ("BadWish", .ref 116)] rfl rfl rfl rfl (by rfl) rfl rfl (params := ["wish"]) (by intro vs h; rcases vs with _ | ⟨a, _ | ⟨b, _ | ⟨c, _ | ⟨e, _ | ⟨f, _ | ⟨g, _ | ⟨g2, r⟩⟩⟩⟩⟩⟩⟩ <;> first | (exact rfl) | (exact absurd h (by simp))) rfl (vars := ["wish"]) rfl (.arg (.nil)) (by decide +kernel) (GL_cons (g_isinstance (by assumption)) (GL_cons (g_list (by assumption)) (GL_cons (g_len (by assumption)) (GL_cons (g_MOST_WISHES (by assumption)) (GL_cons (g_all (by assumption)) (GL_cons (g_BadWish (by assumption)) GL_nil)))))) ?_
  intro env hsc
  have h8 := ok.len
  have hl : (wi.map needV).length = wi.length := List.length_map _
  repeat' walk_at "one"
  refine I_list_list hx ?_
  repeat' walk_at "one"
  refine K_lenL hx (len_ok (by lia)) ?_
  rw [hl]
  repeat' walk_at "one"
  · clear q hsc; rename_i _ hb _; simp at hb; lia
  refine AT_CompF1 "need" [] [("is_need", .ref 137)] (by rw [hsc]; decide +kernel) (GL_cons (g_is_need H) GL_nil) .nil (AI_list ?_)
  with_reducible refine AT_lc ?_
  refine ⟨_, _, hx, len_ok (by lia), fun env' he => CompL_map (f := fun _ => .bool true) (comp_local he (by decide +kernel)) hx.p _ _ _ (fun X hX K hK => ?_) ?_⟩
  · obtain ⟨n, hn, rfl⟩ := List.mem_map.mp hX
    have hno := ok.ok n hn
    repeat' walk_at "one"
    exact hK
  · rw [List.nil_append, show (wi.map needV).map (fun _ => V.bool true) = (wi.map fun _ => true).map V.bool by simp]
    repeat' walk_at "one"
    refine K_all (.lst _) ?_
    rw [show (wi.map fun _ => true).all id = true by simp]
    repeat' walk_at "one"
    exact q
theorem w_agenda_of (H : G1 C) (S : Shp σ i k kv es) {x : V} {wi : List Need} {Px : Sto → Prop} (hx : Has σ x (.list (wi.map needV)) Px) (ok : WishOk wi) {pa : Addr} {pk : List (Str × Int)} (hp : At σ pa (dS (pkV pk))) (pb : PkB pk) (pi : PkIn es pk)
    {N : Nat} {R : List Str} (hN : N ≤ 100) (hB : Bf (nx es pk) N [] (wi.map (·.1)) R) (q : ∀ a o, Fresh σ a → Q (.ref a) ((a, o, .list (R.map V.str)) :: σ)) : CW C (d + 4) (.ref 156) [.ref i, x, .ref pa] σ Q := by
  refine CW_at (G1.kin (by assumption)) ["found", "need", "at"] [("len", .bi "len")] rfl rfl rfl rfl (by rfl) rfl rfl (params := ["shop", "wish", "pick"]) (by intro vs h; rcases vs with _ | ⟨a, _ | ⟨b, _ | ⟨c, _ | ⟨e, _ | ⟨f, _ | ⟨g, _ | ⟨g2, r⟩⟩⟩⟩⟩⟩⟩ <;> first | (exact rfl) | (exact absurd h (by simp))) rfl (vars := ["shop", "wish", "pick", "found", "need", "at"]) rfl (.arg (.arg (.arg (.oth (.oth (.oth (.nil))))))) (by decide +kernel) (GL_cons (g_len (by assumption)) GL_nil) ?_
  intro env hsc
  clear hsc
  have h8 := ok.len
  have hn : ((pkV pk).map (·.1)).Nodup := by rw [pkV_keys]; exact pb.nd
  obtain ⟨dx, hin⟩ := S.inst
  with_reducible refine S_cons ?_
  refine S_AssignL0 fun a o hf => ?_
  with_reducible refine put_c ?_
  with_reducible refine Then_next ?_
  refine S_cutQ (fun m τ => ∃ o v, τ = (a, o, .list ((addNew [] (wi.map (·.1))).map V.str)) :: σ ∧ m = [some (.ref i), some x, some (.ref pa), some (.ref a), v, none]) ?_ ?_
  · intro QC hQC
    refine S_ForQ (fun j m τ => ∃ o v, τ = (a, o, .list ((addNew [] ((wi.take j).map (·.1))).map V.str)) :: σ ∧ m = [some (.ref i), some x, some (.ref pa), some (.ref a), v, none]) (AI_list ?_)
    with_reducible refine AT_lc ?_
    refine ⟨_, _, hx.mono fun p h => .tail _ h, ⟨o, _, rfl, rfl⟩, fun j X hX m τ hI QB hQB => ?_, fun m τ hI => ?_⟩
    · obtain ⟨o, v, rfl, rfl⟩ := hI
      rw [List.getElem?_map] at hX
      obtain ⟨n, hne, rfl⟩ := Option.map_eq_some_iff.mp hX
      have hj := (List.getElem?_eq_some_iff.mp hne).1
      have htk : (wi.take (j + 1)).map (·.1) = (wi.take j).map (·.1) ++ [n.1] := by rw [List.take_succ, hne]; simp
      have hll := addNew_len ((wi.take j).map (·.1)) []
      rw [List.length_map, List.length_take, List.length_nil] at hll
      have hll2 : ((addNew [] ((wi.take j).map (·.1))).map V.str).length ≤ 100000 := by rw [List.length_map]; lia
      have hxp : Px ((a, o, .list ((addNew [] ((wi.take j).map (·.1))).map V.str)) :: σ) := (hx.mono fun p h => .tail _ h).p
      with_reducible refine AA_Name PutC.put ?_
      unfold needV
      repeat' walk_at "one"
      refine C_notInS (.refL (.head _)) ?_
      repeat' walk_at "one"
      · refine K_apph (len_ok hll2) (fun o' => ?_)
        repeat' walk_at "one"
        refine hQB _ _ (hx.mono fun p h => .tail _ h).p ⟨o', _, ?_, rfl⟩
        rename_i hb
        rw [htk, addNew_snoc, if_neg (notB hb), List.map_append]; rfl
      · refine hQB _ _ hxp ⟨o, _, ?_, rfl⟩
        rename_i hb
        rw [htk, addNew_snoc, if_pos (notB' hb)]
    · obtain ⟨o, v, rfl, rfl⟩ := hI
      refine hQC _ _ ⟨o, v, ?_, rfl⟩
      rw [List.length_map, List.take_length]
  rintro m τ ⟨o, v, rfl, rfl⟩
  obtain ⟨n0, v0, hn0, hB0, he0⟩ := Bf.news (w := []) (ys := wi.map (·.1)) (f := []) hB
  rw [List.nil_append, List.nil_append] at he0
  rw [he0]
  have hnd0 : v0.Nodup := by rw [← he0]; exact addNew_nodup List.nodup_nil
  clear he0
  repeat' walk_at "one"
  refine S_WhileQ (fun n m τ => ∃ (o : Obj) (v : Option V) (f w : List Str), Bf (nx es pk) n f w R ∧ (f ++ w).Nodup ∧ f.length + n ≤ 100 ∧ τ = (a, o, .list ((f ++ w).map V.str)) :: σ ∧ m = [some (.ref i), some x, some (.ref pa), some (.ref a), v, some (.int (f.length : Int))]) (fun n m τ hI QB hQB => ?_) n0 ⟨o, v, [], v0, hB0, hnd0, by simp; lia, rfl, rfl⟩
  obtain ⟨o, v, f, w, hB, hnd, hfl, rfl, rfl⟩ := hI
  have hwl := hB.len
  repeat' walk_at "one"
  refine K_lenL (.refL (.head _)) (len_ok (by rw [List.length_map, List.length_append]; lia)) ?_
  rw [List.length_map, List.length_append]
  refine C_lt (TX_bool ⟨fun hb => ?_, fun hb => ?_⟩)
  · cases w with
    | nil => simp at hb
    | cons y w =>
      clear hb
      have hyf : y ∉ f := fun h => (List.nodup_append.mp hnd).2.2 _ h _ (.head _) rfl
      obtain ⟨n, rfl, hB2⟩ : ∃ n', n = n' + 1 ∧ Bf (nx es pk) n' (f ++ [y]) (w ++ nx es pk y) R := by
        cases hB with
        | skip h _ => exact absurd h hyf
        | take _ h => exact ⟨_, rfl, h⟩
      obtain ⟨n', w', hn', hB', he'⟩ := Bf.news hB2
      have hnd' : (f ++ [y] ++ w').Nodup := by
        rw [← he']; exact addNew_nodup (by rw [List.append_assoc]; exact hnd)
      have hi0 : (0 : Int) ≤ (f.length : Int) := Int.natCast_nonneg _
      have hi1 : (f.length : Int) < 2 ^ 63 := by lia
      have hi2 : ((f ++ y :: w).map V.str)[(f.length : Int).toNat]? = some (.str y) := by simp
      have hpc : ∀ o', At ((a, o', AO.list ((f ++ y :: w).map V.str)) :: σ) pa (dS (pkV pk)) := fun o' => hp.cons _
      refine S_cutQ (fun m τ => ∃ (o : Obj) (v : Option V), τ = (a, o, .list ((f ++ [y] ++ w').map V.str)) :: σ ∧ m = [some (.ref i), some x, some (.ref pa), some (.ref a), v, some (.int (f.length : Int))]) ?_ ?_
      · intro QC hQC
        repeat' walk_at "one"
        refine C_inDS H.ns (hpc _) hn ?_
        rcases nx_at pb pi y (S.eok y).1 with ⟨_, e1, e2⟩ | ⟨mk, ns, hpm, e1, hns, e2⟩
        · rw [e1]
          repeat' walk_at "one"
          refine hQC _ _ ⟨o, _, ?_, rfl⟩
          rw [e2] at he'
          rw [← he']; simp [addNew]
        · rw [e1]
          obtain ⟨hw, h1, h2⟩ := pb.ok _ hpm
          have hnl := (S.eok y).2.2 _ hns
          repeat' walk_at "one"
          refine S_ForQ (fun j m τ => ∃ (o : Obj) (v : Option V), τ = (a, o, .list ((addNew (f ++ y :: w) ((ns.take j).map (·.1))).map V.str)) :: σ ∧ m = [some (.ref i), some x, some (.ref pa), some (.ref a), v, some (.int (f.length : Int))]) (AI_list ?_)
          repeat' walk_at "one"
          have S' : Shp ((a, o, AO.list ((f ++ y :: w).map V.str)) :: σ) i k kv es := S.frame fun a _ x h => h.cons _
          refine fnc (w_needs H S' hw h1 h2 hns (.inl ?_))
          refine ⟨_, _, .lst _, ⟨o, v, rfl, rfl⟩, fun j X hX m τ hI QB hQB => ?_, fun m τ hI => ?_⟩
          · obtain ⟨o, v, rfl, rfl⟩ := hI
            rw [List.getElem?_map] at hX
            obtain ⟨nd, hne, rfl⟩ := Option.map_eq_some_iff.mp hX
            have hj := (List.getElem?_eq_some_iff.mp hne).1
            have htk : (ns.take (j + 1)).map (·.1) = (ns.take j).map (·.1) ++ [nd.1] := by rw [List.take_succ, hne]; simp
            have hll := addNew_len ((ns.take j).map (·.1)) (f ++ y :: w)
            rw [List.length_map, List.length_take, List.length_append] at hll
            have hll2 : ((addNew (f ++ y :: w) ((ns.take j).map (·.1))).map V.str).length ≤ 100000 := by rw [List.length_map]; simp only at hnl; lia
            with_reducible refine AA_Name PutC.put ?_
            unfold needV
            repeat' walk_at "one"
            refine C_notInS (.refL (.head _)) ?_
            repeat' walk_at "one"
            · refine K_apph (len_ok hll2) (fun o' => ?_)
              repeat' walk_at "one"
              refine hQB _ _ trivial ⟨o', _, ?_, rfl⟩
              rename_i hb
              rw [htk, addNew_snoc, if_neg (notB hb), List.map_append]; rfl
            · refine hQB _ _ trivial ⟨o, _, ?_, rfl⟩
              rename_i hb
              rw [htk, addNew_snoc, if_pos (notB' hb)]
          · obtain ⟨o, v, rfl, rfl⟩ := hI
            repeat' walk_at "one"
            refine hQC _ _ ⟨o, v, ?_, rfl⟩
            rw [List.length_map, List.take_length, ← e2, ← he', List.append_assoc]; rfl
      · rintro m τ ⟨o, v, rfl, rfl⟩
        repeat' walk_at "one"
        refine hQB n' _ _ (by lia) ⟨o, v, f ++ [y], w', hB', hnd', by simp; lia, rfl, ?_⟩
        simp
  · cases w with
    | nil =>
      have hfR : f = R := by cases hB; rfl
      subst hfR
      rw [List.append_nil]
      repeat' walk_at "one"
      exact q _ _ hf
    | cons y w => simp at hb; lia
end

section
variable {C : Cx} {d : Nat} {σ : Sto} {Q : V → Sto → Prop} {i k ro : Addr} {kv rv : List (Str × Addr)} {es : Str → List (Int × List Need)}
theorem Ware.ok {x : Str} (h : Ware x) : PyData.strOk x = true := by
  unfold PyData.strOk
  rw [← Array.all_toList, List.all_eq_true]
  intro c hc
  have := h.lt c hc
  simp [letB] at this
  exact decide_eq_true (show c < 0x110000 by lia)
theorem eqvAll_refl {α : Type} (f : α → PyData) (h : ∀ a, PyData.eqv (f a) (f a) = true) : ∀ l : List α, PyData.eqvAll (l.map f) (l.map f) = true
  | [] => by simp [PyData.eqvAll]
  | a :: l => by simp [PyData.eqvAll, h a, eqvAll_refl f h l]
theorem dps_map {α : Type} (f : α → V) (g : α → PyData) (h : ∀ a, Dp σ (f a) (g a)) : ∀ l : List α, Dps σ (l.map f) (l.map g)
  | [] => .nil
  | a :: l => .cons (h a) (dps_map f g h l)
theorem lay_map {α : Type} (g : α → PyData) (hd : ∀ a, PyData.depth (g a) ≤ 2) : ∀ l : List α, (∀ a ∈ l, PyData.canLay0 (g a) = true) → PyData.canLayAll0 (l.map g) = true ∧ PyData.depthAll (l.map g) ≤ 2
  | [], _ => ⟨rfl, Nat.zero_le _⟩
  | a :: l, hc => by
    have ih := lay_map g hd l fun b hb => hc b (.tail _ hb)
    exact ⟨by simp [PyData.canLayAll0, hc a (.head _), ih.1], by have := ih.2; have := hd a; simp only [List.map_cons, PyData.depthAll]; lia⟩
structure Dat (xs : List V) (ds : List PyData) : Prop where
  dp : ∀ σ, Dps σ xs ds
  sh : SeqAt.shaped (.list ds) = true
  eq : PyData.eqv (.list ds) (.list ds) = true
  nil : PyData.eqv (.list ds) (.list []) = xs.isEmpty
theorem data_map {α : Type} (f : α → V) (g : α → PyData) (l : List α) (h1 : ∀ σ a, Dp σ (f a) (g a)) (h2 : ∀ a, PyData.eqv (g a) (g a) = true) (hd : ∀ a, PyData.depth (g a) ≤ 2) (hc : ∀ a ∈ l, PyData.canLay0 (g a) = true) :
    Dat (l.map f) (l.map g) := by
  refine ⟨fun σ => dps_map f g (h1 σ) l, ?_, by simp only [PyData.eqv]; exact eqvAll_refl g h2 l, by cases l <;> simp [PyData.eqv, PyData.eqvAll]⟩
  have := lay_map g hd l hc
  have h2 : PyData.depth (.list (l.map g)) ≤ 64 := by
    have := this.2
    simp only [PyData.depth]; lia
  unfold SeqAt.shaped
  rw [show PyData.canLay0 (.list (l.map g)) = true from by simp only [PyData.canLay0]; exact this.1, decide_eq_true h2]; rfl
theorem datS {l : List Str} (h : ∀ w ∈ l, Ware w) : Dat (l.map V.str) (l.map PyData.str) :=
  data_map V.str PyData.str l (fun _ a => .str a) (fun a => by simp [PyData.eqv]) (fun a => by simp [PyData.depth]) fun a ha => by simp only [PyData.canLay0]; exact (h a ha).ok
theorem Has.dp {x : V} {xs : List V} {ds : List PyData} {P : Sto → Prop} (h : Has σ x (.list xs) P) (hd : Dps σ xs ds) : Dp σ x (.list ds) := by
  cases h with
  | lst => exact .lst hd
  | refL h => exact .ref h hd
theorem C_eqDat {x y : V} {xs : List V} {ds : List PyData} {P P' : Sto → Prop} (D : Dat xs ds) (hx : Has σ x (.list xs) P) (hy : Has σ y (.list xs) P') (q : Q (.bool true) σ) : AC2 C d (compareOp .Eq) x y σ Q := by
  refine C_eqD (hx.dp (D.dp σ)) (hy.dp (D.dp σ)) D.sh D.sh ?_
  rw [D.eq]; exact q
theorem C_neNil {x : V} {xs : List V} {ds : List PyData} {P : Sto → Prop} (D : Dat xs ds) (hx : Has σ x (.list xs) P) (q : Q (.bool (!xs.isEmpty)) σ) : AC2 C d (compareOp .NotEq) x (.lst []) σ Q := by
  refine C_neD (hx.dp (D.dp σ)) (.lst .nil) D.sh rfl ?_
  rw [D.nil]; exact q
theorem nx_ware {pk : List (Str × Int)} (h : ∀ w, ∀ p ∈ es w, ∀ n ∈ p.2, NeedOk n) (w : Str) : ∀ y ∈ nx es pk w, Ware y := by
  unfold nx
  intro y hy
  split at hy
  · cases hy
  · split at hy
    · cases hy
    · rename_i e he
      obtain ⟨n, hn, rfl⟩ := List.mem_map.mp hy
      exact (h w _ (List.mem_of_find?_eq_some he) n hn).w
noncomputable def part12 : Unit := ()
theorem w__law_agenda (H : G1 C) (S : Rw σ ro rv es) {x : V} {wi : List Need} {Px : Sto → Prop} (hx : Has σ x (.list (wi.map needV)) Px) (ok : WishOk wi) {pa : Addr} {pk : List (Str × Int)} (hp : At σ pa (dS (pkV pk))) (pb : PkB pk) (pi : PkIn es pk)
    {N : Nat} {R : List Str} (hN : N ≤ 100) (hB : Bf (nx es pk) N [] (wi.map (·.1)) R) (q : Q (.lst (R.map V.str)) σ) : CW C (d + 1) (.ref 331) [.ref ro, x, .ref pa] σ Q := by
  refine CW_freeze (CW_drop ?_)
  refine CW_at (G1.kin (by assumption)) ["_law_found", "_law_waiting", "_law_ware"] [] rfl rfl rfl rfl (by rfl) rfl rfl (params := ["_law_rows_here", "_law_wish_here", "_law_pick"]) (by intro vs h; rcases vs with _ | ⟨a, _ | ⟨b, _ | ⟨c, _ | ⟨e, _ | ⟨f, _ | ⟨g, _ | ⟨g2, r⟩⟩⟩⟩⟩⟩⟩ <;> first | (exact rfl) | (exact absurd h (by simp))) rfl (vars := ["_law_rows_here", "_law_wish_here", "_law_pick", "_law_found", "_law_waiting", "_law_ware"]) rfl (.arg (.arg (.arg (.oth (.oth (.oth (.nil))))))) (by decide +kernel) GL_nil ?_
  intro env hsc
  have h8 := ok.len
  have hn : ((pkV pk).map (·.1)).Nodup := by rw [pkV_keys]; exact pb.nd
  have hrn : ((kvV rv).map (·.1)).Nodup := by rw [kvV_keys]; exact S.rwn
  have hro := S.rows
  have hnw := nx_ware (es := es) (pk := pk) fun w p hp n hn => ((S.eok w).nok p hp).ok n hn
  with_reducible refine S_cons ?_
  refine S_AssignL0 fun a o hf => ?_
  with_reducible refine put_c ?_
  with_reducible refine Then_next ?_
  with_reducible refine S_cons ?_
  refine S_AssignCompM1 "_law_need" [] [] (swaps_of (by rw [hsc]; decide +kernel)) (by rw [hsc]; decide +kernel) GL_nil .nil (AI_list ?_)
  with_reducible refine AT_lc ?_
  have hx2 := hx.mono (τ := (a, o, AO.list []) :: σ) fun p h => .tail _ h
  refine ⟨_, _, hx2, len_ok (by simp; lia), fun env' he => CompL_map (f := fstV) (comp_local he (by decide +kernel)) hx2.p _ _ _ (fun X hX K hK => ?_) ?_⟩
  · obtain ⟨n, hn, rfl⟩ := List.mem_map.mp hX
    unfold needV at hK ⊢
    repeat' walk_at "one"
    exact hK
  clear hx2
  rw [List.nil_append, show (wi.map needV).map fstV = (wi.map (·.1)).map V.str by rw [List.map_map, List.map_map]; rfl]
  intro b ob
  with_reducible refine put_c ?_
  with_reducible refine Then_next ?_
  with_reducible refine S_cons ?_
  refine S_WhileQ (fun n m τ => ∃ (oa : Obj) (b : Addr) (ob : Obj) (v : Option V) (f w : List Str), Bf (nx es pk) n f w R ∧ (∀ y ∈ f ++ w, Ware y) ∧ f.length + n ≤ 100 ∧ τ = (b, ob, .list (w.map V.str)) :: (a, oa, .list (f.map V.str)) :: σ ∧ m = [some (.ref ro), some x, some (.ref pa), some (.ref a), some (.ref b), v]) (fun n m τ hI QB hQB => ?_) N ⟨o, b, ob, _, [], _, hB, fun y hy => ?_, by simpa using hN, rfl, rfl⟩
  rotate_left
  · obtain ⟨n, hn, rfl⟩ := List.mem_map.mp hy
    exact (ok.ok n hn).w
  clear ob b
  obtain ⟨oa, b, ob, v, f, w, hB, hw, hfl, rfl, rfl⟩ := hI
  have hwl := hB.len
  repeat' walk_at "one"
  refine C_neNil (datS fun y hy => hw y (List.mem_append_right _ hy)) (.refL (.head _)) ?_
  repeat' walk_at "one"
  · cases w with
    | nil => rename_i hb; simp at hb
    | cons y w =>
      rename_i hb; clear hb
      rw [List.length_cons] at hwl
      have hwy := hw y (List.mem_append_right _ (.head _))
      refine K_pop0h (len_ok (by rw [← List.map_cons, List.length_map, List.length_cons]; lia)) fun ob' => ?_
      with_reducible refine put_c ?_
      with_reducible refine Then_next ?_
      repeat' walk_at "one"
      refine C_notInS (.refL (.tail _ (.head _))) ?_
      by_cases hy : y ∈ f
      · rw [any_mem.mpr hy]
        repeat' walk_at "one"
        cases hB with
        | take h _ => exact absurd hy h
        | @skip n _ _ _ _ _ hB =>
          refine hQB n _ _ (by lia) ⟨oa, b, ob', _, f, w, hB, fun z hz => hw z ?_, by lia, rfl, rfl⟩
          rcases List.mem_append.mp hz with h | h
          · exact List.mem_append_left _ h
          · exact List.mem_append_right _ (.tail _ h)
      · rw [show (f.any (· == y)) = false from eq_false_of_ne_true fun h => hy (any_mem.mp h)]
        obtain ⟨n, rfl, hB2⟩ : ∃ n', n = n' + 1 ∧ Bf (nx es pk) n' (f ++ [y]) (w ++ nx es pk y) R := by
          cases hB with
          | skip h _ => exact absurd h hy
          | take _ h => exact ⟨_, rfl, h⟩
        have hwl2 := hB2.len
        rw [List.length_append] at hwl2
        have hw2 : ∀ z ∈ (f ++ [y]) ++ (w ++ nx es pk y), Ware z := fun z hz => by
          rcases List.mem_append.mp hz with h | h
          · rcases List.mem_append.mp h with h | h
            · exact hw z (List.mem_append_left _ h)
            · rw [List.mem_singleton.mp h]; exact hwy
          · rcases List.mem_append.mp h with h | h
            · exact hw z (List.mem_append_right _ (.tail _ h))
            · exact hnw y z h
        repeat' walk_at "one"
        refine K_append (σ' := fun o' => (b, ob', .list (w.map V.str)) :: (a, o', .list (f.map V.str ++ [.str y])) :: σ) (fun o' => .tail .head) (len_ok (by rw [List.length_map]; lia)) fun oa' => ?_
        rw [show f.map V.str ++ [V.str y] = (f ++ [y]).map V.str by rw [List.map_append]; rfl]
        repeat' walk_at "one"
        refine C_inDS H.ns ((hp.cons _).cons _) hn ?_
        rcases nx_at pb pi y (S.eok y).nd with ⟨_, e1, e2⟩ | ⟨mk, ns, hpm, e1, hns, e2⟩
        · rw [e1]
          rw [e2, List.append_nil] at hB2
          rw [e2, List.append_nil] at hw2
          repeat' walk_at "one"
          exact hQB n _ _ (by lia) ⟨oa', b, ob', _, f ++ [y], w, hB2, hw2, by simp; lia, rfl, rfl⟩
        · rw [e1]
          have hym : y ∈ rv.map (·.1) := by
            by_cases h : y ∈ rv.map (·.1)
            · exact h
            · rw [S.out y h] at hns; cases hns
          obtain ⟨rb, hrb, hv1, hat⟩ := S.at hym
          have hen : ((esV (es y)).map (·.1)).Nodup := by rw [esV_keys]; exact (S.eok y).nd
          have hv2 : vAt (esV (es y)) mk = some (.lst (ns.map needV)) := vAt_mem hen (List.mem_map.mpr ⟨_, hns, rfl⟩)
          have hnl := ((S.eok y).nok _ hns).len
          refine TX_bool ⟨fun hb => ?_, fun hb => by cases hb⟩
          with_reducible refine S_cons ?_
          refine S_Assign (AT_drop ?_)
          repeat' walk_at "one"
          refine AT_CompF1 "_law_need" [] [] (by rw [hsc]; decide +kernel) GL_nil .nil (AI_list ?_)
          repeat' walk_at "one"
          refine ⟨_, _, .lst _, len_ok (by rw [List.length_map]; simp only at hnl; lia), fun env' he => CompL_map (f := fstV) (comp_local he (by decide +kernel)) trivial _ _ _ (fun X hX K hK => ?_) ?_⟩
          · obtain ⟨n, hn, rfl⟩ := List.mem_map.mp hX
            unfold needV at hK ⊢
            repeat' walk_at "one"
            exact hK
          rw [List.nil_append, show (ns.map needV).map fstV = (nx es pk y).map V.str by rw [e2, List.map_map, List.map_map]; rfl]
          refine B_addL (.refL (.head _)) (.lst _) (len_ok (by rw [List.length_map, List.length_map]; lia)) (NL_m fun c oc => ?_)
          rw [← List.map_append]
          refine ⟨(c, oc, .list ((w ++ nx es pk y).map V.str)) :: (a, oa', .list ((f ++ [y]).map V.str)) :: σ, .cons_cons _ (List.sublist_cons_self _ _), ?_⟩
          with_reducible refine put_c ?_
          repeat' walk_at "one"
          exact hQB n _ _ (by lia) ⟨oa', c, oc, _, f ++ [y], w ++ nx es pk y, hB2, hw2, by simp; lia, rfl, rfl⟩
  · cases w with
    | nil =>
      have hfR : f = R := by cases hB; rfl
      subst hfR
      exact ⟨_, List.sublist_cons_self _ _, a, oa, _, σ, rfl, rfl, q⟩
    | cons y w => rename_i hb; simp at hb
end

section
variable {C : Cx} {d : Nat} {σ : Sto} {Q : V → Sto → Prop} {i k ro : Addr} {kv rv : List (Str × Addr)} {es : Str → List (Int × List Need)}
theorem fm_range {α : Type} : ∀ l : List α, (List.range l.length).filterMap (fun j => l[j]?) = l
  | [] => rfl
  | x :: l => by
    rw [List.length_cons, List.range_succ_eq_map, List.filterMap_cons_some (f := fun j => (x :: l)[j]?) (b := x) rfl, List.filterMap_map]
    have : ((fun j => (x :: l)[j]?) ∘ Nat.succ) = fun j => l[j]? := by funext j; simp
    rw [this, fm_range l]
theorem slL_drop1 (xs : List V) : slL xs (some 1) none none = xs.drop 1 := by
  cases xs with
  | nil => rfl
  | cons x xs =>
    unfold slL
    have b1 : sliceBounds (some 1) none none (x :: xs).length = (((1 : Nat) : Int), ((xs.length + 1 : Nat) : Int), 1) := by
      have h : max 0 (min (if (1 : Int) < 0 then 1 + ((xs.length + 1 : Nat) : Int) else 1) ((xs.length + 1 : Nat) : Int)) = ((1 : Nat) : Int) := clipN (Nat.le_add_left 1 xs.length)
      show (max 0 (min (if (1 : Int) < 0 then 1 + ((xs.length + 1 : Nat) : Int) else 1) ((xs.length + 1 : Nat) : Int)), ((xs.length + 1 : Nat) : Int), (1 : Int)) = _
      rw [h]
    rw [b1]
    show ((sliceRange ((1 : Nat) : Int) ((xs.length + 1 : Nat) : Int) 1).filterMap fun j => (x :: xs)[j]?) = xs
    rw [sr1 (Nat.le_add_left 1 xs.length), List.filterMap_map, Nat.add_sub_cancel]
    have : ((fun j => (x :: xs)[j]?) ∘ fun k => 1 + k) = fun j => xs[j]? := by
      funext j
      show (x :: xs)[1 + j]? = xs[j]?
      rw [Nat.add_comm]; rfl
    rw [this, fm_range]
end
section
variable {C : Cx} {d : Nat} {σ : Sto} {Q : V → Sto → Prop} {i k ro : Addr} {kv rv : List (Str × Addr)} {es : Str → List (Int × List Need)}
noncomputable def prV (p : Str × Int) : V := .tup [.str p.1, .int p.2]
theorem AT_CompF2 {env : Env} {vars : List Str} {gl : List (Str × V)} {own : Bool} {m : Loc} {elt tgt iter : Expr} {ifs : List Expr} {scope : Scope} {pos : Pos} {ms : Loc} (x y : Str) (caps : List Str) (gl' : List (Str × V))
    (hok : compOk scope env.scope vars [x, y] caps (gl'.map (·.1)) = true) (hgl : ∀ p ∈ gl', GlobR C p.1 p.2) (hcaps : Caps vars m caps ms)
    (h : AI C env vars gl own d iter tgt m σ fun xs Pp σ₁ => xs.length ≤ sizeLine ∧ ∀ env', env'.scope = relabel scope env →
      CompL C env' (x :: y :: caps) gl' d tgt elt ifs Pp (fun ys σ₂ => Q (.lst ys) σ₂) xs [] (none :: none :: ms) σ₁)
    (hs : ∀ x, foldedSetIterable iter env x = pure x := by intro _; with_unfolding_all exact rfl) :
    AT C env vars gl own d (eval (.ListComp elt [⟨tgt, iter, ifs, 0⟩] scope pos) env) m σ Q := AT_CompF [x, y] caps gl' hok hgl hcaps h hs
theorem nodup_len {α : Type} [DecidableEq α] : ∀ {l r : List α}, l.Nodup → (∀ x ∈ l, x ∈ r) → l.length ≤ r.length
  | [], r, _, _ => Nat.zero_le _
  | x :: l, r, hn, hs => by
    obtain ⟨h1, h2⟩ := List.nodup_cons.mp hn
    have hx := hs x (.head _)
    have := nodup_len (r := r.erase x) h2 fun y hy => (List.mem_erase_of_ne fun e => h1 (by rw [← e]; exact hy)).mpr (hs y (.tail _ hy))
    rw [List.length_erase_of_mem hx] at this
    have h3 : 0 < r.length := List.length_pos_of_mem hx
    rw [List.length_cons]; lia
end
section
variable {C : Cx} {d : Nat} {σ : Sto} {Q : V → Sto → Prop} {i k ro : Addr} {kv rv : List (Str × Addr)} {es : Str → List (Int × List Need)}
theorem eqvS : ∀ a b : List Str, PyData.eqvAll (a.map PyData.str) (b.map PyData.str) = decide (a = b)
  | [], [] => by simp [PyData.eqvAll]
  | [], _ :: _ => by simp [PyData.eqvAll]
  | _ :: _, [] => by simp [PyData.eqvAll]
  | x :: a, y :: b => by
    simp only [List.map_cons, PyData.eqvAll, PyData.eqv, eqvS a b, List.cons.injEq]
    by_cases h : x = y
    · simp [h]
    · simp [h]
theorem C_eqSs {a b : List Str} (ha : ∀ w ∈ a, Ware w) (hb : ∀ w ∈ b, Ware w) (q : Q (.bool (decide (a = b))) σ) : AC2 C d (compareOp .Eq) (.lst (a.map V.str)) (.lst (b.map V.str)) σ Q := by
  refine C_eqD ((Has.lst _).dp ((datS ha).dp σ)) ((Has.lst _).dp ((datS hb).dp σ)) (datS ha).sh (datS hb).sh ?_
  rw [show PyData.eqv (.list (a.map PyData.str)) (.list (b.map PyData.str)) = _ from eqvS a b]; exact q
theorem sortS_ware {l : List Str} (h : ∀ w ∈ l, Ware w) : ∀ w ∈ sortS l, Ware w := fun w hw => h w ((sortS_perm l).mem_iff.mp hw)
noncomputable def metB (pk : List (Str × Int)) (n : Need) : Bool := match vAt (pkV pk) n.1 with
  | some (.int mk) => decide (n.2.1 ≤ mk) && decide (mk ≤ n.2.2)
  | _ => false
theorem metB_in {pk : List (Str × Int)} {w : Str} {lo hi mk : Int} (h : vAt (pkV pk) w = some (.int mk)) : metB pk (w, lo, hi) = (decide (lo ≤ mk) && decide (mk ≤ hi)) := by unfold metB; rw [h]
theorem metB_no {pk : List (Str × Int)} {w : Str} {lo hi : Int} (h : vAt (pkV pk) w = none) : metB pk (w, lo, hi) = false := by unfold metB; rw [h]
noncomputable def ndOf (es : Str → List (Int × List Need)) (p : Str × Int) : List Need := match (es p.1).find? (fun e => decide (e.1 = p.2)) with
  | none => []
  | some e => e.2
theorem ndOf_at {w : Str} {mk : Int} {ns : List Need} (en : ((es w).map (·.1)).Nodup) (h : (mk, ns) ∈ es w) : ndOf es (w, mk) = ns := by
  unfold ndOf
  show (match (es w).find? (fun e : Int × List Need => decide (e.1 = mk)) with | none => [] | some e => e.2) = _
  rw [find_key en h]
noncomputable def meetsB (es : Str → List (Int × List Need)) (wi : List Need) (pk : List (Str × Int)) (R : List Str) : Bool :=
  decide (sortS (pk.map (·.1)) = sortS R) && (wi.all (metB pk) && pk.all fun p => (ndOf es p).all (metB pk))
theorem nx_ex4 {pk : List (Str × Int)} {wi : List Need} (h4 : pk.length ≤ 5) (h6 : ∀ w, ∀ p ∈ es w, p.2.length ≤ 6) (h8 : wi.length ≤ 8) : ∃ N R, N ≤ 60 ∧ Bf (nx es pk) N [] (wi.map (·.1)) R := by
  obtain ⟨N, R, h1, h2⟩ := bf_ex (nx := nx es pk) (U := pk.map (·.1)) (fun x hx => by unfold nx; rw [find_no hx]) 60 [] (wi.map (·.1)) (by
    have := rest_max (U := pk.map (·.1)) (f := []) (nx_len (pk := pk) h6)
    rw [List.length_map] at this ⊢
    lia)
  exact ⟨N, R, h1, h2⟩
noncomputable def part13 : Unit := ()
theorem w_within (H : G1 C) {mk lo hi : Int} (q : Q (.bool (decide (lo ≤ mk) && decide (mk ≤ hi))) σ) : CW C (d + 1) (.ref 144) [.int mk, .int lo, .int hi] σ Q := by
  refine CW_at (G1.kin (by assumption)) [] [] rfl rfl rfl rfl (by rfl) rfl rfl (params := ["make", "low", "high"]) (by intro vs h; rcases vs with _ | ⟨a, _ | ⟨b, _ | ⟨c, _ | ⟨e, _ | ⟨f, _ | ⟨g, _ | ⟨g2, r⟩⟩⟩⟩⟩⟩⟩ <;> first | (exact rfl) | (exact absurd h (by simp))) rfl (vars := ["make", "low", "high"]) rfl (.arg (.arg (.arg (.nil)))) (by decide +kernel) GL_nil ?_
  intro env hsc
  clear hsc
  repeat' walk_at "one"
  all_goals (rename_i hb; refine qB q ?_; simp [hb])
theorem w_agenda_ofF (H : G1 C) (S : Shp σ i k kv es) {x : V} {wi : List Need} {Px : Sto → Prop} (hx : Has σ x (.list (wi.map needV)) Px) (ok : WishOk wi) {pa : Addr} {pk : List (Str × Int)} (hp : At σ pa (dS (pkV pk))) (pb : PkB pk) (pi : PkIn es pk)
    {N : Nat} {R : List Str} (hN : N ≤ 100) (hB : Bf (nx es pk) N [] (wi.map (·.1)) R) (q : Q (.lst (R.map V.str)) σ) : CW C (d + 4) (.ref 156) [.ref i, x, .ref pa] σ Q :=
  CW_freeze (w_agenda_of H S hx ok hp pb pi hN hB fun a o hf => ⟨a, o, _, σ, rfl, rfl, q⟩)
end

section
variable {C : Cx} {d : Nat} {σ : Sto} {Q : V → Sto → Prop} {i k ro : Addr} {kv rv : List (Str × Addr)} {es : Str → List (Int × List Need)}
theorem nd_len {l : List (Str × Int)} (h : ∀ p ∈ l, (ndOf es p).length ≤ 6) : (l.flatMap (ndOf es)).length ≤ 6 * l.length := by
  induction l with
  | nil => exact Nat.le_refl _
  | cons p l ih =>
    have h1 := h p (.head _)
    have h2 := ih fun p hp => h p (.tail _ hp)
    rw [List.flatMap_cons, List.length_append, List.length_cons]; lia
theorem Rw.inRv (S : Rw σ ro rv es) {w : Str} {e : Int × List Need} (h : e ∈ es w) : w ∈ rv.map (·.1) := by
  by_cases hm : w ∈ rv.map (·.1)
  · exact hm
  · rw [S.out w hm] at h; cases h
theorem all_nd (pk : List (Str × Int)) (wi : List Need) : (wi ++ pk.flatMap (ndOf es)).all (metB pk) = (wi.all (metB pk) && pk.all fun p => (ndOf es p).all (metB pk)) := by rw [List.all_append, List.all_flatMap]
noncomputable def part14 : Unit := ()
theorem w__law_meets (H : G1 C) (S : Rw σ ro rv es) {x : V} {wi : List Need} {Px : Sto → Prop} (hx : Has σ x (.list (wi.map needV)) Px) (ok : WishOk wi) {pa : Addr} {pk : List (Str × Int)} (hp : At σ pa (dS (pkV pk))) (pb : PkB pk) (pi : PkIn es pk)
    {N : Nat} {R : List Str} (hN : N ≤ 60) (hB : Bf (nx es pk) N [] (wi.map (·.1)) R) (hRw : ∀ w ∈ R, Ware w) (hRl : R.length ≤ N) (q : Q (.bool (meetsB es wi pk R)) σ) : CW C (d + 2) (.ref 338) [.ref ro, x, .ref pa] σ Q := by
  refine CW_at (G1.kin (by assumption)) ["_law_needs_here", "_law_ware", "_law_low", "_law_high"] [("list", .type "list"), ("sorted", .bi "sorted"), ("_law_agenda", .ref 331)] rfl rfl rfl rfl (by rfl) rfl rfl (params := ["_law_rows_here", "_law_wish_here", "_law_pick"]) (by intro vs h; rcases vs with _ | ⟨a, _ | ⟨b, _ | ⟨c, _ | ⟨e, _ | ⟨f, _ | ⟨g, _ | ⟨g2, r⟩⟩⟩⟩⟩⟩⟩ <;> first | (exact rfl) | (exact absurd h (by simp))) rfl (vars := ["_law_rows_here", "_law_wish_here", "_law_pick", "_law_needs_here", "_law_ware", "_law_low", "_law_high"]) rfl (.arg (.arg (.arg (.oth (.oth (.oth (.oth (.nil)))))))) (by decide +kernel) (GL_cons (g_list (by assumption)) (GL_cons (g_sorted (by assumption)) (GL_cons (g__law_agenda (by assumption)) GL_nil))) ?_
  intro env hsc
  clear hsc
  have h12 := pb.len
  have h8 := ok.len
  have hpn : ((pkV pk).map (·.1)).Nodup := by rw [pkV_keys]; exact pb.nd
  have hrn : ((kvV rv).map (·.1)).Nodup := by rw [kvV_keys]; exact S.rwn
  have hro := S.rows
  have hkw : ∀ w ∈ pk.map (·.1), Ware w := fun w hw => by
    obtain ⟨p, hp, rfl⟩ := List.mem_map.mp hw
    exact (pb.ok p hp).1
  have hnd : ∀ p ∈ pk, (ndOf es p).length ≤ 6 := fun p hp => by
    obtain ⟨ns, hns⟩ := pi p hp
    rw [show ndOf es p = ns from ndOf_at (S.eok p.1).nd hns]
    exact ((S.eok p.1).nok _ hns).len
  have hlen : ∀ j, (wi ++ (pk.take j).flatMap (ndOf es)).length ≤ 80 := fun j => by
    have h1 := nd_len (es := es) (l := pk.take j) fun p hp => hnd p (List.mem_of_mem_take hp)
    have h2 : (pk.take j).length ≤ pk.length := (List.take_sublist _ _).length_le
    rw [List.length_append]; lia
  obtain ⟨o, hm⟩ := id hp
  repeat' walk_at "one"
  refine K_listL hx (lenM h8 (by decide)) (.inl ?_)
  repeat' walk_at "one"
  refine S_ForQ (fun j m τ => σ = τ ∧ ∃ v, m = [some (.ref ro), some x, some (.ref pa), some (.lst ((wi ++ (pk.take j).flatMap (ndOf es)).map needV)), v, none, none]) (AI_dict (KK.str C.prog C.w) H.ns ?_)
  repeat' walk_at "one"
  refine ⟨pa, o, pkV pk, rfl, hm, hpn, ⟨rfl, none, by rw [show (wi ++ (pk.take 0).flatMap (ndOf es)) = wi by simp]⟩, fun j X hX m τ hI QB hQB => ?_, fun m τ hI => ?_⟩
  · obtain ⟨rfl, v, rfl⟩ := hI
    rw [List.getElem?_map, List.getElem?_map] at hX
    obtain ⟨p1, hp1, rfl⟩ := Option.map_eq_some_iff.mp hX
    obtain ⟨⟨w, mk⟩, hpe, rfl⟩ := Option.map_eq_some_iff.mp hp1
    have hpm := List.mem_of_getElem? hpe
    have hv : vAt (pkV pk) w = some (.int mk) := vAt_mem hpn (List.mem_map.mpr ⟨_, hpm, rfl⟩)
    obtain ⟨ns, hns⟩ := pi _ hpm
    have hnd2 := ndOf_at (S.eok w).nd hns
    obtain ⟨b, hb, hrb, hat⟩ := S.at (S.inRv hns)
    have hen : ((esV (es w)).map (·.1)).Nodup := by rw [esV_keys]; exact (S.eok w).nd
    have hv2 : vAt (esV (es w)) mk = some (.lst (ns.map needV)) := vAt_mem hen (List.mem_map.mpr ⟨_, hns, rfl⟩)
    have htk : wi ++ (pk.take (j + 1)).flatMap (ndOf es) = (wi ++ (pk.take j).flatMap (ndOf es)) ++ ns := by
      rw [List.take_succ, hpe, List.flatMap_append, List.append_assoc]
      show _ = _ ++ (_ ++ ns)
      rw [← hnd2]; simp
    show AA C env _ _ _ _ _ (V.str w) _ _ _
    with_reducible refine AA_Name PutC.put ?_
    repeat' walk_at "one"
    refine B_addL (.lst _) (.lst _) (len_ok ?_) (NL_f ?_)
    · have h1 := hlen (j + 1)
      rw [htk, List.length_append] at h1
      rw [List.length_map, List.length_map]; lia
    rw [← List.map_append, ← htk]
    repeat' walk_at "one"
    exact hQB _ _ hm ⟨rfl, _, rfl⟩
  obtain ⟨rfl, v, rfl⟩ := hI
  rw [List.length_map, List.length_map, List.take_length]
  have hal := hlen pk.length
  rw [List.take_length] at hal
  have hmt := all_nd (es := es) pk wi
  generalize wi ++ pk.flatMap (ndOf es) = al at hal hmt
  repeat' walk_at "one"
  refine S_ForR (fun j m τ => σ = τ ∧ (al.take j).all (metB pk) = true ∧ ∃ v1 v2 v3, m = [some (.ref ro), some x, some (.ref pa), some (.lst (al.map needV)), v1, v2, v3]) (AI_list ?_)
  with_reducible refine AT_lc ?_
  refine ⟨_, _, .lst _, ⟨rfl, rfl, _, _, _, rfl⟩, fun j X hX m τ hI QB hQB hQR => ?_, fun m τ hI => ?_⟩
  · obtain ⟨rfl, hall, v1, v2, v3, rfl⟩ := hI
    rw [List.getElem?_map] at hX
    obtain ⟨⟨w, lo, hi⟩, hne, rfl⟩ := Option.map_eq_some_iff.mp hX
    have hnm := List.mem_of_getElem? hne
    have htk : (al.take (j + 1)).all (metB pk) = metB pk (w, lo, hi) := by
      rw [List.take_succ, hne, List.all_append, hall]
      show (true && (metB pk (w, lo, hi) && true)) = _
      rw [Bool.and_true, Bool.true_and]
    have hbad : metB pk (w, lo, hi) = false → Q (.bool false) σ := fun h => qB q (by
      have : al.all (metB pk) = false := by
        cases e : al.all (metB pk) with
        | false => rfl
        | true => rw [List.all_eq_true.mp e _ hnm] at h; cases h
      unfold meetsB
      rw [← hmt, this, Bool.and_false])
    unfold needV
    with_reducible refine AAs3 ?_
    with_reducible refine AA_Name PutC.put ?_
    with_reducible refine AA_Name PutC.put ?_
    with_reducible refine AA_Name PutC.put ?_
    repeat' walk_at "one"
    refine C_niDS H.ns hp hpn ?_
    by_cases hm2 : w ∈ pk.map (·.1)
    · obtain ⟨⟨w, mk⟩, hpm, rfl⟩ := List.mem_map.mp hm2
      have hv : vAt (pkV pk) w = some (.int mk) := vAt_mem hpn (List.mem_map.mpr ⟨_, hpm, rfl⟩)
      rw [hv]
      rw [metB_in hv] at htk hbad
      repeat' walk_at "one"
      all_goals first
        | (refine hQR _ _ _ (hbad ?_); clear htk hbad hall q hQR hQB; simp_all; done)
        | (refine hQR _ _ _ (hbad ?_); clear htk hbad hall q hQR hQB; simp_all; lia)
        | (refine hQB _ _ trivial ⟨rfl, ?_, _, _, _, rfl⟩; rw [htk]; clear htk hbad hall q hQR hQB; simp_all; done)
        | (refine hQB _ _ trivial ⟨rfl, ?_, _, _, _, rfl⟩; rw [htk]; clear htk hbad hall q hQR hQB; simp_all; lia)
    · have hv : vAt (pkV pk) w = none := vAt_none (by rw [pkV_keys]; exact hm2)
      rw [hv]
      repeat' walk_at "one"
      exact hQR _ _ _ (hbad (metB_no hv))
  obtain ⟨rfl, hall, v1, v2, v3, rfl⟩ := hI
  rw [List.length_map, List.take_length] at hall
  repeat' walk_at "one"
  refine K_sortDS H.ns hp hpn (by rw [List.length_map]; lia) (.inl ?_)
  rw [pkV_keys]
  repeat' walk_at "one"
  refine fnc (w__law_agenda H S hx ok hp pb pi (Nat.le_trans hN (by decide)) hB ?_)
  repeat' walk_at "one"
  refine K_sortedLS (.lst _) (by lia) (.inl ?_)
  refine C_eqSs (sortS_ware hkw) (sortS_ware hRw) ?_
  repeat' walk_at "one"
  refine qB q ?_
  unfold meetsB
  rw [← hmt, hall, Bool.and_true]
end

section
variable {C : Cx} {d : Nat} {σ : Sto} {Q : V → Sto → Prop} {i k ro : Addr} {kv rv : List (Str × Addr)} {es : Str → List (Int × List Need)}
theorem AB.mono' {env : Env} {vars : List Str} {gl : List (Str × V)} {own : Bool} {m : Loc} {t : Sem Bool} {P P' : Bool → Sto → Prop} (h : AB C env vars gl own d t m σ P) (hP : ∀ b σ, P b σ → P' b σ) : AB C env vars gl own d t m σ P' :=
  fun A G D s hA R => h.run hA R fun b s' D' σ' a c e => ⟨D', σ', a, c, hP _ _ e⟩
theorem CompL_sub {env : Env} {caps : List Str} {gl : List (Str × V)} {x : Str} {elt c : Expr} {pp : Pos} {P : Sto → Prop} {Z : List V → Sto → Prop} {ms : Loc} (hk : env.kindOf x = some .local) (hP : P σ) (xs : List V) :
    ∀ (acc : List V) (o : Option V), (∀ X ∈ xs, ∀ K : Bool → Sto → Prop, (∀ b, K b σ) → AB C env (x :: caps) gl false d (isTrue c env (eval c env)) (some X :: ms) σ K) →
      (∀ X ∈ xs, ∀ K : V → Sto → Prop, K X σ → AT C env (x :: caps) gl false d (eval elt env) (some X :: ms) σ K) → (∀ ys : List V, ys.Sublist xs → Z (acc ++ ys) σ) →
      CompL C env (x :: caps) gl d (.Name x pp) elt [c] P Z xs acc (o :: ms) σ := by
  induction xs with
  | nil => intro acc o _ _ q; show Z acc _; exact apn (q [] (List.Sublist.refl _))
  | cons X xs ih =>
    intro acc o ht h q
    refine AA_Name Put.head ?_ (.inr hk)
    refine ht X (.head _) _ fun b => ⟨fun e => h X (.head _) _ ⟨hP, ih (acc ++ [X]) (some X) (fun Y hY => ht Y (.tail _ hY)) (fun Y hY => h Y (.tail _ hY)) fun ys hs => ?_⟩, fun e => ⟨hP, ih acc (some X) (fun Y hY => ht Y (.tail _ hY)) (fun Y hY => h Y (.tail _ hY)) fun ys hs => q ys (hs.cons _)⟩⟩
    rw [List.append_assoc]; exact q (X :: ys) (hs.cons_cons _)
noncomputable def putP (pk : List (Str × Int)) (w : Str) (mk : Int) : List (Str × Int) := if pk.any (fun p => p.1 = w) then pk.map (fun p => if p.1 = w then (p.1, mk) else p) else pk ++ [(w, mk)]
theorem putP_V (pk : List (Str × Int)) (w : Str) (mk : Int) : putV (pkV pk) w (.int mk) = pkV (putP pk w mk) := by
  unfold putV putP pkV
  rw [show (pk.map fun p => (p.1, V.int p.2)).any (fun kv => decide (kv.1 = w)) = pk.any (fun p => decide (p.1 = w)) by rw [List.any_map]; rfl]
  split
  · rw [List.map_map, List.map_map]
    refine List.map_congr_left fun p _ => ?_
    show (if p.1 = w then (p.1, V.int mk) else (p.1, V.int p.2)) = ((if p.1 = w then (p.1, mk) else p).1, V.int (if p.1 = w then (p.1, mk) else p).2)
    split <;> rfl
  · rw [List.map_append]; rfl
theorem putP_mem {pk : List (Str × Int)} {w : Str} {mk : Int} {p : Str × Int} (h : p ∈ putP pk w mk) : p = (w, mk) ∨ p ∈ pk := by
  unfold putP at h
  split at h
  · obtain ⟨p', hp, rfl⟩ := List.mem_map.mp h
    split
    · rename_i e; exact .inl (by rw [e])
    · exact .inr hp
  · rcases List.mem_append.mp h with h | h
    · exact .inr h
    · exact .inl (List.mem_singleton.mp h)
theorem putP_nd {pk : List (Str × Int)} {w : Str} {mk : Int} (hn : (pk.map (·.1)).Nodup) : ((putP pk w mk).map (·.1)).Nodup := by
  unfold putP
  split
  · rw [List.map_map, show ((fun p : Str × Int => p.1) ∘ fun p => if p.1 = w then (p.1, mk) else p) = fun p => p.1 by funext p; show (if p.1 = w then (p.1, mk) else p).1 = p.1; split <;> rfl]
    exact hn
  · rename_i h
    rw [List.map_append]
    refine nodup_snoc hn fun hm => h ?_
    obtain ⟨p, hp, e⟩ := List.mem_map.mp hm
    exact List.any_eq_true.mpr ⟨p, hp, decide_eq_true e⟩
theorem pk_le (S : Rw σ ro rv es) {pk : List (Str × Int)} (hn : (pk.map (·.1)).Nodup) (pi : PkIn es pk) : pk.length ≤ rv.length := by
  have := nodup_len (r := rv.map (·.1)) hn fun w hw => by
    obtain ⟨p, hp, rfl⟩ := List.mem_map.mp hw
    obtain ⟨ns, hns⟩ := pi p hp
    exact S.inRv hns
  rw [List.length_map, List.length_map] at this
  exact this
theorem PkIn.put {pk : List (Str × Int)} (pi : PkIn es pk) {w : Str} {mk : Int} {ns : List Need} (h : (mk, ns) ∈ es w) : PkIn es (putP pk w mk) := fun p hp => by
  rcases putP_mem hp with rfl | hp
  · exact ⟨ns, h⟩
  · exact pi p hp
theorem PkB.put (S : Rw σ ro rv es) {pk : List (Str × Int)} (pb : PkB pk) (pi : PkIn es pk) {w : Str} {mk : Int} {ns : List Need} (h : (mk, ns) ∈ es w) : PkB (putP pk w mk) := by
  refine ⟨putP_nd pb.nd, Nat.le_trans (pk_le S (putP_nd pb.nd) (pi.put h)) S.rl, fun p hp => ?_⟩
  rcases putP_mem hp with rfl | hp
  · obtain ⟨q, hq, e⟩ := List.mem_map.mp (S.inRv h)
    have := (S.eok w).mb _ h
    exact ⟨e ▸ S.wok q hq, this.1, this.2⟩
  · exact pb.ok p hp
noncomputable def PkR (es : Str → List (Int × List Need)) (τ : Sto) (r : Addr) : Prop := ∃ pk, At τ r (dS (pkV pk)) ∧ PkB pk ∧ PkIn es pk
theorem PkR.mono {τ τ' : Sto} {r : Addr} (h : PkR es τ r) (hs : ∀ p ∈ τ, p ∈ τ') : PkR es τ' r := by
  obtain ⟨pk, ⟨o, h1⟩, h2⟩ := h
  exact ⟨pk, ⟨o, hs _ h1⟩, h2⟩
theorem PkR.upd {τ τ' : Sto} {r a : Addr} {x : AO} (h : PkR es τ r) (U : UpdS τ τ' a x) (hne : r ≠ a) : PkR es τ' r := by
  obtain ⟨pk, h1, h2⟩ := h
  exact ⟨pk, U.at h1 hne, h2⟩
noncomputable def part15 : Unit := ()
end

section
variable {C : Cx} {d : Nat} {σ : Sto} {Q : V → Sto → Prop} {i k ro : Addr} {kv rv : List (Str × Addr)} {es : Str → List (Int × List Need)}
theorem refs_of {rs : List Addr} : ∀ {ys : List V}, ys.Sublist (rs.map V.ref) → ∃ rs' : List Addr, ys = rs'.map V.ref ∧ rs'.Sublist rs := fun h => by
  obtain ⟨l, h1, h2⟩ := List.sublist_map_iff.mp h
  exact ⟨l, h2, h1⟩
theorem pk_agenda (S : Rw σ ro rv es) (h4r : rv.length ≤ 4) {wi : List Need} (ok : WishOk wi) {pk : List (Str × Int)} (pb : PkB pk) (pi : PkIn es pk) : ∃ N R, N ≤ 60 ∧ Bf (nx es pk) N [] (wi.map (·.1)) R ∧ (∀ w ∈ R, Ware w) ∧ R.length ≤ N := by
  obtain ⟨N, R, hN, hB⟩ := nx_ex4 (es := es) (pk := pk) (wi := wi) (Nat.le_trans (Nat.le_trans (pk_le S pb.nd pi) h4r) (by decide)) (fun w p hp => ((S.eok w).nok p hp).len) ok.len
  refine ⟨N, R, hN, hB, hB.all (nx_ware fun w p hp n hn => ((S.eok w).nok p hp).ok n hn) (fun _ h => by cases h) fun y hy => ?_, ?_⟩
  · obtain ⟨n, hn, rfl⟩ := List.mem_map.mp hy
    exact (ok.ok n hn).w
  · have := hB.rlen
    rw [List.length_nil, Nat.zero_add] at this
    exact this
noncomputable def MtB (es : Str → List (Int × List Need)) (wi : List Need) (pk : List (Str × Int)) : Prop := ∃ N R, N ≤ 60 ∧ Bf (nx es pk) N [] (wi.map (·.1)) R ∧ (∀ w ∈ R, Ware w) ∧ R.length ≤ N ∧ meetsB es wi pk R = true
noncomputable def PkM (es : Str → List (Int × List Need)) (wi : List Need) (τ : Sto) (r : Addr) : Prop := ∃ pk, At τ r (dS (pkV pk)) ∧ PkB pk ∧ PkIn es pk ∧ MtB es wi pk
theorem pow5 {j : Nat} (h : j ≤ 4) : 5 ^ j ≤ 625 := Nat.pow_le_pow_right (by decide) h
noncomputable def pI (pk : List (Str × Int)) (w : Str) : Option Int := (pk.find? (fun p => decide (p.1 = w))).map (·.2)
theorem pI_at {pk : List (Str × Int)} (hn : (pk.map (·.1)).Nodup) {w : Str} {mk : Int} (h : (w, mk) ∈ pk) : pI pk w = some mk := by
  unfold pI; rw [find_key hn h]; rfl
theorem pI_mem {pk : List (Str × Int)} {w : Str} {mk : Int} (h : pI pk w = some mk) : (w, mk) ∈ pk := by
  unfold pI at h
  obtain ⟨⟨v, n⟩, e, rfl⟩ := Option.map_eq_some_iff.mp h
  have h2 := List.find?_some e
  have h3 : v = w := by simpa using h2
  rw [← h3]; exact List.mem_of_find?_eq_some e
theorem metB_mem {pk : List (Str × Int)} {n : Need} (h : metB pk n = true) : ∃ mk, (n.1, mk) ∈ pk := by
  by_cases h1 : n.1 ∈ pk.map (·.1)
  · obtain ⟨⟨w, mk⟩, hp, e⟩ := List.mem_map.mp h1
    exact ⟨mk, e ▸ hp⟩
  · unfold metB at h; rw [vAt_none (by rw [pkV_keys]; exact h1)] at h; cases h
theorem meets_mem {wi : List Need} {pk : List (Str × Int)} {R : List Str} (m : meetsB es wi pk R = true) {x : Str} (hx : x ∈ R) : ∃ mk, (x, mk) ∈ pk := by
  unfold meetsB at m
  have e : sortS (pk.map (·.1)) = sortS R := of_decide_eq_true (Bool.and_eq_true_iff.mp m).1
  have h1 : x ∈ pk.map (·.1) := (sortS_perm _).mem_iff.mp (by rw [e]; exact (sortS_perm R).mem_iff.mpr hx)
  obtain ⟨⟨w, mk⟩, hp, e⟩ := List.mem_map.mp h1
  exact ⟨mk, e ▸ hp⟩
theorem nw_has {wi : List Need} {pk1 pk2 : List (Str × Int)} {N : Nat} {R : List Str} {j : Nat} {x : Str} (hE : ∀ w, ((es w).map (·.1)).Nodup) (pb1 : PkB pk1) (pi1 : PkIn es pk1) (hB : Bf (nx es pk1) N [] (wi.map (·.1)) R) (m2 : MtB es wi pk2)
    (hag : ∀ i y, i < j → R[i]? = some y → pI pk1 y = pI pk2 y) (hx : R[j]? = some x) : ∃ mk, (x, mk) ∈ pk2 := by
  obtain ⟨_, R2, _, _, _, _, m2⟩ := m2
  unfold meetsB at m2
  obtain ⟨_, m2⟩ := Bool.and_eq_true_iff.mp m2
  obtain ⟨hw, hp⟩ := Bool.and_eq_true_iff.mp m2
  rcases hB.src (Nat.zero_le _) hx with h | ⟨i, y, hi, hy, h⟩
  · obtain ⟨n, hn, rfl⟩ := List.mem_map.mp h
    exact metB_mem (List.all_eq_true.mp hw n hn)
  · rcases nx_at pb1 pi1 y (hE y) with ⟨_, _, e⟩ | ⟨mk, ns, hm, _, hns, e⟩
    · rw [e] at h; cases h
    · rw [e] at h
      obtain ⟨n, hn, rfl⟩ := List.mem_map.mp h
      have ha := hag i y hi hy
      rw [pI_at pb1.nd hm] at ha
      have := List.all_eq_true.mp hp _ (pI_mem ha.symm)
      rw [ndOf_at (hE y) hns] at this
      exact metB_mem (List.all_eq_true.mp this n hn)
theorem f2_map {α : Type} {R : V × V → V → Prop} {f : α → V} {g : V × V → α → Prop} (h : ∀ p Y, R p Y → ∃ a, Y = f a ∧ g p a) {ps : List (V × V)} {ys : List V} (H : F2 R ps ys) : ∃ as : List α, ys = as.map f ∧ F2 g ps as := by
  induction H with
  | nil => exact ⟨[], rfl, .nil⟩
  | cons h1 _ ih =>
    obtain ⟨a, rfl, ha⟩ := h _ _ h1
    obtain ⟨as, rfl, hs⟩ := ih
    exact ⟨a :: as, rfl, .cons ha hs⟩
theorem nodup_of_map {α β : Type} {f : α → β} {l : List α} (h : (l.map f).Nodup) : l.Nodup := List.nodup_iff_pairwise_ne.mpr ((List.pairwise_map.mp (List.nodup_iff_pairwise_ne.mp h)).imp fun hne e => hne (congrArg f e))
theorem find_perm {ps qs : List (Str × Int)} (n1 : (ps.map (·.1)).Nodup) (n2 : (qs.map (·.1)).Nodup) (p : ps.Perm qs) (w : Str) : ps.find? (fun p => decide (p.1 = w)) = qs.find? (fun p => decide (p.1 = w)) := by
  by_cases h : w ∈ ps.map (·.1)
  · obtain ⟨⟨w, mk⟩, hm, rfl⟩ := List.mem_map.mp h
    rw [find_key n1 hm, find_key n2 (p.mem_iff.mp hm)]
  · rw [find_no h, find_no fun h' => h ((p.map _).mem_iff.mpr h')]
theorem vAt_perm {ps qs : List (Str × Int)} (n1 : (ps.map (·.1)).Nodup) (n2 : (qs.map (·.1)).Nodup) (p : ps.Perm qs) (w : Str) : vAt (pkV ps) w = vAt (pkV qs) w := by
  by_cases h : w ∈ ps.map (·.1)
  · obtain ⟨⟨w, mk⟩, hm, rfl⟩ := List.mem_map.mp h
    rw [vAt_mem (by rw [pkV_keys]; exact n1) (List.mem_map.mpr ⟨_, hm, rfl⟩), vAt_mem (by rw [pkV_keys]; exact n2) (List.mem_map.mpr ⟨_, p.mem_iff.mp hm, rfl⟩)]
  · rw [vAt_none (by rw [pkV_keys]; exact h), vAt_none (by rw [pkV_keys]; exact fun h' => h ((p.map _).mem_iff.mpr h'))]
theorem MtB.perm {wi : List Need} {ps qs : List (Str × Int)} (n1 : (ps.map (·.1)).Nodup) (n2 : (qs.map (·.1)).Nodup) (p : ps.Perm qs) (m : MtB es wi qs) : MtB es wi ps := by
  obtain ⟨N, R, hN, hB, hRw, hRl, m⟩ := m
  have e1 : nx es ps = nx es qs := by funext w; unfold nx; rw [find_perm n1 n2 p]
  have e2 : metB ps = metB qs := by funext n; unfold metB; rw [vAt_perm n1 n2 p]
  have e3 : meetsB es wi ps R = meetsB es wi qs R := by
    unfold meetsB
    rw [e2, sortS_perm_eq (p.map _), p.all_eq]
  exact ⟨N, R, hN, e1 ▸ hB, hRw, hRl, e3.trans m⟩
end

section
variable {σ : Sto} {ro : Addr} {rv : List (Str × Addr)} {es : Str → List (Int × List Need)} {wi : List Need}
structure Vd (es : Str → List (Int × List Need)) (wi : List Need) (pk : List (Str × Int)) : Prop where
  pb : PkB pk
  pi : PkIn es pk
  mt : MtB es wi pk
noncomputable abbrev Ag (es : Str → List (Int × List Need)) (wi : List Need) (pk : List (Str × Int)) (R : List Str) : Prop := ∃ N, Bf (nx es pk) N [] (wi.map (·.1)) R
theorem nx_pI (pk : List (Str × Int)) (w : Str) : nx es pk w = match pI pk w with
    | none => []
    | some m => match (es w).find? (fun e => decide (e.1 = m)) with
      | none => []
      | some e => e.2.map (·.1) := by
  unfold nx pI
  cases pk.find? (fun p => decide (p.1 = w)) <;> rfl
theorem nx_same {pk1 pk2 : List (Str × Int)} {w : Str} (h : pI pk1 w = pI pk2 w) : nx es pk1 w = nx es pk2 w := by rw [nx_pI, nx_pI, h]
theorem ag_agree {pk1 pk2 : List (Str × Int)} {R1 R2 : List Str} {m : Nat} (h1 : Ag es wi pk1 R1) (h2 : Ag es wi pk2 R2) (ha : ∀ x ∈ R1.take m, pI pk1 x = pI pk2 x) : R1.take (m + 1) = R2.take (m + 1) := by
  obtain ⟨_, h1⟩ := h1
  obtain ⟨_, h2⟩ := h2
  exact h1.agree h2 fun x hx => nx_same (ha x hx)
theorem take_all {α : Type} {a b : List α} (h : a.take (a.length + 1) = b.take (a.length + 1)) : a = b := by
  rw [List.take_of_length_le (Nat.le_succ _)] at h
  have hl := congrArg List.length h
  rw [List.length_take] at hl
  rw [h, List.take_of_length_le (by lia)]
open Classical in
theorem first_bad {α : Type} {P : α → Prop} : ∀ {l : List α}, ¬ (∀ x ∈ l, P x) → ∃ j x, l[j]? = some x ∧ ¬ P x ∧ ∀ z ∈ l.take j, P z
  | [], h => absurd (fun _ h => by cases h) h
  | a :: l, h => by
    by_cases ha : P a
    · obtain ⟨j, x, h1, h2, h3⟩ := first_bad (l := l) (P := P) fun hl => h fun x hx => by
        rcases List.mem_cons.mp hx with rfl | hx
        · exact ha
        · exact hl x hx
      exact ⟨j + 1, x, h1, h2, fun z hz => by
        rcases List.mem_cons.mp hz with rfl | hz
        · exact ha
        · exact h3 z hz⟩
    · exact ⟨0, a, rfl, ha, fun z hz => by cases hz⟩
theorem ahead_all {f g : Str → Option Int} : ∀ {R : List Str}, (∀ z ∈ R, f z = g z) → ahead f g R = false
  | [], _ => rfl
  | w :: R, h => by rw [ahead_eq _ (h w (.head _))]; exact ahead_all fun z hz => h z (.tail _ hz)
theorem ahead_at {f g : Str → Option Int} : ∀ {R : List Str} {j : Nat} {w : Str} {x y : Int}, R[j]? = some w → (∀ z ∈ R.take j, f z = g z) → f w = some x → g w = some y → x ≠ y → ahead f g R = decide (y < x)
  | [], _, _, _, _, h, _, _, _, _ => by simp at h
  | v :: R, 0, w, x, y, h, _, hx, hy, hne => by
    simp at h; subst h
    exact ahead_ne R hx hy hne
  | v :: R, j + 1, w, x, y, h, ha, hx, hy, hne => by
    rw [ahead_eq _ (ha v (.head _))]
    exact ahead_at (by simpa using h) (fun z hz => ha z (.tail _ hz)) hx hy hne
theorem ag_mem {pk : List (Str × Int)} (v : Vd es wi pk) {R : List Str} (h : Ag es wi pk R) {x : Str} (hx : x ∈ R) : ∃ m, (x, m) ∈ pk := by
  obtain ⟨N, R', _, hB, _, _, m⟩ := v.mt
  obtain ⟨_, h⟩ := h
  rw [h.det hB] at hx
  exact meets_mem m hx
theorem take_get {α : Type} {a b : List α} {m j : Nat} (h : a.take m = b.take m) (hj : j < m) : a[j]? = b[j]? := by
  have := congrArg (fun l => l[j]?) h
  simpa [List.getElem?_take_of_lt hj] using this
theorem take_sub {α : Type} {a b : List α} {m j : Nat} (h : a.take m = b.take m) (hj : j ≤ m) : a.take j = b.take j := by
  have := congrArg (List.take j) h
  rw [List.take_take, List.take_take, Nat.min_eq_left hj] at this
  exact this
inductive Dif (pk1 pk2 : List (Str × Int)) (R1 R2 : List Str) : Prop
  | same : R1 = R2 → (∀ x ∈ R1, pI pk1 x = pI pk2 x) → Dif pk1 pk2 R1 R2
  | at (j : Nat) (w : Str) (x y : Int) : R1[j]? = some w → R2[j]? = some w → R1.take j = R2.take j → (∀ z ∈ R1.take j, pI pk1 z = pI pk2 z) → pI pk1 w = some x → pI pk2 w = some y → x ≠ y → Dif pk1 pk2 R1 R2
open Classical in
theorem fst_diff {pk1 pk2 : List (Str × Int)} {R1 R2 : List Str} (v1 : Vd es wi pk1) (v2 : Vd es wi pk2) (h1 : Ag es wi pk1 R1) (h2 : Ag es wi pk2 R2) : Dif pk1 pk2 R1 R2 := by
  by_cases hall : ∀ x ∈ R1, pI pk1 x = pI pk2 x
  · exact .same (take_all (ag_agree h1 h2 fun x hx => hall x (List.mem_of_mem_take hx))) hall
  · obtain ⟨j, w, hw, hne, ha⟩ := first_bad hall
    have ht := ag_agree h1 h2 ha
    have hw2 : R2[j]? = some w := by rw [← take_get ht (Nat.lt_succ_self _)]; exact hw
    obtain ⟨x, hx⟩ := ag_mem v1 h1 (List.mem_of_getElem? hw)
    obtain ⟨y, hy⟩ := ag_mem v2 h2 (List.mem_of_getElem? hw2)
    have ex := pI_at v1.pb.nd hx
    have ey := pI_at v2.pb.nd hy
    exact .at j w x y hw hw2 (take_sub ht (Nat.le_succ _)) ha ex ey fun e => hne (by rw [ex, ey, e])
theorem Dif.eq {pk1 pk2 : List (Str × Int)} {R1 R2 : List Str} (D : Dif pk1 pk2 R1 R2) (h : Mine.ahead (pI pk1) (pI pk2) R1 = false) (h' : Mine.ahead (pI pk2) (pI pk1) R2 = false) : R1 = R2 ∧ ∀ x ∈ R1, pI pk1 x = pI pk2 x := by
  cases D with
  | same e ha => exact ⟨e, ha⟩
  | «at» j w x y h1 h2 ht ha ex ey hne =>
    rw [ahead_at h1 ha ex ey hne] at h
    rw [ahead_at h2 (fun z hz => (ha z (by rw [ht]; exact hz)).symm) ey ex fun e => hne e.symm] at h'
    have h := of_decide_eq_false h
    have h' := of_decide_eq_false h'
    exact absurd (by lia) hne
theorem ahead_trans {pk1 pk2 pk3 : List (Str × Int)} {R1 R2 R3 : List Str} (D : Dif pk1 pk2 R1 R2) (D' : Dif pk2 pk3 R2 R3) (a : ahead (pI pk1) (pI pk2) R1 = true) (a' : ahead (pI pk2) (pI pk3) R2 = true) : ahead (pI pk1) (pI pk3) R1 = true := by
  cases D with
  | same e ha => rw [ahead_all ha] at a; cases a
  | «at» j w x y h1 h2 ht ha ex ey hne =>
    cases D' with
    | same e ha => rw [ahead_all ha] at a'; cases a'
    | «at» j' w' x' y' h1' h2' ht' ha' ex' ey' hne' =>
      rw [ahead_at h1 ha ex ey hne] at a
      rw [ahead_at h1' ha' ex' ey' hne'] at a'
      have a := of_decide_eq_true a
      have a' := of_decide_eq_true a'
      have pre : ∀ {k : Nat}, k ≤ j → k ≤ j' → ∀ z ∈ R1.take k, pI pk1 z = pI pk3 z := fun {k} hk hk' z hz => by
        have e1 := ha z ((List.take_subset_take_left _ hk) hz)
        have e2 := ha' z ((List.take_subset_take_left _ hk') (by rw [← take_sub ht hk]; exact hz))
        exact e1.trans e2
      rcases Nat.lt_trichotomy j j' with hlt | rfl | hlt
      · have hw : w ∈ R2.take j' := List.mem_iff_getElem?.mpr ⟨j, by rw [List.getElem?_take_of_lt hlt]; exact h2⟩
        have e3 := ha' w hw
        rw [ey] at e3
        rw [ahead_at h1 (pre (Nat.le_refl _) (Nat.le_of_lt hlt)) ex e3.symm hne]
        exact decide_eq_true a
      · rw [h2] at h1'; cases h1'
        rw [ey] at ex'; cases ex'
        rw [ahead_at h1 (pre (Nat.le_refl _) (Nat.le_refl _)) ex ey' (by lia)]
        exact decide_eq_true (by lia)
      · have hw1 : R1[j']? = some w' := by rw [take_get ht hlt]; exact h1'
        have hw : w' ∈ R1.take j := List.mem_iff_getElem?.mpr ⟨j', by rw [List.getElem?_take_of_lt hlt]; exact hw1⟩
        have e3 := ha w' hw
        rw [ex'] at e3
        rw [ahead_at hw1 (pre (Nat.le_of_lt hlt) (Nat.le_refl _)) e3 ey' hne']
        exact decide_eq_true a'
end
section
variable {es : Str → List (Int × List Need)} {wi : List Need} {ps pk r : List (Str × Int)} {R : List Str} {w : Str} {mk : Int}
structure Cp (es : Str → List (Int × List Need)) (wi : List Need) (ps pk : List (Str × Int)) : Prop where
  v : Vd es wi pk
  sub : ∀ p ∈ ps, p ∈ pk
structure Pa (es : Str → List (Int × List Need)) (wi : List Need) (ps : List (Str × Int)) (R : List Str) : Prop where
  ag : Ag es wi ps R
  keys : ps.map (·.1) = R.take ps.length
  pb : PkB ps
  pi : PkIn es ps
  s1 : ∀ n ∈ wi, ∀ m, pI ps n.1 = some m → n.2.1 ≤ m ∧ m ≤ n.2.2
  s2 : ∀ p ∈ ps, ∀ n ∈ ndOf es p, ∀ m, pI ps n.1 = some m → n.2.1 ≤ m ∧ m ≤ n.2.2
theorem pI_app (ps : List (Str × Int)) (w : Str) (mk : Int) (x : Str) : pI (ps ++ [(w, mk)]) x = (pI ps x).or (if w = x then some mk else none) := by
  unfold pI
  rw [List.find?_append]
  cases ps.find? (fun p => decide (p.1 = x)) with
  | some p => rfl
  | none =>
    by_cases e : w = x
    · rw [if_pos e, List.find?_cons_of_pos (by simpa using e)]; rfl
    · rw [if_neg e, List.find?_cons_of_neg (by simpa using e)]; rfl
theorem pI_none {ps : List (Str × Int)} {x : Str} (h : x ∉ ps.map (·.1)) : pI ps x = none := by unfold pI; rw [find_no h]; rfl
theorem pI_key {ps : List (Str × Int)} {x : Str} (hn : (ps.map (·.1)).Nodup) (h : x ∈ ps.map (·.1)) : ∃ m, (x, m) ∈ ps ∧ pI ps x = some m := by
  obtain ⟨⟨x, m⟩, hp, rfl⟩ := List.mem_map.mp h
  exact ⟨m, hp, pI_at hn hp⟩
theorem metB_of {n : Need} {m : Int} (hn : (pk.map (·.1)).Nodup) (h : (n.1, m) ∈ pk) : metB pk n = (decide (n.2.1 ≤ m) && decide (m ≤ n.2.2)) :=
  metB_in (w := n.1) (lo := n.2.1) (hi := n.2.2) (vAt_mem (by rw [pkV_keys]; exact hn) (List.mem_map.mpr ⟨_, h, rfl⟩))
theorem Vd.met (v : Vd es wi pk) {n : Need} (h : n ∈ wi ∨ ∃ p ∈ pk, n ∈ ndOf es p) {m : Int} (hm : (n.1, m) ∈ pk) : n.2.1 ≤ m ∧ m ≤ n.2.2 := by
  obtain ⟨_, R, _, _, _, _, mt⟩ := v.mt
  unfold meetsB at mt
  obtain ⟨_, mt⟩ := Bool.and_eq_true_iff.mp mt
  obtain ⟨a1, a2⟩ := Bool.and_eq_true_iff.mp mt
  have hb : metB pk n = true := by
    rcases h with h | ⟨p, hp, h⟩
    · exact List.all_eq_true.mp a1 n h
    · exact List.all_eq_true.mp (List.all_eq_true.mp a2 p hp) n h
  rw [metB_of v.pb.nd hm] at hb
  obtain ⟨b1, b2⟩ := Bool.and_eq_true_iff.mp hb
  exact ⟨of_decide_eq_true b1, of_decide_eq_true b2⟩
theorem Pa.on (pa : Pa es wi ps R) (c : Cp es wi ps pk) : ∀ x ∈ R.take ps.length, pI ps x = pI pk x := fun x hx => by
  rw [← pa.keys] at hx
  obtain ⟨⟨w, m⟩, hp, rfl⟩ := List.mem_map.mp hx
  rw [pI_at pa.pb.nd hp, pI_at c.v.pb.nd (c.sub _ hp)]
theorem Pa.next (pa : Pa es wi ps R) (hw : R[ps.length]? = some w) (c : Cp es wi ps pk) : ∃ mk, (w, mk) ∈ pk := by
  obtain ⟨N, R2, hN, hB, hRw, hRl, m⟩ := c.v.mt
  have ht := ag_agree pa.ag ⟨N, hB⟩ (pa.on c)
  exact meets_mem m (List.mem_of_getElem? (i := ps.length) (by rw [← take_get ht (Nat.lt_succ_self _)]; exact hw))
theorem Pa.done (pa : Pa es wi ps R) (hE : ∀ w, ((es w).map (·.1)).Nodup) (hR : R.length ≤ ps.length) (hag : ∃ N R, N ≤ 60 ∧ Bf (nx es ps) N [] (wi.map (·.1)) R ∧ (∀ w ∈ R, Ware w) ∧ R.length ≤ N) : Vd es wi ps := by
  obtain ⟨N, R', hN, hB, hRw, hRl⟩ := hag
  obtain ⟨N0, hB0⟩ := pa.ag
  obtain rfl := hB.det hB0
  have hk : ps.map (·.1) = R' := by rw [pa.keys, List.take_of_length_le hR]
  obtain ⟨_, c2, c3⟩ := hB.closed
  have key : ∀ x ∈ R', ∃ m, (x, m) ∈ ps ∧ pI ps x = some m := fun x hx => pI_key pa.pb.nd (by rw [hk]; exact hx)
  refine ⟨pa.pb, pa.pi, N, R', hN, hB, hRw, hRl, ?_⟩
  unfold meetsB
  refine Bool.and_eq_true_iff.mpr ⟨decide_eq_true (by rw [hk]), Bool.and_eq_true_iff.mpr ⟨List.all_eq_true.mpr fun n hn => ?_, List.all_eq_true.mpr fun p hp => List.all_eq_true.mpr fun n hn => ?_⟩⟩
  · obtain ⟨m, h1, h2⟩ := key n.1 (c2 _ (List.mem_map.mpr ⟨n, hn, rfl⟩))
    obtain ⟨b1, b2⟩ := pa.s1 n hn m h2
    rw [metB_of pa.pb.nd h1, decide_eq_true b1, decide_eq_true b2]; rfl
  · obtain ⟨w, mk⟩ := p
    obtain ⟨ns, hns⟩ := pa.pi _ hp
    have hn' := hn
    rw [ndOf_at (hE w) hns] at hn'
    have hnx : nx es ps w = ns.map (·.1) := by
      rcases nx_at pa.pb pa.pi w (hE w) with ⟨h, _⟩ | ⟨mk', ns', h1, _, h3, h4⟩
      · exact absurd (List.mem_map.mpr ⟨_, hp, rfl⟩) h
      · have e := nodup_inj pa.pb.nd h1 hp rfl
        cases e
        have e2 := nodup_inj (hE w) h3 hns rfl
        cases e2
        exact h4
    obtain ⟨m, h1, h2⟩ := key n.1 (c3 w (by rw [← hk]; exact List.mem_map.mpr ⟨_, hp, rfl⟩) (fun h => by cases h) _ (by rw [hnx]; exact List.mem_map.mpr ⟨n, hn', rfl⟩))
    obtain ⟨b1, b2⟩ := pa.s2 _ hp n hn m h2
    rw [metB_of pa.pb.nd h1, decide_eq_true b1, decide_eq_true b2]; rfl
theorem clash_no (h : ∃ p ∈ ps, ∃ n ∈ ndOf es p, ∃ m, (n.1, m) ∈ ps ∧ ¬ (n.2.1 ≤ m ∧ m ≤ n.2.2)) : ∀ pk, ¬ Cp es wi ps pk := fun pk c => by
  obtain ⟨p, hp, n, hn, m, hm, hb⟩ := h
  exact hb (c.v.met (.inr ⟨p, c.sub p hp, hn⟩) (c.sub _ hm))
theorem out_no (h : ∃ n ∈ wi ++ ps.flatMap (ndOf es), n.1 = w ∧ ¬ (n.2.1 ≤ mk ∧ mk ≤ n.2.2)) : ∀ pk, ¬ Cp es wi (ps ++ [(w, mk)]) pk := fun pk c => by
  obtain ⟨n, hn, rfl, hb⟩ := h
  refine hb (c.v.met ?_ (c.sub _ (List.mem_append_right _ (.head _))))
  rcases List.mem_append.mp hn with h | h
  · exact .inl h
  · obtain ⟨p, hp, h⟩ := List.mem_flatMap.mp h
    exact .inr ⟨p, c.sub p (List.mem_append_left _ hp), h⟩
theorem Pa.fresh (pa : Pa es wi ps R) (hw : R[ps.length]? = some w) : w ∉ ps.map (·.1) := fun h => by
  obtain ⟨N, hB⟩ := pa.ag
  have hn := hB.nodup List.nodup_nil
  rw [pa.keys] at h
  obtain ⟨hlt, e⟩ := List.getElem?_eq_some_iff.mp hw
  exact take_new hn hlt (e ▸ h)
theorem Pa.step {R' : List Str} {ns : List Need} (pa : Pa es wi ps R) (hE : ∀ w, ((es w).map (·.1)).Nodup) (hw : R[ps.length]? = some w) (hm : (mk, ns) ∈ es w) (pb : PkB (ps ++ [(w, mk)])) (hin : ∀ n ∈ wi ++ ps.flatMap (ndOf es), n.1 = w → n.2.1 ≤ mk ∧ mk ≤ n.2.2)
    (hcl : ∀ n ∈ ns, ∀ m, (n.1, m) ∈ ps ++ [(w, mk)] → n.2.1 ≤ m ∧ m ≤ n.2.2) (hag : Ag es wi (ps ++ [(w, mk)]) R') : Pa es wi (ps ++ [(w, mk)]) R' := by
  have hf := pa.fresh hw
  have pne : ∀ x m, pI (ps ++ [(w, mk)]) x = some m → (x = w ∧ m = mk) ∨ pI ps x = some m := fun x m h => by
    rw [pI_app] at h
    by_cases e : w = x
    · subst e
      rw [pI_none hf, if_pos rfl] at h
      exact .inl ⟨rfl, (Option.some.inj h).symm⟩
    · rw [if_neg e, Option.or_none] at h; exact .inr h
  refine ⟨hag, ?_, pb, fun p hp => ?_, fun n hn m h => ?_, fun p hp n hn m h => ?_⟩
  · have ht := ag_agree pa.ag hag (m := ps.length) fun x hx => by
      rw [← pa.keys] at hx
      obtain ⟨m, _, e⟩ := pI_key pa.pb.nd hx
      rw [pI_app, e]; rfl
    rw [List.length_append, show ps.length + [(w, mk)].length = ps.length + 1 from rfl, ← ht, List.take_add_one, hw, List.map_append, pa.keys]; rfl
  · rcases List.mem_append.mp hp with h | h
    · exact pa.pi p h
    · rw [List.mem_singleton.mp h]; exact ⟨ns, hm⟩
  · rcases pne _ _ h with ⟨e, rfl⟩ | h
    · exact hin n (List.mem_append_left _ hn) e
    · exact pa.s1 n hn m h
  · rcases List.mem_append.mp hp with hp2 | hp2
    · rcases pne _ _ h with ⟨e, em⟩ | h
      · rw [em]; exact hin n (List.mem_append_right _ (List.mem_flatMap.mpr ⟨p, hp2, hn⟩)) e
      · exact pa.s2 p hp2 n hn m h
    · rw [List.mem_singleton.mp hp2, ndOf_at (hE w) hm] at hn
      exact hcl n hn m (pI_mem h)
structure Bs (es : Str → List (Int × List Need)) (wi : List Need) (ps r : List (Str × Int)) : Prop where
  c : Cp es wi ps r
  ag : Ag es wi r (r.map (·.1))
  top : ∀ pk R2, Cp es wi ps pk → Ag es wi pk R2 → ahead (pI pk) (pI r) R2 = false
theorem Pa.best0 (pa : Pa es wi ps R) (hR : R.length ≤ ps.length) (v : Vd es wi ps) : Bs es wi ps ps := by
  have hk : ps.map (·.1) = R := by rw [pa.keys, List.take_of_length_le hR]
  refine ⟨⟨v, fun p h => h⟩, by rw [hk]; exact pa.ag, fun pk R2 c ag => ?_⟩
  have hon := pa.on c
  have hlen : R.length = ps.length := by rw [← hk, List.length_map]
  have ht := ag_agree pa.ag ag hon
  rw [← hlen] at ht
  obtain rfl := take_all ht
  exact ahead_all fun z hz => (hon z (by rw [List.take_of_length_le hR]; exact hz)).symm
theorem Bs.up (pa : Pa es wi ps R) (hw : R[ps.length]? = some w) (b : Bs es wi (ps ++ [(w, mk)]) r) (hgt : ∀ mk' ns, mk < mk' → (mk', ns) ∈ es w → ∀ pk, ¬ Cp es wi (ps ++ [(w, mk')]) pk) : Bs es wi ps r := by
  have cr : Cp es wi ps r := ⟨b.c.v, fun p h => b.c.sub p (List.mem_append_left _ h)⟩
  refine ⟨cr, b.ag, fun pk R2 c ag => ?_⟩
  obtain ⟨mk', hm'⟩ := pa.next hw c
  have c' : Cp es wi (ps ++ [(w, mk')]) pk := ⟨c.v, fun p h => by
    rcases List.mem_append.mp h with h | h
    · exact c.sub p h
    · rw [List.mem_singleton.mp h]; exact hm'⟩
  obtain ⟨ns, hns⟩ := c.v.pi _ hm'
  rcases Int.lt_trichotomy mk mk' with h | rfl | h
  · exact absurd c' (hgt mk' ns h hns pk)
  · exact b.top pk R2 c' ag
  · have ht := ag_agree pa.ag ag (pa.on c)
    have hw2 : R2[ps.length]? = some w := by rw [← take_get ht (Nat.lt_succ_self _)]; exact hw
    rw [ahead_at hw2 (fun z hz => ?_) (pI_at c.v.pb.nd hm') (pI_at cr.v.pb.nd (b.c.sub _ (List.mem_append_right _ (.head _)))) (by lia)]
    · exact decide_eq_false (by lia)
    · rw [← take_sub ht (Nat.le_succ _)] at hz
      exact (pa.on c z hz).symm.trans (pa.on cr z hz)
end

section
variable {C : Cx} {d : Nat} {σ : Sto} {Q : V → Sto → Prop} {i k ro : Addr} {kv rv : List (Str × Addr)} {es : Str → List (Int × List Need)}
noncomputable def rsT (ws : List Str) (pk : List (Str × Int)) : List (Str × Int) := ws.filterMap fun w => (pI pk w).map fun m => (w, m)
theorem rsT_mem {ws : List Str} {pk : List (Str × Int)} {p : Str × Int} : p ∈ rsT ws pk ↔ p.1 ∈ ws ∧ pI pk p.1 = some p.2 := by
  unfold rsT
  rw [List.mem_filterMap]
  constructor
  · rintro ⟨w, hw, h⟩
    obtain ⟨m, e, rfl⟩ := Option.map_eq_some_iff.mp h
    exact ⟨hw, e⟩
  · rintro ⟨hw, h⟩
    exact ⟨p.1, hw, by rw [h]; rfl⟩
theorem rsT_keys (ws : List Str) (pk : List (Str × Int)) : ((rsT ws pk).map (·.1)).Sublist ws := by
  induction ws with
  | nil => exact List.Sublist.refl _
  | cons w ws ih =>
    unfold rsT
    cases e : pI pk w with
    | none => rw [List.filterMap_cons_none (by rw [e]; rfl)]; exact ih.cons _
    | some m => rw [List.filterMap_cons_some (b := (w, m)) (by rw [e]; rfl)]; exact ih.cons_cons _
theorem rsT_perm (S : Rw σ ro rv es) {pk : List (Str × Int)} (hn : (pk.map (·.1)).Nodup) (pi : PkIn es pk) : (rsT (rv.map (·.1)) pk).Perm pk := by
  refine (List.perm_ext_iff_of_nodup (nodup_of_map ((rsT_keys _ _).nodup S.rwn)) (nodup_of_map hn)).mpr fun p => ?_
  rw [rsT_mem]
  constructor
  · exact fun h => pI_mem h.2
  · intro h
    obtain ⟨ns, hns⟩ := pi p h
    exact ⟨S.inRv hns, pI_at hn h⟩
theorem putP_new {pk : List (Str × Int)} {w : Str} {mk : Int} (h : w ∉ pk.map (·.1)) : putP pk w mk = pk ++ [(w, mk)] := by
  unfold putP
  rw [if_neg]
  intro e
  obtain ⟨p, hp, hk⟩ := List.any_eq_true.mp e
  exact h (List.mem_map.mpr ⟨p, hp, by simpa using hk⟩)
noncomputable def H1 (τ : Sto) (rs : List Addr) (c : List (Str × Int)) : Prop := ∃ r ∈ rs, At τ r (dS (pkV c))
theorem H1.up {τ τ' : Sto} {rs rs' : List Addr} {c : List (Str × Int)} (h : H1 τ rs c) (u : ∀ r ∈ rs, ∀ x, At τ r x → r ∈ rs' ∧ At τ' r x) : H1 τ' rs' c := by
  obtain ⟨r, h1, h2⟩ := h
  obtain ⟨h3, h4⟩ := u r h1 _ h2
  exact ⟨r, h3, h4⟩
noncomputable def Mid (k : Nat) (τ τ' : Sto) (rs rs' : List Addr) (ms : List (Int × List Need)) (w : Str) : Prop := ∀ i, i < k → ∀ r0 c, rs[i]? = some r0 → At τ r0 (dS (pkV c)) → H1 τ' rs' c ∧ ∀ e ∈ ms, H1 τ' rs' (putP c w e.1)
theorem Mid.up {k : Nat} {τ τ1 τ2 : Sto} {rs rs1 rs2 : List Addr} {ms : List (Int × List Need)} {w : Str} (h : Mid k τ τ1 rs rs1 ms w) (u : ∀ r ∈ rs1, ∀ x, At τ1 r x → r ∈ rs2 ∧ At τ2 r x) : Mid k τ τ2 rs rs2 ms w := fun i hi r0 c h0 h1 =>
  ⟨(h i hi r0 c h0 h1).1.up u, fun e he => ((h i hi r0 c h0 h1).2 e he).up u⟩
theorem dS_inj {a b : List (Str × Int)} (h : dS (pkV a) = dS (pkV b)) : a = b := by
  have h1 := congrArg (List.map fun p : V × V => (match p with | (.str k, .int n) => ((k, n) : Str × Int) | _ => ("", 0))) (AO.dict.inj h)
  rw [List.map_map, List.map_map, List.map_map, List.map_map] at h1
  exact (List.map_id a).symm.trans (h1.trans (List.map_id b))
theorem Mid.next {k : Nat} {τ τ' : Sto} {rs rs' : List Addr} {ms : List (Int × List Need)} {w : Str} {r : Addr} {pk : List (Str × Int)} (h : Mid k τ τ' rs rs' ms w) (hn : (foot τ).Nodup) (hr : rs[k]? = some r) (hp : At τ r (dS (pkV pk))) (h1 : H1 τ' rs' pk) (h2 : ∀ i e, i < ms.length → ms[i]? = some e → H1 τ' rs' (putP pk w e.1)) :
    Mid (k + 1) τ τ' rs rs' ms w := fun i hi r0 c h0 hc => by
  rcases Nat.lt_succ_iff_lt_or_eq.mp hi with h' | rfl
  · exact h i h' r0 c h0 hc
  · rw [hr] at h0; cases h0
    obtain rfl := dS_inj (hp.inj hn hc)
    exact ⟨h1, fun e he => by
      obtain ⟨j, hj⟩ := List.mem_iff_getElem?.mp he
      exact h2 j e (List.getElem?_eq_some_iff.mp hj).1 hj⟩
theorem Mid.step {j : Nat} {τ τ' : Sto} {rs rs' : List Addr} {w : Str} {b : Addr} {pk : List (Str × Int)} (h : Mid rs.length τ τ' rs rs' (es w) w) (hn : (rv.map (·.1)).Nodup) (hj : rv[j]? = some (w, b)) (hc : ∀ pk, PkIn es pk → H1 τ rs (rsT ((rv.take j).map (·.1)) pk)) (pi : PkIn es pk) :
    H1 τ' rs' (rsT ((rv.take (j + 1)).map (·.1)) pk) := by
  obtain ⟨r, hr, hat⟩ := hc pk pi
  obtain ⟨i, hi⟩ := List.mem_iff_getElem?.mp hr
  obtain ⟨h1, h2⟩ := h i (List.getElem?_eq_some_iff.mp hi).1 r _ hi hat
  have e : rsT ((rv.take (j + 1)).map (·.1)) pk = rsT ((rv.take j).map (·.1)) pk ++ rsT [w] pk := by
    rw [List.take_add_one, hj, List.map_append]
    exact List.filterMap_append
  rw [e]
  have hw : w ∉ (rsT ((rv.take j).map (·.1)) pk).map (·.1) := fun hm => by
    have hm := (rsT_keys _ _).subset hm
    rw [List.map_take] at hm
    have hlt : j < (rv.map (·.1)).length := by rw [List.length_map]; exact (List.getElem?_eq_some_iff.mp hj).1
    refine take_new hn hlt ?_
    have : (rv.map (·.1))[j] = w := by
      rw [List.getElem_map, (List.getElem?_eq_some_iff.mp hj).2]
    rw [this]; exact hm
  unfold rsT at *
  cases ew : pI pk w with
  | none => rw [List.filterMap_cons_none (by rw [ew]; rfl), List.filterMap_nil, List.append_nil]; exact h1
  | some m =>
    rw [List.filterMap_cons_some (b := (w, m)) (by rw [ew]; rfl), List.filterMap_nil, ← putP_new hw]
    obtain ⟨ns, hns⟩ := pi _ (pI_mem ew)
    exact h2 (m, ns) hns
theorem PkB.perm {pk pk' : List (Str × Int)} (h : PkB pk) (p : pk'.Perm pk) : PkB pk' := ⟨((p.map _).nodup_iff).mpr h.nd, by rw [p.length_eq]; exact h.len, fun x hx => h.ok x (p.mem_iff.mp hx)⟩
theorem PkM.not {wi : List Need} {τ : Sto} {r : Addr} {pk : List (Str × Int)} {N : Nat} {R : List Str} (hn : (foot τ).Nodup) (hp : At τ r (dS (pkV pk))) (hB : Bf (nx es pk) N [] (wi.map (·.1)) R) (e : meetsB es wi pk R = false) (h : PkM es wi τ r) : False := by
  obtain ⟨pk', h1, _, _, N', R', _, hB', _, _, m⟩ := h
  obtain rfl := dS_inj (hp.inj hn h1)
  rw [hB.det hB', m] at e; cases e
noncomputable def part16 : Unit := ()
theorem w__law_all_picks (H : G1 C) (S : Rw σ ro rv es) (h4r : rv.length ≤ 4) (h4 : ∀ w, (es w).length ≤ 4) {x : V} {wi : List Need} {Px : Sto → Prop} (hx : Has σ x (.list (wi.map needV)) Px) (ok : WishOk wi)
    (q : ∀ (rs : List Addr) σ', (∀ p ∈ σ, p ∈ σ') → (∀ r ∈ rs, Fresh σ r ∧ PkM es wi σ' r) → rs.length ≤ 625 → (∀ pk, Vd es wi pk → ∃ r ∈ rs, ∃ pk', At σ' r (dS (pkV pk')) ∧ pk'.Perm pk) → Q (.lst (rs.map V.ref)) σ') : CW C (d + 3) (.ref 343) [.ref ro, x] σ Q := by
  refine CW_at (G1.kin (by assumption)) ["_law_picks", "_law_ware", "_law_more", "_law_pick", "_law_make", "_law_beside"] [("dict", .type "dict")] rfl rfl rfl rfl (by rfl) rfl rfl (params := ["_law_rows_here", "_law_wish_here"]) (by intro vs h; rcases vs with _ | ⟨a, _ | ⟨b, _ | ⟨c, _ | ⟨e, _ | ⟨f, _ | ⟨g, _ | ⟨g2, r⟩⟩⟩⟩⟩⟩⟩ <;> first | (exact rfl) | (exact absurd h (by simp))) rfl (vars := ["_law_rows_here", "_law_wish_here", "_law_picks", "_law_ware", "_law_more", "_law_pick", "_law_make", "_law_beside"]) rfl (.arg (.arg (.oth (.oth (.oth (.oth (.oth (.oth (.nil))))))))) (by decide +kernel) (GL_cons (g_dict (by assumption)) GL_nil) ?_
  intro env hsc
  have hrn : ((kvV rv).map (·.1)).Nodup := by rw [kvV_keys]; exact S.rwn
  obtain ⟨oro, hrm⟩ := S.rows
  repeat' walk_at "one"
  rename_i a0 o0 hf0
  refine S_ForQ (fun j m τ => j ≤ rv.length ∧ ∃ (rs : List Addr) (px : V) (Pp : Sto → Prop) (v1 v2 v3 v4 v5 : Option V), Has τ px (.list (rs.map V.ref)) Pp ∧ (∀ r ∈ rs, Fresh σ r ∧ PkR es τ r) ∧ rs.length ≤ 5 ^ j ∧ (∀ p ∈ σ, p ∈ τ) ∧ (∀ pk, PkIn es pk → H1 τ rs (rsT ((rv.take j).map (·.1)) pk)) ∧ m = [some (.ref ro), some x, some px, v1, v2, v3, v4, v5]) (AI_dict (KK.str C.prog C.w) H.ns ?_)
  repeat' walk_at "one"
  refine ⟨ro, oro, kvV rv, rfl, .tail _ hrm, hrn, ⟨Nat.zero_le _, [a0], .lst [.ref a0], fun _ => True, none, none, none, none, none, .lst _, fun r hr => ?_, Nat.le_refl 1, (fun p hp => .tail _ hp), (fun pk _ => ⟨a0, .head _, At.hd⟩), rfl⟩, fun j X hX m τ hI QB hQB => ?_, fun m τ hI => ?_⟩
  · rw [List.mem_singleton.mp hr]
    exact ⟨hf0, [], At.hd, ⟨List.nodup_nil, by decide, fun _ h => by cases h⟩, fun _ h => by cases h⟩
  · obtain ⟨hjl, rs, px, Pp, v1, v2, v3, v4, v5, hpx, hrs, hrl, hkp, hcv, rfl⟩ := hI
    rw [List.getElem?_map, List.getElem?_map] at hX
    obtain ⟨p1, hp1, rfl⟩ := Option.map_eq_some_iff.mp hX
    obtain ⟨⟨w, b⟩, hpe, rfl⟩ := Option.map_eq_some_iff.mp hp1
    have hj := (List.getElem?_eq_some_iff.mp hpe).1
    have hb := List.mem_of_getElem? hpe
    have hrb : vAt (kvV rv) w = some (.ref b) := vAt_mem hrn (List.mem_map.mpr ⟨_, hb, rfl⟩)
    have hen : ((esV (es w)).map (·.1)).Nodup := by rw [esV_keys]; exact (S.eok w).nd
    obtain ⟨ob, hbm⟩ := S.rin _ hb
    have hw4 := h4 w
    have hp5 := pow5 (Nat.le_trans hjl h4r)
    have hro : At τ ro (dS (kvV rv)) := ⟨oro, hkp _ hrm⟩
    show AA C env _ _ _ _ _ (V.str w) _ _ _
    with_reducible refine AA_Name PutC.put ?_
    refine AS_nd fun hnd => ?_
    with_reducible refine S_cons ?_
    refine S_AssignL0 fun mo omo hfm => ?_
    with_reducible refine put_c ?_
    with_reducible refine Then_next ?_
    refine S_cutQ (fun m τ' => ∃ (rs' : List Addr) (v3 v4 v5 : Option V), At τ' mo (.list (rs'.map V.ref)) ∧ (∀ r ∈ rs', Fresh σ r ∧ PkR es τ' r) ∧ rs'.length ≤ 5 ^ (j + 1) ∧ (∀ p ∈ τ, p ∈ τ') ∧ Mid rs.length τ τ' rs rs' (es w) w ∧ m = [some (.ref ro), some x, some px, some (.str w), some (.ref mo), v3, v4, v5]) ?_ ?_
    · intro QC hQC
      refine S_ForQ (fun k m τ' => k ≤ rs.length ∧ ∃ (rs' : List Addr) (v3 v4 v5 : Option V), At τ' mo (.list (rs'.map V.ref)) ∧ (∀ r ∈ rs', r ≠ mo ∧ Fresh σ r ∧ PkR es τ' r) ∧ rs'.length ≤ 5 * k ∧ (∀ p ∈ τ, p ∈ τ') ∧ Mid k τ τ' rs rs' (es w) w ∧ m = [some (.ref ro), some x, some px, some (.str w), some (.ref mo), v3, v4, v5]) (AI_list ?_)
      with_reducible refine AT_lc ?_
      refine ⟨_, _, hpx.mono fun p h => .tail _ h, ⟨Nat.zero_le _, [], _, _, _, At.hd, (fun _ h => by cases h), Nat.le_refl _, (fun p hp => .tail _ hp), (fun i h => absurd h (Nat.not_lt_zero _)), rfl⟩, fun k X hX m τ1 hI QB' hQB' => ?_, fun m τ1 hI => ?_⟩
      · obtain ⟨hkl, rs', v3, v4, v5, hmo, hrs', hl', hkp', hmid, rfl⟩ := hI
        rw [List.getElem?_map] at hX
        obtain ⟨r, hre, rfl⟩ := Option.map_eq_some_iff.mp hX
        have hk := (List.getElem?_eq_some_iff.mp hre).1
        have hrm2 := List.mem_of_getElem? hre
        obtain ⟨hfr, pk, hpk0, pb, pi⟩ := hrs r hrm2
        have hrne : r ≠ mo := hfm.ne hpk0
        have hpn : ((pkV pk).map (·.1)).Nodup := by rw [pkV_keys]; exact pb.nd
        have h12 := pb.len
        with_reducible refine AA_Name PutC.put ?_
        repeat' walk_at "one"
        refine K_app hmo (lenM (n := 5000) (by lia) (by decide)) fun τ2 U2 => ?_
        have keep2 : ∀ p ∈ τ, p ∈ τ2 := fun p hp => U2.keep p (hkp' p hp) (hfm p hp)
        repeat' walk_at "one"
        refine S_ForQ (fun l m τ3 => l ≤ (es w).length ∧ ∃ (rs' : List Addr) (v4 v5 : Option V), At τ3 mo (.list (rs'.map V.ref)) ∧ (∀ r ∈ rs', r ≠ mo ∧ Fresh σ r ∧ PkR es τ3 r) ∧ rs'.length ≤ 5 * k + 1 + l ∧ (∀ p ∈ τ, p ∈ τ3) ∧ Mid k τ τ3 rs rs' (es w) w ∧ H1 τ3 rs' pk ∧ (∀ i e, i < l → (es w)[i]? = some e → H1 τ3 rs' (putP pk w e.1)) ∧ m = [some (.ref ro), some x, some px, some (.str w), some (.ref mo), some (.ref r), v4, v5]) (AI_dict (KK.int C.prog C.w) H.ns ?_)
        have hro2 : At τ2 ro (dS (kvV rv)) := ⟨oro, keep2 _ (hkp _ hrm)⟩
        repeat' walk_at "one"
        refine ⟨b, ob, esV (es w), rfl, keep2 _ (hkp _ hbm), hen, ⟨Nat.zero_le _, rs' ++ [r], _, _, by rw [List.map_append]; exact U2.here, fun r' hr' => ?_, by rw [List.length_append]; exact Nat.succ_le_succ hl', keep2, hmid.up (fun r' h x hx => ⟨List.mem_append_left _ h, U2.at hx (hrs' r' h).1⟩), ⟨r, List.mem_append_right _ (.head _), by obtain ⟨o, h⟩ := hpk0; exact ⟨o, keep2 _ h⟩⟩, (fun i e h => absurd h (Nat.not_lt_zero _)), rfl⟩, fun l X hX m τ3 hI QB2 hQB2 => ?_, fun m τ3 hI => ?_⟩
        · rcases List.mem_append.mp hr' with h | h
          · obtain ⟨h1, h2, h3⟩ := hrs' r' h
            exact ⟨h1, h2, h3.upd U2 h1⟩
          · rw [List.mem_singleton.mp h]
            exact ⟨hrne, hfr, PkR.mono ⟨pk, hpk0, pb, pi⟩ keep2⟩
        · obtain ⟨hll, rs3, v4, v5, hmo3, hrs3, hl3, kp3, hm3, hh3, hd3, rfl⟩ := hI
          rw [List.getElem?_map, List.getElem?_map] at hX
          obtain ⟨e1, he1, rfl⟩ := Option.map_eq_some_iff.mp hX
          obtain ⟨⟨mk, ns⟩, hee, rfl⟩ := Option.map_eq_some_iff.mp he1
          have hl := (List.getElem?_eq_some_iff.mp hee).1
          have hmem := List.mem_of_getElem? hee
          obtain ⟨opk, hpkm⟩ := hpk0
          have hpk3 : At τ3 r (dS (pkV pk)) := ⟨opk, kp3 _ hpkm⟩
          show AA C env _ _ _ _ _ (V.int mk) _ _ _
          with_reducible refine AA_Name PutC.put ?_
          repeat' walk_at "one"
          refine K_dictDS H.ns hpk3 hpn (lenM h12 (by decide)) fun ba oba hfb => ?_
          repeat' walk_at "one"
          refine Set_DS At.hd hpn (lenM h12 (by decide)) fun τ4 U4 => ?_
          rw [putP_V] at U4
          have keep4 : ∀ p ∈ τ3, p ∈ τ4 := fun p hp => U4.keep p (.tail _ hp) (hfb p hp)
          have hmo4 : At τ4 mo (.list (rs3.map V.ref)) := by obtain ⟨o, h⟩ := hmo3; exact ⟨o, keep4 _ h⟩
          have hbne : ba ≠ mo := (hfb.ne hmo3).symm
          repeat' walk_at "one"
          refine K_app hmo4 (lenM (n := 5000) (by lia) (by decide)) fun τ5 U5 => ?_
          repeat' walk_at "one"
          have up5 : ∀ r' ∈ rs3, ∀ x, At τ3 r' x → r' ∈ rs3 ++ [ba] ∧ At τ5 r' x := fun r' h x hx => ⟨List.mem_append_left _ h, U5.at (by obtain ⟨o, hx⟩ := hx; exact ⟨o, keep4 _ hx⟩) (hrs3 r' h).1⟩
          refine hQB2 _ _ (U5.keep _ (keep4 _ (kp3 _ (hkp _ hbm))) (hfm _ (hkp _ hbm))) ⟨hl, rs3 ++ [ba], _, _, by rw [List.map_append]; exact U5.here, fun r' hr' => ?_, by rw [List.length_append]; exact Nat.succ_le_succ hl3, fun p hp => U5.keep p (keep4 _ (kp3 p hp)) (hfm p hp), hm3.up up5, hh3.up up5, (fun i e hi he => ?_), rfl⟩
          · rcases List.mem_append.mp hr' with h | h
            · obtain ⟨h1, h2, h3⟩ := hrs3 r' h
              exact ⟨h1, h2, (h3.mono keep4).upd U5 h1⟩
            · rw [List.mem_singleton.mp h]
              exact ⟨hbne, fun p hp => hfb p (kp3 _ (hkp p hp)), PkR.upd ⟨_, U4.here, pb.put S pi hmem, pi.put hmem⟩ U5 hbne⟩
          · rcases Nat.lt_succ_iff_lt_or_eq.mp hi with h | rfl
            · exact (hd3 i e h he).up up5
            · rw [hee] at he; cases he
              exact ⟨ba, List.mem_append_right _ (.head _), U5.at U4.here hbne⟩
        · obtain ⟨hll, rs3, v4, v5, hmo3, hrs3, hl3, kp3, hm3, hh3, hd3, rfl⟩ := hI
          rw [List.length_map, List.length_map] at hl3
          repeat' walk_at "one"
          exact hQB' _ _ (hpx.mono kp3).p ⟨hk, rs3, _, _, _, hmo3, hrs3, by lia, kp3, hm3.next hnd hre hpk0 hh3 (by rw [List.length_map, List.length_map] at hd3; exact hd3), rfl⟩
      · obtain ⟨hkl, rs', v3, v4, v5, hmo, hrs', hl', hkp', hmid, rfl⟩ := hI
        rw [List.length_map] at hl'
        exact hQC _ _ ⟨rs', _, _, _, hmo, fun r hr => (hrs' r hr).2, by rw [Nat.pow_succ]; lia, hkp', by rw [List.length_map] at hmid; exact hmid, rfl⟩
    rintro m τ' ⟨rs', v3, v4, v5, hmo, hrs', hl', hkp', hmid, rfl⟩
    obtain ⟨om, hmm⟩ := hmo
    repeat' walk_at "one"
    exact hQB _ _ (hkp' _ (hkp _ hrm)) ⟨hj, rs', .ref mo, _, _, _, _, _, _, .refL hmm, hrs', hl', (fun p hp => hkp' _ (hkp p hp)), (fun pk pi => hmid.step S.rwn hpe hcv pi), rfl⟩
  obtain ⟨hjl, rs, px, Pp, v1, v2, v3, v4, v5, hpx, hrs, hrl, hkp, hcv, rfl⟩ := hI
  rw [List.length_map, List.length_map] at hrl
  have hp5 := pow5 h4r
  refine AS_nd fun hnd => ?_
  have hrz : (rs.map V.ref).length ≤ sizeLine := lenM (Nat.le_trans hrl hp5) (by decide)
  have S' : Rw _ ro rv es := S.frame fun a _ x ⟨o, h⟩ => ⟨o, hkp _ h⟩
  repeat' walk_at "one"
  refine AT_CompF1 "_law_pick" ["_law_rows_here", "_law_wish_here"] [("_law_meets", .ref 338)] (by rw [hsc]; decide +kernel) (GL_cons (g__law_meets H) GL_nil) (.cons LkC.lk (.cons LkC.lk .nil)) (AI_list ?_)
  with_reducible refine AT_lc ?_
  refine ⟨_, _, hpx, hrz, fun env' he => CompL_keep (Gd := fun X => ∀ r, X = .ref r → PkM es wi τ r) (Bd := fun X => ∀ r, X = .ref r → ¬ PkM es wi τ r) (comp_local he (by decide +kernel)) hpx.p _ _ _ (fun X hX K hK => ?_) (fun X hX K hK => ?_) fun ys hys hg hbd => ?_⟩
  · obtain ⟨r, hr, rfl⟩ := List.mem_map.mp hX
    obtain ⟨_, pk, hpk, pb, pi⟩ := hrs r hr
    obtain ⟨N, R, hN, hB, hRw, hRl⟩ := pk_agenda S h4r ok pb pi
    repeat' walk_at "one"
    refine fnc (w__law_meets H S' (hx.mono hkp) ok hpk pb pi hN hB hRw hRl ?_)
    exact TX_bool (hK _ (fun e r' e' => by cases e'; exact ⟨pk, hpk, pb, pi, N, R, hN, hB, hRw, hRl, e⟩) fun e r' e' h => by cases e'; exact PkM.not hnd hpk hB e h)
  · with_reducible refine AT_lc ?_
    exact hK
  obtain ⟨rs', rfl, hsub⟩ := refs_of hys
  rw [List.nil_append]
  repeat' walk_at "one"
  refine q rs' _ hkp (fun r hr => ⟨(hrs r (hsub.subset hr)).1, hg _ (List.mem_map.mpr ⟨r, hr, rfl⟩) r rfl⟩) (Nat.le_trans hsub.length_le (Nat.le_trans hrl hp5)) fun pk v => ?_
  have hpe := rsT_perm S v.pb.nd v.pi
  obtain ⟨r, hr, hat⟩ := hcv pk v.pi
  rw [List.length_map, List.length_map, List.take_length] at hat
  rcases hbd _ (List.mem_map.mpr ⟨r, hr, rfl⟩) with h | h
  · obtain ⟨r', h1, e⟩ := List.mem_map.mp h
    cases e
    exact ⟨_, h1, _, hat, hpe⟩
  · exact absurd ⟨_, hat, v.pb.perm hpe, (fun p hp => v.pi p (hpe.mem_iff.mp hp)), v.mt.perm (((hpe.map _).nodup_iff).mpr v.pb.nd) v.pb.nd hpe⟩ (h r rfl)
end

section
variable {C : Cx} {d : Nat} {σ : Sto} {Q : V → Sto → Prop} {i k ro : Addr} {kv rv : List (Str × Addr)} {es : Str → List (Int × List Need)}
noncomputable def part17 : Unit := ()
theorem w__law_ahead (H : G1 C) (S : Rw σ ro rv es) {x : V} {wi : List Need} {Px : Sto → Prop} (hx : Has σ x (.list (wi.map needV)) Px) (ok : WishOk wi) {p1 p2 : Addr} {pk1 pk2 : List (Str × Int)}
    (h1 : At σ p1 (dS (pkV pk1))) (pb1 : PkB pk1) (pi1 : PkIn es pk1) (h2 : At σ p2 (dS (pkV pk2))) (pb2 : PkB pk2) (M2 : MtB es wi pk2)
    {N : Nat} {R : List Str} (hN : N ≤ 60) (hB : Bf (nx es pk1) N [] (wi.map (·.1)) R) (m1 : meetsB es wi pk1 R = true) (q : Q (.bool (ahead (pI pk1) (pI pk2) R)) σ) :
    CW C (d + 2) (.ref 350) [.ref ro, x, .ref p1, .ref p2] σ Q := by
  refine CW_at (G1.kin (by assumption)) ["_law_ware"] [("_law_agenda", .ref 331)] rfl rfl rfl rfl (by rfl) rfl rfl (params := ["_law_rows_here", "_law_wish_here", "_law_one", "_law_other"]) (by intro vs h; rcases vs with _ | ⟨a, _ | ⟨b, _ | ⟨c, _ | ⟨e, _ | ⟨f, _ | ⟨g, _ | ⟨g2, r⟩⟩⟩⟩⟩⟩⟩ <;> first | (exact rfl) | (exact absurd h (by simp))) rfl (vars := ["_law_rows_here", "_law_wish_here", "_law_one", "_law_other", "_law_ware"]) rfl (.arg (.arg (.arg (.arg (.oth (.nil)))))) (by decide +kernel) (GL_cons (g__law_agenda (by assumption)) GL_nil) ?_
  intro env hsc
  clear hsc
  have hn1 : ((pkV pk1).map (·.1)).Nodup := by rw [pkV_keys]; exact pb1.nd
  have hn2 : ((pkV pk2).map (·.1)).Nodup := by rw [pkV_keys]; exact pb2.nd
  have hE : ∀ w, ((es w).map (·.1)).Nodup := fun w => (S.eok w).nd
  repeat' walk_at "one"
  refine S_ForR (fun j m τ => τ = σ ∧ (∀ i y, i < j → R[i]? = some y → pI pk1 y = pI pk2 y) ∧ ahead (pI pk1) (pI pk2) (R.drop j) = ahead (pI pk1) (pI pk2) R ∧ ∃ v5, m = [some (.ref ro), some x, some (.ref p1), some (.ref p2), v5]) (AI_list ?_)
  repeat' walk_at "one"
  refine fnc (w__law_agenda H S hx ok h1 pb1 pi1 (Nat.le_trans hN (by decide)) hB ?_)
  refine ⟨_, _, .lst _, ⟨rfl, (fun i y h => absurd h (Nat.not_lt_zero _)), rfl, _, rfl⟩, fun j X hX m τ hI QB hQB hQR => ?_, fun m τ hI => ?_⟩
  · obtain ⟨rfl, hag, hah, v5, rfl⟩ := hI
    rw [List.getElem?_map] at hX
    obtain ⟨w, hwe, rfl⟩ := Option.map_eq_some_iff.mp hX
    obtain ⟨a, ha⟩ := meets_mem m1 (List.mem_of_getElem? hwe)
    obtain ⟨b, hb⟩ := nw_has hE pb1 pi1 hB M2 hag hwe
    have hv1 : vAt (pkV pk1) w = some (.int a) := vAt_mem hn1 (List.mem_map.mpr ⟨_, ha, rfl⟩)
    have hv2 : vAt (pkV pk2) w = some (.int b) := vAt_mem hn2 (List.mem_map.mpr ⟨_, hb, rfl⟩)
    rw [drop_at hwe] at hah
    with_reducible refine AA_Name PutC.put ?_
    by_cases hab : a = b
    · subst hab
      rw [ahead_eq _ ((pI_at pb1.nd ha).trans (pI_at pb2.nd hb).symm)] at hah
      repeat' walk_at "one"
      refine hQB _ _ trivial ⟨rfl, fun i y hi hy => ?_, hah, _, rfl⟩
      rcases Nat.lt_succ_iff_lt_or_eq.mp hi with h | rfl
      · exact hag i y h hy
      · rw [hwe] at hy; cases hy; exact (pI_at pb1.nd ha).trans (pI_at pb2.nd hb).symm
    · rw [ahead_ne _ (pI_at pb1.nd ha) (pI_at pb2.nd hb) hab] at hah
      repeat' walk_at "one"
      · exact hQR _ _ _ (qB q hah.symm)
      · rename_i hb'; rw [decide_eq_false hab] at hb'; cases hb'
  · obtain ⟨rfl, hag, hah, v5, rfl⟩ := hI
    rw [List.length_map, List.drop_length] at hah
    repeat' walk_at "one"
    exact qB q hah.symm
end

section
variable {C : Cx} {d : Nat} {σ : Sto} {Q : V → Sto → Prop} {i k : Addr} {kv : List (Str × Addr)} {es : Str → List (Int × List Need)} {wi : List Need} {ps : List (Str × Int)} {w : Str}
inductive Src
  | wish (k : Nat)
  | need (o : Str) (mk : Int) (k : Nat)
noncomputable def srcV : Src → V
  | .wish k => .tup [.str "wish", .int (k : Int)]
  | .need o mk k => .tup [.str "need", .str o, .int mk, .int (k : Int)]
inductive SrcOk (es : Str → List (Int × List Need)) (wi : List Need) (ps : List (Str × Int)) (w : Str) : Src → Int → Int → Prop
  | wish {k : Nat} {lo hi : Int} : wi[k]? = some (w, lo, hi) → SrcOk es wi ps w (.wish k) lo hi
  | need {o : Str} {mk : Int} {k : Nat} {ns : List Need} {lo hi : Int} : (o, mk) ∈ ps → (mk, ns) ∈ es o → ns[k]? = some (w, lo, hi) → SrcOk es wi ps w (.need o mk k) lo hi
noncomputable def part18 : Unit := ()
theorem w_is_number (H : G1 C) {k n : Int} (h0 : 0 ≤ k) (h1 : k < n) (q : Q (.bool true) σ) : CW C (d + 1) (.ref 163) [.int k, .int n] σ Q := by
  refine CW_at (G1.kin (by assumption)) [] [("isinstance", .bi "isinstance"), ("int", .type "int"), ("bool", .type "bool")] rfl rfl rfl rfl (by rfl) rfl rfl (params := ["thing", "many"]) (by intro vs h; rcases vs with _ | ⟨a, _ | ⟨b, _ | ⟨c, _ | ⟨e, _ | ⟨f, _ | ⟨g, _ | ⟨g2, r⟩⟩⟩⟩⟩⟩⟩ <;> first | (exact rfl) | (exact absurd h (by simp))) rfl (vars := ["thing", "many"]) rfl (.arg (.arg (.nil))) (by decide +kernel) (GL_cons (g_isinstance (by assumption)) (GL_cons (g_int (by assumption)) (GL_cons (g_bool (by assumption)) GL_nil))) ?_
  intro env hsc
  clear hsc
  repeat' walk_at "one"
  all_goals first | (clear q; walk_at "no") | (refine qB q ?_; simp; lia)
theorem w_is_granted (H : G1 C) {ga : Addr} (hg : At σ ga (dS (pkV ps))) (pb : PkB ps) {mk : Int} (hm : (w, mk) ∈ ps) (q : Q (.bool true) σ) : CW C (d + 2) (.ref 170) [.ref ga, .str w, .int mk] σ Q := by
  refine CW_at (G1.kin (by assumption)) [] [("is_ware", .ref 123), ("is_make", .ref 130)] rfl rfl rfl rfl (by rfl) rfl rfl (params := ["granted", "ware", "make"]) (by intro vs h; rcases vs with _ | ⟨a, _ | ⟨b, _ | ⟨c, _ | ⟨e, _ | ⟨f, _ | ⟨g, _ | ⟨g2, r⟩⟩⟩⟩⟩⟩⟩ <;> first | (exact rfl) | (exact absurd h (by simp))) rfl (vars := ["granted", "ware", "make"]) rfl (.arg (.arg (.arg (.nil)))) (by decide +kernel) (GL_cons (g_is_ware (by assumption)) (GL_cons (g_is_make (by assumption)) GL_nil)) ?_
  intro env hsc
  clear hsc
  obtain ⟨hw, h1, h2⟩ := pb.ok _ hm
  have hn : ((pkV ps).map (·.1)).Nodup := by rw [pkV_keys]; exact pb.nd
  have hv : vAt (pkV ps) w = some (.int mk) := vAt_mem hn (List.mem_map.mpr ⟨_, hm, rfl⟩)
  repeat' walk_at "one"
  obtain ⟨og, hgm⟩ := hg
  refine K_get1 (KK.str C.prog C.w) H.ns hgm hn ?_
  rw [hv, Option.getD_some]
  repeat' walk_at "one"
  exact qB q (by simp)
theorem eqS_f {a b : Str} {P : Prop} (h : ¬ a = b) (hb : (a == b) = true) : P := absurd (eq_of_beq hb) h
theorem w_stretch_of (H : G1 C) (S : Shp σ i k kv es) {x : V} {Px : Sto → Prop} (hx : Has σ x (.list (wi.map needV)) Px) (h8 : wi.length ≤ 8) {ga : Addr} (hg : At σ ga (dS (pkV ps))) (pb : PkB ps) {s : Src} {lo hi : Int} (hs : SrcOk es wi ps w s lo hi) (q : Q (.tup [.int lo, .int hi]) σ) :
    CW C (d + 4) (.ref 177) [.ref i, x, .ref ga, .str w, srcV s] σ Q := by
  refine CW_at (G1.kin (by assumption)) ["need", "needs"] [("isinstance", .bi "isinstance"), ("tuple", .type "tuple"), ("len", .bi "len"), ("str", .type "str"), ("is_number", .ref 163), ("is_granted", .ref 170)] rfl rfl rfl rfl (by rfl) rfl rfl (params := ["shop", "wish", "granted", "ware", "source"]) (by intro vs h; rcases vs with _ | ⟨a, _ | ⟨b, _ | ⟨c, _ | ⟨e, _ | ⟨f, _ | ⟨g, _ | ⟨g2, r⟩⟩⟩⟩⟩⟩⟩ <;> first | (exact rfl) | (exact absurd h (by simp))) rfl (vars := ["shop", "wish", "granted", "ware", "source", "need", "needs"]) rfl (.arg (.arg (.arg (.arg (.arg (.oth (.oth (.nil)))))))) (by decide +kernel) (GL_cons (g_isinstance (by assumption)) (GL_cons (g_tuple (by assumption)) (GL_cons (g_len (by assumption)) (GL_cons (g_str (by assumption)) (GL_cons (g_is_number (by assumption)) (GL_cons (g_is_granted (by assumption)) GL_nil)))))) ?_
  intro env hsc
  clear hsc
  obtain ⟨dx, hin⟩ := S.inst
  have hwz : (wi.map needV).length = wi.length := List.length_map _
  have e1 : ¬ (Str.ofString "need" = Str.ofString "wish") := by decide
  have e2 : ¬ (Str.ofString "need" = Str.ofString "pick") := by decide
  have e3 : ¬ (Str.ofString "wish" = Str.ofString "pick") := by decide
  have e4 : ¬ (Str.ofString "wish" = Str.ofString "need") := by decide
  cases hs with
  | @wish kk lo hi hk =>
    have hlt := (List.getElem?_eq_some_iff.mp hk).1
    have hkm : (wi.map needV)[kk]? = some (needV (w, lo, hi)) := by rw [List.getElem?_map, hk]; rfl
    show AS C env _ _ _ _ _ [some (V.ref i), some x, some (V.ref ga), some (V.str w), some (V.tup [.str "wish", .int (kk : Int)]), none, none] _ _
    repeat' walk_at "one"
    refine K_lenL hx (lenM h8 (by decide)) ?_
    rw [hwz]
    repeat' walk_at "one"
    refine fnc (w_is_number H (Int.natCast_nonneg kk) (Int.ofNat_lt.mpr hlt) ?_)
    repeat' walk_at "one"
    refine G_nat hx (Nat.lt_trans (Nat.lt_of_lt_of_le hlt h8) (by decide)) hkm ?_
    unfold needV
    repeat' walk_at "one"
    all_goals first | exact q | (exfalso; simp_all; done)
  | @need o mk kk ns lo hi h1 h2 hk =>
    have hlt := (List.getElem?_eq_some_iff.mp hk).1
    have hnl : ns.length ≤ 6 := (S.eok o).2.2 _ h2
    have hnz : (ns.map needV).length = ns.length := List.length_map _
    have hkm : (ns.map needV)[kk]? = some (needV (w, lo, hi)) := by rw [List.getElem?_map, hk]; rfl
    obtain ⟨ho, hb1, hb2⟩ := pb.ok _ h1
    show AS C env _ _ _ _ _ [some (V.ref i), some x, some (V.ref ga), some (V.str w), some (V.tup [.str "need", .str o, .int mk, .int (kk : Int)]), none, none] _ _
    repeat' walk_at "one"
    all_goals try first | (refine eqS_f e1 ?_; assumption) | (refine eqS_f e2 ?_; assumption)
    refine fnc (w_is_granted H hg pb h1 ?_)
    repeat' walk_at "one"
    refine fnc (w_needs H S ho hb1 hb2 h2 (.inl ?_))
    repeat' walk_at "one"
    rw [hnz]
    refine fnc (w_is_number H (Int.natCast_nonneg kk) (Int.ofNat_lt.mpr hlt) ?_)
    repeat' walk_at "one"
    refine G_nat (.lst _) (Nat.lt_trans (Nat.lt_of_lt_of_le hlt hnl) (by decide)) hkm ?_
    unfold needV
    repeat' walk_at "one"
    all_goals first | exact q | (exfalso; simp_all; done)
end

section
variable {C : Cx} {d : Nat} {σ : Sto} {Q : V → Sto → Prop} {i k : Addr} {kv : List (Str × Addr)} {es : Str → List (Int × List Need)} {wi : List Need} {ps : List (Str × Int)} {w : Str}
theorem Shp.c1 (S : Shp σ i k kv es) (p : Addr × Obj × AO) : Shp (p :: σ) i k kv es := S.frame fun _ _ _ h => h.cons _
theorem pairs_V (ps : List (Str × Int)) : ps.map prV = (pkV ps).map fun p => V.tup [(KK.str C.prog C.w).v p.1, p.2] := by rw [List.map_map]; rfl
theorem foldP_id {K : Type} [DecidableEq K] {kvs : List (K × V)} (hn : (kvs.map (·.1)).Nodup) : foldP kvs = kvs := by
  unfold foldP
  have : ∀ (l acc : List (K × V)), ((acc ++ l).map (·.1)).Nodup → l.foldl (fun acc p => putV acc p.1 p.2) acc = acc ++ l := by
    intro l
    induction l with
    | nil => intro acc _; rw [List.append_nil]; rfl
    | cons p l ih =>
      intro acc h
      rw [List.foldl_cons, putV_new, ih, List.append_assoc]
      · rfl
      · rw [List.append_assoc]; exact h
      · intro hm
        rw [List.map_append] at h
        exact (List.nodup_append.mp h).2.2 _ hm _ (.head _) rfl
  exact this kvs [] hn
theorem K_dictPk {x : V} {P : Sto → Prop} (h : Has σ x (.list (ps.map prV)) P) (pb : PkB ps) (q : ∀ a o, Fresh σ a → Q (.ref a) ((a, o, dS (pkV ps)) :: σ)) : KW C d (.type "dict") [x] σ Q := by
  rw [pairs_V (C := C)] at h
  refine K_dictP (KK.str C.prog C.w) h (by rw [List.length_map]; exact Nat.le_trans pb.len (by decide)) fun a o hf => ?_
  rw [foldP_id (by rw [pkV_keys]; exact pb.nd)]
  exact q a o hf
theorem G_lastE {xs : List V} {X : V} (q : Q X σ) : SubR C d (.lst (xs ++ [X])) (.int (-1)) σ Q := by
  have hl : (xs ++ [X]).length = xs.length + 1 := by rw [List.length_append]; rfl
  refine G_listN (.lst _) (by decide) (by rw [hl]; lia) (by decide) ?_ q
  rw [hl, show (-1 + ((xs.length + 1 : Nat) : Int)).toNat = xs.length by lia]
  exact List.getElem?_concat_length
theorem enumN_at {ns : List Need} {j : Nat} {X : V} (h : (enumL (ns.map needV))[j]? = some X) : ∃ n, ns[j]? = some n ∧ X = .tup [.int (j : Int), needV n] := by
  simp only [enumL, List.getElem?_map, List.getElem?_zipIdx, Nat.zero_add] at h
  cases e : ns[j]? with
  | none => rw [e] at h; simp at h
  | some n => rw [e] at h; simp at h; exact ⟨n, rfl, h.symm⟩
noncomputable def part19 : Unit := ()
theorem w_left_by (H : G1 C) (S : Shp σ i k kv es) (hw : Ware w) {ss : List (Int × Int)} (hl : ss.length ≤ 100) (q : ∀ gs : List Int, gs.length ≤ 8 → Q (.lst (gs.map V.int)) σ) :
    CW C (d + 3) (.ref 182) [.ref i, .str w, .lst (ss.map fun p => .tup [.int p.1, .int p.2])] σ Q := by
  refine CW_freeze (CW_drop ?_)
  refine CW_at (G1.kin (by assumption)) ["found", "make"] [("reversed", .type "reversed"), ("all", .bi "all")] rfl rfl rfl rfl (by rfl) rfl rfl (params := ["shop", "ware", "stretches"]) (by intro vs h; rcases vs with _ | ⟨a, _ | ⟨b, _ | ⟨c, _ | ⟨e, _ | ⟨f, _ | ⟨g, _ | ⟨g2, r⟩⟩⟩⟩⟩⟩⟩ <;> first | (exact rfl) | (exact absurd h (by simp))) rfl (vars := ["shop", "ware", "stretches", "found", "make"]) rfl (.arg (.arg (.arg (.oth (.oth (.nil)))))) (by decide +kernel) (GL_cons (g_reversed (by assumption)) (GL_cons (g_all (by assumption)) GL_nil)) ?_
  intro env hsc
  obtain ⟨dx, hin⟩ := S.inst
  have h8 := (S.eok w).2.1
  have hsl : (sortI ((es w).map (·.1))).length = (es w).length := by rw [(sortI_perm _).length_eq, List.length_map]
  with_reducible refine S_cons ?_
  refine S_AssignL0 fun fa ofa hff => ?_
  with_reducible refine put_c ?_
  with_reducible refine Then_next ?_
  with_reducible refine S_cons ?_
  refine S_ForQ (fun j m τ => j ≤ (es w).length ∧ ∃ (o : Obj) (gs : List Int) (v : Option V), gs.length ≤ j ∧ τ = (fa, o, .list (gs.map V.int)) :: σ ∧ m = [some (.ref i), some (.str w), some (.lst (ss.map fun p => .tup [.int p.1, .int p.2])), some (.ref fa), v]) (AI_rev ?_)
  with_reducible refine AT_gc ?_
  refine ⟨rfl, ?_⟩
  repeat' walk_at "one"
  refine fnc (w_makes H (S.c1 _) hw (.inl ?_))
  repeat' walk_at "one"
  refine ⟨_, _, _, rfl, .lst _, ⟨Nat.zero_le _, ofa, [], _, Nat.le_refl _, rfl, rfl⟩, fun j X hX m τ hI QB hQB => ?_, fun m τ hI => ?_⟩
  · obtain ⟨hjl, o, gs, v, hgl, rfl, rfl⟩ := hI
    have hj : j < (es w).length := by
      have := (List.getElem?_eq_some_iff.mp hX).1
      rw [List.length_reverse, List.length_map, hsl] at this; exact this
    obtain ⟨mk, _, rfl⟩ := List.mem_map.mp (List.mem_reverse.mp (List.mem_of_getElem? hX))
    with_reducible refine AA_Name PutC.put ?_
    with_reducible refine S_cons ?_
    with_reducible refine S_If ?_
    refine AB.mono' (P := fun b τ => τ = (fa, o, .list (gs.map V.int)) :: σ) ?_ fun b τ hbt => ?_
    · repeat' walk_at "one"
      refine AT_CompF2 "low" "high" ["make"] [("within", .ref 144)] (by rw [hsc]; decide +kernel) (GL_cons (g_within H) GL_nil) (.cons LkC.lk .nil) (AI_list ?_)
      with_reducible refine AT_lc ?_
      refine ⟨_, _, .lst _, lenM hl (by decide), fun env' he => ?_⟩
      rw [show (ss.map fun p => V.tup [.int p.1, .int p.2]) = (ss.map fun p => (V.int p.1, V.int p.2)).map fun p => V.tup [p.1, p.2] by rw [List.map_map]; rfl]
      refine CompL_rel2 (Gd := fun p Y => ∃ b, Y = .bool b ∧ True) (comp_local he (by decide +kernel)) (comp_local he (by decide +kernel)) trivial _ _ _ _ (fun p hp K hK => ?_) fun ys hys => ?_
      · obtain ⟨⟨lo, hi⟩, hm, rfl⟩ := List.mem_map.mp hp
        repeat' walk_at "one"
        refine fnc (w_within H ?_)
        exact hK _ ⟨_, rfl, trivial⟩
      obtain ⟨bs, rfl, _⟩ := f2_map (f := V.bool) (g := fun _ _ => True) (fun p Y h => h) hys
      rw [List.nil_append]
      repeat' walk_at "one"
      refine K_all (.lst _) ?_
      repeat' walk_at "one"
      all_goals rfl
    subst hbt
    refine ⟨fun _ => ?_, fun _ => ?_⟩
    · repeat' walk_at "one"
      refine K_apph (lenM (n := 8) (by lia) (by decide)) fun o' => ?_
      repeat' walk_at "one"
      exact hQB _ _ trivial ⟨hj, o', gs ++ [mk], _, by rw [List.length_append]; exact Nat.succ_le_succ hgl, by rw [List.map_append]; rfl, rfl⟩
    · repeat' walk_at "one"
      exact hQB _ _ trivial ⟨hj, o, gs, _, Nat.le_succ_of_le hgl, rfl, rfl⟩
  · obtain ⟨hjl, o, gs, v, hgl, rfl, rfl⟩ := hI
    repeat' walk_at "one"
    refine ⟨_, List.Sublist.refl _, fa, o, _, σ, rfl, rfl, q gs ?_⟩
    rw [List.length_reverse, List.length_map, hsl] at hgl
    lia
theorem w_clash (H : G1 C) (S : Shp σ i k kv es) {ps0 : List (Str × Int)} {mk : Int} (pb : PkB (ps0 ++ [(w, mk)])) {ns : List Need} (hm : (mk, ns) ∈ es w)
    (q1 : (∃ n ∈ ns, ∃ m, (n.1, m) ∈ ps0 ++ [(w, mk)] ∧ ¬ (n.2.1 ≤ m ∧ m ≤ n.2.2)) → ∀ xs, Q (.tup xs) σ) (q2 : (∀ n ∈ ns, ∀ m, (n.1, m) ∈ ps0 ++ [(w, mk)] → n.2.1 ≤ m ∧ m ≤ n.2.2) → Q .none σ) :
    CW C (d + 4) (.ref 194) [.ref i, .lst ((ps0 ++ [(w, mk)]).map prV)] σ Q := by
  refine CW_drop ?_
  refine CW_at (G1.kin (by assumption)) ["picked", "ware", "make", "k", "need"] [("dict", .type "dict"), ("enumerate", .type "enumerate"), ("within", .ref 144)] rfl rfl rfl rfl (by rfl) rfl rfl (params := ["shop", "pairs"]) (by intro vs h; rcases vs with _ | ⟨a, _ | ⟨b, _ | ⟨c, _ | ⟨e, _ | ⟨f, _ | ⟨g, _ | ⟨g2, r⟩⟩⟩⟩⟩⟩⟩ <;> first | (exact rfl) | (exact absurd h (by simp))) rfl (vars := ["shop", "pairs", "picked", "ware", "make", "k", "need"]) rfl (.arg (.arg (.oth (.oth (.oth (.oth (.oth (.nil)))))))) (by decide +kernel) (GL_cons (g_dict (by assumption)) (GL_cons (g_enumerate (by assumption)) (GL_cons (g_within (by assumption)) GL_nil))) ?_
  intro env hsc
  clear hsc
  obtain ⟨dx, hin⟩ := S.inst
  obtain ⟨hw, h1, h2⟩ := pb.ok (w, mk) (List.mem_append_right _ (.head _))
  have hpn : ((pkV (ps0 ++ [(w, mk)])).map (·.1)).Nodup := by rw [pkV_keys]; exact pb.nd
  have hnl := (S.eok w).2.2 _ hm
  have hpm : ∀ {x : Str} {m : Int}, (x, m) ∈ ps0 ++ [(w, mk)] ↔ vAt (pkV (ps0 ++ [(w, mk)])) x = some (.int m) := fun {x m} => ⟨fun h => vAt_mem hpn (List.mem_map.mpr ⟨_, h, rfl⟩), fun h => by
    obtain ⟨p, hp, e⟩ := List.mem_map.mp (vAt_in h)
    cases e; exact hp⟩
  generalize hpe : ps0 ++ [(w, mk)] = pl at *
  repeat' walk_at "one"
  refine K_dictPk (.lst _) pb fun pa opa hfp => ?_
  repeat' walk_at "one"
  refine S_AssignT ?_
  repeat' walk_at "one"
  rw [← hpe, List.map_append]
  refine G_lastE ?_
  rw [← List.map_append, hpe]
  unfold prV
  with_reducible refine AAs2 ?_
  with_reducible refine AA_Name PutC.put ?_
  with_reducible refine AA_Name PutC.put ?_
  repeat' walk_at "one"
  refine S_ForR (fun j m τ => τ = (pa, opa, dS (pkV pl)) :: σ ∧ (∀ n ∈ ns.take j, ∀ m, (n.1, m) ∈ pl → n.2.1 ≤ m ∧ m ≤ n.2.2) ∧ ∃ v1 v2, m = [some (.ref i), some (.lst (pl.map prV)), some (.ref pa), some (.str w), some (.int mk), v1, v2]) (AI_enum ?_)
  with_reducible refine AT_gc ?_
  refine ⟨rfl, ?_⟩
  repeat' walk_at "one"
  refine fnc (w_needs H (S.c1 _) hw h1 h2 hm (.inl ?_))
  repeat' walk_at "one"
  refine ⟨_, _, _, rfl, .lst _, ⟨rfl, (fun n hn => by cases hn), _, _, rfl⟩, fun j X hX m τ hI QB hQB hQR => ?_, fun m τ hI => ?_⟩
  · obtain ⟨rfl, hall, v1, v2, rfl⟩ := hI
    obtain ⟨⟨nm, lo, hi⟩, hne, rfl⟩ := enumN_at hX
    have hnm := List.mem_of_getElem? hne
    have hnext : (∀ m, (nm, m) ∈ pl → lo ≤ m ∧ m ≤ hi) → ∀ n ∈ ns.take (j + 1), ∀ m, (n.1, m) ∈ pl → n.2.1 ≤ m ∧ m ≤ n.2.2 := fun h n hn => by
      rw [List.take_add_one, hne] at hn
      rcases List.mem_append.mp hn with h' | h'
      · exact hall n h'
      · rw [List.mem_singleton.mp h']; exact h
    with_reducible refine AAs2 ?_
    with_reducible refine AA_Name PutC.put ?_
    with_reducible refine AA_Name PutC.put ?_
    unfold needV
    repeat' walk_at "one"
    refine C_inDS H.ns (by walk_at "at") hpn ?_
    cases hv : vAt (pkV pl) nm with
    | none =>
      repeat' walk_at "one"
      exact hQB _ _ trivial ⟨rfl, hnext (fun m h => by rw [hpm.mp h] at hv; cases hv), _, _, rfl⟩
    | some Y =>
      obtain ⟨⟨n0, m0⟩, hmem, e⟩ := List.mem_map.mp (vAt_in hv)
      cases e
      repeat' walk_at "one"
      refine fnc (w_within H ?_)
      by_cases hb : lo ≤ m0 ∧ m0 ≤ hi
      · rw [decide_eq_true hb.1, decide_eq_true hb.2]
        repeat' walk_at "one"
        refine hQB _ _ trivial ⟨rfl, hnext fun m h => ?_, _, _, rfl⟩
        rw [hpm.mp h] at hv; cases hv; exact hb
      · rw [show (decide (lo ≤ m0) && decide (m0 ≤ hi)) = false by
          cases e1 : decide (lo ≤ m0) with
          | false => rfl
          | true =>
            cases e2 : decide (m0 ≤ hi) with
            | false => rfl
            | true => exact absurd ⟨of_decide_eq_true e1, of_decide_eq_true e2⟩ hb]
        repeat' walk_at "one"
        exact hQR _ _ _ ⟨σ, List.sublist_cons_self _ _, q1 ⟨_, hnm, m0, hmem, hb⟩ _⟩
  · obtain ⟨rfl, hall, v1, v2, rfl⟩ := hI
    repeat' walk_at "one"
    refine ⟨σ, List.sublist_cons_self _ _, q2 ?_⟩
    have hl : (enumL (ns.map needV)).length = ns.length := by simp [enumL]
    rw [hl, List.take_length] at hall
    exact hall
theorem w_outside (H : G1 C) (S : Shp σ i k kv es) {x : V} {Px : Sto → Prop} (hx : Has σ x (.list (wi.map needV)) Px) (h8 : wi.length ≤ 8) (pb : PkB ps) {mk : Int} {ss : List Src} (hss : ∀ s ∈ ss, ∃ lo hi, SrcOk es wi ps w s lo hi)
    (q1 : (∃ s ∈ ss, ∃ lo hi, SrcOk es wi ps w s lo hi ∧ ¬ (lo ≤ mk ∧ mk ≤ hi)) → ∀ xs, Q (.tup xs) σ) (q2 : (∀ s ∈ ss, ∃ lo hi, SrcOk es wi ps w s lo hi ∧ lo ≤ mk ∧ mk ≤ hi) → Q .none σ) :
    CW C (d + 5) (.ref 201) [.ref i, x, .lst (ps.map prV), .str w, .int mk, .lst (ss.map srcV)] σ Q := by
  refine CW_drop ?_
  refine CW_at (G1.kin (by assumption)) ["granted", "source", "low", "high"] [("dict", .type "dict"), ("stretch_of", .ref 177), ("within", .ref 144)] rfl rfl rfl rfl (by rfl) rfl rfl (params := ["shop", "wish", "pairs", "ware", "make", "sources"]) (by intro vs h; rcases vs with _ | ⟨a, _ | ⟨b, _ | ⟨c, _ | ⟨e, _ | ⟨f, _ | ⟨g, _ | ⟨g2, r⟩⟩⟩⟩⟩⟩⟩ <;> first | (exact rfl) | (exact absurd h (by simp))) rfl (vars := ["shop", "wish", "pairs", "ware", "make", "sources", "granted", "source", "low", "high"]) rfl (.arg (.arg (.arg (.arg (.arg (.arg (.oth (.oth (.oth (.oth (.nil))))))))))) (by decide +kernel) (GL_cons (g_dict (by assumption)) (GL_cons (g_stretch_of (by assumption)) (GL_cons (g_within (by assumption)) GL_nil))) ?_
  intro env hsc
  clear hsc
  repeat' walk_at "one"
  refine K_dictPk (.lst _) pb fun pa opa hfp => ?_
  repeat' walk_at "one"
  refine S_ForR (fun j m τ => τ = (pa, opa, dS (pkV ps)) :: σ ∧ (∀ s ∈ ss.take j, ∃ lo hi, SrcOk es wi ps w s lo hi ∧ lo ≤ mk ∧ mk ≤ hi) ∧ ∃ v1 v2 v3, m = [some (.ref i), some x, some (.lst (ps.map prV)), some (.str w), some (.int mk), some (.lst (ss.map srcV)), some (.ref pa), v1, v2, v3]) (AI_list ?_)
  with_reducible refine AT_lc ?_
  refine ⟨_, _, .lst _, ⟨rfl, (fun n hn => by cases hn), _, _, _, rfl⟩, fun j X hX m τ hI QB hQB hQR => ?_, fun m τ hI => ?_⟩
  · obtain ⟨rfl, hall, v1, v2, v3, rfl⟩ := hI
    rw [List.getElem?_map] at hX
    obtain ⟨s, hse, rfl⟩ := Option.map_eq_some_iff.mp hX
    have hsm := List.mem_of_getElem? hse
    obtain ⟨lo, hi, hs⟩ := hss s hsm
    with_reducible refine AA_Name PutC.put ?_
    repeat' walk_at "one"
    refine S_AssignT ?_
    repeat' walk_at "one"
    refine fnc (w_stretch_of H (S.c1 _) (hx.mono fun p h => .tail _ h) h8 At.hd pb hs ?_)
    with_reducible refine AAs2 ?_
    with_reducible refine AA_Name PutC.put ?_
    with_reducible refine AA_Name PutC.put ?_
    repeat' walk_at "one"
    refine fnc (w_within H ?_)
    by_cases hb : lo ≤ mk ∧ mk ≤ hi
    · rw [decide_eq_true hb.1, decide_eq_true hb.2]
      repeat' walk_at "one"
      refine hQB _ _ trivial ⟨rfl, fun s' hs' => ?_, _, _, _, rfl⟩
      rw [List.take_add_one, hse] at hs'
      rcases List.mem_append.mp hs' with h' | h'
      · exact hall s' h'
      · rw [List.mem_singleton.mp h']; exact ⟨lo, hi, hs, hb⟩
    · rw [show (decide (lo ≤ mk) && decide (mk ≤ hi)) = false by
        cases e1 : decide (lo ≤ mk) with
        | false => rfl
        | true =>
          cases e2 : decide (mk ≤ hi) with
          | false => rfl
          | true => exact absurd ⟨of_decide_eq_true e1, of_decide_eq_true e2⟩ hb]
      repeat' walk_at "one"
      exact hQR _ _ _ ⟨σ, List.sublist_cons_self _ _, q1 ⟨s, hsm, lo, hi, hs, hb⟩ _⟩
  · obtain ⟨rfl, hall, v1, v2, v3, rfl⟩ := hI
    rw [List.length_map, List.take_length] at hall
    repeat' walk_at "one"
    exact ⟨σ, List.sublist_cons_self _ _, q2 hall⟩
end

section
variable {C : Cx} {d : Nat} {σ : Sto} {Q : V → Sto → Prop} {i k : Addr} {kv : List (Str × Addr)} {es : Str → List (Int × List Need)} {wi : List Need} {ps : List (Str × Int)} {w : Str}
noncomputable def wsT (wi : List Need) (w : Str) : V → Bool
  | .int j => (wi[j.toNat]?).any fun n => n.1 == w
  | _ => false
noncomputable def wsS (wi : List Need) (w : Str) : List Src := ((List.range wi.length).filter fun j => (wi[j]?).any fun n => n.1 == w).map Src.wish
theorem ws_eq : ((rangeL 0 1 wi.length).filter (wsT wi w)).map (fun X => V.tup [.str "wish", X]) = (wsS wi w).map srcV := by
  rw [rangeL_eq, List.filter_map, List.map_map]
  unfold wsS
  rw [List.map_map]
  have e : (wsT wi w ∘ fun i : Nat => V.int (i : Int)) = fun j => (wi[j]?).any fun n => n.1 == w := by
    funext j
    show (wi[((j : Nat) : Int).toNat]?).any _ = _
    rw [Int.toNat_natCast]
  rw [e]; rfl
theorem ws_mem {s : Src} (h : s ∈ wsS wi w) : ∃ lo hi, SrcOk es wi ps w s lo hi := by
  obtain ⟨j, hj, rfl⟩ := List.mem_map.mp h
  have h2 := (List.mem_filter.mp hj).2
  cases e : wi[j]? with
  | none => rw [e] at h2; cases h2
  | some n =>
    rw [e] at h2
    have h3 : n.1 = w := eq_of_beq h2
    refine ⟨n.2.1, n.2.2, .wish ?_⟩
    rw [e, ← h3]
theorem ws_all {n : Need} (h : n ∈ wi) (hn : n.1 = w) : ∃ s ∈ wsS wi w, SrcOk es wi ps w s n.2.1 n.2.2 := by
  obtain ⟨j, hj⟩ := List.mem_iff_getElem?.mp h
  refine ⟨.wish j, List.mem_map.mpr ⟨j, List.mem_filter.mpr ⟨List.mem_range.mpr (List.getElem?_eq_some_iff.mp hj).1, ?_⟩, rfl⟩, .wish ?_⟩
  · rw [hj]; exact beq_iff_eq.mpr hn
  · rw [hj, ← hn]
structure SsOk (es : Str → List (Int × List Need)) (wi : List Need) (ps : List (Str × Int)) (w : Str) (al : List Need) (n : Nat) (ss : List Src) : Prop where
  ok : ∀ s ∈ ss, ∃ lo hi, SrcOk es wi ps w s lo hi
  all : ∀ n ∈ al, n.1 = w → ∃ s ∈ ss, SrcOk es wi ps w s n.2.1 n.2.2
  len : ss.length ≤ n
theorem SsOk.skip {al : List Need} {n : Nat} {ss : List Src} {nd : Need} (h : SsOk es wi ps w al n ss) (hn : nd.1 ≠ w) : SsOk es wi ps w (al ++ [nd]) (n + 1) ss :=
  ⟨h.ok, fun m hm e => by
    rcases List.mem_append.mp hm with h' | h'
    · exact h.all m h' e
    · rw [List.mem_singleton.mp h'] at e; exact absurd e hn, Nat.le_succ_of_le h.len⟩
theorem SsOk.more {al : List Need} {n : Nat} {ss : List Src} {nd : Need} {s : Src} (h : SsOk es wi ps w al n ss) (hs : SrcOk es wi ps w s nd.2.1 nd.2.2) : SsOk es wi ps w (al ++ [nd]) (n + 1) (ss ++ [s]) :=
  ⟨fun s' hs' => by
    rcases List.mem_append.mp hs' with h' | h'
    · exact h.ok s' h'
    · rw [List.mem_singleton.mp h']; exact ⟨_, _, hs⟩, fun m hm e => by
    rcases List.mem_append.mp hm with h' | h'
    · obtain ⟨s', h1, h2⟩ := h.all m h' e
      exact ⟨s', List.mem_append_left _ h1, h2⟩
    · rw [List.mem_singleton.mp h']; exact ⟨s, List.mem_append_right _ (.head _), hs⟩, by rw [List.length_append]; exact Nat.succ_le_succ h.len⟩
noncomputable def part20 : Unit := ()
theorem w_sources_for (H : G1 C) (S : Shp σ i k kv es) {x : V} {Px : Sto → Prop} (hx : Has σ x (.list (wi.map needV)) Px) (h8 : wi.length ≤ 8) (pb : PkB ps) (pi : PkIn es ps)
    (q : ∀ ss : List Src, SsOk es wi ps w (wi ++ ps.flatMap (ndOf es)) 80 ss → Q (.lst (ss.map srcV)) σ) : CW C (d + 4) (.ref 187) [.ref i, x, .lst (ps.map prV), .str w] σ Q := by
  refine CW_freeze (CW_drop ?_)
  refine CW_at (G1.kin (by assumption)) ["found", "other", "make", "k", "need"] [("range", .type "range"), ("len", .bi "len"), ("enumerate", .type "enumerate")] rfl rfl rfl rfl (by rfl) rfl rfl (params := ["shop", "wish", "pairs", "ware"]) (by intro vs h; rcases vs with _ | ⟨a, _ | ⟨b, _ | ⟨c, _ | ⟨e, _ | ⟨f, _ | ⟨g, _ | ⟨g2, r⟩⟩⟩⟩⟩⟩⟩ <;> first | (exact rfl) | (exact absurd h (by simp))) rfl (vars := ["shop", "wish", "pairs", "ware", "found", "other", "make", "k", "need"]) rfl (.arg (.arg (.arg (.arg (.oth (.oth (.oth (.oth (.oth (.nil)))))))))) (by decide +kernel) (GL_cons (g_range (by assumption)) (GL_cons (g_len (by assumption)) (GL_cons (g_enumerate (by assumption)) GL_nil))) ?_
  intro env hsc
  obtain ⟨dx, hin⟩ := S.inst
  have h12 := pb.len
  have hwz : (wi.map needV).length = wi.length := List.length_map _
  with_reducible refine S_cons ?_
  refine S_AssignCompM1 "k" ["wish", "ware"] [] (swaps_of (by rw [hsc]; decide +kernel)) (by rw [hsc]; decide +kernel) GL_nil (.cons LkC.lk (.cons LkC.lk .nil)) (AI_range ?_)
  repeat' walk_at "one"
  refine K_lenL hx (lenM h8 (by decide)) ?_
  rw [hwz]
  repeat' walk_at "one"
  refine ⟨_, _, _, wi.length, rfl, rg_s (by lia), rg_z _, by rw [rangeL_len]; exact Nat.le_trans h8 (by decide), fun env' he => CompL_filter (f := fun X => V.tup [.str "wish", X]) (t := wsT wi w) (comp_local he (by decide +kernel)) trivial _ _ _ (fun X hX K hK => ?_) (fun X hX _ K hK => ?_) ?_⟩
  · obtain ⟨j, hj, rfl⟩ := rangeL_in hX
    have hje : wi[j]? = some wi[j] := List.getElem?_eq_getElem hj
    have hjm : (wi.map needV)[j]? = some (needV wi[j]) := by rw [List.getElem?_map, hje]; rfl
    have hK' : K (wi[j].1 == w) σ := by
      have e : wsT wi w (V.int (j : Int)) = (wi[j].1 == w) := by
        show (wi[((j : Nat) : Int).toNat]?).any _ = _
        rw [Int.toNat_natCast, hje]; rfl
      rw [← e]; exact hK
    clear hK
    repeat' walk_at "one"
    refine G_nat hx (by lia) hjm ?_
    unfold needV
    repeat' walk_at "one"
    exact hK'
  · obtain ⟨j, hj, rfl⟩ := rangeL_in hX
    repeat' walk_at "one"
    exact hK
  rw [List.nil_append, ws_eq]
  intro fa ofa
  clear hsc
  with_reducible refine put_c ?_
  with_reducible refine Then_next ?_
  have W0 : SsOk es wi ps w wi 8 (wsS wi w) := ⟨fun s hs => ws_mem hs, fun n hn e => ws_all hn e, by
    unfold wsS
    rw [List.length_map]
    exact Nat.le_trans (List.length_filter_le _ _) (by rw [List.length_range]; exact h8)⟩
  with_reducible refine S_cons ?_
  refine S_ForQ (fun j m τ => j ≤ ps.length ∧ ∃ (o : Obj) (ss : List Src) (v1 v2 v3 v4 : Option V), SsOk es wi ps w (wi ++ (ps.take j).flatMap (ndOf es)) (8 + 6 * j) ss ∧ τ = (fa, o, .list (ss.map srcV)) :: σ ∧ m = [some (.ref i), some x, some (.lst (ps.map prV)), some (.str w), some (.ref fa), v1, v2, v3, v4]) (AI_list ?_)
  with_reducible refine AT_lc ?_
  refine ⟨_, _, .lst _, ⟨Nat.zero_le _, ofa, wsS wi w, _, _, _, _, by rw [List.take_zero, List.flatMap_nil, List.append_nil]; exact W0, rfl, rfl⟩, fun j X hX m τ hI QB hQB => ?_, fun m τ hI => ?_⟩
  · obtain ⟨hjl, o, ss, v1, v2, v3, v4, W, rfl, rfl⟩ := hI
    rw [List.getElem?_map] at hX
    obtain ⟨⟨ot, mk⟩, hpe, rfl⟩ := Option.map_eq_some_iff.mp hX
    have hj := (List.getElem?_eq_some_iff.mp hpe).1
    have hpm := List.mem_of_getElem? hpe
    obtain ⟨ns, hns⟩ := pi _ hpm
    obtain ⟨ho, h1, h2⟩ := pb.ok _ hpm
    have hnl : ns.length ≤ 6 := (S.eok ot).2.2 _ hns
    have hnd : ndOf es (ot, mk) = ns := ndOf_at (S.eok ot).1 hns
    have htk : wi ++ (ps.take (j + 1)).flatMap (ndOf es) = (wi ++ (ps.take j).flatMap (ndOf es)) ++ ns := by
      rw [List.take_add_one, hpe, List.flatMap_append, List.append_assoc]
      show _ = _ ++ (_ ++ ns)
      rw [← hnd]; simp
    generalize wi ++ (ps.take j).flatMap (ndOf es) = al at W htk
    unfold prV
    with_reducible refine AAs2 ?_
    with_reducible refine AA_Name PutC.put ?_
    with_reducible refine AA_Name PutC.put ?_
    repeat' walk_at "one"
    refine S_ForQ (fun l m τ => l ≤ ns.length ∧ ∃ (o : Obj) (ss : List Src) (v3 v4 : Option V), SsOk es wi ps w (al ++ ns.take l) (8 + 6 * j + l) ss ∧ τ = (fa, o, .list (ss.map srcV)) :: σ ∧ m = [some (.ref i), some x, some (.lst (ps.map fun p => .tup [.str p.1, .int p.2])), some (.str w), some (.ref fa), some (.str ot), some (.int mk), v3, v4]) (AI_enum ?_)
    with_reducible refine AT_gc ?_
    refine ⟨rfl, ?_⟩
    repeat' walk_at "one"
    refine fnc (w_needs H (S.c1 _) ho h1 h2 hns (.inl ?_))
    repeat' walk_at "one"
    refine ⟨_, _, _, rfl, .lst _, ⟨Nat.zero_le _, o, ss, _, _, by rw [List.take_zero, List.append_nil]; exact W, rfl, rfl⟩, fun l X hX m τ hI QB2 hQB2 => ?_, fun m τ hI => ?_⟩
    · obtain ⟨hll, o, ss, v3, v4, W, rfl, rfl⟩ := hI
      obtain ⟨⟨nm, lo, hi⟩, hne, rfl⟩ := enumN_at hX
      have hl := (List.getElem?_eq_some_iff.mp hne).1
      have htl : al ++ ns.take (l + 1) = (al ++ ns.take l) ++ [(nm, lo, hi)] := by rw [List.take_add_one, hne, List.append_assoc]; rfl
      with_reducible refine AAs2 ?_
      with_reducible refine AA_Name PutC.put ?_
      with_reducible refine AA_Name PutC.put ?_
      unfold needV
      repeat' walk_at "one"
      · refine K_apph (lenM (n := 100) (by have := W.len; lia) (by decide)) fun o' => ?_
        repeat' walk_at "one"
        rename_i hb
        have hb' : nm = w := eq_of_beq hb
        refine hQB2 _ _ trivial ⟨hl, o', ss ++ [.need ot mk l], _, _, ?_, by rw [List.map_append]; rfl, rfl⟩
        rw [htl]
        exact W.more (nd := (nm, lo, hi)) (.need hpm hns (by rw [hne, hb']))
      · rename_i hb
        refine hQB2 _ _ trivial ⟨hl, o, ss, _, _, ?_, rfl, rfl⟩
        rw [htl]
        exact W.skip fun e => by rw [e, beq_self_eq_true] at hb; cases hb
    · obtain ⟨hll, o, ss, v3, v4, W, rfl, rfl⟩ := hI
      have hz : (enumL (ns.map needV)).length = ns.length := by simp [enumL]
      rw [hz, List.take_length, ← htk] at W
      repeat' walk_at "one"
      exact hQB _ _ trivial ⟨hj, o, ss, _, _, _, _, ⟨W.ok, W.all, Nat.le_trans W.len (by lia)⟩, rfl, rfl⟩
  · obtain ⟨hjl, o, ss, v1, v2, v3, v4, W, rfl, rfl⟩ := hI
    rw [List.length_map, List.take_length] at W
    repeat' walk_at "one"
    exact ⟨_, List.Sublist.refl _, fa, o, _, σ, rfl, rfl, q ss ⟨W.ok, W.all, Nat.le_trans W.len (by lia)⟩⟩
end

section
variable {C : Cx} {d : Nat} {σ : Sto} {Q : V → Sto → Prop} {i k : Addr} {kv : List (Str × Addr)} {es : Str → List (Int × List Need)} {wi : List Need} {ps : List (Str × Int)} {w : Str}
theorem S_cutR {env : Env} {vars : List Str} {gl : List (Str × V)} {own : Bool} {m : Loc} {QS : Fl → Loc → Sto → Prop} (R : Loc → Sto → Prop) {st : Stmt} {rest : List Stmt} (h1 : ∀ QC : Fl → Loc → Sto → Prop, (∀ m σ, R m σ → QC .next m σ) → (∀ Y m σ, QS (.ret Y) m σ → QC (.ret Y) m σ) → AS C env vars gl own d (exec st env) m σ QC)
    (h2 : ∀ m σ, R m σ → AS C env vars gl own d (execs rest env) m σ QS) : AS C env vars gl own d (execs (st :: rest) env) m σ QS :=
  S_cut R (h1 _ (fun m σ q => CutQ_next q) fun Y m σ q => CutQ_ret q) h2
inductive SPre (es : Str → List (Int × List Need)) (wi : List Need) : List (Str × Int) → Prop
  | nil : SPre es wi []
  | snoc {ps0 : List (Str × Int)} {R : List Str} {w : Str} {mk : Int} {ns : List Need} : Pa es wi ps0 R → R[ps0.length]? = some w → (mk, ns) ∈ es w → PkB (ps0 ++ [(w, mk)]) → (∀ n ∈ wi ++ ps0.flatMap (ndOf es), n.1 = w → n.2.1 ≤ mk ∧ mk ≤ n.2.2) → SPre es wi (ps0 ++ [(w, mk)])
structure Gd (es : Str → List (Int × List Need)) (wi : List Need) : Prop where
  ok : WishOk wi
  nd : ∀ w, ((es w).map (·.1)).Nodup
  ag : ∀ pk, PkB pk → PkIn es pk → ∃ N R, N ≤ 60 ∧ Bf (nx es pk) N [] (wi.map (·.1)) R ∧ (∀ w ∈ R, Ware w) ∧ R.length ≤ N
  mb : ∀ w, ∀ p ∈ es w, Ware w ∧ 1 ≤ p.1 ∧ p.1 ≤ 999
  l4 : ∀ pk : List (Str × Int), (pk.map (·.1)).Nodup → PkIn es pk → pk.length ≤ 4
theorem SPre.pi (h : SPre es wi ps) : PkIn es ps ∧ PkB ps := by
  cases h with
  | nil => exact ⟨(fun _ h => by cases h), ⟨List.nodup_nil, by decide, fun _ h => by cases h⟩⟩
  | @snoc ps0 R w mk ns pa _ hm pb _ =>
    refine ⟨fun p hp => ?_, pb⟩
    rcases List.mem_append.mp hp with h | h
    · exact pa.pi p h
    · rw [List.mem_singleton.mp h]; exact ⟨ns, hm⟩
theorem PkB.snoc (g : Gd es wi) {mk : Int} {ns : List Need} (pb : PkB ps) (pi : PkIn es ps) (hw : w ∉ ps.map (·.1)) (hm : (mk, ns) ∈ es w) : PkB (ps ++ [(w, mk)]) := by
  have hn : ((ps ++ [(w, mk)]).map (·.1)).Nodup := by
    rw [List.map_append]
    refine List.nodup_append.mpr ⟨pb.nd, by simp, fun a ha b hb e => hw ?_⟩
    have hb' : b = w := List.mem_singleton.mp hb
    rw [← hb', ← e]; exact ha
  have hi : PkIn es (ps ++ [(w, mk)]) := fun p hp => by
    rcases List.mem_append.mp hp with h | h
    · exact pi p h
    · rw [List.mem_singleton.mp h]; exact ⟨ns, hm⟩
  refine ⟨hn, Nat.le_trans (g.l4 _ hn hi) (by decide), fun p hp => ?_⟩
  rcases List.mem_append.mp hp with h | h
  · exact pb.ok p h
  · rw [List.mem_singleton.mp h]; exact g.mb w _ hm
theorem drop_filter {R : List Str} (hn : R.Nodup) (n : Nat) : R.filter (fun x => decide (x ∉ R.take n)) = R.drop n := by
  have h1 : (R.take n).filter (fun x => decide (x ∉ R.take n)) = [] := List.filter_eq_nil_iff.mpr fun a ha => by simp [ha]
  have h2 : (R.drop n).filter (fun x => decide (x ∉ R.take n)) = R.drop n := List.filter_eq_self.mpr fun a ha => by
    have : a ∉ R.take n := fun ht => by
      have hd := hn
      rw [← List.take_append_drop n R] at hd
      exact (List.nodup_append.mp hd).2.2 a ht a ha rfl
    simpa using this
  conv => lhs; arg 2; rw [← List.take_append_drop n R]
  rw [List.filter_append, h1, h2, List.nil_append]
noncomputable def wtT (ps : List (Str × Int)) : V → Bool
  | .str x => !(vAt (pkV ps) x).isSome
  | _ => false
theorem wt_eq {R : List Str} (pb : PkB ps) (hn : R.Nodup) (hk : ps.map (·.1) = R.take ps.length) : ((R.map V.str).filter (wtT ps)) = (R.drop ps.length).map V.str := by
  rw [List.filter_map, ← drop_filter hn]
  congr 1
  refine List.filter_congr fun x _ => ?_
  show (!(vAt (pkV ps) x).isSome) = decide (x ∉ R.take ps.length)
  rw [← hk]
  by_cases h : x ∈ ps.map (·.1)
  · obtain ⟨m, hp, _⟩ := pI_key pb.nd h
    rw [vAt_mem (by rw [pkV_keys]; exact pb.nd) (List.mem_map.mpr ⟨_, hp, rfl⟩), decide_eq_false (fun h' => h' h)]; rfl
  · rw [vAt_none (by rw [pkV_keys]; exact h), decide_eq_true h]; rfl
theorem desc {l : List Int} {a b : Nat} {x y : Int} (hx : (sortI l).reverse[a]? = some x) (hy : (sortI l).reverse[b]? = some y) (h : x < y) : b < a := by
  have hp : ((sortI l).reverse).Pairwise (fun a b => b ≤ a) := List.pairwise_reverse.mpr (sortI_pw l)
  obtain ⟨ha, ea⟩ := List.getElem?_eq_some_iff.mp hx
  obtain ⟨hb, eb⟩ := List.getElem?_eq_some_iff.mp hy
  rcases Nat.lt_trichotomy a b with h' | h' | h'
  · have := List.pairwise_iff_getElem.mp hp a b ha hb h'
    rw [ea, eb] at this; lia
  · subst h'; rw [hx] at hy; cases hy; lia
  · exact h'
noncomputable abbrev aV (p : Int × V) : V := .tup [.int p.1, p.2]
noncomputable def part21 : Unit := ()
theorem w_settled (H : G1 C) (g : Gd es wi) (n : Nat) : ∀ {σ : Sto} {Q : V → Sto → Prop} {ps : List (Str × Int)} {x : V} {Px : Sto → Prop}, Shp σ i k kv es → Has σ x (.list (wi.map needV)) Px → SPre es wi ps → 5 ≤ ps.length + n → n ≤ 10 →
    (∀ r ys σ', (∀ p ∈ σ, p ∈ σ') → Bs es wi ps r → ys.length ≤ n → Q (.tup [.tup [.lst (r.map prV), .lst ys], .none]) σ') → (∀ Z σ', (∀ p ∈ σ, p ∈ σ') → (∀ pk, ¬ Cp es wi ps pk) → Q (.tup [.none, Z]) σ') → CW C (d + n + 7) (.ref 206) [.ref i, x, .lst (ps.map prV)] σ Q := by
  induction n with
  | zero =>
    intro σ Q ps x Px S hx pre hn hn10 q1 q2
    obtain ⟨pi, pb⟩ := pre.pi
    have := g.l4 ps pb.nd pi
    lia
  | succ n ih =>
    intro σ Q ps x Px S hx pre hn hn10 q1 q2
    obtain ⟨pi, pb⟩ := pre.pi
    have h4 := g.l4 ps pb.nd pi
    have h8 := g.ok.len
    have hpz : (ps.map prV).length = ps.length := List.length_map _
    refine CW_at (G1.kin (by assumption)) ["reason", "picked", "waiting", "ware", "sources", "good", "against", "make", "found"] [("len", .bi "len"), ("clash", .ref 194), ("dict", .type "dict"), ("agenda_of", .ref 156), ("list", .type "list"), ("sources_for", .ref 187), ("left_by", .ref 182), ("reversed", .type "reversed"), ("outside", .ref 201), ("settled", .ref 206)] rfl rfl rfl rfl (by rfl) rfl rfl (params := ["shop", "wish", "pairs"]) (by intro vs h; rcases vs with _ | ⟨a, _ | ⟨b, _ | ⟨c, _ | ⟨e, _ | ⟨f, _ | ⟨g, _ | ⟨g2, r⟩⟩⟩⟩⟩⟩⟩ <;> first | (exact rfl) | (exact absurd h (by simp))) rfl (vars := ["shop", "wish", "pairs", "reason", "picked", "waiting", "ware", "sources", "good", "against", "make", "found"]) rfl (.arg (.arg (.arg (.oth (.oth (.oth (.oth (.oth (.oth (.oth (.oth (.oth (.nil))))))))))))) (by decide +kernel) (GL_cons (g_len (by assumption)) (GL_cons (g_clash (by assumption)) (GL_cons (g_dict (by assumption)) (GL_cons (g_agenda_of (by assumption)) (GL_cons (g_list (by assumption)) (GL_cons (g_sources_for (by assumption)) (GL_cons (g_left_by (by assumption)) (GL_cons (g_reversed (by assumption)) (GL_cons (g_outside (by assumption)) (GL_cons (g_settled (by assumption)) GL_nil)))))))))) ?_
    intro env hsc
    obtain ⟨dx, hin⟩ := S.inst
    refine S_cutR (fun m τ => τ = σ ∧ (∃ R, Pa es wi ps R) ∧ ∃ v, m = [some (.ref i), some x, some (.lst (ps.map prV)), v, none, none, none, none, none, none, none, none]) ?_ ?_
    · intro QC hQC hQR
      cases pre with
      | nil =>
        repeat' walk_at "one"
        obtain ⟨N, R, _, hB, _⟩ := g.ag [] pb pi
        exact hQC _ _ ⟨rfl, ⟨R, ⟨N, hB⟩, rfl, pb, pi, (fun n _ m h => by cases h), fun p h => by cases h⟩, _, rfl⟩
      | @snoc ps0 R0 w mk ns pa hw hm _ hin0 =>
        repeat' walk_at "one"
        refine fnc (w_clash H S pb hm (fun hcl xs => ?_) fun hcl => ?_)
        · repeat' walk_at "one"
          refine hQR _ _ _ (q2 _ _ (fun p h => h) ?_)
          obtain ⟨n, hn, m, h1, h2⟩ := hcl
          exact clash_no ⟨(w, mk), List.mem_append_right _ (.head _), n, by rw [ndOf_at (g.nd w) hm]; exact hn, m, h1, h2⟩
        · repeat' walk_at "one"
          obtain ⟨N, R, _, hB, _⟩ := g.ag _ pb pi
          exact hQC _ _ ⟨rfl, ⟨R, pa.step g.nd hw hm pb hin0 hcl ⟨N, hB⟩⟩, _, rfl⟩
    clear pre
    rintro m τ ⟨rfl, ⟨R, pa⟩, v, rfl⟩
    obtain ⟨N, R', hN, hB, hRw, hRl⟩ := g.ag ps pb pi
    obtain ⟨N0, hB0⟩ := id pa.ag
    obtain rfl := hB0.det hB
    have hRn := hB.nodup List.nodup_nil
    have hRz : (R.map V.str).length ≤ sizeLine := lenM (Nat.le_trans hRl hN) (by decide)
    repeat' walk_at "one"
    refine K_dictPk (.lst _) pb fun pa0 opa hfp => ?_
    with_reducible refine put_c ?_
    with_reducible refine Then_next ?_
    have hpn : ((pkV ps).map (·.1)).Nodup := by rw [pkV_keys]; exact pb.nd
    with_reducible refine S_cons ?_
    refine S_AssignCompF1 "ware" ["picked"] [] (swaps_of (by rw [hsc]; decide +kernel)) (by rw [hsc]; decide +kernel) GL_nil (.cons LkC.lk .nil) (AI_list ?_)
    repeat' walk_at "one"
    refine fnc (w_agenda_ofF H (S.c1 _) (hx.mono fun p h => .tail _ h) g.ok At.hd pb pi (Nat.le_trans hN (by decide)) hB ?_)
    refine ⟨_, _, .lst _, hRz, fun env' he => CompL_filter (f := id) (t := wtT ps) (comp_local he (by decide +kernel)) trivial _ _ _ (fun X hX K hK => ?_) (fun X hX _ K hK => ?_) ?_⟩
    · obtain ⟨y, hy, rfl⟩ := List.mem_map.mp hX
      repeat' walk_at "one"
      refine C_niDS H.ns At.hd hpn ?_
      exact TX_bool hK
    · with_reducible refine AT_lc ?_
      exact hK
    rw [List.nil_append, List.map_id, wt_eq pb hRn pa.keys]
    with_reducible refine put_c ?_
    with_reducible refine Then_next ?_
    have hdz : ((R.drop ps.length).map V.str).length = R.length - ps.length := by rw [List.length_map, List.length_drop]
    by_cases hR : R.length ≤ ps.length
    · have v := pa.done g.nd hR (g.ag ps pb pi)
      have hnil : (R.drop ps.length).map V.str = [] := by rw [List.drop_eq_nil_of_le hR]; rfl
      rw [hnil]
      repeat' walk_at "one"
      refine K_listL (.lst _) (by rw [hpz]; exact Nat.le_trans h4 (by decide)) (.inl ?_)
      repeat' walk_at "one"
      exact q1 ps [] _ (fun p h => .tail _ h) (pa.best0 hR v) (Nat.zero_le _)
    have hlt : ps.length < R.length := Nat.lt_of_not_le hR
    obtain ⟨w, hw⟩ : ∃ w, R[ps.length]? = some w := ⟨_, List.getElem?_eq_getElem hlt⟩
    have hdr : (R.drop ps.length).map V.str = .str w :: (R.drop (ps.length + 1)).map V.str := by rw [drop_at hw]; rfl
    have hwW : Ware w := hRw w (List.mem_of_getElem? hw)
    have hfr := pa.fresh hw
    rw [hdr]
    have hdl : (V.str w :: (R.drop (ps.length + 1)).map V.str).length ≤ 100 := by rw [← hdr, hdz]; lia
    repeat' walk_at "one"
    · rename_i hb
      have := of_decide_eq_true hb
      rw [List.length_cons] at this; lia
    refine G_list (k := 0) (X := .str w) (.lst (V.str w :: (R.drop (ps.length + 1)).map V.str)) (by decide) (by decide) rfl ?_
    repeat' walk_at "one"
    refine fnc (w_sources_for H (S.c1 _) (hx.mono fun p h => .tail _ h) h8 pb pi fun ss W => ?_)
    repeat' walk_at "one"
    refine AT_CompF1 "source" ["shop", "wish", "picked", "ware"] [("stretch_of", .ref 177)] (by rw [hsc]; decide +kernel) (GL_cons (g_stretch_of H) GL_nil) (.cons LkC.lk (.cons LkC.lk (.cons LkC.lk (.cons LkC.lk .nil)))) (AI_list ?_)
    with_reducible refine AT_lc ?_
    refine ⟨_, _, .lst _, lenM W.len (by decide), fun env' he => CompL_relL (Gd := fun Y => ∃ p : Int × Int, Y = .tup [.int p.1, .int p.2]) (comp_local he (by decide +kernel)) trivial _ _ _ (fun X hX K hK => ?_) fun ys hyl hy => ?_⟩
    · obtain ⟨s, hs, rfl⟩ := List.mem_map.mp hX
      obtain ⟨lo, hi, hok⟩ := W.ok s hs
      repeat' walk_at "one"
      refine fnc (w_stretch_of H (S.c1 _) (hx.mono fun p h => .tail _ h) h8 At.hd pb hok ?_)
      exact hK _ ⟨(lo, hi), rfl⟩
    obtain ⟨sp, rfl⟩ : ∃ sp : List (Int × Int), ys = sp.map fun p => .tup [.int p.1, .int p.2] := by
      clear hyl
      induction ys with
      | nil => exact ⟨[], rfl⟩
      | cons y ys ihy =>
        obtain ⟨p, rfl⟩ := hy y (.head _)
        obtain ⟨sp, rfl⟩ := ihy fun z hz => hy z (.tail _ hz)
        exact ⟨p :: sp, rfl⟩
    rw [List.nil_append]
    have hspl : sp.length ≤ 100 := by
      rw [List.length_map, List.length_map] at hyl
      rw [hyl]; exact Nat.le_trans W.len (by decide)
    clear hy hyl
    repeat' walk_at "one"
    refine fnc (w_left_by H (S.c1 _) hwW hspl fun gs hgl => ?_)
    with_reducible refine put_c ?_
    with_reducible refine Then_next ?_
    with_reducible refine S_cons ?_
    refine S_AssignL0 fun ag oag hfa => ?_
    with_reducible refine put_c ?_
    with_reducible refine Then_next ?_
    with_reducible refine S_cons ?_
    have h1n := g.nd w
    have hml := (S.eok w).2.1
    have hsz : (sortI ((es w).map (·.1))).length = (es w).length := by rw [(sortI_perm _).length_eq, List.length_map]
    refine S_ForR (fun j m τ' => j ≤ (es w).length ∧ ∃ (as : List (Int × V)) (v3 v10 v11 : Option V), At τ' ag (.list (as.map aV)) ∧ as.length ≤ j ∧ (∀ p ∈ τ, p ∈ τ') ∧ (∀ l mk', l < j → (sortI ((es w).map (·.1))).reverse[l]? = some mk' → ∀ pk, ¬ Cp es wi (ps ++ [(w, mk')]) pk) ∧ m = [some (.ref i), some x, some (.lst (ps.map prV)), v3, some (.ref pa0), some (.lst (V.str w :: (R.drop (ps.length + 1)).map V.str)), some (.str w), some (.lst (ss.map srcV)), some (.lst (gs.map V.int)), some (.ref ag), v10, v11]) (AI_rev ?_)
    with_reducible refine AT_gc ?_
    refine ⟨rfl, ?_⟩
    repeat' walk_at "one"
    refine fnc (w_makes H ((S.c1 _).c1 _) hwW (.inl ?_))
    repeat' walk_at "one"
    refine ⟨_, _, _, rfl, .lst _, ⟨Nat.zero_le _, [], _, _, _, At.hd, Nat.le_refl _, (fun p h => .tail _ (.tail _ h)), (fun l mk' h => absurd h (Nat.not_lt_zero _)), rfl⟩, fun j X hX m τ' hI QB hQB hQR => ?_, fun m τ' hI => ?_⟩
    · obtain ⟨hjl, as, v3, v10, v11, hat, hal, hkp, hno, rfl⟩ := hI
      rw [← List.map_reverse, List.getElem?_map] at hX
      obtain ⟨mk, hmk, rfl⟩ := Option.map_eq_some_iff.mp hX
      have hj : j < (es w).length := by
        have := (List.getElem?_eq_some_iff.mp hmk).1
        rw [List.length_reverse, hsz] at this; exact this
      obtain ⟨⟨mk, ns⟩, hm, rfl⟩ := List.mem_map.mp ((sortI_perm _).mem_iff.mp (List.mem_reverse.mp (List.mem_of_getElem? hmk)))
      have S' : Shp τ' i k kv es := S.frame fun a _ x ⟨o, h⟩ => ⟨o, hkp _ h⟩
      have hnext : (∀ pk, ¬ Cp es wi (ps ++ [(w, mk)]) pk) → ∀ l mk', l < j + 1 → (sortI ((es w).map (·.1))).reverse[l]? = some mk' → ∀ pk, ¬ Cp es wi (ps ++ [(w, mk')]) pk := fun h l mk' hl hmk' => by
        rcases Nat.lt_succ_iff_lt_or_eq.mp hl with h' | rfl
        · exact hno l mk' h' hmk'
        · rw [hmk] at hmk'; cases hmk'; exact h
      have happ : ∀ Z τ2, At τ2 ag (.list (as.map aV)) → (∀ p ∈ τ, p ∈ τ2) → (∀ pk, ¬ Cp es wi (ps ++ [(w, mk)]) pk) → ∀ τ3, UpdS τ2 τ3 ag (.list (as.map aV ++ [.tup [.int mk, Z]])) → ∀ v3 v11, QB .next [some (.ref i), some x, some (.lst (ps.map prV)), v3, some (.ref pa0), some (.lst (V.str w :: (R.drop (ps.length + 1)).map V.str)), some (.str w), some (.lst (ss.map srcV)), some (.lst (gs.map V.int)), some (.ref ag), some (.int mk), v11] τ3 := fun Z τ2 _ hk2 hc τ3 U v3 v11 =>
        hQB _ _ trivial ⟨hj, as ++ [(mk, Z)], _, _, _, by rw [List.map_append]; exact U.here, by rw [List.length_append]; exact Nat.succ_le_succ hal, fun p hp => U.keep p (hk2 p hp) fun e => hfa _ (.tail _ hp) e, hnext hc, rfl⟩
      clear hQB hnext
      with_reducible refine AA_Name PutC.put ?_
      repeat' walk_at "one"
      refine fnc (w_outside H S' (hx.mono hkp) h8 pb W.ok (fun hout xs => ?_) fun hall => ?_)
      · repeat' walk_at "one"
        refine K_app hat (lenM (n := 8) (by lia) (by decide)) fun τ3 U => ?_
        repeat' walk_at "one"
        refine happ _ _ hat hkp ?_ _ U _ _
        obtain ⟨s, hs, lo, hi, hso, hb⟩ := hout
        cases hso with
        | wish hk => exact out_no ⟨(w, lo, hi), List.mem_append_left _ (List.mem_of_getElem? hk), rfl, hb⟩
        | @need o mk' kk ns' _ _ h1 h2 hk => exact out_no ⟨(w, lo, hi), List.mem_append_right _ (List.mem_flatMap.mpr ⟨_, h1, by rw [ndOf_at (g.nd o) h2]; exact List.mem_of_getElem? hk⟩), rfl, hb⟩
      · have hin1 : ∀ n ∈ wi ++ ps.flatMap (ndOf es), n.1 = w → n.2.1 ≤ mk ∧ mk ≤ n.2.2 := fun n hn e => by
          obtain ⟨s, hs, hso⟩ := W.all n hn e
          obtain ⟨lo, hi, hso', hb⟩ := hall s hs
          have : lo = n.2.1 ∧ hi = n.2.2 := by
            cases hso with
            | wish hk => cases hso' with
              | wish hk' => rw [hk] at hk'; cases hk'; exact ⟨rfl, rfl⟩
            | need h1 h2 hk => cases hso' with
              | need h1' h2' hk' =>
                have := nodup_inj (g.nd _) h2 h2' rfl
                cases this
                rw [hk] at hk'; cases hk'; exact ⟨rfl, rfl⟩
          rw [this.1, this.2] at hb; exact hb
        have pb' := PkB.snoc g pb pi hfr hm
        repeat' walk_at "one"
        refine S_AssignT ?_
        repeat' walk_at "one"
        refine B_addL (.lst _) (.lst _) (len_ok (by rw [hpz]; show _ + 1 ≤ _; lia)) (NL_f ?_)
        rw [show ps.map prV ++ [V.tup [.str w, .int mk]] = (ps ++ [(w, mk)]).map prV by rw [List.map_append]; rfl]
        repeat' walk_at "one"
        refine fnc (ih S' (hx.mono hkp) (.snoc pa hw hm pb' hin1) (by rw [List.length_append]; show 5 ≤ ps.length + 1 + n; lia) (by lia) (fun r ys τ2 hk2 b hyl => ?_) fun Z τ2 hk2 hc => ?_)
        · with_reducible refine AAs2 ?_
          with_reducible refine AA_Name PutC.put ?_
          with_reducible refine AA_Name PutC.put ?_
          repeat' walk_at "one"
          refine B_addL (.lst _) (.lst _) (len_ok (by show 1 + ys.length ≤ _; lia)) (NL_f ?_)
          repeat' walk_at "one"
          refine hQR _ _ _ (q1 r _ _ (fun p hp => hk2 p (hkp p hp)) (Bs.up pa hw b fun mk' ns' hgt hm' => ?_) (by rw [List.length_append]; show 1 + ys.length ≤ _; lia))
          obtain ⟨l, hl⟩ := List.mem_iff_getElem?.mp (List.mem_reverse.mpr ((sortI_perm _).mem_iff.mpr (List.mem_map.mpr ⟨_, hm', rfl⟩)))
          exact hno l mk' (desc hmk hl hgt) hl
        · with_reducible refine AAs2 ?_
          with_reducible refine AA_Name PutC.put ?_
          with_reducible refine AA_Name PutC.put ?_
          have hat2 : At τ2 ag (.list (as.map aV)) := by obtain ⟨o, h⟩ := hat; exact ⟨o, hk2 _ h⟩
          repeat' walk_at "one"
          refine K_app hat2 (lenM (n := 8) (by lia) (by decide)) fun τ3 U => ?_
          repeat' walk_at "one"
          exact happ _ _ hat2 (fun p hp => hk2 p (hkp p hp)) hc _ U _ _
    · obtain ⟨hjl, as, v3, v10, v11, ⟨oa, hat⟩, hal, hkp, hno, rfl⟩ := hI
      rw [List.length_reverse, List.length_map, hsz] at hno hal
      have hal8 : as.length ≤ 8 := Nat.le_trans hal hml
      repeat' walk_at "one"
      refine AT_CompF1 "pair" ["good"] [] (by rw [hsc]; decide +kernel) GL_nil (.cons LkC.lk .nil) (AI_list ?_)
      with_reducible refine AT_lc ?_
      refine ⟨_, _, .refL hat, lenM (n := 8) hal8 (by decide), fun env' he => CompL_sub (comp_local he (by decide +kernel)) hat _ _ _ (fun X hX K hK => ?_) (fun X hX K hK => ?_) fun ys hys => ?_⟩
      · obtain ⟨⟨mk, Z⟩, _, rfl⟩ := List.mem_map.mp hX
        repeat' walk_at "one"
        refine C_inLI (.lst _) ?_
        exact TX_bool (hK _)
      · with_reducible refine AT_lc ?_
        exact hK
      rw [List.nil_append]
      repeat' walk_at "one"
      refine q2 _ _ hkp fun pk c => ?_
      obtain ⟨mk', hm'⟩ := pa.next hw c
      obtain ⟨ns, hns⟩ := c.v.pi _ hm'
      obtain ⟨l, hl⟩ := List.mem_iff_getElem?.mp (List.mem_reverse.mpr ((sortI_perm _).mem_iff.mpr (List.mem_map.mpr ⟨_, hns, rfl⟩)))
      have hll := (List.getElem?_eq_some_iff.mp hl).1
      rw [List.length_reverse, hsz] at hll
      exact hno l mk' hll hl pk ⟨c.v, fun p hp => by
        rcases List.mem_append.mp hp with h | h
        · exact c.sub p h
        · rw [List.mem_singleton.mp h]; exact hm'⟩
end

section
variable {C : Cx} {d : Nat} {σ : Sto} {Q : V → Sto → Prop} {i k ro : Addr} {kv rv : List (Str × Addr)} {es : Str → List (Int × List Need)} {wi : List Need}
open AutoSeq1 (wpAny_loadPart')
theorem eq_size (l b : Addr) (items items2 : Array Value) (n n2 : Nat) (hsz : (items.size != items2.size) = true) :
    MeetsIn C.prog C.w (Builtin.«list.__eq__» ⟨[.ref l, .ref b], []⟩)
      (fun A R s => s.heap.get? l = some (lstO items n) ∧ s.heap.get? b = some (lstO items2 n2) ∧ R (.ok (.ret (.bool false))) s) := by
  intro A R s h
  obtain ⟨hp, g, d, tk, os⟩ := s; obtain ⟨hl, hb, h⟩ := h
  have f3 := AutoSeq1.sub_list_list
  wp_walk using wpAny_loadPart' hl, wpAny_loadPart' hb
  exact h
theorem C_eqNl {xs : List V} (q : Q (.bool xs.isEmpty) σ) : AC2 C d (compareOp .Eq) (.lst xs) (.lst []) σ Q := by
  cases xs with
  | nil => exact C_eqD (.lst .nil) (.lst .nil) rfl rfl q
  | cons X xs =>
    intro A G D s v u hA R hv hu
    obtain ⟨a, ws, n, rfl, ho, hr⟩ := (Has.lst (σ := σ) (X :: xs)).isList R hv
    obtain ⟨b, zs, n', rfl, ho', hr'⟩ := (Has.lst (σ := σ) []).isList R hu
    have e1 : ws.size = xs.length + 1 := by rw [← Array.length_toList, hr.length, List.length_cons]
    have e2 : zs.size = 0 := by rw [← Array.length_toList, hr'.length]; rfl
    refine wpAny_richCompare_same_room (op := .Eq) (T := "list") ⟨_, ho, rfl⟩ ⟨_, ho', rfl⟩ F.slot_list_eq (call_meetsIn F.slot_list_eq ⟨_, ho, rfl⟩ F.entry_list_eq (F.args_list_eq_2 _ _) (eq_size a b ws zs n n' (by rw [e1, e2]; rfl)) ⟨ho, ho', ?_⟩) hA.line0
    exact ⟨(fun x => nomatch x), PostC.now R (.bool _) q⟩
noncomputable def part22 : Unit := ()
theorem w_settle (H : G1 C) (g : Gd es wi) (S : Shp σ i k kv es) {x : V} {Px : Sto → Prop} (hx : Has σ x (.list (wi.map needV)) Px) (q1 : ∀ r ys σ', (∀ p ∈ σ, p ∈ σ') → Bs es wi [] r → Q (.tup [.str "pick", .lst (r.map prV), .lst ys]) σ')
    (q2 : ∀ Z σ', (∀ p ∈ σ, p ∈ σ') → (∀ pk, ¬ Cp es wi [] pk) → Q (.tup [.str "none", Z]) σ') : CW C (d + 13) (.ref 213) [.ref i, x] σ Q := by
  refine CW_at (G1.kin (by assumption)) ["found", "reason"] [("need_wish", .ref 149), ("settled", .ref 206)] rfl rfl rfl rfl (by rfl) rfl rfl (params := ["shop", "wish"]) (by intro vs h; rcases vs with _ | ⟨a, _ | ⟨b, _ | ⟨c, _ | ⟨e, _ | ⟨f, _ | ⟨g, _ | ⟨g2, r⟩⟩⟩⟩⟩⟩⟩ <;> first | (exact rfl) | (exact absurd h (by simp))) rfl (vars := ["shop", "wish", "found", "reason"]) rfl (.arg (.arg (.oth (.oth (.nil))))) (by decide +kernel) (GL_cons (g_need_wish (by assumption)) (GL_cons (g_settled (by assumption)) GL_nil)) ?_
  intro env hsc
  clear hsc
  repeat' walk_at "one"
  refine fnc (w_need_wish H hx g.ok ?_)
  repeat' walk_at "one"
  refine S_AssignT ?_
  repeat' walk_at "one"
  refine fnc (w_settled (d := d) H g 5 (ps := []) S hx .nil (by decide) (by decide) (fun r ys σ' kp b _ => ?_) fun Z σ' kp hc => ?_)
  · with_reducible refine AAs2 ?_
    with_reducible refine AA_Name PutC.put ?_
    with_reducible refine AA_Name PutC.put ?_
    repeat' walk_at "one"
    exact q1 r ys σ' kp b
  · with_reducible refine AAs2 ?_
    with_reducible refine AA_Name PutC.put ?_
    with_reducible refine AA_Name PutC.put ?_
    repeat' walk_at "one"
    exact q2 Z σ' kp hc
noncomputable def prD (p : Str × Int) : PyData := .tuple [.str p.1, .int p.2]
theorem datP {l : List (Str × Int)} (h : ∀ p ∈ l, Ware p.1) : Dat (l.map prV) (l.map prD) :=
  data_map prV prD l (fun _ a => .tup (.cons (.str _) (.cons (.int _) .nil))) (fun a => by simp [prD, PyData.eqv, PyData.eqvAll]) (fun a => by simp [prD, PyData.depth, PyData.depthAll]) fun a ha => by
    unfold prD
    simp only [PyData.canLay0, PyData.canLayAll0, (h a ha).ok, Bool.and_self]
theorem Vd.ag {pk : List (Str × Int)} (v : Vd es wi pk) : ∃ R, Ag es wi pk R := by
  obtain ⟨N, R, _, hB, _⟩ := v.mt
  exact ⟨R, N, hB⟩
noncomputable def Top (es : Str → List (Int × List Need)) (wi : List Need) (τ : Sto) (rs : List Addr) (pb : List (Str × Int)) : Prop := ∀ r ∈ rs, ∀ pk R, At τ r (dS (pkV pk)) → Ag es wi pk R → ahead (pI pk) (pI pb) R = false
theorem same_list {r pb : List (Str × Int)} (hn : (r.map (·.1)).Nodup) (h : ∀ x ∈ r.map (·.1), pI pb x = pI r x) (f : V → V) (hf : ∀ w m, pI pb w = some m → f (.str w) = .tup [.str w, .int m]) : ((r.map (·.1)).map V.str).map f = r.map prV := by
  rw [List.map_map, List.map_map]
  refine List.map_congr_left fun p hp => ?_
  show f (.str p.1) = prV p
  rw [hf p.1 p.2 (by rw [h p.1 (List.mem_map.mpr ⟨p, hp, rfl⟩)]; exact pI_at hn hp)]; rfl
noncomputable def bvV (pk : List (Str × Int)) : V → V
  | .str w => .tup [.str w, (vAt (pkV pk) w).getD .none]
  | v => v
noncomputable def part23 : Unit := ()
theorem w_law (H : G1 C) {xs : List Int} (hx : xs.length ≤ 100) (q : ∀ σ', Q (.bool true) σ') : CW C (d + 14) (.ref 355) [.lst (xs.map V.int)] [] Q := by
  refine CW_at (G1.kin (by assumption)) ["_law_rows_here", "_law_wish_here", "_law_picks", "_law_found", "_law_best", "_law_pick"] [("_law_rows", .ref 312), ("_law_wish", .ref 319), ("_law_all_picks", .ref 343), ("settle", .ref 213), ("_law_shop", .ref 326), ("list", .type "list"), ("isinstance", .bi "isinstance"), ("tuple", .type "tuple"), ("_law_ahead", .ref 350), ("_law_agenda", .ref 331)] rfl rfl rfl rfl (by rfl) rfl rfl (params := ["_law_script"]) (by intro vs h; rcases vs with _ | ⟨a, _ | ⟨b, _ | ⟨c, _ | ⟨e, _ | ⟨f, _ | ⟨g, _ | ⟨g2, r⟩⟩⟩⟩⟩⟩⟩ <;> first | (exact rfl) | (exact absurd h (by simp))) rfl (vars := ["_law_script", "_law_rows_here", "_law_wish_here", "_law_picks", "_law_found", "_law_best", "_law_pick"]) rfl (.arg (.oth (.oth (.oth (.oth (.oth (.oth (.nil)))))))) (by decide +kernel) (GL_cons (g__law_rows (by assumption)) (GL_cons (g__law_wish (by assumption)) (GL_cons (g__law_all_picks (by assumption)) (GL_cons (g_settle (by assumption)) (GL_cons (g__law_shop (by assumption)) (GL_cons (g_list (by assumption)) (GL_cons (g_isinstance (by assumption)) (GL_cons (g_tuple (by assumption)) (GL_cons (g__law_ahead (by assumption)) (GL_cons (g__law_agenda (by assumption)) GL_nil)))))))))) ?_
  intro env hsc
  repeat' walk_at "one"
  refine fnc (w__law_rows H hx (by decide) (by decide) (by decide) (by decide) fun ro rv es σ1 RN hr4 => ?_)
  have hne := RN.ne
  have hlo := RN.lo
  have h4r : rv.length ≤ 4 := by lia
  have h4 : ∀ w, (es w).length ≤ 4 := fun w => by
    by_cases hm : w ∈ rv.map (·.1)
    · obtain ⟨p, hp, rfl⟩ := List.mem_map.mp hm
      exact (hne p hp).2
    · rw [RN.rw_.out w hm]; exact Nat.zero_le _
  repeat' walk_at "one"
  refine fnc (w__law_wish H hx RN.rw_ hlo hne (by decide) (by decide) fun wi ok => ?_)
  repeat' walk_at "one"
  have S1 := RN.rw_
  have g : Gd es wi := ⟨ok, fun w => (S1.eok w).nd, fun pk pb pi => pk_agenda S1 h4r ok pb pi, fun w p hp => by
    obtain ⟨b, hb, e⟩ := List.mem_map.mp (S1.inRv hp)
    exact ⟨by rw [← e]; exact S1.wok b hb, (S1.eok w).mb p hp⟩, fun pk hn pi => Nat.le_trans (pk_le S1 hn pi) h4r⟩
  refine fnc (w__law_all_picks H S1 h4r h4 (.lst _) ok fun rs σ2 kp2 hrs hl hcomp => ?_)
  have S2 : Rw σ2 ro rv es := S1.frame fun a _ x ⟨o, h⟩ => ⟨o, kp2 _ h⟩
  have hrz : (rs.map V.ref).length = rs.length := List.length_map _
  repeat' walk_at "one"
  refine fnc (w__law_shop H S2 (fun p hp => (hne p hp).1) fun i k kv σ3 S hke f1 f2 f3 kp3 => ?_)
  repeat' walk_at "one"
  refine K_listL (.lst _) (lenM ok.len (by decide)) (.inl ?_)
  repeat' walk_at "one"
  refine fnc (w_settle H g S (.lst _) (fun r ys σ4 kp4 b => ?_) fun Z σ4 kp4 hno => ?_)
  · have hr0 : rs ≠ [] := fun e => by
      obtain ⟨r', hr', _⟩ := hcomp r b.c.v
      rw [e] at hr'; cases hr'
    have kp24 : ∀ p ∈ σ2, p ∈ σ4 := fun p hp => kp4 p (kp3 p hp)
    have S4 : Rw σ4 ro rv es := S2.frame fun a _ x ⟨o, h⟩ => ⟨o, kp24 _ h⟩
    have hrs4 : ∀ r ∈ rs, PkM es wi σ4 r := fun r hr => by
      obtain ⟨pk, ⟨o, h1⟩, h2⟩ := (hrs r hr).2
      exact ⟨pk, ⟨o, kp24 _ h1⟩, h2⟩
    have hcomp4 : ∃ r' ∈ rs, ∃ pk', At σ4 r' (dS (pkV pk')) ∧ pk'.Perm r := by
      obtain ⟨r', h1, pk', ⟨o, h2⟩, h3⟩ := hcomp r b.c.v
      exact ⟨r', h1, pk', ⟨o, kp24 _ h2⟩, h3⟩
    clear hcomp hrs f1 f2 f3 S kp3 kp4 kp24 S2 S1 RN hke
    with_reducible refine put_c ?_
    with_reducible refine Then_next ?_
    refine AS_nd fun hnd => ?_
    obtain ⟨r0, rs', rfl⟩ := List.exists_cons_of_ne_nil hr0
    repeat' walk_at "one"
    refine C_eqNl ?_
    repeat' walk_at "one"
    refine G_list (k := 0) (X := .ref r0) (.lst (V.ref r0 :: rs'.map V.ref)) (by decide) (by decide) rfl ?_
    repeat' walk_at "one"
    have hpick : ∀ r ∈ r0 :: rs', ∃ pk, At σ4 r (dS (pkV pk)) ∧ Vd es wi pk := fun r hr => by
      obtain ⟨pk, h1, h2, h3, h5⟩ := hrs4 r hr
      exact ⟨pk, h1, h2, h3, h5⟩
    obtain ⟨pk0, hp0, v0⟩ := hpick r0 (.head _)
    refine S_ForQ (fun j m τ => τ = σ4 ∧ ∃ (b : Addr) (pb : List (Str × Int)) (v : Option V), At σ4 b (dS (pkV pb)) ∧ Vd es wi pb ∧ Top es wi σ4 (r0 :: rs'.take j) pb ∧ m = [some (.lst (xs.map V.int)), some (.ref ro), some (.lst (wi.map needV)), some (.lst ((r0 :: rs').map V.ref)), some (.tup [.str "pick", .lst (r.map prV), .lst ys]), some (.ref b), v]) (AI_list ?_)
    repeat' walk_at "one"
    refine G_slice (.lst _) (.int _) .none .none (fun e => nomatch e) (lenM hl (by decide)) (NL_f ?_)
    rw [slL_drop1]
    refine ⟨_, _, .lst _, ⟨rfl, r0, pk0, _, hp0, v0, fun r' hr' pk R hat hag => ?_, rfl⟩, fun j X hX m τ hI QB hQB => ?_, fun m τ hI => ?_⟩
    · rw [List.take_zero, List.mem_singleton] at hr'
      subst hr'
      obtain rfl := dS_inj (hp0.inj hnd hat)
      exact ahead_all fun z _ => rfl
    · obtain ⟨rfl, b0, pb, v, hpb, vb, ht, rfl⟩ := hI
      have hX' : (rs'.map V.ref)[j]? = some X := hX
      rw [List.getElem?_map] at hX'
      obtain ⟨r1, hr1, rfl⟩ := Option.map_eq_some_iff.mp hX'
      obtain ⟨pk1, hp1, v1⟩ := hpick r1 (.tail _ (List.mem_of_getElem? hr1))
      obtain ⟨N, R, hN, hB, hRw, hRl, m1⟩ := v1.mt
      obtain ⟨Rb, hBb⟩ := vb.ag
      have htk : ∀ r' ∈ r0 :: rs'.take (j + 1), r' ∈ r0 :: rs'.take j ∨ r' = r1 := fun r' h => by
        rw [List.take_add_one, hr1] at h
        rcases List.mem_cons.mp h with h | h
        · exact .inl (by rw [h]; exact .head _)
        · rcases List.mem_append.mp h with h | h
          · exact .inl (.tail _ h)
          · exact .inr (List.mem_singleton.mp h)
      have hmem : ∀ r' ∈ r0 :: rs'.take j, r' ∈ r0 :: rs' := fun r' h => by
        rcases List.mem_cons.mp h with h | h
        · rw [h]; exact .head _
        · exact .tail _ (List.mem_of_mem_take h)
      with_reducible refine AA_Name PutC.put ?_
      repeat' walk_at "one"
      refine fnc (w__law_ahead H S4 (.lst _) ok hp1 v1.pb v1.pi hpb vb.pb vb.mt hN hB m1 ?_)
      cases ha : ahead (pI pk1) (pI pb) R with
      | true =>
        repeat' walk_at "one"
        refine hQB _ _ trivial ⟨rfl, r1, pk1, _, hp1, v1, fun r' hr' pk R' hat hag => ?_, rfl⟩
        rcases htk r' hr' with h | h
        · have h1 := ht r' h pk R' hat hag
          obtain ⟨pk', hp', v'⟩ := hpick r' (hmem r' h)
          obtain rfl := dS_inj (hp'.inj hnd hat)
          cases e : ahead (pI pk') (pI pk1) R' with
          | false => rfl
          | true =>
            rw [ahead_trans (fst_diff v' v1 hag ⟨N, hB⟩) (fst_diff v1 vb ⟨N, hB⟩ hBb) e ha] at h1
            cases h1
        · subst h
          obtain rfl := dS_inj (hp1.inj hnd hat)
          exact ahead_all fun z _ => rfl
      | false =>
        repeat' walk_at "one"
        refine hQB _ _ trivial ⟨rfl, b0, pb, _, hpb, vb, fun r' hr' pk R' hat hag => ?_, rfl⟩
        rcases htk r' hr' with h | h
        · exact ht r' h pk R' hat hag
        · subst h
          obtain rfl := dS_inj (hp1.inj hnd hat)
          obtain ⟨N', hag⟩ := hag
          rw [hag.det hB]; exact ha
    · obtain ⟨rfl, b0, pb, v, hpb, vb, ht, rfl⟩ := hI
      have ht' : Top es wi τ (r0 :: rs') pb := by
        have e : (List.drop 1 ((r0 :: rs').map V.ref)).length = rs'.length := by show (rs'.map V.ref).length = _; rw [List.length_map]
        rw [e, List.take_length] at ht; exact ht
      obtain ⟨Rb, hBb⟩ := vb.ag
      have hpn : ((pkV pb).map (·.1)).Nodup := by rw [pkV_keys]; exact vb.pb.nd
      -- the law's best is the search's
      have hsame : Rb = r.map (·.1) ∧ ∀ x ∈ Rb, pI pb x = pI r x := by
        have d1 := b.top pb Rb ⟨vb, fun _ h => by cases h⟩ hBb
        obtain ⟨r', hr', pk', hat', pm⟩ := hcomp4
        have nd' : (pk'.map (·.1)).Nodup := ((pm.map _).nodup_iff).mpr b.c.v.pb.nd
        have ep : pI pk' = pI r := by funext x; unfold pI; rw [find_perm nd' b.c.v.pb.nd pm]
        have en : nx es pk' = nx es r := by funext x; exact nx_same (by rw [ep])
        obtain ⟨Nr, hBr⟩ := b.ag
        have d2 := ht' r' hr' pk' (r.map (·.1)) hat' ⟨Nr, by rw [en]; exact hBr⟩
        rw [ep] at d2
        exact (fst_diff vb b.c.v hBb ⟨Nr, hBr⟩).eq d1 d2
      obtain ⟨rfl, hs2⟩ := hsame
      obtain ⟨N, hBn⟩ := hBb
      obtain ⟨N', R', hN', hB', hRw', hRl', _⟩ := vb.mt
      obtain rfl := hB'.det hBn
      repeat' walk_at "one"
      all_goals try (exfalso; rename_i hb; revert hb; decide)
      refine AT_CompF1 "_law_ware" ["_law_best"] [] (by rw [hsc]; decide +kernel) GL_nil (.cons LkC.lk .nil) (AI_list ?_)
      repeat' walk_at "one"
      refine fnc (w__law_agenda H S4 (.lst _) ok hpb vb.pb vb.pi (Nat.le_trans hN' (by decide)) hB' ?_)
      refine ⟨_, _, .lst _, lenM (Nat.le_trans hRl' hN') (by decide), fun env' he => CompL_map (f := bvV pb) (comp_local he (by decide +kernel)) trivial _ _ _ (fun X hX K hK => ?_) ?_⟩
      · obtain ⟨y, hy, rfl⟩ := List.mem_map.mp hX
        obtain ⟨m, hm, e⟩ := pI_key b.c.v.pb.nd hy
        have hmb : (y, m) ∈ pb := pI_mem (by rw [hs2 y hy]; exact e)
        have hv : vAt (pkV pb) y = some (.int m) := vAt_mem hpn (List.mem_map.mpr ⟨_, hmb, rfl⟩)
        have hK' : K (.tup [.str y, .int m]) τ := by
          have e2 : bvV pb (.str y) = .tup [.str y, .int m] := by
            show V.tup [.str y, (vAt (pkV pb) y).getD .none] = _
            rw [hv]; rfl
          rw [← e2]; exact hK
        clear hK
        repeat' walk_at "one"
        exact hK'
      rw [List.nil_append, same_list b.c.v.pb.nd hs2 (bvV pb) fun w m h => by
        show V.tup [.str w, (vAt (pkV pb) w).getD .none] = _
        rw [vAt_mem hpn (List.mem_map.mpr ⟨_, pI_mem h, rfl⟩)]; rfl]
      refine C_eqDat (datP fun p hp => (b.c.v.pb.ok p hp).1) (.lst _) (.lst _) ?_
      repeat' walk_at "one"
      exact q _
  · have hr0 : rs = [] := by
      cases rs with
      | nil => rfl
      | cons r0 rs' =>
        obtain ⟨pk, _, h2, h3, h5⟩ := (hrs r0 (.head _)).2
        exact absurd ⟨⟨h2, h3, h5⟩, fun _ h => by cases h⟩ (hno pk)
    subst hr0
    repeat' walk_at "one"
    refine C_eqNl ?_
    repeat' walk_at "one"
    exact qB (q _) (by decide)
end
end Mine
open PySem PySem.W PyProof.Rows
set_option Elab.async false
set_option maxRecDepth 100000
set_option maxHeartbeats 8000000
namespace Mine
theorem intsV {w : World} {D : Mine.Gh} {vs : List Value} {xs : List Int} (h : IntsAre vs xs) : Mine.VRs w D vs (xs.map Mine.V.int) := by
  induction h with
  | nil => exact .nil
  | cons n t _ ih => exact .cons (.int n t) ih
open Classical in
theorem law_of {prog : Program} {w : World} {s₁ : Shared} {mg mb : Str → Option Value} {a : Addr} {vs us : List Value} {xs : List Int} {K : Value → Shared → Prop} {E : Value → Shared → Prop}
    (hg : s₁.heap.Ns mainGlobals mg) (hb : s₁.heap.Ns builtinsNs mb) (hl : s₁.heap.NoLimit) (hbi : ∀ x : Str, x ≠ "__name__" → mb x = bootBuiltins x) (KX : (hd10.heap_1 w.params).In s₁.heap) (hns : ∃ o, s₁.heap.get? sysModules = some o)
    (ha : s₁.heap.get? a = some (Mine.lstO us.toArray 0)) (hL : s₁.heap.IsList a vs.toArray) (hI : IntsAre vs xs) (hx : xs.length ≤ 100)
    (k : ∀ s', (∀ b o, s₁.heap.get? b = some o → s'.heap.get? b = some o) → s'.os = s₁.os → s'.gens = s₁.gens → K (.bool true) s') :
    wpAny (model prog w) callerA (call (.ref 355) [.ref a]) K E s₁ := by
  let C : Mine.Cx := ⟨prog, w, s₁.heap, s₁, mg, mb, hg, hb, hl⟩
  have H : Mine.G1 C := ⟨KX, hbi, hns⟩
  have hv : us = vs := by
    obtain ⟨o, ho, _, n, hd⟩ := hL
    rw [ha] at ho; cases ho
    have : us.toArray = vs.toArray := by
      have h' : Data.seq us.toArray 0 = Data.seq vs.toArray n := hd
      injection h'
    simpa using this
  subst hv
  let D : Mine.Gh := fun b => if b = a then some (Mine.lstO us.toArray 0) else none
  have R : Mine.RelC C (fun b => s₁.heap.get? b) D [] s₁ := ⟨⟨s₁.heap, s₁.toks, rfl⟩, fun _ _ e => e, (fun b o e => by
      have e' : (if b = a then some (Mine.lstO us.toArray 0) else none) = some o := e
      split at e'
      · rename_i hb; subst hb; rw [← e']; exact ha
      · cases e'), fun _ _ e => e, List.nodup_nil, (fun _ h => by cases h), (fun _ h => by cases h), (fun _ h => by cases h), (fun _ h => by cases h)⟩
  have hargs : Mine.VRs C.w D [.ref a] [.lst (xs.map Mine.V.int)] := .cons (.lst (show (if a = a then some (Mine.lstO us.toArray 0) else none) = _ by rw [if_pos rfl]) (intsV hI)) .nil
  have hA : Mine.AOk callerA 14 := ⟨rfl, by decide +kernel, by decide +kernel⟩
  have := Mine.KW_of_CW (Mine.w_law (d := 0) (Q := fun x _ => x = .bool true) H hx fun _ => rfl) callerA _ D s₁ (.ref 355) [.ref a] hA R (.ref 355) hargs
  refine wpAny_mono this (fun v s' ⟨x, D', σ', dx, hv, R', hx⟩ => ?_) fun _ _ e => e.elim
  subst hx
  cases hv
  obtain ⟨h, tk, e⟩ := R'.same
  refine k s' (fun b o e => R'.g b o e) (by rw [e]) (by rw [e])
end Mine
theorem PySem.Challenge.cw_uf010025_10_holds : PySem.Challenge.rw_uf010025_10.Holds := by
  refine Mine.hd10 ?_
  k_fill
  intro w s₀ s₁ mg mb G Y fa o pm cd doc dV kV ho hd hcd hD hmg hg args vals as hpre hlay hrd hwl hlo
  have KX := kIn_of Y
  refine Ground.open G ?_
  intro T B D TE TW
  clear G Y B D TE TW hd hcd hD
  have hfa : fa = 355 := by
    have h1 := mg_of KX T.g (show nsIn (Mine.hd10.heap_1 w.params) mainGlobals "law" = some (some (.ref 355)) from rfl)
    have h2 : mg "law" = some (.ref fa) := hmg
    rw [h1] at h2; injection h2 with h2; injection h2 with h2; exact h2.symm
  subst hfa
  clear hmg
  wrow_args hpre hlay hrd hwl hlo
  rename_i hL _ w1 _ hI _ hc _
  obtain ⟨us, ha⟩ : ∃ us : List Value, s₁.heap.get? _ = some (Mine.lstO us.toArray 0) := by
    cases w1 with
    | list h _ => exact ⟨_, h⟩
  refine Mine.law_of T.g T.b T.nolimit T.builtins KX (by obtain ⟨_, ⟨o, _, _, ho, _⟩, _⟩ := (T.seer (by decide +kernel)).mods; exact ⟨o, ho⟩) ha hL hI (by lia) fun s' h1 h2 h3 => GoodW.toG ⟨.inl ⟨_, .bool true, [], rfl, fun _ => rfl, .bool true, ?_, fun h => ?_⟩, h1, h2, h3.trans hg⟩
  · wrow_post
  · exact ⟨List.nodup_nil, fun a h => by cases h⟩
