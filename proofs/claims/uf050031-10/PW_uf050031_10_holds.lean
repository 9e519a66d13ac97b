import PyProof.Rows.All
import PyProof.CompFree
import PyProof.Walks
import PyProof.StationsW
import PyProof.DictIter
import PyProof.DictKinds
import PyProof.RangeIter
import PyProof.Claim2
import PyProof.Calls
import PyProof.Cells
import PyProof.CallRoads
import PyProof.EvalArms
import PyProof.ForRange
import PyProof.Rows.Own
import PyProof.Rows.Chain
import PyProof.RulesRaise
import PyProof.RulesTry
import PyProof.PassesOwn
import PyProof.Rows.PlainStore
import PyProof.WalksMore
import PyProof.StrWalks
import PyProof.Rows.ListAppend
import PyProof.ListOps
import PyProof.EqLayable
import PyProof.P3In
import PyProof.Rows.EqDataRows
import PyProof.Rows.StrRules
import PyProof.Rows.IntRules
import PyProof.Rows.RuleB_mul
import PyProof.Rows.RuleB_sub
import PyProof.Rows.RuleB_floordiv
import PyProof.Rows.RuleC_int
import PyProof.StrBlock
import PyProof.LetGo
import PyProof.SliceMore
import PyProof.SliceList
import PyProof.SliceStr2
import PyProof.Rows.TupSub
import PyProof.StrLaws
import PyProof.StrLawsIdx
import KE.KRevSl
import PyProof.Rules3
import PyProof.FactsSeq
import PyProof.FactsAll.list_0
import PyProof.FactsAll.str_0
import PyProof.FactsAll.dict_0
import PyProof.Rows.Method
import PyProof.Rows.StrJoin2
import PyProof.Rows.ExtendIn
import PyProof.Rows.ConstEval
import PyProof.IsiPairs
import PyProof.IsiHeapPairs
import PyProof.IsiNone
import PyProof.ListCopy
import PyProof.TupleOps
import PyProof.SetRoads
import PyProof.DictTruth
import KE.LcSums
import PyProof.ForAny
import PyProof.ZipIter
import PyProof.WalksPairs
import PyProof.TupleIter
import PyProof.Rows.SetFrom
import OpenK.Peek
import PyProof.Ends
import PyProof.Rows.SortRunsK
import PyProof.Rows.SortPure
import KE.KSortTup
import PyProof.EqAt
import PyProof.Rows.SortStr
import PyProof.Rows.SortKeyStr
import PyProof.Rows.SortShellK
import PyProof.FactsAll.list_2
import PyProof.P3Eq
import PyProof.SetKind
import PyProof.DictWalks
import PyProof.TableTree
import KE.KDictSum
import PyProof.FactsAll.set_1
import PyProof.FactsAll.set_2
import PyProof.AssignAttr
import PyProof.DictRoads
import PyProof.MeetsDictList
import PyProof.FactsAll.dict_3
import PyProof.Rows.MatchSeqLen
import PyProof.FactsCmp
import PyProof.DictStraight
import KE.KDictList
import PyProof.Rows.MinMaxN
import PyProof.FString5
import PyProof.FactsAll.tuple_1
import KE.KUnpack
import KE.KLcPair
import PyProof.RulesAssignMore
import Wide.All
import OpenK.AllK
import Wide.FinOn
import PySem.Challenge.RW_uf050031_10
set_option Elab.async false
section
set_option maxRecDepth 100000
set_option maxHeartbeats 0
namespace Mine
open PySem PySem.Calls PyProof.Rows PySem.W
noncomputable def vS (s : String) (t : Nat) : Value := .str (Str.ofString s) t
noncomputable def vI (n : Nat) (t : Nat) : Value := .int (Int.ofNat n) t
noncomputable def en (P : Params) (k : String) (t : Nat) (v : Value) : DictEntry := ⟨PyData.keyHash P (Str.ofString k), .str (Str.ofString k) t, v⟩
noncomputable def oTup (l : List Value) : Obj := ⟨.type "tuple", none, .seq ⟨l⟩ 0, #[]⟩
noncomputable def oFld (c : Value) (l : List Value) : Obj := ⟨c, none, .fields ⟨l⟩, #[]⟩
noncomputable def oDict (l : List DictEntry) (n : Nat) : Obj := ⟨.type "dict", none, .dict ⟨l⟩ n, #[]⟩
noncomputable def oCode (a : String) (t1 : Nat) (b : String) (t2 t3 l na fl : Nat) (v8 : Value) (b9 : Bool) (i10 : Nat) (v11 v13 v14 v15 : Value) (i16 t4 : Nat) : Obj :=
  oFld (.type "code") [vS a t1, vS b t2, vS "/claim/cut.py" t3, vI l 0, vI na 0, vI 0 0, vI 0 0, vI fl 0, v8, .bool b9, vI i10 0, v11, .none, v13, v14, v15, vI i16 0, vI l 0, vS "/claim/cut.py" t4]
noncomputable def bodyS : Stmt → List Stmt
  | .FunctionDef _ _ b _ _ _ _ _ _ _ => b
  | .ClassDef _ _ _ b _ _ _ _ _ _ _ => b
  | _ => []
noncomputable def stIn (l : List Stmt) : List Nat → Stmt
  | [] => .Pass ⟨0, 0, 0, 0⟩
  | [i] => l.getD i (.Pass ⟨0, 0, 0, 0⟩)
  | i :: r => stIn (bodyS (l.getD i (.Pass ⟨0, 0, 0, 0⟩))) r
noncomputable def stAt (p : Program) (path : List Nat) : Stmt := stIn p.main.body path
noncomputable def oFn (c : Value) (st : Stmt) (q : String) (g : Nat) (m cd : Value) : Obj := ⟨c, none, match st with
  | .FunctionDef name args body _ _ _ scope _ _ _ => .func { name := name, qualname := Str.ofString q, params := args, body := .stmts body, scope := scope, globals := g, closure := [], defaults := .none, kwdefaults := .none, pyModule := m, code := cd }
  | _ => .plain, #[]⟩
noncomputable abbrev prg : Program := PySem.Challenge.pw_uf050031_10
noncomputable def o0 : Obj := oTup []
noncomputable def o1 : Obj := oFld .none []
noncomputable def o2 : Obj := oCode "<module>" 182 "<module>" 183 184 1 0 0 (.ref 11) false 181 (.ref 12) .none .none .none 185 186
noncomputable def o3 : Obj := ⟨(.type "frame"), none, .plain, ⟨[(some (.ref 13)), (some (.ref 3)), (some (.ref 3)), none, (some (vS "__main__" 164)), none, (some (.ref 0))]⟩⟩
noncomputable def o4 (P : Params) : Obj := oDict [en P "__name__" 165 (vS "law_uf050031_10" 511), en P "__doc__" 166 .none, en P "__package__" 167 .none, en P "__loader__" 168 (.builtin "__main__.__loader__#opaque"), en P "__spec__" 169 .none, en P "__annotations__" 170 (.ref 6), en P "__builtins__" 171 (.ref 4), en P "__file__" 173 (vS "/claim/cut.py" 172), en P "__cached__" 174 .none, en P "_wall" 193 (.ref 21), en P "MeetError" 213 (.ref 31), en P "BadName" 229 (.ref 44), en P "BadRow" 245 (.ref 56), en P "NoRow" 261 (.ref 68), en P "TooMany" 277 (.ref 80), en P "LETTERS" 281 (vS "abcdefghijklmnopqrstuvwxyz" 280), en P "MOST_LETTERS" 283 (vI 8 282), en P "is_name" 289 (.ref 87), en P "rising" 297 (.ref 94), en P "within" 303 (.ref 99), en P "meets" 309 (.ref 104), en P "ranked" 315 (.ref 109), en P "least_of" 321 (.ref 114), en P "grown" 329 (.ref 119), en P "MOST_ROWS" 333 (vI 30 332), en P "MOST_NAMES" 335 (vI 12 334), en P "need_set" 342 (.ref 126), en P "Book" 510 (.ref 261), en P "_law_draw" 520 (.ref 272), en P "_law_names" 526 (.ref 277), en P "_law_row" 537 (.ref 284), en P "_law_meets" 546 (.ref 291), en P "_law_meets_all" 555 (.ref 298), en P "_law_within" 564 (.ref 305), en P "_law_box" 570 (.ref 310), en P "_law_ranked" 576 (.ref 315), en P "_law_least" 582 (.ref 320), en P "_law_idle" 588 (.ref 325), en P "_law_needed" 597 (.ref 332), en P "_law_fewest" 606 (.ref 339), en P "_law_three" 616 (.ref 346), en P "_law_right" 632 (.ref 353), en P "law" 638 (.ref 358)] 43
noncomputable def o5 : Obj := oFld .none [(vI 1 0), (vI 0 0), (.ref 20), (vI 5 0), (vI 0 0), (.ref 27), (vI 7 0), (vI 0 0), (.ref 40), (vI 9 0), (vI 0 0), (.ref 52), (vI 11 0), (vI 0 0), (.ref 64), (vI 13 0), (vI 0 0), (.ref 76), (vI 18 0), (vI 0 0), (.ref 86), (vI 22 0), (vI 0 0), (.ref 93), (vI 27 0), (vI 0 0), (.ref 98), (vI 29 0), (vI 0 0), (.ref 103), (vI 31 0), (vI 0 0), (.ref 108), (vI 37 0), (vI 0 0), (.ref 113), (vI 44 0), (vI 0 0), (.ref 118), (vI 55 0), (vI 0 0), (.ref 125), (vI 59 0), (vI 0 0), (.ref 132), (vI 144 0), (vI 0 0), (.ref 271), (vI 146 0), (vI 0 0), (.ref 276), (vI 159 0), (vI 0 0), (.ref 283), (vI 169 0), (vI 0 0), (.ref 290), (vI 174 0), (vI 0 0), (.ref 297), (vI 179 0), (vI 0 0), (.ref 304), (vI 184 0), (vI 0 0), (.ref 309), (vI 189 0), (vI 0 0), (.ref 314), (vI 191 0), (vI 0 0), (.ref 319), (vI 198 0), (vI 0 0), (.ref 324), (vI 209 0), (vI 0 0), (.ref 331), (vI 217 0), (vI 0 0), (.ref 338), (vI 222 0), (vI 0 0), (.ref 345), (vI 227 0), (vI 0 0), (.ref 352), (vI 240 0), (vI 0 0), (.ref 357)]
noncomputable def o6 : Obj := oTup [(vS "k" 190)]
noncomputable def o7 : Obj := oFn .none (stAt prg [0]) "_wall" 0 .none .none
noncomputable def o8 : Obj := oCode "_wall" 187 "_wall" 188 189 1 1 3 (.ref 15) true 181 (.ref 16) (.ref 17) (.ref 18) (.ref 19) 191 192
noncomputable def o9 : Obj := oFn (.type "function") (stAt prg [0]) "_wall" 3 (vS "__main__" 164) (.ref 20)
noncomputable def o10 : Obj := oTup [(.type "ValueError")]
noncomputable def o11 : Obj := oFld (.type "builtin_function_or_method") [(.builtin "type.__prepare__"), (.type "type")]
noncomputable def o12 (P : Params) : Obj := oDict [en P "__module__" 203 (vS "meetrows.errors" 194), en P "__qualname__" 205 (vS "MeetError" 204), en P "__firstlineno__" 207 (vI 5 206), en P "__static_attributes__" 208 (.ref 29)] 4
noncomputable def o13 : Obj := oCode "MeetError" 198 "MeetError" 199 200 5 0 0 (.ref 25) false 181 (.ref 26) .none .none .none 201 202
noncomputable def o14 : Obj := ⟨(.type "frame"), none, .plain, ⟨[(some (.ref 27)), (some (.ref 3)), (some (.ref 24)), none, (some (vS "meetrows.errors" 194)), none, (some (.ref 0))]⟩⟩
noncomputable def o15 (P : Params) : Obj := oDict [en P "__module__" 203 (vS "meetrows.errors" 194), en P "__firstlineno__" 207 (vI 5 206), en P "__static_attributes__" 208 (.ref 29), en P "__weakref__" 210 (.ref 32), en P "__doc__" 211 .none] 3
noncomputable def o16 : Obj := ⟨(.type "type"), none, .cls { name := Str.ofString "MeetError", bases := [(.type "ValueError")], mro := [(.ref 31), (.type "ValueError"), (.type "Exception"), (.type "BaseException"), (.type "object")], ns := 30, qualname := Str.ofString "MeetError", hasDict := true, subclasses := [(.ref 44), (.ref 56), (.ref 68), (.ref 80)] }, ⟨[(some (.ref 22)), none, (some (vS "MeetError" 196)), (some (vS "MeetError" 204)), (some (.builtin "ValueError.__new__")), (some (.bool true))]⟩⟩
noncomputable def o17 : Obj := oFld (.type "getset_descriptor") [(vS "__weakref__" 209), (.ref 31), (.builtin "ExceptionGroup.__weakref__"), .none]
noncomputable def o18 : Obj := oFld (.type "super") [(.ref 31), (.ref 31), (.ref 31)]
noncomputable def o19 : Obj := oFld (.type "builtin_function_or_method") [(.builtin "object.__init_subclass__"), (.ref 31)]
noncomputable def o20 : Obj := oTup [(.ref 31)]
noncomputable def o21 (P : Params) : Obj := oDict [en P "__module__" 221 (vS "meetrows.errors" 194), en P "__qualname__" 223 (vS "BadName" 222), en P "__firstlineno__" 225 (vI 7 224), en P "__static_attributes__" 226 (.ref 42)] 4
noncomputable def o22 : Obj := oCode "BadName" 216 "BadName" 217 218 7 0 0 (.ref 38) false 181 (.ref 39) .none .none .none 219 220
noncomputable def o23 : Obj := ⟨(.type "frame"), none, .plain, ⟨[(some (.ref 40)), (some (.ref 3)), (some (.ref 37)), none, (some (vS "meetrows.errors" 194)), none, (some (.ref 0))]⟩⟩
noncomputable def o24 (P : Params) : Obj := oDict [en P "__module__" 221 (vS "meetrows.errors" 194), en P "__firstlineno__" 225 (vI 7 224), en P "__static_attributes__" 226 (.ref 42), en P "__doc__" 227 .none] 2
noncomputable def o25 : Obj := ⟨(.type "type"), none, .cls { name := Str.ofString "BadName", bases := [(.ref 31)], mro := [(.ref 44), (.ref 31), (.type "ValueError"), (.type "Exception"), (.type "BaseException"), (.type "object")], ns := 43, qualname := Str.ofString "BadName", hasDict := true, subclasses := [] }, ⟨[(some (.ref 35)), none, (some (vS "BadName" 214)), (some (vS "BadName" 222)), (some (.builtin "ValueError.__new__")), (some (.bool true))]⟩⟩
noncomputable def o26 : Obj := oFld (.type "super") [(.ref 44), (.ref 44), (.ref 44)]
noncomputable def o27 : Obj := oFld (.type "builtin_function_or_method") [(.builtin "object.__init_subclass__"), (.ref 44)]
noncomputable def o28 (P : Params) : Obj := oDict [en P "__module__" 237 (vS "meetrows.errors" 194), en P "__qualname__" 239 (vS "BadRow" 238), en P "__firstlineno__" 241 (vI 9 240), en P "__static_attributes__" 242 (.ref 54)] 4
noncomputable def o29 : Obj := oCode "BadRow" 232 "BadRow" 233 234 9 0 0 (.ref 50) false 181 (.ref 51) .none .none .none 235 236
noncomputable def o30 : Obj := ⟨(.type "frame"), none, .plain, ⟨[(some (.ref 52)), (some (.ref 3)), (some (.ref 49)), none, (some (vS "meetrows.errors" 194)), none, (some (.ref 0))]⟩⟩
noncomputable def o31 (P : Params) : Obj := oDict [en P "__module__" 237 (vS "meetrows.errors" 194), en P "__firstlineno__" 241 (vI 9 240), en P "__static_attributes__" 242 (.ref 54), en P "__doc__" 243 .none] 2
noncomputable def o32 : Obj := ⟨(.type "type"), none, .cls { name := Str.ofString "BadRow", bases := [(.ref 31)], mro := [(.ref 56), (.ref 31), (.type "ValueError"), (.type "Exception"), (.type "BaseException"), (.type "object")], ns := 55, qualname := Str.ofString "BadRow", hasDict := true, subclasses := [] }, ⟨[(some (.ref 47)), none, (some (vS "BadRow" 230)), (some (vS "BadRow" 238)), (some (.builtin "ValueError.__new__")), (some (.bool true))]⟩⟩
noncomputable def o33 : Obj := oFld (.type "super") [(.ref 56), (.ref 56), (.ref 56)]
noncomputable def o34 : Obj := oFld (.type "builtin_function_or_method") [(.builtin "object.__init_subclass__"), (.ref 56)]
noncomputable def o35 (P : Params) : Obj := oDict [en P "__module__" 253 (vS "meetrows.errors" 194), en P "__qualname__" 255 (vS "NoRow" 254), en P "__firstlineno__" 257 (vI 11 256), en P "__static_attributes__" 258 (.ref 66)] 4
noncomputable def o36 : Obj := oCode "NoRow" 248 "NoRow" 249 250 11 0 0 (.ref 62) false 181 (.ref 63) .none .none .none 251 252
noncomputable def o37 : Obj := ⟨(.type "frame"), none, .plain, ⟨[(some (.ref 64)), (some (.ref 3)), (some (.ref 61)), none, (some (vS "meetrows.errors" 194)), none, (some (.ref 0))]⟩⟩
noncomputable def o38 (P : Params) : Obj := oDict [en P "__module__" 253 (vS "meetrows.errors" 194), en P "__firstlineno__" 257 (vI 11 256), en P "__static_attributes__" 258 (.ref 66), en P "__doc__" 259 .none] 2
noncomputable def o39 : Obj := ⟨(.type "type"), none, .cls { name := Str.ofString "NoRow", bases := [(.ref 31)], mro := [(.ref 68), (.ref 31), (.type "ValueError"), (.type "Exception"), (.type "BaseException"), (.type "object")], ns := 67, qualname := Str.ofString "NoRow", hasDict := true, subclasses := [] }, ⟨[(some (.ref 59)), none, (some (vS "NoRow" 246)), (some (vS "NoRow" 254)), (some (.builtin "ValueError.__new__")), (some (.bool true))]⟩⟩
noncomputable def o40 : Obj := oFld (.type "super") [(.ref 68), (.ref 68), (.ref 68)]
noncomputable def o41 : Obj := oFld (.type "builtin_function_or_method") [(.builtin "object.__init_subclass__"), (.ref 68)]
noncomputable def o42 (P : Params) : Obj := oDict [en P "__module__" 269 (vS "meetrows.errors" 194), en P "__qualname__" 271 (vS "TooMany" 270), en P "__firstlineno__" 273 (vI 13 272), en P "__static_attributes__" 274 (.ref 78)] 4
noncomputable def o43 : Obj := oCode "TooMany" 264 "TooMany" 265 266 13 0 0 (.ref 74) false 181 (.ref 75) .none .none .none 267 268
noncomputable def o44 : Obj := ⟨(.type "frame"), none, .plain, ⟨[(some (.ref 76)), (some (.ref 3)), (some (.ref 73)), none, (some (vS "meetrows.errors" 194)), none, (some (.ref 0))]⟩⟩
noncomputable def o45 (P : Params) : Obj := oDict [en P "__module__" 269 (vS "meetrows.errors" 194), en P "__firstlineno__" 273 (vI 13 272), en P "__static_attributes__" 274 (.ref 78), en P "__doc__" 275 .none] 2
noncomputable def o46 : Obj := ⟨(.type "type"), none, .cls { name := Str.ofString "TooMany", bases := [(.ref 31)], mro := [(.ref 80), (.ref 31), (.type "ValueError"), (.type "Exception"), (.type "BaseException"), (.type "object")], ns := 79, qualname := Str.ofString "TooMany", hasDict := true, subclasses := [] }, ⟨[(some (.ref 71)), none, (some (vS "TooMany" 262)), (some (vS "TooMany" 270)), (some (.builtin "ValueError.__new__")), (some (.bool true))]⟩⟩
noncomputable def o47 : Obj := oFld (.type "super") [(.ref 80), (.ref 80), (.ref 80)]
noncomputable def o48 : Obj := oFld (.type "builtin_function_or_method") [(.builtin "object.__init_subclass__"), (.ref 80)]
noncomputable def o49 : Obj := oFn .none (stAt prg [10]) "is_name" 0 .none .none
noncomputable def o50 : Obj := oCode "is_name" 284 "is_name" 285 286 18 1 3 (.ref 83) true 181 (.ref 84) .none .none (.ref 85) 287 288
noncomputable def o51 : Obj := oFn (.type "function") (stAt prg [10]) "is_name" 3 (vS "meetrows.sets" 278) (.ref 86)
noncomputable def o52 : Obj := oTup [(vS "names" 293), (vS "name" 294)]
noncomputable def o53 : Obj := oFn .none (stAt prg [11]) "rising" 0 .none .none
noncomputable def o54 : Obj := oCode "rising" 290 "rising" 291 292 22 1 3 (.ref 88) true 181 (.ref 89) (.ref 90) (.ref 91) (.ref 92) 295 296
noncomputable def o55 : Obj := oFn (.type "function") (stAt prg [11]) "rising" 3 (vS "meetrows.sets" 278) (.ref 93)
noncomputable def o56 : Obj := oFn .none (stAt prg [12]) "within" 0 .none .none
noncomputable def o57 : Obj := oCode "within" 298 "within" 299 300 27 2 3 (.ref 95) true 181 (.ref 96) .none .none (.ref 97) 301 302
noncomputable def o58 : Obj := oFn (.type "function") (stAt prg [12]) "within" 3 (vS "meetrows.sets" 278) (.ref 98)
noncomputable def o59 : Obj := oFn .none (stAt prg [13]) "meets" 0 .none .none
noncomputable def o60 : Obj := oCode "meets" 304 "meets" 305 306 29 2 3 (.ref 100) true 181 (.ref 101) .none .none (.ref 102) 307 308
noncomputable def o61 : Obj := oFn (.type "function") (stAt prg [13]) "meets" 3 (vS "meetrows.sets" 278) (.ref 103)
noncomputable def o62 : Obj := oFn .none (stAt prg [14]) "ranked" 0 .none .none
noncomputable def o63 : Obj := oCode "ranked" 310 "ranked" 311 312 31 1 3 (.ref 105) true 181 (.ref 106) .none .none (.ref 107) 313 314
noncomputable def o64 : Obj := oFn (.type "function") (stAt prg [14]) "ranked" 3 (vS "meetrows.sets" 278) (.ref 108)
noncomputable def o65 : Obj := oFn .none (stAt prg [15]) "least_of" 0 .none .none
noncomputable def o66 : Obj := oCode "least_of" 316 "least_of" 317 318 37 1 3 (.ref 110) true 181 (.ref 111) .none .none (.ref 112) 319 320
noncomputable def o67 : Obj := oFn (.type "function") (stAt prg [15]) "least_of" 3 (vS "meetrows.sets" 278) (.ref 113)
noncomputable def o68 : Obj := oFn .none (stAt prg [17]) "grown" 0 .none .none
noncomputable def o69 : Obj := oCode "grown" 324 "grown" 325 326 44 2 3 (.ref 115) true 181 (.ref 116) .none .none (.ref 117) 327 328
noncomputable def o70 : Obj := oFn (.type "function") (stAt prg [17]) "grown" 3 (vS "meetrows.growing" 322) (.ref 118)
noncomputable def o71 : Obj := oTup [(vS "thing" 339)]
noncomputable def o72 : Obj := oFn .none (stAt prg [21]) "need_set" 0 .none .none
noncomputable def o73 : Obj := oCode "need_set" 336 "need_set" 337 338 55 1 3 (.ref 120) true 181 (.ref 121) (.ref 122) (.ref 123) (.ref 124) 340 341
noncomputable def o74 : Obj := oFn (.type "function") (stAt prg [21]) "need_set" 3 (vS "meetrows.books" 330) (.ref 125)
noncomputable def o75 (P : Params) : Obj := oDict [en P "__module__" 350 (vS "meetrows.books" 330), en P "__qualname__" 352 (vS "Book" 351), en P "__firstlineno__" 354 (vI 59 353), en P "__init__" 361 (.ref 140), en P "put" 371 (.ref 147), en P "take" 379 (.ref 154), en P "rows" 385 (.ref 159), en P "all_sets" 391 (.ref 164), en P "names" 400 (.ref 171), en P "least" 409 (.ref 178), en P "fewest" 417 (.ref 185), en P "is_met" 425 (.ref 192), en P "meets" 433 (.ref 199), en P "pared" 441 (.ref 206), en P "own" 449 (.ref 213), en P "least_rows" 456 (.ref 220), en P "needed" 462 (.ref 225), en P "idle" 468 (.ref 230), en P "struck" 476 (.ref 237), en P "without" 484 (.ref 244), en P "joined" 492 (.ref 251), en P "crossed" 500 (.ref 258), en P "__static_attributes__" 503 (.ref 259)] 23
noncomputable def o76 : Obj := oFld .none [(vI 61 0), (vI 4 0), (.ref 139), (vI 65 0), (vI 4 0), (.ref 146), (vI 78 0), (vI 4 0), (.ref 153), (vI 83 0), (vI 4 0), (.ref 158), (vI 86 0), (vI 4 0), (.ref 163), (vI 89 0), (vI 4 0), (.ref 170), (vI 95 0), (vI 4 0), (.ref 177), (vI 101 0), (vI 4 0), (.ref 184), (vI 107 0), (vI 4 0), (.ref 191), (vI 110 0), (vI 4 0), (.ref 198), (vI 113 0), (vI 4 0), (.ref 205), (vI 116 0), (vI 4 0), (.ref 212), (vI 119 0), (vI 4 0), (.ref 219), (vI 122 0), (vI 4 0), (.ref 224), (vI 128 0), (vI 4 0), (.ref 229), (vI 132 0), (vI 4 0), (.ref 236), (vI 135 0), (vI 4 0), (.ref 243), (vI 138 0), (vI 4 0), (.ref 250), (vI 141 0), (vI 4 0), (.ref 257)]
noncomputable def o77 : Obj := oCode "Book" 345 "Book" 346 347 59 0 0 (.ref 130) false 181 (.ref 131) .none .none .none 348 349
noncomputable def o78 : Obj := ⟨(.type "frame"), none, .plain, ⟨[(some (.ref 132)), (some (.ref 3)), (some (.ref 129)), none, (some (vS "meetrows.books" 330)), none, (some (.ref 0))]⟩⟩
noncomputable def o79 : Obj := oTup [(vS "self" 358)]
noncomputable def o80 : Obj := oFn .none (stAt prg [22, 0]) "Book.__init__" 0 .none .none
noncomputable def o81 : Obj := oCode "__init__" 355 "Book.__init__" 356 357 61 1 3 (.ref 134) true 181 (.ref 135) (.ref 136) (.ref 137) (.ref 138) 359 360
noncomputable def o82 : Obj := oFn (.type "function") (stAt prg [22, 0]) "Book.__init__" 3 (vS "meetrows.books" 330) (.ref 139)
noncomputable def o83 : Obj := oTup [(vS "self" 365), (vS "row" 366), (vS "found" 367), (vS "number" 368)]
noncomputable def o84 : Obj := oFn .none (stAt prg [22, 1]) "Book.put" 0 .none .none
noncomputable def o85 : Obj := oCode "put" 362 "Book.put" 363 364 65 2 3 (.ref 141) true 181 (.ref 142) (.ref 143) (.ref 144) (.ref 145) 369 370
noncomputable def o86 : Obj := oFn (.type "function") (stAt prg [22, 1]) "Book.put" 3 (vS "meetrows.books" 330) (.ref 146)
noncomputable def o87 : Obj := oTup [(vS "self" 375), (vS "number" 376)]
noncomputable def o88 : Obj := oFn .none (stAt prg [22, 2]) "Book.take" 0 .none .none
noncomputable def o89 : Obj := oCode "take" 372 "Book.take" 373 374 78 2 3 (.ref 148) true 181 (.ref 149) (.ref 150) (.ref 151) (.ref 152) 377 378
noncomputable def o90 : Obj := oFn (.type "function") (stAt prg [22, 2]) "Book.take" 3 (vS "meetrows.books" 330) (.ref 153)
noncomputable def o91 : Obj := oFn .none (stAt prg [22, 3]) "Book.rows" 0 .none .none
noncomputable def o92 : Obj := oCode "rows" 380 "Book.rows" 381 382 83 1 3 (.ref 155) true 181 (.ref 156) .none .none (.ref 157) 383 384
noncomputable def o93 : Obj := oFn (.type "function") (stAt prg [22, 3]) "Book.rows" 3 (vS "meetrows.books" 330) (.ref 158)
noncomputable def o94 : Obj := oFn .none (stAt prg [22, 4]) "Book.all_sets" 0 .none .none
noncomputable def o95 : Obj := oCode "all_sets" 386 "Book.all_sets" 387 388 86 1 3 (.ref 160) true 181 (.ref 161) .none .none (.ref 162) 389 390
noncomputable def o96 : Obj := oFn (.type "function") (stAt prg [22, 4]) "Book.all_sets" 3 (vS "meetrows.books" 330) (.ref 163)
noncomputable def o97 : Obj := oTup [(vS "self" 395), (vS "found" 396), (vS "row" 397)]
noncomputable def o98 : Obj := oFn .none (stAt prg [22, 5]) "Book.names" 0 .none .none
noncomputable def o99 : Obj := oCode "names" 392 "Book.names" 393 394 89 1 3 (.ref 165) true 181 (.ref 166) (.ref 167) (.ref 168) (.ref 169) 398 399
noncomputable def o100 : Obj := oFn (.type "function") (stAt prg [22, 5]) "Book.names" 3 (vS "meetrows.books" 330) (.ref 170)
noncomputable def o101 : Obj := oTup [(vS "self" 404), (vS "found" 405), (vS "row" 406)]
noncomputable def o102 : Obj := oFn .none (stAt prg [22, 6]) "Book.least" 0 .none .none
noncomputable def o103 : Obj := oCode "least" 401 "Book.least" 402 403 95 1 3 (.ref 172) true 181 (.ref 173) (.ref 174) (.ref 175) (.ref 176) 407 408
noncomputable def o104 : Obj := oFn (.type "function") (stAt prg [22, 6]) "Book.least" 3 (vS "meetrows.books" 330) (.ref 177)
noncomputable def o105 : Obj := oTup [(vS "self" 413), (vS "found" 414)]
noncomputable def o106 : Obj := oFn .none (stAt prg [22, 7]) "Book.fewest" 0 .none .none
noncomputable def o107 : Obj := oCode "fewest" 410 "Book.fewest" 411 412 101 1 3 (.ref 179) true 181 (.ref 180) (.ref 181) (.ref 182) (.ref 183) 415 416
noncomputable def o108 : Obj := oFn (.type "function") (stAt prg [22, 7]) "Book.fewest" 3 (vS "meetrows.books" 330) (.ref 184)
noncomputable def o109 : Obj := oTup [(vS "self" 421), (vS "names" 422)]
noncomputable def o110 : Obj := oFn .none (stAt prg [22, 8]) "Book.is_met" 0 .none .none
noncomputable def o111 : Obj := oCode "is_met" 418 "Book.is_met" 419 420 107 2 3 (.ref 186) true 181 (.ref 187) (.ref 188) (.ref 189) (.ref 190) 423 424
noncomputable def o112 : Obj := oFn (.type "function") (stAt prg [22, 8]) "Book.is_met" 3 (vS "meetrows.books" 330) (.ref 191)
noncomputable def o113 : Obj := oTup [(vS "self" 429), (vS "names" 430)]
noncomputable def o114 : Obj := oFn .none (stAt prg [22, 9]) "Book.meets" 0 .none .none
noncomputable def o115 : Obj := oCode "meets" 426 "Book.meets" 427 428 110 2 3 (.ref 193) true 181 (.ref 194) (.ref 195) (.ref 196) (.ref 197) 431 432
noncomputable def o116 : Obj := oFn (.type "function") (stAt prg [22, 9]) "Book.meets" 3 (vS "meetrows.books" 330) (.ref 198)
noncomputable def o117 : Obj := oTup [(vS "self" 437), (vS "names" 438)]
noncomputable def o118 : Obj := oFn .none (stAt prg [22, 10]) "Book.pared" 0 .none .none
noncomputable def o119 : Obj := oCode "pared" 434 "Book.pared" 435 436 113 2 3 (.ref 200) true 181 (.ref 201) (.ref 202) (.ref 203) (.ref 204) 439 440
noncomputable def o120 : Obj := oFn (.type "function") (stAt prg [22, 10]) "Book.pared" 3 (vS "meetrows.books" 330) (.ref 205)
noncomputable def o121 : Obj := oTup [(vS "self" 445), (vS "names" 446)]
noncomputable def o122 : Obj := oFn .none (stAt prg [22, 11]) "Book.own" 0 .none .none
noncomputable def o123 : Obj := oCode "own" 442 "Book.own" 443 444 116 2 3 (.ref 207) true 181 (.ref 208) (.ref 209) (.ref 210) (.ref 211) 447 448
noncomputable def o124 : Obj := oFn (.type "function") (stAt prg [22, 11]) "Book.own" 3 (vS "meetrows.books" 330) (.ref 212)
noncomputable def o125 : Obj := oTup [(vS "self" 453)]
noncomputable def o126 : Obj := oFn .none (stAt prg [22, 12]) "Book.least_rows" 0 .none .none
noncomputable def o127 : Obj := oCode "least_rows" 450 "Book.least_rows" 451 452 119 1 3 (.ref 214) true 181 (.ref 215) (.ref 216) (.ref 217) (.ref 218) 454 455
noncomputable def o128 : Obj := oFn (.type "function") (stAt prg [22, 12]) "Book.least_rows" 3 (vS "meetrows.books" 330) (.ref 219)
noncomputable def o129 : Obj := oFn .none (stAt prg [22, 13]) "Book.needed" 0 .none .none
noncomputable def o130 : Obj := oCode "needed" 457 "Book.needed" 458 459 122 1 3 (.ref 221) true 181 (.ref 222) .none .none (.ref 223) 460 461
noncomputable def o131 : Obj := oFn (.type "function") (stAt prg [22, 13]) "Book.needed" 3 (vS "meetrows.books" 330) (.ref 224)
noncomputable def o132 : Obj := oFn .none (stAt prg [22, 14]) "Book.idle" 0 .none .none
noncomputable def o133 : Obj := oCode "idle" 463 "Book.idle" 464 465 128 1 3 (.ref 226) true 181 (.ref 227) .none .none (.ref 228) 466 467
noncomputable def o134 : Obj := oFn (.type "function") (stAt prg [22, 14]) "Book.idle" 3 (vS "meetrows.books" 330) (.ref 229)
noncomputable def o135 : Obj := oTup [(vS "self" 472), (vS "name" 473)]
noncomputable def o136 : Obj := oFn .none (stAt prg [22, 15]) "Book.struck" 0 .none .none
noncomputable def o137 : Obj := oCode "struck" 469 "Book.struck" 470 471 132 2 3 (.ref 231) true 181 (.ref 232) (.ref 233) (.ref 234) (.ref 235) 474 475
noncomputable def o138 : Obj := oFn (.type "function") (stAt prg [22, 15]) "Book.struck" 3 (vS "meetrows.books" 330) (.ref 236)
noncomputable def o139 : Obj := oTup [(vS "self" 480), (vS "name" 481)]
noncomputable def o140 : Obj := oFn .none (stAt prg [22, 16]) "Book.without" 0 .none .none
noncomputable def o141 : Obj := oCode "without" 477 "Book.without" 478 479 135 2 3 (.ref 238) true 181 (.ref 239) (.ref 240) (.ref 241) (.ref 242) 482 483
noncomputable def o142 : Obj := oFn (.type "function") (stAt prg [22, 16]) "Book.without" 3 (vS "meetrows.books" 330) (.ref 243)
noncomputable def o143 : Obj := oTup [(vS "self" 488), (vS "other" 489)]
noncomputable def o144 : Obj := oFn .none (stAt prg [22, 17]) "Book.joined" 0 .none .none
noncomputable def o145 : Obj := oCode "joined" 485 "Book.joined" 486 487 138 2 3 (.ref 245) true 181 (.ref 246) (.ref 247) (.ref 248) (.ref 249) 490 491
noncomputable def o146 : Obj := oFn (.type "function") (stAt prg [22, 17]) "Book.joined" 3 (vS "meetrows.books" 330) (.ref 250)
noncomputable def o147 : Obj := oTup [(vS "self" 496), (vS "other" 497)]
noncomputable def o148 : Obj := oFn .none (stAt prg [22, 18]) "Book.crossed" 0 .none .none
noncomputable def o149 : Obj := oCode "crossed" 493 "Book.crossed" 494 495 141 2 3 (.ref 252) true 181 (.ref 253) (.ref 254) (.ref 255) (.ref 256) 498 499
noncomputable def o150 : Obj := oFn (.type "function") (stAt prg [22, 18]) "Book.crossed" 3 (vS "meetrows.books" 330) (.ref 257)
noncomputable def o151 : Obj := oTup [(vS "coming" 501), (vS "kept" 502)]
noncomputable def o152 (P : Params) : Obj := oDict [en P "__module__" 350 (vS "meetrows.books" 330), en P "__firstlineno__" 354 (vI 59 353), en P "__init__" 361 (.ref 140), en P "put" 371 (.ref 147), en P "take" 379 (.ref 154), en P "rows" 385 (.ref 159), en P "all_sets" 391 (.ref 164), en P "names" 400 (.ref 171), en P "least" 409 (.ref 178), en P "fewest" 417 (.ref 185), en P "is_met" 425 (.ref 192), en P "meets" 433 (.ref 199), en P "pared" 441 (.ref 206), en P "own" 449 (.ref 213), en P "least_rows" 456 (.ref 220), en P "needed" 462 (.ref 225), en P "idle" 468 (.ref 230), en P "struck" 476 (.ref 237), en P "without" 484 (.ref 244), en P "joined" 492 (.ref 251), en P "crossed" 500 (.ref 258), en P "__static_attributes__" 503 (.ref 259), en P "__dict__" 505 (.ref 262), en P "__weakref__" 507 (.ref 263), en P "__doc__" 508 .none] 4
noncomputable def o153 : Obj := ⟨(.type "type"), none, .cls { name := Str.ofString "Book", bases := [(.type "object")], mro := [(.ref 261), (.type "object")], ns := 260, qualname := Str.ofString "Book", hasDict := true, subclasses := [] }, ⟨[none, none, (some (vS "Book" 343)), (some (vS "Book" 351)), (some (.builtin "object.__new__")), (some (.bool true))]⟩⟩
noncomputable def o154 : Obj := oFld (.type "getset_descriptor") [(vS "__dict__" 504), (.ref 261), (.builtin "function.__dict__"), (.builtin "function.__dict__#set")]
noncomputable def o155 : Obj := oFld (.type "getset_descriptor") [(vS "__weakref__" 506), (.ref 261), (.builtin "ExceptionGroup.__weakref__"), .none]
noncomputable def o156 : Obj := oFld (.type "super") [(.ref 261), (.ref 261), (.ref 261)]
noncomputable def o157 : Obj := oFld (.type "builtin_function_or_method") [(.builtin "object.__init_subclass__"), (.ref 261)]
noncomputable def o158 : Obj := oTup [(vS "_law_script" 516), (vS "_law_k" 517)]
noncomputable def o159 : Obj := oFn .none (stAt prg [24]) "_law_draw" 0 .none .none
noncomputable def o160 : Obj := oCode "_law_draw" 513 "_law_draw" 514 515 144 2 3 (.ref 266) true 181 (.ref 267) (.ref 268) (.ref 269) (.ref 270) 518 519
noncomputable def o161 : Obj := oFn (.type "function") (stAt prg [24]) "_law_draw" 3 (vS "law_uf050031_10" 511) (.ref 271)
noncomputable def o162 : Obj := oFn .none (stAt prg [25]) "_law_names" 0 .none .none
noncomputable def o163 : Obj := oCode "_law_names" 521 "_law_names" 522 523 146 1 3 (.ref 273) true 181 (.ref 274) .none .none (.ref 275) 524 525
noncomputable def o164 : Obj := oFn (.type "function") (stAt prg [25]) "_law_names" 3 (vS "law_uf050031_10" 511) (.ref 276)
noncomputable def o165 : Obj := oTup [(vS "_law_names_here" 530), (vS "_law_cell" 531), (vS "_law_found" 532), (vS "_law_bits" 533), (vS "_law_name" 534)]
noncomputable def o166 : Obj := oFn .none (stAt prg [26]) "_law_row" 0 .none .none
noncomputable def o167 : Obj := oCode "_law_row" 527 "_law_row" 528 529 159 2 3 (.ref 278) true 181 (.ref 279) (.ref 280) (.ref 281) (.ref 282) 535 536
noncomputable def o168 : Obj := oFn (.type "function") (stAt prg [26]) "_law_row" 3 (vS "law_uf050031_10" 511) (.ref 283)
noncomputable def o169 : Obj := oTup [(vS "_law_one" 541), (vS "_law_row_here" 542), (vS "_law_name" 543)]
noncomputable def o170 : Obj := oFn .none (stAt prg [27]) "_law_meets" 0 .none .none
noncomputable def o171 : Obj := oCode "_law_meets" 538 "_law_meets" 539 540 169 2 3 (.ref 285) true 181 (.ref 286) (.ref 287) (.ref 288) (.ref 289) 544 545
noncomputable def o172 : Obj := oFn (.type "function") (stAt prg [27]) "_law_meets" 3 (vS "law_uf050031_10" 511) (.ref 290)
noncomputable def o173 : Obj := oTup [(vS "_law_one" 550), (vS "_law_rows" 551), (vS "_law_row_here" 552)]
noncomputable def o174 : Obj := oFn .none (stAt prg [28]) "_law_meets_all" 0 .none .none
noncomputable def o175 : Obj := oCode "_law_meets_all" 547 "_law_meets_all" 548 549 174 2 3 (.ref 292) true 181 (.ref 293) (.ref 294) (.ref 295) (.ref 296) 553 554
noncomputable def o176 : Obj := oFn (.type "function") (stAt prg [28]) "_law_meets_all" 3 (vS "law_uf050031_10" 511) (.ref 297)
noncomputable def o177 : Obj := oTup [(vS "_law_one" 559), (vS "_law_other" 560), (vS "_law_name" 561)]
noncomputable def o178 : Obj := oFn .none (stAt prg [29]) "_law_within" 0 .none .none
noncomputable def o179 : Obj := oCode "_law_within" 556 "_law_within" 557 558 179 2 3 (.ref 299) true 181 (.ref 300) (.ref 301) (.ref 302) (.ref 303) 562 563
noncomputable def o180 : Obj := oFn (.type "function") (stAt prg [29]) "_law_within" 3 (vS "law_uf050031_10" 511) (.ref 304)
noncomputable def o181 : Obj := oFn .none (stAt prg [30]) "_law_box" 0 .none .none
noncomputable def o182 : Obj := oCode "_law_box" 565 "_law_box" 566 567 184 1 3 (.ref 306) true 181 (.ref 307) .none .none (.ref 308) 568 569
noncomputable def o183 : Obj := oFn (.type "function") (stAt prg [30]) "_law_box" 3 (vS "law_uf050031_10" 511) (.ref 309)
noncomputable def o184 : Obj := oFn .none (stAt prg [31]) "_law_ranked" 0 .none .none
noncomputable def o185 : Obj := oCode "_law_ranked" 571 "_law_ranked" 572 573 189 1 3 (.ref 311) true 181 (.ref 312) .none .none (.ref 313) 574 575
noncomputable def o186 : Obj := oFn (.type "function") (stAt prg [31]) "_law_ranked" 3 (vS "law_uf050031_10" 511) (.ref 314)
noncomputable def o187 : Obj := oFn .none (stAt prg [32]) "_law_least" 0 .none .none
noncomputable def o188 : Obj := oCode "_law_least" 577 "_law_least" 578 579 191 2 3 (.ref 316) true 181 (.ref 317) .none .none (.ref 318) 580 581
noncomputable def o189 : Obj := oFn (.type "function") (stAt prg [32]) "_law_least" 3 (vS "law_uf050031_10" 511) (.ref 319)
noncomputable def o190 : Obj := oFn .none (stAt prg [33]) "_law_idle" 0 .none .none
noncomputable def o191 : Obj := oCode "_law_idle" 583 "_law_idle" 584 585 198 1 3 (.ref 321) true 181 (.ref 322) .none .none (.ref 323) 586 587
noncomputable def o192 : Obj := oFn (.type "function") (stAt prg [33]) "_law_idle" 3 (vS "law_uf050031_10" 511) (.ref 324)
noncomputable def o193 : Obj := oTup [(vS "_law_rows" 592), (vS "_law_found" 593), (vS "_law_row_here" 594)]
noncomputable def o194 : Obj := oFn .none (stAt prg [34]) "_law_needed" 0 .none .none
noncomputable def o195 : Obj := oCode "_law_needed" 589 "_law_needed" 590 591 209 1 3 (.ref 326) true 181 (.ref 327) (.ref 328) (.ref 329) (.ref 330) 595 596
noncomputable def o196 : Obj := oFn (.type "function") (stAt prg [34]) "_law_needed" 3 (vS "law_uf050031_10" 511) (.ref 331)
noncomputable def o197 : Obj := oTup [(vS "_law_names_here" 601), (vS "_law_rows" 602), (vS "_law_one" 603)]
noncomputable def o198 : Obj := oFn .none (stAt prg [35]) "_law_fewest" 0 .none .none
noncomputable def o199 : Obj := oCode "_law_fewest" 598 "_law_fewest" 599 600 217 2 3 (.ref 333) true 181 (.ref 334) (.ref 335) (.ref 336) (.ref 337) 604 605
noncomputable def o200 : Obj := oFn (.type "function") (stAt prg [35]) "_law_fewest" 3 (vS "law_uf050031_10" 511) (.ref 338)
noncomputable def o201 : Obj := oTup [(vS "_law_book" 610), (vS "_law_turn" 611), (vS "_law_found" 612), (vS "_law_way" 613)]
noncomputable def o202 : Obj := oFn .none (stAt prg [36]) "_law_three" 0 .none .none
noncomputable def o203 : Obj := oCode "_law_three" 607 "_law_three" 608 609 222 2 3 (.ref 340) true 181 (.ref 341) (.ref 342) (.ref 343) (.ref 344) 614 615
noncomputable def o204 : Obj := oFn (.type "function") (stAt prg [36]) "_law_three" 3 (vS "law_uf050031_10" 511) (.ref 345)
noncomputable def o205 : Obj := oTup [(vS "_law_book" 620), (vS "_law_names_here" 621), (vS "_law_rows" 622), (vS "_law_held" 623), (vS "_law_turn" 624), (vS "_law_needed_here" 625), (vS "_law_idle_here" 626), (vS "_law_fewest_here" 627), (vS "_law_due" 628), (vS "_law_again" 629)]
noncomputable def o206 : Obj := oFn .none (stAt prg [37]) "_law_right" 0 .none .none
noncomputable def o207 : Obj := oCode "_law_right" 617 "_law_right" 618 619 227 5 3 (.ref 347) true 181 (.ref 348) (.ref 349) (.ref 350) (.ref 351) 630 631
noncomputable def o208 : Obj := oFn (.type "function") (stAt prg [37]) "_law_right" 3 (vS "law_uf050031_10" 511) (.ref 352)
noncomputable def o209 : Obj := oFn .none (stAt prg [38]) "law" 0 .none .none
noncomputable def o210 : Obj := oCode "law" 633 "law" 634 635 240 1 3 (.ref 354) true 181 (.ref 355) .none .none (.ref 356) 636 637
noncomputable def o211 : Obj := oFn (.type "function") (stAt prg [38]) "law" 3 (vS "law_uf050031_10" 511) (.ref 357)
noncomputable def hpA (P : Params) : Heap := ⟨⟨[(boot_o_0 P), (boot_o_1 P), (boot_o_2 P), (boot_o_3 P), (boot_o_4 P), (boot_o_5 P), (boot_o_6 P), (boot_o_7 P), (boot_o_8 P), (boot_o_9 P), (boot_o_10 P), o0, o1, o2, o3]⟩, {}⟩
noncomputable def trA (P : Params) : BT := (.node (boot_o_0 P) (.node (boot_o_1 P) (.node (boot_o_3 P) (.node (boot_o_7 P) .nil .nil) (.node o0 .nil .nil)) (.node (boot_o_5 P) (.node (boot_o_9 P) .nil .nil) (.node o2 .nil .nil))) (.node (boot_o_2 P) (.node (boot_o_4 P) (.node (boot_o_8 P) .nil .nil) (.node o1 .nil .nil)) (.node (boot_o_6 P) (.node (boot_o_10 P) .nil .nil) (.node o3 .nil .nil))))
noncomputable def hpZ (P : Params) : Heap := ⟨⟨[(boot_o_0 P), (boot_o_1 P), (boot_o_2 P), (o4 P), (boot_o_4 P), (boot_o_5 P), (boot_o_6 P), (boot_o_7 P), (boot_o_8 P), (boot_o_9 P), (boot_o_10 P), o0, o5, o2, o3, o0, o1, o6, o0, o7, o8, o9, o10, o11, (o12 P), o0, o1, o13, o14, o0, (o15 P), o16, o17, o18, o19, o20, o11, (o21 P), o0, o1, o22, o23, o0, (o24 P), o25, o26, o27, o20, o11, (o28 P), o0, o1, o29, o30, o0, (o31 P), o32, o33, o34, o20, o11, (o35 P), o0, o1, o36, o37, o0, (o38 P), o39, o40, o41, o20, o11, (o42 P), o0, o1, o43, o44, o0, (o45 P), o46, o47, o48, o0, o1, o49, o50, o51, o0, o1, o52, o0, o53, o54, o55, o0, o1, o56, o57, o58, o0, o1, o59, o60, o61, o0, o1, o62, o63, o64, o0, o1, o65, o66, o67, o0, o1, o68, o69, o70, o0, o1, o71, o0, o72, o73, o74, o0, o11, (o75 P), o0, o76, o77, o78, o0, o1, o79, o0, o80, o81, o82, o0, o1, o83, o0, o84, o85, o86, o0, o1, o87, o0, o88, o89, o90, o0, o1, o91, o92, o93, o0, o1, o94, o95, o96, o0, o1, o97, o0, o98, o99, o100, o0, o1, o101, o0, o102, o103, o104, o0, o1, o105, o0, o106, o107, o108, o0, o1, o109, o0, o110, o111, o112, o0, o1, o113, o0, o114, o115, o116, o0, o1, o117, o0, o118, o119, o120, o0, o1, o121, o0, o122, o123, o124, o0, o1, o125, o0, o126, o127, o128, o0, o1, o129, o130, o131, o0, o1, o132, o133, o134, o0, o1, o135, o0, o136, o137, o138, o0, o1, o139, o0, o140, o141, o142, o0, o1, o143, o0, o144, o145, o146, o0, o1, o147, o0, o148, o149, o150, o151, (o152 P), o153, o154, o155, o156, o157, o0, o1, o158, o0, o159, o160, o161, o0, o1, o162, o163, o164, o0, o1, o165, o0, o166, o167, o168, o0, o1, o169, o0, o170, o171, o172, o0, o1, o173, o0, o174, o175, o176, o0, o1, o177, o0, o178, o179, o180, o0, o1, o181, o182, o183, o0, o1, o184, o185, o186, o0, o1, o187, o188, o189, o0, o1, o190, o191, o192, o0, o1, o193, o0, o194, o195, o196, o0, o1, o197, o0, o198, o199, o200, o0, o1, o201, o0, o202, o203, o204, o0, o1, o205, o0, o206, o207, o208, o0, o1, o209, o210, o211]⟩, {}⟩
noncomputable def trZ (P : Params) : BT := (.node (boot_o_0 P) (.node (boot_o_1 P) (.node (o4 P) (.node (boot_o_7 P) (.node o0 (.node o16 (.node o1 (.node o0 (.node o0 .nil .nil) .nil) (.node o111 (.node o188 .nil .nil) .nil)) (.node o0 (.node o93 (.node o169 .nil .nil) .nil) (.node o129 (.node o206 .nil .nil) .nil))) (.node o20 (.node (o45 P) (.node o83 (.node o160 .nil .nil) .nil) (.node o0 (.node o197 .nil .nil) .nil)) (.node o1 (.node o0 (.node o178 .nil .nil) .nil) (.node o1 .nil .nil)))) (.node o11 (.node o1 (.node o20 (.node o1 (.node o155 .nil .nil) .nil) (.node o116 (.node o1 .nil .nil) .nil)) (.node o60 (.node o97 (.node o0 .nil .nil) .nil) (.node o0 .nil .nil))) (.node (o31 P) (.node o51 (.node o0 (.node o1 .nil .nil) .nil) (.node o1 (.node o0 .nil .nil) .nil)) (.node o70 (.node o106 (.node o0 .nil .nil) .nil) (.node o143 .nil .nil))))) (.node o0 (.node o7 (.node o20 (.node (o38 P) (.node o76 (.node o151 .nil .nil) .nil) (.node o113 (.node o190 .nil .nil) .nil)) (.node o58 (.node o95 (.node o172 .nil .nil) .nil) (.node o1 (.node o1 .nil .nil) .nil))) (.node o1 (.node o0 (.node o86 (.node o162 .nil .nil) .nil) (.node o122 (.node o200 .nil .nil) .nil)) (.node o0 (.node o0 (.node o1 .nil .nil) .nil) (.node o141 .nil .nil)))) (.node o13 (.node (o24 P) (.node o1 (.node o81 (.node o1 .nil .nil) .nil) (.node o0 (.node o195 .nil .nil) .nil)) (.node o62 (.node o100 (.node o0 .nil .nil) .nil) (.node o136 .nil .nil))) (.node o20 (.node o0 (.node o0 (.node o167 .nil .nil) .nil) (.node o127 (.node o0 .nil .nil) .nil)) (.node o0 (.node o1 (.node o186 .nil .nil) .nil) (.node o146 .nil .nil)))))) (.node (boot_o_5 P) (.node (boot_o_9 P) (.node o6 (.node o18 (.node o37 (.node (o75 P) (.node o149 .nil .nil) .nil) (.node o0 (.node o0 .nil .nil) .nil)) (.node o56 (.node o1 (.node o170 .nil .nil) .nil) (.node o131 (.node o208 .nil .nil) .nil))) (.node (o28 P) (.node o47 (.node o84 (.node o0 .nil .nil) .nil) (.node o121 (.node o198 .nil .nil) .nil)) (.node o66 (.node o103 (.node o180 .nil .nil) .nil) (.node o0 .nil .nil)))) (.node o0 (.node o23 (.node (o42 P) (.node o0 (.node o157 .nil .nil) .nil) (.node o1 (.node o0 .nil .nil) .nil)) (.node o0 (.node o98 (.node o175 .nil .nil) .nil) (.node o135 .nil .nil))) (.node o33 (.node o1 (.node o89 (.node o0 .nil .nil) .nil) (.node o0 (.node o203 .nil .nil) .nil)) (.node o1 (.node o108 (.node o184 .nil .nil) .nil) (.node o144 .nil .nil))))) (.node o2 (.node o9 (.node (o21 P) (.node o40 (.node o78 (.node o153 .nil .nil) .nil) (.node o114 (.node o192 .nil .nil) .nil)) (.node o1 (.node o0 (.node o1 .nil .nil) .nil) (.node o133 (.node o210 .nil .nil) .nil))) (.node o30 (.node o49 (.node o1 (.node o164 .nil .nil) .nil) (.node o124 (.node o1 .nil .nil) .nil)) (.node o68 (.node o105 (.node o182 .nil .nil) .nil) (.node o0 .nil .nil)))) (.node o0 (.node o26 (.node o44 (.node o0 (.node o0 .nil .nil) .nil) (.node o119 (.node o0 .nil .nil) .nil)) (.node o64 (.node o1 (.node o177 .nil .nil) .nil) (.node o138 .nil .nil))) (.node (o35 P) (.node o54 (.node o91 (.node o0 .nil .nil) .nil) (.node o0 (.node o205 .nil .nil) .nil)) (.node o73 (.node o0 (.node o1 .nil .nil) .nil) (.node o1 .nil .nil))))))) (.node (boot_o_2 P) (.node (boot_o_4 P) (.node (boot_o_8 P) (.node o1 (.node o17 (.node o36 (.node o11 (.node o148 .nil .nil) .nil) (.node o112 (.node o189 .nil .nil) .nil)) (.node o1 (.node o0 (.node o0 .nil .nil) .nil) (.node o130 (.node o207 .nil .nil) .nil))) (.node o11 (.node o46 (.node o0 (.node o161 .nil .nil) .nil) (.node o1 (.node o0 .nil .nil) .nil)) (.node o65 (.node o102 (.node o179 .nil .nil) .nil) (.node o139 .nil .nil)))) (.node (o12 P) (.node o22 (.node o11 (.node o79 (.node o156 .nil .nil) .nil) (.node o0 (.node o193 .nil .nil) .nil)) (.node o61 (.node o0 (.node o174 .nil .nil) .nil) (.node o1 .nil .nil))) (.node o32 (.node o0 (.node o88 (.node o165 .nil .nil) .nil) (.node o125 (.node o202 .nil .nil) .nil)) (.node o0 (.node o107 (.node o1 .nil .nil) .nil) (.node o0 .nil .nil))))) (.node o5 (.node o8 (.node o11 (.node o39 (.node o77 (.node (o152 P) .nil .nil) .nil) (.node o0 (.node o191 .nil .nil) .nil)) (.node o0 (.node o96 (.node o0 .nil .nil) .nil) (.node o132 (.node o209 .nil .nil) .nil))) (.node o29 (.node o1 (.node o0 (.node o163 .nil .nil) .nil) (.node o123 (.node o0 .nil .nil) .nil)) (.node o1 (.node o1 (.node o181 .nil .nil) .nil) (.node o142 .nil .nil)))) (.node o14 (.node o25 (.node o43 (.node o82 (.node o158 .nil .nil) .nil) (.node o118 (.node o196 .nil .nil) .nil)) (.node o63 (.node o0 (.node o1 .nil .nil) .nil) (.node o137 .nil .nil))) (.node o11 (.node o53 (.node o1 (.node o168 .nil .nil) .nil) (.node o128 (.node o1 .nil .nil) .nil)) (.node o72 (.node o109 (.node o0 .nil .nil) .nil) (.node o0 .nil .nil)))))) (.node (boot_o_6 P) (.node (boot_o_10 P) (.node o0 (.node o19 (.node o0 (.node o0 (.node o150 .nil .nil) .nil) (.node o1 (.node o1 .nil .nil) .nil)) (.node o57 (.node o94 (.node o171 .nil .nil) .nil) (.node o0 (.node o0 .nil .nil) .nil))) (.node o0 (.node o48 (.node o85 (.node o1 .nil .nil) .nil) (.node o0 (.node o199 .nil .nil) .nil)) (.node o67 (.node o104 (.node o0 .nil .nil) .nil) (.node o140 .nil .nil)))) (.node o1 (.node o0 (.node o0 (.node o80 (.node o0 .nil .nil) .nil) (.node o117 (.node o194 .nil .nil) .nil)) (.node o1 (.node o99 (.node o176 .nil .nil) .nil) (.node o0 .nil .nil))) (.node o34 (.node o52 (.node o90 (.node o166 .nil .nil) .nil) (.node o126 (.node o204 .nil .nil) .nil)) (.node o71 (.node o0 (.node o185 .nil .nil) .nil) (.node o145 .nil .nil))))) (.node o3 (.node o10 (.node o0 (.node o41 (.node o0 (.node o154 .nil .nil) .nil) (.node o115 (.node o0 .nil .nil) .nil)) (.node o59 (.node o1 (.node o173 .nil .nil) .nil) (.node o134 (.node o211 .nil .nil) .nil))) (.node o0 (.node o50 (.node o87 (.node o0 .nil .nil) .nil) (.node o0 (.node o201 .nil .nil) .nil)) (.node o69 (.node o0 (.node o183 .nil .nil) .nil) (.node o1 .nil .nil)))) (.node (o15 P) (.node o27 (.node o0 (.node o1 (.node o159 .nil .nil) .nil) (.node o120 (.node o1 .nil .nil) .nil)) (.node o0 (.node o101 (.node o0 .nil .nil) .nil) (.node o0 .nil .nil))) (.node o0 (.node o55 (.node o92 (.node o1 .nil .nil) .nil) (.node o1 (.node o0 .nil .nil) .nil)) (.node o74 (.node o110 (.node o187 .nil .nil) .nil) (.node o147 .nil .nil))))))))
noncomputable def KK (P : Params) : Frag := [(2, (boot_o_2 P)), (3, (o4 P)), (15, o0), (17, o6), (18, o0), (20, o8), (21, o9), (22, o10), (29, o0), (30, (o15 P)), (31, o16), (32, o17), (35, o20), (42, o0), (43, (o24 P)), (44, o25), (47, o20), (54, o0), (55, (o31 P)), (56, o32), (59, o20), (66, o0), (67, (o38 P)), (68, o39), (71, o20), (78, o0), (79, (o45 P)), (80, o46), (83, o0), (86, o50), (87, o51), (88, o0), (90, o52), (91, o0), (93, o54), (94, o55), (95, o0), (98, o57), (99, o58), (100, o0), (103, o60), (104, o61), (105, o0), (108, o63), (109, o64), (110, o0), (113, o66), (114, o67), (115, o0), (118, o69), (119, o70), (120, o0), (122, o71), (123, o0), (125, o73), (126, o74), (134, o0), (136, o79), (137, o0), (139, o81), (140, o82), (141, o0), (143, o83), (144, o0), (146, o85), (147, o86), (148, o0), (150, o87), (151, o0), (153, o89), (154, o90), (155, o0), (158, o92), (159, o93), (160, o0), (163, o95), (164, o96), (165, o0), (167, o97), (168, o0), (170, o99), (171, o100), (172, o0), (174, o101), (175, o0), (177, o103), (178, o104), (179, o0), (181, o105), (182, o0), (184, o107), (185, o108), (186, o0), (188, o109), (189, o0), (191, o111), (192, o112), (193, o0), (195, o113), (196, o0), (198, o115), (199, o116), (200, o0), (202, o117), (203, o0), (205, o119), (206, o120), (207, o0), (209, o121), (210, o0), (212, o123), (213, o124), (214, o0), (216, o125), (217, o0), (219, o127), (220, o128), (221, o0), (224, o130), (225, o131), (226, o0), (229, o133), (230, o134), (231, o0), (233, o135), (234, o0), (236, o137), (237, o138), (238, o0), (240, o139), (241, o0), (243, o141), (244, o142), (245, o0), (247, o143), (248, o0), (250, o145), (251, o146), (252, o0), (254, o147), (255, o0), (257, o149), (258, o150), (259, o151), (260, (o152 P)), (261, o153), (262, o154), (263, o155), (266, o0), (268, o158), (269, o0), (271, o160), (272, o161), (273, o0), (276, o163), (277, o164), (278, o0), (280, o165), (281, o0), (283, o167), (284, o168), (285, o0), (287, o169), (288, o0), (290, o171), (291, o172), (292, o0), (294, o173), (295, o0), (297, o175), (298, o176), (299, o0), (301, o177), (302, o0), (304, o179), (305, o180), (306, o0), (309, o182), (310, o183), (311, o0), (314, o185), (315, o186), (321, o0), (324, o191), (325, o192), (326, o0), (328, o193), (329, o0), (331, o195), (332, o196), (333, o0), (335, o197), (336, o0), (338, o199), (339, o200), (340, o0), (342, o201), (343, o0), (345, o203), (346, o204), (347, o0), (349, o205), (350, o0), (352, o207), (353, o208), (354, o0), (357, o210), (358, o211)]
noncomputable def asK : List Addr := [2, 3, 15, 17, 18, 20, 21, 22, 29, 30, 31, 32, 35, 42, 43, 44, 47, 54, 55, 56, 59, 66, 67, 68, 71, 78, 79, 80, 83, 86, 87, 88, 90, 91, 93, 94, 95, 98, 99, 100, 103, 104, 105, 108, 109, 110, 113, 114, 115, 118, 119, 120, 122, 123, 125, 126, 134, 136, 137, 139, 140, 141, 143, 144, 146, 147, 148, 150, 151, 153, 154, 155, 158, 159, 160, 163, 164, 165, 167, 168, 170, 171, 172, 174, 175, 177, 178, 179, 181, 182, 184, 185, 186, 188, 189, 191, 192, 193, 195, 196, 198, 199, 200, 202, 203, 205, 206, 207, 209, 210, 212, 213, 214, 216, 217, 219, 220, 221, 224, 225, 226, 229, 230, 231, 233, 234, 236, 237, 238, 240, 241, 243, 244, 245, 247, 248, 250, 251, 252, 254, 255, 257, 258, 259, 260, 261, 262, 263, 266, 268, 269, 271, 272, 273, 276, 277, 278, 280, 281, 283, 284, 285, 287, 288, 290, 291, 292, 294, 295, 297, 298, 299, 301, 302, 304, 305, 306, 309, 310, 311, 314, 315, 321, 324, 325, 326, 328, 329, 331, 332, 333, 335, 336, 338, 339, 340, 342, 343, 345, 346, 347, 349, 350, 352, 353, 354, 357, 358]
noncomputable def envT : Env := { scope := prg.main.scope, locals := mainNs, globals := mainNs, cells := [], code := (.ref 13), frame := some 14 }
noncomputable def bdy : List Stmt := behindTheImports prg
noncomputable def cT : Code := .body bdy envT
noncomputable def fT : List Frame := [topFrame ⟨0, 0, 0, 0⟩]
noncomputable def keepT : List Nat := [0, 2, 3, 4, 5, 6, 8, 9, 10, 11, 12, 13, 14, 15, 17, 19, 20, 21, 22, 24, 25, 26, 27, 28, 29, 30, 31, 32, 33, 34, 35, 36, 37, 38]
noncomputable def viewT : Program := { prg with main := { prg.main with body := keepT.filterMap fun i => prg.main.body[i]? } }
noncomputable def looseT : List Str := []
theorem h_pre (w : World) (os : OsState) : topGo treeTable prg w 11 (some (.ref 6)) 12 ⟨boot_heap w.params, #[], boot_drawn, boot_toks, os⟩ (topStub prg) = some (⟨hpA w.params, #[], {}, 187, os⟩, ⟨denote treeTable cT, cT, ⟨0, 0, 0, 0⟩, fT⟩) := by
  rw [Fast.te15667345088766844465, Fast.te14364793385576792824, Fast.te11892475500146522536]; kernel_rfl
theorem h_blk (w : World) (os : OsState) : segRun treeTable prg w 11 (some (.ref 6)) 1 1 ⟨hpA w.params, #[], {}, 187, os⟩ (blockOf bdy envT cT ⟨0, 0, 0, 0⟩ fT) = some (.next, (⟨trA w.params, 15, {}, #[], {}, 187, os⟩ : SharedT).abs, cT, ⟨0, 0, 0, 0⟩) := by
  rw [Fast.te14374325043358763698, Fast.te14364793385576792824]; kernel_rfl
theorem h_run (w : World) (os : OsState) : segRunT treeTable prg w 11 (some (.ref 6)) 1 2593 ⟨trA w.params, 15, {}, #[], {}, 187, os⟩ (piecesOf bdy envT cT ⟨0, 0, 0, 0⟩ fT) = some (.next, ⟨trZ w.params, 359, {}, #[], {}, 639, os⟩, cT, ⟨240, 0, 261, 76⟩) := by
  rw [Fast.te10110043849684766642, Fast.te14364793385576792824]; kernel_rfl
theorem h_fin (w : World) (os : OsState) : topRun treeTable prg w 11 (some (.ref 6)) 2 (⟨trZ w.params, 359, {}, #[], {}, 639, os⟩ : SharedT).abs ⟨doneF .next, cT, ⟨240, 0, 261, 76⟩, fT⟩ = some ⟨hpZ w.params, #[], {}, 639, os⟩ := by
  rw [Fast.te14082659384304107361, Fast.te14364793385576792824]; kernel_rfl
theorem h_all (w : World) (os : OsState) : topRun treeTable prg w 11 (some (.ref 6)) (12 + (1 + (2593 + 2))) ⟨boot_heap w.params, #[], boot_drawn, boot_toks, os⟩ (topStub prg) = some ⟨hpZ w.params, #[], {}, 639, os⟩ := by
  have k := piece_app (q := ⟨0, 0, 0, 0⟩) (segRun_of (h_run w os)) (piece_nil (h_fin w os))
  rw [List.append_nil] at k
  exact go_top (h_pre w os) (piece_block (q := ⟨0, 0, 0, 0⟩) (h_blk w os) k)
noncomputable def hookT : Hook := kHook KK asK (fun _ => by kernel_rfl)
noncomputable def XtT (s : Shared) : Bool := xlAt viewT [] s && recOk (RowW.records PySem.Challenge.rw_uf050031_10.row.toRowW) s
theorem h_looks (w : World) : (fun os : OsState => ((staticsOk (importedModules prg.main.body) (boot_heap w.params) (hpZ w.params) && namesBound prg (hpZ w.params) && gensDone ⟨hpZ w.params, #[], {}, 639, os⟩ && laidKept (boot_heap w.params) (hpZ w.params)),
    openSeen viewT looseT (importedModules prg.main.body) XtT true ⟨hpZ w.params, #[], {}, 639, os⟩, hookT.obs ⟨hpZ w.params, #[], {}, 639, os⟩)) = fun _ => (true, openGood viewT looseT, hookT.val w) := by
  kernel_rfl
theorem h_left : LeftO prg viewT looseT XtT hookT.obs hookT.val 5910 :=
  LeftO.of_pieces (H₀ := boot_heap) (H₁ := hpZ) (gs₀ := #[]) (gs₁ := #[]) (d₀ := boot_drawn) (d₁ := {}) (k₀ := boot_toks) (k₁ := 639) (m₀ := 11) (ann := (some (.ref 6))) (M := 12 + (1 + (2593 + 2)))
    (boot_open (by kernel_rfl) (by kernel_rfl) (fun _ => by kernel_rfl)) (fun w => by kernel_rfl) h_all (by kernel_rfl) h_looks
theorem h_said : OpenLaw.wellSaid PySem.Challenge.rw_uf050031_10 = true := by kernel_rfl

end Mine
end
-- text A1
section
set_option autoImplicit false
namespace Mine
open PySem
inductive AV where
  | none
  | bool (b : Bool)
  | int (i : Int)
  | str (s : Str)
  | ref (a : Addr)
inductive VR : Value → AV → Prop
  | none : VR .none .none
  | bool (b : Bool) : VR (.bool b) (.bool b)
  | int (i : Int) (t : Tok) : VR (.int i t) (.int i)
  | str (s : Str) (t : Tok) (ok : PyData.strOk s = true) : VR (.str s t) (.str s)
  | ref (a : Addr) : VR (.ref a) (.ref a)
inductive VRs : List Value → List AV → Prop
  | nil : VRs [] []
  | cons {v : Value} {a : AV} {vs : List Value} {as : List AV} : VR v a → VRs vs as → VRs (v :: vs) (a :: as)
theorem VRs.length {vs : List Value} {as : List AV} (h : VRs vs as) : vs.length = as.length := by
  induction h with
  | nil => rfl
  | cons _ _ ih => simp [ih]
theorem VRs.append {vs ws : List Value} {as bs : List AV} (h : VRs vs as) (k : VRs ws bs) : VRs (vs ++ ws) (as ++ bs) := by
  induction h with
  | nil => exact k
  | cons x _ ih => exact .cons x ih
theorem VRs.get {vs : List Value} {as : List AV} (h : VRs vs as) : ∀ {k : Nat} {a : AV}, as[k]? = some a → ∃ v, vs[k]? = some v ∧ VR v a := by
  induction h with
  | nil => intro k a e; simp at e
  | @cons v b vs bs x _ ih =>
    intro k a e
    cases k with
    | zero => simp at e; subst e; exact ⟨v, rfl, x⟩
    | succ k => simpa using ih (by simpa using e)
theorem VRs.getV {vs : List Value} {as : List AV} (h : VRs vs as) : ∀ {k : Nat} {v : Value}, vs[k]? = some v → ∃ a, as[k]? = some a ∧ VR v a := by
  induction h with
  | nil => intro k a e; simp at e
  | @cons v b vs bs x _ ih =>
    intro k a e
    cases k with
    | zero => simp at e; subst e; exact ⟨b, rfl, x⟩
    | succ k => simpa using ih (by simpa using e)
inductive AO where
  | list (xs : List AV)
  | script (ns : List Int)
  | tuple (xs : List AV)
  | range (lo hi : Int)
  | idict (es : List (Int × AV))
  | sdict (es : List (Str × AV))
  | sset (xs : List Str)
  | inst (d : Addr)
  | attrs (es : List (Str × AV))
  | exc (c : Str)
noncomputable abbrev AH := Addr → Option AO
noncomputable def AH.put (H : AH) (a : Addr) (o : AO) : AH := fun b => if b = a then some o else H b
theorem AH.put_self (H : AH) (a : Addr) (o : AO) : (H.put a o) a = some o := if_pos rfl
theorem AH.put_ne (H : AH) {a b : Addr} (o : AO) (h : b ≠ a) : (H.put a o) b = H b := if_neg h
noncomputable def Sub (H K : AH) : Prop := ∀ a o, H a = some o → K a = some o
theorem Sub.refl (H : AH) : Sub H H := fun _ _ e => e
theorem Sub.trans {H K L : AH} (x : Sub H K) (y : Sub K L) : Sub H L := fun a o e => y a o (x a o e)
theorem Sub.put {H K : AH} (x : Sub H K) {a : Addr} (o : AO) (h : H a = none) : Sub H (K.put a o) := fun b o' e => by
  by_cases q : b = a
  · subst q; rw [h] at e; cases e
  · rw [AH.put_ne _ _ q]; exact x b o' e
structure St where
  prog : Program
  w : World
  base : Heap
  os : OsState
  mg : Str → Option Value
  mb : Str → Option Value
  book : Addr
  excs : Str → Option Addr
noncomputable abbrev St.M (S : St) : Model := model S.prog S.w
structure Cx where
  U : Addr → Option Obj
  fr : List Addr
  envs : List Env
inductive KVs : List (DictEntry) → List (Str × AV) → Prop
  | nil : KVs [] []
  | cons {h : Int} {x : Str} {t : Tok} {v : Value} {a : AV} {es : List DictEntry} {as : List (Str × AV)} : VR v a → KVs es as → KVs (⟨h, .str x t, v⟩ :: es) ((x, a) :: as)
inductive PRs {K : Type} : List (K × Value) → List (K × AV) → Prop
  | nil : PRs [] []
  | cons {k : K} {v : Value} {a : AV} {vs : List (K × Value)} {as : List (K × AV)} : VR v a → PRs vs as → PRs ((k, v) :: vs) ((k, a) :: as)
inductive SRs (w : World) : List (Int × Value) → List Str → Prop
  | nil : SRs w [] []
  | cons {x : Str} {t : Tok} {vs : List (Int × Value)} {xs : List Str} : PyData.strOk x = true → SRs w vs xs → SRs w ((hashStr w x, .str x t) :: vs) (x :: xs)
inductive StrSetAt (w : World) (h : Heap) (a : Addr) (xs : List Str) : Prop
  | mk (es : Array (Int × Value)) (ep : Nat) (t : SetTable) (ys : List Str) : h.get? a = some { cls := .type "set", data := .set es ep t } → SRs w es.toList ys → ys.Perm xs → xs.Nodup → es.size < scanBound → t.fits es.size = true → (w.params.followText "set-order" = true ∨ t.led = true) → (es.size ≠ 0 → t.plain = false) → StrSetAt w h a xs
inductive SeqAt (h : Heap) (a : Addr) (T : String) (xs : List AV) : Prop
  | mk (vs : List Value) (n : Nat) : h.get? a = some { cls := .type T, data := .seq vs.toArray n } → VRs vs xs → vs.length ≤ sizeLine → SeqAt h a T xs
noncomputable def ObjAt (S : St) (h : Heap) (a : Addr) : AO → Prop
  | .list xs => SeqAt h a "list" xs
  | .script ns => ∃ vs, S.base.IsList a vs.toArray ∧ VRs vs (ns.map AV.int) ∧ vs.length ≤ 1048576
  | .tuple xs => SeqAt h a "tuple" xs
  | .range lo hi => ∃ t u v, (-1048576 ≤ lo ∧ lo ≤ 1048576) ∧ (-1048576 ≤ hi ∧ hi ≤ 1048576) ∧ IsRange h a lo hi 1 t u v
  | .idict es => ∃ kvs ep, h.DictAt (intKind S.prog S.w) a kvs ep ∧ PRs kvs es ∧ kvs.length ≤ sizeLine
  | .sdict es => ∃ kvs ep, h.DictAt (strKind S.prog S.w) a kvs ep ∧ PRs kvs es ∧ (∀ p ∈ kvs, PyData.strOk p.1 = true) ∧ kvs.length ≤ sizeLine
  | .sset xs => StrSetAt S.w h a xs
  | .inst d => h.get? a = some { cls := .ref S.book, dict := some d, data := .plain }
  | .attrs es => ∃ des n, h.get? a = some { cls := .type "dict", data := .dict des n } ∧ KVs des.toList es
  | .exc c => ∃ o C, h.get? a = some o ∧ S.excs c = some C ∧ o.cls = .ref C
noncomputable def isScript : AO → Bool
  | .script _ => true
  | _ => false
noncomputable def Kept (C : Cx) (h : Heap) (a : Addr) (o : Obj) : Prop :=
  h.get? a = some o ∨ (a ∈ C.fr ∧ ∃ sl, h.get? a = some { o with slots := sl })
structure Inv (S : St) (C : Cx) (H : AH) (s : Shared) : Prop where
  base : ∀ b o, S.base.get? b = some o → s.heap.get? b = some o
  keep : ∀ a o, C.U a = some o → Kept C s.heap a o
  objs : ∀ a o, H a = some o → ObjAt S s.heap a o
  sepH : ∀ a o, H a = some o → C.U a = none ∧ (isScript o = false → S.base.get? a = none)
  sepU : ∀ a o, C.U a = some o → S.base.get? a = none
  gens : s.gens = #[]
  os : s.os = S.os
  frU : ∀ a, a ∈ C.fr → ∃ o, C.U a = some o
inductive NsObj (o : Obj) (m : Str → Option Value) : Prop
  | mk (es : Array DictEntry) (ep : Nat) : o.data = .dict es ep → StrKeys es → (∀ name, nsFind es name = m name) → NsObj o m
structure EnvOK (S : St) (C : Cx) (A : Around) (env : Env) : Prop where
  kind : env.scope.kind = .function
  glob : env.globals = mainGlobals
  blt : env.builtins = builtinsNs
  cells : ∀ x, env.kindOf x = some .cell ∨ env.kindOf x = some .free → ∃ c, env.cells.lookup x = some c
  cellU : ∀ x c, env.cells.lookup x = some c → c ≠ env.locals ∧ c ∉ C.fr ∧ ∃ o v, C.U c = some o ∧ o.data = .cell v
  apart : ∀ x y c, env.cells.lookup x = some c → env.cells.lookup y = some c → x = y
  loc : ∃ o m, C.U env.locals = some o ∧ NsObj o m
  stack : A.frames = some C.envs
  fun_ : ∀ e ∈ C.envs, e.scope.kind ≠ .module ∧ ∃ L o, e.frame = some L ∧ L ∈ C.fr ∧ C.U L = some o ∧ ∀ vs, o.data ≠ .fields vs
noncomputable abbrev Mp := Nat → Option AV
noncomputable def Mp.upd (m : Mp) (i : Nat) (v : AV) : Mp := fun j => if j = i then some v else m j
theorem Mp.upd_self (m : Mp) (i : Nat) (v : AV) : (m.upd i v) i = some v := if_pos rfl
theorem Mp.upd_ne (m : Mp) {i j : Nat} (v : AV) (h : j ≠ i) : (m.upd i v) j = m j := if_neg h
noncomputable def VarAt (C : Cx) (env : Env) (x : Str) (cv : Value) : Prop :=
  (env.kindOf x = some .local ∧ ∃ o m, C.U env.locals = some o ∧ NsObj o m ∧ m x = some cv) ∨
  ((env.kindOf x = some .cell ∨ env.kindOf x = some .free) ∧ ∃ c o, env.cells.lookup x = some c ∧ C.U c = some o ∧ o.data = .cell (some cv))
noncomputable abbrev Rho := List (Str × Nat)
noncomputable def EnvRel (C : Cx) (env : Env) (ρ : Rho) (m : Mp) : Prop := ∀ x i v, (x, i) ∈ ρ → m i = some v → ∃ cv, VR cv v ∧ VarAt C env x cv
noncomputable def RhoOK (ρ : Rho) : Prop := ∀ p ∈ ρ, ∀ q ∈ ρ, p.1 = q.1 ↔ p.2 = q.2
structure FUpd (env : Env) (C C' : Cx) : Prop where
  fr : C'.fr = C.fr
  envs : C'.envs = C.envs
  other : ∀ a, a ≠ env.locals → (∀ x, env.cells.lookup x ≠ some a) → C'.U a = C.U a
theorem FUpd.refl (env : Env) (C : Cx) : FUpd env C C := ⟨rfl, rfl, fun _ _ _ => rfl⟩
theorem FUpd.trans {env : Env} {C C' C'' : Cx} (x : FUpd env C C') (y : FUpd env C' C'') : FUpd env C C'' :=
  ⟨y.fr.trans x.fr, y.envs.trans x.envs, fun a h1 h2 => (y.other a h1 h2).trans (x.other a h1 h2)⟩
inductive Raised (S : St) (C : Cx) (H : AH) (x : Str) (v : Value) (s : Shared) : Prop
structure Room (b : Bool) (d : Nat) (A : Around) : Prop where
  hd : b = true → A.handled = none
  depth : A.depth + 8 * d ≤ 600
  units : A.units + 100 * d ≤ 9000
noncomputable abbrev QV := AV → AH → Prop
noncomputable abbrev QX := Str → AH → Prop
noncomputable abbrev Tm := Mp → AH → QV → QX → Prop
noncomputable abbrev Tb := Mp → AH → (Bool → AH → Prop) → QX → Prop
noncomputable abbrev Ts := Mp → AH → (Mp → AH → Prop) → QV → QX → Prop
noncomputable abbrev Fn := List AV → AH → QV → QX → Prop
inductive PostV (S : St) (C : Cx) (Q : QV) (v : Value) (s' : Shared) : Prop
  | mk (av : AV) (H' : AH) : VR v av → Inv S C H' s' → Q av H' → PostV S C Q v s'
inductive PostB (S : St) (C : Cx) (Q : Bool → AH → Prop) (b : Bool) (s' : Shared) : Prop
  | mk (H' : AH) : Inv S C H' s' → Q b H' → PostB S C Q b s'
noncomputable def ExOK (S : St) (C : Cx) (X : QX) (E : Value → Shared → Prop) : Prop := ∀ x H' v s', X x H' → Raised S C H' x v s' → E v s'
noncomputable abbrev Kd := Str → Option NameKind
noncomputable def SoundE (S : St) (b : Bool) (d : Nat) (sc : Kd) (ρ : Rho) (e : Expr) (t : Tm) : Prop :=
  ∀ (C : Cx) (A : Around) (env : Env) (m : Mp) (H : AH) (Q : QV) (X : QX) (E : Value → Shared → Prop) (s : Shared),
    Room b d A → EnvOK S C A env → (∀ x, env.kindOf x = sc x) → EnvRel C env ρ m → Inv S C H s → t m H Q X → ExOK S C X E →
    wpAny S.M A (eval e env) (PostV S C Q) E s
noncomputable def SoundB (S : St) (b : Bool) (d : Nat) (sc : Kd) (ρ : Rho) (e : Expr) (t : Tb) : Prop :=
  ∀ (C : Cx) (A : Around) (env : Env) (m : Mp) (H : AH) (Q : Bool → AH → Prop) (X : QX) (E : Value → Shared → Prop) (s : Shared),
    Room b d A → EnvOK S C A env → (∀ x, env.kindOf x = sc x) → EnvRel C env ρ m → Inv S C H s → t m H Q X → ExOK S C X E →
    wpAny S.M A (isTrue e env (eval e env)) (PostB S C Q) E s
structure FrOK (S : St) (C : Cx) (A : Around) : Prop where
  stack : A.frames = some C.envs
  fun_ : ∀ e ∈ C.envs, e.scope.kind ≠ .module ∧ ∃ L o, e.frame = some L ∧ L ∈ C.fr ∧ C.U L = some o ∧ ∀ vs, o.data ≠ .fields vs
inductive PostS (S : St) (C : Cx) (A : Around) (env : Env) (ρ : Rho) (QN : Mp → AH → Prop) (QR : QV) (fl : Flow) (s' : Shared) : Prop
  | mk (C' : Cx) (H' : AH) : FUpd env C C' → Inv S C' H' s' → (match fl with
    | .next => ∃ m', EnvOK S C' A env ∧ EnvRel C' env ρ m' ∧ QN m' H'
    | .ret v => ∃ av, VR v av ∧ QR av H'
    | _ => False) → PostS S C A env ρ QN QR fl s'
noncomputable def ExOKS (S : St) (C : Cx) (A : Around) (env : Env) (X : QX) (E : Value → Shared → Prop) : Prop := ∀ C' x H' v s', FUpd env C C' → FrOK S C' A → X x H' → Raised S C' H' x v s' → E v s'
noncomputable def SoundS (S : St) (b : Bool) (d : Nat) (sc : Kd) (ρ : Rho) (st : List Stmt) (t : Ts) : Prop :=
  ∀ (C : Cx) (A : Around) (env : Env) (m : Mp) (H : AH) (QN : Mp → AH → Prop) (QR : QV) (X : QX) (E : Value → Shared → Prop) (s : Shared),
    Room b d A → EnvOK S C A env → (∃ outer, C.envs = env :: outer) → (∀ x, env.kindOf x = sc x) → EnvRel C env ρ m → Inv S C H s → t m H QN QR X → ExOKS S C A env X E →
    wpAny S.M A (execs st env) (PostS S C A env ρ QN QR) E s
noncomputable def PostF (S : St) (C : Cx) (Q : QV) (X : QX) (r : Result) (s' : Shared) : Prop :=
  match r with
  | .ok (.ret v) => PostV S C Q v s'
  | .ok _ => False
  | .error e => ∃ x H', X x H' ∧ Raised S C H' x e s'
noncomputable def SoundF (S : St) (b : Bool) (d : Nat) (f : Value) (F : Fn) : Prop :=
  ∀ (C : Cx) (A : Around) (vs : List Value) (avs : List AV) (H : AH) (Q : QV) (X : QX) (s : Shared),
    Room b d A → FrOK S C A → VRs vs avs → Inv S C H s → F avs H Q X → codeAny S.M A (.call f ⟨vs, []⟩) (PostF S C Q X) s
end Mine
end
-- text A2
section
set_option autoImplicit false
namespace Mine
open PySem PySem.Calls PyProof.Rows
theorem ObjAt.of_get {S : St} {h h' : Heap} {a : Addr} {o : AO} (x : ObjAt S h a o) (e : ∀ ob, h.get? a = some ob → h'.get? a = some ob) : ObjAt S h' a o := by
  cases o with
  | list xs => obtain ⟨vs, n, h1, h2, h3⟩ := x; exact ⟨vs, n, e _ h1, h2, h3⟩
  | script ns => exact x
  | tuple xs => obtain ⟨vs, n, h1, h2, h3⟩ := x; exact ⟨vs, n, e _ h1, h2, h3⟩
  | range lo hi => obtain ⟨t, u, v, b1, b2, h1⟩ := x; exact ⟨t, u, v, b1, b2, e _ h1⟩
  | idict es => obtain ⟨kvs, ep, ⟨ob, des, h1, h2⟩, h3⟩ := x; exact ⟨kvs, ep, ⟨ob, des, e _ h1, h2⟩, h3⟩
  | sdict es => obtain ⟨kvs, ep, ⟨ob, des, h1, h2⟩, h3⟩ := x; exact ⟨kvs, ep, ⟨ob, des, e _ h1, h2⟩, h3⟩
  | sset xs => obtain ⟨es, ep, t, ys, h1, h2, h3, h4, h5, h6, h7, h8⟩ := x; exact ⟨es, ep, t, ys, e _ h1, h2, h3, h4, h5, h6, h7, h8⟩
  | inst d => exact e _ x
  | attrs es => obtain ⟨des, n, h1, h2⟩ := x; exact ⟨des, n, e _ h1, h2⟩
  | exc c => obtain ⟨ob, C, h1, h2⟩ := x; exact ⟨ob, C, e _ h1, h2⟩
theorem ObjAt.there {S : St} {h : Heap} {a : Addr} {o : AO} (x : ObjAt S h a o) (hs : isScript o = false) : ∃ ob, h.get? a = some ob := by
  cases o with
  | list xs => obtain ⟨vs, n, h1, h2⟩ := x; exact ⟨_, h1⟩
  | script ns => cases hs
  | tuple xs => obtain ⟨vs, n, h1, h2⟩ := x; exact ⟨_, h1⟩
  | range lo hi => obtain ⟨t, u, v, b1, b2, h1⟩ := x; exact ⟨_, h1⟩
  | idict es => obtain ⟨kvs, ep, ⟨ob, des, h1, h2⟩, h3⟩ := x; exact ⟨_, h1⟩
  | sdict es => obtain ⟨kvs, ep, ⟨ob, des, h1, h2⟩, h3⟩ := x; exact ⟨_, h1⟩
  | sset xs => obtain ⟨es, ep, t, ys, h1, h2⟩ := x; exact ⟨_, h1⟩
  | inst d => exact ⟨_, x⟩
  | attrs es => obtain ⟨des, n, h1, h2⟩ := x; exact ⟨_, h1⟩
  | exc c => obtain ⟨ob, C, h1, h2⟩ := x; exact ⟨_, h1⟩
theorem Kept.of_get {C : Cx} {h h' : Heap} {a : Addr} {o : Obj} (x : Kept C h a o) (e : ∀ ob, h.get? a = some ob → h'.get? a = some ob) : Kept C h' a o := by
  rcases x with h1 | ⟨h1, sl, h2⟩
  · exact .inl (e _ h1)
  · exact .inr ⟨h1, sl, e _ h2⟩
theorem Kept.there {C : Cx} {h : Heap} {a : Addr} {o : Obj} (x : Kept C h a o) : ∃ ob, h.get? a = some ob := by
  rcases x with h1 | ⟨_, sl, h2⟩
  · exact ⟨_, h1⟩
  · exact ⟨_, h2⟩
section
variable {S : St} {C : Cx} {H : AH} {s : Shared}
theorem Inv.lt (I : Inv S C H s) {a : Addr} {o : AO} (h : H a = some o) : a < s.heap.objs.size := by
  have x := I.objs a o h
  cases hs : isScript o with
  | false => obtain ⟨ob, e⟩ := x.there hs; exact Heap.lt_size e
  | true =>
    cases o with
    | script ns => obtain ⟨vs, ⟨ob, e, _⟩, _⟩ := x; exact Heap.lt_size (I.base _ _ e)
    | _ => cases hs
theorem Inv.same (I : Inv S C H s) {s' : Shared} (hh : s'.heap = s.heap) (hg : s'.gens = s.gens) (ho : s'.os = s.os) : Inv S C H s' :=
  ⟨by rw [hh]; exact I.base, by rw [hh]; exact I.keep, by rw [hh]; exact I.objs, I.sepH, I.sepU, hg.trans I.gens, ho.trans I.os, I.frU⟩
theorem Inv.grow (I : Inv S C H s) {s' : Shared} (hk : ∀ b o, s.heap.get? b = some o → s'.heap.get? b = some o) (hg : s'.gens = s.gens) (ho : s'.os = s.os) : Inv S C H s' :=
  ⟨fun b o e => hk b o (I.base b o e), fun a o e => (I.keep a o e).of_get fun ob => hk a ob, fun a o e => (I.objs a o e).of_get fun ob => hk a ob, I.sepH, I.sepU, hg.trans I.gens, ho.trans I.os, I.frU⟩
theorem Inv.fresh (I : Inv S C H s) {a : Addr} (hn : s.heap.get? a = none) : H a = none ∧ C.U a = none ∧ S.base.get? a = none := by
  have hb : S.base.get? a = none := by
    cases q : S.base.get? a with
    | none => rfl
    | some o => have := I.base a o q; rw [hn] at this; cases this
  refine ⟨?_, ?_, hb⟩
  · cases q : H a with
    | none => rfl
    | some o =>
      have x := I.objs a o q
      cases hs : isScript o with
      | false => obtain ⟨ob, e⟩ := x.there hs; rw [hn] at e; cases e
      | true =>
        cases o with
        | script ns => obtain ⟨vs, ⟨ob, e, _⟩, _⟩ := x; rw [hb] at e; cases e
        | _ => cases hs
  · cases q : C.U a with
    | none => rfl
    | some o => obtain ⟨ob, e⟩ := (I.keep a o q).there; rw [hn] at e; cases e
theorem Inv.add (I : Inv S C H s) {s' : Shared} {a : Addr} {o : AO} (hn : s.heap.get? a = none) (hk : ∀ b o, s.heap.get? b = some o → s'.heap.get? b = some o)
    (ha : ObjAt S s'.heap a o) (hg : s'.gens = s.gens) (ho : s'.os = s.os) : Inv S C (H.put a o) s' := by
  obtain ⟨f1, f2, f3⟩ := I.fresh hn
  have J := I.grow hk hg ho
  refine ⟨J.base, J.keep, fun b o' e => ?_, fun b o' e => ?_, J.sepU, J.gens, J.os, J.frU⟩
  · by_cases q : b = a
    · subst q; rw [AH.put_self] at e; cases e; exact ha
    · rw [AH.put_ne _ _ q] at e; exact J.objs b o' e
  · by_cases q : b = a
    · subst q; exact ⟨f2, fun _ => f3⟩
    · rw [AH.put_ne _ _ q] at e; exact J.sepH b o' e
theorem Inv.set (I : Inv S C H s) {s' : Shared} {a : Addr} {o₀ o : AO} (h0 : H a = some o₀) (hs0 : isScript o₀ = false) (hsb : ∀ b ob, b ≠ a → s.heap.get? b = some ob → s'.heap.get? b = some ob)
    (ha : ObjAt S s'.heap a o) (hg : s'.gens = s.gens) (ho : s'.os = s.os) : Inv S C (H.put a o) s' := by
  obtain ⟨u1, u2⟩ := I.sepH a o₀ h0
  refine ⟨fun b ob e => ?_, fun b ob e => ?_, fun b o' e => ?_, fun b o' e => ?_, I.sepU, hg.trans I.gens, ho.trans I.os, I.frU⟩
  · refine hsb b ob (fun q => ?_) (I.base b ob e)
    subst q; rw [u2 hs0] at e; cases e
  · refine (I.keep b ob e).of_get fun x hx => hsb b x (fun q => ?_) hx
    subst q; rw [u1] at e; cases e
  · by_cases q : b = a
    · subst q; rw [AH.put_self] at e; cases e; exact ha
    · rw [AH.put_ne _ _ q] at e; exact (I.objs b o' e).of_get fun x hx => hsb b x q hx
  · by_cases q : b = a
    · subst q; exact ⟨u1, fun _ => u2 hs0⟩
    · rw [AH.put_ne _ _ q] at e; exact I.sepH b o' e
theorem Inv.less (I : Inv S C H s) {C' : Cx} (hfr : ∀ a, a ∈ C.fr → C'.U a ≠ none → a ∈ C'.fr) (h : ∀ a o, C'.U a = some o → C.U a = some o) (hu : ∀ a, a ∈ C'.fr → ∃ o, C'.U a = some o) : Inv S C' H s := by
  refine ⟨I.base, fun a o e => ?_, I.objs, fun a o e => ⟨?_, (I.sepH a o e).2⟩, fun a o e => I.sepU a o (h a o e), I.gens, I.os, hu⟩
  · rcases I.keep a o (h a o e) with x | ⟨x, y⟩
    · exact .inl x
    · exact .inr ⟨hfr a x (by rw [e]; exact fun q => by cases q), y⟩
  · cases q : C'.U a with
    | none => rfl
    | some ob => have := h a ob q; rw [(I.sepH a o e).1] at this; cases this
noncomputable def Cx.hide (C : Cx) (a : Addr) (o : Obj) : Cx := { C with U := fun b => if b = a then some o else C.U b }
theorem Cx.hide_self (C : Cx) (a : Addr) (o : Obj) : (C.hide a o).U a = some o := if_pos rfl
theorem Cx.hide_ne (C : Cx) {a b : Addr} (o : Obj) (h : b ≠ a) : (C.hide a o).U b = C.U b := if_neg h
theorem Inv.hide (I : Inv S C H s) {s' : Shared} {a : Addr} {o : Obj} (hn : s.heap.get? a = none) (hk : ∀ b o, s.heap.get? b = some o → s'.heap.get? b = some o)
    (ha : s'.heap.get? a = some o) (hg : s'.gens = s.gens) (ho : s'.os = s.os) : Inv S (C.hide a o) H s' := by
  obtain ⟨f1, f2, f3⟩ := I.fresh hn
  have J := I.grow hk hg ho
  refine ⟨J.base, fun b ob e => ?_, J.objs, fun b o' e => ⟨?_, (J.sepH b o' e).2⟩, fun b ob e => ?_, J.gens, J.os, fun b hb => ?_⟩
  · by_cases q : b = a
    · subst q; rw [Cx.hide_self] at e; cases e; exact .inl ha
    · rw [Cx.hide_ne _ _ q] at e; exact J.keep b ob e
  · by_cases q : b = a
    · subst q; rw [f1] at e; cases e
    · rw [Cx.hide_ne _ _ q]; exact (J.sepH b o' e).1
  · by_cases q : b = a
    · subst q; exact f3
    · rw [Cx.hide_ne _ _ q] at e; exact J.sepU b ob e
  · obtain ⟨o', e⟩ := J.frU b hb
    by_cases q : b = a
    · subst q; rw [f2] at e; cases e
    · exact ⟨o', (Cx.hide_ne _ _ q).trans e⟩
theorem Inv.turn (I : Inv S C H s) {s' : Shared} {a : Addr} {o₀ o : Obj} (h0 : C.U a = some o₀) (hsb : ∀ b ob, b ≠ a → s.heap.get? b = some ob → s'.heap.get? b = some ob)
    (ha : s'.heap.get? a = some o) (hg : s'.gens = s.gens) (ho : s'.os = s.os) : Inv S (C.hide a o) H s' := by
  have hb := I.sepU a o₀ h0
  refine ⟨fun b ob e => ?_, fun b ob e => ?_, fun b o' e => ?_, fun b o' e => ⟨?_, (I.sepH b o' e).2⟩, fun b ob e => ?_, hg.trans I.gens, ho.trans I.os, fun b hb => ?_⟩
  · refine hsb b ob (fun q => ?_) (I.base b ob e)
    subst q; rw [hb] at e; cases e
  · by_cases q : b = a
    · subst q; rw [Cx.hide_self] at e; cases e; exact .inl ha
    · rw [Cx.hide_ne _ _ q] at e; exact (I.keep b ob e).of_get fun x hx => hsb b x q hx
  · refine (I.objs b o' e).of_get fun x hx => hsb b x (fun q => ?_) hx
    subst q; rw [(I.sepH _ _ e).1] at h0; cases h0
  · by_cases q : b = a
    · subst q; rw [(I.sepH _ _ e).1] at h0; cases h0
    · rw [Cx.hide_ne _ _ q]; exact (I.sepH b o' e).1
  · by_cases q : b = a
    · subst q; exact hb
    · rw [Cx.hide_ne _ _ q] at e; exact I.sepU b ob e
  · obtain ⟨o', e⟩ := I.frU b hb
    by_cases q : b = a
    · subst q; exact ⟨o, Cx.hide_self ..⟩
    · exact ⟨o', (Cx.hide_ne _ _ q).trans e⟩
end
section
variable {S : St} {b : Bool} {d : Nat} {sc : Kd} {ρ : Rho}
noncomputable def tVal (v : AV) : Tm := fun _ H Q _ => Q v H
theorem sE_int (i : Int) (k : Nat) (pos : Pos) : SoundE S b d sc ρ (.Constant (.int i) k pos) (tVal (.int i)) := by
  intro C A env m H Q X E s _ _ _ _ I h _
  exact fun _ _ _ => ⟨_, H, .int i _, I.same rfl rfl rfl, h⟩
theorem sE_bool (v : Bool) (k : Nat) (pos : Pos) : SoundE S b d sc ρ (.Constant (.bool v) k pos) (tVal (.bool v)) := by
  intro C A env m H Q X E s _ _ _ _ I h _
  exact fun _ _ _ => ⟨_, H, .bool v, I, h⟩
theorem sE_none (k : Nat) (pos : Pos) : SoundE S b d sc ρ (.Constant .none k pos) (tVal .none) := by
  intro C A env m H Q X E s _ _ _ _ I h _
  exact fun _ _ _ => ⟨_, H, .none, I, h⟩
theorem sE_str (x : Str) (k : Nat) (pos : Pos) (hx : PyData.strOk x = true) : SoundE S b d sc ρ (.Constant (.str x) k pos) (tVal (.str x)) := by
  intro C A env m H Q X E s _ _ _ _ I h _
  exact fun _ _ _ => ⟨_, H, .str x _ hx, I.same rfl rfl rfl, h⟩
theorem VarAt.load {S : St} {C : Cx} {A : Around} {env : Env} {x : Str} {cv : Value} {H : AH} {s : Shared} {M : Model} {E : Value → Shared → Prop} {Q : Value → Shared → Prop} (V : VarAt C env x cv) (O : EnvOK S C A env) (I : Inv S C H s)
    (hn : (x == ("__classdict__" : Str)) = false) (h : Q cv s) : wpAny M A (loadName env x) Q E s := by
  rcases V with ⟨hk, o, m, hU, ⟨es, ep, hd, r1, r2⟩, hm⟩ | ⟨hk, c, o, hc, hU, hd⟩
  · have hns : s.heap.Ns env.locals m := by
      rcases I.keep _ _ hU with e | ⟨_, sl, e⟩
      · exact ⟨o, es, ep, e, hd, r1, r2⟩
      · exact ⟨_, es, ep, e, hd, r1, r2⟩
    exact wpAny_loadName_local O.kind hk hns hm h
  · have hcell : s.heap.IsCell c (some cv) := by
      rcases I.keep _ _ hU with e | ⟨_, sl, e⟩
      · exact ⟨o, e, hd⟩
      · exact ⟨_, e, hd⟩
    rcases hk with hk | hk
    · exact wpAny_loadName_cell O.kind hk hc hcell h
    · exact wpAny_loadName_free O.kind hk hc hcell h hn
inductive Got (H : AH) (a : Addr) (P : AO → Prop) : Prop
  | mk (o : AO) : H a = some o → P o → Got H a P
inductive OneGot (vs : List AV) (H : AH) (P : AO → Prop) : Prop
  | mk (a : Addr) (o : AO) : vs = [.ref a] → H a = some o → P o → OneGot vs H P
inductive Loc (m : Mp) (i : Nat) (H : AH) (Q : QV) : Prop
  | mk (v : AV) : m i = some v → Q v H → Loc m i H Q
noncomputable def tLoc (i : Nat) : Tm := fun m H Q _ => Loc m i H Q
theorem sE_loc {x : Str} {i : Nat} (pos : Pos) (hρ : ρ.lookup x = some i) (hd : (x == ("__debug__" : Str)) = false) (hn : (x == ("__classdict__" : Str)) = false) :
    SoundE S b d sc ρ (.Name x pos) (tLoc i) := by
  intro C A env m H Q X E s _ O _ R I h _
  obtain ⟨v, hv, hq⟩ := h
  obtain ⟨cv, hr, V⟩ := R x i v (mem_of_lookup hρ) hv
  exact wpAny_Name (V.load O I hn ⟨v, H, hr, I, hq⟩) hd
noncomputable abbrev Tms := Mp → AH → (List AV → AH → Prop) → QX → Prop
noncomputable def SoundEs (S : St) (b : Bool) (d : Nat) (sc : Kd) (ρ : Rho) (es : List Expr) (t : Tms) : Prop :=
  ∀ (C : Cx) (A : Around) (env : Env) (m : Mp) (H : AH) (Q : List AV → AH → Prop) (X : QX) (E : Value → Shared → Prop) (s : Shared) (pos : Pos),
    Room b d A → EnvOK S C A env → (∀ x, env.kindOf x = sc x) → EnvRel C env ρ m → Inv S C H s → t m H Q X → ExOK S C X E →
    wpAny S.M A (spliced (backTo pos (starEach es env))) (fun vs s' => ∃ avs H', VRs vs avs ∧ Inv S C H' s' ∧ Q avs H') E s
noncomputable def tNil : Tms := fun _ H Q _ => Q [] H
noncomputable def tCons (t : Tm) (ts : Tms) : Tms := fun m H Q X => t m H (fun v H1 => ts m H1 (fun vs H2 => Q (v :: vs) H2) X) X
theorem sEs_nil : SoundEs S b d sc ρ [] tNil := by
  intro C A env m H Q X E s pos _ _ _ _ I h _
  exact spliced_none ⟨[], H, .nil, I, h⟩
theorem sEs_cons {e : Expr} {es : List Expr} {t : Tm} {ts : Tms} (h1 : SoundE S b d sc ρ e t) (h2 : SoundEs S b d sc ρ es ts)
    (he : ∀ env, starEach (e :: es) env = (false, eval e env) :: starEach es env) : SoundEs S b d sc ρ (e :: es) (tCons t ts) := by
  intro C A env m H Q X E s pos R O hk V I h hE
  refine spliced_more (wpAny_mono (h1 C A env m H _ X E s R O hk V I h hE) ?_ fun _ _ x => x) (he env)
  rintro v s1 ⟨av, H1, r1, I1, q1⟩
  refine wpAny_mono (h2 C A env m H1 _ X E s1 pos R O hk V I1 q1 hE) ?_ fun _ _ x => x
  rintro vs s2 ⟨avs, H2, r2, I2, q2⟩
  exact ⟨av :: avs, H2, .cons r1 r2, I2, q2⟩
noncomputable def BinOK (S : St) (op : Operator) (f : AV → AV → AH → QV → Prop) : Prop :=
  ∀ (C : Cx) (A : Around) (va vb : Value) (x y : AV) (H : AH) (Q : QV) (E : Value → Shared → Prop) (s : Shared), A.units ≤ 9000 → VR va x → VR vb y → Inv S C H s → f x y H Q → wpAny S.M A (binaryOp op va vb) (PostV S C Q) E s
noncomputable def tBin (f : AV → AV → AH → QV → Prop) (t u : Tm) : Tm := fun m H Q X => t m H (fun x H1 => u m H1 (fun y H2 => f x y H2 Q) X) X
theorem Room.u {b : Bool} {d : Nat} {A : Around} (R : Room b d A) : A.units ≤ 9000 := by have := R.units; lia
theorem sE_bin {l r : Expr} {op : Operator} {pos : Pos} {t u : Tm} {f : AV → AV → AH → QV → Prop} (hf : BinOK S op f) (h1 : SoundE S b d sc ρ l t) (h2 : SoundE S b d sc ρ r u) :
    SoundE S b d sc ρ (.BinOp l op r pos) (tBin f t u) := by
  intro C A env m H Q X E s R O hk V I h hE
  rw [eval_BinOp]
  refine wpAny_bind (wpAny_mono (h1 C A env m H _ X E s R O hk V I h hE) ?_ fun _ _ x => x)
  rintro v s1 ⟨av, H1, r1, I1, q1⟩
  refine wpAny_bind (wpAny_holding (wpAny_mono (h2 C A env m H1 _ X E s1 R O hk V I1 q1 hE) ?_ fun _ _ x => x))
  rintro w s2 ⟨aw, H2, r2, I2, q2⟩
  exact wpAny_bind (wpAny_standAt (wpAny_operate' (hf C A v w av aw H2 Q E s2 R.u r1 r2 I2 q2)))
noncomputable def CmpOK (S : St) (op : CmpOp) (f : AV → AV → AH → (Bool → AH → Prop) → Prop) : Prop :=
  ∀ (C : Cx) (A : Around) (va vb : Value) (x y : AV) (H : AH) (Q : Bool → AH → Prop) (E : Value → Shared → Prop) (s : Shared), A.units ≤ 9000 → VR va x → VR vb y → Inv S C H s → f x y H Q →
    wpAny S.M A (compareOp op va vb) (fun v s' => ∃ c, v = .bool c ∧ PostB S C Q c s') E s
noncomputable def tCmp (f : AV → AV → AH → (Bool → AH → Prop) → Prop) (t u : Tm) : Tm := fun m H Q X => t m H (fun x H1 => u m H1 (fun y H2 => f x y H2 fun c H3 => Q (.bool c) H3) X) X
noncomputable def tCmpB (f : AV → AV → AH → (Bool → AH → Prop) → Prop) (t u : Tm) : Tb := fun m H Q X => t m H (fun x H1 => u m H1 (fun y H2 => f x y H2 Q) X) X
theorem sE_cmp {l r : Expr} {op : CmpOp} {pos : Pos} {t u : Tm} {f : AV → AV → AH → (Bool → AH → Prop) → Prop} (hf : CmpOK S op f) (h1 : SoundE S b d sc ρ l t) (h2 : SoundE S b d sc ρ r u) (hb : behindInMarks op r = false) :
    SoundE S b d sc ρ (.Compare l [op] [r] pos) (tCmp f t u) := by
  intro C A env m H Q X E s R O hk V I h hE
  rw [eval_Compare1]
  refine wpAny_bind (wpAny_mono (h1 C A env m H _ X E s R O hk V I h hE) ?_ fun _ _ x => x)
  rintro v s1 ⟨av, H1, r1, I1, q1⟩
  rw [markedBehindIn_of_false hb]
  refine wpAny_bind (wpAny_holding (wpAny_mono (h2 C A env m H1 _ X E s1 R O hk V I1 q1 hE) ?_ fun _ _ x => x))
  rintro w s2 ⟨aw, H2, r2, I2, q2⟩
  refine wpAny_bind (wpAny_standAt (wpAny_operate' (wpAny_mono (hf C A v w av aw H2 _ E s2 R.u r1 r2 I2 q2) ?_ fun _ _ x => x)))
  rintro c s3 ⟨cb, rfl, H3, I3, q3⟩
  exact ⟨_, H3, .bool cb, I3, q3⟩
theorem sB_cmp {l r : Expr} {op : CmpOp} {pos : Pos} {t u : Tm} {f : AV → AV → AH → (Bool → AH → Prop) → Prop} (hf : CmpOK S op f) (h1 : SoundE S b d sc ρ l t) (h2 : SoundE S b d sc ρ r u) (hb : behindInMarks op r = false) :
    SoundB S b d sc ρ (.Compare l [op] [r] pos) (tCmpB f t u) := by
  intro C A env m H Q X E s R O hk V I h hE
  rw [isTrue_Compare1]
  refine wpAny_bind (wpAny_mono (h1 C A env m H _ X E s R O hk V I h hE) ?_ fun _ _ x => x)
  rintro v s1 ⟨av, H1, r1, I1, q1⟩
  rw [markedBehindIn_of_false hb]
  refine wpAny_bind (wpAny_holding (wpAny_mono (h2 C A env m H1 _ X E s1 R O hk V I1 q1 hE) ?_ fun _ _ x => x))
  rintro w s2 ⟨aw, H2, r2, I2, q2⟩
  refine wpAny_bind (wpAny_standAt (wpAny_bind (wpAny_operate' (wpAny_mono (hf C A v w av aw H2 _ E s2 R.u r1 r2 I2 q2) ?_ fun _ _ x => x))))
  rintro c s3 ⟨cb, rfl, H3, I3, q3⟩
  exact wpAny_holding (wpAny_truthy_bool ⟨H3, I3, q3⟩)
noncomputable def tNotB (t : Tb) : Tb := fun m H Q X => t m H (fun c H1 => Q (!c) H1) X
theorem sB_not {e : Expr} {pos : Pos} {t : Tb} (h1 : SoundB S b d sc ρ e t) : SoundB S b d sc ρ (.UnaryOp .Not e pos) (tNotB t) := by
  intro C A env m H Q X E s R O hk V I h hE
  show wpAny S.M A (do return !(← isTrue e env (eval e env))) _ E s
  refine wpAny_bind (wpAny_mono (h1 C A env m H _ X E s R O hk V I h hE) ?_ fun _ _ x => x)
  rintro c s1 ⟨H1, I1, q1⟩
  exact wpAny_pure ⟨H1, I1, q1⟩
noncomputable def SoundL (S : St) (b : Bool) (d : Nat) (sc : Kd) (ρ : Rho) (op : BoolOp) (es : List Expr) (t : Tb) : Prop :=
  ∀ (C : Cx) (A : Around) (env : Env) (m : Mp) (H : AH) (Q : Bool → AH → Prop) (X : QX) (E : Value → Shared → Prop) (s : Shared),
    Room b d A → EnvOK S C A env → (∀ x, env.kindOf x = sc x) → EnvRel C env ρ m → Inv S C H s → t m H Q X → ExOK S C X E →
    wpAny S.M A (allTrue op es env) (PostB S C Q) E s
noncomputable def tBoolNil (c : Bool) : Tb := fun _ H Q _ => Q c H
noncomputable def tAndB (t u : Tb) : Tb := fun m H Q X => t m H (fun c H1 => if c = true then u m H1 Q X else Q false H1) X
noncomputable def tOrB (t u : Tb) : Tb := fun m H Q X => t m H (fun c H1 => if c = true then Q true H1 else u m H1 Q X) X
theorem sL_andNil : SoundL S b d sc ρ .And [] (tBoolNil true) := by
  intro C A env m H Q X E s R O hk V I h hE
  exact wpAny_pure ⟨H, I, h⟩
theorem sL_orNil : SoundL S b d sc ρ .Or [] (tBoolNil false) := by
  intro C A env m H Q X E s R O hk V I h hE
  exact wpAny_pure ⟨H, I, h⟩
theorem sL_and {e : Expr} {es : List Expr} {t u : Tb} (h1 : SoundB S b d sc ρ e t) (h2 : SoundL S b d sc ρ .And es u) : SoundL S b d sc ρ .And (e :: es) (tAndB t u) := by
  intro C A env m H Q X E s R O hk V I h hE
  show wpAny S.M A (do match BoolOp.And, ← isTrue e env (eval e env) with | .And, false => pure false | .Or, true => pure true | _, _ => allTrue .And es env) _ E s
  refine wpAny_bind (wpAny_mono (h1 C A env m H _ X E s R O hk V I h hE) ?_ fun _ _ x => x)
  rintro c s1 ⟨H1, I1, q1⟩
  cases c with
  | false => exact wpAny_pure ⟨H1, I1, by simpa using q1⟩
  | true => exact h2 C A env m H1 _ X E s1 R O hk V I1 (by simpa using q1) hE
theorem sL_or {e : Expr} {es : List Expr} {t u : Tb} (h1 : SoundB S b d sc ρ e t) (h2 : SoundL S b d sc ρ .Or es u) : SoundL S b d sc ρ .Or (e :: es) (tOrB t u) := by
  intro C A env m H Q X E s R O hk V I h hE
  show wpAny S.M A (do match BoolOp.Or, ← isTrue e env (eval e env) with | .And, false => pure false | .Or, true => pure true | _, _ => allTrue .Or es env) _ E s
  refine wpAny_bind (wpAny_mono (h1 C A env m H _ X E s R O hk V I h hE) ?_ fun _ _ x => x)
  rintro c s1 ⟨H1, I1, q1⟩
  cases c with
  | true => exact wpAny_pure ⟨H1, I1, by simpa using q1⟩
  | false => exact h2 C A env m H1 _ X E s1 R O hk V I1 (by simpa using q1) hE
theorem sB_boolOp {op : BoolOp} {es : List Expr} {pos : Pos} {t : Tb} (h : SoundL S b d sc ρ op es t) : SoundB S b d sc ρ (.BoolOp op es pos) t := h
inductive IsB (v : AV) (Q : Bool → Prop) : Prop
  | mk (c : Bool) : v = .bool c → Q c → IsB v Q
noncomputable def tTruth (t : Tm) : Tb := fun m H Q X => t m H (fun v H1 => IsB v fun c => Q c H1) X
theorem sB_truth {e : Expr} {t : Tm} (h1 : SoundE S b d sc ρ e t) (he : ∀ env w, isTrue e env w = (do let v ← w; standAt e.pos; holding [v] (truthy v))) : SoundB S b d sc ρ e (tTruth t) := by
  intro C A env m H Q X E s R O hk V I h hE
  rw [he]
  refine wpAny_bind (wpAny_mono (h1 C A env m H _ X E s R O hk V I h hE) ?_ fun _ _ x => x)
  rintro v s1 ⟨av, H1, r1, I1, c, rfl, q1⟩
  cases r1
  exact wpAny_bind (wpAny_standAt (wpAny_holding (wpAny_truthy_bool ⟨H1, I1, q1⟩)))
noncomputable def tIf (c : Tb) (t u : Tm) : Tm := fun m H Q X => c m H (fun x H1 => if x = true then t m H1 Q X else u m H1 Q X) X
theorem sE_if {c p q : Expr} {pos : Pos} {tc : Tb} {t u : Tm} (h1 : SoundB S b d sc ρ c tc) (h2 : SoundE S b d sc ρ p t) (h3 : SoundE S b d sc ρ q u) : SoundE S b d sc ρ (.IfExp c p q pos) (tIf tc t u) := by
  intro C A env m H Q X E s R O hk V I h hE
  show wpAny S.M A (do if ← isTrue c env (eval c env) then eval p env else eval q env) _ E s
  refine wpAny_bind (wpAny_mono (h1 C A env m H _ X E s R O hk V I h hE) ?_ fun _ _ x => x)
  rintro x s1 ⟨H1, I1, q1⟩
  cases x with
  | true => simp only [if_true] at q1 ⊢; exact h2 C A env m H1 _ X E s1 R O hk V I1 q1 hE
  | false => simp only [Bool.false_eq_true, if_false] at q1 ⊢; exact h3 C A env m H1 _ X E s1 R O hk V I1 q1 hE
end
end Mine
end
-- text A3
section
set_option autoImplicit false
namespace Mine
open PySem PySem.Calls PyProof.Rows
theorem FrOK.of_env {S : St} {C : Cx} {A : Around} {env : Env} (O : EnvOK S C A env) : FrOK S C A := ⟨O.stack, O.fun_⟩
section
variable {S : St} {C : Cx} {A : Around} {H : AH} {s : Shared}
theorem Inv.other (I : Inv S C H s) {s' : Shared} (bad : Addr → Prop) (hb : ∀ a, bad a → S.base.get? a = none ∧ H a = none ∧ C.U a = none)
    (hk : ∀ b o, s.heap.get? b = some o → ¬ bad b → (b ∈ C.fr ∧ C.U b ≠ none) ∨ s'.heap.get? b = some o)
    (hf : ∀ b o, s.heap.get? b = some o → b ∈ C.fr → C.U b ≠ none → ∃ sl, s'.heap.get? b = some { o with slots := sl }) (hg : s'.gens = s.gens) (ho : s'.os = s.os) : Inv S C H s' := by
  have nb : ∀ {a : Addr} {o : Obj}, S.base.get? a = some o → ¬ bad a := fun {a o} e q => by rw [(hb a q).1] at e; cases e
  refine ⟨fun b o e => ?_, fun a o e => ?_, fun a o e => ?_, I.sepH, I.sepU, hg.trans I.gens, ho.trans I.os, I.frU⟩
  · rcases hk b o (I.base b o e) (nb e) with ⟨_, q⟩ | q
    · cases hu : C.U b with
      | none => exact absurd hu q
      | some x => rw [I.sepU b x hu] at e; cases e
    · exact q
  · have na : ¬ bad a := fun q => by rw [(hb a q).2.2] at e; cases e
    have nU : C.U a ≠ none := by rw [e]; exact fun q => by cases q
    rcases I.keep a o e with q | ⟨q1, sl, q2⟩
    · rcases hk a o q na with ⟨z, _⟩ | z
      · obtain ⟨sl, w⟩ := hf a o q z nU
        exact .inr ⟨z, sl, w⟩
      · exact .inl z
    · obtain ⟨sl', w⟩ := hf a _ q2 q1 nU
      exact .inr ⟨q1, sl', w⟩
  · refine (I.objs a o e).of_get fun ob hob => ?_
    have na : ¬ bad a := fun q => by rw [(hb a q).2.1] at e; cases e
    rcases hk a ob hob na with ⟨_, q⟩ | q
    · exact absurd (I.sepH a o e).1 q
    · exact q
end
end Mine
end
-- text A4
section
set_option autoImplicit false
namespace Mine
open PySem PySem.Calls PyProof.Rows
section
variable {S : St} {C : Cx} {H : AH} {s : Shared} {A : Around} {env : Env} {ρ : Rho} {m : Mp}
theorem NsObj.uniq {o : Obj} {m m' : Str → Option Value} (x : NsObj o m) (y : NsObj o m') : m = m' := by
  obtain ⟨es, ep, h1, h2, h3⟩ := x
  obtain ⟨es', ep', k1, k2, k3⟩ := y
  rw [h1] at k1; cases k1
  funext n; rw [← h3, ← k3]
theorem store_var {x : Str} {i : Nat} {v : Value} {av : AV} {M : Model} {E : Value → Shared → Prop} (O : EnvOK S C A env) (R : EnvRel C env ρ m) (I : Inv S C H s) (hρ : RhoOK ρ) (hx : (x, i) ∈ ρ) (hv : VR v av)
    (hk : env.kindOf x = some .local ∨ env.kindOf x = some .cell) :
    wpAny M A (bindName env x v) (fun _ s' => ∃ C' a o', ((env.kindOf x = some .local ∧ a = env.locals) ∨ (env.kindOf x = some .cell ∧ env.cells.lookup x = some a)) ∧ C' = C.hide a o' ∧ EnvOK S C' A env ∧ EnvRel C' env ρ (m.upd i av) ∧ Inv S C' H s') E s := by
  refine wpAny_bindName ?_
  rcases hk with hk | hk
  · obtain ⟨o, m₀, hU, hN⟩ := O.loc
    have hns : s.heap.Ns env.locals m₀ := by
      obtain ⟨es, ep, hd, r1, r2⟩ := id hN
      rcases I.keep _ _ hU with e | ⟨_, sl, e⟩
      · exact ⟨o, es, ep, e, hd, r1, r2⟩
      · exact ⟨_, es, ep, e, hd, r1, r2⟩
    refine wpAny_storeName_local hk hns (fun h' hn hs => ?_) (by rw [O.kind]; rfl)
    obtain ⟨o', es', ep', ho', hd', sk', hf'⟩ := hn
    have N' : NsObj o' (fun y => if y = x then some v else m₀ y) := ⟨es', ep', hd', sk', hf'⟩
    refine ⟨C.hide env.locals o', env.locals, o', .inl ⟨hk, rfl⟩, rfl, ⟨O.kind, O.glob, O.blt, O.cells, fun y c hc => ?_, O.apart, ⟨o', _, Cx.hide_self .., N'⟩, O.stack, fun en he => ?_⟩, fun y j w hy hw => ?_, ?_⟩
    · obtain ⟨h1, h2, o2, v2, h3, h4⟩ := O.cellU y c hc
      exact ⟨h1, h2, o2, v2, (Cx.hide_ne _ _ h1).trans h3, h4⟩
    · obtain ⟨h1, L, o2, h2, h3, h4, h5⟩ := O.fun_ en he
      by_cases q : L = env.locals
      · exact ⟨h1, L, o', h2, h3, by rw [q]; exact Cx.hide_self .., fun vs z => by rw [hd'] at z; cases z⟩
      · exact ⟨h1, L, o2, h2, h3, (Cx.hide_ne _ _ q).trans h4, h5⟩
    · by_cases q : j = i
      · have e : y = x := ((hρ _ hy _ hx).mpr q)
        subst e; subst q
        rw [Mp.upd_self] at hw; cases hw
        exact ⟨v, hv, .inl ⟨hk, o', _, Cx.hide_self .., N', if_pos rfl⟩⟩
      · rw [Mp.upd_ne _ _ q] at hw
        have e : y ≠ x := fun z => q ((hρ _ hy _ hx).mp z)
        obtain ⟨cv, h1, V⟩ := R y j w hy hw
        refine ⟨cv, h1, ?_⟩
        rcases V with ⟨k1, o2, m2, k2, k3, k4⟩ | ⟨k1, c, o2, k2, k3, k4⟩
        · rw [hU] at k2; cases k2
          rw [k3.uniq hN] at k4
          exact .inl ⟨k1, o', _, Cx.hide_self .., N', by simp only [if_neg e]; exact k4⟩
        · exact .inr ⟨k1, c, o2, k2, (Cx.hide_ne _ _ (O.cellU y c k2).1).trans k3, k4⟩
    · exact I.turn hU (fun b ob hb e => (hs.2 b hb).trans e) ho' rfl rfl
  · obtain ⟨c, hc⟩ := O.cells x (.inl hk)
    obtain ⟨h1, h2, o, v₀, hU, hd⟩ := O.cellU x c hc
    have hcell : s.heap.IsCell c v₀ := by
      rcases I.keep _ _ hU with e | ⟨_, sl, e⟩
      · exact ⟨o, e, hd⟩
      · exact ⟨_, e, hd⟩
    refine wpAny_storeName_cell O.kind hk hc hcell fun h' hn hs => ?_
    obtain ⟨o', ho', hd'⟩ := hn
    refine ⟨C.hide c o', c, o', .inr ⟨hk, hc⟩, rfl, ⟨O.kind, O.glob, O.blt, O.cells, fun y c' hc' => ?_, O.apart, ?_, O.stack, fun en he => ?_⟩, fun y j w hy hw => ?_, ?_⟩
    · obtain ⟨k1, k2, o2, v2, k3, k4⟩ := O.cellU y c' hc'
      by_cases q : c' = c
      · subst q; exact ⟨k1, k2, o', _, Cx.hide_self .., hd'⟩
      · exact ⟨k1, k2, o2, v2, (Cx.hide_ne _ _ q).trans k3, k4⟩
    · obtain ⟨o2, m2, k1, k2⟩ := O.loc
      exact ⟨o2, m2, (Cx.hide_ne _ _ (Ne.symm h1)).trans k1, k2⟩
    · obtain ⟨k1, L, o2, k2, k3, k4, k5⟩ := O.fun_ en he
      exact ⟨k1, L, o2, k2, k3, (Cx.hide_ne _ _ fun q => h2 (by rw [← q]; exact k3)).trans k4, k5⟩
    · by_cases q : j = i
      · have e : y = x := ((hρ _ hy _ hx).mpr q)
        subst e; subst q
        rw [Mp.upd_self] at hw; cases hw
        exact ⟨v, hv, .inr ⟨.inl hk, c, o', hc, Cx.hide_self .., hd'⟩⟩
      · rw [Mp.upd_ne _ _ q] at hw
        have e : y ≠ x := fun z => q ((hρ _ hy _ hx).mp z)
        obtain ⟨cv, h3, V⟩ := R y j w hy hw
        refine ⟨cv, h3, ?_⟩
        rcases V with ⟨k1, o2, m2, k2, k3, k4⟩ | ⟨k1, c', o2, k2, k3, k4⟩
        · exact .inl ⟨k1, o2, m2, (Cx.hide_ne _ _ (Ne.symm h1)).trans k2, k3, k4⟩
        · have hcc : c' ≠ c := fun z => e (O.apart y x c (z ▸ k2) hc)
          exact .inr ⟨k1, c', o2, k2, (Cx.hide_ne _ _ hcc).trans k3, k4⟩
    · exact I.turn hU (fun b ob hb e => (hs.2 b hb).trans e) ho' rfl rfl
theorem FUpd.stored {C C' : Cx} {x : Str} {a : Addr} {o' : Obj} (h : (env.kindOf x = some .local ∧ a = env.locals) ∨ (env.kindOf x = some .cell ∧ env.cells.lookup x = some a)) (e : C' = C.hide a o') : FUpd env C C' := by
  subst e
  refine ⟨rfl, rfl, fun b h1 h2 => Cx.hide_ne _ _ fun q => ?_⟩
  rcases h with ⟨_, h⟩ | ⟨_, h⟩
  · exact h1 (q.trans h)
  · exact h2 x (by rw [q]; exact h)
end
section
variable {S : St} {b : Bool} {d : Nat} {sc : Kd} {ρ : Rho}
noncomputable def SoundT (S : St) (b : Bool) (d : Nat) (sc : Kd) (ρ : Rho) (st : Stmt) (t : Ts) : Prop :=
  ∀ (C : Cx) (A : Around) (env : Env) (m : Mp) (H : AH) (QN : Mp → AH → Prop) (QR : QV) (X : QX) (E : Value → Shared → Prop) (s : Shared),
    Room b d A → EnvOK S C A env → (∃ outer, C.envs = env :: outer) → (∀ x, env.kindOf x = sc x) → EnvRel C env ρ m → Inv S C H s → t m H QN QR X → ExOKS S C A env X E →
    wpAny S.M A (exec st env) (PostS S C A env ρ QN QR) E s
theorem ExOKS.at {C C' : Cx} {A : Around} {env : Env} {X : QX} {E : Value → Shared → Prop} (h : ExOKS S C A env X E) (f : FUpd env C C') : ExOKS S C' A env X E := fun C'' x H' v s' f' hf hx r => h C'' x H' v s' (f.trans f') hf hx r
theorem ExOKS.ex {C : Cx} {A : Around} {env : Env} {X : QX} {E : Value → Shared → Prop} (h : ExOKS S C A env X E) (O : EnvOK S C A env) : ExOK S C X E := fun x H' v s' hx r => h C x H' v s' (.refl env C) (.of_env O) hx r
noncomputable def tSkip : Ts := fun m H QN _ _ => QN m H
noncomputable def tSeq (t u : Ts) : Ts := fun m H QN QR X => t m H (fun m1 H1 => u m1 H1 QN QR X) QR X
theorem sS_nil : SoundS S b d sc ρ [] tSkip := by
  intro C A env m H QN QR X E s R O hc hk V I h hE
  exact wpAny_execs_nil ⟨C, H, .refl env C, I, m, O, V, h⟩
theorem sS_cons {st : Stmt} {rest : List Stmt} {t u : Ts} (h1 : SoundT S b d sc ρ st t) (h2 : SoundS S b d sc ρ rest u) : SoundS S b d sc ρ (st :: rest) (tSeq t u) := by
  intro C A env m H QN QR X E s R O hc hk V I h hE
  refine wpAny_execs_cons (wpAny_mono (h1 C A env m H _ QR X E s R O hc hk V I h hE) ?_ fun _ _ x => x)
  rintro f s1 ⟨C1, H1, f1, I1, p⟩
  cases f with
  | next =>
    obtain ⟨m1, O1, V1, q1⟩ := p
    refine wpAny_mono (h2 C1 A env m1 H1 QN QR X E s1 R O1 (by rw [f1.envs]; exact hc) hk V1 I1 q1 (hE.at f1)) ?_ fun _ _ x => x
    rintro f2 s2 ⟨C2, H2, f2', I2, p2⟩
    exact ⟨C2, H2, f1.trans f2', I2, p2⟩
  | ret v => exact ⟨C1, H1, f1, I1, p⟩
  | brk => exact p.elim
  | cont => exact p.elim
noncomputable def tAssign (i : Nat) (t : Tm) : Ts := fun m H QN _ X => t m H (fun v H1 => QN (m.upd i v) H1) X
theorem sT_assign {x : Str} {i : Nat} {e : Expr} {p pos : Pos} {t : Tm} (h1 : SoundE S b d sc ρ e t) (hρ : RhoOK ρ) (hx : ρ.lookup x = some i) (hk : sc x = some .local ∨ sc x = some .cell)
    (hs : ∀ env, swapsWith e (some (.Name x p)) pos.line env = pure false) : SoundT S b d sc ρ (.Assign [.Name x p] e pos) (tAssign i t) := by
  intro C A env m H QN QR X E s R O hc hk' V I h hE
  rw [exec_Assign_Name env x p e pos (hs env)]
  refine wpAny_bind (wpAny_standAt (wpAny_bind (wpAny_mono (h1 C A env m H _ X E s R O hk' V I h (hE.ex O)) ?_ fun _ _ x => x)))
  rintro v s1 ⟨av, H1, r1, I1, q1⟩
  refine wpAny_bind (wpAny_standAt (wpAny_bind (wpAny_mono (store_var O V I1 hρ (mem_of_lookup hx) r1 (by rw [hk']; exact hk)) ?_ fun _ _ x => x)))
  rintro _ s2 ⟨C2, a2, o2, w2, e2, O2, V2, I2⟩
  exact wpAny_pure ⟨C2, H1, .stored w2 e2, I2, _, O2, V2, q1⟩
noncomputable def tRet (t : Tm) : Ts := fun m H _ QR X => t m H QR X
theorem sT_ret {e : Expr} {pos : Pos} {t : Tm} (h1 : SoundE S b d sc ρ e t) : SoundT S b d sc ρ (.Return (some e) pos) (tRet t) := by
  intro C A env m H QN QR X E s R O hc hk' V I h hE
  refine wpAny_Return_some (wpAny_mono (h1 C A env m H _ X E s R O hk' V I h (hE.ex O)) ?_ fun _ _ x => x)
  rintro v s1 ⟨av, H1, r1, I1, q1⟩
  exact ⟨C, H1, .refl env C, I1, av, r1, q1⟩
noncomputable def tIte (c : Tb) (t u : Ts) : Ts := fun m H QN QR X => c m H (fun x H1 => if x = true then t m H1 QN QR X else u m H1 QN QR X) X
theorem sT_if {c : Expr} {bd el : List Stmt} {pos : Pos} {tc : Tb} {t u : Ts} (h1 : SoundB S b d sc ρ c tc) (h2 : SoundS S b d sc ρ bd t) (h3 : SoundS S b d sc ρ el u) : SoundT S b d sc ρ (.If c bd el pos) (tIte tc t u) := by
  intro C A env m H QN QR X E s R O hc hk' V I h hE
  rw [exec_If]
  refine wpAny_bind (wpAny_standAt (wpAny_bind (wpAny_mono (h1 C A env m H _ X E s R O hk' V I h (hE.ex O)) ?_ fun _ _ x => x)))
  rintro x s1 ⟨H1, I1, q1⟩
  cases x with
  | true => simp only [if_true] at q1 ⊢; exact h2 C A env m H1 QN QR X E s1 R O hc hk' V I1 q1 hE
  | false => simp only [Bool.false_eq_true, if_false] at q1 ⊢; exact h3 C A env m H1 QN QR X E s1 R O hc hk' V I1 q1 hE
noncomputable def tExpr (t : Tm) : Ts := fun m H QN _ X => t m H (fun v H1 => (∀ a, v ≠ .ref a) ∧ QN m H1) X
theorem sT_expr {e : Expr} {pos : Pos} {t : Tm} (h1 : SoundE S b d sc ρ e t) (hs : ∀ env, swapsWith e none pos.line env = pure false) : SoundT S b d sc ρ (.Expr e pos) (tExpr t) := by
  intro C A env m H QN QR X E s R O hc hk' V I h hE
  have hi : interactive env = false := by unfold interactive; rw [O.kind]; rfl
  rw [exec_Expr env e pos hi (hs env)]
  refine wpAny_bind (wpAny_standAt (wpAny_bind (wpAny_mono (h1 C A env m H _ X E s R O hk' V I h (hE.ex O)) ?_ fun _ _ x => x)))
  rintro v s1 ⟨av, H1, r1, I1, q0, q1⟩
  rw [dropValue_plain fun a z => by subst z; cases r1; exact q0 a rfl]
  exact wpAny_pure ⟨C, H1, .refl env C, I1, m, O, V, q1⟩
end
structure StOK (S : St) : Prop where
  g : S.base.Ns mainGlobals S.mg
  b : S.base.Ns builtinsNs S.mb
  nolimit : S.base.NoLimit
  sys : ∃ o, S.base.get? sysModules = some o
noncomputable def IsDef (S : St) (f : Addr) (name : Str) (ps : List Str) (sc : Scope) (body : List Stmt) : Prop :=
  ∃ o fd, S.base.get? f = some o ∧ o.data = .func fd ∧ fd.body = .stmts body ∧ fd.scope = sc ∧ fd.closure = [] ∧ fd.globals = mainGlobals ∧ fd.builtins = builtinsNs ∧ S.base.CodeRec fd.code fd.qualname ∧
    (∀ vals : List Value, vals.length = ps.length → bindArgs fd ⟨vals, []⟩ = pure (ps.zip vals)) ∧ fd.name = name
noncomputable def mapOf : List Nat → List AV → Mp
  | i :: is, v :: vs => (mapOf is vs).upd i v
  | _, _ => fun _ => none
noncomputable def mkFn (is : List Nat) (t : Ts) : Fn := fun vs H Q X => vs.length = is.length ∧ t (mapOf is vs) H (fun _ H1 => Q .none H1) Q X
section
variable {S : St} {b : Bool} {d : Nat} {ρ : Rho}
theorem cellsFrom_mem {n : Nat} : ∀ {names : List (Str × NameKind)} {acc : List (Str × Addr)} {x : Str}, names.lookup x = some .cell ∨ (acc.lookup x).isSome = true → ((cellsFrom n names acc).lookup x).isSome = true := by
  intro names
  induction names generalizing n with
  | nil => intro acc x h; exact h.elim (fun e => by cases e) id
  | cons p r ih =>
    obtain ⟨y, k⟩ := p
    intro acc x h
    unfold cellsFrom
    by_cases hk : (k == NameKind.cell) = true
    · rw [if_pos hk]
      refine ih ?_
      by_cases hy : (x == y) = true
      · exact .inr (by rw [List.lookup_cons, hy]; rfl)
      · refine h.imp (fun e => ?_) fun e => ?_
        · rw [List.lookup_cons] at e; simpa only [hy] using e
        · rw [List.lookup_cons]; simpa only [hy] using e
    · rw [if_neg hk]
      refine ih ?_
      by_cases hy : (x == y) = true
      · refine .inr (h.elim (fun e => ?_) id)
        rw [List.lookup_cons, hy] at e
        exact absurd (by rw [Option.some.inj e]; rfl) hk
      · refine h.imp (fun e => ?_) id
        rw [List.lookup_cons] at e; simpa only [hy] using e
theorem cellsFrom_kind {n : Nat} : ∀ {names : List (Str × NameKind)} {acc : List (Str × Addr)} {x : Str} {c : Addr}, (x, c) ∈ cellsFrom n names acc → (x, c) ∈ acc ∨ (x, NameKind.cell) ∈ names := by
  intro names
  induction names generalizing n with
  | nil => intro acc x c h; exact .inl h
  | cons p r ih =>
    obtain ⟨y, k⟩ := p
    intro acc x c h
    unfold cellsFrom at h
    by_cases hk : (k == NameKind.cell) = true
    · rw [if_pos hk] at h
      rcases ih h with q | q
      · rcases List.mem_cons.mp q with e | q
        · cases e; exact .inr (by rw [show k = NameKind.cell by simpa using hk]; exact .head _)
        · exact .inl q
      · exact .inr (.tail _ q)
    · rw [if_neg hk] at h
      exact (ih h).imp id fun q => .tail _ q
theorem bindL_get {kd : Str → Option NameKind} {x : Str} (hx : kd x = some .local) : ∀ (binds : List (Str × Value)) (m : Str → Option Value), (∀ v, (x, v) ∉ binds) → bindL kd binds m x = m x
  | [], _, _ => rfl
  | (n, v) :: r, m, h => by
    unfold bindL
    rw [bindL_get hx r _ fun w hw => h w (.tail _ hw)]
    by_cases q : kd n = some .local
    · rw [if_pos q, if_neg fun z => h v (by rw [z]; exact .head _)]
    · rw [if_neg q]
theorem bindC_get {kd : Str → Option NameKind} {x : Str} : ∀ (binds : List (Str × Value)) (m : Str → Option Value), (∀ v, (x, v) ∉ binds) → bindC kd binds m x = m x
  | [], _, _ => rfl
  | (n, v) :: r, m, h => by
    unfold bindC
    rw [bindC_get r _ fun w hw => h w (.tail _ hw)]
    by_cases q : kd n = some .local
    · rw [if_pos q]
    · rw [if_neg q, if_neg fun z => h v (by rw [z]; exact .head _)]
theorem bind_at {kd : Str → Option NameKind} : ∀ {ps : List Str} {is : List Nat} {vals : List Value} {avs : List AV} {ρ : Rho} (mL mC : Str → Option Value), ps.Nodup → is.Nodup → RhoOK ρ → (∀ p ∈ ps.zip is, p ∈ ρ) → ps.length = is.length →
    VRs vals avs → ∀ {x : Str} {i : Nat} {v : AV}, (x, i) ∈ ρ → mapOf is avs i = some v → ∃ cv, VR cv v ∧ (kd x = some .local → bindL kd (ps.zip vals) mL x = some cv) ∧ (kd x ≠ some .local → bindC kd (ps.zip vals) mC x = some cv)
  | [], is, vals, avs, ρ, mL, mC, _, _, _, _, hl, hv, x, i, v, hx, hm => by
    cases is with
    | nil => cases avs <;> simp [mapOf] at hm
    | cons _ _ => simp at hl
  | p :: ps, is, vals, avs, ρ, mL, mC, hp, hi, hρ, hin, hl, hv, x, i, v, hx, hm => by
    cases is with
    | nil => simp at hl
    | cons j is =>
      cases hv with
      | nil => simp [mapOf] at hm
      | @cons u a us as hu hr =>
        obtain ⟨hp1, hp2⟩ := List.nodup_cons.mp hp
        obtain ⟨hi1, hi2⟩ := List.nodup_cons.mp hi
        have hpj : (p, j) ∈ ρ := hin _ (.head _)
        simp only [mapOf] at hm
        by_cases q : i = j
        · have e : x = p := (hρ _ hx _ hpj).mpr q
          subst e; subst q
          rw [Mp.upd_self] at hm; cases hm
          have nm : ∀ w, (x, w) ∉ ps.zip us := fun w hw => hp1 (List.of_mem_zip hw).1
          refine ⟨u, hu, fun hk => ?_, fun hk => ?_⟩
          · show bindL kd ((x, u) :: ps.zip us) mL x = _
            unfold bindL
            rw [bindL_get hk _ _ nm, if_pos hk, if_pos rfl]
          · show bindC kd ((x, u) :: ps.zip us) mC x = _
            unfold bindC
            rw [bindC_get _ _ nm, if_neg hk, if_pos rfl]
        · rw [Mp.upd_ne _ _ q] at hm
          have e : x ≠ p := fun z => q ((hρ _ hx _ hpj).mp z)
          obtain ⟨cv, h1, h2, h3⟩ := bind_at (kd := kd) (if kd p = some .local then fun y => if y = p then some u else mL y else mL) (if kd p = some .local then mC else fun y => if y = p then some u else mC y) hp2 hi2 hρ
            (fun z hz => hin z (.tail _ hz)) (by simpa using hl) hr hx hm
          exact ⟨cv, h1, h2, h3⟩
set_option maxHeartbeats 1000000 in
theorem sF_def {f : Addr} {name : Str} {ps : List Str} {is : List Nat} {sc : Scope} {body : List Stmt} {t : Ts} (K : StOK S) (hf : IsDef S f name ps sc body) (hb : SoundS S b d (fun x => sc.names.lookup x) ρ body t)
    (hps : ps.Nodup) (his : is.Nodup) (hρ : RhoOK ρ) (hin : ∀ p ∈ ps.zip is, p ∈ ρ) (hl : ps.length = is.length)
    (hkind : ∀ p ∈ ps, sc.names.lookup p = some .local ∨ sc.names.lookup p = some .cell) (hnd : (sc.names.map (·.1)).Nodup) (hfree : ∀ p ∈ sc.names, p.2 ≠ .free)
    (hsk : sc.kind = .function) (hco : sc.isCoroutine = false) (hgen : sc.isGenerator = false) : SoundF S b (d + 1) (.ref f) (mkFn is t) := by
  intro C A vs avs H Q X s R F hv I h
  obtain ⟨hlen, ht⟩ := h
  obtain ⟨o, fd, ho, hd, hbody, rfl, hclo, hg, hblt, hcr, hbind, _⟩ := hf
  have hvl : vs.length = ps.length := by rw [hv.length, hlen, hl]
  have hroom : A.depth < recursionLimit := by have := R.depth; show A.depth < 1000; lia
  refine codeAny_call_cells hroom (I.base _ _ ho) hd (K.nolimit.keeps I.base) (hcr.keeps I.base) hbody (hbind vs hvl) hclo (fun x hx => ?_) (fun s1 z => ?_) hco hgen hsk
  · obtain ⟨hx1, _⟩ := List.of_mem_zip (show (x.1, x.2) ∈ ps.zip vs from hx)
    rcases hkind x.1 hx1 with q | q
    · exact .inl q
    · exact .inr ⟨q, cellsFrom_mem (.inl q)⟩
  · generalize hE : callEnvC fd s.heap.objs.size f = env at z ⊢
    have e1 : env.scope = fd.scope := by rw [← hE]; rfl
    have e2 : env.locals = s.heap.objs.size := by rw [← hE]; rfl
    have e3 : env.cells = cellsFrom (s.heap.objs.size + 1) fd.scope.names [] := by rw [← hE]; rfl
    have e4 : env.frame = some s.heap.objs.size := by rw [← hE]; rfl
    have e5 : env.globals = mainGlobals := by rw [← hE]; exact hg
    have e6 : env.builtins = builtinsNs := by rw [← hE]; exact hblt
    have keep := z.toInCall.keep
    obtain ⟨h1, tk, rfl⟩ := z.toInCall.same
    dsimp only at keep
    have nL : s.heap.get? s.heap.objs.size = none := by
      cases q : s.heap.get? s.heap.objs.size with
      | none => rfl
      | some o => exact absurd (Heap.lt_size q) (Nat.lt_irrefl _)
    have old : ∀ {a : Addr} {o : Obj}, s.heap.get? a = some o → a < s.heap.objs.size := fun e => Heap.lt_size e
    have cellsUp : ∀ x c, env.cells.lookup x = some c → s.heap.objs.size < c := fun x c hc => e2 ▸ z.above x c (mem_of_lookup hc)
    have above : ∀ a, a = env.locals ∨ (∃ x, env.cells.lookup x = some a) → s.heap.get? a = none := fun a ha => by
      cases q : s.heap.get? a with
      | none => rfl
      | some o =>
        have lt := old q
        rcases ha with ha | ⟨x, ha⟩
        · rw [ha, e2] at lt; exact absurd lt (Nat.lt_irrefl _)
        · exact absurd (Nat.lt_trans lt (cellsUp x a ha)) (Nat.lt_irrefl _)
    classical
    let C1 : Cx := { U := fun a => if a = env.locals ∨ (∃ x, env.cells.lookup x = some a) then h1.get? a else C.U a, fr := env.locals :: C.fr, envs := env :: C.envs }
    have U1 : ∀ a, (a = env.locals ∨ ∃ x, env.cells.lookup x = some a) → C1.U a = h1.get? a := fun a ha => if_pos ha
    have U2 : ∀ a, ¬ (a = env.locals ∨ ∃ x, env.cells.lookup x = some a) → C1.U a = C.U a := fun a ha => if_neg ha
    have own : ∀ a o, C.U a = some o → ¬ (a = env.locals ∨ ∃ x, env.cells.lookup x = some a) := fun a o e q => by
      obtain ⟨ob, w⟩ := (I.keep _ _ e).there; rw [above a q] at w; cases w
    have J := I.grow (s' := { s with heap := h1, toks := tk }) keep rfl rfl
    have I1 : Inv S C1 H { s with heap := h1, toks := tk } := by
      refine ⟨J.base, fun a o e => ?_, J.objs, fun a o e => ⟨?_, (J.sepH a o e).2⟩, fun a o e => ?_, J.gens, J.os, fun a ha => ?_⟩
      · by_cases q : a = env.locals ∨ ∃ x, env.cells.lookup x = some a
        · rw [U1 a q] at e; exact .inl e
        · rw [U2 a q] at e
          rcases J.keep a o e with w | ⟨w, sl, w'⟩
          · exact .inl w
          · exact .inr ⟨.tail _ w, sl, w'⟩
      · have lt := I.lt e
        rw [U2 a fun q => ?_]
        · exact (I.sepH a o e).1
        · rcases q with q | ⟨x, q⟩
          · rw [q, e2] at lt; exact absurd lt (Nat.lt_irrefl _)
          · exact absurd (Nat.lt_trans lt (cellsUp x a q)) (Nat.lt_irrefl _)
      · by_cases q : a = env.locals ∨ ∃ x, env.cells.lookup x = some a
        · exact (I.fresh (above a q)).2.2
        · rw [U2 a q] at e; exact I.sepU a o e
      · rcases List.mem_cons.mp ha with q | q
        · obtain ⟨oL, _, _, hoL, _⟩ := z.toInCall.ns
          exact ⟨oL, by rw [q, U1 _ (.inl rfl)]; exact hoL⟩
        · obtain ⟨o, w⟩ := I.frU a q
          exact ⟨o, (U2 a (own a o w)).trans w⟩
    obtain ⟨oL, es, ep, hoL, hdL, rL1, rL2⟩ := z.toInCall.ns
    have NL : NsObj oL (bindL env.kindOf (ps.zip vs) fun _ => none) := ⟨es, ep, hdL, rL1, rL2⟩
    have kd : ∀ x, env.kindOf x = fd.scope.names.lookup x := fun x => by unfold Env.kindOf; rw [e1]
    have O1 : EnvOK S C1 (A.deeper env) env := by
      refine ⟨by rw [e1]; exact hsk, e5, e6, fun x hx => ?_, fun x c hc => ?_, fun x y c hx hy => ?_, ⟨oL, _, (U1 _ (.inl rfl)).trans hoL, NL⟩, ?_, fun en he => ?_⟩
      · rw [kd] at hx
        rcases hx with q | q
        · rw [e3]; exact Option.isSome_iff_exists.mp (cellsFrom_mem (.inl q))
        · exact absurd rfl (hfree _ (mem_of_lookup q))
      · have lt := cellsUp x c hc
        obtain ⟨oc, hoc, hdc⟩ := z.cell x c hc
        refine ⟨by rw [e2]; exact Nat.ne_of_gt lt, fun hm => ?_, oc, _, (U1 _ (.inr ⟨x, hc⟩)).trans hoc, hdc⟩
        rcases List.mem_cons.mp hm with q | q
        · rw [q, e2] at lt; exact absurd lt (Nat.lt_irrefl _)
        · obtain ⟨o, w⟩ := I.frU c q
          exact own c o w (.inr ⟨x, hc⟩)
      · exact name_of_addr z.apart (mem_of_lookup hx) (mem_of_lookup hy)
      · show (A.deeper env).frames = some (env :: C.envs)
        show A.frames.map _ = _
        rw [F.stack]; rfl
      · rcases List.mem_cons.mp he with rfl | he
        · exact ⟨by rw [e1, hsk]; decide, s.heap.objs.size, oL, e4, by rw [← e2]; exact .head _, by rw [← e2]; exact (U1 _ (.inl rfl)).trans hoL, fun ws q => by rw [hdL] at q; cases q⟩
        · obtain ⟨k1, L, o', k2, k3, k4, k5⟩ := F.fun_ en he
          exact ⟨k1, L, o', k2, .tail _ k3, (U2 _ (own L o' k4)).trans k4, k5⟩
    have V1 : EnvRel C1 env ρ (mapOf is avs) := by
      intro x i v hx hm
      obtain ⟨cv, q1, q2, q3⟩ := bind_at (kd := env.kindOf) (fun _ => none) (fun _ => none) hps his hρ hin hl hv hx hm
      refine ⟨cv, q1, ?_⟩
      by_cases w : env.kindOf x = some .local
      · exact .inl ⟨w, oL, _, (U1 _ (.inl rfl)).trans hoL, NL, q2 w⟩
      · have hxp : x ∈ ps := by
          apply Classical.byContradiction
          intro nx
          have hi : i ∉ is := fun hi => by
            obtain ⟨k, hk, e⟩ := List.mem_iff_getElem.mp hi
            have hk' : k < ps.length := by lia
            have : (ps[k], is[k]) ∈ ps.zip is := List.mem_iff_getElem.mpr ⟨k, by simp; lia, by simp⟩
            have := (hρ _ hx _ (hin _ this)).mpr (by simpa using e.symm)
            exact nx (by rw [show x = ps[k] from this]; exact List.getElem_mem _)
          have : ∀ (is : List Nat) (avs : List AV), i ∉ is → mapOf is avs i = none := by
            intro is
            induction is with
            | nil => intro avs _; cases avs <;> rfl
            | cons j is ih =>
              intro avs hn
              cases avs with
              | nil => rfl
              | cons a as =>
                show (mapOf is as).upd j a i = none
                rw [Mp.upd_ne _ _ fun q => hn (by rw [q]; exact .head _)]
                exact ih as fun q => hn (.tail _ q)
          rw [this is avs hi] at hm; cases hm
        rcases hkind x hxp with u | u
        · exact absurd ((kd x).trans u) w
        · have u' : env.kindOf x = some .cell := (kd x).trans u
          obtain ⟨c, hc⟩ := O1.cells x (.inl u')
          obtain ⟨oc, hoc, hdc⟩ := z.cell x c hc
          exact .inr ⟨.inl u', c, oc, hc, (U1 _ (.inr ⟨x, hc⟩)).trans hoc, by rw [hdc, q3 w]⟩
    have R1 : Room b d (A.deeper env) := by
      refine ⟨R.hd, ?_, ?_⟩
      · have := R.depth; show A.depth + 1 + 8 * d ≤ 600; lia
      · have := R.units; show A.units + 3 + 100 * d ≤ 9000; lia
    have back : ∀ {C2 : Cx} {H2 : AH} {s2 : Shared}, FUpd env C1 C2 → Inv S C2 H2 s2 → Inv S C H2 s2 := fun {C2 H2 s2} f2 I2 => by
      refine I2.less (fun a ha hu => ?_) (fun a o e => ?_) I.frU
      · rw [f2.fr] at ha
        rcases List.mem_cons.mp ha with q | q
        · cases w : C.U a with
          | none => exact absurd w hu
          | some o => exact absurd (.inl q) (own a o w)
        · exact q
      · have n := own a o e
        rw [f2.other a (fun q => n (.inl q)) (fun x q => n (.inr ⟨x, q⟩)), U2 a n]; exact e
    refine wpAny_mono (hb C1 (A.deeper env) env (mapOf is avs) H _ Q X _ _ R1 O1 ⟨_, rfl⟩ kd V1 I1 ht ?_) ?_ fun _ _ x => x
    · intro C2 x H2 v s2 f2 F2 hx hr
      cases hr
    · rintro fl s2 ⟨C2, H2, f2, I2, p⟩
      cases fl with
      | next => obtain ⟨m2, _, _, q⟩ := p; exact ⟨_, H2, .none, back f2 I2, q⟩
      | ret v => obtain ⟨av, q1, q2⟩ := p; exact ⟨av, H2, q1, back f2 I2, q2⟩
      | brk => exact p.elim
      | cont => exact p.elim
end
end Mine
end
-- text A5
section
set_option autoImplicit false
namespace Mine
open PySem PySem.Calls PyProof.Rows
section
variable {S : St} {b : Bool} {d : Nat} {sc : Kd} {ρ : Rho}
theorem load_global {C : Cx} {A : Around} {env : Env} {H : AH} {s : Shared} {x : Str} {pos : Pos} {v : Value} {E : Value → Shared → Prop} {Q : Value → Shared → Prop} (K : StOK S) (O : EnvOK S C A env) (I : Inv S C H s)
    (hx : env.kindOf x = some .globalImplicit) (hv : S.mg x = some v) (hd : (x == ("__debug__" : Str)) = false) (h : Q v s) : wpAny S.M A (eval (.Name x pos) env) Q E s :=
  Name_function_global O.kind hx (loadGlobal_global (by rw [O.glob]; exact K.g.keeps I.base) hv h) hd
theorem load_builtin {C : Cx} {A : Around} {env : Env} {H : AH} {s : Shared} {x : Str} {pos : Pos} {v : Value} {E : Value → Shared → Prop} {Q : Value → Shared → Prop} (K : StOK S) (O : EnvOK S C A env) (I : Inv S C H s)
    (hx : env.kindOf x = some .globalImplicit) (hm : S.mg x = none) (hv : S.mb x = some v) (hd : (x == ("__debug__" : Str)) = false) (h : Q v s) : wpAny S.M A (eval (.Name x pos) env) Q E s :=
  Name_function_global O.kind hx (loadGlobal_builtin (by rw [O.glob]; exact K.g.keeps I.base) hm (by rw [O.blt]; exact K.b.keeps I.base) hv h) hd
theorem sE_const {x : Str} {pos : Pos} {v : Value} {av : AV} (K : StOK S) (hx : sc x = some .globalImplicit) (hv : S.mg x = some v) (hr : VR v av) (hd : (x == ("__debug__" : Str)) = false) :
    SoundE S b d sc ρ (.Name x pos) (tVal av) := by
  intro C A env m H Q X E s R O hk V I h hE
  exact load_global K O I ((hk x).trans hx) hv hd ⟨av, H, hr, I, h⟩
noncomputable def noStar : List Expr → Bool
  | [] => true
  | .Starred .. :: _ => false
  | _ :: r => noStar r
theorem starEach_plain {env : Env} : ∀ {es : List Expr}, noStar es = true → starEach es env = es.map fun e => (false, eval e env)
  | [], _ => rfl
  | e :: r, h => by
    cases e <;> first | (cases h; done) | (rw [List.map_cons, ← starEach_plain (es := r) h]; rfl)
theorem backTo_plain {env : Env} {es : List Expr} {pos : Pos} (h : noStar es = true) : backTo pos (starEach es env) = es.map fun e => (false, eval e env) := by
  rw [starEach_plain h]; unfold backTo; rw [List.map_map]; rfl
theorem backTo_any {env : Env} {es : List Expr} {pos : Pos} (h : noStar es = true) : (backTo pos (starEach es env)).any (·.1) = false := by
  rw [backTo_plain h]; simp
theorem evalArgs_of {M : Model} {A : Around} {E : Value → Shared → Prop} {s : Shared} {f : Value} {es : List Expr} {env : Env} {pos : Pos} {Q : Args → Shared → Prop} (ht : noStar es = true)
    (h : wpAny M A (spliced (backTo pos (starEach es env))) (fun vs s' => Q ⟨vs, []⟩ s') E s) : wpAny M A (evalArgs f true (backTo pos (starEach es env)) []) Q E s := by
  rw [backTo_plain ht] at h ⊢
  cases es with
  | nil =>
    unfold evalArgs
    show wpAny M A (spliced [] >>= _) Q E s
    refine wpAny_bind (wpAny_mono h (fun vs s' h' => wpAny_bind (wpAny_pure ?_)) fun _ _ x => x)
    refine wpAny_holding ?_
    exact wpAny_bind (wpAny_pure (wpAny_bind (wpAny_pure (wpAny_pure h'))))
  | cons e r => exact evalArgs_plain h
noncomputable def tCall (F : Fn) (ts : Tms) : Tm := fun m H Q X => ts m H (fun vs H1 => F vs H1 Q X) X
theorem sE_call {f : Str} {a : Addr} {args : List Expr} {p pos : Pos} {F : Fn} {ts : Tms} {o : Obj} {fd : FuncData} (K : StOK S) (hF : SoundF S b d (.ref a) F) (h1 : SoundEs S b d sc ρ args ts) (hx : sc f = some .globalImplicit)
    (hv : S.mg f = some (.ref a)) (ho : S.base.get? a = some o) (hfd : o.data = .func fd) (hd : (f == ("__debug__" : Str)) = false) (hs : noStar args = true) :
    SoundE S b d sc ρ (.Call (.Name f p) args [] pos) (tCall F ts) := by
  intro C A env m H Q X E s R O hk V I h hE
  refine wpAny_Call_NameR (load_global K O I ((hk f).trans hx) hv hd ?_)
  refine callWith_function (o := o) (fd := fd) (evalArgs_of hs (wpAny_mono (h1 C A env m H _ X E s pos R O hk V I h hE) ?_ fun _ _ x => x))
  rintro vs s1 ⟨avs, H1, r1, I1, q1⟩
  refine ⟨⟨I1.base _ _ ho, hfd⟩, wpAny_call (codeAny_mono (hF C A vs avs H1 Q X s1 R (.of_env O) r1 I1 q1) ?_)⟩
  intro r s2 hr
  cases r with
  | error e => obtain ⟨x, H2, hx, hr⟩ := hr; exact hE x H2 e s2 hx hr
  | ok fl => cases fl <;> first | exact hr | exact hr.elim
noncomputable abbrev BFn := List AV → AH → QV → Prop
noncomputable def BFnOK (S : St) (b : Bool) (f : Value) (F : BFn) : Prop :=
  ∀ (C : Cx) (A : Around) (vs : List Value) (avs : List AV) (H : AH) (Q : QV) (E : Value → Shared → Prop) (s : Shared), (b = true → A.handled = none) → A.units ≤ 9000 → VRs vs avs → Inv S C H s → F avs H Q → wpAny S.M A (call f vs) (PostV S C Q) E s
noncomputable def tBcall (F : BFn) (ts : Tms) : Tm := fun m H Q X => ts m H (fun vs H1 => F vs H1 Q) X
theorem sE_bcall {f : Str} {id : String} {args : List Expr} {p pos : Pos} {F : BFn} {ts : Tms} (K : StOK S) (hF : BFnOK S b (.builtin id) F) (h1 : SoundEs S b d sc ρ args ts) (hx : sc f = some .globalImplicit)
    (hm : S.mg f = none) (hv : S.mb f = some (.builtin id)) (hd : (f == ("__debug__" : Str)) = false) (hs : noStar args = true) : SoundE S b d sc ρ (.Call (.Name f p) args [] pos) (tBcall F ts) := by
  intro C A env m H Q X E s R O hk V I h hE
  refine wpAny_Call_NameR (load_builtin K O I ((hk f).trans hx) hm hv hd ?_)
  refine Calls.callWith_builtin (backTo_any hs) (evalArgs_of hs (wpAny_mono (h1 C A env m H _ X E s pos R O hk V I h hE) ?_ fun _ _ x => x))
  rintro vs s1 ⟨avs, H1, r1, I1, q1⟩
  exact hF C A vs avs H1 Q E s1 R.hd R.u r1 I1 q1
theorem sE_tcall {f : Str} {T : String} {args : List Expr} {p pos : Pos} {F : BFn} {ts : Tms} (K : StOK S) (hF : BFnOK S b (.type T) F) (h1 : SoundEs S b d sc ρ args ts) (hx : sc f = some .globalImplicit)
    (hm : S.mg f = none) (hv : S.mb f = some (.type T)) (hd : (f == ("__debug__" : Str)) = false) (hs : noStar args = true) : SoundE S b d sc ρ (.Call (.Name f p) args [] pos) (tBcall F ts) := by
  intro C A env m H Q X E s R O hk V I h hE
  refine wpAny_Call_NameR (load_builtin K O I ((hk f).trans hx) hm hv hd ?_)
  refine PySem.callWith_type (backTo_any hs) (evalArgs_of hs (wpAny_mono (h1 C A env m H _ X E s pos R O hk V I h hE) ?_ fun _ _ x => x))
  rintro vs s1 ⟨avs, H1, r1, I1, q1⟩
  exact hF C A vs avs H1 Q E s1 R.hd R.u r1 I1 q1
end
end Mine
end
-- text A6
section
set_option autoImplicit false
namespace Mine
open PySem PySem.Calls PyProof.Rows
inductive SK where
  | list | tuple | script | range | str
noncomputable def intsFrom (lo hi : Int) : List Int := (List.range (hi - lo).toNat).map fun (k : Nat) => lo + k
noncomputable def signs (x : Str) : List AV := x.cps.toList.map fun c => AV.str ⟨#[c]⟩
noncomputable def ItemsK : SK → AH → AV → List AV → Prop
  | .list, H, .ref a, xs => H a = some (.list xs)
  | .tuple, H, .ref a, xs => H a = some (.tuple xs)
  | .script, H, .ref a, xs => ∃ ns, H a = some (.script ns) ∧ xs = ns.map AV.int
  | .range, H, .ref a, xs => ∃ lo hi, H a = some (.range lo hi) ∧ xs = (intsFrom lo hi).map AV.int
  | .str, _, .str x, xs => xs = signs x ∧ x.cps.size ≤ 1048576
  | _, _, _, _ => False
inductive ItAt (S : St) : SK → AV → List AV → Nat → Addr → Heap → Prop
  | list {l I : Addr} {xs : List AV} {k : Nat} {h : Heap} : l ≠ I → h.IsListIter I l k → ItAt S .list (.ref l) xs k I h
  | script {l I : Addr} {xs : List AV} {k : Nat} {h : Heap} : l ≠ I → h.IsListIter I l k → ItAt S .script (.ref l) xs k I h
  | tuple {l I : Addr} {xs : List AV} {k : Nat} {h : Heap} : l ≠ I → h.IsTupleIter I l k → ItAt S .tuple (.ref l) xs k I h
  | range {a I : Addr} {lo hi : Int} {k : Nat} {h : Heap} : IsRangeIter h I (lo + (k : Int) * 1) (((hi - lo).toNat : Int) - k) 1 → ItAt S .range (.ref a) ((intsFrom lo hi).map AV.int) k I h
  | ascii {x : Str} {t : Tok} {I : Addr} {k : Nat} {h : Heap} : PyData.strOk x = true → h.IsStrIter I "str_ascii_iterator" x t k → ItAt S .str (.str x) (signs x) k I h
  | wide {x : Str} {t : Tok} {I : Addr} {k : Nat} {h : Heap} : PyData.strOk x = true → h.IsStrIter I "str_iterator" x t k → ItAt S .str (.str x) (signs x) k I h
theorem ItAt.frame {S : St} {kd : SK} {v : AV} {xs : List AV} {k : Nat} {I : Addr} {h h' : Heap} (x : ItAt S kd v xs k I h) (e : ∀ o, h.get? I = some o → h'.get? I = some o) : ItAt S kd v xs k I h' := by
  cases x with
  | list n q => obtain ⟨o, h1, h2⟩ := q; exact .list n ⟨o, e _ h1, h2⟩
  | script n q => obtain ⟨o, h1, h2⟩ := q; exact .script n ⟨o, e _ h1, h2⟩
  | tuple n q => obtain ⟨o, h1, h2⟩ := q; exact .tuple n ⟨o, e _ h1, h2⟩
  | range q => exact .range (e _ q)
  | ascii ok q => obtain ⟨o, h1, h2⟩ := q; exact .ascii ok ⟨o, e _ h1, h2⟩
  | wide ok q => obtain ⟨o, h1, h2⟩ := q; exact .wide ok ⟨o, e _ h1, h2⟩
theorem ItAt.there {S : St} {kd : SK} {v : AV} {xs : List AV} {k : Nat} {I : Addr} {h : Heap} (x : ItAt S kd v xs k I h) : ∃ o, h.get? I = some o := by
  cases x with
  | list n q => obtain ⟨o, h1, h2⟩ := q; exact ⟨o, h1⟩
  | script n q => obtain ⟨o, h1, h2⟩ := q; exact ⟨o, h1⟩
  | tuple n q => obtain ⟨o, h1, h2⟩ := q; exact ⟨o, h1⟩
  | range q => exact ⟨_, q⟩
  | ascii ok q => obtain ⟨o, h1, h2⟩ := q; exact ⟨o, h1⟩
  | wide ok q => obtain ⟨o, h1, h2⟩ := q; exact ⟨o, h1⟩
theorem ItAt.self {S : St} {kd : SK} {v : AV} {xs : List AV} {k : Nat} {I : Addr} {s : Shared} {A : Around} {E : Value → Shared → Prop} {Q : Value → Shared → Prop} (x : ItAt S kd v xs k I s.heap) (h : Q (.ref I) s) : wpAny S.M A (pyIter (.ref I)) Q E s := by
  cases x with
  | list n q => exact wpAny_pyIter_listiter q h
  | script n q => exact wpAny_pyIter_listiter q h
  | tuple n q => exact wpAny_pyIter_tupleiter q h
  | range q => exact wpAny_pyIter_rangeiter q h
  | ascii ok q => exact wpAny_pyIter_striter_ascii q h
  | wide ok q => exact wpAny_pyIter_striter_wide q h
theorem intsFrom_get {lo hi : Int} {k : Nat} (h : k < (hi - lo).toNat) : (intsFrom lo hi)[k]? = some (lo + k) := by simp [intsFrom, h]
theorem intsFrom_length (lo hi : Int) : (intsFrom lo hi).length = (hi - lo).toNat := by simp [intsFrom]
theorem rangeSize_one (lo hi : Int) : Builtin.Range.rangeSize lo hi 1 = ((hi - lo).toNat : Int) := by
  unfold Builtin.Range.rangeSize
  simp only [Int.reduceGT, if_true]
  split <;> lia
theorem signs_get {x : Str} {k : Nat} {c : Nat} (h : x.cps[k]? = some c) : (signs x)[k]? = some (.str ⟨#[c]⟩) := by
  unfold signs
  rw [List.getElem?_map, Array.getElem?_toList, h]; rfl
theorem strOk_sign {x : Str} {k c : Nat} (ok : PyData.strOk x = true) (h : x.cps[k]? = some c) : PyData.strOk ⟨#[c]⟩ = true := by
  unfold PyData.strOk at ok ⊢
  have := Array.all_eq_true'.mp ok c (Array.mem_of_getElem? h)
  simpa using this
section
variable {S : St} {C : Cx} {H : AH} {s : Shared} {A : Around}
theorem iter_start {kd : SK} {v : AV} {cv : Value} {xs : List AV} {E : Value → Shared → Prop} {Q : Value → Shared → Prop} (I : Inv S C H s) (hv : VR cv v) (hi : ItemsK kd H v xs)
    (hQ : ∀ It o s', s.heap.get? It = none → s'.heap.get? It = some o → (∀ b o, s.heap.get? b = some o → s'.heap.get? b = some o) → s'.gens = s.gens → s'.os = s.os → ItAt S kd v xs 0 It s'.heap → Q (.ref It) s') :
    wpAny S.M A (pyIter cv) Q E s := by
  have nn : s.heap.get? s.heap.objs.size = none := by
    cases q : s.heap.get? s.heap.objs.size with
    | none => rfl
    | some o => exact absurd (Heap.lt_size q) (Nat.lt_irrefl _)
  have up : ∀ o b o', s.heap.get? b = some o' → (s.heap.push o).get? b = some o' := fun o b o' e => Heap.get?_push_of_some _ e
  cases kd with
  | list =>
    cases v with
    | ref a =>
      cases hv
      obtain ⟨vs, n, h1, h2, h3⟩ := I.objs a _ hi
      refine wpAny_pyIter_list ⟨_, h1, rfl, n, rfl⟩ (hQ _ _ _ nn (Heap.get?_push_size _ rfl) (up _) rfl rfl (.list (Nat.ne_of_lt (Heap.lt_size h1)) ⟨_, Heap.get?_push_size _ rfl, rfl, rfl⟩))
    | _ => exact hi.elim
  | tuple =>
    cases v with
    | ref a =>
      cases hv
      obtain ⟨vs, n, h1, h2⟩ := I.objs a _ hi
      refine wpAny_pyIter_tuple ⟨_, h1, rfl, n, rfl⟩ (hQ _ _ _ nn (Heap.get?_push_size _ rfl) (up _) rfl rfl (.tuple (Nat.ne_of_lt (Heap.lt_size h1)) ⟨_, Heap.get?_push_size _ rfl, rfl, rfl⟩))
    | _ => exact hi.elim
  | script =>
    cases v with
    | ref a =>
      cases hv
      obtain ⟨ns, hi, rfl⟩ := hi
      obtain ⟨vs, ⟨ob, h1, hc, n, hd⟩, h2, h3⟩ := I.objs a _ hi
      refine wpAny_pyIter_list ⟨ob, I.base _ _ h1, hc, n, hd⟩ (hQ _ _ _ nn (Heap.get?_push_size _ rfl) (up _) rfl rfl (.script (Nat.ne_of_lt (Heap.lt_size (I.base _ _ h1))) ⟨_, Heap.get?_push_size _ rfl, rfl, rfl⟩))
    | _ => exact hi.elim
  | range =>
    cases v with
    | ref a =>
      cases hv
      obtain ⟨lo, hi', hi, rfl⟩ := hi
      obtain ⟨t, u, v, b1, b2, h1⟩ := I.objs a _ hi
      refine wpAny_pyIter_range h1 ?_ (hQ _ _ _ nn (Heap.get?_push_size _ rfl) (up _) rfl rfl (.range ?_))
      · unfold Builtin.Range.small
        rw [rangeSize_one]
        simp only [Builtin.Range.rangeFitsLong, Bool.and_eq_true, Bool.or_eq_true, decide_eq_true_eq, Int.reduceGT, if_true]
        lia
      · show IsRangeIter _ _ _ _ _
        have e := Heap.get?_push_size s.heap (o := { cls := .type "range_iterator", dict := none, data := .fields #[rawInt lo, rawInt (Builtin.Range.rangeSize lo hi' 1), rawInt 1], slots := #[] }) rfl
        rw [rangeSize_one] at e
        simpa [rangeSize_one] using e
    | _ => exact hi.elim
  | str =>
    cases v with
    | str x =>
      cases hv with
      | str _ t ok =>
        obtain ⟨rfl, _⟩ := hi
        cases ha : x.cps.all (· < 128)
        · exact wpAny_pyIter_wide ha (hQ _ _ _ nn (Heap.get?_push_size _ rfl) (up _) rfl rfl (.wide ok ⟨_, Heap.get?_push_size _ rfl, rfl, rfl⟩))
        · exact wpAny_pyIter_ascii ha (hQ _ _ _ nn (Heap.get?_push_size _ rfl) (up _) rfl rfl (.ascii ok ⟨_, Heap.get?_push_size _ rfl, rfl, rfl⟩))
    | _ => exact hi.elim
theorem iter_next {kd : SK} {v : AV} {xs : List AV} {k : Nat} {It : Addr} {E : Value → Shared → Prop} {Q : Option Value → Shared → Prop} (I : Inv S C H s) (hh : A.handled = none) (hi : ItemsK kd H v xs) (ht : ItAt S kd v xs k It s.heap)
    (hk : k ≤ xs.length)
    (hs : ∀ cv x s', xs[k]? = some x → VR cv x → ItAt S kd v xs (k + 1) It s'.heap → (∀ b o, b ≠ It → s.heap.get? b = some o → s'.heap.get? b = some o) → s'.gens = s.gens → s'.os = s.os → Q (some cv) s')
    (hn : ∀ s', k = xs.length → (∀ b o, b ≠ It → s.heap.get? b = some o → s'.heap.get? b = some o) → s'.gens = s.gens → s'.os = s.os → Q none s') :
    wpAny S.M A (pyNext (.ref It)) Q E s := by
  have one : ∀ {b : Addr}, b ≠ It → b ∉ [It] := fun n q => n (List.mem_singleton.mp q)
  cases ht with
  | list ne q =>
    obtain ⟨vs, n, h1, h2, h3⟩ := I.objs _ _ hi
    have hl : s.heap.IsList _ vs.toArray := ⟨_, h1, rfl, n, rfl⟩
    have W := Walks.list (prog := S.prog) (w := S.w) hh It _ ne vs.toArray
    have hlen := h2.length
    rcases Nat.lt_or_ge k xs.length with lt | ge
    · refine W.item k s _ _ (by simp; lia) ⟨q, hl⟩ fun w h' tk hw hst hkp => ?_
      obtain ⟨x, hx, hr⟩ := h2.getV (by simpa using hw)
      exact hs w x _ hx hr (.list ne hst.1) (fun b o nb e => hkp b o (one nb) e) rfl rfl
    · refine W.done s _ _ ?_ fun h' tk hkp => hn _ (by lia) (fun b o nb e => hkp b o (one nb) e) rfl rfl
      have : vs.toArray.size = k := by simp; lia
      rw [this]; exact ⟨q, hl⟩
  | script ne q =>
    obtain ⟨ns, hi, rfl⟩ := hi
    obtain ⟨vs, ⟨ob, h1, hc, n, hd⟩, h2, h3⟩ := I.objs _ _ hi
    have hl : s.heap.IsList _ vs.toArray := ⟨ob, I.base _ _ h1, hc, n, hd⟩
    have W := Walks.list (prog := S.prog) (w := S.w) hh It _ ne vs.toArray
    have hlen := h2.length
    rcases Nat.lt_or_ge k (ns.map AV.int).length with lt | ge
    · refine W.item k s _ _ (by simp; simp at hlen lt; lia) ⟨q, hl⟩ fun w h' tk hw hst hkp => ?_
      obtain ⟨x, hx, hr⟩ := h2.getV (by simpa using hw)
      exact hs w x _ hx hr (.script ne hst.1) (fun b o nb e => hkp b o (one nb) e) rfl rfl
    · refine W.done s _ _ ?_ fun h' tk hkp => hn _ (by lia) (fun b o nb e => hkp b o (one nb) e) rfl rfl
      have : vs.toArray.size = k := by simp; lia
      rw [this]; exact ⟨q, hl⟩
  | tuple ne q =>
    obtain ⟨vs, n, h1, h2, _⟩ := I.objs _ _ hi
    have hl : s.heap.IsTuple _ vs.toArray := ⟨_, h1, rfl, n, rfl⟩
    have W := Walks.tuple (prog := S.prog) (w := S.w) hh It _ ne vs.toArray
    have hlen := h2.length
    rcases Nat.lt_or_ge k xs.length with lt | ge
    · refine W.item k s _ _ (by simp; lia) ⟨q, hl⟩ fun w h' tk hw hst hkp => ?_
      obtain ⟨x, hx, hr⟩ := h2.getV (by simpa using hw)
      exact hs w x _ hx hr (.tuple ne hst.1) (fun b o nb e => hkp b o (one nb) e) rfl rfl
    · refine W.done s _ _ ?_ fun h' tk hkp => hn _ (by lia) (fun b o nb e => hkp b o (one nb) e) rfl rfl
      have : vs.toArray.size = k := by simp; lia
      rw [this]; exact ⟨q, hl⟩
  | @range a _ lo hi' _ _ q =>
    have W := Walks.range (prog := S.prog) (w := S.w) hh It lo 1 (hi' - lo).toNat
    have hlen : ((intsFrom lo hi').map AV.int).length = (hi' - lo).toNat := by simp [intsFrom_length]
    rcases Nat.lt_or_ge k (hi' - lo).toNat with lt | ge
    · refine W.item k s _ _ lt q fun w h' tk hw hst hkp => ?_
      obtain ⟨t, rfl⟩ := hw
      refine hs _ (.int (lo + k)) _ (by rw [List.getElem?_map, intsFrom_get lt]; rfl) (by rw [Int.mul_one]; exact .int _ t) (.range hst) (fun b o nb e => hkp b o (one nb) e) rfl rfl
    · refine W.done s _ _ ?_ fun h' tk hkp => hn _ (by lia) (fun b o nb e => hkp b o (one nb) e) rfl rfl
      have : (hi' - lo).toNat = k := by lia
      rw [this] at q ⊢; exact q
  | @ascii x t _ _ _ ok q =>
    have W := Walks.strAscii (prog := S.prog) (w := S.w) hh It x t
    have hlen : (signs x).length = x.cps.size := by simp [signs]
    rcases Nat.lt_or_ge k x.cps.size with lt | ge
    · refine W.item k s _ _ lt q fun w h' tk hw hst hkp => ?_
      obtain ⟨c, u, hc, rfl⟩ := hw
      exact hs _ (.str ⟨#[c]⟩) _ (signs_get hc) (.str _ u (strOk_sign ok hc)) (.ascii ok hst) (fun b o nb e => hkp b o (one nb) e) rfl rfl
    · refine W.done s _ _ ?_ fun h' tk hkp => hn _ (by lia) (fun b o nb e => hkp b o (one nb) e) rfl rfl
      have : x.cps.size = k := by lia
      rw [this]; exact q
  | @wide x t _ _ _ ok q =>
    have W := Walks.strWide (prog := S.prog) (w := S.w) hh It x t
    have hlen : (signs x).length = x.cps.size := by simp [signs]
    rcases Nat.lt_or_ge k x.cps.size with lt | ge
    · refine W.item k s _ _ lt q fun w h' tk hw hst hkp => ?_
      obtain ⟨c, u, hc, rfl⟩ := hw
      exact hs _ (.str ⟨#[c]⟩) _ (signs_get hc) (.str _ u (strOk_sign ok hc)) (.wide ok hst) (fun b o nb e => hkp b o (one nb) e) rfl rfl
    · refine W.done s _ _ ?_ fun h' tk hkp => hn _ (by lia) (fun b o nb e => hkp b o (one nb) e) rfl rfl
      have : x.cps.size = k := by lia
      rw [this]; exact q
theorem items_le {kd : SK} {v : AV} {xs : List AV} (I : Inv S C H s) (hi : ItemsK kd H v xs) : xs.length ≤ sizeLine := by
  have hz : sizeLine = 16777216 := rfl
  cases kd <;> cases v <;> first | exact hi.elim | skip
  · obtain ⟨vs, n, h1, h2, h3⟩ := I.objs _ _ hi; rw [← h2.length]; exact h3
  · obtain ⟨vs, n, h1, h2, h3⟩ := I.objs _ _ hi; rw [← h2.length]; exact h3
  · obtain ⟨ns, hi, rfl⟩ := hi
    obtain ⟨vs, h1, h2, h3⟩ := I.objs _ _ hi; rw [← h2.length]; lia
  · obtain ⟨lo, hi', hi, rfl⟩ := hi
    obtain ⟨t, u, v, b1, b2, h1⟩ := I.objs _ _ hi
    rw [List.length_map, intsFrom_length]; lia
  · obtain ⟨rfl, h⟩ := hi
    simp only [signs, List.length_map, Array.length_toList]; lia
end
end Mine
end
-- text A7
section
set_option autoImplicit false
set_option linter.unusedVariables false
namespace Mine
open PySem PySem.Calls PyProof.Rows
noncomputable def Cx.drop (C : Cx) (a : Addr) : Cx := { C with U := fun b => if b = a then none else C.U b }
theorem Cx.drop_self (C : Cx) (a : Addr) : (C.drop a).U a = none := if_pos rfl
theorem Cx.drop_ne (C : Cx) {a b : Addr} (h : b ≠ a) : (C.drop a).U b = C.U b := if_neg h
section
variable {S : St} {C : Cx} {H : AH} {s : Shared} {A : Around} {env : Env} {ρ : Rho} {m : Mp} {a : Addr}
theorem EnvOK.of_U {C' : Cx} (O : EnvOK S C A env) (hf : C'.fr = C.fr) (he : C'.envs = C.envs) (h1 : C'.U env.locals = C.U env.locals) (h2 : ∀ x c, env.cells.lookup x = some c → C'.U c = C.U c) (h3 : ∀ L, L ∈ C.fr → C'.U L = C.U L) : EnvOK S C' A env := by
  refine ⟨O.kind, O.glob, O.blt, O.cells, fun x c hc => ?_, O.apart, ?_, by rw [he]; exact O.stack, fun e hm => ?_⟩
  · obtain ⟨k1, k2, o, v, k3, k4⟩ := O.cellU x c hc
    exact ⟨k1, by rw [hf]; exact k2, o, v, (h2 x c hc).trans k3, k4⟩
  · obtain ⟨o, m, k1, k2⟩ := O.loc
    exact ⟨o, m, h1.trans k1, k2⟩
  · rw [he] at hm
    obtain ⟨k1, L, o, k2, k3, k4, k5⟩ := O.fun_ e hm
    exact ⟨k1, L, o, k2, by rw [hf]; exact k3, (h3 L k3).trans k4, k5⟩
theorem EnvRel.of_U {C' : Cx} (R : EnvRel C env ρ m) (h1 : C'.U env.locals = C.U env.locals) (h2 : ∀ x c, env.cells.lookup x = some c → C'.U c = C.U c) : EnvRel C' env ρ m := by
  intro x i v hx hm
  obtain ⟨cv, q, V⟩ := R x i v hx hm
  refine ⟨cv, q, ?_⟩
  rcases V with ⟨k, o, m', k1, k2⟩ | ⟨k, c, o, k1, k2, k3⟩
  · exact .inl ⟨k, o, m', h1.trans k1, k2⟩
  · exact .inr ⟨k, c, o, k1, (h2 x c k1).trans k2, k3⟩
structure Apart (C : Cx) (env : Env) (a : Addr) : Prop where
  loc : a ≠ env.locals
  cell : ∀ x, env.cells.lookup x ≠ some a
  fr : a ∉ C.fr
theorem EnvOK.apart_of (O : EnvOK S C A env) (I : Inv S C H s) (h : C.U a = none) : Apart C env a := by
  refine ⟨fun q => ?_, fun x q => ?_, fun q => ?_⟩
  · obtain ⟨o, _, k, _⟩ := O.loc; rw [← q, h] at k; cases k
  · obtain ⟨_, _, o, _, k, _⟩ := O.cellU x a q; rw [h] at k; cases k
  · obtain ⟨o, k⟩ := I.frU a q; rw [h] at k; cases k
theorem EnvOK.hide (O : EnvOK S C A env) (P : Apart C env a) (o : Obj) : EnvOK S (C.hide a o) A env :=
  O.of_U rfl rfl (Cx.hide_ne _ _ (Ne.symm P.loc)) (fun x c hc => Cx.hide_ne _ _ fun q => P.cell x (q ▸ hc)) fun L hL => Cx.hide_ne _ _ fun q => P.fr (q ▸ hL)
theorem EnvRel.hide (R : EnvRel C env ρ m) (P : Apart C env a) (o : Obj) : EnvRel (C.hide a o) env ρ m :=
  R.of_U (Cx.hide_ne _ _ (Ne.symm P.loc)) fun x c hc => Cx.hide_ne _ _ fun q => P.cell x (q ▸ hc)
theorem EnvOK.drop (O : EnvOK S C A env) (P : Apart C env a) : EnvOK S (C.drop a) A env :=
  O.of_U rfl rfl (Cx.drop_ne _ (Ne.symm P.loc)) (fun x c hc => Cx.drop_ne _ fun q => P.cell x (q ▸ hc)) fun L hL => Cx.drop_ne _ fun q => P.fr (q ▸ hL)
theorem EnvRel.drop (R : EnvRel C env ρ m) (P : Apart C env a) : EnvRel (C.drop a) env ρ m :=
  R.of_U (Cx.drop_ne _ (Ne.symm P.loc)) fun x c hc => Cx.drop_ne _ fun q => P.cell x (q ▸ hc)
theorem Inv.drop (I : Inv S C H s) (h : a ∉ C.fr) : Inv S (C.drop a) H s := by
  refine I.less (fun b hb _ => hb) (fun b o e => ?_) fun b hb => ?_
  · by_cases q : b = a
    · rw [q, Cx.drop_self] at e; cases e
    · rw [Cx.drop_ne _ q] at e; exact e
  · obtain ⟨o, e⟩ := I.frU b hb
    exact ⟨o, (Cx.drop_ne _ fun q => h (by rw [← q]; exact hb)).trans e⟩
theorem Inv.loose (I : Inv S C H s) {s' : Shared} (hb : S.base.get? a = none ∧ H a = none ∧ C.U a = none) (hk : ∀ b o, b ≠ a → s.heap.get? b = some o → s'.heap.get? b = some o) (hg : s'.gens = s.gens) (ho : s'.os = s.os) : Inv S C H s' :=
  I.other (fun b => b = a) (fun b q => q ▸ hb) (fun b o e n => .inr (hk b o n e)) (fun b o e _ hu => ⟨o.slots, hk b o (fun q => hu (q ▸ hb.2.2)) e⟩) hg ho
theorem Inv.track (I : Inv S C H s) {o : AO} (hb : S.base.get? a = none ∧ H a = none ∧ C.U a = none) (ha : ObjAt S s.heap a o) : Inv S C (H.put a o) s := by
  refine ⟨I.base, I.keep, fun b o' e => ?_, fun b o' e => ?_, I.sepU, I.gens, I.os, I.frU⟩
  · by_cases q : b = a
    · subst q; rw [AH.put_self] at e; cases e; exact ha
    · rw [AH.put_ne _ _ q] at e; exact I.objs b o' e
  · by_cases q : b = a
    · subst q; exact ⟨hb.2.2, fun _ => hb.1⟩
    · rw [AH.put_ne _ _ q] at e; exact I.sepH b o' e
theorem Inv.hid (I : Inv S C H s) {o : Obj} (h : C.U a = some o) : S.base.get? a = none ∧ H a = none := by
  refine ⟨I.sepU a o h, ?_⟩
  cases q : H a with
  | none => rfl
  | some x => rw [(I.sepH a x q).1] at h; cases h
theorem Inv.exact (I : Inv S C H s) {o : Obj} (h : C.U a = some o) (hf : a ∉ C.fr) : s.heap.get? a = some o := by
  rcases I.keep a o h with q | ⟨q, _⟩
  · exact q
  · exact absurd q hf
end
section
variable {S : St} {d : Nat} {sc : Kd} {ρ : Rho}
inductive ForK (i : Nat) (body : Ts) (m : Mp) (v : AV) (H1 : AH) (QN : Mp → AH → Prop) (QR : QV) (X : QX) : Prop
  | mk (kd : SK) (xs : List AV) : ItemsK kd H1 v xs → (J : Nat → Mp → AH → Prop) → J 0 m H1 → (∀ k m' H', J k m' H' → k ≤ xs.length →
      ItemsK kd H' v xs ∧ (∀ x, xs[k]? = some x → body (m'.upd i x) H' (J (k + 1)) QR X) ∧ (k = xs.length → QN m' H')) → ForK i body m v H1 QN QR X
noncomputable def tFor (t : Tm) (i : Nat) (body : Ts) : Ts := fun m H QN QR X => t m H (fun v H1 => ForK i body m v H1 QN QR X) X
inductive ForI (S : St) (C : Cx) (A : Around) (env : Env) (ρ : Rho) (kd : SK) (v : AV) (xs : List AV) (It : Addr) (J : Nat → Mp → AH → Prop) (n : Nat) (s' : Shared) : Prop
  | mk (C1 : Cx) (m1 : Mp) (H1 : AH) (o : Obj) (k : Nat) : n = xs.length + 1 - k → k ≤ xs.length → C1.fr = C.fr → C1.envs = C.envs → (∀ a, a ≠ It → a ≠ env.locals → (∀ x, env.cells.lookup x ≠ some a) → C1.U a = C.U a) → C1.U It = some o →
    EnvOK S C1 A env → EnvRel C1 env ρ m1 → Inv S C1 H1 s' → ItAt S kd v xs k It s'.heap → J k m1 H1 → ForI S C A env ρ kd v xs It J n s'
set_option maxHeartbeats 1000000 in
theorem sT_for {x : Str} {i : Nat} {e : Expr} {bd : List Stmt} {p pos : Pos} {t : Tm} {u : Ts} (h1 : SoundE S true d sc ρ e t) (h2 : SoundS S true d sc ρ bd u) (hρ : RhoOK ρ) (hx : ρ.lookup x = some i) (hk : sc x = some .local ∨ sc x = some .cell)
    (hs : ∀ env v, foldedSetIterable e env v = pure v) : SoundT S true d sc ρ (.For (.Name x p) e bd [] pos) (tFor t i u) := by
  intro C A env m H QN QR X E s R O hc hk' V I h hE
  obtain ⟨outer, hc⟩ := hc
  obtain ⟨_, L, _, hL, _⟩ := O.fun_ env (by rw [hc]; exact .head _)
  have hh := R.hd rfl
  refine wpAny_For (wpAny_mono (h1 C A env m H _ X E s R O hk' V I h (hE.ex O)) ?_ fun _ _ x => x) (hs env)
  rintro cv s1 ⟨v, H1, r1, I1, kd, xs, hi, J, j0, jn⟩
  refine iter_start I1 r1 hi fun It oI s2 n2 g2 k2 e2 f2 it2 => ?_
  have hU := (I1.fresh n2).2.1
  have P := O.apart_of I1 hU
  refine codeAny_forLoop (ForI S C A env ρ kd v xs It J) ?_ (xs.length + 1)
    ⟨C.hide It oI, m, H1, oI, 0, rfl, Nat.zero_le _, rfl, rfl, fun a n _ _ => Cx.hide_ne _ _ n, Cx.hide_self .., O.hide P oI, V.hide P oI, I1.hide n2 k2 g2 e2 f2, it2, j0⟩
  rintro n s3 ⟨C1, m1, H1', o1, k, rfl, hk1, fr1, en1, oth1, u1, O1, V1, I3, it3, j3⟩
  obtain ⟨ji, js, jd⟩ := jn k m1 H1' j3 hk1
  have P1 : Apart C1 env It := ⟨P.loc, P.cell, by rw [fr1]; exact P.fr⟩
  have out : ∀ {C' : Cx}, C'.fr = C.fr → C'.envs = C.envs → (∀ a, a ≠ It → a ≠ env.locals → (∀ x, env.cells.lookup x ≠ some a) → C'.U a = C.U a) → FUpd env C (C'.drop It) := fun {C'} q1 q2 q3 => by
    refine ⟨q1, q2, fun a w1 w2 => ?_⟩
    by_cases q : a = It
    · rw [q, Cx.drop_self, hU]
    · rw [Cx.drop_ne _ q]; exact q3 a q w1 w2
  refine iter_next I3 hh ji it3 hk1 (fun cw y s4 hy hr it4 k4 g4 f4 => ?_) fun s4 hend k4 g4 f4 => ?_
  · obtain ⟨o4, ho4⟩ := it4.there
    have I4 := I3.turn u1 k4 ho4 g4 f4
    have lt : k < xs.length := (List.getElem?_eq_some_iff.mp hy).1
    show wpAny S.M A (do standAt p; bindName env x cw) _ _ s4
    refine wpAny_bind (wpAny_standAt (wpAny_mono (store_var (O1.hide P1 o4) (V1.hide P1 o4) I4 hρ (mem_of_lookup hx) hr (by rw [hk']; exact hk)) ?_ fun _ _ x => x))
    rintro _ s5 ⟨C5, a5, o5, w5, e5, O5, V5, I5⟩
    have f5 : FUpd env (C1.hide It o4) C5 := .stored w5 e5
    have it5 : C5.U It = some o4 := (f5.other It P.loc P.cell).trans (Cx.hide_self ..)
    have nf5 : It ∉ C5.fr := by rw [f5.fr]; exact P1.fr
    have oth5 : ∀ a, a ≠ It → a ≠ env.locals → (∀ x, env.cells.lookup x ≠ some a) → C5.U a = C.U a := fun a w1 w2 w3 => (f5.other a w2 w3).trans ((Cx.hide_ne _ _ w1).trans (oth1 a w1 w2 w3))
    refine wpAny_mono (h2 C5 A env (m1.upd i y) H1' (J (k + 1)) QR X _ s5 R O5 ⟨outer, by rw [f5.envs]; exact en1.trans hc⟩ hk' V5 I5 (js y hy) ?_) ?_ fun _ _ x => x
    · intro C' z H' w s' f' F' hz hr'
      cases hr'
    · rintro fl s6 ⟨C6, H6, f6, I6, q6⟩
      have nf6 : It ∉ C6.fr := by rw [f6.fr]; exact nf5
      have u6 : C6.U It = some o4 := (f6.other It P.loc P.cell).trans it5
      have oth6 : ∀ a, a ≠ It → a ≠ env.locals → (∀ x, env.cells.lookup x ≠ some a) → C6.U a = C.U a := fun a w1 w2 w3 => (f6.other a w2 w3).trans (oth5 a w1 w2 w3)
      have fr6 : C6.fr = C.fr := f6.fr.trans (f5.fr.trans fr1)
      have en6 : C6.envs = C.envs := f6.envs.trans (f5.envs.trans en1)
      cases fl with
      | next =>
        obtain ⟨m6, O6, V6, j6⟩ := q6
        refine ⟨xs.length + 1 - (k + 1), by lia, C6, m6, H6, o4, k + 1, rfl, lt, fr6, en6, oth6, u6, O6, V6, I6, it4.frame fun o w => ?_, j6⟩
        rw [ho4] at w; cases w
        exact I6.exact u6 nf6
      | ret w =>
        obtain ⟨av, w1, w2⟩ := q6
        exact ⟨C6.drop It, H6, out fr6 en6 oth6, I6.drop nf6, av, w1, w2⟩
      | brk => exact q6.elim
      | cont => exact q6.elim
  · have nf1 : It ∉ C1.fr := P1.fr
    have I4 : Inv S (C1.drop It) H1' s4 := (I3.drop nf1).loose ⟨(I3.hid u1).1, (I3.hid u1).2, Cx.drop_self ..⟩ k4 g4 f4
    exact wpAny_execs_nil ⟨C1.drop It, H1', out fr1 en1 oth1, I4, m1, O1.drop P1, V1.drop P1, jd hend⟩
end
end Mine
end
-- text A8
section
set_option autoImplicit false
set_option linter.unusedVariables false
namespace Mine
open PySem PySem.Calls PyProof.Rows
theorem cellsFrom_append : ∀ (names : List (Str × NameKind)) (n : Nat) (acc : List (Str × Addr)), cellsFrom n names acc = cellsFrom n names [] ++ acc
  | [], _, _ => rfl
  | (x, k) :: r, n, acc => by
    unfold cellsFrom
    split
    · rw [cellsFrom_append r (n + 1) ((x, n) :: acc), cellsFrom_append r (n + 1) [(x, n)], List.append_assoc]; rfl
    · exact cellsFrom_append r n acc
noncomputable def closL (env : Env) : List (Str × NameKind) → List (Str × Addr) → List (Str × Addr)
  | [], acc => acc
  | (x, k) :: r, acc => if k == .free then closL env r ((x, (env.cells.lookup x).getD 0) :: acc) else closL env r acc
theorem closureFor_eq {env : Env} {scope : Scope} (h : ∀ x, (x, NameKind.free) ∈ scope.names → ∃ c, env.cells.lookup x = some c) : closureFor scope env = pure (closL env scope.names []) := by
  have go : ∀ (names : List (Str × NameKind)) (acc : List (Str × Addr)), (∀ x, (x, NameKind.free) ∈ names → ∃ c, env.cells.lookup x = some c) →
      (forIn names acc (fun (p : Str × NameKind) (r : List (Str × Addr)) => if p.2 == .free then (do let c ← cellOf env p.1; pure (ForInStep.yield ((p.1, c) :: r))) else (pure (ForInStep.yield r) : Sem _)) : Sem (List (Str × Addr))) = pure (closL env names acc) := by
    intro names
    induction names with
    | nil => intro acc _; rw [List.forIn_nil]; rfl
    | cons p r ih =>
      obtain ⟨x, k⟩ := p
      intro acc hh
      rw [List.forIn_cons]
      unfold closL
      by_cases hk : (k == NameKind.free) = true
      · rw [if_pos hk, if_pos hk]
        have ek : k = .free := by simpa using hk
        subst ek
        obtain ⟨c, hc⟩ := hh x (.head _)
        have e1 : cellOf env x = pure c := by unfold cellOf; rw [hc]
        rw [e1, pure_bind, pure_bind, hc]
        exact ih _ fun y hy => hh y (.tail _ hy)
      · rw [if_neg hk, if_neg hk, pure_bind]
        exact ih _ fun y hy => hh y (.tail _ hy)
  have := go scope.names [] h
  unfold closureFor
  simp only
  rw [← this]
  simp only [bind_pure]
theorem closL_mem {env : Env} : ∀ {names : List (Str × NameKind)} {acc : List (Str × Addr)} {x : Str} {c : Addr}, (x, c) ∈ closL env names acc → (x, c) ∈ acc ∨ ((x, NameKind.free) ∈ names ∧ c = (env.cells.lookup x).getD 0)
  | [], _, _, _, h => .inl h
  | (y, k) :: r, acc, x, c, h => by
    unfold closL at h
    by_cases hk : (k == NameKind.free) = true
    · rw [if_pos hk] at h
      have ek : k = .free := by simpa using hk
      subst ek
      rcases closL_mem h with q | ⟨q1, q2⟩
      · rcases List.mem_cons.mp q with e | q
        · cases e; exact .inr ⟨.head _, rfl⟩
        · exact .inl q
      · exact .inr ⟨.tail _ q1, q2⟩
    · rw [if_neg hk] at h
      exact (closL_mem h).imp id fun ⟨q1, q2⟩ => ⟨.tail _ q1, q2⟩
theorem closL_has {env : Env} : ∀ {names : List (Str × NameKind)} {acc : List (Str × Addr)} {x : Str}, (x, NameKind.free) ∈ names ∨ (acc.lookup x).isSome = true → ((closL env names acc).lookup x).isSome = true
  | [], _, _, h => h.elim (fun q => nomatch q) id
  | (y, k) :: r, acc, x, h => by
    unfold closL
    by_cases hk : (k == NameKind.free) = true
    · rw [if_pos hk]
      refine closL_has ?_
      rcases h with h | h
      · rcases List.mem_cons.mp h with e | h
        · cases e; exact .inr (by rw [List.lookup_cons, beq_self_eq_true]; rfl)
        · exact .inl h
      · refine .inr ?_
        rw [List.lookup_cons]
        cases hxy : x == y
        · exact h
        · rfl
    · rw [if_neg hk]
      refine closL_has (h.imp (fun h => ?_) id)
      rcases List.mem_cons.mp h with e | h
      · cases e; exact absurd rfl hk
      · exact h
noncomputable def relab (sc : Kd) (names : List (Str × NameKind)) : Kd := fun y => match names.lookup y with
  | some .free => if sc y = some .cell then some .cell else some .free
  | k => k
theorem relab_eq {env : Env} {scope : Scope} {sc : Kd} (hk : env.scope.kind = .function) (he : ∀ x, env.kindOf x = sc x) (y : Str) : (relabel scope env).names.lookup y = relab sc scope.names y := by
  unfold relabel relab
  dsimp only
  generalize scope.names = names
  induction names with
  | nil => rfl
  | cons p r ih =>
    obtain ⟨n, k⟩ := p
    rw [List.map_cons, List.lookup_cons]
    by_cases hy : (y == n) = true
    · have e : y = n := by simpa using hy
      subst e
      simp only [hk, he]
      cases k <;> simp [List.lookup_cons] <;> (try (by_cases q : sc y = some .cell <;> simp [q]))
    · have hy' : (y == n) = false := by simpa using hy
      by_cases hc : ((k == NameKind.free && env.scope.kind == .function && env.kindOf n == some .cell) = true)
      · rw [if_pos hc, List.lookup_cons, hy']; exact ih
      · rw [if_neg hc, List.lookup_cons, hy']; exact ih
section
variable {S : St} {C : Cx} {H : AH} {s : Shared} {A : Around}
theorem Inv.hideNew (I : Inv S C H s) {s' : Shared} (hk : ∀ b o, s.heap.get? b = some o → s'.heap.get? b = some o) (hg : s'.gens = s.gens) (ho : s'.os = s.os) :
    Inv S { C with U := fun a => if s.heap.objs.size ≤ a then s'.heap.get? a else C.U a } H s' := by
  have J := I.grow hk hg ho
  have nn : ∀ a, s.heap.objs.size ≤ a → s.heap.get? a = none := fun a ha => by
    cases q : s.heap.get? a with
    | none => rfl
    | some o => exact absurd (Heap.lt_size q) (Nat.not_lt.mpr ha)
  refine ⟨J.base, fun a o e => ?_, J.objs, fun a o e => ⟨?_, (J.sepH a o e).2⟩, fun a o e => ?_, J.gens, J.os, fun a ha => ?_⟩
  · by_cases q : s.heap.objs.size ≤ a
    · simp only [if_pos q] at e; exact .inl e
    · simp only [if_neg q] at e; exact J.keep a o e
  · have lt := I.lt e
    simp only [if_neg (Nat.not_le.mpr lt)]; exact (I.sepH a o e).1
  · by_cases q : s.heap.objs.size ≤ a
    · exact (I.fresh (nn a q)).2.2
    · simp only [if_neg q] at e; exact I.sepU a o e
  · obtain ⟨o, e⟩ := I.frU a ha
    obtain ⟨ob, w⟩ := (I.keep a o e).there
    exact ⟨o, by simp only [if_neg (Nat.not_le.mpr (Heap.lt_size w))]; exact e⟩
theorem newCompEnv {M : Model} {scope : Scope} {cl : List (Str × Addr)} {env : Env} {E : Value → Shared → Prop} {Q : Env → Shared → Prop}
    (hQ : Q { scope := scope, locals := s.heap.objs.size, globals := env.globals, cells := cellsFrom (s.heap.objs.size + 1) scope.names cl, qual := env.qual, func := none, code := env.code, frame := env.frame, builtins := env.builtins }
      { s with heap := pushCells (s.heap.push { cls := .type "dict", data := .dict #[] }) scope.names }) :
    wpAny M A (newFunctionEnv scope env.globals cl [] env.qual none .none (some env)) Q E s := by
  simp only [newFunctionEnv, Option.isSome_some, if_true]
  refine wpAny_bind (wpAny_alloc ?_)
  refine wpAny_bind (wpAny_layCells _ (fun name kind cells => by cases hkc : kind == NameKind.cell <;> simp [hkc]) _ _ _ _ ?_)
  rw [show ({ s with heap := s.heap.push { cls := .type "dict", data := .dict #[] } } : Shared).heap.objs.size = s.heap.objs.size + 1 from Heap.size_push ..]
  refine wpAny_bind (m := forIn ([] : List (Str × Value)) _ _) ?_
  rw [List.forIn_nil]
  exact wpAny_pure (wpAny_pure hQ)
end
noncomputable def SoundFs (S : St) (b : Bool) (d : Nat) (sc : Kd) (ρ : Rho) (es : List Expr) (t : Tb) : Prop :=
  ∀ (C : Cx) (A : Around) (env : Env) (m : Mp) (H : AH) (Q : Bool → AH → Prop) (X : QX) (E : Value → Shared → Prop) (s : Shared),
    Room b d A → EnvOK S C A env → (∀ x, env.kindOf x = sc x) → EnvRel C env ρ m → Inv S C H s → t m H Q X → ExOK S C X E →
    wpAny S.M A (forIn es true fun c r => if r = true then do let ok ← isTrue c env (eval c env); pure (ForInStep.yield ok) else pure (ForInStep.yield r)) (PostB S C Q) E s
theorem sFs_nil {S : St} {b : Bool} {d : Nat} {sc : Kd} {ρ : Rho} : SoundFs S b d sc ρ [] (tBoolNil true) := by
  intro C A env m H Q X E s R O hk V I h hE
  rw [List.forIn_nil]
  exact wpAny_pure ⟨H, I, h⟩
theorem sFs_one {S : St} {b : Bool} {d : Nat} {sc : Kd} {ρ : Rho} {e : Expr} {t : Tb} (h1 : SoundB S b d sc ρ e t) : SoundFs S b d sc ρ [e] t := by
  intro C A env m H Q X E s R O hk V I h hE
  rw [List.forIn_cons]
  simp only [if_true]
  refine wpAny_bind (wpAny_bind (wpAny_mono (h1 C A env m H _ X E s R O hk V I h hE) ?_ fun _ _ x => x))
  rintro c s1 ⟨H1, I1, q1⟩
  refine wpAny_pure ?_
  show wpAny S.M A (forIn [] c _) _ E s1
  rw [List.forIn_nil]
  exact wpAny_pure ⟨H1, I1, q1⟩
noncomputable def noX : QX := fun _ _ => False
theorem noX_ok {S : St} {C : Cx} {E : Value → Shared → Prop} : ExOK S C noX E := fun _ _ _ _ h => h.elim
inductive CompJ (m : Mp) (i : Nat) (tc : Tb) (te : Tm) (v : AV) (H1 : AH) (Q : QV) : Prop
  | mk (kd : SK) (xs : List AV) : ItemsK kd H1 v xs → (J : Nat → List AV → AH → Prop) → J 0 [] H1 → (∀ k ys H', J k ys H' → k ≤ xs.length →
    ItemsK kd H' v xs ∧ (∀ x, xs[k]? = some x → tc (m.upd i x) H' (fun c H2 => if c = true then te (m.upd i x) H2 (fun y H3 => J (k + 1) (ys ++ [y]) H3) noX else J (k + 1) ys H2) noX) ∧
    (k = xs.length → ∀ a, H' a = none → Q (.ref a) (H'.put a (.list ys)))) → CompJ m i tc te v H1 Q
noncomputable def tComp (t : Tm) (i : Nat) (tc : Tb) (te : Tm) : Tm := fun m H Q X => t m H (fun v H1 => CompJ m i tc te v H1 Q) X
structure CompAt (scope : Scope) (sc : Kd) (ρ : Rho) (x : Str) (i : Nat) : Prop where
  kind : scope.kind = .function
  var : scope.names.lookup x = some .local ∨ scope.names.lookup x = some .cell
  free : ∀ p ∈ scope.names, p.2 = .free → sc p.1 = some .cell ∨ sc p.1 = some .free
  names : ∀ z ∈ scope.names, z.2 = .local → scope.names.lookup z.1 = some .local
  nodup : (scope.names.map (·.1)).Nodup
  new : ∀ p ∈ ρ, p.2 ≠ i
  rho : RhoOK ρ
noncomputable def rhoIn (scope : Scope) (ρ : Rho) (x : Str) (i : Nat) : Rho := (x, i) :: ρ.filter fun p => scope.names.lookup p.1 == some .free
theorem nodup_lookup {names : List (Str × NameKind)} (hn : (names.map (·.1)).Nodup) : ∀ {x : Str} {k : NameKind}, (x, k) ∈ names → names.lookup x = some k := by
  induction names with
  | nil => intro x k h; nomatch h
  | cons p r ih =>
    obtain ⟨y, k'⟩ := p
    obtain ⟨h1, h2⟩ := List.nodup_cons.mp hn
    intro x k h
    rw [List.lookup_cons]
    rcases List.mem_cons.mp h with e | hm
    · cases e; simp
    · have : (x == y) = false := by
        cases q : x == y with
        | false => rfl
        | true =>
          have e : x = y := by simpa using q
          subst e
          exact absurd (List.mem_map.mpr ⟨(x, k), hm, rfl⟩ : x ∈ r.map (·.1)) h1
      rw [this]; exact ih h2 hm
theorem CompAt.rhoIn {scope : Scope} {sc : Kd} {ρ : Rho} {x : Str} {i : Nat} (h : CompAt scope sc ρ x i) : RhoOK (rhoIn scope ρ x i) := by
  have nx : ∀ p ∈ ρ.filter (fun p => scope.names.lookup p.1 == some .free), p.1 ≠ x ∧ p.2 ≠ i := fun p hp => by
    obtain ⟨h1, h2⟩ := List.mem_filter.mp hp
    refine ⟨fun q => ?_, h.new p h1⟩
    have h2 : scope.names.lookup p.1 = some .free := by simpa using h2
    rw [q] at h2
    rcases h.var with w | w <;> rw [w] at h2 <;> cases h2
  intro p hp q hq
  rcases List.mem_cons.mp hp with rfl | hp <;> rcases List.mem_cons.mp hq with rfl | hq
  · simp
  · have := nx q hq; exact ⟨fun e => absurd e.symm this.1, fun e => absurd e.symm this.2⟩
  · have := nx p hp; exact ⟨fun e => absurd e this.1, fun e => absurd e this.2⟩
  · exact h.rho p (List.mem_filter.mp hp).1 q (List.mem_filter.mp hq).1
structure CompFin (S : St) (C : Cx) (Q : QV) (D L : Addr) (s' : Shared) : Prop where
  ex : ∃ C1 H1 ys vs nD oL mL, (∀ a o, C.U a = some o → C1.U a = some o) ∧ C1.fr = C.fr ∧ C1.envs = C.envs ∧ C1.U D = some { cls := .type "list", data := .seq (List.toArray vs) nD } ∧ VRs vs ys ∧ vs.length ≤ sizeLine ∧
    C1.U L = some oL ∧ NsObj oL mL ∧ D ∉ C.fr ∧ L ∉ C.fr ∧ Inv S C1 H1 s' ∧ (∀ a, H1 a = none → Q (.ref a) (H1.put a (.list ys)))
  newD : C.U D = none
  newL : C.U L = none
  ne : D ≠ L
inductive CmpI (S : St) (C : Cx) (A : Around) (cenv : Env) (ρ' : Rho) (kd : SK) (v : AV) (xs : List AV) (It D : Addr) (i : Nat) (m : Mp) (J : Nat → List AV → AH → Prop) (n : Nat) (s' : Shared) : Prop
  | mk (C1 : Cx) (ys : List AV) (vs : List Value) (nD : Nat) (H1 : AH) (o : Obj) (k : Nat) (mk : Mp) : n = xs.length + 1 - k → k ≤ xs.length → C1.fr = C.fr → C1.envs = C.envs → (∀ a o, C.U a = some o → C1.U a = some o) → C1.U It = some o →
      C1.U D = some { cls := .type "list", data := .seq (List.toArray vs) nD } → VRs vs ys → vs.length ≤ k → EnvOK S C1 A cenv → EnvRel C1 cenv ρ' mk → (∀ j, j ≠ i → mk j = m j) → Inv S C1 H1 s' → ItAt S kd v xs k It s'.heap → J k ys H1 → CmpI S C A cenv ρ' kd v xs It D i m J n s'
set_option maxHeartbeats 4000000 in
theorem comp_core {S : St} {d : Nat} {sc : Kd} {ρ : Rho} {elt iter : Expr} {x : Str} {i : Nat} {px : Pos} {ifs : List Expr} {scope : Scope} {pos p0 : Pos} {t te : Tm} {tc : Tb}
    (h1 : SoundE S true d sc ρ iter t) (h2 : SoundFs S true d (relab sc scope.names) (rhoIn scope ρ x i) ifs tc) (h3 : SoundE S true d (relab sc scope.names) (rhoIn scope ρ x i) elt te) (hc : CompAt scope sc ρ x i)
    (hs : ∀ env v, foldedSetIterable iter env v = pure v)
    {C : Cx} {A : Around} {env : Env} {m : Mp} {H : AH} {Q : QV} {X : QX} {E : Value → Shared → Prop} {s : Shared} {use : Option (Value → Sem Unit)} {Qc : Value → Shared → Prop}
    (R : Room true d A) (O : EnvOK S C A env) (hk : ∀ x, env.kindOf x = sc x) (V : EnvRel C env ρ m) (I : Inv S C H s) (h : tComp t i tc te m H Q X) (hE : ExOK S C X E)
    (fin : ∀ D L s', CompFin S C Q D L s' → compPost S.M A E use Qc (.ref D) L (.ok .next) s') :
    wpAny S.M A (comprehension (.ListComp elt [⟨.Name x px, iter, ifs, 0⟩] scope pos) scope env p0 (newList []) false (eval iter env) use) Qc E s := by
  have hh := R.hd rfl
  have hclos := closureFor_eq (env := env) (scope := scope) fun y hy => O.cells y (by rw [hk]; exact hc.free _ hy rfl)
  refine wpAny_comprehension_free rfl (hs env) hclos hc.kind hc.names (wpAny_mono (h1 C A env m H _ X E s R O hk V I h hE) ?_ fun _ _ x => x)
  rintro cv s1 ⟨v, H1, r1, I1, kd, xs, hi, J, j0, jn⟩
  refine iter_start I1 r1 hi fun It oI s2 n2 g2 k2 e2 f2 it2 => ?_
  have hUI := (I1.fresh n2).2.1
  have hlen := items_le I1 hi
  have I2 := I1.hide n2 k2 g2 e2 f2
  have ltI : @LT.lt Nat _ It s2.heap.objs.size := Heap.lt_size g2
  refine wpAny_newObj_type ?_
  refine newCompEnv ?_
  have eD : (s2.heap.push { cls := .type "list", dict := none, data := .seq ([] : List Value).toArray }).objs.size = s2.heap.objs.size + 1 := Heap.size_push ..
  dsimp only
  rw [eD]
  have ok := cellsFrom_ok scope.names ((s2.heap.push { cls := .type "list", dict := none, data := .seq ([] : List Value).toArray }).push { cls := .type "dict", data := .dict #[] }) (s2.heap.objs.size + 2) [] ⟨fun _ _ hm => (nomatch hm), List.Pairwise.nil⟩ (by rw [Heap.size_push, eD]; exact Nat.le_refl _)
  rw [Heap.size_push, eD] at ok
  generalize hh4 : pushCells ((s2.heap.push { cls := .type "list", dict := none, data := .seq ([] : List Value).toArray }).push { cls := .type "dict", data := .dict #[] }) scope.names = h4 at ok ⊢
  have up4 : ∀ b o, ((s2.heap.push { cls := .type "list", dict := none, data := .seq ([] : List Value).toArray }).push { cls := .type "dict", data := .dict #[] }).get? b = some o → h4.get? b = some o := fun b o e => by rw [← hh4]; exact pushCells_keeps _ _ b o e
  have kp4 : ∀ b o, s2.heap.get? b = some o → h4.get? b = some o := fun b o e => up4 b o (Heap.get?_push_of_some _ (Heap.get?_push_of_some _ e))
  have gD : h4.get? s2.heap.objs.size = some { cls := .type "list", data := .seq ([] : List Value).toArray } := up4 _ _ (Heap.get?_push_of_some _ (Heap.get?_push_size _ rfl))
  have gL : h4.get? (s2.heap.objs.size + 1) = some { cls := .type "dict", data := .dict #[] } := by
    have := up4 (s2.heap.push { cls := .type "list", dict := none, data := .seq ([] : List Value).toArray }).objs.size _ (Heap.get?_push_size _ rfl)
    rwa [eD] at this
  have I4 := I2.hideNew (s' := { s2 with heap := h4 }) kp4 rfl rfl
  have hlt : ∀ a o, C.U a = some o → @LT.lt Nat _ a s2.heap.objs.size := fun a o e => by
    obtain ⟨ob, w⟩ := (I1.keep a o e).there
    exact Heap.lt_size (k2 _ _ w)
  generalize hC4 : ({ C.hide It oI with U := fun a => if s2.heap.objs.size ≤ a then h4.get? a else (C.hide It oI).U a } : Cx) = C4 at I4
  have fr4 : C4.fr = C.fr := by rw [← hC4]; rfl
  have en4 : C4.envs = C.envs := by rw [← hC4]; rfl
  have U4n : ∀ a, s2.heap.objs.size ≤ a → C4.U a = h4.get? a := fun a ha => by rw [← hC4]; exact if_pos ha
  have U4o : ∀ a o, C.U a = some o → C4.U a = some o := fun a o e => by
    have lt := hlt a o e
    rw [← hC4]
    show (if s2.heap.objs.size ≤ a then _ else _) = _
    rw [if_neg (Nat.not_le.mpr lt), Cx.hide_ne _ _ fun q => by rw [q, hUI] at e; cases e]; exact e
  have U4I : C4.U It = some oI := by
    rw [← hC4]
    show (if s2.heap.objs.size ≤ It then _ else _) = _
    rw [if_neg (Nat.not_le.mpr ltI)]; exact Cx.hide_self ..
  have newU : ∀ a, s2.heap.objs.size ≤ a → C.U a = none := fun a ha => by
    cases q : C.U a with
    | none => rfl
    | some o => exact absurd (hlt a o q) (Nat.not_lt.mpr ha)
  have frlt : ∀ a, a ∈ C.fr → @LT.lt Nat _ a s2.heap.objs.size := fun a ha => by obtain ⟨o, e⟩ := I.frU a ha; exact hlt a o e
  have hcells : ∀ y c, (cellsFrom (s2.heap.objs.size + 1 + 1) scope.names (closL env scope.names [])).lookup y = some c →
      (s2.heap.objs.size + 2 ≤ c ∧ h4.IsCell c none ∧ (y, c) ∈ cellsFrom (s2.heap.objs.size + 1 + 1) scope.names []) ∨ ((y, NameKind.free) ∈ scope.names ∧ env.cells.lookup y = some c) := fun y c e => by
    rw [cellsFrom_append] at e
    rcases List.mem_append.mp (mem_of_lookup e) with q | q
    · exact .inl ⟨(ok.empty y c q).2, (ok.empty y c q).1, q⟩
    · rcases closL_mem q with w | ⟨w1, w2⟩
      · nomatch w
      · obtain ⟨c', hc'⟩ := O.cells y (by rw [hk]; exact hc.free _ w1 rfl)
        rw [hc'] at w2
        exact .inr ⟨w1, by rw [hc', w2]; rfl⟩
  generalize hcenv : ({ scope := relabel scope env, locals := s2.heap.objs.size + 1, globals := env.globals, cells := cellsFrom (s2.heap.objs.size + 1 + 1) scope.names (closL env scope.names []), qual := env.qual, func := none, code := env.code, frame := env.frame, builtins := env.builtins } : Env) = cenv
  have c1 : cenv.locals = s2.heap.objs.size + 1 := by rw [← hcenv]
  have c2 : cenv.cells = cellsFrom (s2.heap.objs.size + 1 + 1) scope.names (closL env scope.names []) := by rw [← hcenv]
  have ckd : ∀ y, cenv.kindOf y = relab sc scope.names y := fun y => by
    rw [← hcenv]; exact relab_eq O.kind hk y
  have cown : ∀ y, scope.names.lookup y = some .cell → ∀ c, cenv.cells.lookup y = some c → s2.heap.objs.size + 2 ≤ c := fun y hy c e => by
    rw [c2] at e
    rcases hcells y c e with q | ⟨q, _⟩
    · exact q.1
    · rw [nodup_lookup hc.nodup q] at hy; cases hy
  have O4 : EnvOK S C4 A cenv := by
    refine ⟨by rw [← hcenv]; exact hc.kind, by rw [← hcenv]; exact O.glob, by rw [← hcenv]; exact O.blt, fun y hy => ?_, fun y c e => ?_, fun y z c ey ez => ?_, ?_, by rw [en4]; exact O.stack, fun e he => ?_⟩
    · rw [c2]
      refine Option.isSome_iff_exists.mp ?_
      rw [ckd] at hy
      unfold relab at hy
      cases q : scope.names.lookup y with
      | none => rw [q] at hy; simp at hy
      | some k =>
        cases k with
        | cell => exact cellsFrom_mem (.inl q)
        | free => exact cellsFrom_mem (.inr (closL_has (.inl (mem_of_lookup q))))
        | _ => rw [q] at hy; simp at hy
    · rw [c2] at e
      rw [c1, fr4]
      rcases hcells y c e with ⟨q1, ⟨o, q2, q3⟩, _⟩ | ⟨q1, q2⟩
      · refine ⟨by (first | omega | exact Nat.ne_of_lt (by omega) | exact Nat.ne_of_gt (by omega)), fun w => ?_, o, none, (U4n c (by (first | omega | exact Nat.ne_of_lt (by omega) | exact Nat.ne_of_gt (by omega)))).trans q2, q3⟩
        have := frlt c w; (first | omega | exact Nat.ne_of_lt (by omega) | exact Nat.ne_of_gt (by omega))
      · obtain ⟨w1, w2, o, v', w3, w4⟩ := O.cellU y c q2
        have := hlt c o w3
        exact ⟨by (first | omega | exact Nat.ne_of_lt (by omega) | exact Nat.ne_of_gt (by omega)), w2, o, v', U4o c o w3, w4⟩
    · rw [c2] at ey ez
      rcases hcells y c ey with ⟨q1, _, q2⟩ | ⟨q1, q2⟩ <;> rcases hcells z c ez with ⟨w1, _, w2⟩ | ⟨w1, w2⟩
      · exact name_of_addr ok.apart q2 w2
      · obtain ⟨_, _, o, _, w3, _⟩ := O.cellU z c w2; have := hlt c o w3; (first | omega | exact Nat.ne_of_lt (by omega) | exact Nat.ne_of_gt (by omega))
      · obtain ⟨_, _, o, _, w3, _⟩ := O.cellU y c q2; have := hlt c o w3; (first | omega | exact Nat.ne_of_lt (by omega) | exact Nat.ne_of_gt (by omega))
      · exact O.apart y z c q2 w2
    · exact ⟨_, fun _ => none, by rw [c1]; exact (U4n _ (by (first | omega | exact Nat.ne_of_lt (by omega) | exact Nat.ne_of_gt (by omega)))).trans gL, #[], 0, rfl, fun e he => by simp at he, fun _ => rfl⟩
    · rw [en4] at he
      obtain ⟨q1, L, o, q2, q3, q4, q5⟩ := O.fun_ e he
      exact ⟨q1, L, o, q2, by rw [fr4]; exact q3, U4o L o q4, q5⟩
  have V4 : EnvRel C4 cenv (rhoIn scope ρ x i) (fun j => if j = i then none else m j) := by
    intro y j w hy hw
    rcases List.mem_cons.mp hy with e | hy
    · cases e; simp at hw
    · obtain ⟨y1, y2⟩ := List.mem_filter.mp hy
      have y2 : scope.names.lookup y = some .free := by simpa using y2
      have nj : j ≠ i := hc.new _ y1
      simp only [if_neg nj] at hw
      obtain ⟨cv', q1, V'⟩ := V y j w y1 hw
      have hsc := hc.free _ (mem_of_lookup y2) rfl
      rcases V' with ⟨k1, _⟩ | ⟨_, c, o, k1, k2, k3⟩
      · rw [hk] at k1; rcases hsc with q | q <;> rw [k1] at q <;> cases q
      · refine ⟨cv', q1, .inr ⟨?_, c, o, ?_, U4o c o k2, k3⟩⟩
        · rw [ckd]; unfold relab; rw [y2]
          by_cases q : sc y = some .cell <;> simp [q]
        · obtain ⟨c', hc'⟩ := O4.cells y (by rw [ckd]; unfold relab; rw [y2]; by_cases q : sc y = some .cell <;> simp [q])
          have hc'' := hc'
          rw [c2] at hc'
          rcases hcells y c' hc' with ⟨_, _, q⟩ | ⟨_, q⟩
          · rcases cellsFrom_kind q with w | w
            · nomatch w
            · rw [nodup_lookup hc.nodup w] at y2; cases y2
          · rw [q] at k1; cases k1; exact hc''
  have it4 : ItAt S kd v xs 0 It h4 := it2.frame fun o e => kp4 _ _ e
  have hvar : cenv.kindOf x = some .local ∨ cenv.kindOf x = some .cell := by
    rw [ckd]; unfold relab
    rcases hc.var with q | q <;> rw [q] <;> simp
  have apI : ∀ {C' : Cx}, C'.fr = C.fr → Apart C' cenv It := fun {C'} e => by
    refine ⟨by rw [c1]; (first | omega | exact Nat.ne_of_lt (by omega) | exact Nat.ne_of_gt (by omega)), fun y q => ?_, fun q => ?_⟩
    · rw [c2] at q
      rcases hcells y It q with ⟨w, _⟩ | ⟨_, w⟩
      · (first | omega | exact Nat.ne_of_lt (by omega) | exact Nat.ne_of_gt (by omega))
      · obtain ⟨_, _, o, _, w3, _⟩ := O.cellU y It w; rw [hUI] at w3; cases w3
    · rw [e] at q; obtain ⟨o, w⟩ := I.frU It q; rw [hUI] at w; cases w
  have apD : ∀ {C' : Cx}, C'.fr = C.fr → Apart C' cenv s2.heap.objs.size := fun {C'} e => by
    refine ⟨by rw [c1]; (first | omega | exact Nat.ne_of_lt (by omega) | exact Nat.ne_of_gt (by omega)), fun y q => ?_, fun q => ?_⟩
    · rw [c2] at q
      rcases hcells y _ q with ⟨w, _⟩ | ⟨_, w⟩
      · (first | omega | exact Nat.ne_of_lt (by omega) | exact Nat.ne_of_gt (by omega))
      · obtain ⟨_, _, o, _, w3, _⟩ := O.cellU y _ w; have := hlt _ o w3; (first | omega | exact Nat.ne_of_lt (by omega) | exact Nat.ne_of_gt (by omega))
    · rw [e] at q; have := frlt _ q; (first | omega | exact Nat.ne_of_lt (by omega) | exact Nat.ne_of_gt (by omega))
  have hD0 : C.U s2.heap.objs.size = none := newU _ (Nat.le_refl _)
  have hL0 : C.U (s2.heap.objs.size + 1) = none := newU _ (by (first | omega | exact Nat.ne_of_lt (by omega) | exact Nat.ne_of_gt (by omega)))
  have loop : codeAny S.M A (.compLoop (.ListComp elt [⟨.Name x px, iter, ifs, 0⟩] scope pos) 0 (.ref It) (.ref s2.heap.objs.size) cenv) (compPost S.M A E use Qc (.ref s2.heap.objs.size) cenv.locals) { s2 with heap := h4 } := by
    refine codeAny_compLoop_tests (CmpI S C A cenv (rhoIn scope ρ x i) kd v xs It s2.heap.objs.size i m J) ?_ (xs.length + 1)
      ⟨C4, [], [], 0, H1, oI, 0, _, rfl, Nat.zero_le _, fr4, en4, U4o, U4I, (U4n _ (Nat.le_refl _)).trans gD, .nil, Nat.le_refl _, O4, V4, fun j hj => if_neg hj, I4, it4, j0⟩
    rintro n s3 ⟨C1, ys, vs, nD, H1', o1, k, mk, rfl, hk1, fr1, en1, sup1, u1, uD, hys, hvl, O1, V1, mk1, I3, it3, j3⟩
    obtain ⟨ji, js, jd⟩ := jn k ys H1' j3 hk1
    refine iter_next I3 hh ji it3 hk1 (fun cw y s4 hy hr it4' k4 g4 f4 => ?_) fun s4 hend k4 g4 f4 => ?_
    · obtain ⟨o4, ho4⟩ := it4'.there
      have I4' := I3.turn u1 k4 ho4 g4 f4
      have lt : k < xs.length := (List.getElem?_eq_some_iff.mp hy).1
      show wpAny S.M A (do standAt px; bindName cenv x cw) _ _ s4
      refine wpAny_bind (wpAny_standAt (wpAny_mono (store_var (O1.hide (apI fr1) o4) (V1.hide (apI fr1) o4) I4' hc.rhoIn (.head _) hr hvar) ?_ fun _ _ x => x))
      rintro _ s5 ⟨C5, a5, o5, w5, e5, O5, V5, I5⟩
      have hmk : mk.upd i y = m.upd i y := by
        funext j
        by_cases q : j = i
        · rw [q, Mp.upd_self, Mp.upd_self]
        · rw [Mp.upd_ne _ _ q, Mp.upd_ne _ _ q]; exact mk1 j q
      rw [hmk] at V5
      have a5new : @LE.le Nat _ (s2.heap.objs.size + 1) a5 := by
        rcases w5 with ⟨_, w⟩ | ⟨w1, w2⟩
        · rw [w, c1]; exact Nat.le_refl _
        · have hcx : scope.names.lookup x = some .cell := by
            rcases hc.var with q | q
            · rw [ckd] at w1; unfold relab at w1; rw [q] at w1; cases w1
            · exact q
          have := cown x hcx a5 w2; (first | omega | exact Nat.ne_of_lt (by omega) | exact Nat.ne_of_gt (by omega))
      have nI : It ≠ a5 := by (first | omega | exact Nat.ne_of_lt (by omega) | exact Nat.ne_of_gt (by omega))
      have nD' : s2.heap.objs.size ≠ a5 := by (first | omega | exact Nat.ne_of_lt (by omega) | exact Nat.ne_of_gt (by omega))
      have u5 : C5.U It = some o4 := by rw [e5, Cx.hide_ne _ _ nI]; exact Cx.hide_self ..
      have uD5 : C5.U s2.heap.objs.size = some { cls := .type "list", data := .seq (List.toArray vs) nD } := by
        rw [e5, Cx.hide_ne _ _ nD', Cx.hide_ne _ _ (by (first | omega | exact Nat.ne_of_lt (by omega) | exact Nat.ne_of_gt (by omega)))]; exact uD
      have sup5 : ∀ a o, C.U a = some o → C5.U a = some o := fun a o e => by
        have := hlt a o e
        rw [e5, Cx.hide_ne _ _ (by (first | omega | exact Nat.ne_of_lt (by omega) | exact Nat.ne_of_gt (by omega))), Cx.hide_ne _ _ fun q => by rw [q, hUI] at e; cases e]; exact sup1 a o e
      have fr5 : C5.fr = C.fr := by rw [e5]; exact fr1
      have en5 : C5.envs = C.envs := by rw [e5]; exact en1
      refine wpAny_mono (h2 C5 A cenv (m.upd i y) H1' _ noX _ s5 R O5 ckd V5 I5 (js y hy) noX_ok) ?_ fun _ _ x => x
      rintro okb s6 ⟨H6, I6, q6⟩
      have itk : ∀ {s' : Shared} {H' : AH}, Inv S C5 H' s' → ItAt S kd v xs (k + 1) It s'.heap := fun {s' H'} I' => it4'.frame fun o w => by
        rw [ho4] at w; cases w
        exact I'.exact u5 (apI fr5).fr
      cases okb with
      | false =>
        simp only [Bool.false_eq_true, if_false] at q6 ⊢
        exact ⟨xs.length + 1 - (k + 1), by (first | omega | exact Nat.ne_of_lt (by omega) | exact Nat.ne_of_gt (by omega)), C5, ys, vs, nD, H6, o4, k + 1, _, rfl, lt, fr5, en5, sup5, u5, uD5, hys, by (first | omega | exact Nat.ne_of_lt (by omega) | exact Nat.ne_of_gt (by omega)), O5, V5, fun j hj => Mp.upd_ne _ _ hj, I6, itk I6, q6⟩
      | true =>
        simp only [if_true] at q6 ⊢
        refine wpAny_mono (h3 C5 A cenv (m.upd i y) H6 _ noX _ s6 R O5 ckd V5 I6 q6 noX_ok) ?_ fun _ _ x => x
        rintro cz s7 ⟨z, H7, r7, I7, q7⟩
        have gD7 := I7.exact uD5 (apD fr5).fr
        refine append_at (hsz := by rw [List.size_toArray]; have := hlen; (first | omega | exact Nat.ne_of_lt (by omega) | exact Nat.ne_of_gt (by omega))) gD7 fun h8 sb8 g8 => ?_
        have I8 := I7.turn (s' := { s7 with heap := h8 }) uD5 (fun b ob hb e => (sb8.2 b hb).trans e) (by rw [List.push_toArray] at g8; exact g8) rfl rfl
        refine ⟨xs.length + 1 - (k + 1), by (first | omega | exact Nat.ne_of_lt (by omega) | exact Nat.ne_of_gt (by omega)), C5.hide s2.heap.objs.size { cls := .type "list", data := .seq (List.toArray (vs ++ [cz])) (nD + 1) }, ys ++ [z], vs ++ [cz], nD + 1, H7, o4, k + 1, _, rfl, lt, fr5, en5, fun a o e => ?_, ?_, Cx.hide_self .., hys.append (.cons r7 .nil), by simp; (first | omega | exact Nat.ne_of_lt (by omega) | exact Nat.ne_of_gt (by omega)), O5.hide (apD fr5) _, V5.hide (apD fr5) _, fun j hj => Mp.upd_ne _ _ hj, I8, (itk I7).frame fun o w => ?_, q7⟩
        · have := hlt a o e
          rw [Cx.hide_ne _ _ (by (first | omega | exact Nat.ne_of_lt (by omega) | exact Nat.ne_of_gt (by omega)))]; exact sup5 a o e
        · rw [Cx.hide_ne _ _ (by (first | omega | exact Nat.ne_of_lt (by omega) | exact Nat.ne_of_gt (by omega)))]; exact u5
        · exact (sb8.2 It (by (first | omega | exact Nat.ne_of_lt (by omega) | exact Nat.ne_of_gt (by omega)))).trans w
    · obtain ⟨oL, mL, q1, q2⟩ := O1.loc
      rw [c1] at q1 ⊢
      have I4'' : Inv S (C1.drop It) H1' s4 := (I3.drop (apI fr1).fr).loose ⟨(I3.hid u1).1, (I3.hid u1).2, Cx.drop_self ..⟩ k4 g4 f4
      refine fin _ _ s4 ⟨⟨C1.drop It, H1', ys, vs, nD, oL, mL, fun a o e => ?_, fr1, en1, ?_, hys, by (first | omega | exact Nat.ne_of_lt (by omega) | exact Nat.ne_of_gt (by omega)), ?_, q2, fun q => ?_, fun q => ?_, I4'', jd hend⟩, hD0, hL0, by (first | omega | exact Nat.ne_of_lt (by omega) | exact Nat.ne_of_gt (by omega))⟩
      · rw [Cx.drop_ne _ fun q => by rw [q, hUI] at e; cases e]; exact sup1 a o e
      · rw [Cx.drop_ne _ (by (first | omega | exact Nat.ne_of_lt (by omega) | exact Nat.ne_of_gt (by omega)))]; exact uD
      · rw [Cx.drop_ne _ (by (first | omega | exact Nat.ne_of_lt (by omega) | exact Nat.ne_of_gt (by omega)))]; exact q1
      · have := frlt _ q; (first | omega | exact Nat.ne_of_lt (by omega) | exact Nat.ne_of_gt (by omega))
      · have := frlt _ q; (first | omega | exact Nat.ne_of_lt (by omega) | exact Nat.ne_of_gt (by omega))
  have := codeAny_compStart_list loop (it4.self (s := { s2 with heap := h4 }) loop)
  rw [c1] at this
  exact this
theorem sE_comp {S : St} {d : Nat} {sc : Kd} {ρ : Rho} {elt iter : Expr} {x : Str} {i : Nat} {px : Pos} {ifs : List Expr} {scope : Scope} {pos : Pos} {t te : Tm} {tc : Tb}
    (h1 : SoundE S true d sc ρ iter t) (h2 : SoundFs S true d (relab sc scope.names) (rhoIn scope ρ x i) ifs tc) (h3 : SoundE S true d (relab sc scope.names) (rhoIn scope ρ x i) elt te) (hc : CompAt scope sc ρ x i)
    (hs : ∀ env v, foldedSetIterable iter env v = pure v) : SoundE S true d sc ρ (.ListComp elt [⟨.Name x px, iter, ifs, 0⟩] scope pos) (tComp t i tc te) := by
  intro C A env m H Q X E s R O hk V I h hE
  rw [eval_ListComp]
  refine comp_core h1 h2 h3 hc hs R O hk V I h hE (use := none) fun D L s' F => ?_
  obtain ⟨C1, H1, ys, vs, nD, oL, mL, sup, fr1, en1, uD, hys, hvl, uL, hL, nfD, nfL, I1, q⟩ := F.ex
  have hLx : s'.heap.get? L = some oL := I1.exact uL (by rw [fr1]; exact nfL)
  have hDx := I1.exact uD (by rw [fr1]; exact nfD)
  obtain ⟨es, ep, w1, w2, w3⟩ := hL
  refine ⟨mL, ⟨oL, es, ep, hLx, w1, w2, w3⟩, fun h' sb => ?_⟩
  have J1 : Inv S C H1 s' := I1.less (fun a ha _ => fr1 ▸ ha) sup I.frU
  have J2 : Inv S C H1 { s' with heap := h' } := J1.loose (a := L) ⟨(I1.hid uL).1, (I1.hid uL).2, F.newL⟩ (fun b o nb e => (sb.2 b nb).trans e) rfl rfl
  refine ⟨.ref D, H1.put D (.list ys), .ref D, J2.track ⟨(I1.hid uD).1, (I1.hid uD).2, F.newD⟩ ⟨vs, nD, (sb.2 D F.ne).trans hDx, hys, hvl⟩, q D (I1.hid uD).2⟩
end Mine
end
-- text A9
section
set_option autoImplicit false
set_option linter.unusedVariables false
namespace Mine
open PySem PySem.Calls PyProof.Rows
mutual
inductive Rd (H : AH) : AV → PyData → Prop
  | none : Rd H .none .none
  | bool (b : Bool) : Rd H (.bool b) (.bool b)
  | int (i : Int) : Rd H (.int i) (.int i)
  | str (x : Str) : Rd H (.str x) (.str x)
  | list {a : Addr} {xs : List AV} {ds : List PyData} : H a = some (.list xs) → RdAll H xs ds → Rd H (.ref a) (.list ds)
  | tuple {a : Addr} {xs : List AV} {ds : List PyData} : H a = some (.tuple xs) → RdAll H xs ds → Rd H (.ref a) (.tuple ds)
inductive RdAll (H : AH) : List AV → List PyData → Prop
  | nil : RdAll H [] []
  | cons {v : AV} {vs : List AV} {d : PyData} {ds : List PyData} : Rd H v d → RdAll H vs ds → RdAll H (v :: vs) (d :: ds)
end
section
variable {S : St} {C : Cx} {H : AH} {s : Shared}
theorem Inv.list (I : Inv S C H s) {a : Addr} {xs : List AV} (h : H a = some (.list xs)) : SeqAt s.heap a "list" xs := I.objs a _ h
theorem Inv.tuple (I : Inv S C H s) {a : Addr} {xs : List AV} (h : H a = some (.tuple xs)) : SeqAt s.heap a "tuple" xs := I.objs a _ h
theorem Rd.reads (I : Inv S C H s) {av : AV} {d : PyData} (h : Rd H av d) : ∀ {v : Value}, VR v av → ∃ as, Reads s.heap v d as ∧ d.canLay0 = true := by
  refine Rd.rec (motive_1 := fun av d _ => ∀ {v : Value}, VR v av → ∃ as, Reads s.heap v d as ∧ d.canLay0 = true) (motive_2 := fun avs ds _ => ∀ {vs : List Value}, VRs vs avs → ∃ as, ReadsAll s.heap vs ds as ∧ PyData.canLayAll0 ds = true) ?_ ?_ ?_ ?_ ?_ ?_ ?_ ?_ h
  · intro v r; cases r; exact ⟨_, .none, by simp [PyData.canLay0]⟩
  · intro b v r; cases r; exact ⟨_, .bool _, by simp [PyData.canLay0]⟩
  · intro i v r; cases r; exact ⟨_, .int _ _, by simp [PyData.canLay0]⟩
  · intro x v r; cases r with | str _ _ ok => exact ⟨_, .str _ _, by simp [PyData.canLay0, ok]⟩
  · intro a xs ds h _ ih v r
    cases r
    obtain ⟨vs, n, g, hv, _⟩ := I.list h
    obtain ⟨as, r, c⟩ := ih hv
    exact ⟨_, .list g rfl rfl (by simpa using r), by simp [PyData.canLay0, c]⟩
  · intro a xs ds h _ ih v r
    cases r
    obtain ⟨vs, n, g, hv, _⟩ := I.tuple h
    obtain ⟨as, r, c⟩ := ih hv
    exact ⟨_, .tuple g rfl rfl (by simpa using r), by simp [PyData.canLay0, c]⟩
  · intro vs r; cases r; exact ⟨_, .nil, by simp [PyData.canLayAll0]⟩
  · intro v vs d ds _ _ ih1 ih2 ws r
    cases r with
    | cons r rs =>
      obtain ⟨as, q1, c1⟩ := ih1 r
      obtain ⟨bs, q2, c2⟩ := ih2 rs
      exact ⟨_, .cons q1 q2, by simp [PyData.canLayAll0, c1, c2]⟩
end
noncomputable def onInts (P : Int → Int → Prop) : AV → AV → Prop
  | .int a, .int b => P a b
  | _, _ => False
theorem onInts_inv {P : Int → Int → Prop} {x y : AV} {v w : Value} (h : onInts P x y) (r1 : VR v x) (r2 : VR w y) : ∃ i j t u, v = .int i t ∧ w = .int j u ∧ P i j := by
  cases x <;> cases y <;> first | exact h.elim | skip
  cases r1; cases r2
  exact ⟨_, _, _, _, rfl, rfl, h⟩
inductive AddK (a b : Addr) (H : AH) (Q : QV) : Prop
  | mk (xs ys : List AV) : H a = some (.list xs) → H b = some (.list ys) → xs.length + ys.length ≤ sizeLine → (∀ r, H r = none → Q (.ref r) (H.put r (.list (xs ++ ys)))) → AddK a b H Q
noncomputable def aAdd : AV → AV → AH → QV → Prop
  | .int a, .int b, H, Q => Q (.int (a + b)) H
  | .str x, .str y, H, Q => x.length + y.length ≤ sizeLine ∧ Q (.str (x ++ y)) H
  | .ref a, .ref b, H, Q => AddK a b H Q
  | _, _, _, _ => False
noncomputable def aMul (x y : AV) (H : AH) (Q : QV) : Prop := onInts (fun a b => a.natAbs < 1000000 ∧ Q (.int (a * b)) H) x y
noncomputable def aFdiv (x y : AV) (H : AH) (Q : QV) : Prop := onInts (fun a b => 0 < b ∧ b < 1073741824 ∧ Q (.int (a / b)) H) x y
noncomputable def aMod (x y : AV) (H : AH) (Q : QV) : Prop := onInts (fun a b => 0 < b ∧ Q (.int (a % b)) H) x y
theorem strOk_append {x y : Str} (hx : PyData.strOk x = true) (hy : PyData.strOk y = true) : PyData.strOk (x ++ y) = true := by
  have e : (x ++ y).cps = x.cps ++ y.cps := rfl
  unfold PyData.strOk at *
  rw [e, Array.all_append, hx, hy]; rfl
theorem intBits_small {a : Int} (h : a.natAbs < 1000000) : Builtin.Int.intBits a ≤ 64 := by
  unfold Builtin.Int.intBits
  split
  · lia
  · rename_i q
    have : a.natAbs.log2 < 63 := (Nat.log2_lt (by simpa using q)).mpr (Nat.lt_of_lt_of_le h (by decide))
    lia
section
variable {S : St}
theorem Inv.toks {C : Cx} {H : AH} {s : Shared} (I : Inv S C H s) (k : Nat) : Inv S C H { s with toks := k } := I.same rfl rfl rfl
theorem Inv.newList {C : Cx} {H : AH} {s : Shared} (I : Inv S C H s) {vs : List Value} {xs : List AV} (hv : VRs vs xs) (hl : vs.length ≤ sizeLine) :
    Inv S C (H.put s.heap.objs.size (.list xs)) { s with heap := s.heap.push { cls := .type "list", data := .seq vs.toArray } } :=
  I.add (s' := { s with heap := s.heap.push { cls := .type "list", data := .seq vs.toArray } }) (o := .list xs) (Heap.get?_none_of_le (Nat.le_refl _)) (fun b o e => Heap.get?_push_of_some _ e) ⟨vs, 0, Heap.get?_push_size _ rfl, hv, hl⟩ rfl rfl
theorem bin_add : BinOK S .Add aAdd := by
  intro C A va vb x y H Q E s hu r1 r2 I h
  cases x <;> cases y <;> try exact h.elim
  all_goals cases r1
  all_goals cases r2
  · exact PyProof.Rows.add_int ⟨_, H, .int _ _, I.toks _, h⟩
  · obtain ⟨hl, h⟩ := h
    exact PyProof.Rows.add_str (fun t' tk => ⟨_, H, .str _ _ (strOk_append ‹_› ‹_›), I.toks _, h⟩) hl
  · obtain ⟨xs, ys, ha, hb, hl, h⟩ := h
    obtain ⟨vs, n, g1, q1, _⟩ := I.list ha
    obtain ⟨ws, k, g2, q2, _⟩ := I.list hb
    have e := q1.length; have f := q2.length
    refine PySem.P.add_list g1 g2 ⟨_, _, .ref _, ?_, h _ (I.fresh (Heap.get?_none_of_le (Nat.le_refl _))).1⟩ (by simp; lia)
    rw [List.append_toArray]
    exact I.newList (q1.append q2) (by simp; lia)
theorem bin_mul : BinOK S .Mult aMul := by
  intro C A va vb x y H Q E s hu r1 r2 I h
  obtain ⟨i, j, t, u, rfl, rfl, h⟩ := onInts_inv h r1 r2
  exact PyProof.Rows.mul_int ⟨_, H, .int _ _, I.toks _, h.2⟩ (.of_left (intBits_small h.1))
theorem bin_fdiv : BinOK S .FloorDiv aFdiv := by
  intro C A va vb x y H Q E s hu r1 r2 I h
  obtain ⟨i, j, t, u, rfl, rfl, h⟩ := onInts_inv h r1 r2
  obtain ⟨h1, h2, h⟩ := h
  refine PyProof.Rows.floordiv_int (by lia) ⟨_, H, .int _ _, I.toks _, ?_⟩ (.inl (PyProof.noPylong_small (by lia)))
  rw [Int.fdiv_eq_ediv_of_nonneg _ (by lia)]; exact h
theorem bin_mod : BinOK S .Mod aMod := by
  intro C A va vb x y H Q E s hu r1 r2 I h
  obtain ⟨i, j, t, u, rfl, rfl, h⟩ := onInts_inv h r1 r2
  obtain ⟨h1, h⟩ := h
  refine PyProof.Rows.mod_int (by lia) ⟨_, H, .int _ _, I.toks _, ?_⟩
  rw [Int.fmod_eq_emod_of_nonneg _ (by lia)]; exact h
inductive EqK (x y : AV) (H : AH) (Q : Bool → Prop) : Prop
  | mk (d e : PyData) : Rd H x d → Rd H y e → d.depth ≤ 64 → e.depth ≤ 64 → Q (PyData.eqv d e) → EqK x y H Q
noncomputable def aEq (x y : AV) (H : AH) (Q : Bool → AH → Prop) : Prop := EqK x y H fun c => Q c H
noncomputable def aNe (x y : AV) (H : AH) (Q : Bool → AH → Prop) : Prop := EqK x y H fun c => Q (!c) H
inductive InK (x : AV) (a : Addr) (H : AH) (Q : Bool → Prop) : Prop
  | mk (d : PyData) (ys : List AV) (es : List PyData) : Rd H x d → H a = some (.list ys) → RdAll H ys es → d.depth ≤ 64 → Q (es.any fun y => PyData.eqv y d) → InK x a H Q
noncomputable def aIn : AV → AV → AH → (Bool → AH → Prop) → Prop
  | x, .ref a, H, Q => InK x a H fun c => Q c H
  | .str x, .str y, H, Q => Q (Txt.contains y x) H
  | _, _, _, _ => False
noncomputable def aNotIn (x y : AV) (H : AH) (Q : Bool → AH → Prop) : Prop := aIn x y H fun c => Q (!c)
noncomputable def aLe (x y : AV) (H : AH) (Q : Bool → AH → Prop) : Prop := onInts (fun a b => Q (decide (a ≤ b)) H) x y
noncomputable def aGt (x y : AV) (H : AH) (Q : Bool → AH → Prop) : Prop := onInts (fun a b => Q (decide (b < a)) H) x y
theorem cmp_eq : CmpOK S .Eq aEq := by
  rintro C A va vb x y H Q E s hu r1 r2 I ⟨d, e, h1, h2, h3, h4, h⟩
  obtain ⟨as, q1, c1⟩ := h1.reads I r1
  obtain ⟨bs, q2, c2⟩ := h2.reads I r2
  exact eq_dataH q1 q2 (by simp [SeqAt.shaped, c1, h3]) (by simp [SeqAt.shaped, c2, h4]) (by have : cLine = 9900 := rfl; lia) ⟨_, rfl, H, I, h⟩
theorem cmp_ne : CmpOK S .NotEq aNe := by
  rintro C A va vb x y H Q E s hu r1 r2 I ⟨d, e, h1, h2, h3, h4, h⟩
  obtain ⟨as, q1, c1⟩ := h1.reads I r1
  obtain ⟨bs, q2, c2⟩ := h2.reads I r2
  exact ne_dataH q1 q2 (by simp [SeqAt.shaped, c1, h3]) (by simp [SeqAt.shaped, c2, h4]) (by have : cLine = 9900 := rfl; lia) ⟨_, rfl, H, I, h⟩
theorem cmp_in : CmpOK S .In aIn := by
  intro C A va vb x y H Q E s hu r1 r2 I h
  cases r2 with
  | ref a =>
    obtain ⟨d, ys, es, h1, h2, h3, h4, h⟩ := h
    obtain ⟨bs, q1, c1⟩ := h1.reads I r1
    obtain ⟨as, q2, c2⟩ := (Rd.list h2 h3).reads I (.ref a)
    exact SeqAt.in_list_reads q2 q1 (by simpa [PyData.canLay0] using c2) c1 (by have : cLine = 9900 := rfl; lia) ⟨_, rfl, H, I, h⟩
  | str y => cases r1 <;> first | exact h.elim | exact PySem.SB.contains ⟨_, rfl, H, I, h⟩
  | _ => cases r1 <;> exact h.elim
theorem cmp_notIn : CmpOK S .NotIn aNotIn := by
  intro C A va vb x y H Q E s hu r1 r2 I h
  cases r2 with
  | ref a =>
    obtain ⟨d, ys, es, h1, h2, h3, h4, h⟩ := h
    obtain ⟨bs, q1, c1⟩ := h1.reads I r1
    obtain ⟨as, q2, c2⟩ := (Rd.list h2 h3).reads I (.ref a)
    exact SeqAt.notIn_list_reads q2 q1 (by simpa [PyData.canLay0] using c2) c1 (by have : cLine = 9900 := rfl; lia) ⟨_, rfl, H, I, h⟩
  | str y => cases r1 <;> first | exact h.elim | exact PySem.SB.notContains ⟨_, rfl, H, I, h⟩
  | _ => cases r1 <;> exact h.elim
theorem cmp_le : CmpOK S .LtE aLe := by
  intro C A va vb x y H Q E s hu r1 r2 I h
  obtain ⟨i, j, t, u, rfl, rfl, h⟩ := onInts_inv h r1 r2
  exact PyProof.Rows.le_int ⟨_, rfl, H, I, h⟩
theorem cmp_gt : CmpOK S .Gt aGt := by
  intro C A va vb x y H Q E s hu r1 r2 I h
  obtain ⟨i, j, t, u, rfl, rfl, h⟩ := onInts_inv h r1 r2
  exact PyProof.Rows.gt_int ⟨_, rfl, H, I, h⟩
end
end Mine
end
-- text A10
section
set_option autoImplicit false
set_option linter.unusedVariables false
namespace Mine
open PySem PySem.Calls PyProof.Rows
noncomputable def idx {α : Type} (xs : List α) (k : Int) : Option α := if 0 ≤ k then xs[k.toNat]? else if -(xs.length : Int) ≤ k then xs[(k + xs.length).toNat]? else none
theorem idx_nat {α : Type} (xs : List α) {k : Int} (h : 0 ≤ k) : idx xs k = xs[k.toNat]? := if_pos h
theorem idx_seq {α : Type} {xs : List α} {k : Int} {x : α} (h : idx xs k = some x) : ∃ j, seqIndex? k xs.length = some j ∧ xs[j]? = some x ∧ -(xs.length : Int) ≤ k ∧ k < xs.length := by
  unfold idx at h
  by_cases h0 : 0 ≤ k
  · rw [if_pos h0] at h
    have lt := (List.getElem?_eq_some_iff.mp h).1
    refine ⟨k.toNat, ?_, h, by lia, by lia⟩
    unfold seqIndex?
    simp only [show ¬ k < 0 by lia, if_false]
    rw [if_pos (by simp; lia)]
  · rw [if_neg h0] at h
    by_cases h1 : -(xs.length : Int) ≤ k
    · rw [if_pos h1] at h
      have lt := (List.getElem?_eq_some_iff.mp h).1
      refine ⟨(k + xs.length).toNat, ?_, h, by lia, by lia⟩
      unfold seqIndex?
      simp only [show k < 0 by lia, if_true]
      rw [if_pos (by simp; lia)]
    · rw [if_neg h1] at h; cases h
theorem subscripted_of {M : Model} {A : Around} {E : Value → Shared → Prop} {s : Shared} {slice : Expr} {o i : Value} {Q : Value → Shared → Prop} (h : wpAny M A (getItem o i) Q E s) : wpAny M A (subscripted slice false o i) Q E s := by
  unfold subscripted
  split
  · exact wpAny_operate' h
  · rename_i e; cases e
  · exact wpAny_operate' h
theorem sub_tail {prog : Program} {w : World} {A : Around} {E : Value → Shared → Prop} {s : Shared} {value slice : Expr} {o i : Value} {Q : Value → Shared → Prop} {T id : String} (hT : s.TypeIs o T) (hl : typeLookup (.type T) "__getitem__" = pure (some (.builtin id)))
    (h : wpAny (model prog w) A (getItem o i) Q E s) : wpAny (model prog w) A (subscriptTail value slice o i) Q E s := by
  unfold subscriptTail
  refine wpAny_bind ?_
  rw [getitemInPython_of_ne hT.not_modules]
  refine wpAny_bind (wpAny_specialOf hT hl ?_)
  exact wpAny_pure (wpAny_bind (subscripted_of (wpAny_mono h (fun r s1 h1 => wpAny_bind (wpAny_letTemporaryGo (wpAny_pure h1))) fun _ _ x => x)))
noncomputable def aItem : AV → AV → AH → QV → Prop
  | .ref a, .int k, H, Q => Got H a fun o => match o with
    | .list xs => ∃ x, idx xs k = some x ∧ Q x H
    | .tuple xs => ∃ x, idx xs k = some x ∧ Q x H
    | .script ns => ∃ n, idx ns k = some n ∧ Q (.int n) H
    | .idict es => ∃ v, es.lookup k = some v ∧ Q v H
    | _ => False
  | .str x, .int k, H, Q => ∃ c, idx x.cps.toList k = some c ∧ x.length ≤ sizeLine ∧ Q (.str ⟨#[c]⟩) H
  | _, _, _, _ => False
section
variable {S : St}
theorem PRs.lookup {K : Type} [BEq K] {vs : List (K × Value)} {as : List (K × AV)} (h : PRs vs as) : ∀ {k : K} {a : AV}, as.lookup k = some a → ∃ v, vs.lookup k = some v ∧ VR v a := by
  induction h with
  | nil => intro k a e; cases e
  | @cons k' v a' vs as r _ ih =>
    intro k a e
    rw [List.lookup_cons] at e ⊢
    cases hk : k == k' with
    | true => rw [hk] at e; cases e; exact ⟨v, rfl, r⟩
    | false => rw [hk] at e; exact ih e
theorem valueAt_lookup {K : Type} [DecidableEq K] : ∀ (kvs : List (K × Value)) (k : K), valueAt kvs k = kvs.lookup k
  | [], _ => rfl
  | (k', w') :: r, k => by
    have ih := valueAt_lookup r k
    unfold valueAt at *
    rw [List.lookup_cons]
    by_cases e : k' = k
    · subst e; simp
    · rw [show (k == k') = false by simpa using fun z => e z.symm, List.find?_cons_of_neg (by simpa using e)]
      exact ih
theorem item_ok {C : Cx} {A : Around} {vo vi : Value} {x y : AV} {H : AH} {Q : QV} {E : Value → Shared → Prop} {s : Shared} {value slice : Expr} (r1 : VR vo x) (r2 : VR vi y) (I : Inv S C H s) (h : aItem x y H Q) :
    wpAny S.M A (subscriptTail value slice vo vi) (PostV S C Q) E s := by
  cases r1 <;> cases r2 <;> try exact h.elim
  · obtain ⟨c, hc, hl, h⟩ := h
    rename_i x t ok k u
    obtain ⟨j, q1, q2, q3, q4⟩ := idx_seq hc
    have e : x.cps.toList.length = x.length := by simp [Str.length]
    rw [e] at q1 q3 q4
    have hz : sizeLine = 16777216 := rfl
    refine sub_tail (typeIs_str s x t) PySem.F.slot_str_getitem.lookup (PySem.P.getItem_str (c := c) ?_ ?_ ⟨_, H, .str _ _ (strOk_sign ok (k := j) (by simpa using q2)), I.toks _, h⟩)
    · simp; lia
    · rw [q1]; simpa using q2
  · rename_i a k u
    obtain ⟨o, ho, h⟩ := h
    cases o with
    | list xs =>
      obtain ⟨x, hx, h⟩ := h
      obtain ⟨vs, n, g, q, hl⟩ := I.list ho
      obtain ⟨v, hv, rv⟩ : ∃ v, idx vs k = some v ∧ VR v x := by
        unfold idx at hx ⊢
        rw [q.length]
        split
        · rw [if_pos ‹_›] at hx; exact q.get hx
        · rw [if_neg ‹_›] at hx
          split
          · rw [if_pos ‹_›] at hx; exact q.get hx
          · rw [if_neg ‹_›] at hx; cases hx
      have hz : sizeLine = 16777216 := rfl
      have isl : s.heap.IsList a vs.toArray := ⟨_, g, rfl, n, rfl⟩
      obtain ⟨j, q1, q2, q3, q4⟩ := idx_seq hv
      refine sub_tail isl.typeIs PySem.slot_list_getitem.lookup ?_
      by_cases h0 : 0 ≤ k
      · rw [idx_nat _ h0] at hv
        exact wpAny_getItem_list isl h0 (by lia) (by simpa using hv) ⟨x, H, rv, I, h⟩
      · unfold idx at hv
        rw [if_neg h0, if_pos q3] at hv
        exact wpAny_getItem_list_neg isl (by lia) (by simpa using q3) (by lia) (by simpa using hv) ⟨x, H, rv, I, h⟩
    | tuple xs =>
      obtain ⟨x, hx, h⟩ := h
      obtain ⟨vs, n, g, q, hl⟩ := I.tuple ho
      obtain ⟨v, hv, rv⟩ : ∃ v, idx vs k = some v ∧ VR v x := by
        unfold idx at hx ⊢
        rw [q.length]
        split
        · rw [if_pos ‹_›] at hx; exact q.get hx
        · rw [if_neg ‹_›] at hx
          split
          · rw [if_pos ‹_›] at hx; exact q.get hx
          · rw [if_neg ‹_›] at hx; cases hx
      have hz : sizeLine = 16777216 := rfl
      have ist : IsTup s.heap a vs.toArray := ⟨_, g, rfl, n, rfl⟩
      obtain ⟨j, q1, q2, q3, q4⟩ := idx_seq hv
      exact sub_tail ist.typeIs slot_tuple_getitem.lookup (getItem_tuple (j := j) ist (by lia) (by lia) (by simpa using q1) (by simpa using q2) ⟨x, H, rv, I, h⟩)
    | script ns =>
      obtain ⟨n, hx, h⟩ := h
      obtain ⟨vs, g, q, hl⟩ := I.objs a _ ho
      have hx' : idx (ns.map AV.int) k = some (.int n) := by
        unfold idx at hx ⊢
        rw [List.length_map]
        split
        · rw [if_pos ‹_›] at hx; rw [List.getElem?_map, hx]; rfl
        · rw [if_neg ‹_›] at hx
          split
          · rw [if_pos ‹_›] at hx; rw [List.getElem?_map, hx]; rfl
          · rw [if_neg ‹_›] at hx; cases hx
      obtain ⟨v, hv, rv⟩ : ∃ v, idx vs k = some v ∧ VR v (.int n) := by
        unfold idx at hx' ⊢
        rw [q.length]
        split
        · rw [if_pos ‹_›] at hx'; exact q.get hx'
        · rw [if_neg ‹_›] at hx'
          split
          · rw [if_pos ‹_›] at hx'; exact q.get hx'
          · rw [if_neg ‹_›] at hx'; cases hx'
      obtain ⟨o, g1, g2, g3⟩ := g
      have isl : s.heap.IsList a vs.toArray := ⟨o, I.base _ _ g1, g2, g3⟩
      obtain ⟨j, q1, q2, q3, q4⟩ := idx_seq hv
      refine sub_tail isl.typeIs PySem.slot_list_getitem.lookup ?_
      by_cases h0 : 0 ≤ k
      · rw [idx_nat _ h0] at hv
        exact wpAny_getItem_list isl h0 (by lia) (by simpa using hv) ⟨_, H, rv, I, h⟩
      · unfold idx at hv
        rw [if_neg h0, if_pos q3] at hv
        exact wpAny_getItem_list_neg isl (by lia) (by simpa using q3) (by lia) (by simpa using hv) ⟨_, H, rv, I, h⟩
    | idict es =>
      obtain ⟨v, hv, h⟩ := h
      obtain ⟨kvs, ep, g, q, _⟩ := I.objs a _ ho
      obtain ⟨w, hw, rw_⟩ := q.lookup hv
      have hw' : valueAt kvs k = some w := (valueAt_lookup kvs k).trans hw
      exact sub_tail (T := "dict") g.dictOf.mapOf.typeIs PySem.slot_dict_getitem.lookup (wpAny_getItem_of (k := k) (by simp [intKind, Value.isInt]) g.dictOf.mapOf hw' ⟨v, H, rw_, I.toks _, h⟩)
    | _ => exact h.elim
variable {b : Bool} {d : Nat} {sc : Kd} {ρ : Rho}
noncomputable def tItem (t u : Tm) : Tm := fun m H Q X => t m H (fun x H1 => u m H1 (fun y H2 => aItem x y H2 Q) X) X
theorem sE_item {value slice : Expr} {pos : Pos} {t u : Tm} (h1 : SoundE S b d sc ρ value t) (h2 : SoundE S b d sc ρ slice u) : SoundE S b d sc ρ (.Subscript value slice pos) (tItem t u) := by
  intro C A env m H Q X E s R O hk V I h hE
  refine Subscript_ (wpAny_mono (h1 C A env m H _ X E s R O hk V I h hE) ?_ fun _ _ x => x)
  rintro vo s1 ⟨x, H1, r1, I1, q1⟩
  refine wpAny_mono (h2 C A env m H1 _ X E s1 R O hk V I1 q1 hE) ?_ fun _ _ x => x
  rintro vi s2 ⟨y, H2, r2, I2, q2⟩
  exact item_ok r1 r2 I2 q2
end
end Mine
end
-- text A11
section
set_option autoImplicit false
set_option linter.unusedVariables false
namespace Mine
open PySem PySem.Calls PyProof.Rows PySem.StrLaws
noncomputable def cut {α : Type} (xs : List α) (lo hi : Option Int) : List α := (xs.drop (lo.elim 0 (clipAt xs.length))).take (hi.elim xs.length (clipAt xs.length) - lo.elim 0 (clipAt xs.length))
theorem clipAt_nat (n : Nat) {i : Int} (h : 0 ≤ i) : clipAt n i = min i.toNat n := by
  obtain ⟨k, rfl⟩ := Int.eq_ofNat_of_zero_le h
  show (max 0 (min (if (k : Int) < 0 then (k : Int) + n else k) n)).toNat = min k n
  rw [if_neg (Int.not_lt.mpr h)]
  rcases Nat.le_total k n with q | q
  · rw [Int.min_eq_left (Int.ofNat_le.mpr q), Nat.min_eq_left q]; exact congrArg Int.toNat (Int.max_eq_right h)
  · rw [Int.min_eq_right (Int.ofNat_le.mpr q), Nat.min_eq_right q]; exact congrArg Int.toNat (Int.max_eq_right (Int.natCast_nonneg _))
theorem cut_from {α : Type} (xs : List α) {i : Int} (h : 0 ≤ i) : cut xs (some i) none = xs.drop i.toNat := by
  unfold cut
  simp only [Option.elim, clipAt_nat _ h]
  rw [List.take_of_length_le (by rw [List.length_drop]; exact Nat.le_refl _)]
  rcases Nat.le_total i.toNat xs.length with q | q
  · rw [Nat.min_eq_left q]
  · rw [Nat.min_eq_right q, List.drop_length, List.drop_eq_nil_of_le q]
theorem cut_upto {α : Type} (xs : List α) {i : Int} (h : 0 ≤ i) : cut xs none (some i) = xs.take i.toNat := by
  unfold cut
  simp only [Option.elim, clipAt_nat _ h, List.drop_zero, Nat.sub_zero]
  rcases Nat.le_total i.toNat xs.length with q | q
  · rw [Nat.min_eq_left q]
  · rw [Nat.min_eq_right q, List.take_length, List.take_of_length_le q]
theorem cut_both {α : Type} (xs : List α) {i j : Int} (h : 0 ≤ i) (h' : 0 ≤ j) : cut xs (some i) (some j) = (xs.drop i.toNat).take (j.toNat - i.toNat) := by
  unfold cut
  simp only [Option.elim, clipAt_nat _ h, clipAt_nat _ h']
  by_cases q : i.toNat ≤ xs.length
  · rw [Nat.min_eq_left q]
    by_cases q2 : j.toNat ≤ xs.length
    · rw [Nat.min_eq_left q2]
    · rw [Nat.min_eq_right (show xs.length ≤ j.toNat by lia), List.take_of_length_le (by simp), List.take_of_length_le (by simp; lia)]
  · rw [Nat.min_eq_right (show xs.length ≤ i.toNat by lia), List.drop_length, List.drop_eq_nil_of_le (show xs.length ≤ i.toNat by lia)]; simp
theorem cut_map {α β : Type} (f : α → β) (xs : List α) (lo hi : Option Int) : cut (xs.map f) lo hi = (cut xs lo hi).map f := by
  unfold cut; rw [List.length_map, List.map_take, List.map_drop]
inductive PartIs : AV → Option Int → Prop
  | none : PartIs .none none
  | int (i : Int) : PartIs (.int i) (some i)
theorem VRs.cut {vs : List Value} {as : List AV} (h : VRs vs as) (lo hi : Option Int) : VRs (cut vs lo hi) (Mine.cut as lo hi) := by
  have hd : ∀ {vs : List Value} {as : List AV}, VRs vs as → ∀ n, VRs (vs.drop n) (as.drop n) := by
    intro vs as h
    induction h with
    | nil => intro n; simp; exact .nil
    | cons x _ ih => intro n; cases n with
      | zero => exact .cons x (by simpa using ih 0)
      | succ n => simpa using ih n
  have ht : ∀ {vs : List Value} {as : List AV}, VRs vs as → ∀ n, VRs (vs.take n) (as.take n) := by
    intro vs as h
    induction h with
    | nil => intro n; simp; exact .nil
    | cons x _ ih => intro n; cases n with
      | zero => exact .nil
      | succ n => exact .cons x (ih n)
  unfold Mine.cut
  rw [h.length]
  exact ht (hd h _) _
theorem cut_le {α : Type} (xs : List α) (lo hi : Option Int) : (cut xs lo hi).length ≤ xs.length := ((List.take_sublist _ _).trans (List.drop_sublist _ _)).length_le
theorem VRs.rev {vs : List Value} {as : List AV} (h : VRs vs as) : VRs vs.reverse as.reverse := by
  induction h with
  | nil => exact .nil
  | cons x _ ih => simpa using ih.append (.cons x .nil)
noncomputable def clipI (n : Nat) (dflt : Int) : Option Int → Int
  | none => dflt
  | some i => max 0 (min (if i < 0 then i + n else i) n)
theorem strIdx_eq (lo hi : Option Int) (n : Nat) : Builtin.Str.strSliceIndices lo hi 1 n = sliceRange (clipI n 0 lo) (clipI n n hi) 1 := by
  cases lo <;> cases hi <;> rfl
theorem clipI_nat (n : Nat) {k : Nat} (h : k ≤ n) (d : Int) : clipI n d (some (k : Int)) = k := by
  show max 0 (min (if (k : Int) < 0 then (k : Int) + n else k) n) = _
  rw [if_neg (by lia)]; lia
theorem clipI_of (n : Nat) (lo : Option Int) (k : Nat) : clipI n k lo = ((lo.elim k (clipAt n) : Nat) : Int) := by
  cases lo with
  | none => rfl
  | some i => exact (clipAt_cast n i).symm
theorem clip_le (n : Nat) (i : Int) : clipAt n i ≤ n := Int.toNat_le.mpr (Int.max_le.mpr ⟨Int.natCast_nonneg n, Int.min_le_right _ _⟩)
theorem elim_le (n : Nat) (hi : Option Int) : hi.elim n (clipAt n) ≤ n := by cases hi <;> simp [clip_le]
theorem strIdx_clip (lo hi : Option Int) (n : Nat) : Builtin.Str.strSliceIndices lo hi 1 n = Builtin.Str.strSliceIndices (some ((lo.elim 0 (clipAt n) : Nat) : Int)) (some ((hi.elim n (clipAt n) : Nat) : Int)) 1 n := by
  have h0 : lo.elim 0 (clipAt n) ≤ n := by cases lo <;> simp [clip_le]
  rw [strIdx_eq, strIdx_eq, clipI_nat n h0, clipI_nat n (elim_le n hi), ← clipI_of, ← clipI_of]; rfl
theorem sliced_none {a b n : Nat} (hb : b ≤ n) (ha : a ≤ n) (q : ¬ a ≤ b) : Builtin.Str.strSliceIndices (some (a : Int)) (some (b : Int)) 1 n = [] := by
  rw [strIdx_eq, clipI_nat n ha, clipI_nat n hb]
  unfold sliceRange
  simp only [show ((1 : Int) > 0) by decide, if_true]
  rw [if_neg (by lia)]
  simp
theorem sliced_cut (x : Str) (lo hi : Option Int) : (Builtin.Str.strSliceIndices lo hi 1 x.length).filterMap (x.cps[·]?) = cut x.cps.toList lo hi := by
  rw [strIdx_clip]
  have el : x.cps.toList.length = x.length := by simp [Str.length]
  unfold cut
  rw [el]
  generalize hb : hi.elim x.length (clipAt x.length) = b
  generalize hae : lo.elim 0 (clipAt x.length) = a
  have hbx : b ≤ x.length := hb ▸ elim_le ..
  have hax : a ≤ x.length := by rw [← hae]; cases lo <;> simp [clip_le]
  by_cases q : a ≤ b
  · exact sliced_plain x q hbx
  · rw [show b - a = 0 by lia, List.take_zero, sliced_none hbx hax q]; rfl
theorem strOk_cut {x : Str} (ok : PyData.strOk x = true) (lo hi : Option Int) : PyData.strOk ⟨(cut x.cps.toList lo hi).toArray⟩ = true := by
  unfold PyData.strOk at *
  rw [Array.all_eq_true_iff_forall_mem] at *
  intro c hc
  refine ok c ?_
  have : c ∈ cut x.cps.toList lo hi := by simpa using hc
  exact Array.mem_toList_iff.mp (List.mem_of_mem_drop (List.mem_of_mem_take this))
noncomputable def aCut : AV → Option Int → Option Int → AH → QV → Prop
  | .ref a, lo, hi, H, Q => Got H a fun o => match o with
    | .list xs => ∀ r, H r = none → Q (.ref r) (H.put r (.list (cut xs lo hi)))
    | .script ns => ∀ r, H r = none → Q (.ref r) (H.put r (.list (cut (ns.map AV.int) lo hi)))
    | _ => False
  | .str x, lo, hi, H, Q => x.length ≤ sizeLine ∧ Q (.str ⟨(cut x.cps.toList lo hi).toArray⟩) H
  | _, _, _, _, _ => False
section
variable {S : St} {b : Bool} {d : Nat} {sc : Kd} {ρ : Rho}
noncomputable def SoundP (S : St) (b : Bool) (d : Nat) (sc : Kd) (ρ : Rho) (e : Option Expr) (t : Tm) : Prop :=
  ∀ (C : Cx) (A : Around) (env : Env) (m : Mp) (H : AH) (Q : QV) (X : QX) (E : Value → Shared → Prop) (s : Shared),
    Room b d A → EnvOK S C A env → (∀ x, env.kindOf x = sc x) → EnvRel C env ρ m → Inv S C H s → t m H Q X → ExOK S C X E →
    wpAny S.M A (evalPart e env) (PostV S C Q) E s
theorem sP_none : SoundP S b d sc ρ none (tVal .none) := by
  intro C A env m H Q X E s R O hk V I h hE
  exact wpAny_pure ⟨_, H, .none, I, h⟩
theorem sP_some {e : Expr} {t : Tm} (h1 : SoundE S b d sc ρ e t) : SoundP S b d sc ρ (some e) t := h1
theorem Inv.junk {C : Cx} {H : AH} {s : Shared} (I : Inv S C H s) (o : Obj) : Inv S C H { s with heap := s.heap.push o } := I.grow (fun b o e => Heap.get?_push_of_some _ e) rfl rfl
theorem cut_ok {C : Cx} {A : Around} {vo vl vu : Value} {x l u : AV} {lo hi : Option Int} {H : AH} {Q : QV} {E : Value → Shared → Prop} {s : Shared} {value slice : Expr} (r1 : VR vo x) (r2 : VR vl l) (r3 : VR vu u) (pl : PartIs l lo) (pu : PartIs u hi)
    (I : Inv S C H s) (h : aCut x lo hi H Q) :
    wpAny S.M A (subscriptTail value slice vo (.ref s.heap.objs.size)) (PostV S C Q) E { s with heap := s.heap.push { cls := .type "slice", data := .fields #[vl, vu, .none] } } := by
  have J := I.junk { cls := .type "slice", data := .fields #[vl, vu, .none] }
  have ip : ∀ {v : Value} {a : AV} {o : Option Int}, VR v a → PartIs a o → IsPart v o := by
    intro v a o r p
    cases p <;> cases r
    · exact .none
    · exact .int _ _
  have qp : ∀ {v : Value} {a : AV} {o : Option Int}, VR v a → PartIs a o → ∃ z : Option (Int × Tok), v = partValue z ∧ z.map (·.1) = o := by
    intro v a o r p
    cases p <;> cases r
    · exact ⟨none, rfl, rfl⟩
    · exact ⟨some (_, _), rfl, rfl⟩
  cases r1 with
  | str x t ok =>
    obtain ⟨hl, h⟩ := h
    obtain ⟨zl, el, fl⟩ := qp r2 pl
    obtain ⟨zu, eu, fu⟩ := qp r3 pu
    refine sub_tail (typeIs_str _ x t) PySem.F.slot_str_getitem.lookup (wpAny_getItem_str_slice (l := zl) (u := zu) (st := none) ⟨_, Heap.get?_push_size _ rfl, rfl, by rw [el, eu]; rfl⟩ rfl ?_)
    have ep : slicePicked x zl zu none = Builtin.Str.strSliceIndices lo hi 1 x.length := by unfold slicePicked; rw [fl, fu]; rfl
    unfold sliceMade
    rw [ep]
    split
    · rename_i hfull
      have e : (⟨(cut x.cps.toList lo hi).toArray⟩ : Str) = x := by
        have e1 := sliced_cut x lo hi
        have e2 : (Builtin.Str.strSliceIndices lo hi 1 x.length).length = x.length := by
          have := (Bool.and_eq_true_iff.mp hfull).2; simpa using this
        have e3 : (cut x.cps.toList lo hi).length = x.length := by
          rw [← e1]
          rw [strIdx_clip] at e2 ⊢
          have hb : hi.elim x.length (clipAt x.length) ≤ x.length := elim_le ..
          by_cases q : (lo.elim 0 (clipAt x.length)) ≤ hi.elim x.length (clipAt x.length)
          · rw [strSliceIndices_plain q hb] at e2
            rw [sliced_plain x q hb]
            have el : x.cps.toList.length = x.length := by simp [Str.length]
            rw [List.length_map, List.length_range] at e2
            rw [List.length_take, List.length_drop, el]
            lia
          · rw [sliced_none hb (by cases lo <;> simp [clip_le]) q] at e2 ⊢
            simpa using e2
        have hp : cut x.cps.toList lo hi = x.cps.toList := by
          have hs : (cut x.cps.toList lo hi).Sublist x.cps.toList := (List.take_sublist _ _).trans (List.drop_sublist _ _)
          exact hs.eq_of_length (by rw [e3]; simp [Str.length])
        rw [hp]
      rw [e] at h
      exact ⟨_, H, .str _ _ ok, J, h⟩
    · rw [sliced_cut]
      refine ⟨?_, _, H, .str _ _ (strOk_cut ok lo hi), J.toks _, h⟩
      show (cut x.cps.toList lo hi).toArray.size ≤ sizeLine
      have e1 := cut_le x.cps.toList lo hi
      rw [List.size_toArray]
      have e2 : x.cps.toList.length = x.length := by simp [Str.length]
      lia
  | ref a =>
    obtain ⟨o, ho, h⟩ := h
    have go : ∀ {vs : List Value} {xs : List AV}, ({ s with heap := s.heap.push { cls := .type "slice", data := .fields #[vl, vu, .none] } } : Shared).heap.IsList a vs.toArray → VRs vs xs → vs.length ≤ sizeLine → (∀ r, H r = none → Q (.ref r) (H.put r (.list (cut xs lo hi)))) →
        wpAny S.M A (subscriptTail value slice (.ref a) (.ref s.heap.objs.size)) (PostV S C Q) E { s with heap := s.heap.push { cls := .type "slice", data := .fields #[vl, vu, .none] } } := by
      intro vs xs isl q hl h
      refine sub_tail isl.typeIs PySem.slot_list_getitem.lookup (wpAny_getItem_list_slice isl (Heap.IsSliceOf.new _ _ _ _) (ip r2 pl) (ip r3 pu) .none (by simp) ⟨_, _, .ref _, ?_, h _ (J.fresh (Heap.get?_none_of_le (Nat.le_refl _))).1⟩ (by simpa using hl))
      rw [slicePick_plain]
      exact J.newList (vs := cut vs lo hi) (q.cut lo hi) (Nat.le_trans (cut_le vs lo hi) hl)
    cases o with
    | list xs =>
      obtain ⟨vs, n, g, q, hl⟩ := J.list ho
      exact go ⟨_, g, rfl, n, rfl⟩ q hl h
    | script ns =>
      obtain ⟨vs, ⟨o, g1, g2, g3⟩, q, hl⟩ := J.objs a _ ho
      exact go ⟨o, J.base _ _ g1, g2, g3⟩ q (by have : sizeLine = 16777216 := rfl; lia) h
    | _ => exact h.elim
  | _ => exact h.elim
inductive CutK (x y z : AV) (H : AH) (Q : QV) : Prop
  | mk (lo hi : Option Int) : PartIs y lo → PartIs z hi → aCut x lo hi H Q → CutK x y z H Q
noncomputable def tSlice (t l u : Tm) : Tm := fun m H Q X => t m H (fun x H1 => l m H1 (fun y H2 => u m H2 (fun z H3 => CutK x y z H3 Q) X) X) X
theorem sE_slice {value : Expr} {lower upper : Option Expr} {p pos : Pos} {t l u : Tm} (h1 : SoundE S b d sc ρ value t) (h2 : SoundP S b d sc ρ lower l) (h3 : SoundP S b d sc ρ upper u) :
    SoundE S b d sc ρ (.Subscript value (.Slice lower upper none p) pos) (tSlice t l u) := by
  intro C A env m H Q X E s R O hk V I h hE
  refine Subscript_ (wpAny_mono (h1 C A env m H _ X E s R O hk V I h hE) ?_ fun _ _ x => x)
  rintro vo s1 ⟨x, H1, r1, I1, q1⟩
  refine wpAny_Slice (wpAny_mono (h2 C A env m H1 _ X E s1 R O hk V I1 q1 hE) ?_ fun _ _ x => x)
  rintro vl s2 ⟨y, H2, r2, I2, q2⟩
  refine wpAny_mono (h3 C A env m H2 _ X E s2 R O hk V I2 q2 hE) ?_ fun _ _ x => x
  rintro vu s3 ⟨z, H3, r3, I3, lo, hi, p1, p2, q3⟩
  exact wpAny_pure (cut_ok r1 r2 r3 p1 p2 I3 q3)
noncomputable def aRev : AV → AH → QV → Prop
  | .ref a, H, Q => ∃ xs, H a = some (.list xs) ∧ ∀ r, H r = none → Q (.ref r) (H.put r (.list xs.reverse))
  | _, _, _ => False
noncomputable def tRev (t : Tm) : Tm := fun m H Q X => t m H (fun x H1 => aRev x H1 Q) X
theorem sE_rev {value : Expr} {p p1 p2 pos : Pos} {k : Nat} {t : Tm} (h1 : SoundE S b d sc ρ value t) :
    SoundE S b d sc ρ (.Subscript value (.Slice none none (some (.UnaryOp .USub (.Constant (.int 1) k p1) p2)) p) pos) (tRev t) := by
  intro C A env m H Q X E s R O hk V I h hE
  refine Subscript_ (wpAny_mono (h1 C A env m H _ X E s R O hk V I h hE) ?_ fun _ _ x => x)
  rintro vo s1 ⟨x, H1, r1, I1, q1⟩
  cases r1 with
  | ref a =>
    obtain ⟨xs, ho, q1⟩ := q1
    refine wpAny_Slice (wpAny_pure (wpAny_pure ?_))
    refine lit_neg _ fun v tk hv => ?_
    obtain ⟨t', rfl⟩ : ∃ t', v = .int (-1) t' := by cases hv s1.heap; exact ⟨_, rfl⟩
    have J := (I1.toks tk).junk { cls := .type "slice", data := .fields #[.none, .none, .int (-1) t'] }
    obtain ⟨vs, n, g, q, hl⟩ := J.list ho
    have isl : ({ ({ s1 with toks := tk } : Shared) with heap := ({ s1 with toks := tk } : Shared).heap.push { cls := .type "slice", data := .fields #[.none, .none, .int (-1) t'] } } : Shared).heap.IsList a vs.toArray := ⟨_, g, rfl, n, rfl⟩
    refine sub_tail isl.typeIs PySem.slot_list_getitem.lookup (wpAny_getItem_list_slice (st := some (-1)) isl (Heap.IsSliceOf.new _ _ _ _) .none .none (.int _ _) (by decide) ⟨_, _, .ref _, ?_, q1 _ (J.fresh (Heap.get?_none_of_le (Nat.le_refl _))).1⟩ (by simpa using hl))
    rw [PySem.W.krv_pick]
    exact J.newList (by simpa using q.rev) (by simpa using hl)
  | _ => exact q1.elim
end
end Mine
end
-- text A12
section
set_option autoImplicit false
set_option linter.unusedVariables false
namespace Mine
open PySem PySem.Calls PyProof.Rows PySem.StrLaws
theorem VRs.one {vs : List Value} {x : AV} (h : VRs vs [x]) : ∃ v, vs = [v] ∧ VR v x := by
  cases h with | cons r1 r => cases r; exact ⟨_, rfl, r1⟩
theorem VRs.two {vs : List Value} {x y : AV} (h : VRs vs [x, y]) : ∃ v w, vs = [v, w] ∧ VR v x ∧ VR w y := by
  cases h with | cons r1 r => obtain ⟨w, rfl, r2⟩ := r.one; exact ⟨_, _, rfl, r1, r2⟩
theorem VR.ref_inv {v : Value} {a : Addr} (h : VR v (.ref a)) : v = .ref a := by cases h; rfl
theorem VR.str_inv {v : Value} {x : Str} (h : VR v (.str x)) : ∃ t, v = .str x t ∧ PyData.strOk x = true := by cases h; exact ⟨_, rfl, ‹_›⟩
theorem VR.int_inv {v : Value} {i : Int} (h : VR v (.int i)) : ∃ t, v = .int i t := by cases h; exact ⟨_, rfl⟩
section
variable {S : St} {b : Bool} {d : Nat} {sc : Kd} {ρ : Rho}
noncomputable def tList (ts : Tms) : Tm := fun m H Q X => ts m H (fun vs H1 => vs.length ≤ 1000 ∧ ∀ r, H1 r = none → Q (.ref r) (H1.put r (.list vs))) X
noncomputable def tTuple (ts : Tms) : Tm := fun m H Q X => ts m H (fun vs H1 => vs.length ≤ 1000 ∧ ∀ r, H1 r = none → Q (.ref r) (H1.put r (.tuple vs))) X
theorem Inv.newTuple {C : Cx} {H : AH} {s : Shared} (I : Inv S C H s) {vs : List Value} {xs : List AV} (hv : VRs vs xs) (hl : vs.length ≤ sizeLine) :
    Inv S C (H.put s.heap.objs.size (.tuple xs)) { s with heap := s.heap.push { cls := .type "tuple", data := .seq vs.toArray } } :=
  I.add (s' := { s with heap := s.heap.push { cls := .type "tuple", data := .seq vs.toArray } }) (o := .tuple xs) (Heap.get?_none_of_le (Nat.le_refl _)) (fun b o e => Heap.get?_push_of_some _ e) ⟨vs, 0, Heap.get?_push_size _ rfl, hv, hl⟩ rfl rfl
theorem Inv.nextNone {C : Cx} {H : AH} {s : Shared} (I : Inv S C H s) : H s.heap.objs.size = none := (I.fresh (Heap.get?_none_of_le (Nat.le_refl _))).1
theorem sE_list {es : List Expr} {pos : Pos} {ts : Tms} (h1 : SoundEs S b d sc ρ es ts) : SoundE S b d sc ρ (.List es pos) (tList ts) := by
  intro C A env m H Q X E s R O hk V I h hE
  refine wpAny_List (wpAny_mono (h1 C A env m H _ X E s pos R O hk V I h hE) ?_ fun _ _ x => x)
  rintro vs s1 ⟨avs, H1, r1, I1, hl, q1⟩
  have e := r1.length
  have hz : sizeLine = 16777216 := rfl
  exact ⟨by lia, _, _, .ref _, I1.newList r1 (by lia), q1 _ I1.nextNone⟩
theorem sE_tuple {es : List Expr} {k : Nat} {pos : Pos} {ts : Tms} (h1 : SoundEs S b d sc ρ es ts) : SoundE S b d sc ρ (.Tuple es k pos) (tTuple ts) := by
  intro C A env m H Q X E s R O hk V I h hE
  refine wpAny_Tuple (wpAny_mono (h1 C A env m H _ X E s pos R O hk V I h hE) ?_ fun _ _ x => x)
  rintro vs s1 ⟨avs, H1, r1, I1, hl, q1⟩
  have e := r1.length
  have hz : sizeLine = 16777216 := rfl
  exact ⟨by lia, _, _, .ref _, I1.newTuple r1 (by lia), q1 _ I1.nextNone⟩
inductive TyAt (H : AH) : AV → String → Prop
  | str (x : Str) : TyAt H (.str x) "str"
  | list {a : Addr} {xs : List AV} : H a = some (.list xs) → TyAt H (.ref a) "list"
  | idict {a : Addr} {es : List (Int × AV)} : H a = some (.idict es) → TyAt H (.ref a) "dict"
  | sdict {a : Addr} {es : List (Str × AV)} : H a = some (.sdict es) → TyAt H (.ref a) "dict"
theorem TyAt.is {C : Cx} {H : AH} {s : Shared} (I : Inv S C H s) {v : Value} {x : AV} {T : String} (h : TyAt H x T) (r : VR v x) : s.TypeIs v T ∧ (∀ a, v = .ref a → ∃ ob, s.heap.get? a = some ob ∧ ob.dict = none) := by
  cases h with
  | str x => cases r; exact ⟨typeIs_str _ _ _, fun a e => nomatch e⟩
  | list h =>
    cases r
    obtain ⟨vs, n, g, _⟩ := I.list h
    exact ⟨⟨_, g, rfl⟩, fun a e => by cases e; exact ⟨_, g, rfl⟩⟩
  | idict h =>
    cases r
    obtain ⟨kvs, ep, g, _⟩ := I.objs _ _ h
    exact ⟨g.dictOf.mapOf.typeIs, fun a e => g.dictOf.mapOf.noDict a e⟩
  | sdict h =>
    cases r
    obtain ⟨kvs, ep, g, _⟩ := I.objs _ _ h
    exact ⟨g.dictOf.mapOf.typeIs, fun a e => g.dictOf.mapOf.noDict a e⟩
structure BMeth (T : String) (name : Str) (id : String) : Prop where
  pa : PlainAttrs T
  slot : Slot T name id
  ty : typeOf (.builtin id) = pure (.type "method_descriptor")
noncomputable def tMeth (T : String) (F : BFn) (t : Tm) (ts : Tms) : Tm := fun m H Q X => t m H (fun x H1 => TyAt H1 x T ∧ ts m H1 (fun vs H2 => F (x :: vs) H2 Q) X) X
theorem sE_meth {o : Expr} {name : Str} {apos pos : Pos} {args : List Expr} {T id : String} {F : BFn} {t : Tm} {ts : Tms} (B : BMeth T name id) (hF : BFnOK S b (.builtin id) F) (h1 : SoundE S b d sc ρ o t) (h2 : SoundEs S b d sc ρ args ts)
    (hbase : ∀ env, attributeBase o name env (eval o env) = eval o env) (hline : (apos.endLine == pos.line) = true) (hs : noStar args = true) (hn : args.length < 29) :
    SoundE S b d sc ρ (.Call (.Attribute o name apos) args [] pos) (tMeth T F t ts) := by
  intro C A env m H Q X E s R O hk V I h hE
  refine wpAny_Call_method (hbase env) ?_ hline B.pa B.slot B.ty (wpAny_mono (h1 C A env m H _ X E s R O hk V I h hE) ?_ fun _ _ x => x)
  · rw [backTo_plain hs]
    have e : (backToKw pos (keywordEach [] env)) = [] := rfl
    rw [e]; simp; lia
  · rintro vo s1 ⟨x, H1, r1, I1, ty, q1⟩
    obtain ⟨t1, t2⟩ := ty.is I1 r1
    refine ⟨t1, t2, Calls.callWith_builtin (backTo_any hs) (evalArgs_of hs (wpAny_mono (h2 C A env m H1 _ X E s1 pos R O hk V I1 q1 hE) ?_ fun _ _ x => x))⟩
    rintro vs s2 ⟨avs, H2, r2, I2, q2⟩
    exact hF C A (vo :: vs) (x :: avs) H2 Q E s2 R.hd R.u (.cons r1 r2) I2 q2
inductive bAppendK (vs : List AV) (H : AH) (Q : QV) : Prop
  | mk (a) (xs) (v) : (vs = [.ref a, v]) → (H a = some (.list xs)) → (xs.length < sizeLine) → (Q .none (H.put a (.list (xs ++ [v])))) → bAppendK vs H Q
noncomputable def bAppend : BFn := fun vs H Q => bAppendK vs H Q
theorem bAppend_ok : BFnOK S b (.builtin "list.append") bAppend := by
  rintro C A vs avs H Q E s hh hu r I ⟨a, xs, v, rfl, ha, hl, h⟩
  obtain ⟨_, w, rfl, r1, r2⟩ := r.two
  cases r1.ref_inv
  obtain ⟨ws, n, g, q, _⟩ := I.list ha
  have e := q.length
  refine append_at g (fun h' sb g' => ⟨_, _, .none, ?_, h⟩) (by simp; lia)
  refine I.set (s' := { s with heap := h' }) ha rfl (fun b ob nb e => (sb.2 b nb).trans e) ⟨ws ++ [_], n + 1, by simpa using g', q.append (.cons r2 .nil), by simp; lia⟩ rfl rfl
theorem meth_append : BMeth "list" "append" "list.append" := ⟨PySem.F.plainAttrs_list, PySem.slot_list_append, rfl⟩
inductive bExtendK (vs : List AV) (H : AH) (Q : QV) : Prop
  | mk (a) (c) (xs) (ys) : (vs = [.ref a, .ref c]) → (H a = some (.list xs)) → (H c = some (.list ys)) → (xs.length + ys.length ≤ sizeLine) → (Q .none (H.put a (.list (xs ++ ys)))) → bExtendK vs H Q
noncomputable def bExtend : BFn := fun vs H Q => bExtendK vs H Q
theorem bExtend_ok : BFnOK S b (.builtin "list.extend") bExtend := by
  rintro C A vs avs H Q E s hh hu r I ⟨a, c, xs, ys, rfl, ha, hc, hl, h⟩
  obtain ⟨_, _, rfl, r1, r2⟩ := r.two
  cases r1.ref_inv; cases r2.ref_inv
  obtain ⟨ws, n, g, q, _⟩ := I.list ha
  obtain ⟨us, k, g2, q2, _⟩ := I.list hc
  have e := q.length; have e2 := q2.length
  refine call_meets PySem.F.slot_list_extend ⟨_, g, rfl⟩ PySem.F.entry_list_extend (PySem.F.args_list_extend_2 _ _) (AutoSeq1.list_extend_list_list_0 a ws.toArray n c us.toArray k (extend_door (by simp; lia)) (by simp; lia) (by simp; lia)) ⟨g, g2, ⟨_, _, .none, ?_, h⟩⟩
  have ho' : (s.heap.update a (Obj.mapSeq fun x => x ++ us.toArray)).get? a = some { cls := .type "list", data := .seq (ws ++ us).toArray (if (ws.toArray ++ us.toArray).size == ws.toArray.size then n else n + 1) } := by
    rw [Heap.get?_update_self _ g (by rw [mapSeq_app]; rfl), mapSeq_app, List.append_toArray]
  exact I.set (s' := { s with heap := s.heap.update a (Obj.mapSeq fun x => x ++ us.toArray) }) ha rfl (fun b ob nb e => ((Heap.SameBut.update ..).2 b nb).trans e) ⟨ws ++ us, _, ho', q.append q2, by simp; lia⟩ rfl rfl
theorem meth_extend : BMeth "list" "extend" "list.extend" := ⟨PySem.F.plainAttrs_list, PySem.F.slot_list_extend, rfl⟩
theorem VRs.strs {vs : List Value} : ∀ {xs : List Str}, VRs vs (xs.map AV.str) → StrsAre vs xs := by
  induction vs with
  | nil => intro xs h; cases xs with
    | nil => exact .nil
    | cons => cases h
  | cons v vs ih => intro xs h; cases xs with
    | nil => cases h
    | cons x xs => cases h with | cons r rs => cases r; exact .cons _ _ (ih rs)
inductive bJoinK (vs : List AV) (H : AH) (Q : QV) : Prop
  | mk (x) (a) (ys) : (vs = [.str x, .ref a]) → (H a = some (.list (List.map AV.str ys))) → ((ys.map (·.length)).sum + ys.length * x.length ≤ 16777216) → (Q (.str (Str.join x ys)) H) → bJoinK vs H Q
noncomputable def bJoin : BFn := fun vs H Q => bJoinK vs H Q
theorem strOk_join {x : Str} (hx : PyData.strOk x = true) : ∀ {ys : List Str}, (∀ y ∈ ys, PyData.strOk y = true) → PyData.strOk (Str.join x ys) = true
  | [], _ => by show PyData.strOk Str.empty = true; unfold PyData.strOk Str.empty; simp
  | [y], h => h y (.head _)
  | y :: z :: r, h => strOk_append (strOk_append (h y (.head _)) hx) (strOk_join hx (ys := z :: r) fun w hw => h w (.tail _ hw))
theorem VRs.strOk {vs : List Value} : ∀ {xs : List Str}, VRs vs (xs.map AV.str) → ∀ y ∈ xs, PyData.strOk y = true := by
  induction vs with
  | nil => intro xs h; cases xs with
    | nil => intro y hy; cases hy
    | cons => cases h
  | cons v vs ih => intro xs h; cases xs with
    | nil => cases h
    | cons x xs => cases h with
      | cons r rs =>
        intro y hy
        rcases List.mem_cons.mp hy with e | hy
        · rw [e]; obtain ⟨_, _, ok⟩ := r.str_inv; exact ok
        · exact ih rs y hy
theorem bJoin_ok : BFnOK S b (.builtin "str.join") bJoin := by
  rintro C A vs avs H Q E s hh hu r I ⟨x, a, ys, rfl, ha, hl, h⟩
  obtain ⟨_, _, rfl, r1, r2⟩ := r.two
  obtain ⟨t, rfl, ok⟩ := r1.str_inv
  cases r2.ref_inv
  obtain ⟨ws, n, g, q, _⟩ := I.list ha
  have ej : Txt.join x ys = Str.join x ys := by unfold Txt.join; exact StrLaws.glued_eq_join x ys
  refine join_list (items := ws.toArray) (ys := ys) ⟨_, g, rfl, n, rfl⟩ (by simpa using q.strs) hl fun t' k => ?_
  rw [ej]
  exact ⟨_, H, .str _ _ (strOk_join ok q.strOk), I.toks _, h⟩
theorem meth_join : BMeth "str" "join" "str.join" := ⟨PySem.F.plainAttrs_str, PySem.F.slot_str_join, rfl⟩
noncomputable def aLen : AV → AH → QV → Prop
  | .str x, H, Q => x.length ≤ sizeLine ∧ Q (.int x.length) H
  | .ref a, H, Q => Got H a fun o => match o with
    | .list xs => Q (.int xs.length) H
    | .tuple xs => Q (.int xs.length) H
    | .script ns => Q (.int ns.length) H
    | .idict es => Q (.int es.length) H
    | .sdict es => Q (.int es.length) H
    | .sset xs => Q (.int xs.length) H
    | _ => False
  | _, _, _ => False
inductive bLenK (vs : List AV) (H : AH) (Q : QV) : Prop
  | mk (v) : (vs = [v]) → (aLen v H Q) → bLenK vs H Q
noncomputable def bLen : BFn := fun vs H Q => bLenK vs H Q
theorem PRs.length {K : Type} {vs : List (K × Value)} {as : List (K × AV)} (h : PRs vs as) : vs.length = as.length := by
  induction h with
  | nil => rfl
  | cons _ _ ih => simp [ih]
theorem SRs.length {w : World} {vs : List (Int × Value)} {as : List Str} (h : SRs w vs as) : vs.length = as.length := by
  induction h with
  | nil => rfl
  | cons _ _ ih => simp [ih]
theorem bLen_ok (K : StOK S) : BFnOK S b (.builtin "len") bLen := by
  rintro C A vs avs H Q E s hh hu r I ⟨v, rfl, h⟩
  obtain ⟨w, rfl, r0⟩ := r.one
  have hz : sizeLine = 16777216 := rfl
  have nosys : ∀ {a : Addr} {o : AO}, H a = some o → isScript o = false → (a == sysModules) = false := fun {a o} ho hs => by
    obtain ⟨o', e⟩ := K.sys
    have := (I.sepH a o ho).2 hs
    by_cases q : a = sysModules
    · rw [q, e] at this; cases this
    · simpa using q
  cases r0 with
  | str x t ok => exact PySem.P.len_str (by have := h.1; lia) ⟨_, H, .int _ _, I.toks _, h.2⟩
  | ref a =>
    obtain ⟨o, ho, h⟩ := h
    cases o with
    | list xs =>
      obtain ⟨ws, n, g, q, hl⟩ := I.list ho
      refine call_len_list (items := ws.toArray) ⟨_, g, rfl, n, rfl⟩ (by simp; lia) ⟨_, H, .int _ _, I.toks _, ?_⟩
      rw [List.size_toArray, q.length]; exact h
    | tuple xs =>
      obtain ⟨ws, n, g, q, hl⟩ := I.tuple ho
      refine PySem.P.len_tuple (items := ws.toArray) g (by simp; lia) ⟨_, H, .int _ _, I.toks _, ?_⟩
      rw [List.size_toArray, q.length]; exact h
    | script ns =>
      obtain ⟨ws, ⟨o, g1, g2, g3⟩, q, hl⟩ := I.objs a _ ho
      refine call_len_list (items := ws.toArray) ⟨o, I.base _ _ g1, g2, g3⟩ (by simp; lia) ⟨_, H, .int _ _, I.toks _, ?_⟩
      have e := q.length
      rw [List.length_map] at e
      rw [List.size_toArray, e]; exact h
    | idict es =>
      obtain ⟨kvs, ep, g, q, hl⟩ := I.objs a _ ho
      refine call_len_dict (nosys ho rfl) g.dictOf (by lia) ⟨_, H, .int _ _, I.toks _, ?_⟩
      rw [q.length]; exact h
    | sdict es =>
      obtain ⟨kvs, ep, g, q, _, hl⟩ := I.objs a _ ho
      refine call_len_dict (nosys ho rfl) g.dictOf (by lia) ⟨_, H, .int _ _, I.toks _, ?_⟩
      rw [q.length]; exact h
    | sset xs =>
      obtain ⟨es, ep, t, ys, g, q, pm, nd, hb, hf, _⟩ := I.objs a _ ho
      have hsb : scanBound = 4096 := rfl
      refine call_len_set g ⟨rfl, rfl, rfl⟩ rfl hf (by lia) ⟨_, H, .int _ _, I.toks _, ?_⟩
      have e := q.length
      rw [Array.length_toList] at e
      rw [e, pm.length_eq]; exact h
    | _ => exact h.elim
  | _ => exact h.elim
theorem VRs.bools {vs : List Value} : ∀ {xs : List Bool}, VRs vs (xs.map AV.bool) → LSm.BoolsAre vs xs := by
  induction vs with
  | nil => intro xs h; cases xs with
    | nil => exact .nil
    | cons => cases h
  | cons v vs ih => intro xs h; cases xs with
    | nil => cases h
    | cons x xs => cases h with | cons r rs => cases r; exact .cons _ (ih rs)
theorem kept_iter' {s : Shared} {h' : Heap} {o : Obj} (hk : ∀ b x, b ∉ [s.heap.objs.size] → (s.heap.push o).get? b = some x → h'.get? b = some x) : ∀ b x, s.heap.get? b = some x → h'.get? b = some x :=
  fun b x e => hk b x (fun hm => by rw [List.mem_singleton.mp hm] at e; exact Nat.lt_irrefl _ (Heap.lt_size e)) (Heap.get?_push_of_some _ e)
inductive bAllK (vs : List AV) (H : AH) (Q : QV) : Prop
  | mk (a) (bs) : (vs = [.ref a]) → (H a = some (.list (List.map AV.bool bs))) → (Q (.bool (bs.all id)) H) → bAllK vs H Q
noncomputable def bAll : BFn := fun vs H Q => bAllK vs H Q
inductive bAnyK (vs : List AV) (H : AH) (Q : QV) : Prop
  | mk (a) (bs) : (vs = [.ref a]) → (H a = some (.list (List.map AV.bool bs))) → (Q (.bool (bs.any id)) H) → bAnyK vs H Q
noncomputable def bAny : BFn := fun vs H Q => bAnyK vs H Q
theorem bAll_ok : BFnOK S true (.builtin "all") bAll := by
  rintro C A vs avs H Q E s hh hu r I ⟨l, bs, rfl, ha, h⟩
  obtain ⟨_, rfl, r0⟩ := r.one
  cases r0.ref_inv
  obtain ⟨ws, n, g, q, _⟩ := I.list ha
  have hl : s.heap.IsList l ws.toArray := ⟨_, g, rfl, n, rfl⟩
  have hb := q.bools
  have hlt : l < s.heap.objs.size := Heap.lt_size g
  refine call_all_walk (wpAny_pyIter_list hl ?_)
  refine ⟨s.heap.objs.size, [s.heap.objs.size, l], [s.heap.objs.size], ws.toArray.size, _, _, fun i => (bs[i]?).getD true, rfl, Walks.list (A := A.in1) (hh rfl) _ l (Nat.ne_of_lt hlt) ws.toArray,
    ⟨⟨_, Heap.get?_push_size _ rfl, rfl, rfl⟩, hl.push _⟩, fun i v s' Q' E' hP hQ => ?_, fun h' tk hk => ?_⟩
  · obtain ⟨b, e, rfl⟩ := hb.get i v (by simpa using hP)
    simp only [e, Option.getD_some] at hQ
    exact wpAny_truthy_bool hQ
  · have e : ((List.range ws.toArray.size).all fun i => (bs[i]?).getD true) = bs.all id := by
      rw [List.size_toArray, hb.length]; exact LSm.range_all bs
    rw [e]
    exact ⟨_, H, .bool _, I.grow (s' := { s with heap := h', toks := tk }) (kept_iter' hk) rfl rfl, h⟩
theorem bAny_ok : BFnOK S true (.builtin "any") bAny := by
  rintro C A vs avs H Q E s hh hu r I ⟨l, bs, rfl, ha, h⟩
  obtain ⟨_, rfl, r0⟩ := r.one
  cases r0.ref_inv
  obtain ⟨ws, n, g, q, _⟩ := I.list ha
  have hl : s.heap.IsList l ws.toArray := ⟨_, g, rfl, n, rfl⟩
  have hb := q.bools
  have hlt : l < s.heap.objs.size := Heap.lt_size g
  refine call_any_walk (wpAny_pyIter_list hl ?_)
  refine ⟨s.heap.objs.size, [s.heap.objs.size, l], [s.heap.objs.size], ws.toArray.size, _, _, fun i => (bs[i]?).getD false, rfl, Walks.list (A := A.in1) (hh rfl) _ l (Nat.ne_of_lt hlt) ws.toArray,
    ⟨⟨_, Heap.get?_push_size _ rfl, rfl, rfl⟩, hl.push _⟩, fun i v s' Q' E' hP hQ => ?_, fun h' tk hk => ?_⟩
  · obtain ⟨b, e, rfl⟩ := hb.get i v (by simpa using hP)
    simp only [e, Option.getD_some] at hQ
    exact wpAny_truthy_bool hQ
  · have e : ((List.range ws.toArray.size).any fun i => (bs[i]?).getD false) = bs.any id := by
      rw [List.size_toArray, hb.length]; exact LSm.range_any bs
    rw [e]
    exact ⟨_, H, .bool _, I.grow (s' := { s with heap := h', toks := tk }) (kept_iter' hk) rfl rfl, h⟩
inductive bRangeK (vs : List AV) (H : AH) (Q : QV) : Prop
  | mk (n) : (vs = [.int n]) → (-1048576 ≤ n) → (n ≤ 1048576) → (∀ r, H r = none → Q (.ref r) (H.put r (.range 0 n))) → bRangeK vs H Q
noncomputable def bRange : BFn := fun vs H Q => bRangeK vs H Q
theorem bRange_ok : BFnOK S b (.type "range") bRange := by
  rintro C A vs avs H Q E s hh hu r I ⟨n, rfl, h1, h2, h⟩
  obtain ⟨_, rfl, r0⟩ := r.one
  obtain ⟨t, rfl⟩ := r0.int_inv
  refine call_range_1 ⟨_, _, .ref _, ?_, h _ I.nextNone⟩
  exact I.add (s' := { s with heap := s.heap.push { cls := .type "range", data := .fields #[.int 0 s.toks, .int n t, .int 1 (s.toks + 1)] }, toks := s.toks + 1 + 1 }) (o := .range 0 n) (Heap.get?_none_of_le (Nat.le_refl _)) (fun b o e => Heap.get?_push_of_some _ e)
    ⟨_, _, _, ⟨by lia, by lia⟩, ⟨h1, h2⟩, IsRange.new ..⟩ rfl rfl
noncomputable def bList : BFn := fun vs H Q => OneGot vs H fun o => match o with
  | .list xs => ∀ r, H r = none → Q (.ref r) (H.put r (.list xs))
  | .tuple xs => ∀ r, H r = none → Q (.ref r) (H.put r (.list xs))
  | .script ns => ∀ r, H r = none → Q (.ref r) (H.put r (.list (ns.map AV.int)))
  | _ => False
theorem bList_ok : BFnOK S b (.type "list") bList := by
  rintro C A vs avs H Q E s hh hu r I ⟨a, o, rfl, ha, h⟩
  obtain ⟨_, rfl, r0⟩ := r.one
  cases r0.ref_inv
  have fin : ∀ {ws : List Value} {xs : List AV} {h' : Heap} {c' : Nat}, VRs ws xs → ws.length ≤ sizeLine → (∀ b o', s.heap.get? b = some o' → h'.get? b = some o') → h'.get? s.heap.objs.size = some { cls := .type "list", dict := none, data := .seq ws.toArray c', slots := #[] } →
      (∀ r, H r = none → Q (.ref r) (H.put r (.list xs))) → PostV S C Q (.ref s.heap.objs.size) { s with heap := h' } := by
    intro ws xs h' c' q hl hk g h
    exact ⟨_, _, .ref _, I.add (s' := { s with heap := h' }) (o := .list xs) (Heap.get?_none_of_le (Nat.le_refl _)) hk ⟨ws, c', g, q, hl⟩ rfl rfl, h _ I.nextNone⟩
  cases o with
  | list xs =>
    obtain ⟨ws, n, g, q, hl⟩ := I.list ha
    exact call_list_seq a (.inl rfl) g rfl rfl (fun h' c' hk g' => fin q hl hk g' h) (by simpa using hl)
  | tuple xs =>
    obtain ⟨ws, n, g, q, hl⟩ := I.tuple ha
    exact call_list_seq a (.inr rfl) g rfl rfl (fun h' c' hk g' => fin q hl hk g' h) (by simpa using hl)
  | script ns =>
    obtain ⟨ws, ⟨o, g1, g2, k, g3⟩, q, hl⟩ := I.objs a _ ha
    have hz : sizeLine = 16777216 := rfl
    exact call_list_seq a (.inl rfl) (I.base _ _ g1) g2 g3 (fun h' c' hk g' => fin q (by lia) hk g' h) (by simp; lia)
  | _ => exact h.elim
noncomputable def aIs (T : String) : AV → AH → Option Bool
  | .none, _ => some false
  | .bool _, _ => some (T == "bool" || T == "int")
  | .int _, _ => some (T == "int")
  | .str _, _ => some (T == "str")
  | .ref a, H => match H a with
    | some (.list _) => some (T == "list")
    | some (.tuple _) => some (T == "tuple")
    | _ => none
inductive IsK (T : String) (x : AV) (H : AH) (Q : Bool → Prop) : Prop
  | mk (c : Bool) : aIs T x H = some c → Q c → IsK T x H Q
noncomputable def tIsi (T : String) (t : Tm) : Tm := fun m H Q X => t m H (fun x H1 => IsK T x H1 fun c => Q (.bool c) H1) X
noncomputable def IsiOK (S : St) (T : String) : Prop := ∀ (C : Cx) (A : Around) (v : Value) (av : AV) (H1 : AH) (c : Bool) (Q : Value → Shared → Prop) (E : Value → Shared → Prop) (s1 : Shared), VR v av → Inv S C H1 s1 → aIs T av H1 = some c → Q (.bool c) s1 → (∀ tk, Q (.bool c) { s1 with toks := tk }) → wpAny S.M A (call (.builtin "isinstance") [v, .type T]) Q E s1
theorem isi_ok_list : IsiOK S "list" := by
  intro C A v av H1 c Q E s1 r1 I1 hc fin0 fin
  cases r1 with
  | none => cases hc; exact PySem.IsiPair.NoneType_list (fin _)
  | bool => cases hc; exact PySem.IsiPair.bool_list (fin _)
  | int => cases hc; exact PySem.IsiPair.int_list (fin _)
  | str => cases hc; exact PySem.IsiPair.str_list (fin _)
  | ref a =>
    unfold aIs at hc; dsimp only at hc
    split at hc
    · rename_i ho; obtain ⟨ws, n, g, _⟩ := I1.list ho; cases hc; exact PySem.IsiPair.list_list g rfl fin0
    · rename_i ho; obtain ⟨ws, n, g, _⟩ := I1.tuple ho; cases hc; exact PySem.IsiPair.tuple_list g rfl (fin _)
    · cases hc
theorem isi_ok_str : IsiOK S "str" := by
  intro C A v av H1 c Q E s1 r1 I1 hc fin0 fin
  cases r1 with
  | none => cases hc; exact PySem.IsiPair.NoneType_str (fin _)
  | bool => cases hc; exact PySem.IsiPair.bool_str (fin _)
  | int => cases hc; exact PySem.IsiPair.int_str (fin _)
  | str => cases hc; exact PySem.IsiPair.str_str fin0
  | ref a =>
    unfold aIs at hc; dsimp only at hc
    split at hc
    · rename_i ho; obtain ⟨ws, n, g, _⟩ := I1.list ho; cases hc; exact PySem.IsiPair.list_str g rfl (fin _)
    · rename_i ho; obtain ⟨ws, n, g, _⟩ := I1.tuple ho; cases hc; exact PySem.IsiPair.tuple_str g rfl (fin _)
    · cases hc
theorem isi_ok_bool : IsiOK S "bool" := by
  intro C A v av H1 c Q E s1 r1 I1 hc fin0 fin
  cases r1 with
  | none => cases hc; exact PySem.IsiPair.NoneType_bool (fin _)
  | bool => cases hc; exact PySem.IsiPair.bool_bool fin0
  | int => cases hc; exact PySem.IsiPair.int_bool (fin _)
  | str => cases hc; exact PySem.IsiPair.str_bool (fin _)
  | ref a =>
    unfold aIs at hc; dsimp only at hc
    split at hc
    · rename_i ho; obtain ⟨ws, n, g, _⟩ := I1.list ho; cases hc; exact PySem.IsiPair.list_bool g rfl (fin _)
    · rename_i ho; obtain ⟨ws, n, g, _⟩ := I1.tuple ho; cases hc; exact PySem.IsiPair.tuple_bool g rfl (fin _)
    · cases hc
theorem isi_ok_int : IsiOK S "int" := by
  intro C A v av H1 c Q E s1 r1 I1 hc fin0 fin
  cases r1 with
  | none => cases hc; exact PySem.IsiPair.NoneType_int (fin _)
  | bool => cases hc; exact PySem.IsiPair.bool_int fin0
  | int => cases hc; exact PySem.IsiPair.int_int fin0
  | str => cases hc; exact PySem.IsiPair.str_int (fin _)
  | ref a =>
    unfold aIs at hc; dsimp only at hc
    split at hc
    · rename_i ho; obtain ⟨ws, n, g, _⟩ := I1.list ho; cases hc; exact PySem.IsiPair.list_int g rfl (fin _)
    · rename_i ho; obtain ⟨ws, n, g, _⟩ := I1.tuple ho; cases hc; exact PySem.IsiPair.tuple_int g rfl (fin _)
    · cases hc
theorem sE_isi {e : Expr} {f x : Str} {T : String} {p p2 pos : Pos} {t : Tm} (K : StOK S) (hT : IsiOK S T) (h1 : SoundE S b d sc ρ e t) (hf : sc f = some .globalImplicit) (hm : S.mg f = none) (hv : S.mb f = some (.builtin "isinstance"))
    (hx : sc x = some .globalImplicit) (hmx : S.mg x = none) (hvx : S.mb x = some (.type T)) (hd : (f == ("__debug__" : Str)) = false) (hdx : (x == ("__debug__" : Str)) = false) (hs : noStar [e] = true) :
    SoundE S b d sc ρ (.Call (.Name f p) [e, .Name x p2] [] pos) (tIsi T t) := by
  intro C A env m H Q X E s R O hk V I h hE
  refine wpAny_Call_NameR (load_builtin K O I ((hk f).trans hf) hm hv hd ?_)
  have hs' : noStar [e, .Name x p2] = true := by
    cases e <;> first | rfl | cases hs
  refine Calls.callWith_builtin (backTo_any hs') (evalArgs_of hs' ?_)
  rw [backTo_plain hs']
  refine Calls.spliced_cons (wpAny_mono (h1 C A env m H _ X E s R O hk V I h hE) ?_ fun _ _ x => x)
  rintro v s1 ⟨av, H1, r1, I1, c, hc, q1⟩
  refine Calls.spliced_cons (load_builtin K O I1 ((hk x).trans hx) hmx hvx hdx (Calls.spliced_nil ?_))
  show wpAny S.M A (call (.builtin "isinstance") [v, .type T]) _ E s1
  exact hT C A v av H1 c _ E s1 r1 I1 hc ⟨_, H1, .bool _, I1, q1⟩ fun tk => ⟨_, H1, .bool _, I1.toks tk, q1⟩
end
end Mine
end
-- text A13
section
set_option autoImplicit false
set_option linter.unusedVariables false
namespace Mine
open PySem PySem.Calls PyProof.Rows
section
variable {S : St} {C : Cx} {H : AH} {s : Shared} {A : Around} {env : Env} {ρ : Rho} {m : Mp} {L : List Addr}
end
section
variable {S : St} {d : Nat} {sc : Kd} {ρ : Rho}
end
end Mine
end
-- text A14
section
set_option autoImplicit false
set_option linter.unusedVariables false
namespace Mine
open PySem PySem.Calls PyProof.Rows
section
variable {S : St} {d : Nat} {sc : Kd} {ρ : Rho}
structure ZipAt (z TI TO i1 i2 l1 l2 : Addr) (k : Nat) (f0 : Value) (h : Heap) : Prop where
  z : IsZip h z TI TO f0
  ti : IsPair h TI (.ref i1) (.ref i2)
  to : ∃ a b, IsPair h TO a b
  it1 : h.IsListIter i1 l1 k
  it2 : h.IsListIter i2 l2 k
theorem ZipAt.there {z TI TO i1 i2 l1 l2 : Addr} {k : Nat} {f0 : Value} {h : Heap} (Z : ZipAt z TI TO i1 i2 l1 l2 k f0 h) : ∀ a ∈ [z, TI, TO, i1, i2], ∃ o, h.get? a = some o := by
  obtain ⟨h1, h2, ⟨a, b, h3⟩, ⟨o1, g1, r1⟩, ⟨o2, g2, r2⟩⟩ := Z
  intro x hx
  simp only [List.mem_cons, List.not_mem_nil, or_false] at hx
  rcases hx with rfl | rfl | rfl | rfl | rfl
  · exact ⟨_, h1⟩
  · exact ⟨_, h2⟩
  · exact ⟨_, h3⟩
  · exact ⟨_, g1⟩
  · exact ⟨_, g2⟩
end
end Mine
end
-- text A15
section
set_option autoImplicit false
set_option linter.unusedVariables false
namespace Mine
open PySem PySem.Calls PyProof.Rows
theorem SRs.append {w : World} {a b : List (Int × Value)} {xs ys : List Str} (h : SRs w a xs) (k : SRs w b ys) : SRs w (a ++ b) (xs ++ ys) := by
  induction h with
  | nil => exact k
  | cons ok _ ih => exact .cons ok ih
theorem SRs.perm {w : World} {l l' : List (Int × Value)} (p : l'.Perm l) : ∀ {ys : List Str}, SRs w l ys → ∃ ys', SRs w l' ys' ∧ ys'.Perm ys := by
  induction p with
  | nil => intro ys h; exact ⟨ys, h, .refl _⟩
  | cons x _ ih =>
    intro ys h
    cases h with
    | cons ok h => obtain ⟨ys', q, r⟩ := ih h; exact ⟨_, .cons ok q, r.cons _⟩
  | swap x y l =>
    intro ys h
    cases h with
    | cons ok h => cases h with
      | cons ok' h => exact ⟨_, .cons ok' (.cons ok h), .swap _ _ _⟩
  | trans _ _ ih1 ih2 =>
    intro ys h
    obtain ⟨y1, q1, r1⟩ := ih2 h
    obtain ⟨y2, q2, r2⟩ := ih1 q1
    exact ⟨y2, q2, r2.trans r1⟩
theorem SRs.elems {prog : Program} {w : World} {l : List (Int × Value)} {ys : List Str} (h : SRs w l ys) : ElemsOf (strKind prog w) l := by
  induction h with
  | nil => intro e he; cases he
  | @cons x t vs xs ok _ ih =>
    intro e he
    rcases List.mem_cons.mp he with rfl | he
    · exact ⟨⟨x, by simp [PySem.strKind, Value.isStrOf], rfl⟩, rfl⟩
    · exact ih e he
theorem SRs.mem {prog : Program} {w : World} {l : List (Int × Value)} {ys : List Str} (h : SRs w l ys) (k : Str) : k ∈ ys ↔ ∃ e ∈ l, (strKind prog w).is k e.2 = true := by
  induction h with
  | nil => simp
  | @cons x t vs xs ok _ ih =>
    rw [List.mem_cons, ih]
    constructor
    · rintro (rfl | ⟨e, he, hk⟩)
      · exact ⟨_, .head _, by simp [PySem.strKind, Value.isStrOf]⟩
      · exact ⟨e, .tail _ he, hk⟩
    · rintro ⟨e, he, hk⟩
      rcases List.mem_cons.mp he with rfl | he
      · left
        have q : Value.isStrOf k (.str x t) = true := hk
        simp [Value.isStrOf] at q
        first | exact q | exact q.symm
      · exact .inr ⟨e, he, hk⟩
theorem layNew_led (t : SetTable) (es : Array (Int × Value)) (h : Int) (x : Value) : (layNew t es h x).2.1.led = t.led := by
  unfold layNew
  split
  · dsimp only
    unfold SetTable.orStandIn
    split <;> rfl
  · rfl
theorem relayAll_led (t : SetTable) (es : Array (Int × Value)) (n : Nat) : (relayAll t es n).2.1.led = t.led := by
  unfold relayAll
  split
  · rename_i t' order hr
    dsimp only
    split
    · unfold SetTable.relaid SetTable.laid at hr
      simp only [Option.bind_eq_bind, Option.bind_eq_some_iff] at hr
      obtain ⟨o, _, h⟩ := hr
      cases h; rfl
    · rfl
  · rfl
theorem relayAll_plain (t : SetTable) (es : Array (Int × Value)) (n : Nat) (ht : t.plain = false) : (relayAll t es n).2.1.plain = false := by
  unfold relayAll
  split
  · rename_i t' order hr
    dsimp only
    split
    · unfold SetTable.relaid SetTable.laid at hr
      simp only [Option.bind_eq_bind, Option.bind_eq_some_iff] at hr
      obtain ⟨o, _, h⟩ := hr
      cases h; exact ht
    · rfl
  · rfl
noncomputable def stepAdd (xs : List Str) (x : Str) : List Str := if x ∈ xs then xs else xs ++ [x]
noncomputable def dedup (xs : List Str) : List Str := xs.foldl stepAdd []
section
variable {prog : Program} {w : World} {A : Around} {E : Value → Shared → Prop} {s : Shared}
theorem setAdd_str {a : Addr} {xs : List Str} {x : Str} {t0 : Tok} {Q : Bool → Shared → Prop} (ok : PyData.strOk x = true) (hS : StrSetAt w s.heap a xs) (hroom : xs.length + 1 < scanBound)
    (h : ∀ (r : Bool) h', Heap.SameBut a s.heap h' → StrSetAt w h' a (stepAdd xs x) → Q r { s with heap := h' }) :
    wpAny (model prog w) A (setAddHashed a (.str x t0) (hashStr w x)) Q E s := by
  obtain ⟨es, ep, t, ys, ho, hel, pm, nd, hb, hf, hled, hpl⟩ := hS
  have hlen : es.size = xs.length := by rw [← pm.length_eq, ← hel.length, Array.length_toList]
  have hkey : (strKind prog w).is x (.str x t0) = true := by simp [PySem.strKind, Value.isStrOf]
  have hsc : (Value.str x t0).scannable = true := rfl
  have hE : ElemsOf (strKind prog w) es.toList := hel.elems
  unfold setAddHashed setAddHashedIn
  refine wpAny_holding (wpAny_bind (wpAny_setState_of ho rfl hf ?_))
  dsimp only
  rw [byScan_of hsc hb hE]
  simp only [↓reduceIte]
  unfold setAddByScan
  refine wpAny_bind ?_
  refine wpAny_bind (wpAny_rule ?_)
  refine wpAny_bind (wpAny_setScan_of (knd := strKind prog w) (k := x) hkey ho rfl hf hE ?_)
  cases hr : List.findIdx? (fun e => (strKind prog w).is x e.2) es.toList with
  | some j =>
    dsimp only
    obtain ⟨hj, hpj, _⟩ := List.findIdx?_eq_some_iff_getElem.mp hr
    have hx : x ∈ xs := pm.mem_iff.mp ((hel.mem (prog := prog) x).mpr ⟨es.toList[j], List.getElem_mem hj, hpj⟩)
    refine wpAny_pure (wpAny_pure ?_)
    have e : s = { s with heap := s.heap } := by cases s; rfl
    rw [e]
    refine h _ s.heap (Heap.SameBut.refl a s.heap) ?_
    unfold stepAdd; rw [if_pos hx]
    exact ⟨es, ep, t, ys, ho, hel, pm, nd, hb, hf, hled, hpl⟩
  | none =>
    dsimp only
    have hx : x ∉ xs := fun hx => by
      obtain ⟨e, he, hp⟩ := (hel.mem (prog := prog) x).mp (pm.mem_iff.mpr hx)
      have := List.findIdx?_eq_none_iff.mp hr e he; rw [hp] at this; exact Bool.noConfusion this
    have hgw : ∀ (b : Bool) {s₁ : Shared} {Q' : Unit → Shared → Prop}, Q' () s₁ → wpAny (model prog w) A (match b with | true => rule "set.scan.the-table-gave-way" | false => pure ()) Q' E s₁ :=
      fun b s₁ Q' hq => by cases b <;> first | exact wpAny_pure hq | exact wpAny_rule hq
    have hperm := layNew_perm t es (hashStr w x) (.str x t0)
    have hfits := layNew_fits t es (hashStr w x) (.str x t0)
    have hled1 := layNew_led t es (hashStr w x) (.str x t0)
    generalize hL : layNew t es (hashStr w x) (.str x t0) = L at hperm hfits hled1 ⊢
    obtain ⟨es1, t1, wasDummy, gave⟩ := L
    dsimp only at hperm hfits hled1 ⊢
    rw [Array.toList_push] at hperm
    obtain ⟨ys1, hel1, pm1⟩ := SRs.perm hperm (hel.append (.cons ok .nil))
    have hsz1 : es1.size = es.size + 1 := by rw [← Array.length_toList, hperm.length_eq, List.length_append, Array.length_toList]; rfl
    have hb1' : es1.size < scanBound := by lia
    have pmx : ys1.Perm (xs ++ [x]) := pm1.trans (pm.append_right _)
    have ndx : (xs ++ [x]).Nodup := by
      rw [List.nodup_append]
      refine ⟨nd, List.nodup_cons.mpr ⟨by simp, List.nodup_nil⟩, fun a ha b hb => ?_⟩
      rw [List.mem_singleton.mp hb]; exact fun e => hx (e ▸ ha)
    have estep : stepAdd xs x = xs ++ [x] := by unfold stepAdd; rw [if_neg hx]
    refine wpAny_bind (hgw _ ?_)
    have tail : ∀ {t2 : SetTable}, t2.fits es1.size = true → (w.params.followText "set-order" = true ∨ t2.led = true) → t2.plain = false → ∀ {g : Bool → Sem Unit}, (∀ (b : Bool) (s₁ : Shared) (Q' : Unit → Shared → Prop), Q' () s₁ → wpAny (model prog w) A (g b) Q' E s₁) →
        wpAny (model prog w) A (do
          storeSet a es1 t2
          if (!wasDummy && t2.tooFull) = true then do
              g (relayAll t2 es1 (SetTable.grown es1.size)).2.2
              storeSet a (relayAll t2 es1 (SetTable.grown es1.size)).1 (relayAll t2 es1 (SetTable.grown es1.size)).2.1
              pure (some true)
            else pure (some true)) (fun r s' => wpAny (model prog w) A (match r with | some added => pure added | none => setAddHashedIn a (.str x t0) (hashStr w x) 99999) Q E s') E s := by
      intro t2 hf2 hl2 hp2 g hg
      refine wpAny_bind (wpAny_storeSet_of ho rfl ?_ (fits_of_scanBound hb1'))
      have ho1 : (s.heap.update a (Obj.putSet es1 t2)).get? a = some { cls := .type "set", data := .set es1 (ep + 1) t2 } := by
        have := Heap.get?_update_self (Obj.putSet es1 t2) ho (by rw [putSet_of es1 t2 rfl]; rfl)
        rw [putSet_of es1 t2 rfl] at this; exact this
      have hsb1 := Heap.SameBut.update s.heap a (Obj.putSet es1 t2)
      split
      · have hp := relayAll_perm t2 es1 (SetTable.grown es1.size)
        have hfr := relayAll_fits t2 es1 (SetTable.grown es1.size)
        have hlr := relayAll_led t2 es1 (SetTable.grown es1.size)
        have hpr := relayAll_plain t2 es1 (SetTable.grown es1.size) hp2
        generalize hRl : relayAll t2 es1 (SetTable.grown es1.size) = Rl at hp hfr hlr hpr ⊢
        obtain ⟨es2, t3, gave2⟩ := Rl
        dsimp only at hp hfr hlr hpr ⊢
        obtain ⟨ys2, hel2, pm2⟩ := SRs.perm hp hel1
        have hsz : es2.size = es1.size := by rw [← Array.length_toList, hp.length_eq, Array.length_toList]
        refine wpAny_bind (hg _ _ _ ?_)
        refine wpAny_bind (wpAny_storeSet_of ho1 rfl ?_ (fits_of_scanBound (by lia)))
        have ho2 : ((s.heap.update a (Obj.putSet es1 t2)).update a (Obj.putSet es2 t3)).get? a = some { cls := .type "set", data := .set es2 (ep + 1 + 1) t3 } := by
          have := Heap.get?_update_self (Obj.putSet es2 t3) ho1 (by rw [putSet_of es2 t3 rfl]; rfl)
          rw [putSet_of es2 t3 rfl] at this; exact this
        refine wpAny_pure (wpAny_pure (h _ _ (hsb1.trans (Heap.SameBut.update _ a _)) ?_))
        rw [estep]
        exact ⟨es2, _, t3, ys2, ho2, hel2, pm2.trans pmx, ndx, by lia, hfr, hlr ▸ hl2, fun _ => hpr⟩
      · refine wpAny_pure (wpAny_pure (h _ _ hsb1 ?_))
        rw [estep]
        exact ⟨es1, _, t2, ys1, ho1, hel1, pmx, ndx, hb1', hf2, hl2, fun _ => hp2⟩
    have hl1 : w.params.followText "set-order" = true ∨ t1.led = true := hled1 ▸ hled
    split
    · refine wpAny_bind ?_
      rw [hashByValue_scannable 8 hsc]
      refine wpAny_pure ?_
      refine tail (t2 := { t1 with plain := false }) ?_ hl1 rfl ?_
      · exact SetTable.fits_plain_off hfits
      · intro b s₁ Q' hq; cases b <;> first | exact wpAny_pure hq | exact wpAny_rule hq
    · rename_i hpn
      refine wpAny_bind (wpAny_pure ?_)
      simp only [↓reduceIte]
      refine tail hfits hl1 (by simpa using hpn) ?_
      intro b s₁ Q' hq; cases b <;> first | exact wpAny_pure hq | exact wpAny_rule hq
end
end Mine
end
-- text A16
section
set_option autoImplicit false
set_option linter.unusedVariables false
namespace Mine
open PySem PySem.Calls PyProof.Rows
set_option maxRecDepth 100000
section
variable {prog : Program} {w : World} {A : Around} {E : Value → Shared → Prop} {s : Shared}
theorem set_new_1 (a : Value) {Q₁ : Value → Shared → Prop}
    (h : Q₁ (.ref s.heap.objs.size) { s with heap := s.heap.push { cls := .type "set", dict := none, data := .set #[] 0 (.fresh 0 0 (!w.params.followText "set-order")) } }) :
    codeAny (model prog w) A (.call (.builtin "set.__new__") ⟨[.type "set", a], []⟩) (wants Q₁ E) s := by
  refine codeAny_of_tree ?_
  show wpAny _ A.in1 (do checkBuiltinCall "set.__new__" ⟨[.type "set", a], []⟩; again (.builtin "set.__new__" ⟨[.type "set", a], []⟩)) _ _ s
  refine wpAny_bind (wpAny_of_eq (PySem.F.newCall_set_1 a) (wpAny_pure ⟨plainId_quiet PySem.F.plain_set_new _, codeAny_builtin PySem.F.entry_set_new ?_⟩))
  rw [Around.under_plainId PySem.F.plain_set_new _]
  unfold Builtin.«set.__new__» Builtin.Frozenset.newClass
  have hsub := sub_set_self
  obtain ⟨hp, g, d, tk, os⟩ := s
  dsimp only
  wp_walk
  refine wpAny_askSetting (wpAny_pure ?_)
  dsimp only
  simp only [newObj]
  refine wpAny_bind (wpAny_alloc (wpAny_pure ?_))
  exact wpAny_pure h
noncomputable def firstS (xs : List Str) (i : Nat) : List Str := dedup (xs.take i)
theorem firstS_succ {xs : List Str} {i : Nat} {x : Str} (h : xs[i]? = some x) : firstS xs (i + 1) = stepAdd (firstS xs i) x := by
  unfold firstS dedup
  rw [List.take_add_one, h, List.foldl_append]; rfl
theorem stepAdd_le (xs : List Str) (x : Str) : (stepAdd xs x).length ≤ xs.length + 1 := by
  unfold stepAdd; split <;> simp
theorem firstS_le (xs : List Str) : ∀ i, (firstS xs i).length ≤ i
  | 0 => by simp [firstS, dedup]
  | i + 1 => by
    cases h : xs[i]? with
    | none =>
      have : firstS xs (i + 1) = firstS xs i := by unfold firstS; rw [List.take_add_one, h]; simp
      rw [this]; exact Nat.le_succ_of_le (firstS_le xs i)
    | some x => rw [firstS_succ h]; exact Nat.le_trans (stepAdd_le _ _) (Nat.succ_le_succ (firstS_le xs i))
theorem StrSetAt.of_get {h h' : Heap} {a : Addr} {xs : List Str} (x : StrSetAt w h a xs) (e : ∀ o, h.get? a = some o → h'.get? a = some o) : StrSetAt w h' a xs := by
  obtain ⟨es, ep, t, ys, h1, r2, r3, r4, r5, r6, r7, r8⟩ := x; exact ⟨es, ep, t, ys, e _ h1, r2, r3, r4, r5, r6, r7, r8⟩
theorem set_loop {R : Result → Shared → Prop} {I : Addr} {fp wr : List Addr} {G : Array GenState → Array GenState → Prop} {n : Nat} {P : Nat → Value → Prop} {St : Nat → Shared → Prop}
    (W : WalksS prog w A.in1 I fp wr G n P St) (Sa : Addr) (hSf : Sa ∉ fp) (xs : List Str) (hn : xs.length = n)
    (hval : ∀ i v, P i v → ∃ x t, xs[i]? = some x ∧ v = .str x t ∧ PyData.strOk x = true) (hb : n + 1 < scanBound) :
    ∀ (k i : Nat) (s : Shared), n - i = k → i ≤ n → St i s → StrSetAt w s.heap Sa (firstS xs i) →
      (∀ s', Moved (Sa :: wr) G s s' → StrSetAt w s'.heap Sa (firstS xs n) → R (.ok (.ret .none)) s') →
      codeAny (model prog w) A (.builtin "set.update.loop" ⟨[.ref Sa, .ref I], []⟩) R s := by
  have hSw : Sa ∉ wr := fun h => hSf (W.sub _ h)
  have hsub : ∀ b ∈ wr, b ∈ Sa :: wr := fun b hb => List.mem_cons_of_mem _ hb
  intro k
  induction k with
  | zero =>
    intro i s hk hi hst hS hR
    have hin : i = n := by lia
    subst hin
    refine codeAny_builtin PyProof.Rows.F.entry_set_update_loop ?_
    rw [Around.under_plainId PyProof.Rows.F.plain_set_update_loop _]
    show wpAny _ A.in1 (pyNext (.ref I) >>= _) _ _ s
    refine wpAny_bind (W.done s _ _ hst fun s' hm => ?_)
    show wpAny _ A.in1 (ret Value.none) _ _ s'
    exact wpAny_pure (hR s' (hm.mono hsub) (hS.of_get fun o e => hm.heap Sa _ hSw e))
  | succ k ih =>
    intro i s hk hi hst hS hR
    have hlt : i < n := by lia
    refine codeAny_builtin PyProof.Rows.F.entry_set_update_loop ?_
    rw [Around.under_plainId PyProof.Rows.F.plain_set_update_loop _]
    show wpAny _ A.in1 (pyNext (.ref I) >>= _) _ _ s
    refine wpAny_bind (W.item i s _ _ hlt hst fun v s' hP hst' hm => ?_)
    obtain ⟨x, t, hx, rfl, ok⟩ := hval i v hP
    have hS' : StrSetAt w s'.heap Sa (firstS xs i) := hS.of_get fun o e => hm.heap Sa _ hSw e
    show wpAny _ A.in1 (holding [Value.str x t] (setAdd Sa (.str x t)) >>= _) _ _ s'
    refine wpAny_bind (wpAny_holding ?_)
    unfold setAdd
    refine wpAny_holding ?_
    refine wpAny_bind ((PySem.strKind prog w).pyHash (k := x) (by simp [PySem.strKind, Value.isStrOf]) ?_)
    have hroom : (firstS xs i).length + 1 < scanBound := by have := firstS_le xs i; lia
    refine setAdd_str (s := { s' with toks := s'.toks + 1 }) ok hS' hroom fun r h' hsb hS2 => ?_
    have hSi : StrSetAt w h' Sa (firstS xs (i + 1)) := by rw [firstS_succ hx]; exact hS2
    refine wpAny_pure ⟨plainId_quiet PyProof.Rows.F.plain_set_update_loop _, ih (i + 1) _ (by lia) hlt (W.frame _ s' _ _ hst' (Nat.le_succ _) fun b hb o e => ?_) hSi fun s'' hm'' hS'' => ?_⟩
    · rw [hsb.2 b (fun h : b = Sa => hSf (by rw [← h]; exact hb))]; exact e
    · refine hR s'' (Moved.trans W.gtrans ((hm.mono hsub).then_heap (Nat.le_succ _) fun b o hb e => ?_) hm'') hS''
      rw [hsb.2 b (fun h : b = Sa => hb (by rw [h]; exact List.mem_cons_self))]; exact e
theorem fresh_set {h : Heap} {a : Addr} (hg : h.get? a = some { cls := .type "set", dict := none, data := .set #[] 0 (.fresh 0 0 (!w.params.followText "set-order")) }) : StrSetAt w h a [] := by
  refine ⟨#[], 0, _, [], hg, .nil, .refl _, List.nodup_nil, by decide, rfl, ?_, fun h => absurd rfl h⟩
  cases q : w.params.followText "set-order" with
  | true => exact .inl rfl
  | false => exact .inr rfl
set_option maxHeartbeats 3200000 in
theorem call_set_strs {l : Addr} {vs : List Value} {n0 : Nat} {xs : List Str} {Q : Value → Shared → Prop}
    (hh : A.handled = none) (hl0 : s.heap.get? l = some { cls := .type "list", data := .seq vs.toArray n0 }) (hi : VRs vs (xs.map AV.str)) (hb : vs.length + 1 < scanBound)
    (h : ∀ (h' : Heap) (tk : Nat), StrSetAt w h' s.heap.objs.size (dedup xs) →
      (∀ b o, s.heap.get? b = some o → h'.get? b = some o) → Q (.ref s.heap.objs.size) { s with heap := h', toks := tk }) :
    wpAny (model prog w) A (call (.type "set") [.ref l]) Q E s := by
  have hl : s.heap.IsList l vs.toArray := ⟨_, hl0, rfl, n0, rfl⟩
  obtain ⟨c, tl, hmro⟩ := PySem.F.called_set.mro
  have hmade := PySem.F.called_set.made
  have hsub := PySem.F.called_set.sub
  refine wpAny_call (codeAny_of_tree ?_)
  show wpAny _ _ (callAny (.type "set") _) _ _ _
  refine wpAny_pure ⟨Code.quiet_builtin _ (by decide +kernel), codeAny_builtin PySem.F.entry_type_call ?_⟩
  rw [Around.under_plain (weight_type_call_type "set" [.ref l] []) rfl]
  have h1 := PySem.F.called_set.notType
  have h2 := PySem.F.called_set.canCreate
  have hct := PySem.F.typeCall_set_1 (.ref l)
  repeat (any_goals (first | assumption | wp_step))
  refine codeAny_mono (set_new_1 (.ref l) (E := E) (Q₁ := fun obj s₁ => obj = .ref s.heap.objs.size ∧ s₁ = { s with heap := s.heap.push { cls := .type "set", dict := none, data := .set #[] 0 (.fresh 0 0 (!w.params.followText "set-order")) } }) ⟨rfl, rfl⟩) fun r s₁ hr => ?_
  cases r with
  | error e => exact hr
  | ok fl =>
    cases fl with
    | ret obj =>
      obtain ⟨rfl, rfl⟩ := hr
      generalize hled : (!w.params.followText "set-order") = led
      have hS : (s.heap.push { cls := .type "set", dict := none, data := .set #[] 0 (.fresh 0 0 led) }).get? s.heap.objs.size = some { cls := .type "set", dict := none, data := .set #[] 0 (.fresh 0 0 led) } := Heap.get?_push_size _ rfl
      have hT : Shared.TypeIs { s with heap := s.heap.push { cls := .type "set", dict := none, data := .set #[] 0 (.fresh 0 0 led) } } (.ref s.heap.objs.size) "set" := ⟨_, hS, rfl⟩
      have hli := PySem.F.called_set.init.lookup
      have hbi := PySem.F.called_set.init.bind (.ref s.heap.objs.size)
      repeat (any_goals (first | assumption | wp_step))
      refine codeAny_mono (codeAny_call_builtin (R := wants (fun r s₂ => r = .none ∧ ∃ h' tk, s₂ = { s with heap := h', toks := tk } ∧
          StrSetAt w h' s.heap.objs.size (dedup xs) ∧
          (∀ b o, s.heap.get? b = some o → h'.get? b = some o)) E) PySem.F.called_set.init.plain PySem.F.entry_set_init (check_set_init_1 hT ?_)) fun r₂ s₂ hr₂ => ?_
      · have hol' : (s.heap.push { cls := .type "set", dict := none, data := .set #[] 0 (.fresh 0 0 led) }).get? l = some { cls := .type "list", dict := none, data := .seq vs.toArray n0, slots := #[] } := Heap.get?_push_of_some _ hl0
        have hsls := PySem.F.sub_list_set
        have hslf := PySem.F.sub_list_frozenset
        have hne : (Value.type "list" == Value.type "dict") = false := by decide
        have hl1 : (s.heap.push { cls := .type "set", dict := none, data := .set #[] 0 (.fresh 0 0 led) }).IsList l vs.toArray := ⟨_, hol', rfl, n0, rfl⟩
        unfold Builtin.«set.__init__» noKeywords Builtin.Frozenset.updateFrom
        generalize hPI : pyIter = PI
        wp_walk
        subst hPI
        refine wpAny_pyIter_list hl1 ?_
        refine wpAny_bind (wpAny_runValue ?_)
        have hlS : l < s.heap.objs.size := Heap.lt_size hl0
        have hh3 : A.in1.in1.in1.handled = none := by simp [hh]
        have hneI : l ≠ (s.heap.push { cls := .type "set", dict := none, data := .set #[] 0 (.fresh 0 0 led) }).objs.size := by
          rw [Heap.size_push]; exact Nat.ne_of_lt (Nat.lt_succ_of_lt hlS)
        have hSf : s.heap.objs.size ∉ [(s.heap.push { cls := .type "set", dict := none, data := .set #[] 0 (.fresh 0 0 led) }).objs.size, l] := by
          rw [Heap.size_push]; simp only [List.mem_cons, List.mem_singleton, List.not_mem_nil, or_false, not_or]
          exact ⟨Nat.ne_of_lt (Nat.lt_succ_self _), Nat.ne_of_gt hlS⟩
        have hval : ∀ (i : Nat) (v : Value), vs.toArray[i]? = some v → ∃ x t, xs[i]? = some x ∧ v = .str x t ∧ PyData.strOk x = true := fun i v hv => by
          obtain ⟨a, e1, r1⟩ := hi.getV (by simpa using hv)
          rw [List.getElem?_map] at e1
          cases hx : xs[i]? with
          | none => rw [hx] at e1; cases e1
          | some x =>
            rw [hx] at e1; cases e1
            obtain ⟨t, rfl, ok⟩ := r1.str_inv
            exact ⟨x, t, rfl, rfl, ok⟩
        have hlen : xs.length = vs.toArray.size := by have := hi.length; rw [List.length_map] at this; rw [List.size_toArray, this]
        have efin : firstS xs vs.toArray.size = dedup xs := by unfold firstS; rw [← hlen, List.take_length]
        refine set_loop ((Walks.list hh3 _ l hneI vs.toArray).toS) s.heap.objs.size
          hSf xs hlen hval (by rw [List.size_toArray]; exact hb) (vs.toArray.size - 0) 0 _ (by lia) (Nat.zero_le _)
          ⟨⟨_, Heap.get?_push_size _ rfl, rfl, rfl⟩, (hl1.push _)⟩ ?hS0 ?hR
        case hS0 =>
          have hget : ((s.heap.push { cls := .type "set", dict := none, data := .set #[] 0 (.fresh 0 0 led) }).push { cls := .type "list_iterator", data := .fields #[.ref l, .int 0 0] }).get? s.heap.objs.size
              = some { cls := .type "set", dict := none, data := .set #[] 0 (.fresh 0 0 led) } := Heap.get?_push_of_some _ hS
          rw [← hled] at hget ⊢
          exact fresh_set hget
        case hR =>
          intro s' hm hS'
          rw [efin] at hS'
          obtain ⟨h', g', d', tk', os'⟩ := s'
          have eg : g' = s.gens := hm.gens
          have ed : d' = s.drawn := hm.drawn
          have eo : os' = s.os := hm.os
          subst eg; subst ed; subst eo
          show wpAny _ _ _ _ _ _
          refine wpAny_pure ?_
          show wpAny _ _ (ret Value.none) _ _ _
          refine wpAny_pure ⟨rfl, h', tk', rfl, hS', fun b o e => ?_⟩
          have hb : b < s.heap.objs.size := Heap.lt_size e
          have hb1 : b ≠ s.heap.objs.size := Nat.ne_of_lt hb
          have hb2 : b ≠ (s.heap.push { cls := .type "set", dict := none, data := .set #[] 0 (.fresh 0 0 led) }).objs.size := by
            rw [Heap.size_push]; exact Nat.ne_of_lt (Nat.lt_succ_of_lt hb)
          exact hm.heap b o (by simp only [List.mem_cons, List.mem_singleton, List.not_mem_nil, or_false, not_or]; exact ⟨hb1, hb2⟩) (Heap.get?_push_of_some _ (Heap.get?_push_of_some _ e))
      · cases r₂ with
        | error e => exact hr₂
        | ok fl₂ =>
          cases fl₂ with
          | ret r =>
            obtain ⟨rfl, h', tk, rfl, hS', hk'⟩ := hr₂
            repeat (any_goals (first | assumption | wp_step))
            exact h _ _ hS' hk'
          | _ => exact hr₂
    | _ => exact hr
end
end Mine
end
-- text A17
section
set_option autoImplicit false
set_option linter.unusedVariables false
namespace Mine
open PySem PySem.Calls PyProof.Rows PySem.W
noncomputable def ltS (x y : Str) : Bool := decide (x.cps.toList < y.cps.toList)
noncomputable def ltL : List Str → List Str → Bool
  | [], [] => false
  | [], _ :: _ => true
  | _ :: _, [] => false
  | a :: r, b :: q => if a = b then ltL r q else ltS a b
noncomputable def insB {α : Type} (lt : α → α → Bool) (x : α) : List α → List α
  | [] => [x]
  | y :: r => if lt x y = true then x :: y :: r else y :: insB lt x r
noncomputable def isort {α : Type} (lt : α → α → Bool) : List α → List α
  | [] => []
  | x :: r => insB lt x (isort lt r)
noncomputable def sortS (xs : List Str) : List Str := isort ltS xs
noncomputable def sortI (xs : List Int) : List Int := isort (fun a b => decide (a < b)) xs
inductive bSetK (vs : List AV) (H : AH) (Q : QV) : Prop
  | mk (a) (xs) : (vs = [.ref a]) → (H a = some (.list (List.map AV.str xs))) → (xs.length ≤ 4000) → (∀ r, H r = none → Q (.ref r) (H.put r (.sset (dedup xs)))) → bSetK vs H Q
noncomputable def bSet : BFn := fun vs H Q => bSetK vs H Q
theorem bSet_ok {S : St} : BFnOK S true (.type "set") bSet := by
  rintro C A vs avs H Q E s hh hu r I ⟨a, xs, rfl, ha, hl, h⟩
  obtain ⟨_, rfl, r0⟩ := r.one
  cases r0.ref_inv
  obtain ⟨ws, n, g, q, _⟩ := I.list ha
  have e := q.length
  rw [List.length_map] at e
  refine call_set_strs (hh rfl) g q (by show ws.length + 1 < 4096; lia) fun h' tk hS hk => ⟨_, _, .ref _, ?_, h _ I.nextNone⟩
  exact I.add (s' := { s with heap := h', toks := tk }) (o := .sset (dedup xs)) (Heap.get?_none_of_le (Nat.le_refl _)) hk hS rfl rfl
structure Pr where
  at_ : Addr
  n : Int
  l : Addr
  xs : List Str
noncomputable def PrAt (H : AH) (p : Pr) : Prop := H p.at_ = some (.tuple [.int p.n, .ref p.l]) ∧ H p.l = some (.list (p.xs.map AV.str))
noncomputable def ltP (p q : Pr) : Bool := if p.n = q.n then ltL p.xs q.xs else decide (p.n < q.n)
noncomputable def bSorted : BFn := fun vs H Q => OneGot vs H fun o => match o with
  | .sset xs => ∀ r, H r = none → Q (.ref r) (H.put r (.list ((sortS xs).map AV.str)))
  | .idict es => ∀ r, H r = none → Q (.ref r) (H.put r (.list ((sortI (es.map (·.1))).map AV.int)))
  | .list vs => (∃ xs, vs = List.map AV.str xs ∧ ∀ r, H r = none → Q (.ref r) (H.put r (.list ((sortS xs).map AV.str)))) ∨
      (∃ ps : List Pr, vs = ps.map (fun p => AV.ref p.at_) ∧ (∀ p ∈ ps, PrAt H p) ∧ ∀ qs : List Pr, qs.Perm ps → qs.Pairwise (fun p q => ltP q p = false) → ∀ r, H r = none → Q (.ref r) (H.put r (.list (qs.map fun p => AV.ref p.at_))))
  | _ => False
noncomputable def fnAt (K : Frag) (a : Addr) : Option FuncData := match K.lookup a with
  | some ⟨_, _, .func fd, _⟩ => some fd
  | _ => none
noncomputable def bodyOf (fd : FuncData) : List Stmt := match fd.body with
  | .stmts b => b
  | _ => []
noncomputable def bodyAt (K : Frag) (a : Addr) : List Stmt := ((fnAt K a).map bodyOf).getD []
noncomputable def scopeAt (K : Frag) (a : Addr) : Scope := ((fnAt K a).map (·.scope)).getD default
noncomputable def scAt (K : Frag) (a : Addr) : Kd := fun x => (scopeAt K a).names.lookup x
theorem fnAt_get {K : Frag} {h : Heap} (X : K.In h) {a : Addr} {fd : FuncData} (e : fnAt K a = some fd) : ∃ o, h.get? a = some o ∧ o.data = .func fd := by
  unfold fnAt at e
  split at e
  · rename_i c d fd' sl hl
    cases e
    exact ⟨_, X _ _ hl, rfl⟩
  · cases e
theorem isDef_of {S : St} {K : Frag} (X : K.In S.base) {a cd : Addr} {ps : List Str} {fd : FuncData} (e : fnAt K a = some fd) (hb : ∃ b, fd.body = .stmts b) (hc : fd.closure = []) (hg : fd.globals = mainGlobals) (hbl : fd.builtins = builtinsNs)
    (hcd : fd.code = .ref cd) (hcr : ∃ o vs t, K.lookup cd = some o ∧ o.data = .fields vs ∧ vs[1]? = some (.str fd.qualname t))
    (hps : ∀ vals : List Value, vals.length = ps.length → bindArgs fd ⟨vals, []⟩ = pure (ps.zip vals)) : IsDef S a fd.name ps (scopeAt K a) (bodyAt K a) := by
  obtain ⟨o, h1, h2⟩ := fnAt_get X e
  obtain ⟨b, hb⟩ := hb
  obtain ⟨oc, vs, t, c1, c2, c3⟩ := hcr
  refine ⟨o, fd, h1, h2, ?_, ?_, hc, hg, hbl, ⟨cd, oc, vs, t, hcd, X _ _ c1, c2, c3⟩, hps, rfl⟩
  · unfold bodyAt; rw [e]; simp [bodyOf, hb]
  · unfold scopeAt; rw [e]; rfl
theorem bind1 {fd : FuncData} {a : Str} (h : ∀ v, bindArgs fd ⟨[v], []⟩ = pure [(a, v)]) (vals : List Value) (hl : vals.length = [a].length) : bindArgs fd ⟨vals, []⟩ = pure ([a].zip vals) := by
  obtain ⟨v, rfl⟩ := List.length_eq_one_iff.mp hl
  exact h v
theorem bind2 {fd : FuncData} {a b : Str} (h : ∀ v w, bindArgs fd ⟨[v, w], []⟩ = pure [(a, v), (b, w)]) (vals : List Value) (hl : vals.length = [a, b].length) : bindArgs fd ⟨vals, []⟩ = pure ([a, b].zip vals) := by
  cases vals with
  | nil => cases hl
  | cons v r =>
    obtain ⟨w, rfl⟩ := List.length_eq_one_iff.mp (Nat.succ.inj hl)
    exact h v w
theorem SoundF.mono {S : St} {b : Bool} {d : Nat} {f : Value} {F G : Fn} (h : SoundF S b d f F) (k : ∀ vs H Q X, G vs H Q X → F vs H Q X) : SoundF S b d f G :=
  fun C A vs avs H Q X s R F' hv I g => h C A vs avs H Q X s R F' hv I (k _ _ _ _ g)
theorem SoundF.deeper {S : St} {b : Bool} {d e : Nat} {f : Value} {F : Fn} (h : SoundF S b d f F) (k : d ≤ e) : SoundF S b e f F :=
  fun C A vs avs H Q X s R F' hv I g => h C A vs avs H Q X s ⟨R.hd, by have := R.depth; lia, by have := R.units; lia⟩ F' hv I g
noncomputable def rhoOK (ρ : Rho) : Bool := ρ.all fun p => ρ.all fun q => (p.1 == q.1) == (p.2 == q.2)
theorem rho_ok {ρ : Rho} (h : rhoOK ρ = true) : RhoOK ρ := by
  intro p hp q hq
  have h1 := List.all_eq_true.mp (List.all_eq_true.mp h p hp) q hq
  have h2 : (p.1 == q.1) = (p.2 == q.2) := by simpa using h1
  constructor
  · intro e
    have : (p.1 == q.1) = true := by simpa using e
    rw [h2] at this; simpa using this
  · intro e
    have : (p.2 == q.2) = true := by simpa using e
    rw [← h2] at this; simpa using this
noncomputable def compAt (scope : Scope) (sc : Kd) (ρ : Rho) (x : Str) (i : Nat) : Bool :=
  (scope.kind == .function) && (scope.names.lookup x == some .local || scope.names.lookup x == some .cell) && (scope.names.all fun p => !(p.2 == .free) || (sc p.1 == some .cell || sc p.1 == some .free)) &&
  decide ((scope.names.map (·.1)).Nodup) && (ρ.all fun p => p.2 != i) && rhoOK ρ
theorem comp_at {scope : Scope} {sc : Kd} {ρ : Rho} {x : Str} {i : Nat} (h : compAt scope sc ρ x i = true) : CompAt scope sc ρ x i := by
  simp only [compAt, Bool.and_eq_true, Bool.or_eq_true, beq_iff_eq, decide_eq_true_eq, List.all_eq_true, bne_iff_ne, Bool.not_eq_true', beq_eq_false_iff_ne] at h
  obtain ⟨⟨⟨⟨⟨h1, h2⟩, h3⟩, h4⟩, h5⟩, h6⟩ := h
  exact ⟨h1, h2, fun p hp e => (h3 p hp).resolve_left fun q => q e, fun z hz e => by rw [← e]; exact nodup_lookup h4 hz, h4, h5, rho_ok h6⟩
theorem or_kd {o : Option NameKind} (h : (o == some .local || o == some .cell) = true) : o = some .local ∨ o = some .cell := by simpa using h
noncomputable def defOK (sc : Scope) (ps : List Str) (is : List Nat) (ρ : Rho) : Bool :=
  decide ps.Nodup && decide is.Nodup && rhoOK ρ && ((ps.zip is).all fun p => ρ.any (· == p)) && (ps.length == is.length) && (ps.all fun p => sc.names.lookup p == some .local || sc.names.lookup p == some .cell) &&
  decide ((sc.names.map (·.1)).Nodup) && (sc.names.all fun p => p.2 != .free) && (sc.kind == .function) && !sc.isCoroutine && !sc.isGenerator
theorem sF_defK {S : St} {b : Bool} {d : Nat} {ρ : Rho} {f : Addr} {name : Str} {ps : List Str} {is : List Nat} {sc : Scope} {body : List Stmt} {t : Ts} (K : StOK S) (hf : IsDef S f name ps sc body) (h : defOK sc ps is ρ = true) (hb : SoundS S b d (fun x => sc.names.lookup x) ρ body t) :
    SoundF S b (d + 1) (.ref f) (mkFn is t) := by
  simp only [defOK, Bool.and_eq_true, decide_eq_true_eq, List.all_eq_true, List.any_eq_true, beq_iff_eq, Bool.or_eq_true, bne_iff_ne, Bool.not_eq_true'] at h
  obtain ⟨⟨⟨⟨⟨⟨⟨⟨⟨⟨h1, h2⟩, h3⟩, h4⟩, h5⟩, h6⟩, h7⟩, h8⟩, h9⟩, h10⟩, h11⟩ := h
  exact sF_def K hf hb h1 h2 (rho_ok h3) (fun p hp => by obtain ⟨q, w1, w2⟩ := h4 p hp; rw [← w2]; exact w1) h5 h6 h7 h8 h9 h10 h11
noncomputable def mgK (K : Frag) (x : Str) : Option Value := match K.lookup 3 with
  | some ⟨_, _, .dict es _, _⟩ => nsFind es x
  | _ => none
structure EnvL (S : St) (K : Frag) : Prop where
  KS : StOK S
  X : K.In S.base
  mg : ∀ x, S.mg x = mgK K x
  mb : ∀ x : Str, x ≠ "__name__" → S.mb x = bootBuiltins x
theorem EnvL.g {S : St} {K : Frag} (E : EnvL S K) {x : Str} {v : Option Value} (h : mgK K x = v) : S.mg x = v := (E.mg x).trans h
theorem EnvL.b {S : St} {K : Frag} (E : EnvL S K) {x : Str} {v : Option Value} (h0 : (x == ("__name__" : Str)) = false) (h : bootBuiltins x = v) : S.mb x = v := (E.mb x (by simpa using h0)).trans h
theorem isFn_of {K : Frag} {h : Heap} (X : K.In h) {a : Addr} (e : (fnAt K a).isSome = true) : ∃ o fd, h.get? a = some o ∧ o.data = .func fd := by
  obtain ⟨fd, e⟩ := Option.isSome_iff_exists.mp e
  obtain ⟨o, h1, h2⟩ := fnAt_get X e
  exact ⟨o, fd, h1, h2⟩
theorem sE_callD {S : St} {b : Bool} {d : Nat} {sc : Kd} {ρ : Rho} {f : Str} {a : Addr} {args : List Expr} {p pos : Pos} {F : Fn} {ts : Tms} (K : StOK S) (hF : SoundF S b d (.ref a) F) (h1 : SoundEs S b d sc ρ args ts) (hx : sc f = some .globalImplicit)
    (hv : S.mg f = some (.ref a)) (ho : ∃ o fd, S.base.get? a = some o ∧ o.data = .func fd) (hd : (f == ("__debug__" : Str)) = false) (hs : noStar args = true) :
    SoundE S b d sc ρ (.Call (.Name f p) args [] pos) (tCall F ts) := by
  obtain ⟨o, fd, h2, h3⟩ := ho
  exact sE_call K hF h1 hx hv h2 h3 hd hs
noncomputable def avOf : Value → Option AV
  | .none => some .none
  | .bool b => some (.bool b)
  | .int i _ => some (.int i)
  | .str x _ => if PyData.strOk x = true then some (.str x) else none
  | _ => none
theorem sE_constK {S : St} {b : Bool} {d : Nat} {sc : Kd} {ρ : Rho} {K : Frag} {x : Str} {pos : Pos} {av : AV} (E : EnvL S K) (hx : sc x = some .globalImplicit) (hv : (mgK K x).bind avOf = some av) (hd : (x == ("__debug__" : Str)) = false) :
    SoundE S b d sc ρ (.Name x pos) (tVal av) := by
  cases e : mgK K x with
  | none => rw [e] at hv; cases hv
  | some v =>
    rw [e] at hv
    refine sE_const E.KS hx (E.g e) ?_ hd
    cases v <;> simp [avOf] at hv
    · subst hv; exact .none
    · subst hv; exact .bool _
    · subst hv; exact .int _ _
    · obtain ⟨ok, rfl⟩ := hv; exact .str _ _ ok
end Mine
end
-- text T1
section
set_option autoImplicit false
set_option linter.unusedVariables false
namespace Mine
open PySem PyProof.Rows
noncomputable abbrev SM := StateT SortSt Sem
noncomputable def gallopP : Bool → Keyed → Array Keyed → Nat → Nat → Nat → SM (Option Nat) := sortPriv% PySem.Builtin.gallop
noncomputable def mergeLoP : Array Keyed → Array Keyed → SM (Array Keyed) := sortPriv% PySem.Builtin.mergeLo
noncomputable def mergeHiP : Array Keyed → Array Keyed → SM (Array Keyed) := sortPriv% PySem.Builtin.mergeHi
noncomputable def mergeAtP : Nat → SM Bool := sortPriv% PySem.Builtin.mergeAt
noncomputable def minRunP : Nat → Nat → Nat → Nat := sortPriv% PySem.Builtin.minRun
noncomputable def powerP : Nat → Nat → Nat → Nat → Nat := sortPriv% PySem.Builtin.power
noncomputable def sortRunsP : SM Unit := sortPriv% PySem.Builtin.sortRuns
noncomputable def countRunP : Nat → Nat → SM (Option Nat) := sortPriv% PySem.Builtin.countRun
noncomputable def binarySortP : Nat → Nat → Nat → SM Bool := sortPriv% PySem.Builtin.binarySort
noncomputable def beyondP (left : Bool) (key : Keyed) (arr : Array Keyed) (base i : Nat) : SM (Option Bool) := do
  let x ← elem' arr (base + i)
  if left then lt' x key else return (← lt' key x).map (!·)
noncomputable abbrev GT := Option (Option Nat) × Nat × Nat
noncomputable def glFinB (left : Bool) (key : Keyed) (arr : Array Keyed) (base lo hi : Nat) : SM (ForInStep GT) :=
  if lo ≥ hi then pure (ForInStep.done (none, lo, hi)) else do
    let some more ← beyondP left key arr base (lo + (hi - lo) / 2) | pure (ForInStep.done (some none, lo, hi))
    if more = true then pure (ForInStep.yield (none, lo + (hi - lo) / 2 + 1, hi)) else pure (ForInStep.yield (none, lo, lo + (hi - lo) / 2))
noncomputable def glFin (left : Bool) (key : Keyed) (arr : Array Keyed) (base n lo hi : Nat) : SM (Option Nat) := do
  let r ← forIn [:n] ((none, lo, hi) : GT) fun _ c => glFinB left key arr base c.2.1 c.2.2
  match r.1 with
  | some r => pure r
  | none => pure (some r.2.2)
noncomputable def glUpB (left : Bool) (key : Keyed) (arr : Array Keyed) (base hint mx l o : Nat) : SM (ForInStep GT) :=
  if o ≥ mx then pure (ForInStep.done (none, l, o)) else do
    let some more ← beyondP left key arr base (hint + o) | pure (ForInStep.done (some none, l, o))
    if (!more) = true then pure (ForInStep.done (none, l, o)) else pure (ForInStep.yield (none, o, 2 * o + 1))
noncomputable def glDnB (left : Bool) (key : Keyed) (arr : Array Keyed) (base hint mx l o : Nat) : SM (ForInStep GT) :=
  if o ≥ mx then pure (ForInStep.done (none, l, o)) else do
    let some found ← beyondP left key arr base (hint - o) | pure (ForInStep.done (some none, l, o))
    if found = true then pure (ForInStep.done (none, l, o)) else pure (ForInStep.yield (none, o, 2 * o + 1))
noncomputable def glUp (left : Bool) (key : Keyed) (arr : Array Keyed) (base n hint mx : Nat) : SM (Option Nat) := do
  let r ← forIn [:n] ((none, 0, 1) : GT) fun _ c => glUpB left key arr base hint mx c.2.1 c.2.2
  match r.1 with
  | some r => pure r
  | none => glFin left key arr base n (hint + r.2.1 + 1) (hint + min r.2.2 mx)
noncomputable def glDn (left : Bool) (key : Keyed) (arr : Array Keyed) (base n hint mx : Nat) : SM (Option Nat) := do
  let r ← forIn [:n] ((none, 0, 1) : GT) fun _ c => glDnB left key arr base hint mx c.2.1 c.2.2
  match r.1 with
  | some r => pure r
  | none => glFin left key arr base n (hint + 1 - min r.2.2 mx) (hint - r.2.1)
theorem gallopP_eq (left : Bool) (key : Keyed) (arr : Array Keyed) (base n hint : Nat) : gallopP left key arr base n hint = (do
  let some right ← beyondP left key arr base hint | return none
  if right = true then glUp left key arr base n hint (n - hint) else glDn left key arr base n hint (hint + 1)) := by kernel_rfl
section
variable {M : Model} {A : Around} {E : Value → Shared → Prop} {s : Shared}
theorem wpS_ite {α : Type} {c : Prop} [Decidable c] {t e : SM α} {Q : α → SortSt → Prop} {st : SortSt} (h1 : c → wpS M A E s t Q st) (h2 : ¬ c → wpS M A E s e Q st) : wpS M A E s (if c then t else e) Q st := by
  split
  · exact h1 ‹_›
  · exact h2 ‹_›
inductive GlP (f : Nat → Bool) (n : Nat) (k : Nat) : Prop
  | mk : k ≤ n → (∀ i, i < k → f i = true) → (∀ i, k ≤ i → i < n → f i = false) → GlP f n k
structure GfI (f : Nat → Bool) (n d lo hi : Nat) : Prop where
  le : lo ≤ hi
  hn : hi ≤ n
  d : d + hi ≤ lo + n
  lo : ∀ i, i < lo → f i = true
  hi : ∀ i, hi ≤ i → i < n → f i = false
inductive GfJ (f : Nat → Bool) (n d : Nat) (st : SortSt) : GT → SortSt → Prop
  | mk (lo hi : Nat) : GfI f n d lo hi → GfJ f n d st (none, lo, hi) st
inductive GfQ (f : Nat → Bool) (n : Nat) (st : SortSt) : GT → SortSt → Prop
  | mk (lo hi : Nat) : GlP f n hi → GfQ f n st (none, lo, hi) st
theorem mid_lt {lo hi : Nat} (h : lo < hi) : lo ≤ lo + (hi - lo) / 2 ∧ lo + (hi - lo) / 2 < hi := by lia
theorem GfI.end {f : Nat → Bool} {n d lo hi : Nat} (h : GfI f n d lo hi) (e : hi ≤ lo) : GlP f n hi := by
  cases Nat.le_antisymm h.le e
  exact ⟨h.hn, h.lo, h.hi⟩
noncomputable def Bey (M : Model) (A : Around) (E : Value → Shared → Prop) (s : Shared) (left : Bool) (key : Keyed) (arr : Array Keyed) (base n : Nat) (f : Nat → Bool) (st : SortSt) : Prop :=
  ∀ i, i < n → ∀ Q : Option Bool → SortSt → Prop, Q (some (f i)) st → wpS M A E s (beyondP left key arr base i) Q st
theorem wpS_glFin {left : Bool} {key : Keyed} {arr : Array Keyed} {base n : Nat} {st : SortSt} {Q : Option Nat → SortSt → Prop} {f : Nat → Bool} (hb : Bey M A E s left key arr base n f st)
    (hm : ∀ i j, i ≤ j → j < n → f j = true → f i = true) (hm' : ∀ i j, i ≤ j → j < n → f i = false → f j = false) (hQ : ∀ k, GlP f n k → Q (some k) st) {lo hi : Nat} (h : GfI f n 0 lo hi) : wpS M A E s (glFin left key arr base n lo hi) Q st := by
  refine wpS_bind (wpS_mono (Q := GfQ f n st) (wpS_forRange (fun j => GfJ f n j st) ?_ ?_ (.mk lo hi h)) ?_)
  · rintro j _ _ _ hj ⟨lo, hi, h⟩
    refine wpS_ite (fun hge => wpS_pure (.mk lo hi (h.end hge))) fun hge => ?_
    obtain ⟨m1, m2⟩ := mid_lt (Nat.not_le.mp hge)
    dsimp only at m1 m2 ⊢
    generalize lo + (hi - lo) / 2 = m at m1 m2 ⊢
    have hmn := Nat.lt_of_lt_of_le m2 h.hn
    have hd := h.d
    refine wpS_bind (hb _ hmn _ ?_)
    refine wpS_ite (fun q => ?_) fun q => ?_
    · exact wpS_pure (.mk _ _ ⟨m2, h.hn, by lia, fun i hi' => hm i _ (Nat.le_of_lt_succ hi') hmn q, h.hi⟩)
    · exact wpS_pure (.mk _ _ ⟨m1, Nat.le_of_lt hmn, by lia, h.lo, fun i hi1 hi2 => hm' _ i hi1 hi2 (eq_false_of_ne_true q)⟩)
  · rintro _ _ ⟨lo, hi, h⟩
    have := h.d
    rw [Nat.max_eq_right (Nat.zero_le n), Nat.add_comm n] at this
    exact .mk lo hi (h.end (Nat.le_of_add_le_add_right this))
  · rintro _ _ ⟨lo, hi, h⟩
    exact wpS_pure (hQ _ h)
inductive GlJ (g : Nat → Bool) (mx j : Nat) (st : SortSt) : GT → SortSt → Prop
  | mk (l o : Nat) : j < o → l < o → l < mx → g l = true → GlJ g mx j st (none, l, o) st
inductive GlQ (g : Nat → Bool) (mx : Nat) (st : SortSt) : GT → SortSt → Prop
  | mk (l o : Nat) : l < o → l < mx → g l = true → (mx ≤ o ∨ o ≤ mx ∧ g o = false) → GlQ g mx st (none, l, o) st
theorem wpS_glS {body : Nat → Nat → SM (ForInStep GT)} {g : Nat → Bool} {mx n : Nat} {st : SortSt} (hn : mx ≤ n) (h0 : 0 < mx) (g0 : g 0 = true)
    (hB : ∀ l o (Q : ForInStep GT → SortSt → Prop), (mx ≤ o ∨ o ≤ mx ∧ g o = false → Q (.done (none, l, o)) st) → (o < mx → g o = true → Q (.yield (none, o, 2 * o + 1)) st) → wpS M A E s (body l o) Q st) :
    wpS M A E s (forIn [:n] ((none, 0, 1) : GT) fun _ c => body c.2.1 c.2.2) (GlQ g mx st) st := by
  refine wpS_forRange (fun j => GlJ g mx j st) ?_ ?_ (.mk 0 1 (Nat.lt_succ_self _) (Nat.lt_succ_self _) h0 g0)
  · rintro j _ _ _ hj ⟨l, o, h1, h2, h3, h4⟩
    exact hB l o _ (fun q => .mk l o h2 h3 h4 q) fun q1 q2 => .mk o (2 * o + 1) (by lia) (by lia) q1 q2
  · rintro _ _ ⟨l, o, h1, h2, h3, h4⟩
    exact .mk l o h2 h3 h4 (.inl (Nat.le_trans hn (Nat.le_trans (Nat.le_max_right 0 n) (Nat.le_of_lt h1))))
theorem wpS_gallop {left : Bool} {key : Keyed} {arr : Array Keyed} {base n hint : Nat} {st : SortSt} {Q : Option Nat → SortSt → Prop} (f : Nat → Bool)
    (hb : ∀ i, i < n → ∀ Q : Option Bool → SortSt → Prop, Q (some (f i)) st → wpS M A E s (beyondP left key arr base i) Q st)
    (hm : ∀ i j, i ≤ j → j < n → f j = true → f i = true) (hh : hint < n)
    (hQ : ∀ k, k ≤ n → (∀ i, i < k → f i = true) → (∀ i, k ≤ i → i < n → f i = false) → Q (some k) st) : wpS M A E s (gallopP left key arr base n hint) Q st := by
  have hm' : ∀ i j, i ≤ j → j < n → f i = false → f j = false := fun i j hij hj hf => eq_false_of_ne_true fun q => by rw [hm i j hij hj q] at hf; cases hf
  have hQ' : ∀ k, GlP f n k → Q (some k) st := fun k h => hQ k h.1 h.2 h.3
  have hh' := Nat.le_of_lt hh
  rw [gallopP_eq]
  refine wpS_bind (hb hint hh _ ?_)
  refine wpS_ite (fun q0 => ?_) fun q0 => ?_
  · refine wpS_bind (wpS_mono (wpS_glS (g := fun o => f (hint + o)) (Nat.sub_le n hint) (Nat.sub_pos_of_lt hh) q0 fun l o Q h1 h2 => ?_) ?_)
    · refine wpS_ite (fun c => wpS_pure (h1 (.inl c))) fun c => wpS_bind (hb _ (Nat.add_lt_of_lt_sub' (Nat.not_le.mp c)) _ (wpS_ite (fun q => wpS_pure (h1 (.inr ⟨Nat.le_of_not_le c, (Bool.not_eq_true' _).mp q⟩))) fun q => wpS_pure (h2 (Nat.not_le.mp c) ?_)))
      exact eq_true_of_ne_false fun e => q ((Bool.not_eq_true' _).mpr e)
    · rintro _ _ ⟨l, o, h2, h3, h4, h5⟩
      have k2 : hint + min o (n - hint) ≤ n := Nat.le_trans (Nat.add_le_add_left (Nat.min_le_right o _) hint) (Nat.le_of_eq (Nat.add_sub_cancel' hh'))
      refine wpS_glFin hb hm hm' hQ' ⟨Nat.add_le_add_left (Nat.le_min.mpr ⟨h2, h3⟩) hint, k2, by rw [Nat.zero_add]; exact Nat.le_trans k2 (Nat.le_add_left n _), fun i hi => hm i (hint + l) (Nat.le_of_lt_succ hi) (Nat.add_lt_of_lt_sub' h3) h4, fun i hi1 hi2 => ?_⟩
      rcases h5 with h5 | ⟨h5, h6⟩
      · rw [Nat.min_eq_right h5, Nat.add_sub_cancel' hh'] at hi1; exact absurd hi2 (Nat.not_lt.mpr hi1)
      · rw [Nat.min_eq_left h5] at hi1
        exact hm' (hint + o) i hi1 hi2 h6
  · refine wpS_bind (wpS_mono (wpS_glS (g := fun o => !f (hint - o)) hh (Nat.succ_pos hint) (by rw [Nat.sub_zero, eq_false_of_ne_true q0]; rfl) fun l o Q h1 h2 => ?_) ?_)
    · refine wpS_ite (fun c => wpS_pure (h1 (.inl c))) fun c => wpS_bind (hb _ (Nat.lt_of_le_of_lt (Nat.sub_le _ _) hh) _ (wpS_ite (fun q => wpS_pure (h1 (.inr ⟨Nat.le_of_not_le c, by rw [q]; rfl⟩))) fun q => wpS_pure (h2 (Nat.not_le.mp c) ?_)))
      rw [eq_false_of_ne_true q]; rfl
    · rintro _ _ ⟨l, o, h2, h3, h4, h5⟩
      have k2 : hint - l ≤ n := Nat.le_trans (Nat.sub_le _ _) hh'
      refine wpS_glFin hb hm hm' hQ' ⟨Nat.le_trans (Nat.sub_le_sub_left (Nat.le_min.mpr ⟨h2, h3⟩) (hint + 1)) (Nat.le_of_eq (Nat.add_sub_add_right hint 1 l)), k2, by rw [Nat.zero_add]; exact Nat.le_trans k2 (Nat.le_add_left n _), fun i hi => ?_, fun i hi1 hi2 => hm' (hint - l) i hi1 hi2 ((Bool.not_eq_true' _).mp h4)⟩
      rcases h5 with h5 | ⟨h5, h6⟩
      · rw [Nat.min_eq_right h5, Nat.sub_self] at hi; exact absurd hi (Nat.not_lt_zero _)
      · rw [Nat.min_eq_left h5] at hi
        exact hm i (hint - o) (Nat.le_sub_of_add_le (Nat.le_of_lt_succ (Nat.add_lt_of_lt_sub hi))) (Nat.lt_of_le_of_lt (Nat.sub_le _ _) hh) ((Bool.not_eq_false' _).mp h6)
end
end Mine
end
-- text T2
section
set_option autoImplicit false
set_option linter.unusedVariables false
namespace Mine
open PySem PyProof.Rows
structure Ord {α : Type} (L : α → α → Bool) : Prop where
  asym : ∀ x y, L x y = true → L y x = false
  trans : ∀ x y z, L y x = false → L z y = false → L z x = false
theorem Ord.refl {α : Type} {L : α → α → Bool} (h : Ord L) (x : α) : L x x = false := by
  cases q : L x x with
  | false => rfl
  | true => rw [h.asym x x q] at q; cases q
theorem Ord.lt_le {α : Type} {L : α → α → Bool} (h : Ord L) {x y z : α} (h1 : L x y = true) (h2 : L z y = false) : L x z = true := by
  cases q : L x z with
  | true => rfl
  | false => rw [h.trans y z x h2 q] at h1; cases h1
theorem Ord.le_lt {α : Type} {L : α → α → Bool} (h : Ord L) {x y z : α} (h1 : L y x = false) (h2 : L y z = true) : L x z = true := by
  cases q : L x z with
  | true => rfl
  | false => rw [h.trans z x y q h1] at h2; cases h2
section
variable {α : Type} {L : α → α → Bool}
noncomputable abbrev Srt (L : α → α → Bool) (xs : List α) : Prop := xs.Pairwise fun x y => L y x = false
structure Mrg (L : α → α → Bool) (all out ra rb : List α) : Prop where
  perm : (out ++ (ra ++ rb)).Perm all
  so : Srt L out
  sa : Srt L ra
  sb : Srt L rb
  le : ∀ x ∈ out, ∀ y ∈ ra ++ rb, L y x = false
theorem Srt.head_le (h : Ord L) {x : α} {r : List α} (s : Srt L (x :: r)) : ∀ y ∈ x :: r, L y x = false := fun y hy => by
  rcases List.mem_cons.mp hy with rfl | hy
  · exact h.refl _
  · exact (List.pairwise_cons.mp s).1 y hy
theorem Srt.snoc (h : Ord L) {xs : List α} {x : α} (s : Srt L xs) (le : ∀ y ∈ xs, L x y = false) : Srt L (xs ++ [x]) := by
  refine List.pairwise_append.mpr ⟨s, List.pairwise_singleton _ _, fun y hy z hz => ?_⟩
  rw [List.mem_singleton.mp hz]; exact le y hy
theorem Mrg.stepA (h : Ord L) {all out ra rb : List α} {x : α} (m : Mrg L all out (x :: ra) rb) (hx : ∀ y ∈ rb, L y x = false) : Mrg L all (out ++ [x]) ra rb := by
  refine ⟨?_, m.so.snoc h fun y hy => m.le y hy x (by simp), (List.pairwise_cons.mp m.sa).2, m.sb, fun y hy z hz => ?_⟩
  · have := m.perm; simpa using this
  · rcases List.mem_append.mp hy with hy | hy
    · exact m.le y hy z (by rcases List.mem_append.mp hz with q | q <;> simp [q])
    · rw [List.mem_singleton.mp hy]
      rcases List.mem_append.mp hz with q | q
      · exact m.sa.head_le h z (.tail _ q)
      · exact hx z q
theorem Mrg.stepB (h : Ord L) {all out ra rb : List α} {x : α} (m : Mrg L all out ra (x :: rb)) (hx : ∀ y ∈ ra, L y x = false) : Mrg L all (out ++ [x]) ra rb := by
  refine ⟨?_, m.so.snoc h fun y hy => m.le y hy x (by simp), m.sa, (List.pairwise_cons.mp m.sb).2, fun y hy z hz => ?_⟩
  · refine List.Perm.trans ?_ m.perm
    rw [List.append_assoc]
    refine List.Perm.append_left _ ?_
    simp only [List.singleton_append]
    exact List.perm_middle.symm
  · rcases List.mem_append.mp hy with hy | hy
    · exact m.le y hy z (by rcases List.mem_append.mp hz with q | q <;> simp [q])
    · rw [List.mem_singleton.mp hy]
      rcases List.mem_append.mp hz with q | q
      · exact hx z q
      · exact m.sb.head_le h z (.tail _ q)
theorem Mrg.chunkA (h : Ord L) {all rb : List α} : ∀ {ca out ra : List α}, Mrg L all out (ca ++ ra) rb → (∀ x ∈ ca, ∀ y ∈ rb, L y x = false) → Mrg L all (out ++ ca) ra rb
  | [], out, ra, m, _ => by simpa using m
  | x :: ca, out, ra, m, hx => by
    have := Mrg.chunkA h (ca := ca) (Mrg.stepA h m (hx x (.head _))) fun y hy => hx y (.tail _ hy)
    simpa using this
theorem Mrg.chunkB (h : Ord L) {all ra : List α} : ∀ {cb out rb : List α}, Mrg L all out ra (cb ++ rb) → (∀ x ∈ cb, ∀ y ∈ ra, L y x = false) → Mrg L all (out ++ cb) ra rb
  | [], out, rb, m, _ => by simpa using m
  | x :: cb, out, rb, m, hx => by
    have := Mrg.chunkB h (cb := cb) (Mrg.stepB h m (hx x (.head _))) fun y hy => hx y (.tail _ hy)
    simpa using this
theorem Mrg.endB {all out rb : List α} (m : Mrg L all out [] rb) : (out ++ rb).Perm all ∧ Srt L (out ++ rb) :=
  ⟨by simpa using m.perm, List.pairwise_append.mpr ⟨m.so, m.sb, fun x hx y hy => m.le x hx y (by simpa using hy)⟩⟩
theorem Mrg.endA {all out ra : List α} (m : Mrg L all out ra []) : (out ++ ra).Perm all ∧ Srt L (out ++ ra) :=
  ⟨by simpa using m.perm, List.pairwise_append.mpr ⟨m.so, m.sa, fun x hx y hy => m.le x hx y (by simpa using hy)⟩⟩
theorem sorted_get {xs : List α} (s : Srt L xs) (h : Ord L) {i j : Nat} (hij : i ≤ j) {x y : α} (hx : xs[i]? = some x) (hy : xs[j]? = some y) : L y x = false := by
  rcases Nat.eq_or_lt_of_le hij with rfl | lt
  · rw [hx] at hy; cases hy; exact h.refl _
  · obtain ⟨a1, a2⟩ := List.getElem?_eq_some_iff.mp hx
    obtain ⟨b1, b2⟩ := List.getElem?_eq_some_iff.mp hy
    have := List.pairwise_iff_getElem.mp s i j a1 b1 lt
    rw [a2, b2] at this; exact this
end
structure Cmp (M : Model) (A : Around) (E : Value → Shared → Prop) (s : Shared) (κ : SortKind) (U : Keyed → Prop) (L : Keyed → Keyed → Bool) : Prop where
  ord : Ord L
  lt : ∀ x y, U x → U y → ∀ (st : SortSt) (Q : Option Bool → SortSt → Prop), kindOf st = κ → Q (some (L x y)) st → wpS M A E s (lt' x y) Q st
structure SameSt (st st' : SortSt) : Prop where
  kind : kindOf st' = kindOf st
  arr : arrOf st' = arrOf st
  pend : pendingOf st' = pendingOf st
  fail : failedOf st' = failedOf st
theorem SameSt.refl (st : SortSt) : SameSt st st := ⟨rfl, rfl, rfl, rfl⟩
theorem SameSt.trans {a b c : SortSt} (x : SameSt a b) (y : SameSt b c) : SameSt a c := ⟨y.kind.trans x.kind, y.arr.trans x.arr, y.pend.trans x.pend, y.fail.trans x.fail⟩
section
variable {M : Model} {A : Around} {E : Value → Shared → Prop} {s : Shared} {κ : SortKind} {U : Keyed → Prop} {L : Keyed → Keyed → Bool}
theorem wpS_elem {arr : Array Keyed} {i : Nat} {x : Keyed} {st : SortSt} {Q : Keyed → SortSt → Prop} (h : arr[i]? = some x) (hQ : Q x st) : wpS M A E s (elem' arr i) Q st := by
  rw [elem'_eq, h]; exact wpS_pure hQ
noncomputable def bey (L : Keyed → Keyed → Bool) (left : Bool) (key x : Keyed) : Bool := if left = true then L x key else !(L key x)
theorem wpS_beyond (C : Cmp M A E s κ U L) {left : Bool} {key : Keyed} {arr : Array Keyed} {base i : Nat} {x : Keyed} {st : SortSt} {Q : Option Bool → SortSt → Prop} (hx : arr[base + i]? = some x) (ux : U x) (uk : U key) (hk : kindOf st = κ)
    (hQ : Q (some (bey L left key x)) st) : wpS M A E s (beyondP left key arr base i) Q st := by
  unfold beyondP
  refine wpS_bind (wpS_elem hx ?_)
  cases left with
  | true => simp only [if_true]; exact C.lt x key ux uk st _ hk hQ
  | false =>
    simp only [Bool.false_eq_true, if_false]
    refine wpS_bind (C.lt key x uk ux st _ hk ?_)
    exact wpS_pure hQ
theorem wpS_gallopS (C : Cmp M A E s κ U L) {left : Bool} {key : Keyed} {arr : Array Keyed} {base n hint : Nat} {st : SortSt} {Q : Option Nat → SortSt → Prop} (xs : List Keyed) (hxs : ∀ i, i < n → arr[base + i]? = xs[i]?) (hn : xs.length = n)
    (hs : Srt L xs) (hu : ∀ x ∈ xs, U x) (uk : U key) (hk : kindOf st = κ) (hh : hint < n)
    (hQ : ∀ k, k ≤ n → (∀ x ∈ xs.take k, bey L left key x = true) → (∀ x ∈ xs.drop k, bey L left key x = false) → Q (some k) st) : wpS M A E s (gallopP left key arr base n hint) Q st := by
  have get : ∀ i, i < n → ∃ x, xs[i]? = some x ∧ x ∈ xs := fun i hi => by
    have h : i < xs.length := by omega
    exact ⟨xs[i], List.getElem?_eq_getElem h, List.getElem_mem h⟩
  refine wpS_gallop (fun i => ((xs[i]?).map (bey L left key)).getD false) ?_ ?_ hh ?_
  · intro i hi Q' hq
    obtain ⟨x, h1, h2⟩ := get i hi
    refine wpS_beyond C (by rw [hxs i hi]; exact h1) (hu x h2) uk hk ?_
    rw [h1] at hq; exact hq
  · intro i j hij hj hf
    obtain ⟨x, h1, _⟩ := get i (by omega)
    obtain ⟨y, k1, _⟩ := get j hj
    have le := sorted_get hs C.ord hij h1 k1
    simp only [k1, h1, Option.map_some, Option.getD_some] at hf ⊢
    unfold bey at hf ⊢
    cases left with
    | true => simp only [if_true] at hf ⊢; exact C.ord.le_lt le hf
    | false =>
      simp only [Bool.false_eq_true, if_false, Bool.not_eq_true'] at hf ⊢
      exact C.ord.trans x y key le hf
  · intro k hk h1 h2
    refine hQ k hk (fun x hx => ?_) fun x hx => ?_
    · obtain ⟨i, hi⟩ := List.mem_iff_getElem?.mp hx
      rw [List.getElem?_take] at hi
      split at hi
      · have := h1 i ‹_›; simpa [hi] using this
      · cases hi
    · obtain ⟨i, hi⟩ := List.mem_iff_getElem?.mp hx
      rw [List.getElem?_drop] at hi
      have lt := (List.getElem?_eq_some_iff.mp hi).1
      have := h2 (k + i) (by omega) (by omega); simpa [hi] using this
end
end Mine
end
-- text T3
section
set_option autoImplicit false
set_option linter.unusedVariables false
namespace Mine
open PySem PyProof.Rows
noncomputable def setMinGallopP : Nat → SM Unit := sortPriv% PySem.Builtin.setMinGallop
theorem mergeLoP_eq (a b : Array Keyed) : mergeLoP a b = (do
  rule "list.sort.merge-lo"
  let total := a.size + b.size
  let done (out : Array Keyed) (ia ib : Nat) := out ++ a.extract ia a.size ++ b.extract ib b.size
  let lastOfA (out : Array Keyed) (ia ib : Nat) := out ++ b.extract ib b.size ++ a.extract ia a.size
  let mut out : Array Keyed := #[← elem' b 0]
  let mut ia := 0
  let mut ib := 1
  if ib == b.size then return done out ia ib
  if ia + 1 == a.size then return lastOfA out ia ib
  let mut minGallop := gallopOf (← get)
  for _ in [0:total] do
    let mut acount := 0
    let mut bcount := 0
    for _ in [0:total] do
      let some bWins ← lt' (← elem' b ib) (← elem' a ia) | return done out ia ib
      if bWins then
        out := out.push (← elem' b ib); ib := ib + 1; bcount := bcount + 1; acount := 0
        if ib == b.size then return done out ia ib
        if bcount ≥ minGallop then break
      else
        out := out.push (← elem' a ia); ia := ia + 1; acount := acount + 1; bcount := 0
        if ia + 1 == a.size then return lastOfA out ia ib
        if acount ≥ minGallop then break
    rule "list.sort.gallop"
    minGallop := minGallop + 1
    for _ in [0:total] do
      if minGallop > 1 then minGallop := minGallop - 1
      setMinGallopP minGallop
      let some k ← gallopP false (← elem' b ib) a ia (a.size - ia) 0 | return done out ia ib
      acount := k
      if k > 0 then
        out := out ++ a.extract ia (ia + k); ia := ia + k
        if ia + 1 == a.size then return lastOfA out ia ib
        if ia == a.size then return done out ia ib
      out := out.push (← elem' b ib); ib := ib + 1
      if ib == b.size then return done out ia ib
      let some k ← gallopP true (← elem' a ia) b ib (b.size - ib) 0 | return done out ia ib
      bcount := k
      if k > 0 then
        out := out ++ b.extract ib (ib + k); ib := ib + k
        if ib == b.size then return done out ia ib
      out := out.push (← elem' a ia); ia := ia + 1
      if ia + 1 == a.size then return lastOfA out ia ib
      if acount < 7 && bcount < 7 then break
    minGallop := minGallop + 1
    setMinGallopP minGallop
  unsupported "internal:list.sort.merge-bound") := rfl
section
variable {M : Model} {A : Around} {E : Value → Shared → Prop} {s : Shared} {κ : SortKind} {U : Keyed → Prop} {L : Keyed → Keyed → Bool}
theorem wpS_rule {r : String} {st : SortSt} {Q : Unit → SortSt → Prop} (h : Q () st) : wpS M A E s (liftM (rule r) : SM Unit) Q st :=
  wpS_lift (wpAny_rule ⟨rfl, h⟩)
theorem wpS_setMin {g : Nat} {st : SortSt} {Q : Unit → SortSt → Prop} (h : ∀ st', SameSt st st' → Q () st') : wpS M A E s (setMinGallopP g) Q st := by
  show wpS M A E s (modify fun st => SortSt.mk' (kindOf st) (arrOf st) (pendingOf st) g (failedOf st)) Q st
  exact wpS_modify (h _ ⟨rfl, rfl, rfl, rfl⟩)
theorem drop_get {α : Type} {xs : List α} {i : Nat} (h : i < xs.length) : ∃ x, xs[i]? = some x ∧ xs.drop i = x :: xs.drop (i + 1) :=
  ⟨xs[i], List.getElem?_eq_getElem h, List.drop_eq_getElem_cons h⟩
theorem extract_drop {α : Type} (a : Array α) (i : Nat) : (a.extract i a.size).toList = a.toList.drop i := by
  rw [Array.toList_extract]
  simp [List.extract]
  try (rw [List.take_of_length_le]; simp)
theorem extract_take {α : Type} (a : Array α) (i k : Nat) : (a.extract i (i + k)).toList = (a.toList.drop i).take k := by
  rw [Array.toList_extract]
  simp [List.extract]
end
end Mine
end
-- text V4
section
set_option autoImplicit false
set_option linter.unusedVariables false
namespace Mine
open PySem PyProof.Rows
section
variable {M : Model} {A : Around} {E : Value → Shared → Prop} {s : Shared} {κ : SortKind} {U : Keyed → Prop} {L : Keyed → Keyed → Bool}
structure LoI (L : Keyed → Keyed → Bool) (a b : Array Keyed) (st0 : SortSt) (N : Nat) (out : Array Keyed) (ia ib : Nat) (st : SortSt) : Prop where
  S : SameSt st0 st
  m : Mrg L (a.toList ++ b.toList) out.toList (a.toList.drop ia) (b.toList.drop ib)
  ba : ia + 1 < a.size
  bb : ib < b.size
  pr : N ≤ ia + ib
noncomputable abbrev LoT (γ : Type) := Option (Array Keyed) × Array Keyed × Nat × Nat × γ
inductive LoR {γ : Type} (L : Keyed → Keyed → Bool) (a b : Array Keyed) (st0 : SortSt) (Q : Array Keyed → SortSt → Prop) (Nb Ng : Nat) : ForInStep (LoT γ) → SortSt → Prop
  | ret (x : Array Keyed) (c : Array Keyed × Nat × Nat × γ) (st : SortSt) : Q x st → LoR L a b st0 Q Nb Ng (.done (some x, c)) st
  | brk (out : Array Keyed) (ia ib : Nat) (c : γ) (st : SortSt) : LoI L a b st0 Nb out ia ib st → LoR L a b st0 Q Nb Ng (.done (none, out, ia, ib, c)) st
  | go (out : Array Keyed) (ia ib : Nat) (c : γ) (st : SortSt) : LoI L a b st0 Ng out ia ib st → LoR L a b st0 Q Nb Ng (.yield (none, out, ia, ib, c)) st
inductive LoP {γ : Type} (L : Keyed → Keyed → Bool) (a b : Array Keyed) (st0 : SortSt) (Q : Array Keyed → SortSt → Prop) (N : Nat) : LoT γ → SortSt → Prop
  | ret (x : Array Keyed) (c : Array Keyed × Nat × Nat × γ) (st : SortSt) : Q x st → LoP L a b st0 Q N (some x, c) st
  | on (out : Array Keyed) (ia ib : Nat) (c : γ) (st : SortSt) : LoI L a b st0 N out ia ib st → LoP L a b st0 Q N (none, out, ia, ib, c) st
inductive LoJ {γ : Type} (L : Keyed → Keyed → Bool) (a b : Array Keyed) (st0 : SortSt) (N : Nat) : LoT γ → SortSt → Prop
  | mk (out : Array Keyed) (ia ib : Nat) (c : γ) (st : SortSt) : LoI L a b st0 N out ia ib st → LoJ L a b st0 N (none, out, ia, ib, c) st
theorem lo_loop {γ : Type} {a b : Array Keyed} {st0 : SortSt} {Q : Array Keyed → SortSt → Prop} {n : Nat} {f : Nat → LoT γ → SM (ForInStep (LoT γ))} (N : Nat → Nat) (Ne : Nat)
    (step : ∀ j out ia ib c st, j < n → LoI L a b st0 (N j) out ia ib st → wpS M A E s (f j (none, out, ia, ib, c)) (LoR L a b st0 Q Ne (N (j + 1))) st)
    (fin : ∀ out ia ib st, LoI L a b st0 (N n) out ia ib st → LoI L a b st0 Ne out ia ib st) {out : Array Keyed} {ia ib : Nat} {c : γ} {st : SortSt} (h : LoI L a b st0 (N 0) out ia ib st) :
    wpS M A E s (forIn [0:n] (none, out, ia, ib, c) f) (LoP L a b st0 Q Ne) st := by
  refine wpS_forRange (fun j => LoJ L a b st0 (N j)) ?_ ?_ (.mk _ _ _ _ _ h)
  · rintro j _ st1 _ hj ⟨out, ia, ib, c, _, h⟩
    refine wpS_mono (step j out ia ib c st1 hj h) fun r st' h => ?_
    cases h with
    | ret x c _ q => exact .ret _ _ _ q
    | brk _ _ _ _ _ q => exact .on _ _ _ _ _ q
    | go _ _ _ _ _ q => exact .mk _ _ _ _ _ q
  · rintro _ st1 ⟨out, ia, ib, c, _, h⟩
    rw [Nat.max_eq_right (Nat.zero_le n)] at h
    exact .on _ _ _ _ _ (fin _ _ _ _ h)
structure LoE (L : Keyed → Keyed → Bool) (a b : Array Keyed) (st0 : SortSt) (Q : Array Keyed → SortSt → Prop) : Prop where
  fd : ∀ (out : Array Keyed) (ia ib : Nat) (st : SortSt), Mrg L (a.toList ++ b.toList) out.toList (a.toList.drop ia) (b.toList.drop ib) → (ib = b.size ∨ ia = a.size) → SameSt st0 st → Q (out ++ a.extract ia ++ b.extract ib) st
  fl : ∀ (out : Array Keyed) (ia ib : Nat) (st : SortSt), Mrg L (a.toList ++ b.toList) out.toList (a.toList.drop ia) (b.toList.drop ib) → ia + 1 = a.size → SameSt st0 st → Q (out ++ b.extract ib ++ a.extract ia) st
theorem get_of {a : Array Keyed} {i : Nat} {x : Keyed} (h : a.toList[i]? = some x) : a[i]? = some x := by simpa using h
theorem drop_at {a : Array Keyed} {i : Nat} (h : i < a.size) : ∃ x, a.toList[i]? = some x ∧ a.toList.drop i = x :: a.toList.drop (i + 1) := drop_get (by rw [Array.length_toList]; exact h)
noncomputable def loJp2 (a b : Array Keyed) (mg ac bc ia : Nat) (out : Array Keyed) (ib : Nat) : SM (ForInStep (LoT (Nat × Nat × Nat))) := do
  let x ← elem' a ia
  if (ia + 1 + 1 == a.size) = true then pure (ForInStep.done (some (out.push x ++ b.extract ib ++ a.extract (ia + 1)), out.push x, ia + 1, ib, mg, ac, bc))
  else if (decide (ac < 7) && decide (bc < 7)) = true then pure (ForInStep.done (none, out.push x, ia + 1, ib, mg, ac, bc))
  else pure (ForInStep.yield (none, out.push x, ia + 1, ib, mg, ac, bc))
theorem loJp2_ok {a b : Array Keyed} {st0 st : SortSt} {Q : Array Keyed → SortSt → Prop} (C : Cmp M A E s κ U L) (EN : LoE L a b st0 Q) {N mg ac bc ia ib : Nat} {out : Array Keyed} {x : Keyed} (hx : a.toList[ia]? = some x) (ex : a.toList.drop ia = x :: a.toList.drop (ia + 1))
    (m : Mrg L (a.toList ++ b.toList) out.toList (a.toList.drop ia) (b.toList.drop ib)) (hb : ib < b.size) (hn : N ≤ ia + 1 + ib) (ha : ia + 1 < a.size) (small : ∀ z ∈ b.toList.drop ib, L z x = false) (S : SameSt st0 st) : wpS M A E s (loJp2 a b mg ac bc ia out ib) (LoR L a b st0 Q N N) st := by
  refine wpS_bind (wpS_elem (get_of hx) ?_)
  have m6 : Mrg L (a.toList ++ b.toList) (out.push x).toList (a.toList.drop (ia + 1)) (b.toList.drop ib) := by
    rw [ex] at m
    rw [Array.toList_push]
    exact m.stepA C.ord small
  refine wpS_ite (fun c => wpS_pure (.ret _ _ _ (EN.fl _ _ _ _ m6 (beq_iff_eq.mp c) S))) fun c => ?_
  have I : LoI L a b st0 N (out.push x) (ia + 1) ib st := ⟨S, m6, Nat.lt_of_le_of_ne ha fun e => c (beq_iff_eq.mpr e), hb, hn⟩
  exact wpS_ite (fun _ => wpS_pure (.brk _ _ _ _ _ I)) fun _ => wpS_pure (.go _ _ _ _ _ I)
noncomputable def loJp (a b : Array Keyed) (mg k bc ib : Nat) (out : Array Keyed) (ia : Nat) : SM (ForInStep (LoT (Nat × Nat × Nat))) := do
  let y ← elem' b ib
  if (ib + 1 == b.size) = true then pure (ForInStep.done (some (out.push y ++ a.extract ia ++ b.extract (ib + 1)), out.push y, ia, ib + 1, mg, k, bc))
  else do
    let x ← elem' a ia
    let some k1 ← gallopP true x b (ib + 1) (b.size - (ib + 1)) 0 | pure (ForInStep.done (some (out.push y ++ a.extract ia ++ b.extract (ib + 1)), out.push y, ia, ib + 1, mg, k, bc))
    if k1 > 0 then
      if (ib + 1 + k1 == b.size) = true then pure (ForInStep.done (some (out.push y ++ b.extract (ib + 1) (ib + 1 + k1) ++ a.extract ia ++ b.extract (ib + 1 + k1)), out.push y ++ b.extract (ib + 1) (ib + 1 + k1), ia, ib + 1 + k1, mg, k, k1))
      else loJp2 a b mg k k1 ia (out.push y ++ b.extract (ib + 1) (ib + 1 + k1)) (ib + 1 + k1)
    else loJp2 a b mg k k1 ia (out.push y) (ib + 1)
theorem loJp_ok {a b : Array Keyed} {st0 st : SortSt} {Q : Array Keyed → SortSt → Prop} (C : Cmp M A E s κ U L) (EN : LoE L a b st0 Q) (ua : ∀ x ∈ a.toList, U x) (ub : ∀ x ∈ b.toList, U x) (hk : kindOf st0 = κ) {N mg k bc ia ib : Nat} {out : Array Keyed} {y : Keyed} (hy : b.toList[ib]? = some y) (ey : b.toList.drop ib = y :: b.toList.drop (ib + 1))
    (m : Mrg L (a.toList ++ b.toList) out.toList (a.toList.drop ia) (b.toList.drop ib)) (hb : ib < b.size) (hn : N ≤ ia + ib) (ha : ia + 1 < a.size) (big : ∀ x ∈ a.toList.drop ia, L y x = true) (S : SameSt st0 st) : wpS M A E s (loJp a b mg k bc ib out ia) (LoR L a b st0 Q N N) st := by
  refine wpS_bind (wpS_elem (get_of hy) ?_)
  have m4 : Mrg L (a.toList ++ b.toList) (out.push y).toList (a.toList.drop ia) (b.toList.drop (ib + 1)) := by
    rw [ey] at m
    rw [Array.toList_push]
    exact m.stepB C.ord fun z hz => C.ord.asym _ _ (big z hz)
  refine wpS_ite (fun c => wpS_pure (.ret _ _ _ (EN.fd _ _ _ _ m4 (.inl (beq_iff_eq.mp c)) S))) fun c => ?_
  have c' : ib + 1 < b.size := Nat.lt_of_le_of_ne hb fun e => c (beq_iff_eq.mpr e)
  obtain ⟨x, hx, ex⟩ := drop_at (a := a) (Nat.lt_of_succ_lt ha)
  refine wpS_bind (wpS_elem (get_of hx) ?_)
  refine wpS_bind (wpS_gallopS C (b.toList.drop (ib + 1)) (fun i hi => by rw [List.getElem?_drop]; simp) (by simp) m4.sb (fun x hx => ub x (List.mem_of_mem_drop hx)) (ua x (List.mem_of_getElem? hx)) (S.kind.trans hk) (by lia) fun k' hk1' k1' k2' => ?_)
  have sm : ∀ z ∈ (b.toList.drop (ib + 1)).take k', L z x = true := fun z hz => by have := k1' z hz; simpa [bey] using this
  have bg : ∀ z ∈ (b.toList.drop (ib + 1)).drop k', L z x = false := fun z hz => by have := k2' z hz; simpa [bey] using this
  refine wpS_ite (fun kp => ?_) fun kp => ?_
  · have m5 : Mrg L (a.toList ++ b.toList) (out.push y ++ b.extract (ib + 1) (ib + 1 + k')).toList (a.toList.drop ia) (b.toList.drop (ib + 1 + k')) := by
      rw [Array.toList_append, extract_take]
      refine Mrg.chunkB C.ord ?_ fun z hz w hw => ?_
      · rw [show b.toList.drop (ib + 1 + k') = (b.toList.drop (ib + 1)).drop k' from (List.drop_drop ..).symm, List.take_append_drop]; exact m4
      · have := m4.sa; rw [ex] at this hw
        exact C.ord.asym _ _ (C.ord.lt_le (sm z hz) (Srt.head_le C.ord this w hw))
    refine wpS_ite (fun c => wpS_pure (.ret _ _ _ (EN.fd _ _ _ _ m5 (.inl (beq_iff_eq.mp c)) S))) fun c2 => ?_
    have c2' : ¬ (ib + 1 + k' = b.size) := fun e => c2 (beq_iff_eq.mpr e)
    exact loJp2_ok C EN hx ex m5 (by lia) (by lia) ha (fun z hz => bg z (by rw [List.drop_drop]; exact hz)) S
  · have : k' = 0 := by lia
    subst this
    exact loJp2_ok C EN hx ex m4 c' (by lia) ha (fun z hz => bg z hz) S
noncomputable def loGo (a b : Array Keyed) (mg ac bc ib : Nat) (out : Array Keyed) (ia : Nat) : SM (ForInStep (LoT (Nat × Nat × Nat))) := do
  setMinGallopP mg
  let y ← elem' b ib
  let some k ← gallopP false y a ia (a.size - ia) 0 | pure (ForInStep.done (some (out ++ a.extract ia ++ b.extract ib), out, ia, ib, mg, ac, bc))
  if k > 0 then
    if (ia + k + 1 == a.size) = true then pure (ForInStep.done (some (out ++ a.extract ia (ia + k) ++ b.extract ib ++ a.extract (ia + k)), out ++ a.extract ia (ia + k), ia + k, ib, mg, k, bc))
    else if (ia + k == a.size) = true then pure (ForInStep.done (some (out ++ a.extract ia (ia + k) ++ a.extract (ia + k) ++ b.extract ib), out ++ a.extract ia (ia + k), ia + k, ib, mg, k, bc))
    else loJp a b mg k bc ib (out ++ a.extract ia (ia + k)) (ia + k)
  else loJp a b mg k bc ib out ia
theorem loGo_ok {a b : Array Keyed} {st0 st : SortSt} {Q : Array Keyed → SortSt → Prop} (C : Cmp M A E s κ U L) (EN : LoE L a b st0 Q) (ua : ∀ x ∈ a.toList, U x) (ub : ∀ x ∈ b.toList, U x) (hk : kindOf st0 = κ) {N mg ac bc ia ib : Nat} {out : Array Keyed} (I : LoI L a b st0 N out ia ib st) :
    wpS M A E s (loGo a b mg ac bc ib out ia) (LoR L a b st0 Q N N) st := by
  obtain ⟨S3, m, ba, bb, pr⟩ := I
  refine wpS_bind (wpS_setMin fun st4 s4 => ?_)
  have S := S3.trans s4
  obtain ⟨y, hy, ey⟩ := drop_at bb
  refine wpS_bind (wpS_elem (get_of hy) ?_)
  refine wpS_bind (wpS_gallopS C (a.toList.drop ia) (fun i hi => by rw [List.getElem?_drop]; simp) (by simp) m.sa (fun x hx => ua x (List.mem_of_mem_drop hx)) (ub y (List.mem_of_getElem? hy)) (S.kind.trans hk) (by lia) fun k hk1 k1 k2 => ?_)
  have sm : ∀ z ∈ (a.toList.drop ia).take k, L y z = false := fun z hz => by have := k1 z hz; simpa [bey] using this
  have bg : ∀ z ∈ (a.toList.drop ia).drop k, L y z = true := fun z hz => by have := k2 z hz; simpa [bey] using this
  refine wpS_ite (fun kp => ?_) fun kp => ?_
  · have m5 : Mrg L (a.toList ++ b.toList) (out ++ a.extract ia (ia + k)).toList (a.toList.drop (ia + k)) (b.toList.drop ib) := by
      rw [Array.toList_append, extract_take]
      refine Mrg.chunkA C.ord ?_ fun z hz w hw => ?_
      · rw [show a.toList.drop (ia + k) = (a.toList.drop ia).drop k from (List.drop_drop ..).symm, List.take_append_drop]; exact m
      · have := m.sb; rw [ey] at this hw
        exact C.ord.trans _ _ _ (sm z hz) (Srt.head_le C.ord this w hw)
    refine wpS_ite (fun c => wpS_pure (.ret _ _ _ (EN.fl _ _ _ _ m5 (beq_iff_eq.mp c) S))) fun c => ?_
    refine wpS_ite (fun c => wpS_pure (.ret _ _ _ (EN.fd _ _ _ _ m5 (.inr (beq_iff_eq.mp c)) S))) fun c2 => ?_
    have c' : ¬ (ia + k + 1 = a.size) := fun e => c (beq_iff_eq.mpr e)
    have c2' : ¬ (ia + k = a.size) := fun e => c2 (beq_iff_eq.mpr e)
    exact loJp_ok C EN ua ub hk hy ey m5 bb (by lia) (by lia) (fun z hz => bg z (by rw [List.drop_drop]; exact hz)) S
  · have : k = 0 := by lia
    subst this
    exact loJp_ok C EN ua ub hk hy ey m bb pr ba (fun z hz => bg z hz) S
noncomputable def loOne (a b : Array Keyed) (mg : Nat) (out : Array Keyed) (ia ib ac bc : Nat) : SM (ForInStep (LoT (Nat × Nat))) := do
  let y ← elem' b ib
  let x ← elem' a ia
  let some w ← lt' y x | pure (ForInStep.done (some (out ++ a.extract ia ++ b.extract ib), out, ia, ib, ac, bc))
  if w = true then do
    let z ← elem' b ib
    if (ib + 1 == b.size) = true then pure (ForInStep.done (some (out.push z ++ a.extract ia ++ b.extract (ib + 1)), out.push z, ia, ib + 1, 0, bc + 1))
    else if bc + 1 ≥ mg then pure (ForInStep.done (none, out.push z, ia, ib + 1, 0, bc + 1))
    else pure (ForInStep.yield (none, out.push z, ia, ib + 1, 0, bc + 1))
  else do
    let z ← elem' a ia
    if (ia + 1 + 1 == a.size) = true then pure (ForInStep.done (some (out.push z ++ b.extract ib ++ a.extract (ia + 1)), out.push z, ia + 1, ib, ac + 1, 0))
    else if ac + 1 ≥ mg then pure (ForInStep.done (none, out.push z, ia + 1, ib, ac + 1, 0))
    else pure (ForInStep.yield (none, out.push z, ia + 1, ib, ac + 1, 0))
theorem loOne_ok {a b : Array Keyed} {st0 st : SortSt} {Q : Array Keyed → SortSt → Prop} (C : Cmp M A E s κ U L) (EN : LoE L a b st0 Q) (ua : ∀ x ∈ a.toList, U x) (ub : ∀ x ∈ b.toList, U x) (hk : kindOf st0 = κ) {N Nb Ng mg ac bc ia ib : Nat} {out : Array Keyed} (I : LoI L a b st0 N out ia ib st) (hb : Nb ≤ N + 1) (hg : Ng ≤ N + 1) :
    wpS M A E s (loOne a b mg out ia ib ac bc) (LoR L a b st0 Q Nb Ng) st := by
  obtain ⟨S, m, ba, bb, pr⟩ := I
  obtain ⟨x, hx, ex⟩ := drop_at (a := a) (Nat.lt_of_succ_lt ba)
  obtain ⟨y, hy, ey⟩ := drop_at bb
  refine wpS_bind (wpS_elem (get_of hy) (wpS_bind (wpS_elem (get_of hx) (wpS_bind (C.lt y x (ub y (List.mem_of_getElem? hy)) (ua x (List.mem_of_getElem? hx)) st _ (S.kind.trans hk) ?_)))))
  refine wpS_ite (fun q => ?_) fun q => ?_
  · refine wpS_bind (wpS_elem (get_of hy) ?_)
    have m' : Mrg L (a.toList ++ b.toList) (out.push y).toList (a.toList.drop ia) (b.toList.drop (ib + 1)) := by
      rw [ey] at m
      rw [Array.toList_push]
      refine m.stepB C.ord fun z hz => ?_
      have := m.sa; rw [ex] at this hz
      exact C.ord.asym _ _ (C.ord.lt_le q (Srt.head_le C.ord this z hz))
    refine wpS_ite (fun c => wpS_pure (.ret _ _ _ (EN.fd _ _ _ _ m' (.inl (beq_iff_eq.mp c)) S))) fun c => ?_
    have bb' : ib + 1 < b.size := Nat.lt_of_le_of_ne bb fun e => c (beq_iff_eq.mpr e)
    exact wpS_ite (fun _ => wpS_pure (.brk _ _ _ _ _ ⟨S, m', ba, bb', by lia⟩)) fun _ => wpS_pure (.go _ _ _ _ _ ⟨S, m', ba, bb', by lia⟩)
  · refine wpS_bind (wpS_elem (get_of hx) ?_)
    have m' : Mrg L (a.toList ++ b.toList) (out.push x).toList (a.toList.drop (ia + 1)) (b.toList.drop ib) := by
      rw [ex] at m
      rw [Array.toList_push]
      refine m.stepA C.ord fun z hz => ?_
      have := m.sb; rw [ey] at this hz
      exact C.ord.trans _ _ _ (eq_false_of_ne_true q) (Srt.head_le C.ord this z hz)
    refine wpS_ite (fun c => wpS_pure (.ret _ _ _ (EN.fl _ _ _ _ m' (beq_iff_eq.mp c) S))) fun c => ?_
    have ba' : ia + 1 + 1 < a.size := Nat.lt_of_le_of_ne ba fun e => c (beq_iff_eq.mpr e)
    exact wpS_ite (fun _ => wpS_pure (.brk _ _ _ _ _ ⟨S, m', ba', bb, by lia⟩)) fun _ => wpS_pure (.go _ _ _ _ _ ⟨S, m', ba', bb, by lia⟩)
set_option maxHeartbeats 4000000 in
theorem wpS_mergeLo (C : Cmp M A E s κ U L) {a b : Array Keyed} {st : SortSt} {Q : Array Keyed → SortSt → Prop} (ua : ∀ x ∈ a.toList, U x) (ub : ∀ x ∈ b.toList, U x) (sa : Srt L a.toList) (sb : Srt L b.toList)
    (ha : 0 < a.size) (hb : 0 < b.size) (h0 : ∀ x y, a.toList[0]? = some x → b.toList[0]? = some y → L y x = true) (hlast : ∀ x y, a.toList[a.size - 1]? = some x → y ∈ b.toList → L x y = false)
    (hk : kindOf st = κ) (hQ : ∀ r st', SameSt st st' → r.toList.Perm (a.toList ++ b.toList) → Srt L r.toList → Q r st') : wpS M A E s (mergeLoP a b) Q st := by
  have EN : LoE L a b st Q := by
    refine ⟨fun out ia ib st' m h hs => ?_, fun out ia ib st' m h hs => ?_⟩
    · have e : (out ++ a.extract ia ++ b.extract ib).toList = out.toList ++ (a.toList.drop ia ++ b.toList.drop ib) := by
        rw [Array.toList_append, Array.toList_append, extract_drop, extract_drop, List.append_assoc]
      rcases h with rfl | rfl
      · have eb : b.toList.drop b.size = [] := by rw [← Array.length_toList, List.drop_length]
        rw [eb] at m
        refine hQ _ _ hs ?_ ?_
        · rw [e, eb, List.append_nil]; exact m.endA.1
        · rw [e, eb, List.append_nil]; exact m.endA.2
      · have ea : a.toList.drop a.size = [] := by rw [← Array.length_toList, List.drop_length]
        rw [ea] at m
        refine hQ _ _ hs ?_ ?_
        · rw [e, ea, List.nil_append]; exact m.endB.1
        · rw [e, ea, List.nil_append]; exact m.endB.2
    · obtain ⟨x, hx, ex⟩ := drop_at (a := a) (i := ia) (by lia)
      have ed : a.toList.drop (ia + 1) = [] := by rw [h, ← Array.length_toList, List.drop_length]
      rw [ed] at ex
      have e : (out ++ b.extract ib ++ a.extract ia).toList = out.toList ++ b.toList.drop ib ++ [x] := by
        rw [Array.toList_append, Array.toList_append, extract_drop, extract_drop, ex]
      rw [ex] at m
      have m' : Mrg L (a.toList ++ b.toList) out.toList [x] (b.toList.drop ib ++ []) := by rw [List.append_nil]; exact m
      have m2 := Mrg.chunkB C.ord m' fun y hy z hz => by
        rw [List.mem_singleton.mp hz]
        exact hlast x y (by rw [← hx]; congr 1; lia) (List.mem_of_mem_drop hy)
      refine hQ _ _ hs ?_ ?_
      · rw [e]; exact m2.endA.1
      · rw [e]; exact m2.endA.2
  rw [mergeLoP_eq]
  refine wpS_bind (wpS_rule ?_)
  obtain ⟨b0, hb0, eb0⟩ := drop_at hb
  obtain ⟨a0, ha0, ea0⟩ := drop_at ha
  rw [List.drop_zero] at eb0 ea0
  refine wpS_bind (wpS_elem (get_of hb0) ?_)
  have m1 : Mrg L (a.toList ++ b.toList) (#[b0] : Array Keyed).toList (a.toList.drop 0) (b.toList.drop 1) := by
    have m0 : Mrg L (a.toList ++ b.toList) [] a.toList (b0 :: b.toList.drop 1) := ⟨by rw [← eb0]; exact List.Perm.refl _, .nil, sa, eb0 ▸ sb, fun x hx => by cases hx⟩
    have := m0.stepB C.ord fun y hy => by
      rw [ea0] at hy sa
      exact C.ord.asym _ _ (C.ord.lt_le (h0 a0 b0 ha0 hb0) (Srt.head_le C.ord sa y hy))
    simpa using this
  refine wpS_ite (fun c => wpS_pure (EN.fd _ _ _ _ m1 (.inl (beq_iff_eq.mp c)) (.refl st))) fun c1 => ?_
  refine wpS_ite (fun c => wpS_pure (EN.fl _ _ _ _ m1 (beq_iff_eq.mp c) (.refl st))) fun c2 => ?_
  have c1' : 1 < b.size := Nat.lt_of_le_of_ne hb fun e => c1 (beq_iff_eq.mpr e)
  have c2' : 0 + 1 < a.size := Nat.lt_of_le_of_ne ha fun e => c2 (beq_iff_eq.mpr e)
  refine wpS_bind (wpS_get ?_)
  refine wpS_bind (wpS_mono (lo_loop (a := a) (b := b) (st0 := st) (Q := Q) (N := fun j => j + 1) (Ne := a.size + b.size + 5) (fun j out ia ib mg st1 hj I => ?_) (fun out ia ib st1 I => ?_) ⟨.refl st, m1, c2', c1', Nat.le_refl _⟩) fun r st1 h => ?_)
  · refine wpS_bind (wpS_mono (lo_loop (a := a) (b := b) (st0 := st) (Q := Q) (N := fun i => i + (ia + ib)) (Ne := ia + ib + 1) (fun i out1 ia1 ib1 c st2 hi I1 => loOne_ok (mg := mg) C EN ua ub hk I1 ?_ ?_) (fun out1 ia1 ib1 st2 I1 => ?_) ⟨I.S, I.m, I.ba, I.bb, Nat.le_of_eq (Nat.zero_add _)⟩) fun r st2 h => ?_)
    · show ia + ib + 1 ≤ i + (ia + ib) + 1; lia
    · show i + 1 + (ia + ib) ≤ i + (ia + ib) + 1; lia
    · exact absurd I1.pr (by have := I1.ba; have := I1.bb; lia)
    cases h with
    | ret x c _ q => exact wpS_pure (.ret _ _ _ q)
    | on out1 ia1 ib1 c _ I1 =>
      refine wpS_bind (wpS_rule ?_)
      refine wpS_bind (wpS_mono (lo_loop (a := a) (b := b) (st0 := st) (Q := Q) (N := fun _ => ia + ib + 1) (Ne := ia + ib + 1) (fun i out2 ia2 ib2 c st3 hi I2 => ?_) (fun _ _ _ _ h => h) I1) fun r st3 h => ?_)
      · refine wpS_ite (fun _ => ?_) fun _ => ?_
        · exact loGo_ok C EN ua ub hk I2
        · exact loGo_ok C EN ua ub hk I2
      cases h with
      | ret x c _ q => exact wpS_pure (.ret _ _ _ q)
      | on out2 ia2 ib2 c _ I2 =>
        refine wpS_bind (wpS_setMin fun st4 s4 => ?_)
        exact wpS_pure (.go _ _ _ _ _ ⟨I2.S.trans s4, I2.m, I2.ba, I2.bb, by have := I2.pr; have := I.pr; lia⟩)
  · exact absurd I.pr (by have := I.ba; have := I.bb; lia)
  · cases h with
    | ret x c _ q => exact wpS_pure q
    | on out1 ia1 ib1 c _ I1 => exact absurd I1.pr (by have := I1.ba; have := I1.bb; lia)
end
end Mine
end
-- text V5
section
set_option autoImplicit false
set_option linter.unusedVariables false
namespace Mine
open PySem PyProof.Rows
theorem mergeHiP_eq (a b : Array Keyed) : mergeHiP a b = (do
  rule "list.sort.merge-hi"
  let total := a.size + b.size
  let done (out : Array Keyed) (na nb : Nat) := a.extract 0 na ++ b.extract 0 nb ++ out.reverse
  let firstOfB (out : Array Keyed) (na nb : Nat) := b.extract 0 nb ++ a.extract 0 na ++ out.reverse
  let mut na := a.size - 1
  let mut nb := b.size
  let mut out : Array Keyed := #[← elem' a na]
  if na == 0 then return done out na nb
  if nb == 1 then return firstOfB out na nb
  let mut minGallop := gallopOf (← get)
  for _ in [0:total] do
    let mut acount := 0
    let mut bcount := 0
    for _ in [0:total] do
      let some aWins ← lt' (← elem' b (nb - 1)) (← elem' a (na - 1)) | return done out na nb
      if aWins then
        na := na - 1; out := out.push (← elem' a na); acount := acount + 1; bcount := 0
        if na == 0 then return done out na nb
        if acount ≥ minGallop then break
      else
        nb := nb - 1; out := out.push (← elem' b nb); bcount := bcount + 1; acount := 0
        if nb == 1 then return firstOfB out na nb
        if bcount ≥ minGallop then break
    rule "list.sort.gallop"
    minGallop := minGallop + 1
    for _ in [0:total] do
      if minGallop > 1 then minGallop := minGallop - 1
      setMinGallopP minGallop
      let some at_ ← gallopP false (← elem' b (nb - 1)) a 0 na (na - 1) | return done out na nb
      let k := na - at_
      acount := k
      if k > 0 then
        out := out ++ (a.extract at_ na).reverse; na := at_
        if na == 0 then return done out na nb
      nb := nb - 1; out := out.push (← elem' b nb)
      if nb == 1 then return firstOfB out na nb
      let some at_ ← gallopP true (← elem' a (na - 1)) b 0 nb (nb - 1) | return done out na nb
      let k := nb - at_
      bcount := k
      if k > 0 then
        out := out ++ (b.extract at_ nb).reverse; nb := at_
        if nb == 1 then return firstOfB out na nb
        if nb == 0 then return done out na nb
      na := na - 1; out := out.push (← elem' a na)
      if na == 0 then return done out na nb
      if acount < 7 && bcount < 7 then break
    minGallop := minGallop + 1
    setMinGallopP minGallop
  unsupported "internal:list.sort.merge-bound") := rfl
theorem Ord.flip {α : Type} {L : α → α → Bool} (h : Ord L) : Ord fun x y => L y x := ⟨fun x y q => h.asym y x q, fun x y z q r => h.trans z y x r q⟩
theorem Srt.rev {α : Type} {L : α → α → Bool} {xs : List α} (h : Srt L xs) : Srt (fun x y => L y x) xs.reverse := List.pairwise_reverse.mpr h
theorem Srt.unrev {α : Type} {L : α → α → Bool} {xs : List α} (h : Srt (fun x y => L y x) xs) : Srt L xs.reverse := List.pairwise_reverse.mpr h
theorem take_get {α : Type} {xs : List α} {n : Nat} (h0 : 0 < n) (h : n ≤ xs.length) : ∃ x, xs[n - 1]? = some x ∧ (xs.take n).reverse = x :: (xs.take (n - 1)).reverse := by
  obtain ⟨m, rfl⟩ : ∃ m, n = m + 1 := ⟨n - 1, by lia⟩
  have lt : m < xs.length := by lia
  refine ⟨xs[m], by simp, ?_⟩
  rw [List.take_succ_eq_append_getElem lt]
  simp
theorem take_split {α : Type} (xs : List α) {k n : Nat} (h : k ≤ n) : (xs.take n).reverse = ((xs.take n).drop k).reverse ++ (xs.take k).reverse := by
  rw [← List.reverse_append]
  congr 1
  have e : xs.take k = (xs.take n).take k := by rw [List.take_take, Nat.min_eq_left h]
  rw [e, List.take_append_drop]
theorem extract_pre {α : Type} (a : Array α) (n : Nat) : (a.extract 0 n).toList = a.toList.take n := by
  rw [Array.toList_extract]; simp [List.extract]
theorem extract_mid {α : Type} (a : Array α) (k n : Nat) : (a.extract k n).toList = (a.toList.take n).drop k := by
  rw [Array.toList_extract]; simp [List.extract, List.drop_take]
section
variable {M : Model} {A : Around} {E : Value → Shared → Prop} {s : Shared} {κ : SortKind} {U : Keyed → Prop} {L : Keyed → Keyed → Bool}
noncomputable abbrev Mrh (L : Keyed → Keyed → Bool) (a b : List Keyed) (out : Array Keyed) (na nb : Nat) : Prop := Mrg (fun x y => L y x) (a ++ b) out.toList (a.take na).reverse (b.take nb).reverse
structure HiI (L : Keyed → Keyed → Bool) (a b : Array Keyed) (st0 : SortSt) (N : Nat) (na nb : Nat) (out : Array Keyed) (st : SortSt) : Prop where
  S : SameSt st0 st
  m : Mrh L a.toList b.toList out na nb
  a0 : 0 < na
  a1 : na ≤ a.size
  b0 : 1 < nb
  b1 : nb ≤ b.size
  pr : na + nb + N ≤ a.size + b.size
noncomputable abbrev HiT (γ : Type) := Option (Array Keyed) × Nat × Nat × Array Keyed × γ
inductive HiR {γ : Type} (L : Keyed → Keyed → Bool) (a b : Array Keyed) (st0 : SortSt) (Q : Array Keyed → SortSt → Prop) (Nb Ng : Nat) : ForInStep (HiT γ) → SortSt → Prop
  | ret (x : Array Keyed) (c : Nat × Nat × Array Keyed × γ) (st : SortSt) : Q x st → HiR L a b st0 Q Nb Ng (.done (some x, c)) st
  | brk (na nb : Nat) (out : Array Keyed) (c : γ) (st : SortSt) : HiI L a b st0 Nb na nb out st → HiR L a b st0 Q Nb Ng (.done (none, na, nb, out, c)) st
  | go (na nb : Nat) (out : Array Keyed) (c : γ) (st : SortSt) : HiI L a b st0 Ng na nb out st → HiR L a b st0 Q Nb Ng (.yield (none, na, nb, out, c)) st
inductive HiP {γ : Type} (L : Keyed → Keyed → Bool) (a b : Array Keyed) (st0 : SortSt) (Q : Array Keyed → SortSt → Prop) (N : Nat) : HiT γ → SortSt → Prop
  | ret (x : Array Keyed) (c : Nat × Nat × Array Keyed × γ) (st : SortSt) : Q x st → HiP L a b st0 Q N (some x, c) st
  | on (na nb : Nat) (out : Array Keyed) (c : γ) (st : SortSt) : HiI L a b st0 N na nb out st → HiP L a b st0 Q N (none, na, nb, out, c) st
inductive HiJ {γ : Type} (L : Keyed → Keyed → Bool) (a b : Array Keyed) (st0 : SortSt) (N : Nat) : HiT γ → SortSt → Prop
  | mk (na nb : Nat) (out : Array Keyed) (c : γ) (st : SortSt) : HiI L a b st0 N na nb out st → HiJ L a b st0 N (none, na, nb, out, c) st
theorem hi_loop {γ : Type} {a b : Array Keyed} {st0 : SortSt} {Q : Array Keyed → SortSt → Prop} {n : Nat} {f : Nat → HiT γ → SM (ForInStep (HiT γ))} (N : Nat → Nat) (Ne : Nat)
    (step : ∀ j na nb out c st, j < n → HiI L a b st0 (N j) na nb out st → wpS M A E s (f j (none, na, nb, out, c)) (HiR L a b st0 Q Ne (N (j + 1))) st)
    (fin : ∀ na nb out st, HiI L a b st0 (N n) na nb out st → HiI L a b st0 Ne na nb out st) {na nb : Nat} {out : Array Keyed} {c : γ} {st : SortSt} (h : HiI L a b st0 (N 0) na nb out st) :
    wpS M A E s (forIn [0:n] (none, na, nb, out, c) f) (HiP L a b st0 Q Ne) st := by
  refine wpS_forRange (fun j => HiJ L a b st0 (N j)) ?_ ?_ (.mk _ _ _ _ _ h)
  · rintro j _ st1 _ hj ⟨na, nb, out, c, _, h⟩
    refine wpS_mono (step j na nb out c st1 hj h) fun r st' h => ?_
    cases h with
    | ret x c _ q => exact .ret _ _ _ q
    | brk _ _ _ _ _ q => exact .on _ _ _ _ _ q
    | go _ _ _ _ _ q => exact .mk _ _ _ _ _ q
  · rintro _ st1 ⟨na, nb, out, c, _, h⟩
    rw [Nat.max_eq_right (Nat.zero_le n)] at h
    exact .on _ _ _ _ _ (fin _ _ _ _ h)
structure HiE (L : Keyed → Keyed → Bool) (a b : Array Keyed) (st0 : SortSt) (Q : Array Keyed → SortSt → Prop) : Prop where
  fd : ∀ (na nb : Nat) (out : Array Keyed) (st : SortSt), Mrh L a.toList b.toList out na nb → (na = 0 ∨ nb = 0) → SameSt st0 st → Q (a.extract 0 na ++ b.extract 0 nb ++ out.reverse) st
  fl : ∀ (na nb : Nat) (out : Array Keyed) (st : SortSt), Mrh L a.toList b.toList out na nb → nb = 1 → SameSt st0 st → Q (b.extract 0 nb ++ a.extract 0 na ++ out.reverse) st
theorem take_at {a : Array Keyed} {n : Nat} (h0 : 0 < n) (h : n ≤ a.size) : ∃ x, a.toList[n - 1]? = some x ∧ (a.toList.take n).reverse = x :: (a.toList.take (n - 1)).reverse := take_get h0 (by rw [Array.length_toList]; exact h)
noncomputable def hiJp2 (a b : Array Keyed) (mg ac bc na nb : Nat) (out : Array Keyed) : SM (ForInStep (HiT (Nat × Nat × Nat))) := do
  let x ← elem' a (na - 1)
  if (na - 1 == 0) = true then pure (ForInStep.done (some (a.extract 0 (na - 1) ++ b.extract 0 nb ++ (out.push x).reverse), na - 1, nb, out.push x, mg, ac, bc))
  else if (decide (ac < 7) && decide (bc < 7)) = true then pure (ForInStep.done (none, na - 1, nb, out.push x, mg, ac, bc))
  else pure (ForInStep.yield (none, na - 1, nb, out.push x, mg, ac, bc))
theorem hiJp2_ok {a b : Array Keyed} {st0 st : SortSt} {Q : Array Keyed → SortSt → Prop} (C : Cmp M A E s κ U L) (EN : HiE L a b st0 Q) {N mg ac bc na nb : Nat} {out : Array Keyed} {x : Keyed} (hx : a.toList[na - 1]? = some x) (ex : (a.toList.take na).reverse = x :: (a.toList.take (na - 1)).reverse)
    (m : Mrh L a.toList b.toList out na nb) (h0 : 1 < nb) (h1 : nb ≤ b.size) (h3 : na ≤ a.size) (hn : na - 1 + nb + N ≤ a.size + b.size) (low : ∀ z ∈ b.toList.take nb, L z x = true) (S : SameSt st0 st) : wpS M A E s (hiJp2 a b mg ac bc na nb out) (HiR L a b st0 Q N N) st := by
  refine wpS_bind (wpS_elem (get_of hx) ?_)
  have m6 : Mrh L a.toList b.toList (out.push x) (na - 1) nb := by
    unfold Mrh at m ⊢
    rw [ex] at m
    rw [Array.toList_push]
    exact m.stepA C.ord.flip fun z hz => C.ord.asym _ _ (low z (List.mem_reverse.mp hz))
  refine wpS_ite (fun c => wpS_pure (.ret _ _ _ (EN.fd _ _ _ _ m6 (.inl (beq_iff_eq.mp c)) S))) fun c => ?_
  have I : HiI L a b st0 N (na - 1) nb (out.push x) st := ⟨S, m6, Nat.pos_of_ne_zero fun e => c (beq_iff_eq.mpr e), Nat.le_trans (Nat.sub_le _ _) h3, h0, h1, hn⟩
  exact wpS_ite (fun _ => wpS_pure (.brk _ _ _ _ _ I)) fun _ => wpS_pure (.go _ _ _ _ _ I)
noncomputable def hiJp (a b : Array Keyed) (mg k bc nb na : Nat) (out : Array Keyed) : SM (ForInStep (HiT (Nat × Nat × Nat))) := do
  let y ← elem' b (nb - 1)
  if (nb - 1 == 1) = true then pure (ForInStep.done (some (b.extract 0 (nb - 1) ++ a.extract 0 na ++ (out.push y).reverse), na, nb - 1, out.push y, mg, k, bc))
  else do
    let x ← elem' a (na - 1)
    let some at_ ← gallopP true x b 0 (nb - 1) (nb - 1 - 1) | pure (ForInStep.done (some (a.extract 0 na ++ b.extract 0 (nb - 1) ++ (out.push y).reverse), na, nb - 1, out.push y, mg, k, bc))
    if nb - 1 - at_ > 0 then
      if (at_ == 1) = true then pure (ForInStep.done (some (b.extract 0 at_ ++ a.extract 0 na ++ (out.push y ++ (b.extract at_ (nb - 1)).reverse).reverse), na, at_, out.push y ++ (b.extract at_ (nb - 1)).reverse, mg, k, nb - 1 - at_))
      else if (at_ == 0) = true then pure (ForInStep.done (some (a.extract 0 na ++ b.extract 0 at_ ++ (out.push y ++ (b.extract at_ (nb - 1)).reverse).reverse), na, at_, out.push y ++ (b.extract at_ (nb - 1)).reverse, mg, k, nb - 1 - at_))
      else hiJp2 a b mg k (nb - 1 - at_) na at_ (out.push y ++ (b.extract at_ (nb - 1)).reverse)
    else hiJp2 a b mg k (nb - 1 - at_) na (nb - 1) (out.push y)
theorem hiJp_ok {a b : Array Keyed} {st0 st : SortSt} {Q : Array Keyed → SortSt → Prop} (C : Cmp M A E s κ U L) (EN : HiE L a b st0 Q) (ua : ∀ x ∈ a.toList, U x) (ub : ∀ x ∈ b.toList, U x) (sb : Srt L b.toList) (hk : kindOf st0 = κ) {N mg k bc na nb : Nat} {out : Array Keyed} {y : Keyed} (hy : b.toList[nb - 1]? = some y) (ey : (b.toList.take nb).reverse = y :: (b.toList.take (nb - 1)).reverse)
    (m : Mrh L a.toList b.toList out na nb) (h0 : 1 < nb) (h1 : nb ≤ b.size) (h2 : 0 < na) (h3 : na ≤ a.size) (hn : na + nb + N ≤ a.size + b.size) (small : ∀ x ∈ a.toList.take na, L y x = false) (S : SameSt st0 st) : wpS M A E s (hiJp a b mg k bc nb na out) (HiR L a b st0 Q N N) st := by
  have O := C.ord.flip
  refine wpS_bind (wpS_elem (get_of hy) ?_)
  have m4 : Mrh L a.toList b.toList (out.push y) na (nb - 1) := by
    unfold Mrh at m ⊢
    rw [ey] at m
    rw [Array.toList_push]
    exact m.stepB O fun z hz => small z (List.mem_reverse.mp hz)
  refine wpS_ite (fun c => wpS_pure (.ret _ _ _ (EN.fl _ _ _ _ m4 (beq_iff_eq.mp c) S))) fun c => ?_
  have c' : ¬ (nb - 1 = 1) := fun e => c (beq_iff_eq.mpr e)
  obtain ⟨x, hx, ex⟩ := take_at (a := a) h2 h3
  refine wpS_bind (wpS_elem (get_of hx) ?_)
  have stb : Srt L (b.toList.take (nb - 1)) := List.Pairwise.sublist (List.take_sublist _ _) sb
  refine wpS_bind (wpS_gallopS C (b.toList.take (nb - 1)) (fun i hi => by rw [List.getElem?_take, if_pos hi]; simp) (by rw [List.length_take, Array.length_toList]; lia) stb (fun x hx => ub x (List.mem_of_mem_take hx)) (ua x (List.mem_of_getElem? hx)) (S.kind.trans hk) (by lia) fun k' hk1' p1 p2 => ?_)
  have p1' : ∀ z ∈ b.toList.take k', L z x = true := fun z hz => by
    have := p1 z (by rw [List.take_take, Nat.min_eq_left hk1']; exact hz); simpa [bey] using this
  have p2' : ∀ z ∈ (b.toList.take (nb - 1)).drop k', L z x = false := fun z hz => by have := p2 z hz; simpa [bey] using this
  refine wpS_ite (fun kp => ?_) fun kp => ?_
  · have m5 : Mrh L a.toList b.toList (out.push y ++ (b.extract k' (nb - 1)).reverse) na k' := by
      unfold Mrh at m4 ⊢
      rw [Array.toList_append, Array.toList_reverse, extract_mid]
      refine Mrg.chunkB O ?_ fun z hz w hw => ?_
      · rw [← take_split _ hk1']; exact m4
      · have := m4.sa; rw [ex] at this hw
        exact O.trans _ _ _ (p2' z (List.mem_reverse.mp hz)) (Srt.head_le O this w hw)
    refine wpS_ite (fun c => wpS_pure (.ret _ _ _ (EN.fl _ _ _ _ m5 (beq_iff_eq.mp c) S))) fun c1 => ?_
    refine wpS_ite (fun c => wpS_pure (.ret _ _ _ (EN.fd _ _ _ _ m5 (.inr (beq_iff_eq.mp c)) S))) fun c2 => ?_
    have d1 : ¬ (k' = 1) := fun e => c1 (beq_iff_eq.mpr e)
    have d2 : ¬ (k' = 0) := fun e => c2 (beq_iff_eq.mpr e)
    exact hiJp2_ok C EN hx ex m5 (by lia) (by lia) h3 (by lia) p1' S
  · have e : k' = nb - 1 := by lia
    exact hiJp2_ok C EN hx ex m4 (by lia) (by lia) h3 (by lia) (e ▸ p1') S
noncomputable def hiGo (a b : Array Keyed) (mg ac bc nb na : Nat) (out : Array Keyed) : SM (ForInStep (HiT (Nat × Nat × Nat))) := do
  setMinGallopP mg
  let y ← elem' b (nb - 1)
  let some at_ ← gallopP false y a 0 na (na - 1) | pure (ForInStep.done (some (a.extract 0 na ++ b.extract 0 nb ++ out.reverse), na, nb, out, mg, ac, bc))
  if na - at_ > 0 then
    if (at_ == 0) = true then pure (ForInStep.done (some (a.extract 0 at_ ++ b.extract 0 nb ++ (out ++ (a.extract at_ na).reverse).reverse), at_, nb, out ++ (a.extract at_ na).reverse, mg, na - at_, bc))
    else hiJp a b mg (na - at_) bc nb at_ (out ++ (a.extract at_ na).reverse)
  else hiJp a b mg (na - at_) bc nb na out
theorem hiGo_ok {a b : Array Keyed} {st0 st : SortSt} {Q : Array Keyed → SortSt → Prop} (C : Cmp M A E s κ U L) (EN : HiE L a b st0 Q) (ua : ∀ x ∈ a.toList, U x) (ub : ∀ x ∈ b.toList, U x) (sa : Srt L a.toList) (sb : Srt L b.toList) (hk : kindOf st0 = κ) {N mg ac bc na nb : Nat} {out : Array Keyed} (I : HiI L a b st0 N na nb out st) :
    wpS M A E s (hiGo a b mg ac bc nb na out) (HiR L a b st0 Q N N) st := by
  obtain ⟨S3, m, a0, a1, b0, b1, pr⟩ := I
  have O := C.ord.flip
  refine wpS_bind (wpS_setMin fun st4 s4 => ?_)
  have S := S3.trans s4
  obtain ⟨y, hy, ey⟩ := take_at (a := b) (Nat.lt_of_succ_lt b0) b1
  refine wpS_bind (wpS_elem (get_of hy) ?_)
  have sta : Srt L (a.toList.take na) := List.Pairwise.sublist (List.take_sublist _ _) sa
  refine wpS_bind (wpS_gallopS C (a.toList.take na) (fun i hi => by rw [List.getElem?_take, if_pos hi]; simp) (by rw [List.length_take, Array.length_toList]; exact Nat.min_eq_left a1) sta (fun x hx => ua x (List.mem_of_mem_take hx)) (ub y (List.mem_of_getElem? hy)) (S.kind.trans hk) (Nat.sub_lt a0 Nat.one_pos) fun k hk1 k1 k2 => ?_)
  have k1' : ∀ z ∈ a.toList.take k, L y z = false := fun z hz => by
    have := k1 z (by rw [List.take_take, Nat.min_eq_left hk1]; exact hz); simpa [bey] using this
  have k2' : ∀ z ∈ (a.toList.take na).drop k, L y z = true := fun z hz => by have := k2 z hz; simpa [bey] using this
  refine wpS_ite (fun kp => ?_) fun kp => ?_
  · have m5 : Mrh L a.toList b.toList (out ++ (a.extract k na).reverse) k nb := by
      unfold Mrh at m ⊢
      rw [Array.toList_append, Array.toList_reverse, extract_mid]
      refine Mrg.chunkA O ?_ fun z hz w hw => ?_
      · rw [← take_split _ hk1]; exact m
      · have := m.sb; rw [ey] at this hw
        exact O.asym _ _ (O.lt_le (L := fun x y => L y x) (k2' z (List.mem_reverse.mp hz)) (Srt.head_le O this w hw))
    refine wpS_ite (fun c => wpS_pure (.ret _ _ _ (EN.fd _ _ _ _ m5 (.inl (beq_iff_eq.mp c)) S))) fun c => ?_
    exact hiJp_ok C EN ua ub sb hk hy ey m5 b0 b1 (Nat.pos_of_ne_zero fun e => c (beq_iff_eq.mpr e)) (Nat.le_trans hk1 a1) (by lia) k1' S
  · have e : k = na := by lia
    exact hiJp_ok C EN ua ub sb hk hy ey m b0 b1 a0 a1 pr (e ▸ k1') S
noncomputable def hiOne (a b : Array Keyed) (mg na nb : Nat) (out : Array Keyed) (ac bc : Nat) : SM (ForInStep (HiT (Nat × Nat))) := do
  let y ← elem' b (nb - 1)
  let x ← elem' a (na - 1)
  let some w ← lt' y x | pure (ForInStep.done (some (a.extract 0 na ++ b.extract 0 nb ++ out.reverse), na, nb, out, ac, bc))
  if w = true then do
    let z ← elem' a (na - 1)
    if (na - 1 == 0) = true then pure (ForInStep.done (some (a.extract 0 (na - 1) ++ b.extract 0 nb ++ (out.push z).reverse), na - 1, nb, out.push z, ac + 1, 0))
    else if ac + 1 ≥ mg then pure (ForInStep.done (none, na - 1, nb, out.push z, ac + 1, 0))
    else pure (ForInStep.yield (none, na - 1, nb, out.push z, ac + 1, 0))
  else do
    let z ← elem' b (nb - 1)
    if (nb - 1 == 1) = true then pure (ForInStep.done (some (b.extract 0 (nb - 1) ++ a.extract 0 na ++ (out.push z).reverse), na, nb - 1, out.push z, 0, bc + 1))
    else if bc + 1 ≥ mg then pure (ForInStep.done (none, na, nb - 1, out.push z, 0, bc + 1))
    else pure (ForInStep.yield (none, na, nb - 1, out.push z, 0, bc + 1))
theorem hiOne_ok {a b : Array Keyed} {st0 st : SortSt} {Q : Array Keyed → SortSt → Prop} (C : Cmp M A E s κ U L) (EN : HiE L a b st0 Q) (ua : ∀ x ∈ a.toList, U x) (ub : ∀ x ∈ b.toList, U x) (hk : kindOf st0 = κ) {N Nb Ng mg ac bc na nb : Nat} {out : Array Keyed} (I : HiI L a b st0 N na nb out st) (hb : Nb ≤ N + 1) (hg : Ng ≤ N + 1) :
    wpS M A E s (hiOne a b mg na nb out ac bc) (HiR L a b st0 Q Nb Ng) st := by
  obtain ⟨S, m, a0, a1, b0, b1, pr⟩ := I
  have O := C.ord.flip
  obtain ⟨x, hx, ex⟩ := take_at a0 a1
  obtain ⟨y, hy, ey⟩ := take_at (a := b) (Nat.lt_of_succ_lt b0) b1
  refine wpS_bind (wpS_elem (get_of hy) (wpS_bind (wpS_elem (get_of hx) (wpS_bind (C.lt y x (ub y (List.mem_of_getElem? hy)) (ua x (List.mem_of_getElem? hx)) st _ (S.kind.trans hk) ?_)))))
  refine wpS_ite (fun q => ?_) fun q => ?_
  · refine wpS_bind (wpS_elem (get_of hx) ?_)
    have m' : Mrh L a.toList b.toList (out.push x) (na - 1) nb := by
      unfold Mrh at m ⊢
      rw [ex] at m
      rw [Array.toList_push]
      refine m.stepA O fun z hz => ?_
      have := m.sb; rw [ey] at this hz
      exact O.asym _ _ (O.lt_le (L := fun x y => L y x) q (Srt.head_le O this z hz))
    refine wpS_ite (fun c => wpS_pure (.ret _ _ _ (EN.fd _ _ _ _ m' (.inl (beq_iff_eq.mp c)) S))) fun c => ?_
    have c' : 0 < na - 1 := Nat.pos_of_ne_zero fun e => c (beq_iff_eq.mpr e)
    have d : na - 1 ≤ a.size := Nat.le_trans (Nat.sub_le _ _) a1
    exact wpS_ite (fun _ => wpS_pure (.brk _ _ _ _ _ ⟨S, m', c', d, b0, b1, by lia⟩)) fun _ => wpS_pure (.go _ _ _ _ _ ⟨S, m', c', d, b0, b1, by lia⟩)
  · refine wpS_bind (wpS_elem (get_of hy) ?_)
    have m' : Mrh L a.toList b.toList (out.push y) na (nb - 1) := by
      unfold Mrh at m ⊢
      rw [ey] at m
      rw [Array.toList_push]
      refine m.stepB O fun z hz => ?_
      have := m.sa; rw [ex] at this hz
      exact O.trans _ _ _ (eq_false_of_ne_true q) (Srt.head_le O this z hz)
    refine wpS_ite (fun c => wpS_pure (.ret _ _ _ (EN.fl _ _ _ _ m' (beq_iff_eq.mp c) S))) fun c => ?_
    have c' : ¬ (nb - 1 = 1) := fun e => c (beq_iff_eq.mpr e)
    have d : nb - 1 ≤ b.size := Nat.le_trans (Nat.sub_le _ _) b1
    have c2 : 1 < nb - 1 := by lia
    exact wpS_ite (fun _ => wpS_pure (.brk _ _ _ _ _ ⟨S, m', a0, a1, c2, d, by lia⟩)) fun _ => wpS_pure (.go _ _ _ _ _ ⟨S, m', a0, a1, c2, d, by lia⟩)
set_option maxHeartbeats 4000000 in
theorem wpS_mergeHi (C : Cmp M A E s κ U L) {a b : Array Keyed} {st : SortSt} {Q : Array Keyed → SortSt → Prop} (ua : ∀ x ∈ a.toList, U x) (ub : ∀ x ∈ b.toList, U x) (sa : Srt L a.toList) (sb : Srt L b.toList)
    (ha : 0 < a.size) (hb : 0 < b.size) (h0 : ∀ x y, a.toList[0]? = some x → b.toList[0]? = some y → L y x = true) (hlast : ∀ x y, a.toList[a.size - 1]? = some x → y ∈ b.toList → L x y = false)
    (hk : kindOf st = κ) (hQ : ∀ r st', SameSt st st' → r.toList.Perm (a.toList ++ b.toList) → Srt L r.toList → Q r st') : wpS M A E s (mergeHiP a b) Q st := by
  have O := C.ord.flip
  have fin : ∀ {r : Array Keyed} {xs : List Keyed} {st' : SortSt}, r.toList = xs.reverse → xs.Perm (a.toList ++ b.toList) → Srt (fun x y => L y x) xs → SameSt st st' → Q r st' := by
    intro r xs st' e p so hs
    refine hQ _ _ hs ?_ ?_
    · rw [e]; exact (List.reverse_perm xs).trans p
    · rw [e]; exact so.unrev
  have EN : HiE L a b st Q := by
    refine ⟨fun na nb out st' m h hs => ?_, fun na nb out st' m h hs => ?_⟩
    · have e : (a.extract 0 na ++ b.extract 0 nb ++ out.reverse).toList = a.toList.take na ++ b.toList.take nb ++ out.toList.reverse := by
        rw [Array.toList_append, Array.toList_append, extract_pre, extract_pre, Array.toList_reverse]
      rcases h with rfl | rfl
      · have m' : Mrg (fun x y => L y x) (a.toList ++ b.toList) out.toList [] (b.toList.take nb).reverse := by have := m; unfold Mrh at this; simpa using this
        exact fin (xs := out.toList ++ (b.toList.take nb).reverse) (by rw [e]; simp) m'.endB.1 m'.endB.2 hs
      · have m' : Mrg (fun x y => L y x) (a.toList ++ b.toList) out.toList (a.toList.take na).reverse [] := by have := m; unfold Mrh at this; simpa using this
        exact fin (xs := out.toList ++ (a.toList.take na).reverse) (by rw [e]; simp) m'.endA.1 m'.endA.2 hs
    · subst h
      obtain ⟨y, hy, ey⟩ := take_at (a := b) (n := 1) Nat.one_pos hb
      have e1 : b.toList.take 1 = [y] := by
        have := congrArg List.reverse ey; simpa using this
      have e : (b.extract 0 1 ++ a.extract 0 na ++ out.reverse).toList = [y] ++ a.toList.take na ++ out.toList.reverse := by
        rw [Array.toList_append, Array.toList_append, extract_pre, extract_pre, Array.toList_reverse, e1]
      have m' : Mrg (fun x y => L y x) (a.toList ++ b.toList) out.toList ((a.toList.take na).reverse ++ []) [y] := by
        have := m; unfold Mrh at this; rw [e1] at this; simpa using this
      have m2 := Mrg.chunkA O m' fun x hx z hz => by
        rw [List.mem_singleton.mp hz]
        have hx' : x ∈ a.toList := List.mem_of_mem_take (List.mem_reverse.mp hx)
        obtain ⟨a0, ha0, ea0⟩ := drop_at ha
        rw [List.drop_zero] at ea0
        have hx2 := hx'; rw [ea0] at hx2
        have sa2 := sa; rw [ea0] at sa2
        exact C.ord.asym _ _ (C.ord.lt_le (h0 a0 y ha0 (by simpa using hy)) (Srt.head_le C.ord sa2 x hx2))
      refine fin (xs := out.toList ++ (a.toList.take na).reverse ++ [y]) (by rw [e]; simp) ?_ ?_ hs
      · exact m2.endB.1
      · exact m2.endB.2
  rw [mergeHiP_eq]
  refine wpS_bind (wpS_rule ?_)
  obtain ⟨al, hal, eal⟩ := take_at (a := a) ha (Nat.le_refl _)
  have ta : a.toList.take a.size = a.toList := by rw [← Array.length_toList, List.take_length]
  have tb : b.toList.take b.size = b.toList := by rw [← Array.length_toList, List.take_length]
  refine wpS_bind (wpS_elem (get_of hal) ?_)
  have m1 : Mrh L a.toList b.toList (#[al] : Array Keyed) (a.size - 1) b.size := by
    have m0 : Mrg (fun x y => L y x) (a.toList ++ b.toList) [] (al :: (a.toList.take (a.size - 1)).reverse) b.toList.reverse := by
      rw [ta] at eal
      refine ⟨?_, .nil, eal ▸ sa.rev, sb.rev, fun x hx => by cases hx⟩
      rw [← eal, List.nil_append]
      exact (List.reverse_perm _).append (List.reverse_perm _)
    have := m0.stepA O fun y hy => hlast al y hal (List.mem_reverse.mp hy)
    unfold Mrh; rw [tb]; simpa using this
  refine wpS_ite (fun c => wpS_pure (EN.fd _ _ _ _ m1 (.inl (beq_iff_eq.mp c)) (.refl st))) fun c1 => ?_
  refine wpS_ite (fun c => wpS_pure (EN.fl _ _ _ _ m1 (beq_iff_eq.mp c) (.refl st))) fun c2 => ?_
  have c1' : 0 < a.size - 1 := Nat.pos_of_ne_zero fun e => c1 (beq_iff_eq.mpr e)
  have c2' : 1 < b.size := Nat.lt_of_le_of_ne hb fun e => c2 (beq_iff_eq.mpr e.symm)
  refine wpS_bind (wpS_get ?_)
  refine wpS_bind (wpS_mono (hi_loop (a := a) (b := b) (st0 := st) (Q := Q) (N := fun j => j + 1) (Ne := a.size + b.size + 5) (fun j na nb out mg st1 hj I => ?_) (fun na nb out st1 I => ?_) ⟨.refl st, m1, c1', Nat.sub_le _ _, c2', Nat.le_refl _, by lia⟩) fun r st1 h => ?_)
  · refine wpS_bind (wpS_mono (hi_loop (a := a) (b := b) (st0 := st) (Q := Q) (N := fun i => i + (a.size + b.size - (na + nb))) (Ne := a.size + b.size - (na + nb) + 1) (fun i na1 nb1 out1 c st2 hi I1 => hiOne_ok (mg := mg) C EN ua ub hk I1 ?_ ?_) (fun na1 nb1 out1 st2 I1 => ?_) ⟨I.S, I.m, I.a0, I.a1, I.b0, I.b1, ?_⟩) fun r st2 h => ?_)
    · show _ ≤ i + _ + 1; lia
    · show i + 1 + _ ≤ i + _ + 1; lia
    · exact absurd I1.pr (by have := I1.a0; lia)
    · show na + nb + (0 + (a.size + b.size - (na + nb))) ≤ _
      have := I.pr; lia
    cases h with
    | ret x c _ q => exact wpS_pure (.ret _ _ _ q)
    | on na1 nb1 out1 c _ I1 =>
      refine wpS_bind (wpS_rule ?_)
      refine wpS_bind (wpS_mono (hi_loop (a := a) (b := b) (st0 := st) (Q := Q) (N := fun _ => a.size + b.size - (na + nb) + 1) (Ne := a.size + b.size - (na + nb) + 1) (fun i na2 nb2 out2 c st3 hi I2 => ?_) (fun _ _ _ _ h => h) I1) fun r st3 h => ?_)
      · refine wpS_ite (fun _ => ?_) fun _ => ?_
        · exact hiGo_ok C EN ua ub sa sb hk I2
        · exact hiGo_ok C EN ua ub sa sb hk I2
      cases h with
      | ret x c _ q => exact wpS_pure (.ret _ _ _ q)
      | on na2 nb2 out2 c _ I2 =>
        refine wpS_bind (wpS_setMin fun st4 s4 => ?_)
        exact wpS_pure (.go _ _ _ _ _ ⟨I2.S.trans s4, I2.m, I2.a0, I2.a1, I2.b0, I2.b1, by have := I2.pr; have := I.pr; lia⟩)
  · exact absurd I.pr (by have := I.a0; lia)
  · cases h with
    | ret x c _ q => exact wpS_pure q
    | on na1 nb1 out1 c _ I1 => exact absurd I1.pr (by lia)
end
end Mine
end
-- text T6
section
set_option autoImplicit false
set_option linter.unusedVariables false
namespace Mine
open PySem PyProof.Rows
theorem mergeAtP_eq (i : Nat) : mergeAtP i = (do
  let s ← get
  let (some (sa, na, power), some (sb, nb, _)) := ((pendingOf s)[i]?, (pendingOf s)[i + 1]?) | unsupported "internal:list.sort.pending"
  set (SortSt.mk' (kindOf s) (arrOf s) (((pendingOf s).setIfInBounds i (sa, na + nb, power)).eraseIdxIfInBounds (i + 1)) (gallopOf s) (failedOf s))
  let some k ← gallopP false (← elem' (arrOf s) sb) (arrOf s) sa na 0 | return false
  let (sa, na) := (sa + k, na - k)
  if na == 0 then return true
  let some nb ← gallopP true (← elem' (arrOf s) (sa + na - 1)) (arrOf s) sb nb (nb - 1) | return false
  if nb == 0 then return true
  let x := (arrOf s).extract sa sb
  let y := (arrOf s).extract sb (sb + nb)
  let merged ← if na ≤ nb then mergeLoP x y else mergeHiP x y
  modify fun s => setArr s (merged.toList.zipIdx.foldl (fun a (p, j) => a.setIfInBounds (sa + j) p) (arrOf s))
  return (failedOf (← get)).isNone) := rfl
theorem foldl_set {α : Type} : ∀ (xs : List α) (k lo : Nat) (a : Array α), lo + k + xs.length ≤ a.size →
    ((xs.zipIdx k).foldl (fun (a : Array α) (p : α × Nat) => a.setIfInBounds (lo + p.2) p.1) a).toList = a.toList.take (lo + k) ++ xs ++ a.toList.drop (lo + k + xs.length)
  | [], k, lo, a, h => by simp
  | x :: r, k, lo, a, h => by
    rw [List.zipIdx_cons, List.foldl_cons]
    dsimp only
    have hlen : lo + k < a.size := by simp at h; lia
    rw [foldl_set r (k + 1) lo _ (by simp at h ⊢; lia)]
    rw [Array.toList_setIfInBounds]
    have hl : lo + k < a.toList.length := by simpa using hlen
    have e1 : (a.toList.set (lo + k) x).take (lo + (k + 1)) = a.toList.take (lo + k) ++ [x] := by
      rw [show lo + (k + 1) = (lo + k) + 1 by lia, List.take_succ_eq_append_getElem (by simpa using hlen)]
      rw [List.take_set_of_le (Nat.le_refl _)]
      simp
    have e2 : (a.toList.set (lo + k) x).drop (lo + (k + 1) + r.length) = a.toList.drop (lo + k + (x :: r).length) := by
      rw [List.drop_set_of_lt (by lia)]
      congr 1; simp; lia
    rw [e1, e2]; simp
theorem eraseIdx_map' {α β : Type} (f : α → β) : ∀ (xs : List α) (i : Nat), (xs.eraseIdx i).map f = (xs.map f).eraseIdx i
  | [], i => by simp
  | x :: r, 0 => by simp
  | x :: r, i + 1 => by simp [eraseIdx_map' f r i]
noncomputable def starts : Nat → List (List Keyed) → List (Nat × Nat)
  | _, [] => []
  | lo, g :: r => (lo, g.length) :: starts (lo + g.length) r
theorem starts_append : ∀ (a b : List (List Keyed)) (lo : Nat), starts lo (a ++ b) = starts lo a ++ starts (lo + a.flatten.length) b
  | [], b, lo => by simp [starts]
  | g :: r, b, lo => by
    simp only [List.cons_append, starts, starts_append r b, List.flatten_cons, List.length_append, Nat.add_assoc]
theorem starts_length : ∀ (a : List (List Keyed)) (lo : Nat), (starts lo a).length = a.length
  | [], _ => rfl
  | g :: r, lo => by simp [starts, starts_length r]
structure Runs (L : Keyed → Keyed → Bool) (st : SortSt) (segs : List (List Keyed)) (rest : List Keyed) : Prop where
  arr : (arrOf st).toList = segs.flatten ++ rest
  srt : ∀ g ∈ segs, g ≠ [] ∧ Srt L g
  pend : (pendingOf st).toList.map (fun p => (p.1, p.2.1)) = starts 0 segs
section
variable {M : Model} {A : Around} {E : Value → Shared → Prop} {s : Shared} {κ : SortKind} {U : Keyed → Prop} {L : Keyed → Keyed → Bool}
theorem slice_get {α : Type} (pre mid post : List α) (i : Nat) (h : i < mid.length) : (pre ++ (mid ++ post))[pre.length + i]? = mid[i]? := by
  rw [List.getElem?_append_right (by lia), Nat.add_sub_cancel_left, List.getElem?_append_left h]
set_option maxHeartbeats 2000000 in
theorem wpS_mergeAt (C : Cmp M A E s κ U L) {st : SortSt} {Q : Bool → SortSt → Prop} {s1 s2 : List (List Keyed)} {a b rest : List Keyed} {i : Nat} (hi : s1.length = i) (R : Runs L st (s1 ++ a :: b :: s2) rest) (hu : ∀ x ∈ (arrOf st).toList, U x)
    (hk : kindOf st = κ) (hf : failedOf st = none)
    (hQ : ∀ st' m, m.Perm (a ++ b) → Srt L m → Runs L st' (s1 ++ m :: s2) rest → kindOf st' = κ → failedOf st' = none → (pendingOf st').size + 1 = (pendingOf st).size → Q true st') : wpS M A E s (mergeAtP i) Q st := by
  obtain ⟨ane, sa⟩ := R.srt a (by simp)
  obtain ⟨bne, sb⟩ := R.srt b (by simp)
  have la : 0 < a.length := List.length_pos_iff.mpr ane
  have lb : 0 < b.length := List.length_pos_iff.mpr bne
  have hp := R.pend
  rw [starts_append] at hp
  simp only [starts, Nat.zero_add] at hp
  generalize hpre : s1.flatten = pre at hp
  have hpl : ((pendingOf st).toList.map (fun p => (p.1, p.2.1)))[i]? = some (pre.length, a.length) := by
    rw [hp, List.getElem?_append_right (by rw [starts_length]; lia), starts_length, hi]; simp
  have hpl2 : ((pendingOf st).toList.map (fun p => (p.1, p.2.1)))[i + 1]? = some (pre.length + a.length, b.length) := by
    rw [hp, List.getElem?_append_right (by rw [starts_length]; lia), starts_length, hi, show i + 1 - i = 1 by lia]; simp
  rw [List.getElem?_map] at hpl hpl2
  obtain ⟨⟨u1, u2, pw⟩, g1, e1⟩ := Option.map_eq_some_iff.mp hpl
  obtain ⟨⟨v1, v2, pw2⟩, g2, e2⟩ := Option.map_eq_some_iff.mp hpl2
  simp only [Prod.mk.injEq] at e1 e2
  obtain ⟨rfl, rfl⟩ := e1
  obtain ⟨rfl, rfl⟩ := e2
  have G1 : (pendingOf st)[i]? = some (pre.length, a.length, pw) := by simpa using g1
  have G2 : (pendingOf st)[i + 1]? = some (pre.length + a.length, b.length, pw2) := by simpa using g2
  have harr : (arrOf st).toList = pre ++ (a ++ (b ++ (s2.flatten ++ rest))) := by
    rw [R.arr]; simp [hpre]
  have geta : ∀ j, j < a.length → (arrOf st)[pre.length + j]? = a[j]? := fun j hj => by
    rw [← Array.getElem?_toList, harr]; exact slice_get pre a _ j hj
  have getb : ∀ j, j < b.length → (arrOf st)[pre.length + a.length + j]? = b[j]? := fun j hj => by
    rw [← Array.getElem?_toList, harr, ← List.append_assoc]
    have := slice_get (pre ++ a) b (s2.flatten ++ rest) j hj
    rw [List.length_append] at this; exact this
  have ua : ∀ x ∈ a, U x := fun x hx => hu x (by rw [harr]; simp [hx])
  have ub : ∀ x ∈ b, U x := fun x hx => hu x (by rw [harr]; simp [hx])
  obtain ⟨b0, hb0, eb0⟩ := drop_get (xs := b) (i := 0) lb
  rw [List.drop_zero] at eb0
  have ends : ∀ (st' : SortSt) (m : List Keyed), m.Perm (a ++ b) → Srt L m → (arrOf st').toList = pre ++ (m ++ (s2.flatten ++ rest)) → kindOf st' = κ → failedOf st' = none →
      pendingOf st' = ((pendingOf st).setIfInBounds i (pre.length, a.length + b.length, pw)).eraseIdxIfInBounds (i + 1) → Q true st' := by
    intro st' m pm sm ha' hk' hf' hp'
    have hsz : i + 1 < (pendingOf st).size := by
      rcases Nat.lt_or_ge (i + 1) (pendingOf st).size with q | q
      · exact q
      · rw [Array.getElem?_eq_none q] at G2; cases G2
    have hml : m.length = a.length + b.length := by rw [pm.length_eq, List.length_append]
    have hpt : (pendingOf st').toList = ((pendingOf st).toList.set i (pre.length, a.length + b.length, pw)).eraseIdx (i + 1) := by
      rw [hp']
      unfold Array.eraseIdxIfInBounds
      rw [dif_pos (by simpa using hsz), Array.toList_eraseIdx, Array.toList_setIfInBounds]
    refine hQ st' m pm sm ⟨?_, ?_, ?_⟩ hk' hf' ?_
    · rw [ha']; simp [hpre]
    · intro g hg
      rcases List.mem_append.mp hg with hg | hg
      · exact R.srt g (by simp [hg])
      · rcases List.mem_cons.mp hg with rfl | hg
        · exact ⟨fun e => by rw [e] at hml; simp at hml; lia, sm⟩
        · exact R.srt g (by simp [hg])
    · rw [hpt, eraseIdx_map', List.map_set, hp, starts_append]
      simp only [starts, Nat.zero_add, hpre]
      have l1 : (starts 0 s1).length = i := by rw [starts_length, hi]
      rw [List.set_append_right _ _ (by lia), l1, Nat.sub_self, List.set_cons_zero, List.eraseIdx_append_of_length_le (by lia), l1, show i + 1 - i = 1 by lia]
      simp only [List.eraseIdx_cons_succ, List.eraseIdx_cons_zero]
      rw [hml, Nat.add_assoc]
    · rw [← Array.length_toList, hpt, List.length_eraseIdx, if_pos (by simpa using hsz), List.length_set, Array.length_toList]; lia
  rw [mergeAtP_eq]
  refine wpS_bind (wpS_get ?_)
  simp only [G1, G2]
  refine wpS_bind ?_
  have hset : ∀ {st1 : SortSt} {Q' : PUnit → SortSt → Prop}, Q' ⟨⟩ st1 → wpS M A E s (set st1 : SM PUnit) Q' st := fun {st1 Q'} h => by
    unfold wpS; rw [StateT.run_set]; exact wpAny_pure ⟨rfl, h⟩
  refine hset ?_
  generalize hst1 : SortSt.mk' (kindOf st) (arrOf st) (((pendingOf st).setIfInBounds i (pre.length, a.length + b.length, pw)).eraseIdxIfInBounds (i + 1)) (gallopOf st) (failedOf st) = st1
  have k1 : kindOf st1 = κ := by rw [← hst1]; exact hk
  have f1 : failedOf st1 = none := by rw [← hst1]; exact hf
  have a1 : arrOf st1 = arrOf st := by rw [← hst1]
  have p1 : pendingOf st1 = ((pendingOf st).setIfInBounds i (pre.length, a.length + b.length, pw)).eraseIdxIfInBounds (i + 1) := by rw [← hst1]
  have ub0 : U b0 := ub b0 (List.mem_of_getElem? hb0)
  refine wpS_bind (wpS_elem (x := b0) (by have := getb 0 lb; simpa [hb0] using this) ?_)
  refine wpS_bind (wpS_gallopS C a geta rfl sa ua ub0 k1 la fun k hk1 q1 q2 => ?_)
  have q1' : ∀ x ∈ a.take k, L b0 x = false := fun x hx => by have := q1 x hx; simpa [bey] using this
  have q2' : ∀ x ∈ a.drop k, L b0 x = true := fun x hx => by have := q2 x hx; simpa [bey] using this
  have b0le : ∀ y ∈ b, L y b0 = false := fun y hy => by
    have sb2 := sb; rw [eb0] at sb2 hy
    exact Srt.head_le C.ord sb2 y hy
  dsimp only
  split
  · rename_i c
    have ek : k = a.length := by have : a.length - k = 0 := by simpa using c
                                 lia
    refine wpS_pure (ends st1 (a ++ b) (List.Perm.refl _) ?_ (by rw [a1, harr]; simp) k1 f1 p1)
    refine List.pairwise_append.mpr ⟨sa, sb, fun x hx y hy => ?_⟩
    exact C.ord.trans _ _ _ (q1' x (by rw [ek, List.take_length]; exact hx)) (b0le y hy)
  · rename_i c
    have ck : k < a.length := by have : ¬ (a.length - k = 0) := by simpa using c
                                 lia
    obtain ⟨al, hal, eal⟩ := take_get (xs := a) (n := a.length) la (Nat.le_refl _)
    have ual : U al := ua al (List.mem_of_getElem? hal)
    refine wpS_bind (wpS_elem (x := al) (by
      have := geta (a.length - 1) (by lia)
      rw [hal] at this; rw [← this]; congr 1; lia) ?_)
    refine wpS_bind (wpS_gallopS C b getb rfl sb ub ual k1 (by lia) fun n hn1 r1 r2 => ?_)
    have r1' : ∀ x ∈ b.take n, L x al = true := fun x hx => by have := r1 x hx; simpa [bey] using this
    have r2' : ∀ x ∈ b.drop n, L x al = false := fun x hx => by have := r2 x hx; simpa [bey] using this
    have ale : ∀ x ∈ a, L al x = false := fun x hx => by
      obtain ⟨j, hj⟩ := List.mem_iff_getElem?.mp hx
      exact sorted_get sa C.ord (by have := (List.getElem?_eq_some_iff.mp hj).1; lia) hj hal
    dsimp only
    split
    · rename_i c2
      have en : n = 0 := by simpa using c2
      subst en
      refine wpS_pure (ends st1 (a ++ b) (List.Perm.refl _) ?_ (by rw [a1, harr]; simp) k1 f1 p1)
      refine List.pairwise_append.mpr ⟨sa, sb, fun x hx y hy => ?_⟩
      exact C.ord.trans _ _ _ (ale x hx) (r2' y (by simpa using hy))
    · rename_i c2
      have cn : 0 < n := by have : ¬ (n = 0) := by simpa using c2
                            lia
      have ex : ((arrOf st).extract (pre.length + k) (pre.length + a.length)).toList = a.drop k := by
        rw [extract_mid, harr, ← List.append_assoc, List.take_append_of_le_length (by simp), List.take_of_length_le (by simp)]
        simp
      have ey : ((arrOf st).extract (pre.length + a.length) (pre.length + a.length + n)).toList = b.take n := by
        rw [extract_take, harr, ← List.append_assoc, List.drop_append_of_le_length (by simp), List.drop_of_length_le (by simp), List.nil_append, List.take_append_of_le_length hn1]
      have szx : ((arrOf st).extract (pre.length + k) (pre.length + a.length)).size = a.length - k := by rw [← Array.length_toList, ex, List.length_drop]
      have szy : ((arrOf st).extract (pre.length + a.length) (pre.length + a.length + n)).size = n := by rw [← Array.length_toList, ey, List.length_take]; lia
      have sx : Srt L (a.drop k) := List.Pairwise.sublist (List.drop_sublist _ _) sa
      have sy : Srt L (b.take n) := List.Pairwise.sublist (List.take_sublist _ _) sb
      have h0 : ∀ x y, (a.drop k)[0]? = some x → (b.take n)[0]? = some y → L y x = true := fun x y hx hy => by
        have hy' : y = b0 := by
          rw [List.getElem?_take, if_pos cn, hb0] at hy; cases hy; rfl
        rw [hy']; exact q2' x (List.mem_of_getElem? hx)
      have hlst : ∀ x y, (a.drop k)[a.length - k - 1]? = some x → y ∈ b.take n → L x y = false := fun x y hx hy => by
        rw [List.getElem?_drop, show k + (a.length - k - 1) = a.length - 1 by lia, hal] at hx
        cases hx
        exact C.ord.asym _ _ (r1' y hy)
      have after : ∀ (r : Array Keyed) (st2 : SortSt), SameSt st1 st2 → r.toList.Perm (a.drop k ++ b.take n) → Srt L r.toList →
          wpS M A E s (do
            modify fun s => setArr s (r.toList.zipIdx.foldl (fun (a : Array Keyed) (x : Keyed × Nat) => match x with | (p, j) => a.setIfInBounds (pre.length + k + j) p) (arrOf s))
            let __do_lift ← get
            pure (failedOf __do_lift).isNone) Q st2 := by
        intro r st2 S2 pr sr
        refine wpS_bind (wpS_modify ?_)
        refine wpS_bind (wpS_get ?_)
        have rl : r.toList.length = a.length - k + n := by rw [pr.length_eq, List.length_append, List.length_drop, List.length_take]; lia
        have arr2 : arrOf st2 = arrOf st := S2.arr.trans a1
        have hle : pre.length + k + 0 + r.toList.length ≤ (arrOf st2).size := by
          rw [arr2, ← Array.length_toList, harr, rl]; simp only [List.length_append]; lia
        have hfold := foldl_set r.toList 0 (pre.length + k) (arrOf st2) hle
        have hres : (r.toList.zipIdx.foldl (fun (a : Array Keyed) (x : Keyed × Nat) => match x with | (p, j) => a.setIfInBounds (pre.length + k + j) p) (arrOf st2)).toList = pre ++ (a.take k ++ r.toList ++ b.drop n) ++ (s2.flatten ++ rest) := by
          refine Eq.trans hfold ?_
          rw [arr2, harr, Nat.add_zero, rl]
          have t1 : (pre ++ (a ++ (b ++ (s2.flatten ++ rest)))).take (pre.length + k) = pre ++ a.take k := by
            rw [List.take_append, List.take_of_length_le (by lia), Nat.add_sub_cancel_left, List.take_append_of_le_length (by lia)]
          have t2 : (pre ++ (a ++ (b ++ (s2.flatten ++ rest)))).drop (pre.length + k + (a.length - k + n)) = b.drop n ++ (s2.flatten ++ rest) := by
            rw [show pre.length + k + (a.length - k + n) = (pre ++ a).length + n by rw [List.length_append]; lia, ← List.append_assoc, List.drop_append, List.drop_of_length_le (by lia), Nat.add_sub_cancel_left, List.nil_append, List.drop_append_of_le_length hn1]
          rw [t1, t2]; simp
        have fl : failedOf st2 = none := S2.fail.trans f1
        have goal : Q true (setArr st2 (r.toList.zipIdx.foldl (fun (a : Array Keyed) (x : Keyed × Nat) => match x with | (p, j) => a.setIfInBounds (pre.length + k + j) p) (arrOf st2))) := by
          refine ends _ (a.take k ++ r.toList ++ b.drop n) ?_ ?_ (by show (Array.toList _) = _; rw [hres]; simp) (S2.kind.trans k1) fl (S2.pend.trans p1)
          · have : (a.take k ++ r.toList ++ b.drop n).Perm (a.take k ++ (a.drop k ++ b.take n) ++ b.drop n) := (List.Perm.append_left _ pr).append_right _
            refine this.trans ?_
            rw [← List.append_assoc, List.take_append_drop, List.append_assoc, List.take_append_drop]
          · have memr : ∀ x ∈ r.toList, x ∈ a.drop k ∨ x ∈ b.take n := fun x hx => List.mem_append.mp (pr.mem_iff.mp hx)
            rw [List.append_assoc]
            refine List.pairwise_append.mpr ⟨List.Pairwise.sublist (List.take_sublist _ _) sa, ?_, fun x hx y hy => ?_⟩
            · refine List.pairwise_append.mpr ⟨sr, List.Pairwise.sublist (List.drop_sublist _ _) sb, fun x hx y hy => ?_⟩
              rcases memr x hx with q | q
              · exact C.ord.trans _ _ _ (ale x (List.mem_of_mem_drop q)) (r2' y hy)
              · have := List.take_append_drop n b ▸ sb
                exact (List.pairwise_append.mp this).2.2 x q y hy
            · rcases List.mem_append.mp hy with hy | hy
              · rcases memr y hy with q | q
                · have := List.take_append_drop k a ▸ sa
                  exact (List.pairwise_append.mp this).2.2 x hx y q
                · exact C.ord.trans _ _ _ (q1' x hx) (b0le y (List.mem_of_mem_take q))
              · exact C.ord.trans _ _ _ (q1' x hx) (b0le y (List.mem_of_mem_drop hy))
        refine wpS_pure ?_
        rw [show (failedOf (setArr st2 (r.toList.zipIdx.foldl (fun (a : Array Keyed) (x : Keyed × Nat) => match x with | (p, j) => a.setIfInBounds (pre.length + k + j) p) (arrOf st2)))) = none from fl]
        exact goal
      split
      · refine wpS_bind (wpS_mergeLo C (by rw [ex]; exact fun x hx => ua x (List.mem_of_mem_drop hx)) (by rw [ey]; exact fun x hx => ub x (List.mem_of_mem_take hx)) (by rw [ex]; exact sx) (by rw [ey]; exact sy) (by lia) (by lia) (by rw [ex, ey]; exact h0) (by rw [ex, ey, szx]; exact hlst) k1 fun r st2 S2 pr sr => ?_)
        rw [ex, ey] at pr
        exact after r st2 S2 pr sr
      · refine wpS_bind (wpS_mergeHi C (by rw [ex]; exact fun x hx => ua x (List.mem_of_mem_drop hx)) (by rw [ey]; exact fun x hx => ub x (List.mem_of_mem_take hx)) (by rw [ex]; exact sx) (by rw [ey]; exact sy) (by lia) (by lia) (by rw [ex, ey]; exact h0) (by rw [ex, ey, szx]; exact hlst) k1 fun r st2 S2 pr sr => ?_)
        rw [ex, ey] at pr
        exact after r st2 S2 pr sr
end
end Mine
end
-- text W7
section
set_option autoImplicit false
set_option linter.unusedVariables false
namespace Mine
open PySem PyProof.Rows
noncomputable abbrev CT := Option (Option Nat) × Nat
noncomputable def ascB (lo n : Nat) : SM (ForInStep CT) := do
  let some smaller ← ltAt' (lo + n) (lo + n - 1) | pure (ForInStep.done (some none, n))
  if smaller = true then pure (ForInStep.done (none, n)) else pure (ForInStep.yield (none, n + 1))
noncomputable def cEnd (lo nrem n : Nat) : SM (Option Nat) := do
  reverseSlice' lo (lo + n)
  let r ← forIn [n:nrem] ((none, n) : CT) fun _ c => ascB lo c.2
  match r.1 with
  | some r => pure r
  | none => pure (some r.2)
noncomputable def faBody (lo m q : Nat) : SM (ForInStep (Option (Option Nat) × Nat × Nat)) := do
  let some smaller ← ltAt' (lo + m) (lo + m - 1) | pure (ForInStep.done (some none, m, q))
  if smaller = true then
    if q > 0 then do
      reverseSlice' (lo + m - (q + 1)) (lo + m)
      pure (ForInStep.yield (none, m + 1, 0))
    else pure (ForInStep.yield (none, m + 1, 0))
  else do
    let some larger ← ltAt' (lo + m - 1) (lo + m) | pure (ForInStep.done (some none, m, q))
    if larger = true then pure (ForInStep.done (none, m, q))
    else pure (ForInStep.yield (none, m + 1, q + 1))
noncomputable def cTail (lo nrem m q : Nat) : SM (Option Nat) :=
  if q > 0 then do
    reverseSlice' (lo + m - (q + 1)) (lo + m)
    cEnd lo nrem m
  else cEnd lo nrem m
noncomputable def cFall (lo nrem n : Nat) : SM (Option Nat) := do
  liftM (rule "list.sort.descending-run")
  let r ← forIn [n + 1:nrem] ((none, n + 1, 0) : Option (Option Nat) × Nat × Nat) fun _ c => faBody lo c.2.1 c.2.2
  match r.1 with
  | some r => pure r
  | none => cTail lo nrem r.2.1 r.2.2
noncomputable def cMid (lo nrem n : Nat) : SM (Option Nat) :=
  if (n == nrem) = true then pure (some n)
  else if n > 1 then do
    let some rose ← ltAt' lo (lo + n - 1) | pure none
    if rose = true then pure (some n) else do
      reverseSlice' lo (lo + n)
      cFall lo nrem n
  else cFall lo nrem n
theorem countRunP_eq (lo nrem : Nat) : countRunP lo nrem = (do
  let r ← forIn [1:nrem] ((none, 1) : CT) fun _ c => ascB lo c.2
  match r.1 with
  | some r => pure r
  | none => cMid lo nrem r.2) := by kernel_rfl
noncomputable abbrev BT := Option Bool × Nat × Nat
noncomputable def biB (lo k l r : Nat) : SM (ForInStep BT) :=
  if l ≥ r then pure (ForInStep.done (none, l, r)) else do
    let some less ← ltAt' (lo + k) (lo + (l + r) / 2) | pure (ForInStep.done (some false, l, r))
    if less = true then pure (ForInStep.yield (none, l, (l + r) / 2)) else pure (ForInStep.yield (none, (l + r) / 2 + 1, r))
noncomputable def bsB (lo k : Nat) : SM (ForInStep (Option Bool × PUnit)) := do
  let r ← forIn [:k] ((none, 0, k) : BT) fun _ c => biB lo k c.2.1 c.2.2
  match r.1 with
  | some r => pure (ForInStep.done (some r, ⟨⟩))
  | none => do
    moveDown' (lo + k) (lo + r.2.1)
    pure (ForInStep.yield (none, ⟨⟩))
theorem binarySortP_eq (lo n ok : Nat) : binarySortP lo n ok = (do
  let r ← forIn [max ok 1:n] ((none, ⟨⟩) : Option Bool × PUnit) fun k _ => bsB lo k
  match r.1 with
  | some r => pure r
  | none => pure true) := by kernel_rfl
structure Ch (st st' : SortSt) : Prop where
  kind : kindOf st' = kindOf st
  pend : pendingOf st' = pendingOf st
  fail : failedOf st' = failedOf st
  perm : (arrOf st').toList.Perm (arrOf st).toList
theorem Ch.refl (st : SortSt) : Ch st st := ⟨rfl, rfl, rfl, .refl _⟩
theorem Ch.trans {a b c : SortSt} (x : Ch a b) (y : Ch b c) : Ch a c := ⟨y.kind.trans x.kind, y.pend.trans x.pend, y.fail.trans x.fail, y.perm.trans x.perm⟩
theorem Ch.u {U : Keyed → Prop} {a b : SortSt} (x : Ch a b) (hu : ∀ x ∈ (arrOf a).toList, U x) : ∀ x ∈ (arrOf b).toList, U x := fun y hy => hu y (x.perm.mem_iff.mp hy)
section
variable {α : Type}
theorem at_mid (p : List α) (x : α) (t : List α) : (p ++ x :: t)[p.length]? = some x := by simp
theorem get_off (p q : List α) (d : Nat) : (p ++ q)[p.length + d]? = q[d]? := by rw [List.getElem?_append_right (Nat.le_add_right _ _), Nat.add_sub_cancel_left]
theorem rev_ix {p d n : Nat} (h : d < n) : p + (p + n) - 1 - (p + d) = p + (n - 1 - d) := by
  obtain ⟨e, rfl⟩ := Nat.exists_eq_add_of_lt h
  show p + (p + (d + e)) - (p + d) = p + (d + e - d)
  rw [Nat.add_sub_cancel_left, ← Nat.add_assoc p d e, Nat.add_left_comm, Nat.add_sub_cancel_left]
theorem rev_list {xs ys p q t : List α} (hx : xs = p ++ (q ++ t)) (h : ∀ k, ys[k]? = if p.length ≤ k ∧ k < p.length + q.length then xs[p.length + (p.length + q.length) - 1 - k]? else xs[k]?) : ys = p ++ (q.reverse ++ t) := by
  apply List.ext_getElem?
  intro k
  rw [h k, hx]
  rcases Nat.lt_or_ge k p.length with c1 | c1
  · rw [if_neg fun c => Nat.not_le.mpr c1 c.1, List.getElem?_append_left c1, List.getElem?_append_left c1]
  · obtain ⟨d, rfl⟩ := Nat.exists_eq_add_of_le c1
    rw [get_off p (q.reverse ++ t)]
    rcases Nat.lt_or_ge d q.length with c2 | c2
    · rw [if_pos ⟨c1, Nat.add_lt_add_left c2 _⟩, rev_ix c2, get_off, List.getElem?_append_left (Nat.lt_of_le_of_lt (Nat.sub_le _ _) (Nat.sub_lt (Nat.lt_of_le_of_lt (Nat.zero_le _) c2) Nat.one_pos)), List.getElem?_append_left (by rw [List.length_reverse]; exact c2), List.getElem?_reverse c2]
    · rw [if_neg fun c => Nat.not_le.mpr (Nat.lt_of_add_lt_add_left c.2) c2, get_off, List.getElem?_append_right c2, List.getElem?_append_right (by rw [List.length_reverse]; exact c2), List.length_reverse]
theorem move_list {xs ys p b t : List α} {x : α} (hx : xs = p ++ (b ++ x :: t)) (h : ∀ k, ys[k]? = if k = p.length then some x else if p.length < k ∧ k ≤ p.length + b.length then xs[k - 1]? else xs[k]?) : ys = p ++ (x :: (b ++ t)) := by
  apply List.ext_getElem?
  intro k
  rw [h k, hx]
  rcases Nat.lt_or_ge k p.length with c1 | c1
  · rw [if_neg (Nat.ne_of_lt c1), if_neg fun c => Nat.lt_asymm c1 c.1, List.getElem?_append_left c1, List.getElem?_append_left c1]
  · obtain ⟨d, rfl⟩ := Nat.exists_eq_add_of_le c1
    rw [get_off p (x :: (b ++ t))]
    cases d with
    | zero => rw [if_pos (Nat.add_zero _)]; rfl
    | succ d =>
      rw [if_neg (Nat.ne_of_gt (Nat.lt_add_of_pos_right (Nat.succ_pos _))), List.getElem?_cons_succ]
      rcases Nat.lt_or_ge d b.length with c3 | c3
      · rw [if_pos ⟨Nat.lt_add_of_pos_right (Nat.succ_pos _), Nat.add_le_add_left c3 _⟩, show p.length + (d + 1) - 1 = p.length + d from rfl, get_off, List.getElem?_append_left c3, List.getElem?_append_left c3]
      · obtain ⟨e, rfl⟩ := Nat.exists_eq_add_of_le c3
        rw [if_neg fun c => Nat.not_lt.mpr c3 (Nat.le_of_add_le_add_left c.2), get_off, Nat.add_assoc, get_off, get_off, List.getElem?_cons_succ]
end
section
variable {M : Model} {A : Around} {E : Value → Shared → Prop} {s : Shared} {κ : SortKind} {U : Keyed → Prop} {L : Keyed → Keyed → Bool}
theorem wpS_ltAt (C : Cmp M A E s κ U L) {i j : Nat} {x y : Keyed} {st : SortSt} {Q : Option Bool → SortSt → Prop} (hx : (arrOf st).toList[i]? = some x) (hy : (arrOf st).toList[j]? = some y) (hu : ∀ x ∈ (arrOf st).toList, U x) (hk : kindOf st = κ)
    (hQ : Q (some (L x y)) st) : wpS M A E s (ltAt' i j) Q st := by
  rw [ltAt'_eq]
  refine wpS_bind (wpS_get (wpS_bind (wpS_elem (get_of hx) (wpS_bind (wpS_elem (get_of hy) ?_)))))
  exact C.lt x y (hu x (List.mem_of_getElem? hx)) (hu y (List.mem_of_getElem? hy)) st _ hk hQ
theorem wpS_rev {i j : Nat} {st : SortSt} {Q : Unit → SortSt → Prop} {p q t : List Keyed} (ha : (arrOf st).toList = p ++ (q ++ t)) (hi : i = p.length) (hj : j = p.length + q.length)
    (h : ∀ st', Ch st st' → (arrOf st').toList = p ++ (q.reverse ++ t) → Q () st') : wpS M A E s (reverseSlice' i j) Q st := by
  rw [reverseSlice'_eq]
  have hs : j ≤ (arrOf st).size := by
    have := congrArg List.length ha
    rw [Array.length_toList, List.length_append, List.length_append] at this; lia
  subst hi; subst hj
  refine wpS_modify (h _ ⟨rfl, rfl, rfl, Array.perm_iff_toList_perm.mp (mirror_perm _ _ _ _)⟩ (rev_list ha fun k => ?_))
  rw [Array.getElem?_toList, Array.getElem?_toList, Array.getElem?_toList]
  exact getElem?_mirror_all hs k
theorem wpS_moveDown {src dst : Nat} {st : SortSt} {Q : Unit → SortSt → Prop} {p b t : List Keyed} {x : Keyed} (ha : (arrOf st).toList = p ++ (b ++ x :: t)) (hd : dst = p.length) (hs : src = p.length + b.length)
    (h : ∀ st', Ch st st' → (arrOf st').toList = p ++ (x :: (b ++ t)) → Q () st') : wpS M A E s (moveDown' src dst) Q st := by
  rw [moveDown'_eq]
  subst hd; subst hs
  have gx : (arrOf st)[p.length + b.length]? = some x := by
    rw [← Array.getElem?_toList, ha, get_off]; exact at_mid _ _ _
  obtain ⟨hl, _⟩ := Array.getElem?_eq_some_iff.mp gx
  have g := getElem?_bubble (xs := arrOf st) hl b.length (Nat.le_add_left _ _)
  rw [Nat.add_sub_cancel] at g
  rw [Nat.add_sub_cancel_left]
  refine wpS_modify (h _ ⟨rfl, rfl, rfl, Array.perm_iff_toList_perm.mp (bubble_perm _ _ _)⟩ (move_list ha fun k => ?_))
  rw [Array.getElem?_toList, Array.getElem?_toList, Array.getElem?_toList, ← gx]
  exact g k
noncomputable abbrev Fal (L : Keyed → Keyed → Bool) (xs : List Keyed) : Prop := Srt (fun x y => L y x) xs
theorem Srt.snocL (O : Ord L) {r : List Keyed} {x y : Keyed} (h : Srt L (r ++ [x])) (hy : L y x = false) : Srt L (r ++ [x] ++ [y]) := by
  refine Srt.snoc O h fun z hz => ?_
  rcases List.mem_append.mp hz with hz | hz
  · exact O.trans _ _ _ ((List.pairwise_append.mp h).2.2 z hz x (by simp)) hy
  · rw [List.mem_singleton.mp hz]; exact hy
inductive AsI (L : Keyed → Keyed → Bool) (tl : List Keyed) (j : Nat) : Option (Option Nat) × Nat → Prop
  | mk (r : List Keyed) (x : Keyed) (t : List Keyed) : tl = (r ++ [x]) ++ t → Srt L (r ++ [x]) → r.length + 1 = j → AsI L tl j (none, r.length + 1)
inductive AsP (L : Keyed → Keyed → Bool) (tl : List Keyed) : Option (Option Nat) × Nat → Prop
  | all : tl ≠ [] → Srt L tl → AsP L tl (none, tl.length)
  | stop (r : List Keyed) (x y : Keyed) (t : List Keyed) : tl = (r ++ [x]) ++ y :: t → Srt L (r ++ [x]) → L y x = true → AsP L tl (none, r.length + 1)
inductive AsJ (L : Keyed → Keyed → Bool) (tl : List Keyed) (j : Nat) (st : SortSt) : CT → SortSt → Prop
  | mk (c) : AsI L tl j c → AsJ L tl j st c st
inductive AsQ (L : Keyed → Keyed → Bool) (tl : List Keyed) (st : SortSt) : CT → SortSt → Prop
  | mk (c) : AsP L tl c → AsQ L tl st c st
theorem lo_get {l pre r t : List Keyed} {x y : Keyed} (ha : l = pre ++ ((r ++ [x]) ++ y :: t)) : l[pre.length + (r.length + 1)]? = some y ∧ l[pre.length + (r.length + 1) - 1]? = some x := by
  subst ha
  constructor
  · rw [show pre ++ ((r ++ [x]) ++ y :: t) = (pre ++ (r ++ [x])) ++ y :: t by simp, show pre.length + (r.length + 1) = (pre ++ (r ++ [x])).length by simp]
    exact at_mid _ _ _
  · rw [show pre ++ ((r ++ [x]) ++ y :: t) = (pre ++ r) ++ x :: (y :: t) by simp, show pre.length + (r.length + 1) - 1 = (pre ++ r).length by rw [List.length_append]; rfl]
    exact at_mid _ _ _
theorem wpS_asc (C : Cmp M A E s κ U L) {pre tl r0 t0 : List Keyed} {x0 : Keyed} {st : SortSt} {lo n0 nrem : Nat}
    (ha : (arrOf st).toList = pre ++ tl) (hlo : lo = pre.length) (hn : nrem = tl.length) (h0 : tl = (r0 ++ [x0]) ++ t0) (hn0 : n0 = r0.length + 1) (s0 : Srt L (r0 ++ [x0])) (hu : ∀ x ∈ (arrOf st).toList, U x) (hk : kindOf st = κ) :
    wpS M A E s (forIn [n0:nrem] ((none, n0) : CT) fun _ c => ascB lo c.2) (AsQ L tl st) st := by
  subst hlo; subst hn0; subst hn
  refine wpS_forRange (fun j => AsJ L tl j st) ?_ ?_ (.mk _ (.mk _ _ _ h0 s0 rfl))
  · rintro j _ _ hj1 hj2 ⟨⟨r, x, t, e, sr, rfl⟩⟩
    cases t with
    | nil => rw [e, List.append_nil, List.length_append] at hj2; exact absurd hj2 (Nat.lt_irrefl _)
    | cons y t =>
      obtain ⟨g1, g2⟩ := lo_get (l := (arrOf st).toList) (pre := pre) (r := r) (x := x) (y := y) (t := t) (by rw [ha, e])
      refine wpS_bind (wpS_ltAt C g1 g2 hu hk (wpS_ite (fun q => wpS_pure (.mk _ (.stop r x y t e sr q))) fun q => ?_))
      have := AsI.mk (L := L) (tl := tl) (j := r.length + 1 + 1) (r ++ [x]) y t (by rw [e, List.append_assoc (r ++ [x])]; rfl) (sr.snocL C.ord (eq_false_of_ne_true q)) (by rw [List.length_append]; rfl)
      rw [List.length_append] at this
      exact wpS_pure (.mk _ this)
  · rintro _ _ ⟨⟨r, x, t, e, sr, hr⟩⟩
    have e1 := congrArg List.length e
    rw [List.length_append, List.length_append] at e1
    have e2 : r.length + 1 = tl.length := Nat.le_antisymm (by rw [e1]; exact Nat.le_add_right _ _) (by rw [hr]; exact Nat.le_max_right _ _)
    have ht : t = [] := List.eq_nil_of_length_eq_zero (Nat.add_left_cancel (e1.symm.trans e2.symm))
    subst ht
    rw [List.append_nil] at e
    rw [e2]
    exact .mk _ (.all (by rw [e]; exact List.append_ne_nil_of_right_ne_nil _ (List.cons_ne_nil _ _)) (by rw [e]; exact sr))
structure FaI (L : Keyed → Keyed → Bool) (st0 : SortSt) (pre : List Keyed) (N m q : Nat) (D G t : List Keyed) (st : SortSt) : Prop where
  S : Ch st0 st
  arr : (arrOf st).toList = pre ++ ((D ++ G) ++ t)
  fal : Fal L (D ++ G)
  eqs : ∀ x ∈ G, ∀ y ∈ G, L x y = false
  lq : G.length = q + 1
  lm : D.length + G.length = m
  tot : m + t.length = N
inductive FaJ (L : Keyed → Keyed → Bool) (st0 : SortSt) (pre : List Keyed) (N j : Nat) : Option (Option Nat) × Nat × Nat → SortSt → Prop
  | mk (m q : Nat) (D G t : List Keyed) (st : SortSt) : FaI L st0 pre N m q D G t st → m = j → FaJ L st0 pre N j (none, m, q) st
inductive FaP (L : Keyed → Keyed → Bool) (st0 : SortSt) (pre : List Keyed) (N : Nat) : Option (Option Nat) × Nat × Nat → SortSt → Prop
  | mk (m q : Nat) (D G t : List Keyed) (st : SortSt) : FaI L st0 pre N m q D G t st → FaP L st0 pre N (none, m, q) st
theorem fal_turn {D G : List Keyed} (h : Fal L (D ++ G)) (he : ∀ x ∈ G, ∀ y ∈ G, L x y = false) : Fal L (D ++ G.reverse) := by
  obtain ⟨h1, h2, h3⟩ := List.pairwise_append.mp h
  refine List.pairwise_append.mpr ⟨h1, List.Pairwise.imp_of_mem (fun {a b} ha hb _ => he _ (List.mem_reverse.mp ha) _ (List.mem_reverse.mp hb)) (List.pairwise_of_forall (R := fun _ _ => True) (fun _ _ => trivial)), fun a ha b hb => h3 a ha b (List.mem_reverse.mp hb)⟩
theorem fal_snoc (O : Ord L) {D G : List Keyed} {x y : Keyed} (h : Fal L (D ++ G)) (hx : x ∈ G) (hG : ∀ z ∈ G, L z x = false) (hy : L x y = false) : ∀ z ∈ D ++ G, L z y = false := fun z hz => by
  have : L z x = false := by
    rcases List.mem_append.mp hz with hz | hz
    · exact (List.pairwise_append.mp h).2.2 z hz x hx
    · exact hG z hz
  exact O.trans _ _ _ hy this
theorem ne_snoc {R : List Keyed} (h : R ≠ []) : ∃ r x, R = r ++ [x] := ⟨R.dropLast, R.getLast h, (List.dropLast_concat_getLast h).symm⟩
theorem wpS_countEnd (C : Cmp M A E s κ U L) {pre R t : List Keyed} {lo nrem n : Nat} {st : SortSt} {Q : Option Nat → SortSt → Prop} (ha : (arrOf st).toList = pre ++ (R ++ t)) (hlo : lo = pre.length) (hn : n = R.length) (hrem : nrem = R.length + t.length) (hne : R ≠ []) (hd : Fal L R) (hu : ∀ x ∈ (arrOf st).toList, U x) (hk : kindOf st = κ)
    (hQ : ∀ st' run rest, Ch st st' → (arrOf st').toList = pre ++ (run ++ rest) → run ≠ [] → Srt L run → Q (some run.length) st') :
    wpS M A E s (cEnd lo nrem n) Q st := by
  refine wpS_bind (wpS_rev ha hlo (by rw [hlo, hn]) fun st1 S1 a1 => ?_)
  obtain ⟨r0, x0, e0⟩ := ne_snoc (R := R.reverse) (by simpa using hne)
  have sr : Srt L R.reverse := hd.unrev
  refine wpS_bind (wpS_mono (wpS_asc C (tl := R.reverse ++ t) (r0 := r0) (x0 := x0) (t0 := t) a1 hlo (by rw [hrem]; simp) (by rw [e0]) (by rw [hn, ← List.length_reverse, e0]; simp) (e0 ▸ sr) (S1.u hu) (S1.kind.trans hk)) ?_)
  rintro _ _ ⟨h⟩
  cases h with
  | all h1 h2 => exact wpS_pure (hQ st1 _ [] S1 (by rw [List.append_nil]; exact a1) h1 h2)
  | stop r x y t' e h2 _ =>
    have := hQ st1 (r ++ [x]) (y :: t') S1 (by rw [a1, e]) (by simp) h2
    rw [List.length_append] at this
    exact wpS_pure this
inductive FaR (L : Keyed → Keyed → Bool) (st0 : SortSt) (pre : List Keyed) (N m : Nat) : ForInStep (Option (Option Nat) × Nat × Nat) → SortSt → Prop
  | brk (q : Nat) (D G t : List Keyed) (st : SortSt) : FaI L st0 pre N m q D G t st → FaR L st0 pre N m (.done (none, m, q)) st
  | go (q : Nat) (D G t : List Keyed) (st : SortSt) : FaI L st0 pre N (m + 1) q D G t st → FaR L st0 pre N m (.yield (none, m + 1, q)) st
theorem faBody_ok (C : Cmp M A E s κ U L) {st0 st : SortSt} {pre D G t : List Keyed} {N m q : Nat} (hu : ∀ x ∈ (arrOf st0).toList, U x) (hk : kindOf st0 = κ) (I : FaI L st0 pre N m q D G t st) (hm : m < N) : wpS M A E s (faBody pre.length m q) (FaR L st0 pre N m) st := by
  obtain ⟨S, arr, fal, eqs, lq, lm, tot⟩ := I
  cases t with
  | nil => simp at tot; lia
  | cons y t =>
    obtain ⟨G0, x, rfl⟩ := ne_snoc (R := G) (by intro e; rw [e] at lq; simp at lq)
    have lm' : m = (D ++ G0).length + 1 := by rw [← lm]; simp; lia
    have xin : x ∈ G0 ++ [x] := by simp
    obtain ⟨g1, g2⟩ := lo_get (l := (arrOf st).toList) (pre := pre) (r := D ++ G0) (x := x) (y := y) (t := t) (by rw [arr]; simp)
    rw [← lm'] at g1 g2
    have tot' : m + 1 + t.length = N := by rw [← tot]; simp; lia
    refine wpS_bind (wpS_ltAt C g1 g2 (S.u hu) (S.kind.trans hk) ?_)
    refine wpS_ite (fun p => ?_) fun p => ?_
    · have yx : ∀ z ∈ D ++ (G0 ++ [x]), L z y = false := fal_snoc C.ord fal xin (fun z hz => eqs z hz x xin) (C.ord.asym _ _ p)
      have one : ∀ a ∈ [y], ∀ b ∈ [y], L a b = false := fun a ha b hb => by rw [List.mem_singleton.mp ha, List.mem_singleton.mp hb]; exact C.ord.refl _
      refine wpS_ite (fun cq => ?_) fun cq => ?_
      · have ll : D.length + (q + 1) = m := by rw [← lm, lq]
        refine wpS_bind (wpS_rev (p := pre ++ D) (q := G0 ++ [x]) (t := y :: t) (by rw [arr]; simp) (by rw [← ll, ← Nat.add_assoc, Nat.add_sub_cancel, List.length_append]) (by rw [List.length_append, lq, ← ll, Nat.add_assoc]) fun st4 S4 a4 => ?_)
        refine wpS_pure (.go 0 (D ++ (G0 ++ [x]).reverse) [y] t st4 ⟨S.trans S4, by rw [a4]; simp, Srt.snoc C.ord.flip (fal_turn fal eqs) fun z hz => yx z ?_, one, rfl, ?_, tot'⟩)
        · rcases List.mem_append.mp hz with hz | hz
          · exact List.mem_append_left _ hz
          · exact List.mem_append_right _ (List.mem_reverse.mp hz)
        · rw [List.length_append, List.length_reverse, lm]; rfl
      · exact wpS_pure (.go 0 (D ++ (G0 ++ [x])) [y] t st ⟨S, by rw [arr]; simp, Srt.snoc C.ord.flip fal yx, one, rfl, by rw [List.length_append, lm]; rfl, tot'⟩)
    · have p : L y x = false := eq_false_of_ne_true p
      refine wpS_bind (wpS_ltAt C g2 g1 (S.u hu) (S.kind.trans hk) ?_)
      refine wpS_ite (fun p2 => ?_) fun p2 => ?_
      · exact wpS_pure (.brk q D (G0 ++ [x]) (y :: t) st ⟨S, arr, fal, eqs, lq, lm, tot⟩)
      · have p2 : L x y = false := eq_false_of_ne_true p2
        have yx : ∀ z ∈ D ++ (G0 ++ [x]), L z y = false := fal_snoc C.ord fal xin (fun z hz => eqs z hz x xin) p2
        refine wpS_pure (.go (q + 1) D (G0 ++ [x] ++ [y]) t st ⟨S, by rw [arr]; simp, ?_, fun a ha b hb => ?_, by rw [List.length_append, lq]; rfl, by rw [List.length_append, ← Nat.add_assoc, lm]; rfl, tot'⟩)
        · rw [← List.append_assoc]; exact Srt.snoc C.ord.flip fal yx
        · have yz : ∀ z ∈ G0 ++ [x], L y z = false := fun z hz => C.ord.trans _ _ _ (eqs x xin z hz) p
          rcases List.mem_append.mp ha with ha | ha <;> rcases List.mem_append.mp hb with hb | hb
          · exact eqs a ha b hb
          · rw [List.mem_singleton.mp hb]; exact yx a (List.mem_append_right _ ha)
          · rw [List.mem_singleton.mp ha]; exact yz b hb
          · rw [List.mem_singleton.mp ha, List.mem_singleton.mp hb]; exact C.ord.refl _
theorem wpS_countFall (C : Cmp M A E s κ U L) {st : SortSt} {pre D t : List Keyed} {y : Keyed} {lo nrem n : Nat} {Q : Option Nat → SortSt → Prop} (ha : (arrOf st).toList = pre ++ ((D ++ [y]) ++ t)) (hlo : lo = pre.length) (hn : n = D.length) (hrem : nrem = D.length + 1 + t.length) (hd : Fal L (D ++ [y])) (hu : ∀ x ∈ (arrOf st).toList, U x) (hk : kindOf st = κ)
    (hQ : ∀ st' run rest, Ch st st' → (arrOf st').toList = pre ++ (run ++ rest) → run ≠ [] → Srt L run → Q (some run.length) st') : wpS M A E s (cFall lo nrem n) Q st := by
  subst hlo; subst hn
  refine wpS_bind (wpS_rule ?_)
  have I0 : FaI L st pre nrem (D.length + 1) 0 D [y] t st := ⟨.refl _, ha, hd, fun a ha b hb => by rw [List.mem_singleton.mp ha, List.mem_singleton.mp hb]; exact C.ord.refl _, rfl, rfl, hrem.symm⟩
  refine wpS_bind (wpS_mono (Q := FaP L st pre nrem) (wpS_forRange (fun j => FaJ L st pre nrem j) ?_ ?_ (.mk _ _ _ _ _ _ I0 rfl)) ?_)
  · rintro j _ st3 hj1 hj2 ⟨m, q, D', G, t', _, I, rfl⟩
    refine wpS_mono (faBody_ok C hu hk I hj2) fun r st' h => ?_
    cases h with
    | brk q D G t _ I => exact .mk _ _ _ _ _ _ I
    | go q D G t _ I => exact .mk _ _ _ _ _ _ I rfl
  · rintro _ st3 ⟨m, q, D', G, t', _, I, _⟩
    exact .mk _ _ _ _ _ _ I
  · rintro _ st3 ⟨m, q, D', G, t', _, I⟩
    obtain ⟨S, arr, fal, eqs, lq, lm, tot⟩ := I
    have gne : G ≠ [] := by intro e; rw [e] at lq; simp at lq
    refine wpS_ite (fun cq => ?_) fun cq => ?_
    · refine wpS_bind (wpS_rev (p := pre ++ D') (q := G) (t := t') (by rw [arr]; simp) (by rw [← lm, lq, ← Nat.add_assoc, Nat.add_sub_cancel, List.length_append]) (by rw [List.length_append, ← lm, Nat.add_assoc]) fun st4 S4 a4 => ?_)
      exact wpS_countEnd C (R := D' ++ G.reverse) (t := t') (by rw [a4]; simp) rfl (by rw [List.length_append, List.length_reverse, lm]) (by rw [List.length_append, List.length_reverse, lm, tot]) (by simp [gne]) (fal_turn fal eqs) (S4.u (S.u hu)) (S4.kind.trans (S.kind.trans hk)) fun st5 run rest S5 => hQ st5 run rest ((S.trans S4).trans S5)
    · exact wpS_countEnd C (R := D' ++ G) arr rfl (by rw [List.length_append, lm]) (by rw [List.length_append, lm, tot]) (by simp [gne]) fal (S.u hu) (S.kind.trans hk) fun st5 run rest S5 => hQ st5 run rest (S.trans S5)
theorem wpS_countRun (C : Cmp M A E s κ U L) {pre tl : List Keyed} {lo nrem : Nat} {st : SortSt} {Q : Option Nat → SortSt → Prop} (ha : (arrOf st).toList = pre ++ tl) (hlo : lo = pre.length) (hrem : nrem = tl.length) (hne : tl ≠ []) (hu : ∀ x ∈ (arrOf st).toList, U x) (hk : kindOf st = κ)
    (hQ : ∀ st' run rest, Ch st st' → (arrOf st').toList = pre ++ (run ++ rest) → run ≠ [] → Srt L run → Q (some run.length) st') : wpS M A E s (countRunP lo nrem) Q st := by
  rw [countRunP_eq]
  cases tl with
  | nil => exact absurd rfl hne
  | cons z tl' =>
  generalize htl : z :: tl' = tl at *
  refine wpS_bind (wpS_mono (wpS_asc C (r0 := []) (x0 := z) (t0 := tl') ha hlo hrem htl.symm rfl (List.pairwise_singleton _ _) hu hk) ?_)
  rintro _ _ ⟨h⟩
  cases h with
  | all h1 h2 =>
    refine wpS_ite (fun _ => wpS_pure (hQ st tl [] (.refl _) (by rw [ha, List.append_nil]) h1 h2)) fun c => absurd (beq_iff_eq.mpr hrem.symm) c
  | stop r x y t e h2 lt =>
    have hl : nrem = r.length + 1 + (t.length + 1) := by rw [hrem, e]; simp; lia
    refine wpS_ite (fun c => ?_) fun _ => ?_
    · have := beq_iff_eq.mp c; lia
    have ha' : (arrOf st).toList = pre ++ ((r ++ [x]) ++ y :: t) := by rw [ha, e]
    refine wpS_ite (fun c => ?_) fun c => ?_
    · cases r with
      | nil => simp at c
      | cons f r =>
        obtain ⟨g1, g2⟩ := lo_get (l := (arrOf st).toList) (pre := pre) (r := f :: r) (x := x) (y := y) (t := t) ha'
        have gf : (arrOf st).toList[lo]? = some f := by rw [ha', hlo]; simp
        rw [← hlo] at g2
        refine wpS_bind (wpS_ltAt C gf g2 hu hk ?_)
        refine wpS_ite (fun _ => ?_) fun p => ?_
        · have := hQ st (f :: r ++ [x]) (y :: t) (.refl _) ha' (by simp) h2
          rw [List.length_append] at this
          exact wpS_pure this
        · have p : L f x = false := eq_false_of_ne_true p
          have fin : f ∈ f :: r ++ [x] := by simp
          have hx : ∀ z ∈ f :: r ++ [x], L x z = false := fun z hz => by
            rcases List.mem_append.mp hz with hz | hz
            · exact (List.pairwise_append.mp h2).2.2 z hz x (by simp)
            · rw [List.mem_singleton.mp hz]; exact C.ord.refl _
          have hf : ∀ z ∈ f :: r ++ [x], L z f = false := Srt.head_le C.ord h2
          have eqs : ∀ a ∈ f :: r ++ [x], ∀ b ∈ f :: r ++ [x], L a b = false := fun a ha b hb => C.ord.trans _ _ _ (C.ord.trans _ _ _ (hx b hb) p) (hf a ha)
          refine wpS_bind (wpS_rev (p := pre) (q := f :: r ++ [x]) (t := y :: t) ha' hlo (by rw [hlo]; simp) fun st2 S2 a2 => ?_)
          refine wpS_countFall C (D := (f :: r ++ [x]).reverse) (y := y) (t := t) (by rw [a2]; simp) hlo (by simp) (by rw [hl]; simp; lia) ?_ (S2.u hu) (S2.kind.trans hk) fun st5 run rest S5 => hQ st5 run rest (S2.trans S5)
          refine Srt.snoc C.ord.flip ?_ fun z hz => ?_
          · exact List.Pairwise.imp_of_mem (fun {a b} ha hb _ => eqs _ (List.mem_reverse.mp ha) _ (List.mem_reverse.mp hb)) (List.pairwise_of_forall (R := fun _ _ => True) (fun _ _ => trivial))
          · exact C.ord.asym _ _ (C.ord.lt_le lt (eqs z (List.mem_reverse.mp hz) x (by simp)))
    · have hr : r = [] := List.eq_nil_of_length_eq_zero (by lia)
      subst hr
      refine wpS_countFall C (D := [x]) (y := y) (t := t) (by rw [ha']; simp) hlo rfl (by rw [hl]; simp; lia) ?_ hu hk hQ
      exact List.pairwise_cons.mpr ⟨fun z hz => by rw [List.mem_singleton.mp hz]; exact C.ord.asym _ _ lt, List.pairwise_singleton _ _⟩
end
end Mine
end
-- text W8
section
set_option autoImplicit false
set_option linter.unusedVariables false
namespace Mine
open PySem PyProof.Rows
noncomputable abbrev SF := ForInStep (Option Unit × Nat)
noncomputable abbrev SU := ForInStep (Option Unit × Unit)
noncomputable def srPush (lo n : Nat) : SM SF := do
  modify fun s => SortSt.mk' (kindOf s) (arrOf s) ((pendingOf s).push (lo, n, 0)) (gallopOf s) (failedOf s)
  pure (ForInStep.yield (none, lo + n))
noncomputable def srFold (pw : Nat) : SM SU := do
  let st ← get
  match (if (pendingOf st).size > 1 then (pendingOf st)[(pendingOf st).size - 2]? else none) with
  | some (_, _, older) => if older ≤ pw then pure (ForInStep.done (none, ())) else do
    let b ← mergeAtP ((pendingOf st).size - 2)
    if (!b) = true then pure (ForInStep.done (some (), ())) else pure (ForInStep.yield (none, ()))
  | _ => pure (ForInStep.done (none, ()))
noncomputable def setPw (pw : Nat) (s : SortSt) : SortSt := SortSt.mk' (kindOf s) (arrOf s) ((pendingOf s).modify ((pendingOf s).size - 1) fun (st, len, _) => (st, len, pw)) (gallopOf s) (failedOf s)
noncomputable def srMid (size lo n pw : Nat) : SM SF := do
  let r ← forIn [:size] ((none, ()) : Option Unit × Unit) fun _ _ => srFold pw
  match r.1 with
  | some r => pure (ForInStep.done (some r, lo))
  | none => do
    modify (setPw pw)
    srPush lo n
noncomputable def srJp (size lo n : Nat) : SM SF := do
  let st ← get
  match (pendingOf st).back? with
  | some (s1, n1, _) => srMid size lo n (powerP size (2 * s1 + n1) (2 * s1 + n1 + n1 + n) size)
  | _ => srPush lo n
noncomputable def srBody (size minrun lo : Nat) : SM SF :=
  if lo ≥ size then pure (ForInStep.done (none, lo)) else do
    let some n ← countRunP lo (size - lo) | pure (ForInStep.done (some (), lo))
    if n < minrun then do
      liftM (rule "list.sort.binary-insertion")
      let b ← binarySortP lo (min (size - lo) minrun) n
      if (!b) = true then pure (ForInStep.done (some (), lo)) else srJp size lo (min (size - lo) minrun)
    else srJp size lo n
noncomputable def srIdx (p : Array (Nat × Nat × Nat)) : Nat :=
  if (if p.size - 2 > 0 then p[p.size - 2 - 1]?.map (·.2.1) else none).any (· < (p[p.size - 2 + 1]?.elim 0 (·.2.1))) then p.size - 2 - 1 else p.size - 2
noncomputable def srLast : SM SU := do
  let st ← get
  if (pendingOf st).size ≤ 1 then pure (ForInStep.done (none, ())) else do
    let b ← mergeAtP (srIdx (pendingOf st))
    if (!b) = true then pure (ForInStep.done (some (), ())) else pure (ForInStep.yield (none, ()))
noncomputable def srEnd (size : Nat) : SM Unit := do
  let r ← forIn [:size] ((none, ()) : Option Unit × Unit) fun _ _ => srLast
  match r.1 with
  | some r => pure r
  | none => pure ()
noncomputable def srAll (size minrun : Nat) : SM Unit := do
  let r ← forIn [:size] ((none, 0) : Option Unit × Nat) fun _ c => srBody size minrun c.2
  match r.1 with
  | some r => pure r
  | none => srEnd size
theorem sortRunsP_eq : sortRunsP = (do
  let st ← get
  srAll (arrOf st).size (minRunP (arrOf st).size (arrOf st).size 0)) := by kernel_rfl
section
variable {M : Model} {A : Around} {E : Value → Shared → Prop} {s : Shared} {κ : SortKind} {U : Keyed → Prop} {L : Keyed → Keyed → Bool}
structure BiI (L : Keyed → Keyed → Bool) (run : List Keyed) (x : Keyed) (d l r : Nat) : Prop where
  lr : l ≤ r
  rk : r ≤ run.length
  d : d + r ≤ l + run.length
  lo : ∀ a ∈ run.take l, L x a = false
  hi : ∀ a ∈ run.drop r, L x a = true
inductive BiJ (L : Keyed → Keyed → Bool) (run : List Keyed) (x : Keyed) (d : Nat) (st : SortSt) : BT → SortSt → Prop
  | mk (l r : Nat) : BiI L run x d l r → BiJ L run x d st (none, l, r) st
inductive BiP (L : Keyed → Keyed → Bool) (run : List Keyed) (x : Keyed) (st : SortSt) : BT → SortSt → Prop
  | mk (l r : Nat) : l ≤ run.length → (∀ a ∈ run.take l, L x a = false) → (∀ a ∈ run.drop l, L x a = true) → BiP L run x st (none, l, r) st
inductive BiR (L : Keyed → Keyed → Bool) (run : List Keyed) (x : Keyed) (j : Nat) (st : SortSt) : ForInStep BT → SortSt → Prop
  | done (l r : Nat) : l ≤ run.length → (∀ a ∈ run.take l, L x a = false) → (∀ a ∈ run.drop l, L x a = true) → BiR L run x j st (.done (none, l, r)) st
  | go (l r : Nat) : BiI L run x j l r → BiR L run x j st (.yield (none, l, r)) st
theorem srt_le (O : Ord L) {run : List Keyed} {m : Nat} {e : Keyed} (h : Srt L run) (he : run[m]? = some e) : (∀ a ∈ run.take (m + 1), L e a = false) ∧ ∀ a ∈ run.drop m, L a e = false := by
  obtain ⟨hm, e1⟩ := List.getElem?_eq_some_iff.mp he
  have e2 : run.drop m = e :: run.drop (m + 1) := by rw [List.drop_eq_getElem_cons hm, e1]
  have h' := h
  rw [← List.take_append_drop m run, e2] at h'
  obtain ⟨h1, h2, h3⟩ := List.pairwise_append.mp h'
  refine ⟨fun a ha => ?_, fun a ha => ?_⟩
  · rw [List.take_add_one, he] at ha
    rcases List.mem_append.mp ha with ha | ha
    · exact h3 a ha e (.head _)
    · rw [show a = e by simpa using ha]; exact O.refl _
  · rw [e2] at ha; exact Srt.head_le O h2 a ha
theorem mid2 {l r : Nat} (h : l < r) : l ≤ (l + r) / 2 ∧ (l + r) / 2 < r := by lia
structure BsI (L : Keyed → Keyed → Bool) (st0 : SortSt) (pre : List Keyed) (N k : Nat) (run t : List Keyed) (st : SortSt) : Prop where
  S : Ch st0 st
  arr : (arrOf st).toList = pre ++ (run ++ t)
  srt : Srt L run
  len : run.length = k
  tot : run.length + t.length = N
inductive BsJ (L : Keyed → Keyed → Bool) (st0 : SortSt) (pre : List Keyed) (N k : Nat) : Option Bool × PUnit → SortSt → Prop
  | mk (run t : List Keyed) (u : PUnit) (st : SortSt) : BsI L st0 pre N k run t st → BsJ L st0 pre N k (none, u) st
theorem wpS_biB (C : Cmp M A E s κ U L) {pre run t : List Keyed} {x : Keyed} {l r j : Nat} {st : SortSt} (ha : (arrOf st).toList = pre ++ (run ++ x :: t)) (sr : Srt L run) (hu : ∀ x ∈ (arrOf st).toList, U x) (hk : kindOf st = κ) (I : BiI L run x j l r) : wpS M A E s (biB pre.length run.length l r) (BiR L run x (j + 1) st) st := by
  obtain ⟨b1, b2, b3, b4, b5⟩ := I
  refine wpS_ite (fun hge => ?_) fun hge => ?_
  · cases Nat.le_antisymm b1 hge
    exact wpS_pure (.done l l b2 b4 b5)
  · obtain ⟨hl, hm⟩ := mid2 (Nat.not_le.mp hge)
    generalize (l + r) / 2 = m at hl hm ⊢
    have hmr := Nat.lt_of_lt_of_le hm b2
    have gm : run[m]? = some run[m] := List.getElem?_eq_getElem hmr
    generalize run[m] = e at gm
    have gm' : (arrOf st).toList[pre.length + m]? = some e := by
      rw [ha, get_off, List.getElem?_append_left hmr]; exact gm
    have gk : (arrOf st).toList[pre.length + run.length]? = some x := by
      rw [ha, get_off]; exact at_mid _ _ _
    obtain ⟨w1, w2⟩ := srt_le C.ord sr gm
    refine wpS_bind (wpS_ltAt C gk gm' hu hk (wpS_ite (fun p => ?_) fun p => ?_))
    · exact wpS_pure (.go l m ⟨hl, Nat.le_of_lt hmr, by lia, b4, fun a ha => C.ord.lt_le p (w2 a ha)⟩)
    · exact wpS_pure (.go (m + 1) r ⟨hm, b2, by lia, fun a ha => C.ord.trans _ _ _ (w1 a ha) (eq_false_of_ne_true p), b5⟩)
inductive BsR (L : Keyed → Keyed → Bool) (st0 : SortSt) (pre : List Keyed) (N k : Nat) : ForInStep (Option Bool × PUnit) → SortSt → Prop
  | go (run t : List Keyed) (u : PUnit) (st : SortSt) : BsI L st0 pre N k run t st → BsR L st0 pre N k (.yield (none, u)) st
theorem wpS_bsB (C : Cmp M A E s κ U L) {pre run t : List Keyed} {x : Keyed} {N : Nat} {st0 st : SortSt} (hu : ∀ x ∈ (arrOf st0).toList, U x) (hk : kindOf st0 = κ) (I : BsI L st0 pre N run.length run (x :: t) st) : wpS M A E s (bsB pre.length run.length) (BsR L st0 pre N (run.length + 1)) st := by
  obtain ⟨S1, a1, s1, _, tot⟩ := I
  refine wpS_bind (wpS_mono (Q := BiP L run x st) (wpS_forRange (fun j => BiJ L run x j st) ?_ ?_ (.mk 0 run.length ⟨Nat.zero_le _, Nat.le_refl _, Nat.le_refl _, fun a ha => (nomatch ha), fun a ha => by rw [List.drop_length] at ha; cases ha⟩)) ?_)
  · rintro j _ _ _ hj ⟨l, r, I⟩
    refine wpS_mono (wpS_biB C a1 s1 (S1.u hu) (S1.kind.trans hk) I) fun r st' h => ?_
    cases h with
    | done l r h1 h2 h3 => exact .mk l r h1 h2 h3
    | go l r I => exact .mk l r I
  · rintro _ _ ⟨l, r, ⟨b1, b2, b3, b4, b5⟩⟩
    rw [Nat.max_eq_right (Nat.zero_le _), Nat.add_comm l] at b3
    cases Nat.le_antisymm b1 (Nat.le_of_add_le_add_left b3)
    exact .mk l l b2 b4 b5
  · rintro _ _ ⟨l, r, b1, b4, b5⟩
    have hl : (run.take l).length = l := by rw [List.length_take]; exact Nat.min_eq_left b1
    have lr : l + (run.drop l).length = run.length := by rw [List.length_drop]; exact Nat.add_sub_cancel' b1
    refine wpS_bind (wpS_moveDown (p := pre ++ run.take l) (b := run.drop l) (x := x) (t := t) (by rw [a1, List.append_assoc, ← List.append_assoc (run.take l), List.take_append_drop]) (by rw [List.length_append, hl]) (by rw [List.length_append, hl, Nat.add_assoc, lr]) fun st3 S3 a3 => ?_)
    have ln : (run.take l ++ x :: run.drop l).length = run.length + 1 := by rw [List.length_append, List.length_cons, hl, ← Nat.add_assoc, lr]
    refine wpS_pure (.go (run.take l ++ x :: run.drop l) t _ st3 ⟨S1.trans S3, by rw [a3, List.append_assoc, List.append_assoc]; rfl, ?_, ln, by rw [ln, ← tot, List.length_cons, Nat.add_assoc, Nat.add_comm 1]⟩)
    rw [← List.take_append_drop l run] at s1
    obtain ⟨q1, q2, q3⟩ := List.pairwise_append.mp s1
    refine List.pairwise_append.mpr ⟨q1, List.pairwise_cons.mpr ⟨fun a ha => C.ord.asym _ _ (b5 a ha), q2⟩, fun a ha b hb => ?_⟩
    rcases List.mem_cons.mp hb with rfl | hb
    · exact b4 a ha
    · exact q3 a ha b hb
theorem wpS_binarySort (C : Cmp M A E s κ U L) {pre run t : List Keyed} {lo n ok : Nat} {st : SortSt} {Q : Bool → SortSt → Prop} (ha : (arrOf st).toList = pre ++ (run ++ t)) (hlo : lo = pre.length) (hok : ok = run.length) (h1 : run ≠ []) (h2 : run.length ≤ n) (hn : n ≤ run.length + t.length) (sr : Srt L run) (hu : ∀ x ∈ (arrOf st).toList, U x) (hk : kindOf st = κ)
    (hQ : ∀ st' run' t', Ch st st' → (arrOf st').toList = pre ++ (run' ++ t') → run'.length = n → Srt L run' → Q true st') : wpS M A E s (binarySortP lo n ok) Q st := by
  rw [binarySortP_eq]
  have e1 : max run.length 1 = run.length := Nat.max_eq_left (List.length_pos_iff.mpr h1)
  subst hlo; subst hok
  rw [e1]
  refine wpS_bind (wpS_mono (Q := BsJ L st pre (run.length + t.length) n) (wpS_forRange (fun k => BsJ L st pre (run.length + t.length) k) ?_ ?_ (.mk run t _ st ⟨.refl _, ha, sr, rfl, rfl⟩)) ?_)
  · rintro k _ st1 hk1 hk2 ⟨run1, t1, _, _, I⟩
    cases I.len
    cases t1 with
    | nil => exact absurd I.tot (Nat.ne_of_lt (Nat.lt_of_lt_of_le hk2 hn))
    | cons x t1 =>
      refine wpS_mono (wpS_bsB C hu hk I) fun r st' h => ?_
      cases h with
      | go run t u _ I => exact .mk run t u st' I
  · rintro _ st1 ⟨run1, t1, u, _, I⟩
    rw [Nat.max_eq_right h2] at I
    exact .mk run1 t1 u st1 I
  · rintro _ st1 ⟨run1, t1, u, _, I⟩
    exact wpS_pure (hQ st1 run1 t1 I.S I.arr I.len I.srt)
structure Rn (L : Keyed → Keyed → Bool) (κ : SortKind) (a₀ : List Keyed) (st : SortSt) (segs : List (List Keyed)) (rest : List Keyed) : Prop where
  runs : Runs L st segs rest
  perm : (arrOf st).toList.Perm a₀
  kind : kindOf st = κ
  fail : failedOf st = none
theorem Rn.u {a₀ : List Keyed} {st : SortSt} {segs : List (List Keyed)} {rest : List Keyed} (h : Rn L κ a₀ st segs rest) (hu : ∀ x ∈ a₀, U x) : ∀ x ∈ (arrOf st).toList, U x := fun y hy => hu y (h.perm.mem_iff.mp hy)
theorem Rn.pendSize {a₀ : List Keyed} {st : SortSt} {segs : List (List Keyed)} {rest : List Keyed} (h : Rn L κ a₀ st segs rest) : (pendingOf st).size = segs.length := by
  have := congrArg List.length h.runs.pend
  rw [List.length_map, starts_length, Array.length_toList] at this; exact this
theorem split_at {α : Type} {xs : List α} {i : Nat} (h : i + 1 < xs.length) : ∃ s1 a b s2, xs = s1 ++ a :: b :: s2 ∧ s1.length = i :=
  ⟨xs.take i, xs[i], xs[i + 1], xs.drop (i + 2), by
    rw [← List.drop_eq_getElem_cons (by lia), ← List.drop_eq_getElem_cons (by lia), List.take_append_drop], by rw [List.length_take]; lia⟩
theorem wpS_mergeAtR (C : Cmp M A E s κ U L) {a₀ : List Keyed} (hu : ∀ x ∈ a₀, U x) {st : SortSt} {Q : Bool → SortSt → Prop} {segs : List (List Keyed)} {rest : List Keyed} {i : Nat} (R : Rn L κ a₀ st segs rest) (hi : i + 1 < segs.length)
    (hQ : ∀ st' segs', Rn L κ a₀ st' segs' rest → segs'.flatten.length = segs.flatten.length → segs'.length + 1 = segs.length → Q true st') : wpS M A E s (mergeAtP i) Q st := by
  obtain ⟨s1, a, b, s2, rfl, h1⟩ := split_at hi
  refine wpS_mergeAt C h1 R.runs (R.u hu) R.kind R.fail fun st' m pm sm R' k' f' ps' => ?_
  have e : (s1 ++ m :: s2).flatten.Perm (s1 ++ a :: b :: s2).flatten := by
    simp only [List.flatten_append, List.flatten_cons, ← List.append_assoc]
    refine List.Perm.append_right _ ?_
    simp only [List.append_assoc]
    exact List.Perm.append_left _ pm
  refine hQ st' (s1 ++ m :: s2) ⟨R', ?_, k', f'⟩ e.length_eq (by simp; lia)
  refine List.Perm.trans ?_ R.perm
  rw [R'.arr, R.runs.arr]
  exact e.append_right _
theorem flat_len : ∀ {segs : List (List Keyed)}, (∀ g ∈ segs, g ≠ []) → segs.length ≤ segs.flatten.length
  | [], _ => by simp
  | g :: r, h => by
    have := flat_len (segs := r) fun x hx => h x (.tail _ hx)
    have := List.length_pos_iff.mpr (h g (.head _))
    simp only [List.length_cons, List.flatten_cons, List.length_append]; lia
theorem Rn.tot {a₀ : List Keyed} {st : SortSt} {segs : List (List Keyed)} {rest : List Keyed} (h : Rn L κ a₀ st segs rest) : segs.flatten.length + rest.length = a₀.length := by
  rw [← List.length_append, ← h.runs.arr]; exact h.perm.length_eq
inductive SrG (L : Keyed → Keyed → Bool) (κ : SortKind) (a₀ : List Keyed) (lo : Nat) (rest : List Keyed) (st : SortSt) : Prop
  | mk (segs : List (List Keyed)) : Rn L κ a₀ st segs rest → segs.flatten.length = lo → SrG L κ a₀ lo rest st
inductive SrM (L : Keyed → Keyed → Bool) (κ : SortKind) (a₀ : List Keyed) (lo : Nat) (rest : List Keyed) : Option Unit × Unit → SortSt → Prop
  | mk (st : SortSt) : SrG L κ a₀ lo rest st → SrM L κ a₀ lo rest (none, ()) st
inductive SrJ (L : Keyed → Keyed → Bool) (κ : SortKind) (a₀ : List Keyed) (j : Nat) : Option Unit × Nat → SortSt → Prop
  | mk (lo : Nat) (rest : List Keyed) (st : SortSt) : j ≤ lo → SrG L κ a₀ lo rest st → SrJ L κ a₀ j (none, lo) st
inductive SrQ (L : Keyed → Keyed → Bool) (κ : SortKind) (a₀ : List Keyed) : Option Unit × Nat → SortSt → Prop
  | mk (lo : Nat) (segs : List (List Keyed)) (st : SortSt) : Rn L κ a₀ st segs [] → SrQ L κ a₀ (none, lo) st
inductive SrR (L : Keyed → Keyed → Bool) (κ : SortKind) (a₀ : List Keyed) (j : Nat) : SF → SortSt → Prop
  | done (c) (st) : SrQ L κ a₀ c st → SrR L κ a₀ j (.done c) st
  | go (c) (st) : SrJ L κ a₀ j c st → SrR L κ a₀ j (.yield c) st
theorem SrG.fin {a₀ : List Keyed} {lo : Nat} {rest : List Keyed} {st : SortSt} (h : SrG L κ a₀ lo rest st) (hl : a₀.length ≤ lo) : SrQ L κ a₀ (none, lo) st := by
  obtain ⟨segs, R, rfl⟩ := h
  have tot := R.tot
  cases rest with
  | nil => exact .mk _ segs st R
  | cons x r => exact absurd tot (Nat.ne_of_gt (Nat.lt_of_le_of_lt hl (Nat.lt_add_of_pos_right (Nat.succ_pos _))))
theorem wpS_srPush {a₀ run rest : List Keyed} {lo j : Nat} {st : SortSt} (G : SrG L κ a₀ lo (run ++ rest) st) (hj : j ≤ lo) (ne : run ≠ []) (sr : Srt L run) : wpS M A E s (srPush lo run.length) (SrR L κ a₀ (j + 1)) st := by
  obtain ⟨segs, R, rfl⟩ := G
  refine wpS_bind (wpS_modify (wpS_pure (.go _ _ (.mk _ rest _ (Nat.add_le_add hj (List.length_pos_iff.mpr ne)) (.mk (segs ++ [run]) ⟨⟨?_, fun g hg => ?_, ?_⟩, R.perm, R.kind, R.fail⟩ ?_)))))
  · refine R.runs.arr.trans ?_
    rw [List.flatten_append, List.flatten_cons, List.flatten_nil, List.append_nil, List.append_assoc]
  · rcases List.mem_append.mp hg with hg | hg
    · exact R.runs.srt g hg
    · rw [List.mem_singleton.mp hg]
      exact ⟨ne, sr⟩
  · refine (congrArg (List.map _) (Array.toList_push ..)).trans ?_
    rw [List.map_append, R.runs.pend, starts_append, Nat.zero_add]
    rfl
  · rw [List.flatten_append, List.length_append, List.flatten_cons, List.flatten_nil, List.append_nil]
theorem pend_setPw (pw : Nat) (st : SortSt) : (pendingOf (setPw pw st)).toList.map (fun p => (p.1, p.2.1)) = (pendingOf st).toList.map (fun p => (p.1, p.2.1)) := by
  show (Array.toList (Array.modify _ _ _)).map _ = _
  refine List.ext_getElem? fun k => ?_
  rw [List.getElem?_map, List.getElem?_map, Array.getElem?_toList, Array.getElem?_toList, Array.getElem?_modify]
  split
  · cases (pendingOf st)[k]? with
    | none => rfl
    | some y => rfl
  · rfl
inductive SuR (J Q : Option Unit × Unit → SortSt → Prop) : SU → SortSt → Prop
  | done (c) (st) : Q c st → SuR J Q (.done c) st
  | go (c) (st) : J c st → SuR J Q (.yield c) st
theorem wpS_srFold (C : Cmp M A E s κ U L) {a₀ rest : List Keyed} (hu : ∀ x ∈ a₀, U x) {lo pw : Nat} {st : SortSt} (G : SrG L κ a₀ lo rest st) : wpS M A E s (srFold pw) (SuR (SrM L κ a₀ lo rest) (SrM L κ a₀ lo rest)) st := by
  refine wpS_bind (wpS_get ?_)
  split
  case h_2 => exact wpS_pure (.done _ _ (.mk _ G))
  case h_1 older hx =>
  refine wpS_ite (fun _ => wpS_pure (.done _ _ (.mk _ G))) fun _ => ?_
  obtain ⟨segs, R, e⟩ := G
  have c : 1 < segs.length := by
    rw [← R.pendSize]
    exact Decidable.byContradiction fun c => by rw [if_neg c] at hx; cases hx
  refine wpS_bind (wpS_mergeAtR C hu R (by rw [R.pendSize]; lia) fun st5 segs5 R5 hl5 _ => ?_)
  exact wpS_pure (.go _ _ (.mk _ (.mk segs5 R5 (hl5.trans e))))
theorem wpS_srJp (C : Cmp M A E s κ U L) {a₀ run rest : List Keyed} (hu : ∀ x ∈ a₀, U x) {size lo j : Nat} {st : SortSt} (G : SrG L κ a₀ lo (run ++ rest) st) (hj : j ≤ lo) (ne : run ≠ []) (sr : Srt L run) : wpS M A E s (srJp size lo run.length) (SrR L κ a₀ (j + 1)) st := by
  refine wpS_bind (wpS_get ?_)
  split
  case h_2 => exact wpS_srPush G hj ne sr
  case h_1 s1 n1 _ _ =>
  refine wpS_bind (wpS_mono (Q := SrM L κ a₀ lo (run ++ rest)) (wpS_forRange (fun _ => SrM L κ a₀ lo (run ++ rest)) ?_ (fun c st' h => h) (.mk st G)) ?_)
  · rintro _ _ _ _ _ ⟨st1, G1⟩
    refine wpS_mono (wpS_srFold C hu G1) fun r st' h => ?_
    cases h with
    | done _ _ h => exact h
    | go _ _ h => exact h
  · rintro _ st1 ⟨_, ⟨segs, R, e⟩⟩
    exact wpS_bind (wpS_modify (wpS_srPush (.mk segs ⟨⟨R.runs.arr, R.runs.srt, (pend_setPw _ st1).trans R.runs.pend⟩, R.perm, R.kind, R.fail⟩ e) hj ne sr))
theorem wpS_srBody (C : Cmp M A E s κ U L) {a₀ rest : List Keyed} (hu : ∀ x ∈ a₀, U x) {size minrun lo j : Nat} {st : SortSt} (hsz : size = a₀.length) (hj : j ≤ lo) (G : SrG L κ a₀ lo rest st) : wpS M A E s (srBody size minrun lo) (SrR L κ a₀ (j + 1)) st := by
  refine wpS_ite (fun hge => wpS_pure (.done _ _ (G.fin (by rw [← hsz]; exact hge)))) fun hge => ?_
  obtain ⟨segs, R, rfl⟩ := G
  have tot := R.tot
  rw [← hsz] at tot
  have hr : size - segs.flatten.length = rest.length := by rw [← tot, Nat.add_sub_cancel_left]
  refine wpS_bind (wpS_countRun C (pre := segs.flatten) (tl := rest) R.runs.arr rfl hr (fun e => by rw [e, List.length_nil, Nat.add_zero] at tot; exact hge (Nat.le_of_eq tot.symm)) (R.u hu) R.kind fun st2 run rest2 S2 a2 ne2 s2 => ?_)
  have key : ∀ {st3 : SortSt} {run3 rest3 : List Keyed}, Ch st st3 → (arrOf st3).toList = segs.flatten ++ (run3 ++ rest3) → SrG L κ a₀ segs.flatten.length (run3 ++ rest3) st3 := fun S3 a3 => .mk segs ⟨⟨a3, R.runs.srt, by rw [S3.pend]; exact R.runs.pend⟩, S3.perm.trans R.perm, S3.kind.trans R.kind, S3.fail.trans R.fail⟩ rfl
  refine wpS_ite (fun cm => ?_) fun cm => wpS_srJp C hu (key S2 a2) hj ne2 s2
  have len2 : run.length + rest2.length = rest.length := by
    have := S2.perm.length_eq
    rw [a2, R.runs.arr, List.length_append, List.length_append, List.length_append] at this
    exact Nat.add_left_cancel this
  rw [hr]
  have h1 : run.length ≤ min rest.length minrun := Nat.le_min.mpr ⟨by rw [← len2]; exact Nat.le_add_right _ _, Nat.le_of_lt cm⟩
  refine wpS_bind (wpS_rule (wpS_bind (wpS_binarySort C (pre := segs.flatten) (run := run) (t := rest2) a2 rfl rfl ne2 h1 (by rw [len2]; exact Nat.min_le_left _ _) s2 (S2.u (R.u hu)) (S2.kind.trans R.kind) fun st3 run3 rest3 S3 a3 l3 s3 => ?_)))
  rw [← l3] at h1 ⊢
  exact wpS_srJp C hu (key (S2.trans S3) a3) hj (List.length_pos_iff.mp (Nat.lt_of_lt_of_le (List.length_pos_iff.mpr ne2) h1)) s3
inductive SeJ (L : Keyed → Keyed → Bool) (κ : SortKind) (a₀ : List Keyed) (n : Nat) : Option Unit × Unit → SortSt → Prop
  | mk (st : SortSt) (segs : List (List Keyed)) : Rn L κ a₀ st segs [] → segs.length ≤ n → SeJ L κ a₀ n (none, ()) st
theorem ite_pred_le (c : Prop) [Decidable c] (a : Nat) : (if c then a - 1 else a) ≤ a := by
  split
  · exact Nat.sub_le _ _
  · exact Nat.le_refl _
theorem srIdx_le (p : Array (Nat × Nat × Nat)) : srIdx p ≤ p.size - 2 := ite_pred_le _ _
theorem wpS_srLast (C : Cmp M A E s κ U L) {a₀ : List Keyed} (hu : ∀ x ∈ a₀, U x) {n : Nat} {st : SortSt} {segs : List (List Keyed)} (R : Rn L κ a₀ st segs []) (hl : segs.length ≤ n + 1) : wpS M A E s srLast (SuR (SeJ L κ a₀ n) (SeJ L κ a₀ 1)) st := by
  refine wpS_bind (wpS_get (wpS_ite (fun c => wpS_pure (.done _ _ (.mk st segs R (by rw [← R.pendSize]; exact c)))) fun c => ?_))
  have h := srIdx_le (pendingOf st)
  rw [R.pendSize] at h c
  refine wpS_bind (wpS_mergeAtR C hu R (by lia) fun st3 segs3 R3 _ hl3 => wpS_pure (.go _ _ (.mk st3 segs3 R3 ?_)))
  rw [← hl3] at hl
  exact Nat.le_of_succ_le_succ hl
theorem Rn.last {a₀ : List Keyed} {st : SortSt} {segs : List (List Keyed)} (R : Rn L κ a₀ st segs []) (h1 : 1 ≤ a₀.length) (hl : segs.length ≤ 1) : Srt L (arrOf st).toList := by
  have tot := R.tot
  rw [R.runs.arr, List.append_nil]
  cases segs with
  | nil => rw [← tot] at h1; cases h1
  | cons g r => cases r with
    | nil => rw [List.flatten_cons, List.flatten_nil, List.append_nil]; exact (R.runs.srt g (.head _)).2
    | cons => exact absurd hl (Nat.not_le.mpr (Nat.succ_lt_succ (Nat.succ_pos _)))
theorem wpS_srEnd (C : Cmp M A E s κ U L) {a₀ : List Keyed} (hu : ∀ x ∈ a₀, U x) {size : Nat} {st : SortSt} {segs : List (List Keyed)} {Q : Unit → SortSt → Prop} (hsz : size = a₀.length) (h1 : 1 ≤ a₀.length) (R : Rn L κ a₀ st segs [])
    (hQ : ∀ st', (arrOf st').toList.Perm a₀ → Srt L (arrOf st').toList → failedOf st' = none → Q () st') : wpS M A E s (srEnd size) Q st := by
  have hl0 : segs.length ≤ size := by
    have h := R.tot
    rw [List.length_nil, Nat.add_zero, ← hsz] at h
    rw [← h]; exact flat_len fun g hg => (R.runs.srt g hg).1
  refine wpS_bind (wpS_mono (Q := SeJ L κ a₀ 1) (wpS_forRange (fun j => SeJ L κ a₀ (size + 1 - j)) ?_ ?_ (.mk st segs R (Nat.le_succ_of_le hl0))) ?_)
  · rintro j _ _ _ hj ⟨st1, segs1, R1, hl⟩
    refine wpS_mono (wpS_srLast C hu (n := size - j) R1 (by lia)) fun r st' h => ?_
    cases h with
    | done _ _ h => exact h
    | go _ _ h => rw [Nat.add_sub_add_right]; exact h
  · rintro _ st1 ⟨_, segs1, R1, hl⟩
    exact .mk st1 segs1 R1 (by rw [Nat.max_eq_right (Nat.zero_le _), Nat.add_sub_cancel_left] at hl; exact hl)
  · rintro _ st1 ⟨_, segs1, R1, hl⟩
    exact wpS_pure (hQ st1 R1.perm (R1.last h1 hl) R1.fail)
theorem wpS_sortRuns (C : Cmp M A E s κ U L) {st : SortSt} {Q : Unit → SortSt → Prop} (hu : ∀ x ∈ (arrOf st).toList, U x) (hk : kindOf st = κ) (hf : failedOf st = none) (hp : pendingOf st = #[]) (h1 : 1 ≤ (arrOf st).size)
    (hQ : ∀ st', (arrOf st').toList.Perm (arrOf st).toList → Srt L (arrOf st').toList → failedOf st' = none → Q () st') : wpS M A E s sortRunsP Q st := by
  rw [sortRunsP_eq]
  refine wpS_bind (wpS_get ?_)
  have hsz := (Array.length_toList (xs := arrOf st)).symm
  generalize (arrOf st).size = size at h1 hsz ⊢
  generalize minRunP size size 0 = minrun
  have R0 : Rn L κ (arrOf st).toList st [] (arrOf st).toList := ⟨⟨rfl, fun g hg => (by cases hg), (by rw [hp]; rfl)⟩, .refl _, hk, hf⟩
  refine wpS_bind (wpS_mono (Q := SrQ L κ (arrOf st).toList) (wpS_forRange (fun j => SrJ L κ (arrOf st).toList j) ?_ ?_ (.mk 0 _ st (Nat.le_refl _) (.mk [] R0 rfl))) ?_)
  · rintro j _ _ _ _ ⟨lo, rest, st1, hj, G⟩
    refine wpS_mono (wpS_srBody C hu hsz hj G) fun r st' h => ?_
    cases h with
    | done _ _ h => exact h
    | go _ _ h => exact h
  · rintro _ _ ⟨lo, rest, st1, hj, G⟩
    exact G.fin (by rw [← hsz]; exact Nat.le_trans (Nat.le_max_right 0 size) hj)
  · rintro _ _ ⟨lo, segs, st1, R⟩
    exact wpS_srEnd C hu hsz (by rw [← hsz]; exact h1) R hQ
end
end Mine
end
-- text T9
section
set_option autoImplicit false
set_option linter.unusedVariables false
namespace Mine
open PySem PyProof.Rows PySem.AutoSeq1
theorem str_at {vs : List Value} {xs : List Str} (h : StrsAre vs xs) : ∀ {i : Nat}, i < vs.length → ∃ x t, vs[i]? = some (.str x t) ∧ xs[i]? = some x := by
  induction h with
  | nil => intro i hi; simp at hi
  | @cons y t vs ys h ih =>
    intro i hi
    cases i with
    | zero => exact ⟨y, t, rfl, rfl⟩
    | succ i => simpa using ih (by simpa using hi)
theorem strs_len {vs : List Value} {xs : List Str} (h : StrsAre vs xs) : vs.length = xs.length := by
  induction h with
  | nil => rfl
  | cons _ _ _ ih => simp [ih]
theorem ltL_end {xs ys : List Str} {i : Nat} (h : xs.length ≤ i ∨ ys.length ≤ i) (h1 : i ≤ xs.length) (h2 : i ≤ ys.length) : ltL (xs.drop i) (ys.drop i) = decide (xs.length < ys.length) := by
  rcases h with h | h
  · have e : xs.drop i = [] := List.drop_eq_nil_of_le h
    rw [e]
    cases q : ys.drop i with
    | nil =>
      have := List.drop_eq_nil_iff.mp q
      simp [ltL]; lia
    | cons y r =>
      have : i < ys.length := by
        rcases Nat.lt_or_ge i ys.length with w | w
        · exact w
        · rw [List.drop_eq_nil_of_le w] at q; cases q
      simp [ltL]; lia
  · have e : ys.drop i = [] := List.drop_eq_nil_of_le h
    rw [e]
    cases q : xs.drop i with
    | nil =>
      have := List.drop_eq_nil_iff.mp q
      simp [ltL]; lia
    | cons y r => simp [ltL]; lia
theorem lt_loopS (l b : Addr) (vs ws : List Value) (xs ys : List Str) (n n2 : Nat) (hx : StrsAre vs xs) (hy : StrsAre ws ys) (k : Nat) :
    ∀ i : Nat, vs.length - i = k → i ≤ vs.length → i ≤ ws.length → Meets (Builtin.«list.__eq__.loop» ⟨[.ref l, .ref b, rawInt i, rawInt 0], []⟩)
      (fun A R s => s.heap.get? l = some { cls := .type "list", data := .seq vs.toArray n } ∧ s.heap.get? b = some { cls := .type "list", data := .seq ws.toArray n2 } ∧ R (.ok (.ret (.bool (ltL (xs.drop i) (ys.drop i))))) s) := by
  have lx := strs_len hx
  have ly := strs_len hy
  have ends : ∀ i : Nat, vs.length ≤ i ∨ ws.length ≤ i → i ≤ vs.length → i ≤ ws.length → Meets (Builtin.«list.__eq__.loop» ⟨[.ref l, .ref b, rawInt i, rawInt 0], []⟩)
      (fun A R s => s.heap.get? l = some { cls := .type "list", data := .seq vs.toArray n } ∧ s.heap.get? b = some { cls := .type "list", data := .seq ws.toArray n2 } ∧ R (.ok (.ret (.bool (ltL (xs.drop i) (ys.drop i))))) s) := by
    intro i hi h1 h2 prog w A R s h
    obtain ⟨hp, g, d, tk, os⟩ := s; obtain ⟨hl, hb, h⟩ := h
    rw [ltL_end (by lia) (by lia) (by lia), ← lx, ← ly] at h
    wp_walk using wpAny_loadPart' hl, wpAny_loadPart' hb
    have hn : (vs.toArray[((i : Nat) : Int).toNat]? = none) ∨ (ws.toArray[((i : Nat) : Int).toNat]? = none) := by
      rcases hi with hi | hi
      · left; simp; lia
      · right; simp; lia
    rcases hn with hn | hn
    · rw [hn]
      wp_walk using wpAny_loadPart' hl, wpAny_loadPart' hb
      show R (.ok (.ret (.bool (decide (vs.toArray.size < ws.toArray.size))))) _
      simpa using h
    · rw [hn]
      cases vs.toArray[((i : Nat) : Int).toNat]? <;>
      · wp_walk using wpAny_loadPart' hl, wpAny_loadPart' hb
        show R (.ok (.ret (.bool (decide (vs.toArray.size < ws.toArray.size))))) _
        simpa using h
  induction k with
  | zero => intro i hk h1 h2; exact ends i (.inl (by lia)) h1 h2
  | succ k ih =>
    intro i hk h1 h2
    by_cases hw : ws.length ≤ i
    · exact ends i (.inr hw) h1 h2
    intro prog w A R s h
    obtain ⟨hp, g, d, tk, os⟩ := s; obtain ⟨hl, hb, h⟩ := h
    obtain ⟨x, t, e1, f1⟩ := str_at hx (i := i) (by lia)
    obtain ⟨y, u, e2, f2⟩ := str_at hy (i := i) (by lia)
    have hi1 : vs.toArray[((i : Nat) : Int).toNat]? = some (.str x t) := by simpa using e1
    have hi2 : ws.toArray[((i : Nat) : Int).toNat]? = some (.str y u) := by simpa using e2
    have hc : ((i : Int) + 1) = ((i + 1 : Nat) : Int) := by push_cast; rfl
    have d1 : xs.drop i = x :: xs.drop (i + 1) := by
      obtain ⟨z, hz, ez⟩ := drop_get (xs := xs) (i := i) (by lia); rw [f1] at hz; cases hz; exact ez
    have d2 : ys.drop i = y :: ys.drop (i + 1) := by
      obtain ⟨z, hz, ez⟩ := drop_get (xs := ys) (i := i) (by lia); rw [f2] at hz; cases hz; exact ez
    rw [d1, d2] at h
    wp_walk using wpAny_loadPart' hl, wpAny_loadPart' hb
    rw [hi1, hi2]
    refine wpAny_bind (wpAny_eqBool_str ?_)
    by_cases q : x = y
    · rw [decide_eq_true q]
      simp only [ltL, q, if_true] at h
      wp_walk
      rw [hc]
      exact ⟨plainId_quiet PySem.MeetsSeq3.plain_eq_loop _, codeAny_builtin PySem.MeetsSeq3.entry_eq_loop (by
        rw [Around.under_plainId PySem.MeetsSeq3.plain_eq_loop _]
        exact ih (i + 1) (by lia) (by lia) (by lia) prog w A R _ ⟨hl, hb, h⟩)⟩
    · rw [decide_eq_false q]
      simp only [ltL, q, if_false] at h
      wp_walk using wpAny_loadPart' hl, wpAny_loadPart' hb
      rw [hi1, hi2]
      refine wpAny_bind (show wpAny (model prog w) _ (compareOp .Lt (.str x t) (.str y u)) _ _ _ from PySem.P.lt_str ?_)
      wp_walk
      exact h
theorem list_ltS (l b : Addr) (vs ws : List Value) (xs ys : List Str) (n n2 : Nat) (hx : StrsAre vs xs) (hy : StrsAre ws ys) : Meets (Builtin.«list.__lt__» ⟨[.ref l, .ref b], []⟩)
      (fun A R s => s.heap.get? l = some { cls := .type "list", data := .seq vs.toArray n } ∧ s.heap.get? b = some { cls := .type "list", data := .seq ws.toArray n2 } ∧ R (.ok (.ret (.bool (ltL xs ys)))) s) := by
  intro prog w A R s h
  obtain ⟨hp, g, d, tk, os⟩ := s; obtain ⟨hl, hb, h⟩ := h
  have f3 := AutoSeq1.sub_list_list
  wp_walk using wpAny_loadPart' hl, wpAny_loadPart' hb
  exact ⟨plainId_quiet PySem.MeetsSeq3.plain_eq_loop _, codeAny_builtin PySem.MeetsSeq3.entry_eq_loop (by
    rw [Around.under_plainId PySem.MeetsSeq3.plain_eq_loop _]
    exact lt_loopS l b vs ws xs ys n n2 hx hy _ 0 rfl (Nat.zero_le _) (Nat.zero_le _) prog w A R _ ⟨hl, hb, by simpa using h⟩)⟩
section
variable {prog : Program} {w : World} {A : Around} {E : Value → Shared → Prop} {s : Shared}
theorem lt_lists {l b : Addr} {vs ws : List Value} {xs ys : List Str} {n n2 : Nat} {Q : Value → Shared → Prop} (h1 : s.heap.get? l = some { cls := .type "list", data := .seq vs.toArray n }) (h2 : s.heap.get? b = some { cls := .type "list", data := .seq ws.toArray n2 })
    (hx : StrsAre vs xs) (hy : StrsAre ws ys) (hu : A.units < cLine) (h : Q (.bool (ltL xs ys)) s) : wpAny (model prog w) A (compareOp .Lt (.ref l) (.ref b)) Q E s := by
  show wpAny (model prog w) A (richCompare .Lt (.ref l) (.ref b)) Q E s
  exact richCompare_meets_room (op := .Lt) ⟨_, h1, rfl⟩ ⟨_, h2, rfl⟩ PySem.F.slot_list_lt PySem.F.entry_list_lt (PySem.F.args_list_lt_2 _ _) (list_ltS l b vs ws xs ys n n2 hx hy) ⟨h1, h2, by simp, h⟩ hu
end
end Mine
end
-- text T10
section
set_option autoImplicit false
set_option linter.unusedVariables false
namespace Mine
open PySem PyProof.Rows
theorem ltS_ord : Ord ltS := by
  refine ⟨fun x y h => ?_, fun x y z h1 h2 => ?_⟩
  · unfold ltS at *
    have h := of_decide_eq_true h
    exact decide_eq_false (List.lt_asymm h)
  · unfold ltS at *
    have h1 : ¬ y.cps.toList < x.cps.toList := of_decide_eq_false h1
    have h2 : ¬ z.cps.toList < y.cps.toList := of_decide_eq_false h2
    refine decide_eq_false ?_
    exact List.not_lt.mpr (List.le_trans (List.not_lt.mp h1) (List.not_lt.mp h2))
theorem ltS_tri {x y : Str} (h : ltS x y = false) (h' : ltS y x = false) : x = y := by
  unfold ltS at *
  have h1 : ¬ x.cps.toList < y.cps.toList := of_decide_eq_false h
  have h2 : ¬ y.cps.toList < x.cps.toList := of_decide_eq_false h'
  have e : x.cps.toList = y.cps.toList := List.le_antisymm (List.not_lt.mp h2) (List.not_lt.mp h1)
  cases x; cases y; simp only [Str.mk.injEq]; exact Array.toList_inj.mp e
theorem ltL_irr : ∀ x : List Str, ltL x x = false
  | [] => rfl
  | a :: r => by simp [ltL, ltL_irr r]
theorem ltL_tri : ∀ {x y : List Str}, ltL x y = false → ltL y x = false → x = y
  | [], [], _, _ => rfl
  | [], b :: q, h, _ => by simp [ltL] at h
  | a :: r, [], _, h => by simp [ltL] at h
  | a :: r, b :: q, h1, h2 => by
    by_cases e : a = b
    · subst e
      simp only [ltL, if_true] at h1 h2
      rw [ltL_tri h1 h2]
    · have e' : ¬ b = a := fun q => e q.symm
      simp only [ltL, e, e', if_false] at h1 h2
      exact absurd (ltS_tri h1 h2) e
theorem ltL_asym : ∀ x y : List Str, ltL x y = true → ltL y x = false
  | [], [], h => by simp [ltL] at h
  | [], b :: q, _ => rfl
  | a :: r, [], h => by simp [ltL] at h
  | a :: r, b :: q, h => by
    by_cases e : a = b
    · subst e
      simp only [ltL, if_true] at h ⊢
      exact ltL_asym r q h
    · have e' : ¬ b = a := fun q => e q.symm
      simp only [ltL, e, e', if_false] at h ⊢
      exact ltS_ord.asym _ _ h
theorem ltL_trans : ∀ x y z : List Str, ltL y x = false → ltL z y = false → ltL z x = false
  | [], _, [], _, _ => rfl
  | x, [], z, h1, h2 => by
    cases x with
    | nil => cases z with
      | nil => rfl
      | cons => rfl
    | cons a r => simp [ltL] at h1
  | [], b :: q, c :: p, _, _ => rfl
  | a :: r, b :: q, [], _, h2 => by simp [ltL] at h2
  | a :: r, b :: q, c :: p, h1, h2 => by
    by_cases e1 : b = a
    · subst e1
      by_cases e2 : c = b
      · subst e2
        simp only [ltL, if_true] at h1 h2 ⊢
        exact ltL_trans r q p h1 h2
      · simp only [ltL, e2, if_false] at h2 ⊢; exact h2
    · simp only [ltL, e1, if_false] at h1
      by_cases e2 : c = b
      · subst e2
        simp only [ltL, e1, if_false]; exact h1
      · simp only [ltL, e2, if_false] at h2
        by_cases e3 : c = a
        · subst e3
          exact absurd (ltS_tri h2 h1) e2
        · simp only [ltL, e3, if_false]
          exact ltS_ord.trans _ _ _ h1 h2
noncomputable def ltK (x y : Int × List Str) : Bool := if x.1 = y.1 then ltL x.2 y.2 else decide (x.1 < y.1)
theorem ltK_ord : Ord ltK := by
  refine ⟨fun x y h => ?_, fun x y z h1 h2 => ?_⟩
  · unfold ltK at *
    by_cases e : x.1 = y.1
    · rw [if_pos e] at h; rw [if_pos e.symm]; exact ltL_asym _ _ h
    · rw [if_neg e] at h; rw [if_neg fun q => e q.symm]
      have := of_decide_eq_true h
      exact decide_eq_false (by omega)
  · unfold ltK at *
    by_cases e1 : y.1 = x.1
    · rw [if_pos e1] at h1
      by_cases e2 : z.1 = y.1
      · rw [if_pos e2] at h2; rw [if_pos (e2.trans e1)]; exact ltL_trans _ _ _ h1 h2
      · rw [if_neg e2] at h2; rw [if_neg fun q => e2 (q.trans e1.symm)]
        have := of_decide_eq_false h2
        exact decide_eq_false (by omega)
    · rw [if_neg e1] at h1
      have w1 := of_decide_eq_false h1
      by_cases e2 : z.1 = y.1
      · rw [if_neg fun q => e1 (e2.symm.trans q)]
        exact decide_eq_false (by omega)
      · rw [if_neg e2] at h2
        have w2 := of_decide_eq_false h2
        by_cases e3 : z.1 = x.1
        · omega
        · rw [if_neg e3]; exact decide_eq_false (by omega)
theorem Ord.on {α β : Type} {L : α → α → Bool} (h : Ord L) (f : β → α) : Ord fun x y => L (f x) (f y) := ⟨fun x y => h.asym _ _, fun x y z => h.trans _ _ _⟩
section
variable {prog : Program} {w : World} {A : Around} {E : Value → Shared → Prop} {s : Shared}
theorem wpS_lt {κ : SortKind} {x y : Keyed} {c : Bool} {st : SortSt} {Q : Option Bool → SortSt → Prop} (hk : kindOf st = κ) (h : ∀ (Q' : Bool → Shared → Prop) (E' : Value → Shared → Prop), Q' c s → wpAny (model prog w) A (keyLt' κ x.1 y.1) Q' E' s) (hQ : Q (some c) st) :
    wpS (model prog w) A E s (lt' x y) Q st := by
  rw [lt'_eq]
  refine wpS_bind (wpS_get ?_)
  rw [hk]
  refine wpS_bind (wpS_lift (wpAny_attempt (h _ _ ⟨rfl, ?_⟩)))
  exact wpS_pure hQ
noncomputable def strOf : Value → Str
  | .str x _ => x
  | _ => Str.empty
noncomputable def UStr (x : Keyed) : Prop := ∃ a t, x.1 = .str a t
theorem cmpS : Cmp (model prog w) A E s oneType' UStr (fun x y => ltS (strOf x.1) (strOf y.1)) := by
  refine ⟨ltS_ord.on (fun x : Keyed => strOf x.1), ?_⟩
  rintro ⟨x, x'⟩ ⟨y, y'⟩ ⟨a, t, e1⟩ ⟨b, u, e2⟩ st Q hk hQ
  dsimp only at e1 e2
  subst e1; subst e2
  refine wpS_lt hk (fun Q' E' hq => ?_) hQ
  rw [keyLt'_oneType]
  exact oneLt_str hq
noncomputable def intOf : Value → Int
  | .int i _ => i
  | _ => 0
noncomputable def UInt (x : Keyed) : Prop := ∃ a t, x.1 = .int a t
theorem cmpI : Cmp (model prog w) A E s oneType' UInt (fun x y => decide (intOf x.1 < intOf y.1)) := by
  refine ⟨⟨fun x y h => ?_, fun x y z h1 h2 => ?_⟩, ?_⟩
  · have := of_decide_eq_true h; exact decide_eq_false (by omega)
  · have w1 := of_decide_eq_false h1; have w2 := of_decide_eq_false h2; exact decide_eq_false (by omega)
  rintro ⟨x, x'⟩ ⟨y, y'⟩ ⟨a, t, e1⟩ ⟨b, u, e2⟩ st Q hk hQ
  dsimp only at e1 e2
  subst e1; subst e2
  refine wpS_lt hk (fun Q' E' hq => ?_) hQ
  rw [keyLt'_oneType]
  exact oneLt_int hq
structure PairAt (h : Heap) (v : Value) (k : Int × List Str) : Prop where
  ex : ∃ a l t n m vs, v = .ref a ∧ h.get? a = some { cls := .type "tuple", data := .seq #[.int k.1 t, .ref l] n } ∧ h.get? l = some { cls := .type "list", data := .seq (List.toArray vs) m } ∧ StrsAre vs k.2 ∧ ∀ x ∈ k.2, PyData.strOk x = true
theorem strs_reads {h : Heap} : ∀ {vs : List Value} {xs : List Str}, StrsAre vs xs → ReadsAll h vs (xs.map PyData.str) []
  | _, _, .nil => .nil
  | _, _, .cons y t r => by
    have := ReadsAll.cons (h := h) (Reads.str y t) (strs_reads r)
    simpa using this
theorem lay_strs : ∀ {xs : List Str}, (∀ x ∈ xs, PyData.strOk x = true) → PyData.canLayAll0 (xs.map PyData.str) = true
  | [], _ => by simp [PyData.canLayAll0]
  | x :: r, h => by simp [PyData.canLayAll0, PyData.canLay0, h x (.head _), lay_strs fun y hy => h y (.tail _ hy)]
theorem depth_strs : ∀ (xs : List Str), PyData.depthAll (xs.map PyData.str) = 0
  | [] => by simp [PyData.depthAll]
  | x :: r => by simp [PyData.depthAll, PyData.depth, depth_strs r]
theorem eqv_strs : ∀ (xs ys : List Str), PyData.eqvAll (xs.map PyData.str) (ys.map PyData.str) = decide (xs = ys)
  | [], [] => by simp [PyData.eqvAll]
  | [], _ :: _ => by simp [PyData.eqvAll]
  | _ :: _, [] => by simp [PyData.eqvAll]
  | x :: r, y :: q => by
    simp only [List.map_cons, PyData.eqvAll, PyData.eqv, eqv_strs r q]
    by_cases e : x = y <;> by_cases f : r = q <;> simp [e, f]
theorem cmpP (hu : A.units + 2 < cLine) (key : Value → Int × List Str) : Cmp (model prog w) A E s (tuples' true) (fun x => PairAt s.heap x.1 (key x.1)) (fun x y => ltK (key x.1) (key y.1)) := by
  refine ⟨ltK_ord.on (fun x : Keyed => key x.1), ?_⟩
  rintro ⟨x, x'⟩ ⟨y, y'⟩ ⟨⟨a, l, t, n, m, vs, e1, g1, g2, sx, ox⟩⟩ ⟨⟨b, l2, u, n2, m2, ws, e2, g3, g4, sy, oy⟩⟩ st Q hk hQ
  dsimp only at e1 e2 g1 g2 g3 g4 sx sy ox oy hQ
  generalize key x = kx at *
  generalize key y = ky at *
  subst e1; subst e2
  obtain ⟨i, xs⟩ := kx
  obtain ⟨j, ys⟩ := ky
  dsimp only at *
  refine wpS_lt hk (fun Q' E' hq => ?_) hQ
  refine PySem.W.kat_lt g1 rfl g3 rfl ?_
  show PySem.W.KatLex prog w A true _ Q' [(.int i t, .int j u), (.ref l, .ref l2)] 0 s
  refine PySem.W.kat_cons (wpAny_eqBool_int ?_)
  unfold ltK at hq
  dsimp only at hq
  by_cases e : i = j
  · rw [if_pos e] at hq
    have : (i == j) = true := by simpa using e
    rw [this]
    refine PySem.W.kat_yes (PySem.W.kat_cons ?_)
    have rx : Reads s.heap (.ref l) (.list (xs.map PyData.str)) [l] := .list g2 rfl rfl (by simpa using strs_reads sx)
    have ry : Reads s.heap (.ref l2) (.list (ys.map PyData.str)) [l2] := .list g4 rfl rfl (by simpa using strs_reads sy)
    have heq := SeqAt.eqAt_reads _ _ A s _ _ _ _ rx ry (by simp [PyData.canLay0, lay_strs ox]) (by simp [PyData.canLay0, lay_strs oy]) (by simp [PyData.depth, depth_strs]; omega)
    refine heq prog w _ _ ?_
    have ev : PyData.eqv (.list (xs.map PyData.str)) (.list (ys.map PyData.str)) = decide (xs = ys) := by simp only [PyData.eqv]; exact eqv_strs xs ys
    rw [ev]
    by_cases f : xs = ys
    · rw [decide_eq_true f]
      refine PySem.W.kat_yes (PySem.W.kat_nil ?_)
      rw [f, ltL_irr] at hq
      simpa using hq
    · rw [decide_eq_false f]
      refine PySem.W.kat_no ?_
      show wpAny (model prog w) A (oneLt' false (.ref l) (.ref l2)) Q' _ s
      exact PySem.W.kat_one _ _ (lt_lists g2 g4 sx sy (by omega) hq)
  · rw [if_neg e] at hq
    have : (i == j) = false := by simpa using e
    rw [this]
    refine PySem.W.kat_no ?_
    show wpAny (model prog w) A (oneLt' true (.int i t) (.int j u)) Q' _ s
    exact oneLt_int hq
end
end Mine
end
-- text T11
section
set_option autoImplicit false
set_option linter.unusedVariables false
namespace Mine
open PySem PyProof.Rows
section
variable {prog : Program} {w : World} {A : Around} {E : Value → Shared → Prop} {s : Shared}
theorem sort_keeps {h : Heap} {a : Addr} {vs : List Value} {out : Array Value} {n : Nat} (ho : h.get? a = some (seqObj "list" vs.toArray n)) : (∀ b o, b ≠ a → h.get? b = some o → (sortedHeap h a vs out).get? b = some o) ∧ ∃ e, (sortedHeap h a vs out).get? a = some (seqObj "list" out e) := by
  have ha : a < h.objs.size := Heap.lt_size ho
  obtain ⟨e1, ho1⟩ : ∃ e1, (h.update a (Obj.mapSeq fun _ => #[])).get? a = some (seqObj "list" #[] e1) := ⟨_, get?_update_seq ho (fun _ => #[])⟩
  have ho6 : (((h.update a (Obj.mapSeq fun _ => #[])).push (seqObj "tuple" vs.toArray 0)).push (seqObj "list" #[] 0)).get? a = some (seqObj "list" #[] e1) := by
    rw [Heap.get?_push_ne _ _ _ (by rw [size_push', Heap.size_update]; exact Nat.ne_of_lt (Nat.lt_succ_of_lt ha)), Heap.get?_push_ne _ _ _ (by rw [Heap.size_update]; exact Nat.ne_of_lt ha)]
    exact ho1
  refine ⟨fun b o hb e => ?_, _, get?_update_seq ho6 fun _ => out⟩
  unfold sortedHeap
  rw [(Heap.SameBut.update _ a _).2 b hb]
  exact Heap.get?_push_of_some _ (Heap.get?_push_of_some _ (by rw [(Heap.SameBut.update _ a _).2 b hb]; exact e))
theorem zip_self {α : Type} : ∀ vs : List α, vs.zip vs = vs.map fun v => (v, v)
  | [] => rfl
  | v :: r => by simp [zip_self r]
theorem list_sort_any {κ : SortKind} {L : Keyed → Keyed → Bool} {a : Addr} {vs : List Value} {n : Nat} {P : PySem.Fin → Shared → Prop} (ho : s.heap.get? a = some (seqObj "list" vs.toArray n))
    (hkk : ∀ s' : Shared, (∀ b o, b ≠ a → s.heap.get? b = some o → s'.heap.get? b = some o) → 2 ≤ vs.length → ∀ Q : SortKind → Shared → Prop, Q κ s' → wpAny (model prog w) A (keyKind' vs.toArray) Q E s')
    (hC : ∀ s' : Shared, (∀ b o, b ≠ a → s.heap.get? b = some o → s'.heap.get? b = some o) → ∃ U' : Keyed → Prop, (∀ v ∈ vs, U' (v, v)) ∧ Cmp (model prog w) A E s' κ U' L) (hsz0 : vs.length ≤ sizeLine)
    (h : ∀ ws : List Value, ws.Perm vs → Srt (fun v u => L (v, v) (u, u)) ws → P (.done (.ret .none)) { s with heap := sortedHeap s.heap a vs ws.toArray }) :
    wpAny (model prog w) A (Builtin.«list.sort» ⟨[.ref a], []⟩) P E s := by
  rw [list_sort_plain]
  have ha : a < s.heap.objs.size := Heap.lt_size ho
  refine wpAny_bind (listItems_at ho rfl ?_)
  refine wpAny_bind (listUpdate_at ho rfl ?_)
  obtain ⟨e1, ho1⟩ : ∃ e1, (s.heap.update a (Obj.mapSeq fun _ => #[])).get? a = some (seqObj "list" #[] e1) := ⟨_, get?_update_seq ho (fun _ => #[])⟩
  refine wpAny_bind (seqEpoch_at ho1 rfl ?_)
  refine wpAny_bind (wpAny_newTuple ?_)
  refine wpAny_bind (wpAny_newList ?_)
  refine wpAny_holding ?_
  have ho6 : (((s.heap.update a (Obj.mapSeq fun _ => #[])).push (seqObj "tuple" vs.toArray 0)).push (seqObj "list" #[] 0)).get? a = some (seqObj "list" #[] e1) := by
    rw [Heap.get?_push_ne _ _ _ (by rw [size_push', Heap.size_update]; exact Nat.ne_of_lt (Nat.lt_succ_of_lt ha)), Heap.get?_push_ne _ _ _ (by rw [Heap.size_update]; exact Nat.ne_of_lt ha)]
    exact ho1
  show wpAny (model prog w) A _ P E { s with heap := ((s.heap.update a (Obj.mapSeq fun _ => #[])).push (seqObj "tuple" vs.toArray 0)).push (seqObj "list" #[] 0) }
  dsimp only
  have hsz : vs.toArray.size = vs.length := by simp
  have kp : ∀ b o, b ≠ a → s.heap.get? b = some o → ({ s with heap := ((s.heap.update a (Obj.mapSeq fun _ => #[])).push (seqObj "tuple" vs.toArray 0)).push (seqObj "list" #[] 0) } : Shared).heap.get? b = some o := fun b o hb e =>
    Heap.get?_push_of_some _ (Heap.get?_push_of_some _ (by rw [(Heap.SameBut.update _ a _).2 b hb]; exact e))
  have fin : ∀ st' : SortSt, (arrOf st').toList.Perm (pairsOf vs).toList → Srt L (arrOf st').toList → P (.done (.ret .none)) { s with heap := sortedHeap s.heap a vs ((arrOf st').map (·.2)) } := by
    intro st' hp hs
    have hpp : (pairsOf vs).toList = vs.map fun v => (v, v) := by
      rw [pairsOf_toList]; exact zip_self vs
    have same : ∀ x ∈ (arrOf st').toList, x = (x.2, x.2) := fun x hx => by
      have := hp.mem_iff.mp hx
      rw [hpp] at this
      obtain ⟨v, _, rfl⟩ := List.mem_map.mp this
      rfl
    have e : (arrOf st').map (·.2) = ((arrOf st').toList.map (·.2)).toArray := by
      apply Array.toList_inj.mp; simp
    rw [e]
    refine h _ ?_ ?_
    · have := hp.map (·.2)
      rw [hpp, List.map_map] at this
      have e2 : List.map ((fun x : Keyed => x.2) ∘ fun v => (v, v)) vs = vs := by
        rw [show ((fun x : Keyed => x.2) ∘ fun v : Value => (v, v)) = id from rfl, List.map_id]
      rw [e2] at this; exact this
    · refine List.pairwise_map.mpr (List.Pairwise.imp_of_mem (fun {x y} hx hy hxy => ?_) hs)
      show L (y.2, y.2) (x.2, x.2) = false
      rw [← same x hx, ← same y hy]; exact hxy
  by_cases h2 : vs.toArray.size < 2
  · rw [if_pos h2, if_pos h2]
    refine wpAny_bind (wpAny_pure ?_)
    rw [StateT.run_pure]
    refine wpAny_bind (wpAny_pure ?_)
    dsimp only
    refine wpAny_bind (seqEpoch_at ho6 rfl ?_)
    refine wpAny_bind (listUpdate_at ho6 rfl ?_ (hsz2 := by rw [Array.size_map]; show (pairsOf vs).size ≤ _; rw [pairsOf_size, sizeLine_eq]; lia))
    simp only [bne_self_eq_false, Bool.false_eq_true, if_false]
    refine wpAny_pure (fin (SortSt.mk' general' (vs.toArray.zip vs.toArray) #[] 7 none) (List.Perm.refl _) ?_)
    show Srt L (pairsOf vs).toList
    rw [pairsOf_toList]
    rw [zip_self]
    clear hkk hC h fin kp ho6 ho
    match vs, hsz, h2 with
    | [], _, _ => exact .nil
    | [v], _, _ => exact List.pairwise_singleton _ _
    | v₁ :: v₂ :: rest, _, h2 => simp at h2; lia
  · rw [if_neg h2, if_neg h2]
    refine wpAny_bind (hkk _ kp (by lia) _ ?_)
    obtain ⟨U', hU, hCm⟩ := hC _ kp
    refine wpAny_bind (wpAny_mono (wpS_sortRuns hCm (st := SortSt.mk' κ (vs.toArray.zip vs.toArray) #[] 7 none)
      (Q := fun _ st' => (arrOf st').toList.Perm (pairsOf vs).toList ∧ Srt L (arrOf st').toList ∧ failedOf st' = none) ?_ rfl rfl rfl ?_ fun st' a1 a2 a3 => ⟨a1, a2, a3⟩) ?_ fun _ _ e => e)
    · intro x hx
      have hx' : x ∈ (pairsOf vs).toList := hx
      rw [pairsOf_toList] at hx'
      obtain ⟨q1, q2⟩ := mem_zip_self hx'
      obtain ⟨x1, x2⟩ := x
      dsimp only at q1 q2
      subst q1
      exact hU _ q2
    · show 1 ≤ (pairsOf vs).size
      rw [pairsOf_size]; lia
    rintro ⟨⟨⟩, st'⟩ s' ⟨rfl, hp, hs, hf⟩
    dsimp only
    refine wpAny_bind (seqEpoch_at ho6 rfl ?_)
    refine wpAny_bind (listUpdate_at ho6 rfl ?_ (hsz2 := by
      have := hp.length_eq
      rw [Array.length_toList, Array.length_toList, pairsOf_size] at this
      refine Nat.le_trans (Nat.le_of_eq ((Array.size_map ..).trans this)) ?_; lia))
    rw [hf]
    simp only [bne_self_eq_false, Bool.false_eq_true, if_false]
    exact wpAny_pure (fin st' hp hs)
theorem sorted_any {κ : SortKind} {L : Keyed → Keyed → Bool} {v : Value} {Q : Value → Shared → Prop}
    (hcol : ∀ A' : Around, A'.handled = A.handled → A'.units ≤ A.units + 10 → wpAny (model prog w) A' (collect v) (fun vs s1 => (∀ b o, s.heap.get? b = some o → s1.heap.get? b = some o) ∧ s1.gens = s.gens ∧ s1.os = s.os ∧ vs.length ≤ sizeLine ∧
      (∀ A'' : Around, A''.units ≤ A.units + 20 → ∀ s' : Shared, (∀ b o, s1.heap.get? b = some o → s'.heap.get? b = some o) → 2 ≤ vs.length → ∀ (Q : SortKind → Shared → Prop) (E : Value → Shared → Prop), Q κ s' → wpAny (model prog w) A'' (keyKind' vs.toArray) Q E s') ∧
      (∀ A'' : Around, A''.units ≤ A.units + 20 → ∀ s' : Shared, (∀ b o, s1.heap.get? b = some o → s'.heap.get? b = some o) → ∀ E : Value → Shared → Prop, ∃ U' : Keyed → Prop, (∀ v ∈ vs, U' (v, v)) ∧ Cmp (model prog w) A'' E s' κ U' L) ∧
      (∀ ws : List Value, ws.Perm vs → Srt (fun v u => L (v, v) (u, u)) ws → ∀ s2 D e, s.heap.get? D = none → (∀ b o, s.heap.get? b = some o → s2.heap.get? b = some o) → s2.gens = s.gens → s2.os = s.os → s2.heap.get? D = some { cls := .type "list", data := .seq ws.toArray e } → Q (.ref D) s2)) E s) :
    wpAny (model prog w) A (call (.builtin "sorted") [v]) Q E s := by
  refine Calls.call_function_entry kind_sorted plain_sorted entry_sorted (args_sorted1 _) ?_
  unfold Builtin.«sorted»
  refine wpAny_bind (m := checkCount "sorted" 1 1 _) (wpAny_pure ?_)
  refine wpAny_bind (wpAny_mono (hcol _ ?_ ?_) ?_ fun _ _ x => x)
  · simp
  · simp
  rintro vs s1 ⟨k1, g1, o1, hz, hkk, hC, hfin⟩
  refine wpAny_bind (wpAny_newList ?_)
  have hoL : (s1.heap.push { cls := .type "list", data := .seq vs.toArray }).get? s1.heap.objs.size = some (seqObj "list" vs.toArray 0) := Heap.get?_push_size _ rfl
  have old : ∀ b o, s1.heap.get? b = some o → b ≠ s1.heap.objs.size ∧ (s1.heap.push { cls := .type "list", data := .seq vs.toArray }).get? b = some o := fun b o e => ⟨Nat.ne_of_lt (Heap.lt_size e), Heap.get?_push_of_some _ e⟩
  refine wpAny_bind (wpAny_holding (wpAny_call_entry slot_list_sort ⟨_, hoL, rfl⟩ entry_list_sort (list_sort_any (κ := κ) (L := L) hoL (fun s' k h2 Q' hq => ?_) (fun s' k => ?_) hz fun ws hp hs => ⟨_, rfl, ?_⟩) (args_list_sort _)))
  · exact hkk _ (by simp) s' (fun b o e => k b o (old b o e).1 (old b o e).2) h2 Q' _ hq
  · exact hC _ (by simp) s' (fun b o e => k b o (old b o e).1 (old b o e).2) _
  · obtain ⟨kp, e, ge⟩ := sort_keeps (out := ws.toArray) hoL
    have fresh : s.heap.get? s1.heap.objs.size = none := by
      cases q : s.heap.get? s1.heap.objs.size with
      | none => rfl
      | some o => exact absurd (Heap.lt_size (k1 _ _ q)) (Nat.lt_irrefl _)
    exact wpAny_pure ⟨_, rfl, hfin ws hp hs { ({ s1 with heap := s1.heap.push { cls := .type "list", data := .seq vs.toArray } } : Shared) with heap := _ } _ e fresh (fun b o hb => kp b o (old b o (k1 b o hb)).1 (old b o (k1 b o hb)).2) g1 o1 ge⟩
theorem collect_is {l : Addr} {vs : List Value} {n : Nat} {Q : List Value → Shared → Prop} (hl : s.heap.get? l = some { cls := .type "list", data := .seq vs.toArray n }) (hsz : vs.length ≤ sizeLine)
    (h : ∀ s1 : Shared, (∀ b o, s.heap.get? b = some o → s1.heap.get? b = some o) → s1.gens = s.gens → s1.os = s.os → Q vs s1) : wpAny (model prog w) A (collect (.ref l)) Q E s := by
  refine collect_list ⟨_, hl, rfl, n, rfl⟩ (h _ (fun b o e => ?_) rfl rfl) hsz
  have hb : b ≠ s.heap.objs.size := Nat.ne_of_lt (Heap.lt_size e)
  show ((s.heap.push (seqObj "list" #[] 0)).update s.heap.objs.size (Obj.mapSeq (· ++ vs.toArray))).get? b = some o
  rw [(Heap.SameBut.update _ _ _).2 b hb]
  exact Heap.get?_push_of_some _ e
end
end Mine
end
-- text A18
section
set_option autoImplicit false
set_option linter.unusedVariables false
open PySem PySem.Calls PyProof.Rows PySem.W
namespace Mine
theorem IntsAre.vrs : ∀ {vs : List Value} {ns : List Int}, IntsAre vs ns → VRs vs (ns.map AV.int)
  | _, _, .nil => .nil
  | _, _, .cons n t h => .cons (.int _ _) (IntsAre.vrs h)
noncomputable def stOf (prog : Program) (w : World) (s : Shared) (mg mb : Str → Option Value) (book : Addr) (excs : Str → Option Addr) : St := { prog := prog, w := w, base := s.heap, os := s.os, mg := mg, mb := mb, book := book, excs := excs }
noncomputable def cx0 : Cx := { U := fun _ => none, fr := [], envs := [] }
noncomputable def heap0 (l : Addr) (ns : List Int) : AH := fun a => if a = l then some (.script ns) else none
theorem inv0 {prog : Program} {w : World} {s : Shared} {mg mb : Str → Option Value} {book : Addr} {excs : Str → Option Addr} {l : Addr} {vs : List Value} {ns : List Int} (hl : s.heap.IsList l vs.toArray) (hi : IntsAre vs ns) (hn : ns.length ≤ 63) (hg : s.gens = #[]) :
    Inv (stOf prog w s mg mb book excs) cx0 (heap0 l ns) s := by
  have hv := IntsAre.vrs hi
  refine ⟨fun b o e => e, fun a o e => (nomatch e), fun a o e => ?_, fun a o e => ⟨rfl, fun hs => ?_⟩, fun a o e => (nomatch e), hg, rfl, fun a ha => (nomatch ha)⟩
  · unfold heap0 at e
    split at e
    · rename_i q; subst q; cases e
      have := hv.length
      rw [List.length_map] at this
      exact ⟨vs, hl, hv, by lia⟩
    · cases e
  · unfold heap0 at e
    split at e
    · cases e; cases hs
    · cases e
noncomputable def lawFn : Fn := fun vs H Q _ => ∃ l ns, vs = [.ref l] ∧ H = heap0 l ns ∧ ns.length ≤ 63 ∧ ∀ H', Q (.bool true) H'
theorem law_ends {prog : Program} {w : World} {s : Shared} {mg mb : Str → Option Value} {book : Addr} {excs : Str → Option Addr} {l fa : Addr} {vs : List Value} {ns : List Int} {d : Nat} {Q : Value → Shared → Prop} {E : Value → Shared → Prop}
    (h : SoundF (stOf prog w s mg mb book excs) true d (.ref fa) lawFn) (hd : d ≤ 36) (hl : s.heap.IsList l vs.toArray) (hi : IntsAre vs ns) (hn : ns.length ≤ 63) (hg : s.gens = #[])
    (hQ : ∀ s', (∀ b o, s.heap.get? b = some o → s'.heap.get? b = some o) → s'.os = s.os → s'.gens = #[] → Q (.bool true) s') : wpAny (model prog w) callerA (call (.ref fa) [.ref l]) Q E s := by
  refine wpAny_call (codeAny_mono (h cx0 callerA [.ref l] [.ref l] (heap0 l ns) (fun v _ => v = .bool true) noX s ⟨fun _ => rfl, ?_, ?_⟩ ⟨rfl, fun e he => (nomatch he)⟩ (.cons (.ref l) .nil) (inv0 hl hi hn hg) ⟨l, ns, rfl, rfl, hn, fun _ => rfl⟩) ?_)
  · show 1 + claimMargin + 8 * d ≤ 600
    have : claimMargin = 300 := rfl
    lia
  · show 4 + 100 * d ≤ 9000; lia
  · intro r s' hr
    cases r with
    | error e => obtain ⟨x, H', hx, _⟩ := hr; exact hx.elim
    | ok fl =>
      cases fl with
      | ret v =>
        obtain ⟨av, H', rv, I, rfl⟩ := hr
        cases rv
        exact hQ s' I.base I.os I.gens
      | _ => exact hr.elim
theorem envL_of {prog : Program} {w : World} {s : Shared} {mg mb : Str → Option Value} {book : Addr} {excs : Str → Option Addr} {K : Frag} {p : Program} {loose : List Str} {mean : ExcName → Option Value}
    (T : Top p loose mean mg mb s.heap) (hi : importsNone p = true) (X : K.In s.heap) (hk : ∃ o es n, K.lookup 3 = some o ∧ o.data = .dict es n) : EnvL (stOf prog w s mg mb book excs) K := by
  refine ⟨⟨T.g, T.b, T.nolimit, ?_⟩, X, fun x => ?_, T.builtins⟩
  · obtain ⟨mm, ⟨o, es, ep, h, _⟩, _⟩ := (T.seer hi).mods
    exact ⟨o, h⟩
  · obtain ⟨o, es, n, h1, h2⟩ := hk
    obtain ⟨o', es', ep', k1, k2, k3, k4⟩ := T.g
    have k1' : s.heap.get? 3 = some o' := k1
    rw [X 3 o h1] at k1'; cases k1'
    rw [h2] at k2; cases k2
    show mg x = mgK K x
    unfold mgK
    rw [h1]
    obtain ⟨c, d, dt, sl⟩ := o
    cases h2
    exact (k4 x).symm
end Mine
end
-- text U1
section
set_option autoImplicit false
set_option linter.unusedVariables false
namespace Mine
open PySem PyProof.Rows
set_option maxRecDepth 100000
theorem entry_set_iterator_next : entryFor table "set_iterator.__next__" = some Builtin.«set_iterator.__next__» := entryFor_of_tree (by kernel_rfl)
theorem slot_set_iterator_next : Slot "set_iterator" "__next__" "set_iterator.__next__" :=
  .of (owner := "set_iterator") (n := "__next__") (by rw [typeLookup_type, builtinLookup_eq_fast]; kernel_rfl) (by decide +kernel) (by decide +kernel) (by decide +kernel)
    (by first | exact .inl (by decide +kernel) | exact .inr (by decide +kernel)) (by rw [isSubtype_type]; kernel_rfl)
theorem args_set_iterator_next (a : Value) : argsOk "set_iterator.__next__" ⟨[a], []⟩ := by unfold argsOk; kernel_rfl
theorem eraseIdx_perm {α : Type} : ∀ {xs : List α} {i : Nat} (h : i < xs.length), (xs[i] :: xs.eraseIdx i).Perm xs
  | [], i, h => by simp at h
  | x :: r, 0, h => by simp
  | x :: r, i + 1, h => by
    have := eraseIdx_perm (xs := r) (i := i) (by simpa using h)
    simp only [List.getElem_cons_succ, List.eraseIdx_cons_succ]
    exact (List.Perm.swap _ _ _).trans (this.cons x)
section
variable {prog : Program} {w : World} {A : Around} {E : Value → Shared → Prop} {s : Shared}
theorem wpAny_choose {M : Model} {src : Source} {n : Nat} {Q : Nat → Shared → Prop} (hn : n ≠ 0) (h : ∀ i, i < n → Q i { s with drawn := s.drawn.bump src }) : wpAny M A (choose src n) Q E s := fun Γ p _ =>
  ⟨hn, h _ (Nat.mod_lt _ (Nat.pos_of_ne_zero hn))⟩
theorem wpAny_drawOrder {M : Model} {α : Type} : ∀ (n : Nat) (xs : List α) (s : Shared) {Q : List α → Shared → Prop}, xs.length = n → (∀ ys dr, ys.Perm xs → Q ys { s with drawn := dr }) → wpAny M A (drawOrder n xs) Q E s
  | 0, xs, s, Q, hl, h => by
    have : xs = [] := List.eq_nil_of_length_eq_zero hl
    subst this
    show wpAny M A (pure []) Q E s
    exact wpAny_pure (h [] s.drawn (List.Perm.refl _))
  | n + 1, [], s, Q, hl, h => by simp at hl
  | n + 1, x :: r, s, Q, hl, h => by
    unfold drawOrder
    refine wpAny_bind (wpAny_choose (by simp) fun i hi => ?_)
    have hg : (x :: r)[i]? = some (x :: r)[i] := List.getElem?_eq_getElem hi
    rw [hg]
    dsimp only
    refine wpAny_bind (wpAny_drawOrder n ((x :: r).eraseIdx i) _ (by rw [List.length_eraseIdx, if_pos hi]; simp at hl ⊢; lia) fun ys dr hp => ?_)
    refine wpAny_pure (h _ dr ?_)
    refine (List.Perm.cons _ hp).trans ?_
    exact eraseIdx_perm hi
theorem pickGo_perm {α : Type} (next : Nat → Nat) : ∀ (fuel k : Nat) (left : List α) (out : Array α), fuel = left.length → ((pickOrder.go next fuel k left out).toList).Perm (out.toList ++ left)
  | 0, k, left, out, h => by
    have : left = [] := List.eq_nil_of_length_eq_zero h.symm
    subst this; simp [pickOrder.go]
  | fuel + 1, k, left, out, h => by
    unfold pickOrder.go
    have hl : next k % left.length < left.length := Nat.mod_lt _ (by lia)
    have hg : left[next k % left.length]? = some left[next k % left.length] := List.getElem?_eq_getElem hl
    rw [hg]
    dsimp only
    refine (pickGo_perm next fuel (k + 1) _ _ (by rw [List.length_eraseIdx, if_pos hl]; lia)).trans ?_
    rw [Array.toList_push, List.append_assoc]
    exact List.Perm.append_left _ (eraseIdx_perm hl)
theorem pick_perm {α : Type} (next : Nat → Nat) (xs : Array α) : (pickOrder next xs).toList.Perm xs.toList := by
  have := pickGo_perm next xs.size 0 xs.toList #[] (by simp)
  simpa [pickOrder] using this
noncomputable def SetMode (w : World) (h : Heap) (a P : Addr) (es : Array (Int × Value)) (ep : Nat) (t : SetTable) (vs : List Value) (k : Nat) (first : Value) : Prop :=
  (w.params.followText "set-order" = true ∧ first = rawInt 0 ∧ vs = (pickOrder (w.params.setOrder a ep) es).toList.map (·.2)) ∨
  (w.params.followText "set-order" = false ∧ ∃ pl : List Nat, first = .ref P ∧ (∃ oP n, h.get? P = some oP ∧ oP.data = .seq ((pl.map fun (i : Nat) => rawInt i).toArray) n) ∧ pl.length = es.size ∧ ∀ (k p : Nat), pl[k]? = some p → ∃ hh v, es[p]? = some (hh, v) ∧ vs[k]? = some v) ∨
  (w.params.followText "set-order" = false ∧ es.size ≤ 1 ∧ t.led = true ∧ vs = es.toList.map (·.2) ∧ first = rawInt (if k = 0 then 0 else (t.place[0]?).getD 0 + 1 : Nat))
structure SetIt (w : World) (a I P : Addr) (es : Array (Int × Value)) (ep : Nat) (t : SetTable) (vs : List Value) (k : Nat) (h : Heap) : Prop where
  set : h.get? a = some { cls := .type "set", data := .set es ep t }
  len : vs.length = es.size
  it : ∃ o first, h.get? I = some o ∧ o.cls = .type "set_iterator" ∧ o.data = .fields #[first, rawInt (k : Int), .ref a, rawInt es.size, rawInt ep] ∧ SetMode w h a P es ep t vs k first
theorem wpAny_setsByText {Q : Bool → Shared → Prop} (h : Q (w.params.followText "set-order") s) : wpAny (model prog w) A setsByText Q E s := by
  unfold setsByText
  exact wpAny_bind (wpAny_askSetting (wpAny_pure h))
theorem fits_iff {t : SetTable} {n : Nat} (h : t.fits n = true) : t.place.size = n := by
  unfold SetTable.fits at h
  simp only [Bool.and_eq_true, beq_iff_eq] at h
  first | exact h.1 | exact h.1.1 | lia
theorem SetIt.typeIs {a I P : Addr} {es : Array (Int × Value)} {ep : Nat} {t : SetTable} {vs : List Value} {k : Nat} (x : SetIt w a I P es ep t vs k s.heap) : s.TypeIs (.ref I) "set_iterator" := by
  obtain ⟨o, first, ho, hc, _⟩ := x.it
  exact ⟨o, ho, hc⟩
theorem set_fields_upd {h : Heap} {I : Addr} {o : Obj} {fs : Array Value} (ho : h.get? I = some o) (hd : o.data = .fields fs) (i : Nat) (x : Value) :
    ∃ o', (h.update I (Obj.mapFields (·.setIfInBounds i x))).get? I = some o' ∧ o'.cls = o.cls ∧ o'.data = .fields (fs.setIfInBounds i x) :=
  ⟨_, Heap.get?_update_self _ ho (Obj.isFreed_of_fields (Obj.data_mapFields hd _)), Obj.cls_mapFields .., Obj.data_mapFields hd _⟩
theorem SetMode.frame {h h' : Heap} {a P : Addr} {es : Array (Int × Value)} {ep : Nat} {t : SetTable} {vs : List Value} {k : Nat} {first : Value} (m : SetMode w h a P es ep t vs k first) (e : ∀ o, h.get? P = some o → h'.get? P = some o) : SetMode w h' a P es ep t vs k first := by
  rcases m with m | ⟨m1, pl, m2, ⟨oP, n, m3, m4⟩, m5⟩ | m
  · exact .inl m
  · exact .inr (.inl ⟨m1, pl, m2, ⟨oP, n, e _ m3, m4⟩, m5⟩)
  · exact .inr (.inr m)
theorem setNext_text {a : Addr} {es : Array (Int × Value)} {ep : Nat} {t : SetTable} {slot given : Nat} {Q : Option (Value × Nat) → Shared → Prop} (hset : s.heap.get? a = some { cls := .type "set", data := .set es ep t }) (hf : t.fits es.size = true) (m1 : w.params.followText "set-order" = true)
    (h : Q (((pickOrder (w.params.setOrder a ep) es)[given]?).map fun e => (e.2, slot)) s) : wpAny (model prog w) A (setNext a slot given ep) Q E s := by
  unfold setNext
  refine wpAny_bind (wpAny_setState_of hset rfl hf ?_)
  dsimp only
  refine wpAny_bind (wpAny_setsByText ?_)
  rw [m1]
  simp only [bne_self_eq_false, Bool.false_eq_true, if_false, if_true]
  refine wpAny_bind ?_
  unfold setWalk
  refine wpAny_bind (wpAny_setState_of hset rfl hf ?_)
  dsimp only
  refine wpAny_bind (wpAny_setsByText ?_)
  rw [m1]
  simp only [if_true]
  refine wpAny_bind (wpAny_askSetting (wpAny_pure ?_))
  exact wpAny_pure h
theorem setNext_small {a : Addr} {es : Array (Int × Value)} {ep : Nat} {t : SetTable} {slot given : Nat} {Q : Option (Value × Nat) → Shared → Prop} (hset : s.heap.get? a = some { cls := .type "set", data := .set es ep t }) (hf : t.fits es.size = true) (m1 : w.params.followText "set-order" = false) (hsz : es.size ≤ 1) (hl : t.led = true)
    (h : Q (match es[SetTable.below t.place slot]?, t.place[SetTable.below t.place slot]? with | some (_, x), some j => some (x, j + 1) | _, _ => none) s) : wpAny (model prog w) A (setNext a slot given ep) Q E s := by
  unfold setNext
  refine wpAny_bind (wpAny_setState_of hset rfl hf ?_)
  dsimp only
  refine wpAny_bind (wpAny_setsByText ?_)
  rw [m1]
  simp only [Bool.false_eq_true, if_false]
  refine wpAny_ite_split (fun q => ?_) fun q => ?_
  · exfalso
    revert q
    show ¬ ((!t.plain && decide (es.size > 1)) = true)
    rw [decide_eq_false (by lia)]; simp
  refine wpAny_bind ?_
  show wpAny _ _ (if (!t.led && !es.isEmpty) = true then _ else _) _ _ _
  rw [hl]
  simp only [Bool.not_true, Bool.false_and, Bool.false_eq_true, if_false]
  exact wpAny_pure (wpAny_pure h)
theorem below_zero {t : SetTable} (h : t.place.size = 1) : SetTable.below t.place 0 = 0 := by
  unfold SetTable.below
  rw [h]
  simp [SetTable.below.go]
theorem below_one {t : SetTable} (h : t.place.size = 1) : SetTable.below t.place ((t.place[0]?).getD 0 + 1) = 1 := by
  unfold SetTable.below
  rw [h]
  have e : t.place[0]? = some t.place[0] := Array.getElem?_eq_getElem (by lia)
  simp [SetTable.below.go, h]
theorem set_next_item {a I P : Addr} {es : Array (Int × Value)} {ep : Nat} {t : SetTable} {vs : List Value} {k : Nat} {v : Value} {R : PySem.Fin → Shared → Prop} (x : SetIt w a I P es ep t vs k s.heap) (hf : t.fits es.size = true) (naI : a ≠ I) (nPI : P ≠ I) (hv : vs[k]? = some v)
    (h : ∀ h', SetIt w a I P es ep t vs (k + 1) h' → (∀ b o, b ≠ I → s.heap.get? b = some o → h'.get? b = some o) → R (.done (.ret v)) { s with heap := h' }) :
    wpAny (model prog w) A (Builtin.«set_iterator.__next__» ⟨[.ref I], []⟩) R E s := by
  obtain ⟨hset, hlen, o, first, ho, hc, hd, m⟩ := x
  unfold Builtin.«set_iterator.__next__»
  refine wpAny_bind (m := slotArgs "__next__" 0 ⟨[.ref I], []⟩) (wpAny_pure ?_)
  refine wpAny_bind (wpAny_fieldsOf ho hd ?_)
  dsimp only [rawInt]
  refine wpAny_bind ?_
  unfold setEntries
  refine wpAny_bind (wpAny_setState_of hset rfl hf (wpAny_pure ?_))
  simp only [bne_self_eq_false, Bool.false_eq_true, if_false]
  have keep1 : ∀ (h : Heap) (i : Nat) (y : Value) (b : Addr) (o : Obj), b ≠ I → h.get? b = some o → (h.update I (Obj.mapFields (·.setIfInBounds i y))).get? b = some o := fun h i y b o hb e => by
    rw [(Heap.SameBut.update _ I _).2 b hb]; exact e
  have two : ∀ (y : Value), SetMode w s.heap a P es ep t vs (k + 1) y → wpAny (model prog w) A (setField (.ref I) 0 y >>= fun _ => setField (.ref I) 1 (.int ((k : Int) + 1) 0) >>= fun _ => ret v) R E s := by
    intro y my
    refine wpAny_bind (wpAny_setField ho hd (by simp) ?_)
    obtain ⟨o1, g1, c1, d1⟩ := set_fields_upd ho hd 0 y
    refine wpAny_bind (wpAny_setField g1 d1 (by simp) ?_)
    obtain ⟨o2, g2, c2, d2⟩ := set_fields_upd g1 d1 1 (.int ((k : Int) + 1) 0)
    refine wpAny_pure (h _ ⟨keep1 _ _ _ _ _ naI (keep1 _ _ _ _ _ naI hset), hlen, o2, y, g2, c2.trans (c1.trans hc), ?_, my.frame fun o e => keep1 _ _ _ _ _ nPI (keep1 _ _ _ _ _ nPI e)⟩ fun b o hb e => keep1 _ _ _ _ _ hb (keep1 _ _ _ _ _ hb e))
    rw [d2]; simp [rawInt]
  rcases m with ⟨m1, rfl, rfl⟩ | ⟨m1, pl, rfl, ⟨oP, n, hP, hPd⟩, hpl, hpv⟩ | ⟨m1, hsz, hled, rfl, rfl⟩
  · dsimp only [rawInt]
    rw [Int.toNat_natCast, Int.toNat_natCast]
    refine wpAny_bind (setNext_text hset hf m1 ?_)
    rw [List.getElem?_map] at hv
    cases e : (pickOrder (w.params.setOrder a ep) es).toList[k]? with
    | none => rw [e] at hv; cases hv
    | some q =>
      rw [e] at hv
      have hv : q.2 = v := by simpa using hv
      rw [Array.getElem?_toList] at e
      rw [e]
      dsimp only [Option.map]
      rw [hv]
      exact two _ (.inl ⟨m1, rfl, rfl⟩)
  · dsimp only
    refine wpAny_bind (wpAny_seqItems hP hPd ?_)
    dsimp only
    have hk : k < pl.length := by rw [hpl, ← hlen]; exact (List.getElem?_eq_some_iff.mp hv).1
    have e : (List.map (fun (i : Nat) => rawInt i) pl).toArray[((k : Nat) : Int).toNat]? = some (.int (pl[k] : Int) 0) := by
      rw [Int.toNat_natCast]; simp [rawInt, hk]
    rw [e]
    dsimp only
    obtain ⟨hh, v', h1, h2⟩ := hpv k pl[k] (List.getElem?_eq_getElem hk)
    rw [hv] at h2; cases h2
    refine wpAny_bind ?_
    unfold setNextDrawn
    refine wpAny_bind (wpAny_setState_of hset rfl hf ?_)
    dsimp only
    rw [Int.toNat_natCast, Int.toNat_natCast]
    simp only [bne_self_eq_false, Bool.false_eq_true, if_false, h1]
    refine wpAny_pure ?_
    refine wpAny_bind (wpAny_setField ho hd (by simp) ?_)
    obtain ⟨o2, g2, c2, d2⟩ := set_fields_upd ho hd 1 (.int ((k : Int) + 1) 0)
    refine wpAny_pure (h _ ⟨keep1 _ _ _ _ _ naI hset, hlen, o2, .ref P, g2, c2.trans hc, ?_, .inr (.inl ⟨m1, pl, rfl, ⟨oP, n, keep1 _ _ _ _ _ nPI hP, hPd⟩, hpl, hpv⟩)⟩ fun b o hb e => keep1 _ _ _ _ _ hb e)
    rw [d2]; simp [rawInt]
  · dsimp only [rawInt]
    rw [Int.toNat_natCast, Int.toNat_natCast, Int.toNat_natCast]
    refine wpAny_bind (setNext_small hset hf m1 hsz hled ?_)
    have hk : k < es.size := by
      have := (List.getElem?_eq_some_iff.mp hv).1
      simpa using this
    have hk0 : k = 0 := by lia
    subst hk0
    have hp := (fits_iff hf).trans (show es.size = 1 by lia)
    simp only [if_true]
    rw [below_zero hp]
    have e1 : es[0]? = some es[0] := Array.getElem?_eq_getElem (by lia)
    have e2 : t.place[0]? = some t.place[0] := Array.getElem?_eq_getElem (by lia)
    rw [e1, e2]
    have hv' : es[0].2 = v := by
      rw [List.getElem?_map, Array.getElem?_toList, e1] at hv
      simpa using hv
    dsimp only
    rw [hv']
    refine two _ (.inr (.inr ⟨m1, hsz, hled, rfl, ?_⟩))
    rw [e2]; simp [rawInt]
theorem set_stop {I : Addr} {o : Obj} {fs : Array Value} {i : Nat} {y : Value} {R : Value → Shared → Prop} {P : PySem.Fin → Shared → Prop} (hh : A.handled = none) (ho : s.heap.get? I = some o) (hd : o.data = .fields fs) (hi : i < fs.size)
    (h : ∀ e h', (∀ b o, b ≠ I → s.heap.get? b = some o → h'.get? b = some o) → ({ s with heap := h' } : Shared).TypeIs (.ref e) "StopIteration" → R (.ref e) { s with heap := h' }) :
    wpAny (model prog w) A (setField (.ref I) i y >>= fun _ => newExc (.type "StopIteration") [] >>= fun e => raiseNew e) P R s := by
  refine wpAny_bind (wpAny_setField ho hd hi ?_)
  refine wpAny_bind ?_
  simp only [newExc, newTuple]
  refine wpAny_bind (wpAny_newObj_type ?_ (by size_fits))
  refine wpAny_bind (m := firstArgMember _ _) (wpAny_of_eq (a := Value.none) (by first | rfl | (simp only [firstArgMember]; rfl)) ?_)
  refine wpAny_newObj_type ?_ (by size_fits)
  simp only [raiseNew]
  refine wpAny_bind (wpAny_handled ?_)
  rw [hh]
  refine wpAny_bind (wpAny_pure (wpAny_throw ?_))
  refine h _ _ (fun b o hb e => Heap.get?_push_of_some _ (Heap.get?_push_of_some _ (by rw [(Heap.SameBut.update _ I _).2 b hb]; exact e))) ⟨_, Heap.get?_push_size _ rfl, rfl⟩
theorem set_next_done {a I P : Addr} {es : Array (Int × Value)} {ep : Nat} {t : SetTable} {vs : List Value} {R : Value → Shared → Prop} {F : PySem.Fin → Shared → Prop} (hh : A.handled = none) (x : SetIt w a I P es ep t vs es.size s.heap) (hf : t.fits es.size = true)
    (h : ∀ e h', (∀ b o, b ≠ I → s.heap.get? b = some o → h'.get? b = some o) → ({ s with heap := h' } : Shared).TypeIs (.ref e) "StopIteration" → R (.ref e) { s with heap := h' }) :
    wpAny (model prog w) A (Builtin.«set_iterator.__next__» ⟨[.ref I], []⟩) F R s := by
  obtain ⟨hset, hlen, o, first, ho, hc, hd, m⟩ := x
  unfold Builtin.«set_iterator.__next__»
  refine wpAny_bind (m := slotArgs "__next__" 0 ⟨[.ref I], []⟩) (wpAny_pure ?_)
  refine wpAny_bind (wpAny_fieldsOf ho hd ?_)
  dsimp only [rawInt]
  refine wpAny_bind ?_
  unfold setEntries
  refine wpAny_bind (wpAny_setState_of hset rfl hf (wpAny_pure ?_))
  simp only [bne_self_eq_false, Bool.false_eq_true, if_false]
  rcases m with ⟨m1, rfl, rfl⟩ | ⟨m1, pl, rfl, ⟨oP, n, hP, hPd⟩, hpl, hpv⟩ | ⟨m1, hsz, hled, rfl, rfl⟩
  · dsimp only [rawInt]
    rw [Int.toNat_natCast, Int.toNat_natCast]
    refine wpAny_bind (setNext_text hset hf m1 ?_)
    have e : (pickOrder (w.params.setOrder a ep) es)[es.size]? = none := by
      refine Array.getElem?_eq_none ?_
      have := (pick_perm (w.params.setOrder a ep) es).length_eq
      simp at this; lia
    rw [e]
    exact set_stop hh ho hd (by simp) h
  · dsimp only
    refine wpAny_bind (wpAny_seqItems hP hPd ?_)
    dsimp only
    have e : (List.map (fun (i : Nat) => rawInt i) pl).toArray[((es.size : Nat) : Int).toNat]? = none := by
      rw [Int.toNat_natCast]; exact Array.getElem?_eq_none (by simp [hpl])
    rw [e]
    dsimp only
    refine wpAny_bind (wpAny_setField ho hd (by simp) ?_)
    obtain ⟨o1, g1, c1, d1⟩ := set_fields_upd ho hd 0 (.int 0 0)
    refine set_stop hh g1 d1 (by simp) fun e h' k T => h e h' (fun b o hb q => k b o hb ?_) T
    show (Heap.update _ _ _).get? b = some o
    rw [(Heap.SameBut.update _ I _).2 b hb]; exact q
  · dsimp only [rawInt]
    rw [Int.toNat_natCast, Int.toNat_natCast, Int.toNat_natCast]
    refine wpAny_bind (setNext_small hset hf m1 hsz hled ?_)
    have hp := fits_iff hf
    have e : es[SetTable.below t.place (if es.size = 0 then 0 else (t.place[0]?).getD 0 + 1)]? = none := by
      by_cases q : es.size = 0
      · exact Array.getElem?_eq_none (by lia)
      · rw [if_neg q, below_one (hp.trans (by lia))]
        exact Array.getElem?_eq_none (by lia)
    rw [e]
    exact set_stop hh ho hd (by simp) h
theorem pyNext_set_item {a I P : Addr} {es : Array (Int × Value)} {ep : Nat} {t : SetTable} {vs : List Value} {k : Nat} {v : Value} {Q : Option Value → Shared → Prop} (x : SetIt w a I P es ep t vs k s.heap) (hf : t.fits es.size = true) (naI : a ≠ I) (nPI : P ≠ I) (hv : vs[k]? = some v)
    (h : ∀ h', SetIt w a I P es ep t vs (k + 1) h' → (∀ b o, b ≠ I → s.heap.get? b = some o → h'.get? b = some o) → Q (some v) { s with heap := h' }) : wpAny (model prog w) A (pyNext (.ref I)) Q E s := by
  unfold pyNext
  refine wpAny_bind (wpAny_attempt (wpAny_callSpecial?_slot (name := Str.ofString "__next__") x.typeIs slot_set_iterator_next
    (wpAny_call_entry slot_set_iterator_next x.typeIs entry_set_iterator_next (set_next_item x hf naI nPI hv fun h' x' k' => ?_) (args_set_iterator_next _))))
  exact ⟨_, rfl, wpAny_pure (h h' x' k')⟩
theorem pyNext_set_done {a I P : Addr} {es : Array (Int × Value)} {ep : Nat} {t : SetTable} {vs : List Value} {Q : Option Value → Shared → Prop} (hh : A.handled = none) (x : SetIt w a I P es ep t vs es.size s.heap) (hf : t.fits es.size = true)
    (h : ∀ h', (∀ b o, b ≠ I → s.heap.get? b = some o → h'.get? b = some o) → Q none { s with heap := h' }) : wpAny (model prog w) A (pyNext (.ref I)) Q E s := by
  unfold pyNext
  refine wpAny_bind (wpAny_attempt (wpAny_callSpecial?_slot (name := Str.ofString "__next__") x.typeIs slot_set_iterator_next
    (wpAny_call_entry slot_set_iterator_next x.typeIs entry_set_iterator_next (set_next_done (by simpa using hh) x hf fun e h' k T => ?_) (args_set_iterator_next _))))
  refine wpAny_bind (wpAny_isInstance (T := "StopIteration") (b := true) T isSubtype_stop ?_)
  exact wpAny_pure (h h' k)
end
end Mine
end
-- text U2
section
set_option autoImplicit false
set_option linter.unusedVariables false
namespace Mine
open PySem PyProof.Rows
set_option maxRecDepth 100000
theorem entry_set_iter : entryFor table "set.__iter__" = some Builtin.«frozenset.__iter__» := entryFor_alias (id' := "frozenset.__iter__") (by kernel_rfl) rfl (by decide +kernel) (by kernel_rfl)
theorem entry_set_iterator_iter : entryFor table "set_iterator.__iter__" = some Builtin.«dict_keyiterator.__iter__» := entryFor_alias (id' := "dict_keyiterator.__iter__") (by kernel_rfl) rfl (by decide +kernel) (by kernel_rfl)
theorem slot_set_iterator_iter : Slot "set_iterator" "__iter__" "set_iterator.__iter__" :=
  .of (owner := "set_iterator") (n := "__iter__") (by rw [typeLookup_type, builtinLookup_eq_fast]; kernel_rfl) (by decide +kernel) (by decide +kernel) (by decide +kernel)
    (by first | exact .inl (by decide +kernel) | exact .inr (by decide +kernel)) (by rw [isSubtype_type]; kernel_rfl)
theorem args_set_iterator_iter (a : Value) : argsOk "set_iterator.__iter__" ⟨[a], []⟩ := by unfold argsOk; kernel_rfl
section
variable {prog : Program} {w : World} {A : Around} {E : Value → Shared → Prop} {s : Shared}
theorem hint_set {r : Addr} {Q : Bool → Shared → Prop} (hT : s.TypeIs (.ref r) "set") (h : Q false s) : wpAny (model prog w) A (Builtin.List.listLengthHint (.ref r)) Q E s := by
  unfold Builtin.List.listLengthHint
  refine wpAny_bind (wpAny_specialOf hT PySem.F.slot_set_len.lookup ?_)
  generalize hid : ("set.__len__" : String) = id0
  wp_delta
  rw [show splitId id0 = some ("set", "__len__") from by subst hid; decide +kernel]
  subst hid
  refine wpAny_bind (wpAny_isInstance (T := "set") (b := true) hT (by rw [isSubtype_type]; kernel_rfl) ?_)
  refine wpAny_ite_split (fun hab => absurd hab (by decide)) (fun _ => ?_)
  refine wpAny_ite_split (fun _ => ?_) (fun hab => absurd (by decide +kernel) hab)
  refine wpAny_bind (wpAny_typeOf hT ?_)
  exact wpAny_pure h
theorem SetIt.frame {a I P : Addr} {es : Array (Int × Value)} {ep : Nat} {t : SetTable} {vs : List Value} {k : Nat} {h h' : Heap} (x : SetIt w a I P es ep t vs k h) (e : ∀ b ∈ [I, a, P], ∀ o, h.get? b = some o → h'.get? b = some o) : SetIt w a I P es ep t vs k h' := by
  obtain ⟨h1, h2, o, f, h3, h4, h5, h6⟩ := x
  exact ⟨e a (by simp) _ h1, h2, o, f, e I (by simp) _ h3, h4, h5, h6.frame fun o q => e P (by simp) o q⟩
theorem walks_set (hh : A.handled = none) {a I P : Addr} {es : Array (Int × Value)} {ep : Nat} {t : SetTable} {vs : List Value} (hf : t.fits es.size = true) (naI : a ≠ I) (nPI : P ≠ I) :
    Walks prog w A I [I, a, P] [I] es.size (fun i v => vs[i]? = some v) (fun k h => SetIt w a I P es ep t vs k h) where
  sub := fun b hb => by simp at hb; simp [hb]
  frame := fun _ _ _ st hk => st.frame hk
  item := fun i s Q E hi st hQ => by
    have hi' : i < vs.length := by rw [st.len]; exact hi
    refine pyNext_set_item st hf naI nPI (List.getElem?_eq_getElem hi') fun h' st' k => ?_
    exact hQ _ h' s.toks (List.getElem?_eq_getElem hi') st' fun b o hb e => k b o (fun h => hb (by simp [h])) e
  done := fun s Q E st hQ => pyNext_set_done hh st hf fun h' k => hQ h' s.toks fun b o hb e => k b o (fun h => hb (by simp [h])) e
  self := fun i s Q E st hQ => by
    refine wpAny_pyIter_slot st.typeIs slot_set_iterator_iter (wpAny_call_entry slot_set_iterator_iter st.typeIs entry_set_iterator_iter ?_ (args_set_iterator_iter _))
    show wpAny _ _ (ret (.ref I)) _ _ s
    exact wpAny_pure ⟨_, rfl, "set_iterator", _, st.typeIs, slot_set_iterator_next.lookup, hQ⟩
theorem pyIter_set {a : Addr} {es : Array (Int × Value)} {ep : Nat} {t : SetTable} {Q : Value → Shared → Prop} (hset : s.heap.get? a = some { cls := .type "set", data := .set es ep t }) (hf : t.fits es.size = true) (hled : w.params.followText "set-order" = true ∨ t.led = true) (hpl : es.size ≠ 0 → t.plain = false) (hn : es.size ≤ sizeLine)
    (h : ∀ I P vs h' dr, vs.Perm (es.toList.map (·.2)) → SetIt w a I P es ep t vs 0 h' → s.heap.get? I = none → P ≠ I → (P = a ∨ s.heap.get? P = none) → (∀ b o, s.heap.get? b = some o → h'.get? b = some o) → Q (.ref I) { s with heap := h', drawn := dr }) : wpAny (model prog w) A (pyIter (.ref a)) Q E s := by
  have hT : s.TypeIs (.ref a) "set" := ⟨_, hset, rfl⟩
  refine wpAny_pyIter_slot hT PySem.F.slot_set_iter (wpAny_call_entry PySem.F.slot_set_iter hT entry_set_iter ?_ (PySem.F.args_set_iter_1 _))
  unfold Builtin.«frozenset.__iter__»
  refine wpAny_bind (m := Builtin.Frozenset.slot0 "__iter__" ⟨[.ref a], []⟩) (wpAny_pure ?_)
  refine wpAny_bind ?_
  unfold Builtin.Frozenset.sizeOf setEntries
  refine wpAny_bind (wpAny_bind (wpAny_setState_of hset rfl hf (wpAny_pure (wpAny_pure ?_))))
  refine wpAny_bind ?_
  unfold setDrawn
  refine wpAny_bind (wpAny_setState_of hset rfl hf ?_)
  dsimp only
  refine wpAny_bind (wpAny_setsByText (wpAny_pure ?_))
  have make : ∀ (s1 : Shared) (first : Value) (P : Addr) (vs : List Value), s1.gens = s.gens → s1.toks = s.toks → s1.os = s.os → (∀ b o, s.heap.get? b = some o → s1.heap.get? b = some o) → vs.Perm (es.toList.map (·.2)) → (∃ o, s1.heap.get? P = some o) → (P = a ∨ s.heap.get? P = none) → SetMode w s1.heap a P es ep t vs 0 first →
      wpAny (model prog w) A.in1 (setEpoch a >>= fun (x : Nat) => newFields "set_iterator" [first, rawInt 0, .ref a, rawInt (es.size : Int), rawInt (x : Int)] >>= fun y => ret y)
        (fun fin s' => ∃ v, fin = .done (.ret v) ∧ ∃ T' r, s'.TypeIs v T' ∧ typeLookup (.type T') (Str.ofString "__next__") = pure (some r) ∧ Q v s') E s1 := by
    intro s1 first P vs g1 g2 g3 k1 pm hP hPa m
    refine wpAny_bind (wpAny_setEpoch_of (k1 _ _ hset) rfl hf ?_)
    refine wpAny_bind (wpAny_newObj_type (wpAny_pure ⟨_, rfl, "set_iterator", _, ⟨_, Heap.get?_push_size _ rfl, rfl⟩, slot_set_iterator_next.lookup, ?_⟩))
    obtain ⟨oP, hP⟩ := hP
    have := h s1.heap.objs.size P vs (s1.heap.push { cls := .type "set_iterator", data := .fields #[first, rawInt 0, .ref a, rawInt (es.size : Int), rawInt (ep : Int)] }) s1.drawn pm ⟨Heap.get?_push_of_some _ (k1 _ _ hset), ?_, _, first, Heap.get?_push_size _ rfl, rfl, rfl, m.frame fun o e => Heap.get?_push_of_some _ e⟩ ?_ (Nat.ne_of_lt (Heap.lt_size hP)) hPa fun b o e => Heap.get?_push_of_some _ (k1 _ _ e)
    · rw [← g1, ← g2, ← g3] at this; exact this
    · have := pm.length_eq
      simpa using this
    · cases q : s.heap.get? s1.heap.objs.size with
      | none => rfl
      | some o => exact absurd (Heap.lt_size (k1 _ _ q)) (Nat.lt_irrefl _)
  refine wpAny_ite_split (fun q => ?_) fun q => ?_
  · have q' : (!w.params.followText "set-order" && (!t.plain && decide (es.size > 1))) = true := q
    simp only [Bool.and_eq_true, Bool.not_eq_true', decide_eq_true_eq] at q'
    refine wpAny_bind (wpAny_drawOrder _ _ _ (by simp) fun pl dr hp => ?_)
    refine wpAny_bind (wpAny_newTuple (hsz := by rw [List.length_map, hp.length_eq, List.length_range]; exact hn) ?_)
    have hval : (List.range es.size).map (fun p => ((es[p]?).map (·.2)).getD Value.none) = es.toList.map (·.2) := by
      apply List.ext_getElem?
      intro k
      by_cases hk : k < es.size
      · simp [hk]
      · rw [List.getElem?_eq_none (by simp; lia), List.getElem?_eq_none (by simp; lia)]
    refine make _ (.ref s.heap.objs.size) s.heap.objs.size (pl.map fun p => ((es[p]?).map (·.2)).getD Value.none) rfl rfl rfl (fun b o e => Heap.get?_push_of_some _ e) ?_ ⟨_, Heap.get?_push_size _ rfl⟩ (.inr (Heap.get?_none_of_le (Nat.le_refl _))) (.inr (.inl ⟨q'.1, pl, rfl, ⟨_, 0, Heap.get?_push_size _ rfl, rfl⟩, ?_, fun k p hk => ?_⟩))
    · rw [← hval]; exact hp.map _
    · have := hp.length_eq
      simpa using this
    · have hpn : p < es.size := by
        have := hp.mem_iff.mp (List.mem_of_getElem? hk)
        simpa using this
      refine ⟨es[p].1, es[p].2, Array.getElem?_eq_getElem hpn, ?_⟩
      rw [List.getElem?_map, hk]; simp [hpn]
  · have q' : ¬ (!w.params.followText "set-order" && (!t.plain && decide (es.size > 1))) = true := q
    refine wpAny_bind (wpAny_pure ?_)
    cases m1 : w.params.followText "set-order" with
    | true =>
      exact make s (rawInt 0) a _ rfl rfl rfl (fun b o e => e) ((pick_perm (w.params.setOrder a ep) es).map _) ⟨_, hset⟩ (.inl rfl) (.inl ⟨m1, rfl, rfl⟩)
    | false =>
      have hsz : es.size ≤ 1 := by
        rcases Nat.lt_or_ge 1 es.size with h1 | h1
        · exfalso
          refine q' ?_
          rw [m1, hpl (by lia), decide_eq_true h1]; rfl
        · exact h1
      have hl : t.led = true := hled.resolve_left (by rw [m1]; decide)
      exact make s (rawInt 0) a _ rfl rfl rfl (fun b o e => e) (List.Perm.refl _) ⟨_, hset⟩ (.inl rfl) (.inr (.inr ⟨m1, hsz, hl, rfl, rfl⟩))
theorem collect_set {a : Addr} {es : Array (Int × Value)} {ep : Nat} {t : SetTable} {R : List Value → Shared → Prop} (hh : A.handled = none) (hset : s.heap.get? a = some { cls := .type "set", data := .set es ep t }) (hf : t.fits es.size = true) (hled : w.params.followText "set-order" = true ∨ t.led = true) (hpl : es.size ≠ 0 → t.plain = false) (hn : es.size ≤ sizeLine)
    (h : ∀ (s' : Shared) (vs : List Value), vs.Perm (es.toList.map (·.2)) → (∀ b o, s.heap.get? b = some o → s'.heap.get? b = some o) → s'.gens = s.gens → s'.os = s.os → R vs s') :
    wpAny (model prog w) A (collect (.ref a)) R E s := by
  unfold collect
  refine wpAny_bind (wpAny_runValue (codeAny_builtin entry_proto_collect' ?_))
  rw [Around.under_plainId PySem.F.plain_proto_collect _]
  show wpAny _ A.in1 (newList [] >>= fun l => again (.builtin "list.__iadd__" ⟨[l, .ref a], []⟩)) _ _ s
  refine wpAny_bind (wpAny_newObj_type ?_)
  refine wpAny_pure ⟨plainId_quiet PySem.F.plain_list_iadd _, codeAny_builtin entry_list_iadd' ?_⟩
  rw [Around.under_plainId PySem.F.plain_list_iadd _]
  have hS₁ : (s.heap.push { cls := .type "list", data := .seq ([] : List Value).toArray }).get? s.heap.objs.size = some { cls := .type "list", data := .seq #[] } := Heap.get?_push_size _ rfl
  show wpAny _ A.in1 (Builtin.List.listExtendWith (.ref s.heap.objs.size) (.ref a) (.ref s.heap.objs.size)) _ _ _
  have nSa : s.heap.objs.size ≠ a := Nat.ne_of_gt (Heap.lt_size hset)
  have hset1 := Heap.get?_push_of_some { cls := .type "list", data := .seq ([] : List Value).toArray } hset
  unfold Builtin.List.listExtendWith
  refine wpAny_bind (wpAny_typeOf (T := "set") ⟨_, hset1, rfl⟩ ?_)
  have h1 : Builtin.List.listSameRef (.ref s.heap.objs.size) (.ref a) = false := by simp [Builtin.List.listSameRef, nSa]
  simp only [h1, show (Value.type "set" == Value.type "list") = false by decide, show (Value.type "set" == Value.type "tuple") = false by decide, Bool.or_false, Bool.false_eq_true, if_false]
  refine wpAny_bind (pyIter_set hset1 hf hled hpl hn fun I P vs h' dr pm st nI nPI hPa k1 => ?_)
  have naI : a ≠ I := fun e => by rw [e, nI] at hset1; cases hset1
  have nSI : s.heap.objs.size ≠ I := fun e => by rw [e, nI] at hS₁; cases hS₁
  have nSP : s.heap.objs.size ≠ P := fun e => by
    rcases hPa with q | q
    · exact nSa (e.trans q)
    · rw [← e, hS₁] at q; cases q
  have hSf : s.heap.objs.size ∉ [I, a, P] := by simp only [List.mem_cons, List.not_mem_nil, or_false, not_or]; exact ⟨nSI, nSa, nSP⟩
  have hS2 := k1 _ _ hS₁
  have key : ∀ (h2 : Heap) (c₁ : Nat), SetIt w a I P es ep t vs 0 h2 → (∀ b o, b ≠ s.heap.objs.size → h'.get? b = some o → h2.get? b = some o) → h2.get? s.heap.objs.size = some { cls := .type "list", data := .seq #[] c₁ } →
      codeAny (model prog w) A (.builtin "list.extend.loop" ⟨[.ref s.heap.objs.size, .ref I, .ref s.heap.objs.size], []⟩) (fun q s' => ∃ (acc : Array Value) (c' : Nat), q = .ok (.ret (.ref s.heap.objs.size)) ∧ acc.toList.Perm (es.toList.map (·.2)) ∧
        (∀ b o, s.heap.get? b = some o → s'.heap.get? b = some o) ∧ s'.gens = s.gens ∧ s'.os = s.os ∧ s'.heap.get? s.heap.objs.size = some { cls := .type "list", dict := none, data := .seq acc c', slots := #[] }) { s with heap := h2, drawn := dr } := by
    intro h2 c₁ st2 k2 hS3
    refine codeAny_extend_loopS (walks_set (A := A.in1) (by simpa using hh) hf naI nPI (vs := vs)).toS hn s.heap.objs.size hSf (.ref s.heap.objs.size) es.size 0 _ #[] c₁ rfl (Nat.zero_le _) st2 hS3 (ItemsOf.nil _) fun s' acc' c' hm hS' hacc => ?_
    refine ⟨acc', c', rfl, ?_, fun b o e => ?_, ?_, ?_, hS'⟩
    · have e : acc'.toList = vs := by
        apply List.ext_getElem?
        intro j
        by_cases hj : j < es.size
        · have hj' : j < acc'.size := by rw [hacc.1]; exact hj
          rw [Array.getElem?_toList, Array.getElem?_eq_getElem hj', hacc.2 j acc'[j] (Array.getElem?_eq_getElem hj')]
        · have hvl : vs.length = es.size := st.len
          have hj : es.size ≤ j := Nat.not_lt.mp hj
          rw [List.getElem?_eq_none (by rw [Array.length_toList, hacc.1]; exact hj), List.getElem?_eq_none (by rw [hvl]; exact hj)]
      rw [e]; exact pm
    · have hb : b ≠ s.heap.objs.size := Nat.ne_of_lt (Heap.lt_size e)
      refine hm.heap b o (fun hmem => ?_) (k2 b o hb (k1 _ _ (Heap.get?_push_of_some _ e)))
      rcases List.mem_cons.mp hmem with e' | hmem
      · exact hb e'
      · have : b = I := List.mem_singleton.mp hmem
        have e2 := Heap.get?_push_of_some { cls := .type "list", data := .seq ([] : List Value).toArray } e
        rw [this] at e2
        rw [nI] at e2; cases e2
    · exact hm.gens
    · exact hm.os
  have close : ∀ {c : Code} {s2 : Shared}, c.quiet = true → codeAny (model prog w) A c (fun q s' => ∃ (acc : Array Value) (c' : Nat), q = .ok (.ret (.ref s.heap.objs.size)) ∧ acc.toList.Perm (es.toList.map (·.2)) ∧
        (∀ b o, s.heap.get? b = some o → s'.heap.get? b = some o) ∧ s'.gens = s.gens ∧ s'.os = s.os ∧ s'.heap.get? s.heap.objs.size = some { cls := .type "list", dict := none, data := .seq acc c', slots := #[] }) s2 → True := fun _ _ => trivial
  refine wpAny_bind (wpAny_holding (hint_set ⟨_, k1 _ _ hset1, rfl⟩ ?_))
  refine wpAny_ite_split (fun _ => ?_) (fun _ => wpAny_pure ⟨plainId_quiet PySem.F.plain_extend_loop _, codeAny_mono (key _ 0 st (fun b o _ e => e) hS2) ?_⟩)
  · refine wpAny_bind (wpAny_rule ?_)
    refine wpAny_bind ?_
    show wpAny _ _ (updateSeq s.heap.objs.size (·.push .none) >>= fun _ => updateSeq s.heap.objs.size (·.pop)) _ _ _
    refine wpAny_bind (wpAny_updateSeq hS2 rfl ?_)
    have hS₂ := Heap.get?_update_self (Obj.mapSeq (·.push Value.none)) hS2 rfl
    refine wpAny_updateSeq (hz := by seq_fits) hS₂ rfl ?_
    have hS₃ := Heap.get?_update_self (Obj.mapSeq (·.pop)) hS₂ rfl
    have kk : ∀ b o, b ≠ s.heap.objs.size → h'.get? b = some o → ((h'.update s.heap.objs.size (Obj.mapSeq (·.push Value.none))).update s.heap.objs.size (Obj.mapSeq (·.pop))).get? b = some o := fun b o hb e =>
      (Heap.get?_update_other _ _ (Ne.symm hb)).trans ((Heap.get?_update_other _ _ (Ne.symm hb)).trans e)
    refine wpAny_pure ⟨plainId_quiet PySem.F.plain_extend_loop _, codeAny_mono (key _ _ (st.frame fun b hb o e => kk b o (fun q => hSf (q ▸ hb)) e) kk hS₃) ?_⟩
    rintro q s2 ⟨acc, c', rfl, pm', k', g', o', hS'⟩
    show wpAny _ A (load s.heap.objs.size >>= _) _ _ _
    refine wpAny_bind (wpAny_load hS' ?_)
    exact wpAny_pure (h s2 acc.toList pm' k' g' o')
  · rintro q s2 ⟨acc, c', rfl, pm', k', g', o', hS'⟩
    show wpAny _ A (load s.heap.objs.size >>= _) _ _ _
    refine wpAny_bind (wpAny_load hS' ?_)
    exact wpAny_pure (h s2 acc.toList pm' k' g' o')
end
end Mine
end
-- text M1
section
set_option autoImplicit false
set_option linter.unusedVariables false
namespace Mine
open PySem
section
variable {α : Type} {L : α → α → Bool}
theorem insB_perm (x : α) : ∀ ys : List α, (insB L x ys).Perm (x :: ys)
  | [] => List.Perm.refl _
  | y :: r => by
    unfold insB
    split
    · exact List.Perm.refl _
    · exact ((insB_perm x r).cons y).trans (List.Perm.swap x y r)
theorem isort_perm : ∀ xs : List α, (isort L xs).Perm xs
  | [] => List.Perm.refl _
  | x :: r => (insB_perm x _).trans ((isort_perm r).cons x)
theorem insB_sorted (O : Ord L) (x : α) : ∀ ys : List α, ys.Pairwise (fun a b => L b a = false) → (insB L x ys).Pairwise (fun a b => L b a = false)
  | [], _ => List.pairwise_singleton _ _
  | y :: r, h => by
    unfold insB
    have h' := List.pairwise_cons.mp h
    split
    · rename_i q
      refine List.pairwise_cons.mpr ⟨fun z hz => ?_, h⟩
      rcases List.mem_cons.mp hz with rfl | hz
      · exact O.asym _ _ q
      · exact O.trans _ _ _ (O.asym _ _ q) (h'.1 z hz)
    · rename_i q
      refine List.pairwise_cons.mpr ⟨fun z hz => ?_, insB_sorted O x r h'.2⟩
      rcases List.mem_cons.mp ((insB_perm x r).mem_iff.mp hz) with rfl | hz
      · simpa using q
      · exact h'.1 z hz
theorem isort_sorted (O : Ord L) : ∀ xs : List α, (isort L xs).Pairwise (fun a b => L b a = false)
  | [] => .nil
  | x :: r => insB_sorted O x _ (isort_sorted O r)
theorem sorted_uniq (tri : ∀ x y, L x y = false → L y x = false → x = y) {xs ys : List α} (p : xs.Perm ys) (h1 : xs.Pairwise (fun a b => L b a = false)) (h2 : ys.Pairwise (fun a b => L b a = false)) : xs = ys :=
  List.Perm.eq_of_pairwise (fun a b _ _ q1 q2 => tri a b q2 q1) h1 h2 p
end
theorem ltK_tri (x y : Int × List Str) (h1 : ltK x y = false) (h2 : ltK y x = false) : x = y := by
  unfold ltK at *
  by_cases e : x.1 = y.1
  · rw [if_pos e] at h1; rw [if_pos e.symm] at h2
    exact Prod.ext e (ltL_tri h1 h2)
  · rw [if_neg e] at h1; rw [if_neg fun q => e q.symm] at h2
    have := of_decide_eq_false h1; have := of_decide_eq_false h2
    lia
theorem nodup_len : ∀ {y x : List Str}, y.Nodup → (∀ a ∈ y, a ∈ x) → y.length ≤ x.length
  | [], x, _, _ => Nat.zero_le _
  | a :: r, x, hn, hs => by
    have hn' := List.nodup_cons.mp hn
    have ha := hs a (.head _)
    have := nodup_len (y := r) (x := x.erase a) hn'.2 fun b hb => (List.mem_erase_of_ne (fun (e : b = a) => hn'.1 (by rw [← e]; exact hb))).mpr (hs b (.tail _ hb))
    rw [List.length_erase_of_mem ha] at this
    have hp : 0 < x.length := List.length_pos_of_mem ha
    simp; lia
theorem nodup_full {y x : List Str} (hy : y.Nodup) (hx : x.Nodup) (hs : ∀ a ∈ y, a ∈ x) (hl : x.length ≤ y.length) : ∀ a ∈ x, a ∈ y := by
  intro a ha
  by_cases q : a ∈ y
  · exact q
  · have := nodup_len (y := a :: y) (x := x) (List.nodup_cons.mpr ⟨q, hy⟩) fun b hb => by
      rcases List.mem_cons.mp hb with rfl | hb
      · exact ha
      · exact hs b hb
    simp at this; lia
noncomputable def Ris (x : List Str) : Prop := x.Pairwise (fun a b => ltS a b = true)
theorem Ris.nodup {x : List Str} (h : Ris x) : x.Nodup := h.imp fun {a b} q e => by subst e; rw [ltS_ord.refl] at q; cases q
theorem Ris.srt {x : List Str} (h : Ris x) : x.Pairwise (fun a b => ltS b a = false) := h.imp fun {a b} q => ltS_ord.asym _ _ q
theorem Ris.of {x : List Str} (h : x.Pairwise (fun a b => ltS b a = false)) (hn : x.Nodup) : Ris x := (h.and hn).imp fun {a b} q => by
  cases e : ltS a b with
  | true => rfl
  | false => exact absurd (ltS_tri e q.1) q.2
theorem Ris.ext {x y : List Str} (hx : Ris x) (hy : Ris y) (h : ∀ a, a ∈ x ↔ a ∈ y) : x = y :=
  sorted_uniq (fun a b => ltS_tri) ((List.perm_ext_iff_of_nodup hx.nodup hy.nodup).mpr h) hx.srt hy.srt
theorem Ris.full {x y : List Str} (hx : Ris x) (hy : Ris y) (hs : ∀ a ∈ y, a ∈ x) (hl : x.length ≤ y.length) : x = y :=
  hx.ext hy fun a => ⟨nodup_full hy.nodup hx.nodup hs hl a, hs a⟩
theorem sortS_perm (xs : List Str) : (sortS xs).Perm xs := isort_perm xs
theorem mem_sortS {xs : List Str} {a : Str} : a ∈ sortS xs ↔ a ∈ xs := (sortS_perm xs).mem_iff
theorem sortS_len (xs : List Str) : (sortS xs).length = xs.length := (sortS_perm xs).length_eq
theorem sortS_ris {xs : List Str} (h : xs.Nodup) : Ris (sortS xs) := Ris.of (isort_sorted ltS_ord xs) ((sortS_perm xs).nodup_iff.mpr h)
theorem Ris.sort {x : List Str} (h : Ris x) : sortS x = x := sorted_uniq (fun a b => ltS_tri) (sortS_perm x) (isort_sorted ltS_ord x) h.srt
theorem foldl_stepAdd : ∀ (xs acc : List Str), (acc ++ xs).Nodup → xs.foldl stepAdd acc = acc ++ xs
  | [], acc, _ => by simp
  | x :: r, acc, h => by
    have hx : x ∉ acc := fun q => by
      have := (List.nodup_append.mp h).2.2 x q x (.head _)
      exact this rfl
    rw [List.foldl_cons, stepAdd, if_neg hx, foldl_stepAdd r (acc ++ [x]) (by simpa using h)]
    simp
theorem dedup_nodup {xs : List Str} (h : xs.Nodup) : dedup xs = xs := by
  have := foldl_stepAdd xs [] (by simpa using h)
  simpa [dedup] using this
theorem mem_foldl_stepAdd {a : Str} : ∀ (xs acc : List Str), a ∈ xs.foldl stepAdd acc ↔ a ∈ acc ∨ a ∈ xs
  | [], acc => by simp
  | x :: r, acc => by
    rw [List.foldl_cons, mem_foldl_stepAdd r]
    unfold stepAdd
    split
    · rename_i q
      constructor
      · rintro (h | h)
        · exact .inl h
        · exact .inr (.tail _ h)
      · rintro (h | h)
        · exact .inl h
        · rcases List.mem_cons.mp h with rfl | h
          · exact .inl q
          · exact .inr h
    · simp [or_assoc]
theorem mem_dedup {a : Str} {xs : List Str} : a ∈ dedup xs ↔ a ∈ xs := by
  unfold dedup; rw [mem_foldl_stepAdd]; simp
theorem nodup_foldl_stepAdd : ∀ (xs acc : List Str), acc.Nodup → (xs.foldl stepAdd acc).Nodup
  | [], acc, h => h
  | x :: r, acc, h => by
    rw [List.foldl_cons]
    refine nodup_foldl_stepAdd r _ ?_
    unfold stepAdd
    split
    · exact h
    · rename_i q
      exact List.nodup_append.mpr ⟨h, by simp, fun a ha b hb e => by simp at hb; subst hb; subst e; exact q ha⟩
theorem dedup_is_nodup (xs : List Str) : (dedup xs).Nodup := nodup_foldl_stepAdd xs [] .nil
theorem dedup_len_foldl : ∀ (xs acc : List Str), (xs.foldl stepAdd acc).length ≤ acc.length + xs.length
  | [], acc => by simp
  | x :: r, acc => by
    rw [List.foldl_cons]
    have := dedup_len_foldl r (stepAdd acc x)
    have : (stepAdd acc x).length ≤ acc.length + 1 := by unfold stepAdd; split <;> simp
    simp; lia
theorem dedup_len (xs : List Str) : (dedup xs).length ≤ xs.length := by have := dedup_len_foldl xs []; simpa [dedup] using this
noncomputable def lk (x : List Str) : Int × List Str := ((x.length : Int), x)
noncomputable def ltR2 (x y : List Str) : Bool := ltK (lk x) (lk y)
theorem ltR2_ord : Ord ltR2 := ltK_ord.on lk
theorem ltR2_tri (x y : List Str) (h1 : ltR2 x y = false) (h2 : ltR2 y x = false) : x = y := congrArg Prod.snd (ltK_tri _ _ h1 h2)
theorem ltR2_len {x y : List Str} (h : ltR2 x y = false) : y.length ≤ x.length := by
  unfold ltR2 ltK lk at h
  dsimp only at h
  by_cases e : (x.length : Int) = y.length
  · lia
  · rw [if_neg e] at h
    have := of_decide_eq_false h
    lia
noncomputable def rank (F : List (List Str)) : List (List Str) := isort ltR2 F
theorem rank_perm (F : List (List Str)) : (rank F).Perm F := isort_perm F
theorem mem_rank {F : List (List Str)} {x : List Str} : x ∈ rank F ↔ x ∈ F := (rank_perm F).mem_iff
theorem rank_sorted (F : List (List Str)) : (rank F).Pairwise (fun a b => ltR2 b a = false) := isort_sorted ltR2_ord F
theorem rank_uniq {F G : List (List Str)} (p : G.Perm F) (h : G.Pairwise (fun a b => ltR2 b a = false)) : G = rank F := sorted_uniq ltR2_tri (p.trans (rank_perm F).symm) h (rank_sorted F)
noncomputable def wi (x y : List Str) : Bool := x.all fun n => decide (n ∈ y)
noncomputable def me (x y : List Str) : Bool := x.any fun n => decide (n ∈ y)
theorem wi_iff {x y : List Str} : wi x y = true ↔ ∀ n ∈ x, n ∈ y := by simp [wi]
theorem me_iff {x y : List Str} : me x y = true ↔ ∃ n ∈ x, n ∈ y := by simp [me]
noncomputable def gstep (found : List (List Str)) (one : List Str) : List (List Str) := if (found.any fun o => wi o one) = true then found else found ++ [one]
noncomputable def greedy (F : List (List Str)) : List (List Str) := F.foldl gstep []
structure Good (P : List Str → Prop) (T : List (List Str)) : Prop where
  ok : ∀ t ∈ T, P t
  cov : ∀ z, P z → ∃ t ∈ T, ∀ n ∈ t, n ∈ z
  anti : ∀ t ∈ T, ∀ u ∈ T, (∀ n ∈ t, n ∈ u) → t = u
  ord : T.Pairwise (fun a b => ltR2 a b = true)
theorem ltR2_irr {x : List Str} : ltR2 x x = false := ltR2_ord.refl x
theorem ord_nodup {T : List (List Str)} (h : T.Pairwise (fun a b => ltR2 a b = true)) : T.Nodup := h.imp fun {a b} q e => by subst e; rw [ltR2_irr] at q; cases q
theorem Good.uniq {P : List Str → Prop} {T U : List (List Str)} (hP : ∀ z, P z → Ris z) (h : Good P T) (k : Good P U) : T = U := by
  have half : ∀ {T U : List (List Str)}, Good P T → Good P U → ∀ x ∈ T, x ∈ U := by
    intro T U h k x hx
    obtain ⟨t, ht, h1⟩ := k.cov x (h.ok x hx)
    obtain ⟨t', ht', h2⟩ := h.cov t (k.ok t ht)
    have e : t' = x := h.anti _ ht' _ hx fun n hn => h1 n (h2 n hn)
    subst e
    have : t' = t := (hP _ (h.ok _ hx)).ext (hP _ (k.ok _ ht)) fun a => ⟨h2 a, h1 a⟩
    subst this; exact ht
  exact sorted_uniq ltR2_tri ((List.perm_ext_iff_of_nodup (ord_nodup h.ord) (ord_nodup k.ord)).mpr fun a => ⟨half h k a, half k h a⟩) (h.ord.imp fun {a b} q => ltR2_ord.asym _ _ q) (k.ord.imp fun {a b} q => ltR2_ord.asym _ _ q)
structure GInv (D found : List (List Str)) : Prop where
  sub : ∀ t ∈ found, t ∈ D
  cov : ∀ z ∈ D, ∃ t ∈ found, ∀ n ∈ t, n ∈ z
  anti : ∀ t ∈ found, ∀ u ∈ found, (∀ n ∈ t, n ∈ u) → t = u
  ord : found.Pairwise (fun a b => ltR2 a b = true)
theorem GInv.step {D found : List (List Str)} {x : List Str} (h : GInv D found) (hR : ∀ z ∈ D, Ris z) (hx : Ris x) (hs : ∀ z ∈ D, ltR2 x z = false) : GInv (D ++ [x]) (gstep found x) := by
  unfold gstep
  split
  · rename_i q
    obtain ⟨t, ht, hw⟩ := List.any_eq_true.mp q
    refine ⟨fun t ht => List.mem_append_left _ (h.sub t ht), fun z hz => ?_, h.anti, h.ord⟩
    rcases List.mem_append.mp hz with hz | hz
    · exact h.cov z hz
    · have : z = x := by simpa using hz
      subst this
      exact ⟨t, ht, wi_iff.mp hw⟩
  · rename_i q
    have no : ∀ t ∈ found, ¬ ∀ n ∈ t, n ∈ x := fun t ht hw => q (List.any_eq_true.mpr ⟨t, ht, wi_iff.mpr hw⟩)
    refine ⟨fun t ht => ?_, fun z hz => ?_, fun t ht u hu hw => ?_, ?_⟩
    · rcases List.mem_append.mp ht with ht | ht
      · exact List.mem_append_left _ (h.sub t ht)
      · exact List.mem_append_right _ ht
    · rcases List.mem_append.mp hz with hz | hz
      · obtain ⟨t, ht, hw⟩ := h.cov z hz
        exact ⟨t, List.mem_append_left _ ht, hw⟩
      · exact ⟨z, List.mem_append_right _ hz, fun n hn => hn⟩
    · rcases List.mem_append.mp ht with ht1 | ht1 <;> rcases List.mem_append.mp hu with hu1 | hu1
      · exact h.anti t ht1 u hu1 hw
      · have e : u = x := by simpa using hu1
        subst e
        exact absurd hw (no t ht1)
      · have e : t = x := by simpa using ht1
        subst e
        have hz := h.sub u hu1
        have := (hR u hz).full hx hw (ltR2_len (hs u hz))
        exact this.symm
      · have e : t = x := by simpa using ht1
        have e' : u = x := by simpa using hu1
        rw [e, e']
    · refine List.pairwise_append.mpr ⟨h.ord, List.pairwise_singleton _ _, fun a ha b hb => ?_⟩
      have e : b = x := by simpa using hb
      subst e
      cases q2 : ltR2 a b with
      | true => rfl
      | false =>
        have := ltR2_tri a b q2 (hs a (h.sub a ha))
        subst this
        exact absurd (fun n hn => hn) (no a ha)
theorem GInv.all : ∀ (R D found : List (List Str)), GInv D found → (∀ z ∈ D ++ R, Ris z) → (D ++ R).Pairwise (fun a b => ltR2 b a = false) → GInv (D ++ R) (R.foldl gstep found)
  | [], D, found, h, _, _ => by simpa using h
  | x :: r, D, found, h, hR, hs => by
    have h1 := h.step (x := x) (fun z hz => hR z (List.mem_append_left _ hz)) (hR x (by simp)) fun z hz => (List.pairwise_append.mp hs).2.2 z hz x (.head _)
    have := GInv.all r (D ++ [x]) (gstep found x) h1 (by simpa using hR) (by simpa using hs)
    simpa using this
theorem greedy_inv {R : List (List Str)} (hR : ∀ z ∈ R, Ris z) (hs : R.Pairwise (fun a b => ltR2 b a = false)) : GInv R (greedy R) := by
  have := GInv.all R [] [] ⟨fun _ h => (nomatch h), fun _ h => (nomatch h), fun _ h => (nomatch h), .nil⟩ (by simpa using hR) (by simpa using hs)
  simpa [greedy] using this
theorem greedy_good {P : List Str → Prop} {R : List (List Str)} (hP : ∀ z, P z → Ris z) (hs : R.Pairwise (fun a b => ltR2 b a = false)) (h1 : ∀ z ∈ R, P z) (h2 : ∀ z, P z → ∃ t ∈ R, ∀ n ∈ t, n ∈ z) : Good P (greedy R) := by
  have h := greedy_inv (fun z hz => hP z (h1 z hz)) hs
  refine ⟨fun t ht => h1 t (h.sub t ht), fun z hz => ?_, h.anti, h.ord⟩
  obtain ⟨t, ht, hw⟩ := h2 z hz
  obtain ⟨u, hu, hw'⟩ := h.cov t ht
  exact ⟨u, hu, fun n hn => hw n (hw' n hn)⟩
noncomputable def Hit (names : List Str) (rows : List (List Str)) (x : List Str) : Prop := Ris x ∧ (∀ n ∈ x, n ∈ names) ∧ ∀ r ∈ rows, ∃ n ∈ x, n ∈ r
noncomputable def stepL (T : List (List Str)) (row : List Str) : List (List Str) := T.flatMap fun one => if me one row = true then [one] else row.map fun n => sortS (one ++ [n])
noncomputable def least (F : List (List Str)) : List (List Str) := greedy (rank F)
theorem base_good (names : List Str) : Good (Hit names []) [[]] :=
  ⟨fun t ht => by
    have : t = [] := by simpa using ht
    subst this; exact ⟨.nil, fun _ h => (nomatch h), fun _ h => (nomatch h)⟩, fun z _ => ⟨[], .head _, fun _ h => (nomatch h)⟩,
   fun t ht u hu _ => by
    have e : t = [] := by simpa using ht
    have e' : u = [] := by simpa using hu
    rw [e, e'], List.pairwise_singleton _ _⟩
theorem app_ris {one : List Str} {n : Str} (h : Ris one) (hn : n ∉ one) : Ris (sortS (one ++ [n])) :=
  sortS_ris (List.nodup_append.mpr ⟨h.nodup, by simp, fun a ha b hb e => by simp at hb; subst hb; subst e; exact hn ha⟩)
theorem step_good {names : List Str} {rows T : List (List Str)} {row : List Str} (h : Good (Hit names rows) T) (hr : ∀ n ∈ row, n ∈ names) : Good (Hit names (rows ++ [row])) (least (stepL T row)) := by
  refine greedy_good (fun z hz => hz.1) (rank_sorted _) (fun z hz => ?_) fun z hz => ?_
  · rw [mem_rank] at hz
    obtain ⟨one, h1, h2⟩ := List.mem_flatMap.mp hz
    obtain ⟨o1, o2, o3⟩ := h.ok one h1
    by_cases q : me one row = true
    · rw [if_pos q] at h2
      have : z = one := by simpa using h2
      subst this
      refine ⟨o1, o2, fun r hr' => ?_⟩
      rcases List.mem_append.mp hr' with hr' | hr'
      · exact o3 r hr'
      · have : r = row := by simpa using hr'
        subst this; exact me_iff.mp q
    · rw [if_neg q] at h2
      obtain ⟨n, hn, rfl⟩ := List.mem_map.mp h2
      have hno : n ∉ one := fun hh => q (me_iff.mpr ⟨n, hh, hn⟩)
      refine ⟨app_ris o1 hno, fun m hm => ?_, fun r hr' => ?_⟩
      · rcases List.mem_append.mp (mem_sortS.mp hm) with hm | hm
        · exact o2 m hm
        · have : m = n := by simpa using hm
          subst this; exact hr m hn
      · rcases List.mem_append.mp hr' with hr' | hr'
        · obtain ⟨m, hm, hm'⟩ := o3 r hr'
          exact ⟨m, mem_sortS.mpr (List.mem_append_left _ hm), hm'⟩
        · have : r = row := by simpa using hr'
          subst this
          exact ⟨n, mem_sortS.mpr (by simp), hn⟩
  · obtain ⟨z1, z2, z3⟩ := hz
    obtain ⟨t, ht, hw⟩ := h.cov z ⟨z1, z2, fun r hr' => z3 r (List.mem_append_left _ hr')⟩
    by_cases q : me t row = true
    · exact ⟨t, mem_rank.mpr (List.mem_flatMap.mpr ⟨t, ht, by rw [if_pos q]; exact .head _⟩), hw⟩
    · obtain ⟨n, hn, hn'⟩ := z3 row (by simp)
      refine ⟨sortS (t ++ [n]), mem_rank.mpr (List.mem_flatMap.mpr ⟨t, ht, by rw [if_neg q]; exact List.mem_map.mpr ⟨n, hn', rfl⟩⟩), fun m hm => ?_⟩
      rcases List.mem_append.mp (mem_sortS.mp hm) with hm | hm
      · exact hw m hm
      · have : m = n := by simpa using hm
        subst this; exact hn
noncomputable def bstep (F : List (List Str)) (n : Str) : List (List Str) := F ++ F.map (· ++ [n])
noncomputable def boxOf (l : List Str) : List (List Str) := l.foldl bstep [[]]
theorem boxOf_snoc (l : List Str) (n : Str) : boxOf (l ++ [n]) = bstep (boxOf l) n := by unfold boxOf; rw [List.foldl_append]; rfl
theorem boxOf_len : ∀ l : List Str, (boxOf l).length = 2 ^ l.length := by
  intro l
  suffices h : ∀ (l : List Str) (F : List (List Str)), (l.foldl bstep F).length = F.length * 2 ^ l.length by simpa [boxOf] using h l [[]]
  intro l
  induction l with
  | nil => intro F; simp
  | cons x r ih => intro F; rw [List.foldl_cons, ih]; simp only [bstep, List.length_append, List.length_map, List.length_cons, Nat.pow_succ]; rw [← Nat.two_mul, Nat.mul_comm 2 F.length, Nat.mul_assoc, Nat.mul_comm 2]
theorem mem_box : ∀ (n : Nat) (l x : List Str), l.length = n → Ris l → (x ∈ boxOf l ↔ Ris x ∧ ∀ a ∈ x, a ∈ l)
  | 0, l, x, hl, _ => by
    have : l = [] := List.eq_nil_of_length_eq_zero hl
    subst this
    constructor
    · intro h
      have : x = [] := by simpa [boxOf] using h
      subst this; exact ⟨.nil, fun _ h => h⟩
    · rintro ⟨_, h⟩
      cases x with
      | nil => simp [boxOf]
      | cons a r => exact (nomatch h a (.head _))
  | k + 1, l, x, hl, hR => by
    obtain ⟨l', a, rfl⟩ : ∃ l' a, l = l' ++ [a] := by
      refine ⟨l.dropLast, l.getLast (by intro e; subst e; simp at hl), (List.dropLast_concat_getLast _).symm⟩
    obtain ⟨r1, r2, r3⟩ := List.pairwise_append.mp hR
    have hl' : l'.length = k := by simpa using hl
    rw [boxOf_snoc]
    unfold bstep
    constructor
    · intro h
      rcases List.mem_append.mp h with h | h
      · obtain ⟨w1, w2⟩ := (mem_box k l' x hl' r1).mp h
        exact ⟨w1, fun b hb => List.mem_append_left _ (w2 b hb)⟩
      · obtain ⟨y, hy, rfl⟩ := List.mem_map.mp h
        obtain ⟨w1, w2⟩ := (mem_box k l' y hl' r1).mp hy
        refine ⟨List.pairwise_append.mpr ⟨w1, List.pairwise_singleton _ _, fun b hb c hc => r3 b (w2 b hb) c hc⟩, fun b hb => ?_⟩
        rcases List.mem_append.mp hb with hb | hb
        · exact List.mem_append_left _ (w2 b hb)
        · exact List.mem_append_right _ hb
    · rintro ⟨w1, w2⟩
      by_cases q : a ∈ x
      · refine List.mem_append_right _ (List.mem_map.mpr ⟨x.filter (fun b => decide (b ≠ a)), ?_, ?_⟩)
        · refine (mem_box k l' _ hl' r1).mpr ⟨List.Pairwise.filter _ w1, fun b hb => ?_⟩
          have hb' := List.mem_filter.mp hb
          rcases List.mem_append.mp (w2 b hb'.1) with h | h
          · exact h
          · have : b = a := by simpa using h
            subst this; simp at hb'
        · refine Ris.ext (List.pairwise_append.mpr ⟨List.Pairwise.filter _ w1, List.pairwise_singleton _ _, fun b hb c hc => ?_⟩) w1 fun b => ?_
          · have hb' := List.mem_filter.mp hb
            rcases List.mem_append.mp (w2 b hb'.1) with h | h
            · exact r3 b h c hc
            · have : b = a := by simpa using h
              subst this; simp at hb'
          · by_cases e : b = a
            · subst e; simp [q]
            · simp [e]
      · refine List.mem_append_left _ ((mem_box k l' x hl' r1).mpr ⟨w1, fun b hb => ?_⟩)
        rcases List.mem_append.mp (w2 b hb) with h | h
        · exact h
        · have : b = a := by simpa using h
          subst this; exact absurd hb q
noncomputable def mall (rows : List (List Str)) (x : List Str) : Bool := rows.all fun r => me x r
noncomputable def leastLaw (names : List Str) (rows : List (List Str)) : List (List Str) := greedy ((rank (boxOf (sortS names))).filter (mall rows))
theorem least_good {names : List Str} {rows : List (List Str)} (hn : names.Nodup) : Good (Hit names rows) (leastLaw names rows) := by
  have key : ∀ z, z ∈ (rank (boxOf (sortS names))).filter (mall rows) ↔ Hit names rows z := fun z => by
    rw [List.mem_filter, mem_rank, mem_box _ _ _ rfl (sortS_ris hn)]
    unfold Hit mall
    simp only [List.all_eq_true, me_iff, mem_sortS]
    exact ⟨fun ⟨⟨a, b⟩, c⟩ => ⟨a, b, c⟩, fun ⟨a, b, c⟩ => ⟨⟨a, b⟩, c⟩⟩
  exact greedy_good (fun z hz => hz.1) (List.Pairwise.filter _ (rank_sorted _)) (fun z hz => (key z).mp hz) fun z hz => ⟨z, (key z).mpr hz, fun n hn => hn⟩
end Mine
end
-- text U3
section
set_option autoImplicit false
set_option linter.unusedVariables false
namespace Mine
open PySem PySem.Calls PyProof.Rows PySem.W
theorem perm_map_inv {α β : Type} {f : α → β} {ws zs : List β} (h : ws.Perm zs) : ∀ {ps : List α}, zs = ps.map f → ∃ qs : List α, qs.Perm ps ∧ ws = qs.map f := by
  induction h with
  | nil =>
    intro ps e
    have : ps = [] := by simpa using e.symm
    subst this; exact ⟨[], List.Perm.refl _, rfl⟩
  | cons x _ ih =>
    intro ps e
    cases ps with
    | nil => simp at e
    | cons p r =>
      simp only [List.map_cons, List.cons.injEq] at e
      obtain ⟨qs, h1, h2⟩ := ih e.2
      exact ⟨p :: qs, h1.cons p, by simp [e.1, h2]⟩
  | swap x y l =>
    intro ps e
    match ps, e with
    | [], e => simp at e
    | [_], e => simp at e
    | p :: q :: r, e =>
      simp only [List.map_cons, List.cons.injEq] at e
      exact ⟨q :: p :: r, List.Perm.swap _ _ _, by rw [e.1, e.2.1, e.2.2]; rfl⟩
  | trans _ _ ih1 ih2 =>
    intro ps e
    obtain ⟨qs, h1, h2⟩ := ih2 e
    obtain ⟨rs, h3, h4⟩ := ih1 h2
    exact ⟨rs, h3.trans h1, h4⟩
theorem vrs_of_strs : ∀ {ws : List Value}, (∀ v ∈ ws, ∃ x t, v = .str x t ∧ PyData.strOk x = true) → VRs ws ((ws.map strOf).map AV.str)
  | [], _ => .nil
  | v :: r, h => by
    obtain ⟨x, t, rfl, ok⟩ := h v (.head _)
    exact .cons (.str x t ok) (vrs_of_strs fun u hu => h u (.tail _ hu))
theorem strsAre_of : ∀ {ws : List Value}, (∀ v ∈ ws, ∃ x t, v = .str x t ∧ PyData.strOk x = true) → StrsAre ws (ws.map strOf)
  | [], _ => .nil
  | v :: r, h => by
    obtain ⟨x, t, rfl, ok⟩ := h v (.head _)
    exact .cons x t (strsAre_of fun u hu => h u (.tail _ hu))
theorem vrs_of_ints : ∀ {ws : List Value}, (∀ v ∈ ws, ∃ x t, v = .int x t) → VRs ws ((ws.map intOf).map AV.int)
  | [], _ => .nil
  | v :: r, h => by
    obtain ⟨x, t, rfl⟩ := h v (.head _)
    exact .cons (.int x t) (vrs_of_ints fun u hu => h u (.tail _ hu))
theorem intsAre_of : ∀ {ws : List Value}, (∀ v ∈ ws, ∃ x t, v = .int x t) → IntsAre ws (ws.map intOf)
  | [], _ => .nil
  | v :: r, h => by
    obtain ⟨x, t, rfl⟩ := h v (.head _)
    exact .cons x t (intsAre_of fun u hu => h u (.tail _ hu))
theorem strs_of_vrs : ∀ {ws : List Value} {xs : List Str}, VRs ws (xs.map AV.str) → (∀ v ∈ ws, ∃ x t, v = .str x t ∧ PyData.strOk x = true) ∧ ws.map strOf = xs
  | [], [], _ => ⟨fun _ h => (nomatch h), rfl⟩
  | [], _ :: _, h => by cases h
  | _ :: _, [], h => by cases h
  | v :: r, x :: q, .cons h hs => by
    obtain ⟨h1, h2⟩ := strs_of_vrs hs
    cases h with
    | str _ t ok =>
      refine ⟨fun u hu => ?_, by rw [List.map_cons, h2]; rfl⟩
      rcases List.mem_cons.mp hu with rfl | hu
      · exact ⟨x, t, rfl, ok⟩
      · exact h1 u hu
theorem refs_of_vrs : ∀ {ws : List Value} {as : List Addr}, VRs ws (as.map AV.ref) → ws = as.map Value.ref
  | [], [], _ => rfl
  | [], _ :: _, h => by cases h
  | _ :: _, [], h => by cases h
  | v :: r, x :: q, .cons h hs => by
    cases h
    rw [List.map_cons, refs_of_vrs hs]
theorem vrs_refs : ∀ as : List Addr, VRs (as.map Value.ref) (as.map AV.ref)
  | [] => .nil
  | a :: r => .cons (.ref a) (vrs_refs r)
section
variable {S : St} {C : Cx} {A : Around} {H : AH} {s : Shared} {Q : QV}
theorem fin_strs {vs : List Value} {xs : List Str} (I : Inv S C H s) (hv : ∀ v ∈ vs, ∃ x t, v = .str x t ∧ PyData.strOk x = true) (hp : (vs.map strOf).Perm xs) (hl : vs.length ≤ sizeLine) (h : ∀ r, H r = none → Q (.ref r) (H.put r (.list ((sortS xs).map AV.str)))) :
    ∀ ws : List Value, ws.Perm vs → Srt (fun v u => ltS (strOf v) (strOf u)) ws → ∀ s2 D e, s.heap.get? D = none → (∀ b o, s.heap.get? b = some o → s2.heap.get? b = some o) → s2.gens = s.gens → s2.os = s.os → s2.heap.get? D = some { cls := .type "list", data := .seq ws.toArray e } → PostV S C Q (.ref D) s2 := by
  intro ws pm hs s2 D e hD hk hg ho hw
  have e1 : ws.map strOf = sortS xs := sorted_uniq (fun a b => ltS_tri) (((pm.map strOf).trans hp).trans (sortS_perm xs).symm) (List.pairwise_map.mpr hs) (isort_sorted ltS_ord xs)
  have hv' : ∀ v ∈ ws, ∃ x t, v = .str x t ∧ PyData.strOk x = true := fun v h => hv v (pm.mem_iff.mp h)
  have hr := vrs_of_strs hv'
  rw [e1] at hr
  exact ⟨_, _, .ref D, I.add (o := .list ((sortS xs).map AV.str)) hD hk ⟨ws, e, hw, hr, by rw [pm.length_eq]; exact hl⟩ hg ho, h D (I.fresh hD).1⟩
theorem kind_strs {vs : List Value} (hv : ∀ v ∈ vs, ∃ x t, v = .str x t ∧ PyData.strOk x = true) (h2 : 2 ≤ vs.length) {M : Model} {A : Around} {E : Value → Shared → Prop} {s : Shared} {Q : SortKind → Shared → Prop} (h : Q oneType' s) : wpAny M A (keyKind' vs.toArray) Q E s := by
  match vs, h2 with
  | v₁ :: v₂ :: r, _ =>
    rw [keyKind_strs (strsAre_of hv)]
    exact wpAny_pure h
theorem kind_ints {vs : List Value} (hv : ∀ v ∈ vs, ∃ x t, v = .int x t) (h2 : 2 ≤ vs.length) {M : Model} {A : Around} {E : Value → Shared → Prop} {s : Shared} {Q : SortKind → Shared → Prop} (h : Q oneType' s) : wpAny M A (keyKind' vs.toArray) Q E s := by
  match vs, h2 with
  | v₁ :: v₂ :: r, _ =>
    rw [keyKind_ints (intsAre_of hv)]
    exact wpAny_pure h
end
theorem ltI_ord : Ord (fun (a b : Int) => decide (a < b)) := ⟨fun x y h => by have := of_decide_eq_true h; exact decide_eq_false (by lia), fun x y z h1 h2 => by have w1 := of_decide_eq_false h1; have w2 := of_decide_eq_false h2; exact decide_eq_false (by lia)⟩
theorem bSorted_ok {S : St} (K : StOK S) : BFnOK S true (.builtin "sorted") bSorted := by
  rintro C A vs avs H Q E s hh hu r I ⟨a, o, rfl, ha, h⟩
  obtain ⟨_, rfl, r0⟩ := r.one
  cases r0.ref_inv
  have hcl : cLine = 9900 := rfl
  cases o with
  | sset xs =>
    obtain ⟨es, ep, t, ys, ho, hel, pm, nd, hb, hf, hled, hpl⟩ := I.objs a _ ha
    have hsz : es.size ≤ sizeLine := by
      have : scanBound = 4096 := rfl
      have : sizeLine = 16777216 := rfl
      lia
    have hvals : ∀ {l : List (Int × Value)} {ys : List Str}, SRs S.w l ys → (∀ v ∈ l.map (·.2), ∃ x t, v = .str x t ∧ PyData.strOk x = true) ∧ (l.map (·.2)).map strOf = ys := by
      intro l ys h
      induction h with
      | nil => exact ⟨fun _ h => (nomatch h), rfl⟩
      | @cons x t vs xs ok _ ih =>
        refine ⟨fun v hv => ?_, by simp only [List.map_cons]; rw [ih.2]; rfl⟩
        rcases List.mem_cons.mp hv with rfl | hv
        · exact ⟨x, t, rfl, ok⟩
        · exact ih.1 v hv
    obtain ⟨v1, v2⟩ := hvals hel
    refine sorted_any (κ := oneType') (L := fun x y => ltS (strOf x.1) (strOf y.1)) fun A' ha' hu' => ?_
    refine collect_set (ha'.trans (hh rfl)) ho hf hled hpl hsz fun s1 ws pw k1 g1 o1 => ?_
    have hv : ∀ v ∈ ws, ∃ x t, v = .str x t ∧ PyData.strOk x = true := fun v h => v1 v (pw.mem_iff.mp h)
    have hl : ws.length ≤ sizeLine := by rw [pw.length_eq, List.length_map, Array.length_toList]; exact hsz
    refine ⟨k1, g1, o1, hl, fun A2 _ s' _ h2 Q' E' hq => kind_strs hv h2 hq, fun A2 _ s' _ E' => ⟨UStr, fun v hv' => ?_, cmpS⟩, ?_⟩
    · obtain ⟨x, t, e, _⟩ := hv v hv'
      exact ⟨x, t, e⟩
    · exact fin_strs I hv ((pw.map strOf).trans (by rw [v2]; exact pm)) hl h
  | idict es =>
    obtain ⟨kvs, ep, hd, hp, hl⟩ := I.objs a _ ha
    have lo : (a == sysModules) = false := by
      obtain ⟨o, ho⟩ := K.sys
      have := (I.sepH a _ ha).2 rfl
      by_cases q : a = sysModules
      · rw [q, ho] at this; cases this
      · simpa using q
    have hkeys : ∀ {kvs : List (Int × Value)} {es : List (Int × AV)}, PRs kvs es → kvs.map (·.1) = es.map (·.1) := by
      intro kvs es h
      induction h with
      | nil => rfl
      | cons _ _ ih => simp only [List.map_cons]; rw [ih]
    refine sorted_any (κ := oneType') (L := fun x y => decide (intOf x.1 < intOf y.1)) fun A' ha' hu' => ?_
    refine kdu_collect (kdl_dict lo) (ha'.trans (hh rfl)) hd hl fun h' tk acc k1 hacc => ?_
    have hv : ∀ v ∈ acc.toList, ∃ x t, v = .int x t := fun v hv => by
      obtain ⟨j, hj, e⟩ := List.getElem_of_mem hv
      have hj' : j < acc.size := by simpa using hj
      obtain ⟨k, x, _, hk⟩ := hacc.2 j v (by rw [Array.getElem?_eq_getElem hj', ← e]; simp)
      obtain ⟨t, rfl⟩ := Value.isInt_shape hk
      exact ⟨k, t, rfl⟩
    have hm : acc.toList.map intOf = es.map (·.1) := by
      rw [← hkeys hp]
      apply List.ext_getElem?
      intro j
      by_cases hj : j < acc.size
      · obtain ⟨k, x, hx, hk⟩ := hacc.2 j acc[j] (Array.getElem?_eq_getElem hj)
        obtain ⟨t, et⟩ := Value.isInt_shape hk
        rw [List.getElem?_map, List.getElem?_map, Array.getElem?_toList, Array.getElem?_eq_getElem hj, hx, et]; rfl
      · have := hacc.1
        rw [List.getElem?_eq_none (by simp; lia), List.getElem?_eq_none (by simp; lia)]
    have hl' : acc.toList.length ≤ sizeLine := by rw [Array.length_toList, hacc.1]; exact hl
    refine ⟨k1, rfl, rfl, hl', fun A2 _ s' _ h2 Q' E' hq => kind_ints hv h2 hq, fun A2 _ s' _ E' => ⟨UInt, fun v hv' => hv v hv', cmpI⟩, ?_⟩
    intro ws pm hs s2 D e hD hk hg ho hw
    have e1 : ws.map intOf = sortI (es.map (·.1)) := by
      refine sorted_uniq (L := fun (a b : Int) => decide (a < b)) (fun a b h1 h2 => ?_) ((pm.map intOf).trans ?_) (List.pairwise_map.mpr hs) (isort_sorted ltI_ord _)
      · have := of_decide_eq_false h1; have := of_decide_eq_false h2; lia
      · rw [hm]; exact (isort_perm _).symm
    have hr := vrs_of_ints fun v h => hv v (pm.mem_iff.mp h)
    rw [e1] at hr
    exact ⟨_, _, .ref D, I.add (o := .list ((sortI (es.map (·.1))).map AV.int)) hD hk ⟨ws, e, hw, hr, by rw [pm.length_eq]; exact hl'⟩ hg ho, h D (I.fresh hD).1⟩
  | list xs =>
    obtain ⟨ws, n, g, q, hl⟩ := I.list ha
    rcases h with ⟨xs, rfl, h⟩ | ⟨ps, rfl, hP, h⟩
    · obtain ⟨hv, hm⟩ := strs_of_vrs q
      refine sorted_any (κ := oneType') (L := fun x y => ltS (strOf x.1) (strOf y.1)) fun A' ha' hu' => ?_
      refine collect_is g hl fun s1 k1 g1 o1 => ?_
      refine ⟨k1, g1, o1, hl, fun A2 _ s' _ h2 Q' E' hq => kind_strs hv h2 hq, fun A2 _ s' _ E' => ⟨UStr, fun v hv' => ?_, cmpS⟩, ?_⟩
      · obtain ⟨x, t, e, _⟩ := hv v hv'
        exact ⟨x, t, e⟩
      · exact fin_strs I hv (by rw [hm]) hl h
    · have hw : ws = ps.map (fun p => Value.ref p.at_) := by
        have := refs_of_vrs (as := ps.map (·.at_)) (ws := ws) (by rw [List.map_map]; exact q)
        rw [this, List.map_map]; rfl
      let key : Value → Int × List Str := fun v => match v with
        | .ref a => ((ps.find? fun p => p.at_ == a).map fun p => (p.n, p.xs)).getD (0, [])
        | _ => (0, [])
      have hkey : ∀ p ∈ ps, key (.ref p.at_) = (p.n, p.xs) := fun p hp => by
        show ((ps.find? fun p' => p'.at_ == p.at_).map fun p => (p.n, p.xs)).getD (0, []) = _
        cases e : ps.find? fun p' => p'.at_ == p.at_ with
        | none =>
          have := List.find?_eq_none.mp e p hp
          simp at this
        | some p' =>
          have e1 : p'.at_ = p.at_ := by simpa using List.find?_some e
          have hp' := hP p' (List.mem_of_find?_eq_some e)
          have hpp := hP p hp
          have e2 := hp'.1.symm.trans (e1 ▸ hpp.1)
          simp only [Option.some.injEq, AO.tuple.injEq, List.cons.injEq, AV.int.injEq, AV.ref.injEq, and_true] at e2
          have e3 := hp'.2.symm.trans (e2.2 ▸ hpp.2)
          have e4 : p'.xs.map AV.str = p.xs.map AV.str := by simpa using e3
          have e5 : p'.xs = p.xs := by
            have h1 : ∀ {x y : List Str}, x.map AV.str = y.map AV.str → x = y := by
              intro x
              induction x with
              | nil => intro y h; cases y with
                | nil => rfl
                | cons => simp at h
              | cons a r ih => intro y h; cases y with
                | nil => simp at h
                | cons b q =>
                  simp only [List.map_cons, List.cons.injEq, AV.str.injEq] at h
                  rw [h.1, ih h.2]
            exact h1 e4
          simp [e2.1, e5]
      have hpair : ∀ p ∈ ps, ∀ h' : Heap, (∀ b o, s.heap.get? b = some o → h'.get? b = some o) → PairAt h' (.ref p.at_) (p.n, p.xs) := fun p hp h' hk => by
        obtain ⟨p1, p2⟩ := hP p hp
        obtain ⟨tv, tn, tg, tq, _⟩ := I.tuple p1
        obtain ⟨lv, ln, lg, lq, _⟩ := I.list p2
        cases tq with
        | @cons v0 _ tv' _ r1 rs =>
          cases r1 with
          | int _ t =>
            cases rs with
            | @cons v1 _ tv'' _ r2 rs2 =>
              cases r2
              cases rs2
              obtain ⟨hv, hm⟩ := strs_of_vrs lq
              refine ⟨p.at_, p.l, t, tn, ln, lv, rfl, hk _ _ tg, hk _ _ lg, by rw [← hm]; exact strsAre_of hv, fun x hx => ?_⟩
              rw [← hm] at hx
              obtain ⟨v, hv', rfl⟩ := List.mem_map.mp hx
              obtain ⟨x, t, rfl, ok⟩ := hv v hv'
              exact ok
      refine sorted_any (κ := tuples' true) (L := fun x y => ltK (key x.1) (key y.1)) fun A' ha' hu' => ?_
      refine collect_is g hl fun s1 k1 g1 o1 => ?_
      refine ⟨k1, g1, o1, hl, fun A2 _ s' k' h2 Q' E' hq => ?_, fun A2 hu2 s' k' E' => ⟨_, fun v hv' => ?_, cmpP (by lia) key⟩, ?_⟩
      · have kt : ∀ (l : List Pr), (∀ p ∈ l, p ∈ ps) → ∃ fs, KatTups s'.heap (l.map fun p => Value.ref p.at_) fs ∧ fs.length = l.length ∧ ∀ v ∈ fs, ∃ i t, v = Value.int i t := by
          intro l
          induction l with
          | nil => intro _; exact ⟨[], trivial, rfl, fun _ h => (nomatch h)⟩
          | cons p r ih =>
            intro hl
            obtain ⟨fs, f1, f2, f3⟩ := ih fun p' hp' => hl p' (.tail _ hp')
            obtain ⟨⟨a', l', t', n', m', vs', e1, e2, _⟩⟩ := hpair p (hl p (.head _)) s'.heap fun b o e => k' _ _ (k1 _ _ e)
            cases e1
            refine ⟨.int p.n t' :: fs, KatTups.cons e2 rfl rfl rfl f1, by simp [f2], fun v hv => ?_⟩
            rcases List.mem_cons.mp hv with rfl | hv
            · exact ⟨_, _, rfl⟩
            · exact f3 v hv
        obtain ⟨fs, f1, f2, f3⟩ := kt ps fun p hp => hp
        rw [hw]
        refine kat_kind (T := .type "int") f1 (by rw [hw, List.length_map] at h2; lia) (fun v hv => ?_) (by decide) hq
        obtain ⟨i, t, rfl⟩ := f3 v hv
        exact .now
      · rw [hw] at hv'
        obtain ⟨p, hp, rfl⟩ := List.mem_map.mp hv'
        show PairAt s'.heap (.ref p.at_) (key (.ref p.at_))
        rw [hkey p hp]
        exact hpair p hp s'.heap fun b o e => k' _ _ (k1 _ _ e)
      · intro zs pm hs s2 D e hD hk hg ho hz
        rw [hw] at pm
        obtain ⟨qs, hq1, hq2⟩ := perm_map_inv pm rfl
        refine ⟨_, _, .ref D, I.add (o := .list (qs.map fun p => AV.ref p.at_)) hD hk ⟨zs, e, hz, ?_, ?_⟩ hg ho, h qs hq1 ?_ D (I.fresh hD).1⟩
        · rw [hq2]
          have := vrs_refs (qs.map (·.at_))
          rw [List.map_map, List.map_map] at this
          exact this
        · rw [pm.length_eq, ← hw]; exact hl
        · rw [hq2] at hs
          refine List.Pairwise.imp_of_mem (fun {x y} hx hy hxy => ?_) (List.pairwise_map.mp hs)
          have : ltK (key (.ref y.at_)) (key (.ref x.at_)) = false := hxy
          rw [hkey x (hq1.mem_iff.mp hx), hkey y (hq1.mem_iff.mp hy)] at this
          exact this
  | _ => exact h.elim
end Mine
end
-- text C1
section
set_option autoImplicit false
set_option linter.unusedVariables false
open PySem PySem.Calls PyProof.Rows PySem.W
namespace Mine
structure Cls (S : St) (K : Frag) : Prop where
  makes : makesIn K S.book = true
  ga : findIn K (.ref S.book) "__getattribute__" = some (some (.builtin "object.__getattribute__"))
  gk : findIn K (.ref S.book) "__getattr__" = some none
  sa : findIn K (.ref S.book) "__setattr__" = some (some (.builtin "object.__setattr__"))
  over : plainOver K S.book = true
  dict : (clsIn K S.book).any (·.hasDict) = true
  keep : keepIn K (.ref S.book) = true
noncomputable def putA : List (Str × AV) → Str → AV → List (Str × AV)
  | [], x, v => [(x, v)]
  | (y, w) :: r, x, v => if y = x then (y, v) :: r else (y, w) :: putA r x v
noncomputable def getA : List (Str × AV) → Str → Option AV
  | [], _ => none
  | (y, w) :: r, x => if y = x then some w else getA r x
theorem isStr_str (x y : Str) (t : Tok) : Value.isStr (.str x t) y = decide (x = y) := by
  simp only [Value.isStr]
  by_cases e : x = y <;> simp [e]
theorem kvs_some : ∀ {des : List DictEntry} {es : List (Str × AV)}, KVs des es → ∀ {name : Str} {a : AV}, getA es name = some a → ∃ e, des.find? (·.key.isStr name) = some e ∧ VR e.val a
  | _, _, .nil, name, a, h => by cases h
  | _, _, @KVs.cons hh x t v b des es r rs, name, a, h => by
    unfold getA at h
    by_cases q : x = name
    · rw [if_pos q] at h; cases h
      refine ⟨⟨hh, .str x t, v⟩, ?_, r⟩
      simp [List.find?, isStr_str, q]
    · rw [if_neg q] at h
      obtain ⟨e, h1, h2⟩ := kvs_some rs h
      exact ⟨e, by simp only [List.find?, isStr_str, q, decide_false]; exact h1, h2⟩
theorem kvs_none : ∀ {des : List DictEntry} {es : List (Str × AV)}, KVs des es → ∀ {name : Str}, getA es name = none → des.find? (·.key.isStr name) = none
  | _, _, .nil, name, h => rfl
  | _, _, @KVs.cons hh x t v b des es r rs, name, h => by
    unfold getA at h
    by_cases q : x = name
    · rw [if_pos q] at h; cases h
    · rw [if_neg q] at h
      simp only [List.find?, isStr_str, q, decide_false]; exact kvs_none rs h
theorem kvs_ref : ∀ {des : List DictEntry} {es : List (Str × AV)}, KVs des es → des.any (·.refKey) = false
  | _, _, .nil => rfl
  | _, _, .cons r rs => by rw [List.any_cons, kvs_ref rs]; rfl
theorem kvs_put : ∀ {des : List DictEntry} {es : List (Str × AV)}, KVs des es → ∀ {name : Str} {h : Int} {t : Tok} {v : Value} {a : AV}, VR v a →
    KVs (putIn (·.key.isStr name) (fun e => { e with val := v }) ⟨h, .str name t, v⟩ des) (putA es name a)
  | _, _, .nil, name, h, t, v, a, r => .cons r .nil
  | _, _, @KVs.cons hh x tx vx b des es rx rs, name, h, t, v, a, r => by
    unfold putA
    by_cases q : x = name
    · rw [if_pos q, putIn_hit _ _ _ _ _ (by simp [isStr_str, q])]
      exact .cons r rs
    · rw [if_neg q, putIn_miss _ _ _ _ _ (by simp [isStr_str, q])]
      exact .cons rx (kvs_put rs r)
theorem kvs_len : ∀ {des : List DictEntry} {es : List (Str × AV)}, KVs des es → des.length = es.length
  | _, _, .nil => rfl
  | _, _, .cons _ rs => by simp [kvs_len rs]
theorem putA_len (es : List (Str × AV)) (x : Str) (v : AV) : (putA es x v).length ≤ es.length + 1 := by
  induction es with
  | nil => simp [putA]
  | cons p r ih =>
    obtain ⟨y, w⟩ := p
    unfold putA
    split
    · simp
    · simp; omega
section
variable {S : St} {C : Cx} {H : AH} {s : Shared} {K : Frag}
theorem Inv.inst (I : Inv S C H s) {a d : Addr} {es : List (Str × AV)} (ha : H a = some (.inst d)) (hd : H d = some (.attrs es)) :
    ∃ od des n, InstAt s.heap a { cls := .ref S.book, dict := some d, data := .plain } S.book (some od) ∧ s.heap.get? d = some od ∧ od = { cls := .type "dict", data := .dict des n } ∧ KVs des.toList es := by
  have h1 : s.heap.get? a = some { cls := .ref S.book, dict := some d, data := .plain } := I.objs a _ ha
  obtain ⟨des, n, h2, h3⟩ := I.objs d _ hd
  exact ⟨_, des, n, ⟨h1, rfl, rfl, h2⟩, h2, rfl, h3⟩
theorem look_some {des : Array DictEntry} {n : Nat} {es : List (Str × AV)} (h : KVs des.toList es) {name : Str} {a : AV} (e : getA es name = some a) : ∃ v, lookIn name { cls := .type "dict", data := .dict des n } = some (some v) ∧ VR v a := by
  obtain ⟨en, h1, h2⟩ := kvs_some h e
  exact ⟨en.val, by unfold lookIn; dsimp only; rw [h1], h2⟩
theorem look_none {des : Array DictEntry} {n : Nat} {es : List (Str × AV)} (h : KVs des.toList es) {name : Str} (e : getA es name = none) : lookIn name { cls := .type "dict", data := .dict des n } = some none := by
  unfold lookIn
  dsimp only
  rw [kvs_none h e]
  dsimp only
  rw [kvs_ref h]; rfl
theorem handed_VR {v : Value} {a : AV} (h : VR v a) : handedIn v = true := by cases h <;> rfl
theorem findObj_val (CL : Cls S K) {od : Obj} {name : Str} {v : Value} (hn : findIn K (.ref S.book) name = some none) (hl : lookIn name od = some (some v)) : findObj K S.book (some od) name = some (.value v) := by
  obtain ⟨cd, hc, hd⟩ := any_some CL.dict
  unfold findObj
  rw [hc, hn]
  simp only [Option.bind_some]
  simp [W.ownOf, hd, hl]
end
section
variable {S : St} {b : Bool} {d : Nat} {sc : Kd} {ρ : Rho} {K : Frag}
noncomputable def tAttr (attr : Str) (t : Tm) : Tm := fun m H Q X => t m H (fun x H1 => ∃ a d es v, x = .ref a ∧ H1 a = some (.inst d) ∧ H1 d = some (.attrs es) ∧ getA es attr = some v ∧ Q v H1) X
theorem sE_attr {x attr : Str} {xp pos : Pos} {t : Tm} (EL : EnvL S K) (CL : Cls S K) (h1 : SoundE S b d sc ρ (.Name x xp) t) (hn : findIn K (.ref S.book) attr = some none) :
    SoundE S b d sc ρ (.Attribute (.Name x xp) attr pos) (tAttr attr t) := by
  intro C A env m H Q X E s R O hk V I h hE
  refine Attribute_Name_ (wpAny_mono (h1 C A env m H _ X E s R O hk V I h hE) ?_ fun _ _ x => x)
  rintro ov s1 ⟨x, H1, r1, I1, a, dd, es, v, rfl, ha, hd, hg, q⟩
  cases r1
  obtain ⟨od, des, n, IA, _, rfl, kv⟩ := I1.inst ha hd
  obtain ⟨w, hl, hw⟩ := look_some kv hg
  exact get_value (EL.X.keeps I1.base) IA CL.ga (findObj_val CL hn hl) (handed_VR hw) ⟨v, H1, hw, I1.toks _, q⟩
noncomputable def tMcall (name : Str) (F : Fn) (t : Tm) (ts : Tms) : Tm := fun m H Q X => t m H (fun x H1 => ∃ a d es, x = .ref a ∧ H1 a = some (.inst d) ∧ H1 d = some (.attrs es) ∧ getA es name = none ∧ ts m H1 (fun vs H2 => F (x :: vs) H2 Q X) X) X
theorem sE_mcall {o : Expr} {name : Str} {apos pos : Pos} {args : List Expr} {f : Addr} {F : Fn} {t : Tm} {ts : Tms} (EL : EnvL S K) (CL : Cls S K) (hF : SoundF S b d (.ref f) F) (h1 : SoundE S b d sc ρ o t) (h2 : SoundEs S b d sc ρ args ts)
    (hbase : ∀ env, attributeBase o name env (eval o env) = eval o env) (hline : (apos.endLine == pos.line) = true) (hs : noStar args = true) (hn : args.length < 29)
    (hf : findIn K (.ref S.book) name = some (some (.ref f))) (ht : typeIn K (.ref f) = some (.type "function")) (hkp : keepIn K (.ref f) = true) :
    SoundE S b d sc ρ (.Call (.Attribute o name apos) args [] pos) (tMcall name F t ts) := by
  intro C A env m H Q X E s R O hk V I h hE
  have hfew : ((backTo pos (starEach args env)).all (fun x => !x.1) && (backToKw pos (keywordEach [] env)).all (fun x => x.1.isSome)
      && decide (args.length + ([] : List Keyword).length + (if ([] : List Keyword).isEmpty then 0 else 1) < 30)) = true := by
    rw [backTo_plain hs]
    have e : (backToKw pos (keywordEach [] env)) = [] := rfl
    rw [e]; simp; omega
  rw [arm_eval_Call, hbase env]
  refine wpAny_bind (wpAny_mono (h1 C A env m H _ X E s R O hk V I h hE) ?_ fun _ _ x => x)
  rintro ov s1 ⟨x, H1, r1, I1, a, dd, es, rfl, ha, hd, hg, q⟩
  cases r1
  obtain ⟨od, des, n, IA, _, rfl, kv⟩ := I1.inst ha hd
  have hl := look_none (n := n) kv hg
  refine wpAny_bind (wpAny_standAt ?_)
  have hform : methodCallForm (args.length + ([] : List Keyword).length) (backTo pos (starEach args env)) (backToKw pos (keywordEach [] env)) = true := hfew
  have hpos : methodCallPos true o env apos pos = pure pos := by unfold methodCallPos; simp [hline]
  unfold methodCall
  rw [hform]
  refine wpAny_bind (wpAny_holding (method_fn (EL.X.keeps I1.base) IA CL.ga CL.gk hf ht (by unfold shadowIn; dsimp only; rw [hl]; rfl) ?_))
  refine wpAny_bind (wpAny_of_eq hpos ?_)
  refine callWith_of (P := fun h => K.In h) (by rw [backTo_any hs]; rfl) (fun h X => keeps_K hkp h X) (evalArgs_of hs (wpAny_mono (h2 C A env m H1 _ X E s1 pos R O hk V I1 q hE) ?_ fun _ _ x => x))
  rintro vs s2 ⟨avs, H2, r2, I2, q2⟩
  refine ⟨EL.X.keeps I2.base, wpAny_call (codeAny_mono (hF C A (.ref a :: vs) (.ref a :: avs) H2 Q X s2 R (.of_env O) (.cons (.ref a) r2) I2 q2) ?_)⟩
  intro r s3 hr
  cases r with
  | error e => obtain ⟨x, H3, hx, hr⟩ := hr; exact hE x H3 e s3 hx hr
  | ok fl => cases fl <;> first | exact hr | exact hr.elim
noncomputable def tMake (F : Fn) : Tm := fun m H Q X => ∀ x d, H x = none → H d = none → x ≠ d → F [.ref x] ((H.put d (.attrs [])).put x (.inst d)) (fun v H' => v = .none ∧ Q (.ref x) H') X
theorem sE_make {f : Str} {fI : Addr} {p pos : Pos} {F : Fn} (EL : EnvL S K) (CL : Cls S K) (hF : SoundF S b d (.ref fI) F) (hx : sc f = some .globalImplicit) (hv : S.mg f = some (.ref S.book)) (hd : (f == ("__debug__" : Str)) = false)
    (hi : findIn K (.ref S.book) "__init__" = some (some (.ref fI))) (hf : typeIn K (.ref fI) = some (.type "function")) : SoundE S b (d + 1) sc ρ (.Call (.Name f p) [] [] pos) (tMake F) := by
  intro C A env m H Q X E s R O hk V I h hE
  refine wpAny_Call_NameR (load_global EL.KS O I ((hk f).trans hx) hv hd ?_)
  refine callWith_of (P := fun h => K.In h) rfl (fun h X => keeps_K CL.keep h X) (PySem.evalArgs_none ⟨EL.X.keeps I.base, ?_⟩)
  refine wpAny_call ?_
  obtain ⟨hh, g, dr, t, os⟩ := s
  refine make_core (makes_of (EL.X.keeps I.base) CL.makes) (looks_findIn (EL.X.keeps I.base) hi) (fun self => bind_fn (EL.X.keeps I.base) self hf) (.inl rfl) ?_
  have n0 : hh.get? hh.objs.size = none := Heap.get?_none_of_le (Nat.le_refl _)
  have I1 : Inv S C (H.put hh.objs.size (.attrs [])) ⟨hh.push emptyDict, g, dr, t, os⟩ := I.add (s' := ⟨hh.push emptyDict, g, dr, t, os⟩) n0 (fun b o e => Heap.get?_push_of_some _ e) ⟨#[], 0, Heap.get?_push_size _ rfl, .nil⟩ rfl rfl
  have n1 : (hh.push emptyDict).get? (hh.objs.size + 1) = none := Heap.get?_none_of_le (by rw [Heap.size_push]; exact Nat.le_refl _)
  have I2 : Inv S C ((H.put hh.objs.size (.attrs [])).put (hh.objs.size + 1) (.inst hh.objs.size)) ⟨(hh.push emptyDict).push (instObj S.book hh.objs.size), g, dr, t, os⟩ := by
    refine I1.add (s' := ⟨(hh.push emptyDict).push (instObj S.book hh.objs.size), g, dr, t, os⟩) n1 (fun b o e => Heap.get?_push_of_some _ e) ?_ rfl rfl
    show ((hh.push emptyDict).push (instObj S.book hh.objs.size)).get? (hh.objs.size + 1) = some _
    have := Heap.get?_push_size (hh.push emptyDict) (o := instObj S.book hh.objs.size) rfl
    rw [Heap.size_push] at this; exact this
  have w1 : Code.weight (.builtin "type.__call__" ⟨[.ref S.book], []⟩) = 1 := by kernel_rfl
  have w2 : Code.cUnits (.builtin "type.__call__" ⟨[.ref S.book], []⟩) = 1 := by kernel_rfl
  have w3 : Code.envs (.builtin "type.__call__" ⟨[.ref S.book], []⟩) = [] := by kernel_rfl
  have q := h (hh.objs.size + 1) hh.objs.size ((Inv.fresh I (Heap.get?_none_of_le (Nat.le_succ _))).1) (I.fresh n0).1 (Nat.succ_ne_self _)
  refine codeAny_mono (hF C (A.under (.builtin "type.__call__" ⟨[.ref S.book], []⟩)) [.ref (hh.objs.size + 1)] [.ref (hh.objs.size + 1)] _ _ X _ ⟨fun e => R.hd e, ?_, ?_⟩ ⟨?_, O.fun_⟩ (.cons (.ref _) .nil) I2 q) ?_
  · have := R.depth
    show A.depth + Code.weight _ + 8 * d ≤ 600
    rw [w1]; omega
  · have := R.units
    show A.units + Code.cUnits _ + 100 * d ≤ 9000
    rw [w2]; omega
  · unfold Around.under
    dsimp only
    rw [w3, O.stack]; rfl
  intro r s3 hr
  cases r with
  | error e => obtain ⟨x, H3, hx, hr⟩ := hr; exact hE x H3 e s3 hx hr
  | ok fl =>
    cases fl with
    | ret v =>
      obtain ⟨av, H3, r3, I3, e3, q3⟩ := hr
      subst e3
      cases r3
      exact ⟨rfl, ⟨_, H3, .ref _, I3, q3⟩⟩
    | _ => exact hr.elim
end
end Mine
end
-- text C2
section
set_option autoImplicit false
set_option linter.unusedVariables false
open PySem PySem.Calls PyProof.Rows PySem.W
namespace Mine
section
variable {S : St} {b : Bool} {d : Nat} {sc : Kd} {ρ : Rho} {K : Frag}
inductive AttrSetK (attr : Str) (v x : AV) (H : AH) (Q : AH → Prop) : Prop
  | mk (a d : Addr) (es : List (Str × AV)) : x = .ref a → H a = some (.inst d) → H d = some (.attrs es) → es.length < 900 → Q (H.put d (.attrs (putA es attr v))) → AttrSetK attr v x H Q
noncomputable def tAttrSet (attr : Str) (o t : Tm) : Ts := fun m H QN _ X => t m H (fun v H1 => o m H1 (fun x H2 => AttrSetK attr v x H2 (QN m)) X) X
theorem osa_mine {C : Cx} {A : Around} {H : AH} {s : Shared} {a dd : Addr} {es : List (Str × AV)} {attr : Str} {tk : Tok} {v : Value} {av : AV} {R : Result → Shared → Prop} (EL : EnvL S K) (CL : Cls S K) (I : Inv S C H s) (hn : findIn K (.ref S.book) attr = some none)
    (ha : H a = some (.inst dd)) (hd : H dd = some (.attrs es)) (hl : es.length < 900) (r : VR v av) (hQ : ∀ s', Inv S C (H.put dd (.attrs (putA es attr av))) s' → R (.ok (.ret .none)) s') :
    codeAny S.M A (.call (.builtin "object.__setattr__") ⟨[.ref a, .str attr tk, v], []⟩) R s := by
  obtain ⟨od, des, n, IA, D, rfl, kv⟩ := I.inst ha hd
  have X := EL.X.keeps I.base
  refine osa_open X IA CL.over (show takerIn K S.book attr = some none from by unfold takerIn; rw [hn]; rfl) fun b => ?_
  obtain ⟨cd, hc, hd'⟩ := any_some CL.dict
  have hx := IA.at_
  refine wpAny_bind (wpAny_pure (wpAny_bind (wpAny_bind (wpAny_loadPart hx (wpAny_bind ((looks_clsIn X hc).here ?_))))))
  rw [hd']
  refine wpAny_pure (a := some dd) (wpAny_bind (wpAny_pure (wpAny_bind ?_)))
  unfold nsSet
  refine wpAny_bind (wpAny_bind (wpAny_askSetting (wpAny_pure (wpAny_bind (wpAny_mkText (wpAny_bind (wpAny_loadPart D ?_)))))))
  have c : (!des.any (·.key.isStr attr) && des.any (·.refKey)) = false := by
    have z : des.any (·.refKey) = false := by rw [← Array.any_toList]; exact kvs_ref kv
    rw [z, Bool.and_false]
  dsimp only
  rw [aRefKeyMayBeTheName_at, c]
  refine wpAny_updatePart D ?_
  have e := putName_eq attr (PyData.keyHash S.w.params attr) (.str attr s.toks) v (.type "dict") none des.toList n #[]
  have kv' := kvs_put kv (name := attr) (h := PyData.keyHash S.w.params attr) (t := s.toks) r
  have len := kvs_len kv'
  have len2 := putA_len es attr av
  generalize hD : putIn (·.key.isStr attr) (fun e => { e with val := v }) ⟨PyData.keyHash S.w.params attr, .str attr s.toks, v⟩ des.toList = des' at e kv' len
  rw [Array.toArray_toList] at e
  have D' := Heap.get?_update_self (Obj.putName attr (PyData.keyHash S.w.params attr) (.str attr s.toks) v) D (by rw [e]; rfl)
  rw [e] at D'
  refine wpAny_bind (wpAny_lookBehind D' (pastItsLine_dict (by rw [List.size_toArray, sizeLine_eq]; omega)) ?_)
  refine wpAny_pure (hQ _ ?_)
  exact I.set (s' := { s with heap := s.heap.update dd _, toks := _ }) hd rfl (fun b ob nb e => (Heap.get?_update_other _ _ (Ne.symm nb)).trans e) ⟨des'.toArray, _, D', kv'⟩ rfl rfl
theorem set_attr {C : Cx} {A : Around} {H : AH} {s : Shared} {E : Value → Shared → Prop} {a dd : Addr} {es : List (Str × AV)} {attr : Str} {v : Value} {av : AV} {Q : Unit → Shared → Prop} (EL : EnvL S K) (CL : Cls S K) (I : Inv S C H s) (hn : findIn K (.ref S.book) attr = some none)
    (ha : H a = some (.inst dd)) (hd : H dd = some (.attrs es)) (hl : es.length < 900) (r : VR v av) (hQ : ∀ s', Inv S C (H.put dd (.attrs (putA es attr av))) s' → Q () s') : wpAny S.M A (setAttr (.ref a) attr v) Q E s := by
  obtain ⟨od, des, n, IA, D, rfl, kv⟩ := I.inst ha hd
  exact set_plain (EL.X.keeps I.base) IA CL.sa (osa_mine EL CL (I.toks _) hn ha hd hl r hQ)
theorem sT_attrSet {x attr : Str} {xp ap pos : Pos} {e : Expr} {o t : Tm} (EL : EnvL S K) (CL : Cls S K) (h0 : SoundE S b d sc ρ (.Name x xp) o) (h1 : SoundE S b d sc ρ e t) (hn : findIn K (.ref S.book) attr = some none)
    (hs : ∀ env, swapsWith e (some (.Attribute (.Name x xp) attr ap)) pos.line env = pure false) : SoundT S b d sc ρ (.Assign [.Attribute (.Name x xp) attr ap] e pos) (tAttrSet attr o t) := by
  intro C A env m H QN QR X E s R O hc hk' V I h hE
  refine plainObj_wpAny_Assign_Attribute (wpAny_mono (h1 C A env m H _ X E s R O hk' V I h (hE.ex O)) ?_ fun _ _ x => x) (hs env)
  rintro v s1 ⟨av, H1, r1, I1, q1⟩
  refine wpAny_mono (h0 C A env m H1 _ X E s1 R O hk' V I1 q1 (hE.ex O)) ?_ fun _ _ x => x
  rintro ov s2 ⟨x, H2, r2, I2, a, dd, es, rfl, ha, hd, hl, q2⟩
  cases r2
  exact set_attr EL CL I2 hn ha hd hl r1 fun s3 I3 => ⟨C, _, .refl env C, I3, m, O, V, q2⟩
noncomputable def tDict0 : Tm := fun m H Q X => ∀ r, H r = none → Q (.ref r) (H.put r (.idict []))
theorem sE_dict0 {pos : Pos} : SoundE S b d sc ρ (.Dict [] [] pos) tDict0 := by
  intro C A env m H Q X E s R O hk V I h hE
  have n0 : s.heap.get? s.heap.objs.size = none := Heap.get?_none_of_le (Nat.le_refl _)
  refine wpAny_Dict_empty ⟨_, _, .ref _, ?_, h _ (I.fresh n0).1⟩
  refine I.add (s' := { s with heap := s.heap.push { cls := .type "dict", data := .dict #[] } }) (o := .idict []) n0 (fun b o e => Heap.get?_push_of_some _ e) ?_ rfl rfl
  obtain ⟨ep, D⟩ := (Heap.DictOf.new (knd := intKind S.prog S.w) s.heap).dictAt
  exact ⟨[], ep, D, .nil, Nat.zero_le _⟩
noncomputable def storedA {K : Type} [DecidableEq K] (es : List (K × AV)) (k : K) (v : AV) : List (K × AV) := if es.any (fun p => p.1 = k) then es.map (fun p => if p.1 = k then (p.1, v) else p) else es ++ [(k, v)]
theorem PRs.append {K : Type} {kvs kws : List (K × Value)} {es fs : List (K × AV)} (h : PRs kvs es) (k : PRs kws fs) : PRs (kvs ++ kws) (es ++ fs) := by
  induction h with
  | nil => exact k
  | cons r _ ih => exact .cons r ih
theorem PRs.any {K : Type} [DecidableEq K] {kvs : List (K × Value)} {es : List (K × AV)} (h : PRs kvs es) (k : K) : (kvs.any fun p => decide (p.1 = k)) = es.any fun p => decide (p.1 = k) := by
  induction h with
  | nil => rfl
  | cons r _ ih => rw [List.any_cons, List.any_cons, ih]
theorem PRs.stored {K : Type} [DecidableEq K] {kvs : List (K × Value)} {es : List (K × AV)} (h : PRs kvs es) (k : K) {v : Value} {a : AV} (r : VR v a) : PRs (stored kvs k v) (storedA es k a) := by
  unfold PySem.stored storedA
  rw [h.any k]
  cases es.any (fun p => decide (p.1 = k)) with
  | false => exact h.append (.cons r .nil)
  | true =>
    rw [if_pos rfl, if_pos rfl]
    induction h with
    | nil => exact .nil
    | @cons j v0 a0 vs as r0 _ ih =>
      rw [List.map_cons, List.map_cons]
      by_cases e : j = k
      · rw [if_pos e, if_pos e]; exact .cons r ih
      · rw [if_neg e, if_neg e]; exact .cons r0 ih
theorem storedA_len {K : Type} [DecidableEq K] (es : List (K × AV)) (k : K) (v : AV) : (storedA es k v).length ≤ es.length + 1 := by
  unfold storedA
  split <;> simp
theorem PRs.len {K : Type} {kvs : List (K × Value)} {es : List (K × AV)} (h : PRs kvs es) : kvs.length = es.length := by
  induction h with
  | nil => rfl
  | cons _ _ ih => simp [ih]
inductive SubSetK (v x i : AV) (H : AH) (Q : AH → Prop) : Prop
  | idict (a : Addr) (es : List (Int × AV)) (k : Int) : x = .ref a → i = .int k → H a = some (.idict es) → es.length < sizeLine → Q (H.put a (.idict (storedA es k v))) → SubSetK v x i H Q
noncomputable def tSubSet (o i t : Tm) : Ts := fun m H QN _ X => t m H (fun v H1 => o m H1 (fun x H2 => i m H2 (fun y H3 => SubSetK v x y H3 (QN m)) X) X) X
theorem sT_subSet {o i e : Expr} {p pos : Pos} {to ti te : Tm} (h0 : SoundE S b d sc ρ o to) (h1 : SoundE S b d sc ρ i ti) (h2 : SoundE S b d sc ρ e te)
    (hs : ∀ env, swapsWith e (some (.Subscript o i p)) pos.line env = pure false) : SoundT S b d sc ρ (.Assign [.Subscript o i p] e pos) (tSubSet to ti te) := by
  intro C A env m H QN QR X E s R O hc hk' V I h hE
  refine wpAny_Assign_Subscript (wpAny_mono (h2 C A env m H _ X E s R O hk' V I h (hE.ex O)) ?_ fun _ _ x => x) (hs env)
  rintro v s1 ⟨av, H1, r1, I1, q1⟩
  refine wpAny_mono (h0 C A env m H1 _ X E s1 R O hk' V I1 q1 (hE.ex O)) ?_ fun _ _ x => x
  rintro ov s2 ⟨x, H2, r2, I2, q2⟩
  refine wpAny_mono (h1 C A env m H2 _ X E s2 R O hk' V I2 q2 (hE.ex O)) ?_ fun _ _ x => x
  rintro iv s3 ⟨y, H3, r3, I3, q3⟩
  cases q3 with
  | idict a es k ex ey ha hl q =>
    subst ex; subst ey
    cases r2
    obtain ⟨t, rfl⟩ := r3.int_inv
    obtain ⟨kvs, ep, D, P, hz⟩ := I3.objs _ _ ha
    have e := P.len
    refine wpAny_setItem_pairs (knd := intKind S.prog S.w) (k := k) (by show decide (k = k) = true; simp) D.dictOf (fun h' D' sb => ?_) hz
    obtain ⟨ep', D'⟩ := D'.dictAt
    refine ⟨C, _, .refl env C, ?_, m, O, V, q⟩
    refine I3.set (s' := { s3 with heap := h', toks := s3.toks + 1 }) ha rfl (fun b ob nb e => (sb.2 b nb).trans e) ⟨_, ep', D', P.stored k r1, ?_⟩ rfl rfl
    have := stored_length_le kvs k v
    omega
noncomputable def tNever : Ts := fun _ _ _ _ _ => False
theorem sT_never {st : Stmt} : SoundT S b d sc ρ st tNever := fun C A env m H QN QR X E s _ _ _ _ _ _ h _ => h.elim
noncomputable def tChain (f g : AV → AV → AH → (Bool → AH → Prop) → Prop) (t u v : Tm) : Tb := fun m H Q X => t m H (fun x H1 => u m H1 (fun y H2 => f x y H2 fun c H3 => if c = true then v m H3 (fun z H4 => g y z H4 Q) X else Q false H3) X) X
theorem sB_chain {l r1 r2 : Expr} {op1 op2 : CmpOp} {pos : Pos} {t u v : Tm} {f g : AV → AV → AH → (Bool → AH → Prop) → Prop} (hf : CmpOK S op1 f) (hg : CmpOK S op2 g) (h1 : SoundE S b d sc ρ l t) (h2 : SoundE S b d sc ρ r1 u) (h3 : SoundE S b d sc ρ r2 v)
    (hm : lastMarks [op1, op2] [r1, r2] = false) : SoundB S b d sc ρ (.Compare l [op1, op2] [r1, r2] pos) (tChain f g t u v) := by
  intro C A env m H Q X E s R O hk V I h hE
  refine isTrue_chain (wpAny_mono (h1 C A env m H _ X E s R O hk V I h hE) ?_ fun _ _ x => x) hm
  rintro va s1 ⟨a1, H1, q1, I1, p1⟩
  refine test_link (wpAny_mono (h2 C A env m H1 _ X E s1 R O hk V I1 p1 hE) ?_ fun _ _ x => x)
  rintro vb s2 ⟨a2, H2, q2, I2, p2⟩
  refine wpAny_mono (hf C A va vb a1 a2 H2 _ E s2 R.u q1 q2 I2 p2) ?_ fun _ _ x => x
  rintro vc s3 ⟨c, rfl, H3, I3, p3⟩
  refine wpAny_truthy_bool ?_
  cases c with
  | false => exact ⟨H3, I3, p3⟩
  | true =>
    rw [if_pos rfl] at p3 ⊢
    refine wpAny_bind (wpAny_holding (wpAny_mono (h3 C A env m H3 _ X E s3 R O hk V I3 p3 hE) ?_ fun _ _ x => x))
    rintro vd s4 ⟨a4, H4, q4, I4, p4⟩
    refine wpAny_bind (wpAny_standAt (wpAny_bind (wpAny_operate' (wpAny_mono (hg C A vb vd a2 a4 H4 _ E s4 R.u q2 q4 I4 p4) ?_ fun _ _ x => x))))
    rintro ve s5 ⟨c, rfl, H5, I5, p5⟩
    exact wpAny_holding (wpAny_truthy_bool ⟨H5, I5, p5⟩)
end
end Mine
end
-- text C3
section
set_option autoImplicit false
set_option linter.unusedVariables false
open PySem PySem.Calls PyProof.Rows PySem.W
namespace Mine
section
variable {S : St} {b : Bool} {d : Nat} {sc : Kd} {ρ : Rho} {K : Frag}
noncomputable def tExprA (t : Tm) : Ts := fun m H QN _ X => t m H (fun _ H1 => QN m H1) X
theorem sT_exprA {e : Expr} {pos : Pos} {t : Tm} (h1 : SoundE S b d sc ρ e t) (hs : ∀ env, swapsWith e none pos.line env = pure false) : SoundT S b d sc ρ (.Expr e pos) (tExprA t) := by
  intro C A env m H QN QR X E s R O hc hk' V I h hE
  have hi : interactive env = false := by unfold interactive; rw [O.kind]; rfl
  rw [exec_Expr env e pos hi (hs env)]
  refine wpAny_bind (wpAny_standAt (wpAny_bind (wpAny_mono (h1 C A env m H _ X E s R O hk' V I h (hE.ex O)) ?_ fun _ _ x => x)))
  rintro v s1 ⟨av, H1, r1, I1, q1⟩
  have fin : PostS S C A env ρ QN QR .next s1 := ⟨C, H1, .refl env C, I1, m, O, V, q1⟩
  unfold dropValue
  split
  · exact wpAny_pure fin
  · refine wpAny_bind (wpAny_standAt (wpAny_bind (runValue_entry entry_let_go ?_)))
    exact wpAny_pure ⟨.none, rfl, wpAny_pure fin⟩
  · exact wpAny_pure fin
inductive InDK (x y : AV) (H : AH) (Q : Bool → Prop) : Prop
  | mk (a : Addr) (k : Int) (es : List (Int × AV)) : x = .int k → y = .ref a → H a = some (.idict es) → Q (es.lookup k).isSome → InDK x y H Q
noncomputable def aNotInD (x y : AV) (H : AH) (Q : Bool → AH → Prop) : Prop := InDK x y H fun c => Q (!c) H
theorem PRs.has {K : Type} [DecidableEq K] {kvs : List (K × Value)} {es : List (K × AV)} (h : PRs kvs es) (k : K) : (kvs.lookup k).isSome = (es.lookup k).isSome := by
  induction h with
  | nil => rfl
  | @cons j v a vs as r _ ih =>
    rw [List.lookup_cons, List.lookup_cons]
    cases k == j <;> first | exact ih | rfl
theorem no_sys (K : StOK S) {C : Cx} {H : AH} {s : Shared} (I : Inv S C H s) {a : Addr} {es : List (Int × AV)} (ha : H a = some (.idict es)) : (a == sysModules) = false := by
  obtain ⟨o, ho⟩ := K.sys
  have := (I.sepH a _ ha).2 rfl
  by_cases q : a = sysModules
  · rw [q, ho] at this; cases this
  · simpa using q
theorem cmp_notInD (K : StOK S) : CmpOK S .NotIn aNotInD := by
  rintro C A va vb x y H Q E s hu r1 r2 I ⟨a, k, es, rfl, rfl, ha, h⟩
  obtain ⟨t, rfl⟩ := r1.int_inv
  cases r2
  obtain ⟨kvs, ep, D, P, hz⟩ := I.objs _ _ ha
  refine wpAny_notIn_of (k := k) (by simp [intKind, Value.isInt]) (no_sys K I ha) D.dictOf.mapOf ⟨_, rfl, H, I.toks _, ?_⟩
  rw [valueAt_lookup, P.has]; exact h
noncomputable def woA (es : List (Int × AV)) (k : Int) : List (Int × AV) := es.filter fun p => decide (p.1 ≠ k)
theorem PRs.without {kvs : List (Int × Value)} {es : List (Int × AV)} (h : PRs kvs es) (k : Int) : PRs (without kvs k) (woA es k) := by
  induction h with
  | nil => exact .nil
  | @cons j v a vs as r _ ih =>
    unfold PySem.without woA at *
    rw [List.filter_cons, List.filter_cons]
    by_cases q : j = k
    · simp only [q, ne_eq, not_true, decide_false]; exact ih
    · simp only [q, ne_eq, not_false_iff, decide_true, if_true]; exact .cons r ih
inductive bPopK (vs : List AV) (H : AH) (Q : QV) : Prop
  | mk (a : Addr) (k : Int) (es : List (Int × AV)) (v : AV) : vs = [.ref a, .int k] → H a = some (.idict es) → es.lookup k = some v → Q v (H.put a (.idict (woA es k))) → bPopK vs H Q
noncomputable def bPop : BFn := fun vs H Q => bPopK vs H Q
theorem bPop_ok : BFnOK S b (.builtin "dict.pop") bPop := by
  rintro C A vs avs H Q E s hh hu r I ⟨a, k, es, v, rfl, ha, hv, h⟩
  obtain ⟨_, w, rfl, r1, r2⟩ := r.two
  cases r1.ref_inv
  obtain ⟨t, rfl⟩ := r2.int_inv
  obtain ⟨kvs, ep, D, P, hz⟩ := I.objs _ _ ha
  obtain ⟨w, hw, rw_⟩ := P.lookup hv
  have hw' : valueAt kvs k = some w := (valueAt_lookup kvs k).trans hw
  refine call_meetsIn PySem.F.slot_dict_pop D.dictOf.mapOf.typeIs PySem.F.entry_dict_pop (PySem.F.args_dict_pop_2 _ _) (meets_dict_pop_there (k := k) (intKind S.prog S.w) a (show (intKind S.prog S.w).is k (.int k t) = true by simp [intKind, Value.isInt]) [] (.inl rfl) rfl) ⟨kvs, w, D.dictOf, hz, hw', fun h' D' sb => ?_⟩
  obtain ⟨ep', D'⟩ := D'.dictAt
  refine ⟨v, _, rw_, ?_, h⟩
  refine I.set (s' := { s with heap := h', toks := s.toks + 1 }) ha rfl (fun b ob nb e => (sb.2 b nb).trans e) ⟨_, ep', D', P.without k, Nat.le_trans (List.length_filter_le _ _) hz⟩ rfl rfl
theorem meth_pop : BMeth "dict" "pop" "dict.pop" := ⟨PySem.F.plainAttrs_dict, PySem.F.slot_dict_pop, rfl⟩
end
end Mine
end
-- text C4
section
set_option autoImplicit false
set_option linter.unusedVariables false
open PySem PySem.Calls PyProof.Rows PySem.W
namespace Mine
section
variable {S : St} {b : Bool} {d : Nat} {sc : Kd} {ρ : Rho} {K : Frag}
noncomputable def tDictS0 : Tm := fun m H Q X => ∀ r, H r = none → Q (.ref r) (H.put r (.sdict []))
theorem sE_dictS0 {pos : Pos} : SoundE S b d sc ρ (.Dict [] [] pos) tDictS0 := by
  intro C A env m H Q X E s R O hk V I h hE
  have n0 : s.heap.get? s.heap.objs.size = none := Heap.get?_none_of_le (Nat.le_refl _)
  refine wpAny_Dict_empty ⟨_, _, .ref _, ?_, h _ (I.fresh n0).1⟩
  refine I.add (s' := { s with heap := s.heap.push { cls := .type "dict", data := .dict #[] } }) (o := .sdict []) n0 (fun b o e => Heap.get?_push_of_some _ e) ?_ rfl rfl
  obtain ⟨ep, D⟩ := (Heap.DictOf.new (knd := strKind S.prog S.w) s.heap).dictAt
  exact ⟨[], ep, D, .nil, fun p hp => (nomatch hp), Nat.zero_le _⟩
theorem stored_ok {kvs : List (Str × Value)} {k : Str} {v : Value} (h : ∀ p ∈ kvs, PyData.strOk p.1 = true) (hk : PyData.strOk k = true) : ∀ p ∈ stored kvs k v, PyData.strOk p.1 = true := by
  intro p hp
  unfold PySem.stored at hp
  split at hp
  · obtain ⟨q, hq, rfl⟩ := List.mem_map.mp hp
    by_cases e : q.1 = k
    · rw [if_pos e]; exact h q hq
    · rw [if_neg e]; exact h q hq
  · rcases List.mem_append.mp hp with hp | hp
    · exact h p hp
    · rw [show p = (k, v) by simpa using hp]; exact hk
inductive SubSetSK (v x i : AV) (H : AH) (Q : AH → Prop) : Prop
  | mk (a : Addr) (es : List (Str × AV)) (k : Str) : x = .ref a → i = .str k → H a = some (.sdict es) → es.length < sizeLine → Q (H.put a (.sdict (storedA es k v))) → SubSetSK v x i H Q
noncomputable def tSubSetS (o i t : Tm) : Ts := fun m H QN _ X => t m H (fun v H1 => o m H1 (fun x H2 => i m H2 (fun y H3 => SubSetSK v x y H3 (QN m)) X) X) X
theorem sT_subSetS {o i e : Expr} {p pos : Pos} {to ti te : Tm} (h0 : SoundE S b d sc ρ o to) (h1 : SoundE S b d sc ρ i ti) (h2 : SoundE S b d sc ρ e te)
    (hs : ∀ env, swapsWith e (some (.Subscript o i p)) pos.line env = pure false) : SoundT S b d sc ρ (.Assign [.Subscript o i p] e pos) (tSubSetS to ti te) := by
  intro C A env m H QN QR X E s R O hc hk' V I h hE
  refine wpAny_Assign_Subscript (wpAny_mono (h2 C A env m H _ X E s R O hk' V I h (hE.ex O)) ?_ fun _ _ x => x) (hs env)
  rintro v s1 ⟨av, H1, r1, I1, q1⟩
  refine wpAny_mono (h0 C A env m H1 _ X E s1 R O hk' V I1 q1 (hE.ex O)) ?_ fun _ _ x => x
  rintro ov s2 ⟨x, H2, r2, I2, q2⟩
  refine wpAny_mono (h1 C A env m H2 _ X E s2 R O hk' V I2 q2 (hE.ex O)) ?_ fun _ _ x => x
  rintro iv s3 ⟨y, H3, r3, I3, q3⟩
  cases q3 with
  | mk a es k ex ey ha hl q =>
    subst ex; subst ey
    cases r2
    cases r3 with
    | str _ t ok =>
      obtain ⟨kvs, ep, D, P, oks, hz⟩ := I3.objs _ _ ha
      have e := P.len
      refine wpAny_setItem_pairs (knd := strKind S.prog S.w) (k := k) (strKind_is _ _ k t) D.dictOf (fun h' D' sb => ?_) hz
      obtain ⟨ep', D'⟩ := D'.dictAt
      refine ⟨C, _, .refl env C, ?_, m, O, V, q⟩
      refine I3.set (s' := { s3 with heap := h', toks := s3.toks + 1 }) ha rfl (fun b ob nb e => (sb.2 b nb).trans e) ⟨_, ep', D', P.stored k r1, stored_ok oks ok, ?_⟩ rfl rfl
      have := stored_length_le kvs k v
      omega
inductive bListSK (vs : List AV) (H : AH) (Q : QV) : Prop
  | mk (a : Addr) (es : List (Str × AV)) : vs = [.ref a] → H a = some (.sdict es) → (∀ r, H r = none → Q (.ref r) (H.put r (.list ((es.map (·.1)).map AV.str)))) → bListSK vs H Q
noncomputable def bListS : BFn := fun vs H Q => bListSK vs H Q
theorem PRs.keys {K : Type} {kvs : List (K × Value)} {es : List (K × AV)} (h : PRs kvs es) : kvs.map (·.1) = es.map (·.1) := by
  induction h with
  | nil => rfl
  | cons _ _ ih => simp only [List.map_cons]; rw [ih]
theorem vrs_keys : ∀ {kvs : List (Str × Value)} {vs : List Value}, (∀ p ∈ kvs, PyData.strOk p.1 = true) → vs.length = kvs.length → (∀ (j : Nat) (v : Value), vs[j]? = some v → ∃ k x, kvs[j]? = some (k, x) ∧ ∃ t : Tok, v = Value.str k t) → VRs vs ((kvs.map (·.1)).map AV.str)
  | [], [], _, _, _ => .nil
  | q :: r, v :: vs, ok, hl, hv => by
    obtain ⟨k, x, e, t, rfl⟩ := hv 0 v rfl
    simp only [List.getElem?_cons_zero, Option.some.injEq] at e
    subst e
    exact .cons (.str _ _ (ok _ (.head _))) (vrs_keys (fun p hp => ok p (.tail _ hp)) (by simpa using hl) fun j u hu => by simpa using hv (j + 1) u (by simpa using hu))
  | [], _ :: _, _, hl, _ => by simp at hl
  | _ :: _, [], _, hl, _ => by simp at hl
theorem bListS_ok (K : StOK S) : BFnOK S true (.type "list") bListS := by
  rintro C A vs avs H Q E s hh hu r I ⟨a, es, rfl, ha, h⟩
  obtain ⟨_, rfl, r0⟩ := r.one
  cases r0.ref_inv
  obtain ⟨kvs, ep, D, P, oks, hz⟩ := I.objs _ _ ha
  have lo : (a == sysModules) = false := by
    obtain ⟨o, ho⟩ := K.sys
    have := (I.sepH a _ ha).2 rfl
    by_cases q : a = sysModules
    · rw [q, ho] at this; cases this
    · simpa using q
  refine kdl_call (kdl_dict lo) (hh rfl) D hz fun h' tk acc' c' hk hg hacc => ?_
  have hr := vrs_keys (vs := acc'.toList) oks (by rw [Array.length_toList]; exact hacc.1) fun j v e => by
    obtain ⟨k, x, hx, hk⟩ := hacc.2 j v (by rw [← Array.getElem?_toList]; exact e)
    exact ⟨k, x, hx, Value.isStrOf_shape hk⟩
  rw [P.keys] at hr
  exact ⟨_, _, .ref _, I.add (s' := { s with heap := h', toks := tk }) (o := .list ((es.map (·.1)).map AV.str)) (Heap.get?_none_of_le (Nat.le_refl _)) hk ⟨acc'.toList, c', by rw [hg], hr, by rw [Array.length_toList, hacc.1]; exact hz⟩ rfl rfl, h _ I.nextNone⟩
end
end Mine
end
-- text C5
section
set_option autoImplicit false
set_option linter.unusedVariables false
open PySem PySem.Calls PyProof.Rows PySem.W
namespace Mine
section
variable {S : St} {b : Bool} {d : Nat} {sc : Kd} {ρ : Rho} {K : Frag}
noncomputable def aSame : AV → AV → AH → (Bool → AH → Prop) → Prop
  | .none, .none, H, Q => Q true H
  | .none, .bool _, H, Q => Q false H
  | .bool c, .bool e, H, Q => Q (c == e) H
  | .bool _, .none, H, Q => Q false H
  | .int _, .none, H, Q => Q false H
  | .int _, .bool _, H, Q => Q false H
  | .ref _, .none, H, Q => Q false H
  | .ref _, .bool _, H, Q => Q false H
  | _, _, _, _ => False
theorem same_bool (c e : Bool) : (Value.bool c == Value.bool e) = (c == e) := by cases c <;> cases e <;> rfl
theorem cmp_is : CmpOK S .Is aSame := by
  intro C A va vb x y H Q E s hu r1 r2 I h
  show wpAny _ _ (isSame va vb >>= fun c => pure (Value.bool c)) _ _ _
  cases r1 <;> cases r2 <;> first
    | exact h.elim
    | exact wpAny_bind (wpAny_pure (wpAny_pure ⟨_, rfl, H, I, h⟩))
    | (rename_i c e; exact wpAny_bind (wpAny_pure (wpAny_pure ⟨_, rfl, H, I, by rw [same_bool]; exact h⟩)))
end
end Mine
end
-- text C6
section
set_option autoImplicit false
set_option linter.unusedVariables false
namespace Mine
open PySem PyProof.Rows PySem.AutoSeq1
section
variable {prog : Program} {w : World} {A : Around} {E : Value → Shared → Prop} {s : Shared}
end
section
variable {S : St}
end
end Mine
end
-- text C7
section
set_option autoImplicit false
set_option linter.unusedVariables false
namespace Mine
open PySem PySem.Calls PyProof.Rows
section
variable {S : St} {b : Bool} {d : Nat} {sc : Kd} {ρ : Rho}
theorem VRs.set {vs : List Value} {as : List AV} (h : VRs vs as) {v : Value} {a : AV} (r : VR v a) : ∀ k : Nat, VRs (vs.set k v) (as.set k a) := by
  induction h with
  | nil => intro k; exact .nil
  | cons x q ih =>
    intro k
    cases k with
    | zero => exact .cons r q
    | succ k => exact .cons x (ih k)
theorem setItem_exact {prog : Program} {w : World} {A : Around} {E : Value → Shared → Prop} {s : Shared} {l : Addr} {items : Array Value} {n : Nat} {k : Int} {t : Tok} {v : Value} {Q : Unit → Shared → Prop} (ho : s.heap.get? l = some { cls := .type "list", data := .seq items n })
    (h0 : 0 ≤ k) (hfit : k < 2 ^ 63) (hn : k < items.size)
    (hQ : ∀ h', h'.get? l = some { cls := .type "list", data := .seq (items.setIfInBounds k.toNat v) n } → Heap.SameBut l s.heap h' → Q () { s with heap := h' }) :
    wpAny (model prog w) A (setItem (.ref l) (.int k t) v) Q E s := by
  have hl : s.heap.IsList l items := ⟨_, ho, rfl, n, rfl⟩
  unfold setItem
  try with_reducible refine wpAny_holding ?_
  first | refine wpAny_bind (wpAny_pure ?_) | skip
  refine wpAny_bind (wpAny_sequenceKey hl.typeIs (by decide) ?_)
  refine wpAny_bind (wpAny_callSpecial?_slot (name := Str.ofString "__setitem__") hl.typeIs slot_list_setitem
    (wpAny_call_entry slot_list_setitem hl.typeIs entry_list_setitem ?_ (args_list_setitem _ _ _)))
  show wpAny _ _ (Builtin.List.listSubscript? (.int k t) >>= _) _ _ s
  refine wpAny_bind (wpAny_listSubscript_int (fitsIndex_of h0 hfit) ?_)
  clear hfit
  obtain ⟨j, rfl⟩ := Int.eq_ofNat_of_zero_le h0
  have hj : j < items.size := by omega
  have hx' : items[j]? = some items[j] := Array.getElem?_eq_getElem hj
  show wpAny _ _ ((seqItemAt l j >>= fun r => pure (r.map (j, ·))) >>= _) _ _ s
  refine wpAny_bind (wpAny_bind (wpAny_seqItemAt ho rfl (wpAny_pure ?_)))
  rw [hx']
  show wpAny _ _ (setSeqItemAt l j v >>= _) _ _ s
  have e : Obj.mapSeq (·.setIfInBounds j v) { cls := .type "list", data := .seq items n } = { cls := .type "list", data := .seq (items.setIfInBounds j v) n } := by
    simp [Obj.mapSeq]
  have hfin : (s.heap.update l (Obj.mapSeq (·.setIfInBounds j v))).get? l = some { cls := .type "list", data := .seq (items.setIfInBounds j v) n } := by
    rw [Heap.get?_update_self _ ho (by rw [e]; rfl), e]
  refine wpAny_bind (wpAny_setSeqItemAt ho rfl ?_)
  first
    | exact wpAny_bind (wpAny_pure (wpAny_pure ⟨.none, rfl, wpAny_pure (hQ _ hfin (Heap.SameBut.update ..))⟩))
    | exact wpAny_pure ⟨.none, rfl, wpAny_pure (hQ _ hfin (Heap.SameBut.update ..))⟩
inductive SubSetLK (v x i : AV) (H : AH) (Q : AH → Prop) : Prop
  | mk (a : Addr) (xs : List AV) (k : Int) : x = .ref a → i = .int k → H a = some (.list xs) → 0 ≤ k → k < xs.length → Q (H.put a (.list (xs.set k.toNat v))) → SubSetLK v x i H Q
noncomputable def tSubSetL (o i t : Tm) : Ts := fun m H QN _ X => t m H (fun v H1 => o m H1 (fun x H2 => i m H2 (fun y H3 => SubSetLK v x y H3 (QN m)) X) X) X
theorem sT_subSetL {o i e : Expr} {p pos : Pos} {to ti te : Tm} (h0 : SoundE S b d sc ρ o to) (h1 : SoundE S b d sc ρ i ti) (h2 : SoundE S b d sc ρ e te)
    (hs : ∀ env, swapsWith e (some (.Subscript o i p)) pos.line env = pure false) : SoundT S b d sc ρ (.Assign [.Subscript o i p] e pos) (tSubSetL to ti te) := by
  intro C A env m H QN QR X E s R O hc hk' V I h hE
  refine wpAny_Assign_Subscript (wpAny_mono (h2 C A env m H _ X E s R O hk' V I h (hE.ex O)) ?_ fun _ _ x => x) (hs env)
  rintro v s1 ⟨av, H1, r1, I1, q1⟩
  refine wpAny_mono (h0 C A env m H1 _ X E s1 R O hk' V I1 q1 (hE.ex O)) ?_ fun _ _ x => x
  rintro ov s2 ⟨x, H2, r2, I2, q2⟩
  refine wpAny_mono (h1 C A env m H2 _ X E s2 R O hk' V I2 q2 (hE.ex O)) ?_ fun _ _ x => x
  rintro iv s3 ⟨y, H3, r3, I3, a, xs, k, ex, ey, ha, k0, k1, q⟩
  subst ex; subst ey
  cases r2
  obtain ⟨t, rfl⟩ := r3.int_inv
  obtain ⟨ws, n, g, P, hz⟩ := I3.list ha
  have e := P.length
  have hz' : ws.length ≤ 16777216 := hz
  refine setItem_exact g k0 (by lia) (by simp; lia) fun h' g' sb => ?_
  refine ⟨C, _, .refl env C, ?_, m, O, V, q⟩
  refine I3.set (s' := { s3 with heap := h' }) ha rfl (fun b ob nb e => (sb.2 b nb).trans e) ⟨ws.set k.toNat v, n, by simpa using g', P.set r1 _, by simpa using hz⟩ rfl rfl
noncomputable def tAssign3 (i j k : Nat) (t : Tm) : Ts := fun m H QN _ X => t m H (fun v H1 => ∃ a x y z, v = .ref a ∧ H1 a = some (.list [x, y, z]) ∧ QN (((m.upd i x).upd j y).upd k z) H1) X
theorem sT_assign3 {x y z : Str} {i j k : Nat} {px py pz pt pos : Pos} {kt : Nat} {e : Expr} {t : Tm} (h1 : SoundE S true d sc ρ e t) (hρ : RhoOK ρ) (hx : ρ.lookup x = some i) (hy : ρ.lookup y = some j) (hz : ρ.lookup z = some k)
    (kx : sc x = some .local ∨ sc x = some .cell) (ky : sc y = some .local ∨ sc y = some .cell) (kz : sc z = some .local ∨ sc z = some .cell)
    (hs : ∀ env, swapsWithSole [.Tuple [.Name x px, .Name y py, .Name z pz] kt pt] e pos.line env = pure false)
    (hw : ∀ env, swappedStores [.Tuple [.Name x px, .Name y py, .Name z pz] kt pt] e env = pure none) :
    SoundT S true d sc ρ (.Assign [.Tuple [.Name x px, .Name y py, .Name z pz] kt pt] e pos) (tAssign3 i j k t) := by
  intro C A env m H QN QR X E s R O hc hk' V I h hE
  have hh := R.hd rfl
  refine wpAny_Assign_stores (wpAny_mono (h1 C A env m H _ X E s R O hk' V I h (hE.ex O)) ?_ fun _ _ x => x) (hs env) (hw env)
  rintro cv s1 ⟨_, H1, r1, I1, a, vx, vy, vz, rfl, ha, q⟩
  cases r1.ref_inv
  obtain ⟨ws, n, g, P, _⟩ := I1.list ha
  obtain ⟨c1, c2, c3, rfl, w1, w2, w3⟩ : ∃ c1 c2 c3, ws = [c1, c2, c3] ∧ VR c1 vx ∧ VR c2 vy ∧ VR c3 vz := by
    cases P with | cons w1 P =>
    cases P with | cons w2 P =>
    cases P with | cons w3 P =>
    cases P
    exact ⟨_, _, _, rfl, w1, w2, w3⟩
  show wpAny S.M A (assign (.Tuple [.Name x px, .Name y py, .Name z pz] kt pt) env (.ref a)) _ E s1
  rw [arm_assign_Tuple]
  refine wpAny_bind (wpAny_standAt ?_)
  unfold unpack
  refine wpAny_bind (wpAny_holding (PySem.W.kun_itemsOf (items := #[c1, c2, c3]) hh ⟨_, g, rfl, n, rfl⟩ fun h' ext => ?_))
  have I' : Inv S C H1 { s1 with heap := h' } := I1.loose (a := s1.heap.objs.size) ⟨(I1.fresh (Heap.get?_none_of_le (Nat.le_refl _))).2.2, I1.nextNone, (I1.fresh (Heap.get?_none_of_le (Nat.le_refl _))).2.1⟩ (fun b o nb e => ext b o nb e) rfl rfl
  show wpAny S.M A (do holding [c2, c3] (do standAt px; bindName env x c1); assignInOrder [fun v => (do standAt py; bindName env y v), fun v => (do standAt pz; bindName env z v)] [c2, c3]) _ E _
  refine wpAny_bind (wpAny_holding (wpAny_bind (wpAny_standAt (wpAny_mono (store_var O V I' hρ (mem_of_lookup hx) w1 (by rw [hk']; exact kx)) ?_ fun _ _ x => x))))
  rintro _ s2 ⟨C1, a1, o1, u1, e1, O1, V1, J1⟩
  show wpAny S.M A (do holding [c3] (do standAt py; bindName env y c2); assignInOrder [fun v => (do standAt pz; bindName env z v)] [c3]) _ E _
  refine wpAny_bind (wpAny_holding (wpAny_bind (wpAny_standAt (wpAny_mono (store_var O1 V1 J1 hρ (mem_of_lookup hy) w2 (by rw [hk']; exact ky)) ?_ fun _ _ x => x))))
  rintro _ s3 ⟨C2, a2, o2, u2, e2, O2, V2, J2⟩
  show wpAny S.M A (do holding [] (do standAt pz; bindName env z c3); assignInOrder [] []) _ E _
  refine wpAny_bind (wpAny_holding (wpAny_bind (wpAny_standAt (wpAny_mono (store_var O2 V2 J2 hρ (mem_of_lookup hz) w3 (by rw [hk']; exact kz)) ?_ fun _ _ x => x))))
  rintro _ s4 ⟨C3, a3, o3, u3, e3, O3, V3, J3⟩
  exact wpAny_pure ⟨C3, H1, ((FUpd.stored u1 e1).trans (.stored u2 e2)).trans (.stored u3 e3), J3, _, O3, V3, q⟩
end
end Mine
end
-- text C8
section
set_option autoImplicit false
set_option linter.unusedVariables false
namespace Mine
open PySem PySem.Calls PyProof.Rows
inductive CompJ2 (m : Mp) (i j : Nat) (te : Tm) (v : AV) (H1 : AH) (Q : QV) : Prop
  | mk (a : Addr) (xs : List AV) : v = .ref a → H1 a = some (.list xs) → (J : Nat → List AV → AH → Prop) → J 0 [] H1 → (∀ k ys H', J k ys H' → k ≤ xs.length →
    H' a = some (.list xs) ∧ (∀ x, xs[k]? = some x → ∃ T p q, x = .ref T ∧ H' T = some (.tuple [p, q]) ∧ te ((m.upd i p).upd j q) H' (fun y H3 => J (k + 1) (ys ++ [y]) H3) noX) ∧
    (k = xs.length → ∀ a, H' a = none → Q (.ref a) (H'.put a (.list ys)))) → CompJ2 m i j te v H1 Q
noncomputable def tComp2 (t : Tm) (i j : Nat) (te : Tm) : Tm := fun m H Q X => t m H (fun v H1 => CompJ2 m i j te v H1 Q) X
noncomputable def rhoIn2 (scope : Scope) (ρ : Rho) (x y : Str) (i j : Nat) : Rho := (x, i) :: (y, j) :: ρ.filter fun p => scope.names.lookup p.1 == some .free
structure CompAt2 (scope : Scope) (sc : Kd) (ρ : Rho) (x y : Str) (i j : Nat) : Prop where
  fst : CompAt scope sc ρ x i
  var : scope.names.lookup y = some .local ∨ scope.names.lookup y = some .cell
  new : ∀ p ∈ ρ, p.2 ≠ j
  ne : x ≠ y
  nij : i ≠ j
theorem CompAt2.rho2 {scope : Scope} {sc : Kd} {ρ : Rho} {x y : Str} {i j : Nat} (h : CompAt2 scope sc ρ x y i j) : RhoOK (rhoIn2 scope ρ x y i j) := by
  have nx : ∀ p ∈ ρ.filter (fun p => scope.names.lookup p.1 == some .free), p.1 ≠ x ∧ p.2 ≠ i ∧ p.1 ≠ y ∧ p.2 ≠ j := fun p hp => by
    obtain ⟨h1, h2⟩ := List.mem_filter.mp hp
    have h2 : scope.names.lookup p.1 = some .free := by simpa using h2
    refine ⟨fun q => ?_, h.1.new p h1, fun q => ?_, h.new p h1⟩
    · rw [q] at h2
      rcases h.1.var with w | w <;> rw [w] at h2 <;> cases h2
    · rw [q] at h2
      rcases h.var with w | w <;> rw [w] at h2 <;> cases h2
  have n1 := h.ne
  have n2 := h.nij
  intro p hp q hq
  rcases List.mem_cons.mp hp with rfl | hp <;> rcases List.mem_cons.mp hq with rfl | hq
  · simp
  · rcases List.mem_cons.mp hq with rfl | hq
    · simp [n1, n2]
    · have := nx q hq; exact ⟨fun e => absurd e.symm this.1, fun e => absurd e.symm this.2.1⟩
  · rcases List.mem_cons.mp hp with rfl | hp
    · simp [n1.symm, n2.symm]
    · have := nx p hp; exact ⟨fun e => absurd e this.1, fun e => absurd e this.2.1⟩
  · rcases List.mem_cons.mp hp with rfl | hp <;> rcases List.mem_cons.mp hq with rfl | hq
    · simp
    · have := nx q hq; exact ⟨fun e => absurd e.symm this.2.2.1, fun e => absurd e.symm this.2.2.2⟩
    · have := nx p hp; exact ⟨fun e => absurd e this.2.2.1, fun e => absurd e this.2.2.2⟩
    · exact h.1.rho p (List.mem_filter.mp hp).1 q (List.mem_filter.mp hq).1
noncomputable def compAt2 (scope : Scope) (sc : Kd) (ρ : Rho) (x y : Str) (i j : Nat) : Bool :=
  compAt scope sc ρ x i && (scope.names.lookup y == some .local || scope.names.lookup y == some .cell) && (ρ.all fun p => p.2 != j) && x != y && i != j
theorem comp_at2 {scope : Scope} {sc : Kd} {ρ : Rho} {x y : Str} {i j : Nat} (h : compAt2 scope sc ρ x y i j = true) : CompAt2 scope sc ρ x y i j := by
  simp only [compAt2, Bool.and_eq_true, Bool.or_eq_true, beq_iff_eq, List.all_eq_true, bne_iff_ne] at h
  obtain ⟨⟨⟨⟨h1, h2⟩, h3⟩, h4⟩, h5⟩ := h
  exact ⟨comp_at h1, h2, h3, h4, h5⟩
inductive CmpI2 (S : St) (C : Cx) (A : Around) (cenv : Env) (ρ' : Rho) (kd : SK) (v : AV) (xs : List AV) (It D : Addr) (i j : Nat) (m : Mp) (J : Nat → List AV → AH → Prop) (n : Nat) (s' : Shared) : Prop
  | mk (C1 : Cx) (ys : List AV) (vs : List Value) (nD : Nat) (H1 : AH) (o : Obj) (k : Nat) (mk : Mp) : n = xs.length + 1 - k → k ≤ xs.length → C1.fr = C.fr → C1.envs = C.envs → (∀ a o, C.U a = some o → C1.U a = some o) → C1.U It = some o →
      C1.U D = some { cls := .type "list", data := .seq (List.toArray vs) nD } → VRs vs ys → vs.length ≤ k → EnvOK S C1 A cenv → EnvRel C1 cenv ρ' mk → (∀ l, l ≠ i → l ≠ j → mk l = m l) → Inv S C1 H1 s' → ItAt S kd v xs k It s'.heap → J k ys H1 → CmpI2 S C A cenv ρ' kd v xs It D i j m J n s'
set_option maxHeartbeats 4000000 in
theorem comp_core2 {S : St} {d : Nat} {sc : Kd} {ρ : Rho} {elt iter : Expr} {x y : Str} {i j : Nat} {px py pt : Pos} {kt : Nat} {scope : Scope} {pos p0 : Pos} {t te : Tm}
    (h1 : SoundE S true d sc ρ iter t) (h3 : SoundE S true d (relab sc scope.names) (rhoIn2 scope ρ x y i j) elt te) (hc : CompAt2 scope sc ρ x y i j)
    (hs : ∀ env v, foldedSetIterable iter env v = pure v)
    {C : Cx} {A : Around} {env : Env} {m : Mp} {H : AH} {Q : QV} {X : QX} {E : Value → Shared → Prop} {s : Shared} {use : Option (Value → Sem Unit)} {Qc : Value → Shared → Prop}
    (R : Room true d A) (O : EnvOK S C A env) (hk : ∀ x, env.kindOf x = sc x) (V : EnvRel C env ρ m) (I : Inv S C H s) (h : tComp2 t i j te m H Q X) (hE : ExOK S C X E)
    (fin : ∀ D L s', CompFin S C Q D L s' → compPost S.M A E use Qc (.ref D) L (.ok .next) s') :
    wpAny S.M A (comprehension (.ListComp elt [⟨.Tuple [.Name x px, .Name y py] kt pt, iter, [], 0⟩] scope pos) scope env p0 (newList []) false (eval iter env) use) Qc E s := by
  have hh := R.hd rfl
  have hclos := closureFor_eq (env := env) (scope := scope) fun y hy => O.cells y (by rw [hk]; exact hc.1.free _ hy rfl)
  refine wpAny_comprehension_free rfl (hs env) hclos hc.1.kind hc.1.names (wpAny_mono (h1 C A env m H _ X E s R O hk V I h hE) ?_ fun _ _ x => x)
  rintro cv s1 ⟨_, H1, r1, I1, la, xs, rfl, hla, J, j0, jn⟩
  have hi : ItemsK .list H1 (.ref la) xs := hla
  refine iter_start I1 r1 hi fun It oI s2 n2 g2 k2 e2 f2 it2 => ?_
  have hUI := (I1.fresh n2).2.1
  have hlen := items_le I1 hi
  have I2 := I1.hide n2 k2 g2 e2 f2
  have ltI : @LT.lt Nat _ It s2.heap.objs.size := Heap.lt_size g2
  refine wpAny_newObj_type ?_
  refine newCompEnv ?_
  have eD : (s2.heap.push { cls := .type "list", dict := none, data := .seq ([] : List Value).toArray }).objs.size = s2.heap.objs.size + 1 := Heap.size_push ..
  dsimp only
  rw [eD]
  have ok := cellsFrom_ok scope.names ((s2.heap.push { cls := .type "list", dict := none, data := .seq ([] : List Value).toArray }).push { cls := .type "dict", data := .dict #[] }) (s2.heap.objs.size + 2) [] ⟨fun _ _ hm => (nomatch hm), List.Pairwise.nil⟩ (by rw [Heap.size_push, eD]; exact Nat.le_refl _)
  rw [Heap.size_push, eD] at ok
  generalize hh4 : pushCells ((s2.heap.push { cls := .type "list", dict := none, data := .seq ([] : List Value).toArray }).push { cls := .type "dict", data := .dict #[] }) scope.names = h4 at ok ⊢
  have up4 : ∀ b o, ((s2.heap.push { cls := .type "list", dict := none, data := .seq ([] : List Value).toArray }).push { cls := .type "dict", data := .dict #[] }).get? b = some o → h4.get? b = some o := fun b o e => by rw [← hh4]; exact pushCells_keeps _ _ b o e
  have kp4 : ∀ b o, s2.heap.get? b = some o → h4.get? b = some o := fun b o e => up4 b o (Heap.get?_push_of_some _ (Heap.get?_push_of_some _ e))
  have gD : h4.get? s2.heap.objs.size = some { cls := .type "list", data := .seq ([] : List Value).toArray } := up4 _ _ (Heap.get?_push_of_some _ (Heap.get?_push_size _ rfl))
  have gL : h4.get? (s2.heap.objs.size + 1) = some { cls := .type "dict", data := .dict #[] } := by
    have := up4 (s2.heap.push { cls := .type "list", dict := none, data := .seq ([] : List Value).toArray }).objs.size _ (Heap.get?_push_size _ rfl)
    rwa [eD] at this
  have I4 := I2.hideNew (s' := { s2 with heap := h4 }) kp4 rfl rfl
  have hlt : ∀ a o, C.U a = some o → @LT.lt Nat _ a s2.heap.objs.size := fun a o e => by
    obtain ⟨ob, w⟩ := (I1.keep a o e).there
    exact Heap.lt_size (k2 _ _ w)
  generalize hC4 : ({ C.hide It oI with U := fun a => if s2.heap.objs.size ≤ a then h4.get? a else (C.hide It oI).U a } : Cx) = C4 at I4
  have fr4 : C4.fr = C.fr := by rw [← hC4]; rfl
  have en4 : C4.envs = C.envs := by rw [← hC4]; rfl
  have U4n : ∀ a, s2.heap.objs.size ≤ a → C4.U a = h4.get? a := fun a ha => by rw [← hC4]; exact if_pos ha
  have U4o : ∀ a o, C.U a = some o → C4.U a = some o := fun a o e => by
    have lt := hlt a o e
    rw [← hC4]
    show (if s2.heap.objs.size ≤ a then _ else _) = _
    rw [if_neg (Nat.not_le.mpr lt), Cx.hide_ne _ _ fun q => by rw [q, hUI] at e; cases e]; exact e
  have U4I : C4.U It = some oI := by
    rw [← hC4]
    show (if s2.heap.objs.size ≤ It then _ else _) = _
    rw [if_neg (Nat.not_le.mpr ltI)]; exact Cx.hide_self ..
  have newU : ∀ a, s2.heap.objs.size ≤ a → C.U a = none := fun a ha => by
    cases q : C.U a with
    | none => rfl
    | some o => exact absurd (hlt a o q) (Nat.not_lt.mpr ha)
  have frlt : ∀ a, a ∈ C.fr → @LT.lt Nat _ a s2.heap.objs.size := fun a ha => by obtain ⟨o, e⟩ := I.frU a ha; exact hlt a o e
  have hcells : ∀ y c, (cellsFrom (s2.heap.objs.size + 1 + 1) scope.names (closL env scope.names [])).lookup y = some c →
      (s2.heap.objs.size + 2 ≤ c ∧ h4.IsCell c none ∧ (y, c) ∈ cellsFrom (s2.heap.objs.size + 1 + 1) scope.names []) ∨ ((y, NameKind.free) ∈ scope.names ∧ env.cells.lookup y = some c) := fun y c e => by
    rw [cellsFrom_append] at e
    rcases List.mem_append.mp (mem_of_lookup e) with q | q
    · exact .inl ⟨(ok.empty y c q).2, (ok.empty y c q).1, q⟩
    · rcases closL_mem q with w | ⟨w1, w2⟩
      · nomatch w
      · obtain ⟨c', hc'⟩ := O.cells y (by rw [hk]; exact hc.1.free _ w1 rfl)
        rw [hc'] at w2
        exact .inr ⟨w1, by rw [hc', w2]; rfl⟩
  generalize hcenv : ({ scope := relabel scope env, locals := s2.heap.objs.size + 1, globals := env.globals, cells := cellsFrom (s2.heap.objs.size + 1 + 1) scope.names (closL env scope.names []), qual := env.qual, func := none, code := env.code, frame := env.frame, builtins := env.builtins } : Env) = cenv
  have c1 : cenv.locals = s2.heap.objs.size + 1 := by rw [← hcenv]
  have c2 : cenv.cells = cellsFrom (s2.heap.objs.size + 1 + 1) scope.names (closL env scope.names []) := by rw [← hcenv]
  have ckd : ∀ y, cenv.kindOf y = relab sc scope.names y := fun y => by
    rw [← hcenv]; exact relab_eq O.kind hk y
  have cown : ∀ y, scope.names.lookup y = some .cell → ∀ c, cenv.cells.lookup y = some c → s2.heap.objs.size + 2 ≤ c := fun y hy c e => by
    rw [c2] at e
    rcases hcells y c e with q | ⟨q, _⟩
    · exact q.1
    · rw [nodup_lookup hc.1.nodup q] at hy; cases hy
  have O4 : EnvOK S C4 A cenv := by
    refine ⟨by rw [← hcenv]; exact hc.1.kind, by rw [← hcenv]; exact O.glob, by rw [← hcenv]; exact O.blt, fun y hy => ?_, fun y c e => ?_, fun y z c ey ez => ?_, ?_, by rw [en4]; exact O.stack, fun e he => ?_⟩
    · rw [c2]
      refine Option.isSome_iff_exists.mp ?_
      rw [ckd] at hy
      unfold relab at hy
      cases q : scope.names.lookup y with
      | none => rw [q] at hy; simp at hy
      | some k =>
        cases k with
        | cell => exact cellsFrom_mem (.inl q)
        | free => exact cellsFrom_mem (.inr (closL_has (.inl (mem_of_lookup q))))
        | _ => rw [q] at hy; simp at hy
    · rw [c2] at e
      rw [c1, fr4]
      rcases hcells y c e with ⟨q1, ⟨o, q2, q3⟩, _⟩ | ⟨q1, q2⟩
      · refine ⟨by (first | omega | exact Nat.ne_of_lt (by omega) | exact Nat.ne_of_gt (by omega)), fun w => ?_, o, none, (U4n c (by (first | omega | exact Nat.ne_of_lt (by omega) | exact Nat.ne_of_gt (by omega)))).trans q2, q3⟩
        have := frlt c w; (first | omega | exact Nat.ne_of_lt (by omega) | exact Nat.ne_of_gt (by omega))
      · obtain ⟨w1, w2, o, v', w3, w4⟩ := O.cellU y c q2
        have := hlt c o w3
        exact ⟨by (first | omega | exact Nat.ne_of_lt (by omega) | exact Nat.ne_of_gt (by omega)), w2, o, v', U4o c o w3, w4⟩
    · rw [c2] at ey ez
      rcases hcells y c ey with ⟨q1, _, q2⟩ | ⟨q1, q2⟩ <;> rcases hcells z c ez with ⟨w1, _, w2⟩ | ⟨w1, w2⟩
      · exact name_of_addr ok.apart q2 w2
      · obtain ⟨_, _, o, _, w3, _⟩ := O.cellU z c w2; have := hlt c o w3; (first | omega | exact Nat.ne_of_lt (by omega) | exact Nat.ne_of_gt (by omega))
      · obtain ⟨_, _, o, _, w3, _⟩ := O.cellU y c q2; have := hlt c o w3; (first | omega | exact Nat.ne_of_lt (by omega) | exact Nat.ne_of_gt (by omega))
      · exact O.apart y z c q2 w2
    · exact ⟨_, fun _ => none, by rw [c1]; exact (U4n _ (by (first | omega | exact Nat.ne_of_lt (by omega) | exact Nat.ne_of_gt (by omega)))).trans gL, #[], 0, rfl, fun e he => by simp at he, fun _ => rfl⟩
    · rw [en4] at he
      obtain ⟨q1, L, o, q2, q3, q4, q5⟩ := O.fun_ e he
      exact ⟨q1, L, o, q2, by rw [fr4]; exact q3, U4o L o q4, q5⟩
  have V4 : EnvRel C4 cenv (rhoIn2 scope ρ x y i j) (fun l => if l = i ∨ l = j then none else m l) := by
    intro z l w hz hw
    rcases List.mem_cons.mp hz with e | hz
    · cases e; simp at hw
    rcases List.mem_cons.mp hz with e | hz
    · cases e; simp at hw
    · obtain ⟨y1, y2⟩ := List.mem_filter.mp hz
      have y2 : scope.names.lookup z = some .free := by simpa using y2
      have nj : ¬ (l = i ∨ l = j) := fun q => q.elim (hc.1.new _ y1) (hc.new _ y1)
      simp only [if_neg nj] at hw
      obtain ⟨cv', q1, V'⟩ := V z l w y1 hw
      have hsc := hc.1.free _ (mem_of_lookup y2) rfl
      rcases V' with ⟨k1, _⟩ | ⟨_, c, o, k1, k2, k3⟩
      · rw [hk] at k1; rcases hsc with q | q <;> rw [k1] at q <;> cases q
      · refine ⟨cv', q1, .inr ⟨?_, c, o, ?_, U4o c o k2, k3⟩⟩
        · rw [ckd]; unfold relab; rw [y2]
          by_cases q : sc z = some .cell <;> simp [q]
        · obtain ⟨c', hc'⟩ := O4.cells z (by rw [ckd]; unfold relab; rw [y2]; by_cases q : sc z = some .cell <;> simp [q])
          have hc'' := hc'
          rw [c2] at hc'
          rcases hcells z c' hc' with ⟨_, _, q⟩ | ⟨_, q⟩
          · rcases cellsFrom_kind q with w | w
            · nomatch w
            · rw [nodup_lookup hc.1.nodup w] at y2; cases y2
          · rw [q] at k1; cases k1; exact hc''
  have it4 : ItAt S .list (.ref la) xs 0 It h4 := it2.frame fun o e => kp4 _ _ e
  have hvar : cenv.kindOf x = some .local ∨ cenv.kindOf x = some .cell := by
    rw [ckd]; unfold relab
    rcases hc.1.var with q | q <;> rw [q] <;> simp
  have hvar2 : cenv.kindOf y = some .local ∨ cenv.kindOf y = some .cell := by
    rw [ckd]; unfold relab
    rcases hc.var with q | q <;> rw [q] <;> simp
  have newA : ∀ z a5, (scope.names.lookup z = some .local ∨ scope.names.lookup z = some .cell) → ((cenv.kindOf z = some .local ∧ a5 = cenv.locals) ∨ (cenv.kindOf z = some .cell ∧ cenv.cells.lookup z = some a5)) → @LE.le Nat _ (s2.heap.objs.size + 1) a5 := by
    intro z a5 hz w5
    rcases w5 with ⟨_, w⟩ | ⟨w1, w2⟩
    · rw [w, c1]; exact Nat.le_refl _
    · have hcx : scope.names.lookup z = some .cell := by
        rcases hz with q | q
        · rw [ckd] at w1; unfold relab at w1; rw [q] at w1; cases w1
        · exact q
      have := cown z hcx a5 w2; (first | omega | exact Nat.ne_of_lt (by omega) | exact Nat.ne_of_gt (by omega))
  have apI : ∀ {C' : Cx}, C'.fr = C.fr → Apart C' cenv It := fun {C'} e => by
    refine ⟨by rw [c1]; (first | omega | exact Nat.ne_of_lt (by omega) | exact Nat.ne_of_gt (by omega)), fun y q => ?_, fun q => ?_⟩
    · rw [c2] at q
      rcases hcells y It q with ⟨w, _⟩ | ⟨_, w⟩
      · (first | omega | exact Nat.ne_of_lt (by omega) | exact Nat.ne_of_gt (by omega))
      · obtain ⟨_, _, o, _, w3, _⟩ := O.cellU y It w; rw [hUI] at w3; cases w3
    · rw [e] at q; obtain ⟨o, w⟩ := I.frU It q; rw [hUI] at w; cases w
  have apD : ∀ {C' : Cx}, C'.fr = C.fr → Apart C' cenv s2.heap.objs.size := fun {C'} e => by
    refine ⟨by rw [c1]; (first | omega | exact Nat.ne_of_lt (by omega) | exact Nat.ne_of_gt (by omega)), fun y q => ?_, fun q => ?_⟩
    · rw [c2] at q
      rcases hcells y _ q with ⟨w, _⟩ | ⟨_, w⟩
      · (first | omega | exact Nat.ne_of_lt (by omega) | exact Nat.ne_of_gt (by omega))
      · obtain ⟨_, _, o, _, w3, _⟩ := O.cellU y _ w; have := hlt _ o w3; (first | omega | exact Nat.ne_of_lt (by omega) | exact Nat.ne_of_gt (by omega))
    · rw [e] at q; have := frlt _ q; (first | omega | exact Nat.ne_of_lt (by omega) | exact Nat.ne_of_gt (by omega))
  have hD0 : C.U s2.heap.objs.size = none := newU _ (Nat.le_refl _)
  have hL0 : C.U (s2.heap.objs.size + 1) = none := newU _ (by (first | omega | exact Nat.ne_of_lt (by omega) | exact Nat.ne_of_gt (by omega)))
  have loop : codeAny S.M A (.compLoop (.ListComp elt [⟨.Tuple [.Name x px, .Name y py] kt pt, iter, [], 0⟩] scope pos) 0 (.ref It) (.ref s2.heap.objs.size) cenv) (compPost S.M A E use Qc (.ref s2.heap.objs.size) cenv.locals) { s2 with heap := h4 } := by
    refine LCp.codeAny_compLoop_pair (CmpI2 S C A cenv (rhoIn2 scope ρ x y i j) .list (.ref la) xs It s2.heap.objs.size i j m J) ?_ (xs.length + 1)
      ⟨C4, [], [], 0, H1, oI, 0, _, rfl, Nat.zero_le _, fr4, en4, U4o, U4I, (U4n _ (Nat.le_refl _)).trans gD, .nil, Nat.le_refl _, O4, V4, fun l h1 h2 => if_neg fun q => q.elim h1 h2, I4, it4, j0⟩
    rintro n s3 ⟨C1, ys, vs, nD, H1', o1, k, mk, rfl, hk1, fr1, en1, sup1, u1, uD, hys, hvl, O1, V1, mk1, I3, it3, j3⟩
    obtain ⟨ji, js, jd⟩ := jn k ys H1' j3 hk1
    have ji : ItemsK .list H1' (.ref la) xs := ji
    refine iter_next I3 hh ji it3 hk1 (fun cw z s4 hz hr it4' k4 g4 f4 => ?_) fun s4 hend k4 g4 f4 => ?_
    · obtain ⟨o4, ho4⟩ := it4'.there
      have I4' := I3.turn u1 k4 ho4 g4 f4
      have lt : k < xs.length := (List.getElem?_eq_some_iff.mp hz).1
      obtain ⟨T, p, q, rfl, hT, q3⟩ := js z hz
      cases hr.ref_inv
      obtain ⟨l', k', hli⟩ : ∃ l k', s4.heap.IsListIter It l k' := by cases it4' with | list _ q => exact ⟨_, _, q⟩
      refine wpAny_letOwnedTupleGo_listiter hli ?_
      obtain ⟨ws, nn, gT, hv, _⟩ := I4'.tuple hT
      obtain ⟨v1, v2, rfl, w1, w2⟩ := hv.two
      refine wpAny_assign_Tuple hh ⟨_, gT, rfl, nn, rfl⟩ rfl rfl fun h' ext => ?_
      have O1' := O1.hide (apI fr1) o4
      have V1' := V1.hide (apI fr1) o4
      have I' : Inv S (C1.hide It o4) H1' { s4 with heap := h' } := I4'.loose (a := s4.heap.objs.size) ⟨(I4'.fresh (Heap.get?_none_of_le (Nat.le_refl _))).2.2, I4'.nextNone, (I4'.fresh (Heap.get?_none_of_le (Nat.le_refl _))).2.1⟩ (fun b o nb e => ext b o nb e) rfl rfl
      show wpAny S.M A (do holding [v2] (do standAt px; bindName cenv x v1); assignInOrder [fun v => (do standAt py; bindName cenv y v)] [v2]) _ _ _
      refine wpAny_bind (wpAny_holding (wpAny_bind (wpAny_standAt (wpAny_mono (store_var O1' V1' I' hc.rho2 (.head _) w1 hvar) ?_ fun _ _ x => x))))
      rintro _ s5 ⟨C5, a5, o5, w5, e5, O5, V5, I5⟩
      show wpAny S.M A (do holding [] (do standAt py; bindName cenv y v2); assignInOrder [] []) _ _ _
      refine wpAny_bind (wpAny_holding (wpAny_bind (wpAny_standAt (wpAny_mono (store_var O5 V5 I5 hc.rho2 (.tail _ (.head _)) w2 hvar2) ?_ fun _ _ x => x))))
      rintro _ s6 ⟨C6, a6, o6, w6, e6, O6, V6, I6⟩
      refine wpAny_pure ?_
      have hmk : (mk.upd i p).upd j q = (m.upd i p).upd j q := by
        funext l
        by_cases q1 : l = j
        · rw [q1, Mp.upd_self, Mp.upd_self]
        rw [Mp.upd_ne _ _ q1, Mp.upd_ne _ _ q1]
        by_cases q2 : l = i
        · rw [q2, Mp.upd_self, Mp.upd_self]
        · rw [Mp.upd_ne _ _ q2, Mp.upd_ne _ _ q2]; exact mk1 l q2 q1
      rw [hmk] at V6
      have a5new := newA x a5 hc.1.var w5
      have a6new := newA y a6 hc.var w6
      have nI : It ≠ a5 := by (first | omega | exact Nat.ne_of_lt (by omega) | exact Nat.ne_of_gt (by omega))
      have nD' : s2.heap.objs.size ≠ a5 := by (first | omega | exact Nat.ne_of_lt (by omega) | exact Nat.ne_of_gt (by omega))
      have nI6 : It ≠ a6 := by (first | omega | exact Nat.ne_of_lt (by omega) | exact Nat.ne_of_gt (by omega))
      have nD6 : s2.heap.objs.size ≠ a6 := by (first | omega | exact Nat.ne_of_lt (by omega) | exact Nat.ne_of_gt (by omega))
      have u5 : C6.U It = some o4 := by rw [e6, Cx.hide_ne _ _ nI6, e5, Cx.hide_ne _ _ nI]; exact Cx.hide_self ..
      have uD5 : C6.U s2.heap.objs.size = some { cls := .type "list", data := .seq (List.toArray vs) nD } := by
        rw [e6, Cx.hide_ne _ _ nD6, e5, Cx.hide_ne _ _ nD', Cx.hide_ne _ _ (by (first | omega | exact Nat.ne_of_lt (by omega) | exact Nat.ne_of_gt (by omega)))]; exact uD
      have sup5 : ∀ a o, C.U a = some o → C6.U a = some o := fun a o e => by
        have := hlt a o e
        rw [e6, Cx.hide_ne _ _ (by (first | omega | exact Nat.ne_of_lt (by omega) | exact Nat.ne_of_gt (by omega))), e5, Cx.hide_ne _ _ (by (first | omega | exact Nat.ne_of_lt (by omega) | exact Nat.ne_of_gt (by omega))), Cx.hide_ne _ _ fun q => by rw [q, hUI] at e; cases e]; exact sup1 a o e
      have fr5 : C6.fr = C.fr := by rw [e6, e5]; exact fr1
      have en5 : C6.envs = C.envs := by rw [e6, e5]; exact en1
      have itk : ∀ {s' : Shared} {H' : AH}, Inv S C6 H' s' → ItAt S .list (.ref la) xs (k + 1) It s'.heap := fun {s' H'} I' => it4'.frame fun o w => by
        rw [ho4] at w; cases w
        exact I'.exact u5 (apI fr5).fr
      refine wpAny_mono (h3 C6 A cenv ((m.upd i p).upd j q) H1' _ noX _ s6 R O6 ckd V6 I6 q3 noX_ok) ?_ fun _ _ x => x
      rintro cz s7 ⟨z, H7, r7, I7, q7⟩
      have gD7 := I7.exact uD5 (apD fr5).fr
      refine append_at (hsz := by rw [List.size_toArray]; have := hlen; (first | omega | exact Nat.ne_of_lt (by omega) | exact Nat.ne_of_gt (by omega))) gD7 fun h8 sb8 g8 => ?_
      have I8 := I7.turn (s' := { s7 with heap := h8 }) uD5 (fun b ob hb e => (sb8.2 b hb).trans e) (by rw [List.push_toArray] at g8; exact g8) rfl rfl
      refine ⟨xs.length + 1 - (k + 1), by (first | omega | exact Nat.ne_of_lt (by omega) | exact Nat.ne_of_gt (by omega)), C6.hide s2.heap.objs.size { cls := .type "list", data := .seq (List.toArray (vs ++ [cz])) (nD + 1) }, ys ++ [z], vs ++ [cz], nD + 1, H7, o4, k + 1, _, rfl, lt, fr5, en5, fun a o e => ?_, ?_, Cx.hide_self .., hys.append (.cons r7 .nil), by simp; (first | omega | exact Nat.ne_of_lt (by omega) | exact Nat.ne_of_gt (by omega)), O6.hide (apD fr5) _, V6.hide (apD fr5) _, fun l h1 h2 => (Mp.upd_ne _ _ h2).trans (Mp.upd_ne _ _ h1), I8, (itk I7).frame fun o w => ?_, q7⟩
      · have := hlt a o e
        rw [Cx.hide_ne _ _ (by (first | omega | exact Nat.ne_of_lt (by omega) | exact Nat.ne_of_gt (by omega)))]; exact sup5 a o e
      · rw [Cx.hide_ne _ _ (by (first | omega | exact Nat.ne_of_lt (by omega) | exact Nat.ne_of_gt (by omega)))]; exact u5
      · exact (sb8.2 It (by (first | omega | exact Nat.ne_of_lt (by omega) | exact Nat.ne_of_gt (by omega)))).trans w
    · obtain ⟨oL, mL, q1, q2⟩ := O1.loc
      rw [c1] at q1 ⊢
      have I4'' : Inv S (C1.drop It) H1' s4 := (I3.drop (apI fr1).fr).loose ⟨(I3.hid u1).1, (I3.hid u1).2, Cx.drop_self ..⟩ k4 g4 f4
      refine fin _ _ s4 ⟨⟨C1.drop It, H1', ys, vs, nD, oL, mL, fun a o e => ?_, fr1, en1, ?_, hys, by (first | omega | exact Nat.ne_of_lt (by omega) | exact Nat.ne_of_gt (by omega)), ?_, q2, fun q => ?_, fun q => ?_, I4'', jd hend⟩, hD0, hL0, by (first | omega | exact Nat.ne_of_lt (by omega) | exact Nat.ne_of_gt (by omega))⟩
      · rw [Cx.drop_ne _ fun q => by rw [q, hUI] at e; cases e]; exact sup1 a o e
      · rw [Cx.drop_ne _ (by (first | omega | exact Nat.ne_of_lt (by omega) | exact Nat.ne_of_gt (by omega)))]; exact uD
      · rw [Cx.drop_ne _ (by (first | omega | exact Nat.ne_of_lt (by omega) | exact Nat.ne_of_gt (by omega)))]; exact q1
      · have := frlt _ q; (first | omega | exact Nat.ne_of_lt (by omega) | exact Nat.ne_of_gt (by omega))
      · have := frlt _ q; (first | omega | exact Nat.ne_of_lt (by omega) | exact Nat.ne_of_gt (by omega))
  have := codeAny_compStart_list loop (it4.self (s := { s2 with heap := h4 }) loop)
  rw [c1] at this
  exact this
theorem sE_comp2 {S : St} {d : Nat} {sc : Kd} {ρ : Rho} {elt iter : Expr} {x y : Str} {i j : Nat} {px py pt : Pos} {kt : Nat} {scope : Scope} {pos : Pos} {t te : Tm}
    (h1 : SoundE S true d sc ρ iter t) (h3 : SoundE S true d (relab sc scope.names) (rhoIn2 scope ρ x y i j) elt te) (hc : CompAt2 scope sc ρ x y i j)
    (hs : ∀ env v, foldedSetIterable iter env v = pure v) : SoundE S true d sc ρ (.ListComp elt [⟨.Tuple [.Name x px, .Name y py] kt pt, iter, [], 0⟩] scope pos) (tComp2 t i j te) := by
  intro C A env m H Q X E s R O hk V I h hE
  rw [eval_ListComp]
  refine comp_core2 h1 h3 hc hs R O hk V I h hE (use := none) fun D L s' F => ?_
  obtain ⟨C1, H1, ys, vs, nD, oL, mL, sup, fr1, en1, uD, hys, hvl, uL, hL, nfD, nfL, I1, q⟩ := F.ex
  have hLx : s'.heap.get? L = some oL := I1.exact uL (by rw [fr1]; exact nfL)
  have hDx := I1.exact uD (by rw [fr1]; exact nfD)
  obtain ⟨es, ep, w1, w2, w3⟩ := hL
  refine ⟨mL, ⟨oL, es, ep, hLx, w1, w2, w3⟩, fun h' sb => ?_⟩
  have J1 : Inv S C H1 s' := I1.less (fun a ha _ => fr1 ▸ ha) sup I.frU
  have J2 : Inv S C H1 { s' with heap := h' } := J1.loose (a := L) ⟨(I1.hid uL).1, (I1.hid uL).2, F.newL⟩ (fun b o nb e => (sb.2 b nb).trans e) rfl rfl
  refine ⟨.ref D, H1.put D (.list ys), .ref D, J2.track ⟨(I1.hid uD).1, (I1.hid uD).2, F.newD⟩ ⟨vs, nD, (sb.2 D F.ne).trans hDx, hys, hvl⟩, q D (I1.hid uD).2⟩
end Mine
end
-- text S1
section
set_option autoImplicit false
set_option linter.unusedVariables false
namespace Mine
open PySem
noncomputable def LS (H : AH) (a : Addr) (xs : List Str) : Prop := H a = some (.list (xs.map AV.str))
inductive LAll (H : AH) : List Addr → List (List Str) → Prop
  | nil : LAll H [] []
  | cons {a : Addr} {xs : List Str} {as : List Addr} {F : List (List Str)} : LS H a xs → LAll H as F → LAll H (a :: as) (xs :: F)
noncomputable def RL (H : AH) (a : Addr) (as : List Addr) : Prop := H a = some (.list (as.map AV.ref))
inductive LL (H : AH) (a : Addr) (F : List (List Str)) : Prop
  | mk (as : List Addr) : RL H a as → LAll H as F → LL H a F
theorem LS.sub {H K : AH} (h : Sub H K) {a : Addr} {xs : List Str} (x : LS H a xs) : LS K a xs := h _ _ x
theorem LAll.sub {H K : AH} (h : Sub H K) {as : List Addr} {F : List (List Str)} (x : LAll H as F) : LAll K as F := by
  induction x with
  | nil => exact .nil
  | cons a _ ih => exact .cons (a.sub h) ih
theorem LL.sub {H K : AH} (h : Sub H K) {a : Addr} {F : List (List Str)} (x : LL H a F) : LL K a F := by
  obtain ⟨as, h1, h2⟩ := x
  exact ⟨as, h _ _ h1, h2.sub h⟩
theorem LAll.length {H : AH} {as : List Addr} {F : List (List Str)} (x : LAll H as F) : as.length = F.length := by
  induction x with
  | nil => rfl
  | cons _ _ ih => simp [ih]
theorem LAll.append {H : AH} {as bs : List Addr} {F G : List (List Str)} (x : LAll H as F) (y : LAll H bs G) : LAll H (as ++ bs) (F ++ G) := by
  induction x with
  | nil => exact y
  | cons a _ ih => exact .cons a ih
theorem LAll.get {H : AH} {as : List Addr} {F : List (List Str)} (x : LAll H as F) : ∀ {k : Nat} {a : Addr}, as[k]? = some a → ∃ xs, F[k]? = some xs ∧ LS H a xs := by
  induction x with
  | nil => intro k a e; simp at e
  | @cons b xs as F hb _ ih =>
    intro k a e
    cases k with
    | zero => simp at e; subst e; exact ⟨xs, rfl, hb⟩
    | succ k => simpa using ih (by simpa using e)
theorem LAll.mem {H : AH} {as : List Addr} {F : List (List Str)} (x : LAll H as F) {a : Addr} (h : a ∈ as) : ∃ xs ∈ F, LS H a xs := by
  obtain ⟨k, hk, e⟩ := List.getElem_of_mem h
  obtain ⟨xs, h1, h2⟩ := x.get (k := k) (a := a) (by rw [List.getElem?_eq_getElem hk, e])
  exact ⟨xs, List.mem_of_getElem? h1, h2⟩
theorem LAll.of {H : AH} : ∀ {as : List Addr} {F : List (List Str)}, as.length = F.length → (∀ (k : Nat) (a : Addr) (xs : List Str), as[k]? = some a → F[k]? = some xs → LS H a xs) → LAll H as F
  | [], [], _, _ => .nil
  | [], _ :: _, h, _ => by simp at h
  | _ :: _, [], h, _ => by simp at h
  | a :: as, x :: F, h, k => .cons (k 0 a x rfl rfl) (LAll.of (by simpa using h) fun j b ys e1 e2 => k (j + 1) b ys (by simpa using e1) (by simpa using e2))
theorem Sub.new {H K : AH} (h : Sub H K) {a : Addr} (e : K a = none) : H a = none := by
  cases q : H a with
  | none => rfl
  | some o => rw [h a o q] at e; cases e
theorem Sub.add {H : AH} {a : Addr} (e : H a = none) (o : AO) : Sub H (H.put a o) := (Sub.refl H).put o e
theorem put_get (H : AH) (a : Addr) (o : AO) : (H.put a o) a = some o := AH.put_self H a o
theorem Sub.chg {H0 H : AH} (h : Sub H0 H) {a : Addr} (e : H0 a = none) (o : AO) : Sub H0 (H.put a o) := h.put o e
theorem ItemsK.sub {kd : SK} {H K : AH} {v : AV} {xs : List AV} (s : Sub H K) (h : ItemsK kd H v xs) : ItemsK kd K v xs := by
  cases kd with
  | list => cases v with
    | ref a => exact s _ _ h
    | _ => exact h.elim
  | tuple => cases v with
    | ref a => exact s _ _ h
    | _ => exact h.elim
  | script => cases v with
    | ref a => obtain ⟨ns, h1, h2⟩ := h; exact ⟨ns, s _ _ h1, h2⟩
    | _ => exact h.elim
  | range => cases v with
    | ref a => obtain ⟨lo, hi, h1, h2⟩ := h; exact ⟨lo, hi, s _ _ h1, h2⟩
    | _ => exact h.elim
  | str => cases v with
    | str x => exact h
    | _ => exact h.elim
theorem ite_t {A B : Prop} (h : A) : if (true : Bool) = true then A else B := by simpa using h
theorem ite_f {A B : Prop} (h : B) : if (false : Bool) = true then A else B := by simpa using h
theorem compJ_sub {m : Mp} {i : Nat} {te : Tm} {v : AV} {H : AH} {Q : QV} {kd : SK} {xs : List AV} (hi : ItemsK kd H v xs) (P : Nat → AV → AH → Prop) (mono : ∀ k y H1 H2, P k y H1 → Sub H1 H2 → P k y H2)
    (step : ∀ k x H', Sub H H' → xs[k]? = some x → ∀ Q' : QV, (∀ y H3, Sub H' H3 → P k y H3 → Q' y H3) → te (m.upd i x) H' Q' noX)
    (fin : ∀ ys H', Sub H H' → ys.length = xs.length → (∀ k y, ys[k]? = some y → P k y H') → ∀ a, H' a = none → Q (.ref a) (H'.put a (.list ys))) : CompJ m i (tBoolNil true) te v H Q := by
  refine ⟨kd, xs, hi, fun k ys H' => k ≤ xs.length ∧ Sub H H' ∧ ys.length = k ∧ ∀ j y, ys[j]? = some y → P j y H', ⟨Nat.zero_le _, .refl _, rfl, fun j y e => by simp at e⟩, ?_⟩
  rintro k ys H' ⟨h0, h1, h2, h3⟩ hk
  refine ⟨hi.sub h1, fun x hx => ?_, fun e a ha => fin ys H' h1 (h2.trans e) h3 a ha⟩
  refine step k x H' h1 hx _ fun y H3 s p => ⟨(List.getElem?_eq_some_iff.mp hx).1, h1.trans s, by simp [h2], fun j z e => ?_⟩
  by_cases q : j < ys.length
  · rw [List.getElem?_append_left q] at e
    exact mono _ _ _ _ (h3 j z e) s
  · rw [List.getElem?_append_right (by lia)] at e
    have hj : j - ys.length = 0 := by
      have := (List.getElem?_eq_some_iff.mp e).1
      simp at this; lia
    rw [hj] at e
    cases e
    have : j = k := by lia
    subst this; exact p
theorem compJ_pure {m : Mp} {i : Nat} {te : Tm} {v : AV} {H : AH} {Q : QV} {kd : SK} {xs : List AV} (hi : ItemsK kd H v xs) (f : AV → AV)
    (step : ∀ x ∈ xs, ∀ Q' : QV, Q' (f x) H → te (m.upd i x) H Q' noX)
    (fin : ∀ a, H a = none → Q (.ref a) (H.put a (.list (xs.map f)))) : CompJ m i (tBoolNil true) te v H Q := by
  refine ⟨kd, xs, hi, fun k ys H' => H' = H ∧ ys = (xs.take k).map f, ⟨rfl, by simp⟩, ?_⟩
  rintro k ys H' ⟨rfl, rfl⟩ hk
  refine ⟨hi, fun x hx => ?_, fun e a ha => ?_⟩
  · refine step x (List.mem_of_getElem? hx) _ ⟨rfl, ?_⟩
    rw [List.take_succ, hx]; simp
  · have := fin a ha
    rw [e, List.take_length]; exact this
theorem rd_strs {H : AH} : ∀ xs : List Str, RdAll H (xs.map AV.str) (xs.map PyData.str)
  | [] => .nil
  | x :: r => .cons (.str x) (rd_strs r)
theorem any_eqv (xs : List Str) (n : Str) : ((xs.map PyData.str).any fun y => PyData.eqv y (.str n)) = decide (n ∈ xs) := by
  induction xs with
  | nil => simp
  | cons x r ih =>
    rw [List.map_cons, List.any_cons, ih]
    by_cases e : x = n
    · subst e; simp [PyData.eqv]
    · have : n ≠ x := fun q => e q.symm
      simp [PyData.eqv, e, this]
theorem in_strs {H : AH} {a : Addr} {xs : List Str} {n : Str} {Q : Bool → AH → Prop} (ha : LS H a xs) (h : Q (decide (n ∈ xs)) H) : aIn (.str n) (.ref a) H Q := by
  refine ⟨.str n, _, _, .str n, ha, rd_strs xs, by simp [PyData.depth], ?_⟩
  rw [any_eqv]; exact h
inductive F_withinK (vs : List AV) (H : AH) (Q : QV) : Prop
  | mk (a) (b) (xs) (ys) : (vs = [.ref a, .ref b]) → (LS H a xs) → (LS H b ys) → (∀ H', Sub H H' → Q (.bool (wi xs ys)) H') → F_withinK vs H Q
noncomputable def F_within : Fn := fun vs H Q _ => F_withinK vs H Q
inductive F_meetsK (vs : List AV) (H : AH) (Q : QV) : Prop
  | mk (a) (b) (xs) (ys) : (vs = [.ref a, .ref b]) → (LS H a xs) → (LS H b ys) → (∀ H', Sub H H' → Q (.bool (me xs ys)) H') → F_meetsK vs H Q
noncomputable def F_meets : Fn := fun vs H Q _ => F_meetsK vs H Q
noncomputable def T_within : Ts := (tSeq (tRet (tBcall bAll (tCons (tComp (tLoc 0) 2 (tBoolNil true) (tCmp aIn (tLoc 2) (tLoc 1))) tNil))) tSkip)
noncomputable def is_within : List Nat := [0, 1]
noncomputable def T_meets : Ts := (tSeq (tRet (tBcall bAny (tCons (tComp (tLoc 0) 2 (tBoolNil true) (tCmp aIn (tLoc 2) (tLoc 1))) tNil))) tSkip)
noncomputable def is_meets : List Nat := [0, 1]
theorem comp_in {m : Mp} {i j : Nat} {a b : Addr} {xs ys : List Str} {H : AH} {Q : QV} (hij : j ≠ i) (hb : m j = some (.ref b)) (ha : LS H a xs) (hy : LS H b ys) (h : ∀ r, H r = none → Q (.ref r) (H.put r (.list ((xs.map fun n => decide (n ∈ ys)).map AV.bool)))) :
    CompJ m i (tBoolNil true) (tCmp aIn (tLoc i) (tLoc j)) (.ref a) H Q := by
  refine compJ_pure (kd := .list) (xs := xs.map AV.str) ha (fun v => match v with | .str n => .bool (decide (n ∈ ys)) | v => v) (fun x hx Q' hQ => ?_) fun r hr => ?_
  · obtain ⟨n, _, rfl⟩ := List.mem_map.mp hx
    refine ⟨_, Mp.upd_self _ _ _, .ref b, (Mp.upd_ne _ _ hij).trans hb, ?_⟩
    exact in_strs hy hQ
  · have := h r hr
    rw [List.map_map] at this ⊢
    exact this
theorem ok_within (vs : List AV) (H : AH) (Q : QV) (X : QX) (h : F_within vs H Q X) : mkFn is_within T_within vs H Q X := by
  obtain ⟨a, b, xs, ys, rfl, ha, hb, h⟩ := h
  refine ⟨rfl, _, rfl, comp_in (by decide) rfl ha hb fun r hr => ⟨r, _, rfl, put_get _ _ _, ?_⟩⟩
  have := h _ (Sub.add hr (.list ((xs.map fun n => decide (n ∈ ys)).map AV.bool)))
  rw [List.all_map]; exact this
theorem ok_meets (vs : List AV) (H : AH) (Q : QV) (X : QX) (h : F_meets vs H Q X) : mkFn is_meets T_meets vs H Q X := by
  obtain ⟨a, b, xs, ys, rfl, ha, hb, h⟩ := h
  refine ⟨rfl, _, rfl, comp_in (by decide) rfl ha hb fun r hr => ⟨r, _, rfl, put_get _ _ _, ?_⟩⟩
  have := h _ (Sub.add hr (.list ((xs.map fun n => decide (n ∈ ys)).map AV.bool)))
  rw [List.any_map]; exact this
end Mine
end
-- text S2
section
set_option autoImplicit false
set_option linter.unusedVariables false
namespace Mine
open PySem
theorem ne_new {H : AH} {a b : Addr} {o : AO} (h : H a = none) (k : H b = some o) : b ≠ a := fun e => by rw [e, h] at k; cases k
theorem LS.put_ne {H : AH} {a p : Addr} {xs : List Str} {o : AO} (h : LS H a xs) (n : a ≠ p) : LS (H.put p o) a xs := (AH.put_ne H o n).trans h
theorem RL.put_ne {H : AH} {a p : Addr} {as : List Addr} {o : AO} (h : RL H a as) (n : a ≠ p) : RL (H.put p o) a as := (AH.put_ne H o n).trans h
theorem RL.sub {H K : AH} (s : Sub H K) {a : Addr} {as : List Addr} (h : RL H a as) : RL K a as := s _ _ h
theorem LAll.put_ne {H : AH} {as : List Addr} {F : List (List Str)} {p : Addr} {o : AO} (h : LAll H as F) (n : ∀ a ∈ as, a ≠ p) : LAll (H.put p o) as F := by
  induction h with
  | nil => exact .nil
  | cons x _ ih => exact .cons (x.put_ne (n _ (.head _))) (ih fun a ha => n a (.tail _ ha))
theorem sizeLine_is : sizeLine = 16777216 := rfl
theorem compJ_list {m : Mp} {i : Nat} {te : Tm} {v : AV} {H : AH} {Q : QV} {kd : SK} {xs ys : List AV} (hi : ItemsK kd H v xs) (hl : ys.length = xs.length)
    (step : ∀ (k : Nat) x y, xs[k]? = some x → ys[k]? = some y → ∀ Q' : QV, Q' y H → te (m.upd i x) H Q' noX)
    (fin : ∀ a, H a = none → Q (.ref a) (H.put a (.list ys))) : CompJ m i (tBoolNil true) te v H Q := by
  refine ⟨kd, xs, hi, fun k zs H' => H' = H ∧ zs = ys.take k, ⟨rfl, by simp⟩, ?_⟩
  rintro k zs H' ⟨rfl, rfl⟩ hk
  refine ⟨hi, fun x hx => ?_, fun e a ha => ?_⟩
  · have hk' : k < ys.length := by rw [hl]; exact (List.getElem?_eq_some_iff.mp hx).1
    refine step k x ys[k] hx (List.getElem?_eq_getElem hk') _ ⟨rfl, ?_⟩
    rw [List.take_add_one, List.getElem?_eq_getElem hk']; simp
  · have := fin a ha
    rw [e, ← hl, List.take_length]; exact this
theorem ranked_tail {m : Mp} {i : Nat} {Q : QV} {H : AH} {p : Addr} {ps : List Pr} {G : List (List Str)} (hp : H p = some (.list (ps.map fun q => AV.ref q.at_))) (hP : ∀ q ∈ ps, PrAt H q)
    (hn : (ps.map fun q => (q.n, q.xs)) = G.map lk)
    (fin : ∀ bs r H', (∀ b ∈ bs, ∃ q ∈ ps, b = q.l) → Sub H H' → LAll H' bs (rank G) → H r = none → RL H' r bs → Q (.ref r) H') :
    bSorted [.ref p] H (fun v H1 => CompJ m i (tBoolNil true) (tItem (tLoc i) (tVal (.int 1))) v H1 Q) := by
  refine ⟨p, _, rfl, hp, .inr ⟨ps, rfl, hP, fun qs hperm hs r hr => ?_⟩⟩
  have s1 : Sub H (H.put r (.list (qs.map fun q => AV.ref q.at_))) := Sub.add hr _
  refine compJ_list (kd := .list) (xs := qs.map fun (q : Pr) => AV.ref q.at_) (ys := qs.map fun (q : Pr) => AV.ref q.l) (put_get _ _ _) (by simp) (fun k x y hx hy Q' hQ => ?_) fun r2 hr2 => ?_
  · rw [List.getElem?_map] at hx hy
    cases e : qs[k]? with
    | none => rw [e] at hx; cases hx
    | some q =>
      rw [e] at hx hy
      simp at hx hy
      subst hx; subst hy
      have hq := (hP q (hperm.mem_iff.mp (List.mem_of_getElem? e))).1
      exact ⟨_, Mp.upd_self _ _ _, _, s1 _ _ hq, _, rfl, hQ⟩
  · have s2 := s1.trans (Sub.add hr2 (.list (qs.map fun q => AV.ref q.l)))
    have key : qs.map (·.xs) = rank G := by
      have e1 : ((qs.map fun q => (q.n, q.xs)).map Prod.snd) = qs.map (·.xs) := by rw [List.map_map]; rfl
      have pm : (qs.map fun q => (q.n, q.xs)).Perm (G.map lk) := by rw [← hn]; exact hperm.map _
      have hlk : ∀ q ∈ qs, (q.n, q.xs) = lk q.xs := fun q hq => by
        have : (q.n, q.xs) ∈ G.map lk := pm.mem_iff.mp (List.mem_map.mpr ⟨q, hq, rfl⟩)
        obtain ⟨x, _, e⟩ := List.mem_map.mp this
        have : x = q.xs := congrArg Prod.snd e
        rw [← e, this]
      refine rank_uniq ?_ ?_
      · have := pm.map Prod.snd
        rw [e1, List.map_map] at this
        have e2 : List.map (Prod.snd ∘ lk) G = G := by rw [show (Prod.snd ∘ lk) = id from rfl, List.map_id]
        rw [e2] at this; exact this
      · refine List.pairwise_map.mpr (List.Pairwise.imp_of_mem (fun {x y} hx hy hxy => ?_) hs)
        show ltK (lk y.xs) (lk x.xs) = false
        rw [← hlk x hx, ← hlk y hy]; exact hxy
    refine fin (qs.map (·.l)) r2 _ (fun b hb => ?_) s2 ?_ (s1.new hr2) ?_
    · obtain ⟨q, hq, rfl⟩ := List.mem_map.mp hb
      exact ⟨q, hperm.mem_iff.mp hq, rfl⟩
    · rw [← key]
      refine LAll.of (by simp) fun k a xs e1 e2 => ?_
      rw [List.getElem?_map] at e1 e2
      cases e : qs[k]? with
      | none => rw [e] at e1; cases e1
      | some q =>
        rw [e] at e1 e2
        simp at e1 e2
        subst e1; subst e2
        exact s2 _ _ (hP q (hperm.mem_iff.mp (List.mem_of_getElem? e))).2
    · show (AH.put _ _ _) r2 = _
      rw [put_get, List.map_map]; rfl
noncomputable def sd (x : List Str) : List Str := sortS (dedup x)
noncomputable def New (H : AH) (as : List Addr) : Prop := ∀ a ∈ as, H a = none
inductive F_rankedK (vs : List AV) (H : AH) (Q : QV) : Prop
  | mk (a) (F) : (vs = [.ref a]) → (LL H a F) → (F.length ≤ 300000) → ((∀ x ∈ F, x.length ≤ 4000)) → (∀ bs r H', Sub H H' → New H bs → H r = none → RL H' r bs → LAll H' bs (rank (F.map sd)) → Q (.ref r) H') → F_rankedK vs H Q
noncomputable def F_ranked : Fn := fun vs H Q _ => F_rankedK vs H Q
inductive F_least_ofK (vs : List AV) (H : AH) (Q : QV) : Prop
  | mk (a) (F) : (vs = [.ref a]) → (LL H a F) → (F.length ≤ 300000) → ((∀ x ∈ F, x.length ≤ 4000)) → (∀ bs r H', Sub H H' → New H bs → H r = none → RL H' r bs → LAll H' bs (least (F.map sd)) → Q (.ref r) H') → F_least_ofK vs H Q
noncomputable def F_least_of : Fn := fun vs H Q _ => F_least_ofK vs H Q
noncomputable def T_ranked : Ts := (tSeq (tAssign 1 (tList tNil)) (tSeq (tFor (tLoc 0) 2 (tSeq (tAssign 3 (tBcall bSorted (tCons (tBcall bSet (tCons (tLoc 2) tNil)) tNil))) (tSeq (tExpr (tMeth "list" bAppend (tLoc 1) (tCons (tTuple (tCons (tBcall bLen (tCons (tLoc 3) tNil)) (tCons (tLoc 3) tNil))) tNil))) tSkip))) (tSeq (tRet (tComp (tBcall bSorted (tCons (tLoc 1) tNil)) 4 (tBoolNil true) (tItem (tLoc 4) (tVal (.int 1))))) tSkip)))
noncomputable def is_ranked : List Nat := [0]
noncomputable def T_least_of : Ts := (tSeq (tAssign 1 (tList tNil)) (tSeq (tFor (tCall F_ranked (tCons (tLoc 0) tNil)) 2 (tSeq (tIte (tNotB (tTruth (tBcall bAny (tCons (tComp (tLoc 1) 3 (tBoolNil true) (tCall F_within (tCons (tLoc 3) (tCons (tLoc 2) tNil)))) tNil)))) (tSeq (tExpr (tMeth "list" bAppend (tLoc 1) (tCons (tLoc 2) tNil))) tSkip) tSkip) tSkip)) (tSeq (tRet (tLoc 1)) tSkip)))
noncomputable def is_least_of : List Nat := [0]
theorem ok_ranked (vs : List AV) (H : AH) (Q : QV) (X : QX) (h : F_ranked vs H Q X) : mkFn is_ranked T_ranked vs H Q X := by
  obtain ⟨a, F, rfl, ⟨as, ha, hF⟩, hl, hx, fin⟩ := h
  refine ⟨rfl, Nat.zero_le _, fun p hp => ⟨_, rfl, .list, as.map AV.ref, ?_, fun k m' H' => m' 1 = some (.ref p) ∧ Sub H H' ∧ ∃ ps : List Pr, H' p = some (.list (ps.map fun q => AV.ref q.at_)) ∧
    (∀ q ∈ ps, PrAt H' q ∧ H q.l = none ∧ q.l ≠ p ∧ q.at_ ≠ p) ∧ (ps.map fun q => (q.n, q.xs)) = ((F.take k).map sd).map lk, ?_, ?_⟩⟩
  · exact Sub.add hp _ _ _ ha
  · exact ⟨rfl, Sub.add hp _, [], put_get _ _ _, fun _ h => (nomatch h), by simp⟩
  rintro k m' H' ⟨h1, sb, ps, hp', hP, hk⟩ hle
  refine ⟨sb _ _ ha, fun x hx' => ?_, fun e => ?_⟩
  · rw [List.getElem?_map] at hx'
    cases e : as[k]? with
    | none => rw [e] at hx'; cases hx'
    | some b =>
    rw [e] at hx'; simp at hx'; subst hx'
    obtain ⟨xs, hxs, hb⟩ := hF.get e
    have hkl : k < F.length := (List.getElem?_eq_some_iff.mp hxs).1
    refine ⟨_, rfl, b, xs, rfl, sb _ _ hb, hx xs (List.mem_of_getElem? hxs), fun r1 hr1 => ⟨r1, _, rfl, put_get _ _ _, fun r2 hr2 => ?_⟩⟩
    have s1 := Sub.add hr1 (.sset (dedup xs))
    have s2 := s1.trans (Sub.add hr2 (.list ((sortS (dedup xs)).map AV.str)))
    refine ⟨_, h1, .list (s2 _ _ hp'), _, rfl, _, rfl, _, put_get _ _ _, _, rfl, by simp, fun r3 hr3 => ?_⟩
    have s3 := s2.trans (Sub.add hr3 (.tuple [.int ((sortS (dedup xs)).map AV.str).length, .ref r2]))
    have np2 : p ≠ r2 := ne_new hr2 (s1 _ _ hp')
    have np3 : p ≠ r3 := ne_new hr3 (s2 _ _ hp')
    have n23 : r2 ≠ r3 := ne_new hr3 (put_get _ _ _)
    have hps : ps.length = k := by
      have := congrArg List.length hk
      simp at this; lia
    refine ⟨p, _, _, rfl, s3 _ _ hp', by rw [List.length_map, hps, sizeLine_is]; lia, fun _ h => (nomatch h), h1, ((sb.trans s3).chg hp _), ps ++ [⟨r3, ((sortS (dedup xs)).length : Int), r2, sortS (dedup xs)⟩], ?_, ?_, ?_⟩
    · rw [put_get]; simp
    · intro q hq
      rcases List.mem_append.mp hq with hq | hq
      · obtain ⟨q1, q2, q3, q4⟩ := hP q hq
        exact ⟨⟨(AH.put_ne _ _ q4).trans (s3 _ _ q1.1), (AH.put_ne _ _ q3).trans (s3 _ _ q1.2)⟩, q2, q3, q4⟩
      · have : q = ⟨r3, ((sortS (dedup xs)).length : Int), r2, sortS (dedup xs)⟩ := by simpa using hq
        subst this
        refine ⟨⟨(AH.put_ne _ _ (Ne.symm np3)).trans ?_, (AH.put_ne _ _ (Ne.symm np2)).trans ?_⟩, ?_, np2.symm, np3.symm⟩
        · rw [put_get, List.length_map]
        · exact (AH.put_ne _ _ n23).trans (put_get _ _ _)
        · exact (sb.trans s1).new hr2
    · rw [List.map_append, hk, List.take_add_one, hxs]; simp [lk, sd]
  · have ek : F.take k = F := by
      rw [e, List.length_map, hF.length, List.take_length]
    rw [ek] at hk
    refine ⟨_, h1, ranked_tail hp' (fun q hq => (hP q hq).1) hk fun bs r H2 hb s2 hA hr hR => fin bs r H2 (sb.trans s2) (fun b hb' => ?_) (sb.new hr) hR hA⟩
    obtain ⟨q, hq, rfl⟩ := hb b hb'
    exact (hP q hq).2.1
theorem foldl_take_succ {α β : Type} {f : β → α → β} {b : β} {l : List α} {k : Nat} {x : α} (h : l[k]? = some x) : (l.take (k + 1)).foldl f b = f ((l.take k).foldl f b) x := by
  rw [List.take_add_one, h]; simp [List.foldl_append]
theorem greedy_len : ∀ (R found : List (List Str)), (R.foldl gstep found).length ≤ found.length + R.length
  | [], found => by simp
  | x :: r, found => by
    rw [List.foldl_cons]
    have := greedy_len r (gstep found x)
    have : (gstep found x).length ≤ found.length + 1 := by unfold gstep; split <;> simp
    simp; lia
theorem comp_wi {m : Mp} {i j : Nat} {p b : Addr} {cs : List Addr} {G : List (List Str)} {one : List Str} {H : AH} {Q : QV} {F : Fn} (hF : ∀ a b xs ys H Q X, LS H a xs → LS H b ys → (∀ H', Sub H H' → Q (.bool (wi xs ys)) H') → F [.ref a, .ref b] H Q X) (hij : j ≠ i) (hb : m j = some (.ref b)) (hp : RL H p cs) (hG : LAll H cs G) (ho : LS H b one)
    (h : ∀ r H', Sub H H' → H r = none → H' r = some (.list ((G.map fun o => wi o one).map AV.bool)) → Q (.ref r) H') :
    CompJ m i (tBoolNil true) (tCall F (tCons (tLoc i) (tCons (tLoc j) tNil))) (.ref p) H Q := by
  refine compJ_sub (kd := .list) (xs := cs.map AV.ref) hp (fun k y H' => ∀ g, G[k]? = some g → y = .bool (wi g one)) (fun k y H1 H2 h _ => h) (fun k x H' sb hx Q' hQ => ?_) fun ys H' sb hl hy r hr => ?_
  · rw [List.getElem?_map] at hx
    cases e : cs[k]? with
    | none => rw [e] at hx; cases hx
    | some c =>
      rw [e] at hx; simp at hx; subst hx
      obtain ⟨g, hg, hc⟩ := hG.get e
      refine ⟨_, Mp.upd_self _ _ _, .ref b, (Mp.upd_ne _ _ hij).trans hb, hF c b g one H' Q' noX (hc.sub sb) (ho.sub sb) fun H3 s3 => hQ _ _ s3 fun g' hg' => ?_⟩
      rw [hg] at hg'; cases hg'; rfl
  · have e : ys = (G.map fun o => wi o one).map AV.bool := by
      apply List.ext_getElem?
      intro k
      by_cases hk : k < G.length
      · have h1 : k < ys.length := by rw [hl, List.length_map, hG.length]; exact hk
        rw [List.getElem?_eq_getElem h1, hy k ys[k] (List.getElem?_eq_getElem h1) G[k] (List.getElem?_eq_getElem hk)]
        simp [hk]
      · rw [List.getElem?_eq_none (by rw [hl, List.length_map, hG.length]; lia), List.getElem?_eq_none (by simp; lia)]
    subst e
    exact h r _ (sb.trans (Sub.add hr _)) (sb.new hr) (put_get _ _ _)
theorem within_fn (a b : Addr) (xs ys : List Str) (H : AH) (Q : QV) (X : QX) (h1 : LS H a xs) (h2 : LS H b ys) (h3 : ∀ H', Sub H H' → Q (.bool (wi xs ys)) H') : F_within [.ref a, .ref b] H Q X := ⟨a, b, xs, ys, rfl, h1, h2, h3⟩
theorem gstep_any (G : List (List Str)) (one : List Str) : ((G.map fun o => wi o one).any id) = (G.any fun o => wi o one) := by rw [List.any_map]; rfl
theorem ok_least_of (vs : List AV) (H : AH) (Q : QV) (X : QX) (h : F_least_of vs H Q X) : mkFn is_least_of T_least_of vs H Q X := by
  obtain ⟨a, F, rfl, hF, hl, hx, fin⟩ := h
  refine ⟨rfl, Nat.zero_le _, fun p hp => ⟨_, rfl, a, F, rfl, hF.sub (Sub.add hp _), hl, hx, fun bs r H1 s1 nb nr hR hA => ?_⟩⟩
  have s0 : Sub H H1 := (Sub.add hp _).trans s1
  have hp1 : H1 p = some (.list []) := s1 _ _ (put_get _ _ _)
  have npr : r ≠ p := fun e => by rw [e, put_get] at nr; cases nr
  have npb : ∀ b ∈ bs, b ≠ p := fun b hb e => by have := nb b hb; rw [e, put_get] at this; cases this
  refine ⟨.list, bs.map AV.ref, hR, fun k m' H' => m' 1 = some (.ref p) ∧ Sub H H' ∧ RL H' r bs ∧ LAll H' bs (rank (F.map sd)) ∧ ∃ cs, RL H' p cs ∧ (∀ c ∈ cs, c ∈ bs) ∧ LAll H' cs (((rank (F.map sd)).take k).foldl gstep []),
    ⟨rfl, s0, hR, hA, [], hp1, fun _ h => (nomatch h), by simpa using LAll.nil⟩, ?_⟩
  rintro k m' H' ⟨h1, sb, hR', hA', cs, hp', hcs, hG⟩ hle
  refine ⟨hR', fun x hx' => ?_, fun e => ?_⟩
  · rw [List.getElem?_map] at hx'
    cases e : bs[k]? with
    | none => rw [e] at hx'; cases hx'
    | some b =>
    rw [e] at hx'; simp at hx'; subst hx'
    obtain ⟨one, ho, hb⟩ := hA'.get e
    have hkl : k < F.length := by
      have := (List.getElem?_eq_some_iff.mp ho).1
      rw [(rank_perm _).length_eq] at this
      simpa using this
    refine ⟨_, h1, comp_wi within_fn (by decide) rfl hp' hG hb fun r1 H2 s2 nr1 hr1 => ⟨r1, _, rfl, hr1, _, rfl, ?_⟩⟩
    rw [gstep_any]
    have hlen : cs.length ≤ k := by
      rw [hG.length]
      have := greedy_len ((rank (F.map sd)).take k) []
      have := List.length_take_le k (rank (F.map sd))
      simp at *; lia
    cases q : (List.foldl gstep [] ((rank (F.map sd)).take k)).any fun o => wi o one with
    | true =>
      refine ⟨h1, sb.trans s2, hR'.sub s2, hA'.sub s2, cs, hp'.sub s2, hcs, ?_⟩
      rw [foldl_take_succ ho, gstep, if_pos q]; exact hG.sub s2
    | false =>
      refine ⟨_, h1, .list (s2 _ _ hp'), _, rfl, p, _, _, rfl, s2 _ _ hp', by rw [List.length_map, sizeLine_is]; lia, fun _ h => (nomatch h), h1, (sb.trans s2).chg hp _, (hR'.sub s2).put_ne npr, (hA'.sub s2).put_ne npb, cs ++ [b], ?_, ?_, ?_⟩
      · show (AH.put _ _ _) p = _
        rw [put_get]; simp
      · intro c hc
        rcases List.mem_append.mp hc with hc | hc
        · exact hcs c hc
        · have : c = b := by simpa using hc
          subst this; exact List.mem_of_getElem? e
      · rw [foldl_take_succ ho, gstep, if_neg (by rw [q]; decide)]
        exact ((hG.sub s2).put_ne fun c hc => npb c (hcs c hc)).append (.cons ((hb.sub s2).put_ne (npb b (List.mem_of_getElem? e))) .nil)
  · have ek : (rank (F.map sd)).take k = rank (F.map sd) := by
      rw [e, List.length_map, hA'.length, List.take_length]
    rw [ek] at hG
    exact ⟨_, h1, fin cs p H' sb (fun c hc => (Sub.add hp _).new (nb c (hcs c hc))) hp hp' hG⟩
end Mine
end
-- text S3
section
set_option autoImplicit false
set_option linter.unusedVariables false
namespace Mine
open PySem
theorem refs_of {H : AH} {A : Addr → Prop} : ∀ {ys : List AV} {G : List (List Str)}, ys.length = G.length → (∀ (k : Nat) y g, ys[k]? = some y → G[k]? = some g → ∃ c, y = .ref c ∧ A c ∧ LS H c g) → ∃ cs : List Addr, ys = cs.map AV.ref ∧ (∀ c ∈ cs, A c) ∧ LAll H cs G
  | [], [], _, _ => ⟨[], rfl, fun _ h => (nomatch h), .nil⟩
  | [], _ :: _, h, _ => by simp at h
  | _ :: _, [], h, _ => by simp at h
  | y :: ys, g :: G, h, k => by
    obtain ⟨c, rfl, hA, hc⟩ := k 0 y g rfl rfl
    obtain ⟨cs, rfl, h1, h2⟩ := refs_of (ys := ys) (G := G) (by simpa using h) fun j y g e1 e2 => k (j + 1) y g (by simpa using e1) (by simpa using e2)
    refine ⟨c :: cs, rfl, fun d hd => ?_, .cons hc h2⟩
    rcases List.mem_cons.mp hd with rfl | hd
    · exact hA
    · exact h1 d hd
theorem compJ_new {m : Mp} {i : Nat} {te : Tm} {v : AV} {H : AH} {Q : QV} {kd : SK} {xs : List AV} {G : List (List Str)} (hi : ItemsK kd H v xs) (hG : G.length = xs.length)
    (step : ∀ (k : Nat) x g H', Sub H H' → xs[k]? = some x → G[k]? = some g → ∀ Q' : QV, (∀ c H3, Sub H' H3 → H' c = none → LS H3 c g → Q' (.ref c) H3) → te (m.upd i x) H' Q' noX)
    (fin : ∀ cs r H', Sub H H' → New H cs → H r = none → (∀ c ∈ cs, c ≠ r) → RL H' r cs → LAll H' cs G → Q (.ref r) H') : CompJ m i (tBoolNil true) te v H Q := by
  refine compJ_sub hi (fun k y H' => ∀ g, G[k]? = some g → ∃ c, y = .ref c ∧ H c = none ∧ LS H' c g) (fun k y H1 H2 h s g hg => ?_) (fun k x H' sb hx Q' hQ => ?_) fun ys H' sb hl hy r hr => ?_
  · obtain ⟨c, h1, h2, h3⟩ := h g hg
    exact ⟨c, h1, h2, h3.sub s⟩
  · have hk : k < G.length := by rw [hG]; exact (List.getElem?_eq_some_iff.mp hx).1
    have hg : G[k]? = some G[k] := List.getElem?_eq_getElem hk
    refine step k x G[k] H' sb hx hg Q' fun c H3 s3 hc h3 => hQ _ _ s3 fun g' hg' => ?_
    rw [hg] at hg'; cases hg'
    exact ⟨c, rfl, sb.new hc, h3⟩
  · obtain ⟨cs, rfl, h1, h2⟩ := refs_of (H := H') (A := fun c => H c = none) (hl.trans hG.symm) fun k y g e1 e2 => hy k y e1 g e2
    refine fin cs r _ (sb.trans (Sub.add hr _)) h1 (sb.new hr) (fun c hc => ?_) (put_get _ _ _) (h2.sub (Sub.add hr _))
    obtain ⟨g, _, hs⟩ := h2.mem hc
    exact ne_new hr hs
theorem compJ_filter {m : Mp} {i : Nat} {tc : Tb} {p : Addr} {cs : List Addr} {G : List (List Str)} {H : AH} {Q : QV} {f : List Str → Bool} (hp : RL H p cs) (hA : LAll H cs G)
    (step : ∀ c g H', Sub H H' → LS H' c g → c ∈ cs → ∀ Q' : Bool → AH → Prop, (∀ H3, Sub H' H3 → Q' (f g) H3) → tc (m.upd i (.ref c)) H' Q' noX)
    (fin : ∀ bs r H', Sub H H' → (∀ b ∈ bs, b ∈ cs) → H r = none → RL H' r bs → LAll H' bs (G.filter f) → Q (.ref r) H') : CompJ m i tc (tLoc i) (.ref p) H Q := by
  refine ⟨.list, cs.map AV.ref, hp, fun k ys H' => Sub H H' ∧ ∃ bs, ys = bs.map AV.ref ∧ (∀ b ∈ bs, b ∈ cs) ∧ LAll H' bs ((G.take k).filter f), ⟨.refl _, [], rfl, fun _ h => (nomatch h), .nil⟩, ?_⟩
  rintro k ys H' ⟨sb, bs, rfl, hb, hB⟩ hk
  refine ⟨sb _ _ hp, fun x hx => ?_, fun e r hr => ?_⟩
  · rw [List.getElem?_map] at hx
    cases e : cs[k]? with
    | none => rw [e] at hx; cases hx
    | some c =>
    rw [e] at hx; simp at hx; subst hx
    obtain ⟨g, hg, hc⟩ := hA.get e
    refine step c g H' sb (hc.sub sb) (List.mem_of_getElem? e) _ fun H3 s3 => ?_
    have ef : (G.take (k + 1)).filter f = (G.take k).filter f ++ (if f g = true then [g] else []) := by
      rw [List.take_add_one, hg, List.filter_append]
      cases q : f g <;> simp [List.filter, q]
    cases q : f g with
    | true =>
      refine ⟨_, Mp.upd_self _ _ _, sb.trans s3, bs ++ [c], by simp, fun b hb' => ?_, ?_⟩
      · rcases List.mem_append.mp hb' with hb' | hb'
        · exact hb b hb'
        · have : b = c := by simpa using hb'
          subst this; exact List.mem_of_getElem? e
      · rw [ef, if_pos q]
        exact (hB.sub s3).append (.cons ((hc.sub sb).sub s3) .nil)
    | false =>
      refine ⟨sb.trans s3, bs, rfl, hb, ?_⟩
      rw [ef, if_neg (by rw [q]; decide), List.append_nil]; exact hB.sub s3
  · have ek : G.take k = G := by rw [e, List.length_map, hA.length, List.take_length]
    rw [ek] at hB
    exact fin bs r _ (sb.trans (Sub.add hr _)) hb (sb.new hr) (put_get _ _ _) (hB.sub (Sub.add hr _))
noncomputable def gro (row one : List Str) : List (List Str) := if me one row = true then [one] else row.map fun n => one ++ [n]
noncomputable def growL (T : List (List Str)) (row : List Str) : List (List Str) := T.flatMap (gro row)
theorem flatM_len (f : List Str → List (List Str)) (n : Nat) (hf : ∀ x, (f x).length ≤ n) : ∀ T : List (List Str), (T.flatMap f).length ≤ T.length * n
  | [] => by simp
  | x :: r => by
    have h1 := flatM_len f n hf r
    have h2 := hf x
    rw [List.flatMap_cons, List.length_append, List.length_cons, Nat.succ_mul]; lia
theorem gro_len (row one : List Str) : (gro row one).length ≤ row.length + 1 := by unfold gro; split <;> simp
theorem flatMap_take_succ {α β : Type} {f : α → List β} {l : List α} {k : Nat} {x : α} (h : l[k]? = some x) : (l.take (k + 1)).flatMap f = (l.take k).flatMap f ++ f x := by
  rw [List.take_add_one, h]; simp [List.flatMap_append]
theorem len_take_le (T : List (List Str)) (f : List Str → List (List Str)) (n k : Nat) (hf : ∀ x, (f x).length ≤ n) : ((T.take k).flatMap f).length ≤ T.length * n := by
  have h1 := flatM_len f n hf (T.take k)
  have h2 : (T.take k).length ≤ T.length := by simp; lia
  exact Nat.le_trans h1 (Nat.mul_le_mul_right n h2)
inductive F_grownK (vs : List AV) (H : AH) (Q : QV) : Prop
  | mk (a) (b) (T) (row) : (vs = [.ref a, .ref b]) → (LL H a T) → (LS H b row) → (T.length ≤ 5000) → (row.length ≤ 50) → ((∀ x ∈ T, x.length ≤ 1000)) → (∀ bs r H', Sub H H' → New H bs → H r = none → RL H' r bs → LAll H' bs (least ((growL T row).map sd)) → Q (.ref r) H') → F_grownK vs H Q
noncomputable def F_grown : Fn := fun vs H Q _ => F_grownK vs H Q
noncomputable def T_grown : Ts := (tSeq (tAssign 2 (tList tNil)) (tSeq (tFor (tLoc 0) 3 (tSeq (tIte (tTruth (tCall F_meets (tCons (tLoc 3) (tCons (tLoc 1) tNil)))) (tSeq (tExpr (tMeth "list" bAppend (tLoc 2) (tCons (tBcall bList (tCons (tLoc 3) tNil)) tNil))) tSkip) (tSeq (tExpr (tMeth "list" bExtend (tLoc 2) (tCons (tComp (tLoc 1) 4 (tBoolNil true) (tBin aAdd (tLoc 3) (tList (tCons (tLoc 4) tNil)))) tNil))) tSkip)) tSkip)) (tSeq (tRet (tCall F_least_of (tCons (tLoc 2) tNil))) tSkip)))
noncomputable def is_grown : List Nat := [0, 1]
theorem add_one {i j : Nat} {m : Mp} {H : AH} {Q : QV} {X : QX} {b : Addr} {one : List Str} {n : Str} (hi : m i = some (.ref b)) (hj : m j = some (.str n)) (hb : LS H b one) (hl : one.length ≤ 10000) (h : ∀ c H3, Sub H H3 → H c = none → LS H3 c (one ++ [n]) → Q (.ref c) H3) :
    tBin aAdd (tLoc i) (tList (tCons (tLoc j) tNil)) m H Q X := by
  refine ⟨_, hi, _, hj, by simp, fun r1 hr1 => ?_⟩
  have s1 := Sub.add hr1 (.list [.str n])
  refine ⟨_, _, s1 _ _ hb, put_get _ _ _, by rw [List.length_map, sizeLine_is]; simp; lia, fun r2 hr2 => ?_⟩
  refine h r2 _ (s1.trans (Sub.add hr2 _)) (s1.new hr2) ?_
  show (AH.put _ _ _) r2 = _
  rw [put_get, List.map_append]; rfl
theorem ok_grown (vs : List AV) (H : AH) (Q : QV) (X : QX) (h : F_grown vs H Q X) : mkFn is_grown T_grown vs H Q X := by
  obtain ⟨a, b, T, row, rfl, ⟨as, ha, hT⟩, hb, hl1, hl2, hl3, fin⟩ := h
  refine ⟨rfl, Nat.zero_le _, fun p hp => ⟨_, rfl, .list, as.map AV.ref, ?_, fun k m' H' => m' 1 = some (.ref b) ∧ m' 2 = some (.ref p) ∧ Sub H H' ∧ ∃ cs, RL H' p cs ∧ New H cs ∧ (∀ c ∈ cs, c ≠ p) ∧ LAll H' cs ((T.take k).flatMap (gro row)), ?_, ?_⟩⟩
  · exact Sub.add hp _ _ _ ha
  · exact ⟨rfl, rfl, Sub.add hp _, [], put_get _ _ _, fun _ h => (nomatch h), fun _ h => (nomatch h), .nil⟩
  rintro k m' H' ⟨h1, h2, sb, cs, hp', hn, hc, hG⟩ hle
  have hsz : T.length * (row.length + 1) ≤ 5000 * 51 := Nat.mul_le_mul hl1 (by lia)
  have hcl : cs.length ≤ 255000 := by
    rw [hG.length]
    exact Nat.le_trans (len_take_le T (gro row) _ k (gro_len row)) hsz
  refine ⟨sb _ _ ha, fun x hx => ?_, fun e => ?_⟩
  · rw [List.getElem?_map] at hx
    cases e : as[k]? with
    | none => rw [e] at hx; cases hx
    | some c0 =>
    rw [e] at hx; simp at hx; subst hx
    obtain ⟨one, ho, hc0⟩ := hT.get e
    have hone := hl3 one (List.mem_of_getElem? ho)
    refine ⟨_, rfl, _, h1, c0, b, one, row, rfl, hc0.sub sb, hb.sub sb, fun H2 s2 => ⟨_, rfl, ?_⟩⟩
    cases q : me one row with
    | true =>
      refine ⟨_, h2, .list (s2 _ _ hp'), _, rfl, c0, _, rfl, (hc0.sub sb).sub s2, fun r1 hr1 => ?_⟩
      have s3 := s2.trans (Sub.add hr1 (.list (one.map AV.str)))
      have nrp : r1 ≠ p := (ne_new hr1 (s2 _ _ hp')).symm
      refine ⟨p, _, _, rfl, s3 _ _ hp', by rw [List.length_map, sizeLine_is]; lia, fun _ h => (nomatch h), h1, h2, (sb.trans s3).chg hp _, cs ++ [r1], ?_, ?_, ?_, ?_⟩
      · show (AH.put _ _ _) p = _
        rw [put_get]; simp
      · intro c hc'
        rcases List.mem_append.mp hc' with hc' | hc'
        · exact hn c hc'
        · have : c = r1 := by simpa using hc'
          subst this; exact (sb.trans s2).new hr1
      · intro c hc'
        rcases List.mem_append.mp hc' with hc' | hc'
        · exact hc c hc'
        · have : c = r1 := by simpa using hc'
          subst this; exact nrp
      · rw [flatMap_take_succ ho, gro, if_pos q]
        exact ((hG.sub s3).put_ne hc).append (.cons (LS.put_ne (put_get _ _ _) nrp) .nil)
    | false =>
      refine ⟨_, h2, .list (s2 _ _ hp'), _, h1, ?_⟩
      refine compJ_new (kd := .list) (xs := row.map AV.str) (G := row.map fun n => one ++ [n]) ((hb.sub sb).sub s2) (by simp) (fun j x g H3 s3 hx hg Q' hQ => ?_) fun ds r H3 s3 hnd hnr hdr hR hD => ?_
      · rw [List.getElem?_map] at hx hg
        cases e2 : row[j]? with
        | none => rw [e2] at hx; cases hx
        | some n =>
        rw [e2] at hx hg
        simp at hx hg
        subst hx; subst hg
        exact add_one (b := c0) rfl rfl (((hc0.sub sb).sub s2).sub s3) (by lia) hQ
      · have s4 := s2.trans s3
        have nd : ∀ d ∈ ds, d ≠ p := fun d hd => (ne_new (hnd d hd) (s2 _ _ hp')).symm
        have hdl : ds.length ≤ 50 := by rw [hD.length]; simpa using hl2
        refine ⟨p, r, _, _, rfl, s4 _ _ hp', hR, by rw [List.length_map, List.length_map, sizeLine_is]; lia, fun _ h => (nomatch h), h1, h2, (sb.trans s4).chg hp _, cs ++ ds, ?_, ?_, ?_, ?_⟩
        · show (AH.put _ _ _) p = _
          rw [put_get]; simp
        · intro c hc'
          rcases List.mem_append.mp hc' with hc' | hc'
          · exact hn c hc'
          · exact (sb.trans s2).new (hnd c hc')
        · intro c hc'
          rcases List.mem_append.mp hc' with hc' | hc'
          · exact hc c hc'
          · exact nd c hc'
        · rw [flatMap_take_succ ho, gro, if_neg (by rw [q]; decide)]
          exact ((hG.sub s4).put_ne hc).append (hD.put_ne nd)
  · have ek : T.take k = T := by rw [e, List.length_map, hT.length, List.take_length]
    rw [ek] at hG
    refine ⟨_, h2, p, growL T row, rfl, ⟨cs, hp', hG⟩, ?_, fun x hx => ?_, fun bs r H2 s2 nb nr hR hA => fin bs r H2 (sb.trans s2) (fun c hc' => sb.new (nb c hc')) (sb.new nr) hR hA⟩
    · show (T.flatMap (gro row)).length ≤ _
      rw [← hG.length]; lia
    · obtain ⟨one, h3, h4⟩ := List.mem_flatMap.mp hx
      have := hl3 one h3
      unfold gro at h4
      split at h4
      · have : x = one := by simpa using h4
        subst this; lia
      · obtain ⟨n, _, rfl⟩ := List.mem_map.mp h4
        simp; lia
theorem sd_of_nodup {x : List Str} (h : x.Nodup) : sd x = sortS x := by unfold sd; rw [dedup_nodup h]
theorem grow_step {T : List (List Str)} {row : List Str} (h : ∀ x ∈ T, Ris x) : (growL T row).map sd = stepL T row := by
  unfold growL stepL
  rw [List.map_flatMap]
  have key : ∀ one, Ris one → List.map sd (gro row one) = (if me one row = true then [one] else row.map fun n => sortS (one ++ [n])) := by
    intro one ho
    unfold gro
    by_cases q : me one row = true
    · rw [if_pos q, if_pos q]; simp [sd_of_nodup ho.nodup, ho.sort]
    · rw [if_neg q, if_neg q, List.map_map]
      refine List.map_congr_left fun n hn => ?_
      refine sd_of_nodup (List.nodup_append.mpr ⟨ho.nodup, by simp, fun a ha b hb e => ?_⟩)
      simp at hb; subst hb; subst e
      exact q (me_iff.mpr ⟨a, ha, hn⟩)
  induction T with
  | nil => rfl
  | cons one r ih =>
    rw [List.flatMap_cons, List.flatMap_cons, key one (h one (.head _)), ih fun x hx => h x (.tail _ hx)]
end Mine
end
-- text S4
section
set_option autoImplicit false
set_option linter.unusedVariables false
namespace Mine
open PySem
theorem dep_strs : ∀ (xs : List Str), PyData.depthAll (xs.map PyData.str) = 0
  | [] => by simp [PyData.depthAll]
  | x :: r => by simp [PyData.depthAll, PyData.depth, dep_strs r]
theorem eqs_strs : ∀ (xs ys : List Str), PyData.eqvAll (xs.map PyData.str) (ys.map PyData.str) = decide (xs = ys)
  | [], [] => by simp [PyData.eqvAll]
  | [], _ :: _ => by simp [PyData.eqvAll]
  | _ :: _, [] => by simp [PyData.eqvAll]
  | x :: r, y :: q => by
    simp only [List.map_cons, PyData.eqvAll, PyData.eqv, eqs_strs r q]
    by_cases e : x = y <;> by_cases f : r = q <;> simp [e, f]
noncomputable def dL (xs : List Str) : PyData := .list (xs.map PyData.str)
noncomputable def dLL (F : List (List Str)) : PyData := .list (F.map dL)
theorem dep_dL (xs : List Str) : (dL xs).depth = 1 := by simp [dL, PyData.depth, dep_strs]
theorem dep_dLs : ∀ F : List (List Str), PyData.depthAll (F.map dL) ≤ 1
  | [] => by simp [PyData.depthAll]
  | x :: r => by
    have := dep_dLs r
    simp only [List.map_cons, PyData.depthAll, dep_dL]
    lia
theorem dep_dLL (F : List (List Str)) : (dLL F).depth ≤ 2 := by
  have := dep_dLs F
  simp only [dLL, PyData.depth]; lia
theorem eqv_dL (xs ys : List Str) : PyData.eqv (dL xs) (dL ys) = decide (xs = ys) := by simp only [dL, PyData.eqv, eqs_strs]
theorem eqs_dL : ∀ (F G : List (List Str)), PyData.eqvAll (F.map dL) (G.map dL) = decide (F = G)
  | [], [] => by simp [PyData.eqvAll]
  | [], _ :: _ => by simp [PyData.eqvAll]
  | _ :: _, [] => by simp [PyData.eqvAll]
  | x :: r, y :: q => by
    simp only [List.map_cons, PyData.eqvAll, eqv_dL, eqs_dL r q]
    by_cases e : x = y <;> by_cases f : r = q <;> simp [e, f]
theorem eqv_dLL (F G : List (List Str)) : PyData.eqv (dLL F) (dLL G) = decide (F = G) := by simp only [dLL, PyData.eqv, eqs_dL]
theorem LS.rd {H : AH} {a : Addr} {xs : List Str} (h : LS H a xs) : Rd H (.ref a) (dL xs) := .list h (rd_strs xs)
theorem LAll.rd {H : AH} {as : List Addr} {F : List (List Str)} (h : LAll H as F) : RdAll H (as.map AV.ref) (F.map dL) := by
  induction h with
  | nil => exact .nil
  | cons x _ ih => exact .cons x.rd ih
theorem LL.rd {H : AH} {a : Addr} {F : List (List Str)} (h : LL H a F) : Rd H (.ref a) (dLL F) := by
  obtain ⟨as, h1, h2⟩ := h
  exact .list h1 h2.rd
theorem ne_LL {H : AH} {a b : Addr} {F G : List (List Str)} {Q : Bool → AH → Prop} (h1 : LL H a F) (h2 : LL H b G) (h : Q (!decide (F = G)) H) : aNe (.ref a) (.ref b) H Q :=
  ⟨_, _, h1.rd, h2.rd, by have := dep_dLL F; lia, by have := dep_dLL G; lia, by rw [eqv_dLL]; exact h⟩
theorem eq_LL {H : AH} {a b : Addr} {F G : List (List Str)} {Q : Bool → AH → Prop} (h1 : LL H a F) (h2 : LL H b G) (h : Q (decide (F = G)) H) : aEq (.ref a) (.ref b) H Q :=
  ⟨_, _, h1.rd, h2.rd, by have := dep_dLL F; lia, by have := dep_dLL G; lia, by rw [eqv_dLL]; exact h⟩
theorem eq_LS {H : AH} {a b : Addr} {xs ys : List Str} {Q : Bool → AH → Prop} (h1 : LS H a xs) (h2 : LS H b ys) (h : Q (decide (xs = ys)) H) : aEq (.ref a) (.ref b) H Q :=
  ⟨_, _, h1.rd, h2.rd, by rw [dep_dL]; lia, by rw [dep_dL]; lia, by rw [eqv_dL]; exact h⟩
theorem beq_dec (i j : Int) : (i == j) = decide (i = j) := by
  by_cases e : i = j <;> simp [e]
theorem ite_intro {A B : Prop} (c : Bool) (h1 : c = true → A) (h2 : c = false → B) : if c = true then A else B := by
  cases c
  · exact h2 rfl
  · exact h1 rfl
theorem ne_int {H : AH} {i j : Int} {Q : Bool → AH → Prop} (h : Q (!decide (i = j)) H) : aNe (.int i) (.int j) H Q :=
  ⟨_, _, .int i, .int j, by simp [PyData.depth], by simp [PyData.depth], by rw [PyData.eqv, beq_dec]; exact h⟩
theorem eq_int {H : AH} {i j : Int} {Q : Bool → AH → Prop} (h : Q (decide (i = j)) H) : aEq (.int i) (.int j) H Q :=
  ⟨_, _, .int i, .int j, by simp [PyData.depth], by simp [PyData.depth], by rw [PyData.eqv, beq_dec]; exact h⟩
theorem isi_list {H : AH} {a : Addr} {xs : List AV} (h : H a = some (.list xs)) : aIs "list" (.ref a) H = some true := by simp [aIs, h]
theorem isi_str {H : AH} {x : Str} : aIs "str" (.str x) H = some true := by simp [aIs]
theorem LL.nil {H : AH} {r : Addr} : LL (H.put r (.list [])) r [] := ⟨[], put_get _ _ _, .nil⟩
noncomputable def drw (ns : List Int) (k : Int) : Int := (ns[k.toNat]?).getD 0
inductive F_l_drawK (vs : List AV) (H : AH) (Q : QV) : Prop
  | mk (l) (ns) (k) : (vs = [.ref l, .int k]) → (H l = some (.script ns)) → (0 ≤ k) → (Q (.int (drw ns k)) H) → F_l_drawK vs H Q
noncomputable def F_l_draw : Fn := fun vs H Q _ => F_l_drawK vs H Q
noncomputable def F_l_meets : Fn := F_meets
noncomputable def F_l_within : Fn := F_within
inductive F_l_meets_allK (vs : List AV) (H : AH) (Q : QV) : Prop
  | mk (a) (b) (xs) (F) : (vs = [.ref a, .ref b]) → (LS H a xs) → (LL H b F) → (∀ H', Sub H H' → Q (.bool (mall F xs)) H') → F_l_meets_allK vs H Q
noncomputable def F_l_meets_all : Fn := fun vs H Q _ => F_l_meets_allK vs H Q
inductive F_l_rankedK (vs : List AV) (H : AH) (Q : QV) : Prop
  | mk (a) (as) (F) : (vs = [.ref a]) → (RL H a as) → (LAll H as F) → (∀ bs r H', Sub H H' → (∀ b ∈ bs, b ∈ as) → H r = none → RL H' r bs → LAll H' bs (rank F) → Q (.ref r) H') → F_l_rankedK vs H Q
noncomputable def F_l_ranked : Fn := fun vs H Q _ => F_l_rankedK vs H Q
inductive F_l_boxK (vs : List AV) (H : AH) (Q : QV) : Prop
  | mk (a) (xs) : (vs = [.ref a]) → (LS H a xs) → (xs.length ≤ 15) → (∀ bs r H', Sub H H' → New H bs → H r = none → RL H' r bs → LAll H' bs (boxOf (sortS xs)) → Q (.ref r) H') → F_l_boxK vs H Q
noncomputable def F_l_box : Fn := fun vs H Q _ => F_l_boxK vs H Q
inductive F_l_rowK (vs : List AV) (H : AH) (Q : QV) : Prop
  | mk (a) (c) (xs) : (vs = [.ref a, .int c]) → (LS H a xs) → (xs ≠ []) → (xs.length ≤ 50) → (∀ r row H', Sub H H' → H r = none → LS H' r row → (∀ n ∈ row, n ∈ xs) → row.length ≤ xs.length → (xs.Nodup → row.Nodup) → Q (.ref r) H') → F_l_rowK vs H Q
noncomputable def F_l_row : Fn := fun vs H Q _ => F_l_rowK vs H Q
noncomputable def T_l_draw : Ts := (tSeq (tRet (tIf (tCmpB aGt (tBcall bLen (tCons (tLoc 0) tNil)) (tLoc 1)) (tItem (tLoc 0) (tLoc 1)) (tVal (.int 0)))) tSkip)
noncomputable def is_l_draw : List Nat := [0, 1]
noncomputable def T_l_row : Ts := (tSeq (tAssign 2 (tList tNil)) (tSeq (tAssign 3 (tBin aFdiv (tLoc 1) (tVal (.int 4)))) (tSeq (tFor (tLoc 0) 4 (tSeq (tIte (tCmpB aEq (tBin aMod (tLoc 3) (tVal (.int 2))) (tVal (.int 1))) (tSeq (tExpr (tMeth "list" bAppend (tLoc 2) (tCons (tLoc 4) tNil))) tSkip) tSkip) (tSeq (tAssign 3 (tBin aFdiv (tLoc 3) (tVal (.int 2)))) tSkip))) (tSeq (tIte (tAndB (tCmpB aEq (tLoc 2) (tList tNil)) (tAndB (tCmpB aGt (tBin aMod (tLoc 1) (tVal (.int 4))) (tVal (.int 0))) (tBoolNil true))) (tSeq (tAssign 2 (tList (tCons (tItem (tLoc 0) (tBin aMod (tLoc 1) (tBcall bLen (tCons (tLoc 0) tNil)))) tNil))) tSkip) tSkip) (tSeq (tRet (tIf (tCmpB aEq (tBin aMod (tLoc 1) (tVal (.int 2))) (tVal (.int 1))) (tRev (tLoc 2)) (tLoc 2))) tSkip)))))
noncomputable def is_l_row : List Nat := [0, 1]
noncomputable def T_l_ranked : Ts := (tSeq (tRet (tComp (tBcall bSorted (tCons (tComp (tLoc 0) 1 (tBoolNil true) (tTuple (tCons (tBcall bLen (tCons (tLoc 1) tNil)) (tCons (tLoc 1) tNil)))) tNil)) 2 (tBoolNil true) (tItem (tLoc 2) (tVal (.int 1))))) tSkip)
noncomputable def is_l_ranked : List Nat := [0]
noncomputable def T_l_meets : Ts := (tSeq (tFor (tLoc 0) 2 (tSeq (tIte (tCmpB aIn (tLoc 2) (tLoc 1)) (tSeq (tRet (tVal (.bool true))) tSkip) tSkip) tSkip)) (tSeq (tRet (tVal (.bool false))) tSkip))
noncomputable def is_l_meets : List Nat := [0, 1]
noncomputable def T_l_within : Ts := (tSeq (tFor (tLoc 0) 2 (tSeq (tIte (tCmpB aNotIn (tLoc 2) (tLoc 1)) (tSeq (tRet (tVal (.bool false))) tSkip) tSkip) tSkip)) (tSeq (tRet (tVal (.bool true))) tSkip))
noncomputable def is_l_within : List Nat := [0, 1]
noncomputable def T_l_meets_all : Ts := (tSeq (tFor (tLoc 1) 2 (tSeq (tIte (tNotB (tTruth (tCall F_l_meets (tCons (tLoc 0) (tCons (tLoc 2) tNil))))) (tSeq (tRet (tVal (.bool false))) tSkip) tSkip) tSkip)) (tSeq (tRet (tVal (.bool true))) tSkip))
noncomputable def is_l_meets_all : List Nat := [0, 1]
noncomputable def T_l_box : Ts := (tSeq (tAssign 1 (tList (tCons (tList tNil) tNil))) (tSeq (tFor (tBcall bSorted (tCons (tLoc 0) tNil)) 2 (tSeq (tAssign 1 (tBin aAdd (tLoc 1) (tComp (tLoc 1) 3 (tBoolNil true) (tBin aAdd (tLoc 3) (tList (tCons (tLoc 2) tNil)))))) tSkip)) (tSeq (tRet (tLoc 1)) tSkip)))
noncomputable def is_l_box : List Nat := [0]
theorem ok_l_draw (vs : List AV) (H : AH) (Q : QV) (X : QX) (h : F_l_draw vs H Q X) : mkFn is_l_draw T_l_draw vs H Q X := by
  obtain ⟨l, ns, k, rfl, hl, hk, h⟩ := h
  refine ⟨rfl, _, rfl, _, rfl, _, hl, _, rfl, ?_⟩
  refine ite_intro (decide (k < (ns.length : Int))) (fun q => ?_) fun q => ?_
  · have q := of_decide_eq_true q
    refine ⟨_, rfl, _, rfl, _, hl, ns[k.toNat]'(by lia), ?_, ?_⟩
    · rw [show idx ns k = ns[k.toNat]? from if_pos hk]; exact List.getElem?_eq_getElem (by lia)
    · have e : drw ns k = ns[k.toNat]'(by lia) := by unfold drw; rw [List.getElem?_eq_getElem (by lia)]; rfl
      rw [← e]; exact h
  · have q := of_decide_eq_false q
    have e : drw ns k = 0 := by unfold drw; rw [List.getElem?_eq_none (by lia)]; rfl
    rw [e] at h; exact h
theorem mem_take_succ {α : Type} {l : List α} {k : Nat} {x y : α} (h : l[k]? = some x) (hy : y ∈ l.take (k + 1)) : y ∈ l.take k ∨ y = x := by
  rw [List.take_add_one, h] at hy
  simpa using hy
theorem getElem?_strs {xs : List Str} {k : Nat} {v : AV} (h : (xs.map AV.str)[k]? = some v) : ∃ n, xs[k]? = some n ∧ v = .str n := by
  rw [List.getElem?_map] at h
  cases e : xs[k]? with
  | none => rw [e] at h; cases h
  | some n => rw [e] at h; simp at h; exact ⟨n, rfl, h.symm⟩
theorem getElem?_refs {as : List Addr} {k : Nat} {v : AV} (h : (as.map AV.ref)[k]? = some v) : ∃ a, as[k]? = some a ∧ v = .ref a := by
  rw [List.getElem?_map] at h
  cases e : as[k]? with
  | none => rw [e] at h; cases h
  | some n => rw [e] at h; simp at h; exact ⟨n, rfl, h.symm⟩
theorem ok_l_meets (vs : List AV) (H : AH) (Q : QV) (X : QX) (h : F_l_meets vs H Q X) : mkFn is_l_meets T_l_meets vs H Q X := by
  obtain ⟨a, b, xs, ys, rfl, ha, hb, h⟩ := h
  refine ⟨rfl, _, rfl, .list, xs.map AV.str, ha, fun k m' H' => m' 1 = some (.ref b) ∧ H' = H ∧ ∀ n ∈ xs.take k, n ∉ ys, ⟨rfl, rfl, by simp⟩, ?_⟩
  rintro k m' H' ⟨h1, rfl, hn⟩ hk
  refine ⟨ha, fun x hx => ?_, fun e => ?_⟩
  · obtain ⟨n, hn', rfl⟩ := getElem?_strs hx
    refine ⟨_, rfl, _, h1, in_strs hb ?_⟩
    by_cases q : n ∈ ys
    · rw [if_pos (decide_eq_true q)]
      have := h _ (.refl _)
      rw [me_iff.mpr ⟨n, List.mem_of_getElem? hn', q⟩] at this
      exact this
    · rw [if_neg (by simpa using q)]
      refine ⟨h1, rfl, fun z hz => ?_⟩
      rcases mem_take_succ hn' hz with hz | rfl
      · exact hn z hz
      · exact q
  · have := h _ (.refl _)
    have e0 : me xs ys = false := by
      cases q : me xs ys with
      | false => rfl
      | true =>
        obtain ⟨n, h2, h3⟩ := me_iff.mp q
        refine absurd h3 (hn n ?_)
        rw [e, List.length_map, List.take_length]; exact h2
    rw [e0] at this; exact this
theorem ok_l_within (vs : List AV) (H : AH) (Q : QV) (X : QX) (h : F_l_within vs H Q X) : mkFn is_l_within T_l_within vs H Q X := by
  obtain ⟨a, b, xs, ys, rfl, ha, hb, h⟩ := h
  refine ⟨rfl, _, rfl, .list, xs.map AV.str, ha, fun k m' H' => m' 1 = some (.ref b) ∧ H' = H ∧ ∀ n ∈ xs.take k, n ∈ ys, ⟨rfl, rfl, by simp⟩, ?_⟩
  rintro k m' H' ⟨h1, rfl, hn⟩ hk
  refine ⟨ha, fun x hx => ?_, fun e => ?_⟩
  · obtain ⟨n, hn', rfl⟩ := getElem?_strs hx
    refine ⟨_, rfl, _, h1, in_strs hb ?_⟩
    by_cases q : n ∈ ys
    · rw [decide_eq_true q]
      refine ⟨h1, rfl, fun z hz => ?_⟩
      rcases mem_take_succ hn' hz with hz | rfl
      · exact hn z hz
      · exact q
    · rw [decide_eq_false q]
      have := h _ (.refl _)
      have e0 : wi xs ys = false := by
        cases q2 : wi xs ys with
        | false => rfl
        | true => exact absurd (wi_iff.mp q2 n (List.mem_of_getElem? hn')) q
      rw [e0] at this
      exact this
  · have := h _ (.refl _)
    rw [wi_iff.mpr fun n h2 => hn n (by rw [e, List.length_map, List.take_length]; exact h2)] at this; exact this
theorem meets_fn {a b : Addr} {xs ys : List Str} {H : AH} {Q : QV} {X : QX} (h1 : LS H a xs) (h2 : LS H b ys) (h3 : ∀ H', Sub H H' → Q (.bool (me xs ys)) H') : F_l_meets [.ref a, .ref b] H Q X := ⟨a, b, xs, ys, rfl, h1, h2, h3⟩
theorem lwithin_fn (a b : Addr) (xs ys : List Str) (H : AH) (Q : QV) (X : QX) (h1 : LS H a xs) (h2 : LS H b ys) (h3 : ∀ H', Sub H H' → Q (.bool (wi xs ys)) H') : F_l_within [.ref a, .ref b] H Q X := ⟨a, b, xs, ys, rfl, h1, h2, h3⟩
theorem ok_l_meets_all (vs : List AV) (H : AH) (Q : QV) (X : QX) (h : F_l_meets_all vs H Q X) : mkFn is_l_meets_all T_l_meets_all vs H Q X := by
  obtain ⟨a, b, xs, F, rfl, ha, ⟨bs, hb, hF⟩, h⟩ := h
  refine ⟨rfl, _, rfl, .list, bs.map AV.ref, hb, fun k m' H' => m' 0 = some (.ref a) ∧ Sub H H' ∧ ∀ r ∈ F.take k, me xs r = true, ⟨rfl, .refl _, by simp⟩, ?_⟩
  rintro k m' H' ⟨h1, sb, hn⟩ hk
  refine ⟨sb _ _ hb, fun x hx => ?_, fun e => ?_⟩
  · obtain ⟨c, hc, rfl⟩ := getElem?_refs hx
    obtain ⟨r, hr, hcr⟩ := hF.get hc
    refine ⟨_, h1, _, rfl, meets_fn (ha.sub sb) (hcr.sub sb) fun H2 s2 => ⟨_, rfl, ?_⟩⟩
    cases q : me xs r with
    | true =>
      refine ⟨h1, sb.trans s2, fun z hz => ?_⟩
      rcases mem_take_succ hr hz with hz | rfl
      · exact hn z hz
      · exact q
    | false =>
      have := h _ (sb.trans s2)
      have e0 : mall F xs = false := by
        cases q2 : mall F xs with
        | false => rfl
        | true =>
          have := List.all_eq_true.mp q2 r (List.mem_of_getElem? hr)
          rw [q] at this; cases this
      rw [e0] at this; exact this
  · have := h _ sb
    have e0 : mall F xs = true := List.all_eq_true.mpr fun r hr => hn r (by rw [e, List.length_map, hF.length, List.take_length]; exact hr)
    rw [e0] at this; exact this
theorem ok_l_ranked (vs : List AV) (H : AH) (Q : QV) (X : QX) (h : F_l_ranked vs H Q X) : mkFn is_l_ranked T_l_ranked vs H Q X := by
  obtain ⟨a, as, F, rfl, ha, hF, h⟩ := h
  refine ⟨rfl, _, rfl, ?_⟩
  refine compJ_sub (kd := .list) (xs := as.map AV.ref) ha (fun k y H' => ∀ c g, as[k]? = some c → F[k]? = some g → ∃ t, y = .ref t ∧ H' t = some (.tuple [.int g.length, .ref c])) (fun k y H1 H2 h s c g e1 e2 => ?_) (fun k x H' sb hx Q' hQ => ?_) fun ys H' sb hl hy r hr => ?_
  · obtain ⟨t, h1, h2⟩ := h c g e1 e2
    exact ⟨t, h1, s _ _ h2⟩
  · obtain ⟨c, hc, rfl⟩ := getElem?_refs hx
    obtain ⟨g, hg, hcg⟩ := hF.get hc
    refine ⟨_, rfl, _, rfl, _, sb _ _ hcg, _, rfl, by simp, fun r hr => hQ _ _ (Sub.add hr _) fun c' g' e1 e2 => ?_⟩
    rw [hc] at e1; cases e1
    rw [hg] at e2; cases e2
    exact ⟨r, rfl, by rw [put_get, List.length_map]⟩
  · have sr := Sub.add hr (.list ys)
    obtain ⟨ps, e1, e2, e3⟩ : ∃ ps : List Pr, ys = (ps.map fun q => AV.ref q.at_) ∧ (∀ q ∈ ps, PrAt H' q ∧ q.l ∈ as) ∧ (ps.map fun q => (q.n, q.xs)) = F.map lk := by
      have hFs := hF.sub sb
      have hl' : ys.length = as.length := by rw [hl, List.length_map]
      clear h hr sr sb hl ha hF
      induction hFs generalizing ys with
      | nil =>
        have : ys = [] := List.eq_nil_of_length_eq_zero hl'
        subst this
        exact ⟨[], rfl, fun _ h => (nomatch h), rfl⟩
      | @cons c g as F hc _ ih =>
        cases ys with
        | nil => simp at hl'
        | cons y ys =>
          obtain ⟨t, rfl, ht⟩ := hy 0 y rfl c g rfl rfl
          obtain ⟨ps, q1, q2, q3⟩ := ih ys (fun k y hk c g e1 e2 => hy (k + 1) y (by simpa using hk) c g (by simpa using e1) (by simpa using e2)) (by simpa using hl')
          refine ⟨⟨t, g.length, c, g⟩ :: ps, by rw [q1]; rfl, fun q hq => ?_, by rw [List.map_cons, q3]; rfl⟩
          rcases List.mem_cons.mp hq with rfl | hq
          · exact ⟨⟨ht, hc⟩, .head _⟩
          · exact ⟨(q2 q hq).1, .tail _ (q2 q hq).2⟩
    subst e1
    refine ranked_tail (put_get _ _ _) (fun q hq => ⟨sr _ _ (e2 q hq).1.1, sr _ _ (e2 q hq).1.2⟩) e3 fun bs r2 H2 hb s2 hA nr hR => ?_
    refine h bs r2 H2 ((sb.trans sr).trans s2) (fun b hb' => ?_) ((sb.trans sr).new nr) hR hA
    obtain ⟨q, hq, rfl⟩ := hb b hb'
    exact (e2 q hq).2
end Mine
end
-- text S5
section
set_option autoImplicit false
set_option linter.unusedVariables false
namespace Mine
open PySem
theorem ne_int_eq {H : AH} {i j : Int} {Q : Bool → AH → Prop} (e : i = j) (h : Q false H) : aNe (.int i) (.int j) H Q := ne_int (by simpa [e] using h)
theorem box_mem_len : ∀ (l : List Str) (F : List (List Str)) (n : Nat), (∀ x ∈ F, x.length ≤ n) → ∀ x ∈ l.foldl bstep F, x.length ≤ n + l.length
  | [], F, n, h, x, hx => h x hx
  | y :: r, F, n, h, x, hx => by
    have := box_mem_len r (bstep F y) (n + 1) (fun z hz => by
      rcases List.mem_append.mp hz with hz | hz
      · have := h z hz; lia
      · obtain ⟨w, hw, rfl⟩ := List.mem_map.mp hz
        have := h w hw
        simp; lia) x hx
    simp; lia
theorem boxOf_mem_len {l x : List Str} (h : x ∈ boxOf l) : x.length ≤ l.length := by
  have := box_mem_len l [[]] 0 (by simp) x h
  lia
theorem pow_le {k : Nat} (h : k ≤ 15) : 2 ^ k ≤ 32768 := Nat.le_trans (Nat.pow_le_pow_right (by decide) h) (by decide)
theorem ok_l_box (vs : List AV) (H : AH) (Q : QV) (X : QX) (h : F_l_box vs H Q X) : mkFn is_l_box T_l_box vs H Q X := by
  obtain ⟨a, xs, rfl, ha, hl, fin⟩ := h
  refine ⟨rfl, Nat.zero_le _, fun r0 hr0 => ⟨by simp, fun r1 hr1 => ?_⟩⟩
  have s0 := Sub.add hr0 (.list [])
  have s1 := s0.trans (Sub.add hr1 (.list [.ref r0]))
  refine ⟨_, rfl, a, _, rfl, s1 _ _ ha, .inl ⟨xs, rfl, fun r hr => ?_⟩⟩
  have s2 := s1.trans (Sub.add hr (.list ((sortS xs).map AV.str)))
  have n01 : r0 ≠ r1 := ne_new hr1 (put_get _ _ _)
  have n0r : r0 ≠ r := ne_new hr ((AH.put_ne _ _ n01).trans (put_get _ _ _))
  have n1r : r1 ≠ r := ne_new hr (put_get _ _ _)
  refine ⟨.list, (sortS xs).map AV.str, put_get _ _ _, fun k m' H' => Sub H H' ∧ LS H' r (sortS xs) ∧ ∃ p cs, m' 1 = some (.ref p) ∧ RL H' p cs ∧ New H cs ∧ H p = none ∧ LAll H' cs (boxOf ((sortS xs).take k)), ⟨s2, put_get _ _ _, r1, [r0], rfl, ?_, ?_, s0.new hr1, ?_⟩, ?_⟩
  · exact (AH.put_ne _ _ n1r).trans (put_get _ _ _)
  · intro c hc
    have : c = r0 := by simpa using hc
    subst this; exact hr0
  · refine .cons ?_ .nil
    exact (AH.put_ne _ _ n0r).trans ((AH.put_ne _ _ n01).trans (put_get _ _ _))
  rintro k m' H' ⟨sb, hr', p, cs, h1, hp, hn, hpn, hC⟩ hk
  rw [List.length_map, sortS_len] at hk
  have htl : ((sortS xs).take k).length = k := by rw [List.length_take, sortS_len]; lia
  have hcl : cs.length ≤ 32768 := by
    rw [hC.length, boxOf_len, htl]
    exact pow_le (by lia)
  refine ⟨hr', fun x hx => ?_, fun e => ?_⟩
  · obtain ⟨n, hn', rfl⟩ := getElem?_strs hx
    refine ⟨_, h1, _, h1, ?_⟩
    refine compJ_new (kd := .list) (xs := cs.map AV.ref) (G := (boxOf ((sortS xs).take k)).map (· ++ [n])) hp (by simp [hC.length]) (fun j x g H3 s3 hx hg Q' hQ => ?_) fun ds r2 H3 s3 hnd hnr hdr hR hD => ?_
    · obtain ⟨c, hc, rfl⟩ := getElem?_refs hx
      obtain ⟨one, ho, hco⟩ := hC.get hc
      rw [List.getElem?_map, ho] at hg
      cases hg
      have := boxOf_mem_len (List.mem_of_getElem? ho)
      exact add_one (b := c) rfl rfl (hco.sub s3) (by lia) hQ
    · have hdl : ds.length ≤ 32768 := by rw [hD.length, List.length_map, ← hC.length]; exact hcl
      refine ⟨_, _, hp.sub s3, hR, by rw [List.length_map, List.length_map, sizeLine_is]; lia, fun r3 hr3 => ?_⟩
      have s4 := Sub.add hr3 (.list (cs.map AV.ref ++ ds.map AV.ref))
      refine ⟨(sb.trans s3).trans s4, (hr'.sub s3).sub s4, r3, cs ++ ds, rfl, ?_, ?_, (sb.trans s3).new hr3, ?_⟩
      · show (AH.put _ _ _) r3 = _
        rw [put_get]; simp
      · intro c hc
        rcases List.mem_append.mp hc with hc | hc
        · exact hn c hc
        · exact sb.new (hnd c hc)
      · have e : (sortS xs).take (k + 1) = (sortS xs).take k ++ [n] := by rw [List.take_add_one, hn']; rfl
        rw [e, boxOf_snoc]
        exact ((hC.sub s3).append hD).sub s4
  · have ek : (sortS xs).take k = sortS xs := by rw [e, List.length_map, List.take_length]
    rw [ek] at hC
    exact ⟨_, h1, fin cs p H' sb hn hpn hp hC⟩
theorem filter_nil {G : List (List Str)} {f : List Str → Bool} : decide (G.filter f = []) = !(G.any f) := by
  induction G with
  | nil => simp
  | cons x r ih =>
    cases q : f x with
    | false => rw [List.filter_cons_of_neg (by rw [q]; decide), List.any_cons, q, ih]; rfl
    | true => simp [q]
end Mine
end
-- text S6
section
set_option autoImplicit false
set_option linter.unusedVariables false
namespace Mine
open PySem
theorem val_k {v : AV} {m : Mp} {H : AH} {Q : QV} {X : QX} (h : Q v H) : tVal v m H Q X := h
theorem idx_mem {α : Type} {xs : List α} {k : Int} (h0 : 0 ≤ k) (h : k < xs.length) : ∃ x, idx xs k = some x ∧ x ∈ xs := by
  have hk : k.toNat < xs.length := by lia
  refine ⟨xs[k.toNat], ?_, List.getElem_mem hk⟩
  rw [show idx xs k = xs[k.toNat]? from if_pos h0]; exact List.getElem?_eq_getElem hk
theorem ok_l_row (vs : List AV) (H : AH) (Q : QV) (X : QX) (h : F_l_row vs H Q X) : mkFn is_l_row T_l_row vs H Q X := by
  obtain ⟨a, c, xs, rfl, ha, hne, hl, fin⟩ := h
  have hpos : 0 < xs.length := by cases xs with | nil => exact absurd rfl hne | cons => simp
  refine ⟨rfl, Nat.zero_le _, fun p hp => ⟨_, rfl, by decide, by decide, _, rfl, .list, xs.map AV.str, Sub.add hp _ _ _ ha, fun k m' H' => m' 0 = some (.ref a) ∧ m' 1 = some (.int c) ∧ m' 2 = some (.ref p) ∧ (∃ b, m' 3 = some (.int b)) ∧ Sub H H' ∧ ∃ ys, LS H' p ys ∧ ys.Sublist (xs.take k), ?_, ?_⟩⟩
  · exact ⟨rfl, rfl, rfl, ⟨_, rfl⟩, Sub.add hp _, [], put_get _ _ _, List.nil_sublist _⟩
  rintro k m' H' ⟨h0, h1, h2, ⟨b, h3⟩, sb, ys, hp', hy⟩ hk
  have hyl : ys.length ≤ k := Nat.le_trans hy.length_le (List.length_take_le _ _)
  refine ⟨sb _ _ ha, fun x hx => ?_, fun e => ?_⟩
  · obtain ⟨n, hn, rfl⟩ := getElem?_strs hx
    have ek : xs.take (k + 1) = xs.take k ++ [n] := by rw [List.take_add_one, hn]; rfl
    refine ⟨_, h3, by decide, val_k (eq_int ?_)⟩
    refine ite_intro _ (fun q => ?_) fun q => ?_
    · refine ⟨_, h2, .list hp', _, rfl, p, _, _, rfl, hp', by rw [List.length_map, sizeLine_is]; have := hk; rw [List.length_map] at this; lia, fun _ h => (nomatch h), _, h3, by decide, by decide, ?_⟩
      refine ⟨h0, h1, h2, ⟨_, rfl⟩, sb.chg hp _, ys ++ [n], ?_, by rw [ek]; exact hy.append (List.Sublist.refl _)⟩
      show (AH.put _ _ _) p = _
      rw [put_get]; simp
    · exact ⟨_, h3, by decide, by decide, h0, h1, h2, ⟨_, rfl⟩, sb, ys, hp', by rw [ek]; exact hy.trans (List.sublist_append_left _ _)⟩
  · -- behind the loop
    have hyx : ys.length ≤ xs.length := by rw [e, List.length_map] at hyl; exact hyl
    have hyd : xs.Nodup → ys.Nodup := fun hd => hd.sublist (hy.trans (List.take_sublist _ _))
    have hy : ∀ n ∈ ys, n ∈ xs := fun n hn => List.mem_of_mem_take (hy.subset hn)
    have tail : ∀ (m2 : Mp) (H2 : AH) (r : Addr) (zs : List Str), m2 1 = some (.int c) → m2 2 = some (.ref r) → Sub H H2 → H r = none → LS H2 r zs → (∀ n ∈ zs, n ∈ xs) → zs.length ≤ xs.length → (xs.Nodup → zs.Nodup) →
        tIf (tCmpB aEq (tBin aMod (tLoc 1) (tVal (.int 2))) (tVal (.int 1))) (tRev (tLoc 2)) (tLoc 2) m2 H2 Q X := by
      intro m2 H2 r zs g1 g2 s2 hr hz hzx hzl hzd
      refine ⟨_, g1, by decide, val_k (eq_int ?_)⟩
      refine ite_intro _ (fun q => ?_) fun q => ?_
      · refine ⟨_, g2, _, hz, fun r3 hr3 => fin r3 zs.reverse _ (s2.trans (Sub.add hr3 _)) (s2.new hr3) ?_ (fun n hn => hzx n (by simpa using hn)) (by simpa using hzl) (fun hd => (List.reverse_perm zs).nodup_iff.mpr (hzd hd))⟩
        show (AH.put _ _ _) r3 = _
        rw [put_get, List.map_reverse]
      · exact ⟨_, g2, fin r zs H2 s2 hr hz hzx hzl hzd⟩
    refine ⟨_, h2, Nat.zero_le _, fun r1 hr1 => eq_LS (ys := []) (hp'.sub (Sub.add hr1 _)) (put_get _ _ _) ?_⟩
    have s1 := sb.trans (Sub.add hr1 (.list []))
    refine ite_intro _ (fun q => ?_) fun q => ?_
    · refine ⟨_, h1, by decide, ?_⟩
      refine ite_intro (decide ((0 : Int) < c % 4)) (fun q2 => ?_) fun q2 => ?_
      · obtain ⟨x, hx1, hx2⟩ := idx_mem (xs := xs.map AV.str) (k := c % ((xs.map AV.str).length : Int)) (Int.emod_nonneg _ (by simp; lia)) (Int.emod_lt_of_pos _ (by simp; lia))
        obtain ⟨n, hn, rfl⟩ := List.mem_map.mp hx2
        refine ⟨_, h0, _, h1, _, h0, _, rfl, _, s1 _ _ ha, by simp; lia, _, s1 _ _ ha, _, hx1, by simp, fun r2 hr2 => ?_⟩
        exact tail _ _ r2 [n] h1 rfl (s1.trans (Sub.add hr2 _)) (s1.new hr2) (put_get _ _ _) (fun z hz => by rw [show z = n by simpa using hz]; exact hn) (by simp; lia) (fun _ => by simp)
      · exact tail _ _ p ys h1 h2 s1 hp (hp'.sub (Sub.add hr1 _)) hy hyx hyd
    · exact tail _ _ p ys h1 h2 s1 hp (hp'.sub (Sub.add hr1 _)) hy hyx hyd
end Mine
end
-- text S7
section
set_option autoImplicit false
set_option linter.unusedVariables false
namespace Mine
open PySem
set_option maxRecDepth 10000
theorem getElem?_ints {n : Int} {k : Nat} {v : AV} (h : ((intsFrom 0 n).map AV.int)[k]? = some v) : k < n.toNat ∧ v = .int k := by
  unfold intsFrom at h
  rw [List.map_map, List.getElem?_map] at h
  by_cases hk : k < n.toNat
  · rw [List.getElem?_range (by simpa using hk)] at h
    simp at h
    exact ⟨hk, h.symm⟩
  · rw [List.getElem?_eq_none (by simp; lia)] at h
    cases h
theorem compJ_range {m : Mp} {i : Nat} {te : Tm} {r : Addr} {H : AH} {Q : QV} {n : Int} (hr : H r = some (.range 0 n)) (f : Nat → AV)
    (step : ∀ k : Nat, k < n.toNat → ∀ Q' : QV, Q' (f k) H → te (m.upd i (.int k)) H Q' noX)
    (fin : ∀ a, H a = none → Q (.ref a) (H.put a (.list ((List.range n.toNat).map f)))) : CompJ m i (tBoolNil true) te (.ref r) H Q := by
  refine compJ_list (kd := .range) (xs := (intsFrom 0 n).map AV.int) (ys := (List.range n.toNat).map f) ⟨0, n, hr, rfl⟩ (by simp [intsFrom]) (fun k x y hx hy Q' hQ => ?_) fin
  obtain ⟨hk, rfl⟩ := getElem?_ints hx
  rw [List.getElem?_map, List.getElem?_range hk] at hy
  cases hy
  exact step k hk Q' hQ
noncomputable def letters : Str := Str.ofString "abcdefghijklmnopqrstuvwxyz"
noncomputable def lts : List Nat := letters.cps.toList
theorem lts_len : lts.length = 26 := by decide +kernel
theorem lts_nodup : lts.Nodup := by decide +kernel
theorem letters_len : letters.length = 26 := by decide +kernel
theorem nodup_map {α : Type} (f : Nat → α) (n : Nat) (h : ∀ i j, i < n → j < n → f i = f j → i = j) : ((List.range n).map f).Nodup := by
  refine List.pairwise_map.mpr (List.Pairwise.imp_of_mem (fun {a b} ha hb hab e => ?_) List.nodup_range)
  exact hab (h a b (List.mem_range.mp ha) (List.mem_range.mp hb) e)
theorem str_ext {x y : Str} (h : x = y) : x.cps.toList = y.cps.toList := by rw [h]
theorem lts_inj {i j : Nat} (hi : i < 26) (hj : j < 26) (h : lts[i]? = lts[j]?) : i = j := by
  have hi' : i < lts.length := by rw [lts_len]; exact hi
  have hj' : j < lts.length := by rw [lts_len]; exact hj
  exact (List.getElem?_inj hi' lts_nodup).mp h
noncomputable def nm1 (q : Int) (k : Nat) : Str := ⟨(cut (⟨(cut lts (some q) none).toArray⟩ : Str).cps.toList none (some ((k : Int) + 1))).toArray⟩
noncomputable def turned (q : Int) : Str := ⟨(cut (⟨(cut lts (some q) none).toArray⟩ : Str).cps.toList none (some 8)).toArray⟩
noncomputable def nm2 (q : Int) (k : Nat) : Str := (⟨(cut (turned q).cps.toList (some (k : Int)) none).toArray⟩ : Str) ++ (⟨(cut (turned q).cps.toList none (some (k : Int))).toArray⟩ : Str)
noncomputable def nm3 (b : Str) (at_ c : Int) (x : Nat → Nat) (k : Nat) : Str := ((⟨(cut b.cps.toList none (some at_)).toArray⟩ : Str) ++ (⟨#[x k]⟩ : Str)) ++ (⟨(cut b.cps.toList (some at_) none).toArray⟩ : Str)
theorem nm1_inj {q : Int} (h0 : 0 ≤ q) (h1 : q < 18) {i j : Nat} (hi : i < 7) (hj : j < 7) (e : nm1 q i = nm1 q j) : i = j := by
  have := congrArg List.length (str_ext e)
  unfold nm1 at this
  simp only [List.toList_toArray] at this
  have hq : 8 ≤ 26 - q.toNat := by lia
  have ht : ∀ k : Nat, k < 7 → (cut (cut lts (some q) none) none (some ((k : Int) + 1))).length = k + 1 := fun k hk => by
    rw [show (k : Int) + 1 = ((k + 1 : Nat) : Int) from rfl, cut_upto _ (Int.natCast_nonneg _), cut_from _ h0, List.length_take, List.length_drop, lts_len]
    exact Nat.min_eq_left (Nat.le_trans hk (Nat.le_of_succ_le hq))
  rw [ht i hi, ht j hj] at this
  exact Nat.succ.inj this
theorem app_cps (x y : Str) : (x ++ y).cps.toList = x.cps.toList ++ y.cps.toList := by
  show (x.cps ++ y.cps).toList = _
  simp
theorem nm2_inj {q : Int} (h0 : 0 ≤ q) (h1 : q < 18) {i j : Nat} (hi : i < 7) (hj : j < 7) (e : nm2 q i = nm2 q j) : i = j := by
  have h := str_ext e
  have hd : ∀ k : Nat, k < 7 → (nm2 q k).cps.toList[0]? = lts[q.toNat + k]? := by
    intro k hk
    unfold nm2 turned
    rw [app_cps]
    simp only [List.toList_toArray]
    have hl : 8 ≤ (lts.drop q.toNat).length := by rw [List.length_drop, lts_len]; lia
    rw [cut_upto _ (by decide), cut_from _ h0, cut_from _ (Int.natCast_nonneg k)]
    rw [show (8 : Int).toNat = 8 from rfl, Int.toNat_natCast, List.getElem?_append_left (by rw [List.length_drop, List.length_take, Nat.min_eq_left hl]; exact Nat.sub_pos_of_lt (Nat.lt_succ_of_lt hk)), List.getElem?_drop, List.getElem?_take]
    rw [Nat.add_zero, if_pos (Nat.lt_succ_of_lt hk), List.getElem?_drop]
  have h' : (nm2 q i).cps.toList[0]? = (nm2 q j).cps.toList[0]? := by rw [h]
  rw [hd i hi, hd j hj] at h'
  have := lts_inj (by lia) (by lia) h'
  lia
theorem nm3_inj {b : Str} {at_ c : Int} {x : Nat → Nat} (hx : ∀ i j, i < 7 → j < 7 → x i = x j → i = j) {i j : Nat} (hi : i < 7) (hj : j < 7) (e : nm3 b at_ c x i = nm3 b at_ c x j) : i = j := by
  have h := str_ext e
  unfold nm3 at h
  rw [app_cps, app_cps, app_cps, app_cps] at h
  simp only [List.toList_toArray, List.append_assoc] at h
  have h2 := List.append_cancel_left h
  have : x i = x j := by simpa using h2
  exact hx i j hi hj this
theorem letter_inj (c : Int) {i j : Nat} (hi : i < 7) (hj : j < 7) (e : lts[((c + 3 * (i : Int)) % 26).toNat]? = lts[((c + 3 * (j : Int)) % 26).toNat]?) : i = j := by
  have := lts_inj (by lia) (by lia) e
  lia
noncomputable def Nm (x : Str) : Prop := 1 ≤ x.length ∧ x.length ≤ 8 ∧ ∀ c ∈ x.cps.toList, c ∈ lts
theorem Nm.of {x : Str} {l : List Nat} (e : x.cps.toList = l) (h1 : 1 ≤ l.length) (h2 : l.length ≤ 8) (h3 : ∀ c ∈ l, c ∈ lts) : Nm x := by
  subst e
  exact ⟨by simpa [Str.length] using h1, by simpa [Str.length] using h2, h3⟩
theorem nm1_ok {q : Int} (h0 : 0 ≤ q) (h1 : q < 18) {k : Nat} (hk : k < 7) : Nm (nm1 q k) := by
  have e : (nm1 q k).cps.toList = (lts.drop q.toNat).take (k + 1) := by
    unfold nm1
    simp only [List.toList_toArray]
    rw [show (k : Int) + 1 = ((k + 1 : Nat) : Int) from rfl, cut_upto _ (Int.natCast_nonneg _), cut_from _ h0, Int.toNat_natCast]
  have hl : ((lts.drop q.toNat).take (k + 1)).length = k + 1 := by rw [List.length_take, List.length_drop, lts_len]; lia
  exact .of e (by lia) (by lia) fun c hc => List.mem_of_mem_drop (List.mem_of_mem_take hc)
theorem nm2_ok {q : Int} (h0 : 0 ≤ q) (h1 : q < 18) {k : Nat} (hk : k < 7) : Nm (nm2 q k) := by
  have e : (nm2 q k).cps.toList = ((lts.drop q.toNat).take 8).drop k ++ ((lts.drop q.toNat).take 8).take k := by
    unfold nm2 turned
    rw [app_cps]
    simp only [List.toList_toArray]
    rw [cut_upto _ (by decide : (0 : Int) ≤ 8), cut_from _ h0, cut_from _ (Int.natCast_nonneg k), cut_upto _ (Int.natCast_nonneg k), Int.toNat_natCast]
    rfl
  have hl : ((lts.drop q.toNat).take 8).length = 8 := by rw [List.length_take, List.length_drop, lts_len]; lia
  have hm : ∀ c ∈ (lts.drop q.toNat).take 8, c ∈ lts := fun c hc => List.mem_of_mem_drop (List.mem_of_mem_take hc)
  generalize (lts.drop q.toNat).take 8 = l at e hl hm
  refine .of e ?_ ?_ fun c hc => ?_
  · rw [List.length_append, List.length_drop, List.length_take, hl]; lia
  · rw [List.length_append, List.length_drop, List.length_take, hl]; lia
  · rcases List.mem_append.mp hc with hc | hc
    · exact hm c (List.mem_of_mem_drop hc)
    · exact hm c (List.mem_of_mem_take hc)
theorem nm3_ok {b : Str} {at_ c : Int} {x : Nat → Nat} (h0 : 0 ≤ at_) (hb : b.length ≤ 7) (hm : ∀ c ∈ b.cps.toList, c ∈ lts) {k : Nat} (hx : x k ∈ lts) : Nm (nm3 b at_ c x k) := by
  have e : (nm3 b at_ c x k).cps.toList = (b.cps.toList.take at_.toNat ++ [x k]) ++ b.cps.toList.drop at_.toNat := by
    unfold nm3
    rw [app_cps, app_cps]
    simp only [List.toList_toArray]
    rw [cut_upto _ h0, cut_from _ h0]
  have hl : b.cps.toList.length ≤ 7 := by simpa [Str.length] using hb
  refine .of e ?_ ?_ fun c hc => ?_
  · rw [List.length_append, List.length_append, List.length_take, List.length_drop]; show 1 ≤ _ + 1 + _; omega
  · rw [List.length_append, List.length_append, List.length_take, List.length_drop]; show _ + 1 + _ ≤ 8; omega
  · rcases List.mem_append.mp hc with hc | hc
    · rcases List.mem_append.mp hc with hc | hc
      · exact hm _ (List.mem_of_mem_take hc)
      · rw [show c = x k by simpa using hc]; exact hx
    · exact hm _ (List.mem_of_mem_drop hc)
theorem join_one : ∀ (ys : List Nat), (Str.join (Str.ofString "") (ys.map fun c => (⟨#[c]⟩ : Str))).cps.toList = ys
  | [] => by simp [Str.join, Str.empty]
  | [y] => by simp [Str.join]
  | y :: z :: r => by
    have ih := join_one (z :: r)
    show ((⟨#[y]⟩ : Str) ++ Str.ofString "" ++ Str.join (Str.ofString "") (List.map (fun c => (⟨#[c]⟩ : Str)) (z :: r))).cps.toList = _
    rw [app_cps, app_cps, ih]
    have : (Str.ofString "").cps.toList = [] := by decide +kernel
    rw [this]; rfl
inductive F_l_namesK (vs : List AV) (H : AH) (Q : QV) : Prop
  | mk (l) (ns) : (vs = [.ref l]) → (H l = some (.script ns)) → (∀ r names H', Sub H H' → H r = none → LS H' r names → names.Nodup → 1 ≤ names.length → names.length ≤ 7 → (∀ n ∈ names, Nm n) → Q (.ref r) H') → F_l_namesK vs H Q
noncomputable def F_l_names : Fn := fun vs H Q _ => F_l_namesK vs H Q
noncomputable def T_l_names : Ts := (tSeq (tAssign 1 (tVal (.str (Str.ofString "abcdefghijklmnopqrstuvwxyz")))) (tSeq (tAssign 2 (tCall F_l_draw (tCons (tLoc 0) (tCons (tVal (.int 0)) tNil)))) (tSeq (tAssign 3 (tBin aAdd (tVal (.int 1)) (tBin aMod (tLoc 2) (tVal (.int 7))))) (tSeq (tIte (tCmpB aEq (tBin aMod (tBin aFdiv (tLoc 2) (tVal (.int 7))) (tVal (.int 4))) (tVal (.int 1))) (tSeq (tRet (tComp (tBcall bRange (tCons (tLoc 3) tNil)) 8 (tBoolNil true) (tSlice (tSlice (tLoc 1) (tBin aMod (tBin aFdiv (tLoc 2) (tVal (.int 28))) (tVal (.int 18))) (tVal .none)) (tVal .none) (tBin aAdd (tLoc 8) (tVal (.int 1)))))) tSkip) tSkip) (tSeq (tIte (tCmpB aEq (tBin aMod (tBin aFdiv (tLoc 2) (tVal (.int 7))) (tVal (.int 4))) (tVal (.int 2))) (tSeq (tAssign 4 (tSlice (tSlice (tLoc 1) (tBin aMod (tBin aFdiv (tLoc 2) (tVal (.int 28))) (tVal (.int 18))) (tVal .none)) (tVal .none) (tVal (.int 8)))) (tSeq (tRet (tComp (tBcall bRange (tCons (tLoc 3) tNil)) 9 (tBoolNil true) (tBin aAdd (tSlice (tLoc 4) (tLoc 9) (tVal .none)) (tSlice (tLoc 4) (tVal .none) (tLoc 9))))) tSkip)) tSkip) (tSeq (tAssign 5 (tBin aMod (tBin aFdiv (tLoc 2) (tVal (.int 28))) (tVal (.int 8)))) (tSeq (tAssign 6 (tMeth "str" bJoin (tVal (.str (Str.ofString ""))) (tCons (tComp (tBcall bRange (tCons (tLoc 5) tNil)) 10 (tBoolNil true) (tItem (tLoc 1) (tBin aMod (tBin aAdd (tBin aFdiv (tLoc 2) (tVal (.int 224))) (tBin aMul (tVal (.int 5)) (tLoc 10))) (tVal (.int 26))))) tNil))) (tSeq (tAssign 7 (tBin aMod (tBin aFdiv (tLoc 2) (tVal (.int 7))) (tBin aAdd (tLoc 5) (tVal (.int 1))))) (tSeq (tRet (tComp (tBcall bRange (tCons (tLoc 3) tNil)) 11 (tBoolNil true) (tBin aAdd (tBin aAdd (tSlice (tLoc 6) (tVal .none) (tLoc 7)) (tItem (tLoc 1) (tBin aMod (tBin aAdd (tBin aFdiv (tLoc 2) (tVal (.int 1000))) (tBin aMul (tVal (.int 3)) (tLoc 11))) (tVal (.int 26))))) (tSlice (tLoc 6) (tLoc 7) (tVal .none))))) tSkip)))))))))
noncomputable def is_l_names : List Nat := [0]
theorem letters_ok : (Str.ofString "abcdefghijklmnopqrstuvwxyz").length ≤ sizeLine := by show letters.length ≤ _; rw [letters_len, sizeLine_is]; decide
theorem cutS_len (x : Str) (lo hi : Option Int) : (⟨(cut x.cps.toList lo hi).toArray⟩ : Str).length ≤ x.length := by
  have := cut_le x.cps.toList lo hi
  show (cut x.cps.toList lo hi).toArray.size ≤ x.cps.size
  simpa using this
theorem join_len : ∀ (ys : List Nat), ((ys.map fun c => (⟨#[c]⟩ : Str)).map (·.length)).sum = ys.length
  | [] => rfl
  | y :: r => by
    have := join_len r
    simp only [List.map_cons, List.sum_cons, List.length_cons, this]
    show 1 + r.length = _; lia
theorem app_len (x y : Str) : (x ++ y).length = x.length + y.length := by
  show (x.cps ++ y.cps).size = _
  simp [Str.length]
theorem join_sz (x : Str) : ∀ ys : List Str, (Str.join x ys).length ≤ (ys.map (·.length)).sum + ys.length * x.length
  | [] => by simp [Str.join, Str.empty, Str.length]
  | [y] => by simp [Str.join]
  | y :: z :: r => by
    have ih := join_sz x (z :: r)
    show (y ++ x ++ Str.join x (z :: r)).length ≤ _
    rw [app_len, app_len]
    simp only [List.map_cons, List.sum_cons, List.length_cons, Nat.add_mul, Nat.one_mul] at ih ⊢
    lia
noncomputable def ltr (j : Int) : Nat := (lts[j.toNat]?).getD 0
theorem idx_ltr {j : Int} (h0 : 0 ≤ j) (h1 : j < 26) : idx lts j = some (ltr j) := by
  have hj : j.toNat < lts.length := by rw [lts_len]; lia
  rw [show idx lts j = lts[j.toNat]? from if_pos h0]
  unfold ltr
  rw [List.getElem?_eq_getElem hj]; rfl
theorem ltr_mem {j : Int} (h0 : 0 ≤ j) (h1 : j < 26) : ltr j ∈ lts := by
  have := idx_ltr h0 h1
  rw [show idx lts j = lts[j.toNat]? from if_pos h0] at this
  exact List.mem_of_getElem? this
theorem ltr_inj {i j : Int} (hi : 0 ≤ i ∧ i < 26) (hj : 0 ≤ j ∧ j < 26) (e : ltr i = ltr j) : lts[i.toNat]? = lts[j.toNat]? := by
  have h1 := idx_ltr hi.1 hi.2
  have h2 := idx_ltr hj.1 hj.2
  rw [show idx lts i = lts[i.toNat]? from if_pos hi.1] at h1
  rw [show idx lts j = lts[j.toNat]? from if_pos hj.1] at h2
  rw [h1, h2, e]
theorem ok_l_names (vs : List AV) (H : AH) (Q : QV) (X : QX) (h : F_l_names vs H Q X) : mkFn is_l_names T_l_names vs H Q X := by
  obtain ⟨l, ns, rfl, hl, fin⟩ := h
  generalize hc : drw ns 0 = c
  have fin2 : ∀ (n : Int) (f : Nat → Str) (H2 : AH) (r : Addr), n = 1 + c % 7 → Sub H H2 → H2 r = none → (∀ i j, i < 7 → j < 7 → f i = f j → i = j) → (∀ i, i < 7 → Nm (f i)) → Q (.ref r) (H2.put r (.list ((List.range n.toNat).map fun k => AV.str (f k)))) := by
    intro n f H2 r hn s2 hr hf hm
    refine fin r ((List.range n.toNat).map f) _ (s2.trans (Sub.add hr _)) (s2.new hr) ?_ (nodup_map f _ fun i j hi hj => hf i j (by lia) (by lia)) (by simp; lia) (by simp; lia) (fun x hx => by
      obtain ⟨k, hk, rfl⟩ := List.mem_map.mp hx
      exact hm k (by have := List.mem_range.mp hk; lia))
    show (AH.put _ _ _) r = _
    rw [put_get, List.map_map]; rfl
  refine ⟨rfl, _, rfl, l, ns, 0, rfl, hl, by decide, ?_⟩
  rw [hc]
  refine ⟨_, rfl, by decide, ?_⟩
  refine ⟨_, rfl, by decide, by decide, by decide, val_k (eq_int ?_)⟩
  refine ite_intro _ (fun q => ?_) fun q => ?_
  · refine ⟨_, rfl, _, rfl, by lia, by lia, fun r0 hr0 => ?_⟩
    have s0 := Sub.add hr0 (.range 0 (1 + c % 7))
    refine compJ_range (put_get _ _ _) (fun k => .str (nm1 (c / 28 % 18) k)) (fun k hk Q' hQ => ?_) fun r hr => fin2 _ (nm1 (c / 28 % 18)) _ r rfl s0 hr (fun i j hi hj => nm1_inj (by lia) (by lia) hi hj) fun i hi => nm1_ok (by lia) (by lia) hi
    refine ⟨_, rfl, _, rfl, by decide, by decide, by decide, _, _, .int _, .none, letters_ok, ?_⟩
    exact ⟨_, rfl, _, _, .none, .int _, Nat.le_trans (cutS_len letters _ _) letters_ok, hQ⟩
  · refine ⟨_, rfl, by decide, by decide, by decide, val_k (eq_int ?_)⟩
    refine ite_intro _ (fun q2 => ?_) fun q2 => ?_
    · refine ⟨_, rfl, _, rfl, by decide, by decide, by decide, _, _, .int _, .none, letters_ok, ?_⟩
      refine ⟨_, _, .none, .int _, Nat.le_trans (cutS_len letters _ _) letters_ok, ?_⟩
      refine ⟨_, rfl, _, rfl, by lia, by lia, fun r0 hr0 => ?_⟩
      have s0 := Sub.add hr0 (.range 0 (1 + c % 7))
      have ht : (turned (c / 28 % 18)).length ≤ 26 := Nat.le_trans (cutS_len ⟨(cut lts (some (c / 28 % 18)) none).toArray⟩ _ _) (Nat.le_trans (cutS_len letters _ _) (by rw [letters_len]; exact Nat.le_refl _))
      refine compJ_range (put_get _ _ _) (fun k => .str (nm2 (c / 28 % 18) k)) (fun k hk Q' hQ => ?_) fun r hr => fin2 _ (nm2 (c / 28 % 18)) _ r rfl s0 hr (fun i j hi hj => nm2_inj (by lia) (by lia) hi hj) fun i hi => nm2_ok (by lia) (by lia) hi
      refine ⟨_, rfl, _, rfl, _, _, .int _, .none, by rw [sizeLine_is]; exact Nat.le_trans ht (by decide), ?_⟩
      refine ⟨_, rfl, _, rfl, _, _, .none, .int _, by rw [sizeLine_is]; exact Nat.le_trans ht (by decide), ?_, hQ⟩
      have h1 := cutS_len (turned (c / 28 % 18)) (some (k : Int)) none
      have h2 := cutS_len (turned (c / 28 % 18)) none (some (k : Int))
      rw [sizeLine_is]
      exact Nat.le_trans (Nat.add_le_add h1 h2) (by lia)
    · refine ⟨_, rfl, by decide, by decide, by decide, ?_⟩
      refine ⟨.str _, _, rfl, _, rfl, by lia, by lia, fun r0 hr0 => ?_⟩
      have s0 := Sub.add hr0 (.range 0 (c / 28 % 8))
      refine compJ_range (put_get _ _ _) (fun k => .str ⟨#[ltr ((c / 224 + 5 * (k : Int)) % 26)]⟩) (fun k hk Q' hQ => ?_) fun r1 hr1 => ?_
      · exact ⟨_, rfl, _, rfl, by decide, by decide, _, rfl, by decide, by decide, _, idx_ltr (by lia) (by lia), letters_ok, hQ⟩
      have s1 := s0.trans (Sub.add hr1 (.list ((List.range (c / 28 % 8).toNat).map fun (k : Nat) => AV.str ⟨#[ltr ((c / 224 + 5 * (k : Int)) % 26)]⟩)))
      let ys : List Nat := (List.range (c / 28 % 8).toNat).map fun (k : Nat) => ltr ((c / 224 + 5 * (k : Int)) % 26)
      have hys : ys.length ≤ 7 := by simp only [ys, List.length_map, List.length_range]; lia
      have e1 : ((ys.map fun c => (⟨#[c]⟩ : Str)).map AV.str) = ((List.range (c / 28 % 8).toNat).map fun (k : Nat) => AV.str ⟨#[ltr ((c / 224 + 5 * (k : Int)) % 26)]⟩) := by
        simp only [ys, List.map_map]; rfl
      have jl := join_sz (Str.ofString "") (ys.map fun c => (⟨#[c]⟩ : Str))
      rw [join_len, List.length_map] at jl
      have em : (Str.ofString "").length = 0 := by decide +kernel
      rw [em] at jl
      refine ⟨_, r1, ys.map fun c => (⟨#[c]⟩ : Str), rfl, by rw [put_get, e1], by rw [join_len, em]; lia, ?_⟩
      generalize hB : Str.join (Str.ofString "") (ys.map fun c => (⟨#[c]⟩ : Str)) = base at *
      have hb : base.length ≤ 7 := by simp only [List.length_range, Nat.mul_zero, Nat.add_zero] at jl; lia
      have hbm : ∀ c ∈ base.cps.toList, c ∈ lts := by
        rw [← hB, join_one]
        intro c hc
        obtain ⟨k, _, rfl⟩ := List.mem_map.mp hc
        exact ltr_mem (by lia) (by lia)
      have hbs : base.length ≤ sizeLine := by rw [sizeLine_is]; lia
      refine ⟨_, rfl, by decide, by decide, _, rfl, by lia, ?_⟩
      refine ⟨_, rfl, _, rfl, by lia, by lia, fun r2 hr2 => ?_⟩
      have s2 := s1.trans (Sub.add hr2 (.range 0 (1 + c % 7)))
      refine compJ_range (put_get _ _ _) (fun k => .str (nm3 base (c / 7 % (c / 28 % 8 + 1)) c (fun k => ltr ((c / 1000 + 3 * (k : Int)) % 26)) k)) (fun k hk Q' hQ => ?_) fun r hr =>
        fin2 _ (nm3 base (c / 7 % (c / 28 % 8 + 1)) c (fun k => ltr ((c / 1000 + 3 * (k : Int)) % 26))) _ r rfl s2 hr (fun i j hi hj => nm3_inj (fun i j hi hj e => letter_inj _ hi hj (ltr_inj (by lia) (by lia) e)) hi hj) fun i hi => nm3_ok (Int.emod_nonneg _ (by lia)) hb hbm (ltr_mem (by lia) (by lia))
      have c1 := cutS_len base none (some (c / 7 % (c / 28 % 8 + 1)))
      have c2 := cutS_len base (some (c / 7 % (c / 28 % 8 + 1))) none
      refine ⟨_, rfl, _, rfl, _, _, .none, .int _, hbs, _, rfl, _, rfl, by decide, by decide, _, rfl, by decide, by decide, _, idx_ltr (by lia) (by lia), letters_ok, ?_, _, rfl, _, rfl, _, _, .int _, .none, hbs, ?_, hQ⟩
      · rw [sizeLine_is]
        exact Nat.le_trans (Nat.add_le_add c1 (Nat.le_refl 1)) (by lia)
      · rw [sizeLine_is]
        exact Nat.le_trans (Nat.add_le_add (Nat.le_of_eq (app_len _ _)) c2) (Nat.le_trans (Nat.add_le_add_right (Nat.add_le_add c1 (Nat.le_refl 1)) _) (by lia))
end Mine
end
-- text B1
section
set_option autoImplicit false
set_option linter.unusedVariables false
namespace Mine
open PySem
set_option maxRecDepth 10000
inductive F_is_nameK (vs : List AV) (H : AH) (Q : QV) : Prop
  | mk (x) : vs = [.str x] → Nm x → (∀ H', Sub H H' → Q (.bool true) H') → F_is_nameK vs H Q
noncomputable def F_is_name : Fn := fun vs H Q _ => F_is_nameK vs H Q
inductive F_risingK (vs : List AV) (H : AH) (Q : QV) : Prop
  | mk (a) (xs) : vs = [.ref a] → LS H a xs → (∀ n ∈ xs, Nm n) → xs.length ≤ 4000 → (∀ r H', Sub H H' → H r = none → LS H' r (sd xs) → Q (.ref r) H') → F_risingK vs H Q
noncomputable def F_rising : Fn := fun vs H Q _ => F_risingK vs H Q
noncomputable def F_need_set : Fn := F_rising
noncomputable def T_is_name : Ts := (tSeq (tIte (tOrB (tNotB (tTruth (tIsi "str" (tLoc 0)))) (tOrB (tNotB (tChain aLe aLe (tVal (.int 1)) (tBcall bLen (tCons (tLoc 0) tNil)) (tVal (.int 8)))) (tBoolNil false))) (tSeq (tRet (tVal (.bool false))) tSkip) tSkip) (tSeq (tRet (tBcall bAll (tCons (tComp (tLoc 0) 1 (tBoolNil true) (tCmp aIn (tLoc 1) (tVal (.str (Str.ofString "abcdefghijklmnopqrstuvwxyz"))))) tNil))) tSkip))
noncomputable def is_is_name : List Nat := [0]
noncomputable def T_rising : Ts := (tSeq (tFor (tLoc 0) 1 (tSeq (tIte (tNotB (tTruth (tCall F_is_name (tCons (tLoc 1) tNil)))) (tSeq tNever tSkip) tSkip) tSkip)) (tSeq (tRet (tBcall bSorted (tCons (tBcall bSet (tCons (tLoc 0) tNil)) tNil))) tSkip))
noncomputable def is_rising : List Nat := [0]
noncomputable def T_need_set : Ts := (tSeq (tIte (tNotB (tTruth (tIsi "list" (tLoc 0)))) (tSeq tNever tSkip) tSkip) (tSeq (tRet (tCall F_rising (tCons (tLoc 0) tNil))) tSkip))
noncomputable def is_need_set : List Nat := [0]
theorem letter_in : ∀ c ∈ lts, Txt.contains (Str.ofString "abcdefghijklmnopqrstuvwxyz") ⟨#[c]⟩ = true := by decide +kernel
theorem le_k {a b : Int} {H : AH} {Q : Bool → AH → Prop} (h : Q (decide (a ≤ b)) H) : aLe (.int a) (.int b) H Q := h
theorem ok_is_name (vs : List AV) (H : AH) (Q : QV) (X : QX) (h : F_is_name vs H Q X) : mkFn is_is_name T_is_name vs H Q X := by
  obtain ⟨x, rfl, ⟨h1, h2, h3⟩, h⟩ := h
  have hz : x.length ≤ sizeLine := by rw [sizeLine_is]; omega
  refine ⟨rfl, _, rfl, true, isi_str, true, rfl, ?_⟩
  refine ⟨_, rfl, _, rfl, hz, le_k ?_⟩
  rw [decide_eq_true (show (1 : Int) ≤ x.length by omega)]
  refine ite_t (val_k (le_k ?_))
  rw [decide_eq_true (show (x.length : Int) ≤ 8 by omega)]
  refine ⟨_, rfl, ?_⟩
  have hs : x.cps.size ≤ 1048576 := by have : x.length = x.cps.size := rfl; omega
  refine compJ_pure (kd := .str) (xs := signs x) ⟨rfl, hs⟩ (fun _ => .bool true) (fun y hy Q' hQ => ?_) fun r hr => ?_
  · obtain ⟨c, hc, rfl⟩ := List.mem_map.mp hy
    refine ⟨_, Mp.upd_self _ _ _, ?_⟩
    show Q' (.bool (Txt.contains _ _)) H
    rw [letter_in c (h3 c hc)]; exact hQ
  · have e : List.map (fun _ => AV.bool true) (signs x) = ((signs x).map fun _ => true).map AV.bool := by rw [List.map_map]; rfl
    have e2 : (((signs x).map fun _ => true).all id) = true := by rw [List.all_map]; simp
    rw [e]
    refine ⟨r, _, rfl, put_get _ _ _, ?_⟩
    rw [e2]; exact h _ (Sub.add hr _)
theorem ok_rising (vs : List AV) (H : AH) (Q : QV) (X : QX) (h : F_rising vs H Q X) : mkFn is_rising T_rising vs H Q X := by
  obtain ⟨a, xs, rfl, ha, hn, hl, h⟩ := h
  refine ⟨rfl, _, rfl, .list, xs.map AV.str, ha, fun k m' H' => m' 0 = some (.ref a) ∧ Sub H H', ⟨rfl, .refl _⟩, ?_⟩
  rintro k m' H' ⟨v0, sb⟩ hk
  refine ⟨sb _ _ ha, fun y hy => ?_, fun e => ?_⟩
  · rw [List.getElem?_map] at hy
    cases e : xs[k]? with
    | none => rw [e] at hy; cases hy
    | some n =>
      rw [e] at hy; cases hy
      refine ⟨_, Mp.upd_self _ _ _, n, rfl, hn n (List.mem_of_getElem? e), fun H2 s2 => ⟨true, rfl, ?_⟩⟩
      exact ⟨(Mp.upd_ne _ _ (by decide)).trans v0, sb.trans s2⟩
  · refine ⟨_, v0, a, xs, rfl, sb _ _ ha, hl, fun r1 hr1 => ⟨r1, _, rfl, put_get _ _ _, fun r2 hr2 => ?_⟩⟩
    have s1 := sb.trans (Sub.add hr1 (.sset (dedup xs)))
    exact h r2 _ (s1.trans (Sub.add hr2 _)) (s1.new hr2) (put_get _ _ _)
theorem ok_need_set (vs : List AV) (H : AH) (Q : QV) (X : QX) (h : F_need_set vs H Q X) : mkFn is_need_set T_need_set vs H Q X := by
  obtain ⟨a, xs, rfl, ha, hn, hl, h⟩ := h
  refine ⟨rfl, _, rfl, true, isi_list ha, true, rfl, ?_⟩
  exact ⟨_, rfl, a, xs, rfl, ha, hn, hl, h⟩
end Mine
end
-- text B2
section
set_option autoImplicit false
set_option linter.unusedVariables false
namespace Mine
open PySem
set_option maxRecDepth 10000
structure Bk where
  a : Addr
  d : Addr
  k : Addr
  rs : List (Int × Addr × List Str)
  c : Int
noncomputable def Bk.sets (B : Bk) : List (List Str) := B.rs.map (·.2.2)
noncomputable abbrev bkAttrs (k : Addr) (c : Int) : List (Str × AV) := [(Str.ofString "kept", .ref k), (Str.ofString "coming", .int c)]
noncomputable abbrev bkDict (rs : List (Int × Addr × List Str)) : List (Int × AV) := rs.map fun r => (r.1, AV.ref r.2.1)
structure BookAt (H : AH) (B : Bk) : Prop where
  inst : H B.a = some (.inst B.d)
  attrs : H B.d = some (.attrs (bkAttrs B.k B.c))
  kept : H B.k = some (.idict (bkDict B.rs))
  rows : ∀ r ∈ B.rs, LS H r.2.1 r.2.2
  inc : (B.rs.map (·.1)).Pairwise (· < ·)
  lt : ∀ r ∈ B.rs, r.1 < B.c
  nm : ∀ r ∈ B.rs, ∀ n ∈ r.2.2, Nm n
  ris : ∀ r ∈ B.rs, Ris r.2.2
  len : B.rs.length ≤ 30
  rl : ∀ r ∈ B.rs, r.2.2.length ≤ 12
theorem BookAt.keep {H K : AH} {B : Bk} (h : BookAt H B) (k : ∀ x o, (x = B.a ∨ x = B.d ∨ x = B.k ∨ ∃ r ∈ B.rs, x = r.2.1) → H x = some o → K x = some o) : BookAt K B :=
  ⟨k _ _ (.inl rfl) h.inst, k _ _ (.inr (.inl rfl)) h.attrs, k _ _ (.inr (.inr (.inl rfl))) h.kept, fun r hr => k _ _ (.inr (.inr (.inr ⟨r, hr, rfl⟩))) (h.rows r hr), h.inc, h.lt, h.nm, h.ris, h.len, h.rl⟩
theorem BookAt.sub {H K : AH} {B : Bk} (h : BookAt H B) (s : Sub H K) : BookAt K B := h.keep fun x o _ e => s x o e
theorem BookAt.set {H : AH} {B : Bk} (h : BookAt H B) : ∀ x ∈ B.sets, Ris x ∧ (∀ n ∈ x, Nm n) ∧ x.length ≤ 12 := fun x hx => by
  obtain ⟨r, hr, rfl⟩ := List.mem_map.mp hx
  exact ⟨h.ris r hr, h.nm r hr, h.rl r hr⟩
theorem Bk.sets_len (B : Bk) : B.sets.length = B.rs.length := List.length_map _
theorem pick {τ : Type} (g : τ → AV) : ∀ {ys : List AV} {R : Nat → τ → Prop}, (∀ (k : Nat) y, ys[k]? = some y → ∃ t, y = g t ∧ R k t) → ∃ ts : List τ, ys = ts.map g ∧ ∀ (k : Nat) t, ts[k]? = some t → R k t
  | [], R, _ => ⟨[], rfl, fun k t e => by simp at e⟩
  | y :: ys, R, h => by
    obtain ⟨t, rfl, h0⟩ := h 0 y rfl
    obtain ⟨ts, rfl, h1⟩ := pick g (ys := ys) (R := fun k t => R (k + 1) t) fun k y e => h (k + 1) y (by simpa using e)
    refine ⟨t :: ts, rfl, fun k u e => ?_⟩
    cases k with
    | zero => simp at e; subst e; exact h0
    | succ k => exact h1 k u (by simpa using e)
theorem sortI_inc {xs : List Int} (h : xs.Pairwise (· < ·)) : sortI xs = xs := by
  unfold sortI
  induction xs with
  | nil => rfl
  | cons x r ih =>
    obtain ⟨h1, h2⟩ := List.pairwise_cons.mp h
    show insB _ x (isort _ r) = _
    rw [ih h2]
    cases r with
    | nil => rfl
    | cons y q =>
      show (if decide (x < y) = true then x :: y :: q else y :: insB _ x q) = _
      rw [if_pos (decide_eq_true (h1 y (.head _)))]
theorem dict_at {rs : List (Int × Addr × List Str)} (h : (rs.map (·.1)).Pairwise (· < ·)) {k : Nat} {r : Int × Addr × List Str} (e : rs[k]? = some r) : (bkDict rs).lookup r.1 = some (.ref r.2.1) := by
  induction rs generalizing k with
  | nil => simp at e
  | cons p q ih =>
    obtain ⟨h1, h2⟩ := List.pairwise_cons.mp h
    show List.lookup r.1 ((p.1, AV.ref p.2.1) :: bkDict q) = _
    rw [List.lookup_cons]
    cases k with
    | zero => simp at e; subst e; simp
    | succ k =>
      have e : q[k]? = some r := by simpa using e
      have lt : p.1 < r.1 := h1 r.1 (List.mem_map.mpr ⟨r, List.mem_of_getElem? e, rfl⟩)
      have ne : (r.1 == p.1) = false := by
        have : r.1 ≠ p.1 := by omega
        simpa using this
      rw [ne]; exact ih h2 e
inductive F_b_rowsK (vs : List AV) (H : AH) (Q : QV) : Prop
  | mk (B) : vs = [.ref B.a] → BookAt H B → (∀ (ts : List (Addr × Addr)) r H', Sub H H' → H r = none → ts.length = B.rs.length → H' r = some (.list (ts.map fun t => AV.ref t.1)) →
      (∀ (k : Nat) t, ts[k]? = some t → ∃ u, B.rs[k]? = some u ∧ H' t.1 = some (.tuple [.int u.1, .ref t.2]) ∧ LS H' t.2 u.2.2 ∧ H t.1 = none ∧ H t.2 = none) → Q (.ref r) H') → F_b_rowsK vs H Q
noncomputable def F_b_rows : Fn := fun vs H Q _ => F_b_rowsK vs H Q
inductive F_b_all_setsK (vs : List AV) (H : AH) (Q : QV) : Prop
  | mk (B) : vs = [.ref B.a] → BookAt H B → (∀ bs r H', Sub H H' → New H bs → H r = none → RL H' r bs → LAll H' bs B.sets → Q (.ref r) H') → F_b_all_setsK vs H Q
noncomputable def F_b_all_sets : Fn := fun vs H Q _ => F_b_all_setsK vs H Q
inductive F_b_namesK (vs : List AV) (H : AH) (Q : QV) : Prop
  | mk (B) : vs = [.ref B.a] → BookAt H B → (∀ r H', Sub H H' → H r = none → LS H' r (sd B.sets.flatten) → Q (.ref r) H') → F_b_namesK vs H Q
noncomputable def F_b_names : Fn := fun vs H Q _ => F_b_namesK vs H Q
inductive F_b_least_rowsK (vs : List AV) (H : AH) (Q : QV) : Prop
  | mk (B) : vs = [.ref B.a] → BookAt H B → (∀ bs r H', Sub H H' → New H bs → H r = none → RL H' r bs → LAll H' bs (least (B.sets.map sd)) → Q (.ref r) H') → F_b_least_rowsK vs H Q
noncomputable def F_b_least_rows : Fn := fun vs H Q _ => F_b_least_rowsK vs H Q
noncomputable def T_b_rows : Ts := (tSeq (tRet (tComp (tBcall bSorted (tCons (tAttr (Str.ofString "kept") (tLoc 0)) tNil)) 1 (tBoolNil true) (tTuple (tCons (tLoc 1) (tCons (tBcall bList (tCons (tItem (tAttr (Str.ofString "kept") (tLoc 0)) (tLoc 1)) tNil)) tNil))))) tSkip)
noncomputable def is_b_rows : List Nat := [0]
noncomputable def T_b_all_sets : Ts := (tSeq (tRet (tComp (tMcall (Str.ofString "rows") F_b_rows (tLoc 0) tNil) 1 (tBoolNil true) (tItem (tLoc 1) (tVal (.int 1))))) tSkip)
noncomputable def is_b_all_sets : List Nat := [0]
noncomputable def T_b_names : Ts := (tSeq (tAssign 1 (tList tNil)) (tSeq (tFor (tMcall (Str.ofString "all_sets") F_b_all_sets (tLoc 0) tNil) 2 (tSeq (tExpr (tMeth "list" bExtend (tLoc 1) (tCons (tLoc 2) tNil))) tSkip)) (tSeq (tRet (tCall F_rising (tCons (tLoc 1) tNil))) tSkip)))
noncomputable def is_b_names : List Nat := [0]
noncomputable def T_b_least_rows : Ts := (tSeq (tRet (tCall F_least_of (tCons (tMcall (Str.ofString "all_sets") F_b_all_sets (tLoc 0) tNil) tNil))) tSkip)
noncomputable def is_b_least_rows : List Nat := [0]
theorem ok_b_rows (vs : List AV) (H : AH) (Q : QV) (X : QX) (h : F_b_rows vs H Q X) : mkFn is_b_rows T_b_rows vs H Q X := by
  obtain ⟨B, rfl, hB, fin⟩ := h
  refine ⟨rfl, _, rfl, B.a, B.d, _, _, rfl, hB.inst, hB.attrs, by kernel_rfl, B.k, _, rfl, hB.kept, fun r0 hr0 => ?_⟩
  have s0 := Sub.add hr0 (.list ((sortI ((bkDict B.rs).map (·.1))).map AV.int))
  have e0 : sortI ((bkDict B.rs).map (·.1)) = B.rs.map (·.1) := by
    rw [List.map_map]; exact sortI_inc hB.inc
  refine compJ_sub (kd := .list) (xs := (B.rs.map (·.1)).map AV.int) (by rw [← e0]; exact put_get _ _ _)
    (fun k y H' => ∃ t : Addr × Addr, y = .ref t.1 ∧ ∃ u, B.rs[k]? = some u ∧ H' t.1 = some (.tuple [.int u.1, .ref t.2]) ∧ LS H' t.2 u.2.2 ∧ H t.1 = none ∧ H t.2 = none) ?_ (fun k x H' sb hx Q' hQ => ?_) fun ys H' sb hl hy r hr => ?_
  · rintro k y K1 K2 ⟨t, h1, u, h2, h3, h4, h5⟩ s
    exact ⟨t, h1, u, h2, s _ _ h3, s _ _ h4, h5⟩
  · rw [List.map_map, List.getElem?_map] at hx
    cases e : B.rs[k]? with
    | none => rw [e] at hx; cases hx
    | some u =>
      rw [e] at hx
      have hx : x = .int u.1 := (Option.some.inj hx).symm
      subst hx
      have hB' := hB.sub (s0.trans sb)
      refine ⟨_, Mp.upd_self _ _ _, _, rfl, B.a, B.d, _, .ref B.k, rfl, hB'.inst, hB'.attrs, by kernel_rfl, _, Mp.upd_self _ _ _, _, hB'.kept, _, dict_at hB.inc e, _, _, rfl, hB'.rows u (List.mem_of_getElem? e), fun r1 hr1 => ?_⟩
      have s1 := Sub.add hr1 (.list (u.2.2.map AV.str))
      refine ⟨by simp, fun r2 hr2 => ?_⟩
      have s2 := s1.trans (Sub.add hr2 (.tuple [.int u.1, .ref r1]))
      exact hQ _ _ s2 ⟨(r2, r1), rfl, u, e, put_get _ _ _, Sub.add hr2 _ _ _ (put_get _ _ _), ((s0.trans sb).trans s1).new hr2, (s0.trans sb).new hr1⟩
  · obtain ⟨ts, rfl, ht⟩ := pick (fun t : Addr × Addr => AV.ref t.1) hy
    rw [List.length_map, List.length_map, List.length_map] at hl
    have s3 := Sub.add hr (.list (ts.map fun t : Addr × Addr => AV.ref t.1))
    refine fin ts r _ ((s0.trans sb).trans s3) ((s0.trans sb).new hr) hl (put_get _ _ _) fun k t e => ?_
    obtain ⟨u, h2, h3, h4, h5⟩ := ht k t e
    exact ⟨u, h2, s3 _ _ h3, s3 _ _ h4, h5⟩
theorem ok_b_all_sets (vs : List AV) (H : AH) (Q : QV) (X : QX) (h : F_b_all_sets vs H Q X) : mkFn is_b_all_sets T_b_all_sets vs H Q X := by
  obtain ⟨B, rfl, hB, fin⟩ := h
  refine ⟨rfl, _, rfl, B.a, B.d, _, rfl, hB.inst, hB.attrs, by kernel_rfl, B, rfl, hB, fun ts r0 H0 s0 n0 hl h0 ht => ?_⟩
  refine compJ_list (kd := .list) (xs := ts.map fun t : Addr × Addr => AV.ref t.1) (ys := ts.map fun t : Addr × Addr => AV.ref t.2) h0 (by simp) (fun k x y hx hy Q' hQ => ?_) fun r hr => ?_
  · rw [List.getElem?_map] at hx hy
    cases e : ts[k]? with
    | none => rw [e] at hx; cases hx
    | some t =>
      rw [e] at hx hy; cases hx; cases hy
      obtain ⟨u, h2, h3, h4, h5⟩ := ht k t e
      exact ⟨_, Mp.upd_self _ _ _, _, h3, _, rfl, hQ⟩
  · have s1 := Sub.add hr (.list (ts.map fun t : Addr × Addr => AV.ref t.2))
    refine fin (ts.map (·.2)) r _ (s0.trans s1) (fun b hb => ?_) (s0.new hr) ?_ (LAll.of (by simp [Bk.sets, hl]) fun k a xs e1 e2 => ?_)
    · obtain ⟨t, htm, rfl⟩ := List.mem_map.mp hb
      obtain ⟨k, hk, e⟩ := List.mem_iff_getElem.mp htm
      obtain ⟨u, h2, h3, h4, h5, h6⟩ := ht k t (by rw [List.getElem?_eq_getElem hk, e])
      exact h6
    · show (AH.put _ _ _) r = _
      rw [put_get, List.map_map]; rfl
    · rw [List.getElem?_map] at e1
      cases e : ts[k]? with
      | none => rw [e] at e1; cases e1
      | some t =>
        rw [e] at e1; cases e1
        obtain ⟨u, h2, h3, h4, h5⟩ := ht k t e
        unfold Bk.sets at e2
        rw [List.getElem?_map, h2] at e2; cases e2
        exact s1 _ _ h4
theorem flatten_len {F : List (List Str)} {n : Nat} (h : ∀ x ∈ F, x.length ≤ n) : F.flatten.length ≤ F.length * n := by
  induction F with
  | nil => simp
  | cons x r ih =>
    have h1 := h x (.head _)
    have h2 := ih fun y hy => h y (.tail _ hy)
    rw [List.flatten_cons, List.length_append, List.length_cons, Nat.add_mul, Nat.one_mul]; omega
theorem take_flat {F : List (List Str)} {k : Nat} {x : List Str} (e : F[k]? = some x) : (F.take (k + 1)).flatten = (F.take k).flatten ++ x := by
  rw [List.take_add_one, e]; simp
theorem ok_b_names (vs : List AV) (H : AH) (Q : QV) (X : QX) (h : F_b_names vs H Q X) : mkFn is_b_names T_b_names vs H Q X := by
  obtain ⟨B, rfl, hB, fin⟩ := h
  have fl : ∀ k, ((B.sets.take k).flatten).length ≤ 360 := fun k => by
    have h1 := flatten_len (F := B.sets.take k) (n := 12) fun x hx => (hB.set x (List.mem_of_mem_take hx)).2.2
    have h2 : (B.sets.take k).length ≤ 30 := by rw [List.length_take, Bk.sets_len]; have := hB.len; omega
    have := Nat.mul_le_mul_right 12 h2
    omega
  refine ⟨rfl, Nat.zero_le _, fun p hp => ?_⟩
  have sp := Sub.add hp (.list [])
  refine ⟨_, rfl, B.a, B.d, _, rfl, sp _ _ hB.inst, sp _ _ hB.attrs, by kernel_rfl, B, rfl, hB.sub sp, fun bs r0 H0 s0 nb n0 h0 hA => ?_⟩
  have np : ∀ b ∈ bs, b ≠ p := fun b hb e => by subst e; have := nb b hb; rw [put_get] at this; cases this
  have nr : r0 ≠ p := fun e => by subst e; rw [put_get] at n0; cases n0
  have sH : Sub H H0 := sp.trans s0
  refine ⟨.list, bs.map AV.ref, h0, fun k m' H' => m' 1 = some (.ref p) ∧ LS H' p (B.sets.take k).flatten ∧ (∀ x o, x ≠ p → H0 x = some o → H' x = some o), ⟨rfl, s0 _ _ (put_get _ _ _), fun _ _ _ e => e⟩, ?_⟩
  rintro k m' H' ⟨v1, hp', kp⟩ hk
  refine ⟨kp _ _ nr h0, fun y hy => ?_, fun e => ?_⟩
  · obtain ⟨c, hc, rfl⟩ := getElem?_refs hy
    obtain ⟨xs, hx, hcx⟩ := hA.get hc
    have hc' := kp _ _ (np c (List.mem_of_getElem? hc)) hcx
    have fk := fl (k + 1)
    rw [take_flat hx, List.length_append] at fk
    refine ⟨_, (Mp.upd_ne _ _ (by decide)).trans v1, .list hp', _, Mp.upd_self _ _ _, p, c, _, _, rfl, hp', hc', by rw [List.length_map, List.length_map, sizeLine_is]; omega, fun _ h => (nomatch h), (Mp.upd_ne _ _ (by decide)).trans v1, ?_, fun x o nx e => (AH.put_ne _ _ nx).trans (kp x o nx e)⟩
    show (AH.put _ _ _) p = _
    rw [put_get, take_flat hx, List.map_append]
  · have hk' : (B.sets.take k).flatten = B.sets.flatten := by
      rw [List.length_map] at e
      rw [List.take_of_length_le (by rw [e, hA.length]; exact Nat.le_refl _)]
    have fk := fl k
    rw [hk'] at hp' fk
    have sub : Sub H H' := fun x o ex => kp x o (ne_new hp ex) (sH _ _ ex)
    refine ⟨_, v1, p, B.sets.flatten, rfl, hp', fun n hn => ?_, by omega, fun r H2 s2 nr2 hr => fin r H2 (sub.trans s2) (sub.new nr2) hr⟩
    obtain ⟨x, hx, hnx⟩ := List.mem_flatten.mp hn
    exact (hB.set x hx).2.1 n hnx
theorem ok_b_least_rows (vs : List AV) (H : AH) (Q : QV) (X : QX) (h : F_b_least_rows vs H Q X) : mkFn is_b_least_rows T_b_least_rows vs H Q X := by
  obtain ⟨B, rfl, hB, fin⟩ := h
  refine ⟨rfl, _, rfl, B.a, B.d, _, rfl, hB.inst, hB.attrs, by kernel_rfl, B, rfl, hB, fun bs r0 H0 s0 nb n0 h0 hA => ?_⟩
  refine ⟨r0, B.sets, rfl, ⟨bs, h0, hA⟩, by rw [Bk.sets_len]; have := hB.len; omega, fun x hx => by have := (hB.set x hx).2.2; omega, fun cs r H' s nc nr hr hC => fin cs r H' (s0.trans s) (fun c hc => s0.new (nc c hc)) (s0.new nr) hr hC⟩
end Mine
end
-- text B3
section
set_option autoImplicit false
set_option linter.unusedVariables false
namespace Mine
open PySem
set_option maxRecDepth 10000
structure Chg (H K : AH) (M : Addr → Prop) : Prop where
  keep : ∀ x o, ¬ M x → H x = some o → K x = some o
  dom : ∀ x, K x = none → H x = none
theorem Chg.of_sub {H K : AH} {M : Addr → Prop} (s : Sub H K) : Chg H K M := ⟨fun x o _ e => s x o e, fun x e => s.new e⟩
theorem Chg.refl (H : AH) (M : Addr → Prop) : Chg H H M := ⟨fun _ _ _ e => e, fun _ e => e⟩
theorem Chg.put {H K : AH} {M : Addr → Prop} (x : Chg H K M) {a : Addr} (o : AO) (m : M a) : Chg H (K.put a o) M :=
  ⟨fun b o' n e => (AH.put_ne _ _ fun (q : b = a) => n (by rw [q]; exact m)).trans (x.keep b o' n e), fun b e => x.dom b (by
    by_cases q : b = a
    · rw [q, AH.put_self] at e; cases e
    · rw [AH.put_ne _ _ q] at e; exact e)⟩
inductive F_b_initK (vs : List AV) (H : AH) (Q : QV) : Prop
  | mk (x d) : vs = [.ref x] → H x = some (.inst d) → H d = some (.attrs []) → x ≠ d → (∀ k H', H k = none → Chg H H' (· = d) → BookAt H' ⟨x, d, k, [], 0⟩ → Q .none H') → F_b_initK vs H Q
noncomputable def F_b_init : Fn := fun vs H Q _ => F_b_initK vs H Q
noncomputable def Bk.more (B : Bk) (l : Addr) (row : List Str) : Bk := { B with rs := B.rs ++ [(B.c, l, row)], c := B.c + 1 }
inductive F_b_putK (vs : List AV) (H : AH) (Q : QV) : Prop
  | mk (B : Bk) (r : Addr) (row names : List Str) : vs = [.ref B.a, .ref r] → BookAt H B → LS H r row → row.Nodup → (∀ n ∈ row, Nm n) → B.rs.length < 30 → names.length ≤ 12 → (∀ x ∈ B.sets, ∀ n ∈ x, n ∈ names) → (∀ n ∈ row, n ∈ names) →
      (∀ l H', Chg H H' (fun x => x = B.d ∨ x = B.k) → H l = none → BookAt H' (B.more l (sortS row)) → Q (.int B.c) H') → F_b_putK vs H Q
noncomputable def F_b_put : Fn := fun vs H Q _ => F_b_putK vs H Q
noncomputable def T_b_init : Ts := (tSeq (tAttrSet (Str.ofString "kept") (tLoc 0) tDict0) (tSeq (tAttrSet (Str.ofString "coming") (tLoc 0) (tVal (.int 0))) tSkip))
noncomputable def is_b_init : List Nat := [0]
noncomputable def T_b_put : Ts := (tSeq (tAssign 2 (tCall F_need_set (tCons (tLoc 1) tNil))) (tSeq (tIte (tCmpB aNe (tBcall bLen (tCons (tLoc 2) tNil)) (tBcall bLen (tCons (tLoc 1) tNil))) (tSeq tNever tSkip) tSkip) (tSeq (tIte (tCmpB aEq (tBcall bLen (tCons (tAttr (Str.ofString "kept") (tLoc 0)) tNil)) (tVal (.int 30))) (tSeq tNever tSkip) tSkip) (tSeq (tIte (tCmpB aGt (tBcall bLen (tCons (tBcall bSet (tCons (tBin aAdd (tMcall (Str.ofString "names") F_b_names (tLoc 0) tNil) (tLoc 2)) tNil)) tNil)) (tVal (.int 12))) (tSeq tNever tSkip) tSkip) (tSeq (tAssign 3 (tAttr (Str.ofString "coming") (tLoc 0))) (tSeq (tAttrSet (Str.ofString "coming") (tLoc 0) (tBin aAdd (tLoc 3) (tVal (.int 1)))) (tSeq (tSubSet (tAttr (Str.ofString "kept") (tLoc 0)) (tLoc 3) (tLoc 2)) (tSeq (tRet (tLoc 3)) tSkip))))))))
noncomputable def is_b_put : List Nat := [0, 1]
theorem putA_coming (k : Addr) (c c' : Int) : putA (bkAttrs k c) (Str.ofString "coming") (.int c') = bkAttrs k c' := by kernel_rfl
theorem putA_new (k : Addr) : putA (putA [] (Str.ofString "kept") (.ref k)) (Str.ofString "coming") (.int 0) = bkAttrs k 0 := by kernel_rfl
theorem ok_b_init (vs : List AV) (H : AH) (Q : QV) (X : QX) (h : F_b_init vs H Q X) : mkFn is_b_init T_b_init vs H Q X := by
  obtain ⟨x, d, rfl, hx, hd, ne, fin⟩ := h
  refine ⟨rfl, fun k hk => ?_⟩
  have sk := Sub.add hk (.idict [])
  have nkd : k ≠ d := fun e => by rw [e, hd] at hk; cases hk
  have nkx : k ≠ x := fun e => by rw [e, hx] at hk; cases hk
  refine ⟨_, rfl, x, d, _, rfl, sk _ _ hx, sk _ _ hd, by decide, ?_⟩
  refine ⟨_, rfl, x, d, _, rfl, (AH.put_ne _ _ ne).trans (sk _ _ hx), put_get _ _ _, Nat.lt_of_le_of_lt (putA_len _ _ _) (by decide), ?_⟩
  have c0 : Chg H _ (fun x => x = d) := Chg.of_sub sk
  refine fin k _ hk ((c0.put _ (show d = d from rfl)).put _ (show d = d from rfl)) ⟨?_, ?_, ?_, fun r hr => (nomatch hr), .nil, fun r hr => (nomatch hr), fun r hr => (nomatch hr), fun r hr => (nomatch hr), Nat.zero_le _, fun r hr => (nomatch hr)⟩
  · exact (AH.put_ne _ _ ne).trans ((AH.put_ne _ _ ne).trans (sk _ _ hx))
  · show (AH.put _ _ _) d = _
    rw [put_get, putA_new]
  · exact (AH.put_ne _ _ nkd).trans ((AH.put_ne _ _ nkd).trans (put_get _ _ _))
theorem stored_new {rs : List (Int × Addr × List Str)} {c : Int} {l : Addr} (h : ∀ r ∈ rs, r.1 < c) : storedA (bkDict rs) c (.ref l) = bkDict rs ++ [(c, .ref l)] := by
  unfold storedA
  rw [if_neg]
  intro q
  obtain ⟨p, hp, e⟩ := List.any_eq_true.mp q
  obtain ⟨r, hr, rfl⟩ := List.mem_map.mp hp
  have := h r hr
  have e : r.1 = c := of_decide_eq_true e
  omega
theorem gt_k {a b : Int} {H : AH} {Q : Bool → AH → Prop} (h : Q (decide (b < a)) H) : aGt (.int a) (.int b) H Q := h
theorem ok_b_put (vs : List AV) (H : AH) (Q : QV) (X : QX) (h : F_b_put vs H Q X) : mkFn is_b_put T_b_put vs H Q X := by
  obtain ⟨B, r, row, names, rfl, hB, hr, hnd, hnm, hlen, hn12, hs1, hs2, fin⟩ := h
  have hrl : row.length ≤ 12 := Nat.le_trans (nodup_len hnd hs2) hn12
  refine ⟨rfl, _, rfl, r, row, rfl, hr, hnm, by omega, fun f H1 s1 nf hf => ?_⟩
  rw [sd_of_nodup hnd] at hf
  have hB1 := hB.sub s1
  refine ⟨_, rfl, _, rfl, _, hf, _, rfl, _, rfl, _, s1 _ _ hr, ne_int_eq (by simp [sortS_len]) ?_⟩
  refine ⟨_, rfl, B.a, B.d, _, .ref B.k, rfl, hB1.inst, hB1.attrs, by kernel_rfl, _, rfl, _, hB1.kept, val_k (eq_int ?_)⟩
  rw [decide_eq_false (show ¬ (((bkDict B.rs).length : Int) = 30) by rw [List.length_map]; omega)]
  refine ite_f ?_
  refine ⟨_, rfl, B.a, B.d, _, rfl, hB1.inst, hB1.attrs, by kernel_rfl, B, rfl, hB1, fun g H2 s2 ng hg => ?_⟩
  have fsub : ∀ n ∈ sd B.sets.flatten, n ∈ names := fun n hn => by
    obtain ⟨x, hx, hnx⟩ := List.mem_flatten.mp (mem_dedup.mp (mem_sortS.mp hn))
    exact hs1 x hx n hnx
  have fl : (sd B.sets.flatten).length ≤ 12 := Nat.le_trans (nodup_len ((sortS_perm _).nodup_iff.mpr (dedup_is_nodup _)) fsub) hn12
  refine ⟨_, rfl, _, _, hg, s2 _ _ hf, by rw [List.length_map, List.length_map, sortS_len, sizeLine_is]; omega, fun r3 hr3 => ?_⟩
  rw [← List.map_append]
  have s3 := Sub.add hr3 (.list ((sd B.sets.flatten ++ sortS row).map AV.str))
  refine ⟨r3, _, rfl, put_get _ _ _, by rw [List.length_append, sortS_len]; omega, fun r4 hr4 => ?_⟩
  have s4 := Sub.add hr4 (.sset (dedup (sd B.sets.flatten ++ sortS row)))
  refine ⟨_, rfl, _, put_get _ _ _, val_k (gt_k ?_)⟩
  have dl : (dedup (sd B.sets.flatten ++ sortS row)).length ≤ 12 := Nat.le_trans (nodup_len (dedup_is_nodup _) fun n hn => by
    rcases List.mem_append.mp (mem_dedup.mp hn) with q | q
    · exact fsub n q
    · exact hs2 n (mem_sortS.mp q)) hn12
  rw [decide_eq_false (show ¬ ((12 : Int) < ((dedup (sd B.sets.flatten ++ sortS row)).length : Int)) by omega)]
  refine ite_f ?_
  have s14 := s2.trans (s3.trans s4)
  have hB4 := hB1.sub s14
  have hf4 : LS _ f (sortS row) := s14 _ _ hf
  have c4 : Chg H _ (fun x => x = B.d ∨ x = B.k) := Chg.of_sub (s1.trans s14)
  generalize AH.put _ r4 _ = H4 at *
  refine ⟨_, rfl, B.a, B.d, _, .int B.c, rfl, hB4.inst, hB4.attrs, by kernel_rfl, ?_⟩
  refine ⟨_, rfl, _, rfl, B.a, B.d, _, rfl, hB4.inst, hB4.attrs, show 2 < 900 by decide, ?_⟩
  rw [putA_coming]
  have nkd : B.k ≠ B.d := fun e => by have h1 := hB4.kept; rw [e, hB4.attrs] at h1; cases h1
  have nad : B.a ≠ B.d := fun e => by have h1 := hB4.inst; rw [e, hB4.attrs] at h1; cases h1
  have nak : B.a ≠ B.k := fun e => by have h1 := hB4.inst; rw [e, hB4.kept] at h1; cases h1
  have nrow : ∀ {l : Addr} {xs : List Str}, LS H4 l xs → l ≠ B.d ∧ l ≠ B.k := fun {l xs} h => ⟨fun e => (by subst e; have := hB4.attrs.symm.trans h; cases this), fun e => (by subst e; have := hB4.kept.symm.trans h; cases this)⟩
  refine ⟨_, rfl, _, rfl, B.a, B.d, _, .ref B.k, rfl, (AH.put_ne _ _ nad).trans hB4.inst, put_get _ _ _, by kernel_rfl, _, rfl, .idict B.k _ B.c rfl rfl ((AH.put_ne _ _ nkd).trans hB4.kept) (by rw [List.length_map, sizeLine_is]; omega) ?_⟩
  rw [stored_new hB4.lt]
  refine ⟨_, rfl, ?_⟩
  refine fin f _ ((c4.put _ (.inl rfl)).put _ (.inr rfl)) nf ⟨?_, ?_, ?_, fun q hq => ?_, ?_, fun q hq => ?_, fun q hq => ?_, fun q hq => ?_, ?_, fun q hq => ?_⟩
  · exact (AH.put_ne _ _ nak).trans ((AH.put_ne _ _ nad).trans hB4.inst)
  · exact (AH.put_ne _ _ (Ne.symm nkd)).trans (put_get _ _ _)
  · show (AH.put _ _ _) B.k = _
    rw [put_get]
    show _ = some (AO.idict (bkDict (B.rs ++ [(B.c, f, sortS row)])))
    have e : bkDict (B.rs ++ [(B.c, f, sortS row)]) = bkDict B.rs ++ [(B.c, AV.ref f)] := List.map_append
    rw [e]
  · rcases List.mem_append.mp hq with hq | hq
    · have := hB4.rows q hq
      exact LS.put_ne (LS.put_ne this (nrow this).1) (nrow this).2
    · have e : q = (B.c, f, sortS row) := by simpa using hq
      subst e
      exact LS.put_ne (LS.put_ne hf4 (nrow hf4).1) (nrow hf4).2
  · show (List.map _ (B.rs ++ [(B.c, f, sortS row)])).Pairwise _
    rw [List.map_append]
    refine List.pairwise_append.mpr ⟨hB4.inc, List.pairwise_singleton _ _, fun x hx y hy => ?_⟩
    obtain ⟨u, hu, rfl⟩ := List.mem_map.mp hx
    rw [show y = B.c by simpa using hy]
    exact hB4.lt u hu
  · show q.1 < B.c + 1
    rcases List.mem_append.mp hq with hq | hq
    · have := hB4.lt q hq; omega
    · rw [show q = (B.c, f, sortS row) by simpa using hq]; show B.c < B.c + 1; omega
  · rcases List.mem_append.mp hq with hq | hq
    · exact hB4.nm q hq
    · rw [show q = (B.c, f, sortS row) by simpa using hq]; exact fun n hn => hnm n (mem_sortS.mp hn)
  · rcases List.mem_append.mp hq with hq | hq
    · exact hB4.ris q hq
    · rw [show q = (B.c, f, sortS row) by simpa using hq]; exact sortS_ris hnd
  · show (B.rs ++ [(B.c, f, sortS row)]).length ≤ 30
    rw [List.length_append]; show _ + 1 ≤ 30; omega
  · rcases List.mem_append.mp hq with hq | hq
    · exact hB4.rl q hq
    · rw [show q = (B.c, f, sortS row) by simpa using hq]; show (sortS row).length ≤ 12; rw [sortS_len]; exact hrl
end Mine
end
-- text S8g
section
set_option autoImplicit false
set_option linter.unusedVariables false
namespace Mine
open PySem
set_option maxRecDepth 10000
theorem nodupL_len : ∀ {y x : List (List Str)}, y.Nodup → (∀ a ∈ y, a ∈ x) → y.length ≤ x.length
  | [], x, _, _ => Nat.zero_le _
  | a :: r, x, hn, hs => by
    have hn' := List.nodup_cons.mp hn
    have ha := hs a (.head _)
    have := nodupL_len (y := r) (x := x.erase a) hn'.2 fun b hb => (List.mem_erase_of_ne (fun (e : b = a) => hn'.1 (by rw [← e]; exact hb))).mpr (hs b (.tail _ hb))
    rw [List.length_erase_of_mem ha] at this
    have hp : 0 < x.length := List.length_pos_of_mem ha
    simp; lia
theorem good_len12 {names : List Str} {rows T : List (List Str)} (hn : names.Nodup) (hl : names.length ≤ 12) (h : Good (Hit names rows) T) : T.length ≤ 4096 := by
  have := nodupL_len (ord_nodup h.ord) (x := boxOf (sortS names)) fun a ha => (mem_box _ _ _ rfl (sortS_ris hn)).mpr ⟨(h.ok a ha).1, fun b hb => mem_sortS.mpr ((h.ok a ha).2.1 b hb)⟩
  rw [boxOf_len, sortS_len] at this
  exact Nat.le_trans this (Nat.le_trans (Nat.pow_le_pow_right (by decide) hl) (by decide))
theorem hit_len {names : List Str} {rows : List (List Str)} {x : List Str} (h : Hit names rows x) : x.length ≤ names.length := nodup_len h.1.nodup h.2.1
noncomputable def stT (F : List (List Str)) (k : Nat) : List (List Str) := (F.take k).foldl (fun T row => least (stepL T row)) [[]]
theorem stT_succ {F : List (List Str)} {k : Nat} {row : List Str} (h : F[k]? = some row) : stT F (k + 1) = least (stepL (stT F k) row) := foldl_take_succ h
theorem stT_good {names : List Str} {F : List (List Str)} (hF : ∀ r ∈ F, ∀ n ∈ r, n ∈ names) : ∀ k, Good (Hit names (F.take k)) (stT F k)
  | 0 => by simpa [stT] using base_good names
  | k + 1 => by
    cases e : F[k]? with
    | none =>
      have hk : F.length ≤ k := by
        cases Nat.lt_or_ge k F.length with
        | inl h => rw [List.getElem?_eq_getElem h] at e; cases e
        | inr h => exact h
      have := stT_good hF k
      rw [List.take_of_length_le hk] at this
      rw [List.take_of_length_le (by lia)]
      unfold stT at this ⊢
      rw [List.take_of_length_le hk] at this
      rw [List.take_of_length_le (by lia)]; exact this
    | some row =>
      rw [stT_succ e, List.take_add_one, e]
      exact step_good (stT_good hF k) (hF row (List.mem_of_getElem? e))
end Mine
end
-- text B4
section
set_option autoImplicit false
set_option linter.unusedVariables false
namespace Mine
open PySem
set_option maxRecDepth 10000
noncomputable def bkLeast (R : List (List Str)) : List (List Str) := stT (least (R.map sd)) (least (R.map sd)).length
theorem Ris.sd {x : List Str} (h : Ris x) : sd x = x := by rw [sd_of_nodup h.nodup, h.sort]
theorem map_sd {R : List (List Str)} (h : ∀ x ∈ R, Ris x) : R.map sd = R := by
  rw [List.map_congr_left (g := id) fun x hx => (h x hx).sd, List.map_id]
theorem least_inv {R : List (List Str)} (h : ∀ x ∈ R, Ris x) : GInv (rank R) (least R) := greedy_inv (fun z hz => h z (mem_rank.mp hz)) (rank_sorted R)
theorem least_sub {R : List (List Str)} (h : ∀ x ∈ R, Ris x) : ∀ x ∈ least R, x ∈ R := fun x hx => mem_rank.mp ((least_inv h).sub x hx)
theorem least_cov {R : List (List Str)} (h : ∀ x ∈ R, Ris x) : ∀ z ∈ R, ∃ t ∈ least R, ∀ n ∈ t, n ∈ z := fun z hz => (least_inv h).cov z (mem_rank.mpr hz)
theorem hit_least {names : List Str} {R : List (List Str)} (h : ∀ x ∈ R, Ris x) (x : List Str) : Hit names (least R) x ↔ Hit names R x := by
  refine ⟨fun ⟨h1, h2, h3⟩ => ⟨h1, h2, fun r hr => ?_⟩, fun ⟨h1, h2, h3⟩ => ⟨h1, h2, fun r hr => h3 r (least_sub h r hr)⟩⟩
  obtain ⟨t, ht, hs⟩ := least_cov h r hr
  obtain ⟨n, hn, hnt⟩ := h3 t ht
  exact ⟨n, hn, hs n hnt⟩
theorem Good.congr {P P' : List Str → Prop} {T : List (List Str)} (h : Good P T) (e : ∀ x, P x ↔ P' x) : Good P' T :=
  ⟨fun t ht => (e t).mp (h.ok t ht), fun z hz => h.cov z ((e z).mpr hz), h.anti, h.ord⟩
theorem bkLeast_good {names : List Str} {R : List (List Str)} (h : ∀ x ∈ R, Ris x) (hn : ∀ x ∈ R, ∀ n ∈ x, n ∈ names) : Good (Hit names R) (bkLeast R) := by
  unfold bkLeast
  rw [map_sd h]
  have := stT_good (names := names) (F := least R) (fun r hr => hn r (least_sub h r hr)) (least R).length
  rw [List.take_length] at this
  exact this.congr (hit_least h)
theorem hit_congr {names : List Str} {R R' : List (List Str)} (h1 : ∀ r ∈ R, ∃ r' ∈ R', ∀ n ∈ r', n ∈ r) (h2 : ∀ r ∈ R', ∃ r' ∈ R, ∀ n ∈ r', n ∈ r) (x : List Str) : Hit names R x ↔ Hit names R' x := by
  refine ⟨fun ⟨a, b, c⟩ => ⟨a, b, fun r hr => ?_⟩, fun ⟨a, b, c⟩ => ⟨a, b, fun r hr => ?_⟩⟩
  · obtain ⟨t, ht, hs⟩ := h2 r hr
    obtain ⟨n, hn, hnt⟩ := c t ht
    exact ⟨n, hn, hs n hnt⟩
  · obtain ⟨t, ht, hs⟩ := h1 r hr
    obtain ⟨n, hn, hnt⟩ := c t ht
    exact ⟨n, hn, hs n hnt⟩
theorem bkLeast_law {names : List Str} {rows : List (List Str)} (hnd : names.Nodup) (hr : ∀ r ∈ rows, r.Nodup ∧ ∀ n ∈ r, n ∈ names) : bkLeast (rows.map sortS) = leastLaw names rows := by
  have g1 : Good (Hit names (rows.map sortS)) (bkLeast (rows.map sortS)) := bkLeast_good (fun x hx => by
    obtain ⟨r, h, rfl⟩ := List.mem_map.mp hx
    exact sortS_ris (hr r h).1) fun x hx n hn => by
    obtain ⟨r, h, rfl⟩ := List.mem_map.mp hx
    exact (hr r h).2 n (mem_sortS.mp hn)
  have g2 : Good (Hit names rows) (leastLaw names rows) := least_good hnd
  refine Good.uniq (fun z hz => hz.1) (g1.congr (hit_congr (fun r h => ?_) fun r h => ?_)) g2
  · obtain ⟨r', h', rfl⟩ := List.mem_map.mp h
    exact ⟨r', h', fun n hn => mem_sortS.mpr hn⟩
  · exact ⟨sortS r, List.mem_map.mpr ⟨r, h, rfl⟩, fun n hn => mem_sortS.mp hn⟩
inductive F_b_leastK (vs : List AV) (H : AH) (Q : QV) : Prop
  | mk (B : Bk) (names : List Str) : vs = [.ref B.a] → BookAt H B → names.Nodup → names.length ≤ 12 → (∀ x ∈ B.sets, ∀ n ∈ x, n ∈ names) → (∀ bs r H', Sub H H' → New H bs → H r = none → RL H' r bs → LAll H' bs (bkLeast B.sets) → Q (.ref r) H') → F_b_leastK vs H Q
noncomputable def F_b_least : Fn := fun vs H Q _ => F_b_leastK vs H Q
noncomputable def T_b_least : Ts := (tSeq (tAssign 1 (tList (tCons (tList tNil) tNil))) (tSeq (tFor (tMcall (Str.ofString "least_rows") F_b_least_rows (tLoc 0) tNil) 2 (tSeq (tAssign 1 (tCall F_grown (tCons (tLoc 1) (tCons (tLoc 2) tNil)))) tSkip)) (tSeq (tRet (tLoc 1)) tSkip)))
noncomputable def is_b_least : List Nat := [0]
theorem ok_b_least (vs : List AV) (H : AH) (Q : QV) (X : QX) (h : F_b_least vs H Q X) : mkFn is_b_least T_b_least vs H Q X := by
  obtain ⟨B, names, rfl, hB, hnd, hl7, hsub, fin⟩ := h
  refine ⟨rfl, Nat.zero_le _, fun e0 he0 => ⟨by simp, fun p hp => ?_⟩⟩
  have s1 := (Sub.add he0 (.list [])).trans (Sub.add hp (.list [.ref e0]))
  refine ⟨_, rfl, B.a, B.d, _, rfl, s1 _ _ hB.inst, s1 _ _ hB.attrs, by kernel_rfl, B, rfl, hB.sub s1, fun cs r0 H0 s0 nc n0 h0 hA => ?_⟩
  have hR : ∀ x ∈ B.sets, Ris x := fun x hx => (hB.set x hx).1
  rw [map_sd hR] at hA
  have sH := s1.trans s0
  have nep : e0 ≠ p := ne_new hp (put_get _ _ _)
  have hF : ∀ r ∈ least B.sets, ∀ n ∈ r, n ∈ names := fun r hr => hsub r (least_sub hR r hr)
  refine ⟨.list, cs.map AV.ref, h0, fun k m' H' => Sub H0 H' ∧ ∃ q bs, m' 1 = some (.ref q) ∧ RL H' q bs ∧ LAll H' bs (stT (least B.sets) k) ∧ H q = none ∧ New H bs, ⟨.refl _, p, [e0], rfl, s0 _ _ (put_get _ _ _), ?_, ?_, ?_⟩, ?_⟩
  · exact .cons (s0 _ _ ((AH.put_ne _ _ nep).trans (put_get _ _ _))) .nil
  · exact (Sub.add he0 (.list [])).new hp
  · intro b hb
    rw [show b = e0 by simpa using hb]; exact he0
  rintro k m' H' ⟨sb, q, bs, v1, hq, hbs, nq, nbs⟩ hk
  refine ⟨sb _ _ h0, fun y hy => ?_, fun e => ?_⟩
  · obtain ⟨c, hc, rfl⟩ := getElem?_refs hy
    obtain ⟨row, hrow, hcr⟩ := hA.get hc
    have hrm := List.mem_of_getElem? hrow
    have g := stT_good (names := names) hF k
    have hT1 : (stT (least B.sets) k).length ≤ 5000 := Nat.le_trans (good_len12 hnd hl7 g) (by decide)
    have hT2 : ∀ x ∈ stT (least B.sets) k, x.length ≤ 1000 := fun x hx => Nat.le_trans (Nat.le_trans (hit_len (g.ok x hx)) hl7) (by decide)
    have hrl : row.length ≤ 50 := Nat.le_trans (hB.set row (least_sub hR row hrm)).2.2 (by decide)
    refine ⟨_, (Mp.upd_ne _ _ (by decide)).trans v1, _, Mp.upd_self _ _ _, q, c, _, row, rfl, ⟨bs, hq, hbs⟩, sb _ _ hcr, hT1, hrl, hT2, fun ds r H2 s2 nd nr hr hD => ?_⟩
    have same : least ((growL (stT (least B.sets) k) row).map sd) = stT (least B.sets) (k + 1) := by rw [grow_step fun x hx => (g.ok x hx).1, stT_succ hrow]
    rw [same] at hD
    exact ⟨sb.trans s2, r, ds, Mp.upd_self _ _ _, hr, hD, (sH.trans sb).new nr, fun d hd => (sH.trans sb).new (nd d hd)⟩
  · rw [List.length_map, hA.length] at e
    subst e
    refine ⟨_, v1, fin bs q H' (sH.trans sb) nbs nq hq ?_⟩
    unfold bkLeast
    rw [map_sd hR]; exact hbs
end Mine
end
-- text B6
section
set_option autoImplicit false
set_option linter.unusedVariables false
namespace Mine
open PySem
set_option maxRecDepth 10000
end Mine
end
-- text M2
section
set_option autoImplicit false
set_option linter.unusedVariables false
namespace Mine
open PySem
end Mine
end
-- text B5
section
set_option autoImplicit false
set_option linter.unusedVariables false
namespace Mine
open PySem
set_option maxRecDepth 10000
end Mine
end
-- text M3
section
set_option autoImplicit false
set_option linter.unusedVariables false
namespace Mine
open PySem
theorem least_of_good {P : List Str → Prop} {R : List (List Str)} (hP : ∀ z, P z → Ris z) (h1 : ∀ z ∈ R, P z) (h2 : ∀ z, P z → ∃ t ∈ R, ∀ n ∈ t, n ∈ z) : Good P (least R) :=
  greedy_good hP (rank_sorted R) (fun z hz => h1 z (mem_rank.mp hz)) fun z hz => by
    obtain ⟨t, ht, hs⟩ := h2 z hz
    exact ⟨t, mem_rank.mpr ht, hs⟩
end Mine
end
-- text B7
section
set_option autoImplicit false
set_option linter.unusedVariables false
namespace Mine
open PySem
set_option maxRecDepth 10000
noncomputable abbrev Turn (B : Bk) (H K : AH) : Prop := Chg H K (fun x => x = B.d ∨ x = B.k)
theorem Chg.at {H K : AH} {B : Bk} {x : Addr} {o : AO} (c : Turn B H K) (hB : BookAt H B) (h : H x = some o) (n1 : ∀ e, o ≠ .attrs e) (n2 : ∀ e, o ≠ .idict e) : K x = some o := c.keep x _ (by
  rintro (rfl | rfl)
  · exact n1 _ (Option.some.inj (h.symm.trans hB.attrs))
  · exact n2 _ (Option.some.inj (h.symm.trans hB.kept))) h
theorem Chg.lst {H K : AH} {B : Bk} {x : Addr} {xs : List AV} (c : Turn B H K) (hB : BookAt H B) (h : H x = some (.list xs)) : K x = some (.list xs) := c.at hB h (fun e q => by cases q) fun e q => by cases q
theorem Chg.tup {H K : AH} {B : Bk} {x : Addr} {xs : List AV} (c : Turn B H K) (hB : BookAt H B) (h : H x = some (.tuple xs)) : K x = some (.tuple xs) := c.at hB h (fun e q => by cases q) fun e q => by cases q
theorem Chg.lall {H K : AH} {B : Bk} {as : List Addr} {F : List (List Str)} (c : Turn B H K) (hB : BookAt H B) (h : LAll H as F) : LAll K as F := by
  induction h with
  | nil => exact .nil
  | cons x _ ih => exact .cons (c.lst hB x) ih
end Mine
end
-- text M4
section
set_option autoImplicit false
set_option linter.unusedVariables false
namespace Mine
open PySem
noncomputable def Over (names : List Str) (R : List (List Str)) (z : List Str) : Prop := Ris z ∧ (∀ n ∈ z, n ∈ names) ∧ ∃ r ∈ R, ∀ n ∈ r, n ∈ z
theorem over_good {names : List Str} {R : List (List Str)} (h : ∀ x ∈ R, Ris x) (hn : ∀ x ∈ R, ∀ n ∈ x, n ∈ names) : Good (Over names R) (least R) :=
  least_of_good (fun z hz => hz.1) (fun z hz => ⟨h z hz, hn z hz, z, hz, fun n q => q⟩) fun z hz => hz.2.2
end Mine
end
-- text M5
section
set_option autoImplicit false
set_option linter.unusedVariables false
namespace Mine
open PySem
end Mine
end
-- text D03
section
set_option autoImplicit false
set_option linter.unusedVariables false
namespace Mine
open PySem
set_option maxRecDepth 10000
noncomputable def few (T : List (List Str)) : AV := match T with
  | [] => .none
  | x :: _ => .int x.length
inductive F_b_fewestK (vs : List AV) (H : AH) (Q : QV) : Prop
  | mk (B : Bk) (names : List Str) : vs = [.ref B.a] → BookAt H B → names.Nodup → names.length ≤ 12 → (∀ x ∈ B.sets, ∀ n ∈ x, n ∈ names) → (∀ H', Sub H H' → Q (few (bkLeast B.sets)) H') → F_b_fewestK vs H Q
noncomputable def F_b_fewest : Fn := fun vs H Q _ => F_b_fewestK vs H Q
noncomputable def T_b_fewest : Ts := (tSeq (tAssign 1 (tMcall (Str.ofString "least") F_b_least (tLoc 0) tNil)) (tSeq (tIte (tCmpB aEq (tLoc 1) (tList tNil)) (tSeq (tRet (tVal .none)) tSkip) tSkip) (tSeq (tRet (tBcall bLen (tCons (tItem (tLoc 1) (tVal (.int 0))) tNil))) tSkip)))
noncomputable def is_b_fewest : List Nat := [0]
theorem ok_b_fewest (vs : List AV) (H : AH) (Q : QV) (X : QX) (h : F_b_fewest vs H Q X) : mkFn is_b_fewest T_b_fewest vs H Q X := by
  obtain ⟨B, names, rfl, hB, hnd, hl, hs, fin⟩ := h
  refine ⟨rfl, _, rfl, B.a, B.d, _, rfl, hB.inst, hB.attrs, by kernel_rfl, B, names, rfl, hB, hnd, hl, hs, fun bs r H1 s1 _ _ hr hL => ?_⟩
  refine ⟨_, rfl, Nat.zero_le _, fun z hz => ?_⟩
  have sz := Sub.add hz (.list [])
  refine eq_LL (F := bkLeast B.sets) (G := []) ⟨bs, sz _ _ hr, hL.sub sz⟩ LL.nil ?_
  generalize bkLeast B.sets = T at *
  cases hL with
  | nil => exact ite_t (fin _ (s1.trans sz))
  | @cons b x bs T hb _ =>
    refine ite_f ?_
    exact ⟨_, rfl, _, sz _ _ hr, .ref b, rfl, _, rfl, _, sz _ _ hb, by
      show Q (.int ((x.map AV.str).length : Int)) _
      rw [List.length_map]; exact fin _ (s1.trans sz)⟩
end Mine
end
-- text D07
section
set_option autoImplicit false
set_option linter.unusedVariables false
namespace Mine
open PySem
set_option maxRecDepth 10000
theorem keys_stored (es : List (Str × AV)) (k : Str) (v : AV) : (storedA es k v).map (·.1) = if k ∈ es.map (·.1) then es.map (·.1) else es.map (·.1) ++ [k] := by
  unfold storedA
  have e : es.any (fun p => decide (p.1 = k)) = decide (k ∈ es.map (·.1)) := by
    induction es with
    | nil => simp
    | cons p r ih =>
      rw [List.any_cons, ih]
      by_cases q : p.1 = k
      · simp [q]
      · have q' : ¬ k = p.1 := fun e => q e.symm
        simp [q, q']
  rw [e]
  by_cases q : k ∈ es.map (·.1)
  · rw [if_pos (decide_eq_true q), if_pos q, List.map_map]
    refine List.map_congr_left fun p hp => ?_
    show (if p.1 = k then (p.1, v) else p).1 = p.1
    split <;> rfl
  · rw [if_neg (by simpa using q), if_neg q, List.map_append]; rfl
theorem pairs_rank {ps qs : List Pr} {G : List (List Str)} (hn : (ps.map fun q => (q.n, q.xs)) = G.map lk) (hperm : qs.Perm ps) (hs : qs.Pairwise (fun p q => ltP q p = false)) : qs.map (·.xs) = rank G := by
  have e1 : ((qs.map fun q => (q.n, q.xs)).map Prod.snd) = qs.map (·.xs) := by rw [List.map_map]; rfl
  have pm : (qs.map fun q => (q.n, q.xs)).Perm (G.map lk) := by rw [← hn]; exact hperm.map _
  have hlk : ∀ q ∈ qs, (q.n, q.xs) = lk q.xs := fun q hq => by
    have : (q.n, q.xs) ∈ G.map lk := pm.mem_iff.mp (List.mem_map.mpr ⟨q, hq, rfl⟩)
    obtain ⟨x, _, e⟩ := List.mem_map.mp this
    have : x = q.xs := congrArg Prod.snd e
    rw [← e, this]
  refine rank_uniq ?_ ?_
  · have := pm.map Prod.snd
    rw [e1, List.map_map] at this
    have e2 : List.map (Prod.snd ∘ lk) G = G := by rw [show (Prod.snd ∘ lk) = id from rfl, List.map_id]
    rw [e2] at this; exact this
  · refine List.pairwise_map.mpr (List.Pairwise.imp_of_mem (fun {x y} hx hy hxy => ?_) hs)
    show ltK (lk y.xs) (lk x.xs) = false
    rw [← hlk x hx, ← hlk y hy]; exact hxy
theorem pairs_rows {m : Mp} {i : Nat} {H : AH} {Q : QV} {a : Addr} {F : List (List Str)} (hA : LL H a F)
    (fin : ∀ (ps : List Pr) r H', Sub H H' → H r = none → H' r = some (.list (ps.map fun q : Pr => AV.ref q.at_)) → (∀ q ∈ ps, PrAt H' q ∧ H q.l = none) → (ps.map fun q => (q.n, q.xs)) = (F.map sortS).map lk → Q (.ref r) H') :
    CompJ m i (tBoolNil true) (tTuple (tCons (tBcall bLen (tCons (tLoc i) tNil)) (tCons (tBcall bSorted (tCons (tLoc i) tNil)) tNil))) (.ref a) H Q := by
  obtain ⟨as, ha, hA⟩ := hA
  refine compJ_sub (kd := .list) (xs := as.map AV.ref) ha (fun k y H' => ∃ q : Pr, y = .ref q.at_ ∧ ∃ g, F[k]? = some g ∧ PrAt H' q ∧ q.n = g.length ∧ q.xs = sortS g ∧ H q.l = none) ?_ (fun k x H' sb hx Q' hQ => ?_) fun ys H1 s1 hl1 hy r hr => ?_
  · rintro k y K1 K2 ⟨q, h1, g, h2, h3, h4⟩ s
    exact ⟨q, h1, g, h2, ⟨s _ _ h3.1, s _ _ h3.2⟩, h4⟩
  · obtain ⟨c, hc, rfl⟩ := getElem?_refs hx
    obtain ⟨g, hg, hcg⟩ := hA.get hc
    have hcg' := sb _ _ hcg
    refine ⟨_, Mp.upd_self _ _ _, _, rfl, _, hcg', _, Mp.upd_self _ _ _, c, _, rfl, hcg', .inl ⟨g, rfl, fun r1 hr1 => ⟨by simp, fun r2 hr2 => ?_⟩⟩⟩
    refine hQ _ _ ((Sub.add hr1 _).trans (Sub.add hr2 _)) ⟨⟨r2, (g.map AV.str).length, r1, sortS g⟩, rfl, g, hg, ⟨put_get _ _ _, Sub.add hr2 _ _ _ (put_get _ _ _)⟩, by simp, rfl, sb.new hr1⟩
  · obtain ⟨ps, rfl, hps⟩ := pick (fun q : Pr => AV.ref q.at_) hy
    have sr := Sub.add hr (.list (ps.map fun q : Pr => AV.ref q.at_))
    rw [List.length_map, List.length_map, hA.length] at hl1
    have hm : ∀ q ∈ ps, PrAt (H1.put r (.list (ps.map fun q : Pr => AV.ref q.at_))) q ∧ H q.l = none := fun q hq => by
      obtain ⟨k, hk, e⟩ := List.mem_iff_getElem.mp hq
      obtain ⟨g, h2, h3, h4, h5, h6⟩ := hps k q (by rw [List.getElem?_eq_getElem hk, e])
      exact ⟨⟨sr _ _ h3.1, sr _ _ h3.2⟩, h6⟩
    have hn : (ps.map fun q => (q.n, q.xs)) = (F.map sortS).map lk := by
      apply List.ext_getElem?
      intro k
      rw [List.getElem?_map, List.getElem?_map, List.getElem?_map]
      cases e : ps[k]? with
      | none =>
        rw [List.getElem?_eq_none_iff, hl1] at e
        rw [List.getElem?_eq_none_iff.mpr e]; rfl
      | some q =>
        obtain ⟨g, h2, h3, h4, h5, h6⟩ := hps k q e
        rw [h2]
        show some (q.n, q.xs) = some (lk (sortS g))
        rw [h4, h5]
        unfold lk
        rw [sortS_len]
    exact fin ps r _ (s1.trans sr) (s1.new hr) (put_get _ _ _) hm hn
theorem pair_loop {fo on cv : Nat} {m : Mp} {H : AH} {QN : Mp → AH → Prop} {QR : QV} {X : QX} {p r : Addr} {qs : List Pr} {R : List (List Str)} (n1 : fo ≠ cv) (n2 : on ≠ cv) (n3 : fo ≠ on) (h1 : m fo = some (.ref p)) (hR : H r = some (.list (qs.map fun q : Pr => AV.ref q.at_))) (hP : ∀ q ∈ qs, PrAt H q ∧ q.l ≠ p) (hx : qs.map (·.xs) = R) (hp : RL H p []) (npr : r ≠ p) (hl : R.length ≤ 500000)
    (fin : ∀ m' H', (∀ j, j ≠ on → m' j = m j) → LL H' p (greedy R) → (∀ a o, a ≠ p → H a = some o → H' a = some o) → (∀ a, H' a = none → H a = none) → QN m' H') :
    ForK on (tSeq (tIte (tCmpB aEq (tComp (tLoc fo) cv (tTruth (tCall F_l_within (tCons (tLoc cv) (tCons (tItem (tLoc on) (tVal (.int 1))) tNil)))) (tLoc cv)) (tList tNil)) (tSeq (tExpr (tMeth "list" bAppend (tLoc fo) (tCons (tItem (tLoc on) (tVal (.int 1))) tNil))) tSkip) tSkip) tSkip) m (.ref r) H QN QR X := by
  refine ⟨.list, qs.map fun q : Pr => AV.ref q.at_, hR, fun k m' H' => (∀ j, j ≠ on → m' j = m j) ∧ (∀ a o, a ≠ p → H a = some o → H' a = some o) ∧ (∀ a, H' a = none → H a = none) ∧ ∃ cs, RL H' p cs ∧ (∀ c ∈ cs, c ≠ p) ∧ LAll H' cs ((R.take k).foldl gstep []),
    ⟨fun _ _ => rfl, fun a o _ e => e, fun a e => e, [], hp, fun _ h => (nomatch h), by simpa using LAll.nil⟩, ?_⟩
  rintro k m' H' ⟨hm, sb, dm, cs, hp', hcs, hG⟩ hk
  have h1' : m' fo = some (.ref p) := (hm fo n3).trans h1
  refine ⟨sb _ _ npr hR, fun x hx' => ?_, fun e => ?_⟩
  · rw [List.getElem?_map] at hx'
    cases e : qs[k]? with
    | none => rw [e] at hx'; cases hx'
    | some q =>
      rw [e] at hx'
      cases hx'
      have hq := hP q (List.mem_of_getElem? e)
      have npa : q.at_ ≠ p := fun w => by have := hq.1.1; rw [w] at this; unfold RL at hp; rw [hp] at this; cases this
      have ht := sb _ _ npa hq.1.1
      have hb := sb _ _ hq.2 hq.1.2
      have ho : R[k]? = some q.xs := by rw [← hx, List.getElem?_map, e]; rfl
      have hkl : k < R.length := (List.getElem?_eq_some_iff.mp ho).1
      have hlen : cs.length ≤ k := by
        rw [hG.length]
        have := greedy_len (R.take k) []
        have := List.length_take_le k R
        simp at *; omega
      refine ⟨_, (Mp.upd_ne _ _ n3).trans h1', ?_⟩
      refine compJ_filter (f := fun o => wi o q.xs) hp' hG (fun c g H2 s2 hc hmm Q' hQ => ?_) fun bs r2 H2 s2 hbs hr2 hR2 hA2 => ?_
      · refine ⟨_, Mp.upd_self _ _ _, .ref q.at_, (Mp.upd_ne _ _ n2).trans (Mp.upd_self _ _ _), _, s2 _ _ ht, .ref q.l, rfl, lwithin_fn _ _ g q.xs _ _ _ hc (s2 _ _ hb) fun H3 s3 => ⟨_, rfl, hQ _ s3⟩⟩
      · refine ⟨Nat.zero_le _, fun r3 hr3 => ?_⟩
        have s3 := s2.trans (Sub.add hr3 (.list []))
        refine eq_LL (F := ((R.take k).foldl gstep []).filter fun o => wi o q.xs) (G := []) (LL.sub (Sub.add hr3 _) ⟨bs, hR2, hA2⟩) LL.nil ?_
        refine ite_intro _ (fun w => ?_) fun w => ?_
        · rw [filter_nil] at w
          have w : (((R.take k).foldl gstep []).any fun o => wi o q.xs) = false := by simpa using w
          refine ⟨_, (Mp.upd_ne _ _ n3).trans h1', .list (s3 _ _ hp'), _, Mp.upd_self _ _ _, _, s3 _ _ ht, .ref q.l, rfl, p, _, _, rfl, s3 _ _ hp', by rw [List.length_map, sizeLine_is]; omega, fun _ h => (nomatch h), fun j hj => (Mp.upd_ne _ _ hj).trans (hm j hj), fun a o na e => (AH.put_ne _ _ na).trans (s3 _ _ (sb a o na e)), fun a ha => ?_, cs ++ [q.l], ?_, fun c hc => ?_, ?_⟩
          · by_cases z : a = p
            · subst z; rw [put_get] at ha; cases ha
            · rw [AH.put_ne _ _ z] at ha; exact dm a (s3.new ha)
          · show (AH.put _ _ _) p = _
            rw [put_get, List.map_append]; rfl
          · rcases List.mem_append.mp hc with hc | hc
            · exact hcs c hc
            · rw [show c = q.l by simpa using hc]; exact hq.2
          · rw [foldl_take_succ ho, gstep, if_neg (by rw [w]; decide)]
            exact ((hG.sub s3).put_ne hcs).append (.cons ((LS.sub s3 hb).put_ne hq.2) .nil)
        · rw [filter_nil] at w
          have w : (((R.take k).foldl gstep []).any fun o => wi o q.xs) = true := by simpa using w
          refine ⟨fun j hj => (Mp.upd_ne _ _ hj).trans (hm j hj), fun a o na e => s3 _ _ (sb a o na e), fun a ha => dm a (s3.new ha), cs, hp'.sub s3, hcs, ?_⟩
          rw [foldl_take_succ ho, gstep, if_pos w]; exact hG.sub s3
  · have ek : R.take k = R := by
      rw [List.length_map] at e
      rw [e, ← hx, ← List.length_map (f := fun q : Pr => q.xs), List.take_length]
    rw [ek] at hG
    exact fin m' H' hm ⟨cs, hp', hG⟩ sb dm
end Mine
end
-- text D09
section
set_option autoImplicit false
set_option linter.unusedVariables false
namespace Mine
open PySem
set_option maxRecDepth 10000
noncomputable def Bk.less (B : Bk) (k : Int) : Bk := { B with rs := B.rs.filter fun r => decide (r.1 ≠ k) }
inductive F_b_takeK (vs : List AV) (H : AH) (Q : QV) : Prop
  | mk (B : Bk) (k : Int) : vs = [.ref B.a, .int k] → BookAt H B → (∃ r ∈ B.rs, r.1 = k) → (∀ H', Chg H H' (fun x => x = B.d ∨ x = B.k) → BookAt H' (B.less k) → Q .none H') → F_b_takeK vs H Q
noncomputable def F_b_take : Fn := fun vs H Q _ => F_b_takeK vs H Q
noncomputable def T_b_take : Ts := (tSeq (tIte (tOrB (tNotB (tTruth (tIsi "int" (tLoc 1)))) (tOrB (tTruth (tIsi "bool" (tLoc 1))) (tOrB (tCmpB aNotInD (tLoc 1) (tAttr (Str.ofString "kept") (tLoc 0))) (tBoolNil false)))) (tSeq tNever tSkip) tSkip) (tSeq (tExprA (tMeth "dict" bPop (tAttr (Str.ofString "kept") (tLoc 0)) (tCons (tLoc 1) tNil))) tSkip))
noncomputable def is_b_take : List Nat := [0, 1]
theorem woA_bk (rs : List (Int × Addr × List Str)) (k : Int) : woA (bkDict rs) k = bkDict (rs.filter fun r => decide (r.1 ≠ k)) := by
  unfold woA bkDict
  rw [List.filter_map]; rfl
theorem isi_int {H : AH} {k : Int} : aIs "int" (.int k) H = some true := by simp [aIs]
theorem isi_int_bool {H : AH} {k : Int} : aIs "bool" (.int k) H = some false := by simp [aIs]
theorem ok_b_take (vs : List AV) (H : AH) (Q : QV) (X : QX) (h : F_b_take vs H Q X) : mkFn is_b_take T_b_take vs H Q X := by
  obtain ⟨B, k, rfl, hB, ⟨r, hr, rfl⟩, fin⟩ := h
  obtain ⟨i, hi, e⟩ := List.mem_iff_getElem.mp hr
  have lk := dict_at hB.inc (show B.rs[i]? = some r by rw [List.getElem?_eq_getElem hi, e])
  refine ⟨rfl, _, rfl, true, isi_int, true, rfl, _, rfl, false, isi_int_bool, false, rfl, ?_⟩
  refine ⟨_, rfl, _, rfl, B.a, B.d, _, .ref B.k, rfl, hB.inst, hB.attrs, by kernel_rfl, B.k, r.1, _, rfl, rfl, hB.kept, ?_⟩
  rw [lk]
  refine ⟨_, rfl, B.a, B.d, _, .ref B.k, rfl, hB.inst, hB.attrs, by kernel_rfl, .idict hB.kept, _, rfl, B.k, r.1, _, _, rfl, hB.kept, lk, ?_⟩
  have hm : ∀ u ∈ (B.less r.1).rs, u ∈ B.rs := fun u hu => (List.mem_filter.mp hu).1
  have na : B.a ≠ B.k := fun e => by have := hB.inst; rw [e, hB.kept] at this; cases this
  have nd : B.d ≠ B.k := fun e => by have := hB.attrs; rw [e, hB.kept] at this; cases this
  refine fin _ ((Chg.refl _ _).put _ (.inr rfl)) ⟨(AH.put_ne _ _ na).trans hB.inst, (AH.put_ne _ _ nd).trans hB.attrs, ?_, fun u hu => ?_, ?_, fun u hu => hB.lt u (hm u hu), fun u hu => hB.nm u (hm u hu), fun u hu => hB.ris u (hm u hu), Nat.le_trans (List.length_filter_le _ _) hB.len, fun u hu => hB.rl u (hm u hu)⟩
  · show (AH.put _ _ _) B.k = _
    rw [put_get, woA_bk]; rfl
  · refine (AH.put_ne _ _ fun e => ?_).trans (hB.rows u (hm u hu))
    have := hB.rows u (hm u hu)
    unfold LS at this
    rw [e, hB.kept] at this; cases this
  · exact hB.inc.sublist (List.filter_sublist.map _)
end Mine
end
-- text M10
section
set_option autoImplicit false
set_option linter.unusedVariables false
namespace Mine
open PySem
set_option maxRecDepth 10000
noncomputable def oneS : List Str → Option Str
  | [n] => some n
  | _ => none
theorem oneS_iff {x : List Str} {n : Str} : oneS x = some n ↔ x = [n] := by
  match x with
  | [] => simp [oneS]
  | [m] => simp [oneS]
  | m :: k :: r => simp [oneS]
theorem mem_ones {F : List (List Str)} {n : Str} : n ∈ F.filterMap oneS ↔ [n] ∈ F := by
  rw [List.mem_filterMap]
  exact ⟨fun ⟨x, hx, e⟩ => by rw [← oneS_iff.mp e]; exact hx, fun h => ⟨[n], h, rfl⟩⟩
theorem sd_ris (x : List Str) : Ris (sd x) := sortS_ris (dedup_is_nodup x)
theorem mem_sd {x : List Str} {a : Str} : a ∈ sd x ↔ a ∈ x := mem_sortS.trans mem_dedup
noncomputable def needL (F : List (List Str)) : List Str := if [] ∈ F then [] else sd (F.filterMap oneS)
theorem nil_least {R : List (List Str)} (h : ∀ x ∈ R, Ris x) : [] ∈ least R ↔ [] ∈ R := by
  refine ⟨least_sub h [], fun q => ?_⟩
  obtain ⟨t, ht, hs⟩ := least_cov h [] q
  cases t with
  | nil => exact ht
  | cons a r => exact nomatch hs a (.head _)
theorem one_least {R : List (List Str)} (h : ∀ x ∈ R, Ris x) (hn : [] ∉ R) {n : Str} : [n] ∈ least R ↔ [n] ∈ R := by
  refine ⟨least_sub h [n], fun q => ?_⟩
  obtain ⟨t, ht, hs⟩ := least_cov h [n] q
  have ht' := least_sub h t ht
  match t, ht, hs, ht' with
  | [], _, _, ht' => exact absurd ht' hn
  | [a], ht, hs, _ => rw [show a = n by simpa using hs a (.head _)] at ht; exact ht
  | a :: b :: r, _, hs, ht' =>
    have e1 : a = n := by simpa using hs a (.head _)
    have e2 : b = n := by simpa using hs b (.tail _ (.head _))
    have := (h _ ht').nodup
    rw [e1, e2] at this
    simp at this
theorem sort_nil {r : List Str} : sortS r = [] ↔ r = [] := by
  constructor
  · intro e
    have : r.length = 0 := by rw [← sortS_len, e]; rfl
    exact List.eq_nil_of_length_eq_zero this
  · intro e; rw [e]; rfl
theorem nil_sorted {F : List (List Str)} : [] ∈ F.map sortS ↔ [] ∈ F := by
  rw [List.mem_map]
  exact ⟨fun ⟨r, hr, e⟩ => by rw [← sort_nil.mp e]; exact hr, fun h => ⟨[], h, rfl⟩⟩
theorem one_sorted {F : List (List Str)} {n : Str} : [n] ∈ F.map sortS ↔ [n] ∈ F := by
  rw [List.mem_map]
  refine ⟨fun ⟨r, hr, e⟩ => ?_, fun h => ⟨[n], h, rfl⟩⟩
  have l : r.length = 1 := by rw [← sortS_len, e]; rfl
  match r, l with
  | [m], _ =>
    have : m = n := by
      have e' : [m] = [n] := e
      simpa using e'
    rw [← this]; exact hr
theorem need_eq {F : List (List Str)} (h : ∀ r ∈ F, r.Nodup) : needL (least (F.map sortS)) = needL F := by
  have hR : ∀ x ∈ F.map sortS, Ris x := fun x hx => by
    obtain ⟨r, hr, rfl⟩ := List.mem_map.mp hx
    exact sortS_ris (h r hr)
  unfold needL
  by_cases q : [] ∈ F
  · rw [if_pos q, if_pos ((nil_least hR).mpr (nil_sorted.mpr q))]
  · have q' : [] ∉ F.map sortS := fun w => q (nil_sorted.mp w)
    rw [if_neg q, if_neg fun w => q' ((nil_least hR).mp w)]
    refine (sd_ris _).ext (sd_ris _) fun a => ?_
    rw [mem_sd, mem_sd, mem_ones, mem_ones, one_least hR q', one_sorted]
theorem need_keys {F : List (List Str)} (hn : [] ∉ F) {ks : List Str} (hk : ks.Nodup) (h : ∀ n, n ∈ ks ↔ [n] ∈ F) : sortS ks = needL F := by
  unfold needL
  rw [if_neg hn]
  refine (sortS_ris hk).ext (sd_ris _) fun a => ?_
  rw [mem_sortS, mem_sd, mem_ones, h]
noncomputable def idleL (S : List (List Str)) : List Str := (sd S.flatten).filter fun n => !((least S).any fun r => decide (n ∈ r))
theorem idle_keys {F : List (List Str)} (hF : ∀ r ∈ F, r.Nodup) {ks : List Str} (hk : ks.Nodup) (h : ∀ n, n ∈ ks ↔ ∃ r ∈ F, n ∈ r ∧ ([] ∈ F ∨ ∀ x ∈ least (F.map sortS), n ∉ x)) : sortS ks = idleL (F.map sortS) := by
  have hR : ∀ x ∈ F.map sortS, Ris x := fun x hx => by
    obtain ⟨r, hr, rfl⟩ := List.mem_map.mp hx
    exact sortS_ris (hF r hr)
  unfold idleL
  refine (sortS_ris hk).ext (List.Pairwise.sublist List.filter_sublist (sd_ris _)) fun a => ?_
  rw [mem_sortS, h, List.mem_filter, mem_sd]
  have e1 : a ∈ (F.map sortS).flatten ↔ ∃ r ∈ F, a ∈ r := by
    rw [List.mem_flatten]
    exact ⟨fun ⟨l, hl, ha⟩ => by
      obtain ⟨r, hr, rfl⟩ := List.mem_map.mp hl
      exact ⟨r, hr, mem_sortS.mp ha⟩, fun ⟨r, hr, ha⟩ => ⟨sortS r, List.mem_map.mpr ⟨r, hr, rfl⟩, mem_sortS.mpr ha⟩⟩
  have e2 : ((!((least (F.map sortS)).any fun r => decide (a ∈ r))) = true) ↔ ∀ x ∈ least (F.map sortS), a ∉ x := by simp
  have e3 : [] ∈ F → ∀ x ∈ least (F.map sortS), a ∉ x := fun q x hx ha => by
    have g := over_good (names := (F.map sortS).flatten) hR fun x hx n hn => List.mem_flatten.mpr ⟨x, hx, hn⟩
    have n0 : [] ∈ least (F.map sortS) := (nil_least hR).mpr (nil_sorted.mpr q)
    have := g.anti [] n0 x hx fun n hn => nomatch hn
    rw [← this] at ha; cases ha
  rw [e1, e2]
  exact ⟨fun ⟨r, hr, ha, q⟩ => ⟨⟨r, hr, ha⟩, q.elim e3 id⟩, fun ⟨⟨r, hr, ha⟩, q⟩ => ⟨r, hr, ha, .inr q⟩⟩
theorem foldl_gstep_head (x : List Str) : ∀ (R f : List (List Str)), ∃ g, R.foldl gstep (x :: f) = x :: g
  | [], f => ⟨f, rfl⟩
  | y :: R, f => by
    rw [List.foldl_cons]
    unfold gstep
    split
    · exact foldl_gstep_head x R f
    · exact foldl_gstep_head x R (f ++ [y])
theorem few_greedy (L : List (List Str)) : few (greedy L) = few L := by
  cases L with
  | nil => rfl
  | cons x r =>
    unfold greedy
    rw [List.foldl_cons]
    obtain ⟨g, e⟩ := foldl_gstep_head x r []
    have : gstep [] x = [x] := by simp [gstep]
    rw [this, e]; rfl
theorem few_law {names : List Str} {rows : List (List Str)} : few (leastLaw names rows) = few ((rank (boxOf (sortS names))).filter (mall rows)) := few_greedy _
theorem few_at {L : List (List Str)} {f : List Str → Bool} {k : Nat} {x : List Str} (hx : L[k]? = some x) (h : f x = true) (hb : ∀ (j : Nat) y, j < k → L[j]? = some y → f y = false) : few (L.filter f) = .int x.length := by
  induction L generalizing k with
  | nil => simp at hx
  | cons y r ih =>
    cases k with
    | zero =>
      have e : y = x := by simpa using hx
      rw [e, List.filter_cons, if_pos h]; rfl
    | succ k =>
      have e : f y = false := hb 0 y (by omega) rfl
      rw [List.filter_cons, e]
      exact ih (k := k) (by simpa using hx) fun j z hj hz => hb (j + 1) z (by omega) (by simpa using hz)
theorem few_none {L : List (List Str)} {f : List Str → Bool} (hb : ∀ (j : Nat) y, L[j]? = some y → f y = false) : few (L.filter f) = .none := by
  have : L.filter f = [] := by
    rw [List.filter_eq_nil_iff]
    intro x hx
    obtain ⟨k, hk, rfl⟩ := List.mem_iff_getElem.mp hx
    rw [hb k _ (List.getElem?_eq_getElem hk)]; decide
  rw [this]; rfl
end Mine
end
-- text D10
section
set_option autoImplicit false
set_option linter.unusedVariables false
namespace Mine
open PySem
set_option maxRecDepth 10000
inductive F_b_neededK (vs : List AV) (H : AH) (Q : QV) : Prop
  | mk (B : Bk) : vs = [.ref B.a] → BookAt H B → (∀ r H', Sub H H' → H r = none → LS H' r (needL (least B.sets)) → Q (.ref r) H') → F_b_neededK vs H Q
noncomputable def F_b_needed : Fn := fun vs H Q _ => F_b_neededK vs H Q
inductive F_b_idleK (vs : List AV) (H : AH) (Q : QV) : Prop
  | mk (B : Bk) : vs = [.ref B.a] → BookAt H B → (∀ r H', Sub H H' → H r = none → LS H' r (idleL B.sets) → Q (.ref r) H') → F_b_idleK vs H Q
noncomputable def F_b_idle : Fn := fun vs H Q _ => F_b_idleK vs H Q
inductive F_l_idleK (vs : List AV) (H : AH) (Q : QV) : Prop
  | mk (a : Addr) (F : List (List Str)) (names : List Str) : vs = [.ref a] → LL H a F → F.length ≤ 100000 → (∀ r ∈ F, r.Nodup ∧ ∀ n ∈ r, n ∈ names) → names.length ≤ 1000 → (∀ r H', Sub H H' → H r = none → LS H' r (idleL (F.map sortS)) → Q (.ref r) H') → F_l_idleK vs H Q
noncomputable def F_l_idle : Fn := fun vs H Q _ => F_l_idleK vs H Q
inductive F_l_neededK (vs : List AV) (H : AH) (Q : QV) : Prop
  | mk (a : Addr) (F : List (List Str)) : vs = [.ref a] → LL H a F → F.length ≤ 100000 → (∀ r H', Sub H H' → H r = none → LS H' r (needL F) → Q (.ref r) H') → F_l_neededK vs H Q
noncomputable def F_l_needed : Fn := fun vs H Q _ => F_l_neededK vs H Q
inductive F_l_fewestK (vs : List AV) (H : AH) (Q : QV) : Prop
  | mk (a b : Addr) (names : List Str) (F : List (List Str)) : vs = [.ref a, .ref b] → LS H a names → names.length ≤ 15 → LL H b F → (∀ H', Sub H H' → Q (few (leastLaw names F)) H') → F_l_fewestK vs H Q
noncomputable def F_l_fewest : Fn := fun vs H Q _ => F_l_fewestK vs H Q
inductive F_l_threeK (vs : List AV) (H : AH) (Q : QV) : Prop
  | mk (B : Bk) (names : List Str) (t : Int) : vs = [.ref B.a, .int t] → BookAt H B → names.Nodup → names.length ≤ 12 → (∀ x ∈ B.sets, ∀ n ∈ x, n ∈ names) →
      (∀ r a c H', Sub H H' → H r = none → H a = none → H c = none → a ≠ c → a ≠ r → c ≠ r → H' r = some (.list [.ref a, .ref c, few (bkLeast B.sets)]) → LS H' a (needL (least B.sets)) → LS H' c (idleL B.sets) → Q (.ref r) H') → F_l_threeK vs H Q
noncomputable def F_l_three : Fn := fun vs H Q _ => F_l_threeK vs H Q
noncomputable def T_b_needed : Ts := (tSeq (tAssign 1 (tMcall (Str.ofString "least_rows") F_b_least_rows (tLoc 0) tNil)) (tSeq (tIte (tCmpB aIn (tList tNil) (tLoc 1)) (tSeq (tRet (tList tNil)) tSkip) tSkip) (tSeq (tRet (tCall F_rising (tCons (tComp (tLoc 1) 2 (tCmpB aEq (tBcall bLen (tCons (tLoc 2) tNil)) (tVal (.int 1))) (tItem (tLoc 2) (tVal (.int 0)))) tNil))) tSkip)))
noncomputable def is_b_needed : List Nat := [0]
noncomputable def T_b_idle : Ts := (tSeq (tAssign 1 (tMcall (Str.ofString "least_rows") F_b_least_rows (tLoc 0) tNil)) (tSeq (tRet (tComp (tMcall (Str.ofString "names") F_b_names (tLoc 0) tNil) 2 (tNotB (tTruth (tBcall bAny (tCons (tComp (tLoc 1) 3 (tBoolNil true) (tCmp aIn (tLoc 2) (tLoc 3))) tNil)))) (tLoc 2))) tSkip))
noncomputable def is_b_idle : List Nat := [0]
noncomputable def T_l_idle : Ts := (tSeq (tAssign 1 (tList tNil)) (tSeq (tFor (tBcall bSorted (tCons (tComp (tLoc 0) 6 (tBoolNil true) (tTuple (tCons (tBcall bLen (tCons (tLoc 6) tNil)) (tCons (tBcall bSorted (tCons (tLoc 6) tNil)) tNil)))) tNil)) 2 (tSeq (tIte (tCmpB aEq (tComp (tLoc 1) 7 (tTruth (tCall F_l_within (tCons (tLoc 7) (tCons (tItem (tLoc 2) (tVal (.int 1))) tNil)))) (tLoc 7)) (tList tNil)) (tSeq (tExpr (tMeth "list" bAppend (tLoc 1) (tCons (tItem (tLoc 2) (tVal (.int 1))) tNil))) tSkip) tSkip) tSkip)) (tSeq (tAssign 3 tDictS0) (tSeq (tFor (tLoc 0) 4 (tSeq (tFor (tLoc 4) 5 (tSeq (tIte (tOrB (tCmpB aIn (tList tNil) (tLoc 0)) (tOrB (tCmpB aEq (tComp (tLoc 1) 8 (tCmpB aIn (tLoc 5) (tLoc 8)) (tLoc 8)) (tList tNil)) (tBoolNil false))) (tSeq (tSubSetS (tLoc 3) (tLoc 5) (tVal (.bool true))) tSkip) tSkip) tSkip)) tSkip)) (tSeq (tRet (tBcall bSorted (tCons (tBcall bListS (tCons (tLoc 3) tNil)) tNil))) tSkip)))))
noncomputable def is_l_idle : List Nat := [0]
noncomputable def T_l_needed : Ts := (tSeq (tIte (tCmpB aIn (tList tNil) (tLoc 0)) (tSeq (tRet (tList tNil)) tSkip) tSkip) (tSeq (tAssign 1 tDictS0) (tSeq (tFor (tLoc 0) 2 (tSeq (tIte (tCmpB aEq (tBcall bLen (tCons (tLoc 2) tNil)) (tVal (.int 1))) (tSeq (tSubSetS (tLoc 1) (tItem (tLoc 2) (tVal (.int 0))) (tVal (.bool true))) tSkip) tSkip) tSkip)) (tSeq (tRet (tBcall bSorted (tCons (tBcall bListS (tCons (tLoc 1) tNil)) tNil))) tSkip))))
noncomputable def is_l_needed : List Nat := [0]
noncomputable def T_l_fewest : Ts := (tSeq (tFor (tCall F_l_ranked (tCons (tCall F_l_box (tCons (tLoc 0) tNil)) tNil)) 2 (tSeq (tIte (tTruth (tCall F_l_meets_all (tCons (tLoc 2) (tCons (tLoc 1) tNil)))) (tSeq (tRet (tBcall bLen (tCons (tLoc 2) tNil))) tSkip) tSkip) tSkip)) (tSeq (tRet (tVal .none)) tSkip))
noncomputable def is_l_fewest : List Nat := [0, 1]
noncomputable def T_l_three : Ts := (tSeq (tAssign 2 (tList (tCons (tVal .none) (tCons (tVal .none) (tCons (tVal .none) tNil))))) (tSeq (tFor (tItem (tList (tCons (tList (tCons (tVal (.int 0)) (tCons (tVal (.int 1)) (tCons (tVal (.int 2)) tNil)))) (tCons (tList (tCons (tVal (.int 2)) (tCons (tVal (.int 1)) (tCons (tVal (.int 0)) tNil)))) (tCons (tList (tCons (tVal (.int 1)) (tCons (tVal (.int 2)) (tCons (tVal (.int 0)) tNil)))) (tCons (tList (tCons (tVal (.int 2)) (tCons (tVal (.int 0)) (tCons (tVal (.int 1)) tNil)))) tNil))))) (tBin aMod (tLoc 1) (tVal (.int 4)))) 3 (tSeq (tSubSetL (tLoc 2) (tLoc 3) (tIf (tCmpB aEq (tLoc 3) (tVal (.int 0))) (tMcall (Str.ofString "needed") F_b_needed (tLoc 0) tNil) (tIf (tCmpB aEq (tLoc 3) (tVal (.int 1))) (tMcall (Str.ofString "idle") F_b_idle (tLoc 0) tNil) (tMcall (Str.ofString "fewest") F_b_fewest (tLoc 0) tNil)))) tSkip)) (tSeq (tRet (tLoc 2)) tSkip)))
noncomputable def is_l_three : List Nat := [0, 1]
theorem any_dL (xs : List Str) (F : List (List Str)) : ((F.map dL).any fun y => PyData.eqv y (dL xs)) = decide (xs ∈ F) := by
  induction F with
  | nil => simp
  | cons y r ih =>
    rw [List.map_cons, List.any_cons, ih, eqv_dL]
    by_cases q : y = xs
    · simp [q]
    · have q' : ¬ xs = y := fun e => q e.symm
      simp [q, q']
theorem in_LL {H : AH} {e a : Addr} {xs : List Str} {F : List (List Str)} {Q : Bool → AH → Prop} (he : LS H e xs) (ha : LL H a F) (h : Q (decide (xs ∈ F)) H) : aIn (.ref e) (.ref a) H Q := by
  obtain ⟨as, h1, h2⟩ := ha
  refine ⟨dL xs, _, _, he.rd, h1, h2.rd, by rw [dep_dL]; decide, ?_⟩
  rw [any_dL]; exact h
theorem comp_ones {m : Mp} {i : Nat} {H : AH} {Q : QV} {r0 : Addr} {bs : List Addr} {F : List (List Str)} (h0 : RL H r0 bs) (hA : LAll H bs F) (fin : ∀ r, H r = none → Q (.ref r) (H.put r (.list ((F.filterMap oneS).map AV.str)))) :
    CompJ m i (tCmpB aEq (tBcall bLen (tCons (tLoc i) tNil)) (tVal (.int 1))) (tItem (tLoc i) (tVal (.int 0))) (.ref r0) H Q := by
  refine ⟨.list, bs.map AV.ref, h0, fun k ys H' => H' = H ∧ ys = ((F.take k).filterMap oneS).map AV.str, ⟨rfl, by simp⟩, ?_⟩
  rintro k ys H' ⟨rfl, rfl⟩ hk
  refine ⟨h0, fun x hx => ?_, fun e r hr => ?_⟩
  · obtain ⟨c, hc, rfl⟩ := getElem?_refs hx
    obtain ⟨g, hg, hcg⟩ := hA.get hc
    have ef : (F.take (k + 1)).filterMap oneS = (F.take k).filterMap oneS ++ (oneS g).toList := by
      rw [List.take_add_one, hg, List.filterMap_append]
      cases q : oneS g <;> simp [q]
    refine ⟨_, Mp.upd_self _ _ _, _, rfl, _, hcg, val_k (eq_int ?_)⟩
    match g, hcg, ef with
    | [], hcg, ef =>
      refine ite_intro _ (fun q => by simp at q) fun _ => ⟨rfl, ?_⟩
      rw [ef]; simp [oneS]
    | [n], hcg, ef =>
      refine ite_intro _ (fun _ => ⟨_, Mp.upd_self _ _ _, _, hcg, .str n, rfl, rfl, ?_⟩) fun q => by simp at q
      rw [ef]; simp [oneS]
    | n :: p :: r, hcg, ef =>
      refine ite_intro _ (fun q => ?_) fun _ => ⟨rfl, ?_⟩
      · have := of_decide_eq_true q
        simp at this
        omega
      · rw [ef]; simp [oneS]
  · rw [List.length_map, hA.length] at e
    rw [e, List.take_length]
    exact fin r hr
theorem ok_b_needed (vs : List AV) (H : AH) (Q : QV) (X : QX) (h : F_b_needed vs H Q X) : mkFn is_b_needed T_b_needed vs H Q X := by
  obtain ⟨B, rfl, hB, fin⟩ := h
  have hR : ∀ x ∈ B.sets, Ris x := fun x hx => (hB.set x hx).1
  refine ⟨rfl, _, rfl, B.a, B.d, _, rfl, hB.inst, hB.attrs, by kernel_rfl, B, rfl, hB, fun bs r0 H0 s0 nb n0 h0 hA => ?_⟩
  rw [map_sd hR] at hA
  refine ⟨Nat.zero_le _, fun z hz => ⟨_, rfl, in_LL (xs := []) (put_get _ _ _) (LL.sub (Sub.add hz _) ⟨bs, h0, hA⟩) ?_⟩⟩
  have sz := Sub.add hz (.list [])
  refine ite_intro _ (fun q => ?_) fun q => ?_
  · refine ⟨Nat.zero_le _, fun r hr => fin r _ ((s0.trans sz).trans (Sub.add hr _)) ((s0.trans sz).new hr) ?_⟩
    unfold needL
    rw [if_pos (of_decide_eq_true q)]
    exact put_get _ _ _
  · have q : [] ∉ least B.sets := of_decide_eq_false q
    refine ⟨_, rfl, comp_ones (sz _ _ h0) (hA.sub sz) fun r hr => ?_⟩
    have sr := Sub.add hr (.list (((least B.sets).filterMap oneS).map AV.str))
    refine ⟨r, _, rfl, put_get _ _ _, fun n hn => ?_, ?_, fun r2 H2 s2 nr2 h2 => ?_⟩
    · have := least_sub hR _ (mem_ones.mp hn)
      exact (hB.set _ this).2.1 n (.head _)
    · have l1 := List.length_filterMap_le oneS (least B.sets)
      have l2 := greedy_len (rank B.sets) []
      rw [(rank_perm _).length_eq, Bk.sets_len] at l2
      have := hB.len
      simp at l2
      unfold least greedy at *
      omega
    · refine fin r2 H2 (((s0.trans sz).trans sr).trans s2) ((s0.trans sz).new (sr.new nr2)) ?_
      unfold needL
      rw [if_neg q]; exact h2
theorem comp_strsS {m : Mp} {j : Nat} {tc : Tb} {H : AH} {Q : QV} {c : Addr} {xs : List Str} {f : Str → Bool} (hc : LS H c xs) (test : ∀ x H1, Sub H H1 → ∀ Q' : Bool → AH → Prop, (∀ H2, Sub H1 H2 → Q' (f x) H2) → tc (m.upd j (.str x)) H1 Q' noX)
    (fin : ∀ r H1, Sub H H1 → H1 r = none → Q (.ref r) (H1.put r (.list ((xs.filter f).map AV.str)))) : CompJ m j tc (tLoc j) (.ref c) H Q := by
  refine ⟨.list, xs.map AV.str, hc, fun k ys H' => Sub H H' ∧ ys = ((xs.take k).filter f).map AV.str, ⟨.refl _, by simp⟩, ?_⟩
  rintro k ys H' ⟨sb, rfl⟩ hk
  refine ⟨sb _ _ hc, fun y hy => ?_, fun e r hr => ?_⟩
  · obtain ⟨x, hx, rfl⟩ := getElem?_strs hy
    have ef : (xs.take (k + 1)).filter f = (xs.take k).filter f ++ (if f x = true then [x] else []) := by
      rw [List.take_add_one, hx, List.filter_append]
      cases q : f x <;> simp [List.filter, q]
    refine test x H' sb _ fun H2 s2 => ?_
    cases q : f x with
    | true =>
      refine ite_t ⟨_, Mp.upd_self _ _ _, sb.trans s2, ?_⟩
      rw [ef, if_pos q, List.map_append]; rfl
    | false =>
      refine ite_f ⟨sb.trans s2, ?_⟩
      rw [ef, if_neg (by rw [q]; decide), List.append_nil]
  · rw [List.length_map] at e
    rw [e, List.take_length]
    exact fin r H' sb hr
theorem ok_b_idle (vs : List AV) (H : AH) (Q : QV) (X : QX) (h : F_b_idle vs H Q X) : mkFn is_b_idle T_b_idle vs H Q X := by
  obtain ⟨B, rfl, hB, fin⟩ := h
  have hR : ∀ x ∈ B.sets, Ris x := fun x hx => (hB.set x hx).1
  refine ⟨rfl, _, rfl, B.a, B.d, _, rfl, hB.inst, hB.attrs, by kernel_rfl, B, rfl, hB, fun bs r0 H0 s0 nb n0 h0 hA => ?_⟩
  rw [map_sd hR] at hA
  have hB0 := hB.sub s0
  refine ⟨_, rfl, B.a, B.d, _, rfl, hB0.inst, hB0.attrs, by kernel_rfl, B, rfl, hB0, fun r1 H1 s1 n1 h1 => ?_⟩
  refine comp_strsS (f := fun n => !((least B.sets).any fun r => decide (n ∈ r))) h1 (fun x H2 s2 Q' hQ => ?_) fun r H2 s2 hr => ?_
  · have s02 := s1.trans s2
    refine ⟨_, rfl, compJ_list (kd := .list) (xs := bs.map AV.ref) (ys := ((least B.sets).map fun r => decide (x ∈ r)).map AV.bool) (s02 _ _ h0) (by simp [hA.length]) (fun k y z hy hz Q'' hQ'' => ?_) fun r hr => ?_⟩
    · obtain ⟨c, hc, rfl⟩ := getElem?_refs hy
      obtain ⟨g, hg, hcg⟩ := hA.get hc
      rw [List.getElem?_map, List.getElem?_map, hg] at hz
      cases hz
      exact ⟨_, (Mp.upd_ne _ _ (by decide)).trans (Mp.upd_self _ _ _), _, Mp.upd_self _ _ _, in_strs (s02 _ _ hcg) hQ''⟩
    · refine ⟨r, _, rfl, put_get _ _ _, _, rfl, ?_⟩
      rw [List.any_map]
      exact hQ _ (Sub.add hr _)
  · exact fin r _ (((s0.trans s1).trans s2).trans (Sub.add hr _)) (((s0.trans s1).trans s2).new hr) (put_get _ _ _)
theorem ok_l_needed (vs : List AV) (H : AH) (Q : QV) (X : QX) (h : F_l_needed vs H Q X) : mkFn is_l_needed T_l_needed vs H Q X := by
  obtain ⟨a, F, rfl, ⟨as, ha, hA⟩, hl, fin⟩ := h
  refine ⟨rfl, Nat.zero_le _, fun z hz => ⟨_, rfl, in_LL (xs := []) (put_get _ _ _) (LL.sub (Sub.add hz _) ⟨as, ha, hA⟩) ?_⟩⟩
  have sz := Sub.add hz (.list [])
  refine ite_intro _ (fun q => ?_) fun q => ?_
  · refine ⟨Nat.zero_le _, fun r hr => fin r _ (sz.trans (Sub.add hr _)) (sz.new hr) ?_⟩
    unfold needL
    rw [if_pos (of_decide_eq_true q)]
    exact put_get _ _ _
  have q : [] ∉ F := of_decide_eq_false q
  intro d hd
  have sd1 := sz.trans (Sub.add hd (.sdict []))
  have hdd := put_get (H.put z (.list [])) d (.sdict [])
  have nd : H d = none := sz.new hd
  generalize (H.put z (.list [])).put d (.sdict []) = H1 at *
  have al := hA.length
  refine ⟨_, rfl, .list, as.map AV.ref, sd1 _ _ ha, fun k m' H' => m' 1 = some (.ref d) ∧ Sub H H' ∧ ∃ es, H' d = some (.sdict es) ∧ (es.map (·.1)).Nodup ∧ es.length ≤ k ∧ ∀ n, n ∈ es.map (·.1) ↔ [n] ∈ F.take k, ⟨rfl, sd1, [], hdd, List.nodup_nil, Nat.le_refl _, fun n => by simp⟩, ?_⟩
  rintro k m' H' ⟨v1, sb, es, hes, esn, esl, esm⟩ hk
  rw [List.length_map, al] at hk
  refine ⟨sb _ _ ha, fun y hy => ?_, fun e => ?_⟩
  · obtain ⟨c, hc, rfl⟩ := getElem?_refs hy
    obtain ⟨g, hg, hcg⟩ := hA.get hc
    have hcg' := sb _ _ hcg
    have mem : ∀ x : List Str, x ∈ F.take (k + 1) ↔ x ∈ F.take k ∨ x = g := fun x => by
      rw [List.take_add_one, hg]; simp
    have skip : (∀ n, g ≠ [n]) → (m'.upd 2 (.ref c)) 1 = some (.ref d) ∧ Sub H H' ∧ ∃ es, H' d = some (.sdict es) ∧ (es.map (·.1)).Nodup ∧ es.length ≤ k + 1 ∧ ∀ n, n ∈ es.map (·.1) ↔ [n] ∈ F.take (k + 1) := fun w =>
      ⟨(Mp.upd_ne _ _ (by decide)).trans v1, sb, es, hes, esn, by omega, fun n => by
        rw [esm, mem]
        exact ⟨.inl, fun h => h.elim id fun e => absurd e.symm (w n)⟩⟩
    refine ⟨_, Mp.upd_self _ _ _, _, rfl, _, hcg', val_k (eq_int ?_)⟩
    match g, hcg', mem, skip with
    | [], _, _, skip => exact ite_intro _ (fun q => by simp at q) fun _ => skip fun n w => by cases w
    | n :: p :: r, _, _, skip =>
      refine ite_intro _ (fun q => ?_) fun _ => skip fun n w => by cases w
      have := of_decide_eq_true q
      simp at this
      omega
    | [n], hcg', mem, _ =>
      refine ite_intro _ (fun _ => ?_) fun q => by simp at q
      refine ⟨_, (Mp.upd_ne _ _ (by decide)).trans v1, _, Mp.upd_self _ _ _, _, hcg', .str n, rfl, d, es, n, rfl, rfl, hes, by rw [sizeLine_is]; omega, (Mp.upd_ne _ _ (by decide)).trans v1, sb.chg nd _, _, put_get _ _ _, ?_, ?_, fun x => ?_⟩
      · rw [keys_stored]
        split
        · exact esn
        · rename_i q
          exact List.nodup_append.mpr ⟨esn, by simp, fun a ha b hb e => q (by rw [show b = _ by simpa using hb] at e; rw [← e]; exact ha)⟩
      · exact Nat.le_trans (storedA_len _ _ _) (by omega)
      · rw [keys_stored, mem]
        split
        · rename_i w
          rw [esm]
          refine ⟨.inl, fun h => h.elim id fun e => ?_⟩
          have e : x = n := by simpa using e
          rw [e]; exact (esm n).mp w
        · rw [List.mem_append, esm]
          simp
  · rw [List.length_map, al] at e
    rw [e, List.take_length] at esm
    refine ⟨_, v1, d, es, rfl, hes, fun r4 hr4 => ?_⟩
    have s4 := Sub.add hr4 (.list ((es.map (·.1)).map AV.str))
    refine ⟨r4, _, rfl, put_get _ _ _, .inl ⟨_, rfl, fun r5 hr5 => ?_⟩⟩
    have s5 := s4.trans (Sub.add hr5 (.list ((sortS (es.map (·.1))).map AV.str)))
    refine fin r5 _ (sb.trans s5) ((sb.trans s4).new hr5) ?_
    rw [← need_keys q esn esm]
    exact put_get _ _ _
theorem ok_l_fewest (vs : List AV) (H : AH) (Q : QV) (X : QX) (h : F_l_fewest vs H Q X) : mkFn is_l_fewest T_l_fewest vs H Q X := by
  obtain ⟨a, b, names, F, rfl, ha, hl, hb, fin⟩ := h
  rw [few_law] at fin
  refine ⟨rfl, _, rfl, a, names, rfl, ha, hl, fun bs r0 H0 s0 nb n0 h0 hA => ?_⟩
  refine ⟨r0, bs, _, rfl, h0, hA, fun cs r1 H1 s1 _ n1 h1 hC => ?_⟩
  have s01 := s0.trans s1
  refine ⟨.list, cs.map AV.ref, h1, fun k m' H' => m' 1 = some (.ref b) ∧ Sub H1 H' ∧ ∀ (j : Nat) y, j < k → (rank (boxOf (sortS names)))[j]? = some y → mall F y = false, ⟨rfl, .refl _, fun j y hj => absurd hj (Nat.not_lt_zero j)⟩, ?_⟩
  rintro k m' H' ⟨v1, sb, hbef⟩ hk
  refine ⟨sb _ _ h1, fun y hy => ?_, fun e => ?_⟩
  · obtain ⟨c, hc, rfl⟩ := getElem?_refs hy
    obtain ⟨g, hg, hcg⟩ := hC.get hc
    refine ⟨_, Mp.upd_self _ _ _, _, (Mp.upd_ne _ _ (by decide)).trans v1, c, b, g, F, rfl, sb _ _ hcg, hb.sub (s01.trans sb), fun H2 s2 => ⟨_, rfl, ?_⟩⟩
    refine ite_intro _ (fun q => ?_) fun q => ?_
    · refine ⟨_, Mp.upd_self _ _ _, _, rfl, _, (sb.trans s2) _ _ hcg, ?_⟩
      show Q (.int ((g.map AV.str).length : Int)) _
      rw [List.length_map, ← few_at hg q hbef]
      exact fin _ ((s01.trans sb).trans s2)
    · refine ⟨(Mp.upd_ne _ _ (by decide)).trans v1, sb.trans s2, fun j y hj hy => ?_⟩
      by_cases e : j = k
      · rw [e, hg] at hy; cases hy; exact q
      · exact hbef j y (by omega) hy
  · have := fin _ (s01.trans sb)
    rw [few_none fun j y hy => hbef j y (by
      have := (List.getElem?_eq_some_iff.mp hy).1
      rw [List.length_map, hC.length] at e
      omega) hy] at this
    exact this
end Mine
end
-- text E10
section
set_option autoImplicit false
set_option linter.unusedVariables false
namespace Mine
open PySem
set_option maxRecDepth 10000
theorem idle_name {m : Mp} {H : AH} {QN : Mp → AH → Prop} {QR : QV} {X : QX} {a p d : Addr} {F G : List (List Str)} {n : Str} {es : List (Str × AV)} (v0 : m 0 = some (.ref a)) (v1 : m 1 = some (.ref p)) (v3 : m 3 = some (.ref d)) (v5 : m 5 = some (.str n))
    (ha : LL H a F) (hp : LL H p G) (hd : H d = some (.sdict es)) (hl : es.length < sizeLine)
    (fin : ∀ H' es', (∀ x o, x ≠ d → H x = some o → H' x = some o) → H' d = some (.sdict es') → (es' = es ∧ ¬ ([] ∈ F ∨ ∀ x ∈ G, n ∉ x) ∨ es' = storedA es n (.bool true) ∧ ([] ∈ F ∨ ∀ x ∈ G, n ∉ x)) → QN m H') :
    (tSeq (tIte (tOrB (tCmpB aIn (tList tNil) (tLoc 0)) (tOrB (tCmpB aEq (tComp (tLoc 1) 8 (tCmpB aIn (tLoc 5) (tLoc 8)) (tLoc 8)) (tList tNil)) (tBoolNil false))) (tSeq (tSubSetS (tLoc 3) (tLoc 5) (tVal (.bool true))) tSkip) tSkip) tSkip) m H QN QR X := by
  refine ⟨Nat.zero_le _, fun z hz => ⟨_, v0, in_LL (xs := []) (put_get _ _ _) (ha.sub (Sub.add hz _)) ?_⟩⟩
  have sz := Sub.add hz (.list [])
  refine ite_intro _ (fun q => ?_) fun q => ?_
  · refine ite_t ⟨_, v3, _, v5, d, es, n, rfl, rfl, sz _ _ hd, hl, ?_⟩
    exact fin _ _ (fun x o nx e => (AH.put_ne _ _ nx).trans (sz _ _ e)) (put_get _ _ _) (.inr ⟨rfl, .inl (of_decide_eq_true q)⟩)
  have q : [] ∉ F := of_decide_eq_false q
  obtain ⟨cs, hp1, hp2⟩ := hp
  refine ⟨_, v1, compJ_filter (f := fun g => decide (n ∈ g)) (sz _ _ hp1) (hp2.sub sz) (fun c g H' sb hcg _ Q' hQ => ⟨_, (Mp.upd_ne _ _ (by decide)).trans v5, _, Mp.upd_self _ _ _, in_strs hcg (hQ _ (.refl _))⟩) fun bs r H1 s1 _ nr hr hB => ?_⟩
  refine ⟨Nat.zero_le _, fun z2 hz2 => ?_⟩
  have s2 := Sub.add hz2 (.list [])
  refine eq_LL (F := G.filter fun g => decide (n ∈ g)) (G := []) ⟨bs, s2 _ _ hr, hB.sub s2⟩ LL.nil ?_
  have s3 := sz.trans (s1.trans s2)
  rw [filter_nil]
  refine ite_intro _ (fun w => ?_) fun w => ?_
  · have w : ∀ x ∈ G, n ∉ x := by simpa using w
    refine ite_t ⟨_, v3, _, v5, d, es, n, rfl, rfl, s3 _ _ hd, hl, ?_⟩
    exact fin _ _ (fun x o nx e => (AH.put_ne _ _ nx).trans (s3 _ _ e)) (put_get _ _ _) (.inr ⟨rfl, .inr w⟩)
  · have w : ¬ ∀ x ∈ G, n ∉ x := by simpa using w
    exact fin _ _ (fun x o nx e => s3 _ _ e) (s3 _ _ hd) (.inl ⟨rfl, fun h => h.elim q w⟩)
structure IdleJ (a p d : Addr) (H1 : AH) (G : List (List Str)) (names : List Str) (K : Str → Prop) (m' : Mp) (H' : AH) : Prop where
  v0 : m' 0 = some (.ref a)
  v1 : m' 1 = some (.ref p)
  v3 : m' 3 = some (.ref d)
  keep : ∀ x o, x ≠ d → H1 x = some o → H' x = some o
  es : ∃ es, H' d = some (.sdict es) ∧ (es.map (·.1)).Nodup ∧ (∀ n ∈ es.map (·.1), n ∈ names) ∧ ∀ n, n ∈ es.map (·.1) ↔ K n
theorem ok_l_idle (vs : List AV) (H : AH) (Q : QV) (X : QX) (h : F_l_idle vs H Q X) : mkFn is_l_idle T_l_idle vs H Q X := by
  obtain ⟨a, F, names, rfl, hA, hl, hF, hn, fin⟩ := h
  refine ⟨rfl, Nat.zero_le _, fun p hp => ?_⟩
  have sp := Sub.add hp (.list [])
  refine ⟨_, rfl, pairs_rows (hA.sub sp) fun ps r0 H0 s0 nr0 hr0 hq0 hn0 => ?_⟩
  refine ⟨r0, _, rfl, hr0, .inr ⟨ps, rfl, fun q hq => (hq0 q hq).1, fun qs hperm hs r hr' => ?_⟩⟩
  have s2 := Sub.add hr' (.list (qs.map fun q : Pr => AV.ref q.at_))
  have hr := put_get H0 r (.list (qs.map fun q : Pr => AV.ref q.at_))
  have nr := s0.new hr'
  have hx := pairs_rank hn0 hperm hs
  have hq : ∀ q ∈ qs, PrAt (H0.put r (.list (qs.map fun q : Pr => AV.ref q.at_))) q ∧ (H.put p (.list [])) q.l = none := fun q hq => by
    have := hq0 q (hperm.mem_iff.mp hq)
    exact ⟨⟨s2 _ _ this.1.1, s2 _ _ this.1.2⟩, this.2⟩
  have s1 := s0.trans s2
  have npr : r ≠ p := fun e => by rw [e, put_get] at nr; cases nr
  refine pair_loop (cv := 7) (by decide) (by decide) (by decide) rfl hr (fun q hq' => ⟨(hq q hq').1, fun e => by have := (hq q hq').2; rw [e, put_get] at this; cases this⟩) hx (s1 _ _ (put_get _ _ _)) npr (by rw [(rank_perm _).length_eq, List.length_map]; omega) fun m1 H1 hm hL kp dm => ?_
  have sH : Sub H H1 := fun x o e => kp x o (ne_new hp e) ((sp.trans s1) _ _ e)
  clear hx hq hn0 hq0 hs hperm hr kp
  have hL : LL H1 p (least (F.map sortS)) := hL
  generalize hG : least (F.map sortS) = G at *
  intro d hd
  have sd1 := Sub.add hd (.sdict [])
  have nd : H d = none := sH.new hd
  have hdd := put_get H1 d (.sdict [])
  have sH1 := sH.trans sd1
  have hL1 := hL.sub sd1
  generalize H1.put d (.sdict []) = H2 at *
  obtain ⟨as, ha, hA⟩ := hA
  have al := hA.length
  have bound : ∀ {es : List (Str × AV)}, (es.map (·.1)).Nodup → (∀ n ∈ es.map (·.1), n ∈ names) → es.length < sizeLine := fun {es} h1 h2 => by
    have := nodup_len h1 h2
    rw [List.length_map] at this
    rw [sizeLine_is]; omega
  have hpd : p ≠ d := fun e => by
    obtain ⟨cs, w, _⟩ := hL
    rw [e] at w; unfold RL at w; rw [hd] at w; cases w
  have ndH : ∀ {x : Addr} {o : AO}, H x = some o → x ≠ d := fun {x o} e w => by rw [w, nd] at e; cases e
  have keepL : ∀ {H' : AH}, (∀ x o, x ≠ d → H2 x = some o → H' x = some o) → LL H' a F ∧ LL H' p G := fun {H'} kp => by
    refine ⟨⟨as, kp _ _ (ndH ha) (sH1 _ _ ha), LAll.of al fun k c g e1 e2 => ?_⟩, ?_⟩
    · obtain ⟨g', hg', hc⟩ := hA.get e1
      rw [e2] at hg'; cases hg'
      exact kp _ _ (ndH hc) (sH1 _ _ hc)
    · obtain ⟨cs, w1, w2⟩ := hL
      obtain ⟨cs', u1, u2⟩ := hL1
      refine ⟨cs', kp _ _ hpd u1, LAll.of u2.length fun k c g e1 e2 => ?_⟩
      obtain ⟨g', hg', hc⟩ := u2.get e1
      rw [e2] at hg'; cases hg'
      refine kp _ _ (fun e => ?_) hc
      rw [e] at hc; unfold LS at hc; rw [hdd] at hc; cases hc
  let C : Str → Prop := fun n => [] ∈ F ∨ ∀ x ∈ G, n ∉ x
  refine ⟨_, (hm 0 (by decide)).trans rfl, .list, as.map AV.ref, sH1 _ _ ha, fun k m' H' => IdleJ a p d H2 G names (fun n => ∃ r ∈ F.take k, n ∈ r ∧ C n) m' H', ⟨(Mp.upd_ne _ _ (by decide)).trans ((hm 0 (by decide)).trans rfl), (Mp.upd_ne _ _ (by decide)).trans ((hm 1 (by decide)).trans rfl), Mp.upd_self _ _ _, fun _ _ _ e => e, [], hdd, List.nodup_nil, fun _ h => (nomatch h), fun n => by simp⟩, ?_⟩
  rintro k m' H' J hk
  rw [List.length_map, al] at hk
  refine ⟨(J.keep _ _ (ndH ha) (sH1 _ _ ha)), fun y hy => ?_, fun e => ?_⟩
  · obtain ⟨c, hc, rfl⟩ := getElem?_refs hy
    obtain ⟨g, hg, hcg⟩ := hA.get hc
    have hgm := List.mem_of_getElem? hg
    have hcd := ndH hcg
    have hc2 := sH1 _ _ hcg
    refine ⟨_, Mp.upd_self _ _ _, .list, g.map AV.str, J.keep _ _ hcd hc2, fun j m2 H3 => IdleJ a p d H2 G names (fun n => (∃ r ∈ F.take k, n ∈ r ∧ C n) ∨ (n ∈ g.take j ∧ C n)) m2 H3, ⟨(Mp.upd_ne _ _ (by decide)).trans J.v0, (Mp.upd_ne _ _ (by decide)).trans J.v1, (Mp.upd_ne _ _ (by decide)).trans J.v3, J.keep, ?_⟩, ?_⟩
    · obtain ⟨es, h1, h2, h3, h4⟩ := J.es
      exact ⟨es, h1, h2, h3, fun n => by rw [h4]; simp⟩
    rintro j m2 H3 J2 hj
    refine ⟨J2.keep _ _ hcd hc2, fun y hy => ?_, fun e => ?_⟩
    · obtain ⟨n, hn', rfl⟩ := getElem?_strs hy
      obtain ⟨es, h1, h2, h3, h4⟩ := J2.es
      have hnn : n ∈ names := (hF g hgm).2 n (List.mem_of_getElem? hn')
      obtain ⟨kl1, kl2⟩ := keepL J2.keep
      have mem : ∀ x, x ∈ g.take (j + 1) ↔ x ∈ g.take j ∨ x = n := fun x => by rw [List.take_add_one, hn']; simp
      refine idle_name ((Mp.upd_ne _ _ (by decide)).trans J2.v0) ((Mp.upd_ne _ _ (by decide)).trans J2.v1) ((Mp.upd_ne _ _ (by decide)).trans J2.v3) (Mp.upd_self _ _ _) kl1 kl2 h1 (bound h2 h3) fun H4 es' kp4 hes' w => ?_
      refine ⟨(Mp.upd_ne _ _ (by decide)).trans J2.v0, (Mp.upd_ne _ _ (by decide)).trans J2.v1, (Mp.upd_ne _ _ (by decide)).trans J2.v3, fun x o nx e => kp4 x o nx (J2.keep x o nx e), es', hes', ?_⟩
      rcases w with ⟨rfl, w⟩ | ⟨rfl, w⟩
      · refine ⟨h2, h3, fun x => ?_⟩
        rw [h4, mem]
        refine ⟨fun u => u.imp id fun ⟨u1, u2⟩ => ⟨.inl u1, u2⟩, fun u => ?_⟩
        rcases u with u | ⟨u1 | u1, u2⟩
        · exact .inl u
        · exact .inr ⟨u1, u2⟩
        · rw [u1] at u2; exact absurd u2 w
      · rw [keys_stored]
        split
        · rename_i q
          refine ⟨h2, h3, fun x => ?_⟩
          rw [h4, mem]
          refine ⟨fun u => u.imp id fun ⟨u1, u2⟩ => ⟨.inl u1, u2⟩, fun u => ?_⟩
          rcases u with u | ⟨u1 | u1, u2⟩
          · exact .inl u
          · exact .inr ⟨u1, u2⟩
          · rw [u1]; exact (h4 n).mp q
        · rename_i q
          refine ⟨List.nodup_append.mpr ⟨h2, by simp, fun a ha b hb e => q (by rw [show b = _ by simpa using hb] at e; rw [← e]; exact ha)⟩, fun x hx => ?_, fun x => ?_⟩
          · rcases List.mem_append.mp hx with hx | hx
            · exact h3 x hx
            · rw [show x = n by simpa using hx]; exact hnn
          · rw [List.mem_append, h4, mem]
            refine ⟨fun u => ?_, fun u => ?_⟩
            · rcases u with u | u
              · exact u.imp id fun ⟨u1, u2⟩ => ⟨.inl u1, u2⟩
              · rw [show x = n by simpa using u]; exact .inr ⟨.inr rfl, w⟩
            · rcases u with u | ⟨u1 | u1, u2⟩
              · exact .inl (.inl u)
              · exact .inl (.inr ⟨u1, u2⟩)
              · exact .inr (by rw [u1]; simp)
    · rw [List.length_map] at e
      refine ⟨J2.v0, J2.v1, J2.v3, J2.keep, ?_⟩
      obtain ⟨es, h1, h2, h3, h4⟩ := J2.es
      refine ⟨es, h1, h2, h3, fun n => ?_⟩
      rw [h4, e, List.take_length]
      refine ⟨fun u => ?_, fun ⟨r, hr, u1, u2⟩ => ?_⟩
      · rcases u with ⟨r, hr, u⟩ | u
        · exact ⟨r, by rw [List.take_add_one]; exact List.mem_append_left _ hr, u⟩
        · exact ⟨g, by rw [List.take_add_one, hg]; simp, u⟩
      · rw [List.take_add_one, hg] at hr
        rcases List.mem_append.mp hr with hr | hr
        · exact .inl ⟨r, hr, u1, u2⟩
        · have : r = g := by simpa using hr
          rw [this] at u1
          exact .inr ⟨u1, u2⟩
  · rw [List.length_map, al] at e
    obtain ⟨es, h1, h2, h3, h4⟩ := J.es
    rw [e, List.take_length] at h4
    have sb : Sub H H' := fun x o w => J.keep x o (ndH w) (sH1 _ _ w)
    refine ⟨_, J.v3, d, es, rfl, h1, fun r4 hr4 => ?_⟩
    have s4 := Sub.add hr4 (.list ((es.map (·.1)).map AV.str))
    refine ⟨r4, _, rfl, put_get _ _ _, .inl ⟨_, rfl, fun r5 hr5 => ?_⟩⟩
    have s5 := s4.trans (Sub.add hr5 (.list ((sortS (es.map (·.1))).map AV.str)))
    refine fin r5 _ (sb.trans s5) ((sb.trans s4).new hr5) ?_
    rw [← idle_keys (fun r hr => (hF r hr).1) h2 fun n => by rw [h4, hG]]
    exact put_get _ _ _
end Mine
end
-- text F10
section
set_option autoImplicit false
set_option linter.unusedVariables false
namespace Mine
open PySem
set_option maxRecDepth 10000
theorem new_get {H : AH} {a : Addr} (h : H a = none) (o : AO) : (H.put a o) a = some o := put_get _ _ _
theorem way_ok {q0 q1 q2 q3 : Addr} {t : Int} {H : AH} (h0 : H q0 = some (.list [.int 0, .int 1, .int 2])) (h1 : H q1 = some (.list [.int 2, .int 1, .int 0])) (h2 : H q2 = some (.list [.int 1, .int 2, .int 0])) (h3 : H q3 = some (.list [.int 2, .int 0, .int 1])) :
    ∃ q, ∃ ws : List Int, idx [AV.ref q0, .ref q1, .ref q2, .ref q3] (t % 4) = some (.ref q) ∧ H q = some (.list (ws.map AV.int)) ∧ 0 ∈ ws ∧ 1 ∈ ws ∧ 2 ∈ ws ∧ ∀ w ∈ ws, w = 0 ∨ w = 1 ∨ w = 2 := by
  have : t % 4 = 0 ∨ t % 4 = 1 ∨ t % 4 = 2 ∨ t % 4 = 3 := by omega
  rcases this with h | h | h | h <;> rw [h]
  · exact ⟨q0, [0, 1, 2], rfl, h0, by simp⟩
  · exact ⟨q1, [2, 1, 0], rfl, h1, by simp⟩
  · exact ⟨q2, [1, 2, 0], rfl, h2, by simp⟩
  · exact ⟨q3, [2, 0, 1], rfl, h3, by simp⟩
noncomputable def Told (H H' : AH) (p : Addr) (xs : List Str) (v : AV) : Prop := v = .none ∨ ∃ a, v = .ref a ∧ a ≠ p ∧ H a = none ∧ LS H' a xs
theorem Told.ext {H H' H2 : AH} {p : Addr} {xs : List Str} {v : AV} (h : Told H H' p xs v) (k : ∀ a o, a ≠ p → H' a = some o → H2 a = some o) : Told H H2 p xs v :=
  h.imp id fun ⟨a, e, na, n, l⟩ => ⟨a, e, na, n, k a _ na l⟩
structure ThreeJ (B : Bk) (H : AH) (p : Addr) (ws : List Int) (k : Nat) (m' : Mp) (H' : AH) : Prop where
  v0 : m' 0 = some (.ref B.a)
  v2 : m' 2 = some (.ref p)
  sub : Sub H H'
  ex : ∃ x0 x1 x2, H' p = some (.list [x0, x1, x2]) ∧ Told H H' p (needL (least B.sets)) x0 ∧ Told H H' p (idleL B.sets) x1 ∧ (0 ∈ ws.take k → x0 ≠ .none) ∧ (1 ∈ ws.take k → x1 ≠ .none) ∧ (2 ∈ ws.take k → x2 = few (bkLeast B.sets)) ∧ (∀ a, x0 = .ref a → x1 = .ref a → False)
theorem ok_l_three (vs : List AV) (H : AH) (Q : QV) (X : QX) (h : F_l_three vs H Q X) : mkFn is_l_three T_l_three vs H Q X := by
  obtain ⟨B, names, t, rfl, hB, hnd, hn, hs, fin⟩ := h
  refine ⟨rfl, Nat.le_of_ble_eq_true rfl, fun p hp => ?_⟩
  have sp := Sub.add hp (.list [.none, .none, .none])
  refine ⟨Nat.le_of_ble_eq_true rfl, fun q0 hq0 => ⟨Nat.le_of_ble_eq_true rfl, fun q1 hq1 => ⟨Nat.le_of_ble_eq_true rfl, fun q2 hq2 => ⟨Nat.le_of_ble_eq_true rfl, fun q3 hq3 => ⟨Nat.le_of_ble_eq_true rfl, fun qq hqq => ?_⟩⟩⟩⟩⟩
  have s0 := Sub.add hq0 (.list [.int 0, .int 1, .int 2])
  have s1 := Sub.add hq1 (.list [.int 2, .int 1, .int 0])
  have s2 := Sub.add hq2 (.list [.int 1, .int 2, .int 0])
  have s3 := Sub.add hq3 (.list [.int 2, .int 0, .int 1])
  have s4 := Sub.add hqq (.list [.ref q0, .ref q1, .ref q2, .ref q3])
  have g0 := s4 _ _ (s3 _ _ (s2 _ _ (s1 _ _ (new_get hq0 (.list [.int 0, .int 1, .int 2])))))
  have g1 := s4 _ _ (s3 _ _ (s2 _ _ (new_get hq1 (.list [.int 2, .int 1, .int 0]))))
  have g2 := s4 _ _ (s3 _ _ (new_get hq2 (.list [.int 1, .int 2, .int 0])))
  have g3 := s4 _ _ (new_get hq3 (.list [.int 2, .int 0, .int 1]))
  have g4 := new_get hqq (.list [.ref q0, .ref q1, .ref q2, .ref q3])
  have sA := sp.trans (s0.trans (s1.trans (s2.trans (s3.trans s4))))
  have gp := (s0.trans (s1.trans (s2.trans (s3.trans s4)))) _ _ (put_get H p (.list [.none, .none, .none]))
  obtain ⟨q, ws, hq, hws, m0, m1, m2, mw⟩ := way_ok (t := t) g0 g1 g2 g3
  have npq : q ≠ p := fun e => by
    rw [e, gp] at hws
    cases ws with
    | nil => cases m0
    | cons w r => cases hws
  refine ⟨_, rfl, by decide, _, g4, _, hq, ?_⟩
  generalize AH.put _ qq _ = H0 at *
  clear g0 g1 g2 g3 g4 s0 s1 s2 s3 s4 hq0 hq1 hq2 hq3 hqq
  refine ⟨.list, ws.map AV.int, hws, fun k m' H' => ThreeJ B H p ws k m' H' ∧ H' q = some (.list (ws.map AV.int)), ⟨⟨rfl, rfl, sA, .none, .none, .none, gp, .inl rfl, .inl rfl, fun h => by simp at h, fun h => by simp at h, fun h => by simp at h, fun a e => by cases e⟩, hws⟩, ?_⟩
  rintro k m' H' ⟨J, hws'⟩ hk
  refine ⟨hws', fun y hy => ?_, fun e => ?_⟩
  · rw [List.getElem?_map] at hy
    cases ew : ws[k]? with
    | none => rw [ew] at hy; cases hy
    | some w =>
      rw [ew] at hy; cases hy
      have hB' := hB.sub J.sub
      have mem : ∀ x, x ∈ ws.take (k + 1) ↔ x ∈ ws.take k ∨ x = w := fun x => by rw [List.take_add_one, ew]; simp
      obtain ⟨x0, x1, x2, hx, t0, t1, n0, n1, n2, dj⟩ := J.ex
      have e0 : (m'.upd 3 (.int w)) 0 = some (.ref B.a) := (Mp.upd_ne _ _ (by decide)).trans J.v0
      have e2 : (m'.upd 3 (.int w)) 2 = some (.ref p) := (Mp.upd_ne _ _ (by decide)).trans J.v2
      have ps : ∀ {H2 : AH}, Sub H' H2 → ∀ o a o', a ≠ p → H' a = some o' → (H2.put p o) a = some o' := fun {H2} s o a o' na e => (AH.put_ne _ _ na).trans (s _ _ e)
      have hpH : H p = none := hp
      have wq : ∀ {H2 : AH}, Sub H' H2 → ∀ o, (H2.put p o) q = some (.list (ws.map AV.int)) := fun {H2} s o => (AH.put_ne _ _ npq).trans (s _ _ hws')
      refine ⟨_, Mp.upd_self _ _ _, val_k (eq_int ?_)⟩
      rcases mw w (List.mem_of_getElem? ew) with rfl | rfl | rfl
      · refine ite_t ?_
        refine ⟨_, e0, B.a, B.d, _, rfl, hB'.inst, hB'.attrs, by kernel_rfl, B, rfl, hB', fun r H2 s2 nr hr => ?_⟩
        have nrp : r ≠ p := fun e => by rw [e, hx] at nr; cases nr
        refine ⟨_, e2, _, Mp.upd_self _ _ _, p, _, 0, rfl, rfl, s2 _ _ hx, by decide, by simp, ⟨e0, e2, (J.sub.trans s2).chg hpH _, .ref r, x1, x2, put_get _ _ _, .inr ⟨r, rfl, nrp, J.sub.new nr, (AH.put_ne _ _ nrp).trans hr⟩, t1.ext (ps s2 _), fun _ e => (nomatch e), fun h => ?_, fun h => ?_, fun a ea e1 => ?_⟩, wq s2 _⟩
        · rw [mem] at h; exact n1 (h.resolve_right (by decide))
        · rw [mem] at h; exact n2 (h.resolve_right (by decide))
        · cases ea
          rcases t1 with u | ⟨b, u, _, _, u2⟩
          · rw [e1] at u; cases u
          · rw [e1] at u; cases u
            unfold LS at u2; rw [nr] at u2; cases u2
      · refine ite_f ⟨_, Mp.upd_self _ _ _, val_k (eq_int (ite_t ?_))⟩
        refine ⟨_, e0, B.a, B.d, _, rfl, hB'.inst, hB'.attrs, by kernel_rfl, B, rfl, hB', fun r H2 s2 nr hr => ?_⟩
        have nrp : r ≠ p := fun e => by rw [e, hx] at nr; cases nr
        refine ⟨_, e2, _, Mp.upd_self _ _ _, p, _, 1, rfl, rfl, s2 _ _ hx, by decide, by simp, ⟨e0, e2, (J.sub.trans s2).chg hpH _, x0, .ref r, x2, put_get _ _ _, t0.ext (ps s2 _), .inr ⟨r, rfl, nrp, J.sub.new nr, (AH.put_ne _ _ nrp).trans hr⟩, fun h => ?_, fun _ e => (nomatch e), fun h => ?_, fun a e1 ea => ?_⟩, wq s2 _⟩
        · rw [mem] at h; exact n0 (h.resolve_right (by decide))
        · rw [mem] at h; exact n2 (h.resolve_right (by decide))
        · cases ea
          rcases t0 with u | ⟨b, u, _, _, u2⟩
          · rw [e1] at u; cases u
          · rw [e1] at u; cases u
            unfold LS at u2; rw [nr] at u2; cases u2
      · refine ite_f ⟨_, Mp.upd_self _ _ _, val_k (eq_int (ite_f ?_))⟩
        refine ⟨_, e0, B.a, B.d, _, rfl, hB'.inst, hB'.attrs, by kernel_rfl, B, names, rfl, hB', hnd, hn, hs, fun H2 s2 => ?_⟩
        refine ⟨_, e2, _, Mp.upd_self _ _ _, p, _, 2, rfl, rfl, s2 _ _ hx, by decide, by simp, ⟨e0, e2, (J.sub.trans s2).chg hpH _, x0, x1, _, put_get _ _ _, t0.ext (ps s2 _), t1.ext (ps s2 _), fun h => ?_, fun h => ?_, fun _ => rfl, dj⟩, wq s2 _⟩
        · rw [mem] at h; exact n0 (h.resolve_right (by decide))
        · rw [mem] at h; exact n1 (h.resolve_right (by decide))
  · rw [List.length_map] at e
    obtain ⟨x0, x1, x2, hx, t0, t1, n0, n1, n2, dj⟩ := J.ex
    rw [e, List.take_length] at n0 n1 n2
    obtain ⟨a, rfl, na, ha, la⟩ := t0.resolve_left (n0 m0)
    obtain ⟨c, rfl, nc, hc, lc⟩ := t1.resolve_left (n1 m1)
    rw [n2 m2] at hx
    exact ⟨_, J.v2, fin p a c H' J.sub hp ha hc (fun e => dj a rfl (by rw [e])) na nc hx la lc⟩
structure Hd where
  t : Addr
  a : Addr
  c : Addr
  xs : List Str
structure HeldAt (H : AH) (h : Addr) (ps : List Hd) : Prop where
  at_ : H h = some (.list (ps.map fun p => AV.ref p.t))
  all : ∀ p ∈ ps, H p.t = some (.tuple [.ref p.a, .ref p.c]) ∧ LS H p.a p.xs ∧ LS H p.c p.xs
inductive F_l_rightK (vs : List AV) (H : AH) (Q : QV) : Prop
  | mk (B : Bk) (an ar ah : Addr) (names : List Str) (F : List (List Str)) (ps : List Hd) (t : Int) : vs = [.ref B.a, .ref an, .ref ar, .ref ah, .int t] → BookAt H B → LS H an names → LL H ar F → HeldAt H ah ps → names.Nodup → names.length ≤ 12 → B.sets = F.map sortS → (∀ r ∈ F, r.Nodup ∧ ∀ n ∈ r, n ∈ names) → F.length ≤ 100 → ps.length ≤ 1000 → (∀ p ∈ ps, p.a ≠ ah ∧ p.c ≠ ah) →
      (∀ p1 p2 H', (∀ x o, x ≠ ah → H x = some o → H' x = some o) → HeldAt H' ah (ps ++ [p1, p2]) → (∀ x, (x = p1.a ∨ x = p1.c ∨ x = p2.a ∨ x = p2.c) → H x = none) → Q (.bool true) H') → F_l_rightK vs H Q
noncomputable def F_l_right : Fn := fun vs H Q _ => F_l_rightK vs H Q
noncomputable def T_l_right : Ts := (tSeq (tAssign3 5 6 7 (tCall F_l_three (tCons (tLoc 0) (tCons (tLoc 4) tNil)))) (tSeq (tAssign 8 (tList (tCons (tCall F_l_needed (tCons (tLoc 2) tNil)) (tCons (tCall F_l_idle (tCons (tLoc 2) tNil)) (tCons (tCall F_l_fewest (tCons (tLoc 1) (tCons (tLoc 2) tNil))) tNil))))) (tSeq (tIte (tOrB (tCmpB aNe (tList (tCons (tLoc 5) (tCons (tLoc 6) (tCons (tLoc 7) tNil)))) (tLoc 8)) (tOrB (tCmpB aSame (tLoc 7) (tVal (.bool true))) (tOrB (tCmpB aSame (tLoc 7) (tVal (.bool false))) (tBoolNil false)))) (tSeq (tRet (tVal (.bool false))) tSkip) tSkip) (tSeq (tIte (tOrB (tNotB (tTruth (tIsi "list" (tLoc 5)))) (tOrB (tNotB (tTruth (tIsi "list" (tLoc 6)))) (tBoolNil false))) (tSeq (tRet (tVal (.bool false))) tSkip) tSkip) (tSeq (tExpr (tMeth "list" bAppend (tLoc 5) (tCons (tVal (.str (Str.ofString "z"))) tNil))) (tSeq (tExpr (tMeth "list" bAppend (tLoc 6) (tCons (tVal (.str (Str.ofString "z"))) tNil))) (tSeq (tAssign 9 (tCall F_l_three (tCons (tLoc 0) (tCons (tBin aFdiv (tLoc 4) (tVal (.int 4))) tNil)))) (tSeq (tExpr (tMeth "list" bAppend (tLoc 3) (tCons (tTuple (tCons (tItem (tLoc 9) (tVal (.int 0))) (tCons (tItem (tLoc 8) (tVal (.int 0))) tNil))) tNil))) (tSeq (tExpr (tMeth "list" bAppend (tLoc 3) (tCons (tTuple (tCons (tItem (tLoc 9) (tVal (.int 1))) (tCons (tItem (tLoc 8) (tVal (.int 1))) tNil))) tNil))) (tSeq (tRet (tCmp aEq (tLoc 9) (tLoc 8))) tSkip))))))))))
noncomputable def is_l_right : List Nat := [0, 1, 2, 3, 4]
noncomputable def dFew : AV → PyData
  | .int i => .int i
  | _ => .none
theorem few_rd (H : AH) (T : List (List Str)) : Rd H (few T) (dFew (few T)) := by
  cases T with
  | nil => exact .none
  | cons x r => exact .int _
theorem few_dep (T : List (List Str)) : (dFew (few T)).depth = 0 := by cases T <;> simp [few, dFew, PyData.depth]
theorem few_eqv (T : List (List Str)) : PyData.eqv (dFew (few T)) (dFew (few T)) = true := by cases T <;> simp [few, dFew, PyData.eqv]
theorem three_rd {H : AH} {r a c : Addr} {xs ys : List Str} {T : List (List Str)} (hr : H r = some (.list [.ref a, .ref c, few T])) (ha : LS H a xs) (hc : LS H c ys) : Rd H (.ref r) (.list [dL xs, dL ys, dFew (few T)]) :=
  .list hr (.cons ha.rd (.cons hc.rd (.cons (few_rd H T) .nil)))
theorem three_dep (xs ys : List Str) (T : List (List Str)) : (PyData.list [dL xs, dL ys, dFew (few T)]).depth ≤ 64 := by
  simp [PyData.depth, PyData.depthAll, dep_dL, few_dep]
theorem three_eqv (xs ys : List Str) (T : List (List Str)) : PyData.eqv (.list [dL xs, dL ys, dFew (few T)]) (.list [dL xs, dL ys, dFew (few T)]) = true := by
  simp [PyData.eqv, PyData.eqvAll, eqv_dL, few_eqv]
theorem same_few {H : AH} {Q : Bool → AH → Prop} (T : List (List Str)) (b : Bool) (h : Q false H) : aSame (few T) (.bool b) H Q := by
  cases T <;> exact h
theorem ok_l_right (vs : List AV) (H : AH) (Q : QV) (X : QX) (h : F_l_right vs H Q X) : mkFn is_l_right T_l_right vs H Q X := by
  obtain ⟨B, an, ar, ah, names, F, ps, t, rfl, hB, hn, hF, hh, hnd, hn12, hBs, hFr, hFl, hpl, hpa, fin⟩ := h
  have hsn : ∀ x ∈ B.sets, ∀ n ∈ x, n ∈ names := fun x hx n hn' => by
    rw [hBs] at hx
    obtain ⟨r, hr, rfl⟩ := List.mem_map.mp hx
    exact (hFr r hr).2 n (mem_sortS.mp hn')
  have eN : needL (least B.sets) = needL F := by rw [hBs]; exact need_eq fun r hr => (hFr r hr).1
  have eI : idleL B.sets = idleL (F.map sortS) := by rw [hBs]
  have eF : few (bkLeast B.sets) = few (leastLaw names F) := by rw [hBs, bkLeast_law hnd hFr]
  refine ⟨rfl, _, rfl, _, rfl, B, names, t, rfl, hB, hnd, hn12, hsn, fun r1 a1 c1 H1 s1 nr1 na1 nc1 nac nar ncr hr1 ha1 hc1 => ⟨r1, _, _, _, rfl, hr1, ?_⟩⟩
  rw [eN] at ha1
  rw [eI] at hc1
  rw [eF] at hr1 ⊢
  refine ⟨_, rfl, ar, F, rfl, hF.sub s1, by omega, fun a2 H2 s2 na2 ha2 => ?_⟩
  have s12 := s1.trans s2
  refine ⟨_, rfl, ar, F, names, rfl, hF.sub s12, by omega, hFr, by omega, fun c2 H3 s3 nc2 hc2 => ?_⟩
  have s13 := s12.trans s3
  refine ⟨_, rfl, _, rfl, an, ar, names, F, rfl, s13 _ _ hn, by omega, hF.sub s13, fun H4 s4 => ?_⟩
  have s14 := s13.trans s4
  refine ⟨Nat.le_of_ble_eq_true rfl, fun r2 hr2 => ?_⟩
  have s5 := Sub.add hr2 (.list [.ref a2, .ref c2, few (leastLaw names F)])
  have s15 := s14.trans s5
  have s25 := s2.trans (s3.trans (s4.trans s5))
  have g2 := put_get H4 r2 (.list [.ref a2, .ref c2, few (leastLaw names F)])
  have ga2 := (s3.trans (s4.trans s5)) _ _ ha2
  have gc2 := (s4.trans s5) _ _ hc2
  have ga1 := s25 _ _ ha1
  have gc1 := s25 _ _ hc1
  have n2a : H1 r2 = none := s2.new (s3.new (s4.new hr2))
  have na2' := na2
  have nc2' : H1 c2 = none := s2.new nc2
  have nac2 : a2 ≠ c2 := ne_new nc2 ha2
  have nar2 : a2 ≠ r2 := ne_new hr2 ((s3.trans s4) _ _ ha2)
  have ncr2 : c2 ≠ r2 := ne_new hr2 (s4 _ _ hc2)
  generalize H4.put r2 (.list [.ref a2, .ref c2, few (leastLaw names F)]) = H5 at *
  refine ⟨_, rfl, _, rfl, _, rfl, Nat.le_of_ble_eq_true rfl, fun r3 hr3 => ⟨_, rfl, ⟨_, _, three_rd (T := leastLaw names F) (put_get _ _ _) (Sub.add hr3 _ _ _ ga1) (Sub.add hr3 _ _ _ gc1), three_rd (T := leastLaw names F) (Sub.add hr3 _ _ _ g2) (Sub.add hr3 _ _ _ ga2) (Sub.add hr3 _ _ _ gc2), three_dep _ _ _, three_dep _ _ _, ?_⟩⟩⟩
  have s6 := Sub.add hr3 (.list [.ref a1, .ref c1, few (leastLaw names F)])
  rw [three_eqv]
  refine ⟨_, rfl, same_few _ _ ⟨_, rfl, same_few _ _ ?_⟩⟩
  have s16 := s15.trans s6
  have s26 := s25.trans s6
  replace g2 := s6 _ _ g2
  replace ga2 := s6 _ _ ga2
  replace gc2 := s6 _ _ gc2
  replace ga1 := s6 _ _ ga1
  replace gc1 := s6 _ _ gc1
  generalize H5.put r3 (.list [.ref a1, .ref c1, few (leastLaw names F)]) = H6 at *
  refine ⟨_, rfl, true, isi_list ga1, true, rfl, ⟨_, rfl, true, isi_list gc1, true, rfl, ?_⟩⟩
  have lN : (needL F).length ≤ 1000 := by
    unfold needL
    split
    · simp
    · have l1 := List.length_filterMap_le oneS F
      have l2 := dedup_len (F.filterMap oneS)
      unfold sd
      rw [sortS_len]; omega
  have lI : (idleL (F.map sortS)).length ≤ 1000 := by
    have := nodup_len (y := idleL (F.map sortS)) (x := names) (Ris.nodup (List.Pairwise.sublist List.filter_sublist (sd_ris (F.map sortS).flatten))) fun n hn' => by
      have := (List.mem_filter.mp hn').1
      obtain ⟨x, hx, hnx⟩ := List.mem_flatten.mp (mem_sd.mp this)
      obtain ⟨r, hr, rfl⟩ := List.mem_map.mp hx
      exact (hFr r hr).2 n (mem_sortS.mp hnx)
    omega
  refine ⟨_, rfl, .list ga1, a1, _, _, rfl, ga1, by rw [List.length_map, sizeLine_is]; omega, fun _ h => (nomatch h), ?_⟩
  have hc6 : (H6.put a1 (.list ((needL F).map AV.str ++ [.str (Str.ofString "z")]))) c1 = some (.list ((idleL (F.map sortS)).map AV.str)) := (AH.put_ne _ _ (Ne.symm nac)).trans gc1
  refine ⟨_, rfl, .list hc6, c1, _, _, rfl, hc6, by rw [List.length_map, sizeLine_is]; omega, fun _ h => (nomatch h), ?_⟩
  have kp : ∀ x o, x ≠ a1 → x ≠ c1 → H6 x = some o → ((H6.put a1 (.list ((needL F).map AV.str ++ [.str (Str.ofString "z")]))).put c1 (.list ((idleL (F.map sortS)).map AV.str ++ [.str (Str.ofString "z")]))) x = some o := fun x o n1 n2 e => (AH.put_ne _ _ n2).trans ((AH.put_ne _ _ n1).trans e)
  generalize ((H6.put a1 (.list ((needL F).map AV.str ++ [.str (Str.ofString "z")]))).put c1 (.list ((idleL (F.map sortS)).map AV.str ++ [.str (Str.ofString "z")]))) = H7 at *
  have sH7 : Sub H H7 := fun x o e => kp x o (ne_new na1 e) (ne_new nc1 e) (s16 _ _ e)
  have k2 : ∀ {x : Addr} {o : AO}, H1 x = none → H6 x = some o → H7 x = some o := fun {x o} hx e => kp x o (fun w => by rw [w] at hx; unfold LS at ha1; rw [ha1] at hx; cases hx) (fun w => by rw [w] at hx; unfold LS at hc1; rw [hc1] at hx; cases hx) e
  replace g2 := k2 n2a g2
  replace ga2 := k2 na2 ga2
  replace gc2 := k2 nc2' gc2
  have hB7 := hB.sub sH7
  refine ⟨_, rfl, _, rfl, by decide, by decide, B, names, _, rfl, hB7, hnd, hn12, hsn, fun r8 a8 c8 H8 s8 nr8 na8 nc8 nac8 nar8 ncr8 hr8 ha8 hc8 => ?_⟩
  rw [eN] at ha8
  rw [eI] at hc8
  rw [eF] at hr8
  have sH8 := sH7.trans s8
  replace g2 := s8 _ _ g2
  replace ga2 := s8 _ _ ga2
  replace gc2 := s8 _ _ gc2
  have hh8 := sH8 _ _ hh.at_
  refine ⟨_, rfl, .list hh8, _, rfl, _, hr8, .ref a8, rfl, _, rfl, _, g2, .ref a2, rfl, Nat.le_of_ble_eq_true rfl, fun t1 ht1 => ?_⟩
  have s9 := Sub.add ht1 (.tuple [.ref a8, .ref a2])
  refine ⟨ah, _, _, rfl, s9 _ _ hh8, by rw [List.length_map, sizeLine_is]; omega, fun _ h => (nomatch h), ?_⟩
  have nht1 : t1 ≠ ah := fun e => by rw [e, hh8] at ht1; cases ht1
  have nh : ∀ {x : Addr}, H x = none → x ≠ ah := fun {x} hx e => by rw [e, hh.at_] at hx; cases hx
  have n8 : ∀ {x : Addr}, H7 x = none → H x = none := fun {x} e => sH7.new e
  have n1 : ∀ {x : Addr}, H1 x = none → H x = none := fun {x} e => s1.new e
  have gt1 := put_get H8 t1 (.tuple [.ref a8, .ref a2])
  have kp9 : ∀ x o, x ≠ ah → H8 x = some o → ((H8.put t1 (.tuple [.ref a8, .ref a2])).put ah (.list (ps.map (fun p => AV.ref p.t) ++ [.ref t1]))) x = some o := fun x o nx e => (AH.put_ne _ _ nx).trans (s9 _ _ e)
  replace gt1 : ((H8.put t1 (.tuple [.ref a8, .ref a2])).put ah (.list (ps.map (fun p => AV.ref p.t) ++ [.ref t1]))) t1 = some (.tuple [.ref a8, .ref a2]) := (AH.put_ne _ _ nht1).trans gt1
  have gh9 := put_get (H8.put t1 (.tuple [.ref a8, .ref a2])) ah (.list (ps.map (fun p => AV.ref p.t) ++ [.ref t1]))
  generalize ((H8.put t1 (.tuple [.ref a8, .ref a2])).put ah (.list (ps.map (fun p => AV.ref p.t) ++ [.ref t1]))) = H9 at *
  replace hr8 := kp9 _ _ (nh (n8 nr8)) hr8
  replace ha8 := kp9 _ _ (nh (n8 na8)) ha8
  replace hc8 := kp9 _ _ (nh (n8 nc8)) hc8
  replace g2 := kp9 _ _ (nh (n1 n2a)) g2
  replace ga2 := kp9 _ _ (nh (n1 na2)) ga2
  replace gc2 := kp9 _ _ (nh (n1 nc2')) gc2
  refine ⟨_, rfl, .list gh9, _, rfl, _, hr8, .ref c8, rfl, _, rfl, _, g2, .ref c2, rfl, Nat.le_of_ble_eq_true rfl, fun t2 ht2 => ?_⟩
  have s10 := Sub.add ht2 (.tuple [.ref c8, .ref c2])
  refine ⟨ah, _, _, rfl, s10 _ _ gh9, by rw [List.length_append, List.length_map, sizeLine_is]; simp; omega, fun _ h => (nomatch h), ?_⟩
  have nht2 : t2 ≠ ah := fun e => by rw [e, gh9] at ht2; cases ht2
  have kp10 : ∀ x o, x ≠ ah → H9 x = some o → ((H9.put t2 (.tuple [.ref c8, .ref c2])).put ah (.list ((ps.map (fun p => AV.ref p.t) ++ [.ref t1]) ++ [.ref t2]))) x = some o := fun x o nx e => (AH.put_ne _ _ nx).trans (s10 _ _ e)
  have gt2 : ((H9.put t2 (.tuple [.ref c8, .ref c2])).put ah (.list ((ps.map (fun p => AV.ref p.t) ++ [.ref t1]) ++ [.ref t2]))) t2 = some (.tuple [.ref c8, .ref c2]) := (AH.put_ne _ _ nht2).trans (put_get _ _ _)
  have gh10 := put_get (H9.put t2 (.tuple [.ref c8, .ref c2])) ah (.list ((ps.map (fun p => AV.ref p.t) ++ [.ref t1]) ++ [.ref t2]))
  generalize ((H9.put t2 (.tuple [.ref c8, .ref c2])).put ah (.list ((ps.map (fun p => AV.ref p.t) ++ [.ref t1]) ++ [.ref t2]))) = H10 at *
  replace hr8 := kp10 _ _ (nh (n8 nr8)) hr8
  replace ha8 := kp10 _ _ (nh (n8 na8)) ha8
  replace hc8 := kp10 _ _ (nh (n8 nc8)) hc8
  replace g2 := kp10 _ _ (nh (n1 n2a)) g2
  replace ga2 := kp10 _ _ (nh (n1 na2)) ga2
  replace gc2 := kp10 _ _ (nh (n1 nc2')) gc2
  replace gt1 := kp10 _ _ nht1 gt1
  have keep : ∀ x o, x ≠ ah → H x = some o → H10 x = some o := fun x o nx e => kp10 x o nx (kp9 x o nx (sH8 _ _ e))
  refine ⟨_, rfl, _, rfl, ⟨_, _, three_rd (T := leastLaw names F) hr8 ha8 hc8, three_rd (T := leastLaw names F) g2 ga2 gc2, three_dep _ _ _, three_dep _ _ _, ?_⟩⟩
  rw [three_eqv]
  refine fin ⟨t1, a8, a2, needL F⟩ ⟨t2, c8, c2, idleL (F.map sortS)⟩ H10 keep ⟨?_, fun p hp => ?_⟩ fun x hx => ?_
  · rw [gh10]; simp
  · rcases List.mem_append.mp hp with hp | hp
    · obtain ⟨w1, w2, w3⟩ := hh.all p hp
      have nt : p.t ≠ ah := fun e => by rw [e, hh.at_] at w1; cases w1
      exact ⟨keep _ _ nt w1, keep _ _ (hpa p hp).1 w2, keep _ _ (hpa p hp).2 w3⟩
    · rcases List.mem_cons.mp hp with rfl | hp
      · exact ⟨gt1, ha8, ga2⟩
      · rw [show p = _ by simpa using hp]
        exact ⟨gt2, hc8, gc2⟩
  · rcases hx with rfl | rfl | rfl | rfl
    · exact n8 na8
    · exact n1 na2
    · exact n8 nc8
    · exact n1 nc2'
end Mine
end
-- text L10
section
set_option autoImplicit false
set_option linter.unusedVariables false
namespace Mine
open PySem
set_option maxRecDepth 10000
inductive F_lawK (vs : List AV) (H : AH) (Q : QV) : Prop
  | mk (l) (ns) : (vs = [.ref l]) → (H l = some (.script ns)) → (∀ H', Q (.bool true) H') → F_lawK vs H Q
noncomputable def F_law : Fn := fun vs H Q _ => F_lawK vs H Q
noncomputable def T_law : Ts := (tSeq (tAssign 1 (tSlice (tCall F_l_names (tCons (tLoc 0) tNil)) (tVal .none) (tVal (.int 6)))) (tSeq (tAssign 2 (tMake F_b_init)) (tSeq (tAssign 3 (tList tNil)) (tSeq (tAssign 4 (tList tNil)) (tSeq (tAssign 5 (tVal (.int 0))) (tSeq (tIte (tNotB (tTruth (tCall F_l_right (tCons (tLoc 2) (tCons (tLoc 1) (tCons (tLoc 3) (tCons (tLoc 4) (tCons (tCall F_l_draw (tCons (tLoc 0) (tCons (tVal (.int 1)) tNil))) tNil)))))))) (tSeq (tRet (tVal (.bool false))) tSkip) tSkip) (tSeq (tFor (tSlice (tLoc 0) (tVal (.int 2)) (tVal (.int 10))) 6 (tSeq (tAssign 7 (tCall F_l_row (tCons (tLoc 1) (tCons (tBin aFdiv (tLoc 6) (tVal (.int 6))) tNil)))) (tSeq (tIte (tAndB (tCmpB aEq (tBin aMod (tLoc 6) (tVal (.int 6))) (tVal (.int 5))) (tAndB (tCmpB aNe (tLoc 3) (tList tNil)) (tBoolNil true))) (tSeq (tExpr (tMcall (Str.ofString "take") F_b_take (tLoc 2) (tCons (tLoc 5) tNil))) (tSeq (tAssign 5 (tBin aAdd (tLoc 5) (tVal (.int 1)))) (tSeq (tAssign 3 (tSlice (tLoc 3) (tVal (.int 1)) (tVal .none))) tSkip))) (tSeq (tIte (tCmpB aEq (tBin aMod (tLoc 6) (tVal (.int 6))) (tVal (.int 4))) (tSeq (tAssign 7 (tSlice (tLoc 7) (tVal .none) (tVal (.int 1)))) tSkip) tSkip) (tSeq (tExpr (tMcall (Str.ofString "put") F_b_put (tLoc 2) (tCons (tBcall bList (tCons (tLoc 7) tNil)) tNil))) (tSeq (tExpr (tMeth "list" bAppend (tLoc 3) (tCons (tLoc 7) tNil))) tSkip)))) (tSeq (tIte (tNotB (tTruth (tCall F_l_right (tCons (tLoc 2) (tCons (tLoc 1) (tCons (tLoc 3) (tCons (tLoc 4) (tCons (tBin aFdiv (tLoc 6) (tVal (.int 36))) tNil)))))))) (tSeq (tRet (tVal (.bool false))) tSkip) tSkip) tSkip)))) (tSeq (tRet (tBcall bAll (tCons (tComp2 (tLoc 4) 8 9 (tCmp aEq (tLoc 8) (tLoc 9))) tNil))) tSkip))))))))
noncomputable def is_law : List Nat := [0]
structure LH (an ah sl : Addr) (names : List Str) (sx : List AV) (n1 n2 : Nat) (B : Bk) (ar : Addr) (as : List Addr) (F : List (List Str)) (ps : List Hd) (tk : Int) (H : AH) : Prop where
  ln : LS H an names
  sls : H sl = some (.list sx)
  bk : BookAt H B
  rl : RL H ar as
  la : LAll H as F
  hd : HeldAt H ah ps
  sets : B.sets = F.map sortS
  nums : B.rs.map (·.1) = (List.range F.length).map fun i : Nat => tk + (i : Int)
  c : B.c = tk + F.length
  ok : ∀ r ∈ F, r.Nodup ∧ ∀ n ∈ r, n ∈ names
  fl : F.length ≤ n1
  pl : ps.length ≤ n2
  ap : ar ≠ ah ∧ an ≠ ah ∧ an ≠ ar ∧ sl ≠ ah ∧ sl ≠ ar
  pa : ∀ p ∈ ps, ∀ x, x = p.a ∨ x = p.c → x ≠ ah ∧ x ≠ ar
  ba : ∀ r ∈ B.rs, r.2.1 ≠ ah ∧ r.2.1 ≠ ar
  ia : ∀ a ∈ as, a ≠ ah ∧ a ≠ ar
theorem HeldAt.keep {H K : AH} {ah : Addr} {ps : List Hd} (h : HeldAt H ah ps) (hk : K ah = H ah) (k : ∀ p ∈ ps, ∀ x, (x = p.t ∨ x = p.a ∨ x = p.c) → ∀ o, H x = some o → K x = some o) : HeldAt K ah ps :=
  ⟨hk.trans h.at_, fun p hp => ⟨k p hp _ (.inl rfl) _ (h.all p hp).1, k p hp _ (.inr (.inl rfl)) _ (h.all p hp).2.1, k p hp _ (.inr (.inr rfl)) _ (h.all p hp).2.2⟩⟩
theorem HeldAt.sub {H K : AH} {ah : Addr} {ps : List Hd} (h : HeldAt H ah ps) (s : Sub H K) : HeldAt K ah ps :=
  ⟨s _ _ h.at_, fun p hp => ⟨s _ _ (h.all p hp).1, s _ _ (h.all p hp).2.1, s _ _ (h.all p hp).2.2⟩⟩
theorem HeldAt.turn {H K : AH} {B : Bk} {ah : Addr} {ps : List Hd} (h : HeldAt H ah ps) (c : Turn B H K) (hB : BookAt H B) : HeldAt K ah ps :=
  ⟨c.lst hB h.at_, fun p hp => ⟨c.tup hB (h.all p hp).1, c.lst hB (h.all p hp).2.1, c.lst hB (h.all p hp).2.2⟩⟩
section
variable {an ah sl : Addr} {names : List Str} {sx : List AV} {n1 n2 : Nat} {B : Bk} {ar : Addr} {as : List Addr} {F : List (List Str)} {ps : List Hd} {tk : Int} {H K : AH}
theorem LH.sub (h : LH an ah sl names sx n1 n2 B ar as F ps tk H) (s : Sub H K) : LH an ah sl names sx n1 n2 B ar as F ps tk K :=
  ⟨s _ _ h.ln, s _ _ h.sls, h.bk.sub s, s _ _ h.rl, h.la.sub s, h.hd.sub s, h.sets, h.nums, h.c, h.ok, h.fl, h.pl, h.ap, h.pa, h.ba, h.ia⟩
theorem LH.slice {sl2 : Addr} {sx2 : List AV} (h : LH an ah sl names sx n1 n2 B ar as F ps tk H) (na : H sl2 = none) : LH an ah sl2 names sx2 n1 n2 B ar as F ps tk (H.put sl2 (.list sx2)) := by
  have n1 : sl2 ≠ ah := fun e => by rw [e, h.hd.at_] at na; cases na
  have n2 : sl2 ≠ ar := fun e => by have := h.rl; unfold RL at this; rw [e, this] at na; cases na
  have h := h.sub (Sub.add na (.list sx2))
  exact ⟨h.ln, put_get _ _ _, h.bk, h.rl, h.la, h.hd, h.sets, h.nums, h.c, h.ok, h.fl, h.pl, ⟨h.ap.1, h.ap.2.1, h.ap.2.2.1, n1, n2⟩, h.pa, h.ba, h.ia⟩
theorem LH.mono {n3 n4 : Nat} (h : LH an ah sl names sx n1 n2 B ar as F ps tk H) (l1 : n1 ≤ n3) (l2 : n2 ≤ n4) : LH an ah sl names sx n3 n4 B ar as F ps tk H :=
  ⟨h.ln, h.sls, h.bk, h.rl, h.la, h.hd, h.sets, h.nums, h.c, h.ok, Nat.le_trans h.fl l1, Nat.le_trans h.pl l2, h.ap, h.pa, h.ba, h.ia⟩
theorem LH.more {l x : Addr} {row : List Str} {K2 : AH} (h : LH an ah sl names sx n1 n2 B ar as F ps tk H) (c : Turn B H K) (nl : H l = none) (hB : BookAt K (B.more l (sortS row))) (hx : LS H x row) (nx : x ≠ ah ∧ x ≠ ar) (hr : row.Nodup ∧ ∀ n ∈ row, n ∈ names)
    (e : K2 = K.put ar (.list (as.map AV.ref ++ [.ref x]))) : LH an ah sl names sx (n1 + 1) n2 (B.more l (sortS row)) ar (as ++ [x]) (F ++ [row]) ps tk K2 := by
  subst e
  have k : ∀ {y : Addr} {o : AO}, y ≠ ar → K y = some o → (K.put ar (.list (as.map AV.ref ++ [.ref x]))) y = some o := fun {y o} n e => (AH.put_ne _ _ n).trans e
  obtain ⟨a1, a2, a3, a4, a5⟩ := h.ap
  have la := c.lall h.bk h.la
  have har := c.lst h.bk h.rl
  have nlr : l ≠ ah ∧ l ≠ ar := ⟨(fun e => by rw [e, h.hd.at_] at nl; cases nl), (fun e => by have := h.rl; unfold RL at this; rw [e, this] at nl; cases nl)⟩
  have ba : ∀ r ∈ (B.more l (sortS row)).rs, r.2.1 ≠ ah ∧ r.2.1 ≠ ar := fun r hr => by
    rcases List.mem_append.mp hr with hr | hr
    · exact h.ba r hr
    · rw [show r = (B.c, l, sortS row) by simpa using hr]; exact nlr
  have nm : ∀ {y : Addr} {o : AO}, (∀ zs, o ≠ .list zs) → K y = some o → y ≠ ar := fun {y o} w e z => by rw [z, har] at e; cases e; exact w _ rfl
  refine ⟨k a3 (c.lst h.bk h.ln), k a5 (c.lst h.bk h.sls), ?_, ?_, ?_, ?_, ?_, ?_, ?_, ?_, ?_, h.pl, h.ap, h.pa, ba, ?_⟩
  · refine hB.keep fun y o hy e => k ?_ e
    rcases hy with rfl | rfl | rfl | ⟨r, hr, rfl⟩
    · exact nm (fun zs q => by rw [hB.inst] at e; cases e; cases q) e
    · exact nm (fun zs q => by rw [hB.attrs] at e; cases e; cases q) e
    · exact nm (fun zs q => by rw [hB.kept] at e; cases e; cases q) e
    · exact (ba r hr).2
  · show (AH.put _ _ _) ar = _
    rw [put_get, List.map_append]; rfl
  · exact (la.put_ne fun y hy => (h.ia y hy).2).append (.cons (k nx.2 (c.lst h.bk hx)) .nil)
  · have hd := h.hd.turn c h.bk
    refine hd.keep (AH.put_ne _ _ (Ne.symm a1)) fun p hp y hy o e => k ?_ e
    rcases hy with rfl | rfl | rfl
    · exact nm (fun zs q => by rw [(hd.all p hp).1] at e; cases e; cases q) e
    · exact (h.pa p hp _ (.inl rfl)).2
    · exact (h.pa p hp _ (.inr rfl)).2
  · show (B.rs ++ [(B.c, l, sortS row)]).map (·.2.2) = _
    rw [List.map_append, List.map_append]
    have := h.sets
    unfold Bk.sets at this
    rw [this]; rfl
  · show (B.rs ++ [(B.c, l, sortS row)]).map (·.1) = _
    rw [List.map_append, h.nums, List.length_append, List.length_singleton, List.range_succ, List.map_append, h.c]; rfl
  · show B.c + 1 = _
    rw [h.c, List.length_append, List.length_singleton]; omega
  · intro r hr'
    rcases List.mem_append.mp hr' with hr' | hr'
    · exact h.ok r hr'
    · rw [show r = row by simpa using hr']; exact hr
  · rw [List.length_append, List.length_singleton]; have := h.fl; omega
  · intro y hy
    rcases List.mem_append.mp hy with hy | hy
    · exact h.ia y hy
    · rw [show y = x by simpa using hy]; exact nx
theorem LH.oldest {x : List Str} (h : LH an ah sl names sx n1 n2 B ar as (x :: F) ps tk H) : ∃ r rs, B.rs = r :: rs ∧ r.1 = tk ∧ rs.map (·.2.2) = F.map sortS ∧ (rs.map (·.1)) = (List.range F.length).map (fun i : Nat => tk + 1 + (i : Int)) ∧ (B.less tk).rs = rs := by
  have hn := h.nums
  have hs := h.sets
  have hi := h.bk.inc
  unfold Bk.sets at hs
  unfold Bk.less
  cases e : B.rs with
  | nil => rw [e] at hs; simp at hs
  | cons r rs =>
    rw [e] at hn hs hi
    rw [List.length_cons, List.range_succ_eq_map, List.map_cons, List.map_cons] at hn
    have h1 : r.1 = tk := by
      have := (List.cons.inj hn).1
      simpa using this
    have h2 := (List.cons.inj hn).2
    refine ⟨r, rs, rfl, h1, (List.cons.inj hs).2, ?_, ?_⟩
    · rw [h2, List.map_map]
      refine List.map_congr_left fun i hi => ?_
      show tk + ((i + 1 : Nat) : Int) = tk + 1 + (i : Int)
      omega
    · rw [List.map_cons] at hi
      obtain ⟨i1, i2⟩ := List.pairwise_cons.mp hi
      show List.filter (fun q => decide (q.fst ≠ tk)) (r :: rs) = rs
      rw [List.filter_cons, if_neg (by simp [h1])]
      refine List.filter_eq_self.mpr fun q hq => ?_
      have := i1 q.1 (List.mem_map.mpr ⟨q, hq, rfl⟩)
      exact decide_eq_true (by omega)
theorem LH.less {x : List Str} {a : Addr} {ar2 : Addr} (h : LH an ah sl names sx n1 n2 B ar (a :: as) (x :: F) ps tk H) (c : Turn B H K) (hB : BookAt K (B.less tk)) (na : K ar2 = none) :
    LH an ah sl names sx n1 n2 (B.less tk) ar2 as F ps (tk + 1) (K.put ar2 (.list (as.map AV.ref))) := by
  obtain ⟨r, rs, e1, e2, e3, e4, e5⟩ := h.oldest
  have s := Sub.add na (.list (as.map AV.ref))
  obtain ⟨a1, a2, a3, a4, a5⟩ := h.ap
  have nn : ∀ {y : Addr} {o : AO}, K y = some o → y ≠ ar2 := fun {y o} e w => by rw [w, na] at e; cases e
  have la : LAll K as F := by
    have := c.lall h.bk h.la
    cases this with | cons _ q => exact q
  have hd := h.hd.turn c h.bk
  have kn := c.lst h.bk h.ln
  have ks := c.lst h.bk h.sls
  refine ⟨s _ _ kn, s _ _ ks, hB.sub s, put_get _ _ _, la.sub s, hd.sub s, ?_, ?_, ?_, fun r hr => h.ok r (.tail _ hr), ?_, h.pl, ⟨Ne.symm (nn hd.at_), a2, nn kn, a4, nn ks⟩, fun p hp y hy => ⟨(h.pa p hp y hy).1, ?_⟩, fun q hq => ⟨(h.ba q ?_).1, nn (hB.rows q hq)⟩, fun y hy => ⟨(h.ia y (.tail _ hy)).1, ?_⟩⟩
  · unfold Bk.sets; rw [e5]; exact e3
  · rw [e5]; exact e4
  · show B.c = _
    rw [h.c, List.length_cons]; omega
  · have := h.fl; rw [List.length_cons] at this; omega
  · rcases hy with rfl | rfl
    · exact nn (hd.all p hp).2.1
    · exact nn (hd.all p hp).2.2
  · rw [e5] at hq; rw [e1]; exact .tail _ hq
  · obtain ⟨g, _, hg⟩ := la.mem hy
    exact nn hg
theorem LH.right (h : LH an ah sl names sx n1 n2 B ar as F ps tk H) (hnd : names.Nodup) (hn : names.length ≤ 12) (l1 : n1 ≤ 100) (l2 : n2 ≤ 1000) {t : Int} {Q : QV} {X : QX}
    (fin : ∀ ps' H', (∀ x o, x ≠ ah → H x = some o → H' x = some o) → LH an ah sl names sx n1 (n2 + 2) B ar as F ps' tk H' → Q (.bool true) H') : F_l_right [.ref B.a, .ref an, .ref ar, .ref ah, .int t] H Q X := by
  obtain ⟨a1, a2, a3, a4, a5⟩ := h.ap
  refine ⟨B, an, ar, ah, names, F, ps, t, rfl, h.bk, h.ln, ⟨as, h.rl, h.la⟩, h.hd, hnd, hn, h.sets, h.ok, Nat.le_trans h.fl l1, Nat.le_trans h.pl l2, fun p hp => ⟨(h.pa p hp _ (.inl rfl)).1, (h.pa p hp _ (.inr rfl)).1⟩, fun p1 p2 H' kp hd nw => ?_⟩
  have nr : ∀ {y : Addr}, H y = none → y ≠ ah ∧ y ≠ ar := fun {y} e => ⟨(fun w => by rw [w, h.hd.at_] at e; cases e), (fun w => by have := h.rl; unfold RL at this; rw [w, this] at e; cases e)⟩
  have nm : ∀ {y : Addr} {o : AO}, (∀ zs, o ≠ .list zs) → H y = some o → y ≠ ah := fun {y o} w e z => by rw [z, h.hd.at_] at e; cases e; exact w _ rfl
  refine fin (ps ++ [p1, p2]) H' kp ⟨kp _ _ a2 h.ln, kp _ _ a4 h.sls, h.bk.keep fun y o hy e => kp _ _ ?_ e, kp _ _ a1 h.rl, ?_, hd, h.sets, h.nums, h.c, h.ok, h.fl, ?_, h.ap, ?_, h.ba, h.ia⟩
  · rcases hy with rfl | rfl | rfl | ⟨r, hr, rfl⟩
    · exact nm (fun zs q => by rw [h.bk.inst] at e; cases e; cases q) e
    · exact nm (fun zs q => by rw [h.bk.attrs] at e; cases e; cases q) e
    · exact nm (fun zs q => by rw [h.bk.kept] at e; cases e; cases q) e
    · exact (h.ba r hr).1
  · exact LAll.of h.la.length fun k c g e1 e2 => by
      obtain ⟨g', hg', hc⟩ := h.la.get e1
      rw [e2] at hg'; cases hg'
      exact kp _ _ (h.ia c (List.mem_of_getElem? e1)).1 hc
  · rw [List.length_append]; have := h.pl; simp; omega
  · intro p hp y hy
    rcases List.mem_append.mp hp with hp | hp
    · exact h.pa p hp y hy
    · refine nr (nw y ?_)
      rcases List.mem_cons.mp hp with rfl | hp
      · exact hy.elim .inl fun w => .inr (.inl w)
      · rw [show p = p2 by simpa using hp] at hy
        exact hy.elim (fun w => .inr (.inr (.inl w))) fun w => .inr (.inr (.inr w))
end
structure LV (an ah : Addr) (B : Bk) (ar : Addr) (tk : Int) (m : Mp) : Prop where
  v1 : m 1 = some (.ref an)
  v2 : m 2 = some (.ref B.a)
  v3 : m 3 = some (.ref ar)
  v4 : m 4 = some (.ref ah)
  v5 : m 5 = some (.int tk)
theorem LV.upd {an ah : Addr} {B : Bk} {ar : Addr} {tk : Int} {m : Mp} (h : LV an ah B ar tk m) {i : Nat} (hi : 6 ≤ i) (v : AV) : LV an ah B ar tk (m.upd i v) :=
  ⟨(Mp.upd_ne _ _ (by omega)).trans h.v1, (Mp.upd_ne _ _ (by omega)).trans h.v2, (Mp.upd_ne _ _ (by omega)).trans h.v3, (Mp.upd_ne _ _ (by omega)).trans h.v4, (Mp.upd_ne _ _ (by omega)).trans h.v5⟩
theorem cut_list1 {α : Type} (xs : List α) : cut xs none (some 1) = xs.take 1 := cut_upto xs (by decide)
theorem held_all {m : Mp} {H : AH} {Q : QV} {X : QX} {ah : Addr} {ps : List Hd} (h : HeldAt H ah ps) (v4 : m 4 = some (.ref ah)) (fin : ∀ H', Q (.bool true) H') : (tBcall bAll (tCons (tComp2 (tLoc 4) 8 9 (tCmp aEq (tLoc 8) (tLoc 9))) tNil)) m H Q X := by
  refine ⟨_, v4, ah, _, rfl, h.at_, fun k ys H' => H' = H ∧ ys = (List.replicate k true).map AV.bool, ⟨rfl, rfl⟩, ?_⟩
  rintro k ys H' ⟨rfl, rfl⟩ hk
  refine ⟨h.at_, fun x hx => ?_, fun e r hr => ?_⟩
  · rw [List.getElem?_map] at hx
    cases ep : ps[k]? with
    | none => rw [ep] at hx; cases hx
    | some p =>
      rw [ep] at hx; cases hx
      obtain ⟨w1, w2, w3⟩ := h.all p (List.mem_of_getElem? ep)
      refine ⟨p.t, _, _, rfl, w1, _, (Mp.upd_ne _ _ (by decide)).trans (Mp.upd_self _ _ _), _, Mp.upd_self _ _ _, eq_LS w2 w3 ?_⟩
      rw [decide_eq_true rfl]
      refine ⟨rfl, ?_⟩
      rw [List.replicate_succ', List.map_append]; rfl
  · refine ⟨r, _, rfl, put_get _ _ _, ?_⟩
    have : (List.replicate k true).all id = true := by simp
    rw [this]
    exact fin _
theorem ok_law (vs : List AV) (H : AH) (Q : QV) (X : QX) (h : F_law vs H Q X) : mkFn is_law T_law vs H Q X := by
  obtain ⟨l, ns, rfl, hl, fin⟩ := h
  refine ⟨rfl, _, rfl, l, ns, rfl, hl, fun a0 names H0 s0 n0 h0 hnd0 hn10 hn70 hnm0 => ⟨none, some 6, .none, .int 6, _, h0, fun an ha1 => ?_⟩⟩
  have sc := Sub.add ha1 (.list (cut (names.map AV.str) none (some 6)))
  have h1 : LS (H0.put an (.list (cut (names.map AV.str) none (some 6)))) an (names.take 6) := by
    show (AH.put _ _ _) an = _
    rw [put_get, cut_map, cut_upto _ (by decide)]; rfl
  have hnd : (names.take 6).Nodup := hnd0.sublist (List.take_sublist _ _)
  have hn1 : 1 ≤ (names.take 6).length := by rw [List.length_take]; omega
  have hn6 : (names.take 6).length ≤ 6 := by rw [List.length_take]; omega
  have hnm : ∀ n ∈ names.take 6, Nm n := fun n hn => hnm0 n (List.mem_of_mem_take hn)
  have s1 := s0.trans sc
  generalize H0.put an (.list (cut (names.map AV.str) none (some 6))) = H1 at *
  generalize names.take 6 = names at *
  have hne : names ≠ [] := fun e => by rw [e] at hn1; simp at hn1
  intro x d hx hd ne
  have sx := (Sub.add hd (.attrs [])).put (.inst d) hx
  refine ⟨x, d, rfl, put_get _ _ _, (AH.put_ne _ _ (Ne.symm ne)).trans (put_get _ _ _), ne, fun k0 H2 hk0 c2 hB2 => ⟨rfl, ?_⟩⟩
  have s2 : Sub H1 H2 := fun y o e => c2.keep y o (fun q => by rw [q, hd] at e; cases e) (sx _ _ e)
  refine ⟨Nat.zero_le _, fun ar har => ⟨Nat.zero_le _, fun ah hah => ?_⟩⟩
  have s3 := Sub.add har (.list [])
  have s4 := Sub.add hah (.list [])
  have s34 := s3.trans s4
  have s14 := s2.trans s34
  have gar := s4 _ _ (put_get H2 ar (.list []))
  have gah := put_get (H2.put ar (.list [])) ah (.list [])
  have nra : ar ≠ ah := ne_new hah (put_get _ _ _)
  have nn : an ≠ ah ∧ an ≠ ar := ⟨ne_new hah (s3 _ _ (s2 _ _ h1)), ne_new har (s2 _ _ h1)⟩
  generalize (H2.put ar (.list [])).put ah (.list []) = H4 at *
  have hl4 := s14 _ _ (s1 _ _ hl)
  have L0 : LH an ah an names (names.map AV.str) 0 0 ⟨x, d, k0, [], 0⟩ ar [] [] [] 0 H4 :=
    ⟨s14 _ _ h1, s14 _ _ h1, hB2.sub s34, gar, .nil, ⟨gah, fun p hp => (nomatch hp)⟩, rfl, rfl, rfl, fun r hr => (nomatch hr), Nat.le_refl _, Nat.le_refl _, ⟨nra, nn.1, nn.2, nn.1, nn.2⟩, fun p hp => (nomatch hp), fun r hr => (nomatch hr), fun a ha => (nomatch ha)⟩
  refine ⟨_, rfl, _, rfl, _, rfl, _, rfl, _, rfl, l, ns, 1, rfl, hl4, by decide, ?_⟩
  refine L0.right (X := X) hnd (by omega) (by decide) (by decide) fun ps5 H5 kp5 L5 => ⟨true, rfl, ?_⟩
  have hl5 : H5 l = some (.script ns) := kp5 l _ (fun e => by rw [e, gah] at hl4; cases hl4) hl4
  refine ⟨_, rfl, some 2, some 10, .int 2, .int 10, _, hl5, fun sl hsl => ?_⟩
  rw [cut_map]
  have hcl : (cut ns (some 2) (some 10)).length ≤ 8 := by
    rw [cut_both _ (by decide) (by decide), List.length_take]
    exact Nat.min_le_left _ _
  generalize cut ns (some 2) (some 10) = cells at *
  have L6 := L5.slice (sx2 := cells.map AV.int) hsl
  refine ⟨.list, cells.map AV.int, L6.sls, fun k m' H' => ∃ B ar as F ps tk, LV an ah B ar tk m' ∧ LH an ah sl names (cells.map AV.int) k (2 + 2 * k) B ar as F ps tk H', ⟨⟨x, d, k0, [], 0⟩, ar, [], [], ps5, 0, ⟨rfl, rfl, rfl, rfl, rfl⟩, L6⟩, ?_⟩
  clear L0 L5 L6 kp5 hsl hl5 gar gah nra hah har
  rintro k m' H' ⟨B, ar, as, F, ps, tk, V, L⟩ hk
  rw [List.length_map] at hk
  refine ⟨L.sls, fun y hy => ?_, fun e => held_all L.hd V.v4 fin⟩
  rw [List.getElem?_map] at hy
  obtain ⟨c, rfl⟩ : ∃ c : Int, y = .int c := by
    cases ec : cells[k]? with
    | none => rw [ec] at hy; cases hy
    | some c => rw [ec] at hy; cases hy; exact ⟨c, rfl⟩
  have V6 := V.upd (Nat.le_refl 6) (.int c)
  refine ⟨_, V6.v1, _, Mp.upd_self _ _ _, by decide, by decide, an, _, names, rfl, L.ln, hne, by omega, fun r7 row H7 s7 nr7 h7 hrow hrl hrn => ?_⟩
  have L7 := L.sub s7
  have nr : r7 ≠ ah ∧ r7 ≠ ar := ⟨(fun e => by rw [e, L.hd.at_] at nr7; cases nr7), (fun e => by have := L.rl; unfold RL at this; rw [e, this] at nr7; cases nr7)⟩
  have V7 := V6.upd (i := 7) (by decide) (.ref r7)
  have e6 : ((m'.upd 6 (.int c)).upd 7 (.ref r7)) 6 = some (.int c) := (Mp.upd_ne _ _ (by decide)).trans (Mp.upd_self _ _ _)
  have e7 : ((m'.upd 6 (.int c)).upd 7 (.ref r7)) 7 = some (.ref r7) := Mp.upd_self _ _ _
  generalize (m'.upd 6 (.int c)).upd 7 (.ref r7) = m7 at *
  clear V V6 L
  have done : ∀ {m2 : Mp} {H2 : AH} {B2 : Bk} {ar2 : Addr} {as2 : List Addr} {F2 : List (List Str)} {ps2 : List Hd} {tk2 : Int}, LV an ah B2 ar2 tk2 m2 → m2 6 = some (.int c) → LH an ah sl names (cells.map AV.int) (k + 1) (2 + 2 * k) B2 ar2 as2 F2 ps2 tk2 H2 →
      (tSeq (tIte (tNotB (tTruth (tCall F_l_right (tCons (tLoc 2) (tCons (tLoc 1) (tCons (tLoc 3) (tCons (tLoc 4) (tCons (tBin aFdiv (tLoc 6) (tVal (.int 36))) tNil)))))))) (tSeq (tRet (tVal (.bool false))) tSkip) tSkip) tSkip) m2 H2 (fun m' H' => ∃ B ar as F ps tk, LV an ah B ar tk m' ∧ LH an ah sl names (cells.map AV.int) (k + 1) (2 + 2 * (k + 1)) B ar as F ps tk H') Q X := fun {m2 H2 B2 ar2 as2 F2 ps2 tk2} W w6 M => by
    refine ⟨_, W.v2, _, W.v1, _, W.v3, _, W.v4, _, w6, by decide, by decide, ?_⟩
    refine M.right (X := X) hnd (by omega) (by omega) (by omega) fun ps5 H5 _ L5 => ⟨true, rfl, ?_⟩
    exact ⟨B2, ar2, as2, F2, ps5, tk2, W, L5⟩
  have putC : ∀ {m9 : Mp} {H9 : AH} {r9 : Addr} {row9 : List Str}, LV an ah B ar tk m9 → m9 6 = some (.int c) → m9 7 = some (.ref r9) → LH an ah sl names (cells.map AV.int) k (2 + 2 * k) B ar as F ps tk H9 → LS H9 r9 row9 → r9 ≠ ah ∧ r9 ≠ ar → (row9.Nodup ∧ ∀ n ∈ row9, n ∈ names) →
      (tSeq (tExpr (tMcall (Str.ofString "put") F_b_put (tLoc 2) (tCons (tBcall bList (tCons (tLoc 7) tNil)) tNil))) (tSeq (tExpr (tMeth "list" bAppend (tLoc 3) (tCons (tLoc 7) tNil))) tSkip)) m9 H9 (fun m1 H1 => (tSeq (tIte (tNotB (tTruth (tCall F_l_right (tCons (tLoc 2) (tCons (tLoc 1) (tCons (tLoc 3) (tCons (tLoc 4) (tCons (tBin aFdiv (tLoc 6) (tVal (.int 36))) tNil)))))))) (tSeq (tRet (tVal (.bool false))) tSkip) tSkip) tSkip) m1 H1 (fun m' H' => ∃ B ar as F ps tk, LV an ah B ar tk m' ∧ LH an ah sl names (cells.map AV.int) (k + 1) (2 + 2 * (k + 1)) B ar as F ps tk H') Q X) Q X := fun {m9 H9 r9 row9} W w6 w7 M h9 n9 o9 => by
    have rsl : B.rs.length = F.length := by rw [← List.length_map (f := (·.1)), M.nums]; simp
    have fl := M.fl
    refine ⟨_, W.v2, B.a, B.d, _, rfl, M.bk.inst, M.bk.attrs, by kernel_rfl, _, w7, r9, _, rfl, h9, fun r1 hr1 => ?_⟩
    have s2 := Sub.add hr1 (.list (row9.map AV.str))
    have M2 := M.sub s2
    refine ⟨B, r1, row9, names, rfl, M2.bk, put_get _ _ _, o9.1, fun n hn => hnm n (o9.2 n hn), by omega, by omega, fun z hz n hn => ?_, o9.2, fun l9 H3 c3 nl hB3 => ⟨fun _ h => (nomatch h), ?_⟩⟩
    · rw [M.sets] at hz
      obtain ⟨w, hw, rfl⟩ := List.mem_map.mp hz
      exact (M.ok w hw).2 n (mem_sortS.mp hn)
    have rl3 := c3.lst M2.bk M2.rl
    refine ⟨_, W.v3, .list rl3, _, w7, ar, _, _, rfl, rl3, by rw [List.length_map, M.la.length, sizeLine_is]; omega, fun _ h => (nomatch h), ?_⟩
    exact done (B2 := B.more l9 (sortS row9)) ⟨W.v1, W.v2, W.v3, W.v4, W.v5⟩ w6 (M2.more c3 nl hB3 (s2 _ _ h9) n9 o9 rfl)
  have putB : ∀ {H8 : AH}, Sub H7 H8 → (tSeq (tIte (tCmpB aEq (tBin aMod (tLoc 6) (tVal (.int 6))) (tVal (.int 4))) (tSeq (tAssign 7 (tSlice (tLoc 7) (tVal .none) (tVal (.int 1)))) tSkip) tSkip) (tSeq (tExpr (tMcall (Str.ofString "put") F_b_put (tLoc 2) (tCons (tBcall bList (tCons (tLoc 7) tNil)) tNil))) (tSeq (tExpr (tMeth "list" bAppend (tLoc 3) (tCons (tLoc 7) tNil))) tSkip))) m7 H8 (fun m1 H1 => (tSeq (tIte (tNotB (tTruth (tCall F_l_right (tCons (tLoc 2) (tCons (tLoc 1) (tCons (tLoc 3) (tCons (tLoc 4) (tCons (tBin aFdiv (tLoc 6) (tVal (.int 36))) tNil)))))))) (tSeq (tRet (tVal (.bool false))) tSkip) tSkip) tSkip) m1 H1 (fun m' H' => ∃ B ar as F ps tk, LV an ah B ar tk m' ∧ LH an ah sl names (cells.map AV.int) (k + 1) (2 + 2 * (k + 1)) B ar as F ps tk H') Q X) Q X := fun {H8} s8 => by
    have h8 := s8 _ _ h7
    refine ⟨_, e6, by decide, val_k (eq_int (ite_intro _ (fun _ => ?_) fun _ => ?_))⟩
    · refine ⟨_, e7, none, some 1, .none, .int 1, _, h8, fun r8 hr8 => ?_⟩
      rw [cut_map, cut_list1]
      have s9 := Sub.add hr8 (.list ((row.take 1).map AV.str))
      have L8 := L7.sub s8
      have n8 : r8 ≠ ah ∧ r8 ≠ ar := ⟨(fun e => by rw [e, L8.hd.at_] at hr8; cases hr8), (fun e => by have := L8.rl; unfold RL at this; rw [e, this] at hr8; cases hr8)⟩
      exact putC (V7.upd (by decide) _) ((Mp.upd_ne _ _ (by decide)).trans e6) (Mp.upd_self _ _ _) (L8.sub s9) (put_get _ _ _) n8 ⟨(hrn hnd).sublist (List.take_sublist _ _), fun n hn => hrow n (List.mem_of_mem_take hn)⟩
    · exact putC V7 e6 e7 (L7.sub s8) h8 nr ⟨hrn hnd, hrow⟩
  refine ⟨_, e6, by decide, val_k (eq_int (ite_intro _ (fun _ => ?_) fun _ => ite_f (putB (.refl _))))⟩
  refine ⟨_, V7.v3, Nat.zero_le _, fun z hz => ?_⟩
  have sz := Sub.add hz (.list [])
  have L8 := L7.sub sz
  refine ne_LL (F := F) (G := []) ⟨as, L8.rl, L8.la⟩ LL.nil (ite_intro _ (fun q => ?_) fun _ => putB sz)
  generalize H7.put z (.list []) = H8 at *
  cases F with
  | nil => simp at q
  | cons fx F =>
    cases as with
    | nil => have := L8.la.length; simp at this
    | cons a as =>
      obtain ⟨r, rs, o1, o2, _, _, _⟩ := L8.oldest
      refine ⟨_, V7.v2, B.a, B.d, _, rfl, L8.bk.inst, L8.bk.attrs, by kernel_rfl, _, V7.v5, B, tk, rfl, L8.bk, ⟨r, by rw [o1]; exact .head _, o2⟩, fun H9 c9 hB9 => ⟨fun _ h => (nomatch h), ?_⟩⟩
      refine ⟨_, V7.v5, ?_⟩
      have rl9 := c9.lst L8.bk L8.rl
      refine ⟨_, (Mp.upd_ne _ _ (by decide)).trans V7.v3, some 1, none, .int 1, .none, _, rl9, fun ar2 har2 => ?_⟩
      have ec : cut (List.map AV.ref (a :: as)) (some 1) none = as.map AV.ref := by rw [cut_from _ (by decide)]; rfl
      rw [ec]
      refine done (B2 := B.less tk) (tk2 := tk + 1) ⟨?_, ?_, Mp.upd_self _ _ _, ?_, ?_⟩ ((Mp.upd_ne _ _ (by decide)).trans ((Mp.upd_ne _ _ (by decide)).trans e6)) ((L8.less c9 hB9 har2).mono (by omega) (Nat.le_refl _))
      · exact (Mp.upd_ne _ _ (by decide)).trans ((Mp.upd_ne _ _ (by decide)).trans V7.v1)
      · exact (Mp.upd_ne _ _ (by decide)).trans ((Mp.upd_ne _ _ (by decide)).trans V7.v2)
      · exact (Mp.upd_ne _ _ (by decide)).trans ((Mp.upd_ne _ _ (by decide)).trans V7.v4)
      · exact (Mp.upd_ne _ _ (by decide)).trans (Mp.upd_self _ _ _)
end Mine
end
section
set_option maxRecDepth 100000
set_option maxHeartbeats 4000000
set_option linter.unusedVariables false
namespace Mine
open PySem PySem.Calls PyProof.Rows PySem.W
noncomputable def rho_l_draw : Rho := [((Str.ofString "_law_script"), 0), ((Str.ofString "_law_k"), 1)]
theorem snd_l_draw {S : St} {P : Params} (E : EnvL S (KK P)) (CL : Cls S (KK P)) (hB : S.book = 261)  : SoundS S true 1 (scAt (KK P) 272) rho_l_draw (bodyAt (KK P) 272) T_l_draw :=
  have rho0 : RhoOK rho_l_draw := rho_ok (by kernel_rfl)
  (sS_cons (sT_ret (sE_if (sB_cmp cmp_gt (sE_bcall E.KS (bLen_ok E.KS) (sEs_cons (sE_loc _ (by kernel_rfl) (by kernel_rfl) (by kernel_rfl)) sEs_nil (fun _ => rfl)) (by kernel_rfl) (E.g (by kernel_rfl)) (E.b (by kernel_rfl) (by kernel_rfl)) (by kernel_rfl) (by kernel_rfl)) (sE_loc _ (by kernel_rfl) (by kernel_rfl) (by kernel_rfl)) rfl) (sE_item (sE_loc _ (by kernel_rfl) (by kernel_rfl) (by kernel_rfl)) (sE_loc _ (by kernel_rfl) (by kernel_rfl) (by kernel_rfl))) (sE_int _ _ _)))
  sS_nil)
theorem fn_l_draw {S : St} {P : Params} (E : EnvL S (KK P)) (CL : Cls S (KK P)) (hB : S.book = 261)  : SoundF S true 2 (.ref 272) (mkFn is_l_draw T_l_draw) :=
  sF_defK E.KS (isDef_of E.X (cd := 271) (ps := [(Str.ofString "_law_script"), (Str.ofString "_law_k")]) rfl ⟨_, rfl⟩ rfl rfl rfl rfl ⟨_, _, _, rfl, rfl, rfl⟩ (bind2 fun _ _ => rfl)) (by kernel_rfl) (snd_l_draw E CL hB )
noncomputable def rho_l_names : Rho := [((Str.ofString "_law_script"), 0), ((Str.ofString "_law_letters"), 1), ((Str.ofString "_law_cell"), 2), ((Str.ofString "_law_many"), 3), ((Str.ofString "_law_turned"), 4), ((Str.ofString "_law_size"), 5), ((Str.ofString "_law_base"), 6), ((Str.ofString "_law_at"), 7)]
theorem snd_l_names {S : St} {P : Params} (E : EnvL S (KK P)) (CL : Cls S (KK P)) (hB : S.book = 261) (h_l_draw : SoundF S true 2 (.ref 272) F_l_draw) : SoundS S true 3 (scAt (KK P) 277) rho_l_names (bodyAt (KK P) 277) T_l_names :=
  have rho0 : RhoOK rho_l_names := rho_ok (by kernel_rfl)
  (sS_cons (sT_assign (sE_str _ _ _ (by kernel_rfl)) rho0 (by kernel_rfl) (or_kd (by kernel_rfl)) (fun _ => rfl))
  (sS_cons (sT_assign (sE_callD E.KS (h_l_draw.deeper (by omega)) (sEs_cons (sE_loc _ (by kernel_rfl) (by kernel_rfl) (by kernel_rfl)) (sEs_cons (sE_int _ _ _) sEs_nil (fun _ => rfl)) (fun _ => rfl)) (by kernel_rfl) (E.g (by kernel_rfl)) (isFn_of E.X (by kernel_rfl)) (by kernel_rfl) (by kernel_rfl)) rho0 (by kernel_rfl) (or_kd (by kernel_rfl)) (fun _ => rfl))
  (sS_cons (sT_assign (sE_bin bin_add (sE_int _ _ _) (sE_bin bin_mod (sE_loc _ (by kernel_rfl) (by kernel_rfl) (by kernel_rfl)) (sE_int _ _ _))) rho0 (by kernel_rfl) (or_kd (by kernel_rfl)) (fun _ => rfl))
  (sS_cons (sT_if (sB_cmp cmp_eq (sE_bin bin_mod (sE_bin bin_fdiv (sE_loc _ (by kernel_rfl) (by kernel_rfl) (by kernel_rfl)) (sE_int _ _ _)) (sE_int _ _ _)) (sE_int _ _ _) rfl) (sS_cons (sT_ret (sE_comp (sE_tcall E.KS (bRange_ok) (sEs_cons (sE_loc _ (by kernel_rfl) (by kernel_rfl) (by kernel_rfl)) sEs_nil (fun _ => rfl)) (by kernel_rfl) (E.g (by kernel_rfl)) (E.b (by kernel_rfl) (by kernel_rfl)) (by kernel_rfl) (by kernel_rfl)) sFs_nil (sE_slice (sE_slice (sE_loc _ (by kernel_rfl) (by kernel_rfl) (by kernel_rfl)) (sP_some (sE_bin bin_mod (sE_bin bin_fdiv (sE_loc _ (by kernel_rfl) (by kernel_rfl) (by kernel_rfl)) (sE_int _ _ _)) (sE_int _ _ _))) sP_none) sP_none (sP_some (sE_bin bin_add (sE_loc _ (by kernel_rfl) (by kernel_rfl) (by kernel_rfl)) (sE_int _ _ _)))) (comp_at (by kernel_rfl)) (fun _ _ => rfl)))
  sS_nil) sS_nil)
  (sS_cons (sT_if (sB_cmp cmp_eq (sE_bin bin_mod (sE_bin bin_fdiv (sE_loc _ (by kernel_rfl) (by kernel_rfl) (by kernel_rfl)) (sE_int _ _ _)) (sE_int _ _ _)) (sE_int _ _ _) rfl) (sS_cons (sT_assign (sE_slice (sE_slice (sE_loc _ (by kernel_rfl) (by kernel_rfl) (by kernel_rfl)) (sP_some (sE_bin bin_mod (sE_bin bin_fdiv (sE_loc _ (by kernel_rfl) (by kernel_rfl) (by kernel_rfl)) (sE_int _ _ _)) (sE_int _ _ _))) sP_none) sP_none (sP_some (sE_int _ _ _))) rho0 (by kernel_rfl) (or_kd (by kernel_rfl)) (fun _ => rfl))
  (sS_cons (sT_ret (sE_comp (sE_tcall E.KS (bRange_ok) (sEs_cons (sE_loc _ (by kernel_rfl) (by kernel_rfl) (by kernel_rfl)) sEs_nil (fun _ => rfl)) (by kernel_rfl) (E.g (by kernel_rfl)) (E.b (by kernel_rfl) (by kernel_rfl)) (by kernel_rfl) (by kernel_rfl)) sFs_nil (sE_bin bin_add (sE_slice (sE_loc _ (by kernel_rfl) (by kernel_rfl) (by kernel_rfl)) (sP_some (sE_loc _ (by kernel_rfl) (by kernel_rfl) (by kernel_rfl))) sP_none) (sE_slice (sE_loc _ (by kernel_rfl) (by kernel_rfl) (by kernel_rfl)) sP_none (sP_some (sE_loc _ (by kernel_rfl) (by kernel_rfl) (by kernel_rfl))))) (comp_at (by kernel_rfl)) (fun _ _ => rfl)))
  sS_nil)) sS_nil)
  (sS_cons (sT_assign (sE_bin bin_mod (sE_bin bin_fdiv (sE_loc _ (by kernel_rfl) (by kernel_rfl) (by kernel_rfl)) (sE_int _ _ _)) (sE_int _ _ _)) rho0 (by kernel_rfl) (or_kd (by kernel_rfl)) (fun _ => rfl))
  (sS_cons (sT_assign (sE_meth meth_join bJoin_ok (sE_str _ _ _ (by kernel_rfl)) (sEs_cons (sE_comp (sE_tcall E.KS (bRange_ok) (sEs_cons (sE_loc _ (by kernel_rfl) (by kernel_rfl) (by kernel_rfl)) sEs_nil (fun _ => rfl)) (by kernel_rfl) (E.g (by kernel_rfl)) (E.b (by kernel_rfl) (by kernel_rfl)) (by kernel_rfl) (by kernel_rfl)) sFs_nil (sE_item (sE_loc _ (by kernel_rfl) (by kernel_rfl) (by kernel_rfl)) (sE_bin bin_mod (sE_bin bin_add (sE_bin bin_fdiv (sE_loc _ (by kernel_rfl) (by kernel_rfl) (by kernel_rfl)) (sE_int _ _ _)) (sE_bin bin_mul (sE_int _ _ _) (sE_loc _ (by kernel_rfl) (by kernel_rfl) (by kernel_rfl)))) (sE_int _ _ _))) (comp_at (by kernel_rfl)) (fun _ _ => rfl)) sEs_nil (fun _ => rfl)) (fun _ => rfl) (by kernel_rfl) (by kernel_rfl) (by decide)) rho0 (by kernel_rfl) (or_kd (by kernel_rfl)) (fun _ => rfl))
  (sS_cons (sT_assign (sE_bin bin_mod (sE_bin bin_fdiv (sE_loc _ (by kernel_rfl) (by kernel_rfl) (by kernel_rfl)) (sE_int _ _ _)) (sE_bin bin_add (sE_loc _ (by kernel_rfl) (by kernel_rfl) (by kernel_rfl)) (sE_int _ _ _))) rho0 (by kernel_rfl) (or_kd (by kernel_rfl)) (fun _ => rfl))
  (sS_cons (sT_ret (sE_comp (sE_tcall E.KS (bRange_ok) (sEs_cons (sE_loc _ (by kernel_rfl) (by kernel_rfl) (by kernel_rfl)) sEs_nil (fun _ => rfl)) (by kernel_rfl) (E.g (by kernel_rfl)) (E.b (by kernel_rfl) (by kernel_rfl)) (by kernel_rfl) (by kernel_rfl)) sFs_nil (sE_bin bin_add (sE_bin bin_add (sE_slice (sE_loc _ (by kernel_rfl) (by kernel_rfl) (by kernel_rfl)) sP_none (sP_some (sE_loc _ (by kernel_rfl) (by kernel_rfl) (by kernel_rfl)))) (sE_item (sE_loc _ (by kernel_rfl) (by kernel_rfl) (by kernel_rfl)) (sE_bin bin_mod (sE_bin bin_add (sE_bin bin_fdiv (sE_loc _ (by kernel_rfl) (by kernel_rfl) (by kernel_rfl)) (sE_int _ _ _)) (sE_bin bin_mul (sE_int _ _ _) (sE_loc _ (by kernel_rfl) (by kernel_rfl) (by kernel_rfl)))) (sE_int _ _ _)))) (sE_slice (sE_loc _ (by kernel_rfl) (by kernel_rfl) (by kernel_rfl)) (sP_some (sE_loc _ (by kernel_rfl) (by kernel_rfl) (by kernel_rfl))) sP_none)) (comp_at (by kernel_rfl)) (fun _ _ => rfl)))
  sS_nil)))))))))
theorem fn_l_names {S : St} {P : Params} (E : EnvL S (KK P)) (CL : Cls S (KK P)) (hB : S.book = 261) (h_l_draw : SoundF S true 2 (.ref 272) F_l_draw) : SoundF S true 4 (.ref 277) (mkFn is_l_names T_l_names) :=
  sF_defK E.KS (isDef_of E.X (cd := 276) (ps := [(Str.ofString "_law_script")]) rfl ⟨_, rfl⟩ rfl rfl rfl rfl ⟨_, _, _, rfl, rfl, rfl⟩ (bind1 fun _ => rfl)) (by kernel_rfl) (snd_l_names E CL hB h_l_draw)
noncomputable def rho_b_init : Rho := [((Str.ofString "self"), 0)]
theorem snd_b_init {S : St} {P : Params} (E : EnvL S (KK P)) (CL : Cls S (KK P)) (hB : S.book = 261)  : SoundS S true 1 (scAt (KK P) 140) rho_b_init (bodyAt (KK P) 140) T_b_init :=
  have rho0 : RhoOK rho_b_init := rho_ok (by kernel_rfl)
  (sS_cons (sT_attrSet E CL (sE_loc _ (by kernel_rfl) (by kernel_rfl) (by kernel_rfl)) sE_dict0 (by rw [hB]; kernel_rfl) (fun _ => rfl))
  (sS_cons (sT_attrSet E CL (sE_loc _ (by kernel_rfl) (by kernel_rfl) (by kernel_rfl)) (sE_int _ _ _) (by rw [hB]; kernel_rfl) (fun _ => rfl))
  sS_nil))
theorem fn_b_init {S : St} {P : Params} (E : EnvL S (KK P)) (CL : Cls S (KK P)) (hB : S.book = 261)  : SoundF S true 2 (.ref 140) (mkFn is_b_init T_b_init) :=
  sF_defK E.KS (isDef_of E.X (cd := 139) (ps := [(Str.ofString "self")]) rfl ⟨_, rfl⟩ rfl rfl rfl rfl ⟨_, _, _, rfl, rfl, rfl⟩ (bind1 fun _ => rfl)) (by kernel_rfl) (snd_b_init E CL hB )
noncomputable def rho_ranked : Rho := [((Str.ofString "sets"), 0), ((Str.ofString "pairs"), 1), ((Str.ofString "one"), 2), ((Str.ofString "found"), 3)]
theorem snd_ranked {S : St} {P : Params} (E : EnvL S (KK P)) (CL : Cls S (KK P)) (hB : S.book = 261)  : SoundS S true 1 (scAt (KK P) 109) rho_ranked (bodyAt (KK P) 109) T_ranked :=
  have rho0 : RhoOK rho_ranked := rho_ok (by kernel_rfl)
  (sS_cons (sT_assign (sE_list sEs_nil) rho0 (by kernel_rfl) (or_kd (by kernel_rfl)) (fun _ => rfl))
  (sS_cons (sT_for (sE_loc _ (by kernel_rfl) (by kernel_rfl) (by kernel_rfl)) (sS_cons (sT_assign (sE_bcall E.KS (bSorted_ok E.KS) (sEs_cons (sE_tcall E.KS (bSet_ok) (sEs_cons (sE_loc _ (by kernel_rfl) (by kernel_rfl) (by kernel_rfl)) sEs_nil (fun _ => rfl)) (by kernel_rfl) (E.g (by kernel_rfl)) (E.b (by kernel_rfl) (by kernel_rfl)) (by kernel_rfl) (by kernel_rfl)) sEs_nil (fun _ => rfl)) (by kernel_rfl) (E.g (by kernel_rfl)) (E.b (by kernel_rfl) (by kernel_rfl)) (by kernel_rfl) (by kernel_rfl)) rho0 (by kernel_rfl) (or_kd (by kernel_rfl)) (fun _ => rfl))
  (sS_cons (sT_expr (sE_meth meth_append bAppend_ok (sE_loc _ (by kernel_rfl) (by kernel_rfl) (by kernel_rfl)) (sEs_cons (sE_tuple (sEs_cons (sE_bcall E.KS (bLen_ok E.KS) (sEs_cons (sE_loc _ (by kernel_rfl) (by kernel_rfl) (by kernel_rfl)) sEs_nil (fun _ => rfl)) (by kernel_rfl) (E.g (by kernel_rfl)) (E.b (by kernel_rfl) (by kernel_rfl)) (by kernel_rfl) (by kernel_rfl)) (sEs_cons (sE_loc _ (by kernel_rfl) (by kernel_rfl) (by kernel_rfl)) sEs_nil (fun _ => rfl)) (fun _ => rfl))) sEs_nil (fun _ => rfl)) (fun _ => rfl) (by kernel_rfl) (by kernel_rfl) (by decide)) (fun _ => rfl))
  sS_nil)) rho0 (by kernel_rfl) (or_kd (by kernel_rfl)) (fun _ _ => rfl))
  (sS_cons (sT_ret (sE_comp (sE_bcall E.KS (bSorted_ok E.KS) (sEs_cons (sE_loc _ (by kernel_rfl) (by kernel_rfl) (by kernel_rfl)) sEs_nil (fun _ => rfl)) (by kernel_rfl) (E.g (by kernel_rfl)) (E.b (by kernel_rfl) (by kernel_rfl)) (by kernel_rfl) (by kernel_rfl)) sFs_nil (sE_item (sE_loc _ (by kernel_rfl) (by kernel_rfl) (by kernel_rfl)) (sE_int _ _ _)) (comp_at (by kernel_rfl)) (fun _ _ => rfl)))
  sS_nil)))
theorem fn_ranked {S : St} {P : Params} (E : EnvL S (KK P)) (CL : Cls S (KK P)) (hB : S.book = 261)  : SoundF S true 2 (.ref 109) (mkFn is_ranked T_ranked) :=
  sF_defK E.KS (isDef_of E.X (cd := 108) (ps := [(Str.ofString "sets")]) rfl ⟨_, rfl⟩ rfl rfl rfl rfl ⟨_, _, _, rfl, rfl, rfl⟩ (bind1 fun _ => rfl)) (by kernel_rfl) (snd_ranked E CL hB )
noncomputable def rho_within : Rho := [((Str.ofString "one"), 0), ((Str.ofString "other"), 1)]
theorem snd_within {S : St} {P : Params} (E : EnvL S (KK P)) (CL : Cls S (KK P)) (hB : S.book = 261)  : SoundS S true 1 (scAt (KK P) 99) rho_within (bodyAt (KK P) 99) T_within :=
  have rho0 : RhoOK rho_within := rho_ok (by kernel_rfl)
  (sS_cons (sT_ret (sE_bcall E.KS (bAll_ok) (sEs_cons (sE_comp (sE_loc _ (by kernel_rfl) (by kernel_rfl) (by kernel_rfl)) sFs_nil (sE_cmp cmp_in (sE_loc _ (by kernel_rfl) (by kernel_rfl) (by kernel_rfl)) (sE_loc _ (by kernel_rfl) (by kernel_rfl) (by kernel_rfl)) rfl) (comp_at (by kernel_rfl)) (fun _ _ => rfl)) sEs_nil (fun _ => rfl)) (by kernel_rfl) (E.g (by kernel_rfl)) (E.b (by kernel_rfl) (by kernel_rfl)) (by kernel_rfl) (by kernel_rfl)))
  sS_nil)
theorem fn_within {S : St} {P : Params} (E : EnvL S (KK P)) (CL : Cls S (KK P)) (hB : S.book = 261)  : SoundF S true 2 (.ref 99) (mkFn is_within T_within) :=
  sF_defK E.KS (isDef_of E.X (cd := 98) (ps := [(Str.ofString "one"), (Str.ofString "other")]) rfl ⟨_, rfl⟩ rfl rfl rfl rfl ⟨_, _, _, rfl, rfl, rfl⟩ (bind2 fun _ _ => rfl)) (by kernel_rfl) (snd_within E CL hB )
noncomputable def rho_least_of : Rho := [((Str.ofString "sets"), 0), ((Str.ofString "found"), 1), ((Str.ofString "one"), 2)]
theorem snd_least_of {S : St} {P : Params} (E : EnvL S (KK P)) (CL : Cls S (KK P)) (hB : S.book = 261) (h_ranked : SoundF S true 2 (.ref 109) F_ranked) (h_within : SoundF S true 2 (.ref 99) F_within) : SoundS S true 3 (scAt (KK P) 114) rho_least_of (bodyAt (KK P) 114) T_least_of :=
  have rho0 : RhoOK rho_least_of := rho_ok (by kernel_rfl)
  (sS_cons (sT_assign (sE_list sEs_nil) rho0 (by kernel_rfl) (or_kd (by kernel_rfl)) (fun _ => rfl))
  (sS_cons (sT_for (sE_callD E.KS (h_ranked.deeper (by omega)) (sEs_cons (sE_loc _ (by kernel_rfl) (by kernel_rfl) (by kernel_rfl)) sEs_nil (fun _ => rfl)) (by kernel_rfl) (E.g (by kernel_rfl)) (isFn_of E.X (by kernel_rfl)) (by kernel_rfl) (by kernel_rfl)) (sS_cons (sT_if (sB_not (sB_truth (sE_bcall E.KS (bAny_ok) (sEs_cons (sE_comp (sE_loc _ (by kernel_rfl) (by kernel_rfl) (by kernel_rfl)) sFs_nil (sE_callD E.KS (h_within.deeper (by omega)) (sEs_cons (sE_loc _ (by kernel_rfl) (by kernel_rfl) (by kernel_rfl)) (sEs_cons (sE_loc _ (by kernel_rfl) (by kernel_rfl) (by kernel_rfl)) sEs_nil (fun _ => rfl)) (fun _ => rfl)) (by kernel_rfl) (E.g (by kernel_rfl)) (isFn_of E.X (by kernel_rfl)) (by kernel_rfl) (by kernel_rfl)) (comp_at (by kernel_rfl)) (fun _ _ => rfl)) sEs_nil (fun _ => rfl)) (by kernel_rfl) (E.g (by kernel_rfl)) (E.b (by kernel_rfl) (by kernel_rfl)) (by kernel_rfl) (by kernel_rfl)) (fun _ _ => rfl))) (sS_cons (sT_expr (sE_meth meth_append bAppend_ok (sE_loc _ (by kernel_rfl) (by kernel_rfl) (by kernel_rfl)) (sEs_cons (sE_loc _ (by kernel_rfl) (by kernel_rfl) (by kernel_rfl)) sEs_nil (fun _ => rfl)) (fun _ => rfl) (by kernel_rfl) (by kernel_rfl) (by decide)) (fun _ => rfl))
  sS_nil) sS_nil)
  sS_nil) rho0 (by kernel_rfl) (or_kd (by kernel_rfl)) (fun _ _ => rfl))
  (sS_cons (sT_ret (sE_loc _ (by kernel_rfl) (by kernel_rfl) (by kernel_rfl)))
  sS_nil)))
theorem fn_least_of {S : St} {P : Params} (E : EnvL S (KK P)) (CL : Cls S (KK P)) (hB : S.book = 261) (h_ranked : SoundF S true 2 (.ref 109) F_ranked) (h_within : SoundF S true 2 (.ref 99) F_within) : SoundF S true 4 (.ref 114) (mkFn is_least_of T_least_of) :=
  sF_defK E.KS (isDef_of E.X (cd := 113) (ps := [(Str.ofString "sets")]) rfl ⟨_, rfl⟩ rfl rfl rfl rfl ⟨_, _, _, rfl, rfl, rfl⟩ (bind1 fun _ => rfl)) (by kernel_rfl) (snd_least_of E CL hB h_ranked h_within)
noncomputable def rho_b_rows : Rho := [((Str.ofString "self"), 0)]
theorem snd_b_rows {S : St} {P : Params} (E : EnvL S (KK P)) (CL : Cls S (KK P)) (hB : S.book = 261)  : SoundS S true 1 (scAt (KK P) 159) rho_b_rows (bodyAt (KK P) 159) T_b_rows :=
  have rho0 : RhoOK rho_b_rows := rho_ok (by kernel_rfl)
  (sS_cons (sT_ret (sE_comp (sE_bcall E.KS (bSorted_ok E.KS) (sEs_cons (sE_attr E CL (sE_loc _ (by kernel_rfl) (by kernel_rfl) (by kernel_rfl)) (by rw [hB]; kernel_rfl)) sEs_nil (fun _ => rfl)) (by kernel_rfl) (E.g (by kernel_rfl)) (E.b (by kernel_rfl) (by kernel_rfl)) (by kernel_rfl) (by kernel_rfl)) sFs_nil (sE_tuple (sEs_cons (sE_loc _ (by kernel_rfl) (by kernel_rfl) (by kernel_rfl)) (sEs_cons (sE_tcall E.KS (bList_ok) (sEs_cons (sE_item (sE_attr E CL (sE_loc _ (by kernel_rfl) (by kernel_rfl) (by kernel_rfl)) (by rw [hB]; kernel_rfl)) (sE_loc _ (by kernel_rfl) (by kernel_rfl) (by kernel_rfl))) sEs_nil (fun _ => rfl)) (by kernel_rfl) (E.g (by kernel_rfl)) (E.b (by kernel_rfl) (by kernel_rfl)) (by kernel_rfl) (by kernel_rfl)) sEs_nil (fun _ => rfl)) (fun _ => rfl))) (comp_at (by kernel_rfl)) (fun _ _ => rfl)))
  sS_nil)
theorem fn_b_rows {S : St} {P : Params} (E : EnvL S (KK P)) (CL : Cls S (KK P)) (hB : S.book = 261)  : SoundF S true 2 (.ref 159) (mkFn is_b_rows T_b_rows) :=
  sF_defK E.KS (isDef_of E.X (cd := 158) (ps := [(Str.ofString "self")]) rfl ⟨_, rfl⟩ rfl rfl rfl rfl ⟨_, _, _, rfl, rfl, rfl⟩ (bind1 fun _ => rfl)) (by kernel_rfl) (snd_b_rows E CL hB )
noncomputable def rho_b_all_sets : Rho := [((Str.ofString "self"), 0)]
theorem snd_b_all_sets {S : St} {P : Params} (E : EnvL S (KK P)) (CL : Cls S (KK P)) (hB : S.book = 261) (h_b_rows : SoundF S true 2 (.ref 159) F_b_rows) : SoundS S true 3 (scAt (KK P) 164) rho_b_all_sets (bodyAt (KK P) 164) T_b_all_sets :=
  have rho0 : RhoOK rho_b_all_sets := rho_ok (by kernel_rfl)
  (sS_cons (sT_ret (sE_comp (sE_mcall E CL (h_b_rows.deeper (by omega)) (sE_loc _ (by kernel_rfl) (by kernel_rfl) (by kernel_rfl)) sEs_nil (fun _ => rfl) (by kernel_rfl) (by kernel_rfl) (by decide) (by rw [hB]; kernel_rfl) (by kernel_rfl) (by kernel_rfl)) sFs_nil (sE_item (sE_loc _ (by kernel_rfl) (by kernel_rfl) (by kernel_rfl)) (sE_int _ _ _)) (comp_at (by kernel_rfl)) (fun _ _ => rfl)))
  sS_nil)
theorem fn_b_all_sets {S : St} {P : Params} (E : EnvL S (KK P)) (CL : Cls S (KK P)) (hB : S.book = 261) (h_b_rows : SoundF S true 2 (.ref 159) F_b_rows) : SoundF S true 4 (.ref 164) (mkFn is_b_all_sets T_b_all_sets) :=
  sF_defK E.KS (isDef_of E.X (cd := 163) (ps := [(Str.ofString "self")]) rfl ⟨_, rfl⟩ rfl rfl rfl rfl ⟨_, _, _, rfl, rfl, rfl⟩ (bind1 fun _ => rfl)) (by kernel_rfl) (snd_b_all_sets E CL hB h_b_rows)
noncomputable def rho_b_least_rows : Rho := [((Str.ofString "self"), 0)]
theorem snd_b_least_rows {S : St} {P : Params} (E : EnvL S (KK P)) (CL : Cls S (KK P)) (hB : S.book = 261) (h_least_of : SoundF S true 4 (.ref 114) F_least_of) (h_b_all_sets : SoundF S true 4 (.ref 164) F_b_all_sets) : SoundS S true 5 (scAt (KK P) 220) rho_b_least_rows (bodyAt (KK P) 220) T_b_least_rows :=
  have rho0 : RhoOK rho_b_least_rows := rho_ok (by kernel_rfl)
  (sS_cons (sT_ret (sE_callD E.KS (h_least_of.deeper (by omega)) (sEs_cons (sE_mcall E CL (h_b_all_sets.deeper (by omega)) (sE_loc _ (by kernel_rfl) (by kernel_rfl) (by kernel_rfl)) sEs_nil (fun _ => rfl) (by kernel_rfl) (by kernel_rfl) (by decide) (by rw [hB]; kernel_rfl) (by kernel_rfl) (by kernel_rfl)) sEs_nil (fun _ => rfl)) (by kernel_rfl) (E.g (by kernel_rfl)) (isFn_of E.X (by kernel_rfl)) (by kernel_rfl) (by kernel_rfl)))
  sS_nil)
theorem fn_b_least_rows {S : St} {P : Params} (E : EnvL S (KK P)) (CL : Cls S (KK P)) (hB : S.book = 261) (h_least_of : SoundF S true 4 (.ref 114) F_least_of) (h_b_all_sets : SoundF S true 4 (.ref 164) F_b_all_sets) : SoundF S true 6 (.ref 220) (mkFn is_b_least_rows T_b_least_rows) :=
  sF_defK E.KS (isDef_of E.X (cd := 219) (ps := [(Str.ofString "self")]) rfl ⟨_, rfl⟩ rfl rfl rfl rfl ⟨_, _, _, rfl, rfl, rfl⟩ (bind1 fun _ => rfl)) (by kernel_rfl) (snd_b_least_rows E CL hB h_least_of h_b_all_sets)
noncomputable def rho_is_name : Rho := [((Str.ofString "thing"), 0)]
theorem snd_is_name {S : St} {P : Params} (E : EnvL S (KK P)) (CL : Cls S (KK P)) (hB : S.book = 261)  : SoundS S true 1 (scAt (KK P) 87) rho_is_name (bodyAt (KK P) 87) T_is_name :=
  have rho0 : RhoOK rho_is_name := rho_ok (by kernel_rfl)
  (sS_cons (sT_if (sB_boolOp (sL_or (sB_not (sB_truth (sE_isi E.KS isi_ok_str (sE_loc _ (by kernel_rfl) (by kernel_rfl) (by kernel_rfl)) (by kernel_rfl) (E.g (by kernel_rfl)) (E.b (by kernel_rfl) (by kernel_rfl)) (by kernel_rfl) (E.g (by kernel_rfl)) (E.b (by kernel_rfl) (by kernel_rfl)) (by kernel_rfl) (by kernel_rfl) (by kernel_rfl)) (fun _ _ => rfl))) (sL_or (sB_not (sB_chain cmp_le cmp_le (sE_int _ _ _) (sE_bcall E.KS (bLen_ok E.KS) (sEs_cons (sE_loc _ (by kernel_rfl) (by kernel_rfl) (by kernel_rfl)) sEs_nil (fun _ => rfl)) (by kernel_rfl) (E.g (by kernel_rfl)) (E.b (by kernel_rfl) (by kernel_rfl)) (by kernel_rfl) (by kernel_rfl)) (sE_constK E (by kernel_rfl) (by kernel_rfl) (by kernel_rfl)) rfl)) sL_orNil))) (sS_cons (sT_ret (sE_bool _ _ _))
  sS_nil) sS_nil)
  (sS_cons (sT_ret (sE_bcall E.KS (bAll_ok) (sEs_cons (sE_comp (sE_loc _ (by kernel_rfl) (by kernel_rfl) (by kernel_rfl)) sFs_nil (sE_cmp cmp_in (sE_loc _ (by kernel_rfl) (by kernel_rfl) (by kernel_rfl)) (sE_constK E (by kernel_rfl) (by kernel_rfl) (by kernel_rfl)) rfl) (comp_at (by kernel_rfl)) (fun _ _ => rfl)) sEs_nil (fun _ => rfl)) (by kernel_rfl) (E.g (by kernel_rfl)) (E.b (by kernel_rfl) (by kernel_rfl)) (by kernel_rfl) (by kernel_rfl)))
  sS_nil))
theorem fn_is_name {S : St} {P : Params} (E : EnvL S (KK P)) (CL : Cls S (KK P)) (hB : S.book = 261)  : SoundF S true 2 (.ref 87) (mkFn is_is_name T_is_name) :=
  sF_defK E.KS (isDef_of E.X (cd := 86) (ps := [(Str.ofString "thing")]) rfl ⟨_, rfl⟩ rfl rfl rfl rfl ⟨_, _, _, rfl, rfl, rfl⟩ (bind1 fun _ => rfl)) (by kernel_rfl) (snd_is_name E CL hB )
noncomputable def rho_rising : Rho := [((Str.ofString "names"), 0), ((Str.ofString "name"), 1)]
theorem snd_rising {S : St} {P : Params} (E : EnvL S (KK P)) (CL : Cls S (KK P)) (hB : S.book = 261) (h_is_name : SoundF S true 2 (.ref 87) F_is_name) : SoundS S true 3 (scAt (KK P) 94) rho_rising (bodyAt (KK P) 94) T_rising :=
  have rho0 : RhoOK rho_rising := rho_ok (by kernel_rfl)
  (sS_cons (sT_for (sE_loc _ (by kernel_rfl) (by kernel_rfl) (by kernel_rfl)) (sS_cons (sT_if (sB_not (sB_truth (sE_callD E.KS (h_is_name.deeper (by omega)) (sEs_cons (sE_loc _ (by kernel_rfl) (by kernel_rfl) (by kernel_rfl)) sEs_nil (fun _ => rfl)) (by kernel_rfl) (E.g (by kernel_rfl)) (isFn_of E.X (by kernel_rfl)) (by kernel_rfl) (by kernel_rfl)) (fun _ _ => rfl))) (sS_cons sT_never
  sS_nil) sS_nil)
  sS_nil) rho0 (by kernel_rfl) (or_kd (by kernel_rfl)) (fun _ _ => rfl))
  (sS_cons (sT_ret (sE_bcall E.KS (bSorted_ok E.KS) (sEs_cons (sE_tcall E.KS (bSet_ok) (sEs_cons (sE_loc _ (by kernel_rfl) (by kernel_rfl) (by kernel_rfl)) sEs_nil (fun _ => rfl)) (by kernel_rfl) (E.g (by kernel_rfl)) (E.b (by kernel_rfl) (by kernel_rfl)) (by kernel_rfl) (by kernel_rfl)) sEs_nil (fun _ => rfl)) (by kernel_rfl) (E.g (by kernel_rfl)) (E.b (by kernel_rfl) (by kernel_rfl)) (by kernel_rfl) (by kernel_rfl)))
  sS_nil))
theorem fn_rising {S : St} {P : Params} (E : EnvL S (KK P)) (CL : Cls S (KK P)) (hB : S.book = 261) (h_is_name : SoundF S true 2 (.ref 87) F_is_name) : SoundF S true 4 (.ref 94) (mkFn is_rising T_rising) :=
  sF_defK E.KS (isDef_of E.X (cd := 93) (ps := [(Str.ofString "names")]) rfl ⟨_, rfl⟩ rfl rfl rfl rfl ⟨_, _, _, rfl, rfl, rfl⟩ (bind1 fun _ => rfl)) (by kernel_rfl) (snd_rising E CL hB h_is_name)
noncomputable def rho_b_needed : Rho := [((Str.ofString "self"), 0), ((Str.ofString "rows"), 1)]
theorem snd_b_needed {S : St} {P : Params} (E : EnvL S (KK P)) (CL : Cls S (KK P)) (hB : S.book = 261) (h_b_least_rows : SoundF S true 6 (.ref 220) F_b_least_rows) (h_rising : SoundF S true 4 (.ref 94) F_rising) : SoundS S true 7 (scAt (KK P) 225) rho_b_needed (bodyAt (KK P) 225) T_b_needed :=
  have rho0 : RhoOK rho_b_needed := rho_ok (by kernel_rfl)
  (sS_cons (sT_assign (sE_mcall E CL (h_b_least_rows.deeper (by omega)) (sE_loc _ (by kernel_rfl) (by kernel_rfl) (by kernel_rfl)) sEs_nil (fun _ => rfl) (by kernel_rfl) (by kernel_rfl) (by decide) (by rw [hB]; kernel_rfl) (by kernel_rfl) (by kernel_rfl)) rho0 (by kernel_rfl) (or_kd (by kernel_rfl)) (fun _ => rfl))
  (sS_cons (sT_if (sB_cmp cmp_in (sE_list sEs_nil) (sE_loc _ (by kernel_rfl) (by kernel_rfl) (by kernel_rfl)) rfl) (sS_cons (sT_ret (sE_list sEs_nil))
  sS_nil) sS_nil)
  (sS_cons (sT_ret (sE_callD E.KS (h_rising.deeper (by omega)) (sEs_cons (sE_comp (sE_loc _ (by kernel_rfl) (by kernel_rfl) (by kernel_rfl)) (sFs_one (sB_cmp cmp_eq (sE_bcall E.KS (bLen_ok E.KS) (sEs_cons (sE_loc _ (by kernel_rfl) (by kernel_rfl) (by kernel_rfl)) sEs_nil (fun _ => rfl)) (by kernel_rfl) (E.g (by kernel_rfl)) (E.b (by kernel_rfl) (by kernel_rfl)) (by kernel_rfl) (by kernel_rfl)) (sE_int _ _ _) rfl)) (sE_item (sE_loc _ (by kernel_rfl) (by kernel_rfl) (by kernel_rfl)) (sE_int _ _ _)) (comp_at (by kernel_rfl)) (fun _ _ => rfl)) sEs_nil (fun _ => rfl)) (by kernel_rfl) (E.g (by kernel_rfl)) (isFn_of E.X (by kernel_rfl)) (by kernel_rfl) (by kernel_rfl)))
  sS_nil)))
theorem fn_b_needed {S : St} {P : Params} (E : EnvL S (KK P)) (CL : Cls S (KK P)) (hB : S.book = 261) (h_b_least_rows : SoundF S true 6 (.ref 220) F_b_least_rows) (h_rising : SoundF S true 4 (.ref 94) F_rising) : SoundF S true 8 (.ref 225) (mkFn is_b_needed T_b_needed) :=
  sF_defK E.KS (isDef_of E.X (cd := 224) (ps := [(Str.ofString "self")]) rfl ⟨_, rfl⟩ rfl rfl rfl rfl ⟨_, _, _, rfl, rfl, rfl⟩ (bind1 fun _ => rfl)) (by kernel_rfl) (snd_b_needed E CL hB h_b_least_rows h_rising)
noncomputable def rho_b_names : Rho := [((Str.ofString "self"), 0), ((Str.ofString "found"), 1), ((Str.ofString "row"), 2)]
theorem snd_b_names {S : St} {P : Params} (E : EnvL S (KK P)) (CL : Cls S (KK P)) (hB : S.book = 261) (h_b_all_sets : SoundF S true 4 (.ref 164) F_b_all_sets) (h_rising : SoundF S true 4 (.ref 94) F_rising) : SoundS S true 5 (scAt (KK P) 171) rho_b_names (bodyAt (KK P) 171) T_b_names :=
  have rho0 : RhoOK rho_b_names := rho_ok (by kernel_rfl)
  (sS_cons (sT_assign (sE_list sEs_nil) rho0 (by kernel_rfl) (or_kd (by kernel_rfl)) (fun _ => rfl))
  (sS_cons (sT_for (sE_mcall E CL (h_b_all_sets.deeper (by omega)) (sE_loc _ (by kernel_rfl) (by kernel_rfl) (by kernel_rfl)) sEs_nil (fun _ => rfl) (by kernel_rfl) (by kernel_rfl) (by decide) (by rw [hB]; kernel_rfl) (by kernel_rfl) (by kernel_rfl)) (sS_cons (sT_expr (sE_meth meth_extend bExtend_ok (sE_loc _ (by kernel_rfl) (by kernel_rfl) (by kernel_rfl)) (sEs_cons (sE_loc _ (by kernel_rfl) (by kernel_rfl) (by kernel_rfl)) sEs_nil (fun _ => rfl)) (fun _ => rfl) (by kernel_rfl) (by kernel_rfl) (by decide)) (fun _ => rfl))
  sS_nil) rho0 (by kernel_rfl) (or_kd (by kernel_rfl)) (fun _ _ => rfl))
  (sS_cons (sT_ret (sE_callD E.KS (h_rising.deeper (by omega)) (sEs_cons (sE_loc _ (by kernel_rfl) (by kernel_rfl) (by kernel_rfl)) sEs_nil (fun _ => rfl)) (by kernel_rfl) (E.g (by kernel_rfl)) (isFn_of E.X (by kernel_rfl)) (by kernel_rfl) (by kernel_rfl)))
  sS_nil)))
theorem fn_b_names {S : St} {P : Params} (E : EnvL S (KK P)) (CL : Cls S (KK P)) (hB : S.book = 261) (h_b_all_sets : SoundF S true 4 (.ref 164) F_b_all_sets) (h_rising : SoundF S true 4 (.ref 94) F_rising) : SoundF S true 6 (.ref 171) (mkFn is_b_names T_b_names) :=
  sF_defK E.KS (isDef_of E.X (cd := 170) (ps := [(Str.ofString "self")]) rfl ⟨_, rfl⟩ rfl rfl rfl rfl ⟨_, _, _, rfl, rfl, rfl⟩ (bind1 fun _ => rfl)) (by kernel_rfl) (snd_b_names E CL hB h_b_all_sets h_rising)
noncomputable def rho_b_idle : Rho := [((Str.ofString "self"), 0), ((Str.ofString "rows"), 1)]
theorem snd_b_idle {S : St} {P : Params} (E : EnvL S (KK P)) (CL : Cls S (KK P)) (hB : S.book = 261) (h_b_least_rows : SoundF S true 6 (.ref 220) F_b_least_rows) (h_b_names : SoundF S true 6 (.ref 171) F_b_names) : SoundS S true 7 (scAt (KK P) 230) rho_b_idle (bodyAt (KK P) 230) T_b_idle :=
  have rho0 : RhoOK rho_b_idle := rho_ok (by kernel_rfl)
  (sS_cons (sT_assign (sE_mcall E CL (h_b_least_rows.deeper (by omega)) (sE_loc _ (by kernel_rfl) (by kernel_rfl) (by kernel_rfl)) sEs_nil (fun _ => rfl) (by kernel_rfl) (by kernel_rfl) (by decide) (by rw [hB]; kernel_rfl) (by kernel_rfl) (by kernel_rfl)) rho0 (by kernel_rfl) (or_kd (by kernel_rfl)) (fun _ => rfl))
  (sS_cons (sT_ret (sE_comp (sE_mcall E CL (h_b_names.deeper (by omega)) (sE_loc _ (by kernel_rfl) (by kernel_rfl) (by kernel_rfl)) sEs_nil (fun _ => rfl) (by kernel_rfl) (by kernel_rfl) (by decide) (by rw [hB]; kernel_rfl) (by kernel_rfl) (by kernel_rfl)) (sFs_one (sB_not (sB_truth (sE_bcall E.KS (bAny_ok) (sEs_cons (sE_comp (sE_loc _ (by kernel_rfl) (by kernel_rfl) (by kernel_rfl)) sFs_nil (sE_cmp cmp_in (sE_loc _ (by kernel_rfl) (by kernel_rfl) (by kernel_rfl)) (sE_loc _ (by kernel_rfl) (by kernel_rfl) (by kernel_rfl)) rfl) (comp_at (by kernel_rfl)) (fun _ _ => rfl)) sEs_nil (fun _ => rfl)) (by kernel_rfl) (E.g (by kernel_rfl)) (E.b (by kernel_rfl) (by kernel_rfl)) (by kernel_rfl) (by kernel_rfl)) (fun _ _ => rfl)))) (sE_loc _ (by kernel_rfl) (by kernel_rfl) (by kernel_rfl)) (comp_at (by kernel_rfl)) (fun _ _ => rfl)))
  sS_nil))
theorem fn_b_idle {S : St} {P : Params} (E : EnvL S (KK P)) (CL : Cls S (KK P)) (hB : S.book = 261) (h_b_least_rows : SoundF S true 6 (.ref 220) F_b_least_rows) (h_b_names : SoundF S true 6 (.ref 171) F_b_names) : SoundF S true 8 (.ref 230) (mkFn is_b_idle T_b_idle) :=
  sF_defK E.KS (isDef_of E.X (cd := 229) (ps := [(Str.ofString "self")]) rfl ⟨_, rfl⟩ rfl rfl rfl rfl ⟨_, _, _, rfl, rfl, rfl⟩ (bind1 fun _ => rfl)) (by kernel_rfl) (snd_b_idle E CL hB h_b_least_rows h_b_names)
noncomputable def rho_meets : Rho := [((Str.ofString "one"), 0), ((Str.ofString "other"), 1)]
theorem snd_meets {S : St} {P : Params} (E : EnvL S (KK P)) (CL : Cls S (KK P)) (hB : S.book = 261)  : SoundS S true 1 (scAt (KK P) 104) rho_meets (bodyAt (KK P) 104) T_meets :=
  have rho0 : RhoOK rho_meets := rho_ok (by kernel_rfl)
  (sS_cons (sT_ret (sE_bcall E.KS (bAny_ok) (sEs_cons (sE_comp (sE_loc _ (by kernel_rfl) (by kernel_rfl) (by kernel_rfl)) sFs_nil (sE_cmp cmp_in (sE_loc _ (by kernel_rfl) (by kernel_rfl) (by kernel_rfl)) (sE_loc _ (by kernel_rfl) (by kernel_rfl) (by kernel_rfl)) rfl) (comp_at (by kernel_rfl)) (fun _ _ => rfl)) sEs_nil (fun _ => rfl)) (by kernel_rfl) (E.g (by kernel_rfl)) (E.b (by kernel_rfl) (by kernel_rfl)) (by kernel_rfl) (by kernel_rfl)))
  sS_nil)
theorem fn_meets {S : St} {P : Params} (E : EnvL S (KK P)) (CL : Cls S (KK P)) (hB : S.book = 261)  : SoundF S true 2 (.ref 104) (mkFn is_meets T_meets) :=
  sF_defK E.KS (isDef_of E.X (cd := 103) (ps := [(Str.ofString "one"), (Str.ofString "other")]) rfl ⟨_, rfl⟩ rfl rfl rfl rfl ⟨_, _, _, rfl, rfl, rfl⟩ (bind2 fun _ _ => rfl)) (by kernel_rfl) (snd_meets E CL hB )
noncomputable def rho_grown : Rho := [((Str.ofString "sets"), 0), ((Str.ofString "row"), 1), ((Str.ofString "found"), 2), ((Str.ofString "one"), 3)]
theorem snd_grown {S : St} {P : Params} (E : EnvL S (KK P)) (CL : Cls S (KK P)) (hB : S.book = 261) (h_meets : SoundF S true 2 (.ref 104) F_meets) (h_least_of : SoundF S true 4 (.ref 114) F_least_of) : SoundS S true 5 (scAt (KK P) 119) rho_grown (bodyAt (KK P) 119) T_grown :=
  have rho0 : RhoOK rho_grown := rho_ok (by kernel_rfl)
  (sS_cons (sT_assign (sE_list sEs_nil) rho0 (by kernel_rfl) (or_kd (by kernel_rfl)) (fun _ => rfl))
  (sS_cons (sT_for (sE_loc _ (by kernel_rfl) (by kernel_rfl) (by kernel_rfl)) (sS_cons (sT_if (sB_truth (sE_callD E.KS (h_meets.deeper (by omega)) (sEs_cons (sE_loc _ (by kernel_rfl) (by kernel_rfl) (by kernel_rfl)) (sEs_cons (sE_loc _ (by kernel_rfl) (by kernel_rfl) (by kernel_rfl)) sEs_nil (fun _ => rfl)) (fun _ => rfl)) (by kernel_rfl) (E.g (by kernel_rfl)) (isFn_of E.X (by kernel_rfl)) (by kernel_rfl) (by kernel_rfl)) (fun _ _ => rfl)) (sS_cons (sT_expr (sE_meth meth_append bAppend_ok (sE_loc _ (by kernel_rfl) (by kernel_rfl) (by kernel_rfl)) (sEs_cons (sE_tcall E.KS (bList_ok) (sEs_cons (sE_loc _ (by kernel_rfl) (by kernel_rfl) (by kernel_rfl)) sEs_nil (fun _ => rfl)) (by kernel_rfl) (E.g (by kernel_rfl)) (E.b (by kernel_rfl) (by kernel_rfl)) (by kernel_rfl) (by kernel_rfl)) sEs_nil (fun _ => rfl)) (fun _ => rfl) (by kernel_rfl) (by kernel_rfl) (by decide)) (fun _ => rfl))
  sS_nil) (sS_cons (sT_expr (sE_meth meth_extend bExtend_ok (sE_loc _ (by kernel_rfl) (by kernel_rfl) (by kernel_rfl)) (sEs_cons (sE_comp (sE_loc _ (by kernel_rfl) (by kernel_rfl) (by kernel_rfl)) sFs_nil (sE_bin bin_add (sE_loc _ (by kernel_rfl) (by kernel_rfl) (by kernel_rfl)) (sE_list (sEs_cons (sE_loc _ (by kernel_rfl) (by kernel_rfl) (by kernel_rfl)) sEs_nil (fun _ => rfl)))) (comp_at (by kernel_rfl)) (fun _ _ => rfl)) sEs_nil (fun _ => rfl)) (fun _ => rfl) (by kernel_rfl) (by kernel_rfl) (by decide)) (fun _ => rfl))
  sS_nil))
  sS_nil) rho0 (by kernel_rfl) (or_kd (by kernel_rfl)) (fun _ _ => rfl))
  (sS_cons (sT_ret (sE_callD E.KS (h_least_of.deeper (by omega)) (sEs_cons (sE_loc _ (by kernel_rfl) (by kernel_rfl) (by kernel_rfl)) sEs_nil (fun _ => rfl)) (by kernel_rfl) (E.g (by kernel_rfl)) (isFn_of E.X (by kernel_rfl)) (by kernel_rfl) (by kernel_rfl)))
  sS_nil)))
theorem fn_grown {S : St} {P : Params} (E : EnvL S (KK P)) (CL : Cls S (KK P)) (hB : S.book = 261) (h_meets : SoundF S true 2 (.ref 104) F_meets) (h_least_of : SoundF S true 4 (.ref 114) F_least_of) : SoundF S true 6 (.ref 119) (mkFn is_grown T_grown) :=
  sF_defK E.KS (isDef_of E.X (cd := 118) (ps := [(Str.ofString "sets"), (Str.ofString "row")]) rfl ⟨_, rfl⟩ rfl rfl rfl rfl ⟨_, _, _, rfl, rfl, rfl⟩ (bind2 fun _ _ => rfl)) (by kernel_rfl) (snd_grown E CL hB h_meets h_least_of)
noncomputable def rho_b_least : Rho := [((Str.ofString "self"), 0), ((Str.ofString "found"), 1), ((Str.ofString "row"), 2)]
theorem snd_b_least {S : St} {P : Params} (E : EnvL S (KK P)) (CL : Cls S (KK P)) (hB : S.book = 261) (h_b_least_rows : SoundF S true 6 (.ref 220) F_b_least_rows) (h_grown : SoundF S true 6 (.ref 119) F_grown) : SoundS S true 7 (scAt (KK P) 178) rho_b_least (bodyAt (KK P) 178) T_b_least :=
  have rho0 : RhoOK rho_b_least := rho_ok (by kernel_rfl)
  (sS_cons (sT_assign (sE_list (sEs_cons (sE_list sEs_nil) sEs_nil (fun _ => rfl))) rho0 (by kernel_rfl) (or_kd (by kernel_rfl)) (fun _ => rfl))
  (sS_cons (sT_for (sE_mcall E CL (h_b_least_rows.deeper (by omega)) (sE_loc _ (by kernel_rfl) (by kernel_rfl) (by kernel_rfl)) sEs_nil (fun _ => rfl) (by kernel_rfl) (by kernel_rfl) (by decide) (by rw [hB]; kernel_rfl) (by kernel_rfl) (by kernel_rfl)) (sS_cons (sT_assign (sE_callD E.KS (h_grown.deeper (by omega)) (sEs_cons (sE_loc _ (by kernel_rfl) (by kernel_rfl) (by kernel_rfl)) (sEs_cons (sE_loc _ (by kernel_rfl) (by kernel_rfl) (by kernel_rfl)) sEs_nil (fun _ => rfl)) (fun _ => rfl)) (by kernel_rfl) (E.g (by kernel_rfl)) (isFn_of E.X (by kernel_rfl)) (by kernel_rfl) (by kernel_rfl)) rho0 (by kernel_rfl) (or_kd (by kernel_rfl)) (fun _ => rfl))
  sS_nil) rho0 (by kernel_rfl) (or_kd (by kernel_rfl)) (fun _ _ => rfl))
  (sS_cons (sT_ret (sE_loc _ (by kernel_rfl) (by kernel_rfl) (by kernel_rfl)))
  sS_nil)))
theorem fn_b_least {S : St} {P : Params} (E : EnvL S (KK P)) (CL : Cls S (KK P)) (hB : S.book = 261) (h_b_least_rows : SoundF S true 6 (.ref 220) F_b_least_rows) (h_grown : SoundF S true 6 (.ref 119) F_grown) : SoundF S true 8 (.ref 178) (mkFn is_b_least T_b_least) :=
  sF_defK E.KS (isDef_of E.X (cd := 177) (ps := [(Str.ofString "self")]) rfl ⟨_, rfl⟩ rfl rfl rfl rfl ⟨_, _, _, rfl, rfl, rfl⟩ (bind1 fun _ => rfl)) (by kernel_rfl) (snd_b_least E CL hB h_b_least_rows h_grown)
noncomputable def rho_b_fewest : Rho := [((Str.ofString "self"), 0), ((Str.ofString "found"), 1)]
theorem snd_b_fewest {S : St} {P : Params} (E : EnvL S (KK P)) (CL : Cls S (KK P)) (hB : S.book = 261) (h_b_least : SoundF S true 8 (.ref 178) F_b_least) : SoundS S true 9 (scAt (KK P) 185) rho_b_fewest (bodyAt (KK P) 185) T_b_fewest :=
  have rho0 : RhoOK rho_b_fewest := rho_ok (by kernel_rfl)
  (sS_cons (sT_assign (sE_mcall E CL (h_b_least.deeper (by omega)) (sE_loc _ (by kernel_rfl) (by kernel_rfl) (by kernel_rfl)) sEs_nil (fun _ => rfl) (by kernel_rfl) (by kernel_rfl) (by decide) (by rw [hB]; kernel_rfl) (by kernel_rfl) (by kernel_rfl)) rho0 (by kernel_rfl) (or_kd (by kernel_rfl)) (fun _ => rfl))
  (sS_cons (sT_if (sB_cmp cmp_eq (sE_loc _ (by kernel_rfl) (by kernel_rfl) (by kernel_rfl)) (sE_list sEs_nil) rfl) (sS_cons (sT_ret (sE_none _ _))
  sS_nil) sS_nil)
  (sS_cons (sT_ret (sE_bcall E.KS (bLen_ok E.KS) (sEs_cons (sE_item (sE_loc _ (by kernel_rfl) (by kernel_rfl) (by kernel_rfl)) (sE_int _ _ _)) sEs_nil (fun _ => rfl)) (by kernel_rfl) (E.g (by kernel_rfl)) (E.b (by kernel_rfl) (by kernel_rfl)) (by kernel_rfl) (by kernel_rfl)))
  sS_nil)))
theorem fn_b_fewest {S : St} {P : Params} (E : EnvL S (KK P)) (CL : Cls S (KK P)) (hB : S.book = 261) (h_b_least : SoundF S true 8 (.ref 178) F_b_least) : SoundF S true 10 (.ref 185) (mkFn is_b_fewest T_b_fewest) :=
  sF_defK E.KS (isDef_of E.X (cd := 184) (ps := [(Str.ofString "self")]) rfl ⟨_, rfl⟩ rfl rfl rfl rfl ⟨_, _, _, rfl, rfl, rfl⟩ (bind1 fun _ => rfl)) (by kernel_rfl) (snd_b_fewest E CL hB h_b_least)
theorem sE_i3 {S : St} {b : Bool} {d : Nat} {sc : Kd} {ρ : Rho} {i j k : Int} {n1 n2 n3 : Nat} {p1 p2 p3 p : Pos} : SoundE S b d sc ρ (.List [.Constant (.int i) n1 p1, .Constant (.int j) n2 p2, .Constant (.int k) n3 p3] p) (tList (tCons (tVal (.int i)) (tCons (tVal (.int j)) (tCons (tVal (.int k)) tNil)))) :=
  sE_list (sEs_cons (sE_int _ _ _) (sEs_cons (sE_int _ _ _) (sEs_cons (sE_int _ _ _) sEs_nil (fun _ => rfl)) (fun _ => rfl)) (fun _ => rfl))
theorem sE_l4 {S : St} {b : Bool} {d : Nat} {sc : Kd} {ρ : Rho} {l1 l2 l3 l4 : List Expr} {p1 p2 p3 p4 p : Pos} {t1 t2 t3 t4 : Tm} (h1 : SoundE S b d sc ρ (.List l1 p1) t1) (h2 : SoundE S b d sc ρ (.List l2 p2) t2) (h3 : SoundE S b d sc ρ (.List l3 p3) t3) (h4 : SoundE S b d sc ρ (.List l4 p4) t4) :
    SoundE S b d sc ρ (.List [.List l1 p1, .List l2 p2, .List l3 p3, .List l4 p4] p) (tList (tCons t1 (tCons t2 (tCons t3 (tCons t4 tNil))))) :=
  sE_list (sEs_cons h1 (sEs_cons h2 (sEs_cons h3 (sEs_cons h4 sEs_nil (fun _ => rfl)) (fun _ => rfl)) (fun _ => rfl)) (fun _ => rfl))
noncomputable def rho_l_three : Rho := [((Str.ofString "_law_book"), 0), ((Str.ofString "_law_turn"), 1), ((Str.ofString "_law_found"), 2), ((Str.ofString "_law_way"), 3)]
theorem snd_l_three {S : St} {P : Params} (E : EnvL S (KK P)) (CL : Cls S (KK P)) (hB : S.book = 261) (h_b_needed : SoundF S true 8 (.ref 225) F_b_needed) (h_b_idle : SoundF S true 8 (.ref 230) F_b_idle) (h_b_fewest : SoundF S true 10 (.ref 185) F_b_fewest) : SoundS S true 11 (scAt (KK P) 346) rho_l_three (bodyAt (KK P) 346) T_l_three :=
  have rho0 : RhoOK rho_l_three := rho_ok (by kernel_rfl)
  (sS_cons (sT_assign (sE_list (sEs_cons (sE_none _ _) (sEs_cons (sE_none _ _) (sEs_cons (sE_none _ _) sEs_nil (fun _ => rfl)) (fun _ => rfl)) (fun _ => rfl))) rho0 (by kernel_rfl) (or_kd (by kernel_rfl)) (fun _ => rfl))
  (sS_cons (sT_for (sE_item (sE_l4 sE_i3 sE_i3 sE_i3 sE_i3) (sE_bin bin_mod (sE_loc _ (by kernel_rfl) (by kernel_rfl) (by kernel_rfl)) (sE_int _ _ _))) (sS_cons (sT_subSetL (sE_loc _ (by kernel_rfl) (by kernel_rfl) (by kernel_rfl)) (sE_loc _ (by kernel_rfl) (by kernel_rfl) (by kernel_rfl)) (sE_if (sB_cmp cmp_eq (sE_loc _ (by kernel_rfl) (by kernel_rfl) (by kernel_rfl)) (sE_int _ _ _) rfl) (sE_mcall E CL (h_b_needed.deeper (by omega)) (sE_loc _ (by kernel_rfl) (by kernel_rfl) (by kernel_rfl)) sEs_nil (fun _ => rfl) (by kernel_rfl) (by kernel_rfl) (by decide) (by rw [hB]; kernel_rfl) (by kernel_rfl) (by kernel_rfl)) (sE_if (sB_cmp cmp_eq (sE_loc _ (by kernel_rfl) (by kernel_rfl) (by kernel_rfl)) (sE_int _ _ _) rfl) (sE_mcall E CL (h_b_idle.deeper (by omega)) (sE_loc _ (by kernel_rfl) (by kernel_rfl) (by kernel_rfl)) sEs_nil (fun _ => rfl) (by kernel_rfl) (by kernel_rfl) (by decide) (by rw [hB]; kernel_rfl) (by kernel_rfl) (by kernel_rfl)) (sE_mcall E CL (h_b_fewest.deeper (by omega)) (sE_loc _ (by kernel_rfl) (by kernel_rfl) (by kernel_rfl)) sEs_nil (fun _ => rfl) (by kernel_rfl) (by kernel_rfl) (by decide) (by rw [hB]; kernel_rfl) (by kernel_rfl) (by kernel_rfl)))) (fun _ => rfl))
  sS_nil) rho0 (by kernel_rfl) (or_kd (by kernel_rfl)) (fun _ _ => rfl))
  (sS_cons (sT_ret (sE_loc _ (by kernel_rfl) (by kernel_rfl) (by kernel_rfl)))
  sS_nil)))
theorem fn_l_three {S : St} {P : Params} (E : EnvL S (KK P)) (CL : Cls S (KK P)) (hB : S.book = 261) (h_b_needed : SoundF S true 8 (.ref 225) F_b_needed) (h_b_idle : SoundF S true 8 (.ref 230) F_b_idle) (h_b_fewest : SoundF S true 10 (.ref 185) F_b_fewest) : SoundF S true 12 (.ref 346) (mkFn is_l_three T_l_three) :=
  sF_defK E.KS (isDef_of E.X (cd := 345) (ps := [(Str.ofString "_law_book"), (Str.ofString "_law_turn")]) rfl ⟨_, rfl⟩ rfl rfl rfl rfl ⟨_, _, _, rfl, rfl, rfl⟩ (bind2 fun _ _ => rfl)) (by kernel_rfl) (snd_l_three E CL hB h_b_needed h_b_idle h_b_fewest)
noncomputable def rho_l_needed : Rho := [((Str.ofString "_law_rows"), 0), ((Str.ofString "_law_found"), 1), ((Str.ofString "_law_row_here"), 2)]
theorem snd_l_needed {S : St} {P : Params} (E : EnvL S (KK P)) (CL : Cls S (KK P)) (hB : S.book = 261)  : SoundS S true 1 (scAt (KK P) 332) rho_l_needed (bodyAt (KK P) 332) T_l_needed :=
  have rho0 : RhoOK rho_l_needed := rho_ok (by kernel_rfl)
  (sS_cons (sT_if (sB_cmp cmp_in (sE_list sEs_nil) (sE_loc _ (by kernel_rfl) (by kernel_rfl) (by kernel_rfl)) rfl) (sS_cons (sT_ret (sE_list sEs_nil))
  sS_nil) sS_nil)
  (sS_cons (sT_assign sE_dictS0 rho0 (by kernel_rfl) (or_kd (by kernel_rfl)) (fun _ => rfl))
  (sS_cons (sT_for (sE_loc _ (by kernel_rfl) (by kernel_rfl) (by kernel_rfl)) (sS_cons (sT_if (sB_cmp cmp_eq (sE_bcall E.KS (bLen_ok E.KS) (sEs_cons (sE_loc _ (by kernel_rfl) (by kernel_rfl) (by kernel_rfl)) sEs_nil (fun _ => rfl)) (by kernel_rfl) (E.g (by kernel_rfl)) (E.b (by kernel_rfl) (by kernel_rfl)) (by kernel_rfl) (by kernel_rfl)) (sE_int _ _ _) rfl) (sS_cons (sT_subSetS (sE_loc _ (by kernel_rfl) (by kernel_rfl) (by kernel_rfl)) (sE_item (sE_loc _ (by kernel_rfl) (by kernel_rfl) (by kernel_rfl)) (sE_int _ _ _)) (sE_bool _ _ _) (fun _ => rfl))
  sS_nil) sS_nil)
  sS_nil) rho0 (by kernel_rfl) (or_kd (by kernel_rfl)) (fun _ _ => rfl))
  (sS_cons (sT_ret (sE_bcall E.KS (bSorted_ok E.KS) (sEs_cons (sE_tcall E.KS (bListS_ok E.KS) (sEs_cons (sE_loc _ (by kernel_rfl) (by kernel_rfl) (by kernel_rfl)) sEs_nil (fun _ => rfl)) (by kernel_rfl) (E.g (by kernel_rfl)) (E.b (by kernel_rfl) (by kernel_rfl)) (by kernel_rfl) (by kernel_rfl)) sEs_nil (fun _ => rfl)) (by kernel_rfl) (E.g (by kernel_rfl)) (E.b (by kernel_rfl) (by kernel_rfl)) (by kernel_rfl) (by kernel_rfl)))
  sS_nil))))
theorem fn_l_needed {S : St} {P : Params} (E : EnvL S (KK P)) (CL : Cls S (KK P)) (hB : S.book = 261)  : SoundF S true 2 (.ref 332) (mkFn is_l_needed T_l_needed) :=
  sF_defK E.KS (isDef_of E.X (cd := 331) (ps := [(Str.ofString "_law_rows")]) rfl ⟨_, rfl⟩ rfl rfl rfl rfl ⟨_, _, _, rfl, rfl, rfl⟩ (bind1 fun _ => rfl)) (by kernel_rfl) (snd_l_needed E CL hB )
noncomputable def rho_l_within : Rho := [((Str.ofString "_law_one"), 0), ((Str.ofString "_law_other"), 1), ((Str.ofString "_law_name"), 2)]
theorem snd_l_within {S : St} {P : Params} (E : EnvL S (KK P)) (CL : Cls S (KK P)) (hB : S.book = 261)  : SoundS S true 1 (scAt (KK P) 305) rho_l_within (bodyAt (KK P) 305) T_l_within :=
  have rho0 : RhoOK rho_l_within := rho_ok (by kernel_rfl)
  (sS_cons (sT_for (sE_loc _ (by kernel_rfl) (by kernel_rfl) (by kernel_rfl)) (sS_cons (sT_if (sB_cmp cmp_notIn (sE_loc _ (by kernel_rfl) (by kernel_rfl) (by kernel_rfl)) (sE_loc _ (by kernel_rfl) (by kernel_rfl) (by kernel_rfl)) rfl) (sS_cons (sT_ret (sE_bool _ _ _))
  sS_nil) sS_nil)
  sS_nil) rho0 (by kernel_rfl) (or_kd (by kernel_rfl)) (fun _ _ => rfl))
  (sS_cons (sT_ret (sE_bool _ _ _))
  sS_nil))
theorem fn_l_within {S : St} {P : Params} (E : EnvL S (KK P)) (CL : Cls S (KK P)) (hB : S.book = 261)  : SoundF S true 2 (.ref 305) (mkFn is_l_within T_l_within) :=
  sF_defK E.KS (isDef_of E.X (cd := 304) (ps := [(Str.ofString "_law_one"), (Str.ofString "_law_other")]) rfl ⟨_, rfl⟩ rfl rfl rfl rfl ⟨_, _, _, rfl, rfl, rfl⟩ (bind2 fun _ _ => rfl)) (by kernel_rfl) (snd_l_within E CL hB )
noncomputable def rho_l_idle : Rho := [((Str.ofString "_law_rows"), 0), ((Str.ofString "_law_least_here"), 1), ((Str.ofString "_law_pair"), 2), ((Str.ofString "_law_found"), 3), ((Str.ofString "_law_row_here"), 4), ((Str.ofString "_law_name"), 5)]
theorem snd_l_idle {S : St} {P : Params} (E : EnvL S (KK P)) (CL : Cls S (KK P)) (hB : S.book = 261) (h_l_within : SoundF S true 2 (.ref 305) F_l_within) : SoundS S true 3 (scAt (KK P) 325) rho_l_idle (bodyAt (KK P) 325) T_l_idle :=
  have rho0 : RhoOK rho_l_idle := rho_ok (by kernel_rfl)
  (sS_cons (sT_assign (sE_list sEs_nil) rho0 (by kernel_rfl) (or_kd (by kernel_rfl)) (fun _ => rfl))
  (sS_cons (sT_for (sE_bcall E.KS (bSorted_ok E.KS) (sEs_cons (sE_comp (sE_loc _ (by kernel_rfl) (by kernel_rfl) (by kernel_rfl)) sFs_nil (sE_tuple (sEs_cons (sE_bcall E.KS (bLen_ok E.KS) (sEs_cons (sE_loc _ (by kernel_rfl) (by kernel_rfl) (by kernel_rfl)) sEs_nil (fun _ => rfl)) (by kernel_rfl) (E.g (by kernel_rfl)) (E.b (by kernel_rfl) (by kernel_rfl)) (by kernel_rfl) (by kernel_rfl)) (sEs_cons (sE_bcall E.KS (bSorted_ok E.KS) (sEs_cons (sE_loc _ (by kernel_rfl) (by kernel_rfl) (by kernel_rfl)) sEs_nil (fun _ => rfl)) (by kernel_rfl) (E.g (by kernel_rfl)) (E.b (by kernel_rfl) (by kernel_rfl)) (by kernel_rfl) (by kernel_rfl)) sEs_nil (fun _ => rfl)) (fun _ => rfl))) (comp_at (by kernel_rfl)) (fun _ _ => rfl)) sEs_nil (fun _ => rfl)) (by kernel_rfl) (E.g (by kernel_rfl)) (E.b (by kernel_rfl) (by kernel_rfl)) (by kernel_rfl) (by kernel_rfl)) (sS_cons (sT_if (sB_cmp cmp_eq (sE_comp (sE_loc _ (by kernel_rfl) (by kernel_rfl) (by kernel_rfl)) (sFs_one (sB_truth (sE_callD E.KS (h_l_within.deeper (by omega)) (sEs_cons (sE_loc _ (by kernel_rfl) (by kernel_rfl) (by kernel_rfl)) (sEs_cons (sE_item (sE_loc _ (by kernel_rfl) (by kernel_rfl) (by kernel_rfl)) (sE_int _ _ _)) sEs_nil (fun _ => rfl)) (fun _ => rfl)) (by kernel_rfl) (E.g (by kernel_rfl)) (isFn_of E.X (by kernel_rfl)) (by kernel_rfl) (by kernel_rfl)) (fun _ _ => rfl))) (sE_loc _ (by kernel_rfl) (by kernel_rfl) (by kernel_rfl)) (comp_at (by kernel_rfl)) (fun _ _ => rfl)) (sE_list sEs_nil) rfl) (sS_cons (sT_expr (sE_meth meth_append bAppend_ok (sE_loc _ (by kernel_rfl) (by kernel_rfl) (by kernel_rfl)) (sEs_cons (sE_item (sE_loc _ (by kernel_rfl) (by kernel_rfl) (by kernel_rfl)) (sE_int _ _ _)) sEs_nil (fun _ => rfl)) (fun _ => rfl) (by kernel_rfl) (by kernel_rfl) (by decide)) (fun _ => rfl))
  sS_nil) sS_nil)
  sS_nil) rho0 (by kernel_rfl) (or_kd (by kernel_rfl)) (fun _ _ => rfl))
  (sS_cons (sT_assign sE_dictS0 rho0 (by kernel_rfl) (or_kd (by kernel_rfl)) (fun _ => rfl))
  (sS_cons (sT_for (sE_loc _ (by kernel_rfl) (by kernel_rfl) (by kernel_rfl)) (sS_cons (sT_for (sE_loc _ (by kernel_rfl) (by kernel_rfl) (by kernel_rfl)) (sS_cons (sT_if (sB_boolOp (sL_or (sB_cmp cmp_in (sE_list sEs_nil) (sE_loc _ (by kernel_rfl) (by kernel_rfl) (by kernel_rfl)) rfl) (sL_or (sB_cmp cmp_eq (sE_comp (sE_loc _ (by kernel_rfl) (by kernel_rfl) (by kernel_rfl)) (sFs_one (sB_cmp cmp_in (sE_loc _ (by kernel_rfl) (by kernel_rfl) (by kernel_rfl)) (sE_loc _ (by kernel_rfl) (by kernel_rfl) (by kernel_rfl)) rfl)) (sE_loc _ (by kernel_rfl) (by kernel_rfl) (by kernel_rfl)) (comp_at (by kernel_rfl)) (fun _ _ => rfl)) (sE_list sEs_nil) rfl) sL_orNil))) (sS_cons (sT_subSetS (sE_loc _ (by kernel_rfl) (by kernel_rfl) (by kernel_rfl)) (sE_loc _ (by kernel_rfl) (by kernel_rfl) (by kernel_rfl)) (sE_bool _ _ _) (fun _ => rfl))
  sS_nil) sS_nil)
  sS_nil) rho0 (by kernel_rfl) (or_kd (by kernel_rfl)) (fun _ _ => rfl))
  sS_nil) rho0 (by kernel_rfl) (or_kd (by kernel_rfl)) (fun _ _ => rfl))
  (sS_cons (sT_ret (sE_bcall E.KS (bSorted_ok E.KS) (sEs_cons (sE_tcall E.KS (bListS_ok E.KS) (sEs_cons (sE_loc _ (by kernel_rfl) (by kernel_rfl) (by kernel_rfl)) sEs_nil (fun _ => rfl)) (by kernel_rfl) (E.g (by kernel_rfl)) (E.b (by kernel_rfl) (by kernel_rfl)) (by kernel_rfl) (by kernel_rfl)) sEs_nil (fun _ => rfl)) (by kernel_rfl) (E.g (by kernel_rfl)) (E.b (by kernel_rfl) (by kernel_rfl)) (by kernel_rfl) (by kernel_rfl)))
  sS_nil)))))
theorem fn_l_idle {S : St} {P : Params} (E : EnvL S (KK P)) (CL : Cls S (KK P)) (hB : S.book = 261) (h_l_within : SoundF S true 2 (.ref 305) F_l_within) : SoundF S true 4 (.ref 325) (mkFn is_l_idle T_l_idle) :=
  sF_defK E.KS (isDef_of E.X (cd := 324) (ps := [(Str.ofString "_law_rows")]) rfl ⟨_, rfl⟩ rfl rfl rfl rfl ⟨_, _, _, rfl, rfl, rfl⟩ (bind1 fun _ => rfl)) (by kernel_rfl) (snd_l_idle E CL hB h_l_within)
noncomputable def rho_l_ranked : Rho := [((Str.ofString "_law_sets"), 0)]
theorem snd_l_ranked {S : St} {P : Params} (E : EnvL S (KK P)) (CL : Cls S (KK P)) (hB : S.book = 261)  : SoundS S true 1 (scAt (KK P) 315) rho_l_ranked (bodyAt (KK P) 315) T_l_ranked :=
  have rho0 : RhoOK rho_l_ranked := rho_ok (by kernel_rfl)
  (sS_cons (sT_ret (sE_comp (sE_bcall E.KS (bSorted_ok E.KS) (sEs_cons (sE_comp (sE_loc _ (by kernel_rfl) (by kernel_rfl) (by kernel_rfl)) sFs_nil (sE_tuple (sEs_cons (sE_bcall E.KS (bLen_ok E.KS) (sEs_cons (sE_loc _ (by kernel_rfl) (by kernel_rfl) (by kernel_rfl)) sEs_nil (fun _ => rfl)) (by kernel_rfl) (E.g (by kernel_rfl)) (E.b (by kernel_rfl) (by kernel_rfl)) (by kernel_rfl) (by kernel_rfl)) (sEs_cons (sE_loc _ (by kernel_rfl) (by kernel_rfl) (by kernel_rfl)) sEs_nil (fun _ => rfl)) (fun _ => rfl))) (comp_at (by kernel_rfl)) (fun _ _ => rfl)) sEs_nil (fun _ => rfl)) (by kernel_rfl) (E.g (by kernel_rfl)) (E.b (by kernel_rfl) (by kernel_rfl)) (by kernel_rfl) (by kernel_rfl)) sFs_nil (sE_item (sE_loc _ (by kernel_rfl) (by kernel_rfl) (by kernel_rfl)) (sE_int _ _ _)) (comp_at (by kernel_rfl)) (fun _ _ => rfl)))
  sS_nil)
theorem fn_l_ranked {S : St} {P : Params} (E : EnvL S (KK P)) (CL : Cls S (KK P)) (hB : S.book = 261)  : SoundF S true 2 (.ref 315) (mkFn is_l_ranked T_l_ranked) :=
  sF_defK E.KS (isDef_of E.X (cd := 314) (ps := [(Str.ofString "_law_sets")]) rfl ⟨_, rfl⟩ rfl rfl rfl rfl ⟨_, _, _, rfl, rfl, rfl⟩ (bind1 fun _ => rfl)) (by kernel_rfl) (snd_l_ranked E CL hB )
noncomputable def rho_l_box : Rho := [((Str.ofString "_law_names_here"), 0), ((Str.ofString "_law_found"), 1), ((Str.ofString "_law_name"), 2)]
theorem snd_l_box {S : St} {P : Params} (E : EnvL S (KK P)) (CL : Cls S (KK P)) (hB : S.book = 261)  : SoundS S true 1 (scAt (KK P) 310) rho_l_box (bodyAt (KK P) 310) T_l_box :=
  have rho0 : RhoOK rho_l_box := rho_ok (by kernel_rfl)
  (sS_cons (sT_assign (sE_list (sEs_cons (sE_list sEs_nil) sEs_nil (fun _ => rfl))) rho0 (by kernel_rfl) (or_kd (by kernel_rfl)) (fun _ => rfl))
  (sS_cons (sT_for (sE_bcall E.KS (bSorted_ok E.KS) (sEs_cons (sE_loc _ (by kernel_rfl) (by kernel_rfl) (by kernel_rfl)) sEs_nil (fun _ => rfl)) (by kernel_rfl) (E.g (by kernel_rfl)) (E.b (by kernel_rfl) (by kernel_rfl)) (by kernel_rfl) (by kernel_rfl)) (sS_cons (sT_assign (sE_bin bin_add (sE_loc _ (by kernel_rfl) (by kernel_rfl) (by kernel_rfl)) (sE_comp (sE_loc _ (by kernel_rfl) (by kernel_rfl) (by kernel_rfl)) sFs_nil (sE_bin bin_add (sE_loc _ (by kernel_rfl) (by kernel_rfl) (by kernel_rfl)) (sE_list (sEs_cons (sE_loc _ (by kernel_rfl) (by kernel_rfl) (by kernel_rfl)) sEs_nil (fun _ => rfl)))) (comp_at (by kernel_rfl)) (fun _ _ => rfl))) rho0 (by kernel_rfl) (or_kd (by kernel_rfl)) (fun _ => rfl))
  sS_nil) rho0 (by kernel_rfl) (or_kd (by kernel_rfl)) (fun _ _ => rfl))
  (sS_cons (sT_ret (sE_loc _ (by kernel_rfl) (by kernel_rfl) (by kernel_rfl)))
  sS_nil)))
theorem fn_l_box {S : St} {P : Params} (E : EnvL S (KK P)) (CL : Cls S (KK P)) (hB : S.book = 261)  : SoundF S true 2 (.ref 310) (mkFn is_l_box T_l_box) :=
  sF_defK E.KS (isDef_of E.X (cd := 309) (ps := [(Str.ofString "_law_names_here")]) rfl ⟨_, rfl⟩ rfl rfl rfl rfl ⟨_, _, _, rfl, rfl, rfl⟩ (bind1 fun _ => rfl)) (by kernel_rfl) (snd_l_box E CL hB )
noncomputable def rho_l_meets : Rho := [((Str.ofString "_law_one"), 0), ((Str.ofString "_law_row_here"), 1), ((Str.ofString "_law_name"), 2)]
theorem snd_l_meets {S : St} {P : Params} (E : EnvL S (KK P)) (CL : Cls S (KK P)) (hB : S.book = 261)  : SoundS S true 1 (scAt (KK P) 291) rho_l_meets (bodyAt (KK P) 291) T_l_meets :=
  have rho0 : RhoOK rho_l_meets := rho_ok (by kernel_rfl)
  (sS_cons (sT_for (sE_loc _ (by kernel_rfl) (by kernel_rfl) (by kernel_rfl)) (sS_cons (sT_if (sB_cmp cmp_in (sE_loc _ (by kernel_rfl) (by kernel_rfl) (by kernel_rfl)) (sE_loc _ (by kernel_rfl) (by kernel_rfl) (by kernel_rfl)) rfl) (sS_cons (sT_ret (sE_bool _ _ _))
  sS_nil) sS_nil)
  sS_nil) rho0 (by kernel_rfl) (or_kd (by kernel_rfl)) (fun _ _ => rfl))
  (sS_cons (sT_ret (sE_bool _ _ _))
  sS_nil))
theorem fn_l_meets {S : St} {P : Params} (E : EnvL S (KK P)) (CL : Cls S (KK P)) (hB : S.book = 261)  : SoundF S true 2 (.ref 291) (mkFn is_l_meets T_l_meets) :=
  sF_defK E.KS (isDef_of E.X (cd := 290) (ps := [(Str.ofString "_law_one"), (Str.ofString "_law_row_here")]) rfl ⟨_, rfl⟩ rfl rfl rfl rfl ⟨_, _, _, rfl, rfl, rfl⟩ (bind2 fun _ _ => rfl)) (by kernel_rfl) (snd_l_meets E CL hB )
noncomputable def rho_l_meets_all : Rho := [((Str.ofString "_law_one"), 0), ((Str.ofString "_law_rows"), 1), ((Str.ofString "_law_row_here"), 2)]
theorem snd_l_meets_all {S : St} {P : Params} (E : EnvL S (KK P)) (CL : Cls S (KK P)) (hB : S.book = 261) (h_l_meets : SoundF S true 2 (.ref 291) F_l_meets) : SoundS S true 3 (scAt (KK P) 298) rho_l_meets_all (bodyAt (KK P) 298) T_l_meets_all :=
  have rho0 : RhoOK rho_l_meets_all := rho_ok (by kernel_rfl)
  (sS_cons (sT_for (sE_loc _ (by kernel_rfl) (by kernel_rfl) (by kernel_rfl)) (sS_cons (sT_if (sB_not (sB_truth (sE_callD E.KS (h_l_meets.deeper (by omega)) (sEs_cons (sE_loc _ (by kernel_rfl) (by kernel_rfl) (by kernel_rfl)) (sEs_cons (sE_loc _ (by kernel_rfl) (by kernel_rfl) (by kernel_rfl)) sEs_nil (fun _ => rfl)) (fun _ => rfl)) (by kernel_rfl) (E.g (by kernel_rfl)) (isFn_of E.X (by kernel_rfl)) (by kernel_rfl) (by kernel_rfl)) (fun _ _ => rfl))) (sS_cons (sT_ret (sE_bool _ _ _))
  sS_nil) sS_nil)
  sS_nil) rho0 (by kernel_rfl) (or_kd (by kernel_rfl)) (fun _ _ => rfl))
  (sS_cons (sT_ret (sE_bool _ _ _))
  sS_nil))
theorem fn_l_meets_all {S : St} {P : Params} (E : EnvL S (KK P)) (CL : Cls S (KK P)) (hB : S.book = 261) (h_l_meets : SoundF S true 2 (.ref 291) F_l_meets) : SoundF S true 4 (.ref 298) (mkFn is_l_meets_all T_l_meets_all) :=
  sF_defK E.KS (isDef_of E.X (cd := 297) (ps := [(Str.ofString "_law_one"), (Str.ofString "_law_rows")]) rfl ⟨_, rfl⟩ rfl rfl rfl rfl ⟨_, _, _, rfl, rfl, rfl⟩ (bind2 fun _ _ => rfl)) (by kernel_rfl) (snd_l_meets_all E CL hB h_l_meets)
noncomputable def rho_l_fewest : Rho := [((Str.ofString "_law_names_here"), 0), ((Str.ofString "_law_rows"), 1), ((Str.ofString "_law_one"), 2)]
theorem snd_l_fewest {S : St} {P : Params} (E : EnvL S (KK P)) (CL : Cls S (KK P)) (hB : S.book = 261) (h_l_ranked : SoundF S true 2 (.ref 315) F_l_ranked) (h_l_box : SoundF S true 2 (.ref 310) F_l_box) (h_l_meets_all : SoundF S true 4 (.ref 298) F_l_meets_all) : SoundS S true 5 (scAt (KK P) 339) rho_l_fewest (bodyAt (KK P) 339) T_l_fewest :=
  have rho0 : RhoOK rho_l_fewest := rho_ok (by kernel_rfl)
  (sS_cons (sT_for (sE_callD E.KS (h_l_ranked.deeper (by omega)) (sEs_cons (sE_callD E.KS (h_l_box.deeper (by omega)) (sEs_cons (sE_loc _ (by kernel_rfl) (by kernel_rfl) (by kernel_rfl)) sEs_nil (fun _ => rfl)) (by kernel_rfl) (E.g (by kernel_rfl)) (isFn_of E.X (by kernel_rfl)) (by kernel_rfl) (by kernel_rfl)) sEs_nil (fun _ => rfl)) (by kernel_rfl) (E.g (by kernel_rfl)) (isFn_of E.X (by kernel_rfl)) (by kernel_rfl) (by kernel_rfl)) (sS_cons (sT_if (sB_truth (sE_callD E.KS (h_l_meets_all.deeper (by omega)) (sEs_cons (sE_loc _ (by kernel_rfl) (by kernel_rfl) (by kernel_rfl)) (sEs_cons (sE_loc _ (by kernel_rfl) (by kernel_rfl) (by kernel_rfl)) sEs_nil (fun _ => rfl)) (fun _ => rfl)) (by kernel_rfl) (E.g (by kernel_rfl)) (isFn_of E.X (by kernel_rfl)) (by kernel_rfl) (by kernel_rfl)) (fun _ _ => rfl)) (sS_cons (sT_ret (sE_bcall E.KS (bLen_ok E.KS) (sEs_cons (sE_loc _ (by kernel_rfl) (by kernel_rfl) (by kernel_rfl)) sEs_nil (fun _ => rfl)) (by kernel_rfl) (E.g (by kernel_rfl)) (E.b (by kernel_rfl) (by kernel_rfl)) (by kernel_rfl) (by kernel_rfl)))
  sS_nil) sS_nil)
  sS_nil) rho0 (by kernel_rfl) (or_kd (by kernel_rfl)) (fun _ _ => rfl))
  (sS_cons (sT_ret (sE_none _ _))
  sS_nil))
theorem fn_l_fewest {S : St} {P : Params} (E : EnvL S (KK P)) (CL : Cls S (KK P)) (hB : S.book = 261) (h_l_ranked : SoundF S true 2 (.ref 315) F_l_ranked) (h_l_box : SoundF S true 2 (.ref 310) F_l_box) (h_l_meets_all : SoundF S true 4 (.ref 298) F_l_meets_all) : SoundF S true 6 (.ref 339) (mkFn is_l_fewest T_l_fewest) :=
  sF_defK E.KS (isDef_of E.X (cd := 338) (ps := [(Str.ofString "_law_names_here"), (Str.ofString "_law_rows")]) rfl ⟨_, rfl⟩ rfl rfl rfl rfl ⟨_, _, _, rfl, rfl, rfl⟩ (bind2 fun _ _ => rfl)) (by kernel_rfl) (snd_l_fewest E CL hB h_l_ranked h_l_box h_l_meets_all)
noncomputable def rho_l_right : Rho := [((Str.ofString "_law_book"), 0), ((Str.ofString "_law_names_here"), 1), ((Str.ofString "_law_rows"), 2), ((Str.ofString "_law_held"), 3), ((Str.ofString "_law_turn"), 4), ((Str.ofString "_law_needed_here"), 5), ((Str.ofString "_law_idle_here"), 6), ((Str.ofString "_law_fewest_here"), 7), ((Str.ofString "_law_due"), 8), ((Str.ofString "_law_again"), 9)]
theorem snd_l_right {S : St} {P : Params} (E : EnvL S (KK P)) (CL : Cls S (KK P)) (hB : S.book = 261) (h_l_three : SoundF S true 12 (.ref 346) F_l_three) (h_l_needed : SoundF S true 2 (.ref 332) F_l_needed) (h_l_idle : SoundF S true 4 (.ref 325) F_l_idle) (h_l_fewest : SoundF S true 6 (.ref 339) F_l_fewest) : SoundS S true 13 (scAt (KK P) 353) rho_l_right (bodyAt (KK P) 353) T_l_right :=
  have rho0 : RhoOK rho_l_right := rho_ok (by kernel_rfl)
  (sS_cons (sT_assign3 (sE_callD E.KS (h_l_three.deeper (by omega)) (sEs_cons (sE_loc _ (by kernel_rfl) (by kernel_rfl) (by kernel_rfl)) (sEs_cons (sE_loc _ (by kernel_rfl) (by kernel_rfl) (by kernel_rfl)) sEs_nil (fun _ => rfl)) (fun _ => rfl)) (by kernel_rfl) (E.g (by kernel_rfl)) (isFn_of E.X (by kernel_rfl)) (by kernel_rfl) (by kernel_rfl)) rho0 (by kernel_rfl) (by kernel_rfl) (by kernel_rfl) (or_kd (by kernel_rfl)) (or_kd (by kernel_rfl)) (or_kd (by kernel_rfl)) (fun _ => rfl) (fun _ => rfl))
  (sS_cons (sT_assign (sE_list (sEs_cons (sE_callD E.KS (h_l_needed.deeper (by omega)) (sEs_cons (sE_loc _ (by kernel_rfl) (by kernel_rfl) (by kernel_rfl)) sEs_nil (fun _ => rfl)) (by kernel_rfl) (E.g (by kernel_rfl)) (isFn_of E.X (by kernel_rfl)) (by kernel_rfl) (by kernel_rfl)) (sEs_cons (sE_callD E.KS (h_l_idle.deeper (by omega)) (sEs_cons (sE_loc _ (by kernel_rfl) (by kernel_rfl) (by kernel_rfl)) sEs_nil (fun _ => rfl)) (by kernel_rfl) (E.g (by kernel_rfl)) (isFn_of E.X (by kernel_rfl)) (by kernel_rfl) (by kernel_rfl)) (sEs_cons (sE_callD E.KS (h_l_fewest.deeper (by omega)) (sEs_cons (sE_loc _ (by kernel_rfl) (by kernel_rfl) (by kernel_rfl)) (sEs_cons (sE_loc _ (by kernel_rfl) (by kernel_rfl) (by kernel_rfl)) sEs_nil (fun _ => rfl)) (fun _ => rfl)) (by kernel_rfl) (E.g (by kernel_rfl)) (isFn_of E.X (by kernel_rfl)) (by kernel_rfl) (by kernel_rfl)) sEs_nil (fun _ => rfl)) (fun _ => rfl)) (fun _ => rfl))) rho0 (by kernel_rfl) (or_kd (by kernel_rfl)) (fun _ => rfl))
  (sS_cons (sT_if (sB_boolOp (sL_or (sB_cmp cmp_ne (sE_list (sEs_cons (sE_loc _ (by kernel_rfl) (by kernel_rfl) (by kernel_rfl)) (sEs_cons (sE_loc _ (by kernel_rfl) (by kernel_rfl) (by kernel_rfl)) (sEs_cons (sE_loc _ (by kernel_rfl) (by kernel_rfl) (by kernel_rfl)) sEs_nil (fun _ => rfl)) (fun _ => rfl)) (fun _ => rfl))) (sE_loc _ (by kernel_rfl) (by kernel_rfl) (by kernel_rfl)) rfl) (sL_or (sB_cmp cmp_is (sE_loc _ (by kernel_rfl) (by kernel_rfl) (by kernel_rfl)) (sE_bool _ _ _) rfl) (sL_or (sB_cmp cmp_is (sE_loc _ (by kernel_rfl) (by kernel_rfl) (by kernel_rfl)) (sE_bool _ _ _) rfl) sL_orNil)))) (sS_cons (sT_ret (sE_bool _ _ _))
  sS_nil) sS_nil)
  (sS_cons (sT_if (sB_boolOp (sL_or (sB_not (sB_truth (sE_isi E.KS isi_ok_list (sE_loc _ (by kernel_rfl) (by kernel_rfl) (by kernel_rfl)) (by kernel_rfl) (E.g (by kernel_rfl)) (E.b (by kernel_rfl) (by kernel_rfl)) (by kernel_rfl) (E.g (by kernel_rfl)) (E.b (by kernel_rfl) (by kernel_rfl)) (by kernel_rfl) (by kernel_rfl) (by kernel_rfl)) (fun _ _ => rfl))) (sL_or (sB_not (sB_truth (sE_isi E.KS isi_ok_list (sE_loc _ (by kernel_rfl) (by kernel_rfl) (by kernel_rfl)) (by kernel_rfl) (E.g (by kernel_rfl)) (E.b (by kernel_rfl) (by kernel_rfl)) (by kernel_rfl) (E.g (by kernel_rfl)) (E.b (by kernel_rfl) (by kernel_rfl)) (by kernel_rfl) (by kernel_rfl) (by kernel_rfl)) (fun _ _ => rfl))) sL_orNil))) (sS_cons (sT_ret (sE_bool _ _ _))
  sS_nil) sS_nil)
  (sS_cons (sT_expr (sE_meth meth_append bAppend_ok (sE_loc _ (by kernel_rfl) (by kernel_rfl) (by kernel_rfl)) (sEs_cons (sE_str _ _ _ (by kernel_rfl)) sEs_nil (fun _ => rfl)) (fun _ => rfl) (by kernel_rfl) (by kernel_rfl) (by decide)) (fun _ => rfl))
  (sS_cons (sT_expr (sE_meth meth_append bAppend_ok (sE_loc _ (by kernel_rfl) (by kernel_rfl) (by kernel_rfl)) (sEs_cons (sE_str _ _ _ (by kernel_rfl)) sEs_nil (fun _ => rfl)) (fun _ => rfl) (by kernel_rfl) (by kernel_rfl) (by decide)) (fun _ => rfl))
  (sS_cons (sT_assign (sE_callD E.KS (h_l_three.deeper (by omega)) (sEs_cons (sE_loc _ (by kernel_rfl) (by kernel_rfl) (by kernel_rfl)) (sEs_cons (sE_bin bin_fdiv (sE_loc _ (by kernel_rfl) (by kernel_rfl) (by kernel_rfl)) (sE_int _ _ _)) sEs_nil (fun _ => rfl)) (fun _ => rfl)) (by kernel_rfl) (E.g (by kernel_rfl)) (isFn_of E.X (by kernel_rfl)) (by kernel_rfl) (by kernel_rfl)) rho0 (by kernel_rfl) (or_kd (by kernel_rfl)) (fun _ => rfl))
  (sS_cons (sT_expr (sE_meth meth_append bAppend_ok (sE_loc _ (by kernel_rfl) (by kernel_rfl) (by kernel_rfl)) (sEs_cons (sE_tuple (sEs_cons (sE_item (sE_loc _ (by kernel_rfl) (by kernel_rfl) (by kernel_rfl)) (sE_int _ _ _)) (sEs_cons (sE_item (sE_loc _ (by kernel_rfl) (by kernel_rfl) (by kernel_rfl)) (sE_int _ _ _)) sEs_nil (fun _ => rfl)) (fun _ => rfl))) sEs_nil (fun _ => rfl)) (fun _ => rfl) (by kernel_rfl) (by kernel_rfl) (by decide)) (fun _ => rfl))
  (sS_cons (sT_expr (sE_meth meth_append bAppend_ok (sE_loc _ (by kernel_rfl) (by kernel_rfl) (by kernel_rfl)) (sEs_cons (sE_tuple (sEs_cons (sE_item (sE_loc _ (by kernel_rfl) (by kernel_rfl) (by kernel_rfl)) (sE_int _ _ _)) (sEs_cons (sE_item (sE_loc _ (by kernel_rfl) (by kernel_rfl) (by kernel_rfl)) (sE_int _ _ _)) sEs_nil (fun _ => rfl)) (fun _ => rfl))) sEs_nil (fun _ => rfl)) (fun _ => rfl) (by kernel_rfl) (by kernel_rfl) (by decide)) (fun _ => rfl))
  (sS_cons (sT_ret (sE_cmp cmp_eq (sE_loc _ (by kernel_rfl) (by kernel_rfl) (by kernel_rfl)) (sE_loc _ (by kernel_rfl) (by kernel_rfl) (by kernel_rfl)) rfl))
  sS_nil))))))))))
theorem fn_l_right {S : St} {P : Params} (E : EnvL S (KK P)) (CL : Cls S (KK P)) (hB : S.book = 261) (h_l_three : SoundF S true 12 (.ref 346) F_l_three) (h_l_needed : SoundF S true 2 (.ref 332) F_l_needed) (h_l_idle : SoundF S true 4 (.ref 325) F_l_idle) (h_l_fewest : SoundF S true 6 (.ref 339) F_l_fewest) : SoundF S true 14 (.ref 353) (mkFn is_l_right T_l_right) :=
  sF_defK E.KS (isDef_of E.X (cd := 352) (ps := [(Str.ofString "_law_book"), (Str.ofString "_law_names_here"), (Str.ofString "_law_rows"), (Str.ofString "_law_held"), (Str.ofString "_law_turn")]) rfl ⟨_, rfl⟩ rfl rfl rfl rfl ⟨_, _, _, rfl, rfl, rfl⟩ (fun vals h => match vals, h with | [_, _, _, _, _], _ => rfl)) (by kernel_rfl) (snd_l_right E CL hB h_l_three h_l_needed h_l_idle h_l_fewest)
noncomputable def rho_l_row : Rho := [((Str.ofString "_law_names_here"), 0), ((Str.ofString "_law_cell"), 1), ((Str.ofString "_law_found"), 2), ((Str.ofString "_law_bits"), 3), ((Str.ofString "_law_name"), 4)]
theorem snd_l_row {S : St} {P : Params} (E : EnvL S (KK P)) (CL : Cls S (KK P)) (hB : S.book = 261)  : SoundS S true 1 (scAt (KK P) 284) rho_l_row (bodyAt (KK P) 284) T_l_row :=
  have rho0 : RhoOK rho_l_row := rho_ok (by kernel_rfl)
  (sS_cons (sT_assign (sE_list sEs_nil) rho0 (by kernel_rfl) (or_kd (by kernel_rfl)) (fun _ => rfl))
  (sS_cons (sT_assign (sE_bin bin_fdiv (sE_loc _ (by kernel_rfl) (by kernel_rfl) (by kernel_rfl)) (sE_int _ _ _)) rho0 (by kernel_rfl) (or_kd (by kernel_rfl)) (fun _ => rfl))
  (sS_cons (sT_for (sE_loc _ (by kernel_rfl) (by kernel_rfl) (by kernel_rfl)) (sS_cons (sT_if (sB_cmp cmp_eq (sE_bin bin_mod (sE_loc _ (by kernel_rfl) (by kernel_rfl) (by kernel_rfl)) (sE_int _ _ _)) (sE_int _ _ _) rfl) (sS_cons (sT_expr (sE_meth meth_append bAppend_ok (sE_loc _ (by kernel_rfl) (by kernel_rfl) (by kernel_rfl)) (sEs_cons (sE_loc _ (by kernel_rfl) (by kernel_rfl) (by kernel_rfl)) sEs_nil (fun _ => rfl)) (fun _ => rfl) (by kernel_rfl) (by kernel_rfl) (by decide)) (fun _ => rfl))
  sS_nil) sS_nil)
  (sS_cons (sT_assign (sE_bin bin_fdiv (sE_loc _ (by kernel_rfl) (by kernel_rfl) (by kernel_rfl)) (sE_int _ _ _)) rho0 (by kernel_rfl) (or_kd (by kernel_rfl)) (fun _ => rfl))
  sS_nil)) rho0 (by kernel_rfl) (or_kd (by kernel_rfl)) (fun _ _ => rfl))
  (sS_cons (sT_if (sB_boolOp (sL_and (sB_cmp cmp_eq (sE_loc _ (by kernel_rfl) (by kernel_rfl) (by kernel_rfl)) (sE_list sEs_nil) rfl) (sL_and (sB_cmp cmp_gt (sE_bin bin_mod (sE_loc _ (by kernel_rfl) (by kernel_rfl) (by kernel_rfl)) (sE_int _ _ _)) (sE_int _ _ _) rfl) sL_andNil))) (sS_cons (sT_assign (sE_list (sEs_cons (sE_item (sE_loc _ (by kernel_rfl) (by kernel_rfl) (by kernel_rfl)) (sE_bin bin_mod (sE_loc _ (by kernel_rfl) (by kernel_rfl) (by kernel_rfl)) (sE_bcall E.KS (bLen_ok E.KS) (sEs_cons (sE_loc _ (by kernel_rfl) (by kernel_rfl) (by kernel_rfl)) sEs_nil (fun _ => rfl)) (by kernel_rfl) (E.g (by kernel_rfl)) (E.b (by kernel_rfl) (by kernel_rfl)) (by kernel_rfl) (by kernel_rfl)))) sEs_nil (fun _ => rfl))) rho0 (by kernel_rfl) (or_kd (by kernel_rfl)) (fun _ => rfl))
  sS_nil) sS_nil)
  (sS_cons (sT_ret (sE_if (sB_cmp cmp_eq (sE_bin bin_mod (sE_loc _ (by kernel_rfl) (by kernel_rfl) (by kernel_rfl)) (sE_int _ _ _)) (sE_int _ _ _) rfl) (sE_rev (sE_loc _ (by kernel_rfl) (by kernel_rfl) (by kernel_rfl))) (sE_loc _ (by kernel_rfl) (by kernel_rfl) (by kernel_rfl))))
  sS_nil)))))
theorem fn_l_row {S : St} {P : Params} (E : EnvL S (KK P)) (CL : Cls S (KK P)) (hB : S.book = 261)  : SoundF S true 2 (.ref 284) (mkFn is_l_row T_l_row) :=
  sF_defK E.KS (isDef_of E.X (cd := 283) (ps := [(Str.ofString "_law_names_here"), (Str.ofString "_law_cell")]) rfl ⟨_, rfl⟩ rfl rfl rfl rfl ⟨_, _, _, rfl, rfl, rfl⟩ (bind2 fun _ _ => rfl)) (by kernel_rfl) (snd_l_row E CL hB )
noncomputable def rho_b_take : Rho := [((Str.ofString "self"), 0), ((Str.ofString "number"), 1)]
theorem snd_b_take {S : St} {P : Params} (E : EnvL S (KK P)) (CL : Cls S (KK P)) (hB : S.book = 261)  : SoundS S true 1 (scAt (KK P) 154) rho_b_take (bodyAt (KK P) 154) T_b_take :=
  have rho0 : RhoOK rho_b_take := rho_ok (by kernel_rfl)
  (sS_cons (sT_if (sB_boolOp (sL_or (sB_not (sB_truth (sE_isi E.KS isi_ok_int (sE_loc _ (by kernel_rfl) (by kernel_rfl) (by kernel_rfl)) (by kernel_rfl) (E.g (by kernel_rfl)) (E.b (by kernel_rfl) (by kernel_rfl)) (by kernel_rfl) (E.g (by kernel_rfl)) (E.b (by kernel_rfl) (by kernel_rfl)) (by kernel_rfl) (by kernel_rfl) (by kernel_rfl)) (fun _ _ => rfl))) (sL_or (sB_truth (sE_isi E.KS isi_ok_bool (sE_loc _ (by kernel_rfl) (by kernel_rfl) (by kernel_rfl)) (by kernel_rfl) (E.g (by kernel_rfl)) (E.b (by kernel_rfl) (by kernel_rfl)) (by kernel_rfl) (E.g (by kernel_rfl)) (E.b (by kernel_rfl) (by kernel_rfl)) (by kernel_rfl) (by kernel_rfl) (by kernel_rfl)) (fun _ _ => rfl)) (sL_or (sB_cmp (cmp_notInD E.KS) (sE_loc _ (by kernel_rfl) (by kernel_rfl) (by kernel_rfl)) (sE_attr E CL (sE_loc _ (by kernel_rfl) (by kernel_rfl) (by kernel_rfl)) (by rw [hB]; kernel_rfl)) rfl) sL_orNil)))) (sS_cons sT_never
  sS_nil) sS_nil)
  (sS_cons (sT_exprA (sE_meth meth_pop bPop_ok (sE_attr E CL (sE_loc _ (by kernel_rfl) (by kernel_rfl) (by kernel_rfl)) (by rw [hB]; kernel_rfl)) (sEs_cons (sE_loc _ (by kernel_rfl) (by kernel_rfl) (by kernel_rfl)) sEs_nil (fun _ => rfl)) (fun _ => rfl) (by kernel_rfl) (by kernel_rfl) (by decide)) (fun _ => rfl))
  sS_nil))
theorem fn_b_take {S : St} {P : Params} (E : EnvL S (KK P)) (CL : Cls S (KK P)) (hB : S.book = 261)  : SoundF S true 2 (.ref 154) (mkFn is_b_take T_b_take) :=
  sF_defK E.KS (isDef_of E.X (cd := 153) (ps := [(Str.ofString "self"), (Str.ofString "number")]) rfl ⟨_, rfl⟩ rfl rfl rfl rfl ⟨_, _, _, rfl, rfl, rfl⟩ (bind2 fun _ _ => rfl)) (by kernel_rfl) (snd_b_take E CL hB )
noncomputable def rho_need_set : Rho := [((Str.ofString "thing"), 0)]
theorem snd_need_set {S : St} {P : Params} (E : EnvL S (KK P)) (CL : Cls S (KK P)) (hB : S.book = 261) (h_rising : SoundF S true 4 (.ref 94) F_rising) : SoundS S true 5 (scAt (KK P) 126) rho_need_set (bodyAt (KK P) 126) T_need_set :=
  have rho0 : RhoOK rho_need_set := rho_ok (by kernel_rfl)
  (sS_cons (sT_if (sB_not (sB_truth (sE_isi E.KS isi_ok_list (sE_loc _ (by kernel_rfl) (by kernel_rfl) (by kernel_rfl)) (by kernel_rfl) (E.g (by kernel_rfl)) (E.b (by kernel_rfl) (by kernel_rfl)) (by kernel_rfl) (E.g (by kernel_rfl)) (E.b (by kernel_rfl) (by kernel_rfl)) (by kernel_rfl) (by kernel_rfl) (by kernel_rfl)) (fun _ _ => rfl))) (sS_cons sT_never
  sS_nil) sS_nil)
  (sS_cons (sT_ret (sE_callD E.KS (h_rising.deeper (by omega)) (sEs_cons (sE_loc _ (by kernel_rfl) (by kernel_rfl) (by kernel_rfl)) sEs_nil (fun _ => rfl)) (by kernel_rfl) (E.g (by kernel_rfl)) (isFn_of E.X (by kernel_rfl)) (by kernel_rfl) (by kernel_rfl)))
  sS_nil))
theorem fn_need_set {S : St} {P : Params} (E : EnvL S (KK P)) (CL : Cls S (KK P)) (hB : S.book = 261) (h_rising : SoundF S true 4 (.ref 94) F_rising) : SoundF S true 6 (.ref 126) (mkFn is_need_set T_need_set) :=
  sF_defK E.KS (isDef_of E.X (cd := 125) (ps := [(Str.ofString "thing")]) rfl ⟨_, rfl⟩ rfl rfl rfl rfl ⟨_, _, _, rfl, rfl, rfl⟩ (bind1 fun _ => rfl)) (by kernel_rfl) (snd_need_set E CL hB h_rising)
noncomputable def rho_b_put : Rho := [((Str.ofString "self"), 0), ((Str.ofString "row"), 1), ((Str.ofString "found"), 2), ((Str.ofString "number"), 3)]
theorem snd_b_put {S : St} {P : Params} (E : EnvL S (KK P)) (CL : Cls S (KK P)) (hB : S.book = 261) (h_need_set : SoundF S true 6 (.ref 126) F_need_set) (h_b_names : SoundF S true 6 (.ref 171) F_b_names) : SoundS S true 7 (scAt (KK P) 147) rho_b_put (bodyAt (KK P) 147) T_b_put :=
  have rho0 : RhoOK rho_b_put := rho_ok (by kernel_rfl)
  (sS_cons (sT_assign (sE_callD E.KS (h_need_set.deeper (by omega)) (sEs_cons (sE_loc _ (by kernel_rfl) (by kernel_rfl) (by kernel_rfl)) sEs_nil (fun _ => rfl)) (by kernel_rfl) (E.g (by kernel_rfl)) (isFn_of E.X (by kernel_rfl)) (by kernel_rfl) (by kernel_rfl)) rho0 (by kernel_rfl) (or_kd (by kernel_rfl)) (fun _ => rfl))
  (sS_cons (sT_if (sB_cmp cmp_ne (sE_bcall E.KS (bLen_ok E.KS) (sEs_cons (sE_loc _ (by kernel_rfl) (by kernel_rfl) (by kernel_rfl)) sEs_nil (fun _ => rfl)) (by kernel_rfl) (E.g (by kernel_rfl)) (E.b (by kernel_rfl) (by kernel_rfl)) (by kernel_rfl) (by kernel_rfl)) (sE_bcall E.KS (bLen_ok E.KS) (sEs_cons (sE_loc _ (by kernel_rfl) (by kernel_rfl) (by kernel_rfl)) sEs_nil (fun _ => rfl)) (by kernel_rfl) (E.g (by kernel_rfl)) (E.b (by kernel_rfl) (by kernel_rfl)) (by kernel_rfl) (by kernel_rfl)) rfl) (sS_cons sT_never
  sS_nil) sS_nil)
  (sS_cons (sT_if (sB_cmp cmp_eq (sE_bcall E.KS (bLen_ok E.KS) (sEs_cons (sE_attr E CL (sE_loc _ (by kernel_rfl) (by kernel_rfl) (by kernel_rfl)) (by rw [hB]; kernel_rfl)) sEs_nil (fun _ => rfl)) (by kernel_rfl) (E.g (by kernel_rfl)) (E.b (by kernel_rfl) (by kernel_rfl)) (by kernel_rfl) (by kernel_rfl)) (sE_constK E (by kernel_rfl) (by kernel_rfl) (by kernel_rfl)) rfl) (sS_cons sT_never
  sS_nil) sS_nil)
  (sS_cons (sT_if (sB_cmp cmp_gt (sE_bcall E.KS (bLen_ok E.KS) (sEs_cons (sE_tcall E.KS (bSet_ok) (sEs_cons (sE_bin bin_add (sE_mcall E CL (h_b_names.deeper (by omega)) (sE_loc _ (by kernel_rfl) (by kernel_rfl) (by kernel_rfl)) sEs_nil (fun _ => rfl) (by kernel_rfl) (by kernel_rfl) (by decide) (by rw [hB]; kernel_rfl) (by kernel_rfl) (by kernel_rfl)) (sE_loc _ (by kernel_rfl) (by kernel_rfl) (by kernel_rfl))) sEs_nil (fun _ => rfl)) (by kernel_rfl) (E.g (by kernel_rfl)) (E.b (by kernel_rfl) (by kernel_rfl)) (by kernel_rfl) (by kernel_rfl)) sEs_nil (fun _ => rfl)) (by kernel_rfl) (E.g (by kernel_rfl)) (E.b (by kernel_rfl) (by kernel_rfl)) (by kernel_rfl) (by kernel_rfl)) (sE_constK E (by kernel_rfl) (by kernel_rfl) (by kernel_rfl)) rfl) (sS_cons sT_never
  sS_nil) sS_nil)
  (sS_cons (sT_assign (sE_attr E CL (sE_loc _ (by kernel_rfl) (by kernel_rfl) (by kernel_rfl)) (by rw [hB]; kernel_rfl)) rho0 (by kernel_rfl) (or_kd (by kernel_rfl)) (fun _ => rfl))
  (sS_cons (sT_attrSet E CL (sE_loc _ (by kernel_rfl) (by kernel_rfl) (by kernel_rfl)) (sE_bin bin_add (sE_loc _ (by kernel_rfl) (by kernel_rfl) (by kernel_rfl)) (sE_int _ _ _)) (by rw [hB]; kernel_rfl) (fun _ => rfl))
  (sS_cons (sT_subSet (sE_attr E CL (sE_loc _ (by kernel_rfl) (by kernel_rfl) (by kernel_rfl)) (by rw [hB]; kernel_rfl)) (sE_loc _ (by kernel_rfl) (by kernel_rfl) (by kernel_rfl)) (sE_loc _ (by kernel_rfl) (by kernel_rfl) (by kernel_rfl)) (fun _ => rfl))
  (sS_cons (sT_ret (sE_loc _ (by kernel_rfl) (by kernel_rfl) (by kernel_rfl)))
  sS_nil))))))))
theorem fn_b_put {S : St} {P : Params} (E : EnvL S (KK P)) (CL : Cls S (KK P)) (hB : S.book = 261) (h_need_set : SoundF S true 6 (.ref 126) F_need_set) (h_b_names : SoundF S true 6 (.ref 171) F_b_names) : SoundF S true 8 (.ref 147) (mkFn is_b_put T_b_put) :=
  sF_defK E.KS (isDef_of E.X (cd := 146) (ps := [(Str.ofString "self"), (Str.ofString "row")]) rfl ⟨_, rfl⟩ rfl rfl rfl rfl ⟨_, _, _, rfl, rfl, rfl⟩ (bind2 fun _ _ => rfl)) (by kernel_rfl) (snd_b_put E CL hB h_need_set h_b_names)
noncomputable def rho_law : Rho := [((Str.ofString "_law_script"), 0), ((Str.ofString "_law_names_here"), 1), ((Str.ofString "_law_book"), 2), ((Str.ofString "_law_rows"), 3), ((Str.ofString "_law_held"), 4), ((Str.ofString "_law_taken"), 5), ((Str.ofString "_law_cell"), 6), ((Str.ofString "_law_row_here"), 7)]
theorem snd_law {S : St} {P : Params} (E : EnvL S (KK P)) (CL : Cls S (KK P)) (hB : S.book = 261) (h_l_names : SoundF S true 4 (.ref 277) F_l_names) (h_b_init : SoundF S true 2 (.ref 140) F_b_init) (h_l_right : SoundF S true 14 (.ref 353) F_l_right) (h_l_draw : SoundF S true 2 (.ref 272) F_l_draw) (h_l_row : SoundF S true 2 (.ref 284) F_l_row) (h_b_take : SoundF S true 2 (.ref 154) F_b_take) (h_b_put : SoundF S true 8 (.ref 147) F_b_put) : SoundS S true 15 (scAt (KK P) 358) rho_law (bodyAt (KK P) 358) T_law :=
  have rho0 : RhoOK rho_law := rho_ok (by kernel_rfl)
  (sS_cons (sT_assign (sE_slice (sE_callD E.KS (h_l_names.deeper (by omega)) (sEs_cons (sE_loc _ (by kernel_rfl) (by kernel_rfl) (by kernel_rfl)) sEs_nil (fun _ => rfl)) (by kernel_rfl) (E.g (by kernel_rfl)) (isFn_of E.X (by kernel_rfl)) (by kernel_rfl) (by kernel_rfl)) sP_none (sP_some (sE_int _ _ _))) rho0 (by kernel_rfl) (or_kd (by kernel_rfl)) (fun _ => rfl))
  (sS_cons (sT_assign (sE_make E CL (h_b_init.deeper (by omega)) (by kernel_rfl) (by rw [hB]; exact E.g (by kernel_rfl)) (by kernel_rfl) (by rw [hB]; kernel_rfl) (by kernel_rfl)) rho0 (by kernel_rfl) (or_kd (by kernel_rfl)) (fun _ => rfl))
  (sS_cons (sT_assign (sE_list sEs_nil) rho0 (by kernel_rfl) (or_kd (by kernel_rfl)) (fun _ => rfl))
  (sS_cons (sT_assign (sE_list sEs_nil) rho0 (by kernel_rfl) (or_kd (by kernel_rfl)) (fun _ => rfl))
  (sS_cons (sT_assign (sE_int _ _ _) rho0 (by kernel_rfl) (or_kd (by kernel_rfl)) (fun _ => rfl))
  (sS_cons (sT_if (sB_not (sB_truth (sE_callD E.KS (h_l_right.deeper (by omega)) (sEs_cons (sE_loc _ (by kernel_rfl) (by kernel_rfl) (by kernel_rfl)) (sEs_cons (sE_loc _ (by kernel_rfl) (by kernel_rfl) (by kernel_rfl)) (sEs_cons (sE_loc _ (by kernel_rfl) (by kernel_rfl) (by kernel_rfl)) (sEs_cons (sE_loc _ (by kernel_rfl) (by kernel_rfl) (by kernel_rfl)) (sEs_cons (sE_callD E.KS (h_l_draw.deeper (by omega)) (sEs_cons (sE_loc _ (by kernel_rfl) (by kernel_rfl) (by kernel_rfl)) (sEs_cons (sE_int _ _ _) sEs_nil (fun _ => rfl)) (fun _ => rfl)) (by kernel_rfl) (E.g (by kernel_rfl)) (isFn_of E.X (by kernel_rfl)) (by kernel_rfl) (by kernel_rfl)) sEs_nil (fun _ => rfl)) (fun _ => rfl)) (fun _ => rfl)) (fun _ => rfl)) (fun _ => rfl)) (by kernel_rfl) (E.g (by kernel_rfl)) (isFn_of E.X (by kernel_rfl)) (by kernel_rfl) (by kernel_rfl)) (fun _ _ => rfl))) (sS_cons (sT_ret (sE_bool _ _ _))
  sS_nil) sS_nil)
  (sS_cons (sT_for (sE_slice (sE_loc _ (by kernel_rfl) (by kernel_rfl) (by kernel_rfl)) (sP_some (sE_int _ _ _)) (sP_some (sE_int _ _ _))) (sS_cons (sT_assign (sE_callD E.KS (h_l_row.deeper (by omega)) (sEs_cons (sE_loc _ (by kernel_rfl) (by kernel_rfl) (by kernel_rfl)) (sEs_cons (sE_bin bin_fdiv (sE_loc _ (by kernel_rfl) (by kernel_rfl) (by kernel_rfl)) (sE_int _ _ _)) sEs_nil (fun _ => rfl)) (fun _ => rfl)) (by kernel_rfl) (E.g (by kernel_rfl)) (isFn_of E.X (by kernel_rfl)) (by kernel_rfl) (by kernel_rfl)) rho0 (by kernel_rfl) (or_kd (by kernel_rfl)) (fun _ => rfl))
  (sS_cons (sT_if (sB_boolOp (sL_and (sB_cmp cmp_eq (sE_bin bin_mod (sE_loc _ (by kernel_rfl) (by kernel_rfl) (by kernel_rfl)) (sE_int _ _ _)) (sE_int _ _ _) rfl) (sL_and (sB_cmp cmp_ne (sE_loc _ (by kernel_rfl) (by kernel_rfl) (by kernel_rfl)) (sE_list sEs_nil) rfl) sL_andNil))) (sS_cons (sT_expr (sE_mcall E CL (h_b_take.deeper (by omega)) (sE_loc _ (by kernel_rfl) (by kernel_rfl) (by kernel_rfl)) (sEs_cons (sE_loc _ (by kernel_rfl) (by kernel_rfl) (by kernel_rfl)) sEs_nil (fun _ => rfl)) (fun _ => rfl) (by kernel_rfl) (by kernel_rfl) (by decide) (by rw [hB]; kernel_rfl) (by kernel_rfl) (by kernel_rfl)) (fun _ => rfl))
  (sS_cons (sT_assign (sE_bin bin_add (sE_loc _ (by kernel_rfl) (by kernel_rfl) (by kernel_rfl)) (sE_int _ _ _)) rho0 (by kernel_rfl) (or_kd (by kernel_rfl)) (fun _ => rfl))
  (sS_cons (sT_assign (sE_slice (sE_loc _ (by kernel_rfl) (by kernel_rfl) (by kernel_rfl)) (sP_some (sE_int _ _ _)) sP_none) rho0 (by kernel_rfl) (or_kd (by kernel_rfl)) (fun _ => rfl))
  sS_nil))) (sS_cons (sT_if (sB_cmp cmp_eq (sE_bin bin_mod (sE_loc _ (by kernel_rfl) (by kernel_rfl) (by kernel_rfl)) (sE_int _ _ _)) (sE_int _ _ _) rfl) (sS_cons (sT_assign (sE_slice (sE_loc _ (by kernel_rfl) (by kernel_rfl) (by kernel_rfl)) sP_none (sP_some (sE_int _ _ _))) rho0 (by kernel_rfl) (or_kd (by kernel_rfl)) (fun _ => rfl))
  sS_nil) sS_nil)
  (sS_cons (sT_expr (sE_mcall E CL (h_b_put.deeper (by omega)) (sE_loc _ (by kernel_rfl) (by kernel_rfl) (by kernel_rfl)) (sEs_cons (sE_tcall E.KS (bList_ok) (sEs_cons (sE_loc _ (by kernel_rfl) (by kernel_rfl) (by kernel_rfl)) sEs_nil (fun _ => rfl)) (by kernel_rfl) (E.g (by kernel_rfl)) (E.b (by kernel_rfl) (by kernel_rfl)) (by kernel_rfl) (by kernel_rfl)) sEs_nil (fun _ => rfl)) (fun _ => rfl) (by kernel_rfl) (by kernel_rfl) (by decide) (by rw [hB]; kernel_rfl) (by kernel_rfl) (by kernel_rfl)) (fun _ => rfl))
  (sS_cons (sT_expr (sE_meth meth_append bAppend_ok (sE_loc _ (by kernel_rfl) (by kernel_rfl) (by kernel_rfl)) (sEs_cons (sE_loc _ (by kernel_rfl) (by kernel_rfl) (by kernel_rfl)) sEs_nil (fun _ => rfl)) (fun _ => rfl) (by kernel_rfl) (by kernel_rfl) (by decide)) (fun _ => rfl))
  sS_nil))))
  (sS_cons (sT_if (sB_not (sB_truth (sE_callD E.KS (h_l_right.deeper (by omega)) (sEs_cons (sE_loc _ (by kernel_rfl) (by kernel_rfl) (by kernel_rfl)) (sEs_cons (sE_loc _ (by kernel_rfl) (by kernel_rfl) (by kernel_rfl)) (sEs_cons (sE_loc _ (by kernel_rfl) (by kernel_rfl) (by kernel_rfl)) (sEs_cons (sE_loc _ (by kernel_rfl) (by kernel_rfl) (by kernel_rfl)) (sEs_cons (sE_bin bin_fdiv (sE_loc _ (by kernel_rfl) (by kernel_rfl) (by kernel_rfl)) (sE_int _ _ _)) sEs_nil (fun _ => rfl)) (fun _ => rfl)) (fun _ => rfl)) (fun _ => rfl)) (fun _ => rfl)) (by kernel_rfl) (E.g (by kernel_rfl)) (isFn_of E.X (by kernel_rfl)) (by kernel_rfl) (by kernel_rfl)) (fun _ _ => rfl))) (sS_cons (sT_ret (sE_bool _ _ _))
  sS_nil) sS_nil)
  sS_nil))) rho0 (by kernel_rfl) (or_kd (by kernel_rfl)) (fun _ _ => rfl))
  (sS_cons (sT_ret (sE_bcall E.KS (bAll_ok) (sEs_cons (sE_comp2 (sE_loc _ (by kernel_rfl) (by kernel_rfl) (by kernel_rfl)) (sE_cmp cmp_eq (sE_loc _ (by kernel_rfl) (by kernel_rfl) (by kernel_rfl)) (sE_loc _ (by kernel_rfl) (by kernel_rfl) (by kernel_rfl)) rfl) (comp_at2 (by kernel_rfl)) (fun _ _ => rfl)) sEs_nil (fun _ => rfl)) (by kernel_rfl) (E.g (by kernel_rfl)) (E.b (by kernel_rfl) (by kernel_rfl)) (by kernel_rfl) (by kernel_rfl)))
  sS_nil))))))))
theorem fn_law {S : St} {P : Params} (E : EnvL S (KK P)) (CL : Cls S (KK P)) (hB : S.book = 261) (h_l_names : SoundF S true 4 (.ref 277) F_l_names) (h_b_init : SoundF S true 2 (.ref 140) F_b_init) (h_l_right : SoundF S true 14 (.ref 353) F_l_right) (h_l_draw : SoundF S true 2 (.ref 272) F_l_draw) (h_l_row : SoundF S true 2 (.ref 284) F_l_row) (h_b_take : SoundF S true 2 (.ref 154) F_b_take) (h_b_put : SoundF S true 8 (.ref 147) F_b_put) : SoundF S true 16 (.ref 358) (mkFn is_law T_law) :=
  sF_defK E.KS (isDef_of E.X (cd := 357) (ps := [(Str.ofString "_law_script")]) rfl ⟨_, rfl⟩ rfl rfl rfl rfl ⟨_, _, _, rfl, rfl, rfl⟩ (bind1 fun _ => rfl)) (by kernel_rfl) (snd_law E CL hB h_l_names h_b_init h_l_right h_l_draw h_l_row h_b_take h_b_put)
theorem law_sound {S : St} {P : Params} (E : EnvL S (KK P)) (CL : Cls S (KK P)) (hB : S.book = 261) : SoundF S true 36 (.ref 358) lawFn := by
  have h_l_draw := (fn_l_draw E CL hB ).mono ok_l_draw
  have h_l_names := (fn_l_names E CL hB h_l_draw).mono ok_l_names
  have h_b_init := (fn_b_init E CL hB ).mono ok_b_init
  have h_ranked := (fn_ranked E CL hB ).mono ok_ranked
  have h_within := (fn_within E CL hB ).mono ok_within
  have h_least_of := (fn_least_of E CL hB h_ranked h_within).mono ok_least_of
  have h_b_rows := (fn_b_rows E CL hB ).mono ok_b_rows
  have h_b_all_sets := (fn_b_all_sets E CL hB h_b_rows).mono ok_b_all_sets
  have h_b_least_rows := (fn_b_least_rows E CL hB h_least_of h_b_all_sets).mono ok_b_least_rows
  have h_is_name := (fn_is_name E CL hB ).mono ok_is_name
  have h_rising := (fn_rising E CL hB h_is_name).mono ok_rising
  have h_b_needed := (fn_b_needed E CL hB h_b_least_rows h_rising).mono ok_b_needed
  have h_b_names := (fn_b_names E CL hB h_b_all_sets h_rising).mono ok_b_names
  have h_b_idle := (fn_b_idle E CL hB h_b_least_rows h_b_names).mono ok_b_idle
  have h_meets := (fn_meets E CL hB ).mono ok_meets
  have h_grown := (fn_grown E CL hB h_meets h_least_of).mono ok_grown
  have h_b_least := (fn_b_least E CL hB h_b_least_rows h_grown).mono ok_b_least
  have h_b_fewest := (fn_b_fewest E CL hB h_b_least).mono ok_b_fewest
  have h_l_three := (fn_l_three E CL hB h_b_needed h_b_idle h_b_fewest).mono ok_l_three
  have h_l_needed := (fn_l_needed E CL hB ).mono ok_l_needed
  have h_l_within := (fn_l_within E CL hB ).mono ok_l_within
  have h_l_idle := (fn_l_idle E CL hB h_l_within).mono ok_l_idle
  have h_l_ranked := (fn_l_ranked E CL hB ).mono ok_l_ranked
  have h_l_box := (fn_l_box E CL hB ).mono ok_l_box
  have h_l_meets := (fn_l_meets E CL hB ).mono ok_l_meets
  have h_l_meets_all := (fn_l_meets_all E CL hB h_l_meets).mono ok_l_meets_all
  have h_l_fewest := (fn_l_fewest E CL hB h_l_ranked h_l_box h_l_meets_all).mono ok_l_fewest
  have h_l_right := (fn_l_right E CL hB h_l_three h_l_needed h_l_idle h_l_fewest).mono ok_l_right
  have h_l_row := (fn_l_row E CL hB ).mono ok_l_row
  have h_b_take := (fn_b_take E CL hB ).mono ok_b_take
  have h_need_set := (fn_need_set E CL hB h_rising).mono ok_need_set
  have h_b_put := (fn_b_put E CL hB h_need_set h_b_names).mono ok_b_put
  refine ((fn_law E CL hB h_l_names h_b_init h_l_right h_l_draw h_l_row h_b_take h_b_put).mono fun vs H Q X h => ok_law vs H Q X ?_).deeper (by decide)
  obtain ⟨l, ns, rfl, rfl, hn, h⟩ := h
  exact ⟨l, ns, rfl, if_pos rfl, h⟩
end Mine
end
open PySem PySem.Calls PyProof.Rows PySem.W
set_option maxRecDepth 100000 in
set_option maxHeartbeats 4000000 in
theorem PySem.Challenge.cw_uf050031_10_holds : PySem.Challenge.rw_uf050031_10.Holds := by
  w_on
  refine holds_law Mine.h_said fun said => ?_
  refine holds_open (q := Mine.viewT) (loose := Mine.looseT) (Xt := Mine.XtT) (XP := XL Mine.viewT []) (YP := Mine.hookT.says) Mine.h_left Mine.hookT.of Mine.hookT.keeps (fun s e => xl_of s (Bool.and_eq_true_iff.mp e).1) XL.keeps (by rfl) (by rfl) (by rfl) (fun s e => recFacts_of (Bool.and_eq_true_iff.mp e).2) (by rfl) (by assumption) (by decide +kernel) ⟨rfl, rfl, rfl, rfl, rfl, by decide +kernel⟩ ?hw ?hc
  case hw => w_witness2
  case hc =>
  intro w s₀ s₁ mg mb G Y fa o pm cd doc dV kV ho hd hcd hD hmg hg args vals as hpre hlay hrd hwl hlo
  have KX : (Mine.KK w.params).In s₁.heap := kIn_of Y
  wrow_args hpre hlay hrd hwl hlo
  rename_i hl _ _ _ hi _ hlen _
  show wpAny _ _ (call (.ref fa) [.ref _]) _ _ _
  have E := Mine.envL_of (prog := PySem.Challenge.rw_uf050031_10.row.prog) (w := w) (book := 261) (excs := fun _ => none) G.T (by kernel_rfl) KX ⟨_, _, _, rfl, rfl⟩
  have CL : Mine.Cls (Mine.stOf PySem.Challenge.rw_uf050031_10.row.prog w s₁ mg mb 261 (fun _ => none)) (Mine.KK w.params) := ⟨by kernel_rfl, by kernel_rfl, by kernel_rfl, by kernel_rfl, by kernel_rfl, by kernel_rfl, by kernel_rfl⟩
  have e : mg (Str.ofString "law") = some (.ref 358) := E.g (by kernel_rfl)
  have hmg' : mg (Str.ofString "law") = some (.ref fa) := hmg
  rw [e] at hmg'; cases hmg'
  exact Mine.law_ends (d := 36) (Mine.law_sound (P := _) E CL rfl) (by decide) hl hi (by omega) hg fun s' hk ho' hg' => GoodW.toG ⟨.inl ⟨.bool true, .bool true, [], rfl, fun _ => by kernel_rfl, by constructor, by kernel_rfl, fun _ => ⟨List.nodup_nil, fun _ h => (nomatch h)⟩⟩, hk, ho', hg'⟩
