import PyProof.Rows.All
import PyProof.CompFree
import PyProof.Walks
import PyProof.StationsW
import PyProof.DictIter
import PyProof.DictKinds
import PyProof.RangeIter
import PyProof.Claim2
import PyProof.Calls
import PyProof.Cells
import PyProof.CallRoads
import PyProof.EvalArms
import PyProof.ForRange
import PyProof.Rows.Own
import PyProof.Rows.Chain
import PyProof.RulesRaise
import PyProof.RulesTry
import PyProof.PassesOwn
import PyProof.Rows.PlainStore
import PyProof.WalksMore
import PyProof.StrWalks
import PyProof.Rows.ListAppend
import PyProof.ListOps
import PyProof.EqLayable
import PyProof.P3In
import PyProof.Rows.EqDataRows
import PyProof.Rows.StrRules
import PyProof.Rows.IntRules
import PyProof.Rows.RuleB_mul
import PyProof.Rows.RuleB_sub
import PyProof.Rows.RuleB_floordiv
import PyProof.Rows.RuleC_int
import PyProof.StrBlock
import PyProof.LetGo
import PyProof.SliceMore
import PyProof.SliceList
import PyProof.SliceStr2
import PyProof.Rows.TupSub
import PyProof.StrLaws
import PyProof.StrLawsIdx
import KE.KRevSl
import PyProof.Rules3
import PyProof.FactsSeq
import PyProof.FactsAll.list_0
import PyProof.FactsAll.str_0
import PyProof.FactsAll.dict_0
import PyProof.Rows.Method
import PyProof.Rows.StrJoin2
import PyProof.Rows.ExtendIn
import PyProof.Rows.ConstEval
import PyProof.IsiPairs
import PyProof.IsiHeapPairs
import PyProof.IsiNone
import PyProof.ListCopy
import PyProof.TupleOps
import PyProof.SetRoads
import PyProof.DictTruth
import KE.LcSums
import PyProof.ForAny
import PyProof.ZipIter
import PyProof.WalksPairs
import PyProof.TupleIter
import PyProof.Rows.SetFrom
import OpenK.Peek
import PyProof.Ends
import PyProof.RulesAs
import OpenK.KGet
import OpenK.KDescr
import OpenK.KNot
import PyProof.ExcAttrAll.ValueError
import PyProof.ExcArgsOwn
import OpenK.KOwn
import KE.KTryMore
import PySem.Builtin.EvalProto
import PyProof.TupleOfSeq
import PyProof.ExcClass2
import PyProof.Rows.SortRunsK
import PyProof.Rows.SortPure
import KE.KSortTup
import PyProof.EqAt
import PyProof.Rows.SortStr
import PyProof.Rows.SortKeyStr
import PyProof.Rows.SortShellK
import PyProof.FactsAll.list_2
import PyProof.P3Eq
import PyProof.SetKind
import PyProof.DictWalks
import PyProof.TableTree
import KE.KDictSum
import PyProof.FactsAll.set_1
import PyProof.FactsAll.set_2
import PyProof.StrLawsChain
import PyProof.AssignAttr
import PyProof.DictRoads
import PyProof.MeetsDictList
import PyProof.FactsAll.dict_3
import PyProof.Rows.MatchSeqLen
import PyProof.FactsCmp
import PyProof.DictStraight
import PyProof.Rows.MinMaxN
import PyProof.MeetsStr2
import PyProof.MeetsStr
import PyProof.FString5
import PyProof.ListStr
import PyProof.ListMulRoad
import PyProof.AutoListH
import PyProof.Rows.StrItems
import Wide.All
import OpenK.AllK
import Wide.FinOn
import PySem.Challenge.RW_uf050031_11
set_option Elab.async false
set_option autoImplicit false
set_option linter.unusedVariables false
section
set_option maxRecDepth 100000
set_option maxHeartbeats 0
namespace Mine
open PySem PySem.Calls PyProof.Rows PySem.W
noncomputable def vS (s : String) (t : Nat) : Value := .str (Str.ofString s) t
noncomputable def vI (n : Nat) (t : Nat) : Value := .int (Int.ofNat n) t
noncomputable def en (P : Params) (k : String) (t : Nat) (v : Value) : DictEntry := ⟨PyData.keyHash P (Str.ofString k), .str (Str.ofString k) t, v⟩
noncomputable def oTup (l : List Value) : Obj := ⟨.type "tuple", none, .seq ⟨l⟩ 0, #[]⟩
noncomputable def oFld (c : Value) (l : List Value) : Obj := ⟨c, none, .fields ⟨l⟩, #[]⟩
noncomputable def oDict (l : List DictEntry) (n : Nat) : Obj := ⟨.type "dict", none, .dict ⟨l⟩ n, #[]⟩
noncomputable def oCode (a : String) (t1 : Nat) (b : String) (t2 t3 l na fl : Nat) (v8 : Value) (b9 : Bool) (i10 : Nat) (v11 v13 v14 v15 : Value) (i16 t4 : Nat) : Obj :=
  oFld (.type "code") [vS a t1, vS b t2, vS "/claim/cut.py" t3, vI l 0, vI na 0, vI 0 0, vI 0 0, vI fl 0, v8, .bool b9, vI i10 0, v11, .none, v13, v14, v15, vI i16 0, vI l 0, vS "/claim/cut.py" t4]
noncomputable def bodyS : Stmt → List Stmt
  | .FunctionDef _ _ b _ _ _ _ _ _ _ => b
  | .ClassDef _ _ _ b _ _ _ _ _ _ _ => b
  | _ => []
noncomputable def stIn (l : List Stmt) : List Nat → Stmt
  | [] => .Pass ⟨0, 0, 0, 0⟩
  | [i] => l.getD i (.Pass ⟨0, 0, 0, 0⟩)
  | i :: r => stIn (bodyS (l.getD i (.Pass ⟨0, 0, 0, 0⟩))) r
noncomputable def stAt (p : Program) (path : List Nat) : Stmt := stIn p.main.body path
noncomputable def oFn (c : Value) (st : Stmt) (q : String) (g : Nat) (m cd : Value) : Obj := ⟨c, none, match st with
  | .FunctionDef name args body _ _ _ scope _ _ _ => .func { name := name, qualname := Str.ofString q, params := args, body := .stmts body, scope := scope, globals := g, closure := [], defaults := .none, kwdefaults := .none, pyModule := m, code := cd }
  | _ => .plain, #[]⟩
noncomputable abbrev prg : Program := PySem.Challenge.pw_uf050031_11
noncomputable def o0 : Obj := oTup []
noncomputable def o1 : Obj := oFld .none []
noncomputable def o2 : Obj := oCode "<module>" 182 "<module>" 183 184 1 0 0 (.ref 11) false 181 (.ref 12) .none .none .none 185 186
noncomputable def o3 : Obj := ⟨(.type "frame"), none, .plain, ⟨[(some (.ref 13)), (some (.ref 3)), (some (.ref 3)), none, (some (vS "__main__" 164)), none, (some (.ref 0))]⟩⟩
noncomputable def o4 (P : Params) : Obj := oDict [en P "__name__" 165 (vS "law_uf050031_11" 583), en P "__doc__" 166 .none, en P "__package__" 167 .none, en P "__loader__" 168 (.builtin "__main__.__loader__#opaque"), en P "__spec__" 169 .none, en P "__annotations__" 170 (.ref 6), en P "__builtins__" 171 (.ref 4), en P "__file__" 173 (vS "/claim/cut.py" 172), en P "__cached__" 174 .none, en P "_wall" 193 (.ref 21), en P "MeetError" 213 (.ref 31), en P "BadName" 229 (.ref 44), en P "BadRow" 245 (.ref 56), en P "NoRow" 261 (.ref 68), en P "TooMany" 277 (.ref 80), en P "NoMeet" 293 (.ref 92), en P "Unread" 309 (.ref 104), en P "LETTERS" 313 (vS "abcdefghijklmnopqrstuvwxyz" 312), en P "MOST_LETTERS" 315 (vI 8 314), en P "is_name" 321 (.ref 111), en P "rising" 329 (.ref 118), en P "within" 335 (.ref 123), en P "meets" 341 (.ref 128), en P "ranked" 347 (.ref 133), en P "least_of" 353 (.ref 138), en P "grown" 361 (.ref 143), en P "MOST_ROWS" 365 (vI 30 364), en P "MOST_NAMES" 367 (vI 12 366), en P "need_set" 374 (.ref 150), en P "Book" 543 (.ref 289), en P "line_of" 552 (.ref 300), en P "text_of" 558 (.ref 305), en P "row_of" 565 (.ref 312), en P "put_line" 573 (.ref 319), en P "read" 582 (.ref 326), en P "_law_draw" 592 (.ref 333), en P "_law_names" 598 (.ref 338), en P "_law_row" 609 (.ref 345), en P "_law_book" 618 (.ref 352), en P "_law_text" 624 (.ref 357), en P "_law_is_name" 630 (.ref 362), en P "_law_rows" 636 (.ref 367), en P "_law_refused" 644 (.ref 374), en P "_law_spoilt" 657 (.ref 381), en P "_law_right" 663 (.ref 386), en P "_law_great" 673 (.ref 393), en P "law" 679 (.ref 398)] 47
noncomputable def o5 : Obj := oFld .none [(vI 1 0), (vI 0 0), (.ref 20), (vI 5 0), (vI 0 0), (.ref 27), (vI 7 0), (vI 0 0), (.ref 40), (vI 9 0), (vI 0 0), (.ref 52), (vI 11 0), (vI 0 0), (.ref 64), (vI 13 0), (vI 0 0), (.ref 76), (vI 15 0), (vI 0 0), (.ref 88), (vI 17 0), (vI 0 0), (.ref 100), (vI 22 0), (vI 0 0), (.ref 110), (vI 26 0), (vI 0 0), (.ref 117), (vI 31 0), (vI 0 0), (.ref 122), (vI 33 0), (vI 0 0), (.ref 127), (vI 35 0), (vI 0 0), (.ref 132), (vI 41 0), (vI 0 0), (.ref 137), (vI 48 0), (vI 0 0), (.ref 142), (vI 59 0), (vI 0 0), (.ref 149), (vI 63 0), (vI 0 0), (.ref 156), (vI 141 0), (vI 0 0), (.ref 299), (vI 145 0), (vI 0 0), (.ref 304), (vI 147 0), (vI 0 0), (.ref 311), (vI 151 0), (vI 0 0), (.ref 318), (vI 156 0), (vI 0 0), (.ref 325), (vI 167 0), (vI 0 0), (.ref 332), (vI 169 0), (vI 0 0), (.ref 337), (vI 182 0), (vI 0 0), (.ref 344), (vI 192 0), (vI 0 0), (.ref 351), (vI 197 0), (vI 0 0), (.ref 356), (vI 199 0), (vI 0 0), (.ref 361), (vI 203 0), (vI 0 0), (.ref 366), (vI 217 0), (vI 0 0), (.ref 373), (vI 225 0), (vI 0 0), (.ref 380), (vI 237 0), (vI 0 0), (.ref 385), (vI 243 0), (vI 0 0), (.ref 392), (vI 251 0), (vI 0 0), (.ref 397)]
noncomputable def o6 : Obj := oTup [(vS "k" 190)]
noncomputable def o7 : Obj := oFn .none (stAt prg [0]) "_wall" 0 .none .none
noncomputable def o8 : Obj := oCode "_wall" 187 "_wall" 188 189 1 1 3 (.ref 15) true 181 (.ref 16) (.ref 17) (.ref 18) (.ref 19) 191 192
noncomputable def o9 : Obj := oFn (.type "function") (stAt prg [0]) "_wall" 3 (vS "__main__" 164) (.ref 20)
noncomputable def o10 : Obj := oTup [(.type "ValueError")]
noncomputable def o11 : Obj := oFld (.type "builtin_function_or_method") [(.builtin "type.__prepare__"), (.type "type")]
noncomputable def o12 (P : Params) : Obj := oDict [en P "__module__" 203 (vS "meetrows.errors" 194), en P "__qualname__" 205 (vS "MeetError" 204), en P "__firstlineno__" 207 (vI 5 206), en P "__static_attributes__" 208 (.ref 29)] 4
noncomputable def o13 : Obj := oCode "MeetError" 198 "MeetError" 199 200 5 0 0 (.ref 25) false 181 (.ref 26) .none .none .none 201 202
noncomputable def o14 : Obj := ⟨(.type "frame"), none, .plain, ⟨[(some (.ref 27)), (some (.ref 3)), (some (.ref 24)), none, (some (vS "meetrows.errors" 194)), none, (some (.ref 0))]⟩⟩
noncomputable def o15 (P : Params) : Obj := oDict [en P "__module__" 203 (vS "meetrows.errors" 194), en P "__firstlineno__" 207 (vI 5 206), en P "__static_attributes__" 208 (.ref 29), en P "__weakref__" 210 (.ref 32), en P "__doc__" 211 .none] 3
noncomputable def o16 : Obj := ⟨(.type "type"), none, .cls { name := Str.ofString "MeetError", bases := [(.type "ValueError")], mro := [(.ref 31), (.type "ValueError"), (.type "Exception"), (.type "BaseException"), (.type "object")], ns := 30, qualname := Str.ofString "MeetError", hasDict := true, subclasses := [(.ref 44), (.ref 56), (.ref 68), (.ref 80), (.ref 92), (.ref 104)] }, ⟨[(some (.ref 22)), none, (some (vS "MeetError" 196)), (some (vS "MeetError" 204)), (some (.builtin "ValueError.__new__")), (some (.bool true))]⟩⟩
noncomputable def o17 : Obj := oFld (.type "getset_descriptor") [(vS "__weakref__" 209), (.ref 31), (.builtin "ExceptionGroup.__weakref__"), .none]
noncomputable def o18 : Obj := oFld (.type "super") [(.ref 31), (.ref 31), (.ref 31)]
noncomputable def o19 : Obj := oFld (.type "builtin_function_or_method") [(.builtin "object.__init_subclass__"), (.ref 31)]
noncomputable def o20 : Obj := oTup [(.ref 31)]
noncomputable def o21 (P : Params) : Obj := oDict [en P "__module__" 221 (vS "meetrows.errors" 194), en P "__qualname__" 223 (vS "BadName" 222), en P "__firstlineno__" 225 (vI 7 224), en P "__static_attributes__" 226 (.ref 42)] 4
noncomputable def o22 : Obj := oCode "BadName" 216 "BadName" 217 218 7 0 0 (.ref 38) false 181 (.ref 39) .none .none .none 219 220
noncomputable def o23 : Obj := ⟨(.type "frame"), none, .plain, ⟨[(some (.ref 40)), (some (.ref 3)), (some (.ref 37)), none, (some (vS "meetrows.errors" 194)), none, (some (.ref 0))]⟩⟩
noncomputable def o24 (P : Params) : Obj := oDict [en P "__module__" 221 (vS "meetrows.errors" 194), en P "__firstlineno__" 225 (vI 7 224), en P "__static_attributes__" 226 (.ref 42), en P "__doc__" 227 .none] 2
noncomputable def o25 : Obj := ⟨(.type "type"), none, .cls { name := Str.ofString "BadName", bases := [(.ref 31)], mro := [(.ref 44), (.ref 31), (.type "ValueError"), (.type "Exception"), (.type "BaseException"), (.type "object")], ns := 43, qualname := Str.ofString "BadName", hasDict := true, subclasses := [] }, ⟨[(some (.ref 35)), none, (some (vS "BadName" 214)), (some (vS "BadName" 222)), (some (.builtin "ValueError.__new__")), (some (.bool true))]⟩⟩
noncomputable def o26 : Obj := oFld (.type "super") [(.ref 44), (.ref 44), (.ref 44)]
noncomputable def o27 : Obj := oFld (.type "builtin_function_or_method") [(.builtin "object.__init_subclass__"), (.ref 44)]
noncomputable def o28 (P : Params) : Obj := oDict [en P "__module__" 237 (vS "meetrows.errors" 194), en P "__qualname__" 239 (vS "BadRow" 238), en P "__firstlineno__" 241 (vI 9 240), en P "__static_attributes__" 242 (.ref 54)] 4
noncomputable def o29 : Obj := oCode "BadRow" 232 "BadRow" 233 234 9 0 0 (.ref 50) false 181 (.ref 51) .none .none .none 235 236
noncomputable def o30 : Obj := ⟨(.type "frame"), none, .plain, ⟨[(some (.ref 52)), (some (.ref 3)), (some (.ref 49)), none, (some (vS "meetrows.errors" 194)), none, (some (.ref 0))]⟩⟩
noncomputable def o31 (P : Params) : Obj := oDict [en P "__module__" 237 (vS "meetrows.errors" 194), en P "__firstlineno__" 241 (vI 9 240), en P "__static_attributes__" 242 (.ref 54), en P "__doc__" 243 .none] 2
noncomputable def o32 : Obj := ⟨(.type "type"), none, .cls { name := Str.ofString "BadRow", bases := [(.ref 31)], mro := [(.ref 56), (.ref 31), (.type "ValueError"), (.type "Exception"), (.type "BaseException"), (.type "object")], ns := 55, qualname := Str.ofString "BadRow", hasDict := true, subclasses := [] }, ⟨[(some (.ref 47)), none, (some (vS "BadRow" 230)), (some (vS "BadRow" 238)), (some (.builtin "ValueError.__new__")), (some (.bool true))]⟩⟩
noncomputable def o33 : Obj := oFld (.type "super") [(.ref 56), (.ref 56), (.ref 56)]
noncomputable def o34 : Obj := oFld (.type "builtin_function_or_method") [(.builtin "object.__init_subclass__"), (.ref 56)]
noncomputable def o35 (P : Params) : Obj := oDict [en P "__module__" 253 (vS "meetrows.errors" 194), en P "__qualname__" 255 (vS "NoRow" 254), en P "__firstlineno__" 257 (vI 11 256), en P "__static_attributes__" 258 (.ref 66)] 4
noncomputable def o36 : Obj := oCode "NoRow" 248 "NoRow" 249 250 11 0 0 (.ref 62) false 181 (.ref 63) .none .none .none 251 252
noncomputable def o37 : Obj := ⟨(.type "frame"), none, .plain, ⟨[(some (.ref 64)), (some (.ref 3)), (some (.ref 61)), none, (some (vS "meetrows.errors" 194)), none, (some (.ref 0))]⟩⟩
noncomputable def o38 (P : Params) : Obj := oDict [en P "__module__" 253 (vS "meetrows.errors" 194), en P "__firstlineno__" 257 (vI 11 256), en P "__static_attributes__" 258 (.ref 66), en P "__doc__" 259 .none] 2
noncomputable def o39 : Obj := ⟨(.type "type"), none, .cls { name := Str.ofString "NoRow", bases := [(.ref 31)], mro := [(.ref 68), (.ref 31), (.type "ValueError"), (.type "Exception"), (.type "BaseException"), (.type "object")], ns := 67, qualname := Str.ofString "NoRow", hasDict := true, subclasses := [] }, ⟨[(some (.ref 59)), none, (some (vS "NoRow" 246)), (some (vS "NoRow" 254)), (some (.builtin "ValueError.__new__")), (some (.bool true))]⟩⟩
noncomputable def o40 : Obj := oFld (.type "super") [(.ref 68), (.ref 68), (.ref 68)]
noncomputable def o41 : Obj := oFld (.type "builtin_function_or_method") [(.builtin "object.__init_subclass__"), (.ref 68)]
noncomputable def o42 (P : Params) : Obj := oDict [en P "__module__" 269 (vS "meetrows.errors" 194), en P "__qualname__" 271 (vS "TooMany" 270), en P "__firstlineno__" 273 (vI 13 272), en P "__static_attributes__" 274 (.ref 78)] 4
noncomputable def o43 : Obj := oCode "TooMany" 264 "TooMany" 265 266 13 0 0 (.ref 74) false 181 (.ref 75) .none .none .none 267 268
noncomputable def o44 : Obj := ⟨(.type "frame"), none, .plain, ⟨[(some (.ref 76)), (some (.ref 3)), (some (.ref 73)), none, (some (vS "meetrows.errors" 194)), none, (some (.ref 0))]⟩⟩
noncomputable def o45 (P : Params) : Obj := oDict [en P "__module__" 269 (vS "meetrows.errors" 194), en P "__firstlineno__" 273 (vI 13 272), en P "__static_attributes__" 274 (.ref 78), en P "__doc__" 275 .none] 2
noncomputable def o46 : Obj := ⟨(.type "type"), none, .cls { name := Str.ofString "TooMany", bases := [(.ref 31)], mro := [(.ref 80), (.ref 31), (.type "ValueError"), (.type "Exception"), (.type "BaseException"), (.type "object")], ns := 79, qualname := Str.ofString "TooMany", hasDict := true, subclasses := [] }, ⟨[(some (.ref 71)), none, (some (vS "TooMany" 262)), (some (vS "TooMany" 270)), (some (.builtin "ValueError.__new__")), (some (.bool true))]⟩⟩
noncomputable def o47 : Obj := oFld (.type "super") [(.ref 80), (.ref 80), (.ref 80)]
noncomputable def o48 : Obj := oFld (.type "builtin_function_or_method") [(.builtin "object.__init_subclass__"), (.ref 80)]
noncomputable def o49 (P : Params) : Obj := oDict [en P "__module__" 285 (vS "meetrows.errors" 194), en P "__qualname__" 287 (vS "NoMeet" 286), en P "__firstlineno__" 289 (vI 15 288), en P "__static_attributes__" 290 (.ref 90)] 4
noncomputable def o50 : Obj := oCode "NoMeet" 280 "NoMeet" 281 282 15 0 0 (.ref 86) false 181 (.ref 87) .none .none .none 283 284
noncomputable def o51 : Obj := ⟨(.type "frame"), none, .plain, ⟨[(some (.ref 88)), (some (.ref 3)), (some (.ref 85)), none, (some (vS "meetrows.errors" 194)), none, (some (.ref 0))]⟩⟩
noncomputable def o52 (P : Params) : Obj := oDict [en P "__module__" 285 (vS "meetrows.errors" 194), en P "__firstlineno__" 289 (vI 15 288), en P "__static_attributes__" 290 (.ref 90), en P "__doc__" 291 .none] 2
noncomputable def o53 : Obj := ⟨(.type "type"), none, .cls { name := Str.ofString "NoMeet", bases := [(.ref 31)], mro := [(.ref 92), (.ref 31), (.type "ValueError"), (.type "Exception"), (.type "BaseException"), (.type "object")], ns := 91, qualname := Str.ofString "NoMeet", hasDict := true, subclasses := [] }, ⟨[(some (.ref 83)), none, (some (vS "NoMeet" 278)), (some (vS "NoMeet" 286)), (some (.builtin "ValueError.__new__")), (some (.bool true))]⟩⟩
noncomputable def o54 : Obj := oFld (.type "super") [(.ref 92), (.ref 92), (.ref 92)]
noncomputable def o55 : Obj := oFld (.type "builtin_function_or_method") [(.builtin "object.__init_subclass__"), (.ref 92)]
noncomputable def o56 (P : Params) : Obj := oDict [en P "__module__" 301 (vS "meetrows.errors" 194), en P "__qualname__" 303 (vS "Unread" 302), en P "__firstlineno__" 305 (vI 17 304), en P "__static_attributes__" 306 (.ref 102)] 4
noncomputable def o57 : Obj := oCode "Unread" 296 "Unread" 297 298 17 0 0 (.ref 98) false 181 (.ref 99) .none .none .none 299 300
noncomputable def o58 : Obj := ⟨(.type "frame"), none, .plain, ⟨[(some (.ref 100)), (some (.ref 3)), (some (.ref 97)), none, (some (vS "meetrows.errors" 194)), none, (some (.ref 0))]⟩⟩
noncomputable def o59 (P : Params) : Obj := oDict [en P "__module__" 301 (vS "meetrows.errors" 194), en P "__firstlineno__" 305 (vI 17 304), en P "__static_attributes__" 306 (.ref 102), en P "__doc__" 307 .none] 2
noncomputable def o60 : Obj := ⟨(.type "type"), none, .cls { name := Str.ofString "Unread", bases := [(.ref 31)], mro := [(.ref 104), (.ref 31), (.type "ValueError"), (.type "Exception"), (.type "BaseException"), (.type "object")], ns := 103, qualname := Str.ofString "Unread", hasDict := true, subclasses := [] }, ⟨[(some (.ref 95)), none, (some (vS "Unread" 294)), (some (vS "Unread" 302)), (some (.builtin "ValueError.__new__")), (some (.bool true))]⟩⟩
noncomputable def o61 : Obj := oFld (.type "super") [(.ref 104), (.ref 104), (.ref 104)]
noncomputable def o62 : Obj := oFld (.type "builtin_function_or_method") [(.builtin "object.__init_subclass__"), (.ref 104)]
noncomputable def o63 : Obj := oFn .none (stAt prg [12]) "is_name" 0 .none .none
noncomputable def o64 : Obj := oCode "is_name" 316 "is_name" 317 318 22 1 3 (.ref 107) true 181 (.ref 108) .none .none (.ref 109) 319 320
noncomputable def o65 : Obj := oFn (.type "function") (stAt prg [12]) "is_name" 3 (vS "meetrows.sets" 310) (.ref 110)
noncomputable def o66 : Obj := oTup [(vS "names" 325), (vS "name" 326)]
noncomputable def o67 : Obj := oFn .none (stAt prg [13]) "rising" 0 .none .none
noncomputable def o68 : Obj := oCode "rising" 322 "rising" 323 324 26 1 3 (.ref 112) true 181 (.ref 113) (.ref 114) (.ref 115) (.ref 116) 327 328
noncomputable def o69 : Obj := oFn (.type "function") (stAt prg [13]) "rising" 3 (vS "meetrows.sets" 310) (.ref 117)
noncomputable def o70 : Obj := oFn .none (stAt prg [14]) "within" 0 .none .none
noncomputable def o71 : Obj := oCode "within" 330 "within" 331 332 31 2 3 (.ref 119) true 181 (.ref 120) .none .none (.ref 121) 333 334
noncomputable def o72 : Obj := oFn (.type "function") (stAt prg [14]) "within" 3 (vS "meetrows.sets" 310) (.ref 122)
noncomputable def o73 : Obj := oFn .none (stAt prg [15]) "meets" 0 .none .none
noncomputable def o74 : Obj := oCode "meets" 336 "meets" 337 338 33 2 3 (.ref 124) true 181 (.ref 125) .none .none (.ref 126) 339 340
noncomputable def o75 : Obj := oFn (.type "function") (stAt prg [15]) "meets" 3 (vS "meetrows.sets" 310) (.ref 127)
noncomputable def o76 : Obj := oFn .none (stAt prg [16]) "ranked" 0 .none .none
noncomputable def o77 : Obj := oCode "ranked" 342 "ranked" 343 344 35 1 3 (.ref 129) true 181 (.ref 130) .none .none (.ref 131) 345 346
noncomputable def o78 : Obj := oFn (.type "function") (stAt prg [16]) "ranked" 3 (vS "meetrows.sets" 310) (.ref 132)
noncomputable def o79 : Obj := oFn .none (stAt prg [17]) "least_of" 0 .none .none
noncomputable def o80 : Obj := oCode "least_of" 348 "least_of" 349 350 41 1 3 (.ref 134) true 181 (.ref 135) .none .none (.ref 136) 351 352
noncomputable def o81 : Obj := oFn (.type "function") (stAt prg [17]) "least_of" 3 (vS "meetrows.sets" 310) (.ref 137)
noncomputable def o82 : Obj := oFn .none (stAt prg [19]) "grown" 0 .none .none
noncomputable def o83 : Obj := oCode "grown" 356 "grown" 357 358 48 2 3 (.ref 139) true 181 (.ref 140) .none .none (.ref 141) 359 360
noncomputable def o84 : Obj := oFn (.type "function") (stAt prg [19]) "grown" 3 (vS "meetrows.growing" 354) (.ref 142)
noncomputable def o85 : Obj := oTup [(vS "thing" 371)]
noncomputable def o86 : Obj := oFn .none (stAt prg [23]) "need_set" 0 .none .none
noncomputable def o87 : Obj := oCode "need_set" 368 "need_set" 369 370 59 1 3 (.ref 144) true 181 (.ref 145) (.ref 146) (.ref 147) (.ref 148) 372 373
noncomputable def o88 : Obj := oFn (.type "function") (stAt prg [23]) "need_set" 3 (vS "meetrows.books" 362) (.ref 149)
noncomputable def o89 (P : Params) : Obj := oDict [en P "__module__" 382 (vS "meetrows.books" 362), en P "__qualname__" 384 (vS "Book" 383), en P "__firstlineno__" 386 (vI 63 385), en P "__init__" 393 (.ref 164), en P "put" 403 (.ref 171), en P "take" 411 (.ref 178), en P "rows" 417 (.ref 183), en P "all_sets" 423 (.ref 188), en P "names" 432 (.ref 195), en P "least" 441 (.ref 202), en P "fewest" 448 (.ref 209), en P "is_met" 456 (.ref 216), en P "meets" 464 (.ref 223), en P "pared" 472 (.ref 230), en P "own" 480 (.ref 237), en P "least_rows" 487 (.ref 244), en P "needed" 494 (.ref 251), en P "idle" 501 (.ref 258), en P "struck" 509 (.ref 265), en P "without" 517 (.ref 272), en P "joined" 525 (.ref 279), en P "crossed" 533 (.ref 286), en P "__static_attributes__" 536 (.ref 287)] 23
noncomputable def o90 : Obj := oFld .none [(vI 65 0), (vI 4 0), (.ref 163), (vI 69 0), (vI 4 0), (.ref 170), (vI 82 0), (vI 4 0), (.ref 177), (vI 87 0), (vI 4 0), (.ref 182), (vI 90 0), (vI 4 0), (.ref 187), (vI 93 0), (vI 4 0), (.ref 194), (vI 99 0), (vI 4 0), (.ref 201), (vI 105 0), (vI 4 0), (.ref 208), (vI 108 0), (vI 4 0), (.ref 215), (vI 111 0), (vI 4 0), (.ref 222), (vI 114 0), (vI 4 0), (.ref 229), (vI 117 0), (vI 4 0), (.ref 236), (vI 120 0), (vI 4 0), (.ref 243), (vI 123 0), (vI 4 0), (.ref 250), (vI 126 0), (vI 4 0), (.ref 257), (vI 129 0), (vI 4 0), (.ref 264), (vI 132 0), (vI 4 0), (.ref 271), (vI 135 0), (vI 4 0), (.ref 278), (vI 138 0), (vI 4 0), (.ref 285)]
noncomputable def o91 : Obj := oCode "Book" 377 "Book" 378 379 63 0 0 (.ref 154) false 181 (.ref 155) .none .none .none 380 381
noncomputable def o92 : Obj := ⟨(.type "frame"), none, .plain, ⟨[(some (.ref 156)), (some (.ref 3)), (some (.ref 153)), none, (some (vS "meetrows.books" 362)), none, (some (.ref 0))]⟩⟩
noncomputable def o93 : Obj := oTup [(vS "self" 390)]
noncomputable def o94 : Obj := oFn .none (stAt prg [24, 0]) "Book.__init__" 0 .none .none
noncomputable def o95 : Obj := oCode "__init__" 387 "Book.__init__" 388 389 65 1 3 (.ref 158) true 181 (.ref 159) (.ref 160) (.ref 161) (.ref 162) 391 392
noncomputable def o96 : Obj := oFn (.type "function") (stAt prg [24, 0]) "Book.__init__" 3 (vS "meetrows.books" 362) (.ref 163)
noncomputable def o97 : Obj := oTup [(vS "self" 397), (vS "row" 398), (vS "found" 399), (vS "number" 400)]
noncomputable def o98 : Obj := oFn .none (stAt prg [24, 1]) "Book.put" 0 .none .none
noncomputable def o99 : Obj := oCode "put" 394 "Book.put" 395 396 69 2 3 (.ref 165) true 181 (.ref 166) (.ref 167) (.ref 168) (.ref 169) 401 402
noncomputable def o100 : Obj := oFn (.type "function") (stAt prg [24, 1]) "Book.put" 3 (vS "meetrows.books" 362) (.ref 170)
noncomputable def o101 : Obj := oTup [(vS "self" 407), (vS "number" 408)]
noncomputable def o102 : Obj := oFn .none (stAt prg [24, 2]) "Book.take" 0 .none .none
noncomputable def o103 : Obj := oCode "take" 404 "Book.take" 405 406 82 2 3 (.ref 172) true 181 (.ref 173) (.ref 174) (.ref 175) (.ref 176) 409 410
noncomputable def o104 : Obj := oFn (.type "function") (stAt prg [24, 2]) "Book.take" 3 (vS "meetrows.books" 362) (.ref 177)
noncomputable def o105 : Obj := oFn .none (stAt prg [24, 3]) "Book.rows" 0 .none .none
noncomputable def o106 : Obj := oCode "rows" 412 "Book.rows" 413 414 87 1 3 (.ref 179) true 181 (.ref 180) .none .none (.ref 181) 415 416
noncomputable def o107 : Obj := oFn (.type "function") (stAt prg [24, 3]) "Book.rows" 3 (vS "meetrows.books" 362) (.ref 182)
noncomputable def o108 : Obj := oFn .none (stAt prg [24, 4]) "Book.all_sets" 0 .none .none
noncomputable def o109 : Obj := oCode "all_sets" 418 "Book.all_sets" 419 420 90 1 3 (.ref 184) true 181 (.ref 185) .none .none (.ref 186) 421 422
noncomputable def o110 : Obj := oFn (.type "function") (stAt prg [24, 4]) "Book.all_sets" 3 (vS "meetrows.books" 362) (.ref 187)
noncomputable def o111 : Obj := oTup [(vS "self" 427), (vS "found" 428), (vS "row" 429)]
noncomputable def o112 : Obj := oFn .none (stAt prg [24, 5]) "Book.names" 0 .none .none
noncomputable def o113 : Obj := oCode "names" 424 "Book.names" 425 426 93 1 3 (.ref 189) true 181 (.ref 190) (.ref 191) (.ref 192) (.ref 193) 430 431
noncomputable def o114 : Obj := oFn (.type "function") (stAt prg [24, 5]) "Book.names" 3 (vS "meetrows.books" 362) (.ref 194)
noncomputable def o115 : Obj := oTup [(vS "self" 436), (vS "found" 437), (vS "row" 438)]
noncomputable def o116 : Obj := oFn .none (stAt prg [24, 6]) "Book.least" 0 .none .none
noncomputable def o117 : Obj := oCode "least" 433 "Book.least" 434 435 99 1 3 (.ref 196) true 181 (.ref 197) (.ref 198) (.ref 199) (.ref 200) 439 440
noncomputable def o118 : Obj := oFn (.type "function") (stAt prg [24, 6]) "Book.least" 3 (vS "meetrows.books" 362) (.ref 201)
noncomputable def o119 : Obj := oTup [(vS "self" 445)]
noncomputable def o120 : Obj := oFn .none (stAt prg [24, 7]) "Book.fewest" 0 .none .none
noncomputable def o121 : Obj := oCode "fewest" 442 "Book.fewest" 443 444 105 1 3 (.ref 203) true 181 (.ref 204) (.ref 205) (.ref 206) (.ref 207) 446 447
noncomputable def o122 : Obj := oFn (.type "function") (stAt prg [24, 7]) "Book.fewest" 3 (vS "meetrows.books" 362) (.ref 208)
noncomputable def o123 : Obj := oTup [(vS "self" 452), (vS "names" 453)]
noncomputable def o124 : Obj := oFn .none (stAt prg [24, 8]) "Book.is_met" 0 .none .none
noncomputable def o125 : Obj := oCode "is_met" 449 "Book.is_met" 450 451 108 2 3 (.ref 210) true 181 (.ref 211) (.ref 212) (.ref 213) (.ref 214) 454 455
noncomputable def o126 : Obj := oFn (.type "function") (stAt prg [24, 8]) "Book.is_met" 3 (vS "meetrows.books" 362) (.ref 215)
noncomputable def o127 : Obj := oTup [(vS "self" 460), (vS "names" 461)]
noncomputable def o128 : Obj := oFn .none (stAt prg [24, 9]) "Book.meets" 0 .none .none
noncomputable def o129 : Obj := oCode "meets" 457 "Book.meets" 458 459 111 2 3 (.ref 217) true 181 (.ref 218) (.ref 219) (.ref 220) (.ref 221) 462 463
noncomputable def o130 : Obj := oFn (.type "function") (stAt prg [24, 9]) "Book.meets" 3 (vS "meetrows.books" 362) (.ref 222)
noncomputable def o131 : Obj := oTup [(vS "self" 468), (vS "names" 469)]
noncomputable def o132 : Obj := oFn .none (stAt prg [24, 10]) "Book.pared" 0 .none .none
noncomputable def o133 : Obj := oCode "pared" 465 "Book.pared" 466 467 114 2 3 (.ref 224) true 181 (.ref 225) (.ref 226) (.ref 227) (.ref 228) 470 471
noncomputable def o134 : Obj := oFn (.type "function") (stAt prg [24, 10]) "Book.pared" 3 (vS "meetrows.books" 362) (.ref 229)
noncomputable def o135 : Obj := oTup [(vS "self" 476), (vS "names" 477)]
noncomputable def o136 : Obj := oFn .none (stAt prg [24, 11]) "Book.own" 0 .none .none
noncomputable def o137 : Obj := oCode "own" 473 "Book.own" 474 475 117 2 3 (.ref 231) true 181 (.ref 232) (.ref 233) (.ref 234) (.ref 235) 478 479
noncomputable def o138 : Obj := oFn (.type "function") (stAt prg [24, 11]) "Book.own" 3 (vS "meetrows.books" 362) (.ref 236)
noncomputable def o139 : Obj := oTup [(vS "self" 484)]
noncomputable def o140 : Obj := oFn .none (stAt prg [24, 12]) "Book.least_rows" 0 .none .none
noncomputable def o141 : Obj := oCode "least_rows" 481 "Book.least_rows" 482 483 120 1 3 (.ref 238) true 181 (.ref 239) (.ref 240) (.ref 241) (.ref 242) 485 486
noncomputable def o142 : Obj := oFn (.type "function") (stAt prg [24, 12]) "Book.least_rows" 3 (vS "meetrows.books" 362) (.ref 243)
noncomputable def o143 : Obj := oTup [(vS "self" 491)]
noncomputable def o144 : Obj := oFn .none (stAt prg [24, 13]) "Book.needed" 0 .none .none
noncomputable def o145 : Obj := oCode "needed" 488 "Book.needed" 489 490 123 1 3 (.ref 245) true 181 (.ref 246) (.ref 247) (.ref 248) (.ref 249) 492 493
noncomputable def o146 : Obj := oFn (.type "function") (stAt prg [24, 13]) "Book.needed" 3 (vS "meetrows.books" 362) (.ref 250)
noncomputable def o147 : Obj := oTup [(vS "self" 498)]
noncomputable def o148 : Obj := oFn .none (stAt prg [24, 14]) "Book.idle" 0 .none .none
noncomputable def o149 : Obj := oCode "idle" 495 "Book.idle" 496 497 126 1 3 (.ref 252) true 181 (.ref 253) (.ref 254) (.ref 255) (.ref 256) 499 500
noncomputable def o150 : Obj := oFn (.type "function") (stAt prg [24, 14]) "Book.idle" 3 (vS "meetrows.books" 362) (.ref 257)
noncomputable def o151 : Obj := oTup [(vS "self" 505), (vS "name" 506)]
noncomputable def o152 : Obj := oFn .none (stAt prg [24, 15]) "Book.struck" 0 .none .none
noncomputable def o153 : Obj := oCode "struck" 502 "Book.struck" 503 504 129 2 3 (.ref 259) true 181 (.ref 260) (.ref 261) (.ref 262) (.ref 263) 507 508
noncomputable def o154 : Obj := oFn (.type "function") (stAt prg [24, 15]) "Book.struck" 3 (vS "meetrows.books" 362) (.ref 264)
noncomputable def o155 : Obj := oTup [(vS "self" 513), (vS "name" 514)]
noncomputable def o156 : Obj := oFn .none (stAt prg [24, 16]) "Book.without" 0 .none .none
noncomputable def o157 : Obj := oCode "without" 510 "Book.without" 511 512 132 2 3 (.ref 266) true 181 (.ref 267) (.ref 268) (.ref 269) (.ref 270) 515 516
noncomputable def o158 : Obj := oFn (.type "function") (stAt prg [24, 16]) "Book.without" 3 (vS "meetrows.books" 362) (.ref 271)
noncomputable def o159 : Obj := oTup [(vS "self" 521), (vS "other" 522)]
noncomputable def o160 : Obj := oFn .none (stAt prg [24, 17]) "Book.joined" 0 .none .none
noncomputable def o161 : Obj := oCode "joined" 518 "Book.joined" 519 520 135 2 3 (.ref 273) true 181 (.ref 274) (.ref 275) (.ref 276) (.ref 277) 523 524
noncomputable def o162 : Obj := oFn (.type "function") (stAt prg [24, 17]) "Book.joined" 3 (vS "meetrows.books" 362) (.ref 278)
noncomputable def o163 : Obj := oTup [(vS "self" 529), (vS "other" 530)]
noncomputable def o164 : Obj := oFn .none (stAt prg [24, 18]) "Book.crossed" 0 .none .none
noncomputable def o165 : Obj := oCode "crossed" 526 "Book.crossed" 527 528 138 2 3 (.ref 280) true 181 (.ref 281) (.ref 282) (.ref 283) (.ref 284) 531 532
noncomputable def o166 : Obj := oFn (.type "function") (stAt prg [24, 18]) "Book.crossed" 3 (vS "meetrows.books" 362) (.ref 285)
noncomputable def o167 : Obj := oTup [(vS "coming" 534), (vS "kept" 535)]
noncomputable def o168 (P : Params) : Obj := oDict [en P "__module__" 382 (vS "meetrows.books" 362), en P "__firstlineno__" 386 (vI 63 385), en P "__init__" 393 (.ref 164), en P "put" 403 (.ref 171), en P "take" 411 (.ref 178), en P "rows" 417 (.ref 183), en P "all_sets" 423 (.ref 188), en P "names" 432 (.ref 195), en P "least" 441 (.ref 202), en P "fewest" 448 (.ref 209), en P "is_met" 456 (.ref 216), en P "meets" 464 (.ref 223), en P "pared" 472 (.ref 230), en P "own" 480 (.ref 237), en P "least_rows" 487 (.ref 244), en P "needed" 494 (.ref 251), en P "idle" 501 (.ref 258), en P "struck" 509 (.ref 265), en P "without" 517 (.ref 272), en P "joined" 525 (.ref 279), en P "crossed" 533 (.ref 286), en P "__static_attributes__" 536 (.ref 287), en P "__dict__" 538 (.ref 290), en P "__weakref__" 540 (.ref 291), en P "__doc__" 541 .none] 4
noncomputable def o169 : Obj := ⟨(.type "type"), none, .cls { name := Str.ofString "Book", bases := [(.type "object")], mro := [(.ref 289), (.type "object")], ns := 288, qualname := Str.ofString "Book", hasDict := true, subclasses := [] }, ⟨[none, none, (some (vS "Book" 375)), (some (vS "Book" 383)), (some (.builtin "object.__new__")), (some (.bool true))]⟩⟩
noncomputable def o170 : Obj := oFld (.type "getset_descriptor") [(vS "__dict__" 537), (.ref 289), (.builtin "function.__dict__"), (.builtin "function.__dict__#set")]
noncomputable def o171 : Obj := oFld (.type "getset_descriptor") [(vS "__weakref__" 539), (.ref 289), (.builtin "ExceptionGroup.__weakref__"), .none]
noncomputable def o172 : Obj := oFld (.type "super") [(.ref 289), (.ref 289), (.ref 289)]
noncomputable def o173 : Obj := oFld (.type "builtin_function_or_method") [(.builtin "object.__init_subclass__"), (.ref 289)]
noncomputable def o174 : Obj := oTup [(vS "row" 549)]
noncomputable def o175 : Obj := oFn .none (stAt prg [26]) "line_of" 0 .none .none
noncomputable def o176 : Obj := oCode "line_of" 546 "line_of" 547 548 141 1 3 (.ref 294) true 181 (.ref 295) (.ref 296) (.ref 297) (.ref 298) 550 551
noncomputable def o177 : Obj := oFn (.type "function") (stAt prg [26]) "line_of" 3 (vS "meetrows.notes" 544) (.ref 299)
noncomputable def o178 : Obj := oFn .none (stAt prg [27]) "text_of" 0 .none .none
noncomputable def o179 : Obj := oCode "text_of" 553 "text_of" 554 555 145 1 3 (.ref 301) true 181 (.ref 302) .none .none (.ref 303) 556 557
noncomputable def o180 : Obj := oFn (.type "function") (stAt prg [27]) "text_of" 3 (vS "meetrows.notes" 544) (.ref 304)
noncomputable def o181 : Obj := oTup [(vS "line" 562)]
noncomputable def o182 : Obj := oFn .none (stAt prg [28]) "row_of" 0 .none .none
noncomputable def o183 : Obj := oCode "row_of" 559 "row_of" 560 561 147 1 3 (.ref 306) true 181 (.ref 307) (.ref 308) (.ref 309) (.ref 310) 563 564
noncomputable def o184 : Obj := oFn (.type "function") (stAt prg [28]) "row_of" 3 (vS "meetrows.notes" 544) (.ref 311)
noncomputable def o185 : Obj := oTup [(vS "book" 569), (vS "line" 570)]
noncomputable def o186 : Obj := oFn .none (stAt prg [29]) "put_line" 0 .none .none
noncomputable def o187 : Obj := oCode "put_line" 566 "put_line" 567 568 151 2 3 (.ref 313) true 181 (.ref 314) (.ref 315) (.ref 316) (.ref 317) 571 572
noncomputable def o188 : Obj := oFn (.type "function") (stAt prg [29]) "put_line" 3 (vS "meetrows.notes" 544) (.ref 318)
noncomputable def o189 : Obj := oTup [(vS "text" 577), (vS "book" 578), (vS "line" 579)]
noncomputable def o190 : Obj := oFn .none (stAt prg [30]) "read" 0 .none .none
noncomputable def o191 : Obj := oCode "read" 574 "read" 575 576 156 1 3 (.ref 320) true 181 (.ref 321) (.ref 322) (.ref 323) (.ref 324) 580 581
noncomputable def o192 : Obj := oFn (.type "function") (stAt prg [30]) "read" 3 (vS "meetrows.notes" 544) (.ref 325)
noncomputable def o193 : Obj := oTup [(vS "_law_script" 588), (vS "_law_k" 589)]
noncomputable def o194 : Obj := oFn .none (stAt prg [32]) "_law_draw" 0 .none .none
noncomputable def o195 : Obj := oCode "_law_draw" 585 "_law_draw" 586 587 167 2 3 (.ref 327) true 181 (.ref 328) (.ref 329) (.ref 330) (.ref 331) 590 591
noncomputable def o196 : Obj := oFn (.type "function") (stAt prg [32]) "_law_draw" 3 (vS "law_uf050031_11" 583) (.ref 332)
noncomputable def o197 : Obj := oFn .none (stAt prg [33]) "_law_names" 0 .none .none
noncomputable def o198 : Obj := oCode "_law_names" 593 "_law_names" 594 595 169 1 3 (.ref 334) true 181 (.ref 335) .none .none (.ref 336) 596 597
noncomputable def o199 : Obj := oFn (.type "function") (stAt prg [33]) "_law_names" 3 (vS "law_uf050031_11" 583) (.ref 337)
noncomputable def o200 : Obj := oTup [(vS "_law_names_here" 602), (vS "_law_cell" 603), (vS "_law_found" 604), (vS "_law_bits" 605), (vS "_law_name" 606)]
noncomputable def o201 : Obj := oFn .none (stAt prg [34]) "_law_row" 0 .none .none
noncomputable def o202 : Obj := oCode "_law_row" 599 "_law_row" 600 601 182 2 3 (.ref 339) true 181 (.ref 340) (.ref 341) (.ref 342) (.ref 343) 607 608
noncomputable def o203 : Obj := oFn (.type "function") (stAt prg [34]) "_law_row" 3 (vS "law_uf050031_11" 583) (.ref 344)
noncomputable def o204 : Obj := oTup [(vS "_law_rows_here" 613), (vS "_law_book_here" 614), (vS "_law_row_here" 615)]
noncomputable def o205 : Obj := oFn .none (stAt prg [35]) "_law_book" 0 .none .none
noncomputable def o206 : Obj := oCode "_law_book" 610 "_law_book" 611 612 192 1 3 (.ref 346) true 181 (.ref 347) (.ref 348) (.ref 349) (.ref 350) 616 617
noncomputable def o207 : Obj := oFn (.type "function") (stAt prg [35]) "_law_book" 3 (vS "law_uf050031_11" 583) (.ref 351)
noncomputable def o208 : Obj := oFn .none (stAt prg [36]) "_law_text" 0 .none .none
noncomputable def o209 : Obj := oCode "_law_text" 619 "_law_text" 620 621 197 1 3 (.ref 353) true 181 (.ref 354) .none .none (.ref 355) 622 623
noncomputable def o210 : Obj := oFn (.type "function") (stAt prg [36]) "_law_text" 3 (vS "law_uf050031_11" 583) (.ref 356)
noncomputable def o211 : Obj := oFn .none (stAt prg [37]) "_law_is_name" 0 .none .none
noncomputable def o212 : Obj := oCode "_law_is_name" 625 "_law_is_name" 626 627 199 1 3 (.ref 358) true 181 (.ref 359) .none .none (.ref 360) 628 629
noncomputable def o213 : Obj := oFn (.type "function") (stAt prg [37]) "_law_is_name" 3 (vS "law_uf050031_11" 583) (.ref 361)
noncomputable def o214 : Obj := oFn .none (stAt prg [38]) "_law_rows" 0 .none .none
noncomputable def o215 : Obj := oCode "_law_rows" 631 "_law_rows" 632 633 203 1 3 (.ref 363) true 181 (.ref 364) .none .none (.ref 365) 634 635
noncomputable def o216 : Obj := oFn (.type "function") (stAt prg [38]) "_law_rows" 3 (vS "law_uf050031_11" 583) (.ref 366)
noncomputable def o217 : Obj := oTup [(vS "_law_thing" 640), (vS "e" 641)]
noncomputable def o218 : Obj := oFn .none (stAt prg [39]) "_law_refused" 0 .none .none
noncomputable def o219 : Obj := oCode "_law_refused" 637 "_law_refused" 638 639 217 1 3 (.ref 368) true 181 (.ref 369) (.ref 370) (.ref 371) (.ref 372) 642 643
noncomputable def o220 : Obj := oFn (.type "function") (stAt prg [39]) "_law_refused" 3 (vS "law_uf050031_11" 583) (.ref 373)
noncomputable def o221 : Obj := oTup [(vS "_law_text_here" 648), (vS "_law_cell" 649), (vS "_law_some" 650), (vS "_law_line" 651), (vS "_law_at" 652), (vS "_law_more" 653), (vS "_law_sign" 654)]
noncomputable def o222 : Obj := oFn .none (stAt prg [40]) "_law_spoilt" 0 .none .none
noncomputable def o223 : Obj := oCode "_law_spoilt" 645 "_law_spoilt" 646 647 225 2 3 (.ref 375) true 181 (.ref 376) (.ref 377) (.ref 378) (.ref 379) 655 656
noncomputable def o224 : Obj := oFn (.type "function") (stAt prg [40]) "_law_spoilt" 3 (vS "law_uf050031_11" 583) (.ref 380)
noncomputable def o225 : Obj := oFn .none (stAt prg [41]) "_law_right" 0 .none .none
noncomputable def o226 : Obj := oCode "_law_right" 658 "_law_right" 659 660 237 2 3 (.ref 382) true 181 (.ref 383) .none .none (.ref 384) 661 662
noncomputable def o227 : Obj := oFn (.type "function") (stAt prg [41]) "_law_right" 3 (vS "law_uf050031_11" 583) (.ref 385)
noncomputable def o228 : Obj := oTup [(vS "_law_cell" 667), (vS "_law_count" 668), (vS "_law_text_here" 669), (vS "_law_names_here" 670)]
noncomputable def o229 : Obj := oFn .none (stAt prg [42]) "_law_great" 0 .none .none
noncomputable def o230 : Obj := oCode "_law_great" 664 "_law_great" 665 666 243 1 3 (.ref 387) true 181 (.ref 388) (.ref 389) (.ref 390) (.ref 391) 671 672
noncomputable def o231 : Obj := oFn (.type "function") (stAt prg [42]) "_law_great" 3 (vS "law_uf050031_11" 583) (.ref 392)
noncomputable def o232 : Obj := oFn .none (stAt prg [43]) "law" 0 .none .none
noncomputable def o233 : Obj := oCode "law" 674 "law" 675 676 251 1 3 (.ref 394) true 181 (.ref 395) .none .none (.ref 396) 677 678
noncomputable def o234 : Obj := oFn (.type "function") (stAt prg [43]) "law" 3 (vS "law_uf050031_11" 583) (.ref 397)
noncomputable def hpA (P : Params) : Heap := ⟨⟨[(boot_o_0 P), (boot_o_1 P), (boot_o_2 P), (boot_o_3 P), (boot_o_4 P), (boot_o_5 P), (boot_o_6 P), (boot_o_7 P), (boot_o_8 P), (boot_o_9 P), (boot_o_10 P), o0, o1, o2, o3]⟩, {}⟩
noncomputable def trA (P : Params) : BT := (.node (boot_o_0 P) (.node (boot_o_1 P) (.node (boot_o_3 P) (.node (boot_o_7 P) .nil .nil) (.node o0 .nil .nil)) (.node (boot_o_5 P) (.node (boot_o_9 P) .nil .nil) (.node o2 .nil .nil))) (.node (boot_o_2 P) (.node (boot_o_4 P) (.node (boot_o_8 P) .nil .nil) (.node o1 .nil .nil)) (.node (boot_o_6 P) (.node (boot_o_10 P) .nil .nil) (.node o3 .nil .nil))))
noncomputable def hpZ (P : Params) : Heap := ⟨⟨[(boot_o_0 P), (boot_o_1 P), (boot_o_2 P), (o4 P), (boot_o_4 P), (boot_o_5 P), (boot_o_6 P), (boot_o_7 P), (boot_o_8 P), (boot_o_9 P), (boot_o_10 P), o0, o5, o2, o3, o0, o1, o6, o0, o7, o8, o9, o10, o11, (o12 P), o0, o1, o13, o14, o0, (o15 P), o16, o17, o18, o19, o20, o11, (o21 P), o0, o1, o22, o23, o0, (o24 P), o25, o26, o27, o20, o11, (o28 P), o0, o1, o29, o30, o0, (o31 P), o32, o33, o34, o20, o11, (o35 P), o0, o1, o36, o37, o0, (o38 P), o39, o40, o41, o20, o11, (o42 P), o0, o1, o43, o44, o0, (o45 P), o46, o47, o48, o20, o11, (o49 P), o0, o1, o50, o51, o0, (o52 P), o53, o54, o55, o20, o11, (o56 P), o0, o1, o57, o58, o0, (o59 P), o60, o61, o62, o0, o1, o63, o64, o65, o0, o1, o66, o0, o67, o68, o69, o0, o1, o70, o71, o72, o0, o1, o73, o74, o75, o0, o1, o76, o77, o78, o0, o1, o79, o80, o81, o0, o1, o82, o83, o84, o0, o1, o85, o0, o86, o87, o88, o0, o11, (o89 P), o0, o90, o91, o92, o0, o1, o93, o0, o94, o95, o96, o0, o1, o97, o0, o98, o99, o100, o0, o1, o101, o0, o102, o103, o104, o0, o1, o105, o106, o107, o0, o1, o108, o109, o110, o0, o1, o111, o0, o112, o113, o114, o0, o1, o115, o0, o116, o117, o118, o0, o1, o119, o0, o120, o121, o122, o0, o1, o123, o0, o124, o125, o126, o0, o1, o127, o0, o128, o129, o130, o0, o1, o131, o0, o132, o133, o134, o0, o1, o135, o0, o136, o137, o138, o0, o1, o139, o0, o140, o141, o142, o0, o1, o143, o0, o144, o145, o146, o0, o1, o147, o0, o148, o149, o150, o0, o1, o151, o0, o152, o153, o154, o0, o1, o155, o0, o156, o157, o158, o0, o1, o159, o0, o160, o161, o162, o0, o1, o163, o0, o164, o165, o166, o167, (o168 P), o169, o170, o171, o172, o173, o0, o1, o174, o0, o175, o176, o177, o0, o1, o178, o179, o180, o0, o1, o181, o0, o182, o183, o184, o0, o1, o185, o0, o186, o187, o188, o0, o1, o189, o0, o190, o191, o192, o0, o1, o193, o0, o194, o195, o196, o0, o1, o197, o198, o199, o0, o1, o200, o0, o201, o202, o203, o0, o1, o204, o0, o205, o206, o207, o0, o1, o208, o209, o210, o0, o1, o211, o212, o213, o0, o1, o214, o215, o216, o0, o1, o217, o0, o218, o219, o220, o0, o1, o221, o0, o222, o223, o224, o0, o1, o225, o226, o227, o0, o1, o228, o0, o229, o230, o231, o0, o1, o232, o233, o234]⟩, {}⟩
noncomputable def trZ (P : Params) : BT := (.node (boot_o_0 P) (.node (boot_o_1 P) (.node (o4 P) (.node (boot_o_7 P) (.node o0 (.node o16 (.node o1 (.node o74 (.node o0 .nil .nil) (.node o1 .nil .nil)) (.node o111 (.node o188 .nil .nil) .nil)) (.node o20 (.node o1 (.node o167 .nil .nil) .nil) (.node o130 (.node o206 .nil .nil) .nil))) (.node o20 (.node (o45 P) (.node o84 (.node o157 .nil .nil) .nil) (.node o120 (.node o1 .nil .nil) .nil)) (.node o65 (.node o0 (.node o178 .nil .nil) .nil) (.node o1 (.node o216 .nil .nil) .nil)))) (.node o11 (.node o1 (.node o20 (.node o1 (.node o152 .nil .nil) (.node o229 .nil .nil)) (.node o0 (.node o0 .nil .nil) .nil)) (.node (o59 P) (.node o97 (.node o1 .nil .nil) .nil) (.node o0 (.node o1 .nil .nil) .nil))) (.node (o31 P) (.node o1 (.node o0 (.node o162 .nil .nil) .nil) (.node o125 (.node o201 .nil .nil) .nil)) (.node o0 (.node o107 (.node o183 .nil .nil) .nil) (.node o143 (.node o0 .nil .nil) .nil))))) (.node o0 (.node o7 (.node o20 (.node (o38 P) (.node o76 (.node o0 .nil .nil) (.node o0 .nil .nil)) (.node o114 (.node o0 .nil .nil) .nil)) (.node o1 (.node o95 (.node o171 .nil .nil) .nil) (.node o0 (.node o208 .nil .nil) .nil))) (.node o1 (.node o20 (.node o0 (.node o159 .nil .nil) .nil) (.node o1 (.node o0 .nil .nil) .nil)) (.node o0 (.node o0 (.node o1 .nil .nil) .nil) (.node o141 (.node o0 .nil .nil) .nil)))) (.node o13 (.node (o24 P) (.node o1 (.node o0 (.node o1 .nil .nil) (.node o1 .nil .nil)) (.node o0 (.node o194 .nil .nil) .nil)) (.node o0 (.node o100 (.node o176 .nil .nil) .nil) (.node o136 (.node o0 .nil .nil) .nil))) (.node o20 (.node (o52 P) (.node o90 (.node o0 .nil .nil) .nil) (.node o127 (.node o1 .nil .nil) .nil)) (.node o72 (.node o109 (.node o185 .nil .nil) .nil) (.node o146 (.node o222 .nil .nil) .nil)))))) (.node (boot_o_5 P) (.node (boot_o_9 P) (.node o6 (.node o18 (.node o37 (.node o0 (.node o149 .nil .nil) (.node o226 .nil .nil)) (.node o112 (.node o1 .nil .nil) .nil)) (.node (o56 P) (.node o0 (.node o169 .nil .nil) .nil) (.node o1 (.node o0 .nil .nil) .nil))) (.node (o28 P) (.node o47 (.node o1 (.node o0 .nil .nil) .nil) (.node o122 (.node o198 .nil .nil) .nil)) (.node o1 (.node o103 (.node o180 .nil .nil) .nil) (.node o0 (.node o1 .nil .nil) .nil)))) (.node o0 (.node o23 (.node (o42 P) (.node o80 (.node o154 .nil .nil) (.node o231 .nil .nil)) (.node o117 (.node o193 .nil .nil) .nil)) (.node o61 (.node o98 (.node o0 .nil .nil) .nil) (.node o135 (.node o212 .nil .nil) .nil))) (.node o33 (.node o51 (.node (o89 P) (.node o1 .nil .nil) .nil) (.node o0 (.node o203 .nil .nil) .nil)) (.node o70 (.node o1 (.node o0 .nil .nil) .nil) (.node o144 (.node o221 .nil .nil) .nil))))) (.node o2 (.node o9 (.node (o21 P) (.node o40 (.node o78 (.node o151 .nil .nil) (.node o228 .nil .nil)) (.node o1 (.node o191 .nil .nil) .nil)) (.node o58 (.node o0 (.node o173 .nil .nil) .nil) (.node o133 (.node o210 .nil .nil) .nil))) (.node o30 (.node (o49 P) (.node o87 (.node o160 .nil .nil) .nil) (.node o0 (.node o200 .nil .nil) .nil)) (.node o68 (.node o105 (.node o0 .nil .nil) .nil) (.node o0 (.node o219 .nil .nil) .nil)))) (.node o0 (.node o26 (.node o44 (.node o82 (.node o0 .nil .nil) (.node o233 .nil .nil)) (.node o119 (.node o196 .nil .nil) .nil)) (.node o63 (.node o1 (.node o0 .nil .nil) .nil) (.node o138 (.node o214 .nil .nil) .nil))) (.node (o35 P) (.node o54 (.node o92 (.node o165 .nil .nil) .nil) (.node o128 (.node o0 .nil .nil) .nil)) (.node o1 (.node o0 (.node o186 .nil .nil) .nil) (.node o1 (.node o224 .nil .nil) .nil))))))) (.node (boot_o_2 P) (.node (boot_o_4 P) (.node (boot_o_8 P) (.node o1 (.node o17 (.node o36 (.node o75 (.node o148 .nil .nil) (.node o225 .nil .nil)) (.node o0 (.node o0 .nil .nil) .nil)) (.node o11 (.node o93 (.node (o168 P) .nil .nil) .nil) (.node o0 (.node o207 .nil .nil) .nil))) (.node o11 (.node o46 (.node o0 (.node o158 .nil .nil) .nil) (.node o121 (.node o197 .nil .nil) .nil)) (.node o0 (.node o102 (.node o179 .nil .nil) .nil) (.node o139 (.node o0 .nil .nil) .nil)))) (.node (o12 P) (.node o22 (.node o11 (.node o79 (.node o153 .nil .nil) (.node o230 .nil .nil)) (.node o116 (.node o1 .nil .nil) .nil)) (.node o60 (.node o0 (.node o174 .nil .nil) .nil) (.node o1 (.node o211 .nil .nil) .nil))) (.node o32 (.node o50 (.node o11 (.node o0 .nil .nil) .nil) (.node o126 (.node o202 .nil .nil) .nil)) (.node o1 (.node o0 (.node o184 .nil .nil) .nil) (.node o0 (.node o1 .nil .nil) .nil))))) (.node o5 (.node o8 (.node o11 (.node o39 (.node o77 (.node o1 .nil .nil) (.node o1 .nil .nil)) (.node o0 (.node o190 .nil .nil) .nil)) (.node o57 (.node o96 (.node o172 .nil .nil) .nil) (.node o132 (.node o209 .nil .nil) .nil))) (.node o29 (.node o11 (.node o86 (.node o0 .nil .nil) .nil) (.node o123 (.node o1 .nil .nil) .nil)) (.node o67 (.node o1 (.node o181 .nil .nil) .nil) (.node o142 (.node o218 .nil .nil) .nil)))) (.node o14 (.node o25 (.node o43 (.node o1 (.node o155 .nil .nil) (.node o232 .nil .nil)) (.node o1 (.node o195 .nil .nil) .nil)) (.node o1 (.node o0 (.node o177 .nil .nil) .nil) (.node o137 (.node o1 .nil .nil) .nil))) (.node o11 (.node o53 (.node o91 (.node o164 .nil .nil) .nil) (.node o0 (.node o204 .nil .nil) .nil)) (.node o0 (.node o110 (.node o0 .nil .nil) .nil) (.node o0 (.node o223 .nil .nil) .nil)))))) (.node (boot_o_6 P) (.node (boot_o_10 P) (.node o0 (.node o19 (.node o0 (.node o1 (.node o150 .nil .nil) (.node o227 .nil .nil)) (.node o113 (.node o189 .nil .nil) .nil)) (.node o0 (.node o94 (.node o170 .nil .nil) .nil) (.node o131 (.node o1 .nil .nil) .nil))) (.node o0 (.node o48 (.node o85 (.node o1 .nil .nil) .nil) (.node o0 (.node o199 .nil .nil) .nil)) (.node o66 (.node o104 (.node o0 .nil .nil) .nil) (.node o140 (.node o217 .nil .nil) .nil)))) (.node o1 (.node o0 (.node o0 (.node o81 (.node o0 .nil .nil) (.node o0 .nil .nil)) (.node o118 (.node o0 .nil .nil) .nil)) (.node o62 (.node o99 (.node o175 .nil .nil) .nil) (.node o0 (.node o213 .nil .nil) .nil))) (.node o34 (.node o0 (.node o0 (.node o163 .nil .nil) .nil) (.node o1 (.node o0 .nil .nil) .nil)) (.node o71 (.node o108 (.node o1 .nil .nil) .nil) (.node o145 (.node o0 .nil .nil) .nil))))) (.node o3 (.node o10 (.node o0 (.node o41 (.node o0 (.node o0 .nil .nil) (.node o0 .nil .nil)) (.node o115 (.node o192 .nil .nil) .nil)) (.node o0 (.node o1 (.node o0 .nil .nil) .nil) (.node o134 (.node o0 .nil .nil) .nil))) (.node o0 (.node o0 (.node o88 (.node o161 .nil .nil) .nil) (.node o124 (.node o0 .nil .nil) .nil)) (.node o69 (.node o106 (.node o182 .nil .nil) .nil) (.node o1 (.node o220 .nil .nil) .nil)))) (.node (o15 P) (.node o27 (.node o0 (.node o83 (.node o156 .nil .nil) (.node o234 .nil .nil)) (.node o0 (.node o0 .nil .nil) .nil)) (.node o64 (.node o101 (.node o1 .nil .nil) .nil) (.node o0 (.node o215 .nil .nil) .nil))) (.node o0 (.node o55 (.node o0 (.node o166 .nil .nil) .nil) (.node o129 (.node o205 .nil .nil) .nil)) (.node o73 (.node o1 (.node o187 .nil .nil) .nil) (.node o147 (.node o0 .nil .nil) .nil))))))))
noncomputable def KK (P : Params) : Frag := [(2, (boot_o_2 P)), (3, (o4 P)), (15, o0), (17, o6), (18, o0), (20, o8), (21, o9), (22, o10), (29, o0), (30, (o15 P)), (31, o16), (32, o17), (35, o20), (42, o0), (43, (o24 P)), (44, o25), (47, o20), (54, o0), (55, (o31 P)), (56, o32), (59, o20), (66, o0), (67, (o38 P)), (68, o39), (71, o20), (78, o0), (79, (o45 P)), (80, o46), (83, o20), (90, o0), (91, (o52 P)), (92, o53), (95, o20), (102, o0), (103, (o59 P)), (104, o60), (107, o0), (110, o64), (111, o65), (112, o0), (114, o66), (115, o0), (117, o68), (118, o69), (119, o0), (122, o71), (123, o72), (124, o0), (127, o74), (128, o75), (129, o0), (132, o77), (133, o78), (134, o0), (137, o80), (138, o81), (139, o0), (142, o83), (143, o84), (144, o0), (146, o85), (147, o0), (149, o87), (150, o88), (158, o0), (160, o93), (161, o0), (163, o95), (164, o96), (165, o0), (167, o97), (168, o0), (170, o99), (171, o100), (172, o0), (174, o101), (175, o0), (177, o103), (178, o104), (179, o0), (182, o106), (183, o107), (184, o0), (187, o109), (188, o110), (189, o0), (191, o111), (192, o0), (194, o113), (195, o114), (196, o0), (198, o115), (199, o0), (201, o117), (202, o118), (203, o0), (205, o119), (206, o0), (208, o121), (209, o122), (210, o0), (212, o123), (213, o0), (215, o125), (216, o126), (217, o0), (219, o127), (220, o0), (222, o129), (223, o130), (224, o0), (226, o131), (227, o0), (229, o133), (230, o134), (231, o0), (233, o135), (234, o0), (236, o137), (237, o138), (238, o0), (240, o139), (241, o0), (243, o141), (244, o142), (245, o0), (247, o143), (248, o0), (250, o145), (251, o146), (252, o0), (254, o147), (255, o0), (257, o149), (258, o150), (259, o0), (261, o151), (262, o0), (264, o153), (265, o154), (266, o0), (268, o155), (269, o0), (271, o157), (272, o158), (273, o0), (275, o159), (276, o0), (278, o161), (279, o162), (280, o0), (282, o163), (283, o0), (285, o165), (286, o166), (287, o167), (288, (o168 P)), (289, o169), (290, o170), (291, o171), (294, o0), (296, o174), (297, o0), (299, o176), (300, o177), (301, o0), (304, o179), (305, o180), (306, o0), (308, o181), (309, o0), (311, o183), (312, o184), (313, o0), (315, o185), (316, o0), (318, o187), (319, o188), (320, o0), (322, o189), (323, o0), (325, o191), (326, o192), (327, o0), (329, o193), (330, o0), (332, o195), (333, o196), (334, o0), (337, o198), (338, o199), (339, o0), (341, o200), (342, o0), (344, o202), (345, o203), (346, o0), (348, o204), (349, o0), (351, o206), (352, o207), (353, o0), (356, o209), (357, o210), (358, o0), (361, o212), (362, o213), (363, o0), (366, o215), (367, o216), (368, o0), (370, o217), (371, o0), (373, o219), (374, o220), (375, o0), (377, o221), (378, o0), (380, o223), (381, o224), (382, o0), (385, o226), (386, o227), (387, o0), (389, o228), (390, o0), (392, o230), (393, o231), (394, o0), (397, o233), (398, o234)]
noncomputable def asK : List Addr := [2, 3, 15, 17, 18, 20, 21, 22, 29, 30, 31, 32, 35, 42, 43, 44, 47, 54, 55, 56, 59, 66, 67, 68, 71, 78, 79, 80, 83, 90, 91, 92, 95, 102, 103, 104, 107, 110, 111, 112, 114, 115, 117, 118, 119, 122, 123, 124, 127, 128, 129, 132, 133, 134, 137, 138, 139, 142, 143, 144, 146, 147, 149, 150, 158, 160, 161, 163, 164, 165, 167, 168, 170, 171, 172, 174, 175, 177, 178, 179, 182, 183, 184, 187, 188, 189, 191, 192, 194, 195, 196, 198, 199, 201, 202, 203, 205, 206, 208, 209, 210, 212, 213, 215, 216, 217, 219, 220, 222, 223, 224, 226, 227, 229, 230, 231, 233, 234, 236, 237, 238, 240, 241, 243, 244, 245, 247, 248, 250, 251, 252, 254, 255, 257, 258, 259, 261, 262, 264, 265, 266, 268, 269, 271, 272, 273, 275, 276, 278, 279, 280, 282, 283, 285, 286, 287, 288, 289, 290, 291, 294, 296, 297, 299, 300, 301, 304, 305, 306, 308, 309, 311, 312, 313, 315, 316, 318, 319, 320, 322, 323, 325, 326, 327, 329, 330, 332, 333, 334, 337, 338, 339, 341, 342, 344, 345, 346, 348, 349, 351, 352, 353, 356, 357, 358, 361, 362, 363, 366, 367, 368, 370, 371, 373, 374, 375, 377, 378, 380, 381, 382, 385, 386, 387, 389, 390, 392, 393, 394, 397, 398]
noncomputable def envT : Env := { scope := prg.main.scope, locals := mainNs, globals := mainNs, cells := [], code := (.ref 13), frame := some 14 }
noncomputable def bdy : List Stmt := behindTheImports prg
noncomputable def cT : Code := .body bdy envT
noncomputable def fT : List Frame := [topFrame ⟨0, 0, 0, 0⟩]
noncomputable def keepT : List Nat := [0, 2, 3, 4, 5, 6, 7, 8, 10, 11, 12, 13, 14, 15, 16, 17, 19, 21, 22, 23, 24, 26, 27, 28, 29, 30, 32, 33, 34, 35, 36, 37, 38, 39, 40, 41, 42, 43]
noncomputable def viewT : Program := { prg with main := { prg.main with body := keepT.filterMap fun i => prg.main.body[i]? } }
noncomputable def looseT : List Str := []
theorem h_pre (w : World) (os : OsState) : topGo treeTable prg w 11 (some (.ref 6)) 12 ⟨boot_heap w.params, #[], boot_drawn, boot_toks, os⟩ (topStub prg) = some (⟨hpA w.params, #[], {}, 187, os⟩, ⟨denote treeTable cT, cT, ⟨0, 0, 0, 0⟩, fT⟩) := by
  rw [Fast.te15667345088766844465, Fast.te14364793385576792824, Fast.te11892475500146522536]; kernel_rfl
theorem h_blk (w : World) (os : OsState) : segRun treeTable prg w 11 (some (.ref 6)) 1 1 ⟨hpA w.params, #[], {}, 187, os⟩ (blockOf bdy envT cT ⟨0, 0, 0, 0⟩ fT) = some (.next, (⟨trA w.params, 15, {}, #[], {}, 187, os⟩ : SharedT).abs, cT, ⟨0, 0, 0, 0⟩) := by
  rw [Fast.te14374325043358763698, Fast.te14364793385576792824]; kernel_rfl
theorem h_run (w : World) (os : OsState) : segRunT treeTable prg w 11 (some (.ref 6)) 1 3081 ⟨trA w.params, 15, {}, #[], {}, 187, os⟩ (piecesOf bdy envT cT ⟨0, 0, 0, 0⟩ fT) = some (.next, ⟨trZ w.params, 399, {}, #[], {}, 680, os⟩, cT, ⟨251, 0, 278, 51⟩) := by
  rw [Fast.te10110043849684766642, Fast.te14364793385576792824]; kernel_rfl
theorem h_fin (w : World) (os : OsState) : topRun treeTable prg w 11 (some (.ref 6)) 2 (⟨trZ w.params, 399, {}, #[], {}, 680, os⟩ : SharedT).abs ⟨doneF .next, cT, ⟨251, 0, 278, 51⟩, fT⟩ = some ⟨hpZ w.params, #[], {}, 680, os⟩ := by
  rw [Fast.te14082659384304107361, Fast.te14364793385576792824]; kernel_rfl
theorem h_all (w : World) (os : OsState) : topRun treeTable prg w 11 (some (.ref 6)) (12 + (1 + (3081 + 2))) ⟨boot_heap w.params, #[], boot_drawn, boot_toks, os⟩ (topStub prg) = some ⟨hpZ w.params, #[], {}, 680, os⟩ := by
  have k := piece_app (q := ⟨0, 0, 0, 0⟩) (segRun_of (h_run w os)) (piece_nil (h_fin w os))
  rw [List.append_nil] at k
  exact go_top (h_pre w os) (piece_block (q := ⟨0, 0, 0, 0⟩) (h_blk w os) k)
noncomputable def hookT : Hook := kHook KK asK (fun _ => by kernel_rfl)
noncomputable def XtT (s : Shared) : Bool := xlAt viewT [] s && recOk (RowW.records PySem.Challenge.rw_uf050031_11.row.toRowW) s
theorem h_looks (w : World) : (fun os : OsState => ((staticsOk (importedModules prg.main.body) (boot_heap w.params) (hpZ w.params) && namesBound prg (hpZ w.params) && gensDone ⟨hpZ w.params, #[], {}, 680, os⟩ && laidKept (boot_heap w.params) (hpZ w.params)),
    openSeen viewT looseT (importedModules prg.main.body) XtT true ⟨hpZ w.params, #[], {}, 680, os⟩, hookT.obs ⟨hpZ w.params, #[], {}, 680, os⟩)) = fun _ => (true, openGood viewT looseT, hookT.val w) := by
  kernel_rfl
theorem h_left : LeftO prg viewT looseT XtT hookT.obs hookT.val 6886 :=
  LeftO.of_pieces (H₀ := boot_heap) (H₁ := hpZ) (gs₀ := #[]) (gs₁ := #[]) (d₀ := boot_drawn) (d₁ := {}) (k₀ := boot_toks) (k₁ := 680) (m₀ := 11) (ann := (some (.ref 6))) (M := 12 + (1 + (3081 + 2)))
    (boot_open (by kernel_rfl) (by kernel_rfl) (fun _ => by kernel_rfl)) (fun w => by kernel_rfl) h_all (by kernel_rfl) h_looks
theorem h_said : OpenLaw.wellSaid PySem.Challenge.rw_uf050031_11 = true := by kernel_rfl

end Mine
end
-- text A1
section
namespace Mine
open PySem
inductive AV where
 | none
 | bool (b : Bool)
 | int (i : Int)
 | str (s : Str)
 | ref (a : Addr)
inductive VR : Value → AV → Prop
 | none : VR .none .none
 | bool (b : Bool) : VR (.bool b) (.bool b)
 | int (i : Int) (t : Tok) : VR (.int i t) (.int i)
 | str (s : Str) (t : Tok) (ok : PyData.strOk s = true) : VR (.str s t) (.str s)
 | ref (a : Addr) : VR (.ref a) (.ref a)
inductive VRs : List Value → List AV → Prop
 | nil : VRs [] []
 | cons {v : Value} {a : AV} {vs : List Value} {as : List AV} : VR v a → VRs vs as → VRs (v :: vs) (a :: as)
theorem VRs.length {vs : List Value} {as : List AV} (h : VRs vs as) : vs.length = as.length := by
 induction h with
 | nil => rfl
 | cons _ _ ih => simp [ih]
theorem VRs.append {vs ws : List Value} {as bs : List AV} (h : VRs vs as) (k : VRs ws bs) : VRs (vs ++ ws) (as ++ bs) := by
 induction h with
 | nil => exact k
 | cons x _ ih => exact .cons x ih
theorem VRs.get {vs : List Value} {as : List AV} (h : VRs vs as) : ∀ {k : Nat} {a : AV}, as[k]? = some a → ∃ v, vs[k]? = some v ∧ VR v a := by
 induction h with
 | nil => intro k a e; simp at e
 | @cons v b vs bs x _ ih =>
  intro k a e
  cases k with
  | zero => simp at e; subst e; exact ⟨v, rfl, x⟩
  | succ k => simpa using ih (by simpa using e)
theorem VRs.getV {vs : List Value} {as : List AV} (h : VRs vs as) : ∀ {k : Nat} {v : Value}, vs[k]? = some v → ∃ a, as[k]? = some a ∧ VR v a := by
 induction h with
 | nil => intro k a e; simp at e
 | @cons v b vs bs x _ ih =>
  intro k a e
  cases k with
  | zero => simp at e; subst e; exact ⟨b, rfl, x⟩
  | succ k => simpa using ih (by simpa using e)
inductive AO where
 | list (xs : List AV)
 | script (ns : List Int)
 | tuple (xs : List AV)
 | range (lo hi : Int)
 | idict (es : List (Int × AV))
 | sdict (es : List (Str × AV))
 | sset (xs : List Str)
 | inst (d : Addr)
 | attrs (es : List (Str × AV))
 | exc (c : Str)
noncomputable abbrev AH := Addr → Option AO
noncomputable def AH.put (H : AH) (a : Addr) (o : AO) : AH := fun b => if b = a then some o else H b
theorem AH.put_self (H : AH) (a : Addr) (o : AO) : (H.put a o) a = some o := if_pos rfl
theorem AH.put_ne (H : AH) {a b : Addr} (o : AO) (h : b ≠ a) : (H.put a o) b = H b := if_neg h
noncomputable def Sub (H K : AH) : Prop := ∀ a o, H a = some o → K a = some o
theorem Sub.refl (H : AH) : Sub H H := fun _ _ e => e
theorem Sub.trans {H K L : AH} (x : Sub H K) (y : Sub K L) : Sub H L := fun a o e => y a o (x a o e)
theorem Sub.put {H K : AH} (x : Sub H K) {a : Addr} (o : AO) (h : H a = none) : Sub H (K.put a o) := fun b o' e => by
 by_cases q : b = a
 ·subst q; rw [h] at e; cases e
 ·rw [AH.put_ne _ _ q]; exact x b o' e
structure St where
 prog : Program
 w : World
 base : Heap
 os : OsState
 mg : Str → Option Value
 mb : Str → Option Value
 book : Addr
 excs : Str → Option Addr
noncomputable abbrev St.M (S : St) : Model := model S.prog S.w
structure Cx where
 U : Addr → Option Obj
 fr : List Addr
 envs : List Env
inductive KVs : List (DictEntry) → List (Str × AV) → Prop
 | nil : KVs [] []
 | cons {h : Int} {x : Str} {t : Tok} {v : Value} {a : AV} {es : List DictEntry} {as : List (Str × AV)} : VR v a → KVs es as → KVs (⟨h, .str x t, v⟩ :: es) ((x, a) :: as)
inductive PRs {K : Type} : List (K × Value) → List (K × AV) → Prop
 | nil : PRs [] []
 | cons {k : K} {v : Value} {a : AV} {vs : List (K × Value)} {as : List (K × AV)} : VR v a → PRs vs as → PRs ((k, v) :: vs) ((k, a) :: as)
inductive SRs (w : World) : List (Int × Value) → List Str → Prop
 | nil : SRs w [] []
 | cons {x : Str} {t : Tok} {vs : List (Int × Value)} {xs : List Str} : PyData.strOk x = true → SRs w vs xs → SRs w ((hashStr w x, .str x t) :: vs) (x :: xs)
inductive StrSetAt (w : World) (h : Heap) (a : Addr) (xs : List Str) : Prop
 | mk (es : Array (Int × Value)) (ep : Nat) (t : SetTable) (ys : List Str) : h.get? a = some { cls := .type "set", data := .set es ep t } → SRs w es.toList ys → ys.Perm xs → xs.Nodup → es.size < scanBound → t.fits es.size = true → (w.params.followText "set-order" = true ∨ t.led = true) → (es.size ≠ 0 → t.plain = false) → StrSetAt w h a xs
inductive SeqAt (h : Heap) (a : Addr) (T : String) (xs : List AV) : Prop
 | mk (vs : List Value) (n : Nat) : h.get? a = some { cls := .type T, data := .seq vs.toArray n } → VRs vs xs → vs.length ≤ sizeLine → SeqAt h a T xs
noncomputable def ObjAt (S : St) (h : Heap) (a : Addr) : AO → Prop
 | .list xs => SeqAt h a "list" xs
 | .script ns => ∃ vs, S.base.IsList a vs.toArray ∧ VRs vs (ns.map AV.int) ∧ vs.length ≤ 1048576
 | .tuple xs => SeqAt h a "tuple" xs
 | .range lo hi => ∃ t u v, (-1048576 ≤ lo ∧ lo ≤ 1048576) ∧ (-1048576 ≤ hi ∧ hi ≤ 1048576) ∧ IsRange h a lo hi 1 t u v
 | .idict es => ∃ kvs ep, h.DictAt (intKind S.prog S.w) a kvs ep ∧ PRs kvs es ∧ kvs.length ≤ sizeLine
 | .sdict es => ∃ kvs ep, h.DictAt (strKind S.prog S.w) a kvs ep ∧ PRs kvs es ∧ (∀ p ∈ kvs, PyData.strOk p.1 = true) ∧ kvs.length ≤ sizeLine
 | .sset xs => StrSetAt S.w h a xs
 | .inst d => h.get? a = some { cls := .ref S.book, dict := some d, data := .plain }
 | .attrs es => ∃ des n, h.get? a = some { cls := .type "dict", data := .dict des n } ∧ KVs des.toList es
 | .exc c => ∃ o C, h.get? a = some o ∧ S.excs c = some C ∧ o.cls = .ref C
noncomputable def isScript : AO → Bool
 | .script _ => true
 | _ => false
noncomputable def Kept (C : Cx) (h : Heap) (a : Addr) (o : Obj) : Prop :=
 h.get? a = some o ∨ (a ∈ C.fr ∧ ∃ sl, h.get? a = some { o with slots := sl })
structure Inv (S : St) (C : Cx) (H : AH) (s : Shared) : Prop where
 base : ∀ b o, S.base.get? b = some o → s.heap.get? b = some o
 keep : ∀ a o, C.U a = some o → Kept C s.heap a o
 objs : ∀ a o, H a = some o → ObjAt S s.heap a o
 sepH : ∀ a o, H a = some o → C.U a = none ∧ (isScript o = false → S.base.get? a = none)
 sepU : ∀ a o, C.U a = some o → S.base.get? a = none
 gens : s.gens = #[]
 os : s.os = S.os
 frU : ∀ a, a ∈ C.fr → ∃ o, C.U a = some o
inductive NsObj (o : Obj) (m : Str → Option Value) : Prop
 | mk (es : Array DictEntry) (ep : Nat) : o.data = .dict es ep → StrKeys es → (∀ name, nsFind es name = m name) → NsObj o m
structure EnvOK (S : St) (C : Cx) (A : Around) (env : Env) : Prop where
 kind : env.scope.kind = .function
 glob : env.globals = mainGlobals
 blt : env.builtins = builtinsNs
 cells : ∀ x, env.kindOf x = some .cell ∨ env.kindOf x = some .free → ∃ c, env.cells.lookup x = some c
 cellU : ∀ x c, env.cells.lookup x = some c → c ≠ env.locals ∧ c ∉ C.fr ∧ ∃ o v, C.U c = some o ∧ o.data = .cell v
 apart : ∀ x y c, env.cells.lookup x = some c → env.cells.lookup y = some c → x = y
 loc : ∃ o m, C.U env.locals = some o ∧ NsObj o m
 stack : A.frames = some C.envs
 fun_ : ∀ e ∈ C.envs, e.scope.kind ≠ .module ∧ ∃ L o, e.frame = some L ∧ L ∈ C.fr ∧ C.U L = some o ∧ ∀ vs, o.data ≠ .fields vs
noncomputable abbrev Mp := Nat → Option AV
noncomputable def Mp.upd (m : Mp) (i : Nat) (v : AV) : Mp := fun j => if j = i then some v else m j
theorem Mp.upd_self (m : Mp) (i : Nat) (v : AV) : (m.upd i v) i = some v := if_pos rfl
theorem Mp.upd_ne (m : Mp) {i j : Nat} (v : AV) (h : j ≠ i) : (m.upd i v) j = m j := if_neg h
noncomputable def VarAt (C : Cx) (env : Env) (x : Str) (cv : Value) : Prop :=
 (env.kindOf x = some .local ∧ ∃ o m, C.U env.locals = some o ∧ NsObj o m ∧ m x = some cv) ∨
 ((env.kindOf x = some .cell ∨ env.kindOf x = some .free) ∧ ∃ c o, env.cells.lookup x = some c ∧ C.U c = some o ∧ o.data = .cell (some cv))
noncomputable abbrev Rho := List (Str × Nat)
noncomputable def EnvRel (C : Cx) (env : Env) (ρ : Rho) (m : Mp) : Prop := ∀ x i v, (x, i) ∈ ρ → m i = some v → ∃ cv, VR cv v ∧ VarAt C env x cv
noncomputable def RhoOK (ρ : Rho) : Prop := ∀ p ∈ ρ, ∀ q ∈ ρ, p.1 = q.1 ↔ p.2 = q.2
structure FUpd (env : Env) (C C' : Cx) : Prop where
 fr : C'.fr = C.fr
 envs : C'.envs = C.envs
 other : ∀ a, a ≠ env.locals → (∀ x, env.cells.lookup x ≠ some a) → C'.U a = C.U a
theorem FUpd.refl (env : Env) (C : Cx) : FUpd env C C := ⟨rfl, rfl, fun _ _ _ => rfl⟩
theorem FUpd.trans {env : Env} {C C' C'' : Cx} (x : FUpd env C C') (y : FUpd env C' C'') : FUpd env C C'' :=
 ⟨y.fr.trans x.fr, y.envs.trans x.envs, fun a h1 h2 => (y.other a h1 h2).trans (x.other a h1 h2)⟩
noncomputable def unreadN : Str := Str.ofString "Unread"
noncomputable def Ctx (x : Str) (vs : Array Value) : Prop := x ≠ unreadN → vs[2]? = some .none
structure ExcAt (S : St) (C : Cx) (H : AH) (h : Heap) (e : Addr) (x : Str) : Prop where
 cls : ∃ oe vs K, h.get? e = some oe ∧ S.excs x = some K ∧ oe.cls = .ref K ∧ oe.data = .fields vs ∧ 1 < vs.size ∧ (∃ a0, vs[0]? = some a0 ∧ Ctx x vs) ∧
  (vs[1]? = some .none ∨ ∃ T oT ts fl, vs[1]? = some (.ref T) ∧ T ≠ e ∧ h.get? T = some oT ∧ oT.data = .fields ts ∧ ts[3]? = some fl ∧ (fl = .none ∨ ∃ env outer L, C.envs = env :: outer ∧ env.frame = some L ∧ fl = rawInt L) ∧ S.base.get? T = none ∧ C.U T = none ∧ H T = none)
 new : S.base.get? e = none ∧ C.U e = none ∧ H e = none
inductive Raised (S : St) (C : Cx) (H : AH) (x : Str) (v : Value) (s : Shared) : Prop
 | mk (e : Addr) : v = .ref e → Inv S C H s → ExcAt S C H s.heap e x → Raised S C H x v s
structure Room (b : Bool) (d : Nat) (A : Around) : Prop where
 hd : b = true → A.handled = none
 depth : A.depth + 8 * d ≤ 600
 units : A.units + 100 * d ≤ 9000
noncomputable abbrev QV := AV → AH → Prop
noncomputable abbrev QX := Str → AH → Prop
noncomputable abbrev Tm := Mp → AH → QV → QX → Prop
noncomputable abbrev Tb := Mp → AH → (Bool → AH → Prop) → QX → Prop
noncomputable abbrev Ts := Mp → AH → (Mp → AH → Prop) → QV → QX → Prop
noncomputable abbrev Fn := List AV → AH → QV → QX → Prop
inductive PostV (S : St) (C : Cx) (Q : QV) (v : Value) (s' : Shared) : Prop
 | mk (av : AV) (H' : AH) : VR v av → Inv S C H' s' → Q av H' → PostV S C Q v s'
inductive PostB (S : St) (C : Cx) (Q : Bool → AH → Prop) (b : Bool) (s' : Shared) : Prop
 | mk (H' : AH) : Inv S C H' s' → Q b H' → PostB S C Q b s'
noncomputable def ExOK (S : St) (C : Cx) (X : QX) (E : Value → Shared → Prop) : Prop := ∀ x H' v s', X x H' → Raised S C H' x v s' → E v s'
noncomputable abbrev Kd := Str → Option NameKind
noncomputable def SoundE (S : St) (b : Bool) (d : Nat) (sc : Kd) (ρ : Rho) (e : Expr) (t : Tm) : Prop :=
 ∀ (C : Cx) (A : Around) (env : Env) (m : Mp) (H : AH) (Q : QV) (X : QX) (E : Value → Shared → Prop) (s : Shared),
  Room b d A → EnvOK S C A env → (∀ x, env.kindOf x = sc x) → EnvRel C env ρ m → Inv S C H s → t m H Q X → ExOK S C X E →
  wpAny S.M A (eval e env) (PostV S C Q) E s
noncomputable def SoundB (S : St) (b : Bool) (d : Nat) (sc : Kd) (ρ : Rho) (e : Expr) (t : Tb) : Prop :=
 ∀ (C : Cx) (A : Around) (env : Env) (m : Mp) (H : AH) (Q : Bool → AH → Prop) (X : QX) (E : Value → Shared → Prop) (s : Shared),
  Room b d A → EnvOK S C A env → (∀ x, env.kindOf x = sc x) → EnvRel C env ρ m → Inv S C H s → t m H Q X → ExOK S C X E →
  wpAny S.M A (isTrue e env (eval e env)) (PostB S C Q) E s
structure FrOK (S : St) (C : Cx) (A : Around) : Prop where
 stack : A.frames = some C.envs
 fun_ : ∀ e ∈ C.envs, e.scope.kind ≠ .module ∧ ∃ L o, e.frame = some L ∧ L ∈ C.fr ∧ C.U L = some o ∧ ∀ vs, o.data ≠ .fields vs
inductive PostS (S : St) (C : Cx) (A : Around) (env : Env) (ρ : Rho) (QN : Mp → AH → Prop) (QR : QV) (fl : Flow) (s' : Shared) : Prop
 | mk (C' : Cx) (H' : AH) : FUpd env C C' → Inv S C' H' s' → (match fl with
  | .next => ∃ m', EnvOK S C' A env ∧ EnvRel C' env ρ m' ∧ QN m' H'
  | .ret v => EnvOK S C' A env ∧ ∃ av, VR v av ∧ QR av H'
  | _ => False) → PostS S C A env ρ QN QR fl s'
noncomputable def ExOKS (S : St) (C : Cx) (A : Around) (env : Env) (X : QX) (E : Value → Shared → Prop) : Prop := ∀ C' x H' v s', FUpd env C C' → EnvOK S C' A env → X x H' → Raised S C' H' x v s' → E v s'
noncomputable def SoundS (S : St) (b : Bool) (d : Nat) (sc : Kd) (ρ : Rho) (st : List Stmt) (t : Ts) : Prop :=
 ∀ (C : Cx) (A : Around) (env : Env) (m : Mp) (H : AH) (QN : Mp → AH → Prop) (QR : QV) (X : QX) (E : Value → Shared → Prop) (s : Shared),
  Room b d A → EnvOK S C A env → (∃ outer, C.envs = env :: outer) → (∀ x, env.kindOf x = sc x) → EnvRel C env ρ m → Inv S C H s → t m H QN QR X → ExOKS S C A env X E →
  wpAny S.M A (execs st env) (PostS S C A env ρ QN QR) E s
noncomputable def PostF (S : St) (C : Cx) (Q : QV) (X : QX) (r : Result) (s' : Shared) : Prop :=
 match r with
 | .ok (.ret v) => PostV S C Q v s'
 | .ok _ => False
 | .error e => ∃ x H', X x H' ∧ Raised S C H' x e s'
noncomputable def SoundF (S : St) (b : Bool) (d : Nat) (f : Value) (F : Fn) : Prop :=
 ∀ (C : Cx) (A : Around) (vs : List Value) (avs : List AV) (H : AH) (Q : QV) (X : QX) (s : Shared),
  Room b d A → FrOK S C A → VRs vs avs → Inv S C H s → F avs H Q X → codeAny S.M A (.call f ⟨vs, []⟩) (PostF S C Q X) s
end Mine
end
-- text A2
section
namespace Mine
open PySem PySem.Calls PyProof.Rows
theorem ObjAt.of_get {S : St} {h h' : Heap} {a : Addr} {o : AO} (x : ObjAt S h a o) (e : ∀ ob, h.get? a = some ob → h'.get? a = some ob) : ObjAt S h' a o := by
 cases o with
 | list xs => obtain ⟨vs, n, h1, h2, h3⟩ := x; exact ⟨vs, n, e _ h1, h2, h3⟩
 | script ns => exact x
 | tuple xs => obtain ⟨vs, n, h1, h2, h3⟩ := x; exact ⟨vs, n, e _ h1, h2, h3⟩
 | range lo hi => obtain ⟨t, u, v, b1, b2, h1⟩ := x; exact ⟨t, u, v, b1, b2, e _ h1⟩
 | idict es => obtain ⟨kvs, ep, ⟨ob, des, h1, h2⟩, h3⟩ := x; exact ⟨kvs, ep, ⟨ob, des, e _ h1, h2⟩, h3⟩
 | sdict es => obtain ⟨kvs, ep, ⟨ob, des, h1, h2⟩, h3⟩ := x; exact ⟨kvs, ep, ⟨ob, des, e _ h1, h2⟩, h3⟩
 | sset xs => obtain ⟨es, ep, t, ys, h1, h2, h3, h4, h5, h6, h7, h8⟩ := x; exact ⟨es, ep, t, ys, e _ h1, h2, h3, h4, h5, h6, h7, h8⟩
 | inst d => exact e _ x
 | attrs es => obtain ⟨des, n, h1, h2⟩ := x; exact ⟨des, n, e _ h1, h2⟩
 | exc c => obtain ⟨ob, C, h1, h2⟩ := x; exact ⟨ob, C, e _ h1, h2⟩
theorem ObjAt.there {S : St} {h : Heap} {a : Addr} {o : AO} (x : ObjAt S h a o) (hs : isScript o = false) : ∃ ob, h.get? a = some ob := by
 cases o with
 | list xs => obtain ⟨vs, n, h1, h2⟩ := x; exact ⟨_, h1⟩
 | script ns => cases hs
 | tuple xs => obtain ⟨vs, n, h1, h2⟩ := x; exact ⟨_, h1⟩
 | range lo hi => obtain ⟨t, u, v, b1, b2, h1⟩ := x; exact ⟨_, h1⟩
 | idict es => obtain ⟨kvs, ep, ⟨ob, des, h1, h2⟩, h3⟩ := x; exact ⟨_, h1⟩
 | sdict es => obtain ⟨kvs, ep, ⟨ob, des, h1, h2⟩, h3⟩ := x; exact ⟨_, h1⟩
 | sset xs => obtain ⟨es, ep, t, ys, h1, h2⟩ := x; exact ⟨_, h1⟩
 | inst d => exact ⟨_, x⟩
 | attrs es => obtain ⟨des, n, h1, h2⟩ := x; exact ⟨_, h1⟩
 | exc c => obtain ⟨ob, C, h1, h2⟩ := x; exact ⟨_, h1⟩
theorem Kept.of_get {C : Cx} {h h' : Heap} {a : Addr} {o : Obj} (x : Kept C h a o) (e : ∀ ob, h.get? a = some ob → h'.get? a = some ob) : Kept C h' a o := by
 rcases x with h1 | ⟨h1, sl, h2⟩
 ·exact .inl (e _ h1)
 ·exact .inr ⟨h1, sl, e _ h2⟩
theorem Kept.there {C : Cx} {h : Heap} {a : Addr} {o : Obj} (x : Kept C h a o) : ∃ ob, h.get? a = some ob := by
 rcases x with h1 | ⟨_, sl, h2⟩
 ·exact ⟨_, h1⟩
 ·exact ⟨_, h2⟩
section
variable {S : St} {C : Cx} {H : AH} {s : Shared}
theorem Inv.lt (I : Inv S C H s) {a : Addr} {o : AO} (h : H a = some o) : a < s.heap.objs.size := by
 have x := I.objs a o h
 cases hs : isScript o with
 | false => obtain ⟨ob, e⟩ := x.there hs; exact Heap.lt_size e
 | true =>
  cases o with
  | script ns => obtain ⟨vs, ⟨ob, e, _⟩, _⟩ := x; exact Heap.lt_size (I.base _ _ e)
  | _ => cases hs
theorem Inv.same (I : Inv S C H s) {s' : Shared} (hh : s'.heap = s.heap) (hg : s'.gens = s.gens) (ho : s'.os = s.os) : Inv S C H s' :=
 ⟨by rw [hh]; exact I.base, by rw [hh]; exact I.keep, by rw [hh]; exact I.objs, I.sepH, I.sepU, hg.trans I.gens, ho.trans I.os, I.frU⟩
theorem Inv.grow (I : Inv S C H s) {s' : Shared} (hk : ∀ b o, s.heap.get? b = some o → s'.heap.get? b = some o) (hg : s'.gens = s.gens) (ho : s'.os = s.os) : Inv S C H s' :=
 ⟨fun b o e => hk b o (I.base b o e), fun a o e => (I.keep a o e).of_get fun ob => hk a ob, fun a o e => (I.objs a o e).of_get fun ob => hk a ob, I.sepH, I.sepU, hg.trans I.gens, ho.trans I.os, I.frU⟩
theorem Inv.fresh (I : Inv S C H s) {a : Addr} (hn : s.heap.get? a = none) : H a = none ∧ C.U a = none ∧ S.base.get? a = none := by
 have hb : S.base.get? a = none := by
  cases q : S.base.get? a with
  | none => rfl
  | some o => have := I.base a o q; rw [hn] at this; cases this
 refine ⟨?_, ?_, hb⟩
 ·cases q : H a with
  | none => rfl
  | some o =>
   have x := I.objs a o q
   cases hs : isScript o with
   | false => obtain ⟨ob, e⟩ := x.there hs; rw [hn] at e; cases e
   | true =>
    cases o with
    | script ns => obtain ⟨vs, ⟨ob, e, _⟩, _⟩ := x; rw [hb] at e; cases e
    | _ => cases hs
 ·cases q : C.U a with
  | none => rfl
  | some o => obtain ⟨ob, e⟩ := (I.keep a o q).there; rw [hn] at e; cases e
theorem Inv.add (I : Inv S C H s) {s' : Shared} {a : Addr} {o : AO} (hn : s.heap.get? a = none) (hk : ∀ b o, s.heap.get? b = some o → s'.heap.get? b = some o)
  (ha : ObjAt S s'.heap a o) (hg : s'.gens = s.gens) (ho : s'.os = s.os) : Inv S C (H.put a o) s' := by
 obtain ⟨f1, f2, f3⟩ := I.fresh hn
 have J := I.grow hk hg ho
 refine ⟨J.base, J.keep, fun b o' e => ?_, fun b o' e => ?_, J.sepU, J.gens, J.os, J.frU⟩
 ·by_cases q : b = a
  ·subst q; rw [AH.put_self] at e; cases e; exact ha
  ·rw [AH.put_ne _ _ q] at e; exact J.objs b o' e
 ·by_cases q : b = a
  ·subst q; exact ⟨f2, fun _ => f3⟩
  ·rw [AH.put_ne _ _ q] at e; exact J.sepH b o' e
theorem Inv.set (I : Inv S C H s) {s' : Shared} {a : Addr} {o₀ o : AO} (h0 : H a = some o₀) (hs0 : isScript o₀ = false) (hsb : ∀ b ob, b ≠ a → s.heap.get? b = some ob → s'.heap.get? b = some ob)
  (ha : ObjAt S s'.heap a o) (hg : s'.gens = s.gens) (ho : s'.os = s.os) : Inv S C (H.put a o) s' := by
 obtain ⟨u1, u2⟩ := I.sepH a o₀ h0
 refine ⟨fun b ob e => ?_, fun b ob e => ?_, fun b o' e => ?_, fun b o' e => ?_, I.sepU, hg.trans I.gens, ho.trans I.os, I.frU⟩
 ·refine hsb b ob (fun q => ?_) (I.base b ob e)
  subst q; rw [u2 hs0] at e; cases e
 ·refine (I.keep b ob e).of_get fun x hx => hsb b x (fun q => ?_) hx
  subst q; rw [u1] at e; cases e
 ·by_cases q : b = a
  ·subst q; rw [AH.put_self] at e; cases e; exact ha
  ·rw [AH.put_ne _ _ q] at e; exact (I.objs b o' e).of_get fun x hx => hsb b x q hx
 ·by_cases q : b = a
  ·subst q; exact ⟨u1, fun _ => u2 hs0⟩
  ·rw [AH.put_ne _ _ q] at e; exact I.sepH b o' e
theorem Inv.sub (I : Inv S C H s) {K : AH} (h : Sub K H) : Inv S C K s :=
 ⟨I.base, I.keep, fun a o e => I.objs a o (h a o e), fun a o e => I.sepH a o (h a o e), I.sepU, I.gens, I.os, I.frU⟩
theorem Inv.less (I : Inv S C H s) {C' : Cx} (hfr : ∀ a, a ∈ C.fr → C'.U a ≠ none → a ∈ C'.fr) (h : ∀ a o, C'.U a = some o → C.U a = some o) (hu : ∀ a, a ∈ C'.fr → ∃ o, C'.U a = some o) : Inv S C' H s := by
 refine ⟨I.base, fun a o e => ?_, I.objs, fun a o e => ⟨?_, (I.sepH a o e).2⟩, fun a o e => I.sepU a o (h a o e), I.gens, I.os, hu⟩
 ·rcases I.keep a o (h a o e) with x | ⟨x, y⟩
  ·exact .inl x
  ·exact .inr ⟨hfr a x (by rw [e]; exact fun q => by cases q), y⟩
 ·cases q : C'.U a with
  | none => rfl
  | some ob => have := h a ob q; rw [(I.sepH a o e).1] at this; cases this
noncomputable def Cx.hide (C : Cx) (a : Addr) (o : Obj) : Cx := { C with U := fun b => if b = a then some o else C.U b }
theorem Cx.hide_self (C : Cx) (a : Addr) (o : Obj) : (C.hide a o).U a = some o := if_pos rfl
theorem Cx.hide_ne (C : Cx) {a b : Addr} (o : Obj) (h : b ≠ a) : (C.hide a o).U b = C.U b := if_neg h
theorem Inv.hide (I : Inv S C H s) {s' : Shared} {a : Addr} {o : Obj} (hn : s.heap.get? a = none) (hk : ∀ b o, s.heap.get? b = some o → s'.heap.get? b = some o)
  (ha : s'.heap.get? a = some o) (hg : s'.gens = s.gens) (ho : s'.os = s.os) : Inv S (C.hide a o) H s' := by
 obtain ⟨f1, f2, f3⟩ := I.fresh hn
 have J := I.grow hk hg ho
 refine ⟨J.base, fun b ob e => ?_, J.objs, fun b o' e => ⟨?_, (J.sepH b o' e).2⟩, fun b ob e => ?_, J.gens, J.os, fun b hb => ?_⟩
 ·by_cases q : b = a
  ·subst q; rw [Cx.hide_self] at e; cases e; exact .inl ha
  ·rw [Cx.hide_ne _ _ q] at e; exact J.keep b ob e
 ·by_cases q : b = a
  ·subst q; rw [f1] at e; cases e
  ·rw [Cx.hide_ne _ _ q]; exact (J.sepH b o' e).1
 ·by_cases q : b = a
  ·subst q; exact f3
  ·rw [Cx.hide_ne _ _ q] at e; exact J.sepU b ob e
 ·obtain ⟨o', e⟩ := J.frU b hb
  by_cases q : b = a
  ·subst q; rw [f2] at e; cases e
  ·exact ⟨o', (Cx.hide_ne _ _ q).trans e⟩
theorem Inv.turn (I : Inv S C H s) {s' : Shared} {a : Addr} {o₀ o : Obj} (h0 : C.U a = some o₀) (hsb : ∀ b ob, b ≠ a → s.heap.get? b = some ob → s'.heap.get? b = some ob)
  (ha : s'.heap.get? a = some o) (hg : s'.gens = s.gens) (ho : s'.os = s.os) : Inv S (C.hide a o) H s' := by
 have hb := I.sepU a o₀ h0
 refine ⟨fun b ob e => ?_, fun b ob e => ?_, fun b o' e => ?_, fun b o' e => ⟨?_, (I.sepH b o' e).2⟩, fun b ob e => ?_, hg.trans I.gens, ho.trans I.os, fun b hb => ?_⟩
 ·refine hsb b ob (fun q => ?_) (I.base b ob e)
  subst q; rw [hb] at e; cases e
 ·by_cases q : b = a
  ·subst q; rw [Cx.hide_self] at e; cases e; exact .inl ha
  ·rw [Cx.hide_ne _ _ q] at e; exact (I.keep b ob e).of_get fun x hx => hsb b x q hx
 ·refine (I.objs b o' e).of_get fun x hx => hsb b x (fun q => ?_) hx
  subst q; rw [(I.sepH _ _ e).1] at h0; cases h0
 ·by_cases q : b = a
  ·subst q; rw [(I.sepH _ _ e).1] at h0; cases h0
  ·rw [Cx.hide_ne _ _ q]; exact (I.sepH b o' e).1
 ·by_cases q : b = a
  ·subst q; exact hb
  ·rw [Cx.hide_ne _ _ q] at e; exact I.sepU b ob e
 ·obtain ⟨o', e⟩ := I.frU b hb
  by_cases q : b = a
  ·subst q; exact ⟨o, Cx.hide_self ..⟩
  ·exact ⟨o', (Cx.hide_ne _ _ q).trans e⟩
end
section
variable {S : St} {b : Bool} {d : Nat} {sc : Kd} {ρ : Rho}
noncomputable def tVal (v : AV) : Tm := fun _ H Q _ => Q v H
theorem sE_int (i : Int) (k : Nat) (pos : Pos) : SoundE S b d sc ρ (.Constant (.int i) k pos) (tVal (.int i)) := by
 intro C A env m H Q X E s _ _ _ _ I h _
 exact fun _ _ _ => ⟨_, H, .int i _, I.same rfl rfl rfl, h⟩
theorem sE_bool (v : Bool) (k : Nat) (pos : Pos) : SoundE S b d sc ρ (.Constant (.bool v) k pos) (tVal (.bool v)) := by
 intro C A env m H Q X E s _ _ _ _ I h _
 exact fun _ _ _ => ⟨_, H, .bool v, I, h⟩
theorem sE_none (k : Nat) (pos : Pos) : SoundE S b d sc ρ (.Constant .none k pos) (tVal .none) := by
 intro C A env m H Q X E s _ _ _ _ I h _
 exact fun _ _ _ => ⟨_, H, .none, I, h⟩
theorem sE_str (x : Str) (k : Nat) (pos : Pos) (hx : PyData.strOk x = true) : SoundE S b d sc ρ (.Constant (.str x) k pos) (tVal (.str x)) := by
 intro C A env m H Q X E s _ _ _ _ I h _
 exact fun _ _ _ => ⟨_, H, .str x _ hx, I.same rfl rfl rfl, h⟩
theorem VarAt.load {S : St} {C : Cx} {A : Around} {env : Env} {x : Str} {cv : Value} {H : AH} {s : Shared} {M : Model} {E : Value → Shared → Prop} {Q : Value → Shared → Prop} (V : VarAt C env x cv) (O : EnvOK S C A env) (I : Inv S C H s)
  (hn : (x == ("__classdict__" : Str)) = false) (h : Q cv s) : wpAny M A (loadName env x) Q E s := by
 rcases V with ⟨hk, o, m, hU, ⟨es, ep, hd, r1, r2⟩, hm⟩ | ⟨hk, c, o, hc, hU, hd⟩
 ·have hns : s.heap.Ns env.locals m := by
   rcases I.keep _ _ hU with e | ⟨_, sl, e⟩
   ·exact ⟨o, es, ep, e, hd, r1, r2⟩
   ·exact ⟨_, es, ep, e, hd, r1, r2⟩
  exact wpAny_loadName_local O.kind hk hns hm h
 ·have hcell : s.heap.IsCell c (some cv) := by
   rcases I.keep _ _ hU with e | ⟨_, sl, e⟩
   ·exact ⟨o, e, hd⟩
   ·exact ⟨_, e, hd⟩
  rcases hk with hk | hk
  ·exact wpAny_loadName_cell O.kind hk hc hcell h
  ·exact wpAny_loadName_free O.kind hk hc hcell h hn
inductive Got (H : AH) (a : Addr) (P : AO → Prop) : Prop
 | mk (o : AO) : H a = some o → P o → Got H a P
inductive OneGot (vs : List AV) (H : AH) (P : AO → Prop) : Prop
 | mk (a : Addr) (o : AO) : vs = [.ref a] → H a = some o → P o → OneGot vs H P
inductive Loc (m : Mp) (i : Nat) (H : AH) (Q : QV) : Prop
 | mk (v : AV) : m i = some v → Q v H → Loc m i H Q
noncomputable def tLoc (i : Nat) : Tm := fun m H Q _ => Loc m i H Q
theorem sE_loc {x : Str} {i : Nat} (pos : Pos) (hρ : ρ.lookup x = some i) (hd : (x == ("__debug__" : Str)) = false) (hn : (x == ("__classdict__" : Str)) = false) :
  SoundE S b d sc ρ (.Name x pos) (tLoc i) := by
 intro C A env m H Q X E s _ O _ R I h _
 obtain ⟨v, hv, hq⟩ := h
 obtain ⟨cv, hr, V⟩ := R x i v (mem_of_lookup hρ) hv
 exact wpAny_Name (V.load O I hn ⟨v, H, hr, I, hq⟩) hd
noncomputable abbrev Tms := Mp → AH → (List AV → AH → Prop) → QX → Prop
noncomputable def SoundEs (S : St) (b : Bool) (d : Nat) (sc : Kd) (ρ : Rho) (es : List Expr) (t : Tms) : Prop :=
 ∀ (C : Cx) (A : Around) (env : Env) (m : Mp) (H : AH) (Q : List AV → AH → Prop) (X : QX) (E : Value → Shared → Prop) (s : Shared) (pos : Pos),
  Room b d A → EnvOK S C A env → (∀ x, env.kindOf x = sc x) → EnvRel C env ρ m → Inv S C H s → t m H Q X → ExOK S C X E →
  wpAny S.M A (spliced (backTo pos (starEach es env))) (fun vs s' => ∃ avs H', VRs vs avs ∧ Inv S C H' s' ∧ Q avs H') E s
noncomputable def tNil : Tms := fun _ H Q _ => Q [] H
noncomputable def tCons (t : Tm) (ts : Tms) : Tms := fun m H Q X => t m H (fun v H1 => ts m H1 (fun vs H2 => Q (v :: vs) H2) X) X
theorem sEs_nil : SoundEs S b d sc ρ [] tNil := by
 intro C A env m H Q X E s pos _ _ _ _ I h _
 exact spliced_none ⟨[], H, .nil, I, h⟩
theorem sEs_cons {e : Expr} {es : List Expr} {t : Tm} {ts : Tms} (h1 : SoundE S b d sc ρ e t) (h2 : SoundEs S b d sc ρ es ts)
  (he : ∀ env, starEach (e :: es) env = (false, eval e env) :: starEach es env) : SoundEs S b d sc ρ (e :: es) (tCons t ts) := by
 intro C A env m H Q X E s pos R O hk V I h hE
 refine spliced_more (wpAny_mono (h1 C A env m H _ X E s R O hk V I h hE) ?_ fun _ _ x => x) (he env)
 rintro v s1 ⟨av, H1, r1, I1, q1⟩
 refine wpAny_mono (h2 C A env m H1 _ X E s1 pos R O hk V I1 q1 hE) ?_ fun _ _ x => x
 rintro vs s2 ⟨avs, H2, r2, I2, q2⟩
 exact ⟨av :: avs, H2, .cons r1 r2, I2, q2⟩
noncomputable def BinOK (S : St) (op : Operator) (f : AV → AV → AH → QV → Prop) : Prop :=
 ∀ (C : Cx) (A : Around) (va vb : Value) (x y : AV) (H : AH) (Q : QV) (E : Value → Shared → Prop) (s : Shared), A.units ≤ 9000 → VR va x → VR vb y → Inv S C H s → f x y H Q → wpAny S.M A (binaryOp op va vb) (PostV S C Q) E s
noncomputable def tBin (f : AV → AV → AH → QV → Prop) (t u : Tm) : Tm := fun m H Q X => t m H (fun x H1 => u m H1 (fun y H2 => f x y H2 Q) X) X
theorem Room.u {b : Bool} {d : Nat} {A : Around} (R : Room b d A) : A.units ≤ 9000 := by have := R.units; lia
theorem sE_bin {l r : Expr} {op : Operator} {pos : Pos} {t u : Tm} {f : AV → AV → AH → QV → Prop} (hf : BinOK S op f) (h1 : SoundE S b d sc ρ l t) (h2 : SoundE S b d sc ρ r u) :
  SoundE S b d sc ρ (.BinOp l op r pos) (tBin f t u) := by
 intro C A env m H Q X E s R O hk V I h hE
 rw [eval_BinOp]
 refine wpAny_bind (wpAny_mono (h1 C A env m H _ X E s R O hk V I h hE) ?_ fun _ _ x => x)
 rintro v s1 ⟨av, H1, r1, I1, q1⟩
 refine wpAny_bind (wpAny_holding (wpAny_mono (h2 C A env m H1 _ X E s1 R O hk V I1 q1 hE) ?_ fun _ _ x => x))
 rintro w s2 ⟨aw, H2, r2, I2, q2⟩
 exact wpAny_bind (wpAny_standAt (wpAny_operate' (hf C A v w av aw H2 Q E s2 R.u r1 r2 I2 q2)))
noncomputable def CmpOK (S : St) (op : CmpOp) (f : AV → AV → AH → (Bool → AH → Prop) → Prop) : Prop :=
 ∀ (C : Cx) (A : Around) (va vb : Value) (x y : AV) (H : AH) (Q : Bool → AH → Prop) (E : Value → Shared → Prop) (s : Shared), A.units ≤ 9000 → VR va x → VR vb y → Inv S C H s → f x y H Q →
  wpAny S.M A (compareOp op va vb) (fun v s' => ∃ c, v = .bool c ∧ PostB S C Q c s') E s
noncomputable def tCmp (f : AV → AV → AH → (Bool → AH → Prop) → Prop) (t u : Tm) : Tm := fun m H Q X => t m H (fun x H1 => u m H1 (fun y H2 => f x y H2 fun c H3 => Q (.bool c) H3) X) X
noncomputable def tCmpB (f : AV → AV → AH → (Bool → AH → Prop) → Prop) (t u : Tm) : Tb := fun m H Q X => t m H (fun x H1 => u m H1 (fun y H2 => f x y H2 Q) X) X
theorem sE_cmp {l r : Expr} {op : CmpOp} {pos : Pos} {t u : Tm} {f : AV → AV → AH → (Bool → AH → Prop) → Prop} (hf : CmpOK S op f) (h1 : SoundE S b d sc ρ l t) (h2 : SoundE S b d sc ρ r u) (hb : behindInMarks op r = false) :
  SoundE S b d sc ρ (.Compare l [op] [r] pos) (tCmp f t u) := by
 intro C A env m H Q X E s R O hk V I h hE
 rw [eval_Compare1]
 refine wpAny_bind (wpAny_mono (h1 C A env m H _ X E s R O hk V I h hE) ?_ fun _ _ x => x)
 rintro v s1 ⟨av, H1, r1, I1, q1⟩
 rw [markedBehindIn_of_false hb]
 refine wpAny_bind (wpAny_holding (wpAny_mono (h2 C A env m H1 _ X E s1 R O hk V I1 q1 hE) ?_ fun _ _ x => x))
 rintro w s2 ⟨aw, H2, r2, I2, q2⟩
 refine wpAny_bind (wpAny_standAt (wpAny_operate' (wpAny_mono (hf C A v w av aw H2 _ E s2 R.u r1 r2 I2 q2) ?_ fun _ _ x => x)))
 rintro c s3 ⟨cb, rfl, H3, I3, q3⟩
 exact ⟨_, H3, .bool cb, I3, q3⟩
theorem sB_cmp {l r : Expr} {op : CmpOp} {pos : Pos} {t u : Tm} {f : AV → AV → AH → (Bool → AH → Prop) → Prop} (hf : CmpOK S op f) (h1 : SoundE S b d sc ρ l t) (h2 : SoundE S b d sc ρ r u) (hb : behindInMarks op r = false) :
  SoundB S b d sc ρ (.Compare l [op] [r] pos) (tCmpB f t u) := by
 intro C A env m H Q X E s R O hk V I h hE
 rw [isTrue_Compare1]
 refine wpAny_bind (wpAny_mono (h1 C A env m H _ X E s R O hk V I h hE) ?_ fun _ _ x => x)
 rintro v s1 ⟨av, H1, r1, I1, q1⟩
 rw [markedBehindIn_of_false hb]
 refine wpAny_bind (wpAny_holding (wpAny_mono (h2 C A env m H1 _ X E s1 R O hk V I1 q1 hE) ?_ fun _ _ x => x))
 rintro w s2 ⟨aw, H2, r2, I2, q2⟩
 refine wpAny_bind (wpAny_standAt (wpAny_bind (wpAny_operate' (wpAny_mono (hf C A v w av aw H2 _ E s2 R.u r1 r2 I2 q2) ?_ fun _ _ x => x))))
 rintro c s3 ⟨cb, rfl, H3, I3, q3⟩
 exact wpAny_holding (wpAny_truthy_bool ⟨H3, I3, q3⟩)
noncomputable def tNotB (t : Tb) : Tb := fun m H Q X => t m H (fun c H1 => Q (!c) H1) X
theorem sB_not {e : Expr} {pos : Pos} {t : Tb} (h1 : SoundB S b d sc ρ e t) : SoundB S b d sc ρ (.UnaryOp .Not e pos) (tNotB t) := by
 intro C A env m H Q X E s R O hk V I h hE
 show wpAny S.M A (do return !(← isTrue e env (eval e env))) _ E s
 refine wpAny_bind (wpAny_mono (h1 C A env m H _ X E s R O hk V I h hE) ?_ fun _ _ x => x)
 rintro c s1 ⟨H1, I1, q1⟩
 exact wpAny_pure ⟨H1, I1, q1⟩
noncomputable def SoundL (S : St) (b : Bool) (d : Nat) (sc : Kd) (ρ : Rho) (op : BoolOp) (es : List Expr) (t : Tb) : Prop :=
 ∀ (C : Cx) (A : Around) (env : Env) (m : Mp) (H : AH) (Q : Bool → AH → Prop) (X : QX) (E : Value → Shared → Prop) (s : Shared),
  Room b d A → EnvOK S C A env → (∀ x, env.kindOf x = sc x) → EnvRel C env ρ m → Inv S C H s → t m H Q X → ExOK S C X E →
  wpAny S.M A (allTrue op es env) (PostB S C Q) E s
noncomputable def tBoolNil (c : Bool) : Tb := fun _ H Q _ => Q c H
noncomputable def tAndB (t u : Tb) : Tb := fun m H Q X => t m H (fun c H1 => if c = true then u m H1 Q X else Q false H1) X
noncomputable def tOrB (t u : Tb) : Tb := fun m H Q X => t m H (fun c H1 => if c = true then Q true H1 else u m H1 Q X) X
theorem sL_andNil : SoundL S b d sc ρ .And [] (tBoolNil true) := by
 intro C A env m H Q X E s R O hk V I h hE
 exact wpAny_pure ⟨H, I, h⟩
theorem sL_orNil : SoundL S b d sc ρ .Or [] (tBoolNil false) := by
 intro C A env m H Q X E s R O hk V I h hE
 exact wpAny_pure ⟨H, I, h⟩
theorem sL_and {e : Expr} {es : List Expr} {t u : Tb} (h1 : SoundB S b d sc ρ e t) (h2 : SoundL S b d sc ρ .And es u) : SoundL S b d sc ρ .And (e :: es) (tAndB t u) := by
 intro C A env m H Q X E s R O hk V I h hE
 show wpAny S.M A (do match BoolOp.And, ← isTrue e env (eval e env) with | .And, false => pure false | .Or, true => pure true | _, _ => allTrue .And es env) _ E s
 refine wpAny_bind (wpAny_mono (h1 C A env m H _ X E s R O hk V I h hE) ?_ fun _ _ x => x)
 rintro c s1 ⟨H1, I1, q1⟩
 cases c with
 | false => exact wpAny_pure ⟨H1, I1, by simpa using q1⟩
 | true => exact h2 C A env m H1 _ X E s1 R O hk V I1 (by simpa using q1) hE
theorem sL_or {e : Expr} {es : List Expr} {t u : Tb} (h1 : SoundB S b d sc ρ e t) (h2 : SoundL S b d sc ρ .Or es u) : SoundL S b d sc ρ .Or (e :: es) (tOrB t u) := by
 intro C A env m H Q X E s R O hk V I h hE
 show wpAny S.M A (do match BoolOp.Or, ← isTrue e env (eval e env) with | .And, false => pure false | .Or, true => pure true | _, _ => allTrue .Or es env) _ E s
 refine wpAny_bind (wpAny_mono (h1 C A env m H _ X E s R O hk V I h hE) ?_ fun _ _ x => x)
 rintro c s1 ⟨H1, I1, q1⟩
 cases c with
 | true => exact wpAny_pure ⟨H1, I1, by simpa using q1⟩
 | false => exact h2 C A env m H1 _ X E s1 R O hk V I1 (by simpa using q1) hE
theorem sB_boolOp {op : BoolOp} {es : List Expr} {pos : Pos} {t : Tb} (h : SoundL S b d sc ρ op es t) : SoundB S b d sc ρ (.BoolOp op es pos) t := h
inductive IsB (v : AV) (Q : Bool → Prop) : Prop
 | mk (c : Bool) : v = .bool c → Q c → IsB v Q
noncomputable def tTruth (t : Tm) : Tb := fun m H Q X => t m H (fun v H1 => IsB v fun c => Q c H1) X
theorem sB_truth {e : Expr} {t : Tm} (h1 : SoundE S b d sc ρ e t) (he : ∀ env w, isTrue e env w = (do let v ← w; standAt e.pos; holding [v] (truthy v))) : SoundB S b d sc ρ e (tTruth t) := by
 intro C A env m H Q X E s R O hk V I h hE
 rw [he]
 refine wpAny_bind (wpAny_mono (h1 C A env m H _ X E s R O hk V I h hE) ?_ fun _ _ x => x)
 rintro v s1 ⟨av, H1, r1, I1, c, rfl, q1⟩
 cases r1
 exact wpAny_bind (wpAny_standAt (wpAny_holding (wpAny_truthy_bool ⟨H1, I1, q1⟩)))
noncomputable def tIf (c : Tb) (t u : Tm) : Tm := fun m H Q X => c m H (fun x H1 => if x = true then t m H1 Q X else u m H1 Q X) X
theorem sE_if {c p q : Expr} {pos : Pos} {tc : Tb} {t u : Tm} (h1 : SoundB S b d sc ρ c tc) (h2 : SoundE S b d sc ρ p t) (h3 : SoundE S b d sc ρ q u) : SoundE S b d sc ρ (.IfExp c p q pos) (tIf tc t u) := by
 intro C A env m H Q X E s R O hk V I h hE
 show wpAny S.M A (do if ← isTrue c env (eval c env) then eval p env else eval q env) _ E s
 refine wpAny_bind (wpAny_mono (h1 C A env m H _ X E s R O hk V I h hE) ?_ fun _ _ x => x)
 rintro x s1 ⟨H1, I1, q1⟩
 cases x with
 | true => simp only [if_true] at q1 ⊢; exact h2 C A env m H1 _ X E s1 R O hk V I1 q1 hE
 | false => simp only [Bool.false_eq_true, if_false] at q1 ⊢; exact h3 C A env m H1 _ X E s1 R O hk V I1 q1 hE
noncomputable def SoundV (S : St) (b : Bool) (d : Nat) (sc : Kd) (ρ : Rho) (op : BoolOp) (es : List Expr) (t : Tm) : Prop :=
 ∀ (C : Cx) (A : Around) (env : Env) (m : Mp) (H : AH) (Q : QV) (X : QX) (E : Value → Shared → Prop) (s : Shared) (pos : Pos),
  Room b d A → EnvOK S C A env → (∀ x, env.kindOf x = sc x) → EnvRel C env ρ m → Inv S C H s → t m H Q X → ExOK S C X E →
  wpAny S.M A (boolOp pos op (evalEach es env)) (PostV S C Q) E s
noncomputable def tAndV (t u : Tm) : Tm := fun m H Q X => t m H (fun v H1 => IsB v fun c => if c = true then u m H1 Q X else Q (.bool false) H1) X
theorem sV_one {op : BoolOp} {e : Expr} {t : Tm} (h1 : SoundE S b d sc ρ e t) : SoundV S b d sc ρ op [e] t := by
 intro C A env m H Q X E s pos R O hk V I h hE
 exact h1 C A env m H Q X E s R O hk V I h hE
theorem sV_and {e f : Expr} {es : List Expr} {t u : Tm} (h1 : SoundE S b d sc ρ e t) (h2 : SoundV S b d sc ρ .And (f :: es) u) : SoundV S b d sc ρ .And (e :: f :: es) (tAndV t u) := by
 intro C A env m H Q X E s pos R O hk V I h hE
 show wpAny S.M A (do
  let v ← eval e env
  standAt pos
  let t ← holding [v] (truthy v)
  match BoolOp.And, t with
  | .And, false | .Or, true => pure v
  | _, _ => boolOp pos .And (evalEach (f :: es) env)) _ E s
 refine wpAny_bind (wpAny_mono (h1 C A env m H _ X E s R O hk V I h hE) ?_ fun _ _ x => x)
 rintro v s1 ⟨av, H1, r1, I1, c, rfl, q1⟩
 cases r1
 refine wpAny_bind (wpAny_standAt (wpAny_bind (wpAny_holding (wpAny_truthy_bool ?_))))
 cases c with
 | false => exact wpAny_pure ⟨_, H1, .bool false, I1, by simpa using q1⟩
 | true => exact h2 C A env m H1 _ X E s1 pos R O hk V I1 (by simpa using q1) hE
theorem sE_boolOp {op : BoolOp} {es : List Expr} {pos : Pos} {t : Tm} (h : SoundV S b d sc ρ op es t) : SoundE S b d sc ρ (.BoolOp op es pos) t := by
 intro C A env m H Q X E s R O hk V I h' hE
 exact h C A env m H Q X E s pos R O hk V I h' hE
end
end Mine
end
-- text A3
section
namespace Mine
open PySem PySem.Calls PyProof.Rows
noncomputable def hideAll (h : Heap) : List Addr → Heap
 | [] => h
 | a :: r => hideAll (h.hide a) r
theorem of_hideAll : ∀ (l : List Addr) {h : Heap} {b : Addr} {o : Obj}, (hideAll h l).get? b = some o → h.get? b = some o
 | [], _, _, _, e => e
 | _ :: r, _, _, _, e => Heap.of_hide (of_hideAll r e)
theorem hideAll_get : ∀ (l : List Addr) {h : Heap} {b : Addr} {o : Obj}, h.get? b = some o → b ∉ l → (hideAll h l).get? b = some o
 | [], _, _, _, e, _ => e
 | a :: r, h, b, _, e, n => hideAll_get r ((Heap.hide_ne h fun (q : b = a) => n (by rw [q]; exact .head _)).trans e) fun q => n (.tail _ q)
theorem hideAll_none : ∀ (l : List Addr) {h : Heap} {b : Addr}, b ∈ l → (hideAll h l).get? b = none
 | a :: r, h, _, .head _ => by
  cases q : (hideAll h (a :: r)).get? a with
  | none => rfl
  | some o => have := of_hideAll r q; rw [Heap.hide_self] at this; cases this
 | _ :: r, _, _, .tail _ m => hideAll_none r m
section
variable {S : St} {C : Cx} {H : AH} {s : Shared} {A : Around}
theorem FrOK.of_env {env : Env} (O : EnvOK S C A env) : FrOK S C A := ⟨O.stack, O.fun_⟩
theorem FrOK.frames (F : FrOK S C A) (I : Inv S C H s) (l : List Addr) : ∀ {es : List Env}, (∀ e ∈ es, e ∈ C.envs) → (∀ e ∈ es, ∀ L, e.frame = some L → L ∈ l) → s.heap.FunFrames (hideAll s.heap l) es
 | [], _, _ => trivial
 | e :: r, h1, h2 => by
  obtain ⟨k, L, o, hf, hfr, hU, hd⟩ := F.fun_ e (h1 e (.head _))
  refine ⟨k, ?_, FrOK.frames F I l (fun x hx => h1 x (.tail _ hx)) fun x hx => h2 x (.tail _ hx)⟩
  have hn := hideAll_none (h := s.heap) l (h2 e (.head _) L hf)
  rcases I.keep L o hU with q | ⟨_, sl, q⟩
  ·exact ⟨L, o, hf, hn, q, hd⟩
  ·exact ⟨L, _, hf, hn, q, hd⟩
theorem Inv.other (I : Inv S C H s) {s' : Shared} (bad : Addr → Prop) (hb : ∀ a, bad a → S.base.get? a = none ∧ H a = none ∧ C.U a = none)
  (hk : ∀ b o, s.heap.get? b = some o → ¬ bad b → (b ∈ C.fr ∧ C.U b ≠ none) ∨ s'.heap.get? b = some o)
  (hf : ∀ b o, s.heap.get? b = some o → b ∈ C.fr → C.U b ≠ none → ∃ sl, s'.heap.get? b = some { o with slots := sl }) (hg : s'.gens = s.gens) (ho : s'.os = s.os) : Inv S C H s' := by
 have nb : ∀ {a : Addr} {o : Obj}, S.base.get? a = some o → ¬ bad a := fun {a o} e q => by rw [(hb a q).1] at e; cases e
 refine ⟨fun b o e => ?_, fun a o e => ?_, fun a o e => ?_, I.sepH, I.sepU, hg.trans I.gens, ho.trans I.os, I.frU⟩
 ·rcases hk b o (I.base b o e) (nb e) with ⟨_, q⟩ | q
  ·cases hu : C.U b with
   | none => exact absurd hu q
   | some x => rw [I.sepU b x hu] at e; cases e
  ·exact q
 ·have na : ¬ bad a := fun q => by rw [(hb a q).2.2] at e; cases e
  have nU : C.U a ≠ none := by rw [e]; exact fun q => by cases q
  rcases I.keep a o e with q | ⟨q1, sl, q2⟩
  ·rcases hk a o q na with ⟨z, _⟩ | z
   ·obtain ⟨sl, w⟩ := hf a o q z nU
    exact .inr ⟨z, sl, w⟩
   ·exact .inl z
  ·obtain ⟨sl', w⟩ := hf a _ q2 q1 nU
   exact .inr ⟨q1, sl', w⟩
 ·refine (I.objs a o e).of_get fun ob hob => ?_
  have na : ¬ bad a := fun q => by rw [(hb a q).2.1] at e; cases e
  rcases hk a ob hob na with ⟨_, q⟩ | q
  ·exact absurd (I.sepH a o e).1 q
  ·exact q
structure HeldAt (S : St) (C : Cx) (H : AH) (x : Str) (e : Addr) (fl : Value) (s : Shared) : Prop where
 inv : Inv S C H s
 new : S.base.get? e = none ∧ C.U e = none ∧ H e = none
 at_ : ∃ oe vs K T oT ts a0, s.heap.get? e = some oe ∧ S.excs x = some K ∧ oe.cls = .ref K ∧ oe.data = .fields vs ∧ (vs[0]? = some a0 ∧ Ctx x vs) ∧ vs[1]? = some (.ref T) ∧ T ≠ e ∧
  s.heap.get? T = some oT ∧ oT.data = .fields ts ∧ ts[3]? = some fl ∧ S.base.get? T = none ∧ C.U T = none ∧ H T = none
theorem HeldAt.raised {x : Str} {e : Addr} {fl : Value} (h : HeldAt S C H x e fl s) (hfl : fl = .none ∨ ∃ env outer L, C.envs = env :: outer ∧ env.frame = some L ∧ fl = rawInt L) : Raised S C H x (.ref e) s := by
 obtain ⟨oe, vs, K, T, oT, ts, a0, h1, h2, h3, h4, h5, h6, h7, h8, h9, h10, h11, h12, h13⟩ := h.at_
 exact ⟨e, rfl, h.inv, ⟨oe, vs, K, h1, h2, h3, h4, (Array.getElem?_eq_some_iff.mp h6).1, ⟨a0, h5⟩, .inr ⟨T, oT, ts, fl, h6, h7, h8, h9, h10, hfl, h11, h12, h13⟩⟩, h.new⟩
theorem HeldAt.flight {M : Model} {x : Str} {e : Addr} {fl : Value} {E : Value → Shared → Prop} {fr : Option Addr} {Q : Unit → Shared → Prop} (h : HeldAt S C H x e fl s)
  (hQ : ∀ s', HeldAt S C H x e (fr.elim .none fun f => rawInt f) s' → Q () s') : wpAny M A (setFlight (.ref e) fr) Q E s := by
 obtain ⟨oe, vs, K, T, oT, ts, a0, h1, h2, h3, h4, h5, h6, h7, h8, h9, h10, h11, h12, h13⟩ := h.at_
 have hsz3 : 3 < ts.size := (Array.getElem?_eq_some_iff.mp h10).1
 have other : ∀ b, b ≠ T → (s.heap.update T (Obj.mapFields (·.setIfInBounds 3 (fr.elim Value.none fun f => rawInt f)))).get? b = s.heap.get? b := fun b hb => Heap.get?_update_other _ _ (Ne.symm hb)
 unfold setFlight
 refine wpAny_bind (wpAny_field h1 h4 h6 ?_)
 rw [if_pos (show (Value.ref T != Value.none) = true from by simp)]
 refine wpAny_setField h8 h9 hsz3 (hQ _ ⟨?_, h.new, ?_⟩)
 ·refine h.inv.other (fun a => a = T) (fun a q => by subst q; exact ⟨h11, h13, h12⟩) (fun b o e nb => .inr ((other b nb).trans e)) (fun b o e hb hu => ⟨o.slots, ?_⟩) rfl rfl
  exact (other b fun q => by subst q; exact hu h12).trans e
 ·exact ⟨oe, vs, K, T, _, _, a0, (other e (Ne.symm h7)).trans h1, h2, h3, h4, h5, h6, h7, Heap.get?_update_self _ h8 (Obj.isFreed_of_fields (Obj.data_mapFields h9 _)), Obj.data_mapFields h9 _, by simp [hsz3], h11, h12, h13⟩
noncomputable def Same2 (e : Addr) (vs : Array Value) (h' : Heap) : Prop := ∀ oe' vs', h'.get? e = some oe' → oe'.data = .fields vs' → vs'[2]? = vs[2]?
theorem entry2 {M : Model} {E : Value → Shared → Prop} {base : Heap} {env : Env} {outer : List Env} {L e : Addr} {oe : Obj} {vs : Array Value} {head a0 : Value} {hadNext : Bool} {Q : Unit → Shared → Prop}
  (hfr : A.frames = some (env :: outer)) (hl : s.heap.FunFrames base (env :: outer)) (hf : env.frame = some L) (he : s.heap.get? e = some oe) (hkb : base.StaysIn s.heap) (hen : base.get? e = none) (hd : oe.data = .fields vs) (hsz : 1 < vs.size) (h0 : vs[0]? = some a0)
  (h : ∀ h', Heap.NotedW base (env :: outer) e oe.cls a0 (rawInt L) s.heap h' → Same2 e vs h' → Q () { s with heap := h' }) :
  wpAny M A (do let a ← frameOf env; let pl ← entryPlaceOf L hadNext; let b ← EntryCells.newEntry head a .none (rawInt L) .none pl; setField (.ref e) 1 b) Q E s := by
 have far : e ∉ (env :: outer).filterMap (·.frame) := fun hm => by
  obtain ⟨_, o, ho, hnf⟩ := hl.mem hm
  rw [he] at ho; cases ho; exact hnf vs hd
 refine wpAny_bind (wpAny_frameOf_fun hfr hl hf fun g1 hg => wpAny_bind (wpAny_entryPlaceOf fun pl hpl => ?_))
 unfold EntryCells.newEntry newFields
 refine wpAny_bind (wpAny_newObj_type ?_ (hpl.sizeOk5 _ _ _ _ _))
 have e1 : g1.get? e = some oe := (hg.2.1 e far).trans he
 have b1 : base.StaysIn g1 := fun b o q => (hg.2.1 b fun hm => by rw [(hl.mem hm).1] at q; cases q).trans (hkb b o q)
 generalize hob : ({ cls := .type "traceback", dict := none, data := .fields ([head, .ref L, .none, rawInt L, .none] ++ (if pl.isEmpty then List.replicate 6 Value.none else pl)).toArray } : Obj) = ob
 have e2 := Heap.get?_push_of_some (h := g1) ob e1
 refine wpAny_setField e2 hd hsz ?_
 have nTe : g1.objs.size ≠ e := Nat.ne_of_gt (Heap.lt_size e1)
 have d3 := Obj.data_mapFields hd (·.setIfInBounds 1 (Value.ref g1.objs.size))
 have e3 := Heap.get?_update_self (Obj.mapFields (·.setIfInBounds 1 (Value.ref g1.objs.size))) e2 (Obj.isFreed_of_fields d3)
 have t3 := (Heap.get?_update_other (g1.push ob) (Obj.mapFields (·.setIfInBounds 1 (Value.ref g1.objs.size))) (Ne.symm nTe)).trans (Heap.get?_push_size g1 (by rw [← hob]; rfl))
 have keep : ∀ b o, b ≠ e → g1.get? b = some o → ((g1.push ob).update e (Obj.mapFields (·.setIfInBounds 1 (Value.ref g1.objs.size)))).get? b = some o := fun b o n q =>
  (Heap.get?_update_other _ _ (Ne.symm n)).trans (Heap.get?_push_of_some _ q)
 have rec_ : ∀ b o, s.heap.get? b = some o → (∀ vs, o.data ≠ .fields vs) → b ≠ e := fun b o q hnf z => by
  rw [z, he] at q; cases q; exact hnf vs hd
 refine h _ ⟨fun b o q => keep b o (fun z => by rw [z, hen] at q; cases q) (b1 b o q), hl.of_keeps fun b o q hnf => ?_, ?_, fun b o q hnf => ?_⟩ fun oe' vs' q1 q2 => ?_
 ·obtain ⟨sl, z⟩ := hg.2.2 b o q
  exact ⟨_, keep b _ (rec_ b o q hnf) z, rfl⟩
 ·refine ⟨_, _, g1.objs.size, _, _, e3, ⟨Obj.cls_mapFields _ _, by rw [Array.getElem?_setIfInBounds_ne (by decide)]; exact h0⟩, d3, by simp [hsz], b1.fresh, nTe, t3, by rw [← hob], ?_⟩
  rcases hpl with rfl | ⟨_, _, _, _, _, _, _, rfl⟩ <;> simp
 ·obtain ⟨sl, z⟩ := hg.2.2 b o q
  exact ⟨sl, keep b _ (rec_ b o q hnf) z⟩
 ·dsimp only at q1
  rw [e3] at q1; cases q1
  rw [d3] at q2; cases q2
  rw [Array.getElem?_setIfInBounds_ne (by decide)]
theorem note_on2 {M : Model} {E : Value → Shared → Prop} {base : Heap} {env : Env} {outer : List Env} {L e : Addr} {cls a0 : Value} {oe0 : Obj} {vs : Array Value} {Q : Unit → Shared → Prop}
  (hfr : A.frames = some (env :: outer)) (hl : s.heap.FunFrames base (env :: outer)) (hf : env.frame = some L) (ht : s.heap.TracedW base e cls a0) (hkb : base.StaysIn s.heap) (hen : base.get? e = none) (he0 : s.heap.get? e = some oe0) (hd0 : oe0.data = .fields vs)
  (h : ∀ h', Heap.NotedW base (env :: outer) e cls a0 (rawInt L) s.heap h' → Same2 e vs h' → Q () { s with heap := h' }) : wpAny M A (noteFrame (.ref e) env) Q E s := by
 obtain ⟨oe, vs1, T, oT, ts, he, ⟨hcls, h0⟩, hd, h1, hnT, hTe, hT, hdT, h3⟩ := ht
 rw [he] at he0; cases he0
 rw [hd] at hd0; cases hd0
 subst hcls
 have other : ∀ b, b ≠ T → (s.heap.update T (Obj.mapFields (·.setIfInBounds 3 Value.none))).get? b = s.heap.get? b := fun b n => Heap.get?_update_other _ _ (Ne.symm n)
 have far : ∀ b o, s.heap.get? b = some o → (∀ vs, o.data ≠ .fields vs) → b ≠ T := fun b o q hnf z => by
  rw [z, hT] at q; cases q; exact hnf ts hdT
 unfold noteFrame
 simp only [hf]
 refine wpAny_bind (wpAny_field he hd h1 ?_)
 rw [if_pos (show (Value.ref T != Value.none) = true from by simp)]
 refine wpAny_bind (wpAny_field hT hdT h3 ?_)
 rw [if_neg (show ¬ ((Value.none == rawInt L) = true) from by simp [rawInt])]
 refine wpAny_bind (wpAny_setField hT hdT (Array.getElem?_eq_some_iff.mp h3).1 ?_)
 exact entry2 hfr (hl.of_keeps fun b o q hnf => ⟨o, (other b (far b o q hnf)).trans q, rfl⟩) hf ((other e (Ne.symm hTe)).trans he) (fun b o q => (other b fun z => by rw [z, hnT] at q; cases q).trans (hkb b o q)) hen hd (Array.getElem?_eq_some_iff.mp h1).1 h0
  fun h' ⟨x1, x2, x3, x4⟩ hS => h h' ⟨x1, x2, x3, fun b o q hnf => x4 b o ((other b (far b o q hnf)).trans q) hnf⟩ hS
theorem Raised.note {M : Model} {x : Str} {v : Value} {env : Env} {outer : List Env} {L : Addr} {E : Value → Shared → Prop} {Q : Unit → Shared → Prop} (h : Raised S C H x v s) (F : FrOK S C A)
  (hc : C.envs = env :: outer) (hf : env.frame = some L) (hQ : ∀ e s', v = .ref e → HeldAt S C H x e (rawInt L) s' → Q () s') : wpAny M A (noteFrame v env) Q E s := by
 obtain ⟨e, rfl, I, ⟨oe, vs, K, h1, h2, h3, h4, hsz, ⟨a0, h5, hcx⟩, tb⟩, new⟩ := h
 have hfr : A.frames = some (env :: outer) := hc ▸ F.stack
 have fin : ∀ (T0 : Addr) (h' : Heap), (S.base.get? T0 = none ∧ H T0 = none ∧ C.U T0 = none) →
   Heap.NotedW (hideAll s.heap (e :: T0 :: C.envs.filterMap (·.frame))) (env :: outer) e oe.cls a0 (rawInt L) s.heap h' → Same2 e vs h' → Q () { s with heap := h' } := by
  intro T0 h' hT0 hN hS
  obtain ⟨k1, k2, ⟨oe', vs', T, oT, ts, e1, ⟨e2, e3⟩, e4, e5, e6, e7, e8, e9, e10⟩, k4⟩ := hN
  have inB : ∀ b o, s.heap.get? b = some o → b ≠ e → b ≠ T0 → b ∉ C.envs.filterMap (·.frame) → (hideAll s.heap (e :: T0 :: C.envs.filterMap (·.frame))).get? b = some o := fun b o q n1 n2 n3 => by
   refine hideAll_get _ q fun hm => ?_
   rcases List.mem_cons.mp hm with z | hm
   ·exact n1 z
   ·rcases List.mem_cons.mp hm with z | hm
    ·exact n2 z
    ·exact n3 hm
  have frs : ∀ b, b ∈ C.envs.filterMap (·.frame) → b ∈ C.fr ∧ C.U b ≠ none := fun b hb => by
   obtain ⟨en, hen, hb⟩ := List.mem_filterMap.mp hb
   obtain ⟨_, L', o', hf', hfr', hU', _⟩ := F.fun_ en hen
   rw [hf'] at hb; cases hb
   exact ⟨hfr', by rw [hU']; exact fun q => by cases q⟩
  have J : Inv S C H { s with heap := h' } := by
   refine I.other (fun a => a = e ∨ a = T0) (fun a q => ?_) (fun b o q nb => ?_) (fun b o q hb hu => ?_) rfl rfl
   ·rcases q with q | q
    ·subst q; exact ⟨new.1, new.2.2, new.2.1⟩
    ·subst q; exact hT0
   ·by_cases hm : b ∈ C.envs.filterMap (·.frame)
    ·exact .inl (frs b hm)
    ·exact .inr (k1 b o (inB b o q (fun z => nb (.inl z)) (fun z => nb (.inr z)) hm))
   ·by_cases hd : ∀ ws, o.data ≠ .fields ws
    ·exact k4 b o q hd
    ·have hm : b ∉ C.envs.filterMap (·.frame) := fun hm => by
      obtain ⟨en, hen, hb'⟩ := List.mem_filterMap.mp hm
      obtain ⟨_, L', o', hf', hfr', hU', hd'⟩ := F.fun_ en hen
      rw [hf'] at hb'; cases hb'
      rcases I.keep _ _ hU' with w | ⟨_, sl, w⟩
      ·rw [q] at w; cases w; exact hd hd'
      ·rw [q] at w; cases w; exact hd hd'
     refine ⟨o.slots, k1 b o (inB b o q (fun z => ?_) (fun z => ?_) hm)⟩
     ·subst z; exact hu new.2.1
     ·subst z; exact hu hT0.2.2
  have notFr : T ∉ C.envs.filterMap (·.frame) := fun hm => by
   obtain ⟨q1, q2⟩ := k2.mem (hc ▸ hm)
   obtain ⟨o', ho', hd'⟩ := q2
   rw [e8] at ho'; cases ho'; exact hd' _ e9
  have freshT : ∀ o, s.heap.get? T = some o → T = T0 := fun o q => by
   by_cases z : T = T0
   ·exact z
   ·have := inB T o q e7 z notFr
    rw [e6] at this; cases this
  have tb0 : S.base.get? T = none := by
   cases q : S.base.get? T with
   | none => rfl
   | some o => have z := freshT o (I.base _ _ q); subst z; rw [hT0.1] at q; cases q
  have tbU : C.U T = none := by
   cases q : C.U T with
   | none => rfl
   | some o => obtain ⟨ob, z⟩ := (I.keep _ _ q).there; have z := freshT ob z; subst z; rw [hT0.2.2] at q; cases q
  have tbH : H T = none := by
   cases q : H T with
   | none => rfl
   | some o =>
    have y := I.objs _ _ q
    cases hs : isScript o with
    | false => obtain ⟨ob, z⟩ := y.there hs; have z := freshT ob z; subst z; rw [hT0.2.1] at q; cases q
    | true =>
     cases o with
     | script ns => obtain ⟨ws, ⟨ob, w, _⟩, _⟩ := y; rw [tb0] at w; cases w
     | _ => cases hs
  exact hQ e _ rfl ⟨J, new, oe', vs', K, T, oT, ts, a0, e1, h2, e2.trans h3, e4, ⟨e3, fun n => (hS oe' vs' e1 e4).trans (hcx n)⟩, e5, e7, e8, e9, e10, tb0, tbU, tbH⟩
 rcases tb with t1 | ⟨T, oT, ts, fl, t1, t2, t3, t4, t5, t6, t7, t8, t9⟩
 ·-- just made
  have hn : S.base.get? e = none ∧ H e = none ∧ C.U e = none := ⟨new.1, new.2.2, new.2.1⟩
  unfold noteFrame
  simp only [hf]
  refine wpAny_bind (wpAny_field h1 h4 t1 ?_)
  rw [if_neg (by decide)]
  refine entry2 hfr (F.frames I _ (fun en h => hc ▸ h) fun en h L' h' => ?_) hf h1 (fun b o q => of_hideAll _ q) (hideAll_none _ (.head _)) h4 hsz h5 fun h' hN hS => fin e h' hn hN hS
  exact .tail _ (.tail _ (List.mem_filterMap.mpr ⟨en, hc ▸ h, h'⟩))
 ·rcases t6 with rfl | ⟨env', outer', L', q1, q2, rfl⟩
  ·refine note_on2 (vs := vs) (base := hideAll s.heap (e :: T :: C.envs.filterMap (·.frame))) (cls := oe.cls) (a0 := a0) hfr (F.frames I _ (fun en h => hc ▸ h) fun en h L' h' => ?_) hf
    ⟨oe, vs, T, oT, ts, h1, ⟨rfl, h5⟩, h4, t1, hideAll_none _ (.tail _ (.head _)), t2, t3, t4, t5⟩ (fun b o q => of_hideAll _ q) (hideAll_none _ (.head _)) h1 h4 fun h' hN hS => fin T h' ⟨t7, t9, t8⟩ hN hS
   exact .tail _ (.tail _ (List.mem_filterMap.mpr ⟨en, hc ▸ h, h'⟩))
  ·rw [hc] at q1; cases q1
   rw [hf] at q2; cases q2
   exact wpAny_noteFrame_againW (base := hideAll s.heap [T]) (cls := oe.cls) (a0 := a0) hf ⟨oe, vs, T, oT, ts, h1, ⟨rfl, h5⟩, h4, t1, hideAll_none _ (.head _), t2, t3, t4, t5⟩
    (hQ e _ rfl ⟨I, new, oe, vs, K, T, oT, ts, a0, h1, h2, h3, h4, ⟨h5, hcx⟩, t1, t2, t3, t4, t5, t7, t8, t9⟩)
theorem Raised.leaves {M : Model} {x : Str} {v : Value} {env : Env} {outer : List Env} {L : Addr} {E : Value → Shared → Prop} {Q : Unit → Shared → Prop} (h : Raised S C H x v s) (F : FrOK S C A)
  (hc : C.envs = env :: outer) (hf : env.frame = some L) (hQ : ∀ e s', v = .ref e → HeldAt S C H x e .none s' → Q () s') : wpAny M A (leaving env v) Q E s := by
 unfold leaving
 refine wpAny_bind (h.note F hc hf fun e s' hv hh => ?_)
 subst hv
 exact hh.flight fun s'' h'' => hQ e s'' rfl h''
theorem Raised.through {M : Model} {x : Str} {v : Value} {env : Env} {outer : List Env} {L : Addr} {E : Value → Shared → Prop} (h : Raised S C H x v s) (F : FrOK S C A)
  (hc : C.envs = env :: outer) (hf : env.frame = some L) (hQ : ∀ s', Raised S C H x v s' → E v s') : notedBy M A env (cameBackBy M A env E) v s := by
 unfold notedBy
 refine h.note F hc hf fun e s' hv hh => ?_
 subst hv
 unfold cameBackBy
 obtain ⟨oe, vs, K, T, oT, ts, a0, h1, h2, h3, h4, h5, h6, h7⟩ := hh.at_
 refine wpAny_bind (wpAny_field h1 h4 h6 ?_)
 rw [if_neg (show ¬ ((Value.ref T == Value.none) = true) from by simp)]
 rw [hf]
 exact hh.flight fun s'' h'' => hQ s'' (h''.raised (.inr ⟨env, outer, L, hc, hf, rfl⟩))
end
end Mine
end
-- text A4
section
namespace Mine
open PySem PySem.Calls PyProof.Rows
section
variable {S : St} {C : Cx} {H : AH} {s : Shared} {A : Around} {env : Env} {ρ : Rho} {m : Mp}
theorem NsObj.uniq {o : Obj} {m m' : Str → Option Value} (x : NsObj o m) (y : NsObj o m') : m = m' := by
 obtain ⟨es, ep, h1, h2, h3⟩ := x
 obtain ⟨es', ep', k1, k2, k3⟩ := y
 rw [h1] at k1; cases k1
 funext n; rw [← h3, ← k3]
theorem store_nm {x : Str} {i : Nat} {v : Value} {av : AV} {M : Model} {E : Value → Shared → Prop} (O : EnvOK S C A env) (R : EnvRel C env ρ m) (I : Inv S C H s) (hρ : RhoOK ρ) (hx : (x, i) ∈ ρ) (hv : VR v av)
  (hk : env.kindOf x = some .local ∨ env.kindOf x = some .cell) :
  wpAny M A (storeName env x v) (fun _ s' => ∃ C' a o', ((env.kindOf x = some .local ∧ a = env.locals) ∨ (env.kindOf x = some .cell ∧ env.cells.lookup x = some a)) ∧ C' = C.hide a o' ∧ EnvOK S C' A env ∧ EnvRel C' env ρ (m.upd i av) ∧ Inv S C' H s') E s := by
 rcases hk with hk | hk
 ·obtain ⟨o, m₀, hU, hN⟩ := O.loc
  have hns : s.heap.Ns env.locals m₀ := by
   obtain ⟨es, ep, hd, r1, r2⟩ := id hN
   rcases I.keep _ _ hU with e | ⟨_, sl, e⟩
   ·exact ⟨o, es, ep, e, hd, r1, r2⟩
   ·exact ⟨_, es, ep, e, hd, r1, r2⟩
  refine wpAny_storeName_local hk hns (fun h' hn hs => ?_) (by rw [O.kind]; rfl)
  obtain ⟨o', es', ep', ho', hd', sk', hf'⟩ := hn
  have N' : NsObj o' (fun y => if y = x then some v else m₀ y) := ⟨es', ep', hd', sk', hf'⟩
  refine ⟨C.hide env.locals o', env.locals, o', .inl ⟨hk, rfl⟩, rfl, ⟨O.kind, O.glob, O.blt, O.cells, fun y c hc => ?_, O.apart, ⟨o', _, Cx.hide_self .., N'⟩, O.stack, fun en he => ?_⟩, fun y j w hy hw => ?_, ?_⟩
  ·obtain ⟨h1, h2, o2, v2, h3, h4⟩ := O.cellU y c hc
   exact ⟨h1, h2, o2, v2, (Cx.hide_ne _ _ h1).trans h3, h4⟩
  ·obtain ⟨h1, L, o2, h2, h3, h4, h5⟩ := O.fun_ en he
   by_cases q : L = env.locals
   ·exact ⟨h1, L, o', h2, h3, by rw [q]; exact Cx.hide_self .., fun vs z => by rw [hd'] at z; cases z⟩
   ·exact ⟨h1, L, o2, h2, h3, (Cx.hide_ne _ _ q).trans h4, h5⟩
  ·by_cases q : j = i
   ·have e : y = x := ((hρ _ hy _ hx).mpr q)
    subst e; subst q
    rw [Mp.upd_self] at hw; cases hw
    exact ⟨v, hv, .inl ⟨hk, o', _, Cx.hide_self .., N', if_pos rfl⟩⟩
   ·rw [Mp.upd_ne _ _ q] at hw
    have e : y ≠ x := fun z => q ((hρ _ hy _ hx).mp z)
    obtain ⟨cv, h1, V⟩ := R y j w hy hw
    refine ⟨cv, h1, ?_⟩
    rcases V with ⟨k1, o2, m2, k2, k3, k4⟩ | ⟨k1, c, o2, k2, k3, k4⟩
    ·rw [hU] at k2; cases k2
     rw [k3.uniq hN] at k4
     exact .inl ⟨k1, o', _, Cx.hide_self .., N', by simp only [if_neg e]; exact k4⟩
    ·exact .inr ⟨k1, c, o2, k2, (Cx.hide_ne _ _ (O.cellU y c k2).1).trans k3, k4⟩
  ·exact I.turn hU (fun b ob hb e => (hs.2 b hb).trans e) ho' rfl rfl
 ·obtain ⟨c, hc⟩ := O.cells x (.inl hk)
  obtain ⟨h1, h2, o, v₀, hU, hd⟩ := O.cellU x c hc
  have hcell : s.heap.IsCell c v₀ := by
   rcases I.keep _ _ hU with e | ⟨_, sl, e⟩
   ·exact ⟨o, e, hd⟩
   ·exact ⟨_, e, hd⟩
  refine wpAny_storeName_cell O.kind hk hc hcell fun h' hn hs => ?_
  obtain ⟨o', ho', hd'⟩ := hn
  refine ⟨C.hide c o', c, o', .inr ⟨hk, hc⟩, rfl, ⟨O.kind, O.glob, O.blt, O.cells, fun y c' hc' => ?_, O.apart, ?_, O.stack, fun en he => ?_⟩, fun y j w hy hw => ?_, ?_⟩
  ·obtain ⟨k1, k2, o2, v2, k3, k4⟩ := O.cellU y c' hc'
   by_cases q : c' = c
   ·subst q; exact ⟨k1, k2, o', _, Cx.hide_self .., hd'⟩
   ·exact ⟨k1, k2, o2, v2, (Cx.hide_ne _ _ q).trans k3, k4⟩
  ·obtain ⟨o2, m2, k1, k2⟩ := O.loc
   exact ⟨o2, m2, (Cx.hide_ne _ _ (Ne.symm h1)).trans k1, k2⟩
  ·obtain ⟨k1, L, o2, k2, k3, k4, k5⟩ := O.fun_ en he
   exact ⟨k1, L, o2, k2, k3, (Cx.hide_ne _ _ fun q => h2 (by rw [← q]; exact k3)).trans k4, k5⟩
  ·by_cases q : j = i
   ·have e : y = x := ((hρ _ hy _ hx).mpr q)
    subst e; subst q
    rw [Mp.upd_self] at hw; cases hw
    exact ⟨v, hv, .inr ⟨.inl hk, c, o', hc, Cx.hide_self .., hd'⟩⟩
   ·rw [Mp.upd_ne _ _ q] at hw
    have e : y ≠ x := fun z => q ((hρ _ hy _ hx).mp z)
    obtain ⟨cv, h3, V⟩ := R y j w hy hw
    refine ⟨cv, h3, ?_⟩
    rcases V with ⟨k1, o2, m2, k2, k3, k4⟩ | ⟨k1, c', o2, k2, k3, k4⟩
    ·exact .inl ⟨k1, o2, m2, (Cx.hide_ne _ _ (Ne.symm h1)).trans k2, k3, k4⟩
    ·have hcc : c' ≠ c := fun z => e (O.apart y x c (z ▸ k2) hc)
     exact .inr ⟨k1, c', o2, k2, (Cx.hide_ne _ _ hcc).trans k3, k4⟩
  ·exact I.turn hU (fun b ob hb e => (hs.2 b hb).trans e) ho' rfl rfl
theorem store_var {x : Str} {i : Nat} {v : Value} {av : AV} {M : Model} {E : Value → Shared → Prop} (O : EnvOK S C A env) (R : EnvRel C env ρ m) (I : Inv S C H s) (hρ : RhoOK ρ) (hx : (x, i) ∈ ρ) (hv : VR v av)
  (hk : env.kindOf x = some .local ∨ env.kindOf x = some .cell) :
  wpAny M A (bindName env x v) (fun _ s' => ∃ C' a o', ((env.kindOf x = some .local ∧ a = env.locals) ∨ (env.kindOf x = some .cell ∧ env.cells.lookup x = some a)) ∧ C' = C.hide a o' ∧ EnvOK S C' A env ∧ EnvRel C' env ρ (m.upd i av) ∧ Inv S C' H s') E s :=
 wpAny_bindName (store_nm O R I hρ hx hv hk)
theorem FUpd.stored {C C' : Cx} {x : Str} {a : Addr} {o' : Obj} (h : (env.kindOf x = some .local ∧ a = env.locals) ∨ (env.kindOf x = some .cell ∧ env.cells.lookup x = some a)) (e : C' = C.hide a o') : FUpd env C C' := by
 subst e
 refine ⟨rfl, rfl, fun b h1 h2 => Cx.hide_ne _ _ fun q => ?_⟩
 rcases h with ⟨_, h⟩ | ⟨_, h⟩
 ·exact h1 (q.trans h)
 ·exact h2 x (by rw [q]; exact h)
end
section
variable {S : St} {b : Bool} {d : Nat} {sc : Kd} {ρ : Rho}
noncomputable def SoundT (S : St) (b : Bool) (d : Nat) (sc : Kd) (ρ : Rho) (st : Stmt) (t : Ts) : Prop :=
 ∀ (C : Cx) (A : Around) (env : Env) (m : Mp) (H : AH) (QN : Mp → AH → Prop) (QR : QV) (X : QX) (E : Value → Shared → Prop) (s : Shared),
  Room b d A → EnvOK S C A env → (∃ outer, C.envs = env :: outer) → (∀ x, env.kindOf x = sc x) → EnvRel C env ρ m → Inv S C H s → t m H QN QR X → ExOKS S C A env X E →
  wpAny S.M A (exec st env) (PostS S C A env ρ QN QR) E s
theorem ExOKS.at {C C' : Cx} {A : Around} {env : Env} {X : QX} {E : Value → Shared → Prop} (h : ExOKS S C A env X E) (f : FUpd env C C') : ExOKS S C' A env X E := fun C'' x H' v s' f' hf hx r => h C'' x H' v s' (f.trans f') hf hx r
theorem ExOKS.ex {C : Cx} {A : Around} {env : Env} {X : QX} {E : Value → Shared → Prop} (h : ExOKS S C A env X E) (O : EnvOK S C A env) : ExOK S C X E := fun x H' v s' hx r => h C x H' v s' (.refl env C) O hx r
noncomputable def tSkip : Ts := fun m H QN _ _ => QN m H
noncomputable def tSeq (t u : Ts) : Ts := fun m H QN QR X => t m H (fun m1 H1 => u m1 H1 QN QR X) QR X
theorem sS_nil : SoundS S b d sc ρ [] tSkip := by
 intro C A env m H QN QR X E s R O hc hk V I h hE
 exact wpAny_execs_nil ⟨C, H, .refl env C, I, m, O, V, h⟩
theorem sS_cons {st : Stmt} {rest : List Stmt} {t u : Ts} (h1 : SoundT S b d sc ρ st t) (h2 : SoundS S b d sc ρ rest u) : SoundS S b d sc ρ (st :: rest) (tSeq t u) := by
 intro C A env m H QN QR X E s R O hc hk V I h hE
 refine wpAny_execs_cons (wpAny_mono (h1 C A env m H _ QR X E s R O hc hk V I h hE) ?_ fun _ _ x => x)
 rintro f s1 ⟨C1, H1, f1, I1, p⟩
 cases f with
 | next =>
  obtain ⟨m1, O1, V1, q1⟩ := p
  refine wpAny_mono (h2 C1 A env m1 H1 QN QR X E s1 R O1 (by rw [f1.envs]; exact hc) hk V1 I1 q1 (hE.at f1)) ?_ fun _ _ x => x
  rintro f2 s2 ⟨C2, H2, f2', I2, p2⟩
  exact ⟨C2, H2, f1.trans f2', I2, p2⟩
 | ret v => exact ⟨C1, H1, f1, I1, p⟩
 | brk => exact p.elim
 | cont => exact p.elim
noncomputable def tAssign (i : Nat) (t : Tm) : Ts := fun m H QN _ X => t m H (fun v H1 => QN (m.upd i v) H1) X
theorem sT_assign {x : Str} {i : Nat} {e : Expr} {p pos : Pos} {t : Tm} (h1 : SoundE S b d sc ρ e t) (hρ : RhoOK ρ) (hx : ρ.lookup x = some i) (hk : sc x = some .local ∨ sc x = some .cell)
  (hs : ∀ env, swapsWith e (some (.Name x p)) pos.line env = pure false) : SoundT S b d sc ρ (.Assign [.Name x p] e pos) (tAssign i t) := by
 intro C A env m H QN QR X E s R O hc hk' V I h hE
 rw [exec_Assign_Name env x p e pos (hs env)]
 refine wpAny_bind (wpAny_standAt (wpAny_bind (wpAny_mono (h1 C A env m H _ X E s R O hk' V I h (hE.ex O)) ?_ fun _ _ x => x)))
 rintro v s1 ⟨av, H1, r1, I1, q1⟩
 refine wpAny_bind (wpAny_standAt (wpAny_bind (wpAny_mono (store_var O V I1 hρ (mem_of_lookup hx) r1 (by rw [hk']; exact hk)) ?_ fun _ _ x => x)))
 rintro _ s2 ⟨C2, a2, o2, w2, e2, O2, V2, I2⟩
 exact wpAny_pure ⟨C2, H1, .stored w2 e2, I2, _, O2, V2, q1⟩
noncomputable def tRet (t : Tm) : Ts := fun m H _ QR X => t m H QR X
theorem sT_ret {e : Expr} {pos : Pos} {t : Tm} (h1 : SoundE S b d sc ρ e t) : SoundT S b d sc ρ (.Return (some e) pos) (tRet t) := by
 intro C A env m H QN QR X E s R O hc hk' V I h hE
 refine wpAny_Return_some (wpAny_mono (h1 C A env m H _ X E s R O hk' V I h (hE.ex O)) ?_ fun _ _ x => x)
 rintro v s1 ⟨av, H1, r1, I1, q1⟩
 exact ⟨C, H1, .refl env C, I1, O, av, r1, q1⟩
noncomputable def tIte (c : Tb) (t u : Ts) : Ts := fun m H QN QR X => c m H (fun x H1 => if x = true then t m H1 QN QR X else u m H1 QN QR X) X
theorem sT_if {c : Expr} {bd el : List Stmt} {pos : Pos} {tc : Tb} {t u : Ts} (h1 : SoundB S b d sc ρ c tc) (h2 : SoundS S b d sc ρ bd t) (h3 : SoundS S b d sc ρ el u) : SoundT S b d sc ρ (.If c bd el pos) (tIte tc t u) := by
 intro C A env m H QN QR X E s R O hc hk' V I h hE
 rw [exec_If]
 refine wpAny_bind (wpAny_standAt (wpAny_bind (wpAny_mono (h1 C A env m H _ X E s R O hk' V I h (hE.ex O)) ?_ fun _ _ x => x)))
 rintro x s1 ⟨H1, I1, q1⟩
 cases x with
 | true => simp only [if_true] at q1 ⊢; exact h2 C A env m H1 QN QR X E s1 R O hc hk' V I1 q1 hE
 | false => simp only [Bool.false_eq_true, if_false] at q1 ⊢; exact h3 C A env m H1 QN QR X E s1 R O hc hk' V I1 q1 hE
noncomputable def tExpr (t : Tm) : Ts := fun m H QN _ X => t m H (fun v H1 => (∀ a, v ≠ .ref a) ∧ QN m H1) X
theorem sT_expr {e : Expr} {pos : Pos} {t : Tm} (h1 : SoundE S b d sc ρ e t) (hs : ∀ env, swapsWith e none pos.line env = pure false) : SoundT S b d sc ρ (.Expr e pos) (tExpr t) := by
 intro C A env m H QN QR X E s R O hc hk' V I h hE
 have hi : interactive env = false := by unfold interactive; rw [O.kind]; rfl
 rw [exec_Expr env e pos hi (hs env)]
 refine wpAny_bind (wpAny_standAt (wpAny_bind (wpAny_mono (h1 C A env m H _ X E s R O hk' V I h (hE.ex O)) ?_ fun _ _ x => x)))
 rintro v s1 ⟨av, H1, r1, I1, q0, q1⟩
 rw [dropValue_plain fun a z => by subst z; cases r1; exact q0 a rfl]
 exact wpAny_pure ⟨C, H1, .refl env C, I1, m, O, V, q1⟩
end
structure StOK (S : St) : Prop where
 g : S.base.Ns mainGlobals S.mg
 b : S.base.Ns builtinsNs S.mb
 nolimit : S.base.NoLimit
 sys : ∃ o, S.base.get? sysModules = some o
noncomputable def IsDef (S : St) (f : Addr) (name : Str) (ps : List Str) (sc : Scope) (body : List Stmt) : Prop :=
 ∃ o fd, S.base.get? f = some o ∧ o.data = .func fd ∧ fd.body = .stmts body ∧ fd.scope = sc ∧ fd.closure = [] ∧ fd.globals = mainGlobals ∧ fd.builtins = builtinsNs ∧ S.base.CodeRec fd.code fd.qualname ∧
  (∀ vals : List Value, vals.length = ps.length → bindArgs fd ⟨vals, []⟩ = pure (ps.zip vals)) ∧ fd.name = name
noncomputable def mapOf : List Nat → List AV → Mp
 | i :: is, v :: vs => (mapOf is vs).upd i v
 | _, _ => fun _ => none
noncomputable def mkFn (is : List Nat) (t : Ts) : Fn := fun vs H Q X => vs.length = is.length ∧ t (mapOf is vs) H (fun _ H1 => Q .none H1) Q X
section
variable {S : St} {b : Bool} {d : Nat} {ρ : Rho}
theorem cellsFrom_mem {n : Nat} : ∀ {names : List (Str × NameKind)} {acc : List (Str × Addr)} {x : Str}, names.lookup x = some .cell ∨ (acc.lookup x).isSome = true → ((cellsFrom n names acc).lookup x).isSome = true := by
 intro names
 induction names generalizing n with
 | nil => intro acc x h; exact h.elim (fun e => by cases e) id
 | cons p r ih =>
  obtain ⟨y, k⟩ := p
  intro acc x h
  unfold cellsFrom
  by_cases hk : (k == NameKind.cell) = true
  ·rw [if_pos hk]
   refine ih ?_
   by_cases hy : (x == y) = true
   ·exact .inr (by rw [List.lookup_cons, hy]; rfl)
   ·refine h.imp (fun e => ?_) fun e => ?_
    ·rw [List.lookup_cons] at e; simpa only [hy] using e
    ·rw [List.lookup_cons]; simpa only [hy] using e
  ·rw [if_neg hk]
   refine ih ?_
   by_cases hy : (x == y) = true
   ·refine .inr (h.elim (fun e => ?_) id)
    rw [List.lookup_cons, hy] at e
    exact absurd (by rw [Option.some.inj e]; rfl) hk
   ·refine h.imp (fun e => ?_) id
    rw [List.lookup_cons] at e; simpa only [hy] using e
theorem cellsFrom_kind {n : Nat} : ∀ {names : List (Str × NameKind)} {acc : List (Str × Addr)} {x : Str} {c : Addr}, (x, c) ∈ cellsFrom n names acc → (x, c) ∈ acc ∨ (x, NameKind.cell) ∈ names := by
 intro names
 induction names generalizing n with
 | nil => intro acc x c h; exact .inl h
 | cons p r ih =>
  obtain ⟨y, k⟩ := p
  intro acc x c h
  unfold cellsFrom at h
  by_cases hk : (k == NameKind.cell) = true
  ·rw [if_pos hk] at h
   rcases ih h with q | q
   ·rcases List.mem_cons.mp q with e | q
    ·cases e; exact .inr (by rw [show k = NameKind.cell by simpa using hk]; exact .head _)
    ·exact .inl q
   ·exact .inr (.tail _ q)
  ·rw [if_neg hk] at h
   exact (ih h).imp id fun q => .tail _ q
theorem bindL_get {kd : Str → Option NameKind} {x : Str} (hx : kd x = some .local) : ∀ (binds : List (Str × Value)) (m : Str → Option Value), (∀ v, (x, v) ∉ binds) → bindL kd binds m x = m x
 | [], _, _ => rfl
 | (n, v) :: r, m, h => by
  unfold bindL
  rw [bindL_get hx r _ fun w hw => h w (.tail _ hw)]
  by_cases q : kd n = some .local
  ·rw [if_pos q, if_neg fun z => h v (by rw [z]; exact .head _)]
  ·rw [if_neg q]
theorem bindC_get {kd : Str → Option NameKind} {x : Str} : ∀ (binds : List (Str × Value)) (m : Str → Option Value), (∀ v, (x, v) ∉ binds) → bindC kd binds m x = m x
 | [], _, _ => rfl
 | (n, v) :: r, m, h => by
  unfold bindC
  rw [bindC_get r _ fun w hw => h w (.tail _ hw)]
  by_cases q : kd n = some .local
  ·rw [if_pos q]
  ·rw [if_neg q, if_neg fun z => h v (by rw [z]; exact .head _)]
theorem bind_at {kd : Str → Option NameKind} : ∀ {ps : List Str} {is : List Nat} {vals : List Value} {avs : List AV} {ρ : Rho} (mL mC : Str → Option Value), ps.Nodup → is.Nodup → RhoOK ρ → (∀ p ∈ ps.zip is, p ∈ ρ) → ps.length = is.length →
  VRs vals avs → ∀ {x : Str} {i : Nat} {v : AV}, (x, i) ∈ ρ → mapOf is avs i = some v → ∃ cv, VR cv v ∧ (kd x = some .local → bindL kd (ps.zip vals) mL x = some cv) ∧ (kd x ≠ some .local → bindC kd (ps.zip vals) mC x = some cv)
 | [], is, vals, avs, ρ, mL, mC, _, _, _, _, hl, hv, x, i, v, hx, hm => by
  cases is with
  | nil => cases avs <;> simp [mapOf] at hm
  | cons _ _ => simp at hl
 | p :: ps, is, vals, avs, ρ, mL, mC, hp, hi, hρ, hin, hl, hv, x, i, v, hx, hm => by
  cases is with
  | nil => simp at hl
  | cons j is =>
   cases hv with
   | nil => simp [mapOf] at hm
   | @cons u a us as hu hr =>
    obtain ⟨hp1, hp2⟩ := List.nodup_cons.mp hp
    obtain ⟨hi1, hi2⟩ := List.nodup_cons.mp hi
    have hpj : (p, j) ∈ ρ := hin _ (.head _)
    simp only [mapOf] at hm
    by_cases q : i = j
    ·have e : x = p := (hρ _ hx _ hpj).mpr q
     subst e; subst q
     rw [Mp.upd_self] at hm; cases hm
     have nm : ∀ w, (x, w) ∉ ps.zip us := fun w hw => hp1 (List.of_mem_zip hw).1
     refine ⟨u, hu, fun hk => ?_, fun hk => ?_⟩
     ·show bindL kd ((x, u) :: ps.zip us) mL x = _
      unfold bindL
      rw [bindL_get hk _ _ nm, if_pos hk, if_pos rfl]
     ·show bindC kd ((x, u) :: ps.zip us) mC x = _
      unfold bindC
      rw [bindC_get _ _ nm, if_neg hk, if_pos rfl]
    ·rw [Mp.upd_ne _ _ q] at hm
     have e : x ≠ p := fun z => q ((hρ _ hx _ hpj).mp z)
     obtain ⟨cv, h1, h2, h3⟩ := bind_at (kd := kd) (if kd p = some .local then fun y => if y = p then some u else mL y else mL) (if kd p = some .local then mC else fun y => if y = p then some u else mC y) hp2 hi2 hρ
      (fun z hz => hin z (.tail _ hz)) (by simpa using hl) hr hx hm
     exact ⟨cv, h1, h2, h3⟩
set_option maxHeartbeats 1000000 in
theorem sF_def {f : Addr} {name : Str} {ps : List Str} {is : List Nat} {sc : Scope} {body : List Stmt} {t : Ts} (K : StOK S) (hf : IsDef S f name ps sc body) (hb : SoundS S b d (fun x => sc.names.lookup x) ρ body t)
  (hps : ps.Nodup) (his : is.Nodup) (hρ : RhoOK ρ) (hin : ∀ p ∈ ps.zip is, p ∈ ρ) (hl : ps.length = is.length)
  (hkind : ∀ p ∈ ps, sc.names.lookup p = some .local ∨ sc.names.lookup p = some .cell) (hnd : (sc.names.map (·.1)).Nodup) (hfree : ∀ p ∈ sc.names, p.2 ≠ .free)
  (hsk : sc.kind = .function) (hco : sc.isCoroutine = false) (hgen : sc.isGenerator = false) : SoundF S b (d + 1) (.ref f) (mkFn is t) := by
 intro C A vs avs H Q X s R F hv I h
 obtain ⟨hlen, ht⟩ := h
 obtain ⟨o, fd, ho, hd, hbody, rfl, hclo, hg, hblt, hcr, hbind, _⟩ := hf
 have hvl : vs.length = ps.length := by rw [hv.length, hlen, hl]
 have hroom : A.depth < recursionLimit := by have := R.depth; show A.depth < 1000; lia
 refine codeAny_call_cells hroom (I.base _ _ ho) hd (K.nolimit.keeps I.base) (hcr.keeps I.base) hbody (hbind vs hvl) hclo (fun x hx => ?_) (fun s1 z => ?_) hco hgen hsk
 ·obtain ⟨hx1, _⟩ := List.of_mem_zip (show (x.1, x.2) ∈ ps.zip vs from hx)
  rcases hkind x.1 hx1 with q | q
  ·exact .inl q
  ·exact .inr ⟨q, cellsFrom_mem (.inl q)⟩
 ·generalize hE : callEnvC fd s.heap.objs.size f = env at z ⊢
  have e1 : env.scope = fd.scope := by rw [← hE]; rfl
  have e2 : env.locals = s.heap.objs.size := by rw [← hE]; rfl
  have e3 : env.cells = cellsFrom (s.heap.objs.size + 1) fd.scope.names [] := by rw [← hE]; rfl
  have e4 : env.frame = some s.heap.objs.size := by rw [← hE]; rfl
  have e5 : env.globals = mainGlobals := by rw [← hE]; exact hg
  have e6 : env.builtins = builtinsNs := by rw [← hE]; exact hblt
  have keep := z.toInCall.keep
  obtain ⟨h1, tk, rfl⟩ := z.toInCall.same
  dsimp only at keep
  have nL : s.heap.get? s.heap.objs.size = none := by
   cases q : s.heap.get? s.heap.objs.size with
   | none => rfl
   | some o => exact absurd (Heap.lt_size q) (Nat.lt_irrefl _)
  have old : ∀ {a : Addr} {o : Obj}, s.heap.get? a = some o → a < s.heap.objs.size := fun e => Heap.lt_size e
  have cellsUp : ∀ x c, env.cells.lookup x = some c → s.heap.objs.size < c := fun x c hc => e2 ▸ z.above x c (mem_of_lookup hc)
  have above : ∀ a, a = env.locals ∨ (∃ x, env.cells.lookup x = some a) → s.heap.get? a = none := fun a ha => by
   cases q : s.heap.get? a with
   | none => rfl
   | some o =>
    have lt := old q
    rcases ha with ha | ⟨x, ha⟩
    ·rw [ha, e2] at lt; exact absurd lt (Nat.lt_irrefl _)
    ·exact absurd (Nat.lt_trans lt (cellsUp x a ha)) (Nat.lt_irrefl _)
  classical
  let C1 : Cx := { U := fun a => if a = env.locals ∨ (∃ x, env.cells.lookup x = some a) then h1.get? a else C.U a, fr := env.locals :: C.fr, envs := env :: C.envs }
  have U1 : ∀ a, (a = env.locals ∨ ∃ x, env.cells.lookup x = some a) → C1.U a = h1.get? a := fun a ha => if_pos ha
  have U2 : ∀ a, ¬ (a = env.locals ∨ ∃ x, env.cells.lookup x = some a) → C1.U a = C.U a := fun a ha => if_neg ha
  have own : ∀ a o, C.U a = some o → ¬ (a = env.locals ∨ ∃ x, env.cells.lookup x = some a) := fun a o e q => by
   obtain ⟨ob, w⟩ := (I.keep _ _ e).there; rw [above a q] at w; cases w
  have J := I.grow (s' := { s with heap := h1, toks := tk }) keep rfl rfl
  have I1 : Inv S C1 H { s with heap := h1, toks := tk } := by
   refine ⟨J.base, fun a o e => ?_, J.objs, fun a o e => ⟨?_, (J.sepH a o e).2⟩, fun a o e => ?_, J.gens, J.os, fun a ha => ?_⟩
   ·by_cases q : a = env.locals ∨ ∃ x, env.cells.lookup x = some a
    ·rw [U1 a q] at e; exact .inl e
    ·rw [U2 a q] at e
     rcases J.keep a o e with w | ⟨w, sl, w'⟩
     ·exact .inl w
     ·exact .inr ⟨.tail _ w, sl, w'⟩
   ·have lt := I.lt e
    rw [U2 a fun q => ?_]
    ·exact (I.sepH a o e).1
    ·rcases q with q | ⟨x, q⟩
     ·rw [q, e2] at lt; exact absurd lt (Nat.lt_irrefl _)
     ·exact absurd (Nat.lt_trans lt (cellsUp x a q)) (Nat.lt_irrefl _)
   ·by_cases q : a = env.locals ∨ ∃ x, env.cells.lookup x = some a
    ·exact (I.fresh (above a q)).2.2
    ·rw [U2 a q] at e; exact I.sepU a o e
   ·rcases List.mem_cons.mp ha with q | q
    ·obtain ⟨oL, _, _, hoL, _⟩ := z.toInCall.ns
     exact ⟨oL, by rw [q, U1 _ (.inl rfl)]; exact hoL⟩
    ·obtain ⟨o, w⟩ := I.frU a q
     exact ⟨o, (U2 a (own a o w)).trans w⟩
  obtain ⟨oL, es, ep, hoL, hdL, rL1, rL2⟩ := z.toInCall.ns
  have NL : NsObj oL (bindL env.kindOf (ps.zip vs) fun _ => none) := ⟨es, ep, hdL, rL1, rL2⟩
  have kd : ∀ x, env.kindOf x = fd.scope.names.lookup x := fun x => by unfold Env.kindOf; rw [e1]
  have O1 : EnvOK S C1 (A.deeper env) env := by
   refine ⟨by rw [e1]; exact hsk, e5, e6, fun x hx => ?_, fun x c hc => ?_, fun x y c hx hy => ?_, ⟨oL, _, (U1 _ (.inl rfl)).trans hoL, NL⟩, ?_, fun en he => ?_⟩
   ·rw [kd] at hx
    rcases hx with q | q
    ·rw [e3]; exact Option.isSome_iff_exists.mp (cellsFrom_mem (.inl q))
    ·exact absurd rfl (hfree _ (mem_of_lookup q))
   ·have lt := cellsUp x c hc
    obtain ⟨oc, hoc, hdc⟩ := z.cell x c hc
    refine ⟨by rw [e2]; exact Nat.ne_of_gt lt, fun hm => ?_, oc, _, (U1 _ (.inr ⟨x, hc⟩)).trans hoc, hdc⟩
    rcases List.mem_cons.mp hm with q | q
    ·rw [q, e2] at lt; exact absurd lt (Nat.lt_irrefl _)
    ·obtain ⟨o, w⟩ := I.frU c q
     exact own c o w (.inr ⟨x, hc⟩)
   ·exact name_of_addr z.apart (mem_of_lookup hx) (mem_of_lookup hy)
   ·show (A.deeper env).frames = some (env :: C.envs)
    show A.frames.map _ = _
    rw [F.stack]; rfl
   ·rcases List.mem_cons.mp he with rfl | he
    ·exact ⟨by rw [e1, hsk]; decide, s.heap.objs.size, oL, e4, by rw [← e2]; exact .head _, by rw [← e2]; exact (U1 _ (.inl rfl)).trans hoL, fun ws q => by rw [hdL] at q; cases q⟩
    ·obtain ⟨k1, L, o', k2, k3, k4, k5⟩ := F.fun_ en he
     exact ⟨k1, L, o', k2, .tail _ k3, (U2 _ (own L o' k4)).trans k4, k5⟩
  have V1 : EnvRel C1 env ρ (mapOf is avs) := by
   intro x i v hx hm
   obtain ⟨cv, q1, q2, q3⟩ := bind_at (kd := env.kindOf) (fun _ => none) (fun _ => none) hps his hρ hin hl hv hx hm
   refine ⟨cv, q1, ?_⟩
   by_cases w : env.kindOf x = some .local
   ·exact .inl ⟨w, oL, _, (U1 _ (.inl rfl)).trans hoL, NL, q2 w⟩
   ·have hxp : x ∈ ps := by
     apply Classical.byContradiction
     intro nx
     have hi : i ∉ is := fun hi => by
      obtain ⟨k, hk, e⟩ := List.mem_iff_getElem.mp hi
      have hk' : k < ps.length := by lia
      have : (ps[k], is[k]) ∈ ps.zip is := List.mem_iff_getElem.mpr ⟨k, by simp; lia, by simp⟩
      have := (hρ _ hx _ (hin _ this)).mpr (by simpa using e.symm)
      exact nx (by rw [show x = ps[k] from this]; exact List.getElem_mem _)
     have : ∀ (is : List Nat) (avs : List AV), i ∉ is → mapOf is avs i = none := by
      intro is
      induction is with
      | nil => intro avs _; cases avs <;> rfl
      | cons j is ih =>
       intro avs hn
       cases avs with
       | nil => rfl
       | cons a as =>
        show (mapOf is as).upd j a i = none
        rw [Mp.upd_ne _ _ fun q => hn (by rw [q]; exact .head _)]
        exact ih as fun q => hn (.tail _ q)
     rw [this is avs hi] at hm; cases hm
    rcases hkind x hxp with u | u
    ·exact absurd ((kd x).trans u) w
    ·have u' : env.kindOf x = some .cell := (kd x).trans u
     obtain ⟨c, hc⟩ := O1.cells x (.inl u')
     obtain ⟨oc, hoc, hdc⟩ := z.cell x c hc
     exact .inr ⟨.inl u', c, oc, hc, (U1 _ (.inr ⟨x, hc⟩)).trans hoc, by rw [hdc, q3 w]⟩
  have R1 : Room b d (A.deeper env) := by
   refine ⟨R.hd, ?_, ?_⟩
   ·have := R.depth; show A.depth + 1 + 8 * d ≤ 600; lia
   ·have := R.units; show A.units + 3 + 100 * d ≤ 9000; lia
  have back : ∀ {C2 : Cx} {H2 : AH} {s2 : Shared}, FUpd env C1 C2 → Inv S C2 H2 s2 → Inv S C H2 s2 := fun {C2 H2 s2} f2 I2 => by
   refine I2.less (fun a ha hu => ?_) (fun a o e => ?_) I.frU
   ·rw [f2.fr] at ha
    rcases List.mem_cons.mp ha with q | q
    ·cases w : C.U a with
     | none => exact absurd w hu
     | some o => exact absurd (.inl q) (own a o w)
    ·exact q
   ·have n := own a o e
    rw [f2.other a (fun q => n (.inl q)) (fun x q => n (.inr ⟨x, q⟩)), U2 a n]; exact e
  refine wpAny_mono (hb C1 (A.deeper env) env (mapOf is avs) H _ Q X _ _ R1 O1 ⟨_, rfl⟩ kd V1 I1 ht ?_) ?_ fun _ _ x => x
  ·intro C2 x H2 v s2 f2 F2 hx hr
   refine hr.leaves (.of_env F2) f2.envs e4 fun e s3 hv hh => ?_
   subst hv
   have I3 := hh.inv
   have back' := back f2 I3
   obtain ⟨n1, n2, n3⟩ := hh.new
   have le : ∀ a, C2.U a = none → C.U a = none := fun a q => by
    cases w : C.U a with
    | none => rfl
    | some o =>
     have n := own a o w
     rw [f2.other a (fun q => n (.inl q)) (fun x q => n (.inr ⟨x, q⟩)), U2 a n, w] at q; cases q
   obtain ⟨oe, vs', K', T, oT, ts, a0, k1, k2, k3, k4, k5, k6, k7, k8, k9, k10, k11, k12, k13⟩ := hh.at_
   have hh' : HeldAt S C H2 x e .none s3 := ⟨back', ⟨n1, le _ n2, n3⟩, oe, vs', K', T, oT, ts, a0, k1, k2, k3, k4, k5, k6, k7, k8, k9, k10, k11, le _ k12, k13⟩
   exact ⟨x, H2, hx, hh'.raised (.inl rfl)⟩
  ·rintro fl s2 ⟨C2, H2, f2, I2, p⟩
   cases fl with
   | next => obtain ⟨m2, _, _, q⟩ := p; exact ⟨_, H2, .none, back f2 I2, q⟩
   | ret v => obtain ⟨_, av, q1, q2⟩ := p; exact ⟨av, H2, q1, back f2 I2, q2⟩
   | brk => exact p.elim
   | cont => exact p.elim
end
end Mine
end
-- text A5
section
namespace Mine
open PySem PySem.Calls PyProof.Rows
section
variable {S : St} {b : Bool} {d : Nat} {sc : Kd} {ρ : Rho}
theorem load_global {C : Cx} {A : Around} {env : Env} {H : AH} {s : Shared} {x : Str} {pos : Pos} {v : Value} {E : Value → Shared → Prop} {Q : Value → Shared → Prop} (K : StOK S) (O : EnvOK S C A env) (I : Inv S C H s)
  (hx : env.kindOf x = some .globalImplicit) (hv : S.mg x = some v) (hd : (x == ("__debug__" : Str)) = false) (h : Q v s) : wpAny S.M A (eval (.Name x pos) env) Q E s :=
 Name_function_global O.kind hx (loadGlobal_global (by rw [O.glob]; exact K.g.keeps I.base) hv h) hd
theorem load_builtin {C : Cx} {A : Around} {env : Env} {H : AH} {s : Shared} {x : Str} {pos : Pos} {v : Value} {E : Value → Shared → Prop} {Q : Value → Shared → Prop} (K : StOK S) (O : EnvOK S C A env) (I : Inv S C H s)
  (hx : env.kindOf x = some .globalImplicit) (hm : S.mg x = none) (hv : S.mb x = some v) (hd : (x == ("__debug__" : Str)) = false) (h : Q v s) : wpAny S.M A (eval (.Name x pos) env) Q E s :=
 Name_function_global O.kind hx (loadGlobal_builtin (by rw [O.glob]; exact K.g.keeps I.base) hm (by rw [O.blt]; exact K.b.keeps I.base) hv h) hd
theorem sE_const {x : Str} {pos : Pos} {v : Value} {av : AV} (K : StOK S) (hx : sc x = some .globalImplicit) (hv : S.mg x = some v) (hr : VR v av) (hd : (x == ("__debug__" : Str)) = false) :
  SoundE S b d sc ρ (.Name x pos) (tVal av) := by
 intro C A env m H Q X E s R O hk V I h hE
 exact load_global K O I ((hk x).trans hx) hv hd ⟨av, H, hr, I, h⟩
noncomputable def noStar : List Expr → Bool
 | [] => true
 | .Starred .. :: _ => false
 | _ :: r => noStar r
theorem starEach_plain {env : Env} : ∀ {es : List Expr}, noStar es = true → starEach es env = es.map fun e => (false, eval e env)
 | [], _ => rfl
 | e :: r, h => by
  cases e <;> first | (cases h; done) | (rw [List.map_cons, ← starEach_plain (es := r) h]; rfl)
theorem backTo_plain {env : Env} {es : List Expr} {pos : Pos} (h : noStar es = true) : backTo pos (starEach es env) = es.map fun e => (false, eval e env) := by
 rw [starEach_plain h]; unfold backTo; rw [List.map_map]; rfl
theorem backTo_any {env : Env} {es : List Expr} {pos : Pos} (h : noStar es = true) : (backTo pos (starEach es env)).any (·.1) = false := by
 rw [backTo_plain h]; simp
theorem evalArgs_of {M : Model} {A : Around} {E : Value → Shared → Prop} {s : Shared} {f : Value} {es : List Expr} {env : Env} {pos : Pos} {Q : Args → Shared → Prop} (ht : noStar es = true)
  (h : wpAny M A (spliced (backTo pos (starEach es env))) (fun vs s' => Q ⟨vs, []⟩ s') E s) : wpAny M A (evalArgs f true (backTo pos (starEach es env)) []) Q E s := by
 rw [backTo_plain ht] at h ⊢
 cases es with
 | nil =>
  unfold evalArgs
  show wpAny M A (spliced [] >>= _) Q E s
  refine wpAny_bind (wpAny_mono h (fun vs s' h' => wpAny_bind (wpAny_pure ?_)) fun _ _ x => x)
  refine wpAny_holding ?_
  exact wpAny_bind (wpAny_pure (wpAny_bind (wpAny_pure (wpAny_pure h'))))
 | cons e r => exact evalArgs_plain h
noncomputable def tCall (F : Fn) (ts : Tms) : Tm := fun m H Q X => ts m H (fun vs H1 => F vs H1 Q X) X
theorem sE_call {f : Str} {a : Addr} {args : List Expr} {p pos : Pos} {F : Fn} {ts : Tms} {o : Obj} {fd : FuncData} (K : StOK S) (hF : SoundF S b d (.ref a) F) (h1 : SoundEs S b d sc ρ args ts) (hx : sc f = some .globalImplicit)
  (hv : S.mg f = some (.ref a)) (ho : S.base.get? a = some o) (hfd : o.data = .func fd) (hd : (f == ("__debug__" : Str)) = false) (hs : noStar args = true) :
  SoundE S b d sc ρ (.Call (.Name f p) args [] pos) (tCall F ts) := by
 intro C A env m H Q X E s R O hk V I h hE
 refine wpAny_Call_NameR (load_global K O I ((hk f).trans hx) hv hd ?_)
 refine callWith_function (o := o) (fd := fd) (evalArgs_of hs (wpAny_mono (h1 C A env m H _ X E s pos R O hk V I h hE) ?_ fun _ _ x => x))
 rintro vs s1 ⟨avs, H1, r1, I1, q1⟩
 refine ⟨⟨I1.base _ _ ho, hfd⟩, wpAny_call (codeAny_mono (hF C A vs avs H1 Q X s1 R (.of_env O) r1 I1 q1) ?_)⟩
 intro r s2 hr
 cases r with
 | error e => obtain ⟨x, H2, hx, hr⟩ := hr; exact hE x H2 e s2 hx hr
 | ok fl => cases fl <;> first | exact hr | exact hr.elim
noncomputable abbrev BFn := List AV → AH → QV → Prop
noncomputable def BFnOK (S : St) (b : Bool) (f : Value) (F : BFn) : Prop :=
 ∀ (C : Cx) (A : Around) (vs : List Value) (avs : List AV) (H : AH) (Q : QV) (E : Value → Shared → Prop) (s : Shared), (b = true → A.handled = none) → A.units ≤ 9000 → VRs vs avs → Inv S C H s → F avs H Q → wpAny S.M A (call f vs) (PostV S C Q) E s
noncomputable def tBcall (F : BFn) (ts : Tms) : Tm := fun m H Q X => ts m H (fun vs H1 => F vs H1 Q) X
theorem sE_bcall {f : Str} {id : String} {args : List Expr} {p pos : Pos} {F : BFn} {ts : Tms} (K : StOK S) (hF : BFnOK S b (.builtin id) F) (h1 : SoundEs S b d sc ρ args ts) (hx : sc f = some .globalImplicit)
  (hm : S.mg f = none) (hv : S.mb f = some (.builtin id)) (hd : (f == ("__debug__" : Str)) = false) (hs : noStar args = true) : SoundE S b d sc ρ (.Call (.Name f p) args [] pos) (tBcall F ts) := by
 intro C A env m H Q X E s R O hk V I h hE
 refine wpAny_Call_NameR (load_builtin K O I ((hk f).trans hx) hm hv hd ?_)
 refine Calls.callWith_builtin (backTo_any hs) (evalArgs_of hs (wpAny_mono (h1 C A env m H _ X E s pos R O hk V I h hE) ?_ fun _ _ x => x))
 rintro vs s1 ⟨avs, H1, r1, I1, q1⟩
 exact hF C A vs avs H1 Q E s1 R.hd R.u r1 I1 q1
theorem sE_tcall {f : Str} {T : String} {args : List Expr} {p pos : Pos} {F : BFn} {ts : Tms} (K : StOK S) (hF : BFnOK S b (.type T) F) (h1 : SoundEs S b d sc ρ args ts) (hx : sc f = some .globalImplicit)
  (hm : S.mg f = none) (hv : S.mb f = some (.type T)) (hd : (f == ("__debug__" : Str)) = false) (hs : noStar args = true) : SoundE S b d sc ρ (.Call (.Name f p) args [] pos) (tBcall F ts) := by
 intro C A env m H Q X E s R O hk V I h hE
 refine wpAny_Call_NameR (load_builtin K O I ((hk f).trans hx) hm hv hd ?_)
 refine PySem.callWith_type (backTo_any hs) (evalArgs_of hs (wpAny_mono (h1 C A env m H _ X E s pos R O hk V I h hE) ?_ fun _ _ x => x))
 rintro vs s1 ⟨avs, H1, r1, I1, q1⟩
 exact hF C A vs avs H1 Q E s1 R.hd R.u r1 I1 q1
end
end Mine
end
-- text A6
section
namespace Mine
open PySem PySem.Calls PyProof.Rows
inductive SK where
 | list | tuple | script | range | str
noncomputable def intsFrom (lo hi : Int) : List Int := (List.range (hi - lo).toNat).map fun (k : Nat) => lo + k
noncomputable def signs (x : Str) : List AV := x.cps.toList.map fun c => AV.str ⟨#[c]⟩
noncomputable def ItemsK : SK → AH → AV → List AV → Prop
 | .list, H, .ref a, xs => H a = some (.list xs)
 | .tuple, H, .ref a, xs => H a = some (.tuple xs)
 | .script, H, .ref a, xs => ∃ ns, H a = some (.script ns) ∧ xs = ns.map AV.int
 | .range, H, .ref a, xs => ∃ lo hi, H a = some (.range lo hi) ∧ xs = (intsFrom lo hi).map AV.int
 | .str, _, .str x, xs => xs = signs x ∧ x.cps.size ≤ 1048576
 | _, _, _, _ => False
inductive ItAt (S : St) : SK → AV → List AV → Nat → Addr → Heap → Prop
 | list {l I : Addr} {xs : List AV} {k : Nat} {h : Heap} : l ≠ I → h.IsListIter I l k → ItAt S .list (.ref l) xs k I h
 | script {l I : Addr} {xs : List AV} {k : Nat} {h : Heap} : l ≠ I → h.IsListIter I l k → ItAt S .script (.ref l) xs k I h
 | tuple {l I : Addr} {xs : List AV} {k : Nat} {h : Heap} : l ≠ I → h.IsTupleIter I l k → ItAt S .tuple (.ref l) xs k I h
 | range {a I : Addr} {lo hi : Int} {k : Nat} {h : Heap} : IsRangeIter h I (lo + (k : Int) * 1) (((hi - lo).toNat : Int) - k) 1 → ItAt S .range (.ref a) ((intsFrom lo hi).map AV.int) k I h
 | ascii {x : Str} {t : Tok} {I : Addr} {k : Nat} {h : Heap} : PyData.strOk x = true → h.IsStrIter I "str_ascii_iterator" x t k → ItAt S .str (.str x) (signs x) k I h
 | wide {x : Str} {t : Tok} {I : Addr} {k : Nat} {h : Heap} : PyData.strOk x = true → h.IsStrIter I "str_iterator" x t k → ItAt S .str (.str x) (signs x) k I h
theorem ItAt.frame {S : St} {kd : SK} {v : AV} {xs : List AV} {k : Nat} {I : Addr} {h h' : Heap} (x : ItAt S kd v xs k I h) (e : ∀ o, h.get? I = some o → h'.get? I = some o) : ItAt S kd v xs k I h' := by
 cases x with
 | list n q => obtain ⟨o, h1, h2⟩ := q; exact .list n ⟨o, e _ h1, h2⟩
 | script n q => obtain ⟨o, h1, h2⟩ := q; exact .script n ⟨o, e _ h1, h2⟩
 | tuple n q => obtain ⟨o, h1, h2⟩ := q; exact .tuple n ⟨o, e _ h1, h2⟩
 | range q => exact .range (e _ q)
 | ascii ok q => obtain ⟨o, h1, h2⟩ := q; exact .ascii ok ⟨o, e _ h1, h2⟩
 | wide ok q => obtain ⟨o, h1, h2⟩ := q; exact .wide ok ⟨o, e _ h1, h2⟩
theorem ItAt.there {S : St} {kd : SK} {v : AV} {xs : List AV} {k : Nat} {I : Addr} {h : Heap} (x : ItAt S kd v xs k I h) : ∃ o, h.get? I = some o := by
 cases x with
 | list n q => obtain ⟨o, h1, h2⟩ := q; exact ⟨o, h1⟩
 | script n q => obtain ⟨o, h1, h2⟩ := q; exact ⟨o, h1⟩
 | tuple n q => obtain ⟨o, h1, h2⟩ := q; exact ⟨o, h1⟩
 | range q => exact ⟨_, q⟩
 | ascii ok q => obtain ⟨o, h1, h2⟩ := q; exact ⟨o, h1⟩
 | wide ok q => obtain ⟨o, h1, h2⟩ := q; exact ⟨o, h1⟩
theorem ItAt.self {S : St} {kd : SK} {v : AV} {xs : List AV} {k : Nat} {I : Addr} {s : Shared} {A : Around} {E : Value → Shared → Prop} {Q : Value → Shared → Prop} (x : ItAt S kd v xs k I s.heap) (h : Q (.ref I) s) : wpAny S.M A (pyIter (.ref I)) Q E s := by
 cases x with
 | list n q => exact wpAny_pyIter_listiter q h
 | script n q => exact wpAny_pyIter_listiter q h
 | tuple n q => exact wpAny_pyIter_tupleiter q h
 | range q => exact wpAny_pyIter_rangeiter q h
 | ascii ok q => exact wpAny_pyIter_striter_ascii q h
 | wide ok q => exact wpAny_pyIter_striter_wide q h
theorem intsFrom_get {lo hi : Int} {k : Nat} (h : k < (hi - lo).toNat) : (intsFrom lo hi)[k]? = some (lo + k) := by simp [intsFrom, h]
theorem intsFrom_length (lo hi : Int) : (intsFrom lo hi).length = (hi - lo).toNat := by simp [intsFrom]
theorem rangeSize_one (lo hi : Int) : Builtin.Range.rangeSize lo hi 1 = ((hi - lo).toNat : Int) := by
 unfold Builtin.Range.rangeSize
 simp only [Int.reduceGT, if_true]
 split <;> lia
theorem signs_get {x : Str} {k : Nat} {c : Nat} (h : x.cps[k]? = some c) : (signs x)[k]? = some (.str ⟨#[c]⟩) := by
 unfold signs
 rw [List.getElem?_map, Array.getElem?_toList, h]; rfl
theorem strOk_sign {x : Str} {k c : Nat} (ok : PyData.strOk x = true) (h : x.cps[k]? = some c) : PyData.strOk ⟨#[c]⟩ = true := by
 unfold PyData.strOk at ok ⊢
 have := Array.all_eq_true'.mp ok c (Array.mem_of_getElem? h)
 simpa using this
section
variable {S : St} {C : Cx} {H : AH} {s : Shared} {A : Around}
theorem iter_start {kd : SK} {v : AV} {cv : Value} {xs : List AV} {E : Value → Shared → Prop} {Q : Value → Shared → Prop} (I : Inv S C H s) (hv : VR cv v) (hi : ItemsK kd H v xs)
  (hQ : ∀ It o s', s.heap.get? It = none → s'.heap.get? It = some o → (∀ b o, s.heap.get? b = some o → s'.heap.get? b = some o) → s'.gens = s.gens → s'.os = s.os → ItAt S kd v xs 0 It s'.heap → Q (.ref It) s') :
  wpAny S.M A (pyIter cv) Q E s := by
 have nn : s.heap.get? s.heap.objs.size = none := by
  cases q : s.heap.get? s.heap.objs.size with
  | none => rfl
  | some o => exact absurd (Heap.lt_size q) (Nat.lt_irrefl _)
 have up : ∀ o b o', s.heap.get? b = some o' → (s.heap.push o).get? b = some o' := fun o b o' e => Heap.get?_push_of_some _ e
 cases kd with
 | list =>
  cases v with
  | ref a =>
   cases hv
   obtain ⟨vs, n, h1, h2, h3⟩ := I.objs a _ hi
   refine wpAny_pyIter_list ⟨_, h1, rfl, n, rfl⟩ (hQ _ _ _ nn (Heap.get?_push_size _ rfl) (up _) rfl rfl (.list (Nat.ne_of_lt (Heap.lt_size h1)) ⟨_, Heap.get?_push_size _ rfl, rfl, rfl⟩))
  | _ => exact hi.elim
 | tuple =>
  cases v with
  | ref a =>
   cases hv
   obtain ⟨vs, n, h1, h2⟩ := I.objs a _ hi
   refine wpAny_pyIter_tuple ⟨_, h1, rfl, n, rfl⟩ (hQ _ _ _ nn (Heap.get?_push_size _ rfl) (up _) rfl rfl (.tuple (Nat.ne_of_lt (Heap.lt_size h1)) ⟨_, Heap.get?_push_size _ rfl, rfl, rfl⟩))
  | _ => exact hi.elim
 | script =>
  cases v with
  | ref a =>
   cases hv
   obtain ⟨ns, hi, rfl⟩ := hi
   obtain ⟨vs, ⟨ob, h1, hc, n, hd⟩, h2, h3⟩ := I.objs a _ hi
   refine wpAny_pyIter_list ⟨ob, I.base _ _ h1, hc, n, hd⟩ (hQ _ _ _ nn (Heap.get?_push_size _ rfl) (up _) rfl rfl (.script (Nat.ne_of_lt (Heap.lt_size (I.base _ _ h1))) ⟨_, Heap.get?_push_size _ rfl, rfl, rfl⟩))
  | _ => exact hi.elim
 | range =>
  cases v with
  | ref a =>
   cases hv
   obtain ⟨lo, hi', hi, rfl⟩ := hi
   obtain ⟨t, u, v, b1, b2, h1⟩ := I.objs a _ hi
   refine wpAny_pyIter_range h1 ?_ (hQ _ _ _ nn (Heap.get?_push_size _ rfl) (up _) rfl rfl (.range ?_))
   ·unfold Builtin.Range.small
    rw [rangeSize_one]
    simp only [Builtin.Range.rangeFitsLong, Bool.and_eq_true, Bool.or_eq_true, decide_eq_true_eq, Int.reduceGT, if_true]
    lia
   ·show IsRangeIter _ _ _ _ _
    have e := Heap.get?_push_size s.heap (o := { cls := .type "range_iterator", dict := none, data := .fields #[rawInt lo, rawInt (Builtin.Range.rangeSize lo hi' 1), rawInt 1], slots := #[] }) rfl
    rw [rangeSize_one] at e
    simpa [rangeSize_one] using e
  | _ => exact hi.elim
 | str =>
  cases v with
  | str x =>
   cases hv with
   | str _ t ok =>
    obtain ⟨rfl, _⟩ := hi
    cases ha : x.cps.all (· < 128)
    ·exact wpAny_pyIter_wide ha (hQ _ _ _ nn (Heap.get?_push_size _ rfl) (up _) rfl rfl (.wide ok ⟨_, Heap.get?_push_size _ rfl, rfl, rfl⟩))
    ·exact wpAny_pyIter_ascii ha (hQ _ _ _ nn (Heap.get?_push_size _ rfl) (up _) rfl rfl (.ascii ok ⟨_, Heap.get?_push_size _ rfl, rfl, rfl⟩))
  | _ => exact hi.elim
theorem iter_next {kd : SK} {v : AV} {xs : List AV} {k : Nat} {It : Addr} {E : Value → Shared → Prop} {Q : Option Value → Shared → Prop} (I : Inv S C H s) (hh : A.handled = none) (hi : ItemsK kd H v xs) (ht : ItAt S kd v xs k It s.heap)
  (hk : k ≤ xs.length)
  (hs : ∀ cv x s', xs[k]? = some x → VR cv x → ItAt S kd v xs (k + 1) It s'.heap → (∀ b o, b ≠ It → s.heap.get? b = some o → s'.heap.get? b = some o) → s'.gens = s.gens → s'.os = s.os → Q (some cv) s')
  (hn : ∀ s', k = xs.length → (∀ b o, b ≠ It → s.heap.get? b = some o → s'.heap.get? b = some o) → s'.gens = s.gens → s'.os = s.os → Q none s') :
  wpAny S.M A (pyNext (.ref It)) Q E s := by
 have one : ∀ {b : Addr}, b ≠ It → b ∉ [It] := fun n q => n (List.mem_singleton.mp q)
 cases ht with
 | list ne q =>
  obtain ⟨vs, n, h1, h2, h3⟩ := I.objs _ _ hi
  have hl : s.heap.IsList _ vs.toArray := ⟨_, h1, rfl, n, rfl⟩
  have W := Walks.list (prog := S.prog) (w := S.w) hh It _ ne vs.toArray
  have hlen := h2.length
  rcases Nat.lt_or_ge k xs.length with lt | ge
  ·refine W.item k s _ _ (by simp; lia) ⟨q, hl⟩ fun w h' tk hw hst hkp => ?_
   obtain ⟨x, hx, hr⟩ := h2.getV (by simpa using hw)
   exact hs w x _ hx hr (.list ne hst.1) (fun b o nb e => hkp b o (one nb) e) rfl rfl
  ·refine W.done s _ _ ?_ fun h' tk hkp => hn _ (by lia) (fun b o nb e => hkp b o (one nb) e) rfl rfl
   have : vs.toArray.size = k := by simp; lia
   rw [this]; exact ⟨q, hl⟩
 | script ne q =>
  obtain ⟨ns, hi, rfl⟩ := hi
  obtain ⟨vs, ⟨ob, h1, hc, n, hd⟩, h2, h3⟩ := I.objs _ _ hi
  have hl : s.heap.IsList _ vs.toArray := ⟨ob, I.base _ _ h1, hc, n, hd⟩
  have W := Walks.list (prog := S.prog) (w := S.w) hh It _ ne vs.toArray
  have hlen := h2.length
  rcases Nat.lt_or_ge k (ns.map AV.int).length with lt | ge
  ·refine W.item k s _ _ (by simp; simp at hlen lt; lia) ⟨q, hl⟩ fun w h' tk hw hst hkp => ?_
   obtain ⟨x, hx, hr⟩ := h2.getV (by simpa using hw)
   exact hs w x _ hx hr (.script ne hst.1) (fun b o nb e => hkp b o (one nb) e) rfl rfl
  ·refine W.done s _ _ ?_ fun h' tk hkp => hn _ (by lia) (fun b o nb e => hkp b o (one nb) e) rfl rfl
   have : vs.toArray.size = k := by simp; lia
   rw [this]; exact ⟨q, hl⟩
 | tuple ne q =>
  obtain ⟨vs, n, h1, h2, _⟩ := I.objs _ _ hi
  have hl : s.heap.IsTuple _ vs.toArray := ⟨_, h1, rfl, n, rfl⟩
  have W := Walks.tuple (prog := S.prog) (w := S.w) hh It _ ne vs.toArray
  have hlen := h2.length
  rcases Nat.lt_or_ge k xs.length with lt | ge
  ·refine W.item k s _ _ (by simp; lia) ⟨q, hl⟩ fun w h' tk hw hst hkp => ?_
   obtain ⟨x, hx, hr⟩ := h2.getV (by simpa using hw)
   exact hs w x _ hx hr (.tuple ne hst.1) (fun b o nb e => hkp b o (one nb) e) rfl rfl
  ·refine W.done s _ _ ?_ fun h' tk hkp => hn _ (by lia) (fun b o nb e => hkp b o (one nb) e) rfl rfl
   have : vs.toArray.size = k := by simp; lia
   rw [this]; exact ⟨q, hl⟩
 | @range a _ lo hi' _ _ q =>
  have W := Walks.range (prog := S.prog) (w := S.w) hh It lo 1 (hi' - lo).toNat
  have hlen : ((intsFrom lo hi').map AV.int).length = (hi' - lo).toNat := by simp [intsFrom_length]
  rcases Nat.lt_or_ge k (hi' - lo).toNat with lt | ge
  ·refine W.item k s _ _ lt q fun w h' tk hw hst hkp => ?_
   obtain ⟨t, rfl⟩ := hw
   refine hs _ (.int (lo + k)) _ (by rw [List.getElem?_map, intsFrom_get lt]; rfl) (by rw [Int.mul_one]; exact .int _ t) (.range hst) (fun b o nb e => hkp b o (one nb) e) rfl rfl
  ·refine W.done s _ _ ?_ fun h' tk hkp => hn _ (by lia) (fun b o nb e => hkp b o (one nb) e) rfl rfl
   have : (hi' - lo).toNat = k := by lia
   rw [this] at q ⊢; exact q
 | @ascii x t _ _ _ ok q =>
  have W := Walks.strAscii (prog := S.prog) (w := S.w) hh It x t
  have hlen : (signs x).length = x.cps.size := by simp [signs]
  rcases Nat.lt_or_ge k x.cps.size with lt | ge
  ·refine W.item k s _ _ lt q fun w h' tk hw hst hkp => ?_
   obtain ⟨c, u, hc, rfl⟩ := hw
   exact hs _ (.str ⟨#[c]⟩) _ (signs_get hc) (.str _ u (strOk_sign ok hc)) (.ascii ok hst) (fun b o nb e => hkp b o (one nb) e) rfl rfl
  ·refine W.done s _ _ ?_ fun h' tk hkp => hn _ (by lia) (fun b o nb e => hkp b o (one nb) e) rfl rfl
   have : x.cps.size = k := by lia
   rw [this]; exact q
 | @wide x t _ _ _ ok q =>
  have W := Walks.strWide (prog := S.prog) (w := S.w) hh It x t
  have hlen : (signs x).length = x.cps.size := by simp [signs]
  rcases Nat.lt_or_ge k x.cps.size with lt | ge
  ·refine W.item k s _ _ lt q fun w h' tk hw hst hkp => ?_
   obtain ⟨c, u, hc, rfl⟩ := hw
   exact hs _ (.str ⟨#[c]⟩) _ (signs_get hc) (.str _ u (strOk_sign ok hc)) (.wide ok hst) (fun b o nb e => hkp b o (one nb) e) rfl rfl
  ·refine W.done s _ _ ?_ fun h' tk hkp => hn _ (by lia) (fun b o nb e => hkp b o (one nb) e) rfl rfl
   have : x.cps.size = k := by lia
   rw [this]; exact q
theorem items_le {kd : SK} {v : AV} {xs : List AV} (I : Inv S C H s) (hi : ItemsK kd H v xs) : xs.length ≤ sizeLine := by
 have hz : sizeLine = 16777216 := rfl
 cases kd <;> cases v <;> first | exact hi.elim | skip
 ·obtain ⟨vs, n, h1, h2, h3⟩ := I.objs _ _ hi; rw [← h2.length]; exact h3
 ·obtain ⟨vs, n, h1, h2, h3⟩ := I.objs _ _ hi; rw [← h2.length]; exact h3
 ·obtain ⟨ns, hi, rfl⟩ := hi
  obtain ⟨vs, h1, h2, h3⟩ := I.objs _ _ hi; rw [← h2.length]; lia
 ·obtain ⟨lo, hi', hi, rfl⟩ := hi
  obtain ⟨t, u, v, b1, b2, h1⟩ := I.objs _ _ hi
  rw [List.length_map, intsFrom_length]; lia
 ·obtain ⟨rfl, h⟩ := hi
  simp only [signs, List.length_map, Array.length_toList]; lia
end
end Mine
end
-- text A7
section
namespace Mine
open PySem PySem.Calls PyProof.Rows
noncomputable def Cx.drop (C : Cx) (a : Addr) : Cx := { C with U := fun b => if b = a then none else C.U b }
theorem Cx.drop_self (C : Cx) (a : Addr) : (C.drop a).U a = none := if_pos rfl
theorem Cx.drop_ne (C : Cx) {a b : Addr} (h : b ≠ a) : (C.drop a).U b = C.U b := if_neg h
section
variable {S : St} {C : Cx} {H : AH} {s : Shared} {A : Around} {env : Env} {ρ : Rho} {m : Mp} {a : Addr}
theorem EnvOK.of_U {C' : Cx} (O : EnvOK S C A env) (hf : C'.fr = C.fr) (he : C'.envs = C.envs) (h1 : C'.U env.locals = C.U env.locals) (h2 : ∀ x c, env.cells.lookup x = some c → C'.U c = C.U c) (h3 : ∀ L, L ∈ C.fr → C'.U L = C.U L) : EnvOK S C' A env := by
 refine ⟨O.kind, O.glob, O.blt, O.cells, fun x c hc => ?_, O.apart, ?_, by rw [he]; exact O.stack, fun e hm => ?_⟩
 ·obtain ⟨k1, k2, o, v, k3, k4⟩ := O.cellU x c hc
  exact ⟨k1, by rw [hf]; exact k2, o, v, (h2 x c hc).trans k3, k4⟩
 ·obtain ⟨o, m, k1, k2⟩ := O.loc
  exact ⟨o, m, h1.trans k1, k2⟩
 ·rw [he] at hm
  obtain ⟨k1, L, o, k2, k3, k4, k5⟩ := O.fun_ e hm
  exact ⟨k1, L, o, k2, by rw [hf]; exact k3, (h3 L k3).trans k4, k5⟩
theorem EnvRel.of_U {C' : Cx} (R : EnvRel C env ρ m) (h1 : C'.U env.locals = C.U env.locals) (h2 : ∀ x c, env.cells.lookup x = some c → C'.U c = C.U c) : EnvRel C' env ρ m := by
 intro x i v hx hm
 obtain ⟨cv, q, V⟩ := R x i v hx hm
 refine ⟨cv, q, ?_⟩
 rcases V with ⟨k, o, m', k1, k2⟩ | ⟨k, c, o, k1, k2, k3⟩
 ·exact .inl ⟨k, o, m', h1.trans k1, k2⟩
 ·exact .inr ⟨k, c, o, k1, (h2 x c k1).trans k2, k3⟩
structure Apart (C : Cx) (env : Env) (a : Addr) : Prop where
 loc : a ≠ env.locals
 cell : ∀ x, env.cells.lookup x ≠ some a
 fr : a ∉ C.fr
theorem EnvOK.apart_of (O : EnvOK S C A env) (I : Inv S C H s) (h : C.U a = none) : Apart C env a := by
 refine ⟨fun q => ?_, fun x q => ?_, fun q => ?_⟩
 ·obtain ⟨o, _, k, _⟩ := O.loc; rw [← q, h] at k; cases k
 ·obtain ⟨_, _, o, _, k, _⟩ := O.cellU x a q; rw [h] at k; cases k
 ·obtain ⟨o, k⟩ := I.frU a q; rw [h] at k; cases k
theorem EnvOK.hide (O : EnvOK S C A env) (P : Apart C env a) (o : Obj) : EnvOK S (C.hide a o) A env :=
 O.of_U rfl rfl (Cx.hide_ne _ _ (Ne.symm P.loc)) (fun x c hc => Cx.hide_ne _ _ fun q => P.cell x (q ▸ hc)) fun L hL => Cx.hide_ne _ _ fun q => P.fr (q ▸ hL)
theorem EnvRel.hide (R : EnvRel C env ρ m) (P : Apart C env a) (o : Obj) : EnvRel (C.hide a o) env ρ m :=
 R.of_U (Cx.hide_ne _ _ (Ne.symm P.loc)) fun x c hc => Cx.hide_ne _ _ fun q => P.cell x (q ▸ hc)
theorem EnvOK.drop (O : EnvOK S C A env) (P : Apart C env a) : EnvOK S (C.drop a) A env :=
 O.of_U rfl rfl (Cx.drop_ne _ (Ne.symm P.loc)) (fun x c hc => Cx.drop_ne _ fun q => P.cell x (q ▸ hc)) fun L hL => Cx.drop_ne _ fun q => P.fr (q ▸ hL)
theorem EnvRel.drop (R : EnvRel C env ρ m) (P : Apart C env a) : EnvRel (C.drop a) env ρ m :=
 R.of_U (Cx.drop_ne _ (Ne.symm P.loc)) fun x c hc => Cx.drop_ne _ fun q => P.cell x (q ▸ hc)
theorem Inv.drop (I : Inv S C H s) (h : a ∉ C.fr) : Inv S (C.drop a) H s := by
 refine I.less (fun b hb _ => hb) (fun b o e => ?_) fun b hb => ?_
 ·by_cases q : b = a
  ·rw [q, Cx.drop_self] at e; cases e
  ·rw [Cx.drop_ne _ q] at e; exact e
 ·obtain ⟨o, e⟩ := I.frU b hb
  exact ⟨o, (Cx.drop_ne _ fun q => h (by rw [← q]; exact hb)).trans e⟩
theorem FrOK.drop (F : FrOK S C A) (h : a ∉ C.fr) : FrOK S (C.drop a) A :=
 ⟨F.stack, fun e he => by
  obtain ⟨k1, L, o, k2, k3, k4, k5⟩ := F.fun_ e he
  exact ⟨k1, L, o, k2, k3, (Cx.drop_ne _ fun q => h (by rw [← q]; exact k3)).trans k4, k5⟩⟩
theorem Cx.drop_none {C : Cx} {a b : Addr} (h : C.U b = none) : (C.drop a).U b = none := by
 by_cases q : b = a
 ·rw [q]; exact Cx.drop_self ..
 ·rw [Cx.drop_ne _ q]; exact h
theorem Raised.drop {x : Str} {v : Value} (R : Raised S C H x v s) (h : a ∉ C.fr) : Raised S (C.drop a) H x v s := by
 obtain ⟨e, rfl, I, ⟨oe, vs, K, h1, h2, h3, h4, h5, h6, h7⟩, n1, n2, n3⟩ := R
 refine ⟨e, rfl, I.drop h, ⟨oe, vs, K, h1, h2, h3, h4, h5, h6, ?_⟩, n1, Cx.drop_none n2, n3⟩
 rcases h7 with q | ⟨T, oT, ts, fl, q1, q2, q3, q4, q5, q6, q7, q8, q9⟩
 ·exact .inl q
 ·exact .inr ⟨T, oT, ts, fl, q1, q2, q3, q4, q5, q6, q7, Cx.drop_none q8, q9⟩
theorem Inv.loose (I : Inv S C H s) {s' : Shared} (hb : S.base.get? a = none ∧ H a = none ∧ C.U a = none) (hk : ∀ b o, b ≠ a → s.heap.get? b = some o → s'.heap.get? b = some o) (hg : s'.gens = s.gens) (ho : s'.os = s.os) : Inv S C H s' :=
 I.other (fun b => b = a) (fun b q => q ▸ hb) (fun b o e n => .inr (hk b o n e)) (fun b o e _ hu => ⟨o.slots, hk b o (fun q => hu (q ▸ hb.2.2)) e⟩) hg ho
theorem Inv.track (I : Inv S C H s) {o : AO} (hb : S.base.get? a = none ∧ H a = none ∧ C.U a = none) (ha : ObjAt S s.heap a o) : Inv S C (H.put a o) s := by
 refine ⟨I.base, I.keep, fun b o' e => ?_, fun b o' e => ?_, I.sepU, I.gens, I.os, I.frU⟩
 ·by_cases q : b = a
  ·subst q; rw [AH.put_self] at e; cases e; exact ha
  ·rw [AH.put_ne _ _ q] at e; exact I.objs b o' e
 ·by_cases q : b = a
  ·subst q; exact ⟨hb.2.2, fun _ => hb.1⟩
  ·rw [AH.put_ne _ _ q] at e; exact I.sepH b o' e
theorem Inv.hid (I : Inv S C H s) {o : Obj} (h : C.U a = some o) : S.base.get? a = none ∧ H a = none := by
 refine ⟨I.sepU a o h, ?_⟩
 cases q : H a with
 | none => rfl
 | some x => rw [(I.sepH a x q).1] at h; cases h
theorem Inv.exact (I : Inv S C H s) {o : Obj} (h : C.U a = some o) (hf : a ∉ C.fr) : s.heap.get? a = some o := by
 rcases I.keep a o h with q | ⟨q, _⟩
 ·exact q
 ·exact absurd q hf
end
section
variable {S : St} {d : Nat} {sc : Kd} {ρ : Rho}
inductive ForK (i : Nat) (body : Ts) (m : Mp) (v : AV) (H1 : AH) (QN : Mp → AH → Prop) (QR : QV) (X : QX) : Prop
 | mk (kd : SK) (xs : List AV) : ItemsK kd H1 v xs → (J : Nat → Mp → AH → Prop) → J 0 m H1 → (∀ k m' H', J k m' H' → k ≤ xs.length →
   ItemsK kd H' v xs ∧ (∀ x, xs[k]? = some x → body (m'.upd i x) H' (J (k + 1)) QR X) ∧ (k = xs.length → QN m' H')) → ForK i body m v H1 QN QR X
noncomputable def tFor (t : Tm) (i : Nat) (body : Ts) : Ts := fun m H QN QR X => t m H (fun v H1 => ForK i body m v H1 QN QR X) X
inductive ForI (S : St) (C : Cx) (A : Around) (env : Env) (ρ : Rho) (kd : SK) (v : AV) (xs : List AV) (It : Addr) (J : Nat → Mp → AH → Prop) (n : Nat) (s' : Shared) : Prop
 | mk (C1 : Cx) (m1 : Mp) (H1 : AH) (o : Obj) (k : Nat) : n = xs.length + 1 - k → k ≤ xs.length → C1.fr = C.fr → C1.envs = C.envs → (∀ a, a ≠ It → a ≠ env.locals → (∀ x, env.cells.lookup x ≠ some a) → C1.U a = C.U a) → C1.U It = some o →
  EnvOK S C1 A env → EnvRel C1 env ρ m1 → Inv S C1 H1 s' → ItAt S kd v xs k It s'.heap → J k m1 H1 → ForI S C A env ρ kd v xs It J n s'
set_option maxHeartbeats 1000000 in
theorem sT_for {x : Str} {i : Nat} {e : Expr} {bd : List Stmt} {p pos : Pos} {t : Tm} {u : Ts} (h1 : SoundE S true d sc ρ e t) (h2 : SoundS S true d sc ρ bd u) (hρ : RhoOK ρ) (hx : ρ.lookup x = some i) (hk : sc x = some .local ∨ sc x = some .cell)
  (hs : ∀ env v, foldedSetIterable e env v = pure v) : SoundT S true d sc ρ (.For (.Name x p) e bd [] pos) (tFor t i u) := by
 intro C A env m H QN QR X E s R O hc hk' V I h hE
 obtain ⟨outer, hc⟩ := hc
 obtain ⟨_, L, _, hL, _⟩ := O.fun_ env (by rw [hc]; exact .head _)
 have hh := R.hd rfl
 refine wpAny_For (wpAny_mono (h1 C A env m H _ X E s R O hk' V I h (hE.ex O)) ?_ fun _ _ x => x) (hs env)
 rintro cv s1 ⟨v, H1, r1, I1, kd, xs, hi, J, j0, jn⟩
 refine iter_start I1 r1 hi fun It oI s2 n2 g2 k2 e2 f2 it2 => ?_
 have hU := (I1.fresh n2).2.1
 have P := O.apart_of I1 hU
 refine codeAny_forLoop (ForI S C A env ρ kd v xs It J) ?_ (xs.length + 1)
  ⟨C.hide It oI, m, H1, oI, 0, rfl, Nat.zero_le _, rfl, rfl, fun a n _ _ => Cx.hide_ne _ _ n, Cx.hide_self .., O.hide P oI, V.hide P oI, I1.hide n2 k2 g2 e2 f2, it2, j0⟩
 rintro n s3 ⟨C1, m1, H1', o1, k, rfl, hk1, fr1, en1, oth1, u1, O1, V1, I3, it3, j3⟩
 obtain ⟨ji, js, jd⟩ := jn k m1 H1' j3 hk1
 have P1 : Apart C1 env It := ⟨P.loc, P.cell, by rw [fr1]; exact P.fr⟩
 have out : ∀ {C' : Cx}, C'.fr = C.fr → C'.envs = C.envs → (∀ a, a ≠ It → a ≠ env.locals → (∀ x, env.cells.lookup x ≠ some a) → C'.U a = C.U a) → FUpd env C (C'.drop It) := fun {C'} q1 q2 q3 => by
  refine ⟨q1, q2, fun a w1 w2 => ?_⟩
  by_cases q : a = It
  ·rw [q, Cx.drop_self, hU]
  ·rw [Cx.drop_ne _ q]; exact q3 a q w1 w2
 refine iter_next I3 hh ji it3 hk1 (fun cw y s4 hy hr it4 k4 g4 f4 => ?_) fun s4 hend k4 g4 f4 => ?_
 ·obtain ⟨o4, ho4⟩ := it4.there
  have I4 := I3.turn u1 k4 ho4 g4 f4
  have lt : k < xs.length := (List.getElem?_eq_some_iff.mp hy).1
  show wpAny S.M A (do standAt p; bindName env x cw) _ _ s4
  refine wpAny_bind (wpAny_standAt (wpAny_mono (store_var (O1.hide P1 o4) (V1.hide P1 o4) I4 hρ (mem_of_lookup hx) hr (by rw [hk']; exact hk)) ?_ fun _ _ x => x))
  rintro _ s5 ⟨C5, a5, o5, w5, e5, O5, V5, I5⟩
  have f5 : FUpd env (C1.hide It o4) C5 := .stored w5 e5
  have it5 : C5.U It = some o4 := (f5.other It P.loc P.cell).trans (Cx.hide_self ..)
  have nf5 : It ∉ C5.fr := by rw [f5.fr]; exact P1.fr
  have oth5 : ∀ a, a ≠ It → a ≠ env.locals → (∀ x, env.cells.lookup x ≠ some a) → C5.U a = C.U a := fun a w1 w2 w3 => (f5.other a w2 w3).trans ((Cx.hide_ne _ _ w1).trans (oth1 a w1 w2 w3))
  refine wpAny_mono (h2 C5 A env (m1.upd i y) H1' (J (k + 1)) QR X _ s5 R O5 ⟨outer, by rw [f5.envs]; exact en1.trans hc⟩ hk' V5 I5 (js y hy) ?_) ?_ fun _ _ x => x
  ·intro C' z H' w s' f' F' hz hr'
   refine hr'.through (.of_env F') ((f'.envs.trans (f5.envs.trans en1)).trans hc) hL fun s'' hr'' => ?_
   have nf : It ∉ C'.fr := by rw [f'.fr]; exact nf5
   exact hE (C'.drop It) z H' w s'' (out (f'.fr.trans (f5.fr.trans fr1)) (f'.envs.trans (f5.envs.trans en1)) fun a w1 w2 w3 => (f'.other a w2 w3).trans (oth5 a w1 w2 w3)) (F'.drop ⟨P.loc, P.cell, nf⟩) hz (hr''.drop nf)
  ·rintro fl s6 ⟨C6, H6, f6, I6, q6⟩
   have nf6 : It ∉ C6.fr := by rw [f6.fr]; exact nf5
   have u6 : C6.U It = some o4 := (f6.other It P.loc P.cell).trans it5
   have oth6 : ∀ a, a ≠ It → a ≠ env.locals → (∀ x, env.cells.lookup x ≠ some a) → C6.U a = C.U a := fun a w1 w2 w3 => (f6.other a w2 w3).trans (oth5 a w1 w2 w3)
   have fr6 : C6.fr = C.fr := f6.fr.trans (f5.fr.trans fr1)
   have en6 : C6.envs = C.envs := f6.envs.trans (f5.envs.trans en1)
   cases fl with
   | next =>
    obtain ⟨m6, O6, V6, j6⟩ := q6
    refine ⟨xs.length + 1 - (k + 1), by lia, C6, m6, H6, o4, k + 1, rfl, lt, fr6, en6, oth6, u6, O6, V6, I6, it4.frame fun o w => ?_, j6⟩
    rw [ho4] at w; cases w
    exact I6.exact u6 nf6
   | ret w =>
    obtain ⟨O6, av, w1, w2⟩ := q6
    exact ⟨C6.drop It, H6, out fr6 en6 oth6, I6.drop nf6, O6.drop ⟨P.loc, P.cell, nf6⟩, av, w1, w2⟩
   | brk => exact q6.elim
   | cont => exact q6.elim
 ·have nf1 : It ∉ C1.fr := P1.fr
  have I4 : Inv S (C1.drop It) H1' s4 := (I3.drop nf1).loose ⟨(I3.hid u1).1, (I3.hid u1).2, Cx.drop_self ..⟩ k4 g4 f4
  exact wpAny_execs_nil ⟨C1.drop It, H1', out fr1 en1 oth1, I4, m1, O1.drop P1, V1.drop P1, jd hend⟩
end
end Mine
end
-- text A8
section
namespace Mine
open PySem PySem.Calls PyProof.Rows
theorem cellsFrom_append : ∀ (names : List (Str × NameKind)) (n : Nat) (acc : List (Str × Addr)), cellsFrom n names acc = cellsFrom n names [] ++ acc
 | [], _, _ => rfl
 | (x, k) :: r, n, acc => by
  unfold cellsFrom
  split
  ·rw [cellsFrom_append r (n + 1) ((x, n) :: acc), cellsFrom_append r (n + 1) [(x, n)], List.append_assoc]; rfl
  ·exact cellsFrom_append r n acc
noncomputable def closL (env : Env) : List (Str × NameKind) → List (Str × Addr) → List (Str × Addr)
 | [], acc => acc
 | (x, k) :: r, acc => if k == .free then closL env r ((x, (env.cells.lookup x).getD 0) :: acc) else closL env r acc
theorem closureFor_eq {env : Env} {scope : Scope} (h : ∀ x, (x, NameKind.free) ∈ scope.names → ∃ c, env.cells.lookup x = some c) : closureFor scope env = pure (closL env scope.names []) := by
 have go : ∀ (names : List (Str × NameKind)) (acc : List (Str × Addr)), (∀ x, (x, NameKind.free) ∈ names → ∃ c, env.cells.lookup x = some c) →
   (forIn names acc (fun (p : Str × NameKind) (r : List (Str × Addr)) => if p.2 == .free then (do let c ← cellOf env p.1; pure (ForInStep.yield ((p.1, c) :: r))) else (pure (ForInStep.yield r) : Sem _)) : Sem (List (Str × Addr))) = pure (closL env names acc) := by
  intro names
  induction names with
  | nil => intro acc _; rw [List.forIn_nil]; rfl
  | cons p r ih =>
   obtain ⟨x, k⟩ := p
   intro acc hh
   rw [List.forIn_cons]
   unfold closL
   by_cases hk : (k == NameKind.free) = true
   ·rw [if_pos hk, if_pos hk]
    have ek : k = .free := by simpa using hk
    subst ek
    obtain ⟨c, hc⟩ := hh x (.head _)
    have e1 : cellOf env x = pure c := by unfold cellOf; rw [hc]
    rw [e1, pure_bind, pure_bind, hc]
    exact ih _ fun y hy => hh y (.tail _ hy)
   ·rw [if_neg hk, if_neg hk, pure_bind]
    exact ih _ fun y hy => hh y (.tail _ hy)
 have := go scope.names [] h
 unfold closureFor
 simp only
 rw [← this]
 simp only [bind_pure]
theorem closL_mem {env : Env} : ∀ {names : List (Str × NameKind)} {acc : List (Str × Addr)} {x : Str} {c : Addr}, (x, c) ∈ closL env names acc → (x, c) ∈ acc ∨ ((x, NameKind.free) ∈ names ∧ c = (env.cells.lookup x).getD 0)
 | [], _, _, _, h => .inl h
 | (y, k) :: r, acc, x, c, h => by
  unfold closL at h
  by_cases hk : (k == NameKind.free) = true
  ·rw [if_pos hk] at h
   have ek : k = .free := by simpa using hk
   subst ek
   rcases closL_mem h with q | ⟨q1, q2⟩
   ·rcases List.mem_cons.mp q with e | q
    ·cases e; exact .inr ⟨.head _, rfl⟩
    ·exact .inl q
   ·exact .inr ⟨.tail _ q1, q2⟩
  ·rw [if_neg hk] at h
   exact (closL_mem h).imp id fun ⟨q1, q2⟩ => ⟨.tail _ q1, q2⟩
theorem closL_has {env : Env} : ∀ {names : List (Str × NameKind)} {acc : List (Str × Addr)} {x : Str}, (x, NameKind.free) ∈ names ∨ (acc.lookup x).isSome = true → ((closL env names acc).lookup x).isSome = true
 | [], _, _, h => h.elim (fun q => nomatch q) id
 | (y, k) :: r, acc, x, h => by
  unfold closL
  by_cases hk : (k == NameKind.free) = true
  ·rw [if_pos hk]
   refine closL_has ?_
   rcases h with h | h
   ·rcases List.mem_cons.mp h with e | h
    ·cases e; exact .inr (by rw [List.lookup_cons, beq_self_eq_true]; rfl)
    ·exact .inl h
   ·refine .inr ?_
    rw [List.lookup_cons]
    cases hxy : x == y
    ·exact h
    ·rfl
  ·rw [if_neg hk]
   refine closL_has (h.imp (fun h => ?_) id)
   rcases List.mem_cons.mp h with e | h
   ·cases e; exact absurd rfl hk
   ·exact h
noncomputable def relab (sc : Kd) (names : List (Str × NameKind)) : Kd := fun y => match names.lookup y with
 | some .free => if sc y = some .cell then some .cell else some .free
 | k => k
theorem relab_eq {env : Env} {scope : Scope} {sc : Kd} (hk : env.scope.kind = .function) (he : ∀ x, env.kindOf x = sc x) (y : Str) : (relabel scope env).names.lookup y = relab sc scope.names y := by
 unfold relabel relab
 dsimp only
 generalize scope.names = names
 induction names with
 | nil => rfl
 | cons p r ih =>
  obtain ⟨n, k⟩ := p
  rw [List.map_cons, List.lookup_cons]
  by_cases hy : (y == n) = true
  ·have e : y = n := by simpa using hy
   subst e
   simp only [hk, he]
   cases k <;> simp [List.lookup_cons] <;> (try (by_cases q : sc y = some .cell <;> simp [q]))
  ·have hy' : (y == n) = false := by simpa using hy
   by_cases hc : ((k == NameKind.free && env.scope.kind == .function && env.kindOf n == some .cell) = true)
   ·rw [if_pos hc, List.lookup_cons, hy']; exact ih
   ·rw [if_neg hc, List.lookup_cons, hy']; exact ih
section
variable {S : St} {C : Cx} {H : AH} {s : Shared} {A : Around}
theorem Inv.hideNew (I : Inv S C H s) {s' : Shared} (hk : ∀ b o, s.heap.get? b = some o → s'.heap.get? b = some o) (hg : s'.gens = s.gens) (ho : s'.os = s.os) :
  Inv S { C with U := fun a => if s.heap.objs.size ≤ a then s'.heap.get? a else C.U a } H s' := by
 have J := I.grow hk hg ho
 have nn : ∀ a, s.heap.objs.size ≤ a → s.heap.get? a = none := fun a ha => by
  cases q : s.heap.get? a with
  | none => rfl
  | some o => exact absurd (Heap.lt_size q) (Nat.not_lt.mpr ha)
 refine ⟨J.base, fun a o e => ?_, J.objs, fun a o e => ⟨?_, (J.sepH a o e).2⟩, fun a o e => ?_, J.gens, J.os, fun a ha => ?_⟩
 ·by_cases q : s.heap.objs.size ≤ a
  ·simp only [if_pos q] at e; exact .inl e
  ·simp only [if_neg q] at e; exact J.keep a o e
 ·have lt := I.lt e
  simp only [if_neg (Nat.not_le.mpr lt)]; exact (I.sepH a o e).1
 ·by_cases q : s.heap.objs.size ≤ a
  ·exact (I.fresh (nn a q)).2.2
  ·simp only [if_neg q] at e; exact I.sepU a o e
 ·obtain ⟨o, e⟩ := I.frU a ha
  obtain ⟨ob, w⟩ := (I.keep a o e).there
  exact ⟨o, by simp only [if_neg (Nat.not_le.mpr (Heap.lt_size w))]; exact e⟩
theorem newCompEnv {M : Model} {scope : Scope} {cl : List (Str × Addr)} {env : Env} {E : Value → Shared → Prop} {Q : Env → Shared → Prop}
  (hQ : Q { scope := scope, locals := s.heap.objs.size, globals := env.globals, cells := cellsFrom (s.heap.objs.size + 1) scope.names cl, qual := env.qual, func := none, code := env.code, frame := env.frame, builtins := env.builtins }
   { s with heap := pushCells (s.heap.push { cls := .type "dict", data := .dict #[] }) scope.names }) :
  wpAny M A (newFunctionEnv scope env.globals cl [] env.qual none .none (some env)) Q E s := by
 simp only [newFunctionEnv, Option.isSome_some, if_true]
 refine wpAny_bind (wpAny_alloc ?_)
 refine wpAny_bind (wpAny_layCells _ (fun name kind cells => by cases hkc : kind == NameKind.cell <;> simp [hkc]) _ _ _ _ ?_)
 rw [show ({ s with heap := s.heap.push { cls := .type "dict", data := .dict #[] } } : Shared).heap.objs.size = s.heap.objs.size + 1 from Heap.size_push ..]
 refine wpAny_bind (m := forIn ([] : List (Str × Value)) _ _) ?_
 rw [List.forIn_nil]
 exact wpAny_pure (wpAny_pure hQ)
end
noncomputable def SoundFs (S : St) (b : Bool) (d : Nat) (sc : Kd) (ρ : Rho) (es : List Expr) (t : Tb) : Prop :=
 ∀ (C : Cx) (A : Around) (env : Env) (m : Mp) (H : AH) (Q : Bool → AH → Prop) (X : QX) (E : Value → Shared → Prop) (s : Shared),
  Room b d A → EnvOK S C A env → (∀ x, env.kindOf x = sc x) → EnvRel C env ρ m → Inv S C H s → t m H Q X → ExOK S C X E →
  wpAny S.M A (forIn es true fun c r => if r = true then do let ok ← isTrue c env (eval c env); pure (ForInStep.yield ok) else pure (ForInStep.yield r)) (PostB S C Q) E s
theorem sFs_nil {S : St} {b : Bool} {d : Nat} {sc : Kd} {ρ : Rho} : SoundFs S b d sc ρ [] (tBoolNil true) := by
 intro C A env m H Q X E s R O hk V I h hE
 rw [List.forIn_nil]
 exact wpAny_pure ⟨H, I, h⟩
theorem sFs_one {S : St} {b : Bool} {d : Nat} {sc : Kd} {ρ : Rho} {e : Expr} {t : Tb} (h1 : SoundB S b d sc ρ e t) : SoundFs S b d sc ρ [e] t := by
 intro C A env m H Q X E s R O hk V I h hE
 rw [List.forIn_cons]
 simp only [if_true]
 refine wpAny_bind (wpAny_bind (wpAny_mono (h1 C A env m H _ X E s R O hk V I h hE) ?_ fun _ _ x => x))
 rintro c s1 ⟨H1, I1, q1⟩
 refine wpAny_pure ?_
 show wpAny S.M A (forIn [] c _) _ E s1
 rw [List.forIn_nil]
 exact wpAny_pure ⟨H1, I1, q1⟩
noncomputable def noX : QX := fun _ _ => False
theorem noX_ok {S : St} {C : Cx} {E : Value → Shared → Prop} : ExOK S C noX E := fun _ _ _ _ h => h.elim
inductive CompJ (m : Mp) (i : Nat) (tc : Tb) (te : Tm) (v : AV) (H1 : AH) (Q : QV) : Prop
 | mk (kd : SK) (xs : List AV) : ItemsK kd H1 v xs → (J : Nat → List AV → AH → Prop) → J 0 [] H1 → (∀ k ys H', J k ys H' → k ≤ xs.length →
  ItemsK kd H' v xs ∧ (∀ x, xs[k]? = some x → tc (m.upd i x) H' (fun c H2 => if c = true then te (m.upd i x) H2 (fun y H3 => J (k + 1) (ys ++ [y]) H3) noX else J (k + 1) ys H2) noX) ∧
  (k = xs.length → ∀ a, H' a = none → Q (.ref a) (H'.put a (.list ys)))) → CompJ m i tc te v H1 Q
noncomputable def tComp (t : Tm) (i : Nat) (tc : Tb) (te : Tm) : Tm := fun m H Q X => t m H (fun v H1 => CompJ m i tc te v H1 Q) X
structure CompAt (scope : Scope) (sc : Kd) (ρ : Rho) (x : Str) (i : Nat) : Prop where
 kind : scope.kind = .function
 var : scope.names.lookup x = some .local ∨ scope.names.lookup x = some .cell
 free : ∀ p ∈ scope.names, p.2 = .free → sc p.1 = some .cell ∨ sc p.1 = some .free
 names : ∀ z ∈ scope.names, z.2 = .local → scope.names.lookup z.1 = some .local
 nodup : (scope.names.map (·.1)).Nodup
 new : ∀ p ∈ ρ, p.2 ≠ i
 rho : RhoOK ρ
noncomputable def rhoIn (scope : Scope) (ρ : Rho) (x : Str) (i : Nat) : Rho := (x, i) :: ρ.filter fun p => scope.names.lookup p.1 == some .free
theorem nodup_lookup {names : List (Str × NameKind)} (hn : (names.map (·.1)).Nodup) : ∀ {x : Str} {k : NameKind}, (x, k) ∈ names → names.lookup x = some k := by
 induction names with
 | nil => intro x k h; nomatch h
 | cons p r ih =>
  obtain ⟨y, k'⟩ := p
  obtain ⟨h1, h2⟩ := List.nodup_cons.mp hn
  intro x k h
  rw [List.lookup_cons]
  rcases List.mem_cons.mp h with e | hm
  ·cases e; simp
  ·have : (x == y) = false := by
    cases q : x == y with
    | false => rfl
    | true =>
     have e : x = y := by simpa using q
     subst e
     exact absurd (List.mem_map.mpr ⟨(x, k), hm, rfl⟩ : x ∈ r.map (·.1)) h1
   rw [this]; exact ih h2 hm
theorem CompAt.rhoIn {scope : Scope} {sc : Kd} {ρ : Rho} {x : Str} {i : Nat} (h : CompAt scope sc ρ x i) : RhoOK (rhoIn scope ρ x i) := by
 have nx : ∀ p ∈ ρ.filter (fun p => scope.names.lookup p.1 == some .free), p.1 ≠ x ∧ p.2 ≠ i := fun p hp => by
  obtain ⟨h1, h2⟩ := List.mem_filter.mp hp
  refine ⟨fun q => ?_, h.new p h1⟩
  have h2 : scope.names.lookup p.1 = some .free := by simpa using h2
  rw [q] at h2
  rcases h.var with w | w <;> rw [w] at h2 <;> cases h2
 intro p hp q hq
 rcases List.mem_cons.mp hp with rfl | hp <;> rcases List.mem_cons.mp hq with rfl | hq
 ·simp
 ·have := nx q hq; exact ⟨fun e => absurd e.symm this.1, fun e => absurd e.symm this.2⟩
 ·have := nx p hp; exact ⟨fun e => absurd e this.1, fun e => absurd e this.2⟩
 ·exact h.rho p (List.mem_filter.mp hp).1 q (List.mem_filter.mp hq).1
structure CompFin (S : St) (C : Cx) (Q : QV) (D L : Addr) (s' : Shared) : Prop where
 ex : ∃ C1 H1 ys vs nD oL mL, (∀ a o, C.U a = some o → C1.U a = some o) ∧ C1.fr = C.fr ∧ C1.envs = C.envs ∧ C1.U D = some { cls := .type "list", data := .seq (List.toArray vs) nD } ∧ VRs vs ys ∧ vs.length ≤ sizeLine ∧
  C1.U L = some oL ∧ NsObj oL mL ∧ D ∉ C.fr ∧ L ∉ C.fr ∧ Inv S C1 H1 s' ∧ (∀ a, H1 a = none → Q (.ref a) (H1.put a (.list ys)))
 newD : C.U D = none
 newL : C.U L = none
 ne : D ≠ L
inductive CmpI (S : St) (C : Cx) (A : Around) (cenv : Env) (ρ' : Rho) (kd : SK) (v : AV) (xs : List AV) (It D : Addr) (i : Nat) (m : Mp) (J : Nat → List AV → AH → Prop) (n : Nat) (s' : Shared) : Prop
 | mk (C1 : Cx) (ys : List AV) (vs : List Value) (nD : Nat) (H1 : AH) (o : Obj) (k : Nat) (mk : Mp) : n = xs.length + 1 - k → k ≤ xs.length → C1.fr = C.fr → C1.envs = C.envs → (∀ a o, C.U a = some o → C1.U a = some o) → C1.U It = some o →
   C1.U D = some { cls := .type "list", data := .seq (List.toArray vs) nD } → VRs vs ys → vs.length ≤ k → EnvOK S C1 A cenv → EnvRel C1 cenv ρ' mk → (∀ j, j ≠ i → mk j = m j) → Inv S C1 H1 s' → ItAt S kd v xs k It s'.heap → J k ys H1 → CmpI S C A cenv ρ' kd v xs It D i m J n s'
set_option maxHeartbeats 4000000 in
theorem comp_core {S : St} {d : Nat} {sc : Kd} {ρ : Rho} {elt iter : Expr} {x : Str} {i : Nat} {px : Pos} {ifs : List Expr} {scope : Scope} {pos p0 : Pos} {t te : Tm} {tc : Tb}
  (h1 : SoundE S true d sc ρ iter t) (h2 : SoundFs S true d (relab sc scope.names) (rhoIn scope ρ x i) ifs tc) (h3 : SoundE S true d (relab sc scope.names) (rhoIn scope ρ x i) elt te) (hc : CompAt scope sc ρ x i)
  (hs : ∀ env v, foldedSetIterable iter env v = pure v)
  {C : Cx} {A : Around} {env : Env} {m : Mp} {H : AH} {Q : QV} {X : QX} {E : Value → Shared → Prop} {s : Shared} {use : Option (Value → Sem Unit)} {Qc : Value → Shared → Prop}
  (R : Room true d A) (O : EnvOK S C A env) (hk : ∀ x, env.kindOf x = sc x) (V : EnvRel C env ρ m) (I : Inv S C H s) (h : tComp t i tc te m H Q X) (hE : ExOK S C X E)
  (fin : ∀ D L s', CompFin S C Q D L s' → compPost S.M A E use Qc (.ref D) L (.ok .next) s') :
  wpAny S.M A (comprehension (.ListComp elt [⟨.Name x px, iter, ifs, 0⟩] scope pos) scope env p0 (newList []) false (eval iter env) use) Qc E s := by
 have hh := R.hd rfl
 have hclos := closureFor_eq (env := env) (scope := scope) fun y hy => O.cells y (by rw [hk]; exact hc.free _ hy rfl)
 refine wpAny_comprehension_free rfl (hs env) hclos hc.kind hc.names (wpAny_mono (h1 C A env m H _ X E s R O hk V I h hE) ?_ fun _ _ x => x)
 rintro cv s1 ⟨v, H1, r1, I1, kd, xs, hi, J, j0, jn⟩
 refine iter_start I1 r1 hi fun It oI s2 n2 g2 k2 e2 f2 it2 => ?_
 have hUI := (I1.fresh n2).2.1
 have hlen := items_le I1 hi
 have I2 := I1.hide n2 k2 g2 e2 f2
 have ltI : @LT.lt Nat _ It s2.heap.objs.size := Heap.lt_size g2
 refine wpAny_newObj_type ?_
 refine newCompEnv ?_
 have eD : (s2.heap.push { cls := .type "list", dict := none, data := .seq ([] : List Value).toArray }).objs.size = s2.heap.objs.size + 1 := Heap.size_push ..
 dsimp only
 rw [eD]
 have ok := cellsFrom_ok scope.names ((s2.heap.push { cls := .type "list", dict := none, data := .seq ([] : List Value).toArray }).push { cls := .type "dict", data := .dict #[] }) (s2.heap.objs.size + 2) [] ⟨fun _ _ hm => (nomatch hm), List.Pairwise.nil⟩ (by rw [Heap.size_push, eD]; exact Nat.le_refl _)
 rw [Heap.size_push, eD] at ok
 generalize hh4 : pushCells ((s2.heap.push { cls := .type "list", dict := none, data := .seq ([] : List Value).toArray }).push { cls := .type "dict", data := .dict #[] }) scope.names = h4 at ok ⊢
 have up4 : ∀ b o, ((s2.heap.push { cls := .type "list", dict := none, data := .seq ([] : List Value).toArray }).push { cls := .type "dict", data := .dict #[] }).get? b = some o → h4.get? b = some o := fun b o e => by rw [← hh4]; exact pushCells_keeps _ _ b o e
 have kp4 : ∀ b o, s2.heap.get? b = some o → h4.get? b = some o := fun b o e => up4 b o (Heap.get?_push_of_some _ (Heap.get?_push_of_some _ e))
 have gD : h4.get? s2.heap.objs.size = some { cls := .type "list", data := .seq ([] : List Value).toArray } := up4 _ _ (Heap.get?_push_of_some _ (Heap.get?_push_size _ rfl))
 have gL : h4.get? (s2.heap.objs.size + 1) = some { cls := .type "dict", data := .dict #[] } := by
  have := up4 (s2.heap.push { cls := .type "list", dict := none, data := .seq ([] : List Value).toArray }).objs.size _ (Heap.get?_push_size _ rfl)
  rwa [eD] at this
 have I4 := I2.hideNew (s' := { s2 with heap := h4 }) kp4 rfl rfl
 have hlt : ∀ a o, C.U a = some o → @LT.lt Nat _ a s2.heap.objs.size := fun a o e => by
  obtain ⟨ob, w⟩ := (I1.keep a o e).there
  exact Heap.lt_size (k2 _ _ w)
 generalize hC4 : ({ C.hide It oI with U := fun a => if s2.heap.objs.size ≤ a then h4.get? a else (C.hide It oI).U a } : Cx) = C4 at I4
 have fr4 : C4.fr = C.fr := by rw [← hC4]; rfl
 have en4 : C4.envs = C.envs := by rw [← hC4]; rfl
 have U4n : ∀ a, s2.heap.objs.size ≤ a → C4.U a = h4.get? a := fun a ha => by rw [← hC4]; exact if_pos ha
 have U4o : ∀ a o, C.U a = some o → C4.U a = some o := fun a o e => by
  have lt := hlt a o e
  rw [← hC4]
  show (if s2.heap.objs.size ≤ a then _ else _) = _
  rw [if_neg (Nat.not_le.mpr lt), Cx.hide_ne _ _ fun q => by rw [q, hUI] at e; cases e]; exact e
 have U4I : C4.U It = some oI := by
  rw [← hC4]
  show (if s2.heap.objs.size ≤ It then _ else _) = _
  rw [if_neg (Nat.not_le.mpr ltI)]; exact Cx.hide_self ..
 have newU : ∀ a, s2.heap.objs.size ≤ a → C.U a = none := fun a ha => by
  cases q : C.U a with
  | none => rfl
  | some o => exact absurd (hlt a o q) (Nat.not_lt.mpr ha)
 have frlt : ∀ a, a ∈ C.fr → @LT.lt Nat _ a s2.heap.objs.size := fun a ha => by obtain ⟨o, e⟩ := I.frU a ha; exact hlt a o e
 have hcells : ∀ y c, (cellsFrom (s2.heap.objs.size + 1 + 1) scope.names (closL env scope.names [])).lookup y = some c →
   (s2.heap.objs.size + 2 ≤ c ∧ h4.IsCell c none ∧ (y, c) ∈ cellsFrom (s2.heap.objs.size + 1 + 1) scope.names []) ∨ ((y, NameKind.free) ∈ scope.names ∧ env.cells.lookup y = some c) := fun y c e => by
  rw [cellsFrom_append] at e
  rcases List.mem_append.mp (mem_of_lookup e) with q | q
  ·exact .inl ⟨(ok.empty y c q).2, (ok.empty y c q).1, q⟩
  ·rcases closL_mem q with w | ⟨w1, w2⟩
   ·nomatch w
   ·obtain ⟨c', hc'⟩ := O.cells y (by rw [hk]; exact hc.free _ w1 rfl)
    rw [hc'] at w2
    exact .inr ⟨w1, by rw [hc', w2]; rfl⟩
 generalize hcenv : ({ scope := relabel scope env, locals := s2.heap.objs.size + 1, globals := env.globals, cells := cellsFrom (s2.heap.objs.size + 1 + 1) scope.names (closL env scope.names []), qual := env.qual, func := none, code := env.code, frame := env.frame, builtins := env.builtins } : Env) = cenv
 have c1 : cenv.locals = s2.heap.objs.size + 1 := by rw [← hcenv]
 have c2 : cenv.cells = cellsFrom (s2.heap.objs.size + 1 + 1) scope.names (closL env scope.names []) := by rw [← hcenv]
 have ckd : ∀ y, cenv.kindOf y = relab sc scope.names y := fun y => by
  rw [← hcenv]; exact relab_eq O.kind hk y
 have cown : ∀ y, scope.names.lookup y = some .cell → ∀ c, cenv.cells.lookup y = some c → s2.heap.objs.size + 2 ≤ c := fun y hy c e => by
  rw [c2] at e
  rcases hcells y c e with q | ⟨q, _⟩
  ·exact q.1
  ·rw [nodup_lookup hc.nodup q] at hy; cases hy
 have O4 : EnvOK S C4 A cenv := by
  refine ⟨by rw [← hcenv]; exact hc.kind, by rw [← hcenv]; exact O.glob, by rw [← hcenv]; exact O.blt, fun y hy => ?_, fun y c e => ?_, fun y z c ey ez => ?_, ?_, by rw [en4]; exact O.stack, fun e he => ?_⟩
  ·rw [c2]
   refine Option.isSome_iff_exists.mp ?_
   rw [ckd] at hy
   unfold relab at hy
   cases q : scope.names.lookup y with
   | none => rw [q] at hy; simp at hy
   | some k =>
    cases k with
    | cell => exact cellsFrom_mem (.inl q)
    | free => exact cellsFrom_mem (.inr (closL_has (.inl (mem_of_lookup q))))
    | _ => rw [q] at hy; simp at hy
  ·rw [c2] at e
   rw [c1, fr4]
   rcases hcells y c e with ⟨q1, ⟨o, q2, q3⟩, _⟩ | ⟨q1, q2⟩
   ·refine ⟨by (first | omega | exact Nat.ne_of_lt (by omega) | exact Nat.ne_of_gt (by omega)), fun w => ?_, o, none, (U4n c (by (first | omega | exact Nat.ne_of_lt (by omega) | exact Nat.ne_of_gt (by omega)))).trans q2, q3⟩
    have := frlt c w; (first | omega | exact Nat.ne_of_lt (by omega) | exact Nat.ne_of_gt (by omega))
   ·obtain ⟨w1, w2, o, v', w3, w4⟩ := O.cellU y c q2
    have := hlt c o w3
    exact ⟨by (first | omega | exact Nat.ne_of_lt (by omega) | exact Nat.ne_of_gt (by omega)), w2, o, v', U4o c o w3, w4⟩
  ·rw [c2] at ey ez
   rcases hcells y c ey with ⟨q1, _, q2⟩ | ⟨q1, q2⟩ <;> rcases hcells z c ez with ⟨w1, _, w2⟩ | ⟨w1, w2⟩
   ·exact name_of_addr ok.apart q2 w2
   ·obtain ⟨_, _, o, _, w3, _⟩ := O.cellU z c w2; have := hlt c o w3; (first | omega | exact Nat.ne_of_lt (by omega) | exact Nat.ne_of_gt (by omega))
   ·obtain ⟨_, _, o, _, w3, _⟩ := O.cellU y c q2; have := hlt c o w3; (first | omega | exact Nat.ne_of_lt (by omega) | exact Nat.ne_of_gt (by omega))
   ·exact O.apart y z c q2 w2
  ·exact ⟨_, fun _ => none, by rw [c1]; exact (U4n _ (by (first | omega | exact Nat.ne_of_lt (by omega) | exact Nat.ne_of_gt (by omega)))).trans gL, #[], 0, rfl, fun e he => by simp at he, fun _ => rfl⟩
  ·rw [en4] at he
   obtain ⟨q1, L, o, q2, q3, q4, q5⟩ := O.fun_ e he
   exact ⟨q1, L, o, q2, by rw [fr4]; exact q3, U4o L o q4, q5⟩
 have V4 : EnvRel C4 cenv (rhoIn scope ρ x i) (fun j => if j = i then none else m j) := by
  intro y j w hy hw
  rcases List.mem_cons.mp hy with e | hy
  ·cases e; simp at hw
  ·obtain ⟨y1, y2⟩ := List.mem_filter.mp hy
   have y2 : scope.names.lookup y = some .free := by simpa using y2
   have nj : j ≠ i := hc.new _ y1
   simp only [if_neg nj] at hw
   obtain ⟨cv', q1, V'⟩ := V y j w y1 hw
   have hsc := hc.free _ (mem_of_lookup y2) rfl
   rcases V' with ⟨k1, _⟩ | ⟨_, c, o, k1, k2, k3⟩
   ·rw [hk] at k1; rcases hsc with q | q <;> rw [k1] at q <;> cases q
   ·refine ⟨cv', q1, .inr ⟨?_, c, o, ?_, U4o c o k2, k3⟩⟩
    ·rw [ckd]; unfold relab; rw [y2]
     by_cases q : sc y = some .cell <;> simp [q]
    ·obtain ⟨c', hc'⟩ := O4.cells y (by rw [ckd]; unfold relab; rw [y2]; by_cases q : sc y = some .cell <;> simp [q])
     have hc'' := hc'
     rw [c2] at hc'
     rcases hcells y c' hc' with ⟨_, _, q⟩ | ⟨_, q⟩
     ·rcases cellsFrom_kind q with w | w
      ·nomatch w
      ·rw [nodup_lookup hc.nodup w] at y2; cases y2
     ·rw [q] at k1; cases k1; exact hc''
 have it4 : ItAt S kd v xs 0 It h4 := it2.frame fun o e => kp4 _ _ e
 have hvar : cenv.kindOf x = some .local ∨ cenv.kindOf x = some .cell := by
  rw [ckd]; unfold relab
  rcases hc.var with q | q <;> rw [q] <;> simp
 have apI : ∀ {C' : Cx}, C'.fr = C.fr → Apart C' cenv It := fun {C'} e => by
  refine ⟨by rw [c1]; (first | omega | exact Nat.ne_of_lt (by omega) | exact Nat.ne_of_gt (by omega)), fun y q => ?_, fun q => ?_⟩
  ·rw [c2] at q
   rcases hcells y It q with ⟨w, _⟩ | ⟨_, w⟩
   ·(first | omega | exact Nat.ne_of_lt (by omega) | exact Nat.ne_of_gt (by omega))
   ·obtain ⟨_, _, o, _, w3, _⟩ := O.cellU y It w; rw [hUI] at w3; cases w3
  ·rw [e] at q; obtain ⟨o, w⟩ := I.frU It q; rw [hUI] at w; cases w
 have apD : ∀ {C' : Cx}, C'.fr = C.fr → Apart C' cenv s2.heap.objs.size := fun {C'} e => by
  refine ⟨by rw [c1]; (first | omega | exact Nat.ne_of_lt (by omega) | exact Nat.ne_of_gt (by omega)), fun y q => ?_, fun q => ?_⟩
  ·rw [c2] at q
   rcases hcells y _ q with ⟨w, _⟩ | ⟨_, w⟩
   ·(first | omega | exact Nat.ne_of_lt (by omega) | exact Nat.ne_of_gt (by omega))
   ·obtain ⟨_, _, o, _, w3, _⟩ := O.cellU y _ w; have := hlt _ o w3; (first | omega | exact Nat.ne_of_lt (by omega) | exact Nat.ne_of_gt (by omega))
  ·rw [e] at q; have := frlt _ q; (first | omega | exact Nat.ne_of_lt (by omega) | exact Nat.ne_of_gt (by omega))
 have hD0 : C.U s2.heap.objs.size = none := newU _ (Nat.le_refl _)
 have hL0 : C.U (s2.heap.objs.size + 1) = none := newU _ (by (first | omega | exact Nat.ne_of_lt (by omega) | exact Nat.ne_of_gt (by omega)))
 have loop : codeAny S.M A (.compLoop (.ListComp elt [⟨.Name x px, iter, ifs, 0⟩] scope pos) 0 (.ref It) (.ref s2.heap.objs.size) cenv) (compPost S.M A E use Qc (.ref s2.heap.objs.size) cenv.locals) { s2 with heap := h4 } := by
  refine codeAny_compLoop_tests (CmpI S C A cenv (rhoIn scope ρ x i) kd v xs It s2.heap.objs.size i m J) ?_ (xs.length + 1)
   ⟨C4, [], [], 0, H1, oI, 0, _, rfl, Nat.zero_le _, fr4, en4, U4o, U4I, (U4n _ (Nat.le_refl _)).trans gD, .nil, Nat.le_refl _, O4, V4, fun j hj => if_neg hj, I4, it4, j0⟩
  rintro n s3 ⟨C1, ys, vs, nD, H1', o1, k, mk, rfl, hk1, fr1, en1, sup1, u1, uD, hys, hvl, O1, V1, mk1, I3, it3, j3⟩
  obtain ⟨ji, js, jd⟩ := jn k ys H1' j3 hk1
  refine iter_next I3 hh ji it3 hk1 (fun cw y s4 hy hr it4' k4 g4 f4 => ?_) fun s4 hend k4 g4 f4 => ?_
  ·obtain ⟨o4, ho4⟩ := it4'.there
   have I4' := I3.turn u1 k4 ho4 g4 f4
   have lt : k < xs.length := (List.getElem?_eq_some_iff.mp hy).1
   show wpAny S.M A (do standAt px; bindName cenv x cw) _ _ s4
   refine wpAny_bind (wpAny_standAt (wpAny_mono (store_var (O1.hide (apI fr1) o4) (V1.hide (apI fr1) o4) I4' hc.rhoIn (.head _) hr hvar) ?_ fun _ _ x => x))
   rintro _ s5 ⟨C5, a5, o5, w5, e5, O5, V5, I5⟩
   have hmk : mk.upd i y = m.upd i y := by
    funext j
    by_cases q : j = i
    ·rw [q, Mp.upd_self, Mp.upd_self]
    ·rw [Mp.upd_ne _ _ q, Mp.upd_ne _ _ q]; exact mk1 j q
   rw [hmk] at V5
   have a5new : @LE.le Nat _ (s2.heap.objs.size + 1) a5 := by
    rcases w5 with ⟨_, w⟩ | ⟨w1, w2⟩
    ·rw [w, c1]; exact Nat.le_refl _
    ·have hcx : scope.names.lookup x = some .cell := by
      rcases hc.var with q | q
      ·rw [ckd] at w1; unfold relab at w1; rw [q] at w1; cases w1
      ·exact q
     have := cown x hcx a5 w2; (first | omega | exact Nat.ne_of_lt (by omega) | exact Nat.ne_of_gt (by omega))
   have nI : It ≠ a5 := by (first | omega | exact Nat.ne_of_lt (by omega) | exact Nat.ne_of_gt (by omega))
   have nD' : s2.heap.objs.size ≠ a5 := by (first | omega | exact Nat.ne_of_lt (by omega) | exact Nat.ne_of_gt (by omega))
   have u5 : C5.U It = some o4 := by rw [e5, Cx.hide_ne _ _ nI]; exact Cx.hide_self ..
   have uD5 : C5.U s2.heap.objs.size = some { cls := .type "list", data := .seq (List.toArray vs) nD } := by
    rw [e5, Cx.hide_ne _ _ nD', Cx.hide_ne _ _ (by (first | omega | exact Nat.ne_of_lt (by omega) | exact Nat.ne_of_gt (by omega)))]; exact uD
   have sup5 : ∀ a o, C.U a = some o → C5.U a = some o := fun a o e => by
    have := hlt a o e
    rw [e5, Cx.hide_ne _ _ (by (first | omega | exact Nat.ne_of_lt (by omega) | exact Nat.ne_of_gt (by omega))), Cx.hide_ne _ _ fun q => by rw [q, hUI] at e; cases e]; exact sup1 a o e
   have fr5 : C5.fr = C.fr := by rw [e5]; exact fr1
   have en5 : C5.envs = C.envs := by rw [e5]; exact en1
   refine wpAny_mono (h2 C5 A cenv (m.upd i y) H1' _ noX _ s5 R O5 ckd V5 I5 (js y hy) noX_ok) ?_ fun _ _ x => x
   rintro okb s6 ⟨H6, I6, q6⟩
   have itk : ∀ {s' : Shared} {H' : AH}, Inv S C5 H' s' → ItAt S kd v xs (k + 1) It s'.heap := fun {s' H'} I' => it4'.frame fun o w => by
    rw [ho4] at w; cases w
    exact I'.exact u5 (apI fr5).fr
   cases okb with
   | false =>
    simp only [Bool.false_eq_true, if_false] at q6 ⊢
    exact ⟨xs.length + 1 - (k + 1), by (first | omega | exact Nat.ne_of_lt (by omega) | exact Nat.ne_of_gt (by omega)), C5, ys, vs, nD, H6, o4, k + 1, _, rfl, lt, fr5, en5, sup5, u5, uD5, hys, by (first | omega | exact Nat.ne_of_lt (by omega) | exact Nat.ne_of_gt (by omega)), O5, V5, fun j hj => Mp.upd_ne _ _ hj, I6, itk I6, q6⟩
   | true =>
    simp only [if_true] at q6 ⊢
    refine wpAny_mono (h3 C5 A cenv (m.upd i y) H6 _ noX _ s6 R O5 ckd V5 I6 q6 noX_ok) ?_ fun _ _ x => x
    rintro cz s7 ⟨z, H7, r7, I7, q7⟩
    have gD7 := I7.exact uD5 (apD fr5).fr
    refine append_at (hsz := by rw [List.size_toArray]; have := hlen; (first | omega | exact Nat.ne_of_lt (by omega) | exact Nat.ne_of_gt (by omega))) gD7 fun h8 sb8 g8 => ?_
    have I8 := I7.turn (s' := { s7 with heap := h8 }) uD5 (fun b ob hb e => (sb8.2 b hb).trans e) (by rw [List.push_toArray] at g8; exact g8) rfl rfl
    refine ⟨xs.length + 1 - (k + 1), by (first | omega | exact Nat.ne_of_lt (by omega) | exact Nat.ne_of_gt (by omega)), C5.hide s2.heap.objs.size { cls := .type "list", data := .seq (List.toArray (vs ++ [cz])) (nD + 1) }, ys ++ [z], vs ++ [cz], nD + 1, H7, o4, k + 1, _, rfl, lt, fr5, en5, fun a o e => ?_, ?_, Cx.hide_self .., hys.append (.cons r7 .nil), by simp; (first | omega | exact Nat.ne_of_lt (by omega) | exact Nat.ne_of_gt (by omega)), O5.hide (apD fr5) _, V5.hide (apD fr5) _, fun j hj => Mp.upd_ne _ _ hj, I8, (itk I7).frame fun o w => ?_, q7⟩
    ·have := hlt a o e
     rw [Cx.hide_ne _ _ (by (first | omega | exact Nat.ne_of_lt (by omega) | exact Nat.ne_of_gt (by omega)))]; exact sup5 a o e
    ·rw [Cx.hide_ne _ _ (by (first | omega | exact Nat.ne_of_lt (by omega) | exact Nat.ne_of_gt (by omega)))]; exact u5
    ·exact (sb8.2 It (by (first | omega | exact Nat.ne_of_lt (by omega) | exact Nat.ne_of_gt (by omega)))).trans w
  ·obtain ⟨oL, mL, q1, q2⟩ := O1.loc
   rw [c1] at q1 ⊢
   have I4'' : Inv S (C1.drop It) H1' s4 := (I3.drop (apI fr1).fr).loose ⟨(I3.hid u1).1, (I3.hid u1).2, Cx.drop_self ..⟩ k4 g4 f4
   refine fin _ _ s4 ⟨⟨C1.drop It, H1', ys, vs, nD, oL, mL, fun a o e => ?_, fr1, en1, ?_, hys, by (first | omega | exact Nat.ne_of_lt (by omega) | exact Nat.ne_of_gt (by omega)), ?_, q2, fun q => ?_, fun q => ?_, I4'', jd hend⟩, hD0, hL0, by (first | omega | exact Nat.ne_of_lt (by omega) | exact Nat.ne_of_gt (by omega))⟩
   ·rw [Cx.drop_ne _ fun q => by rw [q, hUI] at e; cases e]; exact sup1 a o e
   ·rw [Cx.drop_ne _ (by (first | omega | exact Nat.ne_of_lt (by omega) | exact Nat.ne_of_gt (by omega)))]; exact uD
   ·rw [Cx.drop_ne _ (by (first | omega | exact Nat.ne_of_lt (by omega) | exact Nat.ne_of_gt (by omega)))]; exact q1
   ·have := frlt _ q; (first | omega | exact Nat.ne_of_lt (by omega) | exact Nat.ne_of_gt (by omega))
   ·have := frlt _ q; (first | omega | exact Nat.ne_of_lt (by omega) | exact Nat.ne_of_gt (by omega))
 have := codeAny_compStart_list loop (it4.self (s := { s2 with heap := h4 }) loop)
 rw [c1] at this
 exact this
theorem sE_comp {S : St} {d : Nat} {sc : Kd} {ρ : Rho} {elt iter : Expr} {x : Str} {i : Nat} {px : Pos} {ifs : List Expr} {scope : Scope} {pos : Pos} {t te : Tm} {tc : Tb}
  (h1 : SoundE S true d sc ρ iter t) (h2 : SoundFs S true d (relab sc scope.names) (rhoIn scope ρ x i) ifs tc) (h3 : SoundE S true d (relab sc scope.names) (rhoIn scope ρ x i) elt te) (hc : CompAt scope sc ρ x i)
  (hs : ∀ env v, foldedSetIterable iter env v = pure v) : SoundE S true d sc ρ (.ListComp elt [⟨.Name x px, iter, ifs, 0⟩] scope pos) (tComp t i tc te) := by
 intro C A env m H Q X E s R O hk V I h hE
 rw [eval_ListComp]
 refine comp_core h1 h2 h3 hc hs R O hk V I h hE (use := none) fun D L s' F => ?_
 obtain ⟨C1, H1, ys, vs, nD, oL, mL, sup, fr1, en1, uD, hys, hvl, uL, hL, nfD, nfL, I1, q⟩ := F.ex
 have hLx : s'.heap.get? L = some oL := I1.exact uL (by rw [fr1]; exact nfL)
 have hDx := I1.exact uD (by rw [fr1]; exact nfD)
 obtain ⟨es, ep, w1, w2, w3⟩ := hL
 refine ⟨mL, ⟨oL, es, ep, hLx, w1, w2, w3⟩, fun h' sb => ?_⟩
 have J1 : Inv S C H1 s' := I1.less (fun a ha _ => fr1 ▸ ha) sup I.frU
 have J2 : Inv S C H1 { s' with heap := h' } := J1.loose (a := L) ⟨(I1.hid uL).1, (I1.hid uL).2, F.newL⟩ (fun b o nb e => (sb.2 b nb).trans e) rfl rfl
 refine ⟨.ref D, H1.put D (.list ys), .ref D, J2.track ⟨(I1.hid uD).1, (I1.hid uD).2, F.newD⟩ ⟨vs, nD, (sb.2 D F.ne).trans hDx, hys, hvl⟩, q D (I1.hid uD).2⟩
theorem sT_assignComp {S : St} {d : Nat} {sc : Kd} {ρ : Rho} {elt iter : Expr} {x y : Str} {i j : Nat} {px py : Pos} {ifs : List Expr} {scope : Scope} {pos spos : Pos} {t te : Tm} {tc : Tb}
  (h1 : SoundE S true d sc ρ iter t) (h2 : SoundFs S true d (relab sc scope.names) (rhoIn scope ρ x i) ifs tc) (h3 : SoundE S true d (relab sc scope.names) (rhoIn scope ρ x i) elt te) (hc : CompAt scope sc ρ x i)
  (hs : ∀ env v, foldedSetIterable iter env v = pure v) (hy : ρ.lookup y = some j) (hk : sc y = some .local ∨ sc y = some .cell) :
  SoundT S true d sc ρ (.Assign [.Name y py] (.ListComp elt [⟨.Name x px, iter, ifs, 0⟩] scope pos) spos) (tAssign j (tComp t i tc te)) := by
 intro C A env m H QN QR X E s R O hce hk' V I h hE
 cases hsw : (env.blockKind == .function && env.kindOf y == some .local && py.line == (Expr.ListComp elt [⟨.Name x px, iter, ifs, 0⟩] scope pos).pos.line && !(scope.names.any fun (n, k) => n == y && (k == .local || k == .cell))) with
 | false =>
  have e : swapsWith (.ListComp elt [⟨.Name x px, iter, ifs, 0⟩] scope pos) (some (.Name y py)) spos.line env = pure false := by
   rw [← hsw]; rfl
  rw [exec_Assign_Name env y py _ spos e]
  refine wpAny_bind (wpAny_standAt (wpAny_bind (wpAny_mono (sE_comp h1 h2 h3 hc hs C A env m H _ X E s R O hk' V I h (hE.ex O)) ?_ fun _ _ x => x)))
  rintro v s1 ⟨av, H1, r1, I1, q1⟩
  refine wpAny_bind (wpAny_standAt (wpAny_bind (wpAny_mono (store_var O V I1 hc.rho (mem_of_lookup hy) r1 (by rw [hk']; exact hk)) ?_ fun _ _ x => x)))
  rintro _ s2 ⟨C2, a2, o2, w2, e2, O2, V2, I2⟩
  exact wpAny_pure ⟨C2, H1, .stored w2 e2, I2, _, O2, V2, q1⟩
 | true =>
  have e : swapsWith (.ListComp elt [⟨.Name x px, iter, ifs, 0⟩] scope pos) (some (.Name y py)) spos.line env = pure true := by
   rw [← hsw]; rfl
  rw [exec_Assign_Name_used (hs := e)]
  refine wpAny_bind (wpAny_standAt (wpAny_bind ?_))
  show wpAny _ A (do let _ ← comprehension (.ListComp elt [⟨.Name x px, iter, ifs, 0⟩] scope pos) scope env _ (newList []) false (eval iter env) (some (assign (.Name y py) env))) _ _ s
  refine wpAny_bind (wpAny_mono (comp_core (Qc := fun _ s' => PostS S C A env ρ QN QR .next s') h1 h2 h3 hc hs R O hk' V I h (hE.ex O) (use := some (assign (.Name y py) env)) fun D L s' F => ?_) (fun _ s' hq => wpAny_pure (wpAny_pure hq)) fun _ _ x => x)
  obtain ⟨C1, H1, ys, vs, nD, oL, mL, sup, fr1, en1, uD, hys, hvl, uL, hL, nfD, nfL, I1, q⟩ := F.ex
  have sm : ∀ {a : Addr}, (∃ o, C.U a = some o) → C1.U a = C.U a := fun {a} ⟨o, e⟩ => by rw [e]; exact sup a o e
  have s1 : C1.U env.locals = C.U env.locals := by obtain ⟨o, _, e, _⟩ := O.loc; exact sm ⟨o, e⟩
  have s2 : ∀ x c, env.cells.lookup x = some c → C1.U c = C.U c := fun x c hx => by obtain ⟨_, _, o, _, e, _⟩ := O.cellU x c hx; exact sm ⟨o, e⟩
  have O1 : EnvOK S C1 A env := O.of_U fr1 en1 s1 s2 fun L' hL' => sm (I.frU L' hL')
  have V1 : EnvRel C1 env ρ m := V.of_U s1 s2
  show wpAny S.M A (do standAt py; bindName env y (.ref D)) _ E s'
  refine wpAny_bind (wpAny_standAt (wpAny_mono (store_var O1 V1 I1 hc.rho (mem_of_lookup hy) (.ref D) (by rw [hk']; exact hk)) ?_ fun _ _ x => x))
  rintro _ s3 ⟨C2, a2, o2, w2, e2, O2, V2, I2⟩
  have inC : ∃ o, C.U a2 = some o := by
   rcases w2 with ⟨_, w⟩ | ⟨_, w⟩
   ·obtain ⟨o, _, e, _⟩ := O.loc; exact ⟨o, by rw [w]; exact e⟩
   ·obtain ⟨_, _, o, _, e, _⟩ := O.cellU y a2 w; exact ⟨o, e⟩
  have nL : L ≠ a2 := fun z => by obtain ⟨o, e⟩ := inC; rw [← z, F.newL] at e; cases e
  have nD2 : D ≠ a2 := fun z => by obtain ⟨o, e⟩ := inC; rw [← z, F.newD] at e; cases e
  have uL2 : C2.U L = some oL := by rw [e2, Cx.hide_ne _ _ nL]; exact uL
  have uD2 : C2.U D = some { cls := .type "list", data := .seq (List.toArray vs) nD } := by rw [e2, Cx.hide_ne _ _ nD2]; exact uD
  have fr2 : C2.fr = C.fr := by rw [e2]; exact fr1
  have hLx : s3.heap.get? L = some oL := I2.exact uL2 (by rw [fr2]; exact nfL)
  have hDx := I2.exact uD2 (by rw [fr2]; exact nfD)
  obtain ⟨es, ep, w1, w3, w4⟩ := hL
  refine ⟨mL, ⟨oL, es, ep, hLx, w1, w3, w4⟩, fun h' sb => ?_⟩
  have J1 : Inv S (C.hide a2 o2) H1 s3 := by
   refine I2.less (fun a ha _ => fr2 ▸ ha) (fun a o e => ?_) fun a ha => ?_
   ·rw [e2]
    by_cases z : a = a2
    ·rw [z, Cx.hide_self] at e ⊢; exact e
    ·rw [Cx.hide_ne _ _ z] at e ⊢; exact sup a o e
   ·by_cases z : a = a2
    ·exact ⟨o2, by rw [z]; exact Cx.hide_self ..⟩
    ·obtain ⟨o, e⟩ := I.frU a ha; exact ⟨o, (Cx.hide_ne _ _ z).trans e⟩
  have nUL : (C.hide a2 o2).U L = none := by rw [Cx.hide_ne _ _ nL]; exact F.newL
  have nUD : (C.hide a2 o2).U D = none := by rw [Cx.hide_ne _ _ nD2]; exact F.newD
  have J2 : Inv S (C.hide a2 o2) H1 { s3 with heap := h' } := J1.loose (a := L) ⟨(I2.hid uL2).1, (I2.hid uL2).2, nUL⟩ (fun b o nb e => (sb.2 b nb).trans e) rfl rfl
  have sm2 : ∀ {a : Addr}, (∃ o, C.U a = some o) → (C.hide a2 o2).U a = C2.U a := fun {a} ha => by
   rw [e2]
   by_cases z : a = a2
   ·rw [z, Cx.hide_self, Cx.hide_self]
   ·rw [Cx.hide_ne _ _ z, Cx.hide_ne _ _ z]; exact (sm ha).symm
  have t1 : (C.hide a2 o2).U env.locals = C2.U env.locals := by obtain ⟨o, _, e, _⟩ := O.loc; exact sm2 ⟨o, e⟩
  have t2 : ∀ x c, env.cells.lookup x = some c → (C.hide a2 o2).U c = C2.U c := fun x c hx => by obtain ⟨_, _, o, _, e, _⟩ := O.cellU x c hx; exact sm2 ⟨o, e⟩
  exact ⟨C.hide a2 o2, H1.put D (.list ys), .stored w2 rfl, J2.track ⟨(I2.hid uD2).1, (I2.hid uD2).2, nUD⟩ ⟨vs, nD, (sb.2 D F.ne).trans hDx, hys, hvl⟩, _,
   O2.of_U fr2.symm (by rw [e2]; exact en1.symm) t1 t2 fun L' hL' => sm2 (I.frU L' (fr2 ▸ hL')), V2.of_U t1 t2, q D (I2.hid uD2).2⟩
end Mine
end
-- text A9
section
namespace Mine
open PySem PySem.Calls PyProof.Rows
mutual
inductive Rd (H : AH) : AV → PyData → Prop
 | none : Rd H .none .none
 | bool (b : Bool) : Rd H (.bool b) (.bool b)
 | int (i : Int) : Rd H (.int i) (.int i)
 | str (x : Str) : Rd H (.str x) (.str x)
 | list {a : Addr} {xs : List AV} {ds : List PyData} : H a = some (.list xs) → RdAll H xs ds → Rd H (.ref a) (.list ds)
 | tuple {a : Addr} {xs : List AV} {ds : List PyData} : H a = some (.tuple xs) → RdAll H xs ds → Rd H (.ref a) (.tuple ds)
inductive RdAll (H : AH) : List AV → List PyData → Prop
 | nil : RdAll H [] []
 | cons {v : AV} {vs : List AV} {d : PyData} {ds : List PyData} : Rd H v d → RdAll H vs ds → RdAll H (v :: vs) (d :: ds)
end
section
variable {S : St} {C : Cx} {H : AH} {s : Shared}
theorem Inv.list (I : Inv S C H s) {a : Addr} {xs : List AV} (h : H a = some (.list xs)) : SeqAt s.heap a "list" xs := I.objs a _ h
theorem Inv.tuple (I : Inv S C H s) {a : Addr} {xs : List AV} (h : H a = some (.tuple xs)) : SeqAt s.heap a "tuple" xs := I.objs a _ h
theorem Rd.reads (I : Inv S C H s) {av : AV} {d : PyData} (h : Rd H av d) : ∀ {v : Value}, VR v av → ∃ as, Reads s.heap v d as ∧ d.canLay0 = true := by
 refine Rd.rec (motive_1 := fun av d _ => ∀ {v : Value}, VR v av → ∃ as, Reads s.heap v d as ∧ d.canLay0 = true) (motive_2 := fun avs ds _ => ∀ {vs : List Value}, VRs vs avs → ∃ as, ReadsAll s.heap vs ds as ∧ PyData.canLayAll0 ds = true) ?_ ?_ ?_ ?_ ?_ ?_ ?_ ?_ h
 ·intro v r; cases r; exact ⟨_, .none, by simp [PyData.canLay0]⟩
 ·intro b v r; cases r; exact ⟨_, .bool _, by simp [PyData.canLay0]⟩
 ·intro i v r; cases r; exact ⟨_, .int _ _, by simp [PyData.canLay0]⟩
 ·intro x v r; cases r with | str _ _ ok => exact ⟨_, .str _ _, by simp [PyData.canLay0, ok]⟩
 ·intro a xs ds h _ ih v r
  cases r
  obtain ⟨vs, n, g, hv, _⟩ := I.list h
  obtain ⟨as, r, c⟩ := ih hv
  exact ⟨_, .list g rfl rfl (by simpa using r), by simp [PyData.canLay0, c]⟩
 ·intro a xs ds h _ ih v r
  cases r
  obtain ⟨vs, n, g, hv, _⟩ := I.tuple h
  obtain ⟨as, r, c⟩ := ih hv
  exact ⟨_, .tuple g rfl rfl (by simpa using r), by simp [PyData.canLay0, c]⟩
 ·intro vs r; cases r; exact ⟨_, .nil, by simp [PyData.canLayAll0]⟩
 ·intro v vs d ds _ _ ih1 ih2 ws r
  cases r with
  | cons r rs =>
   obtain ⟨as, q1, c1⟩ := ih1 r
   obtain ⟨bs, q2, c2⟩ := ih2 rs
   exact ⟨_, .cons q1 q2, by simp [PyData.canLayAll0, c1, c2]⟩
end
noncomputable def onInts (P : Int → Int → Prop) : AV → AV → Prop
 | .int a, .int b => P a b
 | _, _ => False
theorem onInts_inv {P : Int → Int → Prop} {x y : AV} {v w : Value} (h : onInts P x y) (r1 : VR v x) (r2 : VR w y) : ∃ i j t u, v = .int i t ∧ w = .int j u ∧ P i j := by
 cases x <;> cases y <;> first | exact h.elim | skip
 cases r1; cases r2
 exact ⟨_, _, _, _, rfl, rfl, h⟩
inductive AddK (a b : Addr) (H : AH) (Q : QV) : Prop
 | mk (xs ys : List AV) : H a = some (.list xs) → H b = some (.list ys) → xs.length + ys.length ≤ sizeLine → (∀ r, H r = none → Q (.ref r) (H.put r (.list (xs ++ ys)))) → AddK a b H Q
noncomputable def aAdd : AV → AV → AH → QV → Prop
 | .int a, .int b, H, Q => Q (.int (a + b)) H
 | .str x, .str y, H, Q => x.length + y.length ≤ sizeLine ∧ Q (.str (x ++ y)) H
 | .ref a, .ref b, H, Q => AddK a b H Q
 | _, _, _, _ => False
noncomputable def aMul (x y : AV) (H : AH) (Q : QV) : Prop := onInts (fun a b => a.natAbs < 1000000 ∧ Q (.int (a * b)) H) x y
noncomputable def aFdiv (x y : AV) (H : AH) (Q : QV) : Prop := onInts (fun a b => 0 < b ∧ b < 1073741824 ∧ Q (.int (a / b)) H) x y
noncomputable def aMod (x y : AV) (H : AH) (Q : QV) : Prop := onInts (fun a b => 0 < b ∧ Q (.int (a % b)) H) x y
theorem strOk_append {x y : Str} (hx : PyData.strOk x = true) (hy : PyData.strOk y = true) : PyData.strOk (x ++ y) = true := by
 have e : (x ++ y).cps = x.cps ++ y.cps := rfl
 unfold PyData.strOk at *
 rw [e, Array.all_append, hx, hy]; rfl
theorem intBits_small {a : Int} (h : a.natAbs < 1000000) : Builtin.Int.intBits a ≤ 64 := by
 unfold Builtin.Int.intBits
 split
 ·lia
 ·rename_i q
  have : a.natAbs.log2 < 63 := (Nat.log2_lt (by simpa using q)).mpr (Nat.lt_of_lt_of_le h (by decide))
  lia
section
variable {S : St}
theorem Inv.toks {C : Cx} {H : AH} {s : Shared} (I : Inv S C H s) (k : Nat) : Inv S C H { s with toks := k } := I.same rfl rfl rfl
theorem Inv.newList {C : Cx} {H : AH} {s : Shared} (I : Inv S C H s) {vs : List Value} {xs : List AV} (hv : VRs vs xs) (hl : vs.length ≤ sizeLine) :
  Inv S C (H.put s.heap.objs.size (.list xs)) { s with heap := s.heap.push { cls := .type "list", data := .seq vs.toArray } } :=
 I.add (s' := { s with heap := s.heap.push { cls := .type "list", data := .seq vs.toArray } }) (o := .list xs) (Heap.get?_none_of_le (Nat.le_refl _)) (fun b o e => Heap.get?_push_of_some _ e) ⟨vs, 0, Heap.get?_push_size _ rfl, hv, hl⟩ rfl rfl
theorem bin_add : BinOK S .Add aAdd := by
 intro C A va vb x y H Q E s hu r1 r2 I h
 cases x <;> cases y <;> try exact h.elim
 all_goals cases r1
 all_goals cases r2
 ·exact PyProof.Rows.add_int ⟨_, H, .int _ _, I.toks _, h⟩
 ·obtain ⟨hl, h⟩ := h
  exact PyProof.Rows.add_str (fun t' tk => ⟨_, H, .str _ _ (strOk_append ‹_› ‹_›), I.toks _, h⟩) hl
 ·obtain ⟨xs, ys, ha, hb, hl, h⟩ := h
  obtain ⟨vs, n, g1, q1, _⟩ := I.list ha
  obtain ⟨ws, k, g2, q2, _⟩ := I.list hb
  have e := q1.length; have f := q2.length
  refine PySem.P.add_list g1 g2 ⟨_, _, .ref _, ?_, h _ (I.fresh (Heap.get?_none_of_le (Nat.le_refl _))).1⟩ (by simp; lia)
  rw [List.append_toArray]
  exact I.newList (q1.append q2) (by simp; lia)
theorem bin_mul : BinOK S .Mult aMul := by
 intro C A va vb x y H Q E s hu r1 r2 I h
 obtain ⟨i, j, t, u, rfl, rfl, h⟩ := onInts_inv h r1 r2
 exact PyProof.Rows.mul_int ⟨_, H, .int _ _, I.toks _, h.2⟩ (.of_left (intBits_small h.1))
theorem bin_fdiv : BinOK S .FloorDiv aFdiv := by
 intro C A va vb x y H Q E s hu r1 r2 I h
 obtain ⟨i, j, t, u, rfl, rfl, h⟩ := onInts_inv h r1 r2
 obtain ⟨h1, h2, h⟩ := h
 refine PyProof.Rows.floordiv_int (by lia) ⟨_, H, .int _ _, I.toks _, ?_⟩ (.inl (PyProof.noPylong_small (by lia)))
 rw [Int.fdiv_eq_ediv_of_nonneg _ (by lia)]; exact h
theorem bin_mod : BinOK S .Mod aMod := by
 intro C A va vb x y H Q E s hu r1 r2 I h
 obtain ⟨i, j, t, u, rfl, rfl, h⟩ := onInts_inv h r1 r2
 obtain ⟨h1, h⟩ := h
 refine PyProof.Rows.mod_int (by lia) ⟨_, H, .int _ _, I.toks _, ?_⟩
 rw [Int.fmod_eq_emod_of_nonneg _ (by lia)]; exact h
inductive EqK (x y : AV) (H : AH) (Q : Bool → Prop) : Prop
 | mk (d e : PyData) : Rd H x d → Rd H y e → d.depth ≤ 64 → e.depth ≤ 64 → Q (PyData.eqv d e) → EqK x y H Q
noncomputable def aEq (x y : AV) (H : AH) (Q : Bool → AH → Prop) : Prop := EqK x y H fun c => Q c H
noncomputable def aNe (x y : AV) (H : AH) (Q : Bool → AH → Prop) : Prop := EqK x y H fun c => Q (!c) H
inductive InK (x : AV) (a : Addr) (H : AH) (Q : Bool → Prop) : Prop
 | mk (d : PyData) (ys : List AV) (es : List PyData) : Rd H x d → H a = some (.list ys) → RdAll H ys es → d.depth ≤ 64 → Q (es.any fun y => PyData.eqv y d) → InK x a H Q
noncomputable def aIn : AV → AV → AH → (Bool → AH → Prop) → Prop
 | x, .ref a, H, Q => InK x a H fun c => Q c H
 | .str x, .str y, H, Q => Q (Txt.contains y x) H
 | _, _, _, _ => False
noncomputable def aLe (x y : AV) (H : AH) (Q : Bool → AH → Prop) : Prop := onInts (fun a b => Q (decide (a ≤ b)) H) x y
noncomputable def aGt (x y : AV) (H : AH) (Q : Bool → AH → Prop) : Prop := onInts (fun a b => Q (decide (b < a)) H) x y
theorem cmp_eq : CmpOK S .Eq aEq := by
 rintro C A va vb x y H Q E s hu r1 r2 I ⟨d, e, h1, h2, h3, h4, h⟩
 obtain ⟨as, q1, c1⟩ := h1.reads I r1
 obtain ⟨bs, q2, c2⟩ := h2.reads I r2
 exact eq_dataH q1 q2 (by simp [SeqAt.shaped, c1, h3]) (by simp [SeqAt.shaped, c2, h4]) (by have : cLine = 9900 := rfl; lia) ⟨_, rfl, H, I, h⟩
theorem cmp_ne : CmpOK S .NotEq aNe := by
 rintro C A va vb x y H Q E s hu r1 r2 I ⟨d, e, h1, h2, h3, h4, h⟩
 obtain ⟨as, q1, c1⟩ := h1.reads I r1
 obtain ⟨bs, q2, c2⟩ := h2.reads I r2
 exact ne_dataH q1 q2 (by simp [SeqAt.shaped, c1, h3]) (by simp [SeqAt.shaped, c2, h4]) (by have : cLine = 9900 := rfl; lia) ⟨_, rfl, H, I, h⟩
theorem cmp_in : CmpOK S .In aIn := by
 intro C A va vb x y H Q E s hu r1 r2 I h
 cases r2 with
 | ref a =>
  obtain ⟨d, ys, es, h1, h2, h3, h4, h⟩ := h
  obtain ⟨bs, q1, c1⟩ := h1.reads I r1
  obtain ⟨as, q2, c2⟩ := (Rd.list h2 h3).reads I (.ref a)
  exact SeqAt.in_list_reads q2 q1 (by simpa [PyData.canLay0] using c2) c1 (by have : cLine = 9900 := rfl; lia) ⟨_, rfl, H, I, h⟩
 | str y => cases r1 <;> first | exact h.elim | exact PySem.SB.contains ⟨_, rfl, H, I, h⟩
 | _ => cases r1 <;> exact h.elim
theorem cmp_le : CmpOK S .LtE aLe := by
 intro C A va vb x y H Q E s hu r1 r2 I h
 obtain ⟨i, j, t, u, rfl, rfl, h⟩ := onInts_inv h r1 r2
 exact PyProof.Rows.le_int ⟨_, rfl, H, I, h⟩
theorem cmp_gt : CmpOK S .Gt aGt := by
 intro C A va vb x y H Q E s hu r1 r2 I h
 obtain ⟨i, j, t, u, rfl, rfl, h⟩ := onInts_inv h r1 r2
 exact PyProof.Rows.gt_int ⟨_, rfl, H, I, h⟩
end
end Mine
end
-- text A10
section
namespace Mine
open PySem PySem.Calls PyProof.Rows
noncomputable def idx {α : Type} (xs : List α) (k : Int) : Option α := if 0 ≤ k then xs[k.toNat]? else if -(xs.length : Int) ≤ k then xs[(k + xs.length).toNat]? else none
theorem idx_nat {α : Type} (xs : List α) {k : Int} (h : 0 ≤ k) : idx xs k = xs[k.toNat]? := if_pos h
theorem idx_seq {α : Type} {xs : List α} {k : Int} {x : α} (h : idx xs k = some x) : ∃ j, seqIndex? k xs.length = some j ∧ xs[j]? = some x ∧ -(xs.length : Int) ≤ k ∧ k < xs.length := by
 unfold idx at h
 by_cases h0 : 0 ≤ k
 ·rw [if_pos h0] at h
  have lt := (List.getElem?_eq_some_iff.mp h).1
  refine ⟨k.toNat, ?_, h, by lia, by lia⟩
  unfold seqIndex?
  simp only [show ¬ k < 0 by lia, if_false]
  rw [if_pos (by simp; lia)]
 ·rw [if_neg h0] at h
  by_cases h1 : -(xs.length : Int) ≤ k
  ·rw [if_pos h1] at h
   have lt := (List.getElem?_eq_some_iff.mp h).1
   refine ⟨(k + xs.length).toNat, ?_, h, by lia, by lia⟩
   unfold seqIndex?
   simp only [show k < 0 by lia, if_true]
   rw [if_pos (by simp; lia)]
  ·rw [if_neg h1] at h; cases h
theorem subscripted_of {M : Model} {A : Around} {E : Value → Shared → Prop} {s : Shared} {slice : Expr} {o i : Value} {Q : Value → Shared → Prop} (h : wpAny M A (getItem o i) Q E s) : wpAny M A (subscripted slice false o i) Q E s := by
 unfold subscripted
 split
 ·exact wpAny_operate' h
 ·rename_i e; cases e
 ·exact wpAny_operate' h
theorem sub_tail {prog : Program} {w : World} {A : Around} {E : Value → Shared → Prop} {s : Shared} {value slice : Expr} {o i : Value} {Q : Value → Shared → Prop} {T id : String} (hT : s.TypeIs o T) (hl : typeLookup (.type T) "__getitem__" = pure (some (.builtin id)))
  (h : wpAny (model prog w) A (getItem o i) Q E s) : wpAny (model prog w) A (subscriptTail value slice o i) Q E s := by
 unfold subscriptTail
 refine wpAny_bind ?_
 rw [getitemInPython_of_ne hT.not_modules]
 refine wpAny_bind (wpAny_specialOf hT hl ?_)
 exact wpAny_pure (wpAny_bind (subscripted_of (wpAny_mono h (fun r s1 h1 => wpAny_bind (wpAny_letTemporaryGo (wpAny_pure h1))) fun _ _ x => x)))
noncomputable def aItem : AV → AV → AH → QV → Prop
 | .ref a, .int k, H, Q => Got H a fun o => match o with
  | .list xs => ∃ x, idx xs k = some x ∧ Q x H
  | .tuple xs => ∃ x, idx xs k = some x ∧ Q x H
  | .script ns => ∃ n, idx ns k = some n ∧ Q (.int n) H
  | .idict es => ∃ v, es.lookup k = some v ∧ Q v H
  | _ => False
 | .str x, .int k, H, Q => ∃ c, idx x.cps.toList k = some c ∧ x.length ≤ sizeLine ∧ Q (.str ⟨#[c]⟩) H
 | _, _, _, _ => False
section
variable {S : St}
theorem PRs.lookup {K : Type} [BEq K] {vs : List (K × Value)} {as : List (K × AV)} (h : PRs vs as) : ∀ {k : K} {a : AV}, as.lookup k = some a → ∃ v, vs.lookup k = some v ∧ VR v a := by
 induction h with
 | nil => intro k a e; cases e
 | @cons k' v a' vs as r _ ih =>
  intro k a e
  rw [List.lookup_cons] at e ⊢
  cases hk : k == k' with
  | true => rw [hk] at e; cases e; exact ⟨v, rfl, r⟩
  | false => rw [hk] at e; exact ih e
theorem valueAt_lookup {K : Type} [DecidableEq K] : ∀ (kvs : List (K × Value)) (k : K), valueAt kvs k = kvs.lookup k
 | [], _ => rfl
 | (k', w') :: r, k => by
  have ih := valueAt_lookup r k
  unfold valueAt at *
  rw [List.lookup_cons]
  by_cases e : k' = k
  ·subst e; simp
  ·rw [show (k == k') = false by simpa using fun z => e z.symm, List.find?_cons_of_neg (by simpa using e)]
   exact ih
theorem item_ok {C : Cx} {A : Around} {vo vi : Value} {x y : AV} {H : AH} {Q : QV} {E : Value → Shared → Prop} {s : Shared} {value slice : Expr} (r1 : VR vo x) (r2 : VR vi y) (I : Inv S C H s) (h : aItem x y H Q) :
  wpAny S.M A (subscriptTail value slice vo vi) (PostV S C Q) E s := by
 cases r1 <;> cases r2 <;> try exact h.elim
 ·obtain ⟨c, hc, hl, h⟩ := h
  rename_i x t ok k u
  obtain ⟨j, q1, q2, q3, q4⟩ := idx_seq hc
  have e : x.cps.toList.length = x.length := by simp [Str.length]
  rw [e] at q1 q3 q4
  have hz : sizeLine = 16777216 := rfl
  refine sub_tail (typeIs_str s x t) PySem.F.slot_str_getitem.lookup (PySem.P.getItem_str (c := c) ?_ ?_ ⟨_, H, .str _ _ (strOk_sign ok (k := j) (by simpa using q2)), I.toks _, h⟩)
  ·simp; lia
  ·rw [q1]; simpa using q2
 ·rename_i a k u
  obtain ⟨o, ho, h⟩ := h
  cases o with
  | list xs =>
   obtain ⟨x, hx, h⟩ := h
   obtain ⟨vs, n, g, q, hl⟩ := I.list ho
   obtain ⟨v, hv, rv⟩ : ∃ v, idx vs k = some v ∧ VR v x := by
    unfold idx at hx ⊢
    rw [q.length]
    split
    ·rw [if_pos ‹_›] at hx; exact q.get hx
    ·rw [if_neg ‹_›] at hx
     split
     ·rw [if_pos ‹_›] at hx; exact q.get hx
     ·rw [if_neg ‹_›] at hx; cases hx
   have hz : sizeLine = 16777216 := rfl
   have isl : s.heap.IsList a vs.toArray := ⟨_, g, rfl, n, rfl⟩
   obtain ⟨j, q1, q2, q3, q4⟩ := idx_seq hv
   refine sub_tail isl.typeIs PySem.slot_list_getitem.lookup ?_
   by_cases h0 : 0 ≤ k
   ·rw [idx_nat _ h0] at hv
    exact wpAny_getItem_list isl h0 (by lia) (by simpa using hv) ⟨x, H, rv, I, h⟩
   ·unfold idx at hv
    rw [if_neg h0, if_pos q3] at hv
    exact wpAny_getItem_list_neg isl (by lia) (by simpa using q3) (by lia) (by simpa using hv) ⟨x, H, rv, I, h⟩
  | tuple xs =>
   obtain ⟨x, hx, h⟩ := h
   obtain ⟨vs, n, g, q, hl⟩ := I.tuple ho
   obtain ⟨v, hv, rv⟩ : ∃ v, idx vs k = some v ∧ VR v x := by
    unfold idx at hx ⊢
    rw [q.length]
    split
    ·rw [if_pos ‹_›] at hx; exact q.get hx
    ·rw [if_neg ‹_›] at hx
     split
     ·rw [if_pos ‹_›] at hx; exact q.get hx
     ·rw [if_neg ‹_›] at hx; cases hx
   have hz : sizeLine = 16777216 := rfl
   have ist : IsTup s.heap a vs.toArray := ⟨_, g, rfl, n, rfl⟩
   obtain ⟨j, q1, q2, q3, q4⟩ := idx_seq hv
   exact sub_tail ist.typeIs slot_tuple_getitem.lookup (getItem_tuple (j := j) ist (by lia) (by lia) (by simpa using q1) (by simpa using q2) ⟨x, H, rv, I, h⟩)
  | script ns =>
   obtain ⟨n, hx, h⟩ := h
   obtain ⟨vs, g, q, hl⟩ := I.objs a _ ho
   have hx' : idx (ns.map AV.int) k = some (.int n) := by
    unfold idx at hx ⊢
    rw [List.length_map]
    split
    ·rw [if_pos ‹_›] at hx; rw [List.getElem?_map, hx]; rfl
    ·rw [if_neg ‹_›] at hx
     split
     ·rw [if_pos ‹_›] at hx; rw [List.getElem?_map, hx]; rfl
     ·rw [if_neg ‹_›] at hx; cases hx
   obtain ⟨v, hv, rv⟩ : ∃ v, idx vs k = some v ∧ VR v (.int n) := by
    unfold idx at hx' ⊢
    rw [q.length]
    split
    ·rw [if_pos ‹_›] at hx'; exact q.get hx'
    ·rw [if_neg ‹_›] at hx'
     split
     ·rw [if_pos ‹_›] at hx'; exact q.get hx'
     ·rw [if_neg ‹_›] at hx'; cases hx'
   obtain ⟨o, g1, g2, g3⟩ := g
   have isl : s.heap.IsList a vs.toArray := ⟨o, I.base _ _ g1, g2, g3⟩
   obtain ⟨j, q1, q2, q3, q4⟩ := idx_seq hv
   refine sub_tail isl.typeIs PySem.slot_list_getitem.lookup ?_
   by_cases h0 : 0 ≤ k
   ·rw [idx_nat _ h0] at hv
    exact wpAny_getItem_list isl h0 (by lia) (by simpa using hv) ⟨_, H, rv, I, h⟩
   ·unfold idx at hv
    rw [if_neg h0, if_pos q3] at hv
    exact wpAny_getItem_list_neg isl (by lia) (by simpa using q3) (by lia) (by simpa using hv) ⟨_, H, rv, I, h⟩
  | idict es =>
   obtain ⟨v, hv, h⟩ := h
   obtain ⟨kvs, ep, g, q, _⟩ := I.objs a _ ho
   obtain ⟨w, hw, rw_⟩ := q.lookup hv
   have hw' : valueAt kvs k = some w := (valueAt_lookup kvs k).trans hw
   exact sub_tail (T := "dict") g.dictOf.mapOf.typeIs PySem.slot_dict_getitem.lookup (wpAny_getItem_of (k := k) (by simp [intKind, Value.isInt]) g.dictOf.mapOf hw' ⟨v, H, rw_, I.toks _, h⟩)
  | _ => exact h.elim
variable {b : Bool} {d : Nat} {sc : Kd} {ρ : Rho}
noncomputable def tItem (t u : Tm) : Tm := fun m H Q X => t m H (fun x H1 => u m H1 (fun y H2 => aItem x y H2 Q) X) X
theorem sE_item {value slice : Expr} {pos : Pos} {t u : Tm} (h1 : SoundE S b d sc ρ value t) (h2 : SoundE S b d sc ρ slice u) : SoundE S b d sc ρ (.Subscript value slice pos) (tItem t u) := by
 intro C A env m H Q X E s R O hk V I h hE
 refine Subscript_ (wpAny_mono (h1 C A env m H _ X E s R O hk V I h hE) ?_ fun _ _ x => x)
 rintro vo s1 ⟨x, H1, r1, I1, q1⟩
 refine wpAny_mono (h2 C A env m H1 _ X E s1 R O hk V I1 q1 hE) ?_ fun _ _ x => x
 rintro vi s2 ⟨y, H2, r2, I2, q2⟩
 exact item_ok r1 r2 I2 q2
end
end Mine
end
-- text A11
section
namespace Mine
open PySem PySem.Calls PyProof.Rows PySem.StrLaws
noncomputable def cut {α : Type} (xs : List α) (lo hi : Option Int) : List α := (xs.drop (lo.elim 0 (clipAt xs.length))).take (hi.elim xs.length (clipAt xs.length) - lo.elim 0 (clipAt xs.length))
theorem clipAt_nat (n : Nat) {i : Int} (h : 0 ≤ i) : clipAt n i = min i.toNat n := by
 obtain ⟨k, rfl⟩ := Int.eq_ofNat_of_zero_le h
 show (max 0 (min (if (k : Int) < 0 then (k : Int) + n else k) n)).toNat = min k n
 rw [if_neg (Int.not_lt.mpr h)]
 rcases Nat.le_total k n with q | q
 ·rw [Int.min_eq_left (Int.ofNat_le.mpr q), Nat.min_eq_left q]; exact congrArg Int.toNat (Int.max_eq_right h)
 ·rw [Int.min_eq_right (Int.ofNat_le.mpr q), Nat.min_eq_right q]; exact congrArg Int.toNat (Int.max_eq_right (Int.natCast_nonneg _))
theorem cut_from {α : Type} (xs : List α) {i : Int} (h : 0 ≤ i) : cut xs (some i) none = xs.drop i.toNat := by
 unfold cut
 simp only [Option.elim, clipAt_nat _ h]
 rw [List.take_of_length_le (by rw [List.length_drop]; exact Nat.le_refl _)]
 rcases Nat.le_total i.toNat xs.length with q | q
 ·rw [Nat.min_eq_left q]
 ·rw [Nat.min_eq_right q, List.drop_length, List.drop_eq_nil_of_le q]
theorem cut_upto {α : Type} (xs : List α) {i : Int} (h : 0 ≤ i) : cut xs none (some i) = xs.take i.toNat := by
 unfold cut
 simp only [Option.elim, clipAt_nat _ h, List.drop_zero, Nat.sub_zero]
 rcases Nat.le_total i.toNat xs.length with q | q
 ·rw [Nat.min_eq_left q]
 ·rw [Nat.min_eq_right q, List.take_length, List.take_of_length_le q]
inductive PartIs : AV → Option Int → Prop
 | none : PartIs .none none
 | int (i : Int) : PartIs (.int i) (some i)
theorem VRs.cut {vs : List Value} {as : List AV} (h : VRs vs as) (lo hi : Option Int) : VRs (cut vs lo hi) (Mine.cut as lo hi) := by
 have hd : ∀ {vs : List Value} {as : List AV}, VRs vs as → ∀ n, VRs (vs.drop n) (as.drop n) := by
  intro vs as h
  induction h with
  | nil => intro n; simp; exact .nil
  | cons x _ ih => intro n; cases n with
   | zero => exact .cons x (by simpa using ih 0)
   | succ n => simpa using ih n
 have ht : ∀ {vs : List Value} {as : List AV}, VRs vs as → ∀ n, VRs (vs.take n) (as.take n) := by
  intro vs as h
  induction h with
  | nil => intro n; simp; exact .nil
  | cons x _ ih => intro n; cases n with
   | zero => exact .nil
   | succ n => exact .cons x (ih n)
 unfold Mine.cut
 rw [h.length]
 exact ht (hd h _) _
theorem cut_le {α : Type} (xs : List α) (lo hi : Option Int) : (cut xs lo hi).length ≤ xs.length := ((List.take_sublist _ _).trans (List.drop_sublist _ _)).length_le
theorem VRs.rev {vs : List Value} {as : List AV} (h : VRs vs as) : VRs vs.reverse as.reverse := by
 induction h with
 | nil => exact .nil
 | cons x _ ih => simpa using ih.append (.cons x .nil)
noncomputable def clipI (n : Nat) (dflt : Int) : Option Int → Int
 | none => dflt
 | some i => max 0 (min (if i < 0 then i + n else i) n)
theorem strIdx_eq (lo hi : Option Int) (n : Nat) : Builtin.Str.strSliceIndices lo hi 1 n = sliceRange (clipI n 0 lo) (clipI n n hi) 1 := by
 cases lo <;> cases hi <;> rfl
theorem clipI_nat (n : Nat) {k : Nat} (h : k ≤ n) (d : Int) : clipI n d (some (k : Int)) = k := by
 show max 0 (min (if (k : Int) < 0 then (k : Int) + n else k) n) = _
 rw [if_neg (by lia)]; lia
theorem clipI_of (n : Nat) (lo : Option Int) (k : Nat) : clipI n k lo = ((lo.elim k (clipAt n) : Nat) : Int) := by
 cases lo with
 | none => rfl
 | some i => exact (clipAt_cast n i).symm
theorem clip_le (n : Nat) (i : Int) : clipAt n i ≤ n := Int.toNat_le.mpr (Int.max_le.mpr ⟨Int.natCast_nonneg n, Int.min_le_right _ _⟩)
theorem elim_le (n : Nat) (hi : Option Int) : hi.elim n (clipAt n) ≤ n := by cases hi <;> simp [clip_le]
theorem strIdx_clip (lo hi : Option Int) (n : Nat) : Builtin.Str.strSliceIndices lo hi 1 n = Builtin.Str.strSliceIndices (some ((lo.elim 0 (clipAt n) : Nat) : Int)) (some ((hi.elim n (clipAt n) : Nat) : Int)) 1 n := by
 have h0 : lo.elim 0 (clipAt n) ≤ n := by cases lo <;> simp [clip_le]
 rw [strIdx_eq, strIdx_eq, clipI_nat n h0, clipI_nat n (elim_le n hi), ← clipI_of, ← clipI_of]; rfl
theorem sliced_none {a b n : Nat} (hb : b ≤ n) (ha : a ≤ n) (q : ¬ a ≤ b) : Builtin.Str.strSliceIndices (some (a : Int)) (some (b : Int)) 1 n = [] := by
 rw [strIdx_eq, clipI_nat n ha, clipI_nat n hb]
 unfold sliceRange
 simp only [show ((1 : Int) > 0) by decide, if_true]
 rw [if_neg (by lia)]
 simp
theorem sliced_cut (x : Str) (lo hi : Option Int) : (Builtin.Str.strSliceIndices lo hi 1 x.length).filterMap (x.cps[·]?) = cut x.cps.toList lo hi := by
 rw [strIdx_clip]
 have el : x.cps.toList.length = x.length := by simp [Str.length]
 unfold cut
 rw [el]
 generalize hb : hi.elim x.length (clipAt x.length) = b
 generalize hae : lo.elim 0 (clipAt x.length) = a
 have hbx : b ≤ x.length := hb ▸ elim_le ..
 have hax : a ≤ x.length := by rw [← hae]; cases lo <;> simp [clip_le]
 by_cases q : a ≤ b
 ·exact sliced_plain x q hbx
 ·rw [show b - a = 0 by lia, List.take_zero, sliced_none hbx hax q]; rfl
theorem strOk_cut {x : Str} (ok : PyData.strOk x = true) (lo hi : Option Int) : PyData.strOk ⟨(cut x.cps.toList lo hi).toArray⟩ = true := by
 unfold PyData.strOk at *
 rw [Array.all_eq_true_iff_forall_mem] at *
 intro c hc
 refine ok c ?_
 have : c ∈ cut x.cps.toList lo hi := by simpa using hc
 exact Array.mem_toList_iff.mp (List.mem_of_mem_drop (List.mem_of_mem_take this))
noncomputable def aCut : AV → Option Int → Option Int → AH → QV → Prop
 | .ref a, lo, hi, H, Q => Got H a fun o => match o with
  | .list xs => ∀ r, H r = none → Q (.ref r) (H.put r (.list (cut xs lo hi)))
  | .script ns => ∀ r, H r = none → Q (.ref r) (H.put r (.list (cut (ns.map AV.int) lo hi)))
  | _ => False
 | .str x, lo, hi, H, Q => x.length ≤ sizeLine ∧ Q (.str ⟨(cut x.cps.toList lo hi).toArray⟩) H
 | _, _, _, _, _ => False
section
variable {S : St} {b : Bool} {d : Nat} {sc : Kd} {ρ : Rho}
noncomputable def SoundP (S : St) (b : Bool) (d : Nat) (sc : Kd) (ρ : Rho) (e : Option Expr) (t : Tm) : Prop :=
 ∀ (C : Cx) (A : Around) (env : Env) (m : Mp) (H : AH) (Q : QV) (X : QX) (E : Value → Shared → Prop) (s : Shared),
  Room b d A → EnvOK S C A env → (∀ x, env.kindOf x = sc x) → EnvRel C env ρ m → Inv S C H s → t m H Q X → ExOK S C X E →
  wpAny S.M A (evalPart e env) (PostV S C Q) E s
theorem sP_none : SoundP S b d sc ρ none (tVal .none) := by
 intro C A env m H Q X E s R O hk V I h hE
 exact wpAny_pure ⟨_, H, .none, I, h⟩
theorem sP_some {e : Expr} {t : Tm} (h1 : SoundE S b d sc ρ e t) : SoundP S b d sc ρ (some e) t := h1
theorem Inv.junk {C : Cx} {H : AH} {s : Shared} (I : Inv S C H s) (o : Obj) : Inv S C H { s with heap := s.heap.push o } := I.grow (fun b o e => Heap.get?_push_of_some _ e) rfl rfl
theorem cut_ok {C : Cx} {A : Around} {vo vl vu : Value} {x l u : AV} {lo hi : Option Int} {H : AH} {Q : QV} {E : Value → Shared → Prop} {s : Shared} {value slice : Expr} (r1 : VR vo x) (r2 : VR vl l) (r3 : VR vu u) (pl : PartIs l lo) (pu : PartIs u hi)
  (I : Inv S C H s) (h : aCut x lo hi H Q) :
  wpAny S.M A (subscriptTail value slice vo (.ref s.heap.objs.size)) (PostV S C Q) E { s with heap := s.heap.push { cls := .type "slice", data := .fields #[vl, vu, .none] } } := by
 have J := I.junk { cls := .type "slice", data := .fields #[vl, vu, .none] }
 have ip : ∀ {v : Value} {a : AV} {o : Option Int}, VR v a → PartIs a o → IsPart v o := by
  intro v a o r p
  cases p <;> cases r
  ·exact .none
  ·exact .int _ _
 have qp : ∀ {v : Value} {a : AV} {o : Option Int}, VR v a → PartIs a o → ∃ z : Option (Int × Tok), v = partValue z ∧ z.map (·.1) = o := by
  intro v a o r p
  cases p <;> cases r
  ·exact ⟨none, rfl, rfl⟩
  ·exact ⟨some (_, _), rfl, rfl⟩
 cases r1 with
 | str x t ok =>
  obtain ⟨hl, h⟩ := h
  obtain ⟨zl, el, fl⟩ := qp r2 pl
  obtain ⟨zu, eu, fu⟩ := qp r3 pu
  refine sub_tail (typeIs_str _ x t) PySem.F.slot_str_getitem.lookup (wpAny_getItem_str_slice (l := zl) (u := zu) (st := none) ⟨_, Heap.get?_push_size _ rfl, rfl, by rw [el, eu]; rfl⟩ rfl ?_)
  have ep : slicePicked x zl zu none = Builtin.Str.strSliceIndices lo hi 1 x.length := by unfold slicePicked; rw [fl, fu]; rfl
  unfold sliceMade
  rw [ep]
  split
  ·rename_i hfull
   have e : (⟨(cut x.cps.toList lo hi).toArray⟩ : Str) = x := by
    have e1 := sliced_cut x lo hi
    have e2 : (Builtin.Str.strSliceIndices lo hi 1 x.length).length = x.length := by
     have := (Bool.and_eq_true_iff.mp hfull).2; simpa using this
    have e3 : (cut x.cps.toList lo hi).length = x.length := by
     rw [← e1]
     rw [strIdx_clip] at e2 ⊢
     have hb : hi.elim x.length (clipAt x.length) ≤ x.length := elim_le ..
     by_cases q : (lo.elim 0 (clipAt x.length)) ≤ hi.elim x.length (clipAt x.length)
     ·rw [strSliceIndices_plain q hb] at e2
      rw [sliced_plain x q hb]
      have el : x.cps.toList.length = x.length := by simp [Str.length]
      rw [List.length_map, List.length_range] at e2
      rw [List.length_take, List.length_drop, el]
      lia
     ·rw [sliced_none hb (by cases lo <;> simp [clip_le]) q] at e2 ⊢
      simpa using e2
    have hp : cut x.cps.toList lo hi = x.cps.toList := by
     have hs : (cut x.cps.toList lo hi).Sublist x.cps.toList := (List.take_sublist _ _).trans (List.drop_sublist _ _)
     exact hs.eq_of_length (by rw [e3]; simp [Str.length])
    rw [hp]
   rw [e] at h
   exact ⟨_, H, .str _ _ ok, J, h⟩
  ·rw [sliced_cut]
   refine ⟨?_, _, H, .str _ _ (strOk_cut ok lo hi), J.toks _, h⟩
   show (cut x.cps.toList lo hi).toArray.size ≤ sizeLine
   have e1 := cut_le x.cps.toList lo hi
   rw [List.size_toArray]
   have e2 : x.cps.toList.length = x.length := by simp [Str.length]
   lia
 | ref a =>
  obtain ⟨o, ho, h⟩ := h
  have go : ∀ {vs : List Value} {xs : List AV}, ({ s with heap := s.heap.push { cls := .type "slice", data := .fields #[vl, vu, .none] } } : Shared).heap.IsList a vs.toArray → VRs vs xs → vs.length ≤ sizeLine → (∀ r, H r = none → Q (.ref r) (H.put r (.list (cut xs lo hi)))) →
    wpAny S.M A (subscriptTail value slice (.ref a) (.ref s.heap.objs.size)) (PostV S C Q) E { s with heap := s.heap.push { cls := .type "slice", data := .fields #[vl, vu, .none] } } := by
   intro vs xs isl q hl h
   refine sub_tail isl.typeIs PySem.slot_list_getitem.lookup (wpAny_getItem_list_slice isl (Heap.IsSliceOf.new _ _ _ _) (ip r2 pl) (ip r3 pu) .none (by simp) ⟨_, _, .ref _, ?_, h _ (J.fresh (Heap.get?_none_of_le (Nat.le_refl _))).1⟩ (by simpa using hl))
   rw [slicePick_plain]
   exact J.newList (vs := cut vs lo hi) (q.cut lo hi) (Nat.le_trans (cut_le vs lo hi) hl)
  cases o with
  | list xs =>
   obtain ⟨vs, n, g, q, hl⟩ := J.list ho
   exact go ⟨_, g, rfl, n, rfl⟩ q hl h
  | script ns =>
   obtain ⟨vs, ⟨o, g1, g2, g3⟩, q, hl⟩ := J.objs a _ ho
   exact go ⟨o, J.base _ _ g1, g2, g3⟩ q (by have : sizeLine = 16777216 := rfl; lia) h
  | _ => exact h.elim
 | _ => exact h.elim
inductive CutK (x y z : AV) (H : AH) (Q : QV) : Prop
 | mk (lo hi : Option Int) : PartIs y lo → PartIs z hi → aCut x lo hi H Q → CutK x y z H Q
noncomputable def tSlice (t l u : Tm) : Tm := fun m H Q X => t m H (fun x H1 => l m H1 (fun y H2 => u m H2 (fun z H3 => CutK x y z H3 Q) X) X) X
theorem sE_slice {value : Expr} {lower upper : Option Expr} {p pos : Pos} {t l u : Tm} (h1 : SoundE S b d sc ρ value t) (h2 : SoundP S b d sc ρ lower l) (h3 : SoundP S b d sc ρ upper u) :
  SoundE S b d sc ρ (.Subscript value (.Slice lower upper none p) pos) (tSlice t l u) := by
 intro C A env m H Q X E s R O hk V I h hE
 refine Subscript_ (wpAny_mono (h1 C A env m H _ X E s R O hk V I h hE) ?_ fun _ _ x => x)
 rintro vo s1 ⟨x, H1, r1, I1, q1⟩
 refine wpAny_Slice (wpAny_mono (h2 C A env m H1 _ X E s1 R O hk V I1 q1 hE) ?_ fun _ _ x => x)
 rintro vl s2 ⟨y, H2, r2, I2, q2⟩
 refine wpAny_mono (h3 C A env m H2 _ X E s2 R O hk V I2 q2 hE) ?_ fun _ _ x => x
 rintro vu s3 ⟨z, H3, r3, I3, lo, hi, p1, p2, q3⟩
 exact wpAny_pure (cut_ok r1 r2 r3 p1 p2 I3 q3)
noncomputable def aRev : AV → AH → QV → Prop
 | .ref a, H, Q => ∃ xs, H a = some (.list xs) ∧ ∀ r, H r = none → Q (.ref r) (H.put r (.list xs.reverse))
 | _, _, _ => False
noncomputable def tRev (t : Tm) : Tm := fun m H Q X => t m H (fun x H1 => aRev x H1 Q) X
theorem sE_rev {value : Expr} {p p1 p2 pos : Pos} {k : Nat} {t : Tm} (h1 : SoundE S b d sc ρ value t) :
  SoundE S b d sc ρ (.Subscript value (.Slice none none (some (.UnaryOp .USub (.Constant (.int 1) k p1) p2)) p) pos) (tRev t) := by
 intro C A env m H Q X E s R O hk V I h hE
 refine Subscript_ (wpAny_mono (h1 C A env m H _ X E s R O hk V I h hE) ?_ fun _ _ x => x)
 rintro vo s1 ⟨x, H1, r1, I1, q1⟩
 cases r1 with
 | ref a =>
  obtain ⟨xs, ho, q1⟩ := q1
  refine wpAny_Slice (wpAny_pure (wpAny_pure ?_))
  refine lit_neg _ fun v tk hv => ?_
  obtain ⟨t', rfl⟩ : ∃ t', v = .int (-1) t' := by cases hv s1.heap; exact ⟨_, rfl⟩
  have J := (I1.toks tk).junk { cls := .type "slice", data := .fields #[.none, .none, .int (-1) t'] }
  obtain ⟨vs, n, g, q, hl⟩ := J.list ho
  have isl : ({ ({ s1 with toks := tk } : Shared) with heap := ({ s1 with toks := tk } : Shared).heap.push { cls := .type "slice", data := .fields #[.none, .none, .int (-1) t'] } } : Shared).heap.IsList a vs.toArray := ⟨_, g, rfl, n, rfl⟩
  refine sub_tail isl.typeIs PySem.slot_list_getitem.lookup (wpAny_getItem_list_slice (st := some (-1)) isl (Heap.IsSliceOf.new _ _ _ _) .none .none (.int _ _) (by decide) ⟨_, _, .ref _, ?_, q1 _ (J.fresh (Heap.get?_none_of_le (Nat.le_refl _))).1⟩ (by simpa using hl))
  rw [PySem.W.krv_pick]
  exact J.newList (by simpa using q.rev) (by simpa using hl)
 | _ => exact q1.elim
end
end Mine
end
-- text A12
section
namespace Mine
open PySem PySem.Calls PyProof.Rows PySem.StrLaws
theorem VRs.one {vs : List Value} {x : AV} (h : VRs vs [x]) : ∃ v, vs = [v] ∧ VR v x := by
 cases h with | cons r1 r => cases r; exact ⟨_, rfl, r1⟩
theorem VRs.two {vs : List Value} {x y : AV} (h : VRs vs [x, y]) : ∃ v w, vs = [v, w] ∧ VR v x ∧ VR w y := by
 cases h with | cons r1 r => obtain ⟨w, rfl, r2⟩ := r.one; exact ⟨_, _, rfl, r1, r2⟩
theorem VR.ref_inv {v : Value} {a : Addr} (h : VR v (.ref a)) : v = .ref a := by cases h; rfl
theorem VR.str_inv {v : Value} {x : Str} (h : VR v (.str x)) : ∃ t, v = .str x t ∧ PyData.strOk x = true := by cases h; exact ⟨_, rfl, ‹_›⟩
theorem VR.int_inv {v : Value} {i : Int} (h : VR v (.int i)) : ∃ t, v = .int i t := by cases h; exact ⟨_, rfl⟩
section
variable {S : St} {b : Bool} {d : Nat} {sc : Kd} {ρ : Rho}
noncomputable def tList (ts : Tms) : Tm := fun m H Q X => ts m H (fun vs H1 => vs.length ≤ 1000 ∧ ∀ r, H1 r = none → Q (.ref r) (H1.put r (.list vs))) X
noncomputable def tTuple (ts : Tms) : Tm := fun m H Q X => ts m H (fun vs H1 => vs.length ≤ 1000 ∧ ∀ r, H1 r = none → Q (.ref r) (H1.put r (.tuple vs))) X
theorem Inv.newTuple {C : Cx} {H : AH} {s : Shared} (I : Inv S C H s) {vs : List Value} {xs : List AV} (hv : VRs vs xs) (hl : vs.length ≤ sizeLine) :
  Inv S C (H.put s.heap.objs.size (.tuple xs)) { s with heap := s.heap.push { cls := .type "tuple", data := .seq vs.toArray } } :=
 I.add (s' := { s with heap := s.heap.push { cls := .type "tuple", data := .seq vs.toArray } }) (o := .tuple xs) (Heap.get?_none_of_le (Nat.le_refl _)) (fun b o e => Heap.get?_push_of_some _ e) ⟨vs, 0, Heap.get?_push_size _ rfl, hv, hl⟩ rfl rfl
theorem Inv.nextNone {C : Cx} {H : AH} {s : Shared} (I : Inv S C H s) : H s.heap.objs.size = none := (I.fresh (Heap.get?_none_of_le (Nat.le_refl _))).1
theorem sE_list {es : List Expr} {pos : Pos} {ts : Tms} (h1 : SoundEs S b d sc ρ es ts) : SoundE S b d sc ρ (.List es pos) (tList ts) := by
 intro C A env m H Q X E s R O hk V I h hE
 refine wpAny_List (wpAny_mono (h1 C A env m H _ X E s pos R O hk V I h hE) ?_ fun _ _ x => x)
 rintro vs s1 ⟨avs, H1, r1, I1, hl, q1⟩
 have e := r1.length
 have hz : sizeLine = 16777216 := rfl
 exact ⟨by lia, _, _, .ref _, I1.newList r1 (by lia), q1 _ I1.nextNone⟩
theorem sE_tuple {es : List Expr} {k : Nat} {pos : Pos} {ts : Tms} (h1 : SoundEs S b d sc ρ es ts) : SoundE S b d sc ρ (.Tuple es k pos) (tTuple ts) := by
 intro C A env m H Q X E s R O hk V I h hE
 refine wpAny_Tuple (wpAny_mono (h1 C A env m H _ X E s pos R O hk V I h hE) ?_ fun _ _ x => x)
 rintro vs s1 ⟨avs, H1, r1, I1, hl, q1⟩
 have e := r1.length
 have hz : sizeLine = 16777216 := rfl
 exact ⟨by lia, _, _, .ref _, I1.newTuple r1 (by lia), q1 _ I1.nextNone⟩
inductive TyAt (H : AH) : AV → String → Prop
 | str (x : Str) : TyAt H (.str x) "str"
 | list {a : Addr} {xs : List AV} : H a = some (.list xs) → TyAt H (.ref a) "list"
 | idict {a : Addr} {es : List (Int × AV)} : H a = some (.idict es) → TyAt H (.ref a) "dict"
 | sdict {a : Addr} {es : List (Str × AV)} : H a = some (.sdict es) → TyAt H (.ref a) "dict"
theorem TyAt.is {C : Cx} {H : AH} {s : Shared} (I : Inv S C H s) {v : Value} {x : AV} {T : String} (h : TyAt H x T) (r : VR v x) : s.TypeIs v T ∧ (∀ a, v = .ref a → ∃ ob, s.heap.get? a = some ob ∧ ob.dict = none) := by
 cases h with
 | str x => cases r; exact ⟨typeIs_str _ _ _, fun a e => nomatch e⟩
 | list h =>
  cases r
  obtain ⟨vs, n, g, _⟩ := I.list h
  exact ⟨⟨_, g, rfl⟩, fun a e => by cases e; exact ⟨_, g, rfl⟩⟩
 | idict h =>
  cases r
  obtain ⟨kvs, ep, g, _⟩ := I.objs _ _ h
  exact ⟨g.dictOf.mapOf.typeIs, fun a e => g.dictOf.mapOf.noDict a e⟩
 | sdict h =>
  cases r
  obtain ⟨kvs, ep, g, _⟩ := I.objs _ _ h
  exact ⟨g.dictOf.mapOf.typeIs, fun a e => g.dictOf.mapOf.noDict a e⟩
structure BMeth (T : String) (name : Str) (id : String) : Prop where
 pa : PlainAttrs T
 slot : Slot T name id
 ty : typeOf (.builtin id) = pure (.type "method_descriptor")
noncomputable def tMeth (T : String) (F : BFn) (t : Tm) (ts : Tms) : Tm := fun m H Q X => t m H (fun x H1 => TyAt H1 x T ∧ ts m H1 (fun vs H2 => F (x :: vs) H2 Q) X) X
theorem sE_meth {o : Expr} {name : Str} {apos pos : Pos} {args : List Expr} {T id : String} {F : BFn} {t : Tm} {ts : Tms} (B : BMeth T name id) (hF : BFnOK S b (.builtin id) F) (h1 : SoundE S b d sc ρ o t) (h2 : SoundEs S b d sc ρ args ts)
  (hbase : ∀ env, attributeBase o name env (eval o env) = eval o env) (hline : (apos.endLine == pos.line) = true) (hs : noStar args = true) (hn : args.length < 29) :
  SoundE S b d sc ρ (.Call (.Attribute o name apos) args [] pos) (tMeth T F t ts) := by
 intro C A env m H Q X E s R O hk V I h hE
 refine wpAny_Call_method (hbase env) ?_ hline B.pa B.slot B.ty (wpAny_mono (h1 C A env m H _ X E s R O hk V I h hE) ?_ fun _ _ x => x)
 ·rw [backTo_plain hs]
  have e : (backToKw pos (keywordEach [] env)) = [] := rfl
  rw [e]; simp; lia
 ·rintro vo s1 ⟨x, H1, r1, I1, ty, q1⟩
  obtain ⟨t1, t2⟩ := ty.is I1 r1
  refine ⟨t1, t2, Calls.callWith_builtin (backTo_any hs) (evalArgs_of hs (wpAny_mono (h2 C A env m H1 _ X E s1 pos R O hk V I1 q1 hE) ?_ fun _ _ x => x))⟩
  rintro vs s2 ⟨avs, H2, r2, I2, q2⟩
  exact hF C A (vo :: vs) (x :: avs) H2 Q E s2 R.hd R.u (.cons r1 r2) I2 q2
inductive bAppendK (vs : List AV) (H : AH) (Q : QV) : Prop
 | mk (a) (xs) (v) : (vs = [.ref a, v]) → (H a = some (.list xs)) → (xs.length < sizeLine) → (Q .none (H.put a (.list (xs ++ [v])))) → bAppendK vs H Q
noncomputable def bAppend : BFn := fun vs H Q => bAppendK vs H Q
theorem bAppend_ok : BFnOK S b (.builtin "list.append") bAppend := by
 rintro C A vs avs H Q E s hh hu r I ⟨a, xs, v, rfl, ha, hl, h⟩
 obtain ⟨_, w, rfl, r1, r2⟩ := r.two
 cases r1.ref_inv
 obtain ⟨ws, n, g, q, _⟩ := I.list ha
 have e := q.length
 refine append_at g (fun h' sb g' => ⟨_, _, .none, ?_, h⟩) (by simp; lia)
 refine I.set (s' := { s with heap := h' }) ha rfl (fun b ob nb e => (sb.2 b nb).trans e) ⟨ws ++ [_], n + 1, by simpa using g', q.append (.cons r2 .nil), by simp; lia⟩ rfl rfl
theorem meth_append : BMeth "list" "append" "list.append" := ⟨PySem.F.plainAttrs_list, PySem.slot_list_append, rfl⟩
inductive bExtendK (vs : List AV) (H : AH) (Q : QV) : Prop
 | mk (a) (c) (xs) (ys) : (vs = [.ref a, .ref c]) → (H a = some (.list xs)) → (H c = some (.list ys)) → (xs.length + ys.length ≤ sizeLine) → (Q .none (H.put a (.list (xs ++ ys)))) → bExtendK vs H Q
noncomputable def bExtend : BFn := fun vs H Q => bExtendK vs H Q
theorem bExtend_ok : BFnOK S b (.builtin "list.extend") bExtend := by
 rintro C A vs avs H Q E s hh hu r I ⟨a, c, xs, ys, rfl, ha, hc, hl, h⟩
 obtain ⟨_, _, rfl, r1, r2⟩ := r.two
 cases r1.ref_inv; cases r2.ref_inv
 obtain ⟨ws, n, g, q, _⟩ := I.list ha
 obtain ⟨us, k, g2, q2, _⟩ := I.list hc
 have e := q.length; have e2 := q2.length
 refine call_meets PySem.F.slot_list_extend ⟨_, g, rfl⟩ PySem.F.entry_list_extend (PySem.F.args_list_extend_2 _ _) (AutoSeq1.list_extend_list_list_0 a ws.toArray n c us.toArray k (extend_door (by simp; lia)) (by simp; lia) (by simp; lia)) ⟨g, g2, ⟨_, _, .none, ?_, h⟩⟩
 have ho' : (s.heap.update a (Obj.mapSeq fun x => x ++ us.toArray)).get? a = some { cls := .type "list", data := .seq (ws ++ us).toArray (if (ws.toArray ++ us.toArray).size == ws.toArray.size then n else n + 1) } := by
  rw [Heap.get?_update_self _ g (by rw [mapSeq_app]; rfl), mapSeq_app, List.append_toArray]
 exact I.set (s' := { s with heap := s.heap.update a (Obj.mapSeq fun x => x ++ us.toArray) }) ha rfl (fun b ob nb e => ((Heap.SameBut.update ..).2 b nb).trans e) ⟨ws ++ us, _, ho', q.append q2, by simp; lia⟩ rfl rfl
theorem meth_extend : BMeth "list" "extend" "list.extend" := ⟨PySem.F.plainAttrs_list, PySem.F.slot_list_extend, rfl⟩
theorem VRs.strs {vs : List Value} : ∀ {xs : List Str}, VRs vs (xs.map AV.str) → StrsAre vs xs := by
 induction vs with
 | nil => intro xs h; cases xs with
  | nil => exact .nil
  | cons => cases h
 | cons v vs ih => intro xs h; cases xs with
  | nil => cases h
  | cons x xs => cases h with | cons r rs => cases r; exact .cons _ _ (ih rs)
inductive bJoinK (vs : List AV) (H : AH) (Q : QV) : Prop
 | mk (x) (a) (ys) : (vs = [.str x, .ref a]) → (H a = some (.list (List.map AV.str ys))) → ((ys.map (·.length)).sum + ys.length * x.length ≤ 16777216) → (Q (.str (Str.join x ys)) H) → bJoinK vs H Q
noncomputable def bJoin : BFn := fun vs H Q => bJoinK vs H Q
theorem strOk_join {x : Str} (hx : PyData.strOk x = true) : ∀ {ys : List Str}, (∀ y ∈ ys, PyData.strOk y = true) → PyData.strOk (Str.join x ys) = true
 | [], _ => by show PyData.strOk Str.empty = true; unfold PyData.strOk Str.empty; simp
 | [y], h => h y (.head _)
 | y :: z :: r, h => strOk_append (strOk_append (h y (.head _)) hx) (strOk_join hx (ys := z :: r) fun w hw => h w (.tail _ hw))
theorem VRs.strOk {vs : List Value} : ∀ {xs : List Str}, VRs vs (xs.map AV.str) → ∀ y ∈ xs, PyData.strOk y = true := by
 induction vs with
 | nil => intro xs h; cases xs with
  | nil => intro y hy; cases hy
  | cons => cases h
 | cons v vs ih => intro xs h; cases xs with
  | nil => cases h
  | cons x xs => cases h with
   | cons r rs =>
    intro y hy
    rcases List.mem_cons.mp hy with e | hy
    ·rw [e]; obtain ⟨_, _, ok⟩ := r.str_inv; exact ok
    ·exact ih rs y hy
theorem bJoin_ok : BFnOK S b (.builtin "str.join") bJoin := by
 rintro C A vs avs H Q E s hh hu r I ⟨x, a, ys, rfl, ha, hl, h⟩
 obtain ⟨_, _, rfl, r1, r2⟩ := r.two
 obtain ⟨t, rfl, ok⟩ := r1.str_inv
 cases r2.ref_inv
 obtain ⟨ws, n, g, q, _⟩ := I.list ha
 have ej : Txt.join x ys = Str.join x ys := by unfold Txt.join; exact StrLaws.glued_eq_join x ys
 refine join_list (items := ws.toArray) (ys := ys) ⟨_, g, rfl, n, rfl⟩ (by simpa using q.strs) hl fun t' k => ?_
 rw [ej]
 exact ⟨_, H, .str _ _ (strOk_join ok q.strOk), I.toks _, h⟩
theorem meth_join : BMeth "str" "join" "str.join" := ⟨PySem.F.plainAttrs_str, PySem.F.slot_str_join, rfl⟩
noncomputable def aLen : AV → AH → QV → Prop
 | .str x, H, Q => x.length ≤ sizeLine ∧ Q (.int x.length) H
 | .ref a, H, Q => Got H a fun o => match o with
  | .list xs => Q (.int xs.length) H
  | .tuple xs => Q (.int xs.length) H
  | .script ns => Q (.int ns.length) H
  | .idict es => Q (.int es.length) H
  | .sdict es => Q (.int es.length) H
  | .sset xs => Q (.int xs.length) H
  | _ => False
 | _, _, _ => False
inductive bLenK (vs : List AV) (H : AH) (Q : QV) : Prop
 | mk (v) : (vs = [v]) → (aLen v H Q) → bLenK vs H Q
noncomputable def bLen : BFn := fun vs H Q => bLenK vs H Q
theorem PRs.length {K : Type} {vs : List (K × Value)} {as : List (K × AV)} (h : PRs vs as) : vs.length = as.length := by
 induction h with
 | nil => rfl
 | cons _ _ ih => simp [ih]
theorem SRs.length {w : World} {vs : List (Int × Value)} {as : List Str} (h : SRs w vs as) : vs.length = as.length := by
 induction h with
 | nil => rfl
 | cons _ _ ih => simp [ih]
theorem bLen_ok (K : StOK S) : BFnOK S b (.builtin "len") bLen := by
 rintro C A vs avs H Q E s hh hu r I ⟨v, rfl, h⟩
 obtain ⟨w, rfl, r0⟩ := r.one
 have hz : sizeLine = 16777216 := rfl
 have nosys : ∀ {a : Addr} {o : AO}, H a = some o → isScript o = false → (a == sysModules) = false := fun {a o} ho hs => by
  obtain ⟨o', e⟩ := K.sys
  have := (I.sepH a o ho).2 hs
  by_cases q : a = sysModules
  ·rw [q, e] at this; cases this
  ·simpa using q
 cases r0 with
 | str x t ok => exact PySem.P.len_str (by have := h.1; lia) ⟨_, H, .int _ _, I.toks _, h.2⟩
 | ref a =>
  obtain ⟨o, ho, h⟩ := h
  cases o with
  | list xs =>
   obtain ⟨ws, n, g, q, hl⟩ := I.list ho
   refine call_len_list (items := ws.toArray) ⟨_, g, rfl, n, rfl⟩ (by simp; lia) ⟨_, H, .int _ _, I.toks _, ?_⟩
   rw [List.size_toArray, q.length]; exact h
  | tuple xs =>
   obtain ⟨ws, n, g, q, hl⟩ := I.tuple ho
   refine PySem.P.len_tuple (items := ws.toArray) g (by simp; lia) ⟨_, H, .int _ _, I.toks _, ?_⟩
   rw [List.size_toArray, q.length]; exact h
  | script ns =>
   obtain ⟨ws, ⟨o, g1, g2, g3⟩, q, hl⟩ := I.objs a _ ho
   refine call_len_list (items := ws.toArray) ⟨o, I.base _ _ g1, g2, g3⟩ (by simp; lia) ⟨_, H, .int _ _, I.toks _, ?_⟩
   have e := q.length
   rw [List.length_map] at e
   rw [List.size_toArray, e]; exact h
  | idict es =>
   obtain ⟨kvs, ep, g, q, hl⟩ := I.objs a _ ho
   refine call_len_dict (nosys ho rfl) g.dictOf (by lia) ⟨_, H, .int _ _, I.toks _, ?_⟩
   rw [q.length]; exact h
  | sdict es =>
   obtain ⟨kvs, ep, g, q, _, hl⟩ := I.objs a _ ho
   refine call_len_dict (nosys ho rfl) g.dictOf (by lia) ⟨_, H, .int _ _, I.toks _, ?_⟩
   rw [q.length]; exact h
  | sset xs =>
   obtain ⟨es, ep, t, ys, g, q, pm, nd, hb, hf, _⟩ := I.objs a _ ho
   have hsb : scanBound = 4096 := rfl
   refine call_len_set g ⟨rfl, rfl, rfl⟩ rfl hf (by lia) ⟨_, H, .int _ _, I.toks _, ?_⟩
   have e := q.length
   rw [Array.length_toList] at e
   rw [e, pm.length_eq]; exact h
  | _ => exact h.elim
 | _ => exact h.elim
theorem VRs.bools {vs : List Value} : ∀ {xs : List Bool}, VRs vs (xs.map AV.bool) → LSm.BoolsAre vs xs := by
 induction vs with
 | nil => intro xs h; cases xs with
  | nil => exact .nil
  | cons => cases h
 | cons v vs ih => intro xs h; cases xs with
  | nil => cases h
  | cons x xs => cases h with | cons r rs => cases r; exact .cons _ (ih rs)
theorem kept_iter' {s : Shared} {h' : Heap} {o : Obj} (hk : ∀ b x, b ∉ [s.heap.objs.size] → (s.heap.push o).get? b = some x → h'.get? b = some x) : ∀ b x, s.heap.get? b = some x → h'.get? b = some x :=
 fun b x e => hk b x (fun hm => by rw [List.mem_singleton.mp hm] at e; exact Nat.lt_irrefl _ (Heap.lt_size e)) (Heap.get?_push_of_some _ e)
inductive bAllK (vs : List AV) (H : AH) (Q : QV) : Prop
 | mk (a) (bs) : (vs = [.ref a]) → (H a = some (.list (List.map AV.bool bs))) → (Q (.bool (bs.all id)) H) → bAllK vs H Q
noncomputable def bAll : BFn := fun vs H Q => bAllK vs H Q
theorem bAll_ok : BFnOK S true (.builtin "all") bAll := by
 rintro C A vs avs H Q E s hh hu r I ⟨l, bs, rfl, ha, h⟩
 obtain ⟨_, rfl, r0⟩ := r.one
 cases r0.ref_inv
 obtain ⟨ws, n, g, q, _⟩ := I.list ha
 have hl : s.heap.IsList l ws.toArray := ⟨_, g, rfl, n, rfl⟩
 have hb := q.bools
 have hlt : l < s.heap.objs.size := Heap.lt_size g
 refine call_all_walk (wpAny_pyIter_list hl ?_)
 refine ⟨s.heap.objs.size, [s.heap.objs.size, l], [s.heap.objs.size], ws.toArray.size, _, _, fun i => (bs[i]?).getD true, rfl, Walks.list (A := A.in1) (hh rfl) _ l (Nat.ne_of_lt hlt) ws.toArray,
  ⟨⟨_, Heap.get?_push_size _ rfl, rfl, rfl⟩, hl.push _⟩, fun i v s' Q' E' hP hQ => ?_, fun h' tk hk => ?_⟩
 ·obtain ⟨b, e, rfl⟩ := hb.get i v (by simpa using hP)
  simp only [e, Option.getD_some] at hQ
  exact wpAny_truthy_bool hQ
 ·have e : ((List.range ws.toArray.size).all fun i => (bs[i]?).getD true) = bs.all id := by
   rw [List.size_toArray, hb.length]; exact LSm.range_all bs
  rw [e]
  exact ⟨_, H, .bool _, I.grow (s' := { s with heap := h', toks := tk }) (kept_iter' hk) rfl rfl, h⟩
inductive bRangeK (vs : List AV) (H : AH) (Q : QV) : Prop
 | mk (n) : (vs = [.int n]) → (-1048576 ≤ n) → (n ≤ 1048576) → (∀ r, H r = none → Q (.ref r) (H.put r (.range 0 n))) → bRangeK vs H Q
noncomputable def bRange : BFn := fun vs H Q => bRangeK vs H Q
theorem bRange_ok : BFnOK S b (.type "range") bRange := by
 rintro C A vs avs H Q E s hh hu r I ⟨n, rfl, h1, h2, h⟩
 obtain ⟨_, rfl, r0⟩ := r.one
 obtain ⟨t, rfl⟩ := r0.int_inv
 refine call_range_1 ⟨_, _, .ref _, ?_, h _ I.nextNone⟩
 exact I.add (s' := { s with heap := s.heap.push { cls := .type "range", data := .fields #[.int 0 s.toks, .int n t, .int 1 (s.toks + 1)] }, toks := s.toks + 1 + 1 }) (o := .range 0 n) (Heap.get?_none_of_le (Nat.le_refl _)) (fun b o e => Heap.get?_push_of_some _ e)
  ⟨_, _, _, ⟨by lia, by lia⟩, ⟨h1, h2⟩, IsRange.new ..⟩ rfl rfl
noncomputable def bList : BFn := fun vs H Q => OneGot vs H fun o => match o with
 | .list xs => ∀ r, H r = none → Q (.ref r) (H.put r (.list xs))
 | .tuple xs => ∀ r, H r = none → Q (.ref r) (H.put r (.list xs))
 | .script ns => ∀ r, H r = none → Q (.ref r) (H.put r (.list (ns.map AV.int)))
 | _ => False
theorem bList_ok : BFnOK S b (.type "list") bList := by
 rintro C A vs avs H Q E s hh hu r I ⟨a, o, rfl, ha, h⟩
 obtain ⟨_, rfl, r0⟩ := r.one
 cases r0.ref_inv
 have fin : ∀ {ws : List Value} {xs : List AV} {h' : Heap} {c' : Nat}, VRs ws xs → ws.length ≤ sizeLine → (∀ b o', s.heap.get? b = some o' → h'.get? b = some o') → h'.get? s.heap.objs.size = some { cls := .type "list", dict := none, data := .seq ws.toArray c', slots := #[] } →
   (∀ r, H r = none → Q (.ref r) (H.put r (.list xs))) → PostV S C Q (.ref s.heap.objs.size) { s with heap := h' } := by
  intro ws xs h' c' q hl hk g h
  exact ⟨_, _, .ref _, I.add (s' := { s with heap := h' }) (o := .list xs) (Heap.get?_none_of_le (Nat.le_refl _)) hk ⟨ws, c', g, q, hl⟩ rfl rfl, h _ I.nextNone⟩
 cases o with
 | list xs =>
  obtain ⟨ws, n, g, q, hl⟩ := I.list ha
  exact call_list_seq a (.inl rfl) g rfl rfl (fun h' c' hk g' => fin q hl hk g' h) (by simpa using hl)
 | tuple xs =>
  obtain ⟨ws, n, g, q, hl⟩ := I.tuple ha
  exact call_list_seq a (.inr rfl) g rfl rfl (fun h' c' hk g' => fin q hl hk g' h) (by simpa using hl)
 | script ns =>
  obtain ⟨ws, ⟨o, g1, g2, k, g3⟩, q, hl⟩ := I.objs a _ ha
  have hz : sizeLine = 16777216 := rfl
  exact call_list_seq a (.inl rfl) (I.base _ _ g1) g2 g3 (fun h' c' hk g' => fin q (by lia) hk g' h) (by simp; lia)
 | _ => exact h.elim
noncomputable def aIs (T : String) : AV → AH → Option Bool
 | .none, _ => some false
 | .bool _, _ => some (T == "bool" || T == "int")
 | .int _, _ => some (T == "int")
 | .str _, _ => some (T == "str")
 | .ref a, H => match H a with
  | some (.list _) => some (T == "list")
  | some (.tuple _) => some (T == "tuple")
  | _ => none
inductive IsK (T : String) (x : AV) (H : AH) (Q : Bool → Prop) : Prop
 | mk (c : Bool) : aIs T x H = some c → Q c → IsK T x H Q
noncomputable def tIsi (T : String) (t : Tm) : Tm := fun m H Q X => t m H (fun x H1 => IsK T x H1 fun c => Q (.bool c) H1) X
noncomputable def IsiOK (S : St) (T : String) : Prop := ∀ (C : Cx) (A : Around) (v : Value) (av : AV) (H1 : AH) (c : Bool) (Q : Value → Shared → Prop) (E : Value → Shared → Prop) (s1 : Shared), VR v av → Inv S C H1 s1 → aIs T av H1 = some c → Q (.bool c) s1 → (∀ tk, Q (.bool c) { s1 with toks := tk }) → wpAny S.M A (call (.builtin "isinstance") [v, .type T]) Q E s1
theorem isi_ok_list : IsiOK S "list" := by
 intro C A v av H1 c Q E s1 r1 I1 hc fin0 fin
 cases r1 with
 | none => cases hc; exact PySem.IsiPair.NoneType_list (fin _)
 | bool => cases hc; exact PySem.IsiPair.bool_list (fin _)
 | int => cases hc; exact PySem.IsiPair.int_list (fin _)
 | str => cases hc; exact PySem.IsiPair.str_list (fin _)
 | ref a =>
  unfold aIs at hc; dsimp only at hc
  split at hc
  ·rename_i ho; obtain ⟨ws, n, g, _⟩ := I1.list ho; cases hc; exact PySem.IsiPair.list_list g rfl fin0
  ·rename_i ho; obtain ⟨ws, n, g, _⟩ := I1.tuple ho; cases hc; exact PySem.IsiPair.tuple_list g rfl (fin _)
  ·cases hc
theorem isi_ok_str : IsiOK S "str" := by
 intro C A v av H1 c Q E s1 r1 I1 hc fin0 fin
 cases r1 with
 | none => cases hc; exact PySem.IsiPair.NoneType_str (fin _)
 | bool => cases hc; exact PySem.IsiPair.bool_str (fin _)
 | int => cases hc; exact PySem.IsiPair.int_str (fin _)
 | str => cases hc; exact PySem.IsiPair.str_str fin0
 | ref a =>
  unfold aIs at hc; dsimp only at hc
  split at hc
  ·rename_i ho; obtain ⟨ws, n, g, _⟩ := I1.list ho; cases hc; exact PySem.IsiPair.list_str g rfl (fin _)
  ·rename_i ho; obtain ⟨ws, n, g, _⟩ := I1.tuple ho; cases hc; exact PySem.IsiPair.tuple_str g rfl (fin _)
  ·cases hc
theorem isi_ok_bool : IsiOK S "bool" := by
 intro C A v av H1 c Q E s1 r1 I1 hc fin0 fin
 cases r1 with
 | none => cases hc; exact PySem.IsiPair.NoneType_bool (fin _)
 | bool => cases hc; exact PySem.IsiPair.bool_bool fin0
 | int => cases hc; exact PySem.IsiPair.int_bool (fin _)
 | str => cases hc; exact PySem.IsiPair.str_bool (fin _)
 | ref a =>
  unfold aIs at hc; dsimp only at hc
  split at hc
  ·rename_i ho; obtain ⟨ws, n, g, _⟩ := I1.list ho; cases hc; exact PySem.IsiPair.list_bool g rfl (fin _)
  ·rename_i ho; obtain ⟨ws, n, g, _⟩ := I1.tuple ho; cases hc; exact PySem.IsiPair.tuple_bool g rfl (fin _)
  ·cases hc
theorem isi_ok_int : IsiOK S "int" := by
 intro C A v av H1 c Q E s1 r1 I1 hc fin0 fin
 cases r1 with
 | none => cases hc; exact PySem.IsiPair.NoneType_int (fin _)
 | bool => cases hc; exact PySem.IsiPair.bool_int fin0
 | int => cases hc; exact PySem.IsiPair.int_int fin0
 | str => cases hc; exact PySem.IsiPair.str_int (fin _)
 | ref a =>
  unfold aIs at hc; dsimp only at hc
  split at hc
  ·rename_i ho; obtain ⟨ws, n, g, _⟩ := I1.list ho; cases hc; exact PySem.IsiPair.list_int g rfl (fin _)
  ·rename_i ho; obtain ⟨ws, n, g, _⟩ := I1.tuple ho; cases hc; exact PySem.IsiPair.tuple_int g rfl (fin _)
  ·cases hc
theorem sE_isi {e : Expr} {f x : Str} {T : String} {p p2 pos : Pos} {t : Tm} (K : StOK S) (hT : IsiOK S T) (h1 : SoundE S b d sc ρ e t) (hf : sc f = some .globalImplicit) (hm : S.mg f = none) (hv : S.mb f = some (.builtin "isinstance"))
  (hx : sc x = some .globalImplicit) (hmx : S.mg x = none) (hvx : S.mb x = some (.type T)) (hd : (f == ("__debug__" : Str)) = false) (hdx : (x == ("__debug__" : Str)) = false) (hs : noStar [e] = true) :
  SoundE S b d sc ρ (.Call (.Name f p) [e, .Name x p2] [] pos) (tIsi T t) := by
 intro C A env m H Q X E s R O hk V I h hE
 refine wpAny_Call_NameR (load_builtin K O I ((hk f).trans hf) hm hv hd ?_)
 have hs' : noStar [e, .Name x p2] = true := by
  cases e <;> first | rfl | cases hs
 refine Calls.callWith_builtin (backTo_any hs') (evalArgs_of hs' ?_)
 rw [backTo_plain hs']
 refine Calls.spliced_cons (wpAny_mono (h1 C A env m H _ X E s R O hk V I h hE) ?_ fun _ _ x => x)
 rintro v s1 ⟨av, H1, r1, I1, c, hc, q1⟩
 refine Calls.spliced_cons (load_builtin K O I1 ((hk x).trans hx) hmx hvx hdx (Calls.spliced_nil ?_))
 show wpAny S.M A (call (.builtin "isinstance") [v, .type T]) _ E s1
 exact hT C A v av H1 c _ E s1 r1 I1 hc ⟨_, H1, .bool _, I1, q1⟩ fun tk => ⟨_, H1, .bool _, I1.toks tk, q1⟩
end
end Mine
end
-- text A13
section
namespace Mine
open PySem PySem.Calls PyProof.Rows
noncomputable def Cx.watch (C : Cx) (L : List Addr) (h : Heap) : Cx := { C with U := fun a => if a ∈ L then h.get? a else C.U a }
theorem Cx.watch_in (C : Cx) {L : List Addr} {h : Heap} {a : Addr} (q : a ∈ L) : (C.watch L h).U a = h.get? a := if_pos q
theorem Cx.watch_out (C : Cx) {L : List Addr} {h : Heap} {a : Addr} (q : a ∉ L) : (C.watch L h).U a = C.U a := if_neg q
noncomputable def Cx.strip (C : Cx) (L : List Addr) : Cx := { C with U := fun a => if a ∈ L then none else C.U a }
theorem Cx.strip_in (C : Cx) {L : List Addr} {a : Addr} (q : a ∈ L) : (C.strip L).U a = none := if_pos q
theorem Cx.strip_out (C : Cx) {L : List Addr} {a : Addr} (q : a ∉ L) : (C.strip L).U a = C.U a := if_neg q
section
variable {S : St} {C : Cx} {H : AH} {s : Shared} {A : Around} {env : Env} {ρ : Rho} {m : Mp} {L : List Addr}
theorem Inv.watch (I : Inv S C H s) {s' : Shared} (hL : ∀ a ∈ L, S.base.get? a = none ∧ H a = none ∧ a ∉ C.fr) (hk : ∀ b o, b ∉ L → s.heap.get? b = some o → s'.heap.get? b = some o) (hg : s'.gens = s.gens) (ho : s'.os = s.os) :
  Inv S (C.watch L s'.heap) H s' := by
 refine ⟨fun b o e => hk b o (fun q => by rw [(hL b q).1] at e; cases e) (I.base b o e), fun a o e => ?_, fun a o e => ?_, fun a o e => ⟨?_, (I.sepH a o e).2⟩, fun a o e => ?_, hg.trans I.gens, ho.trans I.os, fun a ha => ?_⟩
 ·by_cases q : a ∈ L
  ·rw [Cx.watch_in _ q] at e; exact .inl e
  ·rw [Cx.watch_out _ q] at e
   exact (I.keep a o e).of_get fun ob w => hk a ob q w
 ·exact (I.objs a o e).of_get fun ob w => hk a ob (fun q => by rw [(hL a q).2.1] at e; cases e) w
 ·rw [Cx.watch_out _ fun q => by rw [(hL a q).2.1] at e; cases e]; exact (I.sepH a o e).1
 ·by_cases q : a ∈ L
  ·exact (hL a q).1
  ·rw [Cx.watch_out _ q] at e; exact I.sepU a o e
 ·obtain ⟨o, e⟩ := I.frU a ha
  exact ⟨o, by rw [Cx.watch_out _ fun q => (hL a q).2.2 ha]; exact e⟩
theorem Inv.strip (I : Inv S C H s) (hL : ∀ a ∈ L, a ∉ C.fr) : Inv S (C.strip L) H s := by
 refine I.less (fun a ha _ => ha) (fun a o e => ?_) fun a ha => ?_
 ·by_cases q : a ∈ L
  ·rw [Cx.strip_in _ q] at e; cases e
  ·rw [Cx.strip_out _ q] at e; exact e
 ·obtain ⟨o, e⟩ := I.frU a ha
  exact ⟨o, by rw [Cx.strip_out _ fun q => hL a q ha]; exact e⟩
theorem FrOK.strip (F : FrOK S C A) (hL : ∀ a ∈ L, a ∉ C.fr) : FrOK S (C.strip L) A := by
 refine ⟨F.stack, fun e he => ?_⟩
 obtain ⟨q1, l, o, q2, q3, q4, q5⟩ := F.fun_ e he
 exact ⟨q1, l, o, q2, q3, by rw [Cx.strip_out _ fun q => hL l q q3]; exact q4, q5⟩
theorem Raised.strip {x : Str} {v : Value} (R : Raised S C H x v s) (hL : ∀ a ∈ L, a ∉ C.fr) : Raised S (C.strip L) H x v s := by
 obtain ⟨e, rfl, I, X⟩ := R
 have none_ : ∀ {a : Addr}, C.U a = none → (C.strip L).U a = none := fun {a} h => by
  by_cases q : a ∈ L
  ·exact Cx.strip_in _ q
  ·rw [Cx.strip_out _ q]; exact h
 refine ⟨e, rfl, I.strip hL, ?_, X.new.1, none_ X.new.2.1, X.new.2.2⟩
 obtain ⟨oe, vs, K, q1, q2, q3, q4, q5, q6, q7⟩ := X.cls
 refine ⟨oe, vs, K, q1, q2, q3, q4, q5, q6, q7.imp id ?_⟩
 rintro ⟨T, oT, ts, fl, w1, w2, w3, w4, w5, w6, w7, w8, w9⟩
 exact ⟨T, oT, ts, fl, w1, w2, w3, w4, w5, w6, w7, none_ w8, w9⟩
structure Apt (C : Cx) (env : Env) (L : List Addr) : Prop where
 loc : ∀ a ∈ L, a ≠ env.locals
 cell : ∀ a ∈ L, ∀ x, env.cells.lookup x ≠ some a
 fr : ∀ a ∈ L, a ∉ C.fr
theorem EnvOK.watch (O : EnvOK S C A env) (P : Apt C env L) (h : Heap) : EnvOK S (C.watch L h) A env :=
 O.of_U rfl rfl (Cx.watch_out _ fun q => P.loc _ q rfl) (fun x c hx => Cx.watch_out _ fun q => P.cell _ q x hx) fun l hl => Cx.watch_out _ fun q => P.fr _ q hl
theorem EnvRel.watch (R : EnvRel C env ρ m) (P : Apt C env L) (h : Heap) : EnvRel (C.watch L h) env ρ m :=
 R.of_U (Cx.watch_out _ fun q => P.loc _ q rfl) fun x c hx => Cx.watch_out _ fun q => P.cell _ q x hx
theorem EnvOK.strip (O : EnvOK S C A env) (P : Apt C env L) : EnvOK S (C.strip L) A env :=
 O.of_U rfl rfl (Cx.strip_out _ fun q => P.loc _ q rfl) (fun x c hx => Cx.strip_out _ fun q => P.cell _ q x hx) fun l hl => Cx.strip_out _ fun q => P.fr _ q hl
theorem EnvRel.strip (R : EnvRel C env ρ m) (P : Apt C env L) : EnvRel (C.strip L) env ρ m :=
 R.of_U (Cx.strip_out _ fun q => P.loc _ q rfl) fun x c hx => Cx.strip_out _ fun q => P.cell _ q x hx
end
structure Wat (C C1 : Cx) (env : Env) (L : List Addr) (h : Heap) : Prop where
 fr : C1.fr = C.fr
 envs : C1.envs = C.envs
 other : ∀ a, a ∉ L → a ≠ env.locals → (∀ x, env.cells.lookup x ≠ some a) → C1.U a = C.U a
 own : ∀ a ∈ L, C1.U a = h.get? a
section
variable {S : St} {d : Nat} {sc : Kd} {ρ : Rho}
theorem Wat.upd {C C1 C2 : Cx} {env : Env} {L : List Addr} {s : Shared} {s' : Shared} {H : AH} (W : Wat C C1 env L s.heap) (AP : Apt C env L) (f : FUpd env C1 C2) (I : Inv S C2 H s') (hp : ∀ a ∈ L, ∃ o, s.heap.get? a = some o) : Wat C C2 env L s'.heap := by
 refine ⟨f.fr.trans W.fr, f.envs.trans W.envs, fun a w1 w2 w3 => (f.other a w2 w3).trans (W.other a w1 w2 w3), fun a ha => ?_⟩
 obtain ⟨o, e⟩ := hp a ha
 have q : C2.U a = some o := by rw [f.other a (AP.loc a ha) (AP.cell a ha), W.own a ha, e]
 rw [q, I.exact q (by rw [f.fr, W.fr]; exact AP.fr a ha)]
theorem Wat.same {C C1 C2 : Cx} {env : Env} {L : List Addr} {s : Shared} {s' : Shared} {H : AH} (W : Wat C C1 env L s.heap) (AP : Apt C env L) (f : FUpd env C1 C2) (I : Inv S C2 H s') : ∀ a ∈ L, ∀ o, s.heap.get? a = some o → s'.heap.get? a = some o := fun a ha o e => by
 have q : C2.U a = some o := by rw [f.other a (AP.loc a ha) (AP.cell a ha), W.own a ha, e]
 exact I.exact q (by rw [f.fr, W.fr]; exact AP.fr a ha)
end
end Mine
end
-- text A14
section
namespace Mine
open PySem PySem.Calls PyProof.Rows
section
variable {S : St} {d : Nat} {sc : Kd} {ρ : Rho}
theorem Wat.start {C : Cx} {env : Env} (L : List Addr) (h : Heap) : Wat C (C.watch L h) env L h := ⟨rfl, rfl, fun a q _ _ => Cx.watch_out _ q, fun a q => Cx.watch_in _ q⟩
theorem Wat.again {C C1 : Cx} {env : Env} {L : List Addr} {h h' : Heap} (W : Wat C C1 env L h) : Wat C (C1.watch L h') env L h' :=
 ⟨W.fr, W.envs, fun a q w1 w2 => (Cx.watch_out _ q).trans (W.other a q w1 w2), fun a q => Cx.watch_in _ q⟩
theorem Wat.hid {C C1 : Cx} {env : Env} {L : List Addr} {s : Shared} {H : AH} (W : Wat C C1 env L s.heap) (AP : Apt C env L) (I : Inv S C1 H s) (hp : ∀ a ∈ L, ∃ o, s.heap.get? a = some o) : ∀ a ∈ L, S.base.get? a = none ∧ H a = none ∧ a ∉ C1.fr := fun a ha => by
 obtain ⟨o, e⟩ := hp a ha
 have q : C1.U a = some o := by rw [W.own a ha, e]
 exact ⟨(I.hid q).1, (I.hid q).2, by rw [W.fr]; exact AP.fr a ha⟩
structure ZipAt (z TI TO i1 i2 l1 l2 : Addr) (k : Nat) (f0 : Value) (h : Heap) : Prop where
 z : IsZip h z TI TO f0
 ti : IsPair h TI (.ref i1) (.ref i2)
 to : ∃ a b, IsPair h TO a b
 it1 : h.IsListIter i1 l1 k
 it2 : h.IsListIter i2 l2 k
theorem ZipAt.frame {z TI TO i1 i2 l1 l2 : Addr} {k : Nat} {f0 : Value} {h h' : Heap} (Z : ZipAt z TI TO i1 i2 l1 l2 k f0 h) (e : ∀ a ∈ [z, TI, TO, i1, i2], ∀ o, h.get? a = some o → h'.get? a = some o) : ZipAt z TI TO i1 i2 l1 l2 k f0 h' := by
 obtain ⟨h1, h2, ⟨a, b, h3⟩, ⟨o1, g1, r1⟩, ⟨o2, g2, r2⟩⟩ := Z
 exact ⟨e z (by simp) _ h1, e TI (by simp) _ h2, ⟨a, b, e TO (by simp) _ h3⟩, ⟨o1, e i1 (by simp) _ g1, r1⟩, ⟨o2, e i2 (by simp) _ g2, r2⟩⟩
theorem ZipAt.there {z TI TO i1 i2 l1 l2 : Addr} {k : Nat} {f0 : Value} {h : Heap} (Z : ZipAt z TI TO i1 i2 l1 l2 k f0 h) : ∀ a ∈ [z, TI, TO, i1, i2], ∃ o, h.get? a = some o := by
 obtain ⟨h1, h2, ⟨a, b, h3⟩, ⟨o1, g1, r1⟩, ⟨o2, g2, r2⟩⟩ := Z
 intro x hx
 simp only [List.mem_cons, List.not_mem_nil, or_false] at hx
 rcases hx with rfl | rfl | rfl | rfl | rfl
 ·exact ⟨_, h1⟩
 ·exact ⟨_, h2⟩
 ·exact ⟨_, h3⟩
 ·exact ⟨_, g1⟩
 ·exact ⟨_, g2⟩
end
end Mine
end
-- text A15
section
namespace Mine
open PySem PySem.Calls PyProof.Rows
theorem SRs.append {w : World} {a b : List (Int × Value)} {xs ys : List Str} (h : SRs w a xs) (k : SRs w b ys) : SRs w (a ++ b) (xs ++ ys) := by
 induction h with
 | nil => exact k
 | cons ok _ ih => exact .cons ok ih
theorem SRs.perm {w : World} {l l' : List (Int × Value)} (p : l'.Perm l) : ∀ {ys : List Str}, SRs w l ys → ∃ ys', SRs w l' ys' ∧ ys'.Perm ys := by
 induction p with
 | nil => intro ys h; exact ⟨ys, h, .refl _⟩
 | cons x _ ih =>
  intro ys h
  cases h with
  | cons ok h => obtain ⟨ys', q, r⟩ := ih h; exact ⟨_, .cons ok q, r.cons _⟩
 | swap x y l =>
  intro ys h
  cases h with
  | cons ok h => cases h with
   | cons ok' h => exact ⟨_, .cons ok' (.cons ok h), .swap _ _ _⟩
 | trans _ _ ih1 ih2 =>
  intro ys h
  obtain ⟨y1, q1, r1⟩ := ih2 h
  obtain ⟨y2, q2, r2⟩ := ih1 q1
  exact ⟨y2, q2, r2.trans r1⟩
theorem SRs.elems {prog : Program} {w : World} {l : List (Int × Value)} {ys : List Str} (h : SRs w l ys) : ElemsOf (strKind prog w) l := by
 induction h with
 | nil => intro e he; cases he
 | @cons x t vs xs ok _ ih =>
  intro e he
  rcases List.mem_cons.mp he with rfl | he
  ·exact ⟨⟨x, by simp [PySem.strKind, Value.isStrOf], rfl⟩, rfl⟩
  ·exact ih e he
theorem SRs.mem {prog : Program} {w : World} {l : List (Int × Value)} {ys : List Str} (h : SRs w l ys) (k : Str) : k ∈ ys ↔ ∃ e ∈ l, (strKind prog w).is k e.2 = true := by
 induction h with
 | nil => simp
 | @cons x t vs xs ok _ ih =>
  rw [List.mem_cons, ih]
  constructor
  ·rintro (rfl | ⟨e, he, hk⟩)
   ·exact ⟨_, .head _, by simp [PySem.strKind, Value.isStrOf]⟩
   ·exact ⟨e, .tail _ he, hk⟩
  ·rintro ⟨e, he, hk⟩
   rcases List.mem_cons.mp he with rfl | he
   ·left
    have q : Value.isStrOf k (.str x t) = true := hk
    simp [Value.isStrOf] at q
    first | exact q | exact q.symm
   ·exact .inr ⟨e, he, hk⟩
theorem layNew_led (t : SetTable) (es : Array (Int × Value)) (h : Int) (x : Value) : (layNew t es h x).2.1.led = t.led := by
 unfold layNew
 split
 ·dsimp only
  unfold SetTable.orStandIn
  split <;> rfl
 ·rfl
theorem relayAll_led (t : SetTable) (es : Array (Int × Value)) (n : Nat) : (relayAll t es n).2.1.led = t.led := by
 unfold relayAll
 split
 ·rename_i t' order hr
  dsimp only
  split
  ·unfold SetTable.relaid SetTable.laid at hr
   simp only [Option.bind_eq_bind, Option.bind_eq_some_iff] at hr
   obtain ⟨o, _, h⟩ := hr
   cases h; rfl
  ·rfl
 ·rfl
theorem relayAll_plain (t : SetTable) (es : Array (Int × Value)) (n : Nat) (ht : t.plain = false) : (relayAll t es n).2.1.plain = false := by
 unfold relayAll
 split
 ·rename_i t' order hr
  dsimp only
  split
  ·unfold SetTable.relaid SetTable.laid at hr
   simp only [Option.bind_eq_bind, Option.bind_eq_some_iff] at hr
   obtain ⟨o, _, h⟩ := hr
   cases h; exact ht
  ·rfl
 ·rfl
noncomputable def stepAdd (xs : List Str) (x : Str) : List Str := if x ∈ xs then xs else xs ++ [x]
noncomputable def dedup (xs : List Str) : List Str := xs.foldl stepAdd []
section
variable {prog : Program} {w : World} {A : Around} {E : Value → Shared → Prop} {s : Shared}
theorem setAdd_str {a : Addr} {xs : List Str} {x : Str} {t0 : Tok} {Q : Bool → Shared → Prop} (ok : PyData.strOk x = true) (hS : StrSetAt w s.heap a xs) (hroom : xs.length + 1 < scanBound)
  (h : ∀ (r : Bool) h', Heap.SameBut a s.heap h' → StrSetAt w h' a (stepAdd xs x) → Q r { s with heap := h' }) :
  wpAny (model prog w) A (setAddHashed a (.str x t0) (hashStr w x)) Q E s := by
 obtain ⟨es, ep, t, ys, ho, hel, pm, nd, hb, hf, hled, hpl⟩ := hS
 have hlen : es.size = xs.length := by rw [← pm.length_eq, ← hel.length, Array.length_toList]
 have hkey : (strKind prog w).is x (.str x t0) = true := by simp [PySem.strKind, Value.isStrOf]
 have hsc : (Value.str x t0).scannable = true := rfl
 have hE : ElemsOf (strKind prog w) es.toList := hel.elems
 unfold setAddHashed setAddHashedIn
 refine wpAny_holding (wpAny_bind (wpAny_setState_of ho rfl hf ?_))
 dsimp only
 rw [byScan_of hsc hb hE]
 simp only [↓reduceIte]
 unfold setAddByScan
 refine wpAny_bind ?_
 refine wpAny_bind (wpAny_rule ?_)
 refine wpAny_bind (wpAny_setScan_of (knd := strKind prog w) (k := x) hkey ho rfl hf hE ?_)
 cases hr : List.findIdx? (fun e => (strKind prog w).is x e.2) es.toList with
 | some j =>
  dsimp only
  obtain ⟨hj, hpj, _⟩ := List.findIdx?_eq_some_iff_getElem.mp hr
  have hx : x ∈ xs := pm.mem_iff.mp ((hel.mem (prog := prog) x).mpr ⟨es.toList[j], List.getElem_mem hj, hpj⟩)
  refine wpAny_pure (wpAny_pure ?_)
  have e : s = { s with heap := s.heap } := by cases s; rfl
  rw [e]
  refine h _ s.heap (Heap.SameBut.refl a s.heap) ?_
  unfold stepAdd; rw [if_pos hx]
  exact ⟨es, ep, t, ys, ho, hel, pm, nd, hb, hf, hled, hpl⟩
 | none =>
  dsimp only
  have hx : x ∉ xs := fun hx => by
   obtain ⟨e, he, hp⟩ := (hel.mem (prog := prog) x).mp (pm.mem_iff.mpr hx)
   have := List.findIdx?_eq_none_iff.mp hr e he; rw [hp] at this; exact Bool.noConfusion this
  have hgw : ∀ (b : Bool) {s₁ : Shared} {Q' : Unit → Shared → Prop}, Q' () s₁ → wpAny (model prog w) A (match b with | true => rule "set.scan.the-table-gave-way" | false => pure ()) Q' E s₁ :=
   fun b s₁ Q' hq => by cases b <;> first | exact wpAny_pure hq | exact wpAny_rule hq
  have hperm := layNew_perm t es (hashStr w x) (.str x t0)
  have hfits := layNew_fits t es (hashStr w x) (.str x t0)
  have hled1 := layNew_led t es (hashStr w x) (.str x t0)
  generalize hL : layNew t es (hashStr w x) (.str x t0) = L at hperm hfits hled1 ⊢
  obtain ⟨es1, t1, wasDummy, gave⟩ := L
  dsimp only at hperm hfits hled1 ⊢
  rw [Array.toList_push] at hperm
  obtain ⟨ys1, hel1, pm1⟩ := SRs.perm hperm (hel.append (.cons ok .nil))
  have hsz1 : es1.size = es.size + 1 := by rw [← Array.length_toList, hperm.length_eq, List.length_append, Array.length_toList]; rfl
  have hb1' : es1.size < scanBound := by lia
  have pmx : ys1.Perm (xs ++ [x]) := pm1.trans (pm.append_right _)
  have ndx : (xs ++ [x]).Nodup := by
   rw [List.nodup_append]
   refine ⟨nd, List.nodup_cons.mpr ⟨by simp, List.nodup_nil⟩, fun a ha b hb => ?_⟩
   rw [List.mem_singleton.mp hb]; exact fun e => hx (e ▸ ha)
  have estep : stepAdd xs x = xs ++ [x] := by unfold stepAdd; rw [if_neg hx]
  refine wpAny_bind (hgw _ ?_)
  have tail : ∀ {t2 : SetTable}, t2.fits es1.size = true → (w.params.followText "set-order" = true ∨ t2.led = true) → t2.plain = false → ∀ {g : Bool → Sem Unit}, (∀ (b : Bool) (s₁ : Shared) (Q' : Unit → Shared → Prop), Q' () s₁ → wpAny (model prog w) A (g b) Q' E s₁) →
    wpAny (model prog w) A (do
     storeSet a es1 t2
     if (!wasDummy && t2.tooFull) = true then do
       g (relayAll t2 es1 (SetTable.grown es1.size)).2.2
       storeSet a (relayAll t2 es1 (SetTable.grown es1.size)).1 (relayAll t2 es1 (SetTable.grown es1.size)).2.1
       pure (some true)
      else pure (some true)) (fun r s' => wpAny (model prog w) A (match r with | some added => pure added | none => setAddHashedIn a (.str x t0) (hashStr w x) 99999) Q E s') E s := by
   intro t2 hf2 hl2 hp2 g hg
   refine wpAny_bind (wpAny_storeSet_of ho rfl ?_ (fits_of_scanBound hb1'))
   have ho1 : (s.heap.update a (Obj.putSet es1 t2)).get? a = some { cls := .type "set", data := .set es1 (ep + 1) t2 } := by
    have := Heap.get?_update_self (Obj.putSet es1 t2) ho (by rw [putSet_of es1 t2 rfl]; rfl)
    rw [putSet_of es1 t2 rfl] at this; exact this
   have hsb1 := Heap.SameBut.update s.heap a (Obj.putSet es1 t2)
   split
   ·have hp := relayAll_perm t2 es1 (SetTable.grown es1.size)
    have hfr := relayAll_fits t2 es1 (SetTable.grown es1.size)
    have hlr := relayAll_led t2 es1 (SetTable.grown es1.size)
    have hpr := relayAll_plain t2 es1 (SetTable.grown es1.size) hp2
    generalize hRl : relayAll t2 es1 (SetTable.grown es1.size) = Rl at hp hfr hlr hpr ⊢
    obtain ⟨es2, t3, gave2⟩ := Rl
    dsimp only at hp hfr hlr hpr ⊢
    obtain ⟨ys2, hel2, pm2⟩ := SRs.perm hp hel1
    have hsz : es2.size = es1.size := by rw [← Array.length_toList, hp.length_eq, Array.length_toList]
    refine wpAny_bind (hg _ _ _ ?_)
    refine wpAny_bind (wpAny_storeSet_of ho1 rfl ?_ (fits_of_scanBound (by lia)))
    have ho2 : ((s.heap.update a (Obj.putSet es1 t2)).update a (Obj.putSet es2 t3)).get? a = some { cls := .type "set", data := .set es2 (ep + 1 + 1) t3 } := by
     have := Heap.get?_update_self (Obj.putSet es2 t3) ho1 (by rw [putSet_of es2 t3 rfl]; rfl)
     rw [putSet_of es2 t3 rfl] at this; exact this
    refine wpAny_pure (wpAny_pure (h _ _ (hsb1.trans (Heap.SameBut.update _ a _)) ?_))
    rw [estep]
    exact ⟨es2, _, t3, ys2, ho2, hel2, pm2.trans pmx, ndx, by lia, hfr, hlr ▸ hl2, fun _ => hpr⟩
   ·refine wpAny_pure (wpAny_pure (h _ _ hsb1 ?_))
    rw [estep]
    exact ⟨es1, _, t2, ys1, ho1, hel1, pmx, ndx, hb1', hf2, hl2, fun _ => hp2⟩
  have hl1 : w.params.followText "set-order" = true ∨ t1.led = true := hled1 ▸ hled
  split
  ·refine wpAny_bind ?_
   rw [hashByValue_scannable 8 hsc]
   refine wpAny_pure ?_
   refine tail (t2 := { t1 with plain := false }) ?_ hl1 rfl ?_
   ·exact SetTable.fits_plain_off hfits
   ·intro b s₁ Q' hq; cases b <;> first | exact wpAny_pure hq | exact wpAny_rule hq
  ·rename_i hpn
   refine wpAny_bind (wpAny_pure ?_)
   simp only [↓reduceIte]
   refine tail hfits hl1 (by simpa using hpn) ?_
   intro b s₁ Q' hq; cases b <;> first | exact wpAny_pure hq | exact wpAny_rule hq
end
end Mine
end
-- text A16
section
namespace Mine
open PySem PySem.Calls PyProof.Rows
set_option maxRecDepth 100000
section
variable {prog : Program} {w : World} {A : Around} {E : Value → Shared → Prop} {s : Shared}
theorem set_new_1 (a : Value) {Q₁ : Value → Shared → Prop}
  (h : Q₁ (.ref s.heap.objs.size) { s with heap := s.heap.push { cls := .type "set", dict := none, data := .set #[] 0 (.fresh 0 0 (!w.params.followText "set-order")) } }) :
  codeAny (model prog w) A (.call (.builtin "set.__new__") ⟨[.type "set", a], []⟩) (wants Q₁ E) s := by
 refine codeAny_of_tree ?_
 show wpAny _ A.in1 (do checkBuiltinCall "set.__new__" ⟨[.type "set", a], []⟩; again (.builtin "set.__new__" ⟨[.type "set", a], []⟩)) _ _ s
 refine wpAny_bind (wpAny_of_eq (PySem.F.newCall_set_1 a) (wpAny_pure ⟨plainId_quiet PySem.F.plain_set_new _, codeAny_builtin PySem.F.entry_set_new ?_⟩))
 rw [Around.under_plainId PySem.F.plain_set_new _]
 unfold Builtin.«set.__new__» Builtin.Frozenset.newClass
 have hsub := sub_set_self
 obtain ⟨hp, g, d, tk, os⟩ := s
 dsimp only
 wp_walk
 refine wpAny_askSetting (wpAny_pure ?_)
 dsimp only
 simp only [newObj]
 refine wpAny_bind (wpAny_alloc (wpAny_pure ?_))
 exact wpAny_pure h
noncomputable def firstS (xs : List Str) (i : Nat) : List Str := dedup (xs.take i)
theorem firstS_succ {xs : List Str} {i : Nat} {x : Str} (h : xs[i]? = some x) : firstS xs (i + 1) = stepAdd (firstS xs i) x := by
 unfold firstS dedup
 rw [List.take_add_one, h, List.foldl_append]; rfl
theorem stepAdd_le (xs : List Str) (x : Str) : (stepAdd xs x).length ≤ xs.length + 1 := by
 unfold stepAdd; split <;> simp
theorem firstS_le (xs : List Str) : ∀ i, (firstS xs i).length ≤ i
 | 0 => by simp [firstS, dedup]
 | i + 1 => by
  cases h : xs[i]? with
  | none =>
   have : firstS xs (i + 1) = firstS xs i := by unfold firstS; rw [List.take_add_one, h]; simp
   rw [this]; exact Nat.le_succ_of_le (firstS_le xs i)
  | some x => rw [firstS_succ h]; exact Nat.le_trans (stepAdd_le _ _) (Nat.succ_le_succ (firstS_le xs i))
theorem StrSetAt.of_get {h h' : Heap} {a : Addr} {xs : List Str} (x : StrSetAt w h a xs) (e : ∀ o, h.get? a = some o → h'.get? a = some o) : StrSetAt w h' a xs := by
 obtain ⟨es, ep, t, ys, h1, r2, r3, r4, r5, r6, r7, r8⟩ := x; exact ⟨es, ep, t, ys, e _ h1, r2, r3, r4, r5, r6, r7, r8⟩
theorem set_loop {R : Result → Shared → Prop} {I : Addr} {fp wr : List Addr} {G : Array GenState → Array GenState → Prop} {n : Nat} {P : Nat → Value → Prop} {St : Nat → Shared → Prop}
  (W : WalksS prog w A.in1 I fp wr G n P St) (Sa : Addr) (hSf : Sa ∉ fp) (xs : List Str) (hn : xs.length = n)
  (hval : ∀ i v, P i v → ∃ x t, xs[i]? = some x ∧ v = .str x t ∧ PyData.strOk x = true) (hb : n + 1 < scanBound) :
  ∀ (k i : Nat) (s : Shared), n - i = k → i ≤ n → St i s → StrSetAt w s.heap Sa (firstS xs i) →
   (∀ s', Moved (Sa :: wr) G s s' → StrSetAt w s'.heap Sa (firstS xs n) → R (.ok (.ret .none)) s') →
   codeAny (model prog w) A (.builtin "set.update.loop" ⟨[.ref Sa, .ref I], []⟩) R s := by
 have hSw : Sa ∉ wr := fun h => hSf (W.sub _ h)
 have hsub : ∀ b ∈ wr, b ∈ Sa :: wr := fun b hb => List.mem_cons_of_mem _ hb
 intro k
 induction k with
 | zero =>
  intro i s hk hi hst hS hR
  have hin : i = n := by lia
  subst hin
  refine codeAny_builtin PyProof.Rows.F.entry_set_update_loop ?_
  rw [Around.under_plainId PyProof.Rows.F.plain_set_update_loop _]
  show wpAny _ A.in1 (pyNext (.ref I) >>= _) _ _ s
  refine wpAny_bind (W.done s _ _ hst fun s' hm => ?_)
  show wpAny _ A.in1 (ret Value.none) _ _ s'
  exact wpAny_pure (hR s' (hm.mono hsub) (hS.of_get fun o e => hm.heap Sa _ hSw e))
 | succ k ih =>
  intro i s hk hi hst hS hR
  have hlt : i < n := by lia
  refine codeAny_builtin PyProof.Rows.F.entry_set_update_loop ?_
  rw [Around.under_plainId PyProof.Rows.F.plain_set_update_loop _]
  show wpAny _ A.in1 (pyNext (.ref I) >>= _) _ _ s
  refine wpAny_bind (W.item i s _ _ hlt hst fun v s' hP hst' hm => ?_)
  obtain ⟨x, t, hx, rfl, ok⟩ := hval i v hP
  have hS' : StrSetAt w s'.heap Sa (firstS xs i) := hS.of_get fun o e => hm.heap Sa _ hSw e
  show wpAny _ A.in1 (holding [Value.str x t] (setAdd Sa (.str x t)) >>= _) _ _ s'
  refine wpAny_bind (wpAny_holding ?_)
  unfold setAdd
  refine wpAny_holding ?_
  refine wpAny_bind ((PySem.strKind prog w).pyHash (k := x) (by simp [PySem.strKind, Value.isStrOf]) ?_)
  have hroom : (firstS xs i).length + 1 < scanBound := by have := firstS_le xs i; lia
  refine setAdd_str (s := { s' with toks := s'.toks + 1 }) ok hS' hroom fun r h' hsb hS2 => ?_
  have hSi : StrSetAt w h' Sa (firstS xs (i + 1)) := by rw [firstS_succ hx]; exact hS2
  refine wpAny_pure ⟨plainId_quiet PyProof.Rows.F.plain_set_update_loop _, ih (i + 1) _ (by lia) hlt (W.frame _ s' _ _ hst' (Nat.le_succ _) fun b hb o e => ?_) hSi fun s'' hm'' hS'' => ?_⟩
  ·rw [hsb.2 b (fun h : b = Sa => hSf (by rw [← h]; exact hb))]; exact e
  ·refine hR s'' (Moved.trans W.gtrans ((hm.mono hsub).then_heap (Nat.le_succ _) fun b o hb e => ?_) hm'') hS''
   rw [hsb.2 b (fun h : b = Sa => hb (by rw [h]; exact List.mem_cons_self))]; exact e
theorem fresh_set {h : Heap} {a : Addr} (hg : h.get? a = some { cls := .type "set", dict := none, data := .set #[] 0 (.fresh 0 0 (!w.params.followText "set-order")) }) : StrSetAt w h a [] := by
 refine ⟨#[], 0, _, [], hg, .nil, .refl _, List.nodup_nil, by decide, rfl, ?_, fun h => absurd rfl h⟩
 cases q : w.params.followText "set-order" with
 | true => exact .inl rfl
 | false => exact .inr rfl
set_option maxHeartbeats 3200000 in
theorem call_set_strs {l : Addr} {vs : List Value} {n0 : Nat} {xs : List Str} {Q : Value → Shared → Prop}
  (hh : A.handled = none) (hl0 : s.heap.get? l = some { cls := .type "list", data := .seq vs.toArray n0 }) (hi : VRs vs (xs.map AV.str)) (hb : vs.length + 1 < scanBound)
  (h : ∀ (h' : Heap) (tk : Nat), StrSetAt w h' s.heap.objs.size (dedup xs) →
   (∀ b o, s.heap.get? b = some o → h'.get? b = some o) → Q (.ref s.heap.objs.size) { s with heap := h', toks := tk }) :
  wpAny (model prog w) A (call (.type "set") [.ref l]) Q E s := by
 have hl : s.heap.IsList l vs.toArray := ⟨_, hl0, rfl, n0, rfl⟩
 obtain ⟨c, tl, hmro⟩ := PySem.F.called_set.mro
 have hmade := PySem.F.called_set.made
 have hsub := PySem.F.called_set.sub
 refine wpAny_call (codeAny_of_tree ?_)
 show wpAny _ _ (callAny (.type "set") _) _ _ _
 refine wpAny_pure ⟨Code.quiet_builtin _ (by decide +kernel), codeAny_builtin PySem.F.entry_type_call ?_⟩
 rw [Around.under_plain (weight_type_call_type "set" [.ref l] []) rfl]
 have h1 := PySem.F.called_set.notType
 have h2 := PySem.F.called_set.canCreate
 have hct := PySem.F.typeCall_set_1 (.ref l)
 repeat (any_goals (first | assumption | wp_step))
 refine codeAny_mono (set_new_1 (.ref l) (E := E) (Q₁ := fun obj s₁ => obj = .ref s.heap.objs.size ∧ s₁ = { s with heap := s.heap.push { cls := .type "set", dict := none, data := .set #[] 0 (.fresh 0 0 (!w.params.followText "set-order")) } }) ⟨rfl, rfl⟩) fun r s₁ hr => ?_
 cases r with
 | error e => exact hr
 | ok fl =>
  cases fl with
  | ret obj =>
   obtain ⟨rfl, rfl⟩ := hr
   generalize hled : (!w.params.followText "set-order") = led
   have hS : (s.heap.push { cls := .type "set", dict := none, data := .set #[] 0 (.fresh 0 0 led) }).get? s.heap.objs.size = some { cls := .type "set", dict := none, data := .set #[] 0 (.fresh 0 0 led) } := Heap.get?_push_size _ rfl
   have hT : Shared.TypeIs { s with heap := s.heap.push { cls := .type "set", dict := none, data := .set #[] 0 (.fresh 0 0 led) } } (.ref s.heap.objs.size) "set" := ⟨_, hS, rfl⟩
   have hli := PySem.F.called_set.init.lookup
   have hbi := PySem.F.called_set.init.bind (.ref s.heap.objs.size)
   repeat (any_goals (first | assumption | wp_step))
   refine codeAny_mono (codeAny_call_builtin (R := wants (fun r s₂ => r = .none ∧ ∃ h' tk, s₂ = { s with heap := h', toks := tk } ∧
     StrSetAt w h' s.heap.objs.size (dedup xs) ∧
     (∀ b o, s.heap.get? b = some o → h'.get? b = some o)) E) PySem.F.called_set.init.plain PySem.F.entry_set_init (check_set_init_1 hT ?_)) fun r₂ s₂ hr₂ => ?_
   ·have hol' : (s.heap.push { cls := .type "set", dict := none, data := .set #[] 0 (.fresh 0 0 led) }).get? l = some { cls := .type "list", dict := none, data := .seq vs.toArray n0, slots := #[] } := Heap.get?_push_of_some _ hl0
    have hsls := PySem.F.sub_list_set
    have hslf := PySem.F.sub_list_frozenset
    have hne : (Value.type "list" == Value.type "dict") = false := by decide
    have hl1 : (s.heap.push { cls := .type "set", dict := none, data := .set #[] 0 (.fresh 0 0 led) }).IsList l vs.toArray := ⟨_, hol', rfl, n0, rfl⟩
    unfold Builtin.«set.__init__» noKeywords Builtin.Frozenset.updateFrom
    generalize hPI : pyIter = PI
    wp_walk
    subst hPI
    refine wpAny_pyIter_list hl1 ?_
    refine wpAny_bind (wpAny_runValue ?_)
    have hlS : l < s.heap.objs.size := Heap.lt_size hl0
    have hh3 : A.in1.in1.in1.handled = none := by simp [hh]
    have hneI : l ≠ (s.heap.push { cls := .type "set", dict := none, data := .set #[] 0 (.fresh 0 0 led) }).objs.size := by
     rw [Heap.size_push]; exact Nat.ne_of_lt (Nat.lt_succ_of_lt hlS)
    have hSf : s.heap.objs.size ∉ [(s.heap.push { cls := .type "set", dict := none, data := .set #[] 0 (.fresh 0 0 led) }).objs.size, l] := by
     rw [Heap.size_push]; simp only [List.mem_cons, List.mem_singleton, List.not_mem_nil, or_false, not_or]
     exact ⟨Nat.ne_of_lt (Nat.lt_succ_self _), Nat.ne_of_gt hlS⟩
    have hval : ∀ (i : Nat) (v : Value), vs.toArray[i]? = some v → ∃ x t, xs[i]? = some x ∧ v = .str x t ∧ PyData.strOk x = true := fun i v hv => by
     obtain ⟨a, e1, r1⟩ := hi.getV (by simpa using hv)
     rw [List.getElem?_map] at e1
     cases hx : xs[i]? with
     | none => rw [hx] at e1; cases e1
     | some x =>
      rw [hx] at e1; cases e1
      obtain ⟨t, rfl, ok⟩ := r1.str_inv
      exact ⟨x, t, rfl, rfl, ok⟩
    have hlen : xs.length = vs.toArray.size := by have := hi.length; rw [List.length_map] at this; rw [List.size_toArray, this]
    have efin : firstS xs vs.toArray.size = dedup xs := by unfold firstS; rw [← hlen, List.take_length]
    refine set_loop ((Walks.list hh3 _ l hneI vs.toArray).toS) s.heap.objs.size
     hSf xs hlen hval (by rw [List.size_toArray]; exact hb) (vs.toArray.size - 0) 0 _ (by lia) (Nat.zero_le _)
     ⟨⟨_, Heap.get?_push_size _ rfl, rfl, rfl⟩, (hl1.push _)⟩ ?hS0 ?hR
    case hS0 =>
     have hget : ((s.heap.push { cls := .type "set", dict := none, data := .set #[] 0 (.fresh 0 0 led) }).push { cls := .type "list_iterator", data := .fields #[.ref l, .int 0 0] }).get? s.heap.objs.size
       = some { cls := .type "set", dict := none, data := .set #[] 0 (.fresh 0 0 led) } := Heap.get?_push_of_some _ hS
     rw [← hled] at hget ⊢
     exact fresh_set hget
    case hR =>
     intro s' hm hS'
     rw [efin] at hS'
     obtain ⟨h', g', d', tk', os'⟩ := s'
     have eg : g' = s.gens := hm.gens
     have ed : d' = s.drawn := hm.drawn
     have eo : os' = s.os := hm.os
     subst eg; subst ed; subst eo
     show wpAny _ _ _ _ _ _
     refine wpAny_pure ?_
     show wpAny _ _ (ret Value.none) _ _ _
     refine wpAny_pure ⟨rfl, h', tk', rfl, hS', fun b o e => ?_⟩
     have hb : b < s.heap.objs.size := Heap.lt_size e
     have hb1 : b ≠ s.heap.objs.size := Nat.ne_of_lt hb
     have hb2 : b ≠ (s.heap.push { cls := .type "set", dict := none, data := .set #[] 0 (.fresh 0 0 led) }).objs.size := by
      rw [Heap.size_push]; exact Nat.ne_of_lt (Nat.lt_succ_of_lt hb)
     exact hm.heap b o (by simp only [List.mem_cons, List.mem_singleton, List.not_mem_nil, or_false, not_or]; exact ⟨hb1, hb2⟩) (Heap.get?_push_of_some _ (Heap.get?_push_of_some _ e))
   ·cases r₂ with
    | error e => exact hr₂
    | ok fl₂ =>
     cases fl₂ with
     | ret r =>
      obtain ⟨rfl, h', tk, rfl, hS', hk'⟩ := hr₂
      repeat (any_goals (first | assumption | wp_step))
      exact h _ _ hS' hk'
     | _ => exact hr₂
  | _ => exact hr
end
end Mine
end
-- text A17
section
namespace Mine
open PySem PySem.Calls PyProof.Rows PySem.W
noncomputable def ltS (x y : Str) : Bool := decide (x.cps.toList < y.cps.toList)
noncomputable def ltL : List Str → List Str → Bool
 | [], [] => false
 | [], _ :: _ => true
 | _ :: _, [] => false
 | a :: r, b :: q => if a = b then ltL r q else ltS a b
noncomputable def insB {α : Type} (lt : α → α → Bool) (x : α) : List α → List α
 | [] => [x]
 | y :: r => if lt x y = true then x :: y :: r else y :: insB lt x r
noncomputable def isort {α : Type} (lt : α → α → Bool) : List α → List α
 | [] => []
 | x :: r => insB lt x (isort lt r)
noncomputable def sortS (xs : List Str) : List Str := isort ltS xs
noncomputable def sortI (xs : List Int) : List Int := isort (fun a b => decide (a < b)) xs
inductive bSetK (vs : List AV) (H : AH) (Q : QV) : Prop
 | mk (a) (xs) : (vs = [.ref a]) → (H a = some (.list (List.map AV.str xs))) → (xs.length ≤ 4000) → (∀ r, H r = none → Q (.ref r) (H.put r (.sset (dedup xs)))) → bSetK vs H Q
noncomputable def bSet : BFn := fun vs H Q => bSetK vs H Q
theorem bSet_ok {S : St} : BFnOK S true (.type "set") bSet := by
 rintro C A vs avs H Q E s hh hu r I ⟨a, xs, rfl, ha, hl, h⟩
 obtain ⟨_, rfl, r0⟩ := r.one
 cases r0.ref_inv
 obtain ⟨ws, n, g, q, _⟩ := I.list ha
 have e := q.length
 rw [List.length_map] at e
 refine call_set_strs (hh rfl) g q (by show ws.length + 1 < 4096; lia) fun h' tk hS hk => ⟨_, _, .ref _, ?_, h _ I.nextNone⟩
 exact I.add (s' := { s with heap := h', toks := tk }) (o := .sset (dedup xs)) (Heap.get?_none_of_le (Nat.le_refl _)) hk hS rfl rfl
noncomputable def bSorted : BFn := fun vs H Q => OneGot vs H fun o => match o with
 | .sset xs => xs.length < 64 ∧ ∀ r, H r = none → Q (.ref r) (H.put r (.list ((sortS xs).map AV.str)))
 | .idict es => es.length < 64 ∧ ∀ r, H r = none → Q (.ref r) (H.put r (.list ((sortI (es.map (·.1))).map AV.int)))
 | .list vs => ∃ xs, vs = List.map AV.str xs ∧ xs.length < 64 ∧ ∀ r, H r = none → Q (.ref r) (H.put r (.list ((sortS xs).map AV.str)))
 | _ => False
noncomputable def fnAt (K : Frag) (a : Addr) : Option FuncData := match K.lookup a with
 | some ⟨_, _, .func fd, _⟩ => some fd
 | _ => none
noncomputable def bodyOf (fd : FuncData) : List Stmt := match fd.body with
 | .stmts b => b
 | _ => []
noncomputable def bodyAt (K : Frag) (a : Addr) : List Stmt := ((fnAt K a).map bodyOf).getD []
noncomputable def scopeAt (K : Frag) (a : Addr) : Scope := ((fnAt K a).map (·.scope)).getD default
noncomputable def scAt (K : Frag) (a : Addr) : Kd := fun x => (scopeAt K a).names.lookup x
theorem fnAt_get {K : Frag} {h : Heap} (X : K.In h) {a : Addr} {fd : FuncData} (e : fnAt K a = some fd) : ∃ o, h.get? a = some o ∧ o.data = .func fd := by
 unfold fnAt at e
 split at e
 ·rename_i c d fd' sl hl
  cases e
  exact ⟨_, X _ _ hl, rfl⟩
 ·cases e
theorem isDef_of {S : St} {K : Frag} (X : K.In S.base) {a cd : Addr} {ps : List Str} {fd : FuncData} (e : fnAt K a = some fd) (hb : ∃ b, fd.body = .stmts b) (hc : fd.closure = []) (hg : fd.globals = mainGlobals) (hbl : fd.builtins = builtinsNs)
  (hcd : fd.code = .ref cd) (hcr : ∃ o vs t, K.lookup cd = some o ∧ o.data = .fields vs ∧ vs[1]? = some (.str fd.qualname t))
  (hps : ∀ vals : List Value, vals.length = ps.length → bindArgs fd ⟨vals, []⟩ = pure (ps.zip vals)) : IsDef S a fd.name ps (scopeAt K a) (bodyAt K a) := by
 obtain ⟨o, h1, h2⟩ := fnAt_get X e
 obtain ⟨b, hb⟩ := hb
 obtain ⟨oc, vs, t, c1, c2, c3⟩ := hcr
 refine ⟨o, fd, h1, h2, ?_, ?_, hc, hg, hbl, ⟨cd, oc, vs, t, hcd, X _ _ c1, c2, c3⟩, hps, rfl⟩
 ·unfold bodyAt; rw [e]; simp [bodyOf, hb]
 ·unfold scopeAt; rw [e]; rfl
theorem bind1 {fd : FuncData} {a : Str} (h : ∀ v, bindArgs fd ⟨[v], []⟩ = pure [(a, v)]) (vals : List Value) (hl : vals.length = [a].length) : bindArgs fd ⟨vals, []⟩ = pure ([a].zip vals) := by
 obtain ⟨v, rfl⟩ := List.length_eq_one_iff.mp hl
 exact h v
theorem bind2 {fd : FuncData} {a b : Str} (h : ∀ v w, bindArgs fd ⟨[v, w], []⟩ = pure [(a, v), (b, w)]) (vals : List Value) (hl : vals.length = [a, b].length) : bindArgs fd ⟨vals, []⟩ = pure ([a, b].zip vals) := by
 cases vals with
 | nil => cases hl
 | cons v r =>
  obtain ⟨w, rfl⟩ := List.length_eq_one_iff.mp (Nat.succ.inj hl)
  exact h v w
theorem SoundF.mono {S : St} {b : Bool} {d : Nat} {f : Value} {F G : Fn} (h : SoundF S b d f F) (k : ∀ vs H Q X, G vs H Q X → F vs H Q X) : SoundF S b d f G :=
 fun C A vs avs H Q X s R F' hv I g => h C A vs avs H Q X s R F' hv I (k _ _ _ _ g)
theorem SoundF.deeper {S : St} {b : Bool} {d e : Nat} {f : Value} {F : Fn} (h : SoundF S b d f F) (k : d ≤ e) : SoundF S b e f F :=
 fun C A vs avs H Q X s R F' hv I g => h C A vs avs H Q X s ⟨R.hd, by have := R.depth; lia, by have := R.units; lia⟩ F' hv I g
noncomputable def rhoOK (ρ : Rho) : Bool := ρ.all fun p => ρ.all fun q => (p.1 == q.1) == (p.2 == q.2)
theorem rho_ok {ρ : Rho} (h : rhoOK ρ = true) : RhoOK ρ := by
 intro p hp q hq
 have h1 := List.all_eq_true.mp (List.all_eq_true.mp h p hp) q hq
 have h2 : (p.1 == q.1) = (p.2 == q.2) := by simpa using h1
 constructor
 ·intro e
  have : (p.1 == q.1) = true := by simpa using e
  rw [h2] at this; simpa using this
 ·intro e
  have : (p.2 == q.2) = true := by simpa using e
  rw [← h2] at this; simpa using this
noncomputable def compAt (scope : Scope) (sc : Kd) (ρ : Rho) (x : Str) (i : Nat) : Bool :=
 (scope.kind == .function) && (scope.names.lookup x == some .local || scope.names.lookup x == some .cell) && (scope.names.all fun p => !(p.2 == .free) || (sc p.1 == some .cell || sc p.1 == some .free)) &&
 decide ((scope.names.map (·.1)).Nodup) && (ρ.all fun p => p.2 != i) && rhoOK ρ
theorem comp_at {scope : Scope} {sc : Kd} {ρ : Rho} {x : Str} {i : Nat} (h : compAt scope sc ρ x i = true) : CompAt scope sc ρ x i := by
 simp only [compAt, Bool.and_eq_true, Bool.or_eq_true, beq_iff_eq, decide_eq_true_eq, List.all_eq_true, bne_iff_ne, Bool.not_eq_true', beq_eq_false_iff_ne] at h
 obtain ⟨⟨⟨⟨⟨h1, h2⟩, h3⟩, h4⟩, h5⟩, h6⟩ := h
 exact ⟨h1, h2, fun p hp e => (h3 p hp).resolve_left fun q => q e, fun z hz e => by rw [← e]; exact nodup_lookup h4 hz, h4, h5, rho_ok h6⟩
theorem or_kd {o : Option NameKind} (h : (o == some .local || o == some .cell) = true) : o = some .local ∨ o = some .cell := by simpa using h
noncomputable def defOK (sc : Scope) (ps : List Str) (is : List Nat) (ρ : Rho) : Bool :=
 decide ps.Nodup && decide is.Nodup && rhoOK ρ && ((ps.zip is).all fun p => ρ.any (· == p)) && (ps.length == is.length) && (ps.all fun p => sc.names.lookup p == some .local || sc.names.lookup p == some .cell) &&
 decide ((sc.names.map (·.1)).Nodup) && (sc.names.all fun p => p.2 != .free) && (sc.kind == .function) && !sc.isCoroutine && !sc.isGenerator
theorem sF_defK {S : St} {b : Bool} {d : Nat} {ρ : Rho} {f : Addr} {name : Str} {ps : List Str} {is : List Nat} {sc : Scope} {body : List Stmt} {t : Ts} (K : StOK S) (hf : IsDef S f name ps sc body) (h : defOK sc ps is ρ = true) (hb : SoundS S b d (fun x => sc.names.lookup x) ρ body t) :
  SoundF S b (d + 1) (.ref f) (mkFn is t) := by
 simp only [defOK, Bool.and_eq_true, decide_eq_true_eq, List.all_eq_true, List.any_eq_true, beq_iff_eq, Bool.or_eq_true, bne_iff_ne, Bool.not_eq_true'] at h
 obtain ⟨⟨⟨⟨⟨⟨⟨⟨⟨⟨h1, h2⟩, h3⟩, h4⟩, h5⟩, h6⟩, h7⟩, h8⟩, h9⟩, h10⟩, h11⟩ := h
 exact sF_def K hf hb h1 h2 (rho_ok h3) (fun p hp => by obtain ⟨q, w1, w2⟩ := h4 p hp; rw [← w2]; exact w1) h5 h6 h7 h8 h9 h10 h11
noncomputable def mgK (K : Frag) (x : Str) : Option Value := match K.lookup 3 with
 | some ⟨_, _, .dict es _, _⟩ => nsFind es x
 | _ => none
structure EnvL (S : St) (K : Frag) : Prop where
 KS : StOK S
 X : K.In S.base
 mg : ∀ x, S.mg x = mgK K x
 mb : ∀ x : Str, x ≠ "__name__" → S.mb x = bootBuiltins x
theorem EnvL.g {S : St} {K : Frag} (E : EnvL S K) {x : Str} {v : Option Value} (h : mgK K x = v) : S.mg x = v := (E.mg x).trans h
theorem EnvL.b {S : St} {K : Frag} (E : EnvL S K) {x : Str} {v : Option Value} (h0 : (x == ("__name__" : Str)) = false) (h : bootBuiltins x = v) : S.mb x = v := (E.mb x (by simpa using h0)).trans h
theorem isFn_of {K : Frag} {h : Heap} (X : K.In h) {a : Addr} (e : (fnAt K a).isSome = true) : ∃ o fd, h.get? a = some o ∧ o.data = .func fd := by
 obtain ⟨fd, e⟩ := Option.isSome_iff_exists.mp e
 obtain ⟨o, h1, h2⟩ := fnAt_get X e
 exact ⟨o, fd, h1, h2⟩
theorem sE_callD {S : St} {b : Bool} {d : Nat} {sc : Kd} {ρ : Rho} {f : Str} {a : Addr} {args : List Expr} {p pos : Pos} {F : Fn} {ts : Tms} (K : StOK S) (hF : SoundF S b d (.ref a) F) (h1 : SoundEs S b d sc ρ args ts) (hx : sc f = some .globalImplicit)
  (hv : S.mg f = some (.ref a)) (ho : ∃ o fd, S.base.get? a = some o ∧ o.data = .func fd) (hd : (f == ("__debug__" : Str)) = false) (hs : noStar args = true) :
  SoundE S b d sc ρ (.Call (.Name f p) args [] pos) (tCall F ts) := by
 obtain ⟨o, fd, h2, h3⟩ := ho
 exact sE_call K hF h1 hx hv h2 h3 hd hs
noncomputable def avOf : Value → Option AV
 | .none => some .none
 | .bool b => some (.bool b)
 | .int i _ => some (.int i)
 | .str x _ => if PyData.strOk x = true then some (.str x) else none
 | _ => none
theorem sE_constK {S : St} {b : Bool} {d : Nat} {sc : Kd} {ρ : Rho} {K : Frag} {x : Str} {pos : Pos} {av : AV} (E : EnvL S K) (hx : sc x = some .globalImplicit) (hv : (mgK K x).bind avOf = some av) (hd : (x == ("__debug__" : Str)) = false) :
  SoundE S b d sc ρ (.Name x pos) (tVal av) := by
 cases e : mgK K x with
 | none => rw [e] at hv; cases hv
 | some v =>
  rw [e] at hv
  refine sE_const E.KS hx (E.g e) ?_ hd
  cases v <;> simp [avOf] at hv
  ·subst hv; exact .none
  ·subst hv; exact .bool _
  ·subst hv; exact .int _ _
  ·obtain ⟨ok, rfl⟩ := hv; exact .str _ _ ok
end Mine
end
-- text A19
section
namespace Mine
open PySem PySem.Calls PyProof.Rows PySem.W
section
variable {S : St} {b : Bool} {d : Nat} {sc : Kd} {ρ : Rho}
noncomputable def tRaise (x : Str) (ts : Tms) : Ts := fun m H _ _ X => ts m H (fun vs H1 => vs.length ≤ 10 ∧ X x H1) X
theorem sT_raise {f : Str} {C0 : Addr} {args : List Expr} {np cpos pos : Pos} {bmB : List Value} {B newId initId : String} {ts : Tms} (K : StOK S) (Ow : OwnCls f C0 bmB newId S.mg S.base) (FB : ExcBaseFacts B newId initId bmB) (hX : S.excs f = some C0)
  (h1 : SoundEs S true d sc ρ args ts) (hx : sc f = some .globalImplicit) (hd : (f == ("__debug__" : Str)) = false) (hs : noStar args = true) :
  SoundT S true d sc ρ (.Raise (some (.Call (.Name f np) args [] cpos)) none pos) (tRaise f ts) := by
 intro C A env m H QN QR X E s R O hc hk' V I h hE
 obtain ⟨tl, N, nm, q, bs, hdct, sn, sub, ab, col, dd, k0, k1, k2, k3, k5, mN, hC, hN, hni, T⟩ := Ow.obj
 refine wpAny_Raise_call_subT (C := C0) (nm := nm) (q := q) (N := N) (bs := bs) (bm := tl) (hdct := hdct) (sn := sn) (sub := sub) (ab := ab) (col := col) (dd := dd) (k0 := k0) (k1 := k1) (k2 := k2) (k3 := k3) (k5 := k5)
  FB (mN := mN) (T.hasType FB.hasBase) (R.hd rfl) (backTo_any hs) hni (load_global K O I ((hk' f).trans hx) Ow.bound hd ⟨rfl, ?_⟩)
 refine evalArgs_of hs (wpAny_mono (h1 C A env m H _ X E s cpos R O hk' V I h (hE.ex O)) ?_ fun _ _ x => x)
 rintro vs s2 ⟨avs, H2, r2, I2, hl, q2⟩
 have e := r2.length
 refine ⟨rfl, ?_, I2.base _ _ hC, hN.keeps I2.base, T.keeps I2.base, fun h' e hm => hE C f H2 (.ref e) { s2 with heap := h' } (.refl env C) O q2 ?_⟩
 ·show vs.length ≤ sizeLine
  have : sizeLine = 16777216 := rfl
  lia
 ·obtain ⟨t, w1, w2, w3⟩ := hm.there
  obtain ⟨f1, f2, f3⟩ := I2.fresh hm.new
  exact ⟨e, rfl, I2.grow (s' := { s2 with heap := h' }) hm.keeps rfl rfl, ⟨_, _, C0, w1, hX, rfl, rfl, Nat.lt_of_lt_of_le (by decide : 1 < 6) (Nat.le_of_eq rfl), ⟨_, rfl, fun _ => rfl⟩, .inl rfl⟩, f3, f2, f1⟩
noncomputable def Catches (S : St) (g : Addr) (x : Str) : Prop := ∀ (C0 : Addr) (h : Heap) (e : Addr) (oe : Obj), S.excs x = some C0 → (∀ b o, S.base.get? b = some o → h.get? b = some o) → h.get? e = some oe → oe.cls = .ref C0 → Looks S.M h (excMatches (.ref e) (.ref g)) true
inductive Hand (hit : List Str) (i : Nat) (th : Ts) (QR : QV) (x : Str) (H : AH) : Prop
 | mk : x ∈ hit → (∀ e, H e = none → th (Mp.upd (fun _ => none) i (.ref e)) (H.put e (.exc x)) (fun _ _ => False) QR (fun _ _ => False)) → Hand hit i th QR x H
noncomputable def tTry (tb : Ts) (hit : List Str) (i : Nat) (th : Ts) : Ts := fun m H QN QR X => tb m H QN QR (Hand hit i th QR)
theorem EnvOK.mark {C : Cx} {A : Around} {env : Env} (O : EnvOK S C A env) (v : Option Value) : EnvOK S C (A.mark v) env :=
 ⟨O.kind, O.glob, O.blt, O.cells, O.cellU, O.apart, O.loc, O.stack, O.fun_⟩
theorem EnvOK.unmark {C : Cx} {A : Around} {env : Env} {v : Option Value} (O : EnvOK S C (A.mark v) env) : EnvOK S C A env :=
 ⟨O.kind, O.glob, O.blt, O.cells, O.cellU, O.apart, O.loc, O.stack, O.fun_⟩
theorem sT_try {body suite : List Stmt} {b₀ : Stmt} {g n : Str} {G : Addr} {gp hp pos : Pos} {hit : List Str} {i : Nat} {tb th : Ts} (K : StOK S) (h1 : SoundS S true d sc ρ body tb) (h2 : SoundS S false d sc ρ (b₀ :: suite) th) (hρ : RhoOK ρ)
  (hg : sc g = some .globalImplicit) (hG : S.mg g = some (.ref G)) (hd : (g == ("__debug__" : Str)) = false) (hc : ∀ x ∈ hit, Catches S G x) (hn : ρ.lookup n = some i) (kn : sc n = some .local) :
  SoundT S true d sc ρ (.Try body [.ExceptHandler (some (.Name g gp)) (some n) (b₀ :: suite) hp] [] [] pos) (tTry tb hit i th) := by
 intro C A env m H QN QR X E s R O hce hk' V I h hE
 obtain ⟨outer, hce⟩ := hce
 refine wpAny_Try_except (wpAny_mono (h1 C A env m H QN QR _ (fun e s₁ => wpAny S.M A (noteFrame e env) (fun _ s₂ => wpAny S.M A (setFlight e none) (fun _ s₃ => wpAny S.M A (handleBy e env [.ExceptHandler (some (.Name g gp)) (some n) (b₀ :: suite) hp]) (PostS S C A env ρ QN QR) E s₃) E s₂) E s₁) s R O ⟨outer, hce⟩ hk' V I h ?_) ?_ fun _ _ x => x)
 ·intro C1 x H1 v s1 f1 O1 hx hr
  obtain ⟨hit1, hth⟩ := hx
  have hce1 : C1.envs = env :: outer := f1.envs.trans hce
  obtain ⟨_, L, _, hf, _⟩ := O1.fun_ env (by rw [hce1]; exact .head _)
  refine hr.note (.of_env O1) hce1 hf fun e s2 hv hh => ?_
  subst hv
  refine hh.flight fun s3 h3 => ?_
  refine wpAny_handleBy_cons (codeAny_handlers_test ?_) (by intro q; cases q)
  refine load_global K (O1.mark _) h3.inv ((hk' g).trans hg) hG hd ?_
  obtain ⟨oe, vs, C0, T, oT, ts, a0, w1, w2, w3, w4⟩ := h3.at_
  refine (hc x hit1 C0 s3.heap e oe w2 h3.inv.base w1 w3).here ?_
  show codeAny _ _ _ _ s3
  refine codeAny_handlers_suite_as ?_
  refine h3.flight fun s4 h4 => ?_
  obtain ⟨oe', vs', C0', T', oT', ts', a0', u1, u2, u3, u4⟩ := h4.at_
  have I4 : Inv S C1 (H1.put e (.exc x)) s4 := h4.inv.track ⟨h4.new.1, h4.new.2.2, h4.new.2.1⟩ ⟨oe', C0', u1, u2, u3⟩
  have V0 : EnvRel C1 env ρ (fun _ => none) := fun _ _ _ _ q => by cases q
  refine wpAny_mono (store_nm (O1.mark _) V0 I4 hρ (mem_of_lookup hn) (.ref e) (by rw [hk']; exact .inl kn)) ?_ fun _ _ x => x
  rintro _ s5 ⟨C5, a5, o5, w5, e5, O5, V5, I5⟩
  have f5 : FUpd env C1 C5 := .stored w5 e5
  have R5 : Room false d (A.mark (some (.ref e))) := ⟨fun q => (nomatch q), R.depth, R.units⟩
  refine wpAny_mono (h2 C5 (A.mark (some (.ref e))) env _ _ (fun _ _ => False) QR (fun _ _ => False) (fun _ _ => False) s5 R5 O5 ⟨outer, by rw [f5.envs]; exact hce1⟩ hk' V5 I5 (hth e h4.new.2.2) fun _ _ _ _ _ _ _ q _ => q.elim) ?_ fun _ _ x => x.elim
  rintro fl s6 ⟨C6, H6, f6, I6, q6⟩
  cases fl with
  | next => obtain ⟨_, _, _, q⟩ := q6; exact q.elim
  | brk => exact q6.elim
  | cont => exact q6.elim
  | ret v6 =>
   obtain ⟨O6, av, r6, q6⟩ := q6
   obtain ⟨o, m₀, hU, hN⟩ := O6.loc
   have hns : s6.heap.Ns env.locals m₀ := by
    obtain ⟨es, ep, hd, r1, r2⟩ := id hN
    rcases I6.keep _ _ hU with e | ⟨_, sl, e⟩
    ·exact ⟨o, es, ep, e, hd, r1, r2⟩
    ·exact ⟨_, es, ep, e, hd, r1, r2⟩
   refine wpAny_nameGoes ((hk' n).trans kn) hns (by rw [O.kind]; rfl) fun h' m' hn' sb => ?_
   obtain ⟨o', es', ep', ho', hd', sk', hf'⟩ := hn'
   have fl : FUpd env C6 (C6.hide env.locals o') := ⟨rfl, rfl, fun a w1 w2 => Cx.hide_ne _ _ w1⟩
   have I7 : Inv S (C6.hide env.locals o') H6 { s6 with heap := h', toks := s6.toks + 1 } := I6.turn hU (fun b ob hb e => (sb.2 b hb).trans e) ho' rfl rfl
   have O6' := O6.unmark
   refine ⟨C6.hide env.locals o', H6, ((f1.trans f5).trans f6).trans fl, I7, ⟨O6'.kind, O6'.glob, O6'.blt, O6'.cells, fun y c hc => ?_, O6'.apart, ⟨o', m', Cx.hide_self .., es', ep', hd', sk', hf'⟩, O6'.stack, fun en he => ?_⟩, av, r6, q6⟩
   ·obtain ⟨h1, h2, o2, v2, h3, h4⟩ := O6'.cellU y c hc
    exact ⟨h1, h2, o2, v2, (Cx.hide_ne _ _ h1).trans h3, h4⟩
   ·obtain ⟨h1, L, o2, h2, h3, h4, h5⟩ := O6'.fun_ en he
    by_cases q : L = env.locals
    ·exact ⟨h1, L, o', h2, h3, by rw [q]; exact Cx.hide_self .., fun vs z => by rw [hd'] at z; cases z⟩
    ·exact ⟨h1, L, o2, h2, h3, (Cx.hide_ne _ _ q).trans h4, h5⟩
 ·rintro fl s1 hp1
  cases fl with
  | next => exact wpAny_execs_nil hp1
  | _ => exact hp1
end
end Mine
end
-- text A20
section
set_option maxRecDepth 100000
namespace Mine
open PySem PySem.Calls PyProof.Rows PySem.W PySem.Builtin PySem.Builtin.Getset_descriptor PySem.Builtin.ObjectAttr
noncomputable def OfCls (h : Heap) (e C0 : Addr) : Prop := ∃ o, h.get? e = some o ∧ o.cls = .ref C0
theorem OfCls.type {M : Model} {h : Heap} {e C0 : Addr} (I : OfCls h e C0) : Looks M h (typeOf (.ref e)) (.ref C0) := by
 obtain ⟨o, h1, h2⟩ := I
 exact h2 ▸ (Looks.ld h1).andThen .now
section
variable {prog : Program} {w : World} {A : Around} {E : Value → Shared → Prop} {K : Frag} {e C0 : Addr}
theorem looks_data {M : Model} {h : Heap} (X : K.In h) {x C : Addr} {name : Str} {g a : Value} (ha : findIn K (.ref C) name = some (some a)) (hg : specialIn K a "__get__" = some (some g)) (hd : takesIn K a = some true) :
  Looks M h (Builtin.ObjectAttr.find (.ref x) (.ref C) name) (.bind g a) := by
 have L1 := looks_findIn (M := M) X ha
 have L2 : Looks M h (Builtin.ObjectAttr.getOf (some a)) (some g) := looks_specialIn X hg
 refine L1.andThen (L2.andThen ?_)
 have L3 := looks_takesIn (M := M) X hd
 exact (show Looks M h (Builtin.ObjectAttr.dataDescriptor? (some a) (some g)) (some (g, a)) from L3.andThen .now).andThen (Looks.tag .now)
theorem class_get' {s : Shared} {tp : Value} {R : Result → Shared → Prop} (X : K.In s.heap) (I : OfCls s.heap e C0) (hm : mroIn K C0 (.type "object") = some true)
  (h : R (.ok (.ret (.ref C0))) s) : codeAny (model prog w) A (.call (.builtin "getset_descriptor.__get__") ⟨[.builtin "object.__class__", .ref e, tp], []⟩) R s := by
 obtain ⟨hh, g, dr, t, os⟩ := s
 have L0 := I.type (M := model prog w)
 have L1 := looks_mroIn (M := model prog w) X hm
 refine codeAny_call_builtin KF.slot_gs.plain KF.entry_gs (KF.slot_gs.check _ _ _ _ _ _ _ _ KF.type_class (KF.args_gs _ _ _) ?_)
 unfold Builtin.«getset_descriptor.__get__» descrGet
 rw [dga_obj]
 refine wpAny_bind (wpAny_pure ?_)
 unfold descrGetter descrCheckInstance descrNameAndClass isInstance
 simp only [KF.owner_class]
 repeat lk
 refine ⟨Code.quiet_builtin _ (by decide +kernel), codeAny_builtin KF.entry_class ?_⟩
 unfold Builtin.«object.__class__» shownTypeOf
 repeat lk
 exact h
theorem exc_class {s : Shared} {Q : Option Value → Shared → Prop} (X : K.In s.heap) (I : OfCls s.heap e C0)
  (hga : findIn K (.ref C0) "__getattribute__" = some (some (.builtin "BaseException.__getattribute__"))) (hgk : findIn K (.ref C0) "__getattr__" = some none)
  (ha : findIn K (.ref C0) "__class__" = some (some (.builtin "object.__class__"))) (hn : specialIn K (.builtin "object.__class__") "__get__" = some (some (.builtin "getset_descriptor.__get__"))) (htk : takesIn K (.builtin "object.__class__") = some true)
  (hm : mroIn K C0 (.type "object") = some true) (hb : subIn K (.ref C0) (.type "BaseException") = some true)
  (h : Q (some (.ref C0)) { s with toks := s.toks + 1 }) : wpAny (model prog w) A (getAttr? (.ref e) "__class__") Q E s := by
 obtain ⟨hh, g, d, t, os⟩ := s
 have L0 := I.type (M := model prog w)
 have L1 := looks_findIn (M := model prog w) X hga
 have L2 := looks_findIn (M := model prog w) X hgk
 have L3 := looks_data (M := model prog w) (x := e) X ha hn htk
 have L4 : Looks (model prog w) hh (isInstance (.ref e) (.type "BaseException")) true := L0.andThen (looks_subIn X hb)
 unfold getAttr? getAttrBy? getAttrBy
 refine wpAny_bind (wpAny_mkText (wpAny_bind (wpAny_attempt (wpAny_holding (wpAny_bind (L0.at (wpAny_bind (L1.at ?_))))))))
 show wpAny _ _ (if (onTheHeap (.ref C0) && Value.builtin "BaseException.__getattribute__" == Value.builtin "object.__getattribute__") = true then _ else _) _ _ _
 rw [if_neg (by rw [show (Value.builtin "BaseException.__getattribute__" == Value.builtin "object.__getattribute__") = false by decide +kernel, Bool.and_false]; decide)]
 unfold getAttrByItsOwn hookBefore
 rw [if_pos (show onTheHeap (.ref C0) = true from rfl)]
 refine wpAny_bind (L2.at (wpAny_bind (wpAny_attempt (wpAny_holding ?_))))
 unfold callGetattribute boundAndCalled
 rw [if_neg (by decide)]
 rw [F.attr_ValueError.ga.bind]
 refine wpAny_bind (wpAny_pure ?_)
 refine wpAny_call (codeAny_call_builtin F.attr_ValueError.ga.plain F.entry_bexc_ga ?_)
 have hk : builtinKind "BaseException.__getattribute__" = some .slot := by decide +kernel
 have hsplit : splitId "BaseException.__getattribute__" = some ("BaseException", "__getattribute__") := by decide +kernel
 have ha := F.args_bexc_ga (.ref e) (.str "__class__" t)
 simp only [checkBuiltinCall, hk, hsplit]
 refine wpAny_bind (L4.at ?_)
 simp only [List.singleton_append]
 repeat (any_goals (first | assumption | wp_step))
 obtain ⟨oe, i1, i2⟩ := id I
 refine wpAny_loadPart i1 (wpAny_pure ?_)
 rw [i2]
 refine wpAny_bind (L3.at ?_)
 show wpAny _ _ (holding [_] (call (.builtin "getset_descriptor.__get__") [.builtin "object.__class__", .ref e, .ref C0]) >>= ret) _ _ _
 refine wpAny_bind (wpAny_holding (wpAny_call (class_get' (s := ⟨hh, g, d, t + 1, os⟩) X I hm ?_)))
 exact wpAny_pure (handed_on rfl (wpAny_pure h))
end
end Mine
end
-- text A21
section
set_option maxRecDepth 100000
namespace Mine
open PySem PySem.Calls PyProof.Rows PySem.W
section
variable {S : St} {b : Bool} {d : Nat} {sc : Kd} {ρ : Rho} {K : Frag}
noncomputable def veBm : List Value := [.type "ValueError", .type "Exception", .type "BaseException", .type "object"]
noncomputable abbrev OwnVE (S : St) (x : Str) (C : Addr) : Prop := OwnCls x C veBm "ValueError.__new__" S.mg S.base
theorem sT_raiseK {f : Str} {C0 : Addr} {args : List Expr} {np cpos pos : Pos} {ts : Tms} (E : EnvL S K) (hO : OwnVE S f C0) (hX : S.excs f = some C0)
  (h1 : SoundEs S true d sc ρ args ts) (hx : sc f = some .globalImplicit) (hd : (f == ("__debug__" : Str)) = false) (hs : noStar args = true) :
  SoundT S true d sc ρ (.Raise (some (.Call (.Name f np) args [] cpos)) none pos) (tRaise f ts) :=
 sT_raise E.KS hO F.excBase_ValueError hX h1 hx hd hs
theorem catches_of {G : Addr} {x : Str} {C0 : Addr} (E : EnvL S K) (hX : S.excs x = some C0) (h : exmOne K (.ref C0) (.ref G) = some true) : Catches S G x := by
 intro C1 hp e oe h1 kp h2 h3
 rw [hX] at h1; cases h1
 exact exm_one (E.X.keeps kp) (OfCls.type ⟨oe, h2, h3⟩) h
noncomputable def excK (K : Frag) (C0 : Addr) : Bool :=
 (clsIn K C0).isSome && findIn K (.ref C0) "__getattribute__" == some (some (.builtin "BaseException.__getattribute__")) && findIn K (.ref C0) "__getattr__" == some none && findIn K (.ref C0) "__class__" == some (some (.builtin "object.__class__")) &&
 specialIn K (.builtin "object.__class__") "__get__" == some (some (.builtin "getset_descriptor.__get__")) && takesIn K (.builtin "object.__class__") == some true && mroIn K C0 (.type "object") == some true && subIn K (.ref C0) (.type "BaseException") == some true
theorem kitx_exc {e C0 : Addr} (q : excK K C0 = true) : KitX K (.ref e) (.ref C0) (fun h => OfCls h e C0) := by
 unfold excK at q
 simp only [Bool.and_eq_true, beq_iff_eq] at q
 obtain ⟨⟨⟨⟨⟨⟨⟨q0, q1⟩, q2⟩, q3⟩, q4⟩, q5⟩, q6⟩, q7⟩ := q
 obtain ⟨c', d', cd', sl', ho⟩ : ∃ c d cd sl, K.lookup C0 = some ⟨c, d, .cls cd, sl⟩ := by
  unfold clsIn at q0
  split at q0
  ·rename_i ho; exact ⟨_, _, _, _, ho⟩
  ·cases q0
 refine ⟨fun _ _ _ I => I.type, fun M h X _ => ?_, fun h tp dd its n sl X htp => ?_, fun X I k => exc_class X I q1 q2 q3 q4 q5 q6 q7 k⟩
 ·intro A' Q' E' s' k q
  unfold isType loadHead
  exact wpAny_bind (wpAny_loadPart (k _ _ (X _ _ ho)) (wpAny_pure q))
 ·refine Bool.eq_false_iff.mpr fun q => ?_
  have e : C0 = tp := Value.ref.inj (beq_iff_eq.mp q)
  subst e
  have z := (X _ _ ho).symm.trans htp
  cases z
noncomputable def isiChk (K : Frag) (ex : Str → Option Addr) (ans : List (Str × Bool)) (f : Addr → Option Bool) : Bool := ans.all fun p => match ex p.1 with
 | some C0 => excK K C0 && f C0 == some p.2
 | none => true
noncomputable def tIsiX (ans : List (Str × Bool)) (t : Tm) : Tm := fun m H Q X => t m H (fun v H1 => ∃ a c r, v = .ref a ∧ H1 a = some (.exc c) ∧ ans.lookup c = some r ∧ Q (.bool r) H1) X
noncomputable def IsiOne (S : St) (K : Frag) (ans : List (Str × Bool)) (cv : Value) : Prop := ∀ c r C0, ans.lookup c = some r → S.excs c = some C0 → excK K C0 = true ∧ kitOne K (.ref C0) cv = some r
noncomputable def IsiAny (S : St) (K : Frag) (ans : List (Str × Bool)) (cvs : List Value) : Prop := ∀ c r C0, ans.lookup c = some r → S.excs c = some C0 → excK K C0 = true ∧ kitAny K (.ref C0) cvs = some r
theorem isiChk_of {ex : Str → Option Addr} {ans : List (Str × Bool)} {f : Addr → Option Bool} (h : isiChk K ex ans f = true) {c : Str} {r : Bool} {C0 : Addr} (h1 : ans.lookup c = some r) (h2 : ex c = some C0) : excK K C0 = true ∧ f C0 = some r := by
 have := List.all_eq_true.mp h _ (mem_of_lookup h1)
 dsimp only at this
 rw [h2] at this
 simpa using this
theorem isiOne_of {ex : Str → Option Addr} {ans : List (Str × Bool)} {cv : Value} (hE : S.excs = ex) (h : isiChk K ex ans (fun C0 => kitOne K (.ref C0) cv) = true) : IsiOne S K ans cv := fun c r C0 h1 h2 => isiChk_of h h1 (by rw [← hE]; exact h2)
theorem isiAny_of {ex : Str → Option Addr} {ans : List (Str × Bool)} {cvs : List Value} (hE : S.excs = ex) (h : isiChk K ex ans (fun C0 => kitAny K (.ref C0) cvs) = true) : IsiAny S K ans cvs := fun c r C0 h1 h2 => isiChk_of h h1 (by rw [← hE]; exact h2)
theorem sE_isiX {e g : Expr} {f : Str} {p pos : Pos} {t : Tm} {ans : List (Str × Bool)} {cv : Value} (E : EnvL S K) (h1 : SoundE S b d sc ρ e t)
  (hg : ∀ (C : Cx) (A : Around) (env : Env) (H : AH) (s : Shared) (E' : Value → Shared → Prop) (Q : Value → Shared → Prop), EnvOK S C A env → (∀ x, env.kindOf x = sc x) → Inv S C H s → Q cv s → wpAny S.M A (eval g env) Q E' s)
  (ha : IsiOne S K ans cv) (hf : sc f = some .globalImplicit) (hm : S.mg f = none) (hv : S.mb f = some (.builtin "isinstance")) (hd : (f == ("__debug__" : Str)) = false) (hs : noStar [e, g] = true) :
  SoundE S b d sc ρ (.Call (.Name f p) [e, g] [] pos) (tIsiX ans t) := by
 intro C A env m H Q X E' s R O hk V I h hE
 refine wpAny_Call_NameR (load_builtin E.KS O I ((hk f).trans hf) hm hv hd ?_)
 refine Calls.callWith_builtin (backTo_any hs) (evalArgs_of hs ?_)
 rw [backTo_plain hs]
 refine Calls.spliced_cons (wpAny_mono (h1 C A env m H _ X E' s R O hk V I h hE) ?_ fun _ _ x => x)
 rintro v s1 ⟨av, H1, r1, I1, a, c, r, rfl, hc, hr, q1⟩
 cases r1.ref_inv
 refine Calls.spliced_cons (hg C A env H1 s1 E' _ O hk I1 (Calls.spliced_nil ?_))
 show wpAny S.M A (call (.builtin "isinstance") [.ref a, cv]) _ E' s1
 obtain ⟨o, C0, w1, w2, w3⟩ := I1.objs _ _ hc
 obtain ⟨k1, k2⟩ := ha c r C0 hr w2
 exact kia_one (kitx_exc k1) (E.X.keeps I1.base) ⟨o, w1, w3⟩ k2 (by intro q; cases q) fun tk => ⟨_, H1, .bool _, I1.toks tk, q1⟩
theorem isi_own {g : Str} {gp : Pos} {cv : Value} (E : EnvL S K) (hx : sc g = some .globalImplicit) (hv : S.mg g = some cv) (hd : (g == ("__debug__" : Str)) = false) :
  ∀ (C : Cx) (A : Around) (env : Env) (H : AH) (s : Shared) (E' : Value → Shared → Prop) (Q : Value → Shared → Prop), EnvOK S C A env → (∀ x, env.kindOf x = sc x) → Inv S C H s → Q cv s → wpAny S.M A (eval (.Name g gp) env) Q E' s :=
 fun C A env H s E' Q O hk I q => load_global E.KS O I ((hk g).trans hx) hv hd q
theorem isi_blt {g : Str} {gp : Pos} {cv : Value} (E : EnvL S K) (hx : sc g = some .globalImplicit) (hm : S.mg g = none) (hv : S.mb g = some cv) (hd : (g == ("__debug__" : Str)) = false) :
  ∀ (C : Cx) (A : Around) (env : Env) (H : AH) (s : Shared) (E' : Value → Shared → Prop) (Q : Value → Shared → Prop), EnvOK S C A env → (∀ x, env.kindOf x = sc x) → Inv S C H s → Q cv s → wpAny S.M A (eval (.Name g gp) env) Q E' s :=
 fun C A env H s E' Q O hk I q => load_builtin E.KS O I ((hk g).trans hx) hm hv hd q
noncomputable def Reads_ (S : St) (sc : Kd) (gs : List Expr) (cvs : List Value) : Prop := ∀ (C : Cx) (A : Around) (env : Env) (H : AH) (s : Shared) (E' : Value → Shared → Prop) (Q : List Value → Shared → Prop), EnvOK S C A env → (∀ x, env.kindOf x = sc x) → Inv S C H s → Q cvs s → wpAny S.M A (spliced (gs.map fun g => (false, eval g env))) Q E' s
theorem reads_nil : Reads_ S sc [] [] := fun _ _ _ _ _ _ _ _ _ _ q => Calls.spliced_nil q
theorem reads_cons {g : Expr} {gs : List Expr} {cv : Value} {cvs : List Value}
  (hg : ∀ (C : Cx) (A : Around) (env : Env) (H : AH) (s : Shared) (E' : Value → Shared → Prop) (Q : Value → Shared → Prop), EnvOK S C A env → (∀ x, env.kindOf x = sc x) → Inv S C H s → Q cv s → wpAny S.M A (eval g env) Q E' s)
  (hr : Reads_ S sc gs cvs) : Reads_ S sc (g :: gs) (cv :: cvs) := fun C A env H s E' Q O hk I q => Calls.spliced_cons (hg C A env H s E' _ O hk I (hr C A env H s E' _ O hk I q))
theorem sE_isiT {e : Expr} {gs : List Expr} {f : Str} {p pos tp : Pos} {kt : Nat} {t : Tm} {ans : List (Str × Bool)} {cvs : List Value} (E : EnvL S K) (h1 : SoundE S b d sc ρ e t) (hg : Reads_ S sc gs cvs) (hgs : noStar gs = true) (hl : cvs.length ≤ 100)
  (ha : IsiAny S K ans cvs) (hf : sc f = some .globalImplicit) (hm : S.mg f = none) (hv : S.mb f = some (.builtin "isinstance")) (hd : (f == ("__debug__" : Str)) = false) (hs : noStar [e, .Tuple gs kt tp] = true) :
  SoundE S b d sc ρ (.Call (.Name f p) [e, .Tuple gs kt tp] [] pos) (tIsiX ans t) := by
 intro C A env m H Q X E' s R O hk V I h hE
 refine wpAny_Call_NameR (load_builtin E.KS O I ((hk f).trans hf) hm hv hd ?_)
 refine Calls.callWith_builtin (backTo_any hs) (evalArgs_of hs ?_)
 rw [backTo_plain hs]
 refine Calls.spliced_cons (wpAny_mono (h1 C A env m H _ X E' s R O hk V I h hE) ?_ fun _ _ x => x)
 rintro v s1 ⟨av, H1, r1, I1, a, c, r, rfl, hc, hr, q1⟩
 cases r1.ref_inv
 refine Calls.spliced_cons (wpAny_Tuple_spliced ?_)
 rw [backTo_plain hgs]
 refine hg C A env H1 s1 E' _ O hk I1 ⟨?_, Calls.spliced_nil ?_⟩
 ·have : sizeLine = 16777216 := rfl
  lia
 have I2 : Inv S C H1 { s1 with heap := s1.heap.push { cls := .type "tuple", data := .seq cvs.toArray } } := I1.junk _
 show wpAny S.M A (call (.builtin "isinstance") [.ref a, .ref s1.heap.objs.size]) _ E' _
 obtain ⟨o, C0, w1, w2, w3⟩ := I2.objs _ _ hc
 obtain ⟨k1, k2⟩ := ha c r C0 hr w2
 exact kia_tup (kitx_exc k1) (E.X.keeps I2.base) ⟨o, w1, w3⟩ (Heap.get?_push_size _ rfl) k2 (by intro q; cases q) fun tk => ⟨_, H1, .bool _, I2.toks tk, q1⟩
end
end Mine
end
-- text A22
section
namespace Mine
open PySem PySem.Calls PyProof.Rows PySem.W
section
variable {prog : Program} {w : World} {A : Around} {E : Value → Shared → Prop} {s : Shared}
theorem entry_unchain : entryFor table "proto.unchain" = some Builtin.«proto.unchain» := entryFor_of_tree (by kernel_rfl)
theorem raiseNew_some {α : Type} {a h : Addr} {oa oh : Obj} {va vh : Array Value} {Q : α → Shared → Prop} (hh : A.handled = some (.ref h)) (ne : h ≠ a) (ho : s.heap.get? h = some oh) (hd : oh.data = .fields vh) (h2 : vh[2]? = some .none)
  (ha : s.heap.get? a = some oa) (hda : oa.data = .fields va) (hsz : 2 < va.size) (k : E (.ref a) { s with heap := s.heap.update a (Obj.mapFields (·.setIfInBounds 2 (.ref h))) }) : wpAny (model prog w) A (raiseNew (.ref a) : Sem α) Q E s := by
 unfold raiseNew
 refine wpAny_bind (wpAny_handled ?_)
 rw [hh]
 dsimp only
 rw [if_pos (show (Value.ref h != Value.ref a) = true by simpa using ne)]
 refine wpAny_bind (wpAny_holding (wpAny_runValue (codeAny_builtin entry_unchain ?_)))
 unfold Builtin.«proto.unchain»
 dsimp only
 refine wpAny_bind (wpAny_field ho hd h2 ?_)
 rw [if_pos (show (Value.none == Value.none) = true from rfl)]
 refine wpAny_bind (show wpAny _ _ (ret .none) _ _ s from wpAny_pure (wpAny_pure ?_))
 exact wpAny_bind (show wpAny _ _ (setField (.ref a) 2 (.ref h)) _ _ s from wpAny_setField ha hda hsz (wpAny_throw k))
end
section
variable {prog : Program} {w : World} {A : Around} {E : Value → Shared → Prop} {s : Shared} {env : Env}
variable {nm q : Str} {C N : Addr} {bs bm bmB : List Value} {hdct : Bool} {sn : List Str} {sub : List Value} {ab : Bool} {col : Option Bool} {dd : Option Addr} {k0 k1 k2 k3 k5 : Option Value} {B newId initId : String}
inductive Hd0 (h0 : Addr) (hp : Heap) : Prop
 | mk (oh : Obj) (vh : Array Value) : hp.get? h0 = some oh → oh.data = .fields vh → vh[2]? = some .none → Hd0 h0 hp
noncomputable abbrev chained (hp : Heap) (e h0 : Addr) : Heap := hp.update e (Obj.mapFields (·.setIfInBounds 2 (.ref h0)))
theorem raiseStmt_h {h0 : Addr} {x : Sem Value} {Q : Flow → Shared → Prop} (hbase : bm.contains (.type "BaseException") = true) (hh : A.handled = some (.ref h0))
  (h : wpAny (model prog w) A x (fun v s₁ => ∃ e t, v = .ref e ∧ s₁.heap.get? C = some (excClassObj nm q C N bs bm hdct sn sub ab col dd k0 k1 k2 k3 k5 newId) ∧
   s₁.heap.get? e = some { cls := .ref C, data := .fields #[.ref t, .none, .none, .none, .bool false, .none] } ∧ h0 ≠ e ∧ Hd0 h0 s₁.heap ∧ E (.ref e) { s₁ with heap := chained s₁.heap e h0 }) E s) :
  wpAny (model prog w) A (raiseStmt env (some x) none) Q E s := by
 have hcB : (Value.ref C :: bm).contains (.type "BaseException") = true := by rw [List.contains_cons, hbase, Bool.or_true]
 unfold raiseStmt
 refine wpAny_bind (wpAny_mono h (fun v s₁ h₁ => ?_) fun _ _ x => x)
 obtain ⟨e, t, rfl, hC, he, ne, ⟨oh, vh, g1, g2, g3⟩, hE⟩ := h₁
 obtain ⟨hp, g, d, tk, os⟩ := s₁
 repeat (first | with_reducible refine wpAny_loadPart_at he ?_ | with_reducible refine wpAny_loadPart_at hC ?_ | (with_reducible refine wpAny_isSubtype_exc hC ?_; rw [hcB]) | wp_step)
 exact raiseNew_some hh ne g1 g2 g3 he rfl (Nat.le_of_ble_eq_true rfl) hE
theorem Raise_h {h0 : Addr} (F : ExcBaseFacts B newId initId bmB) {mN : Str → Option Value} {x : Str} {np cpos pos : Pos} {args : List Expr} {Q : Flow → Shared → Prop}
  (hbase : bm.contains (.type "BaseException") = true) (hh : A.handled = some (.ref h0)) (hplain : (backTo cpos (starEach args env)).any (·.1) = false) (hni : mN "__init__" = none)
  (h : wpAny (model prog w) A (eval (.Name x np) env) (fun f s₁ => f = .ref C ∧ wpAny (model prog w) A (evalArgs (.ref C) true (backTo cpos (starEach args env)) [])
   (fun a s₂ => a.kw = [] ∧ a.pos.length ≤ sizeLine ∧ s₂.heap.get? C = some (excClassObj nm q C N bs bm hdct sn sub ab col dd k0 k1 k2 k3 k5 newId) ∧ s₂.heap.Ns N mN ∧ OwnTail s₂.heap bmB bm ∧ Hd0 h0 s₂.heap ∧
    ∀ h' e, Heap.MadeExcOf s₂.heap h' e (.ref C) a.pos → E (.ref e) { s₂ with heap := chained h' e h0 }) E s₁) E s) :
  wpAny (model prog w) A (exec (.Raise (some (.Call (.Name x np) args [] cpos)) none pos) env) Q E s := by
 rw [arm_exec_Raise]
 refine wpAny_bind (wpAny_standAt (raiseStmt_h (C := C) (nm := nm) (q := q) (N := N) (bs := bs) (bm := bm) (hdct := hdct) (sn := sn) (sub := sub) (ab := ab) (col := col) (dd := dd) (k0 := k0) (k1 := k1) (k2 := k2) (k3 := k3) (k5 := k5) (newId := newId) hbase hh (wpAny_bind (wpAny_mono (wpAny_Call_ofName (wpAny_mono h (fun f s₁ h₁ => ?_) fun _ _ x => x)) (fun v s₃ h₃ => wpAny_bind (wpAny_standAt (wpAny_pure h₃))) fun _ _ x => x))))
 obtain ⟨rfl, h₁⟩ := h₁
 unfold callWith
 refine wpAny_bind (wpAny_holding (wpAny_mono h₁ (fun a s₂ h₂ => wpAny_bind (wpAny_standAt ?_)) fun _ _ x => x))
 obtain ⟨apos, akw⟩ := a
 obtain ⟨hkw, hlen, hC, hn, T, ⟨oh, vh, g1, g2, g3⟩, h₂⟩ := h₂
 obtain rfl : akw = [] := hkw
 obtain ⟨hp, g, d, tk, os⟩ := s₂
 simp only [hplain]
 refine wpAny_bind (wpAny_keeperOf_exc hC ?_)
 refine wpAny_bind (wpAny_call_exc_subT (hrest := hlen) F T hC hn hni fun h' e hm => wpAny_bind (wpAny_holding (wpAny_point (wpAny_pure ?_))))
 obtain ⟨t, ht, _, _⟩ := hm.there
 refine ⟨e, t, rfl, hm.keeps _ _ hC, ht, fun q => ?_, ⟨oh, vh, hm.keeps _ _ g1, g2, g3⟩, h₂ h' e hm⟩
 have := hm.new
 rw [← q] at this
 dsimp only at g1
 rw [g1] at this; cases this
end
section
variable {S : St} {b : Bool} {d : Nat} {sc : Kd} {ρ : Rho}
inductive HandR (hit : List Str) (X : QX) (x : Str) (H : AH) : Prop
 | mk : x ∈ hit → X unreadN H → HandR hit X x H
noncomputable def tTryR (tb : Ts) (hit : List Str) : Ts := fun m H QN QR X => tb m H QN QR (HandR hit X)
theorem mem3 {P : Str → Prop} {a b c : Str} (h1 : P a) (h2 : P b) (h3 : P c) : ∀ x ∈ [a, b, c], P x := fun x hx => by
 simp only [List.mem_cons, List.not_mem_nil, or_false] at hx
 rcases hx with rfl | rfl | rfl
 ·exact h1
 ·exact h2
 ·exact h3
theorem const_str {M : Model} {A : Around} {E : Value → Shared → Prop} {s : Shared} {env : Env} {msg : Str} {k : Nat} {kp : Pos} {Q : Value → Shared → Prop} (h : ∀ t tk, Q (.str msg t) { s with toks := tk }) : wpAny M A (eval (.Constant (.str msg) k kp) env) Q E s := fun _ _ _ => h _ _
theorem sT_tryR {body : List Stmt} {g msg : Str} {G C0 : Addr} {gp hp pos np cpos rpos kp : Pos} {kk : Nat} {bmB : List Value} {B newId initId : String} {hit : List Str} {tb : Ts} (K : StOK S) (h1 : SoundS S true d sc ρ body tb)
  (Ow : OwnCls unreadN C0 bmB newId S.mg S.base) (FB : ExcBaseFacts B newId initId bmB) (hX : S.excs unreadN = some C0) (hxf : sc unreadN = some .globalImplicit) (hdf : (unreadN == ("__debug__" : Str)) = false)
  (hg : sc g = some .globalImplicit) (hG : S.mg g = some (.ref G)) (hd : (g == ("__debug__" : Str)) = false) (hc : ∀ x ∈ hit, Catches S G x) (hnu : ∀ x ∈ hit, x ≠ unreadN) :
  SoundT S true d sc ρ (.Try body [.ExceptHandler (some (.Name g gp)) none [.Raise (some (.Call (.Name unreadN np) [.Constant (.str msg) kk kp] [] cpos)) none rpos] hp] [] [] pos) (tTryR tb hit) := by
 intro C A env m H QN QR X E s R O hce hk' V I h hE
 obtain ⟨outer, hce⟩ := hce
 refine wpAny_Try_except (wpAny_mono (h1 C A env m H QN QR _ (fun e s₁ => wpAny S.M A (noteFrame e env) (fun _ s₂ => wpAny S.M A (setFlight e none) (fun _ s₃ => wpAny S.M A (handleBy e env [.ExceptHandler (some (.Name g gp)) none [.Raise (some (.Call (.Name unreadN np) [.Constant (.str msg) kk kp] [] cpos)) none rpos] hp]) (PostS S C A env ρ QN QR) E s₃) E s₂) E s₁) s R O ⟨outer, hce⟩ hk' V I h ?_) ?_ fun _ _ x => x)
 ·intro C1 x H1 v s1 f1 O1 hx hr
  obtain ⟨hit1, hth⟩ := hx
  have hce1 : C1.envs = env :: outer := f1.envs.trans hce
  obtain ⟨_, L, _, hf, _⟩ := O1.fun_ env (by rw [hce1]; exact .head _)
  refine hr.note (.of_env O1) hce1 hf fun e s2 hv hh => ?_
  subst hv
  refine hh.flight fun s3 h3 => ?_
  refine wpAny_handleBy_cons (codeAny_handlers_test ?_) (by intro q; cases q)
  refine load_global K (O1.mark _) h3.inv ((hk' g).trans hg) hG hd ?_
  obtain ⟨oe, vs, C9, T, oT, ts', a0, w1, w2, w3, w4⟩ := h3.at_
  refine (hc x hit1 C9 s3.heap e oe w2 h3.inv.base w1 w3).here ?_
  show codeAny _ _ _ _ s3
  refine codeAny_handlers_suite ?_
  refine h3.flight fun s4 h4 => ?_
  obtain ⟨oe', vs', C9', T', oT', ts', a0', u1, u2, u3, u4, ⟨u5, u6⟩, u7⟩ := h4.at_
  have hctx : vs'[2]? = some .none := u6 (hnu x hit1)
  obtain ⟨tl, N, nm, q, bs, hdct, sn, sub, ab, col, dd, k0, k1, k2, k3, k5, mN, hC, hN, hni, T⟩ := Ow.obj
  have O1m := O1.mark (some (.ref e))
  refine wpAny_execs_cons (Raise_h (h0 := e) (C := C0) (nm := nm) (q := q) (N := N) (bs := bs) (bm := tl) (hdct := hdct) (sn := sn) (sub := sub) (ab := ab) (col := col) (dd := dd) (k0 := k0) (k1 := k1) (k2 := k2) (k3 := k3) (k5 := k5)
   FB (mN := mN) (T.hasType FB.hasBase) rfl (backTo_any rfl) hni (load_global K O1m h4.inv ((hk' _).trans hxf) Ow.bound hdf ⟨rfl, ?_⟩))
  refine evalArgs_of rfl ?_
  rw [backTo_plain rfl]
  refine Calls.spliced_cons (const_str fun t tk => Calls.spliced_nil ?_)
  refine ⟨rfl, Nat.le_of_ble_eq_true rfl, h4.inv.base _ _ hC, hN.keeps h4.inv.base, T.keeps h4.inv.base, ⟨oe', vs', u1, u4, hctx⟩, fun h' e2 hm => ?_⟩
  obtain ⟨t2, z1, z2, z3⟩ := hm.there
  obtain ⟨y1, y2, y3⟩ := (h4.inv.same (s' := { s4 with toks := tk }) rfl rfl rfl).fresh hm.new
  have J : Inv S C1 H1 { s4 with heap := h', toks := tk } := (h4.inv.same (s' := { s4 with toks := tk }) rfl rfl rfl).grow (s' := { s4 with heap := h', toks := tk }) hm.keeps rfl rfl
  have J2 : Inv S C1 H1 { s4 with heap := chained h' e2 e, toks := tk } := J.other (fun a => a = e2) (fun a q => by subst q; exact ⟨y3, y1, y2⟩) (fun b o eb nb => .inr ((Heap.get?_update_other _ _ (Ne.symm nb)).trans eb))
   (fun b o eb hb hu => ⟨o.slots, (Heap.get?_update_other _ _ fun z => by rw [← z] at hu; exact hu y2).trans eb⟩) rfl rfl
  have hr2 : Raised S C1 H1 unreadN (.ref e2) { s4 with heap := chained h' e2 e, toks := tk } :=
   ⟨e2, rfl, J2, ⟨_, _, C0, Heap.get?_update_self _ z1 rfl, hX, rfl, rfl, Nat.le_of_ble_eq_true rfl, ⟨.ref t2, rfl, fun n => absurd rfl n⟩, .inl rfl⟩, y3, y2, y1⟩
  show notedBy S.M (A.mark (some (.ref e))) env _ (.ref e2) _
  unfold notedBy
  refine hr2.note (.of_env O1m) hce1 hf fun e3 s6 hv6 hh6 => ?_
  cases hv6
  show cameBackBy S.M A env E (.ref e2) s6
  unfold cameBackBy
  obtain ⟨oe, vs, K', T, oT, ts, a0, g1, g2, g3, g4, g5, g6, g7⟩ := hh6.at_
  refine wpAny_bind (wpAny_field g1 g4 g6 ?_)
  rw [if_neg (show ¬ ((Value.ref T == Value.none) = true) from by simp)]
  rw [hf]
  exact hh6.flight fun s'' h'' => hE C1 unreadN H1 (.ref e2) s'' f1 O1 hth (h''.raised (.inr ⟨env, outer, L, hce1, hf, rfl⟩))
 ·rintro fl s1 hp1
  cases fl with
  | next => exact wpAny_execs_nil hp1
  | _ => exact hp1
end
end Mine
end
-- text T1
section
namespace Mine
open PySem PyProof.Rows
noncomputable abbrev SM := StateT SortSt Sem
noncomputable def mergeAtP : Nat → SM Bool := sortPriv% PySem.Builtin.mergeAt
noncomputable def minRunP : Nat → Nat → Nat → Nat := sortPriv% PySem.Builtin.minRun
noncomputable def powerP : Nat → Nat → Nat → Nat → Nat := sortPriv% PySem.Builtin.power
noncomputable def sortRunsP : SM Unit := sortPriv% PySem.Builtin.sortRuns
noncomputable def countRunP : Nat → Nat → SM (Option Nat) := sortPriv% PySem.Builtin.countRun
noncomputable def binarySortP : Nat → Nat → Nat → SM Bool := sortPriv% PySem.Builtin.binarySort
section
variable {M : Model} {A : Around} {E : Value → Shared → Prop} {s : Shared}
theorem wpS_ite {α : Type} {c : Prop} [Decidable c] {t e : SM α} {Q : α → SortSt → Prop} {st : SortSt} (h1 : c → wpS M A E s t Q st) (h2 : ¬ c → wpS M A E s e Q st) : wpS M A E s (if c then t else e) Q st := by
 split
 ·exact h1 ‹_›
 ·exact h2 ‹_›
inductive GlP (f : Nat → Bool) (n : Nat) (k : Nat) : Prop
 | mk : k ≤ n → (∀ i, i < k → f i = true) → (∀ i, k ≤ i → i < n → f i = false) → GlP f n k
structure GfI (f : Nat → Bool) (n d lo hi : Nat) : Prop where
 le : lo ≤ hi
 hn : hi ≤ n
 d : d + hi ≤ lo + n
 lo : ∀ i, i < lo → f i = true
 hi : ∀ i, hi ≤ i → i < n → f i = false
theorem GfI.end {f : Nat → Bool} {n d lo hi : Nat} (h : GfI f n d lo hi) (e : hi ≤ lo) : GlP f n hi := by
 cases Nat.le_antisymm h.le e
 exact ⟨h.hn, h.lo, h.hi⟩
end
end Mine
end
-- text T2
section
namespace Mine
open PySem PyProof.Rows
structure Ord {α : Type} (L : α → α → Bool) : Prop where
 asym : ∀ x y, L x y = true → L y x = false
 trans : ∀ x y z, L y x = false → L z y = false → L z x = false
theorem Ord.refl {α : Type} {L : α → α → Bool} (h : Ord L) (x : α) : L x x = false := by
 cases q : L x x with
 | false => rfl
 | true => rw [h.asym x x q] at q; cases q
theorem Ord.lt_le {α : Type} {L : α → α → Bool} (h : Ord L) {x y z : α} (h1 : L x y = true) (h2 : L z y = false) : L x z = true := by
 cases q : L x z with
 | true => rfl
 | false => rw [h.trans y z x h2 q] at h1; cases h1
section
variable {α : Type} {L : α → α → Bool}
noncomputable abbrev Srt (L : α → α → Bool) (xs : List α) : Prop := xs.Pairwise fun x y => L y x = false
theorem Srt.head_le (h : Ord L) {x : α} {r : List α} (s : Srt L (x :: r)) : ∀ y ∈ x :: r, L y x = false := fun y hy => by
 rcases List.mem_cons.mp hy with rfl | hy
 ·exact h.refl _
 ·exact (List.pairwise_cons.mp s).1 y hy
theorem Srt.snoc (h : Ord L) {xs : List α} {x : α} (s : Srt L xs) (le : ∀ y ∈ xs, L x y = false) : Srt L (xs ++ [x]) := by
 refine List.pairwise_append.mpr ⟨s, List.pairwise_singleton _ _, fun y hy z hz => ?_⟩
 rw [List.mem_singleton.mp hz]; exact le y hy
end
structure Cmp (M : Model) (A : Around) (E : Value → Shared → Prop) (s : Shared) (κ : SortKind) (U : Keyed → Prop) (L : Keyed → Keyed → Bool) : Prop where
 ord : Ord L
 lt : ∀ x y, U x → U y → ∀ (st : SortSt) (Q : Option Bool → SortSt → Prop), kindOf st = κ → Q (some (L x y)) st → wpS M A E s (lt' x y) Q st
structure SameSt (st st' : SortSt) : Prop where
 kind : kindOf st' = kindOf st
 arr : arrOf st' = arrOf st
 pend : pendingOf st' = pendingOf st
 fail : failedOf st' = failedOf st
theorem SameSt.refl (st : SortSt) : SameSt st st := ⟨rfl, rfl, rfl, rfl⟩
theorem SameSt.trans {a b c : SortSt} (x : SameSt a b) (y : SameSt b c) : SameSt a c := ⟨y.kind.trans x.kind, y.arr.trans x.arr, y.pend.trans x.pend, y.fail.trans x.fail⟩
section
variable {M : Model} {A : Around} {E : Value → Shared → Prop} {s : Shared} {κ : SortKind} {U : Keyed → Prop} {L : Keyed → Keyed → Bool}
theorem wpS_elem {arr : Array Keyed} {i : Nat} {x : Keyed} {st : SortSt} {Q : Keyed → SortSt → Prop} (h : arr[i]? = some x) (hQ : Q x st) : wpS M A E s (elem' arr i) Q st := by
 rw [elem'_eq, h]; exact wpS_pure hQ
end
end Mine
end
-- text T3
section
namespace Mine
open PySem PyProof.Rows
section
variable {M : Model} {A : Around} {E : Value → Shared → Prop} {s : Shared} {κ : SortKind} {U : Keyed → Prop} {L : Keyed → Keyed → Bool}
theorem wpS_rule {r : String} {st : SortSt} {Q : Unit → SortSt → Prop} (h : Q () st) : wpS M A E s (liftM (rule r) : SM Unit) Q st :=
 wpS_lift (wpAny_rule ⟨rfl, h⟩)
end
end Mine
end
-- text V4
section
namespace Mine
open PySem PyProof.Rows
section
variable {M : Model} {A : Around} {E : Value → Shared → Prop} {s : Shared} {κ : SortKind} {U : Keyed → Prop} {L : Keyed → Keyed → Bool}
theorem get_of {a : Array Keyed} {i : Nat} {x : Keyed} (h : a.toList[i]? = some x) : a[i]? = some x := by simpa using h
end
end Mine
end
-- text V5
section
namespace Mine
open PySem PyProof.Rows
theorem Ord.flip {α : Type} {L : α → α → Bool} (h : Ord L) : Ord fun x y => L y x := ⟨fun x y q => h.asym y x q, fun x y z q r => h.trans z y x r q⟩
theorem Srt.rev {α : Type} {L : α → α → Bool} {xs : List α} (h : Srt L xs) : Srt (fun x y => L y x) xs.reverse := List.pairwise_reverse.mpr h
theorem Srt.unrev {α : Type} {L : α → α → Bool} {xs : List α} (h : Srt (fun x y => L y x) xs) : Srt L xs.reverse := List.pairwise_reverse.mpr h
section
variable {M : Model} {A : Around} {E : Value → Shared → Prop} {s : Shared} {κ : SortKind} {U : Keyed → Prop} {L : Keyed → Keyed → Bool}
end
end Mine
end
-- text T6
section
namespace Mine
open PySem PyProof.Rows
noncomputable def starts : Nat → List (List Keyed) → List (Nat × Nat)
 | _, [] => []
 | lo, g :: r => (lo, g.length) :: starts (lo + g.length) r
theorem starts_length : ∀ (a : List (List Keyed)) (lo : Nat), (starts lo a).length = a.length
 | [], _ => rfl
 | g :: r, lo => by simp [starts, starts_length r]
structure Runs (L : Keyed → Keyed → Bool) (st : SortSt) (segs : List (List Keyed)) (rest : List Keyed) : Prop where
 arr : (arrOf st).toList = segs.flatten ++ rest
 srt : ∀ g ∈ segs, g ≠ [] ∧ Srt L g
 pend : (pendingOf st).toList.map (fun p => (p.1, p.2.1)) = starts 0 segs
section
variable {M : Model} {A : Around} {E : Value → Shared → Prop} {s : Shared} {κ : SortKind} {U : Keyed → Prop} {L : Keyed → Keyed → Bool}
end
end Mine
end
-- text W7
section
namespace Mine
open PySem PyProof.Rows
noncomputable abbrev CT := Option (Option Nat) × Nat
noncomputable def ascB (lo n : Nat) : SM (ForInStep CT) := do
 let some smaller ← ltAt' (lo + n) (lo + n - 1) | pure (ForInStep.done (some none, n))
 if smaller = true then pure (ForInStep.done (none, n)) else pure (ForInStep.yield (none, n + 1))
noncomputable def cEnd (lo nrem n : Nat) : SM (Option Nat) := do
 reverseSlice' lo (lo + n)
 let r ← forIn [n:nrem] ((none, n) : CT) fun _ c => ascB lo c.2
 match r.1 with
 | some r => pure r
 | none => pure (some r.2)
noncomputable def faBody (lo m q : Nat) : SM (ForInStep (Option (Option Nat) × Nat × Nat)) := do
 let some smaller ← ltAt' (lo + m) (lo + m - 1) | pure (ForInStep.done (some none, m, q))
 if smaller = true then
  if q > 0 then do
   reverseSlice' (lo + m - (q + 1)) (lo + m)
   pure (ForInStep.yield (none, m + 1, 0))
  else pure (ForInStep.yield (none, m + 1, 0))
 else do
  let some larger ← ltAt' (lo + m - 1) (lo + m) | pure (ForInStep.done (some none, m, q))
  if larger = true then pure (ForInStep.done (none, m, q))
  else pure (ForInStep.yield (none, m + 1, q + 1))
noncomputable def cTail (lo nrem m q : Nat) : SM (Option Nat) :=
 if q > 0 then do
  reverseSlice' (lo + m - (q + 1)) (lo + m)
  cEnd lo nrem m
 else cEnd lo nrem m
noncomputable def cFall (lo nrem n : Nat) : SM (Option Nat) := do
 liftM (rule "list.sort.descending-run")
 let r ← forIn [n + 1:nrem] ((none, n + 1, 0) : Option (Option Nat) × Nat × Nat) fun _ c => faBody lo c.2.1 c.2.2
 match r.1 with
 | some r => pure r
 | none => cTail lo nrem r.2.1 r.2.2
noncomputable def cMid (lo nrem n : Nat) : SM (Option Nat) :=
 if (n == nrem) = true then pure (some n)
 else if n > 1 then do
  let some rose ← ltAt' lo (lo + n - 1) | pure none
  if rose = true then pure (some n) else do
   reverseSlice' lo (lo + n)
   cFall lo nrem n
 else cFall lo nrem n
theorem countRunP_eq (lo nrem : Nat) : countRunP lo nrem = (do
 let r ← forIn [1:nrem] ((none, 1) : CT) fun _ c => ascB lo c.2
 match r.1 with
 | some r => pure r
 | none => cMid lo nrem r.2) := by kernel_rfl
noncomputable abbrev BT := Option Bool × Nat × Nat
noncomputable def biB (lo k l r : Nat) : SM (ForInStep BT) :=
 if l ≥ r then pure (ForInStep.done (none, l, r)) else do
  let some less ← ltAt' (lo + k) (lo + (l + r) / 2) | pure (ForInStep.done (some false, l, r))
  if less = true then pure (ForInStep.yield (none, l, (l + r) / 2)) else pure (ForInStep.yield (none, (l + r) / 2 + 1, r))
noncomputable def bsB (lo k : Nat) : SM (ForInStep (Option Bool × PUnit)) := do
 let r ← forIn [:k] ((none, 0, k) : BT) fun _ c => biB lo k c.2.1 c.2.2
 match r.1 with
 | some r => pure (ForInStep.done (some r, ⟨⟩))
 | none => do
  moveDown' (lo + k) (lo + r.2.1)
  pure (ForInStep.yield (none, ⟨⟩))
theorem binarySortP_eq (lo n ok : Nat) : binarySortP lo n ok = (do
 let r ← forIn [max ok 1:n] ((none, ⟨⟩) : Option Bool × PUnit) fun k _ => bsB lo k
 match r.1 with
 | some r => pure r
 | none => pure true) := by kernel_rfl
structure Ch (st st' : SortSt) : Prop where
 kind : kindOf st' = kindOf st
 pend : pendingOf st' = pendingOf st
 fail : failedOf st' = failedOf st
 perm : (arrOf st').toList.Perm (arrOf st).toList
theorem Ch.refl (st : SortSt) : Ch st st := ⟨rfl, rfl, rfl, .refl _⟩
theorem Ch.trans {a b c : SortSt} (x : Ch a b) (y : Ch b c) : Ch a c := ⟨y.kind.trans x.kind, y.pend.trans x.pend, y.fail.trans x.fail, y.perm.trans x.perm⟩
theorem Ch.u {U : Keyed → Prop} {a b : SortSt} (x : Ch a b) (hu : ∀ x ∈ (arrOf a).toList, U x) : ∀ x ∈ (arrOf b).toList, U x := fun y hy => hu y (x.perm.mem_iff.mp hy)
section
variable {α : Type}
theorem at_mid (p : List α) (x : α) (t : List α) : (p ++ x :: t)[p.length]? = some x := by simp
theorem get_off (p q : List α) (d : Nat) : (p ++ q)[p.length + d]? = q[d]? := by rw [List.getElem?_append_right (Nat.le_add_right _ _), Nat.add_sub_cancel_left]
theorem rev_ix {p d n : Nat} (h : d < n) : p + (p + n) - 1 - (p + d) = p + (n - 1 - d) := by
 obtain ⟨e, rfl⟩ := Nat.exists_eq_add_of_lt h
 show p + (p + (d + e)) - (p + d) = p + (d + e - d)
 rw [Nat.add_sub_cancel_left, ← Nat.add_assoc p d e, Nat.add_left_comm, Nat.add_sub_cancel_left]
theorem rev_list {xs ys p q t : List α} (hx : xs = p ++ (q ++ t)) (h : ∀ k, ys[k]? = if p.length ≤ k ∧ k < p.length + q.length then xs[p.length + (p.length + q.length) - 1 - k]? else xs[k]?) : ys = p ++ (q.reverse ++ t) := by
 apply List.ext_getElem?
 intro k
 rw [h k, hx]
 rcases Nat.lt_or_ge k p.length with c1 | c1
 ·rw [if_neg fun c => Nat.not_le.mpr c1 c.1, List.getElem?_append_left c1, List.getElem?_append_left c1]
 ·obtain ⟨d, rfl⟩ := Nat.exists_eq_add_of_le c1
  rw [get_off p (q.reverse ++ t)]
  rcases Nat.lt_or_ge d q.length with c2 | c2
  ·rw [if_pos ⟨c1, Nat.add_lt_add_left c2 _⟩, rev_ix c2, get_off, List.getElem?_append_left (Nat.lt_of_le_of_lt (Nat.sub_le _ _) (Nat.sub_lt (Nat.lt_of_le_of_lt (Nat.zero_le _) c2) Nat.one_pos)), List.getElem?_append_left (by rw [List.length_reverse]; exact c2), List.getElem?_reverse c2]
  ·rw [if_neg fun c => Nat.not_le.mpr (Nat.lt_of_add_lt_add_left c.2) c2, get_off, List.getElem?_append_right c2, List.getElem?_append_right (by rw [List.length_reverse]; exact c2), List.length_reverse]
theorem move_list {xs ys p b t : List α} {x : α} (hx : xs = p ++ (b ++ x :: t)) (h : ∀ k, ys[k]? = if k = p.length then some x else if p.length < k ∧ k ≤ p.length + b.length then xs[k - 1]? else xs[k]?) : ys = p ++ (x :: (b ++ t)) := by
 apply List.ext_getElem?
 intro k
 rw [h k, hx]
 rcases Nat.lt_or_ge k p.length with c1 | c1
 ·rw [if_neg (Nat.ne_of_lt c1), if_neg fun c => Nat.lt_asymm c1 c.1, List.getElem?_append_left c1, List.getElem?_append_left c1]
 ·obtain ⟨d, rfl⟩ := Nat.exists_eq_add_of_le c1
  rw [get_off p (x :: (b ++ t))]
  cases d with
  | zero => rw [if_pos (Nat.add_zero _)]; rfl
  | succ d =>
   rw [if_neg (Nat.ne_of_gt (Nat.lt_add_of_pos_right (Nat.succ_pos _))), List.getElem?_cons_succ]
   rcases Nat.lt_or_ge d b.length with c3 | c3
   ·rw [if_pos ⟨Nat.lt_add_of_pos_right (Nat.succ_pos _), Nat.add_le_add_left c3 _⟩, show p.length + (d + 1) - 1 = p.length + d from rfl, get_off, List.getElem?_append_left c3, List.getElem?_append_left c3]
   ·obtain ⟨e, rfl⟩ := Nat.exists_eq_add_of_le c3
    rw [if_neg fun c => Nat.not_lt.mpr c3 (Nat.le_of_add_le_add_left c.2), get_off, Nat.add_assoc, get_off, get_off, List.getElem?_cons_succ]
end
section
variable {M : Model} {A : Around} {E : Value → Shared → Prop} {s : Shared} {κ : SortKind} {U : Keyed → Prop} {L : Keyed → Keyed → Bool}
theorem wpS_ltAt (C : Cmp M A E s κ U L) {i j : Nat} {x y : Keyed} {st : SortSt} {Q : Option Bool → SortSt → Prop} (hx : (arrOf st).toList[i]? = some x) (hy : (arrOf st).toList[j]? = some y) (hu : ∀ x ∈ (arrOf st).toList, U x) (hk : kindOf st = κ)
  (hQ : Q (some (L x y)) st) : wpS M A E s (ltAt' i j) Q st := by
 rw [ltAt'_eq]
 refine wpS_bind (wpS_get (wpS_bind (wpS_elem (get_of hx) (wpS_bind (wpS_elem (get_of hy) ?_)))))
 exact C.lt x y (hu x (List.mem_of_getElem? hx)) (hu y (List.mem_of_getElem? hy)) st _ hk hQ
theorem wpS_rev {i j : Nat} {st : SortSt} {Q : Unit → SortSt → Prop} {p q t : List Keyed} (ha : (arrOf st).toList = p ++ (q ++ t)) (hi : i = p.length) (hj : j = p.length + q.length)
  (h : ∀ st', Ch st st' → (arrOf st').toList = p ++ (q.reverse ++ t) → Q () st') : wpS M A E s (reverseSlice' i j) Q st := by
 rw [reverseSlice'_eq]
 have hs : j ≤ (arrOf st).size := by
  have := congrArg List.length ha
  rw [Array.length_toList, List.length_append, List.length_append] at this; lia
 subst hi; subst hj
 refine wpS_modify (h _ ⟨rfl, rfl, rfl, Array.perm_iff_toList_perm.mp (mirror_perm _ _ _ _)⟩ (rev_list ha fun k => ?_))
 rw [Array.getElem?_toList, Array.getElem?_toList, Array.getElem?_toList]
 exact getElem?_mirror_all hs k
theorem wpS_moveDown {src dst : Nat} {st : SortSt} {Q : Unit → SortSt → Prop} {p b t : List Keyed} {x : Keyed} (ha : (arrOf st).toList = p ++ (b ++ x :: t)) (hd : dst = p.length) (hs : src = p.length + b.length)
  (h : ∀ st', Ch st st' → (arrOf st').toList = p ++ (x :: (b ++ t)) → Q () st') : wpS M A E s (moveDown' src dst) Q st := by
 rw [moveDown'_eq]
 subst hd; subst hs
 have gx : (arrOf st)[p.length + b.length]? = some x := by
  rw [← Array.getElem?_toList, ha, get_off]; exact at_mid _ _ _
 obtain ⟨hl, _⟩ := Array.getElem?_eq_some_iff.mp gx
 have g := getElem?_bubble (xs := arrOf st) hl b.length (Nat.le_add_left _ _)
 rw [Nat.add_sub_cancel] at g
 rw [Nat.add_sub_cancel_left]
 refine wpS_modify (h _ ⟨rfl, rfl, rfl, Array.perm_iff_toList_perm.mp (bubble_perm _ _ _)⟩ (move_list ha fun k => ?_))
 rw [Array.getElem?_toList, Array.getElem?_toList, Array.getElem?_toList, ← gx]
 exact g k
noncomputable abbrev Fal (L : Keyed → Keyed → Bool) (xs : List Keyed) : Prop := Srt (fun x y => L y x) xs
theorem Srt.snocL (O : Ord L) {r : List Keyed} {x y : Keyed} (h : Srt L (r ++ [x])) (hy : L y x = false) : Srt L (r ++ [x] ++ [y]) := by
 refine Srt.snoc O h fun z hz => ?_
 rcases List.mem_append.mp hz with hz | hz
 ·exact O.trans _ _ _ ((List.pairwise_append.mp h).2.2 z hz x (by simp)) hy
 ·rw [List.mem_singleton.mp hz]; exact hy
inductive AsI (L : Keyed → Keyed → Bool) (tl : List Keyed) (j : Nat) : Option (Option Nat) × Nat → Prop
 | mk (r : List Keyed) (x : Keyed) (t : List Keyed) : tl = (r ++ [x]) ++ t → Srt L (r ++ [x]) → r.length + 1 = j → AsI L tl j (none, r.length + 1)
inductive AsP (L : Keyed → Keyed → Bool) (tl : List Keyed) : Option (Option Nat) × Nat → Prop
 | all : tl ≠ [] → Srt L tl → AsP L tl (none, tl.length)
 | stop (r : List Keyed) (x y : Keyed) (t : List Keyed) : tl = (r ++ [x]) ++ y :: t → Srt L (r ++ [x]) → L y x = true → AsP L tl (none, r.length + 1)
inductive AsJ (L : Keyed → Keyed → Bool) (tl : List Keyed) (j : Nat) (st : SortSt) : CT → SortSt → Prop
 | mk (c) : AsI L tl j c → AsJ L tl j st c st
inductive AsQ (L : Keyed → Keyed → Bool) (tl : List Keyed) (st : SortSt) : CT → SortSt → Prop
 | mk (c) : AsP L tl c → AsQ L tl st c st
theorem lo_get {l pre r t : List Keyed} {x y : Keyed} (ha : l = pre ++ ((r ++ [x]) ++ y :: t)) : l[pre.length + (r.length + 1)]? = some y ∧ l[pre.length + (r.length + 1) - 1]? = some x := by
 subst ha
 constructor
 ·rw [show pre ++ ((r ++ [x]) ++ y :: t) = (pre ++ (r ++ [x])) ++ y :: t by simp, show pre.length + (r.length + 1) = (pre ++ (r ++ [x])).length by simp]
  exact at_mid _ _ _
 ·rw [show pre ++ ((r ++ [x]) ++ y :: t) = (pre ++ r) ++ x :: (y :: t) by simp, show pre.length + (r.length + 1) - 1 = (pre ++ r).length by rw [List.length_append]; rfl]
  exact at_mid _ _ _
theorem wpS_asc (C : Cmp M A E s κ U L) {pre tl r0 t0 : List Keyed} {x0 : Keyed} {st : SortSt} {lo n0 nrem : Nat}
  (ha : (arrOf st).toList = pre ++ tl) (hlo : lo = pre.length) (hn : nrem = tl.length) (h0 : tl = (r0 ++ [x0]) ++ t0) (hn0 : n0 = r0.length + 1) (s0 : Srt L (r0 ++ [x0])) (hu : ∀ x ∈ (arrOf st).toList, U x) (hk : kindOf st = κ) :
  wpS M A E s (forIn [n0:nrem] ((none, n0) : CT) fun _ c => ascB lo c.2) (AsQ L tl st) st := by
 subst hlo; subst hn0; subst hn
 refine wpS_forRange (fun j => AsJ L tl j st) ?_ ?_ (.mk _ (.mk _ _ _ h0 s0 rfl))
 ·rintro j _ _ hj1 hj2 ⟨⟨r, x, t, e, sr, rfl⟩⟩
  cases t with
  | nil => rw [e, List.append_nil, List.length_append] at hj2; exact absurd hj2 (Nat.lt_irrefl _)
  | cons y t =>
   obtain ⟨g1, g2⟩ := lo_get (l := (arrOf st).toList) (pre := pre) (r := r) (x := x) (y := y) (t := t) (by rw [ha, e])
   refine wpS_bind (wpS_ltAt C g1 g2 hu hk (wpS_ite (fun q => wpS_pure (.mk _ (.stop r x y t e sr q))) fun q => ?_))
   have := AsI.mk (L := L) (tl := tl) (j := r.length + 1 + 1) (r ++ [x]) y t (by rw [e, List.append_assoc (r ++ [x])]; rfl) (sr.snocL C.ord (eq_false_of_ne_true q)) (by rw [List.length_append]; rfl)
   rw [List.length_append] at this
   exact wpS_pure (.mk _ this)
 ·rintro _ _ ⟨⟨r, x, t, e, sr, hr⟩⟩
  have e1 := congrArg List.length e
  rw [List.length_append, List.length_append] at e1
  have e2 : r.length + 1 = tl.length := Nat.le_antisymm (by rw [e1]; exact Nat.le_add_right _ _) (by rw [hr]; exact Nat.le_max_right _ _)
  have ht : t = [] := List.eq_nil_of_length_eq_zero (Nat.add_left_cancel (e1.symm.trans e2.symm))
  subst ht
  rw [List.append_nil] at e
  rw [e2]
  exact .mk _ (.all (by rw [e]; exact List.append_ne_nil_of_right_ne_nil _ (List.cons_ne_nil _ _)) (by rw [e]; exact sr))
structure FaI (L : Keyed → Keyed → Bool) (st0 : SortSt) (pre : List Keyed) (N m q : Nat) (D G t : List Keyed) (st : SortSt) : Prop where
 S : Ch st0 st
 arr : (arrOf st).toList = pre ++ ((D ++ G) ++ t)
 fal : Fal L (D ++ G)
 eqs : ∀ x ∈ G, ∀ y ∈ G, L x y = false
 lq : G.length = q + 1
 lm : D.length + G.length = m
 tot : m + t.length = N
inductive FaJ (L : Keyed → Keyed → Bool) (st0 : SortSt) (pre : List Keyed) (N j : Nat) : Option (Option Nat) × Nat × Nat → SortSt → Prop
 | mk (m q : Nat) (D G t : List Keyed) (st : SortSt) : FaI L st0 pre N m q D G t st → m = j → FaJ L st0 pre N j (none, m, q) st
inductive FaP (L : Keyed → Keyed → Bool) (st0 : SortSt) (pre : List Keyed) (N : Nat) : Option (Option Nat) × Nat × Nat → SortSt → Prop
 | mk (m q : Nat) (D G t : List Keyed) (st : SortSt) : FaI L st0 pre N m q D G t st → FaP L st0 pre N (none, m, q) st
theorem fal_turn {D G : List Keyed} (h : Fal L (D ++ G)) (he : ∀ x ∈ G, ∀ y ∈ G, L x y = false) : Fal L (D ++ G.reverse) := by
 obtain ⟨h1, h2, h3⟩ := List.pairwise_append.mp h
 refine List.pairwise_append.mpr ⟨h1, List.Pairwise.imp_of_mem (fun {a b} ha hb _ => he _ (List.mem_reverse.mp ha) _ (List.mem_reverse.mp hb)) (List.pairwise_of_forall (R := fun _ _ => True) (fun _ _ => trivial)), fun a ha b hb => h3 a ha b (List.mem_reverse.mp hb)⟩
theorem fal_snoc (O : Ord L) {D G : List Keyed} {x y : Keyed} (h : Fal L (D ++ G)) (hx : x ∈ G) (hG : ∀ z ∈ G, L z x = false) (hy : L x y = false) : ∀ z ∈ D ++ G, L z y = false := fun z hz => by
 have : L z x = false := by
  rcases List.mem_append.mp hz with hz | hz
  ·exact (List.pairwise_append.mp h).2.2 z hz x hx
  ·exact hG z hz
 exact O.trans _ _ _ hy this
theorem ne_snoc {R : List Keyed} (h : R ≠ []) : ∃ r x, R = r ++ [x] := ⟨R.dropLast, R.getLast h, (List.dropLast_concat_getLast h).symm⟩
theorem wpS_countEnd (C : Cmp M A E s κ U L) {pre R t : List Keyed} {lo nrem n : Nat} {st : SortSt} {Q : Option Nat → SortSt → Prop} (ha : (arrOf st).toList = pre ++ (R ++ t)) (hlo : lo = pre.length) (hn : n = R.length) (hrem : nrem = R.length + t.length) (hne : R ≠ []) (hd : Fal L R) (hu : ∀ x ∈ (arrOf st).toList, U x) (hk : kindOf st = κ)
  (hQ : ∀ st' run rest, Ch st st' → (arrOf st').toList = pre ++ (run ++ rest) → run ≠ [] → Srt L run → Q (some run.length) st') :
  wpS M A E s (cEnd lo nrem n) Q st := by
 refine wpS_bind (wpS_rev ha hlo (by rw [hlo, hn]) fun st1 S1 a1 => ?_)
 obtain ⟨r0, x0, e0⟩ := ne_snoc (R := R.reverse) (by simpa using hne)
 have sr : Srt L R.reverse := hd.unrev
 refine wpS_bind (wpS_mono (wpS_asc C (tl := R.reverse ++ t) (r0 := r0) (x0 := x0) (t0 := t) a1 hlo (by rw [hrem]; simp) (by rw [e0]) (by rw [hn, ← List.length_reverse, e0]; simp) (e0 ▸ sr) (S1.u hu) (S1.kind.trans hk)) ?_)
 rintro _ _ ⟨h⟩
 cases h with
 | all h1 h2 => exact wpS_pure (hQ st1 _ [] S1 (by rw [List.append_nil]; exact a1) h1 h2)
 | stop r x y t' e h2 _ =>
  have := hQ st1 (r ++ [x]) (y :: t') S1 (by rw [a1, e]) (by simp) h2
  rw [List.length_append] at this
  exact wpS_pure this
inductive FaR (L : Keyed → Keyed → Bool) (st0 : SortSt) (pre : List Keyed) (N m : Nat) : ForInStep (Option (Option Nat) × Nat × Nat) → SortSt → Prop
 | brk (q : Nat) (D G t : List Keyed) (st : SortSt) : FaI L st0 pre N m q D G t st → FaR L st0 pre N m (.done (none, m, q)) st
 | go (q : Nat) (D G t : List Keyed) (st : SortSt) : FaI L st0 pre N (m + 1) q D G t st → FaR L st0 pre N m (.yield (none, m + 1, q)) st
theorem faBody_ok (C : Cmp M A E s κ U L) {st0 st : SortSt} {pre D G t : List Keyed} {N m q : Nat} (hu : ∀ x ∈ (arrOf st0).toList, U x) (hk : kindOf st0 = κ) (I : FaI L st0 pre N m q D G t st) (hm : m < N) : wpS M A E s (faBody pre.length m q) (FaR L st0 pre N m) st := by
 obtain ⟨S, arr, fal, eqs, lq, lm, tot⟩ := I
 cases t with
 | nil => simp at tot; lia
 | cons y t =>
  obtain ⟨G0, x, rfl⟩ := ne_snoc (R := G) (by intro e; rw [e] at lq; simp at lq)
  have lm' : m = (D ++ G0).length + 1 := by rw [← lm]; simp; lia
  have xin : x ∈ G0 ++ [x] := by simp
  obtain ⟨g1, g2⟩ := lo_get (l := (arrOf st).toList) (pre := pre) (r := D ++ G0) (x := x) (y := y) (t := t) (by rw [arr]; simp)
  rw [← lm'] at g1 g2
  have tot' : m + 1 + t.length = N := by rw [← tot]; simp; lia
  refine wpS_bind (wpS_ltAt C g1 g2 (S.u hu) (S.kind.trans hk) ?_)
  refine wpS_ite (fun p => ?_) fun p => ?_
  ·have yx : ∀ z ∈ D ++ (G0 ++ [x]), L z y = false := fal_snoc C.ord fal xin (fun z hz => eqs z hz x xin) (C.ord.asym _ _ p)
   have one : ∀ a ∈ [y], ∀ b ∈ [y], L a b = false := fun a ha b hb => by rw [List.mem_singleton.mp ha, List.mem_singleton.mp hb]; exact C.ord.refl _
   refine wpS_ite (fun cq => ?_) fun cq => ?_
   ·have ll : D.length + (q + 1) = m := by rw [← lm, lq]
    refine wpS_bind (wpS_rev (p := pre ++ D) (q := G0 ++ [x]) (t := y :: t) (by rw [arr]; simp) (by rw [← ll, ← Nat.add_assoc, Nat.add_sub_cancel, List.length_append]) (by rw [List.length_append, lq, ← ll, Nat.add_assoc]) fun st4 S4 a4 => ?_)
    refine wpS_pure (.go 0 (D ++ (G0 ++ [x]).reverse) [y] t st4 ⟨S.trans S4, by rw [a4]; simp, Srt.snoc C.ord.flip (fal_turn fal eqs) fun z hz => yx z ?_, one, rfl, ?_, tot'⟩)
    ·rcases List.mem_append.mp hz with hz | hz
     ·exact List.mem_append_left _ hz
     ·exact List.mem_append_right _ (List.mem_reverse.mp hz)
    ·rw [List.length_append, List.length_reverse, lm]; rfl
   ·exact wpS_pure (.go 0 (D ++ (G0 ++ [x])) [y] t st ⟨S, by rw [arr]; simp, Srt.snoc C.ord.flip fal yx, one, rfl, by rw [List.length_append, lm]; rfl, tot'⟩)
  ·have p : L y x = false := eq_false_of_ne_true p
   refine wpS_bind (wpS_ltAt C g2 g1 (S.u hu) (S.kind.trans hk) ?_)
   refine wpS_ite (fun p2 => ?_) fun p2 => ?_
   ·exact wpS_pure (.brk q D (G0 ++ [x]) (y :: t) st ⟨S, arr, fal, eqs, lq, lm, tot⟩)
   ·have p2 : L x y = false := eq_false_of_ne_true p2
    have yx : ∀ z ∈ D ++ (G0 ++ [x]), L z y = false := fal_snoc C.ord fal xin (fun z hz => eqs z hz x xin) p2
    refine wpS_pure (.go (q + 1) D (G0 ++ [x] ++ [y]) t st ⟨S, by rw [arr]; simp, ?_, fun a ha b hb => ?_, by rw [List.length_append, lq]; rfl, by rw [List.length_append, ← Nat.add_assoc, lm]; rfl, tot'⟩)
    ·rw [← List.append_assoc]; exact Srt.snoc C.ord.flip fal yx
    ·have yz : ∀ z ∈ G0 ++ [x], L y z = false := fun z hz => C.ord.trans _ _ _ (eqs x xin z hz) p
     rcases List.mem_append.mp ha with ha | ha <;> rcases List.mem_append.mp hb with hb | hb
     ·exact eqs a ha b hb
     ·rw [List.mem_singleton.mp hb]; exact yx a (List.mem_append_right _ ha)
     ·rw [List.mem_singleton.mp ha]; exact yz b hb
     ·rw [List.mem_singleton.mp ha, List.mem_singleton.mp hb]; exact C.ord.refl _
theorem wpS_countFall (C : Cmp M A E s κ U L) {st : SortSt} {pre D t : List Keyed} {y : Keyed} {lo nrem n : Nat} {Q : Option Nat → SortSt → Prop} (ha : (arrOf st).toList = pre ++ ((D ++ [y]) ++ t)) (hlo : lo = pre.length) (hn : n = D.length) (hrem : nrem = D.length + 1 + t.length) (hd : Fal L (D ++ [y])) (hu : ∀ x ∈ (arrOf st).toList, U x) (hk : kindOf st = κ)
  (hQ : ∀ st' run rest, Ch st st' → (arrOf st').toList = pre ++ (run ++ rest) → run ≠ [] → Srt L run → Q (some run.length) st') : wpS M A E s (cFall lo nrem n) Q st := by
 subst hlo; subst hn
 refine wpS_bind (wpS_rule ?_)
 have I0 : FaI L st pre nrem (D.length + 1) 0 D [y] t st := ⟨.refl _, ha, hd, fun a ha b hb => by rw [List.mem_singleton.mp ha, List.mem_singleton.mp hb]; exact C.ord.refl _, rfl, rfl, hrem.symm⟩
 refine wpS_bind (wpS_mono (Q := FaP L st pre nrem) (wpS_forRange (fun j => FaJ L st pre nrem j) ?_ ?_ (.mk _ _ _ _ _ _ I0 rfl)) ?_)
 ·rintro j _ st3 hj1 hj2 ⟨m, q, D', G, t', _, I, rfl⟩
  refine wpS_mono (faBody_ok C hu hk I hj2) fun r st' h => ?_
  cases h with
  | brk q D G t _ I => exact .mk _ _ _ _ _ _ I
  | go q D G t _ I => exact .mk _ _ _ _ _ _ I rfl
 ·rintro _ st3 ⟨m, q, D', G, t', _, I, _⟩
  exact .mk _ _ _ _ _ _ I
 ·rintro _ st3 ⟨m, q, D', G, t', _, I⟩
  obtain ⟨S, arr, fal, eqs, lq, lm, tot⟩ := I
  have gne : G ≠ [] := by intro e; rw [e] at lq; simp at lq
  refine wpS_ite (fun cq => ?_) fun cq => ?_
  ·refine wpS_bind (wpS_rev (p := pre ++ D') (q := G) (t := t') (by rw [arr]; simp) (by rw [← lm, lq, ← Nat.add_assoc, Nat.add_sub_cancel, List.length_append]) (by rw [List.length_append, ← lm, Nat.add_assoc]) fun st4 S4 a4 => ?_)
   exact wpS_countEnd C (R := D' ++ G.reverse) (t := t') (by rw [a4]; simp) rfl (by rw [List.length_append, List.length_reverse, lm]) (by rw [List.length_append, List.length_reverse, lm, tot]) (by simp [gne]) (fal_turn fal eqs) (S4.u (S.u hu)) (S4.kind.trans (S.kind.trans hk)) fun st5 run rest S5 => hQ st5 run rest ((S.trans S4).trans S5)
  ·exact wpS_countEnd C (R := D' ++ G) arr rfl (by rw [List.length_append, lm]) (by rw [List.length_append, lm, tot]) (by simp [gne]) fal (S.u hu) (S.kind.trans hk) fun st5 run rest S5 => hQ st5 run rest (S.trans S5)
theorem wpS_countRun (C : Cmp M A E s κ U L) {pre tl : List Keyed} {lo nrem : Nat} {st : SortSt} {Q : Option Nat → SortSt → Prop} (ha : (arrOf st).toList = pre ++ tl) (hlo : lo = pre.length) (hrem : nrem = tl.length) (hne : tl ≠ []) (hu : ∀ x ∈ (arrOf st).toList, U x) (hk : kindOf st = κ)
  (hQ : ∀ st' run rest, Ch st st' → (arrOf st').toList = pre ++ (run ++ rest) → run ≠ [] → Srt L run → Q (some run.length) st') : wpS M A E s (countRunP lo nrem) Q st := by
 rw [countRunP_eq]
 cases tl with
 | nil => exact absurd rfl hne
 | cons z tl' =>
 generalize htl : z :: tl' = tl at *
 refine wpS_bind (wpS_mono (wpS_asc C (r0 := []) (x0 := z) (t0 := tl') ha hlo hrem htl.symm rfl (List.pairwise_singleton _ _) hu hk) ?_)
 rintro _ _ ⟨h⟩
 cases h with
 | all h1 h2 =>
  refine wpS_ite (fun _ => wpS_pure (hQ st tl [] (.refl _) (by rw [ha, List.append_nil]) h1 h2)) fun c => absurd (beq_iff_eq.mpr hrem.symm) c
 | stop r x y t e h2 lt =>
  have hl : nrem = r.length + 1 + (t.length + 1) := by rw [hrem, e]; simp; lia
  refine wpS_ite (fun c => ?_) fun _ => ?_
  ·have := beq_iff_eq.mp c; lia
  have ha' : (arrOf st).toList = pre ++ ((r ++ [x]) ++ y :: t) := by rw [ha, e]
  refine wpS_ite (fun c => ?_) fun c => ?_
  ·cases r with
   | nil => simp at c
   | cons f r =>
    obtain ⟨g1, g2⟩ := lo_get (l := (arrOf st).toList) (pre := pre) (r := f :: r) (x := x) (y := y) (t := t) ha'
    have gf : (arrOf st).toList[lo]? = some f := by rw [ha', hlo]; simp
    rw [← hlo] at g2
    refine wpS_bind (wpS_ltAt C gf g2 hu hk ?_)
    refine wpS_ite (fun _ => ?_) fun p => ?_
    ·have := hQ st (f :: r ++ [x]) (y :: t) (.refl _) ha' (by simp) h2
     rw [List.length_append] at this
     exact wpS_pure this
    ·have p : L f x = false := eq_false_of_ne_true p
     have fin : f ∈ f :: r ++ [x] := by simp
     have hx : ∀ z ∈ f :: r ++ [x], L x z = false := fun z hz => by
      rcases List.mem_append.mp hz with hz | hz
      ·exact (List.pairwise_append.mp h2).2.2 z hz x (by simp)
      ·rw [List.mem_singleton.mp hz]; exact C.ord.refl _
     have hf : ∀ z ∈ f :: r ++ [x], L z f = false := Srt.head_le C.ord h2
     have eqs : ∀ a ∈ f :: r ++ [x], ∀ b ∈ f :: r ++ [x], L a b = false := fun a ha b hb => C.ord.trans _ _ _ (C.ord.trans _ _ _ (hx b hb) p) (hf a ha)
     refine wpS_bind (wpS_rev (p := pre) (q := f :: r ++ [x]) (t := y :: t) ha' hlo (by rw [hlo]; simp) fun st2 S2 a2 => ?_)
     refine wpS_countFall C (D := (f :: r ++ [x]).reverse) (y := y) (t := t) (by rw [a2]; simp) hlo (by simp) (by rw [hl]; simp; lia) ?_ (S2.u hu) (S2.kind.trans hk) fun st5 run rest S5 => hQ st5 run rest (S2.trans S5)
     refine Srt.snoc C.ord.flip ?_ fun z hz => ?_
     ·exact List.Pairwise.imp_of_mem (fun {a b} ha hb _ => eqs _ (List.mem_reverse.mp ha) _ (List.mem_reverse.mp hb)) (List.pairwise_of_forall (R := fun _ _ => True) (fun _ _ => trivial))
     ·exact C.ord.asym _ _ (C.ord.lt_le lt (eqs z (List.mem_reverse.mp hz) x (by simp)))
  ·have hr : r = [] := List.eq_nil_of_length_eq_zero (by lia)
   subst hr
   refine wpS_countFall C (D := [x]) (y := y) (t := t) (by rw [ha']; simp) hlo rfl (by rw [hl]; simp; lia) ?_ hu hk hQ
   exact List.pairwise_cons.mpr ⟨fun z hz => by rw [List.mem_singleton.mp hz]; exact C.ord.asym _ _ lt, List.pairwise_singleton _ _⟩
end
end Mine
end
-- text W8
section
namespace Mine
open PySem PyProof.Rows
noncomputable abbrev SF := ForInStep (Option Unit × Nat)
noncomputable abbrev SU := ForInStep (Option Unit × Unit)
noncomputable def srPush (lo n : Nat) : SM SF := do
 modify fun s => SortSt.mk' (kindOf s) (arrOf s) ((pendingOf s).push (lo, n, 0)) (gallopOf s) (failedOf s)
 pure (ForInStep.yield (none, lo + n))
noncomputable def srFold (pw : Nat) : SM SU := do
 let st ← get
 match (if (pendingOf st).size > 1 then (pendingOf st)[(pendingOf st).size - 2]? else none) with
 | some (_, _, older) => if older ≤ pw then pure (ForInStep.done (none, ())) else do
  let b ← mergeAtP ((pendingOf st).size - 2)
  if (!b) = true then pure (ForInStep.done (some (), ())) else pure (ForInStep.yield (none, ()))
 | _ => pure (ForInStep.done (none, ()))
noncomputable def setPw (pw : Nat) (s : SortSt) : SortSt := SortSt.mk' (kindOf s) (arrOf s) ((pendingOf s).modify ((pendingOf s).size - 1) fun (st, len, _) => (st, len, pw)) (gallopOf s) (failedOf s)
noncomputable def srMid (size lo n pw : Nat) : SM SF := do
 let r ← forIn [:size] ((none, ()) : Option Unit × Unit) fun _ _ => srFold pw
 match r.1 with
 | some r => pure (ForInStep.done (some r, lo))
 | none => do
  modify (setPw pw)
  srPush lo n
noncomputable def srJp (size lo n : Nat) : SM SF := do
 let st ← get
 match (pendingOf st).back? with
 | some (s1, n1, _) => srMid size lo n (powerP size (2 * s1 + n1) (2 * s1 + n1 + n1 + n) size)
 | _ => srPush lo n
noncomputable def srBody (size minrun lo : Nat) : SM SF :=
 if lo ≥ size then pure (ForInStep.done (none, lo)) else do
  let some n ← countRunP lo (size - lo) | pure (ForInStep.done (some (), lo))
  if n < minrun then do
   liftM (rule "list.sort.binary-insertion")
   let b ← binarySortP lo (min (size - lo) minrun) n
   if (!b) = true then pure (ForInStep.done (some (), lo)) else srJp size lo (min (size - lo) minrun)
  else srJp size lo n
noncomputable def srIdx (p : Array (Nat × Nat × Nat)) : Nat :=
 if (if p.size - 2 > 0 then p[p.size - 2 - 1]?.map (·.2.1) else none).any (· < (p[p.size - 2 + 1]?.elim 0 (·.2.1))) then p.size - 2 - 1 else p.size - 2
noncomputable def srLast : SM SU := do
 let st ← get
 if (pendingOf st).size ≤ 1 then pure (ForInStep.done (none, ())) else do
  let b ← mergeAtP (srIdx (pendingOf st))
  if (!b) = true then pure (ForInStep.done (some (), ())) else pure (ForInStep.yield (none, ()))
noncomputable def srEnd (size : Nat) : SM Unit := do
 let r ← forIn [:size] ((none, ()) : Option Unit × Unit) fun _ _ => srLast
 match r.1 with
 | some r => pure r
 | none => pure ()
noncomputable def srAll (size minrun : Nat) : SM Unit := do
 let r ← forIn [:size] ((none, 0) : Option Unit × Nat) fun _ c => srBody size minrun c.2
 match r.1 with
 | some r => pure r
 | none => srEnd size
theorem sortRunsP_eq : sortRunsP = (do
 let st ← get
 srAll (arrOf st).size (minRunP (arrOf st).size (arrOf st).size 0)) := by kernel_rfl
section
variable {M : Model} {A : Around} {E : Value → Shared → Prop} {s : Shared} {κ : SortKind} {U : Keyed → Prop} {L : Keyed → Keyed → Bool}
structure BiI (L : Keyed → Keyed → Bool) (run : List Keyed) (x : Keyed) (d l r : Nat) : Prop where
 lr : l ≤ r
 rk : r ≤ run.length
 d : d + r ≤ l + run.length
 lo : ∀ a ∈ run.take l, L x a = false
 hi : ∀ a ∈ run.drop r, L x a = true
inductive BiJ (L : Keyed → Keyed → Bool) (run : List Keyed) (x : Keyed) (d : Nat) (st : SortSt) : BT → SortSt → Prop
 | mk (l r : Nat) : BiI L run x d l r → BiJ L run x d st (none, l, r) st
inductive BiP (L : Keyed → Keyed → Bool) (run : List Keyed) (x : Keyed) (st : SortSt) : BT → SortSt → Prop
 | mk (l r : Nat) : l ≤ run.length → (∀ a ∈ run.take l, L x a = false) → (∀ a ∈ run.drop l, L x a = true) → BiP L run x st (none, l, r) st
inductive BiR (L : Keyed → Keyed → Bool) (run : List Keyed) (x : Keyed) (j : Nat) (st : SortSt) : ForInStep BT → SortSt → Prop
 | done (l r : Nat) : l ≤ run.length → (∀ a ∈ run.take l, L x a = false) → (∀ a ∈ run.drop l, L x a = true) → BiR L run x j st (.done (none, l, r)) st
 | go (l r : Nat) : BiI L run x j l r → BiR L run x j st (.yield (none, l, r)) st
theorem srt_le (O : Ord L) {run : List Keyed} {m : Nat} {e : Keyed} (h : Srt L run) (he : run[m]? = some e) : (∀ a ∈ run.take (m + 1), L e a = false) ∧ ∀ a ∈ run.drop m, L a e = false := by
 obtain ⟨hm, e1⟩ := List.getElem?_eq_some_iff.mp he
 have e2 : run.drop m = e :: run.drop (m + 1) := by rw [List.drop_eq_getElem_cons hm, e1]
 have h' := h
 rw [← List.take_append_drop m run, e2] at h'
 obtain ⟨h1, h2, h3⟩ := List.pairwise_append.mp h'
 refine ⟨fun a ha => ?_, fun a ha => ?_⟩
 ·rw [List.take_add_one, he] at ha
  rcases List.mem_append.mp ha with ha | ha
  ·exact h3 a ha e (.head _)
  ·rw [show a = e by simpa using ha]; exact O.refl _
 ·rw [e2] at ha; exact Srt.head_le O h2 a ha
theorem mid2 {l r : Nat} (h : l < r) : l ≤ (l + r) / 2 ∧ (l + r) / 2 < r := by lia
structure BsI (L : Keyed → Keyed → Bool) (st0 : SortSt) (pre : List Keyed) (N k : Nat) (run t : List Keyed) (st : SortSt) : Prop where
 S : Ch st0 st
 arr : (arrOf st).toList = pre ++ (run ++ t)
 srt : Srt L run
 len : run.length = k
 tot : run.length + t.length = N
inductive BsJ (L : Keyed → Keyed → Bool) (st0 : SortSt) (pre : List Keyed) (N k : Nat) : Option Bool × PUnit → SortSt → Prop
 | mk (run t : List Keyed) (u : PUnit) (st : SortSt) : BsI L st0 pre N k run t st → BsJ L st0 pre N k (none, u) st
theorem wpS_biB (C : Cmp M A E s κ U L) {pre run t : List Keyed} {x : Keyed} {l r j : Nat} {st : SortSt} (ha : (arrOf st).toList = pre ++ (run ++ x :: t)) (sr : Srt L run) (hu : ∀ x ∈ (arrOf st).toList, U x) (hk : kindOf st = κ) (I : BiI L run x j l r) : wpS M A E s (biB pre.length run.length l r) (BiR L run x (j + 1) st) st := by
 obtain ⟨b1, b2, b3, b4, b5⟩ := I
 refine wpS_ite (fun hge => ?_) fun hge => ?_
 ·cases Nat.le_antisymm b1 hge
  exact wpS_pure (.done l l b2 b4 b5)
 ·obtain ⟨hl, hm⟩ := mid2 (Nat.not_le.mp hge)
  generalize (l + r) / 2 = m at hl hm ⊢
  have hmr := Nat.lt_of_lt_of_le hm b2
  have gm : run[m]? = some run[m] := List.getElem?_eq_getElem hmr
  generalize run[m] = e at gm
  have gm' : (arrOf st).toList[pre.length + m]? = some e := by
   rw [ha, get_off, List.getElem?_append_left hmr]; exact gm
  have gk : (arrOf st).toList[pre.length + run.length]? = some x := by
   rw [ha, get_off]; exact at_mid _ _ _
  obtain ⟨w1, w2⟩ := srt_le C.ord sr gm
  refine wpS_bind (wpS_ltAt C gk gm' hu hk (wpS_ite (fun p => ?_) fun p => ?_))
  ·exact wpS_pure (.go l m ⟨hl, Nat.le_of_lt hmr, by lia, b4, fun a ha => C.ord.lt_le p (w2 a ha)⟩)
  ·exact wpS_pure (.go (m + 1) r ⟨hm, b2, by lia, fun a ha => C.ord.trans _ _ _ (w1 a ha) (eq_false_of_ne_true p), b5⟩)
inductive BsR (L : Keyed → Keyed → Bool) (st0 : SortSt) (pre : List Keyed) (N k : Nat) : ForInStep (Option Bool × PUnit) → SortSt → Prop
 | go (run t : List Keyed) (u : PUnit) (st : SortSt) : BsI L st0 pre N k run t st → BsR L st0 pre N k (.yield (none, u)) st
theorem wpS_bsB (C : Cmp M A E s κ U L) {pre run t : List Keyed} {x : Keyed} {N : Nat} {st0 st : SortSt} (hu : ∀ x ∈ (arrOf st0).toList, U x) (hk : kindOf st0 = κ) (I : BsI L st0 pre N run.length run (x :: t) st) : wpS M A E s (bsB pre.length run.length) (BsR L st0 pre N (run.length + 1)) st := by
 obtain ⟨S1, a1, s1, _, tot⟩ := I
 refine wpS_bind (wpS_mono (Q := BiP L run x st) (wpS_forRange (fun j => BiJ L run x j st) ?_ ?_ (.mk 0 run.length ⟨Nat.zero_le _, Nat.le_refl _, Nat.le_refl _, fun a ha => (nomatch ha), fun a ha => by rw [List.drop_length] at ha; cases ha⟩)) ?_)
 ·rintro j _ _ _ hj ⟨l, r, I⟩
  refine wpS_mono (wpS_biB C a1 s1 (S1.u hu) (S1.kind.trans hk) I) fun r st' h => ?_
  cases h with
  | done l r h1 h2 h3 => exact .mk l r h1 h2 h3
  | go l r I => exact .mk l r I
 ·rintro _ _ ⟨l, r, ⟨b1, b2, b3, b4, b5⟩⟩
  rw [Nat.max_eq_right (Nat.zero_le _), Nat.add_comm l] at b3
  cases Nat.le_antisymm b1 (Nat.le_of_add_le_add_left b3)
  exact .mk l l b2 b4 b5
 ·rintro _ _ ⟨l, r, b1, b4, b5⟩
  have hl : (run.take l).length = l := by rw [List.length_take]; exact Nat.min_eq_left b1
  have lr : l + (run.drop l).length = run.length := by rw [List.length_drop]; exact Nat.add_sub_cancel' b1
  refine wpS_bind (wpS_moveDown (p := pre ++ run.take l) (b := run.drop l) (x := x) (t := t) (by rw [a1, List.append_assoc, ← List.append_assoc (run.take l), List.take_append_drop]) (by rw [List.length_append, hl]) (by rw [List.length_append, hl, Nat.add_assoc, lr]) fun st3 S3 a3 => ?_)
  have ln : (run.take l ++ x :: run.drop l).length = run.length + 1 := by rw [List.length_append, List.length_cons, hl, ← Nat.add_assoc, lr]
  refine wpS_pure (.go (run.take l ++ x :: run.drop l) t _ st3 ⟨S1.trans S3, by rw [a3, List.append_assoc, List.append_assoc]; rfl, ?_, ln, by rw [ln, ← tot, List.length_cons, Nat.add_assoc, Nat.add_comm 1]⟩)
  rw [← List.take_append_drop l run] at s1
  obtain ⟨q1, q2, q3⟩ := List.pairwise_append.mp s1
  refine List.pairwise_append.mpr ⟨q1, List.pairwise_cons.mpr ⟨fun a ha => C.ord.asym _ _ (b5 a ha), q2⟩, fun a ha b hb => ?_⟩
  rcases List.mem_cons.mp hb with rfl | hb
  ·exact b4 a ha
  ·exact q3 a ha b hb
theorem wpS_binarySort (C : Cmp M A E s κ U L) {pre run t : List Keyed} {lo n ok : Nat} {st : SortSt} {Q : Bool → SortSt → Prop} (ha : (arrOf st).toList = pre ++ (run ++ t)) (hlo : lo = pre.length) (hok : ok = run.length) (h1 : run ≠ []) (h2 : run.length ≤ n) (hn : n ≤ run.length + t.length) (sr : Srt L run) (hu : ∀ x ∈ (arrOf st).toList, U x) (hk : kindOf st = κ)
  (hQ : ∀ st' run' t', Ch st st' → (arrOf st').toList = pre ++ (run' ++ t') → run'.length = n → Srt L run' → Q true st') : wpS M A E s (binarySortP lo n ok) Q st := by
 rw [binarySortP_eq]
 have e1 : max run.length 1 = run.length := Nat.max_eq_left (List.length_pos_iff.mpr h1)
 subst hlo; subst hok
 rw [e1]
 refine wpS_bind (wpS_mono (Q := BsJ L st pre (run.length + t.length) n) (wpS_forRange (fun k => BsJ L st pre (run.length + t.length) k) ?_ ?_ (.mk run t _ st ⟨.refl _, ha, sr, rfl, rfl⟩)) ?_)
 ·rintro k _ st1 hk1 hk2 ⟨run1, t1, _, _, I⟩
  cases I.len
  cases t1 with
  | nil => exact absurd I.tot (Nat.ne_of_lt (Nat.lt_of_lt_of_le hk2 hn))
  | cons x t1 =>
   refine wpS_mono (wpS_bsB C hu hk I) fun r st' h => ?_
   cases h with
   | go run t u _ I => exact .mk run t u st' I
 ·rintro _ st1 ⟨run1, t1, u, _, I⟩
  rw [Nat.max_eq_right h2] at I
  exact .mk run1 t1 u st1 I
 ·rintro _ st1 ⟨run1, t1, u, _, I⟩
  exact wpS_pure (hQ st1 run1 t1 I.S I.arr I.len I.srt)
structure Rn (L : Keyed → Keyed → Bool) (κ : SortKind) (a₀ : List Keyed) (st : SortSt) (segs : List (List Keyed)) (rest : List Keyed) : Prop where
 runs : Runs L st segs rest
 perm : (arrOf st).toList.Perm a₀
 kind : kindOf st = κ
 fail : failedOf st = none
theorem Rn.size {a₀ : List Keyed} {st : SortSt} {segs : List (List Keyed)} {rest : List Keyed} (h : Rn L κ a₀ st segs rest) : (arrOf st).size = a₀.length := by rw [← Array.length_toList]; exact h.perm.length_eq
theorem Rn.u {a₀ : List Keyed} {st : SortSt} {segs : List (List Keyed)} {rest : List Keyed} (h : Rn L κ a₀ st segs rest) (hu : ∀ x ∈ a₀, U x) : ∀ x ∈ (arrOf st).toList, U x := fun y hy => hu y (h.perm.mem_iff.mp hy)
theorem Rn.pendSize {a₀ : List Keyed} {st : SortSt} {segs : List (List Keyed)} {rest : List Keyed} (h : Rn L κ a₀ st segs rest) : (pendingOf st).size = segs.length := by
 have := congrArg List.length h.runs.pend
 rw [List.length_map, starts_length, Array.length_toList] at this; exact this
theorem Rn.tot {a₀ : List Keyed} {st : SortSt} {segs : List (List Keyed)} {rest : List Keyed} (h : Rn L κ a₀ st segs rest) : segs.flatten.length + rest.length = a₀.length := by
 rw [← List.length_append, ← h.runs.arr]; exact h.perm.length_eq
inductive SrJ (L : Keyed → Keyed → Bool) (κ : SortKind) (a₀ : List Keyed) (j : Nat) : Option Unit × Nat → SortSt → Prop
 | start (st : SortSt) : j = 0 → Rn L κ a₀ st [] (arrOf st).toList → SrJ L κ a₀ j (none, 0) st
 | fin (st : SortSt) (segs : List (List Keyed)) : segs.length ≤ 1 → Rn L κ a₀ st segs [] → SrJ L κ a₀ j (none, a₀.length) st
inductive SrQ (L : Keyed → Keyed → Bool) (κ : SortKind) (a₀ : List Keyed) : Option Unit × Nat → SortSt → Prop
 | mk (lo : Nat) (segs : List (List Keyed)) (st : SortSt) : segs.length ≤ 1 → Rn L κ a₀ st segs [] → SrQ L κ a₀ (none, lo) st
inductive SrR (L : Keyed → Keyed → Bool) (κ : SortKind) (a₀ : List Keyed) (j : Nat) : SF → SortSt → Prop
 | done (c) (st) : SrQ L κ a₀ c st → SrR L κ a₀ j (.done c) st
 | go (c) (st) : SrJ L κ a₀ j c st → SrR L κ a₀ j (.yield c) st
theorem wpS_srPush {a₀ run : List Keyed} {j : Nat} {st : SortSt} (R : Rn L κ a₀ st [] run) (ne : run ≠ []) (sr : Srt L run) : wpS M A E s (srPush 0 run.length) (SrR L κ a₀ j) st := by
 have e : 0 + run.length = a₀.length := R.tot
 refine wpS_bind (wpS_modify (wpS_pure ?_))
 rw [e]
 refine .go _ _ (.fin _ [run] (Nat.le_refl _) ⟨⟨?_, fun g hg => ?_, ?_⟩, R.perm, R.kind, R.fail⟩)
 ·refine R.runs.arr.trans ?_
  rw [List.flatten_cons, List.flatten_nil, List.append_nil, List.append_nil, List.nil_append]
 ·rw [List.mem_singleton.mp hg]
  exact ⟨ne, sr⟩
 ·refine (congrArg (List.map _) (Array.toList_push ..)).trans ?_
  rw [List.map_append, R.runs.pend]
  rfl
theorem wpS_srJp {a₀ run : List Keyed} {size j : Nat} {st : SortSt} (R : Rn L κ a₀ st [] run) (ne : run ≠ []) (sr : Srt L run) : wpS M A E s (srJp size 0 run.length) (SrR L κ a₀ j) st := by
 refine wpS_bind (wpS_get ?_)
 have hp : pendingOf st = #[] := Array.eq_empty_of_size_eq_zero R.pendSize
 split
 case h_2 => exact wpS_srPush R ne sr
 case h_1 hx => rw [hp] at hx; cases hx
theorem wpS_srBody (C : Cmp M A E s κ U L) {a₀ : List Keyed} (hu : ∀ x ∈ a₀, U x) {size j : Nat} {st : SortSt} (hsz : size = a₀.length) (h1 : 1 ≤ size) (R : Rn L κ a₀ st [] (arrOf st).toList) : wpS M A E s (srBody size size 0) (SrR L κ a₀ j) st := by
 refine wpS_ite (fun hge => absurd hge (Nat.not_le.mpr h1)) fun hge => ?_
 have hr : size - 0 = (arrOf st).toList.length := by rw [hsz]; exact R.perm.length_eq.symm
 refine wpS_bind (wpS_countRun C (pre := []) (tl := (arrOf st).toList) rfl rfl hr (fun e => by rw [e] at hr; rw [Nat.sub_zero] at hr; rw [hr] at h1; cases h1) (R.u hu) R.kind fun st2 run rest2 S2 a2 ne2 s2 => ?_)
 have len : ∀ {st3 : SortSt} {run3 rest3 : List Keyed}, Ch st st3 → (arrOf st3).toList = [] ++ (run3 ++ rest3) → run3.length + rest3.length = size := fun {st3 run3 rest3} S3 a3 => by
  have := S3.perm.length_eq
  rw [a3, List.nil_append, List.length_append, ← hr] at this
  exact this
 have key : ∀ {st3 : SortSt} {run3 rest3 : List Keyed}, Ch st st3 → (arrOf st3).toList = [] ++ (run3 ++ rest3) → size ≤ run3.length → Rn L κ a₀ st3 [] run3 := fun {st3 run3 rest3} S3 a3 h => by
  have := len S3 a3
  have e : rest3 = [] := List.eq_nil_of_length_eq_zero (by omega)
  rw [e, List.append_nil] at a3
  exact ⟨⟨a3, fun g hg => (nomatch hg), by rw [S3.pend]; exact R.runs.pend⟩, S3.perm.trans R.perm, S3.kind.trans R.kind, S3.fail.trans R.fail⟩
 refine wpS_ite (fun cm => ?_) fun cm => wpS_srJp (key S2 a2 (Nat.not_lt.mp cm)) ne2 s2
 have len2 := len S2 a2
 have hmin : min (size - 0) size = size := Nat.min_self _
 rw [hmin]
 refine wpS_bind (wpS_rule (wpS_bind (wpS_binarySort C (pre := []) (run := run) (t := rest2) a2 rfl rfl ne2 (Nat.le_of_lt cm) (by omega) s2 (S2.u (R.u hu)) (S2.kind.trans R.kind) fun st3 run3 rest3 S3 a3 l3 s3 => ?_)))
 have hk := key (S2.trans S3) a3 (Nat.le_of_eq l3.symm)
 rw [← l3] at h1 ⊢
 exact wpS_srJp hk (List.length_pos_iff.mp h1) s3
inductive SeJ (L : Keyed → Keyed → Bool) (κ : SortKind) (a₀ : List Keyed) : Option Unit × Unit → SortSt → Prop
 | mk (st : SortSt) (segs : List (List Keyed)) : Rn L κ a₀ st segs [] → segs.length ≤ 1 → SeJ L κ a₀ (none, ()) st
theorem Rn.last {a₀ : List Keyed} {st : SortSt} {segs : List (List Keyed)} (R : Rn L κ a₀ st segs []) (h1 : 1 ≤ a₀.length) (hl : segs.length ≤ 1) : Srt L (arrOf st).toList := by
 have tot := R.tot
 rw [R.runs.arr, List.append_nil]
 cases segs with
 | nil => rw [← tot] at h1; cases h1
 | cons g r => cases r with
  | nil => rw [List.flatten_cons, List.flatten_nil, List.append_nil]; exact (R.runs.srt g (.head _)).2
  | cons => exact absurd hl (Nat.not_le.mpr (Nat.succ_lt_succ (Nat.succ_pos _)))
theorem wpS_srEnd {a₀ : List Keyed} {size : Nat} {st : SortSt} {segs : List (List Keyed)} {Q : Unit → SortSt → Prop} (h1 : 1 ≤ a₀.length) (R : Rn L κ a₀ st segs []) (hl : segs.length ≤ 1)
  (hQ : ∀ st', (arrOf st').toList.Perm a₀ → Srt L (arrOf st').toList → failedOf st' = none → Q () st') : wpS M A E s (srEnd size) Q st := by
 refine wpS_bind (wpS_mono (Q := SeJ L κ a₀) (wpS_forRange (fun _ => SeJ L κ a₀) ?_ (fun c st' h => h) (.mk st segs R hl)) ?_)
 ·rintro _ _ _ _ _ ⟨st1, segs1, R1, hl1⟩
  refine wpS_bind (wpS_get (wpS_ite (fun c => wpS_pure (.mk _ segs1 R1 hl1)) fun c => absurd ?_ c))
  rw [R1.pendSize]; exact hl1
 ·rintro _ st1 ⟨_, segs1, R1, hl⟩
  exact wpS_pure (hQ st1 R1.perm (R1.last h1 hl) R1.fail)
theorem wpS_sortRuns (C : Cmp M A E s κ U L) {st : SortSt} {Q : Unit → SortSt → Prop} (hu : ∀ x ∈ (arrOf st).toList, U x) (hk : kindOf st = κ) (hf : failedOf st = none) (hp : pendingOf st = #[]) (h1 : 1 ≤ (arrOf st).size) (h64 : (arrOf st).size < 64)
  (hQ : ∀ st', (arrOf st').toList.Perm (arrOf st).toList → Srt L (arrOf st').toList → failedOf st' = none → Q () st') : wpS M A E s sortRunsP Q st := by
 rw [sortRunsP_eq]
 refine wpS_bind (wpS_get ?_)
 have hsz := (Array.length_toList (xs := arrOf st)).symm
 generalize (arrOf st).size = size at h1 h64 hsz ⊢
 have hm : minRunP size size 0 = size := by
  obtain ⟨n, rfl⟩ : ∃ n, size = n + 1 := ⟨size - 1, by omega⟩
  show (if n + 1 < 64 then n + 1 + 0 else minRunP n ((n + 1) / 2) (max 0 ((n + 1) % 2))) = n + 1
  rw [if_pos h64]
 rw [hm]
 have R0 : Rn L κ (arrOf st).toList st [] (arrOf st).toList := ⟨⟨rfl, fun g hg => (by cases hg), (by rw [hp]; rfl)⟩, .refl _, hk, hf⟩
 refine wpS_bind (wpS_mono (Q := SrQ L κ (arrOf st).toList) (wpS_forRange (fun j => SrJ L κ (arrOf st).toList j) ?_ ?_ (.start st rfl R0)) ?_)
 ·intro j c st1 _ _ h
  cases h with
  | start st1 hj R =>
   refine wpS_mono (wpS_srBody (j := j + 1) C hu hsz h1 R) fun r st' h => ?_
   cases h with
   | done _ _ h => exact h
   | go _ _ h => exact h
  | fin st1 segs hl R =>
   exact wpS_ite (fun _ => wpS_pure (.mk _ segs _ hl R)) fun h => absurd (Nat.le_of_eq hsz) h
 ·intro c st1 h
  cases h with
  | start st1 hj R => exact absurd (Nat.le_trans h1 (Nat.le_trans (Nat.le_max_right 0 size) (Nat.le_of_eq hj))) (by decide)
  | fin st1 segs hl R => exact .mk _ segs _ hl R
 ·rintro _ _ ⟨lo, segs, st1, hl, R⟩
  exact wpS_srEnd (by rw [← hsz]; exact h1) R hl hQ
end
end Mine
end
-- text T9
section
namespace Mine
open PySem PyProof.Rows PySem.AutoSeq1
section
variable {prog : Program} {w : World} {A : Around} {E : Value → Shared → Prop} {s : Shared}
end
end Mine
end
-- text T10
section
namespace Mine
open PySem PyProof.Rows
theorem ltS_ord : Ord ltS := by
 refine ⟨fun x y h => ?_, fun x y z h1 h2 => ?_⟩
 ·unfold ltS at *
  have h := of_decide_eq_true h
  exact decide_eq_false (List.lt_asymm h)
 ·unfold ltS at *
  have h1 : ¬ y.cps.toList < x.cps.toList := of_decide_eq_false h1
  have h2 : ¬ z.cps.toList < y.cps.toList := of_decide_eq_false h2
  refine decide_eq_false ?_
  exact List.not_lt.mpr (List.le_trans (List.not_lt.mp h1) (List.not_lt.mp h2))
theorem ltS_tri {x y : Str} (h : ltS x y = false) (h' : ltS y x = false) : x = y := by
 unfold ltS at *
 have h1 : ¬ x.cps.toList < y.cps.toList := of_decide_eq_false h
 have h2 : ¬ y.cps.toList < x.cps.toList := of_decide_eq_false h'
 have e : x.cps.toList = y.cps.toList := List.le_antisymm (List.not_lt.mp h2) (List.not_lt.mp h1)
 cases x; cases y; simp only [Str.mk.injEq]; exact Array.toList_inj.mp e
theorem ltL_tri : ∀ {x y : List Str}, ltL x y = false → ltL y x = false → x = y
 | [], [], _, _ => rfl
 | [], b :: q, h, _ => by simp [ltL] at h
 | a :: r, [], _, h => by simp [ltL] at h
 | a :: r, b :: q, h1, h2 => by
  by_cases e : a = b
  ·subst e
   simp only [ltL, if_true] at h1 h2
   rw [ltL_tri h1 h2]
  ·have e' : ¬ b = a := fun q => e q.symm
   simp only [ltL, e, e', if_false] at h1 h2
   exact absurd (ltS_tri h1 h2) e
theorem ltL_asym : ∀ x y : List Str, ltL x y = true → ltL y x = false
 | [], [], h => by simp [ltL] at h
 | [], b :: q, _ => rfl
 | a :: r, [], h => by simp [ltL] at h
 | a :: r, b :: q, h => by
  by_cases e : a = b
  ·subst e
   simp only [ltL, if_true] at h ⊢
   exact ltL_asym r q h
  ·have e' : ¬ b = a := fun q => e q.symm
   simp only [ltL, e, e', if_false] at h ⊢
   exact ltS_ord.asym _ _ h
theorem ltL_trans : ∀ x y z : List Str, ltL y x = false → ltL z y = false → ltL z x = false
 | [], _, [], _, _ => rfl
 | x, [], z, h1, h2 => by
  cases x with
  | nil => cases z with
   | nil => rfl
   | cons => rfl
  | cons a r => simp [ltL] at h1
 | [], b :: q, c :: p, _, _ => rfl
 | a :: r, b :: q, [], _, h2 => by simp [ltL] at h2
 | a :: r, b :: q, c :: p, h1, h2 => by
  by_cases e1 : b = a
  ·subst e1
   by_cases e2 : c = b
   ·subst e2
    simp only [ltL, if_true] at h1 h2 ⊢
    exact ltL_trans r q p h1 h2
   ·simp only [ltL, e2, if_false] at h2 ⊢; exact h2
  ·simp only [ltL, e1, if_false] at h1
   by_cases e2 : c = b
   ·subst e2
    simp only [ltL, e1, if_false]; exact h1
   ·simp only [ltL, e2, if_false] at h2
    by_cases e3 : c = a
    ·subst e3
     exact absurd (ltS_tri h2 h1) e2
    ·simp only [ltL, e3, if_false]
     exact ltS_ord.trans _ _ _ h1 h2
noncomputable def ltK (x y : Int × List Str) : Bool := if x.1 = y.1 then ltL x.2 y.2 else decide (x.1 < y.1)
theorem ltK_ord : Ord ltK := by
 refine ⟨fun x y h => ?_, fun x y z h1 h2 => ?_⟩
 ·unfold ltK at *
  by_cases e : x.1 = y.1
  ·rw [if_pos e] at h; rw [if_pos e.symm]; exact ltL_asym _ _ h
  ·rw [if_neg e] at h; rw [if_neg fun q => e q.symm]
   have := of_decide_eq_true h
   exact decide_eq_false (by omega)
 ·unfold ltK at *
  by_cases e1 : y.1 = x.1
  ·rw [if_pos e1] at h1
   by_cases e2 : z.1 = y.1
   ·rw [if_pos e2] at h2; rw [if_pos (e2.trans e1)]; exact ltL_trans _ _ _ h1 h2
   ·rw [if_neg e2] at h2; rw [if_neg fun q => e2 (q.trans e1.symm)]
    have := of_decide_eq_false h2
    exact decide_eq_false (by omega)
  ·rw [if_neg e1] at h1
   have w1 := of_decide_eq_false h1
   by_cases e2 : z.1 = y.1
   ·rw [if_neg fun q => e1 (e2.symm.trans q)]
    exact decide_eq_false (by omega)
   ·rw [if_neg e2] at h2
    have w2 := of_decide_eq_false h2
    by_cases e3 : z.1 = x.1
    ·omega
    ·rw [if_neg e3]; exact decide_eq_false (by omega)
theorem Ord.on {α β : Type} {L : α → α → Bool} (h : Ord L) (f : β → α) : Ord fun x y => L (f x) (f y) := ⟨fun x y => h.asym _ _, fun x y z => h.trans _ _ _⟩
section
variable {prog : Program} {w : World} {A : Around} {E : Value → Shared → Prop} {s : Shared}
theorem wpS_lt {κ : SortKind} {x y : Keyed} {c : Bool} {st : SortSt} {Q : Option Bool → SortSt → Prop} (hk : kindOf st = κ) (h : ∀ (Q' : Bool → Shared → Prop) (E' : Value → Shared → Prop), Q' c s → wpAny (model prog w) A (keyLt' κ x.1 y.1) Q' E' s) (hQ : Q (some c) st) :
  wpS (model prog w) A E s (lt' x y) Q st := by
 rw [lt'_eq]
 refine wpS_bind (wpS_get ?_)
 rw [hk]
 refine wpS_bind (wpS_lift (wpAny_attempt (h _ _ ⟨rfl, ?_⟩)))
 exact wpS_pure hQ
noncomputable def strOf : Value → Str
 | .str x _ => x
 | _ => Str.empty
noncomputable def UStr (x : Keyed) : Prop := ∃ a t, x.1 = .str a t
theorem cmpS : Cmp (model prog w) A E s oneType' UStr (fun x y => ltS (strOf x.1) (strOf y.1)) := by
 refine ⟨ltS_ord.on (fun x : Keyed => strOf x.1), ?_⟩
 rintro ⟨x, x'⟩ ⟨y, y'⟩ ⟨a, t, e1⟩ ⟨b, u, e2⟩ st Q hk hQ
 dsimp only at e1 e2
 subst e1; subst e2
 refine wpS_lt hk (fun Q' E' hq => ?_) hQ
 rw [keyLt'_oneType]
 exact oneLt_str hq
noncomputable def intOf : Value → Int
 | .int i _ => i
 | _ => 0
noncomputable def UInt (x : Keyed) : Prop := ∃ a t, x.1 = .int a t
theorem cmpI : Cmp (model prog w) A E s oneType' UInt (fun x y => decide (intOf x.1 < intOf y.1)) := by
 refine ⟨⟨fun x y h => ?_, fun x y z h1 h2 => ?_⟩, ?_⟩
 ·have := of_decide_eq_true h; exact decide_eq_false (by omega)
 ·have w1 := of_decide_eq_false h1; have w2 := of_decide_eq_false h2; exact decide_eq_false (by omega)
 rintro ⟨x, x'⟩ ⟨y, y'⟩ ⟨a, t, e1⟩ ⟨b, u, e2⟩ st Q hk hQ
 dsimp only at e1 e2
 subst e1; subst e2
 refine wpS_lt hk (fun Q' E' hq => ?_) hQ
 rw [keyLt'_oneType]
 exact oneLt_int hq
end
end Mine
end
-- text T11
section
namespace Mine
open PySem PyProof.Rows
section
variable {prog : Program} {w : World} {A : Around} {E : Value → Shared → Prop} {s : Shared}
theorem sort_keeps {h : Heap} {a : Addr} {vs : List Value} {out : Array Value} {n : Nat} (ho : h.get? a = some (seqObj "list" vs.toArray n)) : (∀ b o, b ≠ a → h.get? b = some o → (sortedHeap h a vs out).get? b = some o) ∧ ∃ e, (sortedHeap h a vs out).get? a = some (seqObj "list" out e) := by
 have ha : a < h.objs.size := Heap.lt_size ho
 obtain ⟨e1, ho1⟩ : ∃ e1, (h.update a (Obj.mapSeq fun _ => #[])).get? a = some (seqObj "list" #[] e1) := ⟨_, get?_update_seq ho (fun _ => #[])⟩
 have ho6 : (((h.update a (Obj.mapSeq fun _ => #[])).push (seqObj "tuple" vs.toArray 0)).push (seqObj "list" #[] 0)).get? a = some (seqObj "list" #[] e1) := by
  rw [Heap.get?_push_ne _ _ _ (by rw [size_push', Heap.size_update]; exact Nat.ne_of_lt (Nat.lt_succ_of_lt ha)), Heap.get?_push_ne _ _ _ (by rw [Heap.size_update]; exact Nat.ne_of_lt ha)]
  exact ho1
 refine ⟨fun b o hb e => ?_, _, get?_update_seq ho6 fun _ => out⟩
 unfold sortedHeap
 rw [(Heap.SameBut.update _ a _).2 b hb]
 exact Heap.get?_push_of_some _ (Heap.get?_push_of_some _ (by rw [(Heap.SameBut.update _ a _).2 b hb]; exact e))
theorem zip_self {α : Type} : ∀ vs : List α, vs.zip vs = vs.map fun v => (v, v)
 | [] => rfl
 | v :: r => by simp [zip_self r]
theorem list_sort_any {κ : SortKind} {L : Keyed → Keyed → Bool} {a : Addr} {vs : List Value} {n : Nat} {P : PySem.Fin → Shared → Prop} (ho : s.heap.get? a = some (seqObj "list" vs.toArray n))
  (hkk : ∀ s' : Shared, (∀ b o, b ≠ a → s.heap.get? b = some o → s'.heap.get? b = some o) → 2 ≤ vs.length → ∀ Q : SortKind → Shared → Prop, Q κ s' → wpAny (model prog w) A (keyKind' vs.toArray) Q E s')
  (hC : ∀ s' : Shared, (∀ b o, b ≠ a → s.heap.get? b = some o → s'.heap.get? b = some o) → ∃ U' : Keyed → Prop, (∀ v ∈ vs, U' (v, v)) ∧ Cmp (model prog w) A E s' κ U' L) (hsz0 : vs.length < 64)
  (h : ∀ ws : List Value, ws.Perm vs → Srt (fun v u => L (v, v) (u, u)) ws → P (.done (.ret .none)) { s with heap := sortedHeap s.heap a vs ws.toArray }) :
  wpAny (model prog w) A (Builtin.«list.sort» ⟨[.ref a], []⟩) P E s := by
 rw [list_sort_plain]
 have ha : a < s.heap.objs.size := Heap.lt_size ho
 have hsz9 : vs.length ≤ sizeLine := Nat.le_trans (Nat.le_of_lt hsz0) (Nat.le_of_ble_eq_true rfl)
 refine wpAny_bind (listItems_at ho rfl ?_)
 refine wpAny_bind (listUpdate_at ho rfl ?_)
 obtain ⟨e1, ho1⟩ : ∃ e1, (s.heap.update a (Obj.mapSeq fun _ => #[])).get? a = some (seqObj "list" #[] e1) := ⟨_, get?_update_seq ho (fun _ => #[])⟩
 refine wpAny_bind (seqEpoch_at ho1 rfl ?_)
 refine wpAny_bind (wpAny_newTuple ?_)
 refine wpAny_bind (wpAny_newList ?_)
 refine wpAny_holding ?_
 have ho6 : (((s.heap.update a (Obj.mapSeq fun _ => #[])).push (seqObj "tuple" vs.toArray 0)).push (seqObj "list" #[] 0)).get? a = some (seqObj "list" #[] e1) := by
  rw [Heap.get?_push_ne _ _ _ (by rw [size_push', Heap.size_update]; exact Nat.ne_of_lt (Nat.lt_succ_of_lt ha)), Heap.get?_push_ne _ _ _ (by rw [Heap.size_update]; exact Nat.ne_of_lt ha)]
  exact ho1
 show wpAny (model prog w) A _ P E { s with heap := ((s.heap.update a (Obj.mapSeq fun _ => #[])).push (seqObj "tuple" vs.toArray 0)).push (seqObj "list" #[] 0) }
 dsimp only
 have hsz : vs.toArray.size = vs.length := by simp
 have kp : ∀ b o, b ≠ a → s.heap.get? b = some o → ({ s with heap := ((s.heap.update a (Obj.mapSeq fun _ => #[])).push (seqObj "tuple" vs.toArray 0)).push (seqObj "list" #[] 0) } : Shared).heap.get? b = some o := fun b o hb e =>
  Heap.get?_push_of_some _ (Heap.get?_push_of_some _ (by rw [(Heap.SameBut.update _ a _).2 b hb]; exact e))
 have fin : ∀ st' : SortSt, (arrOf st').toList.Perm (pairsOf vs).toList → Srt L (arrOf st').toList → P (.done (.ret .none)) { s with heap := sortedHeap s.heap a vs ((arrOf st').map (·.2)) } := by
  intro st' hp hs
  have hpp : (pairsOf vs).toList = vs.map fun v => (v, v) := by
   rw [pairsOf_toList]; exact zip_self vs
  have same : ∀ x ∈ (arrOf st').toList, x = (x.2, x.2) := fun x hx => by
   have := hp.mem_iff.mp hx
   rw [hpp] at this
   obtain ⟨v, _, rfl⟩ := List.mem_map.mp this
   rfl
  have e : (arrOf st').map (·.2) = ((arrOf st').toList.map (·.2)).toArray := by
   apply Array.toList_inj.mp; simp
  rw [e]
  refine h _ ?_ ?_
  ·have := hp.map (·.2)
   rw [hpp, List.map_map] at this
   have e2 : List.map ((fun x : Keyed => x.2) ∘ fun v => (v, v)) vs = vs := by
    rw [show ((fun x : Keyed => x.2) ∘ fun v : Value => (v, v)) = id from rfl, List.map_id]
   rw [e2] at this; exact this
  ·refine List.pairwise_map.mpr (List.Pairwise.imp_of_mem (fun {x y} hx hy hxy => ?_) hs)
   show L (y.2, y.2) (x.2, x.2) = false
   rw [← same x hx, ← same y hy]; exact hxy
 by_cases h2 : vs.toArray.size < 2
 ·rw [if_pos h2, if_pos h2]
  refine wpAny_bind (wpAny_pure ?_)
  rw [StateT.run_pure]
  refine wpAny_bind (wpAny_pure ?_)
  dsimp only
  refine wpAny_bind (seqEpoch_at ho6 rfl ?_)
  refine wpAny_bind (listUpdate_at ho6 rfl ?_ (hsz2 := by rw [Array.size_map]; show (pairsOf vs).size ≤ _; rw [pairsOf_size, sizeLine_eq]; lia))
  simp only [bne_self_eq_false, Bool.false_eq_true, if_false]
  refine wpAny_pure (fin (SortSt.mk' general' (vs.toArray.zip vs.toArray) #[] 7 none) (List.Perm.refl _) ?_)
  show Srt L (pairsOf vs).toList
  rw [pairsOf_toList]
  rw [zip_self]
  clear hkk hC h fin kp ho6 ho
  match vs, hsz, h2 with
  | [], _, _ => exact .nil
  | [v], _, _ => exact List.pairwise_singleton _ _
  | v₁ :: v₂ :: rest, _, h2 => simp at h2; lia
 ·rw [if_neg h2, if_neg h2]
  refine wpAny_bind (hkk _ kp (by lia) _ ?_)
  obtain ⟨U', hU, hCm⟩ := hC _ kp
  refine wpAny_bind (wpAny_mono (wpS_sortRuns hCm (st := SortSt.mk' κ (vs.toArray.zip vs.toArray) #[] 7 none)
   (Q := fun _ st' => (arrOf st').toList.Perm (pairsOf vs).toList ∧ Srt L (arrOf st').toList ∧ failedOf st' = none) ?_ rfl rfl rfl ?_ (by show (pairsOf vs).size < 64; rw [pairsOf_size]; exact hsz0) fun st' a1 a2 a3 => ⟨a1, a2, a3⟩) ?_ fun _ _ e => e)
  ·intro x hx
   have hx' : x ∈ (pairsOf vs).toList := hx
   rw [pairsOf_toList] at hx'
   obtain ⟨q1, q2⟩ := mem_zip_self hx'
   obtain ⟨x1, x2⟩ := x
   dsimp only at q1 q2
   subst q1
   exact hU _ q2
  ·show 1 ≤ (pairsOf vs).size
   rw [pairsOf_size]; lia
  rintro ⟨⟨⟩, st'⟩ s' ⟨rfl, hp, hs, hf⟩
  dsimp only
  refine wpAny_bind (seqEpoch_at ho6 rfl ?_)
  refine wpAny_bind (listUpdate_at ho6 rfl ?_ (hsz2 := by
   have := hp.length_eq
   rw [Array.length_toList, Array.length_toList, pairsOf_size] at this
   refine Nat.le_trans (Nat.le_of_eq ((Array.size_map ..).trans this)) ?_; lia))
  rw [hf]
  simp only [bne_self_eq_false, Bool.false_eq_true, if_false]
  exact wpAny_pure (fin st' hp hs)
theorem sorted_any {κ : SortKind} {L : Keyed → Keyed → Bool} {v : Value} {Q : Value → Shared → Prop}
  (hcol : ∀ A' : Around, A'.handled = A.handled → A'.units ≤ A.units + 10 → wpAny (model prog w) A' (collect v) (fun vs s1 => (∀ b o, s.heap.get? b = some o → s1.heap.get? b = some o) ∧ s1.gens = s.gens ∧ s1.os = s.os ∧ vs.length < 64 ∧
   (∀ A'' : Around, A''.units ≤ A.units + 20 → ∀ s' : Shared, (∀ b o, s1.heap.get? b = some o → s'.heap.get? b = some o) → 2 ≤ vs.length → ∀ (Q : SortKind → Shared → Prop) (E : Value → Shared → Prop), Q κ s' → wpAny (model prog w) A'' (keyKind' vs.toArray) Q E s') ∧
   (∀ A'' : Around, A''.units ≤ A.units + 20 → ∀ s' : Shared, (∀ b o, s1.heap.get? b = some o → s'.heap.get? b = some o) → ∀ E : Value → Shared → Prop, ∃ U' : Keyed → Prop, (∀ v ∈ vs, U' (v, v)) ∧ Cmp (model prog w) A'' E s' κ U' L) ∧
   (∀ ws : List Value, ws.Perm vs → Srt (fun v u => L (v, v) (u, u)) ws → ∀ s2 D e, s.heap.get? D = none → (∀ b o, s.heap.get? b = some o → s2.heap.get? b = some o) → s2.gens = s.gens → s2.os = s.os → s2.heap.get? D = some { cls := .type "list", data := .seq ws.toArray e } → Q (.ref D) s2)) E s) :
  wpAny (model prog w) A (call (.builtin "sorted") [v]) Q E s := by
 refine Calls.call_function_entry kind_sorted plain_sorted entry_sorted (args_sorted1 _) ?_
 unfold Builtin.«sorted»
 refine wpAny_bind (m := checkCount "sorted" 1 1 _) (wpAny_pure ?_)
 refine wpAny_bind (wpAny_mono (hcol _ ?_ ?_) ?_ fun _ _ x => x)
 ·simp
 ·simp
 rintro vs s1 ⟨k1, g1, o1, hz, hkk, hC, hfin⟩
 refine wpAny_bind (wpAny_newList ?_)
 have hoL : (s1.heap.push { cls := .type "list", data := .seq vs.toArray }).get? s1.heap.objs.size = some (seqObj "list" vs.toArray 0) := Heap.get?_push_size _ rfl
 have old : ∀ b o, s1.heap.get? b = some o → b ≠ s1.heap.objs.size ∧ (s1.heap.push { cls := .type "list", data := .seq vs.toArray }).get? b = some o := fun b o e => ⟨Nat.ne_of_lt (Heap.lt_size e), Heap.get?_push_of_some _ e⟩
 refine wpAny_bind (wpAny_holding (wpAny_call_entry slot_list_sort ⟨_, hoL, rfl⟩ entry_list_sort (list_sort_any (κ := κ) (L := L) hoL (fun s' k h2 Q' hq => ?_) (fun s' k => ?_) hz fun ws hp hs => ⟨_, rfl, ?_⟩) (args_list_sort _)))
 ·exact hkk _ (by simp) s' (fun b o e => k b o (old b o e).1 (old b o e).2) h2 Q' _ hq
 ·exact hC _ (by simp) s' (fun b o e => k b o (old b o e).1 (old b o e).2) _
 ·obtain ⟨kp, e, ge⟩ := sort_keeps (out := ws.toArray) hoL
  have fresh : s.heap.get? s1.heap.objs.size = none := by
   cases q : s.heap.get? s1.heap.objs.size with
   | none => rfl
   | some o => exact absurd (Heap.lt_size (k1 _ _ q)) (Nat.lt_irrefl _)
  exact wpAny_pure ⟨_, rfl, hfin ws hp hs { ({ s1 with heap := s1.heap.push { cls := .type "list", data := .seq vs.toArray } } : Shared) with heap := _ } _ e fresh (fun b o hb => kp b o (old b o (k1 b o hb)).1 (old b o (k1 b o hb)).2) g1 o1 ge⟩
theorem collect_is {l : Addr} {vs : List Value} {n : Nat} {Q : List Value → Shared → Prop} (hl : s.heap.get? l = some { cls := .type "list", data := .seq vs.toArray n }) (hsz : vs.length ≤ sizeLine)
  (h : ∀ s1 : Shared, (∀ b o, s.heap.get? b = some o → s1.heap.get? b = some o) → s1.gens = s.gens → s1.os = s.os → Q vs s1) : wpAny (model prog w) A (collect (.ref l)) Q E s := by
 refine collect_list ⟨_, hl, rfl, n, rfl⟩ (h _ (fun b o e => ?_) rfl rfl) hsz
 have hb : b ≠ s.heap.objs.size := Nat.ne_of_lt (Heap.lt_size e)
 show ((s.heap.push (seqObj "list" #[] 0)).update s.heap.objs.size (Obj.mapSeq (· ++ vs.toArray))).get? b = some o
 rw [(Heap.SameBut.update _ _ _).2 b hb]
 exact Heap.get?_push_of_some _ e
end
end Mine
end
-- text A18
section
open PySem PySem.Calls PyProof.Rows PySem.W
namespace Mine
theorem IntsAre.vrs : ∀ {vs : List Value} {ns : List Int}, IntsAre vs ns → VRs vs (ns.map AV.int)
 | _, _, .nil => .nil
 | _, _, .cons n t h => .cons (.int _ _) (IntsAre.vrs h)
noncomputable def stOf (prog : Program) (w : World) (s : Shared) (mg mb : Str → Option Value) (book : Addr) (excs : Str → Option Addr) : St := { prog := prog, w := w, base := s.heap, os := s.os, mg := mg, mb := mb, book := book, excs := excs }
noncomputable def cx0 : Cx := { U := fun _ => none, fr := [], envs := [] }
noncomputable def heap0 (l : Addr) (ns : List Int) : AH := fun a => if a = l then some (.script ns) else none
theorem inv0 {prog : Program} {w : World} {s : Shared} {mg mb : Str → Option Value} {book : Addr} {excs : Str → Option Addr} {l : Addr} {vs : List Value} {ns : List Int} (hl : s.heap.IsList l vs.toArray) (hi : IntsAre vs ns) (hn : ns.length ≤ 63) (hg : s.gens = #[]) :
  Inv (stOf prog w s mg mb book excs) cx0 (heap0 l ns) s := by
 have hv := IntsAre.vrs hi
 refine ⟨fun b o e => e, fun a o e => (nomatch e), fun a o e => ?_, fun a o e => ⟨rfl, fun hs => ?_⟩, fun a o e => (nomatch e), hg, rfl, fun a ha => (nomatch ha)⟩
 ·unfold heap0 at e
  split at e
  ·rename_i q; subst q; cases e
   have := hv.length
   rw [List.length_map] at this
   exact ⟨vs, hl, hv, by lia⟩
  ·cases e
 ·unfold heap0 at e
  split at e
  ·cases e; cases hs
  ·cases e
noncomputable def lawFn : Fn := fun vs H Q _ => ∃ l ns, vs = [.ref l] ∧ H = heap0 l ns ∧ ns.length ≤ 63 ∧ ∀ H', Q (.bool true) H'
theorem law_ends {prog : Program} {w : World} {s : Shared} {mg mb : Str → Option Value} {book : Addr} {excs : Str → Option Addr} {l fa : Addr} {vs : List Value} {ns : List Int} {d : Nat} {Q : Value → Shared → Prop} {E : Value → Shared → Prop}
  (h : SoundF (stOf prog w s mg mb book excs) true d (.ref fa) lawFn) (hd : d ≤ 36) (hl : s.heap.IsList l vs.toArray) (hi : IntsAre vs ns) (hn : ns.length ≤ 63) (hg : s.gens = #[])
  (hQ : ∀ s', (∀ b o, s.heap.get? b = some o → s'.heap.get? b = some o) → s'.os = s.os → s'.gens = #[] → Q (.bool true) s') : wpAny (model prog w) callerA (call (.ref fa) [.ref l]) Q E s := by
 refine wpAny_call (codeAny_mono (h cx0 callerA [.ref l] [.ref l] (heap0 l ns) (fun v _ => v = .bool true) noX s ⟨fun _ => rfl, ?_, ?_⟩ ⟨rfl, fun e he => (nomatch he)⟩ (.cons (.ref l) .nil) (inv0 hl hi hn hg) ⟨l, ns, rfl, rfl, hn, fun _ => rfl⟩) ?_)
 ·show 1 + claimMargin + 8 * d ≤ 600
  have : claimMargin = 300 := rfl
  lia
 ·show 4 + 100 * d ≤ 9000; lia
 ·intro r s' hr
  cases r with
  | error e => obtain ⟨x, H', hx, _⟩ := hr; exact hx.elim
  | ok fl =>
   cases fl with
   | ret v =>
    obtain ⟨av, H', rv, I, rfl⟩ := hr
    cases rv
    exact hQ s' I.base I.os I.gens
   | _ => exact hr.elim
theorem Ns.uniq {h : Heap} {a : Addr} {m m' : Str → Option Value} (x : h.Ns a m) (y : h.Ns a m') : m = m' := by
 obtain ⟨o, es, ep, h1, h2, h3, h4⟩ := x
 obtain ⟨o', es', ep', k1, k2, k3, k4⟩ := y
 rw [h1] at k1; cases k1
 rw [h2] at k2; cases k2
 funext z; rw [← h4, ← k4]
theorem envL_of {prog : Program} {w : World} {s : Shared} {mg mb : Str → Option Value} {book : Addr} {excs : Str → Option Addr} {K : Frag} {p : Program} {loose : List Str} {mean : ExcName → Option Value}
  (T : Top p loose mean mg mb s.heap) (hi : importsNone p = true) (X : K.In s.heap) (hk : ∃ o es n, K.lookup 3 = some o ∧ o.data = .dict es n) : EnvL (stOf prog w s mg mb book excs) K := by
 refine ⟨⟨T.g, T.b, T.nolimit, ?_⟩, X, fun x => ?_, T.builtins⟩
 ·obtain ⟨mm, ⟨o, es, ep, h, _⟩, _⟩ := (T.seer hi).mods
  exact ⟨o, h⟩
 ·obtain ⟨o, es, n, h1, h2⟩ := hk
  obtain ⟨o', es', ep', k1, k2, k3, k4⟩ := T.g
  have k1' : s.heap.get? 3 = some o' := k1
  rw [X 3 o h1] at k1'; cases k1'
  rw [h2] at k2; cases k2
  show mg x = mgK K x
  unfold mgK
  rw [h1]
  obtain ⟨c, d, dt, sl⟩ := o
  cases h2
  exact (k4 x).symm
end Mine
end
-- text U1
section
namespace Mine
open PySem PyProof.Rows
set_option maxRecDepth 100000
theorem entry_set_iterator_next : entryFor table "set_iterator.__next__" = some Builtin.«set_iterator.__next__» := entryFor_of_tree (by kernel_rfl)
theorem slot_set_iterator_next : Slot "set_iterator" "__next__" "set_iterator.__next__" :=
 .of (owner := "set_iterator") (n := "__next__") (by rw [typeLookup_type, builtinLookup_eq_fast]; kernel_rfl) (by decide +kernel) (by decide +kernel) (by decide +kernel)
  (by first | exact .inl (by decide +kernel) | exact .inr (by decide +kernel)) (by rw [isSubtype_type]; kernel_rfl)
theorem args_set_iterator_next (a : Value) : argsOk "set_iterator.__next__" ⟨[a], []⟩ := by unfold argsOk; kernel_rfl
theorem eraseIdx_perm {α : Type} : ∀ {xs : List α} {i : Nat} (h : i < xs.length), (xs[i] :: xs.eraseIdx i).Perm xs
 | [], i, h => by simp at h
 | x :: r, 0, h => by simp
 | x :: r, i + 1, h => by
  have := eraseIdx_perm (xs := r) (i := i) (by simpa using h)
  simp only [List.getElem_cons_succ, List.eraseIdx_cons_succ]
  exact (List.Perm.swap _ _ _).trans (this.cons x)
section
variable {prog : Program} {w : World} {A : Around} {E : Value → Shared → Prop} {s : Shared}
theorem wpAny_choose {M : Model} {src : Source} {n : Nat} {Q : Nat → Shared → Prop} (hn : n ≠ 0) (h : ∀ i, i < n → Q i { s with drawn := s.drawn.bump src }) : wpAny M A (choose src n) Q E s := fun Γ p _ =>
 ⟨hn, h _ (Nat.mod_lt _ (Nat.pos_of_ne_zero hn))⟩
theorem wpAny_drawOrder {M : Model} {α : Type} : ∀ (n : Nat) (xs : List α) (s : Shared) {Q : List α → Shared → Prop}, xs.length = n → (∀ ys dr, ys.Perm xs → Q ys { s with drawn := dr }) → wpAny M A (drawOrder n xs) Q E s
 | 0, xs, s, Q, hl, h => by
  have : xs = [] := List.eq_nil_of_length_eq_zero hl
  subst this
  show wpAny M A (pure []) Q E s
  exact wpAny_pure (h [] s.drawn (List.Perm.refl _))
 | n + 1, [], s, Q, hl, h => by simp at hl
 | n + 1, x :: r, s, Q, hl, h => by
  unfold drawOrder
  refine wpAny_bind (wpAny_choose (by simp) fun i hi => ?_)
  have hg : (x :: r)[i]? = some (x :: r)[i] := List.getElem?_eq_getElem hi
  rw [hg]
  dsimp only
  refine wpAny_bind (wpAny_drawOrder n ((x :: r).eraseIdx i) _ (by rw [List.length_eraseIdx, if_pos hi]; simp at hl ⊢; lia) fun ys dr hp => ?_)
  refine wpAny_pure (h _ dr ?_)
  refine (List.Perm.cons _ hp).trans ?_
  exact eraseIdx_perm hi
theorem pickGo_perm {α : Type} (next : Nat → Nat) : ∀ (fuel k : Nat) (left : List α) (out : Array α), fuel = left.length → ((pickOrder.go next fuel k left out).toList).Perm (out.toList ++ left)
 | 0, k, left, out, h => by
  have : left = [] := List.eq_nil_of_length_eq_zero h.symm
  subst this; simp [pickOrder.go]
 | fuel + 1, k, left, out, h => by
  unfold pickOrder.go
  have hl : next k % left.length < left.length := Nat.mod_lt _ (by lia)
  have hg : left[next k % left.length]? = some left[next k % left.length] := List.getElem?_eq_getElem hl
  rw [hg]
  dsimp only
  refine (pickGo_perm next fuel (k + 1) _ _ (by rw [List.length_eraseIdx, if_pos hl]; lia)).trans ?_
  rw [Array.toList_push, List.append_assoc]
  exact List.Perm.append_left _ (eraseIdx_perm hl)
theorem pick_perm {α : Type} (next : Nat → Nat) (xs : Array α) : (pickOrder next xs).toList.Perm xs.toList := by
 have := pickGo_perm next xs.size 0 xs.toList #[] (by simp)
 simpa [pickOrder] using this
noncomputable def SetMode (w : World) (h : Heap) (a P : Addr) (es : Array (Int × Value)) (ep : Nat) (t : SetTable) (vs : List Value) (k : Nat) (first : Value) : Prop :=
 (w.params.followText "set-order" = true ∧ first = rawInt 0 ∧ vs = (pickOrder (w.params.setOrder a ep) es).toList.map (·.2)) ∨
 (w.params.followText "set-order" = false ∧ ∃ pl : List Nat, first = .ref P ∧ (∃ oP n, h.get? P = some oP ∧ oP.data = .seq ((pl.map fun (i : Nat) => rawInt i).toArray) n) ∧ pl.length = es.size ∧ ∀ (k p : Nat), pl[k]? = some p → ∃ hh v, es[p]? = some (hh, v) ∧ vs[k]? = some v) ∨
 (w.params.followText "set-order" = false ∧ es.size ≤ 1 ∧ t.led = true ∧ vs = es.toList.map (·.2) ∧ first = rawInt (if k = 0 then 0 else (t.place[0]?).getD 0 + 1 : Nat))
structure SetIt (w : World) (a I P : Addr) (es : Array (Int × Value)) (ep : Nat) (t : SetTable) (vs : List Value) (k : Nat) (h : Heap) : Prop where
 set : h.get? a = some { cls := .type "set", data := .set es ep t }
 len : vs.length = es.size
 it : ∃ o first, h.get? I = some o ∧ o.cls = .type "set_iterator" ∧ o.data = .fields #[first, rawInt (k : Int), .ref a, rawInt es.size, rawInt ep] ∧ SetMode w h a P es ep t vs k first
theorem wpAny_setsByText {Q : Bool → Shared → Prop} (h : Q (w.params.followText "set-order") s) : wpAny (model prog w) A setsByText Q E s := by
 unfold setsByText
 exact wpAny_bind (wpAny_askSetting (wpAny_pure h))
theorem fits_iff {t : SetTable} {n : Nat} (h : t.fits n = true) : t.place.size = n := by
 unfold SetTable.fits at h
 simp only [Bool.and_eq_true, beq_iff_eq] at h
 first | exact h.1 | exact h.1.1 | lia
theorem SetIt.typeIs {a I P : Addr} {es : Array (Int × Value)} {ep : Nat} {t : SetTable} {vs : List Value} {k : Nat} (x : SetIt w a I P es ep t vs k s.heap) : s.TypeIs (.ref I) "set_iterator" := by
 obtain ⟨o, first, ho, hc, _⟩ := x.it
 exact ⟨o, ho, hc⟩
theorem set_fields_upd {h : Heap} {I : Addr} {o : Obj} {fs : Array Value} (ho : h.get? I = some o) (hd : o.data = .fields fs) (i : Nat) (x : Value) :
  ∃ o', (h.update I (Obj.mapFields (·.setIfInBounds i x))).get? I = some o' ∧ o'.cls = o.cls ∧ o'.data = .fields (fs.setIfInBounds i x) :=
 ⟨_, Heap.get?_update_self _ ho (Obj.isFreed_of_fields (Obj.data_mapFields hd _)), Obj.cls_mapFields .., Obj.data_mapFields hd _⟩
theorem SetMode.frame {h h' : Heap} {a P : Addr} {es : Array (Int × Value)} {ep : Nat} {t : SetTable} {vs : List Value} {k : Nat} {first : Value} (m : SetMode w h a P es ep t vs k first) (e : ∀ o, h.get? P = some o → h'.get? P = some o) : SetMode w h' a P es ep t vs k first := by
 rcases m with m | ⟨m1, pl, m2, ⟨oP, n, m3, m4⟩, m5⟩ | m
 ·exact .inl m
 ·exact .inr (.inl ⟨m1, pl, m2, ⟨oP, n, e _ m3, m4⟩, m5⟩)
 ·exact .inr (.inr m)
theorem setNext_text {a : Addr} {es : Array (Int × Value)} {ep : Nat} {t : SetTable} {slot given : Nat} {Q : Option (Value × Nat) → Shared → Prop} (hset : s.heap.get? a = some { cls := .type "set", data := .set es ep t }) (hf : t.fits es.size = true) (m1 : w.params.followText "set-order" = true)
  (h : Q (((pickOrder (w.params.setOrder a ep) es)[given]?).map fun e => (e.2, slot)) s) : wpAny (model prog w) A (setNext a slot given ep) Q E s := by
 unfold setNext
 refine wpAny_bind (wpAny_setState_of hset rfl hf ?_)
 dsimp only
 refine wpAny_bind (wpAny_setsByText ?_)
 rw [m1]
 simp only [bne_self_eq_false, Bool.false_eq_true, if_false, if_true]
 refine wpAny_bind ?_
 unfold setWalk
 refine wpAny_bind (wpAny_setState_of hset rfl hf ?_)
 dsimp only
 refine wpAny_bind (wpAny_setsByText ?_)
 rw [m1]
 simp only [if_true]
 refine wpAny_bind (wpAny_askSetting (wpAny_pure ?_))
 exact wpAny_pure h
theorem setNext_small {a : Addr} {es : Array (Int × Value)} {ep : Nat} {t : SetTable} {slot given : Nat} {Q : Option (Value × Nat) → Shared → Prop} (hset : s.heap.get? a = some { cls := .type "set", data := .set es ep t }) (hf : t.fits es.size = true) (m1 : w.params.followText "set-order" = false) (hsz : es.size ≤ 1) (hl : t.led = true)
  (h : Q (match es[SetTable.below t.place slot]?, t.place[SetTable.below t.place slot]? with | some (_, x), some j => some (x, j + 1) | _, _ => none) s) : wpAny (model prog w) A (setNext a slot given ep) Q E s := by
 unfold setNext
 refine wpAny_bind (wpAny_setState_of hset rfl hf ?_)
 dsimp only
 refine wpAny_bind (wpAny_setsByText ?_)
 rw [m1]
 simp only [Bool.false_eq_true, if_false]
 refine wpAny_ite_split (fun q => ?_) fun q => ?_
 ·exfalso
  revert q
  show ¬ ((!t.plain && decide (es.size > 1)) = true)
  rw [decide_eq_false (by lia)]; simp
 refine wpAny_bind ?_
 show wpAny _ _ (if (!t.led && !es.isEmpty) = true then _ else _) _ _ _
 rw [hl]
 simp only [Bool.not_true, Bool.false_and, Bool.false_eq_true, if_false]
 exact wpAny_pure (wpAny_pure h)
theorem below_zero {t : SetTable} (h : t.place.size = 1) : SetTable.below t.place 0 = 0 := by
 unfold SetTable.below
 rw [h]
 simp [SetTable.below.go]
theorem below_one {t : SetTable} (h : t.place.size = 1) : SetTable.below t.place ((t.place[0]?).getD 0 + 1) = 1 := by
 unfold SetTable.below
 rw [h]
 have e : t.place[0]? = some t.place[0] := Array.getElem?_eq_getElem (by lia)
 simp [SetTable.below.go, h]
theorem set_next_item {a I P : Addr} {es : Array (Int × Value)} {ep : Nat} {t : SetTable} {vs : List Value} {k : Nat} {v : Value} {R : PySem.Fin → Shared → Prop} (x : SetIt w a I P es ep t vs k s.heap) (hf : t.fits es.size = true) (naI : a ≠ I) (nPI : P ≠ I) (hv : vs[k]? = some v)
  (h : ∀ h', SetIt w a I P es ep t vs (k + 1) h' → (∀ b o, b ≠ I → s.heap.get? b = some o → h'.get? b = some o) → R (.done (.ret v)) { s with heap := h' }) :
  wpAny (model prog w) A (Builtin.«set_iterator.__next__» ⟨[.ref I], []⟩) R E s := by
 obtain ⟨hset, hlen, o, first, ho, hc, hd, m⟩ := x
 unfold Builtin.«set_iterator.__next__»
 refine wpAny_bind (m := slotArgs "__next__" 0 ⟨[.ref I], []⟩) (wpAny_pure ?_)
 refine wpAny_bind (wpAny_fieldsOf ho hd ?_)
 dsimp only [rawInt]
 refine wpAny_bind ?_
 unfold setEntries
 refine wpAny_bind (wpAny_setState_of hset rfl hf (wpAny_pure ?_))
 simp only [bne_self_eq_false, Bool.false_eq_true, if_false]
 have keep1 : ∀ (h : Heap) (i : Nat) (y : Value) (b : Addr) (o : Obj), b ≠ I → h.get? b = some o → (h.update I (Obj.mapFields (·.setIfInBounds i y))).get? b = some o := fun h i y b o hb e => by
  rw [(Heap.SameBut.update _ I _).2 b hb]; exact e
 have two : ∀ (y : Value), SetMode w s.heap a P es ep t vs (k + 1) y → wpAny (model prog w) A (setField (.ref I) 0 y >>= fun _ => setField (.ref I) 1 (.int ((k : Int) + 1) 0) >>= fun _ => ret v) R E s := by
  intro y my
  refine wpAny_bind (wpAny_setField ho hd (by simp) ?_)
  obtain ⟨o1, g1, c1, d1⟩ := set_fields_upd ho hd 0 y
  refine wpAny_bind (wpAny_setField g1 d1 (by simp) ?_)
  obtain ⟨o2, g2, c2, d2⟩ := set_fields_upd g1 d1 1 (.int ((k : Int) + 1) 0)
  refine wpAny_pure (h _ ⟨keep1 _ _ _ _ _ naI (keep1 _ _ _ _ _ naI hset), hlen, o2, y, g2, c2.trans (c1.trans hc), ?_, my.frame fun o e => keep1 _ _ _ _ _ nPI (keep1 _ _ _ _ _ nPI e)⟩ fun b o hb e => keep1 _ _ _ _ _ hb (keep1 _ _ _ _ _ hb e))
  rw [d2]; simp [rawInt]
 rcases m with ⟨m1, rfl, rfl⟩ | ⟨m1, pl, rfl, ⟨oP, n, hP, hPd⟩, hpl, hpv⟩ | ⟨m1, hsz, hled, rfl, rfl⟩
 ·dsimp only [rawInt]
  rw [Int.toNat_natCast, Int.toNat_natCast]
  refine wpAny_bind (setNext_text hset hf m1 ?_)
  rw [List.getElem?_map] at hv
  cases e : (pickOrder (w.params.setOrder a ep) es).toList[k]? with
  | none => rw [e] at hv; cases hv
  | some q =>
   rw [e] at hv
   have hv : q.2 = v := by simpa using hv
   rw [Array.getElem?_toList] at e
   rw [e]
   dsimp only [Option.map]
   rw [hv]
   exact two _ (.inl ⟨m1, rfl, rfl⟩)
 ·dsimp only
  refine wpAny_bind (wpAny_seqItems hP hPd ?_)
  dsimp only
  have hk : k < pl.length := by rw [hpl, ← hlen]; exact (List.getElem?_eq_some_iff.mp hv).1
  have e : (List.map (fun (i : Nat) => rawInt i) pl).toArray[((k : Nat) : Int).toNat]? = some (.int (pl[k] : Int) 0) := by
   rw [Int.toNat_natCast]; simp [rawInt, hk]
  rw [e]
  dsimp only
  obtain ⟨hh, v', h1, h2⟩ := hpv k pl[k] (List.getElem?_eq_getElem hk)
  rw [hv] at h2; cases h2
  refine wpAny_bind ?_
  unfold setNextDrawn
  refine wpAny_bind (wpAny_setState_of hset rfl hf ?_)
  dsimp only
  rw [Int.toNat_natCast, Int.toNat_natCast]
  simp only [bne_self_eq_false, Bool.false_eq_true, if_false, h1]
  refine wpAny_pure ?_
  refine wpAny_bind (wpAny_setField ho hd (by simp) ?_)
  obtain ⟨o2, g2, c2, d2⟩ := set_fields_upd ho hd 1 (.int ((k : Int) + 1) 0)
  refine wpAny_pure (h _ ⟨keep1 _ _ _ _ _ naI hset, hlen, o2, .ref P, g2, c2.trans hc, ?_, .inr (.inl ⟨m1, pl, rfl, ⟨oP, n, keep1 _ _ _ _ _ nPI hP, hPd⟩, hpl, hpv⟩)⟩ fun b o hb e => keep1 _ _ _ _ _ hb e)
  rw [d2]; simp [rawInt]
 ·dsimp only [rawInt]
  rw [Int.toNat_natCast, Int.toNat_natCast, Int.toNat_natCast]
  refine wpAny_bind (setNext_small hset hf m1 hsz hled ?_)
  have hk : k < es.size := by
   have := (List.getElem?_eq_some_iff.mp hv).1
   simpa using this
  have hk0 : k = 0 := by lia
  subst hk0
  have hp := (fits_iff hf).trans (show es.size = 1 by lia)
  simp only [if_true]
  rw [below_zero hp]
  have e1 : es[0]? = some es[0] := Array.getElem?_eq_getElem (by lia)
  have e2 : t.place[0]? = some t.place[0] := Array.getElem?_eq_getElem (by lia)
  rw [e1, e2]
  have hv' : es[0].2 = v := by
   rw [List.getElem?_map, Array.getElem?_toList, e1] at hv
   simpa using hv
  dsimp only
  rw [hv']
  refine two _ (.inr (.inr ⟨m1, hsz, hled, rfl, ?_⟩))
  rw [e2]; simp [rawInt]
theorem set_stop {I : Addr} {o : Obj} {fs : Array Value} {i : Nat} {y : Value} {R : Value → Shared → Prop} {P : PySem.Fin → Shared → Prop} (hh : A.handled = none) (ho : s.heap.get? I = some o) (hd : o.data = .fields fs) (hi : i < fs.size)
  (h : ∀ e h', (∀ b o, b ≠ I → s.heap.get? b = some o → h'.get? b = some o) → ({ s with heap := h' } : Shared).TypeIs (.ref e) "StopIteration" → R (.ref e) { s with heap := h' }) :
  wpAny (model prog w) A (setField (.ref I) i y >>= fun _ => newExc (.type "StopIteration") [] >>= fun e => raiseNew e) P R s := by
 refine wpAny_bind (wpAny_setField ho hd hi ?_)
 refine wpAny_bind ?_
 simp only [newExc, newTuple]
 refine wpAny_bind (wpAny_newObj_type ?_ (by size_fits))
 refine wpAny_bind (m := firstArgMember _ _) (wpAny_of_eq (a := Value.none) (by first | rfl | (simp only [firstArgMember]; rfl)) ?_)
 refine wpAny_newObj_type ?_ (by size_fits)
 simp only [raiseNew]
 refine wpAny_bind (wpAny_handled ?_)
 rw [hh]
 refine wpAny_bind (wpAny_pure (wpAny_throw ?_))
 refine h _ _ (fun b o hb e => Heap.get?_push_of_some _ (Heap.get?_push_of_some _ (by rw [(Heap.SameBut.update _ I _).2 b hb]; exact e))) ⟨_, Heap.get?_push_size _ rfl, rfl⟩
theorem set_next_done {a I P : Addr} {es : Array (Int × Value)} {ep : Nat} {t : SetTable} {vs : List Value} {R : Value → Shared → Prop} {F : PySem.Fin → Shared → Prop} (hh : A.handled = none) (x : SetIt w a I P es ep t vs es.size s.heap) (hf : t.fits es.size = true)
  (h : ∀ e h', (∀ b o, b ≠ I → s.heap.get? b = some o → h'.get? b = some o) → ({ s with heap := h' } : Shared).TypeIs (.ref e) "StopIteration" → R (.ref e) { s with heap := h' }) :
  wpAny (model prog w) A (Builtin.«set_iterator.__next__» ⟨[.ref I], []⟩) F R s := by
 obtain ⟨hset, hlen, o, first, ho, hc, hd, m⟩ := x
 unfold Builtin.«set_iterator.__next__»
 refine wpAny_bind (m := slotArgs "__next__" 0 ⟨[.ref I], []⟩) (wpAny_pure ?_)
 refine wpAny_bind (wpAny_fieldsOf ho hd ?_)
 dsimp only [rawInt]
 refine wpAny_bind ?_
 unfold setEntries
 refine wpAny_bind (wpAny_setState_of hset rfl hf (wpAny_pure ?_))
 simp only [bne_self_eq_false, Bool.false_eq_true, if_false]
 rcases m with ⟨m1, rfl, rfl⟩ | ⟨m1, pl, rfl, ⟨oP, n, hP, hPd⟩, hpl, hpv⟩ | ⟨m1, hsz, hled, rfl, rfl⟩
 ·dsimp only [rawInt]
  rw [Int.toNat_natCast, Int.toNat_natCast]
  refine wpAny_bind (setNext_text hset hf m1 ?_)
  have e : (pickOrder (w.params.setOrder a ep) es)[es.size]? = none := by
   refine Array.getElem?_eq_none ?_
   have := (pick_perm (w.params.setOrder a ep) es).length_eq
   simp at this; lia
  rw [e]
  exact set_stop hh ho hd (by simp) h
 ·dsimp only
  refine wpAny_bind (wpAny_seqItems hP hPd ?_)
  dsimp only
  have e : (List.map (fun (i : Nat) => rawInt i) pl).toArray[((es.size : Nat) : Int).toNat]? = none := by
   rw [Int.toNat_natCast]; exact Array.getElem?_eq_none (by simp [hpl])
  rw [e]
  dsimp only
  refine wpAny_bind (wpAny_setField ho hd (by simp) ?_)
  obtain ⟨o1, g1, c1, d1⟩ := set_fields_upd ho hd 0 (.int 0 0)
  refine set_stop hh g1 d1 (by simp) fun e h' k T => h e h' (fun b o hb q => k b o hb ?_) T
  show (Heap.update _ _ _).get? b = some o
  rw [(Heap.SameBut.update _ I _).2 b hb]; exact q
 ·dsimp only [rawInt]
  rw [Int.toNat_natCast, Int.toNat_natCast, Int.toNat_natCast]
  refine wpAny_bind (setNext_small hset hf m1 hsz hled ?_)
  have hp := fits_iff hf
  have e : es[SetTable.below t.place (if es.size = 0 then 0 else (t.place[0]?).getD 0 + 1)]? = none := by
   by_cases q : es.size = 0
   ·exact Array.getElem?_eq_none (by lia)
   ·rw [if_neg q, below_one (hp.trans (by lia))]
    exact Array.getElem?_eq_none (by lia)
  rw [e]
  exact set_stop hh ho hd (by simp) h
theorem pyNext_set_item {a I P : Addr} {es : Array (Int × Value)} {ep : Nat} {t : SetTable} {vs : List Value} {k : Nat} {v : Value} {Q : Option Value → Shared → Prop} (x : SetIt w a I P es ep t vs k s.heap) (hf : t.fits es.size = true) (naI : a ≠ I) (nPI : P ≠ I) (hv : vs[k]? = some v)
  (h : ∀ h', SetIt w a I P es ep t vs (k + 1) h' → (∀ b o, b ≠ I → s.heap.get? b = some o → h'.get? b = some o) → Q (some v) { s with heap := h' }) : wpAny (model prog w) A (pyNext (.ref I)) Q E s := by
 unfold pyNext
 refine wpAny_bind (wpAny_attempt (wpAny_callSpecial?_slot (name := Str.ofString "__next__") x.typeIs slot_set_iterator_next
  (wpAny_call_entry slot_set_iterator_next x.typeIs entry_set_iterator_next (set_next_item x hf naI nPI hv fun h' x' k' => ?_) (args_set_iterator_next _))))
 exact ⟨_, rfl, wpAny_pure (h h' x' k')⟩
theorem pyNext_set_done {a I P : Addr} {es : Array (Int × Value)} {ep : Nat} {t : SetTable} {vs : List Value} {Q : Option Value → Shared → Prop} (hh : A.handled = none) (x : SetIt w a I P es ep t vs es.size s.heap) (hf : t.fits es.size = true)
  (h : ∀ h', (∀ b o, b ≠ I → s.heap.get? b = some o → h'.get? b = some o) → Q none { s with heap := h' }) : wpAny (model prog w) A (pyNext (.ref I)) Q E s := by
 unfold pyNext
 refine wpAny_bind (wpAny_attempt (wpAny_callSpecial?_slot (name := Str.ofString "__next__") x.typeIs slot_set_iterator_next
  (wpAny_call_entry slot_set_iterator_next x.typeIs entry_set_iterator_next (set_next_done (by simpa using hh) x hf fun e h' k T => ?_) (args_set_iterator_next _))))
 refine wpAny_bind (wpAny_isInstance (T := "StopIteration") (b := true) T isSubtype_stop ?_)
 exact wpAny_pure (h h' k)
end
end Mine
end
-- text U2
section
namespace Mine
open PySem PyProof.Rows
set_option maxRecDepth 100000
theorem entry_set_iter : entryFor table "set.__iter__" = some Builtin.«frozenset.__iter__» := entryFor_alias (id' := "frozenset.__iter__") (by kernel_rfl) rfl (by decide +kernel) (by kernel_rfl)
theorem entry_set_iterator_iter : entryFor table "set_iterator.__iter__" = some Builtin.«dict_keyiterator.__iter__» := entryFor_alias (id' := "dict_keyiterator.__iter__") (by kernel_rfl) rfl (by decide +kernel) (by kernel_rfl)
theorem slot_set_iterator_iter : Slot "set_iterator" "__iter__" "set_iterator.__iter__" :=
 .of (owner := "set_iterator") (n := "__iter__") (by rw [typeLookup_type, builtinLookup_eq_fast]; kernel_rfl) (by decide +kernel) (by decide +kernel) (by decide +kernel)
  (by first | exact .inl (by decide +kernel) | exact .inr (by decide +kernel)) (by rw [isSubtype_type]; kernel_rfl)
theorem args_set_iterator_iter (a : Value) : argsOk "set_iterator.__iter__" ⟨[a], []⟩ := by unfold argsOk; kernel_rfl
section
variable {prog : Program} {w : World} {A : Around} {E : Value → Shared → Prop} {s : Shared}
theorem hint_set {r : Addr} {Q : Bool → Shared → Prop} (hT : s.TypeIs (.ref r) "set") (h : Q false s) : wpAny (model prog w) A (Builtin.List.listLengthHint (.ref r)) Q E s := by
 unfold Builtin.List.listLengthHint
 refine wpAny_bind (wpAny_specialOf hT PySem.F.slot_set_len.lookup ?_)
 generalize hid : ("set.__len__" : String) = id0
 wp_delta
 rw [show splitId id0 = some ("set", "__len__") from by subst hid; decide +kernel]
 subst hid
 refine wpAny_bind (wpAny_isInstance (T := "set") (b := true) hT (by rw [isSubtype_type]; kernel_rfl) ?_)
 refine wpAny_ite_split (fun hab => absurd hab (by decide)) (fun _ => ?_)
 refine wpAny_ite_split (fun _ => ?_) (fun hab => absurd (by decide +kernel) hab)
 refine wpAny_bind (wpAny_typeOf hT ?_)
 exact wpAny_pure h
theorem SetIt.frame {a I P : Addr} {es : Array (Int × Value)} {ep : Nat} {t : SetTable} {vs : List Value} {k : Nat} {h h' : Heap} (x : SetIt w a I P es ep t vs k h) (e : ∀ b ∈ [I, a, P], ∀ o, h.get? b = some o → h'.get? b = some o) : SetIt w a I P es ep t vs k h' := by
 obtain ⟨h1, h2, o, f, h3, h4, h5, h6⟩ := x
 exact ⟨e a (by simp) _ h1, h2, o, f, e I (by simp) _ h3, h4, h5, h6.frame fun o q => e P (by simp) o q⟩
theorem walks_set (hh : A.handled = none) {a I P : Addr} {es : Array (Int × Value)} {ep : Nat} {t : SetTable} {vs : List Value} (hf : t.fits es.size = true) (naI : a ≠ I) (nPI : P ≠ I) :
  Walks prog w A I [I, a, P] [I] es.size (fun i v => vs[i]? = some v) (fun k h => SetIt w a I P es ep t vs k h) where
 sub := fun b hb => by simp at hb; simp [hb]
 frame := fun _ _ _ st hk => st.frame hk
 item := fun i s Q E hi st hQ => by
  have hi' : i < vs.length := by rw [st.len]; exact hi
  refine pyNext_set_item st hf naI nPI (List.getElem?_eq_getElem hi') fun h' st' k => ?_
  exact hQ _ h' s.toks (List.getElem?_eq_getElem hi') st' fun b o hb e => k b o (fun h => hb (by simp [h])) e
 done := fun s Q E st hQ => pyNext_set_done hh st hf fun h' k => hQ h' s.toks fun b o hb e => k b o (fun h => hb (by simp [h])) e
 self := fun i s Q E st hQ => by
  refine wpAny_pyIter_slot st.typeIs slot_set_iterator_iter (wpAny_call_entry slot_set_iterator_iter st.typeIs entry_set_iterator_iter ?_ (args_set_iterator_iter _))
  show wpAny _ _ (ret (.ref I)) _ _ s
  exact wpAny_pure ⟨_, rfl, "set_iterator", _, st.typeIs, slot_set_iterator_next.lookup, hQ⟩
theorem pyIter_set {a : Addr} {es : Array (Int × Value)} {ep : Nat} {t : SetTable} {Q : Value → Shared → Prop} (hset : s.heap.get? a = some { cls := .type "set", data := .set es ep t }) (hf : t.fits es.size = true) (hled : w.params.followText "set-order" = true ∨ t.led = true) (hpl : es.size ≠ 0 → t.plain = false) (hn : es.size ≤ sizeLine)
  (h : ∀ I P vs h' dr, vs.Perm (es.toList.map (·.2)) → SetIt w a I P es ep t vs 0 h' → s.heap.get? I = none → P ≠ I → (P = a ∨ s.heap.get? P = none) → (∀ b o, s.heap.get? b = some o → h'.get? b = some o) → Q (.ref I) { s with heap := h', drawn := dr }) : wpAny (model prog w) A (pyIter (.ref a)) Q E s := by
 have hT : s.TypeIs (.ref a) "set" := ⟨_, hset, rfl⟩
 refine wpAny_pyIter_slot hT PySem.F.slot_set_iter (wpAny_call_entry PySem.F.slot_set_iter hT entry_set_iter ?_ (PySem.F.args_set_iter_1 _))
 unfold Builtin.«frozenset.__iter__»
 refine wpAny_bind (m := Builtin.Frozenset.slot0 "__iter__" ⟨[.ref a], []⟩) (wpAny_pure ?_)
 refine wpAny_bind ?_
 unfold Builtin.Frozenset.sizeOf setEntries
 refine wpAny_bind (wpAny_bind (wpAny_setState_of hset rfl hf (wpAny_pure (wpAny_pure ?_))))
 refine wpAny_bind ?_
 unfold setDrawn
 refine wpAny_bind (wpAny_setState_of hset rfl hf ?_)
 dsimp only
 refine wpAny_bind (wpAny_setsByText (wpAny_pure ?_))
 have make : ∀ (s1 : Shared) (first : Value) (P : Addr) (vs : List Value), s1.gens = s.gens → s1.toks = s.toks → s1.os = s.os → (∀ b o, s.heap.get? b = some o → s1.heap.get? b = some o) → vs.Perm (es.toList.map (·.2)) → (∃ o, s1.heap.get? P = some o) → (P = a ∨ s.heap.get? P = none) → SetMode w s1.heap a P es ep t vs 0 first →
   wpAny (model prog w) A.in1 (setEpoch a >>= fun (x : Nat) => newFields "set_iterator" [first, rawInt 0, .ref a, rawInt (es.size : Int), rawInt (x : Int)] >>= fun y => ret y)
    (fun fin s' => ∃ v, fin = .done (.ret v) ∧ ∃ T' r, s'.TypeIs v T' ∧ typeLookup (.type T') (Str.ofString "__next__") = pure (some r) ∧ Q v s') E s1 := by
  intro s1 first P vs g1 g2 g3 k1 pm hP hPa m
  refine wpAny_bind (wpAny_setEpoch_of (k1 _ _ hset) rfl hf ?_)
  refine wpAny_bind (wpAny_newObj_type (wpAny_pure ⟨_, rfl, "set_iterator", _, ⟨_, Heap.get?_push_size _ rfl, rfl⟩, slot_set_iterator_next.lookup, ?_⟩))
  obtain ⟨oP, hP⟩ := hP
  have := h s1.heap.objs.size P vs (s1.heap.push { cls := .type "set_iterator", data := .fields #[first, rawInt 0, .ref a, rawInt (es.size : Int), rawInt (ep : Int)] }) s1.drawn pm ⟨Heap.get?_push_of_some _ (k1 _ _ hset), ?_, _, first, Heap.get?_push_size _ rfl, rfl, rfl, m.frame fun o e => Heap.get?_push_of_some _ e⟩ ?_ (Nat.ne_of_lt (Heap.lt_size hP)) hPa fun b o e => Heap.get?_push_of_some _ (k1 _ _ e)
  ·rw [← g1, ← g2, ← g3] at this; exact this
  ·have := pm.length_eq
   simpa using this
  ·cases q : s.heap.get? s1.heap.objs.size with
   | none => rfl
   | some o => exact absurd (Heap.lt_size (k1 _ _ q)) (Nat.lt_irrefl _)
 refine wpAny_ite_split (fun q => ?_) fun q => ?_
 ·have q' : (!w.params.followText "set-order" && (!t.plain && decide (es.size > 1))) = true := q
  simp only [Bool.and_eq_true, Bool.not_eq_true', decide_eq_true_eq] at q'
  refine wpAny_bind (wpAny_drawOrder _ _ _ (by simp) fun pl dr hp => ?_)
  refine wpAny_bind (wpAny_newTuple (hsz := by rw [List.length_map, hp.length_eq, List.length_range]; exact hn) ?_)
  have hval : (List.range es.size).map (fun p => ((es[p]?).map (·.2)).getD Value.none) = es.toList.map (·.2) := by
   apply List.ext_getElem?
   intro k
   by_cases hk : k < es.size
   ·simp [hk]
   ·rw [List.getElem?_eq_none (by simp; lia), List.getElem?_eq_none (by simp; lia)]
  refine make _ (.ref s.heap.objs.size) s.heap.objs.size (pl.map fun p => ((es[p]?).map (·.2)).getD Value.none) rfl rfl rfl (fun b o e => Heap.get?_push_of_some _ e) ?_ ⟨_, Heap.get?_push_size _ rfl⟩ (.inr (Heap.get?_none_of_le (Nat.le_refl _))) (.inr (.inl ⟨q'.1, pl, rfl, ⟨_, 0, Heap.get?_push_size _ rfl, rfl⟩, ?_, fun k p hk => ?_⟩))
  ·rw [← hval]; exact hp.map _
  ·have := hp.length_eq
   simpa using this
  ·have hpn : p < es.size := by
    have := hp.mem_iff.mp (List.mem_of_getElem? hk)
    simpa using this
   refine ⟨es[p].1, es[p].2, Array.getElem?_eq_getElem hpn, ?_⟩
   rw [List.getElem?_map, hk]; simp [hpn]
 ·have q' : ¬ (!w.params.followText "set-order" && (!t.plain && decide (es.size > 1))) = true := q
  refine wpAny_bind (wpAny_pure ?_)
  cases m1 : w.params.followText "set-order" with
  | true =>
   exact make s (rawInt 0) a _ rfl rfl rfl (fun b o e => e) ((pick_perm (w.params.setOrder a ep) es).map _) ⟨_, hset⟩ (.inl rfl) (.inl ⟨m1, rfl, rfl⟩)
  | false =>
   have hsz : es.size ≤ 1 := by
    rcases Nat.lt_or_ge 1 es.size with h1 | h1
    ·exfalso
     refine q' ?_
     rw [m1, hpl (by lia), decide_eq_true h1]; rfl
    ·exact h1
   have hl : t.led = true := hled.resolve_left (by rw [m1]; decide)
   exact make s (rawInt 0) a _ rfl rfl rfl (fun b o e => e) (List.Perm.refl _) ⟨_, hset⟩ (.inl rfl) (.inr (.inr ⟨m1, hsz, hl, rfl, rfl⟩))
theorem collect_set {a : Addr} {es : Array (Int × Value)} {ep : Nat} {t : SetTable} {R : List Value → Shared → Prop} (hh : A.handled = none) (hset : s.heap.get? a = some { cls := .type "set", data := .set es ep t }) (hf : t.fits es.size = true) (hled : w.params.followText "set-order" = true ∨ t.led = true) (hpl : es.size ≠ 0 → t.plain = false) (hn : es.size ≤ sizeLine)
  (h : ∀ (s' : Shared) (vs : List Value), vs.Perm (es.toList.map (·.2)) → (∀ b o, s.heap.get? b = some o → s'.heap.get? b = some o) → s'.gens = s.gens → s'.os = s.os → R vs s') :
  wpAny (model prog w) A (collect (.ref a)) R E s := by
 unfold collect
 refine wpAny_bind (wpAny_runValue (codeAny_builtin entry_proto_collect' ?_))
 rw [Around.under_plainId PySem.F.plain_proto_collect _]
 show wpAny _ A.in1 (newList [] >>= fun l => again (.builtin "list.__iadd__" ⟨[l, .ref a], []⟩)) _ _ s
 refine wpAny_bind (wpAny_newObj_type ?_)
 refine wpAny_pure ⟨plainId_quiet PySem.F.plain_list_iadd _, codeAny_builtin entry_list_iadd' ?_⟩
 rw [Around.under_plainId PySem.F.plain_list_iadd _]
 have hS₁ : (s.heap.push { cls := .type "list", data := .seq ([] : List Value).toArray }).get? s.heap.objs.size = some { cls := .type "list", data := .seq #[] } := Heap.get?_push_size _ rfl
 show wpAny _ A.in1 (Builtin.List.listExtendWith (.ref s.heap.objs.size) (.ref a) (.ref s.heap.objs.size)) _ _ _
 have nSa : s.heap.objs.size ≠ a := Nat.ne_of_gt (Heap.lt_size hset)
 have hset1 := Heap.get?_push_of_some { cls := .type "list", data := .seq ([] : List Value).toArray } hset
 unfold Builtin.List.listExtendWith
 refine wpAny_bind (wpAny_typeOf (T := "set") ⟨_, hset1, rfl⟩ ?_)
 have h1 : Builtin.List.listSameRef (.ref s.heap.objs.size) (.ref a) = false := by simp [Builtin.List.listSameRef, nSa]
 simp only [h1, show (Value.type "set" == Value.type "list") = false by decide, show (Value.type "set" == Value.type "tuple") = false by decide, Bool.or_false, Bool.false_eq_true, if_false]
 refine wpAny_bind (pyIter_set hset1 hf hled hpl hn fun I P vs h' dr pm st nI nPI hPa k1 => ?_)
 have naI : a ≠ I := fun e => by rw [e, nI] at hset1; cases hset1
 have nSI : s.heap.objs.size ≠ I := fun e => by rw [e, nI] at hS₁; cases hS₁
 have nSP : s.heap.objs.size ≠ P := fun e => by
  rcases hPa with q | q
  ·exact nSa (e.trans q)
  ·rw [← e, hS₁] at q; cases q
 have hSf : s.heap.objs.size ∉ [I, a, P] := by simp only [List.mem_cons, List.not_mem_nil, or_false, not_or]; exact ⟨nSI, nSa, nSP⟩
 have hS2 := k1 _ _ hS₁
 have key : ∀ (h2 : Heap) (c₁ : Nat), SetIt w a I P es ep t vs 0 h2 → (∀ b o, b ≠ s.heap.objs.size → h'.get? b = some o → h2.get? b = some o) → h2.get? s.heap.objs.size = some { cls := .type "list", data := .seq #[] c₁ } →
   codeAny (model prog w) A (.builtin "list.extend.loop" ⟨[.ref s.heap.objs.size, .ref I, .ref s.heap.objs.size], []⟩) (fun q s' => ∃ (acc : Array Value) (c' : Nat), q = .ok (.ret (.ref s.heap.objs.size)) ∧ acc.toList.Perm (es.toList.map (·.2)) ∧
    (∀ b o, s.heap.get? b = some o → s'.heap.get? b = some o) ∧ s'.gens = s.gens ∧ s'.os = s.os ∧ s'.heap.get? s.heap.objs.size = some { cls := .type "list", dict := none, data := .seq acc c', slots := #[] }) { s with heap := h2, drawn := dr } := by
  intro h2 c₁ st2 k2 hS3
  refine codeAny_extend_loopS (walks_set (A := A.in1) (by simpa using hh) hf naI nPI (vs := vs)).toS hn s.heap.objs.size hSf (.ref s.heap.objs.size) es.size 0 _ #[] c₁ rfl (Nat.zero_le _) st2 hS3 (ItemsOf.nil _) fun s' acc' c' hm hS' hacc => ?_
  refine ⟨acc', c', rfl, ?_, fun b o e => ?_, ?_, ?_, hS'⟩
  ·have e : acc'.toList = vs := by
    apply List.ext_getElem?
    intro j
    by_cases hj : j < es.size
    ·have hj' : j < acc'.size := by rw [hacc.1]; exact hj
     rw [Array.getElem?_toList, Array.getElem?_eq_getElem hj', hacc.2 j acc'[j] (Array.getElem?_eq_getElem hj')]
    ·have hvl : vs.length = es.size := st.len
     have hj : es.size ≤ j := Nat.not_lt.mp hj
     rw [List.getElem?_eq_none (by rw [Array.length_toList, hacc.1]; exact hj), List.getElem?_eq_none (by rw [hvl]; exact hj)]
   rw [e]; exact pm
  ·have hb : b ≠ s.heap.objs.size := Nat.ne_of_lt (Heap.lt_size e)
   refine hm.heap b o (fun hmem => ?_) (k2 b o hb (k1 _ _ (Heap.get?_push_of_some _ e)))
   rcases List.mem_cons.mp hmem with e' | hmem
   ·exact hb e'
   ·have : b = I := List.mem_singleton.mp hmem
    have e2 := Heap.get?_push_of_some { cls := .type "list", data := .seq ([] : List Value).toArray } e
    rw [this] at e2
    rw [nI] at e2; cases e2
  ·exact hm.gens
  ·exact hm.os
 have close : ∀ {c : Code} {s2 : Shared}, c.quiet = true → codeAny (model prog w) A c (fun q s' => ∃ (acc : Array Value) (c' : Nat), q = .ok (.ret (.ref s.heap.objs.size)) ∧ acc.toList.Perm (es.toList.map (·.2)) ∧
    (∀ b o, s.heap.get? b = some o → s'.heap.get? b = some o) ∧ s'.gens = s.gens ∧ s'.os = s.os ∧ s'.heap.get? s.heap.objs.size = some { cls := .type "list", dict := none, data := .seq acc c', slots := #[] }) s2 → True := fun _ _ => trivial
 refine wpAny_bind (wpAny_holding (hint_set ⟨_, k1 _ _ hset1, rfl⟩ ?_))
 refine wpAny_ite_split (fun _ => ?_) (fun _ => wpAny_pure ⟨plainId_quiet PySem.F.plain_extend_loop _, codeAny_mono (key _ 0 st (fun b o _ e => e) hS2) ?_⟩)
 ·refine wpAny_bind (wpAny_rule ?_)
  refine wpAny_bind ?_
  show wpAny _ _ (updateSeq s.heap.objs.size (·.push .none) >>= fun _ => updateSeq s.heap.objs.size (·.pop)) _ _ _
  refine wpAny_bind (wpAny_updateSeq hS2 rfl ?_)
  have hS₂ := Heap.get?_update_self (Obj.mapSeq (·.push Value.none)) hS2 rfl
  refine wpAny_updateSeq (hz := by seq_fits) hS₂ rfl ?_
  have hS₃ := Heap.get?_update_self (Obj.mapSeq (·.pop)) hS₂ rfl
  have kk : ∀ b o, b ≠ s.heap.objs.size → h'.get? b = some o → ((h'.update s.heap.objs.size (Obj.mapSeq (·.push Value.none))).update s.heap.objs.size (Obj.mapSeq (·.pop))).get? b = some o := fun b o hb e =>
   (Heap.get?_update_other _ _ (Ne.symm hb)).trans ((Heap.get?_update_other _ _ (Ne.symm hb)).trans e)
  refine wpAny_pure ⟨plainId_quiet PySem.F.plain_extend_loop _, codeAny_mono (key _ _ (st.frame fun b hb o e => kk b o (fun q => hSf (q ▸ hb)) e) kk hS₃) ?_⟩
  rintro q s2 ⟨acc, c', rfl, pm', k', g', o', hS'⟩
  show wpAny _ A (load s.heap.objs.size >>= _) _ _ _
  refine wpAny_bind (wpAny_load hS' ?_)
  exact wpAny_pure (h s2 acc.toList pm' k' g' o')
 ·rintro q s2 ⟨acc, c', rfl, pm', k', g', o', hS'⟩
  show wpAny _ A (load s.heap.objs.size >>= _) _ _ _
  refine wpAny_bind (wpAny_load hS' ?_)
  exact wpAny_pure (h s2 acc.toList pm' k' g' o')
end
end Mine
end
-- text M1
section
namespace Mine
open PySem
section
variable {α : Type} {L : α → α → Bool}
theorem insB_perm (x : α) : ∀ ys : List α, (insB L x ys).Perm (x :: ys)
 | [] => List.Perm.refl _
 | y :: r => by
  unfold insB
  split
  ·exact List.Perm.refl _
  ·exact ((insB_perm x r).cons y).trans (List.Perm.swap x y r)
theorem isort_perm : ∀ xs : List α, (isort L xs).Perm xs
 | [] => List.Perm.refl _
 | x :: r => (insB_perm x _).trans ((isort_perm r).cons x)
theorem insB_sorted (O : Ord L) (x : α) : ∀ ys : List α, ys.Pairwise (fun a b => L b a = false) → (insB L x ys).Pairwise (fun a b => L b a = false)
 | [], _ => List.pairwise_singleton _ _
 | y :: r, h => by
  unfold insB
  have h' := List.pairwise_cons.mp h
  split
  ·rename_i q
   refine List.pairwise_cons.mpr ⟨fun z hz => ?_, h⟩
   rcases List.mem_cons.mp hz with rfl | hz
   ·exact O.asym _ _ q
   ·exact O.trans _ _ _ (O.asym _ _ q) (h'.1 z hz)
  ·rename_i q
   refine List.pairwise_cons.mpr ⟨fun z hz => ?_, insB_sorted O x r h'.2⟩
   rcases List.mem_cons.mp ((insB_perm x r).mem_iff.mp hz) with rfl | hz
   ·simpa using q
   ·exact h'.1 z hz
theorem isort_sorted (O : Ord L) : ∀ xs : List α, (isort L xs).Pairwise (fun a b => L b a = false)
 | [] => .nil
 | x :: r => insB_sorted O x _ (isort_sorted O r)
theorem sorted_uniq (tri : ∀ x y, L x y = false → L y x = false → x = y) {xs ys : List α} (p : xs.Perm ys) (h1 : xs.Pairwise (fun a b => L b a = false)) (h2 : ys.Pairwise (fun a b => L b a = false)) : xs = ys :=
 List.Perm.eq_of_pairwise (fun a b _ _ q1 q2 => tri a b q2 q1) h1 h2 p
end
theorem ltK_tri (x y : Int × List Str) (h1 : ltK x y = false) (h2 : ltK y x = false) : x = y := by
 unfold ltK at *
 by_cases e : x.1 = y.1
 ·rw [if_pos e] at h1; rw [if_pos e.symm] at h2
  exact Prod.ext e (ltL_tri h1 h2)
 ·rw [if_neg e] at h1; rw [if_neg fun q => e q.symm] at h2
  have := of_decide_eq_false h1; have := of_decide_eq_false h2
  lia
theorem nodup_len : ∀ {y x : List Str}, y.Nodup → (∀ a ∈ y, a ∈ x) → y.length ≤ x.length
 | [], x, _, _ => Nat.zero_le _
 | a :: r, x, hn, hs => by
  have hn' := List.nodup_cons.mp hn
  have ha := hs a (.head _)
  have := nodup_len (y := r) (x := x.erase a) hn'.2 fun b hb => (List.mem_erase_of_ne (fun (e : b = a) => hn'.1 (by rw [← e]; exact hb))).mpr (hs b (.tail _ hb))
  rw [List.length_erase_of_mem ha] at this
  have hp : 0 < x.length := List.length_pos_of_mem ha
  simp; lia
theorem nodup_full {y x : List Str} (hy : y.Nodup) (hx : x.Nodup) (hs : ∀ a ∈ y, a ∈ x) (hl : x.length ≤ y.length) : ∀ a ∈ x, a ∈ y := by
 intro a ha
 by_cases q : a ∈ y
 ·exact q
 ·have := nodup_len (y := a :: y) (x := x) (List.nodup_cons.mpr ⟨q, hy⟩) fun b hb => by
   rcases List.mem_cons.mp hb with rfl | hb
   ·exact ha
   ·exact hs b hb
  simp at this; lia
noncomputable def Ris (x : List Str) : Prop := x.Pairwise (fun a b => ltS a b = true)
theorem Ris.nodup {x : List Str} (h : Ris x) : x.Nodup := h.imp fun {a b} q e => by subst e; rw [ltS_ord.refl] at q; cases q
theorem Ris.srt {x : List Str} (h : Ris x) : x.Pairwise (fun a b => ltS b a = false) := h.imp fun {a b} q => ltS_ord.asym _ _ q
theorem Ris.of {x : List Str} (h : x.Pairwise (fun a b => ltS b a = false)) (hn : x.Nodup) : Ris x := (h.and hn).imp fun {a b} q => by
 cases e : ltS a b with
 | true => rfl
 | false => exact absurd (ltS_tri e q.1) q.2
theorem Ris.ext {x y : List Str} (hx : Ris x) (hy : Ris y) (h : ∀ a, a ∈ x ↔ a ∈ y) : x = y :=
 sorted_uniq (fun a b => ltS_tri) ((List.perm_ext_iff_of_nodup hx.nodup hy.nodup).mpr h) hx.srt hy.srt
theorem Ris.full {x y : List Str} (hx : Ris x) (hy : Ris y) (hs : ∀ a ∈ y, a ∈ x) (hl : x.length ≤ y.length) : x = y :=
 hx.ext hy fun a => ⟨nodup_full hy.nodup hx.nodup hs hl a, hs a⟩
theorem sortS_perm (xs : List Str) : (sortS xs).Perm xs := isort_perm xs
theorem mem_sortS {xs : List Str} {a : Str} : a ∈ sortS xs ↔ a ∈ xs := (sortS_perm xs).mem_iff
theorem sortS_len (xs : List Str) : (sortS xs).length = xs.length := (sortS_perm xs).length_eq
theorem sortS_ris {xs : List Str} (h : xs.Nodup) : Ris (sortS xs) := Ris.of (isort_sorted ltS_ord xs) ((sortS_perm xs).nodup_iff.mpr h)
theorem Ris.sort {x : List Str} (h : Ris x) : sortS x = x := sorted_uniq (fun a b => ltS_tri) (sortS_perm x) (isort_sorted ltS_ord x) h.srt
theorem foldl_stepAdd : ∀ (xs acc : List Str), (acc ++ xs).Nodup → xs.foldl stepAdd acc = acc ++ xs
 | [], acc, _ => by simp
 | x :: r, acc, h => by
  have hx : x ∉ acc := fun q => by
   have := (List.nodup_append.mp h).2.2 x q x (.head _)
   exact this rfl
  rw [List.foldl_cons, stepAdd, if_neg hx, foldl_stepAdd r (acc ++ [x]) (by simpa using h)]
  simp
theorem dedup_nodup {xs : List Str} (h : xs.Nodup) : dedup xs = xs := by
 have := foldl_stepAdd xs [] (by simpa using h)
 simpa [dedup] using this
theorem mem_foldl_stepAdd {a : Str} : ∀ (xs acc : List Str), a ∈ xs.foldl stepAdd acc ↔ a ∈ acc ∨ a ∈ xs
 | [], acc => by simp
 | x :: r, acc => by
  rw [List.foldl_cons, mem_foldl_stepAdd r]
  unfold stepAdd
  split
  ·rename_i q
   constructor
   ·rintro (h | h)
    ·exact .inl h
    ·exact .inr (.tail _ h)
   ·rintro (h | h)
    ·exact .inl h
    ·rcases List.mem_cons.mp h with rfl | h
     ·exact .inl q
     ·exact .inr h
  ·simp [or_assoc]
theorem mem_dedup {a : Str} {xs : List Str} : a ∈ dedup xs ↔ a ∈ xs := by
 unfold dedup; rw [mem_foldl_stepAdd]; simp
theorem nodup_foldl_stepAdd : ∀ (xs acc : List Str), acc.Nodup → (xs.foldl stepAdd acc).Nodup
 | [], acc, h => h
 | x :: r, acc, h => by
  rw [List.foldl_cons]
  refine nodup_foldl_stepAdd r _ ?_
  unfold stepAdd
  split
  ·exact h
  ·rename_i q
   exact List.nodup_append.mpr ⟨h, by simp, fun a ha b hb e => by simp at hb; subst hb; subst e; exact q ha⟩
theorem dedup_is_nodup (xs : List Str) : (dedup xs).Nodup := nodup_foldl_stepAdd xs [] .nil
theorem dedup_len_foldl : ∀ (xs acc : List Str), (xs.foldl stepAdd acc).length ≤ acc.length + xs.length
 | [], acc => by simp
 | x :: r, acc => by
  rw [List.foldl_cons]
  have := dedup_len_foldl r (stepAdd acc x)
  have : (stepAdd acc x).length ≤ acc.length + 1 := by unfold stepAdd; split <;> simp
  simp; lia
theorem dedup_len (xs : List Str) : (dedup xs).length ≤ xs.length := by have := dedup_len_foldl xs []; simpa [dedup] using this
noncomputable def lk (x : List Str) : Int × List Str := ((x.length : Int), x)
noncomputable def ltR2 (x y : List Str) : Bool := ltK (lk x) (lk y)
theorem ltR2_ord : Ord ltR2 := ltK_ord.on lk
theorem ltR2_tri (x y : List Str) (h1 : ltR2 x y = false) (h2 : ltR2 y x = false) : x = y := congrArg Prod.snd (ltK_tri _ _ h1 h2)
theorem ltR2_len {x y : List Str} (h : ltR2 x y = false) : y.length ≤ x.length := by
 unfold ltR2 ltK lk at h
 dsimp only at h
 by_cases e : (x.length : Int) = y.length
 ·lia
 ·rw [if_neg e] at h
  have := of_decide_eq_false h
  lia
noncomputable def wi (x y : List Str) : Bool := x.all fun n => decide (n ∈ y)
theorem wi_iff {x y : List Str} : wi x y = true ↔ ∀ n ∈ x, n ∈ y := by simp [wi]
noncomputable def gstep (found : List (List Str)) (one : List Str) : List (List Str) := if (found.any fun o => wi o one) = true then found else found ++ [one]
structure Good (P : List Str → Prop) (T : List (List Str)) : Prop where
 ok : ∀ t ∈ T, P t
 cov : ∀ z, P z → ∃ t ∈ T, ∀ n ∈ t, n ∈ z
 anti : ∀ t ∈ T, ∀ u ∈ T, (∀ n ∈ t, n ∈ u) → t = u
 ord : T.Pairwise (fun a b => ltR2 a b = true)
theorem ltR2_irr {x : List Str} : ltR2 x x = false := ltR2_ord.refl x
theorem ord_nodup {T : List (List Str)} (h : T.Pairwise (fun a b => ltR2 a b = true)) : T.Nodup := h.imp fun {a b} q e => by subst e; rw [ltR2_irr] at q; cases q
theorem Good.uniq {P : List Str → Prop} {T U : List (List Str)} (hP : ∀ z, P z → Ris z) (h : Good P T) (k : Good P U) : T = U := by
 have half : ∀ {T U : List (List Str)}, Good P T → Good P U → ∀ x ∈ T, x ∈ U := by
  intro T U h k x hx
  obtain ⟨t, ht, h1⟩ := k.cov x (h.ok x hx)
  obtain ⟨t', ht', h2⟩ := h.cov t (k.ok t ht)
  have e : t' = x := h.anti _ ht' _ hx fun n hn => h1 n (h2 n hn)
  subst e
  have : t' = t := (hP _ (h.ok _ hx)).ext (hP _ (k.ok _ ht)) fun a => ⟨h2 a, h1 a⟩
  subst this; exact ht
 exact sorted_uniq ltR2_tri ((List.perm_ext_iff_of_nodup (ord_nodup h.ord) (ord_nodup k.ord)).mpr fun a => ⟨half h k a, half k h a⟩) (h.ord.imp fun {a b} q => ltR2_ord.asym _ _ q) (k.ord.imp fun {a b} q => ltR2_ord.asym _ _ q)
structure GInv (D found : List (List Str)) : Prop where
 sub : ∀ t ∈ found, t ∈ D
 cov : ∀ z ∈ D, ∃ t ∈ found, ∀ n ∈ t, n ∈ z
 anti : ∀ t ∈ found, ∀ u ∈ found, (∀ n ∈ t, n ∈ u) → t = u
 ord : found.Pairwise (fun a b => ltR2 a b = true)
theorem GInv.step {D found : List (List Str)} {x : List Str} (h : GInv D found) (hR : ∀ z ∈ D, Ris z) (hx : Ris x) (hs : ∀ z ∈ D, ltR2 x z = false) : GInv (D ++ [x]) (gstep found x) := by
 unfold gstep
 split
 ·rename_i q
  obtain ⟨t, ht, hw⟩ := List.any_eq_true.mp q
  refine ⟨fun t ht => List.mem_append_left _ (h.sub t ht), fun z hz => ?_, h.anti, h.ord⟩
  rcases List.mem_append.mp hz with hz | hz
  ·exact h.cov z hz
  ·have : z = x := by simpa using hz
   subst this
   exact ⟨t, ht, wi_iff.mp hw⟩
 ·rename_i q
  have no : ∀ t ∈ found, ¬ ∀ n ∈ t, n ∈ x := fun t ht hw => q (List.any_eq_true.mpr ⟨t, ht, wi_iff.mpr hw⟩)
  refine ⟨fun t ht => ?_, fun z hz => ?_, fun t ht u hu hw => ?_, ?_⟩
  ·rcases List.mem_append.mp ht with ht | ht
   ·exact List.mem_append_left _ (h.sub t ht)
   ·exact List.mem_append_right _ ht
  ·rcases List.mem_append.mp hz with hz | hz
   ·obtain ⟨t, ht, hw⟩ := h.cov z hz
    exact ⟨t, List.mem_append_left _ ht, hw⟩
   ·exact ⟨z, List.mem_append_right _ hz, fun n hn => hn⟩
  ·rcases List.mem_append.mp ht with ht1 | ht1 <;> rcases List.mem_append.mp hu with hu1 | hu1
   ·exact h.anti t ht1 u hu1 hw
   ·have e : u = x := by simpa using hu1
    subst e
    exact absurd hw (no t ht1)
   ·have e : t = x := by simpa using ht1
    subst e
    have hz := h.sub u hu1
    have := (hR u hz).full hx hw (ltR2_len (hs u hz))
    exact this.symm
   ·have e : t = x := by simpa using ht1
    have e' : u = x := by simpa using hu1
    rw [e, e']
  ·refine List.pairwise_append.mpr ⟨h.ord, List.pairwise_singleton _ _, fun a ha b hb => ?_⟩
   have e : b = x := by simpa using hb
   subst e
   cases q2 : ltR2 a b with
   | true => rfl
   | false =>
    have := ltR2_tri a b q2 (hs a (h.sub a ha))
    subst this
    exact absurd (fun n hn => hn) (no a ha)
theorem GInv.all : ∀ (R D found : List (List Str)), GInv D found → (∀ z ∈ D ++ R, Ris z) → (D ++ R).Pairwise (fun a b => ltR2 b a = false) → GInv (D ++ R) (R.foldl gstep found)
 | [], D, found, h, _, _ => by simpa using h
 | x :: r, D, found, h, hR, hs => by
  have h1 := h.step (x := x) (fun z hz => hR z (List.mem_append_left _ hz)) (hR x (by simp)) fun z hz => (List.pairwise_append.mp hs).2.2 z hz x (.head _)
  have := GInv.all r (D ++ [x]) (gstep found x) h1 (by simpa using hR) (by simpa using hs)
  simpa using this
end Mine
end
-- text U3
section
namespace Mine
open PySem PySem.Calls PyProof.Rows PySem.W
theorem vrs_of_strs : ∀ {ws : List Value}, (∀ v ∈ ws, ∃ x t, v = .str x t ∧ PyData.strOk x = true) → VRs ws ((ws.map strOf).map AV.str)
 | [], _ => .nil
 | v :: r, h => by
  obtain ⟨x, t, rfl, ok⟩ := h v (.head _)
  exact .cons (.str x t ok) (vrs_of_strs fun u hu => h u (.tail _ hu))
theorem strsAre_of : ∀ {ws : List Value}, (∀ v ∈ ws, ∃ x t, v = .str x t ∧ PyData.strOk x = true) → StrsAre ws (ws.map strOf)
 | [], _ => .nil
 | v :: r, h => by
  obtain ⟨x, t, rfl, ok⟩ := h v (.head _)
  exact .cons x t (strsAre_of fun u hu => h u (.tail _ hu))
theorem vrs_of_ints : ∀ {ws : List Value}, (∀ v ∈ ws, ∃ x t, v = .int x t) → VRs ws ((ws.map intOf).map AV.int)
 | [], _ => .nil
 | v :: r, h => by
  obtain ⟨x, t, rfl⟩ := h v (.head _)
  exact .cons (.int x t) (vrs_of_ints fun u hu => h u (.tail _ hu))
theorem intsAre_of : ∀ {ws : List Value}, (∀ v ∈ ws, ∃ x t, v = .int x t) → IntsAre ws (ws.map intOf)
 | [], _ => .nil
 | v :: r, h => by
  obtain ⟨x, t, rfl⟩ := h v (.head _)
  exact .cons x t (intsAre_of fun u hu => h u (.tail _ hu))
theorem strs_of_vrs : ∀ {ws : List Value} {xs : List Str}, VRs ws (xs.map AV.str) → (∀ v ∈ ws, ∃ x t, v = .str x t ∧ PyData.strOk x = true) ∧ ws.map strOf = xs
 | [], [], _ => ⟨fun _ h => (nomatch h), rfl⟩
 | [], _ :: _, h => by cases h
 | _ :: _, [], h => by cases h
 | v :: r, x :: q, .cons h hs => by
  obtain ⟨h1, h2⟩ := strs_of_vrs hs
  cases h with
  | str _ t ok =>
   refine ⟨fun u hu => ?_, by rw [List.map_cons, h2]; rfl⟩
   rcases List.mem_cons.mp hu with rfl | hu
   ·exact ⟨x, t, rfl, ok⟩
   ·exact h1 u hu
section
variable {S : St} {C : Cx} {A : Around} {H : AH} {s : Shared} {Q : QV}
theorem fin_strs {vs : List Value} {xs : List Str} (I : Inv S C H s) (hv : ∀ v ∈ vs, ∃ x t, v = .str x t ∧ PyData.strOk x = true) (hp : (vs.map strOf).Perm xs) (hl : vs.length ≤ sizeLine) (h : ∀ r, H r = none → Q (.ref r) (H.put r (.list ((sortS xs).map AV.str)))) :
  ∀ ws : List Value, ws.Perm vs → Srt (fun v u => ltS (strOf v) (strOf u)) ws → ∀ s2 D e, s.heap.get? D = none → (∀ b o, s.heap.get? b = some o → s2.heap.get? b = some o) → s2.gens = s.gens → s2.os = s.os → s2.heap.get? D = some { cls := .type "list", data := .seq ws.toArray e } → PostV S C Q (.ref D) s2 := by
 intro ws pm hs s2 D e hD hk hg ho hw
 have e1 : ws.map strOf = sortS xs := sorted_uniq (fun a b => ltS_tri) (((pm.map strOf).trans hp).trans (sortS_perm xs).symm) (List.pairwise_map.mpr hs) (isort_sorted ltS_ord xs)
 have hv' : ∀ v ∈ ws, ∃ x t, v = .str x t ∧ PyData.strOk x = true := fun v h => hv v (pm.mem_iff.mp h)
 have hr := vrs_of_strs hv'
 rw [e1] at hr
 exact ⟨_, _, .ref D, I.add (o := .list ((sortS xs).map AV.str)) hD hk ⟨ws, e, hw, hr, by rw [pm.length_eq]; exact hl⟩ hg ho, h D (I.fresh hD).1⟩
theorem kind_strs {vs : List Value} (hv : ∀ v ∈ vs, ∃ x t, v = .str x t ∧ PyData.strOk x = true) (h2 : 2 ≤ vs.length) {M : Model} {A : Around} {E : Value → Shared → Prop} {s : Shared} {Q : SortKind → Shared → Prop} (h : Q oneType' s) : wpAny M A (keyKind' vs.toArray) Q E s := by
 match vs, h2 with
 | v₁ :: v₂ :: r, _ =>
  rw [keyKind_strs (strsAre_of hv)]
  exact wpAny_pure h
theorem kind_ints {vs : List Value} (hv : ∀ v ∈ vs, ∃ x t, v = .int x t) (h2 : 2 ≤ vs.length) {M : Model} {A : Around} {E : Value → Shared → Prop} {s : Shared} {Q : SortKind → Shared → Prop} (h : Q oneType' s) : wpAny M A (keyKind' vs.toArray) Q E s := by
 match vs, h2 with
 | v₁ :: v₂ :: r, _ =>
  rw [keyKind_ints (intsAre_of hv)]
  exact wpAny_pure h
end
theorem ltI_ord : Ord (fun (a b : Int) => decide (a < b)) := ⟨fun x y h => by have := of_decide_eq_true h; exact decide_eq_false (by lia), fun x y z h1 h2 => by have w1 := of_decide_eq_false h1; have w2 := of_decide_eq_false h2; exact decide_eq_false (by lia)⟩
theorem bSorted_ok {S : St} (K : StOK S) : BFnOK S true (.builtin "sorted") bSorted := by
 rintro C A vs avs H Q E s hh hu r I ⟨a, o, rfl, ha, h⟩
 obtain ⟨_, rfl, r0⟩ := r.one
 cases r0.ref_inv
 have hcl : cLine = 9900 := rfl
 cases o with
 | sset xs =>
  obtain ⟨es, ep, t, ys, ho, hel, pm, nd, hb, hf, hled, hpl⟩ := I.objs a _ ha
  have hsz : es.size ≤ sizeLine := by
   have : scanBound = 4096 := rfl
   have : sizeLine = 16777216 := rfl
   lia
  have hvals : ∀ {l : List (Int × Value)} {ys : List Str}, SRs S.w l ys → (∀ v ∈ l.map (·.2), ∃ x t, v = .str x t ∧ PyData.strOk x = true) ∧ (l.map (·.2)).map strOf = ys := by
   intro l ys h
   induction h with
   | nil => exact ⟨fun _ h => (nomatch h), rfl⟩
   | @cons x t vs xs ok _ ih =>
    refine ⟨fun v hv => ?_, by simp only [List.map_cons]; rw [ih.2]; rfl⟩
    rcases List.mem_cons.mp hv with rfl | hv
    ·exact ⟨x, t, rfl, ok⟩
    ·exact ih.1 v hv
  obtain ⟨v1, v2⟩ := hvals hel
  refine sorted_any (κ := oneType') (L := fun x y => ltS (strOf x.1) (strOf y.1)) fun A' ha' hu' => ?_
  refine collect_set (ha'.trans (hh rfl)) ho hf hled hpl hsz fun s1 ws pw k1 g1 o1 => ?_
  have hv : ∀ v ∈ ws, ∃ x t, v = .str x t ∧ PyData.strOk x = true := fun v h => v1 v (pw.mem_iff.mp h)
  have hl : ws.length ≤ sizeLine := by rw [pw.length_eq, List.length_map, Array.length_toList]; exact hsz
  have hl64 : ws.length < 64 := by
   have e1 := congrArg List.length v2
   rw [List.length_map] at e1
   rw [pw.length_eq, e1, pm.length_eq]; exact h.1
  replace h := h.2
  refine ⟨k1, g1, o1, hl64, fun A2 _ s' _ h2 Q' E' hq => kind_strs hv h2 hq, fun A2 _ s' _ E' => ⟨UStr, fun v hv' => ?_, cmpS⟩, ?_⟩
  ·obtain ⟨x, t, e, _⟩ := hv v hv'
   exact ⟨x, t, e⟩
  ·exact fin_strs I hv ((pw.map strOf).trans (by rw [v2]; exact pm)) hl h
 | idict es =>
  obtain ⟨kvs, ep, hd, hp, hl⟩ := I.objs a _ ha
  have lo : (a == sysModules) = false := by
   obtain ⟨o, ho⟩ := K.sys
   have := (I.sepH a _ ha).2 rfl
   by_cases q : a = sysModules
   ·rw [q, ho] at this; cases this
   ·simpa using q
  have hkeys : ∀ {kvs : List (Int × Value)} {es : List (Int × AV)}, PRs kvs es → kvs.map (·.1) = es.map (·.1) := by
   intro kvs es h
   induction h with
   | nil => rfl
   | cons _ _ ih => simp only [List.map_cons]; rw [ih]
  refine sorted_any (κ := oneType') (L := fun x y => decide (intOf x.1 < intOf y.1)) fun A' ha' hu' => ?_
  refine kdu_collect (kdl_dict lo) (ha'.trans (hh rfl)) hd hl fun h' tk acc k1 hacc => ?_
  have hv : ∀ v ∈ acc.toList, ∃ x t, v = .int x t := fun v hv => by
   obtain ⟨j, hj, e⟩ := List.getElem_of_mem hv
   have hj' : j < acc.size := by simpa using hj
   obtain ⟨k, x, _, hk⟩ := hacc.2 j v (by rw [Array.getElem?_eq_getElem hj', ← e]; simp)
   obtain ⟨t, rfl⟩ := Value.isInt_shape hk
   exact ⟨k, t, rfl⟩
  have hm : acc.toList.map intOf = es.map (·.1) := by
   rw [← hkeys hp]
   apply List.ext_getElem?
   intro j
   by_cases hj : j < acc.size
   ·obtain ⟨k, x, hx, hk⟩ := hacc.2 j acc[j] (Array.getElem?_eq_getElem hj)
    obtain ⟨t, et⟩ := Value.isInt_shape hk
    rw [List.getElem?_map, List.getElem?_map, Array.getElem?_toList, Array.getElem?_eq_getElem hj, hx, et]; rfl
   ·have := hacc.1
    rw [List.getElem?_eq_none (by simp; lia), List.getElem?_eq_none (by simp; lia)]
  have hl' : acc.toList.length ≤ sizeLine := by rw [Array.length_toList, hacc.1]; exact hl
  have hl64 : acc.toList.length < 64 := by
   have e1 := congrArg List.length hm
   rw [List.length_map, List.length_map] at e1
   rw [e1]; exact h.1
  replace h := h.2
  refine ⟨k1, rfl, rfl, hl64, fun A2 _ s' _ h2 Q' E' hq => kind_ints hv h2 hq, fun A2 _ s' _ E' => ⟨UInt, fun v hv' => hv v hv', cmpI⟩, ?_⟩
  intro ws pm hs s2 D e hD hk hg ho hw
  have e1 : ws.map intOf = sortI (es.map (·.1)) := by
   refine sorted_uniq (L := fun (a b : Int) => decide (a < b)) (fun a b h1 h2 => ?_) ((pm.map intOf).trans ?_) (List.pairwise_map.mpr hs) (isort_sorted ltI_ord _)
   ·have := of_decide_eq_false h1; have := of_decide_eq_false h2; lia
   ·rw [hm]; exact (isort_perm _).symm
  have hr := vrs_of_ints fun v h => hv v (pm.mem_iff.mp h)
  rw [e1] at hr
  exact ⟨_, _, .ref D, I.add (o := .list ((sortI (es.map (·.1))).map AV.int)) hD hk ⟨ws, e, hw, hr, by rw [pm.length_eq]; exact hl'⟩ hg ho, h D (I.fresh hD).1⟩
 | list xs =>
  obtain ⟨ws, n, g, q, hl⟩ := I.list ha
  obtain ⟨xs, rfl, h64, h⟩ := h
  have hl64 : ws.length < 64 := by rw [q.length, List.length_map]; exact h64
  obtain ⟨hv, hm⟩ := strs_of_vrs q
  refine sorted_any (κ := oneType') (L := fun x y => ltS (strOf x.1) (strOf y.1)) fun A' ha' hu' => ?_
  refine collect_is g hl fun s1 k1 g1 o1 => ?_
  refine ⟨k1, g1, o1, hl64, fun A2 _ s' _ h2 Q' E' hq => kind_strs hv h2 hq, fun A2 _ s' _ E' => ⟨UStr, fun v hv' => ?_, cmpS⟩, ?_⟩
  ·obtain ⟨x, t, e, _⟩ := hv v hv'
   exact ⟨x, t, e⟩
  ·exact fin_strs I hv (by rw [hm]) hl h
 | _ => exact h.elim
end Mine
end
-- text N1
section
namespace Mine
open PySem PySem.Builtin PySem.Builtin.Str
noncomputable def spl (c : Nat) : List Nat → List (List Nat)
 | [] => [[]]
 | x :: r => if x = c then [] :: spl c r else match spl c r with
  | [] => [[x]]
  | p :: q => (x :: p) :: q
noncomputable def jn (c : Nat) : List (List Nat) → List Nat
 | [] => []
 | [p] => p
 | p :: q :: r => p ++ c :: jn c (q :: r)
theorem spl_ne (c : Nat) (l : List Nat) : spl c l ≠ [] := by
 cases l with
 | nil => simp [spl]
 | cons x r =>
  unfold spl
  split
  ·simp
  ·split <;> simp
theorem spl_part {c : Nat} : ∀ {p : List Nat} {r : List Nat}, c ∉ p → spl c (p ++ c :: r) = p :: spl c r
 | [], r, _ => by show spl c (c :: r) = _; rw [spl, if_pos rfl]
 | x :: p, r, h => by
  have ne : x ≠ c := fun e => h (by rw [e]; exact .head _)
  have ih := spl_part (p := p) (r := r) fun m => h (.tail _ m)
  show spl c (x :: (p ++ c :: r)) = _
  rw [spl, if_neg ne, ih]
theorem spl_last {c : Nat} : ∀ {p : List Nat}, c ∉ p → spl c p = [p]
 | [], _ => rfl
 | x :: p, h => by
  have ne : x ≠ c := fun e => h (by rw [e]; exact .head _)
  have ih := spl_last (p := p) fun m => h (.tail _ m)
  rw [spl, if_neg ne, ih]
theorem spl_jn {c : Nat} : ∀ {ps : List (List Nat)}, ps ≠ [] → (∀ p ∈ ps, c ∉ p) → spl c (jn c ps) = ps
 | [], h, _ => absurd rfl h
 | [p], _, h => spl_last (h p (.head _))
 | p :: q :: r, _, h => by
  show spl c (p ++ c :: jn c (q :: r)) = _
  rw [spl_part (h p (.head _)), spl_jn (by simp) fun x hx => h x (.tail _ hx)]
theorem jn_cons {c : Nat} {p : List Nat} {q : List (List Nat)} (h : q ≠ []) : jn c (p :: q) = p ++ c :: jn c q := by
 cases q with
 | nil => exact absurd rfl h
 | cons _ _ => rfl
theorem jn_spl (c : Nat) : ∀ l : List Nat, jn c (spl c l) = l
 | [] => rfl
 | x :: r => by
  have ih := jn_spl c r
  unfold spl
  split
  ·rename_i e
   rw [jn_cons (spl_ne c r), ih, e]; rfl
  ·split
   ·rename_i e; exact absurd e (spl_ne c r)
   ·rename_i p q e
    rw [e] at ih
    cases q with
    | nil => show x :: p = _; rw [← ih]; rfl
    | cons a b =>
     show x :: p ++ c :: jn c (a :: b) = _
     rw [← ih]; rfl
theorem jn_inj {c : Nat} {ps qs : List (List Nat)} (h1 : ps ≠ []) (h2 : qs ≠ []) (f1 : ∀ p ∈ ps, c ∉ p) (f2 : ∀ p ∈ qs, c ∉ p) (h : jn c ps = jn c qs) : ps = qs := by
 rw [← spl_jn h1 f1, h, spl_jn h2 f2]
noncomputable abbrev tx (l : List Nat) : Str := ⟨l.toArray⟩
theorem tx_toList (x : Str) : tx x.cps.toList = x := by cases x; simp [tx]
theorem toList_tx (l : List Nat) : (tx l).cps.toList = l := by simp [tx]
theorem occ_one {x : Str} {c : Nat} {limit : Nat} : ∀ (l : List Nat) (st : Array Nat × Nat), (∀ i ∈ l, st.2 ≤ i) → l.Pairwise (· < ·) → st.1.size + l.length ≤ limit →
  (forIn l st (StrLaws.occBody x ⟨#[c]⟩ x.length limit)).run.fst.toList = st.1.toList ++ l.filter fun i => decide (x.cps.toList[i]? = some c)
 | [], st, _, _, _ => by simp
 | a :: l, st, h1, h2, h3 => by
  obtain ⟨p1, p2⟩ := List.pairwise_cons.mp h2
  rw [List.length_cons] at h3
  have e : (a + (⟨#[c]⟩ : Str).length ≤ x.length ∧ subAt x ⟨#[c]⟩ a = true) ↔ x.cps.toList[a]? = some c := by
   have hl : (⟨#[c]⟩ : Str).length = 1 := rfl
   have hx : x.length = x.cps.toList.length := by simp [Str.length]
   rw [StrLaws.subAt_eq, hl, hx]
   constructor
   ·rintro ⟨w1, w2⟩
    have w2 := eq_of_beq w2
    rw [List.drop_eq_getElem_cons (by omega)] at w2
    simp at w2
    rw [List.getElem?_eq_getElem (by omega)]
    simpa using w2
   ·intro w
    obtain ⟨w1, w2⟩ := List.getElem?_eq_some_iff.mp w
    refine ⟨by omega, ?_⟩
    rw [List.drop_eq_getElem_cons w1, w2]
    simp
  rw [List.forIn_cons]
  unfold StrLaws.occBody
  by_cases q : x.cps.toList[a]? = some c
  ·rw [if_pos ⟨⟨⟨by omega, h1 a (.head _)⟩, (e.mpr q).1⟩, (e.mpr q).2⟩]
   have ih := occ_one (x := x) (c := c) (limit := limit) l (st.1.push a, a + (⟨#[c]⟩ : Str).length) (fun i hi => p1 i hi) p2 (by simp; omega)
   rw [List.filter_cons_of_pos (by simpa using q)]
   rw [show st.1.toList ++ a :: l.filter (fun i => decide (x.cps.toList[i]? = some c)) = (st.1.push a).toList ++ l.filter (fun i => decide (x.cps.toList[i]? = some c)) by simp]
   exact ih
  ·rw [if_neg fun w => q (e.mp ⟨w.1.2, w.2⟩)]
   have ih := occ_one (x := x) (c := c) (limit := limit) l st (fun i hi => h1 i (.tail _ hi)) p2 (by omega)
   rw [List.filter_cons_of_neg (by simpa using q)]
   exact ih
theorem parts_eq (x : Str) (c : Nat) : ∀ (n a : Nat), a + n = x.cps.toList.length → StrLaws.partsFrom x 1 a ((List.range' a n).filter fun i => decide (x.cps.toList[i]? = some c)) = (spl c (x.cps.toList.drop a)).map tx := by
 have sub_last : ∀ {a : Nat} {p : List Nat}, x.cps.toList.drop a = p → strSub x a x.length = tx p := fun {a p} h => by
  apply Str.ext'
  apply Array.toList_inj.mp
  rw [StrLaws.strSub_toList, h, toList_tx]
  exact List.take_of_length_le (by rw [← h]; simp [Str.length])
 have walk : ∀ (n a i : Nat), a ≤ i → i + n = x.cps.toList.length → c ∉ (x.cps.toList.drop a).take (i - a) →
   StrLaws.partsFrom x 1 a ((List.range' i n).filter fun j => decide (x.cps.toList[j]? = some c)) = (spl c (x.cps.toList.drop a)).map tx := by
  intro n
  induction n with
  | zero =>
   intro a i h1 h2 h3
   have e : (x.cps.toList.drop a).take (i - a) = x.cps.toList.drop a := List.take_of_length_le (by rw [List.length_drop]; omega)
   rw [e] at h3
   show [strSub x a x.length] = _
   rw [spl_last h3, sub_last rfl]; rfl
  | succ n ih =>
   intro a i h1 h2 h3
   have hi : i < x.cps.toList.length := by omega
   rw [List.range'_succ]
   by_cases q : x.cps.toList[i]? = some c
   ·rw [List.filter_cons_of_pos (by simpa using q)]
    show strSub x a i :: StrLaws.partsFrom x 1 (i + 1) _ = _
    rw [ih (i + 1) (i + 1) (Nat.le_refl _) (by omega) (by simp)]
    have e : x.cps.toList.drop a = (x.cps.toList.drop a).take (i - a) ++ c :: x.cps.toList.drop (i + 1) := by
     have : (x.cps.toList.drop a).drop (i - a) = c :: x.cps.toList.drop (i + 1) := by
      rw [List.drop_drop, show a + (i - a) = i by omega, List.drop_eq_getElem_cons hi]
      rw [List.getElem?_eq_getElem hi] at q
      rw [Option.some.inj q]
     rw [← this, List.take_append_drop]
    rw [e, spl_part h3, List.map_cons]
    congr 1
    apply Str.ext'
    apply Array.toList_inj.mp
    rw [StrLaws.strSub_toList]
   ·rw [List.filter_cons_of_neg (by simpa using q)]
    refine ih a (i + 1) (by omega) (by omega) fun m => ?_
    rw [show i + 1 - a = (i - a) + 1 by omega, List.take_add_one] at m
    rcases List.mem_append.mp m with m | m
    ·exact h3 m
    ·rw [List.getElem?_drop, show a + (i - a) = i by omega, List.getElem?_eq_getElem hi] at m
     rw [List.getElem?_eq_getElem hi] at q
     simp at m
     exact q (by rw [m]; simp)
 exact fun n a h => walk n a a (Nat.le_refl _) h (by simp)
theorem kind_one {c : Nat} (h : c < 256) : PySem.Builtin.Str.strKind ⟨#[c]⟩ = 1 := by
 unfold PySem.Builtin.Str.strKind
 rw [if_pos (by simp [h])]
theorem kind_pos (x : Str) : 1 ≤ PySem.Builtin.Str.strKind x := by
 unfold PySem.Builtin.Str.strKind
 split
 ·exact Nat.le_refl _
 ·split <;> decide
theorem split_eq {c : Nat} (hc : c < 256) (x : Str) : Txt.split x ⟨#[c]⟩ = (spl c x.cps.toList).map tx := by
 have hx : x.length = x.cps.toList.length := by simp [Str.length]
 unfold Txt.split
 split
 ·rename_i h
  have h0 : x.length = 0 := by
   rw [Bool.or_eq_true, decide_eq_true_eq, decide_eq_true_eq] at h
   rcases h with h | h
   ·have : (⟨#[c]⟩ : Str).length = 1 := rfl
    omega
   ·rw [kind_one hc] at h
    have := kind_pos x
    omega
  have e : x.cps.toList = [] := List.eq_nil_of_length_eq_zero (by omega)
  rw [e]
  show [x] = [tx []]
  rw [← e, tx_toList]
 ·have ho : occurrences x ⟨#[c]⟩ 0 x.length (x.length + 1) = (List.range' 0 x.cps.toList.length).filter fun i => decide (x.cps.toList[i]? = some c) := by
   rw [StrLaws.occ_eq, occ_one _ _ (fun i _ => Nat.zero_le i) (by exact List.pairwise_lt_range') (by simp)]
   rw [show x.length + 1 - 0 = x.cps.toList.length + 1 by omega, List.range'_1_concat, List.filter_append]
   simp
  have hp := parts_eq x c x.cps.toList.length 0 (by omega)
  rw [List.drop_zero] at hp
  split
  ·rename_i h
   rw [List.isEmpty_iff, ho] at h
   rw [h] at hp
   rw [← hp]
   show [x] = [strSub x 0 x.length]
   rw [StrLaws.sub_whole]
  ·rw [StrLaws.partsBetween_eq, ho]
   exact hp
theorem join_eq (c : Nat) : ∀ ps : List (List Nat), Str.join ⟨#[c]⟩ (ps.map tx) = tx (jn c ps)
 | [] => rfl
 | [p] => rfl
 | p :: q :: r => by
  show tx p ++ ⟨#[c]⟩ ++ Str.join ⟨#[c]⟩ ((q :: r).map tx) = _
  rw [join_eq c (q :: r)]
  apply Str.ext'
  apply Array.toList_inj.mp
  simp [jn, Str.cps_append]
end Mine
end
-- text N2
section
namespace Mine
open PySem
noncomputable def isSep (c : Nat) : Bool := c == 32 || c == 10
noncomputable def wds : List Nat → List (List Nat)
 | [] => [[]]
 | x :: r => if isSep x then [] :: wds r else match wds r with
  | [] => [[x]]
  | p :: q => (x :: p) :: q
theorem wds_ne (l : List Nat) : wds l ≠ [] := by
 cases l with
 | nil => simp [wds]
 | cons x r =>
  unfold wds
  split
  ·simp
  ·split <;> simp
theorem wds_sep {x : Nat} {r : List Nat} (h : isSep x = true) : wds (x :: r) = [] :: wds r := by rw [wds, if_pos h]
theorem wds_not {x : Nat} {r p : List Nat} {q : List (List Nat)} (h : isSep x = false) (e : wds r = p :: q) : wds (x :: r) = (x :: p) :: q := by
 rw [wds, if_neg (by rw [h]; decide), e]
theorem wds_cases (l : List Nat) : ∃ p q, wds l = p :: q := by
 cases e : wds l with
 | nil => exact absurd e (wds_ne l)
 | cons p q => exact ⟨p, q, rfl⟩
theorem wds_eq : ∀ l : List Nat, (spl 10 l).flatMap (spl 32) = wds l
 | [] => rfl
 | x :: r => by
  have ih := wds_eq r
  obtain ⟨p, q, e⟩ := wds_cases r
  cases es : spl 10 r with
  | nil => exact absurd es (spl_ne 10 r)
  | cons p1 q1 =>
   rw [es, List.flatMap_cons] at ih
   by_cases h10 : x = 10
   ·subst h10
    rw [spl, if_pos rfl, wds_sep rfl, es, List.flatMap_cons, List.flatMap_cons, ih]; rfl
   ·rw [spl, if_neg h10, es]
    show List.flatMap (spl 32) ((x :: p1) :: q1) = _
    rw [List.flatMap_cons]
    by_cases h32 : x = 32
    ·subst h32
     rw [spl, if_pos rfl, wds_sep rfl, ← ih]; rfl
    ·have hs : isSep x = false := by
      unfold isSep
      simp [h32, h10]
     cases e1 : spl 32 p1 with
     | nil => exact absurd e1 (spl_ne 32 p1)
     | cons p2 q2 =>
      rw [e1] at ih
      rw [spl, if_neg h32, e1]
      exact (wds_not hs ih.symm).symm
theorem wds_append : ∀ (a b : List Nat), ∃ A x y B, wds a = A ++ [x] ∧ wds b = y :: B ∧ wds (a ++ b) = A ++ [x ++ y] ++ B
 | [], b => by
  obtain ⟨y, B, e⟩ := wds_cases b
  exact ⟨[], [], y, B, rfl, e, by simpa using e⟩
 | c :: a, b => by
  obtain ⟨A, x, y, B, h1, h2, h3⟩ := wds_append a b
  cases hs : isSep c with
  | true =>
   refine ⟨[] :: A, x, y, B, by rw [wds_sep hs, h1]; rfl, h2, ?_⟩
   show wds (c :: (a ++ b)) = _
   rw [wds_sep hs, h3]; rfl
  | false =>
   cases A with
   | nil => exact ⟨[], c :: x, y, B, wds_not hs h1, h2, wds_not hs h3⟩
   | cons p q => exact ⟨(c :: p) :: q, x, y, B, wds_not hs h1, h2, wds_not hs h3⟩
theorem wds_spoilt (a b m : List Nat) (s : Nat) : ∃ ex : List (List Nat), ex.length ≤ 3 ∧ ∀ w ∈ wds (a ++ s :: b), w ∈ wds (a ++ (m ++ b)) ∨ w ∈ ex := by
 obtain ⟨A, x, y, B, h1, h2, h3⟩ := wds_append a (m ++ b)
 obtain ⟨A', x', y', B', k1, k2, k3⟩ := wds_append m b
 obtain ⟨A2, x2, y2, B2, j1, j2, j3⟩ := wds_append a (s :: b)
 have eA : A2 = A ∧ x2 = x := by
  rw [h1] at j1
  have := List.append_inj' j1 rfl
  exact ⟨this.1.symm, (by simpa using this.2.symm)⟩
 obtain ⟨rfl, rfl⟩ := eA
 have hB : ∀ w ∈ B', w ∈ wds (a ++ (m ++ b)) := fun w hw => by
  rw [h3]
  rw [k3] at h2
  cases A' with
  | nil =>
   have : B = B' := (List.cons.inj h2).2.symm
   exact List.mem_append.mpr (.inr (this ▸ hw))
  | cons p q =>
   have : B = q ++ [x' ++ y'] ++ B' := by
    have := (List.cons.inj h2).2.symm
    simpa using this
   exact List.mem_append.mpr (.inr (by rw [this]; exact List.mem_append.mpr (.inr hw)))
 have hA : ∀ w ∈ A2, w ∈ wds (a ++ (m ++ b)) := fun w hw => by
  rw [h3, List.append_assoc]
  exact List.mem_append.mpr (.inl hw)
 cases hs : isSep s with
 | true =>
  rw [wds_sep hs, k2] at j2
  obtain ⟨e1, e2⟩ := List.cons.inj j2
  refine ⟨[x2 ++ y2, y'], by simp, fun w hw => ?_⟩
  rw [j3, ← e2] at hw
  rcases List.mem_append.mp hw with hw | hw
  ·rcases List.mem_append.mp hw with hw | hw
   ·exact .inl (hA w hw)
   ·exact .inr (by rw [show w = x2 ++ y2 by simpa using hw]; exact .head _)
  ·rcases List.mem_cons.mp hw with hw | hw
   ·exact .inr (by rw [hw]; exact .tail _ (.head _))
   ·exact .inl (hB w hw)
 | false =>
  rw [wds_not hs k2] at j2
  obtain ⟨e1, e2⟩ := List.cons.inj j2
  refine ⟨[x2 ++ y2], by simp, fun w hw => ?_⟩
  rw [j3, ← e2] at hw
  rcases List.mem_append.mp hw with hw | hw
  ·rcases List.mem_append.mp hw with hw | hw
   ·exact .inl (hA w hw)
   ·exact .inr (by rw [show w = x2 ++ y2 by simpa using hw]; exact .head _)
  ·exact .inl (hB w hw)
theorem spl_len (c : Nat) : ∀ l : List Nat, (spl c l).length = l.count c + 1
 | [] => rfl
 | x :: r => by
  have ih := spl_len c r
  by_cases e : x = c
  ·subst e
   rw [spl, if_pos rfl, List.length_cons, ih, List.count_cons_self]
  ·rw [spl, if_neg e, List.count_cons_of_ne (by simpa using e), ← ih]
   cases es : spl c r with
   | nil => exact absurd es (spl_ne c r)
   | cons p q => rfl
end Mine
end
-- text C1
section
open PySem PySem.Calls PyProof.Rows PySem.W
namespace Mine
structure Cls (S : St) (K : Frag) : Prop where
 makes : makesIn K S.book = true
 ga : findIn K (.ref S.book) "__getattribute__" = some (some (.builtin "object.__getattribute__"))
 gk : findIn K (.ref S.book) "__getattr__" = some none
 sa : findIn K (.ref S.book) "__setattr__" = some (some (.builtin "object.__setattr__"))
 over : plainOver K S.book = true
 dict : (clsIn K S.book).any (·.hasDict) = true
 keep : keepIn K (.ref S.book) = true
noncomputable def putA : List (Str × AV) → Str → AV → List (Str × AV)
 | [], x, v => [(x, v)]
 | (y, w) :: r, x, v => if y = x then (y, v) :: r else (y, w) :: putA r x v
noncomputable def getA : List (Str × AV) → Str → Option AV
 | [], _ => none
 | (y, w) :: r, x => if y = x then some w else getA r x
theorem isStr_str (x y : Str) (t : Tok) : Value.isStr (.str x t) y = decide (x = y) := by
 simp only [Value.isStr]
 by_cases e : x = y <;> simp [e]
theorem kvs_some : ∀ {des : List DictEntry} {es : List (Str × AV)}, KVs des es → ∀ {name : Str} {a : AV}, getA es name = some a → ∃ e, des.find? (·.key.isStr name) = some e ∧ VR e.val a
 | _, _, .nil, name, a, h => by cases h
 | _, _, @KVs.cons hh x t v b des es r rs, name, a, h => by
  unfold getA at h
  by_cases q : x = name
  ·rw [if_pos q] at h; cases h
   refine ⟨⟨hh, .str x t, v⟩, ?_, r⟩
   simp [List.find?, isStr_str, q]
  ·rw [if_neg q] at h
   obtain ⟨e, h1, h2⟩ := kvs_some rs h
   exact ⟨e, by simp only [List.find?, isStr_str, q, decide_false]; exact h1, h2⟩
theorem kvs_none : ∀ {des : List DictEntry} {es : List (Str × AV)}, KVs des es → ∀ {name : Str}, getA es name = none → des.find? (·.key.isStr name) = none
 | _, _, .nil, name, h => rfl
 | _, _, @KVs.cons hh x t v b des es r rs, name, h => by
  unfold getA at h
  by_cases q : x = name
  ·rw [if_pos q] at h; cases h
  ·rw [if_neg q] at h
   simp only [List.find?, isStr_str, q, decide_false]; exact kvs_none rs h
theorem kvs_ref : ∀ {des : List DictEntry} {es : List (Str × AV)}, KVs des es → des.any (·.refKey) = false
 | _, _, .nil => rfl
 | _, _, .cons r rs => by rw [List.any_cons, kvs_ref rs]; rfl
theorem kvs_put : ∀ {des : List DictEntry} {es : List (Str × AV)}, KVs des es → ∀ {name : Str} {h : Int} {t : Tok} {v : Value} {a : AV}, VR v a →
  KVs (putIn (·.key.isStr name) (fun e => { e with val := v }) ⟨h, .str name t, v⟩ des) (putA es name a)
 | _, _, .nil, name, h, t, v, a, r => .cons r .nil
 | _, _, @KVs.cons hh x tx vx b des es rx rs, name, h, t, v, a, r => by
  unfold putA
  by_cases q : x = name
  ·rw [if_pos q, putIn_hit _ _ _ _ _ (by simp [isStr_str, q])]
   exact .cons r rs
  ·rw [if_neg q, putIn_miss _ _ _ _ _ (by simp [isStr_str, q])]
   exact .cons rx (kvs_put rs r)
theorem kvs_len : ∀ {des : List DictEntry} {es : List (Str × AV)}, KVs des es → des.length = es.length
 | _, _, .nil => rfl
 | _, _, .cons _ rs => by simp [kvs_len rs]
theorem putA_len (es : List (Str × AV)) (x : Str) (v : AV) : (putA es x v).length ≤ es.length + 1 := by
 induction es with
 | nil => simp [putA]
 | cons p r ih =>
  obtain ⟨y, w⟩ := p
  unfold putA
  split
  ·simp
  ·simp; omega
section
variable {S : St} {C : Cx} {H : AH} {s : Shared} {K : Frag}
theorem Inv.inst (I : Inv S C H s) {a d : Addr} {es : List (Str × AV)} (ha : H a = some (.inst d)) (hd : H d = some (.attrs es)) :
  ∃ od des n, InstAt s.heap a { cls := .ref S.book, dict := some d, data := .plain } S.book (some od) ∧ s.heap.get? d = some od ∧ od = { cls := .type "dict", data := .dict des n } ∧ KVs des.toList es := by
 have h1 : s.heap.get? a = some { cls := .ref S.book, dict := some d, data := .plain } := I.objs a _ ha
 obtain ⟨des, n, h2, h3⟩ := I.objs d _ hd
 exact ⟨_, des, n, ⟨h1, rfl, rfl, h2⟩, h2, rfl, h3⟩
theorem look_some {des : Array DictEntry} {n : Nat} {es : List (Str × AV)} (h : KVs des.toList es) {name : Str} {a : AV} (e : getA es name = some a) : ∃ v, lookIn name { cls := .type "dict", data := .dict des n } = some (some v) ∧ VR v a := by
 obtain ⟨en, h1, h2⟩ := kvs_some h e
 exact ⟨en.val, by unfold lookIn; dsimp only; rw [h1], h2⟩
theorem look_none {des : Array DictEntry} {n : Nat} {es : List (Str × AV)} (h : KVs des.toList es) {name : Str} (e : getA es name = none) : lookIn name { cls := .type "dict", data := .dict des n } = some none := by
 unfold lookIn
 dsimp only
 rw [kvs_none h e]
 dsimp only
 rw [kvs_ref h]; rfl
theorem handed_VR {v : Value} {a : AV} (h : VR v a) : handedIn v = true := by cases h <;> rfl
theorem findObj_val (CL : Cls S K) {od : Obj} {name : Str} {v : Value} (hn : findIn K (.ref S.book) name = some none) (hl : lookIn name od = some (some v)) : findObj K S.book (some od) name = some (.value v) := by
 obtain ⟨cd, hc, hd⟩ := any_some CL.dict
 unfold findObj
 rw [hc, hn]
 simp only [Option.bind_some]
 simp [W.ownOf, hd, hl]
end
section
variable {S : St} {b : Bool} {d : Nat} {sc : Kd} {ρ : Rho} {K : Frag}
noncomputable def tAttr (attr : Str) (t : Tm) : Tm := fun m H Q X => t m H (fun x H1 => ∃ a d es v, x = .ref a ∧ H1 a = some (.inst d) ∧ H1 d = some (.attrs es) ∧ getA es attr = some v ∧ Q v H1) X
theorem sE_attr {x attr : Str} {xp pos : Pos} {t : Tm} (EL : EnvL S K) (CL : Cls S K) (h1 : SoundE S b d sc ρ (.Name x xp) t) (hn : findIn K (.ref S.book) attr = some none) :
  SoundE S b d sc ρ (.Attribute (.Name x xp) attr pos) (tAttr attr t) := by
 intro C A env m H Q X E s R O hk V I h hE
 refine Attribute_Name_ (wpAny_mono (h1 C A env m H _ X E s R O hk V I h hE) ?_ fun _ _ x => x)
 rintro ov s1 ⟨x, H1, r1, I1, a, dd, es, v, rfl, ha, hd, hg, q⟩
 cases r1
 obtain ⟨od, des, n, IA, _, rfl, kv⟩ := I1.inst ha hd
 obtain ⟨w, hl, hw⟩ := look_some kv hg
 exact get_value (EL.X.keeps I1.base) IA CL.ga (findObj_val CL hn hl) (handed_VR hw) ⟨v, H1, hw, I1.toks _, q⟩
noncomputable def tMcall (name : Str) (F : Fn) (t : Tm) (ts : Tms) : Tm := fun m H Q X => t m H (fun x H1 => ∃ a d es, x = .ref a ∧ H1 a = some (.inst d) ∧ H1 d = some (.attrs es) ∧ getA es name = none ∧ ts m H1 (fun vs H2 => F (x :: vs) H2 Q X) X) X
theorem sE_mcall {o : Expr} {name : Str} {apos pos : Pos} {args : List Expr} {f : Addr} {F : Fn} {t : Tm} {ts : Tms} (EL : EnvL S K) (CL : Cls S K) (hF : SoundF S b d (.ref f) F) (h1 : SoundE S b d sc ρ o t) (h2 : SoundEs S b d sc ρ args ts)
  (hbase : ∀ env, attributeBase o name env (eval o env) = eval o env) (hline : (apos.endLine == pos.line) = true) (hs : noStar args = true) (hn : args.length < 29)
  (hf : findIn K (.ref S.book) name = some (some (.ref f))) (ht : typeIn K (.ref f) = some (.type "function")) (hkp : keepIn K (.ref f) = true) :
  SoundE S b d sc ρ (.Call (.Attribute o name apos) args [] pos) (tMcall name F t ts) := by
 intro C A env m H Q X E s R O hk V I h hE
 have hfew : ((backTo pos (starEach args env)).all (fun x => !x.1) && (backToKw pos (keywordEach [] env)).all (fun x => x.1.isSome)
   && decide (args.length + ([] : List Keyword).length + (if ([] : List Keyword).isEmpty then 0 else 1) < 30)) = true := by
  rw [backTo_plain hs]
  have e : (backToKw pos (keywordEach [] env)) = [] := rfl
  rw [e]; simp; omega
 rw [arm_eval_Call, hbase env]
 refine wpAny_bind (wpAny_mono (h1 C A env m H _ X E s R O hk V I h hE) ?_ fun _ _ x => x)
 rintro ov s1 ⟨x, H1, r1, I1, a, dd, es, rfl, ha, hd, hg, q⟩
 cases r1
 obtain ⟨od, des, n, IA, _, rfl, kv⟩ := I1.inst ha hd
 have hl := look_none (n := n) kv hg
 refine wpAny_bind (wpAny_standAt ?_)
 have hform : methodCallForm (args.length + ([] : List Keyword).length) (backTo pos (starEach args env)) (backToKw pos (keywordEach [] env)) = true := hfew
 have hpos : methodCallPos true o env apos pos = pure pos := by unfold methodCallPos; simp [hline]
 unfold methodCall
 rw [hform]
 refine wpAny_bind (wpAny_holding (method_fn (EL.X.keeps I1.base) IA CL.ga CL.gk hf ht (by unfold shadowIn; dsimp only; rw [hl]; rfl) ?_))
 refine wpAny_bind (wpAny_of_eq hpos ?_)
 refine callWith_of (P := fun h => K.In h) (by rw [backTo_any hs]; rfl) (fun h X => keeps_K hkp h X) (evalArgs_of hs (wpAny_mono (h2 C A env m H1 _ X E s1 pos R O hk V I1 q hE) ?_ fun _ _ x => x))
 rintro vs s2 ⟨avs, H2, r2, I2, q2⟩
 refine ⟨EL.X.keeps I2.base, wpAny_call (codeAny_mono (hF C A (.ref a :: vs) (.ref a :: avs) H2 Q X s2 R (.of_env O) (.cons (.ref a) r2) I2 q2) ?_)⟩
 intro r s3 hr
 cases r with
 | error e => obtain ⟨x, H3, hx, hr⟩ := hr; exact hE x H3 e s3 hx hr
 | ok fl => cases fl <;> first | exact hr | exact hr.elim
noncomputable def tMake (F : Fn) : Tm := fun m H Q X => ∀ x d, H x = none → H d = none → x ≠ d → F [.ref x] ((H.put d (.attrs [])).put x (.inst d)) (fun v H' => v = .none ∧ Q (.ref x) H') X
theorem sE_make {f : Str} {fI : Addr} {p pos : Pos} {F : Fn} (EL : EnvL S K) (CL : Cls S K) (hF : SoundF S b d (.ref fI) F) (hx : sc f = some .globalImplicit) (hv : S.mg f = some (.ref S.book)) (hd : (f == ("__debug__" : Str)) = false)
  (hi : findIn K (.ref S.book) "__init__" = some (some (.ref fI))) (hf : typeIn K (.ref fI) = some (.type "function")) : SoundE S b (d + 1) sc ρ (.Call (.Name f p) [] [] pos) (tMake F) := by
 intro C A env m H Q X E s R O hk V I h hE
 refine wpAny_Call_NameR (load_global EL.KS O I ((hk f).trans hx) hv hd ?_)
 refine callWith_of (P := fun h => K.In h) rfl (fun h X => keeps_K CL.keep h X) (PySem.evalArgs_none ⟨EL.X.keeps I.base, ?_⟩)
 refine wpAny_call ?_
 obtain ⟨hh, g, dr, t, os⟩ := s
 refine make_core (makes_of (EL.X.keeps I.base) CL.makes) (looks_findIn (EL.X.keeps I.base) hi) (fun self => bind_fn (EL.X.keeps I.base) self hf) (.inl rfl) ?_
 have n0 : hh.get? hh.objs.size = none := Heap.get?_none_of_le (Nat.le_refl _)
 have I1 : Inv S C (H.put hh.objs.size (.attrs [])) ⟨hh.push emptyDict, g, dr, t, os⟩ := I.add (s' := ⟨hh.push emptyDict, g, dr, t, os⟩) n0 (fun b o e => Heap.get?_push_of_some _ e) ⟨#[], 0, Heap.get?_push_size _ rfl, .nil⟩ rfl rfl
 have n1 : (hh.push emptyDict).get? (hh.objs.size + 1) = none := Heap.get?_none_of_le (by rw [Heap.size_push]; exact Nat.le_refl _)
 have I2 : Inv S C ((H.put hh.objs.size (.attrs [])).put (hh.objs.size + 1) (.inst hh.objs.size)) ⟨(hh.push emptyDict).push (instObj S.book hh.objs.size), g, dr, t, os⟩ := by
  refine I1.add (s' := ⟨(hh.push emptyDict).push (instObj S.book hh.objs.size), g, dr, t, os⟩) n1 (fun b o e => Heap.get?_push_of_some _ e) ?_ rfl rfl
  show ((hh.push emptyDict).push (instObj S.book hh.objs.size)).get? (hh.objs.size + 1) = some _
  have := Heap.get?_push_size (hh.push emptyDict) (o := instObj S.book hh.objs.size) rfl
  rw [Heap.size_push] at this; exact this
 have w1 : Code.weight (.builtin "type.__call__" ⟨[.ref S.book], []⟩) = 1 := by kernel_rfl
 have w2 : Code.cUnits (.builtin "type.__call__" ⟨[.ref S.book], []⟩) = 1 := by kernel_rfl
 have w3 : Code.envs (.builtin "type.__call__" ⟨[.ref S.book], []⟩) = [] := by kernel_rfl
 have q := h (hh.objs.size + 1) hh.objs.size ((Inv.fresh I (Heap.get?_none_of_le (Nat.le_succ _))).1) (I.fresh n0).1 (Nat.succ_ne_self _)
 refine codeAny_mono (hF C (A.under (.builtin "type.__call__" ⟨[.ref S.book], []⟩)) [.ref (hh.objs.size + 1)] [.ref (hh.objs.size + 1)] _ _ X _ ⟨fun e => R.hd e, ?_, ?_⟩ ⟨?_, O.fun_⟩ (.cons (.ref _) .nil) I2 q) ?_
 ·have := R.depth
  show A.depth + Code.weight _ + 8 * d ≤ 600
  rw [w1]; omega
 ·have := R.units
  show A.units + Code.cUnits _ + 100 * d ≤ 9000
  rw [w2]; omega
 ·unfold Around.under
  dsimp only
  rw [w3, O.stack]; rfl
 intro r s3 hr
 cases r with
 | error e => obtain ⟨x, H3, hx, hr⟩ := hr; exact hE x H3 e s3 hx hr
 | ok fl =>
  cases fl with
  | ret v =>
   obtain ⟨av, H3, r3, I3, e3, q3⟩ := hr
   subst e3
   cases r3
   exact ⟨rfl, ⟨_, H3, .ref _, I3, q3⟩⟩
  | _ => exact hr.elim
end
end Mine
end
-- text C2
section
open PySem PySem.Calls PyProof.Rows PySem.W
namespace Mine
section
variable {S : St} {b : Bool} {d : Nat} {sc : Kd} {ρ : Rho} {K : Frag}
inductive AttrSetK (attr : Str) (v x : AV) (H : AH) (Q : AH → Prop) : Prop
 | mk (a d : Addr) (es : List (Str × AV)) : x = .ref a → H a = some (.inst d) → H d = some (.attrs es) → es.length < 900 → Q (H.put d (.attrs (putA es attr v))) → AttrSetK attr v x H Q
noncomputable def tAttrSet (attr : Str) (o t : Tm) : Ts := fun m H QN _ X => t m H (fun v H1 => o m H1 (fun x H2 => AttrSetK attr v x H2 (QN m)) X) X
theorem osa_mine {C : Cx} {A : Around} {H : AH} {s : Shared} {a dd : Addr} {es : List (Str × AV)} {attr : Str} {tk : Tok} {v : Value} {av : AV} {R : Result → Shared → Prop} (EL : EnvL S K) (CL : Cls S K) (I : Inv S C H s) (hn : findIn K (.ref S.book) attr = some none)
  (ha : H a = some (.inst dd)) (hd : H dd = some (.attrs es)) (hl : es.length < 900) (r : VR v av) (hQ : ∀ s', Inv S C (H.put dd (.attrs (putA es attr av))) s' → R (.ok (.ret .none)) s') :
  codeAny S.M A (.call (.builtin "object.__setattr__") ⟨[.ref a, .str attr tk, v], []⟩) R s := by
 obtain ⟨od, des, n, IA, D, rfl, kv⟩ := I.inst ha hd
 have X := EL.X.keeps I.base
 refine osa_open X IA CL.over (show takerIn K S.book attr = some none from by unfold takerIn; rw [hn]; rfl) fun b => ?_
 obtain ⟨cd, hc, hd'⟩ := any_some CL.dict
 have hx := IA.at_
 refine wpAny_bind (wpAny_pure (wpAny_bind (wpAny_bind (wpAny_loadPart hx (wpAny_bind ((looks_clsIn X hc).here ?_))))))
 rw [hd']
 refine wpAny_pure (a := some dd) (wpAny_bind (wpAny_pure (wpAny_bind ?_)))
 unfold nsSet
 refine wpAny_bind (wpAny_bind (wpAny_askSetting (wpAny_pure (wpAny_bind (wpAny_mkText (wpAny_bind (wpAny_loadPart D ?_)))))))
 have c : (!des.any (·.key.isStr attr) && des.any (·.refKey)) = false := by
  have z : des.any (·.refKey) = false := by rw [← Array.any_toList]; exact kvs_ref kv
  rw [z, Bool.and_false]
 dsimp only
 rw [aRefKeyMayBeTheName_at, c]
 refine wpAny_updatePart D ?_
 have e := putName_eq attr (PyData.keyHash S.w.params attr) (.str attr s.toks) v (.type "dict") none des.toList n #[]
 have kv' := kvs_put kv (name := attr) (h := PyData.keyHash S.w.params attr) (t := s.toks) r
 have len := kvs_len kv'
 have len2 := putA_len es attr av
 generalize hD : putIn (·.key.isStr attr) (fun e => { e with val := v }) ⟨PyData.keyHash S.w.params attr, .str attr s.toks, v⟩ des.toList = des' at e kv' len
 rw [Array.toArray_toList] at e
 have D' := Heap.get?_update_self (Obj.putName attr (PyData.keyHash S.w.params attr) (.str attr s.toks) v) D (by rw [e]; rfl)
 rw [e] at D'
 refine wpAny_bind (wpAny_lookBehind D' (pastItsLine_dict (by rw [List.size_toArray, sizeLine_eq]; omega)) ?_)
 refine wpAny_pure (hQ _ ?_)
 exact I.set (s' := { s with heap := s.heap.update dd _, toks := _ }) hd rfl (fun b ob nb e => (Heap.get?_update_other _ _ (Ne.symm nb)).trans e) ⟨des'.toArray, _, D', kv'⟩ rfl rfl
theorem set_attr {C : Cx} {A : Around} {H : AH} {s : Shared} {E : Value → Shared → Prop} {a dd : Addr} {es : List (Str × AV)} {attr : Str} {v : Value} {av : AV} {Q : Unit → Shared → Prop} (EL : EnvL S K) (CL : Cls S K) (I : Inv S C H s) (hn : findIn K (.ref S.book) attr = some none)
  (ha : H a = some (.inst dd)) (hd : H dd = some (.attrs es)) (hl : es.length < 900) (r : VR v av) (hQ : ∀ s', Inv S C (H.put dd (.attrs (putA es attr av))) s' → Q () s') : wpAny S.M A (setAttr (.ref a) attr v) Q E s := by
 obtain ⟨od, des, n, IA, D, rfl, kv⟩ := I.inst ha hd
 exact set_plain (EL.X.keeps I.base) IA CL.sa (osa_mine EL CL (I.toks _) hn ha hd hl r hQ)
theorem sT_attrSet {x attr : Str} {xp ap pos : Pos} {e : Expr} {o t : Tm} (EL : EnvL S K) (CL : Cls S K) (h0 : SoundE S b d sc ρ (.Name x xp) o) (h1 : SoundE S b d sc ρ e t) (hn : findIn K (.ref S.book) attr = some none)
  (hs : ∀ env, swapsWith e (some (.Attribute (.Name x xp) attr ap)) pos.line env = pure false) : SoundT S b d sc ρ (.Assign [.Attribute (.Name x xp) attr ap] e pos) (tAttrSet attr o t) := by
 intro C A env m H QN QR X E s R O hc hk' V I h hE
 refine plainObj_wpAny_Assign_Attribute (wpAny_mono (h1 C A env m H _ X E s R O hk' V I h (hE.ex O)) ?_ fun _ _ x => x) (hs env)
 rintro v s1 ⟨av, H1, r1, I1, q1⟩
 refine wpAny_mono (h0 C A env m H1 _ X E s1 R O hk' V I1 q1 (hE.ex O)) ?_ fun _ _ x => x
 rintro ov s2 ⟨x, H2, r2, I2, a, dd, es, rfl, ha, hd, hl, q2⟩
 cases r2
 exact set_attr EL CL I2 hn ha hd hl r1 fun s3 I3 => ⟨C, _, .refl env C, I3, m, O, V, q2⟩
noncomputable def tDict0 : Tm := fun m H Q X => ∀ r, H r = none → Q (.ref r) (H.put r (.idict []))
theorem sE_dict0 {pos : Pos} : SoundE S b d sc ρ (.Dict [] [] pos) tDict0 := by
 intro C A env m H Q X E s R O hk V I h hE
 have n0 : s.heap.get? s.heap.objs.size = none := Heap.get?_none_of_le (Nat.le_refl _)
 refine wpAny_Dict_empty ⟨_, _, .ref _, ?_, h _ (I.fresh n0).1⟩
 refine I.add (s' := { s with heap := s.heap.push { cls := .type "dict", data := .dict #[] } }) (o := .idict []) n0 (fun b o e => Heap.get?_push_of_some _ e) ?_ rfl rfl
 obtain ⟨ep, D⟩ := (Heap.DictOf.new (knd := intKind S.prog S.w) s.heap).dictAt
 exact ⟨[], ep, D, .nil, Nat.zero_le _⟩
noncomputable def storedA {K : Type} [DecidableEq K] (es : List (K × AV)) (k : K) (v : AV) : List (K × AV) := if es.any (fun p => p.1 = k) then es.map (fun p => if p.1 = k then (p.1, v) else p) else es ++ [(k, v)]
theorem PRs.append {K : Type} {kvs kws : List (K × Value)} {es fs : List (K × AV)} (h : PRs kvs es) (k : PRs kws fs) : PRs (kvs ++ kws) (es ++ fs) := by
 induction h with
 | nil => exact k
 | cons r _ ih => exact .cons r ih
theorem PRs.any {K : Type} [DecidableEq K] {kvs : List (K × Value)} {es : List (K × AV)} (h : PRs kvs es) (k : K) : (kvs.any fun p => decide (p.1 = k)) = es.any fun p => decide (p.1 = k) := by
 induction h with
 | nil => rfl
 | cons r _ ih => rw [List.any_cons, List.any_cons, ih]
theorem PRs.stored {K : Type} [DecidableEq K] {kvs : List (K × Value)} {es : List (K × AV)} (h : PRs kvs es) (k : K) {v : Value} {a : AV} (r : VR v a) : PRs (stored kvs k v) (storedA es k a) := by
 unfold PySem.stored storedA
 rw [h.any k]
 cases es.any (fun p => decide (p.1 = k)) with
 | false => exact h.append (.cons r .nil)
 | true =>
  rw [if_pos rfl, if_pos rfl]
  induction h with
  | nil => exact .nil
  | @cons j v0 a0 vs as r0 _ ih =>
   rw [List.map_cons, List.map_cons]
   by_cases e : j = k
   ·rw [if_pos e, if_pos e]; exact .cons r ih
   ·rw [if_neg e, if_neg e]; exact .cons r0 ih
theorem PRs.len {K : Type} {kvs : List (K × Value)} {es : List (K × AV)} (h : PRs kvs es) : kvs.length = es.length := by
 induction h with
 | nil => rfl
 | cons _ _ ih => simp [ih]
inductive SubSetK (v x i : AV) (H : AH) (Q : AH → Prop) : Prop
 | idict (a : Addr) (es : List (Int × AV)) (k : Int) : x = .ref a → i = .int k → H a = some (.idict es) → es.length < sizeLine → Q (H.put a (.idict (storedA es k v))) → SubSetK v x i H Q
noncomputable def tSubSet (o i t : Tm) : Ts := fun m H QN _ X => t m H (fun v H1 => o m H1 (fun x H2 => i m H2 (fun y H3 => SubSetK v x y H3 (QN m)) X) X) X
theorem sT_subSet {o i e : Expr} {p pos : Pos} {to ti te : Tm} (h0 : SoundE S b d sc ρ o to) (h1 : SoundE S b d sc ρ i ti) (h2 : SoundE S b d sc ρ e te)
  (hs : ∀ env, swapsWith e (some (.Subscript o i p)) pos.line env = pure false) : SoundT S b d sc ρ (.Assign [.Subscript o i p] e pos) (tSubSet to ti te) := by
 intro C A env m H QN QR X E s R O hc hk' V I h hE
 refine wpAny_Assign_Subscript (wpAny_mono (h2 C A env m H _ X E s R O hk' V I h (hE.ex O)) ?_ fun _ _ x => x) (hs env)
 rintro v s1 ⟨av, H1, r1, I1, q1⟩
 refine wpAny_mono (h0 C A env m H1 _ X E s1 R O hk' V I1 q1 (hE.ex O)) ?_ fun _ _ x => x
 rintro ov s2 ⟨x, H2, r2, I2, q2⟩
 refine wpAny_mono (h1 C A env m H2 _ X E s2 R O hk' V I2 q2 (hE.ex O)) ?_ fun _ _ x => x
 rintro iv s3 ⟨y, H3, r3, I3, q3⟩
 cases q3 with
 | idict a es k ex ey ha hl q =>
  subst ex; subst ey
  cases r2
  obtain ⟨t, rfl⟩ := r3.int_inv
  obtain ⟨kvs, ep, D, P, hz⟩ := I3.objs _ _ ha
  have e := P.len
  refine wpAny_setItem_pairs (knd := intKind S.prog S.w) (k := k) (by show decide (k = k) = true; simp) D.dictOf (fun h' D' sb => ?_) hz
  obtain ⟨ep', D'⟩ := D'.dictAt
  refine ⟨C, _, .refl env C, ?_, m, O, V, q⟩
  refine I3.set (s' := { s3 with heap := h', toks := s3.toks + 1 }) ha rfl (fun b ob nb e => (sb.2 b nb).trans e) ⟨_, ep', D', P.stored k r1, ?_⟩ rfl rfl
  have := stored_length_le kvs k v
  omega
noncomputable def tNever : Ts := fun _ _ _ _ _ => False
theorem sT_never {st : Stmt} : SoundT S b d sc ρ st tNever := fun C A env m H QN QR X E s _ _ _ _ _ _ h _ => h.elim
noncomputable def tChain (f g : AV → AV → AH → (Bool → AH → Prop) → Prop) (t u v : Tm) : Tb := fun m H Q X => t m H (fun x H1 => u m H1 (fun y H2 => f x y H2 fun c H3 => if c = true then v m H3 (fun z H4 => g y z H4 Q) X else Q false H3) X) X
theorem sB_chain {l r1 r2 : Expr} {op1 op2 : CmpOp} {pos : Pos} {t u v : Tm} {f g : AV → AV → AH → (Bool → AH → Prop) → Prop} (hf : CmpOK S op1 f) (hg : CmpOK S op2 g) (h1 : SoundE S b d sc ρ l t) (h2 : SoundE S b d sc ρ r1 u) (h3 : SoundE S b d sc ρ r2 v)
  (hm : lastMarks [op1, op2] [r1, r2] = false) : SoundB S b d sc ρ (.Compare l [op1, op2] [r1, r2] pos) (tChain f g t u v) := by
 intro C A env m H Q X E s R O hk V I h hE
 refine isTrue_chain (wpAny_mono (h1 C A env m H _ X E s R O hk V I h hE) ?_ fun _ _ x => x) hm
 rintro va s1 ⟨a1, H1, q1, I1, p1⟩
 refine test_link (wpAny_mono (h2 C A env m H1 _ X E s1 R O hk V I1 p1 hE) ?_ fun _ _ x => x)
 rintro vb s2 ⟨a2, H2, q2, I2, p2⟩
 refine wpAny_mono (hf C A va vb a1 a2 H2 _ E s2 R.u q1 q2 I2 p2) ?_ fun _ _ x => x
 rintro vc s3 ⟨c, rfl, H3, I3, p3⟩
 refine wpAny_truthy_bool ?_
 cases c with
 | false => exact ⟨H3, I3, p3⟩
 | true =>
  rw [if_pos rfl] at p3 ⊢
  refine wpAny_bind (wpAny_holding (wpAny_mono (h3 C A env m H3 _ X E s3 R O hk V I3 p3 hE) ?_ fun _ _ x => x))
  rintro vd s4 ⟨a4, H4, q4, I4, p4⟩
  refine wpAny_bind (wpAny_standAt (wpAny_bind (wpAny_operate' (wpAny_mono (hg C A vb vd a2 a4 H4 _ E s4 R.u q2 q4 I4 p4) ?_ fun _ _ x => x))))
  rintro ve s5 ⟨c, rfl, H5, I5, p5⟩
  exact wpAny_holding (wpAny_truthy_bool ⟨H5, I5, p5⟩)
end
end Mine
end
-- text C3
section
open PySem PySem.Calls PyProof.Rows PySem.W
namespace Mine
section
variable {S : St} {b : Bool} {d : Nat} {sc : Kd} {ρ : Rho} {K : Frag}
noncomputable def tExprA (t : Tm) : Ts := fun m H QN _ X => t m H (fun _ H1 => QN m H1) X
theorem sT_exprA {e : Expr} {pos : Pos} {t : Tm} (h1 : SoundE S b d sc ρ e t) (hs : ∀ env, swapsWith e none pos.line env = pure false) : SoundT S b d sc ρ (.Expr e pos) (tExprA t) := by
 intro C A env m H QN QR X E s R O hc hk' V I h hE
 have hi : interactive env = false := by unfold interactive; rw [O.kind]; rfl
 rw [exec_Expr env e pos hi (hs env)]
 refine wpAny_bind (wpAny_standAt (wpAny_bind (wpAny_mono (h1 C A env m H _ X E s R O hk' V I h (hE.ex O)) ?_ fun _ _ x => x)))
 rintro v s1 ⟨av, H1, r1, I1, q1⟩
 have fin : PostS S C A env ρ QN QR .next s1 := ⟨C, H1, .refl env C, I1, m, O, V, q1⟩
 unfold dropValue
 split
 ·exact wpAny_pure fin
 ·refine wpAny_bind (wpAny_standAt (wpAny_bind (runValue_entry entry_let_go ?_)))
  exact wpAny_pure ⟨.none, rfl, wpAny_pure fin⟩
 ·exact wpAny_pure fin
inductive InDK (x y : AV) (H : AH) (Q : Bool → Prop) : Prop
 | mk (a : Addr) (k : Int) (es : List (Int × AV)) : x = .int k → y = .ref a → H a = some (.idict es) → Q (es.lookup k).isSome → InDK x y H Q
noncomputable def aNotInD (x y : AV) (H : AH) (Q : Bool → AH → Prop) : Prop := InDK x y H fun c => Q (!c) H
theorem PRs.has {K : Type} [DecidableEq K] {kvs : List (K × Value)} {es : List (K × AV)} (h : PRs kvs es) (k : K) : (kvs.lookup k).isSome = (es.lookup k).isSome := by
 induction h with
 | nil => rfl
 | @cons j v a vs as r _ ih =>
  rw [List.lookup_cons, List.lookup_cons]
  cases k == j <;> first | exact ih | rfl
theorem no_sys (K : StOK S) {C : Cx} {H : AH} {s : Shared} (I : Inv S C H s) {a : Addr} {es : List (Int × AV)} (ha : H a = some (.idict es)) : (a == sysModules) = false := by
 obtain ⟨o, ho⟩ := K.sys
 have := (I.sepH a _ ha).2 rfl
 by_cases q : a = sysModules
 ·rw [q, ho] at this; cases this
 ·simpa using q
theorem cmp_notInD (K : StOK S) : CmpOK S .NotIn aNotInD := by
 rintro C A va vb x y H Q E s hu r1 r2 I ⟨a, k, es, rfl, rfl, ha, h⟩
 obtain ⟨t, rfl⟩ := r1.int_inv
 cases r2
 obtain ⟨kvs, ep, D, P, hz⟩ := I.objs _ _ ha
 refine wpAny_notIn_of (k := k) (by simp [intKind, Value.isInt]) (no_sys K I ha) D.dictOf.mapOf ⟨_, rfl, H, I.toks _, ?_⟩
 rw [valueAt_lookup, P.has]; exact h
noncomputable def woA (es : List (Int × AV)) (k : Int) : List (Int × AV) := es.filter fun p => decide (p.1 ≠ k)
theorem PRs.without {kvs : List (Int × Value)} {es : List (Int × AV)} (h : PRs kvs es) (k : Int) : PRs (without kvs k) (woA es k) := by
 induction h with
 | nil => exact .nil
 | @cons j v a vs as r _ ih =>
  unfold PySem.without woA at *
  rw [List.filter_cons, List.filter_cons]
  by_cases q : j = k
  ·simp only [q, ne_eq, not_true, decide_false]; exact ih
  ·simp only [q, ne_eq, not_false_iff, decide_true, if_true]; exact .cons r ih
inductive bPopK (vs : List AV) (H : AH) (Q : QV) : Prop
 | mk (a : Addr) (k : Int) (es : List (Int × AV)) (v : AV) : vs = [.ref a, .int k] → H a = some (.idict es) → es.lookup k = some v → Q v (H.put a (.idict (woA es k))) → bPopK vs H Q
noncomputable def bPop : BFn := fun vs H Q => bPopK vs H Q
theorem bPop_ok : BFnOK S b (.builtin "dict.pop") bPop := by
 rintro C A vs avs H Q E s hh hu r I ⟨a, k, es, v, rfl, ha, hv, h⟩
 obtain ⟨_, w, rfl, r1, r2⟩ := r.two
 cases r1.ref_inv
 obtain ⟨t, rfl⟩ := r2.int_inv
 obtain ⟨kvs, ep, D, P, hz⟩ := I.objs _ _ ha
 obtain ⟨w, hw, rw_⟩ := P.lookup hv
 have hw' : valueAt kvs k = some w := (valueAt_lookup kvs k).trans hw
 refine call_meetsIn PySem.F.slot_dict_pop D.dictOf.mapOf.typeIs PySem.F.entry_dict_pop (PySem.F.args_dict_pop_2 _ _) (meets_dict_pop_there (k := k) (intKind S.prog S.w) a (show (intKind S.prog S.w).is k (.int k t) = true by simp [intKind, Value.isInt]) [] (.inl rfl) rfl) ⟨kvs, w, D.dictOf, hz, hw', fun h' D' sb => ?_⟩
 obtain ⟨ep', D'⟩ := D'.dictAt
 refine ⟨v, _, rw_, ?_, h⟩
 refine I.set (s' := { s with heap := h', toks := s.toks + 1 }) ha rfl (fun b ob nb e => (sb.2 b nb).trans e) ⟨_, ep', D', P.without k, Nat.le_trans (List.length_filter_le _ _) hz⟩ rfl rfl
theorem meth_pop : BMeth "dict" "pop" "dict.pop" := ⟨PySem.F.plainAttrs_dict, PySem.F.slot_dict_pop, rfl⟩
end
end Mine
end
-- text C5
section
open PySem PySem.Calls PyProof.Rows PySem.W
namespace Mine
section
variable {S : St} {b : Bool} {d : Nat} {sc : Kd} {ρ : Rho} {K : Frag}
noncomputable def aSame : AV → AV → AH → (Bool → AH → Prop) → Prop
 | .none, .none, H, Q => Q true H
 | .none, .bool _, H, Q => Q false H
 | .bool c, .bool e, H, Q => Q (c == e) H
 | .bool _, .none, H, Q => Q false H
 | .int _, .none, H, Q => Q false H
 | .int _, .bool _, H, Q => Q false H
 | .ref _, .none, H, Q => Q false H
 | .ref _, .bool _, H, Q => Q false H
 | _, _, _, _ => False
theorem same_bool (c e : Bool) : (Value.bool c == Value.bool e) = (c == e) := by cases c <;> cases e <;> rfl
theorem cmp_is : CmpOK S .Is aSame := by
 intro C A va vb x y H Q E s hu r1 r2 I h
 show wpAny _ _ (isSame va vb >>= fun c => pure (Value.bool c)) _ _ _
 cases r1 <;> cases r2 <;> first
  | exact h.elim
  | exact wpAny_bind (wpAny_pure (wpAny_pure ⟨_, rfl, H, I, h⟩))
  | (rename_i c e; exact wpAny_bind (wpAny_pure (wpAny_pure ⟨_, rfl, H, I, by rw [same_bool]; exact h⟩)))
end
end Mine
end
-- text C13
section
namespace Mine
open PySem PySem.Calls PyProof.Rows PySem.W
set_option maxRecDepth 100000
section
variable {S : St} {b : Bool} {d : Nat} {sc : Kd} {ρ : Rho}
theorem strOk_sub {x : Str} (ok : PyData.strOk x = true) {l : List Nat} (h : ∀ c ∈ l, c ∈ x.cps.toList) : PyData.strOk (tx l) = true := by
 unfold PyData.strOk at *
 rw [Array.all_eq_true_iff_forall_mem] at *
 intro c hc
 exact ok c (by simpa using h c (by simpa [tx] using hc))
theorem spl_sub {c : Nat} : ∀ {l : List Nat}, ∀ p ∈ spl c l, ∀ a ∈ p, a ∈ l
 | [], p, h, a, ha => by simp [spl] at h; subst h; exact nomatch ha
 | x :: r, p, h, a, ha => by
  have ih := spl_sub (c := c) (l := r)
  rw [spl] at h
  split at h
  ·rcases List.mem_cons.mp h with rfl | h
   ·exact nomatch ha
   ·exact .tail _ (ih p h a ha)
  ·split at h
   ·rename_i e; exact absurd e (spl_ne c r)
   ·rename_i p' q' e
    rw [e] at ih
    rcases List.mem_cons.mp h with rfl | h
    ·rcases List.mem_cons.mp ha with rfl | ha
     ·exact .head _
     ·exact .tail _ (ih p' (.head _) a ha)
    ·exact .tail _ (ih p (.tail _ h) a ha)
theorem vrs_values : ∀ {l : List (Str × Tok)}, (∀ p ∈ l, PyData.strOk p.1 = true) → VRs (strValues l) ((l.map (·.1)).map AV.str)
 | [], _ => .nil
 | p :: r, h => .cons (.str _ _ (h p (.head _))) (vrs_values fun q hq => h q (.tail _ hq))
inductive bSplitK (vs : List AV) (H : AH) (Q : QV) : Prop
 | mk (x : Str) (c : Nat) : vs = [.str x, .str ⟨#[c]⟩] → c < 256 → x.length ≤ 1000000 → (∀ r, H r = none → Q (.ref r) (H.put r (.list (((spl c x.cps.toList).map tx).map AV.str)))) → bSplitK vs H Q
noncomputable def bSplit : BFn := fun vs H Q => bSplitK vs H Q
theorem bSplit_ok : BFnOK S b (.builtin "str.split") bSplit := by
 rintro C A vs avs H Q E s hh hu r I ⟨x, c, rfl, hc, hx, h⟩
 obtain ⟨_, _, rfl, r1, r2⟩ := r.two
 obtain ⟨t, rfl, ok⟩ := r1.str_inv
 obtain ⟨u, rfl, _⟩ := r2.str_inv
 have sz : sizeLine = 16777216 := rfl
 have hy : ((⟨#[c]⟩ : Str).length == 0) = false := rfl
 have fin : ∀ (l : List (Str × Tok)) (k : Nat), l.map (·.1) = Txt.split x ⟨#[c]⟩ → PostV S C Q (.ref s.heap.objs.size) { s with heap := s.heap.push { cls := .type "list", data := .seq (strValues l).toArray }, toks := k } := by
  intro l k e
  have e2 := e.trans (split_eq hc x)
  have okl : ∀ p ∈ l, PyData.strOk p.1 = true := fun p hp => by
   have : p.1 ∈ (spl c x.cps.toList).map tx := by rw [← e2]; exact List.mem_map.mpr ⟨p, hp, rfl⟩
   obtain ⟨q, hq, e3⟩ := List.mem_map.mp this
   rw [← e3]
   exact strOk_sub ok (spl_sub q hq)
  have hv := vrs_values okl
  rw [e2] at hv
  have hl : (strValues l).length ≤ sizeLine := by
   have h1 : l.length = (Txt.split x ⟨#[c]⟩).length := by rw [← e, List.length_map]
   have h2 := split_le x ⟨#[c]⟩
   unfold strValues
   rw [List.length_map]; omega
  exact ⟨_, _, .ref _, (I.newList hv hl).toks k, h _ I.nextNone⟩
 have hn : (Builtin.Str.partsBetween x (Builtin.Str.occurrences x ⟨#[c]⟩ 0 x.length (x.length + 1)) (⟨#[c]⟩ : Str).length).length ≤ sizeLine := by
  have e1 := StrLaws.occ_length_le x ⟨#[c]⟩ 0 x.length (x.length + 1)
  rw [length_partsBetween]; omega
 cases h1 : (decide (x.length < (⟨#[c]⟩ : Str).length) || decide (Builtin.Str.strKind x < Builtin.Str.strKind ⟨#[c]⟩))
 ·cases hf : (Builtin.Str.occurrences x ⟨#[c]⟩ 0 x.length (x.length + 1)).isEmpty
  ·refine call_meets PySem.F.slot_str_split (typeIs_str _ _ _) PySem.F.entry_str_split (PySem.F.args_str_split_2 _ _) (meets_str_split_sep x ⟨#[c]⟩ t u h1 hy hf (by omega) hn) ?_
   show wants _ E _ { s with toks := _, heap := s.heap.push { cls := .type "list", data := .seq (strsFrom s.toks (Builtin.Str.partsBetween x (Builtin.Str.occurrences x ⟨#[c]⟩ 0 x.length (x.length + 1)) (⟨#[c]⟩ : Str).length)).toArray } }
   rw [strsFrom_eq]
   exact fin (PySem.numbered s.toks _) _ ((numbered_texts _ _).trans ((if_neg (ne_true_of_eq_false h1)).trans (if_neg (ne_true_of_eq_false hf))).symm)
  ·exact call_meets PySem.F.slot_str_split (typeIs_str _ _ _) PySem.F.entry_str_split (PySem.F.args_str_split_2 _ _) (meets_str_split_not_found x ⟨#[c]⟩ t u h1 hy hf)
    (fin [(x, t)] s.toks ((if_neg (ne_true_of_eq_false h1)).trans (if_pos hf)).symm)
 ·exact call_meets PySem.F.slot_str_split (typeIs_str _ _ _) PySem.F.entry_str_split (PySem.F.args_str_split_2 _ _) (meets_str_split_cannot_occur x ⟨#[c]⟩ t u h1)
   (fin [(x, t)] s.toks (if_pos h1).symm)
theorem meth_split : BMeth "str" "split" "str.split" := ⟨PySem.F.plainAttrs_str, PySem.F.slot_str_split, rfl⟩
noncomputable def aLeS : AV → AV → AH → (Bool → AH → Prop) → Prop
 | .str x, .str y, H, Q => Q (!(decide (y.cps.toList < x.cps.toList))) H
 | _, _, _, _ => False
theorem cmp_leS : CmpOK S .LtE aLeS := by
 intro C A va vb x y H Q E s hu r1 r2 I h
 cases r1 with
 | str x t ok => cases r2 with
  | str y u ok2 => exact PySem.P.le_str ⟨_, rfl, H, I, h⟩
  | _ => exact h.elim
 | _ => exact h.elim
inductive bListCK (vs : List AV) (H : AH) (Q : QV) : Prop
 | mk (x : Str) : vs = [.str x] → x.cps.size ≤ 1000000 → (∀ r, H r = none → Q (.ref r) (H.put r (.list (signs x)))) → bListCK vs H Q
noncomputable def bListC : BFn := fun vs H Q => bListCK vs H Q
theorem bListC_ok : BFnOK S true (.type "list") bListC := by
 rintro C A vs avs H Q E s hh hu r I ⟨x, rfl, hx, h⟩
 obtain ⟨_, rfl, r1⟩ := r.one
 obtain ⟨t, rfl, ok⟩ := r1.str_inv
 have sz : sizeLine = 16777216 := rfl
 refine call_list_str (hh rfl) x t (fun h' tk acc' c' hk hg hacc => ?_) (by omega)
 have hv : VRs acc'.toList (signs x) := by
  have key : ∀ {ws : List Value} {cs : List Nat}, ws.length = cs.length → (∀ (j : Nat) v, ws[j]? = some v → ∃ c u, cs[j]? = some c ∧ v = .str ⟨#[c]⟩ u ∧ PyData.strOk ⟨#[c]⟩ = true) → VRs ws (cs.map fun c => AV.str ⟨#[c]⟩) := by
   intro ws
   induction ws with
   | nil => intro cs hl _; cases cs with
    | nil => exact .nil
    | cons => simp at hl
   | cons w ws ih => intro cs hl hw; cases cs with
    | nil => simp at hl
    | cons c cs =>
     obtain ⟨c', u, e1, rfl, e3⟩ := hw 0 w rfl
     simp at e1; subst e1
     exact .cons (.str _ _ e3) (ih (by simpa using hl) fun j v hv => by simpa using hw (j + 1) v (by simpa using hv))
  refine key (by rw [Array.length_toList, hacc.1]; simp) fun j v hv => ?_
  rw [Array.getElem?_toList] at hv
  obtain ⟨c, u, e1, e2⟩ := hacc.2 j v hv
  exact ⟨c, u, by rw [Array.getElem?_toList]; exact e1, e2, strOk_sign ok e1⟩
 exact ⟨_, _, .ref _, I.add (s' := { s with heap := h', toks := tk }) (o := .list (signs x)) (Heap.get?_none_of_le (Nat.le_refl _)) hk ⟨acc'.toList, c', by rw [hg], hv, by rw [Array.length_toList, hacc.1]; omega⟩ rfl rfl, h _ I.nextNone⟩
inductive MulLK (a : Addr) (n : Int) (H : AH) (Q : QV) : Prop
 | mk (xs : List AV) : H a = some (.list xs) → 0 ≤ n → n ≤ 1000 → xs.length ≤ 1000 → (∀ r, H r = none → Q (.ref r) (H.put r (.list (List.replicate n.toNat xs).flatten))) → MulLK a n H Q
noncomputable def aMulL : AV → AV → AH → QV → Prop
 | .ref a, .int n, H, Q => MulLK a n H Q
 | _, _, _, _ => False
theorem vrs_rep {ws : List Value} {xs : List AV} (h : VRs ws xs) : ∀ n : Nat, VRs (List.replicate n ws).flatten (List.replicate n xs).flatten
 | 0 => .nil
 | n + 1 => by
  rw [List.replicate_succ, List.replicate_succ, List.flatten_cons, List.flatten_cons]
  exact h.append (vrs_rep h n)
theorem fold_rep (a : Array Value) : ∀ (n : Nat) (acc : Array Value), (List.foldl (fun x1 x2 => x1 ++ x2) acc (List.replicate n a)).toList = acc.toList ++ (List.replicate n a.toList).flatten
 | 0, acc => by simp
 | n + 1, acc => by
  rw [List.replicate_succ, List.foldl_cons, fold_rep a n, List.replicate_succ, List.flatten_cons]
  simp
theorem rep_len (ws : List Value) : ∀ n : Nat, (List.replicate n ws).flatten.length = ws.length * n
 | 0 => rfl
 | n + 1 => by rw [List.replicate_succ, List.flatten_cons, List.length_append, rep_len ws n, Nat.mul_succ, Nat.add_comm]
theorem bin_mulL : BinOK S .Mult aMulL := by
 intro C A va vb x y H Q E s hu r1 r2 I h
 cases r1 with
 | ref a => cases r2 with
  | int n t =>
   obtain ⟨xs, ha, n0, n1, hx, h⟩ := h
   obtain ⟨ws, ep, g, q, hl⟩ := I.list ha
   have sz : sizeLine = 16777216 := rfl
   have e := q.length
   have hm : ws.length * n.toNat ≤ 1000000 := by
    have := Nat.mul_le_mul (show ws.length ≤ 1000 by omega) (show n.toNat ≤ 1000 by omega)
    omega
   refine wpAny_binaryOp_repeat_ref (T := "list") (U := "int") (by decide) ⟨_, g, rfl⟩ (fun s' => typeIs_int s' n t) noFill_list_mul PySem.F.fills_int_mul PySem.F.slot_int_rmul repeat_list PySem.F.slot_int_index.lookup
    (call_meets PySem.F.slot_int_rmul (typeIs_int s n t) PySem.F.entry_int_rmul (PySem.F.args_int_rmul_2 _ _) (int___rmul___int_list n t a ws.toArray ep)
     ⟨g, rfl, ⟨_, g, rfl⟩, call_meets PySem.F.slot_list_mul ⟨_, g, rfl⟩ PySem.F.entry_list_mul (PySem.F.args_list_mul_2 _ _)
      (AutoListH.list___mul___list_int_3 a ws.toArray ep n t (by simp [Builtin.List.listFitsIndex]; omega) (by rw [List.size_toArray]; omega) (by rw [List.size_toArray]; simp [Builtin.List.listTooLong, sizeLine]; omega)) ⟨g, ?_⟩⟩)
   have ef : (List.foldl (fun x1 x2 => x1 ++ x2) #[] (List.replicate (if ws.toArray.isEmpty = true then 0 else n.toNat) ws.toArray)) = ((List.replicate n.toNat ws).flatten).toArray := by
    apply Array.toList_inj.mp
    rw [fold_rep]
    split
    ·rename_i he
     have : ws = [] := by simpa using he
     subst this
     simp
    ·simp
   rw [ef]
   have hlen : (List.replicate n.toNat ws).flatten.length ≤ sizeLine := by
    rw [rep_len]; omega
   exact ⟨_, _, .ref _, I.newList (vrs_rep q n.toNat) hlen, h _ I.nextNone⟩
  | _ => exact h.elim
 | _ => exact h.elim
noncomputable def bookK (K : Frag) (D : Addr) : Bool := plainGet K D "__class__" && hasDictIn K D && findIn K (.ref D) "__class__" == some (some (.builtin "object.__class__")) && specialIn K (.builtin "object.__class__") "__get__" == some (some (.builtin "getset_descriptor.__get__")) &&
 takesIn K (.builtin "object.__class__") == some true && mroIn K D (.type "object") == some true && kitOne K (.ref D) (.ref D) == some true
noncomputable def tIsiB (t : Tm) : Tm := fun m H Q X => t m H (fun v H1 => ∃ a d es, v = .ref a ∧ H1 a = some (.inst d) ∧ H1 d = some (.attrs es) ∧ Q (.bool true) H1) X
theorem sE_isiB {K : Frag} {e g : Expr} {f : Str} {p pos : Pos} {t : Tm} (E : EnvL S K) (h1 : SoundE S b d sc ρ e t)
  (hg : ∀ (C : Cx) (A : Around) (env : Env) (H : AH) (s : Shared) (E' : Value → Shared → Prop) (Q : Value → Shared → Prop), EnvOK S C A env → (∀ x, env.kindOf x = sc x) → Inv S C H s → Q (.ref S.book) s → wpAny S.M A (eval g env) Q E' s)
  (hb : bookK K S.book = true) (hf : sc f = some .globalImplicit) (hm : S.mg f = none) (hv : S.mb f = some (.builtin "isinstance")) (hd : (f == ("__debug__" : Str)) = false) (hs : noStar [e, g] = true) :
  SoundE S b d sc ρ (.Call (.Name f p) [e, g] [] pos) (tIsiB t) := by
 intro C A env m H Q X E' s R O hk V I h hE
 refine wpAny_Call_NameR (load_builtin E.KS O I ((hk f).trans hf) hm hv hd ?_)
 refine Calls.callWith_builtin (backTo_any hs) (evalArgs_of hs ?_)
 rw [backTo_plain hs]
 refine Calls.spliced_cons (wpAny_mono (h1 C A env m H _ X E' s R O hk V I h hE) ?_ fun _ _ x => x)
 rintro v s1 ⟨av, H1, r1, I1, a, dd, es, rfl, ha, hda, q1⟩
 cases r1.ref_inv
 refine Calls.spliced_cons (hg C A env H1 s1 E' _ O hk I1 (Calls.spliced_nil ?_))
 show wpAny S.M A (call (.builtin "isinstance") [.ref a, .ref S.book]) _ E' s1
 have w1 := I1.objs _ _ ha
 obtain ⟨des, n, w2, _⟩ := I1.objs _ _ hda
 unfold bookK at hb
 simp only [Bool.and_eq_true, beq_iff_eq] at hb
 obtain ⟨⟨⟨⟨⟨⟨b0, b1⟩, b2⟩, b3⟩, b4⟩, b5⟩, b6⟩ := hb
 exact kia_one (kitx_own b0 b1 b2 b3 b4 b5) (E.X.keeps I1.base) ⟨w1, rfl, rfl, w2⟩ b6 (by intro q; cases q) fun tk => ⟨_, H1, .bool _, I1.toks tk, q1⟩
inductive bRange2K (vs : List AV) (H : AH) (Q : QV) : Prop
 | mk (lo hi : Int) : vs = [.int lo, .int hi] → (-1048576 ≤ lo ∧ lo ≤ 1048576) → (-1048576 ≤ hi ∧ hi ≤ 1048576) → (∀ r, H r = none → Q (.ref r) (H.put r (.range lo hi))) → bRange2K vs H Q
noncomputable def bRange2 : BFn := fun vs H Q => bRange2K vs H Q
theorem bRange2_ok : BFnOK S b (.type "range") bRange2 := by
 rintro C A vs avs H Q E s hh hu r I ⟨lo, hi, rfl, h1, h2, h⟩
 obtain ⟨_, _, rfl, r0, r1⟩ := r.two
 obtain ⟨t, rfl⟩ := r0.int_inv
 obtain ⟨u, rfl⟩ := r1.int_inv
 refine call_range_2 ⟨_, _, .ref _, ?_, h _ I.nextNone⟩
 exact I.add (s' := { s with heap := s.heap.push { cls := .type "range", data := .fields #[.int lo t, .int hi u, .int 1 s.toks] }, toks := s.toks + 1 }) (o := .range lo hi) (Heap.get?_none_of_le (Nat.le_refl _)) (fun b o e => Heap.get?_push_of_some _ e)
  ⟨_, _, _, h1, h2, IsRange.new ..⟩ rfl rfl
noncomputable def aNotIn (x y : AV) (H : AH) (Q : Bool → AH → Prop) : Prop := aIn x y H fun c => Q (!c)
theorem cmp_notIn : CmpOK S .NotIn aNotIn := by
 intro C A va vb x y H Q E s hu r1 r2 I h
 cases r2 with
 | ref a =>
  obtain ⟨d, ys, es, h1, h2, h3, h4, h⟩ := h
  obtain ⟨bs, q1, c1⟩ := h1.reads I r1
  obtain ⟨as, q2, c2⟩ := (Rd.list h2 h3).reads I (.ref a)
  exact SeqAt.notIn_list_reads q2 q1 (by simpa [PyData.canLay0] using c2) c1 (by have : cLine = 9900 := rfl; lia) ⟨_, rfl, H, I, h⟩
 | str y => cases r1 <;> first | exact h.elim | exact PySem.SB.notContains ⟨_, rfl, H, I, h⟩
 | _ => cases r1 <;> exact h.elim
noncomputable def aSub (x y : AV) (H : AH) (Q : QV) : Prop := onInts (fun a b => Q (.int (a - b)) H) x y
theorem bin_sub : BinOK S .Sub aSub := by
 intro C A va vb x y H Q E s hu r1 r2 I h
 obtain ⟨i, j, t, u, rfl, rfl, h⟩ := onInts_inv h r1 r2
 exact PyProof.Rows.sub_int ⟨_, H, .int _ _, I.toks _, h⟩
end
end Mine
end
-- text S1
section
namespace Mine
open PySem
noncomputable def LS (H : AH) (a : Addr) (xs : List Str) : Prop := H a = some (.list (xs.map AV.str))
inductive LAll (H : AH) : List Addr → List (List Str) → Prop
 | nil : LAll H [] []
 | cons {a : Addr} {xs : List Str} {as : List Addr} {F : List (List Str)} : LS H a xs → LAll H as F → LAll H (a :: as) (xs :: F)
noncomputable def RL (H : AH) (a : Addr) (as : List Addr) : Prop := H a = some (.list (as.map AV.ref))
inductive LL (H : AH) (a : Addr) (F : List (List Str)) : Prop
 | mk (as : List Addr) : RL H a as → LAll H as F → LL H a F
theorem LS.sub {H K : AH} (h : Sub H K) {a : Addr} {xs : List Str} (x : LS H a xs) : LS K a xs := h _ _ x
theorem LAll.sub {H K : AH} (h : Sub H K) {as : List Addr} {F : List (List Str)} (x : LAll H as F) : LAll K as F := by
 induction x with
 | nil => exact .nil
 | cons a _ ih => exact .cons (a.sub h) ih
theorem LL.sub {H K : AH} (h : Sub H K) {a : Addr} {F : List (List Str)} (x : LL H a F) : LL K a F := by
 obtain ⟨as, h1, h2⟩ := x
 exact ⟨as, h _ _ h1, h2.sub h⟩
theorem LAll.length {H : AH} {as : List Addr} {F : List (List Str)} (x : LAll H as F) : as.length = F.length := by
 induction x with
 | nil => rfl
 | cons _ _ ih => simp [ih]
theorem LAll.append {H : AH} {as bs : List Addr} {F G : List (List Str)} (x : LAll H as F) (y : LAll H bs G) : LAll H (as ++ bs) (F ++ G) := by
 induction x with
 | nil => exact y
 | cons a _ ih => exact .cons a ih
theorem LAll.get {H : AH} {as : List Addr} {F : List (List Str)} (x : LAll H as F) : ∀ {k : Nat} {a : Addr}, as[k]? = some a → ∃ xs, F[k]? = some xs ∧ LS H a xs := by
 induction x with
 | nil => intro k a e; simp at e
 | @cons b xs as F hb _ ih =>
  intro k a e
  cases k with
  | zero => simp at e; subst e; exact ⟨xs, rfl, hb⟩
  | succ k => simpa using ih (by simpa using e)
theorem LAll.mem {H : AH} {as : List Addr} {F : List (List Str)} (x : LAll H as F) {a : Addr} (h : a ∈ as) : ∃ xs ∈ F, LS H a xs := by
 obtain ⟨k, hk, e⟩ := List.getElem_of_mem h
 obtain ⟨xs, h1, h2⟩ := x.get (k := k) (a := a) (by rw [List.getElem?_eq_getElem hk, e])
 exact ⟨xs, List.mem_of_getElem? h1, h2⟩
theorem LAll.of {H : AH} : ∀ {as : List Addr} {F : List (List Str)}, as.length = F.length → (∀ (k : Nat) (a : Addr) (xs : List Str), as[k]? = some a → F[k]? = some xs → LS H a xs) → LAll H as F
 | [], [], _, _ => .nil
 | [], _ :: _, h, _ => by simp at h
 | _ :: _, [], h, _ => by simp at h
 | a :: as, x :: F, h, k => .cons (k 0 a x rfl rfl) (LAll.of (by simpa using h) fun j b ys e1 e2 => k (j + 1) b ys (by simpa using e1) (by simpa using e2))
theorem Sub.new {H K : AH} (h : Sub H K) {a : Addr} (e : K a = none) : H a = none := by
 cases q : H a with
 | none => rfl
 | some o => rw [h a o q] at e; cases e
theorem Sub.add {H : AH} {a : Addr} (e : H a = none) (o : AO) : Sub H (H.put a o) := (Sub.refl H).put o e
theorem put_get (H : AH) (a : Addr) (o : AO) : (H.put a o) a = some o := AH.put_self H a o
theorem Sub.chg {H0 H : AH} (h : Sub H0 H) {a : Addr} (e : H0 a = none) (o : AO) : Sub H0 (H.put a o) := h.put o e
theorem ItemsK.sub {kd : SK} {H K : AH} {v : AV} {xs : List AV} (s : Sub H K) (h : ItemsK kd H v xs) : ItemsK kd K v xs := by
 cases kd with
 | list => cases v with
  | ref a => exact s _ _ h
  | _ => exact h.elim
 | tuple => cases v with
  | ref a => exact s _ _ h
  | _ => exact h.elim
 | script => cases v with
  | ref a => obtain ⟨ns, h1, h2⟩ := h; exact ⟨ns, s _ _ h1, h2⟩
  | _ => exact h.elim
 | range => cases v with
  | ref a => obtain ⟨lo, hi, h1, h2⟩ := h; exact ⟨lo, hi, s _ _ h1, h2⟩
  | _ => exact h.elim
 | str => cases v with
  | str x => exact h
  | _ => exact h.elim
theorem ite_t {A B : Prop} (h : A) : if (true : Bool) = true then A else B := by simpa using h
theorem ite_f {A B : Prop} (h : B) : if (false : Bool) = true then A else B := by simpa using h
theorem compJ_sub {m : Mp} {i : Nat} {te : Tm} {v : AV} {H : AH} {Q : QV} {kd : SK} {xs : List AV} (hi : ItemsK kd H v xs) (P : Nat → AV → AH → Prop) (mono : ∀ k y H1 H2, P k y H1 → Sub H1 H2 → P k y H2)
  (step : ∀ k x H', Sub H H' → xs[k]? = some x → ∀ Q' : QV, (∀ y H3, Sub H' H3 → P k y H3 → Q' y H3) → te (m.upd i x) H' Q' noX)
  (fin : ∀ ys H', Sub H H' → ys.length = xs.length → (∀ k y, ys[k]? = some y → P k y H') → ∀ a, H' a = none → Q (.ref a) (H'.put a (.list ys))) : CompJ m i (tBoolNil true) te v H Q := by
 refine ⟨kd, xs, hi, fun k ys H' => k ≤ xs.length ∧ Sub H H' ∧ ys.length = k ∧ ∀ j y, ys[j]? = some y → P j y H', ⟨Nat.zero_le _, .refl _, rfl, fun j y e => by simp at e⟩, ?_⟩
 rintro k ys H' ⟨h0, h1, h2, h3⟩ hk
 refine ⟨hi.sub h1, fun x hx => ?_, fun e a ha => fin ys H' h1 (h2.trans e) h3 a ha⟩
 refine step k x H' h1 hx _ fun y H3 s p => ⟨(List.getElem?_eq_some_iff.mp hx).1, h1.trans s, by simp [h2], fun j z e => ?_⟩
 by_cases q : j < ys.length
 ·rw [List.getElem?_append_left q] at e
  exact mono _ _ _ _ (h3 j z e) s
 ·rw [List.getElem?_append_right (by lia)] at e
  have hj : j - ys.length = 0 := by
   have := (List.getElem?_eq_some_iff.mp e).1
   simp at this; lia
  rw [hj] at e
  cases e
  have : j = k := by lia
  subst this; exact p
theorem compJ_pure {m : Mp} {i : Nat} {te : Tm} {v : AV} {H : AH} {Q : QV} {kd : SK} {xs : List AV} (hi : ItemsK kd H v xs) (f : AV → AV)
  (step : ∀ x ∈ xs, ∀ Q' : QV, Q' (f x) H → te (m.upd i x) H Q' noX)
  (fin : ∀ a, H a = none → Q (.ref a) (H.put a (.list (xs.map f)))) : CompJ m i (tBoolNil true) te v H Q := by
 refine ⟨kd, xs, hi, fun k ys H' => H' = H ∧ ys = (xs.take k).map f, ⟨rfl, by simp⟩, ?_⟩
 rintro k ys H' ⟨rfl, rfl⟩ hk
 refine ⟨hi, fun x hx => ?_, fun e a ha => ?_⟩
 ·refine step x (List.mem_of_getElem? hx) _ ⟨rfl, ?_⟩
  rw [List.take_succ, hx]; simp
 ·have := fin a ha
  rw [e, List.take_length]; exact this
theorem rd_strs {H : AH} : ∀ xs : List Str, RdAll H (xs.map AV.str) (xs.map PyData.str)
 | [] => .nil
 | x :: r => .cons (.str x) (rd_strs r)
end Mine
end
-- text S2
section
namespace Mine
open PySem
theorem ne_new {H : AH} {a b : Addr} {o : AO} (h : H a = none) (k : H b = some o) : b ≠ a := fun e => by rw [e, h] at k; cases k
theorem LS.put_ne {H : AH} {a p : Addr} {xs : List Str} {o : AO} (h : LS H a xs) (n : a ≠ p) : LS (H.put p o) a xs := (AH.put_ne H o n).trans h
theorem RL.put_ne {H : AH} {a p : Addr} {as : List Addr} {o : AO} (h : RL H a as) (n : a ≠ p) : RL (H.put p o) a as := (AH.put_ne H o n).trans h
theorem RL.sub {H K : AH} (s : Sub H K) {a : Addr} {as : List Addr} (h : RL H a as) : RL K a as := s _ _ h
theorem LAll.put_ne {H : AH} {as : List Addr} {F : List (List Str)} {p : Addr} {o : AO} (h : LAll H as F) (n : ∀ a ∈ as, a ≠ p) : LAll (H.put p o) as F := by
 induction h with
 | nil => exact .nil
 | cons x _ ih => exact .cons (x.put_ne (n _ (.head _))) (ih fun a ha => n a (.tail _ ha))
theorem strs_inj : ∀ {xs ys : List Str}, xs.map AV.str = ys.map AV.str → xs = ys
 | [], [], _ => rfl
 | [], _ :: _, h => by simp at h
 | _ :: _, [], h => by simp at h
 | x :: r, y :: q, h => by
  simp only [List.map_cons, List.cons.injEq, AV.str.injEq] at h
  rw [h.1, strs_inj h.2]
theorem LAll.inj {H : AH} {as : List Addr} {F : List (List Str)} (x : LAll H as F) : ∀ {G : List (List Str)}, LAll H as G → F = G := by
 induction x with
 | nil => intro G h; cases h; rfl
 | @cons a xs as F hx _ ih =>
  intro G h
  cases h with
  | @cons _ ys _ G hy hs =>
   have e : xs.map AV.str = ys.map AV.str := by
    have := hx.symm.trans hy
    simpa using this
   have : xs = ys := strs_inj e
   rw [this, ih hs]
theorem sizeLine_is : sizeLine = 16777216 := rfl
theorem compJ_list {m : Mp} {i : Nat} {te : Tm} {v : AV} {H : AH} {Q : QV} {kd : SK} {xs ys : List AV} (hi : ItemsK kd H v xs) (hl : ys.length = xs.length)
  (step : ∀ (k : Nat) x y, xs[k]? = some x → ys[k]? = some y → ∀ Q' : QV, Q' y H → te (m.upd i x) H Q' noX)
  (fin : ∀ a, H a = none → Q (.ref a) (H.put a (.list ys))) : CompJ m i (tBoolNil true) te v H Q := by
 refine ⟨kd, xs, hi, fun k zs H' => H' = H ∧ zs = ys.take k, ⟨rfl, by simp⟩, ?_⟩
 rintro k zs H' ⟨rfl, rfl⟩ hk
 refine ⟨hi, fun x hx => ?_, fun e a ha => ?_⟩
 ·have hk' : k < ys.length := by rw [hl]; exact (List.getElem?_eq_some_iff.mp hx).1
  refine step k x ys[k] hx (List.getElem?_eq_getElem hk') _ ⟨rfl, ?_⟩
  rw [List.take_add_one, List.getElem?_eq_getElem hk']; simp
 ·have := fin a ha
  rw [e, ← hl, List.take_length]; exact this
noncomputable def sd (x : List Str) : List Str := sortS (dedup x)
noncomputable def New (H : AH) (as : List Addr) : Prop := ∀ a ∈ as, H a = none
end Mine
end
-- text S3
section
namespace Mine
open PySem
theorem sd_of_nodup {x : List Str} (h : x.Nodup) : sd x = sortS x := by unfold sd; rw [dedup_nodup h]
end Mine
end
-- text S4
section
namespace Mine
open PySem
theorem dep_strs : ∀ (xs : List Str), PyData.depthAll (xs.map PyData.str) = 0
 | [] => by simp [PyData.depthAll]
 | x :: r => by simp [PyData.depthAll, PyData.depth, dep_strs r]
theorem eqs_strs : ∀ (xs ys : List Str), PyData.eqvAll (xs.map PyData.str) (ys.map PyData.str) = decide (xs = ys)
 | [], [] => by simp [PyData.eqvAll]
 | [], _ :: _ => by simp [PyData.eqvAll]
 | _ :: _, [] => by simp [PyData.eqvAll]
 | x :: r, y :: q => by
  simp only [List.map_cons, PyData.eqvAll, PyData.eqv, eqs_strs r q]
  by_cases e : x = y <;> by_cases f : r = q <;> simp [e, f]
noncomputable def dL (xs : List Str) : PyData := .list (xs.map PyData.str)
noncomputable def dLL (F : List (List Str)) : PyData := .list (F.map dL)
theorem dep_dL (xs : List Str) : (dL xs).depth = 1 := by simp [dL, PyData.depth, dep_strs]
theorem eqv_dL (xs ys : List Str) : PyData.eqv (dL xs) (dL ys) = decide (xs = ys) := by simp only [dL, PyData.eqv, eqs_strs]
theorem LS.rd {H : AH} {a : Addr} {xs : List Str} (h : LS H a xs) : Rd H (.ref a) (dL xs) := .list h (rd_strs xs)
theorem LAll.rd {H : AH} {as : List Addr} {F : List (List Str)} (h : LAll H as F) : RdAll H (as.map AV.ref) (F.map dL) := by
 induction h with
 | nil => exact .nil
 | cons x _ ih => exact .cons x.rd ih
theorem LL.rd {H : AH} {a : Addr} {F : List (List Str)} (h : LL H a F) : Rd H (.ref a) (dLL F) := by
 obtain ⟨as, h1, h2⟩ := h
 exact .list h1 h2.rd
theorem ne_LS {H : AH} {a b : Addr} {xs ys : List Str} {Q : Bool → AH → Prop} (h1 : LS H a xs) (h2 : LS H b ys) (h : Q (!decide (xs = ys)) H) : aNe (.ref a) (.ref b) H Q :=
 ⟨_, _, h1.rd, h2.rd, by rw [dep_dL]; lia, by rw [dep_dL]; lia, by rw [eqv_dL]; exact h⟩
theorem eq_LS {H : AH} {a b : Addr} {xs ys : List Str} {Q : Bool → AH → Prop} (h1 : LS H a xs) (h2 : LS H b ys) (h : Q (decide (xs = ys)) H) : aEq (.ref a) (.ref b) H Q :=
 ⟨_, _, h1.rd, h2.rd, by rw [dep_dL]; lia, by rw [dep_dL]; lia, by rw [eqv_dL]; exact h⟩
theorem beq_dec (i j : Int) : (i == j) = decide (i = j) := by
 by_cases e : i = j <;> simp [e]
theorem ite_intro {A B : Prop} (c : Bool) (h1 : c = true → A) (h2 : c = false → B) : if c = true then A else B := by
 cases c
 ·exact h2 rfl
 ·exact h1 rfl
theorem ne_int {H : AH} {i j : Int} {Q : Bool → AH → Prop} (h : Q (!decide (i = j)) H) : aNe (.int i) (.int j) H Q :=
 ⟨_, _, .int i, .int j, by simp [PyData.depth], by simp [PyData.depth], by rw [PyData.eqv, beq_dec]; exact h⟩
theorem eq_int {H : AH} {i j : Int} {Q : Bool → AH → Prop} (h : Q (decide (i = j)) H) : aEq (.int i) (.int j) H Q :=
 ⟨_, _, .int i, .int j, by simp [PyData.depth], by simp [PyData.depth], by rw [PyData.eqv, beq_dec]; exact h⟩
theorem isi_list {H : AH} {a : Addr} {xs : List AV} (h : H a = some (.list xs)) : aIs "list" (.ref a) H = some true := by simp [aIs, h]
theorem isi_str {H : AH} {x : Str} : aIs "str" (.str x) H = some true := by simp [aIs]
theorem LL.nil {H : AH} {r : Addr} : LL (H.put r (.list [])) r [] := ⟨[], put_get _ _ _, .nil⟩
noncomputable def drw (ns : List Int) (k : Int) : Int := (ns[k.toNat]?).getD 0
inductive F_l_drawK (vs : List AV) (H : AH) (Q : QV) : Prop
 | mk (l) (ns) (k) : (vs = [.ref l, .int k]) → (H l = some (.script ns)) → (0 ≤ k) → (Q (.int (drw ns k)) H) → F_l_drawK vs H Q
noncomputable def F_l_draw : Fn := fun vs H Q _ => F_l_drawK vs H Q
inductive F_l_rowK (vs : List AV) (H : AH) (Q : QV) : Prop
 | mk (a) (c) (xs) : (vs = [.ref a, .int c]) → (LS H a xs) → (xs ≠ []) → (xs.length ≤ 50) → (∀ r row H', Sub H H' → H r = none → LS H' r row → (∀ n ∈ row, n ∈ xs) → row.length ≤ xs.length → (xs.Nodup → row.Nodup) → Q (.ref r) H') → F_l_rowK vs H Q
noncomputable def F_l_row : Fn := fun vs H Q _ => F_l_rowK vs H Q
noncomputable def T_l_draw : Ts := (tSeq (tRet (tIf (tCmpB aGt (tBcall bLen (tCons (tLoc 0) tNil)) (tLoc 1)) (tItem (tLoc 0) (tLoc 1)) (tVal (.int 0)))) tSkip)
noncomputable def is_l_draw : List Nat := [0, 1]
noncomputable def T_l_row : Ts := (tSeq (tAssign 2 (tList tNil)) (tSeq (tAssign 3 (tBin aFdiv (tLoc 1) (tVal (.int 4)))) (tSeq (tFor (tLoc 0) 4 (tSeq (tIte (tCmpB aEq (tBin aMod (tLoc 3) (tVal (.int 2))) (tVal (.int 1))) (tSeq (tExpr (tMeth "list" bAppend (tLoc 2) (tCons (tLoc 4) tNil))) tSkip) tSkip) (tSeq (tAssign 3 (tBin aFdiv (tLoc 3) (tVal (.int 2)))) tSkip))) (tSeq (tIte (tAndB (tCmpB aEq (tLoc 2) (tList tNil)) (tAndB (tCmpB aGt (tBin aMod (tLoc 1) (tVal (.int 4))) (tVal (.int 0))) (tBoolNil true))) (tSeq (tAssign 2 (tList (tCons (tItem (tLoc 0) (tBin aMod (tLoc 1) (tBcall bLen (tCons (tLoc 0) tNil)))) tNil))) tSkip) tSkip) (tSeq (tRet (tIf (tCmpB aEq (tBin aMod (tLoc 1) (tVal (.int 2))) (tVal (.int 1))) (tRev (tLoc 2)) (tLoc 2))) tSkip)))))
noncomputable def is_l_row : List Nat := [0, 1]
theorem ok_l_draw (vs : List AV) (H : AH) (Q : QV) (X : QX) (h : F_l_draw vs H Q X) : mkFn is_l_draw T_l_draw vs H Q X := by
 obtain ⟨l, ns, k, rfl, hl, hk, h⟩ := h
 refine ⟨rfl, _, rfl, _, rfl, _, hl, _, rfl, ?_⟩
 refine ite_intro (decide (k < (ns.length : Int))) (fun q => ?_) fun q => ?_
 ·have q := of_decide_eq_true q
  refine ⟨_, rfl, _, rfl, _, hl, ns[k.toNat]'(by lia), ?_, ?_⟩
  ·rw [show idx ns k = ns[k.toNat]? from if_pos hk]; exact List.getElem?_eq_getElem (by lia)
  ·have e : drw ns k = ns[k.toNat]'(by lia) := by unfold drw; rw [List.getElem?_eq_getElem (by lia)]; rfl
   rw [← e]; exact h
 ·have q := of_decide_eq_false q
  have e : drw ns k = 0 := by unfold drw; rw [List.getElem?_eq_none (by lia)]; rfl
  rw [e] at h; exact h
theorem getElem?_strs {xs : List Str} {k : Nat} {v : AV} (h : (xs.map AV.str)[k]? = some v) : ∃ n, xs[k]? = some n ∧ v = .str n := by
 rw [List.getElem?_map] at h
 cases e : xs[k]? with
 | none => rw [e] at h; cases h
 | some n => rw [e] at h; simp at h; exact ⟨n, rfl, h.symm⟩
theorem getElem?_refs {as : List Addr} {k : Nat} {v : AV} (h : (as.map AV.ref)[k]? = some v) : ∃ a, as[k]? = some a ∧ v = .ref a := by
 rw [List.getElem?_map] at h
 cases e : as[k]? with
 | none => rw [e] at h; cases h
 | some n => rw [e] at h; simp at h; exact ⟨n, rfl, h.symm⟩
end Mine
end
-- text S5
section
namespace Mine
open PySem
theorem ne_int_eq {H : AH} {i j : Int} {Q : Bool → AH → Prop} (e : i = j) (h : Q false H) : aNe (.int i) (.int j) H Q := ne_int (by simpa [e] using h)
end Mine
end
-- text S6
section
namespace Mine
open PySem
theorem val_k {v : AV} {m : Mp} {H : AH} {Q : QV} {X : QX} (h : Q v H) : tVal v m H Q X := h
theorem idx_mem {α : Type} {xs : List α} {k : Int} (h0 : 0 ≤ k) (h : k < xs.length) : ∃ x, idx xs k = some x ∧ x ∈ xs := by
 have hk : k.toNat < xs.length := by lia
 refine ⟨xs[k.toNat], ?_, List.getElem_mem hk⟩
 rw [show idx xs k = xs[k.toNat]? from if_pos h0]; exact List.getElem?_eq_getElem hk
theorem ok_l_row (vs : List AV) (H : AH) (Q : QV) (X : QX) (h : F_l_row vs H Q X) : mkFn is_l_row T_l_row vs H Q X := by
 obtain ⟨a, c, xs, rfl, ha, hne, hl, fin⟩ := h
 have hpos : 0 < xs.length := by cases xs with | nil => exact absurd rfl hne | cons => simp
 refine ⟨rfl, Nat.zero_le _, fun p hp => ⟨_, rfl, by decide, by decide, _, rfl, .list, xs.map AV.str, Sub.add hp _ _ _ ha, fun k m' H' => m' 0 = some (.ref a) ∧ m' 1 = some (.int c) ∧ m' 2 = some (.ref p) ∧ (∃ b, m' 3 = some (.int b)) ∧ Sub H H' ∧ ∃ ys, LS H' p ys ∧ ys.Sublist (xs.take k), ?_, ?_⟩⟩
 ·exact ⟨rfl, rfl, rfl, ⟨_, rfl⟩, Sub.add hp _, [], put_get _ _ _, List.nil_sublist _⟩
 rintro k m' H' ⟨h0, h1, h2, ⟨b, h3⟩, sb, ys, hp', hy⟩ hk
 have hyl : ys.length ≤ k := Nat.le_trans hy.length_le (List.length_take_le _ _)
 refine ⟨sb _ _ ha, fun x hx => ?_, fun e => ?_⟩
 ·obtain ⟨n, hn, rfl⟩ := getElem?_strs hx
  have ek : xs.take (k + 1) = xs.take k ++ [n] := by rw [List.take_add_one, hn]; rfl
  refine ⟨_, h3, by decide, val_k (eq_int ?_)⟩
  refine ite_intro _ (fun q => ?_) fun q => ?_
  ·refine ⟨_, h2, .list hp', _, rfl, p, _, _, rfl, hp', by rw [List.length_map, sizeLine_is]; have := hk; rw [List.length_map] at this; lia, fun _ h => (nomatch h), _, h3, by decide, by decide, ?_⟩
   refine ⟨h0, h1, h2, ⟨_, rfl⟩, sb.chg hp _, ys ++ [n], ?_, by rw [ek]; exact hy.append (List.Sublist.refl _)⟩
   show (AH.put _ _ _) p = _
   rw [put_get]; simp
  ·exact ⟨_, h3, by decide, by decide, h0, h1, h2, ⟨_, rfl⟩, sb, ys, hp', by rw [ek]; exact hy.trans (List.sublist_append_left _ _)⟩
 ·-- behind the loop
  have hyx : ys.length ≤ xs.length := by rw [e, List.length_map] at hyl; exact hyl
  have hyd : xs.Nodup → ys.Nodup := fun hd => hd.sublist (hy.trans (List.take_sublist _ _))
  have hy : ∀ n ∈ ys, n ∈ xs := fun n hn => List.mem_of_mem_take (hy.subset hn)
  have tail : ∀ (m2 : Mp) (H2 : AH) (r : Addr) (zs : List Str), m2 1 = some (.int c) → m2 2 = some (.ref r) → Sub H H2 → H r = none → LS H2 r zs → (∀ n ∈ zs, n ∈ xs) → zs.length ≤ xs.length → (xs.Nodup → zs.Nodup) →
    tIf (tCmpB aEq (tBin aMod (tLoc 1) (tVal (.int 2))) (tVal (.int 1))) (tRev (tLoc 2)) (tLoc 2) m2 H2 Q X := by
   intro m2 H2 r zs g1 g2 s2 hr hz hzx hzl hzd
   refine ⟨_, g1, by decide, val_k (eq_int ?_)⟩
   refine ite_intro _ (fun q => ?_) fun q => ?_
   ·refine ⟨_, g2, _, hz, fun r3 hr3 => fin r3 zs.reverse _ (s2.trans (Sub.add hr3 _)) (s2.new hr3) ?_ (fun n hn => hzx n (by simpa using hn)) (by simpa using hzl) (fun hd => (List.reverse_perm zs).nodup_iff.mpr (hzd hd))⟩
    show (AH.put _ _ _) r3 = _
    rw [put_get, List.map_reverse]
   ·exact ⟨_, g2, fin r zs H2 s2 hr hz hzx hzl hzd⟩
  refine ⟨_, h2, Nat.zero_le _, fun r1 hr1 => eq_LS (ys := []) (hp'.sub (Sub.add hr1 _)) (put_get _ _ _) ?_⟩
  have s1 := sb.trans (Sub.add hr1 (.list []))
  refine ite_intro _ (fun q => ?_) fun q => ?_
  ·refine ⟨_, h1, by decide, ?_⟩
   refine ite_intro (decide ((0 : Int) < c % 4)) (fun q2 => ?_) fun q2 => ?_
   ·obtain ⟨x, hx1, hx2⟩ := idx_mem (xs := xs.map AV.str) (k := c % ((xs.map AV.str).length : Int)) (Int.emod_nonneg _ (by simp; lia)) (Int.emod_lt_of_pos _ (by simp; lia))
    obtain ⟨n, hn, rfl⟩ := List.mem_map.mp hx2
    refine ⟨_, h0, _, h1, _, h0, _, rfl, _, s1 _ _ ha, by simp; lia, _, s1 _ _ ha, _, hx1, by simp, fun r2 hr2 => ?_⟩
    exact tail _ _ r2 [n] h1 rfl (s1.trans (Sub.add hr2 _)) (s1.new hr2) (put_get _ _ _) (fun z hz => by rw [show z = n by simpa using hz]; exact hn) (by simp; lia) (fun _ => by simp)
   ·exact tail _ _ p ys h1 h2 s1 hp (hp'.sub (Sub.add hr1 _)) hy hyx hyd
  ·exact tail _ _ p ys h1 h2 s1 hp (hp'.sub (Sub.add hr1 _)) hy hyx hyd
end Mine
end
-- text S7
section
namespace Mine
open PySem
set_option maxRecDepth 10000
theorem getElem?_ints {n : Int} {k : Nat} {v : AV} (h : ((intsFrom 0 n).map AV.int)[k]? = some v) : k < n.toNat ∧ v = .int k := by
 unfold intsFrom at h
 rw [List.map_map, List.getElem?_map] at h
 by_cases hk : k < n.toNat
 ·rw [List.getElem?_range (by simpa using hk)] at h
  simp at h
  exact ⟨hk, h.symm⟩
 ·rw [List.getElem?_eq_none (by simp; lia)] at h
  cases h
theorem ints_len (n : Int) : ((intsFrom 0 n).map AV.int).length = n.toNat := by simp [intsFrom]
theorem compJ_range {m : Mp} {i : Nat} {te : Tm} {r : Addr} {H : AH} {Q : QV} {n : Int} (hr : H r = some (.range 0 n)) (f : Nat → AV)
  (step : ∀ k : Nat, k < n.toNat → ∀ Q' : QV, Q' (f k) H → te (m.upd i (.int k)) H Q' noX)
  (fin : ∀ a, H a = none → Q (.ref a) (H.put a (.list ((List.range n.toNat).map f)))) : CompJ m i (tBoolNil true) te (.ref r) H Q := by
 refine compJ_list (kd := .range) (xs := (intsFrom 0 n).map AV.int) (ys := (List.range n.toNat).map f) ⟨0, n, hr, rfl⟩ (by simp [intsFrom]) (fun k x y hx hy Q' hQ => ?_) fin
 obtain ⟨hk, rfl⟩ := getElem?_ints hx
 rw [List.getElem?_map, List.getElem?_range hk] at hy
 cases hy
 exact step k hk Q' hQ
noncomputable def letters : Str := Str.ofString "abcdefghijklmnopqrstuvwxyz"
noncomputable def lts : List Nat := letters.cps.toList
theorem lts_len : lts.length = 26 := by decide +kernel
theorem lts_nodup : lts.Nodup := by decide +kernel
theorem letters_len : letters.length = 26 := by decide +kernel
theorem nodup_map {α : Type} (f : Nat → α) (n : Nat) (h : ∀ i j, i < n → j < n → f i = f j → i = j) : ((List.range n).map f).Nodup := by
 refine List.pairwise_map.mpr (List.Pairwise.imp_of_mem (fun {a b} ha hb hab e => ?_) List.nodup_range)
 exact hab (h a b (List.mem_range.mp ha) (List.mem_range.mp hb) e)
theorem str_ext {x y : Str} (h : x = y) : x.cps.toList = y.cps.toList := by rw [h]
theorem lts_inj {i j : Nat} (hi : i < 26) (hj : j < 26) (h : lts[i]? = lts[j]?) : i = j := by
 have hi' : i < lts.length := by rw [lts_len]; exact hi
 have hj' : j < lts.length := by rw [lts_len]; exact hj
 exact (List.getElem?_inj hi' lts_nodup).mp h
noncomputable def nm1 (q : Int) (k : Nat) : Str := ⟨(cut (⟨(cut lts (some q) none).toArray⟩ : Str).cps.toList none (some ((k : Int) + 1))).toArray⟩
noncomputable def turned (q : Int) : Str := ⟨(cut (⟨(cut lts (some q) none).toArray⟩ : Str).cps.toList none (some 8)).toArray⟩
noncomputable def nm2 (q : Int) (k : Nat) : Str := (⟨(cut (turned q).cps.toList (some (k : Int)) none).toArray⟩ : Str) ++ (⟨(cut (turned q).cps.toList none (some (k : Int))).toArray⟩ : Str)
noncomputable def nm3 (b : Str) (at_ c : Int) (x : Nat → Nat) (k : Nat) : Str := ((⟨(cut b.cps.toList none (some at_)).toArray⟩ : Str) ++ (⟨#[x k]⟩ : Str)) ++ (⟨(cut b.cps.toList (some at_) none).toArray⟩ : Str)
theorem nm1_inj {q : Int} (h0 : 0 ≤ q) (h1 : q < 18) {i j : Nat} (hi : i < 7) (hj : j < 7) (e : nm1 q i = nm1 q j) : i = j := by
 have := congrArg List.length (str_ext e)
 unfold nm1 at this
 simp only [List.toList_toArray] at this
 have hq : 8 ≤ 26 - q.toNat := by lia
 have ht : ∀ k : Nat, k < 7 → (cut (cut lts (some q) none) none (some ((k : Int) + 1))).length = k + 1 := fun k hk => by
  rw [show (k : Int) + 1 = ((k + 1 : Nat) : Int) from rfl, cut_upto _ (Int.natCast_nonneg _), cut_from _ h0, List.length_take, List.length_drop, lts_len]
  exact Nat.min_eq_left (Nat.le_trans hk (Nat.le_of_succ_le hq))
 rw [ht i hi, ht j hj] at this
 exact Nat.succ.inj this
theorem app_cps (x y : Str) : (x ++ y).cps.toList = x.cps.toList ++ y.cps.toList := by
 show (x.cps ++ y.cps).toList = _
 simp
theorem nm2_inj {q : Int} (h0 : 0 ≤ q) (h1 : q < 18) {i j : Nat} (hi : i < 7) (hj : j < 7) (e : nm2 q i = nm2 q j) : i = j := by
 have h := str_ext e
 have hd : ∀ k : Nat, k < 7 → (nm2 q k).cps.toList[0]? = lts[q.toNat + k]? := by
  intro k hk
  unfold nm2 turned
  rw [app_cps]
  simp only [List.toList_toArray]
  have hl : 8 ≤ (lts.drop q.toNat).length := by rw [List.length_drop, lts_len]; lia
  rw [cut_upto _ (by decide), cut_from _ h0, cut_from _ (Int.natCast_nonneg k)]
  rw [show (8 : Int).toNat = 8 from rfl, Int.toNat_natCast, List.getElem?_append_left (by rw [List.length_drop, List.length_take, Nat.min_eq_left hl]; exact Nat.sub_pos_of_lt (Nat.lt_succ_of_lt hk)), List.getElem?_drop, List.getElem?_take]
  rw [Nat.add_zero, if_pos (Nat.lt_succ_of_lt hk), List.getElem?_drop]
 have h' : (nm2 q i).cps.toList[0]? = (nm2 q j).cps.toList[0]? := by rw [h]
 rw [hd i hi, hd j hj] at h'
 have := lts_inj (by lia) (by lia) h'
 lia
theorem nm3_inj {b : Str} {at_ c : Int} {x : Nat → Nat} (hx : ∀ i j, i < 7 → j < 7 → x i = x j → i = j) {i j : Nat} (hi : i < 7) (hj : j < 7) (e : nm3 b at_ c x i = nm3 b at_ c x j) : i = j := by
 have h := str_ext e
 unfold nm3 at h
 rw [app_cps, app_cps, app_cps, app_cps] at h
 simp only [List.toList_toArray, List.append_assoc] at h
 have h2 := List.append_cancel_left h
 have : x i = x j := by simpa using h2
 exact hx i j hi hj this
theorem letter_inj (c : Int) {i j : Nat} (hi : i < 7) (hj : j < 7) (e : lts[((c + 3 * (i : Int)) % 26).toNat]? = lts[((c + 3 * (j : Int)) % 26).toNat]?) : i = j := by
 have := lts_inj (by lia) (by lia) e
 lia
noncomputable def Nm (x : Str) : Prop := 1 ≤ x.length ∧ x.length ≤ 8 ∧ ∀ c ∈ x.cps.toList, c ∈ lts
theorem Nm.of {x : Str} {l : List Nat} (e : x.cps.toList = l) (h1 : 1 ≤ l.length) (h2 : l.length ≤ 8) (h3 : ∀ c ∈ l, c ∈ lts) : Nm x := by
 subst e
 exact ⟨by simpa [Str.length] using h1, by simpa [Str.length] using h2, h3⟩
theorem nm1_ok {q : Int} (h0 : 0 ≤ q) (h1 : q < 18) {k : Nat} (hk : k < 7) : Nm (nm1 q k) := by
 have e : (nm1 q k).cps.toList = (lts.drop q.toNat).take (k + 1) := by
  unfold nm1
  simp only [List.toList_toArray]
  rw [show (k : Int) + 1 = ((k + 1 : Nat) : Int) from rfl, cut_upto _ (Int.natCast_nonneg _), cut_from _ h0, Int.toNat_natCast]
 have hl : ((lts.drop q.toNat).take (k + 1)).length = k + 1 := by rw [List.length_take, List.length_drop, lts_len]; lia
 exact .of e (by lia) (by lia) fun c hc => List.mem_of_mem_drop (List.mem_of_mem_take hc)
theorem nm2_ok {q : Int} (h0 : 0 ≤ q) (h1 : q < 18) {k : Nat} (hk : k < 7) : Nm (nm2 q k) := by
 have e : (nm2 q k).cps.toList = ((lts.drop q.toNat).take 8).drop k ++ ((lts.drop q.toNat).take 8).take k := by
  unfold nm2 turned
  rw [app_cps]
  simp only [List.toList_toArray]
  rw [cut_upto _ (by decide : (0 : Int) ≤ 8), cut_from _ h0, cut_from _ (Int.natCast_nonneg k), cut_upto _ (Int.natCast_nonneg k), Int.toNat_natCast]
  rfl
 have hl : ((lts.drop q.toNat).take 8).length = 8 := by rw [List.length_take, List.length_drop, lts_len]; lia
 have hm : ∀ c ∈ (lts.drop q.toNat).take 8, c ∈ lts := fun c hc => List.mem_of_mem_drop (List.mem_of_mem_take hc)
 generalize (lts.drop q.toNat).take 8 = l at e hl hm
 refine .of e ?_ ?_ fun c hc => ?_
 ·rw [List.length_append, List.length_drop, List.length_take, hl]; lia
 ·rw [List.length_append, List.length_drop, List.length_take, hl]; lia
 ·rcases List.mem_append.mp hc with hc | hc
  ·exact hm c (List.mem_of_mem_drop hc)
  ·exact hm c (List.mem_of_mem_take hc)
theorem nm3_ok {b : Str} {at_ c : Int} {x : Nat → Nat} (h0 : 0 ≤ at_) (hb : b.length ≤ 7) (hm : ∀ c ∈ b.cps.toList, c ∈ lts) {k : Nat} (hx : x k ∈ lts) : Nm (nm3 b at_ c x k) := by
 have e : (nm3 b at_ c x k).cps.toList = (b.cps.toList.take at_.toNat ++ [x k]) ++ b.cps.toList.drop at_.toNat := by
  unfold nm3
  rw [app_cps, app_cps]
  simp only [List.toList_toArray]
  rw [cut_upto _ h0, cut_from _ h0]
 have hl : b.cps.toList.length ≤ 7 := by simpa [Str.length] using hb
 refine .of e ?_ ?_ fun c hc => ?_
 ·rw [List.length_append, List.length_append, List.length_take, List.length_drop]; show 1 ≤ _ + 1 + _; omega
 ·rw [List.length_append, List.length_append, List.length_take, List.length_drop]; show _ + 1 + _ ≤ 8; omega
 ·rcases List.mem_append.mp hc with hc | hc
  ·rcases List.mem_append.mp hc with hc | hc
   ·exact hm _ (List.mem_of_mem_take hc)
   ·rw [show c = x k by simpa using hc]; exact hx
  ·exact hm _ (List.mem_of_mem_drop hc)
theorem join_one : ∀ (ys : List Nat), (Str.join (Str.ofString "") (ys.map fun c => (⟨#[c]⟩ : Str))).cps.toList = ys
 | [] => by simp [Str.join, Str.empty]
 | [y] => by simp [Str.join]
 | y :: z :: r => by
  have ih := join_one (z :: r)
  show ((⟨#[y]⟩ : Str) ++ Str.ofString "" ++ Str.join (Str.ofString "") (List.map (fun c => (⟨#[c]⟩ : Str)) (z :: r))).cps.toList = _
  rw [app_cps, app_cps, ih]
  have : (Str.ofString "").cps.toList = [] := by decide +kernel
  rw [this]; rfl
inductive F_l_namesK (vs : List AV) (H : AH) (Q : QV) : Prop
 | mk (l) (ns) : (vs = [.ref l]) → (H l = some (.script ns)) → (∀ r names H', Sub H H' → H r = none → LS H' r names → names.Nodup → 1 ≤ names.length → names.length ≤ 7 → (∀ n ∈ names, Nm n) → Q (.ref r) H') → F_l_namesK vs H Q
noncomputable def F_l_names : Fn := fun vs H Q _ => F_l_namesK vs H Q
noncomputable def T_l_names : Ts := (tSeq (tAssign 1 (tVal (.str (Str.ofString "abcdefghijklmnopqrstuvwxyz")))) (tSeq (tAssign 2 (tCall F_l_draw (tCons (tLoc 0) (tCons (tVal (.int 0)) tNil)))) (tSeq (tAssign 3 (tBin aAdd (tVal (.int 1)) (tBin aMod (tLoc 2) (tVal (.int 7))))) (tSeq (tIte (tCmpB aEq (tBin aMod (tBin aFdiv (tLoc 2) (tVal (.int 7))) (tVal (.int 4))) (tVal (.int 1))) (tSeq (tRet (tComp (tBcall bRange (tCons (tLoc 3) tNil)) 8 (tBoolNil true) (tSlice (tSlice (tLoc 1) (tBin aMod (tBin aFdiv (tLoc 2) (tVal (.int 28))) (tVal (.int 18))) (tVal .none)) (tVal .none) (tBin aAdd (tLoc 8) (tVal (.int 1)))))) tSkip) tSkip) (tSeq (tIte (tCmpB aEq (tBin aMod (tBin aFdiv (tLoc 2) (tVal (.int 7))) (tVal (.int 4))) (tVal (.int 2))) (tSeq (tAssign 4 (tSlice (tSlice (tLoc 1) (tBin aMod (tBin aFdiv (tLoc 2) (tVal (.int 28))) (tVal (.int 18))) (tVal .none)) (tVal .none) (tVal (.int 8)))) (tSeq (tRet (tComp (tBcall bRange (tCons (tLoc 3) tNil)) 9 (tBoolNil true) (tBin aAdd (tSlice (tLoc 4) (tLoc 9) (tVal .none)) (tSlice (tLoc 4) (tVal .none) (tLoc 9))))) tSkip)) tSkip) (tSeq (tAssign 5 (tBin aMod (tBin aFdiv (tLoc 2) (tVal (.int 28))) (tVal (.int 8)))) (tSeq (tAssign 6 (tMeth "str" bJoin (tVal (.str (Str.ofString ""))) (tCons (tComp (tBcall bRange (tCons (tLoc 5) tNil)) 10 (tBoolNil true) (tItem (tLoc 1) (tBin aMod (tBin aAdd (tBin aFdiv (tLoc 2) (tVal (.int 224))) (tBin aMul (tVal (.int 5)) (tLoc 10))) (tVal (.int 26))))) tNil))) (tSeq (tAssign 7 (tBin aMod (tBin aFdiv (tLoc 2) (tVal (.int 7))) (tBin aAdd (tLoc 5) (tVal (.int 1))))) (tSeq (tRet (tComp (tBcall bRange (tCons (tLoc 3) tNil)) 11 (tBoolNil true) (tBin aAdd (tBin aAdd (tSlice (tLoc 6) (tVal .none) (tLoc 7)) (tItem (tLoc 1) (tBin aMod (tBin aAdd (tBin aFdiv (tLoc 2) (tVal (.int 1000))) (tBin aMul (tVal (.int 3)) (tLoc 11))) (tVal (.int 26))))) (tSlice (tLoc 6) (tLoc 7) (tVal .none))))) tSkip)))))))))
noncomputable def is_l_names : List Nat := [0]
theorem letters_ok : (Str.ofString "abcdefghijklmnopqrstuvwxyz").length ≤ sizeLine := by show letters.length ≤ _; rw [letters_len, sizeLine_is]; decide
theorem cutS_len (x : Str) (lo hi : Option Int) : (⟨(cut x.cps.toList lo hi).toArray⟩ : Str).length ≤ x.length := by
 have := cut_le x.cps.toList lo hi
 show (cut x.cps.toList lo hi).toArray.size ≤ x.cps.size
 simpa using this
theorem join_len : ∀ (ys : List Nat), ((ys.map fun c => (⟨#[c]⟩ : Str)).map (·.length)).sum = ys.length
 | [] => rfl
 | y :: r => by
  have := join_len r
  simp only [List.map_cons, List.sum_cons, List.length_cons, this]
  show 1 + r.length = _; lia
theorem app_len (x y : Str) : (x ++ y).length = x.length + y.length := by
 show (x.cps ++ y.cps).size = _
 simp [Str.length]
theorem join_sz (x : Str) : ∀ ys : List Str, (Str.join x ys).length ≤ (ys.map (·.length)).sum + ys.length * x.length
 | [] => by simp [Str.join, Str.empty, Str.length]
 | [y] => by simp [Str.join]
 | y :: z :: r => by
  have ih := join_sz x (z :: r)
  show (y ++ x ++ Str.join x (z :: r)).length ≤ _
  rw [app_len, app_len]
  simp only [List.map_cons, List.sum_cons, List.length_cons, Nat.add_mul, Nat.one_mul] at ih ⊢
  lia
noncomputable def ltr (j : Int) : Nat := (lts[j.toNat]?).getD 0
theorem idx_ltr {j : Int} (h0 : 0 ≤ j) (h1 : j < 26) : idx lts j = some (ltr j) := by
 have hj : j.toNat < lts.length := by rw [lts_len]; lia
 rw [show idx lts j = lts[j.toNat]? from if_pos h0]
 unfold ltr
 rw [List.getElem?_eq_getElem hj]; rfl
theorem ltr_mem {j : Int} (h0 : 0 ≤ j) (h1 : j < 26) : ltr j ∈ lts := by
 have := idx_ltr h0 h1
 rw [show idx lts j = lts[j.toNat]? from if_pos h0] at this
 exact List.mem_of_getElem? this
theorem ltr_inj {i j : Int} (hi : 0 ≤ i ∧ i < 26) (hj : 0 ≤ j ∧ j < 26) (e : ltr i = ltr j) : lts[i.toNat]? = lts[j.toNat]? := by
 have h1 := idx_ltr hi.1 hi.2
 have h2 := idx_ltr hj.1 hj.2
 rw [show idx lts i = lts[i.toNat]? from if_pos hi.1] at h1
 rw [show idx lts j = lts[j.toNat]? from if_pos hj.1] at h2
 rw [h1, h2, e]
theorem ok_l_names (vs : List AV) (H : AH) (Q : QV) (X : QX) (h : F_l_names vs H Q X) : mkFn is_l_names T_l_names vs H Q X := by
 obtain ⟨l, ns, rfl, hl, fin⟩ := h
 generalize hc : drw ns 0 = c
 have fin2 : ∀ (n : Int) (f : Nat → Str) (H2 : AH) (r : Addr), n = 1 + c % 7 → Sub H H2 → H2 r = none → (∀ i j, i < 7 → j < 7 → f i = f j → i = j) → (∀ i, i < 7 → Nm (f i)) → Q (.ref r) (H2.put r (.list ((List.range n.toNat).map fun k => AV.str (f k)))) := by
  intro n f H2 r hn s2 hr hf hm
  refine fin r ((List.range n.toNat).map f) _ (s2.trans (Sub.add hr _)) (s2.new hr) ?_ (nodup_map f _ fun i j hi hj => hf i j (by lia) (by lia)) (by simp; lia) (by simp; lia) (fun x hx => by
   obtain ⟨k, hk, rfl⟩ := List.mem_map.mp hx
   exact hm k (by have := List.mem_range.mp hk; lia))
  show (AH.put _ _ _) r = _
  rw [put_get, List.map_map]; rfl
 refine ⟨rfl, _, rfl, l, ns, 0, rfl, hl, by decide, ?_⟩
 rw [hc]
 refine ⟨_, rfl, by decide, ?_⟩
 refine ⟨_, rfl, by decide, by decide, by decide, val_k (eq_int ?_)⟩
 refine ite_intro _ (fun q => ?_) fun q => ?_
 ·refine ⟨_, rfl, _, rfl, by lia, by lia, fun r0 hr0 => ?_⟩
  have s0 := Sub.add hr0 (.range 0 (1 + c % 7))
  refine compJ_range (put_get _ _ _) (fun k => .str (nm1 (c / 28 % 18) k)) (fun k hk Q' hQ => ?_) fun r hr => fin2 _ (nm1 (c / 28 % 18)) _ r rfl s0 hr (fun i j hi hj => nm1_inj (by lia) (by lia) hi hj) fun i hi => nm1_ok (by lia) (by lia) hi
  refine ⟨_, rfl, _, rfl, by decide, by decide, by decide, _, _, .int _, .none, letters_ok, ?_⟩
  exact ⟨_, rfl, _, _, .none, .int _, Nat.le_trans (cutS_len letters _ _) letters_ok, hQ⟩
 ·refine ⟨_, rfl, by decide, by decide, by decide, val_k (eq_int ?_)⟩
  refine ite_intro _ (fun q2 => ?_) fun q2 => ?_
  ·refine ⟨_, rfl, _, rfl, by decide, by decide, by decide, _, _, .int _, .none, letters_ok, ?_⟩
   refine ⟨_, _, .none, .int _, Nat.le_trans (cutS_len letters _ _) letters_ok, ?_⟩
   refine ⟨_, rfl, _, rfl, by lia, by lia, fun r0 hr0 => ?_⟩
   have s0 := Sub.add hr0 (.range 0 (1 + c % 7))
   have ht : (turned (c / 28 % 18)).length ≤ 26 := Nat.le_trans (cutS_len ⟨(cut lts (some (c / 28 % 18)) none).toArray⟩ _ _) (Nat.le_trans (cutS_len letters _ _) (by rw [letters_len]; exact Nat.le_refl _))
   refine compJ_range (put_get _ _ _) (fun k => .str (nm2 (c / 28 % 18) k)) (fun k hk Q' hQ => ?_) fun r hr => fin2 _ (nm2 (c / 28 % 18)) _ r rfl s0 hr (fun i j hi hj => nm2_inj (by lia) (by lia) hi hj) fun i hi => nm2_ok (by lia) (by lia) hi
   refine ⟨_, rfl, _, rfl, _, _, .int _, .none, by rw [sizeLine_is]; exact Nat.le_trans ht (by decide), ?_⟩
   refine ⟨_, rfl, _, rfl, _, _, .none, .int _, by rw [sizeLine_is]; exact Nat.le_trans ht (by decide), ?_, hQ⟩
   have h1 := cutS_len (turned (c / 28 % 18)) (some (k : Int)) none
   have h2 := cutS_len (turned (c / 28 % 18)) none (some (k : Int))
   rw [sizeLine_is]
   exact Nat.le_trans (Nat.add_le_add h1 h2) (by lia)
  ·refine ⟨_, rfl, by decide, by decide, by decide, ?_⟩
   refine ⟨.str _, _, rfl, _, rfl, by lia, by lia, fun r0 hr0 => ?_⟩
   have s0 := Sub.add hr0 (.range 0 (c / 28 % 8))
   refine compJ_range (put_get _ _ _) (fun k => .str ⟨#[ltr ((c / 224 + 5 * (k : Int)) % 26)]⟩) (fun k hk Q' hQ => ?_) fun r1 hr1 => ?_
   ·exact ⟨_, rfl, _, rfl, by decide, by decide, _, rfl, by decide, by decide, _, idx_ltr (by lia) (by lia), letters_ok, hQ⟩
   have s1 := s0.trans (Sub.add hr1 (.list ((List.range (c / 28 % 8).toNat).map fun (k : Nat) => AV.str ⟨#[ltr ((c / 224 + 5 * (k : Int)) % 26)]⟩)))
   let ys : List Nat := (List.range (c / 28 % 8).toNat).map fun (k : Nat) => ltr ((c / 224 + 5 * (k : Int)) % 26)
   have hys : ys.length ≤ 7 := by simp only [ys, List.length_map, List.length_range]; lia
   have e1 : ((ys.map fun c => (⟨#[c]⟩ : Str)).map AV.str) = ((List.range (c / 28 % 8).toNat).map fun (k : Nat) => AV.str ⟨#[ltr ((c / 224 + 5 * (k : Int)) % 26)]⟩) := by
    simp only [ys, List.map_map]; rfl
   have jl := join_sz (Str.ofString "") (ys.map fun c => (⟨#[c]⟩ : Str))
   rw [join_len, List.length_map] at jl
   have em : (Str.ofString "").length = 0 := by decide +kernel
   rw [em] at jl
   refine ⟨_, r1, ys.map fun c => (⟨#[c]⟩ : Str), rfl, by rw [put_get, e1], by rw [join_len, em]; lia, ?_⟩
   generalize hB : Str.join (Str.ofString "") (ys.map fun c => (⟨#[c]⟩ : Str)) = base at *
   have hb : base.length ≤ 7 := by simp only [List.length_range, Nat.mul_zero, Nat.add_zero] at jl; lia
   have hbm : ∀ c ∈ base.cps.toList, c ∈ lts := by
    rw [← hB, join_one]
    intro c hc
    obtain ⟨k, _, rfl⟩ := List.mem_map.mp hc
    exact ltr_mem (by lia) (by lia)
   have hbs : base.length ≤ sizeLine := by rw [sizeLine_is]; lia
   refine ⟨_, rfl, by decide, by decide, _, rfl, by lia, ?_⟩
   refine ⟨_, rfl, _, rfl, by lia, by lia, fun r2 hr2 => ?_⟩
   have s2 := s1.trans (Sub.add hr2 (.range 0 (1 + c % 7)))
   refine compJ_range (put_get _ _ _) (fun k => .str (nm3 base (c / 7 % (c / 28 % 8 + 1)) c (fun k => ltr ((c / 1000 + 3 * (k : Int)) % 26)) k)) (fun k hk Q' hQ => ?_) fun r hr =>
    fin2 _ (nm3 base (c / 7 % (c / 28 % 8 + 1)) c (fun k => ltr ((c / 1000 + 3 * (k : Int)) % 26))) _ r rfl s2 hr (fun i j hi hj => nm3_inj (fun i j hi hj e => letter_inj _ hi hj (ltr_inj (by lia) (by lia) e)) hi hj) fun i hi => nm3_ok (Int.emod_nonneg _ (by lia)) hb hbm (ltr_mem (by lia) (by lia))
   have c1 := cutS_len base none (some (c / 7 % (c / 28 % 8 + 1)))
   have c2 := cutS_len base (some (c / 7 % (c / 28 % 8 + 1))) none
   refine ⟨_, rfl, _, rfl, _, _, .none, .int _, hbs, _, rfl, _, rfl, by decide, by decide, _, rfl, by decide, by decide, _, idx_ltr (by lia) (by lia), letters_ok, ?_, _, rfl, _, rfl, _, _, .int _, .none, hbs, ?_, hQ⟩
   ·rw [sizeLine_is]
    exact Nat.le_trans (Nat.add_le_add c1 (Nat.le_refl 1)) (by lia)
   ·rw [sizeLine_is]
    exact Nat.le_trans (Nat.add_le_add (Nat.le_of_eq (app_len _ _)) c2) (Nat.le_trans (Nat.add_le_add_right (Nat.add_le_add c1 (Nat.le_refl 1)) _) (by lia))
end Mine
end
-- text N3
section
namespace Mine
open PySem
noncomputable abbrev sp : Str := ⟨#[32]⟩
noncomputable abbrev nl : Str := ⟨#[10]⟩
noncomputable abbrev dash : Str := ⟨#[45]⟩
noncomputable def cl (x : Str) : List Nat := x.cps.toList
theorem tx_cl (x : Str) : tx (cl x) = x := tx_toList x
theorem cl_tx (l : List Nat) : cl (tx l) = l := toList_tx l
theorem cl_inj {x y : Str} (h : cl x = cl y) : x = y := by rw [← tx_cl x, h, tx_cl]
theorem map_cl_inj {xs ys : List Str} (h : xs.map cl = ys.map cl) : xs = ys := by
 have := congrArg (List.map tx) h
 rw [List.map_map, List.map_map, show tx ∘ cl = id from funext tx_cl, List.map_id, List.map_id] at this
 exact this
theorem jn_str (c : Nat) (xs : List Str) : Str.join ⟨#[c]⟩ xs = tx (jn c (xs.map cl)) := by
 have := join_eq c (xs.map cl)
 rw [List.map_map, show tx ∘ cl = id from funext tx_cl, List.map_id] at this
 exact this
noncomputable def rowL (l : Str) : List Str := if l = dash then [] else (spl 32 (cl l)).map tx
noncomputable def linesT (t : Str) : List Str := (spl 10 (cl t)).map tx
noncomputable def rowsT (t : Str) : List (List Str) := if t = ⟨#[]⟩ then [] else (linesT t).map rowL
noncomputable def lineR (xs : List Str) : Str := if xs = [] then dash else Str.join sp xs
noncomputable def textR (F : List (List Str)) : Str := Str.join nl (F.map lineR)
theorem lineR_rowL (l : Str) : lineR (rowL l) = l := by
 unfold lineR rowL
 by_cases h : l = dash
 ·rw [if_pos h, if_pos rfl, h]
 ·rw [if_neg h, if_neg (by intro q; exact spl_ne 32 (cl l) (List.map_eq_nil_iff.mp q)), join_eq, jn_spl, tx_cl]
theorem textR_rowsT (t : Str) : textR (rowsT t) = t := by
 unfold textR rowsT
 by_cases h : t = ⟨#[]⟩
 ·rw [if_pos h, h]; rfl
 ·rw [if_neg h, List.map_map, show lineR ∘ rowL = id from funext lineR_rowL, List.map_id]
  unfold linesT
  rw [join_eq, jn_spl, tx_cl]
theorem Nm.free {n : Str} (h : Nm n) : 32 ∉ cl n ∧ 10 ∉ cl n ∧ n ≠ dash ∧ cl n ≠ [] := by
 obtain ⟨h1, h2, h3⟩ := h
 refine ⟨fun q => ?_, fun q => ?_, fun q => ?_, fun q => ?_⟩
 ·exact absurd (h3 32 q) (by decide +kernel)
 ·exact absurd (h3 10 q) (by decide +kernel)
 ·rw [q] at h3
  exact absurd (h3 45 (by simp)) (by decide +kernel)
 ·have : n.length = (cl n).length := by simp [cl, Str.length]
  rw [q] at this
  rw [this] at h1
  simp at h1
theorem line_free {r : List Str} (h : ∀ n ∈ r, Nm n) : 10 ∉ cl (lineR r) := by
 unfold lineR
 by_cases e : r = []
 ·rw [if_pos e]; simp [cl]
 ·rw [if_neg e, jn_str, cl_tx]
  have key : ∀ (ps : List (List Nat)), (∀ p ∈ ps, 10 ∉ p) → 10 ∉ jn 32 ps := by
   intro ps
   induction ps with
   | nil => intro _ q; exact nomatch q
   | cons p q ih =>
    intro hp
    cases q with
    | nil => exact hp p (.head _)
    | cons a b =>
     intro m
     rcases List.mem_append.mp m with m | m
     ·exact hp p (.head _) m
     ·rcases List.mem_cons.mp m with m | m
      ·cases m
      ·exact ih (fun x hx => hp x (.tail _ hx)) m
  refine key _ fun p hp => ?_
  obtain ⟨n, hn, rfl⟩ := List.mem_map.mp hp
  exact (h n hn).free.2.1
theorem lineR_inj {r s : List Str} (hr : ∀ n ∈ r, Nm n) (hs : ∀ n ∈ s, Nm n) (h : lineR r = lineR s) (e : r = [] ↔ s = []) : r = s := by
 by_cases h0 : r = []
 ·rw [h0, e.mp h0]
 ·have h1 : s ≠ [] := fun q => h0 (e.mpr q)
  unfold lineR at h
  rw [if_neg h0, if_neg h1, jn_str, jn_str] at h
  have h := congrArg cl h
  rw [cl_tx, cl_tx] at h
  refine map_cl_inj (jn_inj (by simpa using h0) (by simpa using h1) ?_ ?_ h)
  ·intro p hp; obtain ⟨n, hn, rfl⟩ := List.mem_map.mp hp; exact (hr n hn).free.1
  ·intro p hp; obtain ⟨n, hn, rfl⟩ := List.mem_map.mp hp; exact (hs n hn).free.1
theorem text_sorted {t : Str} (hn : ∀ r ∈ rowsT t, (∀ n ∈ r, Nm n) ∧ r.Nodup) (h : textR ((rowsT t).map sortS) = t) : ∀ r ∈ rowsT t, Ris r := by
 intro r hr
 have e : textR ((rowsT t).map sortS) = textR (rowsT t) := by rw [h, textR_rowsT]
 have ne : rowsT t ≠ [] := fun q => by rw [q] at hr; exact nomatch hr
 have srt : ∀ r ∈ rowsT t, ∀ n ∈ sortS r, Nm n := fun r hr n hm => (hn r hr).1 n (mem_sortS.mp hm)
 unfold textR at e
 rw [jn_str, jn_str] at e
 have e := congrArg cl e
 rw [cl_tx, cl_tx] at e
 have e2 := jn_inj (by simpa using ne) (by simpa using ne) (fun p hp => by
  obtain ⟨l, hl, rfl⟩ := List.mem_map.mp hp
  obtain ⟨x, hx, rfl⟩ := List.mem_map.mp hl
  obtain ⟨y, hy, rfl⟩ := List.mem_map.mp hx
  exact line_free (srt y hy)) (fun p hp => by
  obtain ⟨l, hl, rfl⟩ := List.mem_map.mp hp
  obtain ⟨x, hx, rfl⟩ := List.mem_map.mp hl
  exact line_free (hn x hx).1) e
 have e3 := map_cl_inj e2
 rw [List.map_map] at e3
 have e4 : lineR (sortS r) = lineR r := List.map_inj_left.mp e3 r hr
 have e5 := lineR_inj (srt r hr) (hn r hr).1 e4 (by
  constructor
  ·intro q; exact List.eq_nil_of_length_eq_zero (by rw [← sortS_len, q]; rfl)
  ·intro q; rw [q]; rfl)
 rw [← e5]
 exact sortS_ris (hn r hr).2
theorem row_words {t : Str} : ∀ r ∈ rowsT t, ∀ n ∈ r, cl n ∈ wds (cl t) := by
 intro r hr n hn
 unfold rowsT at hr
 split at hr
 ·exact nomatch hr
 ·obtain ⟨l, hl, rfl⟩ := List.mem_map.mp hr
  obtain ⟨p, hp, rfl⟩ := List.mem_map.mp hl
  unfold rowL at hn
  split at hn
  ·exact nomatch hn
  ·obtain ⟨q, hq, rfl⟩ := List.mem_map.mp hn
   rw [cl_tx] at hq ⊢
   rw [← wds_eq]
   exact List.mem_flatMap.mpr ⟨p, hp, hq⟩
theorem text_words {F : List (List Str)} (hF : ∀ r ∈ F, ∀ n ∈ r, Nm n) : ∀ w ∈ wds (cl (textR F)), (∃ r ∈ F, ∃ n ∈ r, w = cl n) ∨ w = [45] ∨ w = [] := by
 intro w hw
 unfold textR at hw
 rw [jn_str, cl_tx, ← wds_eq] at hw
 cases F with
 | nil => exact .inr (.inr (by simpa [jn, spl] using hw))
 | cons r F =>
  rw [spl_jn (by simp) (fun p hp => by
   obtain ⟨l, hl, rfl⟩ := List.mem_map.mp hp
   obtain ⟨x, hx, rfl⟩ := List.mem_map.mp hl
   exact line_free (hF x hx))] at hw
  obtain ⟨p, hp, hw⟩ := List.mem_flatMap.mp hw
  obtain ⟨l, hl, rfl⟩ := List.mem_map.mp hp
  obtain ⟨x, hx, rfl⟩ := List.mem_map.mp hl
  unfold lineR at hw
  split at hw
  ·exact .inr (.inl (by simpa [cl, spl] using hw))
  ·rename_i ne
   rw [jn_str, cl_tx, spl_jn (by simpa using ne) (fun p hp => by
    obtain ⟨n, hn, rfl⟩ := List.mem_map.mp hp
    exact (hF x hx n hn).free.1)] at hw
   obtain ⟨n, hn, rfl⟩ := List.mem_map.mp hw
   exact .inl ⟨x, hx, n, hn, rfl⟩
theorem text_lines {F : List (List Str)} (hF : ∀ r ∈ F, ∀ n ∈ r, Nm n) : (cl (textR F)).count 10 ≤ F.length := by
 have h := spl_len 10 (cl (textR F))
 unfold textR at *
 rw [jn_str, cl_tx] at *
 cases F with
 | nil => simp [jn]
 | cons r F =>
  rw [spl_jn (by simp) (fun p hp => by
   obtain ⟨l, hl, rfl⟩ := List.mem_map.mp hp
   obtain ⟨x, hx, rfl⟩ := List.mem_map.mp hl
   exact line_free (hF x hx)), List.length_map, List.length_map] at h
  omega
end Mine
end
-- text B1
section
namespace Mine
open PySem
set_option maxRecDepth 10000
noncomputable def alph : Str := Str.ofString "abcdefghijklmnopqrstuvwxyz"
noncomputable def nmB (x : Str) : Bool := decide (1 ≤ x.length) && decide (x.length ≤ 8) && x.cps.toList.all fun c => Txt.contains alph ⟨#[c]⟩
noncomputable def NotNm (H : AH) : AV → Prop
 | .str x => nmB x = false ∧ x.length ≤ 1000000
 | .ref a => (∃ xs, H a = some (.list xs)) ∨ ∃ xs, H a = some (.tuple xs)
 | _ => True
theorem NotNm.sub {H K : AH} {v : AV} (h : NotNm H v) (s : Sub H K) : NotNm K v := by
 cases v with
 | ref a => exact h.imp (fun ⟨xs, e⟩ => ⟨xs, s _ _ e⟩) fun ⟨xs, e⟩ => ⟨xs, s _ _ e⟩
 | _ => exact h
inductive F_is_nameK (vs : List AV) (H : AH) (Q : QV) : Prop
 | yes (x) : vs = [.str x] → Nm x → (∀ H', Sub H H' → Q (.bool true) H') → F_is_nameK vs H Q
 | no (v) : vs = [v] → NotNm H v → (∀ H', Sub H H' → Q (.bool false) H') → F_is_nameK vs H Q
noncomputable def F_is_name : Fn := fun vs H Q _ => F_is_nameK vs H Q
structure Spoilt (H : AH) (a : Addr) (xs : List Str) (v : AV) (ys : List Str) : Prop where
 at_ : H a = some (.list (xs.map AV.str ++ v :: ys.map AV.str))
 nm : ∀ n ∈ xs, Nm n
 no : NotNm H v
inductive F_risingK (vs : List AV) (H : AH) (Q : QV) (X : QX) : Prop
 | good (a) (xs) : vs = [.ref a] → LS H a xs → (∀ n ∈ xs, Nm n) → xs.length ≤ 4000 → (dedup xs).length < 64 → (∀ r H', Sub H H' → H r = none → LS H' r (sd xs) → Q (.ref r) H') → F_risingK vs H Q X
 | bad (a) (xs) (v) (ys) : vs = [.ref a] → Spoilt H a xs v ys → (∀ H', Sub H H' → X (Str.ofString "BadName") H') → F_risingK vs H Q X
noncomputable def F_rising : Fn := fun vs H Q X => F_risingK vs H Q X
noncomputable def F_need_set : Fn := F_rising
noncomputable def T_is_name : Ts := (tSeq (tIte (tOrB (tNotB (tTruth (tIsi "str" (tLoc 0)))) (tOrB (tNotB (tChain aLe aLe (tVal (.int 1)) (tBcall bLen (tCons (tLoc 0) tNil)) (tVal (.int 8)))) (tBoolNil false))) (tSeq (tRet (tVal (.bool false))) tSkip) tSkip) (tSeq (tRet (tBcall bAll (tCons (tComp (tLoc 0) 1 (tBoolNil true) (tCmp aIn (tLoc 1) (tVal (.str (Str.ofString "abcdefghijklmnopqrstuvwxyz"))))) tNil))) tSkip))
noncomputable def is_is_name : List Nat := [0]
noncomputable def T_rising : Ts := (tSeq (tFor (tLoc 0) 1 (tSeq (tIte (tNotB (tTruth (tCall F_is_name (tCons (tLoc 1) tNil)))) (tSeq (tRaise (Str.ofString "BadName") (tCons (tVal (.str (Str.ofString "no name"))) tNil)) tSkip) tSkip) tSkip)) (tSeq (tRet (tBcall bSorted (tCons (tBcall bSet (tCons (tLoc 0) tNil)) tNil))) tSkip))
noncomputable def is_rising : List Nat := [0]
noncomputable def T_need_set : Ts := (tSeq (tIte (tNotB (tTruth (tIsi "list" (tLoc 0)))) (tSeq (tRaise (Str.ofString "BadRow") (tCons (tVal (.str (Str.ofString "no list of names"))) tNil)) tSkip) tSkip) (tSeq (tRet (tCall F_rising (tCons (tLoc 0) tNil))) tSkip))
noncomputable def is_need_set : List Nat := [0]
theorem letter_in : ∀ c ∈ lts, Txt.contains (Str.ofString "abcdefghijklmnopqrstuvwxyz") ⟨#[c]⟩ = true := by decide +kernel
theorem le_k {a b : Int} {H : AH} {Q : Bool → AH → Prop} (h : Q (decide (a ≤ b)) H) : aLe (.int a) (.int b) H Q := h
noncomputable def hasL : AV → Bool
 | .str z => Txt.contains alph z
 | _ => true
theorem signs_has (x : Str) : (signs x).map (fun y => AV.bool (hasL y)) = (x.cps.toList.map fun c => Txt.contains alph ⟨#[c]⟩).map AV.bool := by
 unfold signs
 rw [List.map_map, List.map_map]; rfl
theorem ok_is_name (vs : List AV) (H : AH) (Q : QV) (X : QX) (h : F_is_name vs H Q X) : mkFn is_is_name T_is_name vs H Q X := by
 have gen : ∀ (x : Str), x.length ≤ 1000000 → (∀ H', Sub H H' → Q (.bool (nmB x)) H') → mkFn is_is_name T_is_name [.str x] H Q X := by
  intro x hl h
  have hz : x.length ≤ sizeLine := by rw [sizeLine_is]; omega
  refine ⟨rfl, _, rfl, true, isi_str, true, rfl, ?_⟩
  refine ⟨_, rfl, _, rfl, hz, le_k ?_⟩
  by_cases h1 : 1 ≤ x.length
  ·rw [decide_eq_true (show (1 : Int) ≤ x.length by omega)]
   refine ite_t (val_k (le_k ?_))
   by_cases h2 : x.length ≤ 8
   ·rw [decide_eq_true (show (x.length : Int) ≤ 8 by omega)]
    refine ⟨_, rfl, ?_⟩
    have hs : x.cps.size ≤ 1048576 := by have : x.length = x.cps.size := rfl; omega
    refine compJ_pure (kd := .str) (xs := signs x) ⟨rfl, hs⟩ (fun y => .bool (hasL y)) (fun y hy Q' hQ => ?_) fun r hr => ?_
    ·obtain ⟨c, hc, rfl⟩ := List.mem_map.mp hy
     exact ⟨_, Mp.upd_self _ _ _, hQ⟩
    ·rw [signs_has]
     refine ⟨r, _, rfl, put_get _ _ _, ?_⟩
     have e : (List.map (fun c => Txt.contains alph ⟨#[c]⟩) x.cps.toList).all id = nmB x := by
      unfold nmB
      rw [decide_eq_true h1, decide_eq_true h2, List.all_map]; rfl
     rw [e]
     exact h _ (Sub.add hr _)
   ·rw [decide_eq_false (show ¬ (x.length : Int) ≤ 8 by omega)]
    have e : nmB x = false := by unfold nmB; rw [decide_eq_false h2]; simp
    rw [e] at h
    exact h _ (.refl _)
  ·rw [decide_eq_false (show ¬ (1 : Int) ≤ x.length by omega)]
   have e : nmB x = false := by unfold nmB; rw [decide_eq_false h1]; simp
   rw [e] at h
   exact ite_f (h _ (.refl _))
 cases h with
 | yes x e hx h =>
  subst e
  obtain ⟨h1, h2, h3⟩ := hx
  have e : nmB x = true := by
   unfold nmB
   rw [decide_eq_true h1, decide_eq_true h2]
   exact List.all_eq_true.mpr fun c hc => letter_in c (h3 c hc)
  exact gen x (by omega) (by rw [e]; exact h)
 | no v e hv h =>
  subst e
  cases v with
  | str x => exact gen x hv.2 (by rw [hv.1]; exact h)
  | none => exact ⟨rfl, _, rfl, false, rfl, false, rfl, h _ (.refl _)⟩
  | bool b => exact ⟨rfl, _, rfl, false, rfl, false, rfl, h _ (.refl _)⟩
  | int i => exact ⟨rfl, _, rfl, false, rfl, false, rfl, h _ (.refl _)⟩
  | ref a =>
   have e : aIs "str" (.ref a) H = some false := by
    rcases hv with ⟨xs, e⟩ | ⟨xs, e⟩ <;> simp [aIs, e]
   exact ⟨rfl, _, rfl, false, e, false, rfl, h _ (.refl _)⟩
theorem ok_rising (vs : List AV) (H : AH) (Q : QV) (X : QX) (h : F_rising vs H Q X) : mkFn is_rising T_rising vs H Q X := by
 cases h with
 | good a xs e ha hn hl h64 h =>
  subst e
  refine ⟨rfl, _, rfl, .list, xs.map AV.str, ha, fun k m' H' => m' 0 = some (.ref a) ∧ Sub H H', ⟨rfl, .refl _⟩, ?_⟩
  rintro k m' H' ⟨v0, sb⟩ hk
  refine ⟨sb _ _ ha, fun y hy => ?_, fun e => ?_⟩
  ·obtain ⟨n, hn', rfl⟩ := getElem?_strs hy
   refine ⟨_, Mp.upd_self _ _ _, .yes n rfl (hn n (List.mem_of_getElem? hn')) fun H2 s2 => ⟨true, rfl, ?_⟩⟩
   exact ⟨(Mp.upd_ne _ _ (by decide)).trans v0, sb.trans s2⟩
  ·refine ⟨_, v0, a, xs, rfl, sb _ _ ha, hl, fun r1 hr1 => ⟨r1, _, rfl, put_get _ _ _, h64, fun r2 hr2 => ?_⟩⟩
   have s1 := sb.trans (Sub.add hr1 (.sset (dedup xs)))
   exact h r2 _ (s1.trans (Sub.add hr2 _)) (s1.new hr2) (put_get _ _ _)
 | bad a xs v ys e hs h =>
  subst e
  refine ⟨rfl, _, rfl, .list, xs.map AV.str ++ v :: ys.map AV.str, hs.at_, fun k m' H' => m' 0 = some (.ref a) ∧ Sub H H' ∧ k ≤ xs.length, ⟨rfl, .refl _, Nat.zero_le _⟩, ?_⟩
  rintro k m' H' ⟨v0, sb, hkx⟩ hk
  refine ⟨sb _ _ hs.at_, fun y hy => ?_, fun e => ?_⟩
  ·by_cases q : k < xs.length
   ·rw [List.getElem?_append_left (by rw [List.length_map]; exact q)] at hy
    obtain ⟨n, hn', rfl⟩ := getElem?_strs hy
    refine ⟨_, Mp.upd_self _ _ _, .yes n rfl (hs.nm n (List.mem_of_getElem? hn')) fun H2 s2 => ⟨true, rfl, ?_⟩⟩
    exact ⟨(Mp.upd_ne _ _ (by decide)).trans v0, sb.trans s2, q⟩
   ·have e : k = xs.length := by omega
    rw [e, List.getElem?_append_right (by simp)] at hy
    simp at hy
    subst hy
    refine ⟨_, Mp.upd_self _ _ _, .no v rfl (hs.no.sub sb) fun H2 s2 => ⟨false, rfl, ?_⟩⟩
    exact ⟨by decide, h _ (sb.trans s2)⟩
  ·simp at e
   omega
theorem ok_need_set (vs : List AV) (H : AH) (Q : QV) (X : QX) (h : F_need_set vs H Q X) : mkFn is_need_set T_need_set vs H Q X := by
 cases h with
 | good a xs e ha hn hl h64 h =>
  subst e
  exact ⟨rfl, _, rfl, true, isi_list ha, true, rfl, _, rfl, .good a xs rfl ha hn hl h64 h⟩
 | bad a xs v ys e hs h =>
  subst e
  exact ⟨rfl, _, rfl, true, isi_list hs.at_, true, rfl, _, rfl, .bad a xs v ys rfl hs h⟩
theorem Nm.nmB {x : Str} (h : Nm x) : nmB x = true := by
 obtain ⟨h1, h2, h3⟩ := h
 unfold Mine.nmB
 rw [decide_eq_true h1, decide_eq_true h2]
 exact List.all_eq_true.mpr fun c hc => letter_in c (h3 c hc)
theorem letter_of {c : Nat} (h : Txt.contains alph ⟨#[c]⟩ = true) : c ∈ lts := by
 have := StrLaws.found_one alph c
 have h' : (!(Builtin.Str.occurrences alph ⟨#[c]⟩ 0 alph.length 1).isEmpty) = true := h
 rw [this] at h'
 exact of_decide_eq_true h'
theorem nm_of {x : Str} (h : nmB x = true) : Nm x := by
 unfold nmB at h
 simp only [Bool.and_eq_true, decide_eq_true_eq] at h
 obtain ⟨⟨h1, h2⟩, h3⟩ := h
 exact ⟨h1, h2, fun c hc => letter_of (List.all_eq_true.mp h3 c hc)⟩
theorem names_or : ∀ (xs : List Str), (∀ n ∈ xs, Nm n) ∨ ∃ a v b, xs = a ++ v :: b ∧ (∀ n ∈ a, Nm n) ∧ nmB v = false
 | [] => .inl fun _ h => (nomatch h)
 | x :: r => by
  cases e : nmB x with
  | false => exact .inr ⟨[], x, r, rfl, fun _ h => (nomatch h), e⟩
  | true =>
   rcases names_or r with h | ⟨a, v, b, h1, h2, h3⟩
   ·exact .inl fun n hn => (List.mem_cons.mp hn).elim (fun q => q ▸ nm_of e) (h n)
   ·exact .inr ⟨x :: a, v, b, by rw [h1]; rfl, fun n hn => (List.mem_cons.mp hn).elim (fun q => q ▸ nm_of e) (h2 n), h3⟩
end Mine
end
-- text B2
section
namespace Mine
open PySem
set_option maxRecDepth 10000
structure Bk where
 a : Addr
 d : Addr
 k : Addr
 rs : List (Int × Addr × List Str)
 c : Int
noncomputable def Bk.sets (B : Bk) : List (List Str) := B.rs.map (·.2.2)
noncomputable abbrev bkAttrs (k : Addr) (c : Int) : List (Str × AV) := [(Str.ofString "kept", .ref k), (Str.ofString "coming", .int c)]
noncomputable abbrev bkDict (rs : List (Int × Addr × List Str)) : List (Int × AV) := rs.map fun r => (r.1, AV.ref r.2.1)
structure BookAt (H : AH) (B : Bk) : Prop where
 inst : H B.a = some (.inst B.d)
 attrs : H B.d = some (.attrs (bkAttrs B.k B.c))
 kept : H B.k = some (.idict (bkDict B.rs))
 rows : ∀ r ∈ B.rs, LS H r.2.1 r.2.2
 inc : (B.rs.map (·.1)).Pairwise (· < ·)
 lt : ∀ r ∈ B.rs, r.1 < B.c
 nm : ∀ r ∈ B.rs, ∀ n ∈ r.2.2, Nm n
 ris : ∀ r ∈ B.rs, Ris r.2.2
 len : B.rs.length ≤ 30
 rl : ∀ r ∈ B.rs, r.2.2.length ≤ 12
 few : ∃ names : List Str, names.length ≤ 12 ∧ ∀ r ∈ B.rs, ∀ n ∈ r.2.2, n ∈ names
theorem BookAt.keep {H K : AH} {B : Bk} (h : BookAt H B) (k : ∀ x o, (x = B.a ∨ x = B.d ∨ x = B.k ∨ ∃ r ∈ B.rs, x = r.2.1) → H x = some o → K x = some o) : BookAt K B :=
 ⟨k _ _ (.inl rfl) h.inst, k _ _ (.inr (.inl rfl)) h.attrs, k _ _ (.inr (.inr (.inl rfl))) h.kept, fun r hr => k _ _ (.inr (.inr (.inr ⟨r, hr, rfl⟩))) (h.rows r hr), h.inc, h.lt, h.nm, h.ris, h.len, h.rl, h.few⟩
theorem BookAt.few12 {H : AH} {B : Bk} (h : BookAt H B) : (dedup B.sets.flatten).length ≤ 12 := by
 obtain ⟨names, h1, h2⟩ := h.few
 refine Nat.le_trans (nodup_len (dedup_is_nodup _) fun n hn => ?_) h1
 obtain ⟨x, hx, hnx⟩ := List.mem_flatten.mp (mem_dedup.mp hn)
 obtain ⟨r, hr, rfl⟩ := List.mem_map.mp hx
 exact h2 r hr n hnx
theorem BookAt.sub {H K : AH} {B : Bk} (h : BookAt H B) (s : Sub H K) : BookAt K B := h.keep fun x o _ e => s x o e
theorem BookAt.set {H : AH} {B : Bk} (h : BookAt H B) : ∀ x ∈ B.sets, Ris x ∧ (∀ n ∈ x, Nm n) ∧ x.length ≤ 12 := fun x hx => by
 obtain ⟨r, hr, rfl⟩ := List.mem_map.mp hx
 exact ⟨h.ris r hr, h.nm r hr, h.rl r hr⟩
theorem Bk.sets_len (B : Bk) : B.sets.length = B.rs.length := List.length_map _
theorem pick {τ : Type} (g : τ → AV) : ∀ {ys : List AV} {R : Nat → τ → Prop}, (∀ (k : Nat) y, ys[k]? = some y → ∃ t, y = g t ∧ R k t) → ∃ ts : List τ, ys = ts.map g ∧ ∀ (k : Nat) t, ts[k]? = some t → R k t
 | [], R, _ => ⟨[], rfl, fun k t e => by simp at e⟩
 | y :: ys, R, h => by
  obtain ⟨t, rfl, h0⟩ := h 0 y rfl
  obtain ⟨ts, rfl, h1⟩ := pick g (ys := ys) (R := fun k t => R (k + 1) t) fun k y e => h (k + 1) y (by simpa using e)
  refine ⟨t :: ts, rfl, fun k u e => ?_⟩
  cases k with
  | zero => simp at e; subst e; exact h0
  | succ k => exact h1 k u (by simpa using e)
theorem sortI_inc {xs : List Int} (h : xs.Pairwise (· < ·)) : sortI xs = xs := by
 unfold sortI
 induction xs with
 | nil => rfl
 | cons x r ih =>
  obtain ⟨h1, h2⟩ := List.pairwise_cons.mp h
  show insB _ x (isort _ r) = _
  rw [ih h2]
  cases r with
  | nil => rfl
  | cons y q =>
   show (if decide (x < y) = true then x :: y :: q else y :: insB _ x q) = _
   rw [if_pos (decide_eq_true (h1 y (.head _)))]
theorem dict_at {rs : List (Int × Addr × List Str)} (h : (rs.map (·.1)).Pairwise (· < ·)) {k : Nat} {r : Int × Addr × List Str} (e : rs[k]? = some r) : (bkDict rs).lookup r.1 = some (.ref r.2.1) := by
 induction rs generalizing k with
 | nil => simp at e
 | cons p q ih =>
  obtain ⟨h1, h2⟩ := List.pairwise_cons.mp h
  show List.lookup r.1 ((p.1, AV.ref p.2.1) :: bkDict q) = _
  rw [List.lookup_cons]
  cases k with
  | zero => simp at e; subst e; simp
  | succ k =>
   have e : q[k]? = some r := by simpa using e
   have lt : p.1 < r.1 := h1 r.1 (List.mem_map.mpr ⟨r, List.mem_of_getElem? e, rfl⟩)
   have ne : (r.1 == p.1) = false := by
    have : r.1 ≠ p.1 := by omega
    simpa using this
   rw [ne]; exact ih h2 e
inductive F_b_rowsK (vs : List AV) (H : AH) (Q : QV) : Prop
 | mk (B) : vs = [.ref B.a] → BookAt H B → (∀ (ts : List (Addr × Addr)) r H', Sub H H' → H r = none → ts.length = B.rs.length → H' r = some (.list (ts.map fun t => AV.ref t.1)) →
   (∀ (k : Nat) t, ts[k]? = some t → ∃ u, B.rs[k]? = some u ∧ H' t.1 = some (.tuple [.int u.1, .ref t.2]) ∧ LS H' t.2 u.2.2 ∧ H t.1 = none ∧ H t.2 = none) → Q (.ref r) H') → F_b_rowsK vs H Q
noncomputable def F_b_rows : Fn := fun vs H Q _ => F_b_rowsK vs H Q
inductive F_b_all_setsK (vs : List AV) (H : AH) (Q : QV) : Prop
 | mk (B) : vs = [.ref B.a] → BookAt H B → (∀ bs r H', Sub H H' → New H bs → H r = none → RL H' r bs → LAll H' bs B.sets → Q (.ref r) H') → F_b_all_setsK vs H Q
noncomputable def F_b_all_sets : Fn := fun vs H Q _ => F_b_all_setsK vs H Q
inductive F_b_namesK (vs : List AV) (H : AH) (Q : QV) : Prop
 | mk (B) : vs = [.ref B.a] → BookAt H B → (∀ r H', Sub H H' → H r = none → LS H' r (sd B.sets.flatten) → Q (.ref r) H') → F_b_namesK vs H Q
noncomputable def F_b_names : Fn := fun vs H Q _ => F_b_namesK vs H Q
noncomputable def T_b_rows : Ts := (tSeq (tRet (tComp (tBcall bSorted (tCons (tAttr (Str.ofString "kept") (tLoc 0)) tNil)) 1 (tBoolNil true) (tTuple (tCons (tLoc 1) (tCons (tBcall bList (tCons (tItem (tAttr (Str.ofString "kept") (tLoc 0)) (tLoc 1)) tNil)) tNil))))) tSkip)
noncomputable def is_b_rows : List Nat := [0]
noncomputable def T_b_all_sets : Ts := (tSeq (tRet (tComp (tMcall (Str.ofString "rows") F_b_rows (tLoc 0) tNil) 1 (tBoolNil true) (tItem (tLoc 1) (tVal (.int 1))))) tSkip)
noncomputable def is_b_all_sets : List Nat := [0]
noncomputable def T_b_names : Ts := (tSeq (tAssign 1 (tList tNil)) (tSeq (tFor (tMcall (Str.ofString "all_sets") F_b_all_sets (tLoc 0) tNil) 2 (tSeq (tExpr (tMeth "list" bExtend (tLoc 1) (tCons (tLoc 2) tNil))) tSkip)) (tSeq (tRet (tCall F_rising (tCons (tLoc 1) tNil))) tSkip)))
noncomputable def is_b_names : List Nat := [0]
theorem ok_b_rows (vs : List AV) (H : AH) (Q : QV) (X : QX) (h : F_b_rows vs H Q X) : mkFn is_b_rows T_b_rows vs H Q X := by
 obtain ⟨B, rfl, hB, fin⟩ := h
 refine ⟨rfl, _, rfl, B.a, B.d, _, _, rfl, hB.inst, hB.attrs, by kernel_rfl, B.k, _, rfl, hB.kept, by rw [List.length_map]; have := hB.len; omega, fun r0 hr0 => ?_⟩
 have s0 := Sub.add hr0 (.list ((sortI ((bkDict B.rs).map (·.1))).map AV.int))
 have e0 : sortI ((bkDict B.rs).map (·.1)) = B.rs.map (·.1) := by
  rw [List.map_map]; exact sortI_inc hB.inc
 refine compJ_sub (kd := .list) (xs := (B.rs.map (·.1)).map AV.int) (by rw [← e0]; exact put_get _ _ _)
  (fun k y H' => ∃ t : Addr × Addr, y = .ref t.1 ∧ ∃ u, B.rs[k]? = some u ∧ H' t.1 = some (.tuple [.int u.1, .ref t.2]) ∧ LS H' t.2 u.2.2 ∧ H t.1 = none ∧ H t.2 = none) ?_ (fun k x H' sb hx Q' hQ => ?_) fun ys H' sb hl hy r hr => ?_
 ·rintro k y K1 K2 ⟨t, h1, u, h2, h3, h4, h5⟩ s
  exact ⟨t, h1, u, h2, s _ _ h3, s _ _ h4, h5⟩
 ·rw [List.map_map, List.getElem?_map] at hx
  cases e : B.rs[k]? with
  | none => rw [e] at hx; cases hx
  | some u =>
   rw [e] at hx
   have hx : x = .int u.1 := (Option.some.inj hx).symm
   subst hx
   have hB' := hB.sub (s0.trans sb)
   refine ⟨_, Mp.upd_self _ _ _, _, rfl, B.a, B.d, _, .ref B.k, rfl, hB'.inst, hB'.attrs, by kernel_rfl, _, Mp.upd_self _ _ _, _, hB'.kept, _, dict_at hB.inc e, _, _, rfl, hB'.rows u (List.mem_of_getElem? e), fun r1 hr1 => ?_⟩
   have s1 := Sub.add hr1 (.list (u.2.2.map AV.str))
   refine ⟨by simp, fun r2 hr2 => ?_⟩
   have s2 := s1.trans (Sub.add hr2 (.tuple [.int u.1, .ref r1]))
   exact hQ _ _ s2 ⟨(r2, r1), rfl, u, e, put_get _ _ _, Sub.add hr2 _ _ _ (put_get _ _ _), ((s0.trans sb).trans s1).new hr2, (s0.trans sb).new hr1⟩
 ·obtain ⟨ts, rfl, ht⟩ := pick (fun t : Addr × Addr => AV.ref t.1) hy
  rw [List.length_map, List.length_map, List.length_map] at hl
  have s3 := Sub.add hr (.list (ts.map fun t : Addr × Addr => AV.ref t.1))
  refine fin ts r _ ((s0.trans sb).trans s3) ((s0.trans sb).new hr) hl (put_get _ _ _) fun k t e => ?_
  obtain ⟨u, h2, h3, h4, h5⟩ := ht k t e
  exact ⟨u, h2, s3 _ _ h3, s3 _ _ h4, h5⟩
theorem ok_b_all_sets (vs : List AV) (H : AH) (Q : QV) (X : QX) (h : F_b_all_sets vs H Q X) : mkFn is_b_all_sets T_b_all_sets vs H Q X := by
 obtain ⟨B, rfl, hB, fin⟩ := h
 refine ⟨rfl, _, rfl, B.a, B.d, _, rfl, hB.inst, hB.attrs, by kernel_rfl, B, rfl, hB, fun ts r0 H0 s0 n0 hl h0 ht => ?_⟩
 refine compJ_list (kd := .list) (xs := ts.map fun t : Addr × Addr => AV.ref t.1) (ys := ts.map fun t : Addr × Addr => AV.ref t.2) h0 (by simp) (fun k x y hx hy Q' hQ => ?_) fun r hr => ?_
 ·rw [List.getElem?_map] at hx hy
  cases e : ts[k]? with
  | none => rw [e] at hx; cases hx
  | some t =>
   rw [e] at hx hy; cases hx; cases hy
   obtain ⟨u, h2, h3, h4, h5⟩ := ht k t e
   exact ⟨_, Mp.upd_self _ _ _, _, h3, _, rfl, hQ⟩
 ·have s1 := Sub.add hr (.list (ts.map fun t : Addr × Addr => AV.ref t.2))
  refine fin (ts.map (·.2)) r _ (s0.trans s1) (fun b hb => ?_) (s0.new hr) ?_ (LAll.of (by simp [Bk.sets, hl]) fun k a xs e1 e2 => ?_)
  ·obtain ⟨t, htm, rfl⟩ := List.mem_map.mp hb
   obtain ⟨k, hk, e⟩ := List.mem_iff_getElem.mp htm
   obtain ⟨u, h2, h3, h4, h5, h6⟩ := ht k t (by rw [List.getElem?_eq_getElem hk, e])
   exact h6
  ·show (AH.put _ _ _) r = _
   rw [put_get, List.map_map]; rfl
  ·rw [List.getElem?_map] at e1
   cases e : ts[k]? with
   | none => rw [e] at e1; cases e1
   | some t =>
    rw [e] at e1; cases e1
    obtain ⟨u, h2, h3, h4, h5⟩ := ht k t e
    unfold Bk.sets at e2
    rw [List.getElem?_map, h2] at e2; cases e2
    exact s1 _ _ h4
theorem flatten_len {F : List (List Str)} {n : Nat} (h : ∀ x ∈ F, x.length ≤ n) : F.flatten.length ≤ F.length * n := by
 induction F with
 | nil => simp
 | cons x r ih =>
  have h1 := h x (.head _)
  have h2 := ih fun y hy => h y (.tail _ hy)
  rw [List.flatten_cons, List.length_append, List.length_cons, Nat.add_mul, Nat.one_mul]; omega
theorem take_flat {F : List (List Str)} {k : Nat} {x : List Str} (e : F[k]? = some x) : (F.take (k + 1)).flatten = (F.take k).flatten ++ x := by
 rw [List.take_add_one, e]; simp
theorem ok_b_names (vs : List AV) (H : AH) (Q : QV) (X : QX) (h : F_b_names vs H Q X) : mkFn is_b_names T_b_names vs H Q X := by
 obtain ⟨B, rfl, hB, fin⟩ := h
 have fl : ∀ k, ((B.sets.take k).flatten).length ≤ 360 := fun k => by
  have h1 := flatten_len (F := B.sets.take k) (n := 12) fun x hx => (hB.set x (List.mem_of_mem_take hx)).2.2
  have h2 : (B.sets.take k).length ≤ 30 := by rw [List.length_take, Bk.sets_len]; have := hB.len; omega
  have := Nat.mul_le_mul_right 12 h2
  omega
 refine ⟨rfl, Nat.zero_le _, fun p hp => ?_⟩
 have sp := Sub.add hp (.list [])
 refine ⟨_, rfl, B.a, B.d, _, rfl, sp _ _ hB.inst, sp _ _ hB.attrs, by kernel_rfl, B, rfl, hB.sub sp, fun bs r0 H0 s0 nb n0 h0 hA => ?_⟩
 have np : ∀ b ∈ bs, b ≠ p := fun b hb e => by subst e; have := nb b hb; rw [put_get] at this; cases this
 have nr : r0 ≠ p := fun e => by subst e; rw [put_get] at n0; cases n0
 have sH : Sub H H0 := sp.trans s0
 refine ⟨.list, bs.map AV.ref, h0, fun k m' H' => m' 1 = some (.ref p) ∧ LS H' p (B.sets.take k).flatten ∧ (∀ x o, x ≠ p → H0 x = some o → H' x = some o), ⟨rfl, s0 _ _ (put_get _ _ _), fun _ _ _ e => e⟩, ?_⟩
 rintro k m' H' ⟨v1, hp', kp⟩ hk
 refine ⟨kp _ _ nr h0, fun y hy => ?_, fun e => ?_⟩
 ·obtain ⟨c, hc, rfl⟩ := getElem?_refs hy
  obtain ⟨xs, hx, hcx⟩ := hA.get hc
  have hc' := kp _ _ (np c (List.mem_of_getElem? hc)) hcx
  have fk := fl (k + 1)
  rw [take_flat hx, List.length_append] at fk
  refine ⟨_, (Mp.upd_ne _ _ (by decide)).trans v1, .list hp', _, Mp.upd_self _ _ _, p, c, _, _, rfl, hp', hc', by rw [List.length_map, List.length_map, sizeLine_is]; omega, fun _ h => (nomatch h), (Mp.upd_ne _ _ (by decide)).trans v1, ?_, fun x o nx e => (AH.put_ne _ _ nx).trans (kp x o nx e)⟩
  show (AH.put _ _ _) p = _
  rw [put_get, take_flat hx, List.map_append]
 ·have hk' : (B.sets.take k).flatten = B.sets.flatten := by
   rw [List.length_map] at e
   rw [List.take_of_length_le (by rw [e, hA.length]; exact Nat.le_refl _)]
  have fk := fl k
  rw [hk'] at hp' fk
  have sub : Sub H H' := fun x o ex => kp x o (ne_new hp ex) (sH _ _ ex)
  refine ⟨_, v1, .good p B.sets.flatten rfl hp' (fun n hn => ?_) (by omega) (Nat.lt_of_le_of_lt hB.few12 (by decide)) fun r H2 s2 nr2 hr => fin r H2 (sub.trans s2) (sub.new nr2) hr⟩
  obtain ⟨x, hx, hnx⟩ := List.mem_flatten.mp hn
  exact (hB.set x hx).2.1 n hnx
end Mine
end
-- text B3
section
namespace Mine
open PySem
set_option maxRecDepth 10000
structure Chg (H K : AH) (M : Addr → Prop) : Prop where
 keep : ∀ x o, ¬ M x → H x = some o → K x = some o
 dom : ∀ x, K x = none → H x = none
theorem Chg.of_sub {H K : AH} {M : Addr → Prop} (s : Sub H K) : Chg H K M := ⟨fun x o _ e => s x o e, fun x e => s.new e⟩
theorem Chg.refl (H : AH) (M : Addr → Prop) : Chg H H M := ⟨fun _ _ _ e => e, fun _ e => e⟩
theorem Chg.trans {H K L : AH} {M : Addr → Prop} (x : Chg H K M) (y : Chg K L M) : Chg H L M := ⟨fun a o m e => y.keep a o m (x.keep a o m e), fun a e => x.dom a (y.dom a e)⟩
theorem Chg.mono {H K : AH} {M N : Addr → Prop} (x : Chg H K M) (h : ∀ a, M a → N a) : Chg H K N := ⟨fun a o m e => x.keep a o (fun q => m (h a q)) e, x.dom⟩
theorem Chg.put {H K : AH} {M : Addr → Prop} (x : Chg H K M) {a : Addr} (o : AO) (m : M a) : Chg H (K.put a o) M :=
 ⟨fun b o' n e => (AH.put_ne _ _ fun (q : b = a) => n (by rw [q]; exact m)).trans (x.keep b o' n e), fun b e => x.dom b (by
  by_cases q : b = a
  ·rw [q, AH.put_self] at e; cases e
  ·rw [AH.put_ne _ _ q] at e; exact e)⟩
theorem Chg.sub {H K L : AH} {M : Addr → Prop} (x : Chg H K M) (s : Sub K L) : Chg H L M := x.trans (.of_sub s)
theorem Chg.fresh {H K : AH} {M N : Addr → Prop} (x : Chg H K M) (h : ∀ a, M a → H a ≠ none → N a) : Chg H K N := ⟨fun a o n e => x.keep a o (fun m => n (h a m (by rw [e]; exact fun q => by cases q))) e, x.dom⟩
inductive F_b_initK (vs : List AV) (H : AH) (Q : QV) : Prop
 | mk (x d) : vs = [.ref x] → H x = some (.inst d) → H d = some (.attrs []) → x ≠ d → (∀ k H', H k = none → Chg H H' (· = d) → BookAt H' ⟨x, d, k, [], 0⟩ → Q .none H') → F_b_initK vs H Q
noncomputable def F_b_init : Fn := fun vs H Q _ => F_b_initK vs H Q
noncomputable def Bk.more (B : Bk) (l : Addr) (row : List Str) : Bk := { B with rs := B.rs ++ [(B.c, l, row)], c := B.c + 1 }
inductive PutBad (B : Bk) (row : List Str) : Prop
 | name (n : Str) : n ∈ row → nmB n = false → PutBad B row
 | twice : ¬ row.Nodup → PutBad B row
 | rows : B.rs.length = 30 → PutBad B row
 | names : 12 < (dedup (B.sets.flatten ++ row)).length → PutBad B row
noncomputable def putX : List Str := [Str.ofString "BadName", Str.ofString "BadRow", Str.ofString "TooMany"]
inductive F_b_putK (vs : List AV) (H : AH) (Q : QV) (X : QX) : Prop
 | ok (B : Bk) (r : Addr) (row names : List Str) : vs = [.ref B.a, .ref r] → BookAt H B → LS H r row → row.Nodup → (∀ n ∈ row, Nm n) → B.rs.length < 30 → names.length ≤ 12 → (∀ x ∈ B.sets, ∀ n ∈ x, n ∈ names) → (∀ n ∈ row, n ∈ names) →
   (∀ l H', Chg H H' (fun x => x = B.d ∨ x = B.k) → H l = none → BookAt H' (B.more l (sortS row)) → Q (.int B.c) H') → F_b_putK vs H Q X
 | bad (B : Bk) (r : Addr) (row : List Str) : vs = [.ref B.a, .ref r] → BookAt H B → LS H r row → row.length < 64 → (∀ n ∈ row, n.length ≤ 1000000) → PutBad B row → (∀ x H', x ∈ putX → Sub H H' → X x H') → F_b_putK vs H Q X
noncomputable def F_b_put : Fn := fun vs H Q X => F_b_putK vs H Q X
noncomputable def T_b_init : Ts := (tSeq (tAttrSet (Str.ofString "kept") (tLoc 0) tDict0) (tSeq (tAttrSet (Str.ofString "coming") (tLoc 0) (tVal (.int 0))) tSkip))
noncomputable def is_b_init : List Nat := [0]
noncomputable def T_b_put : Ts := (tSeq (tAssign 2 (tCall F_need_set (tCons (tLoc 1) tNil))) (tSeq (tIte (tCmpB aNe (tBcall bLen (tCons (tLoc 2) tNil)) (tBcall bLen (tCons (tLoc 1) tNil))) (tSeq (tRaise (Str.ofString "BadRow") (tCons (tVal (.str (Str.ofString "a name stands twice"))) tNil)) tSkip) tSkip) (tSeq (tIte (tCmpB aEq (tBcall bLen (tCons (tAttr (Str.ofString "kept") (tLoc 0)) tNil)) (tVal (.int 30))) (tSeq (tRaise (Str.ofString "TooMany") (tCons (tVal (.str (Str.ofString "too many rows"))) tNil)) tSkip) tSkip) (tSeq (tIte (tCmpB aGt (tBcall bLen (tCons (tBcall bSet (tCons (tBin aAdd (tMcall (Str.ofString "names") F_b_names (tLoc 0) tNil) (tLoc 2)) tNil)) tNil)) (tVal (.int 12))) (tSeq (tRaise (Str.ofString "TooMany") (tCons (tVal (.str (Str.ofString "too many names"))) tNil)) tSkip) tSkip) (tSeq (tAssign 3 (tAttr (Str.ofString "coming") (tLoc 0))) (tSeq (tAttrSet (Str.ofString "coming") (tLoc 0) (tBin aAdd (tLoc 3) (tVal (.int 1)))) (tSeq (tSubSet (tAttr (Str.ofString "kept") (tLoc 0)) (tLoc 3) (tLoc 2)) (tSeq (tRet (tLoc 3)) tSkip))))))))
noncomputable def is_b_put : List Nat := [0, 1]
theorem putA_coming (k : Addr) (c c' : Int) : putA (bkAttrs k c) (Str.ofString "coming") (.int c') = bkAttrs k c' := by kernel_rfl
theorem putA_new (k : Addr) : putA (putA [] (Str.ofString "kept") (.ref k)) (Str.ofString "coming") (.int 0) = bkAttrs k 0 := by kernel_rfl
theorem ok_b_init (vs : List AV) (H : AH) (Q : QV) (X : QX) (h : F_b_init vs H Q X) : mkFn is_b_init T_b_init vs H Q X := by
 obtain ⟨x, d, rfl, hx, hd, ne, fin⟩ := h
 refine ⟨rfl, fun k hk => ?_⟩
 have sk := Sub.add hk (.idict [])
 have nkd : k ≠ d := fun e => by rw [e, hd] at hk; cases hk
 have nkx : k ≠ x := fun e => by rw [e, hx] at hk; cases hk
 refine ⟨_, rfl, x, d, _, rfl, sk _ _ hx, sk _ _ hd, by decide, ?_⟩
 refine ⟨_, rfl, x, d, _, rfl, (AH.put_ne _ _ ne).trans (sk _ _ hx), put_get _ _ _, Nat.lt_of_le_of_lt (putA_len _ _ _) (by decide), ?_⟩
 have c0 : Chg H _ (fun x => x = d) := Chg.of_sub sk
 refine fin k _ hk ((c0.put _ (show d = d from rfl)).put _ (show d = d from rfl)) ⟨?_, ?_, ?_, fun r hr => (nomatch hr), .nil, fun r hr => (nomatch hr), fun r hr => (nomatch hr), fun r hr => (nomatch hr), Nat.zero_le _, fun r hr => (nomatch hr), [], Nat.zero_le _, fun r hr => (nomatch hr)⟩
 ·exact (AH.put_ne _ _ ne).trans ((AH.put_ne _ _ ne).trans (sk _ _ hx))
 ·show (AH.put _ _ _) d = _
  rw [put_get, putA_new]
 ·exact (AH.put_ne _ _ nkd).trans ((AH.put_ne _ _ nkd).trans (put_get _ _ _))
theorem stored_new {rs : List (Int × Addr × List Str)} {c : Int} {l : Addr} (h : ∀ r ∈ rs, r.1 < c) : storedA (bkDict rs) c (.ref l) = bkDict rs ++ [(c, .ref l)] := by
 unfold storedA
 rw [if_neg]
 intro q
 obtain ⟨p, hp, e⟩ := List.any_eq_true.mp q
 obtain ⟨r, hr, rfl⟩ := List.mem_map.mp hp
 have := h r hr
 have e : r.1 = c := of_decide_eq_true e
 omega
theorem gt_k {a b : Int} {H : AH} {Q : Bool → AH → Prop} (h : Q (decide (b < a)) H) : aGt (.int a) (.int b) H Q := h
theorem mem_sd {x : List Str} {a : Str} : a ∈ sd x ↔ a ∈ x := mem_sortS.trans mem_dedup
theorem nodup_of_dedup : ∀ {row : List Str}, (dedup row).length = row.length → row.Nodup
 | [], _ => .nil
 | x :: r, h => by
  rw [List.length_cons] at h
  have hx : x ∉ r := fun hx => by
   have := nodup_len (x := r) (dedup_is_nodup (x :: r)) fun n hn => (List.mem_cons.mp (mem_dedup.mp hn)).elim (fun q => q ▸ hx) id
   omega
  have h2 := nodup_len (x := x :: dedup r) (dedup_is_nodup (x :: r)) fun n hn => (List.mem_cons.mp (mem_dedup.mp hn)).elim (fun q => q ▸ .head _) fun q => .tail _ (mem_dedup.mpr q)
  rw [List.length_cons] at h2
  have h3 := dedup_len r
  exact List.nodup_cons.mpr ⟨hx, nodup_of_dedup (by omega)⟩
theorem nodup_of_sd {row : List Str} (h : (sd row).length = row.length) : row.Nodup := by
 have e : (dedup row).length = row.length := by unfold sd at h; rw [sortS_len] at h; exact h
 exact nodup_of_dedup e
theorem ok_b_put (vs : List AV) (H : AH) (Q : QV) (X : QX) (h : F_b_put vs H Q X) : mkFn is_b_put T_b_put vs H Q X := by
 cases h with
 | ok B r row names e hB hr hnd hnm hlen hn12 hs1 hs2 fin =>
  subst e
  have hrl : row.length ≤ 12 := Nat.le_trans (nodup_len hnd hs2) hn12
  refine ⟨rfl, _, rfl, .good r row rfl hr hnm (by omega) (Nat.lt_of_le_of_lt (dedup_len row) (by omega)) fun f H1 s1 nf hf => ?_⟩
  rw [sd_of_nodup hnd] at hf
  have hB1 := hB.sub s1
  refine ⟨_, rfl, _, rfl, _, hf, _, rfl, _, rfl, _, s1 _ _ hr, ne_int_eq (by simp [sortS_len]) ?_⟩
  refine ⟨_, rfl, B.a, B.d, _, .ref B.k, rfl, hB1.inst, hB1.attrs, by kernel_rfl, _, rfl, _, hB1.kept, val_k (eq_int ?_)⟩
  rw [decide_eq_false (show ¬ (((bkDict B.rs).length : Int) = 30) by rw [List.length_map]; omega)]
  refine ite_f ?_
  refine ⟨_, rfl, B.a, B.d, _, rfl, hB1.inst, hB1.attrs, by kernel_rfl, B, rfl, hB1, fun g H2 s2 ng hg => ?_⟩
  have fsub : ∀ n ∈ sd B.sets.flatten, n ∈ names := fun n hn => by
   obtain ⟨x, hx, hnx⟩ := List.mem_flatten.mp (mem_dedup.mp (mem_sortS.mp hn))
   exact hs1 x hx n hnx
  have fl : (sd B.sets.flatten).length ≤ 12 := Nat.le_trans (nodup_len ((sortS_perm _).nodup_iff.mpr (dedup_is_nodup _)) fsub) hn12
  refine ⟨_, rfl, _, _, hg, s2 _ _ hf, by rw [List.length_map, List.length_map, sortS_len, sizeLine_is]; omega, fun r3 hr3 => ?_⟩
  rw [← List.map_append]
  have s3 := Sub.add hr3 (.list ((sd B.sets.flatten ++ sortS row).map AV.str))
  refine ⟨r3, _, rfl, put_get _ _ _, by rw [List.length_append, sortS_len]; omega, fun r4 hr4 => ?_⟩
  have s4 := Sub.add hr4 (.sset (dedup (sd B.sets.flatten ++ sortS row)))
  refine ⟨_, rfl, _, put_get _ _ _, val_k (gt_k ?_)⟩
  have dl : (dedup (sd B.sets.flatten ++ sortS row)).length ≤ 12 := Nat.le_trans (nodup_len (dedup_is_nodup _) fun n hn => by
   rcases List.mem_append.mp (mem_dedup.mp hn) with q | q
   ·exact fsub n q
   ·exact hs2 n (mem_sortS.mp q)) hn12
  rw [decide_eq_false (show ¬ ((12 : Int) < ((dedup (sd B.sets.flatten ++ sortS row)).length : Int)) by omega)]
  refine ite_f ?_
  have s14 := s2.trans (s3.trans s4)
  have hB4 := hB1.sub s14
  have hf4 : LS _ f (sortS row) := s14 _ _ hf
  have c4 : Chg H _ (fun x => x = B.d ∨ x = B.k) := Chg.of_sub (s1.trans s14)
  generalize AH.put _ r4 _ = H4 at *
  refine ⟨_, rfl, B.a, B.d, _, .int B.c, rfl, hB4.inst, hB4.attrs, by kernel_rfl, ?_⟩
  refine ⟨_, rfl, _, rfl, B.a, B.d, _, rfl, hB4.inst, hB4.attrs, show 2 < 900 by decide, ?_⟩
  rw [putA_coming]
  have nkd : B.k ≠ B.d := fun e => by have h1 := hB4.kept; rw [e, hB4.attrs] at h1; cases h1
  have nad : B.a ≠ B.d := fun e => by have h1 := hB4.inst; rw [e, hB4.attrs] at h1; cases h1
  have nak : B.a ≠ B.k := fun e => by have h1 := hB4.inst; rw [e, hB4.kept] at h1; cases h1
  have nrow : ∀ {l : Addr} {xs : List Str}, LS H4 l xs → l ≠ B.d ∧ l ≠ B.k := fun {l xs} h => ⟨fun e => (by subst e; have := hB4.attrs.symm.trans h; cases this), fun e => (by subst e; have := hB4.kept.symm.trans h; cases this)⟩
  refine ⟨_, rfl, _, rfl, B.a, B.d, _, .ref B.k, rfl, (AH.put_ne _ _ nad).trans hB4.inst, put_get _ _ _, by kernel_rfl, _, rfl, .idict B.k _ B.c rfl rfl ((AH.put_ne _ _ nkd).trans hB4.kept) (by rw [List.length_map, sizeLine_is]; omega) ?_⟩
  rw [stored_new hB4.lt]
  refine ⟨_, rfl, ?_⟩
  refine fin f _ ((c4.put _ (.inl rfl)).put _ (.inr rfl)) nf ⟨?_, ?_, ?_, fun q hq => ?_, ?_, fun q hq => ?_, fun q hq => ?_, fun q hq => ?_, ?_, fun q hq => ?_, names, hn12, fun q hq => ?_⟩
  ·exact (AH.put_ne _ _ nak).trans ((AH.put_ne _ _ nad).trans hB4.inst)
  ·exact (AH.put_ne _ _ (Ne.symm nkd)).trans (put_get _ _ _)
  ·show (AH.put _ _ _) B.k = _
   rw [put_get]
   show _ = some (AO.idict (bkDict (B.rs ++ [(B.c, f, sortS row)])))
   have e : bkDict (B.rs ++ [(B.c, f, sortS row)]) = bkDict B.rs ++ [(B.c, AV.ref f)] := List.map_append
   rw [e]
  ·rcases List.mem_append.mp hq with hq | hq
   ·have := hB4.rows q hq
    exact LS.put_ne (LS.put_ne this (nrow this).1) (nrow this).2
   ·have e : q = (B.c, f, sortS row) := by simpa using hq
    subst e
    exact LS.put_ne (LS.put_ne hf4 (nrow hf4).1) (nrow hf4).2
  ·show (List.map _ (B.rs ++ [(B.c, f, sortS row)])).Pairwise _
   rw [List.map_append]
   refine List.pairwise_append.mpr ⟨hB4.inc, List.pairwise_singleton _ _, fun x hx y hy => ?_⟩
   obtain ⟨u, hu, rfl⟩ := List.mem_map.mp hx
   rw [show y = B.c by simpa using hy]
   exact hB4.lt u hu
  ·show q.1 < B.c + 1
   rcases List.mem_append.mp hq with hq | hq
   ·have := hB4.lt q hq; omega
   ·rw [show q = (B.c, f, sortS row) by simpa using hq]; show B.c < B.c + 1; omega
  ·rcases List.mem_append.mp hq with hq | hq
   ·exact hB4.nm q hq
   ·rw [show q = (B.c, f, sortS row) by simpa using hq]; exact fun n hn => hnm n (mem_sortS.mp hn)
  ·rcases List.mem_append.mp hq with hq | hq
   ·exact hB4.ris q hq
   ·rw [show q = (B.c, f, sortS row) by simpa using hq]; exact sortS_ris hnd
  ·show (B.rs ++ [(B.c, f, sortS row)]).length ≤ 30
   rw [List.length_append]; show _ + 1 ≤ 30; omega
  ·rcases List.mem_append.mp hq with hq | hq
   ·exact hB4.rl q hq
   ·rw [show q = (B.c, f, sortS row) by simpa using hq]; show (sortS row).length ≤ 12; rw [sortS_len]; exact hrl
  ·rcases List.mem_append.mp hq with hq | hq
   ·exact hs1 q.2.2 (List.mem_map.mpr ⟨q, hq, rfl⟩)
   ·rw [show q = (B.c, f, sortS row) by simpa using hq]; exact fun n hn => hs2 n (mem_sortS.mp hn)
 | bad B r row e hB hr hrl hsl hbad fin =>
  subst e
  rcases names_or row with hnm | ⟨a, v, b, rfl, h2, h3⟩
  ·refine ⟨rfl, _, rfl, .good r row rfl hr hnm (by omega) (Nat.lt_of_le_of_lt (dedup_len row) hrl) fun f H1 s1 nf hf => ?_⟩
   have hB1 := hB.sub s1
   refine ⟨_, rfl, _, rfl, _, hf, _, rfl, _, rfl, _, s1 _ _ hr, ne_int ?_⟩
   by_cases hl : (sd row).length = row.length
   ·have hnd := nodup_of_sd hl
    rw [decide_eq_true (by rw [List.length_map, List.length_map, hl])]
    refine ⟨_, rfl, B.a, B.d, _, .ref B.k, rfl, hB1.inst, hB1.attrs, by kernel_rfl, _, rfl, _, hB1.kept, val_k (eq_int ?_)⟩
    by_cases h30 : B.rs.length = 30
    ·rw [decide_eq_true (show (((bkDict B.rs).length : Int) = 30) by rw [List.length_map, h30]; rfl)]
     exact ite_t ⟨by decide, fin _ _ (.tail _ (.tail _ (.head _))) s1⟩
    ·rw [decide_eq_false (show ¬ (((bkDict B.rs).length : Int) = 30) by rw [List.length_map]; omega)]
     refine ite_f ?_
     refine ⟨_, rfl, B.a, B.d, _, rfl, hB1.inst, hB1.attrs, by kernel_rfl, B, rfl, hB1, fun g H2 s2 ng hg => ?_⟩
     have f12 := hB.few12
     have fl : (sd B.sets.flatten).length ≤ 12 := by unfold sd; rw [sortS_len]; exact f12
     refine ⟨_, rfl, _, _, hg, s2 _ _ hf, by rw [List.length_map, List.length_map, hl, sizeLine_is]; omega, fun r3 hr3 => ?_⟩
     rw [← List.map_append]
     have s3 := Sub.add hr3 (.list ((sd B.sets.flatten ++ sd row).map AV.str))
     refine ⟨r3, _, rfl, put_get _ _ _, by rw [List.length_append, hl]; omega, fun r4 hr4 => ?_⟩
     have s4 := Sub.add hr4 (.sset (dedup (sd B.sets.flatten ++ sd row)))
     refine ⟨_, rfl, _, put_get _ _ _, val_k (gt_k ?_)⟩
     have dl : (dedup (sd B.sets.flatten ++ sd row)).length = (dedup (B.sets.flatten ++ row)).length := by
      refine Nat.le_antisymm (nodup_len (dedup_is_nodup _) fun n hn => ?_) (nodup_len (dedup_is_nodup _) fun n hn => ?_)
      ·refine mem_dedup.mpr (List.mem_append.mpr ((List.mem_append.mp (mem_dedup.mp hn)).imp ?_ ?_))
       ·exact mem_sd.mp
       ·exact mem_sd.mp
      ·refine mem_dedup.mpr (List.mem_append.mpr ((List.mem_append.mp (mem_dedup.mp hn)).imp ?_ ?_))
       ·exact mem_sd.mpr
       ·exact mem_sd.mpr
     cases hbad with
     | name n hn he => rw [(hnm n hn).nmB] at he; cases he
     | twice h => exact absurd hnd h
     | rows h => exact absurd h h30
     | names h =>
      rw [decide_eq_true (show ((12 : Int) < ((dedup (sd B.sets.flatten ++ sd row)).length : Int)) by rw [dl]; omega)]
      exact ite_t ⟨by decide, fin _ _ (.tail _ (.tail _ (.head _))) (s1.trans (s2.trans (s3.trans s4)))⟩
   ·rw [decide_eq_false (by rw [List.length_map, List.length_map]; omega)]
    exact ⟨by decide, fin _ _ (.tail _ (.head _)) s1⟩
  ·have hat : H r = some (.list (a.map AV.str ++ .str v :: b.map AV.str)) := by
    have := hr
    unfold LS at this
    rw [List.map_append] at this
    exact this
   exact ⟨rfl, _, rfl, .bad r a (.str v) b rfl ⟨hat, h2, h3, hsl v (List.mem_append.mpr (.inr (.head _)))⟩ fun H' s' => fin _ _ (.head _) s'⟩
end Mine
end
-- text S8g
section
namespace Mine
open PySem
set_option maxRecDepth 10000
inductive LLp (H : AH) (A : Addr → Prop) (a : Addr) (F : List (List Str)) : Prop
 | mk (as : List Addr) : RL H a as → LAll H as F → A a → (∀ x ∈ as, A x) → LLp H A a F
theorem LAll.keep {H K : AH} {as : List Addr} {F : List (List Str)} (h : LAll H as F) (k : ∀ a o, a ∈ as → H a = some o → K a = some o) : LAll K as F := by
 induction h with
 | nil => exact .nil
 | cons x _ ih => exact .cons (k _ _ (.head _) x) (ih fun a o ha => k a o (.tail _ ha))
theorem LLp.keep {H K : AH} {A : Addr → Prop} {a : Addr} {F : List (List Str)} (h : LLp H A a F) (k : ∀ a o, A a → H a = some o → K a = some o) : LLp K A a F := by
 obtain ⟨as, h1, h2, h3, h4⟩ := h
 exact ⟨as, k _ _ h3 h1, h2.keep fun b o hb => k b o (h4 b hb), h3, h4⟩
theorem LLp.ll {H : AH} {A : Addr → Prop} {a : Addr} {F : List (List Str)} (h : LLp H A a F) : LL H a F := by
 obtain ⟨as, h1, h2, _⟩ := h
 exact ⟨as, h1, h2⟩
theorem LLp.mono {H : AH} {A B : Addr → Prop} {a : Addr} {F : List (List Str)} (h : LLp H A a F) (k : ∀ x, A x → B x) : LLp H B a F := by
 obtain ⟨as, h1, h2, h3, h4⟩ := h
 exact ⟨as, h1, h2, k _ h3, fun x hx => k _ (h4 x hx)⟩
end Mine
end
-- text B4
section
namespace Mine
open PySem
set_option maxRecDepth 10000
theorem Ris.sd {x : List Str} (h : Ris x) : sd x = x := by rw [sd_of_nodup h.nodup, h.sort]
theorem Good.congr {P P' : List Str → Prop} {T : List (List Str)} (h : Good P T) (e : ∀ x, P x ↔ P' x) : Good P' T :=
 ⟨fun t ht => (e t).mp (h.ok t ht), fun z hz => h.cov z ((e z).mpr hz), h.anti, h.ord⟩
structure JB (H : AH) (F : List (List Str)) (B : Bk) (k : Nat) (H' : AH) : Prop where
 sub : Sub H H'
 book : BookAt H' B
 sets : B.sets = (F.take k).map sortS
 c : B.c = k
 num : B.rs.map (·.1) = (List.range k).map (fun i : Nat => (i : Int))
 new : ∀ x, (x = B.a ∨ x = B.d ∨ x = B.k ∨ ∃ r ∈ B.rs, x = r.2.1) → H x = none
theorem JB.more {H : AH} {F : List (List Str)} {B : Bk} {k : Nat} {H' H2 H3 : AH} {l : Addr} {row : List Str} (J : JB H F B k H') (s2 : Sub H' H2) (hrow : F[k]? = some row) (c3 : Chg H2 H3 (fun x => x = B.d ∨ x = B.k)) (nl : H2 l = none) (hB3 : BookAt H3 (B.more l (sortS row))) : JB H F (B.more l (sortS row)) (k + 1) H3 := by
 refine ⟨fun z o e => c3.keep z o ?_ (s2 _ _ (J.sub _ _ e)), hB3, ?_, ?_, ?_, ?_⟩
 ·rintro (rfl | rfl)
  ·rw [J.new _ (.inr (.inl rfl))] at e; cases e
  ·rw [J.new _ (.inr (.inr (.inl rfl)))] at e; cases e
 ·show (B.rs ++ [(B.c, l, sortS row)]).map (·.2.2) = _
  rw [List.map_append, List.take_add_one, hrow]
  have := J.sets
  unfold Bk.sets at this
  rw [this]; simp
 ·show B.c + 1 = _
  rw [J.c]; simp
 ·show (B.rs ++ [(B.c, l, sortS row)]).map (·.1) = _
  rw [List.map_append, J.num, List.range_succ, List.map_append]
  simp [J.c]
 ·rintro z (rfl | rfl | rfl | ⟨r, hr, rfl⟩)
  ·exact J.new _ (.inl rfl)
  ·exact J.new _ (.inr (.inl rfl))
  ·exact J.new _ (.inr (.inr (.inl rfl)))
  ·rcases List.mem_append.mp hr with hr | hr
   ·exact J.new _ (.inr (.inr (.inr ⟨r, hr, rfl⟩)))
   ·rw [show r = (B.c, l, sortS row) by simpa using hr]
    exact (J.sub.trans s2).new nl
inductive F_l_bookK (vs : List AV) (H : AH) (Q : QV) : Prop
 | mk (a : Addr) (F : List (List Str)) (names : List Str) : vs = [.ref a] → LL H a F → F.length ≤ 30 → (∀ r ∈ F, r.Nodup ∧ ∀ n ∈ r, n ∈ names) → (∀ n ∈ names, Nm n) → names.length ≤ 12 →
   (∀ B H', Sub H H' → BookAt H' B → B.sets = F.map sortS → B.c = F.length → B.rs.map (·.1) = (List.range F.length).map (fun k : Nat => (k : Int)) → (∀ x, (x = B.a ∨ x = B.d ∨ x = B.k ∨ ∃ r ∈ B.rs, x = r.2.1) → H x = none) → Q (.ref B.a) H') → F_l_bookK vs H Q
noncomputable def F_l_book : Fn := fun vs H Q _ => F_l_bookK vs H Q
noncomputable def T_l_book : Ts := (tSeq (tAssign 1 (tMake F_b_init)) (tSeq (tFor (tLoc 0) 2 (tSeq (tExpr (tMcall (Str.ofString "put") F_b_put (tLoc 1) (tCons (tBcall bList (tCons (tLoc 2) tNil)) tNil))) tSkip)) (tSeq (tRet (tLoc 1)) tSkip)))
noncomputable def is_l_book : List Nat := [0]
theorem ok_l_book (vs : List AV) (H : AH) (Q : QV) (X : QX) (h : F_l_book vs H Q X) : mkFn is_l_book T_l_book vs H Q X := by
 obtain ⟨a, F, names, rfl, ⟨as, ha, hA⟩, hl, hF, hnm, hn12, fin⟩ := h
 refine ⟨rfl, fun x d hx hd ne => ?_⟩
 have s1 := (Sub.add hd (.attrs [])).put (.inst d) hx
 refine ⟨x, d, rfl, put_get _ _ _, (AH.put_ne _ _ (Ne.symm ne)).trans (put_get _ _ _), ne, fun k0 H1 hk0 c1 hB1 => ⟨rfl, ?_⟩⟩
 have k0n : H k0 = none := s1.new hk0
 have sH1 : Sub H H1 := fun y o e => c1.keep y o (fun q => by rw [q, hd] at e; cases e) (s1 _ _ e)
 refine ⟨_, rfl, .list, as.map AV.ref, sH1 _ _ ha, fun k m' H' => ∃ B : Bk, B.a = x ∧ B.d = d ∧ B.k = k0 ∧ m' 1 = some (.ref x) ∧ JB H F B k H', ⟨⟨x, d, k0, [], 0⟩, rfl, rfl, rfl, rfl, sH1, hB1, by simp [Bk.sets], rfl, rfl, ?_⟩, ?_⟩
 ·rintro y (rfl | rfl | rfl | ⟨r, hr, _⟩)
  ·exact hx
  ·exact hd
  ·exact k0n
  ·exact nomatch hr
 rintro k m' H' ⟨B, rfl, rfl, rfl, v1, J⟩ hk
 refine ⟨J.sub _ _ ha, fun y hy => ?_, fun e => ?_⟩
 ·obtain ⟨c, hc, rfl⟩ := getElem?_refs hy
  obtain ⟨row, hrow, hcr⟩ := hA.get hc
  have hkF : k < F.length := (List.getElem?_eq_some_iff.mp hrow).1
  have hrm := List.mem_of_getElem? hrow
  have hBl : B.rs.length = k := by rw [← List.length_map (f := (·.1)), J.num]; simp
  refine ⟨_, (Mp.upd_ne _ _ (by decide)).trans v1, B.a, B.d, _, rfl, J.book.inst, J.book.attrs, by kernel_rfl, _, Mp.upd_self _ _ _, c, _, rfl, J.sub _ _ hcr, fun r1 hr1 => ?_⟩
  have s2 := Sub.add hr1 (.list (row.map AV.str))
  refine .ok B r1 row names rfl (J.book.sub s2) (put_get _ _ _) (hF row hrm).1 (fun n hn => hnm n ((hF row hrm).2 n hn)) (by omega) hn12 (fun z hz n hn => ?_) (hF row hrm).2 fun l H3 c3 nl hB3 => ⟨fun _ h => (nomatch h), ?_⟩
  ·rw [J.sets] at hz
   obtain ⟨w, hw, rfl⟩ := List.mem_map.mp hz
   exact (hF w (List.mem_of_mem_take hw)).2 n (mem_sortS.mp hn)
  ·exact ⟨B.more l (sortS row), rfl, rfl, rfl, (Mp.upd_ne _ _ (by decide)).trans v1, J.more s2 hrow c3 nl hB3⟩
 ·rw [List.length_map, hA.length] at e
  subst e
  have h1 := J.sets
  rw [List.take_length] at h1
  exact ⟨_, v1, fin B H' J.sub J.book h1 J.c J.num J.new⟩
end Mine
end
-- text B6
section
namespace Mine
open PySem
set_option maxRecDepth 10000
theorem idx_zero {α : Type} {xs : List α} {x : α} (h : xs[0]? = some x) : idx xs 0 = some x := by
 unfold idx
 rw [if_pos (by lia)]; exact h
end Mine
end
-- text M2
section
namespace Mine
open PySem
theorem Good.mem_iff {P : List Str → Prop} {T : List (List Str)} (hP : ∀ z, P z → Ris z) (h : Good P T) {x : List Str} : x ∈ T ↔ P x ∧ ∀ y, P y → (∀ m ∈ y, m ∈ x) → y = x := by
 refine ⟨fun hx => ⟨h.ok x hx, fun y hy hs => ?_⟩, fun ⟨hx, hm⟩ => ?_⟩
 ·obtain ⟨t, ht, h1⟩ := h.cov y hy
  have e : t = x := h.anti t ht x hx fun m hm => hs m (h1 m hm)
  subst e
  exact (hP y hy).ext (hP t (h.ok t hx)) fun a => ⟨hs a, h1 a⟩
 ·obtain ⟨t, ht, h1⟩ := h.cov x hx
  rw [← hm t (h.ok t ht) h1]; exact ht
end Mine
end
-- text B5
section
namespace Mine
open PySem
set_option maxRecDepth 10000
inductive NAll (H : AH) : List (Addr × Addr) → List (Int × List Str) → Prop
 | nil : NAll H [] []
 | cons {t l : Addr} {n : Int} {xs : List Str} {ts : List (Addr × Addr)} {L : List (Int × List Str)} : H t = some (.tuple [.int n, .ref l]) → LS H l xs → NAll H ts L → NAll H ((t, l) :: ts) ((n, xs) :: L)
inductive NR (H : AH) (a : Addr) (L : List (Int × List Str)) : Prop
 | mk (ts : List (Addr × Addr)) : H a = some (.list (ts.map fun t => AV.ref t.1)) → NAll H ts L → NR H a L
theorem NAll.sub {H K : AH} (s : Sub H K) {ts : List (Addr × Addr)} {L : List (Int × List Str)} (h : NAll H ts L) : NAll K ts L := by
 induction h with
 | nil => exact .nil
 | cons h1 h2 _ ih => exact .cons (s _ _ h1) (s _ _ h2) ih
theorem NR.sub {H K : AH} (s : Sub H K) {a : Addr} {L : List (Int × List Str)} (h : NR H a L) : NR K a L := by
 obtain ⟨ts, h1, h2⟩ := h
 exact ⟨ts, s _ _ h1, h2.sub s⟩
theorem NAll.of {H : AH} : ∀ {ts : List (Addr × Addr)} {L : List (Int × List Str)}, ts.length = L.length → (∀ (k : Nat) t u, ts[k]? = some t → L[k]? = some u → H t.1 = some (.tuple [.int u.1, .ref t.2]) ∧ LS H t.2 u.2) → NAll H ts L
 | [], [], _, _ => .nil
 | [], _ :: _, h, _ => by simp at h
 | _ :: _, [], h, _ => by simp at h
 | t :: ts, u :: L, h, k => .cons (k 0 t u rfl rfl).1 (k 0 t u rfl rfl).2 (NAll.of (by simpa using h) fun j b ys e1 e2 => k (j + 1) b ys (by simpa using e1) (by simpa using e2))
noncomputable def dP (p : Int × List Str) : PyData := .tuple [.int p.1, dL p.2]
noncomputable def dN (L : List (Int × List Str)) : PyData := .list (L.map dP)
theorem NAll.rd {H : AH} {ts : List (Addr × Addr)} {L : List (Int × List Str)} (h : NAll H ts L) : RdAll H (ts.map fun t => AV.ref t.1) (L.map dP) := by
 induction h with
 | nil => exact .nil
 | cons h1 h2 _ ih => exact .cons (.tuple h1 (.cons (.int _) (.cons h2.rd .nil))) ih
theorem NR.rd {H : AH} {a : Addr} {L : List (Int × List Str)} (h : NR H a L) : Rd H (.ref a) (dN L) := by
 obtain ⟨ts, h1, h2⟩ := h
 exact .list h1 h2.rd
theorem dep_dPs : ∀ L : List (Int × List Str), PyData.depthAll (L.map dP) ≤ 2
 | [] => by simp [PyData.depthAll]
 | x :: r => by
  have := dep_dPs r
  simp only [List.map_cons, PyData.depthAll, dP, PyData.depth, dep_dL]
  omega
theorem dep_dN (L : List (Int × List Str)) : (dN L).depth ≤ 3 := by
 have := dep_dPs L
 simp only [dN, PyData.depth]; omega
theorem eqv_dP (p q : Int × List Str) : PyData.eqv (dP p) (dP q) = decide (p = q) := by
 obtain ⟨i, x⟩ := p
 obtain ⟨j, y⟩ := q
 simp only [dP, PyData.eqv, PyData.eqvAll, eqv_dL, beq_dec]
 by_cases e : i = j <;> by_cases f : x = y <;> simp [e, f]
theorem eqs_dP : ∀ (F G : List (Int × List Str)), PyData.eqvAll (F.map dP) (G.map dP) = decide (F = G)
 | [], [] => by simp [PyData.eqvAll]
 | [], _ :: _ => by simp [PyData.eqvAll]
 | _ :: _, [] => by simp [PyData.eqvAll]
 | x :: r, y :: q => by
  simp only [List.map_cons, PyData.eqvAll, eqv_dP, eqs_dP r q]
  by_cases e : x = y <;> by_cases f : r = q <;> simp [e, f]
theorem eqv_dN (F G : List (Int × List Str)) : PyData.eqv (dN F) (dN G) = decide (F = G) := by simp only [dN, PyData.eqv, eqs_dP]
theorem eq_NR_eq {H : AH} {a b : Addr} {L : List (Int × List Str)} {Q : Bool → AH → Prop} (h1 : NR H a L) (h2 : NR H b L) (h : Q true H) : aEq (.ref a) (.ref b) H Q :=
 ⟨_, _, h1.rd, h2.rd, by have := dep_dN L; omega, by have := dep_dN L; omega, by rw [eqv_dN, decide_eq_true rfl]; exact h⟩
noncomputable def Bk.num (B : Bk) : List (Int × List Str) := B.rs.map fun r => (r.1, r.2.2)
theorem rows_nr {H : AH} {r : Addr} {B : Bk} {ts : List (Addr × Addr)} {H0 : AH} (hl : ts.length = B.rs.length) (h : H r = some (.list (ts.map fun t => AV.ref t.1)))
  (ht : ∀ (k : Nat) t, ts[k]? = some t → ∃ u, B.rs[k]? = some u ∧ H t.1 = some (.tuple [.int u.1, .ref t.2]) ∧ LS H t.2 u.2.2 ∧ H0 t.1 = none ∧ H0 t.2 = none) : NR H r B.num := by
 refine ⟨ts, h, NAll.of (by rw [hl]; exact (List.length_map _).symm) fun k t u e1 e2 => ?_⟩
 obtain ⟨w, h1, h2, h3, _⟩ := ht k t e1
 unfold Bk.num at e2
 rw [List.getElem?_map, h1] at e2; cases e2
 exact ⟨h2, h3⟩
noncomputable def numbered (F : List (List Str)) : List (Int × List Str) := F.zipIdx.map fun p => ((p.2 : Int), p.1)
end Mine
end
-- text B7
section
namespace Mine
open PySem
set_option maxRecDepth 10000
noncomputable abbrev Turn (B : Bk) (H K : AH) : Prop := Chg H K (fun x => x = B.d ∨ x = B.k)
theorem Chg.at {H K : AH} {B : Bk} {x : Addr} {o : AO} (c : Turn B H K) (hB : BookAt H B) (h : H x = some o) (n1 : ∀ e, o ≠ .attrs e) (n2 : ∀ e, o ≠ .idict e) : K x = some o := c.keep x _ (by
 rintro (rfl | rfl)
 ·exact n1 _ (Option.some.inj (h.symm.trans hB.attrs))
 ·exact n2 _ (Option.some.inj (h.symm.trans hB.kept))) h
theorem Chg.lst {H K : AH} {B : Bk} {x : Addr} {xs : List AV} (c : Turn B H K) (hB : BookAt H B) (h : H x = some (.list xs)) : K x = some (.list xs) := c.at hB h (fun e q => by cases q) fun e q => by cases q
theorem Chg.tup {H K : AH} {B : Bk} {x : Addr} {xs : List AV} (c : Turn B H K) (hB : BookAt H B) (h : H x = some (.tuple xs)) : K x = some (.tuple xs) := c.at hB h (fun e q => by cases q) fun e q => by cases q
theorem Chg.lall {H K : AH} {B : Bk} {as : List Addr} {F : List (List Str)} (c : Turn B H K) (hB : BookAt H B) (h : LAll H as F) : LAll K as F := by
 induction h with
 | nil => exact .nil
 | cons x _ ih => exact .cons (c.lst hB x) ih
theorem Chg.ll {H K : AH} {B : Bk} {a : Addr} {F : List (List Str)} (c : Turn B H K) (hB : BookAt H B) (h : LL H a F) : LL K a F := by
 obtain ⟨as, h1, h2⟩ := h
 exact ⟨as, c.lst hB h1, c.lall hB h2⟩
theorem Chg.nall {H K : AH} {B : Bk} {ts : List (Addr × Addr)} {L : List (Int × List Str)} (c : Turn B H K) (hB : BookAt H B) (h : NAll H ts L) : NAll K ts L := by
 induction h with
 | nil => exact .nil
 | cons h1 h2 _ ih => exact .cons (c.tup hB h1) (c.lst hB h2) ih
theorem Chg.nr {H K : AH} {B : Bk} {a : Addr} {L : List (Int × List Str)} (c : Turn B H K) (hB : BookAt H B) (h : NR H a L) : NR K a L := by
 obtain ⟨ts, h1, h2⟩ := h
 exact ⟨ts, c.lst hB h1, c.nall hB h2⟩
theorem Chg.bk {H K : AH} {B D : Bk} (c : Turn B H K) (hB : BookAt H B) (h : BookAt H D) (n1 : D.d ≠ B.d) (n2 : D.k ≠ B.k) : BookAt K D :=
 ⟨c.at hB h.inst (fun e q => by cases q) (fun e q => by cases q), c.keep _ _ (by
  rintro (q | q)
  ·exact n1 q
  ·have := h.attrs; rw [q, hB.kept] at this; cases this) h.attrs, c.keep _ _ (by
  rintro (q | q)
  ·have := h.kept; rw [q, hB.attrs] at this; cases this
  ·exact n2 q) h.kept, fun r hr => c.lst hB (h.rows r hr), h.inc, h.lt, h.nm, h.ris, h.len, h.rl, h.few⟩
end Mine
end
-- text P11
section
namespace Mine
open PySem
set_option maxRecDepth 10000
theorem seq_k {t u : Ts} {m : Mp} {H : AH} {QN : Mp → AH → Prop} {QR : QV} {X : QX} (h : t m H (fun m1 H1 => u m1 H1 QN QR X) QR X) : tSeq t u m H QN QR X := h
theorem skip_k {m : Mp} {H : AH} {QN : Mp → AH → Prop} {QR : QV} {X : QX} (h : QN m H) : tSkip m H QN QR X := h
theorem nil_k {c : Bool} {m : Mp} {H : AH} {Q : Bool → AH → Prop} {X : QX} (h : Q c H) : tBoolNil c m H Q X := h
theorem sp_is : Str.ofString " " = sp := by decide +kernel
theorem nl_is : Str.ofString "\n" = nl := by decide +kernel
theorem dash_is : Str.ofString "-" = dash := by decide +kernel
theorem empty_is : Str.ofString "" = ⟨#[]⟩ := by decide +kernel
theorem eq_str {H : AH} {x y : Str} {Q : Bool → AH → Prop} (h : Q (decide (x = y)) H) : aEq (.str x) (.str y) H Q :=
 ⟨_, _, .str x, .str y, by simp [PyData.depth], by simp [PyData.depth], by
  have : PyData.eqv (.str x) (.str y) = decide (x = y) := by
   simp only [PyData.eqv]
   by_cases e : x = y <;> simp [e]
  rw [this]; exact h⟩
inductive F_line_ofK (vs : List AV) (H : AH) (Q : QV) : Prop
 | mk (a : Addr) (xs : List Str) : vs = [.ref a] → LS H a xs → (xs.map (·.length)).sum + xs.length ≤ 1000000 → (∀ H', Sub H H' → Q (.str (lineR xs)) H') → F_line_ofK vs H Q
noncomputable def F_line_of : Fn := fun vs H Q _ => F_line_ofK vs H Q
inductive F_text_ofK (vs : List AV) (H : AH) (Q : QV) : Prop
 | mk (B : Bk) : vs = [.ref B.a] → BookAt H B → (∀ H', Sub H H' → Q (.str (textR B.sets)) H') → F_text_ofK vs H Q
noncomputable def F_text_of : Fn := fun vs H Q _ => F_text_ofK vs H Q
inductive F_row_ofK (vs : List AV) (H : AH) (Q : QV) : Prop
 | mk (l : Str) : vs = [.str l] → l.length ≤ 1000000 → (∀ r H', Sub H H' → H r = none → LS H' r (rowL l) → Q (.ref r) H') → F_row_ofK vs H Q
noncomputable def F_row_of : Fn := fun vs H Q _ => F_row_ofK vs H Q
noncomputable def T_line_of : Ts := (tSeq (tIte (tCmpB aEq (tLoc 0) (tList tNil)) (tSeq (tRet (tVal (.str (Str.ofString "-")))) tSkip) tSkip) (tSeq (tRet (tMeth "str" bJoin (tVal (.str (Str.ofString " "))) (tCons (tLoc 0) tNil))) tSkip))
noncomputable def is_line_of : List Nat := [0]
noncomputable def T_text_of : Ts := (tSeq (tRet (tMeth "str" bJoin (tVal (.str (Str.ofString "\n"))) (tCons (tComp (tMcall (Str.ofString "rows") F_b_rows (tLoc 0) tNil) 1 (tBoolNil true) (tCall F_line_of (tCons (tItem (tLoc 1) (tVal (.int 1))) tNil))) tNil))) tSkip)
noncomputable def is_text_of : List Nat := [0]
noncomputable def T_row_of : Ts := (tSeq (tIte (tCmpB aEq (tLoc 0) (tVal (.str (Str.ofString "-")))) (tSeq (tRet (tList tNil)) tSkip) tSkip) (tSeq (tRet (tMeth "str" bSplit (tLoc 0) (tCons (tVal (.str (Str.ofString " "))) tNil))) tSkip))
noncomputable def is_row_of : List Nat := [0]
theorem ok_line_of (vs : List AV) (H : AH) (Q : QV) (X : QX) (h : F_line_of vs H Q X) : mkFn is_line_of T_line_of vs H Q X := by
 obtain ⟨a, xs, rfl, ha, hl, fin⟩ := h
 refine ⟨rfl, _, rfl, Nat.zero_le _, fun z hz => ?_⟩
 have sz := Sub.add hz (.list [])
 refine eq_LS (xs := xs) (ys := []) (sz _ _ ha) (put_get _ _ _) ?_
 by_cases e : xs = []
 ·rw [decide_eq_true e]
  refine ite_t ?_
  have := fin _ sz
  unfold lineR at this
  rw [if_pos e, ← dash_is] at this
  exact this
 ·rw [decide_eq_false e]
  refine ite_f (skip_k (seq_k ⟨.str _, _, rfl, Str.ofString " ", a, xs, rfl, sz _ _ ha, ?_, ?_⟩))
  ·have : (Str.ofString " ").length = 1 := by decide +kernel
   rw [this]; omega
  ·have := fin _ sz
   unfold lineR at this
   rw [if_neg e, ← sp_is] at this
   exact this
theorem ok_row_of (vs : List AV) (H : AH) (Q : QV) (X : QX) (h : F_row_of vs H Q X) : mkFn is_row_of T_row_of vs H Q X := by
 obtain ⟨l, rfl, hl, fin⟩ := h
 refine ⟨rfl, _, rfl, val_k (eq_str ?_)⟩
 rw [dash_is]
 by_cases e : l = dash
 ·rw [decide_eq_true e]
  refine ite_t (seq_k ⟨Nat.zero_le _, fun r hr => fin r _ (Sub.add hr _) hr ?_⟩)
  show (AH.put _ _ _) r = _
  unfold rowL
  rw [put_get, if_pos e]; rfl
 ·rw [decide_eq_false e]
  refine ite_f (skip_k (seq_k ⟨_, rfl, .str _, l, 32, by rw [sp_is], by decide, hl, fun r hr => fin r _ (Sub.add hr _) hr ?_⟩))
  show (AH.put _ _ _) r = _
  unfold rowL
  rw [put_get, if_neg e]; rfl
theorem sum_le {n : Nat} : ∀ {xs : List Nat}, (∀ x ∈ xs, x ≤ n) → xs.sum ≤ xs.length * n
 | [], _ => by simp
 | x :: r, h => by
  have h1 := h x (.head _)
  have h2 := sum_le (xs := r) fun y hy => h y (.tail _ hy)
  rw [List.sum_cons, List.length_cons, Nat.add_mul, Nat.one_mul]; omega
theorem names_sum {xs : List Str} (h : ∀ n ∈ xs, n.length ≤ 8) : (xs.map (·.length)).sum ≤ xs.length * 8 := by
 have := sum_le (n := 8) (xs := xs.map (·.length)) fun x hx => by
  obtain ⟨n, hn, rfl⟩ := List.mem_map.mp hx
  exact h n hn
 rwa [List.length_map] at this
theorem lineR_len {xs : List Str} (h : ∀ n ∈ xs, n.length ≤ 8) : (lineR xs).length ≤ xs.length * 9 + 1 := by
 unfold lineR
 split
 ·show 1 ≤ _; omega
 ·have h1 := StrLaws.join_length_le sp xs
  have h2 := names_sum h
  have h3 : sp.length = 1 := rfl
  rw [h3] at h1
  omega
theorem ok_text_of (vs : List AV) (H : AH) (Q : QV) (X : QX) (h : F_text_of vs H Q X) : mkFn is_text_of T_text_of vs H Q X := by
 obtain ⟨B, rfl, hB, fin⟩ := h
 refine ⟨rfl, .str _, _, rfl, B.a, B.d, _, rfl, hB.inst, hB.attrs, by kernel_rfl, B, rfl, hB, fun ts r0 H0 s0 n0 hl h0 ht => ?_⟩
 refine compJ_sub (kd := .list) (xs := ts.map fun t : Addr × Addr => AV.ref t.1) h0 (fun k y H' => ∃ x, y = .str x ∧ ∃ u, B.rs[k]? = some u ∧ x = lineR u.2.2) ?_ (fun k x H' sb hx Q' hQ => ?_) fun ys H1 s1 hl1 hy r hr => ?_
 ·rintro k y K1 K2 h s
  exact h
 ·rw [List.getElem?_map] at hx
  cases e : ts[k]? with
  | none => rw [e] at hx; cases hx
  | some t =>
   rw [e] at hx; cases hx
   obtain ⟨u, h2, h3, h4, h5⟩ := ht k t e
   have hm := List.mem_of_getElem? h2
   have hr := hB.rl u hm
   have h8 : ∀ n ∈ u.2.2, n.length ≤ 8 := fun n hn => (hB.nm u hm n hn).2.1
   have hsum := names_sum h8
   refine ⟨_, Mp.upd_self _ _ _, _, sb _ _ h3, .ref t.2, rfl, t.2, u.2.2, rfl, sb _ _ h4, by omega, fun H3 s3 => hQ _ _ s3 ⟨_, rfl, u, h2, rfl⟩⟩
 ·obtain ⟨cs, rfl, hcs⟩ := pick AV.str hy
  rw [List.length_map, List.length_map, hl] at hl1
  have e : cs = B.sets.map lineR := by
   apply List.ext_getElem?
   intro k
   unfold Bk.sets
   rw [List.getElem?_map, List.getElem?_map]
   cases q : cs[k]? with
   | none =>
    rw [List.getElem?_eq_none_iff, hl1] at q
    rw [List.getElem?_eq_none_iff.mpr q]; rfl
   | some c =>
    obtain ⟨u, hu, rfl⟩ := hcs k c q
    rw [hu]; rfl
  subst e
  refine ⟨Str.ofString "\n", r, B.sets.map lineR, rfl, put_get _ _ _, ?_, ?_⟩
  ·have h1 : (Str.ofString "\n").length = 1 := by decide +kernel
   have h2 := sum_le (n := 109) (xs := (B.sets.map lineR).map (·.length)) fun x hx => by
    obtain ⟨l, hl, rfl⟩ := List.mem_map.mp hx
    obtain ⟨y, hy, rfl⟩ := List.mem_map.mp hl
    have h3 := hB.set y hy
    have := lineR_len (xs := y) fun n hn => (h3.2.1 n hn).2.1
    have := h3.2.2
    omega
   rw [List.length_map, List.length_map, Bk.sets_len] at h2
   rw [List.length_map, Bk.sets_len, h1]
   have := hB.len
   omega
  ·have := fin _ (s0.trans (s1.trans (Sub.add hr (.list ((B.sets.map lineR).map AV.str)))))
   unfold textR at this
   rw [← nl_is] at this
   exact this
noncomputable def Fit (F : List (List Str)) : Prop := F.length ≤ 30 ∧ (dedup F.flatten).length ≤ 12
inductive F_put_lineK (vs : List AV) (H : AH) (Q : QV) (X : QX) : Prop
 | ok (B : Bk) (l : Str) (names : List Str) : vs = [.ref B.a, .str l] → BookAt H B → l.length ≤ 1000000 → (rowL l).Nodup → (∀ n ∈ rowL l, Nm n) → B.rs.length < 30 → names.length ≤ 12 → (∀ x ∈ B.sets, ∀ n ∈ x, n ∈ names) → (∀ n ∈ rowL l, n ∈ names) →
   (∀ a H', Chg H H' (fun x => x = B.d ∨ x = B.k) → H a = none → BookAt H' (B.more a (sortS (rowL l))) → Q .none H') → F_put_lineK vs H Q X
 | bad (B : Bk) (l : Str) : vs = [.ref B.a, .str l] → BookAt H B → l.length ≤ 1000000 → (rowL l).length < 64 → (∀ n ∈ rowL l, n.length ≤ 1000000) → PutBad B (rowL l) → (∀ H', Sub H H' → X unreadN H') → F_put_lineK vs H Q X
noncomputable def F_put_line : Fn := fun vs H Q X => F_put_lineK vs H Q X
noncomputable def T_put_line : Ts := (tSeq (tTryR (tSeq (tExpr (tMcall (Str.ofString "put") F_b_put (tLoc 0) (tCons (tCall F_row_of (tCons (tLoc 1) tNil)) tNil))) tSkip) [(Str.ofString "BadName"), (Str.ofString "BadRow"), (Str.ofString "TooMany")]) tSkip)
noncomputable def is_put_line : List Nat := [0, 1]
theorem ok_put_line (vs : List AV) (H : AH) (Q : QV) (X : QX) (h : F_put_line vs H Q X) : mkFn is_put_line T_put_line vs H Q X := by
 cases h with
 | ok B l names e hB hl hnd hnm h30 hn12 hs1 hs2 fin =>
  subst e
  refine ⟨rfl, _, rfl, B.a, B.d, _, rfl, hB.inst, hB.attrs, by kernel_rfl, _, rfl, l, rfl, hl, fun r H1 s1 nr hr => .ok B r (rowL l) names rfl (hB.sub s1) hr hnd hnm h30 hn12 hs1 hs2 fun a H2 c2 na hB2 => ⟨fun _ h => (nomatch h), ?_⟩⟩
  exact fin a H2 ((Chg.of_sub s1).trans c2) (s1.new na) hB2
 | bad B l e hB hl h64 h100 hbad fin =>
  subst e
  exact ⟨rfl, _, rfl, B.a, B.d, _, rfl, hB.inst, hB.attrs, by kernel_rfl, _, rfl, l, rfl, hl, fun r H1 s1 nr hr => .bad B r (rowL l) rfl (hB.sub s1) hr h64 h100 hbad fun x H2 hx s2 => ⟨hx, fin H2 (s1.trans s2)⟩⟩
end Mine
end
-- text R11
section
namespace Mine
open PySem
set_option maxRecDepth 10000
noncomputable def GoodT (t : Str) : Prop := ∀ r ∈ rowsT t, (∀ n ∈ r, Nm n) ∧ Ris r
structure TextOK (t : Str) : Prop where
 len : t.length ≤ 100000
 bl : (cl t).count 32 < 62
theorem count_spl {c d : Nat} : ∀ {l : List Nat}, ∀ p ∈ spl c l, p.count d ≤ l.count d
 | [], p, h => by simp [spl] at h; subst h; simp
 | x :: r, p, h => by
  have ih := count_spl (c := c) (d := d) (l := r)
  rw [spl] at h
  split at h
  ·rcases List.mem_cons.mp h with rfl | h
   ·simp
   ·exact Nat.le_trans (ih p h) (List.count_le_count_cons)
  ·split at h
   ·rename_i e; exact absurd e (spl_ne c r)
   ·rename_i p' q' e
    rw [e] at ih
    rcases List.mem_cons.mp h with rfl | h
    ·rw [List.count_cons, List.count_cons]
     have := ih p' (.head _)
     omega
    ·exact Nat.le_trans (ih p (.tail _ h)) (List.count_le_count_cons)
theorem len_spl {c : Nat} : ∀ {l : List Nat}, ∀ p ∈ spl c l, p.length ≤ l.length
 | [], p, h => by simp [spl] at h; subst h; simp
 | x :: r, p, h => by
  have ih := len_spl (c := c) (l := r)
  rw [spl] at h
  split at h
  ·rcases List.mem_cons.mp h with rfl | h
   ·simp
   ·exact Nat.le_succ_of_le (ih p h)
  ·split at h
   ·rename_i e; exact absurd e (spl_ne c r)
   ·rename_i p' q' e
    rw [e] at ih
    rcases List.mem_cons.mp h with rfl | h
    ·exact Nat.succ_le_succ (ih p' (.head _))
    ·exact Nat.le_succ_of_le (ih p (.tail _ h))
theorem len_cl (x : Str) : x.length = (cl x).length := by simp [cl, Str.length]
theorem line_ok {t : Str} (h : TextOK t) : ∀ l ∈ linesT t, l.length ≤ 1000000 ∧ (rowL l).length < 64 ∧ ∀ n ∈ rowL l, n.length ≤ 1000000 := by
 intro l hl
 obtain ⟨p, hp, rfl⟩ := List.mem_map.mp hl
 have h1 := len_spl p hp
 have h2 := count_spl (d := 32) p hp
 have h3 := h.len
 have h4 := h.bl
 rw [len_cl] at h3
 have e : (tx p).length = p.length := by rw [len_cl, cl_tx]
 refine ⟨by rw [e]; omega, ?_, fun n hn => ?_⟩
 ·unfold rowL
  split
  ·simp
  ·rw [List.length_map, cl_tx, spl_len]; omega
 ·unfold rowL at hn
  split at hn
  ·exact nomatch hn
  ·obtain ⟨q, hq, rfl⟩ := List.mem_map.mp hn
   rw [cl_tx] at hq
   have := len_spl q hq
   rw [len_cl, cl_tx]; omega
theorem put_or (B : Bk) (row : List Str) : PutBad B row ∨ ((∀ n ∈ row, Nm n) ∧ row.Nodup ∧ B.rs.length ≠ 30 ∧ (dedup (B.sets.flatten ++ row)).length ≤ 12) := by
 by_cases h1 : ∀ n ∈ row, nmB n = true
 ·by_cases h2 : row.Nodup
  ·by_cases h3 : B.rs.length = 30
   ·exact .inl (.rows h3)
   ·by_cases h4 : 12 < (dedup (B.sets.flatten ++ row)).length
    ·exact .inl (.names h4)
    ·exact .inr ⟨fun n hn => nm_of (h1 n hn), h2, h3, by omega⟩
  ·exact .inl (.twice h2)
 ·refine .inl ?_
  have : ∃ n ∈ row, nmB n = false := Classical.byContradiction fun q => h1 fun n hn => by
   cases e : nmB n with
   | true => rfl
   | false => exact absurd ⟨n, hn, e⟩ q
  obtain ⟨n, hn, e⟩ := this
  exact .name n hn e
theorem ne_str {H : AH} {x y : Str} {Q : Bool → AH → Prop} (h : Q (!decide (x = y)) H) : aNe (.str x) (.str y) H Q :=
 ⟨_, _, .str x, .str y, by simp [PyData.depth], by simp [PyData.depth], by
  have : PyData.eqv (.str x) (.str y) = decide (x = y) := by
   simp only [PyData.eqv]
   by_cases e : x = y <;> simp [e]
  rw [this]; exact h⟩
theorem numbered_get {F : List (List Str)} {k : Nat} : (numbered F)[k]? = (F[k]?).map fun x => ((k : Int), x) := by
 unfold numbered
 rw [List.getElem?_map, List.getElem?_zipIdx]
 cases F[k]? <;> simp
theorem num_of {B : Bk} {F : List (List Str)} (h1 : B.sets = F) (h2 : B.rs.map (·.1) = (List.range F.length).map fun k : Nat => (k : Int)) : B.num = numbered F := by
 apply List.ext_getElem?
 intro k
 unfold Bk.num
 rw [numbered_get, List.getElem?_map]
 have e1 := congrArg (fun l : List (List Str) => l[k]?) h1
 have e2 := congrArg (fun l : List Int => l[k]?) h2
 unfold Bk.sets at e1
 simp only [List.getElem?_map] at e1 e2
 cases q : B.rs[k]? with
 | none => rw [q] at e1; rw [← e1]; rfl
 | some r =>
  rw [q] at e1 e2
  rw [← e1]
  have hk : k < F.length := by
   have := (List.getElem?_eq_some_iff.mp q).1
   rw [← List.length_map (f := (·.1)), h2, List.length_map, List.length_range] at this
   exact this
  rw [List.getElem?_range hk] at e2
  have e3 : r.1 = (k : Int) := by simpa using e2
  show some (r.1, r.2.2) = some ((k : Int), r.2.2)
  rw [e3]
inductive F_readK (vs : List AV) (H : AH) (Q : QV) (X : QX) : Prop
 | txt (t : Str) : vs = [.str t] → TextOK t → (GoodT t → Fit (rowsT t) → ∀ B H', Sub H H' → BookAt H' B → B.num = numbered (rowsT t) → B.c = (rowsT t).length → (∀ x, (x = B.a ∨ x = B.d ∨ x = B.k ∨ ∃ r ∈ B.rs, x = r.2.1) → H x = none) → Q (.ref B.a) H') →
   (¬ (GoodT t ∧ Fit (rowsT t)) → ∀ H', Sub H H' → X unreadN H') → F_readK vs H Q X
 | odd (v : AV) : vs = [v] → aIs "str" v H = some false → (∀ H', Sub H H' → X unreadN H') → F_readK vs H Q X
noncomputable def F_read : Fn := fun vs H Q X => F_readK vs H Q X
noncomputable def T_read : Ts := (tSeq (tIte (tNotB (tTruth (tIsi "str" (tLoc 0)))) (tSeq (tRaise (Str.ofString "Unread") (tCons (tVal (.str (Str.ofString "no text"))) tNil)) tSkip) tSkip) (tSeq (tAssign 1 (tMake F_b_init)) (tSeq (tIte (tCmpB aNe (tLoc 0) (tVal (.str (Str.ofString "")))) (tSeq (tFor (tMeth "str" bSplit (tLoc 0) (tCons (tVal (.str (Str.ofString "\n"))) tNil)) 2 (tSeq (tExpr (tCall F_put_line (tCons (tLoc 1) (tCons (tLoc 2) tNil)))) tSkip)) tSkip) tSkip) (tSeq (tIte (tCmpB aNe (tCall F_text_of (tCons (tLoc 1) tNil)) (tLoc 0)) (tSeq (tRaise (Str.ofString "Unread") (tCons (tVal (.str (Str.ofString "names that do not rise"))) tNil)) tSkip) tSkip) (tSeq (tRet (tLoc 1)) tSkip)))))
noncomputable def is_read : List Nat := [0]
theorem sets_bad {B : Bk} {F : List (List Str)} {k : Nat} {row : List Str} (hs : B.sets = (F.take k).map sortS) (hrow : F[k]? = some row) (hl : B.rs.length = k) (hf : Fit F) (hg : ∀ r ∈ F, (∀ n ∈ r, Nm n) ∧ Ris r) : ¬ PutBad B row := by
 intro h
 have hm := List.mem_of_getElem? hrow
 have hk := (List.getElem?_eq_some_iff.mp hrow).1
 cases h with
 | name n hn e => rw [((hg row hm).1 n hn).nmB] at e; cases e
 | twice q => exact q (hg row hm).2.nodup
 | rows q => have := hf.1; omega
 | names q =>
  have := nodup_len (x := dedup F.flatten) (dedup_is_nodup (B.sets.flatten ++ row)) fun n hn => by
   refine mem_dedup.mpr (List.mem_flatten.mpr ?_)
   rcases List.mem_append.mp (mem_dedup.mp hn) with h | h
   ·obtain ⟨x, hx, hnx⟩ := List.mem_flatten.mp h
    rw [hs] at hx
    obtain ⟨y, hy, rfl⟩ := List.mem_map.mp hx
    exact ⟨y, List.mem_of_mem_take hy, mem_sortS.mp hnx⟩
   ·exact ⟨row, hm, h⟩
  have := hf.2
  omega
theorem map_sort_ris {F : List (List Str)} (h : ∀ r ∈ F, Ris r) : F.map sortS = F := by
 rw [List.map_congr_left (g := id) fun x hx => (h x hx).sort, List.map_id]
theorem read_end {t : Str} {H H' : AH} {m : Mp} {B : Bk} {Q : QV} {X : QX} {QN : Mp → AH → Prop} (v0 : m 0 = some (.str t)) (v1 : m 1 = some (.ref B.a)) (J : JB H (rowsT t) B (rowsT t).length H') (hg : ∀ r ∈ rowsT t, (∀ n ∈ r, Nm n) ∧ r.Nodup)
  (fin : GoodT t → Fit (rowsT t) → ∀ B H', Sub H H' → BookAt H' B → B.num = numbered (rowsT t) → B.c = (rowsT t).length → (∀ x, (x = B.a ∨ x = B.d ∨ x = B.k ∨ ∃ r ∈ B.rs, x = r.2.1) → H x = none) → Q (.ref B.a) H') (bad : ¬ (GoodT t ∧ Fit (rowsT t)) → ∀ H', Sub H H' → X unreadN H') :
  (tSeq (tIte (tCmpB aNe (tCall F_text_of (tCons (tLoc 1) tNil)) (tLoc 0)) (tSeq (tRaise (Str.ofString "Unread") (tCons (tVal (.str (Str.ofString "names that do not rise"))) tNil)) tSkip) tSkip) (tSeq (tRet (tLoc 1)) tSkip)) m H' QN Q X := by
 have hs := J.sets
 rw [List.take_length] at hs
 refine seq_k ⟨_, v1, B, rfl, J.book, fun H2 s2 => ⟨_, v0, ne_str ?_⟩⟩
 rw [hs]
 by_cases g : GoodT t
 ·have e : (rowsT t).map sortS = rowsT t := map_sort_ris fun r hr => (g r hr).2
  rw [e, textR_rowsT, decide_eq_true rfl]
  refine ite_f (skip_k (seq_k ⟨_, v1, ?_⟩))
  rw [e] at hs
  have fit : Fit (rowsT t) := by
   refine ⟨?_, ?_⟩
   ·rw [← hs, Bk.sets_len]; exact J.book.len
   ·rw [← hs]; exact J.book.few12
  exact fin g fit B H2 (J.sub.trans s2) (J.book.sub s2) (num_of hs J.num) J.c J.new
 ·have ne : textR ((rowsT t).map sortS) ≠ t := fun q => g fun r hr => ⟨(hg r hr).1, text_sorted hg q r hr⟩
  rw [decide_eq_false ne]
  exact ite_t ⟨by decide, bad (fun q => g q.1) _ (J.sub.trans s2)⟩
theorem ok_read (vs : List AV) (H : AH) (Q : QV) (X : QX) (h : F_read vs H Q X) : mkFn is_read T_read vs H Q X := by
 cases h with
 | odd v e hv bad =>
  subst e
  exact ⟨rfl, _, rfl, false, hv, false, rfl, by decide, bad _ (.refl _)⟩
 | txt t e ht fin bad =>
  subst e
  refine ⟨rfl, _, rfl, true, isi_str, true, rfl, ?_⟩
  intro x d hx hd ne
  have s1 := (Sub.add hd (.attrs [])).put (.inst d) hx
  refine ⟨x, d, rfl, put_get _ _ _, (AH.put_ne _ _ (Ne.symm ne)).trans (put_get _ _ _), ne, fun k0 H1 hk0 c1 hB1 => ⟨rfl, ?_⟩⟩
  have k0n : H k0 = none := s1.new hk0
  have sH1 : Sub H H1 := fun y o e => c1.keep y o (fun q => by rw [q, hd] at e; cases e) (s1 _ _ e)
  have new0 : ∀ y, (y = x ∨ y = d ∨ y = k0 ∨ ∃ r ∈ ([] : List (Int × Addr × List Str)), y = r.2.1) → H y = none := by
   rintro y (rfl | rfl | rfl | ⟨r, hr, _⟩)
   ·exact hx
   ·exact hd
   ·exact k0n
   ·exact nomatch hr
  refine seq_k ⟨_, rfl, val_k (ne_str ?_)⟩
  rw [empty_is]
  by_cases e0 : t = ⟨#[]⟩
  ·rw [decide_eq_true e0]
   have er : rowsT t = [] := if_pos e0
   refine ite_f (skip_k ?_)
   refine read_end (B := ⟨x, d, k0, [], 0⟩) rfl rfl ?_ (fun r hr => by rw [er] at hr; exact nomatch hr) fin bad
   rw [er]
   exact ⟨sH1, hB1, rfl, rfl, rfl, new0⟩
  ·rw [decide_eq_false e0]
   have er : rowsT t = (linesT t).map rowL := if_neg e0
   have hll : (rowsT t).length = (linesT t).length := by rw [er, List.length_map]
   refine ite_t (seq_k ⟨_, rfl, .str _, t, 10, by rw [nl_is], by decide, by have := ht.len; omega, fun rl hrl => ?_⟩)
   have sl := Sub.add hrl (.list ((linesT t).map AV.str))
   have gl : LS (H1.put rl (.list ((linesT t).map AV.str))) rl (linesT t) := put_get _ _ _
   refine ⟨.list, (linesT t).map AV.str, gl, fun k m' H' => ∃ B : Bk, m' 0 = some (.str t) ∧ m' 1 = some (.ref B.a) ∧ LS H' rl (linesT t) ∧ JB H (rowsT t) B k H' ∧ (∀ r ∈ (rowsT t).take k, (∀ n ∈ r, Nm n) ∧ r.Nodup), ⟨⟨x, d, k0, [], 0⟩, rfl, rfl, gl, ⟨sH1.trans sl, hB1.sub sl, by simp [Bk.sets], rfl, rfl, new0⟩, fun r hr => by simp at hr⟩, ?_⟩
   rintro k m' H' ⟨B, v0, v1, gl', J, hg⟩ hk
   rw [List.length_map] at hk
   refine ⟨gl', fun y hy => ?_, fun e => ?_⟩
   ·obtain ⟨l, hl, rfl⟩ := getElem?_strs hy
    have hrow : (rowsT t)[k]? = some (rowL l) := by rw [er, List.getElem?_map, hl]; rfl
    have hlo := line_ok ht l (List.mem_of_getElem? hl)
    have hBl : B.rs.length = k := by rw [← List.length_map (f := (·.1)), J.num]; simp
    have hlen := J.book.len
    refine ⟨_, (Mp.upd_ne _ _ (by decide)).trans v1, _, Mp.upd_self _ _ _, ?_⟩
    rcases put_or B (rowL l) with hb | ⟨h1, h2, h3, h4⟩
    ·exact .bad B l rfl J.book hlo.1 hlo.2.1 hlo.2.2 hb fun H2 s2 => bad (fun q => sets_bad J.sets hrow hBl q.2 q.1 hb) H2 (J.sub.trans s2)
    ·refine .ok B l (dedup (B.sets.flatten ++ rowL l)) rfl J.book hlo.1 h2 h1 (by omega) h4 (fun x hx n hn => mem_dedup.mpr (List.mem_append.mpr (.inl (List.mem_flatten.mpr ⟨x, hx, hn⟩)))) (fun n hn => mem_dedup.mpr (List.mem_append.mpr (.inr hn))) fun a H2 c2 na hB2 => ⟨fun _ h => (nomatch h), ?_⟩
     refine ⟨B.more a (sortS (rowL l)), (Mp.upd_ne _ _ (by decide)).trans v0, (Mp.upd_ne _ _ (by decide)).trans v1, c2.lst J.book gl', J.more (.refl _) hrow c2 na hB2, fun r hr => ?_⟩
     rw [List.take_add_one, hrow] at hr
     rcases List.mem_append.mp hr with hr | hr
     ·exact hg r hr
     ·rw [show r = rowL l by simpa using hr]; exact ⟨h1, h2⟩
   ·have ek : k = (rowsT t).length := by rw [e, List.length_map, hll]
    subst ek
    rw [List.take_length] at hg
    exact read_end v0 v1 J hg fin bad
end Mine
end
-- text Q11
section
namespace Mine
open PySem
set_option maxRecDepth 10000
inductive F_l_textK (vs : List AV) (H : AH) (Q : QV) : Prop
 | mk (a : Addr) (F : List (List Str)) : vs = [.ref a] → LL H a F → F.length ≤ 100 → (∀ r ∈ F, r.length ≤ 40 ∧ ∀ n ∈ r, n.length ≤ 8) → (∀ H', Sub H H' → Q (.str (textR (F.map sortS))) H') → F_l_textK vs H Q
noncomputable def F_l_text : Fn := fun vs H Q _ => F_l_textK vs H Q
inductive F_l_is_nameK (vs : List AV) (H : AH) (Q : QV) : Prop
 | mk (x : Str) : vs = [.str x] → x.length ≤ 1000000 → (∀ H', Sub H H' → Q (.bool (nmB x)) H') → F_l_is_nameK vs H Q
noncomputable def F_l_is_name : Fn := fun vs H Q _ => F_l_is_nameK vs H Q
inductive F_l_refusedK (vs : List AV) (H : AH) (Q : QV) : Prop
 | txt (t : Str) : vs = [.str t] → TextOK t → ¬ (GoodT t ∧ Fit (rowsT t)) → (∀ H', Sub H H' → Q (.bool true) H') → F_l_refusedK vs H Q
 | odd (v : AV) : vs = [v] → aIs "str" v H = some false → (∀ H', Sub H H' → Q (.bool true) H') → F_l_refusedK vs H Q
noncomputable def F_l_refused : Fn := fun vs H Q _ => F_l_refusedK vs H Q
noncomputable def T_l_text : Ts := (tSeq (tRet (tMeth "str" bJoin (tVal (.str (Str.ofString "\n"))) (tCons (tComp (tLoc 0) 1 (tBoolNil true) (tIf (tCmpB aNe (tLoc 1) (tList tNil)) (tMeth "str" bJoin (tVal (.str (Str.ofString " "))) (tCons (tBcall bSorted (tCons (tLoc 1) tNil)) tNil)) (tVal (.str (Str.ofString "-"))))) tNil))) tSkip)
noncomputable def is_l_text : List Nat := [0]
noncomputable def T_l_is_name : Ts := (tSeq (tIte (tNotB (tChain aLe aLe (tVal (.int 1)) (tBcall bLen (tCons (tLoc 0) tNil)) (tVal (.int 8)))) (tSeq (tRet (tVal (.bool false))) tSkip) tSkip) (tSeq (tRet (tCmp aEq (tComp (tLoc 0) 1 (tCmpB aNotIn (tLoc 1) (tVal (.str (Str.ofString "abcdefghijklmnopqrstuvwxyz")))) (tLoc 1)) (tList tNil))) tSkip))
noncomputable def is_l_is_name : List Nat := [0]
noncomputable def T_l_refused : Ts := (tSeq (tTry (tSeq (tExpr (tCall F_read (tCons (tLoc 0) tNil))) tSkip) [(Str.ofString "Unread")] 1 (tSeq (tIte (tTruth (tIsiX [((Str.ofString "Unread"), false)] (tLoc 1))) (tSeq (tRet (tVal (.bool false))) tSkip) tSkip) (tSeq (tRet (tAndV (tIsiX [((Str.ofString "Unread"), true)] (tLoc 1)) (tIsiX [((Str.ofString "Unread"), true)] (tLoc 1)))) tSkip))) (tSeq (tRet (tVal (.bool false))) tSkip))
noncomputable def is_l_refused : List Nat := [0]
theorem ok_l_text (vs : List AV) (H : AH) (Q : QV) (X : QX) (h : F_l_text vs H Q X) : mkFn is_l_text T_l_text vs H Q X := by
 obtain ⟨a, F, rfl, ⟨as, ha, hA⟩, hl, hF, fin⟩ := h
 refine ⟨rfl, .str _, _, rfl, ?_⟩
 refine compJ_sub (kd := .list) (xs := as.map AV.ref) ha (fun k y H' => ∃ x, y = .str x ∧ ∃ g, F[k]? = some g ∧ x = lineR (sortS g)) ?_ (fun k x H' sb hx Q' hQ => ?_) fun ys H1 s1 hl1 hy r hr => ?_
 ·rintro k y K1 K2 h s
  exact h
 ·obtain ⟨c, hc, rfl⟩ := getElem?_refs hx
  obtain ⟨g, hg, hcg⟩ := hA.get hc
  have hm := List.mem_of_getElem? hg
  have g40 := (hF g hm).1
  have g8 := (hF g hm).2
  refine ⟨_, Mp.upd_self _ _ _, Nat.zero_le _, fun z hz => ?_⟩
  have sz := Sub.add hz (.list [])
  refine ne_LS (xs := g) (ys := []) (sz _ _ (sb _ _ hcg)) (put_get _ _ _) ?_
  by_cases e : g = []
  ·rw [decide_eq_true e]
   refine ite_f (val_k ?_)
   have : Q' (.str (lineR (sortS g))) _ := hQ _ _ sz ⟨_, rfl, g, hg, rfl⟩
   rw [e, show sortS ([] : List Str) = [] from rfl] at this
   unfold lineR at this
   rw [if_pos rfl, ← dash_is] at this
   exact this
  ·rw [decide_eq_false e]
   have ne : sortS g ≠ [] := fun q => e (List.eq_nil_of_length_eq_zero (by rw [← sortS_len, q]; rfl))
   refine ite_t ⟨.str _, _, Mp.upd_self _ _ _, c, _, rfl, sz _ _ (sb _ _ hcg), g, rfl, by omega, fun r hr => ?_⟩
   have sr := Sub.add hr (.list ((sortS g).map AV.str))
   refine ⟨Str.ofString " ", r, sortS g, rfl, put_get _ _ _, ?_, ?_⟩
   ·have h1 : (Str.ofString " ").length = 1 := by decide +kernel
    have h2 := names_sum (xs := sortS g) fun n hn => g8 n (mem_sortS.mp hn)
    rw [sortS_len] at h2
    rw [sortS_len, h1]; omega
   ·have : Q' (.str (lineR (sortS g))) _ := hQ _ _ (sz.trans sr) ⟨_, rfl, g, hg, rfl⟩
    unfold lineR at this
    rw [if_neg ne, ← sp_is] at this
    exact this
 ·obtain ⟨cs, rfl, hcs⟩ := pick AV.str hy
  rw [List.length_map, List.length_map, hA.length] at hl1
  have e : cs = (F.map sortS).map lineR := by
   apply List.ext_getElem?
   intro k
   rw [List.getElem?_map, List.getElem?_map]
   cases q : cs[k]? with
   | none =>
    rw [List.getElem?_eq_none_iff, hl1] at q
    rw [List.getElem?_eq_none_iff.mpr q]; rfl
   | some c =>
    obtain ⟨g, hg, rfl⟩ := hcs k c q
    rw [hg]; rfl
  subst e
  refine ⟨Str.ofString "\n", r, (F.map sortS).map lineR, rfl, put_get _ _ _, ?_, ?_⟩
  ·have h1 : (Str.ofString "\n").length = 1 := by decide +kernel
   have h2 := sum_le (n := 361) (xs := ((F.map sortS).map lineR).map (·.length)) fun x hx => by
    obtain ⟨l, hl, rfl⟩ := List.mem_map.mp hx
    obtain ⟨y, hy, rfl⟩ := List.mem_map.mp hl
    obtain ⟨w, hw, rfl⟩ := List.mem_map.mp hy
    have := lineR_len (xs := sortS w) fun n hn => (hF w hw).2 n (mem_sortS.mp hn)
    rw [sortS_len] at this
    have := (hF w hw).1
    omega
   rw [List.length_map, List.length_map, List.length_map] at h2
   rw [List.length_map, List.length_map, h1]
   omega
  ·have := fin _ (s1.trans (Sub.add hr (.list (((F.map sortS).map lineR).map AV.str))))
   unfold textR at this
   rw [← nl_is] at this
   exact this
theorem ok_l_refused (vs : List AV) (H : AH) (Q : QV) (X : QX) (h : F_l_refused vs H Q X) : mkFn is_l_refused T_l_refused vs H Q X := by
 have hand : ∀ {H' : AH}, Sub H H' → (∀ H2, Sub H H2 → Q (.bool true) H2) → Hand [Str.ofString "Unread"] 1 (tSeq (tIte (tTruth (tIsiX [((Str.ofString "Unread"), false)] (tLoc 1))) (tSeq (tRet (tVal (.bool false))) tSkip) tSkip) (tSeq (tRet (tAndV (tIsiX [((Str.ofString "Unread"), true)] (tLoc 1)) (tIsiX [((Str.ofString "Unread"), true)] (tLoc 1)))) tSkip)) Q unreadN H' := fun {H'} sb fin => by
  refine ⟨.head _, fun e he => ?_⟩
  have se := Sub.add he (.exc unreadN)
  refine ⟨_, Mp.upd_self _ _ _, e, _, false, rfl, put_get _ _ _, by simp [unreadN], false, rfl, ?_⟩
  refine ⟨_, Mp.upd_self _ _ _, e, _, true, rfl, put_get _ _ _, by simp [unreadN], true, rfl, ite_t ?_⟩
  exact ⟨_, Mp.upd_self _ _ _, e, _, true, rfl, put_get _ _ _, by simp [unreadN], fin _ (sb.trans se)⟩
 cases h with
 | txt t e ht hb fin =>
  subst e
  exact ⟨rfl, _, rfl, .txt t rfl ht (fun g f => absurd ⟨g, f⟩ hb) fun _ H' sb => hand sb fin⟩
 | odd v e hv fin =>
  subst e
  exact ⟨rfl, _, rfl, .odd v rfl hv fun H' sb => hand sb fin⟩
theorem notIn_str {x y : Str} {H : AH} {Q : Bool → AH → Prop} (h : Q (!(Txt.contains y x)) H) : aNotIn (.str x) (.str y) H Q := h
theorem ok_l_is_name (vs : List AV) (H : AH) (Q : QV) (X : QX) (h : F_l_is_name vs H Q X) : mkFn is_l_is_name T_l_is_name vs H Q X := by
 obtain ⟨x, rfl, hl, h⟩ := h
 have hz : x.length ≤ sizeLine := by rw [sizeLine_is]; omega
 refine ⟨rfl, _, rfl, _, rfl, hz, le_k ?_⟩
 by_cases h1 : 1 ≤ x.length
 ·rw [decide_eq_true (show (1 : Int) ≤ x.length by omega)]
  refine ite_t (val_k (le_k ?_))
  by_cases h2 : x.length ≤ 8
  ·rw [decide_eq_true (show (x.length : Int) ≤ 8 by omega)]
   refine ite_f (skip_k (seq_k ⟨_, rfl, ?_⟩))
   have hs : x.cps.size ≤ 1048576 := by have : x.length = x.cps.size := rfl; omega
   refine ⟨.str, signs x, ⟨rfl, hs⟩, fun k ys H' => H' = H ∧ ys = (((x.cps.toList.take k).filter fun c => !(Txt.contains alph ⟨#[c]⟩)).map fun c => (⟨#[c]⟩ : Str)).map AV.str, ⟨rfl, by simp⟩, ?_⟩
   rintro k ys H' ⟨rfl, rfl⟩ hk
   refine ⟨⟨rfl, hs⟩, fun y hy => ?_, fun e r hr => ?_⟩
   ·unfold signs at hy
    rw [List.getElem?_map] at hy
    cases q : x.cps.toList[k]? with
    | none => rw [q] at hy; cases hy
    | some c =>
     rw [q] at hy; cases hy
     have ef : (x.cps.toList.take (k + 1)).filter (fun c => !(Txt.contains alph ⟨#[c]⟩)) = (x.cps.toList.take k).filter (fun c => !(Txt.contains alph ⟨#[c]⟩)) ++ (if (!(Txt.contains alph ⟨#[c]⟩)) = true then [c] else []) := by
      rw [List.take_add_one, q, List.filter_append]
      cases w : Txt.contains alph ⟨#[c]⟩ <;> simp [List.filter, w]
     refine ⟨_, Mp.upd_self _ _ _, val_k (notIn_str (ite_intro _ (fun w => ?_) fun w => ?_))⟩
     ·have w' : (!(Txt.contains alph ⟨#[c]⟩)) = true := w
      refine ⟨_, Mp.upd_self _ _ _, rfl, ?_⟩
      rw [ef, if_pos w', List.map_append, List.map_append]; rfl
     ·have w' : (!(Txt.contains alph ⟨#[c]⟩)) = false := w
      refine ⟨rfl, ?_⟩
      rw [ef, if_neg (by rw [w']; decide), List.append_nil]
   ·unfold signs at e
    rw [List.length_map] at e
    rw [e, List.take_length]
    have sr := Sub.add hr (.list (((x.cps.toList.filter fun c => !(Txt.contains alph ⟨#[c]⟩)).map fun c => (⟨#[c]⟩ : Str)).map AV.str))
    refine ⟨Nat.zero_le _, fun z hz => ?_⟩
    have sz := Sub.add hz (.list [])
    refine eq_LS (xs := (x.cps.toList.filter fun c => !(Txt.contains alph ⟨#[c]⟩)).map fun c => (⟨#[c]⟩ : Str)) (ys := []) (sz _ _ (put_get _ _ _)) (put_get _ _ _) ?_
    have e2 : decide (((x.cps.toList.filter fun c => !(Txt.contains alph ⟨#[c]⟩)).map fun c => (⟨#[c]⟩ : Str)) = []) = nmB x := by
     unfold nmB
     rw [decide_eq_true h1, decide_eq_true h2, Bool.true_and, Bool.true_and]
     cases w : x.cps.toList.all fun c => Txt.contains alph ⟨#[c]⟩ with
     | true =>
      refine decide_eq_true ?_
      rw [List.filter_eq_nil_iff.mpr fun c hc => by rw [List.all_eq_true.mp w c hc]; decide]; rfl
     | false =>
      refine decide_eq_false fun q => ?_
      have := List.filter_eq_nil_iff.mp (List.map_eq_nil_iff.mp q)
      have w2 : (x.cps.toList.all fun c => Txt.contains alph ⟨#[c]⟩) = true := List.all_eq_true.mpr fun c hc => by
       have := this c hc
       simpa using this
      rw [w] at w2; cases w2
    rw [e2]
    exact h _ (sr.trans sz)
  ·rw [decide_eq_false (show ¬ (x.length : Int) ≤ 8 by omega)]
   have e : nmB x = false := by unfold nmB; rw [decide_eq_false h2]; simp
   rw [e] at h
   exact ite_t (seq_k (h _ (.refl _)))
 ·rw [decide_eq_false (show ¬ (1 : Int) ≤ x.length by omega)]
  have e : nmB x = false := by unfold nmB; rw [decide_eq_false h1]; simp
  rw [e] at h
  exact ite_f (ite_t (seq_k (h _ (.refl _))))
end Mine
end
-- text V11
section
namespace Mine
open PySem
set_option maxRecDepth 10000
inductive F_l_rightK (vs : List AV) (H : AH) (Q : QV) : Prop
 | mk (t : Str) (ar : Addr) (F : List (List Str)) : vs = [.str t, .ref ar] → TextOK t → GoodT t → Fit (rowsT t) → LL H ar F → F.map sortS = rowsT t → (∀ r ∈ F, r.length < 64) → (∀ H', Sub H H' → Q (.bool true) H') → F_l_rightK vs H Q
noncomputable def F_l_right : Fn := fun vs H Q _ => F_l_rightK vs H Q
noncomputable def T_l_right : Ts := (tSeq (tAssign 2 (tCall F_read (tCons (tLoc 0) tNil))) (tSeq (tAssign 3 (tComp (tBcall bRange (tCons (tBcall bLen (tCons (tLoc 1) tNil)) tNil)) 4 (tBoolNil true) (tTuple (tCons (tLoc 4) (tCons (tBcall bSorted (tCons (tItem (tLoc 1) (tLoc 4)) tNil)) tNil))))) (tSeq (tIte (tNotB (tTruth (tIsiB (tLoc 2)))) (tSeq (tRet (tVal (.bool false))) tSkip) tSkip) (tSeq (tRet (tAndV (tCmp aEq (tMcall (Str.ofString "rows") F_b_rows (tLoc 2) tNil) (tLoc 3)) (tCmp aEq (tCall F_text_of (tCons (tLoc 2) tNil)) (tLoc 0)))) tSkip))))
noncomputable def is_l_right : List Nat := [0, 1]
theorem sets_num {B : Bk} {F : List (List Str)} (h : B.num = numbered F) : B.sets = F := by
 have e1 : B.num.map (·.2) = B.sets := by unfold Bk.num Bk.sets; rw [List.map_map]; rfl
 have e2 : (numbered F).map (·.2) = F := by
  unfold numbered
  rw [List.map_map]
  show F.zipIdx.map Prod.fst = F
  rw [List.zipIdx_map_fst]
 rw [← e1, h, e2]
theorem numbered_len (F : List (List Str)) : (numbered F).length = F.length := by simp [numbered]
theorem ok_l_right (vs : List AV) (H : AH) (Q : QV) (X : QX) (h : F_l_right vs H Q X) : mkFn is_l_right T_l_right vs H Q X := by
 obtain ⟨t, ar, F, rfl, ht, hg, hf, ⟨as, ha, hA⟩, hFs, h64, fin⟩ := h
 refine ⟨rfl, _, rfl, .txt t rfl ht (fun _ _ B H1 s1 hB hnum hc hnew => ?_) fun q => absurd ⟨hg, hf⟩ q⟩
 have hal := hA.length
 have hFl : F.length ≤ 30 := by rw [← List.length_map (f := sortS), hFs]; exact hf.1
 refine seq_k ⟨_, rfl, _, rfl, _, s1 _ _ ha, _, rfl, by omega, by rw [List.length_map]; omega, fun r0 hr0 => ?_⟩
 have s0 := Sub.add hr0 (.range 0 ((as.map AV.ref).length : Int))
 refine compJ_sub (kd := .range) (xs := (intsFrom 0 ((as.map AV.ref).length : Int)).map AV.int) ⟨0, _, put_get _ _ _, rfl⟩
  (fun k y H' => ∃ t : Addr × Addr, y = .ref t.1 ∧ ∃ x, F[k]? = some x ∧ H' t.1 = some (.tuple [.int k, .ref t.2]) ∧ LS H' t.2 (sortS x)) ?_ (fun k x H' sb hx Q' hQ => ?_) fun ys H' sb hly hy r hr => ?_
 ·rintro k y K1 K2 ⟨t, h1, u, h2, h3, h4⟩ s
  exact ⟨t, h1, u, h2, s _ _ h3, s _ _ h4⟩
 ·obtain ⟨hk, rfl⟩ := getElem?_ints hx
  have hk' : k < as.length := by simpa using hk
  obtain ⟨c, hc⟩ : ∃ c, as[k]? = some c := ⟨_, List.getElem?_eq_getElem hk'⟩
  obtain ⟨x, hx', hcx⟩ := hA.get hc
  have sH := s1.trans (s0.trans sb)
  refine ⟨_, Mp.upd_self _ _ _, _, rfl, _, Mp.upd_self _ _ _, _, sH _ _ ha, .ref c, (if_pos (by omega)).trans (by rw [Int.toNat_natCast, List.getElem?_map, hc]; rfl), c, _, rfl, sH _ _ hcx, x, rfl, h64 x (List.mem_of_getElem? hx'), fun r1 hr1 => ?_⟩
  refine ⟨by simp, fun r2 hr2 => ?_⟩
  exact hQ _ _ ((Sub.add hr1 _).trans (Sub.add hr2 _)) ⟨(r2, r1), rfl, x, hx', put_get _ _ _, Sub.add hr2 _ _ _ (put_get _ _ _)⟩
 ·obtain ⟨ts, rfl, hts⟩ := pick (fun t : Addr × Addr => AV.ref t.1) hy
  rw [List.length_map, ints_len] at hly
  have s3 := Sub.add hr (.list (ts.map fun t : Addr × Addr => AV.ref t.1))
  have hN : NR _ r (numbered (F.map sortS)) := ⟨ts, put_get H' r (.list (ts.map fun t : Addr × Addr => AV.ref t.1)), NAll.of (by rw [numbered_len, List.length_map, hly]; simpa using hal) fun k t u e1 e2 => by
   obtain ⟨x, h1, h2, h3⟩ := hts k t e1
   rw [numbered_get, List.getElem?_map, h1] at e2
   cases e2
   exact ⟨s3 _ _ h2, s3 _ _ h3⟩⟩
  have s13 := s0.trans (sb.trans s3)
  have hB3 := hB.sub s13
  refine seq_k ⟨_, rfl, B.a, B.d, _, rfl, hB3.inst, hB3.attrs, true, rfl, ?_⟩
  refine ite_f (skip_k (seq_k ⟨_, rfl, B.a, B.d, _, rfl, hB3.inst, hB3.attrs, by kernel_rfl, B, rfl, hB3, fun us r5 H5 s5 n5 hl5 h5 ht5 => ⟨_, rfl, eq_NR_eq (L := numbered (F.map sortS)) ?_ (hN.sub s5) ⟨true, rfl, ite_t ?_⟩⟩⟩))
  ·rw [hFs, ← hnum]; exact rows_nr hl5 h5 ht5
  ·refine ⟨_, rfl, B, rfl, hB3.sub s5, fun H6 s6 => ⟨_, rfl, eq_str ?_⟩⟩
   rw [sets_num hnum, textR_rowsT, decide_eq_true rfl]
   exact fin _ (s1.trans (s13.trans (s5.trans s6)))
end Mine
end
-- text W11
section
namespace Mine
open PySem
set_option maxRecDepth 10000
theorem chain_ris : ∀ {xs : List Str}, (∀ (i : Nat) a b, xs[i]? = some a → xs[i + 1]? = some b → ltS a b = true) → Ris xs
 | [], _ => .nil
 | [x], _ => List.pairwise_singleton _ _
 | x :: y :: r, h => by
  have ih : Ris (y :: r) := chain_ris fun i a b e1 e2 => h (i + 1) a b (by simpa using e1) (by simpa using e2)
  have hxy := h 0 x y rfl rfl
  refine List.pairwise_cons.mpr ⟨fun z hz => ?_, ih⟩
  rcases List.mem_cons.mp hz with rfl | hz
  ·exact hxy
  ·have hyz := (List.pairwise_cons.mp ih).1 z hz
   exact ltS_ord.lt_le hxy (ltS_ord.asym _ _ hyz)
theorem ris_chain {xs : List Str} (h : Ris xs) : ∀ (i : Nat) a b, xs[i]? = some a → xs[i + 1]? = some b → ltS a b = true := by
 intro i a b e1 e2
 obtain ⟨w1, rfl⟩ := List.getElem?_eq_some_iff.mp e1
 obtain ⟨w2, rfl⟩ := List.getElem?_eq_some_iff.mp e2
 exact List.pairwise_iff_getElem.mp h i (i + 1) w1 w2 (by omega)
theorem notname_comp {m : Mp} {H : AH} {Q : QV} {c : Addr} {xs : List Str} (hc : LS H c xs) (hl : ∀ n ∈ xs, n.length ≤ 1000000) (fin : ∀ r H', Sub H H' → H r = none → LS H' r (xs.filter fun n => !(nmB n)) → Q (.ref r) H') :
  CompJ m 4 (tNotB (tTruth (tCall F_l_is_name (tCons (tLoc 4) tNil)))) (tLoc 4) (.ref c) H Q := by
 refine ⟨.list, xs.map AV.str, hc, fun k ys H' => Sub H H' ∧ ys = ((xs.take k).filter fun n => !(nmB n)).map AV.str, ⟨.refl _, by simp⟩, ?_⟩
 rintro k ys H' ⟨sb, rfl⟩ hk
 refine ⟨sb _ _ hc, fun y hy => ?_, fun e r hr => ?_⟩
 ·obtain ⟨n, hn, rfl⟩ := getElem?_strs hy
  have ef : (xs.take (k + 1)).filter (fun n => !(nmB n)) = (xs.take k).filter (fun n => !(nmB n)) ++ (if (!(nmB n)) = true then [n] else []) := by
   rw [List.take_add_one, hn, List.filter_append]
   cases q : nmB n <;> simp [List.filter, q]
  refine ⟨_, Mp.upd_self _ _ _, n, rfl, hl n (List.mem_of_getElem? hn), fun H2 s2 => ⟨_, rfl, ite_intro _ (fun w => ?_) fun w => ?_⟩⟩
  ·refine ⟨_, Mp.upd_self _ _ _, sb.trans s2, ?_⟩
   rw [ef, if_pos w, List.map_append]; rfl
  ·refine ⟨sb.trans s2, ?_⟩
   rw [ef, if_neg (by rw [w]; decide), List.append_nil]
 ·rw [List.length_map] at e
  rw [e, List.take_length]
  exact fin r _ (sb.trans (Sub.add hr _)) (sb.new hr) (put_get _ _ _)
theorem leS_k {x y : Str} {H : AH} {Q : Bool → AH → Prop} (h : Q (!(decide (y.cps.toList < x.cps.toList))) H) : aLeS (.str x) (.str y) H Q := h
theorem rises_comp {m : Mp} {H : AH} {Q : QV} {c r0 : Addr} {xs : List Str} {n : Int} (v3 : m 3 = some (.ref c)) (hc : LS H c xs) (hr0 : H r0 = some (.range 1 n)) (hn : n = xs.length) (fin : ∀ r (ns : List Int), H r = none → (ns = [] ↔ Ris xs) → Q (.ref r) (H.put r (.list (ns.map AV.int)))) :
  CompJ m 5 (tCmpB aLeS (tItem (tLoc 3) (tLoc 5)) (tItem (tLoc 3) (tBin aSub (tLoc 5) (tVal (.int 1))))) (tLoc 5) (.ref r0) H Q := by
 have il : ((intsFrom 1 n).map AV.int).length = xs.length - 1 := by
  rw [List.length_map]; unfold intsFrom; rw [List.length_map, List.length_range, hn]; omega
 refine ⟨.range, (intsFrom 1 n).map AV.int, ⟨1, _, hr0, rfl⟩, fun k ys H' => H' = H ∧ ∃ ns : List Int, ys = ns.map AV.int ∧ (ns = [] ↔ ∀ i, i < k → ∀ a b, xs[i]? = some a → xs[i + 1]? = some b → ltS a b = true), ⟨rfl, [], rfl, ⟨fun _ i hi => by omega, fun _ => rfl⟩⟩, ?_⟩
 rintro k ys H' ⟨rfl, ns, rfl, hns⟩ hk
 refine ⟨⟨1, _, hr0, rfl⟩, fun y hy => ?_, fun e r hr => ?_⟩
 ·have hk' : k < xs.length - 1 := by rw [← il]; exact (List.getElem?_eq_some_iff.mp hy).1
  obtain ⟨a, ha⟩ : ∃ a, xs[k]? = some a := ⟨_, List.getElem?_eq_getElem (by omega)⟩
  obtain ⟨b, hb⟩ : ∃ b, xs[k + 1]? = some b := ⟨_, List.getElem?_eq_getElem (by omega)⟩
  have ey : y = .int (1 + (k : Int)) := by
   unfold intsFrom at hy
   rw [List.map_map, List.getElem?_map, List.getElem?_range (by omega)] at hy
   exact (Option.some.inj hy).symm
  subst ey
  have i1 : idx (xs.map AV.str) (1 + (k : Int)) = some (.str b) := by
   rw [idx_nat _ (by omega), show (1 + (k : Int)).toNat = k + 1 by omega, List.getElem?_map, hb]; rfl
  have i2 : idx (xs.map AV.str) (1 + (k : Int) - 1) = some (.str a) := by
   rw [idx_nat _ (by omega), show (1 + (k : Int) - 1).toNat = k by omega, List.getElem?_map, ha]; rfl
  refine ⟨_, (Mp.upd_ne _ _ (by decide)).trans v3, _, Mp.upd_self _ _ _, _, hc, _, i1, _, (Mp.upd_ne _ _ (by decide)).trans v3, _, Mp.upd_self _ _ _, _, hc, _, i2, leS_k (ite_intro _ (fun w => ?_) fun w => ?_)⟩
  ·refine ⟨_, Mp.upd_self _ _ _, rfl, ns ++ [1 + (k : Int)], by rw [List.map_append]; rfl, ⟨fun q => by simp at q, fun q => ?_⟩⟩
   have := q k (by omega) a b ha hb
   unfold ltS at this
   rw [this] at w; cases w
  ·refine ⟨rfl, ns, rfl, hns.trans ⟨fun q i hi a' b' e1 e2 => ?_, fun q i hi => q i (by omega)⟩⟩
   by_cases hik : i < k
   ·exact q i hik a' b' e1 e2
   ·have : i = k := by omega
    subst this
    rw [ha] at e1; cases e1
    rw [hb] at e2; cases e2
    unfold ltS
    simpa using w
 ·rw [il] at e
  refine fin r ns hr (hns.trans ⟨fun q => chain_ris fun i a b e1 e2 => q i ?_ a b e1 e2, fun q i _ => ris_chain q i⟩)
  have := (List.getElem?_eq_some_iff.mp e2).1
  omega
theorem ne_ints_nil {H : AH} {r z : Addr} {ns : List Int} {Q : Bool → AH → Prop} (hr : H r = some (.list (ns.map AV.int))) (hz : H z = some (.list [])) (h : Q (!decide (ns = [])) H) : aNe (.ref r) (.ref z) H Q := by
 have rd : ∀ ns : List Int, RdAll H (ns.map AV.int) (ns.map PyData.int) := fun ns => by
  induction ns with
  | nil => exact .nil
  | cons n ns ih => exact .cons (.int n) ih
 have dp : ∀ ns : List Int, PyData.depthAll (ns.map PyData.int) = 0 := fun ns => by
  induction ns with
  | nil => simp [PyData.depthAll]
  | cons n ns ih => simp [PyData.depthAll, PyData.depth, ih]
 refine ⟨_, _, .list hr (rd _), .list hz .nil, by rw [PyData.depth, dp]; decide, by simp [PyData.depth, PyData.depthAll], ?_⟩
 cases ns with
 | nil => rw [List.map_nil, PyData.eqv, PyData.eqvAll]; exact h
 | cons n ns => rw [List.map_cons, PyData.eqv, PyData.eqvAll]; exact h
inductive F_l_rowsK (vs : List AV) (H : AH) (Q : QV) : Prop
 | mk (t : Str) : vs = [.str t] → TextOK t → (GoodT t → ∀ r H', Sub H H' → H r = none → LL H' r (rowsT t) → Q (.ref r) H') → (¬ GoodT t → ∀ H', Sub H H' → Q .none H') → F_l_rowsK vs H Q
noncomputable def F_l_rows : Fn := fun vs H Q _ => F_l_rowsK vs H Q
noncomputable def T_l_rows : Ts := (tSeq (tIte (tCmpB aEq (tLoc 0) (tVal (.str (Str.ofString "")))) (tSeq (tRet (tList tNil)) tSkip) tSkip) (tSeq (tAssign 1 (tList tNil)) (tSeq (tFor (tMeth "str" bSplit (tLoc 0) (tCons (tVal (.str (Str.ofString "\n"))) tNil)) 2 (tSeq (tAssign 3 (tMeth "str" bSplit (tLoc 2) (tCons (tVal (.str (Str.ofString " "))) tNil))) (tSeq (tIte (tCmpB aEq (tLoc 2) (tVal (.str (Str.ofString "-")))) (tSeq (tAssign 3 (tList tNil)) tSkip) tSkip) (tSeq (tIte (tCmpB aNe (tComp (tLoc 3) 4 (tNotB (tTruth (tCall F_l_is_name (tCons (tLoc 4) tNil)))) (tLoc 4)) (tList tNil)) (tSeq (tRet (tVal .none)) tSkip) tSkip) (tSeq (tIte (tCmpB aNe (tComp (tBcall bRange2 (tCons (tVal (.int 1)) (tCons (tBcall bLen (tCons (tLoc 3) tNil)) tNil))) 5 (tCmpB aLeS (tItem (tLoc 3) (tLoc 5)) (tItem (tLoc 3) (tBin aSub (tLoc 5) (tVal (.int 1))))) (tLoc 5)) (tList tNil)) (tSeq (tRet (tVal .none)) tSkip) tSkip) (tSeq (tExpr (tMeth "list" bAppend (tLoc 1) (tCons (tLoc 3) tNil))) tSkip)))))) (tSeq (tRet (tLoc 1)) tSkip))))
noncomputable def is_l_rows : List Nat := [0]
theorem rows_tail {m : Mp} {H : AH} {QN : Mp → AH → Prop} {Q : QV} {X : QX} {p c : Addr} {xs : List Str} {cs : List Addr} (v1 : m 1 = some (.ref p)) (v3 : m 3 = some (.ref c)) (hc : LS H c xs) (hp : RL H p cs) (ncp : c ≠ p) (hcs : cs.length ≤ 100000) (hx : xs.length < 64) (hl : ∀ n ∈ xs, n.length ≤ 1000000)
  (ok : (∀ n ∈ xs, Nm n) ∧ Ris xs → ∀ H', (∀ x o, x ≠ p → H x = some o → H' x = some o) → RL H' p (cs ++ [c]) → QN m H') (bad : ¬ ((∀ n ∈ xs, Nm n) ∧ Ris xs) → ∀ H', Sub H H' → Q .none H') :
  (tSeq (tIte (tCmpB aNe (tComp (tLoc 3) 4 (tNotB (tTruth (tCall F_l_is_name (tCons (tLoc 4) tNil)))) (tLoc 4)) (tList tNil)) (tSeq (tRet (tVal .none)) tSkip) tSkip) (tSeq (tIte (tCmpB aNe (tComp (tBcall bRange2 (tCons (tVal (.int 1)) (tCons (tBcall bLen (tCons (tLoc 3) tNil)) tNil))) 5 (tCmpB aLeS (tItem (tLoc 3) (tLoc 5)) (tItem (tLoc 3) (tBin aSub (tLoc 5) (tVal (.int 1))))) (tLoc 5)) (tList tNil)) (tSeq (tRet (tVal .none)) tSkip) tSkip) (tSeq (tExpr (tMeth "list" bAppend (tLoc 1) (tCons (tLoc 3) tNil))) tSkip))) m H QN Q X := by
 refine seq_k ⟨_, v3, notname_comp hc hl fun r1 H1 s1 n1 h1 => ⟨Nat.zero_le _, fun z hz => ?_⟩⟩
 have sz := Sub.add hz (.list [])
 refine ne_LS (xs := xs.filter fun n => !(nmB n)) (ys := []) (sz _ _ h1) (put_get _ _ _) ?_
 have s1z := s1.trans sz
 by_cases e : (xs.filter fun n => !(nmB n)) = []
 ·rw [decide_eq_true e]
  have hnm : ∀ n ∈ xs, Nm n := fun n hn => nm_of (by have := List.filter_eq_nil_iff.mp e n hn; simpa using this)
  refine ite_f (skip_k (seq_k ⟨_, v3, _, rfl, _, s1z _ _ hc, 1, _, rfl, by decide, by rw [List.length_map]; omega, fun r0 hr0 => ?_⟩))
  have s0 := Sub.add hr0 (.range 1 ((xs.map AV.str).length : Nat))
  refine rises_comp v3 (s0 _ _ (s1z _ _ hc)) (put_get _ _ _) (by rw [List.length_map]) fun r2 ns hr2 hns => ⟨Nat.zero_le _, fun z2 hz2 => ?_⟩
  have s2 := Sub.add hr2 (.list (ns.map AV.int))
  have sz2 := Sub.add hz2 (.list [])
  refine ne_ints_nil (sz2 _ _ (put_get _ _ _)) (put_get _ _ _) ?_
  have sall := s1z.trans (s0.trans (s2.trans sz2))
  by_cases e2 : ns = []
  ·rw [decide_eq_true e2]
   have hp' := sall _ _ hp
   refine ite_f (skip_k (seq_k ⟨_, v1, .list hp', _, v3, p, _, _, rfl, hp', by rw [List.length_map, sizeLine_is]; omega, fun _ h => (nomatch h), ?_⟩))
   refine ok ⟨hnm, hns.mp e2⟩ _ (fun x o nx ex => (AH.put_ne _ _ nx).trans (sall _ _ ex)) ?_
   show (AH.put _ _ _) p = _
   rw [put_get, List.map_append]; rfl
  ·rw [decide_eq_false e2]
   exact ite_t (seq_k (bad (fun q => e2 (hns.mpr q.2)) _ sall))
 ·rw [decide_eq_false e]
  refine ite_t (seq_k (bad (fun q => e (List.filter_eq_nil_iff.mpr fun n hn => by rw [(q.1 n hn).nmB]; decide)) _ s1z))
theorem ok_l_rows (vs : List AV) (H : AH) (Q : QV) (X : QX) (h : F_l_rows vs H Q X) : mkFn is_l_rows T_l_rows vs H Q X := by
 obtain ⟨t, rfl, ht, fin, bad⟩ := h
 refine ⟨rfl, _, rfl, val_k (eq_str ?_)⟩
 rw [empty_is]
 by_cases e0 : t = ⟨#[]⟩
 ·rw [decide_eq_true e0]
  have er : rowsT t = [] := if_pos e0
  refine ite_t (seq_k ⟨Nat.zero_le _, fun r hr => fin (fun r hr => by rw [er] at hr; exact nomatch hr) r _ (Sub.add hr _) hr ?_⟩)
  rw [er]; exact LL.nil
 ·rw [decide_eq_false e0]
  have er : rowsT t = (linesT t).map rowL := if_neg e0
  have hll : (rowsT t).length = (linesT t).length := by rw [er, List.length_map]
  have hlen : (linesT t).length ≤ 100001 := by
   unfold linesT
   rw [List.length_map, spl_len]
   have h1 := List.count_le_length (a := 10) (l := cl t)
   have h2 := ht.len
   rw [len_cl] at h2
   omega
  refine ite_f (skip_k (seq_k ⟨Nat.zero_le _, fun p hp => ?_⟩))
  have sp0 := Sub.add hp (.list [])
  refine seq_k ⟨_, rfl, .str _, t, 10, by rw [nl_is], by decide, by have := ht.len; omega, fun rl hrl => ?_⟩
  have sl := Sub.add hrl (.list ((linesT t).map AV.str))
  have gl : LS ((H.put p (.list [])).put rl (.list ((linesT t).map AV.str))) rl (linesT t) := put_get _ _ _
  have nrp : rl ≠ p := fun e => by rw [e, put_get] at hrl; cases hrl
  refine ⟨.list, (linesT t).map AV.str, gl, fun k m' H' => ∃ cs, m' 1 = some (.ref p) ∧ Sub H H' ∧ LS H' rl (linesT t) ∧ RL H' p cs ∧ (∀ c ∈ cs, c ≠ p) ∧ LAll H' cs ((rowsT t).take k) ∧ (∀ r ∈ (rowsT t).take k, (∀ n ∈ r, Nm n) ∧ Ris r), ⟨[], rfl, sp0.trans sl, gl, sl _ _ (put_get _ _ _), fun _ h => (nomatch h), .nil, fun r hr => by simp at hr⟩, ?_⟩
  rintro k m' H' ⟨cs, v1, sH, gl', hp', hcp, hA, hg⟩ hk
  rw [List.length_map] at hk
  refine ⟨gl', fun y hy => ?_, fun e => ?_⟩
  ·obtain ⟨l, hl, rfl⟩ := getElem?_strs hy
   have hrow : (rowsT t)[k]? = some (rowL l) := by rw [er, List.getElem?_map, hl]; rfl
   have hlo := line_ok ht l (List.mem_of_getElem? hl)
   have hcl : cs.length ≤ 100000 := by
    rw [hA.length, List.length_take]
    have := (List.getElem?_eq_some_iff.mp hl).1
    omega
   have tail : ∀ {m2 : Mp} {H2 : AH} {c : Addr}, Sub H' H2 → m2 1 = some (.ref p) → m2 3 = some (.ref c) → LS H2 c (rowL l) → c ≠ p → (tSeq (tIte (tCmpB aNe (tComp (tLoc 3) 4 (tNotB (tTruth (tCall F_l_is_name (tCons (tLoc 4) tNil)))) (tLoc 4)) (tList tNil)) (tSeq (tRet (tVal .none)) tSkip) tSkip) (tSeq (tIte (tCmpB aNe (tComp (tBcall bRange2 (tCons (tVal (.int 1)) (tCons (tBcall bLen (tCons (tLoc 3) tNil)) tNil))) 5 (tCmpB aLeS (tItem (tLoc 3) (tLoc 5)) (tItem (tLoc 3) (tBin aSub (tLoc 5) (tVal (.int 1))))) (tLoc 5)) (tList tNil)) (tSeq (tRet (tVal .none)) tSkip) tSkip) (tSeq (tExpr (tMeth "list" bAppend (tLoc 1) (tCons (tLoc 3) tNil))) tSkip))) m2 H2 (fun m' H' => ∃ cs, m' 1 = some (.ref p) ∧ Sub H H' ∧ LS H' rl (linesT t) ∧ RL H' p cs ∧ (∀ c ∈ cs, c ≠ p) ∧ LAll H' cs ((rowsT t).take (k + 1)) ∧ (∀ r ∈ (rowsT t).take (k + 1), (∀ n ∈ r, Nm n) ∧ Ris r)) Q X := fun {m2 H2 c} s2 w1 w3 hc ncp => by
    refine rows_tail w1 w3 hc (s2 _ _ hp') ncp hcl hlo.2.1 hlo.2.2 (fun g H3 k3 hp3 => ?_) fun g H3 s3 => bad (fun q => g (q _ (List.mem_of_getElem? hrow))) H3 (sH.trans (s2.trans s3))
    refine ⟨cs ++ [c], w1, fun x o ex => k3 x o (ne_new hp ex) (s2 _ _ (sH _ _ ex)), k3 _ _ nrp (s2 _ _ gl'), hp3, fun d hd => ?_, ?_, fun r hr => ?_⟩
    ·rcases List.mem_append.mp hd with hd | hd
     ·exact hcp d hd
     ·rw [show d = c by simpa using hd]; exact ncp
    ·rw [List.take_add_one, hrow]
     refine LAll.append (LAll.of hA.length fun j a xs e1 e2 => ?_) (.cons (k3 _ _ ncp hc) .nil)
     obtain ⟨ys, e3, e4⟩ := hA.get e1
     rw [e2] at e3; cases e3
     exact k3 _ _ (hcp a (List.mem_of_getElem? e1)) (s2 _ _ e4)
    ·rw [List.take_add_one, hrow] at hr
     rcases List.mem_append.mp hr with hr | hr
     ·exact hg r hr
     ·rw [show r = rowL l by simpa using hr]; exact g
   refine seq_k ⟨_, Mp.upd_self _ _ _, .str _, l, 32, by rw [sp_is], by decide, hlo.1, fun c hc => ?_⟩
   have sc := Sub.add hc (.list (((spl 32 l.cps.toList).map tx).map AV.str))
   have ncp : c ≠ p := fun e => by unfold RL at hp'; rw [e, hp'] at hc; cases hc
   refine seq_k ⟨_, (Mp.upd_ne _ _ (by decide)).trans (Mp.upd_self _ _ _), val_k (eq_str ?_)⟩
   rw [dash_is]
   by_cases ed : l = dash
   ·rw [decide_eq_true ed]
    refine ite_t (seq_k ⟨Nat.zero_le _, fun c2 hc2 => ?_⟩)
    have sc2 := Sub.add hc2 (.list [])
    have ncp2 : c2 ≠ p := fun e => by have := sc _ _ hp'; rw [e, this] at hc2; cases hc2
    refine tail (sc.trans sc2) ((Mp.upd_ne _ _ (by decide)).trans ((Mp.upd_ne _ _ (by decide)).trans ((Mp.upd_ne _ _ (by decide)).trans v1))) (Mp.upd_self _ _ _) ?_ ncp2
    show (AH.put _ _ _) c2 = _
    unfold rowL
    rw [put_get, if_pos ed]; rfl
   ·rw [decide_eq_false ed]
    refine ite_f (skip_k (tail sc ((Mp.upd_ne _ _ (by decide)).trans ((Mp.upd_ne _ _ (by decide)).trans v1)) (Mp.upd_self _ _ _) ?_ ncp))
    show (AH.put _ _ _) c = _
    unfold rowL
    rw [put_get, if_neg ed]; rfl
  ·have ek : (rowsT t).take k = rowsT t := List.take_of_length_le (by rw [e, List.length_map, hll]; exact Nat.le_refl _)
   rw [ek] at hA hg
   exact ⟨_, v1, fin hg p H' sH hp ⟨cs, hp', hA⟩⟩
end Mine
end
-- text Y11
section
namespace Mine
open PySem
set_option maxRecDepth 10000
theorem count_jn (c d : Nat) : ∀ ps : List (List Nat), (jn c ps).count d ≤ (ps.map (·.count d)).sum + (if c = d then ps.length else 0)
 | [] => by simp [jn]
 | [p] => by simp [jn]
 | p :: q :: r => by
  have ih := count_jn c d (q :: r)
  show (p ++ c :: jn c (q :: r)).count d ≤ _
  rw [List.count_append, List.count_cons, List.map_cons, List.sum_cons, List.length_cons]
  by_cases e : c = d
  ·subst e
   simp only [beq_self_eq_true, if_true] at ih ⊢
   omega
  ·have : (c == d) = false := by simpa using e
   rw [this, if_neg e] at *
   simp only [Bool.false_eq_true, if_false]
   omega
theorem line_blanks {r : List Str} (h : ∀ n ∈ r, Nm n) : (cl (lineR r)).count 32 ≤ r.length := by
 unfold lineR
 split
 ·simp [cl]
 ·rw [jn_str, cl_tx]
  have h1 := count_jn 32 32 (r.map cl)
  have h2 : (((r.map cl).map (·.count 32))).sum ≤ ((r.map cl).map (·.count 32)).length * 0 := sum_le fun x hx => by
   obtain ⟨p, hp, rfl⟩ := List.mem_map.mp hx
   obtain ⟨n, hn, rfl⟩ := List.mem_map.mp hp
   rw [List.count_eq_zero.mpr (h n hn).free.1]; exact Nat.le_refl _
  rw [if_pos rfl, List.length_map] at h1
  omega
structure BaseT (t : Str) (F : List (List Str)) (names : List Str) : Prop where
 eq : t = textR F
 nm : ∀ r ∈ F, ∀ n ∈ r, Nm n
 sub : ∀ r ∈ F, ∀ n ∈ r, n ∈ names
 rl : ∀ r ∈ F, r.length ≤ 7
 fl : F.length ≤ 9
 n7 : names.length ≤ 7
theorem BaseT.len {t : Str} {F : List (List Str)} {names : List Str} (h : BaseT t F names) : t.length ≤ 1000 := by
 rw [h.eq]
 unfold textR
 have h1 := StrLaws.join_length_le nl (F.map lineR)
 have h2 := sum_le (n := 64) (xs := (F.map lineR).map (·.length)) fun x hx => by
  obtain ⟨l, hl, rfl⟩ := List.mem_map.mp hx
  obtain ⟨r, hr, rfl⟩ := List.mem_map.mp hl
  have := lineR_len (xs := r) fun n hn => (h.nm r hr n hn).2.1
  have := h.rl r hr
  omega
 rw [List.length_map, List.length_map] at h2
 have h3 : nl.length = 1 := rfl
 rw [List.length_map, h3] at h1
 have := h.fl
 omega
theorem BaseT.bl {t : Str} {F : List (List Str)} {names : List Str} (h : BaseT t F names) : (cl t).count 32 ≤ (F.map (·.length)).sum := by
 rw [h.eq]
 unfold textR
 rw [jn_str, cl_tx]
 have h1 := count_jn 10 32 ((F.map lineR).map cl)
 rw [if_neg (by decide), Nat.add_zero] at h1
 refine Nat.le_trans h1 ?_
 have : ∀ G : List (List Str), (∀ r ∈ G, ∀ n ∈ r, Nm n) → (((G.map lineR).map cl).map (·.count 32)).sum ≤ (G.map (·.length)).sum := by
  intro G hG
  induction G with
  | nil => simp
  | cons r G ih =>
   simp only [List.map_cons, List.sum_cons]
   have := line_blanks (hG r (.head _))
   have := ih fun r hr => hG r (.tail _ hr)
   omega
 exact this F h.nm
theorem BaseT.lines {t : Str} {F : List (List Str)} {names : List Str} (h : BaseT t F names) : (cl t).count 10 ≤ F.length := by
 rw [h.eq]; exact text_lines h.nm
theorem near {t t' : Str} {F : List (List Str)} {names : List Str} (h : BaseT t F names) (h8 : F.length ≤ 8) (ex : List (List Nat)) (hex : ex.length ≤ 5) (hw : ∀ w ∈ wds (cl t'), w ∈ wds (cl t) ∨ w ∈ ex) (hlen : t'.length ≤ t.length + 20) (hb : (cl t').count 32 ≤ (cl t).count 32 + 2) (hn : (cl t').count 10 ≤ (cl t).count 10 + 1) :
  TextOK t' ∧ (GoodT t' → Fit (rowsT t')) := by
 have b1 := h.len
 have b2 := h.bl
 have b3 := h.lines
 have b4 : (F.map (·.length)).sum ≤ 56 := by
  have := sum_le (n := 7) (xs := F.map (·.length)) fun x hx => by
   obtain ⟨r, hr, rfl⟩ := List.mem_map.mp hx
   exact h.rl r hr
  rw [List.length_map] at this
  omega
 refine ⟨⟨by omega, by omega⟩, fun g => ⟨?_, ?_⟩⟩
 ·unfold rowsT
  split
  ·simp
  ·unfold linesT
   rw [List.length_map, List.length_map, spl_len]; omega
 ·have := nodup_len (x := names ++ ex.map tx) (dedup_is_nodup (rowsT t').flatten) fun n hn' => by
   obtain ⟨r, hr, hnr⟩ := List.mem_flatten.mp (mem_dedup.mp hn')
   have hnm := (g r hr).1 n hnr
   rcases hw _ (row_words r hr n hnr) with w | w
   ·rw [h.eq] at w
    rcases text_words h.nm _ w with ⟨s, hs, m, hm, e⟩ | e | e
    ·rw [cl_inj e]; exact List.mem_append.mpr (.inl (h.sub s hs m hm))
    ·exact absurd (cl_inj (x := n) (y := dash) e) hnm.free.2.2.1
    ·exact absurd e hnm.free.2.2.2
   ·exact List.mem_append.mpr (.inr (List.mem_map.mpr ⟨_, w, tx_cl n⟩))
  rw [List.length_append, List.length_map] at this
  have := h.n7
  omega
theorem wds_nl (a b : List Nat) : ∀ w ∈ wds (a ++ 10 :: b), w ∈ wds a ∨ w ∈ wds b := by
 obtain ⟨A, x, y, B, h1, h2, h3⟩ := wds_append a (10 :: b)
 intro w hw
 rw [wds_sep rfl] at h2
 obtain ⟨e1, e2⟩ := List.cons.inj h2
 subst e1
 rw [h3, List.append_nil] at hw
 rcases List.mem_append.mp hw with hw | hw
 ·exact .inl (by rw [h1]; exact hw)
 ·exact .inr (by rw [e2]; exact hw)
noncomputable def nine : List Str := [Str.ofString "", Str.ofString "-", Str.ofString "--", Str.ofString "- a", Str.ofString "a a", Str.ofString "b a", Str.ofString "abcdefghi", Str.ofString "abcdefgh", Str.ofString "a  b"]
theorem nine_ok : ∀ x ∈ nine, (wds (cl x)).length ≤ 5 ∧ x.length ≤ 9 ∧ (cl x).count 32 ≤ 2 ∧ (cl x).count 10 = 0 := by decide +kernel
theorem cl_append (x y : Str) : cl (x ++ y) = cl x ++ cl y := by simp [cl, Str.cps_append]
theorem len_append (x y : Str) : (x ++ y).length = x.length + y.length := by rw [len_cl, len_cl, len_cl, cl_append, List.length_append]
theorem near_line {t l : Str} {F : List (List Str)} {names : List Str} (h : BaseT t F names) (h8 : F.length ≤ 8) (hl : l ∈ nine) : (TextOK (l ++ nl ++ t) ∧ (GoodT (l ++ nl ++ t) → Fit (rowsT (l ++ nl ++ t)))) ∧ (TextOK (t ++ nl ++ l) ∧ (GoodT (t ++ nl ++ l) → Fit (rowsT (t ++ nl ++ l)))) := by
 obtain ⟨n1, n2, n3, n4⟩ := nine_ok l hl
 have c1 : cl (l ++ nl ++ t) = cl l ++ 10 :: cl t := by rw [cl_append, cl_append]; simp [cl]
 have c2 : cl (t ++ nl ++ l) = cl t ++ 10 :: cl l := by rw [cl_append, cl_append]; simp [cl]
 have l1 : nl.length = 1 := rfl
 refine ⟨near h h8 (wds (cl l)) n1 (fun w hw => ?_) ?_ ?_ ?_, near h h8 (wds (cl l)) n1 (fun w hw => ?_) ?_ ?_ ?_⟩
 ·rw [c1] at hw; exact (wds_nl _ _ w hw).symm
 ·rw [len_append, len_append, l1]; omega
 ·rw [c1, List.count_append, List.count_cons]; simp; omega
 ·rw [c1, List.count_append, List.count_cons]; simp; omega
 ·rw [c2] at hw; exact wds_nl _ _ w hw
 ·rw [len_append, len_append, l1]; omega
 ·rw [c2, List.count_append, List.count_cons]; simp; omega
 ·rw [c2, List.count_append, List.count_cons]; simp; omega
theorem near_sign {t t' : Str} {F : List (List Str)} {names : List Str} (h : BaseT t F names) (h8 : F.length ≤ 8) {i j s : Nat} (e : cl t' = (cl t).take i ++ s :: (cl t).drop (i + j)) : TextOK t' ∧ (GoodT t' → Fit (rowsT t')) := by
 have e2 : cl t = (cl t).take i ++ (((cl t).drop i).take j ++ (cl t).drop (i + j)) := by
  rw [← List.drop_drop, List.take_append_drop, List.take_append_drop]
 obtain ⟨ex, hex, hw⟩ := wds_spoilt ((cl t).take i) ((cl t).drop (i + j)) (((cl t).drop i).take j) s
 rw [← e2, ← e] at hw
 have cnt : ∀ d, (cl t').count d ≤ (cl t).count d + 1 := fun d => by
  have h1 := congrArg (List.count d) e2
  rw [List.count_append, List.count_append] at h1
  rw [e, List.count_append, List.count_cons]
  split <;> omega
 refine near h h8 ex (by omega) hw ?_ ?_ (cnt 10)
 ·rw [len_cl, len_cl, e, List.length_append, List.length_cons, List.length_take, List.length_drop]; omega
 ·have := cnt 32; omega
inductive F_l_spoiltK (vs : List AV) (H : AH) (Q : QV) : Prop
 | mk (t : Str) (c : Int) (F : List (List Str)) (names : List Str) : vs = [.str t, .int c] → BaseT t F names → F.length ≤ 8 → (∀ t' H', Sub H H' → TextOK t' → (GoodT t' → Fit (rowsT t')) → Q (.str t') H') → F_l_spoiltK vs H Q
noncomputable def F_l_spoilt : Fn := fun vs H Q _ => F_l_spoiltK vs H Q
noncomputable def T_l_spoilt : Ts := (tSeq (tAssign 2 (tVal (.str (Str.ofString " !\"#$&'()*+,-./0123456789:;<=>?@ABCDEFGHIJKLMNOPQRSTUVWXYZ[\\]^_`")))) (tSeq (tAssign 2 (tBin aAdd (tLoc 2) (tVal (.str (Str.ofString "abcdefghijklmnopqrstuvwxyz{|}~\n\t"))))) (tSeq (tIte (tCmpB aEq (tBin aMod (tLoc 1) (tVal (.int 5))) (tVal (.int 4))) (tSeq (tAssign 3 (tItem (tList (tCons (tVal (.str (Str.ofString ""))) (tCons (tVal (.str (Str.ofString "-"))) (tCons (tVal (.str (Str.ofString "--"))) (tCons (tVal (.str (Str.ofString "- a"))) (tCons (tVal (.str (Str.ofString "a a"))) (tCons (tVal (.str (Str.ofString "b a"))) (tCons (tVal (.str (Str.ofString "abcdefghi"))) (tCons (tVal (.str (Str.ofString "abcdefgh"))) (tCons (tVal (.str (Str.ofString "a  b"))) tNil)))))))))) (tBin aMod (tBin aFdiv (tLoc 1) (tVal (.int 5))) (tVal (.int 9))))) (tSeq (tIte (tCmpB aEq (tBin aMod (tBin aFdiv (tLoc 1) (tVal (.int 45))) (tVal (.int 2))) (tVal (.int 0))) (tSeq (tRet (tBin aAdd (tBin aAdd (tLoc 3) (tVal (.str (Str.ofString "\n")))) (tLoc 0))) tSkip) tSkip) (tSeq (tRet (tBin aAdd (tBin aAdd (tLoc 0) (tVal (.str (Str.ofString "\n")))) (tLoc 3))) tSkip))) tSkip) (tSeq (tAssign 4 (tBin aMod (tBin aFdiv (tLoc 1) (tVal (.int 5))) (tBin aAdd (tBcall bLen (tCons (tLoc 0) tNil)) (tVal (.int 1))))) (tSeq (tAssign 5 (tBin aFdiv (tBin aFdiv (tLoc 1) (tVal (.int 5))) (tBin aAdd (tBcall bLen (tCons (tLoc 0) tNil)) (tVal (.int 1))))) (tSeq (tAssign 6 (tItem (tLoc 2) (tBin aMod (tBin aFdiv (tLoc 5) (tVal (.int 2))) (tBcall bLen (tCons (tLoc 2) tNil))))) (tSeq (tRet (tBin aAdd (tBin aAdd (tSlice (tLoc 0) (tVal .none) (tLoc 4)) (tLoc 6)) (tSlice (tLoc 0) (tBin aAdd (tLoc 4) (tBin aMod (tLoc 5) (tVal (.int 2)))) (tVal .none)))) tSkip)))))))
noncomputable def is_l_spoilt : List Nat := [0, 1]
noncomputable def some94 : Str := Str.ofString " !\"#$&'()*+,-./0123456789:;<=>?@ABCDEFGHIJKLMNOPQRSTUVWXYZ[\\]^_`" ++ Str.ofString "abcdefghijklmnopqrstuvwxyz{|}~\n\t"
theorem some94_len : some94.length = 96 := by decide +kernel
theorem ok_l_spoilt (vs : List AV) (H : AH) (Q : QV) (X : QX) (h : F_l_spoilt vs H Q X) : mkFn is_l_spoilt T_l_spoilt vs H Q X := by
 obtain ⟨t, c, F, names, rfl, hb, h8, fin⟩ := h
 have hl := hb.len
 refine ⟨rfl, ?_⟩
 refine seq_k ⟨_, rfl, by decide +kernel, ?_⟩
 refine seq_k ⟨_, rfl, by decide, val_k (eq_int (ite_intro _ (fun _ => ?_) fun _ => skip_k ?_))⟩
 ·refine seq_k ⟨Nat.le_of_ble_eq_true rfl, fun p hp => ?_⟩
  have sp0 := Sub.add hp (.list (nine.map AV.str))
  obtain ⟨v, hv, hm⟩ := idx_mem (k := c / 5 % 9) (xs := nine.map AV.str) (by omega) (by rw [List.length_map]; show _ < (9 : Int); omega)
  obtain ⟨l, hl9, rfl⟩ := List.mem_map.mp hm
  have h9 := (nine_ok l hl9).2.1
  refine ⟨_, rfl, by decide, by decide, by decide, _, put_get _ _ _, _, hv, ?_⟩
  obtain ⟨n1, n2⟩ := near_line hb h8 hl9
  have l1 : (Str.ofString "\n").length = 1 := by decide +kernel
  refine seq_k ⟨_, rfl, by decide, by decide, by decide, val_k (eq_int (ite_intro _ (fun _ => ?_) fun _ => skip_k ?_))⟩
  ·refine seq_k ⟨_, rfl, by rw [l1, sizeLine_is]; omega, _, rfl, by rw [len_append, l1, sizeLine_is]; omega, ?_⟩
   rw [nl_is]
   exact fin _ _ sp0 n1.1 n1.2
  ·refine seq_k ⟨_, rfl, by rw [l1, sizeLine_is]; omega, _, rfl, by rw [len_append, l1, sizeLine_is]; omega, ?_⟩
   rw [nl_is]
   exact fin _ _ sp0 n2.1 n2.2
 ·have hz : t.length ≤ sizeLine := by rw [sizeLine_is]; omega
  refine seq_k ⟨_, rfl, by decide, by decide, _, rfl, _, rfl, hz, by omega, ?_⟩
  refine seq_k ⟨_, rfl, by decide, by decide, _, rfl, _, rfl, hz, by omega, by omega, ?_⟩
  have hpos : (0 : Int) < (some94.length : Int) := by rw [some94_len]; decide
  have h96 : some94.length ≤ sizeLine := by rw [some94_len, sizeLine_is]; decide
  obtain ⟨g, hg, _⟩ := idx_mem (k := c / 5 / ((t.length : Int) + 1) / 2 % (some94.length : Int)) (xs := some94.cps.toList) (Int.emod_nonneg _ (by rw [some94_len]; decide)) (by
   have : (some94.cps.toList.length : Int) = some94.length := by rw [len_cl]; rfl
   rw [this]; exact Int.emod_lt_of_pos _ (by rw [some94_len]; decide))
  refine seq_k ⟨_, rfl, _, rfl, by decide, by decide, _, rfl, _, rfl, h96, hpos, g, hg, h96, ?_⟩
  have a0 : 0 ≤ c / 5 % ((t.length : Int) + 1) := Int.emod_nonneg _ (by omega)
  have j0 : 0 ≤ c / 5 / ((t.length : Int) + 1) % 2 := by omega
  refine seq_k ⟨_, rfl, _, rfl, none, some _, .none, .int _, hz, ?_⟩
  have k1 := cut_le t.cps.toList none (some (c / 5 % ((t.length : Int) + 1)))
  have k2 := cut_le t.cps.toList (some (c / 5 % ((t.length : Int) + 1) + c / 5 / ((t.length : Int) + 1) % 2)) none
  have hcl : t.cps.toList.length = t.length := (len_cl t).symm
  have tl : ∀ l : List Nat, (⟨l.toArray⟩ : Str).length = l.length := fun l => by rw [len_cl]; exact congrArg List.length (cl_tx l)
  have g1 : (⟨#[g]⟩ : Str).length = 1 := rfl
  have bd1 : ∀ lo hi, (⟨(cut t.cps.toList lo hi).toArray⟩ : Str).length + (⟨#[g]⟩ : Str).length ≤ sizeLine := fun lo hi => by
   have := cut_le t.cps.toList lo hi
   rw [tl (cut t.cps.toList lo hi), g1, sizeLine_is]; omega
  have bd2 : ∀ lo hi lo' hi', ((⟨(cut t.cps.toList lo hi).toArray⟩ : Str) ++ (⟨#[g]⟩ : Str)).length + (⟨(cut t.cps.toList lo' hi').toArray⟩ : Str).length ≤ sizeLine := fun lo hi lo' hi' => by
   have h1 := cut_le t.cps.toList lo hi
   have h2 := cut_le t.cps.toList lo' hi'
   rw [len_append, tl (cut t.cps.toList lo hi), tl (cut t.cps.toList lo' hi'), g1, sizeLine_is]; omega
  refine ⟨_, rfl, bd1 _ _, _, rfl, _, rfl, _, rfl, by decide, some _, none, .int _, .none, hz, bd2 _ _ _ _, ?_⟩
  have key := near_sign (t' := (⟨(cut t.cps.toList none (some (c / 5 % ((t.length : Int) + 1)))).toArray⟩ : Str) ++ (⟨#[g]⟩ : Str) ++ (⟨(cut t.cps.toList (some (c / 5 % ((t.length : Int) + 1) + c / 5 / ((t.length : Int) + 1) % 2)) none).toArray⟩ : Str)) hb h8
   (i := (c / 5 % ((t.length : Int) + 1)).toNat) (j := (c / 5 / ((t.length : Int) + 1) % 2).toNat) (s := g) (by
    rw [cl_append, cl_append]
    show cl (tx _) ++ cl ⟨#[g]⟩ ++ cl (tx _) = _
    rw [cl_tx, cl_tx, cut_upto _ a0, cut_from _ (by omega), Int.toNat_add a0 j0, List.append_assoc]
    rfl)
  exact fin _ _ (.refl _) key.1 key.2
end Mine
end
-- text Z11
section
namespace Mine
open PySem
set_option maxRecDepth 10000
noncomputable def Bk.less (B : Bk) (k : Int) : Bk := { B with rs := B.rs.filter fun r => decide (r.1 ≠ k) }
inductive F_b_takeK (vs : List AV) (H : AH) (Q : QV) : Prop
 | mk (B : Bk) (k : Int) : vs = [.ref B.a, .int k] → BookAt H B → (∃ r ∈ B.rs, r.1 = k) → (∀ H', Chg H H' (fun x => x = B.d ∨ x = B.k) → BookAt H' (B.less k) → Q .none H') → F_b_takeK vs H Q
noncomputable def F_b_take : Fn := fun vs H Q _ => F_b_takeK vs H Q
noncomputable def T_b_take : Ts := (tSeq (tIte (tOrB (tNotB (tTruth (tIsi "int" (tLoc 1)))) (tOrB (tTruth (tIsi "bool" (tLoc 1))) (tOrB (tCmpB aNotInD (tLoc 1) (tAttr (Str.ofString "kept") (tLoc 0))) (tBoolNil false)))) (tSeq tNever tSkip) tSkip) (tSeq (tExprA (tMeth "dict" bPop (tAttr (Str.ofString "kept") (tLoc 0)) (tCons (tLoc 1) tNil))) tSkip))
noncomputable def is_b_take : List Nat := [0, 1]
theorem woA_bk (rs : List (Int × Addr × List Str)) (k : Int) : woA (bkDict rs) k = bkDict (rs.filter fun r => decide (r.1 ≠ k)) := by
 unfold woA bkDict
 rw [List.filter_map]; rfl
theorem isi_int {H : AH} {k : Int} : aIs "int" (.int k) H = some true := by simp [aIs]
theorem isi_int_bool {H : AH} {k : Int} : aIs "bool" (.int k) H = some false := by simp [aIs]
theorem ok_b_take (vs : List AV) (H : AH) (Q : QV) (X : QX) (h : F_b_take vs H Q X) : mkFn is_b_take T_b_take vs H Q X := by
 obtain ⟨B, k, rfl, hB, ⟨r, hr, rfl⟩, fin⟩ := h
 obtain ⟨i, hi, e⟩ := List.mem_iff_getElem.mp hr
 have lk := dict_at hB.inc (show B.rs[i]? = some r by rw [List.getElem?_eq_getElem hi, e])
 refine ⟨rfl, _, rfl, true, isi_int, true, rfl, _, rfl, false, isi_int_bool, false, rfl, ?_⟩
 refine ⟨_, rfl, _, rfl, B.a, B.d, _, .ref B.k, rfl, hB.inst, hB.attrs, by kernel_rfl, B.k, r.1, _, rfl, rfl, hB.kept, ?_⟩
 rw [lk]
 refine ⟨_, rfl, B.a, B.d, _, .ref B.k, rfl, hB.inst, hB.attrs, by kernel_rfl, .idict hB.kept, _, rfl, B.k, r.1, _, _, rfl, hB.kept, lk, ?_⟩
 have hm : ∀ u ∈ (B.less r.1).rs, u ∈ B.rs := fun u hu => (List.mem_filter.mp hu).1
 have na : B.a ≠ B.k := fun e => by have := hB.inst; rw [e, hB.kept] at this; cases this
 have nd : B.d ≠ B.k := fun e => by have := hB.attrs; rw [e, hB.kept] at this; cases this
 refine fin _ ((Chg.refl _ _).put _ (.inr rfl)) ⟨(AH.put_ne _ _ na).trans hB.inst, (AH.put_ne _ _ nd).trans hB.attrs, ?_, fun u hu => ?_, ?_, fun u hu => hB.lt u (hm u hu), fun u hu => hB.nm u (hm u hu), fun u hu => hB.ris u (hm u hu), Nat.le_trans (List.length_filter_le _ _) hB.len, fun u hu => hB.rl u (hm u hu), by
  obtain ⟨names, w1, w2⟩ := hB.few
  exact ⟨names, w1, fun u hu => w2 u (hm u hu)⟩⟩
 ·show (AH.put _ _ _) B.k = _
  rw [put_get, woA_bk]; rfl
 ·refine (AH.put_ne _ _ fun e => ?_).trans (hB.rows u (hm u hu))
  have := hB.rows u (hm u hu)
  unfold LS at this
  rw [e, hB.kept] at this; cases this
 ·exact hB.inc.sublist (List.filter_sublist.map _)
theorem rowL_lineR {r : List Str} (h : ∀ n ∈ r, Nm n) : rowL (lineR r) = r := by
 unfold rowL lineR
 by_cases e : r = []
 ·rw [if_pos e, if_pos rfl, e]
 ·rw [if_neg e]
  have e1 : spl 32 (cl (Str.join sp r)) = r.map cl := by
   rw [jn_str, cl_tx, spl_jn (by simpa using e) fun p hp => by
    obtain ⟨n, hn, rfl⟩ := List.mem_map.mp hp
    exact (h n hn).free.1]
  have ne : Str.join sp r ≠ dash := fun q => by
   rw [q] at e1
   have e2 : r.map cl = [[45]] := by rw [← e1]; decide +kernel
   cases r with
   | nil => exact e rfl
   | cons n r =>
    have : cl n = [45] := (List.cons.inj e2).1
    exact (h n (.head _)).free.2.2.1 (cl_inj this)
  rw [if_neg ne, e1, List.map_map, show tx ∘ cl = id from funext tx_cl, List.map_id]
theorem lineR_ne {r : List Str} (h : ∀ n ∈ r, Nm n) : cl (lineR r) ≠ [] := by
 intro q
 have := rowL_lineR h
 have e : lineR r = ⟨#[]⟩ := cl_inj q
 rw [e] at this
 have e2 : rowL ⟨#[]⟩ = [⟨#[]⟩] := by decide +kernel
 rw [e2] at this
 have := h ⟨#[]⟩ (by rw [← this]; exact .head _)
 exact this.free.2.2.2 rfl
theorem rowsT_textR {F : List (List Str)} (h : ∀ r ∈ F, ∀ n ∈ r, Nm n) : rowsT (textR F) = F := by
 cases F with
 | nil => exact if_pos rfl
 | cons r F =>
  have e1 : spl 10 (cl (textR (r :: F))) = ((r :: F).map lineR).map cl := by
   unfold textR
   rw [jn_str, cl_tx, spl_jn (by simp) fun p hp => by
    obtain ⟨l, hl, rfl⟩ := List.mem_map.mp hp
    obtain ⟨x, hx, rfl⟩ := List.mem_map.mp hl
    exact line_free (h x hx)]
  have ne : textR (r :: F) ≠ ⟨#[]⟩ := fun q => by
   rw [q] at e1
   have e2 : ((r :: F).map lineR).map cl = [[]] := by rw [← e1]; decide +kernel
   have : cl (lineR r) = [] := (List.cons.inj e2).1
   exact lineR_ne (h r (.head _)) this
  unfold rowsT
  rw [if_neg ne]
  unfold linesT
  rw [e1, List.map_map, List.map_map, List.map_map]
  rw [List.map_congr_left (g := id) fun x hx => ?_, List.map_id]
  show rowL (tx (cl (lineR x))) = x
  rw [tx_cl, rowL_lineR (h x hx)]
theorem text_blanks {F : List (List Str)} (h : ∀ r ∈ F, ∀ n ∈ r, Nm n) : (cl (textR F)).count 32 ≤ (F.map (·.length)).sum := by
 unfold textR
 rw [jn_str, cl_tx]
 have h1 := count_jn 10 32 ((F.map lineR).map cl)
 rw [if_neg (by decide), Nat.add_zero] at h1
 refine Nat.le_trans h1 ?_
 clear h1
 induction F with
 | nil => simp
 | cons r G ih =>
  simp only [List.map_cons, List.sum_cons]
  have := line_blanks (h r (.head _))
  have := ih fun r hr => h r (.tail _ hr)
  omega
theorem text_ok {F : List (List Str)} (h : ∀ r ∈ F, ∀ n ∈ r, Nm n) (h1 : F.length ≤ 40) (h2 : ∀ r ∈ F, r.length ≤ 20) (h3 : (F.map (·.length)).sum < 62) : TextOK (textR F) := by
 refine ⟨?_, Nat.lt_of_le_of_lt (text_blanks h) h3⟩
 unfold textR
 have k1 := StrLaws.join_length_le nl (F.map lineR)
 have k2 := sum_le (n := 181) (xs := (F.map lineR).map (·.length)) fun x hx => by
  obtain ⟨l, hl, rfl⟩ := List.mem_map.mp hx
  obtain ⟨r, hr, rfl⟩ := List.mem_map.mp hl
  have := lineR_len (xs := r) fun n hn => (h r hr n hn).2.1
  have := h2 r hr
  omega
 rw [List.length_map, List.length_map] at k2
 have k3 : nl.length = 1 := rfl
 rw [List.length_map, k3] at k1
 omega
inductive F_l_greatK (vs : List AV) (H : AH) (Q : QV) : Prop
 | mk (c : Int) : vs = [.int c] → (∀ H', Sub H H' → Q (.bool true) H') → F_l_greatK vs H Q
noncomputable def F_l_great : Fn := fun vs H Q _ => F_l_greatK vs H Q
noncomputable def T_l_great : Ts := (tSeq (tAssign 1 (tBin aMod (tBin aFdiv (tLoc 0) (tVal (.int 2))) (tVal (.int 4)))) (tSeq (tIte (tCmpB aEq (tBin aMod (tLoc 0) (tVal (.int 2))) (tVal (.int 0))) (tSeq (tAssign 2 (tMeth "str" bJoin (tVal (.str (Str.ofString "\n"))) (tCons (tBin aMulL (tList (tCons (tVal (.str (Str.ofString "a"))) tNil)) (tBin aAdd (tVal (.int 29)) (tLoc 1))) tNil))) (tSeq (tRet (tIf (tCmpB aGt (tLoc 1) (tVal (.int 1))) (tCall F_l_refused (tCons (tLoc 2) tNil)) (tCall F_l_right (tCons (tLoc 2) (tCons (tBin aMulL (tList (tCons (tList (tCons (tVal (.str (Str.ofString "a"))) tNil)) tNil)) (tBin aAdd (tVal (.int 29)) (tLoc 1))) tNil))))) tSkip)) tSkip) (tSeq (tAssign 3 (tBcall bListC (tCons (tSlice (tVal (.str (Str.ofString "abcdefghijklmn"))) (tVal .none) (tBin aAdd (tVal (.int 11)) (tLoc 1))) tNil))) (tSeq (tAssign 2 (tMeth "str" bJoin (tVal (.str (Str.ofString " "))) (tCons (tLoc 3) tNil))) (tSeq (tRet (tIf (tCmpB aGt (tLoc 1) (tVal (.int 1))) (tCall F_l_refused (tCons (tLoc 2) tNil)) (tCall F_l_right (tCons (tLoc 2) (tCons (tList (tCons (tLoc 3) tNil)) tNil))))) tSkip)))))
noncomputable def is_l_great : List Nat := [0]
noncomputable def aN : Str := Str.ofString "a"
theorem aN_nm : Nm aN := nm_of (by decide +kernel)
noncomputable def L14s : Str := Str.ofString "abcdefghijklmn"
noncomputable def L14 : List Str := L14s.cps.toList.map fun c => ⟨#[c]⟩
theorem L14_nm : ∀ n ∈ L14, Nm n := fun n hn => nm_of ((by decide +kernel : ∀ n ∈ L14, nmB n = true) n hn)
theorem L14_ris : Ris L14 := by
 have : (L14.Pairwise fun a b => ltS a b = true) := by decide +kernel
 exact this
theorem L14_len : L14.length = 14 := by decide +kernel
theorem rep_flat {α : Type} (x : α) : ∀ n : Nat, (List.replicate n [x]).flatten = List.replicate n x
 | 0 => rfl
 | n + 1 => by rw [List.replicate_succ, List.flatten_cons, rep_flat x n, List.replicate_succ]; rfl
theorem sum_rep (k : Nat) : ∀ n : Nat, (List.replicate n k).sum = n * k
 | 0 => by simp
 | n + 1 => by rw [List.replicate_succ, List.sum_cons, sum_rep k n, Nat.add_mul, Nat.one_mul, Nat.add_comm]
theorem lall_rep {H : AH} {c : Addr} {xs : List Str} (h : LS H c xs) : ∀ n : Nat, LAll H (List.replicate n c) (List.replicate n xs)
 | 0 => .nil
 | n + 1 => by rw [List.replicate_succ, List.replicate_succ]; exact .cons h (lall_rep h n)
theorem ris_one (x : Str) : Ris [x] := List.pairwise_singleton _ _
theorem ok_l_great (vs : List AV) (H : AH) (Q : QV) (X : QX) (h : F_l_great vs H Q X) : mkFn is_l_great T_l_great vs H Q X := by
 obtain ⟨c, rfl, fin⟩ := h
 have q0 : 0 ≤ c / 2 % 4 := by omega
 have q3 : c / 2 % 4 ≤ 3 := by omega
 refine ⟨rfl, _, rfl, by decide, by decide, by decide, ?_⟩
 generalize c / 2 % 4 = q at *
 refine seq_k ⟨_, rfl, by decide, val_k (eq_int (ite_intro _ (fun _ => ?_) fun _ => skip_k ?_))⟩
 ·-- many rows
  have hF : ∀ r ∈ List.replicate (29 + q).toNat [aN], ∀ n ∈ r, Nm n := fun r hr n hn => by
   rw [List.eq_of_mem_replicate hr] at hn
   rw [show n = aN by simpa using hn]; exact aN_nm
  have hr := rowsT_textR hF
  have ok : TextOK (textR (List.replicate (29 + q).toNat [aN])) := text_ok hF (by rw [List.length_replicate]; omega) (fun r hr => by rw [List.eq_of_mem_replicate hr]; decide) (by rw [List.map_replicate, sum_rep]; simp; omega)
  have good : GoodT (textR (List.replicate (29 + q).toNat [aN])) := fun r hr' => by
   rw [hr] at hr'
   exact ⟨hF r hr', by rw [List.eq_of_mem_replicate hr']; exact ris_one aN⟩
  have et : Str.join (Str.ofString "\n") (List.replicate (29 + q).toNat aN) = textR (List.replicate (29 + q).toNat [aN]) := by
   unfold textR
   rw [nl_is, List.map_replicate]; rfl
  refine seq_k ⟨.str _, by simp, fun p hp => ⟨_, rfl, [.str aN], put_get _ _ _, by omega, by omega, by simp, fun r hr' => ?_⟩⟩
  have sp0 := Sub.add hp (.list [.str (Str.ofString "a")])
  have sr := Sub.add hr' (.list (List.replicate (29 + q).toNat [AV.str aN]).flatten)
  refine ⟨Str.ofString "\n", r, List.replicate (29 + q).toNat aN, rfl, ?_, ?_, ?_⟩
  ·rw [put_get, rep_flat, List.map_replicate]
  ·rw [List.map_replicate, sum_rep, List.length_replicate]
   have h1 : (Str.ofString "\n").length = 1 := by decide +kernel
   have h2 : aN.length = 1 := by decide +kernel
   rw [h1, h2]; omega
  ·rw [et]
   have s0 := sp0.trans sr
   refine seq_k ⟨_, rfl, val_k (gt_k (ite_intro _ (fun w => ?_) fun w => ?_))⟩
   ·have w := of_decide_eq_true w
    refine ⟨_, rfl, .txt _ rfl ok (fun g => ?_) fun H' s' => fin H' (s0.trans s')⟩
    have := g.2.1
    rw [hr, List.length_replicate] at this
    omega
   ·have w := of_decide_eq_false w
    refine ⟨_, rfl, by simp, fun p1 hp1 => ⟨by simp, fun p2 hp2 => ⟨_, rfl, [.ref p1], put_get _ _ _, by omega, by omega, by simp, fun r2 hr2 => ?_⟩⟩⟩
    have t1 := Sub.add hp1 (.list [.str (Str.ofString "a")])
    have t2 := Sub.add hp2 (.list [.ref p1])
    have t3 := Sub.add hr2 (.list (List.replicate (29 + q).toNat [AV.ref p1]).flatten)
    refine ⟨_, r2, List.replicate (29 + q).toNat [aN], rfl, ok, good, ?_, ⟨List.replicate (29 + q).toNat p1, ?_, lall_rep (xs := [aN]) ((t2.trans t3) _ _ (put_get _ _ _)) _⟩, ?_, fun r hr' => by rw [List.eq_of_mem_replicate hr']; decide, fun H' s' => fin H' (s0.trans (t1.trans (t2.trans (t3.trans s'))))⟩
    ·rw [hr]
     refine ⟨by rw [List.length_replicate]; omega, ?_⟩
     have := nodup_len (x := [aN]) (dedup_is_nodup (List.replicate (29 + q).toNat [aN]).flatten) fun n hn => by
      rw [rep_flat] at hn
      rw [List.eq_of_mem_replicate (mem_dedup.mp hn)]; exact .head _
     exact Nat.le_trans this (by decide)
    ·show (AH.put _ _ _) r2 = _
     rw [put_get, rep_flat, List.map_replicate]
    ·rw [hr, List.map_replicate]; rfl
 ·-- many names
  have hsl : (Str.ofString "abcdefghijklmn").length ≤ sizeLine := by decide +kernel
  have hcut : (cut (Str.ofString "abcdefghijklmn").cps.toList none (some (11 + q))) = L14s.cps.toList.take (11 + q).toNat := cut_upto _ (by omega)
  have hsg : signs (⟨(cut (Str.ofString "abcdefghijklmn").cps.toList none (some (11 + q))).toArray⟩ : Str) = (L14.take (11 + q).toNat).map AV.str := by
   rw [hcut]
   unfold signs L14
   rw [show (⟨(L14s.cps.toList.take (11 + q).toNat).toArray⟩ : Str).cps.toList = L14s.cps.toList.take (11 + q).toNat by simp, List.map_take, List.map_take, List.map_map]; rfl
  have hnl : (L14.take (11 + q).toNat).length = (11 + q).toNat := by rw [List.length_take, L14_len]; omega
  have hnm : ∀ n ∈ L14.take (11 + q).toNat, Nm n := fun n hn => L14_nm n (List.mem_of_mem_take hn)
  have hris : Ris (L14.take (11 + q).toNat) := L14_ris.sublist (List.take_sublist _ _)
  have hF : ∀ r ∈ [L14.take (11 + q).toNat], ∀ n ∈ r, Nm n := fun r hr n hn => by
   rw [show r = _ by simpa using hr] at hn; exact hnm n hn
  have hr := rowsT_textR hF
  have ne : L14.take (11 + q).toNat ≠ [] := fun e => by rw [e] at hnl; simp at hnl; omega
  have ok : TextOK (textR [L14.take (11 + q).toNat]) := text_ok hF (by simp) (fun r hr => by rw [show r = _ by simpa using hr, hnl]; omega) (by simp; omega)
  have good : GoodT (textR [L14.take (11 + q).toNat]) := fun r hr' => by
   rw [hr] at hr'
   exact ⟨hF r hr', by rw [show r = _ by simpa using hr']; exact hris⟩
  have et : Str.join (Str.ofString " ") (L14.take (11 + q).toNat) = textR [L14.take (11 + q).toNat] := by
   show _ = Str.join nl [lineR _]
   show _ = lineR _
   unfold lineR
   rw [if_neg ne, sp_is]
  refine seq_k ⟨_, rfl, none, some _, .none, .int _, hsl, _, rfl, ?_, fun r3 hr3 => ?_⟩
  ·have := cut_le (Str.ofString "abcdefghijklmn").cps.toList none (some (11 + q))
   have h14 : (Str.ofString "abcdefghijklmn").cps.toList.length = 14 := by decide +kernel
   show (cut _ none (some (11 + q))).toArray.size ≤ _
   rw [List.size_toArray]; omega
  ·rw [hsg]
   have s3 := Sub.add hr3 (.list ((L14.take (11 + q).toNat).map AV.str))
   have g3 : LS (H.put r3 (.list ((L14.take (11 + q).toNat).map AV.str))) r3 (L14.take (11 + q).toNat) := put_get _ _ _
   refine seq_k ⟨.str _, _, rfl, Str.ofString " ", r3, L14.take (11 + q).toNat, rfl, g3, ?_, ?_⟩
   ·have h1 : (Str.ofString " ").length = 1 := by decide +kernel
    have h2 := names_sum (xs := L14.take (11 + q).toNat) fun n hn => (hnm n hn).2.1
    rw [h1]; omega
   ·rw [et]
    refine seq_k ⟨_, rfl, val_k (gt_k (ite_intro _ (fun w => ?_) fun w => ?_))⟩
    ·have w := of_decide_eq_true w
     refine ⟨_, rfl, .txt _ rfl ok (fun g => ?_) fun H' s' => fin H' (s3.trans s')⟩
     have h1 := g.2.2
     rw [hr] at h1
     have h2 : [L14.take (11 + q).toNat].flatten = L14.take (11 + q).toNat := by simp
     rw [h2, dedup_nodup hris.nodup, hnl] at h1
     omega
    ·have w := of_decide_eq_false w
     refine ⟨_, rfl, _, rfl, by simp, fun p2 hp2 => ?_⟩
     have t2 := Sub.add hp2 (.list [.ref r3])
     refine ⟨_, p2, [L14.take (11 + q).toNat], rfl, ok, good, ?_, ⟨[r3], put_get _ _ _, .cons (t2 _ _ g3) .nil⟩, ?_, fun r hr' => by rw [show r = _ by simpa using hr', hnl]; omega, fun H' s' => fin H' (s3.trans (t2.trans s'))⟩
     ·rw [hr]
      refine ⟨by simp, ?_⟩
      have := dedup_len [L14.take (11 + q).toNat].flatten
      have h2 : [L14.take (11 + q).toNat].flatten = L14.take (11 + q).toNat := by simp
      rw [h2, hnl] at this
      rw [h2]; omega
     ·rw [hr]
      show [sortS _] = _
      rw [hris.sort]
end Mine
end
-- text L11
section
namespace Mine
open PySem
set_option maxRecDepth 10000
theorem refs_ex {H : AH} {P : Addr → List Str → Prop} : ∀ {ys : List AV}, (∀ (k : Nat) y, ys[k]? = some y → ∃ c g, y = .ref c ∧ LS H c g ∧ P c g) → ∃ cs F, ys = cs.map AV.ref ∧ LAll H cs F ∧ (∀ g ∈ F, ∃ c, P c g)
 | [], _ => ⟨[], [], rfl, .nil, fun _ h => (nomatch h)⟩
 | y :: ys, h => by
  obtain ⟨c, g, rfl, h1, h2⟩ := h 0 y rfl
  obtain ⟨cs, F, rfl, h3, h4⟩ := refs_ex (ys := ys) fun k y e => h (k + 1) y (by simpa using e)
  refine ⟨c :: cs, g :: F, rfl, .cons h1 h3, fun g' hg => ?_⟩
  rcases List.mem_cons.mp hg with rfl | hg
  ·exact ⟨c, h2⟩
  ·exact h4 g' hg
theorem rows_compC {c0 : Int} (hc0 : 0 ≤ c0) {m : Mp} {i : Nat} {H : AH} {Q : QV} {n : Int} {l a1 r0 : Addr} {ns : List Int} {names : List Str} (hr0 : H r0 = some (.range 0 n)) (v0 : m 0 = some (.ref l)) (v1 : m 1 = some (.ref a1)) (i0 : i ≠ 0) (i1 : i ≠ 1) (hl : H l = some (.script ns)) (h1 : LS H a1 names)
  (hn1 : 1 ≤ names.length) (hn7 : names.length ≤ 12)
  (fin : ∀ cs F r H', Sub H H' → H r = none → RL H' r cs → LAll H' cs F → F.length = n.toNat → (∀ g ∈ F, (∀ x ∈ g, x ∈ names) ∧ (names.Nodup → g.Nodup)) → Q (.ref r) H') :
  CompJ m i (tBoolNil true) (tCall F_l_row (tCons (tLoc 1) (tCons (tCall F_l_draw (tCons (tLoc 0) (tCons (tBin aAdd (tVal (.int c0)) (tLoc i)) tNil))) tNil))) (.ref r0) H Q := by
 refine compJ_sub (kd := .range) (xs := (intsFrom 0 n).map AV.int) ⟨0, _, hr0, rfl⟩ (fun k y H' => ∃ c g, y = .ref c ∧ LS H' c g ∧ ((∀ x ∈ g, x ∈ names) ∧ (names.Nodup → g.Nodup))) ?_ (fun k x H' sb hx Q' hQ => ?_) fun ys H2 sb hl2 hy aR haR => ?_
 ·rintro k y K1 K2 ⟨c, g, h1, h2, h3⟩ s
  exact ⟨c, g, h1, h2.sub s, h3⟩
 ·obtain ⟨hk, rfl⟩ := getElem?_ints hx
  refine ⟨_, (Mp.upd_ne _ _ i1.symm).trans v1, _, (Mp.upd_ne _ _ i0.symm).trans v0, _, Mp.upd_self _ _ _, l, ns, _, rfl, sb _ _ hl, by lia, a1, _, names, rfl, sb _ _ h1, fun e => by rw [e] at hn1; simp at hn1, by lia, fun r row H3 s3 nr hr hs hrl hrd => hQ _ _ s3 ⟨r, row, rfl, hr, hs, hrd⟩⟩
 ·obtain ⟨cs, F, rfl, hC0, hF0⟩ := refs_ex (P := fun c g => (∀ x ∈ g, x ∈ names) ∧ (names.Nodup → g.Nodup)) hy
  have hcl : cs.length = n.toNat := by rw [List.length_map, ints_len] at hl2; exact hl2
  exact fin cs F aR _ (sb.trans (Sub.add haR _)) (sb.new haR) (put_get _ _ _) (hC0.sub (Sub.add haR _)) (by rw [← hC0.length]; exact hcl) fun g hg => by obtain ⟨_, h⟩ := hF0 g hg; exact h
inductive F_lawK (vs : List AV) (H : AH) (Q : QV) : Prop
 | mk (l) (ns) : (vs = [.ref l]) → (H l = some (.script ns)) → (∀ H', Q (.bool true) H') → F_lawK vs H Q
noncomputable def F_law : Fn := fun vs H Q _ => F_lawK vs H Q
noncomputable def T_law : Ts := (tSeq (tAssign 1 (tCall F_l_names (tCons (tLoc 0) tNil))) (tSeq (tAssign 2 (tComp (tBcall bRange (tCons (tBin aMod (tCall F_l_draw (tCons (tLoc 0) (tCons (tVal (.int 1)) tNil))) (tVal (.int 9))) tNil)) 10 (tBoolNil true) (tCall F_l_row (tCons (tLoc 1) (tCons (tCall F_l_draw (tCons (tLoc 0) (tCons (tBin aAdd (tVal (.int 4)) (tLoc 10)) tNil))) tNil))))) (tSeq (tAssign 3 (tCall F_l_book (tCons (tLoc 2) tNil))) (tSeq (tAssign 4 (tCall F_text_of (tCons (tLoc 3) tNil))) (tSeq (tIte (tOrB (tNotB (tTruth (tIsi "str" (tLoc 4)))) (tOrB (tCmpB aNe (tLoc 4) (tCall F_l_text (tCons (tLoc 2) tNil))) (tBoolNil false))) (tSeq (tRet (tVal (.bool false))) tSkip) tSkip) (tSeq (tIte (tNotB (tTruth (tCall F_l_right (tCons (tLoc 4) (tCons (tLoc 2) tNil))))) (tSeq (tRet (tVal (.bool false))) tSkip) tSkip) (tSeq (tAssign 5 (tCall F_read (tCons (tLoc 4) tNil))) (tSeq (tExpr (tMcall (Str.ofString "put") F_b_put (tLoc 5) (tCons (tList (tCons (tItem (tLoc 1) (tVal (.int 0))) tNil)) tNil))) (tSeq (tAssign 6 (tBin aAdd (tLoc 2) (tList (tCons (tList (tCons (tItem (tLoc 1) (tVal (.int 0))) tNil)) tNil)))) (tSeq (tIte (tOrB (tCmpB aNe (tCall F_text_of (tCons (tLoc 5) tNil)) (tCall F_l_text (tCons (tLoc 6) tNil))) (tOrB (tCmpB aNe (tCall F_text_of (tCons (tLoc 3) tNil)) (tLoc 4)) (tBoolNil false))) (tSeq (tRet (tVal (.bool false))) tSkip) tSkip) (tSeq (tExpr (tMcall (Str.ofString "put") F_b_put (tLoc 3) (tCons (tList (tCons (tItem (tLoc 1) (tVal (.int 0))) tNil)) tNil))) (tSeq (tAssign 7 (tItem (tList (tCons (tVal .none) (tCons (tVal (.int 3)) (tCons (tList (tCons (tLoc 4) tNil)) (tCons (tVal (.bool true)) (tCons (tTuple (tCons (tVal (.str (Str.ofString "a"))) tNil)) tNil)))))) (tBin aMod (tCall F_l_draw (tCons (tLoc 0) (tCons (tVal (.int 3)) tNil))) (tVal (.int 5))))) (tSeq (tIte (tOrB (tCmpB aNe (tCall F_text_of (tCons (tLoc 3) tNil)) (tCall F_l_text (tCons (tLoc 6) tNil))) (tOrB (tNotB (tTruth (tCall F_l_refused (tCons (tLoc 7) tNil)))) (tBoolNil false))) (tSeq (tRet (tVal (.bool false))) tSkip) tSkip) (tSeq (tExpr (tMcall (Str.ofString "take") F_b_take (tLoc 3) (tCons (tVal (.int 0)) tNil))) (tSeq (tIte (tCmpB aNe (tCall F_text_of (tCons (tLoc 3) tNil)) (tCall F_l_text (tCons (tSlice (tLoc 6) (tVal (.int 1)) (tVal .none)) tNil))) (tSeq (tRet (tVal (.bool false))) tSkip) tSkip) (tSeq (tIte (tCmpB aEq (tBin aMod (tCall F_l_draw (tCons (tLoc 0) (tCons (tVal (.int 2)) tNil))) (tVal (.int 2))) (tVal (.int 0))) (tSeq (tRet (tAndV (tCmp aEq (tCall F_text_of (tCons (tCall F_read (tCons (tLoc 4) tNil)) tNil)) (tLoc 4)) (tCall F_l_great (tCons (tBin aFdiv (tCall F_l_draw (tCons (tLoc 0) (tCons (tVal (.int 2)) tNil))) (tVal (.int 2))) tNil)))) tSkip) tSkip) (tSeq (tAssign 8 (tCall F_l_spoilt (tCons (tLoc 4) (tCons (tBin aFdiv (tCall F_l_draw (tCons (tLoc 0) (tCons (tVal (.int 2)) tNil))) (tVal (.int 2))) tNil)))) (tSeq (tAssign 9 (tCall F_l_rows (tCons (tLoc 8) tNil))) (tSeq (tIte (tCmpB aSame (tLoc 9) (tVal .none)) (tSeq (tRet (tCall F_l_refused (tCons (tLoc 8) tNil))) tSkip) tSkip) (tSeq (tRet (tCall F_l_right (tCons (tLoc 8) (tCons (tLoc 9) tNil)))) tSkip))))))))))))))))))))
noncomputable def is_law : List Nat := [0]
theorem more_sets (B : Bk) (l : Addr) (row : List Str) : (B.more l row).sets = B.sets ++ [row] := by
 unfold Bk.more Bk.sets
 rw [List.map_append]; rfl
theorem less_head {B : Bk} {r : Int × Addr × List Str} {rs : List (Int × Addr × List Str)} (e : B.rs = r :: rs) (inc : (B.rs.map (·.1)).Pairwise (· < ·)) : (B.less r.1).rs = rs := by
 unfold Bk.less
 rw [e, List.map_cons] at inc
 obtain ⟨i1, i2⟩ := List.pairwise_cons.mp inc
 show B.rs.filter _ = rs
 rw [e, List.filter_cons, if_neg (by simp)]
 refine List.filter_eq_self.mpr fun q hq => ?_
 have := i1 q.1 (List.mem_map.mpr ⟨q, hq, rfl⟩)
 exact decide_eq_true (by omega)
theorem lall_drop1 {H : AH} {as : List Addr} {F : List (List Str)} (h : LAll H as F) : LAll H (as.drop 1) (F.drop 1) := by
 cases h with
 | nil => exact .nil
 | cons _ q => exact q
theorem same_ref {a : Addr} {H : AH} {Q : Bool → AH → Prop} (h : Q false H) : aSame (.ref a) .none H Q := h
theorem same_nn {H : AH} {Q : Bool → AH → Prop} (h : Q true H) : aSame .none .none H Q := h
theorem rows64 {t : Str} (h : TextOK t) : ∀ r ∈ rowsT t, r.length < 64 := by
 intro r hr
 unfold rowsT at hr
 split at hr
 ·exact nomatch hr
 ·obtain ⟨l, hl, rfl⟩ := List.mem_map.mp hr
  exact (line_ok h l hl).2.1
theorem ok_law (vs : List AV) (H : AH) (Q : QV) (X : QX) (h : F_law vs H Q X) : mkFn is_law T_law vs H Q X := by
 obtain ⟨l, ns, rfl, hl, fin⟩ := h
 refine ⟨rfl, _, rfl, l, ns, rfl, hl, fun an names H1 s1 n1 h1 hnd hn1 hn7 hnm => ?_⟩
 have hl1 := s1 _ _ hl
 refine seq_k ⟨_, rfl, l, ns, 1, rfl, hl1, by decide, by decide, _, rfl, by omega, by omega, fun r0 hr0 => ?_⟩
 have s2 := Sub.add hr0 (.range 0 (drw ns 1 % 9))
 refine rows_compC (c0 := 4) (by decide) (put_get _ _ _) rfl rfl (by decide) (by decide) (s2 _ _ hl1) (s2 _ _ h1) hn1 (by omega) fun cs F aR H3 s3 nR hR hC hFl hF => ?_
 have s13 := s2.trans s3
 have hl3 := s13 _ _ hl1
 have hn3 := s13 _ _ h1
 have hF8 : F.length ≤ 8 := by rw [hFl]; omega
 have hFo : ∀ r ∈ F, r.Nodup ∧ ∀ n ∈ r, n ∈ names := fun r hr => ⟨(hF r hr).2 hnd, (hF r hr).1⟩
 have hFm : ∀ r ∈ F, ∀ n ∈ r, Nm n := fun r hr n hn => hnm n ((hFo r hr).2 n hn)
 have hF7 : ∀ r ∈ F, r.length ≤ 7 := fun r hr => Nat.le_trans (nodup_len (hFo r hr).1 (hFo r hr).2) hn7
 clear s1 n1 s2 hr0 nR hl h1 hl1 s13 s3
 refine seq_k ⟨_, rfl, aR, F, names, rfl, ⟨cs, hR, hC⟩, by omega, hFo, hnm, by omega, fun B H4 s4 hB hBs hBc hBn hnew => ?_⟩
 refine seq_k ⟨_, rfl, B, rfl, hB, fun H5 s5 => ?_⟩
 rw [hBs]
 have hSm : ∀ r ∈ F.map sortS, ∀ n ∈ r, Nm n := fun r hr n hn => by
  obtain ⟨x, hx, rfl⟩ := List.mem_map.mp hr
  exact hFm x hx n (mem_sortS.mp hn)
 have base : BaseT (textR (F.map sortS)) (F.map sortS) names := ⟨rfl, hSm, fun r hr n hn => by
  obtain ⟨x, hx, rfl⟩ := List.mem_map.mp hr
  exact (hFo x hx).2 n (mem_sortS.mp hn), fun r hr => by
  obtain ⟨x, hx, rfl⟩ := List.mem_map.mp hr
  rw [sortS_len]; exact hF7 x hx, by rw [List.length_map]; omega, hn7⟩
 have hrows : rowsT (textR (F.map sortS)) = F.map sortS := rowsT_textR hSm
 have good : GoodT (textR (F.map sortS)) := fun r hr => by
  rw [hrows] at hr
  refine ⟨hSm r hr, ?_⟩
  obtain ⟨x, hx, rfl⟩ := List.mem_map.mp hr
  exact sortS_ris (hFo x hx).1
 have nk := near base (by rw [List.length_map]; exact hF8) [] (by simp) (fun w hw => .inl hw) (by omega) (by omega) (by omega)
 have ok := nk.1
 have fit := nk.2 good
 have sets0 : ∀ x ∈ F.map sortS, ∀ n ∈ x, n ∈ names := base.sub
 generalize ht : textR (F.map sortS) = t at *
 have s45 := s4.trans s5
 have hB5 := hB.sub s5
 have LF5 : LL H5 aR F := ⟨cs, s45 _ _ hR, hC.sub s45⟩
 have hn5 := s45 _ _ hn3
 have hl5 := s45 _ _ hl3
 have bF : ∀ r ∈ F, r.length ≤ 40 ∧ ∀ n ∈ r, n.length ≤ 8 := fun r hr => ⟨by have := hF7 r hr; omega, fun n hn => (hFm r hr n hn).2.1⟩
 refine seq_k ⟨_, rfl, true, isi_str, true, rfl, _, rfl, _, rfl, aR, F, rfl, LF5, by omega, bF, fun H6 s6 => ne_str ?_⟩
 rw [ht, decide_eq_true rfl]
 refine ite_f (nil_k (ite_f (skip_k ?_)))
 refine seq_k ⟨_, rfl, _, rfl, t, aR, F, rfl, ok, good, fit, LF5.sub s6, hrows.symm, fun r hr => by have := hF7 r hr; omega, fun H7 s7 => ⟨true, rfl, ?_⟩⟩
 refine ite_f (skip_k ?_)
 have s57 := s6.trans s7
 have hB7 := hB5.sub s57
 have LF7 := LF5.sub s57
 have hn7' := s57 _ _ hn5
 have hl7 := s57 _ _ hl5
 clear s6 s7 s57 LF5 hn5 hl5 hB5 s45 s4 s5 hB hR hC hn3 hl3 hnew
 refine seq_k ⟨_, rfl, .txt t rfl ok (fun _ _ B2 H8 s8 hB2 hnum2 hc2 hnew2 => ?_) fun q => absurd ⟨good, fit⟩ q⟩
 have hB8 := hB7.sub s8
 have LF8 := LF7.sub s8
 have hn8 := s8 _ _ hn7'
 have hl8 := s8 _ _ hl7
 have hs2 : B2.sets = F.map sortS := by rw [sets_num hnum2, hrows]
 have nd : B.d ≠ B2.d := fun e => by have := hnew2 B2.d (.inr (.inl rfl)); rw [← e, hB7.attrs] at this; cases this
 have nk' : B.k ≠ B2.k := fun e => by have := hnew2 B2.k (.inr (.inr (.inl rfl))); rw [← e, hB7.kept] at this; cases this
 clear hnew2 hB7 LF7 hn7' hl7 s8
 obtain ⟨n0, hn0⟩ : ∃ n0, names[0]? = some n0 := ⟨_, List.getElem?_eq_getElem (by omega)⟩
 have hn0m := List.mem_of_getElem? hn0
 have hi0 : idx (names.map AV.str) 0 = some (.str n0) := idx_zero (by rw [List.getElem?_map, hn0]; rfl)
 have one_nd : [n0].Nodup := List.nodup_cons.mpr ⟨fun h => (nomatch h), .nil⟩
 have one_m : ∀ n ∈ [n0], n ∈ names := fun n hn => by rw [show n = n0 by simpa using hn]; exact hn0m
 have hBl2 : B2.rs.length = F.length := by rw [← Bk.sets_len, hs2, List.length_map]
 have hBl : B.rs.length = F.length := by rw [← Bk.sets_len, hBs, List.length_map]
 refine seq_k ⟨_, rfl, B2.a, B2.d, _, rfl, hB2.inst, hB2.attrs, by kernel_rfl, _, rfl, _, hn8, .str n0, hi0, by simp, fun p1 hp1 => ?_⟩
 have sp1 := Sub.add hp1 (.list [.str n0])
 refine .ok B2 p1 [n0] names rfl (hB2.sub sp1) (put_get _ _ _) one_nd (fun n hn => hnm n (one_m n hn)) (by omega) (by omega) (by rw [hs2]; exact sets0) one_m fun l2 H9 c9 nl9 hB29 => ⟨fun _ h => (nomatch h), ?_⟩
 have hB9 := c9.bk (hB2.sub sp1) (hB8.sub sp1) nd nk'
 have LF9 := c9.ll (hB2.sub sp1) (LF8.sub sp1)
 have hn9 := c9.lst (hB2.sub sp1) (sp1 _ _ hn8)
 have hl9 : H9 l = some (.script ns) := c9.at (hB2.sub sp1) (sp1 _ _ hl8) (fun e q => by cases q) fun e q => by cases q
 clear hB8 LF8 hn8 hl8 hB2 sp1 hp1 c9 nl9
 obtain ⟨cs9, hR9, hC9⟩ := LF9
 have cl9 := hC9.length
 refine seq_k ⟨_, rfl, _, rfl, _, hn9, .str n0, hi0, by simp, fun p2 hp2 => ⟨by simp, fun p3 hp3 => ⟨cs9.map AV.ref, [.ref p2], ?_, put_get _ _ _, ?_, fun aM haM => ?_⟩⟩⟩
 ·exact Sub.add hp3 _ _ _ (Sub.add hp2 (.list [.str n0]) _ _ hR9)
 ·rw [List.length_map, sizeLine_is]; simp; omega
 have t2 := Sub.add hp2 (.list [.str n0])
 have t3 := Sub.add hp3 (.list [.ref p2])
 have t4 := Sub.add haM (.list (cs9.map AV.ref ++ [.ref p2]))
 have s10 := t2.trans (t3.trans t4)
 have LM : LL _ aM (F ++ [[n0]]) := ⟨cs9 ++ [p2], by show (AH.put _ _ _) aM = _; rw [put_get, List.map_append]; rfl, (hC9.sub s10).append (.cons ((t3.trans t4) _ _ (put_get H9 p2 (.list [.str n0]))) .nil)⟩
 have hB210 := hB29.sub s10
 have hB10 := hB9.sub s10
 have hn10 := s10 _ _ hn9
 have hl10 := s10 _ _ hl9
 clear t2 t3 t4 hp2 hp3 haM s10 hB9 hB29 hn9 hl9 hR9 hC9
 generalize AH.put _ aM _ = H10 at *
 have bM : ∀ r ∈ F ++ [[n0]], r.length ≤ 40 ∧ ∀ n ∈ r, n.length ≤ 8 := fun r hr => by
  rcases List.mem_append.mp hr with hr | hr
  ·exact bF r hr
  ·rw [show r = [n0] by simpa using hr]
   exact ⟨by simp, fun n hn => (hnm n (one_m n hn)).2.1⟩
 have lM : (F ++ [[n0]]).length ≤ 9 := by rw [List.length_append]; simp; omega
 have eM : ∀ D : Bk, D.sets = F.map sortS → ∀ a, (D.more a (sortS [n0])).sets = (F ++ [[n0]]).map sortS := fun D e a => by rw [more_sets, e, List.map_append]; rfl
 refine seq_k ⟨_, rfl, B2.more l2 (sortS [n0]), rfl, hB210, fun H11 s11 => ⟨_, rfl, aM, F ++ [[n0]], rfl, LM.sub s11, by omega, bM, fun H12 s12 => ne_str ?_⟩⟩
 rw [eM B2 hs2, decide_eq_true rfl]
 refine ite_f ⟨_, rfl, B, rfl, hB10.sub (s11.trans s12), fun H13 s13 => ⟨_, rfl, ne_str ?_⟩⟩
 rw [hBs, ht, decide_eq_true rfl]
 refine ite_f (nil_k (ite_f (skip_k ?_)))
 have q13 := s11.trans (s12.trans s13)
 have hB13 := hB10.sub q13
 have LM13 := LM.sub q13
 have hn13 := q13 _ _ hn10
 have hl13 := q13 _ _ hl10
 clear hB10 LM hn10 hl10 s11 s12 s13 q13 hB210
 refine seq_k ⟨_, rfl, B.a, B.d, _, rfl, hB13.inst, hB13.attrs, by kernel_rfl, _, rfl, _, hn13, .str n0, hi0, by simp, fun p4 hp4 => ?_⟩
 have sp4 := Sub.add hp4 (.list [.str n0])
 refine .ok B p4 [n0] names rfl (hB13.sub sp4) (put_get _ _ _) one_nd (fun n hn => hnm n (one_m n hn)) (by omega) (by omega) (by rw [hBs]; exact sets0) one_m fun l3 H14 c14 nl14 hB14 => ⟨fun _ h => (nomatch h), ?_⟩
 have LM14 := c14.ll (hB13.sub sp4) (LM13.sub sp4)
 have hl14 : H14 l = some (.script ns) := c14.at (hB13.sub sp4) (sp4 _ _ hl13) (fun e q => by cases q) fun e q => by cases q
 clear c14 hB13 LM13 sp4 hp4 nl14 hn13 hl13
 refine seq_k ⟨_, rfl, by simp, fun q1 hq1 => ⟨by simp, fun q2 hq2 => ⟨Nat.le_of_ble_eq_true rfl, fun q3 hq3 => ?_⟩⟩⟩
 have u1 := Sub.add hq1 (.list [.str t])
 have u2 := Sub.add hq2 (.tuple [.str (Str.ofString "a")])
 have u3 := Sub.add hq3 (.list [.none, .int 3, .ref q1, .bool true, .ref q2])
 have g1 := (u2.trans u3) _ _ (put_get H14 q1 (.list [.str t]))
 have g2 := u3 _ _ (put_get (H14.put q1 (.list [.str t])) q2 (.tuple [.str (Str.ofString "a")]))
 have g3 := put_get ((H14.put q1 (.list [.str t])).put q2 (.tuple [.str (Str.ofString "a")])) q3 (.list [.none, .int 3, .ref q1, .bool true, .ref q2])
 have u := u1.trans (u2.trans u3)
 have hB15 := hB14.sub u
 have LM15 := LM14.sub u
 have hl15 := u _ _ hl14
 clear u u1 u2 u3 hq1 hq2 hq3 hB14 LM14 hl14
 generalize AH.put _ q3 _ = H15 at *
 obtain ⟨v, hv, hm⟩ := idx_mem (k := drw ns 3 % 5) (xs := [AV.none, .int 3, .ref q1, .bool true, .ref q2]) (by omega) (by simp; omega)
 refine ⟨_, rfl, l, ns, 3, rfl, hl15, by decide, by decide, _, g3, v, hv, ?_⟩
 have hodd : aIs "str" v H15 = some false := by
  simp only [List.mem_cons, List.not_mem_nil, or_false] at hm
  rcases hm with rfl | rfl | rfl | rfl | rfl
  ·rfl
  ·simp [aIs]
  ·simp [aIs, g1]
  ·simp [aIs]
  ·simp [aIs, g2]
 refine seq_k ⟨_, rfl, B.more l3 (sortS [n0]), rfl, hB15, fun H16 s16 => ⟨_, rfl, aM, F ++ [[n0]], rfl, LM15.sub s16, by omega, bM, fun H17 s17 => ne_str ?_⟩⟩
 rw [eM B hBs, decide_eq_true rfl]
 have hodd17 : aIs "str" v H17 = some false := by
  simp only [List.mem_cons, List.not_mem_nil, or_false] at hm
  have g1 := (s16.trans s17) _ _ g1
  have g2 := (s16.trans s17) _ _ g2
  rcases hm with rfl | rfl | rfl | rfl | rfl
  ·rfl
  ·simp [aIs]
  ·simp [aIs, g1]
  ·simp [aIs]
  ·simp [aIs, g2]
 refine ite_f ⟨_, rfl, .odd v rfl hodd17 fun H18 s18 => ⟨true, rfl, ?_⟩⟩
 refine ite_f (nil_k (ite_f (skip_k ?_)))
 have q18 := s16.trans (s17.trans s18)
 have hB18 := hB15.sub q18
 have LM18 := LM15.sub q18
 have hl18 := q18 _ _ hl15
 clear hB15 LM15 hl15 s16 s17 s18 q18 hodd hodd17 g1 g2 g3 hm hv
 have num' : (B.more l3 (sortS [n0])).rs.map (·.1) = (List.range (F.length + 1)).map fun k : Nat => (k : Int) := by
  show (B.rs ++ [(B.c, l3, sortS [n0])]).map (·.1) = _
  rw [List.map_append, hBn, List.range_succ, List.map_append, hBc]; rfl
 have sets' := eM B hBs l3
 obtain ⟨r, rs, er, e0⟩ : ∃ r rs, (B.more l3 (sortS [n0])).rs = r :: rs ∧ r.1 = 0 := by
  cases e : (B.more l3 (sortS [n0])).rs with
  | nil => rw [e, List.range_succ_eq_map] at num'; simp at num'
  | cons r rs =>
   rw [e, List.map_cons, List.range_succ_eq_map, List.map_cons] at num'
   exact ⟨r, rs, rfl, by simpa using (List.cons.inj num').1⟩
 refine seq_k ⟨_, rfl, B.a, B.d, _, rfl, hB18.inst, hB18.attrs, by kernel_rfl, B.more l3 (sortS [n0]), 0, rfl, hB18, ⟨r, by rw [er]; exact .head _, e0⟩, fun H19 c19 hB19 => ⟨fun _ h => (nomatch h), ?_⟩⟩
 have LM19 := c19.ll hB18 LM18
 have hl19 : H19 l = some (.script ns) := c19.at hB18 hl18 (fun e q => by cases q) fun e q => by cases q
 have setsL : ((B.more l3 (sortS [n0])).less 0).sets = ((F ++ [[n0]]).drop 1).map sortS := by
  have h1 := less_head er hB18.inc
  rw [e0] at h1
  unfold Bk.sets at sets' ⊢
  rw [h1, List.map_drop, ← sets', er]; rfl
 clear c19 hB18 LM18 hl18
 obtain ⟨ms, hRM, hCM⟩ := LM19
 refine seq_k ⟨_, rfl, (B.more l3 (sortS [n0])).less 0, rfl, hB19, fun H20 s20 => ⟨_, rfl, some 1, none, .int 1, .none, _, s20 _ _ hRM, fun aS haS => ?_⟩⟩
 have ec : cut (ms.map AV.ref) (some 1) none = (ms.drop 1).map AV.ref := by rw [cut_from _ (by decide), List.map_drop]; rfl
 rw [ec]
 have sS := Sub.add haS (.list ((ms.drop 1).map AV.ref))
 have ll_drop : LAll (H20.put aS (.list ((ms.drop 1).map AV.ref))) (ms.drop 1) ((F ++ [[n0]]).drop 1) := lall_drop1 ((hCM.sub s20).sub sS)
 refine ⟨aS, (F ++ [[n0]]).drop 1, rfl, ⟨ms.drop 1, put_get _ _ _, ll_drop⟩, by rw [List.length_drop]; omega, fun r hr => bM r (List.mem_of_mem_drop hr), fun H21 s21 => ne_str ?_⟩
 rw [setsL, decide_eq_true rfl]
 refine ite_f (skip_k ?_)
 have hl21 := (s20.trans (sS.trans s21)) _ _ hl19
 clear hB19 hRM hCM ll_drop
 refine seq_k ⟨_, rfl, l, ns, 2, rfl, hl21, by decide, by decide, val_k (eq_int (ite_intro _ (fun _ => ?_) fun _ => skip_k ?_))⟩
 ·refine seq_k ⟨_, rfl, .txt t rfl ok (fun _ _ B3 H22 s22 hB3 hnum3 _ _ => ⟨B3, rfl, hB3, fun H23 s23 => ⟨_, rfl, eq_str ?_⟩⟩) fun q => absurd ⟨good, fit⟩ q⟩
  rw [sets_num hnum3, textR_rowsT, decide_eq_true rfl]
  exact ⟨true, rfl, ite_t ⟨_, rfl, l, ns, 2, rfl, (s22.trans s23) _ _ hl21, by decide, by decide, by decide, _, rfl, fun H' _ => fin H'⟩⟩
 ·refine seq_k ⟨_, rfl, _, rfl, l, ns, 2, rfl, hl21, by decide, by decide, by decide, t, _, F.map sortS, names, rfl, base, by rw [List.length_map]; exact hF8, fun t' H22 s22 ok' fit' => ?_⟩
  refine seq_k ⟨_, rfl, t', rfl, ok', fun g r H23 s23 nr hLL => ?_, fun g H23 s23 => ?_⟩
  ·refine seq_k ⟨_, rfl, val_k (same_ref (ite_f (skip_k ?_)))⟩
   exact seq_k ⟨_, rfl, _, rfl, t', r, rowsT t', rfl, ok', g, fit' g, hLL, map_sort_ris fun r hr => (g r hr).2, rows64 ok', fun H' _ => fin H'⟩
  ·refine seq_k ⟨_, rfl, val_k (same_nn (ite_t ?_))⟩
   exact seq_k ⟨_, rfl, .txt t' rfl ok' (fun q => g q.1) fun H' _ => fin H'⟩
end Mine
end
section
set_option maxRecDepth 100000
set_option maxHeartbeats 4000000
namespace Mine
open PySem PySem.Calls PyProof.Rows PySem.W
noncomputable def excT : Str → Option Addr := fun x => List.lookup x [((Str.ofString "BadName"), 44), ((Str.ofString "BadRow"), 56), ((Str.ofString "TooMany"), 80), ((Str.ofString "Unread"), 104)]
theorem sE_v {S : St} {b : Bool} {d : Nat} {sc : Kd} {ρ : Rho} {x : Str} {i : Nat} {pos : Pos} (h1 : ρ.lookup x = some i := by kernel_rfl) (h2 : (x == ("__debug__" : Str)) = false := by kernel_rfl) (h3 : (x == ("__classdict__" : Str)) = false := by kernel_rfl) : SoundE S b d sc ρ (.Name x pos) (tLoc i) := sE_loc pos h1 h2 h3
noncomputable def rho_l_draw : Rho := [((Str.ofString "_law_script"), 0), ((Str.ofString "_law_k"), 1)]
theorem snd_l_draw {S : St} {P : Params} (E : EnvL S (KK P)) (hE : S.excs = excT) (hO_BadName : OwnVE S (Str.ofString "BadName") 44) (hO_BadRow : OwnVE S (Str.ofString "BadRow") 56) (hO_TooMany : OwnVE S (Str.ofString "TooMany") 80) (hO_Unread : OwnVE S (Str.ofString "Unread") 104) (CL : Cls S (KK P)) (hB : S.book = 289)  : SoundS S true 1 (scAt (KK P) 333) rho_l_draw (bodyAt (KK P) 333) T_l_draw :=
 have rho0 : RhoOK rho_l_draw := rho_ok (by kernel_rfl)
 (sS_cons (sT_ret (sE_if (sB_cmp cmp_gt (sE_bcall E.KS (bLen_ok E.KS) (sEs_cons sE_v sEs_nil (fun _ => rfl)) (by kernel_rfl) (E.g (by kernel_rfl)) (E.b (by kernel_rfl) (by kernel_rfl)) (by kernel_rfl) (by kernel_rfl)) sE_v rfl) (sE_item sE_v sE_v) (sE_int _ _ _)))
 sS_nil)
theorem fn_l_draw {S : St} {P : Params} (E : EnvL S (KK P)) (hE : S.excs = excT) (hO_BadName : OwnVE S (Str.ofString "BadName") 44) (hO_BadRow : OwnVE S (Str.ofString "BadRow") 56) (hO_TooMany : OwnVE S (Str.ofString "TooMany") 80) (hO_Unread : OwnVE S (Str.ofString "Unread") 104) (CL : Cls S (KK P)) (hB : S.book = 289)  : SoundF S true 2 (.ref 333) (mkFn is_l_draw T_l_draw) :=
 sF_defK E.KS (isDef_of E.X (cd := 332) (ps := [(Str.ofString "_law_script"), (Str.ofString "_law_k")]) rfl ⟨_, rfl⟩ rfl rfl rfl rfl ⟨_, _, _, rfl, rfl, rfl⟩ (bind2 fun _ _ => rfl)) (by kernel_rfl) (snd_l_draw E hE hO_BadName hO_BadRow hO_TooMany hO_Unread CL hB )
noncomputable def rho_l_names : Rho := [((Str.ofString "_law_script"), 0), ((Str.ofString "_law_letters"), 1), ((Str.ofString "_law_cell"), 2), ((Str.ofString "_law_many"), 3), ((Str.ofString "_law_turned"), 4), ((Str.ofString "_law_size"), 5), ((Str.ofString "_law_base"), 6), ((Str.ofString "_law_at"), 7)]
theorem snd_l_names {S : St} {P : Params} (E : EnvL S (KK P)) (hE : S.excs = excT) (hO_BadName : OwnVE S (Str.ofString "BadName") 44) (hO_BadRow : OwnVE S (Str.ofString "BadRow") 56) (hO_TooMany : OwnVE S (Str.ofString "TooMany") 80) (hO_Unread : OwnVE S (Str.ofString "Unread") 104) (CL : Cls S (KK P)) (hB : S.book = 289) (h_l_draw : SoundF S true 2 (.ref 333) F_l_draw) : SoundS S true 3 (scAt (KK P) 338) rho_l_names (bodyAt (KK P) 338) T_l_names :=
 have rho0 : RhoOK rho_l_names := rho_ok (by kernel_rfl)
 (sS_cons (sT_assign (sE_str _ _ _ (by kernel_rfl)) rho0 (by kernel_rfl) (or_kd (by kernel_rfl)) (fun _ => rfl))
 (sS_cons (sT_assign (sE_callD E.KS (h_l_draw.deeper (by omega)) (sEs_cons sE_v (sEs_cons (sE_int _ _ _) sEs_nil (fun _ => rfl)) (fun _ => rfl)) (by kernel_rfl) (E.g (by kernel_rfl)) (isFn_of E.X (by kernel_rfl)) (by kernel_rfl) (by kernel_rfl)) rho0 (by kernel_rfl) (or_kd (by kernel_rfl)) (fun _ => rfl))
 (sS_cons (sT_assign (sE_bin bin_add (sE_int _ _ _) (sE_bin bin_mod sE_v (sE_int _ _ _))) rho0 (by kernel_rfl) (or_kd (by kernel_rfl)) (fun _ => rfl))
 (sS_cons (sT_if (sB_cmp cmp_eq (sE_bin bin_mod (sE_bin bin_fdiv sE_v (sE_int _ _ _)) (sE_int _ _ _)) (sE_int _ _ _) rfl) (sS_cons (sT_ret (sE_comp (sE_tcall E.KS (bRange_ok) (sEs_cons sE_v sEs_nil (fun _ => rfl)) (by kernel_rfl) (E.g (by kernel_rfl)) (E.b (by kernel_rfl) (by kernel_rfl)) (by kernel_rfl) (by kernel_rfl)) sFs_nil (sE_slice (sE_slice sE_v (sP_some (sE_bin bin_mod (sE_bin bin_fdiv sE_v (sE_int _ _ _)) (sE_int _ _ _))) sP_none) sP_none (sP_some (sE_bin bin_add sE_v (sE_int _ _ _)))) (comp_at (by kernel_rfl)) (fun _ _ => rfl)))
 sS_nil) sS_nil)
 (sS_cons (sT_if (sB_cmp cmp_eq (sE_bin bin_mod (sE_bin bin_fdiv sE_v (sE_int _ _ _)) (sE_int _ _ _)) (sE_int _ _ _) rfl) (sS_cons (sT_assign (sE_slice (sE_slice sE_v (sP_some (sE_bin bin_mod (sE_bin bin_fdiv sE_v (sE_int _ _ _)) (sE_int _ _ _))) sP_none) sP_none (sP_some (sE_int _ _ _))) rho0 (by kernel_rfl) (or_kd (by kernel_rfl)) (fun _ => rfl))
 (sS_cons (sT_ret (sE_comp (sE_tcall E.KS (bRange_ok) (sEs_cons sE_v sEs_nil (fun _ => rfl)) (by kernel_rfl) (E.g (by kernel_rfl)) (E.b (by kernel_rfl) (by kernel_rfl)) (by kernel_rfl) (by kernel_rfl)) sFs_nil (sE_bin bin_add (sE_slice sE_v (sP_some sE_v) sP_none) (sE_slice sE_v sP_none (sP_some sE_v))) (comp_at (by kernel_rfl)) (fun _ _ => rfl)))
 sS_nil)) sS_nil)
 (sS_cons (sT_assign (sE_bin bin_mod (sE_bin bin_fdiv sE_v (sE_int _ _ _)) (sE_int _ _ _)) rho0 (by kernel_rfl) (or_kd (by kernel_rfl)) (fun _ => rfl))
 (sS_cons (sT_assign (sE_meth meth_join bJoin_ok (sE_str _ _ _ (by kernel_rfl)) (sEs_cons (sE_comp (sE_tcall E.KS (bRange_ok) (sEs_cons sE_v sEs_nil (fun _ => rfl)) (by kernel_rfl) (E.g (by kernel_rfl)) (E.b (by kernel_rfl) (by kernel_rfl)) (by kernel_rfl) (by kernel_rfl)) sFs_nil (sE_item sE_v (sE_bin bin_mod (sE_bin bin_add (sE_bin bin_fdiv sE_v (sE_int _ _ _)) (sE_bin bin_mul (sE_int _ _ _) sE_v)) (sE_int _ _ _))) (comp_at (by kernel_rfl)) (fun _ _ => rfl)) sEs_nil (fun _ => rfl)) (fun _ => rfl) (by kernel_rfl) (by kernel_rfl) (by decide)) rho0 (by kernel_rfl) (or_kd (by kernel_rfl)) (fun _ => rfl))
 (sS_cons (sT_assign (sE_bin bin_mod (sE_bin bin_fdiv sE_v (sE_int _ _ _)) (sE_bin bin_add sE_v (sE_int _ _ _))) rho0 (by kernel_rfl) (or_kd (by kernel_rfl)) (fun _ => rfl))
 (sS_cons (sT_ret (sE_comp (sE_tcall E.KS (bRange_ok) (sEs_cons sE_v sEs_nil (fun _ => rfl)) (by kernel_rfl) (E.g (by kernel_rfl)) (E.b (by kernel_rfl) (by kernel_rfl)) (by kernel_rfl) (by kernel_rfl)) sFs_nil (sE_bin bin_add (sE_bin bin_add (sE_slice sE_v sP_none (sP_some sE_v)) (sE_item sE_v (sE_bin bin_mod (sE_bin bin_add (sE_bin bin_fdiv sE_v (sE_int _ _ _)) (sE_bin bin_mul (sE_int _ _ _) sE_v)) (sE_int _ _ _)))) (sE_slice sE_v (sP_some sE_v) sP_none)) (comp_at (by kernel_rfl)) (fun _ _ => rfl)))
 sS_nil)))))))))
theorem fn_l_names {S : St} {P : Params} (E : EnvL S (KK P)) (hE : S.excs = excT) (hO_BadName : OwnVE S (Str.ofString "BadName") 44) (hO_BadRow : OwnVE S (Str.ofString "BadRow") 56) (hO_TooMany : OwnVE S (Str.ofString "TooMany") 80) (hO_Unread : OwnVE S (Str.ofString "Unread") 104) (CL : Cls S (KK P)) (hB : S.book = 289) (h_l_draw : SoundF S true 2 (.ref 333) F_l_draw) : SoundF S true 4 (.ref 338) (mkFn is_l_names T_l_names) :=
 sF_defK E.KS (isDef_of E.X (cd := 337) (ps := [(Str.ofString "_law_script")]) rfl ⟨_, rfl⟩ rfl rfl rfl rfl ⟨_, _, _, rfl, rfl, rfl⟩ (bind1 fun _ => rfl)) (by kernel_rfl) (snd_l_names E hE hO_BadName hO_BadRow hO_TooMany hO_Unread CL hB h_l_draw)
noncomputable def rho_l_row : Rho := [((Str.ofString "_law_names_here"), 0), ((Str.ofString "_law_cell"), 1), ((Str.ofString "_law_found"), 2), ((Str.ofString "_law_bits"), 3), ((Str.ofString "_law_name"), 4)]
theorem snd_l_row {S : St} {P : Params} (E : EnvL S (KK P)) (hE : S.excs = excT) (hO_BadName : OwnVE S (Str.ofString "BadName") 44) (hO_BadRow : OwnVE S (Str.ofString "BadRow") 56) (hO_TooMany : OwnVE S (Str.ofString "TooMany") 80) (hO_Unread : OwnVE S (Str.ofString "Unread") 104) (CL : Cls S (KK P)) (hB : S.book = 289)  : SoundS S true 1 (scAt (KK P) 345) rho_l_row (bodyAt (KK P) 345) T_l_row :=
 have rho0 : RhoOK rho_l_row := rho_ok (by kernel_rfl)
 (sS_cons (sT_assign (sE_list sEs_nil) rho0 (by kernel_rfl) (or_kd (by kernel_rfl)) (fun _ => rfl))
 (sS_cons (sT_assign (sE_bin bin_fdiv sE_v (sE_int _ _ _)) rho0 (by kernel_rfl) (or_kd (by kernel_rfl)) (fun _ => rfl))
 (sS_cons (sT_for sE_v (sS_cons (sT_if (sB_cmp cmp_eq (sE_bin bin_mod sE_v (sE_int _ _ _)) (sE_int _ _ _) rfl) (sS_cons (sT_expr (sE_meth meth_append bAppend_ok sE_v (sEs_cons sE_v sEs_nil (fun _ => rfl)) (fun _ => rfl) (by kernel_rfl) (by kernel_rfl) (by decide)) (fun _ => rfl))
 sS_nil) sS_nil)
 (sS_cons (sT_assign (sE_bin bin_fdiv sE_v (sE_int _ _ _)) rho0 (by kernel_rfl) (or_kd (by kernel_rfl)) (fun _ => rfl))
 sS_nil)) rho0 (by kernel_rfl) (or_kd (by kernel_rfl)) (fun _ _ => rfl))
 (sS_cons (sT_if (sB_boolOp (sL_and (sB_cmp cmp_eq sE_v (sE_list sEs_nil) rfl) (sL_and (sB_cmp cmp_gt (sE_bin bin_mod sE_v (sE_int _ _ _)) (sE_int _ _ _) rfl) sL_andNil))) (sS_cons (sT_assign (sE_list (sEs_cons (sE_item sE_v (sE_bin bin_mod sE_v (sE_bcall E.KS (bLen_ok E.KS) (sEs_cons sE_v sEs_nil (fun _ => rfl)) (by kernel_rfl) (E.g (by kernel_rfl)) (E.b (by kernel_rfl) (by kernel_rfl)) (by kernel_rfl) (by kernel_rfl)))) sEs_nil (fun _ => rfl))) rho0 (by kernel_rfl) (or_kd (by kernel_rfl)) (fun _ => rfl))
 sS_nil) sS_nil)
 (sS_cons (sT_ret (sE_if (sB_cmp cmp_eq (sE_bin bin_mod sE_v (sE_int _ _ _)) (sE_int _ _ _) rfl) (sE_rev sE_v) sE_v))
 sS_nil)))))
theorem fn_l_row {S : St} {P : Params} (E : EnvL S (KK P)) (hE : S.excs = excT) (hO_BadName : OwnVE S (Str.ofString "BadName") 44) (hO_BadRow : OwnVE S (Str.ofString "BadRow") 56) (hO_TooMany : OwnVE S (Str.ofString "TooMany") 80) (hO_Unread : OwnVE S (Str.ofString "Unread") 104) (CL : Cls S (KK P)) (hB : S.book = 289)  : SoundF S true 2 (.ref 345) (mkFn is_l_row T_l_row) :=
 sF_defK E.KS (isDef_of E.X (cd := 344) (ps := [(Str.ofString "_law_names_here"), (Str.ofString "_law_cell")]) rfl ⟨_, rfl⟩ rfl rfl rfl rfl ⟨_, _, _, rfl, rfl, rfl⟩ (bind2 fun _ _ => rfl)) (by kernel_rfl) (snd_l_row E hE hO_BadName hO_BadRow hO_TooMany hO_Unread CL hB )
noncomputable def rho_b_init : Rho := [((Str.ofString "self"), 0)]
theorem snd_b_init {S : St} {P : Params} (E : EnvL S (KK P)) (hE : S.excs = excT) (hO_BadName : OwnVE S (Str.ofString "BadName") 44) (hO_BadRow : OwnVE S (Str.ofString "BadRow") 56) (hO_TooMany : OwnVE S (Str.ofString "TooMany") 80) (hO_Unread : OwnVE S (Str.ofString "Unread") 104) (CL : Cls S (KK P)) (hB : S.book = 289)  : SoundS S true 1 (scAt (KK P) 164) rho_b_init (bodyAt (KK P) 164) T_b_init :=
 have rho0 : RhoOK rho_b_init := rho_ok (by kernel_rfl)
 (sS_cons (sT_attrSet E CL sE_v sE_dict0 (by rw [hB]; kernel_rfl) (fun _ => rfl))
 (sS_cons (sT_attrSet E CL sE_v (sE_int _ _ _) (by rw [hB]; kernel_rfl) (fun _ => rfl))
 sS_nil))
theorem fn_b_init {S : St} {P : Params} (E : EnvL S (KK P)) (hE : S.excs = excT) (hO_BadName : OwnVE S (Str.ofString "BadName") 44) (hO_BadRow : OwnVE S (Str.ofString "BadRow") 56) (hO_TooMany : OwnVE S (Str.ofString "TooMany") 80) (hO_Unread : OwnVE S (Str.ofString "Unread") 104) (CL : Cls S (KK P)) (hB : S.book = 289)  : SoundF S true 2 (.ref 164) (mkFn is_b_init T_b_init) :=
 sF_defK E.KS (isDef_of E.X (cd := 163) (ps := [(Str.ofString "self")]) rfl ⟨_, rfl⟩ rfl rfl rfl rfl ⟨_, _, _, rfl, rfl, rfl⟩ (bind1 fun _ => rfl)) (by kernel_rfl) (snd_b_init E hE hO_BadName hO_BadRow hO_TooMany hO_Unread CL hB )
noncomputable def rho_is_name : Rho := [((Str.ofString "thing"), 0)]
theorem snd_is_name {S : St} {P : Params} (E : EnvL S (KK P)) (hE : S.excs = excT) (hO_BadName : OwnVE S (Str.ofString "BadName") 44) (hO_BadRow : OwnVE S (Str.ofString "BadRow") 56) (hO_TooMany : OwnVE S (Str.ofString "TooMany") 80) (hO_Unread : OwnVE S (Str.ofString "Unread") 104) (CL : Cls S (KK P)) (hB : S.book = 289)  : SoundS S true 1 (scAt (KK P) 111) rho_is_name (bodyAt (KK P) 111) T_is_name :=
 have rho0 : RhoOK rho_is_name := rho_ok (by kernel_rfl)
 (sS_cons (sT_if (sB_boolOp (sL_or (sB_not (sB_truth (sE_isi E.KS isi_ok_str sE_v (by kernel_rfl) (E.g (by kernel_rfl)) (E.b (by kernel_rfl) (by kernel_rfl)) (by kernel_rfl) (E.g (by kernel_rfl)) (E.b (by kernel_rfl) (by kernel_rfl)) (by kernel_rfl) (by kernel_rfl) (by kernel_rfl)) (fun _ _ => rfl))) (sL_or (sB_not (sB_chain cmp_le cmp_le (sE_int _ _ _) (sE_bcall E.KS (bLen_ok E.KS) (sEs_cons sE_v sEs_nil (fun _ => rfl)) (by kernel_rfl) (E.g (by kernel_rfl)) (E.b (by kernel_rfl) (by kernel_rfl)) (by kernel_rfl) (by kernel_rfl)) (sE_constK E (by kernel_rfl) (by kernel_rfl) (by kernel_rfl)) rfl)) sL_orNil))) (sS_cons (sT_ret (sE_bool _ _ _))
 sS_nil) sS_nil)
 (sS_cons (sT_ret (sE_bcall E.KS (bAll_ok) (sEs_cons (sE_comp sE_v sFs_nil (sE_cmp cmp_in sE_v (sE_constK E (by kernel_rfl) (by kernel_rfl) (by kernel_rfl)) rfl) (comp_at (by kernel_rfl)) (fun _ _ => rfl)) sEs_nil (fun _ => rfl)) (by kernel_rfl) (E.g (by kernel_rfl)) (E.b (by kernel_rfl) (by kernel_rfl)) (by kernel_rfl) (by kernel_rfl)))
 sS_nil))
theorem fn_is_name {S : St} {P : Params} (E : EnvL S (KK P)) (hE : S.excs = excT) (hO_BadName : OwnVE S (Str.ofString "BadName") 44) (hO_BadRow : OwnVE S (Str.ofString "BadRow") 56) (hO_TooMany : OwnVE S (Str.ofString "TooMany") 80) (hO_Unread : OwnVE S (Str.ofString "Unread") 104) (CL : Cls S (KK P)) (hB : S.book = 289)  : SoundF S true 2 (.ref 111) (mkFn is_is_name T_is_name) :=
 sF_defK E.KS (isDef_of E.X (cd := 110) (ps := [(Str.ofString "thing")]) rfl ⟨_, rfl⟩ rfl rfl rfl rfl ⟨_, _, _, rfl, rfl, rfl⟩ (bind1 fun _ => rfl)) (by kernel_rfl) (snd_is_name E hE hO_BadName hO_BadRow hO_TooMany hO_Unread CL hB )
noncomputable def rho_rising : Rho := [((Str.ofString "names"), 0), ((Str.ofString "name"), 1)]
theorem snd_rising {S : St} {P : Params} (E : EnvL S (KK P)) (hE : S.excs = excT) (hO_BadName : OwnVE S (Str.ofString "BadName") 44) (hO_BadRow : OwnVE S (Str.ofString "BadRow") 56) (hO_TooMany : OwnVE S (Str.ofString "TooMany") 80) (hO_Unread : OwnVE S (Str.ofString "Unread") 104) (CL : Cls S (KK P)) (hB : S.book = 289) (h_is_name : SoundF S true 2 (.ref 111) F_is_name) : SoundS S true 3 (scAt (KK P) 118) rho_rising (bodyAt (KK P) 118) T_rising :=
 have rho0 : RhoOK rho_rising := rho_ok (by kernel_rfl)
 (sS_cons (sT_for sE_v (sS_cons (sT_if (sB_not (sB_truth (sE_callD E.KS (h_is_name.deeper (by omega)) (sEs_cons sE_v sEs_nil (fun _ => rfl)) (by kernel_rfl) (E.g (by kernel_rfl)) (isFn_of E.X (by kernel_rfl)) (by kernel_rfl) (by kernel_rfl)) (fun _ _ => rfl))) (sS_cons (sT_raiseK (C0 := 44) E hO_BadName (by rw [hE]; kernel_rfl) (sEs_cons (sE_str _ _ _ (by kernel_rfl)) sEs_nil (fun _ => rfl)) (by kernel_rfl) (by kernel_rfl) (by kernel_rfl))
 sS_nil) sS_nil)
 sS_nil) rho0 (by kernel_rfl) (or_kd (by kernel_rfl)) (fun _ _ => rfl))
 (sS_cons (sT_ret (sE_bcall E.KS (bSorted_ok E.KS) (sEs_cons (sE_tcall E.KS (bSet_ok) (sEs_cons sE_v sEs_nil (fun _ => rfl)) (by kernel_rfl) (E.g (by kernel_rfl)) (E.b (by kernel_rfl) (by kernel_rfl)) (by kernel_rfl) (by kernel_rfl)) sEs_nil (fun _ => rfl)) (by kernel_rfl) (E.g (by kernel_rfl)) (E.b (by kernel_rfl) (by kernel_rfl)) (by kernel_rfl) (by kernel_rfl)))
 sS_nil))
theorem fn_rising {S : St} {P : Params} (E : EnvL S (KK P)) (hE : S.excs = excT) (hO_BadName : OwnVE S (Str.ofString "BadName") 44) (hO_BadRow : OwnVE S (Str.ofString "BadRow") 56) (hO_TooMany : OwnVE S (Str.ofString "TooMany") 80) (hO_Unread : OwnVE S (Str.ofString "Unread") 104) (CL : Cls S (KK P)) (hB : S.book = 289) (h_is_name : SoundF S true 2 (.ref 111) F_is_name) : SoundF S true 4 (.ref 118) (mkFn is_rising T_rising) :=
 sF_defK E.KS (isDef_of E.X (cd := 117) (ps := [(Str.ofString "names")]) rfl ⟨_, rfl⟩ rfl rfl rfl rfl ⟨_, _, _, rfl, rfl, rfl⟩ (bind1 fun _ => rfl)) (by kernel_rfl) (snd_rising E hE hO_BadName hO_BadRow hO_TooMany hO_Unread CL hB h_is_name)
noncomputable def rho_need_set : Rho := [((Str.ofString "thing"), 0)]
theorem snd_need_set {S : St} {P : Params} (E : EnvL S (KK P)) (hE : S.excs = excT) (hO_BadName : OwnVE S (Str.ofString "BadName") 44) (hO_BadRow : OwnVE S (Str.ofString "BadRow") 56) (hO_TooMany : OwnVE S (Str.ofString "TooMany") 80) (hO_Unread : OwnVE S (Str.ofString "Unread") 104) (CL : Cls S (KK P)) (hB : S.book = 289) (h_rising : SoundF S true 4 (.ref 118) F_rising) : SoundS S true 5 (scAt (KK P) 150) rho_need_set (bodyAt (KK P) 150) T_need_set :=
 have rho0 : RhoOK rho_need_set := rho_ok (by kernel_rfl)
 (sS_cons (sT_if (sB_not (sB_truth (sE_isi E.KS isi_ok_list sE_v (by kernel_rfl) (E.g (by kernel_rfl)) (E.b (by kernel_rfl) (by kernel_rfl)) (by kernel_rfl) (E.g (by kernel_rfl)) (E.b (by kernel_rfl) (by kernel_rfl)) (by kernel_rfl) (by kernel_rfl) (by kernel_rfl)) (fun _ _ => rfl))) (sS_cons (sT_raiseK (C0 := 56) E hO_BadRow (by rw [hE]; kernel_rfl) (sEs_cons (sE_str _ _ _ (by kernel_rfl)) sEs_nil (fun _ => rfl)) (by kernel_rfl) (by kernel_rfl) (by kernel_rfl))
 sS_nil) sS_nil)
 (sS_cons (sT_ret (sE_callD E.KS (h_rising.deeper (by omega)) (sEs_cons sE_v sEs_nil (fun _ => rfl)) (by kernel_rfl) (E.g (by kernel_rfl)) (isFn_of E.X (by kernel_rfl)) (by kernel_rfl) (by kernel_rfl)))
 sS_nil))
theorem fn_need_set {S : St} {P : Params} (E : EnvL S (KK P)) (hE : S.excs = excT) (hO_BadName : OwnVE S (Str.ofString "BadName") 44) (hO_BadRow : OwnVE S (Str.ofString "BadRow") 56) (hO_TooMany : OwnVE S (Str.ofString "TooMany") 80) (hO_Unread : OwnVE S (Str.ofString "Unread") 104) (CL : Cls S (KK P)) (hB : S.book = 289) (h_rising : SoundF S true 4 (.ref 118) F_rising) : SoundF S true 6 (.ref 150) (mkFn is_need_set T_need_set) :=
 sF_defK E.KS (isDef_of E.X (cd := 149) (ps := [(Str.ofString "thing")]) rfl ⟨_, rfl⟩ rfl rfl rfl rfl ⟨_, _, _, rfl, rfl, rfl⟩ (bind1 fun _ => rfl)) (by kernel_rfl) (snd_need_set E hE hO_BadName hO_BadRow hO_TooMany hO_Unread CL hB h_rising)
noncomputable def rho_b_rows : Rho := [((Str.ofString "self"), 0)]
theorem snd_b_rows {S : St} {P : Params} (E : EnvL S (KK P)) (hE : S.excs = excT) (hO_BadName : OwnVE S (Str.ofString "BadName") 44) (hO_BadRow : OwnVE S (Str.ofString "BadRow") 56) (hO_TooMany : OwnVE S (Str.ofString "TooMany") 80) (hO_Unread : OwnVE S (Str.ofString "Unread") 104) (CL : Cls S (KK P)) (hB : S.book = 289)  : SoundS S true 1 (scAt (KK P) 183) rho_b_rows (bodyAt (KK P) 183) T_b_rows :=
 have rho0 : RhoOK rho_b_rows := rho_ok (by kernel_rfl)
 (sS_cons (sT_ret (sE_comp (sE_bcall E.KS (bSorted_ok E.KS) (sEs_cons (sE_attr E CL sE_v (by rw [hB]; kernel_rfl)) sEs_nil (fun _ => rfl)) (by kernel_rfl) (E.g (by kernel_rfl)) (E.b (by kernel_rfl) (by kernel_rfl)) (by kernel_rfl) (by kernel_rfl)) sFs_nil (sE_tuple (sEs_cons sE_v (sEs_cons (sE_tcall E.KS (bList_ok) (sEs_cons (sE_item (sE_attr E CL sE_v (by rw [hB]; kernel_rfl)) sE_v) sEs_nil (fun _ => rfl)) (by kernel_rfl) (E.g (by kernel_rfl)) (E.b (by kernel_rfl) (by kernel_rfl)) (by kernel_rfl) (by kernel_rfl)) sEs_nil (fun _ => rfl)) (fun _ => rfl))) (comp_at (by kernel_rfl)) (fun _ _ => rfl)))
 sS_nil)
theorem fn_b_rows {S : St} {P : Params} (E : EnvL S (KK P)) (hE : S.excs = excT) (hO_BadName : OwnVE S (Str.ofString "BadName") 44) (hO_BadRow : OwnVE S (Str.ofString "BadRow") 56) (hO_TooMany : OwnVE S (Str.ofString "TooMany") 80) (hO_Unread : OwnVE S (Str.ofString "Unread") 104) (CL : Cls S (KK P)) (hB : S.book = 289)  : SoundF S true 2 (.ref 183) (mkFn is_b_rows T_b_rows) :=
 sF_defK E.KS (isDef_of E.X (cd := 182) (ps := [(Str.ofString "self")]) rfl ⟨_, rfl⟩ rfl rfl rfl rfl ⟨_, _, _, rfl, rfl, rfl⟩ (bind1 fun _ => rfl)) (by kernel_rfl) (snd_b_rows E hE hO_BadName hO_BadRow hO_TooMany hO_Unread CL hB )
noncomputable def rho_b_all_sets : Rho := [((Str.ofString "self"), 0)]
theorem snd_b_all_sets {S : St} {P : Params} (E : EnvL S (KK P)) (hE : S.excs = excT) (hO_BadName : OwnVE S (Str.ofString "BadName") 44) (hO_BadRow : OwnVE S (Str.ofString "BadRow") 56) (hO_TooMany : OwnVE S (Str.ofString "TooMany") 80) (hO_Unread : OwnVE S (Str.ofString "Unread") 104) (CL : Cls S (KK P)) (hB : S.book = 289) (h_b_rows : SoundF S true 2 (.ref 183) F_b_rows) : SoundS S true 3 (scAt (KK P) 188) rho_b_all_sets (bodyAt (KK P) 188) T_b_all_sets :=
 have rho0 : RhoOK rho_b_all_sets := rho_ok (by kernel_rfl)
 (sS_cons (sT_ret (sE_comp (sE_mcall E CL (h_b_rows.deeper (by omega)) sE_v sEs_nil (fun _ => rfl) (by kernel_rfl) (by kernel_rfl) (by decide) (by rw [hB]; kernel_rfl) (by kernel_rfl) (by kernel_rfl)) sFs_nil (sE_item sE_v (sE_int _ _ _)) (comp_at (by kernel_rfl)) (fun _ _ => rfl)))
 sS_nil)
theorem fn_b_all_sets {S : St} {P : Params} (E : EnvL S (KK P)) (hE : S.excs = excT) (hO_BadName : OwnVE S (Str.ofString "BadName") 44) (hO_BadRow : OwnVE S (Str.ofString "BadRow") 56) (hO_TooMany : OwnVE S (Str.ofString "TooMany") 80) (hO_Unread : OwnVE S (Str.ofString "Unread") 104) (CL : Cls S (KK P)) (hB : S.book = 289) (h_b_rows : SoundF S true 2 (.ref 183) F_b_rows) : SoundF S true 4 (.ref 188) (mkFn is_b_all_sets T_b_all_sets) :=
 sF_defK E.KS (isDef_of E.X (cd := 187) (ps := [(Str.ofString "self")]) rfl ⟨_, rfl⟩ rfl rfl rfl rfl ⟨_, _, _, rfl, rfl, rfl⟩ (bind1 fun _ => rfl)) (by kernel_rfl) (snd_b_all_sets E hE hO_BadName hO_BadRow hO_TooMany hO_Unread CL hB h_b_rows)
noncomputable def rho_b_names : Rho := [((Str.ofString "self"), 0), ((Str.ofString "found"), 1), ((Str.ofString "row"), 2)]
theorem snd_b_names {S : St} {P : Params} (E : EnvL S (KK P)) (hE : S.excs = excT) (hO_BadName : OwnVE S (Str.ofString "BadName") 44) (hO_BadRow : OwnVE S (Str.ofString "BadRow") 56) (hO_TooMany : OwnVE S (Str.ofString "TooMany") 80) (hO_Unread : OwnVE S (Str.ofString "Unread") 104) (CL : Cls S (KK P)) (hB : S.book = 289) (h_b_all_sets : SoundF S true 4 (.ref 188) F_b_all_sets) (h_rising : SoundF S true 4 (.ref 118) F_rising) : SoundS S true 5 (scAt (KK P) 195) rho_b_names (bodyAt (KK P) 195) T_b_names :=
 have rho0 : RhoOK rho_b_names := rho_ok (by kernel_rfl)
 (sS_cons (sT_assign (sE_list sEs_nil) rho0 (by kernel_rfl) (or_kd (by kernel_rfl)) (fun _ => rfl))
 (sS_cons (sT_for (sE_mcall E CL (h_b_all_sets.deeper (by omega)) sE_v sEs_nil (fun _ => rfl) (by kernel_rfl) (by kernel_rfl) (by decide) (by rw [hB]; kernel_rfl) (by kernel_rfl) (by kernel_rfl)) (sS_cons (sT_expr (sE_meth meth_extend bExtend_ok sE_v (sEs_cons sE_v sEs_nil (fun _ => rfl)) (fun _ => rfl) (by kernel_rfl) (by kernel_rfl) (by decide)) (fun _ => rfl))
 sS_nil) rho0 (by kernel_rfl) (or_kd (by kernel_rfl)) (fun _ _ => rfl))
 (sS_cons (sT_ret (sE_callD E.KS (h_rising.deeper (by omega)) (sEs_cons sE_v sEs_nil (fun _ => rfl)) (by kernel_rfl) (E.g (by kernel_rfl)) (isFn_of E.X (by kernel_rfl)) (by kernel_rfl) (by kernel_rfl)))
 sS_nil)))
theorem fn_b_names {S : St} {P : Params} (E : EnvL S (KK P)) (hE : S.excs = excT) (hO_BadName : OwnVE S (Str.ofString "BadName") 44) (hO_BadRow : OwnVE S (Str.ofString "BadRow") 56) (hO_TooMany : OwnVE S (Str.ofString "TooMany") 80) (hO_Unread : OwnVE S (Str.ofString "Unread") 104) (CL : Cls S (KK P)) (hB : S.book = 289) (h_b_all_sets : SoundF S true 4 (.ref 188) F_b_all_sets) (h_rising : SoundF S true 4 (.ref 118) F_rising) : SoundF S true 6 (.ref 195) (mkFn is_b_names T_b_names) :=
 sF_defK E.KS (isDef_of E.X (cd := 194) (ps := [(Str.ofString "self")]) rfl ⟨_, rfl⟩ rfl rfl rfl rfl ⟨_, _, _, rfl, rfl, rfl⟩ (bind1 fun _ => rfl)) (by kernel_rfl) (snd_b_names E hE hO_BadName hO_BadRow hO_TooMany hO_Unread CL hB h_b_all_sets h_rising)
noncomputable def rho_b_put : Rho := [((Str.ofString "self"), 0), ((Str.ofString "row"), 1), ((Str.ofString "found"), 2), ((Str.ofString "number"), 3)]
theorem snd_b_put {S : St} {P : Params} (E : EnvL S (KK P)) (hE : S.excs = excT) (hO_BadName : OwnVE S (Str.ofString "BadName") 44) (hO_BadRow : OwnVE S (Str.ofString "BadRow") 56) (hO_TooMany : OwnVE S (Str.ofString "TooMany") 80) (hO_Unread : OwnVE S (Str.ofString "Unread") 104) (CL : Cls S (KK P)) (hB : S.book = 289) (h_need_set : SoundF S true 6 (.ref 150) F_need_set) (h_b_names : SoundF S true 6 (.ref 195) F_b_names) : SoundS S true 7 (scAt (KK P) 171) rho_b_put (bodyAt (KK P) 171) T_b_put :=
 have rho0 : RhoOK rho_b_put := rho_ok (by kernel_rfl)
 (sS_cons (sT_assign (sE_callD E.KS (h_need_set.deeper (by omega)) (sEs_cons sE_v sEs_nil (fun _ => rfl)) (by kernel_rfl) (E.g (by kernel_rfl)) (isFn_of E.X (by kernel_rfl)) (by kernel_rfl) (by kernel_rfl)) rho0 (by kernel_rfl) (or_kd (by kernel_rfl)) (fun _ => rfl))
 (sS_cons (sT_if (sB_cmp cmp_ne (sE_bcall E.KS (bLen_ok E.KS) (sEs_cons sE_v sEs_nil (fun _ => rfl)) (by kernel_rfl) (E.g (by kernel_rfl)) (E.b (by kernel_rfl) (by kernel_rfl)) (by kernel_rfl) (by kernel_rfl)) (sE_bcall E.KS (bLen_ok E.KS) (sEs_cons sE_v sEs_nil (fun _ => rfl)) (by kernel_rfl) (E.g (by kernel_rfl)) (E.b (by kernel_rfl) (by kernel_rfl)) (by kernel_rfl) (by kernel_rfl)) rfl) (sS_cons (sT_raiseK (C0 := 56) E hO_BadRow (by rw [hE]; kernel_rfl) (sEs_cons (sE_str _ _ _ (by kernel_rfl)) sEs_nil (fun _ => rfl)) (by kernel_rfl) (by kernel_rfl) (by kernel_rfl))
 sS_nil) sS_nil)
 (sS_cons (sT_if (sB_cmp cmp_eq (sE_bcall E.KS (bLen_ok E.KS) (sEs_cons (sE_attr E CL sE_v (by rw [hB]; kernel_rfl)) sEs_nil (fun _ => rfl)) (by kernel_rfl) (E.g (by kernel_rfl)) (E.b (by kernel_rfl) (by kernel_rfl)) (by kernel_rfl) (by kernel_rfl)) (sE_constK E (by kernel_rfl) (by kernel_rfl) (by kernel_rfl)) rfl) (sS_cons (sT_raiseK (C0 := 80) E hO_TooMany (by rw [hE]; kernel_rfl) (sEs_cons (sE_str _ _ _ (by kernel_rfl)) sEs_nil (fun _ => rfl)) (by kernel_rfl) (by kernel_rfl) (by kernel_rfl))
 sS_nil) sS_nil)
 (sS_cons (sT_if (sB_cmp cmp_gt (sE_bcall E.KS (bLen_ok E.KS) (sEs_cons (sE_tcall E.KS (bSet_ok) (sEs_cons (sE_bin bin_add (sE_mcall E CL (h_b_names.deeper (by omega)) sE_v sEs_nil (fun _ => rfl) (by kernel_rfl) (by kernel_rfl) (by decide) (by rw [hB]; kernel_rfl) (by kernel_rfl) (by kernel_rfl)) sE_v) sEs_nil (fun _ => rfl)) (by kernel_rfl) (E.g (by kernel_rfl)) (E.b (by kernel_rfl) (by kernel_rfl)) (by kernel_rfl) (by kernel_rfl)) sEs_nil (fun _ => rfl)) (by kernel_rfl) (E.g (by kernel_rfl)) (E.b (by kernel_rfl) (by kernel_rfl)) (by kernel_rfl) (by kernel_rfl)) (sE_constK E (by kernel_rfl) (by kernel_rfl) (by kernel_rfl)) rfl) (sS_cons (sT_raiseK (C0 := 80) E hO_TooMany (by rw [hE]; kernel_rfl) (sEs_cons (sE_str _ _ _ (by kernel_rfl)) sEs_nil (fun _ => rfl)) (by kernel_rfl) (by kernel_rfl) (by kernel_rfl))
 sS_nil) sS_nil)
 (sS_cons (sT_assign (sE_attr E CL sE_v (by rw [hB]; kernel_rfl)) rho0 (by kernel_rfl) (or_kd (by kernel_rfl)) (fun _ => rfl))
 (sS_cons (sT_attrSet E CL sE_v (sE_bin bin_add sE_v (sE_int _ _ _)) (by rw [hB]; kernel_rfl) (fun _ => rfl))
 (sS_cons (sT_subSet (sE_attr E CL sE_v (by rw [hB]; kernel_rfl)) sE_v sE_v (fun _ => rfl))
 (sS_cons (sT_ret sE_v)
 sS_nil))))))))
theorem fn_b_put {S : St} {P : Params} (E : EnvL S (KK P)) (hE : S.excs = excT) (hO_BadName : OwnVE S (Str.ofString "BadName") 44) (hO_BadRow : OwnVE S (Str.ofString "BadRow") 56) (hO_TooMany : OwnVE S (Str.ofString "TooMany") 80) (hO_Unread : OwnVE S (Str.ofString "Unread") 104) (CL : Cls S (KK P)) (hB : S.book = 289) (h_need_set : SoundF S true 6 (.ref 150) F_need_set) (h_b_names : SoundF S true 6 (.ref 195) F_b_names) : SoundF S true 8 (.ref 171) (mkFn is_b_put T_b_put) :=
 sF_defK E.KS (isDef_of E.X (cd := 170) (ps := [(Str.ofString "self"), (Str.ofString "row")]) rfl ⟨_, rfl⟩ rfl rfl rfl rfl ⟨_, _, _, rfl, rfl, rfl⟩ (bind2 fun _ _ => rfl)) (by kernel_rfl) (snd_b_put E hE hO_BadName hO_BadRow hO_TooMany hO_Unread CL hB h_need_set h_b_names)
noncomputable def rho_l_book : Rho := [((Str.ofString "_law_rows_here"), 0), ((Str.ofString "_law_book_here"), 1), ((Str.ofString "_law_row_here"), 2)]
theorem snd_l_book {S : St} {P : Params} (E : EnvL S (KK P)) (hE : S.excs = excT) (hO_BadName : OwnVE S (Str.ofString "BadName") 44) (hO_BadRow : OwnVE S (Str.ofString "BadRow") 56) (hO_TooMany : OwnVE S (Str.ofString "TooMany") 80) (hO_Unread : OwnVE S (Str.ofString "Unread") 104) (CL : Cls S (KK P)) (hB : S.book = 289) (h_b_init : SoundF S true 2 (.ref 164) F_b_init) (h_b_put : SoundF S true 8 (.ref 171) F_b_put) : SoundS S true 9 (scAt (KK P) 352) rho_l_book (bodyAt (KK P) 352) T_l_book :=
 have rho0 : RhoOK rho_l_book := rho_ok (by kernel_rfl)
 (sS_cons (sT_assign (sE_make E CL (h_b_init.deeper (by omega)) (by kernel_rfl) (by rw [hB]; exact E.g (by kernel_rfl)) (by kernel_rfl) (by rw [hB]; kernel_rfl) (by kernel_rfl)) rho0 (by kernel_rfl) (or_kd (by kernel_rfl)) (fun _ => rfl))
 (sS_cons (sT_for sE_v (sS_cons (sT_expr (sE_mcall E CL (h_b_put.deeper (by omega)) sE_v (sEs_cons (sE_tcall E.KS (bList_ok) (sEs_cons sE_v sEs_nil (fun _ => rfl)) (by kernel_rfl) (E.g (by kernel_rfl)) (E.b (by kernel_rfl) (by kernel_rfl)) (by kernel_rfl) (by kernel_rfl)) sEs_nil (fun _ => rfl)) (fun _ => rfl) (by kernel_rfl) (by kernel_rfl) (by decide) (by rw [hB]; kernel_rfl) (by kernel_rfl) (by kernel_rfl)) (fun _ => rfl))
 sS_nil) rho0 (by kernel_rfl) (or_kd (by kernel_rfl)) (fun _ _ => rfl))
 (sS_cons (sT_ret sE_v)
 sS_nil)))
theorem fn_l_book {S : St} {P : Params} (E : EnvL S (KK P)) (hE : S.excs = excT) (hO_BadName : OwnVE S (Str.ofString "BadName") 44) (hO_BadRow : OwnVE S (Str.ofString "BadRow") 56) (hO_TooMany : OwnVE S (Str.ofString "TooMany") 80) (hO_Unread : OwnVE S (Str.ofString "Unread") 104) (CL : Cls S (KK P)) (hB : S.book = 289) (h_b_init : SoundF S true 2 (.ref 164) F_b_init) (h_b_put : SoundF S true 8 (.ref 171) F_b_put) : SoundF S true 10 (.ref 352) (mkFn is_l_book T_l_book) :=
 sF_defK E.KS (isDef_of E.X (cd := 351) (ps := [(Str.ofString "_law_rows_here")]) rfl ⟨_, rfl⟩ rfl rfl rfl rfl ⟨_, _, _, rfl, rfl, rfl⟩ (bind1 fun _ => rfl)) (by kernel_rfl) (snd_l_book E hE hO_BadName hO_BadRow hO_TooMany hO_Unread CL hB h_b_init h_b_put)
noncomputable def rho_line_of : Rho := [((Str.ofString "row"), 0)]
theorem snd_line_of {S : St} {P : Params} (E : EnvL S (KK P)) (hE : S.excs = excT) (hO_BadName : OwnVE S (Str.ofString "BadName") 44) (hO_BadRow : OwnVE S (Str.ofString "BadRow") 56) (hO_TooMany : OwnVE S (Str.ofString "TooMany") 80) (hO_Unread : OwnVE S (Str.ofString "Unread") 104) (CL : Cls S (KK P)) (hB : S.book = 289)  : SoundS S true 1 (scAt (KK P) 300) rho_line_of (bodyAt (KK P) 300) T_line_of :=
 have rho0 : RhoOK rho_line_of := rho_ok (by kernel_rfl)
 (sS_cons (sT_if (sB_cmp cmp_eq sE_v (sE_list sEs_nil) rfl) (sS_cons (sT_ret (sE_str _ _ _ (by kernel_rfl)))
 sS_nil) sS_nil)
 (sS_cons (sT_ret (sE_meth meth_join bJoin_ok (sE_str _ _ _ (by kernel_rfl)) (sEs_cons sE_v sEs_nil (fun _ => rfl)) (fun _ => rfl) (by kernel_rfl) (by kernel_rfl) (by decide)))
 sS_nil))
theorem fn_line_of {S : St} {P : Params} (E : EnvL S (KK P)) (hE : S.excs = excT) (hO_BadName : OwnVE S (Str.ofString "BadName") 44) (hO_BadRow : OwnVE S (Str.ofString "BadRow") 56) (hO_TooMany : OwnVE S (Str.ofString "TooMany") 80) (hO_Unread : OwnVE S (Str.ofString "Unread") 104) (CL : Cls S (KK P)) (hB : S.book = 289)  : SoundF S true 2 (.ref 300) (mkFn is_line_of T_line_of) :=
 sF_defK E.KS (isDef_of E.X (cd := 299) (ps := [(Str.ofString "row")]) rfl ⟨_, rfl⟩ rfl rfl rfl rfl ⟨_, _, _, rfl, rfl, rfl⟩ (bind1 fun _ => rfl)) (by kernel_rfl) (snd_line_of E hE hO_BadName hO_BadRow hO_TooMany hO_Unread CL hB )
noncomputable def rho_text_of : Rho := [((Str.ofString "book"), 0)]
theorem snd_text_of {S : St} {P : Params} (E : EnvL S (KK P)) (hE : S.excs = excT) (hO_BadName : OwnVE S (Str.ofString "BadName") 44) (hO_BadRow : OwnVE S (Str.ofString "BadRow") 56) (hO_TooMany : OwnVE S (Str.ofString "TooMany") 80) (hO_Unread : OwnVE S (Str.ofString "Unread") 104) (CL : Cls S (KK P)) (hB : S.book = 289) (h_line_of : SoundF S true 2 (.ref 300) F_line_of) (h_b_rows : SoundF S true 2 (.ref 183) F_b_rows) : SoundS S true 3 (scAt (KK P) 305) rho_text_of (bodyAt (KK P) 305) T_text_of :=
 have rho0 : RhoOK rho_text_of := rho_ok (by kernel_rfl)
 (sS_cons (sT_ret (sE_meth meth_join bJoin_ok (sE_str _ _ _ (by kernel_rfl)) (sEs_cons (sE_comp (sE_mcall E CL (h_b_rows.deeper (by omega)) sE_v sEs_nil (fun _ => rfl) (by kernel_rfl) (by kernel_rfl) (by decide) (by rw [hB]; kernel_rfl) (by kernel_rfl) (by kernel_rfl)) sFs_nil (sE_callD E.KS (h_line_of.deeper (by omega)) (sEs_cons (sE_item sE_v (sE_int _ _ _)) sEs_nil (fun _ => rfl)) (by kernel_rfl) (E.g (by kernel_rfl)) (isFn_of E.X (by kernel_rfl)) (by kernel_rfl) (by kernel_rfl)) (comp_at (by kernel_rfl)) (fun _ _ => rfl)) sEs_nil (fun _ => rfl)) (fun _ => rfl) (by kernel_rfl) (by kernel_rfl) (by decide)))
 sS_nil)
theorem fn_text_of {S : St} {P : Params} (E : EnvL S (KK P)) (hE : S.excs = excT) (hO_BadName : OwnVE S (Str.ofString "BadName") 44) (hO_BadRow : OwnVE S (Str.ofString "BadRow") 56) (hO_TooMany : OwnVE S (Str.ofString "TooMany") 80) (hO_Unread : OwnVE S (Str.ofString "Unread") 104) (CL : Cls S (KK P)) (hB : S.book = 289) (h_line_of : SoundF S true 2 (.ref 300) F_line_of) (h_b_rows : SoundF S true 2 (.ref 183) F_b_rows) : SoundF S true 4 (.ref 305) (mkFn is_text_of T_text_of) :=
 sF_defK E.KS (isDef_of E.X (cd := 304) (ps := [(Str.ofString "book")]) rfl ⟨_, rfl⟩ rfl rfl rfl rfl ⟨_, _, _, rfl, rfl, rfl⟩ (bind1 fun _ => rfl)) (by kernel_rfl) (snd_text_of E hE hO_BadName hO_BadRow hO_TooMany hO_Unread CL hB h_line_of h_b_rows)
noncomputable def rho_l_text : Rho := [((Str.ofString "_law_rows_here"), 0)]
theorem snd_l_text {S : St} {P : Params} (E : EnvL S (KK P)) (hE : S.excs = excT) (hO_BadName : OwnVE S (Str.ofString "BadName") 44) (hO_BadRow : OwnVE S (Str.ofString "BadRow") 56) (hO_TooMany : OwnVE S (Str.ofString "TooMany") 80) (hO_Unread : OwnVE S (Str.ofString "Unread") 104) (CL : Cls S (KK P)) (hB : S.book = 289)  : SoundS S true 1 (scAt (KK P) 357) rho_l_text (bodyAt (KK P) 357) T_l_text :=
 have rho0 : RhoOK rho_l_text := rho_ok (by kernel_rfl)
 (sS_cons (sT_ret (sE_meth meth_join bJoin_ok (sE_str _ _ _ (by kernel_rfl)) (sEs_cons (sE_comp sE_v sFs_nil (sE_if (sB_cmp cmp_ne sE_v (sE_list sEs_nil) rfl) (sE_meth meth_join bJoin_ok (sE_str _ _ _ (by kernel_rfl)) (sEs_cons (sE_bcall E.KS (bSorted_ok E.KS) (sEs_cons sE_v sEs_nil (fun _ => rfl)) (by kernel_rfl) (E.g (by kernel_rfl)) (E.b (by kernel_rfl) (by kernel_rfl)) (by kernel_rfl) (by kernel_rfl)) sEs_nil (fun _ => rfl)) (fun _ => rfl) (by kernel_rfl) (by kernel_rfl) (by decide)) (sE_str _ _ _ (by kernel_rfl))) (comp_at (by kernel_rfl)) (fun _ _ => rfl)) sEs_nil (fun _ => rfl)) (fun _ => rfl) (by kernel_rfl) (by kernel_rfl) (by decide)))
 sS_nil)
theorem fn_l_text {S : St} {P : Params} (E : EnvL S (KK P)) (hE : S.excs = excT) (hO_BadName : OwnVE S (Str.ofString "BadName") 44) (hO_BadRow : OwnVE S (Str.ofString "BadRow") 56) (hO_TooMany : OwnVE S (Str.ofString "TooMany") 80) (hO_Unread : OwnVE S (Str.ofString "Unread") 104) (CL : Cls S (KK P)) (hB : S.book = 289)  : SoundF S true 2 (.ref 357) (mkFn is_l_text T_l_text) :=
 sF_defK E.KS (isDef_of E.X (cd := 356) (ps := [(Str.ofString "_law_rows_here")]) rfl ⟨_, rfl⟩ rfl rfl rfl rfl ⟨_, _, _, rfl, rfl, rfl⟩ (bind1 fun _ => rfl)) (by kernel_rfl) (snd_l_text E hE hO_BadName hO_BadRow hO_TooMany hO_Unread CL hB )
noncomputable def rho_row_of : Rho := [((Str.ofString "line"), 0)]
theorem snd_row_of {S : St} {P : Params} (E : EnvL S (KK P)) (hE : S.excs = excT) (hO_BadName : OwnVE S (Str.ofString "BadName") 44) (hO_BadRow : OwnVE S (Str.ofString "BadRow") 56) (hO_TooMany : OwnVE S (Str.ofString "TooMany") 80) (hO_Unread : OwnVE S (Str.ofString "Unread") 104) (CL : Cls S (KK P)) (hB : S.book = 289)  : SoundS S true 1 (scAt (KK P) 312) rho_row_of (bodyAt (KK P) 312) T_row_of :=
 have rho0 : RhoOK rho_row_of := rho_ok (by kernel_rfl)
 (sS_cons (sT_if (sB_cmp cmp_eq sE_v (sE_str _ _ _ (by kernel_rfl)) rfl) (sS_cons (sT_ret (sE_list sEs_nil))
 sS_nil) sS_nil)
 (sS_cons (sT_ret (sE_meth meth_split bSplit_ok sE_v (sEs_cons (sE_str _ _ _ (by kernel_rfl)) sEs_nil (fun _ => rfl)) (fun _ => rfl) (by kernel_rfl) (by kernel_rfl) (by decide)))
 sS_nil))
theorem fn_row_of {S : St} {P : Params} (E : EnvL S (KK P)) (hE : S.excs = excT) (hO_BadName : OwnVE S (Str.ofString "BadName") 44) (hO_BadRow : OwnVE S (Str.ofString "BadRow") 56) (hO_TooMany : OwnVE S (Str.ofString "TooMany") 80) (hO_Unread : OwnVE S (Str.ofString "Unread") 104) (CL : Cls S (KK P)) (hB : S.book = 289)  : SoundF S true 2 (.ref 312) (mkFn is_row_of T_row_of) :=
 sF_defK E.KS (isDef_of E.X (cd := 311) (ps := [(Str.ofString "line")]) rfl ⟨_, rfl⟩ rfl rfl rfl rfl ⟨_, _, _, rfl, rfl, rfl⟩ (bind1 fun _ => rfl)) (by kernel_rfl) (snd_row_of E hE hO_BadName hO_BadRow hO_TooMany hO_Unread CL hB )
noncomputable def rho_put_line : Rho := [((Str.ofString "book"), 0), ((Str.ofString "line"), 1)]
theorem snd_put_line {S : St} {P : Params} (E : EnvL S (KK P)) (hE : S.excs = excT) (hO_BadName : OwnVE S (Str.ofString "BadName") 44) (hO_BadRow : OwnVE S (Str.ofString "BadRow") 56) (hO_TooMany : OwnVE S (Str.ofString "TooMany") 80) (hO_Unread : OwnVE S (Str.ofString "Unread") 104) (CL : Cls S (KK P)) (hB : S.book = 289) (h_b_put : SoundF S true 8 (.ref 171) F_b_put) (h_row_of : SoundF S true 2 (.ref 312) F_row_of) : SoundS S true 9 (scAt (KK P) 319) rho_put_line (bodyAt (KK P) 319) T_put_line :=
 have rho0 : RhoOK rho_put_line := rho_ok (by kernel_rfl)
 (sS_cons (sT_tryR (G := 31) (C0 := 104) E.KS (sS_cons (sT_expr (sE_mcall E CL (h_b_put.deeper (by omega)) sE_v (sEs_cons (sE_callD E.KS (h_row_of.deeper (by omega)) (sEs_cons sE_v sEs_nil (fun _ => rfl)) (by kernel_rfl) (E.g (by kernel_rfl)) (isFn_of E.X (by kernel_rfl)) (by kernel_rfl) (by kernel_rfl)) sEs_nil (fun _ => rfl)) (fun _ => rfl) (by kernel_rfl) (by kernel_rfl) (by decide) (by rw [hB]; kernel_rfl) (by kernel_rfl) (by kernel_rfl)) (fun _ => rfl))
 sS_nil) hO_Unread F.excBase_ValueError (by rw [hE]; kernel_rfl) (by kernel_rfl) (by kernel_rfl) (by kernel_rfl) (E.g (by kernel_rfl)) (by kernel_rfl) (mem3 (catches_of (C0 := 44) E (by rw [hE]; kernel_rfl) (by kernel_rfl)) (catches_of (C0 := 56) E (by rw [hE]; kernel_rfl) (by kernel_rfl)) (catches_of (C0 := 80) E (by rw [hE]; kernel_rfl) (by kernel_rfl))) (by decide))
 sS_nil)
theorem fn_put_line {S : St} {P : Params} (E : EnvL S (KK P)) (hE : S.excs = excT) (hO_BadName : OwnVE S (Str.ofString "BadName") 44) (hO_BadRow : OwnVE S (Str.ofString "BadRow") 56) (hO_TooMany : OwnVE S (Str.ofString "TooMany") 80) (hO_Unread : OwnVE S (Str.ofString "Unread") 104) (CL : Cls S (KK P)) (hB : S.book = 289) (h_b_put : SoundF S true 8 (.ref 171) F_b_put) (h_row_of : SoundF S true 2 (.ref 312) F_row_of) : SoundF S true 10 (.ref 319) (mkFn is_put_line T_put_line) :=
 sF_defK E.KS (isDef_of E.X (cd := 318) (ps := [(Str.ofString "book"), (Str.ofString "line")]) rfl ⟨_, rfl⟩ rfl rfl rfl rfl ⟨_, _, _, rfl, rfl, rfl⟩ (bind2 fun _ _ => rfl)) (by kernel_rfl) (snd_put_line E hE hO_BadName hO_BadRow hO_TooMany hO_Unread CL hB h_b_put h_row_of)
noncomputable def rho_read : Rho := [((Str.ofString "text"), 0), ((Str.ofString "book"), 1), ((Str.ofString "line"), 2)]
theorem snd_read {S : St} {P : Params} (E : EnvL S (KK P)) (hE : S.excs = excT) (hO_BadName : OwnVE S (Str.ofString "BadName") 44) (hO_BadRow : OwnVE S (Str.ofString "BadRow") 56) (hO_TooMany : OwnVE S (Str.ofString "TooMany") 80) (hO_Unread : OwnVE S (Str.ofString "Unread") 104) (CL : Cls S (KK P)) (hB : S.book = 289) (h_b_init : SoundF S true 2 (.ref 164) F_b_init) (h_put_line : SoundF S true 10 (.ref 319) F_put_line) (h_text_of : SoundF S true 4 (.ref 305) F_text_of) : SoundS S true 11 (scAt (KK P) 326) rho_read (bodyAt (KK P) 326) T_read :=
 have rho0 : RhoOK rho_read := rho_ok (by kernel_rfl)
 (sS_cons (sT_if (sB_not (sB_truth (sE_isi E.KS isi_ok_str sE_v (by kernel_rfl) (E.g (by kernel_rfl)) (E.b (by kernel_rfl) (by kernel_rfl)) (by kernel_rfl) (E.g (by kernel_rfl)) (E.b (by kernel_rfl) (by kernel_rfl)) (by kernel_rfl) (by kernel_rfl) (by kernel_rfl)) (fun _ _ => rfl))) (sS_cons (sT_raiseK (C0 := 104) E hO_Unread (by rw [hE]; kernel_rfl) (sEs_cons (sE_str _ _ _ (by kernel_rfl)) sEs_nil (fun _ => rfl)) (by kernel_rfl) (by kernel_rfl) (by kernel_rfl))
 sS_nil) sS_nil)
 (sS_cons (sT_assign (sE_make E CL (h_b_init.deeper (by omega)) (by kernel_rfl) (by rw [hB]; exact E.g (by kernel_rfl)) (by kernel_rfl) (by rw [hB]; kernel_rfl) (by kernel_rfl)) rho0 (by kernel_rfl) (or_kd (by kernel_rfl)) (fun _ => rfl))
 (sS_cons (sT_if (sB_cmp cmp_ne sE_v (sE_str _ _ _ (by kernel_rfl)) rfl) (sS_cons (sT_for (sE_meth meth_split bSplit_ok sE_v (sEs_cons (sE_str _ _ _ (by kernel_rfl)) sEs_nil (fun _ => rfl)) (fun _ => rfl) (by kernel_rfl) (by kernel_rfl) (by decide)) (sS_cons (sT_expr (sE_callD E.KS (h_put_line.deeper (by omega)) (sEs_cons sE_v (sEs_cons sE_v sEs_nil (fun _ => rfl)) (fun _ => rfl)) (by kernel_rfl) (E.g (by kernel_rfl)) (isFn_of E.X (by kernel_rfl)) (by kernel_rfl) (by kernel_rfl)) (fun _ => rfl))
 sS_nil) rho0 (by kernel_rfl) (or_kd (by kernel_rfl)) (fun _ _ => rfl))
 sS_nil) sS_nil)
 (sS_cons (sT_if (sB_cmp cmp_ne (sE_callD E.KS (h_text_of.deeper (by omega)) (sEs_cons sE_v sEs_nil (fun _ => rfl)) (by kernel_rfl) (E.g (by kernel_rfl)) (isFn_of E.X (by kernel_rfl)) (by kernel_rfl) (by kernel_rfl)) sE_v rfl) (sS_cons (sT_raiseK (C0 := 104) E hO_Unread (by rw [hE]; kernel_rfl) (sEs_cons (sE_str _ _ _ (by kernel_rfl)) sEs_nil (fun _ => rfl)) (by kernel_rfl) (by kernel_rfl) (by kernel_rfl))
 sS_nil) sS_nil)
 (sS_cons (sT_ret sE_v)
 sS_nil)))))
theorem fn_read {S : St} {P : Params} (E : EnvL S (KK P)) (hE : S.excs = excT) (hO_BadName : OwnVE S (Str.ofString "BadName") 44) (hO_BadRow : OwnVE S (Str.ofString "BadRow") 56) (hO_TooMany : OwnVE S (Str.ofString "TooMany") 80) (hO_Unread : OwnVE S (Str.ofString "Unread") 104) (CL : Cls S (KK P)) (hB : S.book = 289) (h_b_init : SoundF S true 2 (.ref 164) F_b_init) (h_put_line : SoundF S true 10 (.ref 319) F_put_line) (h_text_of : SoundF S true 4 (.ref 305) F_text_of) : SoundF S true 12 (.ref 326) (mkFn is_read T_read) :=
 sF_defK E.KS (isDef_of E.X (cd := 325) (ps := [(Str.ofString "text")]) rfl ⟨_, rfl⟩ rfl rfl rfl rfl ⟨_, _, _, rfl, rfl, rfl⟩ (bind1 fun _ => rfl)) (by kernel_rfl) (snd_read E hE hO_BadName hO_BadRow hO_TooMany hO_Unread CL hB h_b_init h_put_line h_text_of)
noncomputable def rho_l_right : Rho := [((Str.ofString "_law_text_here"), 0), ((Str.ofString "_law_rows_here"), 1), ((Str.ofString "_law_book_here"), 2), ((Str.ofString "_law_due"), 3)]
theorem snd_l_right {S : St} {P : Params} (E : EnvL S (KK P)) (hE : S.excs = excT) (hO_BadName : OwnVE S (Str.ofString "BadName") 44) (hO_BadRow : OwnVE S (Str.ofString "BadRow") 56) (hO_TooMany : OwnVE S (Str.ofString "TooMany") 80) (hO_Unread : OwnVE S (Str.ofString "Unread") 104) (CL : Cls S (KK P)) (hB : S.book = 289) (h_read : SoundF S true 12 (.ref 326) F_read) (h_b_rows : SoundF S true 2 (.ref 183) F_b_rows) (h_text_of : SoundF S true 4 (.ref 305) F_text_of) : SoundS S true 13 (scAt (KK P) 386) rho_l_right (bodyAt (KK P) 386) T_l_right :=
 have rho0 : RhoOK rho_l_right := rho_ok (by kernel_rfl)
 (sS_cons (sT_assign (sE_callD E.KS (h_read.deeper (by omega)) (sEs_cons sE_v sEs_nil (fun _ => rfl)) (by kernel_rfl) (E.g (by kernel_rfl)) (isFn_of E.X (by kernel_rfl)) (by kernel_rfl) (by kernel_rfl)) rho0 (by kernel_rfl) (or_kd (by kernel_rfl)) (fun _ => rfl))
 (sS_cons (sT_assignComp (sE_tcall E.KS (bRange_ok) (sEs_cons (sE_bcall E.KS (bLen_ok E.KS) (sEs_cons sE_v sEs_nil (fun _ => rfl)) (by kernel_rfl) (E.g (by kernel_rfl)) (E.b (by kernel_rfl) (by kernel_rfl)) (by kernel_rfl) (by kernel_rfl)) sEs_nil (fun _ => rfl)) (by kernel_rfl) (E.g (by kernel_rfl)) (E.b (by kernel_rfl) (by kernel_rfl)) (by kernel_rfl) (by kernel_rfl)) sFs_nil (sE_tuple (sEs_cons sE_v (sEs_cons (sE_bcall E.KS (bSorted_ok E.KS) (sEs_cons (sE_item sE_v sE_v) sEs_nil (fun _ => rfl)) (by kernel_rfl) (E.g (by kernel_rfl)) (E.b (by kernel_rfl) (by kernel_rfl)) (by kernel_rfl) (by kernel_rfl)) sEs_nil (fun _ => rfl)) (fun _ => rfl))) (comp_at (by kernel_rfl)) (fun _ _ => rfl) (by kernel_rfl) (or_kd (by kernel_rfl)))
 (sS_cons (sT_if (sB_not (sB_truth (sE_isiB E sE_v (by rw [hB]; exact isi_own (cv := .ref 289) E (by kernel_rfl) (E.g (by kernel_rfl)) (by kernel_rfl)) (by rw [hB]; kernel_rfl) (by kernel_rfl) (E.g (by kernel_rfl)) (E.b (by kernel_rfl) (by kernel_rfl)) (by kernel_rfl) (by kernel_rfl)) (fun _ _ => rfl))) (sS_cons (sT_ret (sE_bool _ _ _))
 sS_nil) sS_nil)
 (sS_cons (sT_ret (sE_boolOp (sV_and (sE_cmp cmp_eq (sE_mcall E CL (h_b_rows.deeper (by omega)) sE_v sEs_nil (fun _ => rfl) (by kernel_rfl) (by kernel_rfl) (by decide) (by rw [hB]; kernel_rfl) (by kernel_rfl) (by kernel_rfl)) sE_v rfl) (sV_one (sE_cmp cmp_eq (sE_callD E.KS (h_text_of.deeper (by omega)) (sEs_cons sE_v sEs_nil (fun _ => rfl)) (by kernel_rfl) (E.g (by kernel_rfl)) (isFn_of E.X (by kernel_rfl)) (by kernel_rfl) (by kernel_rfl)) sE_v rfl)))))
 sS_nil))))
theorem fn_l_right {S : St} {P : Params} (E : EnvL S (KK P)) (hE : S.excs = excT) (hO_BadName : OwnVE S (Str.ofString "BadName") 44) (hO_BadRow : OwnVE S (Str.ofString "BadRow") 56) (hO_TooMany : OwnVE S (Str.ofString "TooMany") 80) (hO_Unread : OwnVE S (Str.ofString "Unread") 104) (CL : Cls S (KK P)) (hB : S.book = 289) (h_read : SoundF S true 12 (.ref 326) F_read) (h_b_rows : SoundF S true 2 (.ref 183) F_b_rows) (h_text_of : SoundF S true 4 (.ref 305) F_text_of) : SoundF S true 14 (.ref 386) (mkFn is_l_right T_l_right) :=
 sF_defK E.KS (isDef_of E.X (cd := 385) (ps := [(Str.ofString "_law_text_here"), (Str.ofString "_law_rows_here")]) rfl ⟨_, rfl⟩ rfl rfl rfl rfl ⟨_, _, _, rfl, rfl, rfl⟩ (bind2 fun _ _ => rfl)) (by kernel_rfl) (snd_l_right E hE hO_BadName hO_BadRow hO_TooMany hO_Unread CL hB h_read h_b_rows h_text_of)
noncomputable def rho_l_refused : Rho := [((Str.ofString "_law_thing"), 0), ((Str.ofString "e"), 1)]
theorem snd_l_refused {S : St} {P : Params} (E : EnvL S (KK P)) (hE : S.excs = excT) (hO_BadName : OwnVE S (Str.ofString "BadName") 44) (hO_BadRow : OwnVE S (Str.ofString "BadRow") 56) (hO_TooMany : OwnVE S (Str.ofString "TooMany") 80) (hO_Unread : OwnVE S (Str.ofString "Unread") 104) (CL : Cls S (KK P)) (hB : S.book = 289) (h_read : SoundF S true 12 (.ref 326) F_read) : SoundS S true 13 (scAt (KK P) 374) rho_l_refused (bodyAt (KK P) 374) T_l_refused :=
 have rho0 : RhoOK rho_l_refused := rho_ok (by kernel_rfl)
 (sS_cons (sT_try (G := 31) E.KS (sS_cons (sT_expr (sE_callD E.KS (h_read.deeper (by omega)) (sEs_cons sE_v sEs_nil (fun _ => rfl)) (by kernel_rfl) (E.g (by kernel_rfl)) (isFn_of E.X (by kernel_rfl)) (by kernel_rfl) (by kernel_rfl)) (fun _ => rfl))
 sS_nil) (sS_cons (sT_if (sB_truth (sE_isiT E sE_v (reads_cons (isi_own (cv := .ref 44) E (by kernel_rfl) (E.g (by kernel_rfl)) (by kernel_rfl)) (reads_cons (isi_own (cv := .ref 56) E (by kernel_rfl) (E.g (by kernel_rfl)) (by kernel_rfl)) (reads_cons (isi_own (cv := .ref 92) E (by kernel_rfl) (E.g (by kernel_rfl)) (by kernel_rfl)) (reads_cons (isi_own (cv := .ref 68) E (by kernel_rfl) (E.g (by kernel_rfl)) (by kernel_rfl)) (reads_cons (isi_own (cv := .ref 80) E (by kernel_rfl) (E.g (by kernel_rfl)) (by kernel_rfl)) reads_nil))))) (by kernel_rfl) (by decide) (isiAny_of hE (by kernel_rfl)) (by kernel_rfl) (E.g (by kernel_rfl)) (E.b (by kernel_rfl) (by kernel_rfl)) (by kernel_rfl) (by kernel_rfl)) (fun _ _ => rfl)) (sS_cons (sT_ret (sE_bool _ _ _))
 sS_nil) sS_nil)
 (sS_cons (sT_ret (sE_boolOp (sV_and (sE_isiX E sE_v (isi_own (cv := .ref 104) E (by kernel_rfl) (E.g (by kernel_rfl)) (by kernel_rfl)) (isiOne_of hE (by kernel_rfl)) (by kernel_rfl) (E.g (by kernel_rfl)) (E.b (by kernel_rfl) (by kernel_rfl)) (by kernel_rfl) (by kernel_rfl)) (sV_one (sE_isiX E sE_v (isi_blt (cv := .type "ValueError") E (by kernel_rfl) (E.g (by kernel_rfl)) (E.b (by kernel_rfl) (by kernel_rfl)) (by kernel_rfl)) (isiOne_of hE (by kernel_rfl)) (by kernel_rfl) (E.g (by kernel_rfl)) (E.b (by kernel_rfl) (by kernel_rfl)) (by kernel_rfl) (by kernel_rfl))))))
 sS_nil)) rho0 (by kernel_rfl) (E.g (by kernel_rfl)) (by kernel_rfl) (fun x hx => by rw [List.mem_singleton.mp hx]; exact catches_of (C0 := 104) E (by rw [hE]; kernel_rfl) (by kernel_rfl)) (by kernel_rfl) (by kernel_rfl))
 (sS_cons (sT_ret (sE_bool _ _ _))
 sS_nil))
theorem fn_l_refused {S : St} {P : Params} (E : EnvL S (KK P)) (hE : S.excs = excT) (hO_BadName : OwnVE S (Str.ofString "BadName") 44) (hO_BadRow : OwnVE S (Str.ofString "BadRow") 56) (hO_TooMany : OwnVE S (Str.ofString "TooMany") 80) (hO_Unread : OwnVE S (Str.ofString "Unread") 104) (CL : Cls S (KK P)) (hB : S.book = 289) (h_read : SoundF S true 12 (.ref 326) F_read) : SoundF S true 14 (.ref 374) (mkFn is_l_refused T_l_refused) :=
 sF_defK E.KS (isDef_of E.X (cd := 373) (ps := [(Str.ofString "_law_thing")]) rfl ⟨_, rfl⟩ rfl rfl rfl rfl ⟨_, _, _, rfl, rfl, rfl⟩ (bind1 fun _ => rfl)) (by kernel_rfl) (snd_l_refused E hE hO_BadName hO_BadRow hO_TooMany hO_Unread CL hB h_read)
noncomputable def rho_b_take : Rho := [((Str.ofString "self"), 0), ((Str.ofString "number"), 1)]
theorem snd_b_take {S : St} {P : Params} (E : EnvL S (KK P)) (hE : S.excs = excT) (hO_BadName : OwnVE S (Str.ofString "BadName") 44) (hO_BadRow : OwnVE S (Str.ofString "BadRow") 56) (hO_TooMany : OwnVE S (Str.ofString "TooMany") 80) (hO_Unread : OwnVE S (Str.ofString "Unread") 104) (CL : Cls S (KK P)) (hB : S.book = 289)  : SoundS S true 1 (scAt (KK P) 178) rho_b_take (bodyAt (KK P) 178) T_b_take :=
 have rho0 : RhoOK rho_b_take := rho_ok (by kernel_rfl)
 (sS_cons (sT_if (sB_boolOp (sL_or (sB_not (sB_truth (sE_isi E.KS isi_ok_int sE_v (by kernel_rfl) (E.g (by kernel_rfl)) (E.b (by kernel_rfl) (by kernel_rfl)) (by kernel_rfl) (E.g (by kernel_rfl)) (E.b (by kernel_rfl) (by kernel_rfl)) (by kernel_rfl) (by kernel_rfl) (by kernel_rfl)) (fun _ _ => rfl))) (sL_or (sB_truth (sE_isi E.KS isi_ok_bool sE_v (by kernel_rfl) (E.g (by kernel_rfl)) (E.b (by kernel_rfl) (by kernel_rfl)) (by kernel_rfl) (E.g (by kernel_rfl)) (E.b (by kernel_rfl) (by kernel_rfl)) (by kernel_rfl) (by kernel_rfl) (by kernel_rfl)) (fun _ _ => rfl)) (sL_or (sB_cmp (cmp_notInD E.KS) sE_v (sE_attr E CL sE_v (by rw [hB]; kernel_rfl)) rfl) sL_orNil)))) (sS_cons sT_never
 sS_nil) sS_nil)
 (sS_cons (sT_exprA (sE_meth meth_pop bPop_ok (sE_attr E CL sE_v (by rw [hB]; kernel_rfl)) (sEs_cons sE_v sEs_nil (fun _ => rfl)) (fun _ => rfl) (by kernel_rfl) (by kernel_rfl) (by decide)) (fun _ => rfl))
 sS_nil))
theorem fn_b_take {S : St} {P : Params} (E : EnvL S (KK P)) (hE : S.excs = excT) (hO_BadName : OwnVE S (Str.ofString "BadName") 44) (hO_BadRow : OwnVE S (Str.ofString "BadRow") 56) (hO_TooMany : OwnVE S (Str.ofString "TooMany") 80) (hO_Unread : OwnVE S (Str.ofString "Unread") 104) (CL : Cls S (KK P)) (hB : S.book = 289)  : SoundF S true 2 (.ref 178) (mkFn is_b_take T_b_take) :=
 sF_defK E.KS (isDef_of E.X (cd := 177) (ps := [(Str.ofString "self"), (Str.ofString "number")]) rfl ⟨_, rfl⟩ rfl rfl rfl rfl ⟨_, _, _, rfl, rfl, rfl⟩ (bind2 fun _ _ => rfl)) (by kernel_rfl) (snd_b_take E hE hO_BadName hO_BadRow hO_TooMany hO_Unread CL hB )
noncomputable def rho_l_great : Rho := [((Str.ofString "_law_cell"), 0), ((Str.ofString "_law_count"), 1), ((Str.ofString "_law_text_here"), 2), ((Str.ofString "_law_names_here"), 3)]
theorem snd_l_great {S : St} {P : Params} (E : EnvL S (KK P)) (hE : S.excs = excT) (hO_BadName : OwnVE S (Str.ofString "BadName") 44) (hO_BadRow : OwnVE S (Str.ofString "BadRow") 56) (hO_TooMany : OwnVE S (Str.ofString "TooMany") 80) (hO_Unread : OwnVE S (Str.ofString "Unread") 104) (CL : Cls S (KK P)) (hB : S.book = 289) (h_l_refused : SoundF S true 14 (.ref 374) F_l_refused) (h_l_right : SoundF S true 14 (.ref 386) F_l_right) : SoundS S true 15 (scAt (KK P) 393) rho_l_great (bodyAt (KK P) 393) T_l_great :=
 have rho0 : RhoOK rho_l_great := rho_ok (by kernel_rfl)
 (sS_cons (sT_assign (sE_bin bin_mod (sE_bin bin_fdiv sE_v (sE_int _ _ _)) (sE_int _ _ _)) rho0 (by kernel_rfl) (or_kd (by kernel_rfl)) (fun _ => rfl))
 (sS_cons (sT_if (sB_cmp cmp_eq (sE_bin bin_mod sE_v (sE_int _ _ _)) (sE_int _ _ _) rfl) (sS_cons (sT_assign (sE_meth meth_join bJoin_ok (sE_str _ _ _ (by kernel_rfl)) (sEs_cons (sE_bin bin_mulL (sE_list (sEs_cons (sE_str _ _ _ (by kernel_rfl)) sEs_nil (fun _ => rfl))) (sE_bin bin_add (sE_int _ _ _) sE_v)) sEs_nil (fun _ => rfl)) (fun _ => rfl) (by kernel_rfl) (by kernel_rfl) (by decide)) rho0 (by kernel_rfl) (or_kd (by kernel_rfl)) (fun _ => rfl))
 (sS_cons (sT_ret (sE_if (sB_cmp cmp_gt sE_v (sE_int _ _ _) rfl) (sE_callD E.KS (h_l_refused.deeper (by omega)) (sEs_cons sE_v sEs_nil (fun _ => rfl)) (by kernel_rfl) (E.g (by kernel_rfl)) (isFn_of E.X (by kernel_rfl)) (by kernel_rfl) (by kernel_rfl)) (sE_callD E.KS (h_l_right.deeper (by omega)) (sEs_cons sE_v (sEs_cons (sE_bin bin_mulL (sE_list (sEs_cons (sE_list (sEs_cons (sE_str _ _ _ (by kernel_rfl)) sEs_nil (fun _ => rfl))) sEs_nil (fun _ => rfl))) (sE_bin bin_add (sE_int _ _ _) sE_v)) sEs_nil (fun _ => rfl)) (fun _ => rfl)) (by kernel_rfl) (E.g (by kernel_rfl)) (isFn_of E.X (by kernel_rfl)) (by kernel_rfl) (by kernel_rfl))))
 sS_nil)) sS_nil)
 (sS_cons (sT_assign (sE_tcall E.KS (bListC_ok) (sEs_cons (sE_slice (sE_str _ _ _ (by kernel_rfl)) sP_none (sP_some (sE_bin bin_add (sE_int _ _ _) sE_v))) sEs_nil (fun _ => rfl)) (by kernel_rfl) (E.g (by kernel_rfl)) (E.b (by kernel_rfl) (by kernel_rfl)) (by kernel_rfl) (by kernel_rfl)) rho0 (by kernel_rfl) (or_kd (by kernel_rfl)) (fun _ => rfl))
 (sS_cons (sT_assign (sE_meth meth_join bJoin_ok (sE_str _ _ _ (by kernel_rfl)) (sEs_cons sE_v sEs_nil (fun _ => rfl)) (fun _ => rfl) (by kernel_rfl) (by kernel_rfl) (by decide)) rho0 (by kernel_rfl) (or_kd (by kernel_rfl)) (fun _ => rfl))
 (sS_cons (sT_ret (sE_if (sB_cmp cmp_gt sE_v (sE_int _ _ _) rfl) (sE_callD E.KS (h_l_refused.deeper (by omega)) (sEs_cons sE_v sEs_nil (fun _ => rfl)) (by kernel_rfl) (E.g (by kernel_rfl)) (isFn_of E.X (by kernel_rfl)) (by kernel_rfl) (by kernel_rfl)) (sE_callD E.KS (h_l_right.deeper (by omega)) (sEs_cons sE_v (sEs_cons (sE_list (sEs_cons sE_v sEs_nil (fun _ => rfl))) sEs_nil (fun _ => rfl)) (fun _ => rfl)) (by kernel_rfl) (E.g (by kernel_rfl)) (isFn_of E.X (by kernel_rfl)) (by kernel_rfl) (by kernel_rfl))))
 sS_nil)))))
theorem fn_l_great {S : St} {P : Params} (E : EnvL S (KK P)) (hE : S.excs = excT) (hO_BadName : OwnVE S (Str.ofString "BadName") 44) (hO_BadRow : OwnVE S (Str.ofString "BadRow") 56) (hO_TooMany : OwnVE S (Str.ofString "TooMany") 80) (hO_Unread : OwnVE S (Str.ofString "Unread") 104) (CL : Cls S (KK P)) (hB : S.book = 289) (h_l_refused : SoundF S true 14 (.ref 374) F_l_refused) (h_l_right : SoundF S true 14 (.ref 386) F_l_right) : SoundF S true 16 (.ref 393) (mkFn is_l_great T_l_great) :=
 sF_defK E.KS (isDef_of E.X (cd := 392) (ps := [(Str.ofString "_law_cell")]) rfl ⟨_, rfl⟩ rfl rfl rfl rfl ⟨_, _, _, rfl, rfl, rfl⟩ (bind1 fun _ => rfl)) (by kernel_rfl) (snd_l_great E hE hO_BadName hO_BadRow hO_TooMany hO_Unread CL hB h_l_refused h_l_right)
noncomputable def rho_l_spoilt : Rho := [((Str.ofString "_law_text_here"), 0), ((Str.ofString "_law_cell"), 1), ((Str.ofString "_law_some"), 2), ((Str.ofString "_law_line"), 3), ((Str.ofString "_law_at"), 4), ((Str.ofString "_law_more"), 5), ((Str.ofString "_law_sign"), 6)]
theorem snd_l_spoilt {S : St} {P : Params} (E : EnvL S (KK P)) (hE : S.excs = excT) (hO_BadName : OwnVE S (Str.ofString "BadName") 44) (hO_BadRow : OwnVE S (Str.ofString "BadRow") 56) (hO_TooMany : OwnVE S (Str.ofString "TooMany") 80) (hO_Unread : OwnVE S (Str.ofString "Unread") 104) (CL : Cls S (KK P)) (hB : S.book = 289)  : SoundS S true 1 (scAt (KK P) 381) rho_l_spoilt (bodyAt (KK P) 381) T_l_spoilt :=
 have rho0 : RhoOK rho_l_spoilt := rho_ok (by kernel_rfl)
 (sS_cons (sT_assign (sE_str _ _ _ (by kernel_rfl)) rho0 (by kernel_rfl) (or_kd (by kernel_rfl)) (fun _ => rfl))
 (sS_cons (sT_assign (sE_bin bin_add sE_v (sE_str _ _ _ (by kernel_rfl))) rho0 (by kernel_rfl) (or_kd (by kernel_rfl)) (fun _ => rfl))
 (sS_cons (sT_if (sB_cmp cmp_eq (sE_bin bin_mod sE_v (sE_int _ _ _)) (sE_int _ _ _) rfl) (sS_cons (sT_assign (sE_item (sE_list (sEs_cons (sE_str _ _ _ (by kernel_rfl)) (sEs_cons (sE_str _ _ _ (by kernel_rfl)) (sEs_cons (sE_str _ _ _ (by kernel_rfl)) (sEs_cons (sE_str _ _ _ (by kernel_rfl)) (sEs_cons (sE_str _ _ _ (by kernel_rfl)) (sEs_cons (sE_str _ _ _ (by kernel_rfl)) (sEs_cons (sE_str _ _ _ (by kernel_rfl)) (sEs_cons (sE_str _ _ _ (by kernel_rfl)) (sEs_cons (sE_str _ _ _ (by kernel_rfl)) sEs_nil (fun _ => rfl)) (fun _ => rfl)) (fun _ => rfl)) (fun _ => rfl)) (fun _ => rfl)) (fun _ => rfl)) (fun _ => rfl)) (fun _ => rfl)) (fun _ => rfl))) (sE_bin bin_mod (sE_bin bin_fdiv sE_v (sE_int _ _ _)) (sE_int _ _ _))) rho0 (by kernel_rfl) (or_kd (by kernel_rfl)) (fun _ => rfl))
 (sS_cons (sT_if (sB_cmp cmp_eq (sE_bin bin_mod (sE_bin bin_fdiv sE_v (sE_int _ _ _)) (sE_int _ _ _)) (sE_int _ _ _) rfl) (sS_cons (sT_ret (sE_bin bin_add (sE_bin bin_add sE_v (sE_str _ _ _ (by kernel_rfl))) sE_v))
 sS_nil) sS_nil)
 (sS_cons (sT_ret (sE_bin bin_add (sE_bin bin_add sE_v (sE_str _ _ _ (by kernel_rfl))) sE_v))
 sS_nil))) sS_nil)
 (sS_cons (sT_assign (sE_bin bin_mod (sE_bin bin_fdiv sE_v (sE_int _ _ _)) (sE_bin bin_add (sE_bcall E.KS (bLen_ok E.KS) (sEs_cons sE_v sEs_nil (fun _ => rfl)) (by kernel_rfl) (E.g (by kernel_rfl)) (E.b (by kernel_rfl) (by kernel_rfl)) (by kernel_rfl) (by kernel_rfl)) (sE_int _ _ _))) rho0 (by kernel_rfl) (or_kd (by kernel_rfl)) (fun _ => rfl))
 (sS_cons (sT_assign (sE_bin bin_fdiv (sE_bin bin_fdiv sE_v (sE_int _ _ _)) (sE_bin bin_add (sE_bcall E.KS (bLen_ok E.KS) (sEs_cons sE_v sEs_nil (fun _ => rfl)) (by kernel_rfl) (E.g (by kernel_rfl)) (E.b (by kernel_rfl) (by kernel_rfl)) (by kernel_rfl) (by kernel_rfl)) (sE_int _ _ _))) rho0 (by kernel_rfl) (or_kd (by kernel_rfl)) (fun _ => rfl))
 (sS_cons (sT_assign (sE_item sE_v (sE_bin bin_mod (sE_bin bin_fdiv sE_v (sE_int _ _ _)) (sE_bcall E.KS (bLen_ok E.KS) (sEs_cons sE_v sEs_nil (fun _ => rfl)) (by kernel_rfl) (E.g (by kernel_rfl)) (E.b (by kernel_rfl) (by kernel_rfl)) (by kernel_rfl) (by kernel_rfl)))) rho0 (by kernel_rfl) (or_kd (by kernel_rfl)) (fun _ => rfl))
 (sS_cons (sT_ret (sE_bin bin_add (sE_bin bin_add (sE_slice sE_v sP_none (sP_some sE_v)) sE_v) (sE_slice sE_v (sP_some (sE_bin bin_add sE_v (sE_bin bin_mod sE_v (sE_int _ _ _)))) sP_none)))
 sS_nil)))))))
theorem fn_l_spoilt {S : St} {P : Params} (E : EnvL S (KK P)) (hE : S.excs = excT) (hO_BadName : OwnVE S (Str.ofString "BadName") 44) (hO_BadRow : OwnVE S (Str.ofString "BadRow") 56) (hO_TooMany : OwnVE S (Str.ofString "TooMany") 80) (hO_Unread : OwnVE S (Str.ofString "Unread") 104) (CL : Cls S (KK P)) (hB : S.book = 289)  : SoundF S true 2 (.ref 381) (mkFn is_l_spoilt T_l_spoilt) :=
 sF_defK E.KS (isDef_of E.X (cd := 380) (ps := [(Str.ofString "_law_text_here"), (Str.ofString "_law_cell")]) rfl ⟨_, rfl⟩ rfl rfl rfl rfl ⟨_, _, _, rfl, rfl, rfl⟩ (bind2 fun _ _ => rfl)) (by kernel_rfl) (snd_l_spoilt E hE hO_BadName hO_BadRow hO_TooMany hO_Unread CL hB )
noncomputable def rho_l_is_name : Rho := [((Str.ofString "_law_word"), 0)]
theorem snd_l_is_name {S : St} {P : Params} (E : EnvL S (KK P)) (hE : S.excs = excT) (hO_BadName : OwnVE S (Str.ofString "BadName") 44) (hO_BadRow : OwnVE S (Str.ofString "BadRow") 56) (hO_TooMany : OwnVE S (Str.ofString "TooMany") 80) (hO_Unread : OwnVE S (Str.ofString "Unread") 104) (CL : Cls S (KK P)) (hB : S.book = 289)  : SoundS S true 1 (scAt (KK P) 362) rho_l_is_name (bodyAt (KK P) 362) T_l_is_name :=
 have rho0 : RhoOK rho_l_is_name := rho_ok (by kernel_rfl)
 (sS_cons (sT_if (sB_not (sB_chain cmp_le cmp_le (sE_int _ _ _) (sE_bcall E.KS (bLen_ok E.KS) (sEs_cons sE_v sEs_nil (fun _ => rfl)) (by kernel_rfl) (E.g (by kernel_rfl)) (E.b (by kernel_rfl) (by kernel_rfl)) (by kernel_rfl) (by kernel_rfl)) (sE_int _ _ _) rfl)) (sS_cons (sT_ret (sE_bool _ _ _))
 sS_nil) sS_nil)
 (sS_cons (sT_ret (sE_cmp cmp_eq (sE_comp sE_v (sFs_one (sB_cmp cmp_notIn sE_v (sE_str _ _ _ (by kernel_rfl)) rfl)) sE_v (comp_at (by kernel_rfl)) (fun _ _ => rfl)) (sE_list sEs_nil) rfl))
 sS_nil))
theorem fn_l_is_name {S : St} {P : Params} (E : EnvL S (KK P)) (hE : S.excs = excT) (hO_BadName : OwnVE S (Str.ofString "BadName") 44) (hO_BadRow : OwnVE S (Str.ofString "BadRow") 56) (hO_TooMany : OwnVE S (Str.ofString "TooMany") 80) (hO_Unread : OwnVE S (Str.ofString "Unread") 104) (CL : Cls S (KK P)) (hB : S.book = 289)  : SoundF S true 2 (.ref 362) (mkFn is_l_is_name T_l_is_name) :=
 sF_defK E.KS (isDef_of E.X (cd := 361) (ps := [(Str.ofString "_law_word")]) rfl ⟨_, rfl⟩ rfl rfl rfl rfl ⟨_, _, _, rfl, rfl, rfl⟩ (bind1 fun _ => rfl)) (by kernel_rfl) (snd_l_is_name E hE hO_BadName hO_BadRow hO_TooMany hO_Unread CL hB )
noncomputable def rho_l_rows : Rho := [((Str.ofString "_law_text_here"), 0), ((Str.ofString "_law_rows_here"), 1), ((Str.ofString "_law_line"), 2), ((Str.ofString "_law_words"), 3)]
theorem snd_l_rows {S : St} {P : Params} (E : EnvL S (KK P)) (hE : S.excs = excT) (hO_BadName : OwnVE S (Str.ofString "BadName") 44) (hO_BadRow : OwnVE S (Str.ofString "BadRow") 56) (hO_TooMany : OwnVE S (Str.ofString "TooMany") 80) (hO_Unread : OwnVE S (Str.ofString "Unread") 104) (CL : Cls S (KK P)) (hB : S.book = 289) (h_l_is_name : SoundF S true 2 (.ref 362) F_l_is_name) : SoundS S true 3 (scAt (KK P) 367) rho_l_rows (bodyAt (KK P) 367) T_l_rows :=
 have rho0 : RhoOK rho_l_rows := rho_ok (by kernel_rfl)
 (sS_cons (sT_if (sB_cmp cmp_eq sE_v (sE_str _ _ _ (by kernel_rfl)) rfl) (sS_cons (sT_ret (sE_list sEs_nil))
 sS_nil) sS_nil)
 (sS_cons (sT_assign (sE_list sEs_nil) rho0 (by kernel_rfl) (or_kd (by kernel_rfl)) (fun _ => rfl))
 (sS_cons (sT_for (sE_meth meth_split bSplit_ok sE_v (sEs_cons (sE_str _ _ _ (by kernel_rfl)) sEs_nil (fun _ => rfl)) (fun _ => rfl) (by kernel_rfl) (by kernel_rfl) (by decide)) (sS_cons (sT_assign (sE_meth meth_split bSplit_ok sE_v (sEs_cons (sE_str _ _ _ (by kernel_rfl)) sEs_nil (fun _ => rfl)) (fun _ => rfl) (by kernel_rfl) (by kernel_rfl) (by decide)) rho0 (by kernel_rfl) (or_kd (by kernel_rfl)) (fun _ => rfl))
 (sS_cons (sT_if (sB_cmp cmp_eq sE_v (sE_str _ _ _ (by kernel_rfl)) rfl) (sS_cons (sT_assign (sE_list sEs_nil) rho0 (by kernel_rfl) (or_kd (by kernel_rfl)) (fun _ => rfl))
 sS_nil) sS_nil)
 (sS_cons (sT_if (sB_cmp cmp_ne (sE_comp sE_v (sFs_one (sB_not (sB_truth (sE_callD E.KS (h_l_is_name.deeper (by omega)) (sEs_cons sE_v sEs_nil (fun _ => rfl)) (by kernel_rfl) (E.g (by kernel_rfl)) (isFn_of E.X (by kernel_rfl)) (by kernel_rfl) (by kernel_rfl)) (fun _ _ => rfl)))) sE_v (comp_at (by kernel_rfl)) (fun _ _ => rfl)) (sE_list sEs_nil) rfl) (sS_cons (sT_ret (sE_none _ _))
 sS_nil) sS_nil)
 (sS_cons (sT_if (sB_cmp cmp_ne (sE_comp (sE_tcall E.KS (bRange2_ok) (sEs_cons (sE_int _ _ _) (sEs_cons (sE_bcall E.KS (bLen_ok E.KS) (sEs_cons sE_v sEs_nil (fun _ => rfl)) (by kernel_rfl) (E.g (by kernel_rfl)) (E.b (by kernel_rfl) (by kernel_rfl)) (by kernel_rfl) (by kernel_rfl)) sEs_nil (fun _ => rfl)) (fun _ => rfl)) (by kernel_rfl) (E.g (by kernel_rfl)) (E.b (by kernel_rfl) (by kernel_rfl)) (by kernel_rfl) (by kernel_rfl)) (sFs_one (sB_cmp cmp_leS (sE_item sE_v sE_v) (sE_item sE_v (sE_bin bin_sub sE_v (sE_int _ _ _))) rfl)) sE_v (comp_at (by kernel_rfl)) (fun _ _ => rfl)) (sE_list sEs_nil) rfl) (sS_cons (sT_ret (sE_none _ _))
 sS_nil) sS_nil)
 (sS_cons (sT_expr (sE_meth meth_append bAppend_ok sE_v (sEs_cons sE_v sEs_nil (fun _ => rfl)) (fun _ => rfl) (by kernel_rfl) (by kernel_rfl) (by decide)) (fun _ => rfl))
 sS_nil))))) rho0 (by kernel_rfl) (or_kd (by kernel_rfl)) (fun _ _ => rfl))
 (sS_cons (sT_ret sE_v)
 sS_nil))))
theorem fn_l_rows {S : St} {P : Params} (E : EnvL S (KK P)) (hE : S.excs = excT) (hO_BadName : OwnVE S (Str.ofString "BadName") 44) (hO_BadRow : OwnVE S (Str.ofString "BadRow") 56) (hO_TooMany : OwnVE S (Str.ofString "TooMany") 80) (hO_Unread : OwnVE S (Str.ofString "Unread") 104) (CL : Cls S (KK P)) (hB : S.book = 289) (h_l_is_name : SoundF S true 2 (.ref 362) F_l_is_name) : SoundF S true 4 (.ref 367) (mkFn is_l_rows T_l_rows) :=
 sF_defK E.KS (isDef_of E.X (cd := 366) (ps := [(Str.ofString "_law_text_here")]) rfl ⟨_, rfl⟩ rfl rfl rfl rfl ⟨_, _, _, rfl, rfl, rfl⟩ (bind1 fun _ => rfl)) (by kernel_rfl) (snd_l_rows E hE hO_BadName hO_BadRow hO_TooMany hO_Unread CL hB h_l_is_name)
noncomputable def rho_law : Rho := [((Str.ofString "_law_script"), 0), ((Str.ofString "_law_names_here"), 1), ((Str.ofString "_law_rows_here"), 2), ((Str.ofString "_law_book_here"), 3), ((Str.ofString "_law_text_here"), 4), ((Str.ofString "_law_other"), 5), ((Str.ofString "_law_more"), 6), ((Str.ofString "_law_odd"), 7), ((Str.ofString "_law_spoilt_here"), 8), ((Str.ofString "_law_found"), 9)]
theorem snd_law {S : St} {P : Params} (E : EnvL S (KK P)) (hE : S.excs = excT) (hO_BadName : OwnVE S (Str.ofString "BadName") 44) (hO_BadRow : OwnVE S (Str.ofString "BadRow") 56) (hO_TooMany : OwnVE S (Str.ofString "TooMany") 80) (hO_Unread : OwnVE S (Str.ofString "Unread") 104) (CL : Cls S (KK P)) (hB : S.book = 289) (h_l_names : SoundF S true 4 (.ref 338) F_l_names) (h_l_row : SoundF S true 2 (.ref 345) F_l_row) (h_l_draw : SoundF S true 2 (.ref 333) F_l_draw) (h_l_book : SoundF S true 10 (.ref 352) F_l_book) (h_text_of : SoundF S true 4 (.ref 305) F_text_of) (h_l_text : SoundF S true 2 (.ref 357) F_l_text) (h_l_right : SoundF S true 14 (.ref 386) F_l_right) (h_read : SoundF S true 12 (.ref 326) F_read) (h_b_put : SoundF S true 8 (.ref 171) F_b_put) (h_l_refused : SoundF S true 14 (.ref 374) F_l_refused) (h_b_take : SoundF S true 2 (.ref 178) F_b_take) (h_l_great : SoundF S true 16 (.ref 393) F_l_great) (h_l_spoilt : SoundF S true 2 (.ref 381) F_l_spoilt) (h_l_rows : SoundF S true 4 (.ref 367) F_l_rows) : SoundS S true 17 (scAt (KK P) 398) rho_law (bodyAt (KK P) 398) T_law :=
 have rho0 : RhoOK rho_law := rho_ok (by kernel_rfl)
 (sS_cons (sT_assign (sE_callD E.KS (h_l_names.deeper (by omega)) (sEs_cons sE_v sEs_nil (fun _ => rfl)) (by kernel_rfl) (E.g (by kernel_rfl)) (isFn_of E.X (by kernel_rfl)) (by kernel_rfl) (by kernel_rfl)) rho0 (by kernel_rfl) (or_kd (by kernel_rfl)) (fun _ => rfl))
 (sS_cons (sT_assignComp (sE_tcall E.KS (bRange_ok) (sEs_cons (sE_bin bin_mod (sE_callD E.KS (h_l_draw.deeper (by omega)) (sEs_cons sE_v (sEs_cons (sE_int _ _ _) sEs_nil (fun _ => rfl)) (fun _ => rfl)) (by kernel_rfl) (E.g (by kernel_rfl)) (isFn_of E.X (by kernel_rfl)) (by kernel_rfl) (by kernel_rfl)) (sE_int _ _ _)) sEs_nil (fun _ => rfl)) (by kernel_rfl) (E.g (by kernel_rfl)) (E.b (by kernel_rfl) (by kernel_rfl)) (by kernel_rfl) (by kernel_rfl)) sFs_nil (sE_callD E.KS (h_l_row.deeper (by omega)) (sEs_cons sE_v (sEs_cons (sE_callD E.KS (h_l_draw.deeper (by omega)) (sEs_cons sE_v (sEs_cons (sE_bin bin_add (sE_int _ _ _) sE_v) sEs_nil (fun _ => rfl)) (fun _ => rfl)) (by kernel_rfl) (E.g (by kernel_rfl)) (isFn_of E.X (by kernel_rfl)) (by kernel_rfl) (by kernel_rfl)) sEs_nil (fun _ => rfl)) (fun _ => rfl)) (by kernel_rfl) (E.g (by kernel_rfl)) (isFn_of E.X (by kernel_rfl)) (by kernel_rfl) (by kernel_rfl)) (comp_at (by kernel_rfl)) (fun _ _ => rfl) (by kernel_rfl) (or_kd (by kernel_rfl)))
 (sS_cons (sT_assign (sE_callD E.KS (h_l_book.deeper (by omega)) (sEs_cons sE_v sEs_nil (fun _ => rfl)) (by kernel_rfl) (E.g (by kernel_rfl)) (isFn_of E.X (by kernel_rfl)) (by kernel_rfl) (by kernel_rfl)) rho0 (by kernel_rfl) (or_kd (by kernel_rfl)) (fun _ => rfl))
 (sS_cons (sT_assign (sE_callD E.KS (h_text_of.deeper (by omega)) (sEs_cons sE_v sEs_nil (fun _ => rfl)) (by kernel_rfl) (E.g (by kernel_rfl)) (isFn_of E.X (by kernel_rfl)) (by kernel_rfl) (by kernel_rfl)) rho0 (by kernel_rfl) (or_kd (by kernel_rfl)) (fun _ => rfl))
 (sS_cons (sT_if (sB_boolOp (sL_or (sB_not (sB_truth (sE_isi E.KS isi_ok_str sE_v (by kernel_rfl) (E.g (by kernel_rfl)) (E.b (by kernel_rfl) (by kernel_rfl)) (by kernel_rfl) (E.g (by kernel_rfl)) (E.b (by kernel_rfl) (by kernel_rfl)) (by kernel_rfl) (by kernel_rfl) (by kernel_rfl)) (fun _ _ => rfl))) (sL_or (sB_cmp cmp_ne sE_v (sE_callD E.KS (h_l_text.deeper (by omega)) (sEs_cons sE_v sEs_nil (fun _ => rfl)) (by kernel_rfl) (E.g (by kernel_rfl)) (isFn_of E.X (by kernel_rfl)) (by kernel_rfl) (by kernel_rfl)) rfl) sL_orNil))) (sS_cons (sT_ret (sE_bool _ _ _))
 sS_nil) sS_nil)
 (sS_cons (sT_if (sB_not (sB_truth (sE_callD E.KS (h_l_right.deeper (by omega)) (sEs_cons sE_v (sEs_cons sE_v sEs_nil (fun _ => rfl)) (fun _ => rfl)) (by kernel_rfl) (E.g (by kernel_rfl)) (isFn_of E.X (by kernel_rfl)) (by kernel_rfl) (by kernel_rfl)) (fun _ _ => rfl))) (sS_cons (sT_ret (sE_bool _ _ _))
 sS_nil) sS_nil)
 (sS_cons (sT_assign (sE_callD E.KS (h_read.deeper (by omega)) (sEs_cons sE_v sEs_nil (fun _ => rfl)) (by kernel_rfl) (E.g (by kernel_rfl)) (isFn_of E.X (by kernel_rfl)) (by kernel_rfl) (by kernel_rfl)) rho0 (by kernel_rfl) (or_kd (by kernel_rfl)) (fun _ => rfl))
 (sS_cons (sT_expr (sE_mcall E CL (h_b_put.deeper (by omega)) sE_v (sEs_cons (sE_list (sEs_cons (sE_item sE_v (sE_int _ _ _)) sEs_nil (fun _ => rfl))) sEs_nil (fun _ => rfl)) (fun _ => rfl) (by kernel_rfl) (by kernel_rfl) (by decide) (by rw [hB]; kernel_rfl) (by kernel_rfl) (by kernel_rfl)) (fun _ => rfl))
 (sS_cons (sT_assign (sE_bin bin_add sE_v (sE_list (sEs_cons (sE_list (sEs_cons (sE_item sE_v (sE_int _ _ _)) sEs_nil (fun _ => rfl))) sEs_nil (fun _ => rfl)))) rho0 (by kernel_rfl) (or_kd (by kernel_rfl)) (fun _ => rfl))
 (sS_cons (sT_if (sB_boolOp (sL_or (sB_cmp cmp_ne (sE_callD E.KS (h_text_of.deeper (by omega)) (sEs_cons sE_v sEs_nil (fun _ => rfl)) (by kernel_rfl) (E.g (by kernel_rfl)) (isFn_of E.X (by kernel_rfl)) (by kernel_rfl) (by kernel_rfl)) (sE_callD E.KS (h_l_text.deeper (by omega)) (sEs_cons sE_v sEs_nil (fun _ => rfl)) (by kernel_rfl) (E.g (by kernel_rfl)) (isFn_of E.X (by kernel_rfl)) (by kernel_rfl) (by kernel_rfl)) rfl) (sL_or (sB_cmp cmp_ne (sE_callD E.KS (h_text_of.deeper (by omega)) (sEs_cons sE_v sEs_nil (fun _ => rfl)) (by kernel_rfl) (E.g (by kernel_rfl)) (isFn_of E.X (by kernel_rfl)) (by kernel_rfl) (by kernel_rfl)) sE_v rfl) sL_orNil))) (sS_cons (sT_ret (sE_bool _ _ _))
 sS_nil) sS_nil)
 (sS_cons (sT_expr (sE_mcall E CL (h_b_put.deeper (by omega)) sE_v (sEs_cons (sE_list (sEs_cons (sE_item sE_v (sE_int _ _ _)) sEs_nil (fun _ => rfl))) sEs_nil (fun _ => rfl)) (fun _ => rfl) (by kernel_rfl) (by kernel_rfl) (by decide) (by rw [hB]; kernel_rfl) (by kernel_rfl) (by kernel_rfl)) (fun _ => rfl))
 (sS_cons (sT_assign (sE_item (sE_list (sEs_cons (sE_none _ _) (sEs_cons (sE_int _ _ _) (sEs_cons (sE_list (sEs_cons sE_v sEs_nil (fun _ => rfl))) (sEs_cons (sE_bool _ _ _) (sEs_cons (sE_tuple (sEs_cons (sE_str _ _ _ (by kernel_rfl)) sEs_nil (fun _ => rfl))) sEs_nil (fun _ => rfl)) (fun _ => rfl)) (fun _ => rfl)) (fun _ => rfl)) (fun _ => rfl))) (sE_bin bin_mod (sE_callD E.KS (h_l_draw.deeper (by omega)) (sEs_cons sE_v (sEs_cons (sE_int _ _ _) sEs_nil (fun _ => rfl)) (fun _ => rfl)) (by kernel_rfl) (E.g (by kernel_rfl)) (isFn_of E.X (by kernel_rfl)) (by kernel_rfl) (by kernel_rfl)) (sE_int _ _ _))) rho0 (by kernel_rfl) (or_kd (by kernel_rfl)) (fun _ => rfl))
 (sS_cons (sT_if (sB_boolOp (sL_or (sB_cmp cmp_ne (sE_callD E.KS (h_text_of.deeper (by omega)) (sEs_cons sE_v sEs_nil (fun _ => rfl)) (by kernel_rfl) (E.g (by kernel_rfl)) (isFn_of E.X (by kernel_rfl)) (by kernel_rfl) (by kernel_rfl)) (sE_callD E.KS (h_l_text.deeper (by omega)) (sEs_cons sE_v sEs_nil (fun _ => rfl)) (by kernel_rfl) (E.g (by kernel_rfl)) (isFn_of E.X (by kernel_rfl)) (by kernel_rfl) (by kernel_rfl)) rfl) (sL_or (sB_not (sB_truth (sE_callD E.KS (h_l_refused.deeper (by omega)) (sEs_cons sE_v sEs_nil (fun _ => rfl)) (by kernel_rfl) (E.g (by kernel_rfl)) (isFn_of E.X (by kernel_rfl)) (by kernel_rfl) (by kernel_rfl)) (fun _ _ => rfl))) sL_orNil))) (sS_cons (sT_ret (sE_bool _ _ _))
 sS_nil) sS_nil)
 (sS_cons (sT_expr (sE_mcall E CL (h_b_take.deeper (by omega)) sE_v (sEs_cons (sE_int _ _ _) sEs_nil (fun _ => rfl)) (fun _ => rfl) (by kernel_rfl) (by kernel_rfl) (by decide) (by rw [hB]; kernel_rfl) (by kernel_rfl) (by kernel_rfl)) (fun _ => rfl))
 (sS_cons (sT_if (sB_cmp cmp_ne (sE_callD E.KS (h_text_of.deeper (by omega)) (sEs_cons sE_v sEs_nil (fun _ => rfl)) (by kernel_rfl) (E.g (by kernel_rfl)) (isFn_of E.X (by kernel_rfl)) (by kernel_rfl) (by kernel_rfl)) (sE_callD E.KS (h_l_text.deeper (by omega)) (sEs_cons (sE_slice sE_v (sP_some (sE_int _ _ _)) sP_none) sEs_nil (fun _ => rfl)) (by kernel_rfl) (E.g (by kernel_rfl)) (isFn_of E.X (by kernel_rfl)) (by kernel_rfl) (by kernel_rfl)) rfl) (sS_cons (sT_ret (sE_bool _ _ _))
 sS_nil) sS_nil)
 (sS_cons (sT_if (sB_cmp cmp_eq (sE_bin bin_mod (sE_callD E.KS (h_l_draw.deeper (by omega)) (sEs_cons sE_v (sEs_cons (sE_int _ _ _) sEs_nil (fun _ => rfl)) (fun _ => rfl)) (by kernel_rfl) (E.g (by kernel_rfl)) (isFn_of E.X (by kernel_rfl)) (by kernel_rfl) (by kernel_rfl)) (sE_int _ _ _)) (sE_int _ _ _) rfl) (sS_cons (sT_ret (sE_boolOp (sV_and (sE_cmp cmp_eq (sE_callD E.KS (h_text_of.deeper (by omega)) (sEs_cons (sE_callD E.KS (h_read.deeper (by omega)) (sEs_cons sE_v sEs_nil (fun _ => rfl)) (by kernel_rfl) (E.g (by kernel_rfl)) (isFn_of E.X (by kernel_rfl)) (by kernel_rfl) (by kernel_rfl)) sEs_nil (fun _ => rfl)) (by kernel_rfl) (E.g (by kernel_rfl)) (isFn_of E.X (by kernel_rfl)) (by kernel_rfl) (by kernel_rfl)) sE_v rfl) (sV_one (sE_callD E.KS (h_l_great.deeper (by omega)) (sEs_cons (sE_bin bin_fdiv (sE_callD E.KS (h_l_draw.deeper (by omega)) (sEs_cons sE_v (sEs_cons (sE_int _ _ _) sEs_nil (fun _ => rfl)) (fun _ => rfl)) (by kernel_rfl) (E.g (by kernel_rfl)) (isFn_of E.X (by kernel_rfl)) (by kernel_rfl) (by kernel_rfl)) (sE_int _ _ _)) sEs_nil (fun _ => rfl)) (by kernel_rfl) (E.g (by kernel_rfl)) (isFn_of E.X (by kernel_rfl)) (by kernel_rfl) (by kernel_rfl))))))
 sS_nil) sS_nil)
 (sS_cons (sT_assign (sE_callD E.KS (h_l_spoilt.deeper (by omega)) (sEs_cons sE_v (sEs_cons (sE_bin bin_fdiv (sE_callD E.KS (h_l_draw.deeper (by omega)) (sEs_cons sE_v (sEs_cons (sE_int _ _ _) sEs_nil (fun _ => rfl)) (fun _ => rfl)) (by kernel_rfl) (E.g (by kernel_rfl)) (isFn_of E.X (by kernel_rfl)) (by kernel_rfl) (by kernel_rfl)) (sE_int _ _ _)) sEs_nil (fun _ => rfl)) (fun _ => rfl)) (by kernel_rfl) (E.g (by kernel_rfl)) (isFn_of E.X (by kernel_rfl)) (by kernel_rfl) (by kernel_rfl)) rho0 (by kernel_rfl) (or_kd (by kernel_rfl)) (fun _ => rfl))
 (sS_cons (sT_assign (sE_callD E.KS (h_l_rows.deeper (by omega)) (sEs_cons sE_v sEs_nil (fun _ => rfl)) (by kernel_rfl) (E.g (by kernel_rfl)) (isFn_of E.X (by kernel_rfl)) (by kernel_rfl) (by kernel_rfl)) rho0 (by kernel_rfl) (or_kd (by kernel_rfl)) (fun _ => rfl))
 (sS_cons (sT_if (sB_cmp cmp_is sE_v (sE_none _ _) rfl) (sS_cons (sT_ret (sE_callD E.KS (h_l_refused.deeper (by omega)) (sEs_cons sE_v sEs_nil (fun _ => rfl)) (by kernel_rfl) (E.g (by kernel_rfl)) (isFn_of E.X (by kernel_rfl)) (by kernel_rfl) (by kernel_rfl)))
 sS_nil) sS_nil)
 (sS_cons (sT_ret (sE_callD E.KS (h_l_right.deeper (by omega)) (sEs_cons sE_v (sEs_cons sE_v sEs_nil (fun _ => rfl)) (fun _ => rfl)) (by kernel_rfl) (E.g (by kernel_rfl)) (isFn_of E.X (by kernel_rfl)) (by kernel_rfl) (by kernel_rfl)))
 sS_nil))))))))))))))))))))
theorem fn_law {S : St} {P : Params} (E : EnvL S (KK P)) (hE : S.excs = excT) (hO_BadName : OwnVE S (Str.ofString "BadName") 44) (hO_BadRow : OwnVE S (Str.ofString "BadRow") 56) (hO_TooMany : OwnVE S (Str.ofString "TooMany") 80) (hO_Unread : OwnVE S (Str.ofString "Unread") 104) (CL : Cls S (KK P)) (hB : S.book = 289) (h_l_names : SoundF S true 4 (.ref 338) F_l_names) (h_l_row : SoundF S true 2 (.ref 345) F_l_row) (h_l_draw : SoundF S true 2 (.ref 333) F_l_draw) (h_l_book : SoundF S true 10 (.ref 352) F_l_book) (h_text_of : SoundF S true 4 (.ref 305) F_text_of) (h_l_text : SoundF S true 2 (.ref 357) F_l_text) (h_l_right : SoundF S true 14 (.ref 386) F_l_right) (h_read : SoundF S true 12 (.ref 326) F_read) (h_b_put : SoundF S true 8 (.ref 171) F_b_put) (h_l_refused : SoundF S true 14 (.ref 374) F_l_refused) (h_b_take : SoundF S true 2 (.ref 178) F_b_take) (h_l_great : SoundF S true 16 (.ref 393) F_l_great) (h_l_spoilt : SoundF S true 2 (.ref 381) F_l_spoilt) (h_l_rows : SoundF S true 4 (.ref 367) F_l_rows) : SoundF S true 18 (.ref 398) (mkFn is_law T_law) :=
 sF_defK E.KS (isDef_of E.X (cd := 397) (ps := [(Str.ofString "_law_script")]) rfl ⟨_, rfl⟩ rfl rfl rfl rfl ⟨_, _, _, rfl, rfl, rfl⟩ (bind1 fun _ => rfl)) (by kernel_rfl) (snd_law E hE hO_BadName hO_BadRow hO_TooMany hO_Unread CL hB h_l_names h_l_row h_l_draw h_l_book h_text_of h_l_text h_l_right h_read h_b_put h_l_refused h_b_take h_l_great h_l_spoilt h_l_rows)
theorem law_sound {S : St} {P : Params} (E : EnvL S (KK P)) (hE : S.excs = excT) (hO_BadName : OwnVE S (Str.ofString "BadName") 44) (hO_BadRow : OwnVE S (Str.ofString "BadRow") 56) (hO_TooMany : OwnVE S (Str.ofString "TooMany") 80) (hO_Unread : OwnVE S (Str.ofString "Unread") 104) (CL : Cls S (KK P)) (hB : S.book = 289) : SoundF S true 36 (.ref 398) lawFn := by
 have h_l_draw := (fn_l_draw E hE hO_BadName hO_BadRow hO_TooMany hO_Unread CL hB ).mono ok_l_draw
 have h_l_names := (fn_l_names E hE hO_BadName hO_BadRow hO_TooMany hO_Unread CL hB h_l_draw).mono ok_l_names
 have h_l_row := (fn_l_row E hE hO_BadName hO_BadRow hO_TooMany hO_Unread CL hB ).mono ok_l_row
 have h_b_init := (fn_b_init E hE hO_BadName hO_BadRow hO_TooMany hO_Unread CL hB ).mono ok_b_init
 have h_is_name := (fn_is_name E hE hO_BadName hO_BadRow hO_TooMany hO_Unread CL hB ).mono ok_is_name
 have h_rising := (fn_rising E hE hO_BadName hO_BadRow hO_TooMany hO_Unread CL hB h_is_name).mono ok_rising
 have h_need_set := (fn_need_set E hE hO_BadName hO_BadRow hO_TooMany hO_Unread CL hB h_rising).mono ok_need_set
 have h_b_rows := (fn_b_rows E hE hO_BadName hO_BadRow hO_TooMany hO_Unread CL hB ).mono ok_b_rows
 have h_b_all_sets := (fn_b_all_sets E hE hO_BadName hO_BadRow hO_TooMany hO_Unread CL hB h_b_rows).mono ok_b_all_sets
 have h_b_names := (fn_b_names E hE hO_BadName hO_BadRow hO_TooMany hO_Unread CL hB h_b_all_sets h_rising).mono ok_b_names
 have h_b_put := (fn_b_put E hE hO_BadName hO_BadRow hO_TooMany hO_Unread CL hB h_need_set h_b_names).mono ok_b_put
 have h_l_book := (fn_l_book E hE hO_BadName hO_BadRow hO_TooMany hO_Unread CL hB h_b_init h_b_put).mono ok_l_book
 have h_line_of := (fn_line_of E hE hO_BadName hO_BadRow hO_TooMany hO_Unread CL hB ).mono ok_line_of
 have h_text_of := (fn_text_of E hE hO_BadName hO_BadRow hO_TooMany hO_Unread CL hB h_line_of h_b_rows).mono ok_text_of
 have h_l_text := (fn_l_text E hE hO_BadName hO_BadRow hO_TooMany hO_Unread CL hB ).mono ok_l_text
 have h_row_of := (fn_row_of E hE hO_BadName hO_BadRow hO_TooMany hO_Unread CL hB ).mono ok_row_of
 have h_put_line := (fn_put_line E hE hO_BadName hO_BadRow hO_TooMany hO_Unread CL hB h_b_put h_row_of).mono ok_put_line
 have h_read := (fn_read E hE hO_BadName hO_BadRow hO_TooMany hO_Unread CL hB h_b_init h_put_line h_text_of).mono ok_read
 have h_l_right := (fn_l_right E hE hO_BadName hO_BadRow hO_TooMany hO_Unread CL hB h_read h_b_rows h_text_of).mono ok_l_right
 have h_l_refused := (fn_l_refused E hE hO_BadName hO_BadRow hO_TooMany hO_Unread CL hB h_read).mono ok_l_refused
 have h_b_take := (fn_b_take E hE hO_BadName hO_BadRow hO_TooMany hO_Unread CL hB ).mono ok_b_take
 have h_l_great := (fn_l_great E hE hO_BadName hO_BadRow hO_TooMany hO_Unread CL hB h_l_refused h_l_right).mono ok_l_great
 have h_l_spoilt := (fn_l_spoilt E hE hO_BadName hO_BadRow hO_TooMany hO_Unread CL hB ).mono ok_l_spoilt
 have h_l_is_name := (fn_l_is_name E hE hO_BadName hO_BadRow hO_TooMany hO_Unread CL hB ).mono ok_l_is_name
 have h_l_rows := (fn_l_rows E hE hO_BadName hO_BadRow hO_TooMany hO_Unread CL hB h_l_is_name).mono ok_l_rows
 refine ((fn_law E hE hO_BadName hO_BadRow hO_TooMany hO_Unread CL hB h_l_names h_l_row h_l_draw h_l_book h_text_of h_l_text h_l_right h_read h_b_put h_l_refused h_b_take h_l_great h_l_spoilt h_l_rows).mono fun vs H Q X h => ok_law vs H Q X ?_).deeper (by decide)
 obtain ⟨l, ns, rfl, rfl, hn, h⟩ := h
 exact ⟨l, ns, rfl, if_pos rfl, h⟩
end Mine
end
open PySem PySem.Calls PyProof.Rows PySem.W
set_option maxRecDepth 100000 in
set_option maxHeartbeats 4000000 in
theorem PySem.Challenge.cw_uf050031_11_holds : PySem.Challenge.rw_uf050031_11.Holds := by
 w_on
 refine holds_law Mine.h_said fun said => ?_
 refine holds_open (q := Mine.viewT) (loose := Mine.looseT) (Xt := Mine.XtT) (XP := XL Mine.viewT []) (YP := Mine.hookT.says) Mine.h_left Mine.hookT.of Mine.hookT.keeps (fun s e => xl_of s (Bool.and_eq_true_iff.mp e).1) XL.keeps (by rfl) (by rfl) (by rfl) (fun s e => recFacts_of (Bool.and_eq_true_iff.mp e).2) (by rfl) (by assumption) (by decide +kernel) ⟨rfl, rfl, rfl, rfl, rfl, by decide +kernel⟩ ?hw ?hc
 case hw => w_witness2
 case hc =>
 intro w s₀ s₁ mg mb G Y fa o pm cd doc dV kV ho hd hcd hD hmg hg args vals as hpre hlay hrd hwl hlo
 have KX : (Mine.KK w.params).In s₁.heap := kIn_of Y
 wrow_args hpre hlay hrd hwl hlo
 rename_i hl _ _ _ hi _ hlen _
 show wpAny _ _ (call (.ref fa) [.ref _]) _ _ _
 have E := Mine.envL_of (prog := PySem.Challenge.rw_uf050031_11.row.prog) (w := w) (book := 289) (excs := Mine.excT) G.T (by kernel_rfl) KX ⟨_, _, _, rfl, rfl⟩
 have CL : Mine.Cls (Mine.stOf PySem.Challenge.rw_uf050031_11.row.prog w s₁ mg mb 289 Mine.excT) (Mine.KK w.params) := ⟨by kernel_rfl, by kernel_rfl, by kernel_rfl, by kernel_rfl, by kernel_rfl, by kernel_rfl, by kernel_rfl⟩
 have e : mg (Str.ofString "law") = some (.ref 398) := E.g (by kernel_rfl)
 have hmg' : mg (Str.ofString "law") = some (.ref fa) := hmg
 rw [e] at hmg'; cases hmg'
 exact Mine.law_ends (d := 36) (Mine.law_sound (P := _) E rfl (own_of_in KX (topRead_of G.T) (by kernel_rfl) (by kernel_rfl)) (own_of_in KX (topRead_of G.T) (by kernel_rfl) (by kernel_rfl)) (own_of_in KX (topRead_of G.T) (by kernel_rfl) (by kernel_rfl)) (own_of_in KX (topRead_of G.T) (by kernel_rfl) (by kernel_rfl)) CL rfl) (by decide) hl hi (by omega) hg fun s' hk ho' hg' => GoodW.toG ⟨.inl ⟨.bool true, .bool true, [], rfl, fun _ => by kernel_rfl, by constructor, by kernel_rfl, fun _ => ⟨List.nodup_nil, fun _ h => (nomatch h)⟩⟩, hk, ho', hg'⟩
