import PyProof.Rows.All
import PyProof.CompFree
import PyProof.Walks
import PyProof.StationsW
import PyProof.DictIter
import PyProof.DictKinds
import PyProof.RangeIter
import PyProof.Claim2
import PyProof.Calls
import PyProof.Cells
import PyProof.CallRoads
import PyProof.EvalArms
import PyProof.ForRange
import PyProof.Rows.Own
import PyProof.Rows.Chain
import PyProof.RulesRaise
import PyProof.RulesTry
import PyProof.PassesOwn
import PyProof.Rows.PlainStore
import PyProof.WalksMore
import PyProof.StrWalks
import PyProof.Rows.ListAppend
import PyProof.ListOps
import PyProof.EqLayable
import PyProof.P3In
import PyProof.Rows.EqDataRows
import PyProof.Rows.StrRules
import PyProof.Rows.IntRules
import PyProof.Rows.RuleB_mul
import PyProof.Rows.RuleB_sub
import PyProof.Rows.RuleB_floordiv
import PyProof.Rows.RuleC_int
import PyProof.StrBlock
import PyProof.LetGo
import PyProof.SliceMore
import PyProof.SliceList
import PyProof.SliceStr2
import PyProof.Rows.TupSub
import PyProof.StrLaws
import PyProof.StrLawsIdx
import KE.KRevSl
import PyProof.Rules3
import PyProof.FactsSeq
import PyProof.FactsAll.list_0
import PyProof.FactsAll.str_0
import PyProof.FactsAll.dict_0
import PyProof.Rows.Method
import PyProof.Rows.StrJoin2
import PyProof.Rows.ExtendIn
import PyProof.Rows.ConstEval
import PyProof.IsiPairs
import PyProof.IsiHeapPairs
import PyProof.IsiNone
import PyProof.ListCopy
import PyProof.TupleOps
import PyProof.SetRoads
import PyProof.DictTruth
import KE.LcSums
import PyProof.ForAny
import PyProof.ZipIter
import PyProof.WalksPairs
import PyProof.TupleIter
import PyProof.Rows.SetFrom
import OpenK.Peek
import PyProof.Ends
import PyProof.RulesAs
import OpenK.KGet
import OpenK.KDescr
import OpenK.KNot
import PyProof.ExcAttrAll.ValueError
import PyProof.ExcArgsOwn
import OpenK.KOwn
import KE.KTryMore
import PyProof.NsDelKeeps
import PyProof.Rows.SortRunsK
import PyProof.Rows.SortPure
import KE.KSortTup
import PyProof.EqAt
import PyProof.Rows.SortStr
import PyProof.Rows.SortKeyStr
import PyProof.Rows.SortShellK
import PyProof.FactsAll.list_2
import PyProof.P3Eq
import PyProof.SetKind
import PyProof.DictWalks
import PyProof.TableTree
import KE.KDictSum
import PyProof.FactsAll.set_1
import PyProof.FactsAll.set_2
import PyProof.StrLawsChain
import PyProof.AssignAttr
import PyProof.DictRoads
import PyProof.MeetsDictList
import PyProof.FactsAll.dict_3
import PyProof.Rows.MatchSeqLen
import PyProof.FactsCmp
import PyProof.DictStraight
import KE.KUnpack
import KE.KLcPair
import PyProof.RulesAssignMore
import KE.KRevIter
import KE.KDictList
import PyProof.CollectIter
import KE.KDictOf
import PyProof.AttrMissHeap
import PyProof.MeetsStr2
import PyProof.MeetsStr
import PyProof.FString5
import PyProof.ListStr
import PyProof.ListMulRoad
import PyProof.AutoListH
import PyProof.Rows.StrItems
import PyProof.Conv_int_bool
import PyProof.Rows.CountFlat
import PyProof.Rows.DictMod
import PyProof.StrBlock2
import Wide.All
import OpenK.AllK
import Wide.FinOn
import PySem.Challenge.RW_uf050031_12
set_option Elab.async false
set_option autoImplicit false
set_option linter.unusedVariables false
section
set_option maxRecDepth 100000
set_option maxHeartbeats 0
namespace Mine
open PySem PySem.Calls PyProof.Rows PySem.W
noncomputable def vS (s : String) (t : Nat) : Value := .str (Str.ofString s) t
noncomputable def vI (n : Nat) (t : Nat) : Value := .int (Int.ofNat n) t
noncomputable def en (P : Params) (k : String) (t : Nat) (v : Value) : DictEntry := ⟨PyData.keyHash P (Str.ofString k), .str (Str.ofString k) t, v⟩
noncomputable def oTup (l : List Value) : Obj := ⟨.type "tuple", none, .seq ⟨l⟩ 0, #[]⟩
noncomputable def oFld (c : Value) (l : List Value) : Obj := ⟨c, none, .fields ⟨l⟩, #[]⟩
noncomputable def oDict (l : List DictEntry) (n : Nat) : Obj := ⟨.type "dict", none, .dict ⟨l⟩ n, #[]⟩
noncomputable def oCode (a : String) (t1 : Nat) (b : String) (t2 t3 l na fl : Nat) (v8 : Value) (b9 : Bool) (i10 : Nat) (v11 v13 v14 v15 : Value) (i16 t4 : Nat) : Obj :=
  oFld (.type "code") [vS a t1, vS b t2, vS "/claim/cut.py" t3, vI l 0, vI na 0, vI 0 0, vI 0 0, vI fl 0, v8, .bool b9, vI i10 0, v11, .none, v13, v14, v15, vI i16 0, vI l 0, vS "/claim/cut.py" t4]
noncomputable def bodyS : Stmt → List Stmt
  | .FunctionDef _ _ b _ _ _ _ _ _ _ => b
  | .ClassDef _ _ _ b _ _ _ _ _ _ _ => b
  | _ => []
noncomputable def stIn (l : List Stmt) : List Nat → Stmt
  | [] => .Pass ⟨0, 0, 0, 0⟩
  | [i] => l.getD i (.Pass ⟨0, 0, 0, 0⟩)
  | i :: r => stIn (bodyS (l.getD i (.Pass ⟨0, 0, 0, 0⟩))) r
noncomputable def stAt (p : Program) (path : List Nat) : Stmt := stIn p.main.body path
noncomputable def oFn (c : Value) (st : Stmt) (q : String) (g : Nat) (m cd : Value) : Obj := ⟨c, none, match st with
  | .FunctionDef name args body _ _ _ scope _ _ _ => .func { name := name, qualname := Str.ofString q, params := args, body := .stmts body, scope := scope, globals := g, closure := [], defaults := .none, kwdefaults := .none, pyModule := m, code := cd }
  | _ => .plain, #[]⟩
noncomputable abbrev prg : Program := PySem.Challenge.pw_uf050031_12
noncomputable def o0 : Obj := oTup []
noncomputable def o1 : Obj := oFld .none []
noncomputable def o2 : Obj := oCode "<module>" 182 "<module>" 183 184 1 0 0 (.ref 11) false 181 (.ref 12) .none .none .none 185 186
noncomputable def o3 : Obj := ⟨(.type "frame"), none, .plain, ⟨[(some (.ref 13)), (some (.ref 3)), (some (.ref 3)), none, (some (vS "__main__" 164)), none, (some (.ref 0))]⟩⟩
noncomputable def o4 (P : Params) : Obj := oDict [en P "__name__" 165 (vS "law_uf050031_12" 549), en P "__doc__" 166 .none, en P "__package__" 167 .none, en P "__loader__" 168 (.builtin "__main__.__loader__#opaque"), en P "__spec__" 169 .none, en P "__annotations__" 170 (.ref 6), en P "__builtins__" 171 (.ref 4), en P "__file__" 173 (vS "/claim/cut.py" 172), en P "__cached__" 174 .none, en P "_wall" 193 (.ref 21), en P "MeetError" 213 (.ref 31), en P "BadName" 229 (.ref 44), en P "BadRow" 245 (.ref 56), en P "NoRow" 261 (.ref 68), en P "TooMany" 277 (.ref 80), en P "NoMeet" 293 (.ref 92), en P "Unread" 309 (.ref 104), en P "LETTERS" 313 (vS "abcdefghijklmnopqrstuvwxyz" 312), en P "MOST_LETTERS" 315 (vI 8 314), en P "is_name" 321 (.ref 111), en P "rising" 329 (.ref 118), en P "within" 335 (.ref 123), en P "meets" 341 (.ref 128), en P "meets_sets" 342 (.ref 128), en P "ranked" 348 (.ref 133), en P "least_of" 354 (.ref 138), en P "grown" 362 (.ref 143), en P "MOST_ROWS" 366 (vI 30 365), en P "MOST_NAMES" 368 (vI 12 367), en P "need_set" 375 (.ref 150), en P "need_name" 382 (.ref 157), en P "Book" 539 (.ref 284), en P "book_of" 548 (.ref 295), en P "_law_draw" 558 (.ref 302), en P "_law_words" 566 (.ref 309), en P "_law_call" 576 (.ref 316), en P "_law_odd" 583 (.ref 323), en P "_law_list" 589 (.ref 328), en P "_law_is_name" 595 (.ref 333), en P "_law_due" 601 (.ref 338), en P "_law_both" 619 (.ref 345), en P "law" 625 (.ref 350)] 42
noncomputable def o5 : Obj := oFld .none [(vI 1 0), (vI 0 0), (.ref 20), (vI 5 0), (vI 0 0), (.ref 27), (vI 7 0), (vI 0 0), (.ref 40), (vI 9 0), (vI 0 0), (.ref 52), (vI 11 0), (vI 0 0), (.ref 64), (vI 13 0), (vI 0 0), (.ref 76), (vI 15 0), (vI 0 0), (.ref 88), (vI 17 0), (vI 0 0), (.ref 100), (vI 22 0), (vI 0 0), (.ref 110), (vI 26 0), (vI 0 0), (.ref 117), (vI 31 0), (vI 0 0), (.ref 122), (vI 33 0), (vI 0 0), (.ref 127), (vI 36 0), (vI 0 0), (.ref 132), (vI 42 0), (vI 0 0), (.ref 137), (vI 49 0), (vI 0 0), (.ref 142), (vI 60 0), (vI 0 0), (.ref 149), (vI 64 0), (vI 0 0), (.ref 156), (vI 67 0), (vI 0 0), (.ref 163), (vI 166 0), (vI 0 0), (.ref 294), (vI 172 0), (vI 0 0), (.ref 301), (vI 174 0), (vI 0 0), (.ref 308), (vI 179 0), (vI 0 0), (.ref 315), (vI 196 0), (vI 0 0), (.ref 322), (vI 198 0), (vI 0 0), (.ref 327), (vI 210 0), (vI 0 0), (.ref 332), (vI 214 0), (vI 0 0), (.ref 337), (vI 227 0), (vI 0 0), (.ref 344), (vI 253 0), (vI 0 0), (.ref 349)]
noncomputable def o6 : Obj := oTup [(vS "k" 190)]
noncomputable def o7 : Obj := oFn .none (stAt prg [0]) "_wall" 0 .none .none
noncomputable def o8 : Obj := oCode "_wall" 187 "_wall" 188 189 1 1 3 (.ref 15) true 181 (.ref 16) (.ref 17) (.ref 18) (.ref 19) 191 192
noncomputable def o9 : Obj := oFn (.type "function") (stAt prg [0]) "_wall" 3 (vS "__main__" 164) (.ref 20)
noncomputable def o10 : Obj := oTup [(.type "ValueError")]
noncomputable def o11 : Obj := oFld (.type "builtin_function_or_method") [(.builtin "type.__prepare__"), (.type "type")]
noncomputable def o12 (P : Params) : Obj := oDict [en P "__module__" 203 (vS "meetrows.errors" 194), en P "__qualname__" 205 (vS "MeetError" 204), en P "__firstlineno__" 207 (vI 5 206), en P "__static_attributes__" 208 (.ref 29)] 4
noncomputable def o13 : Obj := oCode "MeetError" 198 "MeetError" 199 200 5 0 0 (.ref 25) false 181 (.ref 26) .none .none .none 201 202
noncomputable def o14 : Obj := ⟨(.type "frame"), none, .plain, ⟨[(some (.ref 27)), (some (.ref 3)), (some (.ref 24)), none, (some (vS "meetrows.errors" 194)), none, (some (.ref 0))]⟩⟩
noncomputable def o15 (P : Params) : Obj := oDict [en P "__module__" 203 (vS "meetrows.errors" 194), en P "__firstlineno__" 207 (vI 5 206), en P "__static_attributes__" 208 (.ref 29), en P "__weakref__" 210 (.ref 32), en P "__doc__" 211 .none] 3
noncomputable def o16 : Obj := ⟨(.type "type"), none, .cls { name := Str.ofString "MeetError", bases := [(.type "ValueError")], mro := [(.ref 31), (.type "ValueError"), (.type "Exception"), (.type "BaseException"), (.type "object")], ns := 30, qualname := Str.ofString "MeetError", hasDict := true, subclasses := [(.ref 44), (.ref 56), (.ref 68), (.ref 80), (.ref 92), (.ref 104)] }, ⟨[(some (.ref 22)), none, (some (vS "MeetError" 196)), (some (vS "MeetError" 204)), (some (.builtin "ValueError.__new__")), (some (.bool true))]⟩⟩
noncomputable def o17 : Obj := oFld (.type "getset_descriptor") [(vS "__weakref__" 209), (.ref 31), (.builtin "ExceptionGroup.__weakref__"), .none]
noncomputable def o18 : Obj := oFld (.type "super") [(.ref 31), (.ref 31), (.ref 31)]
noncomputable def o19 : Obj := oFld (.type "builtin_function_or_method") [(.builtin "object.__init_subclass__"), (.ref 31)]
noncomputable def o20 : Obj := oTup [(.ref 31)]
noncomputable def o21 (P : Params) : Obj := oDict [en P "__module__" 221 (vS "meetrows.errors" 194), en P "__qualname__" 223 (vS "BadName" 222), en P "__firstlineno__" 225 (vI 7 224), en P "__static_attributes__" 226 (.ref 42)] 4
noncomputable def o22 : Obj := oCode "BadName" 216 "BadName" 217 218 7 0 0 (.ref 38) false 181 (.ref 39) .none .none .none 219 220
noncomputable def o23 : Obj := ⟨(.type "frame"), none, .plain, ⟨[(some (.ref 40)), (some (.ref 3)), (some (.ref 37)), none, (some (vS "meetrows.errors" 194)), none, (some (.ref 0))]⟩⟩
noncomputable def o24 (P : Params) : Obj := oDict [en P "__module__" 221 (vS "meetrows.errors" 194), en P "__firstlineno__" 225 (vI 7 224), en P "__static_attributes__" 226 (.ref 42), en P "__doc__" 227 .none] 2
noncomputable def o25 : Obj := ⟨(.type "type"), none, .cls { name := Str.ofString "BadName", bases := [(.ref 31)], mro := [(.ref 44), (.ref 31), (.type "ValueError"), (.type "Exception"), (.type "BaseException"), (.type "object")], ns := 43, qualname := Str.ofString "BadName", hasDict := true, subclasses := [] }, ⟨[(some (.ref 35)), none, (some (vS "BadName" 214)), (some (vS "BadName" 222)), (some (.builtin "ValueError.__new__")), (some (.bool true))]⟩⟩
noncomputable def o26 : Obj := oFld (.type "super") [(.ref 44), (.ref 44), (.ref 44)]
noncomputable def o27 : Obj := oFld (.type "builtin_function_or_method") [(.builtin "object.__init_subclass__"), (.ref 44)]
noncomputable def o28 (P : Params) : Obj := oDict [en P "__module__" 237 (vS "meetrows.errors" 194), en P "__qualname__" 239 (vS "BadRow" 238), en P "__firstlineno__" 241 (vI 9 240), en P "__static_attributes__" 242 (.ref 54)] 4
noncomputable def o29 : Obj := oCode "BadRow" 232 "BadRow" 233 234 9 0 0 (.ref 50) false 181 (.ref 51) .none .none .none 235 236
noncomputable def o30 : Obj := ⟨(.type "frame"), none, .plain, ⟨[(some (.ref 52)), (some (.ref 3)), (some (.ref 49)), none, (some (vS "meetrows.errors" 194)), none, (some (.ref 0))]⟩⟩
noncomputable def o31 (P : Params) : Obj := oDict [en P "__module__" 237 (vS "meetrows.errors" 194), en P "__firstlineno__" 241 (vI 9 240), en P "__static_attributes__" 242 (.ref 54), en P "__doc__" 243 .none] 2
noncomputable def o32 : Obj := ⟨(.type "type"), none, .cls { name := Str.ofString "BadRow", bases := [(.ref 31)], mro := [(.ref 56), (.ref 31), (.type "ValueError"), (.type "Exception"), (.type "BaseException"), (.type "object")], ns := 55, qualname := Str.ofString "BadRow", hasDict := true, subclasses := [] }, ⟨[(some (.ref 47)), none, (some (vS "BadRow" 230)), (some (vS "BadRow" 238)), (some (.builtin "ValueError.__new__")), (some (.bool true))]⟩⟩
noncomputable def o33 : Obj := oFld (.type "super") [(.ref 56), (.ref 56), (.ref 56)]
noncomputable def o34 : Obj := oFld (.type "builtin_function_or_method") [(.builtin "object.__init_subclass__"), (.ref 56)]
noncomputable def o35 (P : Params) : Obj := oDict [en P "__module__" 253 (vS "meetrows.errors" 194), en P "__qualname__" 255 (vS "NoRow" 254), en P "__firstlineno__" 257 (vI 11 256), en P "__static_attributes__" 258 (.ref 66)] 4
noncomputable def o36 : Obj := oCode "NoRow" 248 "NoRow" 249 250 11 0 0 (.ref 62) false 181 (.ref 63) .none .none .none 251 252
noncomputable def o37 : Obj := ⟨(.type "frame"), none, .plain, ⟨[(some (.ref 64)), (some (.ref 3)), (some (.ref 61)), none, (some (vS "meetrows.errors" 194)), none, (some (.ref 0))]⟩⟩
noncomputable def o38 (P : Params) : Obj := oDict [en P "__module__" 253 (vS "meetrows.errors" 194), en P "__firstlineno__" 257 (vI 11 256), en P "__static_attributes__" 258 (.ref 66), en P "__doc__" 259 .none] 2
noncomputable def o39 : Obj := ⟨(.type "type"), none, .cls { name := Str.ofString "NoRow", bases := [(.ref 31)], mro := [(.ref 68), (.ref 31), (.type "ValueError"), (.type "Exception"), (.type "BaseException"), (.type "object")], ns := 67, qualname := Str.ofString "NoRow", hasDict := true, subclasses := [] }, ⟨[(some (.ref 59)), none, (some (vS "NoRow" 246)), (some (vS "NoRow" 254)), (some (.builtin "ValueError.__new__")), (some (.bool true))]⟩⟩
noncomputable def o40 : Obj := oFld (.type "super") [(.ref 68), (.ref 68), (.ref 68)]
noncomputable def o41 : Obj := oFld (.type "builtin_function_or_method") [(.builtin "object.__init_subclass__"), (.ref 68)]
noncomputable def o42 (P : Params) : Obj := oDict [en P "__module__" 269 (vS "meetrows.errors" 194), en P "__qualname__" 271 (vS "TooMany" 270), en P "__firstlineno__" 273 (vI 13 272), en P "__static_attributes__" 274 (.ref 78)] 4
noncomputable def o43 : Obj := oCode "TooMany" 264 "TooMany" 265 266 13 0 0 (.ref 74) false 181 (.ref 75) .none .none .none 267 268
noncomputable def o44 : Obj := ⟨(.type "frame"), none, .plain, ⟨[(some (.ref 76)), (some (.ref 3)), (some (.ref 73)), none, (some (vS "meetrows.errors" 194)), none, (some (.ref 0))]⟩⟩
noncomputable def o45 (P : Params) : Obj := oDict [en P "__module__" 269 (vS "meetrows.errors" 194), en P "__firstlineno__" 273 (vI 13 272), en P "__static_attributes__" 274 (.ref 78), en P "__doc__" 275 .none] 2
noncomputable def o46 : Obj := ⟨(.type "type"), none, .cls { name := Str.ofString "TooMany", bases := [(.ref 31)], mro := [(.ref 80), (.ref 31), (.type "ValueError"), (.type "Exception"), (.type "BaseException"), (.type "object")], ns := 79, qualname := Str.ofString "TooMany", hasDict := true, subclasses := [] }, ⟨[(some (.ref 71)), none, (some (vS "TooMany" 262)), (some (vS "TooMany" 270)), (some (.builtin "ValueError.__new__")), (some (.bool true))]⟩⟩
noncomputable def o47 : Obj := oFld (.type "super") [(.ref 80), (.ref 80), (.ref 80)]
noncomputable def o48 : Obj := oFld (.type "builtin_function_or_method") [(.builtin "object.__init_subclass__"), (.ref 80)]
noncomputable def o49 (P : Params) : Obj := oDict [en P "__module__" 285 (vS "meetrows.errors" 194), en P "__qualname__" 287 (vS "NoMeet" 286), en P "__firstlineno__" 289 (vI 15 288), en P "__static_attributes__" 290 (.ref 90)] 4
noncomputable def o50 : Obj := oCode "NoMeet" 280 "NoMeet" 281 282 15 0 0 (.ref 86) false 181 (.ref 87) .none .none .none 283 284
noncomputable def o51 : Obj := ⟨(.type "frame"), none, .plain, ⟨[(some (.ref 88)), (some (.ref 3)), (some (.ref 85)), none, (some (vS "meetrows.errors" 194)), none, (some (.ref 0))]⟩⟩
noncomputable def o52 (P : Params) : Obj := oDict [en P "__module__" 285 (vS "meetrows.errors" 194), en P "__firstlineno__" 289 (vI 15 288), en P "__static_attributes__" 290 (.ref 90), en P "__doc__" 291 .none] 2
noncomputable def o53 : Obj := ⟨(.type "type"), none, .cls { name := Str.ofString "NoMeet", bases := [(.ref 31)], mro := [(.ref 92), (.ref 31), (.type "ValueError"), (.type "Exception"), (.type "BaseException"), (.type "object")], ns := 91, qualname := Str.ofString "NoMeet", hasDict := true, subclasses := [] }, ⟨[(some (.ref 83)), none, (some (vS "NoMeet" 278)), (some (vS "NoMeet" 286)), (some (.builtin "ValueError.__new__")), (some (.bool true))]⟩⟩
noncomputable def o54 : Obj := oFld (.type "super") [(.ref 92), (.ref 92), (.ref 92)]
noncomputable def o55 : Obj := oFld (.type "builtin_function_or_method") [(.builtin "object.__init_subclass__"), (.ref 92)]
noncomputable def o56 (P : Params) : Obj := oDict [en P "__module__" 301 (vS "meetrows.errors" 194), en P "__qualname__" 303 (vS "Unread" 302), en P "__firstlineno__" 305 (vI 17 304), en P "__static_attributes__" 306 (.ref 102)] 4
noncomputable def o57 : Obj := oCode "Unread" 296 "Unread" 297 298 17 0 0 (.ref 98) false 181 (.ref 99) .none .none .none 299 300
noncomputable def o58 : Obj := ⟨(.type "frame"), none, .plain, ⟨[(some (.ref 100)), (some (.ref 3)), (some (.ref 97)), none, (some (vS "meetrows.errors" 194)), none, (some (.ref 0))]⟩⟩
noncomputable def o59 (P : Params) : Obj := oDict [en P "__module__" 301 (vS "meetrows.errors" 194), en P "__firstlineno__" 305 (vI 17 304), en P "__static_attributes__" 306 (.ref 102), en P "__doc__" 307 .none] 2
noncomputable def o60 : Obj := ⟨(.type "type"), none, .cls { name := Str.ofString "Unread", bases := [(.ref 31)], mro := [(.ref 104), (.ref 31), (.type "ValueError"), (.type "Exception"), (.type "BaseException"), (.type "object")], ns := 103, qualname := Str.ofString "Unread", hasDict := true, subclasses := [] }, ⟨[(some (.ref 95)), none, (some (vS "Unread" 294)), (some (vS "Unread" 302)), (some (.builtin "ValueError.__new__")), (some (.bool true))]⟩⟩
noncomputable def o61 : Obj := oFld (.type "super") [(.ref 104), (.ref 104), (.ref 104)]
noncomputable def o62 : Obj := oFld (.type "builtin_function_or_method") [(.builtin "object.__init_subclass__"), (.ref 104)]
noncomputable def o63 : Obj := oFn .none (stAt prg [12]) "is_name" 0 .none .none
noncomputable def o64 : Obj := oCode "is_name" 316 "is_name" 317 318 22 1 3 (.ref 107) true 181 (.ref 108) .none .none (.ref 109) 319 320
noncomputable def o65 : Obj := oFn (.type "function") (stAt prg [12]) "is_name" 3 (vS "meetrows.sets" 310) (.ref 110)
noncomputable def o66 : Obj := oTup [(vS "names" 325), (vS "name" 326)]
noncomputable def o67 : Obj := oFn .none (stAt prg [13]) "rising" 0 .none .none
noncomputable def o68 : Obj := oCode "rising" 322 "rising" 323 324 26 1 3 (.ref 112) true 181 (.ref 113) (.ref 114) (.ref 115) (.ref 116) 327 328
noncomputable def o69 : Obj := oFn (.type "function") (stAt prg [13]) "rising" 3 (vS "meetrows.sets" 310) (.ref 117)
noncomputable def o70 : Obj := oFn .none (stAt prg [14]) "within" 0 .none .none
noncomputable def o71 : Obj := oCode "within" 330 "within" 331 332 31 2 3 (.ref 119) true 181 (.ref 120) .none .none (.ref 121) 333 334
noncomputable def o72 : Obj := oFn (.type "function") (stAt prg [14]) "within" 3 (vS "meetrows.sets" 310) (.ref 122)
noncomputable def o73 : Obj := oFn .none (stAt prg [15]) "meets" 0 .none .none
noncomputable def o74 : Obj := oCode "meets" 336 "meets" 337 338 33 2 3 (.ref 124) true 181 (.ref 125) .none .none (.ref 126) 339 340
noncomputable def o75 : Obj := oFn (.type "function") (stAt prg [15]) "meets" 3 (vS "meetrows.sets" 310) (.ref 127)
noncomputable def o76 : Obj := oFn .none (stAt prg [17]) "ranked" 0 .none .none
noncomputable def o77 : Obj := oCode "ranked" 343 "ranked" 344 345 36 1 3 (.ref 129) true 181 (.ref 130) .none .none (.ref 131) 346 347
noncomputable def o78 : Obj := oFn (.type "function") (stAt prg [17]) "ranked" 3 (vS "meetrows.sets" 310) (.ref 132)
noncomputable def o79 : Obj := oFn .none (stAt prg [18]) "least_of" 0 .none .none
noncomputable def o80 : Obj := oCode "least_of" 349 "least_of" 350 351 42 1 3 (.ref 134) true 181 (.ref 135) .none .none (.ref 136) 352 353
noncomputable def o81 : Obj := oFn (.type "function") (stAt prg [18]) "least_of" 3 (vS "meetrows.sets" 310) (.ref 137)
noncomputable def o82 : Obj := oFn .none (stAt prg [20]) "grown" 0 .none .none
noncomputable def o83 : Obj := oCode "grown" 357 "grown" 358 359 49 2 3 (.ref 139) true 181 (.ref 140) .none .none (.ref 141) 360 361
noncomputable def o84 : Obj := oFn (.type "function") (stAt prg [20]) "grown" 3 (vS "meetrows.growing" 355) (.ref 142)
noncomputable def o85 : Obj := oTup [(vS "thing" 372)]
noncomputable def o86 : Obj := oFn .none (stAt prg [24]) "need_set" 0 .none .none
noncomputable def o87 : Obj := oCode "need_set" 369 "need_set" 370 371 60 1 3 (.ref 144) true 181 (.ref 145) (.ref 146) (.ref 147) (.ref 148) 373 374
noncomputable def o88 : Obj := oFn (.type "function") (stAt prg [24]) "need_set" 3 (vS "meetrows.books" 363) (.ref 149)
noncomputable def o89 : Obj := oTup [(vS "thing" 379)]
noncomputable def o90 : Obj := oFn .none (stAt prg [25]) "need_name" 0 .none .none
noncomputable def o91 : Obj := oCode "need_name" 376 "need_name" 377 378 64 1 3 (.ref 151) true 181 (.ref 152) (.ref 153) (.ref 154) (.ref 155) 380 381
noncomputable def o92 : Obj := oFn (.type "function") (stAt prg [25]) "need_name" 3 (vS "meetrows.books" 363) (.ref 156)
noncomputable def o93 (P : Params) : Obj := oDict [en P "__module__" 390 (vS "meetrows.books" 363), en P "__qualname__" 392 (vS "Book" 391), en P "__firstlineno__" 394 (vI 67 393), en P "__init__" 401 (.ref 171), en P "put" 411 (.ref 178), en P "take" 419 (.ref 185), en P "rows" 425 (.ref 190), en P "all_sets" 431 (.ref 195), en P "names" 440 (.ref 202), en P "least" 449 (.ref 209), en P "fewest" 456 (.ref 216), en P "is_met" 462 (.ref 221), en P "meets" 470 (.ref 228), en P "pared" 476 (.ref 233), en P "own" 482 (.ref 238), en P "least_rows" 489 (.ref 245), en P "needed" 496 (.ref 252), en P "idle" 503 (.ref 259), en P "struck" 509 (.ref 264), en P "without" 515 (.ref 269), en P "joined" 523 (.ref 276), en P "crossed" 529 (.ref 281), en P "__static_attributes__" 532 (.ref 282)] 23
noncomputable def o94 : Obj := oFld .none [(vI 69 0), (vI 4 0), (.ref 170), (vI 73 0), (vI 4 0), (.ref 177), (vI 86 0), (vI 4 0), (.ref 184), (vI 91 0), (vI 4 0), (.ref 189), (vI 94 0), (vI 4 0), (.ref 194), (vI 97 0), (vI 4 0), (.ref 201), (vI 103 0), (vI 4 0), (.ref 208), (vI 109 0), (vI 4 0), (.ref 215), (vI 112 0), (vI 4 0), (.ref 220), (vI 115 0), (vI 4 0), (.ref 227), (vI 118 0), (vI 4 0), (.ref 232), (vI 128 0), (vI 4 0), (.ref 237), (vI 141 0), (vI 4 0), (.ref 244), (vI 144 0), (vI 4 0), (.ref 251), (vI 147 0), (vI 4 0), (.ref 258), (vI 150 0), (vI 4 0), (.ref 263), (vI 154 0), (vI 4 0), (.ref 268), (vI 158 0), (vI 4 0), (.ref 275), (vI 161 0), (vI 4 0), (.ref 280)]
noncomputable def o95 : Obj := oCode "Book" 385 "Book" 386 387 67 0 0 (.ref 161) false 181 (.ref 162) .none .none .none 388 389
noncomputable def o96 : Obj := ⟨(.type "frame"), none, .plain, ⟨[(some (.ref 163)), (some (.ref 3)), (some (.ref 160)), none, (some (vS "meetrows.books" 363)), none, (some (.ref 0))]⟩⟩
noncomputable def o97 : Obj := oTup [(vS "self" 398)]
noncomputable def o98 : Obj := oFn .none (stAt prg [26, 0]) "Book.__init__" 0 .none .none
noncomputable def o99 : Obj := oCode "__init__" 395 "Book.__init__" 396 397 69 1 3 (.ref 165) true 181 (.ref 166) (.ref 167) (.ref 168) (.ref 169) 399 400
noncomputable def o100 : Obj := oFn (.type "function") (stAt prg [26, 0]) "Book.__init__" 3 (vS "meetrows.books" 363) (.ref 170)
noncomputable def o101 : Obj := oTup [(vS "self" 405), (vS "row" 406), (vS "found" 407), (vS "number" 408)]
noncomputable def o102 : Obj := oFn .none (stAt prg [26, 1]) "Book.put" 0 .none .none
noncomputable def o103 : Obj := oCode "put" 402 "Book.put" 403 404 73 2 3 (.ref 172) true 181 (.ref 173) (.ref 174) (.ref 175) (.ref 176) 409 410
noncomputable def o104 : Obj := oFn (.type "function") (stAt prg [26, 1]) "Book.put" 3 (vS "meetrows.books" 363) (.ref 177)
noncomputable def o105 : Obj := oTup [(vS "self" 415), (vS "number" 416)]
noncomputable def o106 : Obj := oFn .none (stAt prg [26, 2]) "Book.take" 0 .none .none
noncomputable def o107 : Obj := oCode "take" 412 "Book.take" 413 414 86 2 3 (.ref 179) true 181 (.ref 180) (.ref 181) (.ref 182) (.ref 183) 417 418
noncomputable def o108 : Obj := oFn (.type "function") (stAt prg [26, 2]) "Book.take" 3 (vS "meetrows.books" 363) (.ref 184)
noncomputable def o109 : Obj := oFn .none (stAt prg [26, 3]) "Book.rows" 0 .none .none
noncomputable def o110 : Obj := oCode "rows" 420 "Book.rows" 421 422 91 1 3 (.ref 186) true 181 (.ref 187) .none .none (.ref 188) 423 424
noncomputable def o111 : Obj := oFn (.type "function") (stAt prg [26, 3]) "Book.rows" 3 (vS "meetrows.books" 363) (.ref 189)
noncomputable def o112 : Obj := oFn .none (stAt prg [26, 4]) "Book.all_sets" 0 .none .none
noncomputable def o113 : Obj := oCode "all_sets" 426 "Book.all_sets" 427 428 94 1 3 (.ref 191) true 181 (.ref 192) .none .none (.ref 193) 429 430
noncomputable def o114 : Obj := oFn (.type "function") (stAt prg [26, 4]) "Book.all_sets" 3 (vS "meetrows.books" 363) (.ref 194)
noncomputable def o115 : Obj := oTup [(vS "self" 435), (vS "found" 436), (vS "row" 437)]
noncomputable def o116 : Obj := oFn .none (stAt prg [26, 5]) "Book.names" 0 .none .none
noncomputable def o117 : Obj := oCode "names" 432 "Book.names" 433 434 97 1 3 (.ref 196) true 181 (.ref 197) (.ref 198) (.ref 199) (.ref 200) 438 439
noncomputable def o118 : Obj := oFn (.type "function") (stAt prg [26, 5]) "Book.names" 3 (vS "meetrows.books" 363) (.ref 201)
noncomputable def o119 : Obj := oTup [(vS "self" 444), (vS "found" 445), (vS "row" 446)]
noncomputable def o120 : Obj := oFn .none (stAt prg [26, 6]) "Book.least" 0 .none .none
noncomputable def o121 : Obj := oCode "least" 441 "Book.least" 442 443 103 1 3 (.ref 203) true 181 (.ref 204) (.ref 205) (.ref 206) (.ref 207) 447 448
noncomputable def o122 : Obj := oFn (.type "function") (stAt prg [26, 6]) "Book.least" 3 (vS "meetrows.books" 363) (.ref 208)
noncomputable def o123 : Obj := oTup [(vS "self" 453)]
noncomputable def o124 : Obj := oFn .none (stAt prg [26, 7]) "Book.fewest" 0 .none .none
noncomputable def o125 : Obj := oCode "fewest" 450 "Book.fewest" 451 452 109 1 3 (.ref 210) true 181 (.ref 211) (.ref 212) (.ref 213) (.ref 214) 454 455
noncomputable def o126 : Obj := oFn (.type "function") (stAt prg [26, 7]) "Book.fewest" 3 (vS "meetrows.books" 363) (.ref 215)
noncomputable def o127 : Obj := oFn .none (stAt prg [26, 8]) "Book.is_met" 0 .none .none
noncomputable def o128 : Obj := oCode "is_met" 457 "Book.is_met" 458 459 112 2 3 (.ref 217) true 181 (.ref 218) .none .none (.ref 219) 460 461
noncomputable def o129 : Obj := oFn (.type "function") (stAt prg [26, 8]) "Book.is_met" 3 (vS "meetrows.books" 363) (.ref 220)
noncomputable def o130 : Obj := oTup [(vS "self" 466), (vS "names" 467)]
noncomputable def o131 : Obj := oFn .none (stAt prg [26, 9]) "Book.meets" 0 .none .none
noncomputable def o132 : Obj := oCode "meets" 463 "Book.meets" 464 465 115 2 3 (.ref 222) true 181 (.ref 223) (.ref 224) (.ref 225) (.ref 226) 468 469
noncomputable def o133 : Obj := oFn (.type "function") (stAt prg [26, 9]) "Book.meets" 3 (vS "meetrows.books" 363) (.ref 227)
noncomputable def o134 : Obj := oFn .none (stAt prg [26, 10]) "Book.pared" 0 .none .none
noncomputable def o135 : Obj := oCode "pared" 471 "Book.pared" 472 473 118 2 3 (.ref 229) true 181 (.ref 230) .none .none (.ref 231) 474 475
noncomputable def o136 : Obj := oFn (.type "function") (stAt prg [26, 10]) "Book.pared" 3 (vS "meetrows.books" 363) (.ref 232)
noncomputable def o137 : Obj := oFn .none (stAt prg [26, 11]) "Book.own" 0 .none .none
noncomputable def o138 : Obj := oCode "own" 477 "Book.own" 478 479 128 2 3 (.ref 234) true 181 (.ref 235) .none .none (.ref 236) 480 481
noncomputable def o139 : Obj := oFn (.type "function") (stAt prg [26, 11]) "Book.own" 3 (vS "meetrows.books" 363) (.ref 237)
noncomputable def o140 : Obj := oTup [(vS "self" 486)]
noncomputable def o141 : Obj := oFn .none (stAt prg [26, 12]) "Book.least_rows" 0 .none .none
noncomputable def o142 : Obj := oCode "least_rows" 483 "Book.least_rows" 484 485 141 1 3 (.ref 239) true 181 (.ref 240) (.ref 241) (.ref 242) (.ref 243) 487 488
noncomputable def o143 : Obj := oFn (.type "function") (stAt prg [26, 12]) "Book.least_rows" 3 (vS "meetrows.books" 363) (.ref 244)
noncomputable def o144 : Obj := oTup [(vS "self" 493)]
noncomputable def o145 : Obj := oFn .none (stAt prg [26, 13]) "Book.needed" 0 .none .none
noncomputable def o146 : Obj := oCode "needed" 490 "Book.needed" 491 492 144 1 3 (.ref 246) true 181 (.ref 247) (.ref 248) (.ref 249) (.ref 250) 494 495
noncomputable def o147 : Obj := oFn (.type "function") (stAt prg [26, 13]) "Book.needed" 3 (vS "meetrows.books" 363) (.ref 251)
noncomputable def o148 : Obj := oTup [(vS "self" 500)]
noncomputable def o149 : Obj := oFn .none (stAt prg [26, 14]) "Book.idle" 0 .none .none
noncomputable def o150 : Obj := oCode "idle" 497 "Book.idle" 498 499 147 1 3 (.ref 253) true 181 (.ref 254) (.ref 255) (.ref 256) (.ref 257) 501 502
noncomputable def o151 : Obj := oFn (.type "function") (stAt prg [26, 14]) "Book.idle" 3 (vS "meetrows.books" 363) (.ref 258)
noncomputable def o152 : Obj := oFn .none (stAt prg [26, 15]) "Book.struck" 0 .none .none
noncomputable def o153 : Obj := oCode "struck" 504 "Book.struck" 505 506 150 2 3 (.ref 260) true 181 (.ref 261) .none .none (.ref 262) 507 508
noncomputable def o154 : Obj := oFn (.type "function") (stAt prg [26, 15]) "Book.struck" 3 (vS "meetrows.books" 363) (.ref 263)
noncomputable def o155 : Obj := oFn .none (stAt prg [26, 16]) "Book.without" 0 .none .none
noncomputable def o156 : Obj := oCode "without" 510 "Book.without" 511 512 154 2 3 (.ref 265) true 181 (.ref 266) .none .none (.ref 267) 513 514
noncomputable def o157 : Obj := oFn (.type "function") (stAt prg [26, 16]) "Book.without" 3 (vS "meetrows.books" 363) (.ref 268)
noncomputable def o158 : Obj := oTup [(vS "self" 519), (vS "other" 520)]
noncomputable def o159 : Obj := oFn .none (stAt prg [26, 17]) "Book.joined" 0 .none .none
noncomputable def o160 : Obj := oCode "joined" 516 "Book.joined" 517 518 158 2 3 (.ref 270) true 181 (.ref 271) (.ref 272) (.ref 273) (.ref 274) 521 522
noncomputable def o161 : Obj := oFn (.type "function") (stAt prg [26, 17]) "Book.joined" 3 (vS "meetrows.books" 363) (.ref 275)
noncomputable def o162 : Obj := oFn .none (stAt prg [26, 18]) "Book.crossed" 0 .none .none
noncomputable def o163 : Obj := oCode "crossed" 524 "Book.crossed" 525 526 161 2 3 (.ref 277) true 181 (.ref 278) .none .none (.ref 279) 527 528
noncomputable def o164 : Obj := oFn (.type "function") (stAt prg [26, 18]) "Book.crossed" 3 (vS "meetrows.books" 363) (.ref 280)
noncomputable def o165 : Obj := oTup [(vS "coming" 530), (vS "kept" 531)]
noncomputable def o166 (P : Params) : Obj := oDict [en P "__module__" 390 (vS "meetrows.books" 363), en P "__firstlineno__" 394 (vI 67 393), en P "__init__" 401 (.ref 171), en P "put" 411 (.ref 178), en P "take" 419 (.ref 185), en P "rows" 425 (.ref 190), en P "all_sets" 431 (.ref 195), en P "names" 440 (.ref 202), en P "least" 449 (.ref 209), en P "fewest" 456 (.ref 216), en P "is_met" 462 (.ref 221), en P "meets" 470 (.ref 228), en P "pared" 476 (.ref 233), en P "own" 482 (.ref 238), en P "least_rows" 489 (.ref 245), en P "needed" 496 (.ref 252), en P "idle" 503 (.ref 259), en P "struck" 509 (.ref 264), en P "without" 515 (.ref 269), en P "joined" 523 (.ref 276), en P "crossed" 529 (.ref 281), en P "__static_attributes__" 532 (.ref 282), en P "__dict__" 534 (.ref 285), en P "__weakref__" 536 (.ref 286), en P "__doc__" 537 .none] 4
noncomputable def o167 : Obj := ⟨(.type "type"), none, .cls { name := Str.ofString "Book", bases := [(.type "object")], mro := [(.ref 284), (.type "object")], ns := 283, qualname := Str.ofString "Book", hasDict := true, subclasses := [] }, ⟨[none, none, (some (vS "Book" 383)), (some (vS "Book" 391)), (some (.builtin "object.__new__")), (some (.bool true))]⟩⟩
noncomputable def o168 : Obj := oFld (.type "getset_descriptor") [(vS "__dict__" 533), (.ref 284), (.builtin "function.__dict__"), (.builtin "function.__dict__#set")]
noncomputable def o169 : Obj := oFld (.type "getset_descriptor") [(vS "__weakref__" 535), (.ref 284), (.builtin "ExceptionGroup.__weakref__"), .none]
noncomputable def o170 : Obj := oFld (.type "super") [(.ref 284), (.ref 284), (.ref 284)]
noncomputable def o171 : Obj := oFld (.type "builtin_function_or_method") [(.builtin "object.__init_subclass__"), (.ref 284)]
noncomputable def o172 : Obj := oTup [(vS "rows" 543), (vS "book" 544), (vS "row" 545)]
noncomputable def o173 : Obj := oFn .none (stAt prg [27]) "book_of" 0 .none .none
noncomputable def o174 : Obj := oCode "book_of" 540 "book_of" 541 542 166 1 3 (.ref 289) true 181 (.ref 290) (.ref 291) (.ref 292) (.ref 293) 546 547
noncomputable def o175 : Obj := oFn (.type "function") (stAt prg [27]) "book_of" 3 (vS "meetrows.books" 363) (.ref 294)
noncomputable def o176 : Obj := oTup [(vS "_law_script" 554), (vS "_law_k" 555)]
noncomputable def o177 : Obj := oFn .none (stAt prg [29]) "_law_draw" 0 .none .none
noncomputable def o178 : Obj := oCode "_law_draw" 551 "_law_draw" 552 553 172 2 3 (.ref 296) true 181 (.ref 297) (.ref 298) (.ref 299) (.ref 300) 556 557
noncomputable def o179 : Obj := oFn (.type "function") (stAt prg [29]) "_law_draw" 3 (vS "law_uf050031_12" 549) (.ref 301)
noncomputable def o180 : Obj := oTup [(vS "_law_e" 562), (vS "_law_found" 563)]
noncomputable def o181 : Obj := oFn .none (stAt prg [30]) "_law_words" 0 .none .none
noncomputable def o182 : Obj := oCode "_law_words" 559 "_law_words" 560 561 174 1 3 (.ref 303) true 181 (.ref 304) (.ref 305) (.ref 306) (.ref 307) 564 565
noncomputable def o183 : Obj := oFn (.type "function") (stAt prg [30]) "_law_words" 3 (vS "law_uf050031_12" 549) (.ref 308)
noncomputable def o184 : Obj := oTup [(vS "_law_book" 570), (vS "_law_way" 571), (vS "_law_thing" 572), (vS "_law_e" 573)]
noncomputable def o185 : Obj := oFn .none (stAt prg [31]) "_law_call" 0 .none .none
noncomputable def o186 : Obj := oCode "_law_call" 567 "_law_call" 568 569 179 3 3 (.ref 310) true 181 (.ref 311) (.ref 312) (.ref 313) (.ref 314) 574 575
noncomputable def o187 : Obj := oFn (.type "function") (stAt prg [31]) "_law_call" 3 (vS "law_uf050031_12" 549) (.ref 315)
noncomputable def o188 : Obj := oTup [(vS "_law_cell" 580)]
noncomputable def o189 : Obj := oFn .none (stAt prg [32]) "_law_odd" 0 .none .none
noncomputable def o190 : Obj := oCode "_law_odd" 577 "_law_odd" 578 579 196 1 3 (.ref 317) true 181 (.ref 318) (.ref 319) (.ref 320) (.ref 321) 581 582
noncomputable def o191 : Obj := oFn (.type "function") (stAt prg [32]) "_law_odd" 3 (vS "law_uf050031_12" 549) (.ref 322)
noncomputable def o192 : Obj := oFn .none (stAt prg [33]) "_law_list" 0 .none .none
noncomputable def o193 : Obj := oCode "_law_list" 584 "_law_list" 585 586 198 2 3 (.ref 324) true 181 (.ref 325) .none .none (.ref 326) 587 588
noncomputable def o194 : Obj := oFn (.type "function") (stAt prg [33]) "_law_list" 3 (vS "law_uf050031_12" 549) (.ref 327)
noncomputable def o195 : Obj := oFn .none (stAt prg [34]) "_law_is_name" 0 .none .none
noncomputable def o196 : Obj := oCode "_law_is_name" 590 "_law_is_name" 591 592 210 1 3 (.ref 329) true 181 (.ref 330) .none .none (.ref 331) 593 594
noncomputable def o197 : Obj := oFn (.type "function") (stAt prg [34]) "_law_is_name" 3 (vS "law_uf050031_12" 549) (.ref 332)
noncomputable def o198 : Obj := oFn .none (stAt prg [35]) "_law_due" 0 .none .none
noncomputable def o199 : Obj := oCode "_law_due" 596 "_law_due" 597 598 214 4 3 (.ref 334) true 181 (.ref 335) .none .none (.ref 336) 599 600
noncomputable def o200 : Obj := oFn (.type "function") (stAt prg [35]) "_law_due" 3 (vS "law_uf050031_12" 549) (.ref 337)
noncomputable def o201 : Obj := oTup [(vS "_law_size" 605), (vS "_law_kinds" 606), (vS "_law_one" 607), (vS "_law_other" 608), (vS "_law_names" 609), (vS "_law_k" 610), (vS "_law_wide" 611), (vS "_law_due_here" 612), (vS "_law_found" 613), (vS "_law_way" 614), (vS "_law_made" 615), (vS "_law_e" 616)]
noncomputable def o202 : Obj := oFn .none (stAt prg [36]) "_law_both" 0 .none .none
noncomputable def o203 : Obj := oCode "_law_both" 602 "_law_both" 603 604 227 2 3 (.ref 339) true 181 (.ref 340) (.ref 341) (.ref 342) (.ref 343) 617 618
noncomputable def o204 : Obj := oFn (.type "function") (stAt prg [36]) "_law_both" 3 (vS "law_uf050031_12" 549) (.ref 344)
noncomputable def o205 : Obj := oFn .none (stAt prg [37]) "law" 0 .none .none
noncomputable def o206 : Obj := oCode "law" 620 "law" 621 622 253 1 3 (.ref 346) true 181 (.ref 347) .none .none (.ref 348) 623 624
noncomputable def o207 : Obj := oFn (.type "function") (stAt prg [37]) "law" 3 (vS "law_uf050031_12" 549) (.ref 349)
noncomputable def hpA (P : Params) : Heap := ⟨⟨[(boot_o_0 P), (boot_o_1 P), (boot_o_2 P), (boot_o_3 P), (boot_o_4 P), (boot_o_5 P), (boot_o_6 P), (boot_o_7 P), (boot_o_8 P), (boot_o_9 P), (boot_o_10 P), o0, o1, o2, o3]⟩, {}⟩
noncomputable def trA (P : Params) : BT := (.node (boot_o_0 P) (.node (boot_o_1 P) (.node (boot_o_3 P) (.node (boot_o_7 P) .nil .nil) (.node o0 .nil .nil)) (.node (boot_o_5 P) (.node (boot_o_9 P) .nil .nil) (.node o2 .nil .nil))) (.node (boot_o_2 P) (.node (boot_o_4 P) (.node (boot_o_8 P) .nil .nil) (.node o1 .nil .nil)) (.node (boot_o_6 P) (.node (boot_o_10 P) .nil .nil) (.node o3 .nil .nil))))
noncomputable def hpZ (P : Params) : Heap := ⟨⟨[(boot_o_0 P), (boot_o_1 P), (boot_o_2 P), (o4 P), (boot_o_4 P), (boot_o_5 P), (boot_o_6 P), (boot_o_7 P), (boot_o_8 P), (boot_o_9 P), (boot_o_10 P), o0, o5, o2, o3, o0, o1, o6, o0, o7, o8, o9, o10, o11, (o12 P), o0, o1, o13, o14, o0, (o15 P), o16, o17, o18, o19, o20, o11, (o21 P), o0, o1, o22, o23, o0, (o24 P), o25, o26, o27, o20, o11, (o28 P), o0, o1, o29, o30, o0, (o31 P), o32, o33, o34, o20, o11, (o35 P), o0, o1, o36, o37, o0, (o38 P), o39, o40, o41, o20, o11, (o42 P), o0, o1, o43, o44, o0, (o45 P), o46, o47, o48, o20, o11, (o49 P), o0, o1, o50, o51, o0, (o52 P), o53, o54, o55, o20, o11, (o56 P), o0, o1, o57, o58, o0, (o59 P), o60, o61, o62, o0, o1, o63, o64, o65, o0, o1, o66, o0, o67, o68, o69, o0, o1, o70, o71, o72, o0, o1, o73, o74, o75, o0, o1, o76, o77, o78, o0, o1, o79, o80, o81, o0, o1, o82, o83, o84, o0, o1, o85, o0, o86, o87, o88, o0, o1, o89, o0, o90, o91, o92, o0, o11, (o93 P), o0, o94, o95, o96, o0, o1, o97, o0, o98, o99, o100, o0, o1, o101, o0, o102, o103, o104, o0, o1, o105, o0, o106, o107, o108, o0, o1, o109, o110, o111, o0, o1, o112, o113, o114, o0, o1, o115, o0, o116, o117, o118, o0, o1, o119, o0, o120, o121, o122, o0, o1, o123, o0, o124, o125, o126, o0, o1, o127, o128, o129, o0, o1, o130, o0, o131, o132, o133, o0, o1, o134, o135, o136, o0, o1, o137, o138, o139, o0, o1, o140, o0, o141, o142, o143, o0, o1, o144, o0, o145, o146, o147, o0, o1, o148, o0, o149, o150, o151, o0, o1, o152, o153, o154, o0, o1, o155, o156, o157, o0, o1, o158, o0, o159, o160, o161, o0, o1, o162, o163, o164, o165, (o166 P), o167, o168, o169, o170, o171, o0, o1, o172, o0, o173, o174, o175, o0, o1, o176, o0, o177, o178, o179, o0, o1, o180, o0, o181, o182, o183, o0, o1, o184, o0, o185, o186, o187, o0, o1, o188, o0, o189, o190, o191, o0, o1, o192, o193, o194, o0, o1, o195, o196, o197, o0, o1, o198, o199, o200, o0, o1, o201, o0, o202, o203, o204, o0, o1, o205, o206, o207]⟩, {}⟩
noncomputable def trZ (P : Params) : BT := (.node (boot_o_0 P) (.node (boot_o_1 P) (.node (o4 P) (.node (boot_o_7 P) (.node o0 (.node o16 (.node o1 (.node o74 (.node o148 .nil .nil) .nil) (.node o0 (.node o188 .nil .nil) .nil)) (.node o20 (.node o11 (.node o170 .nil .nil) .nil) (.node o1 .nil .nil))) (.node o20 (.node (o45 P) (.node o84 (.node o1 .nil .nil) .nil) (.node o120 (.node o1 .nil .nil) .nil)) (.node o65 (.node o0 (.node o0 .nil .nil) .nil) (.node o0 .nil .nil)))) (.node o11 (.node o1 (.node o20 (.node o1 (.node o153 .nil .nil) .nil) (.node o0 (.node o193 .nil .nil) .nil)) (.node (o59 P) (.node o97 (.node o175 .nil .nil) .nil) (.node o134 .nil .nil))) (.node (o31 P) (.node o1 (.node o0 (.node o162 .nil .nil) .nil) (.node o125 (.node o202 .nil .nil) .nil)) (.node o0 (.node o106 (.node o1 .nil .nil) .nil) (.node o1 .nil .nil))))) (.node o0 (.node o7 (.node o20 (.node (o38 P) (.node o76 (.node o151 .nil .nil) .nil) (.node o114 (.node o191 .nil .nil) .nil)) (.node o1 (.node o95 (.node o172 .nil .nil) .nil) (.node o132 .nil .nil))) (.node o1 (.node o20 (.node o0 (.node o160 .nil .nil) .nil) (.node o1 (.node o0 .nil .nil) .nil)) (.node o0 (.node o0 (.node o181 .nil .nil) .nil) (.node o141 .nil .nil)))) (.node o13 (.node (o24 P) (.node o1 (.node o0 (.node o155 .nil .nil) .nil) (.node o0 (.node o195 .nil .nil) .nil)) (.node o0 (.node o100 (.node o0 .nil .nil) .nil) (.node o1 .nil .nil))) (.node o20 (.node (o52 P) (.node o90 (.node (o166 P) .nil .nil) .nil) (.node o127 (.node o1 .nil .nil) .nil)) (.node o72 (.node o1 (.node o186 .nil .nil) .nil) (.node o146 .nil .nil)))))) (.node (boot_o_5 P) (.node (boot_o_9 P) (.node o6 (.node o18 (.node o37 (.node o0 (.node o149 .nil .nil) .nil) (.node o112 (.node o189 .nil .nil) .nil)) (.node (o56 P) (.node o0 (.node o0 .nil .nil) .nil) (.node o0 .nil .nil))) (.node (o28 P) (.node o47 (.node o1 (.node o0 .nil .nil) .nil) (.node o122 (.node o199 .nil .nil) .nil)) (.node o1 (.node o103 (.node o180 .nil .nil) .nil) (.node o140 .nil .nil)))) (.node o0 (.node o23 (.node (o42 P) (.node o80 (.node o0 .nil .nil) .nil) (.node o117 (.node o0 .nil .nil) .nil)) (.node o61 (.node o98 (.node o1 .nil .nil) .nil) (.node o136 .nil .nil))) (.node o33 (.node o51 (.node o89 (.node o164 .nil .nil) .nil) (.node o0 (.node o204 .nil .nil) .nil)) (.node o70 (.node o108 (.node o0 .nil .nil) .nil) (.node o0 .nil .nil))))) (.node o2 (.node o9 (.node (o21 P) (.node o40 (.node o78 (.node o1 .nil .nil) .nil) (.node o1 (.node o1 .nil .nil) .nil)) (.node o58 (.node o0 (.node o173 .nil .nil) .nil) (.node o0 .nil .nil))) (.node o30 (.node (o49 P) (.node o87 (.node o0 .nil .nil) .nil) (.node o0 (.node o201 .nil .nil) .nil)) (.node o68 (.node o105 (.node o183 .nil .nil) .nil) (.node o143 .nil .nil)))) (.node o0 (.node o26 (.node o44 (.node o82 (.node o157 .nil .nil) .nil) (.node o119 (.node o197 .nil .nil) .nil)) (.node o63 (.node o1 (.node o178 .nil .nil) .nil) (.node o138 .nil .nil))) (.node (o35 P) (.node o54 (.node o92 (.node o168 .nil .nil) .nil) (.node o129 (.node o206 .nil .nil) .nil)) (.node o1 (.node o110 (.node o0 .nil .nil) .nil) (.node o0 .nil .nil))))))) (.node (boot_o_2 P) (.node (boot_o_4 P) (.node (boot_o_8 P) (.node o1 (.node o17 (.node o36 (.node o75 (.node o0 .nil .nil) .nil) (.node o1 (.node o0 .nil .nil) .nil)) (.node o11 (.node (o93 P) (.node o171 .nil .nil) .nil) (.node o130 .nil .nil))) (.node o11 (.node o46 (.node o0 (.node o158 .nil .nil) .nil) (.node o121 (.node o198 .nil .nil) .nil)) (.node o0 (.node o102 (.node o1 .nil .nil) .nil) (.node o1 .nil .nil)))) (.node (o12 P) (.node o22 (.node o11 (.node o79 (.node o154 .nil .nil) .nil) (.node o116 (.node o194 .nil .nil) .nil)) (.node o60 (.node o0 (.node o0 .nil .nil) .nil) (.node o135 .nil .nil))) (.node o32 (.node o50 (.node o1 (.node o163 .nil .nil) .nil) (.node o126 (.node o203 .nil .nil) .nil)) (.node o1 (.node o107 (.node o184 .nil .nil) .nil) (.node o144 .nil .nil))))) (.node o5 (.node o8 (.node o11 (.node o39 (.node o77 (.node o0 .nil .nil) .nil) (.node o0 (.node o0 .nil .nil) .nil)) (.node o57 (.node o96 (.node o0 .nil .nil) .nil) (.node o133 .nil .nil))) (.node o29 (.node o11 (.node o86 (.node o161 .nil .nil) .nil) (.node o123 (.node o1 .nil .nil) .nil)) (.node o67 (.node o1 (.node o182 .nil .nil) .nil) (.node o142 .nil .nil)))) (.node o14 (.node o25 (.node o43 (.node o1 (.node o156 .nil .nil) .nil) (.node o1 (.node o196 .nil .nil) .nil)) (.node o1 (.node o0 (.node o177 .nil .nil) .nil) (.node o137 .nil .nil))) (.node o11 (.node o53 (.node o91 (.node o167 .nil .nil) .nil) (.node o128 (.node o205 .nil .nil) .nil)) (.node o0 (.node o109 (.node o187 .nil .nil) .nil) (.node o147 .nil .nil)))))) (.node (boot_o_6 P) (.node (boot_o_10 P) (.node o0 (.node o19 (.node o0 (.node o1 (.node o150 .nil .nil) .nil) (.node o113 (.node o190 .nil .nil) .nil)) (.node o0 (.node o94 (.node o1 .nil .nil) .nil) (.node o131 .nil .nil))) (.node o0 (.node o48 (.node o85 (.node o159 .nil .nil) .nil) (.node o0 (.node o200 .nil .nil) .nil)) (.node o66 (.node o104 (.node o0 .nil .nil) .nil) (.node o0 .nil .nil)))) (.node o1 (.node o0 (.node o0 (.node o81 (.node o1 .nil .nil) .nil) (.node o118 (.node o1 .nil .nil) .nil)) (.node o62 (.node o99 (.node o176 .nil .nil) .nil) (.node o0 .nil .nil))) (.node o34 (.node o0 (.node o0 (.node o165 .nil .nil) .nil) (.node o1 (.node o0 .nil .nil) .nil)) (.node o71 (.node o0 (.node o185 .nil .nil) .nil) (.node o145 .nil .nil))))) (.node o3 (.node o10 (.node o0 (.node o41 (.node o0 (.node o152 .nil .nil) .nil) (.node o115 (.node o192 .nil .nil) .nil)) (.node o0 (.node o1 (.node o174 .nil .nil) .nil) (.node o1 .nil .nil))) (.node o0 (.node o0 (.node o88 (.node o1 .nil .nil) .nil) (.node o124 (.node o0 .nil .nil) .nil)) (.node o69 (.node o0 (.node o0 .nil .nil) .nil) (.node o0 .nil .nil)))) (.node (o15 P) (.node o27 (.node o0 (.node o83 (.node o0 .nil .nil) .nil) (.node o0 (.node o0 .nil .nil) .nil)) (.node o64 (.node o101 (.node o179 .nil .nil) .nil) (.node o139 .nil .nil))) (.node o0 (.node o55 (.node o0 (.node o169 .nil .nil) .nil) (.node o0 (.node o207 .nil .nil) .nil)) (.node o73 (.node o111 (.node o1 .nil .nil) .nil) (.node o1 .nil .nil))))))))
noncomputable def KK (P : Params) : Frag := [(2, (boot_o_2 P)), (3, (o4 P)), (15, o0), (17, o6), (18, o0), (20, o8), (21, o9), (22, o10), (29, o0), (30, (o15 P)), (31, o16), (32, o17), (35, o20), (42, o0), (43, (o24 P)), (44, o25), (47, o20), (54, o0), (55, (o31 P)), (56, o32), (59, o20), (66, o0), (67, (o38 P)), (68, o39), (71, o20), (78, o0), (79, (o45 P)), (80, o46), (83, o20), (90, o0), (91, (o52 P)), (92, o53), (95, o20), (102, o0), (103, (o59 P)), (104, o60), (107, o0), (110, o64), (111, o65), (112, o0), (114, o66), (115, o0), (117, o68), (118, o69), (119, o0), (122, o71), (123, o72), (124, o0), (127, o74), (128, o75), (129, o0), (132, o77), (133, o78), (134, o0), (137, o80), (138, o81), (139, o0), (142, o83), (143, o84), (144, o0), (146, o85), (147, o0), (149, o87), (150, o88), (151, o0), (153, o89), (154, o0), (156, o91), (157, o92), (165, o0), (167, o97), (168, o0), (170, o99), (171, o100), (172, o0), (174, o101), (175, o0), (177, o103), (178, o104), (179, o0), (181, o105), (182, o0), (184, o107), (185, o108), (186, o0), (189, o110), (190, o111), (191, o0), (194, o113), (195, o114), (196, o0), (198, o115), (199, o0), (201, o117), (202, o118), (203, o0), (205, o119), (206, o0), (208, o121), (209, o122), (210, o0), (212, o123), (213, o0), (215, o125), (216, o126), (217, o0), (220, o128), (221, o129), (222, o0), (224, o130), (225, o0), (227, o132), (228, o133), (229, o0), (232, o135), (233, o136), (234, o0), (237, o138), (238, o139), (239, o0), (241, o140), (242, o0), (244, o142), (245, o143), (246, o0), (248, o144), (249, o0), (251, o146), (252, o147), (253, o0), (255, o148), (256, o0), (258, o150), (259, o151), (260, o0), (263, o153), (264, o154), (265, o0), (268, o156), (269, o157), (270, o0), (272, o158), (273, o0), (275, o160), (276, o161), (277, o0), (280, o163), (281, o164), (282, o165), (283, (o166 P)), (284, o167), (285, o168), (286, o169), (289, o0), (291, o172), (292, o0), (294, o174), (295, o175), (296, o0), (298, o176), (299, o0), (301, o178), (302, o179), (303, o0), (305, o180), (306, o0), (308, o182), (309, o183), (310, o0), (312, o184), (313, o0), (315, o186), (316, o187), (317, o0), (319, o188), (320, o0), (322, o190), (323, o191), (324, o0), (327, o193), (328, o194), (329, o0), (332, o196), (333, o197), (334, o0), (337, o199), (338, o200), (339, o0), (341, o201), (342, o0), (344, o203), (345, o204), (346, o0), (349, o206), (350, o207)]
noncomputable def asK : List Addr := [2, 3, 15, 17, 18, 20, 21, 22, 29, 30, 31, 32, 35, 42, 43, 44, 47, 54, 55, 56, 59, 66, 67, 68, 71, 78, 79, 80, 83, 90, 91, 92, 95, 102, 103, 104, 107, 110, 111, 112, 114, 115, 117, 118, 119, 122, 123, 124, 127, 128, 129, 132, 133, 134, 137, 138, 139, 142, 143, 144, 146, 147, 149, 150, 151, 153, 154, 156, 157, 165, 167, 168, 170, 171, 172, 174, 175, 177, 178, 179, 181, 182, 184, 185, 186, 189, 190, 191, 194, 195, 196, 198, 199, 201, 202, 203, 205, 206, 208, 209, 210, 212, 213, 215, 216, 217, 220, 221, 222, 224, 225, 227, 228, 229, 232, 233, 234, 237, 238, 239, 241, 242, 244, 245, 246, 248, 249, 251, 252, 253, 255, 256, 258, 259, 260, 263, 264, 265, 268, 269, 270, 272, 273, 275, 276, 277, 280, 281, 282, 283, 284, 285, 286, 289, 291, 292, 294, 295, 296, 298, 299, 301, 302, 303, 305, 306, 308, 309, 310, 312, 313, 315, 316, 317, 319, 320, 322, 323, 324, 327, 328, 329, 332, 333, 334, 337, 338, 339, 341, 342, 344, 345, 346, 349, 350]
noncomputable def envT : Env := { scope := prg.main.scope, locals := mainNs, globals := mainNs, cells := [], code := (.ref 13), frame := some 14 }
noncomputable def bdy : List Stmt := behindTheImports prg
noncomputable def cT : Code := .body bdy envT
noncomputable def fT : List Frame := [topFrame ⟨0, 0, 0, 0⟩]
noncomputable def keepT : List Nat := [0, 2, 3, 4, 5, 6, 7, 8, 10, 11, 12, 13, 14, 15, 16, 17, 18, 20, 22, 23, 24, 25, 26, 27, 29, 30, 31, 32, 33, 34, 35, 36, 37]
noncomputable def viewT : Program := { prg with main := { prg.main with body := keepT.filterMap fun i => prg.main.body[i]? } }
noncomputable def looseT : List Str := [Str.ofString "meets_sets"]
theorem h_pre (w : World) (os : OsState) : topGo treeTable prg w 11 (some (.ref 6)) 12 ⟨boot_heap w.params, #[], boot_drawn, boot_toks, os⟩ (topStub prg) = some (⟨hpA w.params, #[], {}, 187, os⟩, ⟨denote treeTable cT, cT, ⟨0, 0, 0, 0⟩, fT⟩) := by
  rw [Fast.te15667345088766844465, Fast.te14364793385576792824, Fast.te11892475500146522536]; kernel_rfl
theorem h_blk (w : World) (os : OsState) : segRun treeTable prg w 11 (some (.ref 6)) 1 1 ⟨hpA w.params, #[], {}, 187, os⟩ (blockOf bdy envT cT ⟨0, 0, 0, 0⟩ fT) = some (.next, (⟨trA w.params, 15, {}, #[], {}, 187, os⟩ : SharedT).abs, cT, ⟨0, 0, 0, 0⟩) := by
  rw [Fast.te14374325043358763698, Fast.te14364793385576792824]; kernel_rfl
theorem h_run (w : World) (os : OsState) : segRunT treeTable prg w 11 (some (.ref 6)) 1 2891 ⟨trA w.params, 15, {}, #[], {}, 187, os⟩ (piecesOf bdy envT cT ⟨0, 0, 0, 0⟩ fT) = some (.next, ⟨trZ w.params, 351, {}, #[], {}, 626, os⟩, cT, ⟨253, 0, 284, 85⟩) := by
  rw [Fast.te10110043849684766642, Fast.te14364793385576792824]; kernel_rfl
theorem h_fin (w : World) (os : OsState) : topRun treeTable prg w 11 (some (.ref 6)) 2 (⟨trZ w.params, 351, {}, #[], {}, 626, os⟩ : SharedT).abs ⟨doneF .next, cT, ⟨253, 0, 284, 85⟩, fT⟩ = some ⟨hpZ w.params, #[], {}, 626, os⟩ := by
  rw [Fast.te14082659384304107361, Fast.te14364793385576792824]; kernel_rfl
theorem h_all (w : World) (os : OsState) : topRun treeTable prg w 11 (some (.ref 6)) (12 + (1 + (2891 + 2))) ⟨boot_heap w.params, #[], boot_drawn, boot_toks, os⟩ (topStub prg) = some ⟨hpZ w.params, #[], {}, 626, os⟩ := by
  have k := piece_app (q := ⟨0, 0, 0, 0⟩) (segRun_of (h_run w os)) (piece_nil (h_fin w os))
  rw [List.append_nil] at k
  exact go_top (h_pre w os) (piece_block (q := ⟨0, 0, 0, 0⟩) (h_blk w os) k)
noncomputable def hookT : Hook := kHook KK asK (fun _ => by kernel_rfl)
noncomputable def XtT (s : Shared) : Bool := xlAt viewT [] s && recOk (RowW.records PySem.Challenge.rw_uf050031_12.row.toRowW) s
theorem h_looks (w : World) : (fun os : OsState => ((staticsOk (importedModules prg.main.body) (boot_heap w.params) (hpZ w.params) && namesBound prg (hpZ w.params) && gensDone ⟨hpZ w.params, #[], {}, 626, os⟩ && laidKept (boot_heap w.params) (hpZ w.params)),
    openSeen viewT looseT (importedModules prg.main.body) XtT true ⟨hpZ w.params, #[], {}, 626, os⟩, hookT.obs ⟨hpZ w.params, #[], {}, 626, os⟩)) = fun _ => (true, openGood viewT looseT, hookT.val w) := by
  kernel_rfl
theorem h_left : LeftO prg viewT looseT XtT hookT.obs hookT.val 6506 :=
  LeftO.of_pieces (H₀ := boot_heap) (H₁ := hpZ) (gs₀ := #[]) (gs₁ := #[]) (d₀ := boot_drawn) (d₁ := {}) (k₀ := boot_toks) (k₁ := 626) (m₀ := 11) (ann := (some (.ref 6))) (M := 12 + (1 + (2891 + 2)))
    (boot_open (by kernel_rfl) (by kernel_rfl) (fun _ => by kernel_rfl)) (fun w => by kernel_rfl) h_all (by kernel_rfl) h_looks
theorem h_said : OpenLaw.wellSaid PySem.Challenge.rw_uf050031_12 = true := by kernel_rfl

end Mine
end
-- text A1
section
namespace Mine
open PySem
inductive AV where
 | none
 | bool (b : Bool)
 | int (i : Int)
 | str (s : Str)
 | ref (a : Addr)
inductive VR : Value → AV → Prop
 | none : VR .none .none
 | bool (b : Bool) : VR (.bool b) (.bool b)
 | int (i : Int) (t : Tok) : VR (.int i t) (.int i)
 | str (s : Str) (t : Tok) (ok : PyData.strOk s = true) : VR (.str s t) (.str s)
 | ref (a : Addr) : VR (.ref a) (.ref a)
inductive VRs : List Value → List AV → Prop
 | nil : VRs [] []
 | cons {v : Value} {a : AV} {vs : List Value} {as : List AV} : VR v a → VRs vs as → VRs (v :: vs) (a :: as)
theorem VRs.length {vs : List Value} {as : List AV} (h : VRs vs as) : vs.length = as.length := by
 induction h with
 | nil => rfl
 | cons _ _ ih => simp [ih]
theorem VRs.append {vs ws : List Value} {as bs : List AV} (h : VRs vs as) (k : VRs ws bs) : VRs (vs ++ ws) (as ++ bs) := by
 induction h with
 | nil => exact k
 | cons x _ ih => exact .cons x ih
theorem VRs.get {vs : List Value} {as : List AV} (h : VRs vs as) : ∀ {k : Nat} {a : AV}, as[k]? = some a → ∃ v, vs[k]? = some v ∧ VR v a := by
 induction h with
 | nil => intro k a e; simp at e
 | @cons v b vs bs x _ ih =>
  intro k a e
  cases k with
  | zero => simp at e; subst e; exact ⟨v, rfl, x⟩
  | succ k => simpa using ih (by simpa using e)
theorem VRs.getV {vs : List Value} {as : List AV} (h : VRs vs as) : ∀ {k : Nat} {v : Value}, vs[k]? = some v → ∃ a, as[k]? = some a ∧ VR v a := by
 induction h with
 | nil => intro k a e; simp at e
 | @cons v b vs bs x _ ih =>
  intro k a e
  cases k with
  | zero => simp at e; subst e; exact ⟨b, rfl, x⟩
  | succ k => simpa using ih (by simpa using e)
inductive AO where
 | list (xs : List AV)
 | script (ns : List Int)
 | tuple (xs : List AV)
 | range (lo hi : Int)
 | idict (es : List (Int × AV))
 | sdict (es : List (Str × AV))
 | sset (xs : List Str)
 | inst (d : Addr)
 | attrs (es : List (Str × AV))
 | exc (c : Str)
noncomputable abbrev AH := Addr → Option AO
noncomputable def AH.put (H : AH) (a : Addr) (o : AO) : AH := fun b => if b = a then some o else H b
theorem AH.put_self (H : AH) (a : Addr) (o : AO) : (H.put a o) a = some o := if_pos rfl
theorem AH.put_ne (H : AH) {a b : Addr} (o : AO) (h : b ≠ a) : (H.put a o) b = H b := if_neg h
noncomputable def Sub (H K : AH) : Prop := ∀ a o, H a = some o → K a = some o
theorem Sub.refl (H : AH) : Sub H H := fun _ _ e => e
theorem Sub.trans {H K L : AH} (x : Sub H K) (y : Sub K L) : Sub H L := fun a o e => y a o (x a o e)
theorem Sub.put {H K : AH} (x : Sub H K) {a : Addr} (o : AO) (h : H a = none) : Sub H (K.put a o) := fun b o' e => by
 by_cases q : b = a
 ·subst q; rw [h] at e; cases e
 ·rw [AH.put_ne _ _ q]; exact x b o' e
structure St where
 prog : Program
 w : World
 base : Heap
 os : OsState
 mg : Str → Option Value
 mb : Str → Option Value
 book : Addr
 excs : Str → Option Addr
noncomputable abbrev St.M (S : St) : Model := model S.prog S.w
structure Cx where
 U : Addr → Option Obj
 fr : List Addr
 envs : List Env
inductive KVs : List (DictEntry) → List (Str × AV) → Prop
 | nil : KVs [] []
 | cons {h : Int} {x : Str} {t : Tok} {v : Value} {a : AV} {es : List DictEntry} {as : List (Str × AV)} : VR v a → KVs es as → KVs (⟨h, .str x t, v⟩ :: es) ((x, a) :: as)
inductive PRs {K : Type} : List (K × Value) → List (K × AV) → Prop
 | nil : PRs [] []
 | cons {k : K} {v : Value} {a : AV} {vs : List (K × Value)} {as : List (K × AV)} : VR v a → PRs vs as → PRs ((k, v) :: vs) ((k, a) :: as)
inductive SRs (w : World) : List (Int × Value) → List Str → Prop
 | nil : SRs w [] []
 | cons {x : Str} {t : Tok} {vs : List (Int × Value)} {xs : List Str} : PyData.strOk x = true → SRs w vs xs → SRs w ((hashStr w x, .str x t) :: vs) (x :: xs)
inductive StrSetAt (w : World) (h : Heap) (a : Addr) (xs : List Str) : Prop
 | mk (es : Array (Int × Value)) (ep : Nat) (t : SetTable) (ys : List Str) : h.get? a = some { cls := .type "set", data := .set es ep t } → SRs w es.toList ys → ys.Perm xs → xs.Nodup → es.size < scanBound → t.fits es.size = true → (w.params.followText "set-order" = true ∨ t.led = true) → (es.size ≠ 0 → t.plain = false) → StrSetAt w h a xs
inductive SeqAt (h : Heap) (a : Addr) (T : String) (xs : List AV) : Prop
 | mk (vs : List Value) (n : Nat) : h.get? a = some { cls := .type T, data := .seq vs.toArray n } → VRs vs xs → vs.length ≤ sizeLine → SeqAt h a T xs
noncomputable def ObjAt (S : St) (h : Heap) (a : Addr) : AO → Prop
 | .list xs => SeqAt h a "list" xs
 | .script ns => ∃ vs, S.base.IsList a vs.toArray ∧ VRs vs (ns.map AV.int) ∧ vs.length ≤ 1048576
 | .tuple xs => SeqAt h a "tuple" xs
 | .range lo hi => ∃ t u v, (-1048576 ≤ lo ∧ lo ≤ 1048576) ∧ (-1048576 ≤ hi ∧ hi ≤ 1048576) ∧ IsRange h a lo hi 1 t u v
 | .idict es => ∃ kvs ep, h.DictAt (intKind S.prog S.w) a kvs ep ∧ PRs kvs es ∧ kvs.length ≤ sizeLine
 | .sdict es => ∃ kvs ep, h.DictAt (strKind S.prog S.w) a kvs ep ∧ PRs kvs es ∧ (∀ p ∈ kvs, PyData.strOk p.1 = true) ∧ kvs.length ≤ sizeLine
 | .sset xs => StrSetAt S.w h a xs
 | .inst d => h.get? a = some { cls := .ref S.book, dict := some d, data := .plain }
 | .attrs es => ∃ des n, h.get? a = some { cls := .type "dict", data := .dict des n } ∧ KVs des.toList es
 | .exc c => ∃ o C, h.get? a = some o ∧ S.excs c = some C ∧ o.cls = .ref C
noncomputable def isScript : AO → Bool
 | .script _ => true
 | _ => false
noncomputable def Kept (C : Cx) (h : Heap) (a : Addr) (o : Obj) : Prop :=
 h.get? a = some o ∨ (a ∈ C.fr ∧ ∃ sl, h.get? a = some { o with slots := sl })
structure Inv (S : St) (C : Cx) (H : AH) (s : Shared) : Prop where
 base : ∀ b o, S.base.get? b = some o → s.heap.get? b = some o
 keep : ∀ a o, C.U a = some o → Kept C s.heap a o
 objs : ∀ a o, H a = some o → ObjAt S s.heap a o
 sepH : ∀ a o, H a = some o → C.U a = none ∧ (isScript o = false → S.base.get? a = none)
 sepU : ∀ a o, C.U a = some o → S.base.get? a = none
 gens : s.gens = #[]
 os : s.os = S.os
 frU : ∀ a, a ∈ C.fr → ∃ o, C.U a = some o
inductive NsObj (o : Obj) (m : Str → Option Value) : Prop
 | mk (es : Array DictEntry) (ep : Nat) : o.data = .dict es ep → StrKeys es → (∀ name, nsFind es name = m name) → NsObj o m
structure EnvOK (S : St) (C : Cx) (A : Around) (env : Env) : Prop where
 kind : env.scope.kind = .function
 glob : env.globals = mainGlobals
 blt : env.builtins = builtinsNs
 cells : ∀ x, env.kindOf x = some .cell ∨ env.kindOf x = some .free → ∃ c, env.cells.lookup x = some c
 cellU : ∀ x c, env.cells.lookup x = some c → c ≠ env.locals ∧ c ∉ C.fr ∧ ∃ o v, C.U c = some o ∧ o.data = .cell v
 apart : ∀ x y c, env.cells.lookup x = some c → env.cells.lookup y = some c → x = y
 loc : ∃ o m, C.U env.locals = some o ∧ NsObj o m
 stack : A.frames = some C.envs
 fun_ : ∀ e ∈ C.envs, e.scope.kind ≠ .module ∧ ∃ L o, e.frame = some L ∧ L ∈ C.fr ∧ C.U L = some o ∧ ∀ vs, o.data ≠ .fields vs
noncomputable abbrev Mp := Nat → Option AV
noncomputable def Mp.upd (m : Mp) (i : Nat) (v : AV) : Mp := fun j => if j = i then some v else m j
theorem Mp.upd_self (m : Mp) (i : Nat) (v : AV) : (m.upd i v) i = some v := if_pos rfl
theorem Mp.upd_ne (m : Mp) {i j : Nat} (v : AV) (h : j ≠ i) : (m.upd i v) j = m j := if_neg h
noncomputable def VarAt (C : Cx) (env : Env) (x : Str) (cv : Value) : Prop :=
 (env.kindOf x = some .local ∧ ∃ o m, C.U env.locals = some o ∧ NsObj o m ∧ m x = some cv) ∨
 ((env.kindOf x = some .cell ∨ env.kindOf x = some .free) ∧ ∃ c o, env.cells.lookup x = some c ∧ C.U c = some o ∧ o.data = .cell (some cv))
noncomputable abbrev Rho := List (Str × Nat)
noncomputable def EnvRel (C : Cx) (env : Env) (ρ : Rho) (m : Mp) : Prop := ∀ x i v, (x, i) ∈ ρ → m i = some v → ∃ cv, VR cv v ∧ VarAt C env x cv
noncomputable def RhoOK (ρ : Rho) : Prop := ∀ p ∈ ρ, ∀ q ∈ ρ, p.1 = q.1 ↔ p.2 = q.2
structure FUpd (env : Env) (C C' : Cx) : Prop where
 fr : C'.fr = C.fr
 envs : C'.envs = C.envs
 other : ∀ a, a ≠ env.locals → (∀ x, env.cells.lookup x ≠ some a) → C'.U a = C.U a
theorem FUpd.refl (env : Env) (C : Cx) : FUpd env C C := ⟨rfl, rfl, fun _ _ _ => rfl⟩
theorem FUpd.trans {env : Env} {C C' C'' : Cx} (x : FUpd env C C') (y : FUpd env C' C'') : FUpd env C C'' :=
 ⟨y.fr.trans x.fr, y.envs.trans x.envs, fun a h1 h2 => (y.other a h1 h2).trans (x.other a h1 h2)⟩
noncomputable def unreadN : Str := Str.ofString "Unread"
noncomputable def Ctx (x : Str) (vs : Array Value) : Prop := x ≠ unreadN → vs[2]? = some .none
structure ExcAt (S : St) (C : Cx) (H : AH) (h : Heap) (e : Addr) (x : Str) : Prop where
 cls : ∃ oe vs K, h.get? e = some oe ∧ S.excs x = some K ∧ oe.cls = .ref K ∧ oe.data = .fields vs ∧ 1 < vs.size ∧ (∃ a0, vs[0]? = some a0 ∧ Ctx x vs) ∧
  (vs[1]? = some .none ∨ ∃ T oT ts fl, vs[1]? = some (.ref T) ∧ T ≠ e ∧ h.get? T = some oT ∧ oT.data = .fields ts ∧ ts[3]? = some fl ∧ (fl = .none ∨ ∃ env outer L, C.envs = env :: outer ∧ env.frame = some L ∧ fl = rawInt L) ∧ S.base.get? T = none ∧ C.U T = none ∧ H T = none)
 new : S.base.get? e = none ∧ C.U e = none ∧ H e = none
inductive Raised (S : St) (C : Cx) (H : AH) (x : Str) (v : Value) (s : Shared) : Prop
 | mk (e : Addr) : v = .ref e → Inv S C H s → ExcAt S C H s.heap e x → Raised S C H x v s
structure Room (b : Bool) (d : Nat) (A : Around) : Prop where
 hd : b = true → A.handled = none
 depth : A.depth + 8 * d ≤ 600
 units : A.units + 100 * d ≤ 9000
noncomputable abbrev QV := AV → AH → Prop
noncomputable abbrev QX := Str → AH → Prop
noncomputable abbrev Tm := Mp → AH → QV → QX → Prop
noncomputable abbrev Tb := Mp → AH → (Bool → AH → Prop) → QX → Prop
noncomputable abbrev Ts := Mp → AH → (Mp → AH → Prop) → QV → QX → Prop
noncomputable abbrev Fn := List AV → AH → QV → QX → Prop
inductive PostV (S : St) (C : Cx) (Q : QV) (v : Value) (s' : Shared) : Prop
 | mk (av : AV) (H' : AH) : VR v av → Inv S C H' s' → Q av H' → PostV S C Q v s'
inductive PostB (S : St) (C : Cx) (Q : Bool → AH → Prop) (b : Bool) (s' : Shared) : Prop
 | mk (H' : AH) : Inv S C H' s' → Q b H' → PostB S C Q b s'
noncomputable def ExOK (S : St) (C : Cx) (X : QX) (E : Value → Shared → Prop) : Prop := ∀ x H' v s', X x H' → Raised S C H' x v s' → E v s'
noncomputable abbrev Kd := Str → Option NameKind
noncomputable def SoundE (S : St) (b : Bool) (d : Nat) (sc : Kd) (ρ : Rho) (e : Expr) (t : Tm) : Prop :=
 ∀ (C : Cx) (A : Around) (env : Env) (m : Mp) (H : AH) (Q : QV) (X : QX) (E : Value → Shared → Prop) (s : Shared),
  Room b d A → EnvOK S C A env → (∀ x, env.kindOf x = sc x) → EnvRel C env ρ m → Inv S C H s → t m H Q X → ExOK S C X E →
  wpAny S.M A (eval e env) (PostV S C Q) E s
noncomputable def SoundB (S : St) (b : Bool) (d : Nat) (sc : Kd) (ρ : Rho) (e : Expr) (t : Tb) : Prop :=
 ∀ (C : Cx) (A : Around) (env : Env) (m : Mp) (H : AH) (Q : Bool → AH → Prop) (X : QX) (E : Value → Shared → Prop) (s : Shared),
  Room b d A → EnvOK S C A env → (∀ x, env.kindOf x = sc x) → EnvRel C env ρ m → Inv S C H s → t m H Q X → ExOK S C X E →
  wpAny S.M A (isTrue e env (eval e env)) (PostB S C Q) E s
structure FrOK (S : St) (C : Cx) (A : Around) : Prop where
 stack : A.frames = some C.envs
 fun_ : ∀ e ∈ C.envs, e.scope.kind ≠ .module ∧ ∃ L o, e.frame = some L ∧ L ∈ C.fr ∧ C.U L = some o ∧ ∀ vs, o.data ≠ .fields vs
inductive PostS (S : St) (C : Cx) (A : Around) (env : Env) (ρ : Rho) (QN : Mp → AH → Prop) (QR : QV) (fl : Flow) (s' : Shared) : Prop
 | mk (C' : Cx) (H' : AH) : FUpd env C C' → Inv S C' H' s' → (match fl with
  | .next => ∃ m', EnvOK S C' A env ∧ EnvRel C' env ρ m' ∧ QN m' H'
  | .ret v => EnvOK S C' A env ∧ ∃ av, VR v av ∧ QR av H'
  | _ => False) → PostS S C A env ρ QN QR fl s'
noncomputable def ExOKS (S : St) (C : Cx) (A : Around) (env : Env) (X : QX) (E : Value → Shared → Prop) : Prop := ∀ C' x H' v s', FUpd env C C' → EnvOK S C' A env → X x H' → Raised S C' H' x v s' → E v s'
noncomputable def SoundS (S : St) (b : Bool) (d : Nat) (sc : Kd) (ρ : Rho) (st : List Stmt) (t : Ts) : Prop :=
 ∀ (C : Cx) (A : Around) (env : Env) (m : Mp) (H : AH) (QN : Mp → AH → Prop) (QR : QV) (X : QX) (E : Value → Shared → Prop) (s : Shared),
  Room b d A → EnvOK S C A env → (∃ outer, C.envs = env :: outer) → (∀ x, env.kindOf x = sc x) → EnvRel C env ρ m → Inv S C H s → t m H QN QR X → ExOKS S C A env X E →
  wpAny S.M A (execs st env) (PostS S C A env ρ QN QR) E s
noncomputable def PostF (S : St) (C : Cx) (Q : QV) (X : QX) (r : Result) (s' : Shared) : Prop :=
 match r with
 | .ok (.ret v) => PostV S C Q v s'
 | .ok _ => False
 | .error e => ∃ x H', X x H' ∧ Raised S C H' x e s'
noncomputable def SoundF (S : St) (b : Bool) (d : Nat) (f : Value) (F : Fn) : Prop :=
 ∀ (C : Cx) (A : Around) (vs : List Value) (avs : List AV) (H : AH) (Q : QV) (X : QX) (s : Shared),
  Room b d A → FrOK S C A → VRs vs avs → Inv S C H s → F avs H Q X → codeAny S.M A (.call f ⟨vs, []⟩) (PostF S C Q X) s
end Mine
end
-- text A2
section
namespace Mine
open PySem PySem.Calls PyProof.Rows
theorem ObjAt.of_get {S : St} {h h' : Heap} {a : Addr} {o : AO} (x : ObjAt S h a o) (e : ∀ ob, h.get? a = some ob → h'.get? a = some ob) : ObjAt S h' a o := by
 cases o with
 | list xs => obtain ⟨vs, n, h1, h2, h3⟩ := x; exact ⟨vs, n, e _ h1, h2, h3⟩
 | script ns => exact x
 | tuple xs => obtain ⟨vs, n, h1, h2, h3⟩ := x; exact ⟨vs, n, e _ h1, h2, h3⟩
 | range lo hi => obtain ⟨t, u, v, b1, b2, h1⟩ := x; exact ⟨t, u, v, b1, b2, e _ h1⟩
 | idict es => obtain ⟨kvs, ep, ⟨ob, des, h1, h2⟩, h3⟩ := x; exact ⟨kvs, ep, ⟨ob, des, e _ h1, h2⟩, h3⟩
 | sdict es => obtain ⟨kvs, ep, ⟨ob, des, h1, h2⟩, h3⟩ := x; exact ⟨kvs, ep, ⟨ob, des, e _ h1, h2⟩, h3⟩
 | sset xs => obtain ⟨es, ep, t, ys, h1, h2, h3, h4, h5, h6, h7, h8⟩ := x; exact ⟨es, ep, t, ys, e _ h1, h2, h3, h4, h5, h6, h7, h8⟩
 | inst d => exact e _ x
 | attrs es => obtain ⟨des, n, h1, h2⟩ := x; exact ⟨des, n, e _ h1, h2⟩
 | exc c => obtain ⟨ob, C, h1, h2⟩ := x; exact ⟨ob, C, e _ h1, h2⟩
theorem ObjAt.there {S : St} {h : Heap} {a : Addr} {o : AO} (x : ObjAt S h a o) (hs : isScript o = false) : ∃ ob, h.get? a = some ob := by
 cases o with
 | list xs => obtain ⟨vs, n, h1, h2⟩ := x; exact ⟨_, h1⟩
 | script ns => cases hs
 | tuple xs => obtain ⟨vs, n, h1, h2⟩ := x; exact ⟨_, h1⟩
 | range lo hi => obtain ⟨t, u, v, b1, b2, h1⟩ := x; exact ⟨_, h1⟩
 | idict es => obtain ⟨kvs, ep, ⟨ob, des, h1, h2⟩, h3⟩ := x; exact ⟨_, h1⟩
 | sdict es => obtain ⟨kvs, ep, ⟨ob, des, h1, h2⟩, h3⟩ := x; exact ⟨_, h1⟩
 | sset xs => obtain ⟨es, ep, t, ys, h1, h2⟩ := x; exact ⟨_, h1⟩
 | inst d => exact ⟨_, x⟩
 | attrs es => obtain ⟨des, n, h1, h2⟩ := x; exact ⟨_, h1⟩
 | exc c => obtain ⟨ob, C, h1, h2⟩ := x; exact ⟨_, h1⟩
theorem Kept.of_get {C : Cx} {h h' : Heap} {a : Addr} {o : Obj} (x : Kept C h a o) (e : ∀ ob, h.get? a = some ob → h'.get? a = some ob) : Kept C h' a o := by
 rcases x with h1 | ⟨h1, sl, h2⟩
 ·exact .inl (e _ h1)
 ·exact .inr ⟨h1, sl, e _ h2⟩
theorem Kept.there {C : Cx} {h : Heap} {a : Addr} {o : Obj} (x : Kept C h a o) : ∃ ob, h.get? a = some ob := by
 rcases x with h1 | ⟨_, sl, h2⟩
 ·exact ⟨_, h1⟩
 ·exact ⟨_, h2⟩
section
variable {S : St} {C : Cx} {H : AH} {s : Shared}
theorem Inv.lt (I : Inv S C H s) {a : Addr} {o : AO} (h : H a = some o) : a < s.heap.objs.size := by
 have x := I.objs a o h
 cases hs : isScript o with
 | false => obtain ⟨ob, e⟩ := x.there hs; exact Heap.lt_size e
 | true =>
  cases o with
  | script ns => obtain ⟨vs, ⟨ob, e, _⟩, _⟩ := x; exact Heap.lt_size (I.base _ _ e)
  | _ => cases hs
theorem Inv.same (I : Inv S C H s) {s' : Shared} (hh : s'.heap = s.heap) (hg : s'.gens = s.gens) (ho : s'.os = s.os) : Inv S C H s' :=
 ⟨by rw [hh]; exact I.base, by rw [hh]; exact I.keep, by rw [hh]; exact I.objs, I.sepH, I.sepU, hg.trans I.gens, ho.trans I.os, I.frU⟩
theorem Inv.grow (I : Inv S C H s) {s' : Shared} (hk : ∀ b o, s.heap.get? b = some o → s'.heap.get? b = some o) (hg : s'.gens = s.gens) (ho : s'.os = s.os) : Inv S C H s' :=
 ⟨fun b o e => hk b o (I.base b o e), fun a o e => (I.keep a o e).of_get fun ob => hk a ob, fun a o e => (I.objs a o e).of_get fun ob => hk a ob, I.sepH, I.sepU, hg.trans I.gens, ho.trans I.os, I.frU⟩
theorem Inv.fresh (I : Inv S C H s) {a : Addr} (hn : s.heap.get? a = none) : H a = none ∧ C.U a = none ∧ S.base.get? a = none := by
 have hb : S.base.get? a = none := by
  cases q : S.base.get? a with
  | none => rfl
  | some o => have := I.base a o q; rw [hn] at this; cases this
 refine ⟨?_, ?_, hb⟩
 ·cases q : H a with
  | none => rfl
  | some o =>
   have x := I.objs a o q
   cases hs : isScript o with
   | false => obtain ⟨ob, e⟩ := x.there hs; rw [hn] at e; cases e
   | true =>
    cases o with
    | script ns => obtain ⟨vs, ⟨ob, e, _⟩, _⟩ := x; rw [hb] at e; cases e
    | _ => cases hs
 ·cases q : C.U a with
  | none => rfl
  | some o => obtain ⟨ob, e⟩ := (I.keep a o q).there; rw [hn] at e; cases e
theorem Inv.add (I : Inv S C H s) {s' : Shared} {a : Addr} {o : AO} (hn : s.heap.get? a = none) (hk : ∀ b o, s.heap.get? b = some o → s'.heap.get? b = some o)
  (ha : ObjAt S s'.heap a o) (hg : s'.gens = s.gens) (ho : s'.os = s.os) : Inv S C (H.put a o) s' := by
 obtain ⟨f1, f2, f3⟩ := I.fresh hn
 have J := I.grow hk hg ho
 refine ⟨J.base, J.keep, fun b o' e => ?_, fun b o' e => ?_, J.sepU, J.gens, J.os, J.frU⟩
 ·by_cases q : b = a
  ·subst q; rw [AH.put_self] at e; cases e; exact ha
  ·rw [AH.put_ne _ _ q] at e; exact J.objs b o' e
 ·by_cases q : b = a
  ·subst q; exact ⟨f2, fun _ => f3⟩
  ·rw [AH.put_ne _ _ q] at e; exact J.sepH b o' e
theorem Inv.set (I : Inv S C H s) {s' : Shared} {a : Addr} {o₀ o : AO} (h0 : H a = some o₀) (hs0 : isScript o₀ = false) (hsb : ∀ b ob, b ≠ a → s.heap.get? b = some ob → s'.heap.get? b = some ob)
  (ha : ObjAt S s'.heap a o) (hg : s'.gens = s.gens) (ho : s'.os = s.os) : Inv S C (H.put a o) s' := by
 obtain ⟨u1, u2⟩ := I.sepH a o₀ h0
 refine ⟨fun b ob e => ?_, fun b ob e => ?_, fun b o' e => ?_, fun b o' e => ?_, I.sepU, hg.trans I.gens, ho.trans I.os, I.frU⟩
 ·refine hsb b ob (fun q => ?_) (I.base b ob e)
  subst q; rw [u2 hs0] at e; cases e
 ·refine (I.keep b ob e).of_get fun x hx => hsb b x (fun q => ?_) hx
  subst q; rw [u1] at e; cases e
 ·by_cases q : b = a
  ·subst q; rw [AH.put_self] at e; cases e; exact ha
  ·rw [AH.put_ne _ _ q] at e; exact (I.objs b o' e).of_get fun x hx => hsb b x q hx
 ·by_cases q : b = a
  ·subst q; exact ⟨u1, fun _ => u2 hs0⟩
  ·rw [AH.put_ne _ _ q] at e; exact I.sepH b o' e
theorem Inv.sub (I : Inv S C H s) {K : AH} (h : Sub K H) : Inv S C K s :=
 ⟨I.base, I.keep, fun a o e => I.objs a o (h a o e), fun a o e => I.sepH a o (h a o e), I.sepU, I.gens, I.os, I.frU⟩
theorem Inv.less (I : Inv S C H s) {C' : Cx} (hfr : ∀ a, a ∈ C.fr → C'.U a ≠ none → a ∈ C'.fr) (h : ∀ a o, C'.U a = some o → C.U a = some o) (hu : ∀ a, a ∈ C'.fr → ∃ o, C'.U a = some o) : Inv S C' H s := by
 refine ⟨I.base, fun a o e => ?_, I.objs, fun a o e => ⟨?_, (I.sepH a o e).2⟩, fun a o e => I.sepU a o (h a o e), I.gens, I.os, hu⟩
 ·rcases I.keep a o (h a o e) with x | ⟨x, y⟩
  ·exact .inl x
  ·exact .inr ⟨hfr a x (by rw [e]; exact fun q => by cases q), y⟩
 ·cases q : C'.U a with
  | none => rfl
  | some ob => have := h a ob q; rw [(I.sepH a o e).1] at this; cases this
noncomputable def Cx.hide (C : Cx) (a : Addr) (o : Obj) : Cx := { C with U := fun b => if b = a then some o else C.U b }
theorem Cx.hide_self (C : Cx) (a : Addr) (o : Obj) : (C.hide a o).U a = some o := if_pos rfl
theorem Cx.hide_ne (C : Cx) {a b : Addr} (o : Obj) (h : b ≠ a) : (C.hide a o).U b = C.U b := if_neg h
theorem Inv.hide (I : Inv S C H s) {s' : Shared} {a : Addr} {o : Obj} (hn : s.heap.get? a = none) (hk : ∀ b o, s.heap.get? b = some o → s'.heap.get? b = some o)
  (ha : s'.heap.get? a = some o) (hg : s'.gens = s.gens) (ho : s'.os = s.os) : Inv S (C.hide a o) H s' := by
 obtain ⟨f1, f2, f3⟩ := I.fresh hn
 have J := I.grow hk hg ho
 refine ⟨J.base, fun b ob e => ?_, J.objs, fun b o' e => ⟨?_, (J.sepH b o' e).2⟩, fun b ob e => ?_, J.gens, J.os, fun b hb => ?_⟩
 ·by_cases q : b = a
  ·subst q; rw [Cx.hide_self] at e; cases e; exact .inl ha
  ·rw [Cx.hide_ne _ _ q] at e; exact J.keep b ob e
 ·by_cases q : b = a
  ·subst q; rw [f1] at e; cases e
  ·rw [Cx.hide_ne _ _ q]; exact (J.sepH b o' e).1
 ·by_cases q : b = a
  ·subst q; exact f3
  ·rw [Cx.hide_ne _ _ q] at e; exact J.sepU b ob e
 ·obtain ⟨o', e⟩ := J.frU b hb
  by_cases q : b = a
  ·subst q; rw [f2] at e; cases e
  ·exact ⟨o', (Cx.hide_ne _ _ q).trans e⟩
theorem Inv.turn (I : Inv S C H s) {s' : Shared} {a : Addr} {o₀ o : Obj} (h0 : C.U a = some o₀) (hsb : ∀ b ob, b ≠ a → s.heap.get? b = some ob → s'.heap.get? b = some ob)
  (ha : s'.heap.get? a = some o) (hg : s'.gens = s.gens) (ho : s'.os = s.os) : Inv S (C.hide a o) H s' := by
 have hb := I.sepU a o₀ h0
 refine ⟨fun b ob e => ?_, fun b ob e => ?_, fun b o' e => ?_, fun b o' e => ⟨?_, (I.sepH b o' e).2⟩, fun b ob e => ?_, hg.trans I.gens, ho.trans I.os, fun b hb => ?_⟩
 ·refine hsb b ob (fun q => ?_) (I.base b ob e)
  subst q; rw [hb] at e; cases e
 ·by_cases q : b = a
  ·subst q; rw [Cx.hide_self] at e; cases e; exact .inl ha
  ·rw [Cx.hide_ne _ _ q] at e; exact (I.keep b ob e).of_get fun x hx => hsb b x q hx
 ·refine (I.objs b o' e).of_get fun x hx => hsb b x (fun q => ?_) hx
  subst q; rw [(I.sepH _ _ e).1] at h0; cases h0
 ·by_cases q : b = a
  ·subst q; rw [(I.sepH _ _ e).1] at h0; cases h0
  ·rw [Cx.hide_ne _ _ q]; exact (I.sepH b o' e).1
 ·by_cases q : b = a
  ·subst q; exact hb
  ·rw [Cx.hide_ne _ _ q] at e; exact I.sepU b ob e
 ·obtain ⟨o', e⟩ := I.frU b hb
  by_cases q : b = a
  ·subst q; exact ⟨o, Cx.hide_self ..⟩
  ·exact ⟨o', (Cx.hide_ne _ _ q).trans e⟩
end
section
variable {S : St} {b : Bool} {d : Nat} {sc : Kd} {ρ : Rho}
noncomputable def tVal (v : AV) : Tm := fun _ H Q _ => Q v H
theorem sE_int (i : Int) (k : Nat) (pos : Pos) : SoundE S b d sc ρ (.Constant (.int i) k pos) (tVal (.int i)) := by
 intro C A env m H Q X E s _ _ _ _ I h _
 exact fun _ _ _ => ⟨_, H, .int i _, I.same rfl rfl rfl, h⟩
theorem sE_bool (v : Bool) (k : Nat) (pos : Pos) : SoundE S b d sc ρ (.Constant (.bool v) k pos) (tVal (.bool v)) := by
 intro C A env m H Q X E s _ _ _ _ I h _
 exact fun _ _ _ => ⟨_, H, .bool v, I, h⟩
theorem sE_none (k : Nat) (pos : Pos) : SoundE S b d sc ρ (.Constant .none k pos) (tVal .none) := by
 intro C A env m H Q X E s _ _ _ _ I h _
 exact fun _ _ _ => ⟨_, H, .none, I, h⟩
theorem sE_str (x : Str) (k : Nat) (pos : Pos) (hx : PyData.strOk x = true) : SoundE S b d sc ρ (.Constant (.str x) k pos) (tVal (.str x)) := by
 intro C A env m H Q X E s _ _ _ _ I h _
 exact fun _ _ _ => ⟨_, H, .str x _ hx, I.same rfl rfl rfl, h⟩
theorem VarAt.load {S : St} {C : Cx} {A : Around} {env : Env} {x : Str} {cv : Value} {H : AH} {s : Shared} {M : Model} {E : Value → Shared → Prop} {Q : Value → Shared → Prop} (V : VarAt C env x cv) (O : EnvOK S C A env) (I : Inv S C H s)
  (hn : (x == ("__classdict__" : Str)) = false) (h : Q cv s) : wpAny M A (loadName env x) Q E s := by
 rcases V with ⟨hk, o, m, hU, ⟨es, ep, hd, r1, r2⟩, hm⟩ | ⟨hk, c, o, hc, hU, hd⟩
 ·have hns : s.heap.Ns env.locals m := by
   rcases I.keep _ _ hU with e | ⟨_, sl, e⟩
   ·exact ⟨o, es, ep, e, hd, r1, r2⟩
   ·exact ⟨_, es, ep, e, hd, r1, r2⟩
  exact wpAny_loadName_local O.kind hk hns hm h
 ·have hcell : s.heap.IsCell c (some cv) := by
   rcases I.keep _ _ hU with e | ⟨_, sl, e⟩
   ·exact ⟨o, e, hd⟩
   ·exact ⟨_, e, hd⟩
  rcases hk with hk | hk
  ·exact wpAny_loadName_cell O.kind hk hc hcell h
  ·exact wpAny_loadName_free O.kind hk hc hcell h hn
inductive Got (H : AH) (a : Addr) (P : AO → Prop) : Prop
 | mk (o : AO) : H a = some o → P o → Got H a P
inductive OneGot (vs : List AV) (H : AH) (P : AO → Prop) : Prop
 | mk (a : Addr) (o : AO) : vs = [.ref a] → H a = some o → P o → OneGot vs H P
inductive Loc (m : Mp) (i : Nat) (H : AH) (Q : QV) : Prop
 | mk (v : AV) : m i = some v → Q v H → Loc m i H Q
noncomputable def tLoc (i : Nat) : Tm := fun m H Q _ => Loc m i H Q
theorem sE_loc {x : Str} {i : Nat} (pos : Pos) (hρ : ρ.lookup x = some i) (hd : (x == ("__debug__" : Str)) = false) (hn : (x == ("__classdict__" : Str)) = false) :
  SoundE S b d sc ρ (.Name x pos) (tLoc i) := by
 intro C A env m H Q X E s _ O _ R I h _
 obtain ⟨v, hv, hq⟩ := h
 obtain ⟨cv, hr, V⟩ := R x i v (mem_of_lookup hρ) hv
 exact wpAny_Name (V.load O I hn ⟨v, H, hr, I, hq⟩) hd
noncomputable abbrev Tms := Mp → AH → (List AV → AH → Prop) → QX → Prop
noncomputable def SoundEs (S : St) (b : Bool) (d : Nat) (sc : Kd) (ρ : Rho) (es : List Expr) (t : Tms) : Prop :=
 ∀ (C : Cx) (A : Around) (env : Env) (m : Mp) (H : AH) (Q : List AV → AH → Prop) (X : QX) (E : Value → Shared → Prop) (s : Shared) (pos : Pos),
  Room b d A → EnvOK S C A env → (∀ x, env.kindOf x = sc x) → EnvRel C env ρ m → Inv S C H s → t m H Q X → ExOK S C X E →
  wpAny S.M A (spliced (backTo pos (starEach es env))) (fun vs s' => ∃ avs H', VRs vs avs ∧ Inv S C H' s' ∧ Q avs H') E s
noncomputable def tNil : Tms := fun _ H Q _ => Q [] H
noncomputable def tCons (t : Tm) (ts : Tms) : Tms := fun m H Q X => t m H (fun v H1 => ts m H1 (fun vs H2 => Q (v :: vs) H2) X) X
theorem sEs_nil : SoundEs S b d sc ρ [] tNil := by
 intro C A env m H Q X E s pos _ _ _ _ I h _
 exact spliced_none ⟨[], H, .nil, I, h⟩
theorem sEs_cons {e : Expr} {es : List Expr} {t : Tm} {ts : Tms} (h1 : SoundE S b d sc ρ e t) (h2 : SoundEs S b d sc ρ es ts)
  (he : ∀ env, starEach (e :: es) env = (false, eval e env) :: starEach es env) : SoundEs S b d sc ρ (e :: es) (tCons t ts) := by
 intro C A env m H Q X E s pos R O hk V I h hE
 refine spliced_more (wpAny_mono (h1 C A env m H _ X E s R O hk V I h hE) ?_ fun _ _ x => x) (he env)
 rintro v s1 ⟨av, H1, r1, I1, q1⟩
 refine wpAny_mono (h2 C A env m H1 _ X E s1 pos R O hk V I1 q1 hE) ?_ fun _ _ x => x
 rintro vs s2 ⟨avs, H2, r2, I2, q2⟩
 exact ⟨av :: avs, H2, .cons r1 r2, I2, q2⟩
noncomputable def BinOK (S : St) (op : Operator) (f : AV → AV → AH → QV → Prop) : Prop :=
 ∀ (C : Cx) (A : Around) (va vb : Value) (x y : AV) (H : AH) (Q : QV) (E : Value → Shared → Prop) (s : Shared), A.units ≤ 9000 → VR va x → VR vb y → Inv S C H s → f x y H Q → wpAny S.M A (binaryOp op va vb) (PostV S C Q) E s
noncomputable def tBin (f : AV → AV → AH → QV → Prop) (t u : Tm) : Tm := fun m H Q X => t m H (fun x H1 => u m H1 (fun y H2 => f x y H2 Q) X) X
theorem Room.u {b : Bool} {d : Nat} {A : Around} (R : Room b d A) : A.units ≤ 9000 := by have := R.units; lia
theorem sE_bin {l r : Expr} {op : Operator} {pos : Pos} {t u : Tm} {f : AV → AV → AH → QV → Prop} (hf : BinOK S op f) (h1 : SoundE S b d sc ρ l t) (h2 : SoundE S b d sc ρ r u) :
  SoundE S b d sc ρ (.BinOp l op r pos) (tBin f t u) := by
 intro C A env m H Q X E s R O hk V I h hE
 rw [eval_BinOp]
 refine wpAny_bind (wpAny_mono (h1 C A env m H _ X E s R O hk V I h hE) ?_ fun _ _ x => x)
 rintro v s1 ⟨av, H1, r1, I1, q1⟩
 refine wpAny_bind (wpAny_holding (wpAny_mono (h2 C A env m H1 _ X E s1 R O hk V I1 q1 hE) ?_ fun _ _ x => x))
 rintro w s2 ⟨aw, H2, r2, I2, q2⟩
 exact wpAny_bind (wpAny_standAt (wpAny_operate' (hf C A v w av aw H2 Q E s2 R.u r1 r2 I2 q2)))
noncomputable def CmpOK (S : St) (op : CmpOp) (f : AV → AV → AH → (Bool → AH → Prop) → Prop) : Prop :=
 ∀ (C : Cx) (A : Around) (va vb : Value) (x y : AV) (H : AH) (Q : Bool → AH → Prop) (E : Value → Shared → Prop) (s : Shared), A.units ≤ 9000 → VR va x → VR vb y → Inv S C H s → f x y H Q →
  wpAny S.M A (compareOp op va vb) (fun v s' => ∃ c, v = .bool c ∧ PostB S C Q c s') E s
noncomputable def tCmp (f : AV → AV → AH → (Bool → AH → Prop) → Prop) (t u : Tm) : Tm := fun m H Q X => t m H (fun x H1 => u m H1 (fun y H2 => f x y H2 fun c H3 => Q (.bool c) H3) X) X
noncomputable def tCmpB (f : AV → AV → AH → (Bool → AH → Prop) → Prop) (t u : Tm) : Tb := fun m H Q X => t m H (fun x H1 => u m H1 (fun y H2 => f x y H2 Q) X) X
theorem sE_cmp {l r : Expr} {op : CmpOp} {pos : Pos} {t u : Tm} {f : AV → AV → AH → (Bool → AH → Prop) → Prop} (hf : CmpOK S op f) (h1 : SoundE S b d sc ρ l t) (h2 : SoundE S b d sc ρ r u) (hb : behindInMarks op r = false) :
  SoundE S b d sc ρ (.Compare l [op] [r] pos) (tCmp f t u) := by
 intro C A env m H Q X E s R O hk V I h hE
 rw [eval_Compare1]
 refine wpAny_bind (wpAny_mono (h1 C A env m H _ X E s R O hk V I h hE) ?_ fun _ _ x => x)
 rintro v s1 ⟨av, H1, r1, I1, q1⟩
 rw [markedBehindIn_of_false hb]
 refine wpAny_bind (wpAny_holding (wpAny_mono (h2 C A env m H1 _ X E s1 R O hk V I1 q1 hE) ?_ fun _ _ x => x))
 rintro w s2 ⟨aw, H2, r2, I2, q2⟩
 refine wpAny_bind (wpAny_standAt (wpAny_operate' (wpAny_mono (hf C A v w av aw H2 _ E s2 R.u r1 r2 I2 q2) ?_ fun _ _ x => x)))
 rintro c s3 ⟨cb, rfl, H3, I3, q3⟩
 exact ⟨_, H3, .bool cb, I3, q3⟩
theorem sB_cmp {l r : Expr} {op : CmpOp} {pos : Pos} {t u : Tm} {f : AV → AV → AH → (Bool → AH → Prop) → Prop} (hf : CmpOK S op f) (h1 : SoundE S b d sc ρ l t) (h2 : SoundE S b d sc ρ r u) (hb : behindInMarks op r = false) :
  SoundB S b d sc ρ (.Compare l [op] [r] pos) (tCmpB f t u) := by
 intro C A env m H Q X E s R O hk V I h hE
 rw [isTrue_Compare1]
 refine wpAny_bind (wpAny_mono (h1 C A env m H _ X E s R O hk V I h hE) ?_ fun _ _ x => x)
 rintro v s1 ⟨av, H1, r1, I1, q1⟩
 rw [markedBehindIn_of_false hb]
 refine wpAny_bind (wpAny_holding (wpAny_mono (h2 C A env m H1 _ X E s1 R O hk V I1 q1 hE) ?_ fun _ _ x => x))
 rintro w s2 ⟨aw, H2, r2, I2, q2⟩
 refine wpAny_bind (wpAny_standAt (wpAny_bind (wpAny_operate' (wpAny_mono (hf C A v w av aw H2 _ E s2 R.u r1 r2 I2 q2) ?_ fun _ _ x => x))))
 rintro c s3 ⟨cb, rfl, H3, I3, q3⟩
 exact wpAny_holding (wpAny_truthy_bool ⟨H3, I3, q3⟩)
noncomputable def tNotB (t : Tb) : Tb := fun m H Q X => t m H (fun c H1 => Q (!c) H1) X
theorem sB_not {e : Expr} {pos : Pos} {t : Tb} (h1 : SoundB S b d sc ρ e t) : SoundB S b d sc ρ (.UnaryOp .Not e pos) (tNotB t) := by
 intro C A env m H Q X E s R O hk V I h hE
 show wpAny S.M A (do return !(← isTrue e env (eval e env))) _ E s
 refine wpAny_bind (wpAny_mono (h1 C A env m H _ X E s R O hk V I h hE) ?_ fun _ _ x => x)
 rintro c s1 ⟨H1, I1, q1⟩
 exact wpAny_pure ⟨H1, I1, q1⟩
noncomputable def SoundL (S : St) (b : Bool) (d : Nat) (sc : Kd) (ρ : Rho) (op : BoolOp) (es : List Expr) (t : Tb) : Prop :=
 ∀ (C : Cx) (A : Around) (env : Env) (m : Mp) (H : AH) (Q : Bool → AH → Prop) (X : QX) (E : Value → Shared → Prop) (s : Shared),
  Room b d A → EnvOK S C A env → (∀ x, env.kindOf x = sc x) → EnvRel C env ρ m → Inv S C H s → t m H Q X → ExOK S C X E →
  wpAny S.M A (allTrue op es env) (PostB S C Q) E s
noncomputable def tBoolNil (c : Bool) : Tb := fun _ H Q _ => Q c H
noncomputable def tAndB (t u : Tb) : Tb := fun m H Q X => t m H (fun c H1 => if c = true then u m H1 Q X else Q false H1) X
noncomputable def tOrB (t u : Tb) : Tb := fun m H Q X => t m H (fun c H1 => if c = true then Q true H1 else u m H1 Q X) X
theorem sL_andNil : SoundL S b d sc ρ .And [] (tBoolNil true) := by
 intro C A env m H Q X E s R O hk V I h hE
 exact wpAny_pure ⟨H, I, h⟩
theorem sL_orNil : SoundL S b d sc ρ .Or [] (tBoolNil false) := by
 intro C A env m H Q X E s R O hk V I h hE
 exact wpAny_pure ⟨H, I, h⟩
theorem sL_and {e : Expr} {es : List Expr} {t u : Tb} (h1 : SoundB S b d sc ρ e t) (h2 : SoundL S b d sc ρ .And es u) : SoundL S b d sc ρ .And (e :: es) (tAndB t u) := by
 intro C A env m H Q X E s R O hk V I h hE
 show wpAny S.M A (do match BoolOp.And, ← isTrue e env (eval e env) with | .And, false => pure false | .Or, true => pure true | _, _ => allTrue .And es env) _ E s
 refine wpAny_bind (wpAny_mono (h1 C A env m H _ X E s R O hk V I h hE) ?_ fun _ _ x => x)
 rintro c s1 ⟨H1, I1, q1⟩
 cases c with
 | false => exact wpAny_pure ⟨H1, I1, by simpa using q1⟩
 | true => exact h2 C A env m H1 _ X E s1 R O hk V I1 (by simpa using q1) hE
theorem sL_or {e : Expr} {es : List Expr} {t u : Tb} (h1 : SoundB S b d sc ρ e t) (h2 : SoundL S b d sc ρ .Or es u) : SoundL S b d sc ρ .Or (e :: es) (tOrB t u) := by
 intro C A env m H Q X E s R O hk V I h hE
 show wpAny S.M A (do match BoolOp.Or, ← isTrue e env (eval e env) with | .And, false => pure false | .Or, true => pure true | _, _ => allTrue .Or es env) _ E s
 refine wpAny_bind (wpAny_mono (h1 C A env m H _ X E s R O hk V I h hE) ?_ fun _ _ x => x)
 rintro c s1 ⟨H1, I1, q1⟩
 cases c with
 | true => exact wpAny_pure ⟨H1, I1, by simpa using q1⟩
 | false => exact h2 C A env m H1 _ X E s1 R O hk V I1 (by simpa using q1) hE
theorem sB_boolOp {op : BoolOp} {es : List Expr} {pos : Pos} {t : Tb} (h : SoundL S b d sc ρ op es t) : SoundB S b d sc ρ (.BoolOp op es pos) t := h
inductive IsB (v : AV) (Q : Bool → Prop) : Prop
 | mk (c : Bool) : v = .bool c → Q c → IsB v Q
noncomputable def tTruth (t : Tm) : Tb := fun m H Q X => t m H (fun v H1 => IsB v fun c => Q c H1) X
theorem sB_truth {e : Expr} {t : Tm} (h1 : SoundE S b d sc ρ e t) (he : ∀ env w, isTrue e env w = (do let v ← w; standAt e.pos; holding [v] (truthy v))) : SoundB S b d sc ρ e (tTruth t) := by
 intro C A env m H Q X E s R O hk V I h hE
 rw [he]
 refine wpAny_bind (wpAny_mono (h1 C A env m H _ X E s R O hk V I h hE) ?_ fun _ _ x => x)
 rintro v s1 ⟨av, H1, r1, I1, c, rfl, q1⟩
 cases r1
 exact wpAny_bind (wpAny_standAt (wpAny_holding (wpAny_truthy_bool ⟨H1, I1, q1⟩)))
noncomputable def tIf (c : Tb) (t u : Tm) : Tm := fun m H Q X => c m H (fun x H1 => if x = true then t m H1 Q X else u m H1 Q X) X
theorem sE_if {c p q : Expr} {pos : Pos} {tc : Tb} {t u : Tm} (h1 : SoundB S b d sc ρ c tc) (h2 : SoundE S b d sc ρ p t) (h3 : SoundE S b d sc ρ q u) : SoundE S b d sc ρ (.IfExp c p q pos) (tIf tc t u) := by
 intro C A env m H Q X E s R O hk V I h hE
 show wpAny S.M A (do if ← isTrue c env (eval c env) then eval p env else eval q env) _ E s
 refine wpAny_bind (wpAny_mono (h1 C A env m H _ X E s R O hk V I h hE) ?_ fun _ _ x => x)
 rintro x s1 ⟨H1, I1, q1⟩
 cases x with
 | true => simp only [if_true] at q1 ⊢; exact h2 C A env m H1 _ X E s1 R O hk V I1 q1 hE
 | false => simp only [Bool.false_eq_true, if_false] at q1 ⊢; exact h3 C A env m H1 _ X E s1 R O hk V I1 q1 hE
noncomputable def SoundV (S : St) (b : Bool) (d : Nat) (sc : Kd) (ρ : Rho) (op : BoolOp) (es : List Expr) (t : Tm) : Prop :=
 ∀ (C : Cx) (A : Around) (env : Env) (m : Mp) (H : AH) (Q : QV) (X : QX) (E : Value → Shared → Prop) (s : Shared) (pos : Pos),
  Room b d A → EnvOK S C A env → (∀ x, env.kindOf x = sc x) → EnvRel C env ρ m → Inv S C H s → t m H Q X → ExOK S C X E →
  wpAny S.M A (boolOp pos op (evalEach es env)) (PostV S C Q) E s
noncomputable def tAndV (t u : Tm) : Tm := fun m H Q X => t m H (fun v H1 => IsB v fun c => if c = true then u m H1 Q X else Q (.bool false) H1) X
theorem sV_one {op : BoolOp} {e : Expr} {t : Tm} (h1 : SoundE S b d sc ρ e t) : SoundV S b d sc ρ op [e] t := by
 intro C A env m H Q X E s pos R O hk V I h hE
 exact h1 C A env m H Q X E s R O hk V I h hE
theorem sV_and {e f : Expr} {es : List Expr} {t u : Tm} (h1 : SoundE S b d sc ρ e t) (h2 : SoundV S b d sc ρ .And (f :: es) u) : SoundV S b d sc ρ .And (e :: f :: es) (tAndV t u) := by
 intro C A env m H Q X E s pos R O hk V I h hE
 show wpAny S.M A (do
  let v ← eval e env
  standAt pos
  let t ← holding [v] (truthy v)
  match BoolOp.And, t with
  | .And, false | .Or, true => pure v
  | _, _ => boolOp pos .And (evalEach (f :: es) env)) _ E s
 refine wpAny_bind (wpAny_mono (h1 C A env m H _ X E s R O hk V I h hE) ?_ fun _ _ x => x)
 rintro v s1 ⟨av, H1, r1, I1, c, rfl, q1⟩
 cases r1
 refine wpAny_bind (wpAny_standAt (wpAny_bind (wpAny_holding (wpAny_truthy_bool ?_))))
 cases c with
 | false => exact wpAny_pure ⟨_, H1, .bool false, I1, by simpa using q1⟩
 | true => exact h2 C A env m H1 _ X E s1 pos R O hk V I1 (by simpa using q1) hE
theorem sE_boolOp {op : BoolOp} {es : List Expr} {pos : Pos} {t : Tm} (h : SoundV S b d sc ρ op es t) : SoundE S b d sc ρ (.BoolOp op es pos) t := by
 intro C A env m H Q X E s R O hk V I h' hE
 exact h C A env m H Q X E s pos R O hk V I h' hE
end
end Mine
end
-- text A3
section
namespace Mine
open PySem PySem.Calls PyProof.Rows
noncomputable def hideAll (h : Heap) : List Addr → Heap
 | [] => h
 | a :: r => hideAll (h.hide a) r
theorem of_hideAll : ∀ (l : List Addr) {h : Heap} {b : Addr} {o : Obj}, (hideAll h l).get? b = some o → h.get? b = some o
 | [], _, _, _, e => e
 | _ :: r, _, _, _, e => Heap.of_hide (of_hideAll r e)
theorem hideAll_get : ∀ (l : List Addr) {h : Heap} {b : Addr} {o : Obj}, h.get? b = some o → b ∉ l → (hideAll h l).get? b = some o
 | [], _, _, _, e, _ => e
 | a :: r, h, b, _, e, n => hideAll_get r ((Heap.hide_ne h fun (q : b = a) => n (by rw [q]; exact .head _)).trans e) fun q => n (.tail _ q)
theorem hideAll_none : ∀ (l : List Addr) {h : Heap} {b : Addr}, b ∈ l → (hideAll h l).get? b = none
 | a :: r, h, _, .head _ => by
  cases q : (hideAll h (a :: r)).get? a with
  | none => rfl
  | some o => have := of_hideAll r q; rw [Heap.hide_self] at this; cases this
 | _ :: r, _, _, .tail _ m => hideAll_none r m
section
variable {S : St} {C : Cx} {H : AH} {s : Shared} {A : Around}
theorem FrOK.of_env {env : Env} (O : EnvOK S C A env) : FrOK S C A := ⟨O.stack, O.fun_⟩
theorem FrOK.frames (F : FrOK S C A) (I : Inv S C H s) (l : List Addr) : ∀ {es : List Env}, (∀ e ∈ es, e ∈ C.envs) → (∀ e ∈ es, ∀ L, e.frame = some L → L ∈ l) → s.heap.FunFrames (hideAll s.heap l) es
 | [], _, _ => trivial
 | e :: r, h1, h2 => by
  obtain ⟨k, L, o, hf, hfr, hU, hd⟩ := F.fun_ e (h1 e (.head _))
  refine ⟨k, ?_, FrOK.frames F I l (fun x hx => h1 x (.tail _ hx)) fun x hx => h2 x (.tail _ hx)⟩
  have hn := hideAll_none (h := s.heap) l (h2 e (.head _) L hf)
  rcases I.keep L o hU with q | ⟨_, sl, q⟩
  ·exact ⟨L, o, hf, hn, q, hd⟩
  ·exact ⟨L, _, hf, hn, q, hd⟩
theorem Inv.other (I : Inv S C H s) {s' : Shared} (bad : Addr → Prop) (hb : ∀ a, bad a → S.base.get? a = none ∧ H a = none ∧ C.U a = none)
  (hk : ∀ b o, s.heap.get? b = some o → ¬ bad b → (b ∈ C.fr ∧ C.U b ≠ none) ∨ s'.heap.get? b = some o)
  (hf : ∀ b o, s.heap.get? b = some o → b ∈ C.fr → C.U b ≠ none → ∃ sl, s'.heap.get? b = some { o with slots := sl }) (hg : s'.gens = s.gens) (ho : s'.os = s.os) : Inv S C H s' := by
 have nb : ∀ {a : Addr} {o : Obj}, S.base.get? a = some o → ¬ bad a := fun {a o} e q => by rw [(hb a q).1] at e; cases e
 refine ⟨fun b o e => ?_, fun a o e => ?_, fun a o e => ?_, I.sepH, I.sepU, hg.trans I.gens, ho.trans I.os, I.frU⟩
 ·rcases hk b o (I.base b o e) (nb e) with ⟨_, q⟩ | q
  ·cases hu : C.U b with
   | none => exact absurd hu q
   | some x => rw [I.sepU b x hu] at e; cases e
  ·exact q
 ·have na : ¬ bad a := fun q => by rw [(hb a q).2.2] at e; cases e
  have nU : C.U a ≠ none := by rw [e]; exact fun q => by cases q
  rcases I.keep a o e with q | ⟨q1, sl, q2⟩
  ·rcases hk a o q na with ⟨z, _⟩ | z
   ·obtain ⟨sl, w⟩ := hf a o q z nU
    exact .inr ⟨z, sl, w⟩
   ·exact .inl z
  ·obtain ⟨sl', w⟩ := hf a _ q2 q1 nU
   exact .inr ⟨q1, sl', w⟩
 ·refine (I.objs a o e).of_get fun ob hob => ?_
  have na : ¬ bad a := fun q => by rw [(hb a q).2.1] at e; cases e
  rcases hk a ob hob na with ⟨_, q⟩ | q
  ·exact absurd (I.sepH a o e).1 q
  ·exact q
structure HeldAt (S : St) (C : Cx) (H : AH) (x : Str) (e : Addr) (fl : Value) (s : Shared) : Prop where
 inv : Inv S C H s
 new : S.base.get? e = none ∧ C.U e = none ∧ H e = none
 at_ : ∃ oe vs K T oT ts a0, s.heap.get? e = some oe ∧ S.excs x = some K ∧ oe.cls = .ref K ∧ oe.data = .fields vs ∧ (vs[0]? = some a0 ∧ Ctx x vs) ∧ vs[1]? = some (.ref T) ∧ T ≠ e ∧
  s.heap.get? T = some oT ∧ oT.data = .fields ts ∧ ts[3]? = some fl ∧ S.base.get? T = none ∧ C.U T = none ∧ H T = none
theorem HeldAt.raised {x : Str} {e : Addr} {fl : Value} (h : HeldAt S C H x e fl s) (hfl : fl = .none ∨ ∃ env outer L, C.envs = env :: outer ∧ env.frame = some L ∧ fl = rawInt L) : Raised S C H x (.ref e) s := by
 obtain ⟨oe, vs, K, T, oT, ts, a0, h1, h2, h3, h4, h5, h6, h7, h8, h9, h10, h11, h12, h13⟩ := h.at_
 exact ⟨e, rfl, h.inv, ⟨oe, vs, K, h1, h2, h3, h4, (Array.getElem?_eq_some_iff.mp h6).1, ⟨a0, h5⟩, .inr ⟨T, oT, ts, fl, h6, h7, h8, h9, h10, hfl, h11, h12, h13⟩⟩, h.new⟩
theorem HeldAt.flight {M : Model} {x : Str} {e : Addr} {fl : Value} {E : Value → Shared → Prop} {fr : Option Addr} {Q : Unit → Shared → Prop} (h : HeldAt S C H x e fl s)
  (hQ : ∀ s', HeldAt S C H x e (fr.elim .none fun f => rawInt f) s' → Q () s') : wpAny M A (setFlight (.ref e) fr) Q E s := by
 obtain ⟨oe, vs, K, T, oT, ts, a0, h1, h2, h3, h4, h5, h6, h7, h8, h9, h10, h11, h12, h13⟩ := h.at_
 have hsz3 : 3 < ts.size := (Array.getElem?_eq_some_iff.mp h10).1
 have other : ∀ b, b ≠ T → (s.heap.update T (Obj.mapFields (·.setIfInBounds 3 (fr.elim Value.none fun f => rawInt f)))).get? b = s.heap.get? b := fun b hb => Heap.get?_update_other _ _ (Ne.symm hb)
 unfold setFlight
 refine wpAny_bind (wpAny_field h1 h4 h6 ?_)
 rw [if_pos (show (Value.ref T != Value.none) = true from by simp)]
 refine wpAny_setField h8 h9 hsz3 (hQ _ ⟨?_, h.new, ?_⟩)
 ·refine h.inv.other (fun a => a = T) (fun a q => by subst q; exact ⟨h11, h13, h12⟩) (fun b o e nb => .inr ((other b nb).trans e)) (fun b o e hb hu => ⟨o.slots, ?_⟩) rfl rfl
  exact (other b fun q => by subst q; exact hu h12).trans e
 ·exact ⟨oe, vs, K, T, _, _, a0, (other e (Ne.symm h7)).trans h1, h2, h3, h4, h5, h6, h7, Heap.get?_update_self _ h8 (Obj.isFreed_of_fields (Obj.data_mapFields h9 _)), Obj.data_mapFields h9 _, by simp [hsz3], h11, h12, h13⟩
noncomputable def Same2 (e : Addr) (vs : Array Value) (h' : Heap) : Prop := ∀ oe' vs', h'.get? e = some oe' → oe'.data = .fields vs' → vs'[2]? = vs[2]?
theorem entry2 {M : Model} {E : Value → Shared → Prop} {base : Heap} {env : Env} {outer : List Env} {L e : Addr} {oe : Obj} {vs : Array Value} {head a0 : Value} {hadNext : Bool} {Q : Unit → Shared → Prop}
  (hfr : A.frames = some (env :: outer)) (hl : s.heap.FunFrames base (env :: outer)) (hf : env.frame = some L) (he : s.heap.get? e = some oe) (hkb : base.StaysIn s.heap) (hen : base.get? e = none) (hd : oe.data = .fields vs) (hsz : 1 < vs.size) (h0 : vs[0]? = some a0)
  (h : ∀ h', Heap.NotedW base (env :: outer) e oe.cls a0 (rawInt L) s.heap h' → Same2 e vs h' → Q () { s with heap := h' }) :
  wpAny M A (do let a ← frameOf env; let pl ← entryPlaceOf L hadNext; let b ← EntryCells.newEntry head a .none (rawInt L) .none pl; setField (.ref e) 1 b) Q E s := by
 have far : e ∉ (env :: outer).filterMap (·.frame) := fun hm => by
  obtain ⟨_, o, ho, hnf⟩ := hl.mem hm
  rw [he] at ho; cases ho; exact hnf vs hd
 refine wpAny_bind (wpAny_frameOf_fun hfr hl hf fun g1 hg => wpAny_bind (wpAny_entryPlaceOf fun pl hpl => ?_))
 unfold EntryCells.newEntry newFields
 refine wpAny_bind (wpAny_newObj_type ?_ (hpl.sizeOk5 _ _ _ _ _))
 have e1 : g1.get? e = some oe := (hg.2.1 e far).trans he
 have b1 : base.StaysIn g1 := fun b o q => (hg.2.1 b fun hm => by rw [(hl.mem hm).1] at q; cases q).trans (hkb b o q)
 generalize hob : ({ cls := .type "traceback", dict := none, data := .fields ([head, .ref L, .none, rawInt L, .none] ++ (if pl.isEmpty then List.replicate 6 Value.none else pl)).toArray } : Obj) = ob
 have e2 := Heap.get?_push_of_some (h := g1) ob e1
 refine wpAny_setField e2 hd hsz ?_
 have nTe : g1.objs.size ≠ e := Nat.ne_of_gt (Heap.lt_size e1)
 have d3 := Obj.data_mapFields hd (·.setIfInBounds 1 (Value.ref g1.objs.size))
 have e3 := Heap.get?_update_self (Obj.mapFields (·.setIfInBounds 1 (Value.ref g1.objs.size))) e2 (Obj.isFreed_of_fields d3)
 have t3 := (Heap.get?_update_other (g1.push ob) (Obj.mapFields (·.setIfInBounds 1 (Value.ref g1.objs.size))) (Ne.symm nTe)).trans (Heap.get?_push_size g1 (by rw [← hob]; rfl))
 have keep : ∀ b o, b ≠ e → g1.get? b = some o → ((g1.push ob).update e (Obj.mapFields (·.setIfInBounds 1 (Value.ref g1.objs.size)))).get? b = some o := fun b o n q =>
  (Heap.get?_update_other _ _ (Ne.symm n)).trans (Heap.get?_push_of_some _ q)
 have rec_ : ∀ b o, s.heap.get? b = some o → (∀ vs, o.data ≠ .fields vs) → b ≠ e := fun b o q hnf z => by
  rw [z, he] at q; cases q; exact hnf vs hd
 refine h _ ⟨fun b o q => keep b o (fun z => by rw [z, hen] at q; cases q) (b1 b o q), hl.of_keeps fun b o q hnf => ?_, ?_, fun b o q hnf => ?_⟩ fun oe' vs' q1 q2 => ?_
 ·obtain ⟨sl, z⟩ := hg.2.2 b o q
  exact ⟨_, keep b _ (rec_ b o q hnf) z, rfl⟩
 ·refine ⟨_, _, g1.objs.size, _, _, e3, ⟨Obj.cls_mapFields _ _, by rw [Array.getElem?_setIfInBounds_ne (by decide)]; exact h0⟩, d3, by simp [hsz], b1.fresh, nTe, t3, by rw [← hob], ?_⟩
  rcases hpl with rfl | ⟨_, _, _, _, _, _, _, rfl⟩ <;> simp
 ·obtain ⟨sl, z⟩ := hg.2.2 b o q
  exact ⟨sl, keep b _ (rec_ b o q hnf) z⟩
 ·dsimp only at q1
  rw [e3] at q1; cases q1
  rw [d3] at q2; cases q2
  rw [Array.getElem?_setIfInBounds_ne (by decide)]
theorem note_on2 {M : Model} {E : Value → Shared → Prop} {base : Heap} {env : Env} {outer : List Env} {L e : Addr} {cls a0 : Value} {oe0 : Obj} {vs : Array Value} {Q : Unit → Shared → Prop}
  (hfr : A.frames = some (env :: outer)) (hl : s.heap.FunFrames base (env :: outer)) (hf : env.frame = some L) (ht : s.heap.TracedW base e cls a0) (hkb : base.StaysIn s.heap) (hen : base.get? e = none) (he0 : s.heap.get? e = some oe0) (hd0 : oe0.data = .fields vs)
  (h : ∀ h', Heap.NotedW base (env :: outer) e cls a0 (rawInt L) s.heap h' → Same2 e vs h' → Q () { s with heap := h' }) : wpAny M A (noteFrame (.ref e) env) Q E s := by
 obtain ⟨oe, vs1, T, oT, ts, he, ⟨hcls, h0⟩, hd, h1, hnT, hTe, hT, hdT, h3⟩ := ht
 rw [he] at he0; cases he0
 rw [hd] at hd0; cases hd0
 subst hcls
 have other : ∀ b, b ≠ T → (s.heap.update T (Obj.mapFields (·.setIfInBounds 3 Value.none))).get? b = s.heap.get? b := fun b n => Heap.get?_update_other _ _ (Ne.symm n)
 have far : ∀ b o, s.heap.get? b = some o → (∀ vs, o.data ≠ .fields vs) → b ≠ T := fun b o q hnf z => by
  rw [z, hT] at q; cases q; exact hnf ts hdT
 unfold noteFrame
 simp only [hf]
 refine wpAny_bind (wpAny_field he hd h1 ?_)
 rw [if_pos (show (Value.ref T != Value.none) = true from by simp)]
 refine wpAny_bind (wpAny_field hT hdT h3 ?_)
 rw [if_neg (show ¬ ((Value.none == rawInt L) = true) from by simp [rawInt])]
 refine wpAny_bind (wpAny_setField hT hdT (Array.getElem?_eq_some_iff.mp h3).1 ?_)
 exact entry2 hfr (hl.of_keeps fun b o q hnf => ⟨o, (other b (far b o q hnf)).trans q, rfl⟩) hf ((other e (Ne.symm hTe)).trans he) (fun b o q => (other b fun z => by rw [z, hnT] at q; cases q).trans (hkb b o q)) hen hd (Array.getElem?_eq_some_iff.mp h1).1 h0
  fun h' ⟨x1, x2, x3, x4⟩ hS => h h' ⟨x1, x2, x3, fun b o q hnf => x4 b o ((other b (far b o q hnf)).trans q) hnf⟩ hS
theorem Raised.note {M : Model} {x : Str} {v : Value} {env : Env} {outer : List Env} {L : Addr} {E : Value → Shared → Prop} {Q : Unit → Shared → Prop} (h : Raised S C H x v s) (F : FrOK S C A)
  (hc : C.envs = env :: outer) (hf : env.frame = some L) (hQ : ∀ e s', v = .ref e → HeldAt S C H x e (rawInt L) s' → Q () s') : wpAny M A (noteFrame v env) Q E s := by
 obtain ⟨e, rfl, I, ⟨oe, vs, K, h1, h2, h3, h4, hsz, ⟨a0, h5, hcx⟩, tb⟩, new⟩ := h
 have hfr : A.frames = some (env :: outer) := hc ▸ F.stack
 have fin : ∀ (T0 : Addr) (h' : Heap), (S.base.get? T0 = none ∧ H T0 = none ∧ C.U T0 = none) →
   Heap.NotedW (hideAll s.heap (e :: T0 :: C.envs.filterMap (·.frame))) (env :: outer) e oe.cls a0 (rawInt L) s.heap h' → Same2 e vs h' → Q () { s with heap := h' } := by
  intro T0 h' hT0 hN hS
  obtain ⟨k1, k2, ⟨oe', vs', T, oT, ts, e1, ⟨e2, e3⟩, e4, e5, e6, e7, e8, e9, e10⟩, k4⟩ := hN
  have inB : ∀ b o, s.heap.get? b = some o → b ≠ e → b ≠ T0 → b ∉ C.envs.filterMap (·.frame) → (hideAll s.heap (e :: T0 :: C.envs.filterMap (·.frame))).get? b = some o := fun b o q n1 n2 n3 => by
   refine hideAll_get _ q fun hm => ?_
   rcases List.mem_cons.mp hm with z | hm
   ·exact n1 z
   ·rcases List.mem_cons.mp hm with z | hm
    ·exact n2 z
    ·exact n3 hm
  have frs : ∀ b, b ∈ C.envs.filterMap (·.frame) → b ∈ C.fr ∧ C.U b ≠ none := fun b hb => by
   obtain ⟨en, hen, hb⟩ := List.mem_filterMap.mp hb
   obtain ⟨_, L', o', hf', hfr', hU', _⟩ := F.fun_ en hen
   rw [hf'] at hb; cases hb
   exact ⟨hfr', by rw [hU']; exact fun q => by cases q⟩
  have J : Inv S C H { s with heap := h' } := by
   refine I.other (fun a => a = e ∨ a = T0) (fun a q => ?_) (fun b o q nb => ?_) (fun b o q hb hu => ?_) rfl rfl
   ·rcases q with q | q
    ·subst q; exact ⟨new.1, new.2.2, new.2.1⟩
    ·subst q; exact hT0
   ·by_cases hm : b ∈ C.envs.filterMap (·.frame)
    ·exact .inl (frs b hm)
    ·exact .inr (k1 b o (inB b o q (fun z => nb (.inl z)) (fun z => nb (.inr z)) hm))
   ·by_cases hd : ∀ ws, o.data ≠ .fields ws
    ·exact k4 b o q hd
    ·have hm : b ∉ C.envs.filterMap (·.frame) := fun hm => by
      obtain ⟨en, hen, hb'⟩ := List.mem_filterMap.mp hm
      obtain ⟨_, L', o', hf', hfr', hU', hd'⟩ := F.fun_ en hen
      rw [hf'] at hb'; cases hb'
      rcases I.keep _ _ hU' with w | ⟨_, sl, w⟩
      ·rw [q] at w; cases w; exact hd hd'
      ·rw [q] at w; cases w; exact hd hd'
     refine ⟨o.slots, k1 b o (inB b o q (fun z => ?_) (fun z => ?_) hm)⟩
     ·subst z; exact hu new.2.1
     ·subst z; exact hu hT0.2.2
  have notFr : T ∉ C.envs.filterMap (·.frame) := fun hm => by
   obtain ⟨q1, q2⟩ := k2.mem (hc ▸ hm)
   obtain ⟨o', ho', hd'⟩ := q2
   rw [e8] at ho'; cases ho'; exact hd' _ e9
  have freshT : ∀ o, s.heap.get? T = some o → T = T0 := fun o q => by
   by_cases z : T = T0
   ·exact z
   ·have := inB T o q e7 z notFr
    rw [e6] at this; cases this
  have tb0 : S.base.get? T = none := by
   cases q : S.base.get? T with
   | none => rfl
   | some o => have z := freshT o (I.base _ _ q); subst z; rw [hT0.1] at q; cases q
  have tbU : C.U T = none := by
   cases q : C.U T with
   | none => rfl
   | some o => obtain ⟨ob, z⟩ := (I.keep _ _ q).there; have z := freshT ob z; subst z; rw [hT0.2.2] at q; cases q
  have tbH : H T = none := by
   cases q : H T with
   | none => rfl
   | some o =>
    have y := I.objs _ _ q
    cases hs : isScript o with
    | false => obtain ⟨ob, z⟩ := y.there hs; have z := freshT ob z; subst z; rw [hT0.2.1] at q; cases q
    | true =>
     cases o with
     | script ns => obtain ⟨ws, ⟨ob, w, _⟩, _⟩ := y; rw [tb0] at w; cases w
     | _ => cases hs
  exact hQ e _ rfl ⟨J, new, oe', vs', K, T, oT, ts, a0, e1, h2, e2.trans h3, e4, ⟨e3, fun n => (hS oe' vs' e1 e4).trans (hcx n)⟩, e5, e7, e8, e9, e10, tb0, tbU, tbH⟩
 rcases tb with t1 | ⟨T, oT, ts, fl, t1, t2, t3, t4, t5, t6, t7, t8, t9⟩
 ·-- just made
  have hn : S.base.get? e = none ∧ H e = none ∧ C.U e = none := ⟨new.1, new.2.2, new.2.1⟩
  unfold noteFrame
  simp only [hf]
  refine wpAny_bind (wpAny_field h1 h4 t1 ?_)
  rw [if_neg (by decide)]
  refine entry2 hfr (F.frames I _ (fun en h => hc ▸ h) fun en h L' h' => ?_) hf h1 (fun b o q => of_hideAll _ q) (hideAll_none _ (.head _)) h4 hsz h5 fun h' hN hS => fin e h' hn hN hS
  exact .tail _ (.tail _ (List.mem_filterMap.mpr ⟨en, hc ▸ h, h'⟩))
 ·rcases t6 with rfl | ⟨env', outer', L', q1, q2, rfl⟩
  ·refine note_on2 (vs := vs) (base := hideAll s.heap (e :: T :: C.envs.filterMap (·.frame))) (cls := oe.cls) (a0 := a0) hfr (F.frames I _ (fun en h => hc ▸ h) fun en h L' h' => ?_) hf
    ⟨oe, vs, T, oT, ts, h1, ⟨rfl, h5⟩, h4, t1, hideAll_none _ (.tail _ (.head _)), t2, t3, t4, t5⟩ (fun b o q => of_hideAll _ q) (hideAll_none _ (.head _)) h1 h4 fun h' hN hS => fin T h' ⟨t7, t9, t8⟩ hN hS
   exact .tail _ (.tail _ (List.mem_filterMap.mpr ⟨en, hc ▸ h, h'⟩))
  ·rw [hc] at q1; cases q1
   rw [hf] at q2; cases q2
   exact wpAny_noteFrame_againW (base := hideAll s.heap [T]) (cls := oe.cls) (a0 := a0) hf ⟨oe, vs, T, oT, ts, h1, ⟨rfl, h5⟩, h4, t1, hideAll_none _ (.head _), t2, t3, t4, t5⟩
    (hQ e _ rfl ⟨I, new, oe, vs, K, T, oT, ts, a0, h1, h2, h3, h4, ⟨h5, hcx⟩, t1, t2, t3, t4, t5, t7, t8, t9⟩)
theorem Raised.leaves {M : Model} {x : Str} {v : Value} {env : Env} {outer : List Env} {L : Addr} {E : Value → Shared → Prop} {Q : Unit → Shared → Prop} (h : Raised S C H x v s) (F : FrOK S C A)
  (hc : C.envs = env :: outer) (hf : env.frame = some L) (hQ : ∀ e s', v = .ref e → HeldAt S C H x e .none s' → Q () s') : wpAny M A (leaving env v) Q E s := by
 unfold leaving
 refine wpAny_bind (h.note F hc hf fun e s' hv hh => ?_)
 subst hv
 exact hh.flight fun s'' h'' => hQ e s'' rfl h''
theorem Raised.through {M : Model} {x : Str} {v : Value} {env : Env} {outer : List Env} {L : Addr} {E : Value → Shared → Prop} (h : Raised S C H x v s) (F : FrOK S C A)
  (hc : C.envs = env :: outer) (hf : env.frame = some L) (hQ : ∀ s', Raised S C H x v s' → E v s') : notedBy M A env (cameBackBy M A env E) v s := by
 unfold notedBy
 refine h.note F hc hf fun e s' hv hh => ?_
 subst hv
 unfold cameBackBy
 obtain ⟨oe, vs, K, T, oT, ts, a0, h1, h2, h3, h4, h5, h6, h7⟩ := hh.at_
 refine wpAny_bind (wpAny_field h1 h4 h6 ?_)
 rw [if_neg (show ¬ ((Value.ref T == Value.none) = true) from by simp)]
 rw [hf]
 exact hh.flight fun s'' h'' => hQ s'' (h''.raised (.inr ⟨env, outer, L, hc, hf, rfl⟩))
end
end Mine
end
-- text A4
section
namespace Mine
open PySem PySem.Calls PyProof.Rows
section
variable {S : St} {C : Cx} {H : AH} {s : Shared} {A : Around} {env : Env} {ρ : Rho} {m : Mp}
theorem NsObj.uniq {o : Obj} {m m' : Str → Option Value} (x : NsObj o m) (y : NsObj o m') : m = m' := by
 obtain ⟨es, ep, h1, h2, h3⟩ := x
 obtain ⟨es', ep', k1, k2, k3⟩ := y
 rw [h1] at k1; cases k1
 funext n; rw [← h3, ← k3]
theorem store_nm {x : Str} {i : Nat} {v : Value} {av : AV} {M : Model} {E : Value → Shared → Prop} (O : EnvOK S C A env) (R : EnvRel C env ρ m) (I : Inv S C H s) (hρ : RhoOK ρ) (hx : (x, i) ∈ ρ) (hv : VR v av)
  (hk : env.kindOf x = some .local ∨ env.kindOf x = some .cell) :
  wpAny M A (storeName env x v) (fun _ s' => ∃ C' a o', ((env.kindOf x = some .local ∧ a = env.locals) ∨ (env.kindOf x = some .cell ∧ env.cells.lookup x = some a)) ∧ C' = C.hide a o' ∧ EnvOK S C' A env ∧ EnvRel C' env ρ (m.upd i av) ∧ Inv S C' H s') E s := by
 rcases hk with hk | hk
 ·obtain ⟨o, m₀, hU, hN⟩ := O.loc
  have hns : s.heap.Ns env.locals m₀ := by
   obtain ⟨es, ep, hd, r1, r2⟩ := id hN
   rcases I.keep _ _ hU with e | ⟨_, sl, e⟩
   ·exact ⟨o, es, ep, e, hd, r1, r2⟩
   ·exact ⟨_, es, ep, e, hd, r1, r2⟩
  refine wpAny_storeName_local hk hns (fun h' hn hs => ?_) (by rw [O.kind]; rfl)
  obtain ⟨o', es', ep', ho', hd', sk', hf'⟩ := hn
  have N' : NsObj o' (fun y => if y = x then some v else m₀ y) := ⟨es', ep', hd', sk', hf'⟩
  refine ⟨C.hide env.locals o', env.locals, o', .inl ⟨hk, rfl⟩, rfl, ⟨O.kind, O.glob, O.blt, O.cells, fun y c hc => ?_, O.apart, ⟨o', _, Cx.hide_self .., N'⟩, O.stack, fun en he => ?_⟩, fun y j w hy hw => ?_, ?_⟩
  ·obtain ⟨h1, h2, o2, v2, h3, h4⟩ := O.cellU y c hc
   exact ⟨h1, h2, o2, v2, (Cx.hide_ne _ _ h1).trans h3, h4⟩
  ·obtain ⟨h1, L, o2, h2, h3, h4, h5⟩ := O.fun_ en he
   by_cases q : L = env.locals
   ·exact ⟨h1, L, o', h2, h3, by rw [q]; exact Cx.hide_self .., fun vs z => by rw [hd'] at z; cases z⟩
   ·exact ⟨h1, L, o2, h2, h3, (Cx.hide_ne _ _ q).trans h4, h5⟩
  ·by_cases q : j = i
   ·have e : y = x := ((hρ _ hy _ hx).mpr q)
    subst e; subst q
    rw [Mp.upd_self] at hw; cases hw
    exact ⟨v, hv, .inl ⟨hk, o', _, Cx.hide_self .., N', if_pos rfl⟩⟩
   ·rw [Mp.upd_ne _ _ q] at hw
    have e : y ≠ x := fun z => q ((hρ _ hy _ hx).mp z)
    obtain ⟨cv, h1, V⟩ := R y j w hy hw
    refine ⟨cv, h1, ?_⟩
    rcases V with ⟨k1, o2, m2, k2, k3, k4⟩ | ⟨k1, c, o2, k2, k3, k4⟩
    ·rw [hU] at k2; cases k2
     rw [k3.uniq hN] at k4
     exact .inl ⟨k1, o', _, Cx.hide_self .., N', by simp only [if_neg e]; exact k4⟩
    ·exact .inr ⟨k1, c, o2, k2, (Cx.hide_ne _ _ (O.cellU y c k2).1).trans k3, k4⟩
  ·exact I.turn hU (fun b ob hb e => (hs.2 b hb).trans e) ho' rfl rfl
 ·obtain ⟨c, hc⟩ := O.cells x (.inl hk)
  obtain ⟨h1, h2, o, v₀, hU, hd⟩ := O.cellU x c hc
  have hcell : s.heap.IsCell c v₀ := by
   rcases I.keep _ _ hU with e | ⟨_, sl, e⟩
   ·exact ⟨o, e, hd⟩
   ·exact ⟨_, e, hd⟩
  refine wpAny_storeName_cell O.kind hk hc hcell fun h' hn hs => ?_
  obtain ⟨o', ho', hd'⟩ := hn
  refine ⟨C.hide c o', c, o', .inr ⟨hk, hc⟩, rfl, ⟨O.kind, O.glob, O.blt, O.cells, fun y c' hc' => ?_, O.apart, ?_, O.stack, fun en he => ?_⟩, fun y j w hy hw => ?_, ?_⟩
  ·obtain ⟨k1, k2, o2, v2, k3, k4⟩ := O.cellU y c' hc'
   by_cases q : c' = c
   ·subst q; exact ⟨k1, k2, o', _, Cx.hide_self .., hd'⟩
   ·exact ⟨k1, k2, o2, v2, (Cx.hide_ne _ _ q).trans k3, k4⟩
  ·obtain ⟨o2, m2, k1, k2⟩ := O.loc
   exact ⟨o2, m2, (Cx.hide_ne _ _ (Ne.symm h1)).trans k1, k2⟩
  ·obtain ⟨k1, L, o2, k2, k3, k4, k5⟩ := O.fun_ en he
   exact ⟨k1, L, o2, k2, k3, (Cx.hide_ne _ _ fun q => h2 (by rw [← q]; exact k3)).trans k4, k5⟩
  ·by_cases q : j = i
   ·have e : y = x := ((hρ _ hy _ hx).mpr q)
    subst e; subst q
    rw [Mp.upd_self] at hw; cases hw
    exact ⟨v, hv, .inr ⟨.inl hk, c, o', hc, Cx.hide_self .., hd'⟩⟩
   ·rw [Mp.upd_ne _ _ q] at hw
    have e : y ≠ x := fun z => q ((hρ _ hy _ hx).mp z)
    obtain ⟨cv, h3, V⟩ := R y j w hy hw
    refine ⟨cv, h3, ?_⟩
    rcases V with ⟨k1, o2, m2, k2, k3, k4⟩ | ⟨k1, c', o2, k2, k3, k4⟩
    ·exact .inl ⟨k1, o2, m2, (Cx.hide_ne _ _ (Ne.symm h1)).trans k2, k3, k4⟩
    ·have hcc : c' ≠ c := fun z => e (O.apart y x c (z ▸ k2) hc)
     exact .inr ⟨k1, c', o2, k2, (Cx.hide_ne _ _ hcc).trans k3, k4⟩
  ·exact I.turn hU (fun b ob hb e => (hs.2 b hb).trans e) ho' rfl rfl
theorem store_var {x : Str} {i : Nat} {v : Value} {av : AV} {M : Model} {E : Value → Shared → Prop} (O : EnvOK S C A env) (R : EnvRel C env ρ m) (I : Inv S C H s) (hρ : RhoOK ρ) (hx : (x, i) ∈ ρ) (hv : VR v av)
  (hk : env.kindOf x = some .local ∨ env.kindOf x = some .cell) :
  wpAny M A (bindName env x v) (fun _ s' => ∃ C' a o', ((env.kindOf x = some .local ∧ a = env.locals) ∨ (env.kindOf x = some .cell ∧ env.cells.lookup x = some a)) ∧ C' = C.hide a o' ∧ EnvOK S C' A env ∧ EnvRel C' env ρ (m.upd i av) ∧ Inv S C' H s') E s :=
 wpAny_bindName (store_nm O R I hρ hx hv hk)
theorem FUpd.stored {C C' : Cx} {x : Str} {a : Addr} {o' : Obj} (h : (env.kindOf x = some .local ∧ a = env.locals) ∨ (env.kindOf x = some .cell ∧ env.cells.lookup x = some a)) (e : C' = C.hide a o') : FUpd env C C' := by
 subst e
 refine ⟨rfl, rfl, fun b h1 h2 => Cx.hide_ne _ _ fun q => ?_⟩
 rcases h with ⟨_, h⟩ | ⟨_, h⟩
 ·exact h1 (q.trans h)
 ·exact h2 x (by rw [q]; exact h)
end
section
variable {S : St} {b : Bool} {d : Nat} {sc : Kd} {ρ : Rho}
noncomputable def SoundT (S : St) (b : Bool) (d : Nat) (sc : Kd) (ρ : Rho) (st : Stmt) (t : Ts) : Prop :=
 ∀ (C : Cx) (A : Around) (env : Env) (m : Mp) (H : AH) (QN : Mp → AH → Prop) (QR : QV) (X : QX) (E : Value → Shared → Prop) (s : Shared),
  Room b d A → EnvOK S C A env → (∃ outer, C.envs = env :: outer) → (∀ x, env.kindOf x = sc x) → EnvRel C env ρ m → Inv S C H s → t m H QN QR X → ExOKS S C A env X E →
  wpAny S.M A (exec st env) (PostS S C A env ρ QN QR) E s
theorem ExOKS.at {C C' : Cx} {A : Around} {env : Env} {X : QX} {E : Value → Shared → Prop} (h : ExOKS S C A env X E) (f : FUpd env C C') : ExOKS S C' A env X E := fun C'' x H' v s' f' hf hx r => h C'' x H' v s' (f.trans f') hf hx r
theorem ExOKS.ex {C : Cx} {A : Around} {env : Env} {X : QX} {E : Value → Shared → Prop} (h : ExOKS S C A env X E) (O : EnvOK S C A env) : ExOK S C X E := fun x H' v s' hx r => h C x H' v s' (.refl env C) O hx r
noncomputable def tSkip : Ts := fun m H QN _ _ => QN m H
noncomputable def tSeq (t u : Ts) : Ts := fun m H QN QR X => t m H (fun m1 H1 => u m1 H1 QN QR X) QR X
theorem sS_nil : SoundS S b d sc ρ [] tSkip := by
 intro C A env m H QN QR X E s R O hc hk V I h hE
 exact wpAny_execs_nil ⟨C, H, .refl env C, I, m, O, V, h⟩
theorem sS_cons {st : Stmt} {rest : List Stmt} {t u : Ts} (h1 : SoundT S b d sc ρ st t) (h2 : SoundS S b d sc ρ rest u) : SoundS S b d sc ρ (st :: rest) (tSeq t u) := by
 intro C A env m H QN QR X E s R O hc hk V I h hE
 refine wpAny_execs_cons (wpAny_mono (h1 C A env m H _ QR X E s R O hc hk V I h hE) ?_ fun _ _ x => x)
 rintro f s1 ⟨C1, H1, f1, I1, p⟩
 cases f with
 | next =>
  obtain ⟨m1, O1, V1, q1⟩ := p
  refine wpAny_mono (h2 C1 A env m1 H1 QN QR X E s1 R O1 (by rw [f1.envs]; exact hc) hk V1 I1 q1 (hE.at f1)) ?_ fun _ _ x => x
  rintro f2 s2 ⟨C2, H2, f2', I2, p2⟩
  exact ⟨C2, H2, f1.trans f2', I2, p2⟩
 | ret v => exact ⟨C1, H1, f1, I1, p⟩
 | brk => exact p.elim
 | cont => exact p.elim
noncomputable def tAssign (i : Nat) (t : Tm) : Ts := fun m H QN _ X => t m H (fun v H1 => QN (m.upd i v) H1) X
theorem sT_assign {x : Str} {i : Nat} {e : Expr} {p pos : Pos} {t : Tm} (h1 : SoundE S b d sc ρ e t) (hρ : RhoOK ρ) (hx : ρ.lookup x = some i) (hk : sc x = some .local ∨ sc x = some .cell)
  (hs : ∀ env, swapsWith e (some (.Name x p)) pos.line env = pure false) : SoundT S b d sc ρ (.Assign [.Name x p] e pos) (tAssign i t) := by
 intro C A env m H QN QR X E s R O hc hk' V I h hE
 rw [exec_Assign_Name env x p e pos (hs env)]
 refine wpAny_bind (wpAny_standAt (wpAny_bind (wpAny_mono (h1 C A env m H _ X E s R O hk' V I h (hE.ex O)) ?_ fun _ _ x => x)))
 rintro v s1 ⟨av, H1, r1, I1, q1⟩
 refine wpAny_bind (wpAny_standAt (wpAny_bind (wpAny_mono (store_var O V I1 hρ (mem_of_lookup hx) r1 (by rw [hk']; exact hk)) ?_ fun _ _ x => x)))
 rintro _ s2 ⟨C2, a2, o2, w2, e2, O2, V2, I2⟩
 exact wpAny_pure ⟨C2, H1, .stored w2 e2, I2, _, O2, V2, q1⟩
noncomputable def tRet (t : Tm) : Ts := fun m H _ QR X => t m H QR X
theorem sT_ret {e : Expr} {pos : Pos} {t : Tm} (h1 : SoundE S b d sc ρ e t) : SoundT S b d sc ρ (.Return (some e) pos) (tRet t) := by
 intro C A env m H QN QR X E s R O hc hk' V I h hE
 refine wpAny_Return_some (wpAny_mono (h1 C A env m H _ X E s R O hk' V I h (hE.ex O)) ?_ fun _ _ x => x)
 rintro v s1 ⟨av, H1, r1, I1, q1⟩
 exact ⟨C, H1, .refl env C, I1, O, av, r1, q1⟩
noncomputable def tIte (c : Tb) (t u : Ts) : Ts := fun m H QN QR X => c m H (fun x H1 => if x = true then t m H1 QN QR X else u m H1 QN QR X) X
theorem sT_if {c : Expr} {bd el : List Stmt} {pos : Pos} {tc : Tb} {t u : Ts} (h1 : SoundB S b d sc ρ c tc) (h2 : SoundS S b d sc ρ bd t) (h3 : SoundS S b d sc ρ el u) : SoundT S b d sc ρ (.If c bd el pos) (tIte tc t u) := by
 intro C A env m H QN QR X E s R O hc hk' V I h hE
 rw [exec_If]
 refine wpAny_bind (wpAny_standAt (wpAny_bind (wpAny_mono (h1 C A env m H _ X E s R O hk' V I h (hE.ex O)) ?_ fun _ _ x => x)))
 rintro x s1 ⟨H1, I1, q1⟩
 cases x with
 | true => simp only [if_true] at q1 ⊢; exact h2 C A env m H1 QN QR X E s1 R O hc hk' V I1 q1 hE
 | false => simp only [Bool.false_eq_true, if_false] at q1 ⊢; exact h3 C A env m H1 QN QR X E s1 R O hc hk' V I1 q1 hE
noncomputable def tExpr (t : Tm) : Ts := fun m H QN _ X => t m H (fun v H1 => (∀ a, v ≠ .ref a) ∧ QN m H1) X
theorem sT_expr {e : Expr} {pos : Pos} {t : Tm} (h1 : SoundE S b d sc ρ e t) (hs : ∀ env, swapsWith e none pos.line env = pure false) : SoundT S b d sc ρ (.Expr e pos) (tExpr t) := by
 intro C A env m H QN QR X E s R O hc hk' V I h hE
 have hi : interactive env = false := by unfold interactive; rw [O.kind]; rfl
 rw [exec_Expr env e pos hi (hs env)]
 refine wpAny_bind (wpAny_standAt (wpAny_bind (wpAny_mono (h1 C A env m H _ X E s R O hk' V I h (hE.ex O)) ?_ fun _ _ x => x)))
 rintro v s1 ⟨av, H1, r1, I1, q0, q1⟩
 rw [dropValue_plain fun a z => by subst z; cases r1; exact q0 a rfl]
 exact wpAny_pure ⟨C, H1, .refl env C, I1, m, O, V, q1⟩
end
structure StOK (S : St) : Prop where
 g : S.base.Ns mainGlobals S.mg
 b : S.base.Ns builtinsNs S.mb
 nolimit : S.base.NoLimit
 sys : ∃ o, S.base.get? sysModules = some o
noncomputable def IsDef (S : St) (f : Addr) (name : Str) (ps : List Str) (sc : Scope) (body : List Stmt) : Prop :=
 ∃ o fd, S.base.get? f = some o ∧ o.data = .func fd ∧ fd.body = .stmts body ∧ fd.scope = sc ∧ fd.closure = [] ∧ fd.globals = mainGlobals ∧ fd.builtins = builtinsNs ∧ S.base.CodeRec fd.code fd.qualname ∧
  (∀ vals : List Value, vals.length = ps.length → bindArgs fd ⟨vals, []⟩ = pure (ps.zip vals)) ∧ fd.name = name
noncomputable def mapOf : List Nat → List AV → Mp
 | i :: is, v :: vs => (mapOf is vs).upd i v
 | _, _ => fun _ => none
noncomputable def mkFn (is : List Nat) (t : Ts) : Fn := fun vs H Q X => vs.length = is.length ∧ t (mapOf is vs) H (fun _ H1 => Q .none H1) Q X
section
variable {S : St} {b : Bool} {d : Nat} {ρ : Rho}
theorem cellsFrom_mem {n : Nat} : ∀ {names : List (Str × NameKind)} {acc : List (Str × Addr)} {x : Str}, names.lookup x = some .cell ∨ (acc.lookup x).isSome = true → ((cellsFrom n names acc).lookup x).isSome = true := by
 intro names
 induction names generalizing n with
 | nil => intro acc x h; exact h.elim (fun e => by cases e) id
 | cons p r ih =>
  obtain ⟨y, k⟩ := p
  intro acc x h
  unfold cellsFrom
  by_cases hk : (k == NameKind.cell) = true
  ·rw [if_pos hk]
   refine ih ?_
   by_cases hy : (x == y) = true
   ·exact .inr (by rw [List.lookup_cons, hy]; rfl)
   ·refine h.imp (fun e => ?_) fun e => ?_
    ·rw [List.lookup_cons] at e; simpa only [hy] using e
    ·rw [List.lookup_cons]; simpa only [hy] using e
  ·rw [if_neg hk]
   refine ih ?_
   by_cases hy : (x == y) = true
   ·refine .inr (h.elim (fun e => ?_) id)
    rw [List.lookup_cons, hy] at e
    exact absurd (by rw [Option.some.inj e]; rfl) hk
   ·refine h.imp (fun e => ?_) id
    rw [List.lookup_cons] at e; simpa only [hy] using e
theorem cellsFrom_kind {n : Nat} : ∀ {names : List (Str × NameKind)} {acc : List (Str × Addr)} {x : Str} {c : Addr}, (x, c) ∈ cellsFrom n names acc → (x, c) ∈ acc ∨ (x, NameKind.cell) ∈ names := by
 intro names
 induction names generalizing n with
 | nil => intro acc x c h; exact .inl h
 | cons p r ih =>
  obtain ⟨y, k⟩ := p
  intro acc x c h
  unfold cellsFrom at h
  by_cases hk : (k == NameKind.cell) = true
  ·rw [if_pos hk] at h
   rcases ih h with q | q
   ·rcases List.mem_cons.mp q with e | q
    ·cases e; exact .inr (by rw [show k = NameKind.cell by simpa using hk]; exact .head _)
    ·exact .inl q
   ·exact .inr (.tail _ q)
  ·rw [if_neg hk] at h
   exact (ih h).imp id fun q => .tail _ q
theorem bindL_get {kd : Str → Option NameKind} {x : Str} (hx : kd x = some .local) : ∀ (binds : List (Str × Value)) (m : Str → Option Value), (∀ v, (x, v) ∉ binds) → bindL kd binds m x = m x
 | [], _, _ => rfl
 | (n, v) :: r, m, h => by
  unfold bindL
  rw [bindL_get hx r _ fun w hw => h w (.tail _ hw)]
  by_cases q : kd n = some .local
  ·rw [if_pos q, if_neg fun z => h v (by rw [z]; exact .head _)]
  ·rw [if_neg q]
theorem bindC_get {kd : Str → Option NameKind} {x : Str} : ∀ (binds : List (Str × Value)) (m : Str → Option Value), (∀ v, (x, v) ∉ binds) → bindC kd binds m x = m x
 | [], _, _ => rfl
 | (n, v) :: r, m, h => by
  unfold bindC
  rw [bindC_get r _ fun w hw => h w (.tail _ hw)]
  by_cases q : kd n = some .local
  ·rw [if_pos q]
  ·rw [if_neg q, if_neg fun z => h v (by rw [z]; exact .head _)]
theorem bind_at {kd : Str → Option NameKind} : ∀ {ps : List Str} {is : List Nat} {vals : List Value} {avs : List AV} {ρ : Rho} (mL mC : Str → Option Value), ps.Nodup → is.Nodup → RhoOK ρ → (∀ p ∈ ps.zip is, p ∈ ρ) → ps.length = is.length →
  VRs vals avs → ∀ {x : Str} {i : Nat} {v : AV}, (x, i) ∈ ρ → mapOf is avs i = some v → ∃ cv, VR cv v ∧ (kd x = some .local → bindL kd (ps.zip vals) mL x = some cv) ∧ (kd x ≠ some .local → bindC kd (ps.zip vals) mC x = some cv)
 | [], is, vals, avs, ρ, mL, mC, _, _, _, _, hl, hv, x, i, v, hx, hm => by
  cases is with
  | nil => cases avs <;> simp [mapOf] at hm
  | cons _ _ => simp at hl
 | p :: ps, is, vals, avs, ρ, mL, mC, hp, hi, hρ, hin, hl, hv, x, i, v, hx, hm => by
  cases is with
  | nil => simp at hl
  | cons j is =>
   cases hv with
   | nil => simp [mapOf] at hm
   | @cons u a us as hu hr =>
    obtain ⟨hp1, hp2⟩ := List.nodup_cons.mp hp
    obtain ⟨hi1, hi2⟩ := List.nodup_cons.mp hi
    have hpj : (p, j) ∈ ρ := hin _ (.head _)
    simp only [mapOf] at hm
    by_cases q : i = j
    ·have e : x = p := (hρ _ hx _ hpj).mpr q
     subst e; subst q
     rw [Mp.upd_self] at hm; cases hm
     have nm : ∀ w, (x, w) ∉ ps.zip us := fun w hw => hp1 (List.of_mem_zip hw).1
     refine ⟨u, hu, fun hk => ?_, fun hk => ?_⟩
     ·show bindL kd ((x, u) :: ps.zip us) mL x = _
      unfold bindL
      rw [bindL_get hk _ _ nm, if_pos hk, if_pos rfl]
     ·show bindC kd ((x, u) :: ps.zip us) mC x = _
      unfold bindC
      rw [bindC_get _ _ nm, if_neg hk, if_pos rfl]
    ·rw [Mp.upd_ne _ _ q] at hm
     have e : x ≠ p := fun z => q ((hρ _ hx _ hpj).mp z)
     obtain ⟨cv, h1, h2, h3⟩ := bind_at (kd := kd) (if kd p = some .local then fun y => if y = p then some u else mL y else mL) (if kd p = some .local then mC else fun y => if y = p then some u else mC y) hp2 hi2 hρ
      (fun z hz => hin z (.tail _ hz)) (by simpa using hl) hr hx hm
     exact ⟨cv, h1, h2, h3⟩
set_option maxHeartbeats 1000000 in
theorem sF_def {f : Addr} {name : Str} {ps : List Str} {is : List Nat} {sc : Scope} {body : List Stmt} {t : Ts} (K : StOK S) (hf : IsDef S f name ps sc body) (hb : SoundS S b d (fun x => sc.names.lookup x) ρ body t)
  (hps : ps.Nodup) (his : is.Nodup) (hρ : RhoOK ρ) (hin : ∀ p ∈ ps.zip is, p ∈ ρ) (hl : ps.length = is.length)
  (hkind : ∀ p ∈ ps, sc.names.lookup p = some .local ∨ sc.names.lookup p = some .cell) (hnd : (sc.names.map (·.1)).Nodup) (hfree : ∀ p ∈ sc.names, p.2 ≠ .free)
  (hsk : sc.kind = .function) (hco : sc.isCoroutine = false) (hgen : sc.isGenerator = false) : SoundF S b (d + 1) (.ref f) (mkFn is t) := by
 intro C A vs avs H Q X s R F hv I h
 obtain ⟨hlen, ht⟩ := h
 obtain ⟨o, fd, ho, hd, hbody, rfl, hclo, hg, hblt, hcr, hbind, _⟩ := hf
 have hvl : vs.length = ps.length := by rw [hv.length, hlen, hl]
 have hroom : A.depth < recursionLimit := by have := R.depth; show A.depth < 1000; lia
 refine codeAny_call_cells hroom (I.base _ _ ho) hd (K.nolimit.keeps I.base) (hcr.keeps I.base) hbody (hbind vs hvl) hclo (fun x hx => ?_) (fun s1 z => ?_) hco hgen hsk
 ·obtain ⟨hx1, _⟩ := List.of_mem_zip (show (x.1, x.2) ∈ ps.zip vs from hx)
  rcases hkind x.1 hx1 with q | q
  ·exact .inl q
  ·exact .inr ⟨q, cellsFrom_mem (.inl q)⟩
 ·generalize hE : callEnvC fd s.heap.objs.size f = env at z ⊢
  have e1 : env.scope = fd.scope := by rw [← hE]; rfl
  have e2 : env.locals = s.heap.objs.size := by rw [← hE]; rfl
  have e3 : env.cells = cellsFrom (s.heap.objs.size + 1) fd.scope.names [] := by rw [← hE]; rfl
  have e4 : env.frame = some s.heap.objs.size := by rw [← hE]; rfl
  have e5 : env.globals = mainGlobals := by rw [← hE]; exact hg
  have e6 : env.builtins = builtinsNs := by rw [← hE]; exact hblt
  have keep := z.toInCall.keep
  obtain ⟨h1, tk, rfl⟩ := z.toInCall.same
  dsimp only at keep
  have nL : s.heap.get? s.heap.objs.size = none := by
   cases q : s.heap.get? s.heap.objs.size with
   | none => rfl
   | some o => exact absurd (Heap.lt_size q) (Nat.lt_irrefl _)
  have old : ∀ {a : Addr} {o : Obj}, s.heap.get? a = some o → a < s.heap.objs.size := fun e => Heap.lt_size e
  have cellsUp : ∀ x c, env.cells.lookup x = some c → s.heap.objs.size < c := fun x c hc => e2 ▸ z.above x c (mem_of_lookup hc)
  have above : ∀ a, a = env.locals ∨ (∃ x, env.cells.lookup x = some a) → s.heap.get? a = none := fun a ha => by
   cases q : s.heap.get? a with
   | none => rfl
   | some o =>
    have lt := old q
    rcases ha with ha | ⟨x, ha⟩
    ·rw [ha, e2] at lt; exact absurd lt (Nat.lt_irrefl _)
    ·exact absurd (Nat.lt_trans lt (cellsUp x a ha)) (Nat.lt_irrefl _)
  classical
  let C1 : Cx := { U := fun a => if a = env.locals ∨ (∃ x, env.cells.lookup x = some a) then h1.get? a else C.U a, fr := env.locals :: C.fr, envs := env :: C.envs }
  have U1 : ∀ a, (a = env.locals ∨ ∃ x, env.cells.lookup x = some a) → C1.U a = h1.get? a := fun a ha => if_pos ha
  have U2 : ∀ a, ¬ (a = env.locals ∨ ∃ x, env.cells.lookup x = some a) → C1.U a = C.U a := fun a ha => if_neg ha
  have own : ∀ a o, C.U a = some o → ¬ (a = env.locals ∨ ∃ x, env.cells.lookup x = some a) := fun a o e q => by
   obtain ⟨ob, w⟩ := (I.keep _ _ e).there; rw [above a q] at w; cases w
  have J := I.grow (s' := { s with heap := h1, toks := tk }) keep rfl rfl
  have I1 : Inv S C1 H { s with heap := h1, toks := tk } := by
   refine ⟨J.base, fun a o e => ?_, J.objs, fun a o e => ⟨?_, (J.sepH a o e).2⟩, fun a o e => ?_, J.gens, J.os, fun a ha => ?_⟩
   ·by_cases q : a = env.locals ∨ ∃ x, env.cells.lookup x = some a
    ·rw [U1 a q] at e; exact .inl e
    ·rw [U2 a q] at e
     rcases J.keep a o e with w | ⟨w, sl, w'⟩
     ·exact .inl w
     ·exact .inr ⟨.tail _ w, sl, w'⟩
   ·have lt := I.lt e
    rw [U2 a fun q => ?_]
    ·exact (I.sepH a o e).1
    ·rcases q with q | ⟨x, q⟩
     ·rw [q, e2] at lt; exact absurd lt (Nat.lt_irrefl _)
     ·exact absurd (Nat.lt_trans lt (cellsUp x a q)) (Nat.lt_irrefl _)
   ·by_cases q : a = env.locals ∨ ∃ x, env.cells.lookup x = some a
    ·exact (I.fresh (above a q)).2.2
    ·rw [U2 a q] at e; exact I.sepU a o e
   ·rcases List.mem_cons.mp ha with q | q
    ·obtain ⟨oL, _, _, hoL, _⟩ := z.toInCall.ns
     exact ⟨oL, by rw [q, U1 _ (.inl rfl)]; exact hoL⟩
    ·obtain ⟨o, w⟩ := I.frU a q
     exact ⟨o, (U2 a (own a o w)).trans w⟩
  obtain ⟨oL, es, ep, hoL, hdL, rL1, rL2⟩ := z.toInCall.ns
  have NL : NsObj oL (bindL env.kindOf (ps.zip vs) fun _ => none) := ⟨es, ep, hdL, rL1, rL2⟩
  have kd : ∀ x, env.kindOf x = fd.scope.names.lookup x := fun x => by unfold Env.kindOf; rw [e1]
  have O1 : EnvOK S C1 (A.deeper env) env := by
   refine ⟨by rw [e1]; exact hsk, e5, e6, fun x hx => ?_, fun x c hc => ?_, fun x y c hx hy => ?_, ⟨oL, _, (U1 _ (.inl rfl)).trans hoL, NL⟩, ?_, fun en he => ?_⟩
   ·rw [kd] at hx
    rcases hx with q | q
    ·rw [e3]; exact Option.isSome_iff_exists.mp (cellsFrom_mem (.inl q))
    ·exact absurd rfl (hfree _ (mem_of_lookup q))
   ·have lt := cellsUp x c hc
    obtain ⟨oc, hoc, hdc⟩ := z.cell x c hc
    refine ⟨by rw [e2]; exact Nat.ne_of_gt lt, fun hm => ?_, oc, _, (U1 _ (.inr ⟨x, hc⟩)).trans hoc, hdc⟩
    rcases List.mem_cons.mp hm with q | q
    ·rw [q, e2] at lt; exact absurd lt (Nat.lt_irrefl _)
    ·obtain ⟨o, w⟩ := I.frU c q
     exact own c o w (.inr ⟨x, hc⟩)
   ·exact name_of_addr z.apart (mem_of_lookup hx) (mem_of_lookup hy)
   ·show (A.deeper env).frames = some (env :: C.envs)
    show A.frames.map _ = _
    rw [F.stack]; rfl
   ·rcases List.mem_cons.mp he with rfl | he
    ·exact ⟨by rw [e1, hsk]; decide, s.heap.objs.size, oL, e4, by rw [← e2]; exact .head _, by rw [← e2]; exact (U1 _ (.inl rfl)).trans hoL, fun ws q => by rw [hdL] at q; cases q⟩
    ·obtain ⟨k1, L, o', k2, k3, k4, k5⟩ := F.fun_ en he
     exact ⟨k1, L, o', k2, .tail _ k3, (U2 _ (own L o' k4)).trans k4, k5⟩
  have V1 : EnvRel C1 env ρ (mapOf is avs) := by
   intro x i v hx hm
   obtain ⟨cv, q1, q2, q3⟩ := bind_at (kd := env.kindOf) (fun _ => none) (fun _ => none) hps his hρ hin hl hv hx hm
   refine ⟨cv, q1, ?_⟩
   by_cases w : env.kindOf x = some .local
   ·exact .inl ⟨w, oL, _, (U1 _ (.inl rfl)).trans hoL, NL, q2 w⟩
   ·have hxp : x ∈ ps := by
     apply Classical.byContradiction
     intro nx
     have hi : i ∉ is := fun hi => by
      obtain ⟨k, hk, e⟩ := List.mem_iff_getElem.mp hi
      have hk' : k < ps.length := by lia
      have : (ps[k], is[k]) ∈ ps.zip is := List.mem_iff_getElem.mpr ⟨k, by simp; lia, by simp⟩
      have := (hρ _ hx _ (hin _ this)).mpr (by simpa using e.symm)
      exact nx (by rw [show x = ps[k] from this]; exact List.getElem_mem _)
     have : ∀ (is : List Nat) (avs : List AV), i ∉ is → mapOf is avs i = none := by
      intro is
      induction is with
      | nil => intro avs _; cases avs <;> rfl
      | cons j is ih =>
       intro avs hn
       cases avs with
       | nil => rfl
       | cons a as =>
        show (mapOf is as).upd j a i = none
        rw [Mp.upd_ne _ _ fun q => hn (by rw [q]; exact .head _)]
        exact ih as fun q => hn (.tail _ q)
     rw [this is avs hi] at hm; cases hm
    rcases hkind x hxp with u | u
    ·exact absurd ((kd x).trans u) w
    ·have u' : env.kindOf x = some .cell := (kd x).trans u
     obtain ⟨c, hc⟩ := O1.cells x (.inl u')
     obtain ⟨oc, hoc, hdc⟩ := z.cell x c hc
     exact .inr ⟨.inl u', c, oc, hc, (U1 _ (.inr ⟨x, hc⟩)).trans hoc, by rw [hdc, q3 w]⟩
  have R1 : Room b d (A.deeper env) := by
   refine ⟨R.hd, ?_, ?_⟩
   ·have := R.depth; show A.depth + 1 + 8 * d ≤ 600; lia
   ·have := R.units; show A.units + 3 + 100 * d ≤ 9000; lia
  have back : ∀ {C2 : Cx} {H2 : AH} {s2 : Shared}, FUpd env C1 C2 → Inv S C2 H2 s2 → Inv S C H2 s2 := fun {C2 H2 s2} f2 I2 => by
   refine I2.less (fun a ha hu => ?_) (fun a o e => ?_) I.frU
   ·rw [f2.fr] at ha
    rcases List.mem_cons.mp ha with q | q
    ·cases w : C.U a with
     | none => exact absurd w hu
     | some o => exact absurd (.inl q) (own a o w)
    ·exact q
   ·have n := own a o e
    rw [f2.other a (fun q => n (.inl q)) (fun x q => n (.inr ⟨x, q⟩)), U2 a n]; exact e
  refine wpAny_mono (hb C1 (A.deeper env) env (mapOf is avs) H _ Q X _ _ R1 O1 ⟨_, rfl⟩ kd V1 I1 ht ?_) ?_ fun _ _ x => x
  ·intro C2 x H2 v s2 f2 F2 hx hr
   refine hr.leaves (.of_env F2) f2.envs e4 fun e s3 hv hh => ?_
   subst hv
   have I3 := hh.inv
   have back' := back f2 I3
   obtain ⟨n1, n2, n3⟩ := hh.new
   have le : ∀ a, C2.U a = none → C.U a = none := fun a q => by
    cases w : C.U a with
    | none => rfl
    | some o =>
     have n := own a o w
     rw [f2.other a (fun q => n (.inl q)) (fun x q => n (.inr ⟨x, q⟩)), U2 a n, w] at q; cases q
   obtain ⟨oe, vs', K', T, oT, ts, a0, k1, k2, k3, k4, k5, k6, k7, k8, k9, k10, k11, k12, k13⟩ := hh.at_
   have hh' : HeldAt S C H2 x e .none s3 := ⟨back', ⟨n1, le _ n2, n3⟩, oe, vs', K', T, oT, ts, a0, k1, k2, k3, k4, k5, k6, k7, k8, k9, k10, k11, le _ k12, k13⟩
   exact ⟨x, H2, hx, hh'.raised (.inl rfl)⟩
  ·rintro fl s2 ⟨C2, H2, f2, I2, p⟩
   cases fl with
   | next => obtain ⟨m2, _, _, q⟩ := p; exact ⟨_, H2, .none, back f2 I2, q⟩
   | ret v => obtain ⟨_, av, q1, q2⟩ := p; exact ⟨av, H2, q1, back f2 I2, q2⟩
   | brk => exact p.elim
   | cont => exact p.elim
end
end Mine
end
-- text A5
section
namespace Mine
open PySem PySem.Calls PyProof.Rows
section
variable {S : St} {b : Bool} {d : Nat} {sc : Kd} {ρ : Rho}
theorem load_global {C : Cx} {A : Around} {env : Env} {H : AH} {s : Shared} {x : Str} {pos : Pos} {v : Value} {E : Value → Shared → Prop} {Q : Value → Shared → Prop} (K : StOK S) (O : EnvOK S C A env) (I : Inv S C H s)
  (hx : env.kindOf x = some .globalImplicit) (hv : S.mg x = some v) (hd : (x == ("__debug__" : Str)) = false) (h : Q v s) : wpAny S.M A (eval (.Name x pos) env) Q E s :=
 Name_function_global O.kind hx (loadGlobal_global (by rw [O.glob]; exact K.g.keeps I.base) hv h) hd
theorem load_builtin {C : Cx} {A : Around} {env : Env} {H : AH} {s : Shared} {x : Str} {pos : Pos} {v : Value} {E : Value → Shared → Prop} {Q : Value → Shared → Prop} (K : StOK S) (O : EnvOK S C A env) (I : Inv S C H s)
  (hx : env.kindOf x = some .globalImplicit) (hm : S.mg x = none) (hv : S.mb x = some v) (hd : (x == ("__debug__" : Str)) = false) (h : Q v s) : wpAny S.M A (eval (.Name x pos) env) Q E s :=
 Name_function_global O.kind hx (loadGlobal_builtin (by rw [O.glob]; exact K.g.keeps I.base) hm (by rw [O.blt]; exact K.b.keeps I.base) hv h) hd
theorem sE_const {x : Str} {pos : Pos} {v : Value} {av : AV} (K : StOK S) (hx : sc x = some .globalImplicit) (hv : S.mg x = some v) (hr : VR v av) (hd : (x == ("__debug__" : Str)) = false) :
  SoundE S b d sc ρ (.Name x pos) (tVal av) := by
 intro C A env m H Q X E s R O hk V I h hE
 exact load_global K O I ((hk x).trans hx) hv hd ⟨av, H, hr, I, h⟩
noncomputable def noStar : List Expr → Bool
 | [] => true
 | .Starred .. :: _ => false
 | _ :: r => noStar r
theorem starEach_plain {env : Env} : ∀ {es : List Expr}, noStar es = true → starEach es env = es.map fun e => (false, eval e env)
 | [], _ => rfl
 | e :: r, h => by
  cases e <;> first | (cases h; done) | (rw [List.map_cons, ← starEach_plain (es := r) h]; rfl)
theorem backTo_plain {env : Env} {es : List Expr} {pos : Pos} (h : noStar es = true) : backTo pos (starEach es env) = es.map fun e => (false, eval e env) := by
 rw [starEach_plain h]; unfold backTo; rw [List.map_map]; rfl
theorem backTo_any {env : Env} {es : List Expr} {pos : Pos} (h : noStar es = true) : (backTo pos (starEach es env)).any (·.1) = false := by
 rw [backTo_plain h]; simp
theorem evalArgs_of {M : Model} {A : Around} {E : Value → Shared → Prop} {s : Shared} {f : Value} {es : List Expr} {env : Env} {pos : Pos} {Q : Args → Shared → Prop} (ht : noStar es = true)
  (h : wpAny M A (spliced (backTo pos (starEach es env))) (fun vs s' => Q ⟨vs, []⟩ s') E s) : wpAny M A (evalArgs f true (backTo pos (starEach es env)) []) Q E s := by
 rw [backTo_plain ht] at h ⊢
 cases es with
 | nil =>
  unfold evalArgs
  show wpAny M A (spliced [] >>= _) Q E s
  refine wpAny_bind (wpAny_mono h (fun vs s' h' => wpAny_bind (wpAny_pure ?_)) fun _ _ x => x)
  refine wpAny_holding ?_
  exact wpAny_bind (wpAny_pure (wpAny_bind (wpAny_pure (wpAny_pure h'))))
 | cons e r => exact evalArgs_plain h
noncomputable def tCall (F : Fn) (ts : Tms) : Tm := fun m H Q X => ts m H (fun vs H1 => F vs H1 Q X) X
theorem sE_call {f : Str} {a : Addr} {args : List Expr} {p pos : Pos} {F : Fn} {ts : Tms} {o : Obj} {fd : FuncData} (K : StOK S) (hF : SoundF S b d (.ref a) F) (h1 : SoundEs S b d sc ρ args ts) (hx : sc f = some .globalImplicit)
  (hv : S.mg f = some (.ref a)) (ho : S.base.get? a = some o) (hfd : o.data = .func fd) (hd : (f == ("__debug__" : Str)) = false) (hs : noStar args = true) :
  SoundE S b d sc ρ (.Call (.Name f p) args [] pos) (tCall F ts) := by
 intro C A env m H Q X E s R O hk V I h hE
 refine wpAny_Call_NameR (load_global K O I ((hk f).trans hx) hv hd ?_)
 refine callWith_function (o := o) (fd := fd) (evalArgs_of hs (wpAny_mono (h1 C A env m H _ X E s pos R O hk V I h hE) ?_ fun _ _ x => x))
 rintro vs s1 ⟨avs, H1, r1, I1, q1⟩
 refine ⟨⟨I1.base _ _ ho, hfd⟩, wpAny_call (codeAny_mono (hF C A vs avs H1 Q X s1 R (.of_env O) r1 I1 q1) ?_)⟩
 intro r s2 hr
 cases r with
 | error e => obtain ⟨x, H2, hx, hr⟩ := hr; exact hE x H2 e s2 hx hr
 | ok fl => cases fl <;> first | exact hr | exact hr.elim
noncomputable abbrev BFn := List AV → AH → QV → Prop
noncomputable def BFnOK (S : St) (b : Bool) (f : Value) (F : BFn) : Prop :=
 ∀ (C : Cx) (A : Around) (vs : List Value) (avs : List AV) (H : AH) (Q : QV) (E : Value → Shared → Prop) (s : Shared), (b = true → A.handled = none) → A.units ≤ 9000 → VRs vs avs → Inv S C H s → F avs H Q → wpAny S.M A (call f vs) (PostV S C Q) E s
noncomputable def tBcall (F : BFn) (ts : Tms) : Tm := fun m H Q X => ts m H (fun vs H1 => F vs H1 Q) X
theorem sE_bcall {f : Str} {id : String} {args : List Expr} {p pos : Pos} {F : BFn} {ts : Tms} (K : StOK S) (hF : BFnOK S b (.builtin id) F) (h1 : SoundEs S b d sc ρ args ts) (hx : sc f = some .globalImplicit)
  (hm : S.mg f = none) (hv : S.mb f = some (.builtin id)) (hd : (f == ("__debug__" : Str)) = false) (hs : noStar args = true) : SoundE S b d sc ρ (.Call (.Name f p) args [] pos) (tBcall F ts) := by
 intro C A env m H Q X E s R O hk V I h hE
 refine wpAny_Call_NameR (load_builtin K O I ((hk f).trans hx) hm hv hd ?_)
 refine Calls.callWith_builtin (backTo_any hs) (evalArgs_of hs (wpAny_mono (h1 C A env m H _ X E s pos R O hk V I h hE) ?_ fun _ _ x => x))
 rintro vs s1 ⟨avs, H1, r1, I1, q1⟩
 exact hF C A vs avs H1 Q E s1 R.hd R.u r1 I1 q1
theorem sE_tcall {f : Str} {T : String} {args : List Expr} {p pos : Pos} {F : BFn} {ts : Tms} (K : StOK S) (hF : BFnOK S b (.type T) F) (h1 : SoundEs S b d sc ρ args ts) (hx : sc f = some .globalImplicit)
  (hm : S.mg f = none) (hv : S.mb f = some (.type T)) (hd : (f == ("__debug__" : Str)) = false) (hs : noStar args = true) : SoundE S b d sc ρ (.Call (.Name f p) args [] pos) (tBcall F ts) := by
 intro C A env m H Q X E s R O hk V I h hE
 refine wpAny_Call_NameR (load_builtin K O I ((hk f).trans hx) hm hv hd ?_)
 refine PySem.callWith_type (backTo_any hs) (evalArgs_of hs (wpAny_mono (h1 C A env m H _ X E s pos R O hk V I h hE) ?_ fun _ _ x => x))
 rintro vs s1 ⟨avs, H1, r1, I1, q1⟩
 exact hF C A vs avs H1 Q E s1 R.hd R.u r1 I1 q1
end
end Mine
end
-- text A6
section
namespace Mine
open PySem PySem.Calls PyProof.Rows
inductive SK where
 | list | tuple | script | range | str
noncomputable def intsFrom (lo hi : Int) : List Int := (List.range (hi - lo).toNat).map fun (k : Nat) => lo + k
noncomputable def signs (x : Str) : List AV := x.cps.toList.map fun c => AV.str ⟨#[c]⟩
noncomputable def ItemsK : SK → AH → AV → List AV → Prop
 | .list, H, .ref a, xs => H a = some (.list xs)
 | .tuple, H, .ref a, xs => H a = some (.tuple xs)
 | .script, H, .ref a, xs => ∃ ns, H a = some (.script ns) ∧ xs = ns.map AV.int
 | .range, H, .ref a, xs => ∃ lo hi, H a = some (.range lo hi) ∧ xs = (intsFrom lo hi).map AV.int
 | .str, _, .str x, xs => xs = signs x ∧ x.cps.size ≤ 1048576
 | _, _, _, _ => False
inductive ItAt (S : St) : SK → AV → List AV → Nat → Addr → Heap → Prop
 | list {l I : Addr} {xs : List AV} {k : Nat} {h : Heap} : l ≠ I → h.IsListIter I l k → ItAt S .list (.ref l) xs k I h
 | script {l I : Addr} {xs : List AV} {k : Nat} {h : Heap} : l ≠ I → h.IsListIter I l k → ItAt S .script (.ref l) xs k I h
 | tuple {l I : Addr} {xs : List AV} {k : Nat} {h : Heap} : l ≠ I → h.IsTupleIter I l k → ItAt S .tuple (.ref l) xs k I h
 | range {a I : Addr} {lo hi : Int} {k : Nat} {h : Heap} : IsRangeIter h I (lo + (k : Int) * 1) (((hi - lo).toNat : Int) - k) 1 → ItAt S .range (.ref a) ((intsFrom lo hi).map AV.int) k I h
 | ascii {x : Str} {t : Tok} {I : Addr} {k : Nat} {h : Heap} : PyData.strOk x = true → h.IsStrIter I "str_ascii_iterator" x t k → ItAt S .str (.str x) (signs x) k I h
 | wide {x : Str} {t : Tok} {I : Addr} {k : Nat} {h : Heap} : PyData.strOk x = true → h.IsStrIter I "str_iterator" x t k → ItAt S .str (.str x) (signs x) k I h
theorem ItAt.frame {S : St} {kd : SK} {v : AV} {xs : List AV} {k : Nat} {I : Addr} {h h' : Heap} (x : ItAt S kd v xs k I h) (e : ∀ o, h.get? I = some o → h'.get? I = some o) : ItAt S kd v xs k I h' := by
 cases x with
 | list n q => obtain ⟨o, h1, h2⟩ := q; exact .list n ⟨o, e _ h1, h2⟩
 | script n q => obtain ⟨o, h1, h2⟩ := q; exact .script n ⟨o, e _ h1, h2⟩
 | tuple n q => obtain ⟨o, h1, h2⟩ := q; exact .tuple n ⟨o, e _ h1, h2⟩
 | range q => exact .range (e _ q)
 | ascii ok q => obtain ⟨o, h1, h2⟩ := q; exact .ascii ok ⟨o, e _ h1, h2⟩
 | wide ok q => obtain ⟨o, h1, h2⟩ := q; exact .wide ok ⟨o, e _ h1, h2⟩
theorem ItAt.there {S : St} {kd : SK} {v : AV} {xs : List AV} {k : Nat} {I : Addr} {h : Heap} (x : ItAt S kd v xs k I h) : ∃ o, h.get? I = some o := by
 cases x with
 | list n q => obtain ⟨o, h1, h2⟩ := q; exact ⟨o, h1⟩
 | script n q => obtain ⟨o, h1, h2⟩ := q; exact ⟨o, h1⟩
 | tuple n q => obtain ⟨o, h1, h2⟩ := q; exact ⟨o, h1⟩
 | range q => exact ⟨_, q⟩
 | ascii ok q => obtain ⟨o, h1, h2⟩ := q; exact ⟨o, h1⟩
 | wide ok q => obtain ⟨o, h1, h2⟩ := q; exact ⟨o, h1⟩
theorem ItAt.self {S : St} {kd : SK} {v : AV} {xs : List AV} {k : Nat} {I : Addr} {s : Shared} {A : Around} {E : Value → Shared → Prop} {Q : Value → Shared → Prop} (x : ItAt S kd v xs k I s.heap) (h : Q (.ref I) s) : wpAny S.M A (pyIter (.ref I)) Q E s := by
 cases x with
 | list n q => exact wpAny_pyIter_listiter q h
 | script n q => exact wpAny_pyIter_listiter q h
 | tuple n q => exact wpAny_pyIter_tupleiter q h
 | range q => exact wpAny_pyIter_rangeiter q h
 | ascii ok q => exact wpAny_pyIter_striter_ascii q h
 | wide ok q => exact wpAny_pyIter_striter_wide q h
theorem intsFrom_get {lo hi : Int} {k : Nat} (h : k < (hi - lo).toNat) : (intsFrom lo hi)[k]? = some (lo + k) := by simp [intsFrom, h]
theorem intsFrom_length (lo hi : Int) : (intsFrom lo hi).length = (hi - lo).toNat := by simp [intsFrom]
theorem rangeSize_one (lo hi : Int) : Builtin.Range.rangeSize lo hi 1 = ((hi - lo).toNat : Int) := by
 unfold Builtin.Range.rangeSize
 simp only [Int.reduceGT, if_true]
 split <;> lia
theorem signs_get {x : Str} {k : Nat} {c : Nat} (h : x.cps[k]? = some c) : (signs x)[k]? = some (.str ⟨#[c]⟩) := by
 unfold signs
 rw [List.getElem?_map, Array.getElem?_toList, h]; rfl
theorem strOk_sign {x : Str} {k c : Nat} (ok : PyData.strOk x = true) (h : x.cps[k]? = some c) : PyData.strOk ⟨#[c]⟩ = true := by
 unfold PyData.strOk at ok ⊢
 have := Array.all_eq_true'.mp ok c (Array.mem_of_getElem? h)
 simpa using this
section
variable {S : St} {C : Cx} {H : AH} {s : Shared} {A : Around}
theorem iter_start {kd : SK} {v : AV} {cv : Value} {xs : List AV} {E : Value → Shared → Prop} {Q : Value → Shared → Prop} (I : Inv S C H s) (hv : VR cv v) (hi : ItemsK kd H v xs)
  (hQ : ∀ It o s', s.heap.get? It = none → s'.heap.get? It = some o → (∀ b o, s.heap.get? b = some o → s'.heap.get? b = some o) → s'.gens = s.gens → s'.os = s.os → ItAt S kd v xs 0 It s'.heap → Q (.ref It) s') :
  wpAny S.M A (pyIter cv) Q E s := by
 have nn : s.heap.get? s.heap.objs.size = none := by
  cases q : s.heap.get? s.heap.objs.size with
  | none => rfl
  | some o => exact absurd (Heap.lt_size q) (Nat.lt_irrefl _)
 have up : ∀ o b o', s.heap.get? b = some o' → (s.heap.push o).get? b = some o' := fun o b o' e => Heap.get?_push_of_some _ e
 cases kd with
 | list =>
  cases v with
  | ref a =>
   cases hv
   obtain ⟨vs, n, h1, h2, h3⟩ := I.objs a _ hi
   refine wpAny_pyIter_list ⟨_, h1, rfl, n, rfl⟩ (hQ _ _ _ nn (Heap.get?_push_size _ rfl) (up _) rfl rfl (.list (Nat.ne_of_lt (Heap.lt_size h1)) ⟨_, Heap.get?_push_size _ rfl, rfl, rfl⟩))
  | _ => exact hi.elim
 | tuple =>
  cases v with
  | ref a =>
   cases hv
   obtain ⟨vs, n, h1, h2⟩ := I.objs a _ hi
   refine wpAny_pyIter_tuple ⟨_, h1, rfl, n, rfl⟩ (hQ _ _ _ nn (Heap.get?_push_size _ rfl) (up _) rfl rfl (.tuple (Nat.ne_of_lt (Heap.lt_size h1)) ⟨_, Heap.get?_push_size _ rfl, rfl, rfl⟩))
  | _ => exact hi.elim
 | script =>
  cases v with
  | ref a =>
   cases hv
   obtain ⟨ns, hi, rfl⟩ := hi
   obtain ⟨vs, ⟨ob, h1, hc, n, hd⟩, h2, h3⟩ := I.objs a _ hi
   refine wpAny_pyIter_list ⟨ob, I.base _ _ h1, hc, n, hd⟩ (hQ _ _ _ nn (Heap.get?_push_size _ rfl) (up _) rfl rfl (.script (Nat.ne_of_lt (Heap.lt_size (I.base _ _ h1))) ⟨_, Heap.get?_push_size _ rfl, rfl, rfl⟩))
  | _ => exact hi.elim
 | range =>
  cases v with
  | ref a =>
   cases hv
   obtain ⟨lo, hi', hi, rfl⟩ := hi
   obtain ⟨t, u, v, b1, b2, h1⟩ := I.objs a _ hi
   refine wpAny_pyIter_range h1 ?_ (hQ _ _ _ nn (Heap.get?_push_size _ rfl) (up _) rfl rfl (.range ?_))
   ·unfold Builtin.Range.small
    rw [rangeSize_one]
    simp only [Builtin.Range.rangeFitsLong, Bool.and_eq_true, Bool.or_eq_true, decide_eq_true_eq, Int.reduceGT, if_true]
    lia
   ·show IsRangeIter _ _ _ _ _
    have e := Heap.get?_push_size s.heap (o := { cls := .type "range_iterator", dict := none, data := .fields #[rawInt lo, rawInt (Builtin.Range.rangeSize lo hi' 1), rawInt 1], slots := #[] }) rfl
    rw [rangeSize_one] at e
    simpa [rangeSize_one] using e
  | _ => exact hi.elim
 | str =>
  cases v with
  | str x =>
   cases hv with
   | str _ t ok =>
    obtain ⟨rfl, _⟩ := hi
    cases ha : x.cps.all (· < 128)
    ·exact wpAny_pyIter_wide ha (hQ _ _ _ nn (Heap.get?_push_size _ rfl) (up _) rfl rfl (.wide ok ⟨_, Heap.get?_push_size _ rfl, rfl, rfl⟩))
    ·exact wpAny_pyIter_ascii ha (hQ _ _ _ nn (Heap.get?_push_size _ rfl) (up _) rfl rfl (.ascii ok ⟨_, Heap.get?_push_size _ rfl, rfl, rfl⟩))
  | _ => exact hi.elim
theorem iter_next {kd : SK} {v : AV} {xs : List AV} {k : Nat} {It : Addr} {E : Value → Shared → Prop} {Q : Option Value → Shared → Prop} (I : Inv S C H s) (hh : A.handled = none) (hi : ItemsK kd H v xs) (ht : ItAt S kd v xs k It s.heap)
  (hk : k ≤ xs.length)
  (hs : ∀ cv x s', xs[k]? = some x → VR cv x → ItAt S kd v xs (k + 1) It s'.heap → (∀ b o, b ≠ It → s.heap.get? b = some o → s'.heap.get? b = some o) → s'.gens = s.gens → s'.os = s.os → Q (some cv) s')
  (hn : ∀ s', k = xs.length → (∀ b o, b ≠ It → s.heap.get? b = some o → s'.heap.get? b = some o) → s'.gens = s.gens → s'.os = s.os → Q none s') :
  wpAny S.M A (pyNext (.ref It)) Q E s := by
 have one : ∀ {b : Addr}, b ≠ It → b ∉ [It] := fun n q => n (List.mem_singleton.mp q)
 cases ht with
 | list ne q =>
  obtain ⟨vs, n, h1, h2, h3⟩ := I.objs _ _ hi
  have hl : s.heap.IsList _ vs.toArray := ⟨_, h1, rfl, n, rfl⟩
  have W := Walks.list (prog := S.prog) (w := S.w) hh It _ ne vs.toArray
  have hlen := h2.length
  rcases Nat.lt_or_ge k xs.length with lt | ge
  ·refine W.item k s _ _ (by simp; lia) ⟨q, hl⟩ fun w h' tk hw hst hkp => ?_
   obtain ⟨x, hx, hr⟩ := h2.getV (by simpa using hw)
   exact hs w x _ hx hr (.list ne hst.1) (fun b o nb e => hkp b o (one nb) e) rfl rfl
  ·refine W.done s _ _ ?_ fun h' tk hkp => hn _ (by lia) (fun b o nb e => hkp b o (one nb) e) rfl rfl
   have : vs.toArray.size = k := by simp; lia
   rw [this]; exact ⟨q, hl⟩
 | script ne q =>
  obtain ⟨ns, hi, rfl⟩ := hi
  obtain ⟨vs, ⟨ob, h1, hc, n, hd⟩, h2, h3⟩ := I.objs _ _ hi
  have hl : s.heap.IsList _ vs.toArray := ⟨ob, I.base _ _ h1, hc, n, hd⟩
  have W := Walks.list (prog := S.prog) (w := S.w) hh It _ ne vs.toArray
  have hlen := h2.length
  rcases Nat.lt_or_ge k (ns.map AV.int).length with lt | ge
  ·refine W.item k s _ _ (by simp; simp at hlen lt; lia) ⟨q, hl⟩ fun w h' tk hw hst hkp => ?_
   obtain ⟨x, hx, hr⟩ := h2.getV (by simpa using hw)
   exact hs w x _ hx hr (.script ne hst.1) (fun b o nb e => hkp b o (one nb) e) rfl rfl
  ·refine W.done s _ _ ?_ fun h' tk hkp => hn _ (by lia) (fun b o nb e => hkp b o (one nb) e) rfl rfl
   have : vs.toArray.size = k := by simp; lia
   rw [this]; exact ⟨q, hl⟩
 | tuple ne q =>
  obtain ⟨vs, n, h1, h2, _⟩ := I.objs _ _ hi
  have hl : s.heap.IsTuple _ vs.toArray := ⟨_, h1, rfl, n, rfl⟩
  have W := Walks.tuple (prog := S.prog) (w := S.w) hh It _ ne vs.toArray
  have hlen := h2.length
  rcases Nat.lt_or_ge k xs.length with lt | ge
  ·refine W.item k s _ _ (by simp; lia) ⟨q, hl⟩ fun w h' tk hw hst hkp => ?_
   obtain ⟨x, hx, hr⟩ := h2.getV (by simpa using hw)
   exact hs w x _ hx hr (.tuple ne hst.1) (fun b o nb e => hkp b o (one nb) e) rfl rfl
  ·refine W.done s _ _ ?_ fun h' tk hkp => hn _ (by lia) (fun b o nb e => hkp b o (one nb) e) rfl rfl
   have : vs.toArray.size = k := by simp; lia
   rw [this]; exact ⟨q, hl⟩
 | @range a _ lo hi' _ _ q =>
  have W := Walks.range (prog := S.prog) (w := S.w) hh It lo 1 (hi' - lo).toNat
  have hlen : ((intsFrom lo hi').map AV.int).length = (hi' - lo).toNat := by simp [intsFrom_length]
  rcases Nat.lt_or_ge k (hi' - lo).toNat with lt | ge
  ·refine W.item k s _ _ lt q fun w h' tk hw hst hkp => ?_
   obtain ⟨t, rfl⟩ := hw
   refine hs _ (.int (lo + k)) _ (by rw [List.getElem?_map, intsFrom_get lt]; rfl) (by rw [Int.mul_one]; exact .int _ t) (.range hst) (fun b o nb e => hkp b o (one nb) e) rfl rfl
  ·refine W.done s _ _ ?_ fun h' tk hkp => hn _ (by lia) (fun b o nb e => hkp b o (one nb) e) rfl rfl
   have : (hi' - lo).toNat = k := by lia
   rw [this] at q ⊢; exact q
 | @ascii x t _ _ _ ok q =>
  have W := Walks.strAscii (prog := S.prog) (w := S.w) hh It x t
  have hlen : (signs x).length = x.cps.size := by simp [signs]
  rcases Nat.lt_or_ge k x.cps.size with lt | ge
  ·refine W.item k s _ _ lt q fun w h' tk hw hst hkp => ?_
   obtain ⟨c, u, hc, rfl⟩ := hw
   exact hs _ (.str ⟨#[c]⟩) _ (signs_get hc) (.str _ u (strOk_sign ok hc)) (.ascii ok hst) (fun b o nb e => hkp b o (one nb) e) rfl rfl
  ·refine W.done s _ _ ?_ fun h' tk hkp => hn _ (by lia) (fun b o nb e => hkp b o (one nb) e) rfl rfl
   have : x.cps.size = k := by lia
   rw [this]; exact q
 | @wide x t _ _ _ ok q =>
  have W := Walks.strWide (prog := S.prog) (w := S.w) hh It x t
  have hlen : (signs x).length = x.cps.size := by simp [signs]
  rcases Nat.lt_or_ge k x.cps.size with lt | ge
  ·refine W.item k s _ _ lt q fun w h' tk hw hst hkp => ?_
   obtain ⟨c, u, hc, rfl⟩ := hw
   exact hs _ (.str ⟨#[c]⟩) _ (signs_get hc) (.str _ u (strOk_sign ok hc)) (.wide ok hst) (fun b o nb e => hkp b o (one nb) e) rfl rfl
  ·refine W.done s _ _ ?_ fun h' tk hkp => hn _ (by lia) (fun b o nb e => hkp b o (one nb) e) rfl rfl
   have : x.cps.size = k := by lia
   rw [this]; exact q
theorem items_le {kd : SK} {v : AV} {xs : List AV} (I : Inv S C H s) (hi : ItemsK kd H v xs) : xs.length ≤ sizeLine := by
 have hz : sizeLine = 16777216 := rfl
 cases kd <;> cases v <;> first | exact hi.elim | skip
 ·obtain ⟨vs, n, h1, h2, h3⟩ := I.objs _ _ hi; rw [← h2.length]; exact h3
 ·obtain ⟨vs, n, h1, h2, h3⟩ := I.objs _ _ hi; rw [← h2.length]; exact h3
 ·obtain ⟨ns, hi, rfl⟩ := hi
  obtain ⟨vs, h1, h2, h3⟩ := I.objs _ _ hi; rw [← h2.length]; lia
 ·obtain ⟨lo, hi', hi, rfl⟩ := hi
  obtain ⟨t, u, v, b1, b2, h1⟩ := I.objs _ _ hi
  rw [List.length_map, intsFrom_length]; lia
 ·obtain ⟨rfl, h⟩ := hi
  simp only [signs, List.length_map, Array.length_toList]; lia
end
end Mine
end
-- text A7
section
namespace Mine
open PySem PySem.Calls PyProof.Rows
noncomputable def Cx.drop (C : Cx) (a : Addr) : Cx := { C with U := fun b => if b = a then none else C.U b }
theorem Cx.drop_self (C : Cx) (a : Addr) : (C.drop a).U a = none := if_pos rfl
theorem Cx.drop_ne (C : Cx) {a b : Addr} (h : b ≠ a) : (C.drop a).U b = C.U b := if_neg h
section
variable {S : St} {C : Cx} {H : AH} {s : Shared} {A : Around} {env : Env} {ρ : Rho} {m : Mp} {a : Addr}
theorem EnvOK.of_U {C' : Cx} (O : EnvOK S C A env) (hf : C'.fr = C.fr) (he : C'.envs = C.envs) (h1 : C'.U env.locals = C.U env.locals) (h2 : ∀ x c, env.cells.lookup x = some c → C'.U c = C.U c) (h3 : ∀ L, L ∈ C.fr → C'.U L = C.U L) : EnvOK S C' A env := by
 refine ⟨O.kind, O.glob, O.blt, O.cells, fun x c hc => ?_, O.apart, ?_, by rw [he]; exact O.stack, fun e hm => ?_⟩
 ·obtain ⟨k1, k2, o, v, k3, k4⟩ := O.cellU x c hc
  exact ⟨k1, by rw [hf]; exact k2, o, v, (h2 x c hc).trans k3, k4⟩
 ·obtain ⟨o, m, k1, k2⟩ := O.loc
  exact ⟨o, m, h1.trans k1, k2⟩
 ·rw [he] at hm
  obtain ⟨k1, L, o, k2, k3, k4, k5⟩ := O.fun_ e hm
  exact ⟨k1, L, o, k2, by rw [hf]; exact k3, (h3 L k3).trans k4, k5⟩
theorem EnvRel.of_U {C' : Cx} (R : EnvRel C env ρ m) (h1 : C'.U env.locals = C.U env.locals) (h2 : ∀ x c, env.cells.lookup x = some c → C'.U c = C.U c) : EnvRel C' env ρ m := by
 intro x i v hx hm
 obtain ⟨cv, q, V⟩ := R x i v hx hm
 refine ⟨cv, q, ?_⟩
 rcases V with ⟨k, o, m', k1, k2⟩ | ⟨k, c, o, k1, k2, k3⟩
 ·exact .inl ⟨k, o, m', h1.trans k1, k2⟩
 ·exact .inr ⟨k, c, o, k1, (h2 x c k1).trans k2, k3⟩
structure Apart (C : Cx) (env : Env) (a : Addr) : Prop where
 loc : a ≠ env.locals
 cell : ∀ x, env.cells.lookup x ≠ some a
 fr : a ∉ C.fr
theorem EnvOK.apart_of (O : EnvOK S C A env) (I : Inv S C H s) (h : C.U a = none) : Apart C env a := by
 refine ⟨fun q => ?_, fun x q => ?_, fun q => ?_⟩
 ·obtain ⟨o, _, k, _⟩ := O.loc; rw [← q, h] at k; cases k
 ·obtain ⟨_, _, o, _, k, _⟩ := O.cellU x a q; rw [h] at k; cases k
 ·obtain ⟨o, k⟩ := I.frU a q; rw [h] at k; cases k
theorem EnvOK.hide (O : EnvOK S C A env) (P : Apart C env a) (o : Obj) : EnvOK S (C.hide a o) A env :=
 O.of_U rfl rfl (Cx.hide_ne _ _ (Ne.symm P.loc)) (fun x c hc => Cx.hide_ne _ _ fun q => P.cell x (q ▸ hc)) fun L hL => Cx.hide_ne _ _ fun q => P.fr (q ▸ hL)
theorem EnvRel.hide (R : EnvRel C env ρ m) (P : Apart C env a) (o : Obj) : EnvRel (C.hide a o) env ρ m :=
 R.of_U (Cx.hide_ne _ _ (Ne.symm P.loc)) fun x c hc => Cx.hide_ne _ _ fun q => P.cell x (q ▸ hc)
theorem EnvOK.drop (O : EnvOK S C A env) (P : Apart C env a) : EnvOK S (C.drop a) A env :=
 O.of_U rfl rfl (Cx.drop_ne _ (Ne.symm P.loc)) (fun x c hc => Cx.drop_ne _ fun q => P.cell x (q ▸ hc)) fun L hL => Cx.drop_ne _ fun q => P.fr (q ▸ hL)
theorem EnvRel.drop (R : EnvRel C env ρ m) (P : Apart C env a) : EnvRel (C.drop a) env ρ m :=
 R.of_U (Cx.drop_ne _ (Ne.symm P.loc)) fun x c hc => Cx.drop_ne _ fun q => P.cell x (q ▸ hc)
theorem Inv.drop (I : Inv S C H s) (h : a ∉ C.fr) : Inv S (C.drop a) H s := by
 refine I.less (fun b hb _ => hb) (fun b o e => ?_) fun b hb => ?_
 ·by_cases q : b = a
  ·rw [q, Cx.drop_self] at e; cases e
  ·rw [Cx.drop_ne _ q] at e; exact e
 ·obtain ⟨o, e⟩ := I.frU b hb
  exact ⟨o, (Cx.drop_ne _ fun q => h (by rw [← q]; exact hb)).trans e⟩
theorem FrOK.drop (F : FrOK S C A) (h : a ∉ C.fr) : FrOK S (C.drop a) A :=
 ⟨F.stack, fun e he => by
  obtain ⟨k1, L, o, k2, k3, k4, k5⟩ := F.fun_ e he
  exact ⟨k1, L, o, k2, k3, (Cx.drop_ne _ fun q => h (by rw [← q]; exact k3)).trans k4, k5⟩⟩
theorem Cx.drop_none {C : Cx} {a b : Addr} (h : C.U b = none) : (C.drop a).U b = none := by
 by_cases q : b = a
 ·rw [q]; exact Cx.drop_self ..
 ·rw [Cx.drop_ne _ q]; exact h
theorem Raised.drop {x : Str} {v : Value} (R : Raised S C H x v s) (h : a ∉ C.fr) : Raised S (C.drop a) H x v s := by
 obtain ⟨e, rfl, I, ⟨oe, vs, K, h1, h2, h3, h4, h5, h6, h7⟩, n1, n2, n3⟩ := R
 refine ⟨e, rfl, I.drop h, ⟨oe, vs, K, h1, h2, h3, h4, h5, h6, ?_⟩, n1, Cx.drop_none n2, n3⟩
 rcases h7 with q | ⟨T, oT, ts, fl, q1, q2, q3, q4, q5, q6, q7, q8, q9⟩
 ·exact .inl q
 ·exact .inr ⟨T, oT, ts, fl, q1, q2, q3, q4, q5, q6, q7, Cx.drop_none q8, q9⟩
theorem Inv.loose (I : Inv S C H s) {s' : Shared} (hb : S.base.get? a = none ∧ H a = none ∧ C.U a = none) (hk : ∀ b o, b ≠ a → s.heap.get? b = some o → s'.heap.get? b = some o) (hg : s'.gens = s.gens) (ho : s'.os = s.os) : Inv S C H s' :=
 I.other (fun b => b = a) (fun b q => q ▸ hb) (fun b o e n => .inr (hk b o n e)) (fun b o e _ hu => ⟨o.slots, hk b o (fun q => hu (q ▸ hb.2.2)) e⟩) hg ho
theorem Inv.track (I : Inv S C H s) {o : AO} (hb : S.base.get? a = none ∧ H a = none ∧ C.U a = none) (ha : ObjAt S s.heap a o) : Inv S C (H.put a o) s := by
 refine ⟨I.base, I.keep, fun b o' e => ?_, fun b o' e => ?_, I.sepU, I.gens, I.os, I.frU⟩
 ·by_cases q : b = a
  ·subst q; rw [AH.put_self] at e; cases e; exact ha
  ·rw [AH.put_ne _ _ q] at e; exact I.objs b o' e
 ·by_cases q : b = a
  ·subst q; exact ⟨hb.2.2, fun _ => hb.1⟩
  ·rw [AH.put_ne _ _ q] at e; exact I.sepH b o' e
theorem Inv.hid (I : Inv S C H s) {o : Obj} (h : C.U a = some o) : S.base.get? a = none ∧ H a = none := by
 refine ⟨I.sepU a o h, ?_⟩
 cases q : H a with
 | none => rfl
 | some x => rw [(I.sepH a x q).1] at h; cases h
theorem Inv.exact (I : Inv S C H s) {o : Obj} (h : C.U a = some o) (hf : a ∉ C.fr) : s.heap.get? a = some o := by
 rcases I.keep a o h with q | ⟨q, _⟩
 ·exact q
 ·exact absurd q hf
end
section
variable {S : St} {d : Nat} {sc : Kd} {ρ : Rho}
inductive ForK (i : Nat) (body : Ts) (m : Mp) (v : AV) (H1 : AH) (QN : Mp → AH → Prop) (QR : QV) (X : QX) : Prop
 | mk (kd : SK) (xs : List AV) : ItemsK kd H1 v xs → (J : Nat → Mp → AH → Prop) → J 0 m H1 → (∀ k m' H', J k m' H' → k ≤ xs.length →
   ItemsK kd H' v xs ∧ (∀ x, xs[k]? = some x → body (m'.upd i x) H' (J (k + 1)) QR X) ∧ (k = xs.length → QN m' H')) → ForK i body m v H1 QN QR X
noncomputable def tFor (t : Tm) (i : Nat) (body : Ts) : Ts := fun m H QN QR X => t m H (fun v H1 => ForK i body m v H1 QN QR X) X
inductive ForI (S : St) (C : Cx) (A : Around) (env : Env) (ρ : Rho) (kd : SK) (v : AV) (xs : List AV) (It : Addr) (J : Nat → Mp → AH → Prop) (n : Nat) (s' : Shared) : Prop
 | mk (C1 : Cx) (m1 : Mp) (H1 : AH) (o : Obj) (k : Nat) : n = xs.length + 1 - k → k ≤ xs.length → C1.fr = C.fr → C1.envs = C.envs → (∀ a, a ≠ It → a ≠ env.locals → (∀ x, env.cells.lookup x ≠ some a) → C1.U a = C.U a) → C1.U It = some o →
  EnvOK S C1 A env → EnvRel C1 env ρ m1 → Inv S C1 H1 s' → ItAt S kd v xs k It s'.heap → J k m1 H1 → ForI S C A env ρ kd v xs It J n s'
set_option maxHeartbeats 1000000 in
theorem sT_for {x : Str} {i : Nat} {e : Expr} {bd : List Stmt} {p pos : Pos} {t : Tm} {u : Ts} (h1 : SoundE S true d sc ρ e t) (h2 : SoundS S true d sc ρ bd u) (hρ : RhoOK ρ) (hx : ρ.lookup x = some i) (hk : sc x = some .local ∨ sc x = some .cell)
  (hs : ∀ env v, foldedSetIterable e env v = pure v) : SoundT S true d sc ρ (.For (.Name x p) e bd [] pos) (tFor t i u) := by
 intro C A env m H QN QR X E s R O hc hk' V I h hE
 obtain ⟨outer, hc⟩ := hc
 obtain ⟨_, L, _, hL, _⟩ := O.fun_ env (by rw [hc]; exact .head _)
 have hh := R.hd rfl
 refine wpAny_For (wpAny_mono (h1 C A env m H _ X E s R O hk' V I h (hE.ex O)) ?_ fun _ _ x => x) (hs env)
 rintro cv s1 ⟨v, H1, r1, I1, kd, xs, hi, J, j0, jn⟩
 refine iter_start I1 r1 hi fun It oI s2 n2 g2 k2 e2 f2 it2 => ?_
 have hU := (I1.fresh n2).2.1
 have P := O.apart_of I1 hU
 refine codeAny_forLoop (ForI S C A env ρ kd v xs It J) ?_ (xs.length + 1)
  ⟨C.hide It oI, m, H1, oI, 0, rfl, Nat.zero_le _, rfl, rfl, fun a n _ _ => Cx.hide_ne _ _ n, Cx.hide_self .., O.hide P oI, V.hide P oI, I1.hide n2 k2 g2 e2 f2, it2, j0⟩
 rintro n s3 ⟨C1, m1, H1', o1, k, rfl, hk1, fr1, en1, oth1, u1, O1, V1, I3, it3, j3⟩
 obtain ⟨ji, js, jd⟩ := jn k m1 H1' j3 hk1
 have P1 : Apart C1 env It := ⟨P.loc, P.cell, by rw [fr1]; exact P.fr⟩
 have out : ∀ {C' : Cx}, C'.fr = C.fr → C'.envs = C.envs → (∀ a, a ≠ It → a ≠ env.locals → (∀ x, env.cells.lookup x ≠ some a) → C'.U a = C.U a) → FUpd env C (C'.drop It) := fun {C'} q1 q2 q3 => by
  refine ⟨q1, q2, fun a w1 w2 => ?_⟩
  by_cases q : a = It
  ·rw [q, Cx.drop_self, hU]
  ·rw [Cx.drop_ne _ q]; exact q3 a q w1 w2
 refine iter_next I3 hh ji it3 hk1 (fun cw y s4 hy hr it4 k4 g4 f4 => ?_) fun s4 hend k4 g4 f4 => ?_
 ·obtain ⟨o4, ho4⟩ := it4.there
  have I4 := I3.turn u1 k4 ho4 g4 f4
  have lt : k < xs.length := (List.getElem?_eq_some_iff.mp hy).1
  show wpAny S.M A (do standAt p; bindName env x cw) _ _ s4
  refine wpAny_bind (wpAny_standAt (wpAny_mono (store_var (O1.hide P1 o4) (V1.hide P1 o4) I4 hρ (mem_of_lookup hx) hr (by rw [hk']; exact hk)) ?_ fun _ _ x => x))
  rintro _ s5 ⟨C5, a5, o5, w5, e5, O5, V5, I5⟩
  have f5 : FUpd env (C1.hide It o4) C5 := .stored w5 e5
  have it5 : C5.U It = some o4 := (f5.other It P.loc P.cell).trans (Cx.hide_self ..)
  have nf5 : It ∉ C5.fr := by rw [f5.fr]; exact P1.fr
  have oth5 : ∀ a, a ≠ It → a ≠ env.locals → (∀ x, env.cells.lookup x ≠ some a) → C5.U a = C.U a := fun a w1 w2 w3 => (f5.other a w2 w3).trans ((Cx.hide_ne _ _ w1).trans (oth1 a w1 w2 w3))
  refine wpAny_mono (h2 C5 A env (m1.upd i y) H1' (J (k + 1)) QR X _ s5 R O5 ⟨outer, by rw [f5.envs]; exact en1.trans hc⟩ hk' V5 I5 (js y hy) ?_) ?_ fun _ _ x => x
  ·intro C' z H' w s' f' F' hz hr'
   refine hr'.through (.of_env F') ((f'.envs.trans (f5.envs.trans en1)).trans hc) hL fun s'' hr'' => ?_
   have nf : It ∉ C'.fr := by rw [f'.fr]; exact nf5
   exact hE (C'.drop It) z H' w s'' (out (f'.fr.trans (f5.fr.trans fr1)) (f'.envs.trans (f5.envs.trans en1)) fun a w1 w2 w3 => (f'.other a w2 w3).trans (oth5 a w1 w2 w3)) (F'.drop ⟨P.loc, P.cell, nf⟩) hz (hr''.drop nf)
  ·rintro fl s6 ⟨C6, H6, f6, I6, q6⟩
   have nf6 : It ∉ C6.fr := by rw [f6.fr]; exact nf5
   have u6 : C6.U It = some o4 := (f6.other It P.loc P.cell).trans it5
   have oth6 : ∀ a, a ≠ It → a ≠ env.locals → (∀ x, env.cells.lookup x ≠ some a) → C6.U a = C.U a := fun a w1 w2 w3 => (f6.other a w2 w3).trans (oth5 a w1 w2 w3)
   have fr6 : C6.fr = C.fr := f6.fr.trans (f5.fr.trans fr1)
   have en6 : C6.envs = C.envs := f6.envs.trans (f5.envs.trans en1)
   cases fl with
   | next =>
    obtain ⟨m6, O6, V6, j6⟩ := q6
    refine ⟨xs.length + 1 - (k + 1), by lia, C6, m6, H6, o4, k + 1, rfl, lt, fr6, en6, oth6, u6, O6, V6, I6, it4.frame fun o w => ?_, j6⟩
    rw [ho4] at w; cases w
    exact I6.exact u6 nf6
   | ret w =>
    obtain ⟨O6, av, w1, w2⟩ := q6
    exact ⟨C6.drop It, H6, out fr6 en6 oth6, I6.drop nf6, O6.drop ⟨P.loc, P.cell, nf6⟩, av, w1, w2⟩
   | brk => exact q6.elim
   | cont => exact q6.elim
 ·have nf1 : It ∉ C1.fr := P1.fr
  have I4 : Inv S (C1.drop It) H1' s4 := (I3.drop nf1).loose ⟨(I3.hid u1).1, (I3.hid u1).2, Cx.drop_self ..⟩ k4 g4 f4
  exact wpAny_execs_nil ⟨C1.drop It, H1', out fr1 en1 oth1, I4, m1, O1.drop P1, V1.drop P1, jd hend⟩
end
end Mine
end
-- text A8
section
namespace Mine
open PySem PySem.Calls PyProof.Rows
theorem cellsFrom_append : ∀ (names : List (Str × NameKind)) (n : Nat) (acc : List (Str × Addr)), cellsFrom n names acc = cellsFrom n names [] ++ acc
 | [], _, _ => rfl
 | (x, k) :: r, n, acc => by
  unfold cellsFrom
  split
  ·rw [cellsFrom_append r (n + 1) ((x, n) :: acc), cellsFrom_append r (n + 1) [(x, n)], List.append_assoc]; rfl
  ·exact cellsFrom_append r n acc
noncomputable def closL (env : Env) : List (Str × NameKind) → List (Str × Addr) → List (Str × Addr)
 | [], acc => acc
 | (x, k) :: r, acc => if k == .free then closL env r ((x, (env.cells.lookup x).getD 0) :: acc) else closL env r acc
theorem closureFor_eq {env : Env} {scope : Scope} (h : ∀ x, (x, NameKind.free) ∈ scope.names → ∃ c, env.cells.lookup x = some c) : closureFor scope env = pure (closL env scope.names []) := by
 have go : ∀ (names : List (Str × NameKind)) (acc : List (Str × Addr)), (∀ x, (x, NameKind.free) ∈ names → ∃ c, env.cells.lookup x = some c) →
   (forIn names acc (fun (p : Str × NameKind) (r : List (Str × Addr)) => if p.2 == .free then (do let c ← cellOf env p.1; pure (ForInStep.yield ((p.1, c) :: r))) else (pure (ForInStep.yield r) : Sem _)) : Sem (List (Str × Addr))) = pure (closL env names acc) := by
  intro names
  induction names with
  | nil => intro acc _; rw [List.forIn_nil]; rfl
  | cons p r ih =>
   obtain ⟨x, k⟩ := p
   intro acc hh
   rw [List.forIn_cons]
   unfold closL
   by_cases hk : (k == NameKind.free) = true
   ·rw [if_pos hk, if_pos hk]
    have ek : k = .free := by simpa using hk
    subst ek
    obtain ⟨c, hc⟩ := hh x (.head _)
    have e1 : cellOf env x = pure c := by unfold cellOf; rw [hc]
    rw [e1, pure_bind, pure_bind, hc]
    exact ih _ fun y hy => hh y (.tail _ hy)
   ·rw [if_neg hk, if_neg hk, pure_bind]
    exact ih _ fun y hy => hh y (.tail _ hy)
 have := go scope.names [] h
 unfold closureFor
 simp only
 rw [← this]
 simp only [bind_pure]
theorem closL_mem {env : Env} : ∀ {names : List (Str × NameKind)} {acc : List (Str × Addr)} {x : Str} {c : Addr}, (x, c) ∈ closL env names acc → (x, c) ∈ acc ∨ ((x, NameKind.free) ∈ names ∧ c = (env.cells.lookup x).getD 0)
 | [], _, _, _, h => .inl h
 | (y, k) :: r, acc, x, c, h => by
  unfold closL at h
  by_cases hk : (k == NameKind.free) = true
  ·rw [if_pos hk] at h
   have ek : k = .free := by simpa using hk
   subst ek
   rcases closL_mem h with q | ⟨q1, q2⟩
   ·rcases List.mem_cons.mp q with e | q
    ·cases e; exact .inr ⟨.head _, rfl⟩
    ·exact .inl q
   ·exact .inr ⟨.tail _ q1, q2⟩
  ·rw [if_neg hk] at h
   exact (closL_mem h).imp id fun ⟨q1, q2⟩ => ⟨.tail _ q1, q2⟩
theorem closL_has {env : Env} : ∀ {names : List (Str × NameKind)} {acc : List (Str × Addr)} {x : Str}, (x, NameKind.free) ∈ names ∨ (acc.lookup x).isSome = true → ((closL env names acc).lookup x).isSome = true
 | [], _, _, h => h.elim (fun q => nomatch q) id
 | (y, k) :: r, acc, x, h => by
  unfold closL
  by_cases hk : (k == NameKind.free) = true
  ·rw [if_pos hk]
   refine closL_has ?_
   rcases h with h | h
   ·rcases List.mem_cons.mp h with e | h
    ·cases e; exact .inr (by rw [List.lookup_cons, beq_self_eq_true]; rfl)
    ·exact .inl h
   ·refine .inr ?_
    rw [List.lookup_cons]
    cases hxy : x == y
    ·exact h
    ·rfl
  ·rw [if_neg hk]
   refine closL_has (h.imp (fun h => ?_) id)
   rcases List.mem_cons.mp h with e | h
   ·cases e; exact absurd rfl hk
   ·exact h
noncomputable def relab (sc : Kd) (names : List (Str × NameKind)) : Kd := fun y => match names.lookup y with
 | some .free => if sc y = some .cell then some .cell else some .free
 | k => k
theorem relab_eq {env : Env} {scope : Scope} {sc : Kd} (hk : env.scope.kind = .function) (he : ∀ x, env.kindOf x = sc x) (y : Str) : (relabel scope env).names.lookup y = relab sc scope.names y := by
 unfold relabel relab
 dsimp only
 generalize scope.names = names
 induction names with
 | nil => rfl
 | cons p r ih =>
  obtain ⟨n, k⟩ := p
  rw [List.map_cons, List.lookup_cons]
  by_cases hy : (y == n) = true
  ·have e : y = n := by simpa using hy
   subst e
   simp only [hk, he]
   cases k <;> simp [List.lookup_cons] <;> (try (by_cases q : sc y = some .cell <;> simp [q]))
  ·have hy' : (y == n) = false := by simpa using hy
   by_cases hc : ((k == NameKind.free && env.scope.kind == .function && env.kindOf n == some .cell) = true)
   ·rw [if_pos hc, List.lookup_cons, hy']; exact ih
   ·rw [if_neg hc, List.lookup_cons, hy']; exact ih
section
variable {S : St} {C : Cx} {H : AH} {s : Shared} {A : Around}
theorem Inv.hideNew (I : Inv S C H s) {s' : Shared} (hk : ∀ b o, s.heap.get? b = some o → s'.heap.get? b = some o) (hg : s'.gens = s.gens) (ho : s'.os = s.os) :
  Inv S { C with U := fun a => if s.heap.objs.size ≤ a then s'.heap.get? a else C.U a } H s' := by
 have J := I.grow hk hg ho
 have nn : ∀ a, s.heap.objs.size ≤ a → s.heap.get? a = none := fun a ha => by
  cases q : s.heap.get? a with
  | none => rfl
  | some o => exact absurd (Heap.lt_size q) (Nat.not_lt.mpr ha)
 refine ⟨J.base, fun a o e => ?_, J.objs, fun a o e => ⟨?_, (J.sepH a o e).2⟩, fun a o e => ?_, J.gens, J.os, fun a ha => ?_⟩
 ·by_cases q : s.heap.objs.size ≤ a
  ·simp only [if_pos q] at e; exact .inl e
  ·simp only [if_neg q] at e; exact J.keep a o e
 ·have lt := I.lt e
  simp only [if_neg (Nat.not_le.mpr lt)]; exact (I.sepH a o e).1
 ·by_cases q : s.heap.objs.size ≤ a
  ·exact (I.fresh (nn a q)).2.2
  ·simp only [if_neg q] at e; exact I.sepU a o e
 ·obtain ⟨o, e⟩ := I.frU a ha
  obtain ⟨ob, w⟩ := (I.keep a o e).there
  exact ⟨o, by simp only [if_neg (Nat.not_le.mpr (Heap.lt_size w))]; exact e⟩
theorem newCompEnv {M : Model} {scope : Scope} {cl : List (Str × Addr)} {env : Env} {E : Value → Shared → Prop} {Q : Env → Shared → Prop}
  (hQ : Q { scope := scope, locals := s.heap.objs.size, globals := env.globals, cells := cellsFrom (s.heap.objs.size + 1) scope.names cl, qual := env.qual, func := none, code := env.code, frame := env.frame, builtins := env.builtins }
   { s with heap := pushCells (s.heap.push { cls := .type "dict", data := .dict #[] }) scope.names }) :
  wpAny M A (newFunctionEnv scope env.globals cl [] env.qual none .none (some env)) Q E s := by
 simp only [newFunctionEnv, Option.isSome_some, if_true]
 refine wpAny_bind (wpAny_alloc ?_)
 refine wpAny_bind (wpAny_layCells _ (fun name kind cells => by cases hkc : kind == NameKind.cell <;> simp [hkc]) _ _ _ _ ?_)
 rw [show ({ s with heap := s.heap.push { cls := .type "dict", data := .dict #[] } } : Shared).heap.objs.size = s.heap.objs.size + 1 from Heap.size_push ..]
 refine wpAny_bind (m := forIn ([] : List (Str × Value)) _ _) ?_
 rw [List.forIn_nil]
 exact wpAny_pure (wpAny_pure hQ)
end
noncomputable def SoundFs (S : St) (b : Bool) (d : Nat) (sc : Kd) (ρ : Rho) (es : List Expr) (t : Tb) : Prop :=
 ∀ (C : Cx) (A : Around) (env : Env) (m : Mp) (H : AH) (Q : Bool → AH → Prop) (X : QX) (E : Value → Shared → Prop) (s : Shared),
  Room b d A → EnvOK S C A env → (∀ x, env.kindOf x = sc x) → EnvRel C env ρ m → Inv S C H s → t m H Q X → ExOK S C X E →
  wpAny S.M A (forIn es true fun c r => if r = true then do let ok ← isTrue c env (eval c env); pure (ForInStep.yield ok) else pure (ForInStep.yield r)) (PostB S C Q) E s
theorem sFs_nil {S : St} {b : Bool} {d : Nat} {sc : Kd} {ρ : Rho} : SoundFs S b d sc ρ [] (tBoolNil true) := by
 intro C A env m H Q X E s R O hk V I h hE
 rw [List.forIn_nil]
 exact wpAny_pure ⟨H, I, h⟩
theorem sFs_one {S : St} {b : Bool} {d : Nat} {sc : Kd} {ρ : Rho} {e : Expr} {t : Tb} (h1 : SoundB S b d sc ρ e t) : SoundFs S b d sc ρ [e] t := by
 intro C A env m H Q X E s R O hk V I h hE
 rw [List.forIn_cons]
 simp only [if_true]
 refine wpAny_bind (wpAny_bind (wpAny_mono (h1 C A env m H _ X E s R O hk V I h hE) ?_ fun _ _ x => x))
 rintro c s1 ⟨H1, I1, q1⟩
 refine wpAny_pure ?_
 show wpAny S.M A (forIn [] c _) _ E s1
 rw [List.forIn_nil]
 exact wpAny_pure ⟨H1, I1, q1⟩
noncomputable def noX : QX := fun _ _ => False
theorem noX_ok {S : St} {C : Cx} {E : Value → Shared → Prop} : ExOK S C noX E := fun _ _ _ _ h => h.elim
inductive CompJ (m : Mp) (i : Nat) (tc : Tb) (te : Tm) (v : AV) (H1 : AH) (Q : QV) : Prop
 | mk (kd : SK) (xs : List AV) : ItemsK kd H1 v xs → (J : Nat → List AV → AH → Prop) → J 0 [] H1 → (∀ k ys H', J k ys H' → k ≤ xs.length →
  ItemsK kd H' v xs ∧ (∀ x, xs[k]? = some x → tc (m.upd i x) H' (fun c H2 => if c = true then te (m.upd i x) H2 (fun y H3 => J (k + 1) (ys ++ [y]) H3) noX else J (k + 1) ys H2) noX) ∧
  (k = xs.length → ∀ a, H' a = none → Q (.ref a) (H'.put a (.list ys)))) → CompJ m i tc te v H1 Q
noncomputable def tComp (t : Tm) (i : Nat) (tc : Tb) (te : Tm) : Tm := fun m H Q X => t m H (fun v H1 => CompJ m i tc te v H1 Q) X
structure CompAt (scope : Scope) (sc : Kd) (ρ : Rho) (x : Str) (i : Nat) : Prop where
 kind : scope.kind = .function
 var : scope.names.lookup x = some .local ∨ scope.names.lookup x = some .cell
 free : ∀ p ∈ scope.names, p.2 = .free → sc p.1 = some .cell ∨ sc p.1 = some .free
 names : ∀ z ∈ scope.names, z.2 = .local → scope.names.lookup z.1 = some .local
 nodup : (scope.names.map (·.1)).Nodup
 new : ∀ p ∈ ρ, p.2 ≠ i
 rho : RhoOK ρ
noncomputable def rhoIn (scope : Scope) (ρ : Rho) (x : Str) (i : Nat) : Rho := (x, i) :: ρ.filter fun p => scope.names.lookup p.1 == some .free
theorem nodup_lookup {names : List (Str × NameKind)} (hn : (names.map (·.1)).Nodup) : ∀ {x : Str} {k : NameKind}, (x, k) ∈ names → names.lookup x = some k := by
 induction names with
 | nil => intro x k h; nomatch h
 | cons p r ih =>
  obtain ⟨y, k'⟩ := p
  obtain ⟨h1, h2⟩ := List.nodup_cons.mp hn
  intro x k h
  rw [List.lookup_cons]
  rcases List.mem_cons.mp h with e | hm
  ·cases e; simp
  ·have : (x == y) = false := by
    cases q : x == y with
    | false => rfl
    | true =>
     have e : x = y := by simpa using q
     subst e
     exact absurd (List.mem_map.mpr ⟨(x, k), hm, rfl⟩ : x ∈ r.map (·.1)) h1
   rw [this]; exact ih h2 hm
theorem CompAt.rhoIn {scope : Scope} {sc : Kd} {ρ : Rho} {x : Str} {i : Nat} (h : CompAt scope sc ρ x i) : RhoOK (rhoIn scope ρ x i) := by
 have nx : ∀ p ∈ ρ.filter (fun p => scope.names.lookup p.1 == some .free), p.1 ≠ x ∧ p.2 ≠ i := fun p hp => by
  obtain ⟨h1, h2⟩ := List.mem_filter.mp hp
  refine ⟨fun q => ?_, h.new p h1⟩
  have h2 : scope.names.lookup p.1 = some .free := by simpa using h2
  rw [q] at h2
  rcases h.var with w | w <;> rw [w] at h2 <;> cases h2
 intro p hp q hq
 rcases List.mem_cons.mp hp with rfl | hp <;> rcases List.mem_cons.mp hq with rfl | hq
 ·simp
 ·have := nx q hq; exact ⟨fun e => absurd e.symm this.1, fun e => absurd e.symm this.2⟩
 ·have := nx p hp; exact ⟨fun e => absurd e this.1, fun e => absurd e this.2⟩
 ·exact h.rho p (List.mem_filter.mp hp).1 q (List.mem_filter.mp hq).1
structure CompFin (S : St) (C : Cx) (Q : QV) (D L : Addr) (s' : Shared) : Prop where
 ex : ∃ C1 H1 ys vs nD oL mL, (∀ a o, C.U a = some o → C1.U a = some o) ∧ C1.fr = C.fr ∧ C1.envs = C.envs ∧ C1.U D = some { cls := .type "list", data := .seq (List.toArray vs) nD } ∧ VRs vs ys ∧ vs.length ≤ sizeLine ∧
  C1.U L = some oL ∧ NsObj oL mL ∧ D ∉ C.fr ∧ L ∉ C.fr ∧ Inv S C1 H1 s' ∧ (∀ a, H1 a = none → Q (.ref a) (H1.put a (.list ys)))
 newD : C.U D = none
 newL : C.U L = none
 ne : D ≠ L
inductive CmpI (S : St) (C : Cx) (A : Around) (cenv : Env) (ρ' : Rho) (kd : SK) (v : AV) (xs : List AV) (It D : Addr) (i : Nat) (m : Mp) (J : Nat → List AV → AH → Prop) (n : Nat) (s' : Shared) : Prop
 | mk (C1 : Cx) (ys : List AV) (vs : List Value) (nD : Nat) (H1 : AH) (o : Obj) (k : Nat) (mk : Mp) : n = xs.length + 1 - k → k ≤ xs.length → C1.fr = C.fr → C1.envs = C.envs → (∀ a o, C.U a = some o → C1.U a = some o) → C1.U It = some o →
   C1.U D = some { cls := .type "list", data := .seq (List.toArray vs) nD } → VRs vs ys → vs.length ≤ k → EnvOK S C1 A cenv → EnvRel C1 cenv ρ' mk → (∀ j, j ≠ i → mk j = m j) → Inv S C1 H1 s' → ItAt S kd v xs k It s'.heap → J k ys H1 → CmpI S C A cenv ρ' kd v xs It D i m J n s'
set_option maxHeartbeats 4000000 in
theorem comp_core {S : St} {d : Nat} {sc : Kd} {ρ : Rho} {elt iter : Expr} {x : Str} {i : Nat} {px : Pos} {ifs : List Expr} {scope : Scope} {pos p0 : Pos} {t te : Tm} {tc : Tb}
  (h1 : SoundE S true d sc ρ iter t) (h2 : SoundFs S true d (relab sc scope.names) (rhoIn scope ρ x i) ifs tc) (h3 : SoundE S true d (relab sc scope.names) (rhoIn scope ρ x i) elt te) (hc : CompAt scope sc ρ x i)
  (hs : ∀ env v, foldedSetIterable iter env v = pure v)
  {C : Cx} {A : Around} {env : Env} {m : Mp} {H : AH} {Q : QV} {X : QX} {E : Value → Shared → Prop} {s : Shared} {use : Option (Value → Sem Unit)} {Qc : Value → Shared → Prop}
  (R : Room true d A) (O : EnvOK S C A env) (hk : ∀ x, env.kindOf x = sc x) (V : EnvRel C env ρ m) (I : Inv S C H s) (h : tComp t i tc te m H Q X) (hE : ExOK S C X E)
  (fin : ∀ D L s', CompFin S C Q D L s' → compPost S.M A E use Qc (.ref D) L (.ok .next) s') :
  wpAny S.M A (comprehension (.ListComp elt [⟨.Name x px, iter, ifs, 0⟩] scope pos) scope env p0 (newList []) false (eval iter env) use) Qc E s := by
 have hh := R.hd rfl
 have hclos := closureFor_eq (env := env) (scope := scope) fun y hy => O.cells y (by rw [hk]; exact hc.free _ hy rfl)
 refine wpAny_comprehension_free rfl (hs env) hclos hc.kind hc.names (wpAny_mono (h1 C A env m H _ X E s R O hk V I h hE) ?_ fun _ _ x => x)
 rintro cv s1 ⟨v, H1, r1, I1, kd, xs, hi, J, j0, jn⟩
 refine iter_start I1 r1 hi fun It oI s2 n2 g2 k2 e2 f2 it2 => ?_
 have hUI := (I1.fresh n2).2.1
 have hlen := items_le I1 hi
 have I2 := I1.hide n2 k2 g2 e2 f2
 have ltI : @LT.lt Nat _ It s2.heap.objs.size := Heap.lt_size g2
 refine wpAny_newObj_type ?_
 refine newCompEnv ?_
 have eD : (s2.heap.push { cls := .type "list", dict := none, data := .seq ([] : List Value).toArray }).objs.size = s2.heap.objs.size + 1 := Heap.size_push ..
 dsimp only
 rw [eD]
 have ok := cellsFrom_ok scope.names ((s2.heap.push { cls := .type "list", dict := none, data := .seq ([] : List Value).toArray }).push { cls := .type "dict", data := .dict #[] }) (s2.heap.objs.size + 2) [] ⟨fun _ _ hm => (nomatch hm), List.Pairwise.nil⟩ (by rw [Heap.size_push, eD]; exact Nat.le_refl _)
 rw [Heap.size_push, eD] at ok
 generalize hh4 : pushCells ((s2.heap.push { cls := .type "list", dict := none, data := .seq ([] : List Value).toArray }).push { cls := .type "dict", data := .dict #[] }) scope.names = h4 at ok ⊢
 have up4 : ∀ b o, ((s2.heap.push { cls := .type "list", dict := none, data := .seq ([] : List Value).toArray }).push { cls := .type "dict", data := .dict #[] }).get? b = some o → h4.get? b = some o := fun b o e => by rw [← hh4]; exact pushCells_keeps _ _ b o e
 have kp4 : ∀ b o, s2.heap.get? b = some o → h4.get? b = some o := fun b o e => up4 b o (Heap.get?_push_of_some _ (Heap.get?_push_of_some _ e))
 have gD : h4.get? s2.heap.objs.size = some { cls := .type "list", data := .seq ([] : List Value).toArray } := up4 _ _ (Heap.get?_push_of_some _ (Heap.get?_push_size _ rfl))
 have gL : h4.get? (s2.heap.objs.size + 1) = some { cls := .type "dict", data := .dict #[] } := by
  have := up4 (s2.heap.push { cls := .type "list", dict := none, data := .seq ([] : List Value).toArray }).objs.size _ (Heap.get?_push_size _ rfl)
  rwa [eD] at this
 have I4 := I2.hideNew (s' := { s2 with heap := h4 }) kp4 rfl rfl
 have hlt : ∀ a o, C.U a = some o → @LT.lt Nat _ a s2.heap.objs.size := fun a o e => by
  obtain ⟨ob, w⟩ := (I1.keep a o e).there
  exact Heap.lt_size (k2 _ _ w)
 generalize hC4 : ({ C.hide It oI with U := fun a => if s2.heap.objs.size ≤ a then h4.get? a else (C.hide It oI).U a } : Cx) = C4 at I4
 have fr4 : C4.fr = C.fr := by rw [← hC4]; rfl
 have en4 : C4.envs = C.envs := by rw [← hC4]; rfl
 have U4n : ∀ a, s2.heap.objs.size ≤ a → C4.U a = h4.get? a := fun a ha => by rw [← hC4]; exact if_pos ha
 have U4o : ∀ a o, C.U a = some o → C4.U a = some o := fun a o e => by
  have lt := hlt a o e
  rw [← hC4]
  show (if s2.heap.objs.size ≤ a then _ else _) = _
  rw [if_neg (Nat.not_le.mpr lt), Cx.hide_ne _ _ fun q => by rw [q, hUI] at e; cases e]; exact e
 have U4I : C4.U It = some oI := by
  rw [← hC4]
  show (if s2.heap.objs.size ≤ It then _ else _) = _
  rw [if_neg (Nat.not_le.mpr ltI)]; exact Cx.hide_self ..
 have newU : ∀ a, s2.heap.objs.size ≤ a → C.U a = none := fun a ha => by
  cases q : C.U a with
  | none => rfl
  | some o => exact absurd (hlt a o q) (Nat.not_lt.mpr ha)
 have frlt : ∀ a, a ∈ C.fr → @LT.lt Nat _ a s2.heap.objs.size := fun a ha => by obtain ⟨o, e⟩ := I.frU a ha; exact hlt a o e
 have hcells : ∀ y c, (cellsFrom (s2.heap.objs.size + 1 + 1) scope.names (closL env scope.names [])).lookup y = some c →
   (s2.heap.objs.size + 2 ≤ c ∧ h4.IsCell c none ∧ (y, c) ∈ cellsFrom (s2.heap.objs.size + 1 + 1) scope.names []) ∨ ((y, NameKind.free) ∈ scope.names ∧ env.cells.lookup y = some c) := fun y c e => by
  rw [cellsFrom_append] at e
  rcases List.mem_append.mp (mem_of_lookup e) with q | q
  ·exact .inl ⟨(ok.empty y c q).2, (ok.empty y c q).1, q⟩
  ·rcases closL_mem q with w | ⟨w1, w2⟩
   ·nomatch w
   ·obtain ⟨c', hc'⟩ := O.cells y (by rw [hk]; exact hc.free _ w1 rfl)
    rw [hc'] at w2
    exact .inr ⟨w1, by rw [hc', w2]; rfl⟩
 generalize hcenv : ({ scope := relabel scope env, locals := s2.heap.objs.size + 1, globals := env.globals, cells := cellsFrom (s2.heap.objs.size + 1 + 1) scope.names (closL env scope.names []), qual := env.qual, func := none, code := env.code, frame := env.frame, builtins := env.builtins } : Env) = cenv
 have c1 : cenv.locals = s2.heap.objs.size + 1 := by rw [← hcenv]
 have c2 : cenv.cells = cellsFrom (s2.heap.objs.size + 1 + 1) scope.names (closL env scope.names []) := by rw [← hcenv]
 have ckd : ∀ y, cenv.kindOf y = relab sc scope.names y := fun y => by
  rw [← hcenv]; exact relab_eq O.kind hk y
 have cown : ∀ y, scope.names.lookup y = some .cell → ∀ c, cenv.cells.lookup y = some c → s2.heap.objs.size + 2 ≤ c := fun y hy c e => by
  rw [c2] at e
  rcases hcells y c e with q | ⟨q, _⟩
  ·exact q.1
  ·rw [nodup_lookup hc.nodup q] at hy; cases hy
 have O4 : EnvOK S C4 A cenv := by
  refine ⟨by rw [← hcenv]; exact hc.kind, by rw [← hcenv]; exact O.glob, by rw [← hcenv]; exact O.blt, fun y hy => ?_, fun y c e => ?_, fun y z c ey ez => ?_, ?_, by rw [en4]; exact O.stack, fun e he => ?_⟩
  ·rw [c2]
   refine Option.isSome_iff_exists.mp ?_
   rw [ckd] at hy
   unfold relab at hy
   cases q : scope.names.lookup y with
   | none => rw [q] at hy; simp at hy
   | some k =>
    cases k with
    | cell => exact cellsFrom_mem (.inl q)
    | free => exact cellsFrom_mem (.inr (closL_has (.inl (mem_of_lookup q))))
    | _ => rw [q] at hy; simp at hy
  ·rw [c2] at e
   rw [c1, fr4]
   rcases hcells y c e with ⟨q1, ⟨o, q2, q3⟩, _⟩ | ⟨q1, q2⟩
   ·refine ⟨by (first | omega | exact Nat.ne_of_lt (by omega) | exact Nat.ne_of_gt (by omega)), fun w => ?_, o, none, (U4n c (by (first | omega | exact Nat.ne_of_lt (by omega) | exact Nat.ne_of_gt (by omega)))).trans q2, q3⟩
    have := frlt c w; (first | omega | exact Nat.ne_of_lt (by omega) | exact Nat.ne_of_gt (by omega))
   ·obtain ⟨w1, w2, o, v', w3, w4⟩ := O.cellU y c q2
    have := hlt c o w3
    exact ⟨by (first | omega | exact Nat.ne_of_lt (by omega) | exact Nat.ne_of_gt (by omega)), w2, o, v', U4o c o w3, w4⟩
  ·rw [c2] at ey ez
   rcases hcells y c ey with ⟨q1, _, q2⟩ | ⟨q1, q2⟩ <;> rcases hcells z c ez with ⟨w1, _, w2⟩ | ⟨w1, w2⟩
   ·exact name_of_addr ok.apart q2 w2
   ·obtain ⟨_, _, o, _, w3, _⟩ := O.cellU z c w2; have := hlt c o w3; (first | omega | exact Nat.ne_of_lt (by omega) | exact Nat.ne_of_gt (by omega))
   ·obtain ⟨_, _, o, _, w3, _⟩ := O.cellU y c q2; have := hlt c o w3; (first | omega | exact Nat.ne_of_lt (by omega) | exact Nat.ne_of_gt (by omega))
   ·exact O.apart y z c q2 w2
  ·exact ⟨_, fun _ => none, by rw [c1]; exact (U4n _ (by (first | omega | exact Nat.ne_of_lt (by omega) | exact Nat.ne_of_gt (by omega)))).trans gL, #[], 0, rfl, fun e he => by simp at he, fun _ => rfl⟩
  ·rw [en4] at he
   obtain ⟨q1, L, o, q2, q3, q4, q5⟩ := O.fun_ e he
   exact ⟨q1, L, o, q2, by rw [fr4]; exact q3, U4o L o q4, q5⟩
 have V4 : EnvRel C4 cenv (rhoIn scope ρ x i) (fun j => if j = i then none else m j) := by
  intro y j w hy hw
  rcases List.mem_cons.mp hy with e | hy
  ·cases e; simp at hw
  ·obtain ⟨y1, y2⟩ := List.mem_filter.mp hy
   have y2 : scope.names.lookup y = some .free := by simpa using y2
   have nj : j ≠ i := hc.new _ y1
   simp only [if_neg nj] at hw
   obtain ⟨cv', q1, V'⟩ := V y j w y1 hw
   have hsc := hc.free _ (mem_of_lookup y2) rfl
   rcases V' with ⟨k1, _⟩ | ⟨_, c, o, k1, k2, k3⟩
   ·rw [hk] at k1; rcases hsc with q | q <;> rw [k1] at q <;> cases q
   ·refine ⟨cv', q1, .inr ⟨?_, c, o, ?_, U4o c o k2, k3⟩⟩
    ·rw [ckd]; unfold relab; rw [y2]
     by_cases q : sc y = some .cell <;> simp [q]
    ·obtain ⟨c', hc'⟩ := O4.cells y (by rw [ckd]; unfold relab; rw [y2]; by_cases q : sc y = some .cell <;> simp [q])
     have hc'' := hc'
     rw [c2] at hc'
     rcases hcells y c' hc' with ⟨_, _, q⟩ | ⟨_, q⟩
     ·rcases cellsFrom_kind q with w | w
      ·nomatch w
      ·rw [nodup_lookup hc.nodup w] at y2; cases y2
     ·rw [q] at k1; cases k1; exact hc''
 have it4 : ItAt S kd v xs 0 It h4 := it2.frame fun o e => kp4 _ _ e
 have hvar : cenv.kindOf x = some .local ∨ cenv.kindOf x = some .cell := by
  rw [ckd]; unfold relab
  rcases hc.var with q | q <;> rw [q] <;> simp
 have apI : ∀ {C' : Cx}, C'.fr = C.fr → Apart C' cenv It := fun {C'} e => by
  refine ⟨by rw [c1]; (first | omega | exact Nat.ne_of_lt (by omega) | exact Nat.ne_of_gt (by omega)), fun y q => ?_, fun q => ?_⟩
  ·rw [c2] at q
   rcases hcells y It q with ⟨w, _⟩ | ⟨_, w⟩
   ·(first | omega | exact Nat.ne_of_lt (by omega) | exact Nat.ne_of_gt (by omega))
   ·obtain ⟨_, _, o, _, w3, _⟩ := O.cellU y It w; rw [hUI] at w3; cases w3
  ·rw [e] at q; obtain ⟨o, w⟩ := I.frU It q; rw [hUI] at w; cases w
 have apD : ∀ {C' : Cx}, C'.fr = C.fr → Apart C' cenv s2.heap.objs.size := fun {C'} e => by
  refine ⟨by rw [c1]; (first | omega | exact Nat.ne_of_lt (by omega) | exact Nat.ne_of_gt (by omega)), fun y q => ?_, fun q => ?_⟩
  ·rw [c2] at q
   rcases hcells y _ q with ⟨w, _⟩ | ⟨_, w⟩
   ·(first | omega | exact Nat.ne_of_lt (by omega) | exact Nat.ne_of_gt (by omega))
   ·obtain ⟨_, _, o, _, w3, _⟩ := O.cellU y _ w; have := hlt _ o w3; (first | omega | exact Nat.ne_of_lt (by omega) | exact Nat.ne_of_gt (by omega))
  ·rw [e] at q; have := frlt _ q; (first | omega | exact Nat.ne_of_lt (by omega) | exact Nat.ne_of_gt (by omega))
 have hD0 : C.U s2.heap.objs.size = none := newU _ (Nat.le_refl _)
 have hL0 : C.U (s2.heap.objs.size + 1) = none := newU _ (by (first | omega | exact Nat.ne_of_lt (by omega) | exact Nat.ne_of_gt (by omega)))
 have loop : codeAny S.M A (.compLoop (.ListComp elt [⟨.Name x px, iter, ifs, 0⟩] scope pos) 0 (.ref It) (.ref s2.heap.objs.size) cenv) (compPost S.M A E use Qc (.ref s2.heap.objs.size) cenv.locals) { s2 with heap := h4 } := by
  refine codeAny_compLoop_tests (CmpI S C A cenv (rhoIn scope ρ x i) kd v xs It s2.heap.objs.size i m J) ?_ (xs.length + 1)
   ⟨C4, [], [], 0, H1, oI, 0, _, rfl, Nat.zero_le _, fr4, en4, U4o, U4I, (U4n _ (Nat.le_refl _)).trans gD, .nil, Nat.le_refl _, O4, V4, fun j hj => if_neg hj, I4, it4, j0⟩
  rintro n s3 ⟨C1, ys, vs, nD, H1', o1, k, mk, rfl, hk1, fr1, en1, sup1, u1, uD, hys, hvl, O1, V1, mk1, I3, it3, j3⟩
  obtain ⟨ji, js, jd⟩ := jn k ys H1' j3 hk1
  refine iter_next I3 hh ji it3 hk1 (fun cw y s4 hy hr it4' k4 g4 f4 => ?_) fun s4 hend k4 g4 f4 => ?_
  ·obtain ⟨o4, ho4⟩ := it4'.there
   have I4' := I3.turn u1 k4 ho4 g4 f4
   have lt : k < xs.length := (List.getElem?_eq_some_iff.mp hy).1
   show wpAny S.M A (do standAt px; bindName cenv x cw) _ _ s4
   refine wpAny_bind (wpAny_standAt (wpAny_mono (store_var (O1.hide (apI fr1) o4) (V1.hide (apI fr1) o4) I4' hc.rhoIn (.head _) hr hvar) ?_ fun _ _ x => x))
   rintro _ s5 ⟨C5, a5, o5, w5, e5, O5, V5, I5⟩
   have hmk : mk.upd i y = m.upd i y := by
    funext j
    by_cases q : j = i
    ·rw [q, Mp.upd_self, Mp.upd_self]
    ·rw [Mp.upd_ne _ _ q, Mp.upd_ne _ _ q]; exact mk1 j q
   rw [hmk] at V5
   have a5new : @LE.le Nat _ (s2.heap.objs.size + 1) a5 := by
    rcases w5 with ⟨_, w⟩ | ⟨w1, w2⟩
    ·rw [w, c1]; exact Nat.le_refl _
    ·have hcx : scope.names.lookup x = some .cell := by
      rcases hc.var with q | q
      ·rw [ckd] at w1; unfold relab at w1; rw [q] at w1; cases w1
      ·exact q
     have := cown x hcx a5 w2; (first | omega | exact Nat.ne_of_lt (by omega) | exact Nat.ne_of_gt (by omega))
   have nI : It ≠ a5 := by (first | omega | exact Nat.ne_of_lt (by omega) | exact Nat.ne_of_gt (by omega))
   have nD' : s2.heap.objs.size ≠ a5 := by (first | omega | exact Nat.ne_of_lt (by omega) | exact Nat.ne_of_gt (by omega))
   have u5 : C5.U It = some o4 := by rw [e5, Cx.hide_ne _ _ nI]; exact Cx.hide_self ..
   have uD5 : C5.U s2.heap.objs.size = some { cls := .type "list", data := .seq (List.toArray vs) nD } := by
    rw [e5, Cx.hide_ne _ _ nD', Cx.hide_ne _ _ (by (first | omega | exact Nat.ne_of_lt (by omega) | exact Nat.ne_of_gt (by omega)))]; exact uD
   have sup5 : ∀ a o, C.U a = some o → C5.U a = some o := fun a o e => by
    have := hlt a o e
    rw [e5, Cx.hide_ne _ _ (by (first | omega | exact Nat.ne_of_lt (by omega) | exact Nat.ne_of_gt (by omega))), Cx.hide_ne _ _ fun q => by rw [q, hUI] at e; cases e]; exact sup1 a o e
   have fr5 : C5.fr = C.fr := by rw [e5]; exact fr1
   have en5 : C5.envs = C.envs := by rw [e5]; exact en1
   refine wpAny_mono (h2 C5 A cenv (m.upd i y) H1' _ noX _ s5 R O5 ckd V5 I5 (js y hy) noX_ok) ?_ fun _ _ x => x
   rintro okb s6 ⟨H6, I6, q6⟩
   have itk : ∀ {s' : Shared} {H' : AH}, Inv S C5 H' s' → ItAt S kd v xs (k + 1) It s'.heap := fun {s' H'} I' => it4'.frame fun o w => by
    rw [ho4] at w; cases w
    exact I'.exact u5 (apI fr5).fr
   cases okb with
   | false =>
    simp only [Bool.false_eq_true, if_false] at q6 ⊢
    exact ⟨xs.length + 1 - (k + 1), by (first | omega | exact Nat.ne_of_lt (by omega) | exact Nat.ne_of_gt (by omega)), C5, ys, vs, nD, H6, o4, k + 1, _, rfl, lt, fr5, en5, sup5, u5, uD5, hys, by (first | omega | exact Nat.ne_of_lt (by omega) | exact Nat.ne_of_gt (by omega)), O5, V5, fun j hj => Mp.upd_ne _ _ hj, I6, itk I6, q6⟩
   | true =>
    simp only [if_true] at q6 ⊢
    refine wpAny_mono (h3 C5 A cenv (m.upd i y) H6 _ noX _ s6 R O5 ckd V5 I6 q6 noX_ok) ?_ fun _ _ x => x
    rintro cz s7 ⟨z, H7, r7, I7, q7⟩
    have gD7 := I7.exact uD5 (apD fr5).fr
    refine append_at (hsz := by rw [List.size_toArray]; have := hlen; (first | omega | exact Nat.ne_of_lt (by omega) | exact Nat.ne_of_gt (by omega))) gD7 fun h8 sb8 g8 => ?_
    have I8 := I7.turn (s' := { s7 with heap := h8 }) uD5 (fun b ob hb e => (sb8.2 b hb).trans e) (by rw [List.push_toArray] at g8; exact g8) rfl rfl
    refine ⟨xs.length + 1 - (k + 1), by (first | omega | exact Nat.ne_of_lt (by omega) | exact Nat.ne_of_gt (by omega)), C5.hide s2.heap.objs.size { cls := .type "list", data := .seq (List.toArray (vs ++ [cz])) (nD + 1) }, ys ++ [z], vs ++ [cz], nD + 1, H7, o4, k + 1, _, rfl, lt, fr5, en5, fun a o e => ?_, ?_, Cx.hide_self .., hys.append (.cons r7 .nil), by simp; (first | omega | exact Nat.ne_of_lt (by omega) | exact Nat.ne_of_gt (by omega)), O5.hide (apD fr5) _, V5.hide (apD fr5) _, fun j hj => Mp.upd_ne _ _ hj, I8, (itk I7).frame fun o w => ?_, q7⟩
    ·have := hlt a o e
     rw [Cx.hide_ne _ _ (by (first | omega | exact Nat.ne_of_lt (by omega) | exact Nat.ne_of_gt (by omega)))]; exact sup5 a o e
    ·rw [Cx.hide_ne _ _ (by (first | omega | exact Nat.ne_of_lt (by omega) | exact Nat.ne_of_gt (by omega)))]; exact u5
    ·exact (sb8.2 It (by (first | omega | exact Nat.ne_of_lt (by omega) | exact Nat.ne_of_gt (by omega)))).trans w
  ·obtain ⟨oL, mL, q1, q2⟩ := O1.loc
   rw [c1] at q1 ⊢
   have I4'' : Inv S (C1.drop It) H1' s4 := (I3.drop (apI fr1).fr).loose ⟨(I3.hid u1).1, (I3.hid u1).2, Cx.drop_self ..⟩ k4 g4 f4
   refine fin _ _ s4 ⟨⟨C1.drop It, H1', ys, vs, nD, oL, mL, fun a o e => ?_, fr1, en1, ?_, hys, by (first | omega | exact Nat.ne_of_lt (by omega) | exact Nat.ne_of_gt (by omega)), ?_, q2, fun q => ?_, fun q => ?_, I4'', jd hend⟩, hD0, hL0, by (first | omega | exact Nat.ne_of_lt (by omega) | exact Nat.ne_of_gt (by omega))⟩
   ·rw [Cx.drop_ne _ fun q => by rw [q, hUI] at e; cases e]; exact sup1 a o e
   ·rw [Cx.drop_ne _ (by (first | omega | exact Nat.ne_of_lt (by omega) | exact Nat.ne_of_gt (by omega)))]; exact uD
   ·rw [Cx.drop_ne _ (by (first | omega | exact Nat.ne_of_lt (by omega) | exact Nat.ne_of_gt (by omega)))]; exact q1
   ·have := frlt _ q; (first | omega | exact Nat.ne_of_lt (by omega) | exact Nat.ne_of_gt (by omega))
   ·have := frlt _ q; (first | omega | exact Nat.ne_of_lt (by omega) | exact Nat.ne_of_gt (by omega))
 have := codeAny_compStart_list loop (it4.self (s := { s2 with heap := h4 }) loop)
 rw [c1] at this
 exact this
theorem sE_comp {S : St} {d : Nat} {sc : Kd} {ρ : Rho} {elt iter : Expr} {x : Str} {i : Nat} {px : Pos} {ifs : List Expr} {scope : Scope} {pos : Pos} {t te : Tm} {tc : Tb}
  (h1 : SoundE S true d sc ρ iter t) (h2 : SoundFs S true d (relab sc scope.names) (rhoIn scope ρ x i) ifs tc) (h3 : SoundE S true d (relab sc scope.names) (rhoIn scope ρ x i) elt te) (hc : CompAt scope sc ρ x i)
  (hs : ∀ env v, foldedSetIterable iter env v = pure v) : SoundE S true d sc ρ (.ListComp elt [⟨.Name x px, iter, ifs, 0⟩] scope pos) (tComp t i tc te) := by
 intro C A env m H Q X E s R O hk V I h hE
 rw [eval_ListComp]
 refine comp_core h1 h2 h3 hc hs R O hk V I h hE (use := none) fun D L s' F => ?_
 obtain ⟨C1, H1, ys, vs, nD, oL, mL, sup, fr1, en1, uD, hys, hvl, uL, hL, nfD, nfL, I1, q⟩ := F.ex
 have hLx : s'.heap.get? L = some oL := I1.exact uL (by rw [fr1]; exact nfL)
 have hDx := I1.exact uD (by rw [fr1]; exact nfD)
 obtain ⟨es, ep, w1, w2, w3⟩ := hL
 refine ⟨mL, ⟨oL, es, ep, hLx, w1, w2, w3⟩, fun h' sb => ?_⟩
 have J1 : Inv S C H1 s' := I1.less (fun a ha _ => fr1 ▸ ha) sup I.frU
 have J2 : Inv S C H1 { s' with heap := h' } := J1.loose (a := L) ⟨(I1.hid uL).1, (I1.hid uL).2, F.newL⟩ (fun b o nb e => (sb.2 b nb).trans e) rfl rfl
 refine ⟨.ref D, H1.put D (.list ys), .ref D, J2.track ⟨(I1.hid uD).1, (I1.hid uD).2, F.newD⟩ ⟨vs, nD, (sb.2 D F.ne).trans hDx, hys, hvl⟩, q D (I1.hid uD).2⟩
theorem sT_assignComp {S : St} {d : Nat} {sc : Kd} {ρ : Rho} {elt iter : Expr} {x y : Str} {i j : Nat} {px py : Pos} {ifs : List Expr} {scope : Scope} {pos spos : Pos} {t te : Tm} {tc : Tb}
  (h1 : SoundE S true d sc ρ iter t) (h2 : SoundFs S true d (relab sc scope.names) (rhoIn scope ρ x i) ifs tc) (h3 : SoundE S true d (relab sc scope.names) (rhoIn scope ρ x i) elt te) (hc : CompAt scope sc ρ x i)
  (hs : ∀ env v, foldedSetIterable iter env v = pure v) (hy : ρ.lookup y = some j) (hk : sc y = some .local ∨ sc y = some .cell) :
  SoundT S true d sc ρ (.Assign [.Name y py] (.ListComp elt [⟨.Name x px, iter, ifs, 0⟩] scope pos) spos) (tAssign j (tComp t i tc te)) := by
 intro C A env m H QN QR X E s R O hce hk' V I h hE
 cases hsw : (env.blockKind == .function && env.kindOf y == some .local && py.line == (Expr.ListComp elt [⟨.Name x px, iter, ifs, 0⟩] scope pos).pos.line && !(scope.names.any fun (n, k) => n == y && (k == .local || k == .cell))) with
 | false =>
  have e : swapsWith (.ListComp elt [⟨.Name x px, iter, ifs, 0⟩] scope pos) (some (.Name y py)) spos.line env = pure false := by
   rw [← hsw]; rfl
  rw [exec_Assign_Name env y py _ spos e]
  refine wpAny_bind (wpAny_standAt (wpAny_bind (wpAny_mono (sE_comp h1 h2 h3 hc hs C A env m H _ X E s R O hk' V I h (hE.ex O)) ?_ fun _ _ x => x)))
  rintro v s1 ⟨av, H1, r1, I1, q1⟩
  refine wpAny_bind (wpAny_standAt (wpAny_bind (wpAny_mono (store_var O V I1 hc.rho (mem_of_lookup hy) r1 (by rw [hk']; exact hk)) ?_ fun _ _ x => x)))
  rintro _ s2 ⟨C2, a2, o2, w2, e2, O2, V2, I2⟩
  exact wpAny_pure ⟨C2, H1, .stored w2 e2, I2, _, O2, V2, q1⟩
 | true =>
  have e : swapsWith (.ListComp elt [⟨.Name x px, iter, ifs, 0⟩] scope pos) (some (.Name y py)) spos.line env = pure true := by
   rw [← hsw]; rfl
  rw [exec_Assign_Name_used (hs := e)]
  refine wpAny_bind (wpAny_standAt (wpAny_bind ?_))
  show wpAny _ A (do let _ ← comprehension (.ListComp elt [⟨.Name x px, iter, ifs, 0⟩] scope pos) scope env _ (newList []) false (eval iter env) (some (assign (.Name y py) env))) _ _ s
  refine wpAny_bind (wpAny_mono (comp_core (Qc := fun _ s' => PostS S C A env ρ QN QR .next s') h1 h2 h3 hc hs R O hk' V I h (hE.ex O) (use := some (assign (.Name y py) env)) fun D L s' F => ?_) (fun _ s' hq => wpAny_pure (wpAny_pure hq)) fun _ _ x => x)
  obtain ⟨C1, H1, ys, vs, nD, oL, mL, sup, fr1, en1, uD, hys, hvl, uL, hL, nfD, nfL, I1, q⟩ := F.ex
  have sm : ∀ {a : Addr}, (∃ o, C.U a = some o) → C1.U a = C.U a := fun {a} ⟨o, e⟩ => by rw [e]; exact sup a o e
  have s1 : C1.U env.locals = C.U env.locals := by obtain ⟨o, _, e, _⟩ := O.loc; exact sm ⟨o, e⟩
  have s2 : ∀ x c, env.cells.lookup x = some c → C1.U c = C.U c := fun x c hx => by obtain ⟨_, _, o, _, e, _⟩ := O.cellU x c hx; exact sm ⟨o, e⟩
  have O1 : EnvOK S C1 A env := O.of_U fr1 en1 s1 s2 fun L' hL' => sm (I.frU L' hL')
  have V1 : EnvRel C1 env ρ m := V.of_U s1 s2
  show wpAny S.M A (do standAt py; bindName env y (.ref D)) _ E s'
  refine wpAny_bind (wpAny_standAt (wpAny_mono (store_var O1 V1 I1 hc.rho (mem_of_lookup hy) (.ref D) (by rw [hk']; exact hk)) ?_ fun _ _ x => x))
  rintro _ s3 ⟨C2, a2, o2, w2, e2, O2, V2, I2⟩
  have inC : ∃ o, C.U a2 = some o := by
   rcases w2 with ⟨_, w⟩ | ⟨_, w⟩
   ·obtain ⟨o, _, e, _⟩ := O.loc; exact ⟨o, by rw [w]; exact e⟩
   ·obtain ⟨_, _, o, _, e, _⟩ := O.cellU y a2 w; exact ⟨o, e⟩
  have nL : L ≠ a2 := fun z => by obtain ⟨o, e⟩ := inC; rw [← z, F.newL] at e; cases e
  have nD2 : D ≠ a2 := fun z => by obtain ⟨o, e⟩ := inC; rw [← z, F.newD] at e; cases e
  have uL2 : C2.U L = some oL := by rw [e2, Cx.hide_ne _ _ nL]; exact uL
  have uD2 : C2.U D = some { cls := .type "list", data := .seq (List.toArray vs) nD } := by rw [e2, Cx.hide_ne _ _ nD2]; exact uD
  have fr2 : C2.fr = C.fr := by rw [e2]; exact fr1
  have hLx : s3.heap.get? L = some oL := I2.exact uL2 (by rw [fr2]; exact nfL)
  have hDx := I2.exact uD2 (by rw [fr2]; exact nfD)
  obtain ⟨es, ep, w1, w3, w4⟩ := hL
  refine ⟨mL, ⟨oL, es, ep, hLx, w1, w3, w4⟩, fun h' sb => ?_⟩
  have J1 : Inv S (C.hide a2 o2) H1 s3 := by
   refine I2.less (fun a ha _ => fr2 ▸ ha) (fun a o e => ?_) fun a ha => ?_
   ·rw [e2]
    by_cases z : a = a2
    ·rw [z, Cx.hide_self] at e ⊢; exact e
    ·rw [Cx.hide_ne _ _ z] at e ⊢; exact sup a o e
   ·by_cases z : a = a2
    ·exact ⟨o2, by rw [z]; exact Cx.hide_self ..⟩
    ·obtain ⟨o, e⟩ := I.frU a ha; exact ⟨o, (Cx.hide_ne _ _ z).trans e⟩
  have nUL : (C.hide a2 o2).U L = none := by rw [Cx.hide_ne _ _ nL]; exact F.newL
  have nUD : (C.hide a2 o2).U D = none := by rw [Cx.hide_ne _ _ nD2]; exact F.newD
  have J2 : Inv S (C.hide a2 o2) H1 { s3 with heap := h' } := J1.loose (a := L) ⟨(I2.hid uL2).1, (I2.hid uL2).2, nUL⟩ (fun b o nb e => (sb.2 b nb).trans e) rfl rfl
  have sm2 : ∀ {a : Addr}, (∃ o, C.U a = some o) → (C.hide a2 o2).U a = C2.U a := fun {a} ha => by
   rw [e2]
   by_cases z : a = a2
   ·rw [z, Cx.hide_self, Cx.hide_self]
   ·rw [Cx.hide_ne _ _ z, Cx.hide_ne _ _ z]; exact (sm ha).symm
  have t1 : (C.hide a2 o2).U env.locals = C2.U env.locals := by obtain ⟨o, _, e, _⟩ := O.loc; exact sm2 ⟨o, e⟩
  have t2 : ∀ x c, env.cells.lookup x = some c → (C.hide a2 o2).U c = C2.U c := fun x c hx => by obtain ⟨_, _, o, _, e, _⟩ := O.cellU x c hx; exact sm2 ⟨o, e⟩
  exact ⟨C.hide a2 o2, H1.put D (.list ys), .stored w2 rfl, J2.track ⟨(I2.hid uD2).1, (I2.hid uD2).2, nUD⟩ ⟨vs, nD, (sb.2 D F.ne).trans hDx, hys, hvl⟩, _,
   O2.of_U fr2.symm (by rw [e2]; exact en1.symm) t1 t2 fun L' hL' => sm2 (I.frU L' (fr2 ▸ hL')), V2.of_U t1 t2, q D (I2.hid uD2).2⟩
end Mine
end
-- text A9
section
namespace Mine
open PySem PySem.Calls PyProof.Rows
mutual
inductive Rd (H : AH) : AV → PyData → Prop
 | none : Rd H .none .none
 | bool (b : Bool) : Rd H (.bool b) (.bool b)
 | int (i : Int) : Rd H (.int i) (.int i)
 | str (x : Str) : Rd H (.str x) (.str x)
 | list {a : Addr} {xs : List AV} {ds : List PyData} : H a = some (.list xs) → RdAll H xs ds → Rd H (.ref a) (.list ds)
 | tuple {a : Addr} {xs : List AV} {ds : List PyData} : H a = some (.tuple xs) → RdAll H xs ds → Rd H (.ref a) (.tuple ds)
inductive RdAll (H : AH) : List AV → List PyData → Prop
 | nil : RdAll H [] []
 | cons {v : AV} {vs : List AV} {d : PyData} {ds : List PyData} : Rd H v d → RdAll H vs ds → RdAll H (v :: vs) (d :: ds)
end
section
variable {S : St} {C : Cx} {H : AH} {s : Shared}
theorem Inv.list (I : Inv S C H s) {a : Addr} {xs : List AV} (h : H a = some (.list xs)) : SeqAt s.heap a "list" xs := I.objs a _ h
theorem Inv.tuple (I : Inv S C H s) {a : Addr} {xs : List AV} (h : H a = some (.tuple xs)) : SeqAt s.heap a "tuple" xs := I.objs a _ h
theorem Rd.reads (I : Inv S C H s) {av : AV} {d : PyData} (h : Rd H av d) : ∀ {v : Value}, VR v av → ∃ as, Reads s.heap v d as ∧ d.canLay0 = true := by
 refine Rd.rec (motive_1 := fun av d _ => ∀ {v : Value}, VR v av → ∃ as, Reads s.heap v d as ∧ d.canLay0 = true) (motive_2 := fun avs ds _ => ∀ {vs : List Value}, VRs vs avs → ∃ as, ReadsAll s.heap vs ds as ∧ PyData.canLayAll0 ds = true) ?_ ?_ ?_ ?_ ?_ ?_ ?_ ?_ h
 ·intro v r; cases r; exact ⟨_, .none, by simp [PyData.canLay0]⟩
 ·intro b v r; cases r; exact ⟨_, .bool _, by simp [PyData.canLay0]⟩
 ·intro i v r; cases r; exact ⟨_, .int _ _, by simp [PyData.canLay0]⟩
 ·intro x v r; cases r with | str _ _ ok => exact ⟨_, .str _ _, by simp [PyData.canLay0, ok]⟩
 ·intro a xs ds h _ ih v r
  cases r
  obtain ⟨vs, n, g, hv, _⟩ := I.list h
  obtain ⟨as, r, c⟩ := ih hv
  exact ⟨_, .list g rfl rfl (by simpa using r), by simp [PyData.canLay0, c]⟩
 ·intro a xs ds h _ ih v r
  cases r
  obtain ⟨vs, n, g, hv, _⟩ := I.tuple h
  obtain ⟨as, r, c⟩ := ih hv
  exact ⟨_, .tuple g rfl rfl (by simpa using r), by simp [PyData.canLay0, c]⟩
 ·intro vs r; cases r; exact ⟨_, .nil, by simp [PyData.canLayAll0]⟩
 ·intro v vs d ds _ _ ih1 ih2 ws r
  cases r with
  | cons r rs =>
   obtain ⟨as, q1, c1⟩ := ih1 r
   obtain ⟨bs, q2, c2⟩ := ih2 rs
   exact ⟨_, .cons q1 q2, by simp [PyData.canLayAll0, c1, c2]⟩
end
noncomputable def onInts (P : Int → Int → Prop) : AV → AV → Prop
 | .int a, .int b => P a b
 | _, _ => False
theorem onInts_inv {P : Int → Int → Prop} {x y : AV} {v w : Value} (h : onInts P x y) (r1 : VR v x) (r2 : VR w y) : ∃ i j t u, v = .int i t ∧ w = .int j u ∧ P i j := by
 cases x <;> cases y <;> first | exact h.elim | skip
 cases r1; cases r2
 exact ⟨_, _, _, _, rfl, rfl, h⟩
inductive AddK (a b : Addr) (H : AH) (Q : QV) : Prop
 | mk (xs ys : List AV) : H a = some (.list xs) → H b = some (.list ys) → xs.length + ys.length ≤ sizeLine → (∀ r, H r = none → Q (.ref r) (H.put r (.list (xs ++ ys)))) → AddK a b H Q
noncomputable def aAdd : AV → AV → AH → QV → Prop
 | .int a, .int b, H, Q => Q (.int (a + b)) H
 | .str x, .str y, H, Q => x.length + y.length ≤ sizeLine ∧ Q (.str (x ++ y)) H
 | .ref a, .ref b, H, Q => AddK a b H Q
 | _, _, _, _ => False
noncomputable def aMul (x y : AV) (H : AH) (Q : QV) : Prop := onInts (fun a b => a.natAbs < 1000000 ∧ Q (.int (a * b)) H) x y
noncomputable def aFdiv (x y : AV) (H : AH) (Q : QV) : Prop := onInts (fun a b => 0 < b ∧ b < 1073741824 ∧ Q (.int (a / b)) H) x y
noncomputable def aMod (x y : AV) (H : AH) (Q : QV) : Prop := onInts (fun a b => 0 < b ∧ Q (.int (a % b)) H) x y
theorem strOk_append {x y : Str} (hx : PyData.strOk x = true) (hy : PyData.strOk y = true) : PyData.strOk (x ++ y) = true := by
 have e : (x ++ y).cps = x.cps ++ y.cps := rfl
 unfold PyData.strOk at *
 rw [e, Array.all_append, hx, hy]; rfl
theorem intBits_small {a : Int} (h : a.natAbs < 1000000) : Builtin.Int.intBits a ≤ 64 := by
 unfold Builtin.Int.intBits
 split
 ·lia
 ·rename_i q
  have : a.natAbs.log2 < 63 := (Nat.log2_lt (by simpa using q)).mpr (Nat.lt_of_lt_of_le h (by decide))
  lia
section
variable {S : St}
theorem Inv.toks {C : Cx} {H : AH} {s : Shared} (I : Inv S C H s) (k : Nat) : Inv S C H { s with toks := k } := I.same rfl rfl rfl
theorem Inv.newList {C : Cx} {H : AH} {s : Shared} (I : Inv S C H s) {vs : List Value} {xs : List AV} (hv : VRs vs xs) (hl : vs.length ≤ sizeLine) :
  Inv S C (H.put s.heap.objs.size (.list xs)) { s with heap := s.heap.push { cls := .type "list", data := .seq vs.toArray } } :=
 I.add (s' := { s with heap := s.heap.push { cls := .type "list", data := .seq vs.toArray } }) (o := .list xs) (Heap.get?_none_of_le (Nat.le_refl _)) (fun b o e => Heap.get?_push_of_some _ e) ⟨vs, 0, Heap.get?_push_size _ rfl, hv, hl⟩ rfl rfl
theorem bin_add : BinOK S .Add aAdd := by
 intro C A va vb x y H Q E s hu r1 r2 I h
 cases x <;> cases y <;> try exact h.elim
 all_goals cases r1
 all_goals cases r2
 ·exact PyProof.Rows.add_int ⟨_, H, .int _ _, I.toks _, h⟩
 ·obtain ⟨hl, h⟩ := h
  exact PyProof.Rows.add_str (fun t' tk => ⟨_, H, .str _ _ (strOk_append ‹_› ‹_›), I.toks _, h⟩) hl
 ·obtain ⟨xs, ys, ha, hb, hl, h⟩ := h
  obtain ⟨vs, n, g1, q1, _⟩ := I.list ha
  obtain ⟨ws, k, g2, q2, _⟩ := I.list hb
  have e := q1.length; have f := q2.length
  refine PySem.P.add_list g1 g2 ⟨_, _, .ref _, ?_, h _ (I.fresh (Heap.get?_none_of_le (Nat.le_refl _))).1⟩ (by simp; lia)
  rw [List.append_toArray]
  exact I.newList (q1.append q2) (by simp; lia)
theorem bin_mul : BinOK S .Mult aMul := by
 intro C A va vb x y H Q E s hu r1 r2 I h
 obtain ⟨i, j, t, u, rfl, rfl, h⟩ := onInts_inv h r1 r2
 exact PyProof.Rows.mul_int ⟨_, H, .int _ _, I.toks _, h.2⟩ (.of_left (intBits_small h.1))
theorem bin_fdiv : BinOK S .FloorDiv aFdiv := by
 intro C A va vb x y H Q E s hu r1 r2 I h
 obtain ⟨i, j, t, u, rfl, rfl, h⟩ := onInts_inv h r1 r2
 obtain ⟨h1, h2, h⟩ := h
 refine PyProof.Rows.floordiv_int (by lia) ⟨_, H, .int _ _, I.toks _, ?_⟩ (.inl (PyProof.noPylong_small (by lia)))
 rw [Int.fdiv_eq_ediv_of_nonneg _ (by lia)]; exact h
theorem bin_mod : BinOK S .Mod aMod := by
 intro C A va vb x y H Q E s hu r1 r2 I h
 obtain ⟨i, j, t, u, rfl, rfl, h⟩ := onInts_inv h r1 r2
 obtain ⟨h1, h⟩ := h
 refine PyProof.Rows.mod_int (by lia) ⟨_, H, .int _ _, I.toks _, ?_⟩
 rw [Int.fmod_eq_emod_of_nonneg _ (by lia)]; exact h
inductive EqK (x y : AV) (H : AH) (Q : Bool → Prop) : Prop
 | mk (d e : PyData) : Rd H x d → Rd H y e → d.depth ≤ 64 → e.depth ≤ 64 → Q (PyData.eqv d e) → EqK x y H Q
noncomputable def aEq (x y : AV) (H : AH) (Q : Bool → AH → Prop) : Prop := EqK x y H fun c => Q c H
noncomputable def aNe (x y : AV) (H : AH) (Q : Bool → AH → Prop) : Prop := EqK x y H fun c => Q (!c) H
inductive InK (x : AV) (a : Addr) (H : AH) (Q : Bool → Prop) : Prop
 | mk (d : PyData) (ys : List AV) (es : List PyData) : Rd H x d → H a = some (.list ys) → RdAll H ys es → d.depth ≤ 64 → Q (es.any fun y => PyData.eqv y d) → InK x a H Q
noncomputable def aIn : AV → AV → AH → (Bool → AH → Prop) → Prop
 | x, .ref a, H, Q => InK x a H fun c => Q c H
 | .str x, .str y, H, Q => Q (Txt.contains y x) H
 | _, _, _, _ => False
noncomputable def aLt (x y : AV) (H : AH) (Q : Bool → AH → Prop) : Prop := onInts (fun a b => Q (decide (a < b)) H) x y
noncomputable def aLe (x y : AV) (H : AH) (Q : Bool → AH → Prop) : Prop := onInts (fun a b => Q (decide (a ≤ b)) H) x y
noncomputable def aGt (x y : AV) (H : AH) (Q : Bool → AH → Prop) : Prop := onInts (fun a b => Q (decide (b < a)) H) x y
theorem cmp_eq : CmpOK S .Eq aEq := by
 rintro C A va vb x y H Q E s hu r1 r2 I ⟨d, e, h1, h2, h3, h4, h⟩
 obtain ⟨as, q1, c1⟩ := h1.reads I r1
 obtain ⟨bs, q2, c2⟩ := h2.reads I r2
 exact eq_dataH q1 q2 (by simp [SeqAt.shaped, c1, h3]) (by simp [SeqAt.shaped, c2, h4]) (by have : cLine = 9900 := rfl; lia) ⟨_, rfl, H, I, h⟩
theorem cmp_ne : CmpOK S .NotEq aNe := by
 rintro C A va vb x y H Q E s hu r1 r2 I ⟨d, e, h1, h2, h3, h4, h⟩
 obtain ⟨as, q1, c1⟩ := h1.reads I r1
 obtain ⟨bs, q2, c2⟩ := h2.reads I r2
 exact ne_dataH q1 q2 (by simp [SeqAt.shaped, c1, h3]) (by simp [SeqAt.shaped, c2, h4]) (by have : cLine = 9900 := rfl; lia) ⟨_, rfl, H, I, h⟩
theorem cmp_in : CmpOK S .In aIn := by
 intro C A va vb x y H Q E s hu r1 r2 I h
 cases r2 with
 | ref a =>
  obtain ⟨d, ys, es, h1, h2, h3, h4, h⟩ := h
  obtain ⟨bs, q1, c1⟩ := h1.reads I r1
  obtain ⟨as, q2, c2⟩ := (Rd.list h2 h3).reads I (.ref a)
  exact SeqAt.in_list_reads q2 q1 (by simpa [PyData.canLay0] using c2) c1 (by have : cLine = 9900 := rfl; lia) ⟨_, rfl, H, I, h⟩
 | str y => cases r1 <;> first | exact h.elim | exact PySem.SB.contains ⟨_, rfl, H, I, h⟩
 | _ => cases r1 <;> exact h.elim
theorem cmp_lt : CmpOK S .Lt aLt := by
 intro C A va vb x y H Q E s hu r1 r2 I h
 obtain ⟨i, j, t, u, rfl, rfl, h⟩ := onInts_inv h r1 r2
 exact PyProof.Rows.lt_int ⟨_, rfl, H, I, h⟩
theorem cmp_le : CmpOK S .LtE aLe := by
 intro C A va vb x y H Q E s hu r1 r2 I h
 obtain ⟨i, j, t, u, rfl, rfl, h⟩ := onInts_inv h r1 r2
 exact PyProof.Rows.le_int ⟨_, rfl, H, I, h⟩
theorem cmp_gt : CmpOK S .Gt aGt := by
 intro C A va vb x y H Q E s hu r1 r2 I h
 obtain ⟨i, j, t, u, rfl, rfl, h⟩ := onInts_inv h r1 r2
 exact PyProof.Rows.gt_int ⟨_, rfl, H, I, h⟩
end
end Mine
end
-- text A10
section
namespace Mine
open PySem PySem.Calls PyProof.Rows
noncomputable def idx {α : Type} (xs : List α) (k : Int) : Option α := if 0 ≤ k then xs[k.toNat]? else if -(xs.length : Int) ≤ k then xs[(k + xs.length).toNat]? else none
theorem idx_nat {α : Type} (xs : List α) {k : Int} (h : 0 ≤ k) : idx xs k = xs[k.toNat]? := if_pos h
theorem idx_seq {α : Type} {xs : List α} {k : Int} {x : α} (h : idx xs k = some x) : ∃ j, seqIndex? k xs.length = some j ∧ xs[j]? = some x ∧ -(xs.length : Int) ≤ k ∧ k < xs.length := by
 unfold idx at h
 by_cases h0 : 0 ≤ k
 ·rw [if_pos h0] at h
  have lt := (List.getElem?_eq_some_iff.mp h).1
  refine ⟨k.toNat, ?_, h, by lia, by lia⟩
  unfold seqIndex?
  simp only [show ¬ k < 0 by lia, if_false]
  rw [if_pos (by simp; lia)]
 ·rw [if_neg h0] at h
  by_cases h1 : -(xs.length : Int) ≤ k
  ·rw [if_pos h1] at h
   have lt := (List.getElem?_eq_some_iff.mp h).1
   refine ⟨(k + xs.length).toNat, ?_, h, by lia, by lia⟩
   unfold seqIndex?
   simp only [show k < 0 by lia, if_true]
   rw [if_pos (by simp; lia)]
  ·rw [if_neg h1] at h; cases h
theorem subscripted_of {M : Model} {A : Around} {E : Value → Shared → Prop} {s : Shared} {slice : Expr} {o i : Value} {Q : Value → Shared → Prop} (h : wpAny M A (getItem o i) Q E s) : wpAny M A (subscripted slice false o i) Q E s := by
 unfold subscripted
 split
 ·exact wpAny_operate' h
 ·rename_i e; cases e
 ·exact wpAny_operate' h
theorem sub_tail {prog : Program} {w : World} {A : Around} {E : Value → Shared → Prop} {s : Shared} {value slice : Expr} {o i : Value} {Q : Value → Shared → Prop} {T id : String} (hT : s.TypeIs o T) (hl : typeLookup (.type T) "__getitem__" = pure (some (.builtin id)))
  (h : wpAny (model prog w) A (getItem o i) Q E s) : wpAny (model prog w) A (subscriptTail value slice o i) Q E s := by
 unfold subscriptTail
 refine wpAny_bind ?_
 rw [getitemInPython_of_ne hT.not_modules]
 refine wpAny_bind (wpAny_specialOf hT hl ?_)
 exact wpAny_pure (wpAny_bind (subscripted_of (wpAny_mono h (fun r s1 h1 => wpAny_bind (wpAny_letTemporaryGo (wpAny_pure h1))) fun _ _ x => x)))
noncomputable def aItem : AV → AV → AH → QV → Prop
 | .ref a, .int k, H, Q => Got H a fun o => match o with
  | .list xs => ∃ x, idx xs k = some x ∧ Q x H
  | .tuple xs => ∃ x, idx xs k = some x ∧ Q x H
  | .script ns => ∃ n, idx ns k = some n ∧ Q (.int n) H
  | .idict es => ∃ v, es.lookup k = some v ∧ Q v H
  | _ => False
 | .str x, .int k, H, Q => ∃ c, idx x.cps.toList k = some c ∧ x.length ≤ sizeLine ∧ Q (.str ⟨#[c]⟩) H
 | _, _, _, _ => False
section
variable {S : St}
theorem PRs.lookup {K : Type} [BEq K] {vs : List (K × Value)} {as : List (K × AV)} (h : PRs vs as) : ∀ {k : K} {a : AV}, as.lookup k = some a → ∃ v, vs.lookup k = some v ∧ VR v a := by
 induction h with
 | nil => intro k a e; cases e
 | @cons k' v a' vs as r _ ih =>
  intro k a e
  rw [List.lookup_cons] at e ⊢
  cases hk : k == k' with
  | true => rw [hk] at e; cases e; exact ⟨v, rfl, r⟩
  | false => rw [hk] at e; exact ih e
theorem valueAt_lookup {K : Type} [DecidableEq K] : ∀ (kvs : List (K × Value)) (k : K), valueAt kvs k = kvs.lookup k
 | [], _ => rfl
 | (k', w') :: r, k => by
  have ih := valueAt_lookup r k
  unfold valueAt at *
  rw [List.lookup_cons]
  by_cases e : k' = k
  ·subst e; simp
  ·rw [show (k == k') = false by simpa using fun z => e z.symm, List.find?_cons_of_neg (by simpa using e)]
   exact ih
theorem item_ok {C : Cx} {A : Around} {vo vi : Value} {x y : AV} {H : AH} {Q : QV} {E : Value → Shared → Prop} {s : Shared} {value slice : Expr} (r1 : VR vo x) (r2 : VR vi y) (I : Inv S C H s) (h : aItem x y H Q) :
  wpAny S.M A (subscriptTail value slice vo vi) (PostV S C Q) E s := by
 cases r1 <;> cases r2 <;> try exact h.elim
 ·obtain ⟨c, hc, hl, h⟩ := h
  rename_i x t ok k u
  obtain ⟨j, q1, q2, q3, q4⟩ := idx_seq hc
  have e : x.cps.toList.length = x.length := by simp [Str.length]
  rw [e] at q1 q3 q4
  have hz : sizeLine = 16777216 := rfl
  refine sub_tail (typeIs_str s x t) PySem.F.slot_str_getitem.lookup (PySem.P.getItem_str (c := c) ?_ ?_ ⟨_, H, .str _ _ (strOk_sign ok (k := j) (by simpa using q2)), I.toks _, h⟩)
  ·simp; lia
  ·rw [q1]; simpa using q2
 ·rename_i a k u
  obtain ⟨o, ho, h⟩ := h
  cases o with
  | list xs =>
   obtain ⟨x, hx, h⟩ := h
   obtain ⟨vs, n, g, q, hl⟩ := I.list ho
   obtain ⟨v, hv, rv⟩ : ∃ v, idx vs k = some v ∧ VR v x := by
    unfold idx at hx ⊢
    rw [q.length]
    split
    ·rw [if_pos ‹_›] at hx; exact q.get hx
    ·rw [if_neg ‹_›] at hx
     split
     ·rw [if_pos ‹_›] at hx; exact q.get hx
     ·rw [if_neg ‹_›] at hx; cases hx
   have hz : sizeLine = 16777216 := rfl
   have isl : s.heap.IsList a vs.toArray := ⟨_, g, rfl, n, rfl⟩
   obtain ⟨j, q1, q2, q3, q4⟩ := idx_seq hv
   refine sub_tail isl.typeIs PySem.slot_list_getitem.lookup ?_
   by_cases h0 : 0 ≤ k
   ·rw [idx_nat _ h0] at hv
    exact wpAny_getItem_list isl h0 (by lia) (by simpa using hv) ⟨x, H, rv, I, h⟩
   ·unfold idx at hv
    rw [if_neg h0, if_pos q3] at hv
    exact wpAny_getItem_list_neg isl (by lia) (by simpa using q3) (by lia) (by simpa using hv) ⟨x, H, rv, I, h⟩
  | tuple xs =>
   obtain ⟨x, hx, h⟩ := h
   obtain ⟨vs, n, g, q, hl⟩ := I.tuple ho
   obtain ⟨v, hv, rv⟩ : ∃ v, idx vs k = some v ∧ VR v x := by
    unfold idx at hx ⊢
    rw [q.length]
    split
    ·rw [if_pos ‹_›] at hx; exact q.get hx
    ·rw [if_neg ‹_›] at hx
     split
     ·rw [if_pos ‹_›] at hx; exact q.get hx
     ·rw [if_neg ‹_›] at hx; cases hx
   have hz : sizeLine = 16777216 := rfl
   have ist : IsTup s.heap a vs.toArray := ⟨_, g, rfl, n, rfl⟩
   obtain ⟨j, q1, q2, q3, q4⟩ := idx_seq hv
   exact sub_tail ist.typeIs slot_tuple_getitem.lookup (getItem_tuple (j := j) ist (by lia) (by lia) (by simpa using q1) (by simpa using q2) ⟨x, H, rv, I, h⟩)
  | script ns =>
   obtain ⟨n, hx, h⟩ := h
   obtain ⟨vs, g, q, hl⟩ := I.objs a _ ho
   have hx' : idx (ns.map AV.int) k = some (.int n) := by
    unfold idx at hx ⊢
    rw [List.length_map]
    split
    ·rw [if_pos ‹_›] at hx; rw [List.getElem?_map, hx]; rfl
    ·rw [if_neg ‹_›] at hx
     split
     ·rw [if_pos ‹_›] at hx; rw [List.getElem?_map, hx]; rfl
     ·rw [if_neg ‹_›] at hx; cases hx
   obtain ⟨v, hv, rv⟩ : ∃ v, idx vs k = some v ∧ VR v (.int n) := by
    unfold idx at hx' ⊢
    rw [q.length]
    split
    ·rw [if_pos ‹_›] at hx'; exact q.get hx'
    ·rw [if_neg ‹_›] at hx'
     split
     ·rw [if_pos ‹_›] at hx'; exact q.get hx'
     ·rw [if_neg ‹_›] at hx'; cases hx'
   obtain ⟨o, g1, g2, g3⟩ := g
   have isl : s.heap.IsList a vs.toArray := ⟨o, I.base _ _ g1, g2, g3⟩
   obtain ⟨j, q1, q2, q3, q4⟩ := idx_seq hv
   refine sub_tail isl.typeIs PySem.slot_list_getitem.lookup ?_
   by_cases h0 : 0 ≤ k
   ·rw [idx_nat _ h0] at hv
    exact wpAny_getItem_list isl h0 (by lia) (by simpa using hv) ⟨_, H, rv, I, h⟩
   ·unfold idx at hv
    rw [if_neg h0, if_pos q3] at hv
    exact wpAny_getItem_list_neg isl (by lia) (by simpa using q3) (by lia) (by simpa using hv) ⟨_, H, rv, I, h⟩
  | idict es =>
   obtain ⟨v, hv, h⟩ := h
   obtain ⟨kvs, ep, g, q, _⟩ := I.objs a _ ho
   obtain ⟨w, hw, rw_⟩ := q.lookup hv
   have hw' : valueAt kvs k = some w := (valueAt_lookup kvs k).trans hw
   exact sub_tail (T := "dict") g.dictOf.mapOf.typeIs PySem.slot_dict_getitem.lookup (wpAny_getItem_of (k := k) (by simp [intKind, Value.isInt]) g.dictOf.mapOf hw' ⟨v, H, rw_, I.toks _, h⟩)
  | _ => exact h.elim
variable {b : Bool} {d : Nat} {sc : Kd} {ρ : Rho}
noncomputable def tItem (t u : Tm) : Tm := fun m H Q X => t m H (fun x H1 => u m H1 (fun y H2 => aItem x y H2 Q) X) X
theorem sE_item {value slice : Expr} {pos : Pos} {t u : Tm} (h1 : SoundE S b d sc ρ value t) (h2 : SoundE S b d sc ρ slice u) : SoundE S b d sc ρ (.Subscript value slice pos) (tItem t u) := by
 intro C A env m H Q X E s R O hk V I h hE
 refine Subscript_ (wpAny_mono (h1 C A env m H _ X E s R O hk V I h hE) ?_ fun _ _ x => x)
 rintro vo s1 ⟨x, H1, r1, I1, q1⟩
 refine wpAny_mono (h2 C A env m H1 _ X E s1 R O hk V I1 q1 hE) ?_ fun _ _ x => x
 rintro vi s2 ⟨y, H2, r2, I2, q2⟩
 exact item_ok r1 r2 I2 q2
end
end Mine
end
-- text A11
section
namespace Mine
open PySem PySem.Calls PyProof.Rows PySem.StrLaws
noncomputable def cut {α : Type} (xs : List α) (lo hi : Option Int) : List α := (xs.drop (lo.elim 0 (clipAt xs.length))).take (hi.elim xs.length (clipAt xs.length) - lo.elim 0 (clipAt xs.length))
theorem clipAt_nat (n : Nat) {i : Int} (h : 0 ≤ i) : clipAt n i = min i.toNat n := by
 obtain ⟨k, rfl⟩ := Int.eq_ofNat_of_zero_le h
 show (max 0 (min (if (k : Int) < 0 then (k : Int) + n else k) n)).toNat = min k n
 rw [if_neg (Int.not_lt.mpr h)]
 rcases Nat.le_total k n with q | q
 ·rw [Int.min_eq_left (Int.ofNat_le.mpr q), Nat.min_eq_left q]; exact congrArg Int.toNat (Int.max_eq_right h)
 ·rw [Int.min_eq_right (Int.ofNat_le.mpr q), Nat.min_eq_right q]; exact congrArg Int.toNat (Int.max_eq_right (Int.natCast_nonneg _))
theorem cut_from {α : Type} (xs : List α) {i : Int} (h : 0 ≤ i) : cut xs (some i) none = xs.drop i.toNat := by
 unfold cut
 simp only [Option.elim, clipAt_nat _ h]
 rw [List.take_of_length_le (by rw [List.length_drop]; exact Nat.le_refl _)]
 rcases Nat.le_total i.toNat xs.length with q | q
 ·rw [Nat.min_eq_left q]
 ·rw [Nat.min_eq_right q, List.drop_length, List.drop_eq_nil_of_le q]
theorem cut_upto {α : Type} (xs : List α) {i : Int} (h : 0 ≤ i) : cut xs none (some i) = xs.take i.toNat := by
 unfold cut
 simp only [Option.elim, clipAt_nat _ h, List.drop_zero, Nat.sub_zero]
 rcases Nat.le_total i.toNat xs.length with q | q
 ·rw [Nat.min_eq_left q]
 ·rw [Nat.min_eq_right q, List.take_length, List.take_of_length_le q]
theorem cut_map {α β : Type} (f : α → β) (xs : List α) (lo hi : Option Int) : cut (xs.map f) lo hi = (cut xs lo hi).map f := by
 unfold cut; rw [List.length_map, List.map_take, List.map_drop]
inductive PartIs : AV → Option Int → Prop
 | none : PartIs .none none
 | int (i : Int) : PartIs (.int i) (some i)
theorem VRs.cut {vs : List Value} {as : List AV} (h : VRs vs as) (lo hi : Option Int) : VRs (cut vs lo hi) (Mine.cut as lo hi) := by
 have hd : ∀ {vs : List Value} {as : List AV}, VRs vs as → ∀ n, VRs (vs.drop n) (as.drop n) := by
  intro vs as h
  induction h with
  | nil => intro n; simp; exact .nil
  | cons x _ ih => intro n; cases n with
   | zero => exact .cons x (by simpa using ih 0)
   | succ n => simpa using ih n
 have ht : ∀ {vs : List Value} {as : List AV}, VRs vs as → ∀ n, VRs (vs.take n) (as.take n) := by
  intro vs as h
  induction h with
  | nil => intro n; simp; exact .nil
  | cons x _ ih => intro n; cases n with
   | zero => exact .nil
   | succ n => exact .cons x (ih n)
 unfold Mine.cut
 rw [h.length]
 exact ht (hd h _) _
theorem cut_le {α : Type} (xs : List α) (lo hi : Option Int) : (cut xs lo hi).length ≤ xs.length := ((List.take_sublist _ _).trans (List.drop_sublist _ _)).length_le
theorem VRs.rev {vs : List Value} {as : List AV} (h : VRs vs as) : VRs vs.reverse as.reverse := by
 induction h with
 | nil => exact .nil
 | cons x _ ih => simpa using ih.append (.cons x .nil)
noncomputable def clipI (n : Nat) (dflt : Int) : Option Int → Int
 | none => dflt
 | some i => max 0 (min (if i < 0 then i + n else i) n)
theorem strIdx_eq (lo hi : Option Int) (n : Nat) : Builtin.Str.strSliceIndices lo hi 1 n = sliceRange (clipI n 0 lo) (clipI n n hi) 1 := by
 cases lo <;> cases hi <;> rfl
theorem clipI_nat (n : Nat) {k : Nat} (h : k ≤ n) (d : Int) : clipI n d (some (k : Int)) = k := by
 show max 0 (min (if (k : Int) < 0 then (k : Int) + n else k) n) = _
 rw [if_neg (by lia)]; lia
theorem clipI_of (n : Nat) (lo : Option Int) (k : Nat) : clipI n k lo = ((lo.elim k (clipAt n) : Nat) : Int) := by
 cases lo with
 | none => rfl
 | some i => exact (clipAt_cast n i).symm
theorem clip_le (n : Nat) (i : Int) : clipAt n i ≤ n := Int.toNat_le.mpr (Int.max_le.mpr ⟨Int.natCast_nonneg n, Int.min_le_right _ _⟩)
theorem elim_le (n : Nat) (hi : Option Int) : hi.elim n (clipAt n) ≤ n := by cases hi <;> simp [clip_le]
theorem strIdx_clip (lo hi : Option Int) (n : Nat) : Builtin.Str.strSliceIndices lo hi 1 n = Builtin.Str.strSliceIndices (some ((lo.elim 0 (clipAt n) : Nat) : Int)) (some ((hi.elim n (clipAt n) : Nat) : Int)) 1 n := by
 have h0 : lo.elim 0 (clipAt n) ≤ n := by cases lo <;> simp [clip_le]
 rw [strIdx_eq, strIdx_eq, clipI_nat n h0, clipI_nat n (elim_le n hi), ← clipI_of, ← clipI_of]; rfl
theorem sliced_none {a b n : Nat} (hb : b ≤ n) (ha : a ≤ n) (q : ¬ a ≤ b) : Builtin.Str.strSliceIndices (some (a : Int)) (some (b : Int)) 1 n = [] := by
 rw [strIdx_eq, clipI_nat n ha, clipI_nat n hb]
 unfold sliceRange
 simp only [show ((1 : Int) > 0) by decide, if_true]
 rw [if_neg (by lia)]
 simp
theorem sliced_cut (x : Str) (lo hi : Option Int) : (Builtin.Str.strSliceIndices lo hi 1 x.length).filterMap (x.cps[·]?) = cut x.cps.toList lo hi := by
 rw [strIdx_clip]
 have el : x.cps.toList.length = x.length := by simp [Str.length]
 unfold cut
 rw [el]
 generalize hb : hi.elim x.length (clipAt x.length) = b
 generalize hae : lo.elim 0 (clipAt x.length) = a
 have hbx : b ≤ x.length := hb ▸ elim_le ..
 have hax : a ≤ x.length := by rw [← hae]; cases lo <;> simp [clip_le]
 by_cases q : a ≤ b
 ·exact sliced_plain x q hbx
 ·rw [show b - a = 0 by lia, List.take_zero, sliced_none hbx hax q]; rfl
theorem strOk_cut {x : Str} (ok : PyData.strOk x = true) (lo hi : Option Int) : PyData.strOk ⟨(cut x.cps.toList lo hi).toArray⟩ = true := by
 unfold PyData.strOk at *
 rw [Array.all_eq_true_iff_forall_mem] at *
 intro c hc
 refine ok c ?_
 have : c ∈ cut x.cps.toList lo hi := by simpa using hc
 exact Array.mem_toList_iff.mp (List.mem_of_mem_drop (List.mem_of_mem_take this))
noncomputable def aCut : AV → Option Int → Option Int → AH → QV → Prop
 | .ref a, lo, hi, H, Q => Got H a fun o => match o with
  | .list xs => ∀ r, H r = none → Q (.ref r) (H.put r (.list (cut xs lo hi)))
  | .script ns => ∀ r, H r = none → Q (.ref r) (H.put r (.list (cut (ns.map AV.int) lo hi)))
  | _ => False
 | .str x, lo, hi, H, Q => x.length ≤ sizeLine ∧ Q (.str ⟨(cut x.cps.toList lo hi).toArray⟩) H
 | _, _, _, _, _ => False
section
variable {S : St} {b : Bool} {d : Nat} {sc : Kd} {ρ : Rho}
noncomputable def SoundP (S : St) (b : Bool) (d : Nat) (sc : Kd) (ρ : Rho) (e : Option Expr) (t : Tm) : Prop :=
 ∀ (C : Cx) (A : Around) (env : Env) (m : Mp) (H : AH) (Q : QV) (X : QX) (E : Value → Shared → Prop) (s : Shared),
  Room b d A → EnvOK S C A env → (∀ x, env.kindOf x = sc x) → EnvRel C env ρ m → Inv S C H s → t m H Q X → ExOK S C X E →
  wpAny S.M A (evalPart e env) (PostV S C Q) E s
theorem sP_none : SoundP S b d sc ρ none (tVal .none) := by
 intro C A env m H Q X E s R O hk V I h hE
 exact wpAny_pure ⟨_, H, .none, I, h⟩
theorem sP_some {e : Expr} {t : Tm} (h1 : SoundE S b d sc ρ e t) : SoundP S b d sc ρ (some e) t := h1
theorem Inv.junk {C : Cx} {H : AH} {s : Shared} (I : Inv S C H s) (o : Obj) : Inv S C H { s with heap := s.heap.push o } := I.grow (fun b o e => Heap.get?_push_of_some _ e) rfl rfl
theorem cut_ok {C : Cx} {A : Around} {vo vl vu : Value} {x l u : AV} {lo hi : Option Int} {H : AH} {Q : QV} {E : Value → Shared → Prop} {s : Shared} {value slice : Expr} (r1 : VR vo x) (r2 : VR vl l) (r3 : VR vu u) (pl : PartIs l lo) (pu : PartIs u hi)
  (I : Inv S C H s) (h : aCut x lo hi H Q) :
  wpAny S.M A (subscriptTail value slice vo (.ref s.heap.objs.size)) (PostV S C Q) E { s with heap := s.heap.push { cls := .type "slice", data := .fields #[vl, vu, .none] } } := by
 have J := I.junk { cls := .type "slice", data := .fields #[vl, vu, .none] }
 have ip : ∀ {v : Value} {a : AV} {o : Option Int}, VR v a → PartIs a o → IsPart v o := by
  intro v a o r p
  cases p <;> cases r
  ·exact .none
  ·exact .int _ _
 have qp : ∀ {v : Value} {a : AV} {o : Option Int}, VR v a → PartIs a o → ∃ z : Option (Int × Tok), v = partValue z ∧ z.map (·.1) = o := by
  intro v a o r p
  cases p <;> cases r
  ·exact ⟨none, rfl, rfl⟩
  ·exact ⟨some (_, _), rfl, rfl⟩
 cases r1 with
 | str x t ok =>
  obtain ⟨hl, h⟩ := h
  obtain ⟨zl, el, fl⟩ := qp r2 pl
  obtain ⟨zu, eu, fu⟩ := qp r3 pu
  refine sub_tail (typeIs_str _ x t) PySem.F.slot_str_getitem.lookup (wpAny_getItem_str_slice (l := zl) (u := zu) (st := none) ⟨_, Heap.get?_push_size _ rfl, rfl, by rw [el, eu]; rfl⟩ rfl ?_)
  have ep : slicePicked x zl zu none = Builtin.Str.strSliceIndices lo hi 1 x.length := by unfold slicePicked; rw [fl, fu]; rfl
  unfold sliceMade
  rw [ep]
  split
  ·rename_i hfull
   have e : (⟨(cut x.cps.toList lo hi).toArray⟩ : Str) = x := by
    have e1 := sliced_cut x lo hi
    have e2 : (Builtin.Str.strSliceIndices lo hi 1 x.length).length = x.length := by
     have := (Bool.and_eq_true_iff.mp hfull).2; simpa using this
    have e3 : (cut x.cps.toList lo hi).length = x.length := by
     rw [← e1]
     rw [strIdx_clip] at e2 ⊢
     have hb : hi.elim x.length (clipAt x.length) ≤ x.length := elim_le ..
     by_cases q : (lo.elim 0 (clipAt x.length)) ≤ hi.elim x.length (clipAt x.length)
     ·rw [strSliceIndices_plain q hb] at e2
      rw [sliced_plain x q hb]
      have el : x.cps.toList.length = x.length := by simp [Str.length]
      rw [List.length_map, List.length_range] at e2
      rw [List.length_take, List.length_drop, el]
      lia
     ·rw [sliced_none hb (by cases lo <;> simp [clip_le]) q] at e2 ⊢
      simpa using e2
    have hp : cut x.cps.toList lo hi = x.cps.toList := by
     have hs : (cut x.cps.toList lo hi).Sublist x.cps.toList := (List.take_sublist _ _).trans (List.drop_sublist _ _)
     exact hs.eq_of_length (by rw [e3]; simp [Str.length])
    rw [hp]
   rw [e] at h
   exact ⟨_, H, .str _ _ ok, J, h⟩
  ·rw [sliced_cut]
   refine ⟨?_, _, H, .str _ _ (strOk_cut ok lo hi), J.toks _, h⟩
   show (cut x.cps.toList lo hi).toArray.size ≤ sizeLine
   have e1 := cut_le x.cps.toList lo hi
   rw [List.size_toArray]
   have e2 : x.cps.toList.length = x.length := by simp [Str.length]
   lia
 | ref a =>
  obtain ⟨o, ho, h⟩ := h
  have go : ∀ {vs : List Value} {xs : List AV}, ({ s with heap := s.heap.push { cls := .type "slice", data := .fields #[vl, vu, .none] } } : Shared).heap.IsList a vs.toArray → VRs vs xs → vs.length ≤ sizeLine → (∀ r, H r = none → Q (.ref r) (H.put r (.list (cut xs lo hi)))) →
    wpAny S.M A (subscriptTail value slice (.ref a) (.ref s.heap.objs.size)) (PostV S C Q) E { s with heap := s.heap.push { cls := .type "slice", data := .fields #[vl, vu, .none] } } := by
   intro vs xs isl q hl h
   refine sub_tail isl.typeIs PySem.slot_list_getitem.lookup (wpAny_getItem_list_slice isl (Heap.IsSliceOf.new _ _ _ _) (ip r2 pl) (ip r3 pu) .none (by simp) ⟨_, _, .ref _, ?_, h _ (J.fresh (Heap.get?_none_of_le (Nat.le_refl _))).1⟩ (by simpa using hl))
   rw [slicePick_plain]
   exact J.newList (vs := cut vs lo hi) (q.cut lo hi) (Nat.le_trans (cut_le vs lo hi) hl)
  cases o with
  | list xs =>
   obtain ⟨vs, n, g, q, hl⟩ := J.list ho
   exact go ⟨_, g, rfl, n, rfl⟩ q hl h
  | script ns =>
   obtain ⟨vs, ⟨o, g1, g2, g3⟩, q, hl⟩ := J.objs a _ ho
   exact go ⟨o, J.base _ _ g1, g2, g3⟩ q (by have : sizeLine = 16777216 := rfl; lia) h
  | _ => exact h.elim
 | _ => exact h.elim
inductive CutK (x y z : AV) (H : AH) (Q : QV) : Prop
 | mk (lo hi : Option Int) : PartIs y lo → PartIs z hi → aCut x lo hi H Q → CutK x y z H Q
noncomputable def tSlice (t l u : Tm) : Tm := fun m H Q X => t m H (fun x H1 => l m H1 (fun y H2 => u m H2 (fun z H3 => CutK x y z H3 Q) X) X) X
theorem sE_slice {value : Expr} {lower upper : Option Expr} {p pos : Pos} {t l u : Tm} (h1 : SoundE S b d sc ρ value t) (h2 : SoundP S b d sc ρ lower l) (h3 : SoundP S b d sc ρ upper u) :
  SoundE S b d sc ρ (.Subscript value (.Slice lower upper none p) pos) (tSlice t l u) := by
 intro C A env m H Q X E s R O hk V I h hE
 refine Subscript_ (wpAny_mono (h1 C A env m H _ X E s R O hk V I h hE) ?_ fun _ _ x => x)
 rintro vo s1 ⟨x, H1, r1, I1, q1⟩
 refine wpAny_Slice (wpAny_mono (h2 C A env m H1 _ X E s1 R O hk V I1 q1 hE) ?_ fun _ _ x => x)
 rintro vl s2 ⟨y, H2, r2, I2, q2⟩
 refine wpAny_mono (h3 C A env m H2 _ X E s2 R O hk V I2 q2 hE) ?_ fun _ _ x => x
 rintro vu s3 ⟨z, H3, r3, I3, lo, hi, p1, p2, q3⟩
 exact wpAny_pure (cut_ok r1 r2 r3 p1 p2 I3 q3)
end
end Mine
end
-- text A12
section
namespace Mine
open PySem PySem.Calls PyProof.Rows PySem.StrLaws
theorem VRs.one {vs : List Value} {x : AV} (h : VRs vs [x]) : ∃ v, vs = [v] ∧ VR v x := by
 cases h with | cons r1 r => cases r; exact ⟨_, rfl, r1⟩
theorem VRs.two {vs : List Value} {x y : AV} (h : VRs vs [x, y]) : ∃ v w, vs = [v, w] ∧ VR v x ∧ VR w y := by
 cases h with | cons r1 r => obtain ⟨w, rfl, r2⟩ := r.one; exact ⟨_, _, rfl, r1, r2⟩
theorem VR.ref_inv {v : Value} {a : Addr} (h : VR v (.ref a)) : v = .ref a := by cases h; rfl
theorem VR.str_inv {v : Value} {x : Str} (h : VR v (.str x)) : ∃ t, v = .str x t ∧ PyData.strOk x = true := by cases h; exact ⟨_, rfl, ‹_›⟩
theorem VR.int_inv {v : Value} {i : Int} (h : VR v (.int i)) : ∃ t, v = .int i t := by cases h; exact ⟨_, rfl⟩
section
variable {S : St} {b : Bool} {d : Nat} {sc : Kd} {ρ : Rho}
noncomputable def tList (ts : Tms) : Tm := fun m H Q X => ts m H (fun vs H1 => vs.length ≤ 1000 ∧ ∀ r, H1 r = none → Q (.ref r) (H1.put r (.list vs))) X
noncomputable def tTuple (ts : Tms) : Tm := fun m H Q X => ts m H (fun vs H1 => vs.length ≤ 1000 ∧ ∀ r, H1 r = none → Q (.ref r) (H1.put r (.tuple vs))) X
theorem Inv.newTuple {C : Cx} {H : AH} {s : Shared} (I : Inv S C H s) {vs : List Value} {xs : List AV} (hv : VRs vs xs) (hl : vs.length ≤ sizeLine) :
  Inv S C (H.put s.heap.objs.size (.tuple xs)) { s with heap := s.heap.push { cls := .type "tuple", data := .seq vs.toArray } } :=
 I.add (s' := { s with heap := s.heap.push { cls := .type "tuple", data := .seq vs.toArray } }) (o := .tuple xs) (Heap.get?_none_of_le (Nat.le_refl _)) (fun b o e => Heap.get?_push_of_some _ e) ⟨vs, 0, Heap.get?_push_size _ rfl, hv, hl⟩ rfl rfl
theorem Inv.nextNone {C : Cx} {H : AH} {s : Shared} (I : Inv S C H s) : H s.heap.objs.size = none := (I.fresh (Heap.get?_none_of_le (Nat.le_refl _))).1
theorem sE_list {es : List Expr} {pos : Pos} {ts : Tms} (h1 : SoundEs S b d sc ρ es ts) : SoundE S b d sc ρ (.List es pos) (tList ts) := by
 intro C A env m H Q X E s R O hk V I h hE
 refine wpAny_List (wpAny_mono (h1 C A env m H _ X E s pos R O hk V I h hE) ?_ fun _ _ x => x)
 rintro vs s1 ⟨avs, H1, r1, I1, hl, q1⟩
 have e := r1.length
 have hz : sizeLine = 16777216 := rfl
 exact ⟨by lia, _, _, .ref _, I1.newList r1 (by lia), q1 _ I1.nextNone⟩
theorem sE_tuple {es : List Expr} {k : Nat} {pos : Pos} {ts : Tms} (h1 : SoundEs S b d sc ρ es ts) : SoundE S b d sc ρ (.Tuple es k pos) (tTuple ts) := by
 intro C A env m H Q X E s R O hk V I h hE
 refine wpAny_Tuple (wpAny_mono (h1 C A env m H _ X E s pos R O hk V I h hE) ?_ fun _ _ x => x)
 rintro vs s1 ⟨avs, H1, r1, I1, hl, q1⟩
 have e := r1.length
 have hz : sizeLine = 16777216 := rfl
 exact ⟨by lia, _, _, .ref _, I1.newTuple r1 (by lia), q1 _ I1.nextNone⟩
inductive TyAt (H : AH) : AV → String → Prop
 | str (x : Str) : TyAt H (.str x) "str"
 | list {a : Addr} {xs : List AV} : H a = some (.list xs) → TyAt H (.ref a) "list"
 | idict {a : Addr} {es : List (Int × AV)} : H a = some (.idict es) → TyAt H (.ref a) "dict"
 | sdict {a : Addr} {es : List (Str × AV)} : H a = some (.sdict es) → TyAt H (.ref a) "dict"
theorem TyAt.is {C : Cx} {H : AH} {s : Shared} (I : Inv S C H s) {v : Value} {x : AV} {T : String} (h : TyAt H x T) (r : VR v x) : s.TypeIs v T ∧ (∀ a, v = .ref a → ∃ ob, s.heap.get? a = some ob ∧ ob.dict = none) := by
 cases h with
 | str x => cases r; exact ⟨typeIs_str _ _ _, fun a e => nomatch e⟩
 | list h =>
  cases r
  obtain ⟨vs, n, g, _⟩ := I.list h
  exact ⟨⟨_, g, rfl⟩, fun a e => by cases e; exact ⟨_, g, rfl⟩⟩
 | idict h =>
  cases r
  obtain ⟨kvs, ep, g, _⟩ := I.objs _ _ h
  exact ⟨g.dictOf.mapOf.typeIs, fun a e => g.dictOf.mapOf.noDict a e⟩
 | sdict h =>
  cases r
  obtain ⟨kvs, ep, g, _⟩ := I.objs _ _ h
  exact ⟨g.dictOf.mapOf.typeIs, fun a e => g.dictOf.mapOf.noDict a e⟩
structure BMeth (T : String) (name : Str) (id : String) : Prop where
 pa : PlainAttrs T
 slot : Slot T name id
 ty : typeOf (.builtin id) = pure (.type "method_descriptor")
noncomputable def tMeth (T : String) (F : BFn) (t : Tm) (ts : Tms) : Tm := fun m H Q X => t m H (fun x H1 => TyAt H1 x T ∧ ts m H1 (fun vs H2 => F (x :: vs) H2 Q) X) X
theorem sE_meth {o : Expr} {name : Str} {apos pos : Pos} {args : List Expr} {T id : String} {F : BFn} {t : Tm} {ts : Tms} (B : BMeth T name id) (hF : BFnOK S b (.builtin id) F) (h1 : SoundE S b d sc ρ o t) (h2 : SoundEs S b d sc ρ args ts)
  (hbase : ∀ env, attributeBase o name env (eval o env) = eval o env) (hline : (apos.endLine == pos.line) = true) (hs : noStar args = true) (hn : args.length < 29) :
  SoundE S b d sc ρ (.Call (.Attribute o name apos) args [] pos) (tMeth T F t ts) := by
 intro C A env m H Q X E s R O hk V I h hE
 refine wpAny_Call_method (hbase env) ?_ hline B.pa B.slot B.ty (wpAny_mono (h1 C A env m H _ X E s R O hk V I h hE) ?_ fun _ _ x => x)
 ·rw [backTo_plain hs]
  have e : (backToKw pos (keywordEach [] env)) = [] := rfl
  rw [e]; simp; lia
 ·rintro vo s1 ⟨x, H1, r1, I1, ty, q1⟩
  obtain ⟨t1, t2⟩ := ty.is I1 r1
  refine ⟨t1, t2, Calls.callWith_builtin (backTo_any hs) (evalArgs_of hs (wpAny_mono (h2 C A env m H1 _ X E s1 pos R O hk V I1 q1 hE) ?_ fun _ _ x => x))⟩
  rintro vs s2 ⟨avs, H2, r2, I2, q2⟩
  exact hF C A (vo :: vs) (x :: avs) H2 Q E s2 R.hd R.u (.cons r1 r2) I2 q2
inductive bAppendK (vs : List AV) (H : AH) (Q : QV) : Prop
 | mk (a) (xs) (v) : (vs = [.ref a, v]) → (H a = some (.list xs)) → (xs.length < sizeLine) → (Q .none (H.put a (.list (xs ++ [v])))) → bAppendK vs H Q
noncomputable def bAppend : BFn := fun vs H Q => bAppendK vs H Q
theorem bAppend_ok : BFnOK S b (.builtin "list.append") bAppend := by
 rintro C A vs avs H Q E s hh hu r I ⟨a, xs, v, rfl, ha, hl, h⟩
 obtain ⟨_, w, rfl, r1, r2⟩ := r.two
 cases r1.ref_inv
 obtain ⟨ws, n, g, q, _⟩ := I.list ha
 have e := q.length
 refine append_at g (fun h' sb g' => ⟨_, _, .none, ?_, h⟩) (by simp; lia)
 refine I.set (s' := { s with heap := h' }) ha rfl (fun b ob nb e => (sb.2 b nb).trans e) ⟨ws ++ [_], n + 1, by simpa using g', q.append (.cons r2 .nil), by simp; lia⟩ rfl rfl
theorem meth_append : BMeth "list" "append" "list.append" := ⟨PySem.F.plainAttrs_list, PySem.slot_list_append, rfl⟩
inductive bExtendK (vs : List AV) (H : AH) (Q : QV) : Prop
 | mk (a) (c) (xs) (ys) : (vs = [.ref a, .ref c]) → (H a = some (.list xs)) → (H c = some (.list ys)) → (xs.length + ys.length ≤ sizeLine) → (Q .none (H.put a (.list (xs ++ ys)))) → bExtendK vs H Q
noncomputable def bExtend : BFn := fun vs H Q => bExtendK vs H Q
theorem bExtend_ok : BFnOK S b (.builtin "list.extend") bExtend := by
 rintro C A vs avs H Q E s hh hu r I ⟨a, c, xs, ys, rfl, ha, hc, hl, h⟩
 obtain ⟨_, _, rfl, r1, r2⟩ := r.two
 cases r1.ref_inv; cases r2.ref_inv
 obtain ⟨ws, n, g, q, _⟩ := I.list ha
 obtain ⟨us, k, g2, q2, _⟩ := I.list hc
 have e := q.length; have e2 := q2.length
 refine call_meets PySem.F.slot_list_extend ⟨_, g, rfl⟩ PySem.F.entry_list_extend (PySem.F.args_list_extend_2 _ _) (AutoSeq1.list_extend_list_list_0 a ws.toArray n c us.toArray k (extend_door (by simp; lia)) (by simp; lia) (by simp; lia)) ⟨g, g2, ⟨_, _, .none, ?_, h⟩⟩
 have ho' : (s.heap.update a (Obj.mapSeq fun x => x ++ us.toArray)).get? a = some { cls := .type "list", data := .seq (ws ++ us).toArray (if (ws.toArray ++ us.toArray).size == ws.toArray.size then n else n + 1) } := by
  rw [Heap.get?_update_self _ g (by rw [mapSeq_app]; rfl), mapSeq_app, List.append_toArray]
 exact I.set (s' := { s with heap := s.heap.update a (Obj.mapSeq fun x => x ++ us.toArray) }) ha rfl (fun b ob nb e => ((Heap.SameBut.update ..).2 b nb).trans e) ⟨ws ++ us, _, ho', q.append q2, by simp; lia⟩ rfl rfl
theorem meth_extend : BMeth "list" "extend" "list.extend" := ⟨PySem.F.plainAttrs_list, PySem.F.slot_list_extend, rfl⟩
theorem VRs.strs {vs : List Value} : ∀ {xs : List Str}, VRs vs (xs.map AV.str) → StrsAre vs xs := by
 induction vs with
 | nil => intro xs h; cases xs with
  | nil => exact .nil
  | cons => cases h
 | cons v vs ih => intro xs h; cases xs with
  | nil => cases h
  | cons x xs => cases h with | cons r rs => cases r; exact .cons _ _ (ih rs)
theorem VRs.strOk {vs : List Value} : ∀ {xs : List Str}, VRs vs (xs.map AV.str) → ∀ y ∈ xs, PyData.strOk y = true := by
 induction vs with
 | nil => intro xs h; cases xs with
  | nil => intro y hy; cases hy
  | cons => cases h
 | cons v vs ih => intro xs h; cases xs with
  | nil => cases h
  | cons x xs => cases h with
   | cons r rs =>
    intro y hy
    rcases List.mem_cons.mp hy with e | hy
    ·rw [e]; obtain ⟨_, _, ok⟩ := r.str_inv; exact ok
    ·exact ih rs y hy
noncomputable def aLen : AV → AH → QV → Prop
 | .str x, H, Q => x.length ≤ sizeLine ∧ Q (.int x.length) H
 | .ref a, H, Q => Got H a fun o => match o with
  | .list xs => Q (.int xs.length) H
  | .tuple xs => Q (.int xs.length) H
  | .script ns => Q (.int ns.length) H
  | .idict es => Q (.int es.length) H
  | .sdict es => Q (.int es.length) H
  | .sset xs => Q (.int xs.length) H
  | _ => False
 | _, _, _ => False
inductive bLenK (vs : List AV) (H : AH) (Q : QV) : Prop
 | mk (v) : (vs = [v]) → (aLen v H Q) → bLenK vs H Q
noncomputable def bLen : BFn := fun vs H Q => bLenK vs H Q
theorem PRs.length {K : Type} {vs : List (K × Value)} {as : List (K × AV)} (h : PRs vs as) : vs.length = as.length := by
 induction h with
 | nil => rfl
 | cons _ _ ih => simp [ih]
theorem SRs.length {w : World} {vs : List (Int × Value)} {as : List Str} (h : SRs w vs as) : vs.length = as.length := by
 induction h with
 | nil => rfl
 | cons _ _ ih => simp [ih]
theorem bLen_ok (K : StOK S) : BFnOK S b (.builtin "len") bLen := by
 rintro C A vs avs H Q E s hh hu r I ⟨v, rfl, h⟩
 obtain ⟨w, rfl, r0⟩ := r.one
 have hz : sizeLine = 16777216 := rfl
 have nosys : ∀ {a : Addr} {o : AO}, H a = some o → isScript o = false → (a == sysModules) = false := fun {a o} ho hs => by
  obtain ⟨o', e⟩ := K.sys
  have := (I.sepH a o ho).2 hs
  by_cases q : a = sysModules
  ·rw [q, e] at this; cases this
  ·simpa using q
 cases r0 with
 | str x t ok => exact PySem.P.len_str (by have := h.1; lia) ⟨_, H, .int _ _, I.toks _, h.2⟩
 | ref a =>
  obtain ⟨o, ho, h⟩ := h
  cases o with
  | list xs =>
   obtain ⟨ws, n, g, q, hl⟩ := I.list ho
   refine call_len_list (items := ws.toArray) ⟨_, g, rfl, n, rfl⟩ (by simp; lia) ⟨_, H, .int _ _, I.toks _, ?_⟩
   rw [List.size_toArray, q.length]; exact h
  | tuple xs =>
   obtain ⟨ws, n, g, q, hl⟩ := I.tuple ho
   refine PySem.P.len_tuple (items := ws.toArray) g (by simp; lia) ⟨_, H, .int _ _, I.toks _, ?_⟩
   rw [List.size_toArray, q.length]; exact h
  | script ns =>
   obtain ⟨ws, ⟨o, g1, g2, g3⟩, q, hl⟩ := I.objs a _ ho
   refine call_len_list (items := ws.toArray) ⟨o, I.base _ _ g1, g2, g3⟩ (by simp; lia) ⟨_, H, .int _ _, I.toks _, ?_⟩
   have e := q.length
   rw [List.length_map] at e
   rw [List.size_toArray, e]; exact h
  | idict es =>
   obtain ⟨kvs, ep, g, q, hl⟩ := I.objs a _ ho
   refine call_len_dict (nosys ho rfl) g.dictOf (by lia) ⟨_, H, .int _ _, I.toks _, ?_⟩
   rw [q.length]; exact h
  | sdict es =>
   obtain ⟨kvs, ep, g, q, _, hl⟩ := I.objs a _ ho
   refine call_len_dict (nosys ho rfl) g.dictOf (by lia) ⟨_, H, .int _ _, I.toks _, ?_⟩
   rw [q.length]; exact h
  | sset xs =>
   obtain ⟨es, ep, t, ys, g, q, pm, nd, hb, hf, _⟩ := I.objs a _ ho
   have hsb : scanBound = 4096 := rfl
   refine call_len_set g ⟨rfl, rfl, rfl⟩ rfl hf (by lia) ⟨_, H, .int _ _, I.toks _, ?_⟩
   have e := q.length
   rw [Array.length_toList] at e
   rw [e, pm.length_eq]; exact h
  | _ => exact h.elim
 | _ => exact h.elim
theorem VRs.bools {vs : List Value} : ∀ {xs : List Bool}, VRs vs (xs.map AV.bool) → LSm.BoolsAre vs xs := by
 induction vs with
 | nil => intro xs h; cases xs with
  | nil => exact .nil
  | cons => cases h
 | cons v vs ih => intro xs h; cases xs with
  | nil => cases h
  | cons x xs => cases h with | cons r rs => cases r; exact .cons _ (ih rs)
theorem kept_iter' {s : Shared} {h' : Heap} {o : Obj} (hk : ∀ b x, b ∉ [s.heap.objs.size] → (s.heap.push o).get? b = some x → h'.get? b = some x) : ∀ b x, s.heap.get? b = some x → h'.get? b = some x :=
 fun b x e => hk b x (fun hm => by rw [List.mem_singleton.mp hm] at e; exact Nat.lt_irrefl _ (Heap.lt_size e)) (Heap.get?_push_of_some _ e)
inductive bAllK (vs : List AV) (H : AH) (Q : QV) : Prop
 | mk (a) (bs) : (vs = [.ref a]) → (H a = some (.list (List.map AV.bool bs))) → (Q (.bool (bs.all id)) H) → bAllK vs H Q
noncomputable def bAll : BFn := fun vs H Q => bAllK vs H Q
inductive bAnyK (vs : List AV) (H : AH) (Q : QV) : Prop
 | mk (a) (bs) : (vs = [.ref a]) → (H a = some (.list (List.map AV.bool bs))) → (Q (.bool (bs.any id)) H) → bAnyK vs H Q
noncomputable def bAny : BFn := fun vs H Q => bAnyK vs H Q
theorem bAll_ok : BFnOK S true (.builtin "all") bAll := by
 rintro C A vs avs H Q E s hh hu r I ⟨l, bs, rfl, ha, h⟩
 obtain ⟨_, rfl, r0⟩ := r.one
 cases r0.ref_inv
 obtain ⟨ws, n, g, q, _⟩ := I.list ha
 have hl : s.heap.IsList l ws.toArray := ⟨_, g, rfl, n, rfl⟩
 have hb := q.bools
 have hlt : l < s.heap.objs.size := Heap.lt_size g
 refine call_all_walk (wpAny_pyIter_list hl ?_)
 refine ⟨s.heap.objs.size, [s.heap.objs.size, l], [s.heap.objs.size], ws.toArray.size, _, _, fun i => (bs[i]?).getD true, rfl, Walks.list (A := A.in1) (hh rfl) _ l (Nat.ne_of_lt hlt) ws.toArray,
  ⟨⟨_, Heap.get?_push_size _ rfl, rfl, rfl⟩, hl.push _⟩, fun i v s' Q' E' hP hQ => ?_, fun h' tk hk => ?_⟩
 ·obtain ⟨b, e, rfl⟩ := hb.get i v (by simpa using hP)
  simp only [e, Option.getD_some] at hQ
  exact wpAny_truthy_bool hQ
 ·have e : ((List.range ws.toArray.size).all fun i => (bs[i]?).getD true) = bs.all id := by
   rw [List.size_toArray, hb.length]; exact LSm.range_all bs
  rw [e]
  exact ⟨_, H, .bool _, I.grow (s' := { s with heap := h', toks := tk }) (kept_iter' hk) rfl rfl, h⟩
theorem bAny_ok : BFnOK S true (.builtin "any") bAny := by
 rintro C A vs avs H Q E s hh hu r I ⟨l, bs, rfl, ha, h⟩
 obtain ⟨_, rfl, r0⟩ := r.one
 cases r0.ref_inv
 obtain ⟨ws, n, g, q, _⟩ := I.list ha
 have hl : s.heap.IsList l ws.toArray := ⟨_, g, rfl, n, rfl⟩
 have hb := q.bools
 have hlt : l < s.heap.objs.size := Heap.lt_size g
 refine call_any_walk (wpAny_pyIter_list hl ?_)
 refine ⟨s.heap.objs.size, [s.heap.objs.size, l], [s.heap.objs.size], ws.toArray.size, _, _, fun i => (bs[i]?).getD false, rfl, Walks.list (A := A.in1) (hh rfl) _ l (Nat.ne_of_lt hlt) ws.toArray,
  ⟨⟨_, Heap.get?_push_size _ rfl, rfl, rfl⟩, hl.push _⟩, fun i v s' Q' E' hP hQ => ?_, fun h' tk hk => ?_⟩
 ·obtain ⟨b, e, rfl⟩ := hb.get i v (by simpa using hP)
  simp only [e, Option.getD_some] at hQ
  exact wpAny_truthy_bool hQ
 ·have e : ((List.range ws.toArray.size).any fun i => (bs[i]?).getD false) = bs.any id := by
   rw [List.size_toArray, hb.length]; exact LSm.range_any bs
  rw [e]
  exact ⟨_, H, .bool _, I.grow (s' := { s with heap := h', toks := tk }) (kept_iter' hk) rfl rfl, h⟩
inductive bRangeK (vs : List AV) (H : AH) (Q : QV) : Prop
 | mk (n) : (vs = [.int n]) → (-1048576 ≤ n) → (n ≤ 1048576) → (∀ r, H r = none → Q (.ref r) (H.put r (.range 0 n))) → bRangeK vs H Q
noncomputable def bRange : BFn := fun vs H Q => bRangeK vs H Q
theorem bRange_ok : BFnOK S b (.type "range") bRange := by
 rintro C A vs avs H Q E s hh hu r I ⟨n, rfl, h1, h2, h⟩
 obtain ⟨_, rfl, r0⟩ := r.one
 obtain ⟨t, rfl⟩ := r0.int_inv
 refine call_range_1 ⟨_, _, .ref _, ?_, h _ I.nextNone⟩
 exact I.add (s' := { s with heap := s.heap.push { cls := .type "range", data := .fields #[.int 0 s.toks, .int n t, .int 1 (s.toks + 1)] }, toks := s.toks + 1 + 1 }) (o := .range 0 n) (Heap.get?_none_of_le (Nat.le_refl _)) (fun b o e => Heap.get?_push_of_some _ e)
  ⟨_, _, _, ⟨by lia, by lia⟩, ⟨h1, h2⟩, IsRange.new ..⟩ rfl rfl
noncomputable def bList : BFn := fun vs H Q => OneGot vs H fun o => match o with
 | .list xs => ∀ r, H r = none → Q (.ref r) (H.put r (.list xs))
 | .tuple xs => ∀ r, H r = none → Q (.ref r) (H.put r (.list xs))
 | .script ns => ∀ r, H r = none → Q (.ref r) (H.put r (.list (ns.map AV.int)))
 | _ => False
theorem bList_ok : BFnOK S b (.type "list") bList := by
 rintro C A vs avs H Q E s hh hu r I ⟨a, o, rfl, ha, h⟩
 obtain ⟨_, rfl, r0⟩ := r.one
 cases r0.ref_inv
 have fin : ∀ {ws : List Value} {xs : List AV} {h' : Heap} {c' : Nat}, VRs ws xs → ws.length ≤ sizeLine → (∀ b o', s.heap.get? b = some o' → h'.get? b = some o') → h'.get? s.heap.objs.size = some { cls := .type "list", dict := none, data := .seq ws.toArray c', slots := #[] } →
   (∀ r, H r = none → Q (.ref r) (H.put r (.list xs))) → PostV S C Q (.ref s.heap.objs.size) { s with heap := h' } := by
  intro ws xs h' c' q hl hk g h
  exact ⟨_, _, .ref _, I.add (s' := { s with heap := h' }) (o := .list xs) (Heap.get?_none_of_le (Nat.le_refl _)) hk ⟨ws, c', g, q, hl⟩ rfl rfl, h _ I.nextNone⟩
 cases o with
 | list xs =>
  obtain ⟨ws, n, g, q, hl⟩ := I.list ha
  exact call_list_seq a (.inl rfl) g rfl rfl (fun h' c' hk g' => fin q hl hk g' h) (by simpa using hl)
 | tuple xs =>
  obtain ⟨ws, n, g, q, hl⟩ := I.tuple ha
  exact call_list_seq a (.inr rfl) g rfl rfl (fun h' c' hk g' => fin q hl hk g' h) (by simpa using hl)
 | script ns =>
  obtain ⟨ws, ⟨o, g1, g2, k, g3⟩, q, hl⟩ := I.objs a _ ha
  have hz : sizeLine = 16777216 := rfl
  exact call_list_seq a (.inl rfl) (I.base _ _ g1) g2 g3 (fun h' c' hk g' => fin q (by lia) hk g' h) (by simp; lia)
 | _ => exact h.elim
noncomputable def aIs (T : String) : AV → AH → Option Bool
 | .none, _ => some false
 | .bool _, _ => some (T == "bool" || T == "int")
 | .int _, _ => some (T == "int")
 | .str _, _ => some (T == "str")
 | .ref a, H => match H a with
  | some (.list _) => some (T == "list")
  | some (.tuple _) => some (T == "tuple")
  | some (.sdict _) => if T == "list" then some false else none
  | _ => none
inductive IsK (T : String) (x : AV) (H : AH) (Q : Bool → Prop) : Prop
 | mk (c : Bool) : aIs T x H = some c → Q c → IsK T x H Q
noncomputable def tIsi (T : String) (t : Tm) : Tm := fun m H Q X => t m H (fun x H1 => IsK T x H1 fun c => Q (.bool c) H1) X
noncomputable def IsiOK (S : St) (T : String) : Prop := ∀ (C : Cx) (A : Around) (v : Value) (av : AV) (H1 : AH) (c : Bool) (Q : Value → Shared → Prop) (E : Value → Shared → Prop) (s1 : Shared), VR v av → Inv S C H1 s1 → aIs T av H1 = some c → Q (.bool c) s1 → (∀ tk, Q (.bool c) { s1 with toks := tk }) → wpAny S.M A (call (.builtin "isinstance") [v, .type T]) Q E s1
theorem isi_ok_list : IsiOK S "list" := by
 intro C A v av H1 c Q E s1 r1 I1 hc fin0 fin
 cases r1 with
 | none => cases hc; exact PySem.IsiPair.NoneType_list (fin _)
 | bool => cases hc; exact PySem.IsiPair.bool_list (fin _)
 | int => cases hc; exact PySem.IsiPair.int_list (fin _)
 | str => cases hc; exact PySem.IsiPair.str_list (fin _)
 | ref a =>
  unfold aIs at hc; dsimp only at hc
  split at hc
  ·rename_i ho; obtain ⟨ws, n, g, _⟩ := I1.list ho; cases hc; exact PySem.IsiPair.list_list g rfl fin0
  ·rename_i ho; obtain ⟨ws, n, g, _⟩ := I1.tuple ho; cases hc; exact PySem.IsiPair.tuple_list g rfl (fin _)
  ·rename_i ho
   obtain ⟨kvs, ep, ⟨o, es, g, xd, _⟩, _⟩ := I1.objs _ _ ho
   have hc : some false = some c := hc
   cases hc; exact PySem.IsiPair.dict_list g xd.1 (fin _)
  ·cases hc
theorem isi_ok_str : IsiOK S "str" := by
 intro C A v av H1 c Q E s1 r1 I1 hc fin0 fin
 cases r1 with
 | none => cases hc; exact PySem.IsiPair.NoneType_str (fin _)
 | bool => cases hc; exact PySem.IsiPair.bool_str (fin _)
 | int => cases hc; exact PySem.IsiPair.int_str (fin _)
 | str => cases hc; exact PySem.IsiPair.str_str fin0
 | ref a =>
  unfold aIs at hc; dsimp only at hc
  split at hc
  ·rename_i ho; obtain ⟨ws, n, g, _⟩ := I1.list ho; cases hc; exact PySem.IsiPair.list_str g rfl (fin _)
  ·rename_i ho; obtain ⟨ws, n, g, _⟩ := I1.tuple ho; cases hc; exact PySem.IsiPair.tuple_str g rfl (fin _)
  ·exact absurd hc (by simp)
  ·cases hc
theorem isi_ok_bool : IsiOK S "bool" := by
 intro C A v av H1 c Q E s1 r1 I1 hc fin0 fin
 cases r1 with
 | none => cases hc; exact PySem.IsiPair.NoneType_bool (fin _)
 | bool => cases hc; exact PySem.IsiPair.bool_bool fin0
 | int => cases hc; exact PySem.IsiPair.int_bool (fin _)
 | str => cases hc; exact PySem.IsiPair.str_bool (fin _)
 | ref a =>
  unfold aIs at hc; dsimp only at hc
  split at hc
  ·rename_i ho; obtain ⟨ws, n, g, _⟩ := I1.list ho; cases hc; exact PySem.IsiPair.list_bool g rfl (fin _)
  ·rename_i ho; obtain ⟨ws, n, g, _⟩ := I1.tuple ho; cases hc; exact PySem.IsiPair.tuple_bool g rfl (fin _)
  ·exact absurd hc (by simp)
  ·cases hc
theorem isi_ok_int : IsiOK S "int" := by
 intro C A v av H1 c Q E s1 r1 I1 hc fin0 fin
 cases r1 with
 | none => cases hc; exact PySem.IsiPair.NoneType_int (fin _)
 | bool => cases hc; exact PySem.IsiPair.bool_int fin0
 | int => cases hc; exact PySem.IsiPair.int_int fin0
 | str => cases hc; exact PySem.IsiPair.str_int (fin _)
 | ref a =>
  unfold aIs at hc; dsimp only at hc
  split at hc
  ·rename_i ho; obtain ⟨ws, n, g, _⟩ := I1.list ho; cases hc; exact PySem.IsiPair.list_int g rfl (fin _)
  ·rename_i ho; obtain ⟨ws, n, g, _⟩ := I1.tuple ho; cases hc; exact PySem.IsiPair.tuple_int g rfl (fin _)
  ·exact absurd hc (by simp)
  ·cases hc
theorem sE_isi {e : Expr} {f x : Str} {T : String} {p p2 pos : Pos} {t : Tm} (K : StOK S) (hT : IsiOK S T) (h1 : SoundE S b d sc ρ e t) (hf : sc f = some .globalImplicit) (hm : S.mg f = none) (hv : S.mb f = some (.builtin "isinstance"))
  (hx : sc x = some .globalImplicit) (hmx : S.mg x = none) (hvx : S.mb x = some (.type T)) (hd : (f == ("__debug__" : Str)) = false) (hdx : (x == ("__debug__" : Str)) = false) (hs : noStar [e] = true) :
  SoundE S b d sc ρ (.Call (.Name f p) [e, .Name x p2] [] pos) (tIsi T t) := by
 intro C A env m H Q X E s R O hk V I h hE
 refine wpAny_Call_NameR (load_builtin K O I ((hk f).trans hf) hm hv hd ?_)
 have hs' : noStar [e, .Name x p2] = true := by
  cases e <;> first | rfl | cases hs
 refine Calls.callWith_builtin (backTo_any hs') (evalArgs_of hs' ?_)
 rw [backTo_plain hs']
 refine Calls.spliced_cons (wpAny_mono (h1 C A env m H _ X E s R O hk V I h hE) ?_ fun _ _ x => x)
 rintro v s1 ⟨av, H1, r1, I1, c, hc, q1⟩
 refine Calls.spliced_cons (load_builtin K O I1 ((hk x).trans hx) hmx hvx hdx (Calls.spliced_nil ?_))
 show wpAny S.M A (call (.builtin "isinstance") [v, .type T]) _ E s1
 exact hT C A v av H1 c _ E s1 r1 I1 hc ⟨_, H1, .bool _, I1, q1⟩ fun tk => ⟨_, H1, .bool _, I1.toks tk, q1⟩
end
end Mine
end
-- text A13
section
namespace Mine
open PySem PySem.Calls PyProof.Rows
noncomputable def Cx.watch (C : Cx) (L : List Addr) (h : Heap) : Cx := { C with U := fun a => if a ∈ L then h.get? a else C.U a }
theorem Cx.watch_in (C : Cx) {L : List Addr} {h : Heap} {a : Addr} (q : a ∈ L) : (C.watch L h).U a = h.get? a := if_pos q
theorem Cx.watch_out (C : Cx) {L : List Addr} {h : Heap} {a : Addr} (q : a ∉ L) : (C.watch L h).U a = C.U a := if_neg q
noncomputable def Cx.strip (C : Cx) (L : List Addr) : Cx := { C with U := fun a => if a ∈ L then none else C.U a }
theorem Cx.strip_in (C : Cx) {L : List Addr} {a : Addr} (q : a ∈ L) : (C.strip L).U a = none := if_pos q
theorem Cx.strip_out (C : Cx) {L : List Addr} {a : Addr} (q : a ∉ L) : (C.strip L).U a = C.U a := if_neg q
section
variable {S : St} {C : Cx} {H : AH} {s : Shared} {A : Around} {env : Env} {ρ : Rho} {m : Mp} {L : List Addr}
theorem Inv.watch (I : Inv S C H s) {s' : Shared} (hL : ∀ a ∈ L, S.base.get? a = none ∧ H a = none ∧ a ∉ C.fr) (hk : ∀ b o, b ∉ L → s.heap.get? b = some o → s'.heap.get? b = some o) (hg : s'.gens = s.gens) (ho : s'.os = s.os) :
  Inv S (C.watch L s'.heap) H s' := by
 refine ⟨fun b o e => hk b o (fun q => by rw [(hL b q).1] at e; cases e) (I.base b o e), fun a o e => ?_, fun a o e => ?_, fun a o e => ⟨?_, (I.sepH a o e).2⟩, fun a o e => ?_, hg.trans I.gens, ho.trans I.os, fun a ha => ?_⟩
 ·by_cases q : a ∈ L
  ·rw [Cx.watch_in _ q] at e; exact .inl e
  ·rw [Cx.watch_out _ q] at e
   exact (I.keep a o e).of_get fun ob w => hk a ob q w
 ·exact (I.objs a o e).of_get fun ob w => hk a ob (fun q => by rw [(hL a q).2.1] at e; cases e) w
 ·rw [Cx.watch_out _ fun q => by rw [(hL a q).2.1] at e; cases e]; exact (I.sepH a o e).1
 ·by_cases q : a ∈ L
  ·exact (hL a q).1
  ·rw [Cx.watch_out _ q] at e; exact I.sepU a o e
 ·obtain ⟨o, e⟩ := I.frU a ha
  exact ⟨o, by rw [Cx.watch_out _ fun q => (hL a q).2.2 ha]; exact e⟩
theorem Inv.strip (I : Inv S C H s) (hL : ∀ a ∈ L, a ∉ C.fr) : Inv S (C.strip L) H s := by
 refine I.less (fun a ha _ => ha) (fun a o e => ?_) fun a ha => ?_
 ·by_cases q : a ∈ L
  ·rw [Cx.strip_in _ q] at e; cases e
  ·rw [Cx.strip_out _ q] at e; exact e
 ·obtain ⟨o, e⟩ := I.frU a ha
  exact ⟨o, by rw [Cx.strip_out _ fun q => hL a q ha]; exact e⟩
theorem FrOK.strip (F : FrOK S C A) (hL : ∀ a ∈ L, a ∉ C.fr) : FrOK S (C.strip L) A := by
 refine ⟨F.stack, fun e he => ?_⟩
 obtain ⟨q1, l, o, q2, q3, q4, q5⟩ := F.fun_ e he
 exact ⟨q1, l, o, q2, q3, by rw [Cx.strip_out _ fun q => hL l q q3]; exact q4, q5⟩
theorem Raised.strip {x : Str} {v : Value} (R : Raised S C H x v s) (hL : ∀ a ∈ L, a ∉ C.fr) : Raised S (C.strip L) H x v s := by
 obtain ⟨e, rfl, I, X⟩ := R
 have none_ : ∀ {a : Addr}, C.U a = none → (C.strip L).U a = none := fun {a} h => by
  by_cases q : a ∈ L
  ·exact Cx.strip_in _ q
  ·rw [Cx.strip_out _ q]; exact h
 refine ⟨e, rfl, I.strip hL, ?_, X.new.1, none_ X.new.2.1, X.new.2.2⟩
 obtain ⟨oe, vs, K, q1, q2, q3, q4, q5, q6, q7⟩ := X.cls
 refine ⟨oe, vs, K, q1, q2, q3, q4, q5, q6, q7.imp id ?_⟩
 rintro ⟨T, oT, ts, fl, w1, w2, w3, w4, w5, w6, w7, w8, w9⟩
 exact ⟨T, oT, ts, fl, w1, w2, w3, w4, w5, w6, w7, none_ w8, w9⟩
structure Apt (C : Cx) (env : Env) (L : List Addr) : Prop where
 loc : ∀ a ∈ L, a ≠ env.locals
 cell : ∀ a ∈ L, ∀ x, env.cells.lookup x ≠ some a
 fr : ∀ a ∈ L, a ∉ C.fr
theorem EnvOK.watch (O : EnvOK S C A env) (P : Apt C env L) (h : Heap) : EnvOK S (C.watch L h) A env :=
 O.of_U rfl rfl (Cx.watch_out _ fun q => P.loc _ q rfl) (fun x c hx => Cx.watch_out _ fun q => P.cell _ q x hx) fun l hl => Cx.watch_out _ fun q => P.fr _ q hl
theorem EnvRel.watch (R : EnvRel C env ρ m) (P : Apt C env L) (h : Heap) : EnvRel (C.watch L h) env ρ m :=
 R.of_U (Cx.watch_out _ fun q => P.loc _ q rfl) fun x c hx => Cx.watch_out _ fun q => P.cell _ q x hx
theorem EnvOK.strip (O : EnvOK S C A env) (P : Apt C env L) : EnvOK S (C.strip L) A env :=
 O.of_U rfl rfl (Cx.strip_out _ fun q => P.loc _ q rfl) (fun x c hx => Cx.strip_out _ fun q => P.cell _ q x hx) fun l hl => Cx.strip_out _ fun q => P.fr _ q hl
theorem EnvRel.strip (R : EnvRel C env ρ m) (P : Apt C env L) : EnvRel (C.strip L) env ρ m :=
 R.of_U (Cx.strip_out _ fun q => P.loc _ q rfl) fun x c hx => Cx.strip_out _ fun q => P.cell _ q x hx
end
structure Wat (C C1 : Cx) (env : Env) (L : List Addr) (h : Heap) : Prop where
 fr : C1.fr = C.fr
 envs : C1.envs = C.envs
 other : ∀ a, a ∉ L → a ≠ env.locals → (∀ x, env.cells.lookup x ≠ some a) → C1.U a = C.U a
 own : ∀ a ∈ L, C1.U a = h.get? a
section
variable {S : St} {d : Nat} {sc : Kd} {ρ : Rho}
theorem Wat.upd {C C1 C2 : Cx} {env : Env} {L : List Addr} {s : Shared} {s' : Shared} {H : AH} (W : Wat C C1 env L s.heap) (AP : Apt C env L) (f : FUpd env C1 C2) (I : Inv S C2 H s') (hp : ∀ a ∈ L, ∃ o, s.heap.get? a = some o) : Wat C C2 env L s'.heap := by
 refine ⟨f.fr.trans W.fr, f.envs.trans W.envs, fun a w1 w2 w3 => (f.other a w2 w3).trans (W.other a w1 w2 w3), fun a ha => ?_⟩
 obtain ⟨o, e⟩ := hp a ha
 have q : C2.U a = some o := by rw [f.other a (AP.loc a ha) (AP.cell a ha), W.own a ha, e]
 rw [q, I.exact q (by rw [f.fr, W.fr]; exact AP.fr a ha)]
theorem Wat.same {C C1 C2 : Cx} {env : Env} {L : List Addr} {s : Shared} {s' : Shared} {H : AH} (W : Wat C C1 env L s.heap) (AP : Apt C env L) (f : FUpd env C1 C2) (I : Inv S C2 H s') : ∀ a ∈ L, ∀ o, s.heap.get? a = some o → s'.heap.get? a = some o := fun a ha o e => by
 have q : C2.U a = some o := by rw [f.other a (AP.loc a ha) (AP.cell a ha), W.own a ha, e]
 exact I.exact q (by rw [f.fr, W.fr]; exact AP.fr a ha)
end
end Mine
end
-- text A14
section
namespace Mine
open PySem PySem.Calls PyProof.Rows
section
variable {S : St} {d : Nat} {sc : Kd} {ρ : Rho}
theorem Wat.start {C : Cx} {env : Env} (L : List Addr) (h : Heap) : Wat C (C.watch L h) env L h := ⟨rfl, rfl, fun a q _ _ => Cx.watch_out _ q, fun a q => Cx.watch_in _ q⟩
theorem Wat.again {C C1 : Cx} {env : Env} {L : List Addr} {h h' : Heap} (W : Wat C C1 env L h) : Wat C (C1.watch L h') env L h' :=
 ⟨W.fr, W.envs, fun a q w1 w2 => (Cx.watch_out _ q).trans (W.other a q w1 w2), fun a q => Cx.watch_in _ q⟩
theorem Wat.hid {C C1 : Cx} {env : Env} {L : List Addr} {s : Shared} {H : AH} (W : Wat C C1 env L s.heap) (AP : Apt C env L) (I : Inv S C1 H s) (hp : ∀ a ∈ L, ∃ o, s.heap.get? a = some o) : ∀ a ∈ L, S.base.get? a = none ∧ H a = none ∧ a ∉ C1.fr := fun a ha => by
 obtain ⟨o, e⟩ := hp a ha
 have q : C1.U a = some o := by rw [W.own a ha, e]
 exact ⟨(I.hid q).1, (I.hid q).2, by rw [W.fr]; exact AP.fr a ha⟩
structure ZipAt (z TI TO i1 i2 l1 l2 : Addr) (k : Nat) (f0 : Value) (h : Heap) : Prop where
 z : IsZip h z TI TO f0
 ti : IsPair h TI (.ref i1) (.ref i2)
 to : ∃ a b, IsPair h TO a b
 it1 : h.IsListIter i1 l1 k
 it2 : h.IsListIter i2 l2 k
theorem ZipAt.frame {z TI TO i1 i2 l1 l2 : Addr} {k : Nat} {f0 : Value} {h h' : Heap} (Z : ZipAt z TI TO i1 i2 l1 l2 k f0 h) (e : ∀ a ∈ [z, TI, TO, i1, i2], ∀ o, h.get? a = some o → h'.get? a = some o) : ZipAt z TI TO i1 i2 l1 l2 k f0 h' := by
 obtain ⟨h1, h2, ⟨a, b, h3⟩, ⟨o1, g1, r1⟩, ⟨o2, g2, r2⟩⟩ := Z
 exact ⟨e z (by simp) _ h1, e TI (by simp) _ h2, ⟨a, b, e TO (by simp) _ h3⟩, ⟨o1, e i1 (by simp) _ g1, r1⟩, ⟨o2, e i2 (by simp) _ g2, r2⟩⟩
theorem ZipAt.there {z TI TO i1 i2 l1 l2 : Addr} {k : Nat} {f0 : Value} {h : Heap} (Z : ZipAt z TI TO i1 i2 l1 l2 k f0 h) : ∀ a ∈ [z, TI, TO, i1, i2], ∃ o, h.get? a = some o := by
 obtain ⟨h1, h2, ⟨a, b, h3⟩, ⟨o1, g1, r1⟩, ⟨o2, g2, r2⟩⟩ := Z
 intro x hx
 simp only [List.mem_cons, List.not_mem_nil, or_false] at hx
 rcases hx with rfl | rfl | rfl | rfl | rfl
 ·exact ⟨_, h1⟩
 ·exact ⟨_, h2⟩
 ·exact ⟨_, h3⟩
 ·exact ⟨_, g1⟩
 ·exact ⟨_, g2⟩
end
end Mine
end
-- text A15
section
namespace Mine
open PySem PySem.Calls PyProof.Rows
theorem SRs.append {w : World} {a b : List (Int × Value)} {xs ys : List Str} (h : SRs w a xs) (k : SRs w b ys) : SRs w (a ++ b) (xs ++ ys) := by
 induction h with
 | nil => exact k
 | cons ok _ ih => exact .cons ok ih
theorem SRs.perm {w : World} {l l' : List (Int × Value)} (p : l'.Perm l) : ∀ {ys : List Str}, SRs w l ys → ∃ ys', SRs w l' ys' ∧ ys'.Perm ys := by
 induction p with
 | nil => intro ys h; exact ⟨ys, h, .refl _⟩
 | cons x _ ih =>
  intro ys h
  cases h with
  | cons ok h => obtain ⟨ys', q, r⟩ := ih h; exact ⟨_, .cons ok q, r.cons _⟩
 | swap x y l =>
  intro ys h
  cases h with
  | cons ok h => cases h with
   | cons ok' h => exact ⟨_, .cons ok' (.cons ok h), .swap _ _ _⟩
 | trans _ _ ih1 ih2 =>
  intro ys h
  obtain ⟨y1, q1, r1⟩ := ih2 h
  obtain ⟨y2, q2, r2⟩ := ih1 q1
  exact ⟨y2, q2, r2.trans r1⟩
theorem SRs.elems {prog : Program} {w : World} {l : List (Int × Value)} {ys : List Str} (h : SRs w l ys) : ElemsOf (strKind prog w) l := by
 induction h with
 | nil => intro e he; cases he
 | @cons x t vs xs ok _ ih =>
  intro e he
  rcases List.mem_cons.mp he with rfl | he
  ·exact ⟨⟨x, by simp [PySem.strKind, Value.isStrOf], rfl⟩, rfl⟩
  ·exact ih e he
theorem SRs.mem {prog : Program} {w : World} {l : List (Int × Value)} {ys : List Str} (h : SRs w l ys) (k : Str) : k ∈ ys ↔ ∃ e ∈ l, (strKind prog w).is k e.2 = true := by
 induction h with
 | nil => simp
 | @cons x t vs xs ok _ ih =>
  rw [List.mem_cons, ih]
  constructor
  ·rintro (rfl | ⟨e, he, hk⟩)
   ·exact ⟨_, .head _, by simp [PySem.strKind, Value.isStrOf]⟩
   ·exact ⟨e, .tail _ he, hk⟩
  ·rintro ⟨e, he, hk⟩
   rcases List.mem_cons.mp he with rfl | he
   ·left
    have q : Value.isStrOf k (.str x t) = true := hk
    simp [Value.isStrOf] at q
    first | exact q | exact q.symm
   ·exact .inr ⟨e, he, hk⟩
theorem layNew_led (t : SetTable) (es : Array (Int × Value)) (h : Int) (x : Value) : (layNew t es h x).2.1.led = t.led := by
 unfold layNew
 split
 ·dsimp only
  unfold SetTable.orStandIn
  split <;> rfl
 ·rfl
theorem relayAll_led (t : SetTable) (es : Array (Int × Value)) (n : Nat) : (relayAll t es n).2.1.led = t.led := by
 unfold relayAll
 split
 ·rename_i t' order hr
  dsimp only
  split
  ·unfold SetTable.relaid SetTable.laid at hr
   simp only [Option.bind_eq_bind, Option.bind_eq_some_iff] at hr
   obtain ⟨o, _, h⟩ := hr
   cases h; rfl
  ·rfl
 ·rfl
theorem relayAll_plain (t : SetTable) (es : Array (Int × Value)) (n : Nat) (ht : t.plain = false) : (relayAll t es n).2.1.plain = false := by
 unfold relayAll
 split
 ·rename_i t' order hr
  dsimp only
  split
  ·unfold SetTable.relaid SetTable.laid at hr
   simp only [Option.bind_eq_bind, Option.bind_eq_some_iff] at hr
   obtain ⟨o, _, h⟩ := hr
   cases h; exact ht
  ·rfl
 ·rfl
noncomputable def stepAdd (xs : List Str) (x : Str) : List Str := if x ∈ xs then xs else xs ++ [x]
noncomputable def dedup (xs : List Str) : List Str := xs.foldl stepAdd []
section
variable {prog : Program} {w : World} {A : Around} {E : Value → Shared → Prop} {s : Shared}
theorem setAdd_str {a : Addr} {xs : List Str} {x : Str} {t0 : Tok} {Q : Bool → Shared → Prop} (ok : PyData.strOk x = true) (hS : StrSetAt w s.heap a xs) (hroom : xs.length + 1 < scanBound)
  (h : ∀ (r : Bool) h', Heap.SameBut a s.heap h' → StrSetAt w h' a (stepAdd xs x) → Q r { s with heap := h' }) :
  wpAny (model prog w) A (setAddHashed a (.str x t0) (hashStr w x)) Q E s := by
 obtain ⟨es, ep, t, ys, ho, hel, pm, nd, hb, hf, hled, hpl⟩ := hS
 have hlen : es.size = xs.length := by rw [← pm.length_eq, ← hel.length, Array.length_toList]
 have hkey : (strKind prog w).is x (.str x t0) = true := by simp [PySem.strKind, Value.isStrOf]
 have hsc : (Value.str x t0).scannable = true := rfl
 have hE : ElemsOf (strKind prog w) es.toList := hel.elems
 unfold setAddHashed setAddHashedIn
 refine wpAny_holding (wpAny_bind (wpAny_setState_of ho rfl hf ?_))
 dsimp only
 rw [byScan_of hsc hb hE]
 simp only [↓reduceIte]
 unfold setAddByScan
 refine wpAny_bind ?_
 refine wpAny_bind (wpAny_rule ?_)
 refine wpAny_bind (wpAny_setScan_of (knd := strKind prog w) (k := x) hkey ho rfl hf hE ?_)
 cases hr : List.findIdx? (fun e => (strKind prog w).is x e.2) es.toList with
 | some j =>
  dsimp only
  obtain ⟨hj, hpj, _⟩ := List.findIdx?_eq_some_iff_getElem.mp hr
  have hx : x ∈ xs := pm.mem_iff.mp ((hel.mem (prog := prog) x).mpr ⟨es.toList[j], List.getElem_mem hj, hpj⟩)
  refine wpAny_pure (wpAny_pure ?_)
  have e : s = { s with heap := s.heap } := by cases s; rfl
  rw [e]
  refine h _ s.heap (Heap.SameBut.refl a s.heap) ?_
  unfold stepAdd; rw [if_pos hx]
  exact ⟨es, ep, t, ys, ho, hel, pm, nd, hb, hf, hled, hpl⟩
 | none =>
  dsimp only
  have hx : x ∉ xs := fun hx => by
   obtain ⟨e, he, hp⟩ := (hel.mem (prog := prog) x).mp (pm.mem_iff.mpr hx)
   have := List.findIdx?_eq_none_iff.mp hr e he; rw [hp] at this; exact Bool.noConfusion this
  have hgw : ∀ (b : Bool) {s₁ : Shared} {Q' : Unit → Shared → Prop}, Q' () s₁ → wpAny (model prog w) A (match b with | true => rule "set.scan.the-table-gave-way" | false => pure ()) Q' E s₁ :=
   fun b s₁ Q' hq => by cases b <;> first | exact wpAny_pure hq | exact wpAny_rule hq
  have hperm := layNew_perm t es (hashStr w x) (.str x t0)
  have hfits := layNew_fits t es (hashStr w x) (.str x t0)
  have hled1 := layNew_led t es (hashStr w x) (.str x t0)
  generalize hL : layNew t es (hashStr w x) (.str x t0) = L at hperm hfits hled1 ⊢
  obtain ⟨es1, t1, wasDummy, gave⟩ := L
  dsimp only at hperm hfits hled1 ⊢
  rw [Array.toList_push] at hperm
  obtain ⟨ys1, hel1, pm1⟩ := SRs.perm hperm (hel.append (.cons ok .nil))
  have hsz1 : es1.size = es.size + 1 := by rw [← Array.length_toList, hperm.length_eq, List.length_append, Array.length_toList]; rfl
  have hb1' : es1.size < scanBound := by lia
  have pmx : ys1.Perm (xs ++ [x]) := pm1.trans (pm.append_right _)
  have ndx : (xs ++ [x]).Nodup := by
   rw [List.nodup_append]
   refine ⟨nd, List.nodup_cons.mpr ⟨by simp, List.nodup_nil⟩, fun a ha b hb => ?_⟩
   rw [List.mem_singleton.mp hb]; exact fun e => hx (e ▸ ha)
  have estep : stepAdd xs x = xs ++ [x] := by unfold stepAdd; rw [if_neg hx]
  refine wpAny_bind (hgw _ ?_)
  have tail : ∀ {t2 : SetTable}, t2.fits es1.size = true → (w.params.followText "set-order" = true ∨ t2.led = true) → t2.plain = false → ∀ {g : Bool → Sem Unit}, (∀ (b : Bool) (s₁ : Shared) (Q' : Unit → Shared → Prop), Q' () s₁ → wpAny (model prog w) A (g b) Q' E s₁) →
    wpAny (model prog w) A (do
     storeSet a es1 t2
     if (!wasDummy && t2.tooFull) = true then do
       g (relayAll t2 es1 (SetTable.grown es1.size)).2.2
       storeSet a (relayAll t2 es1 (SetTable.grown es1.size)).1 (relayAll t2 es1 (SetTable.grown es1.size)).2.1
       pure (some true)
      else pure (some true)) (fun r s' => wpAny (model prog w) A (match r with | some added => pure added | none => setAddHashedIn a (.str x t0) (hashStr w x) 99999) Q E s') E s := by
   intro t2 hf2 hl2 hp2 g hg
   refine wpAny_bind (wpAny_storeSet_of ho rfl ?_ (fits_of_scanBound hb1'))
   have ho1 : (s.heap.update a (Obj.putSet es1 t2)).get? a = some { cls := .type "set", data := .set es1 (ep + 1) t2 } := by
    have := Heap.get?_update_self (Obj.putSet es1 t2) ho (by rw [putSet_of es1 t2 rfl]; rfl)
    rw [putSet_of es1 t2 rfl] at this; exact this
   have hsb1 := Heap.SameBut.update s.heap a (Obj.putSet es1 t2)
   split
   ·have hp := relayAll_perm t2 es1 (SetTable.grown es1.size)
    have hfr := relayAll_fits t2 es1 (SetTable.grown es1.size)
    have hlr := relayAll_led t2 es1 (SetTable.grown es1.size)
    have hpr := relayAll_plain t2 es1 (SetTable.grown es1.size) hp2
    generalize hRl : relayAll t2 es1 (SetTable.grown es1.size) = Rl at hp hfr hlr hpr ⊢
    obtain ⟨es2, t3, gave2⟩ := Rl
    dsimp only at hp hfr hlr hpr ⊢
    obtain ⟨ys2, hel2, pm2⟩ := SRs.perm hp hel1
    have hsz : es2.size = es1.size := by rw [← Array.length_toList, hp.length_eq, Array.length_toList]
    refine wpAny_bind (hg _ _ _ ?_)
    refine wpAny_bind (wpAny_storeSet_of ho1 rfl ?_ (fits_of_scanBound (by lia)))
    have ho2 : ((s.heap.update a (Obj.putSet es1 t2)).update a (Obj.putSet es2 t3)).get? a = some { cls := .type "set", data := .set es2 (ep + 1 + 1) t3 } := by
     have := Heap.get?_update_self (Obj.putSet es2 t3) ho1 (by rw [putSet_of es2 t3 rfl]; rfl)
     rw [putSet_of es2 t3 rfl] at this; exact this
    refine wpAny_pure (wpAny_pure (h _ _ (hsb1.trans (Heap.SameBut.update _ a _)) ?_))
    rw [estep]
    exact ⟨es2, _, t3, ys2, ho2, hel2, pm2.trans pmx, ndx, by lia, hfr, hlr ▸ hl2, fun _ => hpr⟩
   ·refine wpAny_pure (wpAny_pure (h _ _ hsb1 ?_))
    rw [estep]
    exact ⟨es1, _, t2, ys1, ho1, hel1, pmx, ndx, hb1', hf2, hl2, fun _ => hp2⟩
  have hl1 : w.params.followText "set-order" = true ∨ t1.led = true := hled1 ▸ hled
  split
  ·refine wpAny_bind ?_
   rw [hashByValue_scannable 8 hsc]
   refine wpAny_pure ?_
   refine tail (t2 := { t1 with plain := false }) ?_ hl1 rfl ?_
   ·exact SetTable.fits_plain_off hfits
   ·intro b s₁ Q' hq; cases b <;> first | exact wpAny_pure hq | exact wpAny_rule hq
  ·rename_i hpn
   refine wpAny_bind (wpAny_pure ?_)
   simp only [↓reduceIte]
   refine tail hfits hl1 (by simpa using hpn) ?_
   intro b s₁ Q' hq; cases b <;> first | exact wpAny_pure hq | exact wpAny_rule hq
end
end Mine
end
-- text A16
section
namespace Mine
open PySem PySem.Calls PyProof.Rows
set_option maxRecDepth 100000
section
variable {prog : Program} {w : World} {A : Around} {E : Value → Shared → Prop} {s : Shared}
theorem set_new_1 (a : Value) {Q₁ : Value → Shared → Prop}
  (h : Q₁ (.ref s.heap.objs.size) { s with heap := s.heap.push { cls := .type "set", dict := none, data := .set #[] 0 (.fresh 0 0 (!w.params.followText "set-order")) } }) :
  codeAny (model prog w) A (.call (.builtin "set.__new__") ⟨[.type "set", a], []⟩) (wants Q₁ E) s := by
 refine codeAny_of_tree ?_
 show wpAny _ A.in1 (do checkBuiltinCall "set.__new__" ⟨[.type "set", a], []⟩; again (.builtin "set.__new__" ⟨[.type "set", a], []⟩)) _ _ s
 refine wpAny_bind (wpAny_of_eq (PySem.F.newCall_set_1 a) (wpAny_pure ⟨plainId_quiet PySem.F.plain_set_new _, codeAny_builtin PySem.F.entry_set_new ?_⟩))
 rw [Around.under_plainId PySem.F.plain_set_new _]
 unfold Builtin.«set.__new__» Builtin.Frozenset.newClass
 have hsub := sub_set_self
 obtain ⟨hp, g, d, tk, os⟩ := s
 dsimp only
 wp_walk
 refine wpAny_askSetting (wpAny_pure ?_)
 dsimp only
 simp only [newObj]
 refine wpAny_bind (wpAny_alloc (wpAny_pure ?_))
 exact wpAny_pure h
noncomputable def firstS (xs : List Str) (i : Nat) : List Str := dedup (xs.take i)
theorem firstS_succ {xs : List Str} {i : Nat} {x : Str} (h : xs[i]? = some x) : firstS xs (i + 1) = stepAdd (firstS xs i) x := by
 unfold firstS dedup
 rw [List.take_add_one, h, List.foldl_append]; rfl
theorem stepAdd_le (xs : List Str) (x : Str) : (stepAdd xs x).length ≤ xs.length + 1 := by
 unfold stepAdd; split <;> simp
theorem firstS_le (xs : List Str) : ∀ i, (firstS xs i).length ≤ i
 | 0 => by simp [firstS, dedup]
 | i + 1 => by
  cases h : xs[i]? with
  | none =>
   have : firstS xs (i + 1) = firstS xs i := by unfold firstS; rw [List.take_add_one, h]; simp
   rw [this]; exact Nat.le_succ_of_le (firstS_le xs i)
  | some x => rw [firstS_succ h]; exact Nat.le_trans (stepAdd_le _ _) (Nat.succ_le_succ (firstS_le xs i))
theorem StrSetAt.of_get {h h' : Heap} {a : Addr} {xs : List Str} (x : StrSetAt w h a xs) (e : ∀ o, h.get? a = some o → h'.get? a = some o) : StrSetAt w h' a xs := by
 obtain ⟨es, ep, t, ys, h1, r2, r3, r4, r5, r6, r7, r8⟩ := x; exact ⟨es, ep, t, ys, e _ h1, r2, r3, r4, r5, r6, r7, r8⟩
theorem set_loop {R : Result → Shared → Prop} {I : Addr} {fp wr : List Addr} {G : Array GenState → Array GenState → Prop} {n : Nat} {P : Nat → Value → Prop} {St : Nat → Shared → Prop}
  (W : WalksS prog w A.in1 I fp wr G n P St) (Sa : Addr) (hSf : Sa ∉ fp) (xs : List Str) (hn : xs.length = n)
  (hval : ∀ i v, P i v → ∃ x t, xs[i]? = some x ∧ v = .str x t ∧ PyData.strOk x = true) (hb : n + 1 < scanBound) :
  ∀ (k i : Nat) (s : Shared), n - i = k → i ≤ n → St i s → StrSetAt w s.heap Sa (firstS xs i) →
   (∀ s', Moved (Sa :: wr) G s s' → StrSetAt w s'.heap Sa (firstS xs n) → R (.ok (.ret .none)) s') →
   codeAny (model prog w) A (.builtin "set.update.loop" ⟨[.ref Sa, .ref I], []⟩) R s := by
 have hSw : Sa ∉ wr := fun h => hSf (W.sub _ h)
 have hsub : ∀ b ∈ wr, b ∈ Sa :: wr := fun b hb => List.mem_cons_of_mem _ hb
 intro k
 induction k with
 | zero =>
  intro i s hk hi hst hS hR
  have hin : i = n := by lia
  subst hin
  refine codeAny_builtin PyProof.Rows.F.entry_set_update_loop ?_
  rw [Around.under_plainId PyProof.Rows.F.plain_set_update_loop _]
  show wpAny _ A.in1 (pyNext (.ref I) >>= _) _ _ s
  refine wpAny_bind (W.done s _ _ hst fun s' hm => ?_)
  show wpAny _ A.in1 (ret Value.none) _ _ s'
  exact wpAny_pure (hR s' (hm.mono hsub) (hS.of_get fun o e => hm.heap Sa _ hSw e))
 | succ k ih =>
  intro i s hk hi hst hS hR
  have hlt : i < n := by lia
  refine codeAny_builtin PyProof.Rows.F.entry_set_update_loop ?_
  rw [Around.under_plainId PyProof.Rows.F.plain_set_update_loop _]
  show wpAny _ A.in1 (pyNext (.ref I) >>= _) _ _ s
  refine wpAny_bind (W.item i s _ _ hlt hst fun v s' hP hst' hm => ?_)
  obtain ⟨x, t, hx, rfl, ok⟩ := hval i v hP
  have hS' : StrSetAt w s'.heap Sa (firstS xs i) := hS.of_get fun o e => hm.heap Sa _ hSw e
  show wpAny _ A.in1 (holding [Value.str x t] (setAdd Sa (.str x t)) >>= _) _ _ s'
  refine wpAny_bind (wpAny_holding ?_)
  unfold setAdd
  refine wpAny_holding ?_
  refine wpAny_bind ((PySem.strKind prog w).pyHash (k := x) (by simp [PySem.strKind, Value.isStrOf]) ?_)
  have hroom : (firstS xs i).length + 1 < scanBound := by have := firstS_le xs i; lia
  refine setAdd_str (s := { s' with toks := s'.toks + 1 }) ok hS' hroom fun r h' hsb hS2 => ?_
  have hSi : StrSetAt w h' Sa (firstS xs (i + 1)) := by rw [firstS_succ hx]; exact hS2
  refine wpAny_pure ⟨plainId_quiet PyProof.Rows.F.plain_set_update_loop _, ih (i + 1) _ (by lia) hlt (W.frame _ s' _ _ hst' (Nat.le_succ _) fun b hb o e => ?_) hSi fun s'' hm'' hS'' => ?_⟩
  ·rw [hsb.2 b (fun h : b = Sa => hSf (by rw [← h]; exact hb))]; exact e
  ·refine hR s'' (Moved.trans W.gtrans ((hm.mono hsub).then_heap (Nat.le_succ _) fun b o hb e => ?_) hm'') hS''
   rw [hsb.2 b (fun h : b = Sa => hb (by rw [h]; exact List.mem_cons_self))]; exact e
theorem fresh_set {h : Heap} {a : Addr} (hg : h.get? a = some { cls := .type "set", dict := none, data := .set #[] 0 (.fresh 0 0 (!w.params.followText "set-order")) }) : StrSetAt w h a [] := by
 refine ⟨#[], 0, _, [], hg, .nil, .refl _, List.nodup_nil, by decide, rfl, ?_, fun h => absurd rfl h⟩
 cases q : w.params.followText "set-order" with
 | true => exact .inl rfl
 | false => exact .inr rfl
set_option maxHeartbeats 3200000 in
theorem call_set_strs {l : Addr} {vs : List Value} {n0 : Nat} {xs : List Str} {Q : Value → Shared → Prop}
  (hh : A.handled = none) (hl0 : s.heap.get? l = some { cls := .type "list", data := .seq vs.toArray n0 }) (hi : VRs vs (xs.map AV.str)) (hb : vs.length + 1 < scanBound)
  (h : ∀ (h' : Heap) (tk : Nat), StrSetAt w h' s.heap.objs.size (dedup xs) →
   (∀ b o, s.heap.get? b = some o → h'.get? b = some o) → Q (.ref s.heap.objs.size) { s with heap := h', toks := tk }) :
  wpAny (model prog w) A (call (.type "set") [.ref l]) Q E s := by
 have hl : s.heap.IsList l vs.toArray := ⟨_, hl0, rfl, n0, rfl⟩
 obtain ⟨c, tl, hmro⟩ := PySem.F.called_set.mro
 have hmade := PySem.F.called_set.made
 have hsub := PySem.F.called_set.sub
 refine wpAny_call (codeAny_of_tree ?_)
 show wpAny _ _ (callAny (.type "set") _) _ _ _
 refine wpAny_pure ⟨Code.quiet_builtin _ (by decide +kernel), codeAny_builtin PySem.F.entry_type_call ?_⟩
 rw [Around.under_plain (weight_type_call_type "set" [.ref l] []) rfl]
 have h1 := PySem.F.called_set.notType
 have h2 := PySem.F.called_set.canCreate
 have hct := PySem.F.typeCall_set_1 (.ref l)
 repeat (any_goals (first | assumption | wp_step))
 refine codeAny_mono (set_new_1 (.ref l) (E := E) (Q₁ := fun obj s₁ => obj = .ref s.heap.objs.size ∧ s₁ = { s with heap := s.heap.push { cls := .type "set", dict := none, data := .set #[] 0 (.fresh 0 0 (!w.params.followText "set-order")) } }) ⟨rfl, rfl⟩) fun r s₁ hr => ?_
 cases r with
 | error e => exact hr
 | ok fl =>
  cases fl with
  | ret obj =>
   obtain ⟨rfl, rfl⟩ := hr
   generalize hled : (!w.params.followText "set-order") = led
   have hS : (s.heap.push { cls := .type "set", dict := none, data := .set #[] 0 (.fresh 0 0 led) }).get? s.heap.objs.size = some { cls := .type "set", dict := none, data := .set #[] 0 (.fresh 0 0 led) } := Heap.get?_push_size _ rfl
   have hT : Shared.TypeIs { s with heap := s.heap.push { cls := .type "set", dict := none, data := .set #[] 0 (.fresh 0 0 led) } } (.ref s.heap.objs.size) "set" := ⟨_, hS, rfl⟩
   have hli := PySem.F.called_set.init.lookup
   have hbi := PySem.F.called_set.init.bind (.ref s.heap.objs.size)
   repeat (any_goals (first | assumption | wp_step))
   refine codeAny_mono (codeAny_call_builtin (R := wants (fun r s₂ => r = .none ∧ ∃ h' tk, s₂ = { s with heap := h', toks := tk } ∧
     StrSetAt w h' s.heap.objs.size (dedup xs) ∧
     (∀ b o, s.heap.get? b = some o → h'.get? b = some o)) E) PySem.F.called_set.init.plain PySem.F.entry_set_init (check_set_init_1 hT ?_)) fun r₂ s₂ hr₂ => ?_
   ·have hol' : (s.heap.push { cls := .type "set", dict := none, data := .set #[] 0 (.fresh 0 0 led) }).get? l = some { cls := .type "list", dict := none, data := .seq vs.toArray n0, slots := #[] } := Heap.get?_push_of_some _ hl0
    have hsls := PySem.F.sub_list_set
    have hslf := PySem.F.sub_list_frozenset
    have hne : (Value.type "list" == Value.type "dict") = false := by decide
    have hl1 : (s.heap.push { cls := .type "set", dict := none, data := .set #[] 0 (.fresh 0 0 led) }).IsList l vs.toArray := ⟨_, hol', rfl, n0, rfl⟩
    unfold Builtin.«set.__init__» noKeywords Builtin.Frozenset.updateFrom
    generalize hPI : pyIter = PI
    wp_walk
    subst hPI
    refine wpAny_pyIter_list hl1 ?_
    refine wpAny_bind (wpAny_runValue ?_)
    have hlS : l < s.heap.objs.size := Heap.lt_size hl0
    have hh3 : A.in1.in1.in1.handled = none := by simp [hh]
    have hneI : l ≠ (s.heap.push { cls := .type "set", dict := none, data := .set #[] 0 (.fresh 0 0 led) }).objs.size := by
     rw [Heap.size_push]; exact Nat.ne_of_lt (Nat.lt_succ_of_lt hlS)
    have hSf : s.heap.objs.size ∉ [(s.heap.push { cls := .type "set", dict := none, data := .set #[] 0 (.fresh 0 0 led) }).objs.size, l] := by
     rw [Heap.size_push]; simp only [List.mem_cons, List.mem_singleton, List.not_mem_nil, or_false, not_or]
     exact ⟨Nat.ne_of_lt (Nat.lt_succ_self _), Nat.ne_of_gt hlS⟩
    have hval : ∀ (i : Nat) (v : Value), vs.toArray[i]? = some v → ∃ x t, xs[i]? = some x ∧ v = .str x t ∧ PyData.strOk x = true := fun i v hv => by
     obtain ⟨a, e1, r1⟩ := hi.getV (by simpa using hv)
     rw [List.getElem?_map] at e1
     cases hx : xs[i]? with
     | none => rw [hx] at e1; cases e1
     | some x =>
      rw [hx] at e1; cases e1
      obtain ⟨t, rfl, ok⟩ := r1.str_inv
      exact ⟨x, t, rfl, rfl, ok⟩
    have hlen : xs.length = vs.toArray.size := by have := hi.length; rw [List.length_map] at this; rw [List.size_toArray, this]
    have efin : firstS xs vs.toArray.size = dedup xs := by unfold firstS; rw [← hlen, List.take_length]
    refine set_loop ((Walks.list hh3 _ l hneI vs.toArray).toS) s.heap.objs.size
     hSf xs hlen hval (by rw [List.size_toArray]; exact hb) (vs.toArray.size - 0) 0 _ (by lia) (Nat.zero_le _)
     ⟨⟨_, Heap.get?_push_size _ rfl, rfl, rfl⟩, (hl1.push _)⟩ ?hS0 ?hR
    case hS0 =>
     have hget : ((s.heap.push { cls := .type "set", dict := none, data := .set #[] 0 (.fresh 0 0 led) }).push { cls := .type "list_iterator", data := .fields #[.ref l, .int 0 0] }).get? s.heap.objs.size
       = some { cls := .type "set", dict := none, data := .set #[] 0 (.fresh 0 0 led) } := Heap.get?_push_of_some _ hS
     rw [← hled] at hget ⊢
     exact fresh_set hget
    case hR =>
     intro s' hm hS'
     rw [efin] at hS'
     obtain ⟨h', g', d', tk', os'⟩ := s'
     have eg : g' = s.gens := hm.gens
     have ed : d' = s.drawn := hm.drawn
     have eo : os' = s.os := hm.os
     subst eg; subst ed; subst eo
     show wpAny _ _ _ _ _ _
     refine wpAny_pure ?_
     show wpAny _ _ (ret Value.none) _ _ _
     refine wpAny_pure ⟨rfl, h', tk', rfl, hS', fun b o e => ?_⟩
     have hb : b < s.heap.objs.size := Heap.lt_size e
     have hb1 : b ≠ s.heap.objs.size := Nat.ne_of_lt hb
     have hb2 : b ≠ (s.heap.push { cls := .type "set", dict := none, data := .set #[] 0 (.fresh 0 0 led) }).objs.size := by
      rw [Heap.size_push]; exact Nat.ne_of_lt (Nat.lt_succ_of_lt hb)
     exact hm.heap b o (by simp only [List.mem_cons, List.mem_singleton, List.not_mem_nil, or_false, not_or]; exact ⟨hb1, hb2⟩) (Heap.get?_push_of_some _ (Heap.get?_push_of_some _ e))
   ·cases r₂ with
    | error e => exact hr₂
    | ok fl₂ =>
     cases fl₂ with
     | ret r =>
      obtain ⟨rfl, h', tk, rfl, hS', hk'⟩ := hr₂
      repeat (any_goals (first | assumption | wp_step))
      exact h _ _ hS' hk'
     | _ => exact hr₂
  | _ => exact hr
end
end Mine
end
-- text A17
section
namespace Mine
open PySem PySem.Calls PyProof.Rows PySem.W
noncomputable def ltS (x y : Str) : Bool := decide (x.cps.toList < y.cps.toList)
noncomputable def ltL : List Str → List Str → Bool
 | [], [] => false
 | [], _ :: _ => true
 | _ :: _, [] => false
 | a :: r, b :: q => if a = b then ltL r q else ltS a b
noncomputable def insB {α : Type} (lt : α → α → Bool) (x : α) : List α → List α
 | [] => [x]
 | y :: r => if lt x y = true then x :: y :: r else y :: insB lt x r
noncomputable def isort {α : Type} (lt : α → α → Bool) : List α → List α
 | [] => []
 | x :: r => insB lt x (isort lt r)
noncomputable def sortS (xs : List Str) : List Str := isort ltS xs
noncomputable def sortI (xs : List Int) : List Int := isort (fun a b => decide (a < b)) xs
inductive bSetK (vs : List AV) (H : AH) (Q : QV) : Prop
 | mk (a) (xs) : (vs = [.ref a]) → (H a = some (.list (List.map AV.str xs))) → (xs.length ≤ 4000) → (∀ r, H r = none → Q (.ref r) (H.put r (.sset (dedup xs)))) → bSetK vs H Q
noncomputable def bSet : BFn := fun vs H Q => bSetK vs H Q
theorem bSet_ok {S : St} : BFnOK S true (.type "set") bSet := by
 rintro C A vs avs H Q E s hh hu r I ⟨a, xs, rfl, ha, hl, h⟩
 obtain ⟨_, rfl, r0⟩ := r.one
 cases r0.ref_inv
 obtain ⟨ws, n, g, q, _⟩ := I.list ha
 have e := q.length
 rw [List.length_map] at e
 refine call_set_strs (hh rfl) g q (by show ws.length + 1 < 4096; lia) fun h' tk hS hk => ⟨_, _, .ref _, ?_, h _ I.nextNone⟩
 exact I.add (s' := { s with heap := h', toks := tk }) (o := .sset (dedup xs)) (Heap.get?_none_of_le (Nat.le_refl _)) hk hS rfl rfl
noncomputable def bSorted : BFn := fun vs H Q => OneGot vs H fun o => match o with
 | .sset xs => xs.length < 64 ∧ ∀ r, H r = none → Q (.ref r) (H.put r (.list ((sortS xs).map AV.str)))
 | .idict es => es.length < 64 ∧ ∀ r, H r = none → Q (.ref r) (H.put r (.list ((sortI (es.map (·.1))).map AV.int)))
 | .list vs => ∃ xs, vs = List.map AV.str xs ∧ xs.length < 64 ∧ ∀ r, H r = none → Q (.ref r) (H.put r (.list ((sortS xs).map AV.str)))
 | _ => False
noncomputable def fnAt (K : Frag) (a : Addr) : Option FuncData := match K.lookup a with
 | some ⟨_, _, .func fd, _⟩ => some fd
 | _ => none
noncomputable def bodyOf (fd : FuncData) : List Stmt := match fd.body with
 | .stmts b => b
 | _ => []
noncomputable def bodyAt (K : Frag) (a : Addr) : List Stmt := ((fnAt K a).map bodyOf).getD []
noncomputable def scopeAt (K : Frag) (a : Addr) : Scope := ((fnAt K a).map (·.scope)).getD default
noncomputable def scAt (K : Frag) (a : Addr) : Kd := fun x => (scopeAt K a).names.lookup x
theorem fnAt_get {K : Frag} {h : Heap} (X : K.In h) {a : Addr} {fd : FuncData} (e : fnAt K a = some fd) : ∃ o, h.get? a = some o ∧ o.data = .func fd := by
 unfold fnAt at e
 split at e
 ·rename_i c d fd' sl hl
  cases e
  exact ⟨_, X _ _ hl, rfl⟩
 ·cases e
theorem isDef_of {S : St} {K : Frag} (X : K.In S.base) {a cd : Addr} {ps : List Str} {fd : FuncData} (e : fnAt K a = some fd) (hb : ∃ b, fd.body = .stmts b) (hc : fd.closure = []) (hg : fd.globals = mainGlobals) (hbl : fd.builtins = builtinsNs)
  (hcd : fd.code = .ref cd) (hcr : ∃ o vs t, K.lookup cd = some o ∧ o.data = .fields vs ∧ vs[1]? = some (.str fd.qualname t))
  (hps : ∀ vals : List Value, vals.length = ps.length → bindArgs fd ⟨vals, []⟩ = pure (ps.zip vals)) : IsDef S a fd.name ps (scopeAt K a) (bodyAt K a) := by
 obtain ⟨o, h1, h2⟩ := fnAt_get X e
 obtain ⟨b, hb⟩ := hb
 obtain ⟨oc, vs, t, c1, c2, c3⟩ := hcr
 refine ⟨o, fd, h1, h2, ?_, ?_, hc, hg, hbl, ⟨cd, oc, vs, t, hcd, X _ _ c1, c2, c3⟩, hps, rfl⟩
 ·unfold bodyAt; rw [e]; simp [bodyOf, hb]
 ·unfold scopeAt; rw [e]; rfl
theorem bind1 {fd : FuncData} {a : Str} (h : ∀ v, bindArgs fd ⟨[v], []⟩ = pure [(a, v)]) (vals : List Value) (hl : vals.length = [a].length) : bindArgs fd ⟨vals, []⟩ = pure ([a].zip vals) := by
 obtain ⟨v, rfl⟩ := List.length_eq_one_iff.mp hl
 exact h v
theorem bind2 {fd : FuncData} {a b : Str} (h : ∀ v w, bindArgs fd ⟨[v, w], []⟩ = pure [(a, v), (b, w)]) (vals : List Value) (hl : vals.length = [a, b].length) : bindArgs fd ⟨vals, []⟩ = pure ([a, b].zip vals) := by
 cases vals with
 | nil => cases hl
 | cons v r =>
  obtain ⟨w, rfl⟩ := List.length_eq_one_iff.mp (Nat.succ.inj hl)
  exact h v w
theorem SoundF.mono {S : St} {b : Bool} {d : Nat} {f : Value} {F G : Fn} (h : SoundF S b d f F) (k : ∀ vs H Q X, G vs H Q X → F vs H Q X) : SoundF S b d f G :=
 fun C A vs avs H Q X s R F' hv I g => h C A vs avs H Q X s R F' hv I (k _ _ _ _ g)
theorem SoundF.deeper {S : St} {b : Bool} {d e : Nat} {f : Value} {F : Fn} (h : SoundF S b d f F) (k : d ≤ e) : SoundF S b e f F :=
 fun C A vs avs H Q X s R F' hv I g => h C A vs avs H Q X s ⟨R.hd, by have := R.depth; lia, by have := R.units; lia⟩ F' hv I g
noncomputable def rhoOK (ρ : Rho) : Bool := ρ.all fun p => ρ.all fun q => (p.1 == q.1) == (p.2 == q.2)
theorem rho_ok {ρ : Rho} (h : rhoOK ρ = true) : RhoOK ρ := by
 intro p hp q hq
 have h1 := List.all_eq_true.mp (List.all_eq_true.mp h p hp) q hq
 have h2 : (p.1 == q.1) = (p.2 == q.2) := by simpa using h1
 constructor
 ·intro e
  have : (p.1 == q.1) = true := by simpa using e
  rw [h2] at this; simpa using this
 ·intro e
  have : (p.2 == q.2) = true := by simpa using e
  rw [← h2] at this; simpa using this
noncomputable def compAt (scope : Scope) (sc : Kd) (ρ : Rho) (x : Str) (i : Nat) : Bool :=
 (scope.kind == .function) && (scope.names.lookup x == some .local || scope.names.lookup x == some .cell) && (scope.names.all fun p => !(p.2 == .free) || (sc p.1 == some .cell || sc p.1 == some .free)) &&
 decide ((scope.names.map (·.1)).Nodup) && (ρ.all fun p => p.2 != i) && rhoOK ρ
theorem comp_at {scope : Scope} {sc : Kd} {ρ : Rho} {x : Str} {i : Nat} (h : compAt scope sc ρ x i = true) : CompAt scope sc ρ x i := by
 simp only [compAt, Bool.and_eq_true, Bool.or_eq_true, beq_iff_eq, decide_eq_true_eq, List.all_eq_true, bne_iff_ne, Bool.not_eq_true', beq_eq_false_iff_ne] at h
 obtain ⟨⟨⟨⟨⟨h1, h2⟩, h3⟩, h4⟩, h5⟩, h6⟩ := h
 exact ⟨h1, h2, fun p hp e => (h3 p hp).resolve_left fun q => q e, fun z hz e => by rw [← e]; exact nodup_lookup h4 hz, h4, h5, rho_ok h6⟩
theorem or_kd {o : Option NameKind} (h : (o == some .local || o == some .cell) = true) : o = some .local ∨ o = some .cell := by simpa using h
noncomputable def defOK (sc : Scope) (ps : List Str) (is : List Nat) (ρ : Rho) : Bool :=
 decide ps.Nodup && decide is.Nodup && rhoOK ρ && ((ps.zip is).all fun p => ρ.any (· == p)) && (ps.length == is.length) && (ps.all fun p => sc.names.lookup p == some .local || sc.names.lookup p == some .cell) &&
 decide ((sc.names.map (·.1)).Nodup) && (sc.names.all fun p => p.2 != .free) && (sc.kind == .function) && !sc.isCoroutine && !sc.isGenerator
theorem sF_defK {S : St} {b : Bool} {d : Nat} {ρ : Rho} {f : Addr} {name : Str} {ps : List Str} {is : List Nat} {sc : Scope} {body : List Stmt} {t : Ts} (K : StOK S) (hf : IsDef S f name ps sc body) (h : defOK sc ps is ρ = true) (hb : SoundS S b d (fun x => sc.names.lookup x) ρ body t) :
  SoundF S b (d + 1) (.ref f) (mkFn is t) := by
 simp only [defOK, Bool.and_eq_true, decide_eq_true_eq, List.all_eq_true, List.any_eq_true, beq_iff_eq, Bool.or_eq_true, bne_iff_ne, Bool.not_eq_true'] at h
 obtain ⟨⟨⟨⟨⟨⟨⟨⟨⟨⟨h1, h2⟩, h3⟩, h4⟩, h5⟩, h6⟩, h7⟩, h8⟩, h9⟩, h10⟩, h11⟩ := h
 exact sF_def K hf hb h1 h2 (rho_ok h3) (fun p hp => by obtain ⟨q, w1, w2⟩ := h4 p hp; rw [← w2]; exact w1) h5 h6 h7 h8 h9 h10 h11
noncomputable def mgK (K : Frag) (x : Str) : Option Value := match K.lookup 3 with
 | some ⟨_, _, .dict es _, _⟩ => nsFind es x
 | _ => none
structure EnvL (S : St) (K : Frag) : Prop where
 KS : StOK S
 X : K.In S.base
 mg : ∀ x, S.mg x = mgK K x
 mb : ∀ x : Str, x ≠ "__name__" → S.mb x = bootBuiltins x
theorem EnvL.g {S : St} {K : Frag} (E : EnvL S K) {x : Str} {v : Option Value} (h : mgK K x = v) : S.mg x = v := (E.mg x).trans h
theorem EnvL.b {S : St} {K : Frag} (E : EnvL S K) {x : Str} {v : Option Value} (h0 : (x == ("__name__" : Str)) = false) (h : bootBuiltins x = v) : S.mb x = v := (E.mb x (by simpa using h0)).trans h
theorem isFn_of {K : Frag} {h : Heap} (X : K.In h) {a : Addr} (e : (fnAt K a).isSome = true) : ∃ o fd, h.get? a = some o ∧ o.data = .func fd := by
 obtain ⟨fd, e⟩ := Option.isSome_iff_exists.mp e
 obtain ⟨o, h1, h2⟩ := fnAt_get X e
 exact ⟨o, fd, h1, h2⟩
theorem sE_callD {S : St} {b : Bool} {d : Nat} {sc : Kd} {ρ : Rho} {f : Str} {a : Addr} {args : List Expr} {p pos : Pos} {F : Fn} {ts : Tms} (K : StOK S) (hF : SoundF S b d (.ref a) F) (h1 : SoundEs S b d sc ρ args ts) (hx : sc f = some .globalImplicit)
  (hv : S.mg f = some (.ref a)) (ho : ∃ o fd, S.base.get? a = some o ∧ o.data = .func fd) (hd : (f == ("__debug__" : Str)) = false) (hs : noStar args = true) :
  SoundE S b d sc ρ (.Call (.Name f p) args [] pos) (tCall F ts) := by
 obtain ⟨o, fd, h2, h3⟩ := ho
 exact sE_call K hF h1 hx hv h2 h3 hd hs
noncomputable def avOf : Value → Option AV
 | .none => some .none
 | .bool b => some (.bool b)
 | .int i _ => some (.int i)
 | .str x _ => if PyData.strOk x = true then some (.str x) else none
 | _ => none
theorem sE_constK {S : St} {b : Bool} {d : Nat} {sc : Kd} {ρ : Rho} {K : Frag} {x : Str} {pos : Pos} {av : AV} (E : EnvL S K) (hx : sc x = some .globalImplicit) (hv : (mgK K x).bind avOf = some av) (hd : (x == ("__debug__" : Str)) = false) :
  SoundE S b d sc ρ (.Name x pos) (tVal av) := by
 cases e : mgK K x with
 | none => rw [e] at hv; cases hv
 | some v =>
  rw [e] at hv
  refine sE_const E.KS hx (E.g e) ?_ hd
  cases v <;> simp [avOf] at hv
  ·subst hv; exact .none
  ·subst hv; exact .bool _
  ·subst hv; exact .int _ _
  ·obtain ⟨ok, rfl⟩ := hv; exact .str _ _ ok
end Mine
end
-- text A19
section
namespace Mine
open PySem PySem.Calls PyProof.Rows PySem.W
section
variable {S : St} {b : Bool} {d : Nat} {sc : Kd} {ρ : Rho}
noncomputable def tRaise (x : Str) (ts : Tms) : Ts := fun m H _ _ X => ts m H (fun vs H1 => vs.length ≤ 10 ∧ X x H1) X
theorem sT_raise {f : Str} {C0 : Addr} {args : List Expr} {np cpos pos : Pos} {bmB : List Value} {B newId initId : String} {ts : Tms} (K : StOK S) (Ow : OwnCls f C0 bmB newId S.mg S.base) (FB : ExcBaseFacts B newId initId bmB) (hX : S.excs f = some C0)
  (h1 : SoundEs S true d sc ρ args ts) (hx : sc f = some .globalImplicit) (hd : (f == ("__debug__" : Str)) = false) (hs : noStar args = true) :
  SoundT S true d sc ρ (.Raise (some (.Call (.Name f np) args [] cpos)) none pos) (tRaise f ts) := by
 intro C A env m H QN QR X E s R O hc hk' V I h hE
 obtain ⟨tl, N, nm, q, bs, hdct, sn, sub, ab, col, dd, k0, k1, k2, k3, k5, mN, hC, hN, hni, T⟩ := Ow.obj
 refine wpAny_Raise_call_subT (C := C0) (nm := nm) (q := q) (N := N) (bs := bs) (bm := tl) (hdct := hdct) (sn := sn) (sub := sub) (ab := ab) (col := col) (dd := dd) (k0 := k0) (k1 := k1) (k2 := k2) (k3 := k3) (k5 := k5)
  FB (mN := mN) (T.hasType FB.hasBase) (R.hd rfl) (backTo_any hs) hni (load_global K O I ((hk' f).trans hx) Ow.bound hd ⟨rfl, ?_⟩)
 refine evalArgs_of hs (wpAny_mono (h1 C A env m H _ X E s cpos R O hk' V I h (hE.ex O)) ?_ fun _ _ x => x)
 rintro vs s2 ⟨avs, H2, r2, I2, hl, q2⟩
 have e := r2.length
 refine ⟨rfl, ?_, I2.base _ _ hC, hN.keeps I2.base, T.keeps I2.base, fun h' e hm => hE C f H2 (.ref e) { s2 with heap := h' } (.refl env C) O q2 ?_⟩
 ·show vs.length ≤ sizeLine
  have : sizeLine = 16777216 := rfl
  lia
 ·obtain ⟨t, w1, w2, w3⟩ := hm.there
  obtain ⟨f1, f2, f3⟩ := I2.fresh hm.new
  exact ⟨e, rfl, I2.grow (s' := { s2 with heap := h' }) hm.keeps rfl rfl, ⟨_, _, C0, w1, hX, rfl, rfl, Nat.lt_of_lt_of_le (by decide : 1 < 6) (Nat.le_of_eq rfl), ⟨_, rfl, fun _ => rfl⟩, .inl rfl⟩, f3, f2, f1⟩
noncomputable def Catches (S : St) (g : Addr) (x : Str) : Prop := ∀ (C0 : Addr) (h : Heap) (e : Addr) (oe : Obj), S.excs x = some C0 → (∀ b o, S.base.get? b = some o → h.get? b = some o) → h.get? e = some oe → oe.cls = .ref C0 → Looks S.M h (excMatches (.ref e) (.ref g)) true
inductive Hand (hit : List Str) (i : Nat) (th : Ts) (QR : QV) (x : Str) (H : AH) : Prop
 | mk : x ∈ hit → (∀ e, H e = none → th (Mp.upd (fun _ => none) i (.ref e)) (H.put e (.exc x)) (fun _ _ => False) QR (fun _ _ => False)) → Hand hit i th QR x H
noncomputable def tTry (tb : Ts) (hit : List Str) (i : Nat) (th : Ts) : Ts := fun m H QN QR X => tb m H QN QR (Hand hit i th QR)
theorem EnvOK.mark {C : Cx} {A : Around} {env : Env} (O : EnvOK S C A env) (v : Option Value) : EnvOK S C (A.mark v) env :=
 ⟨O.kind, O.glob, O.blt, O.cells, O.cellU, O.apart, O.loc, O.stack, O.fun_⟩
theorem EnvOK.unmark {C : Cx} {A : Around} {env : Env} {v : Option Value} (O : EnvOK S C (A.mark v) env) : EnvOK S C A env :=
 ⟨O.kind, O.glob, O.blt, O.cells, O.cellU, O.apart, O.loc, O.stack, O.fun_⟩
theorem sT_try {body suite : List Stmt} {b₀ : Stmt} {g n : Str} {G : Addr} {gp hp pos : Pos} {hit : List Str} {i : Nat} {tb th : Ts} (K : StOK S) (h1 : SoundS S true d sc ρ body tb) (h2 : SoundS S false d sc ρ (b₀ :: suite) th) (hρ : RhoOK ρ)
  (hg : sc g = some .globalImplicit) (hG : S.mg g = some (.ref G)) (hd : (g == ("__debug__" : Str)) = false) (hc : ∀ x ∈ hit, Catches S G x) (hn : ρ.lookup n = some i) (kn : sc n = some .local) :
  SoundT S true d sc ρ (.Try body [.ExceptHandler (some (.Name g gp)) (some n) (b₀ :: suite) hp] [] [] pos) (tTry tb hit i th) := by
 intro C A env m H QN QR X E s R O hce hk' V I h hE
 obtain ⟨outer, hce⟩ := hce
 refine wpAny_Try_except (wpAny_mono (h1 C A env m H QN QR _ (fun e s₁ => wpAny S.M A (noteFrame e env) (fun _ s₂ => wpAny S.M A (setFlight e none) (fun _ s₃ => wpAny S.M A (handleBy e env [.ExceptHandler (some (.Name g gp)) (some n) (b₀ :: suite) hp]) (PostS S C A env ρ QN QR) E s₃) E s₂) E s₁) s R O ⟨outer, hce⟩ hk' V I h ?_) ?_ fun _ _ x => x)
 ·intro C1 x H1 v s1 f1 O1 hx hr
  obtain ⟨hit1, hth⟩ := hx
  have hce1 : C1.envs = env :: outer := f1.envs.trans hce
  obtain ⟨_, L, _, hf, _⟩ := O1.fun_ env (by rw [hce1]; exact .head _)
  refine hr.note (.of_env O1) hce1 hf fun e s2 hv hh => ?_
  subst hv
  refine hh.flight fun s3 h3 => ?_
  refine wpAny_handleBy_cons (codeAny_handlers_test ?_) (by intro q; cases q)
  refine load_global K (O1.mark _) h3.inv ((hk' g).trans hg) hG hd ?_
  obtain ⟨oe, vs, C0, T, oT, ts, a0, w1, w2, w3, w4⟩ := h3.at_
  refine (hc x hit1 C0 s3.heap e oe w2 h3.inv.base w1 w3).here ?_
  show codeAny _ _ _ _ s3
  refine codeAny_handlers_suite_as ?_
  refine h3.flight fun s4 h4 => ?_
  obtain ⟨oe', vs', C0', T', oT', ts', a0', u1, u2, u3, u4⟩ := h4.at_
  have I4 : Inv S C1 (H1.put e (.exc x)) s4 := h4.inv.track ⟨h4.new.1, h4.new.2.2, h4.new.2.1⟩ ⟨oe', C0', u1, u2, u3⟩
  have V0 : EnvRel C1 env ρ (fun _ => none) := fun _ _ _ _ q => by cases q
  refine wpAny_mono (store_nm (O1.mark _) V0 I4 hρ (mem_of_lookup hn) (.ref e) (by rw [hk']; exact .inl kn)) ?_ fun _ _ x => x
  rintro _ s5 ⟨C5, a5, o5, w5, e5, O5, V5, I5⟩
  have f5 : FUpd env C1 C5 := .stored w5 e5
  have R5 : Room false d (A.mark (some (.ref e))) := ⟨fun q => (nomatch q), R.depth, R.units⟩
  refine wpAny_mono (h2 C5 (A.mark (some (.ref e))) env _ _ (fun _ _ => False) QR (fun _ _ => False) (fun _ _ => False) s5 R5 O5 ⟨outer, by rw [f5.envs]; exact hce1⟩ hk' V5 I5 (hth e h4.new.2.2) fun _ _ _ _ _ _ _ q _ => q.elim) ?_ fun _ _ x => x.elim
  rintro fl s6 ⟨C6, H6, f6, I6, q6⟩
  cases fl with
  | next => obtain ⟨_, _, _, q⟩ := q6; exact q.elim
  | brk => exact q6.elim
  | cont => exact q6.elim
  | ret v6 =>
   obtain ⟨O6, av, r6, q6⟩ := q6
   obtain ⟨o, m₀, hU, hN⟩ := O6.loc
   have hns : s6.heap.Ns env.locals m₀ := by
    obtain ⟨es, ep, hd, r1, r2⟩ := id hN
    rcases I6.keep _ _ hU with e | ⟨_, sl, e⟩
    ·exact ⟨o, es, ep, e, hd, r1, r2⟩
    ·exact ⟨_, es, ep, e, hd, r1, r2⟩
   refine wpAny_nameGoes ((hk' n).trans kn) hns (by rw [O.kind]; rfl) fun h' m' hn' sb => ?_
   obtain ⟨o', es', ep', ho', hd', sk', hf'⟩ := hn'
   have fl : FUpd env C6 (C6.hide env.locals o') := ⟨rfl, rfl, fun a w1 w2 => Cx.hide_ne _ _ w1⟩
   have I7 : Inv S (C6.hide env.locals o') H6 { s6 with heap := h', toks := s6.toks + 1 } := I6.turn hU (fun b ob hb e => (sb.2 b hb).trans e) ho' rfl rfl
   have O6' := O6.unmark
   refine ⟨C6.hide env.locals o', H6, ((f1.trans f5).trans f6).trans fl, I7, ⟨O6'.kind, O6'.glob, O6'.blt, O6'.cells, fun y c hc => ?_, O6'.apart, ⟨o', m', Cx.hide_self .., es', ep', hd', sk', hf'⟩, O6'.stack, fun en he => ?_⟩, av, r6, q6⟩
   ·obtain ⟨h1, h2, o2, v2, h3, h4⟩ := O6'.cellU y c hc
    exact ⟨h1, h2, o2, v2, (Cx.hide_ne _ _ h1).trans h3, h4⟩
   ·obtain ⟨h1, L, o2, h2, h3, h4, h5⟩ := O6'.fun_ en he
    by_cases q : L = env.locals
    ·exact ⟨h1, L, o', h2, h3, by rw [q]; exact Cx.hide_self .., fun vs z => by rw [hd'] at z; cases z⟩
    ·exact ⟨h1, L, o2, h2, h3, (Cx.hide_ne _ _ q).trans h4, h5⟩
 ·rintro fl s1 hp1
  cases fl with
  | next => exact wpAny_execs_nil hp1
  | _ => exact hp1
end
end Mine
end
-- text A20
section
set_option maxRecDepth 100000
namespace Mine
open PySem PySem.Calls PyProof.Rows PySem.W PySem.Builtin PySem.Builtin.Getset_descriptor PySem.Builtin.ObjectAttr
noncomputable def OfCls (h : Heap) (e C0 : Addr) : Prop := ∃ o, h.get? e = some o ∧ o.cls = .ref C0
theorem OfCls.type {M : Model} {h : Heap} {e C0 : Addr} (I : OfCls h e C0) : Looks M h (typeOf (.ref e)) (.ref C0) := by
 obtain ⟨o, h1, h2⟩ := I
 exact h2 ▸ (Looks.ld h1).andThen .now
section
variable {prog : Program} {w : World} {A : Around} {E : Value → Shared → Prop} {K : Frag} {e C0 : Addr}
theorem looks_data {M : Model} {h : Heap} (X : K.In h) {x C : Addr} {name : Str} {g a : Value} (ha : findIn K (.ref C) name = some (some a)) (hg : specialIn K a "__get__" = some (some g)) (hd : takesIn K a = some true) :
  Looks M h (Builtin.ObjectAttr.find (.ref x) (.ref C) name) (.bind g a) := by
 have L1 := looks_findIn (M := M) X ha
 have L2 : Looks M h (Builtin.ObjectAttr.getOf (some a)) (some g) := looks_specialIn X hg
 refine L1.andThen (L2.andThen ?_)
 have L3 := looks_takesIn (M := M) X hd
 exact (show Looks M h (Builtin.ObjectAttr.dataDescriptor? (some a) (some g)) (some (g, a)) from L3.andThen .now).andThen (Looks.tag .now)
theorem class_get' {s : Shared} {tp : Value} {R : Result → Shared → Prop} (X : K.In s.heap) (I : OfCls s.heap e C0) (hm : mroIn K C0 (.type "object") = some true)
  (h : R (.ok (.ret (.ref C0))) s) : codeAny (model prog w) A (.call (.builtin "getset_descriptor.__get__") ⟨[.builtin "object.__class__", .ref e, tp], []⟩) R s := by
 obtain ⟨hh, g, dr, t, os⟩ := s
 have L0 := I.type (M := model prog w)
 have L1 := looks_mroIn (M := model prog w) X hm
 refine codeAny_call_builtin KF.slot_gs.plain KF.entry_gs (KF.slot_gs.check _ _ _ _ _ _ _ _ KF.type_class (KF.args_gs _ _ _) ?_)
 unfold Builtin.«getset_descriptor.__get__» descrGet
 rw [dga_obj]
 refine wpAny_bind (wpAny_pure ?_)
 unfold descrGetter descrCheckInstance descrNameAndClass isInstance
 simp only [KF.owner_class]
 repeat lk
 refine ⟨Code.quiet_builtin _ (by decide +kernel), codeAny_builtin KF.entry_class ?_⟩
 unfold Builtin.«object.__class__» shownTypeOf
 repeat lk
 exact h
theorem exc_class {s : Shared} {Q : Option Value → Shared → Prop} (X : K.In s.heap) (I : OfCls s.heap e C0)
  (hga : findIn K (.ref C0) "__getattribute__" = some (some (.builtin "BaseException.__getattribute__"))) (hgk : findIn K (.ref C0) "__getattr__" = some none)
  (ha : findIn K (.ref C0) "__class__" = some (some (.builtin "object.__class__"))) (hn : specialIn K (.builtin "object.__class__") "__get__" = some (some (.builtin "getset_descriptor.__get__"))) (htk : takesIn K (.builtin "object.__class__") = some true)
  (hm : mroIn K C0 (.type "object") = some true) (hb : subIn K (.ref C0) (.type "BaseException") = some true)
  (h : Q (some (.ref C0)) { s with toks := s.toks + 1 }) : wpAny (model prog w) A (getAttr? (.ref e) "__class__") Q E s := by
 obtain ⟨hh, g, d, t, os⟩ := s
 have L0 := I.type (M := model prog w)
 have L1 := looks_findIn (M := model prog w) X hga
 have L2 := looks_findIn (M := model prog w) X hgk
 have L3 := looks_data (M := model prog w) (x := e) X ha hn htk
 have L4 : Looks (model prog w) hh (isInstance (.ref e) (.type "BaseException")) true := L0.andThen (looks_subIn X hb)
 unfold getAttr? getAttrBy? getAttrBy
 refine wpAny_bind (wpAny_mkText (wpAny_bind (wpAny_attempt (wpAny_holding (wpAny_bind (L0.at (wpAny_bind (L1.at ?_))))))))
 show wpAny _ _ (if (onTheHeap (.ref C0) && Value.builtin "BaseException.__getattribute__" == Value.builtin "object.__getattribute__") = true then _ else _) _ _ _
 rw [if_neg (by rw [show (Value.builtin "BaseException.__getattribute__" == Value.builtin "object.__getattribute__") = false by decide +kernel, Bool.and_false]; decide)]
 unfold getAttrByItsOwn hookBefore
 rw [if_pos (show onTheHeap (.ref C0) = true from rfl)]
 refine wpAny_bind (L2.at (wpAny_bind (wpAny_attempt (wpAny_holding ?_))))
 unfold callGetattribute boundAndCalled
 rw [if_neg (by decide)]
 rw [F.attr_ValueError.ga.bind]
 refine wpAny_bind (wpAny_pure ?_)
 refine wpAny_call (codeAny_call_builtin F.attr_ValueError.ga.plain F.entry_bexc_ga ?_)
 have hk : builtinKind "BaseException.__getattribute__" = some .slot := by decide +kernel
 have hsplit : splitId "BaseException.__getattribute__" = some ("BaseException", "__getattribute__") := by decide +kernel
 have ha := F.args_bexc_ga (.ref e) (.str "__class__" t)
 simp only [checkBuiltinCall, hk, hsplit]
 refine wpAny_bind (L4.at ?_)
 simp only [List.singleton_append]
 repeat (any_goals (first | assumption | wp_step))
 obtain ⟨oe, i1, i2⟩ := id I
 refine wpAny_loadPart i1 (wpAny_pure ?_)
 rw [i2]
 refine wpAny_bind (L3.at ?_)
 show wpAny _ _ (holding [_] (call (.builtin "getset_descriptor.__get__") [.builtin "object.__class__", .ref e, .ref C0]) >>= ret) _ _ _
 refine wpAny_bind (wpAny_holding (wpAny_call (class_get' (s := ⟨hh, g, d, t + 1, os⟩) X I hm ?_)))
 exact wpAny_pure (handed_on rfl (wpAny_pure h))
end
end Mine
end
-- text A21
section
set_option maxRecDepth 100000
namespace Mine
open PySem PySem.Calls PyProof.Rows PySem.W
section
variable {S : St} {b : Bool} {d : Nat} {sc : Kd} {ρ : Rho} {K : Frag}
noncomputable def veBm : List Value := [.type "ValueError", .type "Exception", .type "BaseException", .type "object"]
noncomputable abbrev OwnVE (S : St) (x : Str) (C : Addr) : Prop := OwnCls x C veBm "ValueError.__new__" S.mg S.base
theorem sT_raiseK {f : Str} {C0 : Addr} {args : List Expr} {np cpos pos : Pos} {ts : Tms} (E : EnvL S K) (hO : OwnVE S f C0) (hX : S.excs f = some C0)
  (h1 : SoundEs S true d sc ρ args ts) (hx : sc f = some .globalImplicit) (hd : (f == ("__debug__" : Str)) = false) (hs : noStar args = true) :
  SoundT S true d sc ρ (.Raise (some (.Call (.Name f np) args [] cpos)) none pos) (tRaise f ts) :=
 sT_raise E.KS hO F.excBase_ValueError hX h1 hx hd hs
inductive SE (S : St) (b : Bool) (d : Nat) (sc : Kd) (ρ : Rho) (e : Expr) (t : Tm) : Prop
 | mk : SoundE S b d sc ρ e t → SE S b d sc ρ e t
inductive SEs (S : St) (b : Bool) (d : Nat) (sc : Kd) (ρ : Rho) (es : List Expr) (ts : Tms) : Prop
 | mk : SoundEs S b d sc ρ es ts → SEs S b d sc ρ es ts
theorem se_none (k : Nat) (pos : Pos) : SE S b d sc ρ (.Constant .none k pos) (tVal .none) := ⟨sE_none k pos⟩
theorem se_bool (c : Bool) (k : Nat) (pos : Pos) : SE S b d sc ρ (.Constant (.bool c) k pos) (tVal (.bool c)) := ⟨sE_bool c k pos⟩
theorem se_int (i : Int) (k : Nat) (pos : Pos) : SE S b d sc ρ (.Constant (.int i) k pos) (tVal (.int i)) := ⟨sE_int i k pos⟩
theorem se_str (x : Str) (k : Nat) (pos : Pos) (hx : PyData.strOk x = true) : SE S b d sc ρ (.Constant (.str x) k pos) (tVal (.str x)) := ⟨sE_str x k pos hx⟩
theorem ses_nil : SEs S b d sc ρ [] tNil := ⟨sEs_nil⟩
theorem ses_C {c : Const} {k : Nat} {p : Pos} {es : List Expr} {t : Tm} {ts : Tms} (h1 : SE S b d sc ρ (.Constant c k p) t) (h2 : SEs S b d sc ρ es ts) : SEs S b d sc ρ (.Constant c k p :: es) (tCons t ts) := ⟨sEs_cons h1.1 h2.1 fun _ => rfl⟩
theorem ses_L {l : List Expr} {p : Pos} {es : List Expr} {t : Tm} {ts : Tms} (h1 : SE S b d sc ρ (.List l p) t) (h2 : SEs S b d sc ρ es ts) : SEs S b d sc ρ (.List l p :: es) (tCons t ts) := ⟨sEs_cons h1.1 h2.1 fun _ => rfl⟩
theorem ses_T {l : List Expr} {k : Nat} {p : Pos} {es : List Expr} {t : Tm} {ts : Tms} (h1 : SE S b d sc ρ (.Tuple l k p) t) (h2 : SEs S b d sc ρ es ts) : SEs S b d sc ρ (.Tuple l k p :: es) (tCons t ts) := ⟨sEs_cons h1.1 h2.1 fun _ => rfl⟩
theorem ses_X {e : Expr} {es : List Expr} {t : Tm} {ts : Tms} (h1 : SE S b d sc ρ e t) (h2 : SEs S b d sc ρ es ts) (he : ∀ env, starEach (e :: es) env = (false, eval e env) :: starEach es env) : SEs S b d sc ρ (e :: es) (tCons t ts) := ⟨sEs_cons h1.1 h2.1 he⟩
theorem se_list {es : List Expr} {p : Pos} {ts : Tms} (h : SEs S b d sc ρ es ts) : SE S b d sc ρ (.List es p) (tList ts) := ⟨sE_list h.1⟩
theorem se_tuple {es : List Expr} {k : Nat} {p : Pos} {ts : Tms} (h : SEs S b d sc ρ es ts) : SE S b d sc ρ (.Tuple es k p) (tTuple ts) := ⟨sE_tuple h.1⟩
inductive ST (S : St) (b : Bool) (d : Nat) (sc : Kd) (ρ : Rho) (st : Stmt) (t : Ts) : Prop
 | mk : SoundT S b d sc ρ st t → ST S b d sc ρ st t
inductive SS (S : St) (b : Bool) (d : Nat) (sc : Kd) (ρ : Rho) (sts : List Stmt) (t : Ts) : Prop
 | mk : SoundS S b d sc ρ sts t → SS S b d sc ρ sts t
theorem ss_cons {st : Stmt} {sts : List Stmt} {t u : Ts} (h1 : ST S b d sc ρ st t) (h2 : SS S b d sc ρ sts u) : SS S b d sc ρ (st :: sts) (tSeq t u) := ⟨sS_cons h1.1 h2.1⟩
theorem sF_defW {ρ : Rho} {f : Addr} {name : Str} {ps : List Str} {is : List Nat} {sc : Scope} {body : List Stmt} {t : Ts} (K : StOK S) (hf : IsDef S f name ps sc body) (h : defOK sc ps is ρ = true) (hb : SS S b d (fun x => sc.names.lookup x) ρ body t) :
  SoundF S b (d + 1) (.ref f) (mkFn is t) := sF_defK K hf h hb.1
theorem catches_of {G : Addr} {x : Str} {C0 : Addr} (E : EnvL S K) (hX : S.excs x = some C0) (h : exmOne K (.ref C0) (.ref G) = some true) : Catches S G x := by
 intro C1 hp e oe h1 kp h2 h3
 rw [hX] at h1; cases h1
 exact exm_one (E.X.keeps kp) (OfCls.type ⟨oe, h2, h3⟩) h
noncomputable def excK (K : Frag) (C0 : Addr) : Bool :=
 (clsIn K C0).isSome && findIn K (.ref C0) "__getattribute__" == some (some (.builtin "BaseException.__getattribute__")) && findIn K (.ref C0) "__getattr__" == some none && findIn K (.ref C0) "__class__" == some (some (.builtin "object.__class__")) &&
 specialIn K (.builtin "object.__class__") "__get__" == some (some (.builtin "getset_descriptor.__get__")) && takesIn K (.builtin "object.__class__") == some true && mroIn K C0 (.type "object") == some true && subIn K (.ref C0) (.type "BaseException") == some true
theorem kitx_exc {e C0 : Addr} (q : excK K C0 = true) : KitX K (.ref e) (.ref C0) (fun h => OfCls h e C0) := by
 unfold excK at q
 simp only [Bool.and_eq_true, beq_iff_eq] at q
 obtain ⟨⟨⟨⟨⟨⟨⟨q0, q1⟩, q2⟩, q3⟩, q4⟩, q5⟩, q6⟩, q7⟩ := q
 obtain ⟨c', d', cd', sl', ho⟩ : ∃ c d cd sl, K.lookup C0 = some ⟨c, d, .cls cd, sl⟩ := by
  unfold clsIn at q0
  split at q0
  ·rename_i ho; exact ⟨_, _, _, _, ho⟩
  ·cases q0
 refine ⟨fun _ _ _ I => I.type, fun M h X _ => ?_, fun h tp dd its n sl X htp => ?_, fun X I k => exc_class X I q1 q2 q3 q4 q5 q6 q7 k⟩
 ·intro A' Q' E' s' k q
  unfold isType loadHead
  exact wpAny_bind (wpAny_loadPart (k _ _ (X _ _ ho)) (wpAny_pure q))
 ·refine Bool.eq_false_iff.mpr fun q => ?_
  have e : C0 = tp := Value.ref.inj (beq_iff_eq.mp q)
  subst e
  have z := (X _ _ ho).symm.trans htp
  cases z
noncomputable def isiChk (K : Frag) (ex : Str → Option Addr) (ans : List (Str × Bool)) (f : Addr → Option Bool) : Bool := ans.all fun p => match ex p.1 with
 | some C0 => excK K C0 && f C0 == some p.2
 | none => true
noncomputable def tIsiX (ans : List (Str × Bool)) (t : Tm) : Tm := fun m H Q X => t m H (fun v H1 => ∃ a c r, v = .ref a ∧ H1 a = some (.exc c) ∧ ans.lookup c = some r ∧ Q (.bool r) H1) X
noncomputable def IsiOne (S : St) (K : Frag) (ans : List (Str × Bool)) (cv : Value) : Prop := ∀ c r C0, ans.lookup c = some r → S.excs c = some C0 → excK K C0 = true ∧ kitOne K (.ref C0) cv = some r
noncomputable def IsiAny (S : St) (K : Frag) (ans : List (Str × Bool)) (cvs : List Value) : Prop := ∀ c r C0, ans.lookup c = some r → S.excs c = some C0 → excK K C0 = true ∧ kitAny K (.ref C0) cvs = some r
theorem isiChk_of {ex : Str → Option Addr} {ans : List (Str × Bool)} {f : Addr → Option Bool} (h : isiChk K ex ans f = true) {c : Str} {r : Bool} {C0 : Addr} (h1 : ans.lookup c = some r) (h2 : ex c = some C0) : excK K C0 = true ∧ f C0 = some r := by
 have := List.all_eq_true.mp h _ (mem_of_lookup h1)
 dsimp only at this
 rw [h2] at this
 simpa using this
theorem isiOne_of {ex : Str → Option Addr} {ans : List (Str × Bool)} {cv : Value} (hE : S.excs = ex) (h : isiChk K ex ans (fun C0 => kitOne K (.ref C0) cv) = true) : IsiOne S K ans cv := fun c r C0 h1 h2 => isiChk_of h h1 (by rw [← hE]; exact h2)
theorem isiAny_of {ex : Str → Option Addr} {ans : List (Str × Bool)} {cvs : List Value} (hE : S.excs = ex) (h : isiChk K ex ans (fun C0 => kitAny K (.ref C0) cvs) = true) : IsiAny S K ans cvs := fun c r C0 h1 h2 => isiChk_of h h1 (by rw [← hE]; exact h2)
theorem sE_isiX {e g : Expr} {f : Str} {p pos : Pos} {t : Tm} {ans : List (Str × Bool)} {cv : Value} (E : EnvL S K) (h1 : SoundE S b d sc ρ e t)
  (hg : ∀ (C : Cx) (A : Around) (env : Env) (H : AH) (s : Shared) (E' : Value → Shared → Prop) (Q : Value → Shared → Prop), EnvOK S C A env → (∀ x, env.kindOf x = sc x) → Inv S C H s → Q cv s → wpAny S.M A (eval g env) Q E' s)
  (ha : IsiOne S K ans cv) (hf : sc f = some .globalImplicit) (hm : S.mg f = none) (hv : S.mb f = some (.builtin "isinstance")) (hd : (f == ("__debug__" : Str)) = false) (hs : noStar [e, g] = true) :
  SoundE S b d sc ρ (.Call (.Name f p) [e, g] [] pos) (tIsiX ans t) := by
 intro C A env m H Q X E' s R O hk V I h hE
 refine wpAny_Call_NameR (load_builtin E.KS O I ((hk f).trans hf) hm hv hd ?_)
 refine Calls.callWith_builtin (backTo_any hs) (evalArgs_of hs ?_)
 rw [backTo_plain hs]
 refine Calls.spliced_cons (wpAny_mono (h1 C A env m H _ X E' s R O hk V I h hE) ?_ fun _ _ x => x)
 rintro v s1 ⟨av, H1, r1, I1, a, c, r, rfl, hc, hr, q1⟩
 cases r1.ref_inv
 refine Calls.spliced_cons (hg C A env H1 s1 E' _ O hk I1 (Calls.spliced_nil ?_))
 show wpAny S.M A (call (.builtin "isinstance") [.ref a, cv]) _ E' s1
 obtain ⟨o, C0, w1, w2, w3⟩ := I1.objs _ _ hc
 obtain ⟨k1, k2⟩ := ha c r C0 hr w2
 exact kia_one (kitx_exc k1) (E.X.keeps I1.base) ⟨o, w1, w3⟩ k2 (by intro q; cases q) fun tk => ⟨_, H1, .bool _, I1.toks tk, q1⟩
theorem isi_own {g : Str} {gp : Pos} {cv : Value} (E : EnvL S K) (hx : sc g = some .globalImplicit) (hv : S.mg g = some cv) (hd : (g == ("__debug__" : Str)) = false) :
  ∀ (C : Cx) (A : Around) (env : Env) (H : AH) (s : Shared) (E' : Value → Shared → Prop) (Q : Value → Shared → Prop), EnvOK S C A env → (∀ x, env.kindOf x = sc x) → Inv S C H s → Q cv s → wpAny S.M A (eval (.Name g gp) env) Q E' s :=
 fun C A env H s E' Q O hk I q => load_global E.KS O I ((hk g).trans hx) hv hd q
theorem isi_blt {g : Str} {gp : Pos} {cv : Value} (E : EnvL S K) (hx : sc g = some .globalImplicit) (hm : S.mg g = none) (hv : S.mb g = some cv) (hd : (g == ("__debug__" : Str)) = false) :
  ∀ (C : Cx) (A : Around) (env : Env) (H : AH) (s : Shared) (E' : Value → Shared → Prop) (Q : Value → Shared → Prop), EnvOK S C A env → (∀ x, env.kindOf x = sc x) → Inv S C H s → Q cv s → wpAny S.M A (eval (.Name g gp) env) Q E' s :=
 fun C A env H s E' Q O hk I q => load_builtin E.KS O I ((hk g).trans hx) hm hv hd q
noncomputable def Reads_ (S : St) (sc : Kd) (gs : List Expr) (cvs : List Value) : Prop := ∀ (C : Cx) (A : Around) (env : Env) (H : AH) (s : Shared) (E' : Value → Shared → Prop) (Q : List Value → Shared → Prop), EnvOK S C A env → (∀ x, env.kindOf x = sc x) → Inv S C H s → Q cvs s → wpAny S.M A (spliced (gs.map fun g => (false, eval g env))) Q E' s
theorem reads_nil : Reads_ S sc [] [] := fun _ _ _ _ _ _ _ _ _ _ q => Calls.spliced_nil q
theorem reads_cons {g : Expr} {gs : List Expr} {cv : Value} {cvs : List Value}
  (hg : ∀ (C : Cx) (A : Around) (env : Env) (H : AH) (s : Shared) (E' : Value → Shared → Prop) (Q : Value → Shared → Prop), EnvOK S C A env → (∀ x, env.kindOf x = sc x) → Inv S C H s → Q cv s → wpAny S.M A (eval g env) Q E' s)
  (hr : Reads_ S sc gs cvs) : Reads_ S sc (g :: gs) (cv :: cvs) := fun C A env H s E' Q O hk I q => Calls.spliced_cons (hg C A env H s E' _ O hk I (hr C A env H s E' _ O hk I q))
theorem sE_isiT {e : Expr} {gs : List Expr} {f : Str} {p pos tp : Pos} {kt : Nat} {t : Tm} {ans : List (Str × Bool)} {cvs : List Value} (E : EnvL S K) (h1 : SoundE S b d sc ρ e t) (hg : Reads_ S sc gs cvs) (hgs : noStar gs = true) (hl : cvs.length ≤ 100)
  (ha : IsiAny S K ans cvs) (hf : sc f = some .globalImplicit) (hm : S.mg f = none) (hv : S.mb f = some (.builtin "isinstance")) (hd : (f == ("__debug__" : Str)) = false) (hs : noStar [e, .Tuple gs kt tp] = true) :
  SoundE S b d sc ρ (.Call (.Name f p) [e, .Tuple gs kt tp] [] pos) (tIsiX ans t) := by
 intro C A env m H Q X E' s R O hk V I h hE
 refine wpAny_Call_NameR (load_builtin E.KS O I ((hk f).trans hf) hm hv hd ?_)
 refine Calls.callWith_builtin (backTo_any hs) (evalArgs_of hs ?_)
 rw [backTo_plain hs]
 refine Calls.spliced_cons (wpAny_mono (h1 C A env m H _ X E' s R O hk V I h hE) ?_ fun _ _ x => x)
 rintro v s1 ⟨av, H1, r1, I1, a, c, r, rfl, hc, hr, q1⟩
 cases r1.ref_inv
 refine Calls.spliced_cons (wpAny_Tuple_spliced ?_)
 rw [backTo_plain hgs]
 refine hg C A env H1 s1 E' _ O hk I1 ⟨?_, Calls.spliced_nil ?_⟩
 ·have : sizeLine = 16777216 := rfl
  lia
 have I2 : Inv S C H1 { s1 with heap := s1.heap.push { cls := .type "tuple", data := .seq cvs.toArray } } := I1.junk _
 show wpAny S.M A (call (.builtin "isinstance") [.ref a, .ref s1.heap.objs.size]) _ E' _
 obtain ⟨o, C0, w1, w2, w3⟩ := I2.objs _ _ hc
 obtain ⟨k1, k2⟩ := ha c r C0 hr w2
 exact kia_tup (kitx_exc k1) (E.X.keeps I2.base) ⟨o, w1, w3⟩ (Heap.get?_push_size _ rfl) k2 (by intro q; cases q) fun tk => ⟨_, H1, .bool _, I2.toks tk, q1⟩
end
end Mine
end
-- text A23
section
namespace Mine
open PySem PySem.Calls PyProof.Rows PySem.W
section
variable {S : St} {b : Bool} {d : Nat} {sc : Kd} {ρ : Rho}
noncomputable def Mp.del (m : Mp) (i : Nat) : Mp := fun j => if j = i then none else m j
theorem Mp.del_ne (m : Mp) {i j : Nat} (h : j ≠ i) : (m.del i) j = m j := if_neg h
inductive HandA (hit : List Str) (i : Nat) (th : Ts) (m : Mp) (QN : Mp → AH → Prop) (x : Str) (H : AH) : Prop
 | mk : x ∈ hit → (∀ e, H e = none → th (m.upd i (.ref e)) (H.put e (.exc x)) (fun m2 H2 => QN (m2.del i) H2) (fun _ _ => False) (fun _ _ => False)) → HandA hit i th m QN x H
noncomputable def tTryA (j : Nat) (te : Tm) (tr : Ts) (hit : List Str) (i : Nat) (th : Ts) : Ts := fun m H QN QR X => te m H (fun v H1 => tr (m.upd j v) H1 QN QR (fun _ _ => False)) (HandA hit i th m QN)
theorem sT_tryA {rest suite : List Stmt} {b₀ : Stmt} {x g n : Str} {e : Expr} {p apos : Pos} {G : Addr} {gp hp pos : Pos} {hit : List Str} {i j : Nat} {te : Tm} {tr th : Ts} (K : StOK S) (h1 : SoundE S true d sc ρ e te) (h3 : SoundS S true d sc ρ rest tr) (h2 : SoundS S false d sc ρ (b₀ :: suite) th) (hρ : RhoOK ρ)
  (hx : ρ.lookup x = some j) (kx : sc x = some .local ∨ sc x = some .cell) (hs : ∀ env, swapsWith e (some (.Name x p)) apos.line env = pure false)
  (hg : sc g = some .globalImplicit) (hG : S.mg g = some (.ref G)) (hd : (g == ("__debug__" : Str)) = false) (hc : ∀ x ∈ hit, Catches S G x) (hn : ρ.lookup n = some i) (kn : sc n = some .local) :
  SoundT S true d sc ρ (.Try (.Assign [.Name x p] e apos :: rest) [.ExceptHandler (some (.Name g gp)) (some n) (b₀ :: suite) hp] [] [] pos) (tTryA j te tr hit i th) := by
 intro C A env m H QN QR X E s R O hce hk' V I h hE
 obtain ⟨outer, hce⟩ := hce
 refine wpAny_Try_except (wpAny_execs_cons ?_)
 rw [exec_Assign_Name env x p e apos (hs env)]
 refine wpAny_bind (wpAny_standAt (wpAny_bind (wpAny_mono (h1 C A env m H _ _ (fun e s₁ => wpAny S.M A (noteFrame e env) (fun _ s₂ => wpAny S.M A (setFlight e none) (fun _ s₃ => wpAny S.M A (handleBy e env [.ExceptHandler (some (.Name g gp)) (some n) (b₀ :: suite) hp]) (PostS S C A env ρ QN QR) E s₃) E s₂) E s₁) s R O hk' V I h ?_) ?_ fun _ _ x => x)))
 ·intro x H1 v s1 hx hr
  obtain ⟨hit1, hth⟩ := hx
  obtain ⟨_, L, _, hf, _⟩ := O.fun_ env (by rw [hce]; exact .head _)
  refine hr.note (.of_env O) hce hf fun e s2 hv hh => ?_
  subst hv
  refine hh.flight fun s3 h3 => ?_
  refine wpAny_handleBy_cons (codeAny_handlers_test ?_) (by intro q; cases q)
  refine load_global K (O.mark _) h3.inv ((hk' g).trans hg) hG hd ?_
  obtain ⟨oe, vs, C0, T, oT, ts, a0, w1, w2, w3, w4⟩ := h3.at_
  refine (hc x hit1 C0 s3.heap e oe w2 h3.inv.base w1 w3).here ?_
  show codeAny _ _ _ _ s3
  refine codeAny_handlers_suite_as ?_
  refine h3.flight fun s4 h4 => ?_
  obtain ⟨oe', vs', C0', T', oT', ts', a0', u1, u2, u3, u4⟩ := h4.at_
  have I4 : Inv S C (H1.put e (.exc x)) s4 := h4.inv.track ⟨h4.new.1, h4.new.2.2, h4.new.2.1⟩ ⟨oe', C0', u1, u2, u3⟩
  refine wpAny_mono (store_nm (O.mark _) V I4 hρ (mem_of_lookup hn) (.ref e) (by rw [hk']; exact .inl kn)) ?_ fun _ _ x => x
  rintro _ s5 ⟨C5, a5, o5, w5, e5, O5, V5, I5⟩
  have f5 : FUpd env C C5 := .stored w5 e5
  have R5 : Room false d (A.mark (some (.ref e))) := ⟨fun q => (nomatch q), R.depth, R.units⟩
  refine wpAny_mono (h2 C5 (A.mark (some (.ref e))) env _ _ _ (fun _ _ => False) (fun _ _ => False) (fun _ _ => False) s5 R5 O5 ⟨outer, by rw [f5.envs]; exact hce⟩ hk' V5 I5 (hth e h4.new.2.2) fun _ _ _ _ _ _ _ q _ => q.elim) ?_ fun _ _ x => x.elim
  rintro fl s6 ⟨C6, H6, f6, I6, q6⟩
  cases fl with
  | brk => exact q6.elim
  | cont => exact q6.elim
  | ret v6 => obtain ⟨_, _, _, q⟩ := q6; exact q.elim
  | next =>
   obtain ⟨m6, O6, V6, q6⟩ := q6
   obtain ⟨o, m₀, hU, hN⟩ := O6.loc
   have hns : s6.heap.Ns env.locals m₀ := by
    obtain ⟨es, ep, hd, r1, r2⟩ := id hN
    rcases I6.keep _ _ hU with e | ⟨_, sl, e⟩
    ·exact ⟨o, es, ep, e, hd, r1, r2⟩
    ·exact ⟨_, es, ep, e, hd, r1, r2⟩
   refine wpAny_nameGoes_keeps ((hk' n).trans kn) hns (by rw [O.kind]; rfl) fun h' v' hn' sb => ?_
   obtain ⟨o', es', ep', ho', hd', sk', hf'⟩ := hn'
   have N' : NsObj o' (fun y => if y = n then v' else m₀ y) := ⟨es', ep', hd', sk', hf'⟩
   have fl : FUpd env C6 (C6.hide env.locals o') := ⟨rfl, rfl, fun a w1 w2 => Cx.hide_ne _ _ w1⟩
   have I7 : Inv S (C6.hide env.locals o') H6 { s6 with heap := h', toks := s6.toks + 1 } := I6.turn hU (fun b ob hb e => (sb.2 b hb).trans e) ho' rfl rfl
   have O6' := O6.unmark
   refine ⟨C6.hide env.locals o', H6, (f5.trans f6).trans fl, I7, m6.del i, ⟨O6'.kind, O6'.glob, O6'.blt, O6'.cells, fun y c hc => ?_, O6'.apart, ⟨o', _, Cx.hide_self .., N'⟩, O6'.stack, fun en he => ?_⟩, fun y j w hy hw => ?_, q6⟩
   ·obtain ⟨h1, h2, o2, v2, h3, h4⟩ := O6'.cellU y c hc
    exact ⟨h1, h2, o2, v2, (Cx.hide_ne _ _ h1).trans h3, h4⟩
   ·obtain ⟨h1, L, o2, h2, h3, h4, h5⟩ := O6'.fun_ en he
    by_cases q : L = env.locals
    ·exact ⟨h1, L, o', h2, h3, by rw [q]; exact Cx.hide_self .., fun vs z => by rw [hd'] at z; cases z⟩
    ·exact ⟨h1, L, o2, h2, h3, (Cx.hide_ne _ _ q).trans h4, h5⟩
   ·by_cases q : j = i
    ·rw [q] at hw; unfold Mp.del at hw; rw [if_pos rfl] at hw; cases hw
    ·rw [Mp.del_ne _ q] at hw
     have ne : y ≠ n := fun z => q ((hρ _ hy _ (mem_of_lookup hn)).mp z)
     obtain ⟨cv, k0, W⟩ := V6 y j w hy hw
     refine ⟨cv, k0, ?_⟩
     rcases W with ⟨k1, o2, m2, k2, k3, k4⟩ | ⟨k1, c, o2, k2, k3, k4⟩
     ·rw [hU] at k2; cases k2
      rw [k3.uniq hN] at k4
      exact .inl ⟨k1, o', _, Cx.hide_self .., N', by simp only [if_neg ne]; exact k4⟩
     ·exact .inr ⟨k1, c, o2, k2, (Cx.hide_ne _ _ (O6'.cellU y c k2).1).trans k3, k4⟩
 ·rintro v s1 ⟨av, H1, r1, I1, q1⟩
  refine wpAny_bind (wpAny_standAt (wpAny_bind (wpAny_mono (store_var O V I1 hρ (mem_of_lookup hx) r1 (by rw [hk']; exact kx)) ?_ fun _ _ x => x)))
  rintro _ s2 ⟨C2, a2, o2, w2, e2, O2, V2, I2⟩
  have f2 : FUpd env C C2 := .stored w2 e2
  refine wpAny_pure (wpAny_mono (h3 C2 A env _ H1 QN QR (fun _ _ => False) _ s2 R O2 ⟨outer, by rw [f2.envs]; exact hce⟩ hk' V2 I2 q1 fun _ _ _ _ _ _ _ q _ => q.elim) ?_ fun _ _ x => x)
  rintro fl s3 ⟨C3, H3, f3, I3, q3⟩
  have P3 : PostS S C A env ρ QN QR fl s3 := ⟨C3, H3, f2.trans f3, I3, q3⟩
  cases fl with
  | next => exact wpAny_execs_nil P3
  | _ => exact P3
theorem mem4 {P : Str → Prop} {a b c d : Str} (h1 : P a) (h2 : P b) (h3 : P c) (h4 : P d) : ∀ x ∈ [a, b, c, d], P x := fun x hx => by
 simp only [List.mem_cons, List.not_mem_nil, or_false] at hx
 rcases hx with rfl | rfl | rfl | rfl
 ·exact h1
 ·exact h2
 ·exact h3
 ·exact h4
noncomputable def tNotV (t : Tm) : Tm := fun m H Q X => t m H (fun v H1 => IsB v fun c => Q (.bool (!c)) H1) X
theorem sE_notV {e : Expr} {pos : Pos} {t : Tm} (h1 : SoundE S b d sc ρ e t) : SoundE S b d sc ρ (.UnaryOp .Not e pos) (tNotV t) := by
 intro C A env m H Q X E s R O hk V I h hE
 refine wpAny_UnaryOp (wpAny_mono (h1 C A env m H _ X E s R O hk V I h hE) ?_ fun _ _ x => x)
 rintro v s1 ⟨av, H1, r1, I1, c, rfl, q1⟩
 cases r1
 unfold unaryOp
 refine wpAny_holding ?_
 refine wpAny_bind (wpAny_truthy_bool (wpAny_pure ⟨_, H1, .bool _, I1, q1⟩))
noncomputable def tOrV (t u : Tm) : Tm := fun m H Q X => t m H (fun v H1 => IsB v fun c => if c = true then Q (.bool true) H1 else u m H1 Q X) X
theorem sV_or {e f : Expr} {es : List Expr} {t u : Tm} (h1 : SoundE S b d sc ρ e t) (h2 : SoundV S b d sc ρ .Or (f :: es) u) : SoundV S b d sc ρ .Or (e :: f :: es) (tOrV t u) := by
 intro C A env m H Q X E s pos R O hk V I h hE
 show wpAny S.M A (do
  let v ← eval e env
  standAt pos
  let t ← holding [v] (truthy v)
  match BoolOp.Or, t with
  | .And, false | .Or, true => pure v
  | _, _ => boolOp pos .Or (evalEach (f :: es) env)) _ E s
 refine wpAny_bind (wpAny_mono (h1 C A env m H _ X E s R O hk V I h hE) ?_ fun _ _ x => x)
 rintro v s1 ⟨av, H1, r1, I1, c, rfl, q1⟩
 cases r1
 refine wpAny_bind (wpAny_standAt (wpAny_bind (wpAny_holding (wpAny_truthy_bool ?_))))
 cases c with
 | true => exact wpAny_pure ⟨_, H1, .bool true, I1, by simpa using q1⟩
 | false => exact h2 C A env m H1 _ X E s1 pos R O hk V I1 (by simpa using q1) hE
theorem sT_ifW {c : Expr} {bd el : List Stmt} {pos : Pos} {tc : Tb} {t u : Ts} (h1 : SoundB S b d sc ρ c tc) (h2 : SS S b d sc ρ bd t) (h3 : SS S b d sc ρ el u) : ST S b d sc ρ (.If c bd el pos) (tIte tc t u) := ⟨sT_if h1 h2.1 h3.1⟩
theorem sT_retL {es : List Expr} {i : Expr} {p1 p2 pos : Pos} {t u : Tm} (h1 : SE S b d sc ρ (.List es p1) t) (h2 : SoundE S b d sc ρ i u) : ST S b d sc ρ (.Return (some (.Subscript (.List es p1) i p2)) pos) (tRet (tItem t u)) := ⟨sT_ret (sE_item h1.1 h2)⟩
end
end Mine
end
-- text T1
section
namespace Mine
open PySem PyProof.Rows
noncomputable abbrev SM := StateT SortSt Sem
noncomputable def mergeAtP : Nat → SM Bool := sortPriv% PySem.Builtin.mergeAt
noncomputable def minRunP : Nat → Nat → Nat → Nat := sortPriv% PySem.Builtin.minRun
noncomputable def powerP : Nat → Nat → Nat → Nat → Nat := sortPriv% PySem.Builtin.power
noncomputable def sortRunsP : SM Unit := sortPriv% PySem.Builtin.sortRuns
noncomputable def countRunP : Nat → Nat → SM (Option Nat) := sortPriv% PySem.Builtin.countRun
noncomputable def binarySortP : Nat → Nat → Nat → SM Bool := sortPriv% PySem.Builtin.binarySort
section
variable {M : Model} {A : Around} {E : Value → Shared → Prop} {s : Shared}
theorem wpS_ite {α : Type} {c : Prop} [Decidable c] {t e : SM α} {Q : α → SortSt → Prop} {st : SortSt} (h1 : c → wpS M A E s t Q st) (h2 : ¬ c → wpS M A E s e Q st) : wpS M A E s (if c then t else e) Q st := by
 split
 ·exact h1 ‹_›
 ·exact h2 ‹_›
inductive GlP (f : Nat → Bool) (n : Nat) (k : Nat) : Prop
 | mk : k ≤ n → (∀ i, i < k → f i = true) → (∀ i, k ≤ i → i < n → f i = false) → GlP f n k
structure GfI (f : Nat → Bool) (n d lo hi : Nat) : Prop where
 le : lo ≤ hi
 hn : hi ≤ n
 d : d + hi ≤ lo + n
 lo : ∀ i, i < lo → f i = true
 hi : ∀ i, hi ≤ i → i < n → f i = false
theorem GfI.end {f : Nat → Bool} {n d lo hi : Nat} (h : GfI f n d lo hi) (e : hi ≤ lo) : GlP f n hi := by
 cases Nat.le_antisymm h.le e
 exact ⟨h.hn, h.lo, h.hi⟩
end
end Mine
end
-- text T2
section
namespace Mine
open PySem PyProof.Rows
structure Ord {α : Type} (L : α → α → Bool) : Prop where
 asym : ∀ x y, L x y = true → L y x = false
 trans : ∀ x y z, L y x = false → L z y = false → L z x = false
theorem Ord.refl {α : Type} {L : α → α → Bool} (h : Ord L) (x : α) : L x x = false := by
 cases q : L x x with
 | false => rfl
 | true => rw [h.asym x x q] at q; cases q
theorem Ord.lt_le {α : Type} {L : α → α → Bool} (h : Ord L) {x y z : α} (h1 : L x y = true) (h2 : L z y = false) : L x z = true := by
 cases q : L x z with
 | true => rfl
 | false => rw [h.trans y z x h2 q] at h1; cases h1
section
variable {α : Type} {L : α → α → Bool}
noncomputable abbrev Srt (L : α → α → Bool) (xs : List α) : Prop := xs.Pairwise fun x y => L y x = false
theorem Srt.head_le (h : Ord L) {x : α} {r : List α} (s : Srt L (x :: r)) : ∀ y ∈ x :: r, L y x = false := fun y hy => by
 rcases List.mem_cons.mp hy with rfl | hy
 ·exact h.refl _
 ·exact (List.pairwise_cons.mp s).1 y hy
theorem Srt.snoc (h : Ord L) {xs : List α} {x : α} (s : Srt L xs) (le : ∀ y ∈ xs, L x y = false) : Srt L (xs ++ [x]) := by
 refine List.pairwise_append.mpr ⟨s, List.pairwise_singleton _ _, fun y hy z hz => ?_⟩
 rw [List.mem_singleton.mp hz]; exact le y hy
end
structure Cmp (M : Model) (A : Around) (E : Value → Shared → Prop) (s : Shared) (κ : SortKind) (U : Keyed → Prop) (L : Keyed → Keyed → Bool) : Prop where
 ord : Ord L
 lt : ∀ x y, U x → U y → ∀ (st : SortSt) (Q : Option Bool → SortSt → Prop), kindOf st = κ → Q (some (L x y)) st → wpS M A E s (lt' x y) Q st
structure SameSt (st st' : SortSt) : Prop where
 kind : kindOf st' = kindOf st
 arr : arrOf st' = arrOf st
 pend : pendingOf st' = pendingOf st
 fail : failedOf st' = failedOf st
theorem SameSt.refl (st : SortSt) : SameSt st st := ⟨rfl, rfl, rfl, rfl⟩
theorem SameSt.trans {a b c : SortSt} (x : SameSt a b) (y : SameSt b c) : SameSt a c := ⟨y.kind.trans x.kind, y.arr.trans x.arr, y.pend.trans x.pend, y.fail.trans x.fail⟩
section
variable {M : Model} {A : Around} {E : Value → Shared → Prop} {s : Shared} {κ : SortKind} {U : Keyed → Prop} {L : Keyed → Keyed → Bool}
theorem wpS_elem {arr : Array Keyed} {i : Nat} {x : Keyed} {st : SortSt} {Q : Keyed → SortSt → Prop} (h : arr[i]? = some x) (hQ : Q x st) : wpS M A E s (elem' arr i) Q st := by
 rw [elem'_eq, h]; exact wpS_pure hQ
end
end Mine
end
-- text T3
section
namespace Mine
open PySem PyProof.Rows
section
variable {M : Model} {A : Around} {E : Value → Shared → Prop} {s : Shared} {κ : SortKind} {U : Keyed → Prop} {L : Keyed → Keyed → Bool}
theorem wpS_rule {r : String} {st : SortSt} {Q : Unit → SortSt → Prop} (h : Q () st) : wpS M A E s (liftM (rule r) : SM Unit) Q st :=
 wpS_lift (wpAny_rule ⟨rfl, h⟩)
end
end Mine
end
-- text V4
section
namespace Mine
open PySem PyProof.Rows
section
variable {M : Model} {A : Around} {E : Value → Shared → Prop} {s : Shared} {κ : SortKind} {U : Keyed → Prop} {L : Keyed → Keyed → Bool}
theorem get_of {a : Array Keyed} {i : Nat} {x : Keyed} (h : a.toList[i]? = some x) : a[i]? = some x := by simpa using h
end
end Mine
end
-- text V5
section
namespace Mine
open PySem PyProof.Rows
theorem Ord.flip {α : Type} {L : α → α → Bool} (h : Ord L) : Ord fun x y => L y x := ⟨fun x y q => h.asym y x q, fun x y z q r => h.trans z y x r q⟩
theorem Srt.rev {α : Type} {L : α → α → Bool} {xs : List α} (h : Srt L xs) : Srt (fun x y => L y x) xs.reverse := List.pairwise_reverse.mpr h
theorem Srt.unrev {α : Type} {L : α → α → Bool} {xs : List α} (h : Srt (fun x y => L y x) xs) : Srt L xs.reverse := List.pairwise_reverse.mpr h
section
variable {M : Model} {A : Around} {E : Value → Shared → Prop} {s : Shared} {κ : SortKind} {U : Keyed → Prop} {L : Keyed → Keyed → Bool}
end
end Mine
end
-- text T6
section
namespace Mine
open PySem PyProof.Rows
noncomputable def starts : Nat → List (List Keyed) → List (Nat × Nat)
 | _, [] => []
 | lo, g :: r => (lo, g.length) :: starts (lo + g.length) r
theorem starts_length : ∀ (a : List (List Keyed)) (lo : Nat), (starts lo a).length = a.length
 | [], _ => rfl
 | g :: r, lo => by simp [starts, starts_length r]
structure Runs (L : Keyed → Keyed → Bool) (st : SortSt) (segs : List (List Keyed)) (rest : List Keyed) : Prop where
 arr : (arrOf st).toList = segs.flatten ++ rest
 srt : ∀ g ∈ segs, g ≠ [] ∧ Srt L g
 pend : (pendingOf st).toList.map (fun p => (p.1, p.2.1)) = starts 0 segs
section
variable {M : Model} {A : Around} {E : Value → Shared → Prop} {s : Shared} {κ : SortKind} {U : Keyed → Prop} {L : Keyed → Keyed → Bool}
end
end Mine
end
-- text W7
section
namespace Mine
open PySem PyProof.Rows
noncomputable abbrev CT := Option (Option Nat) × Nat
noncomputable def ascB (lo n : Nat) : SM (ForInStep CT) := do
 let some smaller ← ltAt' (lo + n) (lo + n - 1) | pure (ForInStep.done (some none, n))
 if smaller = true then pure (ForInStep.done (none, n)) else pure (ForInStep.yield (none, n + 1))
noncomputable def cEnd (lo nrem n : Nat) : SM (Option Nat) := do
 reverseSlice' lo (lo + n)
 let r ← forIn [n:nrem] ((none, n) : CT) fun _ c => ascB lo c.2
 match r.1 with
 | some r => pure r
 | none => pure (some r.2)
noncomputable def faBody (lo m q : Nat) : SM (ForInStep (Option (Option Nat) × Nat × Nat)) := do
 let some smaller ← ltAt' (lo + m) (lo + m - 1) | pure (ForInStep.done (some none, m, q))
 if smaller = true then
  if q > 0 then do
   reverseSlice' (lo + m - (q + 1)) (lo + m)
   pure (ForInStep.yield (none, m + 1, 0))
  else pure (ForInStep.yield (none, m + 1, 0))
 else do
  let some larger ← ltAt' (lo + m - 1) (lo + m) | pure (ForInStep.done (some none, m, q))
  if larger = true then pure (ForInStep.done (none, m, q))
  else pure (ForInStep.yield (none, m + 1, q + 1))
noncomputable def cTail (lo nrem m q : Nat) : SM (Option Nat) :=
 if q > 0 then do
  reverseSlice' (lo + m - (q + 1)) (lo + m)
  cEnd lo nrem m
 else cEnd lo nrem m
noncomputable def cFall (lo nrem n : Nat) : SM (Option Nat) := do
 liftM (rule "list.sort.descending-run")
 let r ← forIn [n + 1:nrem] ((none, n + 1, 0) : Option (Option Nat) × Nat × Nat) fun _ c => faBody lo c.2.1 c.2.2
 match r.1 with
 | some r => pure r
 | none => cTail lo nrem r.2.1 r.2.2
noncomputable def cMid (lo nrem n : Nat) : SM (Option Nat) :=
 if (n == nrem) = true then pure (some n)
 else if n > 1 then do
  let some rose ← ltAt' lo (lo + n - 1) | pure none
  if rose = true then pure (some n) else do
   reverseSlice' lo (lo + n)
   cFall lo nrem n
 else cFall lo nrem n
theorem countRunP_eq (lo nrem : Nat) : countRunP lo nrem = (do
 let r ← forIn [1:nrem] ((none, 1) : CT) fun _ c => ascB lo c.2
 match r.1 with
 | some r => pure r
 | none => cMid lo nrem r.2) := by kernel_rfl
noncomputable abbrev BT := Option Bool × Nat × Nat
noncomputable def biB (lo k l r : Nat) : SM (ForInStep BT) :=
 if l ≥ r then pure (ForInStep.done (none, l, r)) else do
  let some less ← ltAt' (lo + k) (lo + (l + r) / 2) | pure (ForInStep.done (some false, l, r))
  if less = true then pure (ForInStep.yield (none, l, (l + r) / 2)) else pure (ForInStep.yield (none, (l + r) / 2 + 1, r))
noncomputable def bsB (lo k : Nat) : SM (ForInStep (Option Bool × PUnit)) := do
 let r ← forIn [:k] ((none, 0, k) : BT) fun _ c => biB lo k c.2.1 c.2.2
 match r.1 with
 | some r => pure (ForInStep.done (some r, ⟨⟩))
 | none => do
  moveDown' (lo + k) (lo + r.2.1)
  pure (ForInStep.yield (none, ⟨⟩))
theorem binarySortP_eq (lo n ok : Nat) : binarySortP lo n ok = (do
 let r ← forIn [max ok 1:n] ((none, ⟨⟩) : Option Bool × PUnit) fun k _ => bsB lo k
 match r.1 with
 | some r => pure r
 | none => pure true) := by kernel_rfl
structure Ch (st st' : SortSt) : Prop where
 kind : kindOf st' = kindOf st
 pend : pendingOf st' = pendingOf st
 fail : failedOf st' = failedOf st
 perm : (arrOf st').toList.Perm (arrOf st).toList
theorem Ch.refl (st : SortSt) : Ch st st := ⟨rfl, rfl, rfl, .refl _⟩
theorem Ch.trans {a b c : SortSt} (x : Ch a b) (y : Ch b c) : Ch a c := ⟨y.kind.trans x.kind, y.pend.trans x.pend, y.fail.trans x.fail, y.perm.trans x.perm⟩
theorem Ch.u {U : Keyed → Prop} {a b : SortSt} (x : Ch a b) (hu : ∀ x ∈ (arrOf a).toList, U x) : ∀ x ∈ (arrOf b).toList, U x := fun y hy => hu y (x.perm.mem_iff.mp hy)
section
variable {α : Type}
theorem at_mid (p : List α) (x : α) (t : List α) : (p ++ x :: t)[p.length]? = some x := by simp
theorem get_off (p q : List α) (d : Nat) : (p ++ q)[p.length + d]? = q[d]? := by rw [List.getElem?_append_right (Nat.le_add_right _ _), Nat.add_sub_cancel_left]
theorem rev_ix {p d n : Nat} (h : d < n) : p + (p + n) - 1 - (p + d) = p + (n - 1 - d) := by
 obtain ⟨e, rfl⟩ := Nat.exists_eq_add_of_lt h
 show p + (p + (d + e)) - (p + d) = p + (d + e - d)
 rw [Nat.add_sub_cancel_left, ← Nat.add_assoc p d e, Nat.add_left_comm, Nat.add_sub_cancel_left]
theorem rev_list {xs ys p q t : List α} (hx : xs = p ++ (q ++ t)) (h : ∀ k, ys[k]? = if p.length ≤ k ∧ k < p.length + q.length then xs[p.length + (p.length + q.length) - 1 - k]? else xs[k]?) : ys = p ++ (q.reverse ++ t) := by
 apply List.ext_getElem?
 intro k
 rw [h k, hx]
 rcases Nat.lt_or_ge k p.length with c1 | c1
 ·rw [if_neg fun c => Nat.not_le.mpr c1 c.1, List.getElem?_append_left c1, List.getElem?_append_left c1]
 ·obtain ⟨d, rfl⟩ := Nat.exists_eq_add_of_le c1
  rw [get_off p (q.reverse ++ t)]
  rcases Nat.lt_or_ge d q.length with c2 | c2
  ·rw [if_pos ⟨c1, Nat.add_lt_add_left c2 _⟩, rev_ix c2, get_off, List.getElem?_append_left (Nat.lt_of_le_of_lt (Nat.sub_le _ _) (Nat.sub_lt (Nat.lt_of_le_of_lt (Nat.zero_le _) c2) Nat.one_pos)), List.getElem?_append_left (by rw [List.length_reverse]; exact c2), List.getElem?_reverse c2]
  ·rw [if_neg fun c => Nat.not_le.mpr (Nat.lt_of_add_lt_add_left c.2) c2, get_off, List.getElem?_append_right c2, List.getElem?_append_right (by rw [List.length_reverse]; exact c2), List.length_reverse]
theorem move_list {xs ys p b t : List α} {x : α} (hx : xs = p ++ (b ++ x :: t)) (h : ∀ k, ys[k]? = if k = p.length then some x else if p.length < k ∧ k ≤ p.length + b.length then xs[k - 1]? else xs[k]?) : ys = p ++ (x :: (b ++ t)) := by
 apply List.ext_getElem?
 intro k
 rw [h k, hx]
 rcases Nat.lt_or_ge k p.length with c1 | c1
 ·rw [if_neg (Nat.ne_of_lt c1), if_neg fun c => Nat.lt_asymm c1 c.1, List.getElem?_append_left c1, List.getElem?_append_left c1]
 ·obtain ⟨d, rfl⟩ := Nat.exists_eq_add_of_le c1
  rw [get_off p (x :: (b ++ t))]
  cases d with
  | zero => rw [if_pos (Nat.add_zero _)]; rfl
  | succ d =>
   rw [if_neg (Nat.ne_of_gt (Nat.lt_add_of_pos_right (Nat.succ_pos _))), List.getElem?_cons_succ]
   rcases Nat.lt_or_ge d b.length with c3 | c3
   ·rw [if_pos ⟨Nat.lt_add_of_pos_right (Nat.succ_pos _), Nat.add_le_add_left c3 _⟩, show p.length + (d + 1) - 1 = p.length + d from rfl, get_off, List.getElem?_append_left c3, List.getElem?_append_left c3]
   ·obtain ⟨e, rfl⟩ := Nat.exists_eq_add_of_le c3
    rw [if_neg fun c => Nat.not_lt.mpr c3 (Nat.le_of_add_le_add_left c.2), get_off, Nat.add_assoc, get_off, get_off, List.getElem?_cons_succ]
end
section
variable {M : Model} {A : Around} {E : Value → Shared → Prop} {s : Shared} {κ : SortKind} {U : Keyed → Prop} {L : Keyed → Keyed → Bool}
theorem wpS_ltAt (C : Cmp M A E s κ U L) {i j : Nat} {x y : Keyed} {st : SortSt} {Q : Option Bool → SortSt → Prop} (hx : (arrOf st).toList[i]? = some x) (hy : (arrOf st).toList[j]? = some y) (hu : ∀ x ∈ (arrOf st).toList, U x) (hk : kindOf st = κ)
  (hQ : Q (some (L x y)) st) : wpS M A E s (ltAt' i j) Q st := by
 rw [ltAt'_eq]
 refine wpS_bind (wpS_get (wpS_bind (wpS_elem (get_of hx) (wpS_bind (wpS_elem (get_of hy) ?_)))))
 exact C.lt x y (hu x (List.mem_of_getElem? hx)) (hu y (List.mem_of_getElem? hy)) st _ hk hQ
theorem wpS_rev {i j : Nat} {st : SortSt} {Q : Unit → SortSt → Prop} {p q t : List Keyed} (ha : (arrOf st).toList = p ++ (q ++ t)) (hi : i = p.length) (hj : j = p.length + q.length)
  (h : ∀ st', Ch st st' → (arrOf st').toList = p ++ (q.reverse ++ t) → Q () st') : wpS M A E s (reverseSlice' i j) Q st := by
 rw [reverseSlice'_eq]
 have hs : j ≤ (arrOf st).size := by
  have := congrArg List.length ha
  rw [Array.length_toList, List.length_append, List.length_append] at this; lia
 subst hi; subst hj
 refine wpS_modify (h _ ⟨rfl, rfl, rfl, Array.perm_iff_toList_perm.mp (mirror_perm _ _ _ _)⟩ (rev_list ha fun k => ?_))
 rw [Array.getElem?_toList, Array.getElem?_toList, Array.getElem?_toList]
 exact getElem?_mirror_all hs k
theorem wpS_moveDown {src dst : Nat} {st : SortSt} {Q : Unit → SortSt → Prop} {p b t : List Keyed} {x : Keyed} (ha : (arrOf st).toList = p ++ (b ++ x :: t)) (hd : dst = p.length) (hs : src = p.length + b.length)
  (h : ∀ st', Ch st st' → (arrOf st').toList = p ++ (x :: (b ++ t)) → Q () st') : wpS M A E s (moveDown' src dst) Q st := by
 rw [moveDown'_eq]
 subst hd; subst hs
 have gx : (arrOf st)[p.length + b.length]? = some x := by
  rw [← Array.getElem?_toList, ha, get_off]; exact at_mid _ _ _
 obtain ⟨hl, _⟩ := Array.getElem?_eq_some_iff.mp gx
 have g := getElem?_bubble (xs := arrOf st) hl b.length (Nat.le_add_left _ _)
 rw [Nat.add_sub_cancel] at g
 rw [Nat.add_sub_cancel_left]
 refine wpS_modify (h _ ⟨rfl, rfl, rfl, Array.perm_iff_toList_perm.mp (bubble_perm _ _ _)⟩ (move_list ha fun k => ?_))
 rw [Array.getElem?_toList, Array.getElem?_toList, Array.getElem?_toList, ← gx]
 exact g k
noncomputable abbrev Fal (L : Keyed → Keyed → Bool) (xs : List Keyed) : Prop := Srt (fun x y => L y x) xs
theorem Srt.snocL (O : Ord L) {r : List Keyed} {x y : Keyed} (h : Srt L (r ++ [x])) (hy : L y x = false) : Srt L (r ++ [x] ++ [y]) := by
 refine Srt.snoc O h fun z hz => ?_
 rcases List.mem_append.mp hz with hz | hz
 ·exact O.trans _ _ _ ((List.pairwise_append.mp h).2.2 z hz x (by simp)) hy
 ·rw [List.mem_singleton.mp hz]; exact hy
inductive AsI (L : Keyed → Keyed → Bool) (tl : List Keyed) (j : Nat) : Option (Option Nat) × Nat → Prop
 | mk (r : List Keyed) (x : Keyed) (t : List Keyed) : tl = (r ++ [x]) ++ t → Srt L (r ++ [x]) → r.length + 1 = j → AsI L tl j (none, r.length + 1)
inductive AsP (L : Keyed → Keyed → Bool) (tl : List Keyed) : Option (Option Nat) × Nat → Prop
 | all : tl ≠ [] → Srt L tl → AsP L tl (none, tl.length)
 | stop (r : List Keyed) (x y : Keyed) (t : List Keyed) : tl = (r ++ [x]) ++ y :: t → Srt L (r ++ [x]) → L y x = true → AsP L tl (none, r.length + 1)
inductive AsJ (L : Keyed → Keyed → Bool) (tl : List Keyed) (j : Nat) (st : SortSt) : CT → SortSt → Prop
 | mk (c) : AsI L tl j c → AsJ L tl j st c st
inductive AsQ (L : Keyed → Keyed → Bool) (tl : List Keyed) (st : SortSt) : CT → SortSt → Prop
 | mk (c) : AsP L tl c → AsQ L tl st c st
theorem lo_get {l pre r t : List Keyed} {x y : Keyed} (ha : l = pre ++ ((r ++ [x]) ++ y :: t)) : l[pre.length + (r.length + 1)]? = some y ∧ l[pre.length + (r.length + 1) - 1]? = some x := by
 subst ha
 constructor
 ·rw [show pre ++ ((r ++ [x]) ++ y :: t) = (pre ++ (r ++ [x])) ++ y :: t by simp, show pre.length + (r.length + 1) = (pre ++ (r ++ [x])).length by simp]
  exact at_mid _ _ _
 ·rw [show pre ++ ((r ++ [x]) ++ y :: t) = (pre ++ r) ++ x :: (y :: t) by simp, show pre.length + (r.length + 1) - 1 = (pre ++ r).length by rw [List.length_append]; rfl]
  exact at_mid _ _ _
theorem wpS_asc (C : Cmp M A E s κ U L) {pre tl r0 t0 : List Keyed} {x0 : Keyed} {st : SortSt} {lo n0 nrem : Nat}
  (ha : (arrOf st).toList = pre ++ tl) (hlo : lo = pre.length) (hn : nrem = tl.length) (h0 : tl = (r0 ++ [x0]) ++ t0) (hn0 : n0 = r0.length + 1) (s0 : Srt L (r0 ++ [x0])) (hu : ∀ x ∈ (arrOf st).toList, U x) (hk : kindOf st = κ) :
  wpS M A E s (forIn [n0:nrem] ((none, n0) : CT) fun _ c => ascB lo c.2) (AsQ L tl st) st := by
 subst hlo; subst hn0; subst hn
 refine wpS_forRange (fun j => AsJ L tl j st) ?_ ?_ (.mk _ (.mk _ _ _ h0 s0 rfl))
 ·rintro j _ _ hj1 hj2 ⟨⟨r, x, t, e, sr, rfl⟩⟩
  cases t with
  | nil => rw [e, List.append_nil, List.length_append] at hj2; exact absurd hj2 (Nat.lt_irrefl _)
  | cons y t =>
   obtain ⟨g1, g2⟩ := lo_get (l := (arrOf st).toList) (pre := pre) (r := r) (x := x) (y := y) (t := t) (by rw [ha, e])
   refine wpS_bind (wpS_ltAt C g1 g2 hu hk (wpS_ite (fun q => wpS_pure (.mk _ (.stop r x y t e sr q))) fun q => ?_))
   have := AsI.mk (L := L) (tl := tl) (j := r.length + 1 + 1) (r ++ [x]) y t (by rw [e, List.append_assoc (r ++ [x])]; rfl) (sr.snocL C.ord (eq_false_of_ne_true q)) (by rw [List.length_append]; rfl)
   rw [List.length_append] at this
   exact wpS_pure (.mk _ this)
 ·rintro _ _ ⟨⟨r, x, t, e, sr, hr⟩⟩
  have e1 := congrArg List.length e
  rw [List.length_append, List.length_append] at e1
  have e2 : r.length + 1 = tl.length := Nat.le_antisymm (by rw [e1]; exact Nat.le_add_right _ _) (by rw [hr]; exact Nat.le_max_right _ _)
  have ht : t = [] := List.eq_nil_of_length_eq_zero (Nat.add_left_cancel (e1.symm.trans e2.symm))
  subst ht
  rw [List.append_nil] at e
  rw [e2]
  exact .mk _ (.all (by rw [e]; exact List.append_ne_nil_of_right_ne_nil _ (List.cons_ne_nil _ _)) (by rw [e]; exact sr))
structure FaI (L : Keyed → Keyed → Bool) (st0 : SortSt) (pre : List Keyed) (N m q : Nat) (D G t : List Keyed) (st : SortSt) : Prop where
 S : Ch st0 st
 arr : (arrOf st).toList = pre ++ ((D ++ G) ++ t)
 fal : Fal L (D ++ G)
 eqs : ∀ x ∈ G, ∀ y ∈ G, L x y = false
 lq : G.length = q + 1
 lm : D.length + G.length = m
 tot : m + t.length = N
inductive FaJ (L : Keyed → Keyed → Bool) (st0 : SortSt) (pre : List Keyed) (N j : Nat) : Option (Option Nat) × Nat × Nat → SortSt → Prop
 | mk (m q : Nat) (D G t : List Keyed) (st : SortSt) : FaI L st0 pre N m q D G t st → m = j → FaJ L st0 pre N j (none, m, q) st
inductive FaP (L : Keyed → Keyed → Bool) (st0 : SortSt) (pre : List Keyed) (N : Nat) : Option (Option Nat) × Nat × Nat → SortSt → Prop
 | mk (m q : Nat) (D G t : List Keyed) (st : SortSt) : FaI L st0 pre N m q D G t st → FaP L st0 pre N (none, m, q) st
theorem fal_turn {D G : List Keyed} (h : Fal L (D ++ G)) (he : ∀ x ∈ G, ∀ y ∈ G, L x y = false) : Fal L (D ++ G.reverse) := by
 obtain ⟨h1, h2, h3⟩ := List.pairwise_append.mp h
 refine List.pairwise_append.mpr ⟨h1, List.Pairwise.imp_of_mem (fun {a b} ha hb _ => he _ (List.mem_reverse.mp ha) _ (List.mem_reverse.mp hb)) (List.pairwise_of_forall (R := fun _ _ => True) (fun _ _ => trivial)), fun a ha b hb => h3 a ha b (List.mem_reverse.mp hb)⟩
theorem fal_snoc (O : Ord L) {D G : List Keyed} {x y : Keyed} (h : Fal L (D ++ G)) (hx : x ∈ G) (hG : ∀ z ∈ G, L z x = false) (hy : L x y = false) : ∀ z ∈ D ++ G, L z y = false := fun z hz => by
 have : L z x = false := by
  rcases List.mem_append.mp hz with hz | hz
  ·exact (List.pairwise_append.mp h).2.2 z hz x hx
  ·exact hG z hz
 exact O.trans _ _ _ hy this
theorem ne_snoc {R : List Keyed} (h : R ≠ []) : ∃ r x, R = r ++ [x] := ⟨R.dropLast, R.getLast h, (List.dropLast_concat_getLast h).symm⟩
theorem wpS_countEnd (C : Cmp M A E s κ U L) {pre R t : List Keyed} {lo nrem n : Nat} {st : SortSt} {Q : Option Nat → SortSt → Prop} (ha : (arrOf st).toList = pre ++ (R ++ t)) (hlo : lo = pre.length) (hn : n = R.length) (hrem : nrem = R.length + t.length) (hne : R ≠ []) (hd : Fal L R) (hu : ∀ x ∈ (arrOf st).toList, U x) (hk : kindOf st = κ)
  (hQ : ∀ st' run rest, Ch st st' → (arrOf st').toList = pre ++ (run ++ rest) → run ≠ [] → Srt L run → Q (some run.length) st') :
  wpS M A E s (cEnd lo nrem n) Q st := by
 refine wpS_bind (wpS_rev ha hlo (by rw [hlo, hn]) fun st1 S1 a1 => ?_)
 obtain ⟨r0, x0, e0⟩ := ne_snoc (R := R.reverse) (by simpa using hne)
 have sr : Srt L R.reverse := hd.unrev
 refine wpS_bind (wpS_mono (wpS_asc C (tl := R.reverse ++ t) (r0 := r0) (x0 := x0) (t0 := t) a1 hlo (by rw [hrem]; simp) (by rw [e0]) (by rw [hn, ← List.length_reverse, e0]; simp) (e0 ▸ sr) (S1.u hu) (S1.kind.trans hk)) ?_)
 rintro _ _ ⟨h⟩
 cases h with
 | all h1 h2 => exact wpS_pure (hQ st1 _ [] S1 (by rw [List.append_nil]; exact a1) h1 h2)
 | stop r x y t' e h2 _ =>
  have := hQ st1 (r ++ [x]) (y :: t') S1 (by rw [a1, e]) (by simp) h2
  rw [List.length_append] at this
  exact wpS_pure this
inductive FaR (L : Keyed → Keyed → Bool) (st0 : SortSt) (pre : List Keyed) (N m : Nat) : ForInStep (Option (Option Nat) × Nat × Nat) → SortSt → Prop
 | brk (q : Nat) (D G t : List Keyed) (st : SortSt) : FaI L st0 pre N m q D G t st → FaR L st0 pre N m (.done (none, m, q)) st
 | go (q : Nat) (D G t : List Keyed) (st : SortSt) : FaI L st0 pre N (m + 1) q D G t st → FaR L st0 pre N m (.yield (none, m + 1, q)) st
theorem faBody_ok (C : Cmp M A E s κ U L) {st0 st : SortSt} {pre D G t : List Keyed} {N m q : Nat} (hu : ∀ x ∈ (arrOf st0).toList, U x) (hk : kindOf st0 = κ) (I : FaI L st0 pre N m q D G t st) (hm : m < N) : wpS M A E s (faBody pre.length m q) (FaR L st0 pre N m) st := by
 obtain ⟨S, arr, fal, eqs, lq, lm, tot⟩ := I
 cases t with
 | nil => simp at tot; lia
 | cons y t =>
  obtain ⟨G0, x, rfl⟩ := ne_snoc (R := G) (by intro e; rw [e] at lq; simp at lq)
  have lm' : m = (D ++ G0).length + 1 := by rw [← lm]; simp; lia
  have xin : x ∈ G0 ++ [x] := by simp
  obtain ⟨g1, g2⟩ := lo_get (l := (arrOf st).toList) (pre := pre) (r := D ++ G0) (x := x) (y := y) (t := t) (by rw [arr]; simp)
  rw [← lm'] at g1 g2
  have tot' : m + 1 + t.length = N := by rw [← tot]; simp; lia
  refine wpS_bind (wpS_ltAt C g1 g2 (S.u hu) (S.kind.trans hk) ?_)
  refine wpS_ite (fun p => ?_) fun p => ?_
  ·have yx : ∀ z ∈ D ++ (G0 ++ [x]), L z y = false := fal_snoc C.ord fal xin (fun z hz => eqs z hz x xin) (C.ord.asym _ _ p)
   have one : ∀ a ∈ [y], ∀ b ∈ [y], L a b = false := fun a ha b hb => by rw [List.mem_singleton.mp ha, List.mem_singleton.mp hb]; exact C.ord.refl _
   refine wpS_ite (fun cq => ?_) fun cq => ?_
   ·have ll : D.length + (q + 1) = m := by rw [← lm, lq]
    refine wpS_bind (wpS_rev (p := pre ++ D) (q := G0 ++ [x]) (t := y :: t) (by rw [arr]; simp) (by rw [← ll, ← Nat.add_assoc, Nat.add_sub_cancel, List.length_append]) (by rw [List.length_append, lq, ← ll, Nat.add_assoc]) fun st4 S4 a4 => ?_)
    refine wpS_pure (.go 0 (D ++ (G0 ++ [x]).reverse) [y] t st4 ⟨S.trans S4, by rw [a4]; simp, Srt.snoc C.ord.flip (fal_turn fal eqs) fun z hz => yx z ?_, one, rfl, ?_, tot'⟩)
    ·rcases List.mem_append.mp hz with hz | hz
     ·exact List.mem_append_left _ hz
     ·exact List.mem_append_right _ (List.mem_reverse.mp hz)
    ·rw [List.length_append, List.length_reverse, lm]; rfl
   ·exact wpS_pure (.go 0 (D ++ (G0 ++ [x])) [y] t st ⟨S, by rw [arr]; simp, Srt.snoc C.ord.flip fal yx, one, rfl, by rw [List.length_append, lm]; rfl, tot'⟩)
  ·have p : L y x = false := eq_false_of_ne_true p
   refine wpS_bind (wpS_ltAt C g2 g1 (S.u hu) (S.kind.trans hk) ?_)
   refine wpS_ite (fun p2 => ?_) fun p2 => ?_
   ·exact wpS_pure (.brk q D (G0 ++ [x]) (y :: t) st ⟨S, arr, fal, eqs, lq, lm, tot⟩)
   ·have p2 : L x y = false := eq_false_of_ne_true p2
    have yx : ∀ z ∈ D ++ (G0 ++ [x]), L z y = false := fal_snoc C.ord fal xin (fun z hz => eqs z hz x xin) p2
    refine wpS_pure (.go (q + 1) D (G0 ++ [x] ++ [y]) t st ⟨S, by rw [arr]; simp, ?_, fun a ha b hb => ?_, by rw [List.length_append, lq]; rfl, by rw [List.length_append, ← Nat.add_assoc, lm]; rfl, tot'⟩)
    ·rw [← List.append_assoc]; exact Srt.snoc C.ord.flip fal yx
    ·have yz : ∀ z ∈ G0 ++ [x], L y z = false := fun z hz => C.ord.trans _ _ _ (eqs x xin z hz) p
     rcases List.mem_append.mp ha with ha | ha <;> rcases List.mem_append.mp hb with hb | hb
     ·exact eqs a ha b hb
     ·rw [List.mem_singleton.mp hb]; exact yx a (List.mem_append_right _ ha)
     ·rw [List.mem_singleton.mp ha]; exact yz b hb
     ·rw [List.mem_singleton.mp ha, List.mem_singleton.mp hb]; exact C.ord.refl _
theorem wpS_countFall (C : Cmp M A E s κ U L) {st : SortSt} {pre D t : List Keyed} {y : Keyed} {lo nrem n : Nat} {Q : Option Nat → SortSt → Prop} (ha : (arrOf st).toList = pre ++ ((D ++ [y]) ++ t)) (hlo : lo = pre.length) (hn : n = D.length) (hrem : nrem = D.length + 1 + t.length) (hd : Fal L (D ++ [y])) (hu : ∀ x ∈ (arrOf st).toList, U x) (hk : kindOf st = κ)
  (hQ : ∀ st' run rest, Ch st st' → (arrOf st').toList = pre ++ (run ++ rest) → run ≠ [] → Srt L run → Q (some run.length) st') : wpS M A E s (cFall lo nrem n) Q st := by
 subst hlo; subst hn
 refine wpS_bind (wpS_rule ?_)
 have I0 : FaI L st pre nrem (D.length + 1) 0 D [y] t st := ⟨.refl _, ha, hd, fun a ha b hb => by rw [List.mem_singleton.mp ha, List.mem_singleton.mp hb]; exact C.ord.refl _, rfl, rfl, hrem.symm⟩
 refine wpS_bind (wpS_mono (Q := FaP L st pre nrem) (wpS_forRange (fun j => FaJ L st pre nrem j) ?_ ?_ (.mk _ _ _ _ _ _ I0 rfl)) ?_)
 ·rintro j _ st3 hj1 hj2 ⟨m, q, D', G, t', _, I, rfl⟩
  refine wpS_mono (faBody_ok C hu hk I hj2) fun r st' h => ?_
  cases h with
  | brk q D G t _ I => exact .mk _ _ _ _ _ _ I
  | go q D G t _ I => exact .mk _ _ _ _ _ _ I rfl
 ·rintro _ st3 ⟨m, q, D', G, t', _, I, _⟩
  exact .mk _ _ _ _ _ _ I
 ·rintro _ st3 ⟨m, q, D', G, t', _, I⟩
  obtain ⟨S, arr, fal, eqs, lq, lm, tot⟩ := I
  have gne : G ≠ [] := by intro e; rw [e] at lq; simp at lq
  refine wpS_ite (fun cq => ?_) fun cq => ?_
  ·refine wpS_bind (wpS_rev (p := pre ++ D') (q := G) (t := t') (by rw [arr]; simp) (by rw [← lm, lq, ← Nat.add_assoc, Nat.add_sub_cancel, List.length_append]) (by rw [List.length_append, ← lm, Nat.add_assoc]) fun st4 S4 a4 => ?_)
   exact wpS_countEnd C (R := D' ++ G.reverse) (t := t') (by rw [a4]; simp) rfl (by rw [List.length_append, List.length_reverse, lm]) (by rw [List.length_append, List.length_reverse, lm, tot]) (by simp [gne]) (fal_turn fal eqs) (S4.u (S.u hu)) (S4.kind.trans (S.kind.trans hk)) fun st5 run rest S5 => hQ st5 run rest ((S.trans S4).trans S5)
  ·exact wpS_countEnd C (R := D' ++ G) arr rfl (by rw [List.length_append, lm]) (by rw [List.length_append, lm, tot]) (by simp [gne]) fal (S.u hu) (S.kind.trans hk) fun st5 run rest S5 => hQ st5 run rest (S.trans S5)
theorem wpS_countRun (C : Cmp M A E s κ U L) {pre tl : List Keyed} {lo nrem : Nat} {st : SortSt} {Q : Option Nat → SortSt → Prop} (ha : (arrOf st).toList = pre ++ tl) (hlo : lo = pre.length) (hrem : nrem = tl.length) (hne : tl ≠ []) (hu : ∀ x ∈ (arrOf st).toList, U x) (hk : kindOf st = κ)
  (hQ : ∀ st' run rest, Ch st st' → (arrOf st').toList = pre ++ (run ++ rest) → run ≠ [] → Srt L run → Q (some run.length) st') : wpS M A E s (countRunP lo nrem) Q st := by
 rw [countRunP_eq]
 cases tl with
 | nil => exact absurd rfl hne
 | cons z tl' =>
 generalize htl : z :: tl' = tl at *
 refine wpS_bind (wpS_mono (wpS_asc C (r0 := []) (x0 := z) (t0 := tl') ha hlo hrem htl.symm rfl (List.pairwise_singleton _ _) hu hk) ?_)
 rintro _ _ ⟨h⟩
 cases h with
 | all h1 h2 =>
  refine wpS_ite (fun _ => wpS_pure (hQ st tl [] (.refl _) (by rw [ha, List.append_nil]) h1 h2)) fun c => absurd (beq_iff_eq.mpr hrem.symm) c
 | stop r x y t e h2 lt =>
  have hl : nrem = r.length + 1 + (t.length + 1) := by rw [hrem, e]; simp; lia
  refine wpS_ite (fun c => ?_) fun _ => ?_
  ·have := beq_iff_eq.mp c; lia
  have ha' : (arrOf st).toList = pre ++ ((r ++ [x]) ++ y :: t) := by rw [ha, e]
  refine wpS_ite (fun c => ?_) fun c => ?_
  ·cases r with
   | nil => simp at c
   | cons f r =>
    obtain ⟨g1, g2⟩ := lo_get (l := (arrOf st).toList) (pre := pre) (r := f :: r) (x := x) (y := y) (t := t) ha'
    have gf : (arrOf st).toList[lo]? = some f := by rw [ha', hlo]; simp
    rw [← hlo] at g2
    refine wpS_bind (wpS_ltAt C gf g2 hu hk ?_)
    refine wpS_ite (fun _ => ?_) fun p => ?_
    ·have := hQ st (f :: r ++ [x]) (y :: t) (.refl _) ha' (by simp) h2
     rw [List.length_append] at this
     exact wpS_pure this
    ·have p : L f x = false := eq_false_of_ne_true p
     have fin : f ∈ f :: r ++ [x] := by simp
     have hx : ∀ z ∈ f :: r ++ [x], L x z = false := fun z hz => by
      rcases List.mem_append.mp hz with hz | hz
      ·exact (List.pairwise_append.mp h2).2.2 z hz x (by simp)
      ·rw [List.mem_singleton.mp hz]; exact C.ord.refl _
     have hf : ∀ z ∈ f :: r ++ [x], L z f = false := Srt.head_le C.ord h2
     have eqs : ∀ a ∈ f :: r ++ [x], ∀ b ∈ f :: r ++ [x], L a b = false := fun a ha b hb => C.ord.trans _ _ _ (C.ord.trans _ _ _ (hx b hb) p) (hf a ha)
     refine wpS_bind (wpS_rev (p := pre) (q := f :: r ++ [x]) (t := y :: t) ha' hlo (by rw [hlo]; simp) fun st2 S2 a2 => ?_)
     refine wpS_countFall C (D := (f :: r ++ [x]).reverse) (y := y) (t := t) (by rw [a2]; simp) hlo (by simp) (by rw [hl]; simp; lia) ?_ (S2.u hu) (S2.kind.trans hk) fun st5 run rest S5 => hQ st5 run rest (S2.trans S5)
     refine Srt.snoc C.ord.flip ?_ fun z hz => ?_
     ·exact List.Pairwise.imp_of_mem (fun {a b} ha hb _ => eqs _ (List.mem_reverse.mp ha) _ (List.mem_reverse.mp hb)) (List.pairwise_of_forall (R := fun _ _ => True) (fun _ _ => trivial))
     ·exact C.ord.asym _ _ (C.ord.lt_le lt (eqs z (List.mem_reverse.mp hz) x (by simp)))
  ·have hr : r = [] := List.eq_nil_of_length_eq_zero (by lia)
   subst hr
   refine wpS_countFall C (D := [x]) (y := y) (t := t) (by rw [ha']; simp) hlo rfl (by rw [hl]; simp; lia) ?_ hu hk hQ
   exact List.pairwise_cons.mpr ⟨fun z hz => by rw [List.mem_singleton.mp hz]; exact C.ord.asym _ _ lt, List.pairwise_singleton _ _⟩
end
end Mine
end
-- text W8
section
namespace Mine
open PySem PyProof.Rows
noncomputable abbrev SF := ForInStep (Option Unit × Nat)
noncomputable abbrev SU := ForInStep (Option Unit × Unit)
noncomputable def srPush (lo n : Nat) : SM SF := do
 modify fun s => SortSt.mk' (kindOf s) (arrOf s) ((pendingOf s).push (lo, n, 0)) (gallopOf s) (failedOf s)
 pure (ForInStep.yield (none, lo + n))
noncomputable def srFold (pw : Nat) : SM SU := do
 let st ← get
 match (if (pendingOf st).size > 1 then (pendingOf st)[(pendingOf st).size - 2]? else none) with
 | some (_, _, older) => if older ≤ pw then pure (ForInStep.done (none, ())) else do
  let b ← mergeAtP ((pendingOf st).size - 2)
  if (!b) = true then pure (ForInStep.done (some (), ())) else pure (ForInStep.yield (none, ()))
 | _ => pure (ForInStep.done (none, ()))
noncomputable def setPw (pw : Nat) (s : SortSt) : SortSt := SortSt.mk' (kindOf s) (arrOf s) ((pendingOf s).modify ((pendingOf s).size - 1) fun (st, len, _) => (st, len, pw)) (gallopOf s) (failedOf s)
noncomputable def srMid (size lo n pw : Nat) : SM SF := do
 let r ← forIn [:size] ((none, ()) : Option Unit × Unit) fun _ _ => srFold pw
 match r.1 with
 | some r => pure (ForInStep.done (some r, lo))
 | none => do
  modify (setPw pw)
  srPush lo n
noncomputable def srJp (size lo n : Nat) : SM SF := do
 let st ← get
 match (pendingOf st).back? with
 | some (s1, n1, _) => srMid size lo n (powerP size (2 * s1 + n1) (2 * s1 + n1 + n1 + n) size)
 | _ => srPush lo n
noncomputable def srBody (size minrun lo : Nat) : SM SF :=
 if lo ≥ size then pure (ForInStep.done (none, lo)) else do
  let some n ← countRunP lo (size - lo) | pure (ForInStep.done (some (), lo))
  if n < minrun then do
   liftM (rule "list.sort.binary-insertion")
   let b ← binarySortP lo (min (size - lo) minrun) n
   if (!b) = true then pure (ForInStep.done (some (), lo)) else srJp size lo (min (size - lo) minrun)
  else srJp size lo n
noncomputable def srIdx (p : Array (Nat × Nat × Nat)) : Nat :=
 if (if p.size - 2 > 0 then p[p.size - 2 - 1]?.map (·.2.1) else none).any (· < (p[p.size - 2 + 1]?.elim 0 (·.2.1))) then p.size - 2 - 1 else p.size - 2
noncomputable def srLast : SM SU := do
 let st ← get
 if (pendingOf st).size ≤ 1 then pure (ForInStep.done (none, ())) else do
  let b ← mergeAtP (srIdx (pendingOf st))
  if (!b) = true then pure (ForInStep.done (some (), ())) else pure (ForInStep.yield (none, ()))
noncomputable def srEnd (size : Nat) : SM Unit := do
 let r ← forIn [:size] ((none, ()) : Option Unit × Unit) fun _ _ => srLast
 match r.1 with
 | some r => pure r
 | none => pure ()
noncomputable def srAll (size minrun : Nat) : SM Unit := do
 let r ← forIn [:size] ((none, 0) : Option Unit × Nat) fun _ c => srBody size minrun c.2
 match r.1 with
 | some r => pure r
 | none => srEnd size
theorem sortRunsP_eq : sortRunsP = (do
 let st ← get
 srAll (arrOf st).size (minRunP (arrOf st).size (arrOf st).size 0)) := by kernel_rfl
section
variable {M : Model} {A : Around} {E : Value → Shared → Prop} {s : Shared} {κ : SortKind} {U : Keyed → Prop} {L : Keyed → Keyed → Bool}
structure BiI (L : Keyed → Keyed → Bool) (run : List Keyed) (x : Keyed) (d l r : Nat) : Prop where
 lr : l ≤ r
 rk : r ≤ run.length
 d : d + r ≤ l + run.length
 lo : ∀ a ∈ run.take l, L x a = false
 hi : ∀ a ∈ run.drop r, L x a = true
inductive BiJ (L : Keyed → Keyed → Bool) (run : List Keyed) (x : Keyed) (d : Nat) (st : SortSt) : BT → SortSt → Prop
 | mk (l r : Nat) : BiI L run x d l r → BiJ L run x d st (none, l, r) st
inductive BiP (L : Keyed → Keyed → Bool) (run : List Keyed) (x : Keyed) (st : SortSt) : BT → SortSt → Prop
 | mk (l r : Nat) : l ≤ run.length → (∀ a ∈ run.take l, L x a = false) → (∀ a ∈ run.drop l, L x a = true) → BiP L run x st (none, l, r) st
inductive BiR (L : Keyed → Keyed → Bool) (run : List Keyed) (x : Keyed) (j : Nat) (st : SortSt) : ForInStep BT → SortSt → Prop
 | done (l r : Nat) : l ≤ run.length → (∀ a ∈ run.take l, L x a = false) → (∀ a ∈ run.drop l, L x a = true) → BiR L run x j st (.done (none, l, r)) st
 | go (l r : Nat) : BiI L run x j l r → BiR L run x j st (.yield (none, l, r)) st
theorem srt_le (O : Ord L) {run : List Keyed} {m : Nat} {e : Keyed} (h : Srt L run) (he : run[m]? = some e) : (∀ a ∈ run.take (m + 1), L e a = false) ∧ ∀ a ∈ run.drop m, L a e = false := by
 obtain ⟨hm, e1⟩ := List.getElem?_eq_some_iff.mp he
 have e2 : run.drop m = e :: run.drop (m + 1) := by rw [List.drop_eq_getElem_cons hm, e1]
 have h' := h
 rw [← List.take_append_drop m run, e2] at h'
 obtain ⟨h1, h2, h3⟩ := List.pairwise_append.mp h'
 refine ⟨fun a ha => ?_, fun a ha => ?_⟩
 ·rw [List.take_add_one, he] at ha
  rcases List.mem_append.mp ha with ha | ha
  ·exact h3 a ha e (.head _)
  ·rw [show a = e by simpa using ha]; exact O.refl _
 ·rw [e2] at ha; exact Srt.head_le O h2 a ha
theorem mid2 {l r : Nat} (h : l < r) : l ≤ (l + r) / 2 ∧ (l + r) / 2 < r := by lia
structure BsI (L : Keyed → Keyed → Bool) (st0 : SortSt) (pre : List Keyed) (N k : Nat) (run t : List Keyed) (st : SortSt) : Prop where
 S : Ch st0 st
 arr : (arrOf st).toList = pre ++ (run ++ t)
 srt : Srt L run
 len : run.length = k
 tot : run.length + t.length = N
inductive BsJ (L : Keyed → Keyed → Bool) (st0 : SortSt) (pre : List Keyed) (N k : Nat) : Option Bool × PUnit → SortSt → Prop
 | mk (run t : List Keyed) (u : PUnit) (st : SortSt) : BsI L st0 pre N k run t st → BsJ L st0 pre N k (none, u) st
theorem wpS_biB (C : Cmp M A E s κ U L) {pre run t : List Keyed} {x : Keyed} {l r j : Nat} {st : SortSt} (ha : (arrOf st).toList = pre ++ (run ++ x :: t)) (sr : Srt L run) (hu : ∀ x ∈ (arrOf st).toList, U x) (hk : kindOf st = κ) (I : BiI L run x j l r) : wpS M A E s (biB pre.length run.length l r) (BiR L run x (j + 1) st) st := by
 obtain ⟨b1, b2, b3, b4, b5⟩ := I
 refine wpS_ite (fun hge => ?_) fun hge => ?_
 ·cases Nat.le_antisymm b1 hge
  exact wpS_pure (.done l l b2 b4 b5)
 ·obtain ⟨hl, hm⟩ := mid2 (Nat.not_le.mp hge)
  generalize (l + r) / 2 = m at hl hm ⊢
  have hmr := Nat.lt_of_lt_of_le hm b2
  have gm : run[m]? = some run[m] := List.getElem?_eq_getElem hmr
  generalize run[m] = e at gm
  have gm' : (arrOf st).toList[pre.length + m]? = some e := by
   rw [ha, get_off, List.getElem?_append_left hmr]; exact gm
  have gk : (arrOf st).toList[pre.length + run.length]? = some x := by
   rw [ha, get_off]; exact at_mid _ _ _
  obtain ⟨w1, w2⟩ := srt_le C.ord sr gm
  refine wpS_bind (wpS_ltAt C gk gm' hu hk (wpS_ite (fun p => ?_) fun p => ?_))
  ·exact wpS_pure (.go l m ⟨hl, Nat.le_of_lt hmr, by lia, b4, fun a ha => C.ord.lt_le p (w2 a ha)⟩)
  ·exact wpS_pure (.go (m + 1) r ⟨hm, b2, by lia, fun a ha => C.ord.trans _ _ _ (w1 a ha) (eq_false_of_ne_true p), b5⟩)
inductive BsR (L : Keyed → Keyed → Bool) (st0 : SortSt) (pre : List Keyed) (N k : Nat) : ForInStep (Option Bool × PUnit) → SortSt → Prop
 | go (run t : List Keyed) (u : PUnit) (st : SortSt) : BsI L st0 pre N k run t st → BsR L st0 pre N k (.yield (none, u)) st
theorem wpS_bsB (C : Cmp M A E s κ U L) {pre run t : List Keyed} {x : Keyed} {N : Nat} {st0 st : SortSt} (hu : ∀ x ∈ (arrOf st0).toList, U x) (hk : kindOf st0 = κ) (I : BsI L st0 pre N run.length run (x :: t) st) : wpS M A E s (bsB pre.length run.length) (BsR L st0 pre N (run.length + 1)) st := by
 obtain ⟨S1, a1, s1, _, tot⟩ := I
 refine wpS_bind (wpS_mono (Q := BiP L run x st) (wpS_forRange (fun j => BiJ L run x j st) ?_ ?_ (.mk 0 run.length ⟨Nat.zero_le _, Nat.le_refl _, Nat.le_refl _, fun a ha => (nomatch ha), fun a ha => by rw [List.drop_length] at ha; cases ha⟩)) ?_)
 ·rintro j _ _ _ hj ⟨l, r, I⟩
  refine wpS_mono (wpS_biB C a1 s1 (S1.u hu) (S1.kind.trans hk) I) fun r st' h => ?_
  cases h with
  | done l r h1 h2 h3 => exact .mk l r h1 h2 h3
  | go l r I => exact .mk l r I
 ·rintro _ _ ⟨l, r, ⟨b1, b2, b3, b4, b5⟩⟩
  rw [Nat.max_eq_right (Nat.zero_le _), Nat.add_comm l] at b3
  cases Nat.le_antisymm b1 (Nat.le_of_add_le_add_left b3)
  exact .mk l l b2 b4 b5
 ·rintro _ _ ⟨l, r, b1, b4, b5⟩
  have hl : (run.take l).length = l := by rw [List.length_take]; exact Nat.min_eq_left b1
  have lr : l + (run.drop l).length = run.length := by rw [List.length_drop]; exact Nat.add_sub_cancel' b1
  refine wpS_bind (wpS_moveDown (p := pre ++ run.take l) (b := run.drop l) (x := x) (t := t) (by rw [a1, List.append_assoc, ← List.append_assoc (run.take l), List.take_append_drop]) (by rw [List.length_append, hl]) (by rw [List.length_append, hl, Nat.add_assoc, lr]) fun st3 S3 a3 => ?_)
  have ln : (run.take l ++ x :: run.drop l).length = run.length + 1 := by rw [List.length_append, List.length_cons, hl, ← Nat.add_assoc, lr]
  refine wpS_pure (.go (run.take l ++ x :: run.drop l) t _ st3 ⟨S1.trans S3, by rw [a3, List.append_assoc, List.append_assoc]; rfl, ?_, ln, by rw [ln, ← tot, List.length_cons, Nat.add_assoc, Nat.add_comm 1]⟩)
  rw [← List.take_append_drop l run] at s1
  obtain ⟨q1, q2, q3⟩ := List.pairwise_append.mp s1
  refine List.pairwise_append.mpr ⟨q1, List.pairwise_cons.mpr ⟨fun a ha => C.ord.asym _ _ (b5 a ha), q2⟩, fun a ha b hb => ?_⟩
  rcases List.mem_cons.mp hb with rfl | hb
  ·exact b4 a ha
  ·exact q3 a ha b hb
theorem wpS_binarySort (C : Cmp M A E s κ U L) {pre run t : List Keyed} {lo n ok : Nat} {st : SortSt} {Q : Bool → SortSt → Prop} (ha : (arrOf st).toList = pre ++ (run ++ t)) (hlo : lo = pre.length) (hok : ok = run.length) (h1 : run ≠ []) (h2 : run.length ≤ n) (hn : n ≤ run.length + t.length) (sr : Srt L run) (hu : ∀ x ∈ (arrOf st).toList, U x) (hk : kindOf st = κ)
  (hQ : ∀ st' run' t', Ch st st' → (arrOf st').toList = pre ++ (run' ++ t') → run'.length = n → Srt L run' → Q true st') : wpS M A E s (binarySortP lo n ok) Q st := by
 rw [binarySortP_eq]
 have e1 : max run.length 1 = run.length := Nat.max_eq_left (List.length_pos_iff.mpr h1)
 subst hlo; subst hok
 rw [e1]
 refine wpS_bind (wpS_mono (Q := BsJ L st pre (run.length + t.length) n) (wpS_forRange (fun k => BsJ L st pre (run.length + t.length) k) ?_ ?_ (.mk run t _ st ⟨.refl _, ha, sr, rfl, rfl⟩)) ?_)
 ·rintro k _ st1 hk1 hk2 ⟨run1, t1, _, _, I⟩
  cases I.len
  cases t1 with
  | nil => exact absurd I.tot (Nat.ne_of_lt (Nat.lt_of_lt_of_le hk2 hn))
  | cons x t1 =>
   refine wpS_mono (wpS_bsB C hu hk I) fun r st' h => ?_
   cases h with
   | go run t u _ I => exact .mk run t u st' I
 ·rintro _ st1 ⟨run1, t1, u, _, I⟩
  rw [Nat.max_eq_right h2] at I
  exact .mk run1 t1 u st1 I
 ·rintro _ st1 ⟨run1, t1, u, _, I⟩
  exact wpS_pure (hQ st1 run1 t1 I.S I.arr I.len I.srt)
structure Rn (L : Keyed → Keyed → Bool) (κ : SortKind) (a₀ : List Keyed) (st : SortSt) (segs : List (List Keyed)) (rest : List Keyed) : Prop where
 runs : Runs L st segs rest
 perm : (arrOf st).toList.Perm a₀
 kind : kindOf st = κ
 fail : failedOf st = none
theorem Rn.size {a₀ : List Keyed} {st : SortSt} {segs : List (List Keyed)} {rest : List Keyed} (h : Rn L κ a₀ st segs rest) : (arrOf st).size = a₀.length := by rw [← Array.length_toList]; exact h.perm.length_eq
theorem Rn.u {a₀ : List Keyed} {st : SortSt} {segs : List (List Keyed)} {rest : List Keyed} (h : Rn L κ a₀ st segs rest) (hu : ∀ x ∈ a₀, U x) : ∀ x ∈ (arrOf st).toList, U x := fun y hy => hu y (h.perm.mem_iff.mp hy)
theorem Rn.pendSize {a₀ : List Keyed} {st : SortSt} {segs : List (List Keyed)} {rest : List Keyed} (h : Rn L κ a₀ st segs rest) : (pendingOf st).size = segs.length := by
 have := congrArg List.length h.runs.pend
 rw [List.length_map, starts_length, Array.length_toList] at this; exact this
theorem Rn.tot {a₀ : List Keyed} {st : SortSt} {segs : List (List Keyed)} {rest : List Keyed} (h : Rn L κ a₀ st segs rest) : segs.flatten.length + rest.length = a₀.length := by
 rw [← List.length_append, ← h.runs.arr]; exact h.perm.length_eq
inductive SrJ (L : Keyed → Keyed → Bool) (κ : SortKind) (a₀ : List Keyed) (j : Nat) : Option Unit × Nat → SortSt → Prop
 | start (st : SortSt) : j = 0 → Rn L κ a₀ st [] (arrOf st).toList → SrJ L κ a₀ j (none, 0) st
 | fin (st : SortSt) (segs : List (List Keyed)) : segs.length ≤ 1 → Rn L κ a₀ st segs [] → SrJ L κ a₀ j (none, a₀.length) st
inductive SrQ (L : Keyed → Keyed → Bool) (κ : SortKind) (a₀ : List Keyed) : Option Unit × Nat → SortSt → Prop
 | mk (lo : Nat) (segs : List (List Keyed)) (st : SortSt) : segs.length ≤ 1 → Rn L κ a₀ st segs [] → SrQ L κ a₀ (none, lo) st
inductive SrR (L : Keyed → Keyed → Bool) (κ : SortKind) (a₀ : List Keyed) (j : Nat) : SF → SortSt → Prop
 | done (c) (st) : SrQ L κ a₀ c st → SrR L κ a₀ j (.done c) st
 | go (c) (st) : SrJ L κ a₀ j c st → SrR L κ a₀ j (.yield c) st
theorem wpS_srPush {a₀ run : List Keyed} {j : Nat} {st : SortSt} (R : Rn L κ a₀ st [] run) (ne : run ≠ []) (sr : Srt L run) : wpS M A E s (srPush 0 run.length) (SrR L κ a₀ j) st := by
 have e : 0 + run.length = a₀.length := R.tot
 refine wpS_bind (wpS_modify (wpS_pure ?_))
 rw [e]
 refine .go _ _ (.fin _ [run] (Nat.le_refl _) ⟨⟨?_, fun g hg => ?_, ?_⟩, R.perm, R.kind, R.fail⟩)
 ·refine R.runs.arr.trans ?_
  rw [List.flatten_cons, List.flatten_nil, List.append_nil, List.append_nil, List.nil_append]
 ·rw [List.mem_singleton.mp hg]
  exact ⟨ne, sr⟩
 ·refine (congrArg (List.map _) (Array.toList_push ..)).trans ?_
  rw [List.map_append, R.runs.pend]
  rfl
theorem wpS_srJp {a₀ run : List Keyed} {size j : Nat} {st : SortSt} (R : Rn L κ a₀ st [] run) (ne : run ≠ []) (sr : Srt L run) : wpS M A E s (srJp size 0 run.length) (SrR L κ a₀ j) st := by
 refine wpS_bind (wpS_get ?_)
 have hp : pendingOf st = #[] := Array.eq_empty_of_size_eq_zero R.pendSize
 split
 case h_2 => exact wpS_srPush R ne sr
 case h_1 hx => rw [hp] at hx; cases hx
theorem wpS_srBody (C : Cmp M A E s κ U L) {a₀ : List Keyed} (hu : ∀ x ∈ a₀, U x) {size j : Nat} {st : SortSt} (hsz : size = a₀.length) (h1 : 1 ≤ size) (R : Rn L κ a₀ st [] (arrOf st).toList) : wpS M A E s (srBody size size 0) (SrR L κ a₀ j) st := by
 refine wpS_ite (fun hge => absurd hge (Nat.not_le.mpr h1)) fun hge => ?_
 have hr : size - 0 = (arrOf st).toList.length := by rw [hsz]; exact R.perm.length_eq.symm
 refine wpS_bind (wpS_countRun C (pre := []) (tl := (arrOf st).toList) rfl rfl hr (fun e => by rw [e] at hr; rw [Nat.sub_zero] at hr; rw [hr] at h1; cases h1) (R.u hu) R.kind fun st2 run rest2 S2 a2 ne2 s2 => ?_)
 have len : ∀ {st3 : SortSt} {run3 rest3 : List Keyed}, Ch st st3 → (arrOf st3).toList = [] ++ (run3 ++ rest3) → run3.length + rest3.length = size := fun {st3 run3 rest3} S3 a3 => by
  have := S3.perm.length_eq
  rw [a3, List.nil_append, List.length_append, ← hr] at this
  exact this
 have key : ∀ {st3 : SortSt} {run3 rest3 : List Keyed}, Ch st st3 → (arrOf st3).toList = [] ++ (run3 ++ rest3) → size ≤ run3.length → Rn L κ a₀ st3 [] run3 := fun {st3 run3 rest3} S3 a3 h => by
  have := len S3 a3
  have e : rest3 = [] := List.eq_nil_of_length_eq_zero (by omega)
  rw [e, List.append_nil] at a3
  exact ⟨⟨a3, fun g hg => (nomatch hg), by rw [S3.pend]; exact R.runs.pend⟩, S3.perm.trans R.perm, S3.kind.trans R.kind, S3.fail.trans R.fail⟩
 refine wpS_ite (fun cm => ?_) fun cm => wpS_srJp (key S2 a2 (Nat.not_lt.mp cm)) ne2 s2
 have len2 := len S2 a2
 have hmin : min (size - 0) size = size := Nat.min_self _
 rw [hmin]
 refine wpS_bind (wpS_rule (wpS_bind (wpS_binarySort C (pre := []) (run := run) (t := rest2) a2 rfl rfl ne2 (Nat.le_of_lt cm) (by omega) s2 (S2.u (R.u hu)) (S2.kind.trans R.kind) fun st3 run3 rest3 S3 a3 l3 s3 => ?_)))
 have hk := key (S2.trans S3) a3 (Nat.le_of_eq l3.symm)
 rw [← l3] at h1 ⊢
 exact wpS_srJp hk (List.length_pos_iff.mp h1) s3
inductive SeJ (L : Keyed → Keyed → Bool) (κ : SortKind) (a₀ : List Keyed) : Option Unit × Unit → SortSt → Prop
 | mk (st : SortSt) (segs : List (List Keyed)) : Rn L κ a₀ st segs [] → segs.length ≤ 1 → SeJ L κ a₀ (none, ()) st
theorem Rn.last {a₀ : List Keyed} {st : SortSt} {segs : List (List Keyed)} (R : Rn L κ a₀ st segs []) (h1 : 1 ≤ a₀.length) (hl : segs.length ≤ 1) : Srt L (arrOf st).toList := by
 have tot := R.tot
 rw [R.runs.arr, List.append_nil]
 cases segs with
 | nil => rw [← tot] at h1; cases h1
 | cons g r => cases r with
  | nil => rw [List.flatten_cons, List.flatten_nil, List.append_nil]; exact (R.runs.srt g (.head _)).2
  | cons => exact absurd hl (Nat.not_le.mpr (Nat.succ_lt_succ (Nat.succ_pos _)))
theorem wpS_srEnd {a₀ : List Keyed} {size : Nat} {st : SortSt} {segs : List (List Keyed)} {Q : Unit → SortSt → Prop} (h1 : 1 ≤ a₀.length) (R : Rn L κ a₀ st segs []) (hl : segs.length ≤ 1)
  (hQ : ∀ st', (arrOf st').toList.Perm a₀ → Srt L (arrOf st').toList → failedOf st' = none → Q () st') : wpS M A E s (srEnd size) Q st := by
 refine wpS_bind (wpS_mono (Q := SeJ L κ a₀) (wpS_forRange (fun _ => SeJ L κ a₀) ?_ (fun c st' h => h) (.mk st segs R hl)) ?_)
 ·rintro _ _ _ _ _ ⟨st1, segs1, R1, hl1⟩
  refine wpS_bind (wpS_get (wpS_ite (fun c => wpS_pure (.mk _ segs1 R1 hl1)) fun c => absurd ?_ c))
  rw [R1.pendSize]; exact hl1
 ·rintro _ st1 ⟨_, segs1, R1, hl⟩
  exact wpS_pure (hQ st1 R1.perm (R1.last h1 hl) R1.fail)
theorem wpS_sortRuns (C : Cmp M A E s κ U L) {st : SortSt} {Q : Unit → SortSt → Prop} (hu : ∀ x ∈ (arrOf st).toList, U x) (hk : kindOf st = κ) (hf : failedOf st = none) (hp : pendingOf st = #[]) (h1 : 1 ≤ (arrOf st).size) (h64 : (arrOf st).size < 64)
  (hQ : ∀ st', (arrOf st').toList.Perm (arrOf st).toList → Srt L (arrOf st').toList → failedOf st' = none → Q () st') : wpS M A E s sortRunsP Q st := by
 rw [sortRunsP_eq]
 refine wpS_bind (wpS_get ?_)
 have hsz := (Array.length_toList (xs := arrOf st)).symm
 generalize (arrOf st).size = size at h1 h64 hsz ⊢
 have hm : minRunP size size 0 = size := by
  obtain ⟨n, rfl⟩ : ∃ n, size = n + 1 := ⟨size - 1, by omega⟩
  show (if n + 1 < 64 then n + 1 + 0 else minRunP n ((n + 1) / 2) (max 0 ((n + 1) % 2))) = n + 1
  rw [if_pos h64]
 rw [hm]
 have R0 : Rn L κ (arrOf st).toList st [] (arrOf st).toList := ⟨⟨rfl, fun g hg => (by cases hg), (by rw [hp]; rfl)⟩, .refl _, hk, hf⟩
 refine wpS_bind (wpS_mono (Q := SrQ L κ (arrOf st).toList) (wpS_forRange (fun j => SrJ L κ (arrOf st).toList j) ?_ ?_ (.start st rfl R0)) ?_)
 ·intro j c st1 _ _ h
  cases h with
  | start st1 hj R =>
   refine wpS_mono (wpS_srBody (j := j + 1) C hu hsz h1 R) fun r st' h => ?_
   cases h with
   | done _ _ h => exact h
   | go _ _ h => exact h
  | fin st1 segs hl R =>
   exact wpS_ite (fun _ => wpS_pure (.mk _ segs _ hl R)) fun h => absurd (Nat.le_of_eq hsz) h
 ·intro c st1 h
  cases h with
  | start st1 hj R => exact absurd (Nat.le_trans h1 (Nat.le_trans (Nat.le_max_right 0 size) (Nat.le_of_eq hj))) (by decide)
  | fin st1 segs hl R => exact .mk _ segs _ hl R
 ·rintro _ _ ⟨lo, segs, st1, hl, R⟩
  exact wpS_srEnd (by rw [← hsz]; exact h1) R hl hQ
end
end Mine
end
-- text T9
section
namespace Mine
open PySem PyProof.Rows PySem.AutoSeq1
section
variable {prog : Program} {w : World} {A : Around} {E : Value → Shared → Prop} {s : Shared}
end
end Mine
end
-- text T10
section
namespace Mine
open PySem PyProof.Rows
theorem ltS_ord : Ord ltS := by
 refine ⟨fun x y h => ?_, fun x y z h1 h2 => ?_⟩
 ·unfold ltS at *
  have h := of_decide_eq_true h
  exact decide_eq_false (List.lt_asymm h)
 ·unfold ltS at *
  have h1 : ¬ y.cps.toList < x.cps.toList := of_decide_eq_false h1
  have h2 : ¬ z.cps.toList < y.cps.toList := of_decide_eq_false h2
  refine decide_eq_false ?_
  exact List.not_lt.mpr (List.le_trans (List.not_lt.mp h1) (List.not_lt.mp h2))
theorem ltS_tri {x y : Str} (h : ltS x y = false) (h' : ltS y x = false) : x = y := by
 unfold ltS at *
 have h1 : ¬ x.cps.toList < y.cps.toList := of_decide_eq_false h
 have h2 : ¬ y.cps.toList < x.cps.toList := of_decide_eq_false h'
 have e : x.cps.toList = y.cps.toList := List.le_antisymm (List.not_lt.mp h2) (List.not_lt.mp h1)
 cases x; cases y; simp only [Str.mk.injEq]; exact Array.toList_inj.mp e
theorem ltL_tri : ∀ {x y : List Str}, ltL x y = false → ltL y x = false → x = y
 | [], [], _, _ => rfl
 | [], b :: q, h, _ => by simp [ltL] at h
 | a :: r, [], _, h => by simp [ltL] at h
 | a :: r, b :: q, h1, h2 => by
  by_cases e : a = b
  ·subst e
   simp only [ltL, if_true] at h1 h2
   rw [ltL_tri h1 h2]
  ·have e' : ¬ b = a := fun q => e q.symm
   simp only [ltL, e, e', if_false] at h1 h2
   exact absurd (ltS_tri h1 h2) e
theorem ltL_asym : ∀ x y : List Str, ltL x y = true → ltL y x = false
 | [], [], h => by simp [ltL] at h
 | [], b :: q, _ => rfl
 | a :: r, [], h => by simp [ltL] at h
 | a :: r, b :: q, h => by
  by_cases e : a = b
  ·subst e
   simp only [ltL, if_true] at h ⊢
   exact ltL_asym r q h
  ·have e' : ¬ b = a := fun q => e q.symm
   simp only [ltL, e, e', if_false] at h ⊢
   exact ltS_ord.asym _ _ h
theorem ltL_trans : ∀ x y z : List Str, ltL y x = false → ltL z y = false → ltL z x = false
 | [], _, [], _, _ => rfl
 | x, [], z, h1, h2 => by
  cases x with
  | nil => cases z with
   | nil => rfl
   | cons => rfl
  | cons a r => simp [ltL] at h1
 | [], b :: q, c :: p, _, _ => rfl
 | a :: r, b :: q, [], _, h2 => by simp [ltL] at h2
 | a :: r, b :: q, c :: p, h1, h2 => by
  by_cases e1 : b = a
  ·subst e1
   by_cases e2 : c = b
   ·subst e2
    simp only [ltL, if_true] at h1 h2 ⊢
    exact ltL_trans r q p h1 h2
   ·simp only [ltL, e2, if_false] at h2 ⊢; exact h2
  ·simp only [ltL, e1, if_false] at h1
   by_cases e2 : c = b
   ·subst e2
    simp only [ltL, e1, if_false]; exact h1
   ·simp only [ltL, e2, if_false] at h2
    by_cases e3 : c = a
    ·subst e3
     exact absurd (ltS_tri h2 h1) e2
    ·simp only [ltL, e3, if_false]
     exact ltS_ord.trans _ _ _ h1 h2
noncomputable def ltK (x y : Int × List Str) : Bool := if x.1 = y.1 then ltL x.2 y.2 else decide (x.1 < y.1)
theorem ltK_ord : Ord ltK := by
 refine ⟨fun x y h => ?_, fun x y z h1 h2 => ?_⟩
 ·unfold ltK at *
  by_cases e : x.1 = y.1
  ·rw [if_pos e] at h; rw [if_pos e.symm]; exact ltL_asym _ _ h
  ·rw [if_neg e] at h; rw [if_neg fun q => e q.symm]
   have := of_decide_eq_true h
   exact decide_eq_false (by omega)
 ·unfold ltK at *
  by_cases e1 : y.1 = x.1
  ·rw [if_pos e1] at h1
   by_cases e2 : z.1 = y.1
   ·rw [if_pos e2] at h2; rw [if_pos (e2.trans e1)]; exact ltL_trans _ _ _ h1 h2
   ·rw [if_neg e2] at h2; rw [if_neg fun q => e2 (q.trans e1.symm)]
    have := of_decide_eq_false h2
    exact decide_eq_false (by omega)
  ·rw [if_neg e1] at h1
   have w1 := of_decide_eq_false h1
   by_cases e2 : z.1 = y.1
   ·rw [if_neg fun q => e1 (e2.symm.trans q)]
    exact decide_eq_false (by omega)
   ·rw [if_neg e2] at h2
    have w2 := of_decide_eq_false h2
    by_cases e3 : z.1 = x.1
    ·omega
    ·rw [if_neg e3]; exact decide_eq_false (by omega)
theorem Ord.on {α β : Type} {L : α → α → Bool} (h : Ord L) (f : β → α) : Ord fun x y => L (f x) (f y) := ⟨fun x y => h.asym _ _, fun x y z => h.trans _ _ _⟩
section
variable {prog : Program} {w : World} {A : Around} {E : Value → Shared → Prop} {s : Shared}
theorem wpS_lt {κ : SortKind} {x y : Keyed} {c : Bool} {st : SortSt} {Q : Option Bool → SortSt → Prop} (hk : kindOf st = κ) (h : ∀ (Q' : Bool → Shared → Prop) (E' : Value → Shared → Prop), Q' c s → wpAny (model prog w) A (keyLt' κ x.1 y.1) Q' E' s) (hQ : Q (some c) st) :
  wpS (model prog w) A E s (lt' x y) Q st := by
 rw [lt'_eq]
 refine wpS_bind (wpS_get ?_)
 rw [hk]
 refine wpS_bind (wpS_lift (wpAny_attempt (h _ _ ⟨rfl, ?_⟩)))
 exact wpS_pure hQ
noncomputable def strOf : Value → Str
 | .str x _ => x
 | _ => Str.empty
noncomputable def UStr (x : Keyed) : Prop := ∃ a t, x.1 = .str a t
theorem cmpS : Cmp (model prog w) A E s oneType' UStr (fun x y => ltS (strOf x.1) (strOf y.1)) := by
 refine ⟨ltS_ord.on (fun x : Keyed => strOf x.1), ?_⟩
 rintro ⟨x, x'⟩ ⟨y, y'⟩ ⟨a, t, e1⟩ ⟨b, u, e2⟩ st Q hk hQ
 dsimp only at e1 e2
 subst e1; subst e2
 refine wpS_lt hk (fun Q' E' hq => ?_) hQ
 rw [keyLt'_oneType]
 exact oneLt_str hq
noncomputable def intOf : Value → Int
 | .int i _ => i
 | _ => 0
noncomputable def UInt (x : Keyed) : Prop := ∃ a t, x.1 = .int a t
theorem cmpI : Cmp (model prog w) A E s oneType' UInt (fun x y => decide (intOf x.1 < intOf y.1)) := by
 refine ⟨⟨fun x y h => ?_, fun x y z h1 h2 => ?_⟩, ?_⟩
 ·have := of_decide_eq_true h; exact decide_eq_false (by omega)
 ·have w1 := of_decide_eq_false h1; have w2 := of_decide_eq_false h2; exact decide_eq_false (by omega)
 rintro ⟨x, x'⟩ ⟨y, y'⟩ ⟨a, t, e1⟩ ⟨b, u, e2⟩ st Q hk hQ
 dsimp only at e1 e2
 subst e1; subst e2
 refine wpS_lt hk (fun Q' E' hq => ?_) hQ
 rw [keyLt'_oneType]
 exact oneLt_int hq
end
end Mine
end
-- text T11
section
namespace Mine
open PySem PyProof.Rows
section
variable {prog : Program} {w : World} {A : Around} {E : Value → Shared → Prop} {s : Shared}
theorem sort_keeps {h : Heap} {a : Addr} {vs : List Value} {out : Array Value} {n : Nat} (ho : h.get? a = some (seqObj "list" vs.toArray n)) : (∀ b o, b ≠ a → h.get? b = some o → (sortedHeap h a vs out).get? b = some o) ∧ ∃ e, (sortedHeap h a vs out).get? a = some (seqObj "list" out e) := by
 have ha : a < h.objs.size := Heap.lt_size ho
 obtain ⟨e1, ho1⟩ : ∃ e1, (h.update a (Obj.mapSeq fun _ => #[])).get? a = some (seqObj "list" #[] e1) := ⟨_, get?_update_seq ho (fun _ => #[])⟩
 have ho6 : (((h.update a (Obj.mapSeq fun _ => #[])).push (seqObj "tuple" vs.toArray 0)).push (seqObj "list" #[] 0)).get? a = some (seqObj "list" #[] e1) := by
  rw [Heap.get?_push_ne _ _ _ (by rw [size_push', Heap.size_update]; exact Nat.ne_of_lt (Nat.lt_succ_of_lt ha)), Heap.get?_push_ne _ _ _ (by rw [Heap.size_update]; exact Nat.ne_of_lt ha)]
  exact ho1
 refine ⟨fun b o hb e => ?_, _, get?_update_seq ho6 fun _ => out⟩
 unfold sortedHeap
 rw [(Heap.SameBut.update _ a _).2 b hb]
 exact Heap.get?_push_of_some _ (Heap.get?_push_of_some _ (by rw [(Heap.SameBut.update _ a _).2 b hb]; exact e))
theorem zip_self {α : Type} : ∀ vs : List α, vs.zip vs = vs.map fun v => (v, v)
 | [] => rfl
 | v :: r => by simp [zip_self r]
theorem list_sort_any {κ : SortKind} {L : Keyed → Keyed → Bool} {a : Addr} {vs : List Value} {n : Nat} {P : PySem.Fin → Shared → Prop} (ho : s.heap.get? a = some (seqObj "list" vs.toArray n))
  (hkk : ∀ s' : Shared, (∀ b o, b ≠ a → s.heap.get? b = some o → s'.heap.get? b = some o) → 2 ≤ vs.length → ∀ Q : SortKind → Shared → Prop, Q κ s' → wpAny (model prog w) A (keyKind' vs.toArray) Q E s')
  (hC : ∀ s' : Shared, (∀ b o, b ≠ a → s.heap.get? b = some o → s'.heap.get? b = some o) → ∃ U' : Keyed → Prop, (∀ v ∈ vs, U' (v, v)) ∧ Cmp (model prog w) A E s' κ U' L) (hsz0 : vs.length < 64)
  (h : ∀ ws : List Value, ws.Perm vs → Srt (fun v u => L (v, v) (u, u)) ws → P (.done (.ret .none)) { s with heap := sortedHeap s.heap a vs ws.toArray }) :
  wpAny (model prog w) A (Builtin.«list.sort» ⟨[.ref a], []⟩) P E s := by
 rw [list_sort_plain]
 have ha : a < s.heap.objs.size := Heap.lt_size ho
 have hsz9 : vs.length ≤ sizeLine := Nat.le_trans (Nat.le_of_lt hsz0) (Nat.le_of_ble_eq_true rfl)
 refine wpAny_bind (listItems_at ho rfl ?_)
 refine wpAny_bind (listUpdate_at ho rfl ?_)
 obtain ⟨e1, ho1⟩ : ∃ e1, (s.heap.update a (Obj.mapSeq fun _ => #[])).get? a = some (seqObj "list" #[] e1) := ⟨_, get?_update_seq ho (fun _ => #[])⟩
 refine wpAny_bind (seqEpoch_at ho1 rfl ?_)
 refine wpAny_bind (wpAny_newTuple ?_)
 refine wpAny_bind (wpAny_newList ?_)
 refine wpAny_holding ?_
 have ho6 : (((s.heap.update a (Obj.mapSeq fun _ => #[])).push (seqObj "tuple" vs.toArray 0)).push (seqObj "list" #[] 0)).get? a = some (seqObj "list" #[] e1) := by
  rw [Heap.get?_push_ne _ _ _ (by rw [size_push', Heap.size_update]; exact Nat.ne_of_lt (Nat.lt_succ_of_lt ha)), Heap.get?_push_ne _ _ _ (by rw [Heap.size_update]; exact Nat.ne_of_lt ha)]
  exact ho1
 show wpAny (model prog w) A _ P E { s with heap := ((s.heap.update a (Obj.mapSeq fun _ => #[])).push (seqObj "tuple" vs.toArray 0)).push (seqObj "list" #[] 0) }
 dsimp only
 have hsz : vs.toArray.size = vs.length := by simp
 have kp : ∀ b o, b ≠ a → s.heap.get? b = some o → ({ s with heap := ((s.heap.update a (Obj.mapSeq fun _ => #[])).push (seqObj "tuple" vs.toArray 0)).push (seqObj "list" #[] 0) } : Shared).heap.get? b = some o := fun b o hb e =>
  Heap.get?_push_of_some _ (Heap.get?_push_of_some _ (by rw [(Heap.SameBut.update _ a _).2 b hb]; exact e))
 have fin : ∀ st' : SortSt, (arrOf st').toList.Perm (pairsOf vs).toList → Srt L (arrOf st').toList → P (.done (.ret .none)) { s with heap := sortedHeap s.heap a vs ((arrOf st').map (·.2)) } := by
  intro st' hp hs
  have hpp : (pairsOf vs).toList = vs.map fun v => (v, v) := by
   rw [pairsOf_toList]; exact zip_self vs
  have same : ∀ x ∈ (arrOf st').toList, x = (x.2, x.2) := fun x hx => by
   have := hp.mem_iff.mp hx
   rw [hpp] at this
   obtain ⟨v, _, rfl⟩ := List.mem_map.mp this
   rfl
  have e : (arrOf st').map (·.2) = ((arrOf st').toList.map (·.2)).toArray := by
   apply Array.toList_inj.mp; simp
  rw [e]
  refine h _ ?_ ?_
  ·have := hp.map (·.2)
   rw [hpp, List.map_map] at this
   have e2 : List.map ((fun x : Keyed => x.2) ∘ fun v => (v, v)) vs = vs := by
    rw [show ((fun x : Keyed => x.2) ∘ fun v : Value => (v, v)) = id from rfl, List.map_id]
   rw [e2] at this; exact this
  ·refine List.pairwise_map.mpr (List.Pairwise.imp_of_mem (fun {x y} hx hy hxy => ?_) hs)
   show L (y.2, y.2) (x.2, x.2) = false
   rw [← same x hx, ← same y hy]; exact hxy
 by_cases h2 : vs.toArray.size < 2
 ·rw [if_pos h2, if_pos h2]
  refine wpAny_bind (wpAny_pure ?_)
  rw [StateT.run_pure]
  refine wpAny_bind (wpAny_pure ?_)
  dsimp only
  refine wpAny_bind (seqEpoch_at ho6 rfl ?_)
  refine wpAny_bind (listUpdate_at ho6 rfl ?_ (hsz2 := by rw [Array.size_map]; show (pairsOf vs).size ≤ _; rw [pairsOf_size, sizeLine_eq]; lia))
  simp only [bne_self_eq_false, Bool.false_eq_true, if_false]
  refine wpAny_pure (fin (SortSt.mk' general' (vs.toArray.zip vs.toArray) #[] 7 none) (List.Perm.refl _) ?_)
  show Srt L (pairsOf vs).toList
  rw [pairsOf_toList]
  rw [zip_self]
  clear hkk hC h fin kp ho6 ho
  match vs, hsz, h2 with
  | [], _, _ => exact .nil
  | [v], _, _ => exact List.pairwise_singleton _ _
  | v₁ :: v₂ :: rest, _, h2 => simp at h2; lia
 ·rw [if_neg h2, if_neg h2]
  refine wpAny_bind (hkk _ kp (by lia) _ ?_)
  obtain ⟨U', hU, hCm⟩ := hC _ kp
  refine wpAny_bind (wpAny_mono (wpS_sortRuns hCm (st := SortSt.mk' κ (vs.toArray.zip vs.toArray) #[] 7 none)
   (Q := fun _ st' => (arrOf st').toList.Perm (pairsOf vs).toList ∧ Srt L (arrOf st').toList ∧ failedOf st' = none) ?_ rfl rfl rfl ?_ (by show (pairsOf vs).size < 64; rw [pairsOf_size]; exact hsz0) fun st' a1 a2 a3 => ⟨a1, a2, a3⟩) ?_ fun _ _ e => e)
  ·intro x hx
   have hx' : x ∈ (pairsOf vs).toList := hx
   rw [pairsOf_toList] at hx'
   obtain ⟨q1, q2⟩ := mem_zip_self hx'
   obtain ⟨x1, x2⟩ := x
   dsimp only at q1 q2
   subst q1
   exact hU _ q2
  ·show 1 ≤ (pairsOf vs).size
   rw [pairsOf_size]; lia
  rintro ⟨⟨⟩, st'⟩ s' ⟨rfl, hp, hs, hf⟩
  dsimp only
  refine wpAny_bind (seqEpoch_at ho6 rfl ?_)
  refine wpAny_bind (listUpdate_at ho6 rfl ?_ (hsz2 := by
   have := hp.length_eq
   rw [Array.length_toList, Array.length_toList, pairsOf_size] at this
   refine Nat.le_trans (Nat.le_of_eq ((Array.size_map ..).trans this)) ?_; lia))
  rw [hf]
  simp only [bne_self_eq_false, Bool.false_eq_true, if_false]
  exact wpAny_pure (fin st' hp hs)
theorem sorted_any {κ : SortKind} {L : Keyed → Keyed → Bool} {v : Value} {Q : Value → Shared → Prop}
  (hcol : ∀ A' : Around, A'.handled = A.handled → A'.units ≤ A.units + 10 → wpAny (model prog w) A' (collect v) (fun vs s1 => (∀ b o, s.heap.get? b = some o → s1.heap.get? b = some o) ∧ s1.gens = s.gens ∧ s1.os = s.os ∧ vs.length < 64 ∧
   (∀ A'' : Around, A''.units ≤ A.units + 20 → ∀ s' : Shared, (∀ b o, s1.heap.get? b = some o → s'.heap.get? b = some o) → 2 ≤ vs.length → ∀ (Q : SortKind → Shared → Prop) (E : Value → Shared → Prop), Q κ s' → wpAny (model prog w) A'' (keyKind' vs.toArray) Q E s') ∧
   (∀ A'' : Around, A''.units ≤ A.units + 20 → ∀ s' : Shared, (∀ b o, s1.heap.get? b = some o → s'.heap.get? b = some o) → ∀ E : Value → Shared → Prop, ∃ U' : Keyed → Prop, (∀ v ∈ vs, U' (v, v)) ∧ Cmp (model prog w) A'' E s' κ U' L) ∧
   (∀ ws : List Value, ws.Perm vs → Srt (fun v u => L (v, v) (u, u)) ws → ∀ s2 D e, s.heap.get? D = none → (∀ b o, s.heap.get? b = some o → s2.heap.get? b = some o) → s2.gens = s.gens → s2.os = s.os → s2.heap.get? D = some { cls := .type "list", data := .seq ws.toArray e } → Q (.ref D) s2)) E s) :
  wpAny (model prog w) A (call (.builtin "sorted") [v]) Q E s := by
 refine Calls.call_function_entry kind_sorted plain_sorted entry_sorted (args_sorted1 _) ?_
 unfold Builtin.«sorted»
 refine wpAny_bind (m := checkCount "sorted" 1 1 _) (wpAny_pure ?_)
 refine wpAny_bind (wpAny_mono (hcol _ ?_ ?_) ?_ fun _ _ x => x)
 ·simp
 ·simp
 rintro vs s1 ⟨k1, g1, o1, hz, hkk, hC, hfin⟩
 refine wpAny_bind (wpAny_newList ?_)
 have hoL : (s1.heap.push { cls := .type "list", data := .seq vs.toArray }).get? s1.heap.objs.size = some (seqObj "list" vs.toArray 0) := Heap.get?_push_size _ rfl
 have old : ∀ b o, s1.heap.get? b = some o → b ≠ s1.heap.objs.size ∧ (s1.heap.push { cls := .type "list", data := .seq vs.toArray }).get? b = some o := fun b o e => ⟨Nat.ne_of_lt (Heap.lt_size e), Heap.get?_push_of_some _ e⟩
 refine wpAny_bind (wpAny_holding (wpAny_call_entry slot_list_sort ⟨_, hoL, rfl⟩ entry_list_sort (list_sort_any (κ := κ) (L := L) hoL (fun s' k h2 Q' hq => ?_) (fun s' k => ?_) hz fun ws hp hs => ⟨_, rfl, ?_⟩) (args_list_sort _)))
 ·exact hkk _ (by simp) s' (fun b o e => k b o (old b o e).1 (old b o e).2) h2 Q' _ hq
 ·exact hC _ (by simp) s' (fun b o e => k b o (old b o e).1 (old b o e).2) _
 ·obtain ⟨kp, e, ge⟩ := sort_keeps (out := ws.toArray) hoL
  have fresh : s.heap.get? s1.heap.objs.size = none := by
   cases q : s.heap.get? s1.heap.objs.size with
   | none => rfl
   | some o => exact absurd (Heap.lt_size (k1 _ _ q)) (Nat.lt_irrefl _)
  exact wpAny_pure ⟨_, rfl, hfin ws hp hs { ({ s1 with heap := s1.heap.push { cls := .type "list", data := .seq vs.toArray } } : Shared) with heap := _ } _ e fresh (fun b o hb => kp b o (old b o (k1 b o hb)).1 (old b o (k1 b o hb)).2) g1 o1 ge⟩
theorem collect_is {l : Addr} {vs : List Value} {n : Nat} {Q : List Value → Shared → Prop} (hl : s.heap.get? l = some { cls := .type "list", data := .seq vs.toArray n }) (hsz : vs.length ≤ sizeLine)
  (h : ∀ s1 : Shared, (∀ b o, s.heap.get? b = some o → s1.heap.get? b = some o) → s1.gens = s.gens → s1.os = s.os → Q vs s1) : wpAny (model prog w) A (collect (.ref l)) Q E s := by
 refine collect_list ⟨_, hl, rfl, n, rfl⟩ (h _ (fun b o e => ?_) rfl rfl) hsz
 have hb : b ≠ s.heap.objs.size := Nat.ne_of_lt (Heap.lt_size e)
 show ((s.heap.push (seqObj "list" #[] 0)).update s.heap.objs.size (Obj.mapSeq (· ++ vs.toArray))).get? b = some o
 rw [(Heap.SameBut.update _ _ _).2 b hb]
 exact Heap.get?_push_of_some _ e
end
end Mine
end
-- text A18
section
open PySem PySem.Calls PyProof.Rows PySem.W
namespace Mine
theorem IntsAre.vrs : ∀ {vs : List Value} {ns : List Int}, IntsAre vs ns → VRs vs (ns.map AV.int)
 | _, _, .nil => .nil
 | _, _, .cons n t h => .cons (.int _ _) (IntsAre.vrs h)
noncomputable def stOf (prog : Program) (w : World) (s : Shared) (mg mb : Str → Option Value) (book : Addr) (excs : Str → Option Addr) : St := { prog := prog, w := w, base := s.heap, os := s.os, mg := mg, mb := mb, book := book, excs := excs }
noncomputable def cx0 : Cx := { U := fun _ => none, fr := [], envs := [] }
noncomputable def heap0 (l : Addr) (ns : List Int) : AH := fun a => if a = l then some (.script ns) else none
theorem inv0 {prog : Program} {w : World} {s : Shared} {mg mb : Str → Option Value} {book : Addr} {excs : Str → Option Addr} {l : Addr} {vs : List Value} {ns : List Int} (hl : s.heap.IsList l vs.toArray) (hi : IntsAre vs ns) (hn : ns.length ≤ 63) (hg : s.gens = #[]) :
  Inv (stOf prog w s mg mb book excs) cx0 (heap0 l ns) s := by
 have hv := IntsAre.vrs hi
 refine ⟨fun b o e => e, fun a o e => (nomatch e), fun a o e => ?_, fun a o e => ⟨rfl, fun hs => ?_⟩, fun a o e => (nomatch e), hg, rfl, fun a ha => (nomatch ha)⟩
 ·unfold heap0 at e
  split at e
  ·rename_i q; subst q; cases e
   have := hv.length
   rw [List.length_map] at this
   exact ⟨vs, hl, hv, by lia⟩
  ·cases e
 ·unfold heap0 at e
  split at e
  ·cases e; cases hs
  ·cases e
noncomputable def lawFn : Fn := fun vs H Q _ => ∃ l ns, vs = [.ref l] ∧ H = heap0 l ns ∧ ns.length ≤ 63 ∧ ∀ H', Q (.bool true) H'
theorem law_ends {prog : Program} {w : World} {s : Shared} {mg mb : Str → Option Value} {book : Addr} {excs : Str → Option Addr} {l fa : Addr} {vs : List Value} {ns : List Int} {d : Nat} {Q : Value → Shared → Prop} {E : Value → Shared → Prop}
  (h : SoundF (stOf prog w s mg mb book excs) true d (.ref fa) lawFn) (hd : d ≤ 36) (hl : s.heap.IsList l vs.toArray) (hi : IntsAre vs ns) (hn : ns.length ≤ 63) (hg : s.gens = #[])
  (hQ : ∀ s', (∀ b o, s.heap.get? b = some o → s'.heap.get? b = some o) → s'.os = s.os → s'.gens = #[] → Q (.bool true) s') : wpAny (model prog w) callerA (call (.ref fa) [.ref l]) Q E s := by
 refine wpAny_call (codeAny_mono (h cx0 callerA [.ref l] [.ref l] (heap0 l ns) (fun v _ => v = .bool true) noX s ⟨fun _ => rfl, ?_, ?_⟩ ⟨rfl, fun e he => (nomatch he)⟩ (.cons (.ref l) .nil) (inv0 hl hi hn hg) ⟨l, ns, rfl, rfl, hn, fun _ => rfl⟩) ?_)
 ·show 1 + claimMargin + 8 * d ≤ 600
  have : claimMargin = 300 := rfl
  lia
 ·show 4 + 100 * d ≤ 9000; lia
 ·intro r s' hr
  cases r with
  | error e => obtain ⟨x, H', hx, _⟩ := hr; exact hx.elim
  | ok fl =>
   cases fl with
   | ret v =>
    obtain ⟨av, H', rv, I, rfl⟩ := hr
    cases rv
    exact hQ s' I.base I.os I.gens
   | _ => exact hr.elim
theorem Ns.uniq {h : Heap} {a : Addr} {m m' : Str → Option Value} (x : h.Ns a m) (y : h.Ns a m') : m = m' := by
 obtain ⟨o, es, ep, h1, h2, h3, h4⟩ := x
 obtain ⟨o', es', ep', k1, k2, k3, k4⟩ := y
 rw [h1] at k1; cases k1
 rw [h2] at k2; cases k2
 funext z; rw [← h4, ← k4]
theorem envL_of {prog : Program} {w : World} {s : Shared} {mg mb : Str → Option Value} {book : Addr} {excs : Str → Option Addr} {K : Frag} {p : Program} {loose : List Str} {mean : ExcName → Option Value}
  (T : Top p loose mean mg mb s.heap) (hi : importsNone p = true) (X : K.In s.heap) (hk : ∃ o es n, K.lookup 3 = some o ∧ o.data = .dict es n) : EnvL (stOf prog w s mg mb book excs) K := by
 refine ⟨⟨T.g, T.b, T.nolimit, ?_⟩, X, fun x => ?_, T.builtins⟩
 ·obtain ⟨mm, ⟨o, es, ep, h, _⟩, _⟩ := (T.seer hi).mods
  exact ⟨o, h⟩
 ·obtain ⟨o, es, n, h1, h2⟩ := hk
  obtain ⟨o', es', ep', k1, k2, k3, k4⟩ := T.g
  have k1' : s.heap.get? 3 = some o' := k1
  rw [X 3 o h1] at k1'; cases k1'
  rw [h2] at k2; cases k2
  show mg x = mgK K x
  unfold mgK
  rw [h1]
  obtain ⟨c, d, dt, sl⟩ := o
  cases h2
  exact (k4 x).symm
end Mine
end
-- text U1
section
namespace Mine
open PySem PyProof.Rows
set_option maxRecDepth 100000
theorem entry_set_iterator_next : entryFor table "set_iterator.__next__" = some Builtin.«set_iterator.__next__» := entryFor_of_tree (by kernel_rfl)
theorem slot_set_iterator_next : Slot "set_iterator" "__next__" "set_iterator.__next__" :=
 .of (owner := "set_iterator") (n := "__next__") (by rw [typeLookup_type, builtinLookup_eq_fast]; kernel_rfl) (by decide +kernel) (by decide +kernel) (by decide +kernel)
  (by first | exact .inl (by decide +kernel) | exact .inr (by decide +kernel)) (by rw [isSubtype_type]; kernel_rfl)
theorem args_set_iterator_next (a : Value) : argsOk "set_iterator.__next__" ⟨[a], []⟩ := by unfold argsOk; kernel_rfl
theorem eraseIdx_perm {α : Type} : ∀ {xs : List α} {i : Nat} (h : i < xs.length), (xs[i] :: xs.eraseIdx i).Perm xs
 | [], i, h => by simp at h
 | x :: r, 0, h => by simp
 | x :: r, i + 1, h => by
  have := eraseIdx_perm (xs := r) (i := i) (by simpa using h)
  simp only [List.getElem_cons_succ, List.eraseIdx_cons_succ]
  exact (List.Perm.swap _ _ _).trans (this.cons x)
section
variable {prog : Program} {w : World} {A : Around} {E : Value → Shared → Prop} {s : Shared}
theorem wpAny_choose {M : Model} {src : Source} {n : Nat} {Q : Nat → Shared → Prop} (hn : n ≠ 0) (h : ∀ i, i < n → Q i { s with drawn := s.drawn.bump src }) : wpAny M A (choose src n) Q E s := fun Γ p _ =>
 ⟨hn, h _ (Nat.mod_lt _ (Nat.pos_of_ne_zero hn))⟩
theorem wpAny_drawOrder {M : Model} {α : Type} : ∀ (n : Nat) (xs : List α) (s : Shared) {Q : List α → Shared → Prop}, xs.length = n → (∀ ys dr, ys.Perm xs → Q ys { s with drawn := dr }) → wpAny M A (drawOrder n xs) Q E s
 | 0, xs, s, Q, hl, h => by
  have : xs = [] := List.eq_nil_of_length_eq_zero hl
  subst this
  show wpAny M A (pure []) Q E s
  exact wpAny_pure (h [] s.drawn (List.Perm.refl _))
 | n + 1, [], s, Q, hl, h => by simp at hl
 | n + 1, x :: r, s, Q, hl, h => by
  unfold drawOrder
  refine wpAny_bind (wpAny_choose (by simp) fun i hi => ?_)
  have hg : (x :: r)[i]? = some (x :: r)[i] := List.getElem?_eq_getElem hi
  rw [hg]
  dsimp only
  refine wpAny_bind (wpAny_drawOrder n ((x :: r).eraseIdx i) _ (by rw [List.length_eraseIdx, if_pos hi]; simp at hl ⊢; lia) fun ys dr hp => ?_)
  refine wpAny_pure (h _ dr ?_)
  refine (List.Perm.cons _ hp).trans ?_
  exact eraseIdx_perm hi
theorem pickGo_perm {α : Type} (next : Nat → Nat) : ∀ (fuel k : Nat) (left : List α) (out : Array α), fuel = left.length → ((pickOrder.go next fuel k left out).toList).Perm (out.toList ++ left)
 | 0, k, left, out, h => by
  have : left = [] := List.eq_nil_of_length_eq_zero h.symm
  subst this; simp [pickOrder.go]
 | fuel + 1, k, left, out, h => by
  unfold pickOrder.go
  have hl : next k % left.length < left.length := Nat.mod_lt _ (by lia)
  have hg : left[next k % left.length]? = some left[next k % left.length] := List.getElem?_eq_getElem hl
  rw [hg]
  dsimp only
  refine (pickGo_perm next fuel (k + 1) _ _ (by rw [List.length_eraseIdx, if_pos hl]; lia)).trans ?_
  rw [Array.toList_push, List.append_assoc]
  exact List.Perm.append_left _ (eraseIdx_perm hl)
theorem pick_perm {α : Type} (next : Nat → Nat) (xs : Array α) : (pickOrder next xs).toList.Perm xs.toList := by
 have := pickGo_perm next xs.size 0 xs.toList #[] (by simp)
 simpa [pickOrder] using this
noncomputable def SetMode (w : World) (h : Heap) (a P : Addr) (es : Array (Int × Value)) (ep : Nat) (t : SetTable) (vs : List Value) (k : Nat) (first : Value) : Prop :=
 (w.params.followText "set-order" = true ∧ first = rawInt 0 ∧ vs = (pickOrder (w.params.setOrder a ep) es).toList.map (·.2)) ∨
 (w.params.followText "set-order" = false ∧ ∃ pl : List Nat, first = .ref P ∧ (∃ oP n, h.get? P = some oP ∧ oP.data = .seq ((pl.map fun (i : Nat) => rawInt i).toArray) n) ∧ pl.length = es.size ∧ ∀ (k p : Nat), pl[k]? = some p → ∃ hh v, es[p]? = some (hh, v) ∧ vs[k]? = some v) ∨
 (w.params.followText "set-order" = false ∧ es.size ≤ 1 ∧ t.led = true ∧ vs = es.toList.map (·.2) ∧ first = rawInt (if k = 0 then 0 else (t.place[0]?).getD 0 + 1 : Nat))
structure SetIt (w : World) (a I P : Addr) (es : Array (Int × Value)) (ep : Nat) (t : SetTable) (vs : List Value) (k : Nat) (h : Heap) : Prop where
 set : h.get? a = some { cls := .type "set", data := .set es ep t }
 len : vs.length = es.size
 it : ∃ o first, h.get? I = some o ∧ o.cls = .type "set_iterator" ∧ o.data = .fields #[first, rawInt (k : Int), .ref a, rawInt es.size, rawInt ep] ∧ SetMode w h a P es ep t vs k first
theorem wpAny_setsByText {Q : Bool → Shared → Prop} (h : Q (w.params.followText "set-order") s) : wpAny (model prog w) A setsByText Q E s := by
 unfold setsByText
 exact wpAny_bind (wpAny_askSetting (wpAny_pure h))
theorem fits_iff {t : SetTable} {n : Nat} (h : t.fits n = true) : t.place.size = n := by
 unfold SetTable.fits at h
 simp only [Bool.and_eq_true, beq_iff_eq] at h
 first | exact h.1 | exact h.1.1 | lia
theorem SetIt.typeIs {a I P : Addr} {es : Array (Int × Value)} {ep : Nat} {t : SetTable} {vs : List Value} {k : Nat} (x : SetIt w a I P es ep t vs k s.heap) : s.TypeIs (.ref I) "set_iterator" := by
 obtain ⟨o, first, ho, hc, _⟩ := x.it
 exact ⟨o, ho, hc⟩
theorem set_fields_upd {h : Heap} {I : Addr} {o : Obj} {fs : Array Value} (ho : h.get? I = some o) (hd : o.data = .fields fs) (i : Nat) (x : Value) :
  ∃ o', (h.update I (Obj.mapFields (·.setIfInBounds i x))).get? I = some o' ∧ o'.cls = o.cls ∧ o'.data = .fields (fs.setIfInBounds i x) :=
 ⟨_, Heap.get?_update_self _ ho (Obj.isFreed_of_fields (Obj.data_mapFields hd _)), Obj.cls_mapFields .., Obj.data_mapFields hd _⟩
theorem SetMode.frame {h h' : Heap} {a P : Addr} {es : Array (Int × Value)} {ep : Nat} {t : SetTable} {vs : List Value} {k : Nat} {first : Value} (m : SetMode w h a P es ep t vs k first) (e : ∀ o, h.get? P = some o → h'.get? P = some o) : SetMode w h' a P es ep t vs k first := by
 rcases m with m | ⟨m1, pl, m2, ⟨oP, n, m3, m4⟩, m5⟩ | m
 ·exact .inl m
 ·exact .inr (.inl ⟨m1, pl, m2, ⟨oP, n, e _ m3, m4⟩, m5⟩)
 ·exact .inr (.inr m)
theorem setNext_text {a : Addr} {es : Array (Int × Value)} {ep : Nat} {t : SetTable} {slot given : Nat} {Q : Option (Value × Nat) → Shared → Prop} (hset : s.heap.get? a = some { cls := .type "set", data := .set es ep t }) (hf : t.fits es.size = true) (m1 : w.params.followText "set-order" = true)
  (h : Q (((pickOrder (w.params.setOrder a ep) es)[given]?).map fun e => (e.2, slot)) s) : wpAny (model prog w) A (setNext a slot given ep) Q E s := by
 unfold setNext
 refine wpAny_bind (wpAny_setState_of hset rfl hf ?_)
 dsimp only
 refine wpAny_bind (wpAny_setsByText ?_)
 rw [m1]
 simp only [bne_self_eq_false, Bool.false_eq_true, if_false, if_true]
 refine wpAny_bind ?_
 unfold setWalk
 refine wpAny_bind (wpAny_setState_of hset rfl hf ?_)
 dsimp only
 refine wpAny_bind (wpAny_setsByText ?_)
 rw [m1]
 simp only [if_true]
 refine wpAny_bind (wpAny_askSetting (wpAny_pure ?_))
 exact wpAny_pure h
theorem setNext_small {a : Addr} {es : Array (Int × Value)} {ep : Nat} {t : SetTable} {slot given : Nat} {Q : Option (Value × Nat) → Shared → Prop} (hset : s.heap.get? a = some { cls := .type "set", data := .set es ep t }) (hf : t.fits es.size = true) (m1 : w.params.followText "set-order" = false) (hsz : es.size ≤ 1) (hl : t.led = true)
  (h : Q (match es[SetTable.below t.place slot]?, t.place[SetTable.below t.place slot]? with | some (_, x), some j => some (x, j + 1) | _, _ => none) s) : wpAny (model prog w) A (setNext a slot given ep) Q E s := by
 unfold setNext
 refine wpAny_bind (wpAny_setState_of hset rfl hf ?_)
 dsimp only
 refine wpAny_bind (wpAny_setsByText ?_)
 rw [m1]
 simp only [Bool.false_eq_true, if_false]
 refine wpAny_ite_split (fun q => ?_) fun q => ?_
 ·exfalso
  revert q
  show ¬ ((!t.plain && decide (es.size > 1)) = true)
  rw [decide_eq_false (by lia)]; simp
 refine wpAny_bind ?_
 show wpAny _ _ (if (!t.led && !es.isEmpty) = true then _ else _) _ _ _
 rw [hl]
 simp only [Bool.not_true, Bool.false_and, Bool.false_eq_true, if_false]
 exact wpAny_pure (wpAny_pure h)
theorem below_zero {t : SetTable} (h : t.place.size = 1) : SetTable.below t.place 0 = 0 := by
 unfold SetTable.below
 rw [h]
 simp [SetTable.below.go]
theorem below_one {t : SetTable} (h : t.place.size = 1) : SetTable.below t.place ((t.place[0]?).getD 0 + 1) = 1 := by
 unfold SetTable.below
 rw [h]
 have e : t.place[0]? = some t.place[0] := Array.getElem?_eq_getElem (by lia)
 simp [SetTable.below.go, h]
theorem set_next_item {a I P : Addr} {es : Array (Int × Value)} {ep : Nat} {t : SetTable} {vs : List Value} {k : Nat} {v : Value} {R : PySem.Fin → Shared → Prop} (x : SetIt w a I P es ep t vs k s.heap) (hf : t.fits es.size = true) (naI : a ≠ I) (nPI : P ≠ I) (hv : vs[k]? = some v)
  (h : ∀ h', SetIt w a I P es ep t vs (k + 1) h' → (∀ b o, b ≠ I → s.heap.get? b = some o → h'.get? b = some o) → R (.done (.ret v)) { s with heap := h' }) :
  wpAny (model prog w) A (Builtin.«set_iterator.__next__» ⟨[.ref I], []⟩) R E s := by
 obtain ⟨hset, hlen, o, first, ho, hc, hd, m⟩ := x
 unfold Builtin.«set_iterator.__next__»
 refine wpAny_bind (m := slotArgs "__next__" 0 ⟨[.ref I], []⟩) (wpAny_pure ?_)
 refine wpAny_bind (wpAny_fieldsOf ho hd ?_)
 dsimp only [rawInt]
 refine wpAny_bind ?_
 unfold setEntries
 refine wpAny_bind (wpAny_setState_of hset rfl hf (wpAny_pure ?_))
 simp only [bne_self_eq_false, Bool.false_eq_true, if_false]
 have keep1 : ∀ (h : Heap) (i : Nat) (y : Value) (b : Addr) (o : Obj), b ≠ I → h.get? b = some o → (h.update I (Obj.mapFields (·.setIfInBounds i y))).get? b = some o := fun h i y b o hb e => by
  rw [(Heap.SameBut.update _ I _).2 b hb]; exact e
 have two : ∀ (y : Value), SetMode w s.heap a P es ep t vs (k + 1) y → wpAny (model prog w) A (setField (.ref I) 0 y >>= fun _ => setField (.ref I) 1 (.int ((k : Int) + 1) 0) >>= fun _ => ret v) R E s := by
  intro y my
  refine wpAny_bind (wpAny_setField ho hd (by simp) ?_)
  obtain ⟨o1, g1, c1, d1⟩ := set_fields_upd ho hd 0 y
  refine wpAny_bind (wpAny_setField g1 d1 (by simp) ?_)
  obtain ⟨o2, g2, c2, d2⟩ := set_fields_upd g1 d1 1 (.int ((k : Int) + 1) 0)
  refine wpAny_pure (h _ ⟨keep1 _ _ _ _ _ naI (keep1 _ _ _ _ _ naI hset), hlen, o2, y, g2, c2.trans (c1.trans hc), ?_, my.frame fun o e => keep1 _ _ _ _ _ nPI (keep1 _ _ _ _ _ nPI e)⟩ fun b o hb e => keep1 _ _ _ _ _ hb (keep1 _ _ _ _ _ hb e))
  rw [d2]; simp [rawInt]
 rcases m with ⟨m1, rfl, rfl⟩ | ⟨m1, pl, rfl, ⟨oP, n, hP, hPd⟩, hpl, hpv⟩ | ⟨m1, hsz, hled, rfl, rfl⟩
 ·dsimp only [rawInt]
  rw [Int.toNat_natCast, Int.toNat_natCast]
  refine wpAny_bind (setNext_text hset hf m1 ?_)
  rw [List.getElem?_map] at hv
  cases e : (pickOrder (w.params.setOrder a ep) es).toList[k]? with
  | none => rw [e] at hv; cases hv
  | some q =>
   rw [e] at hv
   have hv : q.2 = v := by simpa using hv
   rw [Array.getElem?_toList] at e
   rw [e]
   dsimp only [Option.map]
   rw [hv]
   exact two _ (.inl ⟨m1, rfl, rfl⟩)
 ·dsimp only
  refine wpAny_bind (wpAny_seqItems hP hPd ?_)
  dsimp only
  have hk : k < pl.length := by rw [hpl, ← hlen]; exact (List.getElem?_eq_some_iff.mp hv).1
  have e : (List.map (fun (i : Nat) => rawInt i) pl).toArray[((k : Nat) : Int).toNat]? = some (.int (pl[k] : Int) 0) := by
   rw [Int.toNat_natCast]; simp [rawInt, hk]
  rw [e]
  dsimp only
  obtain ⟨hh, v', h1, h2⟩ := hpv k pl[k] (List.getElem?_eq_getElem hk)
  rw [hv] at h2; cases h2
  refine wpAny_bind ?_
  unfold setNextDrawn
  refine wpAny_bind (wpAny_setState_of hset rfl hf ?_)
  dsimp only
  rw [Int.toNat_natCast, Int.toNat_natCast]
  simp only [bne_self_eq_false, Bool.false_eq_true, if_false, h1]
  refine wpAny_pure ?_
  refine wpAny_bind (wpAny_setField ho hd (by simp) ?_)
  obtain ⟨o2, g2, c2, d2⟩ := set_fields_upd ho hd 1 (.int ((k : Int) + 1) 0)
  refine wpAny_pure (h _ ⟨keep1 _ _ _ _ _ naI hset, hlen, o2, .ref P, g2, c2.trans hc, ?_, .inr (.inl ⟨m1, pl, rfl, ⟨oP, n, keep1 _ _ _ _ _ nPI hP, hPd⟩, hpl, hpv⟩)⟩ fun b o hb e => keep1 _ _ _ _ _ hb e)
  rw [d2]; simp [rawInt]
 ·dsimp only [rawInt]
  rw [Int.toNat_natCast, Int.toNat_natCast, Int.toNat_natCast]
  refine wpAny_bind (setNext_small hset hf m1 hsz hled ?_)
  have hk : k < es.size := by
   have := (List.getElem?_eq_some_iff.mp hv).1
   simpa using this
  have hk0 : k = 0 := by lia
  subst hk0
  have hp := (fits_iff hf).trans (show es.size = 1 by lia)
  simp only [if_true]
  rw [below_zero hp]
  have e1 : es[0]? = some es[0] := Array.getElem?_eq_getElem (by lia)
  have e2 : t.place[0]? = some t.place[0] := Array.getElem?_eq_getElem (by lia)
  rw [e1, e2]
  have hv' : es[0].2 = v := by
   rw [List.getElem?_map, Array.getElem?_toList, e1] at hv
   simpa using hv
  dsimp only
  rw [hv']
  refine two _ (.inr (.inr ⟨m1, hsz, hled, rfl, ?_⟩))
  rw [e2]; simp [rawInt]
theorem set_stop {I : Addr} {o : Obj} {fs : Array Value} {i : Nat} {y : Value} {R : Value → Shared → Prop} {P : PySem.Fin → Shared → Prop} (hh : A.handled = none) (ho : s.heap.get? I = some o) (hd : o.data = .fields fs) (hi : i < fs.size)
  (h : ∀ e h', (∀ b o, b ≠ I → s.heap.get? b = some o → h'.get? b = some o) → ({ s with heap := h' } : Shared).TypeIs (.ref e) "StopIteration" → R (.ref e) { s with heap := h' }) :
  wpAny (model prog w) A (setField (.ref I) i y >>= fun _ => newExc (.type "StopIteration") [] >>= fun e => raiseNew e) P R s := by
 refine wpAny_bind (wpAny_setField ho hd hi ?_)
 refine wpAny_bind ?_
 simp only [newExc, newTuple]
 refine wpAny_bind (wpAny_newObj_type ?_ (by size_fits))
 refine wpAny_bind (m := firstArgMember _ _) (wpAny_of_eq (a := Value.none) (by first | rfl | (simp only [firstArgMember]; rfl)) ?_)
 refine wpAny_newObj_type ?_ (by size_fits)
 simp only [raiseNew]
 refine wpAny_bind (wpAny_handled ?_)
 rw [hh]
 refine wpAny_bind (wpAny_pure (wpAny_throw ?_))
 refine h _ _ (fun b o hb e => Heap.get?_push_of_some _ (Heap.get?_push_of_some _ (by rw [(Heap.SameBut.update _ I _).2 b hb]; exact e))) ⟨_, Heap.get?_push_size _ rfl, rfl⟩
theorem set_next_done {a I P : Addr} {es : Array (Int × Value)} {ep : Nat} {t : SetTable} {vs : List Value} {R : Value → Shared → Prop} {F : PySem.Fin → Shared → Prop} (hh : A.handled = none) (x : SetIt w a I P es ep t vs es.size s.heap) (hf : t.fits es.size = true)
  (h : ∀ e h', (∀ b o, b ≠ I → s.heap.get? b = some o → h'.get? b = some o) → ({ s with heap := h' } : Shared).TypeIs (.ref e) "StopIteration" → R (.ref e) { s with heap := h' }) :
  wpAny (model prog w) A (Builtin.«set_iterator.__next__» ⟨[.ref I], []⟩) F R s := by
 obtain ⟨hset, hlen, o, first, ho, hc, hd, m⟩ := x
 unfold Builtin.«set_iterator.__next__»
 refine wpAny_bind (m := slotArgs "__next__" 0 ⟨[.ref I], []⟩) (wpAny_pure ?_)
 refine wpAny_bind (wpAny_fieldsOf ho hd ?_)
 dsimp only [rawInt]
 refine wpAny_bind ?_
 unfold setEntries
 refine wpAny_bind (wpAny_setState_of hset rfl hf (wpAny_pure ?_))
 simp only [bne_self_eq_false, Bool.false_eq_true, if_false]
 rcases m with ⟨m1, rfl, rfl⟩ | ⟨m1, pl, rfl, ⟨oP, n, hP, hPd⟩, hpl, hpv⟩ | ⟨m1, hsz, hled, rfl, rfl⟩
 ·dsimp only [rawInt]
  rw [Int.toNat_natCast, Int.toNat_natCast]
  refine wpAny_bind (setNext_text hset hf m1 ?_)
  have e : (pickOrder (w.params.setOrder a ep) es)[es.size]? = none := by
   refine Array.getElem?_eq_none ?_
   have := (pick_perm (w.params.setOrder a ep) es).length_eq
   simp at this; lia
  rw [e]
  exact set_stop hh ho hd (by simp) h
 ·dsimp only
  refine wpAny_bind (wpAny_seqItems hP hPd ?_)
  dsimp only
  have e : (List.map (fun (i : Nat) => rawInt i) pl).toArray[((es.size : Nat) : Int).toNat]? = none := by
   rw [Int.toNat_natCast]; exact Array.getElem?_eq_none (by simp [hpl])
  rw [e]
  dsimp only
  refine wpAny_bind (wpAny_setField ho hd (by simp) ?_)
  obtain ⟨o1, g1, c1, d1⟩ := set_fields_upd ho hd 0 (.int 0 0)
  refine set_stop hh g1 d1 (by simp) fun e h' k T => h e h' (fun b o hb q => k b o hb ?_) T
  show (Heap.update _ _ _).get? b = some o
  rw [(Heap.SameBut.update _ I _).2 b hb]; exact q
 ·dsimp only [rawInt]
  rw [Int.toNat_natCast, Int.toNat_natCast, Int.toNat_natCast]
  refine wpAny_bind (setNext_small hset hf m1 hsz hled ?_)
  have hp := fits_iff hf
  have e : es[SetTable.below t.place (if es.size = 0 then 0 else (t.place[0]?).getD 0 + 1)]? = none := by
   by_cases q : es.size = 0
   ·exact Array.getElem?_eq_none (by lia)
   ·rw [if_neg q, below_one (hp.trans (by lia))]
    exact Array.getElem?_eq_none (by lia)
  rw [e]
  exact set_stop hh ho hd (by simp) h
theorem pyNext_set_item {a I P : Addr} {es : Array (Int × Value)} {ep : Nat} {t : SetTable} {vs : List Value} {k : Nat} {v : Value} {Q : Option Value → Shared → Prop} (x : SetIt w a I P es ep t vs k s.heap) (hf : t.fits es.size = true) (naI : a ≠ I) (nPI : P ≠ I) (hv : vs[k]? = some v)
  (h : ∀ h', SetIt w a I P es ep t vs (k + 1) h' → (∀ b o, b ≠ I → s.heap.get? b = some o → h'.get? b = some o) → Q (some v) { s with heap := h' }) : wpAny (model prog w) A (pyNext (.ref I)) Q E s := by
 unfold pyNext
 refine wpAny_bind (wpAny_attempt (wpAny_callSpecial?_slot (name := Str.ofString "__next__") x.typeIs slot_set_iterator_next
  (wpAny_call_entry slot_set_iterator_next x.typeIs entry_set_iterator_next (set_next_item x hf naI nPI hv fun h' x' k' => ?_) (args_set_iterator_next _))))
 exact ⟨_, rfl, wpAny_pure (h h' x' k')⟩
theorem pyNext_set_done {a I P : Addr} {es : Array (Int × Value)} {ep : Nat} {t : SetTable} {vs : List Value} {Q : Option Value → Shared → Prop} (hh : A.handled = none) (x : SetIt w a I P es ep t vs es.size s.heap) (hf : t.fits es.size = true)
  (h : ∀ h', (∀ b o, b ≠ I → s.heap.get? b = some o → h'.get? b = some o) → Q none { s with heap := h' }) : wpAny (model prog w) A (pyNext (.ref I)) Q E s := by
 unfold pyNext
 refine wpAny_bind (wpAny_attempt (wpAny_callSpecial?_slot (name := Str.ofString "__next__") x.typeIs slot_set_iterator_next
  (wpAny_call_entry slot_set_iterator_next x.typeIs entry_set_iterator_next (set_next_done (by simpa using hh) x hf fun e h' k T => ?_) (args_set_iterator_next _))))
 refine wpAny_bind (wpAny_isInstance (T := "StopIteration") (b := true) T isSubtype_stop ?_)
 exact wpAny_pure (h h' k)
end
end Mine
end
-- text U2
section
namespace Mine
open PySem PyProof.Rows
set_option maxRecDepth 100000
theorem entry_set_iter : entryFor table "set.__iter__" = some Builtin.«frozenset.__iter__» := entryFor_alias (id' := "frozenset.__iter__") (by kernel_rfl) rfl (by decide +kernel) (by kernel_rfl)
theorem entry_set_iterator_iter : entryFor table "set_iterator.__iter__" = some Builtin.«dict_keyiterator.__iter__» := entryFor_alias (id' := "dict_keyiterator.__iter__") (by kernel_rfl) rfl (by decide +kernel) (by kernel_rfl)
theorem slot_set_iterator_iter : Slot "set_iterator" "__iter__" "set_iterator.__iter__" :=
 .of (owner := "set_iterator") (n := "__iter__") (by rw [typeLookup_type, builtinLookup_eq_fast]; kernel_rfl) (by decide +kernel) (by decide +kernel) (by decide +kernel)
  (by first | exact .inl (by decide +kernel) | exact .inr (by decide +kernel)) (by rw [isSubtype_type]; kernel_rfl)
theorem args_set_iterator_iter (a : Value) : argsOk "set_iterator.__iter__" ⟨[a], []⟩ := by unfold argsOk; kernel_rfl
section
variable {prog : Program} {w : World} {A : Around} {E : Value → Shared → Prop} {s : Shared}
theorem hint_set {r : Addr} {Q : Bool → Shared → Prop} (hT : s.TypeIs (.ref r) "set") (h : Q false s) : wpAny (model prog w) A (Builtin.List.listLengthHint (.ref r)) Q E s := by
 unfold Builtin.List.listLengthHint
 refine wpAny_bind (wpAny_specialOf hT PySem.F.slot_set_len.lookup ?_)
 generalize hid : ("set.__len__" : String) = id0
 wp_delta
 rw [show splitId id0 = some ("set", "__len__") from by subst hid; decide +kernel]
 subst hid
 refine wpAny_bind (wpAny_isInstance (T := "set") (b := true) hT (by rw [isSubtype_type]; kernel_rfl) ?_)
 refine wpAny_ite_split (fun hab => absurd hab (by decide)) (fun _ => ?_)
 refine wpAny_ite_split (fun _ => ?_) (fun hab => absurd (by decide +kernel) hab)
 refine wpAny_bind (wpAny_typeOf hT ?_)
 exact wpAny_pure h
theorem SetIt.frame {a I P : Addr} {es : Array (Int × Value)} {ep : Nat} {t : SetTable} {vs : List Value} {k : Nat} {h h' : Heap} (x : SetIt w a I P es ep t vs k h) (e : ∀ b ∈ [I, a, P], ∀ o, h.get? b = some o → h'.get? b = some o) : SetIt w a I P es ep t vs k h' := by
 obtain ⟨h1, h2, o, f, h3, h4, h5, h6⟩ := x
 exact ⟨e a (by simp) _ h1, h2, o, f, e I (by simp) _ h3, h4, h5, h6.frame fun o q => e P (by simp) o q⟩
theorem walks_set (hh : A.handled = none) {a I P : Addr} {es : Array (Int × Value)} {ep : Nat} {t : SetTable} {vs : List Value} (hf : t.fits es.size = true) (naI : a ≠ I) (nPI : P ≠ I) :
  Walks prog w A I [I, a, P] [I] es.size (fun i v => vs[i]? = some v) (fun k h => SetIt w a I P es ep t vs k h) where
 sub := fun b hb => by simp at hb; simp [hb]
 frame := fun _ _ _ st hk => st.frame hk
 item := fun i s Q E hi st hQ => by
  have hi' : i < vs.length := by rw [st.len]; exact hi
  refine pyNext_set_item st hf naI nPI (List.getElem?_eq_getElem hi') fun h' st' k => ?_
  exact hQ _ h' s.toks (List.getElem?_eq_getElem hi') st' fun b o hb e => k b o (fun h => hb (by simp [h])) e
 done := fun s Q E st hQ => pyNext_set_done hh st hf fun h' k => hQ h' s.toks fun b o hb e => k b o (fun h => hb (by simp [h])) e
 self := fun i s Q E st hQ => by
  refine wpAny_pyIter_slot st.typeIs slot_set_iterator_iter (wpAny_call_entry slot_set_iterator_iter st.typeIs entry_set_iterator_iter ?_ (args_set_iterator_iter _))
  show wpAny _ _ (ret (.ref I)) _ _ s
  exact wpAny_pure ⟨_, rfl, "set_iterator", _, st.typeIs, slot_set_iterator_next.lookup, hQ⟩
theorem pyIter_set {a : Addr} {es : Array (Int × Value)} {ep : Nat} {t : SetTable} {Q : Value → Shared → Prop} (hset : s.heap.get? a = some { cls := .type "set", data := .set es ep t }) (hf : t.fits es.size = true) (hled : w.params.followText "set-order" = true ∨ t.led = true) (hpl : es.size ≠ 0 → t.plain = false) (hn : es.size ≤ sizeLine)
  (h : ∀ I P vs h' dr, vs.Perm (es.toList.map (·.2)) → SetIt w a I P es ep t vs 0 h' → s.heap.get? I = none → P ≠ I → (P = a ∨ s.heap.get? P = none) → (∀ b o, s.heap.get? b = some o → h'.get? b = some o) → Q (.ref I) { s with heap := h', drawn := dr }) : wpAny (model prog w) A (pyIter (.ref a)) Q E s := by
 have hT : s.TypeIs (.ref a) "set" := ⟨_, hset, rfl⟩
 refine wpAny_pyIter_slot hT PySem.F.slot_set_iter (wpAny_call_entry PySem.F.slot_set_iter hT entry_set_iter ?_ (PySem.F.args_set_iter_1 _))
 unfold Builtin.«frozenset.__iter__»
 refine wpAny_bind (m := Builtin.Frozenset.slot0 "__iter__" ⟨[.ref a], []⟩) (wpAny_pure ?_)
 refine wpAny_bind ?_
 unfold Builtin.Frozenset.sizeOf setEntries
 refine wpAny_bind (wpAny_bind (wpAny_setState_of hset rfl hf (wpAny_pure (wpAny_pure ?_))))
 refine wpAny_bind ?_
 unfold setDrawn
 refine wpAny_bind (wpAny_setState_of hset rfl hf ?_)
 dsimp only
 refine wpAny_bind (wpAny_setsByText (wpAny_pure ?_))
 have make : ∀ (s1 : Shared) (first : Value) (P : Addr) (vs : List Value), s1.gens = s.gens → s1.toks = s.toks → s1.os = s.os → (∀ b o, s.heap.get? b = some o → s1.heap.get? b = some o) → vs.Perm (es.toList.map (·.2)) → (∃ o, s1.heap.get? P = some o) → (P = a ∨ s.heap.get? P = none) → SetMode w s1.heap a P es ep t vs 0 first →
   wpAny (model prog w) A.in1 (setEpoch a >>= fun (x : Nat) => newFields "set_iterator" [first, rawInt 0, .ref a, rawInt (es.size : Int), rawInt (x : Int)] >>= fun y => ret y)
    (fun fin s' => ∃ v, fin = .done (.ret v) ∧ ∃ T' r, s'.TypeIs v T' ∧ typeLookup (.type T') (Str.ofString "__next__") = pure (some r) ∧ Q v s') E s1 := by
  intro s1 first P vs g1 g2 g3 k1 pm hP hPa m
  refine wpAny_bind (wpAny_setEpoch_of (k1 _ _ hset) rfl hf ?_)
  refine wpAny_bind (wpAny_newObj_type (wpAny_pure ⟨_, rfl, "set_iterator", _, ⟨_, Heap.get?_push_size _ rfl, rfl⟩, slot_set_iterator_next.lookup, ?_⟩))
  obtain ⟨oP, hP⟩ := hP
  have := h s1.heap.objs.size P vs (s1.heap.push { cls := .type "set_iterator", data := .fields #[first, rawInt 0, .ref a, rawInt (es.size : Int), rawInt (ep : Int)] }) s1.drawn pm ⟨Heap.get?_push_of_some _ (k1 _ _ hset), ?_, _, first, Heap.get?_push_size _ rfl, rfl, rfl, m.frame fun o e => Heap.get?_push_of_some _ e⟩ ?_ (Nat.ne_of_lt (Heap.lt_size hP)) hPa fun b o e => Heap.get?_push_of_some _ (k1 _ _ e)
  ·rw [← g1, ← g2, ← g3] at this; exact this
  ·have := pm.length_eq
   simpa using this
  ·cases q : s.heap.get? s1.heap.objs.size with
   | none => rfl
   | some o => exact absurd (Heap.lt_size (k1 _ _ q)) (Nat.lt_irrefl _)
 refine wpAny_ite_split (fun q => ?_) fun q => ?_
 ·have q' : (!w.params.followText "set-order" && (!t.plain && decide (es.size > 1))) = true := q
  simp only [Bool.and_eq_true, Bool.not_eq_true', decide_eq_true_eq] at q'
  refine wpAny_bind (wpAny_drawOrder _ _ _ (by simp) fun pl dr hp => ?_)
  refine wpAny_bind (wpAny_newTuple (hsz := by rw [List.length_map, hp.length_eq, List.length_range]; exact hn) ?_)
  have hval : (List.range es.size).map (fun p => ((es[p]?).map (·.2)).getD Value.none) = es.toList.map (·.2) := by
   apply List.ext_getElem?
   intro k
   by_cases hk : k < es.size
   ·simp [hk]
   ·rw [List.getElem?_eq_none (by simp; lia), List.getElem?_eq_none (by simp; lia)]
  refine make _ (.ref s.heap.objs.size) s.heap.objs.size (pl.map fun p => ((es[p]?).map (·.2)).getD Value.none) rfl rfl rfl (fun b o e => Heap.get?_push_of_some _ e) ?_ ⟨_, Heap.get?_push_size _ rfl⟩ (.inr (Heap.get?_none_of_le (Nat.le_refl _))) (.inr (.inl ⟨q'.1, pl, rfl, ⟨_, 0, Heap.get?_push_size _ rfl, rfl⟩, ?_, fun k p hk => ?_⟩))
  ·rw [← hval]; exact hp.map _
  ·have := hp.length_eq
   simpa using this
  ·have hpn : p < es.size := by
    have := hp.mem_iff.mp (List.mem_of_getElem? hk)
    simpa using this
   refine ⟨es[p].1, es[p].2, Array.getElem?_eq_getElem hpn, ?_⟩
   rw [List.getElem?_map, hk]; simp [hpn]
 ·have q' : ¬ (!w.params.followText "set-order" && (!t.plain && decide (es.size > 1))) = true := q
  refine wpAny_bind (wpAny_pure ?_)
  cases m1 : w.params.followText "set-order" with
  | true =>
   exact make s (rawInt 0) a _ rfl rfl rfl (fun b o e => e) ((pick_perm (w.params.setOrder a ep) es).map _) ⟨_, hset⟩ (.inl rfl) (.inl ⟨m1, rfl, rfl⟩)
  | false =>
   have hsz : es.size ≤ 1 := by
    rcases Nat.lt_or_ge 1 es.size with h1 | h1
    ·exfalso
     refine q' ?_
     rw [m1, hpl (by lia), decide_eq_true h1]; rfl
    ·exact h1
   have hl : t.led = true := hled.resolve_left (by rw [m1]; decide)
   exact make s (rawInt 0) a _ rfl rfl rfl (fun b o e => e) (List.Perm.refl _) ⟨_, hset⟩ (.inl rfl) (.inr (.inr ⟨m1, hsz, hl, rfl, rfl⟩))
theorem collect_set {a : Addr} {es : Array (Int × Value)} {ep : Nat} {t : SetTable} {R : List Value → Shared → Prop} (hh : A.handled = none) (hset : s.heap.get? a = some { cls := .type "set", data := .set es ep t }) (hf : t.fits es.size = true) (hled : w.params.followText "set-order" = true ∨ t.led = true) (hpl : es.size ≠ 0 → t.plain = false) (hn : es.size ≤ sizeLine)
  (h : ∀ (s' : Shared) (vs : List Value), vs.Perm (es.toList.map (·.2)) → (∀ b o, s.heap.get? b = some o → s'.heap.get? b = some o) → s'.gens = s.gens → s'.os = s.os → R vs s') :
  wpAny (model prog w) A (collect (.ref a)) R E s := by
 unfold collect
 refine wpAny_bind (wpAny_runValue (codeAny_builtin entry_proto_collect' ?_))
 rw [Around.under_plainId PySem.F.plain_proto_collect _]
 show wpAny _ A.in1 (newList [] >>= fun l => again (.builtin "list.__iadd__" ⟨[l, .ref a], []⟩)) _ _ s
 refine wpAny_bind (wpAny_newObj_type ?_)
 refine wpAny_pure ⟨plainId_quiet PySem.F.plain_list_iadd _, codeAny_builtin entry_list_iadd' ?_⟩
 rw [Around.under_plainId PySem.F.plain_list_iadd _]
 have hS₁ : (s.heap.push { cls := .type "list", data := .seq ([] : List Value).toArray }).get? s.heap.objs.size = some { cls := .type "list", data := .seq #[] } := Heap.get?_push_size _ rfl
 show wpAny _ A.in1 (Builtin.List.listExtendWith (.ref s.heap.objs.size) (.ref a) (.ref s.heap.objs.size)) _ _ _
 have nSa : s.heap.objs.size ≠ a := Nat.ne_of_gt (Heap.lt_size hset)
 have hset1 := Heap.get?_push_of_some { cls := .type "list", data := .seq ([] : List Value).toArray } hset
 unfold Builtin.List.listExtendWith
 refine wpAny_bind (wpAny_typeOf (T := "set") ⟨_, hset1, rfl⟩ ?_)
 have h1 : Builtin.List.listSameRef (.ref s.heap.objs.size) (.ref a) = false := by simp [Builtin.List.listSameRef, nSa]
 simp only [h1, show (Value.type "set" == Value.type "list") = false by decide, show (Value.type "set" == Value.type "tuple") = false by decide, Bool.or_false, Bool.false_eq_true, if_false]
 refine wpAny_bind (pyIter_set hset1 hf hled hpl hn fun I P vs h' dr pm st nI nPI hPa k1 => ?_)
 have naI : a ≠ I := fun e => by rw [e, nI] at hset1; cases hset1
 have nSI : s.heap.objs.size ≠ I := fun e => by rw [e, nI] at hS₁; cases hS₁
 have nSP : s.heap.objs.size ≠ P := fun e => by
  rcases hPa with q | q
  ·exact nSa (e.trans q)
  ·rw [← e, hS₁] at q; cases q
 have hSf : s.heap.objs.size ∉ [I, a, P] := by simp only [List.mem_cons, List.not_mem_nil, or_false, not_or]; exact ⟨nSI, nSa, nSP⟩
 have hS2 := k1 _ _ hS₁
 have key : ∀ (h2 : Heap) (c₁ : Nat), SetIt w a I P es ep t vs 0 h2 → (∀ b o, b ≠ s.heap.objs.size → h'.get? b = some o → h2.get? b = some o) → h2.get? s.heap.objs.size = some { cls := .type "list", data := .seq #[] c₁ } →
   codeAny (model prog w) A (.builtin "list.extend.loop" ⟨[.ref s.heap.objs.size, .ref I, .ref s.heap.objs.size], []⟩) (fun q s' => ∃ (acc : Array Value) (c' : Nat), q = .ok (.ret (.ref s.heap.objs.size)) ∧ acc.toList.Perm (es.toList.map (·.2)) ∧
    (∀ b o, s.heap.get? b = some o → s'.heap.get? b = some o) ∧ s'.gens = s.gens ∧ s'.os = s.os ∧ s'.heap.get? s.heap.objs.size = some { cls := .type "list", dict := none, data := .seq acc c', slots := #[] }) { s with heap := h2, drawn := dr } := by
  intro h2 c₁ st2 k2 hS3
  refine codeAny_extend_loopS (walks_set (A := A.in1) (by simpa using hh) hf naI nPI (vs := vs)).toS hn s.heap.objs.size hSf (.ref s.heap.objs.size) es.size 0 _ #[] c₁ rfl (Nat.zero_le _) st2 hS3 (ItemsOf.nil _) fun s' acc' c' hm hS' hacc => ?_
  refine ⟨acc', c', rfl, ?_, fun b o e => ?_, ?_, ?_, hS'⟩
  ·have e : acc'.toList = vs := by
    apply List.ext_getElem?
    intro j
    by_cases hj : j < es.size
    ·have hj' : j < acc'.size := by rw [hacc.1]; exact hj
     rw [Array.getElem?_toList, Array.getElem?_eq_getElem hj', hacc.2 j acc'[j] (Array.getElem?_eq_getElem hj')]
    ·have hvl : vs.length = es.size := st.len
     have hj : es.size ≤ j := Nat.not_lt.mp hj
     rw [List.getElem?_eq_none (by rw [Array.length_toList, hacc.1]; exact hj), List.getElem?_eq_none (by rw [hvl]; exact hj)]
   rw [e]; exact pm
  ·have hb : b ≠ s.heap.objs.size := Nat.ne_of_lt (Heap.lt_size e)
   refine hm.heap b o (fun hmem => ?_) (k2 b o hb (k1 _ _ (Heap.get?_push_of_some _ e)))
   rcases List.mem_cons.mp hmem with e' | hmem
   ·exact hb e'
   ·have : b = I := List.mem_singleton.mp hmem
    have e2 := Heap.get?_push_of_some { cls := .type "list", data := .seq ([] : List Value).toArray } e
    rw [this] at e2
    rw [nI] at e2; cases e2
  ·exact hm.gens
  ·exact hm.os
 have close : ∀ {c : Code} {s2 : Shared}, c.quiet = true → codeAny (model prog w) A c (fun q s' => ∃ (acc : Array Value) (c' : Nat), q = .ok (.ret (.ref s.heap.objs.size)) ∧ acc.toList.Perm (es.toList.map (·.2)) ∧
    (∀ b o, s.heap.get? b = some o → s'.heap.get? b = some o) ∧ s'.gens = s.gens ∧ s'.os = s.os ∧ s'.heap.get? s.heap.objs.size = some { cls := .type "list", dict := none, data := .seq acc c', slots := #[] }) s2 → True := fun _ _ => trivial
 refine wpAny_bind (wpAny_holding (hint_set ⟨_, k1 _ _ hset1, rfl⟩ ?_))
 refine wpAny_ite_split (fun _ => ?_) (fun _ => wpAny_pure ⟨plainId_quiet PySem.F.plain_extend_loop _, codeAny_mono (key _ 0 st (fun b o _ e => e) hS2) ?_⟩)
 ·refine wpAny_bind (wpAny_rule ?_)
  refine wpAny_bind ?_
  show wpAny _ _ (updateSeq s.heap.objs.size (·.push .none) >>= fun _ => updateSeq s.heap.objs.size (·.pop)) _ _ _
  refine wpAny_bind (wpAny_updateSeq hS2 rfl ?_)
  have hS₂ := Heap.get?_update_self (Obj.mapSeq (·.push Value.none)) hS2 rfl
  refine wpAny_updateSeq (hz := by seq_fits) hS₂ rfl ?_
  have hS₃ := Heap.get?_update_self (Obj.mapSeq (·.pop)) hS₂ rfl
  have kk : ∀ b o, b ≠ s.heap.objs.size → h'.get? b = some o → ((h'.update s.heap.objs.size (Obj.mapSeq (·.push Value.none))).update s.heap.objs.size (Obj.mapSeq (·.pop))).get? b = some o := fun b o hb e =>
   (Heap.get?_update_other _ _ (Ne.symm hb)).trans ((Heap.get?_update_other _ _ (Ne.symm hb)).trans e)
  refine wpAny_pure ⟨plainId_quiet PySem.F.plain_extend_loop _, codeAny_mono (key _ _ (st.frame fun b hb o e => kk b o (fun q => hSf (q ▸ hb)) e) kk hS₃) ?_⟩
  rintro q s2 ⟨acc, c', rfl, pm', k', g', o', hS'⟩
  show wpAny _ A (load s.heap.objs.size >>= _) _ _ _
  refine wpAny_bind (wpAny_load hS' ?_)
  exact wpAny_pure (h s2 acc.toList pm' k' g' o')
 ·rintro q s2 ⟨acc, c', rfl, pm', k', g', o', hS'⟩
  show wpAny _ A (load s.heap.objs.size >>= _) _ _ _
  refine wpAny_bind (wpAny_load hS' ?_)
  exact wpAny_pure (h s2 acc.toList pm' k' g' o')
end
end Mine
end
-- text M1
section
namespace Mine
open PySem
section
variable {α : Type} {L : α → α → Bool}
theorem insB_perm (x : α) : ∀ ys : List α, (insB L x ys).Perm (x :: ys)
 | [] => List.Perm.refl _
 | y :: r => by
  unfold insB
  split
  ·exact List.Perm.refl _
  ·exact ((insB_perm x r).cons y).trans (List.Perm.swap x y r)
theorem isort_perm : ∀ xs : List α, (isort L xs).Perm xs
 | [] => List.Perm.refl _
 | x :: r => (insB_perm x _).trans ((isort_perm r).cons x)
theorem insB_sorted (O : Ord L) (x : α) : ∀ ys : List α, ys.Pairwise (fun a b => L b a = false) → (insB L x ys).Pairwise (fun a b => L b a = false)
 | [], _ => List.pairwise_singleton _ _
 | y :: r, h => by
  unfold insB
  have h' := List.pairwise_cons.mp h
  split
  ·rename_i q
   refine List.pairwise_cons.mpr ⟨fun z hz => ?_, h⟩
   rcases List.mem_cons.mp hz with rfl | hz
   ·exact O.asym _ _ q
   ·exact O.trans _ _ _ (O.asym _ _ q) (h'.1 z hz)
  ·rename_i q
   refine List.pairwise_cons.mpr ⟨fun z hz => ?_, insB_sorted O x r h'.2⟩
   rcases List.mem_cons.mp ((insB_perm x r).mem_iff.mp hz) with rfl | hz
   ·simpa using q
   ·exact h'.1 z hz
theorem isort_sorted (O : Ord L) : ∀ xs : List α, (isort L xs).Pairwise (fun a b => L b a = false)
 | [] => .nil
 | x :: r => insB_sorted O x _ (isort_sorted O r)
theorem sorted_uniq (tri : ∀ x y, L x y = false → L y x = false → x = y) {xs ys : List α} (p : xs.Perm ys) (h1 : xs.Pairwise (fun a b => L b a = false)) (h2 : ys.Pairwise (fun a b => L b a = false)) : xs = ys :=
 List.Perm.eq_of_pairwise (fun a b _ _ q1 q2 => tri a b q2 q1) h1 h2 p
end
theorem ltK_tri (x y : Int × List Str) (h1 : ltK x y = false) (h2 : ltK y x = false) : x = y := by
 unfold ltK at *
 by_cases e : x.1 = y.1
 ·rw [if_pos e] at h1; rw [if_pos e.symm] at h2
  exact Prod.ext e (ltL_tri h1 h2)
 ·rw [if_neg e] at h1; rw [if_neg fun q => e q.symm] at h2
  have := of_decide_eq_false h1; have := of_decide_eq_false h2
  lia
theorem nodup_len : ∀ {y x : List Str}, y.Nodup → (∀ a ∈ y, a ∈ x) → y.length ≤ x.length
 | [], x, _, _ => Nat.zero_le _
 | a :: r, x, hn, hs => by
  have hn' := List.nodup_cons.mp hn
  have ha := hs a (.head _)
  have := nodup_len (y := r) (x := x.erase a) hn'.2 fun b hb => (List.mem_erase_of_ne (fun (e : b = a) => hn'.1 (by rw [← e]; exact hb))).mpr (hs b (.tail _ hb))
  rw [List.length_erase_of_mem ha] at this
  have hp : 0 < x.length := List.length_pos_of_mem ha
  simp; lia
theorem nodup_full {y x : List Str} (hy : y.Nodup) (hx : x.Nodup) (hs : ∀ a ∈ y, a ∈ x) (hl : x.length ≤ y.length) : ∀ a ∈ x, a ∈ y := by
 intro a ha
 by_cases q : a ∈ y
 ·exact q
 ·have := nodup_len (y := a :: y) (x := x) (List.nodup_cons.mpr ⟨q, hy⟩) fun b hb => by
   rcases List.mem_cons.mp hb with rfl | hb
   ·exact ha
   ·exact hs b hb
  simp at this; lia
noncomputable def Ris (x : List Str) : Prop := x.Pairwise (fun a b => ltS a b = true)
theorem Ris.nodup {x : List Str} (h : Ris x) : x.Nodup := h.imp fun {a b} q e => by subst e; rw [ltS_ord.refl] at q; cases q
theorem Ris.srt {x : List Str} (h : Ris x) : x.Pairwise (fun a b => ltS b a = false) := h.imp fun {a b} q => ltS_ord.asym _ _ q
theorem Ris.of {x : List Str} (h : x.Pairwise (fun a b => ltS b a = false)) (hn : x.Nodup) : Ris x := (h.and hn).imp fun {a b} q => by
 cases e : ltS a b with
 | true => rfl
 | false => exact absurd (ltS_tri e q.1) q.2
theorem Ris.ext {x y : List Str} (hx : Ris x) (hy : Ris y) (h : ∀ a, a ∈ x ↔ a ∈ y) : x = y :=
 sorted_uniq (fun a b => ltS_tri) ((List.perm_ext_iff_of_nodup hx.nodup hy.nodup).mpr h) hx.srt hy.srt
theorem Ris.full {x y : List Str} (hx : Ris x) (hy : Ris y) (hs : ∀ a ∈ y, a ∈ x) (hl : x.length ≤ y.length) : x = y :=
 hx.ext hy fun a => ⟨nodup_full hy.nodup hx.nodup hs hl a, hs a⟩
theorem sortS_perm (xs : List Str) : (sortS xs).Perm xs := isort_perm xs
theorem mem_sortS {xs : List Str} {a : Str} : a ∈ sortS xs ↔ a ∈ xs := (sortS_perm xs).mem_iff
theorem sortS_len (xs : List Str) : (sortS xs).length = xs.length := (sortS_perm xs).length_eq
theorem sortS_ris {xs : List Str} (h : xs.Nodup) : Ris (sortS xs) := Ris.of (isort_sorted ltS_ord xs) ((sortS_perm xs).nodup_iff.mpr h)
theorem Ris.sort {x : List Str} (h : Ris x) : sortS x = x := sorted_uniq (fun a b => ltS_tri) (sortS_perm x) (isort_sorted ltS_ord x) h.srt
theorem foldl_stepAdd : ∀ (xs acc : List Str), (acc ++ xs).Nodup → xs.foldl stepAdd acc = acc ++ xs
 | [], acc, _ => by simp
 | x :: r, acc, h => by
  have hx : x ∉ acc := fun q => by
   have := (List.nodup_append.mp h).2.2 x q x (.head _)
   exact this rfl
  rw [List.foldl_cons, stepAdd, if_neg hx, foldl_stepAdd r (acc ++ [x]) (by simpa using h)]
  simp
theorem dedup_nodup {xs : List Str} (h : xs.Nodup) : dedup xs = xs := by
 have := foldl_stepAdd xs [] (by simpa using h)
 simpa [dedup] using this
theorem mem_foldl_stepAdd {a : Str} : ∀ (xs acc : List Str), a ∈ xs.foldl stepAdd acc ↔ a ∈ acc ∨ a ∈ xs
 | [], acc => by simp
 | x :: r, acc => by
  rw [List.foldl_cons, mem_foldl_stepAdd r]
  unfold stepAdd
  split
  ·rename_i q
   constructor
   ·rintro (h | h)
    ·exact .inl h
    ·exact .inr (.tail _ h)
   ·rintro (h | h)
    ·exact .inl h
    ·rcases List.mem_cons.mp h with rfl | h
     ·exact .inl q
     ·exact .inr h
  ·simp [or_assoc]
theorem mem_dedup {a : Str} {xs : List Str} : a ∈ dedup xs ↔ a ∈ xs := by
 unfold dedup; rw [mem_foldl_stepAdd]; simp
theorem nodup_foldl_stepAdd : ∀ (xs acc : List Str), acc.Nodup → (xs.foldl stepAdd acc).Nodup
 | [], acc, h => h
 | x :: r, acc, h => by
  rw [List.foldl_cons]
  refine nodup_foldl_stepAdd r _ ?_
  unfold stepAdd
  split
  ·exact h
  ·rename_i q
   exact List.nodup_append.mpr ⟨h, by simp, fun a ha b hb e => by simp at hb; subst hb; subst e; exact q ha⟩
theorem dedup_is_nodup (xs : List Str) : (dedup xs).Nodup := nodup_foldl_stepAdd xs [] .nil
theorem dedup_len_foldl : ∀ (xs acc : List Str), (xs.foldl stepAdd acc).length ≤ acc.length + xs.length
 | [], acc => by simp
 | x :: r, acc => by
  rw [List.foldl_cons]
  have := dedup_len_foldl r (stepAdd acc x)
  have : (stepAdd acc x).length ≤ acc.length + 1 := by unfold stepAdd; split <;> simp
  simp; lia
theorem dedup_len (xs : List Str) : (dedup xs).length ≤ xs.length := by have := dedup_len_foldl xs []; simpa [dedup] using this
noncomputable def lk (x : List Str) : Int × List Str := ((x.length : Int), x)
noncomputable def ltR2 (x y : List Str) : Bool := ltK (lk x) (lk y)
theorem ltR2_ord : Ord ltR2 := ltK_ord.on lk
theorem ltR2_tri (x y : List Str) (h1 : ltR2 x y = false) (h2 : ltR2 y x = false) : x = y := congrArg Prod.snd (ltK_tri _ _ h1 h2)
theorem ltR2_len {x y : List Str} (h : ltR2 x y = false) : y.length ≤ x.length := by
 unfold ltR2 ltK lk at h
 dsimp only at h
 by_cases e : (x.length : Int) = y.length
 ·lia
 ·rw [if_neg e] at h
  have := of_decide_eq_false h
  lia
noncomputable def wi (x y : List Str) : Bool := x.all fun n => decide (n ∈ y)
noncomputable def me (x y : List Str) : Bool := x.any fun n => decide (n ∈ y)
theorem wi_iff {x y : List Str} : wi x y = true ↔ ∀ n ∈ x, n ∈ y := by simp [wi]
noncomputable def gstep (found : List (List Str)) (one : List Str) : List (List Str) := if (found.any fun o => wi o one) = true then found else found ++ [one]
structure Good (P : List Str → Prop) (T : List (List Str)) : Prop where
 ok : ∀ t ∈ T, P t
 cov : ∀ z, P z → ∃ t ∈ T, ∀ n ∈ t, n ∈ z
 anti : ∀ t ∈ T, ∀ u ∈ T, (∀ n ∈ t, n ∈ u) → t = u
 ord : T.Pairwise (fun a b => ltR2 a b = true)
theorem ltR2_irr {x : List Str} : ltR2 x x = false := ltR2_ord.refl x
theorem ord_nodup {T : List (List Str)} (h : T.Pairwise (fun a b => ltR2 a b = true)) : T.Nodup := h.imp fun {a b} q e => by subst e; rw [ltR2_irr] at q; cases q
theorem Good.uniq {P : List Str → Prop} {T U : List (List Str)} (hP : ∀ z, P z → Ris z) (h : Good P T) (k : Good P U) : T = U := by
 have half : ∀ {T U : List (List Str)}, Good P T → Good P U → ∀ x ∈ T, x ∈ U := by
  intro T U h k x hx
  obtain ⟨t, ht, h1⟩ := k.cov x (h.ok x hx)
  obtain ⟨t', ht', h2⟩ := h.cov t (k.ok t ht)
  have e : t' = x := h.anti _ ht' _ hx fun n hn => h1 n (h2 n hn)
  subst e
  have : t' = t := (hP _ (h.ok _ hx)).ext (hP _ (k.ok _ ht)) fun a => ⟨h2 a, h1 a⟩
  subst this; exact ht
 exact sorted_uniq ltR2_tri ((List.perm_ext_iff_of_nodup (ord_nodup h.ord) (ord_nodup k.ord)).mpr fun a => ⟨half h k a, half k h a⟩) (h.ord.imp fun {a b} q => ltR2_ord.asym _ _ q) (k.ord.imp fun {a b} q => ltR2_ord.asym _ _ q)
structure GInv (D found : List (List Str)) : Prop where
 sub : ∀ t ∈ found, t ∈ D
 cov : ∀ z ∈ D, ∃ t ∈ found, ∀ n ∈ t, n ∈ z
 anti : ∀ t ∈ found, ∀ u ∈ found, (∀ n ∈ t, n ∈ u) → t = u
 ord : found.Pairwise (fun a b => ltR2 a b = true)
theorem GInv.step {D found : List (List Str)} {x : List Str} (h : GInv D found) (hR : ∀ z ∈ D, Ris z) (hx : Ris x) (hs : ∀ z ∈ D, ltR2 x z = false) : GInv (D ++ [x]) (gstep found x) := by
 unfold gstep
 split
 ·rename_i q
  obtain ⟨t, ht, hw⟩ := List.any_eq_true.mp q
  refine ⟨fun t ht => List.mem_append_left _ (h.sub t ht), fun z hz => ?_, h.anti, h.ord⟩
  rcases List.mem_append.mp hz with hz | hz
  ·exact h.cov z hz
  ·have : z = x := by simpa using hz
   subst this
   exact ⟨t, ht, wi_iff.mp hw⟩
 ·rename_i q
  have no : ∀ t ∈ found, ¬ ∀ n ∈ t, n ∈ x := fun t ht hw => q (List.any_eq_true.mpr ⟨t, ht, wi_iff.mpr hw⟩)
  refine ⟨fun t ht => ?_, fun z hz => ?_, fun t ht u hu hw => ?_, ?_⟩
  ·rcases List.mem_append.mp ht with ht | ht
   ·exact List.mem_append_left _ (h.sub t ht)
   ·exact List.mem_append_right _ ht
  ·rcases List.mem_append.mp hz with hz | hz
   ·obtain ⟨t, ht, hw⟩ := h.cov z hz
    exact ⟨t, List.mem_append_left _ ht, hw⟩
   ·exact ⟨z, List.mem_append_right _ hz, fun n hn => hn⟩
  ·rcases List.mem_append.mp ht with ht1 | ht1 <;> rcases List.mem_append.mp hu with hu1 | hu1
   ·exact h.anti t ht1 u hu1 hw
   ·have e : u = x := by simpa using hu1
    subst e
    exact absurd hw (no t ht1)
   ·have e : t = x := by simpa using ht1
    subst e
    have hz := h.sub u hu1
    have := (hR u hz).full hx hw (ltR2_len (hs u hz))
    exact this.symm
   ·have e : t = x := by simpa using ht1
    have e' : u = x := by simpa using hu1
    rw [e, e']
  ·refine List.pairwise_append.mpr ⟨h.ord, List.pairwise_singleton _ _, fun a ha b hb => ?_⟩
   have e : b = x := by simpa using hb
   subst e
   cases q2 : ltR2 a b with
   | true => rfl
   | false =>
    have := ltR2_tri a b q2 (hs a (h.sub a ha))
    subst this
    exact absurd (fun n hn => hn) (no a ha)
theorem GInv.all : ∀ (R D found : List (List Str)), GInv D found → (∀ z ∈ D ++ R, Ris z) → (D ++ R).Pairwise (fun a b => ltR2 b a = false) → GInv (D ++ R) (R.foldl gstep found)
 | [], D, found, h, _, _ => by simpa using h
 | x :: r, D, found, h, hR, hs => by
  have h1 := h.step (x := x) (fun z hz => hR z (List.mem_append_left _ hz)) (hR x (by simp)) fun z hz => (List.pairwise_append.mp hs).2.2 z hz x (.head _)
  have := GInv.all r (D ++ [x]) (gstep found x) h1 (by simpa using hR) (by simpa using hs)
  simpa using this
end Mine
end
-- text U3
section
namespace Mine
open PySem PySem.Calls PyProof.Rows PySem.W
theorem vrs_of_strs : ∀ {ws : List Value}, (∀ v ∈ ws, ∃ x t, v = .str x t ∧ PyData.strOk x = true) → VRs ws ((ws.map strOf).map AV.str)
 | [], _ => .nil
 | v :: r, h => by
  obtain ⟨x, t, rfl, ok⟩ := h v (.head _)
  exact .cons (.str x t ok) (vrs_of_strs fun u hu => h u (.tail _ hu))
theorem strsAre_of : ∀ {ws : List Value}, (∀ v ∈ ws, ∃ x t, v = .str x t ∧ PyData.strOk x = true) → StrsAre ws (ws.map strOf)
 | [], _ => .nil
 | v :: r, h => by
  obtain ⟨x, t, rfl, ok⟩ := h v (.head _)
  exact .cons x t (strsAre_of fun u hu => h u (.tail _ hu))
theorem vrs_of_ints : ∀ {ws : List Value}, (∀ v ∈ ws, ∃ x t, v = .int x t) → VRs ws ((ws.map intOf).map AV.int)
 | [], _ => .nil
 | v :: r, h => by
  obtain ⟨x, t, rfl⟩ := h v (.head _)
  exact .cons (.int x t) (vrs_of_ints fun u hu => h u (.tail _ hu))
theorem intsAre_of : ∀ {ws : List Value}, (∀ v ∈ ws, ∃ x t, v = .int x t) → IntsAre ws (ws.map intOf)
 | [], _ => .nil
 | v :: r, h => by
  obtain ⟨x, t, rfl⟩ := h v (.head _)
  exact .cons x t (intsAre_of fun u hu => h u (.tail _ hu))
theorem strs_of_vrs : ∀ {ws : List Value} {xs : List Str}, VRs ws (xs.map AV.str) → (∀ v ∈ ws, ∃ x t, v = .str x t ∧ PyData.strOk x = true) ∧ ws.map strOf = xs
 | [], [], _ => ⟨fun _ h => (nomatch h), rfl⟩
 | [], _ :: _, h => by cases h
 | _ :: _, [], h => by cases h
 | v :: r, x :: q, .cons h hs => by
  obtain ⟨h1, h2⟩ := strs_of_vrs hs
  cases h with
  | str _ t ok =>
   refine ⟨fun u hu => ?_, by rw [List.map_cons, h2]; rfl⟩
   rcases List.mem_cons.mp hu with rfl | hu
   ·exact ⟨x, t, rfl, ok⟩
   ·exact h1 u hu
section
variable {S : St} {C : Cx} {A : Around} {H : AH} {s : Shared} {Q : QV}
theorem fin_strs {vs : List Value} {xs : List Str} (I : Inv S C H s) (hv : ∀ v ∈ vs, ∃ x t, v = .str x t ∧ PyData.strOk x = true) (hp : (vs.map strOf).Perm xs) (hl : vs.length ≤ sizeLine) (h : ∀ r, H r = none → Q (.ref r) (H.put r (.list ((sortS xs).map AV.str)))) :
  ∀ ws : List Value, ws.Perm vs → Srt (fun v u => ltS (strOf v) (strOf u)) ws → ∀ s2 D e, s.heap.get? D = none → (∀ b o, s.heap.get? b = some o → s2.heap.get? b = some o) → s2.gens = s.gens → s2.os = s.os → s2.heap.get? D = some { cls := .type "list", data := .seq ws.toArray e } → PostV S C Q (.ref D) s2 := by
 intro ws pm hs s2 D e hD hk hg ho hw
 have e1 : ws.map strOf = sortS xs := sorted_uniq (fun a b => ltS_tri) (((pm.map strOf).trans hp).trans (sortS_perm xs).symm) (List.pairwise_map.mpr hs) (isort_sorted ltS_ord xs)
 have hv' : ∀ v ∈ ws, ∃ x t, v = .str x t ∧ PyData.strOk x = true := fun v h => hv v (pm.mem_iff.mp h)
 have hr := vrs_of_strs hv'
 rw [e1] at hr
 exact ⟨_, _, .ref D, I.add (o := .list ((sortS xs).map AV.str)) hD hk ⟨ws, e, hw, hr, by rw [pm.length_eq]; exact hl⟩ hg ho, h D (I.fresh hD).1⟩
theorem kind_strs {vs : List Value} (hv : ∀ v ∈ vs, ∃ x t, v = .str x t ∧ PyData.strOk x = true) (h2 : 2 ≤ vs.length) {M : Model} {A : Around} {E : Value → Shared → Prop} {s : Shared} {Q : SortKind → Shared → Prop} (h : Q oneType' s) : wpAny M A (keyKind' vs.toArray) Q E s := by
 match vs, h2 with
 | v₁ :: v₂ :: r, _ =>
  rw [keyKind_strs (strsAre_of hv)]
  exact wpAny_pure h
theorem kind_ints {vs : List Value} (hv : ∀ v ∈ vs, ∃ x t, v = .int x t) (h2 : 2 ≤ vs.length) {M : Model} {A : Around} {E : Value → Shared → Prop} {s : Shared} {Q : SortKind → Shared → Prop} (h : Q oneType' s) : wpAny M A (keyKind' vs.toArray) Q E s := by
 match vs, h2 with
 | v₁ :: v₂ :: r, _ =>
  rw [keyKind_ints (intsAre_of hv)]
  exact wpAny_pure h
end
theorem ltI_ord : Ord (fun (a b : Int) => decide (a < b)) := ⟨fun x y h => by have := of_decide_eq_true h; exact decide_eq_false (by lia), fun x y z h1 h2 => by have w1 := of_decide_eq_false h1; have w2 := of_decide_eq_false h2; exact decide_eq_false (by lia)⟩
theorem bSorted_ok {S : St} (K : StOK S) : BFnOK S true (.builtin "sorted") bSorted := by
 rintro C A vs avs H Q E s hh hu r I ⟨a, o, rfl, ha, h⟩
 obtain ⟨_, rfl, r0⟩ := r.one
 cases r0.ref_inv
 have hcl : cLine = 9900 := rfl
 cases o with
 | sset xs =>
  obtain ⟨es, ep, t, ys, ho, hel, pm, nd, hb, hf, hled, hpl⟩ := I.objs a _ ha
  have hsz : es.size ≤ sizeLine := by
   have : scanBound = 4096 := rfl
   have : sizeLine = 16777216 := rfl
   lia
  have hvals : ∀ {l : List (Int × Value)} {ys : List Str}, SRs S.w l ys → (∀ v ∈ l.map (·.2), ∃ x t, v = .str x t ∧ PyData.strOk x = true) ∧ (l.map (·.2)).map strOf = ys := by
   intro l ys h
   induction h with
   | nil => exact ⟨fun _ h => (nomatch h), rfl⟩
   | @cons x t vs xs ok _ ih =>
    refine ⟨fun v hv => ?_, by simp only [List.map_cons]; rw [ih.2]; rfl⟩
    rcases List.mem_cons.mp hv with rfl | hv
    ·exact ⟨x, t, rfl, ok⟩
    ·exact ih.1 v hv
  obtain ⟨v1, v2⟩ := hvals hel
  refine sorted_any (κ := oneType') (L := fun x y => ltS (strOf x.1) (strOf y.1)) fun A' ha' hu' => ?_
  refine collect_set (ha'.trans (hh rfl)) ho hf hled hpl hsz fun s1 ws pw k1 g1 o1 => ?_
  have hv : ∀ v ∈ ws, ∃ x t, v = .str x t ∧ PyData.strOk x = true := fun v h => v1 v (pw.mem_iff.mp h)
  have hl : ws.length ≤ sizeLine := by rw [pw.length_eq, List.length_map, Array.length_toList]; exact hsz
  have hl64 : ws.length < 64 := by
   have e1 := congrArg List.length v2
   rw [List.length_map] at e1
   rw [pw.length_eq, e1, pm.length_eq]; exact h.1
  replace h := h.2
  refine ⟨k1, g1, o1, hl64, fun A2 _ s' _ h2 Q' E' hq => kind_strs hv h2 hq, fun A2 _ s' _ E' => ⟨UStr, fun v hv' => ?_, cmpS⟩, ?_⟩
  ·obtain ⟨x, t, e, _⟩ := hv v hv'
   exact ⟨x, t, e⟩
  ·exact fin_strs I hv ((pw.map strOf).trans (by rw [v2]; exact pm)) hl h
 | idict es =>
  obtain ⟨kvs, ep, hd, hp, hl⟩ := I.objs a _ ha
  have lo : (a == sysModules) = false := by
   obtain ⟨o, ho⟩ := K.sys
   have := (I.sepH a _ ha).2 rfl
   by_cases q : a = sysModules
   ·rw [q, ho] at this; cases this
   ·simpa using q
  have hkeys : ∀ {kvs : List (Int × Value)} {es : List (Int × AV)}, PRs kvs es → kvs.map (·.1) = es.map (·.1) := by
   intro kvs es h
   induction h with
   | nil => rfl
   | cons _ _ ih => simp only [List.map_cons]; rw [ih]
  refine sorted_any (κ := oneType') (L := fun x y => decide (intOf x.1 < intOf y.1)) fun A' ha' hu' => ?_
  refine kdu_collect (kdl_dict lo) (ha'.trans (hh rfl)) hd hl fun h' tk acc k1 hacc => ?_
  have hv : ∀ v ∈ acc.toList, ∃ x t, v = .int x t := fun v hv => by
   obtain ⟨j, hj, e⟩ := List.getElem_of_mem hv
   have hj' : j < acc.size := by simpa using hj
   obtain ⟨k, x, _, hk⟩ := hacc.2 j v (by rw [Array.getElem?_eq_getElem hj', ← e]; simp)
   obtain ⟨t, rfl⟩ := Value.isInt_shape hk
   exact ⟨k, t, rfl⟩
  have hm : acc.toList.map intOf = es.map (·.1) := by
   rw [← hkeys hp]
   apply List.ext_getElem?
   intro j
   by_cases hj : j < acc.size
   ·obtain ⟨k, x, hx, hk⟩ := hacc.2 j acc[j] (Array.getElem?_eq_getElem hj)
    obtain ⟨t, et⟩ := Value.isInt_shape hk
    rw [List.getElem?_map, List.getElem?_map, Array.getElem?_toList, Array.getElem?_eq_getElem hj, hx, et]; rfl
   ·have := hacc.1
    rw [List.getElem?_eq_none (by simp; lia), List.getElem?_eq_none (by simp; lia)]
  have hl' : acc.toList.length ≤ sizeLine := by rw [Array.length_toList, hacc.1]; exact hl
  have hl64 : acc.toList.length < 64 := by
   have e1 := congrArg List.length hm
   rw [List.length_map, List.length_map] at e1
   rw [e1]; exact h.1
  replace h := h.2
  refine ⟨k1, rfl, rfl, hl64, fun A2 _ s' _ h2 Q' E' hq => kind_ints hv h2 hq, fun A2 _ s' _ E' => ⟨UInt, fun v hv' => hv v hv', cmpI⟩, ?_⟩
  intro ws pm hs s2 D e hD hk hg ho hw
  have e1 : ws.map intOf = sortI (es.map (·.1)) := by
   refine sorted_uniq (L := fun (a b : Int) => decide (a < b)) (fun a b h1 h2 => ?_) ((pm.map intOf).trans ?_) (List.pairwise_map.mpr hs) (isort_sorted ltI_ord _)
   ·have := of_decide_eq_false h1; have := of_decide_eq_false h2; lia
   ·rw [hm]; exact (isort_perm _).symm
  have hr := vrs_of_ints fun v h => hv v (pm.mem_iff.mp h)
  rw [e1] at hr
  exact ⟨_, _, .ref D, I.add (o := .list ((sortI (es.map (·.1))).map AV.int)) hD hk ⟨ws, e, hw, hr, by rw [pm.length_eq]; exact hl'⟩ hg ho, h D (I.fresh hD).1⟩
 | list xs =>
  obtain ⟨ws, n, g, q, hl⟩ := I.list ha
  obtain ⟨xs, rfl, h64, h⟩ := h
  have hl64 : ws.length < 64 := by rw [q.length, List.length_map]; exact h64
  obtain ⟨hv, hm⟩ := strs_of_vrs q
  refine sorted_any (κ := oneType') (L := fun x y => ltS (strOf x.1) (strOf y.1)) fun A' ha' hu' => ?_
  refine collect_is g hl fun s1 k1 g1 o1 => ?_
  refine ⟨k1, g1, o1, hl64, fun A2 _ s' _ h2 Q' E' hq => kind_strs hv h2 hq, fun A2 _ s' _ E' => ⟨UStr, fun v hv' => ?_, cmpS⟩, ?_⟩
  ·obtain ⟨x, t, e, _⟩ := hv v hv'
   exact ⟨x, t, e⟩
  ·exact fin_strs I hv (by rw [hm]) hl h
 | _ => exact h.elim
end Mine
end
-- text N1
section
namespace Mine
open PySem PySem.Builtin PySem.Builtin.Str
noncomputable def jn (c : Nat) : List (List Nat) → List Nat
 | [] => []
 | [p] => p
 | p :: q :: r => p ++ c :: jn c (q :: r)
noncomputable abbrev tx (l : List Nat) : Str := ⟨l.toArray⟩
end Mine
end
-- text C1
section
open PySem PySem.Calls PyProof.Rows PySem.W
namespace Mine
structure Cls (S : St) (K : Frag) : Prop where
 makes : makesIn K S.book = true
 ga : findIn K (.ref S.book) "__getattribute__" = some (some (.builtin "object.__getattribute__"))
 gk : findIn K (.ref S.book) "__getattr__" = some none
 sa : findIn K (.ref S.book) "__setattr__" = some (some (.builtin "object.__setattr__"))
 over : plainOver K S.book = true
 dict : (clsIn K S.book).any (·.hasDict) = true
 keep : keepIn K (.ref S.book) = true
noncomputable def putA : List (Str × AV) → Str → AV → List (Str × AV)
 | [], x, v => [(x, v)]
 | (y, w) :: r, x, v => if y = x then (y, v) :: r else (y, w) :: putA r x v
noncomputable def getA : List (Str × AV) → Str → Option AV
 | [], _ => none
 | (y, w) :: r, x => if y = x then some w else getA r x
theorem isStr_str (x y : Str) (t : Tok) : Value.isStr (.str x t) y = decide (x = y) := by
 simp only [Value.isStr]
 by_cases e : x = y <;> simp [e]
theorem kvs_some : ∀ {des : List DictEntry} {es : List (Str × AV)}, KVs des es → ∀ {name : Str} {a : AV}, getA es name = some a → ∃ e, des.find? (·.key.isStr name) = some e ∧ VR e.val a
 | _, _, .nil, name, a, h => by cases h
 | _, _, @KVs.cons hh x t v b des es r rs, name, a, h => by
  unfold getA at h
  by_cases q : x = name
  ·rw [if_pos q] at h; cases h
   refine ⟨⟨hh, .str x t, v⟩, ?_, r⟩
   simp [List.find?, isStr_str, q]
  ·rw [if_neg q] at h
   obtain ⟨e, h1, h2⟩ := kvs_some rs h
   exact ⟨e, by simp only [List.find?, isStr_str, q, decide_false]; exact h1, h2⟩
theorem kvs_none : ∀ {des : List DictEntry} {es : List (Str × AV)}, KVs des es → ∀ {name : Str}, getA es name = none → des.find? (·.key.isStr name) = none
 | _, _, .nil, name, h => rfl
 | _, _, @KVs.cons hh x t v b des es r rs, name, h => by
  unfold getA at h
  by_cases q : x = name
  ·rw [if_pos q] at h; cases h
  ·rw [if_neg q] at h
   simp only [List.find?, isStr_str, q, decide_false]; exact kvs_none rs h
theorem kvs_ref : ∀ {des : List DictEntry} {es : List (Str × AV)}, KVs des es → des.any (·.refKey) = false
 | _, _, .nil => rfl
 | _, _, .cons r rs => by rw [List.any_cons, kvs_ref rs]; rfl
theorem kvs_put : ∀ {des : List DictEntry} {es : List (Str × AV)}, KVs des es → ∀ {name : Str} {h : Int} {t : Tok} {v : Value} {a : AV}, VR v a →
  KVs (putIn (·.key.isStr name) (fun e => { e with val := v }) ⟨h, .str name t, v⟩ des) (putA es name a)
 | _, _, .nil, name, h, t, v, a, r => .cons r .nil
 | _, _, @KVs.cons hh x tx vx b des es rx rs, name, h, t, v, a, r => by
  unfold putA
  by_cases q : x = name
  ·rw [if_pos q, putIn_hit _ _ _ _ _ (by simp [isStr_str, q])]
   exact .cons r rs
  ·rw [if_neg q, putIn_miss _ _ _ _ _ (by simp [isStr_str, q])]
   exact .cons rx (kvs_put rs r)
theorem kvs_len : ∀ {des : List DictEntry} {es : List (Str × AV)}, KVs des es → des.length = es.length
 | _, _, .nil => rfl
 | _, _, .cons _ rs => by simp [kvs_len rs]
theorem putA_len (es : List (Str × AV)) (x : Str) (v : AV) : (putA es x v).length ≤ es.length + 1 := by
 induction es with
 | nil => simp [putA]
 | cons p r ih =>
  obtain ⟨y, w⟩ := p
  unfold putA
  split
  ·simp
  ·simp; omega
section
variable {S : St} {C : Cx} {H : AH} {s : Shared} {K : Frag}
theorem Inv.inst (I : Inv S C H s) {a d : Addr} {es : List (Str × AV)} (ha : H a = some (.inst d)) (hd : H d = some (.attrs es)) :
  ∃ od des n, InstAt s.heap a { cls := .ref S.book, dict := some d, data := .plain } S.book (some od) ∧ s.heap.get? d = some od ∧ od = { cls := .type "dict", data := .dict des n } ∧ KVs des.toList es := by
 have h1 : s.heap.get? a = some { cls := .ref S.book, dict := some d, data := .plain } := I.objs a _ ha
 obtain ⟨des, n, h2, h3⟩ := I.objs d _ hd
 exact ⟨_, des, n, ⟨h1, rfl, rfl, h2⟩, h2, rfl, h3⟩
theorem look_some {des : Array DictEntry} {n : Nat} {es : List (Str × AV)} (h : KVs des.toList es) {name : Str} {a : AV} (e : getA es name = some a) : ∃ v, lookIn name { cls := .type "dict", data := .dict des n } = some (some v) ∧ VR v a := by
 obtain ⟨en, h1, h2⟩ := kvs_some h e
 exact ⟨en.val, by unfold lookIn; dsimp only; rw [h1], h2⟩
theorem look_none {des : Array DictEntry} {n : Nat} {es : List (Str × AV)} (h : KVs des.toList es) {name : Str} (e : getA es name = none) : lookIn name { cls := .type "dict", data := .dict des n } = some none := by
 unfold lookIn
 dsimp only
 rw [kvs_none h e]
 dsimp only
 rw [kvs_ref h]; rfl
theorem handed_VR {v : Value} {a : AV} (h : VR v a) : handedIn v = true := by cases h <;> rfl
theorem findObj_val (CL : Cls S K) {od : Obj} {name : Str} {v : Value} (hn : findIn K (.ref S.book) name = some none) (hl : lookIn name od = some (some v)) : findObj K S.book (some od) name = some (.value v) := by
 obtain ⟨cd, hc, hd⟩ := any_some CL.dict
 unfold findObj
 rw [hc, hn]
 simp only [Option.bind_some]
 simp [W.ownOf, hd, hl]
end
section
variable {S : St} {b : Bool} {d : Nat} {sc : Kd} {ρ : Rho} {K : Frag}
noncomputable def tAttr (attr : Str) (t : Tm) : Tm := fun m H Q X => t m H (fun x H1 => ∃ a d es v, x = .ref a ∧ H1 a = some (.inst d) ∧ H1 d = some (.attrs es) ∧ getA es attr = some v ∧ Q v H1) X
theorem sE_attr {x attr : Str} {xp pos : Pos} {t : Tm} (EL : EnvL S K) (CL : Cls S K) (h1 : SoundE S b d sc ρ (.Name x xp) t) (hn : findIn K (.ref S.book) attr = some none) :
  SoundE S b d sc ρ (.Attribute (.Name x xp) attr pos) (tAttr attr t) := by
 intro C A env m H Q X E s R O hk V I h hE
 refine Attribute_Name_ (wpAny_mono (h1 C A env m H _ X E s R O hk V I h hE) ?_ fun _ _ x => x)
 rintro ov s1 ⟨x, H1, r1, I1, a, dd, es, v, rfl, ha, hd, hg, q⟩
 cases r1
 obtain ⟨od, des, n, IA, _, rfl, kv⟩ := I1.inst ha hd
 obtain ⟨w, hl, hw⟩ := look_some kv hg
 exact get_value (EL.X.keeps I1.base) IA CL.ga (findObj_val CL hn hl) (handed_VR hw) ⟨v, H1, hw, I1.toks _, q⟩
noncomputable def tMcall (name : Str) (F : Fn) (t : Tm) (ts : Tms) : Tm := fun m H Q X => t m H (fun x H1 => ∃ a d es, x = .ref a ∧ H1 a = some (.inst d) ∧ H1 d = some (.attrs es) ∧ getA es name = none ∧ ts m H1 (fun vs H2 => F (x :: vs) H2 Q X) X) X
theorem sE_mcall {o : Expr} {name : Str} {apos pos : Pos} {args : List Expr} {f : Addr} {F : Fn} {t : Tm} {ts : Tms} (EL : EnvL S K) (CL : Cls S K) (hF : SoundF S b d (.ref f) F) (h1 : SoundE S b d sc ρ o t) (h2 : SoundEs S b d sc ρ args ts)
  (hbase : ∀ env, attributeBase o name env (eval o env) = eval o env) (hline : (apos.endLine == pos.line) = true) (hs : noStar args = true) (hn : args.length < 29)
  (hf : findIn K (.ref S.book) name = some (some (.ref f))) (ht : typeIn K (.ref f) = some (.type "function")) (hkp : keepIn K (.ref f) = true) :
  SoundE S b d sc ρ (.Call (.Attribute o name apos) args [] pos) (tMcall name F t ts) := by
 intro C A env m H Q X E s R O hk V I h hE
 have hfew : ((backTo pos (starEach args env)).all (fun x => !x.1) && (backToKw pos (keywordEach [] env)).all (fun x => x.1.isSome)
   && decide (args.length + ([] : List Keyword).length + (if ([] : List Keyword).isEmpty then 0 else 1) < 30)) = true := by
  rw [backTo_plain hs]
  have e : (backToKw pos (keywordEach [] env)) = [] := rfl
  rw [e]; simp; omega
 rw [arm_eval_Call, hbase env]
 refine wpAny_bind (wpAny_mono (h1 C A env m H _ X E s R O hk V I h hE) ?_ fun _ _ x => x)
 rintro ov s1 ⟨x, H1, r1, I1, a, dd, es, rfl, ha, hd, hg, q⟩
 cases r1
 obtain ⟨od, des, n, IA, _, rfl, kv⟩ := I1.inst ha hd
 have hl := look_none (n := n) kv hg
 refine wpAny_bind (wpAny_standAt ?_)
 have hform : methodCallForm (args.length + ([] : List Keyword).length) (backTo pos (starEach args env)) (backToKw pos (keywordEach [] env)) = true := hfew
 have hpos : methodCallPos true o env apos pos = pure pos := by unfold methodCallPos; simp [hline]
 unfold methodCall
 rw [hform]
 refine wpAny_bind (wpAny_holding (method_fn (EL.X.keeps I1.base) IA CL.ga CL.gk hf ht (by unfold shadowIn; dsimp only; rw [hl]; rfl) ?_))
 refine wpAny_bind (wpAny_of_eq hpos ?_)
 refine callWith_of (P := fun h => K.In h) (by rw [backTo_any hs]; rfl) (fun h X => keeps_K hkp h X) (evalArgs_of hs (wpAny_mono (h2 C A env m H1 _ X E s1 pos R O hk V I1 q hE) ?_ fun _ _ x => x))
 rintro vs s2 ⟨avs, H2, r2, I2, q2⟩
 refine ⟨EL.X.keeps I2.base, wpAny_call (codeAny_mono (hF C A (.ref a :: vs) (.ref a :: avs) H2 Q X s2 R (.of_env O) (.cons (.ref a) r2) I2 q2) ?_)⟩
 intro r s3 hr
 cases r with
 | error e => obtain ⟨x, H3, hx, hr⟩ := hr; exact hE x H3 e s3 hx hr
 | ok fl => cases fl <;> first | exact hr | exact hr.elim
noncomputable def tMake (F : Fn) : Tm := fun m H Q X => ∀ x d, H x = none → H d = none → x ≠ d → F [.ref x] ((H.put d (.attrs [])).put x (.inst d)) (fun v H' => v = .none ∧ Q (.ref x) H') X
theorem sE_make {f : Str} {fI : Addr} {p pos : Pos} {F : Fn} (EL : EnvL S K) (CL : Cls S K) (hF : SoundF S b d (.ref fI) F) (hx : sc f = some .globalImplicit) (hv : S.mg f = some (.ref S.book)) (hd : (f == ("__debug__" : Str)) = false)
  (hi : findIn K (.ref S.book) "__init__" = some (some (.ref fI))) (hf : typeIn K (.ref fI) = some (.type "function")) : SoundE S b (d + 1) sc ρ (.Call (.Name f p) [] [] pos) (tMake F) := by
 intro C A env m H Q X E s R O hk V I h hE
 refine wpAny_Call_NameR (load_global EL.KS O I ((hk f).trans hx) hv hd ?_)
 refine callWith_of (P := fun h => K.In h) rfl (fun h X => keeps_K CL.keep h X) (PySem.evalArgs_none ⟨EL.X.keeps I.base, ?_⟩)
 refine wpAny_call ?_
 obtain ⟨hh, g, dr, t, os⟩ := s
 refine make_core (makes_of (EL.X.keeps I.base) CL.makes) (looks_findIn (EL.X.keeps I.base) hi) (fun self => bind_fn (EL.X.keeps I.base) self hf) (.inl rfl) ?_
 have n0 : hh.get? hh.objs.size = none := Heap.get?_none_of_le (Nat.le_refl _)
 have I1 : Inv S C (H.put hh.objs.size (.attrs [])) ⟨hh.push emptyDict, g, dr, t, os⟩ := I.add (s' := ⟨hh.push emptyDict, g, dr, t, os⟩) n0 (fun b o e => Heap.get?_push_of_some _ e) ⟨#[], 0, Heap.get?_push_size _ rfl, .nil⟩ rfl rfl
 have n1 : (hh.push emptyDict).get? (hh.objs.size + 1) = none := Heap.get?_none_of_le (by rw [Heap.size_push]; exact Nat.le_refl _)
 have I2 : Inv S C ((H.put hh.objs.size (.attrs [])).put (hh.objs.size + 1) (.inst hh.objs.size)) ⟨(hh.push emptyDict).push (instObj S.book hh.objs.size), g, dr, t, os⟩ := by
  refine I1.add (s' := ⟨(hh.push emptyDict).push (instObj S.book hh.objs.size), g, dr, t, os⟩) n1 (fun b o e => Heap.get?_push_of_some _ e) ?_ rfl rfl
  show ((hh.push emptyDict).push (instObj S.book hh.objs.size)).get? (hh.objs.size + 1) = some _
  have := Heap.get?_push_size (hh.push emptyDict) (o := instObj S.book hh.objs.size) rfl
  rw [Heap.size_push] at this; exact this
 have w1 : Code.weight (.builtin "type.__call__" ⟨[.ref S.book], []⟩) = 1 := by kernel_rfl
 have w2 : Code.cUnits (.builtin "type.__call__" ⟨[.ref S.book], []⟩) = 1 := by kernel_rfl
 have w3 : Code.envs (.builtin "type.__call__" ⟨[.ref S.book], []⟩) = [] := by kernel_rfl
 have q := h (hh.objs.size + 1) hh.objs.size ((Inv.fresh I (Heap.get?_none_of_le (Nat.le_succ _))).1) (I.fresh n0).1 (Nat.succ_ne_self _)
 refine codeAny_mono (hF C (A.under (.builtin "type.__call__" ⟨[.ref S.book], []⟩)) [.ref (hh.objs.size + 1)] [.ref (hh.objs.size + 1)] _ _ X _ ⟨fun e => R.hd e, ?_, ?_⟩ ⟨?_, O.fun_⟩ (.cons (.ref _) .nil) I2 q) ?_
 ·have := R.depth
  show A.depth + Code.weight _ + 8 * d ≤ 600
  rw [w1]; omega
 ·have := R.units
  show A.units + Code.cUnits _ + 100 * d ≤ 9000
  rw [w2]; omega
 ·unfold Around.under
  dsimp only
  rw [w3, O.stack]; rfl
 intro r s3 hr
 cases r with
 | error e => obtain ⟨x, H3, hx, hr⟩ := hr; exact hE x H3 e s3 hx hr
 | ok fl =>
  cases fl with
  | ret v =>
   obtain ⟨av, H3, r3, I3, e3, q3⟩ := hr
   subst e3
   cases r3
   exact ⟨rfl, ⟨_, H3, .ref _, I3, q3⟩⟩
  | _ => exact hr.elim
end
end Mine
end
-- text C2
section
open PySem PySem.Calls PyProof.Rows PySem.W
namespace Mine
section
variable {S : St} {b : Bool} {d : Nat} {sc : Kd} {ρ : Rho} {K : Frag}
inductive AttrSetK (attr : Str) (v x : AV) (H : AH) (Q : AH → Prop) : Prop
 | mk (a d : Addr) (es : List (Str × AV)) : x = .ref a → H a = some (.inst d) → H d = some (.attrs es) → es.length < 900 → Q (H.put d (.attrs (putA es attr v))) → AttrSetK attr v x H Q
noncomputable def tAttrSet (attr : Str) (o t : Tm) : Ts := fun m H QN _ X => t m H (fun v H1 => o m H1 (fun x H2 => AttrSetK attr v x H2 (QN m)) X) X
theorem osa_mine {C : Cx} {A : Around} {H : AH} {s : Shared} {a dd : Addr} {es : List (Str × AV)} {attr : Str} {tk : Tok} {v : Value} {av : AV} {R : Result → Shared → Prop} (EL : EnvL S K) (CL : Cls S K) (I : Inv S C H s) (hn : findIn K (.ref S.book) attr = some none)
  (ha : H a = some (.inst dd)) (hd : H dd = some (.attrs es)) (hl : es.length < 900) (r : VR v av) (hQ : ∀ s', Inv S C (H.put dd (.attrs (putA es attr av))) s' → R (.ok (.ret .none)) s') :
  codeAny S.M A (.call (.builtin "object.__setattr__") ⟨[.ref a, .str attr tk, v], []⟩) R s := by
 obtain ⟨od, des, n, IA, D, rfl, kv⟩ := I.inst ha hd
 have X := EL.X.keeps I.base
 refine osa_open X IA CL.over (show takerIn K S.book attr = some none from by unfold takerIn; rw [hn]; rfl) fun b => ?_
 obtain ⟨cd, hc, hd'⟩ := any_some CL.dict
 have hx := IA.at_
 refine wpAny_bind (wpAny_pure (wpAny_bind (wpAny_bind (wpAny_loadPart hx (wpAny_bind ((looks_clsIn X hc).here ?_))))))
 rw [hd']
 refine wpAny_pure (a := some dd) (wpAny_bind (wpAny_pure (wpAny_bind ?_)))
 unfold nsSet
 refine wpAny_bind (wpAny_bind (wpAny_askSetting (wpAny_pure (wpAny_bind (wpAny_mkText (wpAny_bind (wpAny_loadPart D ?_)))))))
 have c : (!des.any (·.key.isStr attr) && des.any (·.refKey)) = false := by
  have z : des.any (·.refKey) = false := by rw [← Array.any_toList]; exact kvs_ref kv
  rw [z, Bool.and_false]
 dsimp only
 rw [aRefKeyMayBeTheName_at, c]
 refine wpAny_updatePart D ?_
 have e := putName_eq attr (PyData.keyHash S.w.params attr) (.str attr s.toks) v (.type "dict") none des.toList n #[]
 have kv' := kvs_put kv (name := attr) (h := PyData.keyHash S.w.params attr) (t := s.toks) r
 have len := kvs_len kv'
 have len2 := putA_len es attr av
 generalize hD : putIn (·.key.isStr attr) (fun e => { e with val := v }) ⟨PyData.keyHash S.w.params attr, .str attr s.toks, v⟩ des.toList = des' at e kv' len
 rw [Array.toArray_toList] at e
 have D' := Heap.get?_update_self (Obj.putName attr (PyData.keyHash S.w.params attr) (.str attr s.toks) v) D (by rw [e]; rfl)
 rw [e] at D'
 refine wpAny_bind (wpAny_lookBehind D' (pastItsLine_dict (by rw [List.size_toArray, sizeLine_eq]; omega)) ?_)
 refine wpAny_pure (hQ _ ?_)
 exact I.set (s' := { s with heap := s.heap.update dd _, toks := _ }) hd rfl (fun b ob nb e => (Heap.get?_update_other _ _ (Ne.symm nb)).trans e) ⟨des'.toArray, _, D', kv'⟩ rfl rfl
theorem set_attr {C : Cx} {A : Around} {H : AH} {s : Shared} {E : Value → Shared → Prop} {a dd : Addr} {es : List (Str × AV)} {attr : Str} {v : Value} {av : AV} {Q : Unit → Shared → Prop} (EL : EnvL S K) (CL : Cls S K) (I : Inv S C H s) (hn : findIn K (.ref S.book) attr = some none)
  (ha : H a = some (.inst dd)) (hd : H dd = some (.attrs es)) (hl : es.length < 900) (r : VR v av) (hQ : ∀ s', Inv S C (H.put dd (.attrs (putA es attr av))) s' → Q () s') : wpAny S.M A (setAttr (.ref a) attr v) Q E s := by
 obtain ⟨od, des, n, IA, D, rfl, kv⟩ := I.inst ha hd
 exact set_plain (EL.X.keeps I.base) IA CL.sa (osa_mine EL CL (I.toks _) hn ha hd hl r hQ)
theorem sT_attrSet {x attr : Str} {xp ap pos : Pos} {e : Expr} {o t : Tm} (EL : EnvL S K) (CL : Cls S K) (h0 : SoundE S b d sc ρ (.Name x xp) o) (h1 : SoundE S b d sc ρ e t) (hn : findIn K (.ref S.book) attr = some none)
  (hs : ∀ env, swapsWith e (some (.Attribute (.Name x xp) attr ap)) pos.line env = pure false) : SoundT S b d sc ρ (.Assign [.Attribute (.Name x xp) attr ap] e pos) (tAttrSet attr o t) := by
 intro C A env m H QN QR X E s R O hc hk' V I h hE
 refine plainObj_wpAny_Assign_Attribute (wpAny_mono (h1 C A env m H _ X E s R O hk' V I h (hE.ex O)) ?_ fun _ _ x => x) (hs env)
 rintro v s1 ⟨av, H1, r1, I1, q1⟩
 refine wpAny_mono (h0 C A env m H1 _ X E s1 R O hk' V I1 q1 (hE.ex O)) ?_ fun _ _ x => x
 rintro ov s2 ⟨x, H2, r2, I2, a, dd, es, rfl, ha, hd, hl, q2⟩
 cases r2
 exact set_attr EL CL I2 hn ha hd hl r1 fun s3 I3 => ⟨C, _, .refl env C, I3, m, O, V, q2⟩
noncomputable def tDict0 : Tm := fun m H Q X => ∀ r, H r = none → Q (.ref r) (H.put r (.idict []))
theorem sE_dict0 {pos : Pos} : SoundE S b d sc ρ (.Dict [] [] pos) tDict0 := by
 intro C A env m H Q X E s R O hk V I h hE
 have n0 : s.heap.get? s.heap.objs.size = none := Heap.get?_none_of_le (Nat.le_refl _)
 refine wpAny_Dict_empty ⟨_, _, .ref _, ?_, h _ (I.fresh n0).1⟩
 refine I.add (s' := { s with heap := s.heap.push { cls := .type "dict", data := .dict #[] } }) (o := .idict []) n0 (fun b o e => Heap.get?_push_of_some _ e) ?_ rfl rfl
 obtain ⟨ep, D⟩ := (Heap.DictOf.new (knd := intKind S.prog S.w) s.heap).dictAt
 exact ⟨[], ep, D, .nil, Nat.zero_le _⟩
noncomputable def storedA {K : Type} [DecidableEq K] (es : List (K × AV)) (k : K) (v : AV) : List (K × AV) := if es.any (fun p => p.1 = k) then es.map (fun p => if p.1 = k then (p.1, v) else p) else es ++ [(k, v)]
theorem PRs.append {K : Type} {kvs kws : List (K × Value)} {es fs : List (K × AV)} (h : PRs kvs es) (k : PRs kws fs) : PRs (kvs ++ kws) (es ++ fs) := by
 induction h with
 | nil => exact k
 | cons r _ ih => exact .cons r ih
theorem PRs.any {K : Type} [DecidableEq K] {kvs : List (K × Value)} {es : List (K × AV)} (h : PRs kvs es) (k : K) : (kvs.any fun p => decide (p.1 = k)) = es.any fun p => decide (p.1 = k) := by
 induction h with
 | nil => rfl
 | cons r _ ih => rw [List.any_cons, List.any_cons, ih]
theorem PRs.stored {K : Type} [DecidableEq K] {kvs : List (K × Value)} {es : List (K × AV)} (h : PRs kvs es) (k : K) {v : Value} {a : AV} (r : VR v a) : PRs (stored kvs k v) (storedA es k a) := by
 unfold PySem.stored storedA
 rw [h.any k]
 cases es.any (fun p => decide (p.1 = k)) with
 | false => exact h.append (.cons r .nil)
 | true =>
  rw [if_pos rfl, if_pos rfl]
  induction h with
  | nil => exact .nil
  | @cons j v0 a0 vs as r0 _ ih =>
   rw [List.map_cons, List.map_cons]
   by_cases e : j = k
   ·rw [if_pos e, if_pos e]; exact .cons r ih
   ·rw [if_neg e, if_neg e]; exact .cons r0 ih
theorem PRs.len {K : Type} {kvs : List (K × Value)} {es : List (K × AV)} (h : PRs kvs es) : kvs.length = es.length := by
 induction h with
 | nil => rfl
 | cons _ _ ih => simp [ih]
inductive SubSetK (v x i : AV) (H : AH) (Q : AH → Prop) : Prop
 | idict (a : Addr) (es : List (Int × AV)) (k : Int) : x = .ref a → i = .int k → H a = some (.idict es) → es.length < sizeLine → Q (H.put a (.idict (storedA es k v))) → SubSetK v x i H Q
noncomputable def tSubSet (o i t : Tm) : Ts := fun m H QN _ X => t m H (fun v H1 => o m H1 (fun x H2 => i m H2 (fun y H3 => SubSetK v x y H3 (QN m)) X) X) X
theorem sT_subSet {o i e : Expr} {p pos : Pos} {to ti te : Tm} (h0 : SoundE S b d sc ρ o to) (h1 : SoundE S b d sc ρ i ti) (h2 : SoundE S b d sc ρ e te)
  (hs : ∀ env, swapsWith e (some (.Subscript o i p)) pos.line env = pure false) : SoundT S b d sc ρ (.Assign [.Subscript o i p] e pos) (tSubSet to ti te) := by
 intro C A env m H QN QR X E s R O hc hk' V I h hE
 refine wpAny_Assign_Subscript (wpAny_mono (h2 C A env m H _ X E s R O hk' V I h (hE.ex O)) ?_ fun _ _ x => x) (hs env)
 rintro v s1 ⟨av, H1, r1, I1, q1⟩
 refine wpAny_mono (h0 C A env m H1 _ X E s1 R O hk' V I1 q1 (hE.ex O)) ?_ fun _ _ x => x
 rintro ov s2 ⟨x, H2, r2, I2, q2⟩
 refine wpAny_mono (h1 C A env m H2 _ X E s2 R O hk' V I2 q2 (hE.ex O)) ?_ fun _ _ x => x
 rintro iv s3 ⟨y, H3, r3, I3, q3⟩
 cases q3 with
 | idict a es k ex ey ha hl q =>
  subst ex; subst ey
  cases r2
  obtain ⟨t, rfl⟩ := r3.int_inv
  obtain ⟨kvs, ep, D, P, hz⟩ := I3.objs _ _ ha
  have e := P.len
  refine wpAny_setItem_pairs (knd := intKind S.prog S.w) (k := k) (by show decide (k = k) = true; simp) D.dictOf (fun h' D' sb => ?_) hz
  obtain ⟨ep', D'⟩ := D'.dictAt
  refine ⟨C, _, .refl env C, ?_, m, O, V, q⟩
  refine I3.set (s' := { s3 with heap := h', toks := s3.toks + 1 }) ha rfl (fun b ob nb e => (sb.2 b nb).trans e) ⟨_, ep', D', P.stored k r1, ?_⟩ rfl rfl
  have := stored_length_le kvs k v
  omega
noncomputable def tNever : Ts := fun _ _ _ _ _ => False
theorem sT_never {st : Stmt} : SoundT S b d sc ρ st tNever := fun C A env m H QN QR X E s _ _ _ _ _ _ h _ => h.elim
noncomputable def tChain (f g : AV → AV → AH → (Bool → AH → Prop) → Prop) (t u v : Tm) : Tb := fun m H Q X => t m H (fun x H1 => u m H1 (fun y H2 => f x y H2 fun c H3 => if c = true then v m H3 (fun z H4 => g y z H4 Q) X else Q false H3) X) X
theorem sB_chain {l r1 r2 : Expr} {op1 op2 : CmpOp} {pos : Pos} {t u v : Tm} {f g : AV → AV → AH → (Bool → AH → Prop) → Prop} (hf : CmpOK S op1 f) (hg : CmpOK S op2 g) (h1 : SoundE S b d sc ρ l t) (h2 : SoundE S b d sc ρ r1 u) (h3 : SoundE S b d sc ρ r2 v)
  (hm : lastMarks [op1, op2] [r1, r2] = false) : SoundB S b d sc ρ (.Compare l [op1, op2] [r1, r2] pos) (tChain f g t u v) := by
 intro C A env m H Q X E s R O hk V I h hE
 refine isTrue_chain (wpAny_mono (h1 C A env m H _ X E s R O hk V I h hE) ?_ fun _ _ x => x) hm
 rintro va s1 ⟨a1, H1, q1, I1, p1⟩
 refine test_link (wpAny_mono (h2 C A env m H1 _ X E s1 R O hk V I1 p1 hE) ?_ fun _ _ x => x)
 rintro vb s2 ⟨a2, H2, q2, I2, p2⟩
 refine wpAny_mono (hf C A va vb a1 a2 H2 _ E s2 R.u q1 q2 I2 p2) ?_ fun _ _ x => x
 rintro vc s3 ⟨c, rfl, H3, I3, p3⟩
 refine wpAny_truthy_bool ?_
 cases c with
 | false => exact ⟨H3, I3, p3⟩
 | true =>
  rw [if_pos rfl] at p3 ⊢
  refine wpAny_bind (wpAny_holding (wpAny_mono (h3 C A env m H3 _ X E s3 R O hk V I3 p3 hE) ?_ fun _ _ x => x))
  rintro vd s4 ⟨a4, H4, q4, I4, p4⟩
  refine wpAny_bind (wpAny_standAt (wpAny_bind (wpAny_operate' (wpAny_mono (hg C A vb vd a2 a4 H4 _ E s4 R.u q2 q4 I4 p4) ?_ fun _ _ x => x))))
  rintro ve s5 ⟨c, rfl, H5, I5, p5⟩
  exact wpAny_holding (wpAny_truthy_bool ⟨H5, I5, p5⟩)
end
end Mine
end
-- text C3
section
open PySem PySem.Calls PyProof.Rows PySem.W
namespace Mine
section
variable {S : St} {b : Bool} {d : Nat} {sc : Kd} {ρ : Rho} {K : Frag}
noncomputable def tExprA (t : Tm) : Ts := fun m H QN _ X => t m H (fun _ H1 => QN m H1) X
theorem sT_exprA {e : Expr} {pos : Pos} {t : Tm} (h1 : SoundE S b d sc ρ e t) (hs : ∀ env, swapsWith e none pos.line env = pure false) : SoundT S b d sc ρ (.Expr e pos) (tExprA t) := by
 intro C A env m H QN QR X E s R O hc hk' V I h hE
 have hi : interactive env = false := by unfold interactive; rw [O.kind]; rfl
 rw [exec_Expr env e pos hi (hs env)]
 refine wpAny_bind (wpAny_standAt (wpAny_bind (wpAny_mono (h1 C A env m H _ X E s R O hk' V I h (hE.ex O)) ?_ fun _ _ x => x)))
 rintro v s1 ⟨av, H1, r1, I1, q1⟩
 have fin : PostS S C A env ρ QN QR .next s1 := ⟨C, H1, .refl env C, I1, m, O, V, q1⟩
 unfold dropValue
 split
 ·exact wpAny_pure fin
 ·refine wpAny_bind (wpAny_standAt (wpAny_bind (runValue_entry entry_let_go ?_)))
  exact wpAny_pure ⟨.none, rfl, wpAny_pure fin⟩
 ·exact wpAny_pure fin
inductive InDK (x y : AV) (H : AH) (Q : Bool → Prop) : Prop
 | mk (a : Addr) (k : Int) (es : List (Int × AV)) : x = .int k → y = .ref a → H a = some (.idict es) → Q (es.lookup k).isSome → InDK x y H Q
noncomputable def aNotInD (x y : AV) (H : AH) (Q : Bool → AH → Prop) : Prop := InDK x y H fun c => Q (!c) H
theorem PRs.has {K : Type} [DecidableEq K] {kvs : List (K × Value)} {es : List (K × AV)} (h : PRs kvs es) (k : K) : (kvs.lookup k).isSome = (es.lookup k).isSome := by
 induction h with
 | nil => rfl
 | @cons j v a vs as r _ ih =>
  rw [List.lookup_cons, List.lookup_cons]
  cases k == j <;> first | exact ih | rfl
theorem no_sys (K : StOK S) {C : Cx} {H : AH} {s : Shared} (I : Inv S C H s) {a : Addr} {es : List (Int × AV)} (ha : H a = some (.idict es)) : (a == sysModules) = false := by
 obtain ⟨o, ho⟩ := K.sys
 have := (I.sepH a _ ha).2 rfl
 by_cases q : a = sysModules
 ·rw [q, ho] at this; cases this
 ·simpa using q
theorem cmp_notInD (K : StOK S) : CmpOK S .NotIn aNotInD := by
 rintro C A va vb x y H Q E s hu r1 r2 I ⟨a, k, es, rfl, rfl, ha, h⟩
 obtain ⟨t, rfl⟩ := r1.int_inv
 cases r2
 obtain ⟨kvs, ep, D, P, hz⟩ := I.objs _ _ ha
 refine wpAny_notIn_of (k := k) (by simp [intKind, Value.isInt]) (no_sys K I ha) D.dictOf.mapOf ⟨_, rfl, H, I.toks _, ?_⟩
 rw [valueAt_lookup, P.has]; exact h
noncomputable def woA (es : List (Int × AV)) (k : Int) : List (Int × AV) := es.filter fun p => decide (p.1 ≠ k)
theorem PRs.without {kvs : List (Int × Value)} {es : List (Int × AV)} (h : PRs kvs es) (k : Int) : PRs (without kvs k) (woA es k) := by
 induction h with
 | nil => exact .nil
 | @cons j v a vs as r _ ih =>
  unfold PySem.without woA at *
  rw [List.filter_cons, List.filter_cons]
  by_cases q : j = k
  ·simp only [q, ne_eq, not_true, decide_false]; exact ih
  ·simp only [q, ne_eq, not_false_iff, decide_true, if_true]; exact .cons r ih
inductive bPopK (vs : List AV) (H : AH) (Q : QV) : Prop
 | mk (a : Addr) (k : Int) (es : List (Int × AV)) (v : AV) : vs = [.ref a, .int k] → H a = some (.idict es) → es.lookup k = some v → Q v (H.put a (.idict (woA es k))) → bPopK vs H Q
noncomputable def bPop : BFn := fun vs H Q => bPopK vs H Q
theorem bPop_ok : BFnOK S b (.builtin "dict.pop") bPop := by
 rintro C A vs avs H Q E s hh hu r I ⟨a, k, es, v, rfl, ha, hv, h⟩
 obtain ⟨_, w, rfl, r1, r2⟩ := r.two
 cases r1.ref_inv
 obtain ⟨t, rfl⟩ := r2.int_inv
 obtain ⟨kvs, ep, D, P, hz⟩ := I.objs _ _ ha
 obtain ⟨w, hw, rw_⟩ := P.lookup hv
 have hw' : valueAt kvs k = some w := (valueAt_lookup kvs k).trans hw
 refine call_meetsIn PySem.F.slot_dict_pop D.dictOf.mapOf.typeIs PySem.F.entry_dict_pop (PySem.F.args_dict_pop_2 _ _) (meets_dict_pop_there (k := k) (intKind S.prog S.w) a (show (intKind S.prog S.w).is k (.int k t) = true by simp [intKind, Value.isInt]) [] (.inl rfl) rfl) ⟨kvs, w, D.dictOf, hz, hw', fun h' D' sb => ?_⟩
 obtain ⟨ep', D'⟩ := D'.dictAt
 refine ⟨v, _, rw_, ?_, h⟩
 refine I.set (s' := { s with heap := h', toks := s.toks + 1 }) ha rfl (fun b ob nb e => (sb.2 b nb).trans e) ⟨_, ep', D', P.without k, Nat.le_trans (List.length_filter_le _ _) hz⟩ rfl rfl
theorem meth_pop : BMeth "dict" "pop" "dict.pop" := ⟨PySem.F.plainAttrs_dict, PySem.F.slot_dict_pop, rfl⟩
end
end Mine
end
-- text C7
section
namespace Mine
open PySem PySem.Calls PyProof.Rows
section
variable {S : St} {b : Bool} {d : Nat} {sc : Kd} {ρ : Rho}
theorem VRs.set {vs : List Value} {as : List AV} (h : VRs vs as) {v : Value} {a : AV} (r : VR v a) : ∀ k : Nat, VRs (vs.set k v) (as.set k a) := by
 induction h with
 | nil => intro k; exact .nil
 | cons x q ih =>
  intro k
  cases k with
  | zero => exact .cons r q
  | succ k => exact .cons x (ih k)
theorem setItem_exact {prog : Program} {w : World} {A : Around} {E : Value → Shared → Prop} {s : Shared} {l : Addr} {items : Array Value} {n : Nat} {k : Int} {t : Tok} {v : Value} {Q : Unit → Shared → Prop} (ho : s.heap.get? l = some { cls := .type "list", data := .seq items n })
  (h0 : 0 ≤ k) (hfit : k < 2 ^ 63) (hn : k < items.size)
  (hQ : ∀ h', h'.get? l = some { cls := .type "list", data := .seq (items.setIfInBounds k.toNat v) n } → Heap.SameBut l s.heap h' → Q () { s with heap := h' }) :
  wpAny (model prog w) A (setItem (.ref l) (.int k t) v) Q E s := by
 have hl : s.heap.IsList l items := ⟨_, ho, rfl, n, rfl⟩
 unfold setItem
 try with_reducible refine wpAny_holding ?_
 first | refine wpAny_bind (wpAny_pure ?_) | skip
 refine wpAny_bind (wpAny_sequenceKey hl.typeIs (by decide) ?_)
 refine wpAny_bind (wpAny_callSpecial?_slot (name := Str.ofString "__setitem__") hl.typeIs slot_list_setitem
  (wpAny_call_entry slot_list_setitem hl.typeIs entry_list_setitem ?_ (args_list_setitem _ _ _)))
 show wpAny _ _ (Builtin.List.listSubscript? (.int k t) >>= _) _ _ s
 refine wpAny_bind (wpAny_listSubscript_int (fitsIndex_of h0 hfit) ?_)
 clear hfit
 obtain ⟨j, rfl⟩ := Int.eq_ofNat_of_zero_le h0
 have hj : j < items.size := by omega
 have hx' : items[j]? = some items[j] := Array.getElem?_eq_getElem hj
 show wpAny _ _ ((seqItemAt l j >>= fun r => pure (r.map (j, ·))) >>= _) _ _ s
 refine wpAny_bind (wpAny_bind (wpAny_seqItemAt ho rfl (wpAny_pure ?_)))
 rw [hx']
 show wpAny _ _ (setSeqItemAt l j v >>= _) _ _ s
 have e : Obj.mapSeq (·.setIfInBounds j v) { cls := .type "list", data := .seq items n } = { cls := .type "list", data := .seq (items.setIfInBounds j v) n } := by
  simp [Obj.mapSeq]
 have hfin : (s.heap.update l (Obj.mapSeq (·.setIfInBounds j v))).get? l = some { cls := .type "list", data := .seq (items.setIfInBounds j v) n } := by
  rw [Heap.get?_update_self _ ho (by rw [e]; rfl), e]
 refine wpAny_bind (wpAny_setSeqItemAt ho rfl ?_)
 first
  | exact wpAny_bind (wpAny_pure (wpAny_pure ⟨.none, rfl, wpAny_pure (hQ _ hfin (Heap.SameBut.update ..))⟩))
  | exact wpAny_pure ⟨.none, rfl, wpAny_pure (hQ _ hfin (Heap.SameBut.update ..))⟩
inductive SubSetLK (v x i : AV) (H : AH) (Q : AH → Prop) : Prop
 | mk (a : Addr) (xs : List AV) (k : Int) : x = .ref a → i = .int k → H a = some (.list xs) → 0 ≤ k → k < xs.length → Q (H.put a (.list (xs.set k.toNat v))) → SubSetLK v x i H Q
noncomputable def tSubSetL (o i t : Tm) : Ts := fun m H QN _ X => t m H (fun v H1 => o m H1 (fun x H2 => i m H2 (fun y H3 => SubSetLK v x y H3 (QN m)) X) X) X
theorem sT_subSetL {o i e : Expr} {p pos : Pos} {to ti te : Tm} (h0 : SoundE S b d sc ρ o to) (h1 : SoundE S b d sc ρ i ti) (h2 : SoundE S b d sc ρ e te)
  (hs : ∀ env, swapsWith e (some (.Subscript o i p)) pos.line env = pure false) : SoundT S b d sc ρ (.Assign [.Subscript o i p] e pos) (tSubSetL to ti te) := by
 intro C A env m H QN QR X E s R O hc hk' V I h hE
 refine wpAny_Assign_Subscript (wpAny_mono (h2 C A env m H _ X E s R O hk' V I h (hE.ex O)) ?_ fun _ _ x => x) (hs env)
 rintro v s1 ⟨av, H1, r1, I1, q1⟩
 refine wpAny_mono (h0 C A env m H1 _ X E s1 R O hk' V I1 q1 (hE.ex O)) ?_ fun _ _ x => x
 rintro ov s2 ⟨x, H2, r2, I2, q2⟩
 refine wpAny_mono (h1 C A env m H2 _ X E s2 R O hk' V I2 q2 (hE.ex O)) ?_ fun _ _ x => x
 rintro iv s3 ⟨y, H3, r3, I3, a, xs, k, ex, ey, ha, k0, k1, q⟩
 subst ex; subst ey
 cases r2
 obtain ⟨t, rfl⟩ := r3.int_inv
 obtain ⟨ws, n, g, P, hz⟩ := I3.list ha
 have e := P.length
 have hz' : ws.length ≤ 16777216 := hz
 refine setItem_exact g k0 (by lia) (by simp; lia) fun h' g' sb => ?_
 refine ⟨C, _, .refl env C, ?_, m, O, V, q⟩
 refine I3.set (s' := { s3 with heap := h' }) ha rfl (fun b ob nb e => (sb.2 b nb).trans e) ⟨ws.set k.toNat v, n, by simpa using g', P.set r1 _, by simpa using hz⟩ rfl rfl
end
end Mine
end
-- text C9
section
namespace Mine
open PySem PySem.Calls PyProof.Rows PySem.W
set_option maxRecDepth 100000
section
variable {S : St} {d : Nat} {sc : Kd} {ρ : Rho}
end
theorem nolen_lri : typeLookup (.type "list_reverseiterator") "__len__" = pure none := by rw [typeLookup_type, builtinLookup_eq_fast]; kernel_rfl
theorem hint_lri : typeLookup (.type "list_reverseiterator") "__length_hint__" = pure (some (.builtin "list_reverseiterator.__length_hint__")) := by rw [typeLookup_type, builtinLookup_eq_fast]; kernel_rfl
section
variable {prog : Program} {w : World} {A : Around} {E : Value → Shared → Prop} {s : Shared}
theorem hint_rev {it l : Addr} {i : Int} {Q : Bool → Shared → Prop} (hit : s.heap.IsRevIter it l i) (h : Q false s) : wpAny (model prog w) A (Builtin.List.listLengthHint (.ref it)) Q E s := by
 unfold Builtin.List.listLengthHint
 refine wpAny_bind (wpAny_specialOf hit.typeIs nolen_lri ?_)
 show wpAny _ A (specialOf (Value.ref it) (Str.ofString "__length_hint__") >>= _) _ _ _
 refine wpAny_bind (wpAny_specialOf hit.typeIs hint_lri ?_)
 generalize hid : ("list_reverseiterator.__length_hint__" : String) = id0
 wp_delta
 rw [show splitId id0 = some ("list_reverseiterator", "__length_hint__") from by subst hid; decide +kernel]
 subst hid
 refine wpAny_bind (wpAny_isInstance (b := true) hit.typeIs (by rw [isSubtype_type]; kernel_rfl) ?_)
 exact wpAny_pure h
theorem list_of_rev {I l : Addr} {items : Array Value} {Q : Value → Shared → Prop} (hh : A.handled = none) (hne : l ≠ I) (hit : s.heap.IsRevIter I l ((items.size : Int) - 1)) (hl : s.heap.IsList l items) (hn : items.size ≤ sizeLine)
  (hQ : ∀ h' tk acc' c', (∀ b o, b ≠ I → s.heap.get? b = some o → h'.get? b = some o) → h'.get? s.heap.objs.size = some { cls := .type "list", dict := none, data := .seq acc' c', slots := #[] } → ItemsOf (fun i v => items[items.size - 1 - i]? = some v) acc' items.size → Q (.ref s.heap.objs.size) { s with heap := h', toks := tk }) :
  wpAny (model prog w) A (call (.type "list") [.ref I]) Q E s := by
 have hI : I < s.heap.objs.size := by obtain ⟨o, ho, _⟩ := hit; exact Heap.lt_size ho
 have hll : l < s.heap.objs.size := by obtain ⟨o, ho, _⟩ := hl; exact Heap.lt_size ho
 refine callType_codes (Q₁ := fun obj s₁ => obj = .ref s.heap.objs.size ∧ s₁ = { s with heap := s.heap.push { cls := .type "list", data := .seq #[] } }) PySem.F.called_list (PySem.F.typeCall_list_1 _) PySem.F.entry_list_init
  (code_list_new _ ⟨rfl, rfl⟩) fun obj s₁ h₁ => ?_
 obtain ⟨rfl, rfl⟩ := h₁
 generalize hS0 : s.heap.objs.size = L at *
 have hS : (s.heap.push { cls := .type "list", data := .seq #[] }).get? L = some { cls := .type "list", data := .seq #[] } := by rw [← hS0]; exact Heap.get?_push_size _ rfl
 have nLI : L ≠ I := Nat.ne_of_gt hI
 have nLl : L ≠ l := Nat.ne_of_gt hll
 refine ⟨⟨_, hS, rfl⟩, PySem.F.args_list_init_2 _ _, ?_⟩
 show wpAny _ _ (do let old ← Builtin.List.listItems (.ref L); Builtin.List.listUpdate (.ref L) (fun _ => #[]); letGo old.toList.reverse; Builtin.List.listExtendWith (.ref L) (.ref I) .none) _ _ _
 refine wpAny_bind ?_
 unfold Builtin.List.listItems
 refine wpAny_bind (wpAny_seqItems hS rfl (wpAny_pure ?_))
 show wpAny _ _ (updateSeq L (fun _ => #[]) >>= fun _ => letGo (#[] : Array Value).toList.reverse >>= fun _ => Builtin.List.listExtendWith (.ref L) (.ref I) .none) _ _ _
 refine wpAny_bind (wpAny_updateSeq hS rfl ?_)
 have hS₂ := Heap.get?_update_self (Obj.mapSeq (fun _ => (#[] : Array Value))) hS rfl
 have oth : ∀ b o, b ≠ L → s.heap.get? b = some o → ((s.heap.push { cls := .type "list", data := .seq #[] }).update L (Obj.mapSeq (fun _ => (#[] : Array Value)))).get? b = some o :=
  fun b o hb e => (Heap.get?_update_other _ _ (Ne.symm hb)).trans (Heap.get?_push_of_some _ e)
 refine wpAny_bind (wpAny_letGo ?_)
 have hit2 := hit.at (oth I · nLI.symm)
 have hl2 := hl.at (oth l · nLl.symm)
 have h1 : Builtin.List.listSameRef (.ref L) (.ref I) = false := by simp [Builtin.List.listSameRef, nLI]
 unfold Builtin.List.listExtendWith
 refine wpAny_bind (wpAny_typeOf hit2.typeIs ?_)
 rw [if_neg (by rw [h1]; decide)]
 refine wpAny_bind (wpAny_pyIter_revIter hit2 ?_)
 refine wpAny_bind (wpAny_holding (hint_rev hit2 ?_))
 rw [if_neg (by decide)]
 have W := (Walks.listRev (prog := prog) (w := w) (A := A.in1.in1) hh I l hne items).toS
 refine wpAny_pure ⟨plainId_quiet PySem.F.plain_extend_loop _, codeAny_extend_loopS W hn L ?_ _ items.size 0 _ _ _ rfl (Nat.zero_le _) ⟨Nat.zero_le _, by simpa using hit2, hl2⟩ hS₂ (ItemsOf.nil _) fun s' acc' c' hm hS' hacc => ?_⟩
 ·simp only [List.mem_cons, List.not_mem_nil, or_false, not_or]
  exact ⟨nLI, nLl⟩
 ·refine ⟨rfl, ?_⟩
  rw [Moved.eq_with hm]
  refine hQ s'.heap s'.toks acc' c' (fun b o hb e => hm.heap b o (fun hmem => ?_) (oth b o (fun q => ?_) e)) hS' hacc
  ·rcases List.mem_cons.mp hmem with e' | hmem
   ·rw [e'] at e
    have := Heap.lt_size e
    rw [hS0] at this
    exact Nat.lt_irrefl _ this
   ·exact hb (List.mem_singleton.mp hmem)
  ·rw [q] at e
   have := Heap.lt_size e
   rw [hS0] at this
   exact Nat.lt_irrefl _ this
end
end Mine
end
-- text C10
section
namespace Mine
open PySem PySem.Calls PyProof.Rows PySem.W
set_option maxRecDepth 100000
section
variable {S : St} {d : Nat} {sc : Kd} {ρ : Rho}
noncomputable def tRevList (t : Tm) : Tm := fun m H Q X => t m H (fun v H1 => ∃ a xs, v = .ref a ∧ H1 a = some (.list xs) ∧ ∀ r, H1 r = none → Q (.ref r) (H1.put r (.list xs.reverse))) X
theorem sE_revList {f g : Str} {e : Expr} {p p2 pc pos : Pos} {t : Tm} (K : StOK S) (h1 : SoundE S true d sc ρ e t) (hf : sc f = some .globalImplicit) (hm : S.mg f = none) (hv : S.mb f = some (.type "list")) (hd : (f == ("__debug__" : Str)) = false)
  (hg : sc g = some .globalImplicit) (hmg : S.mg g = none) (hvg : S.mb g = some (.type "reversed")) (hdg : (g == ("__debug__" : Str)) = false) (hs : noStar [e] = true) :
  SoundE S true d sc ρ (.Call (.Name f p) [.Call (.Name g p2) [e] [] pc] [] pos) (tRevList t) := by
 intro C A env m H Q X E s R O hk V I h hE
 have hh := R.hd rfl
 refine wpAny_Call_NameR (load_builtin K O I ((hk f).trans hf) hm hv hd ?_)
 refine PySem.callWith_type (backTo_any rfl) (evalArgs_of rfl ?_)
 rw [backTo_plain rfl]
 refine Calls.spliced_cons (wpAny_Call_NameR (load_builtin K O I ((hk g).trans hg) hmg hvg hdg ?_))
 refine PySem.callWith_type (backTo_any hs) (evalArgs_of hs ?_)
 rw [backTo_plain hs]
 refine Calls.spliced_cons (wpAny_mono (h1 C A env m H _ X E s R O hk V I h hE) ?_ fun _ _ x => x)
 rintro cv s1 ⟨_, H1, r1, I1, a, xs, rfl, ha, fin⟩
 refine Calls.spliced_nil ?_
 cases r1.ref_inv
 obtain ⟨us, n1, ga, qa, la⟩ := I1.list ha
 have ul := qa.length
 have isa : s1.heap.IsList a us.toArray := ⟨_, ga, rfl, n1, rfl⟩
 show wpAny S.M A (call (.type "reversed") [.ref a]) _ E s1
 refine call_reversed_list isa (Calls.spliced_nil ?_)
 show wpAny S.M A (call (.type "list") [.ref s1.heap.objs.size]) _ E _
 have lta := Heap.lt_size ga
 refine list_of_rev (items := us.toArray) hh (Nat.ne_of_lt lta) ⟨_, Heap.get?_push_size _ rfl, rfl, rfl⟩ (isa.push _) (by simpa using la) fun h' tk acc' c' hkp hg' hacc => ?_
 have sz : (s1.heap.push (revObj a ((us.toArray.size : Int) - 1))).objs.size = s1.heap.objs.size + 1 := Heap.size_push ..
 have fresh : s1.heap.get? (s1.heap.objs.size + 1) = none := Heap.get?_none_of_le (Nat.le_succ _)
 dsimp only at hg' ⊢
 rw [sz] at hg' ⊢
 have ea : acc'.toList = us.reverse := by
  apply List.ext_getElem?
  intro j
  have hsz := hacc.1
  by_cases q : j < us.length
  ·have hj : acc'[j]? = some (acc'[j]'(by rw [hsz]; simpa using q)) := Array.getElem?_eq_getElem _
   have := hacc.2 j _ hj
   rw [Array.getElem?_toList, hj, List.getElem?_reverse q, ← this]
   simp
  ·rw [List.getElem?_eq_none_iff.mpr (by rw [Array.length_toList, hsz]; simpa using q), List.getElem?_eq_none_iff.mpr (by simpa using q)]
 refine ⟨.ref (s1.heap.objs.size + 1), H1.put (s1.heap.objs.size + 1) (.list xs.reverse), .ref _, ?_, fin _ (I1.fresh fresh).1⟩
 refine I1.add (s' := { s1 with heap := h', toks := tk }) fresh (fun b o e => hkp b o (Nat.ne_of_lt (Heap.lt_size e)) (Heap.get?_push_of_some _ e)) ⟨acc'.toList, c', by rw [hg'], by rw [ea]; exact qa.rev, by rw [ea]; simpa using la⟩ rfl rfl
end
section
variable {prog : Program} {w : World} {A : Around} {E : Value → Shared → Prop} {s : Shared}
end
section
variable {S : St}
end
end Mine
end
-- text C13
section
namespace Mine
open PySem PySem.Calls PyProof.Rows PySem.W
set_option maxRecDepth 100000
section
variable {S : St} {b : Bool} {d : Nat} {sc : Kd} {ρ : Rho}
inductive bListCK (vs : List AV) (H : AH) (Q : QV) : Prop
 | mk (x : Str) : vs = [.str x] → x.cps.size ≤ 1000000 → (∀ r, H r = none → Q (.ref r) (H.put r (.list (signs x)))) → bListCK vs H Q
noncomputable def bListC : BFn := fun vs H Q => bListCK vs H Q
theorem bListC_ok : BFnOK S true (.type "list") bListC := by
 rintro C A vs avs H Q E s hh hu r I ⟨x, rfl, hx, h⟩
 obtain ⟨_, rfl, r1⟩ := r.one
 obtain ⟨t, rfl, ok⟩ := r1.str_inv
 have sz : sizeLine = 16777216 := rfl
 refine call_list_str (hh rfl) x t (fun h' tk acc' c' hk hg hacc => ?_) (by omega)
 have hv : VRs acc'.toList (signs x) := by
  have key : ∀ {ws : List Value} {cs : List Nat}, ws.length = cs.length → (∀ (j : Nat) v, ws[j]? = some v → ∃ c u, cs[j]? = some c ∧ v = .str ⟨#[c]⟩ u ∧ PyData.strOk ⟨#[c]⟩ = true) → VRs ws (cs.map fun c => AV.str ⟨#[c]⟩) := by
   intro ws
   induction ws with
   | nil => intro cs hl _; cases cs with
    | nil => exact .nil
    | cons => simp at hl
   | cons w ws ih => intro cs hl hw; cases cs with
    | nil => simp at hl
    | cons c cs =>
     obtain ⟨c', u, e1, rfl, e3⟩ := hw 0 w rfl
     simp at e1; subst e1
     exact .cons (.str _ _ e3) (ih (by simpa using hl) fun j v hv => by simpa using hw (j + 1) v (by simpa using hv))
  refine key (by rw [Array.length_toList, hacc.1]; simp) fun j v hv => ?_
  rw [Array.getElem?_toList] at hv
  obtain ⟨c, u, e1, e2⟩ := hacc.2 j v hv
  exact ⟨c, u, by rw [Array.getElem?_toList]; exact e1, e2, strOk_sign ok e1⟩
 exact ⟨_, _, .ref _, I.add (s' := { s with heap := h', toks := tk }) (o := .list (signs x)) (Heap.get?_none_of_le (Nat.le_refl _)) hk ⟨acc'.toList, c', by rw [hg], hv, by rw [Array.length_toList, hacc.1]; omega⟩ rfl rfl, h _ I.nextNone⟩
noncomputable def bookK (K : Frag) (D : Addr) : Bool := plainGet K D "__class__" && hasDictIn K D && findIn K (.ref D) "__class__" == some (some (.builtin "object.__class__")) && specialIn K (.builtin "object.__class__") "__get__" == some (some (.builtin "getset_descriptor.__get__")) &&
 takesIn K (.builtin "object.__class__") == some true && mroIn K D (.type "object") == some true && kitOne K (.ref D) (.ref D) == some true
noncomputable def tIsiB (t : Tm) : Tm := fun m H Q X => t m H (fun v H1 => ∃ a d es, v = .ref a ∧ H1 a = some (.inst d) ∧ H1 d = some (.attrs es) ∧ Q (.bool true) H1) X
theorem sE_isiB {K : Frag} {e g : Expr} {f : Str} {p pos : Pos} {t : Tm} (E : EnvL S K) (h1 : SoundE S b d sc ρ e t)
  (hg : ∀ (C : Cx) (A : Around) (env : Env) (H : AH) (s : Shared) (E' : Value → Shared → Prop) (Q : Value → Shared → Prop), EnvOK S C A env → (∀ x, env.kindOf x = sc x) → Inv S C H s → Q (.ref S.book) s → wpAny S.M A (eval g env) Q E' s)
  (hb : bookK K S.book = true) (hf : sc f = some .globalImplicit) (hm : S.mg f = none) (hv : S.mb f = some (.builtin "isinstance")) (hd : (f == ("__debug__" : Str)) = false) (hs : noStar [e, g] = true) :
  SoundE S b d sc ρ (.Call (.Name f p) [e, g] [] pos) (tIsiB t) := by
 intro C A env m H Q X E' s R O hk V I h hE
 refine wpAny_Call_NameR (load_builtin E.KS O I ((hk f).trans hf) hm hv hd ?_)
 refine Calls.callWith_builtin (backTo_any hs) (evalArgs_of hs ?_)
 rw [backTo_plain hs]
 refine Calls.spliced_cons (wpAny_mono (h1 C A env m H _ X E' s R O hk V I h hE) ?_ fun _ _ x => x)
 rintro v s1 ⟨av, H1, r1, I1, a, dd, es, rfl, ha, hda, q1⟩
 cases r1.ref_inv
 refine Calls.spliced_cons (hg C A env H1 s1 E' _ O hk I1 (Calls.spliced_nil ?_))
 show wpAny S.M A (call (.builtin "isinstance") [.ref a, .ref S.book]) _ E' s1
 have w1 := I1.objs _ _ ha
 obtain ⟨des, n, w2, _⟩ := I1.objs _ _ hda
 unfold bookK at hb
 simp only [Bool.and_eq_true, beq_iff_eq] at hb
 obtain ⟨⟨⟨⟨⟨⟨b0, b1⟩, b2⟩, b3⟩, b4⟩, b5⟩, b6⟩ := hb
 exact kia_one (kitx_own b0 b1 b2 b3 b4 b5) (E.X.keeps I1.base) ⟨w1, rfl, rfl, w2⟩ b6 (by intro q; cases q) fun tk => ⟨_, H1, .bool _, I1.toks tk, q1⟩
noncomputable def aNotIn (x y : AV) (H : AH) (Q : Bool → AH → Prop) : Prop := aIn x y H fun c => Q (!c)
theorem cmp_notIn : CmpOK S .NotIn aNotIn := by
 intro C A va vb x y H Q E s hu r1 r2 I h
 cases r2 with
 | ref a =>
  obtain ⟨d, ys, es, h1, h2, h3, h4, h⟩ := h
  obtain ⟨bs, q1, c1⟩ := h1.reads I r1
  obtain ⟨as, q2, c2⟩ := (Rd.list h2 h3).reads I (.ref a)
  exact SeqAt.notIn_list_reads q2 q1 (by simpa [PyData.canLay0] using c2) c1 (by have : cLine = 9900 := rfl; lia) ⟨_, rfl, H, I, h⟩
 | str y => cases r1 <;> first | exact h.elim | exact PySem.SB.notContains ⟨_, rfl, H, I, h⟩
 | _ => cases r1 <;> exact h.elim
noncomputable def aSub (x y : AV) (H : AH) (Q : QV) : Prop := onInts (fun a b => Q (.int (a - b)) H) x y
theorem bin_sub : BinOK S .Sub aSub := by
 intro C A va vb x y H Q E s hu r1 r2 I h
 obtain ⟨i, j, t, u, rfl, rfl, h⟩ := onInts_inv h r1 r2
 exact PyProof.Rows.sub_int ⟨_, H, .int _ _, I.toks _, h⟩
end
end Mine
end
-- text C14
section
namespace Mine
open PySem PySem.Calls PyProof.Rows PySem.W
set_option maxRecDepth 100000
section
variable {S : St} {b : Bool} {d : Nat} {sc : Kd} {ρ : Rho}
inductive bIntBK (vs : List AV) (H : AH) (Q : QV) : Prop
 | mk (c : Bool) : vs = [.bool c] → Q (.int (if c then 1 else 0)) H → bIntBK vs H Q
noncomputable def bIntB : BFn := fun vs H Q => bIntBK vs H Q
theorem bIntB_ok : BFnOK S b (.type "int") bIntB := by
 rintro C A vs avs H Q E s hh hu r I ⟨c, rfl, h⟩
 obtain ⟨_, rfl, r1⟩ := r.one
 cases r1
 exact call_int_bool ⟨_, H, .int _ _, I.toks _, h⟩
noncomputable def aMulS : AV → AV → AH → QV → Prop
 | .str x, .int n, H, Q => (n = 0 ∧ Q (.str ⟨#[]⟩) H) ∨ (n = 1 ∧ Q (.str x) H)
 | _, _, _, _ => False
theorem bin_mulS : BinOK S .Mult aMulS := by
 intro C A va vb x y H Q E s hu r1 r2 I h
 cases r1 with
 | str x t ok => cases r2 with
  | int n u =>
   rcases h with ⟨rfl, h⟩ | ⟨rfl, h⟩
   ·exact PySem.SB.mul ⟨by decide, fun q => absurd (by decide) q, fun q => absurd (by decide) q⟩ fun t' k => by
     have e : Txt.mul x 0 = (⟨#[]⟩ : Str) := rfl
     rw [e]; exact ⟨_, H, .str _ _ (by decide +kernel), I.toks _, h⟩
   ·exact PySem.SB.mul ⟨by decide, fun _ q => by simp at q, fun _ q => by simp at q⟩ fun t' k => ⟨_, H, .str _ _ ok, I.toks _, h⟩
  | _ => exact h.elim
 | _ => exact h.elim
theorem countIn_strs (k : Str) : ∀ ys : List Str, PySem.Spec.countIn (.str k) (ys.map PyData.str) = ((ys.countP (· == k) : Nat) : Int)
 | [] => rfl
 | y :: r => by
  rw [List.map_cons, PySem.Spec.countIn, List.countP_cons, countIn_strs k r]
  have e : PySem.Spec.same (.str y) (.str k) = (y == k) := by simp only [PySem.Spec.same]
  rw [e]
  rcases Bool.eq_false_or_eq_true (y == k) with q | q <;> simp only [q, Bool.false_eq_true, if_true, if_false] <;> push_cast <;> omega
inductive bCountK (vs : List AV) (H : AH) (Q : QV) : Prop
 | mk (a : Addr) (xs : List Str) (x : Str) : vs = [.ref a, .str x] → H a = some (.list (xs.map AV.str)) → Q (.int ((xs.countP (· == x) : Nat) : Int)) H → bCountK vs H Q
noncomputable def bCount : BFn := fun vs H Q => bCountK vs H Q
theorem bCount_ok : BFnOK S b (.builtin "list.count") bCount := by
 rintro C A vs avs H Q E s hh hu r I ⟨a, xs, x, rfl, ha, h⟩
 obtain ⟨_, _, rfl, r1, r2⟩ := r.two
 cases r1.ref_inv
 obtain ⟨t, rfl, _⟩ := r2.str_inv
 obtain ⟨ws, n, g, q, _⟩ := I.list ha
 refine count_list_strs (ys := xs) ⟨_, g, rfl, n, rfl⟩ q.strs ?_
 rw [countIn_strs]
 exact ⟨_, H, .int _ _, I.toks _, h⟩
theorem meth_count : BMeth "list" "count" "list.count" := ⟨PySem.F.plainAttrs_list, PySem.F.slot_list_count, rfl⟩
inductive InTK (x : AV) (a : Addr) (H : AH) (Q : Bool → Prop) : Prop
 | mk (d : PyData) (ys : List AV) (es : List PyData) : Rd H x d → H a = some (.tuple ys) → RdAll H ys es → d.depth ≤ 64 → Q (es.any fun y => PyData.eqv y d) → InTK x a H Q
noncomputable def aInT : AV → AV → AH → (Bool → AH → Prop) → Prop
 | x, .ref a, H, Q => InTK x a H fun c => Q c H
 | _, _, _, _ => False
theorem cmp_inT : CmpOK S .In aInT := by
 intro C A va vb x y H Q E s hu r1 r2 I h
 cases r2 with
 | ref a =>
  obtain ⟨d, ys, es, h1, h2, h3, h4, h⟩ := h
  obtain ⟨bs, q1, c1⟩ := h1.reads I r1
  obtain ⟨as, q2, c2⟩ := (Rd.tuple h2 h3).reads I (.ref a)
  exact SeqAt.in_tuple_reads q2 q1 (by simpa [PyData.canLay0] using c2) c1 (by have : cLine = 9900 := rfl; lia) ⟨_, rfl, H, I, h⟩
 | _ => cases r1 <;> exact h.elim
noncomputable def tDict1 (k : Str) (i : Int) : Tm := fun m H Q X => ∀ r, H r = none → Q (.ref r) (H.put r (.sdict [(k, .int i)]))
theorem sE_dict1 (k : Str) (i : Int) (n1 n2 : Nat) (p1 p2 pos : Pos) (hk : PyData.strOk k = true) : SoundE S b d sc ρ (.Dict [some (.Constant (.str k) n1 p1)] [.Constant (.int i) n2 p2] pos) (tDict1 k i) := by
 intro C A env m H Q X E s R O hk' V I h hE
 refine Dict_lits_str (D := [(.str k, .int i)]) rfl rfl (by simp [strKeysOf]) rfl rfl (by simp) (by simp) fun a o h₁ tk hsz ho ht hkp => ?_
 obtain ⟨kvs, hd, fp⟩ := ht
 have n0 : s.heap.get? a = none := Heap.get?_none_of_le hsz
 refine ⟨_, _, .ref _, ?_, h _ (I.fresh n0).1⟩
 refine I.add (s' := { s with heap := h₁, toks := tk }) (o := .sdict [(k, .int i)]) n0 hkp ?_ rfl rfl
 obtain ⟨ep, D⟩ := (Heap.dictOf_iff.mpr ⟨o, ho, hd⟩).dictAt
 generalize e : ([(PyData.str k, PyData.int i)] : List (PyData × PyData)) = D0 at fp
 cases fp with
 | nil => cases e
 | @cons k' v d' kvs' D' fv fr =>
  obtain ⟨⟨e1, e2⟩, e3⟩ : ((PyData.str k = PyData.str k' ∧ PyData.int i = d') ∧ [] = D') := by simpa using e
  cases e1; subst e2; subst e3
  cases fr
  obtain ⟨t, rfl⟩ := fv.int_inv
  exact ⟨_, ep, D, .cons (.int _ _) .nil, fun p hp => by rw [show p = (k, Value.int i t) by simpa using hp]; exact hk, (show 1 ≤ 16777216 by decide)⟩
end
end Mine
end
-- text S1
section
namespace Mine
open PySem
noncomputable def LS (H : AH) (a : Addr) (xs : List Str) : Prop := H a = some (.list (xs.map AV.str))
inductive LAll (H : AH) : List Addr → List (List Str) → Prop
 | nil : LAll H [] []
 | cons {a : Addr} {xs : List Str} {as : List Addr} {F : List (List Str)} : LS H a xs → LAll H as F → LAll H (a :: as) (xs :: F)
noncomputable def RL (H : AH) (a : Addr) (as : List Addr) : Prop := H a = some (.list (as.map AV.ref))
inductive LL (H : AH) (a : Addr) (F : List (List Str)) : Prop
 | mk (as : List Addr) : RL H a as → LAll H as F → LL H a F
theorem LS.sub {H K : AH} (h : Sub H K) {a : Addr} {xs : List Str} (x : LS H a xs) : LS K a xs := h _ _ x
theorem LAll.sub {H K : AH} (h : Sub H K) {as : List Addr} {F : List (List Str)} (x : LAll H as F) : LAll K as F := by
 induction x with
 | nil => exact .nil
 | cons a _ ih => exact .cons (a.sub h) ih
theorem LL.sub {H K : AH} (h : Sub H K) {a : Addr} {F : List (List Str)} (x : LL H a F) : LL K a F := by
 obtain ⟨as, h1, h2⟩ := x
 exact ⟨as, h _ _ h1, h2.sub h⟩
theorem LAll.length {H : AH} {as : List Addr} {F : List (List Str)} (x : LAll H as F) : as.length = F.length := by
 induction x with
 | nil => rfl
 | cons _ _ ih => simp [ih]
theorem LAll.append {H : AH} {as bs : List Addr} {F G : List (List Str)} (x : LAll H as F) (y : LAll H bs G) : LAll H (as ++ bs) (F ++ G) := by
 induction x with
 | nil => exact y
 | cons a _ ih => exact .cons a ih
theorem LAll.get {H : AH} {as : List Addr} {F : List (List Str)} (x : LAll H as F) : ∀ {k : Nat} {a : Addr}, as[k]? = some a → ∃ xs, F[k]? = some xs ∧ LS H a xs := by
 induction x with
 | nil => intro k a e; simp at e
 | @cons b xs as F hb _ ih =>
  intro k a e
  cases k with
  | zero => simp at e; subst e; exact ⟨xs, rfl, hb⟩
  | succ k => simpa using ih (by simpa using e)
theorem LAll.mem {H : AH} {as : List Addr} {F : List (List Str)} (x : LAll H as F) {a : Addr} (h : a ∈ as) : ∃ xs ∈ F, LS H a xs := by
 obtain ⟨k, hk, e⟩ := List.getElem_of_mem h
 obtain ⟨xs, h1, h2⟩ := x.get (k := k) (a := a) (by rw [List.getElem?_eq_getElem hk, e])
 exact ⟨xs, List.mem_of_getElem? h1, h2⟩
theorem LAll.of {H : AH} : ∀ {as : List Addr} {F : List (List Str)}, as.length = F.length → (∀ (k : Nat) (a : Addr) (xs : List Str), as[k]? = some a → F[k]? = some xs → LS H a xs) → LAll H as F
 | [], [], _, _ => .nil
 | [], _ :: _, h, _ => by simp at h
 | _ :: _, [], h, _ => by simp at h
 | a :: as, x :: F, h, k => .cons (k 0 a x rfl rfl) (LAll.of (by simpa using h) fun j b ys e1 e2 => k (j + 1) b ys (by simpa using e1) (by simpa using e2))
theorem Sub.new {H K : AH} (h : Sub H K) {a : Addr} (e : K a = none) : H a = none := by
 cases q : H a with
 | none => rfl
 | some o => rw [h a o q] at e; cases e
theorem Sub.add {H : AH} {a : Addr} (e : H a = none) (o : AO) : Sub H (H.put a o) := (Sub.refl H).put o e
theorem put_get (H : AH) (a : Addr) (o : AO) : (H.put a o) a = some o := AH.put_self H a o
theorem ItemsK.sub {kd : SK} {H K : AH} {v : AV} {xs : List AV} (s : Sub H K) (h : ItemsK kd H v xs) : ItemsK kd K v xs := by
 cases kd with
 | list => cases v with
  | ref a => exact s _ _ h
  | _ => exact h.elim
 | tuple => cases v with
  | ref a => exact s _ _ h
  | _ => exact h.elim
 | script => cases v with
  | ref a => obtain ⟨ns, h1, h2⟩ := h; exact ⟨ns, s _ _ h1, h2⟩
  | _ => exact h.elim
 | range => cases v with
  | ref a => obtain ⟨lo, hi, h1, h2⟩ := h; exact ⟨lo, hi, s _ _ h1, h2⟩
  | _ => exact h.elim
 | str => cases v with
  | str x => exact h
  | _ => exact h.elim
theorem ite_t {A B : Prop} (h : A) : if (true : Bool) = true then A else B := by simpa using h
theorem ite_f {A B : Prop} (h : B) : if (false : Bool) = true then A else B := by simpa using h
theorem compJ_sub {m : Mp} {i : Nat} {te : Tm} {v : AV} {H : AH} {Q : QV} {kd : SK} {xs : List AV} (hi : ItemsK kd H v xs) (P : Nat → AV → AH → Prop) (mono : ∀ k y H1 H2, P k y H1 → Sub H1 H2 → P k y H2)
  (step : ∀ k x H', Sub H H' → xs[k]? = some x → ∀ Q' : QV, (∀ y H3, Sub H' H3 → P k y H3 → Q' y H3) → te (m.upd i x) H' Q' noX)
  (fin : ∀ ys H', Sub H H' → ys.length = xs.length → (∀ k y, ys[k]? = some y → P k y H') → ∀ a, H' a = none → Q (.ref a) (H'.put a (.list ys))) : CompJ m i (tBoolNil true) te v H Q := by
 refine ⟨kd, xs, hi, fun k ys H' => k ≤ xs.length ∧ Sub H H' ∧ ys.length = k ∧ ∀ j y, ys[j]? = some y → P j y H', ⟨Nat.zero_le _, .refl _, rfl, fun j y e => by simp at e⟩, ?_⟩
 rintro k ys H' ⟨h0, h1, h2, h3⟩ hk
 refine ⟨hi.sub h1, fun x hx => ?_, fun e a ha => fin ys H' h1 (h2.trans e) h3 a ha⟩
 refine step k x H' h1 hx _ fun y H3 s p => ⟨(List.getElem?_eq_some_iff.mp hx).1, h1.trans s, by simp [h2], fun j z e => ?_⟩
 by_cases q : j < ys.length
 ·rw [List.getElem?_append_left q] at e
  exact mono _ _ _ _ (h3 j z e) s
 ·rw [List.getElem?_append_right (by lia)] at e
  have hj : j - ys.length = 0 := by
   have := (List.getElem?_eq_some_iff.mp e).1
   simp at this; lia
  rw [hj] at e
  cases e
  have : j = k := by lia
  subst this; exact p
theorem compJ_pure {m : Mp} {i : Nat} {te : Tm} {v : AV} {H : AH} {Q : QV} {kd : SK} {xs : List AV} (hi : ItemsK kd H v xs) (f : AV → AV)
  (step : ∀ x ∈ xs, ∀ Q' : QV, Q' (f x) H → te (m.upd i x) H Q' noX)
  (fin : ∀ a, H a = none → Q (.ref a) (H.put a (.list (xs.map f)))) : CompJ m i (tBoolNil true) te v H Q := by
 refine ⟨kd, xs, hi, fun k ys H' => H' = H ∧ ys = (xs.take k).map f, ⟨rfl, by simp⟩, ?_⟩
 rintro k ys H' ⟨rfl, rfl⟩ hk
 refine ⟨hi, fun x hx => ?_, fun e a ha => ?_⟩
 ·refine step x (List.mem_of_getElem? hx) _ ⟨rfl, ?_⟩
  rw [List.take_succ, hx]; simp
 ·have := fin a ha
  rw [e, List.take_length]; exact this
theorem rd_strs {H : AH} : ∀ xs : List Str, RdAll H (xs.map AV.str) (xs.map PyData.str)
 | [] => .nil
 | x :: r => .cons (.str x) (rd_strs r)
theorem any_eqv (xs : List Str) (n : Str) : ((xs.map PyData.str).any fun y => PyData.eqv y (.str n)) = decide (n ∈ xs) := by
 induction xs with
 | nil => simp
 | cons x r ih =>
  rw [List.map_cons, List.any_cons, ih]
  by_cases e : x = n
  ·subst e; simp [PyData.eqv]
  ·have : n ≠ x := fun q => e q.symm
   simp [PyData.eqv, e, this]
theorem in_strs {H : AH} {a : Addr} {xs : List Str} {n : Str} {Q : Bool → AH → Prop} (ha : LS H a xs) (h : Q (decide (n ∈ xs)) H) : aIn (.str n) (.ref a) H Q := by
 refine ⟨.str n, _, _, .str n, ha, rd_strs xs, by simp [PyData.depth], ?_⟩
 rw [any_eqv]; exact h
inductive F_meetsK (vs : List AV) (H : AH) (Q : QV) : Prop
 | mk (a) (b) (xs) (ys) : (vs = [.ref a, .ref b]) → (LS H a xs) → (LS H b ys) → (∀ H', Sub H H' → Q (.bool (me xs ys)) H') → F_meetsK vs H Q
noncomputable def F_meets : Fn := fun vs H Q _ => F_meetsK vs H Q
noncomputable def T_meets : Ts := (tSeq (tRet (tBcall bAny (tCons (tComp (tLoc 0) 2 (tBoolNil true) (tCmp aIn (tLoc 2) (tLoc 1))) tNil))) tSkip)
noncomputable def is_meets : List Nat := [0, 1]
theorem comp_in {m : Mp} {i j : Nat} {a b : Addr} {xs ys : List Str} {H : AH} {Q : QV} (hij : j ≠ i) (hb : m j = some (.ref b)) (ha : LS H a xs) (hy : LS H b ys) (h : ∀ r, H r = none → Q (.ref r) (H.put r (.list ((xs.map fun n => decide (n ∈ ys)).map AV.bool)))) :
  CompJ m i (tBoolNil true) (tCmp aIn (tLoc i) (tLoc j)) (.ref a) H Q := by
 refine compJ_pure (kd := .list) (xs := xs.map AV.str) ha (fun v => match v with | .str n => .bool (decide (n ∈ ys)) | v => v) (fun x hx Q' hQ => ?_) fun r hr => ?_
 ·obtain ⟨n, _, rfl⟩ := List.mem_map.mp hx
  refine ⟨_, Mp.upd_self _ _ _, .ref b, (Mp.upd_ne _ _ hij).trans hb, ?_⟩
  exact in_strs hy hQ
 ·have := h r hr
  rw [List.map_map] at this ⊢
  exact this
theorem ok_meets (vs : List AV) (H : AH) (Q : QV) (X : QX) (h : F_meets vs H Q X) : mkFn is_meets T_meets vs H Q X := by
 obtain ⟨a, b, xs, ys, rfl, ha, hb, h⟩ := h
 refine ⟨rfl, _, rfl, comp_in (by decide) rfl ha hb fun r hr => ⟨r, _, rfl, put_get _ _ _, ?_⟩⟩
 have := h _ (Sub.add hr (.list ((xs.map fun n => decide (n ∈ ys)).map AV.bool)))
 rw [List.any_map]; exact this
end Mine
end
-- text S2
section
namespace Mine
open PySem
theorem ne_new {H : AH} {a b : Addr} {o : AO} (h : H a = none) (k : H b = some o) : b ≠ a := fun e => by rw [e, h] at k; cases k
theorem LS.put_ne {H : AH} {a p : Addr} {xs : List Str} {o : AO} (h : LS H a xs) (n : a ≠ p) : LS (H.put p o) a xs := (AH.put_ne H o n).trans h
theorem RL.put_ne {H : AH} {a p : Addr} {as : List Addr} {o : AO} (h : RL H a as) (n : a ≠ p) : RL (H.put p o) a as := (AH.put_ne H o n).trans h
theorem RL.sub {H K : AH} (s : Sub H K) {a : Addr} {as : List Addr} (h : RL H a as) : RL K a as := s _ _ h
theorem LAll.put_ne {H : AH} {as : List Addr} {F : List (List Str)} {p : Addr} {o : AO} (h : LAll H as F) (n : ∀ a ∈ as, a ≠ p) : LAll (H.put p o) as F := by
 induction h with
 | nil => exact .nil
 | cons x _ ih => exact .cons (x.put_ne (n _ (.head _))) (ih fun a ha => n a (.tail _ ha))
theorem strs_inj : ∀ {xs ys : List Str}, xs.map AV.str = ys.map AV.str → xs = ys
 | [], [], _ => rfl
 | [], _ :: _, h => by simp at h
 | _ :: _, [], h => by simp at h
 | x :: r, y :: q, h => by
  simp only [List.map_cons, List.cons.injEq, AV.str.injEq] at h
  rw [h.1, strs_inj h.2]
theorem LAll.inj {H : AH} {as : List Addr} {F : List (List Str)} (x : LAll H as F) : ∀ {G : List (List Str)}, LAll H as G → F = G := by
 induction x with
 | nil => intro G h; cases h; rfl
 | @cons a xs as F hx _ ih =>
  intro G h
  cases h with
  | @cons _ ys _ G hy hs =>
   have e : xs.map AV.str = ys.map AV.str := by
    have := hx.symm.trans hy
    simpa using this
   have : xs = ys := strs_inj e
   rw [this, ih hs]
theorem sizeLine_is : sizeLine = 16777216 := rfl
theorem compJ_list {m : Mp} {i : Nat} {te : Tm} {v : AV} {H : AH} {Q : QV} {kd : SK} {xs ys : List AV} (hi : ItemsK kd H v xs) (hl : ys.length = xs.length)
  (step : ∀ (k : Nat) x y, xs[k]? = some x → ys[k]? = some y → ∀ Q' : QV, Q' y H → te (m.upd i x) H Q' noX)
  (fin : ∀ a, H a = none → Q (.ref a) (H.put a (.list ys))) : CompJ m i (tBoolNil true) te v H Q := by
 refine ⟨kd, xs, hi, fun k zs H' => H' = H ∧ zs = ys.take k, ⟨rfl, by simp⟩, ?_⟩
 rintro k zs H' ⟨rfl, rfl⟩ hk
 refine ⟨hi, fun x hx => ?_, fun e a ha => ?_⟩
 ·have hk' : k < ys.length := by rw [hl]; exact (List.getElem?_eq_some_iff.mp hx).1
  refine step k x ys[k] hx (List.getElem?_eq_getElem hk') _ ⟨rfl, ?_⟩
  rw [List.take_add_one, List.getElem?_eq_getElem hk']; simp
 ·have := fin a ha
  rw [e, ← hl, List.take_length]; exact this
noncomputable def sd (x : List Str) : List Str := sortS (dedup x)
noncomputable def New (H : AH) (as : List Addr) : Prop := ∀ a ∈ as, H a = none
end Mine
end
-- text S3
section
namespace Mine
open PySem
theorem sd_of_nodup {x : List Str} (h : x.Nodup) : sd x = sortS x := by unfold sd; rw [dedup_nodup h]
end Mine
end
-- text S4
section
namespace Mine
open PySem
theorem dep_strs : ∀ (xs : List Str), PyData.depthAll (xs.map PyData.str) = 0
 | [] => by simp [PyData.depthAll]
 | x :: r => by simp [PyData.depthAll, PyData.depth, dep_strs r]
theorem eqs_strs : ∀ (xs ys : List Str), PyData.eqvAll (xs.map PyData.str) (ys.map PyData.str) = decide (xs = ys)
 | [], [] => by simp [PyData.eqvAll]
 | [], _ :: _ => by simp [PyData.eqvAll]
 | _ :: _, [] => by simp [PyData.eqvAll]
 | x :: r, y :: q => by
  simp only [List.map_cons, PyData.eqvAll, PyData.eqv, eqs_strs r q]
  by_cases e : x = y <;> by_cases f : r = q <;> simp [e, f]
noncomputable def dL (xs : List Str) : PyData := .list (xs.map PyData.str)
noncomputable def dLL (F : List (List Str)) : PyData := .list (F.map dL)
theorem dep_dL (xs : List Str) : (dL xs).depth = 1 := by simp [dL, PyData.depth, dep_strs]
theorem eqv_dL (xs ys : List Str) : PyData.eqv (dL xs) (dL ys) = decide (xs = ys) := by simp only [dL, PyData.eqv, eqs_strs]
theorem LS.rd {H : AH} {a : Addr} {xs : List Str} (h : LS H a xs) : Rd H (.ref a) (dL xs) := .list h (rd_strs xs)
theorem LAll.rd {H : AH} {as : List Addr} {F : List (List Str)} (h : LAll H as F) : RdAll H (as.map AV.ref) (F.map dL) := by
 induction h with
 | nil => exact .nil
 | cons x _ ih => exact .cons x.rd ih
theorem LL.rd {H : AH} {a : Addr} {F : List (List Str)} (h : LL H a F) : Rd H (.ref a) (dLL F) := by
 obtain ⟨as, h1, h2⟩ := h
 exact .list h1 h2.rd
theorem ne_LS {H : AH} {a b : Addr} {xs ys : List Str} {Q : Bool → AH → Prop} (h1 : LS H a xs) (h2 : LS H b ys) (h : Q (!decide (xs = ys)) H) : aNe (.ref a) (.ref b) H Q :=
 ⟨_, _, h1.rd, h2.rd, by rw [dep_dL]; lia, by rw [dep_dL]; lia, by rw [eqv_dL]; exact h⟩
theorem eq_LS {H : AH} {a b : Addr} {xs ys : List Str} {Q : Bool → AH → Prop} (h1 : LS H a xs) (h2 : LS H b ys) (h : Q (decide (xs = ys)) H) : aEq (.ref a) (.ref b) H Q :=
 ⟨_, _, h1.rd, h2.rd, by rw [dep_dL]; lia, by rw [dep_dL]; lia, by rw [eqv_dL]; exact h⟩
theorem beq_dec (i j : Int) : (i == j) = decide (i = j) := by
 by_cases e : i = j <;> simp [e]
theorem ite_intro {A B : Prop} (c : Bool) (h1 : c = true → A) (h2 : c = false → B) : if c = true then A else B := by
 cases c
 ·exact h2 rfl
 ·exact h1 rfl
theorem ne_int {H : AH} {i j : Int} {Q : Bool → AH → Prop} (h : Q (!decide (i = j)) H) : aNe (.int i) (.int j) H Q :=
 ⟨_, _, .int i, .int j, by simp [PyData.depth], by simp [PyData.depth], by rw [PyData.eqv, beq_dec]; exact h⟩
theorem eq_int {H : AH} {i j : Int} {Q : Bool → AH → Prop} (h : Q (decide (i = j)) H) : aEq (.int i) (.int j) H Q :=
 ⟨_, _, .int i, .int j, by simp [PyData.depth], by simp [PyData.depth], by rw [PyData.eqv, beq_dec]; exact h⟩
theorem isi_list {H : AH} {a : Addr} {xs : List AV} (h : H a = some (.list xs)) : aIs "list" (.ref a) H = some true := by simp [aIs, h]
theorem isi_str {H : AH} {x : Str} : aIs "str" (.str x) H = some true := by simp [aIs]
theorem LL.nil {H : AH} {r : Addr} : LL (H.put r (.list [])) r [] := ⟨[], put_get _ _ _, .nil⟩
noncomputable def drw (ns : List Int) (k : Int) : Int := (ns[k.toNat]?).getD 0
inductive F_l_drawK (vs : List AV) (H : AH) (Q : QV) : Prop
 | mk (l) (ns) (k) : (vs = [.ref l, .int k]) → (H l = some (.script ns)) → (0 ≤ k) → (Q (.int (drw ns k)) H) → F_l_drawK vs H Q
noncomputable def F_l_draw : Fn := fun vs H Q _ => F_l_drawK vs H Q
noncomputable def T_l_draw : Ts := (tSeq (tRet (tIf (tCmpB aGt (tBcall bLen (tCons (tLoc 0) tNil)) (tLoc 1)) (tItem (tLoc 0) (tLoc 1)) (tVal (.int 0)))) tSkip)
noncomputable def is_l_draw : List Nat := [0, 1]
theorem ok_l_draw (vs : List AV) (H : AH) (Q : QV) (X : QX) (h : F_l_draw vs H Q X) : mkFn is_l_draw T_l_draw vs H Q X := by
 obtain ⟨l, ns, k, rfl, hl, hk, h⟩ := h
 refine ⟨rfl, _, rfl, _, rfl, _, hl, _, rfl, ?_⟩
 refine ite_intro (decide (k < (ns.length : Int))) (fun q => ?_) fun q => ?_
 ·have q := of_decide_eq_true q
  refine ⟨_, rfl, _, rfl, _, hl, ns[k.toNat]'(by lia), ?_, ?_⟩
  ·rw [show idx ns k = ns[k.toNat]? from if_pos hk]; exact List.getElem?_eq_getElem (by lia)
  ·have e : drw ns k = ns[k.toNat]'(by lia) := by unfold drw; rw [List.getElem?_eq_getElem (by lia)]; rfl
   rw [← e]; exact h
 ·have q := of_decide_eq_false q
  have e : drw ns k = 0 := by unfold drw; rw [List.getElem?_eq_none (by lia)]; rfl
  rw [e] at h; exact h
theorem getElem?_strs {xs : List Str} {k : Nat} {v : AV} (h : (xs.map AV.str)[k]? = some v) : ∃ n, xs[k]? = some n ∧ v = .str n := by
 rw [List.getElem?_map] at h
 cases e : xs[k]? with
 | none => rw [e] at h; cases h
 | some n => rw [e] at h; simp at h; exact ⟨n, rfl, h.symm⟩
theorem getElem?_refs {as : List Addr} {k : Nat} {v : AV} (h : (as.map AV.ref)[k]? = some v) : ∃ a, as[k]? = some a ∧ v = .ref a := by
 rw [List.getElem?_map] at h
 cases e : as[k]? with
 | none => rw [e] at h; cases h
 | some n => rw [e] at h; simp at h; exact ⟨n, rfl, h.symm⟩
end Mine
end
-- text S5
section
namespace Mine
open PySem
theorem ne_int_eq {H : AH} {i j : Int} {Q : Bool → AH → Prop} (e : i = j) (h : Q false H) : aNe (.int i) (.int j) H Q := ne_int (by simpa [e] using h)
end Mine
end
-- text S6
section
namespace Mine
open PySem
theorem val_k {v : AV} {m : Mp} {H : AH} {Q : QV} {X : QX} (h : Q v H) : tVal v m H Q X := h
end Mine
end
-- text S7
section
namespace Mine
open PySem
set_option maxRecDepth 10000
theorem getElem?_ints {n : Int} {k : Nat} {v : AV} (h : ((intsFrom 0 n).map AV.int)[k]? = some v) : k < n.toNat ∧ v = .int k := by
 unfold intsFrom at h
 rw [List.map_map, List.getElem?_map] at h
 by_cases hk : k < n.toNat
 ·rw [List.getElem?_range (by simpa using hk)] at h
  simp at h
  exact ⟨hk, h.symm⟩
 ·rw [List.getElem?_eq_none (by simp; lia)] at h
  cases h
theorem ints_len (n : Int) : ((intsFrom 0 n).map AV.int).length = n.toNat := by simp [intsFrom]
theorem compJ_range {m : Mp} {i : Nat} {te : Tm} {r : Addr} {H : AH} {Q : QV} {n : Int} (hr : H r = some (.range 0 n)) (f : Nat → AV)
  (step : ∀ k : Nat, k < n.toNat → ∀ Q' : QV, Q' (f k) H → te (m.upd i (.int k)) H Q' noX)
  (fin : ∀ a, H a = none → Q (.ref a) (H.put a (.list ((List.range n.toNat).map f)))) : CompJ m i (tBoolNil true) te (.ref r) H Q := by
 refine compJ_list (kd := .range) (xs := (intsFrom 0 n).map AV.int) (ys := (List.range n.toNat).map f) ⟨0, n, hr, rfl⟩ (by simp [intsFrom]) (fun k x y hx hy Q' hQ => ?_) fin
 obtain ⟨hk, rfl⟩ := getElem?_ints hx
 rw [List.getElem?_map, List.getElem?_range hk] at hy
 cases hy
 exact step k hk Q' hQ
noncomputable def letters : Str := Str.ofString "abcdefghijklmnopqrstuvwxyz"
noncomputable def lts : List Nat := letters.cps.toList
theorem nodup_map {α : Type} (f : Nat → α) (n : Nat) (h : ∀ i j, i < n → j < n → f i = f j → i = j) : ((List.range n).map f).Nodup := by
 refine List.pairwise_map.mpr (List.Pairwise.imp_of_mem (fun {a b} ha hb hab e => ?_) List.nodup_range)
 exact hab (h a b (List.mem_range.mp ha) (List.mem_range.mp hb) e)
noncomputable def Nm (x : Str) : Prop := 1 ≤ x.length ∧ x.length ≤ 8 ∧ ∀ c ∈ x.cps.toList, c ∈ lts
theorem Nm.of {x : Str} {l : List Nat} (e : x.cps.toList = l) (h1 : 1 ≤ l.length) (h2 : l.length ≤ 8) (h3 : ∀ c ∈ l, c ∈ lts) : Nm x := by
 subst e
 exact ⟨by simpa [Str.length] using h1, by simpa [Str.length] using h2, h3⟩
end Mine
end
-- text B1
section
namespace Mine
open PySem
set_option maxRecDepth 10000
noncomputable def alph : Str := Str.ofString "abcdefghijklmnopqrstuvwxyz"
noncomputable def nmB (x : Str) : Bool := decide (1 ≤ x.length) && decide (x.length ≤ 8) && x.cps.toList.all fun c => Txt.contains alph ⟨#[c]⟩
noncomputable def NotNm (H : AH) : AV → Prop
 | .str x => nmB x = false ∧ x.length ≤ 1000000
 | .ref a => (∃ xs, H a = some (.list xs)) ∨ ∃ xs, H a = some (.tuple xs)
 | _ => True
theorem NotNm.sub {H K : AH} {v : AV} (h : NotNm H v) (s : Sub H K) : NotNm K v := by
 cases v with
 | ref a => exact h.imp (fun ⟨xs, e⟩ => ⟨xs, s _ _ e⟩) fun ⟨xs, e⟩ => ⟨xs, s _ _ e⟩
 | _ => exact h
inductive F_is_nameK (vs : List AV) (H : AH) (Q : QV) : Prop
 | yes (x) : vs = [.str x] → Nm x → (∀ H', Sub H H' → Q (.bool true) H') → F_is_nameK vs H Q
 | no (v) : vs = [v] → NotNm H v → (∀ H', Sub H H' → Q (.bool false) H') → F_is_nameK vs H Q
noncomputable def F_is_name : Fn := fun vs H Q _ => F_is_nameK vs H Q
structure Spoilt (H : AH) (a : Addr) (xs : List Str) (v : AV) (ys : List Str) : Prop where
 at_ : H a = some (.list (xs.map AV.str ++ v :: ys.map AV.str))
 nm : ∀ n ∈ xs, Nm n
 no : NotNm H v
inductive F_risingK (vs : List AV) (H : AH) (Q : QV) (X : QX) : Prop
 | good (a) (xs) : vs = [.ref a] → LS H a xs → (∀ n ∈ xs, Nm n) → xs.length ≤ 4000 → (dedup xs).length < 64 → (∀ r H', Sub H H' → H r = none → LS H' r (sd xs) → Q (.ref r) H') → F_risingK vs H Q X
 | bad (a) (xs) (v) (ys) : vs = [.ref a] → Spoilt H a xs v ys → (∀ H', Sub H H' → X (Str.ofString "BadName") H') → F_risingK vs H Q X
noncomputable def F_rising : Fn := fun vs H Q X => F_risingK vs H Q X
inductive F_need_setK (vs : List AV) (H : AH) (Q : QV) (X : QX) : Prop
 | rise : F_risingK vs H Q X → F_need_setK vs H Q X
 | none (v) : vs = [v] → aIs "list" v H = some false → (∀ H', Sub H H' → X (Str.ofString "BadRow") H') → F_need_setK vs H Q X
noncomputable def F_need_set : Fn := fun vs H Q X => F_need_setK vs H Q X
noncomputable def T_is_name : Ts := (tSeq (tIte (tOrB (tNotB (tTruth (tIsi "str" (tLoc 0)))) (tOrB (tNotB (tChain aLe aLe (tVal (.int 1)) (tBcall bLen (tCons (tLoc 0) tNil)) (tVal (.int 8)))) (tBoolNil false))) (tSeq (tRet (tVal (.bool false))) tSkip) tSkip) (tSeq (tRet (tBcall bAll (tCons (tComp (tLoc 0) 1 (tBoolNil true) (tCmp aIn (tLoc 1) (tVal (.str (Str.ofString "abcdefghijklmnopqrstuvwxyz"))))) tNil))) tSkip))
noncomputable def is_is_name : List Nat := [0]
noncomputable def T_rising : Ts := (tSeq (tFor (tLoc 0) 1 (tSeq (tIte (tNotB (tTruth (tCall F_is_name (tCons (tLoc 1) tNil)))) (tSeq (tRaise (Str.ofString "BadName") (tCons (tVal (.str (Str.ofString "no name"))) tNil)) tSkip) tSkip) tSkip)) (tSeq (tRet (tBcall bSorted (tCons (tBcall bSet (tCons (tLoc 0) tNil)) tNil))) tSkip))
noncomputable def is_rising : List Nat := [0]
noncomputable def T_need_set : Ts := (tSeq (tIte (tNotB (tTruth (tIsi "list" (tLoc 0)))) (tSeq (tRaise (Str.ofString "BadRow") (tCons (tVal (.str (Str.ofString "no list of names"))) tNil)) tSkip) tSkip) (tSeq (tRet (tCall F_rising (tCons (tLoc 0) tNil))) tSkip))
noncomputable def is_need_set : List Nat := [0]
theorem letter_in : ∀ c ∈ lts, Txt.contains (Str.ofString "abcdefghijklmnopqrstuvwxyz") ⟨#[c]⟩ = true := by decide +kernel
theorem le_k {a b : Int} {H : AH} {Q : Bool → AH → Prop} (h : Q (decide (a ≤ b)) H) : aLe (.int a) (.int b) H Q := h
noncomputable def hasL : AV → Bool
 | .str z => Txt.contains alph z
 | _ => true
theorem signs_has (x : Str) : (signs x).map (fun y => AV.bool (hasL y)) = (x.cps.toList.map fun c => Txt.contains alph ⟨#[c]⟩).map AV.bool := by
 unfold signs
 rw [List.map_map, List.map_map]; rfl
theorem ok_is_name (vs : List AV) (H : AH) (Q : QV) (X : QX) (h : F_is_name vs H Q X) : mkFn is_is_name T_is_name vs H Q X := by
 have gen : ∀ (x : Str), x.length ≤ 1000000 → (∀ H', Sub H H' → Q (.bool (nmB x)) H') → mkFn is_is_name T_is_name [.str x] H Q X := by
  intro x hl h
  have hz : x.length ≤ sizeLine := by rw [sizeLine_is]; omega
  refine ⟨rfl, _, rfl, true, isi_str, true, rfl, ?_⟩
  refine ⟨_, rfl, _, rfl, hz, le_k ?_⟩
  by_cases h1 : 1 ≤ x.length
  ·rw [decide_eq_true (show (1 : Int) ≤ x.length by omega)]
   refine ite_t (val_k (le_k ?_))
   by_cases h2 : x.length ≤ 8
   ·rw [decide_eq_true (show (x.length : Int) ≤ 8 by omega)]
    refine ⟨_, rfl, ?_⟩
    have hs : x.cps.size ≤ 1048576 := by have : x.length = x.cps.size := rfl; omega
    refine compJ_pure (kd := .str) (xs := signs x) ⟨rfl, hs⟩ (fun y => .bool (hasL y)) (fun y hy Q' hQ => ?_) fun r hr => ?_
    ·obtain ⟨c, hc, rfl⟩ := List.mem_map.mp hy
     exact ⟨_, Mp.upd_self _ _ _, hQ⟩
    ·rw [signs_has]
     refine ⟨r, _, rfl, put_get _ _ _, ?_⟩
     have e : (List.map (fun c => Txt.contains alph ⟨#[c]⟩) x.cps.toList).all id = nmB x := by
      unfold nmB
      rw [decide_eq_true h1, decide_eq_true h2, List.all_map]; rfl
     rw [e]
     exact h _ (Sub.add hr _)
   ·rw [decide_eq_false (show ¬ (x.length : Int) ≤ 8 by omega)]
    have e : nmB x = false := by unfold nmB; rw [decide_eq_false h2]; simp
    rw [e] at h
    exact h _ (.refl _)
  ·rw [decide_eq_false (show ¬ (1 : Int) ≤ x.length by omega)]
   have e : nmB x = false := by unfold nmB; rw [decide_eq_false h1]; simp
   rw [e] at h
   exact ite_f (h _ (.refl _))
 cases h with
 | yes x e hx h =>
  subst e
  obtain ⟨h1, h2, h3⟩ := hx
  have e : nmB x = true := by
   unfold nmB
   rw [decide_eq_true h1, decide_eq_true h2]
   exact List.all_eq_true.mpr fun c hc => letter_in c (h3 c hc)
  exact gen x (by omega) (by rw [e]; exact h)
 | no v e hv h =>
  subst e
  cases v with
  | str x => exact gen x hv.2 (by rw [hv.1]; exact h)
  | none => exact ⟨rfl, _, rfl, false, rfl, false, rfl, h _ (.refl _)⟩
  | bool b => exact ⟨rfl, _, rfl, false, rfl, false, rfl, h _ (.refl _)⟩
  | int i => exact ⟨rfl, _, rfl, false, rfl, false, rfl, h _ (.refl _)⟩
  | ref a =>
   have e : aIs "str" (.ref a) H = some false := by
    rcases hv with ⟨xs, e⟩ | ⟨xs, e⟩ <;> simp [aIs, e]
   exact ⟨rfl, _, rfl, false, e, false, rfl, h _ (.refl _)⟩
theorem ok_rising (vs : List AV) (H : AH) (Q : QV) (X : QX) (h : F_rising vs H Q X) : mkFn is_rising T_rising vs H Q X := by
 cases h with
 | good a xs e ha hn hl h64 h =>
  subst e
  refine ⟨rfl, _, rfl, .list, xs.map AV.str, ha, fun k m' H' => m' 0 = some (.ref a) ∧ Sub H H', ⟨rfl, .refl _⟩, ?_⟩
  rintro k m' H' ⟨v0, sb⟩ hk
  refine ⟨sb _ _ ha, fun y hy => ?_, fun e => ?_⟩
  ·obtain ⟨n, hn', rfl⟩ := getElem?_strs hy
   refine ⟨_, Mp.upd_self _ _ _, .yes n rfl (hn n (List.mem_of_getElem? hn')) fun H2 s2 => ⟨true, rfl, ?_⟩⟩
   exact ⟨(Mp.upd_ne _ _ (by decide)).trans v0, sb.trans s2⟩
  ·refine ⟨_, v0, a, xs, rfl, sb _ _ ha, hl, fun r1 hr1 => ⟨r1, _, rfl, put_get _ _ _, h64, fun r2 hr2 => ?_⟩⟩
   have s1 := sb.trans (Sub.add hr1 (.sset (dedup xs)))
   exact h r2 _ (s1.trans (Sub.add hr2 _)) (s1.new hr2) (put_get _ _ _)
 | bad a xs v ys e hs h =>
  subst e
  refine ⟨rfl, _, rfl, .list, xs.map AV.str ++ v :: ys.map AV.str, hs.at_, fun k m' H' => m' 0 = some (.ref a) ∧ Sub H H' ∧ k ≤ xs.length, ⟨rfl, .refl _, Nat.zero_le _⟩, ?_⟩
  rintro k m' H' ⟨v0, sb, hkx⟩ hk
  refine ⟨sb _ _ hs.at_, fun y hy => ?_, fun e => ?_⟩
  ·by_cases q : k < xs.length
   ·rw [List.getElem?_append_left (by rw [List.length_map]; exact q)] at hy
    obtain ⟨n, hn', rfl⟩ := getElem?_strs hy
    refine ⟨_, Mp.upd_self _ _ _, .yes n rfl (hs.nm n (List.mem_of_getElem? hn')) fun H2 s2 => ⟨true, rfl, ?_⟩⟩
    exact ⟨(Mp.upd_ne _ _ (by decide)).trans v0, sb.trans s2, q⟩
   ·have e : k = xs.length := by omega
    rw [e, List.getElem?_append_right (by simp)] at hy
    simp at hy
    subst hy
    refine ⟨_, Mp.upd_self _ _ _, .no v rfl (hs.no.sub sb) fun H2 s2 => ⟨false, rfl, ?_⟩⟩
    exact ⟨by decide, h _ (sb.trans s2)⟩
  ·simp at e
   omega
theorem ok_need_set (vs : List AV) (H : AH) (Q : QV) (X : QX) (h : F_need_set vs H Q X) : mkFn is_need_set T_need_set vs H Q X := by
 cases h with
 | none v e hv h =>
  subst e
  exact ⟨rfl, _, rfl, false, hv, false, rfl, by decide, h _ (.refl _)⟩
 | rise h =>
  cases h with
  | good a xs e ha hn hl h64 h =>
   subst e
   exact ⟨rfl, _, rfl, true, isi_list ha, true, rfl, _, rfl, .good a xs rfl ha hn hl h64 h⟩
  | bad a xs v ys e hs h =>
   subst e
   exact ⟨rfl, _, rfl, true, isi_list hs.at_, true, rfl, _, rfl, .bad a xs v ys rfl hs h⟩
theorem Nm.nmB {x : Str} (h : Nm x) : nmB x = true := by
 obtain ⟨h1, h2, h3⟩ := h
 unfold Mine.nmB
 rw [decide_eq_true h1, decide_eq_true h2]
 exact List.all_eq_true.mpr fun c hc => letter_in c (h3 c hc)
theorem letter_of {c : Nat} (h : Txt.contains alph ⟨#[c]⟩ = true) : c ∈ lts := by
 have := StrLaws.found_one alph c
 have h' : (!(Builtin.Str.occurrences alph ⟨#[c]⟩ 0 alph.length 1).isEmpty) = true := h
 rw [this] at h'
 exact of_decide_eq_true h'
theorem nm_of {x : Str} (h : nmB x = true) : Nm x := by
 unfold nmB at h
 simp only [Bool.and_eq_true, decide_eq_true_eq] at h
 obtain ⟨⟨h1, h2⟩, h3⟩ := h
 exact ⟨h1, h2, fun c hc => letter_of (List.all_eq_true.mp h3 c hc)⟩
end Mine
end
-- text B2
section
namespace Mine
open PySem
set_option maxRecDepth 10000
structure Bk where
 a : Addr
 d : Addr
 k : Addr
 rs : List (Int × Addr × List Str)
 c : Int
noncomputable def Bk.sets (B : Bk) : List (List Str) := B.rs.map (·.2.2)
noncomputable abbrev bkAttrs (k : Addr) (c : Int) : List (Str × AV) := [(Str.ofString "kept", .ref k), (Str.ofString "coming", .int c)]
noncomputable abbrev bkDict (rs : List (Int × Addr × List Str)) : List (Int × AV) := rs.map fun r => (r.1, AV.ref r.2.1)
structure BookAt (H : AH) (B : Bk) : Prop where
 inst : H B.a = some (.inst B.d)
 attrs : H B.d = some (.attrs (bkAttrs B.k B.c))
 kept : H B.k = some (.idict (bkDict B.rs))
 rows : ∀ r ∈ B.rs, LS H r.2.1 r.2.2
 inc : (B.rs.map (·.1)).Pairwise (· < ·)
 lt : ∀ r ∈ B.rs, r.1 < B.c
 nm : ∀ r ∈ B.rs, ∀ n ∈ r.2.2, Nm n
 ris : ∀ r ∈ B.rs, Ris r.2.2
 len : B.rs.length ≤ 30
 rl : ∀ r ∈ B.rs, r.2.2.length ≤ 12
 few : ∃ names : List Str, names.length ≤ 12 ∧ ∀ r ∈ B.rs, ∀ n ∈ r.2.2, n ∈ names
theorem BookAt.keep {H K : AH} {B : Bk} (h : BookAt H B) (k : ∀ x o, (x = B.a ∨ x = B.d ∨ x = B.k ∨ ∃ r ∈ B.rs, x = r.2.1) → H x = some o → K x = some o) : BookAt K B :=
 ⟨k _ _ (.inl rfl) h.inst, k _ _ (.inr (.inl rfl)) h.attrs, k _ _ (.inr (.inr (.inl rfl))) h.kept, fun r hr => k _ _ (.inr (.inr (.inr ⟨r, hr, rfl⟩))) (h.rows r hr), h.inc, h.lt, h.nm, h.ris, h.len, h.rl, h.few⟩
theorem BookAt.few12 {H : AH} {B : Bk} (h : BookAt H B) : (dedup B.sets.flatten).length ≤ 12 := by
 obtain ⟨names, h1, h2⟩ := h.few
 refine Nat.le_trans (nodup_len (dedup_is_nodup _) fun n hn => ?_) h1
 obtain ⟨x, hx, hnx⟩ := List.mem_flatten.mp (mem_dedup.mp hn)
 obtain ⟨r, hr, rfl⟩ := List.mem_map.mp hx
 exact h2 r hr n hnx
theorem BookAt.sub {H K : AH} {B : Bk} (h : BookAt H B) (s : Sub H K) : BookAt K B := h.keep fun x o _ e => s x o e
theorem BookAt.set {H : AH} {B : Bk} (h : BookAt H B) : ∀ x ∈ B.sets, Ris x ∧ (∀ n ∈ x, Nm n) ∧ x.length ≤ 12 := fun x hx => by
 obtain ⟨r, hr, rfl⟩ := List.mem_map.mp hx
 exact ⟨h.ris r hr, h.nm r hr, h.rl r hr⟩
theorem Bk.sets_len (B : Bk) : B.sets.length = B.rs.length := List.length_map _
theorem pick {τ : Type} (g : τ → AV) : ∀ {ys : List AV} {R : Nat → τ → Prop}, (∀ (k : Nat) y, ys[k]? = some y → ∃ t, y = g t ∧ R k t) → ∃ ts : List τ, ys = ts.map g ∧ ∀ (k : Nat) t, ts[k]? = some t → R k t
 | [], R, _ => ⟨[], rfl, fun k t e => by simp at e⟩
 | y :: ys, R, h => by
  obtain ⟨t, rfl, h0⟩ := h 0 y rfl
  obtain ⟨ts, rfl, h1⟩ := pick g (ys := ys) (R := fun k t => R (k + 1) t) fun k y e => h (k + 1) y (by simpa using e)
  refine ⟨t :: ts, rfl, fun k u e => ?_⟩
  cases k with
  | zero => simp at e; subst e; exact h0
  | succ k => exact h1 k u (by simpa using e)
theorem sortI_inc {xs : List Int} (h : xs.Pairwise (· < ·)) : sortI xs = xs := by
 unfold sortI
 induction xs with
 | nil => rfl
 | cons x r ih =>
  obtain ⟨h1, h2⟩ := List.pairwise_cons.mp h
  show insB _ x (isort _ r) = _
  rw [ih h2]
  cases r with
  | nil => rfl
  | cons y q =>
   show (if decide (x < y) = true then x :: y :: q else y :: insB _ x q) = _
   rw [if_pos (decide_eq_true (h1 y (.head _)))]
theorem dict_at {rs : List (Int × Addr × List Str)} (h : (rs.map (·.1)).Pairwise (· < ·)) {k : Nat} {r : Int × Addr × List Str} (e : rs[k]? = some r) : (bkDict rs).lookup r.1 = some (.ref r.2.1) := by
 induction rs generalizing k with
 | nil => simp at e
 | cons p q ih =>
  obtain ⟨h1, h2⟩ := List.pairwise_cons.mp h
  show List.lookup r.1 ((p.1, AV.ref p.2.1) :: bkDict q) = _
  rw [List.lookup_cons]
  cases k with
  | zero => simp at e; subst e; simp
  | succ k =>
   have e : q[k]? = some r := by simpa using e
   have lt : p.1 < r.1 := h1 r.1 (List.mem_map.mpr ⟨r, List.mem_of_getElem? e, rfl⟩)
   have ne : (r.1 == p.1) = false := by
    have : r.1 ≠ p.1 := by omega
    simpa using this
   rw [ne]; exact ih h2 e
inductive F_b_rowsK (vs : List AV) (H : AH) (Q : QV) : Prop
 | mk (B) : vs = [.ref B.a] → BookAt H B → (∀ (ts : List (Addr × Addr)) r H', Sub H H' → H r = none → ts.length = B.rs.length → H' r = some (.list (ts.map fun t => AV.ref t.1)) →
   (∀ (k : Nat) t, ts[k]? = some t → ∃ u, B.rs[k]? = some u ∧ H' t.1 = some (.tuple [.int u.1, .ref t.2]) ∧ LS H' t.2 u.2.2 ∧ H t.1 = none ∧ H t.2 = none) → Q (.ref r) H') → F_b_rowsK vs H Q
noncomputable def F_b_rows : Fn := fun vs H Q _ => F_b_rowsK vs H Q
inductive F_b_all_setsK (vs : List AV) (H : AH) (Q : QV) : Prop
 | mk (B) : vs = [.ref B.a] → BookAt H B → (∀ bs r H', Sub H H' → New H bs → H r = none → RL H' r bs → LAll H' bs B.sets → Q (.ref r) H') → F_b_all_setsK vs H Q
noncomputable def F_b_all_sets : Fn := fun vs H Q _ => F_b_all_setsK vs H Q
inductive F_b_namesK (vs : List AV) (H : AH) (Q : QV) : Prop
 | mk (B) : vs = [.ref B.a] → BookAt H B → (∀ r H', Sub H H' → H r = none → LS H' r (sd B.sets.flatten) → Q (.ref r) H') → F_b_namesK vs H Q
noncomputable def F_b_names : Fn := fun vs H Q _ => F_b_namesK vs H Q
noncomputable def T_b_rows : Ts := (tSeq (tRet (tComp (tBcall bSorted (tCons (tAttr (Str.ofString "kept") (tLoc 0)) tNil)) 1 (tBoolNil true) (tTuple (tCons (tLoc 1) (tCons (tBcall bList (tCons (tItem (tAttr (Str.ofString "kept") (tLoc 0)) (tLoc 1)) tNil)) tNil))))) tSkip)
noncomputable def is_b_rows : List Nat := [0]
noncomputable def T_b_all_sets : Ts := (tSeq (tRet (tComp (tMcall (Str.ofString "rows") F_b_rows (tLoc 0) tNil) 1 (tBoolNil true) (tItem (tLoc 1) (tVal (.int 1))))) tSkip)
noncomputable def is_b_all_sets : List Nat := [0]
noncomputable def T_b_names : Ts := (tSeq (tAssign 1 (tList tNil)) (tSeq (tFor (tMcall (Str.ofString "all_sets") F_b_all_sets (tLoc 0) tNil) 2 (tSeq (tExpr (tMeth "list" bExtend (tLoc 1) (tCons (tLoc 2) tNil))) tSkip)) (tSeq (tRet (tCall F_rising (tCons (tLoc 1) tNil))) tSkip)))
noncomputable def is_b_names : List Nat := [0]
theorem ok_b_rows (vs : List AV) (H : AH) (Q : QV) (X : QX) (h : F_b_rows vs H Q X) : mkFn is_b_rows T_b_rows vs H Q X := by
 obtain ⟨B, rfl, hB, fin⟩ := h
 refine ⟨rfl, _, rfl, B.a, B.d, _, _, rfl, hB.inst, hB.attrs, by kernel_rfl, B.k, _, rfl, hB.kept, by rw [List.length_map]; have := hB.len; omega, fun r0 hr0 => ?_⟩
 have s0 := Sub.add hr0 (.list ((sortI ((bkDict B.rs).map (·.1))).map AV.int))
 have e0 : sortI ((bkDict B.rs).map (·.1)) = B.rs.map (·.1) := by
  rw [List.map_map]; exact sortI_inc hB.inc
 refine compJ_sub (kd := .list) (xs := (B.rs.map (·.1)).map AV.int) (by rw [← e0]; exact put_get _ _ _)
  (fun k y H' => ∃ t : Addr × Addr, y = .ref t.1 ∧ ∃ u, B.rs[k]? = some u ∧ H' t.1 = some (.tuple [.int u.1, .ref t.2]) ∧ LS H' t.2 u.2.2 ∧ H t.1 = none ∧ H t.2 = none) ?_ (fun k x H' sb hx Q' hQ => ?_) fun ys H' sb hl hy r hr => ?_
 ·rintro k y K1 K2 ⟨t, h1, u, h2, h3, h4, h5⟩ s
  exact ⟨t, h1, u, h2, s _ _ h3, s _ _ h4, h5⟩
 ·rw [List.map_map, List.getElem?_map] at hx
  cases e : B.rs[k]? with
  | none => rw [e] at hx; cases hx
  | some u =>
   rw [e] at hx
   have hx : x = .int u.1 := (Option.some.inj hx).symm
   subst hx
   have hB' := hB.sub (s0.trans sb)
   refine ⟨_, Mp.upd_self _ _ _, _, rfl, B.a, B.d, _, .ref B.k, rfl, hB'.inst, hB'.attrs, by kernel_rfl, _, Mp.upd_self _ _ _, _, hB'.kept, _, dict_at hB.inc e, _, _, rfl, hB'.rows u (List.mem_of_getElem? e), fun r1 hr1 => ?_⟩
   have s1 := Sub.add hr1 (.list (u.2.2.map AV.str))
   refine ⟨by simp, fun r2 hr2 => ?_⟩
   have s2 := s1.trans (Sub.add hr2 (.tuple [.int u.1, .ref r1]))
   exact hQ _ _ s2 ⟨(r2, r1), rfl, u, e, put_get _ _ _, Sub.add hr2 _ _ _ (put_get _ _ _), ((s0.trans sb).trans s1).new hr2, (s0.trans sb).new hr1⟩
 ·obtain ⟨ts, rfl, ht⟩ := pick (fun t : Addr × Addr => AV.ref t.1) hy
  rw [List.length_map, List.length_map, List.length_map] at hl
  have s3 := Sub.add hr (.list (ts.map fun t : Addr × Addr => AV.ref t.1))
  refine fin ts r _ ((s0.trans sb).trans s3) ((s0.trans sb).new hr) hl (put_get _ _ _) fun k t e => ?_
  obtain ⟨u, h2, h3, h4, h5⟩ := ht k t e
  exact ⟨u, h2, s3 _ _ h3, s3 _ _ h4, h5⟩
theorem ok_b_all_sets (vs : List AV) (H : AH) (Q : QV) (X : QX) (h : F_b_all_sets vs H Q X) : mkFn is_b_all_sets T_b_all_sets vs H Q X := by
 obtain ⟨B, rfl, hB, fin⟩ := h
 refine ⟨rfl, _, rfl, B.a, B.d, _, rfl, hB.inst, hB.attrs, by kernel_rfl, B, rfl, hB, fun ts r0 H0 s0 n0 hl h0 ht => ?_⟩
 refine compJ_list (kd := .list) (xs := ts.map fun t : Addr × Addr => AV.ref t.1) (ys := ts.map fun t : Addr × Addr => AV.ref t.2) h0 (by simp) (fun k x y hx hy Q' hQ => ?_) fun r hr => ?_
 ·rw [List.getElem?_map] at hx hy
  cases e : ts[k]? with
  | none => rw [e] at hx; cases hx
  | some t =>
   rw [e] at hx hy; cases hx; cases hy
   obtain ⟨u, h2, h3, h4, h5⟩ := ht k t e
   exact ⟨_, Mp.upd_self _ _ _, _, h3, _, rfl, hQ⟩
 ·have s1 := Sub.add hr (.list (ts.map fun t : Addr × Addr => AV.ref t.2))
  refine fin (ts.map (·.2)) r _ (s0.trans s1) (fun b hb => ?_) (s0.new hr) ?_ (LAll.of (by simp [Bk.sets, hl]) fun k a xs e1 e2 => ?_)
  ·obtain ⟨t, htm, rfl⟩ := List.mem_map.mp hb
   obtain ⟨k, hk, e⟩ := List.mem_iff_getElem.mp htm
   obtain ⟨u, h2, h3, h4, h5, h6⟩ := ht k t (by rw [List.getElem?_eq_getElem hk, e])
   exact h6
  ·show (AH.put _ _ _) r = _
   rw [put_get, List.map_map]; rfl
  ·rw [List.getElem?_map] at e1
   cases e : ts[k]? with
   | none => rw [e] at e1; cases e1
   | some t =>
    rw [e] at e1; cases e1
    obtain ⟨u, h2, h3, h4, h5⟩ := ht k t e
    unfold Bk.sets at e2
    rw [List.getElem?_map, h2] at e2; cases e2
    exact s1 _ _ h4
theorem flatten_len {F : List (List Str)} {n : Nat} (h : ∀ x ∈ F, x.length ≤ n) : F.flatten.length ≤ F.length * n := by
 induction F with
 | nil => simp
 | cons x r ih =>
  have h1 := h x (.head _)
  have h2 := ih fun y hy => h y (.tail _ hy)
  rw [List.flatten_cons, List.length_append, List.length_cons, Nat.add_mul, Nat.one_mul]; omega
theorem take_flat {F : List (List Str)} {k : Nat} {x : List Str} (e : F[k]? = some x) : (F.take (k + 1)).flatten = (F.take k).flatten ++ x := by
 rw [List.take_add_one, e]; simp
theorem ok_b_names (vs : List AV) (H : AH) (Q : QV) (X : QX) (h : F_b_names vs H Q X) : mkFn is_b_names T_b_names vs H Q X := by
 obtain ⟨B, rfl, hB, fin⟩ := h
 have fl : ∀ k, ((B.sets.take k).flatten).length ≤ 360 := fun k => by
  have h1 := flatten_len (F := B.sets.take k) (n := 12) fun x hx => (hB.set x (List.mem_of_mem_take hx)).2.2
  have h2 : (B.sets.take k).length ≤ 30 := by rw [List.length_take, Bk.sets_len]; have := hB.len; omega
  have := Nat.mul_le_mul_right 12 h2
  omega
 refine ⟨rfl, Nat.zero_le _, fun p hp => ?_⟩
 have sp := Sub.add hp (.list [])
 refine ⟨_, rfl, B.a, B.d, _, rfl, sp _ _ hB.inst, sp _ _ hB.attrs, by kernel_rfl, B, rfl, hB.sub sp, fun bs r0 H0 s0 nb n0 h0 hA => ?_⟩
 have np : ∀ b ∈ bs, b ≠ p := fun b hb e => by subst e; have := nb b hb; rw [put_get] at this; cases this
 have nr : r0 ≠ p := fun e => by subst e; rw [put_get] at n0; cases n0
 have sH : Sub H H0 := sp.trans s0
 refine ⟨.list, bs.map AV.ref, h0, fun k m' H' => m' 1 = some (.ref p) ∧ LS H' p (B.sets.take k).flatten ∧ (∀ x o, x ≠ p → H0 x = some o → H' x = some o), ⟨rfl, s0 _ _ (put_get _ _ _), fun _ _ _ e => e⟩, ?_⟩
 rintro k m' H' ⟨v1, hp', kp⟩ hk
 refine ⟨kp _ _ nr h0, fun y hy => ?_, fun e => ?_⟩
 ·obtain ⟨c, hc, rfl⟩ := getElem?_refs hy
  obtain ⟨xs, hx, hcx⟩ := hA.get hc
  have hc' := kp _ _ (np c (List.mem_of_getElem? hc)) hcx
  have fk := fl (k + 1)
  rw [take_flat hx, List.length_append] at fk
  refine ⟨_, (Mp.upd_ne _ _ (by decide)).trans v1, .list hp', _, Mp.upd_self _ _ _, p, c, _, _, rfl, hp', hc', by rw [List.length_map, List.length_map, sizeLine_is]; omega, fun _ h => (nomatch h), (Mp.upd_ne _ _ (by decide)).trans v1, ?_, fun x o nx e => (AH.put_ne _ _ nx).trans (kp x o nx e)⟩
  show (AH.put _ _ _) p = _
  rw [put_get, take_flat hx, List.map_append]
 ·have hk' : (B.sets.take k).flatten = B.sets.flatten := by
   rw [List.length_map] at e
   rw [List.take_of_length_le (by rw [e, hA.length]; exact Nat.le_refl _)]
  have fk := fl k
  rw [hk'] at hp' fk
  have sub : Sub H H' := fun x o ex => kp x o (ne_new hp ex) (sH _ _ ex)
  refine ⟨_, v1, .good p B.sets.flatten rfl hp' (fun n hn => ?_) (by omega) (Nat.lt_of_le_of_lt hB.few12 (by decide)) fun r H2 s2 nr2 hr => fin r H2 (sub.trans s2) (sub.new nr2) hr⟩
  obtain ⟨x, hx, hnx⟩ := List.mem_flatten.mp hn
  exact (hB.set x hx).2.1 n hnx
end Mine
end
-- text B3
section
namespace Mine
open PySem
set_option maxRecDepth 10000
structure Chg (H K : AH) (M : Addr → Prop) : Prop where
 keep : ∀ x o, ¬ M x → H x = some o → K x = some o
 dom : ∀ x, K x = none → H x = none
theorem Chg.of_sub {H K : AH} {M : Addr → Prop} (s : Sub H K) : Chg H K M := ⟨fun x o _ e => s x o e, fun x e => s.new e⟩
theorem Chg.refl (H : AH) (M : Addr → Prop) : Chg H H M := ⟨fun _ _ _ e => e, fun _ e => e⟩
theorem Chg.trans {H K L : AH} {M : Addr → Prop} (x : Chg H K M) (y : Chg K L M) : Chg H L M := ⟨fun a o m e => y.keep a o m (x.keep a o m e), fun a e => x.dom a (y.dom a e)⟩
theorem Chg.mono {H K : AH} {M N : Addr → Prop} (x : Chg H K M) (h : ∀ a, M a → N a) : Chg H K N := ⟨fun a o m e => x.keep a o (fun q => m (h a q)) e, x.dom⟩
theorem Chg.put {H K : AH} {M : Addr → Prop} (x : Chg H K M) {a : Addr} (o : AO) (m : M a) : Chg H (K.put a o) M :=
 ⟨fun b o' n e => (AH.put_ne _ _ fun (q : b = a) => n (by rw [q]; exact m)).trans (x.keep b o' n e), fun b e => x.dom b (by
  by_cases q : b = a
  ·rw [q, AH.put_self] at e; cases e
  ·rw [AH.put_ne _ _ q] at e; exact e)⟩
theorem Chg.sub {H K L : AH} {M : Addr → Prop} (x : Chg H K M) (s : Sub K L) : Chg H L M := x.trans (.of_sub s)
theorem Chg.fresh {H K : AH} {M N : Addr → Prop} (x : Chg H K M) (h : ∀ a, M a → H a ≠ none → N a) : Chg H K N := ⟨fun a o n e => x.keep a o (fun m => n (h a m (by rw [e]; exact fun q => by cases q))) e, x.dom⟩
inductive F_b_initK (vs : List AV) (H : AH) (Q : QV) : Prop
 | mk (x d) : vs = [.ref x] → H x = some (.inst d) → H d = some (.attrs []) → x ≠ d → (∀ k H', H k = none → Chg H H' (· = d) → BookAt H' ⟨x, d, k, [], 0⟩ → Q .none H') → F_b_initK vs H Q
noncomputable def F_b_init : Fn := fun vs H Q _ => F_b_initK vs H Q
noncomputable def Bk.more (B : Bk) (l : Addr) (row : List Str) : Bk := { B with rs := B.rs ++ [(B.c, l, row)], c := B.c + 1 }
inductive PutX (H : AH) (B : Bk) (v : AV) : Str → Prop
 | none : aIs "list" v H = some false → PutX H B v (Str.ofString "BadRow")
 | name (r : Addr) (xs : List Str) (w : AV) (ys : List Str) : v = .ref r → Spoilt H r xs w ys → PutX H B v (Str.ofString "BadName")
 | twice (r : Addr) (row : List Str) : v = .ref r → LS H r row → (∀ n ∈ row, Nm n) → row.length < 64 → ¬ row.Nodup → PutX H B v (Str.ofString "BadRow")
 | many (r : Addr) (row : List Str) : v = .ref r → LS H r row → (∀ n ∈ row, Nm n) → row.length < 64 → row.Nodup → (B.rs.length = 30 ∨ 12 < (dedup (B.sets.flatten ++ row)).length) → PutX H B v (Str.ofString "TooMany")
inductive F_b_putK (vs : List AV) (H : AH) (Q : QV) (X : QX) : Prop
 | ok (B : Bk) (r : Addr) (row names : List Str) : vs = [.ref B.a, .ref r] → BookAt H B → LS H r row → row.Nodup → (∀ n ∈ row, Nm n) → B.rs.length < 30 → names.length ≤ 12 → (∀ x ∈ B.sets, ∀ n ∈ x, n ∈ names) → (∀ n ∈ row, n ∈ names) →
   (∀ l H', Chg H H' (fun x => x = B.d ∨ x = B.k) → H l = none → BookAt H' (B.more l (sortS row)) → Q (.int B.c) H') → F_b_putK vs H Q X
 | bad (B : Bk) (v : AV) (x : Str) : vs = [.ref B.a, v] → BookAt H B → PutX H B v x → (∀ H', Sub H H' → X x H') → F_b_putK vs H Q X
noncomputable def F_b_put : Fn := fun vs H Q X => F_b_putK vs H Q X
noncomputable def T_b_init : Ts := (tSeq (tAttrSet (Str.ofString "kept") (tLoc 0) tDict0) (tSeq (tAttrSet (Str.ofString "coming") (tLoc 0) (tVal (.int 0))) tSkip))
noncomputable def is_b_init : List Nat := [0]
noncomputable def T_b_put : Ts := (tSeq (tAssign 2 (tCall F_need_set (tCons (tLoc 1) tNil))) (tSeq (tIte (tCmpB aNe (tBcall bLen (tCons (tLoc 2) tNil)) (tBcall bLen (tCons (tLoc 1) tNil))) (tSeq (tRaise (Str.ofString "BadRow") (tCons (tVal (.str (Str.ofString "a name stands twice"))) tNil)) tSkip) tSkip) (tSeq (tIte (tCmpB aEq (tBcall bLen (tCons (tAttr (Str.ofString "kept") (tLoc 0)) tNil)) (tVal (.int 30))) (tSeq (tRaise (Str.ofString "TooMany") (tCons (tVal (.str (Str.ofString "too many rows"))) tNil)) tSkip) tSkip) (tSeq (tIte (tCmpB aGt (tBcall bLen (tCons (tBcall bSet (tCons (tBin aAdd (tMcall (Str.ofString "names") F_b_names (tLoc 0) tNil) (tLoc 2)) tNil)) tNil)) (tVal (.int 12))) (tSeq (tRaise (Str.ofString "TooMany") (tCons (tVal (.str (Str.ofString "too many names"))) tNil)) tSkip) tSkip) (tSeq (tAssign 3 (tAttr (Str.ofString "coming") (tLoc 0))) (tSeq (tAttrSet (Str.ofString "coming") (tLoc 0) (tBin aAdd (tLoc 3) (tVal (.int 1)))) (tSeq (tSubSet (tAttr (Str.ofString "kept") (tLoc 0)) (tLoc 3) (tLoc 2)) (tSeq (tRet (tLoc 3)) tSkip))))))))
noncomputable def is_b_put : List Nat := [0, 1]
theorem putA_coming (k : Addr) (c c' : Int) : putA (bkAttrs k c) (Str.ofString "coming") (.int c') = bkAttrs k c' := by kernel_rfl
theorem putA_new (k : Addr) : putA (putA [] (Str.ofString "kept") (.ref k)) (Str.ofString "coming") (.int 0) = bkAttrs k 0 := by kernel_rfl
theorem ok_b_init (vs : List AV) (H : AH) (Q : QV) (X : QX) (h : F_b_init vs H Q X) : mkFn is_b_init T_b_init vs H Q X := by
 obtain ⟨x, d, rfl, hx, hd, ne, fin⟩ := h
 refine ⟨rfl, fun k hk => ?_⟩
 have sk := Sub.add hk (.idict [])
 have nkd : k ≠ d := fun e => by rw [e, hd] at hk; cases hk
 have nkx : k ≠ x := fun e => by rw [e, hx] at hk; cases hk
 refine ⟨_, rfl, x, d, _, rfl, sk _ _ hx, sk _ _ hd, by decide, ?_⟩
 refine ⟨_, rfl, x, d, _, rfl, (AH.put_ne _ _ ne).trans (sk _ _ hx), put_get _ _ _, Nat.lt_of_le_of_lt (putA_len _ _ _) (by decide), ?_⟩
 have c0 : Chg H _ (fun x => x = d) := Chg.of_sub sk
 refine fin k _ hk ((c0.put _ (show d = d from rfl)).put _ (show d = d from rfl)) ⟨?_, ?_, ?_, fun r hr => (nomatch hr), .nil, fun r hr => (nomatch hr), fun r hr => (nomatch hr), fun r hr => (nomatch hr), Nat.zero_le _, fun r hr => (nomatch hr), [], Nat.zero_le _, fun r hr => (nomatch hr)⟩
 ·exact (AH.put_ne _ _ ne).trans ((AH.put_ne _ _ ne).trans (sk _ _ hx))
 ·show (AH.put _ _ _) d = _
  rw [put_get, putA_new]
 ·exact (AH.put_ne _ _ nkd).trans ((AH.put_ne _ _ nkd).trans (put_get _ _ _))
theorem stored_new {rs : List (Int × Addr × List Str)} {c : Int} {l : Addr} (h : ∀ r ∈ rs, r.1 < c) : storedA (bkDict rs) c (.ref l) = bkDict rs ++ [(c, .ref l)] := by
 unfold storedA
 rw [if_neg]
 intro q
 obtain ⟨p, hp, e⟩ := List.any_eq_true.mp q
 obtain ⟨r, hr, rfl⟩ := List.mem_map.mp hp
 have := h r hr
 have e : r.1 = c := of_decide_eq_true e
 omega
theorem gt_k {a b : Int} {H : AH} {Q : Bool → AH → Prop} (h : Q (decide (b < a)) H) : aGt (.int a) (.int b) H Q := h
theorem mem_sd {x : List Str} {a : Str} : a ∈ sd x ↔ a ∈ x := mem_sortS.trans mem_dedup
theorem nodup_of_dedup : ∀ {row : List Str}, (dedup row).length = row.length → row.Nodup
 | [], _ => .nil
 | x :: r, h => by
  rw [List.length_cons] at h
  have hx : x ∉ r := fun hx => by
   have := nodup_len (x := r) (dedup_is_nodup (x :: r)) fun n hn => (List.mem_cons.mp (mem_dedup.mp hn)).elim (fun q => q ▸ hx) id
   omega
  have h2 := nodup_len (x := x :: dedup r) (dedup_is_nodup (x :: r)) fun n hn => (List.mem_cons.mp (mem_dedup.mp hn)).elim (fun q => q ▸ .head _) fun q => .tail _ (mem_dedup.mpr q)
  rw [List.length_cons] at h2
  have h3 := dedup_len r
  exact List.nodup_cons.mpr ⟨hx, nodup_of_dedup (by omega)⟩
theorem dedup_len_congr {x y : List Str} (h : ∀ n, n ∈ x ↔ n ∈ y) : (dedup x).length = (dedup y).length :=
 Nat.le_antisymm (nodup_len (dedup_is_nodup _) fun n hn => mem_dedup.mpr ((h n).mp (mem_dedup.mp hn))) (nodup_len (dedup_is_nodup _) fun n hn => mem_dedup.mpr ((h n).mpr (mem_dedup.mp hn)))
theorem nodup_of_sd {row : List Str} (h : (sd row).length = row.length) : row.Nodup := by
 have e : (dedup row).length = row.length := by unfold sd at h; rw [sortS_len] at h; exact h
 exact nodup_of_dedup e
theorem ok_b_put (vs : List AV) (H : AH) (Q : QV) (X : QX) (h : F_b_put vs H Q X) : mkFn is_b_put T_b_put vs H Q X := by
 cases h with
 | ok B r row names e hB hr hnd hnm hlen hn12 hs1 hs2 fin =>
  subst e
  have hrl : row.length ≤ 12 := Nat.le_trans (nodup_len hnd hs2) hn12
  refine ⟨rfl, _, rfl, .rise (.good r row rfl hr hnm (by omega) (Nat.lt_of_le_of_lt (dedup_len row) (by omega)) fun f H1 s1 nf hf => ?_)⟩
  rw [sd_of_nodup hnd] at hf
  have hB1 := hB.sub s1
  refine ⟨_, rfl, _, rfl, _, hf, _, rfl, _, rfl, _, s1 _ _ hr, ne_int_eq (by simp [sortS_len]) ?_⟩
  refine ⟨_, rfl, B.a, B.d, _, .ref B.k, rfl, hB1.inst, hB1.attrs, by kernel_rfl, _, rfl, _, hB1.kept, val_k (eq_int ?_)⟩
  rw [decide_eq_false (show ¬ (((bkDict B.rs).length : Int) = 30) by rw [List.length_map]; omega)]
  refine ite_f ?_
  refine ⟨_, rfl, B.a, B.d, _, rfl, hB1.inst, hB1.attrs, by kernel_rfl, B, rfl, hB1, fun g H2 s2 ng hg => ?_⟩
  have fsub : ∀ n ∈ sd B.sets.flatten, n ∈ names := fun n hn => by
   obtain ⟨x, hx, hnx⟩ := List.mem_flatten.mp (mem_dedup.mp (mem_sortS.mp hn))
   exact hs1 x hx n hnx
  have fl : (sd B.sets.flatten).length ≤ 12 := Nat.le_trans (nodup_len ((sortS_perm _).nodup_iff.mpr (dedup_is_nodup _)) fsub) hn12
  refine ⟨_, rfl, _, _, hg, s2 _ _ hf, by rw [List.length_map, List.length_map, sortS_len, sizeLine_is]; omega, fun r3 hr3 => ?_⟩
  rw [← List.map_append]
  have s3 := Sub.add hr3 (.list ((sd B.sets.flatten ++ sortS row).map AV.str))
  refine ⟨r3, _, rfl, put_get _ _ _, by rw [List.length_append, sortS_len]; omega, fun r4 hr4 => ?_⟩
  have s4 := Sub.add hr4 (.sset (dedup (sd B.sets.flatten ++ sortS row)))
  refine ⟨_, rfl, _, put_get _ _ _, val_k (gt_k ?_)⟩
  have dl : (dedup (sd B.sets.flatten ++ sortS row)).length ≤ 12 := Nat.le_trans (nodup_len (dedup_is_nodup _) fun n hn => by
   rcases List.mem_append.mp (mem_dedup.mp hn) with q | q
   ·exact fsub n q
   ·exact hs2 n (mem_sortS.mp q)) hn12
  rw [decide_eq_false (show ¬ ((12 : Int) < ((dedup (sd B.sets.flatten ++ sortS row)).length : Int)) by omega)]
  refine ite_f ?_
  have s14 := s2.trans (s3.trans s4)
  have hB4 := hB1.sub s14
  have hf4 : LS _ f (sortS row) := s14 _ _ hf
  have c4 : Chg H _ (fun x => x = B.d ∨ x = B.k) := Chg.of_sub (s1.trans s14)
  generalize AH.put _ r4 _ = H4 at *
  refine ⟨_, rfl, B.a, B.d, _, .int B.c, rfl, hB4.inst, hB4.attrs, by kernel_rfl, ?_⟩
  refine ⟨_, rfl, _, rfl, B.a, B.d, _, rfl, hB4.inst, hB4.attrs, show 2 < 900 by decide, ?_⟩
  rw [putA_coming]
  have nkd : B.k ≠ B.d := fun e => by have h1 := hB4.kept; rw [e, hB4.attrs] at h1; cases h1
  have nad : B.a ≠ B.d := fun e => by have h1 := hB4.inst; rw [e, hB4.attrs] at h1; cases h1
  have nak : B.a ≠ B.k := fun e => by have h1 := hB4.inst; rw [e, hB4.kept] at h1; cases h1
  have nrow : ∀ {l : Addr} {xs : List Str}, LS H4 l xs → l ≠ B.d ∧ l ≠ B.k := fun {l xs} h => ⟨fun e => (by subst e; have := hB4.attrs.symm.trans h; cases this), fun e => (by subst e; have := hB4.kept.symm.trans h; cases this)⟩
  refine ⟨_, rfl, _, rfl, B.a, B.d, _, .ref B.k, rfl, (AH.put_ne _ _ nad).trans hB4.inst, put_get _ _ _, by kernel_rfl, _, rfl, .idict B.k _ B.c rfl rfl ((AH.put_ne _ _ nkd).trans hB4.kept) (by rw [List.length_map, sizeLine_is]; omega) ?_⟩
  rw [stored_new hB4.lt]
  refine ⟨_, rfl, ?_⟩
  refine fin f _ ((c4.put _ (.inl rfl)).put _ (.inr rfl)) nf ⟨?_, ?_, ?_, fun q hq => ?_, ?_, fun q hq => ?_, fun q hq => ?_, fun q hq => ?_, ?_, fun q hq => ?_, names, hn12, fun q hq => ?_⟩
  ·exact (AH.put_ne _ _ nak).trans ((AH.put_ne _ _ nad).trans hB4.inst)
  ·exact (AH.put_ne _ _ (Ne.symm nkd)).trans (put_get _ _ _)
  ·show (AH.put _ _ _) B.k = _
   rw [put_get]
   show _ = some (AO.idict (bkDict (B.rs ++ [(B.c, f, sortS row)])))
   have e : bkDict (B.rs ++ [(B.c, f, sortS row)]) = bkDict B.rs ++ [(B.c, AV.ref f)] := List.map_append
   rw [e]
  ·rcases List.mem_append.mp hq with hq | hq
   ·have := hB4.rows q hq
    exact LS.put_ne (LS.put_ne this (nrow this).1) (nrow this).2
   ·have e : q = (B.c, f, sortS row) := by simpa using hq
    subst e
    exact LS.put_ne (LS.put_ne hf4 (nrow hf4).1) (nrow hf4).2
  ·show (List.map _ (B.rs ++ [(B.c, f, sortS row)])).Pairwise _
   rw [List.map_append]
   refine List.pairwise_append.mpr ⟨hB4.inc, List.pairwise_singleton _ _, fun x hx y hy => ?_⟩
   obtain ⟨u, hu, rfl⟩ := List.mem_map.mp hx
   rw [show y = B.c by simpa using hy]
   exact hB4.lt u hu
  ·show q.1 < B.c + 1
   rcases List.mem_append.mp hq with hq | hq
   ·have := hB4.lt q hq; omega
   ·rw [show q = (B.c, f, sortS row) by simpa using hq]; show B.c < B.c + 1; omega
  ·rcases List.mem_append.mp hq with hq | hq
   ·exact hB4.nm q hq
   ·rw [show q = (B.c, f, sortS row) by simpa using hq]; exact fun n hn => hnm n (mem_sortS.mp hn)
  ·rcases List.mem_append.mp hq with hq | hq
   ·exact hB4.ris q hq
   ·rw [show q = (B.c, f, sortS row) by simpa using hq]; exact sortS_ris hnd
  ·show (B.rs ++ [(B.c, f, sortS row)]).length ≤ 30
   rw [List.length_append]; show _ + 1 ≤ 30; omega
  ·rcases List.mem_append.mp hq with hq | hq
   ·exact hB4.rl q hq
   ·rw [show q = (B.c, f, sortS row) by simpa using hq]; show (sortS row).length ≤ 12; rw [sortS_len]; exact hrl
  ·rcases List.mem_append.mp hq with hq | hq
   ·exact hs1 q.2.2 (List.mem_map.mpr ⟨q, hq, rfl⟩)
   ·rw [show q = (B.c, f, sortS row) by simpa using hq]; exact fun n hn => hs2 n (mem_sortS.mp hn)
 | bad B v x e hB hbad fin =>
  subst e
  have good : ∀ {r : Addr} {row : List Str}, v = .ref r → LS H r row → (∀ n ∈ row, Nm n) → row.length < 64 → ((¬ row.Nodup ∧ x = Str.ofString "BadRow") ∨ (row.Nodup ∧ x = Str.ofString "TooMany" ∧ (B.rs.length = 30 ∨ 12 < (dedup (B.sets.flatten ++ row)).length))) → mkFn is_b_put T_b_put [.ref B.a, v] H Q X := by
   intro r row ev hr hnm hrl hx
   subst ev
   refine ⟨rfl, _, rfl, .rise (.good r row rfl hr hnm (by omega) (Nat.lt_of_le_of_lt (dedup_len row) hrl) fun f H1 s1 nf hf => ?_)⟩
   have hB1 := hB.sub s1
   refine ⟨_, rfl, _, rfl, _, hf, _, rfl, _, rfl, _, s1 _ _ hr, ne_int ?_⟩
   rcases hx with ⟨hnd, rfl⟩ | ⟨hnd, rfl, hb2⟩
   ·have hl : ¬ (sd row).length = row.length := fun q => hnd (nodup_of_sd q)
    rw [decide_eq_false (by rw [List.length_map, List.length_map]; omega)]
    exact ⟨by decide, fin _ s1⟩
   ·have hl : (sd row).length = row.length := by rw [sd_of_nodup hnd, sortS_len]
    rw [decide_eq_true (by rw [List.length_map, List.length_map, hl])]
    refine ⟨_, rfl, B.a, B.d, _, .ref B.k, rfl, hB1.inst, hB1.attrs, by kernel_rfl, _, rfl, _, hB1.kept, val_k (eq_int ?_)⟩
    by_cases h30 : B.rs.length = 30
    ·rw [decide_eq_true (show (((bkDict B.rs).length : Int) = 30) by rw [List.length_map, h30]; rfl)]
     exact ite_t ⟨by decide, fin _ s1⟩
    ·rw [decide_eq_false (show ¬ (((bkDict B.rs).length : Int) = 30) by rw [List.length_map]; omega)]
     refine ite_f ?_
     refine ⟨_, rfl, B.a, B.d, _, rfl, hB1.inst, hB1.attrs, by kernel_rfl, B, rfl, hB1, fun g H2 s2 ng hg => ?_⟩
     have f12 := hB.few12
     have fl : (sd B.sets.flatten).length ≤ 12 := by unfold sd; rw [sortS_len]; exact f12
     refine ⟨_, rfl, _, _, hg, s2 _ _ hf, by rw [List.length_map, List.length_map, hl, sizeLine_is]; omega, fun r3 hr3 => ?_⟩
     rw [← List.map_append]
     have s3 := Sub.add hr3 (.list ((sd B.sets.flatten ++ sd row).map AV.str))
     refine ⟨r3, _, rfl, put_get _ _ _, by rw [List.length_append, hl]; omega, fun r4 hr4 => ?_⟩
     have s4 := Sub.add hr4 (.sset (dedup (sd B.sets.flatten ++ sd row)))
     refine ⟨_, rfl, _, put_get _ _ _, val_k (gt_k ?_)⟩
     have dl : (dedup (sd B.sets.flatten ++ sd row)).length = (dedup (B.sets.flatten ++ row)).length := dedup_len_congr fun n => by
      rw [List.mem_append, List.mem_append, mem_sd, mem_sd]
     have g12 : 12 < (dedup (B.sets.flatten ++ row)).length := hb2.resolve_left h30
     rw [decide_eq_true (show ((12 : Int) < ((dedup (sd B.sets.flatten ++ sd row)).length : Int)) by rw [dl]; omega)]
     exact ite_t ⟨by decide, fin _ (s1.trans (s2.trans (s3.trans s4)))⟩
  cases hbad with
  | none hv => exact ⟨rfl, _, rfl, .none v rfl hv fin⟩
  | name r xs w ys ev hs => subst ev; exact ⟨rfl, _, rfl, .rise (.bad r xs w ys rfl hs fin)⟩
  | twice r row ev hr hnm hrl hnd => exact good ev hr hnm hrl (.inl ⟨hnd, rfl⟩)
  | many r row ev hr hnm hrl hnd hm => exact good ev hr hnm hrl (.inr ⟨hnd, rfl, hm⟩)
end Mine
end
-- text B4
section
namespace Mine
open PySem
set_option maxRecDepth 10000
theorem Ris.sd {x : List Str} (h : Ris x) : sd x = x := by rw [sd_of_nodup h.nodup, h.sort]
structure JB (H : AH) (F : List (List Str)) (B : Bk) (k : Nat) (H' : AH) : Prop where
 sub : Sub H H'
 book : BookAt H' B
 sets : B.sets = (F.take k).map sortS
 c : B.c = k
 num : B.rs.map (·.1) = (List.range k).map (fun i : Nat => (i : Int))
 new : ∀ x, (x = B.a ∨ x = B.d ∨ x = B.k ∨ ∃ r ∈ B.rs, x = r.2.1) → H x = none
theorem JB.more {H : AH} {F : List (List Str)} {B : Bk} {k : Nat} {H' H2 H3 : AH} {l : Addr} {row : List Str} (J : JB H F B k H') (s2 : Sub H' H2) (hrow : F[k]? = some row) (c3 : Chg H2 H3 (fun x => x = B.d ∨ x = B.k)) (nl : H2 l = none) (hB3 : BookAt H3 (B.more l (sortS row))) : JB H F (B.more l (sortS row)) (k + 1) H3 := by
 refine ⟨fun z o e => c3.keep z o ?_ (s2 _ _ (J.sub _ _ e)), hB3, ?_, ?_, ?_, ?_⟩
 ·rintro (rfl | rfl)
  ·rw [J.new _ (.inr (.inl rfl))] at e; cases e
  ·rw [J.new _ (.inr (.inr (.inl rfl)))] at e; cases e
 ·show (B.rs ++ [(B.c, l, sortS row)]).map (·.2.2) = _
  rw [List.map_append, List.take_add_one, hrow]
  have := J.sets
  unfold Bk.sets at this
  rw [this]; simp
 ·show B.c + 1 = _
  rw [J.c]; simp
 ·show (B.rs ++ [(B.c, l, sortS row)]).map (·.1) = _
  rw [List.map_append, J.num, List.range_succ, List.map_append]
  simp [J.c]
 ·rintro z (rfl | rfl | rfl | ⟨r, hr, rfl⟩)
  ·exact J.new _ (.inl rfl)
  ·exact J.new _ (.inr (.inl rfl))
  ·exact J.new _ (.inr (.inr (.inl rfl)))
  ·rcases List.mem_append.mp hr with hr | hr
   ·exact J.new _ (.inr (.inr (.inr ⟨r, hr, rfl⟩)))
   ·rw [show r = (B.c, l, sortS row) by simpa using hr]
    exact (J.sub.trans s2).new nl
end Mine
end
-- text B6
section
namespace Mine
open PySem
set_option maxRecDepth 10000
end Mine
end
-- text B5
section
namespace Mine
open PySem
set_option maxRecDepth 10000
inductive NAll (H : AH) : List (Addr × Addr) → List (Int × List Str) → Prop
 | nil : NAll H [] []
 | cons {t l : Addr} {n : Int} {xs : List Str} {ts : List (Addr × Addr)} {L : List (Int × List Str)} : H t = some (.tuple [.int n, .ref l]) → LS H l xs → NAll H ts L → NAll H ((t, l) :: ts) ((n, xs) :: L)
inductive NR (H : AH) (a : Addr) (L : List (Int × List Str)) : Prop
 | mk (ts : List (Addr × Addr)) : H a = some (.list (ts.map fun t => AV.ref t.1)) → NAll H ts L → NR H a L
theorem NAll.sub {H K : AH} (s : Sub H K) {ts : List (Addr × Addr)} {L : List (Int × List Str)} (h : NAll H ts L) : NAll K ts L := by
 induction h with
 | nil => exact .nil
 | cons h1 h2 _ ih => exact .cons (s _ _ h1) (s _ _ h2) ih
theorem NR.sub {H K : AH} (s : Sub H K) {a : Addr} {L : List (Int × List Str)} (h : NR H a L) : NR K a L := by
 obtain ⟨ts, h1, h2⟩ := h
 exact ⟨ts, s _ _ h1, h2.sub s⟩
theorem NAll.of {H : AH} : ∀ {ts : List (Addr × Addr)} {L : List (Int × List Str)}, ts.length = L.length → (∀ (k : Nat) t u, ts[k]? = some t → L[k]? = some u → H t.1 = some (.tuple [.int u.1, .ref t.2]) ∧ LS H t.2 u.2) → NAll H ts L
 | [], [], _, _ => .nil
 | [], _ :: _, h, _ => by simp at h
 | _ :: _, [], h, _ => by simp at h
 | t :: ts, u :: L, h, k => .cons (k 0 t u rfl rfl).1 (k 0 t u rfl rfl).2 (NAll.of (by simpa using h) fun j b ys e1 e2 => k (j + 1) b ys (by simpa using e1) (by simpa using e2))
noncomputable def dP (p : Int × List Str) : PyData := .tuple [.int p.1, dL p.2]
noncomputable def dN (L : List (Int × List Str)) : PyData := .list (L.map dP)
theorem NAll.rd {H : AH} {ts : List (Addr × Addr)} {L : List (Int × List Str)} (h : NAll H ts L) : RdAll H (ts.map fun t => AV.ref t.1) (L.map dP) := by
 induction h with
 | nil => exact .nil
 | cons h1 h2 _ ih => exact .cons (.tuple h1 (.cons (.int _) (.cons h2.rd .nil))) ih
theorem NR.rd {H : AH} {a : Addr} {L : List (Int × List Str)} (h : NR H a L) : Rd H (.ref a) (dN L) := by
 obtain ⟨ts, h1, h2⟩ := h
 exact .list h1 h2.rd
theorem dep_dPs : ∀ L : List (Int × List Str), PyData.depthAll (L.map dP) ≤ 2
 | [] => by simp [PyData.depthAll]
 | x :: r => by
  have := dep_dPs r
  simp only [List.map_cons, PyData.depthAll, dP, PyData.depth, dep_dL]
  omega
theorem dep_dN (L : List (Int × List Str)) : (dN L).depth ≤ 3 := by
 have := dep_dPs L
 simp only [dN, PyData.depth]; omega
theorem eqv_dP (p q : Int × List Str) : PyData.eqv (dP p) (dP q) = decide (p = q) := by
 obtain ⟨i, x⟩ := p
 obtain ⟨j, y⟩ := q
 simp only [dP, PyData.eqv, PyData.eqvAll, eqv_dL, beq_dec]
 by_cases e : i = j <;> by_cases f : x = y <;> simp [e, f]
theorem eqs_dP : ∀ (F G : List (Int × List Str)), PyData.eqvAll (F.map dP) (G.map dP) = decide (F = G)
 | [], [] => by simp [PyData.eqvAll]
 | [], _ :: _ => by simp [PyData.eqvAll]
 | _ :: _, [] => by simp [PyData.eqvAll]
 | x :: r, y :: q => by
  simp only [List.map_cons, PyData.eqvAll, eqv_dP, eqs_dP r q]
  by_cases e : x = y <;> by_cases f : r = q <;> simp [e, f]
theorem eqv_dN (F G : List (Int × List Str)) : PyData.eqv (dN F) (dN G) = decide (F = G) := by simp only [dN, PyData.eqv, eqs_dP]
theorem ne_NR_eq {H : AH} {a b : Addr} {L : List (Int × List Str)} {Q : Bool → AH → Prop} (h1 : NR H a L) (h2 : NR H b L) (h : Q false H) : aNe (.ref a) (.ref b) H Q :=
 ⟨_, _, h1.rd, h2.rd, by have := dep_dN L; omega, by have := dep_dN L; omega, by rw [eqv_dN, decide_eq_true rfl]; exact h⟩
noncomputable def Bk.num (B : Bk) : List (Int × List Str) := B.rs.map fun r => (r.1, r.2.2)
theorem rows_nr {H : AH} {r : Addr} {B : Bk} {ts : List (Addr × Addr)} {H0 : AH} (hl : ts.length = B.rs.length) (h : H r = some (.list (ts.map fun t => AV.ref t.1)))
  (ht : ∀ (k : Nat) t, ts[k]? = some t → ∃ u, B.rs[k]? = some u ∧ H t.1 = some (.tuple [.int u.1, .ref t.2]) ∧ LS H t.2 u.2.2 ∧ H0 t.1 = none ∧ H0 t.2 = none) : NR H r B.num := by
 refine ⟨ts, h, NAll.of (by rw [hl]; exact (List.length_map _).symm) fun k t u e1 e2 => ?_⟩
 obtain ⟨w, h1, h2, h3, _⟩ := ht k t e1
 unfold Bk.num at e2
 rw [List.getElem?_map, h1] at e2; cases e2
 exact ⟨h2, h3⟩
end Mine
end
-- text B7
section
namespace Mine
open PySem
set_option maxRecDepth 10000
noncomputable abbrev Turn (B : Bk) (H K : AH) : Prop := Chg H K (fun x => x = B.d ∨ x = B.k)
theorem Chg.at {H K : AH} {B : Bk} {x : Addr} {o : AO} (c : Turn B H K) (hB : BookAt H B) (h : H x = some o) (n1 : ∀ e, o ≠ .attrs e) (n2 : ∀ e, o ≠ .idict e) : K x = some o := c.keep x _ (by
 rintro (rfl | rfl)
 ·exact n1 _ (Option.some.inj (h.symm.trans hB.attrs))
 ·exact n2 _ (Option.some.inj (h.symm.trans hB.kept))) h
theorem Chg.lst {H K : AH} {B : Bk} {x : Addr} {xs : List AV} (c : Turn B H K) (hB : BookAt H B) (h : H x = some (.list xs)) : K x = some (.list xs) := c.at hB h (fun e q => by cases q) fun e q => by cases q
theorem Chg.tup {H K : AH} {B : Bk} {x : Addr} {xs : List AV} (c : Turn B H K) (hB : BookAt H B) (h : H x = some (.tuple xs)) : K x = some (.tuple xs) := c.at hB h (fun e q => by cases q) fun e q => by cases q
theorem Chg.lall {H K : AH} {B : Bk} {as : List Addr} {F : List (List Str)} (c : Turn B H K) (hB : BookAt H B) (h : LAll H as F) : LAll K as F := by
 induction h with
 | nil => exact .nil
 | cons x _ ih => exact .cons (c.lst hB x) ih
theorem Chg.ll {H K : AH} {B : Bk} {a : Addr} {F : List (List Str)} (c : Turn B H K) (hB : BookAt H B) (h : LL H a F) : LL K a F := by
 obtain ⟨as, h1, h2⟩ := h
 exact ⟨as, c.lst hB h1, c.lall hB h2⟩
theorem Chg.nall {H K : AH} {B : Bk} {ts : List (Addr × Addr)} {L : List (Int × List Str)} (c : Turn B H K) (hB : BookAt H B) (h : NAll H ts L) : NAll K ts L := by
 induction h with
 | nil => exact .nil
 | cons h1 h2 _ ih => exact .cons (c.tup hB h1) (c.lst hB h2) ih
theorem Chg.nr {H K : AH} {B : Bk} {a : Addr} {L : List (Int × List Str)} (c : Turn B H K) (hB : BookAt H B) (h : NR H a L) : NR K a L := by
 obtain ⟨ts, h1, h2⟩ := h
 exact ⟨ts, c.lst hB h1, c.nall hB h2⟩
theorem Chg.bk {H K : AH} {B D : Bk} (c : Turn B H K) (hB : BookAt H B) (h : BookAt H D) (n1 : D.d ≠ B.d) (n2 : D.k ≠ B.k) : BookAt K D :=
 ⟨c.at hB h.inst (fun e q => by cases q) (fun e q => by cases q), c.keep _ _ (by
  rintro (q | q)
  ·exact n1 q
  ·have := h.attrs; rw [q, hB.kept] at this; cases this) h.attrs, c.keep _ _ (by
  rintro (q | q)
  ·have := h.kept; rw [q, hB.attrs] at this; cases this
  ·exact n2 q) h.kept, fun r hr => c.lst hB (h.rows r hr), h.inc, h.lt, h.nm, h.ris, h.len, h.rl, h.few⟩
end Mine
end
-- text K12
section
namespace Mine
open PySem
set_option maxRecDepth 10000
theorem refs_of {H : AH} {A : Addr → Prop} : ∀ {ys : List AV} {G : List (List Str)}, ys.length = G.length → (∀ (k : Nat) y g, ys[k]? = some y → G[k]? = some g → ∃ c, y = .ref c ∧ A c ∧ LS H c g) → ∃ cs : List Addr, ys = cs.map AV.ref ∧ (∀ c ∈ cs, A c) ∧ LAll H cs G
 | [], [], _, _ => ⟨[], rfl, fun _ h => (nomatch h), .nil⟩
 | [], _ :: _, h, _ => by simp at h
 | _ :: _, [], h, _ => by simp at h
 | y :: ys, g :: G, h, k => by
  obtain ⟨c, rfl, hA, hc⟩ := k 0 y g rfl rfl
  obtain ⟨cs, rfl, h1, h2⟩ := refs_of (ys := ys) (G := G) (by simpa using h) fun j y g e1 e2 => k (j + 1) y g (by simpa using e1) (by simpa using e2)
  refine ⟨c :: cs, rfl, fun d hd => ?_, .cons hc h2⟩
  rcases List.mem_cons.mp hd with rfl | hd
  ·exact hA
  ·exact h1 d hd
theorem compJ_new {m : Mp} {i : Nat} {te : Tm} {v : AV} {H : AH} {Q : QV} {kd : SK} {xs : List AV} {G : List (List Str)} (hi : ItemsK kd H v xs) (hG : G.length = xs.length)
  (step : ∀ (k : Nat) x g H', Sub H H' → xs[k]? = some x → G[k]? = some g → ∀ Q' : QV, (∀ c H3, Sub H' H3 → H' c = none → LS H3 c g → Q' (.ref c) H3) → te (m.upd i x) H' Q' noX)
  (fin : ∀ cs r H', Sub H H' → New H cs → H r = none → (∀ c ∈ cs, c ≠ r) → RL H' r cs → LAll H' cs G → Q (.ref r) H') : CompJ m i (tBoolNil true) te v H Q := by
 refine compJ_sub hi (fun k y H' => ∀ g, G[k]? = some g → ∃ c, y = .ref c ∧ H c = none ∧ LS H' c g) (fun k y H1 H2 h s g hg => ?_) (fun k x H' sb hx Q' hQ => ?_) fun ys H' sb hl hy r hr => ?_
 ·obtain ⟨c, h1, h2, h3⟩ := h g hg
  exact ⟨c, h1, h2, h3.sub s⟩
 ·have hk : k < G.length := by rw [hG]; exact (List.getElem?_eq_some_iff.mp hx).1
  have hg : G[k]? = some G[k] := List.getElem?_eq_getElem hk
  refine step k x G[k] H' sb hx hg Q' fun c H3 s3 hc h3 => hQ _ _ s3 fun g' hg' => ?_
  rw [hg] at hg'; cases hg'
  exact ⟨c, rfl, sb.new hc, h3⟩
 ·obtain ⟨cs, rfl, h1, h2⟩ := refs_of (H := H') (A := fun c => H c = none) (hl.trans hG.symm) fun k y g e1 e2 => hy k y e1 g e2
  refine fin cs r _ (sb.trans (Sub.add hr _)) h1 (sb.new hr) (fun c hc => ?_) (put_get _ _ _) (h2.sub (Sub.add hr _))
  obtain ⟨g, _, hs⟩ := h2.mem hc
  exact ne_new hr hs
theorem compJ_filter {m : Mp} {i : Nat} {tc : Tb} {p : Addr} {cs : List Addr} {G : List (List Str)} {H : AH} {Q : QV} {f : List Str → Bool} (hp : RL H p cs) (hA : LAll H cs G)
  (step : ∀ c g H', Sub H H' → LS H' c g → c ∈ cs → ∀ Q' : Bool → AH → Prop, (∀ H3, Sub H' H3 → Q' (f g) H3) → tc (m.upd i (.ref c)) H' Q' noX)
  (fin : ∀ bs r H', Sub H H' → (∀ b ∈ bs, b ∈ cs) → H r = none → RL H' r bs → LAll H' bs (G.filter f) → Q (.ref r) H') : CompJ m i tc (tLoc i) (.ref p) H Q := by
 refine ⟨.list, cs.map AV.ref, hp, fun k ys H' => Sub H H' ∧ ∃ bs, ys = bs.map AV.ref ∧ (∀ b ∈ bs, b ∈ cs) ∧ LAll H' bs ((G.take k).filter f), ⟨.refl _, [], rfl, fun _ h => (nomatch h), .nil⟩, ?_⟩
 rintro k ys H' ⟨sb, bs, rfl, hb, hB⟩ hk
 refine ⟨sb _ _ hp, fun x hx => ?_, fun e r hr => ?_⟩
 ·rw [List.getElem?_map] at hx
  cases e : cs[k]? with
  | none => rw [e] at hx; cases hx
  | some c =>
  rw [e] at hx; simp at hx; subst hx
  obtain ⟨g, hg, hc⟩ := hA.get e
  refine step c g H' sb (hc.sub sb) (List.mem_of_getElem? e) _ fun H3 s3 => ?_
  have ef : (G.take (k + 1)).filter f = (G.take k).filter f ++ (if f g = true then [g] else []) := by
   rw [List.take_add_one, hg, List.filter_append]
   cases q : f g <;> simp [List.filter, q]
  cases q : f g with
  | true =>
   refine ⟨_, Mp.upd_self _ _ _, sb.trans s3, bs ++ [c], by simp, fun b hb' => ?_, ?_⟩
   ·rcases List.mem_append.mp hb' with hb' | hb'
    ·exact hb b hb'
    ·have : b = c := by simpa using hb'
     subst this; exact List.mem_of_getElem? e
   ·rw [ef, if_pos q]
    exact (hB.sub s3).append (.cons ((hc.sub sb).sub s3) .nil)
  | false =>
   refine ⟨sb.trans s3, bs, rfl, hb, ?_⟩
   rw [ef, if_neg (by rw [q]; decide), List.append_nil]; exact hB.sub s3
 ·have ek : G.take k = G := by rw [e, List.length_map, hA.length, List.take_length]
  rw [ek] at hB
  exact fin bs r _ (sb.trans (Sub.add hr _)) hb (sb.new hr) (put_get _ _ _) (hB.sub (Sub.add hr _))
theorem flatMap_take_succ {α β : Type} {f : α → List β} {l : List α} {k : Nat} {x : α} (h : l[k]? = some x) : (l.take (k + 1)).flatMap f = (l.take k).flatMap f ++ f x := by
 rw [List.take_add_one, h]; simp [List.flatMap_append]
noncomputable def les (n : Str) (x : List Str) : List Str := x.filter fun m => decide (m ≠ n)
theorem mem_les {n m : Str} {x : List Str} : m ∈ les n x ↔ m ∈ x ∧ m ≠ n := by simp [les]
theorem les_nodup {n : Str} {x : List Str} (h : x.Nodup) : (les n x).Nodup := h.sublist List.filter_sublist
theorem notIn_strs {H : AH} {a : Addr} {xs : List Str} {n : Str} {Q : Bool → AH → Prop} (ha : LS H a xs) (h : Q (!decide (n ∈ xs)) H) : aNotIn (.str n) (.ref a) H Q := in_strs ha h
theorem ne_str {H : AH} {x y : Str} {Q : Bool → AH → Prop} (h : Q (!decide (x = y)) H) : aNe (.str x) (.str y) H Q :=
 ⟨_, _, .str x, .str y, by simp [PyData.depth], by simp [PyData.depth], by
  have : PyData.eqv (.str x) (.str y) = decide (x = y) := by
   simp only [PyData.eqv]
   by_cases e : x = y <;> simp [e]
  rw [this]; exact h⟩
theorem comp_les {m : Mp} {j : Nat} {tc : Tb} {H : AH} {Q : QV} {c : Addr} {xs : List Str} {n : Str} (hc : LS H c xs) (test : ∀ x, ∀ Q' : Bool → AH → Prop, Q' (!decide (x = n)) H → tc (m.upd j (.str x)) H Q' noX)
  (fin : ∀ r, H r = none → Q (.ref r) (H.put r (.list ((les n xs).map AV.str)))) : CompJ m j tc (tLoc j) (.ref c) H Q := by
 refine ⟨.list, xs.map AV.str, hc, fun k ys H' => H' = H ∧ ys = (les n (xs.take k)).map AV.str, ⟨rfl, by simp [les]⟩, ?_⟩
 rintro k ys H' ⟨rfl, rfl⟩ hk
 refine ⟨hc, fun y hy => ?_, fun e r hr => ?_⟩
 ·obtain ⟨x, hx, rfl⟩ := getElem?_strs hy
  have ef : les n (xs.take (k + 1)) = les n (xs.take k) ++ (if (!decide (x = n)) = true then [x] else []) := by
   rw [List.take_add_one, hx]
   unfold les
   rw [List.filter_append]
   by_cases q : x = n <;> simp [q]
  refine test x _ ?_
  cases q : (!decide (x = n)) with
  | true =>
   refine ite_t ⟨_, Mp.upd_self _ _ _, rfl, ?_⟩
   rw [ef, if_pos q, List.map_append]; rfl
  | false =>
   refine ite_f ⟨rfl, ?_⟩
   rw [ef, if_neg (by rw [q]; decide), List.append_nil]
 ·rw [List.length_map] at e
  rw [e, List.take_length]
  exact fin r hr
theorem comp_nums {m : Mp} {i : Nat} {tc : Tb} {H : AH} {Q : QV} {r : Addr} {L : List (Int × List Str)} {f : List Str → Bool} (hR : NR H r L)
  (test : ∀ t l n g H', Sub H H' → H' t = some (.tuple [.int n, .ref l]) → LS H' l g → ∀ Q' : Bool → AH → Prop, (∀ H3, Sub H' H3 → Q' (f g) H3) → tc (m.upd i (.ref t)) H' Q' noX)
  (fin : ∀ r' H', Sub H H' → H r' = none → H' r' = some (.list (((L.filter fun p => f p.2).map (·.1)).map AV.int)) → Q (.ref r') H') :
  CompJ m i tc (tItem (tLoc i) (tVal (.int 0))) (.ref r) H Q := by
 obtain ⟨ts, hr, hN⟩ := hR
 have get : ∀ {k : Nat} {t : Addr × Addr}, ts[k]? = some t → ∃ p, L[k]? = some p ∧ H t.1 = some (.tuple [.int p.1, .ref t.2]) ∧ LS H t.2 p.2 := by
  clear hr fin test
  induction hN with
  | nil => intro k t e; simp at e
  | @cons t l n xs ts L h1 h2 _ ih =>
   intro k t' e
   cases k with
   | zero => simp at e; subst e; exact ⟨(n, xs), rfl, h1, h2⟩
   | succ k => simpa using ih (by simpa using e)
 have hl : ts.length = L.length := by
  clear get hr fin test
  induction hN with
  | nil => rfl
  | cons _ _ _ ih => simp [ih]
 refine ⟨.list, ts.map fun t : Addr × Addr => AV.ref t.1, hr, fun k ys H' => Sub H H' ∧ ys = (((L.take k).filter fun p => f p.2).map (·.1)).map AV.int, ⟨.refl _, by simp⟩, ?_⟩
 rintro k ys H' ⟨sb, rfl⟩ hk
 refine ⟨sb _ _ hr, fun y hy => ?_, fun e r' hr' => ?_⟩
 ·rw [List.getElem?_map] at hy
  cases e : ts[k]? with
  | none => rw [e] at hy; cases hy
  | some t =>
   rw [e] at hy
   cases hy
   obtain ⟨p, hp, h1, h2⟩ := get e
   have ef : (L.take (k + 1)).filter (fun p => f p.2) = (L.take k).filter (fun p => f p.2) ++ (if f p.2 = true then [p] else []) := by
    rw [List.take_add_one, hp, List.filter_append]
    cases q : f p.2 <;> simp [List.filter, q]
   refine test t.1 t.2 p.1 p.2 H' sb (sb _ _ h1) (sb _ _ h2) _ fun H3 s3 => ?_
   cases q : f p.2 with
   | true =>
    refine ite_t ⟨_, Mp.upd_self _ _ _, _, (sb.trans s3) _ _ h1, .int p.1, rfl, sb.trans s3, ?_⟩
    rw [ef, if_pos q, List.map_append, List.map_append]; rfl
   | false =>
    refine ite_f ⟨sb.trans s3, ?_⟩
    rw [ef, if_neg (by rw [q]; decide), List.append_nil]
 ·rw [List.length_map, hl] at e
  rw [e, List.take_length] at *
  exact fin r' _ (sb.trans (Sub.add hr' _)) (sb.new hr') (put_get _ _ _)
theorem eqv_ints_nil {H : AH} {r z : Addr} {i : Int} {ns : List Int} {Q : Bool → AH → Prop} (hr : H r = some (.list ((i :: ns).map AV.int))) (hz : H z = some (.list [])) (h : Q false H) : aEq (.ref r) (.ref z) H Q := by
 have rd : ∀ ns : List Int, RdAll H (ns.map AV.int) (ns.map PyData.int) := fun ns => by
  induction ns with
  | nil => exact .nil
  | cons n ns ih => exact .cons (.int n) ih
 have dp : ∀ ns : List Int, PyData.depthAll (ns.map PyData.int) = 0 := fun ns => by
  induction ns with
  | nil => simp [PyData.depthAll]
  | cons n ns ih => simp [PyData.depthAll, PyData.depth, ih]
 refine ⟨_, _, .list hr (rd _), .list hz .nil, by rw [PyData.depth, dp]; decide, by simp [PyData.depth, PyData.depthAll], ?_⟩
 rw [List.map_cons, PyData.eqv, PyData.eqvAll]; exact h
theorem eqv_nil {H : AH} {r z : Addr} {Q : Bool → AH → Prop} (hr : H r = some (.list [])) (hz : H z = some (.list [])) (h : Q true H) : aEq (.ref r) (.ref z) H Q :=
 ⟨_, _, .list hr .nil, .list hz .nil, by simp [PyData.depth, PyData.depthAll], by simp [PyData.depth, PyData.depthAll], by rw [PyData.eqv, PyData.eqvAll]; exact h⟩
theorem rev_strs {x : List Str} {k : Nat} {y : AV} (h : (x.map AV.str).reverse[k]? = some y) : ∃ n, x.reverse[k]? = some n ∧ y = .str n := by
 rw [← List.map_reverse] at h
 exact getElem?_strs h
noncomputable def Bk.less (B : Bk) (k : Int) : Bk := { B with rs := B.rs.filter fun r => decide (r.1 ≠ k) }
inductive F_b_takeK (vs : List AV) (H : AH) (Q : QV) : Prop
 | mk (B : Bk) (k : Int) : vs = [.ref B.a, .int k] → BookAt H B → (∃ r ∈ B.rs, r.1 = k) → (∀ H', Chg H H' (fun x => x = B.d ∨ x = B.k) → BookAt H' (B.less k) → Q .none H') → F_b_takeK vs H Q
noncomputable def F_b_take : Fn := fun vs H Q _ => F_b_takeK vs H Q
noncomputable def T_b_take : Ts := (tSeq (tIte (tOrB (tNotB (tTruth (tIsi "int" (tLoc 1)))) (tOrB (tTruth (tIsi "bool" (tLoc 1))) (tOrB (tCmpB aNotInD (tLoc 1) (tAttr (Str.ofString "kept") (tLoc 0))) (tBoolNil false)))) (tSeq tNever tSkip) tSkip) (tSeq (tExprA (tMeth "dict" bPop (tAttr (Str.ofString "kept") (tLoc 0)) (tCons (tLoc 1) tNil))) tSkip))
noncomputable def is_b_take : List Nat := [0, 1]
theorem woA_bk (rs : List (Int × Addr × List Str)) (k : Int) : woA (bkDict rs) k = bkDict (rs.filter fun r => decide (r.1 ≠ k)) := by
 unfold woA bkDict
 rw [List.filter_map]; rfl
theorem isi_int {H : AH} {k : Int} : aIs "int" (.int k) H = some true := by simp [aIs]
theorem isi_int_bool {H : AH} {k : Int} : aIs "bool" (.int k) H = some false := by simp [aIs]
theorem ok_b_take (vs : List AV) (H : AH) (Q : QV) (X : QX) (h : F_b_take vs H Q X) : mkFn is_b_take T_b_take vs H Q X := by
 obtain ⟨B, k, rfl, hB, ⟨r, hr, rfl⟩, fin⟩ := h
 obtain ⟨i, hi, e⟩ := List.mem_iff_getElem.mp hr
 have lk := dict_at hB.inc (show B.rs[i]? = some r by rw [List.getElem?_eq_getElem hi, e])
 refine ⟨rfl, _, rfl, true, isi_int, true, rfl, _, rfl, false, isi_int_bool, false, rfl, ?_⟩
 refine ⟨_, rfl, _, rfl, B.a, B.d, _, .ref B.k, rfl, hB.inst, hB.attrs, by kernel_rfl, B.k, r.1, _, rfl, rfl, hB.kept, ?_⟩
 rw [lk]
 refine ⟨_, rfl, B.a, B.d, _, .ref B.k, rfl, hB.inst, hB.attrs, by kernel_rfl, .idict hB.kept, _, rfl, B.k, r.1, _, _, rfl, hB.kept, lk, ?_⟩
 have hm : ∀ u ∈ (B.less r.1).rs, u ∈ B.rs := fun u hu => (List.mem_filter.mp hu).1
 have na : B.a ≠ B.k := fun e => by have := hB.inst; rw [e, hB.kept] at this; cases this
 have nd : B.d ≠ B.k := fun e => by have := hB.attrs; rw [e, hB.kept] at this; cases this
 refine fin _ ((Chg.refl _ _).put _ (.inr rfl)) ⟨(AH.put_ne _ _ na).trans hB.inst, (AH.put_ne _ _ nd).trans hB.attrs, ?_, fun u hu => ?_, ?_, fun u hu => hB.lt u (hm u hu), fun u hu => hB.nm u (hm u hu), fun u hu => hB.ris u (hm u hu), Nat.le_trans (List.length_filter_le _ _) hB.len, fun u hu => hB.rl u (hm u hu), by
  obtain ⟨names, w1, w2⟩ := hB.few
  exact ⟨names, w1, fun u hu => w2 u (hm u hu)⟩⟩
 ·show (AH.put _ _ _) B.k = _
  rw [put_get, woA_bk]; rfl
 ·refine (AH.put_ne _ _ fun e => ?_).trans (hB.rows u (hm u hu))
  have := hB.rows u (hm u hu)
  unfold LS at this
  rw [e, hB.kept] at this; cases this
 ·exact hB.inc.sublist (List.filter_sublist.map _)
theorem eq_str {H : AH} {x y : Str} {Q : Bool → AH → Prop} (h : Q (decide (x = y)) H) : aEq (.str x) (.str y) H Q :=
 ⟨_, _, .str x, .str y, by simp [PyData.depth], by simp [PyData.depth], by
  have : PyData.eqv (.str x) (.str y) = decide (x = y) := by
   simp only [PyData.eqv]
   by_cases e : x = y <;> simp [e]
  rw [this]; exact h⟩
theorem seq_k {t u : Ts} {m : Mp} {H : AH} {QN : Mp → AH → Prop} {QR : QV} {X : QX} (h : t m H (fun m1 H1 => u m1 H1 QN QR X) QR X) : tSeq t u m H QN QR X := h
end Mine
end
-- text B12
section
namespace Mine
open PySem
set_option maxRecDepth 10000
noncomputable abbrev xName : Str := Str.ofString "BadName"
noncomputable abbrev xRow : Str := Str.ofString "BadRow"
noncomputable abbrev xMany : Str := Str.ofString "TooMany"
noncomputable abbrev xMeet : Str := Str.ofString "NoMeet"
inductive ThX (H : AH) (v : AV) : Str → Prop
 | none : aIs "list" v H = some false → ThX H v xRow
 | name (r : Addr) (xs : List Str) (w : AV) (ys : List Str) : v = .ref r → Spoilt H r xs w ys → ThX H v xName
theorem need_bad {H : AH} {v : AV} {x : Str} {Q : QV} {X : QX} (h : ThX H v x) (fin : ∀ H', Sub H H' → X x H') : F_need_set [v] H Q X := by
 cases h with
 | none hv => exact .none v rfl hv fin
 | name r xs w ys ev hs => subst ev; exact .rise (.bad r xs w ys rfl hs fin)
theorem need_good {H : AH} {r : Addr} {xs : List Str} {Q : QV} {X : QX} (ha : LS H r xs) (hn : ∀ n ∈ xs, Nm n) (hl : xs.length < 64) (fin : ∀ r' H', Sub H H' → H r' = none → LS H' r' (sd xs) → Q (.ref r') H') : F_need_set [.ref r] H Q X :=
 .rise (.good r xs rfl ha hn (by omega) (Nat.lt_of_le_of_lt (dedup_len xs) hl) fin)
inductive F_b_is_metK (vs : List AV) (H : AH) (Q : QV) : Prop
 | mk (B : Bk) (a : Addr) (xs : List Str) : vs = [.ref B.a, .ref a] → BookAt H B → LS H a xs → (∀ c H', Sub H H' → Q (.bool c) H') → F_b_is_metK vs H Q
noncomputable def F_b_is_met : Fn := fun vs H Q _ => F_b_is_metK vs H Q
inductive F_b_meetsK (vs : List AV) (H : AH) (Q : QV) (X : QX) : Prop
 | good (B : Bk) (r : Addr) (xs : List Str) : vs = [.ref B.a, .ref r] → BookAt H B → LS H r xs → (∀ n ∈ xs, Nm n) → xs.length < 64 → (∀ c H', Sub H H' → Q (.bool c) H') → F_b_meetsK vs H Q X
 | bad (B : Bk) (v : AV) (x : Str) : vs = [.ref B.a, v] → BookAt H B → ThX H v x → (∀ H', Sub H H' → X x H') → F_b_meetsK vs H Q X
noncomputable def F_b_meets : Fn := fun vs H Q X => F_b_meetsK vs H Q X
inductive AskK (vs : List AV) (H : AH) (Q : QV) (X : QX) : Prop
 | good (B : Bk) (r : Addr) (xs : List Str) : vs = [.ref B.a, .ref r] → BookAt H B → LS H r xs → (∀ n ∈ xs, Nm n) → xs.length < 64 → (∀ r H', Sub H H' → Q (.ref r) H') → (∀ H', Sub H H' → X xMeet H') → AskK vs H Q X
 | bad (B : Bk) (v : AV) (x : Str) : vs = [.ref B.a, v] → BookAt H B → ThX H v x → (∀ H', Sub H H' → X x H') → AskK vs H Q X
noncomputable def F_b_pared : Fn := fun vs H Q X => AskK vs H Q X
noncomputable def F_b_own : Fn := fun vs H Q X => AskK vs H Q X
inductive F_need_nameK (vs : List AV) (H : AH) (Q : QV) (X : QX) : Prop
 | good (x) : vs = [.str x] → Nm x → (∀ H', Sub H H' → Q .none H') → F_need_nameK vs H Q X
 | bad (v) : vs = [v] → NotNm H v → (∀ H', Sub H H' → X xName H') → F_need_nameK vs H Q X
noncomputable def F_need_name : Fn := fun vs H Q X => F_need_nameK vs H Q X
noncomputable def Fits (F : List (List Str)) : Prop := F.length ≤ 30 ∧ (dedup F.flatten).length ≤ 12
noncomputable abbrev NewBk (H : AH) (B : Bk) : Prop := ∀ x, (x = B.a ∨ x = B.d ∨ x = B.k ∨ ∃ r ∈ B.rs, x = r.2.1) → H x = none
inductive F_book_ofK (vs : List AV) (H : AH) (Q : QV) (X : QX) : Prop
 | mk (a : Addr) (F : List (List Str)) : vs = [.ref a] → LL H a F → (∀ r ∈ F, r.Nodup ∧ r.length < 64 ∧ ∀ n ∈ r, Nm n) → (Fits F → ∀ B H', Sub H H' → BookAt H' B → B.sets = F.map sortS → NewBk H B → Q (.ref B.a) H') → (¬ Fits F → ∀ H', Sub H H' → X xMany H') → F_book_ofK vs H Q X
noncomputable def F_book_of : Fn := fun vs H Q X => F_book_ofK vs H Q X
inductive StrkK (vs : List AV) (H : AH) (Q : QV) (X : QX) : Prop
 | good (B : Bk) (n : Str) : vs = [.ref B.a, .str n] → BookAt H B → Nm n → (∀ r H', Sub H H' → Q (.ref r) H') → StrkK vs H Q X
 | bad (B : Bk) (v : AV) : vs = [.ref B.a, v] → BookAt H B → NotNm H v → (∀ H', Sub H H' → X xName H') → StrkK vs H Q X
noncomputable def F_b_struck : Fn := fun vs H Q X => StrkK vs H Q X
noncomputable def F_b_without : Fn := fun vs H Q X => StrkK vs H Q X
noncomputable def crossL (F G : List (List Str)) : List (List Str) := F.flatMap fun x => G.map fun y => sd (x ++ y)
inductive F_b_joinedK (vs : List AV) (H : AH) (Q : QV) (X : QX) : Prop
 | mk (B C : Bk) : vs = [.ref B.a, .ref C.a] → BookAt H B → BookAt H C → (Fits (B.sets ++ C.sets) → ∀ B' H', Sub H H' → BookAt H' B' → B'.sets = B.sets ++ C.sets → NewBk H B' → Q (.ref B'.a) H') → (¬ Fits (B.sets ++ C.sets) → ∀ H', Sub H H' → X xMany H') → F_b_joinedK vs H Q X
noncomputable def F_b_joined : Fn := fun vs H Q X => F_b_joinedK vs H Q X
inductive F_b_crossedK (vs : List AV) (H : AH) (Q : QV) (X : QX) : Prop
 | mk (B C : Bk) : vs = [.ref B.a, .ref C.a] → BookAt H B → BookAt H C → (Fits (crossL B.sets C.sets) → ∀ B' H', Sub H H' → BookAt H' B' → B'.sets = crossL B.sets C.sets → NewBk H B' → Q (.ref B'.a) H') → (¬ Fits (crossL B.sets C.sets) → ∀ H', Sub H H' → X xMany H') → F_b_crossedK vs H Q X
noncomputable def F_b_crossed : Fn := fun vs H Q X => F_b_crossedK vs H Q X
noncomputable def T_b_is_met : Ts := (tSeq (tRet (tBcall bAll (tCons (tComp (tMcall (Str.ofString "all_sets") F_b_all_sets (tLoc 0) tNil) 2 (tBoolNil true) (tCall F_meets (tCons (tLoc 1) (tCons (tLoc 2) tNil)))) tNil))) tSkip)
noncomputable def is_b_is_met : List Nat := [0, 1]
noncomputable def T_b_meets : Ts := (tSeq (tRet (tMcall (Str.ofString "is_met") F_b_is_met (tLoc 0) (tCons (tCall F_need_set (tCons (tLoc 1) tNil)) tNil))) tSkip)
noncomputable def is_b_meets : List Nat := [0, 1]
noncomputable def T_b_pared : Ts := (tSeq (tAssign 2 (tCall F_need_set (tCons (tLoc 1) tNil))) (tSeq (tIte (tNotB (tTruth (tMcall (Str.ofString "is_met") F_b_is_met (tLoc 0) (tCons (tLoc 2) tNil)))) (tSeq (tRaise (Str.ofString "NoMeet") (tCons (tVal (.str (Str.ofString "the names do not meet the book"))) tNil)) tSkip) tSkip) (tSeq (tFor (tRevList (tLoc 2)) 3 (tSeq (tAssign 4 (tComp (tLoc 2) 5 (tCmpB aNe (tLoc 5) (tLoc 3)) (tLoc 5))) (tSeq (tIte (tTruth (tMcall (Str.ofString "is_met") F_b_is_met (tLoc 0) (tCons (tLoc 4) tNil))) (tSeq (tAssign 2 (tLoc 4)) tSkip) tSkip) tSkip))) (tSeq (tRet (tLoc 2)) tSkip))))
noncomputable def is_b_pared : List Nat := [0, 1]
noncomputable def T_b_own : Ts := (tSeq (tAssign 2 (tCall F_need_set (tCons (tLoc 1) tNil))) (tSeq (tIte (tNotB (tTruth (tMcall (Str.ofString "is_met") F_b_is_met (tLoc 0) (tCons (tLoc 2) tNil)))) (tSeq (tRaise (Str.ofString "NoMeet") (tCons (tVal (.str (Str.ofString "the names do not meet the book"))) tNil)) tSkip) tSkip) (tSeq (tAssign 3 (tList tNil)) (tSeq (tFor (tLoc 2) 4 (tSeq (tAssign 5 (tComp (tLoc 2) 7 (tCmpB aNe (tLoc 7) (tLoc 4)) (tLoc 7))) (tSeq (tAssign 6 (tComp (tMcall (Str.ofString "rows") F_b_rows (tLoc 0) tNil) 8 (tAndB (tCmpB aIn (tLoc 4) (tItem (tLoc 8) (tVal (.int 1)))) (tAndB (tNotB (tTruth (tCall F_meets (tCons (tLoc 5) (tCons (tItem (tLoc 8) (tVal (.int 1))) tNil))))) (tBoolNil true))) (tItem (tLoc 8) (tVal (.int 0))))) (tSeq (tIte (tCmpB aEq (tLoc 6) (tList tNil)) (tSeq (tRaise (Str.ofString "NoMeet") (tCons (tVal (.str (Str.ofString "a name has no row of its own"))) tNil)) tSkip) tSkip) (tSeq (tExpr (tMeth "list" bAppend (tLoc 3) (tCons (tTuple (tCons (tLoc 4) (tCons (tItem (tLoc 6) (tVal (.int 0))) tNil))) tNil))) tSkip))))) (tSeq (tRet (tLoc 3)) tSkip)))))
noncomputable def is_b_own : List Nat := [0, 1]
noncomputable def T_need_name : Ts := (tSeq (tIte (tNotB (tTruth (tCall F_is_name (tCons (tLoc 0) tNil)))) (tSeq (tRaise (Str.ofString "BadName") (tCons (tVal (.str (Str.ofString "no name"))) tNil)) tSkip) tSkip) tSkip)
noncomputable def is_need_name : List Nat := [0]
noncomputable def T_book_of : Ts := (tSeq (tAssign 1 (tMake F_b_init)) (tSeq (tFor (tLoc 0) 2 (tSeq (tExpr (tMcall (Str.ofString "put") F_b_put (tLoc 1) (tCons (tLoc 2) tNil))) tSkip)) (tSeq (tRet (tLoc 1)) tSkip)))
noncomputable def is_book_of : List Nat := [0]
noncomputable def T_b_struck : Ts := (tSeq (tExpr (tCall F_need_name (tCons (tLoc 1) tNil))) (tSeq (tRet (tCall F_book_of (tCons (tComp (tMcall (Str.ofString "all_sets") F_b_all_sets (tLoc 0) tNil) 2 (tBoolNil true) (tComp (tLoc 2) 3 (tCmpB aNe (tLoc 3) (tLoc 1)) (tLoc 3))) tNil))) tSkip))
noncomputable def is_b_struck : List Nat := [0, 1]
noncomputable def T_b_without : Ts := (tSeq (tExpr (tCall F_need_name (tCons (tLoc 1) tNil))) (tSeq (tRet (tCall F_book_of (tCons (tComp (tMcall (Str.ofString "all_sets") F_b_all_sets (tLoc 0) tNil) 2 (tCmpB aNotIn (tLoc 1) (tLoc 2)) (tLoc 2)) tNil))) tSkip))
noncomputable def is_b_without : List Nat := [0, 1]
noncomputable def T_b_joined : Ts := (tSeq (tRet (tCall F_book_of (tCons (tBin aAdd (tMcall (Str.ofString "all_sets") F_b_all_sets (tLoc 0) tNil) (tMcall (Str.ofString "all_sets") F_b_all_sets (tLoc 1) tNil)) tNil))) tSkip)
noncomputable def is_b_joined : List Nat := [0, 1]
noncomputable def T_b_crossed : Ts := (tSeq (tAssign 2 (tList tNil)) (tSeq (tFor (tMcall (Str.ofString "all_sets") F_b_all_sets (tLoc 0) tNil) 3 (tSeq (tExpr (tMeth "list" bExtend (tLoc 2) (tCons (tComp (tMcall (Str.ofString "all_sets") F_b_all_sets (tLoc 1) tNil) 4 (tBoolNil true) (tCall F_rising (tCons (tBin aAdd (tLoc 3) (tLoc 4)) tNil))) tNil))) tSkip)) (tSeq (tRet (tCall F_book_of (tCons (tLoc 2) tNil))) tSkip)))
noncomputable def is_b_crossed : List Nat := [0, 1]
theorem ok_b_is_met (vs : List AV) (H : AH) (Q : QV) (X : QX) (h : F_b_is_met vs H Q X) : mkFn is_b_is_met T_b_is_met vs H Q X := by
 obtain ⟨B, a, xs, rfl, hB, ha, fin⟩ := h
 refine ⟨rfl, _, rfl, B.a, B.d, _, rfl, hB.inst, hB.attrs, by kernel_rfl, B, rfl, hB, fun bs r0 H0 s0 nb n0 h0 hA => ?_⟩
 refine compJ_sub (kd := .list) (xs := bs.map AV.ref) h0 (fun k y H' => ∃ c, y = .bool c ∧ True) ?_ (fun k x H' sb hx Q' hQ => ?_) fun ys H1 s1 hl1 hy r hr => ?_
 ·rintro k y K1 K2 h s
  exact h
 ·obtain ⟨c, hc, rfl⟩ := getElem?_refs hx
  obtain ⟨g, hg, hcg⟩ := hA.get hc
  exact ⟨_, rfl, _, Mp.upd_self _ _ _, a, c, xs, g, rfl, (s0.trans sb) _ _ ha, sb _ _ hcg, fun H2 s2 => hQ _ _ s2 ⟨_, rfl, trivial⟩⟩
 ·obtain ⟨cs, rfl, _⟩ := pick AV.bool hy
  exact ⟨r, _, rfl, put_get _ _ _, fin _ _ (s0.trans (s1.trans (Sub.add hr _)))⟩
theorem ok_b_meets (vs : List AV) (H : AH) (Q : QV) (X : QX) (h : F_b_meets vs H Q X) : mkFn is_b_meets T_b_meets vs H Q X := by
 cases h with
 | good B r xs e hB ha hn hl fin =>
  subst e
  exact ⟨rfl, _, rfl, B.a, B.d, _, rfl, hB.inst, hB.attrs, by kernel_rfl, _, rfl, need_good ha hn hl fun aw H1 s1 nw hw => ⟨B, aw, sd xs, rfl, hB.sub s1, hw, fun c H2 s2 => fin c _ (s1.trans s2)⟩⟩
 | bad B v x e hB hx fin =>
  subst e
  exact ⟨rfl, _, rfl, B.a, B.d, _, rfl, hB.inst, hB.attrs, by kernel_rfl, _, rfl, need_bad hx fin⟩
theorem ok_b_pared (vs : List AV) (H : AH) (Q : QV) (X : QX) (h : F_b_pared vs H Q X) : mkFn is_b_pared T_b_pared vs H Q X := by
 cases h with
 | bad B v x e hB hx fin =>
  subst e
  exact ⟨rfl, _, rfl, need_bad hx fin⟩
 | good B a ys e hB ha hn hl fin bad =>
  subst e
  refine ⟨rfl, _, rfl, need_good ha hn hl fun aw H1 s1 nw hw => ?_⟩
  generalize sd ys = x at hw
  have hB1 := hB.sub s1
  refine ⟨_, rfl, B.a, B.d, _, rfl, hB1.inst, hB1.attrs, by kernel_rfl, _, rfl, B, aw, x, rfl, hB1, hw, fun c H2 s2 => ?_⟩
  cases c with
  | false => exact ⟨false, rfl, by decide, bad _ (s1.trans s2)⟩
  | true =>
   refine ⟨true, rfl, _, rfl, aw, _, rfl, s2 _ _ hw, fun rv hrv => ?_⟩
   have sv := Sub.add hrv (.list (x.map AV.str).reverse)
   have s2v := s2.trans sv
   refine ⟨.list, (x.map AV.str).reverse, put_get _ _ _, fun k m' H' => m' 0 = some (.ref B.a) ∧ Sub (H2.put rv (.list (x.map AV.str).reverse)) H' ∧ ∃ c zs, m' 2 = some (.ref c) ∧ LS H' c zs, ⟨rfl, .refl _, aw, x, rfl, s2v _ _ hw⟩, ?_⟩
   rintro k m' H' ⟨v0, sb, c, zs, v2, hc⟩ hk
   refine ⟨sb _ _ (put_get _ _ _), fun y hy => ?_, fun e => ?_⟩
   ·obtain ⟨n, hn, rfl⟩ := rev_strs hy
    refine ⟨_, (Mp.upd_ne _ _ (by decide)).trans v2, comp_les (n := n) hc (fun z Q2 h2 => ⟨_, Mp.upd_self _ _ _, _, (Mp.upd_ne _ _ (by decide)).trans (Mp.upd_self _ _ _), ne_str h2⟩) fun r5 hr5 => ?_⟩
    have s5 := Sub.add hr5 (.list ((les n zs).map AV.str))
    have h5 : LS (H'.put r5 (.list ((les n zs).map AV.str))) r5 (les n zs) := put_get _ _ _
    have sH := s1.trans (s2v.trans sb)
    have hB5 := (hB.sub sH).sub s5
    refine ⟨_, (Mp.upd_ne _ _ (by decide)).trans ((Mp.upd_ne _ _ (by decide)).trans v0), B.a, B.d, _, rfl, hB5.inst, hB5.attrs, by kernel_rfl, _, Mp.upd_self _ _ _, B, r5, _, rfl, hB5, h5, fun q H6 s6 => ?_⟩
    cases q with
    | true =>
     refine ⟨true, rfl, _, Mp.upd_self _ _ _, ?_⟩
     exact ⟨(Mp.upd_ne _ _ (by decide)).trans ((Mp.upd_ne _ _ (by decide)).trans ((Mp.upd_ne _ _ (by decide)).trans v0)), sb.trans (s5.trans s6), r5, _, Mp.upd_self _ _ _, s6 _ _ h5⟩
    | false =>
     refine ⟨false, rfl, ?_⟩
     exact ⟨(Mp.upd_ne _ _ (by decide)).trans ((Mp.upd_ne _ _ (by decide)).trans v0), sb.trans (s5.trans s6), c, zs, (Mp.upd_ne _ _ (by decide)).trans ((Mp.upd_ne _ _ (by decide)).trans v2), (s5.trans s6) _ _ hc⟩
   ·exact ⟨_, v2, fin c H' (s1.trans (s2v.trans sb))⟩
theorem ok_b_own (vs : List AV) (H : AH) (Q : QV) (X : QX) (h : F_b_own vs H Q X) : mkFn is_b_own T_b_own vs H Q X := by
 cases h with
 | bad B v x e hB hx fin =>
  subst e
  exact ⟨rfl, _, rfl, need_bad hx fin⟩
 | good B a ys e hB ha hn hl fin bad =>
 subst e
 refine ⟨rfl, _, rfl, need_good ha hn hl fun aw H1 s1 nw hw => ?_⟩
 have hxl : (sd ys).length < 64 := by unfold sd; rw [sortS_len]; exact Nat.lt_of_le_of_lt (dedup_len ys) hl
 generalize sd ys = x at hw hxl
 have hB1 := hB.sub s1
 refine ⟨_, rfl, B.a, B.d, _, rfl, hB1.inst, hB1.attrs, by kernel_rfl, _, rfl, B, aw, x, rfl, hB1, hw, fun c H2 s2 => ?_⟩
 cases c with
 | false => exact ⟨false, rfl, by decide, bad _ (s1.trans s2)⟩
 | true =>
 refine ⟨true, rfl, Nat.zero_le _, fun p hp => ?_⟩
 have sp := Sub.add hp (.list [])
 have s2p := s2.trans sp
 have sHp := s1.trans s2p
 refine ⟨_, rfl, .list, x.map AV.str, s2p _ _ hw, fun k m' H' => m' 0 = some (.ref B.a) ∧ m' 2 = some (.ref aw) ∧ m' 3 = some (.ref p) ∧ (∀ y o, y ≠ p → (H2.put p (.list [])) y = some o → H' y = some o) ∧ ∃ ts, H' p = some (.list ts) ∧ ts.length ≤ k, ⟨rfl, rfl, rfl, fun _ _ _ e => e, [], put_get _ _ _, Nat.zero_le _⟩, ?_⟩
 rintro k m' H' ⟨v0, v2, v3, kp, ts, hp', hts⟩ hk
 have sub1 : Sub H1 H' := fun y o e => kp y o (ne_new (s2.new hp) e) (s2p _ _ e)
 have hw' : LS H' aw x := sub1 _ _ hw
 rw [List.length_map] at hk
 refine ⟨hw', fun y hy => ?_, fun e => ?_⟩
 ·obtain ⟨n, hn, rfl⟩ := getElem?_strs hy
  refine ⟨_, (Mp.upd_ne _ _ (by decide)).trans v2, comp_les (n := n) hw' (fun z Q2 h2 => ⟨_, Mp.upd_self _ _ _, _, (Mp.upd_ne _ _ (by decide)).trans (Mp.upd_self _ _ _), ne_str h2⟩) fun r5 hr5 => ?_⟩
  have s5 := Sub.add hr5 (.list ((les n x).map AV.str))
  have h5 : LS (H'.put r5 (.list ((les n x).map AV.str))) r5 (les n x) := put_get _ _ _
  have hB5 := (hB1.sub sub1).sub s5
  refine ⟨_, (Mp.upd_ne _ _ (by decide)).trans ((Mp.upd_ne _ _ (by decide)).trans v0), B.a, B.d, _, rfl, hB5.inst, hB5.attrs, by kernel_rfl, B, rfl, hB5, fun us r6 H6 s6 _ hl6 hr6 ht6 => ?_⟩
  have hN6 : NR H6 r6 B.num := rows_nr hl6 hr6 ht6
  refine comp_nums (f := fun g => decide (n ∈ g) && !me (les n x) g) hN6 (fun t l i g H7 s7 ht hg Q' hQ => ?_) fun r7 H7 s7 nr7 hr7 => ?_
  ·refine ⟨_, (Mp.upd_ne _ _ (by decide)).trans ((Mp.upd_ne _ _ (by decide)).trans (Mp.upd_self _ _ _)), _, Mp.upd_self _ _ _, _, ht, .ref l, rfl, in_strs hg ?_⟩
   refine ite_intro _ (fun q => ?_) fun q => ?_
   ·refine ⟨_, (Mp.upd_ne _ _ (by decide)).trans (Mp.upd_self _ _ _), _, Mp.upd_self _ _ _, _, ht, .ref l, rfl, r5, l, les n x, g, rfl, (s6.trans s7) _ _ h5, hg, fun H8 s8 => ⟨_, rfl, ?_⟩⟩
    have := hQ H8 s8
    rw [q] at this
    cases e : me (les n x) g <;> rw [e] at this <;> exact this
   ·have := hQ H7 (.refl _)
    rw [q] at this
    exact this
  ·refine ⟨_, Mp.upd_self _ _ _, Nat.zero_le _, fun z hz => ?_⟩
   have sz := Sub.add hz (.list [])
   have s57 := s5.trans (s6.trans (s7.trans sz))
   generalize (List.filter _ B.num).map (·.1) = ns at hr7
   cases ns with
   | cons i ns =>
    refine eqv_ints_nil (sz _ _ hr7) (put_get _ _ _) (ite_f ?_)
    refine ⟨_, (Mp.upd_ne _ _ (by decide)).trans ((Mp.upd_ne _ _ (by decide)).trans ((Mp.upd_ne _ _ (by decide)).trans v3)), .list (s57 _ _ hp'), _, (Mp.upd_ne _ _ (by decide)).trans ((Mp.upd_ne _ _ (by decide)).trans (Mp.upd_self _ _ _)), _, Mp.upd_self _ _ _, _, sz _ _ hr7, .int i, rfl, by simp, fun r8 hr8 => ?_⟩
    have s8 := s57.trans (Sub.add hr8 (.tuple [.str n, .int i]))
    refine ⟨p, _, _, rfl, s8 _ _ hp', by rw [sizeLine_is]; omega, fun _ h => (nomatch h), (Mp.upd_ne _ _ (by decide)).trans ((Mp.upd_ne _ _ (by decide)).trans ((Mp.upd_ne _ _ (by decide)).trans v0)), (Mp.upd_ne _ _ (by decide)).trans ((Mp.upd_ne _ _ (by decide)).trans ((Mp.upd_ne _ _ (by decide)).trans v2)), (Mp.upd_ne _ _ (by decide)).trans ((Mp.upd_ne _ _ (by decide)).trans ((Mp.upd_ne _ _ (by decide)).trans v3)), fun y o ny e => (AH.put_ne _ _ ny).trans (s8 _ _ (kp y o ny e)), _, put_get _ _ _, by rw [List.length_append]; exact Nat.succ_le_succ hts⟩
   | nil => exact eqv_nil (sz _ _ hr7) (put_get _ _ _) (ite_t ⟨by decide, bad _ (s1.trans (sub1.trans s57))⟩)
 ·exact ⟨_, v3, fin p H' (s1.trans sub1)⟩
theorem ok_need_name (vs : List AV) (H : AH) (Q : QV) (X : QX) (h : F_need_name vs H Q X) : mkFn is_need_name T_need_name vs H Q X := by
 cases h with
 | good x e hx h => subst e; exact ⟨rfl, _, rfl, .yes x rfl hx fun H2 s2 => ⟨true, rfl, h H2 s2⟩⟩
 | bad v e hv h => subst e; exact ⟨rfl, _, rfl, .no v rfl hv fun H2 s2 => ⟨false, rfl, by decide, h H2 s2⟩⟩
theorem flat_sort {F : List (List Str)} {n : Str} : n ∈ (F.map sortS).flatten ↔ n ∈ F.flatten := by
 rw [List.mem_flatten, List.mem_flatten]
 constructor
 ·rintro ⟨x, hx, hn⟩
  obtain ⟨y, hy, rfl⟩ := List.mem_map.mp hx
  exact ⟨y, hy, mem_sortS.mp hn⟩
 ·rintro ⟨x, hx, hn⟩
  exact ⟨sortS x, List.mem_map.mpr ⟨x, hx, rfl⟩, mem_sortS.mpr hn⟩
theorem dedup_le {x y : List Str} (h : ∀ n ∈ x, n ∈ y) : (dedup x).length ≤ (dedup y).length := nodup_len (dedup_is_nodup _) fun n hn => mem_dedup.mpr (h n (mem_dedup.mp hn))
theorem flat_take {F : List (List Str)} {k : Nat} {n : Str} (h : n ∈ (F.take k).flatten) : n ∈ F.flatten := by
 obtain ⟨x, hx, hn⟩ := List.mem_flatten.mp h
 exact List.mem_flatten.mpr ⟨x, List.mem_of_mem_take hx, hn⟩
theorem ok_book_of (vs : List AV) (H : AH) (Q : QV) (X : QX) (h : F_book_of vs H Q X) : mkFn is_book_of T_book_of vs H Q X := by
 obtain ⟨a, F, rfl, ⟨as, ha, hA⟩, hF, fin, bad⟩ := h
 refine ⟨rfl, fun x d hx hd ne => ?_⟩
 have s1 := (Sub.add hd (.attrs [])).put (.inst d) hx
 refine ⟨x, d, rfl, put_get _ _ _, (AH.put_ne _ _ (Ne.symm ne)).trans (put_get _ _ _), ne, fun k0 H1 hk0 c1 hB1 => ⟨rfl, ?_⟩⟩
 have k0n : H k0 = none := s1.new hk0
 have sH1 : Sub H H1 := fun y o e => c1.keep y o (fun q => by rw [q, hd] at e; cases e) (s1 _ _ e)
 refine ⟨_, rfl, .list, as.map AV.ref, sH1 _ _ ha, fun k m' H' => ∃ B : Bk, B.a = x ∧ B.d = d ∧ B.k = k0 ∧ m' 1 = some (.ref x) ∧ JB H F B k H' ∧ k ≤ 30 ∧ (dedup (F.take k).flatten).length ≤ 12, ⟨⟨x, d, k0, [], 0⟩, rfl, rfl, rfl, rfl, ⟨sH1, hB1, by simp [Bk.sets], rfl, rfl, ?_⟩, Nat.zero_le _, by simp [dedup]⟩, ?_⟩
 ·rintro y (rfl | rfl | rfl | ⟨r, hr, _⟩)
  ·exact hx
  ·exact hd
  ·exact k0n
  ·exact nomatch hr
 rintro k m' H' ⟨B, rfl, rfl, rfl, v1, J, k30, k12⟩ hk
 refine ⟨J.sub _ _ ha, fun y hy => ?_, fun e => ?_⟩
 ·obtain ⟨c, hc, rfl⟩ := getElem?_refs hy
  obtain ⟨row, hrow, hcr⟩ := hA.get hc
  have hkF : k < F.length := (List.getElem?_eq_some_iff.mp hrow).1
  have hrm := List.mem_of_getElem? hrow
  obtain ⟨r1, r2, r3⟩ := hF row hrm
  have hBl : B.rs.length = k := by rw [← List.length_map (f := (·.1)), J.num]; simp
  have fl : (F.take (k + 1)).flatten = (F.take k).flatten ++ row := take_flat hrow
  have cg : (dedup (B.sets.flatten ++ row)).length = (dedup (F.take (k + 1)).flatten).length := dedup_len_congr fun n => by
   rw [fl, List.mem_append, List.mem_append, J.sets, flat_sort]
  refine ⟨_, (Mp.upd_ne _ _ (by decide)).trans v1, B.a, B.d, _, rfl, J.book.inst, J.book.attrs, by kernel_rfl, _, Mp.upd_self _ _ _, ?_⟩
  by_cases g : k < 30 ∧ (dedup (F.take (k + 1)).flatten).length ≤ 12
  ·refine .ok B c row (dedup (F.take (k + 1)).flatten) rfl J.book (J.sub _ _ hcr) r1 r3 (by omega) g.2 (fun z hz n hn => ?_) (fun n hn => mem_dedup.mpr (by rw [fl]; exact List.mem_append.mpr (.inr hn))) fun l H3 c3 nl hB3 => ⟨fun _ h => (nomatch h), ?_⟩
   ·rw [mem_dedup, fl]
    refine List.mem_append.mpr (.inl ?_)
    rw [← flat_sort, ← J.sets]
    exact List.mem_flatten.mpr ⟨z, hz, hn⟩
   ·exact ⟨B.more l (sortS row), rfl, rfl, rfl, (Mp.upd_ne _ _ (by decide)).trans v1, J.more (.refl _) hrow c3 nl hB3, g.1, g.2⟩
  ·refine .bad B (.ref c) xMany rfl J.book (.many c row rfl (J.sub _ _ hcr) r3 r2 r1 ?_) fun H3 s3 => bad (fun q => g ⟨by have := q.1; omega, Nat.le_trans (dedup_le fun n hn => flat_take hn) q.2⟩) _ (J.sub.trans s3)
   rw [cg]
   omega
 ·rw [List.length_map, hA.length] at e
  subst e
  have h1 := J.sets
  rw [List.take_length] at h1 k12
  exact ⟨_, v1, fin ⟨k30, k12⟩ B H' J.sub J.book h1 J.new⟩
theorem ok_b_struck (vs : List AV) (H : AH) (Q : QV) (X : QX) (h : F_b_struck vs H Q X) : mkFn is_b_struck T_b_struck vs H Q X := by
 cases h with
 | bad B v e hB hv fin => subst e; exact ⟨rfl, _, rfl, .bad v rfl hv fin⟩
 | good B n e hB hn fin =>
 subst e
 refine ⟨rfl, _, rfl, .good n rfl hn fun H1 s1 => ⟨fun _ h => (nomatch h), ?_⟩⟩
 have hB1 := hB.sub s1
 refine ⟨_, rfl, B.a, B.d, _, rfl, hB1.inst, hB1.attrs, by kernel_rfl, B, rfl, hB1, fun bs r0 H2 s2 nb n0 h0 hA => ?_⟩
 refine compJ_new (G := B.sets.map (les n)) (kd := .list) (xs := bs.map AV.ref) h0 (by rw [List.length_map, List.length_map, hA.length]) (fun k x g H' sb hx hg Q' hQ => ?_) fun cs r H3 s3 nc nr ncr hR hC => ?_
 ·obtain ⟨c, hc, rfl⟩ := getElem?_refs hx
  obtain ⟨g', hg', hcg⟩ := hA.get hc
  rw [List.getElem?_map, hg'] at hg
  cases hg
  refine ⟨_, Mp.upd_self _ _ _, comp_les (hcg.sub sb) (fun x Q2 h2 => ⟨_, Mp.upd_self _ _ _, _, rfl, ne_str h2⟩) fun r hr => hQ r _ (Sub.add hr _) hr (put_get _ _ _)⟩
 ·refine ⟨r, B.sets.map (les n), rfl, ⟨cs, hR, hC⟩, fun x hx => ?_, fun _ B' H4 s4 hB' h1 h4 => fin _ H4 (s1.trans (s2.trans (s3.trans s4))), fun q => absurd ⟨by rw [List.length_map, Bk.sets_len]; exact hB.len, Nat.le_trans (dedup_le fun m hm => ?_) hB.few12⟩ q⟩
  ·obtain ⟨y, hy, rfl⟩ := List.mem_map.mp hx
   obtain ⟨y1, y2, y3⟩ := hB.set y hy
   exact ⟨les_nodup y1.nodup, Nat.lt_of_le_of_lt (List.length_filter_le _ _) (by omega), fun m hm => y2 m (mem_les.mp hm).1⟩
  ·obtain ⟨x, hx, hmx⟩ := List.mem_flatten.mp hm
   obtain ⟨y, hy, rfl⟩ := List.mem_map.mp hx
   exact List.mem_flatten.mpr ⟨y, hy, (mem_les.mp hmx).1⟩
theorem ok_b_without (vs : List AV) (H : AH) (Q : QV) (X : QX) (h : F_b_without vs H Q X) : mkFn is_b_without T_b_without vs H Q X := by
 cases h with
 | bad B v e hB hv fin => subst e; exact ⟨rfl, _, rfl, .bad v rfl hv fin⟩
 | good B n e hB hn fin =>
 subst e
 refine ⟨rfl, _, rfl, .good n rfl hn fun H1 s1 => ⟨fun _ h => (nomatch h), ?_⟩⟩
 have hB1 := hB.sub s1
 refine ⟨_, rfl, B.a, B.d, _, rfl, hB1.inst, hB1.attrs, by kernel_rfl, B, rfl, hB1, fun bs r0 H2 s2 nb n0 h0 hA => ?_⟩
 refine compJ_filter (f := fun x => decide (n ∉ x)) h0 hA (fun c g H' sb hc hm Q' hQ => ?_) fun cs r H3 s3 nc nr hR hC => ?_
 ·refine ⟨_, rfl, _, Mp.upd_self _ _ _, notIn_strs hc ?_⟩
  have := hQ H' (.refl _)
  by_cases q : n ∈ g <;> simpa [q] using this
 ·have hsub : ∀ x ∈ B.sets.filter (fun x => decide (n ∉ x)), x ∈ B.sets := fun x hx => (List.mem_filter.mp hx).1
  refine ⟨r, _, rfl, ⟨cs, hR, hC⟩, fun x hx => ?_, fun _ B' H4 s4 hB' h1 h4 => fin _ H4 (s1.trans (s2.trans (s3.trans s4))), fun q => absurd ⟨Nat.le_trans (List.length_filter_le _ _) (by rw [Bk.sets_len]; exact hB.len), Nat.le_trans (dedup_le fun m hm => ?_) hB.few12⟩ q⟩
  ·obtain ⟨y1, y2, y3⟩ := hB.set x (hsub x hx)
   exact ⟨y1.nodup, by omega, y2⟩
  ·obtain ⟨x, hx, hmx⟩ := List.mem_flatten.mp hm
   exact List.mem_flatten.mpr ⟨x, hsub x hx, hmx⟩
theorem ok_b_joined (vs : List AV) (H : AH) (Q : QV) (X : QX) (h : F_b_joined vs H Q X) : mkFn is_b_joined T_b_joined vs H Q X := by
 obtain ⟨B, C, rfl, hB, hC, fin, bad⟩ := h
 refine ⟨rfl, _, rfl, B.a, B.d, _, rfl, hB.inst, hB.attrs, by kernel_rfl, B, rfl, hB, fun bs r0 H0 s0 nb n0 h0 hA => ?_⟩
 have hC0 := hC.sub s0
 refine ⟨_, rfl, C.a, C.d, _, rfl, hC0.inst, hC0.attrs, by kernel_rfl, C, rfl, hC0, fun cs r1 H1 s1 nc n1 h1 hD => ?_⟩
 have l1 := hA.length
 have l2 := hD.length
 have b1 := hB.len
 have b2 := hC.len
 rw [← Bk.sets_len] at b1 b2
 refine ⟨_, _, s1 _ _ h0, h1, by rw [List.length_map, List.length_map, sizeLine_is]; omega, fun r2 hr2 => ?_⟩
 have s2 := Sub.add hr2 (.list (bs.map AV.ref ++ cs.map AV.ref))
 have srt : (B.sets ++ C.sets).map sortS = B.sets ++ C.sets := by
  rw [List.map_congr_left (g := id) fun x hx => ?_, List.map_id]
  rcases List.mem_append.mp hx with hx | hx
  ·exact (hB.set x hx).1.sort
  ·exact (hC.set x hx).1.sort
 have s := s0.trans (s1.trans s2)
 refine ⟨r2, B.sets ++ C.sets, rfl, ⟨bs ++ cs, by show (AH.put _ _ _) r2 = _; rw [put_get, List.map_append], ((hA.sub s1).append hD).sub s2⟩, fun x hx => ?_, fun q B' H3 s3 hB' e1 e4 => fin q B' H3 (s.trans s3) hB' (by rw [e1, srt]) fun x hx => s.new (e4 x hx), fun q H3 s3 => bad q _ (s.trans s3)⟩
 rcases List.mem_append.mp hx with hx | hx
 ·obtain ⟨y1, y2, y3⟩ := hB.set x hx
  exact ⟨y1.nodup, by omega, y2⟩
 ·obtain ⟨y1, y2, y3⟩ := hC.set x hx
  exact ⟨y1.nodup, by omega, y2⟩
theorem crossL_len {F G : List (List Str)} : (crossL F G).length = F.length * G.length := by
 unfold crossL
 induction F with
 | nil => simp
 | cons x r ih => rw [List.flatMap_cons, List.length_append, ih, List.length_map, List.length_cons, Nat.add_mul, Nat.one_mul, Nat.add_comm]
theorem ok_b_crossed (vs : List AV) (H : AH) (Q : QV) (X : QX) (h : F_b_crossed vs H Q X) : mkFn is_b_crossed T_b_crossed vs H Q X := by
 obtain ⟨B, C, rfl, hB, hC, fin, bad⟩ := h
 have b1 := hB.len
 have b2 := hC.len
 rw [← Bk.sets_len] at b1 b2
 refine ⟨rfl, Nat.zero_le _, fun p hp => ?_⟩
 have sp := Sub.add hp (.list [])
 refine ⟨_, rfl, B.a, B.d, _, rfl, sp _ _ hB.inst, sp _ _ hB.attrs, by kernel_rfl, B, rfl, hB.sub sp, fun bs r0 H0 s0 nb n0 h0 hA => ?_⟩
 have np : ∀ b ∈ bs, b ≠ p := fun b hb e => by subst e; have := nb b hb; rw [put_get] at this; cases this
 have nr : r0 ≠ p := fun e => by subst e; rw [put_get] at n0; cases n0
 refine ⟨.list, bs.map AV.ref, h0, fun k m' H' => m' 1 = some (.ref C.a) ∧ m' 2 = some (.ref p) ∧ (∃ cs, RL H' p cs ∧ (∀ c ∈ cs, c ≠ p) ∧ LAll H' cs (crossL (B.sets.take k) C.sets)) ∧ (∀ x o, x ≠ p → H0 x = some o → H' x = some o), ⟨rfl, rfl, ⟨[], s0 _ _ (put_get _ _ _), fun _ h => (nomatch h), .nil⟩, fun _ _ _ e => e⟩, ?_⟩
 rintro k m' H' ⟨v1, v2, ⟨cs, hp', hcs, hD⟩, kp⟩ hk
 have subH : Sub H H' := fun x o ex => kp x o (ne_new hp ex) (s0 _ _ (sp _ _ ex))
 have hcl : ∀ j, (crossL (B.sets.take j) C.sets).length ≤ 900 := fun j => by
  rw [crossL_len]
  exact Nat.le_trans (Nat.mul_le_mul (Nat.le_trans (List.length_take_le' j B.sets) b1) b2) (by decide)
 refine ⟨kp _ _ nr h0, fun y hy => ?_, fun e => ?_⟩
 ·obtain ⟨c, hc, rfl⟩ := getElem?_refs hy
  obtain ⟨x, hx, hcx⟩ := hA.get hc
  have hcx' : LS H' c x := kp _ _ (np c (List.mem_of_getElem? hc)) hcx
  have xs3 := hB.set x (List.mem_of_getElem? hx)
  have hC' := hC.sub subH
  refine ⟨_, (Mp.upd_ne _ _ (by decide)).trans v2, .list hp', _, (Mp.upd_ne _ _ (by decide)).trans v1, C.a, C.d, _, rfl, hC'.inst, hC'.attrs, by kernel_rfl, C, rfl, hC', fun es r1 H1 s1 ne1 n1 h1 hE => ?_⟩
  refine compJ_new (G := C.sets.map fun y => sd (x ++ y)) (kd := .list) (xs := es.map AV.ref) h1 (by rw [List.length_map, List.length_map, hE.length]) (fun j z g H2 s2 hz hg Q' hQ => ?_) fun fs r2 H2 s2 nf nr2 nfr hR hF => ?_
  ·obtain ⟨e, he, rfl⟩ := getElem?_refs hz
   obtain ⟨y, hy', hey⟩ := hE.get he
   rw [List.getElem?_map, hy'] at hg
   cases hg
   have ys3 := hC.set y (List.mem_of_getElem? hy')
   refine ⟨_, (Mp.upd_ne _ _ (by decide)).trans (Mp.upd_self _ _ _), _, Mp.upd_self _ _ _, _, _, s2 _ _ (s1 _ _ hcx'), s2 _ _ hey, by rw [List.length_map, List.length_map, sizeLine_is]; omega, fun r3 hr3 => ?_⟩
   have s3 := Sub.add hr3 (.list (x.map AV.str ++ y.map AV.str))
   refine .good r3 (x ++ y) rfl (by show (AH.put _ _ _) r3 = _; rw [put_get, List.map_append]) (fun n hn' => (List.mem_append.mp hn').elim (xs3.2.1 n) (ys3.2.1 n)) (by rw [List.length_append]; omega) (Nat.lt_of_le_of_lt (dedup_len _) (by rw [List.length_append]; omega)) fun r4 H4 s4 n4 h4 => hQ r4 H4 (s3.trans s4) (s3.new n4) h4
  ·have s12 := s1.trans s2
   have efl : crossL (B.sets.take (k + 1)) C.sets = crossL (B.sets.take k) C.sets ++ C.sets.map fun y => sd (x ++ y) := flatMap_take_succ hx
   have hl3 := hcl (k + 1)
   rw [efl, List.length_append, ← hD.length, ← hF.length] at hl3
   refine ⟨p, r2, _, _, rfl, s12 _ _ hp', hR, by rw [List.length_map, List.length_map, sizeLine_is]; omega, fun _ h => (nomatch h), (Mp.upd_ne _ _ (by decide)).trans v1, (Mp.upd_ne _ _ (by decide)).trans v2, ⟨cs ++ fs, ?_, ?_, ?_⟩, fun x o nx e => (AH.put_ne _ _ nx).trans (s12 _ _ (kp x o nx e))⟩
   ·show (AH.put _ _ _) p = _
    rw [put_get, List.map_append]
   ·intro c hc
    rcases List.mem_append.mp hc with hc | hc
    ·exact hcs c hc
    ·exact fun q => by rw [q] at hc; have := s1.new (nf p hc); unfold RL at hp'; rw [hp'] at this; cases this
   ·rw [efl]
    exact ((hD.sub s12).put_ne hcs).append (hF.put_ne fun c hc q => by rw [q] at hc; have := s1.new (nf p hc); unfold RL at hp'; rw [hp'] at this; cases this)
 ·have ek : B.sets.take k = B.sets := by rw [List.length_map] at e; rw [e, hA.length, List.take_length]
  rw [ek] at hD
  have srt : (crossL B.sets C.sets).map sortS = crossL B.sets C.sets := by
   rw [List.map_congr_left (g := id) fun z hz => ?_, List.map_id]
   obtain ⟨x, hx, hz⟩ := List.mem_flatMap.mp hz
   obtain ⟨y, hy, rfl⟩ := List.mem_map.mp hz
   exact (sortS_ris (dedup_is_nodup _)).sort
  refine ⟨_, v2, p, crossL B.sets C.sets, rfl, ⟨cs, hp', hD⟩, fun z hz => ?_, fun q B' H3 s3 hB' e1 e4 => fin q B' H3 (subH.trans s3) hB' (by rw [e1, srt]) fun x hx => subH.new (e4 x hx), fun q H3 s3 => bad q _ (subH.trans s3)⟩
  obtain ⟨x, hx, hz⟩ := List.mem_flatMap.mp hz
  obtain ⟨y, hy, rfl⟩ := List.mem_map.mp hz
  obtain ⟨x1, x2, x3⟩ := hB.set x hx
  obtain ⟨y1, y2, y3⟩ := hC.set y hy
  refine ⟨(sortS_ris (dedup_is_nodup _)).nodup, ?_, fun m hm => ?_⟩
  ·show (sortS (dedup (x ++ y))).length < 64
   rw [sortS_len]
   refine Nat.lt_of_le_of_lt (dedup_len _) ?_
   rw [List.length_append]; omega
  ·have hm : m ∈ sortS (dedup (x ++ y)) := hm
   rw [mem_sortS, mem_dedup] at hm
   exact (List.mem_append.mp hm).elim (x2 m) (y2 m)
end Mine
end
-- text E12
section
namespace Mine
open PySem
set_option maxRecDepth 10000
theorem skip_k {m : Mp} {H : AH} {QN : Mp → AH → Prop} {QR : QV} {X : QX} (h : QN m H) : tSkip m H QN QR X := h
theorem nil_k {c : Bool} {m : Mp} {H : AH} {Q : Bool → AH → Prop} {X : QX} (h : Q c H) : tBoolNil c m H Q X := h
theorem notIn_str {x y : Str} {H : AH} {Q : Bool → AH → Prop} (h : Q (!(Txt.contains y x)) H) : aNotIn (.str x) (.str y) H Q := h
theorem add_k {a b : Int} {H : AH} {Q : QV} (h : Q (.int (a + b)) H) : aAdd (.int a) (.int b) H Q := h
theorem sub_k {a b : Int} {H : AH} {Q : QV} (h : Q (.int (a - b)) H) : aSub (.int a) (.int b) H Q := h
noncomputable def fourX : List Str := [xName, xRow, xMany, xMeet]
noncomputable def wordX (c : Str) : Str := if c = xName then Str.ofString "name" else if c = xRow then Str.ofString "row" else if c = xMany then Str.ofString "many" else Str.ofString "else"
inductive F_l_wordsK (vs : List AV) (H : AH) (Q : QV) : Prop
 | mk (e : Addr) (c : Str) : vs = [.ref e] → H e = some (.exc c) → c ∈ fourX → Q (.str (wordX c)) H → F_l_wordsK vs H Q
noncomputable def F_l_words : Fn := fun vs H Q _ => F_l_wordsK vs H Q
structure Odd (H : AH) (v : AV) : Prop where
 no : NotNm H v
 rd : ∃ d, Rd H v d ∧ d.depth ≤ 1
inductive F_l_oddK (vs : List AV) (H : AH) (Q : QV) : Prop
 | mk (i : Int) : vs = [.int i] → (∀ v H', Sub H H' → Odd H' v → Q v H') → F_l_oddK vs H Q
noncomputable def F_l_odd : Fn := fun vs H Q _ => F_l_oddK vs H Q
inductive Thing (H : AH) (v : AV) : Prop
 | none : aIs "list" v H = some false → Thing H v
 | odd (r : Addr) (xs : List Str) (w : AV) (ys : List Str) : v = .ref r → H r = some (.list (xs.map AV.str ++ w :: ys.map AV.str)) → (∀ n ∈ xs, Nm n) → (∀ n ∈ ys, Nm n) → Odd H w → Thing H v
 | good (r : Addr) (xs : List Str) : v = .ref r → LS H r xs → (∀ n ∈ xs, Nm n) → xs.length ≤ 5 → Thing H v
inductive F_l_listK (vs : List AV) (H : AH) (Q : QV) : Prop
 | mk (i : Int) (a : Addr) (names : List Str) : vs = [.int i, .ref a] → LS H a names → (∀ n ∈ names, Nm n) → 0 < names.length → names.length ≤ 12 → (∀ v H', Sub H H' → Thing H' v → Q v H') → F_l_listK vs H Q
noncomputable def F_l_list : Fn := fun vs H Q _ => F_l_listK vs H Q
noncomputable def F_l_is_name : Fn := fun vs H Q _ => F_is_nameK vs H Q
noncomputable def freshL (xs there : List Str) : List Str := xs.filter fun n => !decide (n ∈ there)
inductive F_l_dueK (vs : List AV) (H : AH) (Q : QV) : Prop
 | name (way : Int) (x : Str) (t : Addr) (many : Int) : vs = [.int way, .str x, .ref t, .int many] → 5 < way → Nm x → (∀ H', Sub H H' → Q (.str (Str.ofString "")) H') → F_l_dueK vs H Q
 | noname (way : Int) (v : AV) (t : Addr) (many : Int) : vs = [.int way, v, .ref t, .int many] → 5 < way → NotNm H v → (∀ H', Sub H H' → Q (.str (Str.ofString "name")) H') → F_l_dueK vs H Q
 | none (way : Int) (v : AV) (t : Addr) (many : Int) : vs = [.int way, v, .ref t, .int many] → way ≤ 5 → aIs "list" v H = some false → (∀ H', Sub H H' → Q (.str (Str.ofString "row")) H') → F_l_dueK vs H Q
 | odd (way : Int) (r : Addr) (xs : List Str) (w : AV) (ys : List Str) (t : Addr) (many : Int) : vs = [.int way, .ref r, .ref t, .int many] → way ≤ 5 → H r = some (.list (xs.map AV.str ++ w :: ys.map AV.str)) → (∀ n ∈ xs, Nm n) → (∀ n ∈ ys, Nm n) → Odd H w →
   (∀ H', Sub H H' → Q (.str (Str.ofString "name")) H') → F_l_dueK vs H Q
 | good (way : Int) (r : Addr) (xs : List Str) (t : Addr) (many : Int) : vs = [.int way, .ref r, .ref t, .int many] → 2 < way → way ≤ 5 → LS H r xs → (∀ n ∈ xs, Nm n) → (∀ H', Sub H H' → Q (.str (Str.ofString "")) H') → F_l_dueK vs H Q
 | put (way : Int) (r : Addr) (xs : List Str) (t : Addr) (there : List Str) (many : Int) : vs = [.int way, .ref r, .ref t, .int many] → way ≤ 2 → LS H r xs → (∀ n ∈ xs, Nm n) → xs.length ≤ 5 → LS H t there → there.length ≤ 1000 →
   (¬ xs.Nodup → ∀ H', Sub H H' → Q (.str (Str.ofString "row")) H') → (xs.Nodup → (many = 30 ∨ 12 < there.length + (freshL xs there).length) → ∀ H', Sub H H' → Q (.str (Str.ofString "many")) H') →
   (xs.Nodup → ¬ (many = 30 ∨ 12 < there.length + (freshL xs there).length) → ∀ H', Sub H H' → Q (.str (Str.ofString "")) H') → F_l_dueK vs H Q
noncomputable def F_l_due : Fn := fun vs H Q _ => F_l_dueK vs H Q
inductive F_l_callK (vs : List AV) (H : AH) (Q : QV) : Prop
 | put (B : Bk) (way : Int) (r : Addr) (row names : List Str) : vs = [.ref B.a, .int way, .ref r] → way < 3 → BookAt H B → LS H r row → row.Nodup → (∀ n ∈ row, Nm n) → B.rs.length < 30 → names.length ≤ 12 → (∀ x ∈ B.sets, ∀ n ∈ x, n ∈ names) → (∀ n ∈ row, n ∈ names) →
   (∀ H', Turn B H H' → Q (.str (Str.ofString "")) H') → F_l_callK vs H Q
 | bad (B : Bk) (way : Int) (v : AV) (x : Str) : vs = [.ref B.a, .int way, v] → BookAt H B → ((way < 3 ∧ PutX H B v x) ∨ (3 ≤ way ∧ way ≤ 5 ∧ ThX H v x) ∨ (5 < way ∧ NotNm H v ∧ x = xName)) → (∀ H', Sub H H' → Q (.str (wordX x)) H') → F_l_callK vs H Q
 | meets (B : Bk) (r : Addr) (xs : List Str) : vs = [.ref B.a, .int 3, .ref r] → BookAt H B → LS H r xs → (∀ n ∈ xs, Nm n) → xs.length ≤ 5 → (∀ H', Sub H H' → Q (.str (Str.ofString "")) H') → F_l_callK vs H Q
 | ask (B : Bk) (way : Int) (r : Addr) (xs : List Str) : vs = [.ref B.a, .int way, .ref r] → 3 < way → way ≤ 5 → BookAt H B → LS H r xs → (∀ n ∈ xs, Nm n) → xs.length ≤ 5 → (∀ w H', Sub H H' → Q (.str w) H') → F_l_callK vs H Q
 | name (B : Bk) (way : Int) (n : Str) : vs = [.ref B.a, .int way, .str n] → 5 < way → BookAt H B → Nm n → (∀ H', Sub H H' → Q (.str (Str.ofString "")) H') → F_l_callK vs H Q
noncomputable def F_l_call : Fn := fun vs H Q _ => F_l_callK vs H Q
noncomputable def T_l_words : Ts := (tSeq (tAssign 1 (tBin aAdd (tBin aMulS (tVal (.str (Str.ofString "name"))) (tBcall bIntB (tCons (tIsiX [((Str.ofString "BadName"), true), ((Str.ofString "BadRow"), false), ((Str.ofString "TooMany"), false), ((Str.ofString "NoMeet"), false)] (tLoc 0)) tNil))) (tBin aMulS (tVal (.str (Str.ofString "row"))) (tBcall bIntB (tCons (tIsiX [((Str.ofString "BadName"), false), ((Str.ofString "BadRow"), true), ((Str.ofString "TooMany"), false), ((Str.ofString "NoMeet"), false)] (tLoc 0)) tNil))))) (tSeq (tAssign 1 (tBin aAdd (tLoc 1) (tBin aMulS (tVal (.str (Str.ofString "many"))) (tBcall bIntB (tCons (tIsiX [((Str.ofString "BadName"), false), ((Str.ofString "BadRow"), false), ((Str.ofString "TooMany"), true), ((Str.ofString "NoMeet"), false)] (tLoc 0)) tNil))))) (tSeq (tAssign 1 (tBin aAdd (tLoc 1) (tBin aMulS (tVal (.str (Str.ofString "else"))) (tBcall bIntB (tCons (tIsiX [((Str.ofString "BadName"), false), ((Str.ofString "BadRow"), false), ((Str.ofString "TooMany"), false), ((Str.ofString "NoMeet"), true)] (tLoc 0)) tNil))))) (tSeq (tRet (tBin aAdd (tLoc 1) (tBin aMulS (tVal (.str (Str.ofString "odd"))) (tBcall bIntB (tCons (tNotV (tIsiX [((Str.ofString "BadName"), true), ((Str.ofString "BadRow"), true), ((Str.ofString "TooMany"), true), ((Str.ofString "NoMeet"), true)] (tLoc 0))) tNil))))) tSkip))))
noncomputable def is_l_words : List Nat := [0]
noncomputable def T_l_call : Ts := (tSeq (tTry (tSeq (tIte (tCmpB aLt (tLoc 1) (tVal (.int 3))) (tSeq (tExpr (tMcall (Str.ofString "put") F_b_put (tLoc 0) (tCons (tLoc 2) tNil))) tSkip) (tSeq (tIte (tCmpB aEq (tLoc 1) (tVal (.int 3))) (tSeq (tExpr (tMcall (Str.ofString "meets") F_b_meets (tLoc 0) (tCons (tLoc 2) tNil))) tSkip) (tSeq (tIte (tCmpB aEq (tLoc 1) (tVal (.int 4))) (tSeq (tExprA (tMcall (Str.ofString "pared") F_b_pared (tLoc 0) (tCons (tLoc 2) tNil))) tSkip) (tSeq (tIte (tCmpB aEq (tLoc 1) (tVal (.int 5))) (tSeq (tExprA (tMcall (Str.ofString "own") F_b_own (tLoc 0) (tCons (tLoc 2) tNil))) tSkip) (tSeq (tIte (tCmpB aEq (tLoc 1) (tVal (.int 6))) (tSeq (tExprA (tMcall (Str.ofString "struck") F_b_struck (tLoc 0) (tCons (tLoc 2) tNil))) tSkip) (tSeq (tExprA (tMcall (Str.ofString "without") F_b_without (tLoc 0) (tCons (tLoc 2) tNil))) tSkip)) tSkip)) tSkip)) tSkip)) tSkip)) tSkip) [(Str.ofString "BadName"), (Str.ofString "BadRow"), (Str.ofString "TooMany"), (Str.ofString "NoMeet")] 3 (tSeq (tRet (tCall F_l_words (tCons (tLoc 3) tNil))) tSkip)) (tSeq (tRet (tVal (.str (Str.ofString "")))) tSkip))
noncomputable def is_l_call : List Nat := [0, 1, 2]
noncomputable def T_l_odd : Ts := (tSeq (tRet (tItem (tList (tCons (tVal (.str (Str.ofString ""))) (tCons (tVal (.str (Str.ofString "abcdefghi"))) (tCons (tVal (.str (Str.ofString "A"))) (tCons (tVal (.str (Str.ofString "a1"))) (tCons (tVal (.str (Str.ofString "a b"))) (tCons (tVal .none) (tCons (tVal (.int 3)) (tCons (tVal (.bool true)) (tCons (tList (tCons (tVal (.str (Str.ofString "a"))) tNil)) (tCons (tTuple (tCons (tVal (.str (Str.ofString "a"))) tNil)) (tCons (tVal (.str (Str.ofString "-"))) tNil)))))))))))) (tBin aMod (tLoc 0) (tVal (.int 11))))) tSkip)
noncomputable def is_l_odd : List Nat := [0]
noncomputable def T_l_list : Ts := (tSeq (tAssign 2 (tComp (tBcall bRange (tCons (tBin aMod (tBin aFdiv (tLoc 0) (tVal (.int 7))) (tVal (.int 4))) tNil)) 4 (tBoolNil true) (tItem (tLoc 1) (tBin aMod (tBin aAdd (tBin aFdiv (tLoc 0) (tVal (.int 7))) (tLoc 4)) (tBcall bLen (tCons (tLoc 1) tNil)))))) (tSeq (tAssign 3 (tBin aMod (tBin aFdiv (tLoc 0) (tVal (.int 28))) (tBin aAdd (tBcall bLen (tCons (tLoc 2) tNil)) (tVal (.int 1))))) (tSeq (tIte (tCmpB aEq (tBin aMod (tLoc 0) (tVal (.int 7))) (tVal (.int 1))) (tSeq (tRet (tItem (tList (tCons (tTuple (tCons (tVal (.str (Str.ofString "a"))) (tCons (tVal (.str (Str.ofString "b"))) tNil))) (tCons (tVal .none) (tCons (tVal (.str (Str.ofString "abc"))) (tCons (tVal (.int 5)) (tCons (tVal (.bool true)) (tCons (tDict1 (Str.ofString "a") 1) tNil))))))) (tBin aMod (tBin aFdiv (tLoc 0) (tVal (.int 28))) (tVal (.int 6))))) tSkip) tSkip) (tSeq (tIte (tCmpB aEq (tBin aMod (tLoc 0) (tVal (.int 7))) (tVal (.int 2))) (tSeq (tRet (tBin aAdd (tBin aAdd (tSlice (tLoc 2) (tVal .none) (tLoc 3)) (tList (tCons (tCall F_l_odd (tCons (tBin aFdiv (tLoc 0) (tVal (.int 112))) tNil)) tNil))) (tSlice (tLoc 2) (tLoc 3) (tVal .none)))) tSkip) tSkip) (tSeq (tIte (tCmpB aEq (tBin aMod (tLoc 0) (tVal (.int 7))) (tVal (.int 3))) (tSeq (tRet (tBin aAdd (tLoc 2) (tList (tCons (tVal (.str (Str.ofString "m"))) (tCons (tVal (.str (Str.ofString "m"))) tNil))))) tSkip) tSkip) (tSeq (tIte (tCmpB aEq (tBin aMod (tLoc 0) (tVal (.int 7))) (tVal (.int 4))) (tSeq (tRet (tBin aAdd (tBin aAdd (tSlice (tLoc 2) (tVal .none) (tLoc 3)) (tList (tCons (tVal (.str (Str.ofString "zz"))) tNil))) (tSlice (tLoc 2) (tLoc 3) (tVal .none)))) tSkip) tSkip) (tSeq (tRet (tLoc 2)) tSkip)))))))
noncomputable def is_l_list : List Nat := [0, 1]
noncomputable def T_l_is_name : Ts := (tSeq (tIte (tOrB (tNotB (tTruth (tIsi "str" (tLoc 0)))) (tOrB (tNotB (tChain aLe aLe (tVal (.int 1)) (tBcall bLen (tCons (tLoc 0) tNil)) (tVal (.int 8)))) (tBoolNil false))) (tSeq (tRet (tVal (.bool false))) tSkip) tSkip) (tSeq (tRet (tCmp aEq (tComp (tLoc 0) 1 (tCmpB aNotIn (tLoc 1) (tVal (.str (Str.ofString "abcdefghijklmnopqrstuvwxyz")))) (tLoc 1)) (tList tNil))) tSkip))
noncomputable def is_l_is_name : List Nat := [0]
noncomputable def T_l_due : Ts := (tSeq (tIte (tCmpB aGt (tLoc 0) (tVal (.int 5))) (tSeq (tRet (tIf (tTruth (tCall F_l_is_name (tCons (tLoc 1) tNil))) (tVal (.str (Str.ofString ""))) (tVal (.str (Str.ofString "name"))))) tSkip) tSkip) (tSeq (tIte (tNotB (tTruth (tIsi "list" (tLoc 1)))) (tSeq (tRet (tVal (.str (Str.ofString "row")))) tSkip) tSkip) (tSeq (tIte (tCmpB aNe (tComp (tLoc 1) 5 (tNotB (tTruth (tCall F_l_is_name (tCons (tLoc 5) tNil)))) (tLoc 5)) (tList tNil)) (tSeq (tRet (tVal (.str (Str.ofString "name")))) tSkip) tSkip) (tSeq (tIte (tCmpB aGt (tLoc 0) (tVal (.int 2))) (tSeq (tRet (tVal (.str (Str.ofString "")))) tSkip) tSkip) (tSeq (tIte (tCmpB aNe (tComp (tLoc 1) 6 (tCmpB aGt (tMeth "list" bCount (tLoc 1) (tCons (tLoc 6) tNil)) (tVal (.int 1))) (tLoc 6)) (tList tNil)) (tSeq (tRet (tVal (.str (Str.ofString "row")))) tSkip) tSkip) (tSeq (tAssign 4 (tComp (tLoc 1) 7 (tCmpB aNotIn (tLoc 7) (tLoc 2)) (tLoc 7))) (tSeq (tRet (tIf (tOrB (tCmpB aEq (tLoc 3) (tVal (.int 30))) (tOrB (tCmpB aGt (tBin aAdd (tBcall bLen (tCons (tLoc 2) tNil)) (tBcall bLen (tCons (tLoc 4) tNil))) (tVal (.int 12))) (tBoolNil false))) (tVal (.str (Str.ofString "many"))) (tVal (.str (Str.ofString ""))))) tSkip)))))))
noncomputable def is_l_due : List Nat := [0, 1, 2, 3]
theorem word_k {ans : List (Str × Bool)} {c : Str} {r : Bool} {e : Addr} {m : Mp} {H : AH} {Q : QV} {X : QX} {w : Str} (h0 : m 0 = some (.ref e)) (he : H e = some (.exc c)) (hr : ans.lookup c = some r) (fin : Q (.str (if r then w else ⟨#[]⟩)) H) :
  tBin aMulS (tVal (.str w)) (tBcall bIntB (tCons (tIsiX ans (tLoc 0)) tNil)) m H Q X := by
 refine ⟨_, h0, e, c, r, rfl, he, hr, r, rfl, ?_⟩
 cases r with
 | true => exact .inr ⟨rfl, fin⟩
 | false => exact .inl ⟨rfl, fin⟩
theorem nword_k {ans : List (Str × Bool)} {c : Str} {e : Addr} {m : Mp} {H : AH} {Q : QV} {X : QX} {w : Str} (h0 : m 0 = some (.ref e)) (he : H e = some (.exc c)) (hr : ans.lookup c = some true) (fin : Q (.str ⟨#[]⟩) H) :
  tBin aMulS (tVal (.str w)) (tBcall bIntB (tCons (tNotV (tIsiX ans (tLoc 0))) tNil)) m H Q X :=
 ⟨_, h0, e, c, true, rfl, he, hr, true, rfl, false, rfl, .inl ⟨rfl, fin⟩⟩
theorem ok_l_words (vs : List AV) (H : AH) (Q : QV) (X : QX) (h : F_l_words vs H Q X) : mkFn is_l_words T_l_words vs H Q X := by
 obtain ⟨e, c, rfl, he, hc, fin⟩ := h
 have go : ∀ (r1 r2 r3 r4 : Bool), List.lookup c [(xName, true), (xRow, false), (xMany, false), (xMeet, false)] = some r1 → List.lookup c [(xName, false), (xRow, true), (xMany, false), (xMeet, false)] = some r2 → List.lookup c [(xName, false), (xRow, false), (xMany, true), (xMeet, false)] = some r3 → List.lookup c [(xName, false), (xRow, false), (xMany, false), (xMeet, true)] = some r4 →
   List.lookup c [(xName, true), (xRow, true), (xMany, true), (xMeet, true)] = some true →
   ((((if r1 then Str.ofString "name" else ⟨#[]⟩) ++ (if r2 then Str.ofString "row" else ⟨#[]⟩)) ++ (if r3 then Str.ofString "many" else ⟨#[]⟩)) ++ (if r4 then Str.ofString "else" else ⟨#[]⟩)) ++ (⟨#[]⟩ : Str) = wordX c → mkFn is_l_words T_l_words [.ref e] H Q X := by
  intro r1 r2 r3 r4 h1 h2 h3 h4 h5 hw
  have L : ∀ (r : Bool) (w : Str), w.length ≤ 4 → ((if r then w else ⟨#[]⟩ : Str)).length ≤ 4 := fun r w hw => by
   cases r with
   | true => exact hw
   | false => exact Nat.zero_le _
  have a1 := L r1 (Str.ofString "name") (by decide +kernel)
  have a2 := L r2 (Str.ofString "row") (by decide +kernel)
  have a3 := L r3 (Str.ofString "many") (by decide +kernel)
  have a4 := L r4 (Str.ofString "else") (by decide +kernel)
  have ap : ∀ x y : Str, (x ++ y).length = x.length + y.length := fun x y => by
   show (x.cps ++ y.cps).size = _
   rw [Array.size_append]; rfl
  have sz := sizeLine_is
  refine ⟨rfl, word_k rfl he h1 (word_k rfl he h2 ⟨by omega, ?_⟩)⟩
  refine ⟨_, Mp.upd_self _ _ _, word_k (Mp.upd_ne _ _ (by decide)) he h3 ⟨by rw [ap]; omega, ?_⟩⟩
  refine ⟨_, Mp.upd_self _ _ _, word_k ((Mp.upd_ne _ _ (by decide)).trans (Mp.upd_ne _ _ (by decide))) he h4 ⟨by rw [ap, ap]; omega, ?_⟩⟩
  refine ⟨_, Mp.upd_self _ _ _, nword_k ((Mp.upd_ne _ _ (by decide)).trans ((Mp.upd_ne _ _ (by decide)).trans (Mp.upd_ne _ _ (by decide)))) he h5 ⟨by rw [ap, ap, ap]; show _ + 0 ≤ _; omega, ?_⟩⟩
  rw [hw]
  exact fin
 simp only [fourX, List.mem_cons, List.not_mem_nil, or_false] at hc
 rcases hc with rfl | rfl | rfl | rfl
 ·exact go true false false false (by decide +kernel) (by decide +kernel) (by decide +kernel) (by decide +kernel) (by decide +kernel) (by decide +kernel)
 ·exact go false true false false (by decide +kernel) (by decide +kernel) (by decide +kernel) (by decide +kernel) (by decide +kernel) (by decide +kernel)
 ·exact go false false true false (by decide +kernel) (by decide +kernel) (by decide +kernel) (by decide +kernel) (by decide +kernel) (by decide +kernel)
 ·exact go false false false true (by decide +kernel) (by decide +kernel) (by decide +kernel) (by decide +kernel) (by decide +kernel) (by decide +kernel)
theorem hand_w {Q : QV} {x : Str} {H : AH} (hx : x ∈ fourX) (fin : ∀ H', Sub H H' → Q (.str (wordX x)) H') : Hand [(Str.ofString "BadName"), (Str.ofString "BadRow"), (Str.ofString "TooMany"), (Str.ofString "NoMeet")] 3 (tSeq (tRet (tCall F_l_words (tCons (tLoc 3) tNil))) tSkip) Q x H :=
 ⟨hx, fun e he => ⟨_, Mp.upd_self _ _ _, e, x, rfl, put_get _ _ _, hx, fin _ (Sub.add he _)⟩⟩
theorem PutX.four {H : AH} {B : Bk} {v : AV} {x : Str} (h : PutX H B v x) : x ∈ fourX := by
 cases h <;> decide +kernel
theorem ThX.four {H : AH} {v : AV} {x : Str} (h : ThX H v x) : x ∈ fourX := by
 cases h <;> decide +kernel
theorem ok_l_call (vs : List AV) (H : AH) (Q : QV) (X : QX) (h : F_l_call vs H Q X) : mkFn is_l_call T_l_call vs H Q X := by
 have lt_k : ∀ {a b : Int} {H : AH} {Q : Bool → AH → Prop}, Q (decide (a < b)) H → aLt (.int a) (.int b) H Q := fun h => h
 cases h with
 | put B way r row names e hw hB hr h1 h2 h3 h4 h5 h6 fin =>
  subst e
  refine ⟨rfl, _, rfl, val_k (lt_k ?_)⟩
  rw [decide_eq_true hw]
  exact ite_t ⟨_, rfl, B.a, B.d, _, rfl, hB.inst, hB.attrs, by kernel_rfl, _, rfl, .ok B r row names rfl hB hr h1 h2 h3 h4 h5 h6 fun l H' c nl hB' => ⟨fun _ h => (nomatch h), fin _ c⟩⟩
 | meets B r xs e hB hr h1 h2 fin =>
  subst e
  refine ⟨rfl, _, rfl, val_k (lt_k (ite_f ⟨_, rfl, val_k (eq_int (ite_t ?_))⟩))⟩
  exact ⟨_, rfl, B.a, B.d, _, rfl, hB.inst, hB.attrs, by kernel_rfl, _, rfl, .good B r xs rfl hB hr h1 (by omega) fun c H' s' => ⟨fun _ h => (nomatch h), fin _ s'⟩⟩
 | ask B way r xs e w1 w2 hB hr h1 h2 fin =>
  subst e
  have bad : ∀ {H'}, Sub H H' → Hand [(Str.ofString "BadName"), (Str.ofString "BadRow"), (Str.ofString "TooMany"), (Str.ofString "NoMeet")] 3 (tSeq (tRet (tCall F_l_words (tCons (tLoc 3) tNil))) tSkip) Q xMeet H' := fun {H'} s' => hand_w (by decide +kernel) fun H2 s2 => fin _ _ (s'.trans s2)
  have hw : way = 4 ∨ way = 5 := by omega
  rcases hw with rfl | rfl
  ·refine ⟨rfl, _, rfl, val_k (lt_k (ite_f ⟨_, rfl, val_k (eq_int (ite_f ⟨_, rfl, val_k (eq_int (ite_t ?_))⟩))⟩))⟩
   exact ⟨_, rfl, B.a, B.d, _, rfl, hB.inst, hB.attrs, by kernel_rfl, _, rfl, .good B r xs rfl hB hr h1 (by omega) (fun c H' s' => fin _ _ s') fun H' s' => bad s'⟩
  ·refine ⟨rfl, _, rfl, val_k (lt_k (ite_f ⟨_, rfl, val_k (eq_int (ite_f ⟨_, rfl, val_k (eq_int (ite_f ⟨_, rfl, val_k (eq_int (ite_t ?_))⟩))⟩))⟩))⟩
   exact ⟨_, rfl, B.a, B.d, _, rfl, hB.inst, hB.attrs, by kernel_rfl, _, rfl, .good B r xs rfl hB hr h1 (by omega) (fun c H' s' => fin _ _ s') fun H' s' => bad s'⟩
 | name B way n e hw hB hn fin =>
  subst e
  refine ⟨rfl, _, rfl, val_k (lt_k ?_)⟩
  rw [decide_eq_false (by omega)]
  refine ite_f ⟨_, rfl, val_k (eq_int ?_)⟩
  rw [decide_eq_false (by omega)]
  refine ite_f ⟨_, rfl, val_k (eq_int ?_)⟩
  rw [decide_eq_false (by omega)]
  refine ite_f ⟨_, rfl, val_k (eq_int ?_)⟩
  rw [decide_eq_false (by omega)]
  refine ite_f ⟨_, rfl, val_k (eq_int (ite_intro _ (fun _ => ?_) fun _ => ?_))⟩
  ·exact ⟨_, rfl, B.a, B.d, _, rfl, hB.inst, hB.attrs, by kernel_rfl, _, rfl, .good B n rfl hB hn fun c H' s' => fin _ s'⟩
  ·exact ⟨_, rfl, B.a, B.d, _, rfl, hB.inst, hB.attrs, by kernel_rfl, _, rfl, .good B n rfl hB hn fun c H' s' => fin _ s'⟩
 | bad B way v x e hB hx fin =>
  subst e
  refine ⟨rfl, _, rfl, val_k (lt_k ?_)⟩
  rcases hx with ⟨hw, hx⟩ | ⟨w1, w2, hx⟩ | ⟨hw, hv, rfl⟩
  ·rw [decide_eq_true hw]
   exact ite_t ⟨_, rfl, B.a, B.d, _, rfl, hB.inst, hB.attrs, by kernel_rfl, _, rfl, .bad B v x rfl hB hx fun H' s' => hand_w hx.four fun H2 s2 => fin _ (s'.trans s2)⟩
  ·have hw : way = 3 ∨ way = 4 ∨ way = 5 := by omega
   rcases hw with rfl | rfl | rfl
   ·refine ite_f ⟨_, rfl, val_k (eq_int (ite_t ?_))⟩
    exact ⟨_, rfl, B.a, B.d, _, rfl, hB.inst, hB.attrs, by kernel_rfl, _, rfl, .bad B v x rfl hB hx fun H' s' => hand_w hx.four fun H2 s2 => fin _ (s'.trans s2)⟩
   ·refine ite_f ⟨_, rfl, val_k (eq_int (ite_f ⟨_, rfl, val_k (eq_int (ite_t ?_))⟩))⟩
    exact ⟨_, rfl, B.a, B.d, _, rfl, hB.inst, hB.attrs, by kernel_rfl, _, rfl, .bad B v x rfl hB hx fun H' s' => hand_w hx.four fun H2 s2 => fin _ (s'.trans s2)⟩
   ·refine ite_f ⟨_, rfl, val_k (eq_int (ite_f ⟨_, rfl, val_k (eq_int (ite_f ⟨_, rfl, val_k (eq_int (ite_t ?_))⟩))⟩))⟩
    exact ⟨_, rfl, B.a, B.d, _, rfl, hB.inst, hB.attrs, by kernel_rfl, _, rfl, .bad B v x rfl hB hx fun H' s' => hand_w hx.four fun H2 s2 => fin _ (s'.trans s2)⟩
  ·rw [decide_eq_false (by omega)]
   refine ite_f ⟨_, rfl, val_k (eq_int ?_)⟩
   rw [decide_eq_false (by omega)]
   refine ite_f ⟨_, rfl, val_k (eq_int ?_)⟩
   rw [decide_eq_false (by omega)]
   refine ite_f ⟨_, rfl, val_k (eq_int ?_)⟩
   rw [decide_eq_false (by omega)]
   refine ite_f ⟨_, rfl, val_k (eq_int (ite_intro _ (fun _ => ?_) fun _ => ?_))⟩
   ·exact ⟨_, rfl, B.a, B.d, _, rfl, hB.inst, hB.attrs, by kernel_rfl, _, rfl, .bad B v rfl hB hv fun H' s' => hand_w (by decide +kernel) fun H2 s2 => fin _ (s'.trans s2)⟩
   ·exact ⟨_, rfl, B.a, B.d, _, rfl, hB.inst, hB.attrs, by kernel_rfl, _, rfl, .bad B v rfl hB hv fun H' s' => hand_w (by decide +kernel) fun H2 s2 => fin _ (s'.trans s2)⟩
theorem idx_some {α : Type} {xs : List α} {j : Int} (h0 : 0 ≤ j) (h1 : j < xs.length) : ∃ x, idx xs j = some x ∧ x ∈ xs := by
 have hj : j.toNat < xs.length := by omega
 exact ⟨xs[j.toNat], (idx_nat xs h0).trans (List.getElem?_eq_getElem hj), List.getElem_mem hj⟩
theorem Rd.sub {H K : AH} (s : Sub H K) {v : AV} {d : PyData} (h : Rd H v d) : Rd K v d := by
 refine Rd.rec (motive_1 := fun v d _ => Rd K v d) (motive_2 := fun vs ds _ => RdAll K vs ds) .none (fun b => .bool b) (fun i => .int i) (fun x => .str x) (fun h _ ih => .list (s _ _ h) ih) (fun h _ ih => .tuple (s _ _ h) ih) .nil (fun _ _ ih ih2 => .cons ih ih2) h
theorem Odd.sub {H K : AH} {v : AV} (s : Sub H K) (h : Odd H v) : Odd K v := ⟨h.no.sub s, by
 obtain ⟨d, h1, h2⟩ := h.rd
 exact ⟨d, h1.sub s, h2⟩⟩
theorem odd_str {H : AH} {x : Str} (h1 : nmB x = false) (h2 : x.length ≤ 1000000) : Odd H (.str x) := ⟨⟨h1, h2⟩, .str x, .str x, by simp [PyData.depth]⟩
noncomputable abbrev oddL (r1 r2 : Addr) : List AV := [AV.str (Str.ofString ""), .str (Str.ofString "abcdefghi"), .str (Str.ofString "A"), .str (Str.ofString "a1"), .str (Str.ofString "a b"), .none, .int 3, .bool true, .ref r1, .ref r2, .str (Str.ofString "-")]
theorem ok_l_odd (vs : List AV) (H : AH) (Q : QV) (X : QX) (h : F_l_odd vs H Q X) : mkFn is_l_odd T_l_odd vs H Q X := by
 obtain ⟨i, rfl, fin⟩ := h
 refine ⟨rfl, by simp, fun r1 n1 => ⟨by simp, fun r2 n2 => ⟨by simp, fun r3 n3 => ⟨_, rfl, by decide, _, put_get _ _ _, ?_⟩⟩⟩⟩
 have s1 := Sub.add n1 (.list [.str (Str.ofString "a")])
 have s2 := Sub.add n2 (.tuple [.str (Str.ofString "a")])
 have s3 := (s1.trans s2).trans (Sub.add n3 (.list (oddL r1 r2)))
 obtain ⟨v, hv, hm⟩ := idx_some (xs := (oddL r1 r2)) (j := i % 11) (Int.emod_nonneg _ (by decide)) (Int.emod_lt_of_pos _ (by decide))
 refine ⟨v, hv, fin v _ s3 ?_⟩
 have g1 : (AH.put (AH.put (AH.put H r1 (.list [.str (Str.ofString "a")])) r2 (.tuple [.str (Str.ofString "a")])) r3 (.list (oddL r1 r2))) r1 = some (.list [.str (Str.ofString "a")]) := Sub.add n3 _ _ _ (s2 _ _ (put_get _ _ _))
 have g2 : (AH.put (AH.put (AH.put H r1 (.list [.str (Str.ofString "a")])) r2 (.tuple [.str (Str.ofString "a")])) r3 (.list (oddL r1 r2))) r2 = some (.tuple [.str (Str.ofString "a")]) := Sub.add n3 _ _ _ (put_get _ _ _)
 simp only [List.mem_cons, List.not_mem_nil, or_false] at hm
 rcases hm with rfl | rfl | rfl | rfl | rfl | rfl | rfl | rfl | rfl | rfl | rfl
 ·exact odd_str (by decide +kernel) (by decide +kernel)
 ·exact odd_str (by decide +kernel) (by decide +kernel)
 ·exact odd_str (by decide +kernel) (by decide +kernel)
 ·exact odd_str (by decide +kernel) (by decide +kernel)
 ·exact odd_str (by decide +kernel) (by decide +kernel)
 ·exact ⟨trivial, _, .none, by simp [PyData.depth]⟩
 ·exact ⟨trivial, _, .int _, by simp [PyData.depth]⟩
 ·exact ⟨trivial, _, .bool _, by simp [PyData.depth]⟩
 ·exact ⟨.inl ⟨_, g1⟩, _, .list g1 (.cons (.str _) .nil), by simp [PyData.depth, PyData.depthAll]⟩
 ·exact ⟨.inr ⟨_, g2⟩, _, .tuple g2 (.cons (.str _) .nil), by simp [PyData.depth, PyData.depthAll]⟩
 ·exact odd_str (by decide +kernel) (by decide +kernel)
end Mine
end
-- text Q12
section
namespace Mine
open PySem
set_option maxRecDepth 10000
theorem six_k {r1 r2 : Addr} {H : AH} (h1 : ∃ xs, H r1 = some (.tuple xs)) (h2 : ∃ es, H r2 = some (.sdict es)) (i : Int) : ∃ v, idx [AV.ref r1, .none, .str (Str.ofString "abc"), .int 5, .bool true, .ref r2] (i % 6) = some v ∧ aIs "list" v H = some false := by
 obtain ⟨v, hv, hm⟩ := idx_some (xs := [AV.ref r1, .none, .str (Str.ofString "abc"), .int 5, .bool true, .ref r2]) (j := i % 6) (Int.emod_nonneg _ (by decide)) (Int.emod_lt_of_pos _ (by decide))
 refine ⟨v, hv, ?_⟩
 obtain ⟨xs, h1⟩ := h1
 obtain ⟨es, h2⟩ := h2
 simp only [List.mem_cons, List.not_mem_nil, or_false] at hm
 rcases hm with rfl | rfl | rfl | rfl | rfl | rfl
 ·simp [aIs, h1]
 ·rfl
 ·simp [aIs]
 ·simp [aIs]
 ·simp [aIs]
 ·simp [aIs, h2]
noncomputable def rowAt (names : List Str) (i : Int) (k : Nat) : Str := (names[((i / 7 + (k : Int)) % (names.length : Int)).toNat]?).getD ⟨#[]⟩
theorem rowAt_mem {names : List Str} (h : 0 < names.length) (i : Int) (k : Nat) : idx names ((i / 7 + (k : Int)) % (names.length : Int)) = some (rowAt names i k) ∧ rowAt names i k ∈ names := by
 have h0 := Int.emod_nonneg (i / 7 + (k : Int)) (show (names.length : Int) ≠ 0 by omega)
 have h1 := Int.emod_lt_of_pos (i / 7 + (k : Int)) (show (0 : Int) < names.length by omega)
 obtain ⟨x, e, hx⟩ := idx_some h0 h1
 have : rowAt names i k = x := by
  unfold rowAt
  rw [← idx_nat names h0, e]; rfl
 rw [this]
 exact ⟨e, hx⟩
theorem idx_map {α β : Type} (f : α → β) (xs : List α) (k : Int) : idx (xs.map f) k = (idx xs k).map f := by
 unfold idx
 rw [List.length_map]
 split
 ·exact List.getElem?_map ..
 ·split
  ·exact List.getElem?_map ..
  ·rfl
theorem ok_l_list (vs : List AV) (H : AH) (Q : QV) (X : QX) (h : F_l_list vs H Q X) : mkFn is_l_list T_l_list vs H Q X := by
 obtain ⟨i, a, names, rfl, ha, hnm, h0, h12, fin⟩ := h
 have n0 := Int.emod_nonneg (i / 7) (show (4 : Int) ≠ 0 by decide)
 have n1 := Int.emod_lt_of_pos (i / 7) (show (0 : Int) < 4 by decide)
 refine ⟨rfl, _, rfl, by decide, by decide, by decide, i / 7 % 4, rfl, by omega, by omega, fun r0 hr0 => ?_⟩
 have s0 := Sub.add hr0 (.range 0 (i / 7 % 4))
 refine compJ_range (put_get _ _ _) (fun k => .str (rowAt names i k)) (fun k hk Q' hQ => ?_) fun r1 hr1 => ?_
 ·obtain ⟨e, _⟩ := rowAt_mem h0 i k
  exact ⟨_, rfl, _, rfl, by decide, by decide, _, Mp.upd_self _ _ _, _, rfl, _, rfl, _, s0 _ _ ha, by rw [List.length_map]; omega, _, s0 _ _ ha, _, by rw [List.length_map, idx_map, e]; rfl, hQ⟩
 obtain ⟨row, er⟩ : ∃ row, row = (List.range (i / 7 % 4).toNat).map (rowAt names i) := ⟨_, rfl⟩
 have eL : (List.range (i / 7 % 4).toNat).map (fun k => AV.str (rowAt names i k)) = row.map AV.str := by rw [er, List.map_map]; rfl
 have rl : row.length ≤ 3 := by rw [er, List.length_map, List.length_range]; omega
 have rn : ∀ n ∈ row, Nm n := fun n hn => by
  rw [er] at hn
  obtain ⟨k, _, rfl⟩ := List.mem_map.mp hn
  exact hnm _ (rowAt_mem h0 i k).2
 rw [eL]
 have s1 := s0.trans (Sub.add hr1 (.list (row.map AV.str)))
 have hrow : LS ((H.put r0 (.range 0 (i / 7 % 4))).put r1 (.list (row.map AV.str))) r1 row := put_get _ _ _
 generalize (H.put r0 (.range 0 (i / 7 % 4))).put r1 (.list (row.map AV.str)) = H1 at s1 hrow
 clear eL er hr1 hr0
 have sz := sizeLine_is
 refine ⟨_, rfl, by decide, by decide, _, rfl, _, rfl, _, hrow, by rw [List.length_map]; omega, ?_⟩
 rw [List.length_map]
 have a0 := Int.emod_nonneg (i / 28) (show (row.length : Int) + 1 ≠ 0 by omega)
 generalize i / 28 % ((row.length : Int) + 1) = at_ at a0
 refine ⟨_, rfl, by decide, val_k (eq_int (ite_intro _ (fun _ => ?_) fun _ => ?_))⟩
 ·refine ⟨by simp, fun r2 n2 => fun r3 n3 => ⟨by simp, fun r4 n4 => ⟨_, rfl, by decide, by decide, by decide, _, put_get _ _ _, ?_⟩⟩⟩
  have t2 := Sub.add n2 (.tuple [.str (Str.ofString "a"), .str (Str.ofString "b")])
  have t3 := Sub.add n3 (.sdict [(Str.ofString "a", .int 1)])
  have t4 := Sub.add n4 (.list [AV.ref r2, .none, .str (Str.ofString "abc"), .int 5, .bool true, .ref r3])
  obtain ⟨v, hv, hq⟩ := six_k (r1 := r2) (r2 := r3) ⟨_, t4 _ _ (t3 _ _ (put_get _ _ _))⟩ ⟨_, t4 _ _ (put_get _ _ _)⟩ (i / 28)
  exact ⟨v, hv, fin v _ (s1.trans (t2.trans (t3.trans t4))) (.none hq)⟩
 refine ⟨_, rfl, by decide, val_k (eq_int (ite_intro _ (fun _ => ?_) fun _ => ?_))⟩
 ·refine ⟨_, rfl, val_k ⟨_, rfl, none, some at_, .none, .int _, _, hrow, fun r2 n2 => ?_⟩⟩
  rw [cut_map, cut_upto _ a0]
  have t2 := Sub.add n2 (.list ((row.take at_.toNat).map AV.str))
  refine ⟨_, rfl, by decide, by decide, _, rfl, fun w H2 s2 hw => ⟨by simp, fun r3 n3 => ?_⟩⟩
  have t3 := Sub.add n3 (.list [w])
  refine ⟨_, _, (s2.trans t3) _ _ (put_get _ _ _), put_get _ _ _, by rw [List.length_map, List.length_take]; simp; omega, fun r4 n4 => ?_⟩
  have t4 := Sub.add n4 (.list ((row.take at_.toNat).map AV.str ++ [w]))
  have s4 := t2.trans (s2.trans (t3.trans t4))
  refine ⟨_, rfl, _, rfl, some at_, none, .int _, .none, _, s4 _ _ hrow, fun r5 n5 => ?_⟩
  rw [cut_map, cut_from _ a0]
  have t5 := Sub.add n5 (.list ((row.drop at_.toNat).map AV.str))
  refine ⟨_, _, t5 _ _ (put_get _ _ _), put_get _ _ _, by rw [List.length_append, List.length_map, List.length_map, List.length_take, List.length_drop]; simp; omega, fun r6 n6 => ?_⟩
  have t6 := Sub.add n6 (.list (((row.take at_.toNat).map AV.str ++ [w]) ++ (row.drop at_.toNat).map AV.str))
  refine fin _ _ (s1.trans (s4.trans (t5.trans t6))) (.odd r6 (row.take at_.toNat) w (row.drop at_.toNat) rfl ?_ (fun n hn => rn n (List.mem_of_mem_take hn)) (fun n hn => rn n (List.mem_of_mem_drop hn)) (hw.sub (t3.trans (t4.trans (t5.trans t6)))))
  show (AH.put _ _ _) r6 = _
  rw [put_get, List.append_assoc]; rfl
 refine ⟨_, rfl, by decide, val_k (eq_int (ite_intro _ (fun _ => ?_) fun _ => ?_))⟩
 ·refine ⟨_, rfl, by simp, fun r2 n2 => ?_⟩
  have t2 := Sub.add n2 (.list [.str (Str.ofString "m"), .str (Str.ofString "m")])
  refine ⟨_, _, t2 _ _ hrow, put_get _ _ _, by rw [List.length_map]; simp; omega, fun r3 n3 => ?_⟩
  have t3 := Sub.add n3 (.list (row.map AV.str ++ [.str (Str.ofString "m"), .str (Str.ofString "m")]))
  refine fin _ _ (s1.trans (t2.trans t3)) (.good r3 (row ++ [Str.ofString "m", Str.ofString "m"]) rfl ?_ (fun n hn => ?_) (by rw [List.length_append]; simp; omega))
  ·show (AH.put _ _ _) r3 = _
   rw [put_get, List.map_append]; rfl
  ·rcases List.mem_append.mp hn with hn | hn
   ·exact rn n hn
   ·rw [show n = Str.ofString "m" by simpa using hn]; exact nm_of (by decide +kernel)
 refine ⟨_, rfl, by decide, val_k (eq_int (ite_intro _ (fun _ => ?_) fun _ => ?_))⟩
 ·refine ⟨_, rfl, val_k ⟨_, rfl, none, some at_, .none, .int _, _, hrow, fun r2 n2 => ?_⟩⟩
  rw [cut_map, cut_upto _ a0]
  have t2 := Sub.add n2 (.list ((row.take at_.toNat).map AV.str))
  refine ⟨by simp, fun r3 n3 => ?_⟩
  have t3 := Sub.add n3 (.list [.str (Str.ofString "zz")])
  refine ⟨_, _, t3 _ _ (put_get _ _ _), put_get _ _ _, by rw [List.length_map, List.length_take]; simp; omega, fun r4 n4 => ?_⟩
  have t4 := Sub.add n4 (.list ((row.take at_.toNat).map AV.str ++ [.str (Str.ofString "zz")]))
  have s4 := t2.trans (t3.trans t4)
  refine ⟨_, rfl, _, rfl, some at_, none, .int _, .none, _, s4 _ _ hrow, fun r5 n5 => ?_⟩
  rw [cut_map, cut_from _ a0]
  have t5 := Sub.add n5 (.list ((row.drop at_.toNat).map AV.str))
  refine ⟨_, _, t5 _ _ (put_get _ _ _), put_get _ _ _, by rw [List.length_append, List.length_map, List.length_map, List.length_take, List.length_drop]; simp; omega, fun r6 n6 => ?_⟩
  have t6 := Sub.add n6 (.list (((row.take at_.toNat).map AV.str ++ [.str (Str.ofString "zz")]) ++ (row.drop at_.toNat).map AV.str))
  refine fin _ _ (s1.trans (s4.trans (t5.trans t6))) (.good r6 ((row.take at_.toNat ++ [Str.ofString "zz"]) ++ row.drop at_.toNat) rfl ?_ (fun n hn => ?_) (by rw [List.length_append, List.length_append, List.length_take, List.length_drop]; simp; omega))
  ·show (AH.put _ _ _) r6 = _
   rw [put_get, List.map_append, List.map_append]; rfl
  ·rcases List.mem_append.mp hn with hn | hn
   ·rcases List.mem_append.mp hn with hn | hn
    ·exact rn n (List.mem_of_mem_take hn)
    ·rw [show n = Str.ofString "zz" by simpa using hn]; exact nm_of (by decide +kernel)
   ·exact rn n (List.mem_of_mem_drop hn)
 exact ⟨_, rfl, fin _ _ s1 (.good r1 row rfl hrow rn (by omega))⟩
theorem ok_l_is_name (vs : List AV) (H : AH) (Q : QV) (X : QX) (h : F_l_is_name vs H Q X) : mkFn is_l_is_name T_l_is_name vs H Q X := by
 have gen : ∀ (x : Str), x.length ≤ 1000000 → (∀ H', Sub H H' → Q (.bool (nmB x)) H') → mkFn is_l_is_name T_l_is_name [.str x] H Q X := by
  intro x hl h
  have hz : x.length ≤ sizeLine := by rw [sizeLine_is]; omega
  refine ⟨rfl, _, rfl, true, isi_str, true, rfl, ?_⟩
  refine ⟨_, rfl, _, rfl, hz, le_k ?_⟩
  by_cases h1 : 1 ≤ x.length
  ·rw [decide_eq_true (show (1 : Int) ≤ x.length by omega)]
   refine ite_t (val_k (le_k ?_))
   by_cases h2 : x.length ≤ 8
   ·rw [decide_eq_true (show (x.length : Int) ≤ 8 by omega)]
    refine ⟨_, rfl, ?_⟩
    have hs : x.cps.size ≤ 1048576 := by have : x.length = x.cps.size := rfl; omega
    refine ⟨.str, signs x, ⟨rfl, hs⟩, fun k ys H' => H' = H ∧ ys = (((x.cps.toList.take k).filter fun c => !(Txt.contains alph ⟨#[c]⟩)).map fun c => (⟨#[c]⟩ : Str)).map AV.str, ⟨rfl, by simp⟩, ?_⟩
    rintro k ys H' ⟨rfl, rfl⟩ hk
    refine ⟨⟨rfl, hs⟩, fun y hy => ?_, fun e r hr => ?_⟩
    ·unfold signs at hy
     rw [List.getElem?_map] at hy
     cases q : x.cps.toList[k]? with
     | none => rw [q] at hy; cases hy
     | some c =>
      rw [q] at hy; cases hy
      have ef : (x.cps.toList.take (k + 1)).filter (fun c => !(Txt.contains alph ⟨#[c]⟩)) = (x.cps.toList.take k).filter (fun c => !(Txt.contains alph ⟨#[c]⟩)) ++ (if (!(Txt.contains alph ⟨#[c]⟩)) = true then [c] else []) := by
       rw [List.take_add_one, q, List.filter_append]
       cases w : Txt.contains alph ⟨#[c]⟩ <;> simp [List.filter, w]
      refine ⟨_, Mp.upd_self _ _ _, val_k (notIn_str (ite_intro _ (fun w => ?_) fun w => ?_))⟩
      ·have w' : (!(Txt.contains alph ⟨#[c]⟩)) = true := w
       refine ⟨_, Mp.upd_self _ _ _, rfl, ?_⟩
       rw [ef, if_pos w', List.map_append, List.map_append]; rfl
      ·have w' : (!(Txt.contains alph ⟨#[c]⟩)) = false := w
       refine ⟨rfl, ?_⟩
       rw [ef, if_neg (by rw [w']; decide), List.append_nil]
    ·unfold signs at e
     rw [List.length_map] at e
     rw [e, List.take_length]
     have sr := Sub.add hr (.list (((x.cps.toList.filter fun c => !(Txt.contains alph ⟨#[c]⟩)).map fun c => (⟨#[c]⟩ : Str)).map AV.str))
     refine ⟨Nat.zero_le _, fun z hz => ?_⟩
     have sz := Sub.add hz (.list [])
     refine eq_LS (xs := (x.cps.toList.filter fun c => !(Txt.contains alph ⟨#[c]⟩)).map fun c => (⟨#[c]⟩ : Str)) (ys := []) (sz _ _ (put_get _ _ _)) (put_get _ _ _) ?_
     have e2 : decide (((x.cps.toList.filter fun c => !(Txt.contains alph ⟨#[c]⟩)).map fun c => (⟨#[c]⟩ : Str)) = []) = nmB x := by
      unfold nmB
      rw [decide_eq_true h1, decide_eq_true h2, Bool.true_and, Bool.true_and]
      cases w : x.cps.toList.all fun c => Txt.contains alph ⟨#[c]⟩ with
      | true =>
       refine decide_eq_true ?_
       rw [List.filter_eq_nil_iff.mpr fun c hc => by rw [List.all_eq_true.mp w c hc]; decide]; rfl
      | false =>
       refine decide_eq_false fun q => ?_
       have := List.filter_eq_nil_iff.mp (List.map_eq_nil_iff.mp q)
       have w2 : (x.cps.toList.all fun c => Txt.contains alph ⟨#[c]⟩) = true := List.all_eq_true.mpr fun c hc => by
        have := this c hc
        simpa using this
       rw [w] at w2; cases w2
     rw [e2]
     exact h _ (sr.trans sz)
   ·rw [decide_eq_false (show ¬ (x.length : Int) ≤ 8 by omega)]
    have e : nmB x = false := by unfold nmB; rw [decide_eq_false h2]; simp
    rw [e] at h
    exact h _ (.refl _)
  ·rw [decide_eq_false (show ¬ (1 : Int) ≤ x.length by omega)]
   have e : nmB x = false := by unfold nmB; rw [decide_eq_false h1]; simp
   rw [e] at h
   exact ite_f (h _ (.refl _))
 cases h with
 | yes x e hx h =>
  subst e
  exact gen x (Nat.le_trans hx.2.1 (by decide)) (by rw [hx.nmB]; exact h)
 | no v e hv h =>
  subst e
  cases v with
  | str x => exact gen x hv.2 (by rw [hv.1]; exact h)
  | none => exact ⟨rfl, _, rfl, false, rfl, false, rfl, h _ (.refl _)⟩
  | bool b => exact ⟨rfl, _, rfl, false, rfl, false, rfl, h _ (.refl _)⟩
  | int i => exact ⟨rfl, _, rfl, false, rfl, false, rfl, h _ (.refl _)⟩
  | ref a =>
   have e : aIs "str" (.ref a) H = some false := by
    rcases hv with ⟨xs, e⟩ | ⟨xs, e⟩ <;> simp [aIs, e]
   exact ⟨rfl, _, rfl, false, e, false, rfl, h _ (.refl _)⟩
noncomputable def badA : AV → Bool
 | .str x => !nmB x
 | _ => true
theorem badA_no {H : AH} {v : AV} (h : NotNm H v) : badA v = true := by
 cases v with
 | str x => show (!nmB x) = true; rw [h.1]; rfl
 | _ => rfl
theorem comp_fil {m : Mp} {j : Nat} {tc : Tb} {H : AH} {Q : QV} {c : Addr} {L : List AV} {f : AV → Bool} (hc : H c = some (.list L)) (test : ∀ y ∈ L, ∀ H', Sub H H' → ∀ Q' : Bool → AH → Prop, (∀ H3, Sub H' H3 → Q' (f y) H3) → tc (m.upd j y) H' Q' noX)
  (fin : ∀ r H', Sub H H' → H r = none → H' r = some (.list (L.filter f)) → Q (.ref r) H') : CompJ m j tc (tLoc j) (.ref c) H Q := by
 refine ⟨.list, L, hc, fun k ys H' => Sub H H' ∧ ys = (L.take k).filter f, ⟨.refl _, by simp⟩, ?_⟩
 rintro k ys H' ⟨sb, rfl⟩ hk
 refine ⟨sb _ _ hc, fun y hy => ?_, fun e r hr => ?_⟩
 ·have ef : (L.take (k + 1)).filter f = (L.take k).filter f ++ (if f y = true then [y] else []) := by
   rw [List.take_add_one, hy, List.filter_append]
   cases q : f y <;> simp [List.filter, q]
  refine test y (List.mem_of_getElem? hy) H' sb _ fun H3 s3 => ?_
  cases q : f y with
  | true =>
   refine ite_t ⟨_, Mp.upd_self _ _ _, sb.trans s3, ?_⟩
   rw [ef, if_pos q]
  | false =>
   refine ite_f ⟨sb.trans s3, ?_⟩
   rw [ef, if_neg (by rw [q]; decide), List.append_nil]
 ·rw [e, List.take_length]
  exact fin r _ (sb.trans (Sub.add hr _)) (sb.new hr) (put_get _ _ _)
theorem name_test {m : Mp} {j : Nat} {H H' : AH} {y : AV} {Q' : Bool → AH → Prop} {X : QX} (hy : (∃ n, y = .str n ∧ Nm n) ∨ NotNm H y) (s : Sub H H') (h : ∀ H3, Sub H' H3 → Q' (badA y) H3) : tNotB (tTruth (tCall F_l_is_name (tCons (tLoc j) tNil))) (m.upd j y) H' Q' X := by
 refine ⟨_, Mp.upd_self _ _ _, ?_⟩
 rcases hy with ⟨n, rfl, hn⟩ | hy
 ·refine .yes n rfl hn fun H3 s3 => ⟨true, rfl, ?_⟩
  have := h H3 s3
  rw [show badA (.str n) = false by show (!nmB n) = false; rw [hn.nmB]; rfl] at this
  exact this
 ·refine .no y rfl (hy.sub s) fun H3 s3 => ⟨false, rfl, ?_⟩
  have := h H3 s3
  rw [badA_no hy] at this
  exact this
theorem fil_names {xs : List Str} (h : ∀ n ∈ xs, Nm n) : (xs.map AV.str).filter badA = [] := List.filter_eq_nil_iff.mpr fun y hy => by
 obtain ⟨n, hn, rfl⟩ := List.mem_map.mp hy
 show ¬ (!nmB n) = true
 rw [(h n hn).nmB]; decide
theorem count_one {n : Str} : ∀ {xs : List Str}, xs.Nodup → xs.countP (· == n) ≤ 1
 | [], _ => Nat.zero_le _
 | x :: r, h => by
  obtain ⟨h1, h2⟩ := List.nodup_cons.mp h
  rw [List.countP_cons]
  by_cases e : x = n
  ·subst e
   have : r.countP (· == x) = 0 := List.countP_eq_zero.mpr fun y hy q => h1 (by
    have : y = x := by simpa using q
    rw [← this]; exact hy)
   rw [this]; simp
  ·have := count_one (n := n) h2
   rw [if_neg (by simpa using e)]; exact this
theorem count_two : ∀ {xs : List Str}, ¬ xs.Nodup → ∃ n ∈ xs, 1 < xs.countP (· == n)
 | [], h => absurd .nil h
 | x :: r, h => by
  by_cases hx : x ∈ r
  ·refine ⟨x, .head _, ?_⟩
   have : 0 < r.countP (· == x) := List.countP_pos_iff.mpr ⟨x, hx, by simp⟩
   rw [List.countP_cons, if_pos (by simp)]; omega
  ·obtain ⟨n, hn, hc⟩ := count_two fun q => h (List.nodup_cons.mpr ⟨hx, q⟩)
   exact ⟨n, .tail _ hn, by rw [List.countP_cons]; omega⟩
noncomputable def cntA (xs : List Str) : AV → Bool
 | .str n => decide ((1 : Int) < ((xs.countP (· == n) : Nat) : Int))
 | _ => false
noncomputable def outA (there : List Str) : AV → Bool
 | .str n => !decide (n ∈ there)
 | _ => false
theorem fil_map (f : AV → Bool) (g : Str → Bool) (h : ∀ n, f (.str n) = g n) (xs : List Str) : (xs.map AV.str).filter f = (xs.filter g).map AV.str := by
 rw [List.filter_map]
 congr 1
 apply List.filter_congr
 intro n _
 exact h n
theorem ne_nil_k {H : AH} {r z : Addr} {w : AV} {L : List AV} {d : PyData} {Q : Bool → AH → Prop} (hr : H r = some (.list [w])) (hd : Rd H w d) (hl : d.depth ≤ 1) (hz : H z = some (.list [])) (h : Q true H) : aNe (.ref r) (.ref z) H Q :=
 ⟨_, _, .list hr (.cons hd .nil), .list hz .nil, by simp [PyData.depth, PyData.depthAll]; omega, by simp [PyData.depth, PyData.depthAll], by rw [PyData.eqv, PyData.eqvAll]; exact h⟩
theorem ok_l_due (vs : List AV) (H : AH) (Q : QV) (X : QX) (h : F_l_due vs H Q X) : mkFn is_l_due T_l_due vs H Q X := by
 cases h with
 | name way x t many e hw hx fin =>
  subst e
  refine ⟨rfl, _, rfl, val_k (gt_k ?_)⟩
  rw [decide_eq_true hw]
  exact ite_t ⟨_, rfl, .yes x rfl hx fun H' s' => ⟨true, rfl, fin _ s'⟩⟩
 | noname way v t many e hw hx fin =>
  subst e
  refine ⟨rfl, _, rfl, val_k (gt_k ?_)⟩
  rw [decide_eq_true hw]
  exact ite_t ⟨_, rfl, .no v rfl hx fun H' s' => ⟨false, rfl, fin _ s'⟩⟩
 | none way v t many e hw hv fin =>
  subst e
  refine ⟨rfl, _, rfl, val_k (gt_k ?_)⟩
  rw [decide_eq_false (by omega)]
  exact ite_f ⟨_, rfl, false, hv, false, rfl, fin _ (.refl _)⟩
 | odd way r xs w ys t many e hw hr hx hy hO fin =>
  subst e
  refine ⟨rfl, _, rfl, val_k (gt_k ?_)⟩
  rw [decide_eq_false (by omega)]
  refine ite_f ⟨_, rfl, true, isi_list hr, true, rfl, ?_⟩
  refine ⟨_, rfl, comp_fil (f := badA) hr (fun y hy' H' s' Q' h' => name_test (H := H) ?_ s' h') fun r2 H2 s2 n2 h2 => ⟨Nat.zero_le _, fun z hz => ?_⟩⟩
  ·rcases List.mem_append.mp hy' with q | q
   ·obtain ⟨n, hn, rfl⟩ := List.mem_map.mp q
    exact .inl ⟨n, rfl, hx n hn⟩
   ·rcases List.mem_cons.mp q with rfl | q
    ·exact .inr hO.no
    ·obtain ⟨n, hn, rfl⟩ := List.mem_map.mp q
     exact .inl ⟨n, rfl, hy n hn⟩
  ·have sz := Sub.add hz (.list [])
   have ef : (xs.map AV.str ++ w :: ys.map AV.str).filter badA = [w] := by
    rw [List.filter_append, fil_names hx, List.filter_cons_of_pos (by rw [badA_no hO.no]), fil_names hy]; rfl
   rw [ef] at h2
   obtain ⟨d, hd, hl⟩ := (hO.sub (s2.trans sz)).rd
   exact ne_nil_k (L := []) (sz _ _ h2) hd hl (put_get _ _ _) (ite_t (fin _ (s2.trans sz)))
 | good way r xs t many e w1 w2 hr hx fin =>
  subst e
  refine ⟨rfl, _, rfl, val_k (gt_k ?_)⟩
  rw [decide_eq_false (by omega)]
  refine ite_f ⟨_, rfl, true, isi_list hr, true, rfl, ?_⟩
  refine ⟨_, rfl, comp_fil (f := badA) hr (fun y hy' H' s' Q' h' => name_test (H := H) (by
   obtain ⟨n, hn, rfl⟩ := List.mem_map.mp hy'
   exact .inl ⟨n, rfl, hx n hn⟩) s' h') fun r2 H2 s2 n2 h2 => ⟨Nat.zero_le _, fun z hz => ?_⟩⟩
  have sz := Sub.add hz (.list [])
  rw [fil_names hx] at h2
  refine ne_LS (xs := []) (ys := []) (sz _ _ h2) (put_get _ _ _) (ite_f ⟨_, rfl, val_k (gt_k ?_)⟩)
  rw [decide_eq_true w1]
  exact ite_t (fin _ (s2.trans sz))
 | put way r xs t there many e w hr hx hl ht htl twice yes no =>
  subst e
  have sL := sizeLine_is
  refine ⟨rfl, _, rfl, val_k (gt_k ?_)⟩
  rw [decide_eq_false (by omega)]
  refine ite_f ⟨_, rfl, true, isi_list hr, true, rfl, ?_⟩
  refine ⟨_, rfl, comp_fil (f := badA) hr (fun y hy' H' s' Q' h' => name_test (H := H) (by
   obtain ⟨n, hn, rfl⟩ := List.mem_map.mp hy'
   exact .inl ⟨n, rfl, hx n hn⟩) s' h') fun r2 H2 s2 n2 h2 => ⟨Nat.zero_le _, fun z hz => ?_⟩⟩
  have sz := Sub.add hz (.list [])
  rw [fil_names hx] at h2
  refine ne_LS (xs := []) (ys := []) (sz _ _ h2) (put_get _ _ _) (ite_f ⟨_, rfl, val_k (gt_k ?_)⟩)
  rw [decide_eq_false (by omega)]
  have s3 := s2.trans sz
  generalize H2.put z (.list []) = H3 at s3
  have hr3 : LS H3 r xs := s3 _ _ hr
  refine ite_f ⟨_, rfl, comp_fil (f := cntA xs) hr3 (fun y hy' H' s' Q' h' => ?_) fun r4 H4 s4 n4 h4 => ⟨Nat.zero_le _, fun z5 hz5 => ?_⟩⟩
  ·obtain ⟨n, hn, rfl⟩ := List.mem_map.mp hy'
   exact ⟨_, rfl, .list (s' _ _ hr3), _, Mp.upd_self _ _ _, r, xs, n, rfl, s' _ _ hr3, val_k (gt_k (h' _ (.refl _)))⟩
  have s5 := s4.trans (Sub.add hz5 (.list []))
  have h4' : LS (H4.put z5 (.list [])) r4 (xs.filter fun n => decide ((1 : Int) < ((xs.countP (· == n) : Nat) : Int))) := by
   rw [fil_map (cntA xs) _ (fun n => rfl)] at h4
   exact Sub.add hz5 _ _ _ h4
  refine ne_LS (ys := []) h4' (put_get _ _ _) ?_
  by_cases nd : xs.Nodup
  ·rw [decide_eq_true (List.filter_eq_nil_iff.mpr fun n hn q => by
    have := count_one (n := n) nd
    have := of_decide_eq_true q
    omega)]
   have hr5 : LS (H4.put z5 (.list [])) r xs := s5 _ _ hr3
   have ht5 : LS (H4.put z5 (.list [])) t there := s5 _ _ (s3 _ _ ht)
   generalize H4.put z5 (.list []) = H5 at s5 hr5 ht5
   refine ite_f ⟨_, rfl, comp_fil (f := outA there) hr5 (fun y hy' H' s' Q' h' => ?_) fun r6 H6 s6 n6 h6 => ?_⟩
   ·obtain ⟨n, hn, rfl⟩ := List.mem_map.mp hy'
    exact ⟨_, Mp.upd_self _ _ _, _, rfl, notIn_strs (s' _ _ ht5) (h' _ (.refl _))⟩
   rw [fil_map (outA there) (fun n => !decide (n ∈ there)) (fun n => rfl)] at h6
   have h6' : LS H6 r6 (freshL xs there) := h6
   have sH := s3.trans (s5.trans s6)
   refine ⟨_, rfl, val_k (eq_int (ite_intro _ (fun q => ?_) fun q => ?_))⟩
   ·exact yes nd (.inl (of_decide_eq_true q)) _ sH
   ·refine ⟨_, rfl, _, rfl, _, s6 _ _ ht5, _, rfl, _, rfl, _, h6', add_k (val_k (gt_k ?_))⟩
    have q := of_decide_eq_false q
    rw [List.length_map, List.length_map]
    by_cases g : 12 < there.length + (freshL xs there).length
    ·rw [decide_eq_true (by omega)]
     exact yes nd (.inr g) _ sH
    ·rw [decide_eq_false (by omega)]
     exact no nd (fun z => z.elim q g) _ sH
  ·rw [decide_eq_false (fun q => by
    obtain ⟨n, hn, hc⟩ := count_two nd
    exact List.filter_eq_nil_iff.mp q n hn (decide_eq_true (by omega)))]
   exact ite_t (twice nd _ (s3.trans s5))
end Mine
end
-- text H12
section
namespace Mine
open PySem
set_option maxRecDepth 10000
noncomputable def sg (i : Nat) : Str := ⟨#[97 + i]⟩
theorem sg_inj {i j : Nat} (h : sg i = sg j) : i = j := by
 have : (sg i).cps.toList = (sg j).cps.toList := by rw [h]
 have : [97 + i] = [97 + j] := this
 simpa using this
theorem sg_nmB : ∀ i < 18, nmB (sg i) = true := by decide +kernel
theorem sg_nm {i : Nat} (h : i < 18) : Nm (sg i) := nm_of (sg_nmB i h)
theorem lo_at' : ∀ j < 12, (Str.ofString "abcdefghijkl").cps.toList[j]? = some (97 + j) := by decide +kernel
theorem hi_at' : ∀ j < 12, (Str.ofString "ghijklmnopqr").cps.toList[j]? = some (97 + (6 + j)) := by decide +kernel
theorem lo_at {j : Nat} (h : j < 12) : idx (Str.ofString "abcdefghijkl").cps.toList (j : Int) = some (97 + j) := by
 rw [idx_nat _ (Int.natCast_nonneg _), Int.toNat_natCast]; exact lo_at' j h
theorem hi_at {j : Nat} (h : j < 12) : idx (Str.ofString "ghijklmnopqr").cps.toList (j : Int) = some (97 + (6 + j)) := by
 rw [idx_nat _ (Int.natCast_nonneg _), Int.toNat_natCast]; exact hi_at' j h
noncomputable def fo (o c j : Nat) : Nat := o + j % c
theorem fo_lt {o c j : Nat} (h0 : 0 < c) (h : c ≤ 12) : fo o c j < o + 12 := by
 have := Nat.mod_lt j h0
 unfold fo; omega
structure Singles (B : Bk) (o c k : Nat) : Prop where
 sets : B.sets = (List.range k).map fun j => [sg (fo o c j)]
 cm : B.c = k
 num : B.rs.map (·.1) = (List.range k).map (fun i : Nat => (i : Int))
theorem Singles.len {B : Bk} {o c k : Nat} (h : Singles B o c k) : B.rs.length = k := by
 rw [← List.length_map (f := (·.1)), h.num]; simp
theorem more_sets (B : Bk) (l : Addr) (row : List Str) : (B.more l row).sets = B.sets ++ [row] := by
 unfold Bk.more Bk.sets
 rw [List.map_append]; rfl
theorem Singles.more {B : Bk} {o c k : Nat} (h : Singles B o c k) (l : Addr) : Singles (B.more l [sg (fo o c k)]) o c (k + 1) := by
 refine ⟨?_, ?_, ?_⟩
 ·rw [more_sets, h.sets, List.range_succ, List.map_append]; rfl
 ·show B.c + 1 = _
  rw [h.cm]; simp
 ·show (B.rs ++ [(B.c, l, [sg (fo o c k)])]).map (·.1) = _
  rw [List.map_append, h.num, List.range_succ, List.map_append]
  simp [h.cm]
theorem Singles.none (x d k : Addr) (o c : Nat) : Singles ⟨x, d, k, [], 0⟩ o c 0 := ⟨rfl, rfl, rfl⟩
theorem put_one {B : Bk} {H : AH} {r : Addr} {k o c : Nat} {Q : QV} {X : QX} (hB : BookAt H B) (hS : Singles B o c k) (hk : k < 30) (hc : 0 < c) (h12 : c ≤ 12) (ho : o ≤ 6) (hr : LS H r [sg (fo o c k)])
  (fin : ∀ l H', Turn B H H' → H l = none → BookAt H' (B.more l [sg (fo o c k)]) → Singles (B.more l [sg (fo o c k)]) o c (k + 1) → Q (.int k) H') : F_b_put [.ref B.a, .ref r] H Q X := by
 have inn : ∀ j, sg (fo o c j) ∈ (List.range 12).map fun i => sg (o + i) := fun j => List.mem_map.mpr ⟨j % c, List.mem_range.mpr (Nat.lt_of_lt_of_le (Nat.mod_lt j hc) h12), rfl⟩
 refine .ok B r [sg (fo o c k)] ((List.range 12).map fun i => sg (o + i)) rfl hB hr (by simp) (fun n hn => ?_) (by rw [hS.len]; exact hk) (by simp) (fun x hx n hn => ?_) (fun n hn => ?_) fun l H' c' nl hB' => ?_
 ·rw [show n = sg (fo o c k) by simpa using hn]
  have := fo_lt (o := o) (j := k) hc h12
  exact sg_nm (by omega)
 ·rw [hS.sets] at hx
  obtain ⟨j, _, rfl⟩ := List.mem_map.mp hx
  rw [show n = sg (fo o c j) by simpa using hn]; exact inn j
 ·rw [show n = sg (fo o c k) by simpa using hn]; exact inn k
 ·rw [hS.cm]
  exact fin l H' c' nl hB' (hS.more l)
theorem flat_single {α : Type} (f : α → Str) : ∀ l : List α, (l.map fun j => [f j]).flatten = l.map f
 | [] => rfl
 | x :: r => by rw [List.map_cons, List.flatten_cons, flat_single f r]; rfl
theorem make_k {m : Mp} {H : AH} {Q : QV} {X : QX} (fin : ∀ x d k H', Sub H H' → H x = none → H d = none → H k = none → BookAt H' ⟨x, d, k, [], 0⟩ → Q (.ref x) H') : tMake F_b_init m H Q X := by
 intro x d hx hd ne
 have s1 := (Sub.add hd (.attrs [])).put (.inst d) hx
 exact ⟨x, d, rfl, put_get _ _ _, (AH.put_ne _ _ (Ne.symm ne)).trans (put_get _ _ _), ne, fun k0 H1 hk0 c1 hB1 => ⟨rfl, fin x d k0 H1 (fun y o e => c1.keep y o (fun q => by rw [q, hd] at e; cases e) (s1 _ _ e)) hx hd (s1.new hk0) hB1⟩⟩
theorem BookAt.put_ne {H : AH} {B : Bk} {dn : Addr} {o : AO} {es : List (Int × AV)} (hB : BookAt H B) (hd : H dn = some (.idict es)) (ne : dn ≠ B.k) : BookAt (H.put dn o) B := hB.keep fun x o' hx e => (AH.put_ne _ _ fun (q : x = dn) => by
 subst q
 rcases hx with rfl | rfl | rfl | ⟨r, hr, rfl⟩
 ·rw [hB.inst] at hd; cases hd
 ·rw [hB.attrs] at hd; cases hd
 ·exact ne rfl
 ·have := hB.rows r hr
  unfold LS at this
  rw [this] at hd; cases hd).trans e
structure Two (H H' : AH) (A B : Bk) (dn : Addr) (es : List (Int × AV)) : Prop where
 sub : Sub H H'
 one : BookAt H' A
 oth : BookAt H' B
 dict : H' dn = some (.idict es)
 ndd : A.d ≠ B.d
 nkk : A.k ≠ B.k
 na : dn ≠ A.k
 nb : dn ≠ B.k
 nA : H A.d = none ∧ H A.k = none
 nB : H B.d = none ∧ H B.k = none
 nD : H dn = none
theorem Two.more {H H' H'' : AH} {A B : Bk} {dn : Addr} {es : List (Int × AV)} (h : Two H H' A B dn es) (s : Sub H' H'') : Two H H'' A B dn es := { h with sub := h.sub.trans s, one := h.one.sub s, oth := h.oth.sub s, dict := s _ _ h.dict }
theorem Two.turnA {H H' H'' : AH} {A A' B : Bk} {dn : Addr} {es : List (Int × AV)} (h : Two H H' A B dn es) (c : Turn A H' H'') (hA' : BookAt H'' A') (e1 : A'.d = A.d) (e2 : A'.k = A.k) : Two H H'' A' B dn es where
 sub := fun x o e => c.keep x o (by
  rintro (rfl | rfl)
  ·rw [h.nA.1] at e; cases e
  ·rw [h.nA.2] at e; cases e) (h.sub x o e)
 one := hA'
 oth := c.bk h.one h.oth (Ne.symm h.ndd) (Ne.symm h.nkk)
 dict := c.keep dn _ (by
  rintro (q | q)
  ·have := h.dict; rw [q, h.one.attrs] at this; cases this
  ·exact h.na q) h.dict
 ndd := by rw [e1]; exact h.ndd
 nkk := by rw [e2]; exact h.nkk
 na := by rw [e2]; exact h.na
 nb := h.nb
 nA := by rw [e1, e2]; exact h.nA
 nB := h.nB
 nD := h.nD
theorem Two.swap {H H' : AH} {A B : Bk} {dn : Addr} {es : List (Int × AV)} (h : Two H H' A B dn es) : Two H H' B A dn es := ⟨h.sub, h.oth, h.one, h.dict, Ne.symm h.ndd, Ne.symm h.nkk, h.nb, h.na, h.nB, h.nA, h.nD⟩
theorem Two.store {H H' : AH} {A B : Bk} {dn : Addr} {es : List (Int × AV)} (h : Two H H' A B dn es) (es' : List (Int × AV)) : Two H (H'.put dn (.idict es')) A B dn es' :=
 ⟨fun x o e => (AH.put_ne _ _ (ne_new h.nD e)).trans (h.sub x o e), h.one.put_ne h.dict h.na, h.oth.put_ne h.dict h.nb, put_get _ _ _, h.ndd, h.nkk, h.na, h.nb, h.nA, h.nB, h.nD⟩
structure KeysOK (es : List (Int × AV)) (L : List Nat) : Prop where
 nd : (es.map (·.1)).Nodup
 mem : ∀ i : Int, i ∈ es.map (·.1) ↔ ∃ n ∈ L, i = (n : Int)
 len : es.length ≤ L.length
theorem KeysOK.step {es : List (Int × AV)} {L : List Nat} (h : KeysOK es L) (n : Nat) (v : AV) : KeysOK (storedA es (n : Int) v) (L ++ [n]) := by
 by_cases q : (n : Int) ∈ es.map (·.1)
 ·have e : (storedA es (n : Int) v).map (·.1) = es.map (·.1) := by
   unfold storedA
   rw [if_pos (List.any_eq_true.mpr (by
    obtain ⟨p, hp, e⟩ := List.mem_map.mp q
    exact ⟨p, hp, decide_eq_true e⟩)), List.map_map]
   apply List.map_congr_left
   intro p _
   show (if p.1 = (n : Int) then (p.1, v) else p).1 = p.1
   split <;> rfl
  have el : (storedA es (n : Int) v).length = es.length := by rw [← List.length_map (f := (·.1)), e, List.length_map]
  refine ⟨by rw [e]; exact h.nd, fun i => ?_, by rw [el, List.length_append]; exact Nat.le_trans h.len (Nat.le_add_right _ _)⟩
  rw [e, h.mem]
  constructor
  ·rintro ⟨m, hm, rfl⟩; exact ⟨m, List.mem_append.mpr (.inl hm), rfl⟩
  ·rintro ⟨m, hm, rfl⟩
   rcases List.mem_append.mp hm with hm | hm
   ·exact ⟨m, hm, rfl⟩
   ·rw [show m = n by simpa using hm]; exact (h.mem _).mp q
 ·have e : storedA es (n : Int) v = es ++ [((n : Int), v)] := by
   unfold storedA
   rw [if_neg]
   intro w
   obtain ⟨p, hp, e⟩ := List.any_eq_true.mp w
   exact q (List.mem_map.mpr ⟨p, hp, of_decide_eq_true e⟩)
  rw [e]
  refine ⟨?_, fun i => ?_, by rw [List.length_append, List.length_append]; exact Nat.add_le_add_right h.len _⟩
  ·rw [List.map_append]
   refine List.nodup_append.mpr ⟨h.nd, (by simp), fun a ha b hb => ?_⟩
   rw [show b = (n : Int) by simpa using hb]
   exact fun z => q (z ▸ ha)
  ·rw [List.map_append, List.mem_append, h.mem]
   constructor
   ·rintro (⟨m, hm, rfl⟩ | hi)
    ·exact ⟨m, List.mem_append.mpr (.inl hm), rfl⟩
    ·exact ⟨n, List.mem_append.mpr (.inr (.head _)), by simpa using hi⟩
   ·rintro ⟨m, hm, rfl⟩
    rcases List.mem_append.mp hm with hm | hm
    ·exact .inl ⟨m, hm, rfl⟩
    ·rw [show m = n by simpa using hm]; exact .inr (.head _)
theorem KeysOK.count {es : List (Int × AV)} {L : List Nat} (h : KeysOK es L) : (dedup (L.map sg)).length = es.length := by
 have e : es.length = ((es.map (·.1)).map fun i => sg i.toNat).length := by rw [List.length_map, List.length_map]
 rw [e]
 have mem : ∀ s, s ∈ ((es.map (·.1)).map fun i => sg i.toNat) ↔ s ∈ L.map sg := fun s => by
  rw [List.mem_map, List.mem_map]
  constructor
  ·rintro ⟨i, hi, rfl⟩
   obtain ⟨n, hn, rfl⟩ := (h.mem i).mp hi
   exact ⟨n, hn, rfl⟩
  ·rintro ⟨n, hn, rfl⟩
   exact ⟨(n : Int), (h.mem _).mpr ⟨n, hn, rfl⟩, rfl⟩
 have nd : ((es.map (·.1)).map fun i => sg i.toNat).Nodup := by
  refine List.pairwise_map.mpr (List.Pairwise.imp_of_mem (fun {a b} ha hb hab e => hab ?_) h.nd)
  obtain ⟨n, _, rfl⟩ := (h.mem a).mp ha
  obtain ⟨m, _, rfl⟩ := (h.mem b).mp hb
  have := sg_inj e
  rw [Int.toNat_natCast, Int.toNat_natCast] at this
  rw [this]
 exact Nat.le_antisymm (nodup_len (dedup_is_nodup _) fun s hs => (mem s).mpr (mem_dedup.mp hs)) (nodup_len nd fun s hs => mem_dedup.mpr ((mem s).mp hs))
theorem fits_joined {A B : Bk} {s0 s1 k0 k1 : Nat} {es : List (Int × AV)} (hA : Singles A 0 k0 s0) (hB : Singles B 6 k1 s1) (hK : KeysOK es ((List.range s0).map (fo 0 k0) ++ (List.range s1).map (fo 6 k1))) : Fits (A.sets ++ B.sets) ↔ s0 + s1 ≤ 30 ∧ es.length ≤ 12 := by
 unfold Fits
 have e : (A.sets ++ B.sets).flatten = ((List.range s0).map (fo 0 k0) ++ (List.range s1).map (fo 6 k1)).map sg := by
  rw [List.flatten_append, hA.sets, hB.sets, flat_single, flat_single, List.map_append, List.map_map, List.map_map]; rfl
 rw [e, hK.count, List.length_append, hA.sets, hB.sets, List.length_map, List.length_map, List.length_range, List.length_range]
theorem mem_cross {F G : List (List Str)} {n : Str} : n ∈ (crossL F G).flatten ↔ ∃ x ∈ F, ∃ y ∈ G, n ∈ x ∨ n ∈ y := by
 rw [List.mem_flatten]
 unfold crossL
 constructor
 ·rintro ⟨z, hz, hn⟩
  obtain ⟨x, hx, hz⟩ := List.mem_flatMap.mp hz
  obtain ⟨y, hy, rfl⟩ := List.mem_map.mp hz
  exact ⟨x, hx, y, hy, List.mem_append.mp (mem_sd.mp hn)⟩
 ·rintro ⟨x, hx, y, hy, hn⟩
  exact ⟨_, List.mem_flatMap.mpr ⟨x, hx, List.mem_map.mpr ⟨y, hy, rfl⟩⟩, mem_sd.mpr (List.mem_append.mpr hn)⟩
theorem fits_crossed {A B : Bk} {s0 s1 k0 k1 : Nat} {es : List (Int × AV)} (hA : Singles A 0 k0 s0) (hB : Singles B 6 k1 s1) (hK : KeysOK es ((List.range s0).map (fo 0 k0) ++ (List.range s1).map (fo 6 k1))) :
  Fits (crossL A.sets B.sets) ↔ s0 * s1 ≤ 30 ∧ (0 < s0 → 0 < s1 → es.length ≤ 12) := by
 unfold Fits
 have lA : A.sets.length = s0 := by rw [hA.sets, List.length_map, List.length_range]
 have lB : B.sets.length = s1 := by rw [hB.sets, List.length_map, List.length_range]
 rw [crossL_len, lA, lB]
 by_cases p0 : 0 < s0
 ·by_cases p1 : 0 < s1
  ·obtain ⟨a, ha⟩ := List.exists_mem_of_length_pos (l := A.sets) (by omega)
   obtain ⟨b, hb⟩ := List.exists_mem_of_length_pos (l := B.sets) (by omega)
   have e : (dedup (crossL A.sets B.sets).flatten).length = (dedup (A.sets ++ B.sets).flatten).length := dedup_len_congr fun n => by
    rw [mem_cross, List.flatten_append, List.mem_append, List.mem_flatten, List.mem_flatten]
    constructor
    ·rintro ⟨x, hx, y, hy, h | h⟩
     ·exact .inl ⟨x, hx, h⟩
     ·exact .inr ⟨y, hy, h⟩
    ·rintro (⟨x, hx, h⟩ | ⟨y, hy, h⟩)
     ·exact ⟨x, hx, b, hb, .inl h⟩
     ·exact ⟨a, ha, y, hy, .inr h⟩
   have e2 : (A.sets ++ B.sets).flatten = ((List.range s0).map (fo 0 k0) ++ (List.range s1).map (fo 6 k1)).map sg := by
    rw [List.flatten_append, hA.sets, hB.sets, flat_single, flat_single, List.map_append, List.map_map, List.map_map]; rfl
   rw [e, e2, hK.count]
   exact ⟨fun h => ⟨h.1, fun _ _ => h.2⟩, fun h => ⟨h.1, h.2 p0 p1⟩⟩
  ·have e0 : B.sets = [] := List.eq_nil_of_length_eq_zero (by omega)
   have e : (crossL A.sets B.sets).flatten = [] := List.eq_nil_iff_forall_not_mem.mpr fun n hn => by
    obtain ⟨x, hx, y, hy, _⟩ := mem_cross.mp hn
    rw [e0] at hy; exact nomatch hy
   rw [e]
   exact ⟨fun h => ⟨h.1, fun _ q => absurd q p1⟩, fun h => ⟨h.1, by simp [dedup]⟩⟩
 ·have e0 : A.sets = [] := List.eq_nil_of_length_eq_zero (by omega)
  have e : (crossL A.sets B.sets).flatten = [] := List.eq_nil_iff_forall_not_mem.mpr fun n hn => by
   obtain ⟨x, hx, _⟩ := mem_cross.mp hn
   rw [e0] at hx; exact nomatch hx
  rw [e]
  exact ⟨fun h => ⟨h.1, fun q => absurd q p0⟩, fun h => ⟨h.1, by simp [dedup]⟩⟩
theorem less_drop {rs : List (Int × Addr × List Str)} {N k : Nat} (h : rs.map (·.1) = (List.range N).map (fun i : Nat => (i : Int))) (hk : k < N) : (∃ r ∈ rs.drop k, r.1 = (k : Int)) ∧ (rs.drop k).filter (fun r => decide (r.1 ≠ (k : Int))) = rs.drop (k + 1) := by
 have hl : rs.length = N := by rw [← List.length_map (f := (·.1)), h]; simp
 have at_ : ∀ (j : Nat) (hj : j < rs.length), (rs[j]).1 = (j : Int) := fun j hj => by
  have e : (rs.map (·.1))[j]? = some (j : Int) := by
   rw [h, List.getElem?_map, List.getElem?_range (by omega)]; rfl
  rw [List.getElem?_map, List.getElem?_eq_getElem hj] at e
  simpa using e
 have hkl : k < rs.length := by omega
 rw [List.drop_eq_getElem_cons hkl]
 refine ⟨⟨_, .head _, at_ k hkl⟩, ?_⟩
 rw [List.filter_cons_of_neg (by rw [at_ k hkl]; simp)]
 refine List.filter_eq_self.mpr fun r hr => decide_eq_true fun q => ?_
 obtain ⟨j, hj, e⟩ := List.mem_iff_getElem.mp hr
 rw [List.getElem_drop] at e
 rw [List.length_drop] at hj
 have := at_ (k + 1 + j) (by omega)
 rw [e, q] at this
 omega
end Mine
end
-- text I12
section
namespace Mine
open PySem
set_option maxRecDepth 10000
theorem up {m : Mp} {i j : Nat} {v w : AV} (h : m j = some w) (ne : j ≠ i := by decide) : (m.upd i v) j = some w := (Mp.upd_ne _ _ ne).trans h
theorem dl {m : Mp} {i j : Nat} {w : AV} (h : m j = some w) (ne : j ≠ i := by decide) : (m.del i) j = some w := (Mp.del_ne _ ne).trans h
inductive F_l_bothK (vs : List AV) (H : AH) (Q : QV) : Prop
 | mk (sa ka : Addr) (s0 s1 k0 k1 : Nat) : vs = [.ref sa, .ref ka] → H sa = some (.list [.int s0, .int s1]) → H ka = some (.list [.int k0, .int k1]) → s0 ≤ 30 → s1 ≤ 30 → 0 < k0 → k0 ≤ 12 → 0 < k1 → k1 ≤ 12 → (∀ H', Q (.bool true) H') → F_l_bothK vs H Q
noncomputable def F_l_both : Fn := fun vs H Q _ => F_l_bothK vs H Q
noncomputable abbrev T_br : Ts := (tSeq (tAssign 8 (tList tNil)) (tSeq (tFor (tBcall bRange (tCons (tVal (.int 2)) tNil)) 9 (tSeq (tTryA 10 (tIf (tCmpB aEq (tLoc 9) (tVal (.int 0))) (tMcall (Str.ofString "joined") F_b_joined (tLoc 2) (tCons (tLoc 3) tNil)) (tMcall (Str.ofString "crossed") F_b_crossed (tLoc 2) (tCons (tLoc 3) tNil))) (tSeq (tExpr (tMeth "list" bAppend (tLoc 8) (tCons (tIf (tTruth (tIsiB (tLoc 10))) (tVal (.str (Str.ofString ""))) (tVal (.str (Str.ofString "odd")))) tNil))) tSkip) [(Str.ofString "TooMany")] 11 (tSeq (tExpr (tMeth "list" bAppend (tLoc 8) (tCons (tCall F_l_words (tCons (tLoc 11) tNil)) tNil))) tSkip)) tSkip)) (tSeq (tIte (tOrB (tCmpB aNe (tLoc 8) (tLoc 7)) (tOrB (tCmpB aNe (tBcall bLen (tCons (tMcall (Str.ofString "rows") F_b_rows (tLoc 2) tNil) tNil)) (tItem (tLoc 0) (tVal (.int 0)))) (tOrB (tCmpB aNe (tBcall bLen (tCons (tMcall (Str.ofString "rows") F_b_rows (tLoc 3) tNil) tNil)) (tItem (tLoc 0) (tVal (.int 1)))) (tBoolNil false)))) (tSeq (tRet (tVal (.bool false))) tSkip) tSkip) (tSeq (tFor (tBcall bRange (tCons (tItem (tLoc 0) (tVal (.int 1))) tNil)) 5 (tSeq (tExpr (tMcall (Str.ofString "take") F_b_take (tLoc 3) (tCons (tLoc 5) tNil))) tSkip)) (tSeq (tRet (tAndV (tCmp aEq (tBcall bLen (tCons (tMcall (Str.ofString "rows") F_b_rows (tMcall (Str.ofString "joined") F_b_joined (tLoc 2) (tCons (tLoc 3) tNil)) tNil) tNil)) (tItem (tLoc 0) (tVal (.int 0)))) (tCmp aEq (tMcall (Str.ofString "rows") F_b_rows (tMcall (Str.ofString "crossed") F_b_crossed (tLoc 2) (tCons (tLoc 3) tNil)) tNil) (tList tNil)))) tSkip)))))
noncomputable abbrev T_bt : Ts := (tSeq (tAssign 6 (tCmp aGt (tBcall bLen (tCons (tLoc 4) tNil)) (tVal (.int 12)))) (tSeq (tAssign 7 (tList (tCons (tIf (tOrB (tCmpB aGt (tBin aAdd (tItem (tLoc 0) (tVal (.int 0))) (tItem (tLoc 0) (tVal (.int 1)))) (tVal (.int 30))) (tOrB (tTruth (tLoc 6)) (tBoolNil false))) (tVal (.str (Str.ofString "many"))) (tVal (.str (Str.ofString "")))) (tCons (tVal (.str (Str.ofString ""))) tNil)))) (tSeq (tIte (tOrB (tCmpB aGt (tBin aMul (tItem (tLoc 0) (tVal (.int 0))) (tItem (tLoc 0) (tVal (.int 1)))) (tVal (.int 30))) (tOrB (tAndB (tCmpB aGt (tItem (tLoc 0) (tVal (.int 0))) (tVal (.int 0))) (tAndB (tCmpB aGt (tItem (tLoc 0) (tVal (.int 1))) (tVal (.int 0))) (tAndB (tTruth (tLoc 6)) (tBoolNil true)))) (tBoolNil false))) (tSeq (tSubSetL (tLoc 7) (tVal (.int 1)) (tVal (.str (Str.ofString "many")))) tSkip) tSkip) T_br)))
noncomputable def T_l_both : Ts := (tSeq (tAssign 2 (tMake F_b_init)) (tSeq (tAssign 3 (tMake F_b_init)) (tSeq (tAssign 4 tDict0) (tSeq (tFor (tBcall bRange (tCons (tItem (tLoc 0) (tVal (.int 0))) tNil)) 5 (tSeq (tExpr (tMcall (Str.ofString "put") F_b_put (tLoc 2) (tCons (tList (tCons (tItem (tVal (.str (Str.ofString "abcdefghijkl"))) (tBin aMod (tLoc 5) (tItem (tLoc 1) (tVal (.int 0))))) tNil)) tNil))) (tSeq (tSubSet (tLoc 4) (tBin aMod (tLoc 5) (tItem (tLoc 1) (tVal (.int 0)))) (tVal (.bool true))) tSkip))) (tSeq (tFor (tBcall bRange (tCons (tItem (tLoc 0) (tVal (.int 1))) tNil)) 5 (tSeq (tExpr (tMcall (Str.ofString "put") F_b_put (tLoc 3) (tCons (tList (tCons (tItem (tVal (.str (Str.ofString "ghijklmnopqr"))) (tBin aMod (tLoc 5) (tItem (tLoc 1) (tVal (.int 1))))) tNil)) tNil))) (tSeq (tSubSet (tLoc 4) (tBin aAdd (tVal (.int 6)) (tBin aMod (tLoc 5) (tItem (tLoc 1) (tVal (.int 1))))) (tVal (.bool true))) tSkip))) T_bt)))))
noncomputable def is_l_both : List Nat := [0, 1]
noncomputable def wS (b : Bool) : Str := if b then Str.ofString "many" else Str.ofString ""
theorem or_loc {c1 c2 : Bool} {i : Nat} {m : Mp} {H : AH} {K : Bool → AH → Prop} {X : QX} (hv : m i = some (.bool c2)) (h : K (c1 || c2) H) : if c1 = true then K true H else tOrB (tTruth (tLoc i)) (tBoolNil false) m H K X := by
 cases c1 with
 | true => exact h
 | false => exact ⟨_, hv, c2, rfl, by cases c2 <;> exact h⟩
theorem if_str {c : Bool} {a b : Str} {m : Mp} {H : AH} {Q : QV} {X : QX} (h : Q (.str (if c then a else b)) H) : if c = true then tVal (.str a) m H Q X else tVal (.str b) m H Q X := by
 cases c <;> exact h
theorem many_word : wordX xMany = wS true := by decide +kernel
theorem Two.keep {H H' H'' : AH} {A B : Bk} {dn x : Addr} {es : List (Int × AV)} {o : AO} (W : Two H H' A B dn es) (c : Turn A H' H'') (h : H' x = some o) (n1 : ∀ e, o ≠ .attrs e) (n2 : ∀ e, o ≠ .idict e) : H'' x = some o := c.at W.one h n1 n2
theorem both_rest {m : Mp} {H H' : AH} {Q : QV} {X : QX} {QN : Mp → AH → Prop} {A B : Bk} {dn sa da : Addr} {es : List (Int × AV)} {s0 s1 k0 k1 : Nat} {j0 j1 : Bool} (v0 : m 0 = some (.ref sa)) (v2 : m 2 = some (.ref A.a)) (v3 : m 3 = some (.ref B.a)) (v7 : m 7 = some (.ref da)) (W : Two H H' A B dn es)
  (hs : H sa = some (.list [.int s0, .int s1])) (hd : LS H' da [wS j0, wS j1]) (b0 : s0 ≤ 30) (b1 : s1 ≤ 30) (SA : Singles A 0 k0 s0) (SB : Singles B 6 k1 s1) (h0 : j0 = true ↔ ¬ Fits (A.sets ++ B.sets)) (h1 : j1 = true ↔ ¬ Fits (crossL A.sets B.sets)) (fin : ∀ H', Q (.bool true) H') : T_br m H' QN Q X := by
 refine seq_k ⟨Nat.zero_le _, fun fa nfa => ?_⟩
 have tf := Sub.add nfa (.list [])
 have W1 := W.more tf
 have hd1 : LS (H'.put fa (.list [])) da [wS j0, wS j1] := tf _ _ hd
 have hf1 : LS (H'.put fa (.list [])) fa [] := put_get _ _ _
 have nfd : da ≠ fa := ne_new nfa hd
 have FA : ∀ r ∈ A.rs, r.2.1 ≠ fa := fun r hr => ne_new nfa (W.one.rows r hr)
 have FB : ∀ r ∈ B.rs, r.2.1 ≠ fa := fun r hr => ne_new nfa (W.oth.rows r hr)
 have nfH : H fa = none := W.sub.new nfa
 generalize H'.put fa (.list []) = H1 at W1 hd1 hf1
 clear tf nfa W hd
 refine seq_k ⟨2, rfl, by decide, by decide, fun r0 n0 => ?_⟩
 have t0 := Sub.add n0 (.range 0 2)
 refine ⟨.range, (intsFrom 0 2).map AV.int, ⟨0, _, put_get _ _ _, rfl⟩, fun k m' H2 => (m' 0 = some (.ref sa) ∧ m' 2 = some (.ref A.a) ∧ m' 3 = some (.ref B.a) ∧ m' 7 = some (.ref da) ∧ m' 8 = some (.ref fa)) ∧ Two H H2 A B dn es ∧ LS H2 da [wS j0, wS j1] ∧ LS H2 fa ([wS j0, wS j1].take k) ∧ H2 r0 = some (.range 0 2),
  ⟨⟨up v0, up v2, up v3, up v7, Mp.upd_self _ _ _⟩, W1.more t0, t0 _ _ hd1, t0 _ _ hf1, put_get _ _ _⟩, ?_⟩
 rintro k m' H2 ⟨⟨u0, u2, u3, u7, u8⟩, W2, hd2, hf2, hr2⟩ hk
 refine ⟨⟨0, _, hr2, rfl⟩, fun y hy => ?_, fun e => ?_⟩
 ·obtain ⟨hk2, rfl⟩ := getElem?_ints hy
  have hk2 : k < 2 := hk2
  have tk : ([wS j0, wS j1].take k).length ≤ 2 := by rw [List.length_take]; exact Nat.min_le_right _ _
  have app : ∀ {m3 : Mp} {H3 : AH} {w : Str}, m3 0 = some (.ref sa) → m3 2 = some (.ref A.a) → m3 3 = some (.ref B.a) → m3 7 = some (.ref da) → m3 8 = some (.ref fa) → Sub H2 H3 → [wS j0, wS j1][k]? = some w → ((m3 0 = some (.ref sa) ∧ m3 2 = some (.ref A.a) ∧ m3 3 = some (.ref B.a) ∧ m3 7 = some (.ref da) ∧ m3 8 = some (.ref fa)) ∧ Two H (H3.put fa (.list (([wS j0, wS j1].take k).map AV.str ++ [.str w]))) A B dn es ∧
    LS (H3.put fa (.list (([wS j0, wS j1].take k).map AV.str ++ [.str w]))) da [wS j0, wS j1] ∧ LS (H3.put fa (.list (([wS j0, wS j1].take k).map AV.str ++ [.str w]))) fa ([wS j0, wS j1].take (k + 1)) ∧ (H3.put fa (.list (([wS j0, wS j1].take k).map AV.str ++ [.str w]))) r0 = some (.range 0 2)) := by
   intro m3 H3 w a0 a2 a3 a7 a8 s3 hw
   have hf3 : LS H3 fa _ := s3 _ _ hf2
   unfold LS at hf3
   have W3 := W2.more s3
   have bk : ∀ {D : Bk}, BookAt H3 D → (∀ r ∈ D.rs, r.2.1 ≠ fa) → BookAt (H3.put fa (.list (([wS j0, wS j1].take k).map AV.str ++ [.str w]))) D := fun {D} hD FD => hD.keep fun x o hx e => (AH.put_ne _ _ fun (q : x = fa) => by
    rcases hx with rfl | rfl | rfl | ⟨r, hr, rfl⟩
    ·rw [← q, hD.inst] at hf3; cases hf3
    ·rw [← q, hD.attrs] at hf3; cases hf3
    ·rw [← q, hD.kept] at hf3; cases hf3
    ·exact FD r hr q).trans e
   refine ⟨⟨a0, a2, a3, a7, a8⟩, { W3 with sub := fun x o e => (AH.put_ne _ _ (ne_new nfH e)).trans (W3.sub x o e), one := bk W3.one FA, oth := bk W3.oth FB, dict := (AH.put_ne _ _ fun q => ?_).trans W3.dict }, (AH.put_ne _ _ nfd).trans (s3 _ _ hd2), ?_, (AH.put_ne _ _ fun q => ?_).trans (s3 _ _ hr2)⟩
   ·have := W3.dict; rw [q, hf3] at this; cases this
   ·show (AH.put _ _ _) fa = _
    rw [put_get, List.take_add_one, hw, List.map_append]; rfl
   ·have := s3 _ _ hr2; rw [q, hf3] at this; cases this
  have yes : ∀ {C : Bk} {H3 : AH} {m3 : Mp}, m3 0 = some (.ref sa) → m3 2 = some (.ref A.a) → m3 3 = some (.ref B.a) → m3 7 = some (.ref da) → m3 8 = some (.ref fa) → Sub H2 H3 → BookAt H3 C → [wS j0, wS j1][k]? = some (Str.ofString "") →
    tSeq (tExpr (tMeth "list" bAppend (tLoc 8) (tCons (tIf (tTruth (tIsiB (tLoc 10))) (tVal (.str (Str.ofString ""))) (tVal (.str (Str.ofString "odd")))) tNil))) tSkip (m3.upd 10 (.ref C.a)) H3 (fun m' H2 => (m' 0 = some (.ref sa) ∧ m' 2 = some (.ref A.a) ∧ m' 3 = some (.ref B.a) ∧ m' 7 = some (.ref da) ∧ m' 8 = some (.ref fa)) ∧ Two H H2 A B dn es ∧ LS H2 da [wS j0, wS j1] ∧ LS H2 fa ([wS j0, wS j1].take (k + 1)) ∧ H2 r0 = some (.range 0 2)) Q (fun _ _ => False) := by
   intro C H3 m3 a0 a2 a3 a7 a8 s3 hC hw
   exact ⟨_, up a8, .list (s3 _ _ hf2), _, Mp.upd_self _ _ _, C.a, C.d, _, rfl, hC.inst, hC.attrs, true, rfl, fa, _, _, rfl, s3 _ _ hf2, by rw [List.length_map, sizeLine_is]; omega, fun _ h => (nomatch h), app (up a0) (up a2) (up a3) (up a7) (up a8) s3 hw⟩
  have no : ∀ {H3 : AH} {m3 : Mp}, m3 0 = some (.ref sa) → m3 2 = some (.ref A.a) → m3 3 = some (.ref B.a) → m3 7 = some (.ref da) → m3 8 = some (.ref fa) → Sub H2 H3 → [wS j0, wS j1][k]? = some (wS true) →
    HandA [(Str.ofString "TooMany")] 11 (tSeq (tExpr (tMeth "list" bAppend (tLoc 8) (tCons (tCall F_l_words (tCons (tLoc 11) tNil)) tNil))) tSkip) m3 (fun m' H2 => (m' 0 = some (.ref sa) ∧ m' 2 = some (.ref A.a) ∧ m' 3 = some (.ref B.a) ∧ m' 7 = some (.ref da) ∧ m' 8 = some (.ref fa)) ∧ Two H H2 A B dn es ∧ LS H2 da [wS j0, wS j1] ∧ LS H2 fa ([wS j0, wS j1].take (k + 1)) ∧ H2 r0 = some (.range 0 2)) xMany H3 := by
   intro H3 m3 a0 a2 a3 a7 a8 s3 hw
   refine ⟨.head _, fun e he => ?_⟩
   have se := s3.trans (Sub.add he (.exc xMany))
   have hw' : [wS j0, wS j1][k]? = some (wordX xMany) := by rw [many_word]; exact hw
   exact ⟨_, up a8, .list (se _ _ hf2), _, Mp.upd_self _ _ _, e, xMany, rfl, put_get _ _ _, by decide +kernel, fa, _, _, rfl, se _ _ hf2, by rw [List.length_map, sizeLine_is]; omega, fun _ h => (nomatch h), app (dl (up a0)) (dl (up a2)) (dl (up a3)) (dl (up a7)) (dl (up a8)) se hw'⟩
  refine seq_k ?_
  by_cases hk0 : k = 0
  ·subst hk0
   refine ⟨_, Mp.upd_self _ _ _, val_k (eq_int (ite_t ?_))⟩
   refine ⟨_, up u2, A.a, A.d, _, rfl, W2.one.inst, W2.one.attrs, by kernel_rfl, _, up u3, A, B, rfl, W2.one, W2.oth, fun fit C H3 s3 hC _ _ => ?_, fun nf H3 s3 => ?_⟩
   ·have : j0 = false := by
     cases j0 with
     | false => rfl
     | true => exact absurd fit (h0.mp rfl)
    exact yes (up u0) (up u2) (up u3) (up u7) (up u8) s3 hC (by rw [this]; rfl)
   ·exact no (up u0) (up u2) (up u3) (up u7) (up u8) s3 (by rw [h0.mpr nf]; rfl)
  ·have hk1 : k = 1 := by omega
   subst hk1
   refine ⟨_, Mp.upd_self _ _ _, val_k (eq_int (ite_f ?_))⟩
   refine ⟨_, up u2, A.a, A.d, _, rfl, W2.one.inst, W2.one.attrs, by kernel_rfl, _, up u3, A, B, rfl, W2.one, W2.oth, fun fit C H3 s3 hC _ _ => ?_, fun nf H3 s3 => ?_⟩
   ·have : j1 = false := by
     cases j1 with
     | false => rfl
     | true => exact absurd fit (h1.mp rfl)
    exact yes (up u0) (up u2) (up u3) (up u7) (up u8) s3 hC (by rw [this]; rfl)
   ·exact no (up u0) (up u2) (up u3) (up u7) (up u8) s3 (by rw [h1.mpr nf]; rfl)
 ·rw [ints_len] at e
  have e : k = 2 := e
  subst e
  have hf2 : LS H2 fa [wS j0, wS j1] := hf2
  have hs2 := W2.sub _ _ hs
  refine seq_k ⟨_, u8, _, u7, ne_LS hf2 hd2 ?_⟩
  rw [decide_eq_true rfl]
  refine ite_f ⟨_, u2, A.a, A.d, _, rfl, W2.one.inst, W2.one.attrs, by kernel_rfl, A, rfl, W2.one, fun ts r H3 s3 nr hl hr ht => ⟨_, rfl, _, hr, _, u0, _, s3 _ _ hs2, .int s0, rfl, ne_int ?_⟩⟩
  rw [decide_eq_true (by rw [List.length_map, hl, SA.len])]
  have W3 := W2.more s3
  refine ite_f ⟨_, u3, B.a, B.d, _, rfl, W3.oth.inst, W3.oth.attrs, by kernel_rfl, B, rfl, W3.oth, fun ts r H4 s4 nr hl hr ht => ⟨_, rfl, _, hr, _, u0, _, s4 _ _ (s3 _ _ hs2), .int s1, rfl, ne_int ?_⟩⟩
  rw [decide_eq_true (by rw [List.length_map, hl, SB.len])]
  have W4 := W3.more s4
  clear W2 W3 s3 s4 hs2 hf2 hd2 hr2 hl hr ht nr
  refine ite_f (nil_k (ite_f (skip_k (seq_k ⟨_, u0, _, W4.sub _ _ hs, .int s1, rfl, s1, rfl, by omega, by omega, fun r1 n1 => ?_⟩))))
  have t1 := Sub.add n1 (.range 0 (s1 : Int))
  refine ⟨.range, (intsFrom 0 (s1 : Int)).map AV.int, ⟨0, _, put_get _ _ _, rfl⟩, fun k m' H2 => (m' 0 = some (.ref sa) ∧ m' 2 = some (.ref A.a) ∧ m' 3 = some (.ref B.a)) ∧ H2 r1 = some (.range 0 (s1 : Int)) ∧ ∃ D : Bk, D.a = B.a ∧ D.d = B.d ∧ D.k = B.k ∧ D.rs = B.rs.drop k ∧ Two H H2 A D dn es,
   ⟨⟨u0, u2, u3⟩, put_get _ _ _, B, rfl, rfl, rfl, rfl, W4.more t1⟩, ?_⟩
  rintro k m2 H5 ⟨⟨w0, w2, w3⟩, hr5, D, d1, d2, d3, d4, W5⟩ hk5
  refine ⟨⟨0, _, hr5, rfl⟩, fun y hy => ?_, fun e => ?_⟩
  ·obtain ⟨hk6, rfl⟩ := getElem?_ints hy
   have hk6 : k < s1 := by simpa using hk6
   obtain ⟨⟨r, hr, er⟩, hf⟩ := less_drop SB.num hk6
   rw [← d1] at w3
   refine ⟨_, up w3, D.a, D.d, _, rfl, W5.oth.inst, W5.oth.attrs, by kernel_rfl, _, Mp.upd_self _ _ _, D, k, rfl, W5.oth, ⟨r, by rw [d4]; exact hr, er⟩, fun H6 c6 hB6 => ⟨fun _ h => (nomatch h), ?_⟩⟩
   have W6 := (W5.swap.turnA c6 hB6 rfl rfl).swap
   refine ⟨⟨up w0, up w2, by rw [← d1]; exact up w3⟩, W5.swap.keep c6 hr5 (fun e q => by cases q) (fun e q => by cases q), D.less k, d1, d2, d3, ?_, W6⟩
   show D.rs.filter _ = _
   rw [d4]; exact hf
  ·rw [ints_len] at e
   have e : k = s1 := by simpa using e
   subst e
   rw [List.drop_eq_nil_of_le (by rw [SB.len]; exact Nat.le_refl _)] at d4
   have ds : D.sets = [] := by unfold Bk.sets; rw [d4]; rfl
   rw [← d1] at w3
   have aS : A.sets.length = s0 := by rw [Bk.sets_len, SA.len]
   have fj : Fits (A.sets ++ D.sets) := by
    rw [ds, List.append_nil]
    exact ⟨by omega, W5.one.few12⟩
   have fc : crossL A.sets D.sets = [] := by
    rw [ds]
    exact List.eq_nil_of_length_eq_zero (by rw [crossL_len]; simp)
   refine ⟨_, w2, A.a, A.d, _, rfl, W5.one.inst, W5.one.attrs, by kernel_rfl, _, w3, A, D, rfl, W5.one, W5.oth, fun _ C H6 s6 hC eC _ => ?_, fun nf => absurd fj nf⟩
   refine ⟨C.a, C.d, _, rfl, hC.inst, hC.attrs, by kernel_rfl, C, rfl, hC, fun ts r H7 s7 nr hl hr ht => ⟨_, rfl, _, hr, _, w0, _, s7 _ _ (s6 _ _ (W5.sub _ _ hs)), .int s0, rfl, eq_int ?_⟩⟩
   have W7 := W5.more (s6.trans s7)
   rw [decide_eq_true (by rw [List.length_map, hl, ← Bk.sets_len, eC, ds, List.append_nil, aS])]
   refine ⟨true, rfl, ite_t ?_⟩
   refine ⟨_, w2, A.a, A.d, _, rfl, W7.one.inst, W7.one.attrs, by kernel_rfl, _, w3, A, D, rfl, W7.one, W7.oth, fun _ C2 H8 s8 hC2 eC2 _ => ?_, fun nf => absurd ⟨by rw [fc]; exact Nat.zero_le _, by rw [fc]; simp [dedup]⟩ nf⟩
   refine ⟨C2.a, C2.d, _, rfl, hC2.inst, hC2.attrs, by kernel_rfl, C2, rfl, hC2, fun ts2 r2 H9 s9 nr2 hl2 hr2 ht2 => ⟨Nat.zero_le _, fun z hz => ?_⟩⟩
   have e0 : ts2 = [] := List.eq_nil_of_length_eq_zero (by rw [hl2, ← Bk.sets_len, eC2, fc]; rfl)
   rw [e0] at hr2
   exact eqv_nil (Sub.add hz _ _ _ hr2) (put_get _ _ _) (fin _)
theorem both_tail {m : Mp} {H H' : AH} {Q : QV} {X : QX} {QN : Mp → AH → Prop} {A B : Bk} {dn sa : Addr} {es : List (Int × AV)} {s0 s1 k0 k1 : Nat} (v0 : m 0 = some (.ref sa)) (v2 : m 2 = some (.ref A.a)) (v3 : m 3 = some (.ref B.a)) (v4 : m 4 = some (.ref dn)) (W : Two H H' A B dn es)
  (hs : H sa = some (.list [.int s0, .int s1])) (b0 : s0 ≤ 30) (b1 : s1 ≤ 30) (SA : Singles A 0 k0 s0) (SB : Singles B 6 k1 s1) (K : KeysOK es ((List.range s0).map (fo 0 k0) ++ (List.range s1).map (fo 6 k1))) (fin : ∀ H', Q (.bool true) H') : T_bt m H' QN Q X := by
 have hs' := W.sub _ _ hs
 refine seq_k ⟨_, v4, _, rfl, _, W.dict, val_k (gt_k ?_)⟩
 obtain ⟨wd, hwd⟩ : ∃ wd, wd = decide ((12 : Int) < (es.length : Int)) := ⟨_, rfl⟩
 rw [← hwd]
 obtain ⟨j0, hj0⟩ : ∃ j0, j0 = (decide ((30 : Int) < (s0 : Int) + (s1 : Int)) || wd) := ⟨_, rfl⟩
 obtain ⟨j1, hj1⟩ : ∃ j1, j1 = (decide ((30 : Int) < (s0 : Int) * (s1 : Int)) || (decide ((0 : Int) < (s0 : Int)) && (decide ((0 : Int) < (s1 : Int)) && wd))) := ⟨_, rfl⟩
 refine seq_k ⟨_, up v0, _, hs', .int s0, rfl, _, up v0, _, hs', .int s1, rfl, add_k (val_k (gt_k ?_))⟩
 refine or_loc (c2 := wd) (Mp.upd_self _ _ _) (if_str ?_)
 rw [← hj0]
 refine ⟨by simp, fun da nda => ?_⟩
 have td := Sub.add nda (.list [.str (wS j0), .str (Str.ofString "")])
 have W1 := W.more td
 have hda : (H'.put da (.list [.str (wS j0), .str (Str.ofString "")])) da = some (.list [.str (wS j0), .str (Str.ofString "")]) := put_get _ _ _
 have hs1 := td _ _ hs'
 have ndA : ∀ r ∈ A.rs, r.2.1 ≠ da := fun r hr => ne_new nda (W.one.rows r hr)
 have ndB : ∀ r ∈ B.rs, r.2.1 ≠ da := fun r hr => ne_new nda (W.oth.rows r hr)
 have ndH : H da = none := W.sub.new nda
 show tSeq _ T_br (((m.upd 6 (.bool wd)).upd 7 (.ref da))) (H'.put da (.list [.str (wS j0), .str (Str.ofString "")])) QN Q X
 generalize H'.put da (.list [.str (wS j0), .str (Str.ofString "")]) = H1 at W1 hda hs1
 have h0 : j0 = true ↔ ¬ Fits (A.sets ++ B.sets) := by
  rw [fits_joined SA SB K, hj0, hwd, Bool.or_eq_true, decide_eq_true_iff, decide_eq_true_iff]
  omega
 have h1 : j1 = true ↔ ¬ Fits (crossL A.sets B.sets) := by
  rw [fits_crossed SA SB K, hj1, hwd, Bool.or_eq_true, Bool.and_eq_true, Bool.and_eq_true, decide_eq_true_iff, decide_eq_true_iff, decide_eq_true_iff, decide_eq_true_iff]
  have em : ((s0 : Int) * (s1 : Int)) = ((s0 * s1 : Nat) : Int) := rfl
  rw [em]
  generalize s0 * s1 = p
  constructor
  ·rintro (h | ⟨h1, h2, h3⟩) ⟨q1, q2⟩
   ·omega
   ·have := q2 (by omega) (by omega); omega
  ·intro h
   by_cases g : 30 < p
   ·exact .inl (by omega)
   ·refine .inr ?_
    by_cases g1 : 0 < s0
    ·by_cases g2 : 0 < s1
     ·by_cases g3 : es.length ≤ 12
      ·exact absurd ⟨by omega, fun _ _ => g3⟩ h
      ·exact ⟨by omega, by omega, by omega⟩
     ·exact absurd ⟨by omega, fun _ q => absurd q g2⟩ h
    ·exact absurd ⟨by omega, fun q => absurd q g1⟩ h
 refine seq_k ?_
 have rest : ∀ H2, Two H H2 A B dn es → LS H2 da [wS j0, wS j1] → T_br ((m.upd 6 (.bool wd)).upd 7 (.ref da)) H2 QN Q X := fun H2 W2 hd2 => both_rest (up (up v0)) (up (up v2)) (up (up v3)) (Mp.upd_self _ _ _) W2 hs hd2 b0 b1 SA SB h0 h1 fin
 have yes : j1 = true → tSeq (tSubSetL (tLoc 7) (tVal (.int 1)) (tVal (.str (Str.ofString "many")))) tSkip ((m.upd 6 (.bool wd)).upd 7 (.ref da)) H1 (fun m1 H2 => T_br m1 H2 QN Q X) Q X := by
  intro q
  refine ⟨_, Mp.upd_self _ _ _, da, _, 1, rfl, rfl, hda, by decide, by simp, rest _ ?_ ?_⟩
  ·have bk : ∀ {D : Bk} {o : AO}, BookAt H1 D → (∀ r ∈ D.rs, r.2.1 ≠ da) → BookAt (H1.put da o) D := fun {D o} hD FD => hD.keep fun x o hx e => (AH.put_ne _ _ fun (q : x = da) => by
    rcases hx with rfl | rfl | rfl | ⟨r, hr, rfl⟩
    ·rw [← q, hD.inst] at hda; cases hda
    ·rw [← q, hD.attrs] at hda; cases hda
    ·rw [← q, hD.kept] at hda; cases hda
    ·exact FD r hr q).trans e
   exact { W1 with sub := fun x o e => (AH.put_ne _ _ (ne_new ndH e)).trans (W1.sub x o e), one := bk W1.one ndA, oth := bk W1.oth ndB, dict := (AH.put_ne _ _ fun q => by have := W1.dict; rw [q, hda] at this; cases this).trans W1.dict }
  ·show (AH.put _ _ _) da = _
   rw [put_get, q]; rfl
 have no : j1 = false → tSkip ((m.upd 6 (.bool wd)).upd 7 (.ref da)) H1 (fun m1 H2 => T_br m1 H2 QN Q X) Q X := by
  intro q
  refine rest H1 W1 ?_
  show H1 da = _
  rw [hda, q]; rfl
 refine ⟨_, up (up v0), _, hs1, .int s0, rfl, _, up (up v0), _, hs1, .int s1, rfl, by omega, val_k (gt_k ?_)⟩
 cases g : decide ((30 : Int) < (s0 : Int) * (s1 : Int)) with
 | true => exact ite_t (ite_t (yes (by rw [hj1, g]; rfl)))
 | false =>
  refine ite_f ⟨_, up (up v0), _, hs1, .int s0, rfl, val_k (gt_k ?_)⟩
  cases g1 : decide ((0 : Int) < (s0 : Int)) with
  | false => exact ite_f (ite_f (nil_k (ite_f (no (by rw [hj1, g, g1]; rfl)))))
  | true =>
   refine ite_t ⟨_, up (up v0), _, hs1, .int s1, rfl, val_k (gt_k ?_)⟩
   cases g2 : decide ((0 : Int) < (s1 : Int)) with
   | false => exact ite_f (ite_f (nil_k (ite_f (no (by rw [hj1, g, g1, g2]; rfl)))))
   | true =>
    refine ite_t ⟨_, up (Mp.upd_self _ _ _), wd, rfl, ?_⟩
    cases wd with
    | false => exact ite_f (ite_f (nil_k (ite_f (no (by rw [hj1, g, g1, g2]; rfl)))))
    | true => exact ite_t (nil_k (ite_t (ite_t (yes (by rw [hj1, g, g1, g2]; rfl)))))
theorem ok_l_both (vs : List AV) (H : AH) (Q : QV) (X : QX) (h : F_l_both vs H Q X) : mkFn is_l_both T_l_both vs H Q X := by
 obtain ⟨sa, ka, s0, s1, k0, k1, rfl, hs, hk, b0, b1, p0, q0, p1, q1, fin⟩ := h
 refine ⟨rfl, ?_⟩
 unfold T_l_both
 refine seq_k (make_k fun xa ad ak H1 t1 nx1 nd1 nk1 hA1 => ?_)
 refine seq_k (make_k fun xb bd bk H2 t2 nx2 nd2 nk2 hB2 => ?_)
 refine seq_k fun dn ndn => ?_
 have t3 := Sub.add ndn (.idict [])
 have W : Two H (H2.put dn (.idict [])) ⟨xa, ad, ak, [], 0⟩ ⟨xb, bd, bk, [], 0⟩ dn [] :=
  ⟨(t1.trans t2).trans t3, (hA1.sub t2).sub t3, hB2.sub t3, put_get _ _ _, ne_new nd2 hA1.attrs, ne_new nk2 hA1.kept, Ne.symm (ne_new ndn (hA1.sub t2).kept), Ne.symm (ne_new ndn hB2.kept), ⟨nd1, nk1⟩, ⟨t1.new nd2, t1.new nk2⟩, (t1.trans t2).new ndn⟩
 generalize H2.put dn (.idict []) = H3 at W
 clear t3 t2 t1 hA1 hB2 nx1 nx2 nd1 nd2 nk1 nk2 ndn
 refine seq_k ⟨_, rfl, _, W.sub _ _ hs, .int s0, rfl, s0, rfl, by omega, by omega, fun r0 n0 => ?_⟩
 have t0 := Sub.add n0 (.range 0 (s0 : Int))
 refine ⟨.range, (intsFrom 0 (s0 : Int)).map AV.int, ⟨0, _, put_get _ _ _, rfl⟩, fun k m' H' => (m' 0 = some (.ref sa) ∧ m' 1 = some (.ref ka) ∧ m' 2 = some (.ref xa) ∧ m' 3 = some (.ref xb) ∧ m' 4 = some (.ref dn)) ∧ H' r0 = some (.range 0 (s0 : Int)) ∧ ∃ (A : Bk) (es : List (Int × AV)), A.a = xa ∧ A.d = ad ∧ A.k = ak ∧ Two H H' A ⟨xb, bd, bk, [], 0⟩ dn es ∧ Singles A 0 k0 k ∧ KeysOK es ((List.range k).map (fo 0 k0)),
  ⟨⟨rfl, rfl, rfl, rfl, rfl⟩, put_get _ _ _, ⟨xa, ad, ak, [], 0⟩, [], rfl, rfl, rfl, W.more t0, Singles.none .., ⟨.nil, fun i => ⟨fun h => (nomatch h), fun ⟨n, hn, _⟩ => (nomatch hn)⟩, Nat.zero_le _⟩⟩, ?_⟩
 clear W t0 n0 H3
 rintro k m' H' ⟨⟨v0, v1, v2, v3, v4⟩, hr, A, es, rfl, rfl, rfl, W, SA, K⟩ hkl
 refine ⟨⟨0, _, hr, rfl⟩, fun y hy => ?_, fun e => ?_⟩
 ·obtain ⟨hk2, rfl⟩ := getElem?_ints hy
  have hk2 : k < s0 := by simpa using hk2
  have ek : ((k : Int) % (k0 : Int)) = ((fo 0 k0 k : Nat) : Int) := by unfold fo; rw [Nat.zero_add]; rfl
  refine seq_k ⟨_, up v2, A.a, A.d, _, rfl, W.one.inst, W.one.attrs, by kernel_rfl, _, Mp.upd_self _ _ _, _, up v1, _, W.sub _ _ hk, .int k0, rfl, by omega, 97 + fo 0 k0 k, ?_, by decide +kernel, by simp, fun r nr => ?_⟩
  ·rw [ek]; exact lo_at (by have := fo_lt (o := 0) (j := k) p0 q0; omega)
  ·have t := Sub.add nr (.list [.str (sg (fo 0 k0 k))])
   have W' := W.more t
   refine put_one W'.one SA (by omega) p0 q0 (by decide) (put_get _ _ _) fun l H4 c4 nl hB4 hS4 => ⟨fun _ h => (nomatch h), ?_⟩
   have W4 := W'.turnA c4 hB4 rfl rfl
   refine ⟨_, up v4, _, Mp.upd_self _ _ _, _, up v1, _, W4.sub _ _ hk, .int k0, rfl, by omega, ?_⟩
   rw [ek]
   have kl := K.len
   rw [List.length_map, List.length_range] at kl
   refine .idict dn es _ rfl rfl W4.dict (by rw [sizeLine_is]; omega) ⟨⟨up v0, up v1, up v2, up v3, up v4⟩, (AH.put_ne _ _ fun q => ?_).trans (W'.keep c4 (t _ _ hr) (fun e q => by cases q) (fun e q => by cases q)), A.more l _, _, rfl, rfl, rfl, W4.store _, hS4, ?_⟩
   ·have := W.dict; rw [← q, hr] at this; cases this
   ·rw [List.range_succ, List.map_append]; exact K.step _ _
 ·rw [ints_len] at e
  have e : k = s0 := by simpa using e
  subst e
  refine seq_k ⟨_, v0, _, W.sub _ _ hs, .int s1, rfl, s1, rfl, by omega, by omega, fun r1 n1 => ?_⟩
  have t1 := Sub.add n1 (.range 0 (s1 : Int))
  refine ⟨.range, (intsFrom 0 (s1 : Int)).map AV.int, ⟨0, _, put_get _ _ _, rfl⟩, fun j m' H' => (m' 0 = some (.ref sa) ∧ m' 1 = some (.ref ka) ∧ m' 2 = some (.ref A.a) ∧ m' 3 = some (.ref xb) ∧ m' 4 = some (.ref dn)) ∧ H' r1 = some (.range 0 (s1 : Int)) ∧ ∃ (B : Bk) (es : List (Int × AV)), B.a = xb ∧ B.d = bd ∧ B.k = bk ∧ Two H H' A B dn es ∧ Singles B 6 k1 j ∧ KeysOK es ((List.range k).map (fo 0 k0) ++ (List.range j).map (fo 6 k1)),
   ⟨⟨v0, v1, v2, v3, v4⟩, put_get _ _ _, ⟨xb, bd, bk, [], 0⟩, es, rfl, rfl, rfl, W.more t1, Singles.none .., by simpa using K⟩, ?_⟩
  clear W t1 n1 K hr es v0 v1 v2 v3 v4
  rintro j m' H' ⟨⟨v0, v1, v2, v3, v4⟩, hr, B, es, rfl, rfl, rfl, W, SB, K⟩ hkl
  refine ⟨⟨0, _, hr, rfl⟩, fun y hy => ?_, fun e => ?_⟩
  ·obtain ⟨hk2, rfl⟩ := getElem?_ints hy
   have hk2 : j < s1 := by simpa using hk2
   have ek : ((j : Int) % (k1 : Int)) = ((j % k1 : Nat) : Int) := rfl
   have ek6 : ((6 : Int) + (j : Int) % (k1 : Int)) = ((fo 6 k1 j : Nat) : Int) := rfl
   refine seq_k ⟨_, up v3, B.a, B.d, _, rfl, W.oth.inst, W.oth.attrs, by kernel_rfl, _, Mp.upd_self _ _ _, _, up v1, _, W.sub _ _ hk, .int k1, rfl, by omega, 97 + (6 + j % k1), ?_, by decide +kernel, by simp, fun r nr => ?_⟩
   ·rw [ek]; exact hi_at (Nat.lt_of_lt_of_le (Nat.mod_lt _ p1) q1)
   ·have t := Sub.add nr (.list [.str (sg (fo 6 k1 j))])
    have W' := (W.more t).swap
    refine put_one W'.one SB (by omega) p1 q1 (by decide) (put_get _ _ _) fun l H4 c4 nl hB4 hS4 => ⟨fun _ h => (nomatch h), ?_⟩
    have W4 := (W'.turnA c4 hB4 rfl rfl).swap
    refine ⟨_, up v4, _, Mp.upd_self _ _ _, _, up v1, _, W4.sub _ _ hk, .int k1, rfl, by omega, add_k ?_⟩
    rw [ek6]
    have kl := K.len
    rw [List.length_append, List.length_map, List.length_range, List.length_map, List.length_range] at kl
    refine .idict dn es _ rfl rfl W4.dict (by rw [sizeLine_is]; omega) ⟨⟨up v0, up v1, up v2, up v3, up v4⟩, (AH.put_ne _ _ fun q => ?_).trans (W'.keep c4 (t _ _ hr) (fun e q => by cases q) (fun e q => by cases q)), B.more l _, _, rfl, rfl, rfl, W4.store _, hS4, ?_⟩
    ·have := W.dict; rw [← q, hr] at this; cases this
    ·rw [List.range_succ, List.map_append, ← List.append_assoc]; exact K.step _ _
  ·rw [ints_len] at e
   have e : j = s1 := by simpa using e
   subst e
   exact both_tail v0 v2 v3 v4 W hs b0 b1 SA SB K fin
end Mine
end
-- text L12
section
namespace Mine
open PySem
set_option maxRecDepth 10000
inductive F_lawK (vs : List AV) (H : AH) (Q : QV) : Prop
 | mk (l) (ns) : (vs = [.ref l]) → (H l = some (.script ns)) → (∀ H', Q (.bool true) H') → F_lawK vs H Q
noncomputable def F_law : Fn := fun vs H Q _ => F_lawK vs H Q
noncomputable abbrev T_w3 : Ts := (tSeq (tIte (tOrB (tCmpB aNe (tMcall (Str.ofString "rows") F_b_rows (tLoc 3) tNil) (tLoc 6)) (tOrB (tCmpB aNe (tCall F_l_call (tCons (tLoc 3) (tCons (tLoc 8) (tCons (tLoc 9) tNil)))) (tLoc 10)) (tBoolNil false))) (tSeq (tRet (tVal (.bool false))) tSkip) tSkip) (tSeq (tIte (tCmpB aEq (tLoc 10) (tVal (.str (Str.ofString "many")))) (tSeq (tExpr (tMcall (Str.ofString "take") F_b_take (tLoc 3) (tCons (tLoc 5) tNil))) (tSeq (tAssign 7 (tComp (tLoc 1) 15 (tCmpB aIn (tLoc 15) (tComp (tMcall (Str.ofString "rows") F_b_rows (tLoc 3) tNil) 16 (tBoolNil true) (tItem (tItem (tLoc 16) (tVal (.int 1))) (tVal (.int 0))))) (tLoc 15))) (tSeq (tRet (tCmp aEq (tCall F_l_call (tCons (tLoc 3) (tCons (tLoc 8) (tCons (tLoc 9) tNil)))) (tCall F_l_due (tCons (tLoc 8) (tCons (tLoc 9) (tCons (tLoc 7) (tCons (tBin aSub (tLoc 2) (tVal (.int 1))) tNil))))))) tSkip))) tSkip) (tSeq (tRet (tOrV (tCmp aEq (tLoc 2) (tVal (.int 30))) (tCmp aEq (tMcall (Str.ofString "put") F_b_put (tLoc 3) (tCons (tList (tCons (tItem (tLoc 1) (tVal (.int 0))) tNil)) tNil)) (tBin aAdd (tLoc 2) (tLoc 5))))) tSkip)))
noncomputable abbrev T_w2 : Ts := (tSeq (tIte (tAndB (tCmpB aInT (tLoc 8) (tTuple (tCons (tVal (.int 4)) (tCons (tVal (.int 5)) tNil)))) (tAndB (tCmpB aEq (tLoc 10) (tVal (.str (Str.ofString "")))) (tBoolNil true))) (tSeq (tAssign 12 (tList (tCons (tBin aAdd (tVal (.int 1)) (tBin aMod (tBin aFdiv (tCall F_l_draw (tCons (tLoc 0) (tCons (tVal (.int 4)) tNil))) (tVal (.int 31))) (tVal (.int 12)))) (tCons (tBin aAdd (tVal (.int 1)) (tBin aMod (tBin aFdiv (tCall F_l_draw (tCons (tLoc 0) (tCons (tVal (.int 5)) tNil))) (tVal (.int 31))) (tVal (.int 12)))) tNil)))) (tSeq (tRet (tCall F_l_both (tCons (tList (tCons (tBin aMod (tCall F_l_draw (tCons (tLoc 0) (tCons (tVal (.int 4)) tNil))) (tVal (.int 31))) (tCons (tBin aMod (tCall F_l_draw (tCons (tLoc 0) (tCons (tVal (.int 5)) tNil))) (tVal (.int 31))) tNil))) (tCons (tLoc 12) tNil)))) tSkip)) tSkip) (tSeq (tIte (tOrB (tCmpB aNe (tLoc 11) (tLoc 10)) (tOrB (tCmpB aNe (tVal (.int 30)) (tVal (.int 30))) (tOrB (tCmpB aNe (tVal (.int 12)) (tVal (.int 12))) (tBoolNil false)))) (tSeq (tRet (tVal (.bool false))) tSkip) tSkip) (tSeq (tIte (tCmpB aEq (tLoc 10) (tVal (.str (Str.ofString "")))) (tSeq (tRet (tVal (.bool true))) tSkip) tSkip) T_w3)))
noncomputable abbrev T_w9 : Ts := (tSeq (tAssign 11 (tCall F_l_call (tCons (tLoc 3) (tCons (tLoc 8) (tCons (tLoc 9) tNil))))) T_w2)
noncomputable abbrev T_w0 : Ts := (tSeq (tAssign 10 (tCall F_l_due (tCons (tLoc 8) (tCons (tLoc 9) (tCons (tLoc 7) (tCons (tLoc 2) tNil)))))) T_w9)
noncomputable abbrev T_w1 : Ts := (tSeq (tAssign 8 (tBin aMod (tCall F_l_draw (tCons (tLoc 0) (tCons (tVal (.int 2)) tNil))) (tVal (.int 8)))) (tSeq (tAssign 9 (tCall F_l_list (tCons (tCall F_l_draw (tCons (tLoc 0) (tCons (tVal (.int 3)) tNil))) (tCons (tLoc 1) tNil)))) (tSeq (tIte (tCmpB aGt (tLoc 8) (tVal (.int 5))) (tSeq (tAssign 9 (tItem (tList (tCons (tItem (tLoc 1) (tVal (.int 0))) (tCons (tCall F_l_odd (tCons (tCall F_l_draw (tCons (tLoc 0) (tCons (tVal (.int 3)) tNil))) tNil)) (tCons (tVal (.str (Str.ofString "zzzzzzzz"))) tNil)))) (tBin aMod (tBin aFdiv (tCall F_l_draw (tCons (tLoc 0) (tCons (tVal (.int 2)) tNil))) (tVal (.int 8))) (tVal (.int 3))))) tSkip) tSkip) T_w0)))
noncomputable def T_law : Ts := (tSeq (tAssign 1 (tBcall bListC (tCons (tSlice (tVal (.str (Str.ofString "abcdefghijkl"))) (tVal .none) (tBin aAdd (tVal (.int 1)) (tBin aMod (tCall F_l_draw (tCons (tLoc 0) (tCons (tVal (.int 0)) tNil))) (tVal (.int 12))))) tNil))) (tSeq (tAssign 2 (tItem (tList (tCons (tBin aMod (tCall F_l_draw (tCons (tLoc 0) (tCons (tVal (.int 1)) tNil))) (tVal (.int 4))) (tCons (tBin aAdd (tVal (.int 27)) (tBin aMod (tBin aFdiv (tCall F_l_draw (tCons (tLoc 0) (tCons (tVal (.int 1)) tNil))) (tVal (.int 2))) (tVal (.int 4)))) tNil))) (tBin aMod (tCall F_l_draw (tCons (tLoc 0) (tCons (tVal (.int 1)) tNil))) (tVal (.int 2))))) (tSeq (tAssign 3 (tMake F_b_init)) (tSeq (tFor (tBcall bRange (tCons (tLoc 2) tNil)) 4 (tSeq (tExpr (tMcall (Str.ofString "put") F_b_put (tLoc 3) (tCons (tList (tCons (tItem (tLoc 1) (tBin aMod (tLoc 4) (tBcall bLen (tCons (tLoc 1) tNil)))) tNil)) tNil))) tSkip)) (tSeq (tAssign 5 (tBin aMul (tBin aMod (tCall F_l_draw (tCons (tLoc 0) (tCons (tVal (.int 6)) tNil))) (tVal (.int 4))) (tBcall bIntB (tCons (tCmp aGt (tLoc 2) (tVal (.int 3))) tNil)))) (tSeq (tFor (tBcall bRange (tCons (tLoc 5) tNil)) 4 (tSeq (tExpr (tMcall (Str.ofString "take") F_b_take (tLoc 3) (tCons (tLoc 4) tNil))) tSkip)) (tSeq (tAssign 2 (tBin aSub (tLoc 2) (tLoc 5))) (tSeq (tAssign 6 (tMcall (Str.ofString "rows") F_b_rows (tLoc 3) tNil)) (tSeq (tAssign 7 (tComp (tLoc 1) 13 (tCmpB aIn (tLoc 13) (tComp (tLoc 6) 14 (tBoolNil true) (tItem (tItem (tLoc 14) (tVal (.int 1))) (tVal (.int 0))))) (tLoc 13))) T_w1)))))))))
noncomputable def is_law : List Nat := [0]
noncomputable def nmsL (n : Nat) : List Str := (List.range n).map sg
theorem nmsL_nodup (n : Nat) : (nmsL n).Nodup := nodup_map sg n fun i j _ _ e => sg_inj e
theorem nmsL_len (n : Nat) : (nmsL n).length = n := by unfold nmsL; rw [List.length_map, List.length_range]
theorem nmsL_nm {n : Nat} (h : n ≤ 12) : ∀ s ∈ nmsL n, Nm s := fun s hs => by
 obtain ⟨i, hi, rfl⟩ := List.mem_map.mp hs
 have := List.mem_range.mp hi
 exact sg_nm (by omega)
theorem take_lo : ∀ n < 13, (Str.ofString "abcdefghijkl").cps.toList.take n = (List.range n).map (97 + ·) := by decide +kernel
theorem signs_lo {n : Nat} (h : n ≤ 12) : signs ⟨(cut (Str.ofString "abcdefghijkl").cps.toList none (some (n : Int))).toArray⟩ = (nmsL n).map AV.str := by
 rw [cut_upto _ (Int.natCast_nonneg _), Int.toNat_natCast, take_lo n (by omega)]
 unfold signs nmsL
 rw [List.toList_toArray, List.map_map, List.map_map]; rfl
theorem nms_at {n : Nat} {j : Nat} (h : j < n) : idx ((nmsL n).map AV.str) (j : Int) = some (.str (sg j)) := by
 rw [idx_nat _ (Int.natCast_nonneg _), Int.toNat_natCast, List.getElem?_map]
 unfold nmsL
 rw [List.getElem?_map, List.getElem?_range h]; rfl
theorem NAll.get {H : AH} {ts : List (Addr × Addr)} {L : List (Int × List Str)} (hN : NAll H ts L) : ∀ {k : Nat} {t : Addr × Addr}, ts[k]? = some t → ∃ p, L[k]? = some p ∧ H t.1 = some (.tuple [.int p.1, .ref t.2]) ∧ LS H t.2 p.2 := by
 induction hN with
 | nil => intro k t e; simp at e
 | @cons t l n xs ts L h1 h2 _ ih =>
  intro k t' e
  cases k with
  | zero => simp at e; subst e; exact ⟨(n, xs), rfl, h1, h2⟩
  | succ k => simpa using ih (by simpa using e)
theorem NAll.length {H : AH} {ts : List (Addr × Addr)} {L : List (Int × List Str)} (hN : NAll H ts L) : ts.length = L.length := by
 induction hN with
 | nil => rfl
 | cons _ _ _ ih => simp [ih]
theorem comp_first {m : Mp} {i : Nat} {H : AH} {Q : QV} {r : Addr} {L : List (Int × List Str)} {ss : List Str} (hR : NR H r L) (hL : L.map (·.2) = ss.map fun s => [s]) (fin : ∀ r', H r' = none → Q (.ref r') (H.put r' (.list (ss.map AV.str)))) :
  CompJ m i (tBoolNil true) (tItem (tItem (tLoc i) (tVal (.int 1))) (tVal (.int 0))) (.ref r) H Q := by
 obtain ⟨ts, hr, hN⟩ := hR
 have hl : ts.length = ss.length := by rw [hN.length, ← List.length_map (f := (·.2)), hL, List.length_map]
 refine compJ_list (kd := .list) (xs := ts.map fun t : Addr × Addr => AV.ref t.1) (ys := ss.map AV.str) hr (by rw [List.length_map, List.length_map, hl]) (fun k x y hx hy Q' hQ => ?_) fin
 rw [List.getElem?_map] at hx hy
 cases e : ts[k]? with
 | none => rw [e] at hx; cases hx
 | some t =>
  cases e2 : ss[k]? with
  | none => rw [e2] at hy; cases hy
  | some s =>
   rw [e] at hx; rw [e2] at hy
   cases hx; cases hy
   obtain ⟨p, hp, h1, h2⟩ := hN.get e
   have : p.2 = [s] := by
    have q : (L.map (·.2))[k]? = (ss.map fun s => [s])[k]? := by rw [hL]
    rw [List.getElem?_map, List.getElem?_map, hp, e2] at q
    simpa using q
   rw [this] at h2
   exact ⟨_, Mp.upd_self _ _ _, _, h1, .ref t.2, rfl, _, h2, .str s, rfl, hQ⟩
noncomputable def inA (F : List Str) : AV → Bool
 | .str s => decide (s ∈ F)
 | _ => false
noncomputable def thereL (n : Nat) (F : List Str) : List Str := (nmsL n).filter fun s => decide (s ∈ F)
structure LawS (H : AH) (a1 : Addr) (B : Bk) (n many gone : Nat) : Prop where
 nam : LS H a1 (nmsL n)
 bk : BookAt H B
 cm : B.c = (many : Int) + (gone : Int)
 fl : ∃ full : List (Int × Addr × List Str), B.rs = full.drop gone ∧ full.map (·.1) = (List.range (many + gone)).map (fun i : Nat => (i : Int))
 one : ∃ ss : List Str, B.sets = ss.map (fun s => [s]) ∧ ∀ s ∈ ss, s ∈ nmsL n
 n0 : 0 < n
 n12 : n ≤ 12
 m30 : many ≤ 30
theorem LawS.sub {H K : AH} {a1 : Addr} {B : Bk} {n many gone : Nat} (h : LawS H a1 B n many gone) (s : Sub H K) : LawS K a1 B n many gone := { h with nam := s _ _ h.nam, bk := h.bk.sub s }
theorem LawS.len {H : AH} {a1 : Addr} {B : Bk} {n many gone : Nat} (h : LawS H a1 B n many gone) : B.rs.length = many := by
 obtain ⟨full, e1, e2⟩ := h.fl
 have : full.length = many + gone := by rw [← List.length_map (f := (·.1)), e2]; simp
 rw [e1, List.length_drop]; omega
theorem LawS.flat {H : AH} {a1 : Addr} {B : Bk} {n many gone : Nat} (h : LawS H a1 B n many gone) : ∀ s ∈ B.sets.flatten, s ∈ nmsL n := by
 obtain ⟨ss, e1, e2⟩ := h.one
 rw [e1]
 have : (ss.map fun s => [s]).flatten = ss := by rw [flat_single (fun s => s)]; exact List.map_id _
 rw [this]
 exact e2
theorem LawS.num {H : AH} {a1 : Addr} {B : Bk} {n many gone : Nat} (h : LawS H a1 B n many gone) : B.num.map (·.2) = B.sets.flatten.map fun s => [s] := by
 obtain ⟨ss, e1, _⟩ := h.one
 have e : B.num.map (·.2) = B.sets := by
  unfold Bk.num Bk.sets
  rw [List.map_map]; rfl
 have : (ss.map fun s => [s]).flatten = ss := by rw [flat_single (fun s => s)]; exact List.map_id _
 rw [e, e1, this]
theorem LawS.less {H K : AH} {a1 : Addr} {B : Bk} {n many gone : Nat} (h : LawS H a1 B n many gone) (hm : 0 < many) (c : Turn B H K) (hB : BookAt K (B.less gone)) : LawS K a1 (B.less gone) n (many - 1) (gone + 1) := by
 obtain ⟨full, e1, e2⟩ := h.fl
 obtain ⟨_, hf⟩ := less_drop e2 (show gone < many + gone by omega)
 obtain ⟨ss, o1, o2⟩ := h.one
 have hrs : (B.less gone).rs = full.drop (gone + 1) := by
  show B.rs.filter _ = _
  rw [e1]; exact hf
 have hs : (B.less gone).sets = (ss.drop 1).map (fun s => [s]) := by
  unfold Bk.sets at o1 ⊢
  rw [hrs, ← List.drop_drop, ← e1, List.map_drop, List.map_drop, o1]
 refine ⟨c.lst h.bk h.nam, hB, ?_, ⟨full, hrs, ?_⟩, ⟨ss.drop 1, hs, fun s hs => o2 s (List.mem_of_mem_drop hs)⟩, h.n0, h.n12, by have := h.m30; omega⟩
 ·show B.c = _
  rw [h.cm]; omega
 ·rw [e2]
  congr 2
  omega
theorem LawS.first {H : AH} {a1 : Addr} {B : Bk} {n many gone : Nat} (h : LawS H a1 B n many gone) (hm : 0 < many) : ∃ r ∈ B.rs, r.1 = (gone : Int) := by
 obtain ⟨full, e1, e2⟩ := h.fl
 rw [e1]
 exact (less_drop e2 (show gone < many + gone by omega)).1
theorem LawS.count {H : AH} {a1 : Addr} {B : Bk} {n many gone : Nat} (h : LawS H a1 B n many gone) {xs : List Str} (nd : xs.Nodup) : (dedup (B.sets.flatten ++ xs)).length = (thereL n B.sets.flatten).length + (freshL xs (thereL n B.sets.flatten)).length := by
 have mt : ∀ s, s ∈ thereL n B.sets.flatten ↔ s ∈ B.sets.flatten := fun s => by
  unfold thereL
  rw [List.mem_filter, decide_eq_true_iff]
  exact ⟨fun q => q.2, fun q => ⟨h.flat s q, q⟩⟩
 have mf : ∀ s, s ∈ freshL xs (thereL n B.sets.flatten) ↔ s ∈ xs ∧ s ∉ B.sets.flatten := fun s => by
  unfold freshL
  rw [List.mem_filter]
  simp [mt]
 have nK : (thereL n B.sets.flatten ++ freshL xs (thereL n B.sets.flatten)).Nodup := List.nodup_append.mpr ⟨(nmsL_nodup n).sublist List.filter_sublist, nd.sublist List.filter_sublist, fun a ha b hb q => by
  subst q
  exact ((mf a).mp hb).2 ((mt a).mp ha)⟩
 have mK : ∀ s, s ∈ thereL n B.sets.flatten ++ freshL xs (thereL n B.sets.flatten) ↔ s ∈ B.sets.flatten ++ xs := fun s => by
  rw [List.mem_append, List.mem_append, mt, mf]
  constructor
  ·rintro (q | ⟨q, _⟩)
   ·exact .inl q
   ·exact .inr q
  ·rintro (q | q)
   ·exact .inl q
   ·by_cases w : s ∈ B.sets.flatten
    ·exact .inl w
    ·exact .inr ⟨q, w⟩
 rw [← List.length_append]
 exact Nat.le_antisymm (nodup_len (dedup_is_nodup _) fun s hs => (mK s).mpr (mem_dedup.mp hs)) (nodup_len nK fun s hs => mem_dedup.mpr ((mK s).mp hs))
theorem thereL_len (n : Nat) (F : List Str) : (thereL n F).length ≤ n := Nat.le_trans (List.length_filter_le _ _) (Nat.le_of_eq (nmsL_len n))
inductive PutW (H : AH) (B : Bk) (xs : List Str) (many : Nat) (there : List Str) : Prop
 | twice : ¬ xs.Nodup → PutW H B xs many there
 | many : xs.Nodup → ((many : Int) = 30 ∨ 12 < there.length + (freshL xs there).length) → (B.rs.length = 30 ∨ 12 < (dedup (B.sets.flatten ++ xs)).length) → PutW H B xs many there
 | ok : xs.Nodup → ¬ ((many : Int) = 30 ∨ 12 < there.length + (freshL xs there).length) → B.rs.length < 30 → (dedup (B.sets.flatten ++ xs)).length ≤ 12 → PutW H B xs many there
theorem LawS.putW {H : AH} {a1 : Addr} {B : Bk} {n many gone : Nat} (h : LawS H a1 B n many gone) (xs : List Str) : PutW H B xs many (thereL n B.sets.flatten) := by
 by_cases nd : xs.Nodup
 ·have hl := h.len
  have hc := h.count nd
  have h30 := h.m30
  by_cases g : (many : Int) = 30 ∨ 12 < (thereL n B.sets.flatten).length + (freshL xs (thereL n B.sets.flatten)).length
  ·exact .many nd g (by omega)
  ·exact .ok nd g (by omega) (by omega)
 ·exact .twice nd
theorem call_ok {H : AH} {B : Bk} {way : Int} {r : Addr} {xs : List Str} {Q : QV} {X : QX} (hw : way < 3) (hB : BookAt H B) (hr : LS H r xs) (hx : ∀ n ∈ xs, Nm n) (nd : xs.Nodup) (h30 : B.rs.length < 30) (h12 : (dedup (B.sets.flatten ++ xs)).length ≤ 12) (fin : ∀ H', Turn B H H' → Q (.str (Str.ofString "")) H') : F_l_call [.ref B.a, .int way, .ref r] H Q X :=
 .put B way r xs (dedup (B.sets.flatten ++ xs)) rfl hw hB hr nd hx h30 h12 (fun x hx n hn => mem_dedup.mpr (List.mem_append.mpr (.inl (List.mem_flatten.mpr ⟨x, hx, hn⟩)))) (fun n hn => mem_dedup.mpr (List.mem_append.mpr (.inr hn))) fin
theorem there_test {tin : Tm} {m : Mp} {j : Nat} {H : AH} {Q : QV} {a1 : Addr} {n : Nat} {F : List Str} (hn : LS H a1 (nmsL n)) (inner : ∀ (y : AV) (H' : AH) (Q' : QV), Sub H H' → (∀ r' H3, Sub H' H3 → LS H3 r' F → Q' (.ref r') H3) → tin (m.upd j y) H' Q' noX)
  (fin : ∀ r H', Sub H H' → H r = none → LS H' r (thereL n F) → Q (.ref r) H') : CompJ m j (tCmpB aIn (tLoc j) tin) (tLoc j) (.ref a1) H Q := by
 refine comp_fil (f := inA F) hn (fun y hy H' s' Q' h' => ?_) fun r H' s' nr hr => fin r H' s' nr ?_
 ·obtain ⟨s, _, rfl⟩ := List.mem_map.mp hy
  exact ⟨_, Mp.upd_self _ _ _, inner _ H' _ s' fun r' H3 s3 h3 => in_strs h3 (h' H3 s3)⟩
 ·rw [fil_map (inA F) (fun s => decide (s ∈ F)) (fun s => rfl)] at hr
  exact hr
structure Vars (m : Mp) (l a1 rb at_ : Addr) (B : Bk) (many gone : Nat) (way : Int) (v : AV) (w : Str) : Prop where
 v0 : m 0 = some (.ref l)
 v1 : m 1 = some (.ref a1)
 v2 : m 2 = some (.int many)
 v3 : m 3 = some (.ref B.a)
 v5 : m 5 = some (.int gone)
 v6 : m 6 = some (.ref rb)
 v7 : m 7 = some (.ref at_)
 v8 : m 8 = some (.int way)
 v9 : m 9 = some v
 v10 : m 10 = some (.str w)
theorem ne_word {w : Str} {H : AH} {Q : Bool → AH → Prop} (h : Q false H) : aNe (.str w) (.str w) H Q := ne_str (by rw [decide_eq_true rfl]; exact h)
theorem end3 {m : Mp} {H : AH} {QN : Mp → AH → Prop} {Q : QV} {X : QX} {l a1 rb at_ : Addr} {B : Bk} {n many gone : Nat} {way : Int} {v : AV} {w : Str} (V : Vars m l a1 rb at_ B many gone way v w) (L : LawS H a1 B n many gone) (hb : NR H rb B.num)
  (again : ∀ H' (Q' : QV), Sub H H' → (∀ H'', Sub H' H'' → Q' (.str w) H'') → F_l_call [.ref B.a, .int way, v] H' Q' X)
  (hw : (w ≠ Str.ofString "many") ∨ (w = Str.ofString "many" ∧ way ≤ 2 ∧ 0 < many ∧ ∃ r xs, v = .ref r ∧ LS H r xs ∧ (∀ n ∈ xs, Nm n) ∧ xs.length ≤ 5 ∧ xs.Nodup)) (fin : ∀ H', Q (.bool true) H') : T_w3 m H QN Q X := by
 refine seq_k ⟨_, V.v3, B.a, B.d, _, rfl, L.bk.inst, L.bk.attrs, by kernel_rfl, B, rfl, L.bk, fun ts r H2 s2 nr hl hr ht => ⟨_, V.v6, ne_NR_eq (rows_nr hl hr ht) (hb.sub s2) (ite_f ⟨_, V.v3, _, V.v8, _, V.v9, again H2 _ s2 fun H3 s3 => ⟨_, V.v10, ne_word ?_⟩⟩)⟩⟩
 have s23 := s2.trans s3
 have L3 := L.sub s23
 refine ite_f (nil_k (ite_f (skip_k (seq_k ⟨_, V.v10, val_k (eq_str ?_)⟩))))
 rcases hw with hw | ⟨rfl, hw, hm, r1, xs, rfl, hr1, hx, hx5, nd⟩
 ·rw [decide_eq_false hw]
  refine ite_f (skip_k ?_)
  refine ⟨_, V.v2, val_k (eq_int ?_)⟩
  by_cases g : (many : Int) = 30
  ·rw [decide_eq_true g]
   exact ⟨true, rfl, ite_t (fin _)⟩
  ·rw [decide_eq_false g]
   refine ⟨false, rfl, ite_f ⟨_, V.v3, B.a, B.d, _, rfl, L3.bk.inst, L3.bk.attrs, by kernel_rfl, _, V.v1, _, L3.nam, .str (sg 0), nms_at L.n0, by simp, fun r4 n4 => ?_⟩⟩
   have t4 := Sub.add n4 (.list [.str (sg 0)])
   have h0 : sg 0 ∈ nmsL n := List.mem_map.mpr ⟨0, List.mem_range.mpr L.n0, rfl⟩
   have hl := L.len
   have h30 := L.m30
   refine .ok B r4 [sg 0] (nmsL n) rfl (L3.bk.sub t4) (put_get _ _ _) (by simp) (fun s hs => ?_) (by omega) (by rw [nmsL_len]; exact L.n12) (fun x hx s hs => L.flat s (List.mem_flatten.mpr ⟨x, hx, hs⟩)) (fun s hs => ?_) fun l5 H5 c5 nl5 hB5 => ⟨_, V.v2, _, V.v5, add_k (eq_int ?_)⟩
   ·rw [show s = sg 0 by simpa using hs]; exact sg_nm (by decide)
   ·rw [show s = sg 0 by simpa using hs]; exact h0
   ·rw [decide_eq_true L.cm]
    exact fin _
 ·rw [decide_eq_true rfl]
  refine ite_t (seq_k ⟨_, V.v3, B.a, B.d, _, rfl, L3.bk.inst, L3.bk.attrs, by kernel_rfl, _, V.v5, B, gone, rfl, L3.bk, L.first hm, fun H4 c4 hB4 => ⟨fun _ h => (nomatch h), ?_⟩⟩)
  have L4 := L3.less hm c4 hB4
  have hr4 : LS H4 r1 xs := c4.lst L3.bk (s23 _ _ hr1)
  refine seq_k ⟨_, V.v1, there_test (F := (B.less gone).sets.flatten) L4.nam (fun y H' Q' s' h' => ?_) fun r5 H5 s5 n5 h5 => ?_⟩
  ·have L' := L4.sub s'
   refine ⟨_, up V.v3, B.a, B.d, _, rfl, L'.bk.inst, L'.bk.attrs, by kernel_rfl, B.less gone, rfl, L'.bk, fun ts r H6 s6 nr hl hr ht => comp_first (rows_nr hl hr ht) L4.num fun r' hr' => h' _ _ (s6.trans (Sub.add hr' _)) (put_get _ _ _)⟩
  ·have L5 := L4.sub s5
   have hr5 : LS H5 r1 xs := s5 _ _ hr4
   have v3 : ∀ {w : AV}, (m.upd 7 w) 3 = some (.ref (B.less gone).a) := up V.v3
   have e1 : (many : Int) - 1 = ((many - 1 : Nat) : Int) := by omega
   have tl := thereL_len n (B.less gone).sets.flatten
   have n12 := L.n12
   refine ⟨_, v3, _, up V.v8, _, up V.v9, ?_⟩
   cases L5.putW xs with
   | twice q => exact absurd nd q
   | many _ g1 g2 =>
    refine .bad (B.less gone) way (.ref r1) xMany rfl L5.bk (.inl ⟨by omega, .many r1 xs rfl hr5 hx (by omega) nd g2⟩) fun H6 s6 => ⟨_, up V.v8, _, up V.v9, _, Mp.upd_self _ _ _, _, up V.v2, ?_⟩
    refine .put way r1 xs r5 _ _ rfl hw (s6 _ _ hr5) hx hx5 (s6 _ _ h5) (by omega) (fun q => absurd nd q) (fun _ _ H7 s7 => eq_str ?_) fun _ q => absurd (by rw [e1]; exact g1) q
    rw [decide_eq_true (by decide +kernel)]
    exact fin _
   | ok _ g1 g2 g3 =>
    refine call_ok (X := X) (by omega) L5.bk hr5 hx nd g2 g3 fun H6 c6 => ⟨_, up V.v8, _, up V.v9, _, Mp.upd_self _ _ _, _, up V.v2, ?_⟩
    refine .put way r1 xs r5 _ _ rfl hw (c6.lst L5.bk hr5) hx hx5 (c6.lst L5.bk h5) (by omega) (fun q => absurd nd q) (fun _ q => absurd (by rw [← e1]; exact q) g1) fun _ _ H7 s7 => eq_str ?_
    rw [decide_eq_true rfl]
    exact fin _
theorem any45 (way : Int) : (([PyData.int 4, PyData.int 5].any fun y => PyData.eqv y (.int way))) = decide (way = 4 ∨ way = 5) := by
 simp only [List.any_cons, List.any_nil, PyData.eqv, Bool.or_false]
 by_cases h4 : way = 4
 ·subst h4; decide
 ·by_cases h5 : way = 5
  ·subst h5; decide
  ·have a : ((4 : Int) == way) = false := by simpa using fun q : (4 : Int) = way => h4 q.symm
   have b : ((5 : Int) == way) = false := by simpa using fun q : (5 : Int) = way => h5 q.symm
   rw [a, b, decide_eq_false (by omega)]; rfl
theorem ne_k {i : Int} {m : Mp} {H : AH} {K : Bool → AH → Prop} {X : QX} {u : Tb} (h : u m H K X) : tOrB (tCmpB aNe (tVal (.int i)) (tVal (.int i))) u m H K X := by
 have : aNe (.int i) (.int i) H (fun c H1 => if c = true then K true H1 else u m H1 K X) := ne_int (by rw [decide_eq_true rfl]; exact ite_f h)
 exact this
theorem end2 {m : Mp} {H : AH} {QN : Mp → AH → Prop} {Q : QV} {X : QX} {l a1 rb at_ : Addr} {B : Bk} {many gone : Nat} {way : Int} {v : AV} {w : Str} (V : Vars m l a1 rb at_ B many gone way v w) (v11 : m 11 = some (.str w)) (hw : ¬ ((way = 4 ∨ way = 5) ∧ w = Str.ofString ""))
  (rest : w ≠ Str.ofString "" → ∀ H', Sub H H' → T_w3 m H' QN Q X) (fin : ∀ H', Q (.bool true) H') : T_w2 m H QN Q X := by
 refine seq_k ⟨_, V.v8, by simp, fun r1 n1 => ?_⟩
 have t1 := Sub.add n1 (.tuple [.int 4, .int 5])
 refine ⟨.int way, _, [.int 4, .int 5], .int way, put_get _ _ _, .cons (.int 4) (.cons (.int 5) .nil), by simp [PyData.depth], ?_⟩
 rw [any45]
 have next : tSkip m (H.put r1 (.tuple [.int 4, .int 5])) (fun m1 H1 => (tSeq (tIte (tOrB (tCmpB aNe (tLoc 11) (tLoc 10)) (tOrB (tCmpB aNe (tVal (.int 30)) (tVal (.int 30))) (tOrB (tCmpB aNe (tVal (.int 12)) (tVal (.int 12))) (tBoolNil false)))) (tSeq (tRet (tVal (.bool false))) tSkip) tSkip) (tSeq (tIte (tCmpB aEq (tLoc 10) (tVal (.str (Str.ofString "")))) (tSeq (tRet (tVal (.bool true))) tSkip) tSkip) T_w3)) m1 H1 QN Q X) Q X := by
  refine skip_k (seq_k ⟨_, v11, _, V.v10, ne_word (ite_f (ne_k (ne_k (nil_k (ite_f (skip_k (seq_k ⟨_, V.v10, val_k (eq_str ?_)⟩)))))))⟩)
  by_cases g : w = Str.ofString ""
  ·rw [decide_eq_true g]
   exact ite_t (fin _)
  ·rw [decide_eq_false g]
   exact ite_f (skip_k (rest g _ t1))
 by_cases g : way = 4 ∨ way = 5
 ·rw [decide_eq_true g]
  refine ite_t ⟨_, V.v10, val_k (eq_str ?_)⟩
  rw [decide_eq_false fun q => hw ⟨g, q⟩]
  exact ite_f (ite_f next)
 ·rw [decide_eq_false g]
  exact ite_f (ite_f next)
theorem nat_mod (i : Int) (c : Nat) (h : 0 < c) : ∃ k : Nat, i % (c : Int) = (k : Int) ∧ k < c := by
 have h0 := Int.emod_nonneg i (show (c : Int) ≠ 0 by omega)
 have h1 := Int.emod_lt_of_pos i (show (0 : Int) < c by omega)
 exact ⟨(i % (c : Int)).toNat, by omega, by omega⟩
theorem end2b {m : Mp} {H : AH} {QN : Mp → AH → Prop} {Q : QV} {X : QX} {l a1 rb at_ : Addr} {B : Bk} {many gone : Nat} {way : Int} {v : AV} {ns : List Int} (V : Vars m l a1 rb at_ B many gone way v (Str.ofString "")) (hl : H l = some (.script ns)) (hw : way = 4 ∨ way = 5) (fin : ∀ H', Q (.bool true) H') : T_w2 m H QN Q X := by
 refine seq_k ⟨_, V.v8, by simp, fun r1 n1 => ?_⟩
 have t1 := Sub.add n1 (.tuple [.int 4, .int 5])
 refine ⟨.int way, _, [.int 4, .int 5], .int way, put_get _ _ _, .cons (.int 4) (.cons (.int 5) .nil), by simp [PyData.depth], ?_⟩
 rw [any45, decide_eq_true hw]
 refine ite_t ⟨_, V.v10, val_k (eq_str ?_)⟩
 rw [decide_eq_true rfl]
 refine ite_t (nil_k (ite_t ?_))
 have hl1 := t1 _ _ hl
 generalize H.put r1 (.tuple [.int 4, .int 5]) = H1 at hl1
 obtain ⟨k0, e0, l0⟩ := nat_mod (drw ns 4 / 31) 12 (by decide)
 obtain ⟨k1, e1, l1⟩ := nat_mod (drw ns 5 / 31) 12 (by decide)
 obtain ⟨s0, f0, g0⟩ := nat_mod (drw ns 4) 31 (by decide)
 obtain ⟨s1, f1, g1⟩ := nat_mod (drw ns 5) 31 (by decide)
 have a0 : (1 : Int) + drw ns 4 / 31 % 12 = ((1 + k0 : Nat) : Int) := by have : drw ns 4 / 31 % 12 = (k0 : Int) := e0; omega
 have a1' : (1 : Int) + drw ns 5 / 31 % 12 = ((1 + k1 : Nat) : Int) := by have : drw ns 5 / 31 % 12 = (k1 : Int) := e1; omega
 have c0 : drw ns 4 % 31 = (s0 : Int) := f0
 have c1 : drw ns 5 % 31 = (s1 : Int) := f1
 refine seq_k ⟨_, V.v0, l, ns, 4, rfl, hl1, by decide, by decide, by decide, by decide, _, V.v0, l, ns, 5, rfl, hl1, by decide, by decide, by decide, by decide, by simp, fun r2 n2 => ?_⟩
 rw [a0, a1']
 have t2 := Sub.add n2 (.list [.int ((1 + k0 : Nat) : Int), .int ((1 + k1 : Nat) : Int)])
 refine ⟨_, up V.v0, l, ns, 4, rfl, t2 _ _ hl1, by decide, by decide, _, up V.v0, l, ns, 5, rfl, t2 _ _ hl1, by decide, by decide, by simp, fun r3 n3 => ⟨_, Mp.upd_self _ _ _, ?_⟩⟩
 rw [c0, c1]
 have t3 := Sub.add n3 (.list [.int (s0 : Int), .int (s1 : Int)])
 exact ⟨r3, r2, s0, s1, 1 + k0, 1 + k1, rfl, put_get _ _ _, t3 _ _ (put_get _ _ _), by omega, by omega, by omega, by omega, by omega, by omega, fun H' => fin H'⟩
theorem aIs_sub {T : String} {v : AV} {H K : AH} {c : Bool} (h : aIs T v H = some c) (s : Sub H K) : aIs T v K = some c := by
 cases v with
 | ref a =>
  unfold aIs at h ⊢
  dsimp only at h ⊢
  cases e : H a with
  | none => rw [e] at h; cases h
  | some o => rw [e] at h; rw [s _ _ e]; exact h
 | _ => exact h
theorem Spoilt.sub {H K : AH} {a : Addr} {xs ys : List Str} {v : AV} (h : Spoilt H a xs v ys) (s : Sub H K) : Spoilt K a xs v ys := ⟨s _ _ h.at_, h.nm, h.no.sub s⟩
theorem PutX.sub {H K : AH} {B : Bk} {v : AV} {x : Str} (h : PutX H B v x) (s : Sub H K) : PutX K B v x := by
 cases h with
 | none hv => exact .none (aIs_sub hv s)
 | name r xs w ys e hs => exact .name r xs w ys e (hs.sub s)
 | twice r row e hr h1 h2 h3 => exact .twice r row e (s _ _ hr) h1 h2 h3
 | many r row e hr h1 h2 h3 h4 => exact .many r row e (s _ _ hr) h1 h2 h3 h4
theorem ThX.sub {H K : AH} {v : AV} {x : Str} (h : ThX H v x) (s : Sub H K) : ThX K v x := by
 cases h with
 | none hv => exact .none (aIs_sub hv s)
 | name r xs w ys e hs => exact .name r xs w ys e (hs.sub s)
noncomputable def BadC (H : AH) (B : Bk) (way : Int) (v : AV) (x : Str) : Prop := (way < 3 ∧ PutX H B v x) ∨ (3 ≤ way ∧ way ≤ 5 ∧ ThX H v x) ∨ (5 < way ∧ NotNm H v ∧ x = xName)
theorem BadC.sub {H K : AH} {B : Bk} {way : Int} {v : AV} {x : Str} (h : BadC H B way v x) (s : Sub H K) : BadC K B way v x := by
 rcases h with ⟨a, b⟩ | ⟨a, b, c⟩ | ⟨a, b, c⟩
 ·exact .inl ⟨a, b.sub s⟩
 ·exact .inr (.inl ⟨a, b, c.sub s⟩)
 ·exact .inr (.inr ⟨a, b.sub s, c⟩)
structure Vars0 (m : Mp) (l a1 rb at_ : Addr) (B : Bk) (many gone : Nat) (way : Int) (v : AV) : Prop where
 v0 : m 0 = some (.ref l)
 v1 : m 1 = some (.ref a1)
 v2 : m 2 = some (.int many)
 v3 : m 3 = some (.ref B.a)
 v5 : m 5 = some (.int gone)
 v6 : m 6 = some (.ref rb)
 v7 : m 7 = some (.ref at_)
 v8 : m 8 = some (.int way)
 v9 : m 9 = some v
theorem Vars0.due {m : Mp} {l a1 rb at_ : Addr} {B : Bk} {many gone : Nat} {way : Int} {v : AV} (V : Vars0 m l a1 rb at_ B many gone way v) (w : Str) : Vars (m.upd 10 (.str w)) l a1 rb at_ B many gone way v w := ⟨up V.v0, up V.v1, up V.v2, up V.v3, up V.v5, up V.v6, up V.v7, up V.v8, up V.v9, Mp.upd_self _ _ _⟩
theorem Vars.call {m : Mp} {l a1 rb at_ : Addr} {B : Bk} {many gone : Nat} {way : Int} {v : AV} {w : Str} (V : Vars m l a1 rb at_ B many gone way v w) (u : AV) : Vars (m.upd 11 u) l a1 rb at_ B many gone way v w := ⟨up V.v0, up V.v1, up V.v2, up V.v3, up V.v5, up V.v6, up V.v7, up V.v8, up V.v9, up V.v10⟩
theorem word_ne : ∀ x ∈ fourX, wordX x ≠ Str.ofString "" := by decide +kernel
theorem errEnd {m : Mp} {H : AH} {QN : Mp → AH → Prop} {Q : QV} {X : QX} {l a1 rb at_ : Addr} {B : Bk} {n many gone : Nat} {way : Int} {v : AV} {w x : Str} (V : Vars m l a1 rb at_ B many gone way v w) (L : LawS H a1 B n many gone) (hb : NR H rb B.num) (hx : BadC H B way v x) (h4 : x ∈ fourX) (hwx : wordX x = w)
  (hw : (w ≠ Str.ofString "many") ∨ (w = Str.ofString "many" ∧ way ≤ 2 ∧ 0 < many ∧ ∃ r xs, v = .ref r ∧ LS H r xs ∧ (∀ n ∈ xs, Nm n) ∧ xs.length ≤ 5 ∧ xs.Nodup)) (fin : ∀ H', Q (.bool true) H') : T_w9 m H QN Q X := by
 have wne : w ≠ Str.ofString "" := by rw [← hwx]; exact word_ne x h4
 refine seq_k ⟨_, V.v3, _, V.v8, _, V.v9, .bad B way v x rfl L.bk hx fun H2 s2 => ?_⟩
 rw [hwx]
 refine end2 (V.call _) (Mp.upd_self _ _ _) (fun q => wne q.2) (fun _ H3 s3 => ?_) fin
 have s := s2.trans s3
 refine end3 (V.call _) (L.sub s) (hb.sub s) (fun H4 Q' s4 h' => .bad B way v x rfl (L.bk.sub (s.trans s4)) (hx.sub (s.trans s4)) fun H5 s5 => by rw [hwx]; exact h' H5 s5) ?_ fin
 rcases hw with q | ⟨q1, q2, q3, r, xs, q4, q5, q6⟩
 ·exact .inl q
 ·exact .inr ⟨q1, q2, q3, r, xs, q4, s _ _ q5, q6⟩
theorem midN {m : Mp} {H : AH} {QN : Mp → AH → Prop} {Q : QV} {X : QX} {l a1 rb at_ : Addr} {B : Bk} {n many gone : Nat} {way : Int} {v : AV} (V : Vars0 m l a1 rb at_ B many gone way v) (L : LawS H a1 B n many gone) (hb : NR H rb B.num) (h5 : 5 < way)
  (hv : (∃ n, v = .str n ∧ Nm n) ∨ Odd H v) (fin : ∀ H', Q (.bool true) H') : T_w0 m H QN Q X := by
 refine seq_k ⟨_, V.v8, _, V.v9, _, V.v7, _, V.v2, ?_⟩
 rcases hv with ⟨s, rfl, hs⟩ | hO
 ·refine .name way s at_ many rfl h5 hs fun H1 s1 => ?_
  have V1 := V.due (Str.ofString "")
  refine seq_k ⟨_, V1.v3, _, V1.v8, _, V1.v9, .name B way s rfl h5 (L.bk.sub s1) hs fun H2 s2 => ?_⟩
  exact end2 (V1.call _) (Mp.upd_self _ _ _) (by omega) (fun q => absurd rfl q) fin
 ·refine .noname way v at_ many rfl h5 hO.no fun H1 s1 => ?_
  exact errEnd (V.due (Str.ofString "name")) (L.sub s1) (hb.sub s1) (.inr (.inr ⟨h5, hO.no.sub s1, rfl⟩)) (by decide +kernel) (by decide +kernel) (.inl (by decide +kernel)) fin
theorem midL {m : Mp} {H : AH} {QN : Mp → AH → Prop} {Q : QV} {X : QX} {l a1 rb at_ : Addr} {B : Bk} {n many gone : Nat} {way : Int} {v : AV} {ns : List Int} (V : Vars0 m l a1 rb at_ B many gone way v) (L : LawS H a1 B n many gone) (hb : NR H rb B.num) (hl : H l = some (.script ns)) (ht : LS H at_ (thereL n B.sets.flatten)) (h0 : 0 ≤ way) (h5 : way ≤ 5)
  (hv : Thing H v) (fin : ∀ H', Q (.bool true) H') : T_w0 m H QN Q X := by
 refine seq_k ⟨_, V.v8, _, V.v9, _, V.v7, _, V.v2, ?_⟩
 cases hv with
 | none hv =>
  refine .none way v at_ many rfl h5 hv fun H1 s1 => ?_
  refine errEnd (V.due (Str.ofString "row")) (L.sub s1) (hb.sub s1) (x := xRow) ?_ (by decide +kernel) (by decide +kernel) (.inl (by decide +kernel)) fin
  by_cases g : way < 3
  ·exact .inl ⟨g, .none (aIs_sub hv s1)⟩
  ·exact .inr (.inl ⟨by omega, h5, .none (aIs_sub hv s1)⟩)
 | odd r xs w ys e hr hx hy hO =>
  subst e
  refine .odd way r xs w ys at_ many rfl h5 hr hx hy hO fun H1 s1 => ?_
  have hs : Spoilt H1 r xs w ys := ⟨s1 _ _ hr, hx, hO.no.sub s1⟩
  refine errEnd (V.due (Str.ofString "name")) (L.sub s1) (hb.sub s1) (x := xName) ?_ (by decide +kernel) (by decide +kernel) (.inl (by decide +kernel)) fin
  by_cases g : way < 3
  ·exact .inl ⟨g, .name r xs w ys rfl hs⟩
  ·exact .inr (.inl ⟨by omega, h5, .name r xs w ys rfl hs⟩)
 | good r xs e hr hx hx5 =>
  subst e
  have tl := thereL_len n B.sets.flatten
  have n12 := L.n12
  by_cases g : way ≤ 2
  ·cases L.putW xs with
   | twice nd =>
    refine .put way r xs at_ _ many rfl g hr hx hx5 ht (by omega) (fun _ H1 s1 => ?_) (fun q => absurd q nd) (fun q => absurd q nd)
    exact errEnd (V.due (Str.ofString "row")) (L.sub s1) (hb.sub s1) (x := xRow) (.inl ⟨by omega, .twice r xs rfl (s1 _ _ hr) hx (by omega) nd⟩) (by decide +kernel) (by decide +kernel) (.inl (by decide +kernel)) fin
   | many nd g1 g2 =>
    have hl0 := L.len
    have hm : 0 < many := by
     rcases Nat.eq_zero_or_pos many with z | z
     ·exfalso
      have e0 : B.rs = [] := List.eq_nil_of_length_eq_zero (by omega)
      have e1 : B.sets.flatten = [] := by unfold Bk.sets; rw [e0]; rfl
      rw [e1, List.nil_append, dedup_nodup nd] at g2
      omega
     ·exact z
    refine .put way r xs at_ _ many rfl g hr hx hx5 ht (by omega) (fun q => absurd nd q) (fun _ _ H1 s1 => ?_) (fun _ q => absurd g1 q)
    exact errEnd (V.due (Str.ofString "many")) (L.sub s1) (hb.sub s1) (x := xMany) (.inl ⟨by omega, .many r xs rfl (s1 _ _ hr) hx (by omega) nd g2⟩) (by decide +kernel) (by decide +kernel) (.inr ⟨rfl, g, hm, r, xs, rfl, s1 _ _ hr, hx, hx5, nd⟩) fin
   | ok nd g1 g2 g3 =>
    refine .put way r xs at_ _ many rfl g hr hx hx5 ht (by omega) (fun q => absurd nd q) (fun _ q => absurd q g1) (fun _ _ H1 s1 => ?_)
    have V1 := V.due (Str.ofString "")
    refine seq_k ⟨_, V1.v3, _, V1.v8, _, V1.v9, call_ok (X := X) (by omega) (L.bk.sub s1) (s1 _ _ hr) hx nd g2 g3 fun H2 c2 => ?_⟩
    exact end2 (V1.call _) (Mp.upd_self _ _ _) (by omega) (fun q => absurd rfl q) fin
  ·refine .good way r xs at_ many rfl (by omega) h5 hr hx fun H1 s1 => ?_
   have V1 := V.due (Str.ofString "")
   by_cases g3 : way = 3
   ·subst g3
    refine seq_k ⟨_, V1.v3, _, V1.v8, _, V1.v9, .meets B r xs rfl (L.bk.sub s1) (s1 _ _ hr) hx hx5 fun H2 s2 => ?_⟩
    exact end2 (V1.call _) (Mp.upd_self _ _ _) (by omega) (fun q => absurd rfl q) fin
   ·refine seq_k ⟨_, V1.v3, _, V1.v8, _, V1.v9, .ask B way r xs rfl (by omega) h5 (L.bk.sub s1) (s1 _ _ hr) hx hx5 fun w H2 s2 => ?_⟩
    exact end2b (V1.call _) ((s1.trans s2) _ _ hl) (by omega) fin
theorem three_k {r0 : Str} {w : AV} {H : AH} (h0 : Nm r0) (hw : Odd H w) (i : Int) : ∃ v, idx [AV.str r0, w, .str (Str.ofString "zzzzzzzz")] (i % 3) = some v ∧ ((∃ n, v = .str n ∧ Nm n) ∨ Odd H v) := by
 obtain ⟨v, hv, hm⟩ := idx_some (xs := [AV.str r0, w, .str (Str.ofString "zzzzzzzz")]) (j := i % 3) (Int.emod_nonneg _ (by decide)) (Int.emod_lt_of_pos _ (by decide))
 refine ⟨v, hv, ?_⟩
 simp only [List.mem_cons, List.not_mem_nil, or_false] at hm
 rcases hm with rfl | rfl | rfl
 ·exact .inl ⟨_, rfl, h0⟩
 ·exact .inr hw
 ·exact .inl ⟨_, rfl, nm_of (by decide +kernel)⟩
theorem mid {m : Mp} {H : AH} {QN : Mp → AH → Prop} {Q : QV} {X : QX} {l a1 rb at_ : Addr} {B : Bk} {n many gone : Nat} {ns : List Int} (v0 : m 0 = some (.ref l)) (v1 : m 1 = some (.ref a1)) (v2 : m 2 = some (.int many)) (v3 : m 3 = some (.ref B.a)) (v5 : m 5 = some (.int gone)) (v6 : m 6 = some (.ref rb)) (v7 : m 7 = some (.ref at_))
  (L : LawS H a1 B n many gone) (hb : NR H rb B.num) (hl : H l = some (.script ns)) (ht : LS H at_ (thereL n B.sets.flatten)) (fin : ∀ H', Q (.bool true) H') : T_w1 m H QN Q X := by
 refine seq_k ⟨_, v0, l, ns, 2, rfl, hl, by decide, by decide, ?_⟩
 have w0 := Int.emod_nonneg (drw ns 2) (show (8 : Int) ≠ 0 by decide)
 refine seq_k ⟨_, up v0, l, ns, 3, rfl, hl, by decide, _, up v1, drw ns 3, a1, nmsL n, rfl, L.nam, nmsL_nm L.n12, by rw [nmsL_len]; exact L.n0, by rw [nmsL_len]; exact L.n12, fun v H1 s1 hT => ?_⟩
 generalize drw ns 2 % 8 = way at w0
 refine seq_k ⟨_, up (Mp.upd_self _ _ _), val_k (gt_k ?_)⟩
 by_cases g : 5 < way
 ·rw [decide_eq_true g]
  have L1 := L.sub s1
  have hl1 := s1 _ _ hl
  refine ite_t (seq_k ⟨_, up (up v1), _, L1.nam, .str (sg 0), nms_at L.n0, _, up (up v0), l, ns, 3, rfl, hl1, by decide, drw ns 3, rfl, fun w H2 s2 hO => ⟨by simp, fun r3 n3 => ?_⟩⟩)
  have s3 := s2.trans (Sub.add n3 (.list [.str (sg 0), w, .str (Str.ofString "zzzzzzzz")]))
  obtain ⟨u, hu, hq⟩ := three_k (r0 := sg 0) (sg_nm (by decide)) (hO.sub (Sub.add n3 (.list [.str (sg 0), w, .str (Str.ofString "zzzzzzzz")]))) (drw ns 2 / 8)
  refine ⟨_, up (up v0), l, ns, 2, rfl, s3 _ _ hl1, by decide, by decide, by decide, by decide, _, put_get _ _ _, u, hu, skip_k ?_⟩
  exact midN ⟨up (up (up v0)), up (up (up v1)), up (up (up v2)), up (up (up v3)), up (up (up v5)), up (up (up v6)), up (up (up v7)), up (up (Mp.upd_self _ _ _)), Mp.upd_self _ _ _⟩ (L1.sub s3) (hb.sub (s1.trans s3)) g hq fin
 ·rw [decide_eq_false g]
  refine ite_f (skip_k ?_)
  exact midL ⟨up (up v0), up (up v1), up (up v2), up (up v3), up (up v5), up (up v6), up (up v7), up (Mp.upd_self _ _ _), Mp.upd_self _ _ _⟩ (L.sub s1) (hb.sub s1) (s1 _ _ hl) (s1 _ _ ht) w0 (by omega) hT fin
theorem many_at (d : Int) : ∃ k : Nat, idx [AV.int (d % 4), .int (27 + d / 2 % 4)] (d % 2) = some (.int (k : Int)) ∧ k ≤ 30 ∧ (k ≤ 3 ∨ 27 ≤ k) := by
 have h0 := Int.emod_nonneg d (show (4 : Int) ≠ 0 by decide)
 have h1 := Int.emod_lt_of_pos d (show (0 : Int) < 4 by decide)
 have h2 := Int.emod_nonneg (d / 2) (show (4 : Int) ≠ 0 by decide)
 have h3 := Int.emod_lt_of_pos (d / 2) (show (0 : Int) < 4 by decide)
 rcases Int.emod_two_eq d with e | e
 ·refine ⟨(d % 4).toNat, ?_, by omega, by omega⟩
  rw [e, Int.toNat_of_nonneg h0]; rfl
 ·refine ⟨(27 + d / 2 % 4).toNat, ?_, by omega, by omega⟩
  rw [e, Int.toNat_of_nonneg (by omega)]; rfl
theorem gone_at (d : Int) {k : Nat} (h : k ≤ 3 ∨ 27 ≤ k) : ∃ g : Nat, d % 4 * (if decide ((3 : Int) < (k : Int)) then 1 else 0) = (g : Int) ∧ g ≤ k := by
 have h0 := Int.emod_nonneg d (show (4 : Int) ≠ 0 by decide)
 have h1 := Int.emod_lt_of_pos d (show (0 : Int) < 4 by decide)
 by_cases q : (3 : Int) < (k : Int)
 ·rw [decide_eq_true q]
  exact ⟨(d % 4).toNat, by simp; omega, by omega⟩
 ·rw [decide_eq_false q]
  exact ⟨0, by simp, Nat.zero_le _⟩
theorem ok_law (vs : List AV) (H : AH) (Q : QV) (X : QX) (h : F_law vs H Q X) : mkFn is_law T_law vs H Q X := by
 obtain ⟨l, ns, rfl, hl, fin⟩ := h
 refine ⟨rfl, ?_⟩
 unfold T_law
 obtain ⟨n', en, ln⟩ := nat_mod (drw ns 0) 12 (by decide)
 obtain ⟨n, hn⟩ : ∃ n, n = 1 + n' := ⟨_, rfl⟩
 have e0 : (1 : Int) + drw ns 0 % 12 = (n : Int) := by have : drw ns 0 % 12 = (n' : Int) := en; omega
 have n0 : 0 < n := by omega
 have n12 : n ≤ 12 := by omega
 clear hn en ln n'
 refine seq_k ⟨_, rfl, l, ns, 0, rfl, hl, by decide, by decide, none, some _, .none, .int _, by decide +kernel, _, rfl, ?_, fun a1 n1 => ?_⟩
 ·show (List.toArray _).size ≤ _
  rw [List.size_toArray]
  exact Nat.le_trans (cut_le _ _ _) (by decide +kernel)
 rw [e0, signs_lo n12]
 have t1 := Sub.add n1 (.list ((nmsL n).map AV.str))
 have hl1 := t1 _ _ hl
 have hn1 : LS (H.put a1 (.list ((nmsL n).map AV.str))) a1 (nmsL n) := put_get _ _ _
 generalize H.put a1 (.list ((nmsL n).map AV.str)) = H1 at hl1 hn1
 clear t1 n1 hl e0
 obtain ⟨mn, em, m30, mc⟩ := many_at (drw ns 1)
 refine seq_k ⟨_, rfl, l, ns, 1, rfl, hl1, by decide, by decide, _, rfl, l, ns, 1, rfl, hl1, by decide, by decide, by decide, by decide, by simp, fun r2 n2 => ?_⟩
 have t2 := Sub.add n2 (.list [.int (drw ns 1 % 4), .int (27 + drw ns 1 / 2 % 4)])
 refine ⟨_, rfl, l, ns, 1, rfl, t2 _ _ hl1, by decide, by decide, _, put_get _ _ _, _, em, ?_⟩
 have hl2 := t2 _ _ hl1
 have hn2 : LS (H1.put r2 (.list [.int (drw ns 1 % 4), .int (27 + drw ns 1 / 2 % 4)])) a1 (nmsL n) := t2 _ _ hn1
 generalize H1.put r2 (.list [.int (drw ns 1 % 4), .int (27 + drw ns 1 / 2 % 4)]) = H2 at hl2 hn2
 clear t2 n2 em hl1 hn1
 refine seq_k (make_k fun xa ad ak H3 t3 nx nd nk hA => ?_)
 refine seq_k ⟨_, rfl, mn, rfl, by omega, by omega, fun r0 nr0 => ?_⟩
 have t0 := Sub.add nr0 (.range 0 (mn : Int))
 refine ⟨.range, (intsFrom 0 (mn : Int)).map AV.int, ⟨0, _, put_get _ _ _, rfl⟩, fun k m' H' => (m' 0 = some (.ref l) ∧ m' 1 = some (.ref a1) ∧ m' 2 = some (.int mn) ∧ m' 3 = some (.ref xa)) ∧ H' r0 = some (.range 0 (mn : Int)) ∧ Sub H2 H' ∧ ∃ A : Bk, A.a = xa ∧ A.d = ad ∧ A.k = ak ∧ BookAt H' A ∧ Singles A 0 n k,
  ⟨⟨rfl, rfl, rfl, rfl⟩, put_get _ _ _, t3.trans t0, ⟨xa, ad, ak, [], 0⟩, rfl, rfl, rfl, hA.sub t0, Singles.none ..⟩, ?_⟩
 clear hA t0 nr0 t3 H3 nx
 rintro k m' H' ⟨⟨v0, v1, v2, v3⟩, hr, sb, A, rfl, rfl, rfl, hA, SA⟩ hkl
 refine ⟨⟨0, _, hr, rfl⟩, fun y hy => ?_, fun e => ?_⟩
 ·obtain ⟨hk, rfl⟩ := getElem?_ints hy
  have hk : k < mn := by simpa using hk
  have kn : k % n < n := Nat.mod_lt _ n0
  have ef : fo 0 n k = k % n := by unfold fo; rw [Nat.zero_add]
  refine ⟨_, up v3, A.a, A.d, _, rfl, hA.inst, hA.attrs, by kernel_rfl, _, up v1, _, Mp.upd_self _ _ _, _, up v1, _, rfl, _, sb _ _ hn2, by rw [List.length_map, nmsL_len]; omega, _, sb _ _ hn2, .str (sg (fo 0 n k)), ?_, by simp, fun r nr => ?_⟩
  ·rw [List.length_map, nmsL_len, ef]
   exact nms_at kn
  ·have t := Sub.add nr (.list [.str (sg (fo 0 n k))])
   refine put_one (hA.sub t) SA (by omega) n0 n12 (by decide) (put_get _ _ _) fun lr H4 c4 nl hB4 hS4 => ⟨fun _ h => (nomatch h), ⟨up v0, up v1, up v2, up v3⟩, c4.at (hA.sub t) (t _ _ hr) (fun e q => by cases q) (fun e q => by cases q), fun z o ez => c4.keep z o ?_ (t _ _ (sb _ _ ez)), A.more lr _, rfl, rfl, rfl, hB4, hS4⟩
   rintro (q | q)
   ·rw [q, nd] at ez; cases ez
   ·rw [q, nk] at ez; cases ez
 rw [ints_len] at e
 have e : k = mn := by simpa using e
 subst e
 obtain ⟨gn, eg, gk⟩ := gone_at (drw ns 6) mc
 refine seq_k ⟨_, v0, l, ns, 6, rfl, sb _ _ hl2, by decide, by decide, _, v2, val_k (gt_k ⟨_, rfl, by have h1 := Int.emod_nonneg (drw ns 6) (show (4 : Int) ≠ 0 by decide); have h2 := Int.emod_lt_of_pos (drw ns 6) (show (0 : Int) < 4 by decide); omega, ?_⟩)⟩
 rw [eg]
 refine seq_k ⟨_, Mp.upd_self _ _ _, gn, rfl, by omega, by omega, fun r1 nr1 => ?_⟩
 have t1 := Sub.add nr1 (.range 0 (gn : Int))
 refine ⟨.range, (intsFrom 0 (gn : Int)).map AV.int, ⟨0, _, put_get _ _ _, rfl⟩, fun j m' H' => (m' 0 = some (.ref l) ∧ m' 1 = some (.ref a1) ∧ m' 2 = some (.int k) ∧ m' 3 = some (.ref A.a) ∧ m' 5 = some (.int gn)) ∧ H' r1 = some (.range 0 (gn : Int)) ∧ Sub H2 H' ∧ ∃ D : Bk, D.a = A.a ∧ D.d = A.d ∧ D.k = A.k ∧ D.c = A.c ∧ D.rs = A.rs.drop j ∧ BookAt H' D,
  ⟨⟨up v0, up v1, up v2, up v3, Mp.upd_self _ _ _⟩, put_get _ _ _, sb.trans t1, A, rfl, rfl, rfl, rfl, rfl, hA.sub t1⟩, ?_⟩
 clear hr eg v0 v1 v2 v3 hkl
 rintro j m2 H5 ⟨⟨v0, v1, v2, v3, v5⟩, hr, sb, D, d1, d2, d3, d4, d5, hD⟩ hjl
 refine ⟨⟨0, _, hr, rfl⟩, fun y hy => ?_, fun e => ?_⟩
 ·obtain ⟨hj, rfl⟩ := getElem?_ints hy
  have hj : j < gn := by simpa using hj
  obtain ⟨⟨r, hr', er⟩, hf⟩ := less_drop SA.num (show j < k by omega)
  rw [← d1] at v3
  refine ⟨_, up v3, D.a, D.d, _, rfl, hD.inst, hD.attrs, by kernel_rfl, _, Mp.upd_self _ _ _, D, j, rfl, hD, ⟨r, by rw [d5]; exact hr', er⟩, fun H6 c6 hB6 => ⟨fun _ h => (nomatch h), ⟨up v0, up v1, up v2, by rw [← d1]; exact up v3, up v5⟩, c6.at hD hr (fun e q => by cases q) (fun e q => by cases q), fun z o ez => c6.keep z o ?_ (sb _ _ ez), D.less j, d1, d2, d3, d4, ?_, hB6⟩⟩
  ·rw [d2, d3]
   rintro (q | q)
   ·rw [q, nd] at ez; cases ez
   ·rw [q, nk] at ez; cases ez
  ·show D.rs.filter _ = _
   rw [d5]; exact hf
 rw [ints_len] at e
 have e : j = gn := by simpa using e
 subst e
 rw [← d1] at v3
 refine seq_k ⟨_, v2, _, v5, sub_k ?_⟩
 have es : (k : Int) - (j : Int) = ((k - j : Nat) : Int) := by omega
 rw [es]
 have ss : A.sets = ((List.range k).map fun i => sg (fo 0 n i)).map fun s => [s] := by rw [SA.sets, List.map_map]; rfl
 have L : LawS H5 a1 D n (k - j) j := by
  refine ⟨sb _ _ hn2, hD, ?_, ⟨A.rs, d5, ?_⟩, ⟨((List.range k).map fun i => sg (fo 0 n i)).drop j, ?_, fun s hs => ?_⟩, n0, n12, by omega⟩
  ·rw [d4, SA.cm]; omega
  ·rw [SA.num, show k - j + j = k by omega]
  ·unfold Bk.sets at ss ⊢
   rw [d5, List.map_drop, ss, List.map_drop]
  ·obtain ⟨i, _, rfl⟩ := List.mem_map.mp (List.mem_of_mem_drop hs)
   refine List.mem_map.mpr ⟨fo 0 n i, List.mem_range.mpr ?_, rfl⟩
   unfold fo
   have := Nat.mod_lt i n0
   omega
 refine seq_k ⟨_, up v3, D.a, D.d, _, rfl, hD.inst, hD.attrs, by kernel_rfl, D, rfl, hD, fun ts rb H6 s6 nrb hl6 hr6 ht6 => ?_⟩
 have hb6 : NR H6 rb D.num := rows_nr hl6 hr6 ht6
 have L6 := L.sub s6
 refine seq_k ⟨_, up (up v1), there_test (F := D.sets.flatten) L6.nam (fun y H' Q' s' h' => ⟨_, up (Mp.upd_self _ _ _), comp_first (hb6.sub s') L.num fun r' hr' => h' _ _ (Sub.add hr' _) (put_get _ _ _)⟩) fun at_ H7 s7 n7 h7 => ?_⟩
 exact mid (up (up (up v0))) (up (up (up v1))) (up (up (Mp.upd_self _ _ _))) (up (up (up v3))) (up (up (up v5))) (up (Mp.upd_self _ _ _)) (Mp.upd_self _ _ _) (L6.sub s7) (hb6.sub s7) ((s6.trans s7) _ _ (sb _ _ hl2)) h7 fin
end Mine
end
section
set_option maxRecDepth 100000
set_option maxHeartbeats 4000000
namespace Mine
open PySem PySem.Calls PyProof.Rows PySem.W
noncomputable def excT : Str → Option Addr := fun x => List.lookup x [((Str.ofString "BadName"), 44), ((Str.ofString "BadRow"), 56), ((Str.ofString "TooMany"), 80), ((Str.ofString "NoMeet"), 92)]
theorem sE_v {S : St} {b : Bool} {d : Nat} {sc : Kd} {ρ : Rho} {x : Str} {i : Nat} {pos : Pos} (h1 : ρ.lookup x = some i := by kernel_rfl) (h2 : (x == ("__debug__" : Str)) = false := by kernel_rfl) (h3 : (x == ("__classdict__" : Str)) = false := by kernel_rfl) : SoundE S b d sc ρ (.Name x pos) (tLoc i) := sE_loc pos h1 h2 h3
noncomputable def rho_l_draw : Rho := [((Str.ofString "_law_script"), 0), ((Str.ofString "_law_k"), 1)]
theorem snd_l_draw {S : St} {P : Params} (E : EnvL S (KK P)) (hE : S.excs = excT) (hO_BadName : OwnVE S (Str.ofString "BadName") 44) (hO_BadRow : OwnVE S (Str.ofString "BadRow") 56) (hO_TooMany : OwnVE S (Str.ofString "TooMany") 80) (hO_NoMeet : OwnVE S (Str.ofString "NoMeet") 92) (CL : Cls S (KK P)) (hB : S.book = 284)  : SoundS S true 1 (scAt (KK P) 302) rho_l_draw (bodyAt (KK P) 302) T_l_draw :=
 have rho0 : RhoOK rho_l_draw := rho_ok (by kernel_rfl)
 (sS_cons (sT_ret (sE_if (sB_cmp cmp_gt (sE_bcall E.KS (bLen_ok E.KS) (sEs_cons sE_v sEs_nil (fun _ => rfl)) (by kernel_rfl) (E.g (by kernel_rfl)) (E.b (by kernel_rfl) (by kernel_rfl)) (by kernel_rfl) (by kernel_rfl)) sE_v rfl) (sE_item sE_v sE_v) (sE_int _ _ _)))
 sS_nil)
theorem fn_l_draw {S : St} {P : Params} (E : EnvL S (KK P)) (hE : S.excs = excT) (hO_BadName : OwnVE S (Str.ofString "BadName") 44) (hO_BadRow : OwnVE S (Str.ofString "BadRow") 56) (hO_TooMany : OwnVE S (Str.ofString "TooMany") 80) (hO_NoMeet : OwnVE S (Str.ofString "NoMeet") 92) (CL : Cls S (KK P)) (hB : S.book = 284)  : SoundF S true 2 (.ref 302) (mkFn is_l_draw T_l_draw) :=
 sF_defK E.KS (isDef_of E.X (cd := 301) (ps := [(Str.ofString "_law_script"), (Str.ofString "_law_k")]) rfl ⟨_, rfl⟩ rfl rfl rfl rfl ⟨_, _, _, rfl, rfl, rfl⟩ (bind2 fun _ _ => rfl)) (by kernel_rfl) (snd_l_draw E hE hO_BadName hO_BadRow hO_TooMany hO_NoMeet CL hB )
noncomputable def rho_b_init : Rho := [((Str.ofString "self"), 0)]
theorem snd_b_init {S : St} {P : Params} (E : EnvL S (KK P)) (hE : S.excs = excT) (hO_BadName : OwnVE S (Str.ofString "BadName") 44) (hO_BadRow : OwnVE S (Str.ofString "BadRow") 56) (hO_TooMany : OwnVE S (Str.ofString "TooMany") 80) (hO_NoMeet : OwnVE S (Str.ofString "NoMeet") 92) (CL : Cls S (KK P)) (hB : S.book = 284)  : SoundS S true 1 (scAt (KK P) 171) rho_b_init (bodyAt (KK P) 171) T_b_init :=
 have rho0 : RhoOK rho_b_init := rho_ok (by kernel_rfl)
 (sS_cons (sT_attrSet E CL sE_v sE_dict0 (by rw [hB]; kernel_rfl) (fun _ => rfl))
 (sS_cons (sT_attrSet E CL sE_v (sE_int _ _ _) (by rw [hB]; kernel_rfl) (fun _ => rfl))
 sS_nil))
theorem fn_b_init {S : St} {P : Params} (E : EnvL S (KK P)) (hE : S.excs = excT) (hO_BadName : OwnVE S (Str.ofString "BadName") 44) (hO_BadRow : OwnVE S (Str.ofString "BadRow") 56) (hO_TooMany : OwnVE S (Str.ofString "TooMany") 80) (hO_NoMeet : OwnVE S (Str.ofString "NoMeet") 92) (CL : Cls S (KK P)) (hB : S.book = 284)  : SoundF S true 2 (.ref 171) (mkFn is_b_init T_b_init) :=
 sF_defK E.KS (isDef_of E.X (cd := 170) (ps := [(Str.ofString "self")]) rfl ⟨_, rfl⟩ rfl rfl rfl rfl ⟨_, _, _, rfl, rfl, rfl⟩ (bind1 fun _ => rfl)) (by kernel_rfl) (snd_b_init E hE hO_BadName hO_BadRow hO_TooMany hO_NoMeet CL hB )
noncomputable def rho_is_name : Rho := [((Str.ofString "thing"), 0)]
theorem snd_is_name {S : St} {P : Params} (E : EnvL S (KK P)) (hE : S.excs = excT) (hO_BadName : OwnVE S (Str.ofString "BadName") 44) (hO_BadRow : OwnVE S (Str.ofString "BadRow") 56) (hO_TooMany : OwnVE S (Str.ofString "TooMany") 80) (hO_NoMeet : OwnVE S (Str.ofString "NoMeet") 92) (CL : Cls S (KK P)) (hB : S.book = 284)  : SoundS S true 1 (scAt (KK P) 111) rho_is_name (bodyAt (KK P) 111) T_is_name :=
 have rho0 : RhoOK rho_is_name := rho_ok (by kernel_rfl)
 (sS_cons (sT_if (sB_boolOp (sL_or (sB_not (sB_truth (sE_isi E.KS isi_ok_str sE_v (by kernel_rfl) (E.g (by kernel_rfl)) (E.b (by kernel_rfl) (by kernel_rfl)) (by kernel_rfl) (E.g (by kernel_rfl)) (E.b (by kernel_rfl) (by kernel_rfl)) (by kernel_rfl) (by kernel_rfl) (by kernel_rfl)) (fun _ _ => rfl))) (sL_or (sB_not (sB_chain cmp_le cmp_le (sE_int _ _ _) (sE_bcall E.KS (bLen_ok E.KS) (sEs_cons sE_v sEs_nil (fun _ => rfl)) (by kernel_rfl) (E.g (by kernel_rfl)) (E.b (by kernel_rfl) (by kernel_rfl)) (by kernel_rfl) (by kernel_rfl)) (sE_constK E (by kernel_rfl) (by kernel_rfl) (by kernel_rfl)) rfl)) sL_orNil))) (sS_cons (sT_ret (sE_bool _ _ _))
 sS_nil) sS_nil)
 (sS_cons (sT_ret (sE_bcall E.KS (bAll_ok) (sEs_cons (sE_comp sE_v sFs_nil (sE_cmp cmp_in sE_v (sE_constK E (by kernel_rfl) (by kernel_rfl) (by kernel_rfl)) rfl) (comp_at (by kernel_rfl)) (fun _ _ => rfl)) sEs_nil (fun _ => rfl)) (by kernel_rfl) (E.g (by kernel_rfl)) (E.b (by kernel_rfl) (by kernel_rfl)) (by kernel_rfl) (by kernel_rfl)))
 sS_nil))
theorem fn_is_name {S : St} {P : Params} (E : EnvL S (KK P)) (hE : S.excs = excT) (hO_BadName : OwnVE S (Str.ofString "BadName") 44) (hO_BadRow : OwnVE S (Str.ofString "BadRow") 56) (hO_TooMany : OwnVE S (Str.ofString "TooMany") 80) (hO_NoMeet : OwnVE S (Str.ofString "NoMeet") 92) (CL : Cls S (KK P)) (hB : S.book = 284)  : SoundF S true 2 (.ref 111) (mkFn is_is_name T_is_name) :=
 sF_defK E.KS (isDef_of E.X (cd := 110) (ps := [(Str.ofString "thing")]) rfl ⟨_, rfl⟩ rfl rfl rfl rfl ⟨_, _, _, rfl, rfl, rfl⟩ (bind1 fun _ => rfl)) (by kernel_rfl) (snd_is_name E hE hO_BadName hO_BadRow hO_TooMany hO_NoMeet CL hB )
noncomputable def rho_rising : Rho := [((Str.ofString "names"), 0), ((Str.ofString "name"), 1)]
theorem snd_rising {S : St} {P : Params} (E : EnvL S (KK P)) (hE : S.excs = excT) (hO_BadName : OwnVE S (Str.ofString "BadName") 44) (hO_BadRow : OwnVE S (Str.ofString "BadRow") 56) (hO_TooMany : OwnVE S (Str.ofString "TooMany") 80) (hO_NoMeet : OwnVE S (Str.ofString "NoMeet") 92) (CL : Cls S (KK P)) (hB : S.book = 284) (h_is_name : SoundF S true 2 (.ref 111) F_is_name) : SoundS S true 3 (scAt (KK P) 118) rho_rising (bodyAt (KK P) 118) T_rising :=
 have rho0 : RhoOK rho_rising := rho_ok (by kernel_rfl)
 (sS_cons (sT_for sE_v (sS_cons (sT_if (sB_not (sB_truth (sE_callD E.KS (h_is_name.deeper (by omega)) (sEs_cons sE_v sEs_nil (fun _ => rfl)) (by kernel_rfl) (E.g (by kernel_rfl)) (isFn_of E.X (by kernel_rfl)) (by kernel_rfl) (by kernel_rfl)) (fun _ _ => rfl))) (sS_cons (sT_raiseK (C0 := 44) E hO_BadName (by rw [hE]; kernel_rfl) (sEs_cons (sE_str _ _ _ (by kernel_rfl)) sEs_nil (fun _ => rfl)) (by kernel_rfl) (by kernel_rfl) (by kernel_rfl))
 sS_nil) sS_nil)
 sS_nil) rho0 (by kernel_rfl) (or_kd (by kernel_rfl)) (fun _ _ => rfl))
 (sS_cons (sT_ret (sE_bcall E.KS (bSorted_ok E.KS) (sEs_cons (sE_tcall E.KS (bSet_ok) (sEs_cons sE_v sEs_nil (fun _ => rfl)) (by kernel_rfl) (E.g (by kernel_rfl)) (E.b (by kernel_rfl) (by kernel_rfl)) (by kernel_rfl) (by kernel_rfl)) sEs_nil (fun _ => rfl)) (by kernel_rfl) (E.g (by kernel_rfl)) (E.b (by kernel_rfl) (by kernel_rfl)) (by kernel_rfl) (by kernel_rfl)))
 sS_nil))
theorem fn_rising {S : St} {P : Params} (E : EnvL S (KK P)) (hE : S.excs = excT) (hO_BadName : OwnVE S (Str.ofString "BadName") 44) (hO_BadRow : OwnVE S (Str.ofString "BadRow") 56) (hO_TooMany : OwnVE S (Str.ofString "TooMany") 80) (hO_NoMeet : OwnVE S (Str.ofString "NoMeet") 92) (CL : Cls S (KK P)) (hB : S.book = 284) (h_is_name : SoundF S true 2 (.ref 111) F_is_name) : SoundF S true 4 (.ref 118) (mkFn is_rising T_rising) :=
 sF_defK E.KS (isDef_of E.X (cd := 117) (ps := [(Str.ofString "names")]) rfl ⟨_, rfl⟩ rfl rfl rfl rfl ⟨_, _, _, rfl, rfl, rfl⟩ (bind1 fun _ => rfl)) (by kernel_rfl) (snd_rising E hE hO_BadName hO_BadRow hO_TooMany hO_NoMeet CL hB h_is_name)
noncomputable def rho_need_set : Rho := [((Str.ofString "thing"), 0)]
theorem snd_need_set {S : St} {P : Params} (E : EnvL S (KK P)) (hE : S.excs = excT) (hO_BadName : OwnVE S (Str.ofString "BadName") 44) (hO_BadRow : OwnVE S (Str.ofString "BadRow") 56) (hO_TooMany : OwnVE S (Str.ofString "TooMany") 80) (hO_NoMeet : OwnVE S (Str.ofString "NoMeet") 92) (CL : Cls S (KK P)) (hB : S.book = 284) (h_rising : SoundF S true 4 (.ref 118) F_rising) : SoundS S true 5 (scAt (KK P) 150) rho_need_set (bodyAt (KK P) 150) T_need_set :=
 have rho0 : RhoOK rho_need_set := rho_ok (by kernel_rfl)
 (sS_cons (sT_if (sB_not (sB_truth (sE_isi E.KS isi_ok_list sE_v (by kernel_rfl) (E.g (by kernel_rfl)) (E.b (by kernel_rfl) (by kernel_rfl)) (by kernel_rfl) (E.g (by kernel_rfl)) (E.b (by kernel_rfl) (by kernel_rfl)) (by kernel_rfl) (by kernel_rfl) (by kernel_rfl)) (fun _ _ => rfl))) (sS_cons (sT_raiseK (C0 := 56) E hO_BadRow (by rw [hE]; kernel_rfl) (sEs_cons (sE_str _ _ _ (by kernel_rfl)) sEs_nil (fun _ => rfl)) (by kernel_rfl) (by kernel_rfl) (by kernel_rfl))
 sS_nil) sS_nil)
 (sS_cons (sT_ret (sE_callD E.KS (h_rising.deeper (by omega)) (sEs_cons sE_v sEs_nil (fun _ => rfl)) (by kernel_rfl) (E.g (by kernel_rfl)) (isFn_of E.X (by kernel_rfl)) (by kernel_rfl) (by kernel_rfl)))
 sS_nil))
theorem fn_need_set {S : St} {P : Params} (E : EnvL S (KK P)) (hE : S.excs = excT) (hO_BadName : OwnVE S (Str.ofString "BadName") 44) (hO_BadRow : OwnVE S (Str.ofString "BadRow") 56) (hO_TooMany : OwnVE S (Str.ofString "TooMany") 80) (hO_NoMeet : OwnVE S (Str.ofString "NoMeet") 92) (CL : Cls S (KK P)) (hB : S.book = 284) (h_rising : SoundF S true 4 (.ref 118) F_rising) : SoundF S true 6 (.ref 150) (mkFn is_need_set T_need_set) :=
 sF_defK E.KS (isDef_of E.X (cd := 149) (ps := [(Str.ofString "thing")]) rfl ⟨_, rfl⟩ rfl rfl rfl rfl ⟨_, _, _, rfl, rfl, rfl⟩ (bind1 fun _ => rfl)) (by kernel_rfl) (snd_need_set E hE hO_BadName hO_BadRow hO_TooMany hO_NoMeet CL hB h_rising)
noncomputable def rho_b_rows : Rho := [((Str.ofString "self"), 0)]
theorem snd_b_rows {S : St} {P : Params} (E : EnvL S (KK P)) (hE : S.excs = excT) (hO_BadName : OwnVE S (Str.ofString "BadName") 44) (hO_BadRow : OwnVE S (Str.ofString "BadRow") 56) (hO_TooMany : OwnVE S (Str.ofString "TooMany") 80) (hO_NoMeet : OwnVE S (Str.ofString "NoMeet") 92) (CL : Cls S (KK P)) (hB : S.book = 284)  : SoundS S true 1 (scAt (KK P) 190) rho_b_rows (bodyAt (KK P) 190) T_b_rows :=
 have rho0 : RhoOK rho_b_rows := rho_ok (by kernel_rfl)
 (sS_cons (sT_ret (sE_comp (sE_bcall E.KS (bSorted_ok E.KS) (sEs_cons (sE_attr E CL sE_v (by rw [hB]; kernel_rfl)) sEs_nil (fun _ => rfl)) (by kernel_rfl) (E.g (by kernel_rfl)) (E.b (by kernel_rfl) (by kernel_rfl)) (by kernel_rfl) (by kernel_rfl)) sFs_nil (sE_tuple (sEs_cons sE_v (sEs_cons (sE_tcall E.KS (bList_ok) (sEs_cons (sE_item (sE_attr E CL sE_v (by rw [hB]; kernel_rfl)) sE_v) sEs_nil (fun _ => rfl)) (by kernel_rfl) (E.g (by kernel_rfl)) (E.b (by kernel_rfl) (by kernel_rfl)) (by kernel_rfl) (by kernel_rfl)) sEs_nil (fun _ => rfl)) (fun _ => rfl))) (comp_at (by kernel_rfl)) (fun _ _ => rfl)))
 sS_nil)
theorem fn_b_rows {S : St} {P : Params} (E : EnvL S (KK P)) (hE : S.excs = excT) (hO_BadName : OwnVE S (Str.ofString "BadName") 44) (hO_BadRow : OwnVE S (Str.ofString "BadRow") 56) (hO_TooMany : OwnVE S (Str.ofString "TooMany") 80) (hO_NoMeet : OwnVE S (Str.ofString "NoMeet") 92) (CL : Cls S (KK P)) (hB : S.book = 284)  : SoundF S true 2 (.ref 190) (mkFn is_b_rows T_b_rows) :=
 sF_defK E.KS (isDef_of E.X (cd := 189) (ps := [(Str.ofString "self")]) rfl ⟨_, rfl⟩ rfl rfl rfl rfl ⟨_, _, _, rfl, rfl, rfl⟩ (bind1 fun _ => rfl)) (by kernel_rfl) (snd_b_rows E hE hO_BadName hO_BadRow hO_TooMany hO_NoMeet CL hB )
noncomputable def rho_b_all_sets : Rho := [((Str.ofString "self"), 0)]
theorem snd_b_all_sets {S : St} {P : Params} (E : EnvL S (KK P)) (hE : S.excs = excT) (hO_BadName : OwnVE S (Str.ofString "BadName") 44) (hO_BadRow : OwnVE S (Str.ofString "BadRow") 56) (hO_TooMany : OwnVE S (Str.ofString "TooMany") 80) (hO_NoMeet : OwnVE S (Str.ofString "NoMeet") 92) (CL : Cls S (KK P)) (hB : S.book = 284) (h_b_rows : SoundF S true 2 (.ref 190) F_b_rows) : SoundS S true 3 (scAt (KK P) 195) rho_b_all_sets (bodyAt (KK P) 195) T_b_all_sets :=
 have rho0 : RhoOK rho_b_all_sets := rho_ok (by kernel_rfl)
 (sS_cons (sT_ret (sE_comp (sE_mcall E CL (h_b_rows.deeper (by omega)) sE_v sEs_nil (fun _ => rfl) (by kernel_rfl) (by kernel_rfl) (by decide) (by rw [hB]; kernel_rfl) (by kernel_rfl) (by kernel_rfl)) sFs_nil (sE_item sE_v (sE_int _ _ _)) (comp_at (by kernel_rfl)) (fun _ _ => rfl)))
 sS_nil)
theorem fn_b_all_sets {S : St} {P : Params} (E : EnvL S (KK P)) (hE : S.excs = excT) (hO_BadName : OwnVE S (Str.ofString "BadName") 44) (hO_BadRow : OwnVE S (Str.ofString "BadRow") 56) (hO_TooMany : OwnVE S (Str.ofString "TooMany") 80) (hO_NoMeet : OwnVE S (Str.ofString "NoMeet") 92) (CL : Cls S (KK P)) (hB : S.book = 284) (h_b_rows : SoundF S true 2 (.ref 190) F_b_rows) : SoundF S true 4 (.ref 195) (mkFn is_b_all_sets T_b_all_sets) :=
 sF_defK E.KS (isDef_of E.X (cd := 194) (ps := [(Str.ofString "self")]) rfl ⟨_, rfl⟩ rfl rfl rfl rfl ⟨_, _, _, rfl, rfl, rfl⟩ (bind1 fun _ => rfl)) (by kernel_rfl) (snd_b_all_sets E hE hO_BadName hO_BadRow hO_TooMany hO_NoMeet CL hB h_b_rows)
noncomputable def rho_b_names : Rho := [((Str.ofString "self"), 0), ((Str.ofString "found"), 1), ((Str.ofString "row"), 2)]
theorem snd_b_names {S : St} {P : Params} (E : EnvL S (KK P)) (hE : S.excs = excT) (hO_BadName : OwnVE S (Str.ofString "BadName") 44) (hO_BadRow : OwnVE S (Str.ofString "BadRow") 56) (hO_TooMany : OwnVE S (Str.ofString "TooMany") 80) (hO_NoMeet : OwnVE S (Str.ofString "NoMeet") 92) (CL : Cls S (KK P)) (hB : S.book = 284) (h_b_all_sets : SoundF S true 4 (.ref 195) F_b_all_sets) (h_rising : SoundF S true 4 (.ref 118) F_rising) : SoundS S true 5 (scAt (KK P) 202) rho_b_names (bodyAt (KK P) 202) T_b_names :=
 have rho0 : RhoOK rho_b_names := rho_ok (by kernel_rfl)
 (sS_cons (sT_assign (sE_list sEs_nil) rho0 (by kernel_rfl) (or_kd (by kernel_rfl)) (fun _ => rfl))
 (sS_cons (sT_for (sE_mcall E CL (h_b_all_sets.deeper (by omega)) sE_v sEs_nil (fun _ => rfl) (by kernel_rfl) (by kernel_rfl) (by decide) (by rw [hB]; kernel_rfl) (by kernel_rfl) (by kernel_rfl)) (sS_cons (sT_expr (sE_meth meth_extend bExtend_ok sE_v (sEs_cons sE_v sEs_nil (fun _ => rfl)) (fun _ => rfl) (by kernel_rfl) (by kernel_rfl) (by decide)) (fun _ => rfl))
 sS_nil) rho0 (by kernel_rfl) (or_kd (by kernel_rfl)) (fun _ _ => rfl))
 (sS_cons (sT_ret (sE_callD E.KS (h_rising.deeper (by omega)) (sEs_cons sE_v sEs_nil (fun _ => rfl)) (by kernel_rfl) (E.g (by kernel_rfl)) (isFn_of E.X (by kernel_rfl)) (by kernel_rfl) (by kernel_rfl)))
 sS_nil)))
theorem fn_b_names {S : St} {P : Params} (E : EnvL S (KK P)) (hE : S.excs = excT) (hO_BadName : OwnVE S (Str.ofString "BadName") 44) (hO_BadRow : OwnVE S (Str.ofString "BadRow") 56) (hO_TooMany : OwnVE S (Str.ofString "TooMany") 80) (hO_NoMeet : OwnVE S (Str.ofString "NoMeet") 92) (CL : Cls S (KK P)) (hB : S.book = 284) (h_b_all_sets : SoundF S true 4 (.ref 195) F_b_all_sets) (h_rising : SoundF S true 4 (.ref 118) F_rising) : SoundF S true 6 (.ref 202) (mkFn is_b_names T_b_names) :=
 sF_defK E.KS (isDef_of E.X (cd := 201) (ps := [(Str.ofString "self")]) rfl ⟨_, rfl⟩ rfl rfl rfl rfl ⟨_, _, _, rfl, rfl, rfl⟩ (bind1 fun _ => rfl)) (by kernel_rfl) (snd_b_names E hE hO_BadName hO_BadRow hO_TooMany hO_NoMeet CL hB h_b_all_sets h_rising)
noncomputable def rho_b_put : Rho := [((Str.ofString "self"), 0), ((Str.ofString "row"), 1), ((Str.ofString "found"), 2), ((Str.ofString "number"), 3)]
theorem snd_b_put {S : St} {P : Params} (E : EnvL S (KK P)) (hE : S.excs = excT) (hO_BadName : OwnVE S (Str.ofString "BadName") 44) (hO_BadRow : OwnVE S (Str.ofString "BadRow") 56) (hO_TooMany : OwnVE S (Str.ofString "TooMany") 80) (hO_NoMeet : OwnVE S (Str.ofString "NoMeet") 92) (CL : Cls S (KK P)) (hB : S.book = 284) (h_need_set : SoundF S true 6 (.ref 150) F_need_set) (h_b_names : SoundF S true 6 (.ref 202) F_b_names) : SoundS S true 7 (scAt (KK P) 178) rho_b_put (bodyAt (KK P) 178) T_b_put :=
 have rho0 : RhoOK rho_b_put := rho_ok (by kernel_rfl)
 (sS_cons (sT_assign (sE_callD E.KS (h_need_set.deeper (by omega)) (sEs_cons sE_v sEs_nil (fun _ => rfl)) (by kernel_rfl) (E.g (by kernel_rfl)) (isFn_of E.X (by kernel_rfl)) (by kernel_rfl) (by kernel_rfl)) rho0 (by kernel_rfl) (or_kd (by kernel_rfl)) (fun _ => rfl))
 (sS_cons (sT_if (sB_cmp cmp_ne (sE_bcall E.KS (bLen_ok E.KS) (sEs_cons sE_v sEs_nil (fun _ => rfl)) (by kernel_rfl) (E.g (by kernel_rfl)) (E.b (by kernel_rfl) (by kernel_rfl)) (by kernel_rfl) (by kernel_rfl)) (sE_bcall E.KS (bLen_ok E.KS) (sEs_cons sE_v sEs_nil (fun _ => rfl)) (by kernel_rfl) (E.g (by kernel_rfl)) (E.b (by kernel_rfl) (by kernel_rfl)) (by kernel_rfl) (by kernel_rfl)) rfl) (sS_cons (sT_raiseK (C0 := 56) E hO_BadRow (by rw [hE]; kernel_rfl) (sEs_cons (sE_str _ _ _ (by kernel_rfl)) sEs_nil (fun _ => rfl)) (by kernel_rfl) (by kernel_rfl) (by kernel_rfl))
 sS_nil) sS_nil)
 (sS_cons (sT_if (sB_cmp cmp_eq (sE_bcall E.KS (bLen_ok E.KS) (sEs_cons (sE_attr E CL sE_v (by rw [hB]; kernel_rfl)) sEs_nil (fun _ => rfl)) (by kernel_rfl) (E.g (by kernel_rfl)) (E.b (by kernel_rfl) (by kernel_rfl)) (by kernel_rfl) (by kernel_rfl)) (sE_constK E (by kernel_rfl) (by kernel_rfl) (by kernel_rfl)) rfl) (sS_cons (sT_raiseK (C0 := 80) E hO_TooMany (by rw [hE]; kernel_rfl) (sEs_cons (sE_str _ _ _ (by kernel_rfl)) sEs_nil (fun _ => rfl)) (by kernel_rfl) (by kernel_rfl) (by kernel_rfl))
 sS_nil) sS_nil)
 (sS_cons (sT_if (sB_cmp cmp_gt (sE_bcall E.KS (bLen_ok E.KS) (sEs_cons (sE_tcall E.KS (bSet_ok) (sEs_cons (sE_bin bin_add (sE_mcall E CL (h_b_names.deeper (by omega)) sE_v sEs_nil (fun _ => rfl) (by kernel_rfl) (by kernel_rfl) (by decide) (by rw [hB]; kernel_rfl) (by kernel_rfl) (by kernel_rfl)) sE_v) sEs_nil (fun _ => rfl)) (by kernel_rfl) (E.g (by kernel_rfl)) (E.b (by kernel_rfl) (by kernel_rfl)) (by kernel_rfl) (by kernel_rfl)) sEs_nil (fun _ => rfl)) (by kernel_rfl) (E.g (by kernel_rfl)) (E.b (by kernel_rfl) (by kernel_rfl)) (by kernel_rfl) (by kernel_rfl)) (sE_constK E (by kernel_rfl) (by kernel_rfl) (by kernel_rfl)) rfl) (sS_cons (sT_raiseK (C0 := 80) E hO_TooMany (by rw [hE]; kernel_rfl) (sEs_cons (sE_str _ _ _ (by kernel_rfl)) sEs_nil (fun _ => rfl)) (by kernel_rfl) (by kernel_rfl) (by kernel_rfl))
 sS_nil) sS_nil)
 (sS_cons (sT_assign (sE_attr E CL sE_v (by rw [hB]; kernel_rfl)) rho0 (by kernel_rfl) (or_kd (by kernel_rfl)) (fun _ => rfl))
 (sS_cons (sT_attrSet E CL sE_v (sE_bin bin_add sE_v (sE_int _ _ _)) (by rw [hB]; kernel_rfl) (fun _ => rfl))
 (sS_cons (sT_subSet (sE_attr E CL sE_v (by rw [hB]; kernel_rfl)) sE_v sE_v (fun _ => rfl))
 (sS_cons (sT_ret sE_v)
 sS_nil))))))))
theorem fn_b_put {S : St} {P : Params} (E : EnvL S (KK P)) (hE : S.excs = excT) (hO_BadName : OwnVE S (Str.ofString "BadName") 44) (hO_BadRow : OwnVE S (Str.ofString "BadRow") 56) (hO_TooMany : OwnVE S (Str.ofString "TooMany") 80) (hO_NoMeet : OwnVE S (Str.ofString "NoMeet") 92) (CL : Cls S (KK P)) (hB : S.book = 284) (h_need_set : SoundF S true 6 (.ref 150) F_need_set) (h_b_names : SoundF S true 6 (.ref 202) F_b_names) : SoundF S true 8 (.ref 178) (mkFn is_b_put T_b_put) :=
 sF_defK E.KS (isDef_of E.X (cd := 177) (ps := [(Str.ofString "self"), (Str.ofString "row")]) rfl ⟨_, rfl⟩ rfl rfl rfl rfl ⟨_, _, _, rfl, rfl, rfl⟩ (bind2 fun _ _ => rfl)) (by kernel_rfl) (snd_b_put E hE hO_BadName hO_BadRow hO_TooMany hO_NoMeet CL hB h_need_set h_b_names)
noncomputable def rho_b_take : Rho := [((Str.ofString "self"), 0), ((Str.ofString "number"), 1)]
theorem snd_b_take {S : St} {P : Params} (E : EnvL S (KK P)) (hE : S.excs = excT) (hO_BadName : OwnVE S (Str.ofString "BadName") 44) (hO_BadRow : OwnVE S (Str.ofString "BadRow") 56) (hO_TooMany : OwnVE S (Str.ofString "TooMany") 80) (hO_NoMeet : OwnVE S (Str.ofString "NoMeet") 92) (CL : Cls S (KK P)) (hB : S.book = 284)  : SoundS S true 1 (scAt (KK P) 185) rho_b_take (bodyAt (KK P) 185) T_b_take :=
 have rho0 : RhoOK rho_b_take := rho_ok (by kernel_rfl)
 (sS_cons (sT_if (sB_boolOp (sL_or (sB_not (sB_truth (sE_isi E.KS isi_ok_int sE_v (by kernel_rfl) (E.g (by kernel_rfl)) (E.b (by kernel_rfl) (by kernel_rfl)) (by kernel_rfl) (E.g (by kernel_rfl)) (E.b (by kernel_rfl) (by kernel_rfl)) (by kernel_rfl) (by kernel_rfl) (by kernel_rfl)) (fun _ _ => rfl))) (sL_or (sB_truth (sE_isi E.KS isi_ok_bool sE_v (by kernel_rfl) (E.g (by kernel_rfl)) (E.b (by kernel_rfl) (by kernel_rfl)) (by kernel_rfl) (E.g (by kernel_rfl)) (E.b (by kernel_rfl) (by kernel_rfl)) (by kernel_rfl) (by kernel_rfl) (by kernel_rfl)) (fun _ _ => rfl)) (sL_or (sB_cmp (cmp_notInD E.KS) sE_v (sE_attr E CL sE_v (by rw [hB]; kernel_rfl)) rfl) sL_orNil)))) (sS_cons sT_never
 sS_nil) sS_nil)
 (sS_cons (sT_exprA (sE_meth meth_pop bPop_ok (sE_attr E CL sE_v (by rw [hB]; kernel_rfl)) (sEs_cons sE_v sEs_nil (fun _ => rfl)) (fun _ => rfl) (by kernel_rfl) (by kernel_rfl) (by decide)) (fun _ => rfl))
 sS_nil))
theorem fn_b_take {S : St} {P : Params} (E : EnvL S (KK P)) (hE : S.excs = excT) (hO_BadName : OwnVE S (Str.ofString "BadName") 44) (hO_BadRow : OwnVE S (Str.ofString "BadRow") 56) (hO_TooMany : OwnVE S (Str.ofString "TooMany") 80) (hO_NoMeet : OwnVE S (Str.ofString "NoMeet") 92) (CL : Cls S (KK P)) (hB : S.book = 284)  : SoundF S true 2 (.ref 185) (mkFn is_b_take T_b_take) :=
 sF_defK E.KS (isDef_of E.X (cd := 184) (ps := [(Str.ofString "self"), (Str.ofString "number")]) rfl ⟨_, rfl⟩ rfl rfl rfl rfl ⟨_, _, _, rfl, rfl, rfl⟩ (bind2 fun _ _ => rfl)) (by kernel_rfl) (snd_b_take E hE hO_BadName hO_BadRow hO_TooMany hO_NoMeet CL hB )
noncomputable def rho_l_odd : Rho := [((Str.ofString "_law_cell"), 0)]
theorem snd_l_odd {S : St} {P : Params} (E : EnvL S (KK P)) (hE : S.excs = excT) (hO_BadName : OwnVE S (Str.ofString "BadName") 44) (hO_BadRow : OwnVE S (Str.ofString "BadRow") 56) (hO_TooMany : OwnVE S (Str.ofString "TooMany") 80) (hO_NoMeet : OwnVE S (Str.ofString "NoMeet") 92) (CL : Cls S (KK P)) (hB : S.book = 284)  : SS S true 1 (scAt (KK P) 323) rho_l_odd (bodyAt (KK P) 323) T_l_odd :=
 have rho0 : RhoOK rho_l_odd := rho_ok (by kernel_rfl)
 (ss_cons (sT_retL (se_list (ses_C (se_str _ _ _ (by kernel_rfl)) (ses_C (se_str _ _ _ (by kernel_rfl)) (ses_C (se_str _ _ _ (by kernel_rfl)) (ses_C (se_str _ _ _ (by kernel_rfl)) (ses_C (se_str _ _ _ (by kernel_rfl)) (ses_C (se_none _ _) (ses_C (se_int _ _ _) (ses_C (se_bool _ _ _) (ses_L (se_list (ses_C (se_str _ _ _ (by kernel_rfl)) ses_nil)) (ses_T (se_tuple (ses_C (se_str _ _ _ (by kernel_rfl)) ses_nil)) (ses_C (se_str _ _ _ (by kernel_rfl)) ses_nil)))))))))))) (sE_bin bin_mod sE_v (sE_int _ _ _)))
 (.mk sS_nil))
theorem fn_l_odd {S : St} {P : Params} (E : EnvL S (KK P)) (hE : S.excs = excT) (hO_BadName : OwnVE S (Str.ofString "BadName") 44) (hO_BadRow : OwnVE S (Str.ofString "BadRow") 56) (hO_TooMany : OwnVE S (Str.ofString "TooMany") 80) (hO_NoMeet : OwnVE S (Str.ofString "NoMeet") 92) (CL : Cls S (KK P)) (hB : S.book = 284)  : SoundF S true 2 (.ref 323) (mkFn is_l_odd T_l_odd) :=
 sF_defW E.KS (isDef_of E.X (cd := 322) (ps := [(Str.ofString "_law_cell")]) rfl ⟨_, rfl⟩ rfl rfl rfl rfl ⟨_, _, _, rfl, rfl, rfl⟩ (bind1 fun _ => rfl)) (by kernel_rfl) (snd_l_odd E hE hO_BadName hO_BadRow hO_TooMany hO_NoMeet CL hB )
noncomputable def rho_l_list : Rho := [((Str.ofString "_law_cell"), 0), ((Str.ofString "_law_names"), 1), ((Str.ofString "_law_row"), 2), ((Str.ofString "_law_at"), 3)]
theorem snd_l_list {S : St} {P : Params} (E : EnvL S (KK P)) (hE : S.excs = excT) (hO_BadName : OwnVE S (Str.ofString "BadName") 44) (hO_BadRow : OwnVE S (Str.ofString "BadRow") 56) (hO_TooMany : OwnVE S (Str.ofString "TooMany") 80) (hO_NoMeet : OwnVE S (Str.ofString "NoMeet") 92) (CL : Cls S (KK P)) (hB : S.book = 284) (h_l_odd : SoundF S true 2 (.ref 323) F_l_odd) : SS S true 3 (scAt (KK P) 328) rho_l_list (bodyAt (KK P) 328) T_l_list :=
 have rho0 : RhoOK rho_l_list := rho_ok (by kernel_rfl)
 (ss_cons (.mk (sT_assignComp (sE_tcall E.KS (bRange_ok) (sEs_cons (sE_bin bin_mod (sE_bin bin_fdiv sE_v (sE_int _ _ _)) (sE_int _ _ _)) sEs_nil (fun _ => rfl)) (by kernel_rfl) (E.g (by kernel_rfl)) (E.b (by kernel_rfl) (by kernel_rfl)) (by kernel_rfl) (by kernel_rfl)) sFs_nil (sE_item sE_v (sE_bin bin_mod (sE_bin bin_add (sE_bin bin_fdiv sE_v (sE_int _ _ _)) sE_v) (sE_bcall E.KS (bLen_ok E.KS) (sEs_cons sE_v sEs_nil (fun _ => rfl)) (by kernel_rfl) (E.g (by kernel_rfl)) (E.b (by kernel_rfl) (by kernel_rfl)) (by kernel_rfl) (by kernel_rfl)))) (comp_at (by kernel_rfl)) (fun _ _ => rfl) (by kernel_rfl) (or_kd (by kernel_rfl))))
 (ss_cons (.mk (sT_assign (sE_bin bin_mod (sE_bin bin_fdiv sE_v (sE_int _ _ _)) (sE_bin bin_add (sE_bcall E.KS (bLen_ok E.KS) (sEs_cons sE_v sEs_nil (fun _ => rfl)) (by kernel_rfl) (E.g (by kernel_rfl)) (E.b (by kernel_rfl) (by kernel_rfl)) (by kernel_rfl) (by kernel_rfl)) (sE_int _ _ _))) rho0 (by kernel_rfl) (or_kd (by kernel_rfl)) (fun _ => rfl)))
 (ss_cons (sT_ifW (sB_cmp cmp_eq (sE_bin bin_mod sE_v (sE_int _ _ _)) (sE_int _ _ _) rfl) (ss_cons (sT_retL (se_list (ses_T (se_tuple (ses_C (se_str _ _ _ (by kernel_rfl)) (ses_C (se_str _ _ _ (by kernel_rfl)) ses_nil))) (ses_C (se_none _ _) (ses_C (se_str _ _ _ (by kernel_rfl)) (ses_C (se_int _ _ _) (ses_C (se_bool _ _ _) (ses_X (.mk (sE_dict1 _ _ _ _ _ _ _ (by kernel_rfl))) ses_nil (fun _ => rfl)))))))) (sE_bin bin_mod (sE_bin bin_fdiv sE_v (sE_int _ _ _)) (sE_int _ _ _)))
 (.mk sS_nil)) (.mk sS_nil))
 (.mk (sS_cons (sT_if (sB_cmp cmp_eq (sE_bin bin_mod sE_v (sE_int _ _ _)) (sE_int _ _ _) rfl) (sS_cons (sT_ret (sE_bin bin_add (sE_bin bin_add (sE_slice sE_v sP_none (sP_some sE_v)) (sE_list (sEs_cons (sE_callD E.KS (h_l_odd.deeper (by omega)) (sEs_cons (sE_bin bin_fdiv sE_v (sE_int _ _ _)) sEs_nil (fun _ => rfl)) (by kernel_rfl) (E.g (by kernel_rfl)) (isFn_of E.X (by kernel_rfl)) (by kernel_rfl) (by kernel_rfl)) sEs_nil (fun _ => rfl)))) (sE_slice sE_v (sP_some sE_v) sP_none)))
 sS_nil) sS_nil)
 (sS_cons (sT_if (sB_cmp cmp_eq (sE_bin bin_mod sE_v (sE_int _ _ _)) (sE_int _ _ _) rfl) (sS_cons (sT_ret (sE_bin bin_add sE_v (sE_list (sEs_cons (sE_str _ _ _ (by kernel_rfl)) (sEs_cons (sE_str _ _ _ (by kernel_rfl)) sEs_nil (fun _ => rfl)) (fun _ => rfl)))))
 sS_nil) sS_nil)
 (sS_cons (sT_if (sB_cmp cmp_eq (sE_bin bin_mod sE_v (sE_int _ _ _)) (sE_int _ _ _) rfl) (sS_cons (sT_ret (sE_bin bin_add (sE_bin bin_add (sE_slice sE_v sP_none (sP_some sE_v)) (sE_list (sEs_cons (sE_str _ _ _ (by kernel_rfl)) sEs_nil (fun _ => rfl)))) (sE_slice sE_v (sP_some sE_v) sP_none)))
 sS_nil) sS_nil)
 (sS_cons (sT_ret sE_v)
 sS_nil))))))))
theorem fn_l_list {S : St} {P : Params} (E : EnvL S (KK P)) (hE : S.excs = excT) (hO_BadName : OwnVE S (Str.ofString "BadName") 44) (hO_BadRow : OwnVE S (Str.ofString "BadRow") 56) (hO_TooMany : OwnVE S (Str.ofString "TooMany") 80) (hO_NoMeet : OwnVE S (Str.ofString "NoMeet") 92) (CL : Cls S (KK P)) (hB : S.book = 284) (h_l_odd : SoundF S true 2 (.ref 323) F_l_odd) : SoundF S true 4 (.ref 328) (mkFn is_l_list T_l_list) :=
 sF_defW E.KS (isDef_of E.X (cd := 327) (ps := [(Str.ofString "_law_cell"), (Str.ofString "_law_names")]) rfl ⟨_, rfl⟩ rfl rfl rfl rfl ⟨_, _, _, rfl, rfl, rfl⟩ (bind2 fun _ _ => rfl)) (by kernel_rfl) (snd_l_list E hE hO_BadName hO_BadRow hO_TooMany hO_NoMeet CL hB h_l_odd)
noncomputable def rho_l_is_name : Rho := [((Str.ofString "_law_thing"), 0)]
theorem snd_l_is_name {S : St} {P : Params} (E : EnvL S (KK P)) (hE : S.excs = excT) (hO_BadName : OwnVE S (Str.ofString "BadName") 44) (hO_BadRow : OwnVE S (Str.ofString "BadRow") 56) (hO_TooMany : OwnVE S (Str.ofString "TooMany") 80) (hO_NoMeet : OwnVE S (Str.ofString "NoMeet") 92) (CL : Cls S (KK P)) (hB : S.book = 284)  : SoundS S true 1 (scAt (KK P) 333) rho_l_is_name (bodyAt (KK P) 333) T_l_is_name :=
 have rho0 : RhoOK rho_l_is_name := rho_ok (by kernel_rfl)
 (sS_cons (sT_if (sB_boolOp (sL_or (sB_not (sB_truth (sE_isi E.KS isi_ok_str sE_v (by kernel_rfl) (E.g (by kernel_rfl)) (E.b (by kernel_rfl) (by kernel_rfl)) (by kernel_rfl) (E.g (by kernel_rfl)) (E.b (by kernel_rfl) (by kernel_rfl)) (by kernel_rfl) (by kernel_rfl) (by kernel_rfl)) (fun _ _ => rfl))) (sL_or (sB_not (sB_chain cmp_le cmp_le (sE_int _ _ _) (sE_bcall E.KS (bLen_ok E.KS) (sEs_cons sE_v sEs_nil (fun _ => rfl)) (by kernel_rfl) (E.g (by kernel_rfl)) (E.b (by kernel_rfl) (by kernel_rfl)) (by kernel_rfl) (by kernel_rfl)) (sE_int _ _ _) rfl)) sL_orNil))) (sS_cons (sT_ret (sE_bool _ _ _))
 sS_nil) sS_nil)
 (sS_cons (sT_ret (sE_cmp cmp_eq (sE_comp sE_v (sFs_one (sB_cmp cmp_notIn sE_v (sE_str _ _ _ (by kernel_rfl)) rfl)) sE_v (comp_at (by kernel_rfl)) (fun _ _ => rfl)) (sE_list sEs_nil) rfl))
 sS_nil))
theorem fn_l_is_name {S : St} {P : Params} (E : EnvL S (KK P)) (hE : S.excs = excT) (hO_BadName : OwnVE S (Str.ofString "BadName") 44) (hO_BadRow : OwnVE S (Str.ofString "BadRow") 56) (hO_TooMany : OwnVE S (Str.ofString "TooMany") 80) (hO_NoMeet : OwnVE S (Str.ofString "NoMeet") 92) (CL : Cls S (KK P)) (hB : S.book = 284)  : SoundF S true 2 (.ref 333) (mkFn is_l_is_name T_l_is_name) :=
 sF_defK E.KS (isDef_of E.X (cd := 332) (ps := [(Str.ofString "_law_thing")]) rfl ⟨_, rfl⟩ rfl rfl rfl rfl ⟨_, _, _, rfl, rfl, rfl⟩ (bind1 fun _ => rfl)) (by kernel_rfl) (snd_l_is_name E hE hO_BadName hO_BadRow hO_TooMany hO_NoMeet CL hB )
noncomputable def rho_l_due : Rho := [((Str.ofString "_law_way"), 0), ((Str.ofString "_law_thing"), 1), ((Str.ofString "_law_there"), 2), ((Str.ofString "_law_many"), 3), ((Str.ofString "_law_fresh"), 4)]
theorem snd_l_due {S : St} {P : Params} (E : EnvL S (KK P)) (hE : S.excs = excT) (hO_BadName : OwnVE S (Str.ofString "BadName") 44) (hO_BadRow : OwnVE S (Str.ofString "BadRow") 56) (hO_TooMany : OwnVE S (Str.ofString "TooMany") 80) (hO_NoMeet : OwnVE S (Str.ofString "NoMeet") 92) (CL : Cls S (KK P)) (hB : S.book = 284) (h_l_is_name : SoundF S true 2 (.ref 333) F_l_is_name) : SoundS S true 3 (scAt (KK P) 338) rho_l_due (bodyAt (KK P) 338) T_l_due :=
 have rho0 : RhoOK rho_l_due := rho_ok (by kernel_rfl)
 (sS_cons (sT_if (sB_cmp cmp_gt sE_v (sE_int _ _ _) rfl) (sS_cons (sT_ret (sE_if (sB_truth (sE_callD E.KS (h_l_is_name.deeper (by omega)) (sEs_cons sE_v sEs_nil (fun _ => rfl)) (by kernel_rfl) (E.g (by kernel_rfl)) (isFn_of E.X (by kernel_rfl)) (by kernel_rfl) (by kernel_rfl)) (fun _ _ => rfl)) (sE_str _ _ _ (by kernel_rfl)) (sE_str _ _ _ (by kernel_rfl))))
 sS_nil) sS_nil)
 (sS_cons (sT_if (sB_not (sB_truth (sE_isi E.KS isi_ok_list sE_v (by kernel_rfl) (E.g (by kernel_rfl)) (E.b (by kernel_rfl) (by kernel_rfl)) (by kernel_rfl) (E.g (by kernel_rfl)) (E.b (by kernel_rfl) (by kernel_rfl)) (by kernel_rfl) (by kernel_rfl) (by kernel_rfl)) (fun _ _ => rfl))) (sS_cons (sT_ret (sE_str _ _ _ (by kernel_rfl)))
 sS_nil) sS_nil)
 (sS_cons (sT_if (sB_cmp cmp_ne (sE_comp sE_v (sFs_one (sB_not (sB_truth (sE_callD E.KS (h_l_is_name.deeper (by omega)) (sEs_cons sE_v sEs_nil (fun _ => rfl)) (by kernel_rfl) (E.g (by kernel_rfl)) (isFn_of E.X (by kernel_rfl)) (by kernel_rfl) (by kernel_rfl)) (fun _ _ => rfl)))) sE_v (comp_at (by kernel_rfl)) (fun _ _ => rfl)) (sE_list sEs_nil) rfl) (sS_cons (sT_ret (sE_str _ _ _ (by kernel_rfl)))
 sS_nil) sS_nil)
 (sS_cons (sT_if (sB_cmp cmp_gt sE_v (sE_int _ _ _) rfl) (sS_cons (sT_ret (sE_str _ _ _ (by kernel_rfl)))
 sS_nil) sS_nil)
 (sS_cons (sT_if (sB_cmp cmp_ne (sE_comp sE_v (sFs_one (sB_cmp cmp_gt (sE_meth meth_count bCount_ok sE_v (sEs_cons sE_v sEs_nil (fun _ => rfl)) (fun _ => rfl) (by kernel_rfl) (by kernel_rfl) (by decide)) (sE_int _ _ _) rfl)) sE_v (comp_at (by kernel_rfl)) (fun _ _ => rfl)) (sE_list sEs_nil) rfl) (sS_cons (sT_ret (sE_str _ _ _ (by kernel_rfl)))
 sS_nil) sS_nil)
 (sS_cons (sT_assignComp sE_v (sFs_one (sB_cmp cmp_notIn sE_v sE_v rfl)) sE_v (comp_at (by kernel_rfl)) (fun _ _ => rfl) (by kernel_rfl) (or_kd (by kernel_rfl)))
 (sS_cons (sT_ret (sE_if (sB_boolOp (sL_or (sB_cmp cmp_eq sE_v (sE_int _ _ _) rfl) (sL_or (sB_cmp cmp_gt (sE_bin bin_add (sE_bcall E.KS (bLen_ok E.KS) (sEs_cons sE_v sEs_nil (fun _ => rfl)) (by kernel_rfl) (E.g (by kernel_rfl)) (E.b (by kernel_rfl) (by kernel_rfl)) (by kernel_rfl) (by kernel_rfl)) (sE_bcall E.KS (bLen_ok E.KS) (sEs_cons sE_v sEs_nil (fun _ => rfl)) (by kernel_rfl) (E.g (by kernel_rfl)) (E.b (by kernel_rfl) (by kernel_rfl)) (by kernel_rfl) (by kernel_rfl))) (sE_int _ _ _) rfl) sL_orNil))) (sE_str _ _ _ (by kernel_rfl)) (sE_str _ _ _ (by kernel_rfl))))
 sS_nil)))))))
theorem fn_l_due {S : St} {P : Params} (E : EnvL S (KK P)) (hE : S.excs = excT) (hO_BadName : OwnVE S (Str.ofString "BadName") 44) (hO_BadRow : OwnVE S (Str.ofString "BadRow") 56) (hO_TooMany : OwnVE S (Str.ofString "TooMany") 80) (hO_NoMeet : OwnVE S (Str.ofString "NoMeet") 92) (CL : Cls S (KK P)) (hB : S.book = 284) (h_l_is_name : SoundF S true 2 (.ref 333) F_l_is_name) : SoundF S true 4 (.ref 338) (mkFn is_l_due T_l_due) :=
 sF_defK E.KS (isDef_of E.X (cd := 337) (ps := [(Str.ofString "_law_way"), (Str.ofString "_law_thing"), (Str.ofString "_law_there"), (Str.ofString "_law_many")]) rfl ⟨_, rfl⟩ rfl rfl rfl rfl ⟨_, _, _, rfl, rfl, rfl⟩ (fun vals h => match vals, h with | [_, _, _, _], _ => rfl)) (by kernel_rfl) (snd_l_due E hE hO_BadName hO_BadRow hO_TooMany hO_NoMeet CL hB h_l_is_name)
noncomputable def rho_meets : Rho := [((Str.ofString "one"), 0), ((Str.ofString "other"), 1)]
theorem snd_meets {S : St} {P : Params} (E : EnvL S (KK P)) (hE : S.excs = excT) (hO_BadName : OwnVE S (Str.ofString "BadName") 44) (hO_BadRow : OwnVE S (Str.ofString "BadRow") 56) (hO_TooMany : OwnVE S (Str.ofString "TooMany") 80) (hO_NoMeet : OwnVE S (Str.ofString "NoMeet") 92) (CL : Cls S (KK P)) (hB : S.book = 284)  : SoundS S true 1 (scAt (KK P) 128) rho_meets (bodyAt (KK P) 128) T_meets :=
 have rho0 : RhoOK rho_meets := rho_ok (by kernel_rfl)
 (sS_cons (sT_ret (sE_bcall E.KS (bAny_ok) (sEs_cons (sE_comp sE_v sFs_nil (sE_cmp cmp_in sE_v sE_v rfl) (comp_at (by kernel_rfl)) (fun _ _ => rfl)) sEs_nil (fun _ => rfl)) (by kernel_rfl) (E.g (by kernel_rfl)) (E.b (by kernel_rfl) (by kernel_rfl)) (by kernel_rfl) (by kernel_rfl)))
 sS_nil)
theorem fn_meets {S : St} {P : Params} (E : EnvL S (KK P)) (hE : S.excs = excT) (hO_BadName : OwnVE S (Str.ofString "BadName") 44) (hO_BadRow : OwnVE S (Str.ofString "BadRow") 56) (hO_TooMany : OwnVE S (Str.ofString "TooMany") 80) (hO_NoMeet : OwnVE S (Str.ofString "NoMeet") 92) (CL : Cls S (KK P)) (hB : S.book = 284)  : SoundF S true 2 (.ref 128) (mkFn is_meets T_meets) :=
 sF_defK E.KS (isDef_of E.X (cd := 127) (ps := [(Str.ofString "one"), (Str.ofString "other")]) rfl ⟨_, rfl⟩ rfl rfl rfl rfl ⟨_, _, _, rfl, rfl, rfl⟩ (bind2 fun _ _ => rfl)) (by kernel_rfl) (snd_meets E hE hO_BadName hO_BadRow hO_TooMany hO_NoMeet CL hB )
noncomputable def rho_b_is_met : Rho := [((Str.ofString "self"), 0), ((Str.ofString "names"), 1)]
theorem snd_b_is_met {S : St} {P : Params} (E : EnvL S (KK P)) (hE : S.excs = excT) (hO_BadName : OwnVE S (Str.ofString "BadName") 44) (hO_BadRow : OwnVE S (Str.ofString "BadRow") 56) (hO_TooMany : OwnVE S (Str.ofString "TooMany") 80) (hO_NoMeet : OwnVE S (Str.ofString "NoMeet") 92) (CL : Cls S (KK P)) (hB : S.book = 284) (h_meets : SoundF S true 2 (.ref 128) F_meets) (h_b_all_sets : SoundF S true 4 (.ref 195) F_b_all_sets) : SoundS S true 5 (scAt (KK P) 221) rho_b_is_met (bodyAt (KK P) 221) T_b_is_met :=
 have rho0 : RhoOK rho_b_is_met := rho_ok (by kernel_rfl)
 (sS_cons (sT_ret (sE_bcall E.KS (bAll_ok) (sEs_cons (sE_comp (sE_mcall E CL (h_b_all_sets.deeper (by omega)) sE_v sEs_nil (fun _ => rfl) (by kernel_rfl) (by kernel_rfl) (by decide) (by rw [hB]; kernel_rfl) (by kernel_rfl) (by kernel_rfl)) sFs_nil (sE_callD E.KS (h_meets.deeper (by omega)) (sEs_cons sE_v (sEs_cons sE_v sEs_nil (fun _ => rfl)) (fun _ => rfl)) (by kernel_rfl) (E.g (by kernel_rfl)) (isFn_of E.X (by kernel_rfl)) (by kernel_rfl) (by kernel_rfl)) (comp_at (by kernel_rfl)) (fun _ _ => rfl)) sEs_nil (fun _ => rfl)) (by kernel_rfl) (E.g (by kernel_rfl)) (E.b (by kernel_rfl) (by kernel_rfl)) (by kernel_rfl) (by kernel_rfl)))
 sS_nil)
theorem fn_b_is_met {S : St} {P : Params} (E : EnvL S (KK P)) (hE : S.excs = excT) (hO_BadName : OwnVE S (Str.ofString "BadName") 44) (hO_BadRow : OwnVE S (Str.ofString "BadRow") 56) (hO_TooMany : OwnVE S (Str.ofString "TooMany") 80) (hO_NoMeet : OwnVE S (Str.ofString "NoMeet") 92) (CL : Cls S (KK P)) (hB : S.book = 284) (h_meets : SoundF S true 2 (.ref 128) F_meets) (h_b_all_sets : SoundF S true 4 (.ref 195) F_b_all_sets) : SoundF S true 6 (.ref 221) (mkFn is_b_is_met T_b_is_met) :=
 sF_defK E.KS (isDef_of E.X (cd := 220) (ps := [(Str.ofString "self"), (Str.ofString "names")]) rfl ⟨_, rfl⟩ rfl rfl rfl rfl ⟨_, _, _, rfl, rfl, rfl⟩ (bind2 fun _ _ => rfl)) (by kernel_rfl) (snd_b_is_met E hE hO_BadName hO_BadRow hO_TooMany hO_NoMeet CL hB h_meets h_b_all_sets)
noncomputable def rho_b_meets : Rho := [((Str.ofString "self"), 0), ((Str.ofString "names"), 1)]
theorem snd_b_meets {S : St} {P : Params} (E : EnvL S (KK P)) (hE : S.excs = excT) (hO_BadName : OwnVE S (Str.ofString "BadName") 44) (hO_BadRow : OwnVE S (Str.ofString "BadRow") 56) (hO_TooMany : OwnVE S (Str.ofString "TooMany") 80) (hO_NoMeet : OwnVE S (Str.ofString "NoMeet") 92) (CL : Cls S (KK P)) (hB : S.book = 284) (h_b_is_met : SoundF S true 6 (.ref 221) F_b_is_met) (h_need_set : SoundF S true 6 (.ref 150) F_need_set) : SoundS S true 7 (scAt (KK P) 228) rho_b_meets (bodyAt (KK P) 228) T_b_meets :=
 have rho0 : RhoOK rho_b_meets := rho_ok (by kernel_rfl)
 (sS_cons (sT_ret (sE_mcall E CL (h_b_is_met.deeper (by omega)) sE_v (sEs_cons (sE_callD E.KS (h_need_set.deeper (by omega)) (sEs_cons sE_v sEs_nil (fun _ => rfl)) (by kernel_rfl) (E.g (by kernel_rfl)) (isFn_of E.X (by kernel_rfl)) (by kernel_rfl) (by kernel_rfl)) sEs_nil (fun _ => rfl)) (fun _ => rfl) (by kernel_rfl) (by kernel_rfl) (by decide) (by rw [hB]; kernel_rfl) (by kernel_rfl) (by kernel_rfl)))
 sS_nil)
theorem fn_b_meets {S : St} {P : Params} (E : EnvL S (KK P)) (hE : S.excs = excT) (hO_BadName : OwnVE S (Str.ofString "BadName") 44) (hO_BadRow : OwnVE S (Str.ofString "BadRow") 56) (hO_TooMany : OwnVE S (Str.ofString "TooMany") 80) (hO_NoMeet : OwnVE S (Str.ofString "NoMeet") 92) (CL : Cls S (KK P)) (hB : S.book = 284) (h_b_is_met : SoundF S true 6 (.ref 221) F_b_is_met) (h_need_set : SoundF S true 6 (.ref 150) F_need_set) : SoundF S true 8 (.ref 228) (mkFn is_b_meets T_b_meets) :=
 sF_defK E.KS (isDef_of E.X (cd := 227) (ps := [(Str.ofString "self"), (Str.ofString "names")]) rfl ⟨_, rfl⟩ rfl rfl rfl rfl ⟨_, _, _, rfl, rfl, rfl⟩ (bind2 fun _ _ => rfl)) (by kernel_rfl) (snd_b_meets E hE hO_BadName hO_BadRow hO_TooMany hO_NoMeet CL hB h_b_is_met h_need_set)
noncomputable def rho_b_pared : Rho := [((Str.ofString "self"), 0), ((Str.ofString "names"), 1), ((Str.ofString "found"), 2), ((Str.ofString "name"), 3), ((Str.ofString "rest"), 4)]
theorem snd_b_pared {S : St} {P : Params} (E : EnvL S (KK P)) (hE : S.excs = excT) (hO_BadName : OwnVE S (Str.ofString "BadName") 44) (hO_BadRow : OwnVE S (Str.ofString "BadRow") 56) (hO_TooMany : OwnVE S (Str.ofString "TooMany") 80) (hO_NoMeet : OwnVE S (Str.ofString "NoMeet") 92) (CL : Cls S (KK P)) (hB : S.book = 284) (h_need_set : SoundF S true 6 (.ref 150) F_need_set) (h_b_is_met : SoundF S true 6 (.ref 221) F_b_is_met) : SoundS S true 7 (scAt (KK P) 233) rho_b_pared (bodyAt (KK P) 233) T_b_pared :=
 have rho0 : RhoOK rho_b_pared := rho_ok (by kernel_rfl)
 (sS_cons (sT_assign (sE_callD E.KS (h_need_set.deeper (by omega)) (sEs_cons sE_v sEs_nil (fun _ => rfl)) (by kernel_rfl) (E.g (by kernel_rfl)) (isFn_of E.X (by kernel_rfl)) (by kernel_rfl) (by kernel_rfl)) rho0 (by kernel_rfl) (or_kd (by kernel_rfl)) (fun _ => rfl))
 (sS_cons (sT_if (sB_not (sB_truth (sE_mcall E CL (h_b_is_met.deeper (by omega)) sE_v (sEs_cons sE_v sEs_nil (fun _ => rfl)) (fun _ => rfl) (by kernel_rfl) (by kernel_rfl) (by decide) (by rw [hB]; kernel_rfl) (by kernel_rfl) (by kernel_rfl)) (fun _ _ => rfl))) (sS_cons (sT_raiseK (C0 := 92) E hO_NoMeet (by rw [hE]; kernel_rfl) (sEs_cons (sE_str _ _ _ (by kernel_rfl)) sEs_nil (fun _ => rfl)) (by kernel_rfl) (by kernel_rfl) (by kernel_rfl))
 sS_nil) sS_nil)
 (sS_cons (sT_for (sE_revList E.KS sE_v (by kernel_rfl) (E.g (by kernel_rfl)) (E.b (by kernel_rfl) (by kernel_rfl)) (by kernel_rfl) (by kernel_rfl) (E.g (by kernel_rfl)) (E.b (by kernel_rfl) (by kernel_rfl)) (by kernel_rfl) (by kernel_rfl)) (sS_cons (sT_assignComp sE_v (sFs_one (sB_cmp cmp_ne sE_v sE_v rfl)) sE_v (comp_at (by kernel_rfl)) (fun _ _ => rfl) (by kernel_rfl) (or_kd (by kernel_rfl)))
 (sS_cons (sT_if (sB_truth (sE_mcall E CL (h_b_is_met.deeper (by omega)) sE_v (sEs_cons sE_v sEs_nil (fun _ => rfl)) (fun _ => rfl) (by kernel_rfl) (by kernel_rfl) (by decide) (by rw [hB]; kernel_rfl) (by kernel_rfl) (by kernel_rfl)) (fun _ _ => rfl)) (sS_cons (sT_assign sE_v rho0 (by kernel_rfl) (or_kd (by kernel_rfl)) (fun _ => rfl))
 sS_nil) sS_nil)
 sS_nil)) rho0 (by kernel_rfl) (or_kd (by kernel_rfl)) (fun _ _ => rfl))
 (sS_cons (sT_ret sE_v)
 sS_nil))))
theorem fn_b_pared {S : St} {P : Params} (E : EnvL S (KK P)) (hE : S.excs = excT) (hO_BadName : OwnVE S (Str.ofString "BadName") 44) (hO_BadRow : OwnVE S (Str.ofString "BadRow") 56) (hO_TooMany : OwnVE S (Str.ofString "TooMany") 80) (hO_NoMeet : OwnVE S (Str.ofString "NoMeet") 92) (CL : Cls S (KK P)) (hB : S.book = 284) (h_need_set : SoundF S true 6 (.ref 150) F_need_set) (h_b_is_met : SoundF S true 6 (.ref 221) F_b_is_met) : SoundF S true 8 (.ref 233) (mkFn is_b_pared T_b_pared) :=
 sF_defK E.KS (isDef_of E.X (cd := 232) (ps := [(Str.ofString "self"), (Str.ofString "names")]) rfl ⟨_, rfl⟩ rfl rfl rfl rfl ⟨_, _, _, rfl, rfl, rfl⟩ (bind2 fun _ _ => rfl)) (by kernel_rfl) (snd_b_pared E hE hO_BadName hO_BadRow hO_TooMany hO_NoMeet CL hB h_need_set h_b_is_met)
noncomputable def rho_b_own : Rho := [((Str.ofString "self"), 0), ((Str.ofString "names"), 1), ((Str.ofString "wanted"), 2), ((Str.ofString "found"), 3), ((Str.ofString "name"), 4), ((Str.ofString "rest"), 5), ((Str.ofString "numbers"), 6)]
theorem snd_b_own {S : St} {P : Params} (E : EnvL S (KK P)) (hE : S.excs = excT) (hO_BadName : OwnVE S (Str.ofString "BadName") 44) (hO_BadRow : OwnVE S (Str.ofString "BadRow") 56) (hO_TooMany : OwnVE S (Str.ofString "TooMany") 80) (hO_NoMeet : OwnVE S (Str.ofString "NoMeet") 92) (CL : Cls S (KK P)) (hB : S.book = 284) (h_need_set : SoundF S true 6 (.ref 150) F_need_set) (h_b_is_met : SoundF S true 6 (.ref 221) F_b_is_met) (h_b_rows : SoundF S true 2 (.ref 190) F_b_rows) (h_meets : SoundF S true 2 (.ref 128) F_meets) : SoundS S true 7 (scAt (KK P) 238) rho_b_own (bodyAt (KK P) 238) T_b_own :=
 have rho0 : RhoOK rho_b_own := rho_ok (by kernel_rfl)
 (sS_cons (sT_assign (sE_callD E.KS (h_need_set.deeper (by omega)) (sEs_cons sE_v sEs_nil (fun _ => rfl)) (by kernel_rfl) (E.g (by kernel_rfl)) (isFn_of E.X (by kernel_rfl)) (by kernel_rfl) (by kernel_rfl)) rho0 (by kernel_rfl) (or_kd (by kernel_rfl)) (fun _ => rfl))
 (sS_cons (sT_if (sB_not (sB_truth (sE_mcall E CL (h_b_is_met.deeper (by omega)) sE_v (sEs_cons sE_v sEs_nil (fun _ => rfl)) (fun _ => rfl) (by kernel_rfl) (by kernel_rfl) (by decide) (by rw [hB]; kernel_rfl) (by kernel_rfl) (by kernel_rfl)) (fun _ _ => rfl))) (sS_cons (sT_raiseK (C0 := 92) E hO_NoMeet (by rw [hE]; kernel_rfl) (sEs_cons (sE_str _ _ _ (by kernel_rfl)) sEs_nil (fun _ => rfl)) (by kernel_rfl) (by kernel_rfl) (by kernel_rfl))
 sS_nil) sS_nil)
 (sS_cons (sT_assign (sE_list sEs_nil) rho0 (by kernel_rfl) (or_kd (by kernel_rfl)) (fun _ => rfl))
 (sS_cons (sT_for sE_v (sS_cons (sT_assignComp sE_v (sFs_one (sB_cmp cmp_ne sE_v sE_v rfl)) sE_v (comp_at (by kernel_rfl)) (fun _ _ => rfl) (by kernel_rfl) (or_kd (by kernel_rfl)))
 (sS_cons (sT_assignComp (sE_mcall E CL (h_b_rows.deeper (by omega)) sE_v sEs_nil (fun _ => rfl) (by kernel_rfl) (by kernel_rfl) (by decide) (by rw [hB]; kernel_rfl) (by kernel_rfl) (by kernel_rfl)) (sFs_one (sB_boolOp (sL_and (sB_cmp cmp_in sE_v (sE_item sE_v (sE_int _ _ _)) rfl) (sL_and (sB_not (sB_truth (sE_callD E.KS (h_meets.deeper (by omega)) (sEs_cons sE_v (sEs_cons (sE_item sE_v (sE_int _ _ _)) sEs_nil (fun _ => rfl)) (fun _ => rfl)) (by kernel_rfl) (E.g (by kernel_rfl)) (isFn_of E.X (by kernel_rfl)) (by kernel_rfl) (by kernel_rfl)) (fun _ _ => rfl))) sL_andNil)))) (sE_item sE_v (sE_int _ _ _)) (comp_at (by kernel_rfl)) (fun _ _ => rfl) (by kernel_rfl) (or_kd (by kernel_rfl)))
 (sS_cons (sT_if (sB_cmp cmp_eq sE_v (sE_list sEs_nil) rfl) (sS_cons (sT_raiseK (C0 := 92) E hO_NoMeet (by rw [hE]; kernel_rfl) (sEs_cons (sE_str _ _ _ (by kernel_rfl)) sEs_nil (fun _ => rfl)) (by kernel_rfl) (by kernel_rfl) (by kernel_rfl))
 sS_nil) sS_nil)
 (sS_cons (sT_expr (sE_meth meth_append bAppend_ok sE_v (sEs_cons (sE_tuple (sEs_cons sE_v (sEs_cons (sE_item sE_v (sE_int _ _ _)) sEs_nil (fun _ => rfl)) (fun _ => rfl))) sEs_nil (fun _ => rfl)) (fun _ => rfl) (by kernel_rfl) (by kernel_rfl) (by decide)) (fun _ => rfl))
 sS_nil)))) rho0 (by kernel_rfl) (or_kd (by kernel_rfl)) (fun _ _ => rfl))
 (sS_cons (sT_ret sE_v)
 sS_nil)))))
theorem fn_b_own {S : St} {P : Params} (E : EnvL S (KK P)) (hE : S.excs = excT) (hO_BadName : OwnVE S (Str.ofString "BadName") 44) (hO_BadRow : OwnVE S (Str.ofString "BadRow") 56) (hO_TooMany : OwnVE S (Str.ofString "TooMany") 80) (hO_NoMeet : OwnVE S (Str.ofString "NoMeet") 92) (CL : Cls S (KK P)) (hB : S.book = 284) (h_need_set : SoundF S true 6 (.ref 150) F_need_set) (h_b_is_met : SoundF S true 6 (.ref 221) F_b_is_met) (h_b_rows : SoundF S true 2 (.ref 190) F_b_rows) (h_meets : SoundF S true 2 (.ref 128) F_meets) : SoundF S true 8 (.ref 238) (mkFn is_b_own T_b_own) :=
 sF_defK E.KS (isDef_of E.X (cd := 237) (ps := [(Str.ofString "self"), (Str.ofString "names")]) rfl ⟨_, rfl⟩ rfl rfl rfl rfl ⟨_, _, _, rfl, rfl, rfl⟩ (bind2 fun _ _ => rfl)) (by kernel_rfl) (snd_b_own E hE hO_BadName hO_BadRow hO_TooMany hO_NoMeet CL hB h_need_set h_b_is_met h_b_rows h_meets)
noncomputable def rho_need_name : Rho := [((Str.ofString "thing"), 0)]
theorem snd_need_name {S : St} {P : Params} (E : EnvL S (KK P)) (hE : S.excs = excT) (hO_BadName : OwnVE S (Str.ofString "BadName") 44) (hO_BadRow : OwnVE S (Str.ofString "BadRow") 56) (hO_TooMany : OwnVE S (Str.ofString "TooMany") 80) (hO_NoMeet : OwnVE S (Str.ofString "NoMeet") 92) (CL : Cls S (KK P)) (hB : S.book = 284) (h_is_name : SoundF S true 2 (.ref 111) F_is_name) : SoundS S true 3 (scAt (KK P) 157) rho_need_name (bodyAt (KK P) 157) T_need_name :=
 have rho0 : RhoOK rho_need_name := rho_ok (by kernel_rfl)
 (sS_cons (sT_if (sB_not (sB_truth (sE_callD E.KS (h_is_name.deeper (by omega)) (sEs_cons sE_v sEs_nil (fun _ => rfl)) (by kernel_rfl) (E.g (by kernel_rfl)) (isFn_of E.X (by kernel_rfl)) (by kernel_rfl) (by kernel_rfl)) (fun _ _ => rfl))) (sS_cons (sT_raiseK (C0 := 44) E hO_BadName (by rw [hE]; kernel_rfl) (sEs_cons (sE_str _ _ _ (by kernel_rfl)) sEs_nil (fun _ => rfl)) (by kernel_rfl) (by kernel_rfl) (by kernel_rfl))
 sS_nil) sS_nil)
 sS_nil)
theorem fn_need_name {S : St} {P : Params} (E : EnvL S (KK P)) (hE : S.excs = excT) (hO_BadName : OwnVE S (Str.ofString "BadName") 44) (hO_BadRow : OwnVE S (Str.ofString "BadRow") 56) (hO_TooMany : OwnVE S (Str.ofString "TooMany") 80) (hO_NoMeet : OwnVE S (Str.ofString "NoMeet") 92) (CL : Cls S (KK P)) (hB : S.book = 284) (h_is_name : SoundF S true 2 (.ref 111) F_is_name) : SoundF S true 4 (.ref 157) (mkFn is_need_name T_need_name) :=
 sF_defK E.KS (isDef_of E.X (cd := 156) (ps := [(Str.ofString "thing")]) rfl ⟨_, rfl⟩ rfl rfl rfl rfl ⟨_, _, _, rfl, rfl, rfl⟩ (bind1 fun _ => rfl)) (by kernel_rfl) (snd_need_name E hE hO_BadName hO_BadRow hO_TooMany hO_NoMeet CL hB h_is_name)
noncomputable def rho_book_of : Rho := [((Str.ofString "rows"), 0), ((Str.ofString "book"), 1), ((Str.ofString "row"), 2)]
theorem snd_book_of {S : St} {P : Params} (E : EnvL S (KK P)) (hE : S.excs = excT) (hO_BadName : OwnVE S (Str.ofString "BadName") 44) (hO_BadRow : OwnVE S (Str.ofString "BadRow") 56) (hO_TooMany : OwnVE S (Str.ofString "TooMany") 80) (hO_NoMeet : OwnVE S (Str.ofString "NoMeet") 92) (CL : Cls S (KK P)) (hB : S.book = 284) (h_b_init : SoundF S true 2 (.ref 171) F_b_init) (h_b_put : SoundF S true 8 (.ref 178) F_b_put) : SoundS S true 9 (scAt (KK P) 295) rho_book_of (bodyAt (KK P) 295) T_book_of :=
 have rho0 : RhoOK rho_book_of := rho_ok (by kernel_rfl)
 (sS_cons (sT_assign (sE_make E CL (h_b_init.deeper (by omega)) (by kernel_rfl) (by rw [hB]; exact E.g (by kernel_rfl)) (by kernel_rfl) (by rw [hB]; kernel_rfl) (by kernel_rfl)) rho0 (by kernel_rfl) (or_kd (by kernel_rfl)) (fun _ => rfl))
 (sS_cons (sT_for sE_v (sS_cons (sT_expr (sE_mcall E CL (h_b_put.deeper (by omega)) sE_v (sEs_cons sE_v sEs_nil (fun _ => rfl)) (fun _ => rfl) (by kernel_rfl) (by kernel_rfl) (by decide) (by rw [hB]; kernel_rfl) (by kernel_rfl) (by kernel_rfl)) (fun _ => rfl))
 sS_nil) rho0 (by kernel_rfl) (or_kd (by kernel_rfl)) (fun _ _ => rfl))
 (sS_cons (sT_ret sE_v)
 sS_nil)))
theorem fn_book_of {S : St} {P : Params} (E : EnvL S (KK P)) (hE : S.excs = excT) (hO_BadName : OwnVE S (Str.ofString "BadName") 44) (hO_BadRow : OwnVE S (Str.ofString "BadRow") 56) (hO_TooMany : OwnVE S (Str.ofString "TooMany") 80) (hO_NoMeet : OwnVE S (Str.ofString "NoMeet") 92) (CL : Cls S (KK P)) (hB : S.book = 284) (h_b_init : SoundF S true 2 (.ref 171) F_b_init) (h_b_put : SoundF S true 8 (.ref 178) F_b_put) : SoundF S true 10 (.ref 295) (mkFn is_book_of T_book_of) :=
 sF_defK E.KS (isDef_of E.X (cd := 294) (ps := [(Str.ofString "rows")]) rfl ⟨_, rfl⟩ rfl rfl rfl rfl ⟨_, _, _, rfl, rfl, rfl⟩ (bind1 fun _ => rfl)) (by kernel_rfl) (snd_book_of E hE hO_BadName hO_BadRow hO_TooMany hO_NoMeet CL hB h_b_init h_b_put)
noncomputable def rho_b_struck : Rho := [((Str.ofString "self"), 0), ((Str.ofString "name"), 1)]
theorem snd_b_struck {S : St} {P : Params} (E : EnvL S (KK P)) (hE : S.excs = excT) (hO_BadName : OwnVE S (Str.ofString "BadName") 44) (hO_BadRow : OwnVE S (Str.ofString "BadRow") 56) (hO_TooMany : OwnVE S (Str.ofString "TooMany") 80) (hO_NoMeet : OwnVE S (Str.ofString "NoMeet") 92) (CL : Cls S (KK P)) (hB : S.book = 284) (h_need_name : SoundF S true 4 (.ref 157) F_need_name) (h_book_of : SoundF S true 10 (.ref 295) F_book_of) (h_b_all_sets : SoundF S true 4 (.ref 195) F_b_all_sets) : SoundS S true 11 (scAt (KK P) 264) rho_b_struck (bodyAt (KK P) 264) T_b_struck :=
 have rho0 : RhoOK rho_b_struck := rho_ok (by kernel_rfl)
 (sS_cons (sT_expr (sE_callD E.KS (h_need_name.deeper (by omega)) (sEs_cons sE_v sEs_nil (fun _ => rfl)) (by kernel_rfl) (E.g (by kernel_rfl)) (isFn_of E.X (by kernel_rfl)) (by kernel_rfl) (by kernel_rfl)) (fun _ => rfl))
 (sS_cons (sT_ret (sE_callD E.KS (h_book_of.deeper (by omega)) (sEs_cons (sE_comp (sE_mcall E CL (h_b_all_sets.deeper (by omega)) sE_v sEs_nil (fun _ => rfl) (by kernel_rfl) (by kernel_rfl) (by decide) (by rw [hB]; kernel_rfl) (by kernel_rfl) (by kernel_rfl)) sFs_nil (sE_comp sE_v (sFs_one (sB_cmp cmp_ne sE_v sE_v rfl)) sE_v (comp_at (by kernel_rfl)) (fun _ _ => rfl)) (comp_at (by kernel_rfl)) (fun _ _ => rfl)) sEs_nil (fun _ => rfl)) (by kernel_rfl) (E.g (by kernel_rfl)) (isFn_of E.X (by kernel_rfl)) (by kernel_rfl) (by kernel_rfl)))
 sS_nil))
theorem fn_b_struck {S : St} {P : Params} (E : EnvL S (KK P)) (hE : S.excs = excT) (hO_BadName : OwnVE S (Str.ofString "BadName") 44) (hO_BadRow : OwnVE S (Str.ofString "BadRow") 56) (hO_TooMany : OwnVE S (Str.ofString "TooMany") 80) (hO_NoMeet : OwnVE S (Str.ofString "NoMeet") 92) (CL : Cls S (KK P)) (hB : S.book = 284) (h_need_name : SoundF S true 4 (.ref 157) F_need_name) (h_book_of : SoundF S true 10 (.ref 295) F_book_of) (h_b_all_sets : SoundF S true 4 (.ref 195) F_b_all_sets) : SoundF S true 12 (.ref 264) (mkFn is_b_struck T_b_struck) :=
 sF_defK E.KS (isDef_of E.X (cd := 263) (ps := [(Str.ofString "self"), (Str.ofString "name")]) rfl ⟨_, rfl⟩ rfl rfl rfl rfl ⟨_, _, _, rfl, rfl, rfl⟩ (bind2 fun _ _ => rfl)) (by kernel_rfl) (snd_b_struck E hE hO_BadName hO_BadRow hO_TooMany hO_NoMeet CL hB h_need_name h_book_of h_b_all_sets)
noncomputable def rho_b_without : Rho := [((Str.ofString "self"), 0), ((Str.ofString "name"), 1)]
theorem snd_b_without {S : St} {P : Params} (E : EnvL S (KK P)) (hE : S.excs = excT) (hO_BadName : OwnVE S (Str.ofString "BadName") 44) (hO_BadRow : OwnVE S (Str.ofString "BadRow") 56) (hO_TooMany : OwnVE S (Str.ofString "TooMany") 80) (hO_NoMeet : OwnVE S (Str.ofString "NoMeet") 92) (CL : Cls S (KK P)) (hB : S.book = 284) (h_need_name : SoundF S true 4 (.ref 157) F_need_name) (h_book_of : SoundF S true 10 (.ref 295) F_book_of) (h_b_all_sets : SoundF S true 4 (.ref 195) F_b_all_sets) : SoundS S true 11 (scAt (KK P) 269) rho_b_without (bodyAt (KK P) 269) T_b_without :=
 have rho0 : RhoOK rho_b_without := rho_ok (by kernel_rfl)
 (sS_cons (sT_expr (sE_callD E.KS (h_need_name.deeper (by omega)) (sEs_cons sE_v sEs_nil (fun _ => rfl)) (by kernel_rfl) (E.g (by kernel_rfl)) (isFn_of E.X (by kernel_rfl)) (by kernel_rfl) (by kernel_rfl)) (fun _ => rfl))
 (sS_cons (sT_ret (sE_callD E.KS (h_book_of.deeper (by omega)) (sEs_cons (sE_comp (sE_mcall E CL (h_b_all_sets.deeper (by omega)) sE_v sEs_nil (fun _ => rfl) (by kernel_rfl) (by kernel_rfl) (by decide) (by rw [hB]; kernel_rfl) (by kernel_rfl) (by kernel_rfl)) (sFs_one (sB_cmp cmp_notIn sE_v sE_v rfl)) sE_v (comp_at (by kernel_rfl)) (fun _ _ => rfl)) sEs_nil (fun _ => rfl)) (by kernel_rfl) (E.g (by kernel_rfl)) (isFn_of E.X (by kernel_rfl)) (by kernel_rfl) (by kernel_rfl)))
 sS_nil))
theorem fn_b_without {S : St} {P : Params} (E : EnvL S (KK P)) (hE : S.excs = excT) (hO_BadName : OwnVE S (Str.ofString "BadName") 44) (hO_BadRow : OwnVE S (Str.ofString "BadRow") 56) (hO_TooMany : OwnVE S (Str.ofString "TooMany") 80) (hO_NoMeet : OwnVE S (Str.ofString "NoMeet") 92) (CL : Cls S (KK P)) (hB : S.book = 284) (h_need_name : SoundF S true 4 (.ref 157) F_need_name) (h_book_of : SoundF S true 10 (.ref 295) F_book_of) (h_b_all_sets : SoundF S true 4 (.ref 195) F_b_all_sets) : SoundF S true 12 (.ref 269) (mkFn is_b_without T_b_without) :=
 sF_defK E.KS (isDef_of E.X (cd := 268) (ps := [(Str.ofString "self"), (Str.ofString "name")]) rfl ⟨_, rfl⟩ rfl rfl rfl rfl ⟨_, _, _, rfl, rfl, rfl⟩ (bind2 fun _ _ => rfl)) (by kernel_rfl) (snd_b_without E hE hO_BadName hO_BadRow hO_TooMany hO_NoMeet CL hB h_need_name h_book_of h_b_all_sets)
noncomputable def rho_l_words : Rho := [((Str.ofString "_law_e"), 0), ((Str.ofString "_law_found"), 1)]
theorem snd_l_words {S : St} {P : Params} (E : EnvL S (KK P)) (hE : S.excs = excT) (hO_BadName : OwnVE S (Str.ofString "BadName") 44) (hO_BadRow : OwnVE S (Str.ofString "BadRow") 56) (hO_TooMany : OwnVE S (Str.ofString "TooMany") 80) (hO_NoMeet : OwnVE S (Str.ofString "NoMeet") 92) (CL : Cls S (KK P)) (hB : S.book = 284)  : SoundS S false 1 (scAt (KK P) 309) rho_l_words (bodyAt (KK P) 309) T_l_words :=
 have rho0 : RhoOK rho_l_words := rho_ok (by kernel_rfl)
 (sS_cons (sT_assign (sE_bin bin_add (sE_bin bin_mulS (sE_str _ _ _ (by kernel_rfl)) (sE_tcall E.KS (bIntB_ok) (sEs_cons (sE_isiX E sE_v (isi_own (cv := .ref 44) E (by kernel_rfl) (E.g (by kernel_rfl)) (by kernel_rfl)) (isiOne_of hE (by kernel_rfl)) (by kernel_rfl) (E.g (by kernel_rfl)) (E.b (by kernel_rfl) (by kernel_rfl)) (by kernel_rfl) (by kernel_rfl)) sEs_nil (fun _ => rfl)) (by kernel_rfl) (E.g (by kernel_rfl)) (E.b (by kernel_rfl) (by kernel_rfl)) (by kernel_rfl) (by kernel_rfl))) (sE_bin bin_mulS (sE_str _ _ _ (by kernel_rfl)) (sE_tcall E.KS (bIntB_ok) (sEs_cons (sE_isiX E sE_v (isi_own (cv := .ref 56) E (by kernel_rfl) (E.g (by kernel_rfl)) (by kernel_rfl)) (isiOne_of hE (by kernel_rfl)) (by kernel_rfl) (E.g (by kernel_rfl)) (E.b (by kernel_rfl) (by kernel_rfl)) (by kernel_rfl) (by kernel_rfl)) sEs_nil (fun _ => rfl)) (by kernel_rfl) (E.g (by kernel_rfl)) (E.b (by kernel_rfl) (by kernel_rfl)) (by kernel_rfl) (by kernel_rfl)))) rho0 (by kernel_rfl) (or_kd (by kernel_rfl)) (fun _ => rfl))
 (sS_cons (sT_assign (sE_bin bin_add sE_v (sE_bin bin_mulS (sE_str _ _ _ (by kernel_rfl)) (sE_tcall E.KS (bIntB_ok) (sEs_cons (sE_isiX E sE_v (isi_own (cv := .ref 80) E (by kernel_rfl) (E.g (by kernel_rfl)) (by kernel_rfl)) (isiOne_of hE (by kernel_rfl)) (by kernel_rfl) (E.g (by kernel_rfl)) (E.b (by kernel_rfl) (by kernel_rfl)) (by kernel_rfl) (by kernel_rfl)) sEs_nil (fun _ => rfl)) (by kernel_rfl) (E.g (by kernel_rfl)) (E.b (by kernel_rfl) (by kernel_rfl)) (by kernel_rfl) (by kernel_rfl)))) rho0 (by kernel_rfl) (or_kd (by kernel_rfl)) (fun _ => rfl))
 (sS_cons (sT_assign (sE_bin bin_add sE_v (sE_bin bin_mulS (sE_str _ _ _ (by kernel_rfl)) (sE_tcall E.KS (bIntB_ok) (sEs_cons (sE_isiT E sE_v (reads_cons (isi_own (cv := .ref 92) E (by kernel_rfl) (E.g (by kernel_rfl)) (by kernel_rfl)) (reads_cons (isi_own (cv := .ref 68) E (by kernel_rfl) (E.g (by kernel_rfl)) (by kernel_rfl)) (reads_cons (isi_own (cv := .ref 104) E (by kernel_rfl) (E.g (by kernel_rfl)) (by kernel_rfl)) reads_nil))) (by kernel_rfl) (by decide) (isiAny_of hE (by kernel_rfl)) (by kernel_rfl) (E.g (by kernel_rfl)) (E.b (by kernel_rfl) (by kernel_rfl)) (by kernel_rfl) (by kernel_rfl)) sEs_nil (fun _ => rfl)) (by kernel_rfl) (E.g (by kernel_rfl)) (E.b (by kernel_rfl) (by kernel_rfl)) (by kernel_rfl) (by kernel_rfl)))) rho0 (by kernel_rfl) (or_kd (by kernel_rfl)) (fun _ => rfl))
 (sS_cons (sT_ret (sE_bin bin_add sE_v (sE_bin bin_mulS (sE_str _ _ _ (by kernel_rfl)) (sE_tcall E.KS (bIntB_ok) (sEs_cons (sE_notV (sE_isiX E sE_v (isi_blt (cv := .type "ValueError") E (by kernel_rfl) (E.g (by kernel_rfl)) (E.b (by kernel_rfl) (by kernel_rfl)) (by kernel_rfl)) (isiOne_of hE (by kernel_rfl)) (by kernel_rfl) (E.g (by kernel_rfl)) (E.b (by kernel_rfl) (by kernel_rfl)) (by kernel_rfl) (by kernel_rfl))) sEs_nil (fun _ => rfl)) (by kernel_rfl) (E.g (by kernel_rfl)) (E.b (by kernel_rfl) (by kernel_rfl)) (by kernel_rfl) (by kernel_rfl)))))
 sS_nil))))
theorem fn_l_words {S : St} {P : Params} (E : EnvL S (KK P)) (hE : S.excs = excT) (hO_BadName : OwnVE S (Str.ofString "BadName") 44) (hO_BadRow : OwnVE S (Str.ofString "BadRow") 56) (hO_TooMany : OwnVE S (Str.ofString "TooMany") 80) (hO_NoMeet : OwnVE S (Str.ofString "NoMeet") 92) (CL : Cls S (KK P)) (hB : S.book = 284)  : SoundF S false 2 (.ref 309) (mkFn is_l_words T_l_words) :=
 sF_defK E.KS (isDef_of E.X (cd := 308) (ps := [(Str.ofString "_law_e")]) rfl ⟨_, rfl⟩ rfl rfl rfl rfl ⟨_, _, _, rfl, rfl, rfl⟩ (bind1 fun _ => rfl)) (by kernel_rfl) (snd_l_words E hE hO_BadName hO_BadRow hO_TooMany hO_NoMeet CL hB )
noncomputable def rho_l_call : Rho := [((Str.ofString "_law_book"), 0), ((Str.ofString "_law_way"), 1), ((Str.ofString "_law_thing"), 2), ((Str.ofString "_law_e"), 3)]
theorem snd_l_call {S : St} {P : Params} (E : EnvL S (KK P)) (hE : S.excs = excT) (hO_BadName : OwnVE S (Str.ofString "BadName") 44) (hO_BadRow : OwnVE S (Str.ofString "BadRow") 56) (hO_TooMany : OwnVE S (Str.ofString "TooMany") 80) (hO_NoMeet : OwnVE S (Str.ofString "NoMeet") 92) (CL : Cls S (KK P)) (hB : S.book = 284) (h_b_put : SoundF S true 8 (.ref 178) F_b_put) (h_b_meets : SoundF S true 8 (.ref 228) F_b_meets) (h_b_pared : SoundF S true 8 (.ref 233) F_b_pared) (h_b_own : SoundF S true 8 (.ref 238) F_b_own) (h_b_struck : SoundF S true 12 (.ref 264) F_b_struck) (h_b_without : SoundF S true 12 (.ref 269) F_b_without) (h_l_words : SoundF S false 2 (.ref 309) F_l_words) : SoundS S true 13 (scAt (KK P) 316) rho_l_call (bodyAt (KK P) 316) T_l_call :=
 have rho0 : RhoOK rho_l_call := rho_ok (by kernel_rfl)
 (sS_cons (sT_try (G := 31) E.KS (sS_cons (sT_if (sB_cmp cmp_lt sE_v (sE_int _ _ _) rfl) (sS_cons (sT_expr (sE_mcall E CL (h_b_put.deeper (by omega)) sE_v (sEs_cons sE_v sEs_nil (fun _ => rfl)) (fun _ => rfl) (by kernel_rfl) (by kernel_rfl) (by decide) (by rw [hB]; kernel_rfl) (by kernel_rfl) (by kernel_rfl)) (fun _ => rfl))
 sS_nil) (sS_cons (sT_if (sB_cmp cmp_eq sE_v (sE_int _ _ _) rfl) (sS_cons (sT_expr (sE_mcall E CL (h_b_meets.deeper (by omega)) sE_v (sEs_cons sE_v sEs_nil (fun _ => rfl)) (fun _ => rfl) (by kernel_rfl) (by kernel_rfl) (by decide) (by rw [hB]; kernel_rfl) (by kernel_rfl) (by kernel_rfl)) (fun _ => rfl))
 sS_nil) (sS_cons (sT_if (sB_cmp cmp_eq sE_v (sE_int _ _ _) rfl) (sS_cons (sT_exprA (sE_mcall E CL (h_b_pared.deeper (by omega)) sE_v (sEs_cons sE_v sEs_nil (fun _ => rfl)) (fun _ => rfl) (by kernel_rfl) (by kernel_rfl) (by decide) (by rw [hB]; kernel_rfl) (by kernel_rfl) (by kernel_rfl)) (fun _ => rfl))
 sS_nil) (sS_cons (sT_if (sB_cmp cmp_eq sE_v (sE_int _ _ _) rfl) (sS_cons (sT_exprA (sE_mcall E CL (h_b_own.deeper (by omega)) sE_v (sEs_cons sE_v sEs_nil (fun _ => rfl)) (fun _ => rfl) (by kernel_rfl) (by kernel_rfl) (by decide) (by rw [hB]; kernel_rfl) (by kernel_rfl) (by kernel_rfl)) (fun _ => rfl))
 sS_nil) (sS_cons (sT_if (sB_cmp cmp_eq sE_v (sE_int _ _ _) rfl) (sS_cons (sT_exprA (sE_mcall E CL (h_b_struck.deeper (by omega)) sE_v (sEs_cons sE_v sEs_nil (fun _ => rfl)) (fun _ => rfl) (by kernel_rfl) (by kernel_rfl) (by decide) (by rw [hB]; kernel_rfl) (by kernel_rfl) (by kernel_rfl)) (fun _ => rfl))
 sS_nil) (sS_cons (sT_exprA (sE_mcall E CL (h_b_without.deeper (by omega)) sE_v (sEs_cons sE_v sEs_nil (fun _ => rfl)) (fun _ => rfl) (by kernel_rfl) (by kernel_rfl) (by decide) (by rw [hB]; kernel_rfl) (by kernel_rfl) (by kernel_rfl)) (fun _ => rfl))
 sS_nil))
 sS_nil))
 sS_nil))
 sS_nil))
 sS_nil))
 sS_nil) (sS_cons (sT_ret (sE_callD E.KS (h_l_words.deeper (by omega)) (sEs_cons sE_v sEs_nil (fun _ => rfl)) (by kernel_rfl) (E.g (by kernel_rfl)) (isFn_of E.X (by kernel_rfl)) (by kernel_rfl) (by kernel_rfl)))
 sS_nil) rho0 (by kernel_rfl) (E.g (by kernel_rfl)) (by kernel_rfl) (mem4 (catches_of (C0 := 44) E (by rw [hE]; kernel_rfl) (by kernel_rfl)) (catches_of (C0 := 56) E (by rw [hE]; kernel_rfl) (by kernel_rfl)) (catches_of (C0 := 80) E (by rw [hE]; kernel_rfl) (by kernel_rfl)) (catches_of (C0 := 92) E (by rw [hE]; kernel_rfl) (by kernel_rfl))) (by kernel_rfl) (by kernel_rfl))
 (sS_cons (sT_ret (sE_str _ _ _ (by kernel_rfl)))
 sS_nil))
theorem fn_l_call {S : St} {P : Params} (E : EnvL S (KK P)) (hE : S.excs = excT) (hO_BadName : OwnVE S (Str.ofString "BadName") 44) (hO_BadRow : OwnVE S (Str.ofString "BadRow") 56) (hO_TooMany : OwnVE S (Str.ofString "TooMany") 80) (hO_NoMeet : OwnVE S (Str.ofString "NoMeet") 92) (CL : Cls S (KK P)) (hB : S.book = 284) (h_b_put : SoundF S true 8 (.ref 178) F_b_put) (h_b_meets : SoundF S true 8 (.ref 228) F_b_meets) (h_b_pared : SoundF S true 8 (.ref 233) F_b_pared) (h_b_own : SoundF S true 8 (.ref 238) F_b_own) (h_b_struck : SoundF S true 12 (.ref 264) F_b_struck) (h_b_without : SoundF S true 12 (.ref 269) F_b_without) (h_l_words : SoundF S false 2 (.ref 309) F_l_words) : SoundF S true 14 (.ref 316) (mkFn is_l_call T_l_call) :=
 sF_defK E.KS (isDef_of E.X (cd := 315) (ps := [(Str.ofString "_law_book"), (Str.ofString "_law_way"), (Str.ofString "_law_thing")]) rfl ⟨_, rfl⟩ rfl rfl rfl rfl ⟨_, _, _, rfl, rfl, rfl⟩ (fun vals h => match vals, h with | [_, _, _], _ => rfl)) (by kernel_rfl) (snd_l_call E hE hO_BadName hO_BadRow hO_TooMany hO_NoMeet CL hB h_b_put h_b_meets h_b_pared h_b_own h_b_struck h_b_without h_l_words)
noncomputable def rho_b_joined : Rho := [((Str.ofString "self"), 0), ((Str.ofString "other"), 1)]
theorem snd_b_joined {S : St} {P : Params} (E : EnvL S (KK P)) (hE : S.excs = excT) (hO_BadName : OwnVE S (Str.ofString "BadName") 44) (hO_BadRow : OwnVE S (Str.ofString "BadRow") 56) (hO_TooMany : OwnVE S (Str.ofString "TooMany") 80) (hO_NoMeet : OwnVE S (Str.ofString "NoMeet") 92) (CL : Cls S (KK P)) (hB : S.book = 284) (h_book_of : SoundF S true 10 (.ref 295) F_book_of) (h_b_all_sets : SoundF S true 4 (.ref 195) F_b_all_sets) : SoundS S true 11 (scAt (KK P) 276) rho_b_joined (bodyAt (KK P) 276) T_b_joined :=
 have rho0 : RhoOK rho_b_joined := rho_ok (by kernel_rfl)
 (sS_cons (sT_ret (sE_callD E.KS (h_book_of.deeper (by omega)) (sEs_cons (sE_bin bin_add (sE_mcall E CL (h_b_all_sets.deeper (by omega)) sE_v sEs_nil (fun _ => rfl) (by kernel_rfl) (by kernel_rfl) (by decide) (by rw [hB]; kernel_rfl) (by kernel_rfl) (by kernel_rfl)) (sE_mcall E CL (h_b_all_sets.deeper (by omega)) sE_v sEs_nil (fun _ => rfl) (by kernel_rfl) (by kernel_rfl) (by decide) (by rw [hB]; kernel_rfl) (by kernel_rfl) (by kernel_rfl))) sEs_nil (fun _ => rfl)) (by kernel_rfl) (E.g (by kernel_rfl)) (isFn_of E.X (by kernel_rfl)) (by kernel_rfl) (by kernel_rfl)))
 sS_nil)
theorem fn_b_joined {S : St} {P : Params} (E : EnvL S (KK P)) (hE : S.excs = excT) (hO_BadName : OwnVE S (Str.ofString "BadName") 44) (hO_BadRow : OwnVE S (Str.ofString "BadRow") 56) (hO_TooMany : OwnVE S (Str.ofString "TooMany") 80) (hO_NoMeet : OwnVE S (Str.ofString "NoMeet") 92) (CL : Cls S (KK P)) (hB : S.book = 284) (h_book_of : SoundF S true 10 (.ref 295) F_book_of) (h_b_all_sets : SoundF S true 4 (.ref 195) F_b_all_sets) : SoundF S true 12 (.ref 276) (mkFn is_b_joined T_b_joined) :=
 sF_defK E.KS (isDef_of E.X (cd := 275) (ps := [(Str.ofString "self"), (Str.ofString "other")]) rfl ⟨_, rfl⟩ rfl rfl rfl rfl ⟨_, _, _, rfl, rfl, rfl⟩ (bind2 fun _ _ => rfl)) (by kernel_rfl) (snd_b_joined E hE hO_BadName hO_BadRow hO_TooMany hO_NoMeet CL hB h_book_of h_b_all_sets)
noncomputable def rho_b_crossed : Rho := [((Str.ofString "self"), 0), ((Str.ofString "other"), 1), ((Str.ofString "found"), 2), ((Str.ofString "row"), 3)]
theorem snd_b_crossed {S : St} {P : Params} (E : EnvL S (KK P)) (hE : S.excs = excT) (hO_BadName : OwnVE S (Str.ofString "BadName") 44) (hO_BadRow : OwnVE S (Str.ofString "BadRow") 56) (hO_TooMany : OwnVE S (Str.ofString "TooMany") 80) (hO_NoMeet : OwnVE S (Str.ofString "NoMeet") 92) (CL : Cls S (KK P)) (hB : S.book = 284) (h_b_all_sets : SoundF S true 4 (.ref 195) F_b_all_sets) (h_rising : SoundF S true 4 (.ref 118) F_rising) (h_book_of : SoundF S true 10 (.ref 295) F_book_of) : SoundS S true 11 (scAt (KK P) 281) rho_b_crossed (bodyAt (KK P) 281) T_b_crossed :=
 have rho0 : RhoOK rho_b_crossed := rho_ok (by kernel_rfl)
 (sS_cons (sT_assign (sE_list sEs_nil) rho0 (by kernel_rfl) (or_kd (by kernel_rfl)) (fun _ => rfl))
 (sS_cons (sT_for (sE_mcall E CL (h_b_all_sets.deeper (by omega)) sE_v sEs_nil (fun _ => rfl) (by kernel_rfl) (by kernel_rfl) (by decide) (by rw [hB]; kernel_rfl) (by kernel_rfl) (by kernel_rfl)) (sS_cons (sT_expr (sE_meth meth_extend bExtend_ok sE_v (sEs_cons (sE_comp (sE_mcall E CL (h_b_all_sets.deeper (by omega)) sE_v sEs_nil (fun _ => rfl) (by kernel_rfl) (by kernel_rfl) (by decide) (by rw [hB]; kernel_rfl) (by kernel_rfl) (by kernel_rfl)) sFs_nil (sE_callD E.KS (h_rising.deeper (by omega)) (sEs_cons (sE_bin bin_add sE_v sE_v) sEs_nil (fun _ => rfl)) (by kernel_rfl) (E.g (by kernel_rfl)) (isFn_of E.X (by kernel_rfl)) (by kernel_rfl) (by kernel_rfl)) (comp_at (by kernel_rfl)) (fun _ _ => rfl)) sEs_nil (fun _ => rfl)) (fun _ => rfl) (by kernel_rfl) (by kernel_rfl) (by decide)) (fun _ => rfl))
 sS_nil) rho0 (by kernel_rfl) (or_kd (by kernel_rfl)) (fun _ _ => rfl))
 (sS_cons (sT_ret (sE_callD E.KS (h_book_of.deeper (by omega)) (sEs_cons sE_v sEs_nil (fun _ => rfl)) (by kernel_rfl) (E.g (by kernel_rfl)) (isFn_of E.X (by kernel_rfl)) (by kernel_rfl) (by kernel_rfl)))
 sS_nil)))
theorem fn_b_crossed {S : St} {P : Params} (E : EnvL S (KK P)) (hE : S.excs = excT) (hO_BadName : OwnVE S (Str.ofString "BadName") 44) (hO_BadRow : OwnVE S (Str.ofString "BadRow") 56) (hO_TooMany : OwnVE S (Str.ofString "TooMany") 80) (hO_NoMeet : OwnVE S (Str.ofString "NoMeet") 92) (CL : Cls S (KK P)) (hB : S.book = 284) (h_b_all_sets : SoundF S true 4 (.ref 195) F_b_all_sets) (h_rising : SoundF S true 4 (.ref 118) F_rising) (h_book_of : SoundF S true 10 (.ref 295) F_book_of) : SoundF S true 12 (.ref 281) (mkFn is_b_crossed T_b_crossed) :=
 sF_defK E.KS (isDef_of E.X (cd := 280) (ps := [(Str.ofString "self"), (Str.ofString "other")]) rfl ⟨_, rfl⟩ rfl rfl rfl rfl ⟨_, _, _, rfl, rfl, rfl⟩ (bind2 fun _ _ => rfl)) (by kernel_rfl) (snd_b_crossed E hE hO_BadName hO_BadRow hO_TooMany hO_NoMeet CL hB h_b_all_sets h_rising h_book_of)
noncomputable def rho_l_both : Rho := [((Str.ofString "_law_size"), 0), ((Str.ofString "_law_kinds"), 1), ((Str.ofString "_law_one"), 2), ((Str.ofString "_law_other"), 3), ((Str.ofString "_law_names"), 4), ((Str.ofString "_law_k"), 5), ((Str.ofString "_law_wide"), 6), ((Str.ofString "_law_due_here"), 7), ((Str.ofString "_law_found"), 8), ((Str.ofString "_law_way"), 9), ((Str.ofString "_law_made"), 10), ((Str.ofString "_law_e"), 11)]
theorem snd_l_both {S : St} {P : Params} (E : EnvL S (KK P)) (hE : S.excs = excT) (hO_BadName : OwnVE S (Str.ofString "BadName") 44) (hO_BadRow : OwnVE S (Str.ofString "BadRow") 56) (hO_TooMany : OwnVE S (Str.ofString "TooMany") 80) (hO_NoMeet : OwnVE S (Str.ofString "NoMeet") 92) (CL : Cls S (KK P)) (hB : S.book = 284) (h_b_init : SoundF S true 2 (.ref 171) F_b_init) (h_b_put : SoundF S true 8 (.ref 178) F_b_put) (h_b_joined : SoundF S true 12 (.ref 276) F_b_joined) (h_b_crossed : SoundF S true 12 (.ref 281) F_b_crossed) (h_l_words : SoundF S false 2 (.ref 309) F_l_words) (h_b_rows : SoundF S true 2 (.ref 190) F_b_rows) (h_b_take : SoundF S true 2 (.ref 185) F_b_take) : SoundS S true 13 (scAt (KK P) 345) rho_l_both (bodyAt (KK P) 345) T_l_both :=
 have rho0 : RhoOK rho_l_both := rho_ok (by kernel_rfl)
 (sS_cons (sT_assign (sE_make E CL (h_b_init.deeper (by omega)) (by kernel_rfl) (by rw [hB]; exact E.g (by kernel_rfl)) (by kernel_rfl) (by rw [hB]; kernel_rfl) (by kernel_rfl)) rho0 (by kernel_rfl) (or_kd (by kernel_rfl)) (fun _ => rfl))
 (sS_cons (sT_assign (sE_make E CL (h_b_init.deeper (by omega)) (by kernel_rfl) (by rw [hB]; exact E.g (by kernel_rfl)) (by kernel_rfl) (by rw [hB]; kernel_rfl) (by kernel_rfl)) rho0 (by kernel_rfl) (or_kd (by kernel_rfl)) (fun _ => rfl))
 (sS_cons (sT_assign sE_dict0 rho0 (by kernel_rfl) (or_kd (by kernel_rfl)) (fun _ => rfl))
 (sS_cons (sT_for (sE_tcall E.KS (bRange_ok) (sEs_cons (sE_item sE_v (sE_int _ _ _)) sEs_nil (fun _ => rfl)) (by kernel_rfl) (E.g (by kernel_rfl)) (E.b (by kernel_rfl) (by kernel_rfl)) (by kernel_rfl) (by kernel_rfl)) (sS_cons (sT_expr (sE_mcall E CL (h_b_put.deeper (by omega)) sE_v (sEs_cons (sE_list (sEs_cons (sE_item (sE_str _ _ _ (by kernel_rfl)) (sE_bin bin_mod sE_v (sE_item sE_v (sE_int _ _ _)))) sEs_nil (fun _ => rfl))) sEs_nil (fun _ => rfl)) (fun _ => rfl) (by kernel_rfl) (by kernel_rfl) (by decide) (by rw [hB]; kernel_rfl) (by kernel_rfl) (by kernel_rfl)) (fun _ => rfl))
 (sS_cons (sT_subSet sE_v (sE_bin bin_mod sE_v (sE_item sE_v (sE_int _ _ _))) (sE_bool _ _ _) (fun _ => rfl))
 sS_nil)) rho0 (by kernel_rfl) (or_kd (by kernel_rfl)) (fun _ _ => rfl))
 (sS_cons (sT_for (sE_tcall E.KS (bRange_ok) (sEs_cons (sE_item sE_v (sE_int _ _ _)) sEs_nil (fun _ => rfl)) (by kernel_rfl) (E.g (by kernel_rfl)) (E.b (by kernel_rfl) (by kernel_rfl)) (by kernel_rfl) (by kernel_rfl)) (sS_cons (sT_expr (sE_mcall E CL (h_b_put.deeper (by omega)) sE_v (sEs_cons (sE_list (sEs_cons (sE_item (sE_str _ _ _ (by kernel_rfl)) (sE_bin bin_mod sE_v (sE_item sE_v (sE_int _ _ _)))) sEs_nil (fun _ => rfl))) sEs_nil (fun _ => rfl)) (fun _ => rfl) (by kernel_rfl) (by kernel_rfl) (by decide) (by rw [hB]; kernel_rfl) (by kernel_rfl) (by kernel_rfl)) (fun _ => rfl))
 (sS_cons (sT_subSet sE_v (sE_bin bin_add (sE_int _ _ _) (sE_bin bin_mod sE_v (sE_item sE_v (sE_int _ _ _)))) (sE_bool _ _ _) (fun _ => rfl))
 sS_nil)) rho0 (by kernel_rfl) (or_kd (by kernel_rfl)) (fun _ _ => rfl))
 (sS_cons (sT_assign (sE_cmp cmp_gt (sE_bcall E.KS (bLen_ok E.KS) (sEs_cons sE_v sEs_nil (fun _ => rfl)) (by kernel_rfl) (E.g (by kernel_rfl)) (E.b (by kernel_rfl) (by kernel_rfl)) (by kernel_rfl) (by kernel_rfl)) (sE_int _ _ _) rfl) rho0 (by kernel_rfl) (or_kd (by kernel_rfl)) (fun _ => rfl))
 (sS_cons (sT_assign (sE_list (sEs_cons (sE_if (sB_boolOp (sL_or (sB_cmp cmp_gt (sE_bin bin_add (sE_item sE_v (sE_int _ _ _)) (sE_item sE_v (sE_int _ _ _))) (sE_int _ _ _) rfl) (sL_or (sB_truth sE_v (fun _ _ => rfl)) sL_orNil))) (sE_str _ _ _ (by kernel_rfl)) (sE_str _ _ _ (by kernel_rfl))) (sEs_cons (sE_str _ _ _ (by kernel_rfl)) sEs_nil (fun _ => rfl)) (fun _ => rfl))) rho0 (by kernel_rfl) (or_kd (by kernel_rfl)) (fun _ => rfl))
 (sS_cons (sT_if (sB_boolOp (sL_or (sB_cmp cmp_gt (sE_bin bin_mul (sE_item sE_v (sE_int _ _ _)) (sE_item sE_v (sE_int _ _ _))) (sE_int _ _ _) rfl) (sL_or (sB_boolOp (sL_and (sB_cmp cmp_gt (sE_item sE_v (sE_int _ _ _)) (sE_int _ _ _) rfl) (sL_and (sB_cmp cmp_gt (sE_item sE_v (sE_int _ _ _)) (sE_int _ _ _) rfl) (sL_and (sB_truth sE_v (fun _ _ => rfl)) sL_andNil)))) sL_orNil))) (sS_cons (sT_subSetL sE_v (sE_int _ _ _) (sE_str _ _ _ (by kernel_rfl)) (fun _ => rfl))
 sS_nil) sS_nil)
 (sS_cons (sT_assign (sE_list sEs_nil) rho0 (by kernel_rfl) (or_kd (by kernel_rfl)) (fun _ => rfl))
 (sS_cons (sT_for (sE_tcall E.KS (bRange_ok) (sEs_cons (sE_int _ _ _) sEs_nil (fun _ => rfl)) (by kernel_rfl) (E.g (by kernel_rfl)) (E.b (by kernel_rfl) (by kernel_rfl)) (by kernel_rfl) (by kernel_rfl)) (sS_cons (sT_tryA (G := 31) E.KS (sE_if (sB_cmp cmp_eq sE_v (sE_int _ _ _) rfl) (sE_mcall E CL (h_b_joined.deeper (by omega)) sE_v (sEs_cons sE_v sEs_nil (fun _ => rfl)) (fun _ => rfl) (by kernel_rfl) (by kernel_rfl) (by decide) (by rw [hB]; kernel_rfl) (by kernel_rfl) (by kernel_rfl)) (sE_mcall E CL (h_b_crossed.deeper (by omega)) sE_v (sEs_cons sE_v sEs_nil (fun _ => rfl)) (fun _ => rfl) (by kernel_rfl) (by kernel_rfl) (by decide) (by rw [hB]; kernel_rfl) (by kernel_rfl) (by kernel_rfl))) (sS_cons (sT_expr (sE_meth meth_append bAppend_ok sE_v (sEs_cons (sE_if (sB_truth (sE_isiB E sE_v (by rw [hB]; exact isi_own (cv := .ref 284) E (by kernel_rfl) (E.g (by kernel_rfl)) (by kernel_rfl)) (by rw [hB]; kernel_rfl) (by kernel_rfl) (E.g (by kernel_rfl)) (E.b (by kernel_rfl) (by kernel_rfl)) (by kernel_rfl) (by kernel_rfl)) (fun _ _ => rfl)) (sE_str _ _ _ (by kernel_rfl)) (sE_str _ _ _ (by kernel_rfl))) sEs_nil (fun _ => rfl)) (fun _ => rfl) (by kernel_rfl) (by kernel_rfl) (by decide)) (fun _ => rfl))
 sS_nil) (sS_cons (sT_expr (sE_meth meth_append bAppend_ok sE_v (sEs_cons (sE_callD E.KS (h_l_words.deeper (by omega)) (sEs_cons sE_v sEs_nil (fun _ => rfl)) (by kernel_rfl) (E.g (by kernel_rfl)) (isFn_of E.X (by kernel_rfl)) (by kernel_rfl) (by kernel_rfl)) sEs_nil (fun _ => rfl)) (fun _ => rfl) (by kernel_rfl) (by kernel_rfl) (by decide)) (fun _ => rfl))
 sS_nil) rho0 (by kernel_rfl) (or_kd (by kernel_rfl)) (fun _ => rfl) (by kernel_rfl) (E.g (by kernel_rfl)) (by kernel_rfl) (fun x hx => by rw [List.mem_singleton.mp hx]; exact catches_of (C0 := 80) E (by rw [hE]; kernel_rfl) (by kernel_rfl)) (by kernel_rfl) (by kernel_rfl))
 sS_nil) rho0 (by kernel_rfl) (or_kd (by kernel_rfl)) (fun _ _ => rfl))
 (sS_cons (sT_if (sB_boolOp (sL_or (sB_cmp cmp_ne sE_v sE_v rfl) (sL_or (sB_cmp cmp_ne (sE_bcall E.KS (bLen_ok E.KS) (sEs_cons (sE_mcall E CL (h_b_rows.deeper (by omega)) sE_v sEs_nil (fun _ => rfl) (by kernel_rfl) (by kernel_rfl) (by decide) (by rw [hB]; kernel_rfl) (by kernel_rfl) (by kernel_rfl)) sEs_nil (fun _ => rfl)) (by kernel_rfl) (E.g (by kernel_rfl)) (E.b (by kernel_rfl) (by kernel_rfl)) (by kernel_rfl) (by kernel_rfl)) (sE_item sE_v (sE_int _ _ _)) rfl) (sL_or (sB_cmp cmp_ne (sE_bcall E.KS (bLen_ok E.KS) (sEs_cons (sE_mcall E CL (h_b_rows.deeper (by omega)) sE_v sEs_nil (fun _ => rfl) (by kernel_rfl) (by kernel_rfl) (by decide) (by rw [hB]; kernel_rfl) (by kernel_rfl) (by kernel_rfl)) sEs_nil (fun _ => rfl)) (by kernel_rfl) (E.g (by kernel_rfl)) (E.b (by kernel_rfl) (by kernel_rfl)) (by kernel_rfl) (by kernel_rfl)) (sE_item sE_v (sE_int _ _ _)) rfl) sL_orNil)))) (sS_cons (sT_ret (sE_bool _ _ _))
 sS_nil) sS_nil)
 (sS_cons (sT_for (sE_tcall E.KS (bRange_ok) (sEs_cons (sE_item sE_v (sE_int _ _ _)) sEs_nil (fun _ => rfl)) (by kernel_rfl) (E.g (by kernel_rfl)) (E.b (by kernel_rfl) (by kernel_rfl)) (by kernel_rfl) (by kernel_rfl)) (sS_cons (sT_expr (sE_mcall E CL (h_b_take.deeper (by omega)) sE_v (sEs_cons sE_v sEs_nil (fun _ => rfl)) (fun _ => rfl) (by kernel_rfl) (by kernel_rfl) (by decide) (by rw [hB]; kernel_rfl) (by kernel_rfl) (by kernel_rfl)) (fun _ => rfl))
 sS_nil) rho0 (by kernel_rfl) (or_kd (by kernel_rfl)) (fun _ _ => rfl))
 (sS_cons (sT_ret (sE_boolOp (sV_and (sE_cmp cmp_eq (sE_bcall E.KS (bLen_ok E.KS) (sEs_cons (sE_mcall E CL (h_b_rows.deeper (by omega)) (sE_mcall E CL (h_b_joined.deeper (by omega)) sE_v (sEs_cons sE_v sEs_nil (fun _ => rfl)) (fun _ => rfl) (by kernel_rfl) (by kernel_rfl) (by decide) (by rw [hB]; kernel_rfl) (by kernel_rfl) (by kernel_rfl)) sEs_nil (fun _ => rfl) (by kernel_rfl) (by kernel_rfl) (by decide) (by rw [hB]; kernel_rfl) (by kernel_rfl) (by kernel_rfl)) sEs_nil (fun _ => rfl)) (by kernel_rfl) (E.g (by kernel_rfl)) (E.b (by kernel_rfl) (by kernel_rfl)) (by kernel_rfl) (by kernel_rfl)) (sE_item sE_v (sE_int _ _ _)) rfl) (sV_one (sE_cmp cmp_eq (sE_mcall E CL (h_b_rows.deeper (by omega)) (sE_mcall E CL (h_b_crossed.deeper (by omega)) sE_v (sEs_cons sE_v sEs_nil (fun _ => rfl)) (fun _ => rfl) (by kernel_rfl) (by kernel_rfl) (by decide) (by rw [hB]; kernel_rfl) (by kernel_rfl) (by kernel_rfl)) sEs_nil (fun _ => rfl) (by kernel_rfl) (by kernel_rfl) (by decide) (by rw [hB]; kernel_rfl) (by kernel_rfl) (by kernel_rfl)) (sE_list sEs_nil) rfl)))))
 sS_nil)))))))))))))
theorem fn_l_both {S : St} {P : Params} (E : EnvL S (KK P)) (hE : S.excs = excT) (hO_BadName : OwnVE S (Str.ofString "BadName") 44) (hO_BadRow : OwnVE S (Str.ofString "BadRow") 56) (hO_TooMany : OwnVE S (Str.ofString "TooMany") 80) (hO_NoMeet : OwnVE S (Str.ofString "NoMeet") 92) (CL : Cls S (KK P)) (hB : S.book = 284) (h_b_init : SoundF S true 2 (.ref 171) F_b_init) (h_b_put : SoundF S true 8 (.ref 178) F_b_put) (h_b_joined : SoundF S true 12 (.ref 276) F_b_joined) (h_b_crossed : SoundF S true 12 (.ref 281) F_b_crossed) (h_l_words : SoundF S false 2 (.ref 309) F_l_words) (h_b_rows : SoundF S true 2 (.ref 190) F_b_rows) (h_b_take : SoundF S true 2 (.ref 185) F_b_take) : SoundF S true 14 (.ref 345) (mkFn is_l_both T_l_both) :=
 sF_defK E.KS (isDef_of E.X (cd := 344) (ps := [(Str.ofString "_law_size"), (Str.ofString "_law_kinds")]) rfl ⟨_, rfl⟩ rfl rfl rfl rfl ⟨_, _, _, rfl, rfl, rfl⟩ (bind2 fun _ _ => rfl)) (by kernel_rfl) (snd_l_both E hE hO_BadName hO_BadRow hO_TooMany hO_NoMeet CL hB h_b_init h_b_put h_b_joined h_b_crossed h_l_words h_b_rows h_b_take)
noncomputable def rho_law : Rho := [((Str.ofString "_law_script"), 0), ((Str.ofString "_law_names"), 1), ((Str.ofString "_law_many"), 2), ((Str.ofString "_law_book"), 3), ((Str.ofString "_law_k"), 4), ((Str.ofString "_law_gone"), 5), ((Str.ofString "_law_before"), 6), ((Str.ofString "_law_there"), 7), ((Str.ofString "_law_way"), 8), ((Str.ofString "_law_thing"), 9), ((Str.ofString "_law_due_here"), 10), ((Str.ofString "_law_found"), 11), ((Str.ofString "_law_kinds"), 12)]
theorem snd_law {S : St} {P : Params} (E : EnvL S (KK P)) (hE : S.excs = excT) (hO_BadName : OwnVE S (Str.ofString "BadName") 44) (hO_BadRow : OwnVE S (Str.ofString "BadRow") 56) (hO_TooMany : OwnVE S (Str.ofString "TooMany") 80) (hO_NoMeet : OwnVE S (Str.ofString "NoMeet") 92) (CL : Cls S (KK P)) (hB : S.book = 284) (h_l_draw : SoundF S true 2 (.ref 302) F_l_draw) (h_b_init : SoundF S true 2 (.ref 171) F_b_init) (h_b_put : SoundF S true 8 (.ref 178) F_b_put) (h_b_take : SoundF S true 2 (.ref 185) F_b_take) (h_b_rows : SoundF S true 2 (.ref 190) F_b_rows) (h_l_list : SoundF S true 4 (.ref 328) F_l_list) (h_l_odd : SoundF S true 2 (.ref 323) F_l_odd) (h_l_due : SoundF S true 4 (.ref 338) F_l_due) (h_l_call : SoundF S true 14 (.ref 316) F_l_call) (h_l_both : SoundF S true 14 (.ref 345) F_l_both) : SoundS S true 15 (scAt (KK P) 350) rho_law (bodyAt (KK P) 350) T_law :=
 have rho0 : RhoOK rho_law := rho_ok (by kernel_rfl)
 (sS_cons (sT_assign (sE_tcall E.KS (bListC_ok) (sEs_cons (sE_slice (sE_str _ _ _ (by kernel_rfl)) sP_none (sP_some (sE_bin bin_add (sE_int _ _ _) (sE_bin bin_mod (sE_callD E.KS (h_l_draw.deeper (by omega)) (sEs_cons sE_v (sEs_cons (sE_int _ _ _) sEs_nil (fun _ => rfl)) (fun _ => rfl)) (by kernel_rfl) (E.g (by kernel_rfl)) (isFn_of E.X (by kernel_rfl)) (by kernel_rfl) (by kernel_rfl)) (sE_int _ _ _))))) sEs_nil (fun _ => rfl)) (by kernel_rfl) (E.g (by kernel_rfl)) (E.b (by kernel_rfl) (by kernel_rfl)) (by kernel_rfl) (by kernel_rfl)) rho0 (by kernel_rfl) (or_kd (by kernel_rfl)) (fun _ => rfl))
 (sS_cons (sT_assign (sE_item (sE_list (sEs_cons (sE_bin bin_mod (sE_callD E.KS (h_l_draw.deeper (by omega)) (sEs_cons sE_v (sEs_cons (sE_int _ _ _) sEs_nil (fun _ => rfl)) (fun _ => rfl)) (by kernel_rfl) (E.g (by kernel_rfl)) (isFn_of E.X (by kernel_rfl)) (by kernel_rfl) (by kernel_rfl)) (sE_int _ _ _)) (sEs_cons (sE_bin bin_add (sE_int _ _ _) (sE_bin bin_mod (sE_bin bin_fdiv (sE_callD E.KS (h_l_draw.deeper (by omega)) (sEs_cons sE_v (sEs_cons (sE_int _ _ _) sEs_nil (fun _ => rfl)) (fun _ => rfl)) (by kernel_rfl) (E.g (by kernel_rfl)) (isFn_of E.X (by kernel_rfl)) (by kernel_rfl) (by kernel_rfl)) (sE_int _ _ _)) (sE_int _ _ _))) sEs_nil (fun _ => rfl)) (fun _ => rfl))) (sE_bin bin_mod (sE_callD E.KS (h_l_draw.deeper (by omega)) (sEs_cons sE_v (sEs_cons (sE_int _ _ _) sEs_nil (fun _ => rfl)) (fun _ => rfl)) (by kernel_rfl) (E.g (by kernel_rfl)) (isFn_of E.X (by kernel_rfl)) (by kernel_rfl) (by kernel_rfl)) (sE_int _ _ _))) rho0 (by kernel_rfl) (or_kd (by kernel_rfl)) (fun _ => rfl))
 (sS_cons (sT_assign (sE_make E CL (h_b_init.deeper (by omega)) (by kernel_rfl) (by rw [hB]; exact E.g (by kernel_rfl)) (by kernel_rfl) (by rw [hB]; kernel_rfl) (by kernel_rfl)) rho0 (by kernel_rfl) (or_kd (by kernel_rfl)) (fun _ => rfl))
 (sS_cons (sT_for (sE_tcall E.KS (bRange_ok) (sEs_cons sE_v sEs_nil (fun _ => rfl)) (by kernel_rfl) (E.g (by kernel_rfl)) (E.b (by kernel_rfl) (by kernel_rfl)) (by kernel_rfl) (by kernel_rfl)) (sS_cons (sT_expr (sE_mcall E CL (h_b_put.deeper (by omega)) sE_v (sEs_cons (sE_list (sEs_cons (sE_item sE_v (sE_bin bin_mod sE_v (sE_bcall E.KS (bLen_ok E.KS) (sEs_cons sE_v sEs_nil (fun _ => rfl)) (by kernel_rfl) (E.g (by kernel_rfl)) (E.b (by kernel_rfl) (by kernel_rfl)) (by kernel_rfl) (by kernel_rfl)))) sEs_nil (fun _ => rfl))) sEs_nil (fun _ => rfl)) (fun _ => rfl) (by kernel_rfl) (by kernel_rfl) (by decide) (by rw [hB]; kernel_rfl) (by kernel_rfl) (by kernel_rfl)) (fun _ => rfl))
 sS_nil) rho0 (by kernel_rfl) (or_kd (by kernel_rfl)) (fun _ _ => rfl))
 (sS_cons (sT_assign (sE_bin bin_mul (sE_bin bin_mod (sE_callD E.KS (h_l_draw.deeper (by omega)) (sEs_cons sE_v (sEs_cons (sE_int _ _ _) sEs_nil (fun _ => rfl)) (fun _ => rfl)) (by kernel_rfl) (E.g (by kernel_rfl)) (isFn_of E.X (by kernel_rfl)) (by kernel_rfl) (by kernel_rfl)) (sE_int _ _ _)) (sE_tcall E.KS (bIntB_ok) (sEs_cons (sE_cmp cmp_gt sE_v (sE_int _ _ _) rfl) sEs_nil (fun _ => rfl)) (by kernel_rfl) (E.g (by kernel_rfl)) (E.b (by kernel_rfl) (by kernel_rfl)) (by kernel_rfl) (by kernel_rfl))) rho0 (by kernel_rfl) (or_kd (by kernel_rfl)) (fun _ => rfl))
 (sS_cons (sT_for (sE_tcall E.KS (bRange_ok) (sEs_cons sE_v sEs_nil (fun _ => rfl)) (by kernel_rfl) (E.g (by kernel_rfl)) (E.b (by kernel_rfl) (by kernel_rfl)) (by kernel_rfl) (by kernel_rfl)) (sS_cons (sT_expr (sE_mcall E CL (h_b_take.deeper (by omega)) sE_v (sEs_cons sE_v sEs_nil (fun _ => rfl)) (fun _ => rfl) (by kernel_rfl) (by kernel_rfl) (by decide) (by rw [hB]; kernel_rfl) (by kernel_rfl) (by kernel_rfl)) (fun _ => rfl))
 sS_nil) rho0 (by kernel_rfl) (or_kd (by kernel_rfl)) (fun _ _ => rfl))
 (sS_cons (sT_assign (sE_bin bin_sub sE_v sE_v) rho0 (by kernel_rfl) (or_kd (by kernel_rfl)) (fun _ => rfl))
 (sS_cons (sT_assign (sE_mcall E CL (h_b_rows.deeper (by omega)) sE_v sEs_nil (fun _ => rfl) (by kernel_rfl) (by kernel_rfl) (by decide) (by rw [hB]; kernel_rfl) (by kernel_rfl) (by kernel_rfl)) rho0 (by kernel_rfl) (or_kd (by kernel_rfl)) (fun _ => rfl))
 (sS_cons (sT_assignComp sE_v (sFs_one (sB_cmp cmp_in sE_v (sE_comp sE_v sFs_nil (sE_item (sE_item sE_v (sE_int _ _ _)) (sE_int _ _ _)) (comp_at (by kernel_rfl)) (fun _ _ => rfl)) rfl)) sE_v (comp_at (by kernel_rfl)) (fun _ _ => rfl) (by kernel_rfl) (or_kd (by kernel_rfl)))
 (sS_cons (sT_assign (sE_bin bin_mod (sE_callD E.KS (h_l_draw.deeper (by omega)) (sEs_cons sE_v (sEs_cons (sE_int _ _ _) sEs_nil (fun _ => rfl)) (fun _ => rfl)) (by kernel_rfl) (E.g (by kernel_rfl)) (isFn_of E.X (by kernel_rfl)) (by kernel_rfl) (by kernel_rfl)) (sE_int _ _ _)) rho0 (by kernel_rfl) (or_kd (by kernel_rfl)) (fun _ => rfl))
 (sS_cons (sT_assign (sE_callD E.KS (h_l_list.deeper (by omega)) (sEs_cons (sE_callD E.KS (h_l_draw.deeper (by omega)) (sEs_cons sE_v (sEs_cons (sE_int _ _ _) sEs_nil (fun _ => rfl)) (fun _ => rfl)) (by kernel_rfl) (E.g (by kernel_rfl)) (isFn_of E.X (by kernel_rfl)) (by kernel_rfl) (by kernel_rfl)) (sEs_cons sE_v sEs_nil (fun _ => rfl)) (fun _ => rfl)) (by kernel_rfl) (E.g (by kernel_rfl)) (isFn_of E.X (by kernel_rfl)) (by kernel_rfl) (by kernel_rfl)) rho0 (by kernel_rfl) (or_kd (by kernel_rfl)) (fun _ => rfl))
 (sS_cons (sT_if (sB_cmp cmp_gt sE_v (sE_int _ _ _) rfl) (sS_cons (sT_assign (sE_item (sE_list (sEs_cons (sE_item sE_v (sE_int _ _ _)) (sEs_cons (sE_callD E.KS (h_l_odd.deeper (by omega)) (sEs_cons (sE_callD E.KS (h_l_draw.deeper (by omega)) (sEs_cons sE_v (sEs_cons (sE_int _ _ _) sEs_nil (fun _ => rfl)) (fun _ => rfl)) (by kernel_rfl) (E.g (by kernel_rfl)) (isFn_of E.X (by kernel_rfl)) (by kernel_rfl) (by kernel_rfl)) sEs_nil (fun _ => rfl)) (by kernel_rfl) (E.g (by kernel_rfl)) (isFn_of E.X (by kernel_rfl)) (by kernel_rfl) (by kernel_rfl)) (sEs_cons (sE_str _ _ _ (by kernel_rfl)) sEs_nil (fun _ => rfl)) (fun _ => rfl)) (fun _ => rfl))) (sE_bin bin_mod (sE_bin bin_fdiv (sE_callD E.KS (h_l_draw.deeper (by omega)) (sEs_cons sE_v (sEs_cons (sE_int _ _ _) sEs_nil (fun _ => rfl)) (fun _ => rfl)) (by kernel_rfl) (E.g (by kernel_rfl)) (isFn_of E.X (by kernel_rfl)) (by kernel_rfl) (by kernel_rfl)) (sE_int _ _ _)) (sE_int _ _ _))) rho0 (by kernel_rfl) (or_kd (by kernel_rfl)) (fun _ => rfl))
 sS_nil) sS_nil)
 (sS_cons (sT_assign (sE_callD E.KS (h_l_due.deeper (by omega)) (sEs_cons sE_v (sEs_cons sE_v (sEs_cons sE_v (sEs_cons sE_v sEs_nil (fun _ => rfl)) (fun _ => rfl)) (fun _ => rfl)) (fun _ => rfl)) (by kernel_rfl) (E.g (by kernel_rfl)) (isFn_of E.X (by kernel_rfl)) (by kernel_rfl) (by kernel_rfl)) rho0 (by kernel_rfl) (or_kd (by kernel_rfl)) (fun _ => rfl))
 (sS_cons (sT_assign (sE_callD E.KS (h_l_call.deeper (by omega)) (sEs_cons sE_v (sEs_cons sE_v (sEs_cons sE_v sEs_nil (fun _ => rfl)) (fun _ => rfl)) (fun _ => rfl)) (by kernel_rfl) (E.g (by kernel_rfl)) (isFn_of E.X (by kernel_rfl)) (by kernel_rfl) (by kernel_rfl)) rho0 (by kernel_rfl) (or_kd (by kernel_rfl)) (fun _ => rfl))
 (sS_cons (sT_if (sB_boolOp (sL_and (sB_cmp cmp_inT sE_v (sE_tuple (sEs_cons (sE_int _ _ _) (sEs_cons (sE_int _ _ _) sEs_nil (fun _ => rfl)) (fun _ => rfl))) rfl) (sL_and (sB_cmp cmp_eq sE_v (sE_str _ _ _ (by kernel_rfl)) rfl) sL_andNil))) (sS_cons (sT_assign (sE_list (sEs_cons (sE_bin bin_add (sE_int _ _ _) (sE_bin bin_mod (sE_bin bin_fdiv (sE_callD E.KS (h_l_draw.deeper (by omega)) (sEs_cons sE_v (sEs_cons (sE_int _ _ _) sEs_nil (fun _ => rfl)) (fun _ => rfl)) (by kernel_rfl) (E.g (by kernel_rfl)) (isFn_of E.X (by kernel_rfl)) (by kernel_rfl) (by kernel_rfl)) (sE_int _ _ _)) (sE_int _ _ _))) (sEs_cons (sE_bin bin_add (sE_int _ _ _) (sE_bin bin_mod (sE_bin bin_fdiv (sE_callD E.KS (h_l_draw.deeper (by omega)) (sEs_cons sE_v (sEs_cons (sE_int _ _ _) sEs_nil (fun _ => rfl)) (fun _ => rfl)) (by kernel_rfl) (E.g (by kernel_rfl)) (isFn_of E.X (by kernel_rfl)) (by kernel_rfl) (by kernel_rfl)) (sE_int _ _ _)) (sE_int _ _ _))) sEs_nil (fun _ => rfl)) (fun _ => rfl))) rho0 (by kernel_rfl) (or_kd (by kernel_rfl)) (fun _ => rfl))
 (sS_cons (sT_ret (sE_callD E.KS (h_l_both.deeper (by omega)) (sEs_cons (sE_list (sEs_cons (sE_bin bin_mod (sE_callD E.KS (h_l_draw.deeper (by omega)) (sEs_cons sE_v (sEs_cons (sE_int _ _ _) sEs_nil (fun _ => rfl)) (fun _ => rfl)) (by kernel_rfl) (E.g (by kernel_rfl)) (isFn_of E.X (by kernel_rfl)) (by kernel_rfl) (by kernel_rfl)) (sE_int _ _ _)) (sEs_cons (sE_bin bin_mod (sE_callD E.KS (h_l_draw.deeper (by omega)) (sEs_cons sE_v (sEs_cons (sE_int _ _ _) sEs_nil (fun _ => rfl)) (fun _ => rfl)) (by kernel_rfl) (E.g (by kernel_rfl)) (isFn_of E.X (by kernel_rfl)) (by kernel_rfl) (by kernel_rfl)) (sE_int _ _ _)) sEs_nil (fun _ => rfl)) (fun _ => rfl))) (sEs_cons sE_v sEs_nil (fun _ => rfl)) (fun _ => rfl)) (by kernel_rfl) (E.g (by kernel_rfl)) (isFn_of E.X (by kernel_rfl)) (by kernel_rfl) (by kernel_rfl)))
 sS_nil)) sS_nil)
 (sS_cons (sT_if (sB_boolOp (sL_or (sB_cmp cmp_ne sE_v sE_v rfl) (sL_or (sB_cmp cmp_ne (sE_constK E (by kernel_rfl) (by kernel_rfl) (by kernel_rfl)) (sE_int _ _ _) rfl) (sL_or (sB_cmp cmp_ne (sE_constK E (by kernel_rfl) (by kernel_rfl) (by kernel_rfl)) (sE_int _ _ _) rfl) sL_orNil)))) (sS_cons (sT_ret (sE_bool _ _ _))
 sS_nil) sS_nil)
 (sS_cons (sT_if (sB_cmp cmp_eq sE_v (sE_str _ _ _ (by kernel_rfl)) rfl) (sS_cons (sT_ret (sE_bool _ _ _))
 sS_nil) sS_nil)
 (sS_cons (sT_if (sB_boolOp (sL_or (sB_cmp cmp_ne (sE_mcall E CL (h_b_rows.deeper (by omega)) sE_v sEs_nil (fun _ => rfl) (by kernel_rfl) (by kernel_rfl) (by decide) (by rw [hB]; kernel_rfl) (by kernel_rfl) (by kernel_rfl)) sE_v rfl) (sL_or (sB_cmp cmp_ne (sE_callD E.KS (h_l_call.deeper (by omega)) (sEs_cons sE_v (sEs_cons sE_v (sEs_cons sE_v sEs_nil (fun _ => rfl)) (fun _ => rfl)) (fun _ => rfl)) (by kernel_rfl) (E.g (by kernel_rfl)) (isFn_of E.X (by kernel_rfl)) (by kernel_rfl) (by kernel_rfl)) sE_v rfl) sL_orNil))) (sS_cons (sT_ret (sE_bool _ _ _))
 sS_nil) sS_nil)
 (sS_cons (sT_if (sB_cmp cmp_eq sE_v (sE_str _ _ _ (by kernel_rfl)) rfl) (sS_cons (sT_expr (sE_mcall E CL (h_b_take.deeper (by omega)) sE_v (sEs_cons sE_v sEs_nil (fun _ => rfl)) (fun _ => rfl) (by kernel_rfl) (by kernel_rfl) (by decide) (by rw [hB]; kernel_rfl) (by kernel_rfl) (by kernel_rfl)) (fun _ => rfl))
 (sS_cons (sT_assignComp sE_v (sFs_one (sB_cmp cmp_in sE_v (sE_comp (sE_mcall E CL (h_b_rows.deeper (by omega)) sE_v sEs_nil (fun _ => rfl) (by kernel_rfl) (by kernel_rfl) (by decide) (by rw [hB]; kernel_rfl) (by kernel_rfl) (by kernel_rfl)) sFs_nil (sE_item (sE_item sE_v (sE_int _ _ _)) (sE_int _ _ _)) (comp_at (by kernel_rfl)) (fun _ _ => rfl)) rfl)) sE_v (comp_at (by kernel_rfl)) (fun _ _ => rfl) (by kernel_rfl) (or_kd (by kernel_rfl)))
 (sS_cons (sT_ret (sE_cmp cmp_eq (sE_callD E.KS (h_l_call.deeper (by omega)) (sEs_cons sE_v (sEs_cons sE_v (sEs_cons sE_v sEs_nil (fun _ => rfl)) (fun _ => rfl)) (fun _ => rfl)) (by kernel_rfl) (E.g (by kernel_rfl)) (isFn_of E.X (by kernel_rfl)) (by kernel_rfl) (by kernel_rfl)) (sE_callD E.KS (h_l_due.deeper (by omega)) (sEs_cons sE_v (sEs_cons sE_v (sEs_cons sE_v (sEs_cons (sE_bin bin_sub sE_v (sE_int _ _ _)) sEs_nil (fun _ => rfl)) (fun _ => rfl)) (fun _ => rfl)) (fun _ => rfl)) (by kernel_rfl) (E.g (by kernel_rfl)) (isFn_of E.X (by kernel_rfl)) (by kernel_rfl) (by kernel_rfl)) rfl))
 sS_nil))) sS_nil)
 (sS_cons (sT_ret (sE_boolOp (sV_or (sE_cmp cmp_eq sE_v (sE_int _ _ _) rfl) (sV_one (sE_cmp cmp_eq (sE_mcall E CL (h_b_put.deeper (by omega)) sE_v (sEs_cons (sE_list (sEs_cons (sE_item sE_v (sE_int _ _ _)) sEs_nil (fun _ => rfl))) sEs_nil (fun _ => rfl)) (fun _ => rfl) (by kernel_rfl) (by kernel_rfl) (by decide) (by rw [hB]; kernel_rfl) (by kernel_rfl) (by kernel_rfl)) (sE_bin bin_add sE_v sE_v) rfl)))))
 sS_nil))))))))))))))))))))
theorem fn_law {S : St} {P : Params} (E : EnvL S (KK P)) (hE : S.excs = excT) (hO_BadName : OwnVE S (Str.ofString "BadName") 44) (hO_BadRow : OwnVE S (Str.ofString "BadRow") 56) (hO_TooMany : OwnVE S (Str.ofString "TooMany") 80) (hO_NoMeet : OwnVE S (Str.ofString "NoMeet") 92) (CL : Cls S (KK P)) (hB : S.book = 284) (h_l_draw : SoundF S true 2 (.ref 302) F_l_draw) (h_b_init : SoundF S true 2 (.ref 171) F_b_init) (h_b_put : SoundF S true 8 (.ref 178) F_b_put) (h_b_take : SoundF S true 2 (.ref 185) F_b_take) (h_b_rows : SoundF S true 2 (.ref 190) F_b_rows) (h_l_list : SoundF S true 4 (.ref 328) F_l_list) (h_l_odd : SoundF S true 2 (.ref 323) F_l_odd) (h_l_due : SoundF S true 4 (.ref 338) F_l_due) (h_l_call : SoundF S true 14 (.ref 316) F_l_call) (h_l_both : SoundF S true 14 (.ref 345) F_l_both) : SoundF S true 16 (.ref 350) (mkFn is_law T_law) :=
 sF_defK E.KS (isDef_of E.X (cd := 349) (ps := [(Str.ofString "_law_script")]) rfl ⟨_, rfl⟩ rfl rfl rfl rfl ⟨_, _, _, rfl, rfl, rfl⟩ (bind1 fun _ => rfl)) (by kernel_rfl) (snd_law E hE hO_BadName hO_BadRow hO_TooMany hO_NoMeet CL hB h_l_draw h_b_init h_b_put h_b_take h_b_rows h_l_list h_l_odd h_l_due h_l_call h_l_both)
theorem law_sound {S : St} {P : Params} (E : EnvL S (KK P)) (hE : S.excs = excT) (hO_BadName : OwnVE S (Str.ofString "BadName") 44) (hO_BadRow : OwnVE S (Str.ofString "BadRow") 56) (hO_TooMany : OwnVE S (Str.ofString "TooMany") 80) (hO_NoMeet : OwnVE S (Str.ofString "NoMeet") 92) (CL : Cls S (KK P)) (hB : S.book = 284) : SoundF S true 36 (.ref 350) lawFn := by
 have h_l_draw := (fn_l_draw E hE hO_BadName hO_BadRow hO_TooMany hO_NoMeet CL hB ).mono ok_l_draw
 have h_b_init := (fn_b_init E hE hO_BadName hO_BadRow hO_TooMany hO_NoMeet CL hB ).mono ok_b_init
 have h_is_name := (fn_is_name E hE hO_BadName hO_BadRow hO_TooMany hO_NoMeet CL hB ).mono ok_is_name
 have h_rising := (fn_rising E hE hO_BadName hO_BadRow hO_TooMany hO_NoMeet CL hB h_is_name).mono ok_rising
 have h_need_set := (fn_need_set E hE hO_BadName hO_BadRow hO_TooMany hO_NoMeet CL hB h_rising).mono ok_need_set
 have h_b_rows := (fn_b_rows E hE hO_BadName hO_BadRow hO_TooMany hO_NoMeet CL hB ).mono ok_b_rows
 have h_b_all_sets := (fn_b_all_sets E hE hO_BadName hO_BadRow hO_TooMany hO_NoMeet CL hB h_b_rows).mono ok_b_all_sets
 have h_b_names := (fn_b_names E hE hO_BadName hO_BadRow hO_TooMany hO_NoMeet CL hB h_b_all_sets h_rising).mono ok_b_names
 have h_b_put := (fn_b_put E hE hO_BadName hO_BadRow hO_TooMany hO_NoMeet CL hB h_need_set h_b_names).mono ok_b_put
 have h_b_take := (fn_b_take E hE hO_BadName hO_BadRow hO_TooMany hO_NoMeet CL hB ).mono ok_b_take
 have h_l_odd := (fn_l_odd E hE hO_BadName hO_BadRow hO_TooMany hO_NoMeet CL hB ).mono ok_l_odd
 have h_l_list := (fn_l_list E hE hO_BadName hO_BadRow hO_TooMany hO_NoMeet CL hB h_l_odd).mono ok_l_list
 have h_l_is_name := (fn_l_is_name E hE hO_BadName hO_BadRow hO_TooMany hO_NoMeet CL hB ).mono ok_l_is_name
 have h_l_due := (fn_l_due E hE hO_BadName hO_BadRow hO_TooMany hO_NoMeet CL hB h_l_is_name).mono ok_l_due
 have h_meets := (fn_meets E hE hO_BadName hO_BadRow hO_TooMany hO_NoMeet CL hB ).mono ok_meets
 have h_b_is_met := (fn_b_is_met E hE hO_BadName hO_BadRow hO_TooMany hO_NoMeet CL hB h_meets h_b_all_sets).mono ok_b_is_met
 have h_b_meets := (fn_b_meets E hE hO_BadName hO_BadRow hO_TooMany hO_NoMeet CL hB h_b_is_met h_need_set).mono ok_b_meets
 have h_b_pared := (fn_b_pared E hE hO_BadName hO_BadRow hO_TooMany hO_NoMeet CL hB h_need_set h_b_is_met).mono ok_b_pared
 have h_b_own := (fn_b_own E hE hO_BadName hO_BadRow hO_TooMany hO_NoMeet CL hB h_need_set h_b_is_met h_b_rows h_meets).mono ok_b_own
 have h_need_name := (fn_need_name E hE hO_BadName hO_BadRow hO_TooMany hO_NoMeet CL hB h_is_name).mono ok_need_name
 have h_book_of := (fn_book_of E hE hO_BadName hO_BadRow hO_TooMany hO_NoMeet CL hB h_b_init h_b_put).mono ok_book_of
 have h_b_struck := (fn_b_struck E hE hO_BadName hO_BadRow hO_TooMany hO_NoMeet CL hB h_need_name h_book_of h_b_all_sets).mono ok_b_struck
 have h_b_without := (fn_b_without E hE hO_BadName hO_BadRow hO_TooMany hO_NoMeet CL hB h_need_name h_book_of h_b_all_sets).mono ok_b_without
 have h_l_words := (fn_l_words E hE hO_BadName hO_BadRow hO_TooMany hO_NoMeet CL hB ).mono ok_l_words
 have h_l_call := (fn_l_call E hE hO_BadName hO_BadRow hO_TooMany hO_NoMeet CL hB h_b_put h_b_meets h_b_pared h_b_own h_b_struck h_b_without h_l_words).mono ok_l_call
 have h_b_joined := (fn_b_joined E hE hO_BadName hO_BadRow hO_TooMany hO_NoMeet CL hB h_book_of h_b_all_sets).mono ok_b_joined
 have h_b_crossed := (fn_b_crossed E hE hO_BadName hO_BadRow hO_TooMany hO_NoMeet CL hB h_b_all_sets h_rising h_book_of).mono ok_b_crossed
 have h_l_both := (fn_l_both E hE hO_BadName hO_BadRow hO_TooMany hO_NoMeet CL hB h_b_init h_b_put h_b_joined h_b_crossed h_l_words h_b_rows h_b_take).mono ok_l_both
 refine ((fn_law E hE hO_BadName hO_BadRow hO_TooMany hO_NoMeet CL hB h_l_draw h_b_init h_b_put h_b_take h_b_rows h_l_list h_l_odd h_l_due h_l_call h_l_both).mono fun vs H Q X h => ok_law vs H Q X ?_).deeper (by decide)
 obtain ⟨l, ns, rfl, rfl, hn, h⟩ := h
 exact ⟨l, ns, rfl, if_pos rfl, h⟩
end Mine
end
open PySem PySem.Calls PyProof.Rows PySem.W
set_option maxRecDepth 100000 in
set_option maxHeartbeats 4000000 in
theorem PySem.Challenge.cw_uf050031_12_holds : PySem.Challenge.rw_uf050031_12.Holds := by
 w_on
 refine holds_law Mine.h_said fun said => ?_
 refine holds_open (q := Mine.viewT) (loose := Mine.looseT) (Xt := Mine.XtT) (XP := XL Mine.viewT []) (YP := Mine.hookT.says) Mine.h_left Mine.hookT.of Mine.hookT.keeps (fun s e => xl_of s (Bool.and_eq_true_iff.mp e).1) XL.keeps (by rfl) (by rfl) (by rfl) (fun s e => recFacts_of (Bool.and_eq_true_iff.mp e).2) (by rfl) (by assumption) (by decide +kernel) ⟨rfl, rfl, rfl, rfl, rfl, by decide +kernel⟩ ?hw ?hc
 case hw => w_witness2
 case hc =>
 intro w s₀ s₁ mg mb G Y fa o pm cd doc dV kV ho hd hcd hD hmg hg args vals as hpre hlay hrd hwl hlo
 have KX : (Mine.KK w.params).In s₁.heap := kIn_of Y
 wrow_args hpre hlay hrd hwl hlo
 rename_i hl _ _ _ hi _ hlen _
 show wpAny _ _ (call (.ref fa) [.ref _]) _ _ _
 have E := Mine.envL_of (prog := PySem.Challenge.rw_uf050031_12.row.prog) (w := w) (book := 284) (excs := Mine.excT) G.T (by kernel_rfl) KX ⟨_, _, _, rfl, rfl⟩
 have CL : Mine.Cls (Mine.stOf PySem.Challenge.rw_uf050031_12.row.prog w s₁ mg mb 284 Mine.excT) (Mine.KK w.params) := ⟨by kernel_rfl, by kernel_rfl, by kernel_rfl, by kernel_rfl, by kernel_rfl, by kernel_rfl, by kernel_rfl⟩
 have e : mg (Str.ofString "law") = some (.ref 350) := E.g (by kernel_rfl)
 have hmg' : mg (Str.ofString "law") = some (.ref fa) := hmg
 rw [e] at hmg'; cases hmg'
 exact Mine.law_ends (d := 36) (Mine.law_sound (P := _) E rfl (own_of_in KX (topRead_of G.T) (by kernel_rfl) (by kernel_rfl)) (own_of_in KX (topRead_of G.T) (by kernel_rfl) (by kernel_rfl)) (own_of_in KX (topRead_of G.T) (by kernel_rfl) (by kernel_rfl)) (own_of_in KX (topRead_of G.T) (by kernel_rfl) (by kernel_rfl)) CL rfl) (by decide) hl hi (by omega) hg fun s' hk ho' hg' => GoodW.toG ⟨.inl ⟨.bool true, .bool true, [], rfl, fun _ => by kernel_rfl, by constructor, by kernel_rfl, fun _ => ⟨List.nodup_nil, fun _ h => (nomatch h)⟩⟩, hk, ho', hg'⟩
