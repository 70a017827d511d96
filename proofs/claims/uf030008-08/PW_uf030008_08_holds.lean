import PyProof.Rows.All
import Wide.All
import Open.Line
import Wide.FinOn
import PyProof.Cells
import PyProof.DictCalls
import PyProof.DictWalks
import PyProof.MinMaxWalk
import PyProof.Rows.TupIn
import PyProof.CompFree
import PyProof.StationsW
import PyProof.PureInt
import PyProof.EqKinds
import PyProof.TupleIter
import PyProof.TupleOps
import PyProof.WalksMore
import PyProof.NoPylong
import PyProof.ForAny
import PyProof.EvalArms
import PyProof.ListMulRoad
import PyProof.WalkInts
import PyProof.DictStraight
import PyProof.Rows.Range3
import OpenK.KCall
import PyProof.ExcClass2
import PyProof.Rows.Catch
import PyProof.RulesAs
import PyProof.Rows.Own
import PyProof.ExcBaseAll.ValueError
import OpenK.KWalk
import OpenK.KOwn
import KE.KTryMore
import PyProof.ExcAttrAll.ValueError
import PySem.Challenge.RW_uf030008_08
set_option Elab.async false
set_option bootstrap.genMatcherCode false
set_option compiler.extract_closed false
set_option maxRecDepth 100000
set_option linter.unusedVariables false
namespace Mine
section
open PySem PySem.W PyProof.Rows
noncomputable def k08 (P:Params):Frag:=[
  (3,{ cls:=Value.type "dict",data:=Data.dict #[{ hash:=PyData.keyHash P (Str.ofString "__name__"),key:=Value.str (Str.ofString "__name__") 165,val:=Value.str (Str.ofString "law_uf030008_08") 682 },{ hash:=PyData.keyHash P (Str.ofString "__doc__"),key:=Value.str (Str.ofString "__doc__") 166,val:=Value.none },{ hash:=PyData.keyHash P (Str.ofString "__package__"),key:=Value.str (Str.ofString "__package__") 167,val:=Value.none },{ hash:=PyData.keyHash P (Str.ofString "__loader__"),key:=Value.str (Str.ofString "__loader__") 168,val:=Value.builtin "__main__.__loader__#opaque" },{ hash:=PyData.keyHash P (Str.ofString "__spec__"),key:=Value.str (Str.ofString "__spec__") 169,val:=Value.none },{ hash:=PyData.keyHash P (Str.ofString "__annotations__"),key:=Value.str (Str.ofString "__annotations__") 170,val:=Value.ref 6 },{ hash:=PyData.keyHash P (Str.ofString "__builtins__"),key:=Value.str (Str.ofString "__builtins__") 171,val:=Value.ref 4 },{ hash:=PyData.keyHash P (Str.ofString "__file__"),key:=Value.str (Str.ofString "__file__") 173,val:=Value.str (Str.ofString "/claim/cut.py") 172 },{ hash:=PyData.keyHash P (Str.ofString "__cached__"),key:=Value.str (Str.ofString "__cached__") 174,val:=Value.none },{ hash:=PyData.keyHash P (Str.ofString "PartError"),key:=Value.str (Str.ofString "PartError") 206,val:=Value.ref 24 },{ hash:=PyData.keyHash P (Str.ofString "NoRow"),key:=Value.str (Str.ofString "NoRow") 222,val:=Value.ref 37 },{ hash:=PyData.keyHash P (Str.ofString "NoQuotient"),key:=Value.str (Str.ofString "NoQuotient") 238,val:=Value.ref 49 },{ hash:=PyData.keyHash P (Str.ofString "Nought"),key:=Value.str (Str.ofString "Nought") 254,val:=Value.ref 61 },{ hash:=PyData.keyHash P (Str.ofString "is_whole"),key:=Value.str (Str.ofString "is_whole") 263,val:=Value.ref 70 },{ hash:=PyData.keyHash P (Str.ofString "divisor_of"),key:=Value.str (Str.ofString "divisor_of") 274,val:=Value.ref 77 },{ hash:=PyData.keyHash P (Str.ofString "fraction"),key:=Value.str (Str.ofString "fraction") 283,val:=Value.ref 84 },{ hash:=PyData.keyHash P (Str.ofString "is_fraction"),key:=Value.str (Str.ofString "is_fraction") 290,val:=Value.ref 91 },{ hash:=PyData.keyHash P (Str.ofString "sum_of"),key:=Value.str (Str.ofString "sum_of") 298,val:=Value.ref 98 },{ hash:=PyData.keyHash P (Str.ofString "product_of"),key:=Value.str (Str.ofString "product_of") 306,val:=Value.ref 105 },{ hash:=PyData.keyHash P (Str.ofString "part_of"),key:=Value.str (Str.ofString "part_of") 314,val:=Value.ref 112 },{ hash:=PyData.keyHash P (Str.ofString "turned"),key:=Value.str (Str.ofString "turned") 321,val:=Value.ref 119 },{ hash:=PyData.keyHash P (Str.ofString "ZERO"),key:=Value.str (Str.ofString "ZERO") 326,val:=Value.ref 120 },{ hash:=PyData.keyHash P (Str.ofString "UNIT"),key:=Value.str (Str.ofString "UNIT") 329,val:=Value.ref 122 },{ hash:=PyData.keyHash P (Str.ofString "is_row"),key:=Value.str (Str.ofString "is_row") 337,val:=Value.ref 129 },{ hash:=PyData.keyHash P (Str.ofString "need_row"),key:=Value.str (Str.ofString "need_row") 344,val:=Value.ref 136 },{ hash:=PyData.keyHash P (Str.ofString "trimmed"),key:=Value.str (Str.ofString "trimmed") 352,val:=Value.ref 143 },{ hash:=PyData.keyHash P (Str.ofString "added"),key:=Value.str (Str.ofString "added") 362,val:=Value.ref 150 },{ hash:=PyData.keyHash P (Str.ofString "scaled"),key:=Value.str (Str.ofString "scaled") 368,val:=Value.ref 155 },{ hash:=PyData.keyHash P (Str.ofString "lessened"),key:=Value.str (Str.ofString "lessened") 376,val:=Value.ref 162 },{ hash:=PyData.keyHash P (Str.ofString "multiplied"),key:=Value.str (Str.ofString "multiplied") 387,val:=Value.ref 169 },{ hash:=PyData.keyHash P (Str.ofString "parted"),key:=Value.str (Str.ofString "parted") 400,val:=Value.ref 176 },{ hash:=PyData.keyHash P (Str.ofString "led"),key:=Value.str (Str.ofString "led") 407,val:=Value.ref 183 },{ hash:=PyData.keyHash P (Str.ofString "raised"),key:=Value.str (Str.ofString "raised") 417,val:=Value.ref 190 },{ hash:=PyData.keyHash P (Str.ofString "rate_of"),key:=Value.str (Str.ofString "rate_of") 423,val:=Value.ref 195 },{ hash:=PyData.keyHash P (Str.ofString "plus"),key:=Value.str (Str.ofString "plus") 431,val:=Value.ref 202 },{ hash:=PyData.keyHash P (Str.ofString "times"),key:=Value.str (Str.ofString "times") 439,val:=Value.ref 209 },{ hash:=PyData.keyHash P (Str.ofString "divided"),key:=Value.str (Str.ofString "divided") 447,val:=Value.ref 216 },{ hash:=PyData.keyHash P (Str.ofString "rate"),key:=Value.str (Str.ofString "rate") 454,val:=Value.ref 223 },{ hash:=PyData.keyHash P (Str.ofString "shared"),key:=Value.str (Str.ofString "shared") 471,val:=Value.ref 230 },{ hash:=PyData.keyHash P (Str.ofString "common"),key:=Value.str (Str.ofString "common") 479,val:=Value.ref 237 },{ hash:=PyData.keyHash P (Str.ofString "EMPTY"),key:=Value.str (Str.ofString "EMPTY") 484,val:=Value.ref 241 },{ hash:=PyData.keyHash P (Str.ofString "is_quotient"),key:=Value.str (Str.ofString "is_quotient") 491,val:=Value.ref 248 },{ hash:=PyData.keyHash P (Str.ofString "need_quotient"),key:=Value.str (Str.ofString "need_quotient") 498,val:=Value.ref 255 },{ hash:=PyData.keyHash P (Str.ofString "made"),key:=Value.str (Str.ofString "made") 510,val:=Value.ref 262 },{ hash:=PyData.keyHash P (Str.ofString "together"),key:=Value.str (Str.ofString "together") 519,val:=Value.ref 269 },{ hash:=PyData.keyHash P (Str.ofString "quotient"),key:=Value.str (Str.ofString "quotient") 527,val:=Value.ref 276 },{ hash:=PyData.keyHash P (Str.ofString "joined"),key:=Value.str (Str.ofString "joined") 535,val:=Value.ref 283 },{ hash:=PyData.keyHash P (Str.ofString "rated"),key:=Value.str (Str.ofString "rated") 544,val:=Value.ref 290 },{ hash:=PyData.keyHash P (Str.ofString "by_powers"),key:=Value.str (Str.ofString "by_powers") 560,val:=Value.ref 297 },{ hash:=PyData.keyHash P (Str.ofString "cut_by"),key:=Value.str (Str.ofString "cut_by") 574,val:=Value.ref 304 },{ hash:=PyData.keyHash P (Str.ofString "cut"),key:=Value.str (Str.ofString "cut") 584,val:=Value.ref 311 },{ hash:=PyData.keyHash P (Str.ofString "parts"),key:=Value.str (Str.ofString "parts") 593,val:=Value.ref 318 },{ hash:=PyData.keyHash P (Str.ofString "pieces_of"),key:=Value.str (Str.ofString "pieces_of") 605,val:=Value.ref 325 },{ hash:=PyData.keyHash P (Str.ofString "taken"),key:=Value.str (Str.ofString "taken") 622,val:=Value.ref 332 },{ hash:=PyData.keyHash P (Str.ofString "apart"),key:=Value.str (Str.ofString "apart") 631,val:=Value.ref 339 },{ hash:=PyData.keyHash P (Str.ofString "grown_row"),key:=Value.str (Str.ofString "grown_row") 639,val:=Value.ref 344 },{ hash:=PyData.keyHash P (Str.ofString "lowered"),key:=Value.str (Str.ofString "lowered") 654,val:=Value.ref 351 },{ hash:=PyData.keyHash P (Str.ofString "tops_by_parts"),key:=Value.str (Str.ofString "tops_by_parts") 665,val:=Value.ref 358 },{ hash:=PyData.keyHash P (Str.ofString "growth"),key:=Value.str (Str.ofString "growth") 681,val:=Value.ref 365 },{ hash:=PyData.keyHash P (Str.ofString "_law_cell_at"),key:=Value.str (Str.ofString "_law_cell_at") 691,val:=Value.ref 372 },{ hash:=PyData.keyHash P (Str.ofString "_law_stream"),key:=Value.str (Str.ofString "_law_stream") 702,val:=Value.ref 379 },{ hash:=PyData.keyHash P (Str.ofString "_law_divisor"),key:=Value.str (Str.ofString "_law_divisor") 710,val:=Value.ref 386 },{ hash:=PyData.keyHash P (Str.ofString "_law_fraction"),key:=Value.str (Str.ofString "_law_fraction") 719,val:=Value.ref 393 },{ hash:=PyData.keyHash P (Str.ofString "_law_sum"),key:=Value.str (Str.ofString "_law_sum") 727,val:=Value.ref 400 },{ hash:=PyData.keyHash P (Str.ofString "_law_product"),key:=Value.str (Str.ofString "_law_product") 735,val:=Value.ref 407 },{ hash:=PyData.keyHash P (Str.ofString "_law_trim"),key:=Value.str (Str.ofString "_law_trim") 742,val:=Value.ref 414 },{ hash:=PyData.keyHash P (Str.ofString "_law_plus"),key:=Value.str (Str.ofString "_law_plus") 748,val:=Value.ref 419 },{ hash:=PyData.keyHash P (Str.ofString "_law_scale"),key:=Value.str (Str.ofString "_law_scale") 754,val:=Value.ref 424 },{ hash:=PyData.keyHash P (Str.ofString "_law_times"),key:=Value.str (Str.ofString "_law_times") 764,val:=Value.ref 431 },{ hash:=PyData.keyHash P (Str.ofString "_law_number"),key:=Value.str (Str.ofString "_law_number") 771,val:=Value.ref 438 },{ hash:=PyData.keyHash P (Str.ofString "_law_row_by"),key:=Value.str (Str.ofString "_law_row_by") 777,val:=Value.ref 443 },{ hash:=PyData.keyHash P (Str.ofString "_law_bad"),key:=Value.str (Str.ofString "_law_bad") 784,val:=Value.ref 450 },{ hash:=PyData.keyHash P (Str.ofString "_law_wrong_row"),key:=Value.str (Str.ofString "_law_wrong_row") 793,val:=Value.ref 457 },{ hash:=PyData.keyHash P (Str.ofString "_law_wrong_quotient"),key:=Value.str (Str.ofString "_law_wrong_quotient") 804,val:=Value.ref 464 },{ hash:=PyData.keyHash P (Str.ofString "_law_rows_done"),key:=Value.str (Str.ofString "_law_rows_done") 814,val:=Value.ref 471 },{ hash:=PyData.keyHash P (Str.ofString "_law_quotients_done"),key:=Value.str (Str.ofString "_law_quotients_done") 824,val:=Value.ref 478 },{ hash:=PyData.keyHash P (Str.ofString "_law_word"),key:=Value.str (Str.ofString "_law_word") 837,val:=Value.ref 485 },{ hash:=PyData.keyHash P (Str.ofString "_law_of_rows"),key:=Value.str (Str.ofString "_law_of_rows") 852,val:=Value.ref 492 },{ hash:=PyData.keyHash P (Str.ofString "_law_of_quotients"),key:=Value.str (Str.ofString "_law_of_quotients") 868,val:=Value.ref 499 },{ hash:=PyData.keyHash P (Str.ofString "law"),key:=Value.str (Str.ofString "law") 879,val:=Value.ref 506 }] 80 }),
  (23,{ cls:=Value.type "dict",data:=Data.dict #[{ hash:=PyData.keyHash P (Str.ofString "__module__"),key:=Value.str (Str.ofString "__module__") 196,val:=Value.str (Str.ofString "fractionparts.errors") 187 },{ hash:=PyData.keyHash P (Str.ofString "__firstlineno__"),key:=Value.str (Str.ofString "__firstlineno__") 200,val:=Value.int 2 199 },{ hash:=PyData.keyHash P (Str.ofString "__static_attributes__"),key:=Value.str (Str.ofString "__static_attributes__") 201,val:=Value.ref 22 },{ hash:=PyData.keyHash P (Str.ofString "__weakref__"),key:=Value.str (Str.ofString "__weakref__") 203,val:=Value.ref 25 },{ hash:=PyData.keyHash P (Str.ofString "__doc__"),key:=Value.str (Str.ofString "__doc__") 204,val:=Value.none }] 3 }),
  (24,{ cls:=Value.type "type",data:=Data.cls { name:=Str.ofString "PartError",bases:=[Value.type "ValueError"],mro:=[Value.ref 24,Value.type "ValueError",Value.type "Exception",Value.type "BaseException",Value.type "object"],ns:=23,qualname:=Str.ofString "PartError",subclasses:=[Value.ref 37,Value.ref 49,Value.ref 61] },slots:=#[some (Value.ref 15),none,some (Value.str (Str.ofString "PartError") 189),some (Value.str (Str.ofString "PartError") 197),some (Value.builtin "ValueError.__new__"),some (Value.bool true)] }),
  (36,{ cls:=Value.type "dict",data:=Data.dict #[{ hash:=PyData.keyHash P (Str.ofString "__module__"),key:=Value.str (Str.ofString "__module__") 214,val:=Value.str (Str.ofString "fractionparts.errors") 187 },{ hash:=PyData.keyHash P (Str.ofString "__firstlineno__"),key:=Value.str (Str.ofString "__firstlineno__") 218,val:=Value.int 4 217 },{ hash:=PyData.keyHash P (Str.ofString "__static_attributes__"),key:=Value.str (Str.ofString "__static_attributes__") 219,val:=Value.ref 35 },{ hash:=PyData.keyHash P (Str.ofString "__doc__"),key:=Value.str (Str.ofString "__doc__") 220,val:=Value.none }] 2 }),
  (37,{ cls:=Value.type "type",data:=Data.cls { name:=Str.ofString "NoRow",bases:=[Value.ref 24],mro:=[Value.ref 37,Value.ref 24,Value.type "ValueError",Value.type "Exception",Value.type "BaseException",Value.type "object"],ns:=36,qualname:=Str.ofString "NoRow" },slots:=#[some (Value.ref 28),none,some (Value.str (Str.ofString "NoRow") 207),some (Value.str (Str.ofString "NoRow") 215),some (Value.builtin "ValueError.__new__"),some (Value.bool true)] }),
  (48,{ cls:=Value.type "dict",data:=Data.dict #[{ hash:=PyData.keyHash P (Str.ofString "__module__"),key:=Value.str (Str.ofString "__module__") 230,val:=Value.str (Str.ofString "fractionparts.errors") 187 },{ hash:=PyData.keyHash P (Str.ofString "__firstlineno__"),key:=Value.str (Str.ofString "__firstlineno__") 234,val:=Value.int 6 233 },{ hash:=PyData.keyHash P (Str.ofString "__static_attributes__"),key:=Value.str (Str.ofString "__static_attributes__") 235,val:=Value.ref 47 },{ hash:=PyData.keyHash P (Str.ofString "__doc__"),key:=Value.str (Str.ofString "__doc__") 236,val:=Value.none }] 2 }),
  (49,{ cls:=Value.type "type",data:=Data.cls { name:=Str.ofString "NoQuotient",bases:=[Value.ref 24],mro:=[Value.ref 49,Value.ref 24,Value.type "ValueError",Value.type "Exception",Value.type "BaseException",Value.type "object"],ns:=48,qualname:=Str.ofString "NoQuotient" },slots:=#[some (Value.ref 40),none,some (Value.str (Str.ofString "NoQuotient") 223),some (Value.str (Str.ofString "NoQuotient") 231),some (Value.builtin "ValueError.__new__"),some (Value.bool true)] }),
  (60,{ cls:=Value.type "dict",data:=Data.dict #[{ hash:=PyData.keyHash P (Str.ofString "__module__"),key:=Value.str (Str.ofString "__module__") 246,val:=Value.str (Str.ofString "fractionparts.errors") 187 },{ hash:=PyData.keyHash P (Str.ofString "__firstlineno__"),key:=Value.str (Str.ofString "__firstlineno__") 250,val:=Value.int 8 249 },{ hash:=PyData.keyHash P (Str.ofString "__static_attributes__"),key:=Value.str (Str.ofString "__static_attributes__") 251,val:=Value.ref 59 },{ hash:=PyData.keyHash P (Str.ofString "__doc__"),key:=Value.str (Str.ofString "__doc__") 252,val:=Value.none }] 2 }),
  (61,{ cls:=Value.type "type",data:=Data.cls { name:=Str.ofString "Nought",bases:=[Value.ref 24],mro:=[Value.ref 61,Value.ref 24,Value.type "ValueError",Value.type "Exception",Value.type "BaseException",Value.type "object"],ns:=60,qualname:=Str.ofString "Nought" },slots:=#[some (Value.ref 52),none,some (Value.str (Str.ofString "Nought") 239),some (Value.str (Str.ofString "Nought") 247),some (Value.builtin "ValueError.__new__"),some (Value.bool true)] }),
  (120,{ cls:=Value.type "tuple",data:=Data.seq #[Value.int 0 324,Value.int 1 325] }),
  (121,{ cls:=Value.type "tuple",data:=Data.seq #[Value.int 1 327,Value.int 1 328] }),
  (122,{ cls:=Value.type "tuple",data:=Data.seq #[Value.ref 121] }),
  (238,{ cls:=Value.type "tuple",data:=Data.seq #[] }),
  (239,{ cls:=Value.type "tuple",data:=Data.seq #[Value.int 1 482,Value.int 1 483] }),
  (240,{ cls:=Value.type "tuple",data:=Data.seq #[Value.ref 239] }),
  (241,{ cls:=Value.type "tuple",data:=Data.seq #[Value.ref 238,Value.ref 240] })]
noncomputable abbrev r8:=PySem.Challenge.rw_uf030008_08.row
noncomputable def q8:Program:={ r8.prog with main:={ r8.prog.main with body:=r8.prog.main.body.filter fun s=>(nameLine? s).isNone } }
noncomputable abbrev H8:Hook:=kHook k08 [3,23,24,36,37,48,49,60,61,120,121,122,238,239,240,241] (fun _=>rfl)
set_option maxHeartbeats 8000000 in
theorem l8a (w:World):(openEnds treeTable r8.prog w 6004).map (fun s=>seen ((recsOf q8).map (·.name)) (ownsOf q8) [] { s with gens:=#[] })=some (expectedOf q8):=by kernel_rfl
set_option maxHeartbeats 8000000 in
theorem l8b (w:World):(openEnds treeTable r8.prog w 6004).map (fun s=>((s.heap.bltView,s.heap.keysOk (looseW q8 []) ((recsOf q8).map (·.name)) ((litsOf q8).map (·.1)) ((clssOf q8 (looseW q8 [])).map (·.name)),s.heap.accountedOkI (importedModules r8.prog.main.body)),(s.heap.isNs mainGlobals,s.heap.isNs builtinsNs,tablesOk q8 s.heap,(xlAt q8 [] s&&recOk (RowW.records r8.toRowW) s),(if true then s.gens.size==0 else !leftWithCleanup s.gens)),(pinSeenD q8 (drecsOf q8) s,plainSeenE q8 (looseW q8 []) s,plainSeenD q8 [] s,wideSeen q8 s,clsSeenW q8 [] s),Hook.obs H8 s))=some (((bltViewBooted,true,true),(true,true,true,true,true),(pinGoodD (drecsOf q8),plainGoodE q8 (looseW q8 []),plainGoodD q8 [],wideGood q8,clsGoodW q8 []),Hook.val H8 w)):=by kernel_rfl
set_option maxHeartbeats 8000000 in
theorem l8c (w:World):(openEnds treeTable r8.prog w 6004).map (fun s=>tabsOk q8 s)=some (true):=by kernel_rfl
theorem join8 {σ A B E Y:Type} {O:Option σ} {f1:σ→A} {f2:σ→B} {k1 k2 n1 n2 n3 n4 n5 t:σ→Bool} {f5:σ→E} {y:σ→Y} {a:A} {b:B} {e:E} {z:Y} (h1:O.map f1=some a) (h2:O.map (fun s=>((f2 s,k1 s,k2 s),(n1 s,n2 s,n3 s,n4 s,n5 s),f5 s,y s))=some ((b,true,true),(true,true,true,true,true),e,z)) (h3:O.map t=some true):O.map (fun s=>((f1 s,f2 s,k1 s&&k2 s&&n1 s&&n2 s&&n3 s&&n4 s&&n5 s,t s,f5 s),y s))=some ((a,b,true,true,e),z):=by
 cases O with
 | none=>cases h1
 | some s =>
  simp only [Option.map_some,Option.some.injEq,Prod.mk.injEq] at h1 h2 h3
  simp only [Option.map_some,h1,h2,h3,Bool.and_self]
theorem left_of {p q:Program} {loose:List Str} {Xt:Shared→Bool} {α:Type} {Yf:Shared→α} {Ya:World→α} {N:Nat}
  (h1:∀ w,(openEnds treeTable p w N).map (fun s=>seen ((recsOf q).map (·.name)) (ownsOf q) [] { s with gens:=#[] })=some (expectedOf q))
  (h2:∀ w,(openEnds treeTable p w N).map (fun s=>((s.heap.bltView,s.heap.keysOk (looseW q loose) ((recsOf q).map (·.name)) ((litsOf q).map (·.1)) ((clssOf q (looseW q loose)).map (·.name)),s.heap.accountedOkI (importedModules p.main.body)),(s.heap.isNs mainGlobals,s.heap.isNs builtinsNs,tablesOk q s.heap,Xt s,(if true then s.gens.size==0 else !leftWithCleanup s.gens)),(pinSeenD q (drecsOf q) s,plainSeenE q (looseW q loose) s,plainSeenD q loose s,wideSeen q s,clsSeenW q loose s),Yf s))=some ((bltViewBooted,true,true),(true,true,true,true,true),(pinGoodD (drecsOf q),plainGoodE q (looseW q loose),plainGoodD q loose,wideGood q,clsGoodW q loose),Ya w))
  (h3:∀ w,(openEnds treeTable p w N).map (fun s=>tabsOk q s)=some true):LeftO p q loose Xt Yf Ya N:=fun w=>join8 (h1 w) (h2 w) (h3 w)
theorem left8:LeftO r8.prog q8 [] (fun s=>xlAt q8 [] s&&recOk (RowW.records r8.toRowW) s) (Hook.obs H8) (Hook.val H8) 6004:=left_of l8a l8b l8c
end
end Mine
noncomputable section
namespace Mine
set_option genSizeOf false in
set_option genInjectivity false in
inductive NT where
 | x (i:Nat) | k (n:Nat) | a (p q:NT) | m (c:Nat) (p:NT) | r (p:NT) (c:Nat)
set_option genSizeOf false in
set_option genInjectivity false in
inductive IT where
 | x (i:Nat) | k (z:Int) | c (p:NT) | a (p q:IT) | s (p q:IT) | g (p:IT) | m (z:Int) (p:IT) | r (p:IT) (z:Int)
set_option genSizeOf false in
set_option genInjectivity false in
inductive CT where
 | nl (p q:NT) | nt (p q:NT) | ne (p q:NT) | il (p q:IT) | it (p q:IT) | ie (p q:IT) | f
noncomputable def atN:List Nat→Nat→Nat
 | [],_=>0
 | v :: _,0=>v
 | _ :: l,i+1=>atN l i
noncomputable def atI:List Int→Nat→Int
 | [],_=>0
 | v :: _,0=>v
 | _ :: l,i+1=>atI l i
noncomputable def NT.d (N:List Nat):NT→Nat
 | .x i=>atN N i
 | .k n=>n
 | .a p q=>p.d N+q.d N
 | .m c p=>c*p.d N
 | .r p c=>p.d N*c
noncomputable def IT.d (N:List Nat) (I:List Int):IT→Int
 | .x i=>atI I i
 | .k z=>z
 | .c p=>(p.d N:Int)
 | .a p q=>p.d N I+q.d N I
 | .s p q=>p.d N I - q.d N I
 | .g p=>- p.d N I
 | .m z p=>z*p.d N I
 | .r p z=>p.d N I*z
noncomputable def CT.d (N:List Nat) (I:List Int):CT→Prop
 | .nl p q=>p.d N≤q.d N
 | .nt p q=>p.d N<q.d N
 | .ne p q=>p.d N=q.d N
 | .il p q=>p.d N I≤q.d N I
 | .it p q=>p.d N I<q.d N I
 | .ie p q=>p.d N I=q.d N I
 | .f=>False
structure Po where
 c:Int
 n:List Int
 i:List Int
noncomputable def dotI:List Int→List Int→Int
 | c :: cs,v :: vs=>c*v+dotI cs vs
 | _,_=>0
noncomputable def cst:List Nat→List Int
 | []=>[]
 | v :: l=>(v:Int) :: cst l
noncomputable def Po.e (N:List Nat) (I:List Int) (p:Po):Int:=p.c+(dotI p.n (cst N)+dotI p.i I)
noncomputable def adL:List Int→List Int→List Int
 | [],l=>l
 | a :: l,[]=>a :: l
 | a :: l,b :: m=>(a+b) :: adL l m
noncomputable def mulL (z:Int):List Int→List Int
 | []=>[]
 | a :: l=>z*a :: mulL z l
noncomputable def unitL:Nat→List Int
 | 0=>[1]
 | i+1=>0 :: unitL i
noncomputable def Po.add (p q:Po):Po:=⟨p.c+q.c,adL p.n q.n,adL p.i q.i⟩
noncomputable def Po.mul (z:Int) (p:Po):Po:=⟨z*p.c,mulL z p.n,mulL z p.i⟩
noncomputable def Po.sub (p q:Po):Po:=p.add (q.mul (-1))
noncomputable def Po.dec (p:Po):Po:=p.add ⟨-1,[],[]⟩
noncomputable def NT.p:NT→Po
 | .x i=>⟨0,unitL i,[]⟩
 | .k n=>⟨n,[],[]⟩
 | .a p q=>p.p.add q.p
 | .m c p=>p.p.mul c
 | .r p c=>p.p.mul c
noncomputable def IT.p:IT→Po
 | .x i=>⟨0,[],unitL i⟩
 | .k z=>⟨z,[],[]⟩
 | .c p=>p.p
 | .a p q=>p.p.add q.p
 | .s p q=>p.p.sub q.p
 | .g p=>p.p.mul (-1)
 | .m z p=>p.p.mul z
 | .r p z=>p.p.mul z
noncomputable def CT.p:CT→Po
 | .nl p q=>q.p.sub p.p
 | .nt p q=>(q.p.sub p.p).dec
 | .ne p q=>q.p.sub p.p
 | .il p q=>q.p.sub p.p
 | .it p q=>(q.p.sub p.p).dec
 | .ie p q=>q.p.sub p.p
 | .f=>⟨-1,[],[]⟩
noncomputable def CT.eq:CT→Bool
 | .ne _ _=>true
 | .ie _ _=>true
 | _=>false
theorem swap4 (a b c d:Int):a+b+(c+d)=a+c+(b+d):=by rw [Int.add_assoc,Int.add_left_comm b,Int.add_assoc]
theorem dot_add:∀ (l m N:List Int),dotI (adL l m) N=dotI l N+dotI m N
 | [],m,N=>(Int.zero_add _).symm
 | a :: l,[],N=>(Int.add_zero _).symm
 | a :: l,b :: m,[]=>rfl
 | a :: l,b :: m,v :: N=>by
  show (a+b)*v+dotI (adL l m) N=a*v+dotI l N+(b*v+dotI m N)
  rw [dot_add l m N,Int.add_mul,swap4]
theorem dot_mul (z:Int):∀ (l N:List Int),dotI (mulL z l) N=z*dotI l N
 | [],N=>(Int.mul_zero z).symm
 | a :: l,[]=>(Int.mul_zero z).symm
 | a :: l,v :: N=>by
  show z*a*v+dotI (mulL z l) N=z*(a*v+dotI l N)
  rw [dot_mul z l N,Int.mul_add,Int.mul_assoc]
theorem dot_unit:∀ (i:Nat) (N:List Int),dotI (unitL i) N=atI N i
 | 0,[]=>rfl
 | 0,v :: N=>by show 1*v+0=v; rw [Int.add_zero,Int.one_mul]
 | i+1,[]=>rfl
 | i+1,v :: N=>by
  show 0*v+dotI (unitL i) N=atI N i
  rw [dot_unit i N,Int.zero_mul,Int.zero_add]
theorem at_cst:∀ (N:List Nat) (i:Nat),atI (cst N) i=(atN N i:Int)
 | [],0=>rfl
 | [],i+1=>rfl
 | v :: N,0=>rfl
 | v :: N,i+1=>at_cst N i
theorem Po.e_add (N:List Nat) (I:List Int) (p q:Po):(p.add q).e N I=p.e N I+q.e N I:=by
 show p.c+q.c+(dotI (adL p.n q.n) (cst N)+dotI (adL p.i q.i) I)=p.c+(dotI p.n (cst N)+dotI p.i I)+(q.c+(dotI q.n (cst N)+dotI q.i I))
 rw [dot_add,dot_add,swap4 (dotI p.n (cst N)),swap4 p.c]
theorem Po.e_mul (N:List Nat) (I:List Int) (z:Int) (p:Po):(p.mul z).e N I=z*p.e N I:=by
 show z*p.c+(dotI (mulL z p.n) (cst N)+dotI (mulL z p.i) I)=z*(p.c+(dotI p.n (cst N)+dotI p.i I))
 rw [dot_mul,dot_mul,Int.mul_add,Int.mul_add]
theorem Po.e_k (N:List Nat) (I:List Int) (z:Int):Po.e N I ⟨z,[],[]⟩=z:=Int.add_zero z
theorem Po.e_sub (N:List Nat) (I:List Int) (p q:Po):(p.sub q).e N I=p.e N I - q.e N I:=by
 unfold Po.sub
 rw [Po.e_add,Po.e_mul,Int.neg_one_mul,Int.sub_eq_add_neg]
theorem Po.e_dec (N:List Nat) (I:List Int) (p:Po):p.dec.e N I=p.e N I - 1:=by
 unfold Po.dec
 rw [Po.e_add,Po.e_k]; rfl
theorem NT.ok (N:List Nat) (I:List Int):∀ t:NT,t.p.e N I=(t.d N:Int)
 | .x i=>by
  show 0+(dotI (unitL i) (cst N)+0)=(atN N i:Int)
  rw [dot_unit,at_cst,Int.add_zero,Int.zero_add]
 | .k n=>Po.e_k N I n
 | .a p q=>(Po.e_add N I p.p q.p).trans (by rw [NT.ok N I p,NT.ok N I q]; rfl)
 | .m c p=>(Po.e_mul N I c p.p).trans (by rw [NT.ok N I p]; rfl)
 | .r p c=>(Po.e_mul N I c p.p).trans (by rw [NT.ok N I p,Int.mul_comm]; rfl)
theorem IT.ok (N:List Nat) (I:List Int):∀ t:IT,t.p.e N I=t.d N I
 | .x i=>by
  show 0+(0+dotI (unitL i) I)=atI I i
  rw [dot_unit,Int.zero_add,Int.zero_add]
 | .k z=>Po.e_k N I z
 | .c p=>NT.ok N I p
 | .a p q=>(Po.e_add N I p.p q.p).trans (by rw [IT.ok N I p,IT.ok N I q]; rfl)
 | .s p q=>(Po.e_sub N I p.p q.p).trans (by rw [IT.ok N I p,IT.ok N I q]; rfl)
 | .g p=>(Po.e_mul N I (-1) p.p).trans (by rw [IT.ok N I p,Int.neg_one_mul]; rfl)
 | .m z p=>(Po.e_mul N I z p.p).trans (by rw [IT.ok N I p]; rfl)
 | .r p z=>(Po.e_mul N I z p.p).trans (by rw [IT.ok N I p,Int.mul_comm]; rfl)
theorem CT.le (N:List Nat) (I:List Int) (t:CT) (h:t.d N I):0≤t.p.e N I∧(t.eq=true→t.p.e N I=0):=by
 have l:∀ {a b:Int},a≤b→0≤b - a:=Int.sub_nonneg_of_le
 have lt:∀ {a b:Int},a<b→0≤b - a - 1:=fun h=>Int.le_sub_right_of_add_le (Int.le_sub_right_of_add_le (by rw [Int.zero_add,Int.add_comm]; exact h))
 have e:∀ {a b:Int},a=b→b - a=0:=fun h=>by rw [h,Int.sub_self]
 cases t with
 | nl p q=>exact ⟨(Po.e_sub N I q.p p.p).symm ▸ (NT.ok N I p).symm ▸ (NT.ok N I q).symm ▸ l (Int.ofNat_le.mpr h),fun z=>Bool.noConfusion z⟩
 | nt p q=>exact ⟨(Po.e_dec N I (q.p.sub p.p)).symm ▸ (Po.e_sub N I q.p p.p).symm ▸ (NT.ok N I p).symm ▸ (NT.ok N I q).symm ▸ lt (Int.ofNat_lt.mpr h),fun z=>Bool.noConfusion z⟩
 | ne p q =>
  have k:(q.p.sub p.p).e N I=0:=(Po.e_sub N I q.p p.p).symm ▸ (NT.ok N I p).symm ▸ (NT.ok N I q).symm ▸ e (congrArg Int.ofNat h)
  exact ⟨Int.le_of_eq k.symm,fun _=>k⟩
 | il p q=>exact ⟨(Po.e_sub N I q.p p.p).symm ▸ (IT.ok N I p).symm ▸ (IT.ok N I q).symm ▸ l h,fun z=>Bool.noConfusion z⟩
 | it p q=>exact ⟨(Po.e_dec N I (q.p.sub p.p)).symm ▸ (Po.e_sub N I q.p p.p).symm ▸ (IT.ok N I p).symm ▸ (IT.ok N I q).symm ▸ lt h,fun z=>Bool.noConfusion z⟩
 | ie p q =>
  have k:(q.p.sub p.p).e N I=0:=(Po.e_sub N I q.p p.p).symm ▸ (IT.ok N I p).symm ▸ (IT.ok N I q).symm ▸ e h
  exact ⟨Int.le_of_eq k.symm,fun _=>k⟩
 | f=>exact h.elim
noncomputable def comb:List CT→List Int→Po→Po
 | t :: ts,z :: zs,p=>comb ts zs ((t.p.mul z).add p)
 | _,_,p=>p
noncomputable def okZ:List CT→List Int→Bool
 | t :: ts,z :: zs=>(t.eq || decide (0≤z))&&okZ ts zs
 | _,[]=>true
 | _,_=>false
noncomputable def allNeg:List Int→Bool
 | []=>true
 | a :: l=>decide (a≤0)&&allNeg l
noncomputable def allNil:List Int→Bool
 | []=>true
 | a :: l=>decide (a=0)&&allNil l
noncomputable def Po.bad (r:Po):Bool:=decide (r.c<0)&&(allNeg r.n&&allNil r.i)
noncomputable def hold (N:List Nat) (I:List Int):List CT→Prop
 | []=>True
 | t :: ts=>t.d N I∧hold N I ts
theorem dot_neg:∀ (l:List Int) (N:List Nat),allNeg l=true→dotI l (cst N)≤0
 | [],N,_=>Int.le_refl _
 | a :: l,[],_=>Int.le_refl _
 | a :: l,v :: N,h=>by
  obtain ⟨h1,h2⟩:=(Bool.and_eq_true _ _).mp h
  exact Int.add_nonpos (Int.mul_nonpos_of_nonpos_of_nonneg (of_decide_eq_true h1) (Int.natCast_nonneg v)) (dot_neg l N h2)
theorem dot_nil:∀ (l N:List Int),allNil l=true→dotI l N=0
 | [],N,_=>rfl
 | a :: l,[],_=>rfl
 | a :: l,v :: N,h=>by
  obtain ⟨h1,h2⟩:=(Bool.and_eq_true _ _).mp h
  show a*v+dotI l N=0
  rw [of_decide_eq_true h1,dot_nil l N h2,Int.zero_mul]; rfl
theorem Po.bad_lt {N:List Nat} {I:List Int} {r:Po} (h:r.bad=true):r.e N I<0:=by
 obtain ⟨h1,h2⟩:=(Bool.and_eq_true _ _).mp h
 obtain ⟨h2,h3⟩:=(Bool.and_eq_true _ _).mp h2
 have h4:dotI r.n (cst N)+dotI r.i I≤0:=by rw [dot_nil r.i I h3,Int.add_zero]; exact dot_neg r.n N h2
 exact Int.lt_of_le_of_lt (Int.add_le_add_left h4 r.c) (by rw [Int.add_zero]; exact of_decide_eq_true h1)
theorem comb_le (N:List Nat) (I:List Int):∀ (ts:List CT) (zs:List Int) (p:Po),0≤p.e N I→okZ ts zs=true→hold N I ts→0≤(comb ts zs p).e N I
 | [],[],p,hp,_,_=>hp
 | [],z :: zs,p,hp,_,_=>hp
 | t :: ts,[],p,hp,_,_=>hp
 | t :: ts,z :: zs,p,hp,h1,h2=>by
  obtain ⟨h3,h4⟩:=(Bool.and_eq_true _ _).mp h1
  refine comb_le N I ts zs ((t.p.mul z).add p) ?_ h4 h2.2
  obtain ⟨h6,h7⟩:=t.le N I h2.1
  rw [Po.e_add,Po.e_mul]
  rcases (Bool.or_eq_true _ _).mp h3 with h8 | h8
  ·rw [h7 h8,Int.mul_zero,Int.zero_add]; exact hp
  ·exact Int.add_nonneg (Int.mul_nonneg (of_decide_eq_true h8) h6) hp
noncomputable def CT.no:CT→Po
 | .nl p q=>(p.p.sub q.p).dec
 | .nt p q=>p.p.sub q.p
 | .il p q=>(p.p.sub q.p).dec
 | .it p q=>p.p.sub q.p
 | .f=>⟨0,[],[]⟩
 | _=>⟨-1,[],[]⟩
theorem CT.no_ok (N:List Nat) (I:List Int) (t:CT) (he:t.eq=false) (h:Not (t.d N I)):0≤t.no.e N I:=by
 cases t with
 | nl p q=>exact (CT.le N I (.nt q p) (Nat.lt_of_not_le h)).1
 | nt p q=>exact (CT.le N I (.nl q p) (Nat.le_of_not_lt h)).1
 | ne p q=>cases he
 | il p q=>exact (CT.le N I (.it q p) (Int.not_le.mp h)).1
 | it p q=>exact (CT.le N I (.il q p) (Int.not_lt.mp h)).1
 | ie p q=>cases he
 | f=>rw [show CT.f.no=⟨0,[],[]⟩ from rfl,Po.e_k]; exact Int.le_refl 0
set_option genSizeOf false in
set_option genInjectivity false in
inductive Ce where
 | l (y:Int) (zs:List Int) | s (a b:Ce)
noncomputable def chk (g:CT):Ce→List CT→List (List CT×List CT)→Bool
 | .l y zs,ts,_=>decide (0≤y)&&(okZ ts zs&&(comb ts zs (g.no.mul y)).bad)
 | .s a b,ts,d :: ds=>chk g a (d.1 ++ ts) ds&&chk g b (d.2 ++ ts) ds
 | .s _ _,_,[]=>false
noncomputable def conj (N:List Nat) (I:List Int):List CT→Prop
 | []=>True
 | t :: ts=>match ts with
  | []=>t.d N I
  | _ :: _=>t.d N I∧conj N I ts
noncomputable def allD (N:List Nat) (I:List Int):List CT→Prop→Prop
 | [],g=>g
 | t :: ts,g=>t.d N I→allD N I ts g
noncomputable def allO (N:List Nat) (I:List Int):List (List CT×List CT)→Prop→Prop
 | [],g=>g
 | d :: ds,g=>conj N I d.1∨conj N I d.2→allO N I ds g
theorem hold_conj {N:List Nat} {I:List Int} {ts:List CT} (h:hold N I ts):∀ us,conj N I us→hold N I (us ++ ts)
 | [],_=>h
 | [t],k=>⟨k,h⟩
 | t :: u :: r,k=>⟨k.1,hold_conj h (u :: r) k.2⟩
theorem allD_of {N:List Nat} {I:List Int} {G:Prop}:∀ ts,(hold N I ts→G)→allD N I ts G
 | [],h=>h trivial
 | t :: ts,h=>fun k=>allD_of ts fun k'=>h ⟨k,k'⟩
theorem chk_ok (N:List Nat) (I:List Int) {g:CT} (he:g.eq=false):∀ (c:Ce) (ts:List CT) (ds:List (List CT×List CT)),chk g c ts ds=true→hold N I ts→allO N I ds (g.d N I)
 | .l y zs,ts,ds,h,ht=>by
  have G:g.d N I:=Classical.byContradiction fun hn=>by
   obtain ⟨h1,h2⟩:=(Bool.and_eq_true _ _).mp h
   obtain ⟨h2,h3⟩:=(Bool.and_eq_true _ _).mp h2
   have h4:0≤(g.no.mul y).e N I:=by rw [Po.e_mul]; exact Int.mul_nonneg (of_decide_eq_true h1) (g.no_ok N I he hn)
   exact absurd (comb_le N I ts zs _ h4 h2 ht) (Int.not_le.mpr (Po.bad_lt h3))
  clear h
  induction ds with
  | nil=>exact G
  | cons d ds ih=>exact fun _=>ih
 | .s a b,ts,d :: ds,h,ht=>fun k=>by
  obtain ⟨h1,h2⟩:=(Bool.and_eq_true _ _).mp h
  exact k.elim (fun k=>chk_ok N I he a (d.1 ++ ts) ds h1 (hold_conj ht _ k)) fun k=>chk_ok N I he b (d.2 ++ ts) ds h2 (hold_conj ht _ k)
 | .s a b,ts,[],h,ht=>Bool.noConfusion h
theorem lin (N:List Nat) (I:List Int) (ts:List CT) (ds:List (List CT×List CT)) (g:CT) (c:Ce) (h:(!g.eq&&chk g c ts ds)=true):allD N I ts (allO N I ds (g.d N I)):=by
 obtain ⟨h1,h2⟩:=(Bool.and_eq_true _ _).mp h
 exact allD_of ts fun k=>chk_ok N I ((Bool.not_eq_true' _).mp h1) c ts ds h2 k
theorem allO_and {N:List Nat} {I:List Int} {A B C:Prop} (f:A→B→C):∀ ds,allO N I ds A→allO N I ds B→allO N I ds C
 | [],a,b=>f a b
 | d :: ds,a,b=>fun k=>allO_and f ds (a k) (b k)
theorem linN (N:List Nat) (I:List Int) (ts:List CT) (ds:List (List CT×List CT)) (p q:NT) (c e:Ce) (h:(chk (.nl p q) c ts ds&&chk (.nl q p) e ts ds)=true):allD N I ts (allO N I ds (p.d N=q.d N)):=by
 obtain ⟨h1,h2⟩:=(Bool.and_eq_true _ _).mp h
 exact allD_of ts fun k=>allO_and (A:=p.d N≤q.d N) (B:=q.d N≤p.d N) Nat.le_antisymm ds (chk_ok N I rfl c ts ds h1 k) (chk_ok N I rfl e ts ds h2 k)
theorem linI (N:List Nat) (I:List Int) (ts:List CT) (ds:List (List CT×List CT)) (p q:IT) (c e:Ce) (h:(chk (.il p q) c ts ds&&chk (.il q p) e ts ds)=true):allD N I ts (allO N I ds (p.d N I=q.d N I)):=by
 obtain ⟨h1,h2⟩:=(Bool.and_eq_true _ _).mp h
 exact allD_of ts fun k=>allO_and (A:=p.d N I≤q.d N I) (B:=q.d N I≤p.d N I) Int.le_antisymm ds (chk_ok N I rfl c ts ds h1 k) (chk_ok N I rfl e ts ds h2 k)
noncomputable def dS (a b z:NT):List CT×List CT:=([.nl b a,.ne (.a z b) a],[.nl a b,.ne z (.k 0)])
noncomputable def dT (a:IT) (z:NT):List CT×List CT:=([.il (.k 0) a,.ie (.c z) a],[.il a (.k 0),.ne z (.k 0)])
noncomputable def dA (a:IT) (z:NT):List CT×List CT:=([.il (.k 0) a,.ie (.c z) a],[.il a (.k 0),.ie (.c z) (.g a)])
noncomputable def dX (a b z:NT):List CT×List CT:=([.nl a b,.ne z b],[.nl b a,.ne z a])
noncomputable def dM (a b z:NT):List CT×List CT:=([.nl a b,.ne z a],[.nl b a,.ne z b])
noncomputable def dXI (a b z:IT):List CT×List CT:=([.il a b,.ie z b],[.il b a,.ie z a])
noncomputable def dMI (a b z:IT):List CT×List CT:=([.il a b,.ie z a],[.il b a,.ie z b])
noncomputable def dN (a b:NT):List CT×List CT:=([.nt a b],[.nt b a])
noncomputable def dI (a b:IT):List CT×List CT:=([.it a b],[.it b a])
noncomputable def dO (a b:CT):List CT×List CT:=([a],[b])
theorem sub_c (a b:Nat):(b≤a∧a - b+b=a)∨(a≤b∧a - b=0):=(Nat.le_total b a).imp (fun h=>⟨h,Nat.sub_add_cancel h⟩) fun h=>⟨h,Nat.sub_eq_zero_of_le h⟩
theorem toNat_c (z:Int):(0≤z∧((z.toNat:Nat):Int)=z)∨(z≤0∧z.toNat=0):=(Int.le_total 0 z).imp (fun h=>⟨h,Int.toNat_of_nonneg h⟩) fun h=>⟨h,Int.toNat_of_nonpos h⟩
theorem natAbs_c (z:Int):(0≤z∧((z.natAbs:Nat):Int)=z)∨(z≤0∧((z.natAbs:Nat):Int)=-z):=(Int.le_total 0 z).imp (fun h=>⟨h,Int.natAbs_of_nonneg h⟩) fun h=>⟨h,Int.ofNat_natAbs_of_nonpos h⟩
theorem maxN_c (a b:Nat):(a≤b∧max a b=b)∨(b≤a∧max a b=a):=(Nat.le_total a b).imp (fun h=>⟨h,Nat.max_eq_right h⟩) fun h=>⟨h,Nat.max_eq_left h⟩
theorem minN_c (a b:Nat):(a≤b∧min a b=a)∨(b≤a∧min a b=b):=(Nat.le_total a b).imp (fun h=>⟨h,Nat.min_eq_left h⟩) fun h=>⟨h,Nat.min_eq_right h⟩
theorem maxI_c (a b:Int):(a≤b∧max a b=b)∨(b≤a∧max a b=a):=(Int.le_total a b).imp (fun h=>⟨h,Int.max_eq_right h⟩) fun h=>⟨h,Int.max_eq_left h⟩
theorem minI_c (a b:Int):(a≤b∧min a b=a)∨(b≤a∧min a b=b):=(Int.le_total a b).imp (fun h=>⟨h,Int.min_eq_left h⟩) fun h=>⟨h,Int.min_eq_right h⟩
theorem modN_c (a k:Nat) (h:Nat.blt 0 k=true):k*(a / k)+a % k=a∧a % k<k:=⟨Nat.div_add_mod a k,Nat.mod_lt a (Nat.le_of_ble_eq_true h)⟩
theorem modI_c (a:Int) (k:Nat) (h:Nat.blt 0 k=true):(k:Int)*(a / (k:Int))+a % (k:Int)=a∧(0≤a % (k:Int)∧a % (k:Int)<(k:Int)) :=
 have hk:0<k:=Nat.le_of_ble_eq_true h
 ⟨Int.mul_ediv_add_emod a k,Int.emod_nonneg a (Int.ne_of_gt (Int.natCast_pos.mpr hk)),Int.emod_lt_of_pos a (Int.natCast_pos.mpr hk)⟩
end Mine
namespace Mine
theorem o1 {x0 x1:Nat} (h0:x0≤1000000) (h1:x1≤1000000):x0+x1≤16777216:=lin [x0,x1] [] [.nl (.x 0) (.k 1000000),.nl (.x 1) (.k 1000000)] [] (.nl (.a (.x 0) (.x 1)) (.k 16777216)) (.l 1 [1,1]) rfl h0 h1
theorem o2 {x0:Int} (h0:x0≤10000):Int.toNat x0≤10000:=lin [Int.toNat x0] [x0] [.il (.x 0) (.k 10000)] [dT (.x 0) (.x 0)] (.nl (.x 0) (.k 10000)) (.s (.l 1 [0,1,1]) (.l 1 [0,1])) rfl h0 (toNat_c x0)
theorem o3 {x0:Int} (h0:(-10000)≤x0) (h1:x0≤10000):((-9223372036854775808)≤x0)∧(x0<9223372036854775808):=And.intro (lin [] [x0] [.il (.g (.k 10000)) (.x 0)] [] (.il (.g (.k 9223372036854775808)) (.x 0)) (.l 1 [1]) rfl h0) (lin [] [x0] [.il (.x 0) (.k 10000)] [] (.it (.x 0) (.k 9223372036854775808)) (.l 1 [1]) rfl h1)
theorem o4 {x0:Nat} (h0:x0≤(100*10000)):¬ (x0 > (((2 ^ 63) - 1) / 8)):=by omega
theorem o5 {x0:Nat} (h0:x0≤1000000):x0≤16777216:=lin [x0] [] [.nl (.x 0) (.k 1000000)] [] (.nl (.x 0) (.k 16777216)) (.l 1 [1]) rfl h0
theorem o9 {x0 x1:Nat} (h0:x0+60<x1):x0<x1:=lin [x0,x1] [] [.nt (.a (.x 0) (.k 60)) (.x 1)] [] (.nt (.x 0) (.x 1)) (.l 1 [1]) rfl h0
theorem o13 {x0:Int} (h0:0≤x0):¬ (x0<0):=fun c0=>lin [] [x0] [.il (.k 0) (.x 0),.it (.x 0) (.k 0)] [] .f (.l 0 [1,1]) rfl h0 c0
theorem o14 {x0:Int} {x1:Nat} (h0:0≤x0) (h1:Int.toNat x0<x1):(0≤x0)∧(x0<(x1:Int)):=And.intro (lin [x1,Int.toNat x0] [x0] [.il (.k 0) (.x 0)] [] (.il (.k 0) (.x 0)) (.l 1 [1]) rfl h0) (lin [x1,Int.toNat x0] [x0] [.nt (.x 1) (.x 0)] [dT (.x 0) (.x 1)] (.it (.x 0) (.c (.x 0))) (.s (.l 1 [0,-1,1]) (.l 1 [1,0,1])) rfl h1 (toNat_c x0))
theorem o16 {x0:Int} (h0:¬ (0≤x0)):x0<0:=lin [] [x0] [.it (.x 0) (.k 0)] [] (.it (.x 0) (.k 0)) (.l 1 [1]) rfl (Int.not_le.mp h0)
theorem o17 {x0:Int} {x1:Nat} (h0:¬ (0≤x0)) (h1:(-(x1:Int))≤x0):(0≤x0+(x1:Int))∧(x0+(x1:Int)<(x1:Int)):=And.intro (lin [x1] [x0] [.il (.g (.c (.x 0))) (.x 0)] [] (.il (.k 0) (.a (.x 0) (.c (.x 0)))) (.l 1 [1]) rfl h1) (lin [x1] [x0] [.it (.x 0) (.k 0)] [] (.it (.a (.x 0) (.c (.x 0))) (.c (.x 0))) (.l 1 [1]) rfl (Int.not_le.mp h0))
theorem o18 {x0 x1:Nat} {x2:Int} (h0:x0≤1000000) (h1:x1=x0) (h2:(Int.toNat x2)<x0):x2<((2:Int) ^ 63):=by omega
theorem o19 {x0 x1:Nat} {x2:Int} (h0:x0≤1000000) (h1:x1=x0) (h2:(-(x1:Int))≤x2):(-((2:Int) ^ 63))≤x2:=by omega
theorem o21 {x0:Nat} {x1:Int} {x2:Nat} (h0:x0≤1000000) (h1:x1<(x0:Int)) (h2:x2=x0):x1<((2:Int) ^ 63):=by omega
theorem o23 {x0 x1:Nat} (h0:x0≤1000000) (h1:x1=x0):x1≤16777216:=lin [x0,x1] [] [.nl (.x 0) (.k 1000000),.ne (.x 1) (.x 0)] [] (.nl (.x 1) (.k 16777216)) (.l 1 [1,1]) rfl h0 h1
theorem o24 {x0:Int} {x1:Nat} (h0:0≤x0):min x0 (x1:Int)=((min (Int.toNat x0) x1:Nat):Int):=linI [x1,min (Int.toNat x0) x1,Int.toNat x0] [x0,min x0 (x1:Int)] [.il (.k 0) (.x 0)] [dMI (.x 0) (.c (.x 0)) (.x 1),dT (.x 0) (.x 2),dM (.x 2) (.x 0) (.x 1)] (.x 1) (.c (.x 1)) (.s (.s (.s (.l 1 [0,-1,0,-1,0,1]) (.l 1 [0,-1,0,0,1,1])) (.l 1 [1,0,0,1])) (.s (.s (.l 1 [0,-1,0,-1,1,1]) (.l 1 [0,-1,0,0,0,1])) (.l 1 [1,0,1,1]))) (.s (.s (.s (.l 1 [0,1,0,1,0,-1]) (.l 1 [1,1,0,1,0,-1])) (.s (.l 1 [0,1,0,1,0,-1,1]) (.l 1 [1,1,0,1,0,-1,1]))) (.s (.s (.l 1 [1,1,0,0,0,-1]) (.l 1 [0,1,0,0,0,-1])) (.s (.l 1 [1,1,0,0,0,-1]) (.l 1 [0,1,0,0,0,-1])))) rfl h0 (minI_c x0 (x1:Int)) (toNat_c x0) (minN_c (Int.toNat x0) x1)
theorem o25 {x0:Int} {x1:Nat}:max (x0+(x1:Int)) 0=((Int.toNat ((x1:Int)+x0):Nat):Int):=linI [x1,Int.toNat ((x1:Int)+x0)] [x0,max (x0+(x1:Int)) 0] [] [dXI (.a (.x 0) (.c (.x 0))) (.k 0) (.x 1),dT (.a (.c (.x 0)) (.x 0)) (.x 1)] (.x 1) (.c (.x 1)) (.s (.l 1 [0,1]) (.s (.l 1 [0,-1,0,1]) (.l 1 [1,0,0,1]))) (.s (.s (.l 1 [0,1,1,-1]) (.l 1 [0,1,0,-1])) (.s (.l 1 [0,1,0,-1]) (.l 1 [0,1,1,-1]))) rfl (maxI_c (x0+(x1:Int)) 0) (toNat_c ((x1:Int)+x0))
theorem o26 {x0:Int} {x1:Nat} (h0:x0<0):max 0 (min (x0+(x1:Int)) (x1:Int))=max (x0+(x1:Int)) 0:=linI [x1] [x0,max 0 (min (x0+(x1:Int)) (x1:Int)),min (x0+(x1:Int)) (x1:Int),max (x0+(x1:Int)) 0] [.it (.x 0) (.k 0)] [dMI (.a (.x 0) (.c (.x 0))) (.c (.x 0)) (.x 2),dXI (.k 0) (.x 2) (.x 1),dXI (.a (.x 0) (.c (.x 0))) (.k 0) (.x 3)] (.x 1) (.x 3) (.s (.s (.s (.l 1 [1,-1,0,1,0,1]) (.l 1 [0,-1,0,1,0,1])) (.s (.l 1 [0,-1,0,1]) (.l 1 [1,-1,0,1]))) (.l 0 [1,0,1])) (.s (.s (.s (.l 1 [0,1,1,-1]) (.l 1 [0,1,0,-1,0,-1])) (.s (.l 1 [0,1,0,-1]) (.l 1 [0,1,1,-1,0,-1]))) (.l 0 [1,0,1])) rfl h0 (minI_c (x0+(x1:Int)) (x1:Int)) (maxI_c 0 (min (x0+(x1:Int)) (x1:Int))) (maxI_c (x0+(x1:Int)) 0)
theorem o27 {x0:Int} {x1:Nat} (h0:¬ (x0<0)):max 0 (min x0 (x1:Int))=min x0 (x1:Int):=linI [x1] [x0,max 0 (min x0 (x1:Int)),min x0 (x1:Int)] [.il (.k 0) (.x 0)] [dMI (.x 0) (.c (.x 0)) (.x 2),dXI (.k 0) (.x 2) (.x 1)] (.x 1) (.x 2) (.s (.s (.l 1 [0,1]) (.l 1 [0,1,0,-1,1])) (.s (.l 1 [0,1]) (.l 1 [0,1,0,-1]))) (.s (.s (.l 1 [0,-1]) (.l 1 [1,-1])) (.s (.l 1 [0,-1]) (.l 1 [1,-1]))) rfl (Int.not_lt.mp h0) (minI_c x0 (x1:Int)) (maxI_c 0 (min x0 (x1:Int)))
theorem o28 {x0 x1:Nat} (h0:x0≤1000000) (h1:x1=x0):¬ ((x1:Int)≥((2:Int) ^ 63)):=by omega
theorem o29 {x0 x1:Nat} (h0:x0≤1000000) (h1:x1=x0):(x1:Int)<((2:Int) ^ 63):=by omega
theorem o30 {x0 x1 x2:Nat}:min x0 x1≤x1+x2:=lin [x0,x1,x2,min x0 x1] [] [] [dM (.x 0) (.x 1) (.x 3)] (.nl (.x 3) (.a (.x 1) (.x 2))) (.s (.l 1 [1,1]) (.l 1 [0,1])) rfl (minN_c x0 x1)
theorem o31:¬ ((1:Int)<(0:Int)):=fun c0=>lin [] [] [.it (.k 1) (.k 0)] [] .f (.l 0 [1]) rfl c0
theorem o33 {x0 x1:Nat}:Int.toNat ((x0:Int)+(x1:Int)*1)=x0+x1:=linN [x0,x1,Int.toNat ((x0:Int)+(x1:Int)*1)] [] [] [dT (.a (.c (.x 0)) (.r (.c (.x 1)) 1)) (.x 2)] (.x 2) (.a (.x 0) (.x 1)) (.s (.l 1 [0,1]) (.l 1 [0,1])) (.s (.l 1 [0,-1]) (.l 1 [1])) rfl (toNat_c ((x0:Int)+(x1:Int)*1))
theorem o36 {x0 x1 x2:Nat} (h0:x0≤x1) (h1:x2≤x0):x2+(x0 - x2)≤x1:=lin [x0,x1,x2,x0 - x2] [] [.nl (.x 0) (.x 1),.nl (.x 2) (.x 0)] [dS (.x 0) (.x 2) (.x 3)] (.nl (.a (.x 2) (.x 3)) (.x 1)) (.s (.l 1 [0,1,1]) (.l 1 [0,1,1,1])) rfl h0 h1 (sub_c x0 x2)
theorem o37 {x0 x1:Nat} (h0:¬ (x0≤x1)):x1 - x0=0:=linN [x0,x1,x1 - x0] [] [.nt (.x 1) (.x 0)] [dS (.x 1) (.x 0) (.x 2)] (.x 2) (.k 0) (.s (.l 0 [1,0,1]) (.l 1 [0,1])) (.l 1 []) rfl (Nat.not_le.mp h0) (sub_c x1 x0)
theorem o38 {x0 x1 x2:Nat} (h0:¬ (x0≤x1)):min x1 x2≤x0:=lin [x0,x1,x2,min x1 x2] [] [.nt (.x 1) (.x 0)] [dM (.x 1) (.x 2) (.x 3)] (.nl (.x 3) (.x 0)) (.s (.l 1 [0,1,1]) (.l 1 [1,1,1])) rfl (Nat.not_le.mp h0) (minN_c x1 x2)
theorem o39 {x0 x1 x2:Nat} (h0:(x0=0)∧(x1 - x0=x2)):x2≤x1:=lin [x0,x1,x2,x1 - x0] [] [.ne (.x 3) (.x 2)] [dS (.x 1) (.x 0) (.x 3)] (.nl (.x 2) (.x 1)) (.s (.l 1 [0,1,-1]) (.l 1 [0,1,-1])) rfl h0.2 (sub_c x1 x0)
theorem o43 {x0 x1:Int} (h0:x0<x1):x1 - x0 - 1+1=((Int.toNat (x1 - x0):Nat):Int):=linI [Int.toNat (x1 - x0)] [x0,x1] [.it (.x 0) (.x 1)] [dT (.s (.x 1) (.x 0)) (.x 0)] (.a (.s (.s (.x 1) (.x 0)) (.k 1)) (.k 1)) (.c (.x 0)) (.s (.l 1 [0,-1]) (.l 0 [1,0,1])) (.s (.l 1 [0,1]) (.l 0 [1,0,1])) rfl h0 (toNat_c (x1 - x0))
theorem o44 {x0 x1:Int} (h0:¬ (x0<x1)):0=((Int.toNat (x1 - x0):Nat):Int):=linI [Int.toNat (x1 - x0)] [x0,x1] [.il (.x 1) (.x 0)] [dT (.s (.x 1) (.x 0)) (.x 0)] (.k 0) (.c (.x 0)) (.l 1 []) (.s (.l 1 [0,1,1]) (.l 1 [0,1])) rfl (Int.not_lt.mp h0) (toNat_c (x1 - x0))
theorem o45 {x0 x1:Int} (h0:(-1000000)≤x0) (h1:x0≤1000000) (h2:(-1000000)≤x1) (h3:x1≤1000000):(((((-9223372036854775808)≤x0)∧(x0<9223372036854775808))∧(((-9223372036854775808)≤x1)∧(x1<9223372036854775808)))∧(((-9223372036854775808)≤(max (x0 - x1) 0))∧((max (x0 - x1) 0)<9223372036854775808)))∧(((max (x0 - x1) 0)=0)∨(((-9223372036854775808)≤x1)∧(x1<9223372036854775808))):=by omega
theorem o46:(-((2:Int) ^ 62))≤0:=by omega
theorem o47:0<((2:Int) ^ 62):=by omega
theorem o48 {x0:Int} (h0:(-1000000)≤x0) (h1:x0≤1000000):(-((2:Int) ^ 62))≤x0:=by omega
theorem o49 {x0:Int} (h0:(-1000000)≤x0) (h1:x0≤1000000):x0<((2:Int) ^ 62):=by omega
theorem o51 {x0 x1:Nat} (h0:x0<x1):x1 - (x0+1)<x1 - x0:=lin [x0,x1,x1 - (x0+1),x1 - x0] [] [.nt (.x 0) (.x 1)] [dS (.x 1) (.a (.x 0) (.k 1)) (.x 2),dS (.x 1) (.x 0) (.x 3)] (.nt (.x 2) (.x 3)) (.s (.s (.l 1 [0,-1,0,1]) (.l 0 [1,0,1])) (.s (.l 1 [0,-1,0,1,1]) (.l 0 [1,0,0,0,1]))) rfl h0 (sub_c x1 (x0+1)) (sub_c x1 x0)
theorem o57 {x0 x1:Nat} (h0:¬ (x0≤x1)):x1≤x0 - 1:=lin [x0,x1,x0 - 1] [] [.nt (.x 1) (.x 0)] [dS (.x 0) (.k 1) (.x 2)] (.nl (.x 1) (.x 2)) (.s (.l 1 [0,-1,1]) (.l 1 [1,0,1])) rfl (Nat.not_le.mp h0) (sub_c x0 1)
theorem o59 {x0 x1:Nat} (h0:¬ (x0<x1)):x1≤x0:=lin [x0,x1] [] [.nl (.x 1) (.x 0)] [] (.nl (.x 1) (.x 0)) (.l 1 [1]) rfl (Nat.not_lt.mp h0)
theorem o60 {x0 x1 x2:Nat} (h0:¬ (x0<x1)):min x1 x2≤x0:=lin [x0,x1,x2,min x1 x2] [] [.nl (.x 1) (.x 0)] [dM (.x 1) (.x 2) (.x 3)] (.nl (.x 3) (.x 0)) (.s (.l 1 [0,1,1]) (.l 1 [1,1,1])) rfl (Nat.not_lt.mp h0) (minN_c x1 x2)
theorem o61 {x0 x1:Nat} (h0:x0<x1):x0<x1+1:=lin [x0,x1] [] [.nt (.x 0) (.x 1)] [] (.nt (.x 0) (.a (.x 1) (.k 1))) (.l 1 [1]) rfl h0
theorem o62 {x0:Nat}:x0<x0+1:=lin [x0] [] [] [] (.nt (.x 0) (.a (.x 0) (.k 1))) (.l 1 []) rfl
theorem o63 {x0 x1:Nat}:x0≤x0+x1:=lin [x0,x1] [] [] [] (.nl (.x 0) (.a (.x 0) (.x 1))) (.l 1 []) rfl
theorem o64 {x0 x1:Nat}:x0 - 1 - x1=x0 - (x1+1):=linN [x0,x1,x0 - 1 - x1,x0 - 1,x0 - (x1+1)] [] [] [dS (.x 0) (.k 1) (.x 3),dS (.x 3) (.x 1) (.x 2),dS (.x 0) (.a (.x 1) (.k 1)) (.x 4)] (.x 2) (.x 4) (.s (.s (.s (.l 1 [0,-1,0,1,0,1]) (.l 1 [1,0,0,1,0,1])) (.l 1 [0,1])) (.s (.l 1 [0,1,0,1]) (.l 1 [0,1]))) (.s (.s (.s (.l 1 [0,1,0,-1,0,-1]) (.l 1 [0,1])) (.s (.l 1 [0,1,1,0,0,-1]) (.l 1 [0,1]))) (.s (.s (.l 1 [0,1,0,0,1]) (.l 1 [0,1])) (.s (.l 1 [0,1,0,0,1]) (.l 1 [0,1])))) rfl (sub_c x0 1) (sub_c (x0 - 1) x1) (sub_c x0 (x1+1))
theorem o65 {x0 x1:Nat} (h0:x0+1≤x1):¬ (x1≤x0):=fun c0=>lin [x0,x1] [] [.nl (.a (.x 0) (.k 1)) (.x 1),.nl (.x 1) (.x 0)] [] .f (.l 0 [1,1]) rfl h0 c0
theorem o66 {x0 x1:Nat} (h0:x0<x1+1):x0≤x1:=lin [x0,x1] [] [.nt (.x 0) (.a (.x 1) (.k 1))] [] (.nl (.x 0) (.x 1)) (.l 1 [1]) rfl h0
theorem o67 {x0 x1:Nat}:x0+1 - 1 - x1=x0 - x1:=linN [x0,x1,x0+1 - 1 - x1,x0+1 - 1,x0 - x1] [] [] [dS (.a (.x 0) (.k 1)) (.k 1) (.x 3),dS (.x 3) (.x 1) (.x 2),dS (.x 0) (.x 1) (.x 4)] (.x 2) (.x 4) (.s (.s (.s (.l 1 [0,-1,0,1,0,1]) (.l 1 [1,0,0,1,0,1])) (.l 1 [0,1])) (.s (.l 1 [0,1,0,1]) (.l 1 [0,1]))) (.s (.s (.s (.l 1 [0,1,0,-1,0,-1]) (.l 1 [0,1])) (.s (.l 1 [0,1,1,0,0,-1]) (.l 1 [0,1]))) (.s (.s (.l 1 [0,1,0,0,1]) (.l 1 [0,1])) (.s (.l 1 [0,1,0,0,1]) (.l 1 [0,1])))) rfl (sub_c (x0+1) 1) (sub_c (x0+1 - 1) x1) (sub_c x0 x1)
theorem o68 {x0 x1:Nat} (h0:x0<x1+1):x1 - (x1 - x0)=x0:=linN [x0,x1,x1 - (x1 - x0),x1 - x0] [] [.nt (.x 0) (.a (.x 1) (.k 1))] [dS (.x 1) (.x 0) (.x 3),dS (.x 1) (.x 3) (.x 2)] (.x 2) (.x 0) (.s (.s (.l 1 [0,1,0,-1]) (.l 1 [0,1])) (.s (.l 1 [0,1,1]) (.l 1 [0,1]))) (.s (.s (.l 1 [0,-1,0,1]) (.l 1 [1,0,0,1])) (.s (.l 1 [0,-1,0,1,1]) (.l 1 [1,0,0,1,1]))) rfl h0 (sub_c x1 x0) (sub_c x1 (x1 - x0))
theorem o69 {x0 x1:Nat} (h0:x0<x1):x0+1≤x1:=lin [x0,x1] [] [.nt (.x 0) (.x 1)] [] (.nl (.a (.x 0) (.k 1)) (.x 1)) (.l 1 [1]) rfl h0
theorem o70 {x0 x1 x2 x3:Nat} (h0:x0≤33554432) (h1:x1≤x0) (h2:x2≤x0) (h3:67108864≤(x3:Int)):¬ ((x3:Int)<(x1:Int)+(x2:Int)):=fun c0=>lin [x0,x1,x2,x3] [] [.nl (.x 0) (.k 33554432),.nl (.x 1) (.x 0),.nl (.x 2) (.x 0),.il (.k 67108864) (.c (.x 3)),.it (.c (.x 3)) (.a (.c (.x 1)) (.c (.x 2)))] [] .f (.l 0 [2,1,1,1,1]) rfl h0 h1 h2 h3 c0
theorem o71 {x0:Nat} (h0:0<x0):0<(x0:Int):=lin [x0] [] [.nt (.k 0) (.x 0)] [] (.it (.k 0) (.c (.x 0))) (.l 1 [1]) rfl h0
theorem o72 {x0:Int} (h0:0<x0):0 - x0≠0:=fun c0=>lin [] [x0] [.it (.k 0) (.x 0),.ie (.s (.k 0) (.x 0)) (.k 0)] [] .f (.l 0 [1,-1]) rfl h0 c0
theorem o73 {x0:Int} (h0:0<x0):x0≠0:=fun c0=>lin [] [x0] [.it (.k 0) (.x 0),.ie (.x 0) (.k 0)] [] .f (.l 0 [1,1]) rfl h0 c0
theorem o74 {x0:Int} (h0:x0≠0) (h1:¬ (x0<0)):0<x0:=lin [] [x0] [.il (.k 0) (.x 0)] [dI (.x 0) (.k 0)] (.it (.k 0) (.x 0)) (.s (.l 0 [1,1]) (.l 1 [1])) rfl (Int.not_lt.mp h1) (Int.lt_or_gt_of_ne h0)
theorem o75 {x0:Int} (h0:x0<0):((Int.natAbs x0:Nat):Int)=(-x0):=linI [Int.natAbs x0] [x0] [.it (.x 0) (.k 0)] [dA (.x 0) (.x 0)] (.c (.x 0)) (.g (.x 0)) (.s (.l 0 [1,0,1]) (.l 1 [0,1])) (.s (.l 0 [1,0,1]) (.l 1 [0,-1])) rfl h0 (natAbs_c x0)
theorem o76 {x0:Int} (h0:¬ (x0<0)):((Int.natAbs x0:Nat):Int)=x0:=linI [Int.natAbs x0] [x0] [.il (.k 0) (.x 0)] [dA (.x 0) (.x 0)] (.c (.x 0)) (.x 0) (.s (.l 1 [0,1]) (.l 1 [0,1,2])) (.s (.l 1 [0,-1]) (.l 1 [1])) rfl (Int.not_lt.mp h0) (natAbs_c x0)
theorem o77 {x0:Int}:0≤((Int.natAbs x0:Nat):Int):=lin [Int.natAbs x0] [x0] [] [] (.il (.k 0) (.c (.x 0))) (.l 1 []) rfl
theorem o78 {x0:Int} (h0:0≤x0) (h1:x0≤0):x0=0:=linI [] [x0] [.il (.k 0) (.x 0),.il (.x 0) (.k 0)] [] (.x 0) (.k 0) (.l 1 [0,1]) (.l 1 [1]) rfl h0 h1
theorem o79 {x0:Int} (h0:0≤x0):x0=((Int.natAbs x0:Nat):Int):=linI [Int.natAbs x0] [x0] [.il (.k 0) (.x 0)] [dA (.x 0) (.x 0)] (.x 0) (.c (.x 0)) (.s (.l 1 [0,-1]) (.l 1 [1])) (.s (.l 1 [0,1]) (.l 1 [0,1,2])) rfl h0 (natAbs_c x0)
theorem o80 {x0:Nat} (h0:x0≠0):(x0:Int)≠0:=fun c0=>lin [x0] [] [.ie (.c (.x 0)) (.k 0)] [dN (.x 0) (.k 0)] .f (.s (.l 0 [1]) (.l 0 [1,1])) rfl c0 (Nat.lt_or_gt_of_ne h0)
theorem o81 {x0:Nat} (h0:x0≤1000):x0≤1000000:=lin [x0] [] [.nl (.x 0) (.k 1000)] [] (.nl (.x 0) (.k 1000000)) (.l 1 [1]) rfl h0
theorem o82 {x0:Nat} (h0:x0≤1000):((-1000000)≤(x0:Int)+1)∧((x0:Int)+1≤1000000):=And.intro (lin [x0] [] [] [] (.il (.g (.k 1000000)) (.a (.c (.x 0)) (.k 1))) (.l 1 []) rfl) (lin [x0] [] [.nl (.x 0) (.k 1000)] [] (.il (.a (.c (.x 0)) (.k 1)) (.k 1000000)) (.l 1 [1]) rfl h0)
theorem o83 {x0 x1:Int} (h0:x0=x1 % 2147483647):0≤x0+48271:=lin [] [x0,x1,x1 % 2147483647,x1 / 2147483647] [.ie (.x 0) (.x 2),.il (.k 0) (.x 2)] [] (.il (.k 0) (.a (.x 0) (.k 48271))) (.l 1 [-1,1]) rfl h0 (modI_c x1 2147483647 rfl).2.1
theorem o84 {x0 x1:Int} (h0:x0=x1 % 2147483647):x0+48271<4294967296:=lin [] [x0,x1,x1 % 2147483647,x1 / 2147483647] [.ie (.x 0) (.x 2),.it (.x 2) (.k 2147483647)] [] (.it (.a (.x 0) (.k 48271)) (.k 4294967296)) (.l 1 [1,1]) rfl h0 (modI_c x1 2147483647 rfl).2.2
theorem o85 {x0:Int} (h0:0≤x0) (h1:x0<4294967296):Int.natAbs x0<2 ^ 32:=lin [Int.natAbs x0,2 ^ 32] [x0] [.il (.k 0) (.x 0),.it (.x 0) (.k 4294967296),.ne (.x 1) (.k 4294967296)] [dA (.x 0) (.x 0)] (.nt (.x 0) (.x 1)) (.s (.l 1 [0,1,0,1,-1]) (.l 1 [0,1,1,0,-1])) rfl h0 h1 (rfl:2 ^ 32=4294967296) (natAbs_c x0)
theorem o86:32≤33554432:=lin [] [] [] [] (.nl (.k 32) (.k 33554432)) (.l 1 []) rfl
theorem o87:Int.natAbs 48271<2 ^ 32:=lin [Int.natAbs 48271,2 ^ 32] [] [.ne (.x 1) (.k 4294967296)] [dA (.k 48271) (.x 0)] (.nt (.x 0) (.x 1)) (.s (.l 1 [0,1,-1]) (.l 0 [1])) rfl (rfl:2 ^ 32=4294967296) (natAbs_c 48271)
theorem o88 {x0:Nat} {x1:Nat} {x2:Nat} (h0:x0≤1000) (h1:x1=0+x2) (h2:x2<Int.toNat ((x0:Int)+(1:Int) - (0:Int))):x1≤1000000:=lin [x0,x1,x2,Int.toNat ((x0:Int)+(1:Int) - (0:Int))] [] [.nl (.x 0) (.k 1000),.ne (.x 1) (.a (.k 0) (.x 2)),.nt (.x 2) (.x 3)] [dT (.s (.a (.c (.x 0)) (.k 1)) (.k 0)) (.x 3)] (.nl (.x 1) (.k 1000000)) (.s (.l 1 [0,1,1,1,1]) (.l 0 [1])) rfl h0 h1 h2 (toNat_c ((x0:Int)+(1:Int) - (0:Int)))
theorem o89 {x0 x1:Int} {x2:Nat}:(0≤(x0+48271*x1+(x2:Int)) % 2147483647)∧((x0+48271*x1+(x2:Int)) % 2147483647<2147483647):=And.intro (lin [x2] [x0,x1,(x0+48271*x1+(x2:Int)) % 2147483647,(x0+48271*x1+(x2:Int)) / 2147483647] [.il (.k 0) (.x 2)] [] (.il (.k 0) (.x 2)) (.l 1 [1]) rfl (modI_c (x0+48271*x1+(x2:Int)) 2147483647 rfl).2.1) (lin [x2] [x0,x1,(x0+48271*x1+(x2:Int)) % 2147483647,(x0+48271*x1+(x2:Int)) / 2147483647] [.it (.x 2) (.k 2147483647)] [] (.it (.x 2) (.k 2147483647)) (.l 1 [1]) rfl (modI_c (x0+48271*x1+(x2:Int)) 2147483647 rfl).2.2)
theorem o90 {x0 x1 x2:Int} {x3:Nat} (h0:x0=(x1+48271*x2+(x3:Int)) % 2147483647):0≤x0:=lin [x3] [x0,x1,x2,(x1+48271*x2+(x3:Int)) % 2147483647,(x1+48271*x2+(x3:Int)) / 2147483647] [.ie (.x 0) (.x 3),.il (.k 0) (.x 3)] [] (.il (.k 0) (.x 0)) (.l 1 [-1,1]) rfl h0 (modI_c (x1+48271*x2+(x3:Int)) 2147483647 rfl).2.1
theorem o91 {x0 x1 x2:Int} {x3:Nat} (h0:x0=(x1+48271*x2+(x3:Int)) % 2147483647):x0<4294967296:=lin [x3] [x0,x1,x2,(x1+48271*x2+(x3:Int)) % 2147483647,(x1+48271*x2+(x3:Int)) / 2147483647] [.ie (.x 0) (.x 3),.it (.x 3) (.k 2147483647)] [] (.it (.x 0) (.k 4294967296)) (.l 1 [1,1]) rfl h0 (modI_c (x1+48271*x2+(x3:Int)) 2147483647 rfl).2.2
theorem o92 {x0:Nat}:0+Int.toNat ((x0:Int)+1 - 0)=x0+1:=linN [x0,Int.toNat ((x0:Int)+1 - 0)] [] [] [dT (.s (.a (.c (.x 0)) (.k 1)) (.k 0)) (.x 1)] (.a (.k 0) (.x 1)) (.a (.x 0) (.k 1)) (.s (.l 1 [0,1]) (.l 0 [1])) (.s (.l 1 [0,-1]) (.l 0 [1])) rfl (toNat_c ((x0:Int)+1 - 0))
theorem o94 {x0 x1:Nat} (h0:x0=x1+1):x0 - 1=x1:=linN [x0,x1,x0 - 1] [] [.ne (.x 0) (.a (.x 1) (.k 1))] [dS (.x 0) (.k 1) (.x 2)] (.x 2) (.x 1) (.s (.l 1 [0,1,1]) (.l 1 [0,1])) (.s (.l 1 [0,-1,-1]) (.l 1 [1,0,-1])) rfl h0 (sub_c x0 1)
theorem o95 {x0 x1 x2:Int} (h0:0<x0) (h1:x1=x2) (h2:x2<x0):Int.toNat x1<Int.toNat x0:=lin [Int.toNat x1,Int.toNat x0] [x0,x1,x2] [.it (.k 0) (.x 0),.ie (.x 1) (.x 2),.it (.x 2) (.x 0)] [dT (.x 1) (.x 0),dT (.x 0) (.x 1)] (.nt (.x 0) (.x 1)) (.s (.s (.l 1 [0,-1,0,1,0,1,1]) (.l 0 [1,0,0,0,1])) (.s (.l 1 [0,-1,0,1,1]) (.l 0 [1,0,0,0,1]))) rfl h0 h1 h2 (toNat_c x1) (toNat_c x0)
theorem o96 {x0:Int} (h0:0<x0):0≤x0:=lin [] [x0] [.it (.k 0) (.x 0)] [] (.il (.k 0) (.x 0)) (.l 1 [1]) rfl h0
theorem o97 {x0:Nat} (h0:0<(x0:Int)):(x0:Int)≠0:=fun c0=>lin [x0] [] [.it (.k 0) (.c (.x 0)),.ie (.c (.x 0)) (.k 0)] [] .f (.l 0 [1,1]) rfl h0 c0
theorem o98 {x0:Int} (h0:0<x0):¬ (x0<0):=fun c0=>lin [] [x0] [.it (.k 0) (.x 0),.it (.x 0) (.k 0)] [] .f (.l 0 [1,1]) rfl h0 c0
theorem o102 {x0:Nat} (h0:x0≠1):(x0:Int)≠1:=fun c0=>lin [x0] [] [.ie (.c (.x 0)) (.k 1)] [dN (.x 0) (.k 1)] .f (.s (.l 0 [1,-1]) (.l 0 [1,1])) rfl c0 (Nat.lt_or_gt_of_ne h0)
theorem o103 {x0:Int}:Int.natAbs (x0 % 13 - 6)≤1000000:=lin [Int.natAbs (x0 % 13 - 6)] [x0,x0 % 13,x0 / 13] [.il (.k 0) (.x 1),.it (.x 1) (.k 13)] [dA (.s (.x 1) (.k 6)) (.x 0)] (.nl (.x 0) (.k 1000000)) (.s (.l 1 [0,1,0,1]) (.l 1 [0,1,1])) rfl (modI_c x0 13 rfl).2.1 (modI_c x0 13 rfl).2.2 (natAbs_c (x0 % 13 - 6))
theorem o104 {x0 x1:Int} (h0:x0=x1 % 9):1+x0≠0:=fun c0=>lin [] [x0,x1,x1 % 9,x1 / 9] [.ie (.x 0) (.x 2),.ie (.a (.k 1) (.x 0)) (.k 0),.il (.k 0) (.x 2)] [] .f (.l 0 [-1,1,1]) rfl h0 c0 (modI_c x1 9 rfl).2.1
theorem o105 {x0 x1:Int} (h0:x0=x1 % 25):Int.natAbs (x0 - 12)≤1000000:=lin [Int.natAbs (x0 - 12)] [x0,x1,x1 % 25,x1 / 25] [.ie (.x 0) (.x 2),.il (.k 0) (.x 2),.it (.x 2) (.k 25)] [dA (.s (.x 0) (.k 12)) (.x 0)] (.nl (.x 0) (.k 1000000)) (.s (.l 1 [0,1,1,0,1]) (.l 1 [0,1,-1,1])) rfl h0 (modI_c x1 25 rfl).2.1 (modI_c x1 25 rfl).2.2 (natAbs_c (x0 - 12))
theorem o106 {x0 x1:Int} (h0:x0=x1 % 9):Int.natAbs (1+x0)≤1000:=lin [Int.natAbs (1+x0)] [x0,x1,x1 % 9,x1 / 9] [.ie (.x 0) (.x 2),.il (.k 0) (.x 2),.it (.x 2) (.k 9)] [dA (.a (.k 1) (.x 0)) (.x 0)] (.nl (.x 0) (.k 1000)) (.s (.l 1 [0,1,1,0,1]) (.l 0 [1,0,-1,1])) rfl h0 (modI_c x1 9 rfl).2.1 (modI_c x1 9 rfl).2.2 (natAbs_c (1+x0))
theorem o107 {x0:Int} (h0:(0≤x0)∧(x0<2147483647)):Int.natAbs x0<2 ^ 32:=lin [Int.natAbs x0,2 ^ 32] [x0] [.il (.k 0) (.x 0),.it (.x 0) (.k 2147483647),.ne (.x 1) (.k 4294967296)] [dA (.x 0) (.x 0)] (.nt (.x 0) (.x 1)) (.s (.l 1 [0,1,0,1,-1]) (.l 1 [0,1,1,0,-1])) rfl h0.1 h0.2 (rfl:2 ^ 32=4294967296) (natAbs_c x0)
theorem o108 {x0:Int} (h0:(x0=1)∨(x0=1000)):x0≠0:=fun c0=>lin [] [x0] [.ie (.x 0) (.k 0)] [dO (.ie (.x 0) (.k 1)) (.ie (.x 0) (.k 1000))] .f (.s (.l 0 [-1,1]) (.l 0 [-1,1])) rfl c0 h0
theorem o109 {x0:Int} (h0:(x0=1)∨(x0=1000)):0<x0:=lin [] [x0] [] [dO (.ie (.x 0) (.k 1)) (.ie (.x 0) (.k 1000))] (.it (.k 0) (.x 0)) (.s (.l 1 [-1]) (.l 1 [-1])) rfl h0
theorem o110 {x0 x1:Int} (h0:x0=x1 % 2000001):Int.natAbs (x0 - 1000000)≤1000000:=lin [Int.natAbs (x0 - 1000000)] [x0,x1,x1 % 2000001,x1 / 2000001] [.ie (.x 0) (.x 2),.il (.k 0) (.x 2),.it (.x 2) (.k 2000001)] [dA (.s (.x 0) (.k 1000000)) (.x 0)] (.nl (.x 0) (.k 1000000)) (.s (.l 1 [0,1,1,0,1]) (.l 1 [0,1,-1,1])) rfl h0 (modI_c x1 2000001 rfl).2.1 (modI_c x1 2000001 rfl).2.2 (natAbs_c (x0 - 1000000))
theorem o111 {x0 x1:Int} (h0:x0=(x1 % 2)):(x0=0)∨(x0=1):=by omega
theorem o112 {x0:Int} (h0:Int.natAbs x0≤1000000):Int.natAbs x0<2 ^ 20:=lin [Int.natAbs x0,2 ^ 20] [x0] [.nl (.x 0) (.k 1000000),.ne (.x 1) (.k 1048576)] [] (.nt (.x 0) (.x 1)) (.l 1 [1,-1]) rfl h0 (rfl:2 ^ 20=1048576)
theorem o113 {x0:Nat} (h0:x0≤1000):x0<2 ^ 20:=lin [x0,2 ^ 20] [] [.nl (.x 0) (.k 1000),.ne (.x 1) (.k 1048576)] [] (.nt (.x 0) (.x 1)) (.l 1 [1,-1]) rfl h0 (rfl:2 ^ 20=1048576)
theorem o116 {x0 x1 x2 x3 x4:Nat} (h0:x0+x1≤67108864) (h1:x2≤x0) (h2:x3≤x1) (h3:67108864≤(x4:Int)):¬ ((x4:Int)<(x2:Int)+(x3:Int)):=fun c0=>lin [x0,x1,x2,x3,x4] [] [.nl (.a (.x 0) (.x 1)) (.k 67108864),.nl (.x 2) (.x 0),.nl (.x 3) (.x 1),.il (.k 67108864) (.c (.x 4)),.it (.c (.x 4)) (.a (.c (.x 2)) (.c (.x 3)))] [] .f (.l 0 [1,1,1,1,1]) rfl h0 h1 h2 h3 c0
theorem o117 {x0:Nat}:0≤(x0:Int):=lin [x0] [] [] [] (.il (.k 0) (.c (.x 0))) (.l 1 []) rfl
theorem o118 {x0:Nat} (h0:x0≤1000):x0≤1000:=lin [x0] [] [.nl (.x 0) (.k 1000)] [] (.nl (.x 0) (.k 1000)) (.l 1 [1]) rfl h0
theorem o119 {x0 x1:Nat} (h0:(x0:Int)=(x1:Int)):x0=x1:=linN [x0,x1] [] [.ie (.c (.x 0)) (.c (.x 1))] [] (.x 0) (.x 1) (.l 1 [1]) (.l 1 [-1]) rfl h0
theorem o120 {x0:Nat} (h0:2≤x0):x0=x0 - 2+2:=linN [x0,x0 - 2] [] [.nl (.k 2) (.x 0)] [dS (.x 0) (.k 2) (.x 1)] (.x 0) (.a (.x 1) (.k 2)) (.s (.l 1 [0,-1]) (.l 1 [1])) (.s (.l 1 [0,1]) (.l 1 [0,1,1])) rfl h0 (sub_c x0 2)
theorem o121 {x0:Nat} (h0:0<(x0:Int)):0 - (x0:Int)≠0:=fun c0=>lin [x0] [] [.it (.k 0) (.c (.x 0)),.ie (.s (.k 0) (.c (.x 0))) (.k 0)] [] .f (.l 0 [1,-1]) rfl h0 c0
theorem o122 {x0:Nat} (h0:3≤x0):x0=x0 - 1+1:=linN [x0,x0 - 1] [] [.nl (.k 3) (.x 0)] [dS (.x 0) (.k 1) (.x 1)] (.x 0) (.a (.x 1) (.k 1)) (.s (.l 1 [0,-1]) (.l 0 [1,0,1])) (.s (.l 1 [0,1]) (.l 0 [1,0,1])) rfl h0 (sub_c x0 1)
theorem o124 {x0:Nat} (h0:3≤x0+1):2≤x0:=lin [x0] [] [.nl (.k 3) (.a (.x 0) (.k 1))] [] (.nl (.k 2) (.x 0)) (.l 1 [1]) rfl h0
theorem o125 {x0:Nat}:Int.toNat ((x0:Int)+(-1))=x0 - 1:=linN [x0,Int.toNat ((x0:Int)+(-1)),x0 - 1] [] [] [dT (.a (.c (.x 0)) (.g (.k 1))) (.x 1),dS (.x 0) (.k 1) (.x 2)] (.x 1) (.x 2) (.s (.s (.l 1 [0,-1,0,1]) (.l 1 [1,0,0,1])) (.l 1 [0,1])) (.s (.s (.l 1 [0,1,0,-1]) (.l 1 [0,1])) (.s (.l 1 [0,1,1]) (.l 1 [0,1]))) rfl (toNat_c ((x0:Int)+(-1))) (sub_c x0 1)
theorem o126 {x0:Nat} (h0:¬ (x0=0)):x0 - 1<x0:=lin [x0,x0 - 1] [] [] [dN (.x 0) (.k 0),dS (.x 0) (.k 1) (.x 1)] (.nt (.x 1) (.x 0)) (.s (.l 0 [1]) (.s (.l 1 [0,1]) (.l 1 [0,1,1]))) rfl (Nat.lt_or_gt_of_ne h0) (sub_c x0 1)
theorem o127 {x0:Nat} (h0:1≤x0):x0=x0 - 1+1:=linN [x0,x0 - 1] [] [.nl (.k 1) (.x 0)] [dS (.x 0) (.k 1) (.x 1)] (.x 0) (.a (.x 1) (.k 1)) (.s (.l 1 [0,-1]) (.l 1 [1])) (.s (.l 1 [0,1]) (.l 1 [0,1,1])) rfl h0 (sub_c x0 1)
theorem o128 {x0 x1:Nat} (h0:x0≤1000):min x1 x0≤1000000:=lin [x0,x1,min x1 x0] [] [.nl (.x 0) (.k 1000)] [dM (.x 1) (.x 0) (.x 2)] (.nl (.x 2) (.k 1000000)) (.s (.l 1 [1,1,1]) (.l 1 [0,1,1])) rfl h0 (minN_c x1 x0)
theorem o129 {x0:Nat} (h0:0<x0):(x0:Int) - 1=((x0 - 1:Nat):Int):=linI [x0,x0 - 1] [] [.nt (.k 0) (.x 0)] [dS (.x 0) (.k 1) (.x 1)] (.s (.c (.x 0)) (.k 1)) (.c (.x 1)) (.s (.l 1 [0,-1]) (.l 1 [1])) (.s (.l 1 [0,1]) (.l 1 [0,1,1])) rfl h0 (sub_c x0 1)
theorem o130 {x0 x1:Nat} (h0:x0≤x1) (h1:0<x0):x0 - 1<x1:=lin [x0,x1,x0 - 1] [] [.nl (.x 0) (.x 1),.nt (.k 0) (.x 0)] [dS (.x 0) (.k 1) (.x 2)] (.nt (.x 2) (.x 1)) (.s (.l 1 [0,1,1]) (.l 1 [0,1,1,1])) rfl h0 h1 (sub_c x0 1)
theorem o131 {x0 x1:Nat} (h0:x0≤x1):x0 - 1≤x1:=lin [x0,x1,x0 - 1] [] [.nl (.x 0) (.x 1)] [dS (.x 0) (.k 1) (.x 2)] (.nl (.x 2) (.x 1)) (.s (.l 1 [0,1,1]) (.l 1 [0,1])) rfl h0 (sub_c x0 1)
theorem o132 {x0 x1:Nat} (h0:x0 - 1≤x1) (h1:¬ (x1=x0 - 1)):x0≤x1:=lin [x0,x1,x0 - 1] [] [.nl (.x 2) (.x 1)] [dN (.x 1) (.x 2),dS (.x 0) (.k 1) (.x 2)] (.nl (.x 0) (.x 1)) (.s (.l 0 [1,1]) (.s (.l 1 [0,-1,1]) (.l 1 [1,0,1]))) rfl h0 (Nat.lt_or_gt_of_ne h1) (sub_c x0 1)
theorem o133 {x0:Nat} (h0:0<x0):Int.toNat ((x0:Int) - 1)<Int.toNat (x0:Int):=lin [x0,Int.toNat ((x0:Int) - 1),Int.toNat (x0:Int)] [] [.nt (.k 0) (.x 0)] [dT (.s (.c (.x 0)) (.k 1)) (.x 1),dT (.c (.x 0)) (.x 2)] (.nt (.x 1) (.x 2)) (.s (.s (.l 1 [0,-1,0,1]) (.l 0 [1,0,1])) (.s (.l 1 [0,-1,0,1,1]) (.l 0 [1,0,0,0,1]))) rfl h0 (toNat_c ((x0:Int) - 1)) (toNat_c (x0:Int))
theorem o134 {x0 x1:Nat} (h0:x0≤x1):min x0 x1=x0:=linN [x0,x1,min x0 x1] [] [.nl (.x 0) (.x 1)] [dM (.x 0) (.x 1) (.x 2)] (.x 2) (.x 0) (.s (.l 1 [0,1]) (.l 1 [1,1])) (.s (.l 1 [0,-1]) (.l 1 [0,-1,1])) rfl h0 (minN_c x0 x1)
theorem o136 {x0:Nat} (h0:0<x0):x0 - 1<x0:=lin [x0,x0 - 1] [] [.nt (.k 0) (.x 0)] [dS (.x 0) (.k 1) (.x 1)] (.nt (.x 1) (.x 0)) (.s (.l 1 [0,1]) (.l 1 [0,1,1])) rfl h0 (sub_c x0 1)
theorem o137 {x0 x1:Nat} (h0:x0≤x1) (h1:0<x0):x0 - 1<min x0 x1:=lin [x0,x1,x0 - 1,min x0 x1] [] [.nl (.x 0) (.x 1),.nt (.k 0) (.x 0)] [dS (.x 0) (.k 1) (.x 2),dM (.x 0) (.x 1) (.x 3)] (.nt (.x 2) (.x 3)) (.s (.s (.l 1 [0,-1,0,1]) (.l 1 [0,-1,0,1,1])) (.s (.l 1 [0,-1,0,1,0,1]) (.l 1 [0,-1,0,1,1,1]))) rfl h0 h1 (sub_c x0 1) (minN_c x0 x1)
theorem o139 {x0:Nat}:0≤((x0 - 1:Nat):Int):=lin [x0,x0 - 1] [] [] [] (.il (.k 0) (.c (.x 1))) (.l 1 []) rfl
theorem o141 {x0:Nat}:x0 - 1≤x0:=lin [x0,x0 - 1] [] [] [dS (.x 0) (.k 1) (.x 1)] (.nl (.x 1) (.x 0)) (.s (.l 1 [0,1]) (.l 1 [0,1])) rfl (sub_c x0 1)
theorem o142 {x0 x1:Nat} (h0:0<x0):min (x0 - 1) x1<x0:=lin [x0,x1,min (x0 - 1) x1,x0 - 1] [] [.nt (.k 0) (.x 0)] [dS (.x 0) (.k 1) (.x 3),dM (.x 3) (.x 1) (.x 2)] (.nt (.x 2) (.x 0)) (.s (.s (.l 1 [0,1,0,1]) (.l 1 [1,1,0,1])) (.s (.l 1 [0,1,0,1,1]) (.l 1 [1,1,0,1,1]))) rfl h0 (sub_c x0 1) (minN_c (x0 - 1) x1)
theorem o143 {x0:Nat} (h0:1≤x0):x0 - 1<x0:=lin [x0,x0 - 1] [] [.nl (.k 1) (.x 0)] [dS (.x 0) (.k 1) (.x 1)] (.nt (.x 1) (.x 0)) (.s (.l 1 [0,1]) (.l 1 [0,1,1])) rfl h0 (sub_c x0 1)
theorem o145 {x0 x1:Nat} (h0:x0<x1+1) (h1:¬ (x0=x1)):x0<x1:=lin [x0,x1] [] [.nt (.x 0) (.a (.x 1) (.k 1))] [dN (.x 0) (.x 1)] (.nt (.x 0) (.x 1)) (.s (.l 1 [1]) (.l 0 [1,1])) rfl h0 (Nat.lt_or_gt_of_ne h1)
theorem o147 {x0:Nat} (h0:4≤x0):x0=x0 - 1+1:=linN [x0,x0 - 1] [] [.nl (.k 4) (.x 0)] [dS (.x 0) (.k 1) (.x 1)] (.x 0) (.a (.x 1) (.k 1)) (.s (.l 1 [0,-1]) (.l 0 [1,0,1])) (.s (.l 1 [0,1]) (.l 0 [1,0,1])) rfl h0 (sub_c x0 1)
theorem o148 {x0:Nat} (h0:x0≤400):x0≤1000:=lin [x0] [] [.nl (.x 0) (.k 400)] [] (.nl (.x 0) (.k 1000)) (.l 1 [1]) rfl h0
theorem o151 {x0 x1:Nat} (h0:x0≤400):Int.toNat ((x0:Int) - (x1:Int))≤1000000:=lin [x0,x1,Int.toNat ((x0:Int) - (x1:Int))] [] [.nl (.x 0) (.k 400)] [dT (.s (.c (.x 0)) (.c (.x 1))) (.x 2)] (.nl (.x 2) (.k 1000000)) (.s (.l 1 [0,1,1]) (.l 1 [0,1])) rfl h0 (toNat_c ((x0:Int) - (x1:Int)))
theorem o152 {x0:Nat} (h0:x0≤400):(x0:Int)≤1000000:=lin [x0] [] [.nl (.x 0) (.k 400)] [] (.il (.c (.x 0)) (.k 1000000)) (.l 1 [1]) rfl h0
theorem o153 {x0 x1:Nat}:x0≤x1+Int.toNat ((x0:Int) - (x1:Int)):=lin [x0,x1,Int.toNat ((x0:Int) - (x1:Int))] [] [] [dT (.s (.c (.x 0)) (.c (.x 1))) (.x 2)] (.nl (.x 0) (.a (.x 1) (.x 2))) (.s (.l 1 [0,-1]) (.l 1 [1])) rfl (toNat_c ((x0:Int) - (x1:Int)))
theorem o154 {x0 x1:Nat} (h0:x0≤400) (h1:x1≤400):x0+Int.toNat ((x1:Int) - (x0:Int))≤800:=lin [x0,x1,Int.toNat ((x1:Int) - (x0:Int))] [] [.nl (.x 0) (.k 400),.nl (.x 1) (.k 400)] [dT (.s (.c (.x 1)) (.c (.x 0))) (.x 2)] (.nl (.a (.x 0) (.x 2)) (.k 800)) (.s (.l 1 [0,1,0,1]) (.l 1 [0,1,1])) rfl h0 h1 (toNat_c ((x1:Int) - (x0:Int)))
theorem o155 {x0:Nat} {x1:Nat} (h0:x0<Int.toNat ((x1:Int) - (0:Int))):x0<x1:=lin [x0,x1,Int.toNat ((x1:Int) - (0:Int))] [] [.nt (.x 0) (.x 2)] [dT (.s (.c (.x 1)) (.k 0)) (.x 2)] (.nt (.x 0) (.x 1)) (.s (.l 1 [0,1,1]) (.l 0 [0,1,1])) rfl h0 (toNat_c ((x1:Int) - (0:Int)))
theorem o156 {x0:Nat} (h0:x0≤800):x0≤1000:=lin [x0] [] [.nl (.x 0) (.k 800)] [] (.nl (.x 0) (.k 1000)) (.l 1 [1]) rfl h0
theorem o157 {x0 x1 x2:Nat} (h0:x0≤x1) (h1:x2<x0):x2<x1:=lin [x0,x1,x2] [] [.nl (.x 0) (.x 1),.nt (.x 2) (.x 0)] [] (.nt (.x 2) (.x 1)) (.l 1 [1,1]) rfl h0 h1
theorem o158 {x0:Nat} (h0:4≤x0+1):3≤x0:=lin [x0] [] [.nl (.k 4) (.a (.x 0) (.k 1))] [] (.nl (.k 3) (.x 0)) (.l 1 [1]) rfl h0
theorem o160 {x0 x1:Nat} (h0:¬ (x0=x1)) (h1:¬ (x0<x1)):¬ (x0<x1+1):=fun c0=>lin [x0,x1] [] [.nl (.x 1) (.x 0),.nt (.x 0) (.a (.x 1) (.k 1))] [dN (.x 0) (.x 1)] .f (.s (.l 0 [1,1]) (.l 0 [1,0,1])) rfl (Nat.not_lt.mp h1) c0 (Nat.lt_or_gt_of_ne h0)
theorem o161 {x0:Nat} (h0:4≤x0+1):1≤x0:=lin [x0] [] [.nl (.k 4) (.a (.x 0) (.k 1))] [] (.nl (.k 1) (.x 0)) (.l 1 [1]) rfl h0
theorem o162 {x0 x1:Nat} (h0:¬ (x0<0+Int.toNat ((x1:Int) - 0))):x1≤x0:=lin [x0,x1,Int.toNat ((x1:Int) - 0)] [] [.nl (.a (.k 0) (.x 2)) (.x 0)] [dT (.s (.c (.x 1)) (.k 0)) (.x 2)] (.nl (.x 1) (.x 0)) (.s (.l 1 [0,-1,1]) (.l 1 [1])) rfl (Nat.not_lt.mp h0) (toNat_c ((x1:Int) - 0))
theorem o163 {x0:Nat} (h0:x0≤400):Int.toNat ((x0:Int) - 1)≤1000000:=lin [x0,Int.toNat ((x0:Int) - 1)] [] [.nl (.x 0) (.k 400)] [dT (.s (.c (.x 0)) (.k 1)) (.x 1)] (.nl (.x 1) (.k 1000000)) (.s (.l 1 [0,1,1]) (.l 1 [0,1])) rfl h0 (toNat_c ((x0:Int) - 1))
theorem o165 {x0 x1:Nat} (h0:x0<Int.toNat ((x1:Int) - 1)):x0+1<x1:=lin [x0,x1,Int.toNat ((x1:Int) - 1)] [] [.nt (.x 0) (.x 2)] [dT (.s (.c (.x 1)) (.k 1)) (.x 2)] (.nt (.a (.x 0) (.k 1)) (.x 1)) (.s (.l 1 [0,1,1]) (.l 0 [0,1,1])) rfl h0 (toNat_c ((x1:Int) - 1))
theorem o166 {x0 x1:Nat} (h0:x0≤400) (h1:x1<Int.toNat ((x0:Int) - 1)):Int.natAbs ((x1+1:Nat):Int)<2 ^ 11:=lin [x0,x1,Int.toNat ((x0:Int) - 1),Int.natAbs ((x1+1:Nat):Int),2 ^ 11] [] [.nl (.x 0) (.k 400),.nt (.x 1) (.x 2),.ne (.x 4) (.k 2048)] [dT (.s (.c (.x 0)) (.k 1)) (.x 2),dA (.c (.a (.x 1) (.k 1))) (.x 3)] (.nt (.x 3) (.x 4)) (.s (.s (.l 1 [0,1,0,1,1,1,-1]) (.l 0 [1])) (.l 0 [0,1,0,1])) rfl h0 h1 (rfl:2 ^ 11=2048) (toNat_c ((x0:Int) - 1)) (natAbs_c ((x1+1:Nat):Int))
theorem o167:1≤11:=lin [] [] [] [] (.nl (.k 1) (.k 11)) (.l 1 []) rfl
theorem o169 {x0:Nat} (h0:x0≤400):Int.toNat ((x0:Int) - 1)≤1000:=lin [x0,Int.toNat ((x0:Int) - 1)] [] [.nl (.x 0) (.k 400)] [dT (.s (.c (.x 0)) (.k 1)) (.x 1)] (.nl (.x 1) (.k 1000)) (.s (.l 1 [0,1,1]) (.l 1 [0,1])) rfl h0 (toNat_c ((x0:Int) - 1))
theorem o170 {x0 x1:Nat} (h0:¬ (x0<Int.toNat ((x1:Int) - 1))):Int.toNat ((x1:Int) - 1)≤x0:=lin [x0,x1,Int.toNat ((x1:Int) - 1)] [] [.nl (.x 2) (.x 0)] [] (.nl (.x 2) (.x 0)) (.l 1 [1]) rfl (Nat.not_lt.mp h0)
theorem o171 {x0 x1:Nat} (h0:¬ (x0<Int.toNat ((x1:Int) - 1))):x1≤x0+1:=lin [x0,x1,Int.toNat ((x1:Int) - 1)] [] [.nl (.x 2) (.x 0)] [dT (.s (.c (.x 1)) (.k 1)) (.x 2)] (.nl (.x 1) (.a (.x 0) (.k 1))) (.s (.l 1 [0,-1,1]) (.l 1 [1])) rfl (Nat.not_lt.mp h0) (toNat_c ((x1:Int) - 1))
theorem o172 {x0:Nat} (h0:4≤x0):x0=x0 - 4+4:=linN [x0,x0 - 4] [] [.nl (.k 4) (.x 0)] [dS (.x 0) (.k 4) (.x 1)] (.x 0) (.a (.x 1) (.k 4)) (.s (.l 1 [0,-1]) (.l 1 [1])) (.s (.l 1 [0,1]) (.l 1 [0,1,1])) rfl h0 (sub_c x0 4)
theorem o173 {x0:Nat}:(x0:Int)+1=((x0+1:Nat):Int):=linI [x0] [] [] [] (.a (.c (.x 0)) (.k 1)) (.c (.a (.x 0) (.k 1))) (.l 1 []) (.l 1 []) rfl
theorem o175 {x0 x1:Nat} (h0:x0≤50) (h1:x1=x0+1):x1≤1000:=lin [x0,x1] [] [.nl (.x 0) (.k 50),.ne (.x 1) (.a (.x 0) (.k 1))] [] (.nl (.x 1) (.k 1000)) (.l 1 [1,1]) rfl h0 h1
theorem o176 {x0:Nat}:(x0:Int)+1≠0:=fun c0=>lin [x0] [] [.ie (.a (.c (.x 0)) (.k 1)) (.k 0)] [] .f (.l 0 [1]) rfl c0
theorem o179 {x0:Int} {x1 x2:Nat} (h0:x0<(x1:Int)+1) (h1:x0=(x2:Int)):x2≤x1:=lin [x1,x2] [x0] [.it (.x 0) (.a (.c (.x 0)) (.k 1)),.ie (.x 0) (.c (.x 1))] [] (.nl (.x 1) (.x 0)) (.l 1 [1,-1]) rfl h0 h1
theorem o181 {x0:Nat} {x1:Int} {x2:Nat} (h0:x0≤50) (h1:x1<(x0:Int)+1) (h2:x1=(x2:Int)):Int.toNat ((x2:Int) - 0)≤1000000:=lin [x0,x2,Int.toNat ((x2:Int) - 0)] [x1] [.nl (.x 0) (.k 50),.it (.x 0) (.a (.c (.x 0)) (.k 1)),.ie (.x 0) (.c (.x 1))] [dT (.s (.c (.x 1)) (.k 0)) (.x 2)] (.nl (.x 2) (.k 1000000)) (.s (.l 1 [0,1,1,1,-1]) (.l 1 [0,1])) rfl h0 h1 h2 (toNat_c ((x2:Int) - 0))
theorem o188 {x0 x1:Nat} (h0:¬ (x0=x1)) (h1:¬ (x1<x0)):¬ (x1<x0+1):=fun c0=>lin [x0,x1] [] [.nl (.x 0) (.x 1),.nt (.x 1) (.a (.x 0) (.k 1))] [dN (.x 0) (.x 1)] .f (.s (.l 0 [1,0,1]) (.l 0 [1,1])) rfl (Nat.not_lt.mp h1) c0 (Nat.lt_or_gt_of_ne h0)
theorem o189 {x0:Nat}:0<x0+1:=lin [x0] [] [] [] (.nt (.k 0) (.a (.x 0) (.k 1))) (.l 1 []) rfl
theorem o190 {x0:Int} {x1:Nat} {x2:Int} {x3:Nat} (h0:Int.natAbs x0≤x1) (h1:Int.natAbs x2≤x3) (h2:Int.natAbs (x0+x2)≤Int.natAbs x0+Int.natAbs x2):Int.natAbs (x0+x2)≤x1+x3:=lin [x1,x3,Int.natAbs x0,Int.natAbs x2,Int.natAbs (x0+x2)] [x0,x2] [.nl (.x 2) (.x 0),.nl (.x 3) (.x 1),.nl (.x 4) (.a (.x 2) (.x 3))] [] (.nl (.x 4) (.a (.x 0) (.x 1))) (.l 1 [1,1,1]) rfl h0 h1 h2
theorem o192 {x0:Int} {x1:Nat} (h0:Int.natAbs x0<x1):Int.natAbs x0<16*x1:=lin [x1,Int.natAbs x0] [x0] [.nt (.x 1) (.x 0)] [] (.nt (.x 1) (.m 16 (.x 0))) (.l 1 [16]) rfl h0
theorem o193 {x0:Int} {x1 x2:Nat} (h0:Int.natAbs x0≤x1) (h1:x1≤15*x2) (h2:0<x2):Int.natAbs x0<16*x2:=lin [x1,x2,Int.natAbs x0] [x0] [.nl (.x 2) (.x 0),.nl (.x 0) (.m 15 (.x 1)),.nt (.k 0) (.x 1)] [] (.nt (.x 2) (.m 16 (.x 1))) (.l 1 [1,1,1]) rfl h0 h1 h2
theorem o194 {x0:Nat}:x0*2=2*x0:=linN [x0] [] [] [] (.r (.x 0) 2) (.m 2 (.x 0)) (.l 1 []) (.l 1 []) rfl
theorem o195 {x0:Int} {x1:Nat} (h0:Int.natAbs x0<x1):Int.natAbs x0<2*x1:=lin [x1,Int.natAbs x0] [x0] [.nt (.x 1) (.x 0)] [] (.nt (.x 1) (.m 2 (.x 0))) (.l 1 [2]) rfl h0
theorem o196 {x0:Nat} (h0:x0≤15):x0≤1000:=lin [x0] [] [.nl (.x 0) (.k 15)] [] (.nl (.x 0) (.k 1000)) (.l 1 [1]) rfl h0
theorem o197 {x0 x1:Nat}:(-10000)≤max 0 ((x0:Int) - (x1:Int)+1):=lin [x0,x1] [max 0 ((x0:Int) - (x1:Int)+1)] [] [dXI (.k 0) (.a (.s (.c (.x 0)) (.c (.x 1))) (.k 1)) (.x 0)] (.il (.g (.k 10000)) (.x 0)) (.s (.l 1 [1,-1]) (.l 1 [0,-1])) rfl (maxI_c 0 ((x0:Int) - (x1:Int)+1))
theorem o198 {x0 x1:Nat} (h0:x0≤15):max 0 ((x0:Int) - (x1:Int)+1)≤10000:=lin [x0,x1] [max 0 ((x0:Int) - (x1:Int)+1)] [.nl (.x 0) (.k 15)] [dXI (.k 0) (.a (.s (.c (.x 0)) (.c (.x 1))) (.k 1)) (.x 0)] (.il (.x 0) (.k 10000)) (.s (.l 1 [0,1,1]) (.l 1 [0,1])) rfl h0 (maxI_c 0 ((x0:Int) - (x1:Int)+1))
theorem o199 {x0 x1:Nat}:0≤max 0 ((x0:Int) - (x1:Int)+1):=lin [x0,x1] [max 0 ((x0:Int) - (x1:Int)+1)] [] [dXI (.k 0) (.a (.s (.c (.x 0)) (.c (.x 1))) (.k 1)) (.x 0)] (.il (.k 0) (.x 0)) (.s (.l 1 [1,-1]) (.l 1 [0,-1])) rfl (maxI_c 0 ((x0:Int) - (x1:Int)+1))
theorem o200 {x0 x1 x2:Nat} (h0:max 0 ((x0:Int) - (x1:Int)+1)=(x2:Int)):x2=x0+1 - x1:=linN [x0,x1,x2,x0+1 - x1] [max 0 ((x0:Int) - (x1:Int)+1)] [.ie (.x 0) (.c (.x 2))] [dXI (.k 0) (.a (.s (.c (.x 0)) (.c (.x 1))) (.k 1)) (.x 0),dS (.a (.x 0) (.k 1)) (.x 1) (.x 3)] (.x 2) (.x 3) (.s (.s (.l 1 [0,-1,0,1,-1]) (.l 1 [1,0,0,1,-1])) (.l 1 [0,1,-1])) (.s (.s (.l 1 [0,1,0,-1,1]) (.l 1 [0,1])) (.s (.l 1 [0,1,1]) (.l 1 [0,1]))) rfl h0 (maxI_c 0 ((x0:Int) - (x1:Int)+1)) (sub_c (x0+1) x1)
theorem o201 {x0 x1 x2:Nat} (h0:x0≤15) (h1:1≤x1) (h2:x2=x0+1 - x1):x2≤15:=lin [x0,x1,x2,x0+1 - x1] [] [.nl (.x 0) (.k 15),.nl (.k 1) (.x 1),.ne (.x 2) (.x 3)] [dS (.a (.x 0) (.k 1)) (.x 1) (.x 3)] (.nl (.x 2) (.k 15)) (.s (.l 1 [0,1,1,1,1]) (.l 1 [0,1,0,0,1])) rfl h0 h1 h2 (sub_c (x0+1) x1)
theorem o202 {x0 x1 x2:Nat} (h0:x0=x1+1 - x2) (h1:x1<x2):x0=0:=linN [x0,x1,x2,x1+1 - x2] [] [.ne (.x 0) (.x 3),.nt (.x 1) (.x 2)] [dS (.a (.x 1) (.k 1)) (.x 2) (.x 3)] (.x 0) (.k 0) (.s (.l 1 [0,1,1,1]) (.l 1 [0,1,1])) (.l 1 []) rfl h0 h1 (sub_c (x1+1) x2)
theorem o203 {x0 x1 x2:Nat} (h0:x0=x1+1 - x2) (h1:x2≤x1):x0+x2=x1+1:=linN [x0,x1,x2,x1+1 - x2] [] [.ne (.x 0) (.x 3),.nl (.x 2) (.x 1)] [dS (.a (.x 1) (.k 1)) (.x 2) (.x 3)] (.a (.x 0) (.x 2)) (.a (.x 1) (.k 1)) (.s (.l 1 [0,1,1]) (.l 0 [1,0,0,1])) (.s (.l 1 [0,-1,-1]) (.l 0 [1,0,0,1])) rfl h0 h1 (sub_c (x1+1) x2)
theorem o204 {x0 x1 x2:Nat} (h0:x0=x1+1 - x2) (h1:x0=0):x1<x2:=lin [x0,x1,x2,x1+1 - x2] [] [.ne (.x 0) (.x 3),.ne (.x 0) (.k 0)] [dS (.a (.x 1) (.k 1)) (.x 2) (.x 3)] (.nt (.x 1) (.x 2)) (.s (.l 1 [0,-1,-1,1]) (.l 1 [1])) rfl h0 h1 (sub_c (x1+1) x2)
theorem o206 {x0:Nat} (h0:x0≤15):((-1000000)≤(x0:Int) - 1)∧((x0:Int) - 1≤1000000):=And.intro (lin [x0] [] [] [] (.il (.g (.k 1000000)) (.s (.c (.x 0)) (.k 1))) (.l 1 []) rfl) (lin [x0] [] [.nl (.x 0) (.k 15)] [] (.il (.s (.c (.x 0)) (.k 1)) (.k 1000000)) (.l 1 [1]) rfl h0)
theorem o207 {x0 x1:Nat} (h0:x0<Int.toNat ((x1:Int) - 1 - (-1))):x0<x1:=lin [x0,x1,Int.toNat ((x1:Int) - 1 - (-1))] [] [.nt (.x 0) (.x 2)] [dT (.s (.s (.c (.x 1)) (.k 1)) (.g (.k 1))) (.x 2)] (.nt (.x 0) (.x 1)) (.s (.l 1 [0,1,1]) (.l 0 [0,1,1])) rfl h0 (toNat_c ((x1:Int) - 1 - (-1)))
theorem o208 {x0 x1:Nat} (h0:x0<x1):x1=x1 - 1 - x0+x0+1:=linN [x0,x1,x1 - 1 - x0,x1 - 1] [] [.nt (.x 0) (.x 1)] [dS (.x 1) (.k 1) (.x 3),dS (.x 3) (.x 0) (.x 2)] (.x 1) (.a (.a (.x 2) (.x 0)) (.k 1)) (.s (.s (.l 1 [0,-1,0,-1]) (.l 1 [1,0,0,-1])) (.l 1 [1])) (.s (.s (.l 1 [0,1,0,1]) (.l 1 [0,1,0,0,1])) (.s (.l 1 [0,1,0,1,1]) (.l 1 [0,1,0,0,1]))) rfl h0 (sub_c x1 1) (sub_c (x1 - 1) x0)
theorem o211 {x0 x1:Nat} (h0:1≤x0):(x1:Int)+(x0:Int) - 1=((x1+x0 - 1:Nat):Int):=linI [x0,x1,x1+x0 - 1] [] [.nl (.k 1) (.x 0)] [dS (.a (.x 1) (.x 0)) (.k 1) (.x 2)] (.s (.a (.c (.x 1)) (.c (.x 0))) (.k 1)) (.c (.x 2)) (.s (.l 1 [0,-1]) (.l 1 [1])) (.s (.l 1 [0,1]) (.l 1 [0,1,1])) rfl h0 (sub_c (x1+x0) 1)
theorem o212 {x0 x1:Nat} (h0:x0≤15) (h1:x1=x0):x1≤1000:=lin [x0,x1] [] [.nl (.x 0) (.k 15),.ne (.x 1) (.x 0)] [] (.nl (.x 1) (.k 1000)) (.l 1 [1,1]) rfl h0 h1
theorem o213 {x0 x1 x2 x3:Nat} (h0:1≤x0) (h1:x1=x2) (h2:x3+x0≤x2):x3+x0 - 1<x1:=lin [x0,x1,x2,x3,x3+x0 - 1] [] [.nl (.k 1) (.x 0),.ne (.x 1) (.x 2),.nl (.a (.x 3) (.x 0)) (.x 2)] [dS (.a (.x 3) (.x 0)) (.k 1) (.x 4)] (.nt (.x 4) (.x 1)) (.s (.l 1 [0,1,0,-1,1]) (.l 1 [0,1,1,-1,1])) rfl h0 h1 h2 (sub_c (x3+x0) 1)
theorem o216 {x0:Nat} (h0:x0≤15):(x0:Int)≤1000000:=lin [x0] [] [.nl (.x 0) (.k 15)] [] (.il (.c (.x 0)) (.k 1000000)) (.l 1 [1]) rfl h0
theorem o217 {x0 x1:Nat} (h0:(x0≤x0+x1)∧(x0+x1 - x0<x1)):False:=lin [x0,x1,x0+x1 - x0] [] [.nt (.x 2) (.x 1)] [dS (.a (.x 0) (.x 1)) (.x 0) (.x 2)] .f (.s (.l 0 [0,-1,1]) (.l 0 [1,0,1])) rfl h0.2 (sub_c (x0+x1) x0)
theorem o218 {x0 x1:Nat}:(x0:Int)+(x1:Int)=((x0+x1:Nat):Int):=linI [x0,x1] [] [] [] (.a (.c (.x 0)) (.c (.x 1))) (.c (.a (.x 0) (.x 1))) (.l 1 []) (.l 1 []) rfl
theorem o219 {x0 x1 x2 x3 x4:Nat} (h0:x0+x1≤x2) (h1:x3=x2) (h2:x4<x1):x0+x4<x3:=lin [x0,x1,x2,x3,x4] [] [.nl (.a (.x 0) (.x 1)) (.x 2),.ne (.x 3) (.x 2),.nt (.x 4) (.x 1)] [] (.nt (.a (.x 0) (.x 4)) (.x 3)) (.l 1 [1,-1,1]) rfl h0 h1 h2
theorem o222 {x0 x1:Nat}:0≤((x0+x1:Nat):Int):=lin [x0,x1] [] [] [] (.il (.k 0) (.c (.a (.x 0) (.x 1)))) (.l 1 []) rfl
theorem o224 {x0 x1:Nat}:x0+x1 - x0<x1+1:=lin [x0,x1,x0+x1 - x0] [] [] [dS (.a (.x 0) (.x 1)) (.x 0) (.x 2)] (.nt (.x 2) (.a (.x 1) (.k 1))) (.s (.l 1 [0,1]) (.l 1 [0,1])) rfl (sub_c (x0+x1) x0)
theorem o225 {x0 x1:Nat}:x0+x1 - x0=x1:=linN [x0,x1,x0+x1 - x0] [] [] [dS (.a (.x 0) (.x 1)) (.x 0) (.x 2)] (.x 2) (.x 1) (.s (.l 1 [0,1]) (.l 1 [0,1])) (.s (.l 1 [0,-1]) (.l 1 [1])) rfl (sub_c (x0+x1) x0)
theorem o226 {x0 x1 x2:Nat} (h0:(x0≤x1)∧(x1 - x0<x2)):x1 - x0<x2+1:=lin [x0,x1,x2,x1 - x0] [] [.nt (.x 3) (.x 2)] [] (.nt (.x 3) (.a (.x 2) (.k 1))) (.l 1 [1]) rfl h0.2
theorem o227 {x0 x1 x2:Nat} (h0:¬ (x0=(x1+x2))) (h1:¬ ((x1≤x0)∧((x0 - x1)<x2))) (h2:(x1≤x0)∧((x0 - x1)<(x2+1))):(x0 - x1)<x2:=by omega
theorem o228 {x0 x1 x2:Nat} (h0:x0 - x1<x2):x0 - x1<Int.toNat ((x2:Int) - 0):=lin [x0,x1,x2,x0 - x1,Int.toNat ((x2:Int) - 0)] [] [.nt (.x 3) (.x 2)] [dT (.s (.c (.x 2)) (.k 0)) (.x 4)] (.nt (.x 3) (.x 4)) (.s (.l 1 [0,-1,1]) (.l 0 [1,0,1])) rfl h0 (toNat_c ((x2:Int) - 0))
theorem o229 {x0:Nat} {x1:Nat} {x2:Nat} (h0:(x0≤x1)∧(x1 - x0<Int.toNat ((x2:Int) - (0:Int)))):x1 - x0<x2:=lin [x0,x1,x2,x1 - x0,Int.toNat ((x2:Int) - (0:Int))] [] [.nt (.x 3) (.x 4)] [dT (.s (.c (.x 2)) (.k 0)) (.x 4)] (.nt (.x 3) (.x 2)) (.s (.l 1 [0,1,1]) (.l 0 [0,1,1])) rfl h0.2 (toNat_c ((x2:Int) - (0:Int)))
theorem o230 {x0 x1 x2:Nat} (h0:¬ (x0 - x1<x2)):x2≤x0 - x1:=lin [x0,x1,x2,x0 - x1] [] [.nl (.x 2) (.x 3)] [] (.nl (.x 2) (.x 3)) (.l 1 [1]) rfl (Nat.not_lt.mp h0)
theorem o232 {x0 x1 x2 x3:Nat} (h0:x0=x1) (h1:x1=x2+x3+1):x2<x0:=lin [x0,x1,x2,x3] [] [.ne (.x 0) (.x 1),.ne (.x 1) (.a (.a (.x 2) (.x 3)) (.k 1))] [] (.nt (.x 2) (.x 0)) (.l 1 [-1,-1]) rfl h0 h1
theorem o234 {x0 x1 x2 x3:Nat} (h0:x0=x1+x2+1) (h1:x3+(x2+1)<x0):¬ (x3=x1):=fun c0=>lin [x0,x1,x2,x3] [] [.ne (.x 0) (.a (.a (.x 1) (.x 2)) (.k 1)),.nt (.a (.x 3) (.a (.x 2) (.k 1))) (.x 0),.ne (.x 3) (.x 1)] [] .f (.l 0 [1,1,-1]) rfl h0 h1 c0
theorem o237 {x0 x1:Nat}:x0+x1 - 1 - x0=x1 - 1:=linN [x0,x1,x0+x1 - 1 - x0,x0+x1 - 1,x1 - 1] [] [] [dS (.a (.x 0) (.x 1)) (.k 1) (.x 3),dS (.x 3) (.x 0) (.x 2),dS (.x 1) (.k 1) (.x 4)] (.x 2) (.x 4) (.s (.s (.s (.l 1 [0,-1,0,1,0,1]) (.l 1 [1,0,0,1,0,1])) (.l 1 [0,1])) (.s (.l 1 [0,1,0,1]) (.l 1 [0,1]))) (.s (.s (.s (.l 1 [0,1,0,-1,0,-1]) (.l 1 [0,1])) (.s (.l 1 [0,1,1,0,0,-1]) (.l 1 [0,1]))) (.s (.s (.l 1 [0,1,0,-1,1]) (.l 1 [0,1])) (.s (.l 1 [0,1,0,0,1]) (.l 1 [0,1])))) rfl (sub_c (x0+x1) 1) (sub_c (x0+x1 - 1) x0) (sub_c x1 1)
theorem o238 {x0 x1 x2 x3 x4:Nat} (h0:x0=x1+x2+1) (h1:x0+x3≤x4+1+(x2+1)) (h2:¬ (x4=x1+x3 - 1)):x0+x3≤x4+1+x2:=lin [x0,x1,x2,x3,x4,x1+x3 - 1] [] [.ne (.x 0) (.a (.a (.x 1) (.x 2)) (.k 1)),.nl (.a (.x 0) (.x 3)) (.a (.a (.x 4) (.k 1)) (.a (.x 2) (.k 1)))] [dN (.x 4) (.x 5),dS (.a (.x 1) (.x 3)) (.k 1) (.x 5)] (.nl (.a (.x 0) (.x 3)) (.a (.a (.x 4) (.k 1)) (.x 2))) (.s (.s (.l 0 [0,1,1,-1,1]) (.l 0 [0,1,1])) (.s (.l 1 [0,-1,1,1]) (.l 1 [1,0,1,1]))) rfl h0 h1 (Nat.lt_or_gt_of_ne h2) (sub_c (x1+x3) 1)
theorem o239 {x0 x1 x2 x3 x4:Nat} (h0:x0=x1+x2+1) (h1:x0+x3≤x4+1+(x2+1)) (h2:¬ (x4=x1+x3 - 1)):x3≤x4 - x1:=lin [x0,x1,x2,x3,x4,x1+x3 - 1,x4 - x1] [] [.ne (.x 0) (.a (.a (.x 1) (.x 2)) (.k 1)),.nl (.a (.x 0) (.x 3)) (.a (.a (.x 4) (.k 1)) (.a (.x 2) (.k 1)))] [dN (.x 4) (.x 5),dS (.a (.x 1) (.x 3)) (.k 1) (.x 5),dS (.x 4) (.x 1) (.x 6)] (.nl (.x 3) (.x 6)) (.s (.s (.l 0 [0,1,1,-1,1]) (.l 0 [0,1,1])) (.s (.s (.l 1 [0,-1,0,-1,1]) (.l 1 [1,0,0,-1,1])) (.s (.l 1 [0,-1,1,0,1]) (.l 1 [1,0,1,0,1])))) rfl h0 h1 (Nat.lt_or_gt_of_ne h2) (sub_c (x1+x3) 1) (sub_c x4 x1)
theorem o240 {x0:Nat}:Int.toNat ((x0:Int) - 1 - (-1))=x0:=linN [x0,Int.toNat ((x0:Int) - 1 - (-1))] [] [] [dT (.s (.s (.c (.x 0)) (.k 1)) (.g (.k 1))) (.x 1)] (.x 1) (.x 0) (.s (.l 1 [0,1]) (.l 1 [0,1])) (.s (.l 1 [0,-1]) (.l 1 [1])) rfl (toNat_c ((x0:Int) - 1 - (-1)))
theorem o241 {x0 x1 x2:Nat} (h0:x0=x1+1 - x2):x0≤x1+1 - x2:=lin [x0,x1,x2,x1+1 - x2] [] [.ne (.x 0) (.x 3)] [] (.nl (.x 0) (.x 3)) (.l 1 [1]) rfl h0
theorem o242 {x0 x1 x2:Nat} (h0:Int.toNat ((x0:Int) - 1 - (-1))=x0) (h1:x1 - 1≤x2):x0+x1≤x2+1+Int.toNat ((x0:Int) - 1 - (-1)):=lin [x0,x1,x2,Int.toNat ((x0:Int) - 1 - (-1)),x1 - 1] [] [.ne (.x 3) (.x 0),.nl (.x 4) (.x 2)] [dS (.x 1) (.k 1) (.x 4)] (.nl (.a (.x 0) (.x 1)) (.a (.a (.x 2) (.k 1)) (.x 3))) (.s (.l 1 [0,-1,-1,1]) (.l 1 [1,0,-1])) rfl h0 h1 (sub_c x1 1)
theorem o243 {x0 x1:Nat} (h0:x0 - 1≤x1):x0≤x1+1:=lin [x0,x1,x0 - 1] [] [.nl (.x 2) (.x 1)] [dS (.x 0) (.k 1) (.x 2)] (.nl (.x 0) (.a (.x 1) (.k 1))) (.s (.l 1 [0,-1,1]) (.l 1 [1])) rfl h0 (sub_c x0 1)
theorem o244 {x0 x1 x2:Nat} (h0:x0≤x1):x2+x0≤x2+x1:=lin [x0,x1,x2] [] [.nl (.x 0) (.x 1)] [] (.nl (.a (.x 2) (.x 0)) (.a (.x 2) (.x 1))) (.l 1 [1]) rfl h0
theorem o245 {x0 x1 x2 x3:Nat} (h0:x0=x1+1 - x2) (h1:x3=x0):x3≤x1+1 - x2:=lin [x0,x1,x2,x3,x1+1 - x2] [] [.ne (.x 0) (.x 4),.ne (.x 3) (.x 0)] [] (.nl (.x 3) (.x 4)) (.l 1 [1,1]) rfl h0 h1
theorem o246 {x0:Nat} (h0:x0≤100):x0≤1000:=lin [x0] [] [.nl (.x 0) (.k 100)] [] (.nl (.x 0) (.k 1000)) (.l 1 [1]) rfl h0
theorem o249 {x0 x1:Nat}:Int.toNat ((x0:Int)+(x1:Int) - 1)=x0+x1 - 1:=linN [x0,x1,Int.toNat ((x0:Int)+(x1:Int) - 1),x0+x1 - 1] [] [] [dT (.s (.a (.c (.x 0)) (.c (.x 1))) (.k 1)) (.x 2),dS (.a (.x 0) (.x 1)) (.k 1) (.x 3)] (.x 2) (.x 3) (.s (.s (.l 1 [0,-1,0,1]) (.l 1 [1,0,0,1])) (.l 1 [0,1])) (.s (.s (.l 1 [0,1,0,-1]) (.l 1 [0,1])) (.s (.l 1 [0,1,1]) (.l 1 [0,1]))) rfl (toNat_c ((x0:Int)+(x1:Int) - 1)) (sub_c (x0+x1) 1)
theorem o252 {x0 x1 x2:Nat} (h0:x0≤15) (h1:x1≤100) (h2:x2=x0+x1 - 1):x2≤1000:=lin [x0,x1,x2,x0+x1 - 1] [] [.nl (.x 0) (.k 15),.nl (.x 1) (.k 100),.ne (.x 2) (.x 3)] [dS (.a (.x 0) (.x 1)) (.k 1) (.x 3)] (.nl (.x 2) (.k 1000)) (.s (.l 1 [0,1,1,1,1]) (.l 1 [0,1,0,0,1])) rfl h0 h1 h2 (sub_c (x0+x1) 1)
theorem o256 {x0:Nat}:0+Int.toNat ((x0:Int) - 0)=x0:=linN [x0,Int.toNat ((x0:Int) - 0)] [] [] [dT (.s (.c (.x 0)) (.k 0)) (.x 1)] (.a (.k 0) (.x 1)) (.x 0) (.s (.l 1 [0,1]) (.l 1 [0,1])) (.s (.l 1 [0,-1]) (.l 1 [1])) rfl (toNat_c ((x0:Int) - 0))
theorem o257 {x0 x1 x2:Nat} (h0:x0+x1≤x2):x0≤x2:=lin [x0,x1,x2] [] [.nl (.a (.x 0) (.x 1)) (.x 2)] [] (.nl (.x 0) (.x 2)) (.l 1 [1]) rfl h0
theorem o258 {x0 x1 x2:Nat} (h0:x0+x1≤x2):x1≤x2:=lin [x0,x1,x2] [] [.nl (.a (.x 0) (.x 1)) (.x 2)] [] (.nl (.x 1) (.x 2)) (.l 1 [1]) rfl h0
theorem o259 {x0 x1 x2 x3:Nat} (h0:x0+x1≤x2+1) (h1:x3<x0):x1≤x2 - x3:=lin [x0,x1,x2,x3,x2 - x3] [] [.nl (.a (.x 0) (.x 1)) (.a (.x 2) (.k 1)),.nt (.x 3) (.x 0)] [dS (.x 2) (.x 3) (.x 4)] (.nl (.x 1) (.x 4)) (.s (.l 1 [0,-1,1,1]) (.l 1 [1,0,1,1])) rfl h0 h1 (sub_c x2 x3)
theorem o260 {x0 x1 x2:Nat} (h0:x0+x1≤x2):x0+x1≤x2+1:=lin [x0,x1,x2] [] [.nl (.a (.x 0) (.x 1)) (.x 2)] [] (.nl (.a (.x 0) (.x 1)) (.a (.x 2) (.k 1))) (.l 1 [1]) rfl h0
theorem o261 {x0:Nat} (h0:1≤x0):¬ (x0=0):=fun c0=>lin [x0] [] [.nl (.k 1) (.x 0),.ne (.x 0) (.k 0)] [] .f (.l 0 [1,1]) rfl h0 c0
theorem o262 {x0:Nat}:¬ (x0+1=0):=fun c0=>lin [x0] [] [.ne (.a (.x 0) (.k 1)) (.k 0)] [] .f (.l 0 [1]) rfl c0
theorem o263 {x0:Nat}:1≤x0+1:=lin [x0] [] [] [] (.nl (.k 1) (.a (.x 0) (.k 1))) (.l 1 []) rfl
theorem o264 {x0 x1 x2:Nat} (h0:x0≤x1) (h1:x1≤x2):x0≤x2:=lin [x0,x1,x2] [] [.nl (.x 0) (.x 1),.nl (.x 1) (.x 2)] [] (.nl (.x 0) (.x 2)) (.l 1 [1,1]) rfl h0 h1
theorem o265 {x0 x1 x2 x3:Nat} (h0:x0+x1≤x2+1) (h1:x2≤x3):x0+x1≤x3+1:=lin [x0,x1,x2,x3] [] [.nl (.a (.x 0) (.x 1)) (.a (.x 2) (.k 1)),.nl (.x 2) (.x 3)] [] (.nl (.a (.x 0) (.x 1)) (.a (.x 3) (.k 1))) (.l 1 [1,1]) rfl h0 h1
theorem o266 {x0 x1 x2:Nat} (h0:x0<x1) (h1:x1≤x2):x0≤x2:=lin [x0,x1,x2] [] [.nt (.x 0) (.x 1),.nl (.x 1) (.x 2)] [] (.nl (.x 0) (.x 2)) (.l 1 [1,1]) rfl h0 h1
theorem o274 {x0:Int} {x1:Nat} (h0:Int.natAbs x0≤x1):Int.toNat (x0+(x1:Int))<2*x1+1:=lin [x1,Int.natAbs x0,Int.toNat (x0+(x1:Int))] [x0] [.nl (.x 1) (.x 0)] [dA (.x 0) (.x 1),dT (.a (.x 0) (.c (.x 0))) (.x 2)] (.nt (.x 2) (.a (.m 2 (.x 0)) (.k 1))) (.s (.s (.l 1 [0,1,0,-1,1]) (.l 1 [0,1])) (.s (.l 1 [0,1,1]) (.l 1 [0,1]))) rfl h0 (natAbs_c x0) (toNat_c (x0+(x1:Int)))
theorem o279 {x0 x1 x2:Nat} (h0:x0<x1) (h1:x2<x1):Int.natAbs ((x0:Int) - (x2:Int))<x1:=lin [x0,x1,x2,Int.natAbs ((x0:Int) - (x2:Int))] [] [.nt (.x 0) (.x 1),.nt (.x 2) (.x 1)] [dA (.s (.c (.x 0)) (.c (.x 2))) (.x 3)] (.nt (.x 3) (.x 1)) (.s (.l 1 [0,1,1]) (.l 1 [0,1,0,1])) rfl h0 h1 (natAbs_c ((x0:Int) - (x2:Int)))
theorem o280 {x0:Int} {x1:Nat} {x2:Int} (h0:Int.toNat (x0+(x1:Int))=Int.toNat (x2+(x1:Int))) (h1:Int.natAbs x0≤x1) (h2:Int.natAbs x2≤x1):x0 - x2=0:=linI [x1,Int.toNat (x0+(x1:Int)),Int.toNat (x2+(x1:Int)),Int.natAbs x0,Int.natAbs x2] [x0,x2] [.ne (.x 1) (.x 2),.nl (.x 3) (.x 0),.nl (.x 4) (.x 0)] [dT (.a (.x 0) (.c (.x 0))) (.x 1),dT (.a (.x 1) (.c (.x 0))) (.x 2),dA (.x 0) (.x 3),dA (.x 1) (.x 4)] (.s (.x 0) (.x 1)) (.k 0) (.s (.s (.l 1 [0,1,0,-1,1]) (.s (.s (.l 1 [1,0,0,0,0,1,0,-1,1]) (.l 1 [0,-1,0,0,0,1,0,-1,1,0,1])) (.s (.l 1 [1,0,1]) (.l 1 [0,-1,0,0,0,1,0,-1,1,0,1])))) (.s (.l 1 [1,0,1]) (.s (.s (.l 1 [1,0,0,0,0,0,1]) (.l 1 [0,-1,0,0,0,0,1,0,0,0,1])) (.s (.l 1 [1,0,1]) (.l 1 [0,-1,0,0,0,0,1,0,0,0,1]))))) (.s (.s (.l 1 [0,-1,0,1,-1]) (.l 1 [1,0,1])) (.s (.s (.l 1 [1,0,0,-1,0,1,-1]) (.l 1 [0,-1,0,-1,0,1,-1,1])) (.s (.l 1 [1,0,1]) (.l 1 [0,-1,1,0,0,0,0,1])))) rfl h0 h1 h2 (toNat_c (x0+(x1:Int))) (toNat_c (x2+(x1:Int))) (natAbs_c x0) (natAbs_c x2)
theorem o281 {x0 x1:Nat}:x0<x0+x1+1:=lin [x0,x1] [] [] [] (.nt (.x 0) (.a (.a (.x 0) (.x 1)) (.k 1))) (.l 1 []) rfl
theorem o282 {x0 x1 x2:Nat} (h0:x0<x1):x2+1≤x1+x2 - x0:=lin [x0,x1,x2,x1+x2 - x0] [] [.nt (.x 0) (.x 1)] [dS (.a (.x 1) (.x 2)) (.x 0) (.x 3)] (.nl (.a (.x 2) (.k 1)) (.x 3)) (.s (.l 1 [0,-1,1]) (.l 0 [1,0,1])) rfl h0 (sub_c (x1+x2) x0)
theorem o283 {x0 x1:Nat} (h0:x0≠x1) (h1:¬ (x0<x1)):x1+1≤x0:=lin [x0,x1] [] [.nl (.x 1) (.x 0)] [dN (.x 0) (.x 1)] (.nl (.a (.x 1) (.k 1)) (.x 0)) (.s (.l 0 [1,1]) (.l 1 [1])) rfl (Nat.not_lt.mp h1) (Nat.lt_or_gt_of_ne h0)
theorem o284 {x0 x1:Nat}:x0≤x1+x0:=lin [x0,x1] [] [] [] (.nl (.x 0) (.a (.x 1) (.x 0))) (.l 1 []) rfl
theorem o288 {x0 x1:Nat} (h0:¬ (x0=0)):x1+1≤x0+x1:=lin [x0,x1] [] [] [dN (.x 0) (.k 0)] (.nl (.a (.x 1) (.k 1)) (.a (.x 0) (.x 1))) (.s (.l 0 [1]) (.l 1 [1])) rfl (Nat.lt_or_gt_of_ne h0)
theorem o289 {x0:Nat} (h0:¬ (x0=0)):0+1≤x0:=lin [x0] [] [] [dN (.x 0) (.k 0)] (.nl (.a (.k 0) (.k 1)) (.x 0)) (.s (.l 0 [1]) (.l 1 [1])) rfl (Nat.lt_or_gt_of_ne h0)
theorem o291 {x0 x1:Nat} (h0:0<x0):x0+x1=x0+x1 - 1+1:=linN [x0,x1,x0+x1 - 1] [] [.nt (.k 0) (.x 0)] [dS (.a (.x 0) (.x 1)) (.k 1) (.x 2)] (.a (.x 0) (.x 1)) (.a (.x 2) (.k 1)) (.s (.l 1 [0,-1]) (.l 1 [1])) (.s (.l 1 [0,1]) (.l 1 [0,1,1])) rfl h0 (sub_c (x0+x1) 1)
theorem o294 {x0 x1:Nat} (h0:x0≤x1):¬ (x1<x0):=fun c0=>lin [x0,x1] [] [.nl (.x 0) (.x 1),.nt (.x 1) (.x 0)] [] .f (.l 0 [1,1]) rfl h0 c0
theorem o295 {x0 x1 x2 x3:Nat} (h0:x0+x1=x2+1) (h1:x3<x2+1) (h2:¬ (x3<x0)):x3 - x0<x1:=lin [x0,x1,x2,x3,x3 - x0] [] [.ne (.a (.x 0) (.x 1)) (.a (.x 2) (.k 1)),.nt (.x 3) (.a (.x 2) (.k 1)),.nl (.x 0) (.x 3)] [dS (.x 3) (.x 0) (.x 4)] (.nt (.x 4) (.x 1)) (.s (.l 1 [0,1,-1,1]) (.l 1 [0,1,-1,1,1])) rfl h0 h1 (Nat.not_lt.mp h2) (sub_c x3 x0)
theorem o296 {x0 x1:Nat} (h0:¬ (x0<x1)):x1+(x0 - x1)=x0:=linN [x0,x1,x0 - x1] [] [.nl (.x 1) (.x 0)] [dS (.x 0) (.x 1) (.x 2)] (.a (.x 1) (.x 2)) (.x 0) (.s (.l 1 [0,1]) (.l 1 [0,1,1])) (.s (.l 1 [0,-1]) (.l 1 [1])) rfl (Nat.not_lt.mp h0) (sub_c x0 x1)
theorem o297 {x0 x1:Nat} (h0:x0≤x1):x1=x0+(x1 - x0):=linN [x0,x1,x1 - x0] [] [.nl (.x 0) (.x 1)] [dS (.x 1) (.x 0) (.x 2)] (.x 1) (.a (.x 0) (.x 2)) (.s (.l 1 [0,-1]) (.l 1 [1])) (.s (.l 1 [0,1]) (.l 1 [0,1,1])) rfl h0 (sub_c x1 x0)
theorem o298 {x0 x1:Nat}:¬ (x0+x1<x0):=fun c0=>lin [x0,x1] [] [.nt (.a (.x 0) (.x 1)) (.x 0)] [] .f (.l 0 [1]) rfl c0
theorem o299 {x0 x1 x2 x3 x4 x5:Nat} (h0:¬ (x0<x1)) (h1:x2+x3≤x1+1) (h2:x4<x2):x3+x5≤x5+x0 - x4:=lin [x0,x1,x2,x3,x4,x5,x5+x0 - x4] [] [.nl (.x 1) (.x 0),.nl (.a (.x 2) (.x 3)) (.a (.x 1) (.k 1)),.nt (.x 4) (.x 2)] [dS (.a (.x 5) (.x 0)) (.x 4) (.x 6)] (.nl (.a (.x 3) (.x 5)) (.x 6)) (.s (.l 1 [0,-1,1,1,1]) (.l 1 [1,0,1,1,1])) rfl (Nat.not_lt.mp h0) h1 h2 (sub_c (x5+x0) x4)
theorem o303 {x0 x1:Nat} (h0:¬ (x0≤x1)):¬ (x0<x1+1):=fun c0=>lin [x0,x1] [] [.nt (.x 1) (.x 0),.nt (.x 0) (.a (.x 1) (.k 1))] [] .f (.l 0 [1,1]) rfl (Nat.not_le.mp h0) c0
theorem o304 {x0 x1 x2:Nat} (h0:x0+x1≤x2) (h1:¬ (x2=x1+x0)):x0+(x1+1)≤x2:=lin [x0,x1,x2] [] [.nl (.a (.x 0) (.x 1)) (.x 2)] [dN (.x 2) (.a (.x 1) (.x 0))] (.nl (.a (.x 0) (.a (.x 1) (.k 1))) (.x 2)) (.s (.l 0 [1,1]) (.l 1 [1])) rfl h0 (Nat.lt_or_gt_of_ne h1)
theorem o305 {x0 x1 x2:Nat} (h0:x0+x1≤x2) (h1:¬ (x2=x1+x0)):x0+1≤x2 - x1:=lin [x0,x1,x2,x2 - x1] [] [.nl (.a (.x 0) (.x 1)) (.x 2)] [dN (.x 2) (.a (.x 1) (.x 0)),dS (.x 2) (.x 1) (.x 3)] (.nl (.a (.x 0) (.k 1)) (.x 3)) (.s (.l 0 [1,1]) (.s (.l 1 [0,-1,1]) (.l 0 [1,0,1]))) rfl h0 (Nat.lt_or_gt_of_ne h1) (sub_c x2 x1)
theorem o306 {x0 x1:Nat} (h0:x0<x1):¬ (x0=x1):=fun c0=>lin [x0,x1] [] [.nt (.x 0) (.x 1),.ne (.x 0) (.x 1)] [] .f (.l 0 [1,-1]) rfl h0 c0
theorem o308 {x0 x1:Nat} (h0:x0+1≤x1):x0≤x1:=lin [x0,x1] [] [.nl (.a (.x 0) (.k 1)) (.x 1)] [] (.nl (.x 0) (.x 1)) (.l 1 [1]) rfl h0
theorem o309 {x0 x1:Nat} (h0:x0+1≤x1):¬ (x1=x0):=fun c0=>lin [x0,x1] [] [.nl (.a (.x 0) (.k 1)) (.x 1),.ne (.x 1) (.x 0)] [] .f (.l 0 [1,1]) rfl h0 c0
theorem o310 {x0 x1:Nat} (h0:x0<x1):x0≤x1:=lin [x0,x1] [] [.nt (.x 0) (.x 1)] [] (.nl (.x 0) (.x 1)) (.l 1 [1]) rfl h0
theorem o311 {x0 x1:Nat} (h0:x0<x1):x1=x1 - x0+x0:=linN [x0,x1,x1 - x0] [] [.nt (.x 0) (.x 1)] [dS (.x 1) (.x 0) (.x 2)] (.x 1) (.a (.x 2) (.x 0)) (.s (.l 1 [0,-1]) (.l 0 [1,0,1])) (.s (.l 1 [0,1]) (.l 0 [1,0,1])) rfl h0 (sub_c x1 x0)
theorem o312 {x0 x1:Nat} (h0:x0<x1):x1 - x0+x0=x1:=linN [x0,x1,x1 - x0] [] [.nt (.x 0) (.x 1)] [dS (.x 1) (.x 0) (.x 2)] (.a (.x 2) (.x 0)) (.x 1) (.s (.l 1 [0,1]) (.l 0 [1,0,1])) (.s (.l 1 [0,-1]) (.l 0 [1,0,1])) rfl h0 (sub_c x1 x0)
theorem o313 {x0 x1 x2:Nat} (h0:x0<x1):x2 - x1≤x2 - x0:=lin [x0,x1,x2,x2 - x1,x2 - x0] [] [.nt (.x 0) (.x 1)] [dS (.x 2) (.x 1) (.x 3),dS (.x 2) (.x 0) (.x 4)] (.nl (.x 3) (.x 4)) (.s (.s (.l 1 [0,-1,0,1,1]) (.l 0 [1,0,1,0,1])) (.l 1 [0,1])) rfl h0 (sub_c x2 x1) (sub_c x2 x0)
theorem o314 {x0 x1 x2:Nat} (h0:x0<x1) (h1:x1≤x2):x2 - x0=x1 - x0+(x2 - x1):=linN [x0,x1,x2,x2 - x0,x1 - x0,x2 - x1] [] [.nt (.x 0) (.x 1),.nl (.x 1) (.x 2)] [dS (.x 2) (.x 0) (.x 3),dS (.x 1) (.x 0) (.x 4),dS (.x 2) (.x 1) (.x 5)] (.x 3) (.a (.x 4) (.x 5)) (.s (.s (.s (.l 1 [0,-1,0,-1,0,1]) (.l 1 [1,0,0,-1,0,1])) (.l 0 [1,0,0,0,1])) (.l 1 [0,1])) (.s (.s (.s (.l 1 [0,1,0,1,0,-1]) (.l 1 [0,1,0,1,0,-1,0,1])) (.l 0 [1,0,0,0,1])) (.l 0 [1,0,1,1])) rfl h0 h1 (sub_c x2 x0) (sub_c x1 x0) (sub_c x2 x1)
theorem o315 {x0 x1 x2 x3:Nat} (h0:x0<x1) (h1:x2 - x0+1≤x3):x2 - x1≤x3:=lin [x0,x1,x2,x3,x2 - x0,x2 - x1] [] [.nt (.x 0) (.x 1),.nl (.a (.x 4) (.k 1)) (.x 3)] [dS (.x 2) (.x 0) (.x 4),dS (.x 2) (.x 1) (.x 5)] (.nl (.x 5) (.x 3)) (.s (.s (.l 1 [0,1,0,-1,1,1]) (.l 1 [0,1])) (.s (.l 0 [1,0,1,0,1]) (.l 1 [0,1]))) rfl h0 h1 (sub_c x2 x0) (sub_c x2 x1)
theorem o316 {x0 x1 x2:Nat} (h0:x0<x1) (h1:x1≤x2):x1 - x0+1+(x2 - x1+1)≤x2 - x0+1+1:=lin [x0,x1,x2,x1 - x0,x2 - x1,x2 - x0] [] [.nt (.x 0) (.x 1),.nl (.x 1) (.x 2)] [dS (.x 1) (.x 0) (.x 3),dS (.x 2) (.x 1) (.x 4),dS (.x 2) (.x 0) (.x 5)] (.nl (.a (.a (.x 3) (.k 1)) (.a (.x 4) (.k 1))) (.a (.a (.x 5) (.k 1)) (.k 1))) (.s (.s (.s (.l 1 [0,-1,0,1,0,1]) (.l 1 [1,0,0,1,0,1])) (.s (.l 1 [0,-1,0,1,0,1,0,1]) (.l 0 [1,0,0,0,0,0,1,1]))) (.l 0 [1,0,1])) rfl h0 h1 (sub_c x1 x0) (sub_c x2 x1) (sub_c x2 x0)
theorem o317 {x0 x1 x2:Nat} (h0:x0<x1) (h1:x1≤x2):x2 - x1+1≤x2 - x0:=lin [x0,x1,x2,x2 - x1,x2 - x0] [] [.nt (.x 0) (.x 1),.nl (.x 1) (.x 2)] [dS (.x 2) (.x 1) (.x 3),dS (.x 2) (.x 0) (.x 4)] (.nl (.a (.x 3) (.k 1)) (.x 4)) (.s (.s (.l 1 [0,-1,0,1,1]) (.l 0 [1,0,1,0,1])) (.s (.l 1 [0,-1,0,1,1,1]) (.l 0 [1,0,0,0,1,1]))) rfl h0 h1 (sub_c x2 x1) (sub_c x2 x0)
theorem o318 {x0 x1 x2:Nat} (h0:x0 - x1+1+x1≤x2):x0+1≤x2:=lin [x0,x1,x2,x0 - x1] [] [.nl (.a (.a (.x 3) (.k 1)) (.x 1)) (.x 2)] [dS (.x 0) (.x 1) (.x 3)] (.nl (.a (.x 0) (.k 1)) (.x 2)) (.s (.l 1 [0,-1,1]) (.l 1 [1,0,1])) rfl h0 (sub_c x0 x1)
theorem o319 {x0 x1:Nat}:0<x0 - x1+1:=lin [x0,x1,x0 - x1] [] [] [] (.nt (.k 0) (.a (.x 2) (.k 1))) (.l 1 []) rfl
theorem o320 {x0 x1 x2 x3:Nat} (h0:x0+x1+2≤x2):x0 - x3+1+(x1 - x3+1)≤x2:=lin [x0,x1,x2,x3,x0 - x3,x1 - x3] [] [.nl (.a (.a (.x 0) (.x 1)) (.k 2)) (.x 2)] [dS (.x 0) (.x 3) (.x 4),dS (.x 1) (.x 3) (.x 5)] (.nl (.a (.a (.x 4) (.k 1)) (.a (.x 5) (.k 1))) (.x 2)) (.s (.s (.l 1 [0,1,0,1,1]) (.l 1 [0,1,0,1,1])) (.s (.l 1 [0,1,0,1,1]) (.l 1 [0,1,0,1,1]))) rfl h0 (sub_c x0 x3) (sub_c x1 x3)
theorem o321 {x0 x1 x2:Nat}:x0 - x1+1+(x2 - x1+1)≤x0+x2+2:=lin [x0,x1,x2,x0 - x1,x2 - x1] [] [] [dS (.x 0) (.x 1) (.x 3),dS (.x 2) (.x 1) (.x 4)] (.nl (.a (.a (.x 3) (.k 1)) (.a (.x 4) (.k 1))) (.a (.a (.x 0) (.x 2)) (.k 2))) (.s (.s (.l 1 [0,1,0,1]) (.l 1 [0,1,0,1])) (.s (.l 1 [0,1,0,1]) (.l 1 [0,1,0,1]))) rfl (sub_c x0 x1) (sub_c x2 x1)
theorem o322 {x0 x1:Nat}:x0+x1+3=x0+x1+2+1:=linN [x0,x1] [] [] [] (.a (.a (.x 0) (.x 1)) (.k 3)) (.a (.a (.a (.x 0) (.x 1)) (.k 2)) (.k 1)) (.l 1 []) (.l 1 []) rfl
theorem o324 {x0 x1 x2 x3:Nat} (h0:x0+x1+2≤x2):x0 - x3+1≤x2:=lin [x0,x1,x2,x3,x0 - x3] [] [.nl (.a (.a (.x 0) (.x 1)) (.k 2)) (.x 2)] [dS (.x 0) (.x 3) (.x 4)] (.nl (.a (.x 4) (.k 1)) (.x 2)) (.s (.l 1 [0,1,1]) (.l 1 [0,1,1])) rfl h0 (sub_c x0 x3)
theorem o325 {x0 x1 x2 x3:Nat} (h0:x0+x1+2≤x2):x1 - x3+1≤x2:=lin [x0,x1,x2,x3,x1 - x3] [] [.nl (.a (.a (.x 0) (.x 1)) (.k 2)) (.x 2)] [dS (.x 1) (.x 3) (.x 4)] (.nl (.a (.x 4) (.k 1)) (.x 2)) (.s (.l 1 [0,1,1]) (.l 1 [0,1,1])) rfl h0 (sub_c x1 x3)
theorem o329 {x0 x1 x2:Nat}:x0+x1≤x1+x0+x2+1:=lin [x0,x1,x2] [] [] [] (.nl (.a (.x 0) (.x 1)) (.a (.a (.a (.x 1) (.x 0)) (.x 2)) (.k 1))) (.l 1 []) rfl
theorem o332 {x0:Int} (h0:x0≠0):1≤Int.natAbs x0:=lin [Int.natAbs x0] [x0] [] [dI (.x 0) (.k 0),dA (.x 0) (.x 0)] (.nl (.k 1) (.x 0)) (.s (.s (.l 0 [1,0,1]) (.l 1 [0,-1,1])) (.s (.l 1 [0,-1,1]) (.l 0 [1,0,1]))) rfl (Int.lt_or_gt_of_ne h0) (natAbs_c x0)
theorem o333 {x0:Int} {x1:Nat} (h0:Int.natAbs x0<x1) (h1:1≤Int.natAbs x0):1<x1:=lin [x1,Int.natAbs x0] [x0] [.nt (.x 1) (.x 0),.nl (.k 1) (.x 1)] [] (.nt (.k 1) (.x 0)) (.l 1 [1,1]) rfl h0 h1
theorem o334 {x0:Int} {x1:Nat} (h0:x0≠0) (h1:Int.natAbs x0<x1):1<x1:=lin [x1,Int.natAbs x0] [x0] [.nt (.x 1) (.x 0)] [dI (.x 0) (.k 0),dA (.x 0) (.x 1)] (.nt (.k 1) (.x 0)) (.s (.s (.l 0 [1,0,1]) (.l 1 [0,-1,1,1])) (.s (.l 1 [0,-1,1,1]) (.l 0 [1,0,1]))) rfl h1 (Int.lt_or_gt_of_ne h0) (natAbs_c x0)
theorem o335 {x0 x1:Nat} (h0:x0 - 1+1≤x1):x0≤x1:=lin [x0,x1,x0 - 1] [] [.nl (.a (.x 2) (.k 1)) (.x 1)] [dS (.x 0) (.k 1) (.x 2)] (.nl (.x 0) (.x 1)) (.s (.l 1 [0,-1,1]) (.l 1 [1,0,1])) rfl h0 (sub_c x0 1)
theorem o336 {x0 x1:Nat} (h0:x0<x1):x0≤x1 - 1:=lin [x0,x1,x1 - 1] [] [.nt (.x 0) (.x 1)] [dS (.x 1) (.k 1) (.x 2)] (.nl (.x 0) (.x 2)) (.s (.l 1 [0,-1,1]) (.l 1 [1,0,1])) rfl h0 (sub_c x1 1)
theorem o337 {x0 x1:Nat} (h0:x0≤15) (h1:x1≤15):x1 - 1+(x0 - 1)+2≤2 ^ 5:=lin [x0,x1,x1 - 1,x0 - 1,2 ^ 5] [] [.nl (.x 0) (.k 15),.nl (.x 1) (.k 15),.ne (.x 4) (.k 32)] [dS (.x 1) (.k 1) (.x 2),dS (.x 0) (.k 1) (.x 3)] (.nl (.a (.a (.x 2) (.x 3)) (.k 2)) (.x 4)) (.s (.s (.l 1 [0,1,0,1,1,1,-1]) (.l 1 [0,1,0,1,0,1,-1])) (.s (.l 1 [0,1,0,1,1,0,-1]) (.l 1 [0,1,0,1,0,0,-1]))) rfl h0 h1 (rfl:2 ^ 5=32) (sub_c x1 1) (sub_c x0 1)
theorem o338 {x0 x1:Nat} (h0:x0≤15) (h1:x1≤15):x1 - 1+(x0 - 1)+3≤33:=lin [x0,x1,x1 - 1,x0 - 1] [] [.nl (.x 0) (.k 15),.nl (.x 1) (.k 15)] [dS (.x 1) (.k 1) (.x 2),dS (.x 0) (.k 1) (.x 3)] (.nl (.a (.a (.x 2) (.x 3)) (.k 3)) (.k 33)) (.s (.s (.l 1 [0,1,0,1,1,1]) (.l 1 [0,1,0,1,0,1])) (.s (.l 1 [0,1,0,1,1]) (.l 1 [0,1,0,1]))) rfl h0 h1 (sub_c x1 1) (sub_c x0 1)
theorem o340 {x0 x1:Nat} (h0:x0≤15) (h1:x1≤15):1+max x0 x1≤16:=lin [x0,x1,max x0 x1] [] [.nl (.x 0) (.k 15),.nl (.x 1) (.k 15)] [dX (.x 0) (.x 1) (.x 2)] (.nl (.a (.k 1) (.x 2)) (.k 16)) (.s (.l 1 [0,1,0,1]) (.l 1 [0,1,1])) rfl h0 h1 (maxN_c x0 x1)
theorem o341 {x0 x1:Nat} (h0:x0≤15) (h1:x1≤15):0+max x0 x1≤16:=lin [x0,x1,max x0 x1] [] [.nl (.x 0) (.k 15),.nl (.x 1) (.k 15)] [dX (.x 0) (.x 1) (.x 2)] (.nl (.a (.k 0) (.x 2)) (.k 16)) (.s (.l 1 [0,1,0,1]) (.l 1 [0,1,1])) rfl h0 h1 (maxN_c x0 x1)
theorem o344 {x0:Int} (h0:x0≠0) (h1:Int.natAbs x0<1):1≤0:=lin [Int.natAbs x0] [x0] [.nt (.x 0) (.k 1)] [dI (.x 0) (.k 0),dA (.x 0) (.x 0)] (.nl (.k 1) (.k 0)) (.s (.s (.l 0 [1,0,1]) (.l 0 [0,-1,1,1])) (.s (.l 0 [0,-1,1,1]) (.l 0 [1,0,1]))) rfl h1 (Int.lt_or_gt_of_ne h0) (natAbs_c x0)
theorem o345 {x0:Nat} (h0:¬ (x0=0)):1≤x0:=lin [x0] [] [] [dN (.x 0) (.k 0)] (.nl (.k 1) (.x 0)) (.s (.l 0 [1]) (.l 1 [1])) rfl (Nat.lt_or_gt_of_ne h0)
theorem o347:1≤1:=lin [] [] [] [] (.nl (.k 1) (.k 1)) (.l 1 []) rfl
theorem o348 {x0 x1:Nat} (h0:1≤x0) (h1:x0≤x1):1≤x1:=lin [x0,x1] [] [.nl (.k 1) (.x 0),.nl (.x 0) (.x 1)] [] (.nl (.k 1) (.x 1)) (.l 1 [1,1]) rfl h0 h1
theorem o349 {x0 x1:Nat} (h0:1≤x0) (h1:x1≤15):x1 - x0≤14:=lin [x0,x1,x1 - x0] [] [.nl (.k 1) (.x 0),.nl (.x 1) (.k 15)] [dS (.x 1) (.x 0) (.x 2)] (.nl (.x 2) (.k 14)) (.s (.l 1 [0,1,1,1]) (.l 1 [0,1])) rfl h0 h1 (sub_c x1 x0)
theorem o350 {x0 x1 x2:Nat} (h0:x0+max x1 x2≤16):x0≤16 - x2:=lin [x0,x1,x2,max x1 x2,16 - x2] [] [.nl (.a (.x 0) (.x 3)) (.k 16)] [dX (.x 1) (.x 2) (.x 3),dS (.k 16) (.x 2) (.x 4)] (.nl (.x 0) (.x 4)) (.s (.s (.l 1 [0,-1,0,-1,1]) (.l 1 [1,0,0,-1,1])) (.s (.l 1 [0,-1,1,-1,1]) (.l 1 [1,0,1,-1,1]))) rfl h0 (maxN_c x1 x2) (sub_c 16 x2)
theorem o351 {x0 x1 x2 x3 x4:Nat} (h0:x0≤x1+1 - x2) (h1:x3≤x0) (h2:x4+max x1 x2≤16):x3+x4≤16 - x2+1:=lin [x0,x1,x2,x3,x4,x1+1 - x2,max x1 x2,16 - x2] [] [.nl (.x 0) (.x 5),.nl (.x 3) (.x 0),.nl (.a (.x 4) (.x 6)) (.k 16)] [dS (.a (.x 1) (.k 1)) (.x 2) (.x 5),dX (.x 1) (.x 2) (.x 6),dS (.k 16) (.x 2) (.x 7)] (.nl (.a (.x 3) (.x 4)) (.a (.x 7) (.k 1))) (.s (.s (.s (.l 1 [0,-1,1,-1,0,1,1,1,1]) (.l 1 [1,0,1,-1,0,1,1,1,1])) (.s (.l 1 [0,-1,0,-1,0,1,1,1,1]) (.l 1 [1,0,0,-1,0,1,1,1,1]))) (.s (.s (.l 1 [0,-1,0,-1,0,1,1,1,1]) (.l 1 [1,0,0,-1,0,1,1,1,1])) (.l 0 [1,0,1]))) rfl h0 h1 h2 (sub_c (x1+1) x2) (maxN_c x1 x2) (sub_c 16 x2)
theorem o352 {x0 x1 x2 x3 x4:Nat} (h0:x0≤x1+1 - x2) (h1:x3≤x0) (h2:x1 - x2+1≤x4):x3≤x4:=lin [x0,x1,x2,x3,x4,x1+1 - x2,x1 - x2] [] [.nl (.x 0) (.x 5),.nl (.x 3) (.x 0),.nl (.a (.x 6) (.k 1)) (.x 4)] [dS (.a (.x 1) (.k 1)) (.x 2) (.x 5),dS (.x 1) (.x 2) (.x 6)] (.nl (.x 3) (.x 4)) (.s (.s (.l 1 [0,-1,0,1,1,1,1]) (.l 1 [1,0,0,1,1,1,1])) (.l 1 [0,1,1,1])) rfl h0 h1 h2 (sub_c (x1+1) x2) (sub_c x1 x2)
theorem o354 {x0 x1:Nat} (h0:x0≤x1 - 1) (h1:x1≤15):x0≤15:=lin [x0,x1,x1 - 1] [] [.nl (.x 0) (.x 2),.nl (.x 1) (.k 15)] [dS (.x 1) (.k 1) (.x 2)] (.nl (.x 0) (.k 15)) (.s (.l 1 [0,1,1,1]) (.l 1 [0,1,1])) rfl h0 h1 (sub_c x1 1)
theorem o355 {x0 x1 x2 x3:Nat} (h0:x0≤x1 - 1) (h1:x2+max x3 x1≤16):x2+max x1 x0≤16:=lin [x0,x1,x2,x3,x1 - 1,max x3 x1,max x1 x0] [] [.nl (.x 0) (.x 4),.nl (.a (.x 2) (.x 5)) (.k 16)] [dS (.x 1) (.k 1) (.x 4),dX (.x 3) (.x 1) (.x 5),dX (.x 1) (.x 0) (.x 6)] (.nl (.a (.x 2) (.x 6)) (.k 16)) (.s (.s (.s (.l 0 [1,0,0,0,0,1,1]) (.l 1 [0,1,0,-1,0,0,0,1])) (.s (.l 0 [1,0,0,0,0,1,1]) (.l 1 [0,1,1,-1,0,0,0,1]))) (.s (.s (.l 1 [0,1,0,0,0,1,1,1]) (.l 1 [0,1,0,-1,0,0,0,1])) (.s (.l 1 [0,1,0,0,0,1,1,1]) (.l 1 [0,1,1,-1,0,0,0,1])))) rfl h0 h1 (sub_c x1 1) (maxN_c x3 x1) (maxN_c x1 x0)
theorem o356 {x0 x1 x2:Nat} (h0:x0≤x1 - 1) (h1:x1≤15) (h2:x2≤16 - x1):x2+max x1 x0≤16:=lin [x0,x1,x2,x1 - 1,16 - x1,max x1 x0] [] [.nl (.x 0) (.x 3),.nl (.x 1) (.k 15),.nl (.x 2) (.x 4)] [dS (.x 1) (.k 1) (.x 3),dS (.k 16) (.x 1) (.x 4),dX (.x 1) (.x 0) (.x 5)] (.nl (.a (.x 2) (.x 5)) (.k 16)) (.s (.s (.s (.l 0 [1,0,0,0,0,1,1]) (.l 1 [0,1,0,1,0,0,0,0,1])) (.l 0 [1,0,0,0,0,1])) (.s (.s (.l 1 [0,1,0,1,0,1,1,0,1]) (.l 1 [0,1,0,1,0,0,0,0,1])) (.l 0 [1,0,1]))) rfl h0 h1 h2 (sub_c x1 1) (sub_c 16 x1) (maxN_c x1 x0)
theorem o357 {x0 x1:Nat} (h0:1≤x0) (h1:x1≤x0 - 1):x1<x0:=lin [x0,x1,x0 - 1] [] [.nl (.k 1) (.x 0),.nl (.x 1) (.x 2)] [dS (.x 0) (.k 1) (.x 2)] (.nt (.x 1) (.x 0)) (.s (.l 1 [0,1,0,1]) (.l 1 [0,1,1,1])) rfl h0 h1 (sub_c x0 1)
theorem o359 {x0 x1 x2 x3:Nat} (h0:x0≤x1+1 - x2) (h1:x3≤x0) (h2:x1<x2):x3=0:=linN [x0,x1,x2,x3,x1+1 - x2] [] [.nl (.x 0) (.x 4),.nl (.x 3) (.x 0),.nt (.x 1) (.x 2)] [dS (.a (.x 1) (.k 1)) (.x 2) (.x 4)] (.x 3) (.k 0) (.s (.l 1 [0,1,1,1,1]) (.l 1 [0,1,1,1])) (.l 1 []) rfl h0 h1 h2 (sub_c (x1+1) x2)
theorem o360 {x0 x1 x2:Nat} (h0:x0≤x1 - 1) (h1:¬ (x2<x1)):x0≤x2:=lin [x0,x1,x2,x1 - 1] [] [.nl (.x 0) (.x 3),.nl (.x 1) (.x 2)] [dS (.x 1) (.k 1) (.x 3)] (.nl (.x 0) (.x 2)) (.s (.l 1 [0,1,1,1]) (.l 1 [0,1,1])) rfl h0 (Nat.not_lt.mp h1) (sub_c x1 1)
theorem o361 {x0 x1 x2:Nat} (h0:x0+1≤x1) (h1:x1+1≤x2):x0+1≤x2:=lin [x0,x1,x2] [] [.nl (.a (.x 0) (.k 1)) (.x 1),.nl (.a (.x 1) (.k 1)) (.x 2)] [] (.nl (.a (.x 0) (.k 1)) (.x 2)) (.l 1 [1,1]) rfl h0 h1
theorem o362 {x0 x1:Nat} (h0:1≤x0) (h1:¬ (x1<x0)):x0 - 1<x1:=lin [x0,x1,x0 - 1] [] [.nl (.k 1) (.x 0),.nl (.x 0) (.x 1)] [dS (.x 0) (.k 1) (.x 2)] (.nt (.x 2) (.x 1)) (.s (.l 1 [0,1,0,1]) (.l 1 [0,1,1,1])) rfl h0 (Nat.not_lt.mp h1) (sub_c x0 1)
theorem o363 {x0 x1 x2:Nat} (h0:x0 - 1+(x1+1 - x0)≤x2):x1≤x2:=lin [x0,x1,x2,x0 - 1,x1+1 - x0] [] [.nl (.a (.x 3) (.x 4)) (.x 2)] [dS (.x 0) (.k 1) (.x 3),dS (.a (.x 1) (.k 1)) (.x 0) (.x 4)] (.nl (.x 1) (.x 2)) (.s (.s (.l 1 [0,-1,0,-1,1]) (.l 1 [1,0,0,-1,1])) (.s (.l 1 [0,-1,1,0,1]) (.l 1 [1,0,1]))) rfl h0 (sub_c x0 1) (sub_c (x1+1) x0)
theorem o364 {x0 x1:Nat} (h0:1≤x0) (h1:x1≤15):x1+1 - x0≤15:=lin [x0,x1,x1+1 - x0] [] [.nl (.k 1) (.x 0),.nl (.x 1) (.k 15)] [dS (.a (.x 1) (.k 1)) (.x 0) (.x 2)] (.nl (.x 2) (.k 15)) (.s (.l 1 [0,1,1,1]) (.l 1 [0,1])) rfl h0 h1 (sub_c (x1+1) x0)
theorem o366 {x0 x1:Nat} (h0:x0<x1):¬ (x1<x0):=fun c0=>lin [x0,x1] [] [.nt (.x 0) (.x 1),.nt (.x 1) (.x 0)] [] .f (.l 0 [1,1]) rfl h0 c0
theorem o367 {x0 x1:Nat} (h0:1≤x0):x1 - x0+1≤x1 - 1 - (x0 - 1)+1:=lin [x0,x1,x1 - x0,x1 - 1 - (x0 - 1),x1 - 1,x0 - 1] [] [.nl (.k 1) (.x 0)] [dS (.x 1) (.x 0) (.x 2),dS (.x 1) (.k 1) (.x 4),dS (.x 0) (.k 1) (.x 5),dS (.x 4) (.x 5) (.x 3)] (.nl (.a (.x 2) (.k 1)) (.a (.x 3) (.k 1))) (.s (.s (.s (.s (.l 1 [0,-1,0,1,0,-1,0,1]) (.l 1 [1,0,0,1,0,-1,0,1])) (.s (.l 1 [0,-1,0,1,0,-1,0,1,1]) (.l 1 [1,0,0,1,0,-1,0,1,1]))) (.l 1 [1,0,0,1,1])) (.l 1 [0,1])) rfl h0 (sub_c x1 x0) (sub_c x1 1) (sub_c x0 1) (sub_c (x1 - 1) (x0 - 1))
theorem o368 {x0 x1 x2:Nat} (h0:x0<x1):4*(x2 - x1)+40≤4*(x2 - x0)+40:=lin [x0,x1,x2,x2 - x1,x2 - x0] [] [.nt (.x 0) (.x 1)] [dS (.x 2) (.x 1) (.x 3),dS (.x 2) (.x 0) (.x 4)] (.nl (.a (.m 4 (.x 3)) (.k 40)) (.a (.m 4 (.x 4)) (.k 40))) (.s (.s (.l 1 [0,-4,0,4,4]) (.l 0 [1,0,1,0,1])) (.l 1 [0,4])) rfl h0 (sub_c x2 x1) (sub_c x2 x0)
theorem o369 {x0 x1 x2:Nat} (h0:x0≤x1 - 1) (h1:x1≤x2):x0≤x2:=lin [x0,x1,x2,x1 - 1] [] [.nl (.x 0) (.x 3),.nl (.x 1) (.x 2)] [dS (.x 1) (.k 1) (.x 3)] (.nl (.x 0) (.x 2)) (.s (.l 1 [0,1,1,1]) (.l 1 [0,1,1])) rfl h0 h1 (sub_c x1 1)
theorem o370 {x0 x1:Nat} (h0:1≤x0) (h1:x0≤x1):x0 - 1<x1:=lin [x0,x1,x0 - 1] [] [.nl (.k 1) (.x 0),.nl (.x 0) (.x 1)] [dS (.x 0) (.k 1) (.x 2)] (.nt (.x 2) (.x 1)) (.s (.l 1 [0,1,0,1]) (.l 1 [0,1,1,1])) rfl h0 h1 (sub_c x0 1)
theorem o371 {x0 x1 x2:Nat} (h0:x0 - 1+(x1 - x0+1)≤x2):x1≤x2:=lin [x0,x1,x2,x0 - 1,x1 - x0] [] [.nl (.a (.x 3) (.a (.x 4) (.k 1))) (.x 2)] [dS (.x 0) (.k 1) (.x 3),dS (.x 1) (.x 0) (.x 4)] (.nl (.x 1) (.x 2)) (.s (.s (.l 1 [0,-1,0,-1,1]) (.l 1 [1,0,0,-1,1])) (.s (.l 1 [0,-1,1,0,1]) (.l 1 [1,0,1,0,1]))) rfl h0 (sub_c x0 1) (sub_c x1 x0)
theorem o372 {x0 x1 x2:Nat} (h0:x0<x1) (h1:x1≤x2):4*(x2 - x1)+40+(x1 - x0+1)+2≤4*(x2 - x0)+40:=lin [x0,x1,x2,x2 - x1,x1 - x0,x2 - x0] [] [.nt (.x 0) (.x 1),.nl (.x 1) (.x 2)] [dS (.x 2) (.x 1) (.x 3),dS (.x 1) (.x 0) (.x 4),dS (.x 2) (.x 0) (.x 5)] (.nl (.a (.a (.a (.m 4 (.x 3)) (.k 40)) (.a (.x 4) (.k 1))) (.k 2)) (.a (.m 4 (.x 5)) (.k 40))) (.s (.s (.s (.l 1 [0,-4,0,1,0,4,3]) (.l 0 [1,0,0,0,1,0,1])) (.l 0 [1,0,0,0,1])) (.s (.s (.l 1 [0,-4,0,1,0,4,3,4]) (.l 0 [1,0,0,0,0,0,1,1])) (.l 0 [1,0,0,0,1]))) rfl h0 h1 (sub_c x2 x1) (sub_c x1 x0) (sub_c x2 x0)
theorem o374 {x0 x1:Nat} (h0:x0+max x1 x1≤16):x0+0≤16:=lin [x0,x1,max x1 x1] [] [.nl (.a (.x 0) (.x 2)) (.k 16)] [] (.nl (.a (.x 0) (.k 0)) (.k 16)) (.l 1 [1]) rfl h0
theorem o375 {x0:Nat} (h0:x0+max x0 x0≤16):x0≤16:=lin [x0,max x0 x0] [] [.nl (.a (.x 0) (.x 1)) (.k 16)] [] (.nl (.x 0) (.k 16)) (.l 1 [1]) rfl h0
theorem o376 {x0 x1:Nat} (h0:x0=33*(x1+7)):1≤x0:=lin [x0,x1] [] [.ne (.x 0) (.m 33 (.a (.x 1) (.k 7)))] [] (.nl (.k 1) (.x 0)) (.l 1 [-1]) rfl h0
theorem o380 {x0 x1:Nat} (h0:x0≤15) (h1:x1=x0):x1≤15:=lin [x0,x1] [] [.nl (.x 0) (.k 15),.ne (.x 1) (.x 0)] [] (.nl (.x 1) (.k 15)) (.l 1 [1,1]) rfl h0 h1
theorem o381 {x0 x1 x2 x3 x4:Nat} (h0:x0+max x1 x2≤16) (h1:x3≤x0) (h2:x4=x1) (h3:x1≤max x1 x2):x3+x4≤16:=lin [x0,x1,x2,x3,x4,max x1 x2] [] [.nl (.a (.x 0) (.x 5)) (.k 16),.nl (.x 3) (.x 0),.ne (.x 4) (.x 1),.nl (.x 1) (.x 5)] [] (.nl (.a (.x 3) (.x 4)) (.k 16)) (.l 1 [1,1,1,1]) rfl h0 h1 h2 h3
theorem o382 {x0 x1 x2 x3:Nat} (h0:x0+max x1 x2≤16) (h1:x3≤x0):x3≤16:=lin [x0,x1,x2,x3,max x1 x2] [] [.nl (.a (.x 0) (.x 4)) (.k 16),.nl (.x 3) (.x 0)] [] (.nl (.x 3) (.k 16)) (.l 1 [1,1]) rfl h0 h1
theorem o383 {x0:Int} {x1:Nat} {x2 x3:Int} {x4:Nat} (h0:Int.natAbs x0≤x1) (h1:x0=x2+x3) (h2:Int.natAbs x3≤x4):Int.natAbs x2≤x1+x4:=lin [x1,x4,Int.natAbs x0,Int.natAbs x3,Int.natAbs x2] [x0,x2,x3] [.nl (.x 2) (.x 0),.ie (.x 0) (.a (.x 1) (.x 2)),.nl (.x 3) (.x 1)] [dA (.x 0) (.x 2),dA (.x 2) (.x 3),dA (.x 1) (.x 4)] (.nl (.x 4) (.a (.x 0) (.x 1))) (.s (.s (.s (.l 1 [0,1,1,0,0,-1,1,-1]) (.l 1 [0,1,0,-1,1,0,0,1,1])) (.s (.l 1 [0,1,0,-1,0,-1,1,-1,1]) (.l 1 [0,1,1,0,1,0,0,1]))) (.s (.s (.l 1 [0,1,1,0,1,0,0,-1]) (.l 1 [0,1,0,-1,0,-1,1,1,1])) (.s (.l 1 [0,1,0,-1,1,0,0,-1,1]) (.l 1 [0,1,1,0,0,-1,1,1])))) rfl h0 h1 h2 (natAbs_c x0) (natAbs_c x3) (natAbs_c x2)
theorem o385 {x0:Int} {x1:Nat} {x2:Int} (h0:Int.natAbs x0≤x1) (h1:Int.natAbs x2≤x1):Int.natAbs (x2 - x0)≤2*x1:=lin [x1,Int.natAbs x0,Int.natAbs x2,Int.natAbs (x2 - x0)] [x0,x2] [.nl (.x 1) (.x 0),.nl (.x 2) (.x 0)] [dA (.x 0) (.x 1),dA (.x 1) (.x 2),dA (.s (.x 1) (.x 0)) (.x 3)] (.nl (.x 3) (.m 2 (.x 0))) (.s (.s (.s (.l 2 [0,2,0,-2,2,0,0,2]) (.l 1 [0,1,1,0,0,-1,2])) (.s (.l 1 [0,1,1,0,1]) (.l 2 [0,2,0,-2,0,-2,2,2]))) (.s (.s (.l 2 [0,2,0,-2,0,-2,2,2]) (.l 1 [0,1,1,0,1])) (.s (.l 1 [0,1,1,0,0,-1,2]) (.l 2 [0,2,0,-2,2,0,0,2])))) rfl h0 h1 (natAbs_c x0) (natAbs_c x2) (natAbs_c (x2 - x0))
theorem o386 {x0 x1:Int} (h0:x0 - x1≠0):0<Int.natAbs (x0 - x1):=lin [Int.natAbs (x0 - x1)] [x0,x1] [] [dI (.s (.x 0) (.x 1)) (.k 0),dA (.s (.x 0) (.x 1)) (.x 0)] (.nt (.k 0) (.x 0)) (.s (.s (.l 0 [1,0,1]) (.l 1 [0,-1,1])) (.s (.l 1 [0,-1,1]) (.l 0 [1,0,1]))) rfl (Int.lt_or_gt_of_ne h0) (natAbs_c (x0 - x1))
theorem o388 {x0 x1:Nat} {x2 x3 x4:Int} {x5 x6:Nat} (h0:x0≤x1) (h1:Int.natAbs x2≤x0) (h2:x2=x3+x4) (h3:Int.natAbs x4≤x5):Int.natAbs x3≤x6+x5+x1:=lin [x0,x1,x5,x6,Int.natAbs x2,Int.natAbs x4,Int.natAbs x3] [x2,x3,x4] [.nl (.x 0) (.x 1),.nl (.x 4) (.x 0),.ie (.x 0) (.a (.x 1) (.x 2)),.nl (.x 5) (.x 2)] [dA (.x 0) (.x 4),dA (.x 2) (.x 5),dA (.x 1) (.x 6)] (.nl (.x 6) (.a (.a (.x 3) (.x 2)) (.x 1))) (.s (.s (.s (.l 1 [0,1,1,0,0,-1,1,1,-1]) (.l 1 [0,1,0,-1,1,0,0,0,1,1])) (.s (.l 1 [0,1,0,-1,0,-1,1,1,-1,1]) (.l 1 [0,1,1,0,1,0,0,0,1]))) (.s (.s (.l 1 [0,1,1,0,1,0,0,0,-1]) (.l 1 [0,1,0,-1,0,-1,1,1,1,1])) (.s (.l 1 [0,1,0,-1,1,0,0,0,-1,1]) (.l 1 [0,1,1,0,0,-1,1,1,1])))) rfl h0 h1 h2 h3 (natAbs_c x2) (natAbs_c x4) (natAbs_c x3)
theorem o389 {x0:Int} {x1 x2:Nat} (h0:Int.natAbs x0≤x1):Int.natAbs x0≤x1+x2:=lin [x1,x2,Int.natAbs x0] [x0] [.nl (.x 2) (.x 0)] [] (.nl (.x 2) (.a (.x 0) (.x 1))) (.l 1 [1]) rfl h0
theorem o391 {x0:Nat} (h0:x0+1≤0):¬ (x0+1≤0):=fun c0=>lin [x0] [] [.nl (.a (.x 0) (.k 1)) (.k 0)] [] .f (.l 0 [1]) rfl h0
theorem o392 {x0 x1:Nat} (h0:x0≤x1):x0+1≤x1+1:=lin [x0,x1] [] [.nl (.x 0) (.x 1)] [] (.nl (.a (.x 0) (.k 1)) (.a (.x 1) (.k 1))) (.l 1 [1]) rfl h0
theorem o395 {x0 x1:Nat} (h0:x0+1+x1≤0):¬ (x0+1+x1≤0):=fun c0=>lin [x0,x1] [] [.nl (.a (.a (.x 0) (.k 1)) (.x 1)) (.k 0)] [] .f (.l 0 [1]) rfl h0
theorem o398 {x0:Int} {x1:Nat} {x2:Int} {x3 x4:Nat} (h0:Int.natAbs x0≤x1) (h1:Int.natAbs x2≤x3) (h2:x1≤x4):Int.natAbs (x0+x2)≤x3+x4:=lin [x1,x3,x4,Int.natAbs x0,Int.natAbs x2,Int.natAbs (x0+x2)] [x0,x2] [.nl (.x 3) (.x 0),.nl (.x 4) (.x 1),.nl (.x 0) (.x 2)] [dA (.x 0) (.x 3),dA (.x 1) (.x 4),dA (.a (.x 0) (.x 1)) (.x 5)] (.nl (.x 5) (.a (.x 1) (.x 2))) (.s (.s (.s (.l 1 [0,1,0,-1,0,-1,1,1,1]) (.l 1 [0,1,1,0,1])) (.s (.l 1 [0,1,1,0,0,-1,1,0,1]) (.l 1 [0,1,0,-1,1,0,0,1]))) (.s (.s (.l 1 [0,1,0,-1,1,0,0,1]) (.l 1 [0,1,1,0,0,-1,1,0,1])) (.s (.l 1 [0,1,1,0,1]) (.l 1 [0,1,0,-1,0,-1,1,1,1])))) rfl h0 h1 h2 (natAbs_c x0) (natAbs_c x2) (natAbs_c (x0+x2))
theorem o401 {x0 x1 x2 x3:Nat} (h0:x0≤15) (h1:¬ (x0≤x1)) (h2:x1+x2=x3) (h3:x3=29):min x0 x2=x0:=linN [x0,x1,x2,x3,min x0 x2] [] [.nl (.x 0) (.k 15),.nt (.x 1) (.x 0),.ne (.a (.x 1) (.x 2)) (.x 3),.ne (.x 3) (.k 29)] [dM (.x 0) (.x 2) (.x 4)] (.x 4) (.x 0) (.s (.l 1 [0,1]) (.l 1 [1,1])) (.s (.l 1 [0,-1]) (.l 1 [0,-1,2,1,-1,-1])) rfl h0 (Nat.not_le.mp h1) h2 h3 (minN_c x0 x2)
theorem o402 {x0:Int} (h0:x0≠0) (h1:Int.natAbs x0≤0):False:=lin [Int.natAbs x0] [x0] [.nl (.x 0) (.k 0)] [dI (.x 0) (.k 0),dA (.x 0) (.x 0)] .f (.s (.s (.l 0 [1,0,1]) (.l 0 [0,-1,1,1])) (.s (.l 0 [0,-1,1,1]) (.l 0 [1,0,1]))) rfl h1 (Int.lt_or_gt_of_ne h0) (natAbs_c x0)
theorem o403 {x0:Int} (h0:x0≠0):0<Int.natAbs x0:=lin [Int.natAbs x0] [x0] [] [dI (.x 0) (.k 0),dA (.x 0) (.x 0)] (.nt (.k 0) (.x 0)) (.s (.s (.l 0 [1,0,1]) (.l 1 [0,-1,1])) (.s (.l 1 [0,-1,1]) (.l 0 [1,0,1]))) rfl (Int.lt_or_gt_of_ne h0) (natAbs_c x0)
theorem o404 {x0:Nat} (h0:x0≤0) (h1:1<x0):¬ (1<x0):=fun c0=>lin [x0] [] [.nl (.x 0) (.k 0),.nt (.k 1) (.x 0)] [] .f (.l 0 [1,1]) rfl h0 h1
theorem o406 {x0 x1 x2:Nat} (h0:x0≤x1+1) (h1:x2≠x0) (h2:x2≤x0):x2≤x1:=lin [x0,x1,x2] [] [.nl (.x 0) (.a (.x 1) (.k 1)),.nl (.x 2) (.x 0)] [dN (.x 2) (.x 0)] (.nl (.x 2) (.x 1)) (.s (.l 1 [1,1]) (.l 0 [1,0,1])) rfl h0 h2 (Nat.lt_or_gt_of_ne h1)
theorem o407 {x0:Nat} (h0:x0≠1) (h1:x0≠0):1<x0:=lin [x0] [] [] [dN (.x 0) (.k 1),dN (.x 0) (.k 0)] (.nt (.k 1) (.x 0)) (.s (.s (.l 0 [1]) (.l 0 [1,1])) (.l 1 [1])) rfl (Nat.lt_or_gt_of_ne h0) (Nat.lt_or_gt_of_ne h1)
theorem o410 {x0 x1:Nat} (h0:x0≤0) (h1:x1<x0):¬ (x1<x0):=fun c0=>lin [x0,x1] [] [.nl (.x 0) (.k 0),.nt (.x 1) (.x 0)] [] .f (.l 0 [1,1]) rfl h0 h1
theorem o412 {x0 x1 x2:Nat} (h0:x0<x1+x2+1) (h1:¬ (x0<x1)) (h2:¬ (x1+x2 - x0<x2)):¬ (x0≠x1):=fun c0=>lin [x0,x1,x2,x1+x2 - x0] [] [.nt (.x 0) (.a (.a (.x 1) (.x 2)) (.k 1)),.nl (.x 1) (.x 0),.nl (.x 2) (.x 3)] [dN (.x 0) (.x 1),dS (.a (.x 1) (.x 2)) (.x 0) (.x 3)] .f (.s (.l 0 [1,0,1]) (.s (.l 0 [0,1,1,0,0,1]) (.l 0 [0,1,1,1,0,1]))) rfl h0 (Nat.not_lt.mp h1) (Nat.not_lt.mp h2) (Nat.lt_or_gt_of_ne c0) (sub_c (x1+x2) x0)
theorem o414 {x0:Int} (h0:Int.natAbs x0≤0) (h1:x0≠0):¬ (x0≠0):=fun c0=>lin [Int.natAbs x0] [x0] [.nl (.x 0) (.k 0)] [dI (.x 0) (.k 0),dA (.x 0) (.x 0)] .f (.s (.s (.l 0 [1,0,1]) (.l 0 [0,-1,1,1])) (.s (.l 0 [0,-1,1,1]) (.l 0 [1,0,1]))) rfl h0 (Int.lt_or_gt_of_ne h1) (natAbs_c x0)
theorem o415 {x0:Int} (h0:x0≠0) (h1:0=Int.natAbs x0):False:=lin [Int.natAbs x0] [x0] [.ne (.k 0) (.x 0)] [dI (.x 0) (.k 0),dA (.x 0) (.x 0)] .f (.s (.s (.l 0 [1,0,1]) (.l 0 [0,-1,1,-1])) (.s (.l 0 [0,-1,1,-1]) (.l 0 [1,0,1]))) rfl h1 (Int.lt_or_gt_of_ne h0) (natAbs_c x0)
theorem o417 {x0:Int} {x1 x2:Nat} {x3:Int} (h0:Int.natAbs x0≤x1+1) (h1:x2=Int.natAbs x0) (h2:2*Int.natAbs x3≤x2):Int.natAbs x3≤x1:=lin [x1,x2,Int.natAbs x0,Int.natAbs x3] [x0,x3] [.nl (.x 2) (.a (.x 0) (.k 1)),.ne (.x 1) (.x 2),.nl (.m 2 (.x 3)) (.x 1)] [] (.nl (.x 3) (.x 0)) (.l 2 [1,1,1]) rfl h0 h1 h2
theorem o418 {x0:Nat} (h0:1<x0):(x0:Int)≠0:=fun c0=>lin [x0] [] [.nt (.k 1) (.x 0),.ie (.c (.x 0)) (.k 0)] [] .f (.l 0 [1,1]) rfl h0 c0
theorem o420 {x0:Nat} (h0:¬ (x0=1)) (h1:0<x0):1<x0:=lin [x0] [] [.nt (.k 0) (.x 0)] [dN (.x 0) (.k 1)] (.nt (.k 1) (.x 0)) (.s (.l 0 [1,1]) (.l 1 [1])) rfl h1 (Nat.lt_or_gt_of_ne h0)
theorem o422 {x0:Int} {x1:Nat} (h0:Int.natAbs x0<x1):Int.natAbs x0≤x1 - 1:=lin [x1,Int.natAbs x0,x1 - 1] [x0] [.nt (.x 1) (.x 0)] [dS (.x 0) (.k 1) (.x 2)] (.nl (.x 1) (.x 2)) (.s (.l 1 [0,-1,1]) (.l 1 [1,0,1])) rfl h0 (sub_c x1 1)
theorem o425 {x0:Nat} (h0:5≤x0):x0=x0 - 1+1:=linN [x0,x0 - 1] [] [.nl (.k 5) (.x 0)] [dS (.x 0) (.k 1) (.x 1)] (.x 0) (.a (.x 1) (.k 1)) (.s (.l 1 [0,-1]) (.l 0 [1,0,1])) (.s (.l 1 [0,1]) (.l 0 [1,0,1])) rfl h0 (sub_c x0 1)
theorem o426 {x0:Nat} (h0:5≤x0+1):4≤x0:=lin [x0] [] [.nl (.k 5) (.a (.x 0) (.k 1))] [] (.nl (.k 4) (.x 0)) (.l 1 [1]) rfl h0
theorem o430 {x0:Nat} (h0:6≤x0):x0=x0 - 1+1:=linN [x0,x0 - 1] [] [.nl (.k 6) (.x 0)] [dS (.x 0) (.k 1) (.x 1)] (.x 0) (.a (.x 1) (.k 1)) (.s (.l 1 [0,-1]) (.l 0 [1,0,1])) (.s (.l 1 [0,1]) (.l 0 [1,0,1])) rfl h0 (sub_c x0 1)
theorem o432 {x0 x1:Nat} (h0:x0≤15) (h1:1≤x1):x0+2 - x1≤16:=lin [x0,x1,x0+2 - x1] [] [.nl (.x 0) (.k 15),.nl (.k 1) (.x 1)] [dS (.a (.x 0) (.k 2)) (.x 1) (.x 2)] (.nl (.x 2) (.k 16)) (.s (.l 1 [0,1,1,1]) (.l 1 [0,1])) rfl h0 h1 (sub_c (x0+2) x1)
theorem o433 {x0:Nat} (h0:x0≤1160000):x0+1≤1160001:=lin [x0] [] [.nl (.x 0) (.k 1160000)] [] (.nl (.a (.x 0) (.k 1)) (.k 1160001)) (.l 1 [1]) rfl h0
theorem o435 {x0 x1:Nat} (h0:x0≤15) (h1:1≤x1):x0+1 - x1≤15:=lin [x0,x1,x0+1 - x1] [] [.nl (.x 0) (.k 15),.nl (.k 1) (.x 1)] [dS (.a (.x 0) (.k 1)) (.x 1) (.x 2)] (.nl (.x 2) (.k 15)) (.s (.l 1 [0,1,1,1]) (.l 1 [0,1])) rfl h0 h1 (sub_c (x0+1) x1)
theorem o437 {x0:Nat} (h0:6≤x0+1):4≤x0:=lin [x0] [] [.nl (.k 6) (.a (.x 0) (.k 1))] [] (.nl (.k 4) (.x 0)) (.l 1 [1]) rfl h0
theorem o438 {x0:Nat} (h0:x0≤15):x0≤15:=lin [x0] [] [.nl (.x 0) (.k 15)] [] (.nl (.x 0) (.k 15)) (.l 1 [1]) rfl h0
theorem o439 {x0 x1:Nat} (h0:x0≤1160000) (h1:x1≤20000000):x1+x0≤33000000:=lin [x0,x1] [] [.nl (.x 0) (.k 1160000),.nl (.x 1) (.k 20000000)] [] (.nl (.a (.x 1) (.x 0)) (.k 33000000)) (.l 1 [1,1]) rfl h0 h1
theorem o440 {x0 x1 x2 x3:Nat} (h0:x0≤15) (h1:1≤x1) (h2:x2≤x0+1 - x1) (h3:x3≤x2):x3≤15:=lin [x0,x1,x2,x3,x0+1 - x1] [] [.nl (.x 0) (.k 15),.nl (.k 1) (.x 1),.nl (.x 2) (.x 4),.nl (.x 3) (.x 2)] [dS (.a (.x 0) (.k 1)) (.x 1) (.x 4)] (.nl (.x 3) (.k 15)) (.s (.l 1 [0,1,1,1,1,1]) (.l 1 [0,1,0,0,1,1])) rfl h0 h1 h2 h3 (sub_c (x0+1) x1)
theorem o441 {x0 x1 x2:Nat} (h0:x0+max x1 x2≤16):x0≤100:=lin [x0,x1,x2,max x1 x2] [] [.nl (.a (.x 0) (.x 3)) (.k 16)] [] (.nl (.x 0) (.k 100)) (.l 1 [1]) rfl h0
theorem o442 {x0 x1 x2 x3:Nat} (h0:x0≤15) (h1:x1+max x0 x2≤16) (h2:x3≤x0+1 - x2):x3+x1≤400:=lin [x0,x1,x2,x3,max x0 x2,x0+1 - x2] [] [.nl (.x 0) (.k 15),.nl (.a (.x 1) (.x 4)) (.k 16),.nl (.x 3) (.x 5)] [dS (.a (.x 0) (.k 1)) (.x 2) (.x 5)] (.nl (.a (.x 3) (.x 1)) (.k 400)) (.s (.l 1 [0,1,1,1,1]) (.l 1 [0,1,0,1,1])) rfl h0 h1 h2 (sub_c (x0+1) x2)
theorem o443 {x0:Nat} (h0:6≤x0+1):5≤x0:=lin [x0] [] [.nl (.k 6) (.a (.x 0) (.k 1))] [] (.nl (.k 5) (.x 0)) (.l 1 [1]) rfl h0
theorem o444 {x0 x1:Nat} (h0:x0≤1160000) (h1:x1≤20000000):x0+(x1+x0+4)+1≤67108864:=lin [x0,x1] [] [.nl (.x 0) (.k 1160000),.nl (.x 1) (.k 20000000)] [] (.nl (.a (.a (.x 0) (.a (.a (.x 1) (.x 0)) (.k 4))) (.k 1)) (.k 67108864)) (.l 1 [2,1]) rfl h0 h1
theorem o445 {x0 x1 x2:Nat} (h0:x0+max x1 x2≤16):x0≤400:=lin [x0,x1,x2,max x1 x2] [] [.nl (.a (.x 0) (.x 3)) (.k 16)] [] (.nl (.x 0) (.k 400)) (.l 1 [1]) rfl h0
theorem o448 {x0:Nat} (h0:x0≤1160000):x0+(1+x0)≤67108864:=lin [x0] [] [.nl (.x 0) (.k 1160000)] [] (.nl (.a (.x 0) (.a (.k 1) (.x 0))) (.k 67108864)) (.l 1 [2]) rfl h0
theorem o449 {x0:Nat} (h0:x0≤15):x0≤400:=lin [x0] [] [.nl (.x 0) (.k 15)] [] (.nl (.x 0) (.k 400)) (.l 1 [1]) rfl h0
theorem o451 {x0:Nat} (h0:0<x0):(x0:Int)≠0:=fun c0=>lin [x0] [] [.nt (.k 0) (.x 0),.ie (.c (.x 0)) (.k 0)] [] .f (.l 0 [1,1]) rfl h0 c0
theorem o452 {x0:Int} {x1:Nat} (h0:0≤x0) (h1:x0<(x1:Int)):Int.toNat x0<x1:=lin [x1,Int.toNat x0] [x0] [.il (.k 0) (.x 0),.it (.x 0) (.c (.x 0))] [dT (.x 0) (.x 1)] (.nt (.x 1) (.x 0)) (.s (.l 1 [0,1,0,1]) (.l 1 [0,1,1,1])) rfl h0 h1 (toNat_c x0)
theorem o453 {x0:Int} (h0:0≤x0):x0=((Int.toNat x0:Nat):Int):=linI [Int.toNat x0] [x0] [.il (.k 0) (.x 0)] [dT (.x 0) (.x 0)] (.x 0) (.c (.x 0)) (.s (.l 1 [0,-1]) (.l 1 [1])) (.s (.l 1 [0,1]) (.l 1 [0,1,1])) rfl h0 (toNat_c x0)
theorem o457 {x0:Nat} (h0:0+1≤x0):¬ (x0=0):=fun c0=>lin [x0] [] [.nl (.a (.k 0) (.k 1)) (.x 0),.ne (.x 0) (.k 0)] [] .f (.l 0 [1,1]) rfl h0 c0
theorem o459 {x0 x1 x2:Nat} (h0:x0 - 1+(x1 - 1)=x2 - 1) (h1:1≤x1) (h2:1≤x2) (h3:1≤x0):x0+x1=x2+1:=linN [x0,x1,x2,x0 - 1,x1 - 1,x2 - 1] [] [.ne (.a (.x 3) (.x 4)) (.x 5),.nl (.k 1) (.x 1),.nl (.k 1) (.x 2),.nl (.k 1) (.x 0)] [dS (.x 0) (.k 1) (.x 3),dS (.x 1) (.k 1) (.x 4),dS (.x 2) (.k 1) (.x 5)] (.a (.x 0) (.x 1)) (.a (.x 2) (.k 1)) (.s (.s (.s (.l 1 [0,1,0,-1,0,-1,1]) (.l 1 [0,1,0,-1,0,-1,1,0,1])) (.s (.l 1 [0,1,1,0,0,-1,1]) (.l 1 [0,1,1,0,0,-1,1,0,1]))) (.s (.s (.l 1 [0,1,0,-1,1,0,1]) (.l 1 [0,1,0,-1,1,0,1,0,1])) (.l 1 [1,0,1,0,0,0,1]))) (.s (.s (.s (.l 1 [0,-1,0,1,0,1,-1]) (.l 1 [1,0,0,1,0,1,-1])) (.s (.l 1 [0,-1,0,1,0,1,-1,1]) (.l 1 [1,0,0,0,1,0,0,1]))) (.s (.s (.l 1 [0,-1,0,1,0,1,-1,0,0,1]) (.l 1 [1,0,1,0,0,0,0,0,0,1])) (.s (.l 1 [0,-1,0,1,0,1,-1,1,0,1]) (.l 1 [1,0,0,0,0,0,0,1,0,1])))) rfl h0 h1 h2 h3 (sub_c x0 1) (sub_c x1 1) (sub_c x2 1)
theorem o461 {x0:Nat} (h0:x0≤14):x0+1≤15:=lin [x0] [] [.nl (.x 0) (.k 14)] [] (.nl (.a (.x 0) (.k 1)) (.k 15)) (.l 1 [1]) rfl h0
theorem o464 {x0:Nat} (h0:1<x0):1≤x0 - 1:=lin [x0,x0 - 1] [] [.nt (.k 1) (.x 0)] [dS (.x 0) (.k 1) (.x 1)] (.nl (.k 1) (.x 1)) (.s (.l 1 [0,-1,1]) (.l 0 [1,0,1])) rfl h0 (sub_c x0 1)
theorem o467 {x0 x1:Nat}:x0 - 1+1+(x1 - 1+1)≤x0 - 1+(x1 - 1)+1+1:=lin [x0,x1,x0 - 1,x1 - 1] [] [] [] (.nl (.a (.a (.x 2) (.k 1)) (.a (.x 3) (.k 1))) (.a (.a (.a (.x 2) (.x 3)) (.k 1)) (.k 1))) (.l 1 []) rfl
theorem o468 {x0 x1 x2:Nat} (h0:¬ (x0 - 1+(x1 - 1)<x2)):x2≤x0 - 1+(x1 - 1):=lin [x0,x1,x2,x0 - 1,x1 - 1] [] [.nl (.x 2) (.a (.x 3) (.x 4))] [] (.nl (.x 2) (.a (.x 3) (.x 4))) (.l 1 [1]) rfl (Nat.not_lt.mp h0)
theorem o469 {x0 x1 x2:Nat} (h0:¬ (x0 - 1<x1 - 1+(x2 - 1)+1)):x1 - 1+(x2 - 1)+1≤x0 - 1:=lin [x0,x1,x2,x1 - 1,x2 - 1,x0 - 1] [] [.nl (.a (.a (.x 3) (.x 4)) (.k 1)) (.x 5)] [] (.nl (.a (.a (.x 3) (.x 4)) (.k 1)) (.x 5)) (.l 1 [1]) rfl (Nat.not_lt.mp h0)
theorem o470 {x0 x1 x2:Nat} (h0:1≤x0) (h1:1≤x1) (h2:x1 - 1+(x0 - 1)<x2) (h3:x2 - 1<x1 - 1+(x0 - 1)+1):x1+x0=x2+1:=linN [x0,x1,x2,x1 - 1,x0 - 1,x2 - 1] [] [.nl (.k 1) (.x 0),.nl (.k 1) (.x 1),.nt (.a (.x 3) (.x 4)) (.x 2),.nt (.x 5) (.a (.a (.x 3) (.x 4)) (.k 1))] [dS (.x 1) (.k 1) (.x 3),dS (.x 0) (.k 1) (.x 4),dS (.x 2) (.k 1) (.x 5)] (.a (.x 1) (.x 0)) (.a (.x 2) (.k 1)) (.s (.s (.l 1 [0,-1,0,-1,0,0,1]) (.l 1 [1,0,0,-1,0,0,1])) (.s (.l 1 [0,-1,1,0,0,0,1]) (.l 1 [1,0,1,0,0,0,1,1]))) (.s (.s (.s (.l 1 [0,-1,0,1,0,1,0,0,0,1]) (.l 1 [1,0,0,1,0,1,0,0,0,1])) (.s (.l 1 [0,-1,0,1,0,1,1,0,0,1]) (.l 1 [1,0,0,0,1,0,1]))) (.s (.s (.l 1 [0,-1,0,1,0,1,0,1,0,1]) (.l 1 [1,0,1,0,0,0,0,1])) (.s (.l 1 [0,-1,0,1,0,1,1,1,0,1]) (.l 1 [1,0,0,0,0,0,1,1])))) rfl h0 h1 h2 h3 (sub_c x1 1) (sub_c x0 1) (sub_c x2 1)
theorem o471 {x0 x1 x2:Nat} (h0:x0 - 1+(x1 - 1)<x2) (h1:x2 - 1<x0 - 1+(x1 - 1)+1):x2 - 1=x0 - 1+(x1 - 1):=linN [x0,x1,x2,x0 - 1,x1 - 1,x2 - 1] [] [.nt (.a (.x 3) (.x 4)) (.x 2),.nt (.x 5) (.a (.a (.x 3) (.x 4)) (.k 1))] [dS (.x 2) (.k 1) (.x 5)] (.x 5) (.a (.x 3) (.x 4)) (.l 1 [0,1]) (.s (.l 1 [0,-1,1]) (.l 1 [1,0,1])) rfl h0 h1 (sub_c x2 1)
theorem o472 {x0:Nat} (h0:x0≤350):33*(x0+7)≤11800:=lin [x0] [] [.nl (.x 0) (.k 350)] [] (.nl (.m 33 (.a (.x 0) (.k 7))) (.k 11800)) (.l 1 [33]) rfl h0
theorem o473 {x0 x1:Nat} (h0:x0≤15):x0+2 - x1≤17:=lin [x0,x1,x0+2 - x1] [] [.nl (.x 0) (.k 15)] [dS (.a (.x 0) (.k 2)) (.x 1) (.x 2)] (.nl (.x 2) (.k 17)) (.s (.l 1 [0,1,1]) (.l 1 [0,1])) rfl h0 (sub_c (x0+2) x1)
theorem o476 {x0:Nat} (h0:5≤x0+1):3≤x0:=lin [x0] [] [.nl (.k 5) (.a (.x 0) (.k 1))] [] (.nl (.k 3) (.x 0)) (.l 1 [1]) rfl h0
theorem o479 {x0:Nat} (h0:x0≤1000):x0≤60000000:=lin [x0] [] [.nl (.x 0) (.k 1000)] [] (.nl (.x 0) (.k 60000000)) (.l 1 [1]) rfl h0
theorem o482 {x0:Nat} (h0:8≤x0):x0=x0 - 1+1:=linN [x0,x0 - 1] [] [.nl (.k 8) (.x 0)] [dS (.x 0) (.k 1) (.x 1)] (.x 0) (.a (.x 1) (.k 1)) (.s (.l 1 [0,-1]) (.l 0 [1,0,1])) (.s (.l 1 [0,1]) (.l 0 [1,0,1])) rfl h0 (sub_c x0 1)
theorem o485 {x0 x1:Nat} (h0:x0≤15) (h1:x1=x0):x1 - 1≤14:=lin [x0,x1,x1 - 1] [] [.nl (.x 0) (.k 15),.ne (.x 1) (.x 0)] [dS (.x 1) (.k 1) (.x 2)] (.nl (.x 2) (.k 14)) (.s (.l 1 [0,1,1,1]) (.l 1 [0,1])) rfl h0 h1 (sub_c x1 1)
theorem o486 {x0:Nat} (h0:8≤x0+1):4≤x0:=lin [x0] [] [.nl (.k 8) (.a (.x 0) (.k 1))] [] (.nl (.k 4) (.x 0)) (.l 1 [1]) rfl h0
theorem o488 {x0:Nat} (h0:8≤x0+1):6≤x0:=lin [x0] [] [.nl (.k 8) (.a (.x 0) (.k 1))] [] (.nl (.k 6) (.x 0)) (.l 1 [1]) rfl h0
theorem o492:335≤350:=lin [] [] [] [] (.nl (.k 335) (.k 350)) (.l 1 []) rfl
theorem o494 {x0:Nat} (h0:1<(x0:Int)):1<x0:=lin [x0] [] [.it (.k 1) (.c (.x 0))] [] (.nt (.k 1) (.x 0)) (.l 1 [1]) rfl h0
theorem o495 {x0 x1:Nat} (h0:x0 - 1≤14) (h1:x1≤x0 - 1):x1≤1000:=lin [x0,x1,x0 - 1] [] [.nl (.x 2) (.k 14),.nl (.x 1) (.x 2)] [] (.nl (.x 1) (.k 1000)) (.l 1 [1,1]) rfl h0 h1
theorem o496 {x0:Nat} (h0:8≤x0+1):7≤x0:=lin [x0] [] [.nl (.k 8) (.a (.x 0) (.k 1))] [] (.nl (.k 7) (.x 0)) (.l 1 [1]) rfl h0
theorem o497 {x0:Nat} (h0:¬ (1<(x0:Int))):¬ (1<x0):=fun c0=>lin [x0] [] [.il (.c (.x 0)) (.k 1),.nt (.k 1) (.x 0)] [] .f (.l 0 [1,1]) rfl (Int.not_lt.mp h0) c0
theorem o502 {x0:Nat} (h0:9≤x0):x0=x0 - 1+1:=linN [x0,x0 - 1] [] [.nl (.k 9) (.x 0)] [dS (.x 0) (.k 1) (.x 1)] (.x 0) (.a (.x 1) (.k 1)) (.s (.l 1 [0,-1]) (.l 0 [1,0,1])) (.s (.l 1 [0,1]) (.l 0 [1,0,1])) rfl h0 (sub_c x0 1)
theorem o503 {x0:Nat} (h0:9≤x0+1):8≤x0:=lin [x0] [] [.nl (.k 9) (.a (.x 0) (.k 1))] [] (.nl (.k 8) (.x 0)) (.l 1 [1]) rfl h0
theorem o504 {x0:Nat} (h0:x0≤10):x0≤1000:=lin [x0] [] [.nl (.x 0) (.k 10)] [] (.nl (.x 0) (.k 1000)) (.l 1 [1]) rfl h0
theorem o507 {x0 x1 x2:Nat} (h0:1≤x0) (h1:x1+x0=x2+1) (h2:1≤x1):x1 - 1<x2:=lin [x0,x1,x2,x1 - 1] [] [.nl (.k 1) (.x 0),.ne (.a (.x 1) (.x 0)) (.a (.x 2) (.k 1)),.nl (.k 1) (.x 1)] [dS (.x 1) (.k 1) (.x 3)] (.nt (.x 3) (.x 2)) (.s (.l 1 [0,1,1,1]) (.l 1 [0,1,1,1,1])) rfl h0 h1 h2 (sub_c x1 1)
theorem o509 {x0:Nat} (h0:7≤x0):x0=x0 - 1+1:=linN [x0,x0 - 1] [] [.nl (.k 7) (.x 0)] [dS (.x 0) (.k 1) (.x 1)] (.x 0) (.a (.x 1) (.k 1)) (.s (.l 1 [0,-1]) (.l 0 [1,0,1])) (.s (.l 1 [0,1]) (.l 0 [1,0,1])) rfl h0 (sub_c x0 1)
theorem o510 {x0:Nat} (h0:7≤x0+1):6≤x0:=lin [x0] [] [.nl (.k 7) (.a (.x 0) (.k 1))] [] (.nl (.k 6) (.x 0)) (.l 1 [1]) rfl h0
theorem o511 {x0 x1:Nat} (h0:1≤x0) (h1:x1≤15):x1+2 - x0≤16:=lin [x0,x1,x1+2 - x0] [] [.nl (.k 1) (.x 0),.nl (.x 1) (.k 15)] [dS (.a (.x 1) (.k 2)) (.x 0) (.x 2)] (.nl (.x 2) (.k 16)) (.s (.l 1 [0,1,1,1]) (.l 1 [0,1])) rfl h0 h1 (sub_c (x1+2) x0)
theorem o512 {x0:Nat} (h0:x0≤11800):x0+1≤11801:=lin [x0] [] [.nl (.x 0) (.k 11800)] [] (.nl (.a (.x 0) (.k 1)) (.k 11801)) (.l 1 [1]) rfl h0
theorem o515 {x0:Nat} (h0:7≤x0+1):4≤x0:=lin [x0] [] [.nl (.k 7) (.a (.x 0) (.k 1))] [] (.nl (.k 4) (.x 0)) (.l 1 [1]) rfl h0
theorem o516 {x0 x1 x2 x3:Nat} (h0:x0≤15) (h1:x1≤x0+1 - x2) (h2:x3≤x1):x3≤1000:=lin [x0,x1,x2,x3,x0+1 - x2] [] [.nl (.x 0) (.k 15),.nl (.x 1) (.x 4),.nl (.x 3) (.x 1)] [dS (.a (.x 0) (.k 1)) (.x 2) (.x 4)] (.nl (.x 3) (.k 1000)) (.s (.l 1 [0,1,1,1,1]) (.l 1 [0,1,0,1,1])) rfl h0 h1 h2 (sub_c (x0+1) x2)
theorem o517 {x0:Nat} (h0:7≤x0+1):3≤x0:=lin [x0] [] [.nl (.k 7) (.a (.x 0) (.k 1))] [] (.nl (.k 3) (.x 0)) (.l 1 [1]) rfl h0
theorem o519:200000+(1+200000)≤67108864:=lin [] [] [] [] (.nl (.a (.k 200000) (.a (.k 1) (.k 200000))) (.k 67108864)) (.l 1 []) rfl
theorem o520 {x0 x1 x2 x3:Nat} (h0:x0≤15) (h1:x1≤x0+1 - x2) (h2:x3≤x1):x3≤400:=lin [x0,x1,x2,x3,x0+1 - x2] [] [.nl (.x 0) (.k 15),.nl (.x 1) (.x 4),.nl (.x 3) (.x 1)] [dS (.a (.x 0) (.k 1)) (.x 2) (.x 4)] (.nl (.x 3) (.k 400)) (.s (.l 1 [0,1,1,1,1]) (.l 1 [0,1,0,1,1])) rfl h0 h1 h2 (sub_c (x0+1) x2)
theorem o521 {x0:Nat} (h0:x0≠2):(x0:Int)≠2:=fun c0=>lin [x0] [] [.ie (.c (.x 0)) (.k 2)] [dN (.x 0) (.k 2)] .f (.s (.l 0 [1,-1]) (.l 0 [1,1])) rfl c0 (Nat.lt_or_gt_of_ne h0)
theorem o524 {x0:Nat} (h0:2≤x0):x0=x0 - 1+1:=linN [x0,x0 - 1] [] [.nl (.k 2) (.x 0)] [dS (.x 0) (.k 1) (.x 1)] (.x 0) (.a (.x 1) (.k 1)) (.s (.l 1 [0,-1]) (.l 0 [1,0,1])) (.s (.l 1 [0,1]) (.l 0 [1,0,1])) rfl h0 (sub_c x0 1)
theorem o526 {x0:Nat}:¬ (x0+1 - 1<x0):=fun c0=>lin [x0,x0+1 - 1] [] [.nt (.x 1) (.x 0)] [dS (.a (.x 0) (.k 1)) (.k 1) (.x 1)] .f (.s (.l 0 [0,-1,1]) (.l 0 [1,0,1])) rfl c0 (sub_c (x0+1) 1)
theorem o527 {x0:Nat}:x0+1 - 1 - x0=0:=linN [x0,x0+1 - 1 - x0,x0+1 - 1] [] [] [dS (.a (.x 0) (.k 1)) (.k 1) (.x 2),dS (.x 2) (.x 0) (.x 1)] (.x 1) (.k 0) (.s (.s (.l 1 [0,1,0,1]) (.l 1 [0,1])) (.s (.l 1 [0,1,0,1]) (.l 1 [0,1]))) (.l 1 []) rfl (sub_c (x0+1) 1) (sub_c (x0+1 - 1) x0)
theorem o530 {x0 x1:Nat} (h0:x0≤100):min x1 x0≤1000000:=lin [x0,x1,min x1 x0] [] [.nl (.x 0) (.k 100)] [dM (.x 1) (.x 0) (.x 2)] (.nl (.x 2) (.k 1000000)) (.s (.l 1 [1,1,1]) (.l 1 [0,1,1])) rfl h0 (minN_c x1 x0)
theorem o531 {x0 x1:Nat} (h0:x0≤100):min x1 x0+1≤1000000:=lin [x0,x1,min x1 x0] [] [.nl (.x 0) (.k 100)] [dM (.x 1) (.x 0) (.x 2)] (.nl (.a (.x 2) (.k 1)) (.k 1000000)) (.s (.l 1 [1,1,1]) (.l 1 [0,1,1])) rfl h0 (minN_c x1 x0)
theorem o532 {x0 x1:Nat} (h0:x0≤100):x0 - x1≤1000000:=lin [x0,x1,x0 - x1] [] [.nl (.x 0) (.k 100)] [dS (.x 0) (.x 1) (.x 2)] (.nl (.x 2) (.k 1000000)) (.s (.l 1 [0,1,1]) (.l 1 [0,1])) rfl h0 (sub_c x0 x1)
theorem o533 {x0 x1:Nat} (h0:x0≤100):min x1 x0+(x0 - x1)≤900:=lin [x0,x1,min x1 x0,x0 - x1] [] [.nl (.x 0) (.k 100)] [dM (.x 1) (.x 0) (.x 2),dS (.x 0) (.x 1) (.x 3)] (.nl (.a (.x 2) (.x 3)) (.k 900)) (.s (.s (.l 1 [0,1,0,1,1]) (.l 1 [0,1,1,1,1])) (.s (.l 1 [0,1,0,1,2]) (.l 1 [0,1,0,1,1]))) rfl h0 (minN_c x1 x0) (sub_c x0 x1)
theorem o534 {x0:Nat} (h0:x0≤6):x0≤1000:=lin [x0] [] [.nl (.x 0) (.k 6)] [] (.nl (.x 0) (.k 1000)) (.l 1 [1]) rfl h0
theorem o535 {x0:Nat} (h0:9≤x0+1):4≤x0:=lin [x0] [] [.nl (.k 9) (.a (.x 0) (.k 1))] [] (.nl (.k 4) (.x 0)) (.l 1 [1]) rfl h0
theorem o536 {x0:Nat} (h0:8≤x0):4≤x0:=lin [x0] [] [.nl (.k 8) (.x 0)] [] (.nl (.k 4) (.x 0)) (.l 1 [1]) rfl h0
theorem o538 {x0:Nat} (h0:x0≤6):x0≤400:=lin [x0] [] [.nl (.x 0) (.k 6)] [] (.nl (.x 0) (.k 400)) (.l 1 [1]) rfl h0
theorem o540 {x0:Nat} (h0:x0≤6):x0≤15:=lin [x0] [] [.nl (.x 0) (.k 6)] [] (.nl (.x 0) (.k 15)) (.l 1 [1]) rfl h0
theorem o541 {x0:Nat} (h0:x0≤6):x0≤100:=lin [x0] [] [.nl (.x 0) (.k 6)] [] (.nl (.x 0) (.k 100)) (.l 1 [1]) rfl h0
theorem o542 {x0 x1:Nat} (h0:x0≤6):x0+2 - x1≤8:=lin [x0,x1,x0+2 - x1] [] [.nl (.x 0) (.k 6)] [dS (.a (.x 0) (.k 2)) (.x 1) (.x 2)] (.nl (.x 2) (.k 8)) (.s (.l 1 [0,1,1]) (.l 1 [0,1])) rfl h0 (sub_c (x0+2) x1)
theorem o545:130≤350:=lin [] [] [] [] (.nl (.k 130) (.k 350)) (.l 1 []) rfl
theorem o551 {x0:Nat}:2*x0=x0+x0:=linN [x0] [] [] [] (.m 2 (.x 0)) (.a (.x 0) (.x 0)) (.l 1 []) (.l 1 []) rfl
theorem o552 {x0:Nat}:x0*2=x0+x0:=linN [x0] [] [] [] (.r (.x 0) 2) (.a (.x 0) (.x 0)) (.l 1 []) (.l 1 []) rfl
theorem o555 {x0:Nat} (h0:11≤x0):x0=x0 - 1+1:=linN [x0,x0 - 1] [] [.nl (.k 11) (.x 0)] [dS (.x 0) (.k 1) (.x 1)] (.x 0) (.a (.x 1) (.k 1)) (.s (.l 1 [0,-1]) (.l 0 [1,0,1])) (.s (.l 1 [0,1]) (.l 0 [1,0,1])) rfl h0 (sub_c x0 1)
theorem o556 {x0:Nat} (h0:11≤x0+1):4≤x0:=lin [x0] [] [.nl (.k 11) (.a (.x 0) (.k 1))] [] (.nl (.k 4) (.x 0)) (.l 1 [1]) rfl h0
theorem o557 {x0 x1:Nat} (h0:x0≤10) (h1:x0=x1):x1≤10:=lin [x0,x1] [] [.nl (.x 0) (.k 10),.ne (.x 0) (.x 1)] [] (.nl (.x 1) (.k 10)) (.l 1 [1,-1]) rfl h0 h1
theorem o560 {x0:Nat} (h0:2*(2*x0+4)+1≤350):x0+x0≤33000000:=lin [x0] [] [.nl (.a (.m 2 (.a (.m 2 (.x 0)) (.k 4))) (.k 1)) (.k 350)] [] (.nl (.a (.x 0) (.x 0)) (.k 33000000)) (.l 4 [2]) rfl h0
theorem o561 {x0 x1 x2:Nat} (h0:x0≤6) (h1:x1≤6) (h2:12≤x2):x0+x1≤x2+1:=lin [x0,x1,x2] [] [.nl (.x 0) (.k 6),.nl (.x 1) (.k 6),.nl (.k 12) (.x 2)] [] (.nl (.a (.x 0) (.x 1)) (.a (.x 2) (.k 1))) (.l 1 [1,1,1]) rfl h0 h1 h2
theorem o563 {x0:Nat} (h0:x0≤12):x0≤400:=lin [x0] [] [.nl (.x 0) (.k 12)] [] (.nl (.x 0) (.k 400)) (.l 1 [1]) rfl h0
theorem o564 {x0 x1:Nat} (h0:x0≤12) (h1:12≤x1):x0≤x1:=lin [x0,x1] [] [.nl (.x 0) (.k 12),.nl (.k 12) (.x 1)] [] (.nl (.x 0) (.x 1)) (.l 1 [1,1]) rfl h0 h1
theorem o567 {x0:Nat} (h0:x0≤12):x0≤15:=lin [x0] [] [.nl (.x 0) (.k 12)] [] (.nl (.x 0) (.k 15)) (.l 1 [1]) rfl h0
theorem o569 {x0:Nat} (h0:10≤x0):x0=x0 - 1+1:=linN [x0,x0 - 1] [] [.nl (.k 10) (.x 0)] [dS (.x 0) (.k 1) (.x 1)] (.x 0) (.a (.x 1) (.k 1)) (.s (.l 1 [0,-1]) (.l 0 [1,0,1])) (.s (.l 1 [0,1]) (.l 0 [1,0,1])) rfl h0 (sub_c x0 1)
theorem o570 {x0:Nat} (h0:10≤x0+1):8≤x0:=lin [x0] [] [.nl (.k 10) (.a (.x 0) (.k 1))] [] (.nl (.k 8) (.x 0)) (.l 1 [1]) rfl h0
theorem o572 {x0:Nat} (h0:x0≤5):x0≤6:=lin [x0] [] [.nl (.x 0) (.k 5)] [] (.nl (.x 0) (.k 6)) (.l 1 [1]) rfl h0
theorem o573 {x0:Nat} (h0:10≤x0+1):4≤x0:=lin [x0] [] [.nl (.k 10) (.a (.x 0) (.k 1))] [] (.nl (.k 4) (.x 0)) (.l 1 [1]) rfl h0
theorem o574:83≤1000:=lin [] [] [] [] (.nl (.k 83) (.k 1000)) (.l 1 []) rfl
theorem o575 {x0:Nat} (h0:x0≤5):x0≤15:=lin [x0] [] [.nl (.x 0) (.k 5)] [] (.nl (.x 0) (.k 15)) (.l 1 [1]) rfl h0
theorem o577 {x0 x1:Nat} (h0:x0≤5) (h1:x1≤x0):x1≤15:=lin [x0,x1] [] [.nl (.x 0) (.k 5),.nl (.x 1) (.x 0)] [] (.nl (.x 1) (.k 15)) (.l 1 [1,1]) rfl h0 h1
theorem o578 {x0:Nat} (h0:x0≤5):x0≤100:=lin [x0] [] [.nl (.x 0) (.k 5)] [] (.nl (.x 0) (.k 100)) (.l 1 [1]) rfl h0
theorem o581 {x0 x1:Nat} (h0:x0≤5) (h1:x1≤x0):x1≤6:=lin [x0,x1] [] [.nl (.x 0) (.k 5),.nl (.x 1) (.x 0)] [] (.nl (.x 1) (.k 6)) (.l 1 [1,1]) rfl h0 h1
theorem o582 {x0:Nat} (h0:10≤x0+1):5≤x0:=lin [x0] [] [.nl (.k 10) (.a (.x 0) (.k 1))] [] (.nl (.k 5) (.x 0)) (.l 1 [1]) rfl h0
theorem o590 {x0 x1:Nat} (h0:x0=2) (h1:2 - 1≤x1):x0 - 1≤x1:=lin [x0,x1,2 - 1,x0 - 1] [] [.ne (.x 0) (.k 2),.nl (.x 2) (.x 1)] [dS (.k 2) (.k 1) (.x 2),dS (.x 0) (.k 1) (.x 3)] (.nl (.x 3) (.x 1)) (.s (.s (.l 1 [0,1,0,-1,1,1]) (.l 1 [0,1])) (.l 0 [1])) rfl h0 h1 (sub_c 2 1) (sub_c x0 1)
theorem o591 {x0 x1:Nat} (h0:x0≤5) (h1:1≤x1):x0+2 - x1≤6:=lin [x0,x1,x0+2 - x1] [] [.nl (.x 0) (.k 5),.nl (.k 1) (.x 1)] [dS (.a (.x 0) (.k 2)) (.x 1) (.x 2)] (.nl (.x 2) (.k 6)) (.s (.l 1 [0,1,1,1]) (.l 1 [0,1])) rfl h0 h1 (sub_c (x0+2) x1)
theorem o593 {x0 x1:Nat} (h0:x0≤5) (h1:1≤x1):x0+1 - x1≤5:=lin [x0,x1,x0+1 - x1] [] [.nl (.x 0) (.k 5),.nl (.k 1) (.x 1)] [dS (.a (.x 0) (.k 1)) (.x 1) (.x 2)] (.nl (.x 2) (.k 5)) (.s (.l 1 [0,1,1,1]) (.l 1 [0,1])) rfl h0 h1 (sub_c (x0+1) x1)
theorem o599:1≤83:=lin [] [] [] [] (.nl (.k 1) (.k 83)) (.l 1 []) rfl
theorem o600:83≤350:=lin [] [] [] [] (.nl (.k 83) (.k 350)) (.l 1 []) rfl
theorem o604 {x0:Nat} (h0:x0≤15):x0+2 - 2≤15:=lin [x0,x0+2 - 2] [] [.nl (.x 0) (.k 15)] [dS (.a (.x 0) (.k 2)) (.k 2) (.x 1)] (.nl (.x 1) (.k 15)) (.s (.l 1 [0,1,1]) (.l 1 [0,1])) rfl h0 (sub_c (x0+2) 2)
theorem o606 {x0:Nat} (h0:12≤x0):x0=x0 - 1+1:=linN [x0,x0 - 1] [] [.nl (.k 12) (.x 0)] [dS (.x 0) (.k 1) (.x 1)] (.x 0) (.a (.x 1) (.k 1)) (.s (.l 1 [0,-1]) (.l 0 [1,0,1])) (.s (.l 1 [0,1]) (.l 0 [1,0,1])) rfl h0 (sub_c x0 1)
theorem o607 {x0:Nat} (h0:12≤x0+1):8≤x0:=lin [x0] [] [.nl (.k 12) (.a (.x 0) (.k 1))] [] (.nl (.k 8) (.x 0)) (.l 1 [1]) rfl h0
theorem o608 {x0:Nat} (h0:12≤x0+1):4≤x0:=lin [x0] [] [.nl (.k 12) (.a (.x 0) (.k 1))] [] (.nl (.k 4) (.x 0)) (.l 1 [1]) rfl h0
theorem o609 {x0:Nat} (h0:12≤x0+1):10≤x0:=lin [x0] [] [.nl (.k 12) (.a (.x 0) (.k 1))] [] (.nl (.k 10) (.x 0)) (.l 1 [1]) rfl h0
theorem o611 {x0:Nat} (h0:x0≤6):Int.toNat ((x0:Int) - 0)≤1000000:=lin [x0,Int.toNat ((x0:Int) - 0)] [] [.nl (.x 0) (.k 6)] [dT (.s (.c (.x 0)) (.k 0)) (.x 1)] (.nl (.x 1) (.k 1000000)) (.s (.l 1 [0,1,1]) (.l 1 [0,1])) rfl h0 (toNat_c ((x0:Int) - 0))
theorem o612 {x0 x1:Nat} (h0:x0≤6) (h1:x1<Int.toNat ((x0:Int) - 0)):Int.natAbs ((x1+1:Nat):Int)<2 ^ 11:=lin [x0,x1,Int.toNat ((x0:Int) - 0),Int.natAbs ((x1+1:Nat):Int),2 ^ 11] [] [.nl (.x 0) (.k 6),.nt (.x 1) (.x 2),.ne (.x 4) (.k 2048)] [dT (.s (.c (.x 0)) (.k 0)) (.x 2),dA (.c (.a (.x 1) (.k 1))) (.x 3)] (.nt (.x 3) (.x 4)) (.s (.s (.l 1 [0,1,0,1,1,1,-1]) (.l 0 [1])) (.l 0 [0,1,0,1])) rfl h0 h1 (rfl:2 ^ 11=2048) (toNat_c ((x0:Int) - 0)) (natAbs_c ((x1+1:Nat):Int))
theorem o622:1≤30:=lin [] [] [] [] (.nl (.k 1) (.k 30)) (.l 1 []) rfl
theorem o628:1≤20:=lin [] [] [] [] (.nl (.k 1) (.k 20)) (.l 1 []) rfl
theorem o630 {x0:Nat} (h0:x0≤4):x0+1≤5:=lin [x0] [] [.nl (.x 0) (.k 4)] [] (.nl (.a (.x 0) (.k 1)) (.k 5)) (.l 1 [1]) rfl h0
theorem o634 {x0:Nat} (h0:x0≤5):x0≤1000:=lin [x0] [] [.nl (.x 0) (.k 5)] [] (.nl (.x 0) (.k 1000)) (.l 1 [1]) rfl h0
theorem o635 {x0:Nat} (h0:x0≤5):x0+1≤1000:=lin [x0] [] [.nl (.x 0) (.k 5)] [] (.nl (.a (.x 0) (.k 1)) (.k 1000)) (.l 1 [1]) rfl h0
theorem o636:1≤130:=lin [] [] [] [] (.nl (.k 1) (.k 130)) (.l 1 []) rfl
theorem o638 {x0:Nat} (h0:1≤x0):(x0:Int)≠0:=fun c0=>lin [x0] [] [.nl (.k 1) (.x 0),.ie (.c (.x 0)) (.k 0)] [] .f (.l 0 [1,1]) rfl h0 c0
theorem o639 {x0:Nat} (h0:1≤x0):0<x0:=lin [x0] [] [.nl (.k 1) (.x 0)] [] (.nt (.k 0) (.x 0)) (.l 1 [1]) rfl h0
theorem o642 {x0 x1:Nat} (h0:x0≤5):min x1 x0≤1000000:=lin [x0,x1,min x1 x0] [] [.nl (.x 0) (.k 5)] [dM (.x 1) (.x 0) (.x 2)] (.nl (.x 2) (.k 1000000)) (.s (.l 1 [1,1,1]) (.l 1 [0,1,1])) rfl h0 (minN_c x1 x0)
theorem o643 {x0 x1:Nat} (h0:x0≤5):min x1 x0+1≤1000000:=lin [x0,x1,min x1 x0] [] [.nl (.x 0) (.k 5)] [dM (.x 1) (.x 0) (.x 2)] (.nl (.a (.x 2) (.k 1)) (.k 1000000)) (.s (.l 1 [1,1,1]) (.l 1 [0,1,1])) rfl h0 (minN_c x1 x0)
theorem o644 {x0 x1:Nat} (h0:x0≤5):x0 - x1≤1000000:=lin [x0,x1,x0 - x1] [] [.nl (.x 0) (.k 5)] [dS (.x 0) (.x 1) (.x 2)] (.nl (.x 2) (.k 1000000)) (.s (.l 1 [0,1,1]) (.l 1 [0,1])) rfl h0 (sub_c x0 x1)
theorem o645 {x0 x1:Nat} (h0:x0≤5):min x1 x0+(x0 - x1)≤900:=lin [x0,x1,min x1 x0,x0 - x1] [] [.nl (.x 0) (.k 5)] [dM (.x 1) (.x 0) (.x 2),dS (.x 0) (.x 1) (.x 3)] (.nl (.a (.x 2) (.x 3)) (.k 900)) (.s (.s (.l 1 [0,1,0,1,1]) (.l 1 [0,1,1,1,1])) (.s (.l 1 [0,1,0,1,2]) (.l 1 [0,1,0,1,1]))) rfl h0 (minN_c x1 x0) (sub_c x0 x1)
theorem o649 {x0:Nat} (h0:x0≤20):x0≤1000000:=lin [x0] [] [.nl (.x 0) (.k 20)] [] (.nl (.x 0) (.k 1000000)) (.l 1 [1]) rfl h0
theorem o651 {x0:Nat} (h0:13≤x0):x0=x0 - 1+1:=linN [x0,x0 - 1] [] [.nl (.k 13) (.x 0)] [dS (.x 0) (.k 1) (.x 1)] (.x 0) (.a (.x 1) (.k 1)) (.s (.l 1 [0,-1]) (.l 0 [1,0,1])) (.s (.l 1 [0,1]) (.l 0 [1,0,1])) rfl h0 (sub_c x0 1)
theorem o652 {x0:Nat} (h0:13≤x0+1):9≤x0:=lin [x0] [] [.nl (.k 13) (.a (.x 0) (.k 1))] [] (.nl (.k 9) (.x 0)) (.l 1 [1]) rfl h0
theorem o656 {x0:Nat} (h0:13≤x0+1):10≤x0:=lin [x0] [] [.nl (.k 13) (.a (.x 0) (.k 1))] [] (.nl (.k 10) (.x 0)) (.l 1 [1]) rfl h0
theorem o657 {x0:Nat} (h0:13≤x0+1):12≤x0:=lin [x0] [] [.nl (.k 13) (.a (.x 0) (.k 1))] [] (.nl (.k 12) (.x 0)) (.l 1 [1]) rfl h0
theorem o659 {x0:Nat} (h0:14≤x0):x0=x0 - 1+1:=linN [x0,x0 - 1] [] [.nl (.k 14) (.x 0)] [dS (.x 0) (.k 1) (.x 1)] (.x 0) (.a (.x 1) (.k 1)) (.s (.l 1 [0,-1]) (.l 0 [1,0,1])) (.s (.l 1 [0,1]) (.l 0 [1,0,1])) rfl h0 (sub_c x0 1)
theorem o660 {x0:Nat} (h0:14≤x0+1):13≤x0:=lin [x0] [] [.nl (.k 14) (.a (.x 0) (.k 1))] [] (.nl (.k 13) (.x 0)) (.l 1 [1]) rfl h0
theorem o661 {x0:Nat} (h0:x0≤6):((x0:Int)<6)↔(x0<6):=by omega
theorem o663 {x0:Nat} (h0:x0=9):x0≤1000:=lin [x0] [] [.ne (.x 0) (.k 9)] [] (.nl (.x 0) (.k 1000)) (.l 1 [1]) rfl h0
theorem o664 {x0:Nat} (h0:x0=9):7<x0:=lin [x0] [] [.ne (.x 0) (.k 9)] [] (.nt (.k 7) (.x 0)) (.l 1 [-1]) rfl h0
theorem o667 {x0:Nat} (h0:x0+2<2):¬ (x0+2<2):=fun c0=>lin [x0] [] [.nt (.a (.x 0) (.k 2)) (.k 2)] [] .f (.l 0 [1]) rfl h0
theorem o668 {x0:Nat} (h0:x0+4<4):¬ (x0+4<4):=fun c0=>lin [x0] [] [.nt (.a (.x 0) (.k 4)) (.k 4)] [] .f (.l 0 [1]) rfl h0
theorem o669 {x0:Nat} (h0:x0=9):6<x0:=lin [x0] [] [.ne (.x 0) (.k 9)] [] (.nt (.k 6) (.x 0)) (.l 1 [-1]) rfl h0
theorem o670 {x0:Nat} (h0:14≤x0):2≤x0:=lin [x0] [] [.nl (.k 14) (.x 0)] [] (.nl (.k 2) (.x 0)) (.l 1 [1]) rfl h0
theorem o671 {x0:Nat} (h0:x0≤4):x0≤100:=lin [x0] [] [.nl (.x 0) (.k 4)] [] (.nl (.x 0) (.k 100)) (.l 1 [1]) rfl h0
theorem o672:0<4:=lin [] [] [] [] (.nt (.k 0) (.k 4)) (.l 1 []) rfl
theorem o673 {x0:Nat} (h0:15≤x0):x0=x0 - 1+1:=linN [x0,x0 - 1] [] [.nl (.k 15) (.x 0)] [dS (.x 0) (.k 1) (.x 1)] (.x 0) (.a (.x 1) (.k 1)) (.s (.l 1 [0,-1]) (.l 0 [1,0,1])) (.s (.l 1 [0,1]) (.l 0 [1,0,1])) rfl h0 (sub_c x0 1)
theorem o674 {x0:Nat} (h0:x0=9):1<x0:=lin [x0] [] [.ne (.x 0) (.k 9)] [] (.nt (.k 1) (.x 0)) (.l 1 [-1]) rfl h0
theorem o676 {x0:Nat} (h0:x0=9):2<x0:=lin [x0] [] [.ne (.x 0) (.k 9)] [] (.nt (.k 2) (.x 0)) (.l 1 [-1]) rfl h0
theorem o677 {x0:Nat} (h0:x0=9):3<x0:=lin [x0] [] [.ne (.x 0) (.k 9)] [] (.nt (.k 3) (.x 0)) (.l 1 [-1]) rfl h0
theorem o678 {x0:Nat} (h0:15≤x0+1):2≤x0:=lin [x0] [] [.nl (.k 15) (.a (.x 0) (.k 1))] [] (.nl (.k 2) (.x 0)) (.l 1 [1]) rfl h0
theorem o679:0<2:=lin [] [] [] [] (.nt (.k 0) (.k 2)) (.l 1 []) rfl
theorem o680 {x0:Nat} (h0:x0=9):4<x0:=lin [x0] [] [.ne (.x 0) (.k 9)] [] (.nt (.k 4) (.x 0)) (.l 1 [-1]) rfl h0
theorem o681:1<2:=lin [] [] [] [] (.nt (.k 1) (.k 2)) (.l 1 []) rfl
theorem o682 {x0:Nat} (h0:x0=9):5<x0:=lin [x0] [] [.ne (.x 0) (.k 9)] [] (.nt (.k 5) (.x 0)) (.l 1 [-1]) rfl h0
theorem o683 {x0:Nat} (h0:15≤x0+1):14≤x0:=lin [x0] [] [.nl (.k 15) (.a (.x 0) (.k 1))] [] (.nl (.k 14) (.x 0)) (.l 1 [1]) rfl h0
theorem o684 {x0:Nat} (h0:x0<7):x0≤6:=lin [x0] [] [.nt (.x 0) (.k 7)] [] (.nl (.x 0) (.k 6)) (.l 1 [1]) rfl h0
theorem o687 {x0:Int} (h0:(-4)≤x0) (h1:x0≤4):Int.natAbs x0<8:=lin [Int.natAbs x0] [x0] [.il (.g (.k 4)) (.x 0),.il (.x 0) (.k 4)] [dA (.x 0) (.x 0)] (.nt (.x 0) (.k 8)) (.s (.l 1 [0,1,0,1]) (.l 1 [0,1,1])) rfl h0 h1 (natAbs_c x0)
theorem o688:1<8:=lin [] [] [] [] (.nt (.k 1) (.k 8)) (.l 1 []) rfl
theorem o690 {x0:Nat} (h0:x0+3<3):¬ (x0+3<3):=fun c0=>lin [x0] [] [.nt (.a (.x 0) (.k 3)) (.k 3)] [] .f (.l 0 [1]) rfl h0
theorem o692:0<3:=lin [] [] [] [] (.nt (.k 0) (.k 3)) (.l 1 []) rfl
theorem o693 {x0:Nat} (h0:14≤x0):3≤x0:=lin [x0] [] [.nl (.k 14) (.x 0)] [] (.nl (.k 3) (.x 0)) (.l 1 [1]) rfl h0
theorem o694 {x0:Nat} (h0:x0=9):8<x0:=lin [x0] [] [.ne (.x 0) (.k 9)] [] (.nt (.k 8) (.x 0)) (.l 1 [-1]) rfl h0
theorem o699:4≤19:=lin [] [] [] [] (.nl (.k 4) (.k 19)) (.l 1 []) rfl
theorem o706:15≤19:=lin [] [] [] [] (.nl (.k 15) (.k 19)) (.l 1 []) rfl
theorem o707 {x0:Nat} (h0:x0≤4):x0≤4:=lin [x0] [] [.nl (.x 0) (.k 4)] [] (.nl (.x 0) (.k 4)) (.l 1 [1]) rfl h0
theorem o708 {x0:Nat} (h0:x0≤3):x0≤4:=lin [x0] [] [.nl (.x 0) (.k 3)] [] (.nl (.x 0) (.k 4)) (.l 1 [1]) rfl h0
end Mine
namespace Mine
open PySem
set_option genSizeOf false
inductive D where
 | none
 | bool (b:Bool)
 | int (i:Int)
 | str (s:Str)
 | tup (ds:List D)
 | lst (a:Addr)
 | exc (a:Addr) (e:Str) (C:Addr)
mutual
inductive Rep (h:Heap):Value→D→Prop
 | none:Rep h .none .none
 | bool (b:Bool):Rep h (.bool b) (.bool b)
 | int (i:Int) (t:Tok):Rep h (.int i t) (.int i)
 | str (s:Str) (t:Tok):Rep h (.str s t) (.str s)
 | tup {a:Addr} {n:Nat} {vs:List Value} {ds:List D}:IsT h a vs.toArray n→Reps h vs ds→Rep h (.ref a) (.tup ds)
 | lst (a:Addr):Rep h (.ref a) (.lst a)
 | exc {a:Addr} {e:Str} {C:Addr} {o:Obj} {vs:Array Value}:h.get? a=some o→o.cls=.ref C→o.data=.fields vs→Rep h (.ref a) (.exc a e C)
inductive Reps (h:Heap):List Value→List D→Prop
 | nil:Reps h [] []
 | cons {v:Value} {vs:List Value} {d:D} {ds:List D}:Rep h v d→Reps h vs ds→Reps h (v :: vs) (d :: ds)
end
noncomputable def stable (o:Obj):Prop:=(∃ xs n,o.cls=.type "tuple"∧o.data=.seq xs n)∨∃ vs,o.data=.fields vs
noncomputable def Grow (h h':Heap):Prop:=∀ b o,h.get? b=some o→stable o→h'.get? b=some o
theorem Grow.refl (h:Heap):Grow h h:=fun _ _ e _=>e
theorem Grow.trans {h₁ h₂ h₃:Heap} (x:Grow h₁ h₂) (y:Grow h₂ h₃):Grow h₁ h₃:=fun b o e q=>y b o (x b o e q) q
theorem isT_grow {h h':Heap} (g:Grow h h') {a:Addr} {xs:Array Value} {n:Nat} (x:IsT h a xs n):IsT h' a xs n:=g a _ x (.inl ⟨_,_,rfl,rfl⟩)
theorem IsT.tuple {h:Heap} {a:Addr} {xs:Array Value} {n:Nat} (x:IsT h a xs n):h.IsTuple a xs:=⟨_,x,rfl,n,rfl⟩
theorem Rep.trans {h h':Heap} (t:∀ {a:Addr} {xs:Array Value} {n:Nat},IsT h a xs n→IsT h' a xs n) (e:∀ {a:Addr} {C:Addr} {o:Obj} {vs:Array Value},h.get? a=some o→o.cls=.ref C→o.data=.fields vs→h'.get? a=some o) {v:Value} {d:D} (r:Rep h v d):Rep h' v d :=
 Rep.rec (motive_1:=fun v d _=>Rep h' v d) (motive_2:=fun vs ds _=>Reps h' vs ds) .none .bool .int .str (fun x _ y=>.tup (t x) y) .lst (fun x y z=>.exc (e x y z) y z) .nil (fun _ _ x y=>.cons x y) r
theorem Reps.ind {h:Heap} {P:List Value→List D→Prop} (n:P [] []) (c:∀ {v:Value} {vs:List Value} {d:D} {ds:List D},Rep h v d→Reps h vs ds→P vs ds→P (v :: vs) (d :: ds)) {vs:List Value} {ds:List D} (r:Reps h vs ds):P vs ds :=
 Reps.rec (motive_1:=fun _ _ _=>True) (motive_2:=fun vs ds _=>P vs ds) trivial (fun _=>trivial) (fun _ _=>trivial) (fun _ _=>trivial) (fun _ _ _=>trivial) (fun _=>trivial) (fun _ _ _=>trivial) n (fun x y _ z=>c x y z) r
theorem Rep.grow {h h':Heap} (g:Grow h h') {v:Value} {d:D} (r:Rep h v d):Rep h' v d:=r.trans (isT_grow g) fun x _ z=>g _ _ x (.inr ⟨_,z⟩)
theorem Reps.over {h h':Heap} (f:∀ {v:Value} {d:D},Rep h v d→Rep h' v d) {vs:List Value} {ds:List D} (r:Reps h vs ds):Reps h' vs ds:=Reps.ind (P:=Reps h') .nil (fun x _ z=>.cons (f x) z) r
theorem Reps.grow {h h':Heap} (g:Grow h h') {vs:List Value} {ds:List D} (r:Reps h vs ds):Reps h' vs ds:=r.over (Rep.grow g)
theorem Reps.length {h:Heap} {vs:List Value} {ds:List D} (r:Reps h vs ds):vs.length=ds.length:=Reps.ind (P:=fun vs ds=>vs.length=ds.length) rfl (fun _ _ z=>congrArg Nat.succ z) r
theorem Reps.append {h:Heap} {vs ws:List Value} {ds es:List D} (r:Reps h vs ds) (k:Reps h ws es):Reps h (vs ++ ws) (ds ++ es):=Reps.ind (P:=fun vs ds=>Reps h (vs ++ ws) (ds ++ es)) k (fun x _ z=>.cons x z) r
theorem Reps.get {h:Heap} {vs:List Value} {ds:List D} {i:Nat} {d:D} (r:Reps h vs ds) (e:ds[i]?=some d):∃ v,vs[i]?=some v∧Rep h v d:=Reps.ind (P:=fun vs ds=>∀ i,ds[i]?=some d→∃ v,vs[i]?=some v∧Rep h v d) (fun _ e=>by rw [List.getElem?_nil] at e; cases e) (fun x _ z i=>Nat.casesOn i (fun e=>⟨_,rfl,Option.some.inj e ▸ x⟩) fun i e=>z i e) r i e
theorem Reps.set {h:Heap} {v:Value} {d:D} (r:Rep h v d) {vs:List Value} {ds:List D} {i:Nat} (q:Reps h vs ds):Reps h (vs.set i v) (ds.set i d):=Reps.ind (P:=fun vs ds=>∀ i,Reps h (vs.set i v) (ds.set i d)) (fun _=>.nil) (fun x y z i=>Nat.casesOn i (.cons r y) fun i=>.cons x (z i)) q i
theorem Reps.drop {h:Heap} {vs:List Value} {ds:List D} (i:Nat) (q:Reps h vs ds):Reps h (vs.drop i) (ds.drop i):=Reps.ind (P:=fun vs ds=>∀ i,Reps h (vs.drop i) (ds.drop i)) (fun i=>Nat.casesOn i .nil fun _=>.nil) (fun x y z i=>Nat.casesOn i (.cons x y) fun i=>z i) q i
theorem Reps.take {h:Heap} {vs:List Value} {ds:List D} (i:Nat) (q:Reps h vs ds):Reps h (vs.take i) (ds.take i):=Reps.ind (P:=fun vs ds=>∀ i,Reps h (vs.take i) (ds.take i)) (fun i=>Nat.casesOn i .nil fun _=>.nil) (fun x _ z i=>Nat.casesOn i .nil fun i=>.cons x (z i)) q i
noncomputable def noDict (o:Obj):Prop:=∀ es n,o.data≠.dict es n
noncomputable def Kept (fs:List Addr) (h h':Heap):Prop:=∀ b o,h.get? b=some o→∃ sl,h'.get? b=some { o with slots:=sl }∧(b∉fs∨noDict o→sl=o.slots)
theorem Kept.refl (fs:List Addr) (h:Heap):Kept fs h h:=fun b o e=>⟨o.slots,e,fun _=>rfl⟩
theorem Kept.of_keeps {fs:List Addr} {h h':Heap} (k:∀ b o,h.get? b=some o→h'.get? b=some o):Kept fs h h':=fun b o e=>⟨o.slots,k b o e,fun _=>rfl⟩
theorem Kept.trans {fs:List Addr} {h₁ h₂ h₃:Heap} (x:Kept fs h₁ h₂) (y:Kept fs h₂ h₃):Kept fs h₁ h₃:=fun b o e=>by
 obtain ⟨s1,e1,q1⟩:=x b o e
 obtain ⟨s2,e2,q2⟩:=y b _ e1
 exact ⟨s2,e2,fun n=>(q2 n).trans (q1 n)⟩
theorem Kept.exact {fs:List Addr} {h h':Heap} (x:Kept fs h h') {b:Addr} {o:Obj} (e:h.get? b=some o) (n:b∉fs∨noDict o):h'.get? b=some o:=by
 obtain ⟨sl,e1,q⟩:=x b o e
 rw [e1,q n]
theorem Kept.grow {fs:List Addr} {h h':Heap} (x:Kept fs h h'):Grow h h':=fun b o e st=>x.exact e (.inr fun es n q=>by
 rcases st with ⟨xs,m,_,st⟩ | ⟨vs,st⟩ <;> (rw [q] at st; cases st))
theorem Kept.but {fs:List Addr} {h h₁ h₂:Heap} {a:Addr} (x:Kept fs h h₁) (na:h.get? a=none) (y:∀ b o,b≠a→h₁.get? b=some o→h₂.get? b=some o):Kept fs h h₂:=fun b o e=>by
 obtain ⟨sl,e1,q⟩:=x b o e
 exact ⟨sl,y b _ (fun z=>by rw [z,na] at e; cases e) e1,q⟩
theorem Ns.kept {fs:List Addr} {h h':Heap} (x:Kept fs h h') {a:Addr} {m:Str→Option Value} (n:h.Ns a m):h'.Ns a m:=by
 obtain ⟨o,es,ep,ho,hd,r⟩:=n
 obtain ⟨sl,e,_⟩:=x a o ho
 exact ⟨_,es,ep,e,hd,r⟩
theorem Ns.unique {h:Heap} {a:Addr} {m m':Str→Option Value} (x:h.Ns a m) (y:h.Ns a m'):m=m':=by
 obtain ⟨o,es,ep,ho,hd,_,r⟩:=x
 obtain ⟨o',es',ep',ho',hd',_,r'⟩:=y
 rw [ho] at ho'; cases ho'
 rw [hd] at hd'; cases hd'
 funext n
 rw [← r,← r']
end Mine
namespace Mine
open PySem
inductive Cell where
 | list (own:Bool) (ds:List D)
 | dict (ps:List (Int×D))
abbrev Sto:=Addr→Option Cell
structure St where
 loc:Nat→Option D
 sto:Sto
noncomputable def St.set (σ:St) (i:Nat) (d:D):St:={ σ with loc:=fun j=>if j=i then some d else σ.loc j }
noncomputable def St.del (σ:St) (i:Nat):St:={ σ with loc:=fun j=>if j=i then none else σ.loc j }
noncomputable def Sto.put (σ:Sto) (a:Addr) (k:Cell):Sto:=fun b=>if b=a then some k else σ b
noncomputable def St.put (σ:St) (a:Addr) (k:Cell):St:={ σ with sto:=Sto.put σ.sto a k }
noncomputable def Cell.ro:Cell→Option Cell
 | .list _ ds=>some (.list false ds)
 | .dict _=>none
noncomputable def Cell.mine:Cell→Prop
 | .list o _=>o=true
 | .dict _=>True
noncomputable def Sto.ro (σ:Sto):Sto:=fun a=>(σ a).bind Cell.ro
noncomputable def St.ro (σ:St):St:={ σ with sto:=Sto.ro σ.sto }
inductive Blt where
 | len | abs | max | min | int | list | tuple | sum
inductive Ty where
 | int | bool | tuple | list | valueError
 | own (c:Str)
inductive ItK where
 | plain | range | zip
set_option genSizeOf false
set_option genInjectivity false
inductive E where
 | cnone
 | cbool (b:Bool)
 | cint (i:Int)
 | cstr (s:Str)
 | var (i:Nat)
 | glob (x:Str)
 | bin (op:Operator) (a b:E)
 | neg (a:E)
 | not (a:E)
 | cmp (op:CmpOp) (a b:E)
 | bool (op:BoolOp) (es:List E)
 | call (f:Str) (es:List E)
 | blt (f:Blt) (es:List E)
 | isa (a:E) (ty:Ty)
 | idx (a i:E)
 | slice (a:E) (lo hi:Option E)
 | tup (es:List E)
 | lst (es:List E)
 | comp (elt:E) (xs:List (Nat×Str)) (k:ItK) (es:List E)
 | append (o a:E)
 | dict0
 | getd (o k d:E)
 | maxd (o:E)
inductive S where
 | expr (e:E)
 | assign (x:Nat) (e:E)
 | unpack (xs:List Nat) (e:E)
 | swap (xs:List Nat) (es:List E)
 | setitem (o i e:E)
 | ifs (t:E) (a b:List S)
 | whiles (t:E) (b:List S)
 | fors (xs:List Nat) (one:Bool) (k:ItK) (es:List E) (b:List S)
 | ret (e:E)
 | raise (c:Str) (msg:Str)
 | tryx (b:List S) (c:Str) (x:Option Nat) (h:List S)
 | pass
 | any
inductive Fl where
 | next | brk | cont
 | ret (d:D)
structure Cx where
 prog:Program
 w:World
 B:Heap
 mg:Str→Option Value
 cs:Str→Option D
 cls:Str→Option Addr
 sub:Str→Str→Bool
 ie:Bool
noncomputable def FramesOK (B h:Heap) (l:List Env):Prop:=∀ env∈l,env.scope.kind=.function∧∃ L m,env.frame=some L∧B.get? L=none∧h.Ns L m
noncomputable def fsOf (l:List Env):List Addr:=l.filterMap (·.frame)
noncomputable def CellOK (h hE:Heap) (a:Addr):Cell→Prop
 | .list own ds=>∃ vs:List Value,h.IsList a vs.toArray∧(own=true→h.PlainList a vs.toArray∧hE.get? a=none)∧Reps h vs ds
 | .dict ps=>hE.get? a=none∧∃ kvs:List (Int×Value),(∀ prog w,h.DictOf (intKind prog w) a kvs)∧kvs.map (·.1)=ps.map (·.1)∧Reps h (kvs.map (·.2)) (ps.map (·.2))
noncomputable def SameSh (s s':Shared):Prop:=∃ h t,s'={ s with heap:=h,toks:=t }
theorem SameSh.refl (s:Shared):SameSh s s:=⟨s.heap,s.toks,rfl⟩
theorem SameSh.trans {s s' s'':Shared} (x:SameSh s s') (y:SameSh s' s''):SameSh s s'':=by
 obtain ⟨h,t,rfl⟩:=x
 obtain ⟨h',t',rfl⟩:=y
 exact ⟨h',t',rfl⟩
noncomputable def IsFn (c:Cx) (f:Str):Prop:=∃ a o fd,c.mg f=some (.ref a)∧c.B.get? a=some o∧o.data=.func fd
noncomputable def CallEnd (c:Cx) (l:List Env) (sto:Sto) (Q:D→Sto→Prop) (X:Str→Prop) (s:Shared) (r:Result) (s':Shared):Prop :=
 SameSh s s'∧c.B.StaysIn s'.heap∧Kept (fsOf l) s.heap s'.heap∧match r with
  | .ok (.ret v)=>∃ d sto',Rep s'.heap v d∧(∀ b k,sto' b=some k→sto b=some k∨(s.heap.get? b=none∧CellOK s'.heap s.heap b k))∧Q d sto'
  | .ok _=>False
  | .error e=>∃ ea nm C t,e=.ref ea∧c.cls nm=some C∧X nm∧∃ B',(∀ b o,s.heap.get? b=some o→b∉fsOf l→B'.get? b=some o)∧Heap.FlyingW B' l ea (.ref C) t s'.heap
noncomputable def CallAt (c:Cx) (n:Nat) (a:Addr) (ds:List D) (sto:Sto) (Q:D→Sto→Prop) (X:Str→Prop):Prop :=
 ∀ (A:Around) (l:List Env) (s:Shared) (vs:List Value),A.frames=some l→A.handled=none→A.depth+n<800→A.units+4*n<9000→
  c.B.StaysIn s.heap→FramesOK c.B s.heap l→Reps s.heap vs ds→(∀ b k,sto b=some k→∃ hE,CellOK s.heap hE b k)→
  codeAny (model c.prog c.w) A (.call (.ref a) ⟨vs,[]⟩) (CallEnd c l sto Q X s) s
noncomputable def CallOK (c:Cx) (n:Nat) (f:Str) (ds:List D) (sto:Sto) (Q:D→Sto→Prop) (X:Str→Prop):Prop :=
 ∃ a o fd,c.mg f=some (.ref a)∧c.B.get? a=some o∧o.data=.func fd∧CallAt c n a ds sto Q X
noncomputable def lim:Nat:=1000000
noncomputable def repL {α:Type} (n:Int) (l:List α):List α:=(List.replicate n.toNat l).flatten
noncomputable def intII (x y:D) (K:Int→Int→Prop):Prop:=match x with
 | .int a=>(match y with | .int b=>K a b | _=>False)
 | _=>False
noncomputable def opAdd (x y:D) (Q:D→St→Prop) (σ:St):Prop:=match x with
 | .int a=>(match y with | .int b=>Q (.int (a+b)) σ | _=>False)
 | .tup a=>(match y with | .tup b=>a.length≤lim∧b.length≤lim∧Q (.tup (a ++ b)) σ | _=>False)
 | .lst a=>(match y with
  | .lst b=>∃ o₁ xs o₂ ys,σ.sto a=some (.list o₁ xs)∧σ.sto b=some (.list o₂ ys)∧xs.length≤lim∧ys.length≤lim∧∀ l,σ.sto l=none→Q (.lst l) (σ.put l (.list true (xs ++ ys)))
  | _=>False)
 | _=>False
noncomputable def opMul (x y:D) (Q:D→St→Prop) (σ:St):Prop:=match x with
 | .int a=>(match y with | .int b=>IntMulOk a b∧Q (.int (a*b)) σ | _=>False)
 | .lst a=>(match y with
  | .int n=>∃ xs,σ.sto a=some (.list true xs)∧xs.length≤100∧-10000≤n∧n≤10000∧∀ l,σ.sto l=none→Q (.lst l) (σ.put l (.list true (repL n xs)))
  | _=>False)
 | _=>False
noncomputable def opBin (op:Operator) (x y:D) (Q:D→St→Prop) (σ:St):Prop:=match op with
 | .Add=>opAdd x y Q σ
 | .Sub=>intII x y fun a b=>Q (.int (a - b)) σ
 | .Mult=>opMul x y Q σ
 | .FloorDiv=>intII x y fun a b=>b≠0∧Q (.int (a.fdiv b)) σ
 | .Mod=>intII x y fun a b=>b≠0∧Q (.int (a.fmod b)) σ
 | _=>False
noncomputable def opNeg (x:D) (Q:D→St→Prop) (σ:St):Prop:=match x with
 | .int i=>Q (.int (-i)) σ
 | _=>False
noncomputable def truth:D→Option Bool
 | .none=>some false
 | .bool b=>some b
 | .int i=>some (i != 0)
 | _=>none
noncomputable def wTruth (d:D) (Q:Bool→St→Prop) (σ:St):Prop:=∃ b,truth d=some b∧Q b σ
noncomputable def eqL (f:D→D→Option Bool):List D→List D→Option Bool
 | [],bs=>(match bs with | []=>some true | _ :: _=>some false)
 | a :: as,bs=>(match bs with
  | []=>some false
  | b :: bs=>(match f a b with
   | some x=>(match eqL f as bs with | some y=>some (x&&y) | none=>none)
   | none=>none))
noncomputable def eqK (fo:Option (D→D→Option Bool)) (x y:D):Option Bool:=match x with
 | .int a=>(match y with | .int b=>some (a==b) | _=>none)
 | .bool a=>(match y with | .bool b=>some (a==b) | _=>none)
 | .tup as=>(match y with | .tup bs=>(match fo with | some f=>eqL f as bs | none=>none) | _=>none)
 | _=>none
noncomputable def eqD:Nat→D→D→Option Bool
 | 0=>eqK none
 | n+1=>eqK (some (eqD n))
noncomputable def lstOf (σ:Sto) (a:Addr):Option (List D):=match σ a with
 | some k=>(match k with | .list _ xs=>some xs | .dict _=>none)
 | none=>none
noncomputable def eqMix (σ:Sto) (x y:D):Option Bool:=match x with
 | .str a=>(match y with | .str b=>some (a==b) | .tup _=>some false | _=>none)
 | .none=>(match y with | .tup _=>some false | _=>none)
 | .int _=>(match y with | .tup _=>some false | _=>none)
 | .bool _=>(match y with | .tup _=>some false | _=>none)
 | .lst a=>(match y with | .tup _=>(match lstOf σ a with | some _=>some false | none=>none) | _=>none)
 | _=>none
noncomputable def eqTop (σ:Sto) (x y:D):Option Bool:=match x with
 | .lst a=>(match y with
  | .lst b=>(match lstOf σ a with
   | some xs=>(match lstOf σ b with | some ys=>eqL (eqD 50) xs ys | none=>none)
   | none=>none)
  | _=>eqD 50 x y)
 | _=>eqD 50 x y
noncomputable def opCmp (op:CmpOp) (x y:D) (Q:D→St→Prop) (σ:St):Prop :=
 match op with
 | .Lt=>intII x y fun a b=>Q (.bool (decide (a<b))) σ
 | .Gt=>intII x y fun a b=>Q (.bool (decide (a > b))) σ
 | .Eq=>(∃ b,eqTop σ.sto x y=some b∧Q (.bool b) σ)∨∃ b,eqMix σ.sto x y=some b∧Q (.bool b) σ
 | .In=>∃ (i:Int) (js:List Int),x=.int i∧y=.tup (js.map D.int)∧Q (.bool (js.any (·==i))) σ
 | .NotEq=>∃ b,eqTop σ.sto x y=some b∧Q (.bool (!b)) σ
 | _=>False
noncomputable def nth {α:Type} (l:List α) (i:Int):Option α:=if 0≤i then l[i.toNat]? else if -(l.length:Int)≤i then l[(l.length+i).toNat]? else none
noncomputable def opIdx (x y:D) (Q:D→St→Prop) (σ:St):Prop:=match y with
 | .int i=>(match x with
  | .tup ds=>ds.length≤lim∧∃ d,nth ds i=some d∧Q d σ
  | .lst a=>∃ o ds,σ.sto a=some (.list o ds)∧ds.length≤lim∧∃ d,nth ds i=some d∧Q d σ
  | _=>False)
 | _=>False
noncomputable def cutAt (n:Nat) (d:Nat):Option Int→Nat
 | none=>d
 | some i=>if 0≤i then min i.toNat n else (n+i).toNat
noncomputable def cutL {α:Type} (l:List α) (lo hi:Option Int):List α:=(l.take (cutAt l.length l.length hi)).drop (cutAt l.length 0 lo)
noncomputable def bound:D→Option (Option Int)
 | .none=>some none
 | .int i=>some (some i)
 | _=>none
noncomputable def opSlice (x lo hi:D) (Q:D→St→Prop) (σ:St):Prop :=
 ∃ l h,bound lo=some l∧bound hi=some h∧match x with
 | .tup ds=>ds.length≤lim∧Q (.tup (cutL ds l h)) σ
 | .lst a=>∃ o ds,σ.sto a=some (.list o ds)∧ds.length≤lim∧∀ b,σ.sto b=none→Q (.lst b) (σ.put b (.list true (cutL ds l h)))
 | _=>False
noncomputable def opSet (x i d:D) (Q:St→Prop) (σ:St):Prop:=match x with
 | .lst a=>(match i with
  | .int k=>(∃ ds,σ.sto a=some (.list true ds)∧ds.length≤lim∧0≤k∧k<ds.length∧Q (σ.put a (.list true (ds.set k.toNat d))))∨(σ.sto a=some (.dict [])∧Q (σ.put a (.dict [(k,d)])))
  | _=>False)
 | _=>False
noncomputable def opAppend (x d:D) (Q:D→St→Prop) (σ:St):Prop :=
 match x with
 | .lst a=>∃ ds,σ.sto a=some (.list true ds)∧ds.length≤lim∧Q .none (σ.put a (.list true (ds ++ [d])))
 | _=>False
noncomputable def one1 (ds:List D) (K:D→Prop):Prop:=match ds with
 | []=>False
 | d :: r=>(match r with | []=>K d | _ :: _=>False)
noncomputable def two2 (ds:List D) (K:D→D→Prop):Prop:=match ds with
 | []=>False
 | d :: r=>one1 r (K d)
noncomputable def bLen (d:D) (Q:D→St→Prop) (σ:St):Prop:=match d with
 | .tup xs=>xs.length≤lim∧Q (.int xs.length) σ
 | .lst a=>∃ o xs,σ.sto a=some (.list o xs)∧xs.length≤lim∧Q (.int xs.length) σ
 | _=>False
noncomputable def bList (d:D) (Q:D→St→Prop) (σ:St):Prop:=match d with
 | .tup xs=>xs.length≤lim∧∀ l,σ.sto l=none→Q (.lst l) (σ.put l (.list true xs))
 | _=>False
noncomputable def bTuple (d:D) (Q:D→St→Prop) (σ:St):Prop:=match d with
 | .lst a=>∃ o xs,σ.sto a=some (.list o xs)∧xs.length≤lim∧Q (.tup xs) σ
 | _=>False
noncomputable def bInt (d:D) (Q:D→St→Prop) (σ:St):Prop:=match d with
 | .bool b=>Q (.int (if b then 1 else 0)) σ
 | _=>False
noncomputable def bAbs (d:D) (Q:D→St→Prop) (σ:St):Prop:=match d with
 | .int i=>Q (.int i.natAbs) σ
 | _=>False
noncomputable def opBlt (f:Blt) (ds:List D) (Q:D→St→Prop) (σ:St):Prop:=match f with
 | .len=>one1 ds fun d=>bLen d Q σ
 | .abs=>one1 ds fun d=>bAbs d Q σ
 | .max=>two2 ds fun x y=>intII x y fun a b=>Q (.int (max a b)) σ
 | .min=>False
 | .int=>one1 ds fun d=>bInt d Q σ
 | .list=>one1 ds fun d=>bList d Q σ
 | .tuple=>one1 ds fun d=>bTuple d Q σ
 | .sum=>False
noncomputable def isaP (d:D) (t:Ty):Bool:=match t with
 | .int=>(match d with | .int _=>true | .bool _=>true | _=>false)
 | .bool=>(match d with | .bool _=>true | _=>false)
 | .tuple=>(match d with | .tup _=>true | _=>false)
 | .list=>(match d with | .lst _=>true | _=>false)
 | _=>false
noncomputable def opIsaE (c:Cx) (e:Str) (C:Addr) (t:Ty) (Q:D→St→Prop) (σ:St):Prop:=match t with
 | .own k=>c.ie=true∧c.cls e=some C∧(∃ Ck,c.cls k=some Ck)∧Q (.bool (c.sub e k)) σ
 | .valueError=>c.ie=true∧c.cls e=some C∧Q (.bool true) σ
 | _=>False
noncomputable def plainTy:Ty→Prop
 | .own _=>False
 | .valueError=>False
 | .list=>False
 | _=>True
noncomputable def opIsa (c:Cx) (d:D) (t:Ty) (Q:D→St→Prop) (σ:St):Prop:=match d with
 | .exc _ e C=>opIsaE c e C t Q σ
 | .lst a=>plainTy t∧∃ o ds,σ.sto a=some (.list o ds)∧Q (.bool (isaP (.lst a) t)) σ
 | d=>plainTy t∧Q (.bool (isaP d t)) σ
noncomputable def rangeUp (a b:Int):List D:=(List.range (b - a).toNat).map fun (k:Nat)=>D.int (a+k)
noncomputable def rangeDn (a b:Int):List D:=(List.range (a - b).toNat).map fun (k:Nat)=>D.int (a - k)
noncomputable def int?:D→Option Int
 | .int i=>some i
 | _=>none
noncomputable def rangeD (ds:List D):Option (List D):=match ds with
 | []=>none
 | a :: r=>(match int? a with
  | none=>none
  | some i=>(match r with
   | []=>some (rangeUp 0 i)
   | b :: r=>(match int? b with
    | none=>none
    | some j=>(match r with
     | []=>some (rangeUp i j)
     | d :: r=>(match int? d with
      | none=>none
      | some k=>(match r with
       | []=>if k=-1 then some (rangeDn i j) else none
       | _ :: _=>none))))))
noncomputable def smallI:D→Bool
 | .int i=>decide (-1000000≤i∧i≤1000000)
 | _=>false
noncomputable def itemsOf (d:D) (K:List D→(St→Prop)→St→Prop) (σ:St):Prop :=
 match d with
 | .tup ds=>ds.length≤lim∧K ds (fun _=>True) σ
 | .lst a=>∃ o ds,σ.sto a=some (.list o ds)∧ds.length≤lim∧K ds (fun σ'=>∃ o',σ'.sto a=some (.list o' ds)) σ
 | _=>False
noncomputable def isI (d:D):Bool:=match d with
 | .int _=>true
 | _=>false
noncomputable def flatD (d:D):Bool:=match d with
 | .int _=>true
 | .tup ds=>ds.all isI
 | _=>false
noncomputable def itK (k:ItK) (ds:List D) (K:List D→(St→Prop)→St→Prop) (σ:St):Prop:=match k with
 | .plain=>one1 ds fun d=>itemsOf d K σ
 | .range=>ds.all smallI=true∧∃ items,rangeD ds=some items∧K items (fun _=>True) σ
 | .zip=>False
noncomputable def setAll (σ:St):List Nat→List D→St
 | x :: xs,d :: ds=>setAll (σ.set x d) xs ds
 | _,_=>σ
noncomputable def bindT (one:Bool) (xs:List Nat) (d:D) (Q:St→Prop) (σ:St):Prop :=
 if one then (match xs with | [x]=>Q (σ.set x d) | _=>False)
 else ∃ ds,d=.tup ds∧ds.length=xs.length∧Q (setAll σ xs ds)
noncomputable def forL (g:St→Prop) (step:D→(Fl→St→Prop)→St→Prop):List D→(Fl→St→Prop)→St→Prop
 | [],Q,σ=>g σ∧Q .next σ
 | d :: ds,Q,σ=>g σ∧step d (fun fl σ'=>match fl with
  | .next=>forL g step ds Q σ'
  | .cont=>forL g step ds Q σ'
  | .brk=>Q .next σ'
  | .ret v=>Q (.ret v) σ') σ
noncomputable def compL (step:D→(D→Prop)→Prop):List D→List D→(List D→Prop)→Prop
 | [],acc,Q=>Q acc
 | d :: ds,acc,Q=>step d fun r=>compL step ds (acc ++ [r]) Q
noncomputable def noX:Str→St→Prop:=fun _ _=>False
noncomputable def turnW (xs:List (Nat×Str)) (elt:(D→St→Prop)→St→Prop) (P:D→Prop) (σ:St) (d:D) (K:D→Prop):Prop :=
 bindT (xs.length==1) (xs.map (·.1)) d (fun σ₂=>elt (fun r _=>P r∧K r) σ₂) σ.ro
noncomputable def compW (xs:List (Nat×Str)) (elt:(D→St→Prop)→St→Prop) (P:D→Prop) (Q:D→St→Prop) (items:List D) (σ:St):Prop :=
 items.length≤lim∧compL (turnW xs elt P σ) items [] fun acc=>∀ l,σ.sto l=none→Q (.lst l) (σ.put l (.list true acc))
noncomputable def compK (k:ItK) (xs:List (Nat×Str)) (elt:(D→St→Prop)→St→Prop) (Q:D→St→Prop) (ds:List D) (σ:St):Prop:=match k with
 | .plain=>one1 ds fun d=>itemsOf d (fun items _ σ₂=>compW xs elt (fun _=>True) Q items σ₂) σ
 | .range=>ds.all smallI=true∧∃ items,rangeD ds=some items∧compW xs elt (fun _=>True) Q items σ
 | .zip=>False
mutual
noncomputable def wE (c:Cx) (n:Nat) (q:Bool):E→(D→St→Prop)→(Str→St→Prop)→St→Prop
 | .cnone,Q,X,σ=>Q .none σ
 | .cbool b,Q,X,σ=>Q (.bool b) σ
 | .cint i,Q,X,σ=>Q (.int i) σ
 | .cstr s,Q,X,σ=>Q (.str s) σ
 | .var i,Q,X,σ=>∃ d,σ.loc i=some d∧Q d σ
 | .glob x,Q,X,σ=>∃ d,c.cs x=some d∧Q d σ
 | .bin op a b,Q,X,σ=>wE c n q a (fun x σ₁=>wE c n q b (fun y σ₂=>opBin op x y Q σ₂) X σ₁) X σ
 | .neg a,Q,X,σ=>wE c n q a (fun x σ₁=>opNeg x Q σ₁) X σ
 | .not a,Q,X,σ=>wE c n q a (fun x σ₁=>wTruth x (fun b σ₂=>Q (.bool (!b)) σ₂) σ₁) X σ
 | .cmp op a b,Q,X,σ=>wE c n q a (fun x σ₁=>wE c n q b (fun y σ₂=>opCmp op x y Q σ₂) X σ₁) X σ
 | .bool op es,Q,X,σ=>wB c n q op es Q X σ
 | .call f es,Q,X,σ=>q=true∧IsFn c f∧wEs c n q es (fun ds σ₁=>CallOK c n f ds σ₁.sto (fun d sto'=>Q d { σ₁ with sto:=sto' }) fun k=>X k σ₁) X σ
 | .blt f es,Q,X,σ=>q=true∧wEs c n q es (fun ds σ₁=>opBlt f ds Q σ₁) X σ
 | .isa a t,Q,X,σ=>wE c n q a (fun x σ₁=>opIsa c x t Q σ₁) X σ
 | .idx a i,Q,X,σ=>wE c n q a (fun x σ₁=>wE c n q i (fun y σ₂=>opIdx x y Q σ₂) X σ₁) X σ
 | .slice a lo hi,Q,X,σ=>wE c n q a (fun x σ₁=>wO c n q lo (fun l σ₂=>wO c n q hi (fun h σ₃=>opSlice x l h Q σ₃) X σ₂) X σ₁) X σ
 | .tup es,Q,X,σ=>wEs c n q es (fun ds σ₁=>ds.length≤lim∧Q (.tup ds) σ₁) X σ
 | .lst es,Q,X,σ=>wEs c n q es (fun ds σ₁=>ds.length≤lim∧∀ l,σ₁.sto l=none→Q (.lst l) (σ₁.put l (.list true ds))) X σ
 | .comp elt xs k es,Q,X,σ=>q=true∧wEs c n q es (fun ds σ₁=>compK k xs (fun K σ₂=>wE c n q elt K noX σ₂) Q ds σ₁) X σ
 | .dict0,Q,X,σ=>∀ l,σ.sto l=none→Q (.lst l) (σ.put l (.dict []))
 | .getd o k d,Q,X,σ=>q=true∧wE c n q o (fun x σ₁=>(∃ l k₀ r,x=.lst l∧σ₁.sto l=some (.dict [(k₀,r)]))∧wE c n q k (fun y σ₂=>wE c n q d (fun z σ₃=>∃ l k₀ r,x=.lst l∧σ₃.sto l=some (.dict [(k₀,r)])∧y=.int k₀∧Q r σ₃) X σ₂) X σ₁) X σ
 | .maxd o,Q,X,σ=>q=true∧wE c n q o (fun x σ₁=>∃ l k₀ r,x=.lst l∧σ₁.sto l=some (.dict [(k₀,r)])∧Q (.int k₀) σ₁) X σ
 | .append o a,Q,X,σ=>q=true∧wE c n q o (fun x σ₁=>(∃ l ds,x=.lst l∧σ₁.sto l=some (.list true ds))∧wE c n q a (fun d σ₂=>opAppend x d Q σ₂) X σ₁) X σ
noncomputable def wEs (c:Cx) (n:Nat) (q:Bool):List E→(List D→St→Prop)→(Str→St→Prop)→St→Prop
 | [],Q,X,σ=>Q [] σ
 | e :: es,Q,X,σ=>wE c n q e (fun d σ₁=>wEs c n q es (fun ds σ₂=>Q (d :: ds) σ₂) X σ₁) X σ
noncomputable def wO (c:Cx) (n:Nat) (q:Bool):Option E→(D→St→Prop)→(Str→St→Prop)→St→Prop
 | none,Q,X,σ=>Q .none σ
 | some e,Q,X,σ=>wE c n q e Q X σ
noncomputable def wB (c:Cx) (n:Nat) (q:Bool) (op:BoolOp):List E→(D→St→Prop)→(Str→St→Prop)→St→Prop
 | [],Q,X,σ=>False
 | [e],Q,X,σ=>wE c n q e Q X σ
 | e :: es,Q,X,σ=>wE c n q e (fun d σ₁=>wTruth d (fun b σ₂=>if b=(op==.Or) then Q d σ₂ else wB c n q op es Q X σ₂) σ₁) X σ
end
noncomputable def wI (c:Cx) (n:Nat) (q:Bool) (k:ItK) (es:List E) (K:List D→(St→Prop)→St→Prop) (X:Str→St→Prop) (σ:St):Prop:=wEs c n q es (fun ds σ₁=>itK k ds K σ₁) X σ
mutual
noncomputable def wT (c:Cx) (n:Nat) (q:Bool):E→(Bool→St→Prop)→(Str→St→Prop)→St→Prop
 | .not a,Q,X,σ=>wT c n q a (fun b σ₁=>Q (!b) σ₁) X σ
 | .bool op es,Q,X,σ=>wTs c n q op es Q X σ
 | e,Q,X,σ=>wE c n q e (fun d σ₁=>wTruth d Q σ₁) X σ
noncomputable def wTs (c:Cx) (n:Nat) (q:Bool) (op:BoolOp):List E→(Bool→St→Prop)→(Str→St→Prop)→St→Prop
 | [],Q,X,σ=>Q (op==.And) σ
 | e :: es,Q,X,σ=>wT c n q e (fun b σ₁=>if b=(op==.Or) then Q b σ₁ else wTs c n q op es Q X σ₁) X σ
end
mutual
noncomputable def wS (c:Cx) (n:Nat) (q:Bool):S→(Fl→St→Prop)→(Str→St→Prop)→St→Prop
 | .expr e,Q,X,σ=>wE c n q e (fun _ σ₁=>Q .next σ₁) X σ
 | .assign x e,Q,X,σ=>wE c n q e (fun d σ₁=>Q .next (σ₁.set x d)) X σ
 | .unpack xs e,Q,X,σ=>q=true∧wE c n q e (fun d σ₁=>∃ ds,d=.tup ds∧ds.length=xs.length∧Q .next (setAll σ₁ xs ds)) X σ
 | .swap xs es,Q,X,σ=>q=true∧wE c n q (.tup es) (fun d σ₁=>∃ ds,d=.tup ds∧ds.length=xs.length∧Q .next (setAll σ₁ xs ds)) X σ
 | .setitem o i e,Q,X,σ=>wE c n q e (fun d σ₁=>wE c n q o (fun x σ₂=>wE c n q i (fun k σ₃=>opSet x k d (Q .next) σ₃) X σ₂) X σ₁) X σ
 | .ifs t a b,Q,X,σ=>wT c n q t (fun r σ₁=>if r=true then wSs c n q a Q X σ₁ else wSs c n q b Q X σ₁) X σ
 | .whiles t b,Q,X,σ=>∃ (I:St→Prop) (m:St→Nat),I σ∧∀ σ',I σ'→wT c n q t (fun r σ₁=>if r=true then wSs c n q b (fun fl σ₂=>match fl with
   | .next=>I σ₂∧m σ₂<m σ'
   | .cont=>I σ₂∧m σ₂<m σ'
   | .brk=>Q .next σ₂
   | .ret d=>Q (.ret d) σ₂) noX σ₁ else Q .next σ₁) noX σ'
 | .fors xs one k es b,Q,X,σ=>q=true∧wI c n q k es (fun items g σ₁=>forL g (fun d K σ₂=>bindT one xs d (fun σ₃=>wSs c n q b K X σ₃) σ₂) items Q σ₁) X σ
 | .ret e,Q,X,σ=>wE c n q e (fun d σ₁=>Q (.ret d) σ₁) X σ
 | .raise k _,Q,X,σ=>q=true∧(∃ C,c.cls k=some C)∧X k σ
 | .tryx b k x h,Q,X,σ=>q=true∧(∃ C,c.cls k=some C)∧wSs c n q b Q (fun e σ₁=>c.sub e k=true∧match x with
   | none=>False
   | some i=>∀ a C,c.cls e=some C→wSs c n false h (fun fl σ₂=>Q fl (σ₂.del i)) noX (σ₁.set i (.exc a e C))) σ
 | .pass,Q,X,σ=>Q .next σ
 | .any,Q,X,σ=>False
noncomputable def wSs (c:Cx) (n:Nat) (q:Bool):List S→(Fl→St→Prop)→(Str→St→Prop)→St→Prop
 | [],Q,X,σ=>Q .next σ
 | s :: ss,Q,X,σ=>wS c n q s (fun fl σ₁=>match fl with
  | .next=>wSs c n q ss Q X σ₁
  | fl=>Q fl σ₁) X σ
end
end Mine
namespace Mine
example (c n q Q X σ):wE c n q (.bin .Add (.cint 1) (.cint 2)) Q X σ=Q (.int (1+2)) σ:=rfl
end Mine
namespace Mine
theorem mlim {α β:Type} {p:List α} {f:α→β} (h:p.length≤1000):(p.map f).length≤lim:=by rw [List.length_map]; exact Nat.le_trans h (Nat.le_of_ble_eq_true rfl)
end Mine
namespace Mine
open PySem
inductive Loc where
 | ns (L:Addr) (x:Str)
 | cell (a:Addr)
noncomputable def Loc.addr:Loc→Addr
 | .ns L _=>L
 | .cell a=>a
noncomputable def Loc.holds (h:Heap):Loc→Value→Prop
 | .ns L x,v=>∃ m,h.Ns L m∧m x=some v
 | .cell a,v=>h.IsCell a (some v)
noncomputable def Loc.there (h:Heap):Loc→Prop
 | .ns L _=>∃ m,h.Ns L m
 | .cell a=>∃ v,h.IsCell a v
structure Fm where
 A:Around
 fenv:Env
 outer:List Env
 hE:Heap
 s0:Shared
 loc:Nat→Option Loc
 fs:List Addr
noncomputable def Fm.fs1 (F:Fm):List Addr:=fsOf (F.fenv :: F.outer)
noncomputable def Inv (c:Cx) (F:Fm) (σ:St) (s:Shared):Prop :=
 (SameSh F.s0 s)∧
 (c.B.StaysIn s.heap)∧
 (Kept F.fs F.hE s.heap)∧
 (FramesOK c.B s.heap (F.fenv :: F.outer))∧
 (∀ i d,σ.loc i=some d→∃ l v,F.loc i=some l∧l.holds s.heap v∧Rep s.heap v d)∧
 (∀ i l,F.loc i=some l→l.there s.heap)∧
 (∀ a k,σ.sto a=some k→CellOK s.heap F.hE a k)∧
 (∀ a ps,σ.sto a=some (.dict ps)→a∉F.fs1∧∀ i l,F.loc i=some l→a≠l.addr)
section
variable {c:Cx} {F:Fm} {σ:St} {s:Shared} (h_:Inv c F σ s)
include h_
theorem Inv.same:SameSh F.s0 s:=h_.1
theorem Inv.base:c.B.StaysIn s.heap:=h_.2.1
theorem Inv.kept:Kept F.fs F.hE s.heap:=h_.2.2.1
theorem Inv.frames:FramesOK c.B s.heap (F.fenv :: F.outer):=h_.2.2.2.1
theorem Inv.vars:∀ i d,σ.loc i=some d→∃ l v,F.loc i=some l∧l.holds s.heap v∧Rep s.heap v d:=h_.2.2.2.2.1
theorem Inv.places:∀ i l,F.loc i=some l→l.there s.heap:=h_.2.2.2.2.2.1
theorem Inv.sto:∀ a k,σ.sto a=some k→CellOK s.heap F.hE a k:=h_.2.2.2.2.2.2.1
theorem Inv.dap:∀ a ps,σ.sto a=some (.dict ps)→a∉F.fs1∧∀ i l,F.loc i=some l→a≠l.addr:=h_.2.2.2.2.2.2.2
end
theorem Inv.mk' {c:Cx} {F:Fm} {σ:St} {s:Shared} (same:SameSh F.s0 s) (base:c.B.StaysIn s.heap) (kept:Kept F.fs F.hE s.heap) (frames:FramesOK c.B s.heap (F.fenv :: F.outer)) (vars:∀ i d,σ.loc i=some d→∃ l v,F.loc i=some l∧l.holds s.heap v∧Rep s.heap v d) (places:∀ i l,F.loc i=some l→l.there s.heap) (sto:∀ a k,σ.sto a=some k→CellOK s.heap F.hE a k) (dap:∀ a ps,σ.sto a=some (.dict ps)→a∉F.fs1∧∀ i l,F.loc i=some l→a≠l.addr):Inv c F σ s:=⟨same,base,kept,frames,vars,places,sto,dap⟩
noncomputable def FmOK (c:Cx) (n:Nat) (q:Bool) (F:Fm):Prop :=
 (F.A.frames=some (F.fenv :: F.outer))∧
 (q=true→F.A.handled=none)∧
 (F.A.depth+n<800)∧
 (F.A.units+4*n<9000)∧
 (F.fenv.globals=mainGlobals)∧
 (F.fenv.builtins=builtinsNs)∧
 (F.fenv.scope.isGenerator=false)∧
 (F.fenv.scope.isCoroutine=false)∧
 (c.B.StaysIn F.hE)∧
 (∀ b o,F.hE.get? b=some o→b∈F.fs1→b∈F.fs)∧
 (∃ L,F.fenv.frame=some L)
section
variable {c:Cx} {n:Nat} {q:Bool} {F:Fm} (h_:FmOK c n q F)
include h_
theorem FmOK.frames:F.A.frames=some (F.fenv :: F.outer):=h_.1
theorem FmOK.handled:q=true→F.A.handled=none:=h_.2.1
theorem FmOK.depth:F.A.depth+n<800:=h_.2.2.1
theorem FmOK.units:F.A.units+4*n<9000:=h_.2.2.2.1
theorem FmOK.globals:F.fenv.globals=mainGlobals:=h_.2.2.2.2.1
theorem FmOK.builtins:F.fenv.builtins=builtinsNs:=h_.2.2.2.2.2.1
theorem FmOK.gen:F.fenv.scope.isGenerator=false:=h_.2.2.2.2.2.2.1
theorem FmOK.co:F.fenv.scope.isCoroutine=false:=h_.2.2.2.2.2.2.2.1
theorem FmOK.bh:c.B.StaysIn F.hE:=h_.2.2.2.2.2.2.2.2.1
theorem FmOK.back:∀ b o,F.hE.get? b=some o→b∈F.fs1→b∈F.fs:=h_.2.2.2.2.2.2.2.2.2.1
theorem FmOK.tab:∃ L,F.fenv.frame=some L:=h_.2.2.2.2.2.2.2.2.2.2
end
theorem FmOK.mk' {c:Cx} {n:Nat} {q:Bool} {F:Fm} (frames:F.A.frames=some (F.fenv :: F.outer)) (handled:q=true→F.A.handled=none) (depth:F.A.depth+n<800) (units:F.A.units+4*n<9000) (globals:F.fenv.globals=mainGlobals) (builtins:F.fenv.builtins=builtinsNs) (gen:F.fenv.scope.isGenerator=false) (co:F.fenv.scope.isCoroutine=false) (bh:c.B.StaysIn F.hE) (back:∀ b o,F.hE.get? b=some o→b∈F.fs1→b∈F.fs) (tab:∃ L,F.fenv.frame=some L):FmOK c n q F:=⟨frames,handled,depth,units,globals,builtins,gen,co,bh,back,tab⟩
noncomputable def FmW (F:Fm):Prop :=
 (∀ i l,F.loc i=some l→F.hE.get? l.addr=none)∧
 (∀ i j l,F.loc i=some l→F.loc j=some l→i=j)
section
variable {F:Fm} (h_:FmW F)
include h_
theorem FmW.fresh:∀ i l,F.loc i=some l→F.hE.get? l.addr=none:=h_.1
theorem FmW.apart:∀ i j l,F.loc i=some l→F.loc j=some l→i=j:=h_.2
end
theorem FmW.mk' {F:Fm} (fresh:∀ i l,F.loc i=some l→F.hE.get? l.addr=none) (apart:∀ i j l,F.loc i=some l→F.loc j=some l→i=j):FmW F:=⟨fresh,apart⟩
noncomputable def CxOK (c:Cx):Prop :=
 (c.B.Ns mainGlobals c.mg)∧
 (∃ mb,c.B.Ns builtinsNs mb∧∀ x:Str,x≠"__name__"→mb x=bootBuiltins x)∧
 (c.B.NoLimit)∧
 (c.B.NoSeer)∧
 (c.prog.given.tree=none)∧
 (∀ x d,c.cs x=some d→∃ v,c.mg x=some v∧Rep c.B v d)∧
 (∀ x C,c.cls x=some C→c.mg x=some (.ref C))∧
 (∀ x∈(["len","abs","max","min","int","list","tuple","sum","isinstance","bool","ValueError","range","zip"]:List String),c.mg (Str.ofString x)=none)
section
variable {c:Cx} (h_:CxOK c)
include h_
theorem CxOK.g:c.B.Ns mainGlobals c.mg:=h_.1
theorem CxOK.b:∃ mb,c.B.Ns builtinsNs mb∧∀ x:Str,x≠"__name__"→mb x=bootBuiltins x:=h_.2.1
theorem CxOK.lim:c.B.NoLimit:=h_.2.2.1
theorem CxOK.seer:c.B.NoSeer:=h_.2.2.2.1
theorem CxOK.tree:c.prog.given.tree=none:=h_.2.2.2.2.1
theorem CxOK.cs:∀ x d,c.cs x=some d→∃ v,c.mg x=some v∧Rep c.B v d:=h_.2.2.2.2.2.1
theorem CxOK.cls:∀ x C,c.cls x=some C→c.mg x=some (.ref C):=h_.2.2.2.2.2.2.1
theorem CxOK.free:∀ x∈(["len","abs","max","min","int","list","tuple","sum","isinstance","bool","ValueError","range","zip"]:List String),c.mg (Str.ofString x)=none:=h_.2.2.2.2.2.2.2
end
section
variable {c:Cx} {F:Fm} {σ:St} {s:Shared}
noncomputable def Nf (fs:List Addr) (h h':Heap):Prop:=(∀ b o,h.get? b=some o→(∀ vs,o.data≠.fields vs)→∃ sl,h'.get? b=some { o with slots:=sl }∧(b∉fs∨noDict o→sl=o.slots))∧
 ∀ b o C vs,h.get? b=some o→o.cls=.ref C→o.data=.fields vs→h'.get? b=some o
theorem Nf.of_kept {fs:List Addr} {h h':Heap} (k:Kept fs h h'):Nf fs h h':=⟨fun b o e _=>k b o e,fun b o C vs e _ d=>k.exact e (.inr fun es n q=>by rw [d] at q; cases q)⟩
theorem Nf.of_keeps {fs:List Addr} {h h':Heap} (k:∀ b o,h.get? b=some o→h'.get? b=some o):Nf fs h h':=⟨fun b o e _=>⟨o.slots,k b o e,fun _=>rfl⟩,fun b o _ _ e _ _=>k b o e⟩
theorem Nf.ns {fs:List Addr} {h h':Heap} (x:Nf fs h h') {a:Addr} {m:Str→Option Value} (n:h.Ns a m):h'.Ns a m:=by
 obtain ⟨o,es,ep,ho,hd,r⟩:=n
 obtain ⟨sl,e,_⟩:=x.1 a o ho (fun vs q=>by rw [hd] at q; cases q)
 exact ⟨_,es,ep,e,hd,r⟩
theorem Nf.cell {fs:List Addr} {h h':Heap} (x:Nf fs h h') {a:Addr} {v:Option Value} (n:h.IsCell a v):h'.IsCell a v:=by
 obtain ⟨o,ho,hd⟩:=n
 obtain ⟨sl,e,_⟩:=x.1 a o ho (fun vs q=>by rw [hd] at q; cases q)
 exact ⟨_,e,hd⟩
theorem Nf.list {fs:List Addr} {h h':Heap} (x:Nf fs h h') {a:Addr} {xs:Array Value} (n:h.IsList a xs):h'.IsList a xs:=by
 obtain ⟨o,ho,hc,m,hd⟩:=n
 obtain ⟨sl,e,_⟩:=x.1 a o ho (fun vs q=>by rw [hd] at q; cases q)
 exact ⟨_,e,hc,m,hd⟩
theorem Nf.tuple {fs:List Addr} {h h':Heap} (x:Nf fs h h') {a:Addr} {xs:Array Value} {k:Nat} (n:IsT h a xs k):IsT h' a xs k:=by
 obtain ⟨sl,e,q⟩:=x.1 a _ n (fun vs q=>by cases q)
 rw [q (.inr fun es n q=>by cases q)] at e
 exact e
theorem Rep.nf {fs:List Addr} {h h':Heap} (g:Nf fs h h') {v:Value} {d:D} (r:Rep h v d):Rep h' v d:=r.trans g.tuple fun x y z=>g.2 _ _ _ _ x y z
theorem Reps.nf {fs:List Addr} {h h':Heap} (g:Nf fs h h') {vs:List Value} {ds:List D} (r:Reps h vs ds):Reps h' vs ds:=r.over (Rep.nf g)
theorem Nf.frames {fs:List Addr} {B h h':Heap} {l:List Env} (x:Nf fs h h') (f:FramesOK B h l):FramesOK B h' l:=fun env he=>by
 obtain ⟨k,L,m,e1,e2,e3⟩:=f env he
 exact ⟨k,L,m,e1,e2,x.ns e3⟩
theorem Nf.plain {fs:List Addr} {h h':Heap} (x:Nf fs h h') {a:Addr} {xs:Array Value} (n:h.PlainList a xs):h'.PlainList a xs:=by
 obtain ⟨m,ho⟩:=n
 obtain ⟨sl,e,q⟩:=x.1 a _ ho (fun vs q=>by cases q)
 rw [q (.inr fun es n q=>by cases q)] at e
 exact ⟨m,e⟩
theorem Loc.holds_nf {fs:List Addr} {h h':Heap} (x:Nf fs h h') {l:Loc} {v:Value} (p:l.holds h v):l.holds h' v:=by
 cases l with
 | ns L y=>obtain ⟨m,n,e⟩:=p; exact ⟨m,x.ns n,e⟩
 | cell a=>exact x.cell p
theorem Loc.there_nf {fs:List Addr} {h h':Heap} (x:Nf fs h h') {l:Loc} (p:l.there h):l.there h':=by
 cases l with
 | ns L y=>obtain ⟨m,n⟩:=p; exact ⟨m,x.ns n⟩
 | cell a=>obtain ⟨v,n⟩:=p; exact ⟨v,x.cell n⟩
theorem FramesOK.mem {B h:Heap} {l:List Env} (f:FramesOK B h l) {a:Addr} (m:a∈fsOf l):B.get? a=none∧∃ o es n,h.get? a=some o∧o.data=.dict es n:=by
 obtain ⟨env,he,hf⟩:=List.mem_filterMap.mp m
 obtain ⟨_,L,mm,e1,e2,⟨o,es,ep,ho,hd,_⟩⟩:=f env he
 rw [hf] at e1; cases e1
 exact ⟨e2,o,es,ep,ho,hd⟩
theorem dict_at {h h':Heap} {a:Addr} {kvs:List (Int×Value)} (x:∀ prog w,h.DictOf (intKind prog w) a kvs) (e:∀ o es ep,h.get? a=some o→o.data=.dict es ep→h'.get? a=some o):∀ prog w,h'.DictOf (intKind prog w) a kvs:=fun prog w=>by
 obtain ⟨o,es,ep,ho,hc,hd,r⟩:=x prog w
 exact ⟨o,es,ep,e o es ep ho hd,hc,hd,r⟩
theorem CellOK.nf {fs:List Addr} {h h' hE:Heap} {a:Addr} {k:Cell} (x:Nf fs h h') (p:CellOK h hE a k) (ha:∀ ps,k=.dict ps→a∉fs):CellOK h' hE a k:=by
 cases k with
 | list own ds =>
  obtain ⟨vs,h1,h2,h3⟩:=p
  exact ⟨vs,x.list h1,fun o=>⟨x.plain (h2 o).1,(h2 o).2⟩,Reps.nf x h3⟩
 | dict ps =>
  obtain ⟨h0,kvs,h1,h2,h3⟩:=p
  refine ⟨h0,kvs,dict_at h1 fun o es ep e hd=>?_,h2,Reps.nf x h3⟩
  obtain ⟨sl,e1,q⟩:=x.1 a o e (fun vs q=>by rw [hd] at q; cases q)
  rw [e1,q (.inl (ha ps rfl))]
theorem Inv.nf (I:Inv c F σ s) {h':Heap} {t:Nat} (hb:c.B.StaysIn h') (hk:Kept F.fs F.hE h') (x:Nf F.fs1 s.heap h'):Inv c F σ { s with heap:=h',toks:=t }:=Inv.mk'
 (same:=I.same.trans ⟨_,_,rfl⟩)
 (base:=hb)
 (kept:=hk)
 (frames:=x.frames I.frames)
 (vars:=fun i d e=>by
  obtain ⟨l,v,e1,e2,e3⟩:=I.vars i d e
  exact ⟨l,v,e1,Loc.holds_nf x e2,Rep.nf x e3⟩)
 (places:=fun i l e=>Loc.there_nf x (I.places i l e))
 (sto:=fun a k e=>CellOK.nf x (I.sto a k e) fun ps z=>(I.dap a ps (z ▸ e)).1)
 (dap:=I.dap)
theorem Inv.keeps (I:Inv c F σ s) {h':Heap} {t:Nat} (k:∀ b o,s.heap.get? b=some o→h'.get? b=some o):Inv c F σ { s with heap:=h',toks:=t } :=
 I.nf (fun b o e=>k b o (I.base b o e)) (I.kept.trans (Kept.of_keeps k)) (Nf.of_keeps k)
theorem Inv.tok (I:Inv c F σ s) (t:Nat):Inv c F σ { s with toks:=t }:=I.keeps (h':=s.heap) fun _ _ e=>e
theorem grow_of_keeps {h h':Heap} (k:∀ b o,h.get? b=some o→h'.get? b=some o):Grow h h':=fun b o e _=>k b o e
end
noncomputable def Res (F:Fm) (env:Env) (i:Nat) (x:Str):Prop :=
 (env.kindOf x=some .local∧F.loc i=some (.ns env.locals x))∨(env.kindOf x=some .cell∧∃ a,env.cells.lookup x=some a∧F.loc i=some (.cell a))
noncomputable def EnvOK (F:Fm) (env:Env) (K:Str→Option NameKind) (ns:Nat→Option Str):Prop :=
 (env.scope.kind=.function)∧
 (env.globals=mainGlobals)∧
 (env.builtins=builtinsNs)∧
 (∀ x,env.kindOf x=K x)∧
 (∀ i x,ns i=some x→Res F env i x)∧
 (∀ x,K x=some .cell→∃ a,env.cells.lookup x=some a)
section
variable {F:Fm} {env:Env} {K:Str→Option NameKind} {ns:Nat→Option Str} (h_:EnvOK F env K ns)
include h_
theorem EnvOK.kind:env.scope.kind=.function:=h_.1
theorem EnvOK.globals:env.globals=mainGlobals:=h_.2.1
theorem EnvOK.builtins:env.builtins=builtinsNs:=h_.2.2.1
theorem EnvOK.kinds:∀ x,env.kindOf x=K x:=h_.2.2.2.1
theorem EnvOK.res:∀ i x,ns i=some x→Res F env i x:=h_.2.2.2.2.1
theorem EnvOK.cells:∀ x,K x=some .cell→∃ a,env.cells.lookup x=some a:=h_.2.2.2.2.2
end
theorem EnvOK.mk' {F:Fm} {env:Env} {K:Str→Option NameKind} {ns:Nat→Option Str} (kind:env.scope.kind=.function) (globals:env.globals=mainGlobals) (builtins:env.builtins=builtinsNs) (kinds:∀ x,env.kindOf x=K x) (res:∀ i x,ns i=some x→Res F env i x) (cells:∀ x,K x=some .cell→∃ a,env.cells.lookup x=some a):EnvOK F env K ns:=⟨kind,globals,builtins,kinds,res,cells⟩
section
variable {c:Cx} {F:Fm} {σ:St} {s:Shared} {env:Env} {K:Str→Option NameKind} {ns:Nat→Option Str} {n:Nat} {q:Bool}
theorem load_var {M:Model} {A:Around} {E:Value→Shared→Prop} {i:Nat} {x:Str} {d:D} {pos:Pos} {Q:Value→Shared→Prop} (I:Inv c F σ s) (O:EnvOK F env K ns) (hx:ns i=some x) (hd:σ.loc i=some d) (nd:(x==("__debug__":Str))=false)
  (h:∀ v,Rep s.heap v d→Q v s):wpAny M A (eval (.Name x pos) env) Q E s:=by
 obtain ⟨l,v,e1,e2,e3⟩:=I.vars i d hd
 refine wpAny_Name ?_ nd
 rcases O.res i x hx with ⟨hk,hl⟩ | ⟨hk,a,hc,hl⟩
 ·rw [hl] at e1; cases e1
  obtain ⟨m,hn,hv⟩:=e2
  exact wpAny_loadName_local O.kind hk hn hv (h v e3)
 ·rw [hl] at e1; cases e1
  exact wpAny_loadName_cell O.kind hk hc e2 (h v e3)
theorem Inv.stored (I:Inv c F σ s) (O:FmOK c n q F) (Wr:FmW F) {i:Nat} {l:Loc} {d:D} {v:Value} {h':Heap} {t:Nat} {o:Obj} (hl:F.loc i=some l) (ho:s.heap.get? l.addr=some o)
  (nd:(∀ vs,o.data≠.fields vs)∧(∀ xs k,o.data≠.seq xs k)) (r:Rep s.heap v d)
  (k:∀ b o,b≠l.addr→s.heap.get? b=some o→h'.get? b=some o)
  (hv:l.holds h' v) (hth:∀ j l',F.loc j=some l'→l'.there h')
  (hoth:∀ l' w,l'≠l→l'.holds s.heap w→l'.holds h' w) (hfr:∀ m,s.heap.Ns l.addr m→∃ m',h'.Ns l.addr m') :
  Inv c F (σ.set i d) { s with heap:=h',toks:=t }∧Grow s.heap h':=by
 have fresh:=Wr.fresh i l hl
 have nB:c.B.get? l.addr=none:=by
  cases e:c.B.get? l.addr with
  | none=>rfl
  | some o'=>have:=O.bh _ _ e; rw [fresh] at this; cases this
 have grow:Grow s.heap h':=fun b o' e st=>k b o' (fun z=>by
  subst z
  rw [ho] at e; cases e
  rcases st with ⟨xs,m,_,st⟩ | ⟨vs,st⟩
  ·exact nd.2 _ _ st
  ·exact nd.1 vs st) e
 refine ⟨⟨I.same.trans ⟨_,_,rfl⟩,fun b o' e=>k b o' (fun z=>by rw [z,nB] at e; cases e) (I.base b o' e),I.kept.but fresh k,fun env he=>?_,fun j d' e=>?_,hth,fun a k' e=>?_,I.dap⟩,grow⟩
 ·obtain ⟨h1,L,m,h2,h3,h4⟩:=I.frames env he
  by_cases z:L=l.addr
  ·obtain ⟨m',h5⟩:=hfr m (z ▸ h4)
   exact ⟨h1,L,m',h2,h3,z ▸ h5⟩
  ·exact ⟨h1,L,m,h2,h3,h4.at' fun o' e=>k L o' z e⟩
 ·by_cases z:j=i
  ·subst z
   have e':some d=some d':=by simpa [St.set] using e
   cases e'
   exact ⟨l,v,hl,hv,Rep.grow grow r⟩
  ·have e':σ.loc j=some d':=by simpa [St.set,z] using e
   obtain ⟨l',w,e1,e2,e3⟩:=I.vars j d' e'
   exact ⟨l',w,e1,hoth l' w (fun z'=>z (Wr.apart j i l (z' ▸ e1) hl)) e2,Rep.grow grow e3⟩
 ·have p:=I.sto a k' e
  cases k' with
  | dict ps =>
   obtain ⟨h0,kvs,h1,h2,h3⟩:=p
   exact ⟨h0,kvs,dict_at h1 fun o' es ep e' _=>k a o' ((I.dap a ps e).2 i l hl) e',h2,Reps.grow grow h3⟩
  | list own ds =>
   obtain ⟨vs,h1,h2,h3⟩:=p
   obtain ⟨oa,e1,e2,m,e3⟩:=id h1
   have na:a≠l.addr:=fun z=>by rw [z,ho] at e1; cases e1; exact nd.2 _ _ e3
   exact ⟨vs,⟨oa,k a oa na e1,e2,m,e3⟩,fun w=>⟨(h2 w).1.at fun o' e'=>k a o' na e',(h2 w).2⟩,Reps.grow grow h3⟩
theorem store_var {M:Model} {A:Around} {E:Value→Shared→Prop} {i:Nat} {x:Str} {d:D} {v:Value} {Q:Unit→Shared→Prop} (I:Inv c F σ s) (FO:FmOK c n q F) (Wr:FmW F) (O:EnvOK F env K ns) (hx:ns i=some x) (r:Rep s.heap v d)
  (h:∀ s',SameSh s s'→Grow s.heap s'.heap→Inv c F (σ.set i d) s'→Q () s'):wpAny M A (storeName env x v) Q E s:=by
 rcases O.res i x hx with ⟨hk,hl⟩ | ⟨hk,a,hc,hl⟩
 ·obtain ⟨m,hn⟩:=I.places i _ hl
  refine wpAny_storeName_local hk hn (fun h' hn' hs'=>?_) (by rw [O.kind]; rfl)
  obtain ⟨o,es,ep,ho,hd,rr⟩:=id hn
  have kk:∀ b o,b≠env.locals→s.heap.get? b=some o→h'.get? b=some o:=fun b o nb e=>hs'.extBut b o nb e
  have oth:∀ (l':Loc) w,l'≠.ns env.locals x→l'.holds s.heap w→l'.holds h' w:=fun l' w ne p=>by
   cases l' with
   | ns L y =>
    obtain ⟨m₁,hn₁,hv₁⟩:=p
    by_cases z:L=env.locals
    ·subst z
     have:=Ns.unique hn hn₁
     subst this
     refine ⟨_,hn',?_⟩
     rw [if_neg (fun e=>ne (by rw [e]))]; exact hv₁
    ·exact ⟨m₁,hn₁.at' fun o e=>kk L o z e,hv₁⟩
   | cell a =>
    obtain ⟨oa,e1,e2⟩:=p
    exact ⟨oa,kk a oa (fun z=>by rw [z,ho] at e1; cases e1; rw [hd] at e2; cases e2) e1,e2⟩
  have th:∀ j l',F.loc j=some l'→l'.there h':=fun j l' e=>by
   have p:=I.places j l' e
   cases l' with
   | ns L y =>
    obtain ⟨m₁,hn₁⟩:=p
    by_cases z:L=env.locals
    ·subst z; exact ⟨_,hn'⟩
    ·exact ⟨m₁,hn₁.at' fun o e=>kk L o z e⟩
   | cell a =>
    obtain ⟨w,oa,e1,e2⟩:=p
    exact ⟨w,oa,kk a oa (fun z=>by rw [z,ho] at e1; cases e1; rw [hd] at e2; cases e2) e1,e2⟩
  obtain ⟨I',g⟩:=I.stored (t:=s.toks+1) FO Wr hl ho ⟨(fun vs e=>by rw [hd] at e; cases e),(fun xs k e=>by rw [hd] at e; cases e)⟩ r kk ⟨_,hn',by simp⟩ th oth (fun m' _=>⟨_,hn'⟩)
  exact h _ ⟨_,_,rfl⟩ g I'
 ·obtain ⟨w₀,hc₀⟩:=I.places i _ hl
  refine wpAny_storeName_cell O.kind hk hc hc₀ fun h' hc' hs'=>?_
  obtain ⟨o,ho,hd⟩:=id hc₀
  have kk:∀ b o,b≠a→s.heap.get? b=some o→h'.get? b=some o:=fun b o nb e=>hs'.extBut b o nb e
  have oth:∀ (l':Loc) w,l'≠.cell a→l'.holds s.heap w→l'.holds h' w:=fun l' w ne p=>by
   cases l' with
   | ns L y =>
    obtain ⟨m₁,⟨o₁,es₁,ep₁,ho₁,hd₁,r₁⟩,hv₁⟩:=p
    exact ⟨m₁,⟨o₁,es₁,ep₁,kk L o₁ (fun z=>by rw [z,ho] at ho₁; cases ho₁; rw [hd] at hd₁; cases hd₁) ho₁,hd₁,r₁⟩,hv₁⟩
   | cell b =>
    obtain ⟨oa,e1,e2⟩:=p
    exact ⟨oa,kk b oa (fun z=>ne (by rw [z])) e1,e2⟩
  have th:∀ j l',F.loc j=some l'→l'.there h':=fun j l' e=>by
   have p:=I.places j l' e
   cases l' with
   | ns L y =>
    obtain ⟨m₁,o₁,es₁,ep₁,ho₁,hd₁,r₁⟩:=p
    exact ⟨m₁,o₁,es₁,ep₁,kk L o₁ (fun z=>by rw [z,ho] at ho₁; cases ho₁; rw [hd] at hd₁; cases hd₁) ho₁,hd₁,r₁⟩
   | cell b =>
    by_cases z:b=a
    ·subst z; exact ⟨_,hc'⟩
    ·obtain ⟨w,oa,e1,e2⟩:=p
     exact ⟨w,oa,kk b oa z e1,e2⟩
  obtain ⟨I',g⟩:=I.stored (t:=s.toks) FO Wr hl ho ⟨(fun vs e=>by rw [hd] at e; cases e),(fun xs k e=>by rw [hd] at e; cases e)⟩ r kk hc' th oth (fun m' hm=>by
   obtain ⟨o₁,es₁,ep₁,ho₁,hd₁,r₁⟩:=hm
   have ho₂:s.heap.get? a=some o₁:=ho₁
   rw [ho] at ho₂; cases ho₂; rw [hd] at hd₁; cases hd₁)
  exact h _ ⟨_,_,rfl⟩ g I'
end
end Mine
namespace Mine
open PySem
noncomputable def Post (c:Cx) (F:Fm) (h₀:Heap) (Q:D→St→Prop):Value→Shared→Prop:=fun v s'=>∃ d σ',Grow h₀ s'.heap∧Inv c F σ' s'∧Rep s'.heap v d∧Q d σ'
theorem sizeLine_val:sizeLine=16777216:=rfl
theorem reps_rep {h:Heap} {vs:List Value} {ds:List D} (r:Reps h vs ds):∀ k:Nat,Reps h (List.replicate k vs).flatten (List.replicate k ds).flatten
 | 0=>.nil
 | k+1=>by
  rw [List.replicate_succ,List.replicate_succ,List.flatten_cons,List.flatten_cons]
  exact r.append (reps_rep r k)
section
variable {c:Cx} {F:Fm} {σ:St} {s:Shared} {n:Nat} {q:Bool} {E:Value→Shared→Prop} {Q:D→St→Prop}
theorem post_same (I:Inv c F σ s) {v:Value} {d:D} (r:Rep s.heap v d) (h:Q d σ):Post c F s.heap Q v s:=⟨d,σ,Grow.refl _,I,r,h⟩
theorem post_tok (I:Inv c F σ s) {v:Value} {d:D} {t:Nat} (r:Rep s.heap v d) (h:Q d σ):Post c F s.heap Q v { s with toks:=t }:=⟨d,σ,Grow.refl _,I.tok t,r,h⟩
theorem post_keeps (I:Inv c F σ s) {h':Heap} {t:Nat} (k:∀ b o,s.heap.get? b=some o→h'.get? b=some o) {v:Value} {d:D} (r:Rep h' v d) (h:Q d σ):Post c F s.heap Q v { s with heap:=h',toks:=t } :=
 ⟨d,σ,grow_of_keeps k,I.keeps k,r,h⟩
theorem push_keeps (h:Heap) (o:Obj):∀ b o',h.get? b=some o'→(h.push o).get? b=some o':=fun b o' e=>Heap.get?_push_of_some o e
theorem post_tuple (I:Inv c F σ s) {vs:List Value} {ds:List D} {t:Nat} (r:Reps s.heap vs ds) (h:Q (.tup ds) σ) :
  Post c F s.heap Q (.ref s.heap.objs.size) { s with heap:=s.heap.push { cls:=.type "tuple",data:=.seq vs.toArray },toks:=t } :=
 post_keeps I (push_keeps _ _) (.tup (IsT.new s.heap vs.toArray) (Reps.grow (grow_of_keeps (push_keeps _ _)) r)) h
theorem CellOK.there (c':Cx) {h hE:Heap} {a:Addr} {k:Cell} (p:CellOK h hE a k):∃ o,h.get? a=some o:=by
 cases k with
 | list own ds=>obtain ⟨vs,⟨o,e1,_⟩,_⟩:=p; exact ⟨o,e1⟩
 | dict ps=>obtain ⟨_,kvs,h1,_⟩:=p; obtain ⟨o,_,_,e1,_⟩:=h1 c'.prog c'.w; exact ⟨o,e1⟩
theorem Inv.free (I:Inv c F σ s) {a:Addr} (ha:s.heap.get? a=none):σ.sto a=none:=by
 cases e:σ.sto a with
 | none=>rfl
 | some k=>obtain ⟨o,e1⟩:=(I.sto a k e).there c; rw [ha] at e1; cases e1
theorem Inv.new_off (I:Inv c F σ s) {a:Addr} (ha:s.heap.get? a=none):a∉F.fs1∧∀ i l,F.loc i=some l→a≠l.addr:=by
 refine ⟨fun m=>?_,fun i l e z=>?_⟩
 ·obtain ⟨_,o,_,_,e1,_⟩:=I.frames.mem m; rw [ha] at e1; cases e1
 ·have p:=I.places i l e
  cases l with
  | ns L x=>obtain ⟨m,o,_,_,e1,_⟩:=p; have z:a=L:=z; rw [← z,ha] at e1; cases e1
  | cell b=>obtain ⟨v,o,e1,_⟩:=p; have z:a=b:=z; rw [← z,ha] at e1; cases e1
theorem dap_list {F:Fm} {σ:St} {a:Addr} {o:Bool} {ds:List D} (h:∀ a ps,σ.sto a=some (.dict ps)→a∉F.fs1∧∀ i l,F.loc i=some l→a≠l.addr):∀ b ps,(σ.put a (.list o ds)).sto b=some (.dict ps)→b∉F.fs1∧∀ i l,F.loc i=some l→b≠l.addr:=fun b ps e=>by
 by_cases z:b=a
 ·have e':some (Cell.list o ds)=some (.dict ps):=by simpa [St.put,Sto.put,z] using e
  cases e'
 ·exact h b ps (by simpa [St.put,Sto.put,z] using e)
theorem none_at_size (h:Heap):h.get? h.objs.size=none:=by
 cases e:h.get? h.objs.size with
 | none=>rfl
 | some o=>exact absurd (Heap.lt_size e) (Nat.lt_irrefl _)
theorem kept_none {fs:List Addr} {h h':Heap} (k:Kept fs h h') {a:Addr} (e:h'.get? a=none):h.get? a=none:=by
 cases q:h.get? a with
 | none=>rfl
 | some o=>obtain ⟨sl,e1,_⟩:=k a o q; rw [e] at e1; cases e1
theorem Inv.newList (I:Inv c F σ s) {h':Heap} {t:Nat} {a:Addr} {vs:List Value} {ds:List D} (ha:s.heap.get? a=none) (k:∀ b o,s.heap.get? b=some o→h'.get? b=some o) (hl:h'.PlainList a vs.toArray) (r:Reps s.heap vs ds) :
  Inv c F (σ.put a (.list true ds)) { s with heap:=h',toks:=t }:=by
 have I':=I.keeps (t:=t) k
 refine ⟨I'.same,I'.base,I'.kept,I'.frames,I'.vars,I'.places,fun b k' e=>?_,dap_list I'.dap⟩
 by_cases z:b=a
 ·subst z
  have e':some (Cell.list true ds)=some k':=by simpa [St.put,Sto.put] using e
  cases e'
  exact ⟨vs,hl.isList,fun _=>⟨hl,kept_none I.kept ha⟩,Reps.grow (grow_of_keeps k) r⟩
 ·exact I'.sto b k' (by simpa [St.put,Sto.put,z] using e)
theorem post_dict (I:Inv c F σ s) {t:Nat} (h:∀ l,σ.sto l=none→Q (.lst l) (σ.put l (.dict []))):Post c F s.heap Q (.ref s.heap.objs.size) { s with heap:=s.heap.push { cls:=.type "dict",data:=.dict #[] },toks:=t }:=by
 have k:=push_keeps s.heap { cls:=.type "dict",data:=.dict #[] }
 have ha:=none_at_size s.heap
 have I':=I.keeps (t:=t) k
 refine ⟨.lst _,σ.put s.heap.objs.size (.dict []),grow_of_keeps k,⟨I'.same,I'.base,I'.kept,I'.frames,I'.vars,I'.places,fun b k' e=>?_,fun b ps e=>?_⟩,.lst _,h _ (I.free ha)⟩
 ·by_cases z:b=s.heap.objs.size
  ·subst z
   have e':some (Cell.dict [])=some k':=by simpa [St.put,Sto.put] using e
   cases e'
   exact ⟨kept_none I.kept ha,[],fun prog w=>⟨_,#[],0,Heap.get?_push_size _ rfl,⟨rfl,rfl,rfl⟩,rfl,(fun e he=>by simp at he),by constructor,by simp⟩,rfl,.nil⟩
  ·exact I'.sto b k' (by simpa [St.put,Sto.put,z] using e)
 ·by_cases z:b=s.heap.objs.size
  ·subst z; exact I.new_off ha
  ·exact I'.dap b ps (by simpa [St.put,Sto.put,z] using e)
theorem post_list (I:Inv c F σ s) {h':Heap} {t:Nat} {a:Addr} {vs:List Value} {ds:List D} (ha:s.heap.get? a=none) (k:∀ b o,s.heap.get? b=some o→h'.get? b=some o) (hl:h'.PlainList a vs.toArray) (r:Reps s.heap vs ds)
  (h:∀ l,σ.sto l=none→Q (.lst l) (σ.put l (.list true ds))):Post c F s.heap Q (.ref a) { s with heap:=h',toks:=t } :=
 ⟨.lst a,_,grow_of_keeps k,I.newList ha k hl r,.lst a,h a (I.free ha)⟩
theorem add_tup {prog:Program} {w:World} {A:Around} {t b:Addr} {vs ws:List Value} {n₁ n₂:Nat} {Q:Value→Shared→Prop} (ht:IsT s.heap t vs.toArray n₁) (hb:IsT s.heap b ws.toArray n₂)
  (h0:vs=[]→Q (.ref b) s) (h1:vs≠[]→ws=[]→Q (.ref t) s)
  (h2:vs≠[]→ws≠[]→Q (.ref s.heap.objs.size) { s with heap:=s.heap.push { cls:=.type "tuple",data:=.seq (vs ++ ws).toArray } })
  (hsz:vs.length+ws.length≤sizeLine):wpAny (model prog w) A (binaryOp .Add (.ref t) (.ref b)) Q E s:=by
 by_cases hv:vs=[]
 ·exact concat_meets ⟨_,ht,rfl⟩ ⟨_,hb,rfl⟩ noFill_tuple_add seq_tuple_add PySem.F.slot_tuple_add PySem.F.entry_tuple_add (PySem.F.args_tuple_add_2 _ _) (PyProof.Rows.tuple_addW0 t b vs.toArray ws.toArray n₁ n₂ none none #[] #[] (by simp [hv])) ⟨ht,hb,h0 hv⟩
 ·by_cases hw:ws=[]
  ·exact concat_meets ⟨_,ht,rfl⟩ ⟨_,hb,rfl⟩ noFill_tuple_add seq_tuple_add PySem.F.slot_tuple_add PySem.F.entry_tuple_add (PySem.F.args_tuple_add_2 _ _) (PyProof.Rows.tuple_addW1 t b vs.toArray ws.toArray n₁ n₂ none none #[] #[] (by simpa using hv) (by simp [hw])) ⟨ht,hb,h1 hv hw⟩
  ·have e:vs.toArray ++ ws.toArray=(vs ++ ws).toArray:=by simp
   have:=h2 hv hw
   rw [← e] at this
   exact P.add_tuple ht hb (by simpa using hv) (by simpa using hw) this (by simpa using hsz)
theorem FmOK.room (FO:FmOK c n q F) (CO:CxOK c) (hb:c.B.StaysIn s.heap):PylongRoom (model c.prog c.w) F.A s :=
 PylongRoom.of (CO.lim.keeps hb) (by have:=FO.depth; show F.A.depth+100<1000; exact lin [_,_] [] [.nt (.a (.x 0) (.x 1)) (.k 800)] [] (.nt (.a (.x 0) (.k 100)) (.k 1000)) (.l 1 [1]) rfl this)
  (SeerAt.of (CO.seer.keeps hb) CO.tree FO.frames FO.gen FO.co FO.builtins FO.globals)
theorem inv_intII {h:Heap} {v w:Value} {x y:D} {K:Int→Int→Prop} (rv:Rep h v x) (rw':Rep h w y) (k:intII x y K):∃ a t b u,v=.int a t∧w=.int b u∧K a b:=by
 cases rv with
 | int a t =>
  cases rw' with
  | int b u=>exact ⟨a,t,b,u,rfl,rfl,k⟩
  | _=>exact (show False from k).elim
 | _=>exact (show False from k).elim
theorem s_add (I:Inv c F σ s) {x y:D} {v w:Value} (rv:Rep s.heap v x) (rw':Rep s.heap w y) (h:opAdd x y Q σ) :
  wpAny (model c.prog c.w) F.A (binaryOp .Add v w) (Post c F s.heap Q) E s:=by
 cases rv with
 | int a t =>
  cases rw' with
  | int b u=>exact P.add_int (post_tok I (.int _ _) h)
  | _=>exact (show False from h).elim
 | tup ht ra =>
  cases rw' with
  | tup hb rb =>
   obtain ⟨l1,l2,hq⟩:=h
   refine add_tup ht hb (fun e=>?_) (fun _ e=>?_) (fun _ _=>post_tuple I (ra.append rb) hq) (by rw [ra.length,rb.length,sizeLine_val]; unfold lim at l1 l2; exact o1 l1 l2)
   ·subst e; cases ra; exact post_same I (.tup hb rb) hq
   ·subst e; cases rb; rw [List.append_nil] at hq; exact post_same I (.tup ht ra) hq
  | _=>exact (show False from h).elim
 | lst a =>
  cases rw' with
  | lst b =>
   obtain ⟨o₁,xs,o₂,ys,e1,e2,l1,l2,hq⟩:=h
   obtain ⟨vs,hl,_,ra⟩:=I.sto _ _ e1
   obtain ⟨ws,hl',_,rb⟩:=I.sto _ _ e2
   obtain ⟨⟨cls,dd,data,sl⟩,ho,hc,m,hd⟩:=id hl
   obtain ⟨⟨cls2,dd2,data2,sl2⟩,ho2,hc2,m2,hd2⟩:=id hl'
   simp only at hc hd hc2 hd2
   subst hc hd hc2 hd2
   refine concat_meets ⟨_,ho,rfl⟩ ⟨_,ho2,rfl⟩ noFill_list_add seq_list_add PySem.F.slot_list_add PySem.F.entry_list_add (PySem.F.args_list_add_2 _ _) (PyProof.Rows.list_addW a b vs.toArray ws.toArray m m2 dd dd2 sl sl2 ?_) ⟨ho,ho2,?_⟩
   ·simp only [List.size_toArray]; rw [ra.length,rb.length,sizeLine_val]; unfold lim at l1 l2; exact o1 l1 l2
   ·have e:vs.toArray ++ ws.toArray=(vs ++ ws).toArray:=by simp
    rw [e]
    exact post_list I (none_at_size _) (push_keeps _ _) ⟨0,Heap.get?_push_size _ rfl⟩ (ra.append rb) hq
  | _=>exact (show False from h).elim
 | _=>exact (show False from h).elim
theorem s_mul (I:Inv c F σ s) {x y:D} {v w:Value} (rv:Rep s.heap v x) (rw':Rep s.heap w y) (h:opMul x y Q σ) :
  wpAny (model c.prog c.w) F.A (binaryOp .Mult v w) (Post c F s.heap Q) E s:=by
 cases rv with
 | int a t =>
  cases rw' with
  | int b u=>exact P.mul_int (post_tok I (.int _ _) h.2) h.1
  | _=>exact (show False from h).elim
 | lst a =>
  cases rw' with
  | int b u =>
   obtain ⟨xs,e,h1,h2,h3,hq⟩:=h
   obtain ⟨vs,_,hp,ra⟩:=I.sto a _ e
   obtain ⟨m,hl⟩:=(hp rfl).1
   have hlen:=ra.length
   have hsz:vs.toArray.size*b.toNat≤100*10000:=Nat.mul_le_mul (by rw [List.size_toArray,hlen]; exact h1) (by exact o2 h3)
   refine wpAny_binaryOp_repeat_ref (T:="list") (U:="int") (by decide) ⟨_,hl,rfl⟩ (fun s'=>typeIs_int s' b u) noFill_list_mul PySem.F.fills_int_mul PySem.F.slot_int_rmul repeat_list PySem.F.slot_int_index.lookup
    (call_meets PySem.F.slot_int_rmul (typeIs_int s b u) PySem.F.entry_int_rmul (PySem.F.args_int_rmul_2 _ _) (int___rmul___int_list b u a vs.toArray m)
     ⟨hl,rfl,⟨_,hl,rfl⟩,call_meets PySem.F.slot_list_mul ⟨_,hl,rfl⟩ PySem.F.entry_list_mul (PySem.F.args_list_mul_2 _ _)
      (AutoListH.list___mul___list_int_3 a vs.toArray m b u (by simp [Builtin.List.listFitsIndex]; exact o3 h2 h3) (by exact o4 hsz) (by simp [Builtin.List.listTooLong,sizeLine]; simp at hsz; exact o5 hsz)) ⟨hl,?_⟩⟩)
   rw [PyProof.Rows.listMul_foldl_if]
   exact post_list (t:=s.toks) I (none_at_size _) (push_keeps _ _) ⟨0,Heap.get?_push_size _ rfl⟩ (reps_rep ra b.toNat) hq
  | _=>exact (show False from h).elim
 | _=>exact (show False from h).elim
theorem s_bin (I:Inv c F σ s) (FO:FmOK c n q F) (CO:CxOK c) {op:Operator} {x y:D} {v w:Value} (rv:Rep s.heap v x) (rw':Rep s.heap w y) (h:opBin op x y Q σ) :
  wpAny (model c.prog c.w) F.A (binaryOp op v w) (Post c F s.heap Q) E s:=by
 cases op with
 | Add=>exact s_add I rv rw' h
 | Mult=>exact s_mul I rv rw' h
 | Sub=>obtain ⟨a,t,b,u,rfl,rfl,h⟩:=inv_intII rv rw' h; exact P.sub_int (post_tok I (.int _ _) h)
 | FloorDiv=>obtain ⟨a,t,b,u,rfl,rfl,h⟩:=inv_intII rv rw' h; exact PyProof.Rows.floordiv_int h.1 (post_tok I (.int _ _) h.2) (.inr (FO.room CO I.base))
 | Mod=>obtain ⟨a,t,b,u,rfl,rfl,h⟩:=inv_intII rv rw' h; exact PyProof.Rows.mod_int' h.1 (post_tok I (.int _ _) h.2)
 | _=>exact (show False from h).elim
end
end Mine
namespace Mine
open PySem PySem.SeqAt
theorem isT_items {h:Heap} {a:Addr} {vs vs':List Value} {n n':Nat} (x:IsT h a vs.toArray n) (y:IsT h a vs'.toArray n'):vs=vs':=by
 have:some ({ cls:=.type "tuple",dict:=none,data:=.seq vs.toArray n,slots:=#[] }:Obj)=some { cls:=.type "tuple",dict:=none,data:=.seq vs'.toArray n',slots:=#[] }:=x.symm.trans y
 injection this with this
 injection this with _ _ this _
 injection this with this _
 injection this
theorem none_some {b:Bool} (h:(none:Option Bool)=some b) {P:Prop}:P:=by cases h
theorem eqK_inv {fo:Option (D→D→Option Bool)} {x y:D} {b:Bool} (e:eqK fo x y=some b):(∃ i j,x=.int i∧y=.int j∧(i==j)=b)∨(∃ p q,x=.bool p∧y=.bool q∧(p==q)=b)∨∃ f as bs,x=.tup as∧y=.tup bs∧fo=some f∧eqL f as bs=some b:=by
 cases x with
 | int i=>cases y with
  | int j=>exact .inl ⟨i,j,rfl,rfl,Option.some.inj e⟩
  | _=>exact none_some e
 | bool p=>cases y with
  | bool j=>exact .inr (.inl ⟨p,j,rfl,rfl,Option.some.inj e⟩)
  | _=>exact none_some e
 | tup as=>cases y with
  | tup bs=>cases fo with
   | none=>exact none_some e
   | some f=>exact .inr (.inr ⟨f,as,bs,rfl,rfl,rfl,e⟩)
  | _=>exact none_some e
 | _=>exact none_some e
theorem eqL_cons {f:D→D→Option Bool} {x y:D} {xs ys:List D} {b:Bool} (e:eqL f (x :: xs) (y :: ys)=some b):∃ p q,f x y=some p∧eqL f xs ys=some q∧(p&&q)=b:=by
 have e:(match f x y with | some x=>(match eqL f xs ys with | some y=>some (x&&y) | none=>none) | none=>none)=some b:=e
 cases h1:f x y with
 | none=>rw [h1] at e; exact none_some e
 | some p =>
  rw [h1] at e
  cases h2:eqL f xs ys with
  | none=>rw [h2] at e; exact none_some e
  | some q=>rw [h2] at e; exact ⟨p,q,rfl,rfl,Option.some.inj e⟩
theorem rep_int {h:Heap} {v:Value} {i:Int} (r:Rep h v (.int i)):∃ t,v=.int i t:=by
 cases r; exact ⟨_,rfl⟩
theorem rep_tup {h:Heap} {v:Value} {ds:List D} (r:Rep h v (.tup ds)):∃ a n vs,v=.ref a∧IsT h a (List.toArray vs) n∧Reps h vs ds:=by
 cases r with | tup ht rs=>exact ⟨_,_,_,rfl,ht,rs⟩
theorem same_items {h:Heap} {f:D→D→Option Bool} (ih:∀ {v:Value} {d d':D} {b:Bool},Rep h v d→Rep h v d'→f d d'=some b→b=true) (vs:List Value) (ds ds':List D) (b:Bool) (r:Reps h vs ds):Reps h vs ds'→eqL f ds ds'=some b→b=true :=
 Reps.ind (P:=fun vs ds=>∀ ds' b,Reps h vs ds'→eqL f ds ds'=some b→b=true) (fun ds' b q e=>by cases q; exact (Option.some.inj e).symm) (fun x _ z ds' b q e=>by
  cases q with | cons x' y' =>
  obtain ⟨p,q,hp,hq,rfl⟩:=eqL_cons e
  rw [ih x x' hp,z _ _ y' hq]; rfl) r ds' b
theorem Rep.same_eq (h:Heap):∀ (k:Nat) {v:Value} {d d':D} {b:Bool},Rep h v d→Rep h v d'→eqD k d d'=some b→b=true:=by
 intro k
 induction k with
 | zero =>
  intro v d d' b r r' e
  rcases eqK_inv e with ⟨i,j,rfl,rfl,rfl⟩ | ⟨i,j,rfl,rfl,rfl⟩ | ⟨f,as,bs,rfl,rfl,z,e⟩
  ·cases r; cases r'; exact beq_self_eq_true _
  ·cases r; cases r'; exact beq_self_eq_true _
  ·cases z
 | succ k ih =>
  intro v d d' b r r' e
  rcases eqK_inv e with ⟨i,j,rfl,rfl,rfl⟩ | ⟨i,j,rfl,rfl,rfl⟩ | ⟨f,as,bs,rfl,rfl,z,e⟩
  ·cases r; cases r'; exact beq_self_eq_true _
  ·cases r; cases r'; exact beq_self_eq_true _
  ·cases z
   obtain ⟨a,n,vs,rfl,ht,rs⟩:=rep_tup r
   obtain ⟨a',n',vs',e1,ht',rs'⟩:=rep_tup r'
   cases e1
   have e1:=isT_items ht ht'
   subst e1
   exact same_items ih vs as bs b rs rs' e
noncomputable def eqAtJ (f:D→D→Option Bool) (as bs:List D) (j:Nat):Bool:=match as[j]?,bs[j]? with | some x,some y=>(f x y).getD false | _,_=>false
theorem eqL_all (f:D→D→Option Bool):∀ (as bs:List D) (b:Bool),eqL f as bs=some b→
  (∀ (j:Nat) x y,as[j]?=some x→bs[j]?=some y→∃ r,f x y=some r)∧
  b=((List.range (min as.length bs.length)).all (eqAtJ f as bs)&&as.length==bs.length)
 | [],[],b,e=>by simp [eqL] at e; subst e; simp
 | [],y :: ys,b,e=>by simp [eqL] at e; subst e; simp
 | x :: xs,[],b,e=>by simp [eqL] at e; subst e; simp
 | x :: xs,y :: ys,b,e=>by
  obtain ⟨p,q,hp,hq,rfl⟩:=eqL_cons e
  obtain ⟨h1,h2⟩:=eqL_all f xs ys q hq
  refine ⟨fun j x' y' e1 e2=>?_,?_⟩
  ·cases j with
   | zero=>cases e1; cases e2; exact ⟨p,hp⟩
   | succ j=>exact h1 j x' y' e1 e2
  ·have hm:min (x :: xs).length (y :: ys).length=min xs.length ys.length+1:=Nat.succ_min_succ ..
   have hf:(eqAtJ f (x :: xs) (y :: ys)) ∘ Nat.succ=eqAtJ f xs ys:=rfl
   have h0:eqAtJ f (x :: xs) (y :: ys) 0=p:=by show (f x y).getD false=p; rw [hp]; rfl
   rw [hm,List.range_succ_eq_map,List.all_cons,List.all_map,hf,h0,h2]
   simp [Bool.and_assoc]
section
variable {s:Shared}
theorem eqItems {k:Nat} {A:Around} {vs vs':List Value} {ds ds':List D} {b:Bool} (ih:∀ {v v':Value} {d d':D} {b:Bool},Rep s.heap v d→Rep s.heap v' d'→eqD k d d'=some b→EqAt A s v v' b)
  (rs:Reps s.heap vs ds) (rs':Reps s.heap vs' ds') (e:eqL (eqD k) ds ds'=some b) :
  b=((List.range (min vs.toArray.size vs'.toArray.size)).all (eqAtJ (eqD k) ds ds')&&vs.toArray.size==vs'.toArray.size)∧
  ∀ j (h1:j<vs.toArray.size) (h2:j<vs'.toArray.size),EqAt A s vs.toArray[j] vs'.toArray[j] (eqAtJ (eqD k) ds ds' j):=by
 obtain ⟨h1,h2⟩:=eqL_all _ _ _ _ e
 refine ⟨by simpa only [List.size_toArray,rs.length,rs'.length] using h2,fun j j1 j2=>?_⟩
 simp only [List.size_toArray] at j1 j2
 have k1:j<ds.length:=by rw [← rs.length]; exact j1
 have k2:j<ds'.length:=by rw [← rs'.length]; exact j2
 obtain ⟨v,e1,r1⟩:=rs.get (List.getElem?_eq_getElem k1)
 obtain ⟨v',e2,r2⟩:=rs'.get (List.getElem?_eq_getElem k2)
 obtain ⟨r,hr⟩:=h1 j _ _ (List.getElem?_eq_getElem k1) (List.getElem?_eq_getElem k2)
 have ev:vs.toArray[j]=v:=by rw [List.getElem?_eq_getElem j1] at e1; simpa using e1
 have ev':vs'.toArray[j]=v':=by rw [List.getElem?_eq_getElem j2] at e2; simpa using e2
 have er:eqAtJ (eqD k) ds ds' j=r:=by simp [eqAtJ,k1,k2,hr]
 rw [ev,ev',er]
 exact ih r1 r2 hr
theorem eqAt_tup {k:Nat} (ih:∀ {v v':Value} {d d':D} {b:Bool},Rep s.heap v d→Rep s.heap v' d'→eqD k d d'=some b→∀ {A:Around},A.units+k<cLine→EqAt A s v v' b) {A:Around} (hu:A.units+(k+1)<cLine)
  {a a':Addr} {n n':Nat} {vs vs':List Value} {ds ds':List D} {b:Bool} (ht:IsT s.heap a vs.toArray n) (rs:Reps s.heap vs ds) (ht':IsT s.heap a' vs'.toArray n') (rs':Reps s.heap vs' ds') (e:eqD (k+1) (.tup ds) (.tup ds')=some b) :
  EqAt A s (.ref a) (.ref a') b:=by
 by_cases z:a=a'
 ·subst z
  have:=Rep.same_eq s.heap (k+1) (.tup ht rs) (.tup ht' rs') e
  subst this
  exact EqAt.same _
 ·have e':eqL (eqD k) ds ds'=some b:=e
  obtain ⟨h1,h2⟩:=eqItems (A:=A.in1) (fun r r' q=>ih r r' q (by show A.units+1+k<cLine; exact lin [_,_,_] [] [.nt (.a (.x 0) (.a (.x 1) (.k 1))) (.x 2)] [] (.nt (.a (.a (.x 0) (.k 1)) (.x 1)) (.x 2)) (.l 1 [1]) rfl hu)) rs rs' e'
  rw [h1]
  exact EqAt.of_refs z (RcAt.tuples (IsT.tuple ht) (IsT.tuple ht') (by exact lin [_,_,_] [] [.nt (.a (.x 0) (.a (.x 1) (.k 1))) (.x 2)] [] (.nt (.x 0) (.x 2)) (.l 1 [1]) rfl hu) h2)
theorem eqAt:∀ (k:Nat) {v v':Value} {d d':D} {b:Bool},Rep s.heap v d→Rep s.heap v' d'→eqD k d d'=some b→∀ {A:Around},A.units+k<cLine→EqAt A s v v' b:=by
 intro k
 induction k with
 | zero =>
  intro v v' d d' b r1 r2 e A hu'
  rcases eqK_inv e with ⟨i,j,rfl,rfl,rfl⟩ | ⟨i,j,rfl,rfl,rfl⟩ | ⟨f,as,bs,rfl,rfl,z,e⟩
  ·cases r1; cases r2; exact EqAt.int_int _ _ _ _
  ·cases r1; cases r2; exact EqAt.bool_bool _ _
  ·cases z
 | succ k ih =>
  intro v v' d d' b r1 r2 e A hu'
  rcases eqK_inv e with ⟨i,j,rfl,rfl,rfl⟩ | ⟨i,j,rfl,rfl,rfl⟩ | ⟨f,as,bs,rfl,rfl,z,e'⟩
  ·cases r1; cases r2; exact EqAt.int_int _ _ _ _
  ·cases r1; cases r2; exact EqAt.bool_bool _ _
  ·obtain ⟨a,n,vs,rfl,ht,rs⟩:=rep_tup r1
   obtain ⟨a',n',vs',rfl,ht',rs'⟩:=rep_tup r2
   exact eqAt_tup ih hu' ht rs ht' rs' e
end
end Mine
namespace Mine
open PySem PySem.SeqAt
section
variable {s:Shared}
theorem rcAt {v v':Value} {d d':D} {b:Bool} (r1:Rep s.heap v d) (r2:Rep s.heap v' d') (e:eqD 50 d d'=some b) {A:Around} (hu:A.units+60<cLine):RcAt A s v v' b∧RcNeAt A s v v' (!b):=by
 rcases eqK_inv (fo:=some (eqD 49)) e with ⟨i,j,rfl,rfl,rfl⟩ | ⟨i,j,rfl,rfl,rfl⟩ | ⟨f,as,bs,rfl,rfl,z,e'⟩
 ·cases r1; cases r2; exact ⟨RcAt.int_int _ _ _ _,RcNeAt.int_int _ _ _ _⟩
 ·cases r1; cases r2; exact ⟨RcAt.bool_bool _ _,RcNeAt.bool_bool _ _⟩
 ·cases z
  obtain ⟨a,n,vs,rfl,ht,rs⟩:=rep_tup r1
  obtain ⟨a',n',vs',rfl,ht',rs'⟩:=rep_tup r2
  obtain ⟨h1,h2⟩:=eqItems (A:=A.in1) (fun r r' q=>eqAt 49 r r' q (by show A.units+1+49<cLine; exact lin [_,_] [] [.nt (.a (.x 0) (.k 60)) (.x 1)] [] (.nt (.a (.a (.x 0) (.k 1)) (.k 49)) (.x 1)) (.l 1 [1]) rfl hu)) rs rs' e'
  rw [h1]
  exact ⟨RcAt.tuples (IsT.tuple ht) (IsT.tuple ht') (by exact o9 hu) h2,RcNeAt.tuples (IsT.tuple ht) (IsT.tuple ht') (by exact o9 hu) h2⟩
end
section
variable {c:Cx} {F:Fm} {σ:St} {s:Shared} {n:Nat} {q:Bool} {E:Value→Shared→Prop} {Q:D→St→Prop}
theorem FmOK.u60 (FO:FmOK c n q F):F.A.units+60<cLine:=by have:=FO.units; show F.A.units+60<9900; exact lin [_,_] [] [.nt (.a (.x 0) (.m 4 (.x 1))) (.k 9000)] [] (.nt (.a (.x 0) (.k 60)) (.k 9900)) (.l 1 [1]) rfl this
theorem lstOf_some {τ:Sto} {a:Addr} {xs:List D} (h:lstOf τ a=some xs):∃ o,τ a=some (.list o xs):=by
 unfold lstOf at h
 cases e:τ a with
 | none=>rw [e] at h; cases h
 | some k =>
  rw [e] at h
  cases k with
  | list o ys=>cases h; exact ⟨o,rfl⟩
  | dict ps=>cases h
theorem s_eqLst (I:Inv c F σ s) (FO:FmOK c n q F) {a a':Addr} {b:Bool} (e:eqTop σ.sto (.lst a) (.lst a')=some b):RcAt F.A s (.ref a) (.ref a') b∧RcNeAt F.A s (.ref a) (.ref a') (!b):=by
 have hu:=FO.u60
 have e:(match lstOf σ.sto a with | some xs=>(match lstOf σ.sto a' with | some ys=>eqL (eqD 50) xs ys | none=>none) | none=>none)=some b:=e
 cases h1:lstOf σ.sto a with
 | none=>rw [h1] at e; exact none_some e
 | some xs =>
  rw [h1] at e
  cases h2:lstOf σ.sto a' with
  | none=>rw [h2] at e; exact none_some e
  | some ys =>
   rw [h2] at e
   obtain ⟨o₁,h1⟩:=lstOf_some h1
   obtain ⟨o₂,h2⟩:=lstOf_some h2
   obtain ⟨vs,hl,_,ra⟩:=I.sto _ _ h1
   obtain ⟨ws,hl',_,rb⟩:=I.sto _ _ h2
   by_cases z:xs.length=ys.length
   ·obtain ⟨e1,e2⟩:=eqItems (A:=F.A.in1) (fun r r' q=>eqAt 50 r r' q (by show F.A.units+1+50<cLine; exact lin [_,_] [] [.nt (.a (.x 0) (.k 60)) (.x 1)] [] (.nt (.a (.a (.x 0) (.k 1)) (.k 50)) (.x 1)) (.l 1 [1]) rfl hu)) ra rb e
    have hz:vs.toArray.size=ws.toArray.size:=by simp only [List.size_toArray,ra.length,rb.length,z]
    have hb:b=(List.range vs.toArray.size).all (eqAtJ (eqD 50) xs ys):=by rw [e1,← hz]; simp
    rw [hb]
    exact ⟨RcAt.lists hl hl' hz (by exact o9 hu) e2,RcNeAt.lists hl hl' hz (by exact o9 hu) e2⟩
   ·have hz:(vs.toArray.size != ws.toArray.size)=true:=by simp only [List.size_toArray,ra.length,rb.length]; simpa using z
    have hb:b=false:=by rw [(eqL_all _ _ _ _ e).2]; simp [z]
    subst hb
    exact ⟨RcAt.lists_lengths hl hl' hz (by exact o9 hu),RcNeAt.lists_lengths hl hl' hz (by exact o9 hu)⟩
theorem s_eqTop (I:Inv c F σ s) (FO:FmOK c n q F) {x y:D} {v w:Value} {b:Bool} (rv:Rep s.heap v x) (rw':Rep s.heap w y) (e:eqTop σ.sto x y=some b):RcAt F.A s v w b∧RcNeAt F.A s v w (!b):=by
 cases x with
 | lst a =>
  cases y with
  | lst a'=>cases rv; cases rw'; exact s_eqLst I FO e
  | _=>exact none_some (show eqD 50 (.lst a) _=some b from e)
 | _=>exact rcAt rv rw' e FO.u60
theorem ints_of {h:Heap}:∀ {vs:List Value} {us:List Int},Reps h vs (us.map D.int)→PyProof.Rows.IntsAre vs us
 | [],[],_=>.nil
 | v :: vs,u :: us,.cons x y=>by cases x with | int _ t=>exact .cons u t (ints_of y)
theorem s_eqMix (I:Inv c F σ s) (FO:FmOK c n q F) {x y:D} {v w:Value} {b:Bool} (rv:Rep s.heap v x) (rw':Rep s.heap w y) (e:eqMix σ.sto x y=some b):RcAt F.A s v w b:=by
 have hu:F.A.units<cLine:=by have:=FO.u60; unfold cLine at *; exact lin [_] [] [.nt (.a (.x 0) (.k 60)) (.k 9900)] [] (.nt (.x 0) (.k 9900)) (.l 1 [1]) rfl this
 have up:∀ {ds:List D},y=.tup ds→∃ a us,w=.ref a∧s.heap.IsTuple a us:=fun hy=>by
  subst hy
  obtain ⟨a,m,us,rfl,ht,rs⟩:=rep_tup rw'
  exact ⟨a,_,rfl,IsT.tuple ht⟩
 cases y with
 | tup ds =>
  obtain ⟨a,us,rfl,ht⟩:=up rfl
  cases rv with
  | none=>cases e; exact .none_tuple ht hu
  | bool _=>cases e; exact .bool_tuple _ ht hu
  | int _ _=>cases e; exact .int_tuple _ _ ht hu
  | str _ _=>cases e; exact .str_tuple _ _ ht hu
  | lst l =>
   have e:(match lstOf σ.sto l with | some _=>some false | none=>none)=some b:=e
   cases hl:lstOf σ.sto l with
   | none=>rw [hl] at e; cases e
   | some xs =>
    rw [hl] at e; cases e
    unfold lstOf at hl
    cases hk:σ.sto l with
    | none=>rw [hk] at hl; cases hl
    | some k =>
     rw [hk] at hl
     cases k with
     | dict _=>cases hl
     | list o ys=>obtain ⟨vs,h1,_⟩:=I.sto l _ hk; exact .list_tuple h1 ht hu
  | tup _ _=>cases e
  | exc _ _ _=>cases e
 | str t =>
  cases rv with
  | str a t=>cases rw'; cases e; exact .str_str _ _ _ _
  | _=>cases e
 | _=>cases rv <;> cases e
theorem intII_inv {x y:D} {K:Int→Int→Prop} (h:intII x y K):∃ a b,x=.int a∧y=.int b∧K a b:=by
 cases x with
 | int a=>cases y with
  | int b=>exact ⟨a,b,rfl,rfl,h⟩
  | _=>exact (show False from h).elim
 | _=>exact (show False from h).elim
theorem s_cmp (I:Inv c F σ s) (FO:FmOK c n q F) {op:CmpOp} {x y:D} {v w:Value} (rv:Rep s.heap v x) (rw':Rep s.heap w y) (h:opCmp op x y Q σ) :
  wpAny (model c.prog c.w) F.A (compareOp op v w) (Post c F s.heap Q) E s:=by
 cases op with
 | Lt=>obtain ⟨a,b,rfl,rfl,h⟩:=intII_inv h; cases rv; cases rw'; exact P.lt_int (post_same I (.bool _) h)
 | Gt=>obtain ⟨a,b,rfl,rfl,h⟩:=intII_inv h; cases rv; cases rw'; exact P.gt_int (post_same I (.bool _) h)
 | Eq =>
  rcases h with ⟨b,e,hq⟩ | ⟨b,e,hq⟩
  ·exact PySem.EqBoolInt.of_rc (s_eqTop I FO rv rw' e).1 (post_same I (.bool _) hq)
  ·exact PySem.EqBoolInt.of_rc (s_eqMix I FO rv rw' e) (post_same I (.bool _) hq)
 | In =>
  obtain ⟨i,js,rfl,rfl,h⟩:=h
  obtain ⟨a,m,us,rfl,ht,rs⟩:=rep_tup rw'
  cases rv with | int _ t =>
  exact PyProof.Rows.in_tuple_ints (items:=us.toArray) ⟨_,ht,rfl,_,rfl⟩ (ints_of rs) (post_same I (.bool _) h)
 | NotEq=>obtain ⟨b,e,hq⟩:=h; exact PySem.EqBoolInt.of_rcne (s_eqTop I FO rv rw' e).2 (post_same I (.bool _) hq)
 | _=>exact (show False from h).elim
theorem nth_get {vs:List Value} {ds:List D} {i:Int} {d:D} {h:Heap} (r:Reps h vs ds) (e:nth ds i=some d):∃ j v,seqIndex? i vs.length=some j∧vs[j]?=some v∧Rep h v d∧(0≤i→j=i.toNat)∧(¬ 0≤i→j=(i+vs.length).toNat∧-(vs.length:Int)≤i)∧j<ds.length:=by
 unfold nth at e
 split at e
 ·rename_i h0
  obtain ⟨v,e1,e2⟩:=r.get e
  have hlt:=(List.getElem?_eq_some_iff.mp e).1
  refine ⟨i.toNat,v,?_,e1,e2,fun _=>rfl,fun z=>absurd h0 z,hlt⟩
  unfold seqIndex?
  rw [← r.length] at hlt
  simp only [show ¬ i<0 by exact o13 h0,if_false]
  rw [if_pos (by simp; exact o14 h0 hlt)]
 ·rename_i h0
  split at e
  ·rename_i h1
   obtain ⟨v,e1,e2⟩:=r.get e
   have hlt:=(List.getElem?_eq_some_iff.mp e).1
   have ej:((ds.length:Int)+i).toNat=(i+vs.length).toNat:=by rw [r.length]; congr 1; exact linI [_] [_] [] [] (.a (.c (.x 0)) (.x 0)) (.a (.x 0) (.c (.x 0))) (.l 1 []) (.l 1 []) rfl
   rw [ej] at e1 hlt
   refine ⟨(i+vs.length).toNat,v,?_,e1,e2,fun z=>absurd z h0,fun _=>⟨rfl,by rw [r.length]; exact h1⟩,hlt⟩
   unfold seqIndex?
   rw [← r.length] at hlt h1
   simp only [show i<0 by exact o16 h0,if_true]
   rw [if_pos (by simp; exact o17 h0 h1)]
  ·cases e
theorem s_idx (I:Inv c F σ s) {value slice:Expr} {x y:D} {v w:Value} (rv:Rep s.heap v x) (rw':Rep s.heap w y) (h:opIdx x y Q σ) (hs:∀ o i,subscripted slice false o i=operate [o,i] (getItem o i)) :
  wpAny (model c.prog c.w) F.A (PyProof.Rows.subscriptTail value slice v w) (Post c F s.heap Q) E s:=by
 cases y with
 | int i =>
  cases rw' with | int _ t =>
  cases rv with
  | tup ht ra =>
   obtain ⟨hl,d,e,hq⟩:=h
   obtain ⟨j,v,e1,e2,e3,e4,e5,e6⟩:=nth_get ra e
   have hb:-(2 ^ 63)≤i∧i<2 ^ 63:=by
    have:=ra.length
    unfold lim at hl
    by_cases z:0≤i
    ·have:=e4 z; omega
    ·have:=e5 z; omega
   exact PyProof.Rows.tail_any ⟨_,ht,rfl⟩ PyProof.Rows.slot_tuple_getitem.lookup (P.getItem_tuple ht hb.1 hb.2 (by simpa using e1) (by simpa using e2) (post_same I e3 hq)) (hs _ _)
  | lst a =>
   obtain ⟨o,ds,es,hl,d,e,hq⟩:=h
   obtain ⟨vs,hls,_,ra⟩:=I.sto _ _ es
   obtain ⟨j,v,e1,e2,e3,e4,e5,e6⟩:=nth_get ra e
   have hlen:=ra.length
   unfold lim at hl
   refine PyProof.Rows.tail_any hls.typeIs PySem.list_getitem_lookup ?_ (hs _ _)
   by_cases z:0≤i
   ·have:=e4 z
    subst this
    exact wpAny_getItem_list hls z (by exact o18 hl hlen e6) (by simpa using e2) (post_same I e3 hq)
   ·obtain ⟨z1,z2⟩:=e5 z
    subst z1
    exact wpAny_getItem_list_neg hls (by exact o16 z) (by simpa using z2) (by exact o19 hl hlen z2) (by simpa using e2) (post_same I e3 hq)
  | _=>exact (show False from h).elim
 | _=>exact (show False from h).elim
end
end Mine
namespace Mine
open PySem PySem.SeqAt
section
variable {prog:Program} {w:World} {A:Around} {E:Value→Shared→Prop} {s:Shared}
theorem setItem_plain {l:Addr} {items:Array Value} {k:Int} {t:Tok} {v:Value} {Q:Unit→Shared→Prop} (hl:s.heap.PlainList l items) (h0:0≤k) (hfit:k<2 ^ 63) (hn:k<items.size)
  (hQ:∀ h',h'.PlainList l (items.setIfInBounds k.toNat v)→Heap.SameBut l s.heap h'→Q () { s with heap:=h' }):wpAny (model prog w) A (setItem (.ref l) (.int k t) v) Q E s:=by
 obtain ⟨ne,ho⟩:=id hl
 have hi:=hl.isList
 unfold setItem
 try with_reducible refine wpAny_holding ?_
 first | refine wpAny_bind (wpAny_pure ?_) | skip
 refine wpAny_bind (wpAny_sequenceKey hi.typeIs (by decide) ?_)
 refine wpAny_bind (wpAny_callSpecial?_slot (name:=Str.ofString "__setitem__") hi.typeIs slot_list_setitem (wpAny_call_entry slot_list_setitem hi.typeIs entry_list_setitem ?_ (args_list_setitem _ _ _)))
 show wpAny _ _ (Builtin.List.listSubscript? (.int k t) >>= _) _ _ s
 refine wpAny_bind (wpAny_listSubscript_int (fitsIndex_of h0 hfit) ?_)
 clear hfit
 obtain ⟨j,rfl⟩:=Int.eq_ofNat_of_zero_le h0
 have hj:j<items.size:=by exact lin [_,_] [] [.it (.c (.x 0)) (.c (.x 1))] [] (.nt (.x 0) (.x 1)) (.l 1 [1]) rfl hn
 have hx':items[j]?=some items[j]:=Array.getElem?_eq_getElem hj
 show wpAny _ _ ((seqItemAt l j >>= fun r=>pure (r.map (j,·))) >>= _) _ _ s
 refine wpAny_bind (wpAny_bind (wpAny_seqItemAt ho rfl (wpAny_pure ?_)))
 rw [hx']
 show wpAny _ _ (setSeqItemAt l j v >>= _) _ _ s
 have hm:Obj.mapSeq (·.setIfInBounds j v) { cls:=.type "list",data:=.seq items ne }={ cls:=.type "list",data:=.seq (items.setIfInBounds j v) ne }:=by simp [Obj.mapSeq]
 have hfin:(s.heap.update l (Obj.mapSeq (·.setIfInBounds j v))).PlainList l (items.setIfInBounds j v):=⟨ne,by rw [Heap.get?_update_self _ ho (by rw [hm]; rfl),hm]⟩
 refine wpAny_bind (wpAny_setSeqItemAt ho rfl ?_)
 first
  | exact wpAny_bind (wpAny_pure (wpAny_pure ⟨.none,rfl,wpAny_pure (hQ _ hfin (Heap.SameBut.update ..))⟩))
  | exact wpAny_pure ⟨.none,rfl,wpAny_pure (hQ _ hfin (Heap.SameBut.update ..))⟩
end
section
variable {c:Cx} {F:Fm} {σ:St} {s:Shared} {n:Nat} {q:Bool} {E:Value→Shared→Prop} {Q:D→St→Prop}
theorem Inv.relist (I:Inv c F σ s) (FO:FmOK c n q F) {h':Heap} {t:Nat} {a:Addr} {ds ds':List D} {vs':List Value} (e:σ.sto a=some (.list true ds)) (k:Heap.SameBut a s.heap h') (hl:h'.PlainList a vs'.toArray) (r:Reps s.heap vs' ds') :
  Inv c F (σ.put a (.list true ds')) { s with heap:=h',toks:=t }∧Grow s.heap h':=by
 obtain ⟨vs,hls,hp,rs⟩:=I.sto a _ e
 obtain ⟨hp1,hp2⟩:=hp rfl
 obtain ⟨m,ho⟩:=id hp1
 have kk:∀ b o,b≠a→s.heap.get? b=some o→h'.get? b=some o:=fun b o nb e=>k.extBut b o nb e
 have nB:c.B.get? a=none:=by
  cases e':c.B.get? a with
  | none=>rfl
  | some o'=>have:=FO.bh _ _ e'; rw [hp2] at this; cases this
 have grow:Grow s.heap h':=fun b o' eb st=>kk b o' (fun z=>by
  rw [z,ho] at eb; cases eb
  rcases st with ⟨xs,m,st,_⟩ | ⟨vs,st⟩
  ·simp at st
  ·cases st) eb
 have nsk:∀ {L m},s.heap.Ns L m→h'.Ns L m:=fun {L m} hn=>by
  obtain ⟨o,es,ep,ho',hd,r⟩:=id hn
  exact hn.at' fun o' e'=>kk L o' (fun z=>by rw [z,ho] at ho'; cases ho'; cases hd) e'
 have clk:∀ {b v},s.heap.IsCell b v→h'.IsCell b v:=fun {b v} ⟨o,ho',hd⟩=>⟨o,kk b o (fun z=>by rw [z,ho] at ho'; cases ho'; cases hd) ho',hd⟩
 refine ⟨⟨I.same.trans ⟨_,_,rfl⟩,fun b o' e=>kk b o' (fun z=>by rw [z,nB] at e; cases e) (I.base b o' e),I.kept.but hp2 kk,fun env he=>?_,fun j d' e=>?_,fun j l e=>?_,fun b k' e'=>?_,dap_list I.dap⟩,grow⟩
 ·obtain ⟨h1,L,m,h2,h3,h4⟩:=I.frames env he
  exact ⟨h1,L,m,h2,h3,nsk h4⟩
 ·obtain ⟨l,v,e1,e2,e3⟩:=I.vars j d' e
  refine ⟨l,v,e1,?_,Rep.grow grow e3⟩
  cases l with
  | ns L x=>obtain ⟨m,hn,hv⟩:=e2; exact ⟨m,nsk hn,hv⟩
  | cell b=>exact clk e2
 ·have p:=I.places j l e
  cases l with
  | ns L x=>obtain ⟨m,hn⟩:=p; exact ⟨m,nsk hn⟩
  | cell b=>obtain ⟨v,hn⟩:=p; exact ⟨v,clk hn⟩
 ·by_cases z:b=a
  ·subst z
   have e'':some (Cell.list true ds')=some k':=by simpa [St.put,Sto.put] using e'
   cases e''
   exact ⟨vs',hl.isList,fun _=>⟨hl,hp2⟩,Reps.grow grow r⟩
  ·have p:=I.sto b k' (by simpa [St.put,Sto.put,z] using e')
   cases k' with
   | dict ps =>
    obtain ⟨h0,kvs,h1,h2,h3⟩:=p
    exact ⟨h0,kvs,dict_at h1 fun o' _ _ e' _=>kk b o' z e',h2,Reps.grow grow h3⟩
   | list own xs =>
    obtain ⟨ws,h1,h2,h3⟩:=p
    exact ⟨ws,h1.at fun o e=>kk b o z e,fun w=>⟨(h2 w).1.at fun o e=>kk b o z e,(h2 w).2⟩,Reps.grow grow h3⟩
theorem dict_any {h:Heap} {a:Addr} {kvs:List (Int×Value)} {p p':Program} {w w':World} (x:h.DictOf (intKind p w) a kvs):h.DictOf (intKind p' w') a kvs:=by
 obtain ⟨o,es,ep,h1,h2,h3,h4,h5,h6⟩:=x
 refine ⟨o,es,ep,h1,h2,h3,h4,?_,h6⟩
 clear h1 h2 h3 h4 h6
 generalize es.toList=l at h5
 induction h5 with
 | nil=>exact .nil
 | cons a b _ ih=>exact .cons a b ih
theorem Inv.redict (I:Inv c F σ s) (FO:FmOK c n q F) {h':Heap} {t:Nat} {a:Addr} {ps:List (Int×D)} {d:D} {u:Value} {i:Int} (e:σ.sto a=some (.dict ps)) (k:Heap.SameBut a s.heap h') (hl:∀ prog w,h'.DictOf (intKind prog w) a [(i,u)]) (r:Rep s.heap u d) :
  Inv c F (σ.put a (.dict [(i,d)])) { s with heap:=h',toks:=t }∧Grow s.heap h':=by
 obtain ⟨hp2,kvs,hm,_,_⟩:=I.sto a _ e
 obtain ⟨nf,nl⟩:=I.dap a _ e
 obtain ⟨o,es,ep,ho,_,hd,_⟩:=hm c.prog c.w
 have kk:∀ b o,b≠a→s.heap.get? b=some o→h'.get? b=some o:=fun b o nb e=>k.extBut b o nb e
 have nB:c.B.get? a=none:=by
  cases e':c.B.get? a with
  | none=>rfl
  | some o'=>have:=FO.bh _ _ e'; rw [hp2] at this; cases this
 have grow:Grow s.heap h':=fun b o' eb st=>kk b o' (fun z=>by
  rw [z,ho] at eb; cases eb
  rcases st with ⟨xs,m,_,st⟩ | ⟨vs,st⟩ <;> (rw [hd] at st; cases st)) eb
 have hloc:∀ {j l},F.loc j=some l→∀ {v},l.holds s.heap v→l.holds h' v:=fun {j l} e {v} p=>by
  have na:=nl j l e
  cases l with
  | ns L x=>obtain ⟨m,hn,hv⟩:=p; exact ⟨m,hn.at' fun o' e'=>kk L o' (Ne.symm na) e',hv⟩
  | cell b=>obtain ⟨o,ho,hd⟩:=p; exact ⟨o,kk b o (Ne.symm na) ho,hd⟩
 refine ⟨⟨I.same.trans ⟨_,_,rfl⟩,fun b o' e=>kk b o' (fun z=>by rw [z,nB] at e; cases e) (I.base b o' e),I.kept.but hp2 kk,fun env he=>?_,fun j d' e=>?_,fun j l e=>?_,fun b k' e'=>?_,fun b qs e'=>?_⟩,grow⟩
 ·obtain ⟨h1,L,m,h2,h3,h4⟩:=I.frames env he
  exact ⟨h1,L,m,h2,h3,h4.at' fun o' e'=>kk L o' (fun z=>nf (z ▸ List.mem_filterMap.mpr ⟨env,he,h2⟩)) e'⟩
 ·obtain ⟨l,v,e1,e2,e3⟩:=I.vars j d' e
  exact ⟨l,v,e1,hloc e1 e2,Rep.grow grow e3⟩
 ·have na:=nl j l e
  have p:=I.places j l e
  cases l with
  | ns L x=>obtain ⟨m,hn⟩:=p; exact ⟨m,hn.at' fun o' e'=>kk L o' (Ne.symm na) e'⟩
  | cell b=>obtain ⟨v,o,ho,hd⟩:=p; exact ⟨v,o,kk b o (Ne.symm na) ho,hd⟩
 ·by_cases z:b=a
  ·subst z
   have e'':some (Cell.dict [(i,d)])=some k':=by simpa [St.put,Sto.put] using e'
   cases e''
   exact ⟨hp2,_,hl,rfl,.cons (r.grow grow) .nil⟩
  ·have p:=I.sto b k' (by simpa [St.put,Sto.put,z] using e')
   cases k' with
   | dict ps =>
    obtain ⟨h0,kvs,h1,h2,h3⟩:=p
    exact ⟨h0,kvs,dict_at h1 fun o' _ _ e' _=>kk b o' z e',h2,Reps.grow grow h3⟩
   | list own xs =>
    obtain ⟨ws,h1,h2,h3⟩:=p
    exact ⟨ws,h1.at fun o e=>kk b o z e,fun w=>⟨(h2 w).1.at fun o e=>kk b o z e,(h2 w).2⟩,Reps.grow grow h3⟩
 ·by_cases z:b=a
  ·rw [z]; exact ⟨nf,nl⟩
  ·exact I.dap b qs (by simpa [St.put,Sto.put,z] using e')
theorem s_set (I:Inv c F σ s) (FO:FmOK c n q F) {x i d:D} {v w u:Value} {Q:St→Prop} (rv:Rep s.heap v x) (rw':Rep s.heap w i) (ru:Rep s.heap u d) (h:opSet x i d Q σ) :
  wpAny (model c.prog c.w) F.A (setItem v w u) (fun _ s'=>∃ σ',Grow s.heap s'.heap∧Inv c F σ' s'∧Q σ') E s:=by
 cases x with
 | lst a =>
  cases i with
  | int k =>
  cases rv; cases rw'
  rcases h with h | ⟨e,hq⟩
  case inr =>
   obtain ⟨_,kvs,hm,h2,h3⟩:=I.sto a _ e
   have h2:kvs.map (·.1)=[]:=h2
   cases List.map_eq_nil_iff.mp h2
   refine wpAny_setItem_pairs (knd:=intKind c.prog c.w) (k:=k) (by simp [intKind,Value.isInt]) (hm _ _) (fun h' hd hs'=>?_) (Nat.zero_le _)
   obtain ⟨I',g⟩:=I.redict (t:=s.toks+1) (i:=k) FO e hs' (fun prog w=>dict_any (p:=c.prog) (w:=c.w) hd) ru
   exact ⟨_,g,I',hq⟩
  obtain ⟨ds,e,hl,h0,hk,hq⟩:=h
  obtain ⟨vs,hls,hp,rs⟩:=I.sto a _ e
  have hlen:=rs.length
  unfold lim at hl
  refine setItem_plain (hp rfl).1 h0 (by exact o21 hl hk hlen) (by simp; exact lin [_,_] [_] [.it (.x 0) (.c (.x 0)),.ne (.x 1) (.x 0)] [] (.it (.x 0) (.c (.x 1))) (.l 1 [1,-1]) rfl hk hlen) fun h' hl' hs'=>?_
  obtain ⟨I',g⟩:=I.relist (t:=s.toks) FO e hs' (vs':=vs.set k.toNat u) (by simpa using hl') (Reps.set ru rs)
  exact ⟨_,g,I',hq⟩
  | _=>exact (show False from h).elim
 | _=>exact (show False from h).elim
theorem s_append (I:Inv c F σ s) (FO:FmOK c n q F) {a:Addr} {d:D} {u:Value} (ru:Rep s.heap u d) (h:opAppend (.lst a) d Q σ) :
  wpAny (model c.prog c.w) F.A (call (.builtin "list.append") [.ref a,u]) (Post c F s.heap Q) E s:=by
 obtain ⟨ds,e,hl,hq⟩:=h
 obtain ⟨vs,hls,hp,rs⟩:=I.sto a _ e
 have hlen:=rs.length
 unfold lim at hl
 refine wpAny_list_append_plain (hp rfl).1 (fun h' hl' hs'=>?_) (by rw [List.size_toArray,sizeLine_val]; exact o23 hl hlen)
 obtain ⟨I',g⟩:=I.relist (t:=s.toks) FO e hs' (vs':=vs ++ [u]) (by simpa using hl') (Reps.append rs (.cons ru .nil))
 exact ⟨.none,_,g,I',.none,hq⟩
theorem s_truth {d:D} {v:Value} {Q:Bool→St→Prop} (I:Inv c F σ s) (rv:Rep s.heap v d) (h:wTruth d Q σ) :
  wpAny (model c.prog c.w) F.A (truthy v) (fun b s'=>∃ σ',Grow s.heap s'.heap∧Inv c F σ' s'∧Q b σ') E s:=by
 obtain ⟨b,e,hq⟩:=h
 cases rv <;> simp [truth] at e
 ·subst e; exact wpAny_pure ⟨σ,Grow.refl _,I,hq⟩
 ·subst e; exact wpAny_truthy_bool ⟨σ,Grow.refl _,I,hq⟩
 ·subst e; exact P.truthy_int ⟨σ,Grow.refl _,I,hq⟩
theorem cut_some (n d:Nat) (i:Int):(if i<0 then max (i+(n:Int)) 0 else min i (n:Int))=((cutAt n d (some i):Nat):Int):=by
 show _=(((if 0≤i then min i.toNat n else ((n:Int)+i).toNat):Nat):Int)
 by_cases z:0≤i
 ·rw [if_neg (Int.not_lt.mpr z),if_pos z]; exact o24 z
 ·rw [if_pos (Int.not_le.mp z),if_neg z]; exact o25
theorem cut_some' (n d:Nat) (i:Int):max 0 (min (if i<0 then i+(n:Int) else i) (n:Int))=((cutAt n d (some i):Nat):Int):=by
 rw [← cut_some n d i]
 by_cases z:i<0
 ·rw [if_pos z,if_pos z]; exact o26 z
 ·rw [if_neg z,if_neg z]; exact o27 z
theorem slicePick_cut (vs:List Value) (lo hi:Option Int):slicePick vs.toArray lo hi none=(cutL vs lo hi).toArray:=by
 have hb:sliceBounds lo hi none vs.length=(((cutAt vs.length 0 lo:Nat):Int),((cutAt vs.length vs.length hi:Nat):Int),1):=by
  simp only [sliceBounds,Option.getD_none,show (1:Int) > 0 by decide,if_true]
  congr 1
  ·cases lo with
   | none=>rfl
   | some i=>exact cut_some' _ 0 i
  ·congr 1
   cases hi with
   | none=>rfl
   | some i=>exact cut_some' _ _ i
 unfold slicePick
 rw [List.size_toArray,hb]
 simp only [sliceRange_one,pick_run]
 congr 1
 unfold cutL
 rw [List.drop_take]
end
end Mine
namespace Mine
open PySem PySem.SeqAt
noncomputable def Blt.name:Blt→String
 | .len=>"len" | .abs=>"abs" | .max=>"max" | .min=>"min" | .int=>"int" | .list=>"list" | .tuple=>"tuple" | .sum=>"sum"
noncomputable def Blt.val:Blt→Value
 | .len=>.builtin "len" | .abs=>.builtin "abs" | .max=>.builtin "max" | .min=>.builtin "min" | .int=>.type "int" | .list=>.type "list" | .tuple=>.type "tuple" | .sum=>.builtin "sum"
theorem Blt.boot (f:Blt):bootBuiltins (Str.ofString f.name)=some f.val:=by
 cases f
 ·exact PyProof.Rows.Boot.«len»
 ·exact PyProof.Rows.Boot.«abs»
 ·exact PyProof.Rows.Boot.«max»
 ·exact PyProof.Rows.Boot.«min»
 ·exact PyProof.Rows.Boot.«int»
 ·exact PyProof.Rows.Boot.«list»
 ·exact PyProof.Rows.Boot.«tuple»
 ·exact PyProof.Rows.Boot.«sum»
section
variable {c:Cx} {F:Fm} {σ:St} {s:Shared} {n:Nat} {E:Value→Shared→Prop} {Q:D→St→Prop}
theorem inv_one1 {h:Heap} {vs:List Value} {ds:List D} {K:D→Prop} (rs:Reps h vs ds) (k:one1 ds K):∃ v d,vs=[v]∧Rep h v d∧K d:=by
 cases rs with
 | nil=>exact (show False from k).elim
 | cons r rs =>
  cases rs with
  | nil=>exact ⟨_,_,rfl,r,k⟩
  | cons _ _=>exact (show False from k).elim
theorem inv_two2 {h:Heap} {vs:List Value} {ds:List D} {K:D→D→Prop} (rs:Reps h vs ds) (k:two2 ds K):∃ v w x y,vs=[v,w]∧Rep h v x∧Rep h w y∧K x y:=by
 cases rs with
 | nil=>exact (show False from k).elim
 | cons r rs =>
  obtain ⟨w,y,rfl,r',k⟩:=inv_one1 rs k
  exact ⟨_,_,_,_,rfl,r,r',k⟩
theorem s_len (I:Inv c F σ s) {d:D} {v:Value} (r:Rep s.heap v d) (h:bLen d Q σ):wpAny (model c.prog c.w) F.A (call Blt.len.val [v]) (Post c F s.heap Q) E s:=by
 cases r with
 | tup ht ra =>
  obtain ⟨hl,hq⟩:=h
  unfold lim at hl
  have hlen:=ra.length
  refine P.len_tuple ht (by simp only [List.size_toArray]; exact o28 hl hlen) ?_
  simp only [List.size_toArray,hlen]
  exact post_tok I (.int _ _) hq
 | lst a =>
  obtain ⟨o,xs,e,hl,hq⟩:=h
  obtain ⟨vs,hls,_,ra⟩:=I.sto _ _ e
  unfold lim at hl
  have hlen:=ra.length
  refine Calls.call_len_list hls (by simp only [List.size_toArray]; exact o29 hl hlen) ?_
  simp only [List.size_toArray,hlen]
  exact post_tok I (.int _ _) hq
 | _=>exact (show False from h).elim
theorem s_list (I:Inv c F σ s) {d:D} {v:Value} (r:Rep s.heap v d) (h:bList d Q σ):wpAny (model c.prog c.w) F.A (call Blt.list.val [v]) (Post c F s.heap Q) E s:=by
 cases r with
 | tup ht ra =>
  obtain ⟨hl,hq⟩:=h
  unfold lim at hl
  have hlen:=ra.length
  exact call_list_seq _ (.inr rfl) ht rfl rfl (fun h' c' k hD=>post_list (t:=s.toks) I (none_at_size _) k ⟨c',hD⟩ ra hq) (by rw [List.size_toArray,sizeLine_val]; exact o23 hl hlen)
 | _=>exact (show False from h).elim
theorem s_tuple (I:Inv c F σ s) {d:D} {v:Value} (r:Rep s.heap v d) (h:bTuple d Q σ):wpAny (model c.prog c.w) F.A (call Blt.tuple.val [v]) (Post c F s.heap Q) E s:=by
 cases r with
 | lst a =>
  obtain ⟨o,xs,e,hl,hq⟩:=h
  obtain ⟨vs,hls,_,ra⟩:=I.sto _ _ e
  unfold lim at hl
  have hlen:=ra.length
  refine call_tuple_list hls (fun h' k=>?_) (by rw [List.size_toArray,sizeLine_val]; exact o23 hl hlen)
  have k':∀ b o,s.heap.get? b=some o→(h'.push { cls:=.type "tuple",data:=.seq vs.toArray }).get? b=some o:=fun b o e=>Heap.get?_push_of_some _ (k b o e)
  exact post_keeps (t:=s.toks) I k' (.tup (IsT.new h' vs.toArray) (Reps.grow (grow_of_keeps k') ra)) hq
 | _=>exact (show False from h).elim
theorem s_blt (I:Inv c F σ s) (FO:FmOK c n true F) {f:Blt} {ds:List D} {vs:List Value} (rs:Reps s.heap vs ds) (h:opBlt f ds Q σ) :
  wpAny (model c.prog c.w) F.A (call f.val vs) (Post c F s.heap Q) E s:=by
 have hh:=FO.handled rfl
 cases f with
 | len=>obtain ⟨v,d,rfl,r,h⟩:=inv_one1 rs h; exact s_len I r h
 | list=>obtain ⟨v,d,rfl,r,h⟩:=inv_one1 rs h; exact s_list I r h
 | tuple=>obtain ⟨v,d,rfl,r,h⟩:=inv_one1 rs h; exact s_tuple I r h
 | sum=>exact (show False from h).elim
 | abs =>
  obtain ⟨v,d,rfl,r,h⟩:=inv_one1 rs h
  cases r with
  | int i t =>
   refine PyProof.Rows.call_abs_int fun u tk=>?_
   have e:(if i<0 then -i else i)=(i.natAbs:Int):=by
    by_cases z:i<0
    ·rw [if_pos z]; exact (Int.ofNat_natAbs_of_nonpos (Int.le_of_lt z)).symm
    ·rw [if_neg z]; exact (Int.natAbs_of_nonneg (Int.not_lt.mp z)).symm
   rw [e]
   exact post_tok I (.int _ _) h
  | _=>exact (show False from h).elim
 | int =>
  obtain ⟨v,d,rfl,r,h⟩:=inv_one1 rs h
  cases r with
  | bool b=>exact call_int_bool (post_tok I (.int _ _) h)
  | _=>exact (show False from h).elim
 | max =>
  obtain ⟨v,w,x,y,rfl,r,r',h⟩:=inv_two2 rs h
  obtain ⟨a,t,b,u,rfl,rfl,h⟩:=inv_intII r r' h
  refine max_two_ints hh fun h' tk k=>?_
  have e:max a b=if b > a then b else a:=by
   by_cases z:b > a
   ·rw [if_pos z]; exact Int.max_eq_right (Int.le_of_lt z)
   ·rw [if_neg z]; exact Int.max_eq_left (Int.not_lt.mp z)
  rw [e] at h
  split
  ·rename_i z; rw [if_pos z] at h; exact post_keeps I k (.int _ _) h
  ·rename_i z; rw [if_neg z] at h; exact post_keeps I k (.int _ _) h
 | min=>exact (show False from h).elim
end
end Mine
namespace Mine
open PySem PySem.SeqAt
section
variable {prog:Program} {w:World} {A:Around} {E:Value→Shared→Prop} {s:Shared}
theorem isa_none_int {Q:Value→Shared→Prop} (h:Q (.bool false) { s with toks:=s.toks+1 }):wpAny (model prog w) A (call (.builtin "isinstance") [.none,.type "int"]) Q E s :=
 call_isinstance (isinstance_false_none (by decide +kernel) (by kernel_rfl) (by rw [isSubtype_type]; kernel_rfl)) h
theorem isa_bool_int {b:Bool} {Q:Value→Shared→Prop} (h:Q (.bool true) s):wpAny (model prog w) A (call (.builtin "isinstance") [(.bool b),.type "int"]) Q E s :=
 call_isinstance (isinstance_true (Tx:="bool") (by kernel_rfl) (by rw [isSubtype_type]; kernel_rfl)) ⟨(typeIs_bool s b),h⟩
theorem isa_int_int {i:Int} {t:Tok} {Q:Value→Shared→Prop} (h:Q (.bool true) s):wpAny (model prog w) A (call (.builtin "isinstance") [(.int i t),.type "int"]) Q E s :=
 call_isinstance (isinstance_true (Tx:="int") (by kernel_rfl) (by rw [isSubtype_type]; kernel_rfl)) ⟨(typeIs_int s i t),h⟩
theorem isa_str_int {x:Str} {t:Tok} {Q:Value→Shared→Prop} (h:Q (.bool false) { s with toks:=s.toks+1 }):wpAny (model prog w) A (call (.builtin "isinstance") [(.str x t),.type "int"]) Q E s :=
 call_isinstance (isinstance_false_str (by decide +kernel) (by kernel_rfl) (by rw [isSubtype_type]; kernel_rfl)) h
theorem isa_tup_int {a:Addr} {o:Obj} (ho:s.heap.get? a=some o) (hc:o.cls=.type "tuple") {Q:Value→Shared→Prop} (h:Q (.bool false) { s with toks:=s.toks+1 }):wpAny (model prog w) A (call (.builtin "isinstance") [(.ref a),.type "int"]) Q E s :=
 call_isinstance (isinstance_false_tuple (by decide +kernel) (by kernel_rfl) (by rw [isSubtype_type]; kernel_rfl)) ⟨⟨o,ho,hc⟩,h⟩
theorem isa_lst_int {a:Addr} {o:Obj} (ho:s.heap.get? a=some o) (hc:o.cls=.type "list") {Q:Value→Shared→Prop} (h:Q (.bool false) { s with toks:=s.toks+1 }):wpAny (model prog w) A (call (.builtin "isinstance") [(.ref a),.type "int"]) Q E s :=
 call_isinstance (isinstance_false_list (by decide +kernel) (by kernel_rfl) (by rw [isSubtype_type]; kernel_rfl)) ⟨⟨o,ho,hc⟩,h⟩
theorem isa_none_bool {Q:Value→Shared→Prop} (h:Q (.bool false) { s with toks:=s.toks+1 }):wpAny (model prog w) A (call (.builtin "isinstance") [.none,.type "bool"]) Q E s :=
 call_isinstance (isinstance_false_none (by decide +kernel) (by kernel_rfl) (by rw [isSubtype_type]; kernel_rfl)) h
theorem isa_bool_bool {b:Bool} {Q:Value→Shared→Prop} (h:Q (.bool true) s):wpAny (model prog w) A (call (.builtin "isinstance") [(.bool b),.type "bool"]) Q E s :=
 call_isinstance (isinstance_true (Tx:="bool") (by kernel_rfl) (by rw [isSubtype_type]; kernel_rfl)) ⟨(typeIs_bool s b),h⟩
theorem isa_int_bool {i:Int} {t:Tok} {Q:Value→Shared→Prop} (h:Q (.bool false) { s with toks:=s.toks+1 }):wpAny (model prog w) A (call (.builtin "isinstance") [(.int i t),.type "bool"]) Q E s :=
 call_isinstance (isinstance_false_int (by decide +kernel) (by kernel_rfl) (by rw [isSubtype_type]; kernel_rfl)) h
theorem isa_str_bool {x:Str} {t:Tok} {Q:Value→Shared→Prop} (h:Q (.bool false) { s with toks:=s.toks+1 }):wpAny (model prog w) A (call (.builtin "isinstance") [(.str x t),.type "bool"]) Q E s :=
 call_isinstance (isinstance_false_str (by decide +kernel) (by kernel_rfl) (by rw [isSubtype_type]; kernel_rfl)) h
theorem isa_tup_bool {a:Addr} {o:Obj} (ho:s.heap.get? a=some o) (hc:o.cls=.type "tuple") {Q:Value→Shared→Prop} (h:Q (.bool false) { s with toks:=s.toks+1 }):wpAny (model prog w) A (call (.builtin "isinstance") [(.ref a),.type "bool"]) Q E s :=
 call_isinstance (isinstance_false_tuple (by decide +kernel) (by kernel_rfl) (by rw [isSubtype_type]; kernel_rfl)) ⟨⟨o,ho,hc⟩,h⟩
theorem isa_lst_bool {a:Addr} {o:Obj} (ho:s.heap.get? a=some o) (hc:o.cls=.type "list") {Q:Value→Shared→Prop} (h:Q (.bool false) { s with toks:=s.toks+1 }):wpAny (model prog w) A (call (.builtin "isinstance") [(.ref a),.type "bool"]) Q E s :=
 call_isinstance (isinstance_false_list (by decide +kernel) (by kernel_rfl) (by rw [isSubtype_type]; kernel_rfl)) ⟨⟨o,ho,hc⟩,h⟩
theorem isa_none_tuple {Q:Value→Shared→Prop} (h:Q (.bool false) { s with toks:=s.toks+1 }):wpAny (model prog w) A (call (.builtin "isinstance") [.none,.type "tuple"]) Q E s :=
 call_isinstance (isinstance_false_none (by decide +kernel) (by kernel_rfl) (by rw [isSubtype_type]; kernel_rfl)) h
theorem isa_bool_tuple {b:Bool} {Q:Value→Shared→Prop} (h:Q (.bool false) { s with toks:=s.toks+1 }):wpAny (model prog w) A (call (.builtin "isinstance") [(.bool b),.type "tuple"]) Q E s :=
 call_isinstance (isinstance_false_bool (by decide +kernel) (by kernel_rfl) (by rw [isSubtype_type]; kernel_rfl)) h
theorem isa_int_tuple {i:Int} {t:Tok} {Q:Value→Shared→Prop} (h:Q (.bool false) { s with toks:=s.toks+1 }):wpAny (model prog w) A (call (.builtin "isinstance") [(.int i t),.type "tuple"]) Q E s :=
 call_isinstance (isinstance_false_int (by decide +kernel) (by kernel_rfl) (by rw [isSubtype_type]; kernel_rfl)) h
theorem isa_str_tuple {x:Str} {t:Tok} {Q:Value→Shared→Prop} (h:Q (.bool false) { s with toks:=s.toks+1 }):wpAny (model prog w) A (call (.builtin "isinstance") [(.str x t),.type "tuple"]) Q E s :=
 call_isinstance (isinstance_false_str (by decide +kernel) (by kernel_rfl) (by rw [isSubtype_type]; kernel_rfl)) h
theorem isa_tup_tuple {a:Addr} {o:Obj} (ho:s.heap.get? a=some o) (hc:o.cls=.type "tuple") {Q:Value→Shared→Prop} (h:Q (.bool true) s):wpAny (model prog w) A (call (.builtin "isinstance") [(.ref a),.type "tuple"]) Q E s :=
 call_isinstance (isinstance_true (Tx:="tuple") (by kernel_rfl) (by rw [isSubtype_type]; kernel_rfl)) ⟨⟨o,ho,hc⟩,h⟩
theorem isa_lst_tuple {a:Addr} {o:Obj} (ho:s.heap.get? a=some o) (hc:o.cls=.type "list") {Q:Value→Shared→Prop} (h:Q (.bool false) { s with toks:=s.toks+1 }):wpAny (model prog w) A (call (.builtin "isinstance") [(.ref a),.type "tuple"]) Q E s :=
 call_isinstance (isinstance_false_list (by decide +kernel) (by kernel_rfl) (by rw [isSubtype_type]; kernel_rfl)) ⟨⟨o,ho,hc⟩,h⟩
end
noncomputable def Ty.name:Ty→Str
 | .int=>Str.ofString "int" | .bool=>Str.ofString "bool" | .tuple=>Str.ofString "tuple" | .list=>Str.ofString "list" | .valueError=>Str.ofString "ValueError" | .own k=>k
noncomputable def ExcOK (c:Cx):Prop :=
 (∀ {e k:Str} {Ce Ck a:Addr} {o:Obj} {A:Around} {E:Value→Shared→Prop} {s:Shared} {Q:Value→Shared→Prop},c.ie=true→c.cls e=some Ce→c.cls k=some Ck→c.B.StaysIn s.heap→s.heap.get? a=some o→o.cls=.ref Ce→
  (∀ t,Q (.bool (c.sub e k)) { s with toks:=t })→wpAny (model c.prog c.w) A (call (.builtin "isinstance") [.ref a,.ref Ck]) Q E s)∧
 (∀ {e:Str} {Ce a:Addr} {o:Obj} {A:Around} {E:Value→Shared→Prop} {s:Shared} {Q:Value→Shared→Prop},c.ie=true→c.cls e=some Ce→c.B.StaysIn s.heap→s.heap.get? a=some o→o.cls=.ref Ce→
  (∀ t,Q (.bool true) { s with toks:=t })→wpAny (model c.prog c.w) A (call (.builtin "isinstance") [.ref a,.type "ValueError"]) Q E s)
section
variable {c:Cx} (h_:ExcOK c)
include h_
theorem ExcOK.isaOwn:∀ {e k:Str} {Ce Ck a:Addr} {o:Obj} {A:Around} {E:Value→Shared→Prop} {s:Shared} {Q:Value→Shared→Prop},c.ie=true→c.cls e=some Ce→c.cls k=some Ck→c.B.StaysIn s.heap→s.heap.get? a=some o→o.cls=.ref Ce→
  (∀ t,Q (.bool (c.sub e k)) { s with toks:=t })→wpAny (model c.prog c.w) A (call (.builtin "isinstance") [.ref a,.ref Ck]) Q E s:=h_.1
theorem ExcOK.isaVE:∀ {e:Str} {Ce a:Addr} {o:Obj} {A:Around} {E:Value→Shared→Prop} {s:Shared} {Q:Value→Shared→Prop},c.ie=true→c.cls e=some Ce→c.B.StaysIn s.heap→s.heap.get? a=some o→o.cls=.ref Ce→
  (∀ t,Q (.bool true) { s with toks:=t })→wpAny (model c.prog c.w) A (call (.builtin "isinstance") [.ref a,.type "ValueError"]) Q E s:=h_.2
end
noncomputable def Ty.val (c:Cx):Ty→Option Value
 | .int=>some (.type "int") | .bool=>some (.type "bool") | .tuple=>some (.type "tuple") | .list=>some (.type "list") | .valueError=>some (.type "ValueError") | .own k=>(c.cls k).map Value.ref
section
variable {c:Cx} {F:Fm} {σ:St} {s:Shared} {n:Nat} {q:Bool} {E:Value→Shared→Prop} {Q:D→St→Prop}
theorem s_isa (I:Inv c F σ s) (EO:ExcOK c) {d:D} {t:Ty} {v w:Value} (rv:Rep s.heap v d) (ht:t.val c=some w) (h:opIsa c d t Q σ) :
  wpAny (model c.prog c.w) F.A (call (.builtin "isinstance") [v,w]) (Post c F s.heap Q) E s:=by
 have lst:∀ {a o ds},σ.sto a=some (.list o ds)→∃ o,s.heap.get? a=some o∧o.cls=.type "list":=fun {a _ _} e=>by
  obtain ⟨vs,⟨o,h1,h2,_⟩,_⟩:=I.sto a _ e; exact ⟨o,h1,h2⟩
 cases t with
 | own k =>
  cases rv with
  | exc h1 h2 h3 =>
   obtain ⟨ei,e1,⟨Ck,e2⟩,hq⟩:=h
   have ht:(c.cls k).map Value.ref=some w:=ht
   rw [e2] at ht
   cases ht
   exact EO.isaOwn ei e1 e2 I.base h1 h2 fun t=>post_tok I (.bool _) hq
  | _=>exact h.1.elim
 | valueError =>
  cases ht
  cases rv with
  | exc h1 h2 h3 =>
   obtain ⟨ei,e1,hq⟩:=h
   exact EO.isaVE ei e1 I.base h1 h2 fun t=>post_tok I (.bool _) hq
  | _=>exact h.1.elim
 | int =>
  cases ht
  cases rv with
  | none=>exact isa_none_int (post_tok I (.bool _) h.2)
  | bool b=>exact isa_bool_int (post_same I (.bool _) h.2)
  | int i t=>exact isa_int_int (post_same I (.bool _) h.2)
  | str x t=>exact isa_str_int (post_tok I (.bool _) h.2)
  | tup ht ra=>exact isa_tup_int ht rfl (post_tok I (.bool _) h.2)
  | lst a=>obtain ⟨_,_,_,e,hq⟩:=h; obtain ⟨o,h1,h2⟩:=lst e; exact isa_lst_int h1 h2 (post_tok I (.bool _) hq)
  | exc=>exact (show False from h).elim
 | bool =>
  cases ht
  cases rv with
  | none=>exact isa_none_bool (post_tok I (.bool _) h.2)
  | bool b=>exact isa_bool_bool (post_same I (.bool _) h.2)
  | int i t=>exact isa_int_bool (post_tok I (.bool _) h.2)
  | str x t=>exact isa_str_bool (post_tok I (.bool _) h.2)
  | tup ht ra=>exact isa_tup_bool ht rfl (post_tok I (.bool _) h.2)
  | lst a=>obtain ⟨_,_,_,e,hq⟩:=h; obtain ⟨o,h1,h2⟩:=lst e; exact isa_lst_bool h1 h2 (post_tok I (.bool _) hq)
  | exc=>exact (show False from h).elim
 | tuple =>
  cases ht
  cases rv with
  | none=>exact isa_none_tuple (post_tok I (.bool _) h.2)
  | bool b=>exact isa_bool_tuple (post_tok I (.bool _) h.2)
  | int i t=>exact isa_int_tuple (post_tok I (.bool _) h.2)
  | str x t=>exact isa_str_tuple (post_tok I (.bool _) h.2)
  | tup ht ra=>exact isa_tup_tuple ht rfl (post_same I (.bool _) h.2)
  | lst a=>obtain ⟨_,_,_,e,hq⟩:=h; obtain ⟨o,h1,h2⟩:=lst e; exact isa_lst_tuple h1 h2 (post_tok I (.bool _) hq)
  | exc=>exact (show False from h).elim
 | list =>
  cases rv with
  | exc=>exact (show False from h).elim
  | _=>exact h.1.elim
end
end Mine
namespace Mine
open PySem PySem.SeqAt
noncomputable def notDebug (x:Str):Bool:=!(x==("__debug__":Str))
noncomputable def isGl (K:Str→Option NameKind) (x:Str):Bool:=(K x==some .globalImplicit)&&notDebug x&&!(x==("__name__":Str))
noncomputable def emptyS:Str:=Str.ofString ""
noncomputable def genKids:List Comprehension→List Expr
 | []=>[]
 | g :: _=>[g.target,g.iter]
noncomputable def kids (x:Expr):List Expr:=match x with
 | .BoolOp _ vs _=>vs
 | .BinOp l _ r _=>[l,r]
 | .UnaryOp _ y _=>[y]
 | .Compare l _ rs _=>l :: rs
 | .Call f as _ _=>f :: as
 | .Attribute v _ _=>[v]
 | .Subscript v s _=>[v,s]
 | .List xs _=>xs
 | .Tuple xs _ _=>xs
 | .Slice l u _ _=>[l.getD default,u.getD default]
 | .ListComp e gs _ _=>e :: genKids gs
 | _=>[]
noncomputable def kid (x:Expr) (i:Nat):Expr:=(kids x).getD i default
noncomputable def kOf (x:Expr):Nat:=match x with
 | .Constant _ k _=>k
 | .Tuple _ k _=>k
 | _=>0
noncomputable def scOf (x:Expr):Scope:=match x with
 | .ListComp _ _ sc _=>sc
 | _=>default
structure Vw where
 K:Str→Option NameKind
 ns:Nat→Option Str
 nL:Nat→Str
 us:Nat→Bool
noncomputable def relK (K:Str→Option NameKind) (names:List (Str×NameKind)) (x:Str):Option NameKind :=
 (names.map fun (n,k)=>if (k==.free&&K n==some .cell) then (n,NameKind.cell) else (n,k)).lookup x
noncomputable def Vw.comp (V:Vw) (xs:List (Nat×Str)) (sc:Scope):Vw where
 K:=relK V.K sc.names
 ns:=fun i=>if (xs.map (·.1)).contains i then some ((xs.lookup i).getD (V.nL i)) else match V.ns i with
  | some x=>if relK V.K sc.names x==some .cell then some x else none
  | none=>none
 nL:=fun i=>(xs.lookup i).getD (V.nL i)
 us:=fun i=>V.us i || (xs.map (·.1)).contains i
noncomputable def namesX:List Str→List Expr→List Expr
 | [],_=>[]
 | s :: ss,xs=>.Name s (xs.headD default).pos :: namesX ss xs.tail
noncomputable def tgt (one:Bool) (ss:List Str) (x:Expr):Expr:=match one with
 | true=>.Name (ss.headD emptyS) x.pos
 | false=>.Tuple (namesX ss (kids x)) (kOf x) x.pos
noncomputable def rangeS:Str:=Str.ofString "range"
noncomputable def zipS:Str:=Str.ofString "zip"
noncomputable def likeIt (k:ItK) (ys:List Expr) (x:Expr):Expr:=match k with
 | .plain=>ys.headD default
 | .range=>.Call (.Name rangeS (kid x 0).pos) ys [] x.pos
 | .zip=>.Call (.Name zipS (kid x 0).pos) ys [] x.pos
noncomputable def itArgs (k:ItK) (x:Expr):List Expr:=match k with
 | .plain=>[x]
 | _=>(kids x).tail
noncomputable def endAt (p:Pos) (l:Nat):Pos:=⟨p.line,p.col,l,p.endCol⟩
noncomputable def isaS:Str:=Str.ofString "isinstance"
noncomputable def appendS:Str:=Str.ofString "append"
noncomputable def getS:Str:=Str.ofString "get"
noncomputable def maxS:Str:=Str.ofString "max"
mutual
noncomputable def like:E→Vw→Expr→Expr
 | .cnone,V,x=>.Constant .none (kOf x) x.pos
 | .cbool b,V,x=>.Constant (.bool b) (kOf x) x.pos
 | .cint i,V,x=>.Constant (.int i) (kOf x) x.pos
 | .cstr s,V,x=>.Constant (.str s) (kOf x) x.pos
 | .var i,V,x=>.Name (V.nL i) x.pos
 | .glob g,V,x=>.Name g x.pos
 | .bin op a b,V,x=>.BinOp (like a V (kid x 0)) op (like b V (kid x 1)) x.pos
 | .neg a,V,x=>.UnaryOp .USub (like a V (kid x 0)) x.pos
 | .not a,V,x=>.UnaryOp .Not (like a V (kid x 0)) x.pos
 | .cmp op a b,V,x=>.Compare (like a V (kid x 0)) [op] [like b V (kid x 1)] x.pos
 | .bool op es,V,x=>.BoolOp op (likes es V (kids x)) x.pos
 | .call f es,V,x=>.Call (.Name f (kid x 0).pos) (likes es V (kids x).tail) [] x.pos
 | .blt f es,V,x=>.Call (.Name (Str.ofString f.name) (kid x 0).pos) (likes es V (kids x).tail) [] x.pos
 | .isa a t,V,x=>.Call (.Name isaS (kid x 0).pos) [like a V (kid x 1),.Name t.name (kid x 2).pos] [] x.pos
 | .idx a i,V,x=>.Subscript (like a V (kid x 0)) (like i V (kid x 1)) x.pos
 | .slice a lo hi,V,x=>.Subscript (like a V (kid x 0)) (.Slice (likeO lo V (kid (kid x 1) 0)) (likeO hi V (kid (kid x 1) 1)) none (kid x 1).pos) x.pos
 | .tup es,V,x=>.Tuple (likes es V (kids x)) (kOf x) x.pos
 | .lst es,V,x=>.List (likes es V (kids x)) x.pos
 | .comp elt xs k es,V,x=>.ListComp (like elt (V.comp xs (scOf x)) (kid x 0)) [⟨tgt (xs.length==1) ((xs.map (·.1)).map (V.comp xs (scOf x)).nL) (kid x 1),likeIt k (likes es V (itArgs k (kid x 2))) (kid x 2),[],0⟩] (scOf x) x.pos
 | .dict0,V,x=>.Dict [] [] x.pos
 | .getd o k d,V,x=>.Call (.Attribute (like o V (kid (kid x 0) 0)) getS (endAt (kid x 0).pos x.pos.line)) [like k V (kid x 1),like d V (kid x 2)] [] x.pos
 | .maxd o,V,x=>.Call (.Name maxS (kid x 0).pos) [like o V (kid x 1)] [] x.pos
 | .append o a,V,x=>.Call (.Attribute (like o V (kid (kid x 0) 0)) appendS (endAt (kid x 0).pos x.pos.line)) [like a V (kid x 1)] [] x.pos
noncomputable def likes:List E→Vw→List Expr→List Expr
 | [],V,xs=>[]
 | e :: es,V,xs=>like e V (xs.headD default) :: likes es V xs.tail
noncomputable def likeO:Option E→Vw→Expr→Option Expr
 | none,V,x=>none
 | some e,V,x=>some (like e V x)
end
noncomputable def okScope (V:Vw) (sc:Scope):Bool :=
 sc.kind==.function&&sc.names.all (fun p=>!(p.2==.cell)&&(!(p.2==.local) || sc.names.lookup p.1==some .local)&&(!(p.2==.free) || (V.K p.1==some .cell)))
noncomputable def okComp (V:Vw) (xs:List (Nat×Str)) (sc:Scope) (is:List Nat) (V':Vw):Bool :=
 okScope V sc&&is.all (fun i=>V'.K (V'.nL i)==some .local&&V.us i==false)&&is.all (fun i=>is.all fun j=>!(V'.nL i==V'.nL j) || i==j)&&!is.isEmpty
noncomputable def isVar:E→Bool
 | .var _=>true
 | _=>false
noncomputable def itGl (K:Str→Option NameKind) (k:ItK) (es:List E):Bool:=match k with
 | .plain=>es.length==1
 | .range=>isGl K rangeS
 | .zip=>isGl K zipS
mutual
noncomputable def ok:E→Vw→Expr→Bool
 | .cnone,V,x=>true
 | .cbool b,V,x=>true
 | .cint i,V,x=>true
 | .cstr s,V,x=>true
 | .var i,V,x=>V.ns i==some (V.nL i)&&notDebug (V.nL i)
 | .glob g,V,x=>isGl V.K g
 | .bin op a b,V,x=>ok a V (kid x 0)&&ok b V (kid x 1)
 | .neg a,V,x=>ok a V (kid x 0)
 | .not a,V,x=>ok a V (kid x 0)
 | .cmp op a b,V,x=>ok a V (kid x 0)&&ok b V (kid x 1)
 | .bool op es,V,x=>oks es V (kids x)
 | .call f es,V,x=>isGl V.K f&&oks es V (kids x).tail
 | .blt f es,V,x=>isGl V.K (Str.ofString f.name)&&oks es V (kids x).tail
 | .isa a t,V,x=>isGl V.K isaS&&ok a V (kid x 1)&&isGl V.K t.name
 | .idx a i,V,x=>ok a V (kid x 0)&&ok i V (kid x 1)
 | .slice a lo hi,V,x=>ok a V (kid x 0)&&okO lo V (kid (kid x 1) 0)&&okO hi V (kid (kid x 1) 1)
 | .tup es,V,x=>oks es V (kids x)
 | .lst es,V,x=>oks es V (kids x)
 | .comp elt xs k es,V,x=>ok elt (V.comp xs (scOf x)) (kid x 0)&&okComp V xs (scOf x) (xs.map (·.1)) (V.comp xs (scOf x))&&itGl V.K k es&&oks es V (itArgs k (kid x 2))
 | .dict0,V,x=>true
 | .getd o k d,V,x=>ok o V (kid (kid x 0) 0)&&ok k V (kid x 1)&&ok d V (kid x 2)&&isVar o
 | .maxd o,V,x=>isGl V.K maxS&&ok o V (kid x 1)
 | .append o a,V,x=>ok o V (kid (kid x 0) 0)&&ok a V (kid x 1)&&isVar o
noncomputable def oks:List E→Vw→List Expr→Bool
 | [],V,xs=>true
 | e :: es,V,xs=>ok e V (xs.headD default)&&oks es V xs.tail
noncomputable def okO:Option E→Vw→Expr→Bool
 | none,V,x=>true
 | some e,V,x=>ok e V x
end
noncomputable def Up (F:Fm) (hc:Heap) (ea C:Addr) (h:Heap):Prop :=
 (∃ B' t,(∀ b o,hc.get? b=some o→b∉F.fs1→B'.get? b=some o)∧Heap.FlyingW B' (F.fenv :: F.outer) ea (.ref C) t h)∨(∃ args,Heap.MadeExcOf hc h ea (.ref C) args)∨
 ∃ B' t L,(∀ b o,hc.get? b=some o→b∉F.fs1→B'.get? b=some o)∧F.fenv.frame=some L∧Heap.HeldW B' (F.fenv :: F.outer) ea (.ref C) t L h
noncomputable def Exc (c:Cx) (F:Fm) (h₀:Heap) (X:Str→St→Prop):Value→Shared→Prop:=fun e s'=>∃ ea nm C σ' sc,e=.ref ea∧c.cls nm=some C∧Grow h₀ sc.heap∧Inv c F σ' sc∧SameSh sc s'∧c.B.StaysIn s'.heap∧Kept F.fs1 sc.heap s'.heap∧Up F sc.heap ea C s'.heap∧X nm σ'
theorem Exc.grow {c:Cx} {F:Fm} {h₀ h₁:Heap} {X:Str→St→Prop} {e:Value} {s':Shared} (g:Grow h₀ h₁) (x:Exc c F h₁ X e s'):Exc c F h₀ X e s':=by
 obtain ⟨ea,nm,C,σ',sc,h1,h2,h3,r⟩:=x
 exact ⟨ea,nm,C,σ',sc,h1,h2,g.trans h3,r⟩
theorem Post.grow {c:Cx} {F:Fm} {h₀ h₁:Heap} {Q:D→St→Prop} {v:Value} {s':Shared} (g:Grow h₀ h₁) (x:Post c F h₁ Q v s'):Post c F h₀ Q v s':=by
 obtain ⟨d,σ',h1,r⟩:=x
 exact ⟨d,σ',g.trans h1,r⟩
theorem exc_noX {c:Cx} {F:Fm} {h₀:Heap} {e:Value} {s':Shared} (x:Exc c F h₀ noX e s'):False:=by
 obtain ⟨_,_,_,_,_,_,_,_,_,_,_,_,_,w⟩:=x
 exact w
noncomputable def Posts (c:Cx) (F:Fm) (h₀:Heap) (Q:List D→St→Prop):List Value→Shared→Prop:=fun vs s'=>∃ ds σ',Grow h₀ s'.heap∧Inv c F σ' s'∧Reps s'.heap vs ds∧Q ds σ'
theorem notStar {e:E} {V:Vw} {x:Expr} {rest:List Expr} {env:Env}:starEach (like e V x :: rest) env=(false,eval (like e V x) env) :: starEach rest env:=by
 cases e <;> rfl
theorem like_noSet (e:E) (V:Vw) (x:Expr) (op:CmpOp):behindInMarks op (like e V x)=false:=by
 cases e <;> rfl
theorem like_notSlice (e:E) (V:Vw) (x:Expr) (o i:Value):subscripted (like e V x) false o i=operate [o,i] (getItem o i):=by
 cases e <;> rfl
theorem like_folded (e:E) (V:Vw) (x:Expr) (env:Env) (v:Value):foldedSetIterable (like e V x) env v=pure v:=by
 cases e <;> rfl
theorem var_base {o:E} {nm:Str} (h:isVar o=true) (V:Vw) (x:Expr) (env:Env):attributeBase (like o V x) nm env (eval (like o V x) env)=eval (like o V x) env:=by
 cases o <;> first | exact (Bool.false_ne_true h).elim | rfl
noncomputable def Run (c:Cx) (F:Fm) (env:Env) (V:Vw) (n:Nat) (q:Bool):Prop :=
 (CxOK c)∧
 (ExcOK c)∧
 (FmOK c n q F)∧
 (EnvOK F env V.K V.ns)∧
 (∀ i,V.us i=false→F.loc i=none)
section
variable {c:Cx} {F:Fm} {env:Env} {V:Vw} {n:Nat} {q:Bool} (h_:Run c F env V n q)
include h_
theorem Run.CO:CxOK c:=h_.1
theorem Run.EO:ExcOK c:=h_.2.1
theorem Run.FO:FmOK c n q F:=h_.2.2.1
theorem Run.O:EnvOK F env V.K V.ns:=h_.2.2.2.1
theorem Run.U:∀ i,V.us i=false→F.loc i=none:=h_.2.2.2.2
end
theorem and2 {a b:Bool} (h:(a&&b)=true):a=true∧b=true:=(Bool.and_eq_true a b).mp h
end Mine
namespace Mine
open PySem PySem.SeqAt
section
variable {c:Cx} {F:Fm} {env:Env} {K:Str→Option NameKind} {ns:Nat→Option Str} {n:Nat} {q:Bool}
theorem isGl_parts {x:Str} (h:isGl K x=true):K x=some .globalImplicit∧(x==("__debug__":Str))=false∧x≠("__name__":Str):=by
 obtain ⟨h1,h2⟩:=and2 h
 obtain ⟨h1,h3⟩:=and2 h1
 refine ⟨beq_iff_eq.mp h1,(Bool.not_eq_true' _).mp h3,fun e=>?_⟩
 rw [e] at h2
 exact Bool.false_ne_true h2
theorem load_global (CO:CxOK c) (O:EnvOK F env K ns) {σ:St} {s:Shared} (I:Inv c F σ s) {A:Around} {E:Value→Shared→Prop} {Q:Value→Shared→Prop} {x:Str} {pos:Pos} {v:Value} (hx:isGl K x=true) (hv:c.mg x=some v) (h:Q v s) :
  wpAny (model c.prog c.w) A (eval (.Name x pos) env) Q E s:=by
 obtain ⟨h1,h2,_⟩:=isGl_parts hx
 exact Calls.Name_function_global O.kind ((O.kinds x).trans h1) (Calls.loadGlobal_global (by rw [O.globals]; exact CO.g.keeps I.base) hv h) h2
theorem load_builtin (CO:CxOK c) (O:EnvOK F env K ns) {σ:St} {s:Shared} (I:Inv c F σ s) {A:Around} {E:Value→Shared→Prop} {Q:Value→Shared→Prop} {x:Str} {pos:Pos} {v:Value} (hx:isGl K x=true) (hm:c.mg x=none) (hv:bootBuiltins x=some v) (h:Q v s) :
  wpAny (model c.prog c.w) A (eval (.Name x pos) env) Q E s:=by
 obtain ⟨h1,h2,hn⟩:=isGl_parts hx
 obtain ⟨mb,hb,hbb⟩:=CO.b
 exact Calls.Name_function_global O.kind ((O.kinds x).trans h1) (Calls.loadGlobal_builtin (by rw [O.globals]; exact CO.g.keeps I.base) hm (by rw [O.builtins]; exact hb.keeps I.base) ((hbb x hn).trans hv) h) h2
theorem Ty.load (CO:CxOK c) (O:EnvOK F env K ns) {σ:St} {s:Shared} (I:Inv c F σ s) {A:Around} {E:Value→Shared→Prop} {Q:Value→Shared→Prop} {t:Ty} {pos:Pos} {w:Value} (hx:isGl K t.name=true) (hv:t.val c=some w) (h:Q w s) :
  wpAny (model c.prog c.w) A (eval (.Name t.name pos) env) Q E s:=by
 cases t with
 | own k =>
  obtain ⟨C,hC,rfl⟩:=Option.map_eq_some_iff.mp hv
  exact load_global CO O I hx (CO.cls _ _ hC) h
 | int=>cases hv; exact load_builtin CO O I hx (CO.free "int" (by decide)) PyProof.Rows.Boot.«int» h
 | bool=>cases hv; exact load_builtin CO O I hx (CO.free "bool" (by decide)) PyProof.Rows.Boot.«bool» h
 | tuple=>cases hv; exact load_builtin CO O I hx (CO.free "tuple" (by decide)) PyProof.Rows.Boot.«tuple» h
 | list=>cases hv; exact load_builtin CO O I hx (CO.free "list" (by decide)) PyProof.Rows.Boot.«list» h
 | valueError=>cases hv; exact load_builtin CO O I hx (CO.free "ValueError" (by decide)) PyProof.Rows.Boot.«ValueError» h
theorem opIsa_val {d:D} {t:Ty} {Q:D→St→Prop} {σ:St} (h:opIsa c d t Q σ):∃ w,t.val c=some w:=by
 cases t with
 | own k =>
  cases d <;> first | exact h.1.elim | skip
  obtain ⟨_,_,⟨Ck,e⟩,_⟩:=h
  exact ⟨.ref Ck,Option.map_eq_some_iff.mpr ⟨Ck,e,rfl⟩⟩
 | _=>exact ⟨_,rfl⟩
theorem evalArgs_any {M:Model} {A:Around} {E:Value→Shared→Prop} {s:Shared} {f:Value} {args:List (Bool×Sem Value)} {Q:Args→Shared→Prop} (hp:args.any (·.1)=false)
  (h:wpAny M A (spliced args) (fun vs s'=>Q ⟨vs,[]⟩ s') E s):wpAny M A (evalArgs f true args []) Q E s:=by
 cases args with
 | nil =>
  unfold evalArgs
  show wpAny M A (spliced [] >>= _) Q E s
  refine wpAny_bind (wpAny_mono h (fun vs s' h'=>?_) fun _ _ x=>x)
  refine wpAny_bind (wpAny_pure ?_)
  refine wpAny_holding ?_
  exact wpAny_bind (wpAny_pure (wpAny_bind (wpAny_pure (wpAny_pure h'))))
 | cons x rest =>
  obtain ⟨b,t⟩:=x
  cases b with
  | false=>exact Calls.evalArgs_plain h
  | true=>exact (Bool.false_ne_true hp.symm).elim
theorem any_plain:∀ (xs:List Expr) (env:Env),(xs.map fun x=>((false,eval x env):Bool×Sem Value)).any (·.1)=false
 | [],_=>rfl
 | _ :: xs,env=>any_plain xs env
theorem backTo_plain {pos:Pos} {env:Env} {V:Vw}:∀ (es:List E) (xs:List Expr),backTo pos (starEach (likes es V xs) env)=(likes es V xs).map fun x=>(false,eval x env)
 | [],xs=>rfl
 | e :: es,xs=>by
  show backTo pos (starEach (like e V (xs.headD default) :: likes es V xs.tail) env)=_
  rw [notStar]
  show (false,eval (like e V (xs.headD default)) env) :: backTo pos (starEach (likes es V xs.tail) env)=_
  rw [backTo_plain es xs.tail]
  rfl
theorem eval_Call_Name (f:Str) (p:Pos) (args:List Expr) (pos:Pos) (env:Env):eval (.Call (.Name f p) args [] pos) env=(do callWith pos (← eval (.Name f p) env) [] (backTo pos (starEach args env)) []):=rfl
end
end Mine
namespace Mine
open PySem PySem.SeqAt
section
variable {c:Cx} {F:Fm} {env:Env} {K:Str→Option NameKind} {ns:Nat→Option Str} {n:Nat} {q:Bool}
theorem bound_part {h:Heap} {v:Value} {d:D} {o:Option Int} (r:Rep h v d) (e:bound d=some o):IsPart v o:=by
 cases r <;> simp [bound] at e
 ·subst e; exact .none
 ·subst e; exact .int _ _
theorem cutL_reps {h:Heap} {vs:List Value} {ds:List D} (r:Reps h vs ds) (l u:Option Int):Reps h (cutL vs l u) (cutL ds l u):=by
 unfold cutL
 rw [r.length]
 exact (r.take _).drop _
theorem cutL_len {α:Type} (xs:List α) (l u:Option Int):(cutL xs l u).length≤xs.length:=by
 unfold cutL; simp; exact o30
theorem adjust_cut (lo hi:Option Int) (n:Nat):Builtin.Slice.sliceAdjust lo hi 1 (n:Int)=(((cutAt n 0 lo:Nat):Int),((cutAt n n hi:Nat):Int)):=by
 unfold Builtin.Slice.sliceAdjust
 have h1:¬ ((1:Int)<0):=by exact o31
 simp only [h1,if_false]
 congr 1
 ·cases lo with
  | none=>rfl
  | some i=>exact cut_some n 0 i
 ·cases hi with
  | none=>rfl
  | some i=>exact cut_some n n i
theorem places_cut (a b:Nat):Builtin.Slice.slicePlaces (a:Int) (b:Int) 1=b - a:=by
 unfold Builtin.Slice.slicePlaces
 rw [if_pos (by decide),Int.ediv_one]
 by_cases z:(a:Int)<b
 ·rw [if_pos z,Int.sub_add_cancel]; exact Int.toNat_sub b a
 ·rw [if_neg z]; exact (Nat.sub_eq_zero_of_le (by exact lin [_,_] [] [.il (.c (.x 1)) (.c (.x 0))] [] (.nl (.x 1) (.x 0)) (.l 1 [1]) rfl (Int.not_lt.mp z))).symm
theorem part_index {prog:Program} {w:World} {A:Around} {E:Value→Shared→Prop} {s:Shared} {v:Value} {o:Option Int} {Q:Option Int→Shared→Prop} (p:IsPart v o) (h:Q o s):wpAny (model prog w) A (Builtin.Slice.slicePartIndex v) Q E s:=by
 cases p with
 | none=>exact PyProof.Rows.slicePart_none h
 | int i t=>exact PyProof.Rows.slicePart_int h
theorem pick_cut (vs:List Value) (a b:Nat) (hb:b≤vs.length):((List.range (b - a)).filterMap fun (k:Nat)=>vs.toArray[((a:Int)+(k:Int)*1).toNat]?).toArray=((vs.take b).drop a).toArray:=by
 congr 1
 have e:(fun (k:Nat)=>vs.toArray[((a:Int)+(k:Int)*1).toNat]?)=fun k=>vs[a+k]?:=by
  funext k
  have:((a:Int)+(k:Int)*1).toNat=a+k:=by exact o33
  rw [this]; simp
 rw [e]
 apply List.ext_getElem?
 intro i
 have key:∀ m,a+m≤vs.length→(List.range m).filterMap (fun k=>vs[a+k]?)=(vs.drop a).take m:=by
  intro m
  induction m with
  | zero=>intro _; rfl
  | succ m ih =>
   intro hm
   rw [List.range_succ,List.filterMap_append,ih (by exact lin [_,_,_] [] [.nl (.a (.x 0) (.a (.x 1) (.k 1))) (.x 2)] [] (.nl (.a (.x 0) (.x 1)) (.x 2)) (.l 1 [1]) rfl hm),List.take_add_one]
   congr 1
   have:vs[a+m]?=some vs[a+m]:=List.getElem?_eq_getElem (by exact lin [_,_,_] [] [.nl (.a (.x 0) (.a (.x 1) (.k 1))) (.x 2)] [] (.nt (.a (.x 0) (.x 1)) (.x 2)) (.l 1 [1]) rfl hm)
   simp [this]
 by_cases hab:a≤b
 ·rw [key (b - a) (by exact o36 hb hab),List.drop_take]
 ·have:b - a=0:=by exact o37 hab
  rw [this,List.drop_eq_nil_of_le (by rw [List.length_take]; exact o38 hab)]
  rfl
theorem getItem_tuple_slice {prog:Program} {w:World} {A:Around} {E:Value→Shared→Prop} {s:Shared} {t sl:Addr} {vs:List Value} {m:Nat} {vl vu:Value} {lo hi:Option Int} {Q:Value→Shared→Prop} (ht:IsT s.heap t vs.toArray m) (hs:s.heap.IsSliceOf sl vl vu .none) (pl:IsPart vl lo) (pu:IsPart vu hi)
  (h0:cutL vs lo hi=vs→Q (.ref t) s) (h1:Q (.ref s.heap.objs.size) { s with heap:=s.heap.push { cls:=.type "tuple",data:=.seq (cutL vs lo hi).toArray } }) (hsz:vs.length≤sizeLine) :
  wpAny (model prog w) A (getItem (.ref t) (.ref sl)) Q E s:=by
 have hT:s.TypeIs (.ref t) "tuple":=⟨_,ht,rfl⟩
 obtain ⟨os,hos,hcs,hds⟩:=id hs
 have hTs:s.TypeIs (.ref sl) "slice":=⟨os,hos,hcs⟩
 have hb:cutAt vs.length vs.length hi≤vs.length:=by
  unfold cutAt
  cases hi with
  | none=>exact Nat.le_refl _
  | some i=>dsimp only; split <;> omega
 unfold getItem
 try with_reducible refine wpAny_holding ?_
 first | refine wpAny_bind (wpAny_pure ?_) | skip
 refine wpAny_bind (wpAny_sequenceKey hT (by decide) ?_)
 refine wpAny_bind (wpAny_callSpecial?_slot (name:=Str.ofString "__getitem__") hT PyProof.Rows.slot_tuple_getitem
  (wpAny_call_entry PyProof.Rows.slot_tuple_getitem hT PyProof.Rows.entry_tuple_getitem ?_ (PyProof.Rows.args_tuple_getitem _ _)))
 show wpAny _ _ (Builtin.Tuple.tupleItemsOf (.ref t) >>= _) _ _ s
 refine wpAny_bind (PyProof.Rows.tupleItemsOf_ ⟨_,ht,rfl,_,rfl⟩ ?_)
 refine wpAny_bind (wpAny_typeOf hTs ?_)
 rw [if_pos (by decide)]
 refine wpAny_bind (Q:=_) ?_
 ·unfold Builtin.Slice.sliceApplied Builtin.Slice.sliceFields
  refine wpAny_bind (wpAny_bind (wpAny_field hos hds (x:=vl) rfl (wpAny_bind (wpAny_field hos hds (x:=vu) rfl (wpAny_bind (wpAny_field hos hds (x:=.none) rfl (wpAny_pure ?_)))))))
  refine wpAny_bind (PyProof.Rows.slicePart_none ?_)
  show wpAny _ _ (if ((1:Int)==0)=true then _ else _) _ _ s
  rw [if_neg (by decide)]
  refine wpAny_bind (part_index pl (wpAny_bind (part_index pu (wpAny_bind (wpAny_pure ?_)))))
  show wpAny _ _ (match Builtin.Slice.sliceAdjust lo hi 1 (vs.toArray.size:Int) with | (lo,hi)=>pure (lo,(1:Int),Builtin.Slice.slicePlaces lo hi 1)) _ _ s
  rw [List.size_toArray,adjust_cut]
  show wpAny _ _ (pure (((cutAt vs.length 0 lo:Nat):Int),(1:Int),Builtin.Slice.slicePlaces ((cutAt vs.length 0 lo:Nat):Int) ((cutAt vs.length vs.length hi:Nat):Int) 1)) _ _ s
  rw [places_cut]
  refine wpAny_pure ?_
  show wpAny _ _ (if ((((cutAt vs.length 0 lo:Nat):Int)==0&&(1:Int)==1&&(cutAt vs.length vs.length hi - cutAt vs.length 0 lo)==vs.toArray.size)=true) then _ else _) _ _ s
  have hcut:(cutL vs lo hi).length≤sizeLine:=Nat.le_trans (cutL_len vs lo hi) hsz
  by_cases hw:(((cutAt vs.length 0 lo:Nat):Int)==0&&(1:Int)==1&&(cutAt vs.length vs.length hi - cutAt vs.length 0 lo)==vs.toArray.size)=true
  ·rw [if_pos hw]
   have e:cutL vs lo hi=vs:=by
    simp at hw
    unfold cutL
    rw [hw.1,List.drop_zero,List.take_of_length_le (by exact o39 hw)]
   refine wpAny_bind (wpAny_bind (wpAny_typeOf hT (wpAny_pure ?_)))
   rw [if_pos (by decide)]
   exact wpAny_bind (wpAny_rule (wpAny_pure ⟨_,rfl,wpAny_pure (h0 e)⟩))
  ·rw [if_neg hw,pick_cut vs _ _ hb]
   have hdrop:sizeOk (.seq ((vs.take (cutAt vs.length vs.length hi)).drop (cutAt vs.length 0 lo)).toArray):=by
    show ((vs.take (cutAt vs.length vs.length hi)).drop (cutAt vs.length 0 lo)).toArray.size≤sizeLine
    rw [List.size_toArray]; exact hcut
   first
    | exact wpAny_bind (m:=Builtin.Tuple.tupleExact _) (wpAny_newObj_type (wpAny_pure ⟨_,rfl,wpAny_pure h1⟩) hdrop)
    | exact wpAny_bind (m:=Builtin.Tuple.tupleExact _) (wpAny_newObj_type (wpAny_bind (wpAny_pure (wpAny_pure ⟨_,rfl,wpAny_pure h1⟩))) hdrop)
    | exact wpAny_bind (wpAny_bind (m:=Builtin.Tuple.tupleExact _) (wpAny_newObj_type (wpAny_pure (wpAny_pure ⟨_,rfl,wpAny_pure h1⟩)) hdrop))
    | exact wpAny_bind (wpAny_bind (m:=Builtin.Tuple.tupleExact _) (wpAny_newObj_type (wpAny_pure ⟨_,rfl,wpAny_pure h1⟩) hdrop))
theorem s_slice {σ:St} {s:Shared} {E:Value→Shared→Prop} {Q:D→St→Prop} {x lo hi:D} {v vl vu:Value} {value:Expr} {slice:Expr} (I:Inv c F σ s) (rv:Rep s.heap v x) (rl:Rep s.heap vl lo) (ru:Rep s.heap vu hi) (h:opSlice x lo hi Q σ)
  (hs:∀ o i,subscripted slice false o i=operate [i,o] (getItem o i)) :
  wpAny (model c.prog c.w) F.A (PyProof.Rows.subscriptTail value slice v (.ref s.heap.objs.size)) (Post c F s.heap Q) E { s with heap:=s.heap.push { cls:=.type "slice",data:=.fields #[vl,vu,.none] } }:=by
 obtain ⟨l,u,e1,e2,h⟩:=h
 have k:=push_keeps s.heap { cls:=.type "slice",data:=.fields #[vl,vu,.none] }
 have I':Inv c F σ { s with heap:=s.heap.push { cls:=.type "slice",data:=.fields #[vl,vu,.none] },toks:=s.toks }:=I.keeps k
 cases rv with
 | tup ht ra =>
  obtain ⟨hl,hq⟩:=h
  have hlen:=ra.length
  unfold lim at hl
  refine PyProof.Rows.tail_any ⟨_,k _ _ ht,rfl⟩ PyProof.Rows.slot_tuple_getitem.lookup (getItem_tuple_slice (k _ _ ht) (Heap.IsSliceOf.new ..) (bound_part rl e1) (bound_part ru e2) (fun e=>?_) ?_ (by rw [sizeLine_val]; exact o23 hl hlen)) (hs _ _)
  ·have:=cutL_reps ra l u
   rw [e] at this
   exact ⟨_,σ,grow_of_keeps k,I',.tup (k _ _ ht) (Reps.grow (grow_of_keeps k) this),hq⟩
  ·exact Post.grow (grow_of_keeps k) (post_tuple (t:=s.toks) I' (cutL_reps (Reps.grow (grow_of_keeps k) ra) l u) hq)
 | lst a =>
  obtain ⟨o,ds,es,hl,hq⟩:=h
  obtain ⟨vs,hls,_,ra⟩:=I'.sto _ _ es
  have hlen:=ra.length
  unfold lim at hl
  refine PyProof.Rows.tail_any hls.typeIs PySem.list_getitem_lookup (wpAny_getItem_list_slice hls (Heap.IsSliceOf.new ..) (bound_part rl e1) (bound_part ru e2) .none (by simp) ?_ (by rw [List.size_toArray,sizeLine_val]; exact o23 hl hlen)) (hs _ _)
  rw [slicePick_cut]
  exact Post.grow (grow_of_keeps k) (post_list (t:=s.toks) I' (none_at_size _) (push_keeps _ _) ⟨0,Heap.get?_push_size _ rfl⟩ (cutL_reps ra l u) hq)
 | _=>exact h.elim
theorem s_call {σ:St} {s:Shared} {Q:D→St→Prop} {X:Str→St→Prop} {ds:List D} {vs:List Value} (I:Inv c F σ s) (FO:FmOK c n true F) (rs:Reps s.heap vs ds)
  {a:Addr} (hC:CallAt c n a ds σ.sto (fun d sto'=>Q d { σ with sto:=sto' }) fun k=>X k σ) :
  wpAny (model c.prog c.w) F.A (call (.ref a) vs) (Post c F s.heap Q) (Exc c F s.heap X) s:=by
 refine wpAny_call (codeAny_mono (hC F.A (F.fenv :: F.outer) s vs FO.frames (FO.handled rfl) FO.depth FO.units I.base I.frames rs fun b k e=>⟨F.hE,I.sto b k e⟩) fun r s' h=>?_)
 obtain ⟨hs,hB,hk,h⟩:=h
 obtain ⟨h',t',rfl⟩:=id hs
 have hkE:Kept F.fs F.hE h':=fun b o e=>by
  obtain ⟨s1,e1,q1⟩:=I.kept b o e
  obtain ⟨s2,e2,q2⟩:=hk b _ e1
  exact ⟨s2,e2,fun w=>(q2 (w.imp (fun w m=>w (FO.back b o e m)) id)).trans (q1 w)⟩
 have I':Inv c F σ { s with heap:=h',toks:=t' }:=I.nf hB hkE (Nf.of_kept hk)
 cases r with
 | error e =>
  obtain ⟨ea,nm,C,t,e1,e2,e3,B',b1,b2⟩:=h
  exact ⟨ea,nm,C,σ,s,e1,e2,Grow.refl _,I,hs,hB,hk,.inl ⟨B',t,b1,b2⟩,e3⟩
 | ok fl =>
 cases fl with
 | ret v =>
  obtain ⟨d,sto',rd,hst,hq⟩:=h
  refine ⟨d,{ σ with sto:=sto' },hk.grow,⟨I'.same,I'.base,I'.kept,I'.frames,I'.vars,I'.places,fun b k e=>?_,fun b ps e=>?_⟩,rd,hq⟩
  case refine_2 =>
   rcases hst b _ e with w | ⟨w1,_⟩
   ·exact I.dap b ps w
   ·exact I.new_off w1
  rcases hst b k e with w | ⟨w1,w2⟩
  ·exact I'.sto b k w
  ·cases k with
   | dict ps =>
    obtain ⟨_,r⟩:=w2
    exact ⟨kept_none I.kept w1,r⟩
   | list own xs =>
    obtain ⟨vs',h1,h2,h3⟩:=w2
    exact ⟨vs',h1,fun z=>⟨(h2 z).1,kept_none I.kept w1⟩,h3⟩
 | _=>exact (show False from h).elim
end
end Mine
namespace Mine
open PySem PySem.SeqAt
section
variable {c:Cx} {F:Fm} {σ:St} {s:Shared} {n:Nat} {q:Bool} {E:Value→Shared→Prop} {Q:D→St→Prop}
theorem dict_off (I:Inv c F σ s) (FO:FmOK c n q F) (CO:CxOK c) {l:Addr} {ps:List (Int×D)} (e:σ.sto l=some (.dict ps)):(l==sysModules)=false:=by
 cases z:l==sysModules with
 | false=>rfl
 | true =>
  obtain ⟨h0,_⟩:=I.sto l _ e
  obtain ⟨_,⟨o,_,_,ho,_⟩,_⟩:=CO.seer.mods
  have:=FO.bh _ _ ho
  rw [← beq_iff_eq.mp z,h0] at this
  cases this
theorem dict_one (I:Inv c F σ s) {l:Addr} {k:Int} {r:D} (e:σ.sto l=some (.dict [(k,r)])):∃ v,(∀ prog w,s.heap.DictOf (intKind prog w) l [(k,v)])∧Rep s.heap v r:=by
 obtain ⟨_,kvs,hm,h2,h3⟩:=I.sto l _ e
 cases kvs with
 | nil=>cases h3
 | cons p kvs =>
  cases kvs with
  | cons _ _=>cases h2
  | nil =>
   cases h3 with | cons h3 _ =>
   have h2:[p.1]=[k]:=h2
   cases h2
   exact ⟨p.2,hm,h3⟩
theorem s_maxd (I:Inv c F σ s) (FO:FmOK c n true F) (CO:CxOK c) {l:Addr} {k:Int} {r:D} (e:σ.sto l=some (.dict [(k,r)])) (h:Q (.int k) σ) :
  wpAny (model c.prog c.w) F.A (call (.builtin "max") [.ref l]) (Post c F s.heap Q) E s:=by
 obtain ⟨v,hm,rv⟩:=dict_one I e
 obtain ⟨ep,ha⟩:=(hm c.prog c.w).dictAt
 have hne:l≠s.heap.objs.size:=Nat.ne_of_lt ha.lt_size
 refine call_max_walk (wpAny_pyIter_dict (dict_off I FO CO e) ha ?_)
 refine ⟨_,_,_,_,_,_,_,rfl,Walks.dictKeys (A:=F.A.in1) (knd:=intKind c.prog c.w) (FO.handled rfl) _ l hne [(k,v)] ep,⟨⟨_,Heap.get?_push_size _ rfl,rfl,rfl⟩,ha.push _⟩,fun b hb=>?_,Nat.zero_lt_one,CmpOf.ints_gt (fun _=>k) (fun i w p=>?_),fun w h' tk p hk=>?_⟩
 ·have hs:(s.heap.push { cls:=.type "dict_keyiterator",data:=.fields #[.ref l,.int 0 0,.int ([(k,v)]:List (Int×Value)).length 0,.int ep 0] }).objs.size=s.heap.objs.size+1:=by simp [Heap.push]
  show b<(s.heap.push _).objs.size
  rw [hs]
  rcases List.mem_cons.mp hb with rfl | hb
  ·exact Nat.lt_succ_self _
  ·rcases List.mem_cons.mp hb with rfl | hb
   ·exact Nat.lt_succ_of_lt ha.lt_size
   ·cases hb
 ·obtain ⟨k',x,h1,h2⟩:=p
  obtain ⟨t,h3⟩:=Value.isInt_shape h2
  have:k'=k:=by
   cases i with
   | zero=>cases h1; rfl
   | succ i=>simp at h1
  exact ⟨t,this ▸ h3⟩
 ·obtain ⟨k',x,h1,h2⟩:=p
  obtain ⟨t,rfl⟩:=Value.isInt_shape h2
  have:k'=k:=by
   have h1:([(k,v)]:List (Int×Value))[0]?=some (k',x):=h1
   cases h1; rfl
  subst this
  exact post_keeps I (fun b o eb=>hk b o (fun hb=>by
   rcases List.mem_cons.mp hb with rfl | hb
   ·exact Nat.lt_irrefl _ (Heap.lt_size eb)
   ·cases hb) (push_keeps _ _ _ _ eb)) (.int _ _) h
end
end Mine
namespace Mine
open PySem PySem.SeqAt
section
variable {c:Cx} {F:Fm} {σ:St} {s:Shared}
theorem Inv.turnedL (I:Inv c F σ s) {h':Heap} {t:Nat} {wr:List Addr} (hw:∀ a∈wr,(∃ o vs,s.heap.get? a=some o∧o.data=.fields vs∧∀ C,o.cls≠.ref C)∧F.hE.get? a=none∧c.B.get? a=none)
  (k:∀ b o,b∉wr→s.heap.get? b=some o→h'.get? b=some o):Inv c F σ { s with heap:=h',toks:=t }:=by
 refine I.nf (fun b o e=>k b o (fun m=>by rw [(hw b m).2.2] at e; cases e) (I.base b o e)) (fun b o e=>?_) ⟨fun b o e nf=>⟨o.slots,k b o (fun m=>?_) e,fun _=>rfl⟩,fun b o C ws e hc _=>k b o (fun m=>?_) e⟩
 ·obtain ⟨sl,e1,q⟩:=I.kept b o e
  exact ⟨sl,k b _ (fun m=>by rw [(hw b m).2.1] at e; cases e) e1,q⟩
 ·obtain ⟨⟨o',vs,e1,e2,_⟩,_⟩:=hw b m
  rw [e] at e1; cases e1
  exact nf vs e2
 ·obtain ⟨⟨o',vs,e1,_,e3⟩,_⟩:=hw b m
  rw [e] at e1; cases e1
  exact e3 C hc
end
noncomputable def ItOK (c:Cx) (F:Fm) (items:List D) (g:St→Prop) (it:Value) (wr:List Addr) (At:Nat→Heap→Prop):Prop :=
 (∀ {i:Nat} {σ:St} {s:Shared} {E:Value→Shared→Prop} {Q:Option Value→Shared→Prop} {d:D},Inv c F σ s→g σ→At i s.heap→items[i]?=some d→
  (∀ v h' t,Rep h' v d→At (i+1) h'→(∀ b o,b∉wr→s.heap.get? b=some o→h'.get? b=some o)→Q (some v) { s with heap:=h',toks:=t })→wpAny (model c.prog c.w) F.A (pyNext it) Q E s)∧
 (∀ {i:Nat} {σ:St} {s:Shared} {E:Value→Shared→Prop} {Q:Option Value→Shared→Prop},Inv c F σ s→g σ→At i s.heap→i=items.length→
  (∀ h' t,(∀ b o,b∉wr→s.heap.get? b=some o→h'.get? b=some o)→Q none { s with heap:=h',toks:=t })→wpAny (model c.prog c.w) F.A (pyNext it) Q E s)∧
 (∀ {i:Nat} {s:Shared} {E:Value→Shared→Prop} {Q:Unit→Shared→Prop} {target:Expr} {v:Value},At i s.heap→
  (∀ h',At i h'→(∀ b o,b∉wr→s.heap.get? b=some o→h'.get? b=some o)→Q () { s with heap:=h' })→wpAny (model c.prog c.w) F.A (letOwnedTupleGo target it v) Q E s)∧
 (∀ {i:Nat} {h h':Heap},At i h→Grow h h'→At i h')∧
 (∀ {i:Nat} {h:Heap},At i h→∀ b∈wr,∃ o vs,h.get? b=some o∧o.data=.fields vs∧∀ C,o.cls≠.ref C)∧
 (∀ b∈wr,F.hE.get? b=none∧c.B.get? b=none)∧
 (∀ {i:Nat} {s:Shared} {E:Value→Shared→Prop} {Q:Value→Shared→Prop},At i s.heap→Q it s→wpAny (model c.prog c.w) F.A (pyIter it) Q E s)
section
variable {c:Cx} {F:Fm} {items:List D} {g:St→Prop} {it:Value} {wr:List Addr} {At:Nat→Heap→Prop} (h_:ItOK c F items g it wr At)
include h_
theorem ItOK.next:∀ {i:Nat} {σ:St} {s:Shared} {E:Value→Shared→Prop} {Q:Option Value→Shared→Prop} {d:D},Inv c F σ s→g σ→At i s.heap→items[i]?=some d→
  (∀ v h' t,Rep h' v d→At (i+1) h'→(∀ b o,b∉wr→s.heap.get? b=some o→h'.get? b=some o)→Q (some v) { s with heap:=h',toks:=t })→wpAny (model c.prog c.w) F.A (pyNext it) Q E s:=h_.1
theorem ItOK.last:∀ {i:Nat} {σ:St} {s:Shared} {E:Value→Shared→Prop} {Q:Option Value→Shared→Prop},Inv c F σ s→g σ→At i s.heap→i=items.length→
  (∀ h' t,(∀ b o,b∉wr→s.heap.get? b=some o→h'.get? b=some o)→Q none { s with heap:=h',toks:=t })→wpAny (model c.prog c.w) F.A (pyNext it) Q E s:=h_.2.1
theorem ItOK.goes:∀ {i:Nat} {s:Shared} {E:Value→Shared→Prop} {Q:Unit→Shared→Prop} {target:Expr} {v:Value},At i s.heap→
  (∀ h',At i h'→(∀ b o,b∉wr→s.heap.get? b=some o→h'.get? b=some o)→Q () { s with heap:=h' })→wpAny (model c.prog c.w) F.A (letOwnedTupleGo target it v) Q E s:=h_.2.2.1
theorem ItOK.keep:∀ {i:Nat} {h h':Heap},At i h→Grow h h'→At i h':=h_.2.2.2.1
theorem ItOK.own:∀ {i:Nat} {h:Heap},At i h→∀ b∈wr,∃ o vs,h.get? b=some o∧o.data=.fields vs∧∀ C,o.cls≠.ref C:=h_.2.2.2.2.1
theorem ItOK.fresh:∀ b∈wr,F.hE.get? b=none∧c.B.get? b=none:=h_.2.2.2.2.2.1
theorem ItOK.self:∀ {i:Nat} {s:Shared} {E:Value→Shared→Prop} {Q:Value→Shared→Prop},At i s.heap→Q it s→wpAny (model c.prog c.w) F.A (pyIter it) Q E s:=h_.2.2.2.2.2.2
end
theorem ItOK.mk' {c:Cx} {F:Fm} {items:List D} {g:St→Prop} {it:Value} {wr:List Addr} {At:Nat→Heap→Prop} (next:∀ {i:Nat} {σ:St} {s:Shared} {E:Value→Shared→Prop} {Q:Option Value→Shared→Prop} {d:D},Inv c F σ s→g σ→At i s.heap→items[i]?=some d→
  (∀ v h' t,Rep h' v d→At (i+1) h'→(∀ b o,b∉wr→s.heap.get? b=some o→h'.get? b=some o)→Q (some v) { s with heap:=h',toks:=t })→wpAny (model c.prog c.w) F.A (pyNext it) Q E s) (last:∀ {i:Nat} {σ:St} {s:Shared} {E:Value→Shared→Prop} {Q:Option Value→Shared→Prop},Inv c F σ s→g σ→At i s.heap→i=items.length→
  (∀ h' t,(∀ b o,b∉wr→s.heap.get? b=some o→h'.get? b=some o)→Q none { s with heap:=h',toks:=t })→wpAny (model c.prog c.w) F.A (pyNext it) Q E s) (goes:∀ {i:Nat} {s:Shared} {E:Value→Shared→Prop} {Q:Unit→Shared→Prop} {target:Expr} {v:Value},At i s.heap→
  (∀ h',At i h'→(∀ b o,b∉wr→s.heap.get? b=some o→h'.get? b=some o)→Q () { s with heap:=h' })→wpAny (model c.prog c.w) F.A (letOwnedTupleGo target it v) Q E s) (keep:∀ {i:Nat} {h h':Heap},At i h→Grow h h'→At i h') (own:∀ {i:Nat} {h:Heap},At i h→∀ b∈wr,∃ o vs,h.get? b=some o∧o.data=.fields vs∧∀ C,o.cls≠.ref C) (fresh:∀ b∈wr,F.hE.get? b=none∧c.B.get? b=none) (self:∀ {i:Nat} {s:Shared} {E:Value→Shared→Prop} {Q:Value→Shared→Prop},At i s.heap→Q it s→wpAny (model c.prog c.w) F.A (pyIter it) Q E s):ItOK c F items g it wr At:=⟨next,last,goes,keep,own,fresh,self⟩
theorem owned_plain {prog:Program} {w:World} {A:Around} {E:Value→Shared→Prop} {s:Shared} {T:String} {o:Obj} {I:Addr} {target:Expr} {v:Value} {vs:Array Value} {Q:Unit→Shared→Prop} (ho:s.heap.get? I=some o) (hc:o.cls=.type T) (hd:o.data=.fields vs)
  (hT:(["enumerate","zip","dict_itemiterator","dict_reverseitemiterator","odict_iterator","itertools.zip_longest","itertools.pairwise"].contains T)=false) (hq:Q () s):wpAny (model prog w) A (letOwnedTupleGo target (.ref I) v) Q E s:=by
 have main:∀ a,wpAny (model prog w) A (do
   let o ← load I
   match o.cls,o.data with
   | .type n,.fields vs =>
    if ["enumerate","zip","dict_itemiterator","dict_reverseitemiterator","odict_iterator","itertools.zip_longest","itertools.pairwise"].contains n&&vs[0]?==some (rawInt a) then
     rule "for.unpacks-the-owned-tuple"
     updateField I 0 .none
   | _,_=>pure ()) Q E s:=fun a=>by
  refine wpAny_bind (wpAny_load ho ?_)
  rw [hc,hd]
  dsimp only
  rw [if_neg (by rw [hT]; simp)]
  exact wpAny_pure hq
 cases target <;> first | exact wpAny_pure hq | (cases v <;> first | exact main _ | exact wpAny_pure hq)
section
variable {c:Cx} {F:Fm} {σ:St} {s:Shared} {n:Nat} {E:Value→Shared→Prop}
theorem fresh_rec (I:Inv c F σ s) {a:Addr} (ha:s.heap.get? a=none):F.hE.get? a=none∧c.B.get? a=none:=by
 refine ⟨kept_none I.kept ha,?_⟩
 cases e:c.B.get? a with
 | none=>rfl
 | some o=>have:=I.base a o e; rw [ha] at this; cases this
theorem it_list (hh:F.A.handled=none) {I ax:Addr} {ds:List D} (hf:F.hE.get? I=none∧c.B.get? I=none):ItOK c F ds (fun σ=>∃ o,σ.sto ax=some (.list o ds)) (.ref I) [I] (fun i h=>h.IsListIter I ax i):=ItOK.mk'
 (next:=fun {i σ s E Q d} Iv hg hat hd hQ=>by
  obtain ⟨o,hg⟩:=hg
  obtain ⟨vs,hl,_,rs⟩:=Iv.sto _ _ hg
  obtain ⟨v,e1,r⟩:=rs.get hd
  refine wpAny_pyNext_list_item hat hl (by simpa using e1) fun h' hit' hs'=>?_
  refine hQ v h' s.toks (Rep.nf (fs:=[]) ⟨fun b o e nf=>⟨o.slots,hs'.extBut b o (fun z=>?_) e,fun _=>rfl⟩,fun b o C ws e hc _=>hs'.extBut b o (fun z=>?_) e⟩ r) hit' fun b o hb e=>hs'.extBut b o (by simpa using hb) e
  ·obtain ⟨oi,h1,h2,h3⟩:=hat
   subst z; rw [e] at h1; cases h1; exact nf _ h3
  ·obtain ⟨oi,h1,h2,h3⟩:=hat
   subst z; rw [e] at h1; cases h1; rw [h2] at hc; cases hc)
 (last:=fun {i σ s E Q} Iv hg hat hi hQ=>by
  obtain ⟨o,hg⟩:=hg
  obtain ⟨vs,hl,_,rs⟩:=Iv.sto _ _ hg
  exact wpAny_pyNext_list_end hh hat hl (by simp [hi,rs.length]) fun h' he=>hQ h' s.toks fun b o hb e=>he b o (by simpa using hb) e)
 (goes:=fun {i s E Q target v} hat hQ=>by
  obtain ⟨oi,h1,h2,h3⟩:=id hat
  exact owned_plain h1 h2 h3 (by decide) (hQ s.heap hat fun _ _ _ e=>e))
 (keep:=fun {i h h'} hat g=>hat.at fun o e=>by
  obtain ⟨oi,h1,h2,h3⟩:=hat
  rw [e] at h1; cases h1
  exact g _ _ e (.inr ⟨_,h3⟩))
 (own:=fun {i h} hat b hb=>by
  obtain ⟨oi,h1,h2,h3⟩:=hat
  obtain rfl:b=I:=by simpa using hb
  exact ⟨oi,_,h1,h3,fun C z=>by rw [h2] at z; cases z⟩)
 (fresh:=fun b hb=>by
  obtain rfl:b=I:=by simpa using hb
  exact hf)
 (self:=fun {i s E Q} hat hq=>wpAny_pyIter_listiter hat hq)
theorem it_tuple (hh:F.A.handled=none) {I ax:Addr} {ds:List D} {vs:List Value} {m:Nat} (hf:F.hE.get? I=none∧c.B.get? I=none):ItOK c F ds (fun _=>True) (.ref I) [I] (fun i h=>h.IsTupleIter I ax i∧IsT h ax vs.toArray m∧Reps h vs ds):=ItOK.mk'
 (next:=fun {i σ s E Q d} Iv hg hat hd hQ=>by
  obtain ⟨hat,ht,rs⟩:=hat
  obtain ⟨v,e1,r⟩:=rs.get hd
  refine wpAny_pyNext_tuple_item hat (IsT.tuple ht) (by simpa using e1) fun h' hit' hs'=>?_
  have nf:Nf [] s.heap h':=by
   refine ⟨fun b o e nf=>⟨o.slots,hs'.extBut b o (fun z=>?_) e,fun _=>rfl⟩,fun b o C ws e hc _=>hs'.extBut b o (fun z=>?_) e⟩
   ·obtain ⟨oi,h1,h2,h3⟩:=hat
    subst z; rw [e] at h1; cases h1; exact nf _ h3
   ·obtain ⟨oi,h1,h2,h3⟩:=hat
    subst z; rw [e] at h1; cases h1; rw [h2] at hc; cases hc
  exact hQ v h' s.toks (Rep.nf nf r) ⟨hit',nf.tuple ht,Reps.nf nf rs⟩ fun b o hb e=>hs'.extBut b o (by simpa using hb) e)
 (last:=fun {i σ s E Q} Iv hg hat hi hQ=>by
  obtain ⟨hat,ht,rs⟩:=hat
  exact wpAny_pyNext_tuple_end hh hat (IsT.tuple ht) (by simp [hi,rs.length]) fun h' he=>hQ h' s.toks fun b o hb e=>he b o (by simpa using hb) e)
 (goes:=fun {i s E Q target v} hat hQ=>by
  obtain ⟨oi,h1,h2,h3⟩:=hat.1
  exact owned_plain h1 h2 h3 (by decide) (hQ s.heap hat fun _ _ _ e=>e))
 (keep:=fun {i h h'} hat g=>⟨hat.1.at fun o e=>by
  obtain ⟨oi,h1,h2,h3⟩:=hat.1
  rw [e] at h1; cases h1
  exact g _ _ e (.inr ⟨_,h3⟩),isT_grow g hat.2.1,Reps.grow g hat.2.2⟩)
 (own:=fun {i h} hat b hb=>by
  obtain ⟨oi,h1,h2,h3⟩:=hat.1
  obtain rfl:b=I:=by simpa using hb
  exact ⟨oi,_,h1,h3,fun C z=>by rw [h2] at z; cases z⟩)
 (fresh:=fun b hb=>by
  obtain rfl:b=I:=by simpa using hb
  exact hf)
 (self:=fun {i s E Q} hat hq=>wpAny_pyIter_tupleiter hat.1 hq)
theorem it_range (hh:F.A.handled=none) {I:Addr} {a k:Int} {len:Nat} (hf:F.hE.get? I=none∧c.B.get? I=none):ItOK c F ((List.range len).map fun (i:Nat)=>D.int (a+i*k)) (fun _=>True) (.ref I) [I] (fun i h=>IsRangeIter h I (a+(i:Nat)*k) ((len:Int) - (i:Nat)) k):=ItOK.mk'
 (next:=fun {i σ s E Q d} Iv hg hat hd hQ=>by
  have hi:i<len:=by
   have:=(List.getElem?_eq_some_iff.mp hd).1
   simpa using this
  have hdd:d=.int (a+i*k):=by simp [hi] at hd; exact hd.symm
  subst hdd
  refine wpAny_pyNext_range_item hat (by exact lin [_,_] [] [.nt (.x 0) (.x 1)] [] (.it (.k 0) (.s (.c (.x 1)) (.c (.x 0)))) (.l 1 [1]) rfl hi) fun h' hit' hs'=>?_
  refine hQ _ h' _ (.int _ _) ?_ fun b o hb e=>hs'.extBut b o (by simpa using hb) e
  have e1:a+((i+1:Nat):Int)*k=a+(i:Int)*k+k:=by push_cast; rw [Int.add_mul,Int.one_mul,Int.add_assoc]
  have e2:(len:Int) - ((i+1:Nat):Int)=(len:Int) - (i:Int) - 1:=by push_cast; exact linI [_,_] [] [] [] (.s (.c (.x 0)) (.a (.c (.x 1)) (.k 1))) (.s (.s (.c (.x 0)) (.c (.x 1))) (.k 1)) (.l 1 []) (.l 1 []) rfl
  rw [e1,e2]; exact hit')
 (last:=fun {i σ s E Q} Iv hg hat hi hQ=>by
  have hi':i=len:=by simpa using hi
  exact wpAny_pyNext_range_end hh hat (by exact lin [_,_] [] [.ne (.x 0) (.x 1)] [] (.il (.s (.c (.x 1)) (.c (.x 0))) (.k 0)) (.l 1 [-1]) rfl hi') fun h' he=>hQ h' s.toks fun b o hb e=>he b o (by simpa using hb) e)
 (goes:=fun {i s E Q target v} hat hQ=>owned_plain hat rfl rfl (by decide) (hQ s.heap hat fun _ _ _ e=>e))
 (keep:=fun {i h h'} hat g=>g _ _ hat (.inr ⟨_,rfl⟩))
 (own:=fun {i h} hat b hb=>by
  obtain rfl:b=I:=by simpa using hb
  exact ⟨_,_,hat,rfl,fun C z=>by cases z⟩)
 (fresh:=fun b hb=>by
  obtain rfl:b=I:=by simpa using hb
  exact hf)
 (self:=fun {i s E Q} hat hq=>wpAny_pyIter_rangeiter hat hq)
end
end Mine
namespace Mine
open PySem PySem.SeqAt
noncomputable def PostI (c:Cx) (F:Fm) (h₀:Heap) (Kc:List D→(St→Prop)→St→Prop):Value→Shared→Prop:=fun itv s₂ =>
 ∃ items g σ' wr At sb,Grow h₀ sb.heap∧Inv c F σ' sb∧SameSh sb s₂∧(∀ b o,sb.heap.get? b=some o→s₂.heap.get? b=some o)∧(∀ b∈wr,sb.heap.get? b=none)∧ItOK c F items g itv wr At∧At 0 s₂.heap∧Kc items g σ'
section
variable {c:Cx} {F:Fm} {env:Env} {K:Str→Option NameKind} {ns:Nat→Option Str} {n:Nat} {q:Bool}
theorem none1 {h:Heap} {a:Addr} (n:h.get? a=none):∀ b∈[a],h.get? b=none:=fun b hb=>by
 obtain rfl:b=a:=by simpa using hb
 exact n
theorem rangeUp_eq (a b:Int):rangeUp a b=(List.range (b - a).toNat).map fun (i:Nat)=>D.int (a+i*1):=by
 unfold rangeUp
 exact List.map_congr_left fun i _=>by rw [Int.mul_one]
theorem rangeDn_eq (a b:Int):rangeDn a b=(List.range (a - b).toNat).map fun (i:Nat)=>D.int (a+i*(-1)):=by
 unfold rangeDn
 exact List.map_congr_left fun i _=>by rw [show a+(i:Int)*(-1)=a - i by rw [Int.mul_neg_one]; rfl]
theorem dn_size (a b:Int):Builtin.Range.rangeSize a b (-1)=((a - b).toNat:Int):=by
 have h1:¬ ((-1:Int) > 0):=by decide
 have h2:(-(-1):Int)=1:=rfl
 unfold Builtin.Range.rangeSize
 rw [if_neg h1,h2,Int.ediv_one]
 by_cases h:a > b
 ·rw [if_pos h]; exact o43 h
 ·rw [if_neg h]; exact o44 h
theorem dn_small {a b:Int} (h1:-1000000≤a) (h2:a≤1000000) (h3:-1000000≤b) (h4:b≤1000000):Builtin.Range.small a b (-1)=true:=by
 unfold Builtin.Range.small
 rw [dn_size]
 simp [Builtin.Range.rangeFitsLong]
 exact o45 h1 h2 h3 h4
theorem s_rangeIt {σ:St} {s:Shared} {E:Value→Shared→Prop} {a b k:Int} {t u v:Tok} {len:Nat} {h₀:Heap} {Kc:List D→(St→Prop)→St→Prop} (I:Inv c F σ s) (hh:F.A.handled=none) (g:Grow h₀ s.heap)
  (hs:Builtin.Range.small a b k=true) (hn:Builtin.Range.rangeSize a b k=(len:Int)) (hK:Kc ((List.range len).map fun (i:Nat)=>D.int (a+i*k)) (fun _=>True) σ) {tk:Nat} :
  wpAny (model c.prog c.w) F.A (pyIter (.ref s.heap.objs.size)) (PostI c F h₀ Kc) E { s with heap:=s.heap.push { cls:=.type "range",data:=.fields #[.int a t,.int b u,.int k v] },toks:=tk }:=by
 have k1:=push_keeps s.heap { cls:=.type "range",data:=.fields #[.int a t,.int b u,.int k v] }
 have I₁:Inv c F σ { s with heap:=s.heap.push { cls:=.type "range",data:=.fields #[.int a t,.int b u,.int k v] },toks:=tk }:=I.keeps k1
 refine wpAny_pyIter_range (IsRange.new _ a b k t u v) hs ?_
 rw [hn]
 have k2:=push_keeps (s.heap.push { cls:=.type "range",data:=.fields #[.int a t,.int b u,.int k v] }) { cls:=.type "range_iterator",data:=.fields #[rawInt a,rawInt (len:Int),rawInt k] }
 refine ⟨_,_,σ,_,_,_,g.trans (grow_of_keeps k1),I₁,⟨_,_,rfl⟩,k2,none1 (none_at_size _),it_range (a:=a) (k:=k) (len:=len) hh (fresh_rec I₁ (none_at_size _)),?_,hK⟩
 show IsRangeIter _ _ _ _ _
 have:=Heap.get?_push_size (o:={ cls:=.type "range_iterator",data:=.fields #[rawInt a,rawInt (len:Int),rawInt k] }) (s.heap.push { cls:=.type "range",data:=.fields #[.int a t,.int b u,.int k v] }) rfl
 simpa using this
theorem smallI_int {d:D} (h:smallI d=true):∃ i,d=.int i∧-1000000≤i∧i≤1000000:=by
 cases d <;> simp [smallI] at h
 exact ⟨_,rfl,h.1,h.2⟩
theorem reps1 {h:Heap} {vs:List Value} {a:D} (r:Reps h vs [a]):∃ v,vs=[v]∧Rep h v a:=by
 cases r with | cons x y=>cases y; exact ⟨_,rfl,x⟩
theorem reps2 {h:Heap} {vs:List Value} {a b:D} (r:Reps h vs [a,b]):∃ v w,vs=[v,w]∧Rep h v a∧Rep h w b:=by
 cases r with | cons x y=>obtain ⟨w,rfl,z⟩:=reps1 y; exact ⟨_,_,rfl,x,z⟩
theorem reps3 {h:Heap} {vs:List Value} {a b d:D} (r:Reps h vs [a,b,d]):∃ v w x,vs=[v,w,x]∧Rep h v a∧Rep h w b∧Rep h x d:=by
 cases r with | cons x y=>obtain ⟨w,z,rfl,p,q⟩:=reps2 y; exact ⟨_,_,_,rfl,x,p,q⟩
theorem s_range {σ:St} {s:Shared} {E:Value→Shared→Prop} {ds:List D} {vs:List Value} {items:List D} {h₀:Heap} {Kc:List D→(St→Prop)→St→Prop} (I:Inv c F σ s) (FO:FmOK c n true F) (CO:CxOK c) (g:Grow h₀ s.heap) (r:Reps s.heap vs ds)
  (hs:ds.all smallI=true) (hi:rangeD ds=some items) (hK:Kc items (fun _=>True) σ) :
  wpAny (model c.prog c.w) F.A (call (.type "range") vs) (fun v s₁=>wpAny (model c.prog c.w) F.A (pyIter v) (PostI c F h₀ Kc) E s₁) E s:=by
 have hh:=FO.handled rfl
 cases ds with
 | nil=>cases hi
 | cons d ds =>
 cases ds with
 | nil =>
  simp only [List.all_cons,List.all_nil,Bool.and_true] at hs
  obtain ⟨b,rfl,b1,b2⟩:=smallI_int hs
  obtain ⟨v,rfl,rv⟩:=reps1 r
  obtain ⟨t,rfl⟩:=rep_int rv
  have hi:some (rangeUp 0 b)=some items:=hi
  cases hi
  rw [rangeUp_eq] at hK
  exact call_range_1 (s_rangeIt I hh g (small_one (by exact o46) (by exact o47) (by exact o48 b1 b2) (by exact o49 b1 b2)) (PyProof.Rows.rangeSize_nat 0 b) hK)
 | cons e ds =>
 cases ds with
 | nil =>
  simp only [List.all_cons,List.all_nil,Bool.and_true,Bool.and_eq_true] at hs
  obtain ⟨a,rfl,a1,a2⟩:=smallI_int hs.1
  obtain ⟨b,rfl,b1,b2⟩:=smallI_int hs.2
  obtain ⟨v,w,rfl,rv,rw'⟩:=reps2 r
  obtain ⟨t,rfl⟩:=rep_int rv
  obtain ⟨u,rfl⟩:=rep_int rw'
  have hi:some (rangeUp a b)=some items:=hi
  cases hi
  rw [rangeUp_eq] at hK
  exact call_range_2 (s_rangeIt I hh g (small_one (by exact o48 a1 a2) (by exact o49 a1 a2) (by exact o48 b1 b2) (by exact o49 b1 b2)) (PyProof.Rows.rangeSize_nat a b) hK)
 | cons f ds =>
 cases ds with
 | nil =>
  simp only [List.all_cons,List.all_nil,Bool.and_true,Bool.and_eq_true] at hs
  obtain ⟨a,rfl,a1,a2⟩:=smallI_int hs.1
  obtain ⟨b,rfl,b1,b2⟩:=smallI_int hs.2.1
  obtain ⟨k,rfl,k1,k2⟩:=smallI_int hs.2.2
  obtain ⟨v,w,z,rfl,rv,rw',rz⟩:=reps3 r
  obtain ⟨t,rfl⟩:=rep_int rv
  obtain ⟨u,rfl⟩:=rep_int rw'
  obtain ⟨y,rfl⟩:=rep_int rz
  have hi:(if k=-1 then some (rangeDn a b) else none)=some items:=hi
  by_cases hk:k=-1
  ·subst hk
   rw [if_pos rfl] at hi
   cases hi
   rw [rangeDn_eq] at hK
   exact PySem.call_range_3 (by decide) (s_rangeIt (tk:=s.toks) I hh g (dn_small a1 a2 b1 b2) (dn_size a b) hK) (.inr (FO.room CO I.base))
  ·rw [if_neg hk] at hi; cases hi
 | cons g' r' =>
  simp only [List.all_cons,Bool.and_eq_true] at hs
  obtain ⟨a,rfl,_⟩:=smallI_int hs.1
  obtain ⟨b,rfl,_⟩:=smallI_int hs.2.1
  obtain ⟨k,rfl,_⟩:=smallI_int hs.2.2.1
  cases (show (none:Option (List D))=some items from hi)
theorem s_items {σ:St} {s:Shared} {E:Value→Shared→Prop} {d:D} {v:Value} {h₀:Heap} {Kc:List D→(St→Prop)→St→Prop} (I:Inv c F σ s) (hh:F.A.handled=none) (g:Grow h₀ s.heap) (r:Rep s.heap v d) (w:itemsOf d Kc σ) :
  wpAny (model c.prog c.w) F.A (pyIter v) (PostI c F h₀ Kc) E s:=by
 cases r with
 | @tup a m vs ds ht rs =>
  obtain ⟨hl,hK⟩:=w
  refine wpAny_pyIter_tuple (IsT.tuple ht) ?_
  have k:=push_keeps s.heap { cls:=.type "tuple_iterator",data:=.fields #[.ref a,.int 0 0] }
  exact ⟨_,_,σ,_,_,s,g,I,⟨_,_,rfl⟩,k,none1 (none_at_size _),it_tuple (ax:=a) (vs:=vs) (m:=m) hh (fresh_rec I (none_at_size _)),⟨⟨_,Heap.get?_push_size _ rfl,rfl,rfl⟩,k _ _ ht,Reps.grow (grow_of_keeps k) rs⟩,hK⟩
 | lst a =>
  obtain ⟨o,ds,es,hl,hK⟩:=w
  obtain ⟨vs,hls,_,rs⟩:=I.sto _ _ es
  refine wpAny_pyIter_list hls ?_
  have k:=push_keeps s.heap { cls:=.type "list_iterator",data:=.fields #[.ref a,.int 0 0] }
  exact ⟨_,_,σ,_,_,s,g,I,⟨_,_,rfl⟩,k,none1 (none_at_size _),it_list (ax:=a) hh (fresh_rec I (none_at_size _)),⟨_,Heap.get?_push_size _ rfl,rfl,rfl⟩,hK⟩
 | _=>exact w.elim
end
end Mine
namespace Mine
open PySem PySem.SeqAt
theorem SameSh.two {a b d:Shared} (x:SameSh a b) (y:SameSh a d):SameSh b d:=by
 obtain ⟨h,t,rfl⟩:=x
 obtain ⟨h',t',rfl⟩:=y
 exact ⟨h',t',rfl⟩
theorem Cell.ro_ok {h hE hE':Heap} {b:Addr} {k k':Cell} (p:CellOK h hE b k) (e:k.ro=some k'):CellOK h hE' b k':=by
 cases k with
 | list own ds=>cases e; obtain ⟨vs,h1,h2,h3⟩:=p; exact ⟨vs,h1,(fun z=>by cases z),h3⟩
 | dict ps=>cases e
theorem Cell.ro_list {k k':Cell} (e:k.ro=some k'):∃ ds,k'=.list false ds:=by
 cases k with
 | list own ds=>cases e; exact ⟨ds,rfl⟩
 | dict ps=>cases e
theorem ro_some {τ:Sto} {a:Addr} {k':Cell} (e:Sto.ro τ a=some k'):∃ k,τ a=some k∧k.ro=some k':=Option.bind_eq_some_iff.mp e
theorem ro_nodict {τ:Sto} {a:Addr} {ps:List (Int×D)} (e:Sto.ro τ a=some (.dict ps)):False:=by
 obtain ⟨k,_,e⟩:=ro_some e
 obtain ⟨ds,e⟩:=Cell.ro_list e
 cases e
section
variable {c:Cx} {F:Fm} {env:Env} {K:Str→Option NameKind} {ns:Nat→Option Str} {n:Nat} {q:Bool}
theorem Inv.after {σ:St} {sc s':Shared} (I:Inv c F σ sc) (FO:FmOK c n q F) (k:Kept F.fs1 sc.heap s'.heap) (hs:SameSh sc s'):Inv c F σ s':=by
 obtain ⟨h',t',rfl⟩:=hs
 refine I.nf (fun b o e=>k.exact (I.base b o e) (.inl fun m=>?_)) (fun b o e=>?_) (Nf.of_kept k)
 ·rw [(I.frames.mem m).1] at e; cases e
 ·obtain ⟨s1,e1,q1⟩:=I.kept b o e
  obtain ⟨s2,e2,q2⟩:=k b _ e1
  exact ⟨s2,e2,fun w=>(q2 (w.imp (fun w m=>w (FO.back b o e m)) id)).trans (q1 w)⟩
theorem s_assigns (FO:FmOK c n q F) (Wr:FmW F) (O:EnvOK F env K ns) {E:Value→Shared→Prop} (f:Nat→Str):∀ (xs:List Nat) (ys:List Expr) (ds:List D) (vs:List Value) (σ:St) (s:Shared) (Q:Unit→Shared→Prop),(∀ i∈xs,ns i=some (f i))→xs.length=ds.length→Reps s.heap vs ds→Inv c F σ s→
  (∀ s',SameSh s s'→Grow s.heap s'.heap→Inv c F (setAll σ xs ds) s'→Q () s')→wpAny (model c.prog c.w) F.A (assignInOrder ((assignEach (namesX (xs.map f) ys) env).map (·.2)) vs) Q E s
 | [],ys,ds,vs,σ,s,Q,hn,hl,r,I,h=>wpAny_pure (h s (SameSh.refl s) (Grow.refl _) I)
 | x :: xs,ys,_,_,σ,s,Q,hn,hl,.nil,I,h=>by simp at hl
 | x :: xs,ys,d :: ds,v :: vs,σ,s,Q,hn,hl,.cons rv rs,I,h=>by
  show wpAny _ _ (do holding vs (assign (.Name (f x) (ys.headD default).pos) env v); assignInOrder ((assignEach (namesX (xs.map f) ys.tail) env).map (·.2)) vs) _ _ s
  refine wpAny_bind (wpAny_holding (wpAny_assign_Name (store_var I FO Wr O (hn x (.head _)) rv fun s₁ hs₁ g₁ I₁=>?_)))
  exact s_assigns FO Wr O f xs ys.tail ds vs (σ.set x d) s₁ Q (fun i hi=>hn i (.tail _ hi)) (Nat.succ.inj hl) (rs.grow g₁) I₁ fun s₂ hs₂ g₂ I₂=>h s₂ (hs₁.trans hs₂) (g₁.trans g₂) I₂
theorem assignEach_len (env:Env):∀ (ss:List Str) (ys:List Expr),(assignEach (namesX ss ys) env).length=ss.length∧(assignEach (namesX ss ys) env).findIdx? (·.1)=none
 | [],_=>⟨rfl,rfl⟩
 | s :: ss,ys=>by
  obtain ⟨a,b⟩:=assignEach_len env ss ys.tail
  refine ⟨congrArg Nat.succ a,?_⟩
  show ((false,assign (.Name s (ys.headD default).pos) env) :: assignEach (namesX ss ys.tail) env).findIdx? (·.1)=none
  rw [List.findIdx?_cons,b]
  rfl
theorem s_assignT (FO:FmOK c n true F) (Wr:FmW F) (O:EnvOK F env K ns) {E:Value→Shared→Prop} {f:Nat→Str} {xs:List Nat} {ys:List Expr} {k:Nat} {p:Pos} {ds:List D} {v:Value} {σ:St} {s:Shared} {Q:Unit→Shared→Prop} (hn:∀ i∈xs,ns i=some (f i)) (hl:ds.length=xs.length) (r:Rep s.heap v (.tup ds)) (I:Inv c F σ s)
  (h:∀ s',SameSh s s'→Grow s.heap s'.heap→Inv c F (setAll σ xs ds) s'→Q () s'):wpAny (model c.prog c.w) F.A (assign (.Tuple (namesX (xs.map f) ys) k p) env v) Q E s:=by
 obtain ⟨a,m,vs,rfl,ht,rs⟩:=rep_tup r
 have hlen:=rs.length
 obtain ⟨a1,a2⟩:=assignEach_len env (xs.map f) ys
 refine wpAny_assign_Tuple (FO.handled rfl) (IsT.tuple ht) (by rw [a1,List.length_map,List.size_toArray,hlen,hl]) a2 fun h' he=>?_
 have kk:∀ b o,s.heap.get? b=some o→h'.get? b=some o:=fun b o e=>he b o (Nat.ne_of_lt (Heap.lt_size e)) e
 exact s_assigns FO Wr O f xs ys ds _ σ { s with heap:=h' } Q hn hl.symm (rs.grow (grow_of_keeps kk)) (I.keeps (t:=s.toks) kk) fun s₂ hs₂ g₂ I₂=>h s₂ (SameSh.trans ⟨h',s.toks,rfl⟩ hs₂) ((grow_of_keeps kk).trans g₂) I₂
theorem s_bind (FO:FmOK c n true F) (Wr:FmW F) (O:EnvOK F env K ns) {E:Value→Shared→Prop} {f:Nat→Str} {one:Bool} {xs:List Nat} {y:Expr} {d:D} {v:Value} {σ:St} {s:Shared} {K':St→Prop} {Q:Unit→Shared→Prop} (hn:∀ i∈xs,ns i=some (f i)) (r:Rep s.heap v d) (I:Inv c F σ s) (w:bindT one xs d K' σ)
  (h:∀ s' ds,SameSh s s'→Grow s.heap s'.heap→Inv c F (setAll σ xs ds) s'→K' (setAll σ xs ds)→Q () s'):wpAny (model c.prog c.w) F.A (assign (tgt one (xs.map f) y) env v) Q E s:=by
 cases one with
 | true =>
  cases xs with
  | nil=>exact (show False from w).elim
  | cons x xs =>
  cases xs with
  | cons _ _=>exact (show False from w).elim
  | nil=>exact wpAny_assign_Name (store_var I FO Wr O (hn x (.head _)) r fun s' h1 h2 h3=>h s' [d] h1 h2 h3 w)
 | false =>
  obtain ⟨ds,rfl,hl,w⟩:=w
  exact s_assignT FO Wr O hn hl r I fun s' h1 h2 h3=>h s' ds h1 h2 h3 w
end
noncomputable def clo (env:Env):List (Str×NameKind)→List (Str×Addr)→List (Str×Addr)
 | [],cs=>cs
 | (x,k) :: r,cs=>clo env r (if k==.free then (x,(env.cells.lookup x).getD 0) :: cs else cs)
theorem closure_eq {sc:Scope} {env:Env} (h:∀ p∈sc.names,p.2=.free→∃ a,env.cells.lookup p.1=some a):closureFor sc env=pure (clo env sc.names []):=by
 unfold closureFor
 have key:∀ (l:List (Str×NameKind)) (cs:List (Str×Addr)),(∀ p∈l,p.2=.free→∃ a,env.cells.lookup p.1=some a)→
   (forIn l cs (fun (x:Str×NameKind) r=>if (x.2==NameKind.free)=true then do let a ← cellOf env x.1; pure (ForInStep.yield ((x.1,a) :: r)) else pure (ForInStep.yield r)):Sem (List (Str×Addr)))=pure (clo env l cs):=by
  intro l
  induction l with
  | nil=>intro cs _; rfl
  | cons p l ih =>
   intro cs h
   obtain ⟨x,k⟩:=p
   rw [List.forIn_cons]
   cases hk:k==NameKind.free with
   | true =>
    obtain ⟨a,ha⟩:=h (x,k) (.head _) (beq_iff_eq.mp hk)
    have hc:cellOf env x=pure a:=by unfold cellOf; rw [ha]
    simp only [if_true,hc,pure_bind]
    rw [ih _ fun p hp=>h p (.tail _ hp)]
    show pure (clo env l ((x,a) :: cs))=pure (clo env l (if (k==.free)=true then (x,(env.cells.lookup x).getD 0) :: cs else cs))
    rw [hk,if_pos rfl,ha]; rfl
   | false =>
    simp only [if_false,pure_bind,Bool.false_eq_true]
    rw [ih _ fun p hp=>h p (.tail _ hp)]
    show pure (clo env l cs)=pure (clo env l (if (k==.free)=true then (x,(env.cells.lookup x).getD 0) :: cs else cs))
    rw [hk,if_neg Bool.false_ne_true]
 have:=key sc.names [] h
 simp only [bind_pure]
 exact this
theorem clo_at {env:Env} {x:Str} {a:Addr} (ha:env.cells.lookup x=some a):∀ (l:List (Str×NameKind)) (cs:List (Str×Addr)),((x,NameKind.free)∈l∨cs.lookup x=some a)→(clo env l cs).lookup x=some a
 | [],cs,h=>by
  rcases h with h | h
  ·cases h
  ·exact h
 | (y,k) :: l,cs,h=>by
  unfold clo
  refine clo_at ha l _ ?_
  cases hk:k==NameKind.free with
  | true =>
   rw [if_pos rfl]
   by_cases z:x=y
   ·subst z
    exact .inr (by rw [List.lookup_cons_self,ha]; rfl)
   ·rcases h with h | h
    ·rcases List.mem_cons.mp h with h | h
     ·cases h; exact absurd rfl z
     ·exact .inl h
    ·exact .inr (by rw [List.lookup_cons,beq_eq_false_iff_ne.mpr z]; exact h)
  | false =>
   rw [if_neg Bool.false_ne_true]
   rcases h with h | h
   ·rcases List.mem_cons.mp h with h | h
    ·cases h; cases hk
    ·exact .inl h
   ·exact .inr h
theorem relK_cell {K:Str→Option NameKind} {x:Str}:∀ {names:List (Str×NameKind)},(∀ p∈names,p.2≠.cell)→relK K names x=some .cell→(x,NameKind.free)∈names∧K x=some .cell
 | [],_,h=>by cases h
 | (y,k) :: r,hn,h=>by
  have h:List.lookup x ((if (k==NameKind.free&&K y==some .cell)=true then (y,NameKind.cell) else (y,k)) :: (r.map fun (n,k)=>if (k==.free&&K n==some .cell) then (n,NameKind.cell) else (n,k)))=some .cell:=h
  by_cases hc:(k==NameKind.free&&K y==some .cell)=true
  ·rw [if_pos hc,List.lookup_cons] at h
   by_cases z:x=y
   ·subst z
    obtain ⟨h1,h2⟩:=and2 hc
    exact ⟨by rw [beq_iff_eq.mp h1]; exact .head _,beq_iff_eq.mp h2⟩
   ·rw [beq_eq_false_iff_ne.mpr z] at h
    obtain ⟨h1,h2⟩:=relK_cell (fun p hp=>hn p (.tail _ hp)) h
    exact ⟨.tail _ h1,h2⟩
  ·rw [if_neg hc,List.lookup_cons] at h
   by_cases z:x=y
   ·subst z
    rw [beq_self_eq_true] at h
    exact absurd (Option.some.inj h) (hn _ (.head _))
   ·rw [beq_eq_false_iff_ne.mpr z] at h
    obtain ⟨h1,h2⟩:=relK_cell (fun p hp=>hn p (.tail _ hp)) h
    exact ⟨.tail _ h1,h2⟩
noncomputable def CIt (c:Cx) (F:Fm) (σ:St) (hb:Heap) (fl:Bool) (items:List D) (it:Value) (wr:List Addr) (At:Nat→Heap→Prop) (Md:Nat→Value→Heap→Prop) (target:Expr):Prop :=
 (∀ {i:Nat} {s:Shared} {E:Value→Shared→Prop} {Q:Option Value→Shared→Prop} {d:D},Inv c F σ s→At i s.heap→items[i]?=some d→
  (∀ v h' t,Rep h' v d→Md (i+1) v h'→(∀ b o,b∉wr→s.heap.get? b=some o→h'.get? b=some o)→Q (some v) { s with heap:=h',toks:=t })→wpAny (model c.prog c.w) F.A (pyNext it) Q E s)∧
 (∀ {i:Nat} {s:Shared} {E:Value→Shared→Prop} {Q:Option Value→Shared→Prop},Inv c F σ s→At i s.heap→i=items.length→
  (∀ h' t,(∀ b o,b∉wr→s.heap.get? b=some o→h'.get? b=some o)→Q none { s with heap:=h',toks:=t })→wpAny (model c.prog c.w) F.A (pyNext it) Q E s)∧
 (∀ {i:Nat} {s:Shared} {E:Value→Shared→Prop} {Q:Unit→Shared→Prop} {v:Value},Md i v s.heap→
  (∀ h',At i h'→(∀ b o,b∉wr→s.heap.get? b=some o→h'.get? b=some o)→(∀ u d,Rep s.heap u d→Rep h' u d)→Q () { s with heap:=h' })→wpAny (model c.prog c.w) F.A (letOwnedTupleGo target it v) Q E s)∧
 (∀ {i:Nat} {h h':Heap},At i h→Grow h h'→At i h')∧
 (∀ {i:Nat} {h h':Heap} {v:Value} {d:D},At i h→(∀ b o,b∉wr→h.get? b=some o→h'.get? b=some o)→(fl=true→flatD d=true)→Rep h v d→Rep h' v d)∧
 (∀ {i:Nat} {h:Heap},At i h→∀ b∈wr,∃ o,h.get? b=some o∧noDict o∧∀ ws m,o.data=.seq ws m→o.cls≠.type "list")∧
 (∀ {i:Nat} {v:Value} {h:Heap},Md i v h→∀ b∈wr,∃ o,h.get? b=some o∧noDict o∧∀ ws m,o.data=.seq ws m→o.cls≠.type "list")∧
 (∀ b∈wr,hb.get? b=none)∧
 (∀ {i:Nat} {s:Shared} {E:Value→Shared→Prop} {Q:Value→Shared→Prop},At i s.heap→Q it s→wpAny (model c.prog c.w) F.A (pyIter it) Q E s)
section
variable {c:Cx} {F:Fm} {σ:St} {hb:Heap} {fl:Bool} {items:List D} {it:Value} {wr:List Addr} {At:Nat→Heap→Prop} {Md:Nat→Value→Heap→Prop} {target:Expr} (h_:CIt c F σ hb fl items it wr At Md target)
include h_
theorem CIt.next:∀ {i:Nat} {s:Shared} {E:Value→Shared→Prop} {Q:Option Value→Shared→Prop} {d:D},Inv c F σ s→At i s.heap→items[i]?=some d→
  (∀ v h' t,Rep h' v d→Md (i+1) v h'→(∀ b o,b∉wr→s.heap.get? b=some o→h'.get? b=some o)→Q (some v) { s with heap:=h',toks:=t })→wpAny (model c.prog c.w) F.A (pyNext it) Q E s:=h_.1
theorem CIt.last:∀ {i:Nat} {s:Shared} {E:Value→Shared→Prop} {Q:Option Value→Shared→Prop},Inv c F σ s→At i s.heap→i=items.length→
  (∀ h' t,(∀ b o,b∉wr→s.heap.get? b=some o→h'.get? b=some o)→Q none { s with heap:=h',toks:=t })→wpAny (model c.prog c.w) F.A (pyNext it) Q E s:=h_.2.1
theorem CIt.goes:∀ {i:Nat} {s:Shared} {E:Value→Shared→Prop} {Q:Unit→Shared→Prop} {v:Value},Md i v s.heap→
  (∀ h',At i h'→(∀ b o,b∉wr→s.heap.get? b=some o→h'.get? b=some o)→(∀ u d,Rep s.heap u d→Rep h' u d)→Q () { s with heap:=h' })→wpAny (model c.prog c.w) F.A (letOwnedTupleGo target it v) Q E s:=h_.2.2.1
theorem CIt.keep:∀ {i:Nat} {h h':Heap},At i h→Grow h h'→At i h':=h_.2.2.2.1
theorem CIt.safe:∀ {i:Nat} {h h':Heap} {v:Value} {d:D},At i h→(∀ b o,b∉wr→h.get? b=some o→h'.get? b=some o)→(fl=true→flatD d=true)→Rep h v d→Rep h' v d:=h_.2.2.2.2.1
theorem CIt.kinds:∀ {i:Nat} {h:Heap},At i h→∀ b∈wr,∃ o,h.get? b=some o∧noDict o∧∀ ws m,o.data=.seq ws m→o.cls≠.type "list":=h_.2.2.2.2.2.1
theorem CIt.kindsM:∀ {i:Nat} {v:Value} {h:Heap},Md i v h→∀ b∈wr,∃ o,h.get? b=some o∧noDict o∧∀ ws m,o.data=.seq ws m→o.cls≠.type "list":=h_.2.2.2.2.2.2.1
theorem CIt.fresh:∀ b∈wr,hb.get? b=none:=h_.2.2.2.2.2.2.2.1
theorem CIt.self:∀ {i:Nat} {s:Shared} {E:Value→Shared→Prop} {Q:Value→Shared→Prop},At i s.heap→Q it s→wpAny (model c.prog c.w) F.A (pyIter it) Q E s:=h_.2.2.2.2.2.2.2.2
end
theorem CIt.mk' {c:Cx} {F:Fm} {σ:St} {hb:Heap} {fl:Bool} {items:List D} {it:Value} {wr:List Addr} {At:Nat→Heap→Prop} {Md:Nat→Value→Heap→Prop} {target:Expr} (next:∀ {i:Nat} {s:Shared} {E:Value→Shared→Prop} {Q:Option Value→Shared→Prop} {d:D},Inv c F σ s→At i s.heap→items[i]?=some d→
  (∀ v h' t,Rep h' v d→Md (i+1) v h'→(∀ b o,b∉wr→s.heap.get? b=some o→h'.get? b=some o)→Q (some v) { s with heap:=h',toks:=t })→wpAny (model c.prog c.w) F.A (pyNext it) Q E s) (last:∀ {i:Nat} {s:Shared} {E:Value→Shared→Prop} {Q:Option Value→Shared→Prop},Inv c F σ s→At i s.heap→i=items.length→
  (∀ h' t,(∀ b o,b∉wr→s.heap.get? b=some o→h'.get? b=some o)→Q none { s with heap:=h',toks:=t })→wpAny (model c.prog c.w) F.A (pyNext it) Q E s) (goes:∀ {i:Nat} {s:Shared} {E:Value→Shared→Prop} {Q:Unit→Shared→Prop} {v:Value},Md i v s.heap→
  (∀ h',At i h'→(∀ b o,b∉wr→s.heap.get? b=some o→h'.get? b=some o)→(∀ u d,Rep s.heap u d→Rep h' u d)→Q () { s with heap:=h' })→wpAny (model c.prog c.w) F.A (letOwnedTupleGo target it v) Q E s) (keep:∀ {i:Nat} {h h':Heap},At i h→Grow h h'→At i h') (safe:∀ {i:Nat} {h h':Heap} {v:Value} {d:D},At i h→(∀ b o,b∉wr→h.get? b=some o→h'.get? b=some o)→(fl=true→flatD d=true)→Rep h v d→Rep h' v d) (kinds:∀ {i:Nat} {h:Heap},At i h→∀ b∈wr,∃ o,h.get? b=some o∧noDict o∧∀ ws m,o.data=.seq ws m→o.cls≠.type "list") (kindsM:∀ {i:Nat} {v:Value} {h:Heap},Md i v h→∀ b∈wr,∃ o,h.get? b=some o∧noDict o∧∀ ws m,o.data=.seq ws m→o.cls≠.type "list") (fresh:∀ b∈wr,hb.get? b=none) (self:∀ {i:Nat} {s:Shared} {E:Value→Shared→Prop} {Q:Value→Shared→Prop},At i s.heap→Q it s→wpAny (model c.prog c.w) F.A (pyIter it) Q E s):CIt c F σ hb fl items it wr At Md target:=⟨next,last,goes,keep,safe,kinds,kindsM,fresh,self⟩
theorem reps_safe {h h':Heap} {fl:Bool} (f:∀ {v:Value} {d:D},(fl=true→flatD d=true)→Rep h v d→Rep h' v d) {vs:List Value} {ds:List D} (k:fl=true→ds.all flatD=true) (r:Reps h vs ds):Reps h' vs ds :=
 Reps.ind (P:=fun vs ds=>(fl=true→ds.all flatD=true)→Reps h' vs ds) (fun _=>.nil) (fun x _ z k=>.cons (f (fun q=>(and2 (k q)).1) x) (z fun q=>(and2 (k q)).2)) r k
section
variable {prog:Program} {w:World} {A:Around} {s:Shared} {R:Result→Shared→Prop}
theorem comp_loop {elt target iter:Expr} {scope:Scope} {pos:Pos} {it acc:Value} {env:Env} (I:Nat→Shared→Prop)
  (turn:∀ n s,I n s→wpAny (model prog w) A (pyNext it) (fun r s₁=>match r with
   | none=>R (.ok .next) s₁
   | some v=>wpAny (model prog w) A (letOwnedTupleGo target it v) (fun _ s₁=>wpAny (model prog w) A (assign target env v) (fun _ s₂=>wpAny (model prog w) A (eval elt env) (fun x s₃ =>
     wpAny (model prog w) A (call (.builtin "list.append") [acc,x]) (fun _ s₄=>∃ m,m<n∧I m s₄) (fun _ _=>False) s₃) (fun _ _=>False) s₂) (fun _ _=>False) s₁) (fun _ _=>False) s₁) (fun _ _=>False) s)
  (n:Nat) (h:I n s):codeAny (model prog w) A (.compLoop (.ListComp elt [⟨target,iter,[],0⟩] scope pos) 0 it acc env) R s:=by
 refine codeAny_loop rfl I (fun n s hI=>?_) n h
 show wpAny _ _ ((compTurn (.ListComp elt [⟨target,iter,[],0⟩] scope pos) 0 it acc env).onRaise (fun x=>do noteFrame x env; theTreesLotGoes x)) _ _ s
 refine wpAny_noted ?_
 rw [compTurn_list1]
 refine wpAny_bind (wpAny_standAt (wpAny_bind (wpAny_mono (turn n s hI) (fun r s₁ h₁=>?_) fun _ _ h'=>h'.elim)))
 cases r with
 | none=>exact wpAny_pure h₁
 | some v =>
  exact wpAny_bind (wpAny_mono h₁ (fun _ s₁ h₁=>wpAny_bind (wpAny_mono h₁ (fun _ s₂ h₂=>wpAny_bind (wpAny_bind (wpAny_mono h₂ (fun x s₃ h₃=>wpAny_bind (wpAny_mono h₃
   (fun _ s₄ h₄=>wpAny_pure (wpAny_pure ⟨rfl,h₄⟩)) fun _ _ h'=>h'.elim)) fun _ _ h'=>h'.elim))) fun _ _ h'=>h'.elim)) fun _ _ h'=>h'.elim)
end
theorem setAll_sto (σ:St):∀ (xs:List Nat) (ds:List D),(setAll σ xs ds).sto=σ.sto
 | [],_=>rfl
 | _ :: _,[]=>rfl
 | x :: xs,d :: ds=>setAll_sto (σ.set x d) xs ds
theorem setAll_off:∀ (xs:List Nat) (ds:List D) (σ:St) (i:Nat),i∉xs→(setAll σ xs ds).loc i=σ.loc i
 | [],_,_,_,_=>rfl
 | _ :: _,[],_,_,_=>rfl
 | x :: xs,d :: ds,σ,i,h=>(setAll_off xs ds (σ.set x d) i fun m=>h (.tail _ m)).trans (if_neg fun (z:i=x)=>h (by rw [z]; exact .head _))
theorem setAll_loc {σ σ':St}:∀ (xs:List Nat) (ds:List D),∀ i,(i∉xs→σ.loc i=σ'.loc i)→(setAll σ xs ds).loc i=(setAll σ' xs ds).loc i∨(ds.length<xs.length)
 | [],_,i,h=>.inl (h (by simp))
 | x :: xs,[],i,h=>.inr (by simp)
 | x :: xs,d :: ds,i,h=>by
  rcases setAll_loc (σ:=σ.set x d) (σ':=σ'.set x d) xs ds i (fun hi=>by
   by_cases z:i=x
   ·simp [St.set,z]
   ·simp only [St.set,if_neg z]; exact h (fun m=>(List.mem_cons.mp m).elim z hi)) with e | e
  ·exact .inl e
  ·exact .inr (by simpa using e)
end Mine
namespace Mine
open PySem PySem.SeqAt
section
variable {c:Cx} {F:Fm} {env:Env} {V:Vw} {n:Nat} {σ:St} {sb s:Shared}
noncomputable def compLoc (is:List Nat) (f:Nat→Str) (C:Addr) (o:Nat→Option Loc) (i:Nat):Option Loc:=if is.contains i then some (.ns C (f i)) else o i
theorem compLoc_neg {is:List Nat} {f:Nat→Str} {C:Addr} {o:Nat→Option Loc} {i:Nat} (h:is.contains i=false):compLoc is f C o i=o i:=if_neg (by rw [h]; exact Bool.false_ne_true)
noncomputable def Fm.bnd (F:Fm) (hb:Heap) (is:List Nat) (f:Nat→Str) (C:Addr):Fm:={ F with hE:=hb,fs:=F.fs1,loc:=compLoc is f C fun _=>none }
noncomputable def Fm.elt (F:Fm) (hb:Heap) (is:List Nat) (f:Nat→Str) (C:Addr):Fm:={ F with hE:=hb,fs:=F.fs1,loc:=compLoc is f C F.loc }
theorem bnd_pos {is:List Nat} {f:Nat→Str} {C:Addr} {hb:Heap} {i:Nat} (h:is.contains i=true):(F.bnd hb is f C).loc i=some (.ns C (f i)):=if_pos h
theorem bnd_neg {is:List Nat} {f:Nat→Str} {C:Addr} {hb:Heap} {i:Nat} (h:is.contains i=false):(F.bnd hb is f C).loc i=none:=compLoc_neg (o:=fun _=>none) h
theorem elt_pos {is:List Nat} {f:Nat→Str} {C:Addr} {hb:Heap} {i:Nat} (h:is.contains i=true):(F.elt hb is f C).loc i=some (.ns C (f i)):=if_pos h
theorem elt_neg {is:List Nat} {f:Nat→Str} {C:Addr} {hb:Heap} {i:Nat} (h:is.contains i=false):(F.elt hb is f C).loc i=F.loc i:=compLoc_neg (o:=F.loc) h
theorem FmOK.turn {l:Nat→Option Loc} {hb:Heap} (FO:FmOK c n true F) (h:c.B.StaysIn hb):FmOK c n true { F with hE:=hb,fs:=F.fs1,loc:=l } :=
 ⟨FO.frames,FO.handled,FO.depth,FO.units,FO.globals,FO.builtins,FO.gen,FO.co,h,fun _ _ _ m=>m,FO.tab⟩
theorem bnd_w {is:List Nat} {f:Nat→Str} {C:Addr} {hb:Heap} (hC:hb.get? C=none) (ha:∀ i∈is,∀ j∈is,f i=f j→i=j):FmW (F.bnd hb is f C):=FmW.mk'
 (fresh:=fun i l e=>by
  cases h:is.contains i with
  | true=>rw [bnd_pos h] at e; cases e; exact hC
  | false=>rw [bnd_neg h] at e; cases e)
 (apart:=fun i j l e e'=>by
  cases h:is.contains i with
  | false=>rw [bnd_neg h] at e; cases e
  | true =>
   rw [bnd_pos h] at e; cases e
   cases h':is.contains j with
   | false=>rw [bnd_neg h'] at e'; cases e'
   | true =>
    rw [bnd_pos h'] at e'
    injection e' with e'; injection e' with _ e'
    exact ha i (by simpa using h) j (by simpa using h') e'.symm)
noncomputable def st0:St:=⟨fun _=>none,fun _=>none⟩
theorem bnd_inv (FO:FmOK c n true F) (I:Inv c F σ sb) (hs:SameSh sb s) (k:Kept F.fs1 sb.heap s.heap) {is:List Nat} {f:Nat→Str} {C L:Addr} {vs:List Value} {ds:List D} (hC:∃ m,s.heap.Ns C m) (hL:s.heap.PlainList L vs.toArray) (nL:sb.heap.get? L=none) (r:Reps s.heap vs ds) :
  Inv c (F.bnd sb.heap is f C) (st0.put L (.list true ds)) s:=Inv.mk'
 (same:=(I.after FO k hs).same)
 (base:=(I.after FO k hs).base)
 (kept:=k)
 (frames:=(I.after FO k hs).frames)
 (vars:=fun i d e=>by cases e)
 (places:=fun i l e=>by
  cases h:is.contains i with
  | true=>rw [bnd_pos h] at e; cases e; exact hC
  | false=>rw [bnd_neg h] at e; cases e)
 (sto:=fun b k' e=>by
  by_cases z:b=L
  ·subst z
   have e':some (Cell.list true ds)=some k':=by simpa [St.put,Sto.put] using e
   cases e'
   exact ⟨vs,hL.isList,fun _=>⟨hL,nL⟩,r⟩
  ·have e':(none:Option Cell)=some k':=by simp [St.put,Sto.put,z,st0] at e
   cases e')
 (dap:=dap_list fun b ps e=>by cases e)
theorem setAll_ro:∀ (xs:List Nat) (ds:List D) (σ:St),setAll σ.ro xs ds=(setAll σ xs ds).ro
 | [],_,_=>rfl
 | _ :: _,[],_=>rfl
 | x :: xs,d :: ds,σ=>setAll_ro xs ds (σ.set x d)
theorem elt_inv (FO:FmOK c n true F) (I:Inv c F σ sb) {s₃:Shared} (hs:SameSh sb s₃) (k:Kept F.fs1 sb.heap s₃.heap) {is:List Nat} {f:Nat→Str} {C:Addr} {τ:St} {ds:List D} (J:Inv c (F.bnd sb.heap is f C) (setAll τ is ds) s₃) (hl:ds.length=is.length) (hU:∀ i∈is,F.loc i=none) :
  Inv c (F.elt s₃.heap is f C) (setAll σ is ds).ro s₃:=Inv.mk'
 (same:=J.same)
 (base:=J.base)
 (kept:=Kept.refl _ _)
 (frames:=J.frames)
 (vars:=fun i d e=>by
  have e:(setAll σ is ds).loc i=some d:=e
  have I₃:=I.after FO k hs
  cases h:is.contains i with
  | true =>
   have hi:i∈is:=by simpa using h
   rcases setAll_loc (σ:=σ) (σ':=τ) is ds i (fun m=>absurd hi m) with z | z
   ·rw [z] at e
    obtain ⟨l,v,e1,e2,e3⟩:=J.vars i d e
    refine ⟨l,v,?_,e2,e3⟩
    rw [bnd_pos h] at e1
    exact (elt_pos h).trans e1
   ·omega
  | false =>
   have hi:i∉is:=fun m=>by rw [List.contains_iff_mem.mpr m] at h; cases h
   obtain ⟨l,v,e1,e2,e3⟩:=I₃.vars i d ((setAll_off is ds σ i hi).symm.trans e)
   exact ⟨l,v,(elt_neg h).trans e1,e2,e3⟩)
 (places:=fun i l e=>by
  have I₃:=I.after FO k hs
  cases h:is.contains i with
  | true =>
   rw [elt_pos h] at e
   cases e
   exact J.places i _ (bnd_pos h)
  | false=>rw [elt_neg h] at e; exact I₃.places i l e)
 (sto:=fun a k' e=>by
  have I₃:=I.after FO k hs
  have e':Sto.ro (setAll σ is ds).sto a=some k':=e
  rw [setAll_sto] at e'
  obtain ⟨k₀,h1,h2⟩:=ro_some e'
  exact Cell.ro_ok (I₃.sto a k₀ h1) h2)
 (dap:=fun a ps e=>(ro_nodict (τ:=(setAll σ is ds).sto) e).elim)
theorem bind_other {one:Bool} {is:List Nat} {d:D} {K:St→Prop} {τ:St} {m:Nat} (w:bindT one is d K σ) (hm:is.length=m):bindT one is d (fun σ₂=>∃ es,es.length=m∧σ₂=setAll τ is es∧K (setAll σ is es)) τ:=by
 subst hm
 cases one with
 | true =>
  match is,w with
  | [x],w=>exact ⟨[d],rfl,rfl,w⟩
  | [],w=>exact (show False from w).elim
  | _ :: _ :: _,w=>exact (show False from w).elim
 | false =>
  obtain ⟨ds,rfl,hl,w⟩:=w
  exact ⟨ds,rfl,hl,ds,hl,rfl,w⟩
theorem bnd_ns {s':Shared} {is:List Nat} {f:Nat→Str} {C:Addr} {hb:Heap} {τ:St} (J:Inv c (F.bnd hb is f C) τ s') (h0:is≠[]):∃ m,s'.heap.Ns C m:=by
 cases is with
 | nil=>exact absurd rfl h0
 | cons i is=>exact J.places i _ (bnd_pos (by simp))
end
end Mine
namespace Mine
open PySem PySem.SeqAt
noncomputable def CompOK (V V':Vw) (sc:Scope) (is:List Nat):Prop :=
 (sc.kind=.function)∧
 (∀ p∈sc.names,p.2≠.cell)∧
 (∀ p∈sc.names,p.2=.local→sc.names.lookup p.1=some .local)∧
 (∀ p∈sc.names,p.2=.free→V.K p.1=some .cell)∧
 (∀ i∈is,V'.K (V'.nL i)=some .local)∧
 (∀ i∈is,V.us i=false)∧
 (∀ i∈is,∀ j∈is,V'.nL i=V'.nL j→i=j)∧
 (is≠[])
section
variable {V V':Vw} {sc:Scope} {is:List Nat} (h_:CompOK V V' sc is)
include h_
theorem CompOK.kind:sc.kind=.function:=h_.1
theorem CompOK.cell:∀ p∈sc.names,p.2≠.cell:=h_.2.1
theorem CompOK.names:∀ p∈sc.names,p.2=.local→sc.names.lookup p.1=some .local:=h_.2.2.1
theorem CompOK.free:∀ p∈sc.names,p.2=.free→V.K p.1=some .cell:=h_.2.2.2.1
theorem CompOK.loc:∀ i∈is,V'.K (V'.nL i)=some .local:=h_.2.2.2.2.1
theorem CompOK.us:∀ i∈is,V.us i=false:=h_.2.2.2.2.2.1
theorem CompOK.ap:∀ i∈is,∀ j∈is,V'.nL i=V'.nL j→i=j:=h_.2.2.2.2.2.2.1
theorem CompOK.ne:is≠[]:=h_.2.2.2.2.2.2.2
end
theorem CompOK.mk' {V V':Vw} {sc:Scope} {is:List Nat} (kind:sc.kind=.function) (cell:∀ p∈sc.names,p.2≠.cell) (names:∀ p∈sc.names,p.2=.local→sc.names.lookup p.1=some .local) (free:∀ p∈sc.names,p.2=.free→V.K p.1=some .cell) (loc:∀ i∈is,V'.K (V'.nL i)=some .local) (us:∀ i∈is,V.us i=false) (ap:∀ i∈is,∀ j∈is,V'.nL i=V'.nL j→i=j) (ne:is≠[]):CompOK V V' sc is:=⟨kind,cell,names,free,loc,us,ap,ne⟩
theorem or_not {a b:Bool} (h:(!a || b)=true) (x:a=true):b=true:=by subst x; exact h
theorem compOK_of {V V':Vw} {xs:List (Nat×Str)} {sc:Scope} {is:List Nat} (h:okComp V xs sc is V'=true):CompOK V V' sc is:=by
 obtain ⟨h,h4⟩:=and2 h
 obtain ⟨h,h3⟩:=and2 h
 obtain ⟨h1,h2⟩:=and2 h
 obtain ⟨h0,h1⟩:=and2 h1
 have h1:=List.all_eq_true.mp h1
 have h2:=List.all_eq_true.mp h2
 have h3:=List.all_eq_true.mp h3
 exact CompOK.mk'
  (kind:=beq_iff_eq.mp h0)
  (cell:=fun p hp z=>by
   have:=(and2 (and2 (h1 p hp)).1).1
   rw [z] at this; cases this)
  (names:=fun p hp z=>beq_iff_eq.mp (or_not (and2 (and2 (h1 p hp)).1).2 (beq_iff_eq.mpr z)))
  (free:=fun p hp z=>beq_iff_eq.mp (or_not (and2 (h1 p hp)).2 (beq_iff_eq.mpr z)))
  (loc:=fun i hi=>beq_iff_eq.mp (and2 (h2 i hi)).1)
  (us:=fun i hi=>beq_iff_eq.mp (and2 (h2 i hi)).2)
  (ap:=fun i hi j hj e=>beq_iff_eq.mp (or_not (List.all_eq_true.mp (h3 i hi) j hj) (beq_iff_eq.mpr e)))
  (ne:=fun z=>by subst z; cases h4)
section
variable {c:Cx} {F:Fm} {env:Env} {V:Vw} {n:Nat} {σ:St} {xs:List (Nat×Str)} {sc:Scope}
theorem comp_kinds (R:Run c F env V n true) (x:Str) (cl:List (Str×Addr)) (C:Addr):(compEnvC sc cl C env).kindOf x=(V.comp xs sc).K x:=by
 show (sc.names.map fun (n,k)=>if (k==.free&&env.scope.kind==.function&&env.kindOf n==some .cell) then (n,NameKind.cell) else (n,k)).lookup x=(sc.names.map fun (n,k)=>if (k==.free&&V.K n==some .cell) then (n,NameKind.cell) else (n,k)).lookup x
 congr 1
 refine List.map_congr_left fun p _=>?_
 obtain ⟨m,k⟩:=p
 show (if (k==.free&&env.scope.kind==.function&&env.kindOf m==some .cell)=true then (m,NameKind.cell) else (m,k))=if (k==.free&&V.K m==some .cell)=true then (m,NameKind.cell) else (m,k)
 rw [R.O.kind,R.O.kinds m,show (ScopeKind.function==ScopeKind.function)=true from rfl,Bool.and_true]
theorem bnd_env (R:Run c F env V n true) (H:CompOK V (V.comp xs sc) sc (xs.map (·.1))) (hb:Heap) (C:Addr) :
  EnvOK (F.bnd hb (xs.map (·.1)) (V.comp xs sc).nL C) (compEnvC sc (clo env sc.names []) C env) (V.comp xs sc).K (fun i=>if (xs.map (·.1)).contains i then some ((V.comp xs sc).nL i) else none):=EnvOK.mk'
 (kind:=H.kind)
 (globals:=R.O.globals)
 (builtins:=R.O.builtins)
 (kinds:=fun x=>comp_kinds R x _ _)
 (res:=fun i x hx=>by
  cases h:(xs.map (·.1)).contains i with
  | false=>rw [h] at hx; cases hx
  | true =>
   rw [h] at hx; cases hx
   exact .inl ⟨(comp_kinds R _ _ _).trans (H.loc i (List.contains_iff_mem.mp h)),bnd_pos h⟩)
 (cells:=fun x hx=>by
  obtain ⟨h1,h2⟩:=relK_cell H.cell hx
  obtain ⟨a,ha⟩:=R.O.cells x h2
  exact ⟨a,clo_at ha _ _ (.inl h1)⟩)
theorem elt_env (R:Run c F env V n true) (H:CompOK V (V.comp xs sc) sc (xs.map (·.1))) (hb:Heap) (C:Addr) :
  EnvOK (F.elt hb (xs.map (·.1)) (V.comp xs sc).nL C) (compEnvC sc (clo env sc.names []) C env) (V.comp xs sc).K (V.comp xs sc).ns:=EnvOK.mk'
 (kind:=H.kind)
 (globals:=R.O.globals)
 (builtins:=R.O.builtins)
 (kinds:=fun x=>comp_kinds R x _ _)
 (res:=fun i x hx=>by
  have hx:(if (xs.map (·.1)).contains i then some ((V.comp xs sc).nL i) else match V.ns i with
   | some x=>if relK V.K sc.names x==some .cell then some x else none
   | none=>none)=some x:=hx
  cases h:(xs.map (·.1)).contains i with
  | true =>
   rw [h] at hx; cases hx
   exact .inl ⟨(comp_kinds R _ _ _).trans (H.loc i (List.contains_iff_mem.mp h)),elt_pos h⟩
  | false =>
   rw [h,if_neg Bool.false_ne_true] at hx
   cases hv:V.ns i with
   | none=>rw [hv] at hx; cases hx
   | some y =>
    rw [hv] at hx
    have hx:(if (relK V.K sc.names y==some .cell)=true then some y else none)=some x:=hx
    by_cases hr:(relK V.K sc.names y==some .cell)=true
    ·rw [if_pos hr] at hx; cases hx
     obtain ⟨h1,h2⟩:=relK_cell H.cell (beq_iff_eq.mp hr)
     rcases R.O.res i x hv with ⟨k1,_⟩ | ⟨k1,a,k2,k3⟩
     ·rw [R.O.kinds,h2] at k1; cases k1
     ·exact .inr ⟨(comp_kinds (xs:=xs) R _ _ _).trans (beq_iff_eq.mp hr),a,clo_at k2 _ _ (.inl h1),(elt_neg h).trans k3⟩
    ·rw [if_neg hr] at hx; cases hx)
 (cells:=fun x hx=>by
  obtain ⟨h1,h2⟩:=relK_cell H.cell hx
  obtain ⟨a,ha⟩:=R.O.cells x h2
  exact ⟨a,clo_at ha _ _ (.inl h1)⟩)
theorem elt_run (R:Run c F env V n true) (H:CompOK V (V.comp xs sc) sc (xs.map (·.1))) {hb:Heap} (hB:c.B.StaysIn hb) (C:Addr) :
  Run c (F.elt hb (xs.map (·.1)) (V.comp xs sc).nL C) (compEnvC sc (clo env sc.names []) C env) (V.comp xs sc) n true :=
 ⟨R.CO,R.EO,R.FO.turn hB,elt_env R H hb C,fun i hi=>by
  have hi:(V.us i || (xs.map (·.1)).contains i)=false:=hi
  rw [Bool.or_eq_false_iff] at hi
  exact (elt_neg hi.2).trans (R.U i hi.1)⟩
theorem kept_wr {fs wr:List Addr} {hb h h':Heap} (x:Kept fs hb h) (fr:∀ b∈wr,hb.get? b=none) (k:∀ b o,b∉wr→h.get? b=some o→h'.get? b=some o):Kept fs hb h':=fun b o e=>by
 obtain ⟨sl,e1,q⟩:=x b o e
 exact ⟨sl,k b _ (fun m=>by rw [fr b m] at e; cases e) e1,q⟩
theorem ns_off {wr:List Addr} {h:Heap} {C:Addr} (hC:∃ m,h.Ns C m) (kd:∀ b∈wr,∃ o,h.get? b=some o∧noDict o∧∀ ws m,o.data=.seq ws m→o.cls≠.type "list"):C∉wr:=fun m=>by
 obtain ⟨_,o,es,ep,ho,hd,_⟩:=hC
 obtain ⟨o',h1,h2,_⟩:=kd C m
 rw [ho] at h1; cases h1
 exact h2 _ _ hd
theorem ns_at {h h':Heap} {C:Addr} (hC:∃ m,h.Ns C m) (k:∀ o,h.get? C=some o→h'.get? C=some o):∃ m,h'.Ns C m:=by
 obtain ⟨m,hn⟩:=hC
 exact ⟨m,hn.at' k⟩
theorem lst_off {wr:List Addr} {h:Heap} {L:Addr} {ws:Array Value} (hL:h.PlainList L ws) (kd:∀ b∈wr,∃ o,h.get? b=some o∧noDict o∧∀ ws m,o.data=.seq ws m→o.cls≠.type "list"):L∉wr:=fun m=>by
 obtain ⟨_,ho⟩:=hL
 obtain ⟨o',h1,_,h3⟩:=kd L m
 rw [ho] at h1; cases h1
 exact h3 _ _ rfl rfl
theorem plain_kept {fs:List Addr} {h h':Heap} {L:Addr} {ws:Array Value} (k:Kept fs h h') (hL:h.PlainList L ws):h'.PlainList L ws:=by
 obtain ⟨m,ho⟩:=hL
 exact ⟨m,k.exact ho (.inr fun es n q=>by cases q)⟩
theorem grow_but {h h':Heap} {L:Addr} {ws:Array Value} (hL:h.PlainList L ws) (k:∀ b o,b≠L→h.get? b=some o→h'.get? b=some o):Grow h h':=fun b o e st=>k b o (fun z=>by
 subst z
 obtain ⟨m,ho⟩:=hL
 rw [e] at ho; cases ho
 rcases st with ⟨_,_,hc,_⟩ | ⟨_,hd⟩
 ·exact absurd hc (by simp)
 ·cases hd) e
theorem s_turns (R:Run c F env V n true) (H:CompOK V (V.comp xs sc) sc (xs.map (·.1))) {elt:(D→St→Prop)→St→Prop} {P:D→Prop} {fl:Bool} (hP:∀ r,fl=true→P r→flatD r=true) {eltx itx y:Expr} {pos:Pos}
  (eltS:∀ {F':Fm} {env':Env},Run c F' env' (V.comp xs sc) n true→∀ {K:D→St→Prop} {σ:St} {s:Shared},Inv c F' σ s→elt K σ→wpAny (model c.prog c.w) F'.A (eval eltx env') (Post c F' s.heap K) (Exc c F' s.heap noX) s)
  {sb s:Shared} {items:List D} {it:Value} {wr:List Addr} {At:Nat→Heap→Prop} {Md:Nat→Value→Heap→Prop} {C L:Addr} {Rr:Result→Shared→Prop} {Kf:List D→Prop}
  (I:Inv c F σ sb) (W:CIt c F σ sb.heap fl items it wr At Md (tgt (xs.length==1) ((xs.map (·.1)).map (V.comp xs sc).nL) y)) (nC:sb.heap.get? C=none) (nL:sb.heap.get? L=none) (hCL:C≠L) (hl:items.length≤lim)
  (hs:SameSh sb s) (k:Kept F.fs1 sb.heap s.heap) (hat:At 0 s.heap) (hC:∃ m,s.heap.Ns C m) (hL:s.heap.PlainList L #[]) (w:compL (turnW xs elt P σ) items [] Kf)
  (done:∀ s' ds vs,SameSh sb s'→Kept F.fs1 sb.heap s'.heap→(∃ m,s'.heap.Ns C m)→s'.heap.PlainList L (List.toArray vs)→Reps s'.heap vs ds→Kf ds→Rr (.ok .next) s') :
  codeAny (model c.prog c.w) F.A (.compLoop (.ListComp eltx [⟨tgt (xs.length==1) ((xs.map (·.1)).map (V.comp xs sc).nL) y,itx,[],0⟩] sc pos) 0 it (.ref L) (compEnvC sc (clo env sc.names []) C env)) Rr s:=by
 have hb:c.B.StaysIn sb.heap:=I.base
 refine comp_loop (fun m s₁=>∃ i ds vs,i≤items.length∧m=items.length - i∧SameSh sb s₁∧Kept F.fs1 sb.heap s₁.heap∧At i s₁.heap∧(∃ m,s₁.heap.Ns C m)∧s₁.heap.PlainList L (List.toArray vs)∧Reps s₁.heap vs ds∧(fl=true→ds.all flatD=true)∧ds.length=i∧compL (turnW xs elt P σ) (items.drop i) ds Kf) (fun m s₁ hI=>?_) items.length
  ⟨0,[],[],Nat.zero_le _,rfl,hs,k,hat,hC,hL,.nil,fun _=>rfl,rfl,by rw [List.drop_zero]; exact w⟩
 obtain ⟨i,ds,vs,hi,rfl,hs₁,k₁,hat₁,hC₁,hL₁,r₁,fl₁,hlen,w₁⟩:=hI
 have I₁:Inv c F σ s₁:=I.after R.FO k₁ hs₁
 rcases Nat.lt_or_eq_of_le hi with hlt | rfl
 ·rw [List.drop_eq_getElem_cons hlt] at w₁
  have w₁:bindT (xs.length==1) (xs.map (·.1)) items[i] (fun σ₂=>elt (fun r _=>P r∧compL (turnW xs elt P σ) (items.drop (i+1)) (ds ++ [r]) Kf) σ₂) σ.ro:=w₁
  refine W.next I₁ hat₁ (List.getElem?_eq_getElem hlt) fun v h₂ t rv md k₂=>?_
  have kd:=W.kinds hat₁
  have hC₂:=ns_at hC₁ (h':=h₂) fun o e=>k₂ C o (ns_off hC₁ kd) e
  have hL₂:h₂.PlainList L (List.toArray vs):=hL₁.at fun o e=>k₂ L o (lst_off hL₁ kd) e
  have r₂:Reps h₂ vs ds:=reps_safe (fl:=fl) (fun q r=>W.safe hat₁ k₂ q r) fl₁ r₁
  refine W.goes md fun h₃ hat₃ k₃ rr₃=>?_
  have kd₃:=W.kindsM md
  have hC₃:=ns_at hC₂ (h':=h₃) fun o e=>k₃ C o (ns_off hC₂ kd₃) e
  have hL₃:h₃.PlainList L (List.toArray vs):=hL₂.at fun o e=>k₃ L o (lst_off hL₂ kd₃) e
  have r₃:Reps h₃ vs ds:=reps_safe (fl:=false) (fun _ r=>rr₃ _ _ r) (fun z=>by cases z) r₂
  have kk₃:Kept F.fs1 sb.heap h₃:=kept_wr (kept_wr k₁ W.fresh k₂) W.fresh k₃
  have hs₃:SameSh sb { s₁ with heap:=h₃,toks:=t }:=hs₁.trans ⟨h₃,t,rfl⟩
  have J:=bnd_inv (s:={ s₁ with heap:=h₃,toks:=t }) (is:=xs.map (·.1)) (f:=(V.comp xs sc).nL) R.FO I hs₃ kk₃ hC₃ hL₃ nL r₃
  have FOb:FmOK c n true (F.bnd sb.heap (xs.map (·.1)) (V.comp xs sc).nL C):=R.FO.turn hb
  have w₁':bindT (xs.length==1) (xs.map (·.1)) items[i] (fun σ₂=>∃ es,es.length=xs.length∧σ₂=setAll (st0.put L (.list true ds)) (xs.map (·.1)) es∧elt (fun r _=>P r∧compL (turnW xs elt P σ) (items.drop (i+1)) (ds ++ [r]) Kf) (setAll σ.ro (xs.map (·.1)) es)) (st0.put L (.list true ds)):=bind_other w₁ (List.length_map ..)
  refine s_bind (K':=fun σ₂=>∃ es,es.length=xs.length∧σ₂=setAll (st0.put L (.list true ds)) (xs.map (·.1)) es∧elt (fun r _=>P r∧compL (turnW xs elt P σ) (items.drop (i+1)) (ds ++ [r]) Kf) (setAll σ.ro (xs.map (·.1)) es)) FOb (bnd_w nC H.ap) (bnd_env R H sb.heap C) (fun j hj=>if_pos (List.contains_iff_mem.mpr hj)) (rr₃ _ _ rv) J w₁' fun s₄ es' hs₄ g₄ J₄ w₄=>?_
  obtain ⟨es,hes,eq,w₄⟩:=w₄
  rw [eq] at J₄
  have hs₄':SameSh sb s₄:=hs₃.trans hs₄
  have k₄:Kept F.fs1 sb.heap s₄.heap:=J₄.kept
  have I₄:=elt_inv R.FO I hs₄' k₄ J₄ (by rw [hes,List.length_map]) fun j hj=>R.U j (H.us j hj)
  rw [setAll_ro] at w₄
  have p₄:=J₄.sto L (.list true ds) (by rw [setAll_sto]; simp [St.put,Sto.put])
  obtain ⟨vs₄,_,o₄,r₄⟩:=p₄
  have hL₄:=(o₄ rfl).1
  have hC₄:∃ m,s₄.heap.Ns C m:=bnd_ns J₄ H.ne
  refine wpAny_mono (eltS (elt_run R H I₄.base C) I₄ w₄) (fun x s₅ p₅=>?_) fun _ _ y=>(exc_noX y).elim
  obtain ⟨r,σ₅,g₅,I₅,rx,hPr,w₅⟩:=p₅
  have k₅:Kept F.fs1 s₄.heap s₅.heap:=I₅.kept
  have hs₅:SameSh sb s₅:=hs₄'.trans (J₄.same.two I₅.same)
  have hL₅:=plain_kept k₅ hL₄
  have hl₄:vs₄.length=i:=by rw [r₄.length,hlen]
  unfold lim at hl
  refine wpAny_list_append_plain hL₅ (fun h₆ hL₆ hs₆=>?_) (by rw [List.size_toArray,sizeLine_val]; exact lin [_,_,_] [] [.nl (.x 0) (.k 1000000),.nt (.x 1) (.x 0),.ne (.x 2) (.x 1)] [] (.nl (.x 2) (.k 16777216)) (.l 1 [1,1,1]) rfl hl hlt hl₄)
  have g₆:Grow s₅.heap h₆:=grow_but hL₅ fun b o nb e=>hs₆.extBut b o nb e
  refine ⟨items.length - (i+1),by exact o51 hlt,i+1,ds ++ [r],vs₄ ++ [x],hlt,rfl,hs₅.trans ⟨h₆,_,rfl⟩,?_,?_,?_,by simpa using hL₆,((r₄.grow k₅.grow).append (.cons rx .nil)).grow g₆,fun z=>?_,by rw [List.length_append,hlen]; rfl,w₅⟩
  ·exact (k₄.trans k₅).but nL fun b o nb e=>hs₆.extBut b o nb e
  ·exact W.keep (W.keep (W.keep hat₃ g₄) k₅.grow) g₆
  ·obtain ⟨m,hn⟩:=hC₄
   exact ns_at ⟨m,Ns.kept k₅ hn⟩ fun o e=>hs₆.extBut C o hCL e
  ·rw [List.all_append,fl₁ z]
   show (true&&(flatD r&&true))=true
   rw [hP r z hPr]; rfl
 ·rw [List.drop_length] at w₁
  refine W.last I₁ hat₁ rfl fun h₂ t k₂=>?_
  have kd:=W.kinds hat₁
  exact done _ ds vs (hs₁.trans ⟨h₂,t,rfl⟩) (kept_wr k₁ W.fresh k₂) (ns_at hC₁ fun o e=>k₂ C o (ns_off hC₁ kd) e) (hL₁.at fun o e=>k₂ L o (lst_off hL₁ kd) e) (reps_safe (fl:=fl) (fun q r=>W.safe hat₁ k₂ q r) fl₁ r₁) w₁
end
end Mine
namespace Mine
open PySem PySem.SeqAt
theorem rep_fields {h h':Heap} {wr:List Addr} (own:∀ b∈wr,∃ o vs,h.get? b=some o∧o.data=.fields vs∧∀ C,o.cls≠.ref C) (k:∀ b o,b∉wr→h.get? b=some o→h'.get? b=some o) {v:Value} {d:D} (r:Rep h v d):Rep h' v d :=
 Rep.nf (fs:=[]) ⟨fun b o e nf=>⟨o.slots,k b o (fun m=>by
  obtain ⟨o',vs,e1,e2,_⟩:=own b m
  rw [e] at e1; cases e1; exact nf _ e2) e,fun _=>rfl⟩,fun b o C ws e hc _=>k b o (fun m=>by
  obtain ⟨o',vs,e1,_,e3⟩:=own b m
  rw [e] at e1; cases e1; exact e3 C hc) e⟩ r
theorem kinds_fields {h:Heap} {b:Addr} (x:∃ o vs,h.get? b=some o∧o.data=.fields vs∧∀ C,o.cls≠.ref C):∃ o,h.get? b=some o∧noDict o∧∀ ws m,o.data=.seq ws m→o.cls≠.type "list":=by
 obtain ⟨o,vs,e1,e2,_⟩:=x
 exact ⟨o,e1,(fun es n z=>by rw [e2] at z; cases z),(fun ws m z=>by rw [e2] at z; cases z)⟩
section
variable {c:Cx} {F:Fm} {env:Env} {V:Vw} {n:Nat} {σ:St} {xs:List (Nat×Str)} {sc:Scope}
theorem ItOK.cit {items:List D} {g:St→Prop} {it:Value} {wr:List Addr} {At:Nat→Heap→Prop} {hb:Heap} {target:Expr} (W:ItOK c F items g it wr At) (hg:g σ) (fr:∀ b∈wr,hb.get? b=none):CIt c F σ hb false items it wr At (fun i _ h=>At i h) target:=CIt.mk'
 (next:=fun I hat hd hQ=>W.next I hg hat hd hQ)
 (last:=fun I hat hi hQ=>W.last I hg hat hi hQ)
 (goes:=fun md hQ=>W.goes md fun h' hat k=>hQ h' hat k fun u d r=>rep_fields (W.own md) k r)
 (keep:=fun hat g=>W.keep hat g)
 (safe:=fun hat k _ r=>rep_fields (W.own hat) k r)
 (kinds:=fun hat b hb=>kinds_fields (W.own hat b hb))
 (kindsM:=fun hat b hb=>kinds_fields (W.own hat b hb))
 (fresh:=fr)
 (self:=fun hat h=>W.self hat h)
theorem s_comp (R:Run c F env V n true) (H:CompOK V (V.comp xs sc) sc (xs.map (·.1))) {elt:(D→St→Prop)→St→Prop} {P:D→Prop} {fl:Bool} (hP:∀ r,fl=true→P r→flatD r=true) {eltx itx y:Expr} {pos:Pos}
  (eltS:∀ {F':Fm} {env':Env},Run c F' env' (V.comp xs sc) n true→∀ {K:D→St→Prop} {σ:St} {s:Shared},Inv c F' σ s→elt K σ→wpAny (model c.prog c.w) F'.A (eval eltx env') (Post c F' s.heap K) (Exc c F' s.heap noX) s)
  (hfold:∀ v,foldedSetIterable itx env v=pure v) {Q:D→St→Prop} {E:Value→Shared→Prop} {s:Shared} {h₀:Heap}
  (first:wpAny (model c.prog c.w) F.A (eval itx env) (fun v s₁=>wpAny (model c.prog c.w) F.A (pyIter v) (fun it s₂=>∃ items wr At Md sb σ,Grow h₀ sb.heap∧Inv c F σ sb∧SameSh sb s₂∧(∀ b o,sb.heap.get? b=some o→s₂.heap.get? b=some o)∧
   CIt c F σ sb.heap fl items it wr At Md (tgt (xs.length==1) ((xs.map (·.1)).map (V.comp xs sc).nL) y)∧At 0 s₂.heap∧compW xs elt P Q items σ) E s₁) E s) :
  wpAny (model c.prog c.w) F.A (eval (.ListComp eltx [⟨tgt (xs.length==1) ((xs.map (·.1)).map (V.comp xs sc).nL) y,itx,[],0⟩] sc pos) env) (Post c F h₀ Q) E s:=by
 rw [eval_ListComp]
 refine wpAny_comprehension_free (use:=none) (cl:=clo env sc.names []) rfl hfold (closure_eq fun p hp hf=>R.O.cells p.1 (H.free p hp hf)) H.kind H.names (wpAny_mono first (fun xv s₁ h₁=>wpAny_mono h₁ (fun it s₂ h₂=>?_) fun _ _ e=>e) fun _ _ e=>e)
 obtain ⟨items,wr,At,Md,sb,σ,g,I,hs,kb,W,hat,hl,w⟩:=h₂
 refine wpAny_newObj_type (wpAny_newFunctionEnv H.cell (by intro y hy; simp at hy) (fun h₁ hns₁ hsb₁=>?_) H.kind)
 dsimp only at hns₁ hsb₁ ⊢
 generalize hH2:s₂.heap.push { cls:=.type "list",dict:=none,data:=.seq ([]:List Value).toArray }=H2 at hns₁ hsb₁ ⊢
 have hC:H2.objs.size=s₂.heap.objs.size+1:=by rw [← hH2,Heap.size_push]
 have hDC:s₂.heap.objs.size≠H2.objs.size:=by rw [hC]; exact Nat.ne_of_lt (Nat.lt_succ_self _)
 have old:∀ b o,s₂.heap.get? b=some o→h₁.get? b=some o:=fun b o e=>hsb₁.extBut b o (Nat.ne_of_lt (by rw [hC]; exact Nat.lt_succ_of_lt (Heap.lt_size e))) (Heap.get?_push_of_some _ (hH2 ▸ Heap.get?_push_of_some _ e))
 have hacc:h₁.PlainList s₂.heap.objs.size #[]:=⟨_,hsb₁.extBut _ _ hDC (Heap.get?_push_of_some _ (hH2 ▸ Heap.get?_push_size _ rfl))⟩
 have fresh:∀ a,s₂.heap.objs.size≤a→sb.heap.get? a=none:=fun a ha=>by
  cases e:sb.heap.get? a with
  | none=>rfl
  | some o'=>exact absurd (Heap.lt_size (kb a o' e)) (Nat.not_lt.mpr ha)
 have nL:=fresh s₂.heap.objs.size (Nat.le_refl _)
 have nC:=fresh H2.objs.size (by rw [hC]; exact Nat.le_succ _)
 have keep:Grow s₂.heap h₁:=grow_of_keeps old
 have loop:∀ s₃:Shared,s₃={ s₂ with heap:=h₁,toks:=s₂.toks+([]:List (Str×Value)).length }→
   codeAny (model c.prog c.w) F.A (.compLoop (.ListComp eltx [⟨tgt (xs.length==1) ((xs.map (·.1)).map (V.comp xs sc).nL) y,itx,[],0⟩] sc pos) 0 it (.ref s₂.heap.objs.size) (compEnvC sc (clo env sc.names []) H2.objs.size env))
    (compPost (model c.prog c.w) F.A E none (Post c F h₀ Q) (.ref s₂.heap.objs.size) H2.objs.size) s₃:=by
  rintro s₃ rfl
  refine s_turns R H hP eltS I W nC nL hDC.symm hl (hs.trans ⟨h₁,_,rfl⟩) (Kept.of_keeps fun b o e=>old b o (kb b o e)) (W.keep hat keep) ⟨_,hns₁⟩ hacc w fun s' ds vs hs' k' hC' hL' r' w'=>?_
  obtain ⟨m,hn⟩:=hC'
  refine ⟨m,hn,fun h'' hs''=>?_⟩
  have kk:Kept F.fs1 sb.heap h'':=k'.but nC fun b o nb e=>hs''.extBut b o nb e
  have I':=I.after R.FO (s':={ s' with heap:=h'' }) kk (hs'.trans ⟨h'',_,rfl⟩)
  have grow':Grow s'.heap h'':=fun b o e st=>hs''.extBut b o (fun z=>by
   subst z
   obtain ⟨o',es,ep,ho,hd,_⟩:=hn
   rw [e] at ho; cases ho
   rcases st with ⟨_,_,_,st⟩ | ⟨_,st⟩ <;> (rw [hd] at st; cases st)) e
  have hL'':h''.PlainList s₂.heap.objs.size vs.toArray:=hL'.at fun o e=>hs''.extBut _ o hDC e
  refine ⟨.lst s₂.heap.objs.size,σ.put s₂.heap.objs.size (.list true ds),g.trans kk.grow,⟨I'.same,I'.base,I'.kept,I'.frames,I'.vars,I'.places,fun b k₁ e=>?_,dap_list I'.dap⟩,.lst _,w' _ (I.free nL)⟩
  by_cases z:b=s₂.heap.objs.size
  ·subst z
   have e':some (Cell.list true ds)=some k₁:=by simpa [St.put,Sto.put] using e
   cases e'
   exact ⟨vs,hL''.isList,fun _=>⟨hL'',kept_none I.kept nL⟩,r'.grow grow'⟩
  ·exact I'.sto b k₁ (by simpa [St.put,Sto.put,z] using e)
 exact codeAny_compStart_list (loop _ rfl) (W.self (s:={ s₂ with heap:=h₁,toks:=s₂.toks+([]:List (Str×Value)).length }) (W.keep hat keep) (loop _ rfl))
end
end Mine
namespace Mine
open PySem PySem.SeqAt
section
variable {c:Cx} {n:Nat} {q:Bool}
noncomputable def PostC (c:Cx) (F:Fm) (h₀:Heap) (xs:List (Nat×Str)) (elt:(D→St→Prop)→St→Prop) (P:D→Prop) (fl:Bool) (Q:D→St→Prop) (tx:Expr):Value→Shared→Prop:=fun it s₂ =>
 ∃ items wr At Md sb σ,Grow h₀ sb.heap∧Inv c F σ sb∧SameSh sb s₂∧(∀ b o,sb.heap.get? b=some o→s₂.heap.get? b=some o)∧CIt c F σ sb.heap fl items it wr At Md tx∧At 0 s₂.heap∧compW xs elt P Q items σ
theorem postC_of {F:Fm} {h₀:Heap} {xs:List (Nat×Str)} {elt:(D→St→Prop)→St→Prop} {Q:D→St→Prop} {tx:Expr} {it:Value} {s₂:Shared} (h:PostI c F h₀ (fun items g σ=>g σ∧compW xs elt (fun _=>True) Q items σ) it s₂):PostC c F h₀ xs elt (fun _=>True) false Q tx it s₂:=by
 obtain ⟨items,g,σ,wr,At,sb,h1,h2,h3,h4,h5,W,hat,hg,w⟩:=h
 exact ⟨items,wr,At,_,sb,σ,h1,h2,h3,h4,W.cit hg h5,hat,w⟩
theorem items_g {d:D} {K:List D→St→Prop} {σ:St} (h:itemsOf d (fun items _ σ=>K items σ) σ):itemsOf d (fun items g σ=>g σ∧K items σ) σ:=by
 cases d with
 | tup ds=>exact ⟨h.1,trivial,h.2⟩
 | lst a=>obtain ⟨o,ds,h1,h2,h3⟩:=h; exact ⟨o,ds,h1,h2,⟨o,h1⟩,h3⟩
 | _=>exact (show False from h).elim
theorem Blt.called (f:Blt) {M:Model} {A:Around} {E:Value→Shared→Prop} {s:Shared} {Q:Value→Shared→Prop} {p:Pos} {args:List (Bool×Sem Value)} (ha:args.any (·.1)=false) (h:wpAny M A (evalArgs f.val true args []) (fun a s₁=>wpAny M A (call f.val ([] ++ a.pos) a.kw) Q E s₁) E s):wpAny M A (callWith p f.val [] args []) Q E s:=by
 cases f with
 | int=>exact PyProof.Rows.callWith_type ha h
 | list=>exact PyProof.Rows.callWith_type ha h
 | tuple=>exact PyProof.Rows.callWith_type ha h
 | _=>exact Calls.callWith_builtin ha h
mutual
theorem sE:∀ (e:E) (x:Expr) {V:Vw} {q:Bool},ok e V x=true→∀ {F:Fm} {env:Env},Run c F env V n q→∀ {Q:D→St→Prop} {X:Str→St→Prop} {σ:St} {s:Shared},Inv c F σ s→wE c n q e Q X σ→
  wpAny (model c.prog c.w) F.A (eval (like e V x) env) (Post c F s.heap Q) (Exc c F s.heap X) s
 | .cnone,x,V,q,h,F,env,R,Q,X,σ,s,I,w=>wpAny_pure (a:=Value.none) (post_same I .none w)
 | .cbool b,x,V,q,h,F,env,R,Q,X,σ,s,I,w=>wpAny_pure (a:=Value.bool b) (post_same I (.bool b) w)
 | .cint i,x,V,q,h,F,env,R,Q,X,σ,s,I,w=>wpAny_Constant_int (post_tok I (.int i _) w)
 | .cstr y,x,V,q,h,F,env,R,Q,X,σ,s,I,w=>Calls.Constant_str (post_tok I (.str y _) w)
 | .var i,x,V,q,h,F,env,R,Q,X,σ,s,I,w=>by
  obtain ⟨d,e,hq⟩:=w
  exact load_var I R.O (beq_iff_eq.mp (and2 h).1) e ((Bool.not_eq_true' _).mp (and2 h).2) fun v r=>post_same I r hq
 | .glob g,x,V,q,h,F,env,R,Q,X,σ,s,I,w=>by
  obtain ⟨d,e,hq⟩:=w
  obtain ⟨v,e1,r⟩:=R.CO.cs g d e
  exact load_global R.CO R.O I h e1 (post_same I (Rep.grow (grow_of_keeps I.base) r) hq)
 | .bin op a b,x,V,q,h,F,env,R,Q,X,σ,s,I,w=>by
  refine wpAny_BinOp (wpAny_mono (sE a (kid x 0) (and2 h).1 R I w) (fun v s₁ p₁=>?_) fun _ _ y=>y)
  obtain ⟨d₁,σ₁,g₁,I₁,r₁,w₁⟩:=p₁
  refine wpAny_mono (sE b (kid x 1) (and2 h).2 R I₁ w₁) (fun u s₂ p₂=>?_) fun _ _ y=>y.grow g₁
  obtain ⟨d₂,σ₂,g₂,I₂,r₂,w₂⟩:=p₂
  exact wpAny_mono (s_bin I₂ R.FO R.CO (r₁.grow g₂) r₂ w₂) (fun _ _ y=>y.grow (g₁.trans g₂)) fun _ _ y=>y
 | .neg a,x,V,q,h,F,env,R,Q,X,σ,s,I,w=>by
  show wpAny _ _ (eval (.UnaryOp .USub (like a V (kid x 0)) x.pos) env) _ _ s
  rw [arm_eval_UnaryOp]
  refine wpAny_bind (wpAny_mono (sE a (kid x 0) h R I w) (fun v s₁ p₁=>?_) fun _ _ y=>y)
  obtain ⟨d₁,σ₁,g₁,I₁,r₁,w₁⟩:=p₁
  refine wpAny_bind (wpAny_standAt (wpAny_holding ?_))
  cases r₁ with
  | int i t=>exact P.neg_int (Post.grow g₁ (post_tok I₁ (.int _ _) w₁))
  | _=>exact (show False from w₁).elim
 | .not a,x,V,q,h,F,env,R,Q,X,σ,s,I,w=>by
  show wpAny _ _ (eval (.UnaryOp .Not (like a V (kid x 0)) x.pos) env) _ _ s
  rw [arm_eval_UnaryOp]
  refine wpAny_bind (wpAny_mono (sE a (kid x 0) h R I w) (fun v s₁ p₁=>?_) fun _ _ y=>y)
  obtain ⟨d₁,σ₁,g₁,I₁,r₁,w₁⟩:=p₁
  refine wpAny_bind (wpAny_standAt (wpAny_holding ?_))
  unfold unaryOp
  refine wpAny_holding ?_
  show wpAny _ _ (do let b ← truthy v; pure (Value.bool !b)) _ _ s₁
  refine wpAny_bind (wpAny_mono (s_truth (E:=Exc c F s.heap X) I₁ r₁ w₁) (fun b s₂ p₂=>?_) fun _ _ y=>y)
  obtain ⟨σ₂,g₂,I₂,w₂⟩:=p₂
  exact wpAny_pure (Post.grow (g₁.trans g₂) (post_same I₂ (.bool _) w₂))
 | .cmp op a b,x,V,q,h,F,env,R,Q,X,σ,s,I,w=>by
  refine wpAny_Compare1 (wpAny_mono (sE a (kid x 0) (and2 h).1 R I w) (fun v s₁ p₁=>?_) fun _ _ y=>y) (like_noSet b V (kid x 1) op)
  obtain ⟨d₁,σ₁,g₁,I₁,r₁,w₁⟩:=p₁
  refine wpAny_mono (sE b (kid x 1) (and2 h).2 R I₁ w₁) (fun u s₂ p₂=>?_) fun _ _ y=>y.grow g₁
  obtain ⟨d₂,σ₂,g₂,I₂,r₂,w₂⟩:=p₂
  exact wpAny_mono (s_cmp I₂ R.FO (r₁.grow g₂) r₂ w₂) (fun _ _ y=>y.grow (g₁.trans g₂)) fun _ _ y=>y
 | .bool op es,x,V,q,h,F,env,R,Q,X,σ,s,I,w=>by
  show wpAny _ _ (eval (.BoolOp op (likes es V (kids x)) x.pos) env) _ _ s
  rw [arm_eval_BoolOp]
  exact sB op x.pos es (kids x) h R I w
 | .call f es,x,V,q,h,F,env,R,Q,X,σ,s,I,w=>by
  obtain ⟨hq,⟨a,o,fd,e1,e2,e3⟩,w⟩:=w
  subst hq
  show wpAny _ _ (eval (.Call (.Name f (kid x 0).pos) (likes es V (kids x).tail) [] x.pos) env) _ _ s
  rw [eval_Call_Name]
  refine wpAny_bind (load_global R.CO R.O I (and2 h).1 e1 ?_)
  have:=sEs x.pos es (kids x).tail (and2 h).2 R I w
  rw [backTo_plain] at this ⊢
  refine Calls.callWith_function (o:=o) (fd:=fd) ?_
  refine evalArgs_any (any_plain _ env) ?_
  refine wpAny_mono this (fun vs s₁ p₁=>?_) fun _ _ y=>y
  obtain ⟨ds,σ₁,g₁,I₁,r₁,a',o',fd',f1,f2,f3,hC⟩:=p₁
  rw [f1] at e1; cases e1
  rw [f2] at e2; cases e2
  rw [f3] at e3; cases e3
  exact ⟨⟨I₁.base _ _ f2,f3⟩,wpAny_mono (s_call I₁ R.FO r₁ hC) (fun _ _ y=>y.grow g₁) fun _ _ y=>y.grow g₁⟩
 | .blt f es,x,V,q,h,F,env,R,Q,X,σ,s,I,w=>by
  obtain ⟨hq,w⟩:=w
  subst hq
  show wpAny _ _ (eval (.Call (.Name (Str.ofString f.name) (kid x 0).pos) (likes es V (kids x).tail) [] x.pos) env) _ _ s
  rw [eval_Call_Name]
  refine wpAny_bind (load_builtin R.CO R.O I (and2 h).1 (R.CO.free f.name (by cases f <;> decide)) f.boot ?_)
  have:=sEs x.pos es (kids x).tail (and2 h).2 R I w
  rw [backTo_plain] at this ⊢
  have fin:wpAny (model c.prog c.w) F.A (evalArgs f.val true ((likes es V (kids x).tail).map fun x=>(false,eval x env)) []) (fun a s₁=>wpAny (model c.prog c.w) F.A (call f.val ([] ++ a.pos) a.kw) (Post c F s.heap Q) (Exc c F s.heap X) s₁) (Exc c F s.heap X) s:=by
   refine evalArgs_any (any_plain _ env) ?_
   refine wpAny_mono this (fun vs s₁ p₁=>?_) fun _ _ y=>y
   obtain ⟨ds,σ₁,g₁,I₁,r₁,w₁⟩:=p₁
   exact wpAny_mono (s_blt I₁ R.FO r₁ w₁) (fun _ _ y=>y.grow g₁) fun _ _ y=>y
  exact f.called (any_plain _ env) fin
 | .isa a t,x,V,q,h,F,env,R,Q,X,σ,s,I,w=>by
  show wpAny _ _ (eval (.Call (.Name isaS (kid x 0).pos) [like a V (kid x 1),.Name t.name (kid x 2).pos] [] x.pos) env) _ _ s
  rw [eval_Call_Name]
  refine wpAny_bind (load_builtin R.CO R.O I (and2 (and2 h).1).1 (R.CO.free "isinstance" (by decide)) PyProof.Rows.Boot.«isinstance» ?_)
  have e:backTo x.pos (starEach [like a V (kid x 1),.Name t.name (kid x 2).pos] env)=[(false,eval (like a V (kid x 1)) env),(false,eval (.Name t.name (kid x 2).pos) env)]:=by rw [notStar]; rfl
  rw [e]
  refine Calls.callWith_builtin rfl (Calls.evalArgs_plain (Calls.spliced_cons (wpAny_mono (sE a (kid x 1) (and2 (and2 h).1).2 R I w) (fun v s₁ p₁=>?_) fun _ _ y=>y)))
  obtain ⟨d₁,σ₁,g₁,I₁,r₁,w₁⟩:=p₁
  obtain ⟨u,hu⟩:=opIsa_val w₁
  refine Calls.spliced_cons (Ty.load R.CO R.O I₁ (and2 h).2 hu (Calls.spliced_nil ?_))
  exact wpAny_mono (s_isa I₁ R.EO r₁ hu w₁) (fun _ _ y=>y.grow g₁) fun _ _ y=>y
 | .idx a i,x,V,q,h,F,env,R,Q,X,σ,s,I,w=>by
  refine PyProof.Rows.Subscript_ (wpAny_mono (sE a (kid x 0) (and2 h).1 R I w) (fun o s₁ p₁=>?_) fun _ _ y=>y)
  obtain ⟨d₁,σ₁,g₁,I₁,r₁,w₁⟩:=p₁
  refine wpAny_mono (sE i (kid x 1) (and2 h).2 R I₁ w₁) (fun u s₂ p₂=>?_) fun _ _ y=>y.grow g₁
  obtain ⟨d₂,σ₂,g₂,I₂,r₂,w₂⟩:=p₂
  exact wpAny_mono (s_idx I₂ (r₁.grow g₂) r₂ w₂ (like_notSlice i V (kid x 1))) (fun _ _ y=>y.grow (g₁.trans g₂)) fun _ _ y=>y
 | .slice a lo hi,x,V,q,h,F,env,R,Q,X,σ,s,I,w=>by
  refine PyProof.Rows.Subscript_ (wpAny_mono (sE a (kid x 0) (and2 (and2 h).1).1 R I w) (fun o s₁ p₁=>?_) fun _ _ y=>y)
  obtain ⟨d₁,σ₁,g₁,I₁,r₁,w₁⟩:=p₁
  rw [arm_eval_Slice]
  refine wpAny_bind (wpAny_mono (sO lo _ (and2 (and2 h).1).2 R I₁ w₁) (fun vl s₂ p₂=>?_) fun _ _ y=>y.grow g₁)
  obtain ⟨d₂,σ₂,g₂,I₂,r₂,w₂⟩:=p₂
  refine wpAny_bind (wpAny_holding (wpAny_mono (sO hi _ (and2 h).2 R I₂ w₂) (fun vu s₃ p₃=>?_) fun _ _ y=>y.grow (g₁.trans g₂)))
  obtain ⟨d₃,σ₃,g₃,I₃,r₃,w₃⟩:=p₃
  refine wpAny_bind (wpAny_holding (wpAny_pure ?_))
  refine wpAny_newObj_type ?_ (by show _≤_; simp [sizeLine_val])
  exact wpAny_mono (s_slice I₃ ((r₁.grow g₂).grow g₃) (r₂.grow g₃) r₃ w₃ fun o i=>rfl) (fun _ _ y=>y.grow ((g₁.trans g₂).trans g₃)) fun _ _ y=>y
 | .tup es,x,V,q,h,F,env,R,Q,X,σ,s,I,w=>by
  refine PyProof.Rows.Tuple_ (wpAny_mono (sEs x.pos es (kids x) h R I w) (fun vs s₁ p₁=>?_) fun _ _ y=>y)
  obtain ⟨ds,σ₁,g₁,I₁,r₁,hl,w₁⟩:=p₁
  refine wpAny_newObj_type (Post.grow g₁ (post_tuple (t:=s₁.toks) I₁ r₁ w₁)) ?_
  show vs.toArray.size≤sizeLine
  rw [List.size_toArray,r₁.length,sizeLine_val]; unfold lim at hl; exact o5 hl
 | .lst es,x,V,q,h,F,env,R,Q,X,σ,s,I,w=>by
  refine PyProof.Rows.List_ (wpAny_mono (sEs x.pos es (kids x) h R I w) (fun vs s₁ p₁=>?_) fun _ _ y=>y)
  obtain ⟨ds,σ₁,g₁,I₁,r₁,hl,w₁⟩:=p₁
  refine wpAny_newObj_type (Post.grow g₁ (post_list (t:=s₁.toks) I₁ (none_at_size _) (push_keeps _ _) ⟨0,Heap.get?_push_size _ rfl⟩ r₁ w₁)) ?_
  show vs.toArray.size≤sizeLine
  rw [List.size_toArray,r₁.length,sizeLine_val]; unfold lim at hl; exact o5 hl
 | .dict0,x,V,q,h,F,env,R,Q,X,σ,s,I,w=>wpAny_Dict_empty (post_dict (t:=s.toks) I w)
 | .getd o k d,x,V,q,h,F,env,R,Q,X,σ,s,I,w=>by
  obtain ⟨hq,w⟩:=w
  subst hq
  obtain ⟨h,h4⟩:=and2 h
  obtain ⟨h,h3⟩:=and2 h
  obtain ⟨h1,h2⟩:=and2 h
  have hst:backTo x.pos (starEach [like k V (kid x 1),like d V (kid x 2)] env)=[(false,eval (like k V (kid x 1)) env),(false,eval (like d V (kid x 2)) env)]:=by rw [notStar,notStar]; rfl
  refine wpAny_Call_method2_late (var_base h4 V _ env) (beq_self_eq_true _) hst ?_
  refine wpAny_mono (sE o _ h1 R I w) (fun ov s₁ p₁=>?_) fun _ _ y=>y
  obtain ⟨d₁,σ₁,g₁,I₁,r₁,⟨l,k₀,r,rfl,hl⟩,w₁⟩:=p₁
  cases r₁
  obtain ⟨v,hm,rv⟩:=dict_one I₁ hl
  have hm₁:=hm c.prog c.w
  refine ⟨"dict","dict.get",PySem.F.plainAttrs_dict,PySem.F.slot_dict_get,PySem.F.type_dict_get,hm₁.typeIs,hm₁.mapOf.noDict,wpAny_dict_get2 (knd:=intKind c.prog c.w) (dict_off I₁ R.FO R.CO hl) ?_⟩
  refine wpAny_mono (sE k _ h2 R I₁ w₁) (fun kv s₂ p₂=>?_) fun _ _ y=>y.grow g₁
  obtain ⟨d₂,σ₂,g₂,I₂,r₂,w₂⟩:=p₂
  refine wpAny_mono (sE d _ h3 R I₂ w₂) (fun dv s₃ p₃=>?_) fun _ _ y=>y.grow (g₁.trans g₂)
  obtain ⟨d₃,σ₃,g₃,I₃,r₃,l',k',r',e,hl₃,rfl,hQ⟩:=p₃
  cases e
  cases r₂ with | int _ t =>
  obtain ⟨v',hm',rv'⟩:=dict_one I₃ hl₃
  refine ⟨k',_,intKind_is _ _ k' t,(hm' c.prog c.w).mapOf,?_⟩
  have:(valueAt [(k',v')] k').getD dv=v':=by simp [valueAt]
  rw [this]
  exact Post.grow ((g₁.trans g₂).trans g₃) (post_tok I₃ rv' hQ)
 | .maxd o,x,V,q,h,F,env,R,Q,X,σ,s,I,w=>by
  obtain ⟨hq,w⟩:=w
  subst hq
  show wpAny _ _ (eval (.Call (.Name maxS (kid x 0).pos) [like o V (kid x 1)] [] x.pos) env) _ _ s
  rw [eval_Call_Name]
  refine wpAny_bind (load_builtin R.CO R.O I (and2 h).1 (R.CO.free "max" (by decide)) PyProof.Rows.Boot.«max» ?_)
  have hst:backTo x.pos (starEach [like o V (kid x 1)] env)=[(false,eval (like o V (kid x 1)) env)]:=by rw [notStar]; rfl
  rw [hst]
  refine Calls.callWith_builtin rfl (Calls.evalArgs_plain (Calls.spliced_cons (wpAny_mono (sE o (kid x 1) (and2 h).2 R I w) (fun v s₁ p₁=>?_) fun _ _ y=>y)))
  obtain ⟨d₁,σ₁,g₁,I₁,r₁,l,k₀,r,rfl,hl,w₁⟩:=p₁
  cases r₁
  exact Calls.spliced_nil (wpAny_mono (s_maxd I₁ R.FO R.CO hl w₁) (fun _ _ y=>y.grow g₁) fun _ _ y=>y)
 | .append o a,x,V,q,h,F,env,R,Q,X,σ,s,I,w=>by
  obtain ⟨hq,w⟩:=w
  subst hq
  have hst:backTo x.pos (starEach [like a V (kid x 1)] env)=[(false,eval (like a V (kid x 1)) env)]:=by rw [notStar]; rfl
  refine wpAny_Call_append (var_base (and2 h).2 V _ env) (by rw [hst]; rfl) (beq_self_eq_true _) hst ?_
  refine wpAny_mono (sE o _ (and2 (and2 h).1).1 R I w) (fun ov s₁ p₁=>?_) fun _ _ y=>y
  obtain ⟨d₁,σ₁,g₁,I₁,r₁,⟨l,ds,rfl,hl⟩,w₁⟩:=p₁
  cases r₁
  obtain ⟨vs,_,hp,_⟩:=I₁.sto _ _ hl
  obtain ⟨m,ho⟩:=(hp rfl).1
  refine ⟨l,vs.toArray,rfl,⟨_,m,ho,rfl,rfl,rfl⟩,?_⟩
  refine wpAny_mono (sE a _ (and2 (and2 h).1).2 R I₁ w₁) (fun u s₂ p₂=>?_) fun _ _ y=>y.grow g₁
  obtain ⟨d₂,σ₂,g₂,I₂,r₂,w₂⟩:=p₂
  exact wpAny_mono (s_append I₂ R.FO r₂ w₂) (fun _ _ y=>y.grow (g₁.trans g₂)) fun _ _ y=>y
 | .comp elt xs k es,x,V,q,h,F,env,R,Q,X,σ,s,I,w=>by
  obtain ⟨hq,w⟩:=w
  subst hq
  obtain ⟨h,h4⟩:=and2 h
  obtain ⟨h,h3⟩:=and2 h
  obtain ⟨h1,h2⟩:=and2 h
  have H:=compOK_of h2
  have el:∀ {F':Fm} {env':Env},Run c F' env' (V.comp xs (scOf x)) n true→∀ {K:D→St→Prop} {σ:St} {s:Shared},Inv c F' σ s→wE c n true elt K noX σ→wpAny (model c.prog c.w) F'.A (eval (like elt (V.comp xs (scOf x)) (kid x 0)) env') (Post c F' s.heap K) (Exc c F' s.heap noX) s:=fun {F' env'} R' {K σ s} I' w'=>sE elt (kid x 0) h1 R' I' w'
  cases k with
  | plain =>
   cases es with
   | nil=>exact (Bool.false_ne_true h3).elim
   | cons e es =>
   cases es with
   | cons _ _=>exact (Bool.false_ne_true h3).elim
   | nil =>
    refine s_comp (P:=fun _=>True) (fl:=false) R H (fun _ z=>by cases z) el (like_folded e V _ env) (wpAny_mono (sE e (kid x 2) (and2 h4).1 R I w) (fun v s₁ p₁=>?_) fun _ _ y=>y)
    obtain ⟨d,σ₁,g₁,I₁,r₁,w₁⟩:=p₁
    exact wpAny_mono (s_items I₁ (R.FO.handled rfl) g₁ r₁ (items_g w₁)) (fun _ _ y=>postC_of y) fun _ _ y=>y
  | range =>
   refine s_comp (P:=fun _=>True) (fl:=false) R H (fun _ z=>by cases z) el (fun _=>rfl) ?_
   show wpAny _ _ (eval (.Call (.Name rangeS (kid (kid x 2) 0).pos) (likes es V (kids (kid x 2)).tail) [] (kid x 2).pos) env) _ _ s
   rw [eval_Call_Name]
   refine wpAny_bind (load_builtin R.CO R.O I h3 (R.CO.free "range" (by decide)) PyProof.Rows.Boot.«range» ?_)
   have:=sEs (kid x 2).pos es (kids (kid x 2)).tail h4 R I w
   rw [backTo_plain] at this ⊢
   refine PyProof.Rows.callWith_type (any_plain _ env) (evalArgs_any (any_plain _ env) (wpAny_mono this (fun vs s₁ p₁=>?_) fun _ _ y=>y))
   obtain ⟨ds,σ₁,g₁,I₁,r₁,hs,items,hi,hK⟩:=p₁
   exact wpAny_mono (s_range (Kc:=fun items g σ=>g σ∧compW xs (fun K σ₂=>wE c n true elt K noX σ₂) (fun _=>True) Q items σ) I₁ R.FO R.CO g₁ r₁ hs hi ⟨trivial,hK⟩) (fun _ _ y=>wpAny_mono y (fun _ _ y=>postC_of y) fun _ _ y=>y) fun _ _ y=>y
  | zip =>
   refine s_comp (P:=fun r=>flatD r=true) (fl:=true) R H (fun _ _ z=>z) el (fun _=>rfl) ?_
   show wpAny _ _ (eval (.Call (.Name zipS (kid (kid x 2) 0).pos) (likes es V (kids (kid x 2)).tail) [] (kid x 2).pos) env) _ _ s
   rw [eval_Call_Name]
   refine wpAny_bind (load_builtin R.CO R.O I h3 (R.CO.free "zip" (by decide)) PyProof.Rows.Boot.«zip» ?_)
   have:=sEs (kid x 2).pos es (kids (kid x 2)).tail h4 R I w
   rw [backTo_plain] at this ⊢
   refine PyProof.Rows.callWith_type (any_plain _ env) (evalArgs_any (any_plain _ env) (wpAny_mono this (fun vs s₁ p₁=>?_) fun _ _ y=>y))
   obtain ⟨ds,σ₁,g₁,I₁,r₁,w₁⟩:=p₁
   exact (show False from w₁).elim
theorem sEs (pos:Pos):∀ (es:List E) (xs:List Expr) {V:Vw} {q:Bool},oks es V xs=true→∀ {F:Fm} {env:Env},Run c F env V n q→∀ {Q:List D→St→Prop} {X:Str→St→Prop} {σ:St} {s:Shared},Inv c F σ s→wEs c n q es Q X σ→
  wpAny (model c.prog c.w) F.A (spliced (backTo pos (starEach (likes es V xs) env))) (Posts c F s.heap Q) (Exc c F s.heap X) s
 | [],xs,V,q,h,F,env,R,Q,X,σ,s,I,w=>Calls.spliced_nil ⟨[],σ,Grow.refl _,I,.nil,w⟩
 | e :: es,xs,V,q,h,F,env,R,Q,X,σ,s,I,w=>by
  show wpAny _ _ (spliced (backTo pos (starEach (like e V (xs.headD default) :: likes es V xs.tail) env))) _ _ s
  rw [notStar]
  show wpAny _ _ (spliced ((false,eval (like e V (xs.headD default)) env) :: backTo pos (starEach (likes es V xs.tail) env))) _ _ s
  refine Calls.spliced_cons (wpAny_mono (sE e _ (and2 h).1 R I w) (fun v s₁ p₁=>?_) fun _ _ y=>y)
  obtain ⟨d₁,σ₁,g₁,I₁,r₁,w₁⟩:=p₁
  refine wpAny_mono (sEs pos es xs.tail (and2 h).2 R I₁ w₁) (fun vs s₂ p₂=>?_) fun _ _ y=>y.grow g₁
  obtain ⟨ds,σ₂,g₂,I₂,r₂,w₂⟩:=p₂
  exact ⟨d₁ :: ds,σ₂,g₁.trans g₂,I₂,.cons (r₁.grow g₂) r₂,w₂⟩
theorem sO:∀ (e:Option E) (x:Expr) {V:Vw} {q:Bool},okO e V x=true→∀ {F:Fm} {env:Env},Run c F env V n q→∀ {Q:D→St→Prop} {X:Str→St→Prop} {σ:St} {s:Shared},Inv c F σ s→wO c n q e Q X σ→
  wpAny (model c.prog c.w) F.A (valueOrNone (evalOpt (likeO e V x) env)) (Post c F s.heap Q) (Exc c F s.heap X) s
 | none,x,V,q,h,F,env,R,Q,X,σ,s,I,w=>wpAny_pure (a:=Value.none) (post_same I .none w)
 | some e,x,V,q,h,F,env,R,Q,X,σ,s,I,w=>sE e x h R I w
theorem sB (op:BoolOp) (pos:Pos):∀ (es:List E) (xs:List Expr) {V:Vw} {q:Bool},oks es V xs=true→∀ {F:Fm} {env:Env},Run c F env V n q→∀ {Q:D→St→Prop} {X:Str→St→Prop} {σ:St} {s:Shared},Inv c F σ s→wB c n q op es Q X σ→
  wpAny (model c.prog c.w) F.A (boolOp pos op (evalEach (likes es V xs) env)) (Post c F s.heap Q) (Exc c F s.heap X) s
 | [],xs,V,q,h,F,env,R,Q,X,σ,s,I,w=>(show False from w).elim
 | [e],xs,V,q,h,F,env,R,Q,X,σ,s,I,w=>sE e _ (and2 h).1 R I w
 | e :: e' :: es,xs,V,q,h,F,env,R,Q,X,σ,s,I,w=>by
  show wpAny _ _ (do
   let v ← eval (like e V (xs.headD default)) env
   standAt pos
   let t ← holding [v] (truthy v)
   match op,t with
   | .And,false | .Or,true=>pure v
   | _,_=>boolOp pos op (evalEach (likes (e' :: es) V xs.tail) env)) _ _ s
  refine wpAny_bind (wpAny_mono (sE e _ (and2 h).1 R I w) (fun v s₁ p₁=>?_) fun _ _ y=>y)
  obtain ⟨d₁,σ₁,g₁,I₁,r₁,w₁⟩:=p₁
  refine wpAny_bind (wpAny_standAt (wpAny_bind (wpAny_holding (wpAny_mono (s_truth (E:=Exc c F s.heap X) I₁ r₁ w₁) (fun b s₂ p₂=>?_) fun _ _ y=>y))))
  obtain ⟨σ₂,g₂,I₂,w₂⟩:=p₂
  have go:(b=(op==.Or))∨¬ (b=(op==.Or)):=Decidable.em _
  rcases go with z | z
  ·rw [if_pos z] at w₂
   have:Post c F s.heap Q v s₂:=⟨d₁,σ₂,g₁.trans g₂,I₂,r₁.grow g₂,w₂⟩
   cases op <;> cases b <;> first | (simp at z; done) | exact wpAny_pure this
  ·rw [if_neg z] at w₂
   have:wpAny (model c.prog c.w) F.A (boolOp pos op (evalEach (likes (e' :: es) V xs.tail) env)) (Post c F s.heap Q) (Exc c F s.heap X) s₂ :=
    wpAny_mono (sB op pos (e' :: es) xs.tail (and2 h).2 R I₂ w₂) (fun _ _ y=>y.grow (g₁.trans g₂)) fun _ _ y=>y.grow (g₁.trans g₂)
   cases op <;> cases b <;> first | (simp at z; done) | exact this
end
end
end Mine
namespace Mine
open PySem PySem.SeqAt
noncomputable def PostB (c:Cx) (F:Fm) (h₀:Heap) (Q:Bool→St→Prop):Bool→Shared→Prop:=fun b s'=>∃ σ',Grow h₀ s'.heap∧Inv c F σ' s'∧Q b σ'
theorem PostB.grow {c:Cx} {F:Fm} {h₀ h₁:Heap} {Q:Bool→St→Prop} {b:Bool} {s':Shared} (g:Grow h₀ h₁) (x:PostB c F h₁ Q b s'):PostB c F h₀ Q b s':=by
 obtain ⟨σ',h1,r⟩:=x
 exact ⟨σ',g.trans h1,r⟩
noncomputable def plainT:Expr→Bool
 | .UnaryOp .Not _ _=>false
 | .BoolOp ..=>false
 | .IfExp ..=>false
 | .Compare ..=>false
 | _=>true
theorem isTrue_plainT (x:Expr) (env:Env) (whole:Sem Value) (h:plainT x=true):isTrue x env whole=(do let v ← whole; standAt x.pos; holding [v] (truthy v)):=by
 cases x <;> first | rfl | exact (Bool.false_ne_true h).elim | skip
 rename_i op y p
 cases op <;> first | rfl | exact (Bool.false_ne_true h).elim
section
variable {c:Cx} {F:Fm} {env:Env} {n:Nat} {q:Bool}
theorem sT_plain {V:Vw} (R:Run c F env V n q) (e:E) (x:Expr) (h:ok e V x=true) (hp:plainT (like e V x)=true) {Q:Bool→St→Prop} {X:Str→St→Prop} {σ:St} {s:Shared} (I:Inv c F σ s) (w:wE c n q e (fun d σ₁=>wTruth d Q σ₁) X σ) :
  wpAny (model c.prog c.w) F.A (isTrue (like e V x) env (eval (like e V x) env)) (PostB c F s.heap Q) (Exc c F s.heap X) s:=by
 rw [isTrue_plainT _ env _ hp]
 refine wpAny_bind (wpAny_mono (sE e x h R I w) (fun v s₁ p₁=>?_) fun _ _ y=>y)
 obtain ⟨d₁,σ₁,g₁,I₁,r₁,w₁⟩:=p₁
 refine wpAny_bind (wpAny_standAt (wpAny_holding (wpAny_mono (s_truth (E:=Exc c F s.heap X) I₁ r₁ w₁) (fun b s₂ p₂=>?_) fun _ _ y=>y)))
 obtain ⟨σ₂,g₂,I₂,w₂⟩:=p₂
 exact ⟨σ₂,g₁.trans g₂,I₂,w₂⟩
theorem sT_cmp {V:Vw} (R:Run c F env V n q) {op:CmpOp} {a b:E} {x:Expr} (h:ok (.cmp op a b) V x=true) {Q:Bool→St→Prop} {X:Str→St→Prop} {σ:St} {s:Shared} (I:Inv c F σ s) (w:wE c n q a (fun x σ₁=>wE c n q b (fun y σ₂=>opCmp op x y (fun d σ₁=>wTruth d Q σ₁) σ₂) X σ₁) X σ) :
  wpAny (model c.prog c.w) F.A (isTrue (like (.cmp op a b) V x) env (eval (like (.cmp op a b) V x) env)) (PostB c F s.heap Q) (Exc c F s.heap X) s:=by
 refine wpAny_isTrue_Compare1 (wpAny_mono (sE a (kid x 0) (and2 h).1 R I w) (fun v s₁ p₁=>?_) fun _ _ y=>y) (like_noSet b V (kid x 1) op)
 obtain ⟨d₁,σ₁,g₁,I₁,r₁,w₁⟩:=p₁
 refine wpAny_mono (sE b (kid x 1) (and2 h).2 R I₁ w₁) (fun u s₂ p₂=>?_) fun _ _ y=>y.grow g₁
 obtain ⟨d₂,σ₂,g₂,I₂,r₂,w₂⟩:=p₂
 refine wpAny_mono (s_cmp (E:=Exc c F s.heap X) I₂ R.FO (r₁.grow g₂) r₂ w₂) (fun t s₃ p₃=>?_) fun _ _ y=>y
 obtain ⟨d₃,σ₃,g₃,I₃,r₃,w₃⟩:=p₃
 refine wpAny_mono (s_truth (E:=Exc c F s.heap X) I₃ r₃ w₃) (fun b s₄ p₄=>?_) fun _ _ y=>y
 obtain ⟨σ₄,g₄,I₄,w₄⟩:=p₄
 exact ⟨σ₄,((g₁.trans g₂).trans g₃).trans g₄,I₄,w₄⟩
mutual
theorem sT {V:Vw} (R:Run c F env V n q):∀ (e:E) (x:Expr),ok e V x=true→∀ {Q:Bool→St→Prop} {X:Str→St→Prop} {σ:St} {s:Shared},Inv c F σ s→wT c n q e Q X σ→
  wpAny (model c.prog c.w) F.A (isTrue (like e V x) env (eval (like e V x) env)) (PostB c F s.heap Q) (Exc c F s.heap X) s
 | .not a,x,h,Q,X,σ,s,I,w=>by
  show wpAny _ _ (isTrue (.UnaryOp .Not (like a V (kid x 0)) x.pos) env (eval (.UnaryOp .Not (like a V (kid x 0)) x.pos) env)) _ _ s
  rw [arm_isTrue_UnaryOp]
  exact wpAny_bind (wpAny_mono (sT R a (kid x 0) h I w) (fun b s₁ p₁=>wpAny_pure p₁) fun _ _ y=>y)
 | .bool op es,x,h,Q,X,σ,s,I,w=>by
  show wpAny _ _ (isTrue (.BoolOp op (likes es V (kids x)) x.pos) env (eval (.BoolOp op (likes es V (kids x)) x.pos) env)) _ _ s
  rw [arm_isTrue_BoolOp]
  exact sTs R op es (kids x) h I w
 | .cmp op a b,x,h,Q,X,σ,s,I,w=>sT_cmp R h I w
 | .cnone,x,h,Q,X,σ,s,I,w=>sT_plain R (.cnone) x h rfl I w
 | .cbool b,x,h,Q,X,σ,s,I,w=>sT_plain R (.cbool b) x h rfl I w
 | .cint i,x,h,Q,X,σ,s,I,w=>sT_plain R (.cint i) x h rfl I w
 | .cstr y,x,h,Q,X,σ,s,I,w=>sT_plain R (.cstr y) x h rfl I w
 | .var i,x,h,Q,X,σ,s,I,w=>sT_plain R (.var i) x h rfl I w
 | .glob g,x,h,Q,X,σ,s,I,w=>sT_plain R (.glob g) x h rfl I w
 | .bin op a b,x,h,Q,X,σ,s,I,w=>sT_plain R (.bin op a b) x h rfl I w
 | .neg a,x,h,Q,X,σ,s,I,w=>sT_plain R (.neg a) x h rfl I w
 | .call f es,x,h,Q,X,σ,s,I,w=>sT_plain R (.call f es) x h rfl I w
 | .blt f es,x,h,Q,X,σ,s,I,w=>sT_plain R (.blt f es) x h rfl I w
 | .isa a t,x,h,Q,X,σ,s,I,w=>sT_plain R (.isa a t) x h rfl I w
 | .idx a i,x,h,Q,X,σ,s,I,w=>sT_plain R (.idx a i) x h rfl I w
 | .slice a lo hi,x,h,Q,X,σ,s,I,w=>sT_plain R (.slice a lo hi) x h rfl I w
 | .tup es,x,h,Q,X,σ,s,I,w=>sT_plain R (.tup es) x h rfl I w
 | .lst es,x,h,Q,X,σ,s,I,w=>sT_plain R (.lst es) x h rfl I w
 | .append o a,x,h,Q,X,σ,s,I,w=>sT_plain R (.append o a) x h rfl I w
 | .dict0,x,h,Q,X,σ,s,I,w=>sT_plain R .dict0 x h rfl I w
 | .getd o k d,x,h,Q,X,σ,s,I,w=>sT_plain R (.getd o k d) x h rfl I w
 | .maxd o,x,h,Q,X,σ,s,I,w=>sT_plain R (.maxd o) x h rfl I w
 | .comp elt xs k es,x,h,Q,X,σ,s,I,w=>sT_plain R (.comp elt xs k es) x h rfl I w
theorem sTs {V:Vw} (R:Run c F env V n q) (op:BoolOp):∀ (es:List E) (xs:List Expr),oks es V xs=true→∀ {Q:Bool→St→Prop} {X:Str→St→Prop} {σ:St} {s:Shared},Inv c F σ s→wTs c n q op es Q X σ→
  wpAny (model c.prog c.w) F.A (allTrue op (likes es V xs) env) (PostB c F s.heap Q) (Exc c F s.heap X) s
 | [],xs,h,Q,X,σ,s,I,w=>wpAny_pure ⟨σ,Grow.refl _,I,w⟩
 | e :: es,xs,h,Q,X,σ,s,I,w=>by
  show wpAny _ _ (allTrue op (like e V (xs.headD default) :: likes es V xs.tail) env) _ _ s
  rw [arm_allTrue_cons]
  refine wpAny_bind (wpAny_mono (sT R e _ (and2 h).1 I w) (fun b s₁ p₁=>?_) fun _ _ y=>y)
  obtain ⟨σ₁,g₁,I₁,w₁⟩:=p₁
  by_cases z:b=(op==.Or)
  ·rw [if_pos z] at w₁
   have:PostB c F s.heap Q b s₁:=⟨σ₁,g₁,I₁,w₁⟩
   cases op <;> cases b <;> first | (simp at z; done) | exact wpAny_pure this
  ·rw [if_neg z] at w₁
   have:wpAny (model c.prog c.w) F.A (allTrue op (likes es V xs.tail) env) (PostB c F s.heap Q) (Exc c F s.heap X) s₁:=wpAny_mono (sTs R op es xs.tail (and2 h).2 I₁ w₁) (fun _ _ y=>y.grow g₁) fun _ _ y=>y.grow g₁
   cases op <;> cases b <;> first | (simp at z; done) | exact this
end
theorem s_stores {K:Str→Option NameKind} {ns:Nat→Option Str} (FO:FmOK c n q F) (Wr:FmW F) (O:EnvOK F env K ns) {E:Value→Shared→Prop}:∀ (xs:List Nat) (ys:List Str) (ds:List D) (vs:List Value) (σ:St) (s:Shared) (Q:Unit→Shared→Prop),xs.length=ds.length→(∀ p∈xs.zip ys,ns p.1=some p.2)→xs.length=ys.length→Reps s.heap vs ds→Inv c F σ s→
  (∀ s',SameSh s s'→Grow s.heap s'.heap→Inv c F (setAll σ xs ds) s'→Q () s')→wpAny (model c.prog c.w) F.A (assignInOrder (ys.map fun y=>bindName env y) vs) Q E s
 | [],ys,ds,vs,σ,s,Q,hl,hn,hy,r,I,h=>by
  cases ys with
  | cons=>simp at hy
  | nil=>exact wpAny_pure (h s (SameSh.refl s) (Grow.refl _) I)
 | x :: xs,ys,ds,vs,σ,s,Q,hl,hn,hy,r,I,h=>by
  cases ys with
  | nil=>simp at hy
  | cons y ys =>
   cases r with
   | nil=>simp at hl
   | cons rv rs =>
    rename_i v vs d ds
    show wpAny _ _ (do holding vs (bindName env y v); assignInOrder (ys.map fun y=>bindName env y) vs) _ _ s
    refine wpAny_bind (wpAny_holding (wpAny_bindName (store_var I FO Wr O (hn (x,y) (by simp)) rv fun s₁ hs₁ g₁ I₁=>?_)))
    exact s_stores FO Wr O xs ys ds vs (σ.set x d) s₁ Q (by simpa using hl) (fun p hp=>hn p (by simp [hp])) (by simpa using hy) (rs.grow g₁) I₁ fun s₂ hs₂ g₂ I₂=>h s₂ (hs₁.trans hs₂) (g₁.trans g₂) I₂
end
end Mine
namespace Mine
open PySem PySem.SeqAt
noncomputable def RzOK (c:Cx):Prop :=
 (∀ nm C,c.cls nm=some C→∃ bm newId initId,PyProof.Rows.OwnCls nm C bm newId c.mg c.B∧ExcBaseFacts "ValueError" newId initId bm)∧
 (∀ {e k:Str} {Ce Ck a:Addr} {o:Obj} {A:Around} {E:Value→Shared→Prop} {s:Shared} {Q:Bool→Shared→Prop},c.cls e=some Ce→c.cls k=some Ck→c.B.StaysIn s.heap→s.heap.get? a=some o→o.cls=.ref Ce→
  Q (c.sub e k) s→wpAny (model c.prog c.w) A (excMatches (.ref a) (.ref Ck)) Q E s)
section
variable {c:Cx} (h_:RzOK c)
include h_
theorem RzOK.own:∀ nm C,c.cls nm=some C→∃ bm newId initId,PyProof.Rows.OwnCls nm C bm newId c.mg c.B∧ExcBaseFacts "ValueError" newId initId bm:=h_.1
theorem RzOK.mat:∀ {e k:Str} {Ce Ck a:Addr} {o:Obj} {A:Around} {E:Value→Shared→Prop} {s:Shared} {Q:Bool→Shared→Prop},c.cls e=some Ce→c.cls k=some Ck→c.B.StaysIn s.heap→s.heap.get? a=some o→o.cls=.ref Ce→
  Q (c.sub e k) s→wpAny (model c.prog c.w) A (excMatches (.ref a) (.ref Ck)) Q E s:=h_.2
end
section
variable {c:Cx} {F:Fm} {env:Env} {V:Vw} {n:Nat} {q:Bool}
theorem kept_up {l:List Env} {B hc h₁ h₂ B':Heap} (hf:FramesOK B hc l) (hk:Kept (fsOf l) hc h₁) (hB:∀ b o,hc.get? b=some o→b∉fsOf l→B'.get? b=some o) (hst:B'.StaysIn h₂) (hu:h₁.UpToSlots h₂):Kept (fsOf l) hc h₂:=fun b o e=>by
 by_cases m:b∈fsOf l
 ·obtain ⟨_,o',es,ep,ho',hd⟩:=hf.mem m
  rw [e] at ho'; cases ho'
  obtain ⟨s1,e1,_⟩:=hk b o e
  obtain ⟨s2,e2⟩:=hu b _ e1 (fun vs z=>by simp only at z; rw [hd] at z; cases z)
  exact ⟨s2,e2,fun w=>w.elim (fun w=>absurd m w) fun w=>absurd hd (w _ _)⟩
 ·exact ⟨o.slots,hst b o (hB b o e m),fun _=>rfl⟩
theorem hidden {B h:Heap} {as:List Addr}:∀ {l:List Env},FramesOK B h l→(∀ env∈l,∀ a,env.frame=some a→a∈as)→h.FunFrames (PySem.W.hideAll h as) l
 | [],_,_=>trivial
 | env :: l,f,hin=>by
  obtain ⟨k,L,m,e1,e2,⟨o,es,ep,ho,hd,_⟩⟩:=f env (.head _)
  exact ⟨(by rw [k]; decide),⟨L,o,e1,PySem.W.hideAll_none _ (hin env (.head _) L e1),ho,fun vs z=>by rw [hd] at z; cases z⟩,hidden (fun ev hm=>f ev (.tail _ hm)) fun e he=>hin e (.tail _ he)⟩
theorem hide_frames {B h:Heap} {l:List Env} (f:FramesOK B h l):h.FunFrames (PySem.W.hideAll h (fsOf l)) l :=
 hidden f fun env he a ha=>List.mem_filterMap.mpr ⟨env,he,ha⟩
theorem up_note {hc:Heap} {s':Shared} {ea C L:Addr} {A:Around} {E:Value→Shared→Prop} {Q:Unit→Shared→Prop} (hfr:A.frames=some (F.fenv :: F.outer)) (hL:F.fenv.frame=some L) (hf:FramesOK c.B hc (F.fenv :: F.outer)) (u:Up F hc ea C s'.heap)
  (hQ:∀ h' B' a0,(∀ b o,hc.get? b=some o→b∉F.fs1→B'.get? b=some o)→Heap.HeldW B' (F.fenv :: F.outer) ea (.ref C) a0 L h'→s'.heap.UpToSlots h'→Q () { s' with heap:=h' }):wpAny (model c.prog c.w) A (noteFrame (.ref ea) F.fenv) Q E s':=by
 rcases u with ⟨B',t,hB,hfl⟩ | ⟨args,hm⟩ | ⟨B',t,L',hB,hL',hh⟩
 ·exact wpAny_looks_onW hfr hL hfl fun h' hh hu=>hQ h' B' t hB hh hu
 ·obtain ⟨t,he,htn,ht⟩:=hm.there
  have hkb:(PySem.W.hideAll hc (fsOf (F.fenv :: F.outer))).StaysIn s'.heap:=fun b o e=>hm.keeps b o (PySem.W.of_hideAll _ e)
  have fresh:(PySem.W.hideAll hc (fsOf (F.fenv :: F.outer))).get? ea=none:=by
   cases e:(PySem.W.hideAll hc (fsOf (F.fenv :: F.outer))).get? ea with
   | none=>rfl
   | some o=>have:=PySem.W.of_hideAll _ e; rw [hm.new] at this; cases this
  unfold noteFrame
  simp only [hL]
  refine wpAny_bind (wpAny_field (x:=.none) he rfl rfl ?_)
  rw [if_neg (show ¬ ((Value.none != Value.none)=true) from by decide)]
  refine wpAny_entryW (a0:=.ref t) hfr ((hide_frames hf).of_keeps fun b o e _=>⟨o,hm.keeps b o e,rfl⟩) hL he hkb fresh rfl (by simp) rfl fun h' hN=>?_
  obtain ⟨k1,k2,k3,k4⟩:=hN
  exact hQ h' _ _ (fun b o e m=>PySem.W.hideAll_get _ e m) ⟨k1,fresh,k2,k3⟩ k4
 ·rw [hL] at hL'; cases hL'
  exact wpAny_noteFrame_againW hL hh.2.2.2 (hQ _ B' t hB hh fun b o e _=>⟨o.slots,e⟩)
theorem up_leave {hc:Heap} {s':Shared} {ea C L:Addr} {A:Around} {E:Value→Shared→Prop} {Q:Unit→Shared→Prop} (hfr:A.frames=some (F.fenv :: F.outer)) (hL:F.fenv.frame=some L) (hf:FramesOK c.B hc (F.fenv :: F.outer)) (u:Up F hc ea C s'.heap)
  (hQ:∀ h' B' a0,(∀ b o,hc.get? b=some o→b∉F.fs1→B'.get? b=some o)→Heap.FlyingW B' F.outer ea (.ref C) a0 h'→s'.heap.UpToSlots h'→Q () { s' with heap:=h' }):wpAny (model c.prog c.w) A (leaving F.fenv (.ref ea)) Q E s':=by
 rcases u with ⟨B',t,hB,hfl⟩ | ⟨args,hm⟩ | ⟨B',t,L',hB,hL',hh⟩
 ·exact wpAny_leaves_onW hfr hL hfl fun h' hh hu=>hQ h' B' t hB hh hu
 ·exact wpAny_leaves_madeW hfr hL (fun b o e=>PySem.W.of_hideAll _ e) (hide_frames hf) hm fun h' t x1 x2 x3 x4=>hQ h' _ _ (fun b o e m=>PySem.W.hideAll_get _ e m) x1 x4
 ·rw [hL] at hL'; cases hL'
  unfold leaving
  refine wpAny_bind (wpAny_noteFrame_againW hL hh.2.2.2 (wpAny_landsW hh fun h' hfl hu=>?_))
  obtain ⟨k1,k2,⟨_,_,k3⟩,k4⟩:=hfl
  exact hQ h' B' t hB ⟨k1,k2,k3,k4⟩ hu
theorem s_raise (R:Run c F env V n true) (RO:RzOK c) {σ:St} {s:Shared} {X:Str→St→Prop} {Q:Flow→Shared→Prop} {x:Str} {C:Addr} {m:Str} {np mp cpos pos:Pos} {kk:Nat} (I:Inv c F σ s) (hx:isGl V.K x=true) (hC:c.cls x=some C) (w:X x σ) :
  wpAny (model c.prog c.w) F.A (exec (.Raise (some (.Call (.Name x np) [.Constant (.str m) kk mp] [] cpos)) none pos) env) Q (Exc c F s.heap X) s:=by
 obtain ⟨bm,newId,initId,O,FB⟩:=RO.own x C hC
 obtain ⟨tl,N,nm,q,bs,hdct,sn,sub,ab,col,dd,k0,k1,k2,k3,k5,mN,hCo,hN,hni,T⟩:=O.obj
 refine wpAny_Raise_call_subT (C:=C) (nm:=nm) (q:=q) (N:=N) (bs:=bs) (bm:=tl) (hdct:=hdct) (sn:=sn) (sub:=sub) (ab:=ab) (col:=col) (dd:=dd) (k0:=k0) (k1:=k1) (k2:=k2) (k3:=k3) (k5:=k5)
  FB (mN:=mN) (T.hasType FB.hasBase) (R.FO.handled rfl) rfl hni (load_global R.CO R.O I hx (R.CO.cls x C hC) ⟨rfl,?_⟩)
 refine Calls.evalArgs_plain (Calls.spliced_cons (Calls.Constant_str (k:=kk) (pos:=mp) (Calls.spliced_nil ?_)))
 have I₁:=I.tok (s.toks+1)
 have st:c.B.StaysIn s.heap:=I.base
 refine ⟨rfl,by simp [sizeLine_val],st _ _ hCo,hN.keeps st,T.keeps st,fun h' e hm=>?_⟩
 exact ⟨e,x,C,σ,{ s with toks:=s.toks+1 },rfl,hC,Grow.refl _,I₁,⟨h',_,rfl⟩,fun b o z=>hm.keeps b o (st b o z),Kept.of_keeps hm.keeps,.inr (.inl ⟨_,hm⟩),w⟩
theorem held_again {M:Model} {A:Around} {E:Value→Shared→Prop} {s:Shared} {base:Heap} {l:List Env} {e L:Addr} {cls a0:Value} {env:Env} {Q:Unit→Shared→Prop} (hf:env.frame=some L) (R:Heap.HeldW base l e cls a0 L s.heap)
  (h:∀ h',Heap.HeldW base l e cls a0 L h'→s.heap.UpToSlots h'→Q () { s with heap:=h' }):wpAny M A (do
   if (← field (.ref e) 1)==.none then unsupported "frame.own-activation:exception-without-traceback"
   setFlight (.ref e) env.frame) Q E s:=by
 obtain ⟨hkb,hen,hl,oe,vs,T,oT,ts,he,hcls,hd,h1,hnT,hTe,hT,hdT,h3⟩:=R
 obtain ⟨h3s,h3v⟩:=Array.getElem?_eq_some_iff.mp h3
 refine wpAny_bind (wpAny_field he hd h1 ?_)
 rw [if_neg (show ¬ (Value.ref T==Value.none)=true from by simp),hf]
 unfold setFlight
 refine wpAny_bind (wpAny_field he hd h1 ?_)
 rw [if_pos (show (Value.ref T != Value.none)=true from by simp)]
 refine wpAny_setField hT hdT h3s ?_
 have eo:Obj.mapFields (·.setIfInBounds 3 ((some L).elim Value.none fun f=>rawInt f)) oT=oT:=by
  obtain ⟨c,d,dt,sl⟩:=oT
  cases hdT
  show Obj.mk c d (.fields (ts.setIfInBounds 3 (rawInt L))) sl=_
  rw [show ts.setIfInBounds 3 (rawInt L)=ts from Array.ext (by simp) fun i h1 h2=>by
   rw [Array.getElem_setIfInBounds]
   split
   ·rename_i z; subst z; exact h3v.symm
   ·rfl]
 have same:∀ b,(s.heap.update T (Obj.mapFields (·.setIfInBounds 3 ((some L).elim Value.none fun f=>rawInt f)))).get? b=s.heap.get? b:=fun b=>by
  by_cases z:b=T
  ·subst z
   rw [Heap.get?_update_self _ hT (by rw [eo]; exact Obj.isFreed_of_fields hdT),eo,hT]
  ·exact Heap.get?_update_other _ _ (Ne.symm z)
 exact h _ ⟨fun b o hb=>(same b).trans (hkb b o hb),hen,hl.of_keeps fun b o hb _=>⟨o,(same b).trans hb,rfl⟩,oe,vs,T,oT,ts,(same e).trans he,hcls,hd,h1,hnT,hTe,(same T).trans hT,hdT,h3⟩ fun b o hb _=>⟨o.slots,(same b).trans hb⟩
theorem exc_came (R:Run c F env V n q) (henv:env=F.fenv) {h₀:Heap} {X:Str→St→Prop} {e:Value} {s':Shared} (y:Exc c F h₀ X e s'):notedBy (model c.prog c.w) F.A env (fun e s'=>cameBackBy (model c.prog c.w) F.A env (Exc c F h₀ X) e s') e s':=by
 subst henv
 obtain ⟨ea,nm,C,σ',sc,rfl,hC,g,I',hs,hB,hk,up,hx⟩:=y
 obtain ⟨L,hL⟩:=R.FO.tab
 refine up_note R.FO.frames hL I'.frames up fun h₁ B' a0 hBB held hu₁=>held_again hL held fun h' held' hu₂=>?_
 have kk:Kept F.fs1 sc.heap h':=kept_up I'.frames hk hBB held'.1 (hu₁.trans hu₂)
 have hs':SameSh sc { s' with heap:=h' }:=hs.trans ⟨h',s'.toks,rfl⟩
 exact ⟨ea,nm,C,σ',sc,rfl,hC,g,I',hs',(I'.after R.FO (s':={ s' with heap:=h' }) kk hs').base,kk,.inr (.inr ⟨B',a0,L,hBB,hL,held'⟩),hx⟩
noncomputable def Fm.marked (F:Fm) (e:Addr):Fm:={ F with A:=F.A.mark (some (.ref e)) }
theorem FmOK.marked (FO:FmOK c n true F) (e:Addr):FmOK c n false (F.marked e):=FmOK.mk'
 (frames:=FO.frames)
 (handled:=fun h=>by cases h)
 (depth:=FO.depth)
 (units:=FO.units)
 (globals:=FO.globals)
 (builtins:=FO.builtins)
 (gen:=FO.gen)
 (co:=FO.co)
 (bh:=FO.bh)
 (back:=FO.back)
 (tab:=FO.tab)
theorem Inv.marked {σ:St} {s:Shared} (I:Inv c F σ s) (e:Addr):Inv c (F.marked e) σ s:=⟨I.same,I.base,I.kept,I.frames,I.vars,I.places,I.sto,I.dap⟩
theorem Inv.unmarked {σ:St} {s:Shared} {e:Addr} (I:Inv c (F.marked e) σ s):Inv c F σ s:=⟨I.same,I.base,I.kept,I.frames,I.vars,I.places,I.sto,I.dap⟩
theorem Run.marked (R:Run c F env V n true) (e:Addr):Run c (F.marked e) env V n false:=⟨R.CO,R.EO,R.FO.marked e,⟨R.O.kind,R.O.globals,R.O.builtins,R.O.kinds,R.O.res,R.O.cells⟩,R.U⟩
theorem FmW.marked (W:FmW F) (e:Addr):FmW (F.marked e):=⟨W.fresh,W.apart⟩
theorem s_catch (R:Run c F env V n true) (RO:RzOK c) (henv:env=F.fenv) {σ:St} {sc s':Shared} {ea C Ck:Addr} {e k:Str} {E:Value→Shared→Prop} {Q:Flow→Shared→Prop} {nm:Option Str} {b₀:Stmt} {suite:List Stmt} {np pos:Pos}
  (I:Inv c F σ sc) (hs:SameSh sc s') (hk:Kept F.fs1 sc.heap s'.heap) (u:Up F sc.heap ea C s'.heap) (he:c.cls e=some C) (hck:c.cls k=some Ck) (hgl:isGl V.K k=true) (hsub:c.sub e k=true)
  (go:∀ s₂,SameSh sc s₂→Kept F.fs1 sc.heap s₂.heap→Inv c F σ s₂→Rep s₂.heap (.ref ea) (.exc ea e C)→(∃ B' a0,Heap.FlyingW B' (F.fenv :: F.outer) ea (.ref C) a0 s₂.heap∧∀ b o,sc.heap.get? b=some o→b∉F.fs1→B'.get? b=some o)→
   codeAny (model c.prog c.w) (F.A.mark (some (.ref ea))) (.handlers (.ref ea) [.ExceptHandler none nm (b₀ :: suite) pos] env) (fun r s₂=>match r with
     | .ok f=>(match nm with
      | none=>Q f s₂
      | some n=>wpAny (model c.prog c.w) F.A (do bindName env n .none; unbindBehindTheSuite env n pos) (fun _ s₃=>Q f s₃) E s₂)
     | .error x=>cameBackBy (model c.prog c.w) F.A env E x s₂) s₂) :
  wpAny (model c.prog c.w) F.A (noteFrame (.ref ea) env) (fun _ s₂=>wpAny (model c.prog c.w) F.A (setFlight (.ref ea) none) (fun _ s₃=>wpAny (model c.prog c.w) F.A (handleBy (.ref ea) env [.ExceptHandler (some (.Name k np)) nm (b₀ :: suite) pos]) Q E s₃) E s₂) E s':=by
 subst henv
 obtain ⟨L,hL⟩:=R.FO.tab
 refine up_note R.FO.frames hL I.frames u fun h₁ B' a0 hB hheld hu₁=>?_
 refine wpAny_landsW hheld fun h₂ hfl hu₂=>?_
 have kk:Kept F.fs1 sc.heap h₂:=kept_up I.frames hk hB hfl.1 (hu₁.trans hu₂)
 have hs₂:SameSh sc { s' with heap:=h₂ }:=hs.trans ⟨h₂,s'.toks,rfl⟩
 have I₂:=I.after R.FO (s':={ s' with heap:=h₂ }) kk hs₂
 obtain ⟨oe,ws,hoe,hoec,hoed,hoe0⟩:=hfl.first
 refine wpAny_handleBy_cons (codeAny_handlers_test (load_global R.CO R.O I₂ hgl (R.CO.cls k Ck hck) ?_)) (by intro z; cases z)
 refine RO.mat he hck I₂.base hoe hoec ?_
 rw [hsub]
 exact go _ hs₂ kk I₂ (.exc hoe hoec hoed) ⟨B',a0,hfl,hB⟩
end
end Mine
namespace Mine
open PySem PySem.SeqAt
noncomputable def namesOf:List Expr→List Str
 | .Name y _ :: xs=>y :: namesOf xs
 | _=>[]
noncomputable def isStarred:Expr→Bool
 | .Starred ..=>true
 | _=>false
noncomputable def swapNames (K:Str→Option NameKind) (ts:List Expr):List Str :=
 ts.filterMap fun
  | .Name id pos=>if K id==some .local&&pos.line==(ts.head?.map (·.pos.line)).getD 0 then some id else none
  | _=>none
noncomputable def swapOK (K:Str→Option NameKind) (ts vs:List Expr):Bool :=
 (ts.length==2 || ts.length==3)&&vs.length==ts.length&&!(vs.any isStarred)&&swapNames K ts==namesOf ts&&(namesOf ts).length==ts.length&&(namesOf ts).eraseDups.length==ts.length&&!(vs.all (foldedForSure 8))&&!(vs.all (constantsAlone 8))
noncomputable def nodupB:List Nat→Bool
 | []=>true
 | x :: xs=>!(xs.contains x)&&nodupB xs
theorem names_namesX:∀ (ss:List Str) (ys:List Expr),namesOf (namesX ss ys)=ss
 | [],_=>rfl
 | s :: ss,ys=>congrArg (s :: ·) (names_namesX ss ys.tail)
noncomputable def sxs (s:Stmt):List Expr:=match s with
 | .Expr x _=>[x]
 | .Assign ts x _=>x :: ts
 | .If x _ _ _=>[x]
 | .While x _ _ _=>[x]
 | .For t x _ _ _=>[x,t]
 | .Return x _=>[x.getD default]
 | .Raise x _ _=>[x.getD default]
 | _=>[]
noncomputable def sx (s:Stmt) (i:Nat):Expr:=(sxs s).getD i default
noncomputable def hdX:ExceptHandler→Expr×List Stmt×Pos
 | .ExceptHandler t _ b p=>(t.getD default,b,p)
noncomputable def hdOf (s:Stmt):Expr×List Stmt×Pos:=match s with
 | .Try _ (h :: _) _ _ _=>hdX h
 | _=>(default,[],default)
noncomputable def sBody (s:Stmt):List Stmt:=match s with
 | .If _ b _ _=>b
 | .While _ b _ _=>b
 | .For _ _ b _ _=>b
 | .Try b _ _ _ _=>b
 | _=>[]
noncomputable def sElse (s:Stmt):List Stmt:=match s with
 | .If _ _ b _=>b
 | _=>[]
mutual
noncomputable def likeS:S→Vw→Stmt→Stmt
 | .expr e,V,s=>.Expr (like e V (sx s 0)) s.pos
 | .assign i e,V,s=>.Assign [.Name (V.nL i) (sx s 1).pos] (like e V (sx s 0)) s.pos
 | .unpack is e,V,s=>.Assign [.Tuple (namesX (is.map V.nL) (kids (sx s 1))) (kOf (sx s 1)) (sx s 1).pos] (like e V (sx s 0)) s.pos
 | .swap is es,V,s=>.Assign [.Tuple (namesX (is.map V.nL) (kids (sx s 1))) (kOf (sx s 1)) (sx s 1).pos] (like (.tup es) V (sx s 0)) s.pos
 | .setitem o i e,V,s=>.Assign [.Subscript (like o V (kid (sx s 1) 0)) (like i V (kid (sx s 1) 1)) (sx s 1).pos] (like e V (sx s 0)) s.pos
 | .ifs t a b,V,s=>.If (like t V (sx s 0)) (likeSs a V (sBody s)) (likeSs b V (sElse s)) s.pos
 | .whiles t b,V,s=>.While (like t V (sx s 0)) (likeSs b V (sBody s)) [] s.pos
 | .fors is one k es b,V,s=>.For (tgt one (is.map V.nL) (sx s 1)) (likeIt k (likes es V (itArgs k (sx s 0))) (sx s 0)) (likeSs b V (sBody s)) [] s.pos
 | .ret e,V,s=>.Return (some (like e V (sx s 0))) s.pos
 | .raise k m,V,s=>.Raise (some (.Call (.Name k (kid (sx s 0) 0).pos) [.Constant (.str m) (kOf (kid (sx s 0) 1)) (kid (sx s 0) 1).pos] [] (sx s 0).pos)) none s.pos
 | .tryx b k x h,V,s=>.Try (likeSs b V (sBody s)) [.ExceptHandler (some (.Name k (hdOf s).1.pos)) (x.map V.nL) (likeSs h V (hdOf s).2.1) (hdOf s).2.2] [] [] s.pos
 | .pass,V,s=>.Pass s.pos
 | .any,V,s=>s
noncomputable def likeSs:List S→Vw→List Stmt→List Stmt
 | [],V,xs=>[]
 | s :: ss,V,xs=>likeS s V (xs.headD default) :: likeSs ss V xs.tail
end
noncomputable def notC (e:E):Bool:=match e with
 | .comp _ _ _ _=>false
 | _=>true
noncomputable def notTup (e:E):Bool:=match e with
 | .tup _=>false
 | _=>true
noncomputable def zipT (k:ItK) (one:Bool):Bool:=match k with
 | .zip=>!one
 | _=>true
noncomputable def okVs (V:Vw) (is:List Nat):Bool:=is.all fun i=>V.ns i==some (V.nL i)
mutual
noncomputable def okS:S→Vw→Stmt→Bool
 | .expr e,V,s=>ok e V (sx s 0)&&notC e
 | .assign i e,V,s=>V.ns i==some (V.nL i)&&ok e V (sx s 0)&&notC e
 | .unpack is e,V,s=>okVs V is&&ok e V (sx s 0)&&notC e&&notTup e
 | .swap is es,V,s=>okVs V is&&oks es V (kids (sx s 0))&&nodupB is&&swapOK V.K (namesX (is.map V.nL) (kids (sx s 1))) (likes es V (kids (sx s 0)))
 | .setitem o i e,V,s=>ok o V (kid (sx s 1) 0)&&ok i V (kid (sx s 1) 1)&&ok e V (sx s 0)&&notC e
 | .ifs t a b,V,s=>ok t V (sx s 0)&&okSs a V (sBody s)&&okSs b V (sElse s)
 | .whiles t b,V,s=>ok t V (sx s 0)&&okSs b V (sBody s)
 | .fors is one k es b,V,s=>(okVs V is&&zipT k one)&&itGl V.K k es&&oks es V (itArgs k (sx s 0))&&okSs b V (sBody s)
 | .ret e,V,s=>ok e V (sx s 0)
 | .raise k m,V,s=>isGl V.K k
 | .tryx b k none h,V,s=>false
 | .tryx b k (some i) h,V,s=>okSs b V (sBody s)&&isGl V.K k&&okSs h V (hdOf s).2.1&&!h.isEmpty&&V.ns i==some (V.nL i)&&V.K (V.nL i)==some .local
 | .pass,V,s=>true
 | .any,V,s=>true
noncomputable def okSs:List S→Vw→List Stmt→Bool
 | [],V,xs=>true
 | s :: ss,V,xs=>okS s V (xs.headD default)&&okSs ss V xs.tail
end
theorem swapped_eq {env:Env} {K:Str→Option NameKind} {ts vs:List Expr} {k k':Nat} {p p':Pos} (hk:env.scope.kind=.function) (hK:∀ x,env.kindOf x=K x) (h:swapOK K ts vs=true) :
  swappedStores [.Tuple ts k p] (.Tuple vs k' p') env=pure (some (namesOf ts)):=by
 unfold swapOK at h
 simp only [Bool.and_eq_true,Bool.not_eq_true',Bool.or_eq_true,beq_iff_eq] at h
 obtain ⟨⟨⟨⟨⟨⟨⟨h1,h2⟩,h3⟩,h4⟩,h5⟩,h6⟩,h7⟩,h8⟩:=h
 have hb:env.blockKind=.function:=by unfold Env.blockKind; rw [hk]; rfl
 unfold swappedStores
 dsimp only
 rw [if_neg (by rw [hb]; rcases h1 with h1 | h1 <;> simp [h1,h2])]
 rw [if_neg (fun z=>by
  have:vs.any isStarred=true:=by
   rw [← z]
   rfl
  rw [h3] at this; cases this)]
 generalize hN:List.filterMap _ ts=N
 have hN':N=namesOf ts:=by
  rw [← hN,← h4]
  unfold swapNames
  congr 1
  funext x
  cases x <;> simp [hK]
 subst hN'
 rw [if_neg (by simp [h5,h6]),if_neg (by rw [h7]; simp),if_neg (by rw [h8]; simp)]
theorem setAll_app (xs:List Nat):∀ (ds:List D) (σ:St) (x:Nat) (d:D),xs.length=ds.length→setAll σ (xs ++ [x]) (ds ++ [d])=(setAll σ xs ds).set x d:=by
 induction xs with
 | nil=>intro ds σ x d h; cases ds with | nil=>rfl | cons=>simp at h
 | cons y ys ih =>
  intro ds σ x d h
  cases ds with
  | nil=>simp at h
  | cons e es=>exact ih es (σ.set y e) x d (by simpa using h)
theorem set_swap {σ:St} {x y:Nat} {d e:D} (h:x≠y):(σ.set x d).set y e=(σ.set y e).set x d:=by
 unfold St.set
 congr 1
 funext j
 by_cases h1:j=x <;> by_cases h2:j=y <;> simp_all
theorem setAll_set:∀ (xs:List Nat) (ds:List D) (σ:St) (x:Nat) (d:D),xs.contains x=false→(setAll σ xs ds).set x d=setAll (σ.set x d) xs ds
 | [],ds,σ,x,d,_=>by cases ds <;> rfl
 | y :: ys,[],σ,x,d,_=>rfl
 | y :: ys,e :: es,σ,x,d,h=>by
  simp only [List.contains_cons,Bool.or_eq_false_iff,beq_eq_false_iff_ne,ne_eq] at h
  show (setAll (σ.set y e) ys es).set x d=setAll ((σ.set x d).set y e) ys es
  rw [setAll_set ys es (σ.set y e) x d h.2,set_swap (fun z=>h.1 z.symm)]
theorem setAll_rev:∀ (xs:List Nat) (ds:List D) (σ:St),xs.length=ds.length→nodupB xs=true→setAll σ xs.reverse ds.reverse=setAll σ xs ds
 | [],[],σ,_,_=>rfl
 | [],_ :: _,σ,h,_=>by simp at h
 | _ :: _,[],σ,h,_=>by simp at h
 | x :: xs,d :: ds,σ,h,hn=>by
  simp only [nodupB,Bool.and_eq_true,Bool.not_eq_true'] at hn
  rw [List.reverse_cons,List.reverse_cons,setAll_app _ _ _ _ _ (by simpa using h),setAll_rev xs ds σ (by simpa using h) hn.2,setAll_set xs ds σ x d hn.1]
  rfl
theorem Reps.reverse {h:Heap} {vs:List Value} {ds:List D} (r:Reps h vs ds):Reps h vs.reverse ds.reverse:=Reps.ind (P:=fun vs ds=>Reps h vs.reverse ds.reverse) .nil (fun x _ z=>by
  rw [List.reverse_cons,List.reverse_cons]
  exact z.append (.cons x .nil)) r
section
variable {c:Cx} {F:Fm} {env:Env} {K:Str→Option NameKind} {ns:Nat→Option Str} {n:Nat} {q:Bool}
theorem unbind_var (FO:FmOK c n q F) (Wr:FmW F) (O:EnvOK F env K ns) {M:Model} {A:Around} {E:Value→Shared→Prop} {i:Nat} {x:Str} {d:D} {σ:St} {s:Shared} {pos:Pos} {Q:Unit→Shared→Prop} (I:Inv c F σ s) (hx:ns i=some x) (hk:K x=some .local) (hd:σ.loc i=some d)
  (h:∀ s',SameSh s s'→Grow s.heap s'.heap→Inv c F (σ.del i) s'→Q () s'):wpAny M A (unbindBehindTheSuite env x pos) Q E s:=by
 have hK:=(O.kinds x).trans hk
 have hl:F.loc i=some (.ns env.locals x):=by
  rcases O.res i x hx with ⟨_,hl⟩ | ⟨hk',_⟩
  ·exact hl
  ·rw [hK] at hk'; cases hk'
 obtain ⟨l,v,e1,e2,e3⟩:=I.vars i d hd
 rw [hl] at e1; cases e1
 obtain ⟨m,hn,hv⟩:=e2
 unfold unbindBehindTheSuite
 refine wpAny_onRaise (wpAny_unbindName_local hK hn hv (by rw [O.kind]; rfl) fun h' u hn' hs'=>?_)
 obtain ⟨o,es,ep,ho,hdt,rr⟩:=id hn
 have kk:∀ b o,b≠env.locals→s.heap.get? b=some o→h'.get? b=some o:=fun b o nb e=>hs'.extBut b o nb e
 have fresh:=Wr.fresh i _ hl
 have nB:c.B.get? env.locals=none:=by
  cases e:c.B.get? env.locals with
  | none=>rfl
  | some o'=>have:=FO.bh _ _ e; rw [show F.hE.get? env.locals=none from fresh] at this; cases this
 have grow:Grow s.heap h':=fun b o' e st=>kk b o' (fun z=>by
  subst z
  rw [ho] at e; cases e
  rcases st with ⟨xs,m,_,st⟩ | ⟨vs,st⟩ <;> (rw [hdt] at st; cases st)) e
 refine h _ ⟨h',s.toks,rfl⟩ grow ⟨I.same.trans ⟨h',s.toks,rfl⟩,fun b o' e=>kk b o' (fun z=>by rw [z,nB] at e; cases e) (I.base b o' e),I.kept.but fresh kk,fun env' he=>?_,fun j d' e=>?_,fun j l' e=>?_,fun a k' e=>?_,I.dap⟩
 ·obtain ⟨h1,L,m',h2,h3,h4⟩:=I.frames env' he
  by_cases z:L=env.locals
  ·exact ⟨h1,L,_,h2,h3,z ▸ hn'⟩
  ·exact ⟨h1,L,m',h2,h3,h4.at' fun o' e=>kk L o' z e⟩
 ·by_cases z:j=i
  ·subst z
   simp [St.del] at e
  ·have e':σ.loc j=some d':=by simpa [St.del,z] using e
   obtain ⟨l',w,e1,e2,e3⟩:=I.vars j d' e'
   refine ⟨l',w,e1,?_,Rep.grow grow e3⟩
   cases l' with
   | ns L y =>
    obtain ⟨m₁,hn₁,hv₁⟩:=e2
    by_cases z':L=env.locals
    ·subst z'
     have:=Ns.unique hn hn₁
     subst this
     refine ⟨_,hn',?_⟩
     rw [if_neg (fun z'=>z (Wr.apart j i _ (by rw [e1,z']) hl))]; exact hv₁
    ·exact ⟨m₁,hn₁.at' fun o e=>kk L o z' e,hv₁⟩
   | cell a =>
    obtain ⟨oa,e1,e2⟩:=e2
    exact ⟨oa,kk a oa (fun z=>by rw [z,ho] at e1; cases e1; rw [hdt] at e2; cases e2) e1,e2⟩
 ·have p:=I.places j l' e
  cases l' with
  | ns L y =>
   obtain ⟨m₁,hn₁⟩:=p
   by_cases z:L=env.locals
   ·subst z; exact ⟨_,hn'⟩
   ·exact ⟨m₁,hn₁.at' fun o e=>kk L o z e⟩
  | cell a =>
   obtain ⟨w,oa,e1,e2⟩:=p
   exact ⟨w,oa,kk a oa (fun z=>by rw [z,ho] at e1; cases e1; rw [hdt] at e2; cases e2) e1,e2⟩
 ·have p:=I.sto a k' e
  cases k' with
  | dict ps =>
   obtain ⟨h0,kvs,h1,h2,h3⟩:=p
   exact ⟨h0,kvs,dict_at h1 fun o' _ _ e' _=>kk a o' ((I.dap a ps e).2 i _ hl) e',h2,Reps.grow grow h3⟩
  | list own ds =>
   obtain ⟨vs,h1,h2,h3⟩:=p
   obtain ⟨oa,e1,e2,m,e3⟩:=id h1
   have na:a≠env.locals:=fun z=>by rw [z,ho] at e1; cases e1; rw [hdt] at e3; cases e3
   exact ⟨vs,⟨oa,kk a oa na e1,e2,m,e3⟩,fun w=>⟨(h2 w).1.at fun o' e'=>kk a o' na e',(h2 w).2⟩,Reps.grow grow h3⟩
end
end Mine
namespace Mine
open PySem PySem.SeqAt
noncomputable def FlRep (h:Heap):Flow→Fl→Prop
 | .next,.next=>True
 | .brk,.brk=>True
 | .cont,.cont=>True
 | .ret v,.ret d=>Rep h v d
 | _,_=>False
theorem FlRep.grow {h h':Heap} (g:Grow h h'):∀ {f:Flow} {fl:Fl},FlRep h f fl→FlRep h' f fl
 | .next,.next,_=>trivial
 | .brk,.brk,_=>trivial
 | .cont,.cont,_=>trivial
 | .ret _,.ret _,r=>Rep.grow g r
noncomputable def PostS (c:Cx) (F:Fm) (h₀:Heap) (Q:Fl→St→Prop):Flow→Shared→Prop:=fun f s'=>∃ fl σ',Grow h₀ s'.heap∧Inv c F σ' s'∧FlRep s'.heap f fl∧Q fl σ'
theorem PostS.grow {c:Cx} {F:Fm} {h₀ h₁:Heap} {Q:Fl→St→Prop} {f:Flow} {s':Shared} (g:Grow h₀ h₁) (x:PostS c F h₁ Q f s'):PostS c F h₀ Q f s':=by
 obtain ⟨d,σ',h1,r⟩:=x
 exact ⟨d,σ',g.trans h1,r⟩
theorem notC_swaps {e:E} {V:Vw} {x:Expr} {t:Option Expr} {l:Nat} {env:Env} (h:notC e=true):swapsWith (like e V x) t l env=pure false:=by
 cases e <;> first | rfl | exact (Bool.false_ne_true h).elim
theorem notTup_swapped {e:E} {V:Vw} {x:Expr} {env:Env} {ts:List Expr} {k:Nat} {tp:Pos} (h:notTup e=true):swappedStores [.Tuple ts k tp] (like e V x) env=pure none:=by
 cases e <;> first | exact (Bool.false_ne_true h).elim | rfl
theorem likeIt_folded {k:ItK} {es:List E} {V:Vw} {xs:List Expr} {x:Expr} {env:Env} {K:Str→Option NameKind} (h:itGl K k es=true) (v:Value):foldedSetIterable (likeIt k (likes es V xs) x) env v=pure v:=by
 cases k with
 | plain =>
  cases es with
  | nil=>exact (Bool.false_ne_true h).elim
  | cons e es=>exact like_folded e V _ env v
 | _=>rfl
section
variable {c:Cx} {F:Fm} {env:Env} {V:Vw} {n:Nat} {q:Bool}
noncomputable def ItG (c:Cx) (F:Fm) (items:List D) (g:St→Prop) (it:Value) (wr:List Addr) (At:Nat→Heap→Prop) (Md:Nat→Value→Heap→Prop) (target:Expr):Prop :=
 (∀ {i:Nat} {σ:St} {s:Shared} {E:Value→Shared→Prop} {Q:Option Value→Shared→Prop} {d:D},Inv c F σ s→g σ→At i s.heap→items[i]?=some d→
  (∀ v h' t,Inv c F σ { s with heap:=h',toks:=t }→Rep h' v d→Md (i+1) v h'→(∀ b o,b∉wr→s.heap.get? b=some o→h'.get? b=some o)→Q (some v) { s with heap:=h',toks:=t })→wpAny (model c.prog c.w) F.A (pyNext it) Q E s)∧
 (∀ {i:Nat} {σ:St} {s:Shared} {E:Value→Shared→Prop} {Q:Option Value→Shared→Prop},Inv c F σ s→g σ→At i s.heap→i=items.length→
  (∀ h' t,Inv c F σ { s with heap:=h',toks:=t }→(∀ b o,b∉wr→s.heap.get? b=some o→h'.get? b=some o)→Q none { s with heap:=h',toks:=t })→wpAny (model c.prog c.w) F.A (pyNext it) Q E s)∧
 (∀ {i:Nat} {σ:St} {s:Shared} {E:Value→Shared→Prop} {Q:Unit→Shared→Prop} {v:Value} {d:D},Inv c F σ s→Md i v s.heap→Rep s.heap v d→
  (∀ h',Inv c F σ { s with heap:=h' }→Rep h' v d→At i h'→(∀ b o,b∉wr→s.heap.get? b=some o→h'.get? b=some o)→Q () { s with heap:=h' })→wpAny (model c.prog c.w) F.A (letOwnedTupleGo target it v) Q E s)∧
 (∀ {i:Nat} {h h':Heap},At i h→Grow h h'→At i h')
section
variable {c:Cx} {F:Fm} {items:List D} {g:St→Prop} {it:Value} {wr:List Addr} {At:Nat→Heap→Prop} {Md:Nat→Value→Heap→Prop} {target:Expr} (h_:ItG c F items g it wr At Md target)
include h_
theorem ItG.next:∀ {i:Nat} {σ:St} {s:Shared} {E:Value→Shared→Prop} {Q:Option Value→Shared→Prop} {d:D},Inv c F σ s→g σ→At i s.heap→items[i]?=some d→
  (∀ v h' t,Inv c F σ { s with heap:=h',toks:=t }→Rep h' v d→Md (i+1) v h'→(∀ b o,b∉wr→s.heap.get? b=some o→h'.get? b=some o)→Q (some v) { s with heap:=h',toks:=t })→wpAny (model c.prog c.w) F.A (pyNext it) Q E s:=h_.1
theorem ItG.last:∀ {i:Nat} {σ:St} {s:Shared} {E:Value→Shared→Prop} {Q:Option Value→Shared→Prop},Inv c F σ s→g σ→At i s.heap→i=items.length→
  (∀ h' t,Inv c F σ { s with heap:=h',toks:=t }→(∀ b o,b∉wr→s.heap.get? b=some o→h'.get? b=some o)→Q none { s with heap:=h',toks:=t })→wpAny (model c.prog c.w) F.A (pyNext it) Q E s:=h_.2.1
theorem ItG.goes:∀ {i:Nat} {σ:St} {s:Shared} {E:Value→Shared→Prop} {Q:Unit→Shared→Prop} {v:Value} {d:D},Inv c F σ s→Md i v s.heap→Rep s.heap v d→
  (∀ h',Inv c F σ { s with heap:=h' }→Rep h' v d→At i h'→(∀ b o,b∉wr→s.heap.get? b=some o→h'.get? b=some o)→Q () { s with heap:=h' })→wpAny (model c.prog c.w) F.A (letOwnedTupleGo target it v) Q E s:=h_.2.2.1
theorem ItG.keep:∀ {i:Nat} {h h':Heap},At i h→Grow h h'→At i h':=h_.2.2.2
end
theorem ItG.mk' {c:Cx} {F:Fm} {items:List D} {g:St→Prop} {it:Value} {wr:List Addr} {At:Nat→Heap→Prop} {Md:Nat→Value→Heap→Prop} {target:Expr} (next:∀ {i:Nat} {σ:St} {s:Shared} {E:Value→Shared→Prop} {Q:Option Value→Shared→Prop} {d:D},Inv c F σ s→g σ→At i s.heap→items[i]?=some d→
  (∀ v h' t,Inv c F σ { s with heap:=h',toks:=t }→Rep h' v d→Md (i+1) v h'→(∀ b o,b∉wr→s.heap.get? b=some o→h'.get? b=some o)→Q (some v) { s with heap:=h',toks:=t })→wpAny (model c.prog c.w) F.A (pyNext it) Q E s) (last:∀ {i:Nat} {σ:St} {s:Shared} {E:Value→Shared→Prop} {Q:Option Value→Shared→Prop},Inv c F σ s→g σ→At i s.heap→i=items.length→
  (∀ h' t,Inv c F σ { s with heap:=h',toks:=t }→(∀ b o,b∉wr→s.heap.get? b=some o→h'.get? b=some o)→Q none { s with heap:=h',toks:=t })→wpAny (model c.prog c.w) F.A (pyNext it) Q E s) (goes:∀ {i:Nat} {σ:St} {s:Shared} {E:Value→Shared→Prop} {Q:Unit→Shared→Prop} {v:Value} {d:D},Inv c F σ s→Md i v s.heap→Rep s.heap v d→
  (∀ h',Inv c F σ { s with heap:=h' }→Rep h' v d→At i h'→(∀ b o,b∉wr→s.heap.get? b=some o→h'.get? b=some o)→Q () { s with heap:=h' })→wpAny (model c.prog c.w) F.A (letOwnedTupleGo target it v) Q E s) (keep:∀ {i:Nat} {h h':Heap},At i h→Grow h h'→At i h'):ItG c F items g it wr At Md target:=⟨next,last,goes,keep⟩
theorem ItOK.gen {items:List D} {g:St→Prop} {it:Value} {wr:List Addr} {At:Nat→Heap→Prop} {target:Expr} (W:ItOK c F items g it wr At):ItG c F items g it wr At (fun i _ h=>At i h) target:=ItG.mk'
 (next:=fun I hg hat hd hQ=>W.next I hg hat hd fun v h' t rv hat' k=>hQ v h' t (I.turnedL (t:=t) (fun a ha=>⟨W.own hat a ha,W.fresh a ha⟩) k) rv hat' k)
 (last:=fun I hg hat hi hQ=>W.last I hg hat hi fun h' t k=>hQ h' t (I.turnedL (t:=t) (fun a ha=>⟨W.own hat a ha,W.fresh a ha⟩) k) k)
 (goes:=fun {i σ s E Q v d} I hat rv hQ=>W.goes hat fun h' hat' k=>hQ h' (I.turnedL (t:=s.toks) (fun a ha=>⟨W.own hat a ha,W.fresh a ha⟩) k) (rep_fields (W.own hat) k rv) hat' k)
 (keep:=W.keep)
theorem s_for (R:Run c F env V n q) {items:List D} {g:St→Prop} {it:Value} {wr:List Addr} {At:Nat→Heap→Prop} {Md:Nat→Value→Heap→Prop} {target:Expr} (W:ItG c F items g it wr At Md target) {body:List Stmt} {step:D→(Fl→St→Prop)→St→Prop} {h₀:Heap} {Q:Fl→St→Prop} {X:Str→St→Prop} {Rr:Result→Shared→Prop}
  (fresh:∀ b∈wr,∀ o,h₀.get? b=some o→¬ stable o)
  (turn:∀ (d:D) (v:Value) (σ:St) (s:Shared) (Kk:Fl→St→Prop),Inv c F σ s→Rep s.heap v d→step d Kk σ→
   wpAny (model c.prog c.w) F.A (assign target env v) (fun _ s₂=>wpAny (model c.prog c.w) F.A (execs body env) (PostS c F s.heap Kk) (Exc c F s.heap X) s₂) (Exc c F s.heap X) s)
  (done:∀ f s',PostS c F h₀ Q f s'→Rr (.ok f) s') (bad:∀ e s',Exc c F h₀ X e s'→notedBy (model c.prog c.w) F.A env (fun e s'=>Rr (.error e) s') e s') {σ:St} {s:Shared} (I:Inv c F σ s) (g₀:Grow h₀ s.heap) (h0:At 0 s.heap) (w:forL g step items Q σ) :
  codeAny (model c.prog c.w) F.A (.forLoop target it body [] env) Rr s:=by
 refine codeAny_forLoop_any (fun m s₁=>∃ i σ',i≤items.length∧m=items.length - i∧Inv c F σ' s₁∧Grow h₀ s₁.heap∧At i s₁.heap∧forL g step (items.drop i) Q σ') (fun m s₁ hI=>?_) items.length ⟨0,σ,Nat.zero_le _,rfl,I,g₀,h0,by simpa using w⟩
 obtain ⟨i,σ',hi,rfl,I₁,g₁,hat,w₁⟩:=hI
 have grow:∀ h':Heap,(∀ b o,b∉wr→s₁.heap.get? b=some o→h'.get? b=some o)→Grow h₀ h':=fun h' k b o e st=>k b o (fun m=>fresh b m o e st) (g₁ b o e st)
 rcases Nat.lt_or_eq_of_le hi with hlt | rfl
 ·have hd:items[i]?=some items[i]:=by simp [hlt]
  rw [List.drop_eq_getElem_cons hlt] at w₁
  obtain ⟨hg,w₁⟩:=w₁
  refine W.next I₁ hg hat hd fun v h' t I₂ rv hat' k=>?_
  have g₂:=grow h' k
  refine W.goes I₂ hat' rv fun h'' I₃ rv' hat'' k''=>?_
  have g₃:Grow h₀ h'':=fun b o e st=>k'' b o (fun m=>fresh b m o e st) (g₂ b o e st)
  refine wpAny_mono (turn items[i] v σ' { s₁ with heap:=h'',toks:=t } _ I₃ rv' w₁) (fun _ s₄ p₄=>wpAny_mono p₄ (fun f s₅ p₅=>?_) fun e s' y=>bad e s' (y.grow g₃)) fun e s' y=>bad e s' (y.grow g₃)
  obtain ⟨fl,σ₅,g₅,I₅,rf,w₅⟩:=p₅
  cases f with
  | next =>
   cases fl <;> first | exact rf.elim | skip
   exact ⟨_,by exact o51 hlt,i+1,σ₅,hlt,rfl,I₅,g₃.trans g₅,W.keep hat'' g₅,w₅⟩
  | cont =>
   cases fl <;> first | exact rf.elim | skip
   exact ⟨_,by exact o51 hlt,i+1,σ₅,hlt,rfl,I₅,g₃.trans g₅,W.keep hat'' g₅,w₅⟩
  | brk =>
   cases fl <;> first | exact rf.elim | skip
   exact done _ _ ⟨.next,σ₅,g₃.trans g₅,I₅,trivial,w₅⟩
  | ret v =>
   cases fl <;> first | exact rf.elim | skip
   exact done _ _ ⟨.ret _,σ₅,g₃.trans g₅,I₅,rf,w₅⟩
 ·rw [List.drop_length] at w₁
  obtain ⟨hg,w₁⟩:=w₁
  refine W.last I₁ hg hat rfl fun h' t I₂ k=>?_
  exact wpAny_execs_nil (done _ _ ⟨.next,σ',grow h' k,I₂,trivial,w₁⟩)
theorem s_suiteAs (R:Run c F env V n true) (Wr:FmW F) (RO:RzOK c) (henv:env=F.fenv) {σ:St} {sc s':Shared} {ea C Ck:Addr} {e k z:Str} {i:Nat} {E:Value→Shared→Prop} {h₀:Heap} {Q:Fl→St→Prop} {b₀:Stmt} {suite:List Stmt} {np pos:Pos} (g₀:Grow h₀ sc.heap)
  (I:Inv c F σ sc) (hs:SameSh sc s') (hk:Kept F.fs1 sc.heap s'.heap) (u:Up F sc.heap ea C s'.heap) (he:c.cls e=some C) (hck:c.cls k=some Ck) (hgl:isGl V.K k=true) (hsub:c.sub e k=true) (hz:V.ns i=some z) (hzl:V.K z=some .local)
  (go:∀ s₂,Inv c (F.marked ea) (σ.set i (.exc ea e C)) s₂→wpAny (model c.prog c.w) (F.marked ea).A (execs (b₀ :: suite) env) (PostS c (F.marked ea) s₂.heap fun fl σ₂=>Q fl (σ₂.del i)) (Exc c (F.marked ea) s₂.heap noX) s₂) :
  wpAny (model c.prog c.w) F.A (noteFrame (.ref ea) env) (fun _ s₂=>wpAny (model c.prog c.w) F.A (setFlight (.ref ea) none) (fun _ s₃=>wpAny (model c.prog c.w) F.A (handleBy (.ref ea) env [.ExceptHandler (some (.Name k np)) (some z) (b₀ :: suite) pos]) (PostS c F h₀ Q) E s₃) E s₂) E s':=by
 refine s_catch R RO henv I hs hk u he hck hgl hsub fun s₂ hs₂ hk₂ I₂ r₂ ⟨B',a0,hfl,hB⟩=>?_
 refine codeAny_handlers_suite_as (PyProof.Rows.lands_againW hfl fun h₃ hfl₃ hu₃=>?_)
 have kk:Kept F.fs1 sc.heap h₃:=kept_up I.frames hk₂ hB hfl₃.1 hu₃
 have hs₃:SameSh sc { s₂ with heap:=h₃ }:=hs₂.trans ⟨h₃,s₂.toks,rfl⟩
 have I₃:=I.after R.FO (s':={ s₂ with heap:=h₃ }) kk hs₃
 obtain ⟨oe,ws,hoe,hoec,hoed,hoe0⟩:=hfl₃.first
 have r₃:Rep h₃ (.ref ea) (.exc ea e C):=.exc hoe hoec hoed
 refine store_var I₃ R.FO Wr R.O hz r₃ fun s₄ hs₄ g₄ I₄=>?_
 refine wpAny_mono (go _ (I₄.marked ea)) (fun f s₅ p=>?_) fun _ _ y=>(exc_noX y).elim
 obtain ⟨fl,σ',g,I',rf,w⟩:=p
 refine wpAny_bind (wpAny_bindName (store_var I'.unmarked R.FO Wr R.O hz .none fun s₆ hs₆ g₆ I₆=>?_))
 refine unbind_var R.FO Wr R.O I₆ hz hzl (d:=.none) (by simp [St.set]) fun s₇ hs₇ g₇ I₇=>?_
 refine ⟨fl,_,(((g₀.trans kk.grow).trans g₄).trans g).trans (g₆.trans g₇),I₇,rf.grow (g₆.trans g₇),?_⟩
 have:(σ'.set i .none).del i=σ'.del i:=by
  unfold St.set St.del
  congr 1
  funext j
  by_cases h:j=i <;> simp [h]
 rw [this]; exact w
end
end Mine
namespace Mine
open PySem PySem.SeqAt
noncomputable def PostG (c:Cx) (F:Fm) (h₀:Heap) (Kc:List D→(St→Prop)→St→Prop) (target:Expr):Value→Shared→Prop:=fun itv s₂ =>
 ∃ items g σ' wr At Md sb,Grow h₀ sb.heap∧Inv c F σ' sb∧SameSh sb s₂∧(∀ b o,sb.heap.get? b=some o→s₂.heap.get? b=some o)∧(∀ b∈wr,sb.heap.get? b=none)∧ItG c F items g itv wr At Md target∧At 0 s₂.heap∧Kc items g σ'
theorem postG_of {c:Cx} {F:Fm} {h₀:Heap} {Kc:List D→(St→Prop)→St→Prop} {target:Expr} {itv:Value} {s₂:Shared} (h:PostI c F h₀ Kc itv s₂):PostG c F h₀ Kc target itv s₂:=by
 obtain ⟨items,g,σ,wr,At,sb,h1,h2,h3,h4,h5,W,hat,w⟩:=h
 exact ⟨items,g,σ,wr,At,_,sb,h1,h2,h3,h4,h5,W.gen,hat,w⟩
end Mine
namespace Mine
open PySem PySem.SeqAt
theorem zip_rev {α β:Type}:∀ (xs:List α) (ys:List β),xs.length=ys.length→∀ p∈xs.reverse.zip ys.reverse,p∈xs.zip ys
 | [],[],_,p,h=>h
 | [],_ :: _,h,_,_=>by simp at h
 | _ :: _,[],h,_,_=>by simp at h
 | x :: xs,y :: ys,h,p,hp=>by
  rw [List.reverse_cons,List.reverse_cons,List.zip_append (by simpa using h)] at hp
  rcases List.mem_append.mp hp with hp | hp
  ·exact List.mem_cons_of_mem _ (zip_rev xs ys (by simpa using h) p hp)
  ·simp at hp; simp [hp]
theorem sole_swaps {e:E} {V:Vw} {x t:Expr} {l:Nat} {env:Env} (h:notC e=true):swapsWithSole [t] (like e V x) l env=pure false:=by
 show swapsWith (like e V x) (some t) l env=pure false
 exact notC_swaps h
theorem zip_self {α:Type}:∀ (xs:List α) (p:α×α),p∈xs.zip xs→p.1=p.2
 | [],p,h=>by cases h
 | x :: xs,p,h=>by
  rcases List.mem_cons.mp h with rfl | h
  ·rfl
  ·exact zip_self xs p h
theorem sI {c:Cx} {F:Fm} {env:Env} {V:Vw} {n:Nat} (R:Run c F env V n true) (k:ItK) (es:List E) (x:Expr) {one:Bool} {ss:List Str} {y:Expr} (hz:zipT k one=true) (h0:itGl V.K k es=true) (h:oks es V (itArgs k x)=true) {Kc:List D→(St→Prop)→St→Prop} {X:Str→St→Prop} {σ:St} {s:Shared} (I:Inv c F σ s) (w:wI c n true k es Kc X σ) :
  wpAny (model c.prog c.w) F.A (eval (likeIt k (likes es V (itArgs k x)) x) env) (fun v s₁=>wpAny (model c.prog c.w) F.A (pyIter v) (PostG c F s.heap Kc (tgt one ss y)) (Exc c F s.heap X) s₁) (Exc c F s.heap X) s:=by
 cases k with
 | plain =>
  cases es with
  | nil=>exact (Bool.false_ne_true h0).elim
  | cons e es =>
  cases es with
  | cons _ _=>exact (Bool.false_ne_true h0).elim
  | nil =>
   refine wpAny_mono (sE e x (and2 h).1 R I w) (fun v s₁ p₁=>?_) fun _ _ y=>y
   obtain ⟨d,σ₁,g₁,I₁,r₁,w₁⟩:=p₁
   exact wpAny_mono (s_items (E:=Exc c F s.heap X) I₁ (R.FO.handled rfl) g₁ r₁ w₁) (fun _ _ y=>postG_of y) fun _ _ y=>y
 | range =>
  show wpAny _ _ (eval (.Call (.Name rangeS (kid x 0).pos) (likes es V (kids x).tail) [] x.pos) env) _ _ s
  rw [eval_Call_Name]
  refine wpAny_bind (load_builtin R.CO R.O I h0 (R.CO.free "range" (by decide)) PyProof.Rows.Boot.«range» ?_)
  have:=sEs x.pos es (kids x).tail h R I w
  rw [backTo_plain] at this ⊢
  refine PyProof.Rows.callWith_type (any_plain _ env) (evalArgs_any (any_plain _ env) (wpAny_mono this (fun vs s₁ p₁=>?_) fun _ _ y=>y))
  obtain ⟨ds,σ₁,g₁,I₁,r₁,hs,items,hi,hK⟩:=p₁
  exact wpAny_mono (s_range (E:=Exc c F s.heap X) I₁ R.FO R.CO g₁ r₁ hs hi hK) (fun _ _ p=>wpAny_mono p (fun _ _ y=>postG_of y) fun _ _ y=>y) fun _ _ y=>y
 | zip =>
  show wpAny _ _ (eval (.Call (.Name zipS (kid x 0).pos) (likes es V (kids x).tail) [] x.pos) env) _ _ s
  rw [eval_Call_Name]
  refine wpAny_bind (load_builtin R.CO R.O I h0 (R.CO.free "zip" (by decide)) PyProof.Rows.Boot.«zip» ?_)
  have:=sEs x.pos es (kids x).tail h R I w
  rw [backTo_plain] at this ⊢
  refine PyProof.Rows.callWith_type (any_plain _ env) (evalArgs_any (any_plain _ env) (wpAny_mono this (fun vs s₁ p₁=>?_) fun _ _ y=>y))
  obtain ⟨ds,σ₁,g₁,I₁,r₁,w₁⟩:=p₁
  exact (show False from w₁).elim
section
variable {c:Cx} {env:Env} {V:Vw} {n:Nat}
theorem okVs_all {is:List Nat} (h:okVs V is=true):∀ i∈is,V.ns i=some (V.nL i):=fun i hi=>beq_iff_eq.mp (List.all_eq_true.mp h i hi)
theorem zip_map_ns {is:List Nat} (h:∀ i∈is,V.ns i=some (V.nL i)):∀ p∈is.zip (is.map V.nL),V.ns p.1=some p.2:=fun p hp=>by
 rw [List.zip_map_right] at hp
 obtain ⟨p',h1,rfl⟩:=List.mem_map.mp hp
 have e:p'.1=p'.2:=zip_self is p' h1
 show V.ns p'.1=some (V.nL p'.2)
 rw [← e]
 exact h _ (List.of_mem_zip h1).1
mutual
theorem sS (RO:RzOK c):∀ (st:S) (x:Stmt),okS st V x=true→∀ {F:Fm} {q:Bool},Run c F env V n q→FmW F→env=F.fenv→∀ {Q:Fl→St→Prop} {X:Str→St→Prop} {σ:St} {s:Shared},Inv c F σ s→wS c n q st Q X σ→
  wpAny (model c.prog c.w) F.A (exec (likeS st V x) env) (PostS c F s.heap Q) (Exc c F s.heap X) s
 | .expr e,x,h,F,q,R,Wr,henv,Q,X,σ,s,I,w=>by
  refine wpAny_Expr_any (wpAny_mono (sE e (sx x 0) (and2 h).1 R I w) (fun v s₁ p₁=>?_) fun _ _ y=>y) (by unfold interactive; rw [R.O.kind]; rfl) (notC_swaps (and2 h).2)
  obtain ⟨d,σ₁,g₁,I₁,r₁,w₁⟩:=p₁
  exact ⟨.next,σ₁,g₁,I₁,trivial,w₁⟩
 | .assign i e,x,h,F,q,R,Wr,henv,Q,X,σ,s,I,w=>by
  obtain ⟨h,h3⟩:=and2 h
  obtain ⟨h1,h2⟩:=and2 h
  refine wpAny_Assign_Name (wpAny_mono (sE e (sx x 0) h2 R I w) (fun v s₁ p₁=>?_) fun _ _ y=>y) (notC_swaps h3)
  obtain ⟨d,σ₁,g₁,I₁,r₁,w₁⟩:=p₁
  exact store_var I₁ R.FO Wr R.O (beq_iff_eq.mp h1) r₁ fun s₂ _ g₂ I₂=>⟨.next,_,g₁.trans g₂,I₂,trivial,w₁⟩
 | .unpack is e,x,h,F,q,R,Wr,henv,Q,X,σ,s,I,w=>by
  obtain ⟨h,h4⟩:=and2 h
  obtain ⟨h,h3⟩:=and2 h
  obtain ⟨h1,h2⟩:=and2 h
  obtain ⟨hq,w⟩:=w
  subst hq
  refine PyProof.Rows.Assign_Tuple (wpAny_mono (sE e (sx x 0) h2 R I w) (fun v s₁ p₁=>?_) fun _ _ y=>y) (sole_swaps h3) (notTup_swapped h4)
  obtain ⟨d,σ₁,g₁,I₁,r₁,ds,rfl,hl,w₁⟩:=p₁
  exact s_assignT R.FO Wr R.O (okVs_all h1) hl r₁ I₁ fun s₂ _ g₂ I₂=>⟨.next,_,g₁.trans g₂,I₂,trivial,w₁⟩
 | .swap is es,x,h,F,q,R,Wr,henv,Q,X,σ,s,I,w=>by
  obtain ⟨h,h3⟩:=and2 h
  obtain ⟨h,h4⟩:=and2 h
  obtain ⟨h1,h2⟩:=and2 h
  obtain ⟨hq,w⟩:=w
  subst hq
  refine PyProof.Rows.Assign_Tuple_swapped (names:=namesOf (namesX (is.map V.nL) (kids (sx x 1)))) (wpAny_mono (sE (.tup es) (sx x 0) h2 R I w) (fun v s₁ p₁=>?_) fun _ _ y=>y) rfl (swapped_eq R.O.kind R.O.kinds h3)
  rw [names_namesX]
  obtain ⟨d,σ₁,g₁,I₁,r₁,ds,rfl,hdl,w₁⟩:=p₁
  obtain ⟨a,m,us,rfl,hat,rs⟩:=rep_tup r₁
  have hln:=rs.length
  have hnm:(is.map V.nL).length=us.toArray.size:=by
   rw [List.length_map,← hdl,← hln]; rfl
  rw [hnm]
  refine wpAny_unpackItems_tuple (R.FO.handled rfl) (IsT.tuple hat) fun h' he=>?_
  have kk:∀ b o,s₁.heap.get? b=some o→h'.get? b=some o:=fun b o e=>he b o (Nat.ne_of_lt (Heap.lt_size e)) e
  refine s_stores R.FO Wr R.O is.reverse (is.map V.nL).reverse ds.reverse _ σ₁ { s₁ with heap:=h' } _ (by simp [hdl]) (fun p hp=>?_) (by simp) (rs.reverse.grow (grow_of_keeps kk)) (I₁.keeps (t:=s₁.toks) kk) fun s₂ hs₂ g₂ I₂=>?_
  ·exact zip_map_ns (okVs_all h1) p (zip_rev is (is.map V.nL) (by simp) p hp)
  ·rw [setAll_rev is ds σ₁ hdl.symm h4] at I₂
   exact ⟨.next,_,(g₁.trans (grow_of_keeps kk)).trans g₂,I₂,trivial,w₁⟩
 | .setitem o i e,x,h,F,q,R,Wr,henv,Q,X,σ,s,I,w=>by
  obtain ⟨h,h4⟩:=and2 h
  obtain ⟨h,h3⟩:=and2 h
  obtain ⟨h1,h2⟩:=and2 h
  refine wpAny_Assign_Subscript (wpAny_mono (sE e (sx x 0) h3 R I w) (fun v s₁ p₁=>?_) fun _ _ y=>y) (notC_swaps h4)
  obtain ⟨d,σ₁,g₁,I₁,r₁,w₁⟩:=p₁
  refine wpAny_mono (sE o _ h1 R I₁ w₁) (fun v₂ s₂ p₂=>?_) fun _ _ y=>y.grow g₁
  obtain ⟨d₂,σ₂,g₂,I₂,r₂,w₂⟩:=p₂
  refine wpAny_mono (sE i _ h2 R I₂ w₂) (fun v₃ s₃ p₃=>?_) fun _ _ y=>y.grow (g₁.trans g₂)
  obtain ⟨d₃,σ₃,g₃,I₃,r₃,w₃⟩:=p₃
  refine wpAny_mono (s_set (E:=Exc c F s.heap X) I₃ R.FO (r₂.grow g₃) r₃ (r₁.grow (g₂.trans g₃)) w₃) (fun _ s₄ p₄=>?_) fun _ _ y=>y
  obtain ⟨σ₄,g₄,I₄,w₄⟩:=p₄
  exact ⟨.next,σ₄,((g₁.trans g₂).trans g₃).trans g₄,I₄,trivial,w₄⟩
 | .ifs t a b,x,h,F,q,R,Wr,henv,Q,X,σ,s,I,w=>by
  obtain ⟨h,h3⟩:=and2 h
  obtain ⟨h1,h2⟩:=and2 h
  refine wpAny_If (wpAny_mono (sT R t (sx x 0) h1 I w) (fun r s₁ p₁=>?_) fun _ _ y=>y)
  obtain ⟨σ₁,g₁,I₁,w₁⟩:=p₁
  cases r with
  | true =>
   rw [if_pos rfl] at w₁ ⊢
   exact wpAny_mono (sSs RO a _ h2 R Wr henv I₁ w₁) (fun _ _ y=>y.grow g₁) fun _ _ y=>y.grow g₁
  | false =>
   rw [if_neg Bool.false_ne_true] at w₁ ⊢
   exact wpAny_mono (sSs RO b _ h3 R Wr henv I₁ w₁) (fun _ _ y=>y.grow g₁) fun _ _ y=>y.grow g₁
 | .whiles t b,x,h,F,q,R,Wr,henv,Q,X,σ,s,I,w=>by
  obtain ⟨h1,h2⟩:=and2 h
  obtain ⟨J,m,hJ,step⟩:=w
  refine wpAny_While (codeAny_whileLoop (fun k s₁=>∃ σ',Inv c F σ' s₁∧Grow s.heap s₁.heap∧J σ'∧m σ'=k) (fun k s₁ hI=>?_) (m σ) ⟨σ,I,Grow.refl _,hJ,rfl⟩)
  obtain ⟨σ',I₁,g₁,j₁,rfl⟩:=hI
  refine wpAny_mono (sT R t (sx x 0) h1 I₁ (step σ' j₁)) (fun r s₂ p₂=>?_) fun _ _ y=>(exc_noX y).elim
  obtain ⟨σ₂,g₂,I₂,w₂⟩:=p₂
  cases r with
  | true =>
   rw [if_pos rfl] at w₂ ⊢
   refine wpAny_mono (sSs RO b _ h2 R Wr henv I₂ w₂) (fun f s₃ p₃=>?_) fun _ _ y=>(exc_noX y).elim
   obtain ⟨fl,σ₃,g₃,I₃,rf,w₃⟩:=p₃
   cases f with
   | next =>
    cases fl <;> first | exact rf.elim | skip
    exact ⟨_,w₃.2,σ₃,I₃,(g₁.trans g₂).trans g₃,w₃.1,rfl⟩
   | cont =>
    cases fl <;> first | exact rf.elim | skip
    exact ⟨_,w₃.2,σ₃,I₃,(g₁.trans g₂).trans g₃,w₃.1,rfl⟩
   | brk =>
    cases fl <;> first | exact rf.elim | skip
    exact ⟨.next,σ₃,(g₁.trans g₂).trans g₃,I₃,trivial,w₃⟩
   | ret v =>
    cases fl <;> first | exact rf.elim | skip
    exact ⟨.ret _,σ₃,(g₁.trans g₂).trans g₃,I₃,rf,w₃⟩
  | false =>
   rw [if_neg Bool.false_ne_true] at w₂ ⊢
   exact wpAny_execs_nil ⟨.next,σ₂,g₁.trans g₂,I₂,trivial,w₂⟩
 | .fors is one k es b,x,h,F,q,R,Wr,henv,Q,X,σ,s,I,w=>by
  obtain ⟨h,h4⟩:=and2 h
  obtain ⟨h,h3⟩:=and2 h
  obtain ⟨h1,h2⟩:=and2 h
  obtain ⟨h1,hz⟩:=and2 h1
  obtain ⟨hq,w⟩:=w
  subst hq
  refine wpAny_For (wpAny_mono (sI R k es (sx x 0) (ss:=is.map V.nL) (y:=sx x 1) hz h2 h3 I w) (fun v s₁ p₁=>wpAny_mono p₁ (fun itv s₂ p₂=>?_) fun _ _ y=>y) fun _ _ y=>y) (likeIt_folded h2)
  obtain ⟨items,g,σ₂,wr,At,Md,sb,g₂,I₂,hs₂,kb,fr,W,hat,w₂⟩:=p₂
  obtain ⟨h',t',rfl⟩:=hs₂
  refine s_for R W (fun b hb o e st=>by have:=g₂ b o e st; rw [fr b hb] at this; cases this) (fun d v' σ' s' Kk I' r' w'=>?_) (fun f s' ps=>ps) (fun e s' y=>exc_came R henv y) (I₂.keeps (t:=t') kb) (g₂.trans (grow_of_keeps kb)) hat w₂
  exact s_bind R.FO Wr R.O (okVs_all h1) r' I' w' fun s₃ ds _ g₃ I₃ w₃=>wpAny_mono (sSs RO b _ h4 R Wr henv I₃ w₃) (fun _ _ y=>y.grow g₃) fun _ _ y=>y.grow g₃
 | .ret e,x,h,F,q,R,Wr,henv,Q,X,σ,s,I,w=>by
  refine wpAny_Return_some (wpAny_mono (sE e (sx x 0) h R I w) (fun v s₁ p₁=>?_) fun _ _ y=>y)
  obtain ⟨d,σ₁,g₁,I₁,r₁,w₁⟩:=p₁
  exact ⟨.ret d,σ₁,g₁,I₁,r₁,w₁⟩
 | .raise k m,x,h,F,q,R,Wr,henv,Q,X,σ,s,I,w=>by
  obtain ⟨hq,⟨C,hC⟩,w⟩:=w
  subst hq
  exact s_raise R RO I h hC w
 | .tryx b k none hd,x,h,F,q,R,Wr,henv,Q,X,σ,s,I,w=>(Bool.false_ne_true h).elim
 | .tryx b k (some i) hd,x,h,F,q,R,Wr,henv,Q,X,σ,s,I,w=>by
  obtain ⟨h,h6⟩:=and2 h
  obtain ⟨h,h5⟩:=and2 h
  obtain ⟨h,h4⟩:=and2 h
  obtain ⟨h,h3⟩:=and2 h
  obtain ⟨h1,h2⟩:=and2 h
  obtain ⟨hq,⟨Ck,hCk⟩,w⟩:=w
  subst hq
  refine wpAny_Try_except (wpAny_mono (sSs RO b _ h1 R Wr henv I w) (fun f s₁ p₁=>?_) fun e s₁ y=>?_)
  ·obtain ⟨fl,σ₁,g₁,I₁,rf,w₁⟩:=p₁
   cases f <;> cases fl <;> first | exact rf.elim | exact wpAny_execs_nil ⟨.next,σ₁,g₁,I₁,trivial,w₁⟩ | exact ⟨_,σ₁,g₁,I₁,rf,w₁⟩
  ·obtain ⟨ea,nm,C,σ',sc,rfl,hC,g,I',hs,hB,hk,up,hsub,w'⟩:=y
   cases hd with
   | nil=>exact (Bool.false_ne_true h4).elim
   | cons s₀ hd=>exact s_suiteAs R Wr RO henv g I' hs hk up hC hCk h2 hsub (beq_iff_eq.mp h5) (beq_iff_eq.mp h6) fun s₂ I₂=>sSs RO (s₀ :: hd) _ h3 (R.marked ea) (Wr.marked ea) henv I₂ (w' ea C hC)
 | .pass,x,h,F,q,R,Wr,henv,Q,X,σ,s,I,w=>by
  exact wpAny_Pass ⟨.next,σ,Grow.refl _,I,trivial,w⟩
 | .any,x,h,F,q,R,Wr,henv,Q,X,σ,s,I,w=>(show False from w).elim
theorem sSs (RO:RzOK c):∀ (ss:List S) (xs:List Stmt),okSs ss V xs=true→∀ {F:Fm} {q:Bool},Run c F env V n q→FmW F→env=F.fenv→∀ {Q:Fl→St→Prop} {X:Str→St→Prop} {σ:St} {s:Shared},Inv c F σ s→wSs c n q ss Q X σ→
  wpAny (model c.prog c.w) F.A (execs (likeSs ss V xs) env) (PostS c F s.heap Q) (Exc c F s.heap X) s
 | [],xs,h,F,q,R,Wr,henv,Q,X,σ,s,I,w=>wpAny_execs_nil ⟨.next,σ,Grow.refl _,I,trivial,w⟩
 | st :: ss,xs,h,F,q,R,Wr,henv,Q,X,σ,s,I,w=>by
  refine wpAny_execs_cons (wpAny_mono (sS RO st _ (and2 h).1 R Wr henv I w) (fun f s₁ p₁=>?_) fun _ _ y=>y)
  obtain ⟨fl,σ₁,g₁,I₁,rf,w₁⟩:=p₁
  cases f with
  | next =>
   cases fl <;> first | exact rf.elim | skip
   exact wpAny_mono (sSs RO ss _ (and2 h).2 R Wr henv I₁ w₁) (fun _ _ y=>y.grow g₁) fun _ _ y=>y.grow g₁
  | cont=>cases fl <;> first | exact rf.elim | exact ⟨_,σ₁,g₁,I₁,rf,w₁⟩
  | brk=>cases fl <;> first | exact rf.elim | exact ⟨_,σ₁,g₁,I₁,rf,w₁⟩
  | ret v=>cases fl <;> first | exact rf.elim | exact ⟨_,σ₁,g₁,I₁,rf,w₁⟩
end
end
end Mine
namespace Mine
open PySem PySem.SeqAt
noncomputable def nodupS:List Str→Bool
 | []=>true
 | x :: xs=>!(xs.contains x)&&nodupS xs
noncomputable def vwOf (names:List (Str×NameKind)) (vars:List Str):Vw:=⟨fun x=>names.lookup x,fun i=>vars[i]?,fun i=>(vars[i]?).getD emptyS,fun i=>(vars[i]?).isSome⟩
noncomputable def fnChk (names:List (Str×NameKind)) (ps vars:List Str) (ss:List S) (body:List Stmt):Bool :=
 (vars.take ps.length==ps)&&nodupS vars&&vars.all (fun x=>names.lookup x==some .local || names.lookup x==some .cell)&&okSs ss (vwOf names vars) body
noncomputable def FnIs (c:Cx) (f:Str) (ps vars:List Str) (ss:List S):Prop:=∃ a o fd body,c.mg f=some (.ref a)∧c.B.get? a=some o∧o.data=.func fd∧c.B.CodeRec fd.code fd.qualname∧fd.body=.stmts body∧
 (∀ vs:List Value,vs.length=ps.length→bindArgs fd ⟨vs,[]⟩=pure (ps.zip vs))∧fd.closure=[]∧fd.scope.isCoroutine=false∧fd.scope.isGenerator=false∧fd.scope.kind=.function∧fd.globals=mainGlobals∧fd.builtins=builtinsNs∧fnChk fd.scope.names ps vars ss body=true∧likeSs ss (vwOf fd.scope.names vars) body=body
noncomputable def Ret (sto τ:Sto) (Q:D→Sto→Prop) (d:D):Prop:=∃ sto':Sto,(∀ b k,sto' b=some k→sto b=some k∨(τ b=some k∧k.mine))∧((∀ b k,τ b=some k→k.mine→sto b=none)→Q d sto')
noncomputable def EndQ (sto:Sto) (Q:D→Sto→Prop):Fl→St→Prop:=fun fl σ=>match fl with
 | .next=>Ret sto σ.sto Q .none
 | .ret d=>Ret sto σ.sto Q d
 | _=>False
theorem mine_new {h hE:Heap} {b:Addr} {k:Cell} (p:CellOK h hE b k) (hm:k.mine):hE.get? b=none:=by
 cases k with
 | list own ds=>obtain ⟨_,_,p2,_⟩:=p; exact (p2 hm).2
 | dict ps=>exact p.1
theorem ret_plain {sto τ:Sto} {Q:D→Sto→Prop} {d:D} (h:Q d sto):Ret sto τ Q d:=⟨sto,fun b k e=>.inl e,fun _=>h⟩
theorem ret_list {sto τ:Sto} {Q:D→Sto→Prop} {l:Addr} {xs:List D} (e:τ l=some (.list true xs)) (h:sto l=none→Q (.lst l) (Sto.put sto l (.list true xs))):Ret sto τ Q (.lst l):=by
 refine ⟨Sto.put sto l (.list true xs),fun b k e'=>?_,fun f=>h (f l _ e rfl)⟩
 unfold Sto.put at e'
 split at e'
 ·rename_i hb
  subst hb
  cases e'
  exact .inr ⟨e,rfl⟩
 ·exact .inl e'
noncomputable def startSt (ds:List D) (sto:Sto):St:=⟨fun i=>ds[i]?,Sto.ro sto⟩
theorem nodupS_get {xs:List Str} (h:nodupS xs=true):∀ {i j:Nat} {x:Str},xs[i]?=some x→xs[j]?=some x→i=j:=by
 induction xs with
 | nil=>intro i j x e; simp at e
 | cons y ys ih =>
  simp only [nodupS,Bool.and_eq_true,Bool.not_eq_true',List.contains_eq_mem,decide_eq_false_iff_not] at h
  intro i j x e e'
  cases i with
  | zero =>
   cases j with
   | zero=>rfl
   | succ j=>simp at e e'; subst e; exact absurd (List.mem_of_getElem? e') h.1
  | succ i =>
   cases j with
   | zero=>simp at e e'; subst e'; exact absurd (List.mem_of_getElem? e) h.1
   | succ j=>simp at e e'; rw [ih h.2 e e']
theorem bindL_off {k:Str→Option NameKind} {x:Str}:∀ (bs:List (Str×Value)) (m:Str→Option Value),(∀ b∈bs,b.1≠x)→bindL k bs m x=m x
 | [],m,_=>rfl
 | (n,v) :: r,m,h=>by
  unfold bindL
  rw [bindL_off r _ fun b hb=>h b (.tail _ hb)]
  have:=h (n,v) (.head _)
  split
  ·exact if_neg fun z=>this z.symm
  ·rfl
theorem bindC_off {k:Str→Option NameKind} {x:Str}:∀ (bs:List (Str×Value)) (m:Str→Option Value),(∀ b∈bs,b.1≠x)→bindC k bs m x=m x
 | [],m,_=>rfl
 | (n,v) :: r,m,h=>by
  unfold bindC
  rw [bindC_off r _ fun b hb=>h b (.tail _ hb)]
  have:=h (n,v) (.head _)
  split
  ·rfl
  ·exact if_neg fun z=>this z.symm
theorem zip_ne {x:Str} {ps:List Str} {vs:List Value} (h:x∉ps):∀ b∈ps.zip vs,b.1≠x:=fun b hb z=>h (z ▸ (List.of_mem_zip hb).1)
theorem bindL_at {k:Str→Option NameKind} {x:Str} (hk:k x=some .local):∀ (ps:List Str) (vs:List Value) (m:Str→Option Value) (i:Nat) (v:Value),nodupS ps=true→ps[i]?=some x→vs[i]?=some v→bindL k (ps.zip vs) m x=some v
 | [],vs,m,i,v,_,e,_=>by simp at e
 | p :: ps,[],m,i,v,_,_,e=>by simp at e
 | p :: ps,w :: vs,m,0,v,hn,e,e'=>by
  simp only [nodupS,Bool.and_eq_true,Bool.not_eq_true',List.contains_eq_mem,decide_eq_false_iff_not] at hn
  simp at e e'; subst e; subst e'
  show bindL k (ps.zip vs) _ p=_
  rw [bindL_off _ _ (zip_ne hn.1),if_pos hk]
  simp
 | p :: ps,w :: vs,m,i+1,v,hn,e,e'=>by
  simp only [nodupS,Bool.and_eq_true] at hn
  exact bindL_at hk ps vs _ i v hn.2 (by simpa using e) (by simpa using e')
theorem bindC_at {k:Str→Option NameKind} {x:Str} (hk:k x=some .cell):∀ (ps:List Str) (vs:List Value) (m:Str→Option Value) (i:Nat) (v:Value),nodupS ps=true→ps[i]?=some x→vs[i]?=some v→bindC k (ps.zip vs) m x=some v
 | [],vs,m,i,v,_,e,_=>by simp at e
 | p :: ps,[],m,i,v,_,_,e=>by simp at e
 | p :: ps,w :: vs,m,0,v,hn,e,e'=>by
  simp only [nodupS,Bool.and_eq_true,Bool.not_eq_true',List.contains_eq_mem,decide_eq_false_iff_not] at hn
  simp at e e'; subst e; subst e'
  show bindC k (ps.zip vs) _ p=_
  rw [bindC_off _ _ (zip_ne hn.1),if_neg (by rw [hk]; decide)]
  simp
 | p :: ps,w :: vs,m,i+1,v,hn,e,e'=>by
  simp only [nodupS,Bool.and_eq_true] at hn
  exact bindC_at hk ps vs _ i v hn.2 (by simpa using e) (by simpa using e')
theorem nodupS_take {k:Nat}:∀ {xs:List Str},nodupS xs=true→nodupS (xs.take k)=true:=by
 induction k with
 | zero=>intro xs _; simp [nodupS]
 | succ k ih =>
  intro xs h
  cases xs with
  | nil=>exact h
  | cons y ys =>
   simp only [nodupS,List.take_succ_cons,Bool.and_eq_true,Bool.not_eq_true',List.contains_eq_mem,decide_eq_false_iff_not] at h ⊢
   exact ⟨fun m=>h.1 (List.mem_of_mem_take m),ih h.2⟩
theorem cellsFrom_has {x:Str}:∀ (names:List (Str×NameKind)) (n:Nat) (acc:List (Str×Addr)),(names.lookup x=some .cell∨(acc.lookup x).isSome=true)→((cellsFrom n names acc).lookup x).isSome=true
 | [],n,acc,h=>by
  rcases h with h | h
  ·simp at h
  ·exact h
 | (y,k) :: r,n,acc,h=>by
  unfold cellsFrom
  rcases h with h | h
  ·rw [List.lookup_cons] at h
   cases hb:x==y with
   | true =>
    rw [hb] at h
    simp only [Option.some.injEq] at h
    subst h
    rw [if_pos (by decide)]
    exact cellsFrom_has r _ _ (.inr (by rw [List.lookup_cons,hb]; rfl))
   | false =>
    rw [hb] at h
    split
    ·exact cellsFrom_has r _ _ (.inl h)
    ·exact cellsFrom_has r _ _ (.inl h)
  ·split
   ·refine cellsFrom_has r _ _ (.inr ?_)
    rw [List.lookup_cons]
    split
    ·rfl
    ·exact h
   ·exact cellsFrom_has r _ _ (.inr h)
noncomputable def locOf (K:Str→Option NameKind) (cells:List (Str×Addr)) (L:Addr) (vars:List Str) (i:Nat):Option Loc :=
 match vars[i]? with
 | none=>none
 | some x=>if K x==some .local then some (.ns L x) else if K x==some .cell then (cells.lookup x).map Loc.cell else none
theorem locOf_some {K:Str→Option NameKind} {cells:List (Str×Addr)} {L:Addr} {vars:List Str} {i:Nat} {l:Loc} (h:locOf K cells L vars i=some l) :
  ∃ x,vars[i]?=some x∧((K x=some .local∧l=.ns L x)∨(K x=some .cell∧∃ a,cells.lookup x=some a∧l=.cell a)):=by
 unfold locOf at h
 split at h
 ·cases h
 ·rename_i x hx
  refine ⟨x,hx,?_⟩
  split at h
  ·rename_i hk; cases h; exact .inl ⟨by simpa using hk,rfl⟩
  ·split at h
   ·rename_i hk
    obtain ⟨a,ha,rfl⟩:=Option.map_eq_some_iff.mp h
    exact .inr ⟨by simpa using hk,a,ha,rfl⟩
   ·cases h
section
variable {c:Cx} {n:Nat}
theorem FnIs.isFn {f:Str} {ps vars:List Str} {ss:List S} (h:FnIs c f ps vars ss):IsFn c f:=by
 obtain ⟨a,o,fd,body,h1,h2,h3,_⟩:=h
 exact ⟨a,o,fd,h1,h2,h3⟩
theorem fn_call (CO:CxOK c) (EO:ExcOK c) (RO:RzOK c) {f:Str} {ps vars:List Str} {ss:List S} (hf:FnIs c f ps vars ss) {ds:List D} {sto:Sto} {Q:D→Sto→Prop} {X:Str→Prop} (hl:ds.length=ps.length)
  (w:wSs c n true ss (EndQ sto Q) (fun k _=>X k) (startSt ds sto)):CallOK c (n+1) f ds sto Q X:=by
 obtain ⟨a,o,fd,body,h1,h2,h3,hcd,hbody,hbind,hclo,hco,hgen,hkf,hgl,hbu,hchk,hlike⟩:=hf
 refine ⟨a,o,fd,h1,h2,h3,fun A l s vs hfr hh hdep hun hB hfs rs hst=>?_⟩
 have hlen:=rs.length
 unfold fnChk at hchk
 simp only [Bool.and_eq_true,beq_iff_eq] at hchk
 obtain ⟨⟨⟨hps,hnd⟩,hall⟩,hbdy⟩:=hchk
 have hlv:vs.length=ps.length:=by rw [hlen,hl]
 have kinds:∀ i x,vars[i]?=some x→fd.scope.names.lookup x=some .local∨fd.scope.names.lookup x=some .cell:=fun i x e=>by
  have:=List.all_eq_true.mp hall x (List.mem_of_getElem? e)
  simpa using this
 have psv:∀ i x,ps[i]?=some x→vars[i]?=some x:=fun i x e=>by
  have hi:i<ps.length:=(List.getElem?_eq_some_iff.mp e).1
  rw [← hps,List.getElem?_take_of_lt hi] at e
  exact e
 have hndp:nodupS ps=true:=by rw [← hps]; exact nodupS_take hnd
 have hkind:∀ x∈ps.zip vs,fd.scope.names.lookup x.1=some .local∨(fd.scope.names.lookup x.1=some .cell∧((cellsFrom (s.heap.objs.size+1) fd.scope.names []).lookup x.1).isSome=true):=fun x hx=>by
  obtain ⟨i,hi⟩:=List.getElem?_of_mem (List.of_mem_zip hx).1
  rcases kinds i x.1 (psv i x.1 hi) with k | k
  ·exact .inl k
  ·exact .inr ⟨k,cellsFrom_has _ _ _ (.inl k)⟩
 refine codeAny_call_cells (by show A.depth<1000; exact lin [_,_] [] [.nt (.a (.x 0) (.a (.x 1) (.k 1))) (.k 800)] [] (.nt (.x 0) (.k 1000)) (.l 1 [1]) rfl hdep) (hB _ _ h2) h3 (CO.lim.keeps hB) (hcd.keeps hB) hbody (hbind vs hlv) hclo hkind (fun s₁ C=>?_) hco hgen hkf
 let env':=callEnvC fd s.heap.objs.size a
 have eL:env'.locals=s.heap.objs.size:=rfl
 have eK:∀ x,env'.kindOf x=fd.scope.names.lookup x:=fun x=>rfl
 obtain ⟨hsame,hns,hkeep,hfresh⟩:=C.toInCall
 let F:Fm:=⟨A.deeper env',env',l,s.heap,s,locOf (fun x=>fd.scope.names.lookup x) env'.cells s.heap.objs.size vars,fsOf l⟩
 have above:∀ x a',env'.cells.lookup x=some a'→s.heap.get? a'=none:=fun x a' e=>by
  have:=C.above x a' (mem_of_lookup e)
  cases z:s.heap.get? a' with
  | none=>rfl
  | some o'=>exact absurd (Heap.lt_size z) (Nat.lt_asymm (show s.heap.objs.size<a' from this))
 have nB:∀ a',s.heap.get? a'=none→c.B.get? a'=none:=fun a' e=>by
  cases z:c.B.get? a' with
  | none=>rfl
  | some o'=>have:=hB _ _ z; rw [e] at this; cases this
 have FO:FmOK c n true F:=FmOK.mk'
  (frames:=Around.frames_deeper hfr)
  (handled:=fun _=>hh)
  (depth:=by show A.depth+1+n<800; exact lin [_,_] [] [.nt (.a (.x 0) (.a (.x 1) (.k 1))) (.k 800)] [] (.nt (.a (.a (.x 0) (.k 1)) (.x 1)) (.k 800)) (.l 1 [1]) rfl hdep)
  (units:=by show A.units+3+4*n<9000; exact lin [_,_] [] [.nt (.a (.x 0) (.m 4 (.a (.x 1) (.k 1)))) (.k 9000)] [] (.nt (.a (.a (.x 0) (.k 3)) (.m 4 (.x 1))) (.k 9000)) (.l 1 [1]) rfl hun)
  (globals:=hgl)
  (builtins:=hbu)
  (gen:=hgen)
  (co:=hco)
  (bh:=hB)
  (back:=fun b o e m=>by
   rcases List.mem_filterMap.mp m with ⟨ev,he,hf⟩
   rcases List.mem_cons.mp he with rfl | he
   ·have hf:some s.heap.objs.size=some b:=hf
    cases hf
    rw [show F.hE.get? s.heap.objs.size=none from none_at_size _] at e; cases e
   ·exact List.mem_filterMap.mpr ⟨ev,he,hf⟩)
  (tab:=⟨s.heap.objs.size,rfl⟩)
 have Wr:FmW F:=FmW.mk'
  (fresh:=fun i lc e=>by
   obtain ⟨x,hx,⟨_,rfl⟩ | ⟨_,a',ha',rfl⟩⟩:=locOf_some e
   ·exact none_at_size _
   ·exact above x a' ha')
  (apart:=fun i j lc e e'=>by
   obtain ⟨x,hx,⟨k1,z⟩ | ⟨k1,a',ha',z⟩⟩:=locOf_some e
   ·obtain ⟨y,hy,⟨k2,z'⟩ | ⟨k2,a'',ha'',z'⟩⟩:=locOf_some e'
    ·rw [z] at z'; cases z'
     exact nodupS_get hnd hx hy
    ·rw [z] at z'; cases z'
   ·obtain ⟨y,hy,⟨k2,z'⟩ | ⟨k2,a'',ha'',z'⟩⟩:=locOf_some e'
    ·rw [z] at z'; cases z'
    ·rw [z] at z'; cases z'
     have:=name_of_addr C.apart (mem_of_lookup ha') (mem_of_lookup ha'')
     subst this
     exact nodupS_get hnd hx hy)
 have O:EnvOK F env' (fun x=>fd.scope.names.lookup x) (fun i=>vars[i]?):=EnvOK.mk'
  (kind:=hkf)
  (globals:=hgl)
  (builtins:=hbu)
  (kinds:=eK)
  (res:=fun i x hx=>by
   rcases kinds i x hx with k | k
   ·refine .inl ⟨k,?_⟩
    show locOf _ _ _ _ _=_
    unfold locOf
    simp [hx,k,eL]
   ·obtain ⟨a',ha'⟩:=Option.isSome_iff_exists.mp (cellsFrom_has fd.scope.names (s.heap.objs.size+1) [] (.inl k))
    refine .inr ⟨k,a',ha',?_⟩
    show locOf _ _ _ _ _=_
    unfold locOf
    have ha'':env'.cells.lookup x=some a':=ha'
    simp [hx,k,ha''])
  (cells:=fun x hx=>Option.isSome_iff_exists.mp (cellsFrom_has fd.scope.names (s.heap.objs.size+1) [] (.inl hx)))
 have I:Inv c F (startSt ds sto) s₁:=Inv.mk'
  (same:=by obtain ⟨h,tk,e⟩:=hsame; exact ⟨h,tk,e⟩)
  (base:=fun b o' e=>hkeep b o' (hB b o' e))
  (kept:=Kept.of_keeps hkeep)
  (frames:=fun ev hm=>by
   rcases List.mem_cons.mp hm with rfl | hm
   ·exact ⟨hkf,s.heap.objs.size,_,rfl,nB _ (none_at_size _),hns⟩
   ·obtain ⟨k1,L,m,k2,k3,k4⟩:=hfs ev hm
    exact ⟨k1,L,m,k2,k3,k4.keeps hkeep⟩)
  (vars:=fun i d e=>by
   have e':ds[i]?=some d:=e
   obtain ⟨v,hv,rv⟩:=rs.get e'
   have hi:i<ps.length:=by rw [← hl]; exact (List.getElem?_eq_some_iff.mp e').1
   have hp:ps[i]?=some ps[i]:=by simp [hi]
   have hx:=psv i _ hp
   have rv':Rep s₁.heap v d:=rv.grow (grow_of_keeps hkeep)
   rcases kinds i _ hx with k | k
   ·refine ⟨.ns s.heap.objs.size ps[i],v,?_,⟨_,hns,bindL_at (k:=env'.kindOf) k ps vs _ i v hndp hp hv⟩,rv'⟩
    show locOf _ _ _ _ _=_
    unfold locOf
    simp [hx,k]
   ·obtain ⟨a',ha'⟩:=Option.isSome_iff_exists.mp (cellsFrom_has fd.scope.names (s.heap.objs.size+1) [] (.inl k))
    have ha'':env'.cells.lookup ps[i]=some a':=ha'
    refine ⟨.cell a',v,?_,?_,rv'⟩
    ·show locOf _ _ _ _ _=_
     unfold locOf
     simp [hx,k,ha'']
    ·have:=C.cell _ _ ha''
     rw [bindC_at (k:=env'.kindOf) k ps vs _ i v hndp hp hv] at this
     exact this)
  (places:=fun i lc e=>by
   obtain ⟨x,hx,⟨_,rfl⟩ | ⟨_,a',ha',rfl⟩⟩:=locOf_some e
   ·exact ⟨_,hns⟩
   ·exact ⟨_,C.cell _ _ ha'⟩)
  (sto:=fun b k e=>by
   obtain ⟨k',hk',e'⟩:=ro_some e
   obtain ⟨hE,p⟩:=hst b k' hk'
   exact (Cell.ro_ok p e').nf (fs:=[]) (Nf.of_keeps hkeep) (fun _ _ m=>by cases m))
  (dap:=fun b ps e=>(ro_nodict e).elim)
 have R:Run c F env' (vwOf fd.scope.names vars) n true:=⟨CO,EO,FO,O,fun i hi=>by
  have hi:(vars[i]?).isSome=false:=hi
  show locOf _ _ _ _ _=_
  unfold locOf
  have hv:vars[i]?=none:=by
   cases e:vars[i]? with
   | none=>rfl
   | some x=>rw [e] at hi; cases hi
  rw [hv]⟩
 have back:∀ {s':Shared} {σ':St} {v:Value} {d:D},Inv c F σ' s'→Rep s'.heap v d→Ret sto σ'.sto Q d→CallEnd c (l) sto Q X s (.ok (.ret v)) s':=fun {s' σ' v d} I' r' hr=>by
  obtain ⟨sto',hs',hq⟩:=hr
  refine ⟨I'.same,I'.base,I'.kept,d,sto',r',fun b k e=>?_,hq fun b k e hm=>?_⟩
  ·rcases hs' b k e with z | ⟨z,hm⟩
   ·exact .inl z
   ·have p:=I'.sto b _ z
    exact .inr ⟨mine_new p hm,p⟩
  ·have hn:s.heap.get? b=none:=mine_new (I'.sto b _ e) hm
   cases z:sto b with
   | none=>rfl
   | some k =>
    obtain ⟨hE,q⟩:=hst b k z
    obtain ⟨o',q1⟩:=q.there c
    rw [hn] at q1; cases q1
 have run:=sSs RO ss body hbdy R Wr rfl I w
 rw [hlike] at run
 refine wpAny_mono run (fun fl s' p=>?_) fun e s' y=>?_
 ·obtain ⟨f',σ',g,I',rf,hq⟩:=p
  cases fl <;> cases f' <;> first | exact rf.elim | exact hq.elim | exact back I' .none hq | exact back I' rf hq
 ·obtain ⟨ea,nm,Ce,σ',sc,rfl,hC,g,I',hs,hB',hk,up,hx⟩:=y
  refine up_leave (F:=F) FO.frames rfl I'.frames up fun h' B' a0 hBB hfl hu=>?_
  have kk:Kept F.fs1 sc.heap h':=kept_up I'.frames hk hBB hfl.1 hu
  have hs':SameSh sc { s' with heap:=h' }:=hs.trans ⟨h',s'.toks,rfl⟩
  have I₂:=I'.after FO (s':={ s' with heap:=h' }) kk hs'
  refine ⟨I₂.same,I₂.base,I₂.kept,ea,nm,Ce,a0,rfl,hC,hx,B',fun b o' e m=>?_,hfl⟩
  have m':b∉F.fs1:=fun m'=>m (FO.back _ _ e m')
  exact hBB b o' (I'.kept.exact e (.inl m)) m'
end
end Mine
namespace Mine
open PySem PySem.SeqAt PySem.W PyProof.Rows
theorem lookup_zip_some:∀ (ps:List Str) (vs:List Value),nodupS ps=true→vs.length=ps.length→ps.filterMap (fun n=>((ps.zip vs).lookup n).map fun x=>(n,x))=ps.zip vs∧∀ p∈ps,((ps.zip vs).lookup p).isNone=false
 | [],[],_,_=>⟨rfl,fun p hp=>by cases hp⟩
 | [],_ :: _,_,h=>by simp at h
 | _ :: _,[],_,h=>by simp at h
 | p :: ps,v :: vs,hn,h=>by
  simp only [nodupS,Bool.and_eq_true,Bool.not_eq_true',List.contains_eq_mem,decide_eq_false_iff_not] at hn
  obtain ⟨h1,h2⟩:=lookup_zip_some ps vs hn.2 (by simpa using h)
  have step:∀ n∈ps,((p :: ps).zip (v :: vs)).lookup n=(ps.zip vs).lookup n:=fun n hm=>by
   rw [List.zip_cons_cons,List.lookup_cons]
   have:(n==p)=false:=by
    cases e:n==p with
    | false=>rfl
    | true=>rw [beq_iff_eq] at e; exact absurd (e ▸ hm) hn.1
   rw [this]
  constructor
  ·rw [List.filterMap_cons]
   have e:((p :: ps).zip (v :: vs)).lookup p=some v:=by rw [List.zip_cons_cons,List.lookup_cons,beq_self_eq_true]
   rw [e]
   simp only [Option.map_some,List.zip_cons_cons]
   congr 1
   have cong:∀ (l:List Str) (f g:Str→Option (Str×Value)),(∀ n∈l,f n=g n)→l.filterMap f=l.filterMap g:=by
    intro l f g hfg
    induction l with
    | nil=>rfl
    | cons a l ih=>rw [List.filterMap_cons,List.filterMap_cons,hfg a (.head _),ih fun n hm=>hfg n (.tail _ hm)]
   refine (cong ps _ _ fun n hm=>?_).trans h1
   have:=step n hm
   rw [List.zip_cons_cons] at this
   rw [this]
  ·intro q hq
   rcases List.mem_cons.mp hq with rfl | hq
   ·rw [List.zip_cons_cons,List.lookup_cons,beq_self_eq_true]; rfl
   ·rw [step q hq]; exact h2 q hq
theorem bind_plain {fd:FuncData} {ps:List Str} (hp:fd.params.posonlyargs=[]) (ha:fd.params.args.map (·.arg)=ps) (hv:fd.params.vararg=none) (hk:fd.params.kwonlyargs=[]) (hkw:fd.params.kwarg=none) (hd:fd.defaults=.none) (nd:nodupS ps=true) (vs:List Value) (hl:vs.length=ps.length):bindArgs fd ⟨vs,[]⟩=pure (ps.zip vs):=by
 obtain ⟨h1,h2⟩:=lookup_zip_some ps vs nd hl
 have hm:List.filter (fun n=>((ps.zip vs).lookup n).isNone) (ps.take ps.length)=[]:=by rw [List.take_length]; exact List.filter_eq_nil_iff.mpr fun p hp'=>by rw [h2 p hp']; exact Bool.false_ne_true
 obtain ⟨nm,qn,⟨po,ar,va,ko,kd,kw,df⟩,bd,sc,gl,cl,dd,kwd,doc,pm,an,co,ct,bi⟩:=fd
 cases hp; cases hv; cases hk; cases hkw; cases hd; cases ha
 show (if (decide (vs.length > (ar.map (·.arg)).length)&&true)=true then _ else _)=_
 refine (if_neg (by simp [hl])).trans ?_
 rw [show ∀ n,List.drop n ((none:Option (Array Value)).getD #[]).toList=[] from fun n=>List.drop_nil]
 show (if (!(List.filter (fun n=>(((ar.map (·.arg)).zip vs).lookup n).isNone) ((ar.map (·.arg)).take (ar.map (·.arg)).length)).isEmpty)=true then _ else _)=_
 refine (if_neg (by rw [hm]; exact Bool.false_ne_true)).trans ?_
 rw [List.zip_nil_right]
 exact congrArg (pure (f:=Sem)) ((congrArg (List.filterMap _) (List.append_nil _)).trans h1)
noncomputable def recR (p:Program) (f:Str):Option DefRec:=(recsOf p).find? fun d=>d.name==f
noncomputable def defOK (d:DefRec) (ps vars:List Str) (ss:List S):Bool :=
 (d.params.posonlyargs.isEmpty&&(d.params.args.map (·.arg)==ps)&&d.params.vararg.isNone&&d.params.kwonlyargs.isEmpty&&d.params.kwarg.isNone) &&
  (!d.scope.isCoroutine&&!d.scope.isGenerator&&d.scope.kind==.function&&nodupS ps&&fnChk d.scope.names ps vars ss d.body)
noncomputable def recOK (p:Program) (f:Str) (ps vars:List Str) (ss:List S):Bool:=match recR p f with
 | some d=>defOK d ps vars ss
 | none=>false
noncomputable def bodyR (p:Program) (f:Str):List Stmt:=match recR p f with
 | some d=>d.body
 | none=>[]
noncomputable def namesR (p:Program) (f:Str):List (Str×NameKind):=match recR p f with
 | some d=>d.scope.names
 | none=>[]
theorem fnIs_top {c:Cx} {p:Program} {loose:List Str} {mean:ExcName→Option Value} {mb:Str→Option Value} (T:Top p loose mean c.mg mb c.B) {f:Str} {ps vars:List Str} {ss:List S} (e:recOK p f ps vars ss=true) (el:likeSs ss (vwOf (namesR p f) vars) (bodyR p f)=bodyR p f):FnIs c f ps vars ss:=by
 unfold recOK at e
 unfold bodyR namesR at el
 cases hd:recR p f with
 | none=>rw [hd] at e; cases e
 | some d =>
  rw [hd] at e el
  have e:defOK d ps vars ss=true:=e
  have el:likeSs ss (vwOf d.scope.names vars) d.body=d.body:=el
  have hm:d∈recsOf p:=List.mem_of_find?_eq_some hd
  have hd':(recsOf p).find? (fun d=>d.name==f)=some d:=hd
  have hn:d.name=f:=by
   have:=List.find?_some hd'
   exact beq_iff_eq.mp this
  obtain ⟨a,o,pm,code,doc,h1,h2,h3,h4⟩:=T.fn d hm
  obtain ⟨e,e'⟩:=and2 e
  obtain ⟨e,e5⟩:=and2 e
  obtain ⟨e,e4⟩:=and2 e
  obtain ⟨e,e3⟩:=and2 e
  obtain ⟨e1,e2⟩:=and2 e
  obtain ⟨e,f5⟩:=and2 e'
  obtain ⟨e,f4⟩:=and2 e
  obtain ⟨e,f3⟩:=and2 e
  obtain ⟨f1,f2⟩:=and2 e
  exact ⟨a,o,_,d.body,hn ▸ h1,h2,h3,h4,rfl,fun vs hl=>bind_plain (List.isEmpty_iff.mp e1) (beq_iff_eq.mp e2) (Option.isNone_iff_eq_none.mp e3) (List.isEmpty_iff.mp e4) (Option.isNone_iff_eq_none.mp e5) rfl f4 vs hl,rfl,(Bool.not_eq_true' _).mp f1,(Bool.not_eq_true' _).mp f2,beq_iff_eq.mp f3,rfl,rfl,f5,el⟩
noncomputable def freeL:List String:=["len","abs","max","min","int","list","tuple","sum","isinstance","bool","ValueError","range","zip"]
end Mine
namespace Mine
open PySem PySem.SeqAt PySem.W PyProof.Rows
mutual
noncomputable def repIn (K:Frag):Nat→Value→D→Bool
 | _,.none,.none=>true
 | _,.bool b,.bool b'=>b==b'
 | _,.int i _,.int j=>i==j
 | _,.str s _,.str s'=>s==s'
 | n+1,.ref a,.tup ds=>(match K.lookup a with
  | some ⟨.type "tuple",none,.seq xs _,sl⟩=>sl.isEmpty&&repsIn K n xs.toList ds
  | _=>false)
 | _,_,_=>false
noncomputable def repsIn (K:Frag):Nat→List Value→List D→Bool
 | _,[],[]=>true
 | n,v :: vs,d :: ds=>repIn K n v d&&repsIn K n vs ds
 | _,_,_=>false
end
mutual
theorem rep_of {K:Frag} {h:Heap} (X:K.In h):∀ (n:Nat) (v:Value) (d:D),repIn K n v d=true→Rep h v d
 | n,v,.none,e=>by cases v <;> first | exact .none | (cases n <;> simp [repIn] at e)
 | n,v,.bool b,e=>by
  cases v <;> first | (cases n <;> simp [repIn] at e; done) | skip
  cases n <;> (simp [repIn] at e; subst e; exact .bool _)
 | n,v,.int i,e=>by
  cases v <;> first | (cases n <;> simp [repIn] at e; done) | skip
  cases n <;> (simp [repIn] at e; subst e; exact .int _ _)
 | n,v,.str s,e=>by
  cases v <;> first | (cases n <;> simp [repIn] at e; done) | skip
  cases n <;> (simp [repIn] at e; subst e; exact .str _ _)
 | 0,v,.tup ds,e=>by cases v <;> simp [repIn] at e
 | n+1,v,.tup ds,e=>by
  cases v <;> first | (simp [repIn] at e; done) | skip
  rename_i a
  unfold repIn at e
  split at e
  ·rename_i xs m sl ho
   simp only [Bool.and_eq_true] at e
   have hs:sl=#[]:=by simpa using e.1
   subst hs
   have:=X _ _ ho
   have r:=reps_of X n xs.toList ds e.2
   exact .tup (n:=m) (vs:=xs.toList) this r
  ·cases e
 | n,v,.lst a,e=>by cases n <;> cases v <;> simp [repIn] at e
 | n,v,.exc a b d,e=>by cases n <;> cases v <;> simp [repIn] at e
theorem reps_of {K:Frag} {h:Heap} (X:K.In h):∀ (n:Nat) (vs:List Value) (ds:List D),repsIn K n vs ds=true→Reps h vs ds
 | n,[],[],e=>.nil
 | n,[],_ :: _,e=>by simp [repsIn] at e
 | n,_ :: _,[],e=>by simp [repsIn] at e
 | n,v :: vs,d :: ds,e=>by
  simp only [repsIn,Bool.and_eq_true] at e
  exact .cons (rep_of X n v d e.1) (reps_of X n vs ds e.2)
end
noncomputable def mkCxK (prog:Program) (w:World) (B:Heap) (mg:Str→Option Value) (cs:List (Str×D)) (cls:List (Str×Addr)) (sub:List (Str×Str)):Cx :=
 ⟨prog,w,B,mg,fun x=>cs.lookup x,fun x=>cls.lookup x,fun e k=>sub.contains (e,k),true⟩
noncomputable def bmVE:List Value:=[.type "ValueError",.type "Exception",.type "BaseException",.type "object"]
noncomputable def excCls (K:Frag) (C:Addr):Bool :=
 findIn K (.ref C) "__getattribute__"==some (some (.builtin "BaseException.__getattribute__"))&&findIn K (.ref C) "__getattr__"==some none&&findIn K (.ref C) "__class__"==some (some (.builtin "object.__class__")) &&
 specialIn K (.builtin "object.__class__") "__get__"==some (some (.builtin "getset_descriptor.__get__"))&&takesIn K (.builtin "object.__class__")==some true&&mroIn K C (.type "object")==some true&&mroIn K C (.type "BaseException")==some true&&(clsIn K C).isSome
noncomputable def cxChk (K:Frag) (cs:List (Str×D)) (cls:List (Str×Addr)) (sub:List (Str×Str)):Bool :=
 cs.all (fun p=>match nsIn K mainGlobals p.1 with | some (some v)=>repIn K 5 v p.2 | _=>false) &&
 cls.all (fun p=>nsIn K mainGlobals p.1==some (some (.ref p.2))&&excIn K p.2 bmVE "ValueError.__new__"&&kitOne K (.ref p.2) (.type "ValueError")==some true&&excCls K p.2 &&
  cls.all fun q=>exmOne K (.ref p.2) (.ref q.2)==some (sub.contains (p.1,q.1))&&kitOne K (.ref p.2) (.ref q.2)==some (sub.contains (p.1,q.1))) &&
 freeL.all fun x=>nsIn K mainGlobals (Str.ofString x)==some none
section
open PySem.Builtin PySem.Builtin.ObjectAttr PySem.Builtin.Getset_descriptor
variable {prog:Program} {w:World} {A:Around} {E:Value→Shared→Prop} {K:Frag} {a C:Addr} {o:Obj} {h:Heap} {g:Array GenState} {d:Drawn} {t:Nat} {os:OsState}
theorem exc_find {M:Model} {x g:Value} {name:Str} {attr:Value} (X:K.In h) (ha:findIn K (.ref C) name=some (some attr)) (hg:specialIn K attr "__get__"=some (some g)) (hd:takesIn K attr=some true):Looks M h (find x (.ref C) name) (.bind g attr):=by
 have L1:=looks_findIn (M:=M) X ha
 have L2:Looks M h (getOf (some attr)) (some g):=looks_specialIn X hg
 have L3:=looks_takesIn (M:=M) X hd
 exact L1.andThen (L2.andThen ((show Looks M h (dataDescriptor? (some attr) (some g)) (some (g,attr)) from L3.andThen .now).andThen (Looks.tag .now)))
theorem exc_class_get {R:Result→Shared→Prop} {tp:Value} (X:K.In h) (hx:h.get? a=some o) (hc:o.cls=.ref C) (hm:mroIn K C (.type "object")=some true)
  (hq:R (.ok (.ret (.ref C))) ⟨h,g,d,t,os⟩):codeAny (model prog w) A (.call (.builtin "getset_descriptor.__get__") ⟨[.builtin "object.__class__",.ref a,tp],[]⟩) R ⟨h,g,d,t,os⟩:=by
 have L0:Looks (model prog w) h (typeOf (.ref a)) (.ref C):=hc ▸ (Looks.ld hx).andThen .now
 have L1:=looks_mroIn (M:=model prog w) X hm
 refine codeAny_call_builtin KF.slot_gs.plain KF.entry_gs (KF.slot_gs.check _ _ _ _ _ _ _ _ KF.type_class (KF.args_gs _ _ _) ?_)
 unfold Builtin.«getset_descriptor.__get__» descrGet
 rw [dga_obj]
 refine wpAny_bind (wpAny_pure ?_)
 unfold descrGetter descrCheckInstance descrNameAndClass isInstance
 simp only [KF.owner_class]
 repeat lk
 refine ⟨Code.quiet_builtin _ (by decide +kernel),codeAny_builtin KF.entry_class ?_⟩
 unfold Builtin.«object.__class__» shownTypeOf
 repeat lk
 exact hq
theorem exc_entry {tk:Tok} {Q:Fin→Shared→Prop} (X:K.In h) (hx:h.get? a=some o) (hc:o.cls=.ref C) (hcl:findIn K (.ref C) "__class__"=some (some (.builtin "object.__class__")))
  (hg:specialIn K (.builtin "object.__class__") "__get__"=some (some (.builtin "getset_descriptor.__get__"))) (hd:takesIn K (.builtin "object.__class__")=some true) (hm:mroIn K C (.type "object")=some true)
  (hq:Q (.done (.ret (.ref C))) ⟨h,g,d,t,os⟩):wpAny (model prog w) A (Builtin.«object.__getattribute__» ⟨[.ref a,.str "__class__" tk],[]⟩) Q E ⟨h,g,d,t,os⟩:=by
 have L0:Looks (model prog w) h (typeOf (.ref a)) (.ref C):=hc ▸ (Looks.ld hx).andThen .now
 have LF:=exc_find (M:=model prog w) (x:=.ref a) X hcl hg hd
 refine wpAny_bind (wpAny_pure (wpAny_bind (wpAny_pure (wpAny_bind (L0.at (wpAny_bind (LF.at ?_)))))))
 show wpAny _ _ (holding [Value.builtin "object.__class__"] (call (.builtin "getset_descriptor.__get__") [.builtin "object.__class__",.ref a,.ref C]) >>= ret) _ _ _
 exact wpAny_bind (wpAny_holding (wpAny_call (exc_class_get X hx hc hm (wpAny_pure hq))))
theorem exc_ga {tk:Tok} {R:Result→Shared→Prop} (X:K.In h) (hx:h.get? a=some o) (hc:o.cls=.ref C) (hcl:findIn K (.ref C) "__class__"=some (some (.builtin "object.__class__")))
  (hg:specialIn K (.builtin "object.__class__") "__get__"=some (some (.builtin "getset_descriptor.__get__"))) (hd:takesIn K (.builtin "object.__class__")=some true) (hm:mroIn K C (.type "object")=some true) (hb:mroIn K C (.type "BaseException")=some true)
  (hq:R (.ok (.ret (.ref C))) ⟨h,g,d,t,os⟩):codeAny (model prog w) A (.call (.builtin "BaseException.__getattribute__") ⟨[.ref a,.str "__class__" tk],[]⟩) R ⟨h,g,d,t,os⟩:=by
 have L0:Looks (model prog w) h (typeOf (.ref a)) (.ref C):=hc ▸ (Looks.ld hx).andThen .now
 have L1:=looks_mroIn (M:=model prog w) X hb
 have hk:builtinKind "BaseException.__getattribute__"=some .slot:=by decide +kernel
 have hsplit:splitId "BaseException.__getattribute__"=some ("BaseException","__getattribute__"):=by decide +kernel
 have ha:=F.args_bexc_ga (.ref a) (.str "__class__" tk)
 refine codeAny_call_builtin (by decide +kernel) F.entry_bexc_ga ?_
 simp only [checkBuiltinCall,hk,hsplit]
 refine wpAny_bind ?_
 unfold isInstance
 refine wpAny_bind (L0.at (L1.at ?_))
 unfold argsOk at ha
 simp only [Bool.not_true,Bool.false_eq_true,if_false]
 exact wpAny_of_eq ha (exc_entry X hx hc hcl hg hd hm hq)
theorem exc_class {Q:Option Value→Shared→Prop} (X:K.In h) (hx:h.get? a=some o) (hc:o.cls=.ref C) (hga:findIn K (.ref C) "__getattribute__"=some (some (.builtin "BaseException.__getattribute__"))) (hgn:findIn K (.ref C) "__getattr__"=some none)
  (hcl:findIn K (.ref C) "__class__"=some (some (.builtin "object.__class__")))
  (hg:specialIn K (.builtin "object.__class__") "__get__"=some (some (.builtin "getset_descriptor.__get__"))) (hd:takesIn K (.builtin "object.__class__")=some true) (hm:mroIn K C (.type "object")=some true) (hb:mroIn K C (.type "BaseException")=some true)
  (hq:Q (some (.ref C)) ⟨h,g,d,t+1,os⟩):wpAny (model prog w) A (getAttr? (.ref a) "__class__") Q E ⟨h,g,d,t,os⟩:=by
 have L0:Looks (model prog w) h (typeOf (.ref a)) (.ref C):=hc ▸ (Looks.ld hx).andThen .now
 have L1:=looks_findIn (M:=model prog w) X hga
 have L2:=looks_findIn (M:=model prog w) X hgn
 have f3:=F.attr_ValueError.ga.bind (.ref a)
 unfold getAttr? getAttrBy? getAttrBy
 refine wpAny_bind (wpAny_mkText (wpAny_bind (wpAny_attempt (wpAny_holding (wpAny_bind (L0.at (wpAny_bind (L1.at ?_))))))))
 show wpAny _ _ (getAttrByItsOwn _ _ _ _ _ _) _ _ _
 unfold getAttrByItsOwn hookBefore callGetattribute boundAndCalled
 refine wpAny_bind (show wpAny _ _ (typeLookup (.ref C) "__getattr__") _ _ _ from L2.at ?_)
 refine wpAny_bind (wpAny_attempt (wpAny_holding ?_))
 show wpAny _ _ (bindSpecial (.builtin "BaseException.__getattribute__") (.ref a) >>= _) _ _ _
 rw [f3]
 refine wpAny_bind (wpAny_pure (wpAny_call (exc_ga X hx hc hcl hg hd hm hb ?_)))
 exact wpAny_pure (wpAny_pure hq)
end
theorem isa_exc {K:Frag} {prog:Program} {w:World} {A:Around} {E:Value→Shared→Prop} {s:Shared} {Q:Value→Shared→Prop} {a C:Addr} {o:Obj} {c:Value} {v:Bool} (X:K.In s.heap) (ho:s.heap.get? a=some o) (hc:o.cls=.ref C) (hk:excCls K C=true) (e:kitOne K (.ref C) c=some v)
  (h:∀ tk,Q (.bool v) { s with toks:=tk }):wpAny (model prog w) A (call (.builtin "isinstance") [.ref a,c]) Q E s:=by
 unfold excCls at hk
 simp only [Bool.and_eq_true,beq_iff_eq] at hk
 obtain ⟨⟨⟨⟨⟨⟨⟨k1,k2⟩,k3⟩,k4⟩,k5⟩,k6⟩,k7⟩,k8⟩:=hk
 have LTall:∀ (M:Model) (h:Heap),h.get? a=some o→Looks M h (typeOf (.ref a)) (.ref C):=fun M h q=>hc ▸ (Looks.ld q).andThen .now
 refine call_isinstance (S:=fun _ R s=>(K.In s.heap∧s.heap.get? a=some o)∧∀ tk,R (.ok (.ret (.bool v))) { s with toks:=tk })
  (fun prog w A R s hs=>isinstance_outer ?_ (by intro z; cases z)) ⟨⟨X,ho⟩,h⟩
 obtain ⟨h0,g,d,tt,os⟩:=s
 obtain ⟨⟨X,p⟩,hq⟩:=hs
 have LT:=LTall (model prog w) h0 p
 have hisC:Looks (model prog w) h0 (isType (.ref C)) true:=by
  unfold clsIn at k8
  split at k8
  ·rename_i ho'
   intro A' Q' E' s' k q
   unfold isType loadHead
   exact wpAny_bind (wpAny_loadPart (k _ _ (X _ _ ho')) (wpAny_pure q))
  ·cases k8
 unfold kitOne at e
 unfold Builtin.«isinstance.nested»
 refine wpAny_bind (LT.at ?_)
 by_cases q:(Value.ref C==c)=true
 ·rw [if_pos q] at e
  cases e
  rw [if_pos q]
  first
   | ((repeat lk); exact hq tt)
   | exact wpAny_bind (wpAny_rule (hq tt))
   | exact wpAny_bind (wpAny_rule (wpAny_pure (hq tt)))
 ·rw [if_neg q] at e
  rw [if_neg q]
  obtain ⟨hty,his,hsub⟩:=kit_cls (M:=model prog w) X e
  have LI:Looks (model prog w) h0 (isInstance (.ref a) c) v:=LT.andThen hsub
  refine wpAny_bind (hty.at ?_)
  rw [if_pos (by decide)]
  k_delta "plainIsInstance"
  refine wpAny_bind (wpAny_bind (his.at ?_))
  simp only [Bool.not_true,Bool.false_eq_true,if_false]
  refine wpAny_bind (LI.at ?_)
  cases v with
  | true =>
   first
    | exact wpAny_pure (wpAny_pure (hq tt))
    | (simp only [if_true]; first | exact wpAny_pure (wpAny_pure (hq tt)) | exact wpAny_pure (hq tt) | exact wpAny_bind (wpAny_pure (wpAny_pure (hq tt))))
  | false =>
   simp only [Bool.false_eq_true,if_false]
   refine wpAny_bind (exc_class X p hc k1 k2 k3 k4 k5 k6 k7 ?_)
   refine wpAny_bind (hisC.at ?_)
   simp only [Bool.not_true,Bool.false_eq_true,if_false]
   refine wpAny_bind (wpAny_rule ?_)
   refine hsub.at ?_
   first
    | exact wpAny_pure (hq _)
    | exact wpAny_pure (wpAny_pure (hq _))
    | exact wpAny_bind (wpAny_pure (wpAny_pure (hq _)))
section
variable {K:Frag} {p:Program} {loose:List Str} {mean:ExcName→Option Value} {mg mb:Str→Option Value} {h:Heap} {prog:Program} {w:World} {cs:List (Str×D)} {cls:List (Str×Addr)} {sub:List (Str×Str)}
theorem mk_all (X:K.In h) (T:Top p loose mean mg mb h) (hs:importsNone p=true) (ht:prog.given.tree=none) (e:cxChk K cs cls sub=true) :
  CxOK (mkCxK prog w h mg cs cls sub)∧ExcOK (mkCxK prog w h mg cs cls sub)∧RzOK (mkCxK prog w h mg cs cls sub):=by
 unfold cxChk at e
 simp only [Bool.and_eq_true] at e
 obtain ⟨⟨e1,e2⟩,e3⟩:=e
 have c2:∀ x C,cls.lookup x=some C→nsIn K mainGlobals x=some (some (.ref C))∧excIn K C bmVE "ValueError.__new__"=true∧kitOne K (.ref C) (.type "ValueError")=some true∧excCls K C=true∧
   ∀ y D,cls.lookup y=some D→exmOne K (.ref C) (.ref D)=some (sub.contains (x,y))∧kitOne K (.ref C) (.ref D)=some (sub.contains (x,y)):=fun x C hx=>by
  have:=List.all_eq_true.mp e2 (x,C) (mem_of_lookup hx)
  simp only [Bool.and_eq_true,beq_iff_eq] at this
  refine ⟨this.1.1.1.1,this.1.1.1.2,this.1.1.2,this.1.2,fun y D hy=>?_⟩
  have q:=List.all_eq_true.mp this.2 (y,D) (mem_of_lookup hy)
  simp only [Bool.and_eq_true,beq_iff_eq] at q
  exact ⟨q.1,q.2⟩
 refine ⟨?_,?_,?_⟩
 ·exact ⟨T.g,⟨mb,T.b,T.builtins⟩,T.nolimit,T.seer hs,ht,(fun x d hx=>by
    have:=List.all_eq_true.mp e1 (x,d) (mem_of_lookup hx)
    simp only at this
    split at this
    ·rename_i v hv
     exact ⟨v,mg_of X T.g hv,rep_of X 5 v d this⟩
    ·cases this),
   fun x C hx=>mg_of X T.g (c2 x C hx).1,
   fun x hx=>by
    have:=List.all_eq_true.mp e3 x hx
    simp only [beq_iff_eq] at this
    exact ns_none_of X T.g this⟩
 ·exact ⟨(fun {e k Ce Ck a o A E s Q} _ he hk hst ho hc hQ=>by
    obtain ⟨_,_,_,hx,hh⟩:=c2 e Ce he
    obtain ⟨_,q1⟩:=hh k Ck hk
    exact isa_exc (X.keeps hst) ho hc hx q1 hQ),
   fun {e Ce a o A E s Q} _ he hst ho hc hQ=>isa_exc (X.keeps hst) ho hc (c2 e Ce he).2.2.2.1 (c2 e Ce he).2.2.1 hQ⟩
 ·exact ⟨fun nm C hC=>⟨bmVE,_,_,own_of_in X (topRead_of T) (c2 nm C hC).1 (c2 nm C hC).2.1,F.excBase_ValueError⟩,
   fun {e k Ce Ck a o A E s Q} he hk hst ho hc hQ=>by
    obtain ⟨_,_,_,_,hh⟩:=c2 e Ce he
    obtain ⟨q1,_⟩:=hh k Ck hk
    exact (exm_one (M:=model prog w) (X.keeps hst) (hc ▸ (Looks.ld ho).andThen .now) q1).here hQ⟩
end
end Mine
namespace Mine
open PySem
section
variable (c:Cx) (n:Nat) (q:Bool)
@[reducible] noncomputable def kOp (op:Operator) (Q:D→St→Prop) (x y:D) (σ:St):Prop:=opBin op x y Q σ
@[reducible] noncomputable def kBin (op:Operator) (b:E) (Q:D→St→Prop) (X:Str→St→Prop) (x:D) (σ:St):Prop:=wE c n q b (kOp op Q x) X σ
@[reducible] noncomputable def kBc (op:Operator) (k:Int) (Q:D→St→Prop) (x:D) (σ:St):Prop:=opBin op x (.int k) Q σ
@[reducible] noncomputable def kNeg (Q:D→St→Prop) (x:D) (σ:St):Prop:=opNeg x Q σ
@[reducible] noncomputable def kNb (Q:D→St→Prop) (b:Bool) (σ:St):Prop:=Q (.bool (!b)) σ
@[reducible] noncomputable def kNot (Q:D→St→Prop) (x:D) (σ:St):Prop:=wTruth x (kNb Q) σ
@[reducible] noncomputable def kCp (op:CmpOp) (Q:D→St→Prop) (x y:D) (σ:St):Prop:=opCmp op x y Q σ
@[reducible] noncomputable def kCm (op:CmpOp) (b:E) (Q:D→St→Prop) (X:Str→St→Prop) (x:D) (σ:St):Prop:=wE c n q b (kCp op Q x) X σ
@[reducible] noncomputable def kCc (op:CmpOp) (k:Int) (Q:D→St→Prop) (x:D) (σ:St):Prop:=opCmp op x (.int k) Q σ
@[reducible] noncomputable def kBt (op:BoolOp) (es:List E) (Q:D→St→Prop) (X:Str→St→Prop) (d:D) (b:Bool) (σ:St):Prop:=if b=(op==.Or) then Q d σ else wB c n q op es Q X σ
@[reducible] noncomputable def kBo (op:BoolOp) (es:List E) (Q:D→St→Prop) (X:Str→St→Prop) (d:D) (σ:St):Prop:=wTruth d (kBt c n q op es Q X d) σ
@[reducible] noncomputable def kRt (Q:D→St→Prop) (σ:St) (d:D) (sto:Sto):Prop:=Q d { σ with sto:=sto }
@[reducible] noncomputable def kXx (X:Str→St→Prop) (σ:St) (k:Str):Prop:=X k σ
@[reducible] noncomputable def kCl (f:Str) (Q:D→St→Prop) (X:Str→St→Prop) (ds:List D) (σ:St):Prop:=CallOK c n f ds σ.sto (kRt Q σ) (kXx X σ)
@[reducible] noncomputable def kBl (f:Blt) (Q:D→St→Prop) (ds:List D) (σ:St):Prop:=opBlt f ds Q σ
@[reducible] noncomputable def kIs (t:Ty) (Q:D→St→Prop) (x:D) (σ:St):Prop:=opIsa c x t Q σ
@[reducible] noncomputable def kI2 (Q:D→St→Prop) (x y:D) (σ:St):Prop:=opIdx x y Q σ
@[reducible] noncomputable def kIx (b:E) (Q:D→St→Prop) (X:Str→St→Prop) (x:D) (σ:St):Prop:=wE c n q b (kI2 Q x) X σ
@[reducible] noncomputable def kS3 (Q:D→St→Prop) (x l h:D) (σ:St):Prop:=opSlice x l h Q σ
@[reducible] noncomputable def kS2 (hi:Option E) (Q:D→St→Prop) (X:Str→St→Prop) (x l:D) (σ:St):Prop:=wO c n q hi (kS3 Q x l) X σ
@[reducible] noncomputable def kS1 (lo hi:Option E) (Q:D→St→Prop) (X:Str→St→Prop) (x:D) (σ:St):Prop:=wO c n q lo (kS2 c n q hi Q X x) X σ
@[reducible] noncomputable def kTp (Q:D→St→Prop) (ds:List D) (σ:St):Prop:=ds.length≤lim∧Q (.tup ds) σ
@[reducible] noncomputable def kLs (Q:D→St→Prop) (ds:List D) (σ:St):Prop:=ds.length≤lim∧∀ l,σ.sto l=none→Q (.lst l) (σ.put l (.list true ds))
@[reducible] noncomputable def kAp (Q:D→St→Prop) (x d:D) (σ:St):Prop:=opAppend x d Q σ
@[reducible] noncomputable def kAo (b:E) (Q:D→St→Prop) (X:Str→St→Prop) (x:D) (σ:St):Prop:=(∃ l ds,x=.lst l∧σ.sto l=some (.list true ds))∧wE c n true b (kAp Q x) X σ
@[reducible] noncomputable def kCn (Q:List D→St→Prop) (d:D) (ds:List D) (σ:St):Prop:=Q (d :: ds) σ
@[reducible] noncomputable def kEs (es:List E) (Q:List D→St→Prop) (X:Str→St→Prop) (d:D) (σ:St):Prop:=wEs c n q es (kCn Q d) X σ
@[reducible] noncomputable def kTr (Q:Bool→St→Prop) (d:D) (σ:St):Prop:=wTruth d Q σ
@[reducible] noncomputable def kTn (Q:Bool→St→Prop) (b:Bool) (σ:St):Prop:=Q (!b) σ
@[reducible] noncomputable def kTs (op:BoolOp) (es:List E) (Q:Bool→St→Prop) (X:Str→St→Prop) (b:Bool) (σ:St):Prop:=if b=(op==.Or) then Q b σ else wTs c n q op es Q X σ
@[reducible] noncomputable def kN (ss:List S) (Q:Fl→St→Prop) (X:Str→St→Prop) (fl:Fl) (σ:St):Prop:=match fl with | .next=>wSs c n q ss Q X σ | fl=>Q fl σ
@[reducible] noncomputable def kA (ss:List S) (Q:Fl→St→Prop) (X:Str→St→Prop) (x:Nat) (d:D) (σ:St):Prop:=wSs c n q ss Q X (σ.set x d)
@[reducible] noncomputable def kE (ss:List S) (Q:Fl→St→Prop) (X:Str→St→Prop) (_d:D) (σ:St):Prop:=wSs c n q ss Q X σ
@[reducible] noncomputable def kR (Q:Fl→St→Prop) (d:D) (σ:St):Prop:=Q (.ret d) σ
@[reducible] noncomputable def kX (Q:Fl→St→Prop) (_d:D) (σ:St):Prop:=Q .next σ
@[reducible] noncomputable def kQ (Q:Fl→St→Prop) (x:Nat) (d:D) (σ:St):Prop:=Q .next (σ.set x d)
@[reducible] noncomputable def kU (xs:List Nat) (Q:Fl→St→Prop) (d:D) (σ:St):Prop:=∃ ds,d=.tup ds∧ds.length=xs.length∧Q .next (setAll σ xs ds)
@[reducible] noncomputable def kSt (Q:Fl→St→Prop) (d x k:D) (σ:St):Prop:=opSet x k d (Q .next) σ
@[reducible] noncomputable def kSi (i:E) (Q:Fl→St→Prop) (X:Str→St→Prop) (d x:D) (σ:St):Prop:=wE c n q i (kSt Q d x) X σ
@[reducible] noncomputable def kSo (o i:E) (Q:Fl→St→Prop) (X:Str→St→Prop) (d:D) (σ:St):Prop:=wE c n q o (kSi c n q i Q X d) X σ
@[reducible] noncomputable def kIf (a b:List S) (Q:Fl→St→Prop) (X:Str→St→Prop) (r:Bool) (σ:St):Prop:=if r=true then wSs c n q a Q X σ else wSs c n q b Q X σ
@[reducible] noncomputable def kF1 (b:List S) (X:Str→St→Prop) (x:Nat) (d:D) (K:Fl→St→Prop) (σ:St):Prop:=wSs c n true b K X (σ.set x d)
@[reducible] noncomputable def kFo (b:List S) (Q:Fl→St→Prop) (X:Str→St→Prop) (x:Nat) (items:List D) (g:St→Prop) (σ:St):Prop:=forL g (kF1 c n b X x) items Q σ
@[reducible] noncomputable def kRg (Kc:List D→(St→Prop)→St→Prop) (ds:List D) (σ:St):Prop:=ds.all smallI=true∧∃ items,rangeD ds=some items∧Kc items (fun _=>True) σ
@[reducible] noncomputable def kIt (Kc:List D→(St→Prop)→St→Prop) (d:D) (σ:St):Prop:=itemsOf d Kc σ
@[reducible] noncomputable def kT0 (b:List S) (k:Str) (Q:Fl→St→Prop) (e:Str) (σ:St):Prop:=c.sub e k=true∧wSs c n false b Q noX σ
@[reducible] noncomputable def kTd (Q:Fl→St→Prop) (i:Nat) (fl:Fl) (σ:St):Prop:=Q fl (σ.del i)
@[reducible] noncomputable def kT1 (b:List S) (k:Str) (i:Nat) (Q:Fl→St→Prop) (e:Str) (σ:St):Prop:=c.sub e k=true∧∀ a C,c.cls e=some C→wSs c n false b (kTd Q i) noX (σ.set i (.exc a e C))
end
section
variable {c:Cx} {n:Nat} {q:Bool} {Q:D→St→Prop} {X:Str→St→Prop} {σ:St} {a b e:E} {es:List E}
theorem e_none (h:Q .none σ):wE c n q .cnone Q X σ:=h
theorem e_bool {b:Bool} (h:Q (.bool b) σ):wE c n q (.cbool b) Q X σ:=h
theorem e_int {i:Int} (h:Q (.int i) σ):wE c n q (.cint i) Q X σ:=h
theorem e_str {s:Str} (h:Q (.str s) σ):wE c n q (.cstr s) Q X σ:=h
theorem e_var {i:Nat} {d:D} (e:σ.loc i=some d) (h:Q d σ):wE c n q (.var i) Q X σ:=⟨d,e,h⟩
theorem e_glob {x:Str} {d:D} (e:c.cs x=some d) (h:Q d σ):wE c n q (.glob x) Q X σ:=⟨d,e,h⟩
theorem e_bin {op:Operator} (h:wE c n q a (kBin c n q op b Q X) X σ):wE c n q (.bin op a b) Q X σ:=h
theorem e_neg (h:wE c n q a (kNeg Q) X σ):wE c n q (.neg a) Q X σ:=h
theorem e_not (h:wE c n q a (kNot Q) X σ):wE c n q (.not a) Q X σ:=h
theorem e_cmp {op:CmpOp} (h:wE c n q a (kCm c n q op b Q X) X σ):wE c n q (.cmp op a b) Q X σ:=h
theorem e_boolop {op:BoolOp} (h:wB c n q op es Q X σ):wE c n q (.bool op es) Q X σ:=h
theorem b_one {op:BoolOp} (h:wE c n q e Q X σ):wB c n q op [e] Q X σ:=h
theorem b_cons {op:BoolOp} {e':E} (h:wE c n q e (kBo c n q op (e' :: es) Q X) X σ):wB c n q op (e :: e' :: es) Q X σ:=h
theorem e_call {f:Str} (hf:IsFn c f) (h:wEs c n true es (kCl c n f Q X) X σ):wE c n true (.call f es) Q X σ:=⟨rfl,hf,h⟩
theorem e_blt {f:Blt} (h:wEs c n true es (kBl f Q) X σ):wE c n true (.blt f es) Q X σ:=⟨rfl,h⟩
theorem e_isa {t:Ty} (h:wE c n q a (kIs c t Q) X σ):wE c n q (.isa a t) Q X σ:=h
theorem e_idx (h:wE c n q a (kIx c n q b Q X) X σ):wE c n q (.idx a b) Q X σ:=h
theorem e_slice {lo hi:Option E} (h:wE c n q a (kS1 c n q lo hi Q X) X σ):wE c n q (.slice a lo hi) Q X σ:=h
theorem o_none (h:Q .none σ):wO c n q none Q X σ:=h
theorem o_some (h:wE c n q e Q X σ):wO c n q (some e) Q X σ:=h
theorem e_tup (h:wEs c n q es (kTp Q) X σ):wE c n q (.tup es) Q X σ:=h
theorem e_lst (h:wEs c n q es (kLs Q) X σ):wE c n q (.lst es) Q X σ:=h
theorem e_append (h:wE c n true a (kAo c n b Q X) X σ):wE c n true (.append a b) Q X σ:=⟨rfl,h⟩
theorem es_nil {Q:List D→St→Prop} (h:Q [] σ):wEs c n q [] Q X σ:=h
theorem es_cons {Q:List D→St→Prop} (h:wE c n q e (kEs c n q es Q X) X σ):wEs c n q (e :: es) Q X σ:=h
theorem es_var1 {Q:List D→St→Prop} {i:Nat} {d:D} (e:σ.loc i=some d) (h:Q [d] σ):wEs c n q [.var i] Q X σ:=⟨d,e,h⟩
theorem es_var {Q:List D→St→Prop} {i:Nat} {d:D} (e:σ.loc i=some d) (h:wEs c n q es (kCn Q d) X σ):wEs c n q (.var i :: es) Q X σ:=⟨d,e,h⟩
theorem es_int1 {Q:List D→St→Prop} {k:Int} (h:Q [.int k] σ):wEs c n q [.cint k] Q X σ:=h
theorem idx_vc {i:Nat} {k:Int} {d:D} (e:σ.loc i=some d) (h:opIdx d (.int k) Q σ):wE c n q (.idx (.var i) (.cint k)) Q X σ:=⟨d,e,h⟩
theorem idx_v {i:Nat} {d:D} (e:σ.loc i=some d) (h:wE c n q b (kI2 Q d) X σ):wE c n q (.idx (.var i) b) Q X σ:=⟨d,e,h⟩
theorem len_v {i:Nat} {d:D} (e:σ.loc i=some d) (h:opBlt .len [d] Q σ):wE c n true (.blt .len [.var i]) Q X σ:=⟨rfl,d,e,h⟩
theorem bin_vc {op:Operator} {i:Nat} {k:Int} {d:D} (e:σ.loc i=some d) (h:opBin op d (.int k) Q σ):wE c n q (.bin op (.var i) (.cint k)) Q X σ:=⟨d,e,h⟩
theorem bin_v {op:Operator} {i:Nat} {d:D} (e:σ.loc i=some d) (h:wE c n q b (kOp op Q d) X σ):wE c n q (.bin op (.var i) b) Q X σ:=⟨d,e,h⟩
theorem e_binc {op:Operator} {k:Int} (h:wE c n q a (kBc op k Q) X σ):wE c n q (.bin op a (.cint k)) Q X σ:=h
theorem cmp_vc {op:CmpOp} {i:Nat} {k:Int} {d:D} (e:σ.loc i=some d) (h:opCmp op d (.int k) Q σ):wE c n q (.cmp op (.var i) (.cint k)) Q X σ:=⟨d,e,h⟩
theorem e_cmpc {op:CmpOp} {k:Int} (h:wE c n q a (kCc op k Q) X σ):wE c n q (.cmp op a (.cint k)) Q X σ:=h
theorem e_comp {elt:E} {xs:List (Nat×Str)} {k:ItK} (h:wEs c n true es (fun ds σ₁=>compK k xs (fun K σ₂=>wE c n true elt K noX σ₂) Q ds σ₁) X σ):wE c n true (.comp elt xs k es) Q X σ:=⟨rfl,h⟩
theorem eqTop_lst {τ:Sto} {a b:Addr} {o o':Bool} {xs ys:List D} (h1:τ a=some (.list o xs)) (h2:τ b=some (.list o' ys)):eqTop τ (.lst a) (.lst b)=eqL (eqD 50) xs ys:=by
 show (match lstOf τ a with | some xs=>(match lstOf τ b with | some ys=>eqL (eqD 50) xs ys | none=>none) | none=>none)=_
 unfold lstOf
 rw [h1,h2]
theorem o_add {x y:Int} (h:Q (.int (x+y)) σ):opBin .Add (.int x) (.int y) Q σ:=h
theorem o_sub {x y:Int} (h:Q (.int (x - y)) σ):opBin .Sub (.int x) (.int y) Q σ:=h
theorem o_mul {x y:Int} (hm:IntMulOk x y) (h:Q (.int (x*y)) σ):opBin .Mult (.int x) (.int y) Q σ:=⟨hm,h⟩
theorem o_fdiv {x y:Int} (hm:y≠0) (h:Q (.int (x.fdiv y)) σ):opBin .FloorDiv (.int x) (.int y) Q σ:=⟨hm,h⟩
theorem o_mod {x y:Int} (hm:y≠0) (h:Q (.int (x.fmod y)) σ):opBin .Mod (.int x) (.int y) Q σ:=⟨hm,h⟩
theorem o_addT {x y:List D} (h1:x.length≤lim) (h2:y.length≤lim) (h:Q (.tup (x ++ y)) σ):opBin .Add (.tup x) (.tup y) Q σ:=⟨h1,h2,h⟩
theorem o_addL {a b:Addr} {o₁ o₂:Bool} {xs ys:List D} (e1:σ.sto a=some (.list o₁ xs)) (e2:σ.sto b=some (.list o₂ ys)) (h1:xs.length≤lim) (h2:ys.length≤lim) (h:∀ l,σ.sto l=none→Q (.lst l) (σ.put l (.list true (xs ++ ys)))):opBin .Add (.lst a) (.lst b) Q σ:=⟨o₁,xs,o₂,ys,e1,e2,h1,h2,h⟩
theorem o_mulL {a:Addr} {xs:List D} {k:Int} (e1:σ.sto a=some (.list true xs)) (h1:xs.length≤100) (h2:-10000≤k) (h3:k≤10000) (h:∀ l,σ.sto l=none→Q (.lst l) (σ.put l (.list true (repL k xs)))):opBin .Mult (.lst a) (.int k) Q σ:=⟨xs,e1,h1,h2,h3,h⟩
theorem f_listT {xs:List D} (hl:xs.length≤lim) (h:∀ l,σ.sto l=none→Q (.lst l) (σ.put l (.list true xs))):opBlt .list [.tup xs] Q σ:=⟨hl,h⟩
theorem f_tupL {a:Addr} {o:Bool} {xs:List D} (es:σ.sto a=some (.list o xs)) (hl:xs.length≤lim) (h:Q (.tup xs) σ):opBlt .tuple [.lst a] Q σ:=⟨o,xs,es,hl,h⟩
theorem f_max {x y:Int} (h:Q (.int (max x y)) σ):opBlt .max [.int x,.int y] Q σ:=h
theorem f_int {b:Bool} (h:Q (.int (if b then 1 else 0)) σ):opBlt .int [.bool b] Q σ:=h
theorem st_lst {l:Addr} {ds:List D} {d:D} {k:Int} {Q:St→Prop} (es:σ.sto l=some (.list true ds)) (hl:ds.length≤lim) (h0:0≤k) (hk:k<ds.length) (h:Q (σ.put l (.list true (ds.set k.toNat d)))):opSet (.lst l) (.int k) d Q σ:=.inl ⟨ds,es,hl,h0,hk,h⟩
theorem o_neg {x:Int} (h:Q (.int (-x)) σ):opNeg (.int x) Q σ:=h
theorem c_lt {x y:Int} (h:Q (.bool (decide (x<y))) σ):opCmp .Lt (.int x) (.int y) Q σ:=h
theorem c_gt {x y:Int} (h:Q (.bool (decide (x > y))) σ):opCmp .Gt (.int x) (.int y) Q σ:=h
theorem c_eq {x y:Int} (h:Q (.bool (x==y)) σ):opCmp .Eq (.int x) (.int y) Q σ:=.inl ⟨x==y,rfl,h⟩
theorem c_ne {x y:Int} (h:Q (.bool (!(x==y))) σ):opCmp .NotEq (.int x) (.int y) Q σ:=⟨x==y,rfl,h⟩
theorem c_eqD {x y:D} {b:Bool} (e:eqTop σ.sto x y=some b) (h:Q (.bool b) σ):opCmp .Eq x y Q σ:=.inl ⟨b,e,h⟩
theorem c_neD {x y:D} {b:Bool} (e:eqTop σ.sto x y=some b) (h:Q (.bool (!b)) σ):opCmp .NotEq x y Q σ:=⟨b,e,h⟩
theorem i_tup {ds:List D} {i:Int} {d:D} (hl:ds.length≤lim) (e:nth ds i=some d) (h:Q d σ):opIdx (.tup ds) (.int i) Q σ:=⟨hl,d,e,h⟩
theorem i_lst {l:Addr} {o:Bool} {ds:List D} {i:Int} {d:D} (es:σ.sto l=some (.list o ds)) (hl:ds.length≤lim) (e:nth ds i=some d) (h:Q d σ):opIdx (.lst l) (.int i) Q σ:=⟨o,ds,es,hl,d,e,h⟩
theorem f_abs {i:Int} (h:Q (.int i.natAbs) σ):opBlt .abs [.int i] Q σ:=h
theorem f_lenT {xs:List D} (hl:xs.length≤lim) (h:Q (.int xs.length) σ):opBlt .len [.tup xs] Q σ:=⟨hl,h⟩
theorem f_lenL {l:Addr} {o:Bool} {xs:List D} (es:σ.sto l=some (.list o xs)) (hl:xs.length≤lim) (h:Q (.int xs.length) σ):opBlt .len [.lst l] Q σ:=⟨o,xs,es,hl,h⟩
theorem sl_lst {l:Addr} {o:Bool} {ds:List D} {lo hi:D} {p r:Option Int} (es:σ.sto l=some (.list o ds)) (e1:bound lo=some p) (e2:bound hi=some r) (hl:ds.length≤lim) (h:∀ b,σ.sto b=none→Q (.lst b) (σ.put b (.list true (cutL ds p r)))):opSlice (.lst l) lo hi Q σ:=⟨p,r,e1,e2,o,ds,es,hl,h⟩
theorem sl_tup {ds:List D} {lo hi:D} {p r:Option Int} (e1:bound lo=some p) (e2:bound hi=some r) (hl:ds.length≤lim) (h:Q (.tup (cutL ds p r)) σ):opSlice (.tup ds) lo hi Q σ:=⟨p,r,e1,e2,hl,h⟩
theorem ap_lst {l:Addr} {ds:List D} {d:D} (es:σ.sto l=some (.list true ds)) (hl:ds.length≤lim) (h:Q .none (σ.put l (.list true (ds ++ [d])))):opAppend (.lst l) d Q σ:=⟨ds,es,hl,h⟩
theorem tr_bool {b:Bool} {Q:Bool→St→Prop} (h:Q b σ):wTruth (.bool b) Q σ:=⟨b,rfl,h⟩
theorem t_not {Q:Bool→St→Prop} (h:wT c n q a (kTn Q) X σ):wT c n q (.not a) Q X σ:=h
theorem t_bool {Q:Bool→St→Prop} {op:BoolOp} (h:wTs c n q op es Q X σ):wT c n q (.bool op es) Q X σ:=h
theorem ts_nil {Q:Bool→St→Prop} {op:BoolOp} (h:Q (op==.And) σ):wTs c n q op [] Q X σ:=h
theorem ts_cons {Q:Bool→St→Prop} {op:BoolOp} (h:wT c n q e (kTs c n q op es Q X) X σ):wTs c n q op (e :: es) Q X σ:=h
theorem t_cmp {Q:Bool→St→Prop} {op:CmpOp} (h:wE c n q (.cmp op a b) (kTr Q) X σ):wT c n q (.cmp op a b) Q X σ:=h
theorem t_call {Q:Bool→St→Prop} {f:Str} (h:wE c n q (.call f es) (kTr Q) X σ):wT c n q (.call f es) Q X σ:=h
theorem t_isa {Q:Bool→St→Prop} {t:Ty} (h:wE c n q (.isa a t) (kTr Q) X σ):wT c n q (.isa a t) Q X σ:=h
end
section
variable {c:Cx} {n:Nat} {q:Bool} {Q:Fl→St→Prop} {X:Str→St→Prop} {σ:St} {e t:E} {a b:List S} {s:S} {ss:List S}
theorem g_nil (h:Q .next σ):wSs c n q [] Q X σ:=h
theorem g_cons (h:wS c n q s (kN c n q ss Q X) X σ):wSs c n q (s :: ss) Q X σ:=h
theorem g_ca {x:Nat} (h:wE c n q e (kA c n q ss Q X x) X σ):wSs c n q (.assign x e :: ss) Q X σ:=h
theorem g_ce (h:wE c n q e (kE c n q ss Q X) X σ):wSs c n q (.expr e :: ss) Q X σ:=h
theorem g_cr (h:wE c n q e (kR Q) X σ):wSs c n q (.ret e :: ss) Q X σ:=h
theorem g_swap {xs:List Nat} {es:List E} (h:wE c n true (.tup es) (kU xs Q) X σ):wS c n true (.swap xs es) Q X σ:=⟨rfl,h⟩
theorem g_unpack {xs:List Nat} (h:wE c n true e (kU xs Q) X σ):wS c n true (.unpack xs e) Q X σ:=⟨rfl,h⟩
theorem g_setitem {o i:E} (h:wE c n q e (kSo c n q o i Q X) X σ):wS c n q (.setitem o i e) Q X σ:=h
theorem g_if (h:wT c n q t (kIf c n q a b Q X) X σ):wS c n q (.ifs t a b) Q X σ:=h
theorem g_raise {k m:Str} {C:Addr} (hC:c.cls k=some C) (h:X k σ):wS c n true (.raise k m) Q X σ:=⟨rfl,⟨C,hC⟩,h⟩
theorem g_try1 {k:Str} {C:Addr} {i:Nat} (hC:c.cls k=some C) (h:wSs c n true a Q (kT1 c n b k i Q) σ):wS c n true (.tryx a k (some i) b) Q X σ:=⟨rfl,⟨C,hC⟩,h⟩
theorem g_while (I:St→Prop) (m:St→Nat) (h0:I σ) (h:∀ σ',I σ'→wT c n q t (fun r σ₁=>if r=true then wSs c n q b (fun fl σ₂=>match fl with
   | .next=>I σ₂∧m σ₂<m σ'
   | .cont=>I σ₂∧m σ₂<m σ'
   | .brk=>Q .next σ₂
   | .ret d=>Q (.ret d) σ₂) noX σ₁ else Q .next σ₁) noX σ'):wS c n q (.whiles t b) Q X σ:=⟨I,m,h0,h⟩
theorem g_for1 {x:Nat} {k:ItK} {es:List E} (h:wI c n true k es (kFo c n b Q X x) X σ):wS c n true (.fors [x] true k es b) Q X σ:=⟨rfl,h⟩
theorem i_range {es:List E} {Kc:List D→(St→Prop)→St→Prop} (h:wEs c n q es (kRg Kc) X σ):wI c n q .range es Kc X σ:=h
theorem i_tup1 {e:E} {Kc:List D→(St→Prop)→St→Prop} (h:wE c n q e (kIt Kc) X σ):wI c n q .plain [e] Kc X σ:=h
theorem forL_inv {g:St→Prop} {step:D→(Fl→St→Prop)→St→Prop} (I:Nat→St→Prop) (Rt:D→St→Prop):∀ (items:List D) (k:Nat) (σ:St),I k σ→(∀ i σ,I i σ→g σ)→
  (∀ i d σ (K:Fl→St→Prop),items[i]?=some d→I (k+i) σ→(∀ σ',I (k+i+1) σ'→K .next σ')→(∀ v σ',Rt v σ'→K (.ret v) σ')→step d K σ)→
  (∀ v σ,Rt v σ→Q (.ret v) σ)→(∀ σ,I (k+items.length) σ→Q .next σ)→forL g step items Q σ
 | [],k,σ,hI,hg,hs,hr,hQ=>⟨hg _ _ hI,hQ σ hI⟩
 | d :: ds,k,σ,hI,hg,hs,hr,hQ=>by
  refine ⟨hg _ _ hI,hs 0 d σ _ rfl hI (fun σ' hI'=>?_) fun v σ' h=>hr v σ' h⟩
  exact forL_inv I Rt ds (k+1) σ' hI' hg (fun i d' σ₂ K e hI₂ hn hr'=>by
   have e1:k+1+i=k+(i+1):=by exact linN [_,_] [] [] [] (.a (.a (.x 0) (.k 1)) (.x 1)) (.a (.x 0) (.a (.x 1) (.k 1))) (.l 1 []) (.l 1 []) rfl
   rw [e1] at hI₂ hn
   exact hs (i+1) d' σ₂ K (by simpa using e) hI₂ hn hr') hr (fun σ₂ h₂=>hQ σ₂ (by rw [List.length_cons,show k+(ds.length+1)=k+1+ds.length by exact linN [_,_] [] [] [] (.a (.x 0) (.a (.x 1) (.k 1))) (.a (.a (.x 0) (.k 1)) (.x 1)) (.l 1 []) (.l 1 []) rfl]; exact h₂))
theorem if_b {b:Bool} {A B:Prop} (h1:b=true→A) (h2:b=false→B):if b=true then A else B:=by
 cases b with
 | true=>exact h1 rfl
 | false=>exact h2 rfl
theorem if_or {b:Bool} {A B:Prop} (h1:b=true→A) (h2:b=false→B):if b=(BoolOp.Or==.Or) then A else B:=by
 cases b with
 | true=>exact h1 rfl
 | false=>exact h2 rfl
theorem if_and {b:Bool} {A B:Prop} (h1:b=false→A) (h2:b=true→B):if b=(BoolOp.And==.Or) then A else B:=by
 cases b with
 | true=>exact h2 rfl
 | false=>exact h1 rfl
end
section
variable {c:Cx} {n:Nat} {q:Bool}
end
noncomputable def frD (r:Rat):D:=.tup [.int r.num,.int r.den]
noncomputable def RS (k:Nat) (r:Rat):Prop:=r.num.natAbs<2 ^ k∧r.den<2 ^ k
theorem i_fr0 {x:Rat} {Q:D→St→Prop} {σ:St} (h:Q (.int x.num) σ):opIdx (frD x) (.int 0) Q σ:=⟨by exact Nat.le_of_ble_eq_true rfl,_,rfl,h⟩
theorem i_fr1 {x:Rat} {Q:D→St→Prop} {σ:St} (h:Q (.int x.den) σ):opIdx (frD x) (.int 1) Q σ:=⟨by exact Nat.le_of_ble_eq_true rfl,_,rfl,h⟩
end Mine
namespace Mine
open PySem
noncomputable def cf (p:List Rat) (i:Nat):Rat:=(p[i]?).getD 0
theorem cf_ge {p:List Rat} {i:Nat} (h:p.length≤i):cf p i=0:=by unfold cf; rw [List.getElem?_eq_none h]; rfl
theorem cf_lt {p:List Rat} {i:Nat} (h:i<p.length):cf p i=p[i]:=by unfold cf; rw [List.getElem?_eq_getElem h]; rfl
noncomputable def trimL:List Rat→List Rat
 | []=>[]
 | x :: xs=>match trimL xs with
  | []=>if x=0 then [] else [x]
  | y :: ys=>x :: y :: ys
theorem cf_trim:∀ (p:List Rat) (i:Nat),cf (trimL p) i=cf p i
 | [],i=>rfl
 | x :: xs,i=>by
  have ih:=cf_trim xs
  unfold trimL
  cases h:trimL xs with
  | nil =>
   rw [h] at ih
   dsimp only
   by_cases hx:x=0
   ·rw [if_pos hx]
    cases i with
    | zero=>show (0:Rat)=x; exact hx.symm
    | succ i=>exact ih i
   ·rw [if_neg hx]
    cases i with
    | zero=>rfl
    | succ i=>exact ih i
  | cons y ys =>
   rw [h] at ih
   cases i with
   | zero=>rfl
   | succ i=>exact ih i
noncomputable def Rw (p:List Rat):Prop:=p=[]∨cf p (p.length - 1)≠0
theorem rw_trim:∀ p:List Rat,Rw (trimL p)
 | []=>.inl rfl
 | x :: xs=>by
  have ih:=rw_trim xs
  unfold trimL
  cases h:trimL xs with
  | nil =>
   dsimp only
   by_cases hx:x=0
   ·rw [if_pos hx]; exact .inl rfl
   ·rw [if_neg hx]; exact .inr hx
  | cons y ys =>
   rw [h] at ih
   rcases ih with ih | ih
   ·cases ih
   ·exact .inr ih
theorem trim_len:∀ p:List Rat,(trimL p).length≤p.length
 | []=>Nat.le_refl _
 | x :: xs=>by
  have ih:=trim_len xs
  unfold trimL
  cases h:trimL xs with
  | nil =>
   dsimp only
   split
   ·exact Nat.zero_le _
   ·exact Nat.succ_le_succ (Nat.zero_le _)
  | cons y ys =>
   rw [h] at ih
   exact Nat.succ_le_succ ih
theorem row_ext {p q:List Rat} (hp:Rw p) (hq:Rw q) (h:∀ i,cf p i=cf q i):p=q:=by
 have le:∀ {p q:List Rat},Rw q→(∀ i,cf p i=cf q i)→q.length≤p.length:=fun {p q} hq h=>by
  rcases hq with rfl | hq
  ·exact Nat.zero_le _
  ·by_cases z:q.length≤p.length
   ·exact z
   ·exact absurd ((h (q.length - 1)).symm.trans (cf_ge (by exact o57 z))) hq
 have l1:=le hq h
 have l2:=le hp fun i=>(h i).symm
 refine List.ext_getElem (by exact linN [_,_] [] [.nl (.x 0) (.x 1),.nl (.x 1) (.x 0)] [] (.x 1) (.x 0) (.l 1 [0,1]) (.l 1 [1]) rfl l1 l2) fun i h1 h2=>?_
 rw [← cf_lt h1,← cf_lt h2,h i]
theorem trim_eq {p q:List Rat} (hq:Rw q) (h:∀ i,cf q i=cf p i):q=trimL p:=row_ext hq (rw_trim p) fun i=>(h i).trans (cf_trim p i).symm
theorem cf_take {p:List Rat} {s:Nat} (h:∀ i,s≤i→cf p i=0) (i:Nat):cf (p.take s) i=cf p i:=by
 by_cases hi:i<s
 ·unfold cf; rw [List.getElem?_take_of_lt hi]
 ·rw [h i (by exact o59 hi),cf_ge (by rw [List.length_take]; exact o60 hi)]
theorem cf_set {p:List Rat} {k:Nat} {v:Rat} (hk:k<p.length) (i:Nat):cf (p.set k v) i=if i=k then v else cf p i:=by
 unfold cf
 rw [List.getElem?_set]
 by_cases h:i=k
 ·subst h; simp [hk]
 ·rw [if_neg (fun z=>h z.symm),if_neg h]
theorem cf_app (p q:List Rat) (i:Nat):cf (p ++ q) i=if i<p.length then cf p i else cf q (i - p.length):=by
 unfold cf
 rw [List.getElem?_append]
 split <;> rfl
theorem cf_zeros (k i:Nat):cf (List.replicate k 0) i=0:=by
 unfold cf
 rw [List.getElem?_replicate]
 split <;> rfl
theorem cf_map {f:Rat→Rat} (hf:f 0=0) (p:List Rat) (i:Nat):cf (p.map f) i=f (cf p i):=by
 unfold cf
 rw [List.getElem?_map]
 cases p[i]? with
 | none=>exact hf.symm
 | some x=>rfl
noncomputable def sm (f:Nat→Rat):Nat→Rat
 | 0=>0
 | n+1=>sm f n+f n
theorem sm_cong {f g:Nat→Rat}:∀ {n:Nat},(∀ i,i<n→f i=g i)→sm f n=sm g n
 | 0,_=>rfl
 | n+1,h=>by
  show sm f n+f n=sm g n+g n
  rw [sm_cong fun i hi=>h i (by exact o61 hi),h n (by exact o62)]
theorem sm_zero {f:Nat→Rat} {n:Nat}:∀ {m:Nat},(∀ i,n≤i→f i=0)→sm f (n+m)=sm f n
 | 0,_=>rfl
 | m+1,h=>by
  show sm f (n+m)+f (n+m)=sm f n
  rw [sm_zero h,h _ (by exact o63),Rat.add_zero]
theorem sm_first (f:Nat→Rat):∀ n:Nat,sm f (n+1)=f 0+sm (fun i=>f (i+1)) n
 | 0=>by show 0+f 0=f 0+0; rw [Rat.add_comm]
 | n+1=>by
  show sm f (n+1)+f (n+1)=f 0+(sm (fun i=>f (i+1)) n+f (n+1))
  rw [sm_first f n,Rat.add_assoc]
theorem sm_rev:∀ (n:Nat) (f:Nat→Rat),sm f n=sm (fun i=>f (n - 1 - i)) n
 | 0,_=>rfl
 | n+1,f=>by
  rw [sm_first (fun i=>f (n+1 - 1 - i)) n]
  show sm f n+f n=f (n - 0)+sm (fun i=>f (n - (i+1))) n
  rw [sm_rev n f,Rat.add_comm]
  congr 1
  exact sm_cong fun i hi=>by congr 1; exact o64
noncomputable def cvf (p q:List Rat) (j i:Nat):Rat:=if i≤j then cf p i*cf q (j - i) else 0
noncomputable def cv (p q:List Rat) (j:Nat):Rat:=sm (cvf p q j) p.length
theorem cv_full (p q:List Rat) (j:Nat):cv p q j=sm (fun i=>cf p i*cf q (j - i)) (j+1):=by
 have h1:sm (cvf p q j) (p.length+(j+1))=sm (cvf p q j) p.length:=sm_zero fun i hi=>by
  unfold cvf; split
  ·rw [cf_ge hi,Rat.zero_mul]
  ·rfl
 have h2:sm (cvf p q j) (j+1+p.length)=sm (cvf p q j) (j+1):=sm_zero fun i hi=>if_neg (by exact o65 hi)
 unfold cv
 rw [← h1,Nat.add_comm,h2]
 exact sm_cong fun i hi=>if_pos (by exact o66 hi)
theorem cv_comm (p q:List Rat) (j:Nat):cv p q j=cv q p j:=by
 rw [cv_full,cv_full,sm_rev]
 refine sm_cong fun i hi=>?_
 show cf p (j+1 - 1 - i)*cf q (j - (j+1 - 1 - i))=_
 rw [Rat.mul_comm,show j+1 - 1 - i=j - i by exact o67,show j - (j - i)=i by exact o68 hi]
theorem RS.mono {k l:Nat} {x:Rat} (h:RS k x) (hl:k≤l):RS l x:=⟨Nat.lt_of_lt_of_le h.1 (Nat.pow_le_pow_right (by decide) hl),Nat.lt_of_lt_of_le h.2 (Nat.pow_le_pow_right (by decide) hl)⟩
theorem rs_zero {k:Nat} (h:1≤k):RS k 0:=RS.mono (k:=1) ⟨by decide,by decide⟩ h
theorem rs_divInt {t b:Int} {k:Nat} (hb:b≠0) (h1:t.natAbs<2 ^ k) (h2:b.natAbs<2 ^ k):RS k (Rat.divInt t b):=by
 unfold RS
 rw [Rat.num_divInt,Rat.den_divInt,if_neg hb]
 refine ⟨?_,Nat.lt_of_le_of_lt (Nat.div_le_self _ _) h2⟩
 refine Nat.lt_of_le_of_lt (Int.natAbs_ediv_le_natAbs _ _) ?_
 rw [Int.natAbs_mul,Int.natAbs_sign_of_ne_zero hb,Nat.one_mul]
 exact h1
theorem pow_mul {a b:Int} {k l:Nat} (ha:a.natAbs<2 ^ k) (hb:b.natAbs<2 ^ l):(a*b).natAbs<2 ^ (k+l):=by
 rw [Int.natAbs_mul,Nat.pow_add]
 exact Nat.mul_lt_mul'' ha hb
theorem den_nat {x:Rat} {k:Nat} (h:RS k x):(x.den:Int).natAbs<2 ^ k:=h.2
end Mine
local macro_rules | `(tactic| walk_at "m") => `(tactic| (repeat (first | ((first | with_reducible apply Mine.es_var1 | with_reducible apply Mine.es_var | with_reducible apply Mine.idx_vc | with_reducible apply Mine.idx_v | with_reducible apply Mine.len_v | with_reducible apply Mine.bin_vc | with_reducible apply Mine.bin_v | with_reducible apply Mine.cmp_vc | with_reducible apply Mine.e_var); first | exact rfl | assumption) | with_reducible (first | refine Mine.g_ca ?_ | refine Mine.g_ce ?_ | refine Mine.g_cr ?_ | refine Mine.g_cons ?_ | refine Mine.g_expr ?_ | refine Mine.g_assign ?_ | refine Mine.g_swap ?_ | refine Mine.g_unpack ?_ | refine Mine.g_setitem ?_ | refine Mine.g_if ?_ | refine Mine.g_ret ?_ | refine Mine.g_nil ?_ | refine Mine.g_pass ?_ | refine Mine.e_binc ?_ | refine Mine.e_cmpc ?_ | refine Mine.e_bin ?_ | refine Mine.e_cmp ?_ | refine Mine.e_idx ?_ | refine Mine.e_tup ?_ | refine Mine.e_lst ?_ | refine Mine.es_int1 ?_ | refine Mine.es_cons ?_ | refine Mine.es_nil ?_ | refine Mine.e_int ?_ | refine Mine.e_bool ?_ | refine Mine.e_none ?_ | refine Mine.e_str ?_ | refine Mine.e_blt ?_ | refine Mine.e_not ?_ | refine Mine.e_neg ?_ | refine Mine.e_isa ?_ | refine Mine.e_boolop ?_ | refine Mine.b_cons ?_ | refine Mine.b_one ?_ | refine Mine.e_slice ?_ | refine Mine.o_none ?_ | refine Mine.o_some ?_ | refine Mine.t_not ?_ | refine Mine.t_bool ?_ | refine Mine.t_cmp ?_ | refine Mine.t_call ?_ | refine Mine.t_isa ?_ | refine Mine.ts_cons ?_ | refine Mine.ts_nil ?_ | refine Mine.tr_bool ?_ | refine Mine.o_add ?_ | refine Mine.o_sub ?_ | refine Mine.o_neg ?_ | refine Mine.c_lt ?_ | refine Mine.c_le ?_ | refine Mine.c_gt ?_ | refine Mine.c_ge ?_ | refine Mine.c_eq ?_ | refine Mine.c_ne ?_ | refine Mine.c_is ?_ | refine Mine.c_isnot ?_ | refine Mine.f_abs ?_ | refine Mine.i_range ?_ | refine Mine.i_fr0 ?_ | refine Mine.i_fr1 ?_))))
namespace Mine
open PySem
theorem mul_ok {a b:Int} {k:Nat} (ha:a.natAbs<2 ^ k) (hb:b.natAbs<2 ^ k) (hk:k≤33554432):IntMulOk a b:=by
 have bits:∀ x:Int,x.natAbs<2 ^ k→Builtin.Int.intBits x≤k:=fun x hx=>by
  unfold Builtin.Int.intBits
  split
  ·exact Nat.zero_le _
  ·rename_i h0
   have hn:x.natAbs≠0:=fun z=>h0 (by simpa using z)
   have:=(Nat.log2_lt hn).mpr hx
   exact o69 this
 have h1:=bits a ha
 have h2:=bits b hb
 unfold IntMulOk
 have:Builtin.Int.intTooBig (Builtin.Int.intBits a+Builtin.Int.intBits b)=false:=by
  unfold Builtin.Int.intTooBig
  have:(bitsLine:Int)≥67108864:=by decide
  simp only [decide_eq_false_iff_not]
  exact o70 hk h1 h2 this
 rw [this]; simp
theorem rat_num {t b:Int} (hb:b≠0):t.fdiv (if b<0 then 0 - (Int.gcd t b:Int) else Int.gcd t b)=(Rat.divInt t b).num:=by
 have hg:(0:Int)<Int.gcd t b:=by
  have:=Int.gcd_pos_of_ne_zero_right t hb
  exact o71 this
 rw [Rat.num_divInt,Int.gcd_comm b t]
 obtain ⟨k,hk⟩:=Int.gcd_dvd_left t b
 generalize (Int.gcd t b:Int)=g at *
 subst hk
 split
 ·rename_i h
  rw [Int.sign_eq_neg_one_of_neg h,show g*k=(0 - g)*(-k) by grind,Int.mul_fdiv_cancel_left _ (by exact o72 hg),show -1*((0 - g)*-k)=g*(-k) by grind,Int.mul_ediv_cancel_left _ (by exact o73 hg)]
 ·rename_i h
  rw [Int.sign_eq_one_of_pos (by exact o74 hb h),Int.mul_fdiv_cancel_left _ (by exact o73 hg),Int.one_mul,Int.mul_ediv_cancel_left _ (by exact o73 hg)]
theorem rat_den {t b:Int} (hb:b≠0):b.fdiv (if b<0 then 0 - (Int.gcd t b:Int) else Int.gcd t b)=((Rat.divInt t b).den:Int):=by
 have hg:(0:Int)<Int.gcd t b:=by
  have:=Int.gcd_pos_of_ne_zero_right t hb
  exact o71 this
 rw [Rat.den_divInt,if_neg hb,Int.gcd_comm b t]
 obtain ⟨k,hk⟩:=Int.gcd_dvd_right t b
 have hn:((b.natAbs / Int.gcd t b:Nat):Int)=(b.natAbs:Int) / (Int.gcd t b:Int):=by push_cast; rfl
 rw [hn]
 generalize (Int.gcd t b:Int)=g at *
 subst hk
 split
 ·rename_i h
  rw [show ((g*k).natAbs:Int)=g*(-k) by rw [Int.mul_neg]; exact o75 h,show g*k=(0 - g)*(-k) by grind,Int.mul_fdiv_cancel_left _ (by exact o72 hg),Int.mul_ediv_cancel_left _ (by exact o73 hg)]
 ·rename_i h
  rw [show ((g*k).natAbs:Int)=g*k by exact o76 h,Int.mul_fdiv_cancel_left _ (by exact o73 hg),Int.mul_ediv_cancel_left _ (by exact o73 hg)]
theorem gcd_step {x y:Int} (hx:0≤x) (hy:0≤y):Int.gcd y (x % y)=Int.gcd x y:=by
 obtain ⟨m,rfl⟩:=Int.eq_ofNat_of_zero_le hx
 obtain ⟨k,rfl⟩:=Int.eq_ofNat_of_zero_le hy
 show Nat.gcd k ((m:Int) % (k:Int)).natAbs=Nat.gcd m k
 rw [← Int.natCast_emod,Int.natAbs_natCast,Nat.gcd_comm k,← Nat.gcd_rec,Nat.gcd_comm]
noncomputable def s_divisor_of:List S:=[
  .assign 2 (.blt .abs [.var 0]),
  .assign 3 (.blt .abs [.var 1]),
  .whiles (.cmp .Gt (.var 3) (.cint 0)) [.assign 4 (.bin .Mod (.var 2) (.var 3)),.assign 2 (.var 3),.assign 3 (.var 4)],
  .ret (.var 2)]
section
variable {c:Cx} (CO:CxOK c) (EO:ExcOK c) (RO:RzOK c)
include CO EO RO
theorem call_divisor_of {n:Nat} {f:Str} {ps vars:List Str} (hf:FnIs c f ps vars s_divisor_of) (hp:ps.length=2) {a b:Int} {sto:Sto} {Q:D→Sto→Prop} {X:Str→Prop} (h:Q (.int (Int.gcd a b)) sto):CallOK c (n+1) f [.int a,.int b] sto Q X:=by
 refine fn_call CO EO RO hf hp.symm ?_
 unfold s_divisor_of
 walk_at "m"
 refine g_while (fun σ=>∃ x y:Int,σ.loc 2=some (.int x)∧σ.loc 3=some (.int y)∧0≤x∧0≤y∧Int.gcd x y=Int.gcd a b) (fun σ=>match σ.loc 3 with | some (.int y)=>y.toNat | _=>0) ?_ ?_
 ·exact ⟨a.natAbs,b.natAbs,rfl,rfl,by exact o77,by exact o77,by simp [Int.gcd]⟩
 rintro σ' ⟨x,y,h2,h3,hx,hy,hg⟩
 walk_at "m"
 refine if_b (fun hb=>?_) fun hb=>?_
 ·have hb':y > 0:=by simpa using hb
  walk_at "m"
  refine o_mod (by exact o73 hb') ?_
  walk_at "m"
  have e:x.fmod y=x % y:=Int.fmod_eq_emod_of_nonneg x hy
  have:=Int.emod_nonneg x (show y≠0 by exact o73 hb')
  have:=Int.emod_lt_of_pos x hb'
  refine ⟨⟨y,x.fmod y,rfl,rfl,hy,by omega,?_⟩,?_⟩
  ·rw [e,← hg,gcd_step hx hy]
  ·show (x.fmod y).toNat<_
   rw [h3]
   show (x.fmod y).toNat<y.toNat
   omega
 ·have hb':y=0:=by simp at hb; exact o78 hy hb
  subst hb'
  walk_at "m"
  refine ret_plain ?_
  have:x=(Int.gcd a b:Int):=by rw [← hg]; simp [Int.gcd]; exact o79 hx
  rw [this]; exact h
noncomputable def s_fraction:List S:=[
  .ifs (.cmp .Eq (.var 1) (.cint 0)) [.raise (Str.ofString "Nought") (Str.ofString "by nought")] [],
  .assign 2 (.call (Str.ofString "divisor_of") [.var 0,.var 1]),
  .ifs (.cmp .Lt (.var 1) (.cint 0)) [.assign 2 (.bin .Sub (.cint 0) (.var 2))] [],
  .ret (.tup [.bin .FloorDiv (.var 0) (.var 2),.bin .FloorDiv (.var 1) (.var 2)])]
end
end Mine
namespace Mine
open PySem
noncomputable def s__law_cell_at:List S:=[
  .ifs (.cmp .Lt (.var 1) (.blt .len [.var 0])) [.ret (.idx (.var 0) (.var 1))] [],
  .ret (.cint 0)]
noncomputable def s__law_stream:List S:=[
  .assign 2 (.lst []),
  .assign 3 (.bin .Add (.bin .Mod (.var 0) (.cint 2147483647)) (.cint 48271)),
  .fors [4] true .range [.bin .Add (.var 1) (.cint 1)] [.assign 3 (.bin .Mod (.bin .Add (.bin .Add (.bin .Mult (.var 3) (.var 3)) (.bin .Mult (.cint 48271) (.var 3))) (.var 4)) (.cint 2147483647)),.expr (.append (.var 2) (.var 3))],
  .ret (.slice (.var 2) (some (.cint 1)) none)]
noncomputable def s__law_divisor:List S:=[
  .whiles (.cmp .Gt (.var 0) (.cint 0)) [.swap [0,1] [.bin .Mod (.var 1) (.var 0),.var 0]],
  .ret (.var 1)]
noncomputable def s__law_fraction:List S:=[
  .ifs (.cmp .Lt (.var 1) (.cint 0)) [.assign 0 (.neg (.var 0)),.assign 1 (.neg (.var 1))] [],
  .assign 2 (.call (Str.ofString "_law_divisor") [.blt .abs [.var 0],.var 1]),
  .ret (.tup [.bin .FloorDiv (.var 0) (.var 2),.bin .FloorDiv (.var 1) (.var 2)])]
theorem den_ne (x:Rat):(x.den:Int)≠0:=by have:=x.den_nz; exact o80 this
theorem rat_sum (x y:Rat):Rat.divInt (x.num*y.den+y.num*x.den) (x.den*y.den)=x+y:=by
 rw [← Rat.divInt_add_divInt x.num y.num (den_ne x) (den_ne y),Rat.num_divInt_den,Rat.num_divInt_den]
theorem rat_mul (x y:Rat):Rat.divInt (x.num*y.num) (x.den*y.den)=x*y:=by
 rw [← Rat.divInt_mul_divInt x.num y.num,Rat.num_divInt_den,Rat.num_divInt_den]
theorem rat_div (x y:Rat):Rat.divInt (x.num*y.den) (x.den*y.num)=x / y:=by
 rw [Rat.div_def,← Rat.divInt_mul_divInt x.num y.den,Rat.num_divInt_den,← Rat.inv_divInt,Rat.num_divInt_den]
section
variable {c:Cx} (CO:CxOK c) (EO:ExcOK c) (RO:RzOK c)
include CO EO RO
theorem call_cell_at {n:Nat} {p v:List Str} (hf:FnIs c (Str.ofString "_law_cell_at") p v s__law_cell_at) (hp:p.length=2) {a:Addr} {is:List Int} {i:Int} {sto:Sto} {o:Bool} (hs:sto a=some (.list o (is.map D.int))) (hl:is.length≤1000) (hi:0≤i) {Q:D→Sto→Prop} {X:Str→Prop} (h:∀ z,Q (.int z) sto):CallOK c (n+1) (Str.ofString "_law_cell_at") [.lst a,.int i] sto Q X:=by
 refine fn_call CO EO RO hf hp.symm ?_
 have hs':Sto.ro sto a=some (.list false (is.map D.int)):=by unfold Sto.ro; rw [hs]; rfl
 have hlim:(is.map D.int).length≤lim:=by simp [lim]; exact o81 hl
 unfold s__law_cell_at
 walk_at "m"
 refine f_lenL hs' hlim ?_
 walk_at "m"
 refine if_b (fun hb=>?_) fun hb=>?_
 ·have hb':i<is.length:=by simpa using hb
  have e:nth (is.map D.int) i=some (.int is[i.toNat]):=by
   unfold nth
   rw [if_pos hi]
   simp
  walk_at "m"
  refine i_lst hs' hlim e ?_
  walk_at "m"
  exact ret_plain (h _)
 ·walk_at "m"
  exact ret_plain (h _)
end
end Mine
namespace Mine
open PySem
theorem rangeUp_len (a b:Int):(rangeUp a b).length=(b - a).toNat:=by simp [rangeUp]
theorem rangeUp_get {a b:Int} {i:Nat} {d:D} (h:(rangeUp a b)[i]?=some d):i<(b - a).toNat∧d=.int (a+i):=by
 have hi:=(List.getElem?_eq_some_iff.mp h).1
 rw [rangeUp_len] at hi
 refine ⟨hi,?_⟩
 unfold rangeUp at h
 rw [List.getElem?_map,List.getElem?_range hi] at h
 simpa using h.symm
theorem rangeDn_len (a b:Int):(rangeDn a b).length=(a - b).toNat:=by simp [rangeDn]
theorem rangeDn_get {a b:Int} {i:Nat} {d:D} (h:(rangeDn a b)[i]?=some d):i<(a - b).toNat∧d=.int (a - i):=by
 have hi:=(List.getElem?_eq_some_iff.mp h).1
 rw [rangeDn_len] at hi
 refine ⟨hi,?_⟩
 unfold rangeDn at h
 rw [List.getElem?_map,List.getElem?_range hi] at h
 simpa using h.symm
theorem cutL_one {α:Type} (l:List α):cutL l (some 1) none=l.drop 1:=by
 unfold cutL cutAt
 cases l with
 | nil=>rfl
 | cons a l=>simp
section
variable {c:Cx} (CO:CxOK c) (EO:ExcOK c) (RO:RzOK c)
include CO EO RO
theorem call_stream {n:Nat} {p v:List Str} (hf:FnIs c (Str.ofString "_law_stream") p v s__law_stream) (hp:p.length=2) {z:Int} {m:Nat} (hm:m≤1000) {sto:Sto} {Q:D→Sto→Prop} {X:Str→Prop}
  (h:∀ (xs:List Int) l,xs.length=m→(∀ x∈xs,0≤x∧x<2147483647)→sto l=none→Q (.lst l) (Sto.put sto l (.list true (xs.map D.int)))):CallOK c (n+1) (Str.ofString "_law_stream") [.int z,.int m] sto Q X:=by
 refine fn_call CO EO RO hf hp.symm ?_
 unfold s__law_stream
 walk_at "m"
 refine ⟨by exact Nat.le_of_ble_eq_true rfl,fun l hl=>?_⟩
 walk_at "m"
 refine o_mod (by decide) ?_
 walk_at "m"
 refine g_for1 ?_
 walk_at "m"
 refine ⟨by simp [smallI]; exact o82 hm,_,rfl,?_⟩
 refine forL_inv (fun k σ=>∃ (xs:List Int) (y:Int),xs.length=k∧(∀ x∈xs,0≤x∧x<2147483647)∧σ.loc 2=some (.lst l)∧σ.loc 3=some (.int y)∧0≤y∧y<4294967296∧σ.sto l=some (.list true (xs.map D.int))) (fun _ _=>False) _ 0 _ ?_ (fun _ _ _=>trivial) ?_ (fun _ _ z=>z.elim) ?_
 ·have e:z.fmod 2147483647=z % 2147483647:=Int.fmod_eq_emod_of_nonneg z (by decide)
  refine ⟨[],_,rfl,by simp,rfl,rfl,by exact o83 e,by exact o84 e,?_⟩
  show Sto.put _ _ _ _=_
  simp [Sto.put]
 ·rintro i d σ K hd ⟨xs,y,hxl,hxs,h2,h3,hy0,hy1,hst⟩ hn hr
  obtain ⟨hi,hdd⟩:=rangeUp_get hd
  rw [Int.zero_add] at hdd
  subst hdd
  walk_at "m"
  refine o_mul (mul_ok (k:=32) (by exact o85 hy0 hy1) (by exact o85 hy0 hy1) (by exact o86)) ?_
  walk_at "m"
  refine o_mul (mul_ok (k:=32) (by exact o87) (by exact o85 hy0 hy1) (by exact o86)) ?_
  walk_at "m"
  refine o_mod (by decide) ?_
  walk_at "m"
  refine e_append ?_
  walk_at "m"
  refine ⟨⟨l,_,rfl,hst⟩,?_⟩
  walk_at "m"
  refine ap_lst hst (by simp [lim]; exact o88 hm hxl hi) ?_
  walk_at "m"
  refine hn _ ⟨xs ++ [(y*y+48271*y+i).fmod 2147483647],_,by simp [hxl],?_,h2,rfl,?_,?_,?_⟩
  ·intro x hx
   have e:(y*y+48271*y+i).fmod 2147483647=(y*y+48271*y+i) % 2147483647:=Int.fmod_eq_emod_of_nonneg _ (by decide)
   rcases List.mem_append.mp hx with hx | hx
   ·exact hxs x hx
   ·rw [List.mem_singleton.mp hx,e]; exact o89
  ·have e:(y*y+48271*y+i).fmod 2147483647=(y*y+48271*y+i) % 2147483647:=Int.fmod_eq_emod_of_nonneg _ (by decide)
   exact o90 e
  ·have e:(y*y+48271*y+i).fmod 2147483647=(y*y+48271*y+i) % 2147483647:=Int.fmod_eq_emod_of_nonneg _ (by decide)
   exact o91 e
  ·show Sto.put _ _ _ _=_
   simp [Sto.put]
 ·rintro σ ⟨xs,y,hxl,hxs,h2,h3,hy0,hy1,hst⟩
  have hxl':xs.length=m+1:=by rw [hxl,rangeUp_len]; exact o92
  walk_at "m"
  refine sl_lst hst rfl rfl (by simp [lim]; exact lin [_,_] [] [.nl (.x 0) (.k 1000),.ne (.x 1) (.a (.x 0) (.k 1))] [] (.nl (.x 1) (.k 1000000)) (.l 1 [1,1]) rfl hm hxl') fun b hb=>?_
  refine ret_list (l:=b) (xs:=(xs.drop 1).map D.int) ?_ fun hb'=>h (xs.drop 1) b (by simp; exact o94 hxl') (fun x hx=>hxs x (List.mem_of_mem_drop hx)) hb'
  show Sto.put _ _ _ _=_
  simp only [Sto.put,if_true]
  rw [cutL_one,List.map_drop]
theorem call_law_divisor {n:Nat} {p v:List Str} (hf:FnIs c (Str.ofString "_law_divisor") p v s__law_divisor) (hp:p.length=2) {a b:Int} (ha:0≤a) (hb:0≤b) {sto:Sto} {Q:D→Sto→Prop} {X:Str→Prop} (h:Q (.int (Int.gcd a b)) sto):CallOK c (n+1) (Str.ofString "_law_divisor") [.int a,.int b] sto Q X:=by
 refine fn_call CO EO RO hf hp.symm ?_
 unfold s__law_divisor
 walk_at "m"
 refine g_while (fun σ=>∃ x y:Int,σ.loc 0=some (.int x)∧σ.loc 1=some (.int y)∧0≤x∧0≤y∧Int.gcd y x=Int.gcd a b) (fun σ=>match σ.loc 0 with | some (.int y)=>y.toNat | _=>0) ?_ ?_
 ·exact ⟨a,b,rfl,rfl,ha,hb,Int.gcd_comm ..⟩
 rintro σ' ⟨x,y,h2,h3,hx,hy,hg⟩
 walk_at "m"
 refine if_b (fun hb=>?_) fun hb=>?_
 ·have hb':x > 0:=by simpa using hb
  walk_at "m"
  refine o_mod (by exact o73 hb') ?_
  walk_at "m"
  refine ⟨by exact Nat.le_of_ble_eq_true rfl,_,rfl,rfl,?_⟩
  walk_at "m"
  have e:y.fmod x=y % x:=Int.fmod_eq_emod_of_nonneg y hx
  have:=Int.emod_nonneg y (show x≠0 by exact o73 hb')
  have:=Int.emod_lt_of_pos y hb'
  refine ⟨⟨y.fmod x,x,rfl,rfl,by omega,hx,?_⟩,?_⟩
  ·rw [e,← hg,gcd_step hy hx]
  ·show (y.fmod x).toNat<_
   rw [h2]
   show (y.fmod x).toNat<x.toNat
   exact o95 hb' e this
 ·have hb':x=0:=by simp at hb; exact o78 hx hb
  subst hb'
  walk_at "m"
  refine ret_plain ?_
  have:y=(Int.gcd a b:Int):=by rw [← hg]; simp [Int.gcd]; exact o79 hy
  rw [this]; exact h
theorem call_law_fraction {n:Nat} {p v p' v':List Str} (hf:FnIs c (Str.ofString "_law_fraction") p v s__law_fraction) (hp:p.length=2) (hd:FnIs c (Str.ofString "_law_divisor") p' v' s__law_divisor) (hp':p'.length=2) {t b:Int} (hb:b≠0) {sto:Sto} {Q:D→Sto→Prop} {X:Str→Prop} (h:Q (frD (Rat.divInt t b)) sto):CallOK c (n+2) (Str.ofString "_law_fraction") [.int t,.int b] sto Q X:=by
 refine fn_call CO EO RO hf hp.symm ?_
 unfold s__law_fraction
 walk_at "m"
 have main:∀ (σ:St) (t' b':Int),σ.loc 0=some (.int t')→σ.loc 1=some (.int b')→0<b'→Rat.divInt t' b'=Rat.divInt t b→
   wSs c (n+1) true [.assign 2 (.call (Str.ofString "_law_divisor") [.blt .abs [.var 0],.var 1]),.ret (.tup [.bin .FloorDiv (.var 0) (.var 2),.bin .FloorDiv (.var 1) (.var 2)])] (EndQ sto Q) (fun k _=>X k) σ:=by
  intro σ t' b' h0 h1 hpos he
  have hg:(0:Int)<Int.gcd t' b':=by
   have:=Int.gcd_pos_of_ne_zero_right t' (show b'≠0 by exact o73 hpos)
   exact o71 this
  have hg':Int.gcd (t'.natAbs:Int) b'=Int.gcd t' b':=by simp [Int.gcd]
  walk_at "m"
  refine e_call hd.isFn ?_
  walk_at "m"
  refine call_law_divisor CO EO RO hd hp' (by exact o77) (by exact o96 hpos) ?_
  rw [hg']
  walk_at "m"
  refine o_fdiv (by exact o97 hg) ?_
  walk_at "m"
  refine o_fdiv (by exact o97 hg) ?_
  walk_at "m"
  refine ⟨by exact Nat.le_of_ble_eq_true rfl,?_⟩
  walk_at "m"
  refine ret_plain ?_
  have:=h
  rw [← he] at this
  unfold frD at this
  rw [← rat_num (show b'≠0 by exact o73 hpos),← rat_den (show b'≠0 by exact o73 hpos),if_neg (show ¬ b'<0 by exact o98 hpos)] at this
  exact this
 refine if_b (fun hl=>?_) fun hl=>?_
 ·have hl':b<0:=by simpa using hl
  walk_at "m"
  exact main _ (-t) (-b) rfl rfl (by exact lin [] [_] [.it (.x 0) (.k 0)] [] (.it (.k 0) (.g (.x 0))) (.l 1 [1]) rfl hl') (by rw [Rat.neg_divInt_neg])
 ·have hl':¬ b<0:=by simpa using hl
  walk_at "m"
  exact main _ t b rfl rfl (by exact o74 hb hl') rfl
end
end Mine
namespace Mine
open PySem
noncomputable def s__law_whole:List S:=[
  .ret (.bool .And [.isa (.var 0) .int,.not (.isa (.var 0) .bool)])]
noncomputable def s_isfr (w:Str) (dv:E):List S:=[
  .ifs (.bool .Or [.not (.isa (.var 0) .tuple),.cmp .NotEq (.blt .len [.var 0]) (.cint 2),.not (.call w [.idx (.var 0) (.cint 0)]),.not (.call w [.idx (.var 0) (.cint 1)])]) [.ret (.cbool false)] [],
  .ret (.bool .And [.cmp .Gt (.idx (.var 0) (.cint 1)) (.cint 0),.cmp .Eq dv (.cint 1)])]
noncomputable def s__law_number:List S:=[
  .ifs (.cmp .Lt (.bin .Mod (.var 0) (.cint 8)) (.cint 5)) [.ret (.tup [.bin .Sub (.bin .Mod (.bin .FloorDiv (.var 0) (.cint 8)) (.cint 13)) (.cint 6),.cint 1])] [],
  .ifs (.cmp .Gt (.bin .Mod (.bin .FloorDiv (.var 0) (.cint 8)) (.cint 16)) (.cint 0)) [.ret (.call (Str.ofString "_law_fraction") [.bin .Sub (.bin .Mod (.bin .FloorDiv (.var 0) (.cint 128)) (.cint 25)) (.cint 12),.bin .Add (.cint 1) (.bin .Mod (.bin .FloorDiv (.var 0) (.cint 3200)) (.cint 9))])] [],
  .ret (.call (Str.ofString "_law_fraction") [.bin .Sub (.bin .Mod (.bin .FloorDiv (.bin .Mult (.var 0) (.var 0)) (.cint 128)) (.cint 2000001)) (.cint 1000000),.bin .Add (.cint 1) (.bin .Mod (.bin .FloorDiv (.var 0) (.cint 128)) (.idx (.lst [.cint 1,.cint 1000]) (.bin .Mod (.bin .FloorDiv (.var 0) (.cint 128000)) (.cint 2))))])]
noncomputable def Kn (sto:Sto):D→Prop
 | .lst a=>∃ o ds,sto a=some (.list o ds)
 | .exc _ _ _=>False
 | _=>True
theorem Kn.ro {sto:Sto} {d:D} (h:Kn sto d):Kn (Sto.ro sto) d:=by
 cases d <;> first | trivial | exact h.elim | skip
 obtain ⟨o,ds,e⟩:=h
 exact ⟨false,ds,by unfold Sto.ro; rw [e]; rfl⟩
noncomputable def isTupD:D→Bool
 | .tup _=>true
 | _=>false
noncomputable def isIntD:D→Bool
 | .int _=>true
 | .bool _=>true
 | _=>false
noncomputable def isBoolD:D→Bool
 | .bool _=>true
 | _=>false
noncomputable def isWhD:D→Bool
 | .int _=>true
 | _=>false
section
variable {c:Cx} {Q:D→St→Prop} {σ:St} {d:D}
theorem isa_tup (k:Kn σ.sto d) (h:Q (.bool (isTupD d)) σ):opIsa c d .tuple Q σ:=by
 cases d <;> first | exact ⟨trivial,h⟩ | exact k.elim | (obtain ⟨o,x,e⟩:=k; exact ⟨trivial,o,x,e,h⟩)
theorem isa_int (k:Kn σ.sto d) (h:Q (.bool (isIntD d)) σ):opIsa c d .int Q σ:=by
 cases d <;> first | exact ⟨trivial,h⟩ | exact k.elim | (obtain ⟨o,x,e⟩:=k; exact ⟨trivial,o,x,e,h⟩)
theorem isa_bool (k:Kn σ.sto d) (h:Q (.bool (isBoolD d)) σ):opIsa c d .bool Q σ:=by
 cases d <;> first | exact ⟨trivial,h⟩ | exact k.elim | (obtain ⟨o,x,e⟩:=k; exact ⟨trivial,o,x,e,h⟩)
end
noncomputable def isFrD:D→Bool
 | .tup [.int a,.int b]=>decide (b > 0)&&(Int.gcd a b==1)
 | _=>false
noncomputable def KnT (sto:Sto):D→Prop
 | .tup ds=>ds.length≤1000∧∀ x∈ds,Kn sto x
 | d=>Kn sto d
theorem isFr_frD (r:Rat):isFrD (frD r)=true:=by
 unfold frD isFrD
 have h1:=r.den_pos
 have h2:Int.gcd r.num r.den=1:=by
  have:=r.reduced
  simpa [Nat.Coprime,Int.gcd] using this
 simp [h2,h1]
section
variable {c:Cx} (CO:CxOK c) (EO:ExcOK c) (RO:RzOK c)
include CO EO RO
theorem call_whole {n:Nat} {f:Str} {p v:List Str} (hf:FnIs c f p v s__law_whole) (hp:p.length=1) {d:D} {sto:Sto} (k:Kn sto d) {Q:D→Sto→Prop} {X:Str→Prop} (h:Q (.bool (isWhD d)) sto):CallOK c (n+1) f [d] sto Q X:=by
 refine fn_call CO EO RO hf hp.symm ?_
 unfold s__law_whole
 have k':=k.ro
 walk_at "m"
 refine isa_int k' ?_
 walk_at "m"
 refine if_and (fun hb=>?_) fun hb=>?_
 ·have:isWhD d=isIntD d:=by cases d <;> simp_all [isWhD,isIntD]
  rw [this] at h
  exact ret_plain h
 ·walk_at "m"
  refine isa_bool k' ?_
  walk_at "m"
  have:isWhD d=!isBoolD d:=by cases d <;> simp_all [isWhD,isIntD,isBoolD]
  rw [this] at h
  exact ret_plain h
omit CO EO RO in
theorem isFr_tup {d:D} (h:isTupD d=false):isFrD d=false:=by
 cases d with
 | tup ds=>cases h
 | _=>rfl
omit CO EO RO in
theorem isFr_len {ds:List D} (h:ds.length≠2):isFrD (.tup ds)=false:=by
 unfold isFrD
 split
 ·rename_i e; cases e; exact absurd rfl h
 ·rfl
omit CO EO RO in
theorem isFr_pair {x y:D} (h:isWhD x=false∨isWhD y=false):isFrD (.tup [x,y])=false:=by
 unfold isFrD
 split
 ·rename_i e; cases e; rcases h with h | h <;> cases h
 ·rfl
omit CO EO RO in
theorem wh_int {x:D} (h:isWhD x=true):∃ i,x=.int i:=by
 cases x with
 | int i=>exact ⟨i,rfl⟩
 | _=>cases h
theorem isfr_G {n:Nat} {w f:Str} {dv:E} {p v:List Str} (hf:FnIs c f p v (s_isfr w dv)) (hp:p.length=1) (hw:IsFn c w∧∀ (d:D) (sto:Sto) (Q:D→Sto→Prop) (X:Str→Prop),Kn sto d→Q (.bool (isWhD d)) sto→CallOK c n w [d] sto Q X)
  (hdv:∀ (x y:Int) (σ:St) (Q:D→St→Prop) (X:Str→St→Prop),σ.loc 0=some (.tup [.int x,.int y])→0<y→Q (.int (Int.gcd x y)) σ→wE c n true dv Q X σ) {d:D} {sto:Sto} (k:KnT sto d) {Q:D→Sto→Prop} {X:Str→Prop} (h:Q (.bool (isFrD d)) sto):CallOK c (n+1) f [d] sto Q X:=by
 refine fn_call CO EO RO hf hp.symm ?_
 unfold s_isfr
 have no:isFrD d=false→∀ σ:St,wSs c n true [.ret (.cbool false)] (EndQ sto Q) (fun k _=>X k) σ:=fun hb σ=>by
  walk_at "m"
  rw [hb] at h
  exact ret_plain h
 have k0:Kn (Sto.ro sto) d:=by cases d <;> first | exact Kn.ro k | trivial
 walk_at "m"
 refine isa_tup k0 ?_
 walk_at "m"
 refine if_or (fun hb=>?_) fun hb=>?_
 ·rw [hb]
  exact if_b (fun _=>no (isFr_tup ((Bool.not_eq_true' _).mp hb)) _) fun z=>Bool.noConfusion z
 obtain ⟨ds,rfl⟩:∃ ds,d=.tup ds:=by
  cases d with
  | tup ds=>exact ⟨ds,rfl⟩
  | _=>cases hb
 obtain ⟨hlen,hkn⟩:=k
 walk_at "m"
 refine f_lenT (Nat.le_trans hlen (by decide)) ?_
 walk_at "m"
 refine if_or (fun hb=>?_) fun hb=>?_
 ·rw [hb]
  refine if_b (fun _=>no (isFr_len fun z=>?_) _) fun z=>Bool.noConfusion z
  rw [z] at hb; cases hb
 have hl2:ds.length=2:=by simp at hb; exact linN [_] [] [.ie (.c (.x 0)) (.k 2)] [] (.x 0) (.k 2) (.l 1 [1]) (.l 1 [-1]) rfl hb
 match ds,hl2 with
 | [x,y],_ =>
 walk_at "m"
 refine e_call hw.1 ?_
 walk_at "m"
 refine i_tup (by exact Nat.le_of_ble_eq_true rfl) rfl ?_
 walk_at "m"
 refine hw.2 x _ _ _ (hkn x (.head _)).ro ?_
 walk_at "m"
 refine if_or (fun hb=>?_) fun hx=>?_
 ·rw [hb]
  exact if_b (fun _=>no (isFr_pair (.inl ((Bool.not_eq_true' _).mp hb))) _) fun z=>Bool.noConfusion z
 walk_at "m"
 refine e_call hw.1 ?_
 walk_at "m"
 refine i_tup (by exact Nat.le_of_ble_eq_true rfl) rfl ?_
 walk_at "m"
 refine hw.2 y _ _ _ (hkn y (.tail _ (.head _))).ro ?_
 walk_at "m"
 refine if_or (fun hb=>?_) fun hy=>?_
 ·rw [hb]
  exact if_b (fun _=>no (isFr_pair (.inr ((Bool.not_eq_true' _).mp hb))) _) fun z=>Bool.noConfusion z
 obtain ⟨x,rfl⟩:=wh_int ((Bool.not_eq_false' _).mp hx)
 obtain ⟨y,rfl⟩:=wh_int ((Bool.not_eq_false' _).mp hy)
 walk_at "m"
 refine if_b (fun z=>Bool.noConfusion z) fun _=>?_
 walk_at "m"
 refine i_tup (by exact Nat.le_of_ble_eq_true rfl) rfl ?_
 walk_at "m"
 have e0:isFrD (.tup [.int x,.int y])=(decide (y > 0)&&(Int.gcd x y==1)):=rfl
 refine if_and (fun hb=>?_) fun hb=>?_
 ·refine ret_plain ?_
  rw [e0,hb,Bool.false_and] at h
  rw [hb]; exact h
 walk_at "m"
 refine hdv x y _ _ _ rfl (of_decide_eq_true hb) ?_
 walk_at "m"
 refine ret_plain ?_
 have e2:(Int.gcd x y==1)=((Int.gcd x y:Int)==1):=by
  cases z:(Int.gcd x y==1) with
  | true=>symm; rw [beq_iff_eq] at z ⊢; exact linI [_] [] [.ne (.x 0) (.k 1)] [] (.c (.x 0)) (.k 1) (.l 1 [1]) (.l 1 [-1]) rfl z
  | false=>symm; rw [beq_eq_false_iff_ne] at z ⊢; exact o102 z
 rw [e0,hb,Bool.true_and,e2] at h
 exact h
theorem call_law_number {n:Nat} {p v p' v' p'' v'':List Str} (hf:FnIs c (Str.ofString "_law_number") p v s__law_number) (hp:p.length=1) (hd:FnIs c (Str.ofString "_law_divisor") p' v' s__law_divisor) (hp':p'.length=2) (hw:FnIs c (Str.ofString "_law_fraction") p'' v'' s__law_fraction) (hp'':p''.length=2)
  {x:Int} (hx:0≤x∧x<2147483647) {sto:Sto} {Q:D→Sto→Prop} {X:Str→Prop} (h:∀ r:Rat,r.num.natAbs≤1000000→r.den≤1000→Q (frD r) sto):CallOK c (n+3) (Str.ofString "_law_number") [.int x] sto Q X:=by
 refine fn_call CO EO RO hf hp.symm ?_
 unfold s__law_number
 have fm:∀ (a:Int) (b:Int),0<b→a.fmod b=a % b:=fun a b hb=>Int.fmod_eq_emod_of_nonneg a (by exact o96 hb)
 have fr:∀ (t b:Int),b≠0→t.natAbs≤1000000→b.natAbs≤1000→(Rat.divInt t b).num.natAbs≤1000000∧(Rat.divInt t b).den≤1000:=fun t b hb h1 h2=>by
  rw [Rat.num_divInt,Rat.den_divInt,if_neg hb]
  refine ⟨?_,Nat.le_trans (Nat.div_le_self _ _) h2⟩
  refine Nat.le_trans (Int.natAbs_ediv_le_natAbs _ _) ?_
  rw [Int.natAbs_mul]
  have:b.sign.natAbs=1:=by rw [Int.natAbs_sign_of_ne_zero hb]
  rw [this,Nat.one_mul]; exact h1
 have key:∀ i:Int,i.natAbs≤1000000→Q (.tup [.int i,.int 1]) sto:=fun i hi=>by
  have:=h (i:Rat) (by simpa using hi) (by simp)
  simpa [frD] using this
 walk_at "m"
 refine o_mod (by decide) ?_
 walk_at "m"
 refine if_b (fun hb=>?_) fun hb=>?_
 ·walk_at "m"
  refine o_fdiv (by decide) ?_
  walk_at "m"
  refine o_mod (by decide) ?_
  walk_at "m"
  refine ⟨by exact Nat.le_of_ble_eq_true rfl,?_⟩
  walk_at "m"
  refine ret_plain ?_
  exact key _ (by rw [fm _ _ (by decide)]; exact o103)
 walk_at "m"
 refine o_fdiv (by decide) ?_
 walk_at "m"
 refine o_mod (by decide) ?_
 walk_at "m"
 refine if_b (fun hb=>?_) fun hb=>?_
 ·walk_at "m"
  refine e_call hw.isFn ?_
  walk_at "m"
  refine o_fdiv (by decide) ?_
  walk_at "m"
  refine o_mod (by decide) ?_
  walk_at "m"
  refine o_fdiv (by decide) ?_
  walk_at "m"
  refine o_mod (by decide) ?_
  walk_at "m"
  have e1:=fm (x.fdiv 128) 25 (by decide)
  have e2:=fm (x.fdiv 3200) 9 (by decide)
  refine call_law_fraction CO EO RO hw hp'' hd hp' (by exact o104 e2) ?_
  obtain ⟨f1,f2⟩:=fr ((x.fdiv 128).fmod 25 - 12) (1+(x.fdiv 3200).fmod 9) (by exact o104 e2) (by exact o105 e1) (by exact o106 e2)
  exact ret_plain (h _ f1 f2)
 walk_at "m"
 refine e_call hw.isFn ?_
 walk_at "m"
 refine o_mul (mul_ok (k:=32) (by exact o107 hx) (by exact o107 hx) (by exact o86)) ?_
 walk_at "m"
 refine o_fdiv (by decide) ?_
 walk_at "m"
 refine o_mod (by decide) ?_
 walk_at "m"
 refine o_fdiv (by decide) ?_
 walk_at "m"
 refine ⟨by exact Nat.le_of_ble_eq_true rfl,fun l hl=>?_⟩
 walk_at "m"
 refine o_fdiv (by decide) ?_
 walk_at "m"
 refine o_mod (by decide) ?_
 have e3:=fm (x.fdiv 128000) 2 (by decide)
 have e1:=fm ((x*x).fdiv 128) 2000001 (by decide)
 have hst:∀ σ:St,(σ.put l (.list true [.int 1,.int 1000])).sto l=some (.list true [.int 1,.int 1000]):=fun σ=>by simp [St.put,Sto.put]
 have tail:∀ k:Int,(k=1∨k=1000)→∀ σ:St,opBin .Mod (.int (x.fdiv 128)) (.int k) (fun y σ₂=>opBin .Add (.int 1) y (fun d σ₁=>wEs c (n+2) true [] (fun ds σ₂=>CallOK c (n+2) (Str.ofString "_law_fraction") (D.int (((x*x).fdiv 128).fmod 2000001 - 1000000) :: d :: ds) σ₂.sto (fun d sto'=>EndQ sto Q (.ret d) { σ₂ with sto:=sto' }) X) (fun k _=>X k) σ₁) σ₂) σ:=fun k hk σ=>by
  refine o_mod (by exact o108 hk) ?_
  walk_at "m"
  have e2:=fm (x.fdiv 128) k (by exact o109 hk)
  have:=Int.emod_nonneg (x.fdiv 128) (show k≠0 by exact o108 hk)
  have:=Int.emod_lt_of_pos (x.fdiv 128) (show 0<k by exact o109 hk)
  refine call_law_fraction CO EO RO hw hp'' hd hp' (by omega) ?_
  obtain ⟨f1,f2⟩:=fr (((x*x).fdiv 128).fmod 2000001 - 1000000) (1+(x.fdiv 128).fmod k) (by omega) (by exact o110 e1) (by omega)
  exact ret_plain (h _ f1 f2)
 rcases (by exact o111 e3:(x.fdiv 128000).fmod 2=0∨(x.fdiv 128000).fmod 2=1) with z | z
 ·rw [z]
  exact i_lst (hst _) (by exact Nat.le_of_ble_eq_true rfl) rfl (tail 1 (.inl rfl) _)
 ·rw [z]
  exact i_lst (hst _) (by exact Nat.le_of_ble_eq_true rfl) rfl (tail 1000 (.inr rfl) _)
end
end Mine
namespace Mine
open PySem
theorem put_same {s:Sto} {l:Addr} {k:Cell}:Sto.put s l k l=some k:=by simp [Sto.put]
theorem put_ne {s:Sto} {l l':Addr} {k:Cell} (h:l'≠l):Sto.put s l k l'=s l':=by simp [Sto.put,h]
theorem put_old {s:Sto} {l l':Addr} {k k':Cell} (h:s l=none) (h':s l'=some k'):Sto.put s l k l'=some k':=by
 rw [put_ne (fun z=>by rw [z,h] at h'; cases h')]; exact h'
noncomputable def LNums (c:Cx):Prop :=
 (∃ p v,FnIs c (Str.ofString "_law_cell_at") p v s__law_cell_at∧p.length=2)∧
 (∃ p v,FnIs c (Str.ofString "_law_stream") p v s__law_stream∧p.length=2)∧
 (∃ p v,FnIs c (Str.ofString "_law_divisor") p v s__law_divisor∧p.length=2)∧
 (∃ p v,FnIs c (Str.ofString "_law_fraction") p v s__law_fraction∧p.length=2)∧
 (∃ p v,FnIs c (Str.ofString "_law_number") p v s__law_number∧p.length=1)
section
variable {c:Cx} (h_:LNums c)
include h_
theorem LNums.cell_at:∃ p v,FnIs c (Str.ofString "_law_cell_at") p v s__law_cell_at∧p.length=2:=h_.1
theorem LNums.stream:∃ p v,FnIs c (Str.ofString "_law_stream") p v s__law_stream∧p.length=2:=h_.2.1
theorem LNums.divisor:∃ p v,FnIs c (Str.ofString "_law_divisor") p v s__law_divisor∧p.length=2:=h_.2.2.1
theorem LNums.fraction:∃ p v,FnIs c (Str.ofString "_law_fraction") p v s__law_fraction∧p.length=2:=h_.2.2.2.1
theorem LNums.number:∃ p v,FnIs c (Str.ofString "_law_number") p v s__law_number∧p.length=1:=h_.2.2.2.2
end
theorem rs_of {x:Rat} (h1:x.num.natAbs≤1000000) (h2:x.den≤1000):RS 20 x:=⟨by exact o112 h1,by exact o113 h2⟩
theorem knT_frD {sto:Sto} (r:Rat):KnT sto (frD r):=by
 refine ⟨by simp,fun z hz=>?_⟩
 simp at hz
 rcases hz with rfl | rfl <;> trivial
section
open PySem.W PyProof.Rows
theorem ints_reps {h:Heap}:∀ {vs:List Value} {is:List Int},IntsAre vs is→Reps h vs (is.map D.int):=by
 intro vs is hI
 induction hI with
 | nil=>exact .nil
 | cons=>rename_i ih; exact .cons (.int _ _) ih
theorem law_end {c:Cx} {f:Str} {fa la:Addr} {vs:List Value} {is:List Int} {n:Nat} {s₁:Shared} {P:Value→Shared→Prop} {E:Value→Shared→Prop} (hB:c.B=s₁.heap) (hmg:c.mg f=some (.ref fa)) (hL:s₁.heap.IsList la vs.toArray) (hI:IntsAre vs is) (hn:n<100)
  (h:CallOK c n f [.lst la] (fun b=>if b=la then some (.list false (is.map D.int)) else none) (fun d _=>d=.bool true) fun _=>False)
  (hP:∀ h' t,(∀ b o,s₁.heap.get? b=some o→h'.get? b=some o)→P (.bool true) { s₁ with heap:=h',toks:=t }) :
  wpAny (model c.prog c.w) callerA (call (.ref fa) [.ref la]) P E s₁:=by
 obtain ⟨a,o,fd,h1,h2,h3,h4⟩:=h
 rw [hmg] at h1; cases h1
 refine wpAny_call (codeAny_mono (h4 callerA [] s₁ [.ref la] rfl rfl (by show 301+n<800; exact lin [_] [] [.nt (.x 0) (.k 100)] [] (.nt (.a (.k 301) (.x 0)) (.k 800)) (.l 1 [1]) rfl hn) (by show 4+4*n<9000; exact lin [_] [] [.nt (.x 0) (.k 100)] [] (.nt (.a (.k 4) (.m 4 (.x 0))) (.k 9000)) (.l 1 [4]) rfl hn) (fun b o e=>by rw [hB] at e; exact e) (fun env he=>by cases he) (.cons (.lst la) .nil) fun b k e=>?_) fun r s' hr=>?_)
 ·by_cases hb:b=la
  ·subst hb
   have e':some (Cell.list false (is.map D.int))=some k:=by simpa using e
   cases e'
   exact ⟨s₁.heap,vs,hL,(fun z=>nomatch z),ints_reps hI⟩
  ·have e':(none:Option Cell)=some k:=by simpa [hb] using e
   cases e'
 ·obtain ⟨⟨h',t,rfl⟩,_,hk,hr⟩:=hr
  cases r with
  | ok x=>cases x with
   | ret v =>
    obtain ⟨d,sto',rv,_,hd⟩:=hr
    subst hd
    cases rv
    exact hP h' t fun b o e=>hk.exact e (.inl (by simp [fsOf]))
   | _=>exact (show False from hr).elim
  | error e =>
   obtain ⟨ea,nm,C,t,_,_,hx,_⟩:=hr
   exact hx.elim
end
end Mine
namespace Mine
open PySem
noncomputable def rowD (p:List Rat):D:=.tup (p.map frD)
noncomputable def RSs (k:Nat) (p:List Rat):Prop:=∀ i,RS k (cf p i)
theorem mul_ok2 {a b:Int} {k l:Nat} (ha:a.natAbs<2 ^ k) (hb:b.natAbs<2 ^ l) (hk:k+l≤67108864):IntMulOk a b:=by
 have bits:∀ (x:Int) (k:Nat),x.natAbs<2 ^ k→Builtin.Int.intBits x≤k:=fun x k hx=>by
  unfold Builtin.Int.intBits
  split
  ·exact Nat.zero_le _
  ·rename_i h0
   have hn:x.natAbs≠0:=fun z=>h0 (by simpa using z)
   have:=(Nat.log2_lt hn).mpr hx
   exact o69 this
 have h1:=bits a k ha
 have h2:=bits b l hb
 unfold IntMulOk
 have:Builtin.Int.intTooBig (Builtin.Int.intBits a+Builtin.Int.intBits b)=false:=by
  unfold Builtin.Int.intTooBig
  have:(bitsLine:Int)≥67108864:=by decide
  simp only [decide_eq_false_iff_not]
  exact o116 hk h1 h2 this
 rw [this]; simp
theorem rs_mulR {k l:Nat} {x y:Rat} (hx:RS k x) (hy:RS l y):RS (k+l) (x*y):=by
 rw [← rat_mul]
 exact rs_divInt (Int.mul_ne_zero (den_ne x) (den_ne y)) (pow_mul hx.1 hy.1) (pow_mul (den_nat hx) (den_nat hy))
theorem nth_row {p:List Rat} {i:Nat} (h:i<p.length):nth (p.map frD) (i:Int)=some (frD (cf p i)):=by
 unfold nth
 rw [if_pos (by exact o117),Int.toNat_natCast,List.getElem?_map,List.getElem?_eq_getElem h,cf_lt h]
 rfl
theorem i_row {p:List Rat} {i:Nat} {Q:D→St→Prop} {σ:St} (hl:p.length≤1000) (h:i<p.length) (hq:Q (frD (cf p i)) σ):opIdx (rowD p) (.int i) Q σ:=i_tup (by exact Mine.mlim (by exact o118 hl)) (nth_row h) hq
theorem i_rowL {p:List Rat} {i:Nat} {l:Addr} {o:Bool} {Q:D→St→Prop} {σ:St} (e:σ.sto l=some (.list o (p.map frD))) (hl:p.length≤1000) (h:i<p.length) (hq:Q (frD (cf p i)) σ):opIdx (.lst l) (.int i) Q σ:=i_lst e (by exact Mine.mlim (by exact o118 hl)) (nth_row h) hq
theorem f_lenR {p:List Rat} {Q:D→St→Prop} {σ:St} (hl:p.length≤1000) (h:Q (.int p.length) σ):opBlt .len [rowD p] Q σ:=f_lenT (by exact Mine.mlim (by exact o118 hl)) (by rw [List.length_map]; exact h)
theorem set_row (p:List Rat) (k:Nat) (v:Rat):(p.map frD).set k (frD v)=(p.set k v).map frD:=by rw [List.map_set]
theorem eq_fr (x y:Rat):eqD 50 (frD x) (frD y)=some (x==y):=by
 have e:eqD 50 (frD x) (frD y)=some ((x.num==y.num)&&((x.den:Int)==(y.den:Int)&&true)):=rfl
 rw [e]
 congr 1
 by_cases h:x=y
 ·subst h; simp
 ·rw [beq_eq_false_iff_ne.mpr h]
  cases h1:(x.num==y.num) with
  | false=>rfl
  | true =>
   cases h2:((x.den:Int)==(y.den:Int)) with
   | false=>rfl
   | true =>
    have h1:=beq_iff_eq.mp h1
    have h2:(x.den:Int)=y.den:=beq_iff_eq.mp h2
    exact absurd (Rat.ext h1 (by exact o119 h2)) h
theorem eq_fr49 (x y:Rat):eqD 49 (frD x) (frD y)=some (x==y):=by
 have e:eqD 49 (frD x) (frD y)=some ((x.num==y.num)&&((x.den:Int)==(y.den:Int)&&true)):=rfl
 exact e.trans (eq_fr x y)
theorem eqL_rows:∀ (p q:List Rat),eqL (eqD 49) (p.map frD) (q.map frD)=some (p==q)
 | [],[]=>rfl
 | [],_ :: _=>rfl
 | _ :: _,[]=>rfl
 | x :: p,y :: q=>by
  show (match eqD 49 (frD x) (frD y) with | some x=>(match eqL (eqD 49) (p.map frD) (q.map frD) with | some y=>some (x&&y) | none=>none) | none=>none)=_
  rw [eq_fr49,eqL_rows p q]
  rfl
theorem eq_rows {τ:Sto} (p q:List Rat):eqTop τ (rowD p) (rowD q)=some (p==q):=eqL_rows p q
theorem eq_frs {τ:Sto} (x y:Rat):eqTop τ (frD x) (frD y)=some (x==y):=eq_fr x y
noncomputable def FrOK (c:Cx) (n:Nat) (g:Str):Prop:=IsFn c g∧∀ (t b:Int) (m:Nat) (sto:Sto) (Q:D→Sto→Prop) (X:Str→Prop),n≤m→b≠0→Q (frD (Rat.divInt t b)) sto→CallOK c m g [.int t,.int b] sto Q X
noncomputable def s_sum (g:Str):List S:=[.ret (.call g [.bin .Add (.bin .Mult (.idx (.var 0) (.cint 0)) (.idx (.var 1) (.cint 1))) (.bin .Mult (.idx (.var 1) (.cint 0)) (.idx (.var 0) (.cint 1))),.bin .Mult (.idx (.var 0) (.cint 1)) (.idx (.var 1) (.cint 1))])]
noncomputable def s_prod (g:Str):List S:=[.ret (.call g [.bin .Mult (.idx (.var 0) (.cint 0)) (.idx (.var 1) (.cint 0)),.bin .Mult (.idx (.var 0) (.cint 1)) (.idx (.var 1) (.cint 1))])]
noncomputable def SumOK (c:Cx) (n:Nat) (g:Str):Prop:=IsFn c g∧∀ (x y:Rat) (k l m:Nat) (sto:Sto) (Q:D→Sto→Prop) (X:Str→Prop),n≤m→RS k x→RS l y→k+l≤67108864→Q (frD (x+y)) sto→CallOK c m g [frD x,frD y] sto Q X
noncomputable def ProdOK (c:Cx) (n:Nat) (g:Str):Prop:=IsFn c g∧∀ (x y:Rat) (k l m:Nat) (sto:Sto) (Q:D→Sto→Prop) (X:Str→Prop),n≤m→RS k x→RS l y→k+l≤67108864→Q (frD (x*y)) sto→CallOK c m g [frD x,frD y] sto Q X
section
variable {c:Cx} (CO:CxOK c) (EO:ExcOK c) (RO:RzOK c)
include CO EO RO
theorem fr_ok {p v p' v':List Str} (hf:FnIs c (Str.ofString "fraction") p v s_fraction) (hp:p.length=2) (hd:FnIs c (Str.ofString "divisor_of") p' v' s_divisor_of) (hp':p'.length=2):FrOK c 2 (Str.ofString "fraction"):=by
 refine ⟨hf.isFn,fun t b m sto Q X hm hb0 h=>?_⟩
 obtain ⟨n,rfl⟩:∃ n,m=n+2:=⟨m - 2,by exact o120 hm⟩
 refine fn_call CO EO RO hf hp.symm ?_
 have hg:(0:Int)<Int.gcd t b:=by
  have:=Int.gcd_pos_of_ne_zero_right t hb0
  exact o71 this
 unfold s_fraction
 walk_at "m"
 refine if_b (fun hb=>absurd (by simpa using hb) hb0) fun hb=>?_
 walk_at "m"
 refine e_call hd.isFn ?_
 walk_at "m"
 refine call_divisor_of CO EO RO hd hp' ?_
 walk_at "m"
 refine if_b (fun hl=>?_) fun hl=>?_
 ·have hl':b<0:=by simpa using hl
  walk_at "m"
  refine o_fdiv (by exact o121 hg) ?_
  walk_at "m"
  refine o_fdiv (by exact o121 hg) ?_
  walk_at "m"
  refine ⟨by exact Nat.le_of_ble_eq_true rfl,?_⟩
  walk_at "m"
  refine ret_plain ?_
  unfold frD at h
  rw [← rat_num hb0,← rat_den hb0,if_pos hl'] at h
  exact h
 ·have hl':¬ b<0:=by simpa using hl
  walk_at "m"
  refine o_fdiv (by exact o97 hg) ?_
  walk_at "m"
  refine o_fdiv (by exact o97 hg) ?_
  walk_at "m"
  refine ⟨by exact Nat.le_of_ble_eq_true rfl,?_⟩
  walk_at "m"
  refine ret_plain ?_
  unfold frD at h
  rw [← rat_num hb0,← rat_den hb0,if_neg hl'] at h
  exact h
theorem sum_ok {f g:Str} {p v:List Str} (hf:FnIs c f p v (s_sum g)) (hp:p.length=2) (hg:FrOK c 2 g):SumOK c 3 f:=by
 refine ⟨hf.isFn,fun x y k l m sto Q X hm hx hy hk h=>?_⟩
 obtain ⟨n,rfl⟩:∃ n,m=n+1:=⟨m - 1,by exact o122 hm⟩
 refine fn_call CO EO RO hf hp.symm ?_
 unfold s_sum
 walk_at "m"
 refine e_call hg.1 ?_
 walk_at "m"
 refine o_mul (mul_ok2 hx.1 (den_nat hy) hk) ?_
 walk_at "m"
 refine o_mul (mul_ok2 hy.1 (den_nat hx) (by exact lin [_,_] [] [.nl (.a (.x 0) (.x 1)) (.k 67108864)] [] (.nl (.a (.x 1) (.x 0)) (.k 67108864)) (.l 1 [1]) rfl hk)) ?_
 walk_at "m"
 refine o_mul (mul_ok2 (den_nat hx) (den_nat hy) hk) ?_
 walk_at "m"
 refine hg.2 _ _ _ _ _ _ (by exact o124 hm) (Int.mul_ne_zero (den_ne x) (den_ne y)) ?_
 rw [rat_sum]
 exact ret_plain h
theorem prod_ok {f g:Str} {p v:List Str} (hf:FnIs c f p v (s_prod g)) (hp:p.length=2) (hg:FrOK c 2 g):ProdOK c 3 f:=by
 refine ⟨hf.isFn,fun x y k l m sto Q X hm hx hy hk h=>?_⟩
 obtain ⟨n,rfl⟩:∃ n,m=n+1:=⟨m - 1,by exact o122 hm⟩
 refine fn_call CO EO RO hf hp.symm ?_
 unfold s_prod
 walk_at "m"
 refine e_call hg.1 ?_
 walk_at "m"
 refine o_mul (mul_ok2 hx.1 hy.1 hk) ?_
 walk_at "m"
 refine o_mul (mul_ok2 (den_nat hx) (den_nat hy) hk) ?_
 walk_at "m"
 refine hg.2 _ _ _ _ _ _ (by exact o124 hm) (Int.mul_ne_zero (den_ne x) (den_ne y)) ?_
 rw [rat_mul]
 exact ret_plain h
end
end Mine
namespace Mine
open PySem
noncomputable def s_trimmed:List S:=[
  .assign 1 (.blt .len [.var 0]),
  .whiles (.bool .And [.cmp .Gt (.var 1) (.cint 0),.cmp .Eq (.idx (.var 0) (.bin .Sub (.var 1) (.cint 1))) (.glob (Str.ofString "ZERO"))]) [.assign 1 (.bin .Sub (.var 1) (.cint 1))],
  .ret (.blt .tuple [.slice (.var 0) none (some (.var 1))])]
noncomputable def s__law_trim:List S:=[
  .whiles (.bool .And [.cmp .Gt (.blt .len [.var 0]) (.cint 0),.cmp .Eq (.idx (.idx (.var 0) (.neg (.cint 1))) (.cint 0)) (.cint 0)]) [.assign 0 (.slice (.var 0) none (some (.neg (.cint 1))))],
  .ret (.blt .tuple [.var 0])]
noncomputable def TrimOK (c:Cx) (n:Nat) (g:Str):Prop:=IsFn c g∧∀ (p:List Rat) (l:Addr) (o:Bool) (m:Nat) (sto:Sto) (Q:D→Sto→Prop) (X:Str→Prop),n≤m→sto l=some (.list o (p.map frD))→p.length≤1000→Q (rowD (trimL p)) sto→CallOK c m g [.lst l] sto Q X
theorem ro_at {sto:Sto} {l:Addr} {o:Bool} {xs:List D} (h:sto l=some (.list o xs)):Sto.ro sto l=some (.list false xs):=by unfold Sto.ro; rw [h]; rfl
theorem cut_take {α:Type} (l:List α) (s:Nat) (h:s≤l.length):cutL l none (some (s:Int))=l.take s:=by
 unfold cutL cutAt
 simp only
 rw [if_pos (by exact o117),Int.toNat_natCast,Nat.min_eq_left h,List.drop_zero]
theorem cut_last {α:Type} (l:List α) (h:1≤l.length):cutL l none (some (-1))=l.take (l.length - 1):=by
 unfold cutL cutAt
 simp only
 rw [if_neg (by decide),List.drop_zero]
 congr 1
 exact o125
theorem cut_drop {α:Type} (l:List α) (s:Nat) (h:s≤l.length):cutL l (some (s:Int)) none=l.drop s:=by
 unfold cutL cutAt
 simp only
 rw [if_pos (by exact o117),Int.toNat_natCast,Nat.min_eq_left h,List.take_length]
theorem rw_take {p:List Rat} {s:Nat} (hs:s≤p.length) (h:s=0∨cf p (s - 1)≠0):Rw (p.take s):=by
 rcases h with rfl | h
 ·exact .inl rfl
 ·by_cases z:s=0
  ·subst z; exact .inl rfl
  ·refine .inr ?_
   rw [List.length_take,Nat.min_eq_left hs]
   unfold cf
   rw [List.getElem?_take_of_lt (by exact o126 z)]
   exact h
section
variable {c:Cx} (CO:CxOK c) (EO:ExcOK c) (RO:RzOK c)
include CO EO RO
theorem trimmed_ok (hz:c.cs (Str.ofString "ZERO")=some (frD 0)) {p v:List Str} (hf:FnIs c (Str.ofString "trimmed") p v s_trimmed) (hp:p.length=1):TrimOK c 1 (Str.ofString "trimmed"):=by
 refine ⟨hf.isFn,fun p l o m sto Q X hm hl hlen h=>?_⟩
 obtain ⟨n,rfl⟩:∃ n,m=n+1:=⟨m - 1,by exact o127 hm⟩
 refine fn_call CO EO RO hf hp.symm ?_
 have hl':=ro_at hl
 have hlim:(p.map frD).length≤lim:=by exact Mine.mlim (by exact o118 hlen)
 have tail:∀ (σ:St) (s:Nat),σ.loc 0=some (.lst l)→σ.loc 1=some (.int s)→σ.sto l=some (.list false (p.map frD))→s≤p.length→(∀ i,s≤i→cf p i=0)→(s=0∨cf p (s - 1)≠0)→
   wSs c n true [.ret (.blt .tuple [.slice (.var 0) none (some (.var 1))])] (EndQ sto Q) (fun k _=>X k) σ:=fun σ s h0 h1 h2 hs hzz hn=>by
  walk_at "m"
  refine sl_lst h2 rfl rfl hlim fun b hb=>?_
  walk_at "m"
  refine f_tupL (o:=true) (xs:=(p.take s).map frD) ?_ (by rw [List.length_map,List.length_take]; unfold lim; exact o128 hlen) ?_
  ·show Sto.put _ _ _ _=_
   rw [put_same,cut_take _ _ (by rw [List.length_map]; exact hs),List.map_take]
  ·walk_at "m"
   refine ret_plain ?_
   rw [trim_eq (rw_take hs hn) (cf_take hzz)]
   exact h
 unfold s_trimmed
 walk_at "m"
 refine f_lenL hl' hlim ?_
 rw [List.length_map]
 walk_at "m"
 refine g_while (fun σ=>∃ s:Nat,σ.loc 0=some (.lst l)∧σ.loc 1=some (.int s)∧σ.sto l=some (.list false (p.map frD))∧s≤p.length∧∀ i,s≤i→cf p i=0) (fun σ=>match σ.loc 1 with | some (.int y)=>y.toNat | _=>0) ?_ ?_
 ·exact ⟨p.length,rfl,rfl,hl',Nat.le_refl _,fun i hi=>cf_ge hi⟩
 rintro σ' ⟨s,h0,h1,h2,hs,hzz⟩
 walk_at "m"
 refine if_and (fun hb=>?_) fun hb=>?_
 ·refine if_b (fun z=>by rw [hb] at z; cases z) fun _=>?_
  have:s=0:=by simpa using hb
  exact tail σ' s h0 h1 h2 hs hzz (.inl this)
 have hs0:0<s:=by simpa using hb
 walk_at "m"
 rw [show (s:Int) - 1=((s - 1:Nat):Int) by exact o129 hs0]
 refine i_rowL h2 hlen (by exact o130 hs hs0) ?_
 refine e_glob hz ?_
 refine c_eqD (eq_frs _ _) ?_
 walk_at "m"
 refine if_and (fun hb=>?_) fun hb=>?_
 ·refine if_b (fun z=>by rw [hb] at z; cases z) fun _=>?_
  exact tail σ' s h0 h1 h2 hs hzz (.inr (beq_eq_false_iff_ne.mp hb))
 walk_at "m"
 refine if_b (fun _=>?_) fun z=>by cases z
 walk_at "m"
 refine ⟨⟨s - 1,h0,?_,h2,by exact o131 hs,fun i hi=>?_⟩,?_⟩
 ·show some (D.int ((s:Int) - 1))=some (D.int ((s - 1:Nat):Int))
  congr 2; exact o129 hs0
 ·by_cases z:i=s - 1
  ·subst z; exact beq_iff_eq.mp hb
  ·exact hzz i (by exact o132 hi z)
 ·show ((s:Int) - 1).toNat<_
  rw [h1]
  show ((s:Int) - 1).toNat<(s:Int).toNat
  exact o133 hs0
theorem law_trim_ok {p v:List Str} (hf:FnIs c (Str.ofString "_law_trim") p v s__law_trim) (hp:p.length=1):TrimOK c 1 (Str.ofString "_law_trim"):=by
 refine ⟨hf.isFn,fun p l o m sto Q X hm hl hlen h=>?_⟩
 obtain ⟨n,rfl⟩:∃ n,m=n+1:=⟨m - 1,by exact o127 hm⟩
 refine fn_call CO EO RO hf hp.symm ?_
 have tail:∀ (σ:St) (a:Addr) (o:Bool) (s:Nat),σ.loc 0=some (.lst a)→σ.sto a=some (.list o ((p.take s).map frD))→s≤p.length→(∀ i,s≤i→cf p i=0)→(s=0∨cf p (s - 1)≠0)→
   wSs c n true [.ret (.blt .tuple [.var 0])] (EndQ sto Q) (fun k _=>X k) σ:=fun σ a o s h0 h2 hs hzz hn=>by
  walk_at "m"
  refine f_tupL h2 (by rw [List.length_map,List.length_take]; unfold lim; exact o128 hlen) ?_
  walk_at "m"
  refine ret_plain ?_
  rw [trim_eq (rw_take hs hn) (cf_take hzz)]
  exact h
 unfold s__law_trim
 refine g_cons ?_
 refine g_while (fun σ=>∃ (a:Addr) (o:Bool) (s:Nat),σ.loc 0=some (.lst a)∧σ.sto a=some (.list o ((p.take s).map frD))∧s≤p.length∧∀ i,s≤i→cf p i=0) (fun σ=>match σ.loc 0 with | some (.lst a)=>(match σ.sto a with | some (.list _ xs)=>xs.length | _=>0) | _=>0) ?_ ?_
 ·exact ⟨l,false,p.length,rfl,by rw [List.take_length]; exact ro_at hl,Nat.le_refl _,fun i hi=>cf_ge hi⟩
 rintro σ' ⟨a,o',s,h0,h2,hs,hzz⟩
 have hsl:((p.take s).map frD).length=s:=by rw [List.length_map,List.length_take]; exact o134 hs
 have hlim:((p.take s).map frD).length≤lim:=by rw [hsl]; unfold lim; exact lin [_,_] [] [.nl (.x 0) (.k 1000),.nl (.x 1) (.x 0)] [] (.nl (.x 1) (.k 1000000)) (.l 1 [1,1]) rfl hlen hs
 walk_at "m"
 refine f_lenL h2 hlim ?_
 rw [hsl]
 walk_at "m"
 refine if_and (fun hb=>?_) fun hb=>?_
 ·refine if_b (fun z=>by rw [hb] at z; cases z) fun _=>?_
  have:s=0:=by simpa using hb
  exact tail σ' a o' s h0 h2 hs hzz (.inl this)
 have hs0:0<s:=by simpa using hb
 have hcf:cf (p.take s) (s - 1)=cf p (s - 1):=by unfold cf; rw [List.getElem?_take_of_lt (by exact o136 hs0)]
 walk_at "m"
 refine i_lst h2 hlim (d:=frD (cf p (s - 1))) ?_ ?_
 ·have:=nth_row (p:=p.take s) (i:=s - 1) (by rw [List.length_take]; exact o137 hs hs0)
  unfold nth
  rw [if_neg (by decide),if_pos (by rw [hsl]; exact lin [_] [] [.nt (.k 0) (.x 0)] [] (.il (.g (.c (.x 0))) (.g (.k 1))) (.l 1 [1]) rfl hs0),hsl]
  unfold nth at this
  rw [if_pos (by exact o139),Int.toNat_natCast,hcf] at this
  rw [show ((s:Int)+-1).toNat=s - 1 by exact o125]
  exact this
 walk_at "m"
 refine if_and (fun hb=>?_) fun hb=>?_
 ·refine if_b (fun z=>by rw [hb] at z; cases z) fun _=>?_
  refine tail σ' a o' s h0 h2 hs hzz (.inr fun z=>?_)
  rw [z] at hb; cases hb
 walk_at "m"
 refine if_b (fun _=>?_) fun z=>by cases z
 walk_at "m"
 refine sl_lst h2 rfl rfl hlim fun b hb'=>?_
 walk_at "m"
 have e:cutL ((p.take s).map frD) none (some (-1))=(p.take (s - 1)).map frD:=by
  rw [cut_last _ (by exact lin [_,_] [] [.ne (.x 0) (.x 1),.nt (.k 0) (.x 1)] [] (.nl (.k 1) (.x 0)) (.l 1 [-1,1]) rfl hsl hs0),hsl,← List.map_take,List.take_take,Nat.min_eq_left (by exact o141)]
 have e2:Sto.put σ'.sto b (.list true (cutL ((p.take s).map frD) none (some (-1)))) b=some (.list true ((p.take (s - 1)).map frD)):=by rw [put_same,e]
 refine ⟨⟨b,true,s - 1,rfl,e2,by exact o131 hs,fun i hi=>?_⟩,?_⟩
 ·by_cases z:i=s - 1
  ·subst z; exact Rat.num_eq_zero.mp (beq_iff_eq.mp hb)
  ·exact hzz i (by exact o132 hi z)
 ·show (match Sto.put σ'.sto b (.list true (cutL ((p.take s).map frD) none (some (-1)))) b with | some (.list _ xs)=>xs.length | _=>0)<_
  rw [e2,h0]
  show ((p.take (s - 1)).map frD).length<(match σ'.sto a with | some (.list _ xs)=>xs.length | _=>0)
  rw [h2]
  show ((p.take (s - 1)).map frD).length<((p.take s).map frD).length
  rw [hsl,List.length_map,List.length_take]
  exact o142 hs0
end
end Mine
namespace Mine
open PySem
noncomputable def s_is_fraction:List S:=s_isfr (Str.ofString "is_whole") (.call (Str.ofString "divisor_of") [.idx (.var 0) (.cint 0),.idx (.var 0) (.cint 1)])
noncomputable def s_is_row:List S:=[
  .ifs (.not (.isa (.var 0) .tuple)) [.ret (.cbool false)] [],
  .fors [1] true .plain [.var 0] [.ifs (.not (.call (Str.ofString "is_fraction") [.var 1])) [.ret (.cbool false)] []],
  .ret (.bool .Or [.cmp .Eq (.var 0) (.tup []),.cmp .NotEq (.idx (.var 0) (.neg (.cint 1))) (.glob (Str.ofString "ZERO"))])]
noncomputable def s_need_row:List S:=[
  .ifs (.not (.call (Str.ofString "is_row") [.var 0])) [.raise (Str.ofString "NoRow") (Str.ofString "no row")] []]
noncomputable def s_rowLoop (g:Str):S:=.fors [1] true .plain [.var 0] [.ifs (.not (.call g [.var 1])) [.ret (.cbool false)] []]
noncomputable def IsFrOK (c:Cx) (n:Nat) (g:Str):Prop:=IsFn c g∧∀ (d:D) (m:Nat) (sto:Sto) (Q:D→Sto→Prop) (X:Str→Prop),n≤m→KnT sto d→Q (.bool (isFrD d)) sto→CallOK c m g [d] sto Q X
noncomputable def KnR (sto:Sto):D→Prop
 | .tup ds=>ds.length≤1000∧∀ x∈ds,KnT sto x
 | d=>Kn sto d
noncomputable def RowB (d:D) (b:Bool):Prop:=(∃ p,d=rowD p∧(b=true↔Rw p))∨(b=false∧∀ ds,d=.tup ds→ds.all isFrD=false)
theorem KnT.ro {sto:Sto} {d:D} (h:KnT sto d):KnT (Sto.ro sto) d:=by
 cases d with
 | tup ds=>exact ⟨h.1,fun x hx=>(h.2 x hx).ro⟩
 | lst a=>exact Kn.ro (d:=.lst a) h
 | exc=>exact (show False from h).elim
 | _=>trivial
theorem all_row (p:List Rat):(p.map frD).all isFrD=true:=by
 rw [List.all_eq_true]
 intro d hd
 obtain ⟨x,_,rfl⟩:=List.mem_map.mp hd
 exact isFr_frD x
theorem knT_row {sto:Sto} (p:List Rat):∀ x∈p.map frD,KnT sto x:=fun d hd=>by
 obtain ⟨x,_,rfl⟩:=List.mem_map.mp hd
 exact knT_frD x
theorem knR_row {sto:Sto} {p:List Rat} (h:p.length≤1000):KnR sto (rowD p):=⟨by rw [List.length_map]; exact h,knT_row p⟩
theorem nth_last {p:List Rat} (h:p≠[]):nth (p.map frD) (-1)=some (frD (cf p (p.length - 1))):=by
 have hl:1≤p.length:=List.length_pos_iff.mpr h
 have:=nth_row (p:=p) (i:=p.length - 1) (by exact o143 hl)
 unfold nth at this ⊢
 rw [if_pos (by exact o139),Int.toNat_natCast] at this
 rw [if_neg (by decide),List.length_map,if_pos (by exact lin [_] [] [.nl (.k 1) (.x 0)] [] (.il (.g (.c (.x 0))) (.g (.k 1))) (.l 1 [1]) rfl hl),show ((p.length:Int)+-1).toNat=p.length - 1 by exact o125]
 exact this
section
variable {c:Cx} (CO:CxOK c) (EO:ExcOK c) (RO:RzOK c)
include CO EO RO
theorem call_is_fraction {n:Nat} {p v p' v' p'' v'':List Str} (hf:FnIs c (Str.ofString "is_fraction") p v s_is_fraction) (hp:p.length=1) (hd:FnIs c (Str.ofString "divisor_of") p' v' s_divisor_of) (hp':p'.length=2) (hw:FnIs c (Str.ofString "is_whole") p'' v'' s__law_whole) (hp'':p''.length=1)
  {d:D} {sto:Sto} (k:KnT sto d) {Q:D→Sto→Prop} {X:Str→Prop} (h:Q (.bool (isFrD d)) sto):CallOK c (n+2) (Str.ofString "is_fraction") [d] sto Q X:=by
 refine isfr_G CO EO RO hf hp ⟨hw.isFn,fun d sto Q X k h=>call_whole CO EO RO hw hp'' k h⟩ (fun x y σ Q X h0 hy hQ=>?_) k h
 refine e_call hd.isFn ?_
 walk_at "m"
 refine i_tup (by exact Nat.le_of_ble_eq_true rfl) rfl ?_
 walk_at "m"
 refine i_tup (by exact Nat.le_of_ble_eq_true rfl) rfl ?_
 walk_at "m"
 exact call_divisor_of CO EO RO hd hp' hQ
omit CO EO RO in
theorem row_loop {n:Nat} {g:Str} (hg:IsFrOK c 2 g) (hn:2≤n) {ds:List D} {σ:St} (h0:σ.loc 0=some (.tup ds)) (hlen:ds.length≤1000) (hk:∀ x∈ds,KnT σ.sto x) {Q:Fl→St→Prop} {X:Str→St→Prop}
  (hall:ds.all isFrD=true→∀ σ':St,σ'.loc 0=some (.tup ds)→σ'.sto=σ.sto→Q .next σ') (hno:ds.all isFrD=false→∀ σ':St,Q (.ret (.bool false)) σ'):wS c n true (s_rowLoop g) Q X σ:=by
 unfold s_rowLoop
 refine g_for1 (i_tup1 (e_var h0 ⟨by unfold lim; exact o81 hlen,?_⟩))
 refine forL_inv (fun k σ'=>σ'.loc 0=some (.tup ds)∧σ'.sto=σ.sto∧∀ i d,i<k→ds[i]?=some d→isFrD d=true) (fun v _=>v=.bool false∧ds.all isFrD=false) _ 0 _ ⟨h0,rfl,fun i d hi=>absurd hi (Nat.not_lt_zero _)⟩ (fun _ _ _=>trivial) ?_ ?_ ?_
 ·rintro i d σ₁ K hd ⟨k1,k2,k3⟩ hnx hrt
  rw [Nat.zero_add] at k3 hnx
  walk_at "m"
  refine e_call hg.1 ?_
  walk_at "m"
  refine hg.2 d n _ _ _ hn (by rw [show (σ₁.set 1 d).sto=σ₁.sto from rfl,k2]; exact hk d (List.mem_of_getElem? hd)) ?_
  walk_at "m"
  refine if_b (fun hb=>?_) fun hb=>?_
  ·have hb:isFrD d=false:=by simpa using hb
   walk_at "m"
   refine hrt _ _ ⟨rfl,?_⟩
   rw [List.all_eq_false]
   exact ⟨d,List.mem_of_getElem? hd,by rw [hb]; exact Bool.false_ne_true⟩
  ·have hb:isFrD d=true:=by simpa using hb
   walk_at "m"
   refine hnx _ ⟨k1,k2,fun j e hj he=>?_⟩
   by_cases z:j=i
   ·subst z; rw [hd] at he; cases he; exact hb
   ·exact k3 j e (by exact o145 hj z) he
 ·rintro v σ₁ ⟨rfl,h⟩
  exact hno h σ₁
 ·rintro σ₁ ⟨k1,k2,k3⟩
  refine hall ?_ σ₁ k1 k2
  rw [List.all_eq_true]
  intro d hd
  obtain ⟨i,hi⟩:=List.getElem?_of_mem hd
  exact k3 i d (by have:=(List.getElem?_eq_some_iff.mp hi).1; exact lin [_,_] [] [.nt (.x 0) (.x 1)] [] (.nt (.x 0) (.a (.k 0) (.x 1))) (.l 1 [1]) rfl this) hi
noncomputable def IsRowOK (c:Cx) (n:Nat) (g:Str):Prop:=IsFn c g∧∀ (d:D) (b:Bool) (m:Nat) (sto:Sto) (Q:D→Sto→Prop) (X:Str→Prop),n≤m→KnR sto d→RowB d b→Q (.bool b) sto→CallOK c m g [d] sto Q X
theorem is_row_ok (hz:c.cs (Str.ofString "ZERO")=some (frD 0)) (hg:IsFrOK c 2 (Str.ofString "is_fraction")) {p v:List Str} (hf:FnIs c (Str.ofString "is_row") p v s_is_row) (hp:p.length=1):IsRowOK c 3 (Str.ofString "is_row"):=by
 refine ⟨hf.isFn,fun d b m sto Q X hm hk hB h=>?_⟩
 obtain ⟨n,rfl⟩:∃ n,m=n+1:=⟨m - 1,by exact o122 hm⟩
 refine fn_call CO EO RO hf hp.symm ?_
 have k0:Kn (Sto.ro sto) d:=by
  cases d with
  | tup ds=>trivial
  | lst a=>exact Kn.ro (d:=.lst a) hk
  | exc=>exact (show False from hk).elim
  | _=>trivial
 unfold s_is_row
 walk_at "m"
 refine isa_tup k0 ?_
 walk_at "m"
 refine if_b (fun hb=>?_) fun hb=>?_
 ·walk_at "m"
  refine ret_plain ?_
  have:b=false:=by
   rcases hB with ⟨p,rfl,_⟩ | ⟨hb',_⟩
   ·cases hb
   ·exact hb'
  rw [← this]; exact h
 obtain ⟨ds,rfl⟩:∃ ds,d=.tup ds:=by
  cases d with
  | tup ds=>exact ⟨ds,rfl⟩
  | _=>cases hb
 walk_at "m"
 refine row_loop hg (by exact o124 hm) (ds:=ds) rfl hk.1 (fun x hx=>(hk.2 x hx).ro) (fun ha σ' h0 hs=>?_) fun ha σ'=>?_
 ·rcases hB with ⟨p,e,hB⟩ | ⟨_,hB⟩
  ·cases e
   walk_at "m"
   refine ⟨by exact Nat.le_of_ble_eq_true rfl,?_⟩
   refine c_eqD (eq_rows p []) ?_
   walk_at "m"
   refine if_or (fun hb=>?_) fun hb=>?_
   ·have e:p=[]:=beq_iff_eq.mp hb
    rw [hb]
    refine ret_plain ?_
    rw [← hB.mpr (.inl e)]; exact h
   ·have hne:p≠[]:=beq_eq_false_iff_ne.mp hb
    walk_at "m"
    refine i_tup (by rw [List.length_map]; unfold lim; have:=hk.1; rw [List.length_map] at this; exact o81 this) (nth_last hne) ?_
    refine e_glob hz ?_
    refine c_neD (eq_frs _ _) ?_
    refine ret_plain ?_
    have e:b=!(cf p (p.length - 1)==0):=by
     cases hc:(cf p (p.length - 1)==0) with
     | true =>
      cases b with
      | false=>rfl
      | true =>
       rcases hB.mp rfl with z | z
       ·exact absurd z hne
       ·exact absurd (beq_iff_eq.mp hc) z
     | false=>exact hB.mpr (.inr (beq_eq_false_iff_ne.mp hc))
    rw [← e]; exact h
  ·rw [hB ds rfl] at ha; cases ha
 ·refine ret_plain ?_
  have:b=false:=by
   rcases hB with ⟨p,e,_⟩ | ⟨hb',_⟩
   ·cases e; rw [all_row] at ha; cases ha
   ·exact hb'
  rw [← this]; exact h
end
end Mine
namespace Mine
open PySem
noncomputable def s_added:List S:=[
  .assign 2 (.bin .Add (.blt .list [.var 0]) (.bin .Mult (.lst [.glob (Str.ofString "ZERO")]) (.bin .Sub (.blt .len [.var 1]) (.blt .len [.var 0])))),
  .fors [3] true .range [.blt .len [.var 1]] [.setitem (.var 2) (.var 3) (.call (Str.ofString "sum_of") [.idx (.var 2) (.var 3),.idx (.var 1) (.var 3)])],
  .ret (.call (Str.ofString "trimmed") [.var 2])]
noncomputable def s_multiplied:List S:=[
  .ifs (.bool .Or [.cmp .Eq (.var 0) (.tup []),.cmp .Eq (.var 1) (.tup [])]) [.ret (.tup [])] [],
  .assign 2 (.bin .Mult (.lst [.glob (Str.ofString "ZERO")]) (.bin .Sub (.bin .Add (.blt .len [.var 0]) (.blt .len [.var 1])) (.cint 1))),
  .fors [3] true .range [.blt .len [.var 0]] [.fors [4] true .range [.blt .len [.var 1]] [.setitem (.var 2) (.bin .Add (.var 3) (.var 4)) (.call (Str.ofString "sum_of") [.idx (.var 2) (.bin .Add (.var 3) (.var 4)),.call (Str.ofString "product_of") [.idx (.var 0) (.var 3),.idx (.var 1) (.var 4)]])]],
  .ret (.call (Str.ofString "trimmed") [.var 2])]
noncomputable def s_rate:List S:=[
  .expr (.call (Str.ofString "need_row") [.var 0]),
  .ret (.call (Str.ofString "rate_of") [.var 0])]
theorem repL_one (z:Int) (x:Rat):repL z [frD x]=(List.replicate z.toNat x).map frD:=by
 unfold repL
 rw [PyProof.Rows.lm_rep_flat_one,List.map_replicate]
theorem fr0:D.tup [.int 0,.int 1]=frD 0:=rfl
noncomputable def IsSum (p q r:List Rat):Prop:=∀ i,cf r i=cf p i+cf q i
noncomputable def IsProd (p q r:List Rat):Prop:=∀ j,cf r j=cv p q j
noncomputable def IsRate (p r:List Rat):Prop:=∀ j,cf r j=cf p (j+1)*((j+1:Nat):Rat)
section
variable {c:Cx} (CO:CxOK c) (EO:ExcOK c) (RO:RzOK c)
include CO EO RO
theorem added_ok (hz:c.cs (Str.ofString "ZERO")=some (frD 0)) (hs:SumOK c 3 (Str.ofString "sum_of")) (ht:TrimOK c 1 (Str.ofString "trimmed")) {ps v:List Str} (hf:FnIs c (Str.ofString "added") ps v s_added) (hps:ps.length=2) {p q:List Rat} {k l:Nat} (hp:RSs k p) (hq:RSs l q) (hkl:k+l≤67108864) (hpl:p.length≤400) (hql:q.length≤400) {m:Nat} (hm:4≤m) {sto:Sto} {Q:D→Sto→Prop} {X:Str→Prop} (h:∀ r,IsSum p q r→Q (rowD (trimL r)) sto):CallOK c m (Str.ofString "added") [rowD p,rowD q] sto Q X:=by
 obtain ⟨n,rfl⟩:∃ n,m=n+1:=⟨m - 1,by exact o147 hm⟩
 refine fn_call CO EO RO hf hps.symm ?_
 unfold s_added
 walk_at "m"
 refine f_listT (by exact Mine.mlim (by exact o148 hpl)) fun l1 hl1=>?_
 walk_at "m"
 refine e_glob hz ?_
 walk_at "m"
 refine ⟨by exact Nat.le_of_ble_eq_true rfl,fun l2 hl2=>?_⟩
 walk_at "m"
 refine f_lenR (by exact o148 hql) ?_
 walk_at "m"
 refine f_lenR (by exact o148 hpl) ?_
 walk_at "m"
 refine o_mulL put_same (by simp) (by exact lin [_,_] [] [.nl (.x 0) (.k 400)] [] (.il (.g (.k 10000)) (.s (.c (.x 1)) (.c (.x 0)))) (.l 1 [1]) rfl hpl) (by exact lin [_,_] [] [.nl (.x 0) (.k 400)] [] (.il (.s (.c (.x 0)) (.c (.x 1))) (.k 10000)) (.l 1 [1]) rfl hql) fun l3 hl3=>?_
 refine o_addL (put_old hl3 (put_old hl2 put_same)) put_same (by exact Mine.mlim (by exact o148 hpl)) (by rw [repL_one,List.length_map,List.length_replicate]; unfold lim; exact o151 hql) fun l4 hl4=>?_
 rw [repL_one,← List.map_append]
 walk_at "m"
 refine g_for1 ?_
 walk_at "m"
 refine f_lenR (by exact o148 hql) ?_
 walk_at "m"
 refine ⟨by simp [smallI]; exact o152 hql,_,rfl,?_⟩
 refine forL_inv (fun i σ=>∃ F:List Rat,q.length≤F.length∧F.length≤800∧(∀ j,cf F j=cf p j+if j<i then cf q j else 0)∧σ.loc 2=some (.lst l4)∧σ.loc 1=some (rowD q)∧σ.sto l4=some (.list true (F.map frD))) (fun _ _=>False) _ 0 _ ?_ (fun _ _ _=>trivial) ?_ (fun _ _ z=>z.elim) ?_
 ·refine ⟨p ++ List.replicate ((q.length:Int) - p.length).toNat 0,by rw [List.length_append,List.length_replicate]; exact o153,by rw [List.length_append,List.length_replicate]; exact o154 hpl hql,fun j=>?_,rfl,rfl,put_same⟩
  rw [if_neg (Nat.not_lt_zero j),Rat.add_zero,cf_app]
  split
  ·rfl
  ·rw [cf_zeros,cf_ge (by omega)]
 ·rintro i d σ K hd ⟨F,hF1,hF2,hF,h2,h1,hst⟩ hn hr
  obtain ⟨hi,hdd⟩:=rangeUp_get hd
  rw [Int.zero_add] at hdd
  subst hdd
  rw [Nat.zero_add] at hF hn
  have hi:i<q.length:=by exact o155 hi
  walk_at "m"
  refine e_call hs.1 ?_
  walk_at "m"
  refine i_rowL hst (by exact o156 hF2) (by exact o157 hF1 hi) ?_
  walk_at "m"
  refine i_row (by exact o148 hql) hi ?_
  walk_at "m"
  have e:cf F i=cf p i:=by rw [hF i,if_neg (Nat.lt_irrefl i),Rat.add_zero]
  rw [e]
  refine hs.2 _ _ k l _ _ _ _ (by exact o158 hm) (hp i) (hq i) hkl ?_
  walk_at "m"
  refine st_lst hst (by exact Mine.mlim (by exact o156 hF2)) (by exact o117) (by rw [List.length_map]; exact lin [_,_,_] [] [.nl (.x 0) (.x 1),.nt (.x 2) (.x 0)] [] (.it (.c (.x 2)) (.c (.x 1))) (.l 1 [1,1]) rfl hF1 hi) ?_
  refine hn _ ⟨F.set i (cf p i+cf q i),by rw [List.length_set]; exact hF1,by rw [List.length_set]; exact hF2,fun j=>?_,h2,h1,?_⟩
  ·rw [cf_set (by exact o157 hF1 hi)]
   by_cases z:j=i
   ·subst z; rw [if_pos rfl,if_pos (Nat.lt_succ_self j)]
   ·rw [if_neg z,hF j]
    by_cases z2:j<i
    ·rw [if_pos z2,if_pos (by exact o61 z2)]
    ·rw [if_neg z2,if_neg (by exact o160 z z2)]
  ·show Sto.put _ _ _ _=_
   rw [put_same,Int.toNat_natCast,set_row]
 ·rintro σ ⟨F,hF1,hF2,hF,h2,h1,hst⟩
  walk_at "m"
  refine e_call ht.1 ?_
  walk_at "m"
  refine ht.2 F l4 _ _ _ _ _ (by exact o161 hm) hst (by exact o156 hF2) ?_
  walk_at "m"
  refine ret_plain (h F fun j=>?_)
  rw [hF j]
  congr 1
  split
  ·rfl
  ·rename_i z
   rw [rangeUp_len] at z
   exact (cf_ge (by exact o162 z)).symm
end
end Mine
namespace Mine
open PySem
noncomputable def s__law_row_by:List S:=[
  .assign 2 (.call (Str.ofString "_law_stream") [.var 0,.bin .Add (.var 1) (.cint 1)]),
  .ret (.call (Str.ofString "_law_trim") [.comp (.call (Str.ofString "_law_number") [.idx (.var 2) (.bin .Add (.cint 1) (.var 100))]) [(100,(Str.ofString "_law_k"))] .range [.bin .Mod (.idx (.var 2) (.cint 0)) (.bin .Add (.var 1) (.cint 1))]])]
noncomputable def s_rateG (t g x:Str):List S:=[.ret (.call t [.comp (.call g [.idx (.var 0) (.var 100),.tup [.var 100,.cint 1]]) [(100,x)] .range [.cint 1,.blt .len [.var 0]]])]
theorem compL_map {α:Type} {step:D→(D→Prop)→Prop} {Kf:List D→Prop} (f g:α→D):∀ (xs:List α) (acc:List D),(∀ a∈xs,∀ K:D→Prop,K (g a)→step (f a) K)→Kf (acc ++ xs.map g)→compL step (xs.map f) acc Kf
 | [],acc,_,h=>by
  have:acc ++ List.map g []=acc:=List.append_nil acc
  rw [this] at h; exact h
 | a :: xs,acc,hs,h=>hs a (.head _) _ (compL_map f g xs (acc ++ [g a]) (fun e he=>hs e (.tail _ he)) (by
  rw [List.append_assoc]; exact h))
theorem turn1 {x:Nat} {s:Str} {elt:(D→St→Prop)→St→Prop} {P:D→Prop} {σ:St} {d:D} {K:D→Prop} (h:elt (fun r _=>P r∧K r) (σ.ro.set x d)):turnW [(x,s)] elt P σ d K:=h
theorem fr_int (z:Int):D.tup [.int z,.int 1]=frD (z:Rat):=rfl
theorem rs_int {z:Int} {k:Nat} (h:z.natAbs<2 ^ k) (hk:1≤k):RS k (z:Rat):=⟨h,by
 show 1<2 ^ k
 exact Nat.lt_of_lt_of_le (by decide) (Nat.pow_le_pow_right (by decide) hk)⟩
theorem rangeUp_map (a b:Int):rangeUp a b=(List.range (b - a).toNat).map fun (k:Nat)=>D.int (a+k):=rfl
section
variable {c:Cx} (CO:CxOK c) (EO:ExcOK c) (RO:RzOK c)
include CO EO RO
theorem rate_ok {t g x f:Str} (ht:TrimOK c 1 t) (hg:ProdOK c 3 g) {ps v:List Str} (hf:FnIs c f ps v (s_rateG t g x)) (hps:ps.length=1) {p:List Rat} {k:Nat} (hp:RSs k p) (hk:k≤60000000) (hpl:p.length≤400) {m:Nat} (hm:4≤m) {sto:Sto} {Q:D→Sto→Prop} {X:Str→Prop} (h:∀ r,IsRate p r→Q (rowD (trimL r)) sto):CallOK c m f [rowD p] sto Q X:=by
 obtain ⟨n,rfl⟩:∃ n,m=n+1:=⟨m - 1,by exact o147 hm⟩
 refine fn_call CO EO RO hf hps.symm ?_
 unfold s_rateG
 walk_at "m"
 refine e_call ht.1 ?_
 refine es_cons (e_comp ?_)
 walk_at "m"
 refine f_lenR (by exact o148 hpl) ?_
 walk_at "m"
 refine ⟨by simp [smallI]; exact o152 hpl,_,rfl,?_⟩
 rw [rangeUp_map]
 refine ⟨by rw [List.length_map,List.length_range]; unfold lim; exact o163 hpl,?_⟩
 refine compL_map (fun (j:Nat)=>D.int (1+j)) (fun j=>frD (cf p (j+1)*((j+1:Nat):Rat))) _ _ (fun j hj K hK=>?_) fun l hl=>?_
 ·have hj:=List.mem_range.mp hj
  refine turn1 ?_
  refine e_call hg.1 ?_
  walk_at "m"
  rw [show (1:Int)+(j:Int)=((j+1:Nat):Int) by exact linI [_] [] [] [] (.a (.k 1) (.c (.x 0))) (.c (.a (.x 0) (.k 1))) (.l 1 []) (.l 1 []) rfl]
  refine i_row (p:=p) (by exact o148 hpl) (by exact o165 hj) ?_
  walk_at "m"
  refine ⟨by exact Nat.le_of_ble_eq_true rfl,?_⟩
  walk_at "m"
  rw [fr_int]
  refine hg.2 _ _ k 11 _ _ _ _ (by exact o158 hm) (hp _) (rs_int (by exact o166 hpl hj) (by exact o167)) (by exact lin [_] [] [.nl (.x 0) (.k 60000000)] [] (.nl (.a (.x 0) (.k 11)) (.k 67108864)) (.l 1 [1]) rfl hk) ?_
  exact ⟨trivial,hK⟩
 ·rw [List.nil_append]
  walk_at "m"
  have e:((List.range ((p.length:Int) - 1).toNat).map fun (j:Nat)=>frD (cf p (j+1)*((j+1:Nat):Rat)))=((List.range ((p.length:Int) - 1).toNat).map fun (j:Nat)=>cf p (j+1)*((j+1:Nat):Rat)).map frD:=by rw [List.map_map]; rfl
  rw [e]
  refine ht.2 _ l _ _ _ _ _ (by exact o161 hm) put_same (by rw [List.length_map,List.length_range]; exact o169 hpl) ?_
  refine ret_plain (h _ fun j=>?_)
  by_cases z:j<((p.length:Int) - 1).toNat
  ·rw [cf_lt (by rw [List.length_map,List.length_range]; exact z),List.getElem_map,List.getElem_range]
  ·rw [cf_ge (by rw [List.length_map,List.length_range]; exact o170 z),cf_ge (p:=p) (by exact o171 z),Rat.zero_mul]
noncomputable def ScaleOK (c:Cx) (n:Nat) (f:Str):Prop:=IsFn c f∧∀ (p:List Rat) (x:Rat) (k l m:Nat) (sto:Sto) (Q:D→Sto→Prop) (X:Str→Prop),n≤m→RSs k p→RS l x→k+l≤67108864→p.length≤400→Q (rowD (trimL (p.map (·*x)))) sto→CallOK c m f [rowD p,frD x] sto Q X
end
end Mine
namespace Mine
open PySem
theorem rss_trim {k:Nat} {p:List Rat} (h:RSs k p):RSs k (trimL p):=fun i=>by rw [cf_trim]; exact h i
section
variable {c:Cx} (CO:CxOK c) (EO:ExcOK c) (RO:RzOK c)
include CO EO RO
theorem row_by_ok (LN:LNums c) (ht:TrimOK c 1 (Str.ofString "_law_trim")) {ps v:List Str} (hf:FnIs c (Str.ofString "_law_row_by") ps v s__law_row_by) (hps:ps.length=2) {x:Int} {most:Nat} (hmo:most≤50) {m:Nat} (hm:4≤m) {sto:Sto} {Q:D→Sto→Prop} {X:Str→Prop} (h:∀ p,Rw p→p.length≤most→RSs 20 p→Q (rowD p) sto):CallOK c m (Str.ofString "_law_row_by") [.int x,.int most] sto Q X:=by
 obtain ⟨n,rfl⟩:∃ n,m=n+4:=⟨m - 4,by exact o172 hm⟩
 obtain ⟨_,_,hst,hst'⟩:=LN.stream
 obtain ⟨_,_,hdv,hdv'⟩:=LN.divisor
 obtain ⟨_,_,hfr,hfr'⟩:=LN.fraction
 obtain ⟨_,_,hnu,hnu'⟩:=LN.number
 refine fn_call CO EO RO hf hps.symm ?_
 unfold s__law_row_by
 walk_at "m"
 refine e_call hst.isFn ?_
 walk_at "m"
 rw [show (most:Int)+1=((most+1:Nat):Int) by exact o173]
 refine call_stream CO EO RO hst hst' (by exact lin [_] [] [.nl (.x 0) (.k 50)] [] (.nl (.a (.x 0) (.k 1)) (.k 1000)) (.l 1 [1]) rfl hmo) fun xs l hxl hxs hl=>?_
 have e0:∀ (σ:St),(σ.put l (.list true (xs.map D.int))).sto l=some (.list true (xs.map D.int)):=fun σ=>put_same
 have hx0:nth (xs.map D.int) 0=some (.int xs[0]):=by
  unfold nth
  rw [if_pos (by decide)]
  simp
 walk_at "m"
 refine e_call ht.1 ?_
 refine es_cons (e_comp ?_)
 walk_at "m"
 refine i_lst put_same (by exact Mine.mlim (by exact o175 hmo hxl)) hx0 ?_
 walk_at "m"
 refine o_mod (by exact o176) ?_
 walk_at "m"
 have fm:(xs[0]).fmod ((most:Int)+1)=xs[0] % ((most:Int)+1):=Int.fmod_eq_emod_of_nonneg _ (by exact lin [_] [] [] [] (.il (.k 0) (.a (.c (.x 0)) (.k 1))) (.l 1 []) rfl)
 have m1:=Int.emod_nonneg xs[0] (show ((most:Int)+1)≠0 by exact o176)
 have m2:=Int.emod_lt_of_pos xs[0] (show 0<((most:Int)+1) by exact lin [_] [] [] [] (.it (.k 0) (.a (.c (.x 0)) (.k 1))) (.l 1 []) rfl)
 obtain ⟨u,hu⟩:=Int.eq_ofNat_of_zero_le m1
 have hu':(xs[0]).fmod ((most:Int)+1)=(u:Int):=fm.trans hu
 rw [hu']
 have hum:u≤most:=by exact o179 m2 hu
 refine ⟨by simp [smallI]; exact lin [_,_] [_] [.nl (.x 0) (.k 50),.it (.x 0) (.a (.c (.x 0)) (.k 1)),.ie (.x 0) (.c (.x 1))] [] (.il (.c (.x 1)) (.k 1000000)) (.l 1 [1,1,-1]) rfl hmo m2 hu,_,rfl,?_⟩
 rw [rangeUp_map]
 refine ⟨by rw [List.length_map,List.length_range]; unfold lim; exact o181 hmo m2 hu,?_⟩
 have key:∀ (us:List Nat) (acc:List Rat),(∀ j∈us,j<u)→acc.length+us.length≤most→(∀ x∈acc,RS 20 x)→∀ Kf:List D→Prop,(∀ F:List Rat,F.length≤most→(∀ x∈F,RS 20 x)→Kf (F.map frD))→
   compL (turnW [(100,Str.ofString "_law_k")] (fun K σ₂=>wE c (n+3) true (.call (Str.ofString "_law_number") [.idx (.var 2) (.bin .Add (.cint 1) (.var 100))]) K noX σ₂) (fun _=>True) (St.set { loc:=(startSt [.int x,.int most] sto).loc,sto:=Sto.put (Sto.ro sto) l (.list true (xs.map D.int)) } 2 (.lst l))) (us.map fun (k:Nat)=>D.int (0+k)) (acc.map frD) Kf:=by
  intro us
  induction us with
  | nil=>intro acc _ hl ha Kf hK; exact hK acc (by simpa using hl) ha
  | cons j us ih =>
   intro acc hus hl ha Kf hK
   have hj:=hus j (.head _)
   refine turn1 ?_
   refine e_call hnu.isFn ?_
   walk_at "m"
   rw [show (1:Int)+(0+(j:Int))=((j+1:Nat):Int) by exact linI [_] [] [] [] (.a (.k 1) (.a (.k 0) (.c (.x 0)))) (.c (.a (.x 0) (.k 1))) (.l 1 []) (.l 1 []) rfl]
   have hxj:nth (xs.map D.int) ((j+1:Nat):Int)=some (.int xs[j+1]):=by
    unfold nth
    rw [if_pos (by exact lin [_] [] [] [] (.il (.k 0) (.c (.a (.x 0) (.k 1)))) (.l 1 []) rfl),Int.toNat_natCast,List.getElem?_map,List.getElem?_eq_getElem (by exact lin [_,_,_,_] [_] [.ne (.x 0) (.a (.x 1) (.k 1)),.it (.x 0) (.a (.c (.x 1)) (.k 1)),.ie (.x 0) (.c (.x 2)),.nt (.x 3) (.x 2)] [] (.nt (.a (.x 3) (.k 1)) (.x 0)) (.l 1 [-1,1,-1,1]) rfl hxl m2 hu hj)]
    rfl
   refine i_lst (o:=false) (ds:=xs.map D.int) (ro_at (o:=true) put_same) (by exact Mine.mlim (by exact o175 hmo hxl)) hxj ?_
   walk_at "m"
   refine call_law_number CO EO RO hnu hnu' hdv hdv' hfr hfr' (hxs _ (List.getElem_mem _)) fun r h1 h2=>?_
   refine ⟨trivial,?_⟩
   have e:acc.map frD ++ [frD r]=(acc ++ [r]).map frD:=by rw [List.map_append]; rfl
   rw [e]
   exact ih (acc ++ [r]) (fun i hi=>hus i (.tail _ hi)) (by rw [List.length_append]; simp at hl ⊢; exact lin [_,_,_] [] [.nl (.a (.x 0) (.a (.x 1) (.k 1))) (.x 2)] [] (.nl (.a (.a (.x 0) (.k 1)) (.x 1)) (.x 2)) (.l 1 [1]) rfl hl) (fun y hy=>by
    rcases List.mem_append.mp hy with hy | hy
    ·exact ha y hy
    ·rw [List.mem_singleton.mp hy]; exact rs_of h1 h2) Kf hK
 refine key (List.range ((u:Int) - 0).toNat) [] (fun j hj=>by have:=List.mem_range.mp hj; exact o155 this) (by rw [List.length_range]; simp; exact o179 m2 hu) (fun x hx=>by cases hx) _ fun F hF hFs l' hl'=>?_
 walk_at "m"
 refine ht.2 F l' _ _ _ _ _ (by exact lin [_] [] [] [] (.nl (.k 1) (.a (.x 0) (.k 3))) (.l 1 []) rfl) put_same (by exact lin [_,_] [] [.nl (.x 0) (.k 50),.nl (.x 1) (.x 0)] [] (.nl (.x 1) (.k 1000)) (.l 1 [1,1]) rfl hmo hF) ?_
 refine ret_plain (h _ (rw_trim F) (Nat.le_trans (trim_len F) hF) (rss_trim fun i=>?_))
 by_cases z:i<F.length
 ·rw [cf_lt z]; exact hFs _ (List.getElem_mem _)
 ·rw [cf_ge (by exact o59 z)]; exact rs_zero (by decide)
end
end Mine
namespace Mine
open PySem
theorem g_app' {c:Cx} {n:Nat} {s:S} {ss:List S} {Q:Fl→St→Prop} {X:Str→St→Prop} {σ:St} (h:wS c n true s (fun fl σ₁=>match fl with | .next=>wSs c n true ss Q X σ₁ | fl=>Q fl σ₁) X σ):wSs c n true (s :: ss) Q X σ:=h
theorem sm_at {f g:Nat→Rat} {a:Nat} {d:Rat} (h:∀ i,g i=f i+if i=a then d else 0):∀ n,sm g n=sm f n+if a<n then d else 0
 | 0=>by rw [if_neg (Nat.not_lt_zero a),Rat.add_zero]; rfl
 | n+1=>by
  show sm g n+g n=sm f n+f n+_
  rw [sm_at h n,h n]
  by_cases z:n=a
  ·subst z
   rw [if_pos rfl,if_neg (Nat.lt_irrefl n),if_pos (Nat.lt_succ_self n)]
   grind
  ·rw [if_neg z]
   by_cases z2:a<n
   ·rw [if_pos z2,if_pos (by exact o61 z2)]; grind
   ·rw [if_neg z2,if_neg (by exact o188 z z2)]; grind
theorem sm_one {f:Nat→Rat} {a n:Nat} (ha:a<n) (h:∀ i,i≠a→f i=0):sm f n=f a:=by
 have e:=sm_at (f:=fun _=>0) (g:=f) (a:=a) (d:=f a) (fun i=>by
  by_cases z:i=a
  ·subst z; rw [if_pos rfl,Rat.zero_add]
  ·rw [if_neg z,h i z,Rat.add_zero]) n
 have z:∀ n,sm (fun _=>(0:Rat)) n=0:=fun n=>by
  induction n with
  | zero=>rfl
  | succ n ih=>show sm (fun _=>0) n+0=0; rw [ih,Rat.add_zero]
 rw [e,z,if_pos ha,Rat.zero_add]
theorem cv_set {W q:List Rat} {k:Nat} {t:Rat} (hk:k<W.length) (h0:cf W k=0) (j:Nat):cv (W.set k t) q j=cv W q j+if k≤j then t*cf q (j - k) else 0:=by
 unfold cv
 rw [List.length_set,sm_at (f:=cvf W q j) (a:=k) (d:=if k≤j then t*cf q (j - k) else 0) (fun i=>?_),if_pos hk]
 unfold cvf
 rw [cf_set hk]
 by_cases z:i=k
 ·subst z
  rw [if_pos rfl,if_pos rfl,h0,Rat.zero_mul]
  by_cases z2:i≤j
  ·rw [if_pos z2,if_pos z2,Rat.zero_add]
  ·rw [if_neg z2,if_neg z2,Rat.zero_add]
 ·rw [if_neg z,if_neg z,Rat.add_zero]
theorem rs_divR {k l:Nat} {x y:Rat} (hx:RS k x) (hy:RS l y) (h0:y≠0):RS (k+l) (x / y):=by
 rw [← rat_div]
 exact rs_divInt (Int.mul_ne_zero (den_ne x) (fun z=>h0 (Rat.num_eq_zero.mp z))) (pow_mul hx.1 (den_nat hy)) (pow_mul (den_nat hx) hy.1)
theorem rs_neg {k:Nat} {x:Rat} (hx:RS k x):RS k (-x):=by
 refine ⟨?_,hx.2⟩
 show (-x.num).natAbs<_
 rw [Int.natAbs_neg]; exact hx.1
theorem fr_neg (x:Rat):D.tup [.int (0 - x.num),.int x.den]=frD (-x):=by
 unfold frD
 rw [Int.zero_sub]; rfl
noncomputable def s_part (g:Str):List S:=[.ret (.call g [.bin .Mult (.idx (.var 0) (.cint 0)) (.idx (.var 1) (.cint 1)),.bin .Mult (.idx (.var 0) (.cint 1)) (.idx (.var 1) (.cint 0))])]
noncomputable def s_turned:List S:=[
  .ret (.tup [.bin .Sub (.cint 0) (.idx (.var 0) (.cint 0)),.idx (.var 0) (.cint 1)])]
noncomputable def s_parted:List S:=[
  .assign 2 (.blt .list [.var 0]),
  .assign 3 (.bin .Mult (.lst [.glob (Str.ofString "ZERO")]) (.blt .max [.cint 0,.bin .Add (.bin .Sub (.blt .len [.var 0]) (.blt .len [.var 1])) (.cint 1)])),
  .fors [4] true .range [.bin .Sub (.blt .len [.var 3]) (.cint 1),.neg (.cint 1),.neg (.cint 1)] [.assign 5 (.call (Str.ofString "part_of") [.idx (.var 2) (.bin .Sub (.bin .Add (.var 4) (.blt .len [.var 1])) (.cint 1)),.idx (.var 1) (.neg (.cint 1))]),.setitem (.var 3) (.var 4) (.var 5),.fors [6] true .range [.blt .len [.var 1]] [.setitem (.var 2) (.bin .Add (.var 4) (.var 6)) (.call (Str.ofString "sum_of") [.idx (.var 2) (.bin .Add (.var 4) (.var 6)),.call (Str.ofString "turned") [.call (Str.ofString "product_of") [.var 5,.idx (.var 1) (.var 6)]]])]],
  .ret (.tup [.call (Str.ofString "trimmed") [.var 3],.call (Str.ofString "trimmed") [.var 2]])]
noncomputable def PartOK (c:Cx) (n:Nat) (g:Str):Prop:=IsFn c g∧∀ (x y:Rat) (k l m:Nat) (sto:Sto) (Q:D→Sto→Prop) (X:Str→Prop),n≤m→RS k x→RS l y→k+l≤67108864→y≠0→Q (frD (x / y)) sto→CallOK c m g [frD x,frD y] sto Q X
section
variable {c:Cx} (CO:CxOK c) (EO:ExcOK c) (RO:RzOK c)
include CO EO RO
theorem part_ok {f g:Str} {p v:List Str} (hf:FnIs c f p v (s_part g)) (hp:p.length=2) (hg:FrOK c 2 g):PartOK c 3 f:=by
 refine ⟨hf.isFn,fun x y k l m sto Q X hm hx hy hk h0 h=>?_⟩
 obtain ⟨n,rfl⟩:∃ n,m=n+1:=⟨m - 1,by exact o122 hm⟩
 refine fn_call CO EO RO hf hp.symm ?_
 unfold s_part
 walk_at "m"
 refine e_call hg.1 ?_
 walk_at "m"
 refine o_mul (mul_ok2 hx.1 (den_nat hy) hk) ?_
 walk_at "m"
 refine o_mul (mul_ok2 (den_nat hx) hy.1 hk) ?_
 walk_at "m"
 refine hg.2 _ _ _ _ _ _ (by exact o124 hm) (Int.mul_ne_zero (den_ne x) (fun z=>h0 (Rat.num_eq_zero.mp z))) ?_
 rw [rat_div]
 exact ret_plain h
theorem turned_ok {p v:List Str} (hf:FnIs c (Str.ofString "turned") p v s_turned) (hp:p.length=1) {x:Rat} {m:Nat} (hm:1≤m) {sto:Sto} {Q:D→Sto→Prop} {X:Str→Prop} (h:Q (frD (-x)) sto):CallOK c m (Str.ofString "turned") [frD x] sto Q X:=by
 obtain ⟨n,rfl⟩:∃ n,m=n+1:=⟨m - 1,by exact o127 hm⟩
 refine fn_call CO EO RO hf hp.symm ?_
 unfold s_turned
 walk_at "m"
 refine ⟨by exact Nat.le_of_ble_eq_true rfl,?_⟩
 rw [fr_neg]
 walk_at "m"
 exact ret_plain h
end
end Mine
namespace Mine
open PySem
noncomputable def cvn (a b:Nat→Rat) (j:Nat):Rat:=sm (fun i=>a i*b (j - i)) (j+1)
theorem cv_cvn (p q:List Rat) (j:Nat):cv p q j=cvn (cf p) (cf q) j:=cv_full p q j
theorem sm_add (f g:Nat→Rat):∀ n,sm (fun i=>f i+g i) n=sm f n+sm g n
 | 0=>by show (0:Rat)=0+0; grind
 | n+1=>by
  show sm (fun i=>f i+g i) n+(f n+g n)=sm f n+f n+(sm g n+g n)
  rw [sm_add f g n]; grind
theorem sm_mul (x:Rat) (f:Nat→Rat):∀ n,sm (fun i=>x*f i) n=x*sm f n
 | 0=>by show (0:Rat)=x*0; grind
 | n+1=>by
  show sm (fun i=>x*f i) n+x*f n=x*(sm f n+f n)
  rw [sm_mul x f n]; grind
theorem sm_const0:∀ n,sm (fun _=>(0:Rat)) n=0
 | 0=>rfl
 | n+1=>by show sm (fun _=>0) n+0=0; rw [sm_const0 n,Rat.add_zero]
theorem cvn_cong {a b a' b':Nat→Rat} (h1:∀ i,a i=a' i) (h2:∀ i,b i=b' i) (j:Nat):cvn a b j=cvn a' b' j:=sm_cong fun i _=>by rw [h1,h2]
theorem cvn_comm (a b:Nat→Rat) (j:Nat):cvn a b j=cvn b a j:=by
 unfold cvn
 rw [sm_rev]
 refine sm_cong fun i hi=>?_
 show a (j+1 - 1 - i)*b (j - (j+1 - 1 - i))=_
 rw [Rat.mul_comm,show j+1 - 1 - i=j - i by exact o67,show j - (j - i)=i by exact o68 hi]
theorem cvn_add_left (a b c:Nat→Rat) (j:Nat):cvn (fun i=>a i+b i) c j=cvn a c j+cvn b c j:=by
 unfold cvn
 rw [← sm_add]
 exact sm_cong fun i _=>by grind
theorem cvn_add_right (a b c:Nat→Rat) (j:Nat):cvn a (fun i=>b i+c i) j=cvn a b j+cvn a c j:=by
 rw [cvn_comm,cvn_add_left,cvn_comm b,cvn_comm c]
theorem cvn_mul_left (x:Rat) (a b:Nat→Rat) (j:Nat):cvn (fun i=>x*a i) b j=x*cvn a b j:=by
 unfold cvn
 rw [← sm_mul]
 exact sm_cong fun i _=>by grind
theorem cvn_mul_right (x:Rat) (a b:Nat→Rat) (j:Nat):cvn a (fun i=>x*b i) j=x*cvn a b j:=by
 rw [cvn_comm,cvn_mul_left,cvn_comm]
theorem cvn_zero (a b:Nat→Rat):cvn a b 0=a 0*b 0:=by
 show 0+a 0*b (0 - 0)=_
 rw [Rat.zero_add]
theorem cvn_step (a b:Nat→Rat) (j:Nat):cvn a b (j+1)=a 0*b (j+1)+cvn (fun i=>a (i+1)) b j:=by
 show sm (fun i=>a i*b (j+1 - i)) (j+1+1)=_
 rw [sm_first]
 congr 1
 exact sm_cong fun i _=>by rw [show j+1 - (i+1)=j - i by omega]
theorem cvn_assoc (b c:Nat→Rat):∀ (j:Nat) (a:Nat→Rat),cvn (cvn a b) c j=cvn a (cvn b c) j
 | 0,a=>by rw [cvn_zero,cvn_zero,cvn_zero,cvn_zero]; grind
 | j+1,a=>by
  rw [cvn_step (cvn a b),cvn_step a (cvn b c),cvn_zero,cvn_step b c]
  have e:∀ i,cvn a b (i+1)=a 0*b (i+1)+cvn (fun i=>a (i+1)) b i:=fun i=>cvn_step a b i
  rw [cvn_cong e (fun _=>rfl) j,cvn_add_left,cvn_mul_left,cvn_assoc b c j (fun i=>a (i+1))]
  grind
noncomputable def one0 (i:Nat):Rat:=if i=0 then 1 else 0
theorem cvn_one (a:Nat→Rat) (j:Nat):cvn one0 a j=a j:=by
 unfold cvn
 rw [sm_one (a:=0) (by exact o189) (fun i hi=>by rw [show one0 i=0 from if_neg hi,Rat.zero_mul])]
 show one0 0*a (j - 0)=a j
 rw [show one0 0=1 from rfl,Rat.one_mul]; rfl
theorem cvn_none (a:Nat→Rat) (j:Nat):cvn (fun _=>0) a j=0:=by
 unfold cvn
 rw [show (fun i=>(0:Rat)*a (j - i))=fun _=>0 by funext i; rw [Rat.zero_mul]]
 exact sm_const0 _
noncomputable def RC (B:Nat) (a:Nat→Rat):Prop:=∃ (d:Int) (z:Nat→Int),d≠0∧d.natAbs<2 ^ B∧(∀ i,(z i).natAbs<2 ^ B)∧∀ i,a i*(d:Rat)=(z i:Rat)
theorem cast_ne {d:Int} (h:d≠0):(d:Rat)≠0:=fun z=>h (Rat.intCast_eq_zero_iff.mp z)
theorem rat_of {x:Rat} {d z:Int} (hd:d≠0) (h:x*(d:Rat)=(z:Rat)):x=Rat.divInt z d:=by
 rw [Rat.divInt_eq_div,← h,Rat.mul_div_cancel (cast_ne hd)]
theorem RC.rs {B:Nat} {a:Nat→Rat} (h:RC B a) (i:Nat):RS B (a i):=by
 obtain ⟨d,z,h1,h2,h3,h4⟩:=h
 rw [rat_of h1 (h4 i)]
 exact rs_divInt h1 (h3 i) h2
theorem RC.mono {B C:Nat} {a:Nat→Rat} (h:RC B a) (hl:B≤C):RC C a:=by
 obtain ⟨d,z,h1,h2,h3,h4⟩:=h
 have:=Nat.pow_le_pow_right (show 0<2 by decide) hl
 exact ⟨d,z,h1,Nat.lt_of_lt_of_le h2 this,fun i=>Nat.lt_of_lt_of_le (h3 i) this,h4⟩
theorem RC.cong {B:Nat} {a b:Nat→Rat} (h:RC B a) (e:∀ i,b i=a i):RC B b:=by
 obtain ⟨d,z,h1,h2,h3,h4⟩:=h
 exact ⟨d,z,h1,h2,h3,fun i=>by rw [e i]; exact h4 i⟩
theorem RC.scale {B k:Nat} {a:Nat→Rat} {x:Rat} (h:RC B a) (hx:RS k x):RC (B+k) (fun i=>a i*x):=by
 obtain ⟨d,z,h1,h2,h3,h4⟩:=h
 refine ⟨d*x.den,fun i=>z i*x.num,Int.mul_ne_zero h1 (den_ne x),pow_mul h2 (den_nat hx),fun i=>pow_mul (h3 i) hx.1,fun i=>?_⟩
 have e:x*((x.den:Int):Rat)=((x.num:Int):Rat):=by
  have h:=Rat.num_divInt_den x
  rw [Rat.divInt_eq_div] at h
  have k:=Rat.div_mul_cancel (a:=((x.num:Int):Rat)) (cast_ne (den_ne x))
  rw [h] at k
  exact k
 rw [Rat.intCast_mul,Rat.intCast_mul,← h4 i,← e]; grind
noncomputable def smI (f:Nat→Int):Nat→Int
 | 0=>0
 | n+1=>smI f n+f n
theorem smI_cast (f:Nat→Int):∀ n,((smI f n:Int):Rat)=sm (fun i=>(f i:Rat)) n
 | 0=>rfl
 | n+1=>by
  show ((smI f n+f n:Int):Rat)=sm (fun i=>(f i:Rat)) n+(f n:Rat)
  rw [Rat.intCast_add,smI_cast f n]
theorem smI_le {f:Nat→Int} {M:Nat} (h:∀ i,(f i).natAbs≤M):∀ n,(smI f n).natAbs≤n*M
 | 0=>by show (0:Int).natAbs≤_; simp
 | n+1=>by
  have h1:=smI_le h n
  have h2:=h n
  have h3:=Int.natAbs_add_le (smI f n) (f n)
  show (smI f n+f n).natAbs≤_
  rw [Nat.add_mul,Nat.one_mul]; exact o190 h1 h2 h3
theorem RC.part {A B:Nat} {p q:List Rat} (h:RC A (cf p)) (h':RC B (cf q)) {n:Nat} (hn:n≤15):RC (A+B+4) (fun j=>sm (cvf p q j) n):=by
 obtain ⟨d,z,h1,h2,h3,h4⟩:=h
 obtain ⟨e,y,k1,k2,k3,k4⟩:=h'
 have hp:2 ^ (A+B+4)=16*2 ^ (A+B):=by rw [Nat.pow_add]; omega
 refine ⟨d*e,fun j=>smI (fun i=>if i≤j then z i*y (j - i) else 0) n,Int.mul_ne_zero h1 k1,?_,fun j=>?_,fun j=>?_⟩
 ·have:=pow_mul h2 k2
  rw [hp]; exact o192 this
 ·have hb:=smI_le (f:=fun i=>if i≤j then z i*y (j - i) else 0) (M:=2 ^ (A+B)) (fun i=>by
   split
   ·exact Nat.le_of_lt (pow_mul (h3 i) (k3 _))
   ·exact Nat.zero_le _) n
  have h5:n*2 ^ (A+B)≤15*2 ^ (A+B):=Nat.mul_le_mul hn (Nat.le_refl _)
  have h6:0<2 ^ (A+B):=Nat.pow_pos (by decide)
  show (smI (fun i=>if i≤j then z i*y (j - i) else 0) n).natAbs<_
  rw [hp]; exact o193 hb h5 h6
 ·rw [smI_cast,Rat.mul_comm,← sm_mul]
  refine sm_cong fun i _=>?_
  unfold cvf
  by_cases z1:i≤j
  ·rw [if_pos z1,if_pos z1,Rat.intCast_mul,Rat.intCast_mul,← h4 i,← k4]; grind
  ·rw [if_neg z1,if_neg z1,Rat.mul_zero]; rfl
theorem RC.prod {A B:Nat} {p q:List Rat} (h:RC A (cf p)) (h':RC B (cf q)) (hn:p.length≤15):RC (A+B+4) (cv p q):=h.part h' hn
theorem RC.none {B:Nat} (h:1≤B):RC B (fun _=>0):=⟨1,fun _=>0,by decide,Nat.lt_of_lt_of_le (by decide) (Nat.pow_le_pow_right (show 0<2 by decide) h),fun _=>Nat.pow_pos (by decide),fun _=>by rw [Rat.zero_mul]; rfl⟩
end Mine
namespace Mine
open PySem
section
variable {c:Cx} (CO:CxOK c) (EO:ExcOK c) (RO:RzOK c)
include CO EO RO
noncomputable def RC2 (B:Nat) (a b:Nat→Rat):Prop:=∃ (d:Int) (z y:Nat→Int),d≠0∧d.natAbs<2 ^ B∧(∀ i,(z i).natAbs<2 ^ B)∧(∀ i,(y i).natAbs<2 ^ B)∧(∀ i,a i*(d:Rat)=(z i:Rat))∧∀ i,b i*(d:Rat)=(y i:Rat)
omit CO EO RO in
theorem rc2_start {B N m:Nat} {p:List Rat} (h:RC B (cf p)):RC2 (B+0*m) (cf (List.replicate N 0)) (cf p):=by
 obtain ⟨d,z,h1,h2,h3,h4⟩:=h
 rw [Nat.zero_mul,Nat.add_zero]
 exact ⟨d,fun _=>0,z,h1,h2,fun _=>Nat.pow_pos (by decide),h3,fun i=>by rw [cf_zeros,Rat.zero_mul]; rfl,h4⟩
omit CO EO RO in
theorem RC2.left {B:Nat} {a b:Nat→Rat} (h:RC2 B a b):RC B a:=by
 obtain ⟨d,z,y,h1,h2,h3,h4,h5,h6⟩:=h
 exact ⟨d,z,h1,h2,h3,h5⟩
omit CO EO RO in
theorem RC2.right {B:Nat} {a b:Nat→Rat} (h:RC2 B a b):RC B b:=by
 obtain ⟨d,z,y,h1,h2,h3,h4,h5,h6⟩:=h
 exact ⟨d,y,h1,h2,h4,h6⟩
omit CO EO RO in
theorem RC2.place {A b:Nat} {W R q:List Rat} {e:Int} {y:Nat→Int} {t:Rat} {a:Nat} (h:RC2 A (cf W) (cf R)) (he:e.natAbs<2 ^ b) (hy:∀ i,(y i).natAbs<2 ^ b) (hq:∀ i,cf q i*(e:Rat)=(y i:Rat)) (hm:y (q.length - 1)≠0) (ht:t*cf q (q.length - 1)=cf R (a+q.length - 1)) (hq0:cf q (q.length - 1)≠0) :
  RC2 (A+(b+1)) (fun i=>if i=a then t else cf W i) (fun j=>cf R j+if a≤j then -(t*cf q (j - a)) else 0):=by
 obtain ⟨d,z,w,h1,h2,h3,h4,h5,h6⟩:=h
 have hp:2 ^ (A+(b+1))=2*2 ^ (A+b):=by rw [← Nat.add_assoc,Nat.pow_succ]; exact o194
 have key:∀ i,t*cf q i*((d*y (q.length - 1):Int):Rat)=((w (a+q.length - 1)*y i:Int):Rat):=fun i=>by
  rw [Rat.intCast_mul,Rat.intCast_mul,← h6,← hq i,← hq,← ht]; grind
 refine ⟨d*y (q.length - 1),fun i=>if i=a then w (a+q.length - 1)*e else z i*y (q.length - 1),fun j=>w j*y (q.length - 1)+if a≤j then -(w (a+q.length - 1)*y (j - a)) else 0,Int.mul_ne_zero h1 hm,?_,fun i=>?_,fun j=>?_,fun i=>?_,fun j=>?_⟩
 ·have:=pow_mul h2 (hy (q.length - 1)); rw [hp]; exact o195 this
 ·show (if i=a then w (a+q.length - 1)*e else z i*y (q.length - 1)).natAbs<_
  have m1:=pow_mul (h4 (a+q.length - 1)) he
  have m2:=pow_mul (h3 i) (hy (q.length - 1))
  rw [hp]
  split <;> omega
 ·show (w j*y (q.length - 1)+if a≤j then -(w (a+q.length - 1)*y (j - a)) else 0).natAbs<_
  have m1:=pow_mul (h4 j) (hy (q.length - 1))
  have m2:=pow_mul (h4 (a+q.length - 1)) (hy (j - a))
  rw [hp]
  split <;> omega
 ·show (if i=a then t else cf W i)*_=((if i=a then w (a+q.length - 1)*e else z i*y (q.length - 1):Int):Rat)
  by_cases z1:i=a
  ·rw [if_pos z1,if_pos z1,Rat.intCast_mul,Rat.intCast_mul,← h6,← hq,← ht]; grind
  ·rw [if_neg z1,if_neg z1,Rat.intCast_mul,Rat.intCast_mul,← h5]; grind
 ·show (cf R j+if a≤j then -(t*cf q (j - a)) else 0)*_=((w j*y (q.length - 1)+if a≤j then -(w (a+q.length - 1)*y (j - a)) else 0:Int):Rat)
  by_cases z1:a≤j
  ·rw [if_pos z1,if_pos z1,Rat.intCast_add,Rat.intCast_neg,← key,Rat.intCast_mul,Rat.intCast_mul,← h6]; grind
  ·rw [if_neg z1,if_neg z1,Rat.intCast_add,Rat.intCast_mul,Rat.intCast_mul,← h6]
   rw [show ((0:Int):Rat)=0 from rfl]; grind
noncomputable def IsDivC (a b:Nat) (p q W R:List Rat):Prop:=(∀ j,cf p j=cv W q j+cf R j)∧(∀ j,q.length - 1≤j→cf R j=0)∧RC (a+(p.length+1 - q.length)*(b+1)) (cf W)∧RC (a+(p.length+1 - q.length)*(b+1)) (cf R)∧W.length≤p.length+1 - q.length
theorem parted_okC (hz:c.cs (Str.ofString "ZERO")=some (frD 0)) (hs:SumOK c 3 (Str.ofString "sum_of")) (hpr:ProdOK c 3 (Str.ofString "product_of")) (hpa:PartOK c 3 (Str.ofString "part_of")) (ht:TrimOK c 1 (Str.ofString "trimmed")) {ps' v':List Str} (htu:FnIs c (Str.ofString "turned") ps' v' s_turned) (htu':ps'.length=1) {ps v:List Str} (hf:FnIs c (Str.ofString "parted") ps v s_parted) (hps:ps.length=2) {p q:List Rat} {ba bb:Nat} (hp:RC ba (cf p)) (hqc:RC bb (cf q)) (hab:ba+(p.length+2 - q.length)*(bb+1)≤20000000) (hq0:q≠[]) (hqw:cf q (q.length - 1)≠0) (hpl:p.length≤15) (hql:q.length≤15) {m:Nat} (hm:4≤m) {sto:Sto} {Q:D→Sto→Prop} {X:Str→Prop}
  (h:∀ W R,IsDivC ba bb p q W R→Q (.tup [rowD (trimL W),rowD (trimL R)]) sto):CallOK c m (Str.ofString "parted") [rowD p,rowD q] sto Q X:=by
 obtain ⟨n,rfl⟩:∃ n,m=n+1:=⟨m - 1,by exact o147 hm⟩
 have hq1:1≤q.length:=List.length_pos_iff.mpr hq0
 have hq:RSs bb q:=fun i=>hqc.rs i
 obtain ⟨qe,qy,qe0,qeb,qyb,qeq⟩:=id hqc
 have hqm:qy (q.length - 1)≠0:=fun z=>by
  have:=qeq (q.length - 1)
  rw [z] at this
  rcases Rat.mul_eq_zero.mp this with z' | z'
  ·exact hqw z'
  ·exact cast_ne qe0 z'
 refine fn_call CO EO RO hf hps.symm ?_
 unfold s_parted
 walk_at "m"
 refine f_listT (by exact Mine.mlim (by exact o196 hpl)) fun l2 hl2=>?_
 walk_at "m"
 refine e_glob hz ?_
 walk_at "m"
 refine ⟨by exact Nat.le_of_ble_eq_true rfl,fun l3 hl3=>?_⟩
 walk_at "m"
 refine f_lenR (by exact o196 hpl) ?_
 walk_at "m"
 refine f_lenR (by exact o196 hql) ?_
 walk_at "m"
 refine f_max ?_
 refine o_mulL put_same (by simp) (by exact o197) (by exact o198 hpl) fun l4 hl4=>?_
 rw [repL_one] at *
 obtain ⟨N,hN⟩:∃ N:Nat,(max (0:Int) ((p.length:Int) - q.length+1))=(N:Int):=Int.eq_ofNat_of_zero_le (by exact o199)
 rw [hN,Int.toNat_natCast]
 have hNd:N=p.length+1 - q.length:=by exact o200 hN
 clear hN
 have hN15:N≤15:=by exact o201 hpl hq1 hNd
 have hNn:N=0∨N+q.length=p.length+1:=(Nat.lt_or_ge p.length q.length).elim (fun h=>.inl (by exact o202 hNd h)) fun h=>.inr (by exact o203 hNd h)
 have hNs:N=0→p.length<q.length:=fun z=>by exact o204 hNd z
 walk_at "m"
 refine g_for1 ?_
 walk_at "m"
 refine f_lenL put_same (by rw [List.length_map,List.length_replicate]; unfold lim; exact lin [_] [] [.nl (.x 0) (.k 15)] [] (.nl (.x 0) (.k 1000000)) (.l 1 [1]) rfl hN15) ?_
 rw [List.length_map,List.length_replicate]
 walk_at "m"
 refine ⟨by simp [smallI]; exact o206 hN15,_,rfl,?_⟩
 refine forL_inv (fun i σ=>∃ W R:List Rat,W.length=N∧R.length=p.length∧(∀ j,cf p j=cv W q j+cf R j)∧(∀ a,a+i<N→cf W a=0)∧(∀ j,N+q.length≤j+1+i→q.length≤j+1→cf R j=0)∧RC2 (ba+i*(bb+1)) (cf W) (cf R)∧σ.loc 1=some (rowD q)∧σ.loc 2=some (.lst l2)∧σ.loc 3=some (.lst l4)∧l2≠l4∧σ.sto l2=some (.list true (R.map frD))∧σ.sto l4=some (.list true (W.map frD))) (fun _ _=>False) _ 0 _ ?_ (fun _ _ _=>trivial) ?_ (fun _ _ z=>z.elim) ?_
 ·have hs2:=put_old (k:=Cell.list true ((List.replicate N 0).map frD)) hl4 (put_old hl3 (put_same (s:=(startSt [rowD p,rowD q] sto).sto) (l:=l2) (k:=Cell.list true (p.map frD))))
  refine ⟨List.replicate N 0,p,List.length_replicate,rfl,fun j=>?_,fun a _=>cf_zeros _ _,fun j hj hj2=>cf_ge (by omega),rc2_start hp,rfl,rfl,rfl,fun z=>?_,hs2,put_same⟩
  ·have:cv (List.replicate N 0) q j=0:=by
    rw [cv_comm,cv_full]
    have e:(fun i=>cf q i*cf (List.replicate N 0) (j - i))=fun _=>0:=by funext i; rw [cf_zeros,Rat.mul_zero]
    rw [e]
    exact sm_one (f:=fun _=>0) (a:=0) (by exact o189) (fun _ _=>rfl)
   rw [this,Rat.zero_add]
  ·subst z
   have h4:Sto.put (Sto.put (startSt [rowD p,rowD q] sto).sto l2 (Cell.list true (p.map frD))) l3 (Cell.list true [frD 0]) l2=none:=hl4
   exact absurd (h4.symm.trans (put_old (s:=Sto.put (startSt [rowD p,rowD q] sto).sto l2 (Cell.list true (p.map frD))) hl3 put_same)) (by simp)
 ·rintro i d σ K hd ⟨W,R,hW1,hR1,hE,hW0,hR0,hRW,g1,g2,g3,hne,s2,s4⟩ hn hr
  obtain ⟨hi,hdd⟩:=rangeDn_get hd
  subst hdd
  rw [Nat.zero_add] at hW0 hR0 hRW hn
  have hi:i<N:=by exact o207 hi
  obtain ⟨a,ha⟩:∃ a:Nat,N=a+i+1:=⟨N - 1 - i,by exact o208 hi⟩
  have hap:a+q.length≤p.length:=by omega
  rw [show (N:Int) - 1 - (i:Int)=(a:Int) by exact linI [_,_,_] [] [.ne (.x 0) (.a (.a (.x 1) (.x 2)) (.k 1))] [] (.s (.s (.c (.x 0)) (.k 1)) (.c (.x 2))) (.c (.x 1)) (.l 1 [1]) (.l 1 [-1]) rfl ha]
  have hbi:ba+i*(bb+1)+(bb+1)≤20000000:=by
   have:(i+1)*(bb+1)≤(p.length+2 - q.length)*(bb+1):=Nat.mul_le_mul (by omega) (Nat.le_refl _)
   rw [Nat.add_mul,Nat.one_mul] at this
   exact lin [_,_,_,_] [] [.nl (.a (.x 0) (.x 1)) (.k 20000000),.nl (.a (.x 2) (.a (.x 3) (.k 1))) (.x 1)] [] (.nl (.a (.a (.x 0) (.x 2)) (.a (.x 3) (.k 1))) (.k 20000000)) (.l 1 [1,1]) rfl hab this
  have hRs:RSs (ba+i*(bb+1)) R:=fun j=>hRW.right.rs j
  obtain ⟨bi,hbie⟩:∃ bi,ba+i*(bb+1)=bi:=⟨_,rfl⟩
  rw [hbie] at hbi hRs hRW
  walk_at "m"
  refine e_call hpa.1 ?_
  walk_at "m"
  refine f_lenR (by exact o196 hql) ?_
  walk_at "m"
  rw [show (a:Int)+(q.length:Int) - 1=((a+q.length - 1:Nat):Int) by exact o211 hq1]
  refine i_rowL s2 (by exact o212 hpl hR1) (by exact o213 hq1 hR1 hap) ?_
  walk_at "m"
  refine i_tup (by exact Mine.mlim (by exact o196 hql)) (nth_last hq0) ?_
  walk_at "m"
  refine hpa.2 _ _ bi bb _ _ _ _ (by exact o158 hm) (hRs _) (hq _) (by exact lin [_,_] [] [.nl (.a (.x 0) (.a (.x 1) (.k 1))) (.k 20000000)] [] (.nl (.a (.x 0) (.x 1)) (.k 67108864)) (.l 1 [1]) rfl hbi) hqw ?_
  have rt:RS (bi+bb) (cf R (a+q.length - 1) / cf q (q.length - 1)):=rs_divR (hRs _) (hq _) hqw
  have et:cf R (a+q.length - 1) / cf q (q.length - 1)*cf q (q.length - 1)=cf R (a+q.length - 1):=Rat.div_mul_cancel hqw
  generalize cf R (a+q.length - 1) / cf q (q.length - 1)=t at rt et ⊢
  walk_at "m"
  refine st_lst s4 (by exact Mine.mlim (by exact o212 hN15 hW1)) (by exact o117) (by rw [List.length_map]; exact lin [_,_,_,_] [] [.ne (.x 0) (.x 1),.ne (.x 1) (.a (.a (.x 2) (.x 3)) (.k 1))] [] (.it (.c (.x 2)) (.c (.x 0))) (.l 1 [-1,-1]) rfl hW1 ha) ?_
  rw [Int.toNat_natCast,set_row]
  refine g_app' (g_for1 ?_)
  walk_at "m"
  refine f_lenR (by exact o196 hql) ?_
  walk_at "m"
  refine ⟨by simp [smallI]; exact o216 hql,_,rfl,?_⟩
  refine forL_inv (fun u τ=>∃ G:List Rat,G.length=p.length∧(∀ j,cf G j=cf R j+if a≤j∧j - a<u then -(t*cf q (j - a)) else 0)∧τ.loc 1=some (rowD q)∧τ.loc 2=some (.lst l2)∧τ.loc 3=some (.lst l4)∧τ.loc 4=some (.int a)∧τ.loc 5=some (frD t)∧τ.sto l2=some (.list true (G.map frD))∧τ.sto l4=some (.list true ((W.set a t).map frD))) (fun _ _=>False) _ 0 _ ?_ (fun _ _ _=>trivial) ?_ (fun _ _ z=>z.elim) ?_
  ·exact ⟨R,hR1,fun j=>by rw [if_neg (fun z=>Nat.not_lt_zero _ z.2),Rat.add_zero],g1,g2,g3,rfl,rfl,(put_ne hne).trans s2,put_same⟩
  ·rintro u d τ K₂ hd₂ ⟨G,hG1,hG,k1,k2,k3,k4,k5,t2,t4⟩ hn₂ hr₂
   obtain ⟨hu,hdd⟩:=rangeUp_get hd₂
   rw [Int.zero_add] at hdd
   subst hdd
   rw [Nat.zero_add] at hG hn₂
   have hu:u<q.length:=by exact o155 hu
   have e:cf G (a+u)=cf R (a+u):=by rw [hG,if_neg (fun z=>by have:=z.2; exact o217 z),Rat.add_zero]
   walk_at "m"
   refine e_call hs.1 ?_
   walk_at "m"
   rw [show (a:Int)+(u:Int)=((a+u:Nat):Int) by exact o218]
   refine i_rowL t2 (by exact o212 hpl hG1) (by exact o219 hap hG1 hu) ?_
   rw [e]
   walk_at "m"
   refine e_call htu.isFn ?_
   walk_at "m"
   refine e_call hpr.1 ?_
   walk_at "m"
   refine i_row (by exact o196 hql) hu ?_
   walk_at "m"
   refine hpr.2 _ _ (bi+bb) bb _ _ _ _ (by exact o158 hm) rt (hq u) (by exact lin [_,_] [] [.nl (.a (.x 0) (.a (.x 1) (.k 1))) (.k 20000000)] [] (.nl (.a (.a (.x 0) (.x 1)) (.x 1)) (.k 67108864)) (.l 1 [2]) rfl hbi) ?_
   walk_at "m"
   refine turned_ok CO EO RO htu htu' (by exact o161 hm) ?_
   walk_at "m"
   refine hs.2 _ _ bi (bi+bb+bb) _ _ _ _ (by exact o158 hm) (hRs _) (rs_neg (rs_mulR rt (hq u))) (by exact lin [_,_] [] [.nl (.a (.x 0) (.a (.x 1) (.k 1))) (.k 20000000)] [] (.nl (.a (.x 0) (.a (.a (.x 0) (.x 1)) (.x 1))) (.k 67108864)) (.l 1 [2]) rfl hbi) ?_
   walk_at "m"
   rw [show (a:Int)+(u:Int)=((a+u:Nat):Int) by exact o218]
   refine st_lst t2 (by exact Mine.mlim (by exact o212 hpl hG1)) (by exact o222) (by rw [List.length_map]; exact lin [_,_,_,_,_] [] [.nl (.a (.x 0) (.x 1)) (.x 2),.ne (.x 3) (.x 2),.nt (.x 4) (.x 1)] [] (.it (.c (.a (.x 0) (.x 4))) (.c (.x 3))) (.l 1 [1,-1,1]) rfl hap hG1 hu) ?_
   refine hn₂ _ ⟨G.set (a+u) (cf R (a+u)+-(t*cf q u)),by rw [List.length_set]; exact hG1,fun j=>?_,k1,k2,k3,k4,k5,?_,?_⟩
   ·rw [cf_set (by exact o219 hap hG1 hu)]
    by_cases z:j=a+u
    ·subst z; rw [if_pos rfl,if_pos ⟨by exact o63,by exact o224⟩,show a+u - a=u by exact o225]
    ·rw [if_neg z,hG j]
     congr 1
     by_cases z2:a≤j∧j - a<u
     ·rw [if_pos z2,if_pos ⟨z2.1,by exact o226 z2⟩]
     ·rw [if_neg z2,if_neg (fun z3=>z2 ⟨z3.1,by exact o227 z z2 z3⟩)]
   ·show Sto.put _ _ _ _=_
    rw [put_same,Int.toNat_natCast,set_row]
   ·exact (put_ne (fun z=>hne z.symm)).trans t4
  ·rintro τ ⟨G,hG1,hG,k1,k2,k3,k4,k5,t2,t4⟩
   rw [Nat.zero_add,rangeUp_len] at hG
   have hG:∀ j,cf G j=cf R j+if a≤j then -(t*cf q (j - a)) else 0:=fun j=>by
    rw [hG j]
    congr 1
    by_cases z:a≤j
    ·rw [if_pos z]
     by_cases z2:j - a<q.length
     ·rw [if_pos ⟨z,by exact o228 z2⟩]
     ·rw [if_neg (fun z3=>z2 (by have:=z3.2; exact o229 z3)),cf_ge (p:=q) (by exact o230 z2),Rat.mul_zero]; rfl
    ·rw [if_neg z,if_neg (fun z3=>z z3.1)]
   have hst:RC2 (ba+(i+1)*(bb+1)) (cf (W.set a t)) (cf G):=by
    have:=hRW.place (q:=q) (t:=t) (a:=a) qeb qyb qeq hqm et hqw
    rw [show ba+(i+1)*(bb+1)=bi+(bb+1) by rw [← hbie,Nat.add_mul,Nat.one_mul]; exact linN [_,_,_] [] [] [] (.a (.x 0) (.a (.x 1) (.a (.x 2) (.k 1)))) (.a (.a (.x 0) (.x 1)) (.a (.x 2) (.k 1))) (.l 1 []) (.l 1 []) rfl]
    have e1:cf (W.set a t)=fun i=>if i=a then t else cf W i:=funext fun b=>cf_set (by exact o232 hW1 ha) b
    have e2:cf G=fun j=>cf R j+if a≤j then -(t*cf q (j - a)) else 0:=funext hG
    rw [e1,e2]; exact this
   refine hn _ ⟨W.set a t,G,by rw [List.length_set]; exact hW1,hG1,fun j=>?_,fun b hb=>?_,fun j hj hj2=>?_,hst,k1,k2,k3,hne,t2,t4⟩
   ·rw [cv_set (by exact o232 hW1 ha) (hW0 a (by exact lin [_,_,_] [] [.ne (.x 0) (.a (.a (.x 1) (.x 2)) (.k 1))] [] (.nt (.a (.x 1) (.x 2)) (.x 0)) (.l 1 [-1]) rfl ha)),hG j,hE j]
    by_cases z:a≤j
    ·rw [if_pos z,if_pos z]; grind
    ·rw [if_neg z,if_neg z]; grind
   ·rw [cf_set (by exact o232 hW1 ha),if_neg (by exact o234 ha hb)]; exact hW0 b (by exact lin [_,_,_] [] [.nt (.a (.x 0) (.a (.x 1) (.k 1))) (.x 2)] [] (.nt (.a (.x 0) (.x 1)) (.x 2)) (.l 1 [1]) rfl hb)
   ·rw [hG j,if_pos (by exact lin [_,_,_,_,_] [] [.nl (.k 1) (.x 0),.ne (.x 1) (.a (.a (.x 2) (.x 3)) (.k 1)),.nl (.a (.x 1) (.x 0)) (.a (.a (.x 4) (.k 1)) (.a (.x 3) (.k 1)))] [] (.nl (.x 2) (.x 4)) (.l 1 [1,-1,1]) rfl hq1 ha hj)]
    by_cases z:j=a+q.length - 1
    ·subst z
     rw [show a+q.length - 1 - a=q.length - 1 by exact o237,et]; grind
    ·rw [hR0 j (by exact o238 ha hj z) hj2,cf_ge (p:=q) (by exact o239 ha hj z),Rat.mul_zero]; grind
 ·rintro σ ⟨W,R,hW1,hR1,hE,hW0,hR0,hRW,g1,g2,g3,hne,s2,s4⟩
  rw [Nat.zero_add,rangeDn_len] at hW0 hR0 hRW
  walk_at "m"
  refine e_call ht.1 ?_
  walk_at "m"
  refine ht.2 W l4 _ _ _ _ _ (by exact o161 hm) s4 (by exact o212 hN15 hW1) ?_
  walk_at "m"
  refine e_call ht.1 ?_
  walk_at "m"
  refine ht.2 R l2 _ _ _ _ _ (by exact o161 hm) s2 (by exact o212 hpl hR1) ?_
  walk_at "m"
  refine ⟨by exact Nat.le_of_ble_eq_true rfl,?_⟩
  walk_at "m"
  have eN:((N:Int) - 1 - -1).toNat=N:=by exact o240
  rw [eN] at hRW
  have hNl:N≤p.length+1 - q.length:=by exact o241 hNd
  have hNm:N*(bb+1)≤(p.length+1 - q.length)*(bb+1):=Nat.mul_le_mul hNl (Nat.le_refl _)
  refine ret_plain (h W R ⟨hE,fun j hj=>hR0 j (by exact o242 eN hj) (by exact o243 hj),hRW.left.mono (by exact o244 hNm),hRW.right.mono (by exact o244 hNm),by exact o245 hNd hW1⟩)
theorem multiplied_okC (hz:c.cs (Str.ofString "ZERO")=some (frD 0)) (hs:SumOK c 3 (Str.ofString "sum_of")) (hpr:ProdOK c 3 (Str.ofString "product_of")) (ht:TrimOK c 1 (Str.ofString "trimmed")) {ps v:List Str} (hf:FnIs c (Str.ofString "multiplied") ps v s_multiplied) (hps:ps.length=2) {p q:List Rat} {k l:Nat} (hpc:RC k (cf p)) (hqc:RC l (cf q)) (hkl:k+l≤33000000) (hpl:p.length≤15) (hql:q.length≤100) {m:Nat} (hm:4≤m) {sto:Sto} {Q:D→Sto→Prop} {X:Str→Prop} (h:∀ r,IsProd p q r→Q (rowD (trimL r)) sto):CallOK c m (Str.ofString "multiplied") [rowD p,rowD q] sto Q X:=by
 obtain ⟨n,rfl⟩:∃ n,m=n+1:=⟨m - 1,by exact o147 hm⟩
 have hp:RSs k p:=fun i=>hpc.rs i
 have hq:RSs l q:=fun i=>hqc.rs i
 refine fn_call CO EO RO hf hps.symm ?_
 have nil:p=[]∨q=[]→Q (.tup []) sto:=fun hpq=>by
  have:=h [] fun j=>by
   rcases hpq with rfl | rfl
   ·rfl
   ·rw [cv_comm]; rfl
  exact this
 unfold s_multiplied
 walk_at "m"
 refine ⟨by exact Nat.le_of_ble_eq_true rfl,?_⟩
 refine c_eqD (eq_rows p []) ?_
 walk_at "m"
 refine if_or (fun hb=>?_) fun hb=>?_
 ·refine if_b (fun _=>?_) fun z=>by rw [hb] at z; cases z
  walk_at "m"
  refine ⟨by exact Nat.le_of_ble_eq_true rfl,?_⟩
  walk_at "m"
  exact ret_plain (nil (.inl (beq_iff_eq.mp hb)))
 walk_at "m"
 refine ⟨by exact Nat.le_of_ble_eq_true rfl,?_⟩
 refine c_eqD (eq_rows q []) ?_
 walk_at "m"
 refine if_or (fun hb=>?_) fun hb'=>?_
 ·refine if_b (fun _=>?_) fun z=>by rw [hb] at z; cases z
  walk_at "m"
  refine ⟨by exact Nat.le_of_ble_eq_true rfl,?_⟩
  walk_at "m"
  exact ret_plain (nil (.inr (beq_iff_eq.mp hb)))
 walk_at "m"
 refine if_b (fun z=>by cases z) fun _=>?_
 have hp1:1≤p.length:=List.length_pos_iff.mpr (beq_eq_false_iff_ne.mp hb)
 have hq1:1≤q.length:=List.length_pos_iff.mpr (beq_eq_false_iff_ne.mp hb')
 walk_at "m"
 refine e_glob hz ?_
 walk_at "m"
 refine ⟨by exact Nat.le_of_ble_eq_true rfl,fun l2 hl2=>?_⟩
 walk_at "m"
 refine f_lenR (by exact o196 hpl) ?_
 walk_at "m"
 refine f_lenR (by exact o246 hql) ?_
 walk_at "m"
 refine o_mulL put_same (by simp) (by exact lin [_,_] [] [] [] (.il (.g (.k 10000)) (.s (.a (.c (.x 0)) (.c (.x 1))) (.k 1))) (.l 1 []) rfl) (by exact lin [_,_] [] [.nl (.x 0) (.k 15),.nl (.x 1) (.k 100)] [] (.il (.s (.a (.c (.x 0)) (.c (.x 1))) (.k 1)) (.k 10000)) (.l 1 [1,1]) rfl hpl hql) fun l4 hl4=>?_
 rw [repL_one]
 walk_at "m"
 refine g_for1 ?_
 walk_at "m"
 refine f_lenR (by exact o196 hpl) ?_
 walk_at "m"
 refine ⟨by simp [smallI]; exact o216 hpl,_,rfl,?_⟩
 refine forL_inv (fun i σ=>∃ F:List Rat,F.length=p.length+q.length - 1∧(∀ j,cf F j=sm (cvf p q j) i)∧RSs (k+l+4) F∧σ.loc 0=some (rowD p)∧σ.loc 2=some (.lst l4)∧σ.loc 1=some (rowD q)∧σ.sto l4=some (.list true (F.map frD))) (fun _ _=>False) _ 0 _ ?_ (fun _ _ _=>trivial) ?_ (fun _ _ z=>z.elim) ?_
 ·refine ⟨List.replicate ((p.length:Int)+q.length - 1).toNat 0,by rw [List.length_replicate]; exact o249,fun j=>cf_zeros _ _,fun j=>by rw [cf_zeros]; exact rs_zero (by exact lin [_,_] [] [] [] (.nl (.k 1) (.a (.a (.x 0) (.x 1)) (.k 4))) (.l 1 []) rfl),rfl,rfl,rfl,put_same⟩
 ·rintro i d σ K hd ⟨F,hF1,hF,hFs,h0,h2,h1,hst⟩ hn hr
  obtain ⟨hi,hdd⟩:=rangeUp_get hd
  rw [Int.zero_add] at hdd
  subst hdd
  rw [Nat.zero_add] at hF hn
  have hi:i<p.length:=by exact o155 hi
  refine g_cons (g_for1 ?_)
  walk_at "m"
  refine f_lenR (by exact o246 hql) ?_
  walk_at "m"
  refine ⟨by simp [smallI]; exact lin [_] [] [.nl (.x 0) (.k 100)] [] (.il (.c (.x 0)) (.k 1000000)) (.l 1 [1]) rfl hql,_,rfl,?_⟩
  refine forL_inv (fun t σ=>∃ G:List Rat,G.length=p.length+q.length - 1∧(∀ j,cf G j=cf F j+if i≤j∧j - i<t then cf p i*cf q (j - i) else 0)∧σ.loc 0=some (rowD p)∧σ.loc 2=some (.lst l4)∧σ.loc 1=some (rowD q)∧σ.loc 3=some (.int i)∧σ.sto l4=some (.list true (G.map frD))) (fun _ _=>False) _ 0 _ ?_ (fun _ _ _=>trivial) ?_ (fun _ _ z=>z.elim) ?_
  ·exact ⟨F,hF1,fun j=>by rw [if_neg (fun z=>Nat.not_lt_zero _ z.2),Rat.add_zero],h0,h2,h1,rfl,hst⟩
  ·rintro t d σ₂ K₂ hd₂ ⟨G,hG1,hG,g0,g2,g1,g3,gst⟩ hn₂ hr₂
   obtain ⟨ht',hdd⟩:=rangeUp_get hd₂
   rw [Int.zero_add] at hdd
   subst hdd
   rw [Nat.zero_add] at hG hn₂
   have ht':t<q.length:=by exact o155 ht'
   have e:cf G (i+t)=cf F (i+t):=by rw [hG,if_neg (fun z=>by have:=z.2; exact o217 z),Rat.add_zero]
   walk_at "m"
   refine e_call hs.1 ?_
   walk_at "m"
   rw [show (i:Int)+(t:Int)=((i+t:Nat):Int) by exact o218]
   refine i_rowL gst (by exact o252 hpl hql hG1) (by omega) ?_
   rw [e]
   walk_at "m"
   refine e_call hpr.1 ?_
   walk_at "m"
   refine i_row (by exact o196 hpl) hi ?_
   walk_at "m"
   refine i_row (by exact o246 hql) ht' ?_
   walk_at "m"
   refine hpr.2 _ _ k l _ _ _ _ (by exact o158 hm) (hp i) (hq t) (by exact lin [_,_] [] [.nl (.a (.x 0) (.x 1)) (.k 33000000)] [] (.nl (.a (.x 0) (.x 1)) (.k 67108864)) (.l 1 [1]) rfl hkl) ?_
   walk_at "m"
   refine hs.2 _ _ (k+l+4) (k+l) _ _ _ _ (by exact o158 hm) (hFs (i+t)) (rs_mulR (hp i) (hq t)) (by exact lin [_,_] [] [.nl (.a (.x 0) (.x 1)) (.k 33000000)] [] (.nl (.a (.a (.a (.x 0) (.x 1)) (.k 4)) (.a (.x 0) (.x 1))) (.k 67108864)) (.l 1 [2]) rfl hkl) ?_
   walk_at "m"
   rw [show (i:Int)+(t:Int)=((i+t:Nat):Int) by exact o218]
   refine st_lst gst (by exact Mine.mlim (by exact o252 hpl hql hG1)) (by exact o222) (by rw [List.length_map]; omega) ?_
   refine hn₂ _ ⟨G.set (i+t) (cf F (i+t)+cf p i*cf q t),by rw [List.length_set]; exact hG1,fun j=>?_,g0,g2,g1,g3,?_⟩
   ·rw [cf_set (by omega)]
    by_cases z:j=i+t
    ·subst z; rw [if_pos rfl,if_pos ⟨by exact o63,by exact o224⟩,show i+t - i=t by exact o225]
    ·rw [if_neg z,hG j]
     congr 1
     by_cases z2:i≤j∧j - i<t
     ·rw [if_pos z2,if_pos ⟨z2.1,by exact o226 z2⟩]
     ·rw [if_neg z2,if_neg (fun z3=>z2 ⟨z3.1,by exact o227 z z2 z3⟩)]
   ·show Sto.put _ _ _ _=_
    rw [put_same,Int.toNat_natCast,set_row]
  ·rintro σ₂ ⟨G,hG1,hG,g0,g2,g1,g3,gst⟩
   rw [Nat.zero_add,rangeUp_len] at hG
   have hG:∀ j,cf G j=sm (cvf p q j) (i+1):=fun j=>by
    rw [hG j,hF j]
    show _=sm (cvf p q j) i+cvf p q j i
    congr 1
    unfold cvf
    by_cases z:i≤j
    ·rw [if_pos z]
     by_cases z2:j - i<q.length
     ·rw [if_pos ⟨z,by exact o228 z2⟩]
     ·rw [if_neg (fun z3=>z2 (by have:=z3.2; exact o229 z3)),cf_ge (p:=q) (by exact o230 z2),Rat.mul_zero]
    ·rw [if_neg z,if_neg (fun z3=>z z3.1)]
   refine hn _ ⟨G,hG1,hG,fun j=>?_,g0,g2,g1,gst⟩
   rw [hG j]
   exact (hpc.part hqc (n:=i+1) (by exact lin [_,_] [] [.nl (.x 0) (.k 15),.nt (.x 1) (.x 0)] [] (.nl (.a (.x 1) (.k 1)) (.k 15)) (.l 1 [1,1]) rfl hpl hi)).rs j
 ·rintro σ ⟨F,hF1,hF,hFs,h0,h2,h1,hst⟩
  walk_at "m"
  refine e_call ht.1 ?_
  walk_at "m"
  refine ht.2 F l4 _ _ _ _ _ (by exact o161 hm) hst (by exact o252 hpl hql hF1) ?_
  walk_at "m"
  refine ret_plain (h F fun j=>?_)
  rw [hF j,rangeUp_len]
  show sm _ (0+((p.length:Int) - 0).toNat)=sm _ p.length
  congr 1
  exact o256
end
end Mine
namespace Mine
open PySem
noncomputable def s_scaleG (t g x:Str):List S:=[
  .ret (.call t [.comp (.call g [.var 100,.var 1]) [(100,x)] .plain [.var 0]])]
noncomputable def s_lessened:List S:=[
  .ret (.call (Str.ofString "added") [.var 0,.call (Str.ofString "scaled") [.var 1,.tup [.neg (.cint 1),.cint 1]]])]
noncomputable def Fin0 (a:Nat→Rat):Prop:=∃ N,∀ i,N≤i→a i=0
theorem fin_cf (p:List Rat):Fin0 (cf p):=⟨p.length,fun i hi=>cf_ge hi⟩
theorem fin_add {a b:Nat→Rat} (h:Fin0 a) (h':Fin0 b):Fin0 (fun i=>a i+b i):=by
 obtain ⟨N,h⟩:=h
 obtain ⟨M,h'⟩:=h'
 exact ⟨N+M,fun i hi=>by show a i+b i=0; rw [h i (by exact o257 hi),h' i (by exact o258 hi),Rat.add_zero]⟩
theorem cvn_ge {a b:Nat→Rat} {N M j:Nat} (h:∀ i,N≤i→a i=0) (h':∀ i,M≤i→b i=0) (hj:N+M≤j+1):cvn a b j=0:=by
 unfold cvn
 rw [show (fun i=>a i*b (j - i))=fun _=>0 from ?_]
 ·exact sm_const0 _
 ·funext i
  by_cases z:i<N
  ·rw [h' _ (by exact o259 hj z),Rat.mul_zero]
  ·rw [h _ (by exact o59 z),Rat.zero_mul]
theorem fin_cvn {a b:Nat→Rat} (h:Fin0 a) (h':Fin0 b):Fin0 (cvn a b):=by
 obtain ⟨N,h⟩:=h
 obtain ⟨M,h'⟩:=h'
 exact ⟨N+M,fun j hj=>cvn_ge h h' (by exact o260 hj)⟩
noncomputable def Dv (g:List Rat) (a:Nat→Rat):Prop:=∃ r,Fin0 r∧∀ j,a j=cvn r (cf g) j
theorem dv_self (g:List Rat):Dv g (cf g):=⟨one0,⟨1,fun i hi=>if_neg (by exact o261 hi)⟩,fun j=>(cvn_one _ j).symm⟩
theorem dv_none (g:List Rat):Dv g (cf []):=⟨fun _=>0,⟨0,fun _ _=>rfl⟩,fun j=>by rw [cvn_none]; rfl⟩
theorem dv_step {g W:List Rat} {A B R:Nat→Rat} (h:∀ j,A j=cvn (cf W) B j+R j) (hB:Dv g B) (hR:Dv g R):Dv g A:=by
 obtain ⟨r,fr,hr⟩:=hB
 obtain ⟨t,ft,ht⟩:=hR
 refine ⟨fun i=>cvn (cf W) r i+t i,fin_add (fin_cvn (fin_cf W) fr) ft,fun j=>?_⟩
 rw [cvn_add_left,cvn_assoc,h j,ht j,cvn_cong (fun _=>rfl) hr]
theorem dv_scale {g G:List Rat} {a:Nat→Rat} {x y:Rat} (hxy:x*y=1) (hG:∀ i,cf G i=cf g i*x) (h:Dv g a):Dv G a:=by
 obtain ⟨r,⟨N,fr⟩,hr⟩:=h
 refine ⟨fun i=>y*r i,⟨N,fun i hi=>by show y*r i=0; rw [fr i hi,Rat.mul_zero]⟩,fun j=>?_⟩
 rw [cvn_mul_left,cvn_cong (fun _=>rfl) (fun i=>(hG i).trans (Rat.mul_comm _ _)),cvn_mul_right,hr j]
 grind
theorem RC.monic {B n:Nat} {a:Nat→Rat} (h:RC B a) (h0:a n≠0):RC B (fun i=>a i*(1 / a n)):=by
 obtain ⟨d,z,h1,h2,h3,h4⟩:=h
 have hz:z n≠0:=fun e=>by
  have:=h4 n
  rw [e] at this
  rcases Rat.mul_eq_zero.mp this with z' | z'
  ·exact h0 z'
  ·exact cast_ne h1 z'
 refine ⟨z n,z,hz,h3 n,h3,fun i=>?_⟩
 rw [← h4 n,← h4 i]
 have e:1 / a n*a n=1:=Rat.div_mul_cancel h0
 have:a i*(1 / a n)*(a n*(d:Rat))=a i*(1 / a n*a n)*(d:Rat):=by grind
 rw [this,e,Rat.mul_one]
theorem rs_one:RS 1 (1:Rat):=⟨by decide,by decide⟩
theorem rs_mone:RS 1 (-1:Rat):=⟨by decide,by decide⟩
theorem rc_one:RC 1 (cf [1]):=⟨1,fun i=>if i=0 then 1 else 0,by decide,by decide,fun i=>by
 show (if i=0 then (1:Int) else 0).natAbs<_
 split <;> decide,fun i=>by
 show _=((if i=0 then (1:Int) else 0:Int):Rat)
 match i with
 | 0=>exact Rat.mul_one _
 | i+1=>rw [if_neg (by exact o262),cf_ge (by show 1≤i+1; exact o263),Rat.zero_mul]; rfl⟩
theorem RC.trim {B:Nat} {p:List Rat} (h:RC B (cf p)):RC B (cf (trimL p)):=h.cong (cf_trim p)
theorem rw_len' {r:List Rat} {n:Nat} (hr:Rw r) (h:∀ j,n≤j→cf r j=0):r.length≤n:=by
 rcases hr with rfl | hr
 ·exact Nat.zero_le _
 ·by_cases z:r.length≤n
  ·exact z
  ·exact absurd (h _ (by exact o57 z)) hr
theorem less_len {S W U F:List Rat} {n m:Nat} (hF:Rw F) (e:∀ i,cf F i=cf S i - cvn (cf W) (cf U) i) (h1:S.length≤n) (h2:W.length+U.length≤n+1):F.length≤n :=
 rw_len' hF fun j hj=>by
  rw [e j,cf_ge (p:=S) (by exact o264 h1 hj),cvn_ge (N:=W.length) (M:=U.length) (fun i hi=>cf_ge hi) (fun i hi=>cf_ge hi) (by exact o265 h2 hj)]; grind
theorem less_eq {S T W U V F H p q:List Rat} {A B R:Nat→Rat} (eA:∀ j,A j=cvn (cf S) (cf p) j+cvn (cf T) (cf q) j) (eB:∀ j,B j=cvn (cf U) (cf p) j+cvn (cf V) (cf q) j) (h:∀ j,A j=cvn (cf W) B j+R j) (eF:∀ i,cf F i=cf S i - cvn (cf W) (cf U) i) (eH:∀ i,cf H i=cf T i - cvn (cf W) (cf V) i) (j:Nat):R j=cvn (cf F) (cf p) j+cvn (cf H) (cf q) j:=by
 have x1:∀ {S U F:List Rat} (p:List Rat),(∀ i,cf F i=cf S i - cvn (cf W) (cf U) i)→∀ j,cvn (cf F) (cf p) j=cvn (cf S) (cf p) j - cvn (cf W) (cvn (cf U) (cf p)) j:=fun {S U F} p eF j=>by
  rw [cvn_cong (a':=fun i=>cf S i+(-1)*cvn (cf W) (cf U) i) (fun i=>by rw [eF i]; grind) (fun _=>rfl),cvn_add_left,cvn_mul_left,cvn_assoc]; grind
 rw [x1 p eF,x1 q eH]
 have h1:=h j
 rw [cvn_cong (fun _=>rfl) eB,cvn_add_right,eA j] at h1
 grind
end Mine
namespace Mine
theorem pigeon:∀ (K:Nat) (f:Nat→Nat),(∀ n,n≤K→f n<K)→∃ i j,i<j∧j≤K∧f i=f j
 | 0,f,h=>absurd (h 0 (Nat.le_refl _)) (Nat.not_lt_zero _)
 | K+1,f,h=>by
  by_cases hv:∃ i,i≤K∧f i=f (K+1)
  ·obtain ⟨i,hi,e⟩:=hv
   exact ⟨i,K+1,Nat.lt_succ_of_le hi,Nat.le_refl _,e⟩
  ·have hv:∀ i,i≤K→f i≠f (K+1):=fun i hi e=>hv ⟨i,hi,e⟩
   have h1:=h (K+1) (Nat.le_refl _)
   obtain ⟨i,j,hij,hj,e⟩:=pigeon K (fun n=>if f n=K then f (K+1) else f n) (fun n hn=>by
    have h2:=h n (Nat.le_succ_of_le hn)
    have h3:=hv n hn
    show (if f n=K then f (K+1) else f n)<K
    split <;> omega)
   refine ⟨i,j,hij,Nat.le_succ_of_le hj,?_⟩
   have e:(if f i=K then f (K+1) else f i)=(if f j=K then f (K+1) else f j):=e
   have h3:=hv i (by exact o266 hij hj)
   have h4:=hv j hj
   split at e <;> split at e <;> omega
noncomputable def dig (T:Nat):Nat→Nat→Nat
 | n,0=>n % T
 | n,i+1=>dig T (n / T) i
theorem dig_lt {T:Nat} (hT:0<T):∀ (i n:Nat),dig T n i<T
 | 0,n=>Nat.mod_lt n hT
 | i+1,n=>dig_lt hT i (n / T)
theorem dig_inj {T:Nat} (hT:0<T):∀ (N n m:Nat),n<T ^ N→m<T ^ N→(∀ i,i<N→dig T n i=dig T m i)→n=m
 | 0,n,m,h1,h2,_=>by rw [Nat.pow_zero] at h1 h2; exact linN [_,_] [] [.nt (.x 0) (.k 1),.nt (.x 1) (.k 1)] [] (.x 0) (.x 1) (.l 1 [1]) (.l 1 [0,1]) rfl h1 h2
 | N+1,n,m,h1,h2,h=>by
  have e0:n % T=m % T:=h 0 (Nat.zero_lt_succ _)
  rw [Nat.pow_succ,Nat.mul_comm] at h1 h2
  have e1:=dig_inj hT N (n / T) (m / T) (Nat.div_lt_of_lt_mul h1) (Nat.div_lt_of_lt_mul h2) fun i hi=>h (i+1) (Nat.succ_lt_succ hi)
  rw [← Nat.div_add_mod n T,← Nat.div_add_mod m T,e0,e1]
noncomputable def enc (R:Nat) (y:Nat→Nat):Nat→Nat
 | 0=>0
 | M+1=>enc R y M*R+y M
theorem enc_lt {R:Nat} {y:Nat→Nat}:∀ (M:Nat),(∀ k,y k<R)→enc R y M<R ^ M
 | 0,_=>by rw [Nat.pow_zero]; exact Nat.zero_lt_one
 | M+1,h=>by
  have h1:=enc_lt M h
  have h2:=h M
  have h3:=Nat.mul_le_mul_right R (Nat.succ_le_of_lt h1)
  rw [Nat.succ_mul] at h3
  rw [Nat.pow_succ]
  show enc R y M*R+y M<_
  exact lin [_,_,_,_] [] [.nt (.x 0) (.x 1),.nl (.a (.x 2) (.x 1)) (.x 3)] [] (.nt (.a (.x 2) (.x 0)) (.x 3)) (.l 1 [1,1]) rfl h2 h3
theorem enc_inj {R:Nat} {y z:Nat→Nat} (hy:∀ k,y k<R) (hz:∀ k,z k<R):∀ (M:Nat),enc R y M=enc R z M→∀ k,k<M→y k=z k
 | 0,_,k,hk=>absurd hk (Nat.not_lt_zero _)
 | M+1,e,k,hk=>by
  have e:enc R y M*R+y M=enc R z M*R+z M:=e
  have hR:0<R:=Nat.lt_of_le_of_lt (Nat.zero_le _) (hy 0)
  have e1:y M=z M:=by
   have:=congrArg (· % R) e
   simp only [Nat.mul_add_mod_self_right,Nat.mod_eq_of_lt (hy M),Nat.mod_eq_of_lt (hz M)] at this
   exact this
  rw [e1] at e
  have e2:enc R y M=enc R z M:=Nat.eq_of_mul_eq_mul_right hR (Nat.add_right_cancel e)
  rcases Nat.lt_succ_iff_lt_or_eq.mp hk with h | h
  ·exact enc_inj hy hz M e2 k h
  ·rw [h]; exact e1
theorem smI_sub (f g:Nat→Int):∀ n,smI (fun i=>f i - g i) n=smI f n - smI g n
 | 0=>rfl
 | n+1=>by
  show smI (fun i=>f i - g i) n+(f n - g n)=smI f n+f n - (smI g n+g n)
  rw [smI_sub f g n]; exact linI [] [_,_,_,_] [] [] (.a (.s (.x 0) (.x 1)) (.s (.x 2) (.x 3))) (.s (.a (.x 0) (.x 2)) (.a (.x 1) (.x 3))) (.l 1 []) (.l 1 []) rfl
theorem smI_cong {f g:Nat→Int} (h:∀ i,f i=g i) (n:Nat):smI f n=smI g n:=by rw [show f=g from funext h]
theorem siegel (M b c:Nat) (r:Nat→Nat→Int) (hr:∀ k i,(r k i).natAbs≤2 ^ b) (hc:M+1≤2 ^ c) :
  ∃ x:Nat→Int,(∃ i,i<M+1∧x i≠0)∧(∀ i,(x i).natAbs<2 ^ (M*(b+c+2)+1))∧∀ k,k<M→smI (fun i=>x i*r k i) (M+1)=0:=by
 obtain ⟨τ,hτ⟩:∃ τ,τ=M*(b+c+2)+1:=⟨_,rfl⟩
 have hT:0<2 ^ τ:=Nat.pow_pos (by decide)
 obtain ⟨Z,hZ⟩:∃ Z,Z=(M+1)*(2 ^ τ*2 ^ b):=⟨_,rfl⟩
 obtain ⟨L,hL⟩:∃ L:Nat→Nat→Int,∀ n k,L n k=smI (fun i=>(dig (2 ^ τ) n i:Int)*r k i) (M+1):=⟨_,fun _ _=>rfl⟩
 have lb:∀ n k,(L n k).natAbs≤Z:=fun n k=>by
  rw [hL,hZ]
  refine smI_le (fun i=>?_) _
  rw [Int.natAbs_mul]
  exact Nat.mul_le_mul (Nat.le_of_lt (dig_lt hT i n)) (hr k i)
 have zb:2*Z+1≤2 ^ (τ+b+c+2):=by
  have h1:Z≤2 ^ c*(2 ^ τ*2 ^ b):=by rw [hZ]; exact Nat.mul_le_mul_right _ hc
  have h2:2 ^ (τ+b+c+2)=4*(2 ^ c*(2 ^ τ*2 ^ b)):=by
   rw [Nat.pow_add 2 (τ+b+c) 2,Nat.pow_add,Nat.pow_add,Nat.mul_comm (2 ^ c)]; omega
  have h3:0<2 ^ c*(2 ^ τ*2 ^ b):=Nat.mul_pos (Nat.pow_pos (by decide)) (Nat.mul_pos hT (Nat.pow_pos (by decide)))
  exact lin [_,_,_] [] [.nl (.x 0) (.x 1),.ne (.x 2) (.m 4 (.x 1)),.nt (.k 0) (.x 1)] [] (.nl (.a (.m 2 (.x 0)) (.k 1)) (.x 2)) (.l 4 [8,-4,8]) rfl h1 h2 h3
 have kb:(2*Z+1) ^ M<(2 ^ τ) ^ (M+1):=by
  refine Nat.lt_of_le_of_lt (Nat.pow_le_pow_left zb M) ?_
  rw [← Nat.pow_mul,← Nat.pow_mul]
  refine Nat.pow_lt_pow_right (by decide) ?_
  have e:(τ+b+c+2)*M=τ*M+M*(b+c+2):=by
   rw [show τ+b+c+2=τ+(b+c+2) by exact linN [_,_,_] [] [] [] (.a (.a (.a (.x 0) (.x 1)) (.x 2)) (.k 2)) (.a (.x 0) (.a (.a (.x 1) (.x 2)) (.k 2))) (.l 1 []) (.l 1 []) rfl,Nat.add_mul,Nat.mul_comm (b+c+2)]
  rw [Nat.mul_add,Nat.mul_one,e]; exact lin [_,_,_] [] [.ne (.x 0) (.a (.x 1) (.k 1))] [] (.nt (.a (.x 2) (.x 1)) (.a (.x 2) (.x 0))) (.l 1 [-1]) rfl hτ
 have yl:∀ n k,(L n k+(Z:Int)).toNat<2*Z+1:=fun n k=>by have:=lb n k; exact o274 this
 obtain ⟨i,j,hij,hj,e⟩:=pigeon ((2*Z+1) ^ M) (fun n=>enc (2*Z+1) (fun k=>(L n k+(Z:Int)).toNat) M) fun n _=>enc_lt M (yl n)
 have ek:=enc_inj (yl i) (yl j) M e
 refine ⟨fun t=>(dig (2 ^ τ) i t:Int) - (dig (2 ^ τ) j t:Int),?_,fun t=>?_,fun k hk=>?_⟩
 ·refine Classical.byContradiction fun hn=>?_
  have:i=j:=dig_inj hT (M+1) i j (by exact lin [_,_,_,_] [] [.nt (.x 0) (.x 1),.nt (.x 2) (.x 3),.nl (.x 3) (.x 0)] [] (.nt (.x 2) (.x 1)) (.l 1 [1,1,1]) rfl kb hij hj) (by exact lin [_,_,_] [] [.nt (.x 0) (.x 1),.nl (.x 2) (.x 0)] [] (.nt (.x 2) (.x 1)) (.l 1 [1,1]) rfl kb hj) fun t ht=>by
   refine Classical.byContradiction fun hne=>hn ⟨t,ht,fun z=>hne ?_⟩
   have z:(dig (2 ^ τ) i t:Int) - (dig (2 ^ τ) j t:Int)=0:=z
   exact linN [_,_] [] [.ie (.s (.c (.x 0)) (.c (.x 1))) (.k 0)] [] (.x 0) (.x 1) (.l 1 [1]) (.l 1 [-1]) rfl z
  exact lin [_,_] [] [.nt (.x 0) (.x 1),.ne (.x 0) (.x 1)] [] .f (.l 0 [1,-1]) rfl hij this
 ·have h1:=dig_lt hT t i
  have h2:=dig_lt hT t j
  rw [← hτ]
  show ((dig (2 ^ τ) i t:Int) - (dig (2 ^ τ) j t:Int)).natAbs<_
  exact o279 h1 h2
 ·rw [smI_cong (g:=fun t=>(dig (2 ^ τ) i t:Int)*r k t - (dig (2 ^ τ) j t:Int)*r k t) (fun t=>Int.sub_mul _ _ _),smI_sub,← hL,← hL]
  have h1:=ek k hk
  have h2:=lb i k
  have h3:=lb j k
  exact o280 h1 h2 h3
end Mine
namespace Mine
noncomputable def psNat (n:Nat):(Nat→Rat):=fun i=>if i=0 then (n:Rat) else 0
noncomputable def psInt (n:Int):(Nat→Rat):=fun i=>if i=0 then (n:Rat) else 0
noncomputable def psPow (a:(Nat→Rat)):Nat→(Nat→Rat)
 | 0=>psNat 1
 | n+1=>cvn (psPow a n) a
theorem psNat_one:psNat 1=one0:=by
 funext i
 show (if i=0 then ((1:Nat):Rat) else 0)=if i=0 then 1 else 0
 rfl
theorem psNat_zero:psNat 0=fun _=>0:=by
 funext i
 show (if i=0 then ((0:Nat):Rat) else 0)=0
 split <;> rfl
set_option warn.classDefReducibility false in
noncomputable def psRing:Lean.Grind.CommRing (Nat→Rat) where
 add a b:=fun i=>a i+b i
 mul a b:=cvn a b
 natCast:=⟨psNat⟩
 ofNat n:=⟨psNat n⟩
 nsmul:=⟨fun n a=>fun i=>(n:Rat)*a i⟩
 npow:=⟨psPow⟩
 neg a:=fun i=>- a i
 sub a b:=fun i=>a i - b i
 intCast:=⟨psInt⟩
 zsmul:=⟨fun n a=>fun i=>(n:Rat)*a i⟩
 add_zero a:=by
  funext i
  show a i+psNat 0 i=a i
  rw [psNat_zero,Rat.add_zero]
 add_comm a b:=funext fun i=>Rat.add_comm _ _
 add_assoc a b c:=funext fun i=>Rat.add_assoc _ _ _
 mul_assoc a b c:=funext fun i=>cvn_assoc b c i a
 mul_comm a b:=funext fun i=>cvn_comm a b i
 mul_one a:=by
  funext i
  show cvn a (psNat 1) i=a i
  rw [psNat_one,cvn_comm,cvn_one]
 one_mul a:=by
  funext i
  show cvn (psNat 1) a i=a i
  rw [psNat_one,cvn_one]
 right_distrib a b c:=funext fun i=>cvn_add_left a b c i
 mul_zero a:=by
  show cvn a (psNat 0)=psNat 0
  rw [psNat_zero]
  exact funext fun i=>(cvn_comm _ _ i).trans (cvn_none a i)
 left_distrib a b c:=funext fun i=>cvn_add_right a b c i
 zero_mul a:=by
  show cvn (psNat 0) a=psNat 0
  rw [psNat_zero]
  exact funext fun i=>cvn_none a i
 pow_zero a:=rfl
 pow_succ a n:=rfl
 ofNat_succ n:=by
  funext i
  show (if i=0 then ((n+1:Nat):Rat) else 0)=(if i=0 then (n:Rat) else 0)+(if i=0 then ((1:Nat):Rat) else 0)
  by_cases h:i=0
  ·rw [if_pos h,if_pos h,if_pos h,Rat.natCast_add]
  ·rw [if_neg h,if_neg h,if_neg h,Rat.add_zero]
 ofNat_eq_natCast n:=rfl
 nsmul_eq_natCast_mul n a:=by
  funext i
  show (n:Rat)*a i=cvn (psNat n) a i
  rw [show psNat n=fun i=>(n:Rat)*one0 i from ?_,cvn_mul_left,cvn_one]
  funext j
  show (if j=0 then (n:Rat) else 0)=(n:Rat)*(if j=0 then 1 else 0)
  by_cases h:j=0
  ·rw [if_pos h,if_pos h,Rat.mul_one]
  ·rw [if_neg h,if_neg h,Rat.mul_zero]
 neg_add_cancel a:=by
  funext i
  show - a i+a i=psNat 0 i
  rw [psNat_zero]; grind
 sub_eq_add_neg a b:=funext fun i=>Rat.sub_eq_add_neg _ _
 neg_zsmul z a:=by
  funext i
  show ((-z:Int):Rat)*a i=-((z:Rat)*a i)
  rw [Rat.intCast_neg,Rat.neg_mul]
 zsmul_natCast_eq_nsmul n a:=by
  funext i
  show ((n:Int):Rat)*a i=(n:Rat)*a i
  rfl
 intCast_ofNat n:=by
  funext i
  show (if i=0 then ((n:Int):Rat) else 0)=if i=0 then (n:Rat) else 0
  rfl
 intCast_neg z:=by
  funext i
  show (if i=0 then ((-z:Int):Rat) else 0)=-(if i=0 then (z:Rat) else 0)
  by_cases h:i=0
  ·rw [if_pos h,if_pos h,Rat.intCast_neg]
  ·rw [if_neg h,if_neg h,Rat.neg_zero]
end Mine
namespace Mine
noncomputable def Bd (n:Nat) (a:Nat→Rat):Prop:=∀ i,n≤i→a i=0
theorem bd_cf (p:List Rat):Bd p.length (cf p):=fun i hi=>cf_ge hi
theorem Bd.mono {n m:Nat} {a:Nat→Rat} (h:Bd n a) (hm:n≤m):Bd m a:=fun i hi=>h i (Nat.le_trans hm hi)
theorem bd_cvn {a b:Nat→Rat} {n m k:Nat} (ha:Bd n a) (hb:Bd m b) (hk:n+m≤k+1):Bd k (cvn a b):=fun j hj=>cvn_ge ha hb (by exact o265 hk hj)
theorem lead_cvn {a b:Nat→Rat} {n m:Nat} (ha:Bd (n+1) a) (hb:Bd (m+1) b):cvn a b (n+m)=a n*b m:=by
 unfold cvn
 rw [sm_one (a:=n) (by exact o281) (fun i hi=>?_),show n+m - n=m by exact o225]
 by_cases z:i<n
 ·rw [hb _ (by exact o282 z),Rat.mul_zero]
 ·rw [ha _ (by exact o283 hi z),Rat.zero_mul]
theorem bd_deg {a:Nat→Rat}:∀ {n:Nat},Bd n a→(∀ i,a i=0)∨∃ k,k<n∧a k≠0∧Bd (k+1) a
 | 0,h=>.inl fun i=>h i (Nat.zero_le _)
 | n+1,h=>by
  by_cases z:a n=0
  ·have hn:Bd n a:=fun i hi=>by
    rcases Nat.eq_or_lt_of_le hi with e | e
    ·rw [← e]; exact z
    ·exact h i e
   rcases bd_deg hn with k | ⟨k,h1,h2,h3⟩
   ·exact .inl k
   ·exact .inr ⟨k,Nat.lt_succ_of_lt h1,h2,h3⟩
  ·exact .inr ⟨n,Nat.lt_succ_self n,z,h⟩
section
variable {R:Type} [Lean.Grind.CommRing R]
theorem ring_s {s t S T U V E:R} (hE:(S*V - T*U)*E=1):s=E*(s*V - t*U)*S+E*(t*S - s*T)*U:=by grind
theorem ring_t {s t S T U V E:R} (hE:(S*V - T*U)*E=1):t=E*(s*V - t*U)*T+E*(t*S - s*T)*V:=by grind
theorem ring_r {p q s t S T U V E A B:R} (hE:(S*V - T*U)*E=1) (hA:A=S*p+T*q) (hB:B=U*p+V*q):s*p+t*q=E*(s*V - t*U)*A+E*(t*S - s*T)*B:=by grind
end
theorem eu_unique {p q A S T B U V E s t r:Nat→Rat} {k u:Nat} (eA:A=fun j=>cvn S p j+cvn T q j) (eB:B=fun j=>cvn U p j+cvn V q j) (hE:cvn (fun j=>cvn S V j - cvn T U j) E=one0)
  (fT:Fin0 T) (fV:Fin0 V) (fE:Fin0 E) (ft:Fin0 t) (kA:A k≠0) (dA:Bd (k+1) A) (dB:Bd k B) (kU:U u≠0) (dU:Bd (u+1) U) (dS:Bd u S) (ds:Bd (u+1) s) (er:r=fun j=>cvn s p j+cvn t q j) (dr:Bd k r) :
  ∃ c:Rat,(∀ j,s j=c*U j)∧(∀ j,t j=c*V j)∧∀ j,r j=c*B j:=by
 have hE':cvn (fun j=>cvn S V j - cvn T U j) E=psNat 1:=by rw [hE,psNat_one]
 obtain ⟨x,hx⟩:∃ x:Nat→Rat,x=cvn E (fun j=>cvn s V j - cvn t U j):=⟨_,rfl⟩
 obtain ⟨y,hy⟩:∃ y:Nat→Rat,y=cvn E (fun j=>cvn t S j - cvn s T j):=⟨_,rfl⟩
 have e1:s=fun j=>cvn x S j+cvn y U j:=by rw [hx,hy]; exact @ring_s (Nat→Rat) psRing s t S T U V E hE'
 have e2:t=fun j=>cvn x T j+cvn y V j:=by rw [hx,hy]; exact @ring_t (Nat→Rat) psRing s t S T U V E hE'
 have e3:r=fun j=>cvn x A j+cvn y B j:=by rw [hx,hy,er]; exact @ring_r (Nat→Rat) psRing p q s t S T U V E A B hE' eA eB
 have fsub:∀ {a b:Nat→Rat},Fin0 a→Fin0 b→Fin0 (fun j=>a j - b j):=fun {a b} ⟨n,ha⟩ ⟨m,hb⟩=>⟨n+m,fun i hi=>by show a i - b i=0; rw [ha i (by exact o257 hi),hb i (by exact o258 hi)]; exact Rat.sub_self⟩
 have fs:Fin0 s:=⟨_,ds⟩
 have fx:Fin0 x:=by rw [hx]; exact fin_cvn fE (fsub (fin_cvn fs fV) (fin_cvn ft ⟨_,dU⟩))
 have fy:Fin0 y:=by rw [hy]; exact fin_cvn fE (fsub (fin_cvn ft ⟨_,dS⟩) (fin_cvn fs fT))
 obtain ⟨nx,bx⟩:=fx
 obtain ⟨ny,by'⟩:=fy
 have yf:∀ f,y f≠0→Bd (f+1) y→cvn y U (f+u)≠0:=fun f h1 h2=>by
  rw [lead_cvn h2 dU]
  exact fun z=>(Rat.mul_eq_zero.mp z).elim h1 kU
 have x0:∀ i,x i=0:=by
  rcases bd_deg bx with h | ⟨e,_,h1,h2⟩
  ·exact h
  ·exfalso
   have r1:r (e+k)=0:=dr _ (by exact o284)
   rw [e3] at r1
   have r1:cvn x A (e+k)+cvn y B (e+k)=0:=r1
   rw [lead_cvn h2 dA] at r1
   have hne:x e*A k≠0:=fun z=>(Rat.mul_eq_zero.mp z).elim h1 kA
   rcases bd_deg by' with hy0 | ⟨f,_,g1,g2⟩
   ·rw [show y=fun _=>0 from funext hy0,cvn_none,Rat.add_zero] at r1
    exact hne r1
   ·by_cases hfe:f≤e
    ·rw [bd_cvn g2 dB (k:=e+k) (by exact lin [_,_,_] [] [.nl (.x 0) (.x 1)] [] (.nl (.a (.a (.x 0) (.k 1)) (.x 2)) (.a (.a (.x 1) (.x 2)) (.k 1))) (.l 1 [1]) rfl hfe) _ (Nat.le_refl _),Rat.add_zero] at r1
     exact hne r1
    ·have s1:s (f+u)=0:=ds _ (by exact lin [_,_,_] [] [.nt (.x 1) (.x 0)] [] (.nl (.a (.x 2) (.k 1)) (.a (.x 0) (.x 2))) (.l 1 [1]) rfl (Nat.not_le.mp hfe))
     rw [e1] at s1
     have s1:cvn x S (f+u)+cvn y U (f+u)=0:=s1
     rw [bd_cvn h2 dS (k:=f+u) (by exact lin [_,_,_] [] [.nt (.x 1) (.x 0)] [] (.nl (.a (.a (.x 1) (.k 1)) (.x 2)) (.a (.a (.x 0) (.x 2)) (.k 1))) (.l 1 [1]) rfl (Nat.not_le.mp hfe)) _ (Nat.le_refl _),Rat.zero_add] at s1
     exact yf f g1 g2 s1
 have x0':x=fun _=>0:=funext x0
 have y0:∀ j,y j=y 0*one0 j:=by
  rcases bd_deg by' with hy0 | ⟨f,_,g1,g2⟩
  ·intro j; rw [hy0,hy0,Rat.zero_mul]
  ·have hf:f=0:=by
    by_cases z:f=0
    ·exact z
    ·exfalso
     have s1:s (f+u)=0:=ds _ (by exact o288 z)
     rw [e1] at s1
     have s1:cvn x S (f+u)+cvn y U (f+u)=0:=s1
     rw [x0',cvn_none,Rat.zero_add] at s1
     exact yf f g1 g2 s1
   subst hf
   intro j
   by_cases z:j=0
   ·subst z; show _=y 0*1; rw [Rat.mul_one]
   ·rw [g2 j (by exact o289 z),show one0 j=0 from if_neg z,Rat.mul_zero]
 have ym:∀ (a:Nat→Rat) j,cvn y a j=y 0*a j:=fun a j=>by
  rw [cvn_cong y0 (fun _=>rfl),cvn_mul_left,cvn_one]
 refine ⟨y 0,fun j=>?_,fun j=>?_,fun j=>?_⟩
 ·rw [e1]; show cvn x S j+cvn y U j=_; rw [x0',cvn_none,Rat.zero_add,ym]
 ·rw [e2]; show cvn x T j+cvn y V j=_; rw [x0',cvn_none,Rat.zero_add,ym]
 ·rw [e3]; show cvn x A j+cvn y B j=_; rw [x0',cvn_none,Rat.zero_add,ym]
end Mine
namespace Mine
theorem smI_cong' {f g:Nat→Int}:∀ {n:Nat},(∀ i,i<n→f i=g i)→smI f n=smI g n
 | 0,_=>rfl
 | n+1,h=>by
  show smI f n+f n=smI g n+g n
  rw [smI_cong' fun i hi=>h i (by exact o61 hi),h n (by exact o62)]
theorem smI_app (f:Nat→Int) (a:Nat):∀ b,smI f (a+b)=smI f a+smI (fun i=>f (a+i)) b
 | 0=>(Int.add_zero _).symm
 | b+1=>by
  show smI f (a+b)+f (a+b)=smI f a+(smI (fun i=>f (a+i)) b+f (a+b))
  rw [smI_app f a b,Int.add_assoc]
theorem smI_zero {f:Nat→Int} {n:Nat}:∀ {m:Nat},(∀ i,n≤i→f i=0)→smI f (n+m)=smI f n
 | 0,_=>rfl
 | m+1,h=>by
  show smI f (n+m)+f (n+m)=smI f n
  rw [smI_zero h,h _ (by exact o63),Int.add_zero]
noncomputable def cvI (s P:Nat→Int) (j:Nat):Int:=smI (fun i=>s i*P (j - i)) (j+1)
theorem cvI_cast (s P:Nat→Int) (j:Nat):((cvI s P j:Int):Rat)=cvn (fun i=>(s i:Rat)) (fun i=>(P i:Rat)) j:=by
 unfold cvI cvn
 rw [smI_cast]
 exact sm_cong fun i _=>Rat.intCast_mul _ _
theorem cvI_cut {s P:Nat→Int} {a:Nat} (h:∀ i,a≤i→s i=0) (j:Nat):smI (fun i=>s i*(if i≤j then P (j - i) else 0)) a=cvI s P j:=by
 have h1:smI (fun i=>s i*(if i≤j then P (j - i) else 0)) (a+(j+1))=smI (fun i=>s i*(if i≤j then P (j - i) else 0)) a:=smI_zero fun i hi=>by rw [h i hi,Int.zero_mul]
 have h2:smI (fun i=>s i*(if i≤j then P (j - i) else 0)) (j+1+a)=smI (fun i=>s i*(if i≤j then P (j - i) else 0)) (j+1):=smI_zero fun i hi=>by rw [if_neg (by exact o65 hi),Int.mul_zero]
 rw [← h1,Nat.add_comm,h2]
 exact smI_cong' fun i hi=>by rw [if_pos (by exact o66 hi)]
theorem cvI_le {s P:Nat→Int} {a S T c:Nat} (h:∀ i,a≤i→s i=0) (hs:∀ i,(s i).natAbs≤2 ^ S) (hP:∀ i,(P i).natAbs≤2 ^ T) (ha:a≤2 ^ c) (j:Nat):(cvI s P j).natAbs≤2 ^ (S+T+c):=by
 rw [← cvI_cut h]
 have:=smI_le (f:=fun i=>s i*(if i≤j then P (j - i) else 0)) (M:=2 ^ S*2 ^ T) (fun i=>by
  show (s i*(if i≤j then P (j - i) else 0)).natAbs≤_
  rw [Int.natAbs_mul]
  refine Nat.mul_le_mul (hs i) ?_
  split
  ·exact hP _
  ·exact Nat.zero_le _) a
 refine Nat.le_trans this (Nat.le_trans (Nat.mul_le_mul_right _ ha) ?_)
 rw [← Nat.pow_add,← Nat.pow_add]
 exact Nat.pow_le_pow_right (by decide) (by exact lin [_,_,_] [] [] [] (.nl (.a (.x 0) (.a (.x 1) (.x 2))) (.a (.a (.x 1) (.x 2)) (.x 0))) (.l 1 []) rfl)
theorem siegel2 {P Q:Nat→Int} {a b B c:Nat} (k:Nat) (hP:∀ i,b+k≤i→P i=0) (hQ:∀ i,a+k≤i→Q i=0) (ha:0<a) (hb:0<b) (bP:∀ i,(P i).natAbs≤2 ^ B) (bQ:∀ i,(Q i).natAbs≤2 ^ B) (hc:a+b≤2 ^ c) :
  ∃ s t:Nat→Int,(∃ i,s i≠0∨t i≠0)∧(∀ i,a≤i→s i=0)∧(∀ i,b≤i→t i=0)∧(∀ i,(s i).natAbs<2 ^ ((a+b)*(B+c+2)))∧(∀ i,(t i).natAbs<2 ^ ((a+b)*(B+c+2)))∧∀ j,k≤j→cvI s P j+cvI t Q j=0:=by
 obtain ⟨M,hM⟩:∃ M,a+b=M+1:=⟨a+b - 1,by exact o291 ha⟩
 obtain ⟨x,⟨i0,hi0,hx0⟩,hxb,hxe⟩:=siegel M B c (fun l i=>if i<a then (if i≤k+l then P (k+l - i) else 0) else (if i - a≤k+l then Q (k+l - (i - a)) else 0)) (fun l i=>by
  show (if i<a then (if i≤k+l then P (k+l - i) else 0) else (if i - a≤k+l then Q (k+l - (i - a)) else 0)).natAbs≤_
  split
  ·split
   ·exact bP _
   ·exact Nat.zero_le _
  ·split
   ·exact bQ _
   ·exact Nat.zero_le _) (by exact lin [_,_,_,_] [] [.nl (.a (.x 0) (.x 1)) (.x 2),.ne (.a (.x 0) (.x 1)) (.a (.x 3) (.k 1))] [] (.nl (.a (.x 3) (.k 1)) (.x 2)) (.l 1 [1,-1]) rfl hc hM)
 have hp:2 ^ (M*(B+c+2)+1)≤2 ^ ((a+b)*(B+c+2)):=Nat.pow_le_pow_right (by decide) (by rw [hM,Nat.add_mul,Nat.one_mul]; exact lin [_,_,_] [] [] [] (.nl (.a (.x 0) (.k 1)) (.a (.x 0) (.a (.a (.x 1) (.x 2)) (.k 2)))) (.l 1 []) rfl)
 have h0:0<2 ^ ((a+b)*(B+c+2)):=Nat.pow_pos (by decide)
 obtain ⟨s,hs⟩:∃ s:Nat→Int,∀ i,s i=if i<a then x i else 0:=⟨_,fun _=>rfl⟩
 obtain ⟨t,ht⟩:∃ t:Nat→Int,∀ i,t i=if i<b then x (a+i) else 0:=⟨_,fun _=>rfl⟩
 have s0:∀ i,a≤i→s i=0:=fun i hi=>by rw [hs]; exact if_neg (by exact o294 hi)
 have t0:∀ i,b≤i→t i=0:=fun i hi=>by rw [ht]; exact if_neg (by exact o294 hi)
 refine ⟨s,t,?_,s0,t0,fun i=>?_,fun i=>?_,fun j hj=>?_⟩
 ·by_cases z:i0<a
  ·exact ⟨i0,.inl (by rw [hs,if_pos z]; exact hx0)⟩
  ·exact ⟨i0 - a,.inr (by rw [ht,if_pos (by exact o295 hM hi0 z),show a+(i0 - a)=i0 by exact o296 z]; exact hx0)⟩
 ·rw [hs]
  split
  ·exact Nat.lt_of_lt_of_le (hxb i) hp
  ·exact h0
 ·rw [ht]
  split
  ·exact Nat.lt_of_lt_of_le (hxb _) hp
  ·exact h0
 ·obtain ⟨l,rfl⟩:∃ l,j=k+l:=⟨j - k,by exact o297 hj⟩
  by_cases hl:l<M
  ·have e:=hxe l hl
   rw [← hM,smI_app] at e
   rw [← cvI_cut s0,← cvI_cut t0]
   have e1:smI (fun i=>s i*(if i≤k+l then P (k+l - i) else 0)) a=smI (fun i=>x i*(if i<a then (if i≤k+l then P (k+l - i) else 0) else (if i - a≤k+l then Q (k+l - (i - a)) else 0))) a:=smI_cong' fun i hi=>by rw [hs,if_pos hi,if_pos hi]
   have e2:smI (fun i=>t i*(if i≤k+l then Q (k+l - i) else 0)) b=smI (fun i=>x (a+i)*(if a+i<a then (if a+i≤k+l then P (k+l - (a+i)) else 0) else (if a+i - a≤k+l then Q (k+l - (a+i - a)) else 0))) b:=smI_cong' fun i hi=>by rw [ht,if_pos hi,if_neg (show ¬ a+i<a by exact o298),show a+i - a=i by exact o225]
   rw [e1,e2]; exact e
  ·have z1:∀ (u v:Nat→Int) (d e:Nat),(∀ i,d≤i→u i=0)→(∀ i,e+k≤i→v i=0)→d+e≤M+1→cvI u v (k+l)=0:=fun u v d e hu hv hde=>by
    unfold cvI
    have:∀ i,u i*v (k+l - i)=0:=fun i=>by
     by_cases z:i<d
     ·rw [hv _ (by exact o299 hl hde z),Int.mul_zero]
     ·rw [hu _ (by exact o59 z),Int.zero_mul]
    rw [smI_cong this]
    exact smI_zero (n:=0) (m:=k+l+1) (f:=fun _=>0) (fun _ _=>rfl) |> fun h=>by rw [Nat.zero_add] at h; exact h
   rw [z1 s P a b s0 hP (by exact lin [_,_,_] [] [.ne (.a (.x 0) (.x 1)) (.a (.x 2) (.k 1))] [] (.nl (.a (.x 0) (.x 1)) (.a (.x 2) (.k 1))) (.l 1 [1]) rfl hM),z1 t Q b a t0 hQ (by exact lin [_,_,_] [] [.ne (.a (.x 0) (.x 1)) (.a (.x 2) (.k 1))] [] (.nl (.a (.x 1) (.x 0)) (.a (.x 2) (.k 1))) (.l 1 [1]) rfl hM)]; rfl
end Mine
namespace Mine
theorem RC2.put {A b m a:Nat} {W R q:Nat→Rat} {e:Int} {y:Nat→Int} {t:Rat} (h:RC2 A W R) (he:e.natAbs<2 ^ b) (hy:∀ i,(y i).natAbs<2 ^ b) (hq:∀ i,q i*(e:Rat)=(y i:Rat)) (hm:y m≠0) (ht:t*q m=R (a+m)) :
  RC2 (A+(b+1)) (fun i=>if i=a then t else W i) (fun j=>R j+if a≤j then -(t*q (j - a)) else 0):=by
 obtain ⟨d,z,w,h1,h2,h3,h4,h5,h6⟩:=h
 have hp:2 ^ (A+(b+1))=2*2 ^ (A+b):=by rw [← Nat.add_assoc,Nat.pow_succ]; exact o194
 have key:∀ i,t*q i*((d*y m:Int):Rat)=((w (a+m)*y i:Int):Rat):=fun i=>by
  rw [Rat.intCast_mul,Rat.intCast_mul,← h6,← hq i,← hq,← ht]; grind
 refine ⟨d*y m,fun i=>if i=a then w (a+m)*e else z i*y m,fun j=>w j*y m+if a≤j then -(w (a+m)*y (j - a)) else 0,Int.mul_ne_zero h1 hm,?_,fun i=>?_,fun j=>?_,fun i=>?_,fun j=>?_⟩
 ·have:=pow_mul h2 (hy m); rw [hp]; exact o195 this
 ·show (if i=a then w (a+m)*e else z i*y m).natAbs<_
  have m1:=pow_mul (h4 (a+m)) he
  have m2:=pow_mul (h3 i) (hy m)
  rw [hp]
  split <;> omega
 ·show (w j*y m+if a≤j then -(w (a+m)*y (j - a)) else 0).natAbs<_
  have m1:=pow_mul (h4 j) (hy m)
  have m2:=pow_mul (h4 (a+m)) (hy (j - a))
  rw [hp]
  split <;> omega
 ·show (if i=a then t else W i)*_=((if i=a then w (a+m)*e else z i*y m:Int):Rat)
  by_cases z1:i=a
  ·rw [if_pos z1,if_pos z1,Rat.intCast_mul,Rat.intCast_mul,← h6,← hq,← ht]; grind
  ·rw [if_neg z1,if_neg z1,Rat.intCast_mul,Rat.intCast_mul,← h5]; grind
 ·show (R j+if a≤j then -(t*q (j - a)) else 0)*_=((w j*y m+if a≤j then -(w (a+m)*y (j - a)) else 0:Int):Rat)
  by_cases z1:a≤j
  ·rw [if_pos z1,if_pos z1,Rat.intCast_add,Rat.intCast_neg,← key,Rat.intCast_mul,Rat.intCast_mul,← h6]; grind
  ·rw [if_neg z1,if_neg z1,Rat.intCast_add,Rat.intCast_mul,Rat.intCast_mul,← h6]
   rw [show ((0:Int):Rat)=0 from rfl]; grind
theorem cvn_at {W b:Nat→Rat} {a:Nat} {t:Rat} (h0:W a=0) (j:Nat):cvn (fun i=>if i=a then t else W i) b j=cvn W b j+if a≤j then t*b (j - a) else 0:=by
 unfold cvn
 rw [sm_at (f:=fun i=>W i*b (j - i)) (a:=a) (d:=t*b (j - a)) (fun i=>?_)]
 ·by_cases z:a≤j
  ·rw [if_pos z,if_pos (by exact lin [_,_] [] [.nl (.x 0) (.x 1)] [] (.nt (.x 0) (.a (.x 1) (.k 1))) (.l 1 [1]) rfl z)]
  ·rw [if_neg z,if_neg (by exact o303 z)]
 ·show (if i=a then t else W i)*b (j - i)=W i*b (j - i)+if i=a then t*b (j - a) else 0
  by_cases z:i=a
  ·subst z; rw [if_pos rfl,if_pos rfl,h0,Rat.zero_mul,Rat.zero_add]
  ·rw [if_neg z,if_neg z,Rat.add_zero]
theorem div_step {b:Nat→Rat} {B m:Nat} (hb:RC B b) (hb0:b m≠0) (db:Bd (m+1) b):∀ (N A:Nat) (W a:Nat→Rat),RC2 A W a→Bd (m+N) a→(∀ i,i<N→W i=0)→
  ∃ W' R,RC2 (A+N*(B+1)) W' R∧Bd m R∧(∀ j,cvn W' b j+R j=cvn W b j+a j)∧∀ i,N≤i→W' i=W i
 | 0,A,W,a,h,da,hW=>⟨W,a,by rw [Nat.zero_mul]; exact h,da,fun _=>rfl,fun _ _=>rfl⟩
 | N+1,A,W,a,h,da,hW=>by
  obtain ⟨e,y,e0,he,hy,hq⟩:=id hb
  have hm:y m≠0:=fun z=>by
   have:=hq m
   rw [z] at this
   exact (Rat.mul_eq_zero.mp this).elim hb0 (cast_ne e0)
  have ht:a (N+m) / b m*b m=a (N+m):=Rat.div_mul_cancel hb0
  have h':=h.put (a:=N) he hy hq hm ht
  generalize a (N+m) / b m=t at ht h'
  have da':Bd (m+N) (fun j=>a j+if N≤j then -(t*b (j - N)) else 0):=fun j hj=>by
   show a j+(if N≤j then -(t*b (j - N)) else 0)=0
   rw [if_pos (by exact o258 hj)]
   by_cases z:j=N+m
   ·subst z; rw [show N+m - N=m by exact o225,ht]; grind
   ·rw [da j (by exact o304 hj z),db _ (by exact o305 hj z),Rat.mul_zero]; grind
  obtain ⟨W',R,k1,k2,k3,k4⟩:=div_step hb hb0 db N _ _ _ h' da' (fun i hi=>by
   show (if i=N then t else W i)=0
   rw [if_neg (by exact o306 hi)]; exact hW i (by exact o61 hi))
  refine ⟨W',R,?_,k2,fun j=>?_,fun i hi=>?_⟩
  ·rw [show A+(N+1)*(B+1)=A+(B+1)+N*(B+1) by rw [Nat.add_mul,Nat.one_mul]; exact linN [_,_,_] [] [] [] (.a (.x 0) (.a (.x 1) (.a (.x 2) (.k 1)))) (.a (.a (.x 0) (.a (.x 2) (.k 1))) (.x 1)) (.l 1 []) (.l 1 []) rfl]; exact k1
  ·rw [k3 j,cvn_at (hW N (by exact o62))]
   by_cases z:N≤j
   ·rw [if_pos z,if_pos z]; grind
   ·rw [if_neg z,if_neg z]; grind
  ·rw [k4 i (by exact o308 hi),if_neg (by exact o309 hi)]
theorem div_rc {a b:Nat→Rat} {A B m N:Nat} (ha:RC A a) (hb:RC B b) (hb0:b m≠0) (db:Bd (m+1) b) (da:Bd (m+N) a) :
  ∃ W R,(∀ j,a j=cvn W b j+R j)∧Bd m R∧Bd N W∧RC (A+N*(B+1)) W∧RC (A+N*(B+1)) R:=by
 obtain ⟨d,z,h1,h2,h3,h4⟩:=ha
 obtain ⟨W,R,k1,k2,k3,k4⟩:=div_step hb hb0 db N A (fun _=>0) a ⟨d,fun _=>0,z,h1,h2,fun _=>Nat.pow_pos (by decide),h3,fun i=>by rw [Rat.zero_mul]; rfl,h4⟩ da (fun _ _=>rfl)
 exact ⟨W,R,fun j=>by rw [k3 j,cvn_none,Rat.zero_add],k2,fun i hi=>k4 i hi,k1.left,k1.right⟩
theorem div_one {W W' b R R':Nat→Rat} {m:Nat} (hb0:b m≠0) (db:Bd (m+1) b) (fW:Fin0 W) (fW':Fin0 W') (dR:Bd m R) (dR':Bd m R') (h:∀ j,cvn W b j+R j=cvn W' b j+R' j):(∀ i,W i=W' i)∧∀ i,R i=R' i:=by
 obtain ⟨n,hW⟩:=fW
 obtain ⟨n',hW'⟩:=fW'
 have bx:Bd (n+n') (fun i=>W i+(-1)*W' i):=fun i hi=>by show W i+(-1)*W' i=0; rw [hW i (by exact o257 hi),hW' i (by exact o258 hi)]; grind
 have e:∀ j,cvn (fun i=>W i+(-1)*W' i) b j=R' j - R j:=fun j=>by
  have:=h j
  rw [cvn_add_left,cvn_mul_left]; grind
 have w0:∀ i,W i+(-1)*W' i=0:=by
  rcases bd_deg bx with k | ⟨k,_,h1,h2⟩
  ·exact k
  ·exfalso
   have:=e (k+m)
   rw [lead_cvn h2 db,dR _ (by exact o284),dR' _ (by exact o284),Rat.sub_self] at this
   exact (Rat.mul_eq_zero.mp this).elim h1 hb0
 refine ⟨fun i=>by have:=w0 i; grind,fun i=>?_⟩
 have:=e i
 rw [show (fun i=>W i+(-1)*W' i)=fun _=>0 from funext w0,cvn_none] at this
 grind
end Mine
namespace Mine
noncomputable def EuA (p q A S T B U V:Nat→Rat) (n k:Nat):Prop :=
 (A=fun j=>cvn S p j+cvn T q j)∧
 (B=fun j=>cvn U p j+cvn V q j)∧
 (∃ E,Fin0 E∧cvn (fun j=>cvn S V j - cvn T U j) E=one0)∧
 (Fin0 T)∧
 (Fin0 V)∧
 (A k≠0)∧
 (Bd (k+1) A)∧
 (Bd k B)∧
 (k≤n)∧
 (U (n - k)≠0)∧
 (Bd (n - k+1) U)∧
 (Bd (n - k) S)
section
variable {p q A S T B U V:Nat→Rat} {n k:Nat} (h_:EuA p q A S T B U V n k)
include h_
theorem EuA.eA:A=fun j=>cvn S p j+cvn T q j:=h_.1
theorem EuA.eB:B=fun j=>cvn U p j+cvn V q j:=h_.2.1
theorem EuA.det:∃ E,Fin0 E∧cvn (fun j=>cvn S V j - cvn T U j) E=one0:=h_.2.2.1
theorem EuA.fT:Fin0 T:=h_.2.2.2.1
theorem EuA.fV:Fin0 V:=h_.2.2.2.2.1
theorem EuA.kA:A k≠0:=h_.2.2.2.2.2.1
theorem EuA.dA:Bd (k+1) A:=h_.2.2.2.2.2.2.1
theorem EuA.dB:Bd k B:=h_.2.2.2.2.2.2.2.1
theorem EuA.kn:k≤n:=h_.2.2.2.2.2.2.2.2.1
theorem EuA.kU:U (n - k)≠0:=h_.2.2.2.2.2.2.2.2.2.1
theorem EuA.dU:Bd (n - k+1) U:=h_.2.2.2.2.2.2.2.2.2.2.1
theorem EuA.dS:Bd (n - k) S:=h_.2.2.2.2.2.2.2.2.2.2.2
end
theorem EuA.mk' {p q A S T B U V:Nat→Rat} {n k:Nat} (eA:A=fun j=>cvn S p j+cvn T q j) (eB:B=fun j=>cvn U p j+cvn V q j) (det:∃ E,Fin0 E∧cvn (fun j=>cvn S V j - cvn T U j) E=one0) (fT:Fin0 T) (fV:Fin0 V) (kA:A k≠0) (dA:Bd (k+1) A) (dB:Bd k B) (kn:k≤n) (kU:U (n - k)≠0) (dU:Bd (n - k+1) U) (dS:Bd (n - k) S):EuA p q A S T B U V n k:=⟨eA,eB,det,fT,fV,kA,dA,dB,kn,kU,dU,dS⟩
section
variable {R:Type} [Lean.Grind.CommRing R]
theorem ring_eR {p q S T U V W A B R':R} (hA:A=S*p+T*q) (hB:B=U*p+V*q) (h:A=W*B+R'):R'=(S - W*U)*p+(T - W*V)*q:=by grind
theorem ring_det {S T U V W E:R} (h:(S*V - T*U)*E=1):(U*(T - W*V) - V*(S - W*U))*-E=1:=by grind
end
theorem fin_sub {a b:Nat→Rat} (ha:Fin0 a) (hb:Fin0 b):Fin0 (fun j=>a j - b j):=by
 obtain ⟨n,ha⟩:=ha
 obtain ⟨m,hb⟩:=hb
 exact ⟨n+m,fun i hi=>by show a i - b i=0; rw [ha i (by exact o257 hi),hb i (by exact o258 hi),Rat.sub_self]⟩
theorem EuA.step {p q A S T B U V W R:Nat→Rat} {n k k':Nat} (I:EuA p q A S T B U V n k) (h:A=fun j=>cvn W B j+R j) (dW:Bd (k - k'+1) W) (kB:B k'≠0) (dB:Bd (k'+1) B) (dR:Bd k' R) :
  EuA p q B U V R (fun j=>S j - cvn W U j) (fun j=>T j - cvn W V j) n k':=by
 have hk:k'<k:=by
  by_cases z:k'<k
  ·exact z
  ·exact absurd (I.dB k' (by exact o59 z)) kB
 have kn:=I.kn
 obtain ⟨E,fE,hE⟩:=I.det
 have lW:W (k - k')≠0:=fun z=>by
  have e:=congrFun h k
  have e:A k=cvn W B k+R k:=e
  rw [dR k (by exact o310 hk),Rat.add_zero,show k=(k - k')+k' by exact o311 hk,lead_cvn dW dB,z,Rat.zero_mul,show k - k'+k'=k by exact o312 hk] at e
  exact I.kA e
 have fW:Fin0 W:=⟨_,dW⟩
 exact EuA.mk'
  (eA:=I.eB)
  (eB:=@ring_eR (Nat→Rat) psRing p q S T U V W A B R I.eA I.eB h)
  (det:=by
   obtain ⟨m,hm⟩:=fE
   rw [← psNat_one] at hE ⊢
   exact ⟨fun i=>- E i,⟨m,fun i hi=>by show - E i=0; rw [hm i hi,Rat.neg_zero]⟩,@ring_det (Nat→Rat) psRing S T U V W E hE⟩)
  (fT:=I.fV)
  (fV:=fin_sub I.fT (fin_cvn fW I.fV))
  (kA:=kB)
  (dA:=dB)
  (dB:=dR)
  (kn:=by exact o266 hk kn)
  (kU:=by
   show S (n - k') - cvn W U (n - k')≠0
   rw [I.dS _ (by exact o313 hk),show n - k'=(k - k')+(n - k) by exact o314 hk kn,lead_cvn dW I.dU]
   intro z
   have:W (k - k')*U (n - k)=0:=by grind
   exact (Rat.mul_eq_zero.mp this).elim lW I.kU)
  (dU:=fun i hi=>by
   show S i - cvn W U i=0
   rw [I.dS _ (by exact o315 hk hi),bd_cvn dW I.dU (k:=n - k'+1) (by exact o316 hk kn) _ hi,Rat.sub_self])
  (dS:=I.dU.mono (by exact o317 hk kn))
noncomputable def Pm (H:Nat) (l:Rat) (a:Nat→Rat):Prop:=∃ z:Nat→Int,(∀ i,(z i).natAbs<2 ^ H)∧∀ i,a i=l*(z i:Rat)
theorem Pm.rc {H L:Nat} {l:Rat} {a:Nat→Rat} (h:Pm H l a) (hl:RS L l):RC (L+H) a:=by
 obtain ⟨z,h1,h2⟩:=h
 have e:l*((l.den:Int):Rat)=((l.num:Int):Rat):=by
  have h:=Rat.num_divInt_den l
  rw [Rat.divInt_eq_div] at h
  have k:=Rat.div_mul_cancel (a:=((l.num:Int):Rat)) (cast_ne (den_ne l))
  rw [h] at k
  exact k
 refine ⟨l.den,fun i=>l.num*z i,den_ne l,Nat.lt_of_lt_of_le (den_nat hl) (Nat.pow_le_pow_right (by decide) (by exact o63)),fun i=>pow_mul hl.1 (h1 i),fun i=>?_⟩
 rw [h2 i,Rat.intCast_mul,← e]; grind
theorem Pm.mono {H H':Nat} {l:Rat} {a:Nat→Rat} (h:Pm H l a) (hh:H≤H'):Pm H' l a:=by
 obtain ⟨z,h1,h2⟩:=h
 exact ⟨z,fun i=>Nat.lt_of_lt_of_le (h1 i) (Nat.pow_le_pow_right (by decide) hh),h2⟩
theorem Pm.led {H k:Nat} {l:Rat} {a b:Nat→Rat} (ha:Pm H l a) (hb:Pm H l b) (hk:a k≠0):RC H (fun i=>b i*(1 / a k)):=by
 obtain ⟨z,h1,h2⟩:=ha
 obtain ⟨y,k1,k2⟩:=hb
 have hl:l≠0:=fun e=>hk (by rw [h2,e,Rat.zero_mul])
 have hz:z k≠0:=fun e=>hk (by rw [h2,e]; exact Rat.mul_zero l)
 refine ⟨z k,y,hz,h1 k,k1,fun i=>?_⟩
 have e:1 / a k*a k=1:=Rat.div_mul_cancel hk
 have e2:(z k:Rat)*l=a k:=by rw [h2 k,Rat.mul_comm]
 have:b i*(1 / a k)*(z k:Rat)=(1 / a k*((z k:Rat)*l))*(y i:Rat):=by rw [k2 i]; grind
 rw [this,e2,e,Rat.one_mul]
theorem EuA.prim {p q A S T B U V:Nat→Rat} {n k m b c:Nat} (I:EuA p q A S T B U V n k) (hp:RC b p) (hq:RC b q) (dp:Bd (m+1) p) (dq:Bd (n+1) q) (hm:k≤m) (hc:n+m+2≤2 ^ c) :
  ∃ l:Rat,Pm ((n+m+3)*(b+c+2)) l B∧Pm ((n+m+3)*(b+c+2)) l U∧Pm ((n+m+3)*(b+c+2)) l V:=by
 obtain ⟨E,fE,hE⟩:=I.det
 obtain ⟨d,P,d0,db,Pb,eP⟩:=hp
 obtain ⟨e,Q,e0,eb,Qb,eQ⟩:=hq
 have kn:=I.kn
 have z0:∀ {x:Rat} {d z:Int},x=0→x*(d:Rat)=(z:Rat)→z=0:=fun {x d z} hx h=>by
  rw [hx,Rat.zero_mul] at h
  exact Rat.intCast_eq_zero_iff.mp h.symm
 obtain ⟨s,t,hst,s0,t0,sb,tb,hr⟩:=siegel2 (P:=P) (Q:=Q) (a:=n - k+1) (b:=m - k+1) (B:=b) (c:=c) k (fun i hi=>z0 (dp i (by exact o318 hi)) (eP i)) (fun i hi=>z0 (dq i (by exact o318 hi)) (eQ i)) (by exact o319) (by exact o319) (fun i=>Nat.le_of_lt (Pb i)) (fun i=>Nat.le_of_lt (Qb i)) (by exact o320 hc)
 obtain ⟨H0,hH0⟩:∃ H0,(n - k+1+(m - k+1))*(b+c+2)=H0:=⟨_,rfl⟩
 rw [hH0] at sb tb
 have hH:H0+b+c+1≤(n+m+3)*(b+c+2):=by
  have:(n - k+1+(m - k+1))*(b+c+2)≤(n+m+2)*(b+c+2):=Nat.mul_le_mul_right _ (by exact o321)
  rw [show n+m+3=(n+m+2)+1 by exact o322,Nat.add_mul (n+m+2) 1,Nat.one_mul]; exact lin [_,_,_,_,_] [] [.ne (.x 0) (.x 1),.nl (.x 0) (.x 2)] [] (.nl (.a (.a (.a (.x 1) (.x 3)) (.x 4)) (.k 1)) (.a (.x 2) (.a (.a (.x 3) (.x 4)) (.k 2)))) (.l 1 [-1,1]) rfl hH0 this
 have cv1:∀ (s P:Nat→Int) (p:Nat→Rat) (d:Int),(∀ i,p i*(d:Rat)=(P i:Rat))→∀ j,cvn (fun i=>((d*s i:Int):Rat)) p j=((cvI s P j:Int):Rat):=fun s P p d eP j=>by
  rw [cvI_cast]
  refine sm_cong fun i _=>?_
  show ((d*s i:Int):Rat)*p (j - i)=(s i:Rat)*(P (j - i):Rat)
  rw [← eP,Rat.intCast_mul]; grind
 obtain ⟨c',c1,c2,c3⟩:=eu_unique (s:=fun i=>((d*s i:Int):Rat)) (t:=fun i=>((e*t i:Int):Rat)) (r:=fun j=>((cvI s P j+cvI t Q j:Int):Rat)) I.eA I.eB hE I.fT I.fV fE ⟨m - k+1,fun i hi=>by show ((e*t i:Int):Rat)=0; rw [t0 i hi,Int.mul_zero]; rfl⟩ I.kA I.dA I.dB I.kU I.dU I.dS
  (fun i hi=>by show ((d*s i:Int):Rat)=0; rw [s0 i hi,Int.mul_zero]; rfl) (by
   funext j
   show ((cvI s P j+cvI t Q j:Int):Rat)=_
   rw [cv1 s P p d eP,cv1 t Q q e eQ,Rat.intCast_add]) (fun j hj=>by show ((cvI s P j+cvI t Q j:Int):Rat)=0; rw [hr j hj]; rfl)
 have hc0:c'≠0:=fun z=>by
  obtain ⟨i,hi⟩:=hst
  rcases hi with hi | hi
  ·have:=c1 i
   rw [z,Rat.zero_mul] at this
   exact Int.mul_ne_zero d0 hi (Rat.intCast_eq_zero_iff.mp this)
  ·have:=c2 i
   rw [z,Rat.zero_mul] at this
   exact Int.mul_ne_zero e0 hi (Rat.intCast_eq_zero_iff.mp this)
 have back:∀ {x y:Rat},y=c'*x→x=1 / c'*y:=fun {x y} h=>by
  have:1 / c'*c'=1:=Rat.div_mul_cancel hc0
  rw [h,← Rat.mul_assoc,this,Rat.one_mul]
 have up:∀ {z:Int} {g:Nat},z.natAbs<2 ^ g→g≤H0+b+c+1→z.natAbs<2 ^ ((n+m+3)*(b+c+2)):=fun {z g} h hg=>Nat.lt_of_lt_of_le h (Nat.pow_le_pow_right (by decide) (Nat.le_trans hg hH))
 refine ⟨1 / c',⟨fun j=>cvI s P j+cvI t Q j,fun j=>?_,fun j=>back (c3 j)⟩,⟨fun i=>d*s i,fun i=>?_,fun i=>back (c1 i)⟩,⟨fun i=>e*t i,fun i=>?_,fun i=>back (c2 i)⟩⟩
 ·have h1:=cvI_le s0 (fun i=>Nat.le_of_lt (sb i)) (fun i=>Nat.le_of_lt (Pb i)) (show n - k+1≤2 ^ c by exact o324 hc) j
  have h2:=cvI_le t0 (fun i=>Nat.le_of_lt (tb i)) (fun i=>Nat.le_of_lt (Qb i)) (show m - k+1≤2 ^ c by exact o325 hc) j
  have h3:=Int.natAbs_add_le (cvI s P j) (cvI t Q j)
  have h4:2 ^ (H0+b+c)+2 ^ (H0+b+c)=2 ^ (H0+b+c+1):=by rw [Nat.pow_succ]; exact linN [_] [] [] [] (.a (.x 0) (.x 0)) (.r (.x 0) 2) (.l 1 []) (.l 1 []) rfl
  have h5:2 ^ (H0+b+c+1)<2 ^ ((n+m+3)*(b+c+2)):=Nat.pow_lt_pow_right (by decide) (by
   have:(n - k+1+(m - k+1))*(b+c+2)≤(n+m+2)*(b+c+2):=Nat.mul_le_mul_right _ (by exact o321)
   rw [show n+m+3=(n+m+2)+1 by exact o322,Nat.add_mul (n+m+2) 1,Nat.one_mul]; exact lin [_,_,_,_,_] [] [.ne (.x 0) (.x 1),.nl (.x 0) (.x 2)] [] (.nt (.a (.a (.a (.x 1) (.x 3)) (.x 4)) (.k 1)) (.a (.x 2) (.a (.a (.x 3) (.x 4)) (.k 2)))) (.l 1 [-1,1]) rfl hH0 this)
  show (cvI s P j+cvI t Q j).natAbs<_
  omega
 ·exact up (pow_mul db (sb i)) (by exact o329)
 ·exact up (pow_mul eb (tb i)) (by exact o329)
theorem Pm.next {H L N m:Nat} {A B W R:Nat→Rat} {lA lB l:Rat} (hA:Pm H lA A) (hB:Pm H lB B) (hR:Pm H l R) (sA:RS L lA) (kB:B m≠0) (dB:Bd (m+1) B) (dA:Bd (m+N) A) (h:∀ j,A j=cvn W B j+R j) (fW:Fin0 W) (dR:Bd m R) {j0:Nat} (hj:R j0≠0):RS (L+(H+1+N*(H+2))+H) l:=by
 obtain ⟨zA,a1,a2⟩:=hA
 obtain ⟨zB,b1,b2⟩:=hB
 obtain ⟨z,c1,c2⟩:=hR
 have rcz:∀ z:Nat→Int,(∀ i,(z i).natAbs<2 ^ H)→RC (H+1) (fun i=>(z i:Rat)):=fun z hz=>⟨1,z,by decide,by
  show 1<2 ^ (H+1)
  have:0<2 ^ H:=Nat.pow_pos (by decide)
  rw [Nat.pow_succ]; exact lin [_] [] [.nt (.k 0) (.x 0)] [] (.nt (.k 1) (.r (.x 0) 2)) (.l 1 [2]) rfl this,fun i=>Nat.lt_of_lt_of_le (hz i) (Nat.pow_le_pow_right (by decide) (by exact lin [_] [] [] [] (.nl (.x 0) (.a (.x 0) (.k 1))) (.l 1 []) rfl)),fun i=>Rat.mul_one _⟩
 have lB0:lB≠0:=fun e=>kB (by rw [b2,e,Rat.zero_mul])
 have zm:zB m≠0:=fun e=>kB (by rw [b2,e]; exact Rat.mul_zero lB)
 by_cases lA0:lA=0
 ·exfalso
  have A0:∀ j,A j=0:=fun j=>by rw [a2,lA0,Rat.zero_mul]
  have:=(div_one kB dB fW ⟨0,fun _ _=>rfl⟩ dR (fun _ _=>rfl) (W':=fun _=>0) (R':=fun _=>0) fun j=>by rw [← h j,A0,cvn_none,Rat.zero_add]).2 j0
  exact hj this
 have sc0:∀ {l:Rat} {z:Int},l≠0→l*(z:Rat)=0→(z:Rat)=0:=fun {l z} h1 h2=>(Rat.mul_eq_zero.mp h2).resolve_left h1
 obtain ⟨W',R',e1,e2,e3,e4,e5⟩:=div_rc (rcz zA a1) (rcz zB b1) (m:=m) (N:=N) (fun e=>zm (Rat.intCast_eq_zero_iff.mp e)) (fun i hi=>sc0 lB0 (by rw [← b2]; exact dB i hi)) (fun i hi=>sc0 lA0 (by rw [← a2]; exact dA i hi))
 have hR':=(div_one kB dB (W:=W) (W':=fun i=>lA*(1 / lB)*W' i) (R:=R) (R':=fun i=>lA*R' i) fW ⟨N,fun i hi=>by show lA*(1 / lB)*W' i=0; rw [e3 i hi,Rat.mul_zero]⟩ dR (fun i hi=>by show lA*R' i=0; rw [e2 i hi,Rat.mul_zero]) fun j=>by
  rw [← h j,a2 j,e1 j,cvn_mul_left,cvn_cong (fun _=>rfl) b2,cvn_mul_right]
  have:1 / lB*lB=1:=Rat.div_mul_cancel lB0
  have e:lA*(1 / lB)*(lB*cvn W' (fun i=>(zB i:Rat)) j)=lA*((1 / lB*lB)*cvn W' (fun i=>(zB i:Rat)) j):=by grind
  rw [e,this,Rat.one_mul]; grind).2
 have hz:z j0≠0:=fun e=>hj (by rw [c2,e]; exact Rat.mul_zero l)
 have hz':(z j0:Rat)≠0:=cast_ne hz
 have el:l=lA*R' j0 / (z j0:Rat):=by
  have:l*(z j0:Rat)=lA*R' j0:=by rw [← c2,hR' j0]
  rw [← this,Rat.mul_div_cancel hz']
 rw [el]
 have rz:RS (H+1) ((z j0:Int):Rat):=RC.rs (rcz z c1) j0
 have r1:=rs_mulR sA (e5.rs j0)
 refine (rs_divR r1 ?_ hz').mono (Nat.le_refl _)
 exact ⟨by have:=c1 j0; simpa using this,by
  have:=c1 j0
  have h0:1≤(z j0).natAbs:=by exact o332 hz
  show 1<_
  exact o333 this h0⟩
end Mine
namespace Mine
theorem EuA.first {p q W R:Nat→Rat} {n:Nat} (h:p=fun j=>cvn W q j+R j) (fW:Fin0 W) (kq:q n≠0) (dq:Bd (n+1) q) (dR:Bd n R):EuA p q q (fun _=>0) one0 R one0 (fun j=>- W j) n n:=by
 have b1:Bd 1 one0:=fun i hi=>if_neg (by exact o261 hi)
 exact EuA.mk'
  (eA:=by funext j; rw [cvn_none,cvn_one,Rat.zero_add])
  (eB:=by
   funext j
   rw [cvn_one,cvn_cong (a':=fun j=>(-1)*W j) (fun i=>by grind) (fun _=>rfl),cvn_mul_left,h]; grind)
  (det:=by
   refine ⟨fun j=>- one0 j,⟨1,fun i hi=>by show - one0 i=0; rw [b1 i hi,Rat.neg_zero]⟩,?_⟩
   have e:(fun j=>cvn (fun _=>0) (fun j=>- W j) j - cvn one0 one0 j)=fun j=>(-1)*one0 j:=by funext j; rw [cvn_none,cvn_one]; grind
   rw [e]
   funext j
   rw [cvn_mul_left,cvn_one]; grind)
  (fT:=⟨1,b1⟩)
  (fV:=by obtain ⟨m,hm⟩:=fW; exact ⟨m,fun i hi=>by show - W i=0; rw [hm i hi,Rat.neg_zero]⟩)
  (kA:=kq)
  (dA:=dq)
  (dB:=dR)
  (kn:=Nat.le_refl _)
  (kU:=by rw [Nat.sub_self]; decide)
  (dU:=by rw [Nat.sub_self]; exact b1)
  (dS:=fun _ _=>rfl)
theorem Pm.size {H c:Nat} {l:Rat} {a:Nat→Rat} (h:Pm H l a) (hc:RC c a) {j:Nat} (hj:a j≠0):RS (c+H) l:=by
 obtain ⟨z,h1,h2⟩:=h
 have hz:z j≠0:=fun e=>hj (by rw [h2,e]; exact Rat.mul_zero l)
 have el:l=a j / (z j:Rat):=by rw [h2 j,Rat.mul_div_cancel (cast_ne hz)]
 rw [el]
 refine rs_divR (hc.rs j) ⟨by have:=h1 j; simpa using this,?_⟩ (cast_ne hz)
 have:=h1 j
 show 1<_
 exact o334 hz this
theorem Pm.of_rc {b:Nat} {a:Nat→Rat} (h:RC b a):∃ l,RS (b+1) l∧Pm b l a∧Pm b l one0∧Pm b l (fun _=>0):=by
 obtain ⟨d,z,h1,h2,h3,h4⟩:=h
 have hd:(d:Rat)≠0:=cast_ne h1
 have e1:1 / (d:Rat)*(d:Rat)=1:=Rat.div_mul_cancel hd
 have h0:0<2 ^ b:=Nat.pow_pos (by decide)
 refine ⟨1 / (d:Rat),?_,⟨z,h3,fun i=>?_⟩,⟨fun i=>if i=0 then d else 0,fun i=>?_,fun i=>?_⟩,⟨fun _=>0,fun _=>h0,fun _=>(Rat.mul_zero _).symm⟩⟩
 ·have r1:RS 1 (1:Rat):=rs_one
  have:=rs_divR r1 (l:=b) (y:=(d:Rat)) ⟨by simpa using h2,by show 1<_; exact o334 h1 h2⟩ hd
  rw [Nat.add_comm] at this; exact this
 ·rw [← h4 i]
  have:1 / (d:Rat)*(a i*(d:Rat))=a i*(1 / (d:Rat)*(d:Rat)):=by grind
  rw [this,e1,Rat.mul_one]
 ·show (if i=0 then d else 0).natAbs<_
  split
  ·exact h2
  ·exact h0
 ·show (if i=0 then (1:Rat) else 0)=1 / (d:Rat)*((if i=0 then d else 0:Int):Rat)
  by_cases z:i=0
  ·rw [if_pos z,if_pos z,e1]
  ·rw [if_neg z,if_neg z]; exact (Rat.mul_zero _).symm
theorem cf_one (i:Nat):cf [1] i=one0 i:=by
 match i with
 | 0=>rfl
 | i+1=>rw [cf_ge (by show 1≤i+1; exact o263)]; exact (if_neg (by exact o262)).symm
noncomputable def hB (b:Nat):Nat:=33*(b+7)
noncomputable def lam (b d:Nat):Nat:=(4*d+40)*(hB b+2)
noncomputable def shX (b:Nat):Nat:=98*(hB b+2)
theorem EuA.rows {p q:List Rat} {A S T B U V:Nat→Rat} {k b:Nat} (I:EuA (cf p) (cf q) A S T B U V (q.length - 1) k) (hp:RC b (cf p)) (hq:RC b (cf q)) (lp:p.length≤15) (lq:q.length≤15) (q0:q≠[]) (hk:k<p.length):∃ l,Pm (hB b) l B∧Pm (hB b) l U∧Pm (hB b) l V:=by
 have hl:1≤q.length:=List.length_pos_iff.mpr q0
 obtain ⟨l,h1,h2,h3⟩:=I.prim (m:=p.length - 1) (c:=5) hp hq (fun i hi=>cf_ge (by exact o335 hi)) (fun i hi=>cf_ge (by exact o335 hi)) (by exact o336 hk) (by exact o337 lp lq)
 have hm:(q.length - 1+(p.length - 1)+3)*(b+5+2)≤hB b:=Nat.mul_le_mul (by exact o338 lp lq) (by exact lin [_] [] [] [] (.nl (.a (.a (.x 0) (.k 5)) (.k 2)) (.a (.x 0) (.k 7))) (.l 1 []) rfl)
 exact ⟨l,h1.mono hm,h2.mono hm,h3.mono hm⟩
noncomputable def ShJ (p q A S T B U V:List Rat) (b:Nat):Prop :=
 (RC b (cf p))∧
 (RC b (cf q))∧
 (p.length≤15)∧
 (q.length≤15)∧
 (Rw A)∧
 (Rw S)∧
 (Rw T)∧
 (Rw B)∧
 (Rw U)∧
 (Rw V)∧
 (A.length≤15)∧
 (B.length≤15)∧
 (S.length+max A.length B.length≤16)∧
 (T.length+max A.length B.length≤16)∧
 (U.length+max A.length B.length≤16)∧
 (V.length+max A.length B.length≤16)∧
 (∀ j,cf A j=cvn (cf S) (cf p) j+cvn (cf T) (cf q) j)∧
 (∀ j,cf B j=cvn (cf U) (cf p) j+cvn (cf V) (cf q) j)∧
 (∀ g:List Rat,Dv g (cf A)→Dv g (cf B)→Dv g (cf p)∧Dv g (cf q))∧
 ((A=p∧S=[1]∧T=[]∧B=q∧U=[]∧V=[1])∨
  (q≠[]∧A≠[]∧B.length<A.length∧B.length≤p.length∧A.length≤q.length∧EuA (cf p) (cf q) (cf A) (cf S) (cf T) (cf B) (cf U) (cf V) (q.length - 1) (A.length - 1)∧
   (∃ l,RS (lam b (q.length - A.length)) l∧Pm (hB b) l (cf A)∧Pm (hB b) l (cf S)∧Pm (hB b) l (cf T))∧
   (B=[]∨∃ l,RS (lam b (q.length - A.length)) l∧Pm (hB b) l (cf B)∧Pm (hB b) l (cf U)∧Pm (hB b) l (cf V))))
section
variable {p q A S T B U V:List Rat} {b:Nat} (h_:ShJ p q A S T B U V b)
include h_
theorem ShJ.cp:RC b (cf p):=h_.1
theorem ShJ.cq:RC b (cf q):=h_.2.1
theorem ShJ.lp:p.length≤15:=h_.2.2.1
theorem ShJ.lq:q.length≤15:=h_.2.2.2.1
theorem ShJ.wA:Rw A:=h_.2.2.2.2.1
theorem ShJ.wS:Rw S:=h_.2.2.2.2.2.1
theorem ShJ.wT:Rw T:=h_.2.2.2.2.2.2.1
theorem ShJ.wB:Rw B:=h_.2.2.2.2.2.2.2.1
theorem ShJ.wU:Rw U:=h_.2.2.2.2.2.2.2.2.1
theorem ShJ.wV:Rw V:=h_.2.2.2.2.2.2.2.2.2.1
theorem ShJ.lA:A.length≤15:=h_.2.2.2.2.2.2.2.2.2.2.1
theorem ShJ.lB:B.length≤15:=h_.2.2.2.2.2.2.2.2.2.2.2.1
theorem ShJ.lS:S.length+max A.length B.length≤16:=h_.2.2.2.2.2.2.2.2.2.2.2.2.1
theorem ShJ.lT:T.length+max A.length B.length≤16:=h_.2.2.2.2.2.2.2.2.2.2.2.2.2.1
theorem ShJ.lU:U.length+max A.length B.length≤16:=h_.2.2.2.2.2.2.2.2.2.2.2.2.2.2.1
theorem ShJ.lV:V.length+max A.length B.length≤16:=h_.2.2.2.2.2.2.2.2.2.2.2.2.2.2.2.1
theorem ShJ.eA:∀ j,cf A j=cvn (cf S) (cf p) j+cvn (cf T) (cf q) j:=h_.2.2.2.2.2.2.2.2.2.2.2.2.2.2.2.2.1
theorem ShJ.eB:∀ j,cf B j=cvn (cf U) (cf p) j+cvn (cf V) (cf q) j:=h_.2.2.2.2.2.2.2.2.2.2.2.2.2.2.2.2.2.1
theorem ShJ.dv:∀ g:List Rat,Dv g (cf A)→Dv g (cf B)→Dv g (cf p)∧Dv g (cf q):=h_.2.2.2.2.2.2.2.2.2.2.2.2.2.2.2.2.2.2.1
theorem ShJ.ph:(A=p∧S=[1]∧T=[]∧B=q∧U=[]∧V=[1])∨
  (q≠[]∧A≠[]∧B.length<A.length∧B.length≤p.length∧A.length≤q.length∧EuA (cf p) (cf q) (cf A) (cf S) (cf T) (cf B) (cf U) (cf V) (q.length - 1) (A.length - 1)∧
   (∃ l,RS (lam b (q.length - A.length)) l∧Pm (hB b) l (cf A)∧Pm (hB b) l (cf S)∧Pm (hB b) l (cf T))∧
   (B=[]∨∃ l,RS (lam b (q.length - A.length)) l∧Pm (hB b) l (cf B)∧Pm (hB b) l (cf U)∧Pm (hB b) l (cf V))):=h_.2.2.2.2.2.2.2.2.2.2.2.2.2.2.2.2.2.2.2
end
theorem ShJ.start {p q:List Rat} {b:Nat} (hp:Rw p) (hq:Rw q) (kp:RC b (cf p)) (kq:RC b (cf q)) (lp:p.length≤15) (lq:q.length≤15):ShJ p q p [1] [] q [] [1] b:=by
 have c1:∀ (a:Nat→Rat) j,cvn (cf [1]) a j=a j:=fun a j=>by rw [cvn_cong cf_one (fun _=>rfl),cvn_one]
 have c0:∀ (a:Nat→Rat) j,cvn (cf []) a j=0:=fun a j=>cvn_none a j
 have w1:Rw [1]:=.inr (by show (1:Rat)≠0; decide)
 refine ⟨kp,kq,lp,lq,hp,w1,.inl rfl,hq,.inl rfl,w1,lp,lq,?_,?_,?_,?_,fun j=>by rw [c1,c0,Rat.add_zero],fun j=>by rw [c1,c0,Rat.zero_add],fun g h1 h2=>⟨h1,h2⟩,.inl ⟨rfl,rfl,rfl,rfl,rfl,rfl⟩⟩
 ·show 1+_≤16; exact o340 lp lq
 ·show 0+_≤16; exact o341 lp lq
 ·show 0+_≤16; exact o341 lp lq
 ·show 1+_≤16; exact o340 lp lq
theorem lam_le {b d:Nat} (h:d≤14):lam b d+hB b≤shX b:=by
 have h1:lam b d≤96*(hB b+2):=Nat.mul_le_mul_right _ (by exact lin [_] [] [.nl (.x 0) (.k 14)] [] (.nl (.a (.m 4 (.x 0)) (.k 40)) (.k 96)) (.l 1 [4]) rfl h)
 show _≤98*(hB b+2)
 exact lin [_,_] [] [.nl (.x 0) (.m 96 (.a (.x 1) (.k 2)))] [] (.nl (.a (.x 0) (.x 1)) (.m 98 (.a (.x 1) (.k 2)))) (.l 96 [97]) rfl h1
theorem rc_pos {b:Nat} {a:Nat→Rat} (h:RC b a):1≤b:=by
 obtain ⟨d,z,h1,h2,h3,h4⟩:=h
 by_cases z:b=0
 ·subst z; rw [Nat.pow_zero] at h2; exact o344 h1 h2
 ·exact o345 z
theorem ShJ.rc {p q A S T B U V:List Rat} {b:Nat} (I:ShJ p q A S T B U V b):RC (shX b) (cf A)∧RC (shX b) (cf S)∧RC (shX b) (cf T)∧(B≠[]→RC (shX b) (cf B)∧RC (shX b) (cf U)∧RC (shX b) (cf V)):=by
 have hb:=rc_pos I.cp
 have hX:b≤shX b:=by show b≤98*(33*(b+7)+2); exact lin [_] [] [] [] (.nl (.x 0) (.m 98 (.a (.m 33 (.a (.x 0) (.k 7))) (.k 2)))) (.l 1 []) rfl
 have n1:RC 1 (cf []):=RC.none (by exact o347)
 rcases I.ph with ⟨rfl,rfl,rfl,rfl,rfl,rfl⟩ | ⟨q0,A0,h1,h2,h3,E,⟨l,sl,kA,kS,kT⟩,hB⟩
 ·exact ⟨I.cp.mono hX,rc_one.mono (by exact o348 hb hX),n1.mono (by exact o348 hb hX),fun _=>⟨I.cq.mono hX,n1.mono (by exact o348 hb hX),rc_one.mono (by exact o348 hb hX)⟩⟩
 ·have hA1:1≤A.length:=List.length_pos_iff.mpr A0
  have hl:=lam_le (b:=b) (d:=q.length - A.length) (by have:=I.lq; exact o349 hA1 this)
  refine ⟨(kA.rc sl).mono hl,(kS.rc sl).mono hl,(kT.rc sl).mono hl,fun hBn=>?_⟩
  obtain ⟨l',sl',k1,k2,k3⟩:=hB.resolve_left hBn
  exact ⟨(k1.rc sl').mono hl,(k2.rc sl').mono hl,(k3.rc sl').mono hl⟩
end Mine
namespace Mine
theorem ShJ.step {p q A S T B U V W R F H:List Rat} {b x:Nat} (I:ShJ p q A S T B U V b) (hBn:B≠[]) (hD:IsDivC x x A B W R) (hF:Rw F) (hH:Rw H) (eF:∀ i,cf F i=cf S i - cvn (cf (trimL W)) (cf U) i) (eH:∀ i,cf H i=cf T i - cvn (cf (trimL W)) (cf V) i) :
  ShJ p q B U V (trimL R) F H b∧(trimL R).length<B.length:=by
 obtain ⟨hE,hR0,kW,kR,lW⟩:=hD
 have hB1:1≤B.length:=List.length_pos_iff.mpr hBn
 have hB0:cf B (B.length - 1)≠0:=I.wB.resolve_left hBn
 have lw:=trim_len W
 have lr:(trimL R).length≤B.length - 1:=rw_len' (rw_trim R) fun j hj=>by rw [cf_trim]; exact hR0 j hj
 have hE':∀ j,cf A j=cvn (cf (trimL W)) (cf B) j+cf (trimL R) j:=fun j=>by
  rw [cf_trim,hE j,cv_cvn,cvn_cong (fun i=>(cf_trim W i)) (fun _=>rfl)]
 have lS:=I.lS
 have lT:=I.lT
 have lU:=I.lU
 have lV:=I.lV
 have lA:=I.lA
 have lB:=I.lB
 have lp:=I.lp
 have lq:=I.lq
 have lF:F.length≤16 - B.length:=less_len (m:=0) hF eF (by exact o350 lS) (by exact o351 lW lw lU)
 have lH:H.length≤16 - B.length:=less_len (m:=0) hH eH (by exact o350 lT) (by exact o351 lW lw lV)
 have dR:Bd (B.length - 1) (cf (trimL R)):=fun i hi=>by rw [cf_trim]; exact hR0 i hi
 have dB:Bd (B.length - 1+1) (cf B):=fun i hi=>cf_ge (by exact o335 hi)
 have dWl:Bd (A.length - B.length+1) (cf (trimL W))∨A.length<B.length:=by
  by_cases z:A.length<B.length
  ·exact .inr z
  ·exact .inl fun i hi=>cf_ge (by exact o352 lW lw hi)
 have hbH:b+1≤hB b:=by show b+1≤33*(b+7); exact lin [_] [] [] [] (.nl (.a (.x 0) (.k 1)) (.m 33 (.a (.x 0) (.k 7)))) (.l 1 []) rfl
 refine ⟨⟨I.cp,I.cq,lp,lq,I.wB,I.wU,I.wV,rw_trim R,hF,hH,lB,by exact o354 lr lB,by exact o355 lr lU,by exact o355 lr lV,by exact o356 lr lB lF,by exact o356 lr lB lH,I.eB,less_eq I.eA I.eB hE' eF eH,fun g h1 h2=>I.dv g (dv_step hE' h1 h2) h1,.inr ?_⟩,by exact o357 hB1 lr⟩
 rcases I.ph with ⟨rfl,rfl,rfl,rfl,rfl,rfl⟩ | ⟨q0,A0,h1,h2,h3,E,⟨l,sl,kA,kS,kT⟩,hBl⟩
 ·have fW:Fin0 (cf (trimL W)):=fin_cf _
  have E:=EuA.first (p:=cf A) (q:=cf B) (W:=cf (trimL W)) (R:=cf (trimL R)) (n:=B.length - 1) (funext hE') fW hB0 dB dR
  have c0:∀ i,cf ([]:List Rat) i=0:=fun i=>rfl
  have e1:cf F=one0:=funext fun i=>by
   rw [eF i,cf_one,cvn_comm,show cf ([]:List Rat)=fun _=>0 from funext c0,cvn_none]; grind
  have e2:cf H=fun j=>- cf (trimL W) j:=funext fun i=>by
   rw [eH i,c0,cvn_comm,cvn_cong cf_one (fun _=>rfl),cvn_one]; grind
  have e3:cf ([1]:List Rat)=one0:=funext cf_one
  have e4:cf ([]:List Rat)=fun _=>0:=funext c0
  have hl0:hB b+1≤lam b (B.length - B.length):=by
   show hB b+1≤(4*(B.length - B.length)+40)*(hB b+2)
   rw [Nat.sub_self]; omega
  refine ⟨hBn,hBn,by exact o357 hB1 lr,?_,Nat.le_refl _,?_,?_,?_⟩
  ·by_cases z:A.length<B.length
   ·have:=rw_len' (n:=A.length) (rw_trim R) (fun j hj=>by
     have h5:=hE' j
     rw [cf_ge hj,show trimL W=[] from List.eq_nil_of_length_eq_zero (by exact o359 lW lw z),e4,cvn_none,Rat.zero_add] at h5
     exact h5.symm)
    exact this
   ·exact o360 lr z
  ·rw [e1,e2,e3,e4]; exact E
  ·obtain ⟨l,sl,k1,k2,k3⟩:=Pm.of_rc I.cq
   rw [e3,e4]
   exact ⟨l,sl.mono (by exact o361 hbH hl0),k1.mono (by exact o308 hbH),k3.mono (by exact o308 hbH),k2.mono (by exact o308 hbH)⟩
  ·by_cases hr:trimL R=[]
   ·exact .inl hr
   ·refine .inr ?_
    rw [e1,e2]
    by_cases z:A.length<B.length
    ·have ew:cf (trimL W)=fun _=>0:=by rw [show trimL W=[] from List.eq_nil_of_length_eq_zero (by exact o359 lW lw z)]; exact e4
     obtain ⟨l,sl,k1,k2,k3⟩:=Pm.of_rc I.cp
     have er:cf (trimL R)=cf A:=funext fun j=>by rw [hE' j,ew,cvn_none,Rat.zero_add]
     have e0:(fun j=>- cf (trimL W) j)=fun _=>0:=by rw [ew]; funext j; exact Rat.neg_zero
     rw [er,e0]
     exact ⟨l,sl.mono (by exact o361 hbH hl0),k1.mono (by exact o308 hbH),k2.mono (by exact o308 hbH),k3.mono (by exact o308 hbH)⟩
    ·obtain ⟨l,k1,k2,k3⟩:=E.rows I.cp I.cq lp lq hBn (by exact o362 hB1 z)
     obtain ⟨W',R',g1,g2,g3,g4,g5⟩:=div_rc I.cp I.cq (m:=B.length - 1) (N:=A.length+1 - B.length) hB0 dB (fun i hi=>cf_ge (by exact o363 hi))
     have er:=(div_one hB0 dB fW ⟨_,g3⟩ dR g2 fun j=>by rw [← hE' j,g1 j]).2
     refine ⟨l,(k1.size (g5.cong er) ((rw_trim R).resolve_left hr)).mono ?_,k1,k2,k3⟩
     have h5:(A.length+1 - B.length)*(b+1)≤15*(b+1):=Nat.mul_le_mul_right _ (by exact o364 hB1 lA)
     have h6:hB b=33*(b+7):=rfl
     have h7:lam b (B.length - B.length)=40*(hB b+2):=by rw [Nat.sub_self]; rfl
     exact lin [_,_,_,_] [] [.nl (.x 0) (.m 15 (.a (.x 1) (.k 1))),.ne (.x 2) (.m 33 (.a (.x 1) (.k 7))),.ne (.x 3) (.m 40 (.a (.x 2) (.k 2)))] [] (.nl (.a (.a (.x 1) (.x 0)) (.x 2)) (.x 3)) (.l 33 [33,-16,-33]) rfl h5 h6 h7
 ·have hA1:1≤A.length:=List.length_pos_iff.mpr A0
  obtain ⟨l',sl',k1,k2,k3⟩:=hBl.resolve_left hBn
  have dW:Bd (A.length - 1 - (B.length - 1)+1) (cf (trimL W)):=(dWl.resolve_right (by exact o366 h1)).mono (by exact o367 hB1)
  have E':=E.step (W:=cf (trimL W)) (R:=cf (trimL R)) (k':=B.length - 1) (funext hE') dW hB0 dB dR
  have e1:cf F=fun j=>cf S j - cvn (cf (trimL W)) (cf U) j:=funext eF
  have e2:cf H=fun j=>cf T j - cvn (cf (trimL W)) (cf V) j:=funext eH
  have hm:lam b (q.length - A.length)≤lam b (q.length - B.length):=Nat.mul_le_mul_right _ (by exact o368 h1)
  refine ⟨q0,hBn,by exact o357 hB1 lr,by exact o369 lr h2,by exact o266 h1 h3,?_,⟨l',sl'.mono hm,k1,k2,k3⟩,?_⟩
  ·rw [e1,e2]; exact E'
  ·by_cases hr:trimL R=[]
   ·exact .inl hr
   ·obtain ⟨l2,j1,j2,j3⟩:=E'.rows I.cp I.cq lp lq q0 (by exact o370 hB1 h2)
    rw [e1,e2]
    refine .inr ⟨l2,(Pm.next kA k1 j1 sl hB0 dB (N:=A.length - B.length+1) (fun i hi=>cf_ge (by exact o371 hi)) hE' (fin_cf _) dR ((rw_trim R).resolve_left hr)).mono ?_,j1,j2,j3⟩
    show (4*(q.length - A.length)+40)*(hB b+2)+(hB b+1+(A.length - B.length+1)*(hB b+2))+hB b≤(4*(q.length - B.length)+40)*(hB b+2)
    obtain ⟨y,hy⟩:∃ y,y=hB b+2:=⟨_,rfl⟩
    have h8:(4*(q.length - A.length)+40)*y+(A.length - B.length+1)*y+2*y≤(4*(q.length - B.length)+40)*y:=by
     rw [← Nat.add_mul,← Nat.add_mul]
     exact Nat.mul_le_mul_right _ (by exact o372 h1 h3)
    rw [← hy]
    exact lin [_,_,_,_,_] [] [.ne (.x 0) (.a (.x 1) (.k 2)),.nl (.a (.a (.x 2) (.x 3)) (.m 2 (.x 0))) (.x 4)] [] (.nl (.a (.a (.x 2) (.a (.a (.x 1) (.k 1)) (.x 3))) (.x 1)) (.x 4)) (.l 1 [-2,1]) rfl hy h8
noncomputable def ShO (p q G S T:List Rat) (b:Nat):Prop :=
 (Rw G)∧
 (Rw S)∧
 (Rw T)∧
 (G.length≤15)∧
 (S.length+G.length≤16)∧
 (T.length≤16)∧
 (RC (hB b) (cf G))∧
 (RC (hB b) (cf S))∧
 (RC (hB b) (cf T))∧
 (∀ j,cf G j=cvn (cf S) (cf p) j+cvn (cf T) (cf q) j)∧
 (Dv G (cf p))∧
 (Dv G (cf q))∧
 ((G=[]∧p=[]∧q=[])∨(G≠[]∧cf G (G.length - 1)=1))
section
variable {p q G S T:List Rat} {b:Nat} (h_:ShO p q G S T b)
include h_
theorem ShO.wG:Rw G:=h_.1
theorem ShO.wS:Rw S:=h_.2.1
theorem ShO.wT:Rw T:=h_.2.2.1
theorem ShO.lG:G.length≤15:=h_.2.2.2.1
theorem ShO.lS:S.length+G.length≤16:=h_.2.2.2.2.1
theorem ShO.lT:T.length≤16:=h_.2.2.2.2.2.1
theorem ShO.kG:RC (hB b) (cf G):=h_.2.2.2.2.2.2.1
theorem ShO.kS:RC (hB b) (cf S):=h_.2.2.2.2.2.2.2.1
theorem ShO.kT:RC (hB b) (cf T):=h_.2.2.2.2.2.2.2.2.1
theorem ShO.eG:∀ j,cf G j=cvn (cf S) (cf p) j+cvn (cf T) (cf q) j:=h_.2.2.2.2.2.2.2.2.2.1
theorem ShO.dp:Dv G (cf p):=h_.2.2.2.2.2.2.2.2.2.2.1
theorem ShO.dq:Dv G (cf q):=h_.2.2.2.2.2.2.2.2.2.2.2.1
theorem ShO.led:(G=[]∧p=[]∧q=[])∨(G≠[]∧cf G (G.length - 1)=1):=h_.2.2.2.2.2.2.2.2.2.2.2.2
end
theorem ShJ.out0 {p q S T U V:List Rat} {b:Nat} (I:ShJ p q [] S T [] U V b):ShO p q [] S T b:=by
 have l1:=I.lS
 have l2:=I.lT
 have d:=I.dv [] (dv_self []) (dv_self [])
 have hb:=rc_pos I.cp
 have h6:hB b=33*(b+7):=rfl
 have n1:RC 1 (cf []):=RC.none (by exact o347)
 rcases I.ph with ⟨rfl,rfl,rfl,rfl,rfl,rfl⟩ | ⟨q0,A0,_⟩
 ·exact ⟨.inl rfl,I.wS,I.wT,by simp,(by show _+0≤16; exact o374 l1),by exact o375 l2,n1.mono (by exact o376 h6),rc_one.mono (by exact o376 h6),n1.mono (by exact o376 h6),I.eA,d.1,d.2,.inl ⟨rfl,rfl,rfl⟩⟩
 ·exact absurd rfl A0
theorem cf_mulR (p:List Rat) (x:Rat) (i:Nat):cf (trimL (p.map (·*x))) i=cf p i*x:=by
 rw [cf_trim,cf_map (f:=fun y=>y*x) (Rat.zero_mul _)]
theorem len_mulR {A:List Rat} {x:Rat} (hA:Rw A) (hx:x≠0):(trimL (A.map (·*x))).length=A.length:=by
 have m1:=trim_len (A.map (·*x))
 rw [List.length_map] at m1
 rcases hA with rfl | hA
 ·rfl
 ·by_cases z:A.length≤(trimL (A.map (·*x))).length
  ·exact linN [_,_] [] [.nl (.x 0) (.x 1),.nl (.x 1) (.x 0)] [] (.x 0) (.x 1) (.l 1 [1]) (.l 1 [0,1]) rfl m1 z
  ·have h:=cf_mulR A x (A.length - 1)
   rw [cf_ge (by exact o57 z)] at h
   exact absurd (Rat.mul_eq_zero.mp h.symm) (fun z=>z.elim hA hx)
theorem ShJ.out1 {p q A S T U V:List Rat} {b:Nat} (I:ShJ p q A S T [] U V b) (hA:A≠[]) {x:Rat} (hx:x=1 / cf A (A.length - 1)):ShO p q (trimL (A.map (·*x))) (trimL (S.map (·*x))) (trimL (T.map (·*x))) b:=by
 have hA1:1≤A.length:=List.length_pos_iff.mpr hA
 have hA0:cf A (A.length - 1)≠0:=I.wA.resolve_left hA
 have e1:x*cf A (A.length - 1)=1:=by rw [hx]; exact Rat.div_mul_cancel hA0
 have x0:x≠0:=fun z=>by rw [z,Rat.zero_mul] at e1; exact absurd e1 (by decide)
 have lA:=I.lA
 have l1:=I.lS
 have l2:=I.lT
 have m2:=trim_len (S.map (·*x))
 have m3:=trim_len (T.map (·*x))
 rw [List.length_map] at m2 m3
 have hl:=len_mulR I.wA x0
 have hG:=cf_mulR A x
 have d:=I.dv A (dv_self A) (dv_none A)
 have hb:=rc_pos I.cp
 have h6:hB b=33*(b+7):=rfl
 have ks:RC (hB b) (cf (trimL (A.map (·*x))))∧RC (hB b) (cf (trimL (S.map (·*x))))∧RC (hB b) (cf (trimL (T.map (·*x)))):=by
  rcases I.ph with ⟨rfl,rfl,rfl,hq,rfl,rfl⟩ | ⟨q0,A0,h1,h2,h3,E,⟨l,sl,kA,kS,kT⟩,hBl⟩
  ·have rx:RS (1+b) x:=by rw [hx]; exact rs_divR rs_one (I.cp.rs _) hA0
   refine ⟨((I.cp.monic hA0).cong fun i=>?_).mono (by exact lin [_,_] [] [.ne (.x 0) (.m 33 (.a (.x 1) (.k 7)))] [] (.nl (.x 1) (.x 0)) (.l 33 [-1]) rfl h6),((rc_one.scale rx).cong (cf_mulR _ x)).mono (by exact lin [_,_] [] [.ne (.x 0) (.m 33 (.a (.x 1) (.k 7)))] [] (.nl (.a (.k 1) (.a (.k 1) (.x 1))) (.x 0)) (.l 33 [-1]) rfl h6),(RC.none (B:=1) (by exact o347)).mono (by exact o376 h6)⟩
   rw [hG i,hx]
  ·exact ⟨(kA.led kA hA0).cong fun i=>by rw [hG i,hx],(kA.led kS hA0).cong fun i=>by rw [cf_mulR,hx],(kA.led kT hA0).cong fun i=>by rw [cf_mulR,hx]⟩
 have l3:=Nat.le_max_left A.length ([]:List Rat).length
 refine ⟨rw_trim _,rw_trim _,rw_trim _,by exact o380 lA hl,by exact o381 l1 m2 hl l3,by exact o382 l2 m3,ks.1,ks.2.1,ks.2.2,fun j=>?_,dv_scale e1 hG d.1,dv_scale e1 hG d.2,.inr ⟨fun z=>?_,?_⟩⟩
 ·rw [hG j,I.eA j,cvn_cong (fun i=>(cf_mulR S x i).trans (Rat.mul_comm _ _)) (fun _=>rfl),cvn_cong (a:=cf (trimL (T.map (·*x)))) (fun i=>(cf_mulR T x i).trans (Rat.mul_comm _ _)) (fun _=>rfl),cvn_mul_left,cvn_mul_left]; grind
 ·rw [z] at hl
  exact hA (List.eq_nil_of_length_eq_zero hl.symm)
 ·rw [hl,hG,Rat.mul_comm,e1]
end Mine
namespace Mine
noncomputable def ledL (R:List Rat):List Rat:=if R=[] then [] else trimL (R.map (·*(1 / cf R (R.length - 1))))
theorem ledL_spec {R:List Rat} (hR:Rw R):Rw (ledL R)∧(ledL R).length=R.length∧∃ x y:Rat,x*y=1∧(∀ i,cf (ledL R) i=cf R i*x)∧(R≠[]→cf (ledL R) ((ledL R).length - 1)=1∧x=1 / cf R (R.length - 1)):=by
 unfold ledL
 by_cases z:R=[]
 ·rw [if_pos z]
  subst z
  exact ⟨.inl rfl,rfl,1,1,Rat.mul_one 1,fun i=>(Rat.mul_one _).symm,fun h=>absurd rfl h⟩
 ·rw [if_neg z]
  have h0:cf R (R.length - 1)≠0:=hR.resolve_left z
  have e1:1 / cf R (R.length - 1)*cf R (R.length - 1)=1:=Rat.div_mul_cancel h0
  have x0:1 / cf R (R.length - 1)≠0:=fun z=>by rw [z,Rat.zero_mul] at e1; exact absurd e1 (by decide)
  have hl:=len_mulR hR x0
  refine ⟨rw_trim _,hl,_,_,e1,cf_mulR R _,fun _=>⟨?_,rfl⟩⟩
  rw [hl,cf_mulR,Rat.mul_comm,e1]
end Mine
namespace Mine
noncomputable def evL:List Int→Int→Int
 | [],_=>0
 | c :: cs,x=>c+x*evL cs x
noncomputable def quL (x:Int):List Int→List Int
 | []=>[]
 | d :: ds=>evL (d :: ds) x :: quL x ds
theorem quL_len (x:Int):∀ cs,(quL x cs).length=cs.length
 | []=>rfl
 | d :: ds=>congrArg (·+1) (quL_len x ds)
theorem quL_ev (x y c:Int):∀ cs,evL (c :: cs) y - evL (c :: cs) x=(y - x)*evL (quL x cs) y
 | []=>by show c+y*0 - (c+x*0)=(y - x)*0; rw [Int.mul_zero,Int.mul_zero,Int.mul_zero,Int.sub_self]
 | d :: ds=>by
  have ih:=quL_ev x y d ds
  show c+y*evL (d :: ds) y - (c+x*evL (d :: ds) x)=(y - x)*(evL (d :: ds) x+y*evL (quL x ds) y)
  have e:(y - x)*(evL (d :: ds) x+y*evL (quL x ds) y)=(y - x)*evL (d :: ds) x+y*((y - x)*evL (quL x ds) y):=by grind
  rw [e,← ih]; grind
theorem quL_back {x:Int} {R B:Nat} (hx:x.natAbs≤R):∀ cs:List Int,(∀ e∈quL x cs,e.natAbs≤B)→(evL cs x).natAbs≤B∧∀ d∈cs,d.natAbs≤(1+R)*B
 | [],_=>⟨Nat.zero_le _,fun d hd=>by cases hd⟩
 | d :: ds,h=>by
  have h0:(evL (d :: ds) x).natAbs≤B:=h _ (.head _)
  obtain ⟨h1,h2⟩:=quL_back hx ds fun e he=>h e (.tail _ he)
  refine ⟨h0,fun e he=>?_⟩
  rcases List.mem_cons.mp he with rfl | he
  ·have h3:evL (e :: ds) x=e+x*evL ds x:=rfl
   have h4:(x*evL ds x).natAbs≤R*B:=by rw [Int.natAbs_mul]; exact Nat.mul_le_mul hx h1
   rw [Nat.add_mul,Nat.one_mul]
   exact o383 h0 h3 h4
  ·exact h2 e he
theorem ev_bound (R:Nat):∀ (n M:Nat) (as xs:List Int),as.length=n→xs.length=n→xs.Nodup→(∀ x∈xs,x.natAbs≤R)→(∀ x∈xs,(evL as x).natAbs≤M)→∀ a∈as,a.natAbs≤M*(2*R+3) ^ n
 | 0,M,as,xs,h1,_,_,_,_,a,ha=>by rw [List.eq_nil_of_length_eq_zero h1] at ha; cases ha
 | n+1,M,[],xs,h1,_,_,_,_,a,ha=>by cases ha
 | n+1,M,c :: cs,[],h1,h2,_,_,_,a,ha=>by cases h2
 | n+1,M,c :: cs,x :: xs,h1,h2,h3,h4,h5,a,ha=>by
  have hx:=h4 x (.head _)
  have h3':=List.nodup_cons.mp h3
  have ih:=ev_bound R n (2*M) (quL x cs) xs (by rw [quL_len]; exact Nat.succ.inj h1) (Nat.succ.inj h2) h3'.2 (fun y hy=>h4 y (.tail _ hy)) fun y hy=>by
   have e:=quL_ev x y c cs
   have m1:=h5 x (.head _)
   have m2:=h5 y (.tail _ hy)
   have ne:y - x≠0:=fun z=>h3'.1 (by rw [show x=y by exact linI [] [_,_] [.ie (.s (.x 0) (.x 1)) (.k 0)] [] (.x 1) (.x 0) (.l 1 [-1]) (.l 1 [1]) rfl z]; exact hy)
   have e2:((y - x)*evL (quL x cs) y).natAbs≤2*M:=by rw [← e]; exact o385 m1 m2
   rw [Int.natAbs_mul] at e2
   exact Nat.le_trans (Nat.le_mul_of_pos_left _ (by exact o386 ne)) e2
  obtain ⟨k1,k2⟩:=quL_back hx cs ih
  obtain ⟨K,hK⟩:∃ K,K=(2*R+3) ^ n:=⟨_,rfl⟩
  rw [← hK] at ih k1 k2
  have hK1:1≤K:=by rw [hK]; exact Nat.pow_pos (by exact lin [_] [] [] [] (.nt (.k 0) (.a (.m 2 (.x 0)) (.k 3))) (.l 1 []) rfl)
  have e3:M*(2*R+3) ^ (n+1)=(1+R)*(2*M*K)+M*K:=by
   rw [Nat.pow_succ,← hK]; grind
  have hMK:M≤M*K:=Nat.le_mul_of_pos_right _ hK1
  rcases List.mem_cons.mp ha with rfl | ha
  ·have m1:(evL (a :: cs) x).natAbs≤M:=h5 x (.head _)
   have m2:evL (a :: cs) x=a+x*evL cs x:=rfl
   have m3:(x*evL cs x).natAbs≤R*(2*M*K):=by rw [Int.natAbs_mul]; exact Nat.mul_le_mul hx k1
   rw [e3,Nat.add_mul,Nat.one_mul]; exact o388 hMK m1 m2 m3
  ·have:=k2 a ha
   rw [e3]; exact o389 this
noncomputable def toL:Nat→(Nat→Int)→List Int
 | 0,_=>[]
 | n+1,a=>a 0 :: toL n (fun i=>a (i+1))
theorem toL_len:∀ (n:Nat) (a:Nat→Int),(toL n a).length=n
 | 0,_=>rfl
 | n+1,a=>congrArg (·+1) (toL_len n _)
theorem toL_mem:∀ (n:Nat) (a:Nat→Int) (i:Nat),i<n→a i∈toL n a
 | 0,_,i,h=>absurd h (Nat.not_lt_zero _)
 | n+1,a,0,_=>.head _
 | n+1,a,i+1,h=>.tail _ (toL_mem n (fun i=>a (i+1)) i (by exact lin [_,_] [] [.nt (.a (.x 0) (.k 1)) (.a (.x 1) (.k 1))] [] (.nt (.x 0) (.x 1)) (.l 1 [1]) rfl h))
theorem ev_lin (u x:Int):∀ (n:Nat) (f g:Nat→Int),evL (toL n (fun j=>u*f j+g j)) x=u*evL (toL n f) x+evL (toL n g) x
 | 0,f,g=>by show (0:Int)=u*0+0; rw [Int.mul_zero,Int.add_zero]
 | n+1,f,g=>by
  show u*f 0+g 0+x*evL (toL n (fun j=>u*f (j+1)+g (j+1))) x=u*(f 0+x*evL (toL n fun j=>f (j+1)) x)+(g 0+x*evL (toL n fun j=>g (j+1)) x)
  rw [ev_lin u x n (fun j=>f (j+1)) (fun j=>g (j+1))]; grind
theorem ev_none (x:Int):∀ n:Nat,evL (toL n (fun _=>0)) x=0
 | 0=>rfl
 | n+1=>by show 0+x*evL (toL n (fun _=>0)) x=0; rw [ev_none x n,Int.mul_zero,Int.add_zero]
theorem ev_pad (x:Int):∀ (m:Nat) (f:Nat→Int) (N:Nat),(∀ i,m≤i→f i=0)→m≤N→evL (toL N f) x=evL (toL m f) x
 | 0,f,N,h,_=>by rw [show f=fun _=>0 from funext fun i=>h i (Nat.zero_le _),ev_none]; rfl
 | m+1,f,0,h,hN=>absurd hN (by exact o391 hN)
 | m+1,f,N+1,h,hN=>by
  show f 0+x*evL (toL N fun j=>f (j+1)) x=f 0+x*evL (toL m fun j=>f (j+1)) x
  rw [ev_pad x m (fun j=>f (j+1)) N (fun i hi=>h (i+1) (by exact o392 hi)) (by exact lin [_,_] [] [.nl (.a (.x 0) (.k 1)) (.a (.x 1) (.k 1))] [] (.nl (.x 0) (.x 1)) (.l 1 [1]) rfl hN)]
theorem smI_first (f:Nat→Int):∀ n:Nat,smI f (n+1)=f 0+smI (fun i=>f (i+1)) n
 | 0=>by show 0+f 0=f 0+0; exact linI [] [_] [] [] (.a (.k 0) (.x 0)) (.a (.x 0) (.k 0)) (.l 1 []) (.l 1 []) rfl
 | n+1=>by
  show smI f (n+1)+f (n+1)=f 0+(smI (fun i=>f (i+1)) n+f (n+1))
  rw [smI_first f n,Int.add_assoc]
theorem cvI_step (a b:Nat→Int) (j:Nat):cvI a b (j+1)=a 0*b (j+1)+cvI (fun i=>a (i+1)) b j:=by
 show smI (fun i=>a i*b (j+1 - i)) (j+1+1)=_
 rw [smI_first]
 congr 1
 exact smI_cong' fun i _=>by rw [show j+1 - (i+1)=j - i by omega]
theorem ev_mul {b:Nat→Int} {m:Nat} (hb:∀ i,m≤i→b i=0) (x:Int):∀ (n:Nat) (a:Nat→Int) (N:Nat),(∀ i,n≤i→a i=0)→n+m≤N→evL (toL N (cvI a b)) x=evL (toL n a) x*evL (toL m b) x
 | 0,a,N,ha,hN=>by
  have e:cvI a b=fun _=>0:=funext fun j=>by
   unfold cvI
   rw [smI_cong (g:=fun _=>0) (fun i=>by rw [ha i (Nat.zero_le _),Int.zero_mul])]
   have:=smI_zero (f:=fun _=>0) (n:=0) (m:=j+1) (fun _ _=>rfl)
   rw [Nat.zero_add] at this
   exact this
  rw [e,ev_none]
  exact (Int.zero_mul _).symm
 | n+1,a,0,ha,hN=>absurd hN (by exact o395 hN)
 | n+1,a,N+1,ha,hN=>by
  have e0:cvI a b 0=a 0*b 0:=by show 0+a 0*b (0 - 0)=_; rw [Int.zero_add]
  show cvI a b 0+x*evL (toL N fun j=>cvI a b (j+1)) x=(a 0+x*evL (toL n fun j=>a (j+1)) x)*evL (toL m b) x
  rw [show (fun j=>cvI a b (j+1))=fun j=>a 0*b (j+1)+cvI (fun i=>a (i+1)) b j from funext (cvI_step a b),ev_lin,ev_mul hb x n (fun i=>a (i+1)) N (fun i hi=>ha (i+1) (by exact o392 hi)) (by exact lin [_,_,_] [] [.nl (.a (.a (.x 0) (.k 1)) (.x 1)) (.a (.x 2) (.k 1))] [] (.nl (.a (.x 0) (.x 1)) (.x 2)) (.l 1 [1]) rfl hN),← ev_pad x m b (N+1) hb (by exact lin [_,_,_] [] [.nl (.a (.a (.x 0) (.k 1)) (.x 1)) (.a (.x 2) (.k 1))] [] (.nl (.x 1) (.a (.x 2) (.k 1))) (.l 1 [1]) rfl hN),e0]
  show a 0*b 0+x*(a 0*evL (toL N fun j=>b (j+1)) x+evL (toL n fun i=>a (i+1)) x*(b 0+x*evL (toL N fun j=>b (j+1)) x))=(a 0+x*evL (toL n fun j=>a (j+1)) x)*(b 0+x*evL (toL N fun j=>b (j+1)) x)
  grind
theorem ev_le {B R:Nat} {x:Int} (hx:x.natAbs≤R):∀ (n:Nat) (a:Nat→Int),(∀ i,(a i).natAbs≤B)→(evL (toL n a) x).natAbs≤B*(R+1) ^ n
 | 0,a,_=>Nat.zero_le _
 | n+1,a,h=>by
  have ih:=ev_le hx n (fun i=>a (i+1)) fun i=>h (i+1)
  have h0:=h 0
  show (a 0+x*evL (toL n fun i=>a (i+1)) x).natAbs≤_
  have h1:(x*evL (toL n fun i=>a (i+1)) x).natAbs≤R*(B*(R+1) ^ n):=by rw [Int.natAbs_mul]; exact Nat.mul_le_mul hx ih
  have h2:B≤B*(R+1) ^ n:=Nat.le_mul_of_pos_right _ (Nat.pow_pos (by exact o189))
  have h3:B*(R+1) ^ (n+1)=R*(B*(R+1) ^ n)+B*(R+1) ^ n:=by rw [Nat.pow_succ]; grind
  rw [h3]; exact o398 h0 h1 h2
noncomputable def pts:List Int:=(List.range 29).map fun (i:Nat)=>(i:Int) - 14
theorem pts_nodup:pts.Nodup:=by decide
theorem pts_le:∀ x∈pts,x.natAbs≤14:=by decide
theorem filter_two (f:Int→Bool):∀ l:List Int,(l.filter f).length+(l.filter fun x=>!f x).length=l.length
 | []=>rfl
 | a :: l=>by
  have ih:=filter_two f l
  rw [List.filter_cons,List.filter_cons,List.length_cons]
  cases f a with
  | true=>show (a :: l.filter f).length+(l.filter fun x=>!f x).length=_; rw [List.length_cons]; exact linN [_,_,_] [] [.ne (.a (.x 0) (.x 1)) (.x 2)] [] (.a (.a (.x 0) (.k 1)) (.x 1)) (.a (.x 2) (.k 1)) (.l 1 [1]) (.l 1 [-1]) rfl ih
  | false=>show (l.filter f).length+(a :: l.filter fun x=>!f x).length=_; rw [List.length_cons]; exact linN [_,_,_] [] [.ne (.a (.x 0) (.x 1)) (.x 2)] [] (.a (.x 0) (.a (.x 1) (.k 1))) (.a (.x 2) (.k 1)) (.l 1 [1]) (.l 1 [-1]) rfl ih
theorem fac_int {P g h:Nat→Int} {n B:Nat} (hn:n≤15) (hP:∀ i,(P i).natAbs≤B) (dP:∀ i,n≤i→P i=0) (P0:∃ i,P i≠0) (dg:∀ i,n≤i→g i=0) {m:Nat} (dh:∀ i,m≤i→h i=0) (e:∀ j,P j=cvI g h j) (i:Nat):(g i).natAbs≤B*15 ^ n*31 ^ n:=by
 obtain ⟨i0,hi0⟩:=P0
 have hi0n:i0<n:=by
  by_cases z:i0<n
  ·exact z
  ·exact absurd (dP i0 (by exact o59 z)) hi0
 obtain ⟨f,hf⟩:∃ f:Int→Bool,∀ x,f x=!(evL (toL n P) x==0):=⟨_,fun _=>rfl⟩
 have key:n≤(pts.filter f).length:=by
  by_cases z:n≤(pts.filter f).length
  ·exact z
  ·exfalso
   have hs:=filter_two f pts
   have hl:pts.length=29:=rfl
   have:=ev_bound 14 n 0 (toL n P) ((pts.filter fun x=>!f x).take n) (toL_len n P) (by rw [List.length_take]; exact o401 hn z hs hl) ((pts_nodup.filter _).sublist (List.take_sublist _ _)) (fun x hx=>pts_le x (List.mem_filter.mp (List.mem_of_mem_take hx)).1) (fun x hx=>by
    have:=(List.mem_filter.mp (List.mem_of_mem_take hx)).2
    rw [hf,Bool.not_not,beq_iff_eq] at this
    rw [this]; exact Nat.le_refl _) (P i0) (toL_mem n P i0 hi0n)
   rw [Nat.zero_mul] at this
   exact o402 hi0 this
 by_cases z:i<n
 ·have b:=ev_bound 14 n (B*15 ^ n) (toL n g) ((pts.filter f).take n) (toL_len n g) (by rw [List.length_take]; exact o134 key) ((pts_nodup.filter _).sublist (List.take_sublist _ _)) (fun x hx=>pts_le x (List.mem_filter.mp (List.mem_of_mem_take hx)).1) (fun x hx=>by
   have h1:=List.mem_filter.mp (List.mem_of_mem_take hx)
   have h2:evL (toL n P) x≠0:=fun z=>by have h1:=h1.2; rw [hf,z] at h1; cases h1
   have h3:=ev_le (pts_le x h1.1) n P hP
   have h4:evL (toL n P) x=evL (toL n g) x*evL (toL m h) x:=by
    rw [← ev_mul dh x n g (n+m) dg (Nat.le_refl _),← show P=cvI g h from funext e]
    exact (ev_pad x n P (n+m) dP (by exact o63)).symm
   rw [h4] at h2 h3
   have h5:evL (toL m h) x≠0:=fun z=>h2 (by rw [z,Int.mul_zero])
   rw [Int.natAbs_mul] at h3
   exact Nat.le_trans (Nat.le_mul_of_pos_right _ (by exact o403 h5)) h3) (g i) (toL_mem n g i z)
  exact b
 ·rw [dg i (by exact o59 z)]; exact Nat.zero_le _
end Mine
namespace Mine
noncomputable def Pr (π:Nat):Prop:=1<π∧∀ d,d∣π→d=1∨d=π
theorem pr_of:∀ (N n:Nat),n≤N→1<n→∃ π,Pr π∧π∣n
 | 0,n,h,h1=>absurd h1 (by exact o404 h h1)
 | N+1,n,h,h1=>by
  by_cases z:∀ d,d∣n→d=1∨d=n
  ·exact ⟨n,⟨h1,z⟩,Nat.dvd_refl n⟩
  ·obtain ⟨d,hd⟩:=Classical.not_forall.mp z
   have hd1:d∣n:=Classical.byContradiction fun q=>hd fun r=>absurd r q
   have hd2:d≠1:=fun q=>hd fun _=>.inl q
   have hd3:d≠n:=fun q=>hd fun _=>.inr q
   have hle:=Nat.le_of_dvd (by exact lin [_] [] [.nt (.k 1) (.x 0)] [] (.nt (.k 0) (.x 0)) (.l 1 [1]) rfl h1) hd1
   have h0:d≠0:=fun q=>by subst q; have:=Nat.eq_zero_of_zero_dvd hd1; omega
   obtain ⟨π,p1,p2⟩:=pr_of N d (by exact o406 h hd3 hle) (by exact o407 hd2 h0)
   exact ⟨π,p1,Nat.dvd_trans p2 hd1⟩
theorem Pr.mul {π:Nat} (h:Pr π) {a b:Int} (hab:(π:Int)∣a*b):(π:Int)∣a∨(π:Int)∣b:=by
 rw [← Int.natAbs_dvd_natAbs,Int.natAbs_mul,Int.natAbs_natCast] at hab
 rw [← Int.natAbs_dvd_natAbs,← Int.natAbs_dvd_natAbs (b:=b),Int.natAbs_natCast]
 rcases h.2 _ (Nat.gcd_dvd_left π a.natAbs) with e | e
 ·exact .inr (Nat.Coprime.dvd_of_dvd_mul_left e hab)
 ·exact .inl (e ▸ Nat.gcd_dvd_right π a.natAbs)
theorem sm_dvd {π:Int} {f:Nat→Int} {a:Nat}:∀ n,(∀ i,i<n→i≠a→π∣f i)→π∣smI f n - if a<n then f a else 0
 | 0,_=>by rw [if_neg (Nat.not_lt_zero a)]; show π∣0 - 0; exact Int.dvd_zero π
 | n+1,h=>by
  have ih:=sm_dvd (π:=π) (f:=f) (a:=a) n fun i hi=>h i (by exact o61 hi)
  show π∣smI f n+f n - _
  by_cases z:n=a
  ·subst z
   rw [if_neg (Nat.lt_irrefl n)] at ih
   rw [if_pos (Nat.lt_succ_self n)]
   have:smI f n+f n - f n=smI f n - 0:=by exact linI [] [_,_] [] [] (.s (.a (.x 0) (.x 1)) (.x 1)) (.s (.x 0) (.k 0)) (.l 1 []) (.l 1 []) rfl
   rw [this]; exact ih
  ·have h1:=h n (by exact o62) z
   have e:(if a<n+1 then f a else 0)=if a<n then f a else 0:=by
    by_cases z2:a<n
    ·rw [if_pos z2,if_pos (by exact o61 z2)]
    ·rw [if_neg z2,if_neg (by exact o188 z z2)]
   rw [e]
   have:smI f n+f n - (if a<n then f a else 0)=(smI f n - if a<n then f a else 0)+f n:=by exact linI [] [_,_,_] [] [] (.s (.a (.x 0) (.x 1)) (.x 2)) (.a (.s (.x 0) (.x 2)) (.x 1)) (.l 1 []) (.l 1 []) rfl
   rw [this]; exact Int.dvd_add ih h1
theorem least {p:Nat→Prop}:∀ N,(∃ i,i≤N∧p i)→∃ i,p i∧∀ j,j<i→¬ p j
 | 0,⟨i,hi,h⟩=>⟨i,h,fun j hj=>absurd hj (by exact o410 hi hj)⟩
 | N+1,⟨i,hi,h⟩=>by
  by_cases z:∃ j,j≤N∧p j
  ·exact least N z
  ·exact ⟨i,h,fun j hj q=>z ⟨j,by exact lin [_,_,_] [] [.nl (.x 0) (.a (.x 1) (.k 1)),.nt (.x 2) (.x 0)] [] (.nl (.x 2) (.x 1)) (.l 1 [1,1]) rfl hi hj,q⟩⟩
theorem gauss {π:Nat} (hπ:Pr π) {a b:Nat→Int} (h:∀ j,(π:Int)∣cvI a b j):(∀ i,(π:Int)∣a i)∨∀ i,(π:Int)∣b i:=by
 refine Classical.byContradiction fun hn=>?_
 have h1:∃ i,¬ (π:Int)∣a i:=Classical.byContradiction fun q=>hn (.inl fun i=>Classical.byContradiction fun r=>q ⟨i,r⟩)
 have h2:∃ i,¬ (π:Int)∣b i:=Classical.byContradiction fun q=>hn (.inr fun i=>Classical.byContradiction fun r=>q ⟨i,r⟩)
 obtain ⟨i0,hi0⟩:=h1
 obtain ⟨j0,hj0⟩:=h2
 obtain ⟨i,ia,ib⟩:=least (p:=fun i=>¬ (π:Int)∣a i) i0 ⟨i0,Nat.le_refl _,hi0⟩
 obtain ⟨j,ja,jb⟩:=least (p:=fun i=>¬ (π:Int)∣b i) j0 ⟨j0,Nat.le_refl _,hj0⟩
 have k:=sm_dvd (π:=(π:Int)) (f:=fun t=>a t*b (i+j - t)) (a:=i) (i+j+1) (fun t hn ht=>by
  by_cases z:t<i
  ·exact Int.dvd_mul_of_dvd_left (Classical.not_not.mp (ib t z))
  ·by_cases z2:i+j - t<j
   ·exact Int.dvd_mul_of_dvd_right (Classical.not_not.mp (jb _ z2))
   ·exact absurd ht (by exact o412 hn z z2))
 rw [if_pos (by exact o281),show i+j - i=j by exact o225] at k
 have k2:(π:Int)∣a i*b j:=by
  have h3:=h (i+j)
  have:a i*b j=cvI a b (i+j) - (smI (fun t=>a t*b (i+j - t)) (i+j+1) - a i*b j):=by unfold cvI; exact linI [] [_,_] [] [] (.x 0) (.s (.x 1) (.s (.x 1) (.x 0))) (.l 1 []) (.l 1 []) rfl
  rw [this]
  exact Int.dvd_sub h3 k
 rcases hπ.mul k2 with q | q
 ·exact ia q
 ·exact ja q
noncomputable def Prm (a:Nat→Int):Prop:=∀ π,Pr π→∃ i,¬ (π:Int)∣a i
theorem prm_of {k:Nat}:∀ (N:Nat) (a:Nat→Int),(a k).natAbs≤N→a k≠0→∃ (c:Int) (z:Nat→Int),c≠0∧Prm z∧∀ i,a i=c*z i
 | 0,a,h,h0=>absurd h0 (by exact o414 h h0)
 | N+1,a,h,h0=>by
  by_cases z:Prm a
  ·exact ⟨1,a,by decide,z,fun i=>(Int.one_mul _).symm⟩
  ·obtain ⟨π,hπ⟩:=Classical.not_forall.mp z
   have p1:Pr π:=Classical.byContradiction fun q=>hπ fun r=>absurd r q
   have p2:∀ i,(π:Int)∣a i:=fun i=>Classical.byContradiction fun q=>hπ fun _=>⟨i,q⟩
   have e:∀ i,(π:Int)*(a i / (π:Int))=a i:=fun i=>Int.mul_ediv_cancel' (p2 i)
   have hk:=e k
   have hlt:(a k / (π:Int)).natAbs≤N:=by
    have h3:π*(a k / (π:Int)).natAbs=(a k).natAbs:=by rw [← hk,Int.natAbs_mul,Int.natAbs_natCast,hk]
    have h4:=p1.1
    have h5:(a k / (π:Int)).natAbs≠0:=fun q=>by rw [q,Nat.mul_zero] at h3; exact o415 h0 h3
    have h6:2*(a k / (π:Int)).natAbs≤π*(a k / (π:Int)).natAbs:=Nat.mul_le_mul_right _ (by exact lin [_] [] [.nt (.k 1) (.x 0)] [] (.nl (.k 2) (.x 0)) (.l 1 [1]) rfl h4)
    exact o417 h h3 h6
   obtain ⟨c,y,c0,hy,ey⟩:=prm_of N (fun i=>a i / (π:Int)) hlt (fun q=>h0 (by rw [← hk,q,Int.mul_zero]))
   refine ⟨π*c,y,Int.mul_ne_zero (by have:=p1.1; exact o418 this) c0,hy,fun i=>?_⟩
   have:=ey i
   rw [← e i,this,Int.mul_assoc]
theorem den_of {a:Nat→Rat}:∀ n:Nat,∃ d:Int,d≠0∧∀ i,i<n→∃ z:Int,a i*(d:Rat)=(z:Rat)
 | 0=>⟨1,by decide,fun i hi=>absurd hi (Nat.not_lt_zero _)⟩
 | n+1=>by
  obtain ⟨d,d0,hd⟩:=den_of (a:=a) n
  have e:a n*(((a n).den:Int):Rat)=(((a n).num:Int):Rat):=by
   have h:=Rat.num_divInt_den (a n)
   rw [Rat.divInt_eq_div] at h
   have k:=Rat.div_mul_cancel (a:=(((a n).num:Int):Rat)) (cast_ne (den_ne (a n)))
   rw [h] at k
   exact k
  refine ⟨d*(a n).den,Int.mul_ne_zero d0 (den_ne _),fun i hi=>?_⟩
  rcases Nat.lt_succ_iff_lt_or_eq.mp hi with z | z
  ·obtain ⟨y,hy⟩:=hd i z
   exact ⟨y*(a n).den,by rw [Rat.intCast_mul,Rat.intCast_mul,← hy]; grind⟩
  ·subst z
   exact ⟨d*(a i).num,by rw [Rat.intCast_mul,Rat.intCast_mul,← e]; grind⟩
theorem prm_rat {a:Nat→Rat} {k:Nat} (h0:a k≠0) (hk:Bd (k+1) a):∃ (u:Rat) (z:Nat→Int),u≠0∧Prm z∧∀ i,a i=u*(z i:Rat):=by
 obtain ⟨d,d0,hd⟩:=den_of (a:=a) (k+1)
 have all:∀ i,∃ z:Int,a i*(d:Rat)=(z:Rat):=fun i=>by
  by_cases z:i<k+1
  ·exact hd i z
  ·exact ⟨0,by rw [hk i (by exact lin [_,_] [] [.nl (.a (.x 1) (.k 1)) (.x 0)] [] (.nl (.a (.x 1) (.k 1)) (.x 0)) (.l 1 [1]) rfl (Nat.not_lt.mp z)),Rat.zero_mul]; rfl⟩
 have hb:∃ b:Nat→Int,∀ i,a i*(d:Rat)=(b i:Rat):=⟨fun i=>(all i).choose,fun i=>(all i).choose_spec⟩
 obtain ⟨b,hb⟩:=hb
 have dq:(d:Rat)≠0:=cast_ne d0
 obtain ⟨c,z,c0,hz,ez⟩:=prm_of (k:=k) _ b (Nat.le_refl _) (fun q=>by
  have:=hb k
  rw [q] at this
  exact (Rat.mul_eq_zero.mp this).elim h0 dq)
 have e1:1 / (d:Rat)*(d:Rat)=1:=Rat.div_mul_cancel dq
 refine ⟨(c:Rat)*(1 / (d:Rat)),z,fun q=>?_,hz,fun i=>?_⟩
 ·rcases Rat.mul_eq_zero.mp q with q | q
  ·exact cast_ne c0 q
  ·rw [q,Rat.zero_mul] at e1; exact absurd e1 (by decide)
 ·have h2:=hb i
  rw [ez i,Rat.intCast_mul] at h2
  have:(c:Rat)*(1 / (d:Rat))*(z i:Rat)=1 / (d:Rat)*((c:Rat)*(z i:Rat)):=by grind
  rw [this,← h2]
  have:1 / (d:Rat)*(a i*(d:Rat))=a i*(1 / (d:Rat)*(d:Rat)):=by grind
  rw [this,e1,Rat.mul_one]
theorem fac_rc {p g r:Nat→Rat} {b n k m:Nat} (hp:RC b p) (hn:n≤15) (dp:Bd n p) (hg0:g k≠0) (dg:Bd (k+1) g) (hr0:r m≠0) (dr:Bd (m+1) r) (e:∀ j,p j=cvn g r j) (hk:k<n):RC (b+9*n) (fun i=>g i*(1 / g k)):=by
 obtain ⟨u,x,u0,hx,ex⟩:=prm_rat hg0 dg
 obtain ⟨v,y,v0,hy,ey⟩:=prm_rat hr0 dr
 obtain ⟨d,P,d0,db,Pb,eP⟩:=hp
 have dq:(d:Rat)≠0:=cast_ne d0
 obtain ⟨w,hw⟩:∃ w:Rat,w=(d:Rat)*(u*v):=⟨_,rfl⟩
 have w0:w≠0:=fun q=>by
  rw [hw] at q
  rcases Rat.mul_eq_zero.mp q with q | q
  ·exact dq q
  ·exact (Rat.mul_eq_zero.mp q).elim u0 v0
 have e1:∀ j,(P j:Rat)=w*((cvI x y j:Int):Rat):=fun j=>by
  rw [← eP j,e j,cvn_cong ex ey,cvn_mul_left,cvn_mul_right,← cvI_cast,hw]; grind
 have ew:w*((w.den:Int):Rat)=((w.num:Int):Rat):=by
  have h:=Rat.num_divInt_den w
  rw [Rat.divInt_eq_div] at h
  have k:=Rat.div_mul_cancel (a:=((w.num:Int):Rat)) (cast_ne (den_ne w))
  rw [h] at k
  exact k
 have e2:∀ j,(w.den:Int)*P j=w.num*cvI x y j:=fun j=>by
  have:(((w.den:Int)*P j:Int):Rat)=((w.num*cvI x y j:Int):Rat):=by
   rw [Rat.intCast_mul,Rat.intCast_mul,e1 j,← ew]; grind
  exact Rat.intCast_inj.mp this
 have hden:w.den=1:=by
  refine Classical.byContradiction fun hd=>?_
  have hd1:=w.den_pos
  obtain ⟨π,hπ,hdv⟩:=pr_of w.den w.den (Nat.le_refl _) (by exact o420 hd hd1)
  have hnum:¬ (π:Int)∣w.num:=fun q=>by
   have h1:π∣w.num.natAbs:=by rw [← Int.natAbs_dvd_natAbs,Int.natAbs_natCast] at q; exact q
   have h2:=Nat.dvd_gcd h1 hdv
   rw [w.reduced] at h2
   have:=Nat.le_of_dvd (by decide) h2
   have:=hπ.1
   omega
  have hc:∀ j,(π:Int)∣cvI x y j:=fun j=>by
   have h1:(π:Int)∣w.num*cvI x y j:=by
    rw [← e2 j]
    exact Int.dvd_mul_of_dvd_left (Int.natCast_dvd_natCast.mpr hdv)
   exact (hπ.mul h1).resolve_left hnum
  rcases gauss hπ hc with q | q
  ·obtain ⟨i,hi⟩:=hx π hπ; exact hi (q i)
  ·obtain ⟨i,hi⟩:=hy π hπ; exact hi (q i)
 have e3:∀ j,P j=cvI x (fun i=>w.num*y i) j:=fun j=>by
  have h1:=e2 j
  rw [hden] at h1
  have:cvI x (fun i=>w.num*y i) j=w.num*cvI x y j:=by
   have:((cvI x (fun i=>w.num*y i) j:Int):Rat)=((w.num*cvI x y j:Int):Rat):=by
    rw [cvI_cast,Rat.intCast_mul,cvI_cast,← cvn_mul_right]
    exact cvn_cong (fun _=>rfl) (fun i=>Rat.intCast_mul _ _) j
   exact Rat.intCast_inj.mp this
  rw [this,← h1]; omega
 have z0:∀ {u:Rat} {z:Int},u≠0→u*(z:Rat)=0→z=0:=fun {u z} h1 h2=>Rat.intCast_eq_zero_iff.mp ((Rat.mul_eq_zero.mp h2).resolve_left h1)
 have dx:∀ i,k+1≤i→x i=0:=fun i hi=>z0 u0 (by rw [← ex]; exact dg i hi)
 have dy:∀ i,m+1≤i→y i=0:=fun i hi=>z0 v0 (by rw [← ey]; exact dr i hi)
 have dP:∀ i,n≤i→P i=0:=fun i hi=>Rat.intCast_eq_zero_iff.mp (by rw [← eP,dp i hi,Rat.zero_mul])
 have hP0:∃ i,P i≠0:=⟨k+m,fun q=>by
  have:=eP (k+m)
  rw [q,e,lead_cvn dg dr] at this
  rcases Rat.mul_eq_zero.mp this with h | h
  ·exact (Rat.mul_eq_zero.mp h).elim hg0 hr0
  ·exact dq h⟩
 have bd:=fac_int (B:=2 ^ b - 1) hn (fun i=>by have:=Pb i; exact o422 this) dP hP0 (fun i hi=>dx i (by exact lin [_,_,_] [] [.nt (.x 0) (.x 1),.nl (.x 1) (.x 2)] [] (.nl (.a (.x 0) (.k 1)) (.x 2)) (.l 1 [1,1]) rfl hk hi)) (m:=m+1) (fun i hi=>by rw [dy i hi,Int.mul_zero]) e3
 have big:(2 ^ b - 1)*15 ^ n*31 ^ n<2 ^ (b+9*n):=by
  have h1:15 ^ n≤(2 ^ 4) ^ n:=Nat.pow_le_pow_left (by decide) n
  have h2:31 ^ n≤(2 ^ 5) ^ n:=Nat.pow_le_pow_left (by decide) n
  have h3:2 ^ (b+9*n)=2 ^ b*((2 ^ 4) ^ n*(2 ^ 5) ^ n):=by rw [← Nat.pow_mul,← Nat.pow_mul,← Nat.pow_add,← Nat.pow_add]; congr 1; exact linN [_,_] [] [] [] (.a (.x 0) (.m 9 (.x 1))) (.a (.x 0) (.a (.m 4 (.x 1)) (.m 5 (.x 1)))) (.l 1 []) (.l 1 []) rfl
  have h4:0<2 ^ b:=Nat.pow_pos (by decide)
  have h5:0<(2 ^ 4) ^ n*(2 ^ 5) ^ n:=Nat.mul_pos (Nat.pow_pos (by decide)) (Nat.pow_pos (by decide))
  rw [h3,Nat.mul_assoc]
  refine Nat.lt_of_le_of_lt (Nat.mul_le_mul_left _ (Nat.mul_le_mul h1 h2)) ?_
  exact Nat.mul_lt_mul_of_pos_right (by exact o136 h4) h5
 have xk:x k≠0:=fun q=>hg0 (by rw [ex,q]; exact Rat.mul_zero u)
 refine ⟨x k,x,xk,Nat.lt_of_le_of_lt (bd k) big,fun i=>Nat.lt_of_le_of_lt (bd i) big,fun i=>?_⟩
 have e5:1 / g k*g k=1:=Rat.div_mul_cancel hg0
 have:g i*(1 / g k)*(x k:Rat)=1 / g k*(u*(x k:Rat))*(x i:Rat):=by rw [ex i]; grind
 rw [this,← ex k,e5,Rat.one_mul]
end Mine
namespace Mine
open PySem
noncomputable def s_shared:List S:=[
  .assign 2 (.tup [.var 0,.glob (Str.ofString "UNIT"),.tup []]),
  .assign 3 (.tup [.var 1,.tup [],.glob (Str.ofString "UNIT")]),
  .whiles (.cmp .NotEq (.idx (.var 3) (.cint 0)) (.tup [])) [.unpack [4,5] (.call (Str.ofString "parted") [.idx (.var 2) (.cint 0),.idx (.var 3) (.cint 0)]),.assign 6 (.call (Str.ofString "lessened") [.idx (.var 2) (.cint 1),.call (Str.ofString "multiplied") [.var 4,.idx (.var 3) (.cint 1)]]),.assign 7 (.call (Str.ofString "lessened") [.idx (.var 2) (.cint 2),.call (Str.ofString "multiplied") [.var 4,.idx (.var 3) (.cint 2)]]),.assign 2 (.var 3),.assign 3 (.tup [.var 5,.var 6,.var 7])],
  .ifs (.cmp .Eq (.idx (.var 2) (.cint 0)) (.tup [])) [.ret (.var 2)] [],
  .assign 8 (.call (Str.ofString "part_of") [.tup [.cint 1,.cint 1],.idx (.idx (.var 2) (.cint 0)) (.neg (.cint 1))]),
  .ret (.tup [.call (Str.ofString "scaled") [.idx (.var 2) (.cint 0),.var 8],.call (Str.ofString "scaled") [.idx (.var 2) (.cint 1),.var 8],.call (Str.ofString "scaled") [.idx (.var 2) (.cint 2),.var 8]])]
section
variable {c:Cx} (CO:CxOK c) (EO:ExcOK c) (RO:RzOK c)
include CO EO RO
theorem scaleG_ok {t g x f:Str} (ht:TrimOK c 1 t) (hg:ProdOK c 3 g) {ps v:List Str} (hf:FnIs c f ps v (s_scaleG t g x)) (hps:ps.length=2):ScaleOK c 4 f:=by
 refine ⟨hf.isFn,fun p x k l m sto Q X hm hp hx hkl hpl h=>?_⟩
 obtain ⟨n,rfl⟩:∃ n,m=n+1:=⟨m - 1,by exact o147 hm⟩
 refine fn_call CO EO RO hf hps.symm ?_
 unfold s_scaleG
 walk_at "m"
 refine e_call ht.1 ?_
 refine es_cons (e_comp ?_)
 walk_at "m"
 refine ⟨by exact Mine.mlim (by exact o148 hpl),by exact Mine.mlim (by exact o148 hpl),?_⟩
 refine compL_map frD (fun y=>frD (y*x)) p [] (fun y hy K hK=>?_) fun l' hl'=>?_
 ·refine turn1 ?_
  refine e_call hg.1 ?_
  walk_at "m"
  obtain ⟨i,hi⟩:=List.getElem?_of_mem hy
  have e:cf p i=y:=by unfold cf; rw [hi]; rfl
  refine hg.2 y x k l _ _ _ _ (by exact o158 hm) (e ▸ hp i) hx hkl ?_
  exact ⟨trivial,hK⟩
 ·rw [List.nil_append]
  walk_at "m"
  have e:(p.map fun y=>frD (y*x))=(p.map (·*x)).map frD:=by rw [List.map_map]; rfl
  rw [e]
  refine ht.2 _ l' _ _ _ _ _ (by exact o161 hm) put_same (by rw [List.length_map]; exact o148 hpl) ?_
  exact ret_plain h
noncomputable def AddedOK (c:Cx):Prop:=IsFn c (Str.ofString "added")∧∀ (p q:List Rat) (k l m:Nat) (sto:Sto) (Q:D→Sto→Prop) (X:Str→Prop),4≤m→RSs k p→RSs l q→k+l≤67108864→p.length≤400→q.length≤400→(∀ r,IsSum p q r→Q (rowD (trimL r)) sto)→CallOK c m (Str.ofString "added") [rowD p,rowD q] sto Q X
noncomputable def MultOK (c:Cx):Prop:=IsFn c (Str.ofString "multiplied")∧∀ (p q:List Rat) (k l m:Nat) (sto:Sto) (Q:D→Sto→Prop) (X:Str→Prop),4≤m→RC k (cf p)→RC l (cf q)→k+l≤33000000→p.length≤15→q.length≤100→(∀ r,IsProd p q r→Q (rowD (trimL r)) sto)→CallOK c m (Str.ofString "multiplied") [rowD p,rowD q] sto Q X
noncomputable def PartedOK (c:Cx):Prop:=IsFn c (Str.ofString "parted")∧∀ (p q:List Rat) (a b m:Nat) (sto:Sto) (Q:D→Sto→Prop) (X:Str→Prop),4≤m→RC a (cf p)→RC b (cf q)→a+(p.length+2 - q.length)*(b+1)≤20000000→q≠[]→Rw q→p.length≤15→q.length≤15→(∀ W R,IsDivC a b p q W R→Q (.tup [rowD (trimL W),rowD (trimL R)]) sto)→CallOK c m (Str.ofString "parted") [rowD p,rowD q] sto Q X
noncomputable def LessOK (c:Cx):Prop:=IsFn c (Str.ofString "lessened")∧∀ (p q:List Rat) (k l m:Nat) (sto:Sto) (Q:D→Sto→Prop) (X:Str→Prop),5≤m→RSs k p→RSs l q→k+l+1≤67108864→p.length≤400→q.length≤400→(∀ r,Rw r→(∀ i,cf r i=cf p i - cf q i)→Q (rowD r) sto)→CallOK c m (Str.ofString "lessened") [rowD p,rowD q] sto Q X
theorem lessened_ok (ha:AddedOK c) (hs:ScaleOK c 4 (Str.ofString "scaled")) {ps v:List Str} (hf:FnIs c (Str.ofString "lessened") ps v s_lessened) (hps:ps.length=2):LessOK c:=by
 refine ⟨hf.isFn,fun p q k l m sto Q X hm hp hq hkl hpl hql h=>?_⟩
 obtain ⟨n,rfl⟩:∃ n,m=n+1:=⟨m - 1,by exact o425 hm⟩
 refine fn_call CO EO RO hf hps.symm ?_
 unfold s_lessened
 walk_at "m"
 refine e_call ha.1 ?_
 walk_at "m"
 refine e_call hs.1 ?_
 walk_at "m"
 refine ⟨by exact Nat.le_of_ble_eq_true rfl,?_⟩
 walk_at "m"
 rw [fr_int]
 have em:(((-1:Int)):Rat)=-1:=rfl
 rw [em]
 refine hs.2 q (-1) l 1 _ _ _ _ (by exact o426 hm) hq rs_mone (by exact lin [_,_] [] [.nl (.a (.a (.x 0) (.x 1)) (.k 1)) (.k 67108864)] [] (.nl (.a (.x 1) (.k 1)) (.k 67108864)) (.l 1 [1]) rfl hkl) hql ?_
 walk_at "m"
 have ll:=trim_len (q.map (·*(-1)))
 rw [List.length_map] at ll
 refine ha.2 p _ k (l+1) _ _ _ _ (by exact o426 hm) hp (fun i=>by rw [cf_mulR]; exact rs_mulR (hq i) rs_mone) (by exact lin [_,_] [] [.nl (.a (.a (.x 0) (.x 1)) (.k 1)) (.k 67108864)] [] (.nl (.a (.x 0) (.a (.x 1) (.k 1))) (.k 67108864)) (.l 1 [1]) rfl hkl) hpl (by exact lin [_,_] [] [.nl (.x 0) (.k 400),.nl (.x 1) (.x 0)] [] (.nl (.x 1) (.k 400)) (.l 1 [1,1]) rfl hql ll) fun r hr=>?_
 refine ret_plain (h _ (rw_trim r) fun i=>?_)
 rw [cf_trim,hr i,cf_mulR]; grind
theorem shared_ok (hu:c.cs (Str.ofString "UNIT")=some (rowD [1])) (hpt:PartedOK c) (hmu:MultOK c) (hle:LessOK c) (hpa:PartOK c 3 (Str.ofString "part_of")) (hsc:ScaleOK c 4 (Str.ofString "scaled")) {ps v:List Str} (hf:FnIs c (Str.ofString "shared") ps v s_shared) (hps:ps.length=2) {p q:List Rat} {b:Nat} (hp:Rw p) (hq:Rw q) (kp:RC b (cf p)) (kq:RC b (cf q)) (hb:b≤350) (lp:p.length≤15) (lq:q.length≤15) {m:Nat} (hm:6≤m) {sto:Sto} {Q:D→Sto→Prop} {X:Str→Prop}
  (h:∀ G S T,ShO p q G S T b→Q (.tup [rowD G,rowD S,rowD T]) sto):CallOK c m (Str.ofString "shared") [rowD p,rowD q] sto Q X:=by
 obtain ⟨n,rfl⟩:∃ n,m=n+1:=⟨m - 1,by exact o430 hm⟩
 refine fn_call CO EO RO hf hps.symm ?_
 unfold s_shared
 walk_at "m"
 refine e_glob hu ?_
 walk_at "m"
 refine ⟨by exact Nat.le_of_ble_eq_true rfl,?_⟩
 walk_at "m"
 refine ⟨by exact Nat.le_of_ble_eq_true rfl,?_⟩
 walk_at "m"
 refine ⟨by exact Nat.le_of_ble_eq_true rfl,?_⟩
 walk_at "m"
 refine e_glob hu ?_
 walk_at "m"
 refine ⟨by exact Nat.le_of_ble_eq_true rfl,?_⟩
 walk_at "m"
 have hx:shX b≤1160000:=by show 98*(33*(b+7)+2)≤1160000; exact lin [_] [] [.nl (.x 0) (.k 350)] [] (.nl (.m 98 (.a (.m 33 (.a (.x 0) (.k 7))) (.k 2))) (.k 1160000)) (.l 1 [3234]) rfl hb
 refine g_while (fun σ=>∃ (A S T B U V:List Rat),ShJ p q A S T B U V b∧σ.loc 2=some (.tup [rowD A,rowD S,rowD T])∧σ.loc 3=some (.tup [rowD B,rowD U,rowD V])) (fun σ=>match σ.loc 3 with | some (.tup (.tup ds :: _))=>ds.length | _=>0) ?_ ?_
 ·exact ⟨p,[1],[],q,[],[1],ShJ.start hp hq kp kq lp lq,rfl,rfl⟩
 rintro σ ⟨A,S,T,B,U,V,I,h2,h3⟩
 obtain ⟨cA,cS,cT,cBs⟩:=I.rc
 generalize shX b=x at hx cA cS cT cBs
 have lA:=I.lA
 have lB:=I.lB
 have lS:=I.lS
 have lT:=I.lT
 have lU:=I.lU
 have lV:=I.lV
 walk_at "m"
 refine i_tup (by exact Nat.le_of_ble_eq_true rfl) rfl ?_
 walk_at "m"
 refine ⟨by exact Nat.le_of_ble_eq_true rfl,?_⟩
 refine c_neD (eq_rows B []) ?_
 walk_at "m"
 refine if_b (fun hb=>?_) fun hb=>?_
 ·have hB:B≠[]:=by simpa using hb
  have hB1:1≤B.length:=List.length_pos_iff.mpr hB
  obtain ⟨cB,cU,cV⟩:=cBs hB
  have hab:x+(A.length+2 - B.length)*(x+1)≤20000000:=by
   have:(A.length+2 - B.length)*(x+1)≤16*1160001:=Nat.mul_le_mul (by exact o432 lA hB1) (by exact o433 hx)
   exact lin [_,_] [] [.nl (.x 0) (.k 1160000),.nl (.x 1) (.m 16 (.k 1160001))] [] (.nl (.a (.x 0) (.x 1)) (.k 20000000)) (.l 1 [1,1]) rfl hx this
  have hw:x+(A.length+1 - B.length)*(x+1)≤20000000:=by
   have:(A.length+1 - B.length)*(x+1)≤15*1160001:=Nat.mul_le_mul (by exact o435 lA hB1) (by exact o433 hx)
   exact lin [_,_] [] [.nl (.x 0) (.k 1160000),.nl (.x 1) (.m 15 (.k 1160001))] [] (.nl (.a (.x 0) (.x 1)) (.k 20000000)) (.l 1 [1,1]) rfl hx this
  walk_at "m"
  refine e_call hpt.1 ?_
  walk_at "m"
  refine i_tup (by exact Nat.le_of_ble_eq_true rfl) rfl ?_
  walk_at "m"
  refine i_tup (by exact Nat.le_of_ble_eq_true rfl) rfl ?_
  walk_at "m"
  refine hpt.2 A B x x _ _ _ _ (by exact o437 hm) cA cB hab hB I.wB (by exact o438 lA) (by exact o438 lB) fun W R hD=>?_
  refine ⟨_,rfl,rfl,?_⟩
  have kW:=hD.2.2.1.trim
  have lW:=hD.2.2.2.2
  have lw:=trim_len W
  generalize x+(A.length+1 - B.length)*(x+1)=w at hw kW
  walk_at "m"
  refine e_call hle.1 ?_
  walk_at "m"
  refine i_tup (by exact Nat.le_of_ble_eq_true rfl) rfl ?_
  walk_at "m"
  refine e_call hmu.1 ?_
  walk_at "m"
  refine i_tup (by exact Nat.le_of_ble_eq_true rfl) rfl ?_
  walk_at "m"
  refine hmu.2 (trimL W) U w x _ _ _ _ (by exact o437 hm) kW cU (by exact o439 hx hw) (by exact o440 lA hB1 lW lw) (by exact o441 lU) fun r hr=>?_
  have kr:RC (w+x+4) (cf r):=(kW.prod cU (by exact o440 lA hB1 lW lw)).cong hr
  have lr:(trimL r).length≤400:=Nat.le_trans (rw_len' (n:=W.length+U.length) (rw_trim r) fun j hj=>by
   rw [cf_trim,hr j,cv_cvn,cvn_ge (N:=W.length) (M:=U.length) (fun i hi=>cf_ge (by exact o264 lw hi)) (fun i hi=>cf_ge hi) (by exact o260 hj)]) (by exact o442 lA lU lW)
  walk_at "m"
  refine hle.2 S (trimL r) x _ _ _ _ _ (by exact o443 hm) (fun i=>cS.rs i) (fun i=>kr.trim.rs i) (by exact o444 hx hw) (by exact o445 lS) lr fun F hF eF=>?_
  walk_at "m"
  refine e_call hle.1 ?_
  walk_at "m"
  refine i_tup (by exact Nat.le_of_ble_eq_true rfl) rfl ?_
  walk_at "m"
  refine e_call hmu.1 ?_
  walk_at "m"
  refine i_tup (by exact Nat.le_of_ble_eq_true rfl) rfl ?_
  walk_at "m"
  refine hmu.2 (trimL W) V w x _ _ _ _ (by exact o437 hm) kW cV (by exact o439 hx hw) (by exact o440 lA hB1 lW lw) (by exact o441 lV) fun t ht=>?_
  have kt:RC (w+x+4) (cf t):=(kW.prod cV (by exact o440 lA hB1 lW lw)).cong ht
  have lt:(trimL t).length≤400:=Nat.le_trans (rw_len' (n:=W.length+V.length) (rw_trim t) fun j hj=>by
   rw [cf_trim,ht j,cv_cvn,cvn_ge (N:=W.length) (M:=V.length) (fun i hi=>cf_ge (by exact o264 lw hi)) (fun i hi=>cf_ge hi) (by exact o260 hj)]) (by exact o442 lA lV lW)
  walk_at "m"
  refine hle.2 T (trimL t) x _ _ _ _ _ (by exact o443 hm) (fun i=>cT.rs i) (fun i=>kt.trim.rs i) (by exact o444 hx hw) (by exact o445 lT) lt fun H hH eH=>?_
  walk_at "m"
  refine ⟨by exact Nat.le_of_ble_eq_true rfl,?_⟩
  walk_at "m"
  have st:=I.step hB hD hF hH (fun i=>by rw [eF i,cf_trim,hr i,cv_cvn]) (fun i=>by rw [eH i,cf_trim,ht i,cv_cvn])
  refine ⟨⟨_,_,_,_,_,_,st.1,rfl,rfl⟩,?_⟩
  rw [h3]
  show ((trimL R).map frD).length<(B.map frD).length
  rw [List.length_map,List.length_map]
  exact st.2
 ·have hB:B=[]:=by simpa using hb
  subst hB
  walk_at "m"
  refine i_tup (by exact Nat.le_of_ble_eq_true rfl) rfl ?_
  walk_at "m"
  refine ⟨by exact Nat.le_of_ble_eq_true rfl,?_⟩
  refine c_eqD (eq_rows A []) ?_
  walk_at "m"
  refine if_b (fun hb=>?_) fun hb=>?_
  ·have hA:A=[]:=beq_iff_eq.mp hb
   subst hA
   walk_at "m"
   exact ret_plain (h _ _ _ I.out0)
  ·have hA:A≠[]:=beq_eq_false_iff_ne.mp hb
   have hA1:1≤A.length:=List.length_pos_iff.mpr hA
   have hA0:cf A (A.length - 1)≠0:=I.wA.resolve_left hA
   walk_at "m"
   refine e_call hpa.1 ?_
   walk_at "m"
   refine ⟨by exact Nat.le_of_ble_eq_true rfl,?_⟩
   walk_at "m"
   refine i_tup (by exact Nat.le_of_ble_eq_true rfl) rfl ?_
   walk_at "m"
   refine i_tup (by exact Mine.mlim (by exact o196 lA)) (nth_last hA) ?_
   walk_at "m"
   rw [fr_int]
   have em:(((1:Int)):Rat)=1:=rfl
   rw [em]
   refine hpa.2 1 _ 1 x _ _ _ _ (by exact lin [_] [] [.nl (.k 6) (.a (.x 0) (.k 1))] [] (.nl (.k 3) (.x 0)) (.l 1 [1]) rfl hm) rs_one (cA.rs _) (by exact lin [_] [] [.nl (.x 0) (.k 1160000)] [] (.nl (.a (.k 1) (.x 0)) (.k 67108864)) (.l 1 [1]) rfl hx) hA0 ?_
   have rx:RS (1+x) (1 / cf A (A.length - 1)):=rs_divR rs_one (cA.rs _) hA0
   obtain ⟨y,hy⟩:∃ y,y=1 / cf A (A.length - 1):=⟨_,rfl⟩
   rw [← hy] at rx ⊢
   walk_at "m"
   refine e_call hsc.1 ?_
   walk_at "m"
   refine i_tup (by exact Nat.le_of_ble_eq_true rfl) rfl ?_
   walk_at "m"
   refine hsc.2 A y x (1+x) _ _ _ _ (by exact o437 hm) (fun i=>cA.rs i) rx (by exact o448 hx) (by exact o449 lA) ?_
   walk_at "m"
   refine e_call hsc.1 ?_
   walk_at "m"
   refine i_tup (by exact Nat.le_of_ble_eq_true rfl) rfl ?_
   walk_at "m"
   refine hsc.2 S y x (1+x) _ _ _ _ (by exact o437 hm) (fun i=>cS.rs i) rx (by exact o448 hx) (by exact o445 lS) ?_
   walk_at "m"
   refine e_call hsc.1 ?_
   walk_at "m"
   refine i_tup (by exact Nat.le_of_ble_eq_true rfl) rfl ?_
   walk_at "m"
   refine hsc.2 T y x (1+x) _ _ _ _ (by exact o437 hm) (fun i=>cT.rs i) rx (by exact o448 hx) (by exact o445 lT) ?_
   walk_at "m"
   refine ⟨by exact Nat.le_of_ble_eq_true rfl,?_⟩
   walk_at "m"
   exact ret_plain (h _ _ _ (I.out1 hA hy))
end
end Mine
namespace Mine
open PySem
section
variable {c:Cx} (CO:CxOK c) (EO:ExcOK c) (RO:RzOK c)
include CO EO RO
end
end Mine
namespace Mine
open PySem
theorem rc_list {B:Nat} {p:List Rat} (d:Int) (hd:d≠0) (hB:d.natAbs<2 ^ B) (h:∀ x∈p,∃ z:Int,z.natAbs<2 ^ B∧x*(d:Rat)=(z:Rat)):RC B (cf p):=by
 have all:∀ i,∃ z:Int,z.natAbs<2 ^ B∧cf p i*(d:Rat)=(z:Rat):=fun i=>by
  by_cases z:i<p.length
  ·rw [cf_lt z]; exact h _ (List.getElem_mem _)
  ·exact ⟨0,Nat.pow_pos (by decide),by rw [cf_ge (by exact o59 z),Rat.zero_mul]; rfl⟩
 exact ⟨d,fun i=>(all i).choose,hd,hB,fun i=>(all i).choose_spec.1,fun i=>(all i).choose_spec.2⟩
theorem rc_rows {k:Nat}:∀ (p:List Rat),(∀ x∈p,RS k x)→∃ d:Int,d≠0∧d.natAbs<2 ^ (k*p.length+1)∧∀ x∈p,∃ z:Int,z.natAbs<2 ^ (k*p.length+1)∧x*(d:Rat)=(z:Rat)
 | [],h=>⟨1,by decide,by show 1<2 ^ (k*0+1); rw [Nat.mul_zero]; decide,fun x hx=>by cases hx⟩
 | y :: p,h=>by
  obtain ⟨d,h1,h2,h3⟩:=rc_rows p fun x hx=>h x (.tail _ hx)
  have hy:=h y (.head _)
  have e:y*((y.den:Int):Rat)=((y.num:Int):Rat):=by
   have h:=Rat.num_divInt_den y
   rw [Rat.divInt_eq_div] at h
   have k:=Rat.div_mul_cancel (a:=((y.num:Int):Rat)) (cast_ne (den_ne y))
   rw [h] at k
   exact k
  have eB:k*(y :: p).length+1=k*p.length+1+k:=by rw [List.length_cons,Nat.mul_add,Nat.mul_one]; exact linN [_,_] [] [] [] (.a (.a (.x 0) (.x 1)) (.k 1)) (.a (.a (.x 0) (.k 1)) (.x 1)) (.l 1 []) (.l 1 []) rfl
  rw [eB]
  refine ⟨d*y.den,Int.mul_ne_zero h1 (den_ne y),pow_mul h2 (den_nat hy),fun x hx=>?_⟩
  rcases List.mem_cons.mp hx with rfl | hx
  ·refine ⟨d*x.num,pow_mul h2 hy.1,?_⟩
   rw [Rat.intCast_mul,Rat.intCast_mul,← e]; grind
  ·obtain ⟨z,hz,ez⟩:=h3 x hx
   refine ⟨z*y.den,pow_mul hz (den_nat hy),?_⟩
   rw [Rat.intCast_mul,Rat.intCast_mul,← ez]; grind
theorem rc_of {k B:Nat} {p:List Rat} (h:RSs k p) (hB:k*p.length+1≤B):RC B (cf p):=by
 obtain ⟨d,h1,h2,h3⟩:=rc_rows (k:=k) p fun x hx=>by
  obtain ⟨i,hi⟩:=List.getElem?_of_mem hx
  have e:cf p i=x:=by unfold cf; rw [hi]; rfl
  exact e ▸ h i
 exact (rc_list d h1 h2 h3).mono hB
theorem fmod_lt {a:Int} {m:Nat} (hm:0<m):∃ i:Nat,i<m∧a.fmod (m:Int)=(i:Int):=by
 have e:a.fmod (m:Int)=a % (m:Int):=Int.fmod_eq_emod_of_nonneg a (by exact o117)
 have h1:=Int.emod_nonneg a (show (m:Int)≠0 by exact o451 hm)
 have h2:=Int.emod_lt_of_pos a (show 0<(m:Int) by exact o71 hm)
 exact ⟨(a % (m:Int)).toNat,by exact o452 h1 h2,by rw [e]; exact o453 h1⟩
section
variable {c:Cx} (CO:CxOK c) (EO:ExcOK c) (RO:RzOK c)
include CO EO RO
end
end Mine
namespace Mine
noncomputable def Df (g a:Nat→Rat):Prop:=∃ r,Fin0 r∧a=cvn r g
section
variable {R:Type} [Lean.Grind.CommRing R]
theorem rg_assoc (a b c:R):a*b*c=a*(b*c):=by grind
theorem rg_comb {r t g S T p q:R} (hp:p=r*g) (hq:q=t*g):S*p+T*q=(S*r+T*t)*g:=by grind
end
theorem fin_one:Fin0 one0:=⟨1,fun i hi=>if_neg (by exact o261 hi)⟩
theorem fin_none:Fin0 (fun _=>0):=⟨0,fun _ _=>rfl⟩
theorem df_self (g:Nat→Rat):Df g g:=⟨one0,fin_one,(funext (cvn_one g)).symm⟩
theorem df_none (g:Nat→Rat):Df g (fun _=>0):=⟨fun _=>0,fin_none,(funext (cvn_none g)).symm⟩
theorem df_trans {f g a:Nat→Rat} (h:Df f g) (k:Df g a):Df f a:=by
 obtain ⟨r,fr,er⟩:=h
 obtain ⟨t,ft,et⟩:=k
 exact ⟨cvn t r,fin_cvn ft fr,by rw [et,er]; exact (@rg_assoc (Nat→Rat) psRing t r f).symm⟩
theorem df_comb {g p q S T:Nat→Rat} (h:Df g p) (k:Df g q) (fS:Fin0 S) (fT:Fin0 T):Df g (fun j=>cvn S p j+cvn T q j):=by
 obtain ⟨r,fr,er⟩:=h
 obtain ⟨t,ft,et⟩:=k
 exact ⟨fun j=>cvn S r j+cvn T t j,fin_add (fin_cvn fS fr) (fin_cvn fT ft),@rg_comb (Nat→Rat) psRing r t g S T p q er et⟩
end Mine
namespace Mine
noncomputable def Dg (k:Nat) (a:Nat→Rat):Prop:=a k≠0∧Bd (k+1) a
theorem Dg.fin {k:Nat} {a:Nat→Rat} (h:Dg k a):Fin0 a:=⟨_,h.2⟩
theorem Dg.uniq {k l:Nat} {a:Nat→Rat} (h:Dg k a) (h':Dg l a):k=l:=by
 by_cases z:k<l
 ·exact absurd (h.2 l (by exact o69 z)) h'.1
 ·by_cases z2:l<k
  ·exact absurd (h'.2 k (by exact o69 z2)) h.1
  ·exact linN [_,_] [] [.nl (.x 1) (.x 0),.nl (.x 0) (.x 1)] [] (.x 0) (.x 1) (.l 1 [0,1]) (.l 1 [1]) rfl (Nat.not_lt.mp z) (Nat.not_lt.mp z2)
theorem Dg.mul {k l:Nat} {a b:Nat→Rat} (h:Dg k a) (h':Dg l b):Dg (k+l) (cvn a b):=⟨by
 rw [lead_cvn h.2 h'.2]
 exact fun z=>(Rat.mul_eq_zero.mp z).elim h.1 h'.1,bd_cvn h.2 h'.2 (by exact lin [_,_] [] [] [] (.nl (.a (.a (.x 0) (.k 1)) (.a (.x 1) (.k 1))) (.a (.a (.a (.x 0) (.x 1)) (.k 1)) (.k 1))) (.l 1 []) rfl)⟩
theorem dg_of {a:Nat→Rat} (f:Fin0 a):a=(fun _=>0)∨∃ k,Dg k a:=by
 obtain ⟨n,f⟩:=f
 rcases bd_deg f with h | ⟨k,_,h1,h2⟩
 ·exact .inl (funext h)
 ·exact .inr ⟨k,h1,h2⟩
theorem Df.deg {g f:Nat→Rat} {k:Nat} (hf:Dg k f) (fg:Fin0 g) (h:Df g f):∃ j,j≤k∧Dg j g∧∃ r,Dg (k - j) r∧f=cvn r g:=by
 obtain ⟨r,fr,er⟩:=h
 rcases dg_of fg with z | ⟨j,hj⟩
 ·exact absurd (by rw [er,z,cvn_comm,cvn_none]) hf.1
 ·rcases dg_of fr with z | ⟨i,hi⟩
  ·exact absurd (by rw [er,z,cvn_none]) hf.1
  ·have e:=(hi.mul hj).uniq (er ▸ hf)
   exact ⟨j,by exact lin [_,_,_] [] [.ne (.a (.x 0) (.x 1)) (.x 2)] [] (.nl (.x 1) (.x 2)) (.l 1 [1]) rfl e,hj,r,by rw [← e,Nat.add_sub_cancel]; exact hi,er⟩
theorem dg_zero {a:Nat→Rat} (h:Dg 0 a):a=fun j=>a 0*one0 j:=funext fun j=>by
 by_cases z:j=0
 ·subst z; show _=a 0*1; rw [Rat.mul_one]
 ·rw [h.2 j (by exact o289 z),show one0 j=0 from if_neg z,Rat.mul_zero]
section
variable {R:Type} [Lean.Grind.CommRing R]
end
end Mine
namespace Mine
noncomputable def der (a:Nat→Rat) (j:Nat):Rat:=((j+1:Nat):Rat)*a (j+1)
theorem fin_pow {a:Nat→Rat} (h:Fin0 a):∀ n,Fin0 (psPow a n)
 | 0=>by show Fin0 (psNat 1); rw [psNat_one]; exact fin_one
 | n+1=>fin_cvn (fin_pow h n) h
end Mine
namespace Mine
section
variable {R:Type} [Lean.Grind.CommRing R]
end
theorem dg_one:Dg 0 one0:=⟨by show (1:Rat)≠0; decide,fun i hi=>if_neg (by exact o457 hi)⟩
theorem der_dg {a:Nat→Rat} {k:Nat} (h:Dg (k+1) a):Dg k (der a):=⟨fun z=>by
 have z:((k+1:Nat):Rat)*a (k+1)=0:=z
 rcases Rat.mul_eq_zero.mp z with z | z
 ·exact absurd (Rat.natCast_eq_zero_iff.mp z) (by exact o262)
 ·exact h.1 z,fun i hi=>by show _*a (i+1)=0; rw [h.2 (i+1) (by exact lin [_,_] [] [.nl (.a (.x 0) (.k 1)) (.x 1)] [] (.nl (.a (.a (.x 0) (.k 1)) (.k 1)) (.a (.x 1) (.k 1))) (.l 1 [1]) rfl hi),Rat.mul_zero]⟩
end Mine
namespace Mine
section
variable {R:Type} [Lean.Grind.CommRing R]
theorem rg_c10 {X Y B A:R}:X*B*(Y*A)=X*Y*(B*A):=by grind
end
noncomputable def prodP (xs:List (List Rat×Nat)):Nat→Rat:=xs.foldl (fun a x=>cvn a (psPow (cf x.1) x.2)) one0
theorem prodP_nil:prodP []=one0:=rfl
theorem prodP_snoc (xs:List (List Rat×Nat)) (x:List Rat×Nat):prodP (xs ++ [x])=cvn (prodP xs) (psPow (cf x.1) x.2):=by
 unfold prodP
 rw [List.foldl_append]
 rfl
theorem snoc_ind {α:Type} {p:List α→Prop} (h0:p []) (h:∀ xs x,p xs→p (xs ++ [x])) (xs:List α):p xs:=by
 rw [← List.reverse_reverse xs]
 induction xs.reverse with
 | nil=>exact h0
 | cons x l ih=>rw [List.reverse_cons]; exact h _ _ ih
theorem fin_prod (xs:List (List Rat×Nat)):Fin0 (prodP xs):=by
 refine snoc_ind (p:=fun xs=>Fin0 (prodP xs)) fin_one (fun xs x h=>?_) xs
 rw [prodP_snoc]
 exact fin_cvn h (fin_pow (fin_cf _) _)
theorem df_left {a b:Nat→Rat} (fb:Fin0 b):Df a (cvn a b):=⟨b,fb,funext fun j=>cvn_comm a b j⟩
theorem df_right {a b:Nat→Rat} (fa:Fin0 a):Df b (cvn a b):=⟨a,fa,rfl⟩
theorem df_prod {ys:List (List Rat×Nat)} (xs:List (List Rat×Nat)):Df (prodP ys) (prodP (ys ++ xs)):=by
 refine snoc_ind (p:=fun xs=>Df (prodP ys) (prodP (ys ++ xs))) (by rw [List.append_nil]; exact df_self _) (fun xs x h=>?_) xs
 rw [← List.append_assoc,prodP_snoc]
 exact df_trans h (df_left (fin_pow (fin_cf _) _))
theorem df_mem {xs:List (List Rat×Nat)} {x:List Rat×Nat} (h:x∈xs):Df (psPow (cf x.1) x.2) (prodP xs):=by
 obtain ⟨s,t,e⟩:=List.append_of_mem h
 have:xs=(s ++ [x]) ++ t:=by rw [e]; simp
 rw [this]
 refine df_trans ?_ (df_prod t)
 rw [prodP_snoc]
 exact df_right (fin_prod s)
theorem df_self_pow {a:Nat→Rat} (fa:Fin0 a) {n:Nat} (h:1≤n):Df a (psPow a n):=by
 cases n with
 | zero=>omega
 | succ n=>exact df_right (fin_pow fa n)
theorem pow_one0:∀ n,psPow one0 n=one0
 | 0=>psNat_one
 | n+1=>by show cvn (psPow one0 n) one0=_; rw [pow_one0 n]; exact funext (cvn_one _)
theorem pow_mulF (a b:Nat→Rat):∀ n,psPow (cvn a b) n=cvn (psPow a n) (psPow b n)
 | 0=>by show psNat 1=cvn (psNat 1) (psNat 1); rw [psNat_one]; exact (funext (cvn_one _)).symm
 | n+1=>by
  show cvn (psPow (cvn a b) n) (cvn a b)=cvn (cvn (psPow a n) a) (cvn (psPow b n) b)
  rw [pow_mulF a b n]
  exact (@rg_c10 (Nat→Rat) psRing (psPow a n) (psPow b n) a b).symm
open Classical in
theorem dg_cf {p:List Rat} (w:Rw p) (h:p≠[]):Dg (p.length - 1) (cf p):=by
 have:1≤p.length:=List.length_pos_iff.mpr h
 exact ⟨w.resolve_left h,fun i hi=>cf_ge (by exact o335 hi)⟩
end Mine
namespace Mine
section
variable {R:Type} [Lean.Grind.CommRing R]
theorem rg_p1 {X Y Z A N:R}:X*(Y*Z)*(N*A)=X*Y*(Z*A)*N:=by grind
theorem rg_p2 {X Y Z:R}:X*(Y*Z)=X*Z*Y:=by grind
end
noncomputable def Mon (p:List Rat):Prop :=
 (Rw p)∧
 (p≠[])∧
 (cf p (p.length - 1)=1)
section
variable {p:List Rat} (h_:Mon p)
include h_
theorem Mon.w:Rw p:=h_.1
theorem Mon.n:p≠[]:=h_.2.1
theorem Mon.m:cf p (p.length - 1)=1:=h_.2.2
end
theorem Mon.dg {p:List Rat} (h:Mon p):Dg (p.length - 1) (cf p):=dg_cf h.w h.n
theorem Mon.pos {p:List Rat} (h:Mon p):1≤p.length:=List.length_pos_iff.mpr h.n
theorem Mon.one {p:List Rat} (h:Mon p) (l:p.length≤1):cf p=one0:=by
 have l1:p.length=1:=Nat.le_antisymm l h.pos
 have m:=h.m
 rw [l1] at m
 have d:=h.dg
 rw [l1] at d
 rw [dg_zero d,show cf p 0=1 from m]
 funext j
 exact Rat.one_mul _
theorem PwI.less {w:Nat→Rat} {L M A B N:List Rat} {k:Nat} {xs:List (List Rat×Nat)} (hA:Mon A) (hM:Mon M) (hN:Mon N) (eM:cf M=cvn (cf N) (cf A)):N.length+A.length=M.length+1:=by
 have:=(hN.dg.mul hA.dg).uniq (eM ▸ hM.dg)
 have a:=hA.pos
 have b:=hM.pos
 have c:=hN.pos
 exact o459 this a b c
end Mine
namespace Mine
theorem rc_der {b:Nat} {p:List Rat} (h:RC b (cf p)) (l:p.length≤15):RC (b+4) (der (cf p)):=by
 obtain ⟨d,z,h1,h2,h3,h4⟩:=h
 refine ⟨d,fun i=>((i+1:Nat):Int)*z (i+1),h1,Nat.lt_of_lt_of_le h2 (Nat.pow_le_pow_right (by decide) (Nat.le_add_right _ _)),fun i=>?_,fun i=>?_⟩
 ·by_cases c:i+1<16
  ·have e1:2 ^ (b+4)=16*2 ^ b:=by rw [Nat.pow_add,Nat.mul_comm]
   rw [Int.natAbs_mul,e1]
   show (i+1)*(z (i+1)).natAbs<_
   exact Nat.lt_of_le_of_lt (Nat.mul_le_mul (Nat.le_of_lt c) (Nat.le_refl _)) (Nat.mul_lt_mul_of_pos_left (h3 _) (by decide))
  ·have e1:=h4 (i+1)
   rw [cf_ge (by exact lin [_,_] [] [.nl (.x 0) (.k 15),.nl (.k 16) (.a (.x 1) (.k 1))] [] (.nl (.x 0) (.a (.x 1) (.k 1))) (.l 1 [1,1]) rfl l (Nat.not_lt.mp c)),Rat.zero_mul] at e1
   have e2:z (i+1)=0:=Rat.intCast_eq_zero_iff.mp e1.symm
   show (((i+1:Nat):Int)*z (i+1)).natAbs<_
   rw [e2,Int.mul_zero]
   exact Nat.pow_pos (by decide)
 ·show ((i+1:Nat):Rat)*cf p (i+1)*(d:Rat)=_
  rw [Rat.mul_assoc,h4,Rat.intCast_mul]
  rfl
theorem mon_len {w:Nat→Rat} {p:List Rat} {k:Nat} (hw:Dg k w) (hp:Mon p) (d:Df (cf p) w):p.length≤k+1:=by
 obtain ⟨j,h1,h2,_⟩:=d.deg hw (fin_cf p)
 have:=h2.uniq hp.dg
 have:=hp.pos
 omega
theorem fac_mon {w:Nat→Rat} {p:List Rat} {k:Nat} (hw:Dg k w) (hk:k≤14) (kw:RC 200 w) (hp:Mon p) (d:Df (cf p) w):p.length≤15∧RC 335 (cf p):=by
 refine ⟨Nat.le_trans (mon_len hw hp d) (by exact o461 hk),?_⟩
 obtain ⟨j,h1,h2,r,hr,er⟩:=d.deg hw (fin_cf p)
 have e:=h2.uniq hp.dg
 have k:=fac_rc kw (n:=15) (by decide) (hw.2.mono (by exact o461 hk)) h2.1 h2.2 hr.1 hr.2 (fun j=>by rw [er,cvn_comm]) (by exact lin [_,_] [] [.nl (.x 0) (.k 14),.nl (.x 1) (.x 0)] [] (.nt (.x 1) (.k 15)) (.l 1 [1,1]) rfl hk h1)
 refine (k.cong fun i=>?_).mono (by decide)
 rw [e,hp.m,show (1:Rat) / 1=1 by decide +kernel,Rat.mul_one]
theorem ledL_mon {p:List Rat} {b:Nat} (w:Rw p) (p0:p≠[]) (kp:RC b (cf p)):Mon (ledL p)∧RC b (cf (ledL p))∧(ledL p).length=p.length∧∀ i,cf (ledL p) i*cf p (p.length - 1)=cf p i:=by
 obtain ⟨h1,h2,x,y,h3,h4,h5⟩:=ledL_spec w
 obtain ⟨h6,h7⟩:=h5 p0
 have n0:ledL p≠[]:=fun z=>by
  have:(ledL p).length=0:=by rw [z]; rfl
  rw [h2] at this
  exact p0 (List.eq_nil_of_length_eq_zero this)
 have l0:cf p (p.length - 1)≠0:=w.resolve_left p0
 refine ⟨⟨h1,n0,h6⟩,?_,h2,fun i=>?_⟩
 ·refine (kp.monic (n:=p.length - 1) l0).cong fun i=>?_
  rw [h4 i,h7]
 ·rw [h4 i,h7,Rat.mul_assoc,Rat.div_mul_cancel l0,Rat.mul_one]
theorem pow_dg {a:Nat→Rat} {k:Nat} (h:Dg k a) (hk:1≤k):∀ n,∃ j,n≤j∧Dg j (psPow a n)
 | 0=>⟨0,Nat.le_refl _,by show Dg 0 (psNat 1); rw [psNat_one]; exact dg_one⟩
 | n+1=>by
  obtain ⟨j,hj,h2⟩:=pow_dg h hk n
  exact ⟨j+k,by exact lin [_,_,_] [] [.nl (.k 1) (.x 0),.nl (.x 1) (.x 2)] [] (.nl (.a (.x 1) (.k 1)) (.a (.x 2) (.x 0))) (.l 1 [1,1]) rfl hk hj,h2.mul h⟩
end Mine
namespace Mine
noncomputable def OneL (x:List Rat×Nat):Prop:=Mon x.1∧1<x.1.length∧1≤x.2
noncomputable def PtsL (xs:List (List Rat×Nat)):Prop:=∀ x∈xs,OneL x
theorem ptsL_nil:PtsL []:=fun x h=>absurd h List.not_mem_nil
theorem ptsL_snoc {xs:List (List Rat×Nat)} {x:List Rat×Nat} (h:PtsL xs) (k:OneL x):PtsL (xs ++ [x]):=fun y hy=>by
 rcases List.mem_append.mp hy with hy | hy
 ·exact h y hy
 ·rw [List.mem_singleton.mp hy]; exact k
noncomputable def addL (xs:List (List Rat×Nat)) (p:List Rat) (k:Nat):List (List Rat×Nat):=if 1<p.length then xs ++ [(p,k)] else xs
theorem addL_one {xs:List (List Rat×Nat)} {p:List Rat} {k:Nat} (h:PtsL xs) (mp:Mon p) (k1:1≤k):PtsL (addL xs p k):=by
 unfold addL
 by_cases z:1<p.length
 ·rw [if_pos z]; exact ptsL_snoc h ⟨mp,z,k1⟩
 ·rw [if_neg z]; exact h
theorem addL_prod {xs:List (List Rat×Nat)} {p:List Rat} {k:Nat} (mp:Mon p):prodP (addL xs p k)=cvn (prodP xs) (psPow (cf p) k):=by
 unfold addL
 by_cases z:1<p.length
 ·rw [if_pos z,prodP_snoc]
 ·rw [if_neg z,mp.one (Nat.le_of_not_lt z),pow_one0]
  exact funext fun j=>((cvn_comm _ _ j).trans (cvn_one _ j)).symm
noncomputable def PwL (w:Nat→Rat) (L M:List Rat) (k:Nat) (xs:List (List Rat×Nat)):Prop :=
 Mon L∧Mon M∧PtsL xs∧1≤k∧w=cvn (cvn (prodP xs) (psPow (cf L) k)) (cf M)
theorem pwL_start {W G L:List Rat} (hG:Mon G) (hL:Mon L) (e:cf W=cvn (cf L) (cf G)):PwL (cf W) L G 1 []:=by
 refine ⟨hL,hG,ptsL_nil,Nat.le_refl _,?_⟩
 have:psPow (cf L) 1=cf L:=by show cvn (psNat 1) (cf L)=_; rw [psNat_one]; exact funext (cvn_one _)
 rw [this,prodP_nil,funext (cvn_one (cf L)),e]
theorem pwL_step {w:Nat→Rat} {L M A B N:List Rat} {k:Nat} {xs:List (List Rat×Nat)} (I:PwL w L M k xs) (hA:Mon A) (hB:Mon B) (hN:Mon N) (eL:cf L=cvn (cf B) (cf A)) (eM:cf M=cvn (cf N) (cf A)):PwL w A N (k+1) (addL xs B k):=by
 refine ⟨hA,hN,addL_one I.2.2.1 hB I.2.2.2.1,Nat.le_add_left _ _,?_⟩
 rw [addL_prod hB,I.2.2.2.2,eL,pow_mulF,eM]
 exact @rg_p1 (Nat→Rat) psRing (prodP xs) (psPow (cf B) k) (psPow (cf A) k) (cf A) (cf N)
theorem pwL_facs {w:Nat→Rat} {L M:List Rat} {k:Nat} {xs:List (List Rat×Nat)} (I:PwL w L M k xs):Df (cf L) w∧Df (cf M) w∧Df (prodP xs) w:=by
 obtain ⟨_,_,_,k1,e⟩:=I
 have h3:Df (cvn (prodP xs) (psPow (cf L) k)) w:=e ▸ df_left (fin_cf M)
 exact ⟨df_trans (df_self_pow (fin_cf L) k1) (df_trans (df_right (fin_prod xs)) h3),e ▸ df_right (fin_cvn (fin_prod xs) (fin_pow (fin_cf L) k)),df_trans (df_left (fin_pow (fin_cf L) k)) h3⟩
theorem prodL_dg (xs:List (List Rat×Nat)):PtsL xs→∃ K,xs.length≤K∧Dg K (prodP xs):=by
 refine snoc_ind (p:=fun xs=>PtsL xs→∃ K,xs.length≤K∧Dg K (prodP xs)) (fun _=>⟨0,Nat.le_refl _,dg_one⟩) (fun xs x ih h=>?_) xs
 obtain ⟨K,h1,h2⟩:=ih fun y hy=>h y (List.mem_append_left _ hy)
 obtain ⟨m,l,k⟩:=h x (List.mem_append_right _ (List.mem_singleton.mpr rfl))
 obtain ⟨j,h3,h4⟩:=pow_dg m.dg (by exact o464 l) x.2
 rw [prodP_snoc]
 exact ⟨K+j,by rw [List.length_append]; show xs.length+1≤_; exact lin [_,_,_,_] [] [.nl (.x 0) (.x 1),.nl (.k 1) (.x 2),.nl (.x 2) (.x 3)] [] (.nl (.a (.x 0) (.k 1)) (.a (.x 1) (.x 3))) (.l 1 [1,1,1]) rfl h1 k h3,h2.mul h4⟩
theorem lenL_of {w:Nat→Rat} {k:Nat} {xs:List (List Rat×Nat)} (hw:Dg k w) (h:PtsL xs) (d:Df (prodP xs) w):xs.length≤k:=by
 obtain ⟨K,h1,h2⟩:=prodL_dg xs h
 obtain ⟨j,h3,h4,_⟩:=d.deg hw h2.fin
 have:=h4.uniq h2
 exact lin [_,_,_,_] [] [.nl (.x 0) (.x 1),.nl (.x 2) (.x 3),.ne (.x 2) (.x 1)] [] (.nl (.x 0) (.x 3)) (.l 1 [1,1,-1]) rfl h1 h3 this
theorem dfL_of {w:Nat→Rat} {xs:List (List Rat×Nat)} (h:PtsL xs) (d:Df (prodP xs) w) {x:List Rat×Nat} (hx:x∈xs):Df (cf x.1) w :=
 df_trans (df_trans (df_self_pow (fin_cf _) (h x hx).2.2) (df_mem hx)) d
noncomputable def PtL (w:Nat→Rat) (xs:List (List Rat×Nat)):Prop:=PtsL xs∧∃ M,Mon M∧Df (cf M) (der w)∧w=cvn (prodP xs) (cf M)
theorem PtL.df {w:Nat→Rat} {xs:List (List Rat×Nat)} (h:PtL w xs):Df (prodP xs) w:=by
 obtain ⟨_,M,_,_,e⟩:=h
 exact e ▸ df_left (fin_cf M)
theorem pwL_stop {w:Nat→Rat} {L M G:List Rat} {k:Nat} {xs:List (List Rat×Nat)} (I:PwL w L M k xs) (l:L.length≤1) (d:Df (cf M) (cf G)) (dG:Df (cf G) (der w)):PtL w xs:=by
 refine ⟨I.2.2.1,M,I.2.1,df_trans d dG,?_⟩
 have e:=I.2.2.2.2
 rw [I.1.one l,pow_one0] at e
 rw [e]
 have:cvn (prodP xs) one0=prodP xs:=funext fun j=>(cvn_comm _ _ j).trans (cvn_one _ j)
 rw [this]
theorem cutL_step {p A B:List Rat} {k:Nat} {zs ys:List (List Rat×Nat)} (e:prodP ys=prodP zs) (hA:Mon A) (hB:Mon B) (ep:cf p=cvn (cf B) (cf A)):prodP (addL (addL ys A k) B k)=prodP (zs ++ [(p,k)]):=by
 rw [addL_prod hB,addL_prod hA,prodP_snoc,e]
 show _=cvn (prodP zs) (psPow (cf p) k)
 rw [ep,pow_mulF]
 exact (@rg_p2 (Nat→Rat) psRing (prodP zs) (psPow (cf B) k) (psPow (cf A) k)).symm
theorem mon_of_one {p:List Rat} (hp:Mon p) (d:Df (cf p) one0):p.length≤1:=mon_len dg_one hp d
theorem cf_inj {p q:List Rat} (wp:Rw p) (wq:Rw q) (e:cf p=cf q):p=q:=by
 have hl:∀ {p q:List Rat},Rw p→Rw q→cf p=cf q→p.length≤q.length:=fun {p q} wp wq e=>by
  by_cases z:p=[]
  ·rw [z]; exact Nat.zero_le _
  ·by_cases y:p.length≤q.length
   ·exact y
   ·exact absurd (by rw [e]; exact cf_ge (by exact o57 y)) (wp.resolve_left z)
 have l:p.length=q.length:=Nat.le_antisymm (hl wp wq e) (hl wq wp e.symm)
 refine List.ext_getElem l fun i h1 h2=>?_
 have:=congrFun e i
 unfold cf at this
 simpa [h1,h2] using this
theorem mon_one_eq {p:List Rat} (hp:Mon p) (l:p.length≤1):p=[1]:=by
 match p,hp with
 | [],hp=>exact absurd rfl hp.n
 | [x],hp=>have:x=1:=hp.m; rw [this]
 | _ :: _ :: _,hp=>simp at l
theorem ptL_one {xs:List (List Rat×Nat)} (h:PtL one0 xs):xs=[]:=List.eq_nil_of_length_eq_zero (Nat.le_zero.mp (lenL_of dg_one h.1 h.df))
theorem ptL_two {W:List Rat} {xs:List (List Rat×Nat)} (hW:Mon W) (l:W.length=2) (h:PtL (cf W) xs):xs=[(W,1)]:=by
 obtain ⟨hx,M,mM,dM,e⟩:=h
 have d1:Dg 1 (cf W):=by have:=hW.dg; rw [l] at this; exact this
 have dd:Dg 0 (der (cf W)):=der_dg d1
 have lM:M.length≤1:=mon_len dd mM dM
 rw [mM.one lM] at e
 have e:cf W=prodP xs:=e.trans (funext fun j=>(cvn_comm _ _ j).trans (cvn_one _ j))
 have len:=lenL_of d1 hx (by rw [e]; exact df_self _)
 match xs,hx,e,len with
 | [],hx,e,_=>exact absurd ((e ▸ d1:Dg 1 (prodP [])).uniq dg_one) (by decide)
 | [(p,k)],hx,e,_ =>
  obtain ⟨mp,lp,k1⟩:=hx (p,k) (.head _)
  have e':prodP [(p,k)]=psPow (cf p) k:=(prodP_snoc [] (p,k)).trans (funext (cvn_one _))
  rw [e'] at e
  obtain ⟨j,hj,hd⟩:=pow_dg mp.dg (by have:1<p.length:=lp; exact o464 lp) k
  have hk:j=1:=hd.uniq (e ▸ d1)
  have k1:1≤k:=k1
  obtain rfl:k=1:=by omega
  have:psPow (cf p) 1=cf p:=by show cvn (psNat 1) (cf p)=_; rw [psNat_one]; exact funext (cvn_one _)
  rw [this] at e
  rw [cf_inj hW.w mp.w e]
 | _ :: _ :: _,_,_,len=>simp at len
end Mine
namespace Mine
open PySem
noncomputable def s_led:List S:=[
  .ret (.call (Str.ofString "scaled") [.var 0,.call (Str.ofString "part_of") [.tup [.cint 1,.cint 1],.idx (.var 0) (.neg (.cint 1))]])]
noncomputable def s_powT:List S:=[.assign 5 (.bin .Add (.var 5) (.cint 1)),.assign 3 (.var 6),.assign 2 (.idx (.call (Str.ofString "parted") [.var 2,.var 6]) (.cint 0))]
noncomputable def s_powB:List S:=(.assign 6 (.idx (.call (Str.ofString "shared") [.var 3,.var 2]) (.cint 0))) :: (.assign 7 (.idx (.call (Str.ofString "parted") [.var 3,.var 6]) (.cint 0))) :: (.ifs (.cmp .Gt (.blt .len [.var 7]) (.cint 1)) [.expr (.append (.var 4) (.tup [.var 7,.var 5]))] []) :: s_powT
noncomputable def s_by_powers:List S:=[
  .assign 1 (.call (Str.ofString "led") [.var 0]),
  .assign 2 (.idx (.call (Str.ofString "shared") [.var 1,.call (Str.ofString "rate_of") [.var 1]]) (.cint 0)),
  .assign 3 (.idx (.call (Str.ofString "parted") [.var 1,.var 2]) (.cint 0)),
  .assign 4 (.lst []),
  .assign 5 (.cint 1),
  .whiles (.cmp .Gt (.blt .len [.var 3]) (.cint 1)) s_powB,
  .ret (.var 4)]
noncomputable def s_cutP:List S:=[.ifs (.cmp .Gt (.blt .len [.var 7]) (.cint 1)) [.expr (.append (.var 2) (.tup [.var 7,.var 4]))] []]
noncomputable def s_cut_by:List S:=[
  .assign 2 (.lst []),
  .fors [3,4] false .plain [.var 0] [.assign 5 (.idx (.call (Str.ofString "shared") [.var 3,.var 1]) (.cint 0)),.assign 6 (.idx (.call (Str.ofString "parted") [.var 3,.var 5]) (.cint 0)),.fors [7] true .plain [.tup [.var 5,.var 6]] s_cutP],
  .ret (.var 2)]
noncomputable def s_cut:List S:=[
  .assign 2 (.call (Str.ofString "by_powers") [.var 0]),
  .fors [3] true .plain [.var 1] [.assign 2 (.call (Str.ofString "cut_by") [.var 2,.var 3])],
  .ret (.var 2)]
noncomputable def s_parts:List S:=[
  .expr (.call (Str.ofString "need_row") [.var 0]),
  .fors [2] true .plain [.var 1] [.expr (.call (Str.ofString "need_row") [.var 2])],
  .ifs (.cmp .Eq (.var 0) (.tup [])) [.raise (Str.ofString "Nought") (Str.ofString "the parts of nought")] [],
  .ret (.call (Str.ofString "cut") [.var 0,.var 1])]
theorem part_dv {p G W R:List Rat} {a b:Nat} (wp:Rw p) (hG:G≠[]) (wG:Rw G) (hD:IsDivC a b p G W R) (hd:Dv G (cf p)):(∀ j,cf p j=cvn (cf (trimL W)) (cf G) j)∧(p=[]→trimL W=[])∧(p≠[]→trimL W≠[]∧(trimL W).length+G.length=p.length+1∧cf p (p.length - 1)=cf (trimL W) ((trimL W).length - 1)*cf G (G.length - 1)):=by
 obtain ⟨hE,hR0,kW,kR,lW⟩:=hD
 have hG1:1≤G.length:=List.length_pos_iff.mpr hG
 have hG0:cf G (G.length - 1)≠0:=wG.resolve_left hG
 have dG:Bd (G.length - 1+1) (cf G):=fun i hi=>cf_ge (by exact o335 hi)
 obtain ⟨r,fr,er⟩:=hd
 have e1:=div_one hG0 dG (fin_cf W) fr (R:=cf R) (R':=fun _=>0) hR0 (fun _ _=>rfl) fun j=>by rw [← cv_cvn,← hE j,er j,Rat.add_zero]
 have e2:∀ j,cf p j=cvn (cf (trimL W)) (cf G) j:=fun j=>by
  rw [er j]
  exact cvn_cong (fun i=>by rw [cf_trim,e1.1 i]) (fun _=>rfl) j
 have wW:=rw_trim W
 have key:trimL W≠[]→cf p ((trimL W).length - 1+(G.length - 1))≠0∧(∀ j,(trimL W).length - 1+(G.length - 1)+1≤j→cf p j=0)∧cf p ((trimL W).length - 1+(G.length - 1))=cf (trimL W) ((trimL W).length - 1)*cf G (G.length - 1):=fun hW=>by
  have hW1:1≤(trimL W).length:=List.length_pos_iff.mpr hW
  have dW:Bd ((trimL W).length - 1+1) (cf (trimL W)):=fun i hi=>cf_ge (by exact o335 hi)
  have e3:cf p ((trimL W).length - 1+(G.length - 1))=cf (trimL W) ((trimL W).length - 1)*cf G (G.length - 1):=by rw [e2,lead_cvn dW dG]
  refine ⟨fun z=>?_,fun j hj=>?_,e3⟩
  ·rw [e3] at z
   exact (Rat.mul_eq_zero.mp z).elim (wW.resolve_left hW) hG0
  ·rw [e2]; exact bd_cvn dW dG (k:=(trimL W).length - 1+(G.length - 1)+1) (by exact o467) j hj
 refine ⟨e2,fun hp=>?_,fun hp=>?_⟩
 ·refine Classical.byContradiction fun hW=>(key hW).1 ?_
  rw [hp]; rfl
 ·have h0:cf p (p.length - 1)≠0:=wp.resolve_left hp
  have hp1:1≤p.length:=List.length_pos_iff.mpr hp
  have hW:trimL W≠[]:=fun hW=>h0 (by rw [e2,hW]; exact cvn_none _ _)
  obtain ⟨k1,k2,k3⟩:=key hW
  have hW1:1≤(trimL W).length:=List.length_pos_iff.mpr hW
  have l1:(trimL W).length - 1+(G.length - 1)<p.length:=by
   by_cases z:(trimL W).length - 1+(G.length - 1)<p.length
   ·exact z
   ·exact absurd (cf_ge (by exact o468 z)) k1
  have l2:p.length - 1<(trimL W).length - 1+(G.length - 1)+1:=by
   by_cases z:p.length - 1<(trimL W).length - 1+(G.length - 1)+1
   ·exact z
   ·exact absurd (k2 _ (by exact o469 z)) h0
  refine ⟨hW,by exact o470 hG1 hW1 l1 l2,?_⟩
  rw [← k3]
  congr 1
  exact o471 l1 l2
noncomputable def PtD (x:List Rat×Nat):D:=.tup [rowD x.1,.int x.2]
noncomputable def TdR (t:List Rat):Prop:=Rw t∧t.length≤15∧RC 335 (cf t)
noncomputable def ShOK (c:Cx):Prop:=IsFn c (Str.ofString "shared")∧∀ (p q:List Rat) (b m:Nat) (sto:Sto) (Q:D→Sto→Prop) (X:Str→Prop),6≤m→Rw p→Rw q→RC b (cf p)→RC b (cf q)→b≤350→p.length≤15→q.length≤15→(∀ G S T,ShO p q G S T b→Q (.tup [rowD G,rowD S,rowD T]) sto)→CallOK c m (Str.ofString "shared") [rowD p,rowD q] sto Q X
noncomputable def LedP (c:Cx):Prop:=IsFn c (Str.ofString "led")∧∀ (p:List Rat) (k m:Nat) (sto:Sto) (Q:D→Sto→Prop) (X:Str→Prop),5≤m→Rw p→p≠[]→RC k (cf p)→k≤30000000→p.length≤15→Q (rowD (ledL p)) sto→CallOK c m (Str.ofString "led") [rowD p] sto Q X
noncomputable def RateC (c:Cx) (f:Str):Prop:=IsFn c f∧∀ (p:List Rat) (k m:Nat) (sto:Sto) (Q:D→Sto→Prop) (X:Str→Prop),4≤m→Mon p→RC k (cf p)→k≤1000→p.length≤15→(∀ V,Rw V→cf V=der (cf p)→V.length≤15→RC (k+4) (cf V)→Q (rowD V) sto)→CallOK c m f [rowD p] sto Q X
noncomputable def ShM (c:Cx):Prop:=IsFn c (Str.ofString "shared")∧∀ (p q:List Rat) (b m:Nat) (sto:Sto) (Q:D→Sto→Prop) (X:Str→Prop),6≤m→Mon p→Rw q→RC b (cf p)→RC b (cf q)→b≤350→p.length≤15→q.length≤15→(∀ G S T,Mon G→RC 11800 (cf G)→G.length≤15→(∀ j,cf G j=cvn (cf S) (cf p) j+cvn (cf T) (cf q) j)→Df (cf G) (cf p)→Df (cf G) (cf q)→Q (.tup [rowD G,rowD S,rowD T]) sto)→CallOK c m (Str.ofString "shared") [rowD p,rowD q] sto Q X
noncomputable def PartM (c:Cx):Prop:=IsFn c (Str.ofString "parted")∧∀ (p G:List Rat) (m:Nat) (sto:Sto) (Q:D→Sto→Prop) (X:Str→Prop),4≤m→Mon p→Mon G→RC 335 (cf p)→RC 11800 (cf G)→p.length≤15→G.length≤15→Df (cf G) (cf p)→(∀ W R,Mon W→W.length≤15→cf p=cvn (cf W) (cf G)→Q (.tup [rowD W,R]) sto)→CallOK c m (Str.ofString "parted") [rowD p,rowD G] sto Q X
noncomputable def PowOK (c:Cx):Prop:=IsFn c (Str.ofString "by_powers")∧∀ (p:List Rat) (m:Nat) (sto:Sto) (Q:D→Sto→Prop) (X:Str→Prop),8≤m→Rw p→p≠[]→RC 200 (cf p)→p.length≤15→(∀ xs l,PtL (cf (ledL p)) xs→sto l=none→Q (.lst l) (Sto.put sto l (.list true (xs.map PtD))))→CallOK c m (Str.ofString "by_powers") [rowD p] sto Q X
noncomputable def CutOK (c:Cx):Prop:=IsFn c (Str.ofString "cut_by")∧∀ (w:Nat→Rat) (k:Nat) (t:List Rat) (xs:List (List Rat×Nat)) (a:Addr) (o:Bool) (m:Nat) (sto:Sto) (Q:D→Sto→Prop) (X:Str→Prop),8≤m→Dg k w→k≤14→RC 200 w→PtL w xs→TdR t→sto a=some (.list o (xs.map PtD))→(∀ ys l,PtL w ys→sto l=none→Q (.lst l) (Sto.put sto l (.list true (ys.map PtD))))→CallOK c m (Str.ofString "cut_by") [.lst a,rowD t] sto Q X
noncomputable def CutsOK (c:Cx) (N:Nat) (f:Str):Prop:=IsFn c f∧∀ (p:List Rat) (ts:List (List Rat)) (a:Addr) (o:Bool) (m:Nat) (sto:Sto) (Q:D→Sto→Prop) (X:Str→Prop),N≤m→Rw p→p≠[]→RC 200 (cf p)→p.length≤15→ts.length≤10→(∀ t∈ts,TdR t)→sto a=some (.list o (ts.map rowD))→(∀ xs l,PtL (cf (ledL p)) xs→sto l=none→Q (.lst l) (Sto.put sto l (.list true (xs.map PtD))))→CallOK c m f [rowD p,.lst a] sto Q X
noncomputable def tupLen:Option D→Nat
 | some (.tup ds)=>ds.length
 | _=>0
section
variable {c:Cx} (CO:CxOK c) (EO:ExcOK c) (RO:RzOK c)
theorem shM_of (h:ShOK c):ShM c:=by
 refine ⟨h.1,fun p q b m sto Q X hm mp wq kp kq hb lp lq hQ=>h.2 p q b m sto Q X hm mp.w wq kp kq hb lp lq fun G S T O=>?_⟩
 have g:=O.led.resolve_left fun z=>mp.n z.2.1
 obtain ⟨r,fr,er⟩:=O.dp
 obtain ⟨t,ft,et⟩:=O.dq
 exact hQ G S T ⟨O.wG,g.1,g.2⟩ (O.kG.mono (by show 33*(b+7)≤11800; exact o472 hb)) O.lG O.eG ⟨r,fr,funext er⟩ ⟨t,ft,funext et⟩
theorem partM_of (h:PartedOK c):PartM c:=by
 refine ⟨h.1,fun p G m sto Q X hm mp mG kp kG lp lG d hQ=>?_⟩
 have:(p.length+2 - G.length)*11801≤17*11801:=Nat.mul_le_mul_right _ (by exact o473 lp)
 refine h.2 p G 335 11800 m sto Q X hm kp kG (by omega) mG.n mG.w lp lG fun W R hD=>?_
 obtain ⟨r,fr,er⟩:=d
 obtain ⟨e1,_,e2⟩:=part_dv mp.w mG.n mG.w hD ⟨r,fr,fun j=>congrFun er j⟩
 obtain ⟨n1,n2,n3⟩:=e2 mp.n
 rw [mp.m,mG.m,Rat.mul_one] at n3
 have:=mG.pos
 exact hQ _ _ ⟨rw_trim W,n1,n3.symm⟩ (by exact lin [_,_,_] [] [.nl (.x 0) (.k 15),.ne (.a (.x 1) (.x 2)) (.a (.x 0) (.k 1)),.nl (.k 1) (.x 2)] [] (.nl (.x 1) (.k 15)) (.l 1 [1,1,1]) rfl lp n2 this) (funext e1)
include CO EO RO
theorem ledP_ok (hpa:PartOK c 3 (Str.ofString "part_of")) (hsc:ScaleOK c 4 (Str.ofString "scaled")) {ps v:List Str} (hf:FnIs c (Str.ofString "led") ps v s_led) (hps:ps.length=1):LedP c:=by
 refine ⟨hf.isFn,fun p k m sto Q X hm hp hne kp hk lp h=>?_⟩
 obtain ⟨n,rfl⟩:∃ n,m=n+1:=⟨m - 1,by exact o425 hm⟩
 refine fn_call CO EO RO hf hps.symm ?_
 unfold s_led
 have h0:cf p (p.length - 1)≠0:=hp.resolve_left hne
 walk_at "m"
 refine e_call hsc.1 ?_
 walk_at "m"
 refine e_call hpa.1 ?_
 walk_at "m"
 refine ⟨by exact Nat.le_of_ble_eq_true rfl,?_⟩
 walk_at "m"
 refine i_tup (by exact Mine.mlim (by exact o196 lp)) (nth_last hne) ?_
 walk_at "m"
 refine hpa.2 1 _ 1 k _ _ _ _ (by exact o476 hm) rs_one (kp.rs _) (by exact lin [_] [] [.nl (.x 0) (.k 30000000)] [] (.nl (.a (.k 1) (.x 0)) (.k 67108864)) (.l 1 [1]) rfl hk) h0 ?_
 walk_at "m"
 refine hsc.2 p _ k (1+k) _ _ _ _ (by exact o426 hm) (fun i=>kp.rs i) (rs_divR rs_one (kp.rs _) h0) (by exact lin [_] [] [.nl (.x 0) (.k 30000000)] [] (.nl (.a (.x 0) (.a (.k 1) (.x 0))) (.k 67108864)) (.l 1 [2]) rfl hk) (by exact o449 lp) ?_
 unfold ledL at h
 rw [if_neg hne] at h
 exact ret_plain h
theorem rateC_ok {t g x f:Str} (ht:TrimOK c 1 t) (hg:ProdOK c 3 g) {ps v:List Str} (hf:FnIs c f ps v (s_rateG t g x)) (hps:ps.length=1):RateC c f:=by
 refine ⟨hf.isFn,fun p k m sto Q X hm mp kp hk lp h=>rate_ok CO EO RO ht hg hf hps (fun i=>kp.rs i) (by exact o479 hk) (by exact o449 lp) hm fun r hr=>?_⟩
 have e:cf (trimL r)=der (cf p):=funext fun j=>by
  rw [cf_trim,hr j,Rat.mul_comm]; rfl
 refine h _ (rw_trim r) e (rw_len' (rw_trim r) fun j hj=>?_) (by rw [e]; exact rc_der kp lp)
 rw [e]
 show _*cf p (j+1)=0
 rw [cf_ge (by exact lin [_,_] [] [.nl (.x 0) (.k 15),.nl (.k 15) (.x 1)] [] (.nl (.x 0) (.a (.x 1) (.k 1))) (.l 1 [1,1]) rfl lp hj),Rat.mul_zero]
theorem pow_tail (hpm:PartM c) {n:Nat} (hn:7≤n) {σ:St} {K:Fl→St→Prop} {M A:List Rat} {k:Nat} (mM:Mon M) (mA:Mon A) (kM:RC 335 (cf M)) (kA:RC 11800 (cf A)) (lM:M.length≤15) (lA:A.length≤15) (d:Df (cf A) (cf M)) (g2:σ.loc 2=some (rowD M)) (g6:σ.loc 6=some (rowD A)) (g5:σ.loc 5=some (.int k)) (h:∀ N,Mon N→cf M=cvn (cf N) (cf A)→K .next (((σ.set 5 (.int (k+1:Nat))).set 3 (rowD A)).set 2 (rowD N))):wSs c n true s_powT K noX σ:=by
 unfold s_powT
 walk_at "m"
 refine e_call hpm.1 ?_
 walk_at "m"
 refine hpm.2 M A _ _ _ _ (by exact lin [_] [] [.nl (.k 7) (.x 0)] [] (.nl (.k 4) (.x 0)) (.l 1 [1]) rfl hn) mM mA kM kA lM lA d fun N R mN lN eN=>?_
 walk_at "m"
 refine i_tup (by exact Nat.le_of_ble_eq_true rfl) rfl ?_
 walk_at "m"
 exact h N mN eN
theorem powers_ok (hle:LedP c) (hra:RateC c (Str.ofString "rate_of")) (hsh:ShM c) (hpm:PartM c) {ps v:List Str} (hf:FnIs c (Str.ofString "by_powers") ps v s_by_powers) (hps:ps.length=1):PowOK c:=by
 refine ⟨hf.isFn,fun p m sto Q X hm wp p0 kp lp h=>?_⟩
 obtain ⟨n,rfl⟩:∃ n,m=n+1:=⟨m - 1,by exact o482 hm⟩
 refine fn_call CO EO RO hf hps.symm ?_
 unfold s_by_powers
 obtain ⟨mW,kW,lW,_⟩:=ledL_mon wp p0 kp
 walk_at "m"
 refine e_call hle.1 ?_
 walk_at "m"
 refine hle.2 p 200 _ _ _ _ (by exact lin [_] [] [.nl (.k 8) (.a (.x 0) (.k 1))] [] (.nl (.k 5) (.x 0)) (.l 1 [1]) rfl hm) wp p0 kp (by exact lin [] [] [] [] (.nl (.k 200) (.k 30000000)) (.l 1 []) rfl) lp ?_
 generalize ledL p=W at mW kW lW h ⊢
 have hw:=mW.dg
 have hk:W.length - 1≤14:=by exact o485 lp lW
 walk_at "m"
 refine e_call hsh.1 ?_
 walk_at "m"
 refine e_call hra.1 ?_
 walk_at "m"
 refine hra.2 W 200 _ _ _ _ (by exact o486 hm) mW kW (by exact lin [] [] [] [] (.nl (.k 200) (.k 1000)) (.l 1 []) rfl) (by exact o380 lp lW) fun V wV eV lV kV=>?_
 walk_at "m"
 refine hsh.2 W V 204 _ _ _ _ (by exact o488 hm) mW wV (kW.mono (by exact lin [] [] [] [] (.nl (.k 200) (.k 204)) (.l 1 []) rfl)) kV (by exact lin [] [] [] [] (.nl (.k 204) (.k 350)) (.l 1 []) rfl) (by exact o380 lp lW) lV fun G S T mG kG lG eG d1 d2=>?_
 walk_at "m"
 refine i_tup (by exact Nat.le_of_ble_eq_true rfl) rfl ?_
 walk_at "m"
 refine e_call hpm.1 ?_
 walk_at "m"
 refine hpm.2 W G _ _ _ _ (by exact o486 hm) mW mG (kW.mono (by exact lin [] [] [] [] (.nl (.k 200) (.k 335)) (.l 1 []) rfl)) kG (by exact o380 lp lW) lG d1 fun L R mL lL eL=>?_
 walk_at "m"
 refine i_tup (by exact Nat.le_of_ble_eq_true rfl) rfl ?_
 walk_at "m"
 refine ⟨by exact Nat.le_of_ble_eq_true rfl,fun l hl=>?_⟩
 walk_at "m"
 refine g_while (fun σ=>∃ (L M:List Rat) (k:Nat) (xs:List (List Rat×Nat)),(PwL (cf W) L M k xs∧Df (cf M) (cf G))∧σ.loc 3=some (rowD L)∧σ.loc 2=some (rowD M)∧σ.loc 5=some (.int k)∧σ.loc 4=some (.lst l)∧σ.sto l=some (.list true (xs.map PtD))) (fun σ=>tupLen (σ.loc 3)+tupLen (σ.loc 2)) ?_ ?_
 ·exact ⟨L,G,1,[],⟨pwL_start mG mL eL,df_self _⟩,rfl,rfl,rfl,rfl,put_same⟩
 rintro σ ⟨L,M,k,xs,⟨I,dMG⟩,g3,g2,g5,g4,s4⟩
 obtain ⟨dL,dM,dP⟩:=pwL_facs I
 have ImL:Mon L:=I.1
 have ImM:Mon M:=I.2.1
 obtain ⟨lL,kL⟩:=fac_mon hw hk kW ImL dL
 obtain ⟨lM,kM⟩:=fac_mon hw hk kW ImM dM
 have lx:=lenL_of hw I.2.2.1 dP
 walk_at "m"
 refine f_lenR (by exact o196 lL) ?_
 walk_at "m"
 refine if_b (fun hb=>?_) fun hb=>?_
 ·have hb:(L.length:Int) > 1:=of_decide_eq_true hb
  unfold s_powB
  walk_at "m"
  refine e_call hsh.1 ?_
  walk_at "m"
  refine hsh.2 L M 335 _ _ _ _ (by exact o488 hm) ImL ImM.w kL kM (by exact o492) lL lM fun A S T mA kA lA eA d1 d2=>?_
  walk_at "m"
  refine i_tup (by exact Nat.le_of_ble_eq_true rfl) rfl ?_
  walk_at "m"
  refine e_call hpm.1 ?_
  walk_at "m"
  refine hpm.2 L A _ _ _ _ (by exact o486 hm) ImL mA kL kA lL lA d1 fun B R mB lB eB=>?_
  walk_at "m"
  refine i_tup (by exact Nat.le_of_ble_eq_true rfl) rfl ?_
  walk_at "m"
  refine f_lenR (by exact o196 lB) ?_
  have fin:∀ (τ:St) (N:List Rat),Mon N→cf M=cvn (cf N) (cf A)→tupLen (some (rowD A))+tupLen (some (rowD N))<tupLen (σ.loc 3)+tupLen (σ.loc 2):=fun τ N mN eN=>by
   rw [g3,g2]
   show (A.map frD).length+(N.map frD).length<(L.map frD).length+(M.map frD).length
   rw [List.length_map,List.length_map,List.length_map,List.length_map]
   have:=PwI.less (w:=cf M) (L:=M) (B:=M) (k:=k) (xs:=xs) mA ImM mN eN
   exact lin [_,_,_,_] [] [.it (.k 1) (.c (.x 0)),.ne (.a (.x 1) (.x 2)) (.a (.x 3) (.k 1))] [] (.nt (.a (.x 2) (.x 1)) (.a (.x 0) (.x 3))) (.l 1 [1,1]) rfl hb this
  walk_at "m"
  refine if_b (fun hb2=>?_) fun hb2=>?_
  ·have hb2:1<B.length:=by have:=of_decide_eq_true hb2; exact o494 this
   walk_at "m"
   refine e_append ?_
   walk_at "m"
   refine ⟨⟨l,_,rfl,s4⟩,?_⟩
   walk_at "m"
   refine ⟨by exact Nat.le_of_ble_eq_true rfl,?_⟩
   refine ap_lst s4 (by exact Mine.mlim (by exact o495 hk lx)) ?_
   walk_at "m"
   refine pow_tail CO EO RO hpm (by exact o496 hm) ImM mA kM kA lM lA d2 g2 rfl g5 fun N mN eN=>⟨⟨A,N,k+1,xs ++ [(B,k)],⟨?_,df_trans ⟨_,fin_cf A,eN.trans (funext fun j=>cvn_comm _ _ j)⟩ dMG⟩,rfl,rfl,rfl,g4,?_⟩,fin σ N mN eN⟩
   ·have st:=pwL_step I mA mB mN eB eN
    unfold addL at st
    rw [if_pos hb2] at st
    exact st
   ·rw [List.map_append]; exact put_same
  ·have hb2:¬ 1<B.length:=by have:=of_decide_eq_false hb2; exact o497 this
   walk_at "m"
   refine pow_tail CO EO RO hpm (by exact o496 hm) ImM mA kM kA lM lA d2 g2 rfl g5 fun N mN eN=>⟨⟨A,N,k+1,xs,⟨?_,df_trans ⟨_,fin_cf A,eN.trans (funext fun j=>cvn_comm _ _ j)⟩ dMG⟩,rfl,rfl,rfl,g4,s4⟩,fin σ N mN eN⟩
   have st:=pwL_step I mA mB mN eB eN
   unfold addL at st
   rw [if_neg hb2] at st
   exact st
 ·have hb:¬ (L.length:Int) > 1:=of_decide_eq_false hb
  walk_at "m"
  exact ret_list s4 fun hb'=>h xs l (pwL_stop I (by exact lin [_] [] [.il (.c (.x 0)) (.k 1)] [] (.nl (.x 0) (.k 1)) (.l 1 [1]) rfl (Int.not_lt.mp hb)) dMG (eV ▸ d2)) hb'
theorem cut_piece {n:Nat} {σ:St} {K:Fl→St→Prop} {X:Str→St→Prop} {p:List Rat} {k:Nat} {l:Addr} {ys:List (List Rat×Nat)} (lp:p.length≤15) (ly:ys.length≤100) (g2:σ.loc 2=some (.lst l)) (g4:σ.loc 4=some (.int k)) (g7:σ.loc 7=some (rowD p)) (s2:σ.sto l=some (.list true (ys.map PtD))) (h:∀ τ:Sto,(∀ b,b≠l→τ b=σ.sto b)→τ l=some (.list true ((addL ys p k).map PtD))→K .next { σ with sto:=τ }):wSs c n true s_cutP K X σ:=by
 unfold s_cutP
 walk_at "m"
 refine f_lenR (by exact o196 lp) ?_
 walk_at "m"
 refine if_b (fun hb=>?_) fun hb=>?_
 ·have hb:1<p.length:=by have:=of_decide_eq_true hb; exact o494 this
  walk_at "m"
  refine e_append ?_
  walk_at "m"
  refine ⟨⟨l,_,rfl,s2⟩,?_⟩
  walk_at "m"
  refine ⟨by exact Nat.le_of_ble_eq_true rfl,?_⟩
  refine ap_lst s2 (by exact Mine.mlim (by exact o246 ly)) ?_
  walk_at "m"
  refine h _ (fun b hb=>put_ne hb) ?_
  unfold addL
  rw [if_pos hb,List.map_append]
  exact put_same
 ·have hb:¬ 1<p.length:=by have:=of_decide_eq_false hb; exact o497 this
  walk_at "m"
  refine h _ (fun b hb=>rfl) ?_
  unfold addL
  rw [if_neg hb]
  exact s2
theorem cutBy_ok (hsh:ShM c) (hpm:PartM c) {ps v:List Str} (hf:FnIs c (Str.ofString "cut_by") ps v s_cut_by) (hps:ps.length=2):CutOK c:=by
 refine ⟨hf.isFn,fun w k t xs a o m sto Q X hm hw hk kw hx ht ha h=>?_⟩
 obtain ⟨n,rfl⟩:∃ n,m=n+1:=⟨m - 1,by exact o482 hm⟩
 refine fn_call CO EO RO hf hps.symm ?_
 unfold s_cut_by
 have lx:=lenL_of hw hx.1 hx.df
 have ha':=ro_at ha
 obtain ⟨wt,lt,kt⟩:=ht
 walk_at "m"
 refine ⟨by exact Nat.le_of_ble_eq_true rfl,fun l hl=>?_⟩
 have hne:a≠l:=fun z=>by
  subst z
  have h4:Sto.ro sto a=none:=hl
  rw [ha'] at h4; cases h4
 walk_at "m"
 refine ⟨rfl,i_tup1 (e_var rfl ?_)⟩
 refine ⟨false,xs.map PtD,(put_ne hne).trans ha',by exact Mine.mlim (by exact lin [_,_] [] [.nl (.x 0) (.k 14),.nl (.x 1) (.x 0)] [] (.nl (.x 1) (.k 1000)) (.l 1 [1,1]) rfl hk lx),?_⟩
 refine forL_inv (fun i τ=>∃ ys:List (List Rat×Nat),(PtsL ys∧prodP ys=prodP (xs.take i))∧τ.loc 1=some (rowD t)∧τ.loc 2=some (.lst l)∧τ.sto l=some (.list true (ys.map PtD))∧τ.sto a=some (.list false (xs.map PtD))) (fun _ _=>False) _ 0 _ ?_ ?_ ?_ (fun _ _ z=>z.elim) ?_
 ·exact ⟨[],⟨ptsL_nil,rfl⟩,rfl,rfl,put_same,(put_ne hne).trans ha'⟩
 ·rintro i τ ⟨ys,_,_,_,_,sa⟩
  exact ⟨false,sa⟩
 ·rintro i d τ K hd ⟨ys,I,g1,g2,s2,sa⟩ hn hr
  rw [Nat.zero_add] at I hn
  obtain ⟨x,hxi,rfl⟩:∃ x,xs[i]?=some x∧d=PtD x:=by
   rw [List.getElem?_map] at hd
   cases e:xs[i]? with
   | none=>rw [e] at hd; cases hd
   | some x=>rw [e] at hd; cases hd; exact ⟨x,rfl,rfl⟩
  obtain ⟨p,k'⟩:=x
  have hi:=(List.getElem?_eq_some_iff.mp hxi).1
  have hxe:=(List.getElem?_eq_some_iff.mp hxi).2
  have ex:xs=xs.take i ++ (p,k') :: xs.drop (i+1):=by
   rw [← hxe,← List.drop_eq_getElem_cons hi,List.take_append_drop]
  have tk:xs.take (i+1)=xs.take i ++ [(p,k')]:=by rw [List.take_succ,hxi]; rfl
  have hm:=List.mem_of_getElem? hxi
  have hp:=(hx.1 _ hm).1
  obtain ⟨lp,kp⟩:=fac_mon hw hk kw hp (dfL_of hx.1 hx.df hm)
  have dT:Df (prodP (xs.take i)) (prodP xs):=by
   have:=df_prod (ys:=xs.take i) (xs.drop i)
   rw [List.take_append_drop] at this
   exact this
  have ly:ys.length≤k:=lenL_of hw I.1 (by rw [I.2]; exact df_trans dT hx.df)
  refine ⟨[rowD p,.int k'],rfl,rfl,?_⟩
  walk_at "m"
  refine e_call hsh.1 ?_
  walk_at "m"
  refine hsh.2 p t 335 _ _ _ _ (by omega) hp wt kp kt (by exact o492) lp lt fun A S T mA kA lA eA d1 d2=>?_
  walk_at "m"
  refine i_tup (by exact Nat.le_of_ble_eq_true rfl) rfl ?_
  walk_at "m"
  refine e_call hpm.1 ?_
  walk_at "m"
  refine hpm.2 p A _ _ _ _ (by omega) hp mA kp kA lp lA d1 fun B R mB lB eB=>?_
  walk_at "m"
  refine i_tup (by exact Nat.le_of_ble_eq_true rfl) rfl ?_
  walk_at "m"
  refine ⟨rfl,i_tup1 ?_⟩
  walk_at "m"
  refine ⟨by exact Nat.le_of_ble_eq_true rfl,?_⟩
  refine ⟨by exact Nat.le_of_ble_eq_true rfl,trivial,?_⟩
  refine cut_piece CO EO RO (p:=A) (l:=l) (ys:=ys) lA (by exact lin [_,_] [] [.nl (.x 0) (.k 14),.nl (.x 1) (.x 0)] [] (.nl (.x 1) (.k 100)) (.l 1 [1,1]) rfl hk ly) g2 rfl rfl s2 fun τ1 t1 t2=>⟨trivial,?_⟩
  refine cut_piece CO EO RO (p:=B) (l:=l) lB (by
   have:(addL ys A k').length≤ys.length+1:=by unfold addL; split <;> simp
   exact lin [_,_,_] [] [.nl (.x 0) (.k 14),.nl (.x 1) (.x 0),.nl (.x 2) (.a (.x 1) (.k 1))] [] (.nl (.x 2) (.k 100)) (.l 1 [1,1,1]) rfl hk ly this) g2 rfl rfl t2 fun τ2 u1 u2=>⟨trivial,?_⟩
  walk_at "m"
  refine hn _ ⟨_,?_,g1,g2,u2,?_⟩
  ·rw [tk]
   exact ⟨addL_one (addL_one I.1 mA (hx.1 _ hm).2.2) mB (hx.1 _ hm).2.2,cutL_step I.2 mA mB eB⟩
  ·exact (u1 a hne).trans ((t1 a hne).trans sa)
 ·rintro τ ⟨ys,I,g1,g2,s2,sa⟩
  rw [Nat.zero_add,List.length_map,List.take_length] at I
  walk_at "m"
  exact ret_list s2 fun hb=>h ys l (by obtain ⟨_,M,q⟩:=hx; exact ⟨I.1,M,by rw [I.2]; exact q⟩) hb
theorem cut_ok (hpo:PowOK c) (hcb:CutOK c) {ps v:List Str} (hf:FnIs c (Str.ofString "cut") ps v s_cut) (hps:ps.length=2):CutsOK c 9 (Str.ofString "cut"):=by
 refine ⟨hf.isFn,fun p ts a o m sto Q X hm wp p0 kp lp lts hts ha h=>?_⟩
 obtain ⟨n,rfl⟩:∃ n,m=n+1:=⟨m - 1,by exact o502 hm⟩
 refine fn_call CO EO RO hf hps.symm ?_
 unfold s_cut
 have ha':=ro_at ha
 obtain ⟨mW,kW,lW,_⟩:=ledL_mon wp p0 kp
 walk_at "m"
 refine e_call hpo.1 ?_
 walk_at "m"
 refine hpo.2 p _ _ _ _ (by exact o503 hm) wp p0 kp lp fun xs l I hl=>?_
 generalize ledL p=W at mW kW lW h I ⊢
 have hw:=mW.dg
 have hk:W.length - 1≤14:=by exact o485 lp lW
 walk_at "m"
 refine g_for1 (i_tup1 (e_var rfl ?_))
 refine ⟨false,ts.map rowD,put_old hl ha',by exact Mine.mlim (by exact o504 lts),?_⟩
 refine forL_inv (fun i τ=>∃ (ys:List (List Rat×Nat)) (l:Addr),PtL (cf W) ys∧τ.loc 2=some (.lst l)∧τ.sto l=some (.list true (ys.map PtD))∧τ.sto a=some (.list false (ts.map rowD))) (fun _ _=>False) _ 0 _ ?_ ?_ ?_ (fun _ _ z=>z.elim) ?_
 ·exact ⟨xs,l,I,rfl,put_same,put_old hl ha'⟩
 ·rintro i τ ⟨ys,l,_,_,_,sa⟩
  exact ⟨false,sa⟩
 ·rintro i d τ K hd ⟨ys,l,I,g2,s2,sa⟩ hn hr
  obtain ⟨t,hti,rfl⟩:∃ t,ts[i]?=some t∧d=rowD t:=by
   rw [List.getElem?_map] at hd
   cases e:ts[i]? with
   | none=>rw [e] at hd; cases hd
   | some x=>rw [e] at hd; cases hd; exact ⟨x,rfl,rfl⟩
  walk_at "m"
  refine e_call hcb.1 ?_
  walk_at "m"
  refine hcb.2 (cf W) _ t ys l true _ _ _ _ (by exact o503 hm) hw hk kW I (hts t (List.mem_of_getElem? hti)) s2 fun zs l' J hl'=>?_
  walk_at "m"
  exact hn _ ⟨zs,l',J,rfl,put_same,put_old hl' sa⟩
 ·rintro τ ⟨ys,l,I,g2,s2,sa⟩
  walk_at "m"
  exact ret_list s2 fun hb=>h ys l I hb
end
end Mine
namespace Mine
open PySem
noncomputable def s_made:List S:=[
  .assign 2 (.idx (.call (Str.ofString "shared") [.var 0,.var 1]) (.cint 0)),
  .assign 3 (.idx (.call (Str.ofString "parted") [.var 0,.var 2]) (.cint 0)),
  .assign 4 (.idx (.call (Str.ofString "parted") [.var 1,.var 2]) (.cint 0)),
  .assign 5 (.call (Str.ofString "part_of") [.tup [.cint 1,.cint 1],.idx (.var 4) (.neg (.cint 1))]),
  .ret (.tup [.call (Str.ofString "scaled") [.var 3,.var 5],.call (Str.ofString "scaled") [.var 4,.var 5]])]
noncomputable def QO (p q h l:List Rat) (b:Nat):Prop:=Rw h∧Rw l∧h.length≤p.length∧l.length≤q.length∧l≠[]∧RC (b+9*q.length) (cf l)∧
 ∀ e,RS e (cf p (p.length - 1))→RS e (cf q (q.length - 1))→RC (b+9*p.length+(e+e)) (cf h)
theorem made_out {p q G S T W R W' R':List Rat} {a a' b x:Nat} {y:Rat} (wp:Rw p) (wq:Rw q) (q0:q≠[]) (kp:RC b (cf p)) (kq:RC b (cf q)) (lp:p.length≤15) (lq:q.length≤15) (O:ShO p q G S T x) (hD:IsDivC a a' p G W R) (hD':IsDivC a a' q G W' R') (hy:y=1 / cf (trimL W') ((trimL W').length - 1)):QO p q (trimL ((trimL W).map (·*y))) (trimL ((trimL W').map (·*y))) b:=by
 have hG:G≠[]∧cf G (G.length - 1)=1:=by
  rcases O.led with ⟨_,_,h⟩ | h
  ·exact absurd h q0
  ·exact h
 have hG1:1≤G.length:=List.length_pos_iff.mpr hG.1
 have hG0:cf G (G.length - 1)≠0:=O.wG.resolve_left hG.1
 have dG:Bd (G.length - 1+1) (cf G):=fun i hi=>cf_ge (by exact o335 hi)
 obtain ⟨ep,p1,p2⟩:=part_dv wp hG.1 O.wG hD O.dp
 obtain ⟨eq,q1,q2⟩:=part_dv wq hG.1 O.wG hD' O.dq
 obtain ⟨W0,lW',eW'⟩:=q2 q0
 have wW:=rw_trim W
 have wW':=rw_trim W'
 generalize trimL W=w at *
 generalize trimL W'=u at *
 have u0:cf u (u.length - 1)≠0:=wW'.resolve_left W0
 have hu1:1≤u.length:=List.length_pos_iff.mpr W0
 have e1:y*cf u (u.length - 1)=1:=by rw [hy]; exact Rat.div_mul_cancel u0
 have y0:y≠0:=fun z=>by rw [z,Rat.zero_mul] at e1; exact absurd e1 (by decide)
 have lh:=len_mulR wW y0
 have ll:=len_mulR wW' y0
 have ch:=cf_mulR w y
 have cl:=cf_mulR u y
 refine ⟨rw_trim _,rw_trim _,?_,by exact lin [_,_,_,_] [] [.nl (.k 1) (.x 0),.ne (.a (.x 1) (.x 0)) (.a (.x 2) (.k 1)),.ne (.x 3) (.x 1)] [] (.nl (.x 3) (.x 2)) (.l 1 [1,1,1]) rfl hG1 lW' ll,fun z=>?_,?_,fun e he he'=>?_⟩
 ·rw [lh]
  by_cases z:p=[]
  ·rw [p1 z]; exact Nat.zero_le _
  ·have:=(p2 z).2.1; exact lin [_,_,_] [] [.nl (.k 1) (.x 0),.ne (.a (.x 1) (.x 0)) (.a (.x 2) (.k 1))] [] (.nl (.x 1) (.x 2)) (.l 1 [1,1]) rfl hG1 this
 ·rw [z] at ll
  exact W0 (List.eq_nil_of_length_eq_zero ll.symm)
 ·have k:=fac_rc (p:=cf q) (g:=cf u) (r:=cf G) (n:=q.length) (k:=u.length - 1) (m:=G.length - 1) kq lq (bd_cf q) u0 (fun i hi=>cf_ge (by exact o335 hi)) hG0 dG eq (by exact o507 hG1 lW' hu1)
  exact k.cong fun i=>by rw [cl i,hy]
 ·by_cases z:p=[]
  ·have:w=[]:=p1 z
   subst this
   exact RC.none (by have:=rc_pos kp; exact lin [_,_,_] [] [.nl (.k 1) (.x 0)] [] (.nl (.k 1) (.a (.a (.x 0) (.m 9 (.x 1))) (.a (.x 2) (.x 2)))) (.l 1 [1]) rfl this)
  ·obtain ⟨w0,lw,ew⟩:=p2 z
   have hw1:1≤w.length:=List.length_pos_iff.mpr w0
   have wl:cf w (w.length - 1)≠0:=wW.resolve_left w0
   have k:=fac_rc (p:=cf p) (g:=cf w) (r:=cf G) (n:=p.length) (k:=w.length - 1) (m:=G.length - 1) kp lp (bd_cf p) wl (fun i hi=>cf_ge (by exact o335 hi)) hG0 dG ep (by exact o507 hG1 lw hw1)
   rw [hG.2,Rat.mul_one] at ew eW'
   have r1:RS (e+e) (cf p (p.length - 1) / cf q (q.length - 1)):=rs_divR he he' (wq.resolve_left q0)
   refine (k.scale r1).cong fun i=>?_
   rw [ch i,hy,eW',ew,Rat.div_def,Rat.div_def,Rat.div_def,Rat.one_mul,Rat.one_mul]
   have:(cf w (w.length - 1))⁻¹*cf w (w.length - 1)=1:=Rat.inv_mul_cancel _ wl
   have e3:cf w i*(cf w (w.length - 1))⁻¹*(cf w (w.length - 1)*(cf u (u.length - 1))⁻¹)=cf w i*(((cf w (w.length - 1))⁻¹*cf w (w.length - 1))*(cf u (u.length - 1))⁻¹):=by grind
   rw [e3,this,Rat.one_mul]
noncomputable def MadeOK (c:Cx):Prop:=IsFn c (Str.ofString "made")∧∀ (p q:List Rat) (b m:Nat) (sto:Sto) (Q:D→Sto→Prop) (X:Str→Prop),7≤m→Rw p→Rw q→q≠[]→RC b (cf p)→RC b (cf q)→b≤350→p.length≤15→q.length≤15→(∀ h l,QO p q h l b→Q (.tup [rowD h,rowD l]) sto)→CallOK c m (Str.ofString "made") [rowD p,rowD q] sto Q X
section
variable {c:Cx} (CO:CxOK c) (EO:ExcOK c) (RO:RzOK c)
include CO EO RO
theorem made_ok (hsh:ShOK c) (hpt:PartedOK c) (hpa:PartOK c 3 (Str.ofString "part_of")) (hsc:ScaleOK c 4 (Str.ofString "scaled")) {ps v:List Str} (hf:FnIs c (Str.ofString "made") ps v s_made) (hps:ps.length=2):MadeOK c:=by
 refine ⟨hf.isFn,fun p q b m sto Q X hm wp wq q0 kp kq hb lp lq h=>?_⟩
 obtain ⟨n,rfl⟩:∃ n,m=n+1:=⟨m - 1,by exact o509 hm⟩
 refine fn_call CO EO RO hf hps.symm ?_
 unfold s_made
 walk_at "m"
 refine e_call hsh.1 ?_
 walk_at "m"
 refine hsh.2 p q b _ _ _ _ (by exact o510 hm) wp wq kp kq hb lp lq fun G S T O=>?_
 have hx:hB b≤11800:=by show 33*(b+7)≤11800; exact o472 hb
 have kG:=O.kG
 have lG:=O.lG
 have hG:G≠[]:=by
  rcases O.led with ⟨_,_,h⟩ | h
  ·exact absurd h q0
  ·exact h.1
 generalize hB b=x at hx kG
 have hG1:1≤G.length:=List.length_pos_iff.mpr hG
 walk_at "m"
 refine i_tup (by exact Nat.le_of_ble_eq_true rfl) rfl ?_
 walk_at "m"
 refine e_call hpt.1 ?_
 walk_at "m"
 have hab:∀ p:List Rat,p.length≤15→b+(p.length+2 - G.length)*(x+1)≤200000:=fun p lp=>by
  have:(p.length+2 - G.length)*(x+1)≤16*11801:=Nat.mul_le_mul (by exact o511 hG1 lp) (by exact o512 hx)
  exact lin [_,_] [] [.nl (.x 0) (.k 350),.nl (.x 1) (.m 16 (.k 11801))] [] (.nl (.a (.x 0) (.x 1)) (.k 200000)) (.l 1 [1,1]) rfl hb this
 have hab':∀ p:List Rat,p.length≤15→b+(p.length+1 - G.length)*(x+1)≤200000:=fun p lp=>by
  have:(p.length+1 - G.length)*(x+1)≤15*11801:=Nat.mul_le_mul (by exact o364 hG1 lp) (by exact o512 hx)
  exact lin [_,_] [] [.nl (.x 0) (.k 350),.nl (.x 1) (.m 15 (.k 11801))] [] (.nl (.a (.x 0) (.x 1)) (.k 200000)) (.l 1 [1,1]) rfl hb this
 refine hpt.2 p G b x _ _ _ _ (by exact o515 hm) kp kG (Nat.le_trans (hab p lp) (by decide)) hG O.wG lp lG fun W R hD=>?_
 have kW:=hD.2.2.1.trim.mono (hab' p lp)
 have lW:=hD.2.2.2.2
 have lw:=trim_len W
 walk_at "m"
 refine i_tup (by exact Nat.le_of_ble_eq_true rfl) rfl ?_
 walk_at "m"
 refine e_call hpt.1 ?_
 walk_at "m"
 refine hpt.2 q G b x _ _ _ _ (by exact o515 hm) kq kG (Nat.le_trans (hab q lq) (by decide)) hG O.wG lq lG fun W' R' hD'=>?_
 have kW':=hD'.2.2.1.trim.mono (hab' q lq)
 have lW':=hD'.2.2.2.2
 have lw':=trim_len W'
 obtain ⟨eq,q1,q2⟩:=part_dv wq hG O.wG hD' O.dq
 have W0:=(q2 q0).1
 have u0:cf (trimL W') ((trimL W').length - 1)≠0:=(rw_trim W').resolve_left W0
 walk_at "m"
 refine i_tup (by exact Nat.le_of_ble_eq_true rfl) rfl ?_
 walk_at "m"
 refine e_call hpa.1 ?_
 walk_at "m"
 refine ⟨by exact Nat.le_of_ble_eq_true rfl,?_⟩
 walk_at "m"
 refine i_tup (by exact Mine.mlim (by exact o516 lq lW' lw')) (nth_last W0) ?_
 walk_at "m"
 rw [fr_int]
 have em:(((1:Int)):Rat)=1:=rfl
 rw [em]
 refine hpa.2 1 _ 1 200000 _ _ _ _ (by exact o517 hm) rs_one (kW'.rs _) (by exact lin [] [] [] [] (.nl (.a (.k 1) (.k 200000)) (.k 67108864)) (.l 1 []) rfl) u0 ?_
 have ry:RS (1+200000) (1 / cf (trimL W') ((trimL W').length - 1)):=rs_divR rs_one (kW'.rs _) u0
 obtain ⟨y,hy⟩:∃ y,y=1 / cf (trimL W') ((trimL W').length - 1):=⟨_,rfl⟩
 rw [← hy] at ry ⊢
 walk_at "m"
 refine e_call hsc.1 ?_
 walk_at "m"
 refine hsc.2 (trimL W) y 200000 (1+200000) _ _ _ _ (by exact o515 hm) (fun i=>kW.rs i) ry (by exact o519) (by exact o520 lp lW lw) ?_
 walk_at "m"
 refine e_call hsc.1 ?_
 walk_at "m"
 refine hsc.2 (trimL W') y 200000 (1+200000) _ _ _ _ (by exact o515 hm) (fun i=>kW'.rs i) ry (by exact o519) (by exact o520 lq lW' lw') ?_
 walk_at "m"
 refine ⟨by exact Nat.le_of_ble_eq_true rfl,?_⟩
 walk_at "m"
 exact ret_plain (h _ _ (made_out wp wq q0 kp kq lp lq O hD hD' hy))
end
end Mine
namespace Mine
open PySem
noncomputable def s_is_quotient:List S:=[
  .ifs (.bool .Or [.not (.isa (.var 0) .tuple),.cmp .NotEq (.blt .len [.var 0]) (.cint 2),.not (.call (Str.ofString "is_row") [.idx (.var 0) (.cint 0)]),.not (.call (Str.ofString "is_row") [.idx (.var 0) (.cint 1)])]) [.ret (.cbool false)] [],
  .ifs (.bool .Or [.cmp .Eq (.idx (.var 0) (.cint 1)) (.tup []),.cmp .NotEq (.idx (.idx (.var 0) (.cint 1)) (.neg (.cint 1))) (.tup [.cint 1,.cint 1])]) [.ret (.cbool false)] [],
  .ret (.cmp .Eq (.idx (.call (Str.ofString "shared") [.idx (.var 0) (.cint 0),.idx (.var 0) (.cint 1)]) (.cint 0)) (.glob (Str.ofString "UNIT")))]
noncomputable def QR (p q:List Rat) (b:Bool):Prop:=(b=false∧(q=[]∨cf q (q.length - 1)≠1))∨
 (q≠[]∧cf q (q.length - 1)=1∧∃ k,RC k (cf p)∧RC k (cf q)∧k≤350∧p.length≤15∧q.length≤15∧∀ G S T,ShO p q G S T k→(b=true↔G=[1]))
noncomputable def QB (sto:Sto) (d:D) (b:Bool):Prop :=
 (b=false∧Kn sto d∧isTupD d=false)∨(b=false∧∃ ds,d=.tup ds∧ds.length≠2∧ds.length≤1000)∨
 ∃ x y,d=.tup [x,y]∧KnR sto x∧KnR sto y∧((b=false∧RowB x false)∨∃ p,x=rowD p∧Rw p∧((b=false∧RowB y false)∨∃ q,y=rowD q∧Rw q∧QR p q b))
theorem rowB_row {p:List Rat} (hp:Rw p):RowB (rowD p) true:=.inl ⟨p,rfl,fun _=>hp,fun _=>rfl⟩
theorem KnR.ro {sto:Sto} {d:D} (h:KnR sto d):KnR (Sto.ro sto) d:=by
 cases d with
 | tup ds=>exact ⟨h.1,fun x hx=>(h.2 x hx).ro⟩
 | lst a=>exact Kn.ro (d:=.lst a) h
 | exc=>exact (show False from h).elim
 | _=>trivial
noncomputable def IsQOK (c:Cx):Prop:=IsFn c (Str.ofString "is_quotient")∧∀ (d:D) (b:Bool) (m:Nat) (sto:Sto) (Q:D→Sto→Prop) (X:Str→Prop),7≤m→QB sto d b→Q (.bool b) sto→CallOK c m (Str.ofString "is_quotient") [d] sto Q X
section
variable {c:Cx} (CO:CxOK c) (EO:ExcOK c) (RO:RzOK c)
include CO EO RO
theorem is_quotient_ok (hu:c.cs (Str.ofString "UNIT")=some (rowD [1])) (hro:IsRowOK c 3 (Str.ofString "is_row")) (hsh:ShOK c) {ps v:List Str} (hf:FnIs c (Str.ofString "is_quotient") ps v s_is_quotient) (hps:ps.length=1):IsQOK c:=by
 refine ⟨hf.isFn,fun d b m sto Q X hm hB h=>?_⟩
 obtain ⟨n,rfl⟩:∃ n,m=n+1:=⟨m - 1,by exact o509 hm⟩
 refine fn_call CO EO RO hf hps.symm ?_
 unfold s_is_quotient
 have no:b=false→∀ σ:St,wSs c n true [.ret (.cbool false)] (EndQ sto Q) (fun k _=>X k) σ:=fun hb σ=>by
  walk_at "m"
  rw [hb] at h
  exact ret_plain h
 rcases hB with ⟨hb,hk,ht⟩ | ⟨hb,ds,rfl,h2,h3⟩ | ⟨x,y,rfl,kx,ky,hxy⟩
 ·walk_at "m"
  refine isa_tup hk.ro ?_
  rw [ht]
  walk_at "m"
  refine if_or (fun _=>?_) fun z=>by cases z
  exact if_b (fun _=>no hb _) fun z=>by cases z
 ·walk_at "m"
  refine isa_tup (d:=.tup ds) trivial ?_
  walk_at "m"
  refine if_or (fun z=>by cases z) fun _=>?_
  walk_at "m"
  refine f_lenT (by unfold lim; exact o81 h3) ?_
  walk_at "m"
  have e:((ds.length:Int)==2)=false:=beq_eq_false_iff_ne.mpr (by exact o521 h2)
  rw [e]
  refine if_or (fun _=>?_) fun z=>by cases z
  exact if_b (fun _=>no hb _) fun z=>by cases z
 ·walk_at "m"
  refine isa_tup (d:=.tup [x,y]) trivial ?_
  walk_at "m"
  refine if_or (fun z=>by cases z) fun _=>?_
  walk_at "m"
  refine f_lenT (by exact Nat.le_of_ble_eq_true rfl) ?_
  walk_at "m"
  refine if_or (fun z=>by cases z) fun _=>?_
  walk_at "m"
  refine e_call hro.1 ?_
  walk_at "m"
  refine i_tup (by exact Nat.le_of_ble_eq_true rfl) rfl ?_
  walk_at "m"
  rcases hxy with ⟨hb,hx⟩ | ⟨p,rfl,wp,hy⟩
  ·refine hro.2 x false _ _ _ _ (by exact o517 hm) kx.ro hx ?_
   walk_at "m"
   refine if_or (fun _=>?_) fun z=>by cases z
   exact if_b (fun _=>no hb _) fun z=>by cases z
  refine hro.2 (rowD p) true _ _ _ _ (by exact o517 hm) kx.ro (rowB_row wp) ?_
  walk_at "m"
  refine if_or (fun z=>by cases z) fun _=>?_
  walk_at "m"
  refine e_call hro.1 ?_
  walk_at "m"
  refine i_tup (by exact Nat.le_of_ble_eq_true rfl) rfl ?_
  walk_at "m"
  rcases hy with ⟨hb,hy⟩ | ⟨q,rfl,wq,hq⟩
  ·refine hro.2 y false _ _ _ _ (by exact o517 hm) ky.ro hy ?_
   walk_at "m"
   refine if_or (fun _=>?_) fun z=>by cases z
   exact if_b (fun _=>no hb _) fun z=>by cases z
  refine hro.2 (rowD q) true _ _ _ _ (by exact o517 hm) ky.ro (rowB_row wq) ?_
  walk_at "m"
  refine if_or (fun z=>by cases z) fun _=>?_
  walk_at "m"
  refine if_b (fun z=>by cases z) fun _=>?_
  walk_at "m"
  refine i_tup (by exact Nat.le_of_ble_eq_true rfl) rfl ?_
  walk_at "m"
  refine ⟨by exact Nat.le_of_ble_eq_true rfl,?_⟩
  refine c_eqD (eq_rows q []) ?_
  walk_at "m"
  refine if_or (fun hb0=>?_) fun hb0=>?_
  ·have q0:q=[]:=beq_iff_eq.mp hb0
   have hb:b=false:=by
    rcases hq with h | h
    ·exact h.1
    ·exact absurd q0 h.1
   rw [hb0]
   exact if_b (fun _=>no hb _) fun z=>by cases z
  ·have q0:q≠[]:=beq_eq_false_iff_ne.mp hb0
   have lq:(q.map frD).length≤1000:=ky.1
   rw [List.length_map] at lq
   walk_at "m"
   refine i_tup (by exact Nat.le_of_ble_eq_true rfl) rfl ?_
   walk_at "m"
   refine i_tup (by exact Mine.mlim (by exact o118 lq)) (nth_last q0) ?_
   walk_at "m"
   refine ⟨by exact Nat.le_of_ble_eq_true rfl,?_⟩
   rw [fr_int]
   have em:(((1:Int)):Rat)=1:=rfl
   rw [em]
   refine c_neD (eq_frs _ _) ?_
   walk_at "m"
   refine if_or (fun hb1=>?_) fun hb1=>?_
   ·have hne:cf q (q.length - 1)≠1:=by simpa using hb1
    have hb:b=false:=by
     rcases hq with h | h
     ·exact h.1
     ·exact absurd h.2.1 hne
    rw [hb1]
    exact if_b (fun _=>no hb _) fun z=>by cases z
   ·have h1:cf q (q.length - 1)=1:=by simpa using hb1
    rcases hq with ⟨_,h2⟩ | ⟨_,_,k,kp,kq,hk,lp,lq',hG⟩
    ·rcases h2 with h2 | h2
     ·exact absurd h2 q0
     ·exact absurd h1 h2
    walk_at "m"
    refine if_b (fun z=>by cases z) fun _=>?_
    walk_at "m"
    refine e_call hsh.1 ?_
    walk_at "m"
    refine i_tup (by exact Nat.le_of_ble_eq_true rfl) rfl ?_
    walk_at "m"
    refine i_tup (by exact Nat.le_of_ble_eq_true rfl) rfl ?_
    walk_at "m"
    refine hsh.2 p q k _ _ _ _ (by exact o510 hm) wp wq kp kq hk lp lq' fun G S T O=>?_
    walk_at "m"
    refine i_tup (by exact Nat.le_of_ble_eq_true rfl) rfl ?_
    refine e_glob hu ?_
    refine c_eqD (eq_rows G [1]) ?_
    walk_at "m"
    refine ret_plain ?_
    have e:b=(G==[1]):=by
     have:=hG G S T O
     cases hc:(G==[1]) with
     | true=>exact this.mpr (beq_iff_eq.mp hc)
     | false =>
      cases b with
      | false=>rfl
      | true=>exact absurd (this.mp rfl) (beq_eq_false_iff_ne.mp hc)
    rw [← e]; exact h
end
noncomputable def Lk (s s':Sto):Prop:=∀ a o ds,s a=some (.list o ds)→∃ o' ds',s' a=some (.list o' ds')
theorem Kn.mono {s s':Sto} (h:Lk s s') {d:D} (k:Kn s d):Kn s' d:=by
 cases d with
 | lst a=>obtain ⟨o,x,e⟩:=k; exact h a o x e
 | exc=>exact (show False from k).elim
 | _=>trivial
theorem KnT.mono {s s':Sto} (h:Lk s s') {d:D} (k:KnT s d):KnT s' d:=by
 cases d with
 | tup ds=>exact ⟨k.1,fun x hx=>(k.2 x hx).mono h⟩
 | lst a=>exact Kn.mono h (d:=.lst a) k
 | exc=>exact (show False from k).elim
 | _=>trivial
theorem KnR.mono {s s':Sto} (h:Lk s s') {d:D} (k:KnR s d):KnR s' d:=by
 cases d with
 | tup ds=>exact ⟨k.1,fun x hx=>(k.2 x hx).mono h⟩
 | lst a=>exact Kn.mono h (d:=.lst a) k
 | exc=>exact (show False from k).elim
 | _=>trivial
theorem QB.mono {s s':Sto} (h:Lk s s') {d:D} {b:Bool} (k:QB s d b):QB s' d b:=by
 rcases k with ⟨k1,k2,k3⟩ | k | ⟨x,y,e,kx,ky,k⟩
 ·exact .inl ⟨k1,k2.mono h,k3⟩
 ·exact .inr (.inl k)
 ·exact .inr (.inr ⟨x,y,e,kx.mono h,ky.mono h,k⟩)
end Mine
namespace Mine
open PySem
noncomputable def s__law_bad:List S:=[
  .ret (.idx (.lst [.tup [.cint 2,.cint 6],.tup [.cint 1,.cint 0],.tup [.cbool true,.cint 1],.cint 3,.tup [.cint 1,.neg (.cint 2)],.tup [.cint 1,.cint 1,.cint 1],.cnone,.lst [.cint 1,.cint 1],.tup [.cint 0,.cint 2],.cstr (Str.ofString "1"),.tup [.cint 1,.cbool true],.tup [.tup [.cint 1,.cint 1]]]) (.bin .Mod (.var 0) (.cint 12)))]
noncomputable def s__law_wrong_row:List S:=[
  .assign 2 (.bin .Mod (.bin .FloorDiv (.var 0) (.cint 96)) (.bin .Add (.blt .len [.var 1]) (.cint 1))),
  .ifs (.cmp .Eq (.bin .Mod (.var 0) (.cint 8)) (.cint 0)) [.ret (.bin .Add (.var 1) (.tup [.tup [.cint 0,.cint 1]]))] [],
  .ifs (.cmp .Eq (.bin .Mod (.var 0) (.cint 8)) (.cint 1)) [.ret (.idx (.lst [.blt .list [.var 1],.cnone,.cstr (Str.ofString "row"),.cint 5,.lst [.var 1],.cbool true]) (.bin .Mod (.bin .FloorDiv (.var 0) (.cint 96)) (.cint 6)))] [],
  .ret (.bin .Add (.bin .Add (.slice (.var 1) none (some (.var 2))) (.tup [.call (Str.ofString "_law_bad") [.bin .FloorDiv (.var 0) (.cint 8)]])) (.slice (.var 1) (some (.var 2)) none))]
noncomputable def Ext (s s':Sto):Prop:=(∀ b k,s b=some k→s' b=some k)∧∀ b k,s' b=some k→s b=some k∨∃ xs,k=.list true xs
theorem Ext.refl (s:Sto):Ext s s:=⟨fun _ _ h=>h,fun _ _ h=>.inl h⟩
theorem Ext.trans {s t u:Sto} (h:Ext s t) (k:Ext t u):Ext s u:=⟨fun b x e=>k.1 b x (h.1 b x e),fun b x e=>(k.2 b x e).elim (h.2 b x) .inr⟩
theorem Ext.put {s t:Sto} (h:Ext s t) {l:Addr} (hl:s l=none) {xs:List D}:Ext s (Sto.put t l (.list true xs)):=by
 refine ⟨fun b k e=>?_,fun b k e=>?_⟩
 ·rw [put_ne (fun z=>by rw [z,hl] at e; cases e)]; exact h.1 b k e
 ·by_cases z:b=l
  ·subst z
   rw [put_same] at e
   exact .inr ⟨xs,(Option.some.inj e).symm⟩
  ·rw [put_ne z] at e; exact h.2 b k e
theorem Ext.none {s t:Sto} (h:Ext s t) {l:Addr} (hl:t l=none):s l=none:=by
 cases e:s l with
 | none=>rfl
 | some k=>rw [h.1 l k e] at hl; cases hl
theorem ret_all {sto τ:Sto} {Q:D→Sto→Prop} {d:D} (hx:Ext (Sto.ro sto) τ) (h:∀ sto',Ext sto sto'→Lk τ sto'→(∀ b xs,τ b=some (.list true xs)→sto' b=some (.list true xs))→Q d sto'):Ret sto τ Q d:=by
 refine ⟨fun b=>match τ b with | some (.list true xs)=>some (.list true xs) | _=>sto b,fun b k e=>?_,fun f=>?_⟩
 ·have e:(match τ b with | some (.list true xs)=>some (.list true xs) | _=>sto b)=some k:=e
  split at e
  ·rename_i xs h1
   cases e
   exact .inr ⟨h1,rfl⟩
  ·exact .inl e
 ·have own:∀ b xs,τ b=some (.list true xs)→(match τ b with | some (.list true xs)=>some (.list true xs) | _=>sto b)=some (Cell.list true xs):=fun b xs e=>by rw [e]
  have keep:∀ b k,sto b=some k→(match τ b with | some (.list true xs)=>some (.list true xs) | _=>sto b)=some k:=fun b k e=>by
   split
   ·rename_i xs h1
    rw [f b _ h1 rfl] at e; cases e
   ·exact e
  refine h _ ⟨keep,fun b k e=>?_⟩ (fun b o ds e=>?_) own
  ·have e:(match τ b with | some (.list true xs)=>some (.list true xs) | _=>sto b)=some k:=e
   split at e
   ·rename_i xs h1; exact .inr ⟨xs,(Option.some.inj e).symm⟩
   ·exact .inl e
  ·rcases hx.2 b _ e with h1 | ⟨xs,h1⟩
   ·obtain ⟨k',hk',hr⟩:=ro_some h1
    cases k' with
    | list o' ds'=>exact ⟨o',ds',keep b _ hk'⟩
    | dict _=>cases hr
   ·cases h1; exact ⟨_,_,own b ds e⟩
theorem nth_at {l:List D} {i:Nat} (h:i<l.length):nth l (i:Int)=some l[i]:=by
 unfold nth
 rw [if_pos (by exact o117),Int.toNat_natCast,List.getElem?_eq_getElem h]
noncomputable def badsD (l:Addr):List D:=[.tup [.int 2,.int 6],.tup [.int 1,.int 0],.tup [.bool true,.int 1],.int 3,.tup [.int 1,.int (-2)],.tup [.int 1,.int 1,.int 1],.none,.lst l,.tup [.int 0,.int 2],.str (Str.ofString "1"),.tup [.int 1,.bool true],.tup [.tup [.int 1,.int 1]]]
theorem kn_pair {s:Sto} {x y:D} (hx:Kn s x) (hy:Kn s y):KnT s (.tup [x,y]):=⟨by simp,fun z hz=>by
 simp only [List.mem_cons,List.not_mem_nil,or_false] at hz
 rcases hz with rfl | rfl
 ·exact hx
 ·exact hy⟩
theorem bads_bad {s:Sto} {l:Addr} (hl:∃ o ds,s l=some (.list o ds)):∀ d∈badsD l,isFrD d=false∧KnT s d:=by
 have t:∀ {x y:D},Kn s x→Kn s y→KnT s (.tup [x,y]):=fun hx hy=>kn_pair hx hy
 unfold badsD
 simp only [List.forall_mem_cons,List.not_mem_nil,false_implies,implies_true,and_true]
 refine ⟨⟨by decide,t trivial trivial⟩,⟨by decide,t trivial trivial⟩,⟨rfl,t trivial trivial⟩,⟨rfl,trivial⟩,⟨by decide,t trivial trivial⟩,⟨rfl,by simp,fun z hz=>?_⟩,⟨rfl,trivial⟩,⟨rfl,hl⟩,⟨by decide,t trivial trivial⟩,⟨rfl,trivial⟩,⟨rfl,t trivial trivial⟩,⟨rfl,by simp,fun z hz=>?_⟩⟩
 ·simp only [List.mem_cons,List.not_mem_nil,or_false] at hz
  rcases hz with rfl | rfl | rfl <;> trivial
 ·rw [List.mem_singleton.mp hz]; trivial
noncomputable def BadOK (c:Cx):Prop:=IsFn c (Str.ofString "_law_bad")∧∀ (x:Int) (m:Nat) (sto:Sto) (Q:D→Sto→Prop) (X:Str→Prop),1≤m→(∀ d sto',Ext sto sto'→isFrD d=false→KnT sto' d→Q d sto')→CallOK c m (Str.ofString "_law_bad") [.int x] sto Q X
noncomputable def WrongD (s:Sto) (d:D):Prop:=RowB d false∧KnR s d
noncomputable def WrongOK (c:Cx):Prop:=IsFn c (Str.ofString "_law_wrong_row")∧∀ (x:Int) (p:List Rat) (m:Nat) (sto:Sto) (Q:D→Sto→Prop) (X:Str→Prop),2≤m→p.length≤100→(∀ d sto',Ext sto sto'→WrongD sto' d→Q d sto')→CallOK c m (Str.ofString "_law_wrong_row") [.int x,rowD p] sto Q X
theorem wrong_put {s:Sto} {p r:List Rat} {d:D} (hd:isFrD d=false) (hk:KnT s d) (hl:p.length+r.length≤900):WrongD s (.tup (p.map frD ++ [d] ++ r.map frD)):=by
 refine ⟨.inr ⟨rfl,fun ds e=>?_⟩,?_,fun x hx=>?_⟩
 ·cases e
  rw [List.all_eq_false]
  exact ⟨d,by simp,by rw [hd]; exact Bool.false_ne_true⟩
 ·simp only [List.length_append,List.length_map,List.length_cons,List.length_nil]; exact lin [_,_] [] [.nl (.a (.x 0) (.x 1)) (.k 900)] [] (.nl (.a (.a (.x 0) (.a (.k 0) (.k 1))) (.x 1)) (.k 1000)) (.l 1 [1]) rfl hl
 ·rcases List.mem_append.mp hx with hx | hx
  ·rcases List.mem_append.mp hx with hx | hx
   ·exact knT_row p x hx
   ·rw [List.mem_singleton.mp hx]; exact hk
  ·exact knT_row r x hx
section
variable {c:Cx} (CO:CxOK c) (EO:ExcOK c) (RO:RzOK c)
include CO EO RO
theorem bad_ok {ps v:List Str} (hf:FnIs c (Str.ofString "_law_bad") ps v s__law_bad) (hps:ps.length=1):BadOK c:=by
 refine ⟨hf.isFn,fun x m sto Q X hm h=>?_⟩
 obtain ⟨n,rfl⟩:∃ n,m=n+1:=⟨m - 1,by exact o127 hm⟩
 refine fn_call CO EO RO hf hps.symm ?_
 unfold s__law_bad
 walk_at "m"
 refine ⟨Nat.le_of_ble_eq_true rfl,?_⟩
 walk_at "m"
 refine ⟨Nat.le_of_ble_eq_true rfl,?_⟩
 walk_at "m"
 refine ⟨Nat.le_of_ble_eq_true rfl,?_⟩
 walk_at "m"
 refine ⟨Nat.le_of_ble_eq_true rfl,?_⟩
 walk_at "m"
 refine ⟨Nat.le_of_ble_eq_true rfl,?_⟩
 walk_at "m"
 refine ⟨Nat.le_of_ble_eq_true rfl,fun l7 hl7=>?_⟩
 walk_at "m"
 refine ⟨Nat.le_of_ble_eq_true rfl,?_⟩
 walk_at "m"
 refine ⟨Nat.le_of_ble_eq_true rfl,?_⟩
 walk_at "m"
 refine ⟨Nat.le_of_ble_eq_true rfl,?_⟩
 walk_at "m"
 refine ⟨Nat.le_of_ble_eq_true rfl,?_⟩
 walk_at "m"
 refine ⟨Nat.le_of_ble_eq_true rfl,fun l hl=>?_⟩
 walk_at "m"
 refine o_mod (by decide) ?_
 obtain ⟨u,hu,eu⟩:=fmod_lt (a:=x) (m:=12) (by exact lin [] [] [] [] (.nt (.k 0) (.k 12)) (.l 1 []) rfl)
 rw [show x.fmod 12=(u:Int) from eu]
 refine i_lst (o:=true) (ds:=badsD l7) put_same (Nat.le_of_ble_eq_true rfl) (nth_at hu) ?_
 walk_at "m"
 have e0:Ext (Sto.ro sto) (Sto.put (Sto.ro sto) l7 (.list true [.int 1,.int 1])):=(Ext.refl _).put hl7
 have e1:=e0.put (l:=l) (xs:=badsD l7) (e0.none hl)
 refine ret_all e1 fun sto' hx hd _=>?_
 have hb:=bads_bad (s:=sto') (hd l7 _ _ (put_old hl put_same)) _ (List.getElem_mem hu)
 exact h _ _ hx hb.1 hb.2
theorem wrong_ok (hba:BadOK c) {ps v:List Str} (hf:FnIs c (Str.ofString "_law_wrong_row") ps v s__law_wrong_row) (hps:ps.length=2):WrongOK c:=by
 refine ⟨hf.isFn,fun x p m sto Q X hm hp h=>?_⟩
 obtain ⟨n,rfl⟩:∃ n,m=n+1:=⟨m - 1,by exact o524 hm⟩
 refine fn_call CO EO RO hf hps.symm ?_
 unfold s__law_wrong_row
 have lim':(p.map frD).length≤lim:=by exact Mine.mlim (by exact o246 hp)
 walk_at "m"
 refine o_fdiv (by decide) ?_
 walk_at "m"
 refine f_lenR (by exact o246 hp) ?_
 walk_at "m"
 refine o_mod (by exact o176) ?_
 obtain ⟨u,hu,eu⟩:=fmod_lt (a:=x.fdiv 96) (m:=p.length+1) (by exact o189)
 rw [show (x.fdiv 96).fmod ((p.length:Int)+1)=(u:Int) from eu]
 walk_at "m"
 refine o_mod (by decide) ?_
 walk_at "m"
 refine if_b (fun _=>?_) fun _=>?_
 ·walk_at "m"
  refine ⟨Nat.le_of_ble_eq_true rfl,?_⟩
  walk_at "m"
  refine ⟨Nat.le_of_ble_eq_true rfl,?_⟩
  rw [fr0]
  refine o_addT lim' (Nat.le_of_ble_eq_true rfl) ?_
  walk_at "m"
  refine ret_plain (h _ _ (Ext.refl _) ?_)
  have e:D.tup (p.map frD ++ [frD 0])=rowD (p ++ [0]):=by unfold rowD; rw [List.map_append]; rfl
  rw [e]
  refine ⟨.inl ⟨_,rfl,⟨fun z=>Bool.noConfusion z,fun z=>?_⟩⟩,knR_row (by rw [List.length_append]; show p.length+1≤1000; exact lin [_] [] [.nl (.x 0) (.k 100)] [] (.nl (.a (.x 0) (.k 1)) (.k 1000)) (.l 1 [1]) rfl hp)⟩
  rcases z with z | z
  ·exact absurd z (by simp)
  ·refine absurd ?_ z
   rw [cf_app,List.length_append,if_neg (by show ¬ p.length+1 - 1<p.length; exact o526),show p.length+[(0:Rat)].length - 1 - p.length=0 by show p.length+1 - 1 - p.length=0; exact o527]
   rfl
 walk_at "m"
 refine o_mod (by decide) ?_
 walk_at "m"
 refine if_b (fun _=>?_) fun _=>?_
 ·walk_at "m"
  refine f_listT lim' fun l1 hl1=>?_
  walk_at "m"
  refine ⟨Nat.le_of_ble_eq_true rfl,fun l2 hl2=>?_⟩
  walk_at "m"
  refine ⟨Nat.le_of_ble_eq_true rfl,fun l hl=>?_⟩
  walk_at "m"
  refine o_fdiv (by decide) ?_
  walk_at "m"
  refine o_mod (by decide) ?_
  obtain ⟨w,hw,ew⟩:=fmod_lt (a:=x.fdiv 96) (m:=6) (by exact lin [] [] [] [] (.nt (.k 0) (.k 6)) (.l 1 []) rfl)
  rw [show (x.fdiv 96).fmod 6=(w:Int) from ew]
  refine i_lst (o:=true) (ds:=[.lst l1,.none,.str (Str.ofString "row"),.int 5,.lst l2,.bool true]) put_same (Nat.le_of_ble_eq_true rfl) (nth_at hw) ?_
  walk_at "m"
  have e0:Ext (Sto.ro sto) (Sto.put (Sto.ro sto) l1 (.list true (p.map frD))):=(Ext.refl _).put hl1
  have e1:=e0.put (l:=l2) (xs:=[rowD p]) (e0.none hl2)
  have e2:=e1.put (l:=l) (xs:=[.lst l1,.none,.str (Str.ofString "row"),.int 5,.lst l2,.bool true]) (e1.none hl)
  refine ret_all e2 fun sto' hx hd _=>h _ _ hx ?_
  have k1:=hd l1 _ _ (put_old hl (put_old hl2 put_same))
  have k2:=hd l2 _ _ (put_old hl put_same)
  have all:∀ d∈[D.lst l1,.none,.str (Str.ofString "row"),.int 5,.lst l2,.bool true],WrongD sto' d:=by
   simp only [List.forall_mem_cons,List.not_mem_nil,false_implies,implies_true,and_true]
   exact ⟨⟨.inr ⟨rfl,fun ds e=>by cases e⟩,k1⟩,⟨.inr ⟨rfl,fun ds e=>by cases e⟩,trivial⟩,⟨.inr ⟨rfl,fun ds e=>by cases e⟩,trivial⟩,⟨.inr ⟨rfl,fun ds e=>by cases e⟩,trivial⟩,⟨.inr ⟨rfl,fun ds e=>by cases e⟩,k2⟩,⟨.inr ⟨rfl,fun ds e=>by cases e⟩,trivial⟩⟩
  exact all _ (List.getElem_mem hw)
 walk_at "m"
 refine sl_tup rfl rfl lim' ?_
 rw [cut_take _ _ (by rw [List.length_map]; exact o66 hu)]
 walk_at "m"
 refine e_call hba.1 ?_
 walk_at "m"
 refine o_fdiv (by decide) ?_
 walk_at "m"
 refine hba.2 _ _ _ _ _ (by exact lin [_] [] [.nl (.k 2) (.a (.x 0) (.k 1))] [] (.nl (.k 1) (.x 0)) (.l 1 [1]) rfl hm) fun d sto1 hx1 hd hk=>?_
 walk_at "m"
 refine ⟨Nat.le_of_ble_eq_true rfl,?_⟩
 refine o_addT (by rw [List.length_take,List.length_map]; unfold lim; exact o530 hp) (Nat.le_of_ble_eq_true rfl) ?_
 walk_at "m"
 refine sl_tup rfl rfl lim' ?_
 rw [cut_drop _ _ (by rw [List.length_map]; exact o66 hu)]
 refine o_addT (by rw [List.length_append,List.length_take,List.length_map]; show _+1≤_; unfold lim; exact o531 hp) (by rw [List.length_drop,List.length_map]; unfold lim; exact o532 hp) ?_
 walk_at "m"
 refine ret_all hx1 fun sto' hx hd' _=>h _ _ hx ?_
 rw [← List.map_take,← List.map_drop]
 exact wrong_put hd (hk.mono hd') (by rw [List.length_take,List.length_drop]; exact o533 hp)
end
end Mine
namespace Mine
open PySem
noncomputable def nmRow:Str:=Str.ofString "NoRow"
noncomputable def nmQuo:Str:=Str.ofString "NoQuotient"
noncomputable def nmNou:Str:=Str.ofString "Nought"
theorem c_mix {σ:St} {Q:D→St→Prop} {x y:D} {b:Bool} (e:eqMix σ.sto x y=some b) (h:Q (.bool b) σ):opCmp .Eq x y Q σ:=.inr ⟨b,e,h⟩
theorem c_in {σ:St} {Q:D→St→Prop} {i:Int} {js:List Int} (h:Q (.bool (js.any (·==i))) σ):opCmp .In (.int i) (.tup (js.map D.int)) Q σ:=⟨i,js,rfl,rfl,h⟩
noncomputable def Gd (p:List Rat):Prop:=Rw p∧p.length≤6∧RC 130 (cf p)
noncomputable def Stt (sto:Sto) (d:D) (b:Bool):Prop:=KnR sto d∧RowB d b∧(b=true→∃ p,d=rowD p∧Gd p)
theorem stt_row {sto:Sto} {p:List Rat} (h:Gd p):Stt sto (rowD p) true:=⟨knR_row (by have:=h.2.1; exact o534 this),rowB_row h.1,fun _=>⟨p,rfl,h⟩⟩
theorem stt_wrong {sto:Sto} {d:D} (h:WrongD sto d):Stt sto d false:=⟨h.2,h.1,fun z=>by cases z⟩
theorem Stt.mono {s s':Sto} (h:Lk s s') {d:D} {b:Bool} (k:Stt s d b):Stt s' d b:=⟨k.1.mono h,k.2⟩
theorem Stt.ro {s:Sto} {d:D} {b:Bool} (k:Stt s d b):Stt (Sto.ro s) d b:=⟨k.1.ro,k.2⟩
noncomputable def NeedR (c:Cx):Prop:=IsFn c (Str.ofString "need_row")∧∀ (d:D) (b:Bool) (m:Nat) (sto:Sto) (Q:D→Sto→Prop) (X:Str→Prop),4≤m→KnR sto d→RowB d b→(b=true→Q .none sto)→(b=false→X nmRow)→CallOK c m (Str.ofString "need_row") [d] sto Q X
noncomputable def In2 (c:Cx) (z:Bool) (g:Str):Prop:=IsFn c g∧∀ (p q:List Rat) (m:Nat) (sto:Sto) (Q:D→Sto→Prop) (X:Str→Prop),8≤m→Gd p→Gd q→(z=true→q≠[])→(∀ r,Q r sto)→CallOK c m g [rowD p,rowD q] sto Q X
noncomputable def Two (c:Cx) (z:Bool) (f:Str):Prop:=IsFn c f∧∀ (d e:D) (b b':Bool) (m:Nat) (sto:Sto) (Q:D→Sto→Prop) (X:Str→Prop),9≤m→Stt sto d b→Stt sto e b'→((b&&b')=false→X nmRow)→((b&&b')=true→(z=true→e=rowD []→X nmNou)∧((z=true→e≠rowD [])→∀ r,Q r sto))→CallOK c m f [d,e] sto Q X
noncomputable def s_twoT (g:Str) (msg:Str):Bool→List S
 | true=>[.ifs (.cmp .Eq (.var 1) (.tup [])) [.raise (Str.ofString "Nought") msg] [],.ret (.call g [.var 0,.var 1])]
 | false=>[.ret (.call g [.var 0,.var 1])]
noncomputable def s_two (z:Bool) (g:Str) (msg:Str):List S:=.expr (.call (Str.ofString "need_row") [.var 0]) :: .expr (.call (Str.ofString "need_row") [.var 1]) :: s_twoT g msg z
section
variable {c:Cx} (CO:CxOK c) (EO:ExcOK c) (RO:RzOK c)
include CO EO RO
theorem needR_ok (hC:∃ C,c.cls nmRow=some C) (hg:IsRowOK c 3 (Str.ofString "is_row")) {ps v:List Str} (hf:FnIs c (Str.ofString "need_row") ps v s_need_row) (hps:ps.length=1):NeedR c:=by
 refine ⟨hf.isFn,fun d b m sto Q X hm hk hB h1 h2=>?_⟩
 obtain ⟨n,rfl⟩:∃ n,m=n+1:=⟨m - 1,by exact o147 hm⟩
 obtain ⟨C,hC⟩:=hC
 refine fn_call CO EO RO hf hps.symm ?_
 unfold s_need_row
 walk_at "m"
 refine e_call hg.1 ?_
 walk_at "m"
 refine hg.2 d b _ _ _ _ (by exact o158 hm) hk.ro hB ?_
 walk_at "m"
 refine if_b (fun z=>?_) fun z=>?_
 ·walk_at "m"
  exact g_raise hC (h2 ((Bool.not_eq_true' _).mp z))
 ·walk_at "m"
  exact ret_plain (h1 ((Bool.not_eq_false' _).mp z))
theorem two_ok {z:Bool} {f g msg:Str} (hC:∃ C,c.cls nmNou=some C) (hn:NeedR c) (hg:In2 c z g) {ps v:List Str} (hf:FnIs c f ps v (s_two z g msg)) (hps:ps.length=2):Two c z f:=by
 refine ⟨hf.isFn,fun d e b b' m sto Q X hm hd he h1 h2=>?_⟩
 obtain ⟨n,rfl⟩:∃ n,m=n+1:=⟨m - 1,by exact o502 hm⟩
 obtain ⟨C,hC⟩:=hC
 refine fn_call CO EO RO hf hps.symm ?_
 unfold s_two
 walk_at "m"
 refine e_call hn.1 ?_
 walk_at "m"
 refine hn.2 d b _ _ _ _ (by exact o535 hm) hd.1.ro hd.2.1 (fun hb=>?_) fun hb=>h1 (by rw [hb]; rfl)
 walk_at "m"
 refine e_call hn.1 ?_
 walk_at "m"
 refine hn.2 e b' _ _ _ _ (by exact o535 hm) he.1.ro he.2.1 (fun hb'=>?_) fun hb'=>h1 (by rw [hb',Bool.and_false])
 obtain ⟨p,rfl,gp⟩:=hd.2.2 hb
 obtain ⟨q,rfl,gq⟩:=he.2.2 hb'
 obtain ⟨h3,h4⟩:=h2 (by rw [hb,hb']; rfl)
 cases z with
 | false =>
  unfold s_twoT
  walk_at "m"
  refine e_call hg.1 ?_
  walk_at "m"
  exact hg.2 p q _ _ _ _ (by exact o503 hm) gp gq (fun z=>by cases z) fun r=>ret_plain (h4 (fun z=>by cases z) r)
 | true =>
  unfold s_twoT
  walk_at "m"
  refine ⟨by exact Nat.le_of_ble_eq_true rfl,?_⟩
  refine c_eqD (eq_rows q []) ?_
  walk_at "m"
  refine if_b (fun hb=>?_) fun hb=>?_
  ·walk_at "m"
   exact g_raise hC (h3 rfl (by rw [beq_iff_eq.mp hb]))
  ·have hq:q≠[]:=beq_eq_false_iff_ne.mp hb
   walk_at "m"
   refine e_call hg.1 ?_
   walk_at "m"
   exact hg.2 p q _ _ _ _ (by exact o503 hm) gp gq (fun _=>hq) fun r=>ret_plain (h4 (fun _ z=>hq (by
    have:(q.map frD)=[]:=D.tup.inj z
    exact List.map_eq_nil_iff.mp this)) r)
end
end Mine
namespace Mine
open PySem
theorem in2_added {c:Cx} (h:AddedOK c):In2 c false (Str.ofString "added"):=⟨h.1,fun p q m sto Q X hm gp gq _ hQ=>h.2 p q 130 130 m sto Q X (by exact o536 hm) (fun i=>gp.2.2.rs i) (fun i=>gq.2.2.rs i) (by exact lin [] [] [] [] (.nl (.a (.k 130) (.k 130)) (.k 67108864)) (.l 1 []) rfl) (by have:=gp.2.1; exact o538 this) (by have:=gq.2.1; exact o538 this) fun r _=>hQ _⟩
theorem in2_mult {c:Cx} (h:MultOK c):In2 c false (Str.ofString "multiplied"):=⟨h.1,fun p q m sto Q X hm gp gq _ hQ=>h.2 p q 130 130 m sto Q X (by exact o536 hm) gp.2.2 gq.2.2 (by exact lin [] [] [] [] (.nl (.a (.k 130) (.k 130)) (.k 33000000)) (.l 1 []) rfl) (by have:=gp.2.1; exact o540 this) (by have:=gq.2.1; exact o541 this) fun r _=>hQ _⟩
theorem in2_parted {c:Cx} (h:PartedOK c):In2 c true (Str.ofString "parted"):=⟨h.1,fun p q m sto Q X hm gp gq hq hQ=>h.2 p q 130 130 m sto Q X (by exact o536 hm) gp.2.2 gq.2.2 (by
  have:(p.length+2 - q.length)*(130+1)≤8*131:=Nat.mul_le_mul (by have:=gp.2.1; exact o542 this) (Nat.le_refl _)
  exact lin [_] [] [.nl (.x 0) (.m 8 (.k 131))] [] (.nl (.a (.k 130) (.x 0)) (.k 20000000)) (.l 1 [1]) rfl this) (hq rfl) gq.1 (by have:=gp.2.1; exact o540 this) (by have:=gq.2.1; exact o540 this) fun W R _=>hQ _⟩
theorem in2_shared {c:Cx} (h:ShOK c):In2 c false (Str.ofString "shared"):=⟨h.1,fun p q m sto Q X hm gp gq _ hQ=>h.2 p q 130 m sto Q X (by exact lin [_] [] [.nl (.k 8) (.x 0)] [] (.nl (.k 6) (.x 0)) (.l 1 [1]) rfl hm) gp.1 gq.1 gp.2.2 gq.2.2 (by exact o545) (by have:=gp.2.1; exact o540 this) (by have:=gq.2.1; exact o540 this) fun G S T _=>hQ _⟩
theorem in2_made {c:Cx} (h:MadeOK c):In2 c true (Str.ofString "made"):=⟨h.1,fun p q m sto Q X hm gp gq hq hQ=>h.2 p q 130 m sto Q X (by exact lin [_] [] [.nl (.k 8) (.x 0)] [] (.nl (.k 7) (.x 0)) (.l 1 [1]) rfl hm) gp.1 gq.1 (hq rfl) gp.2.2 gq.2.2 (by exact o545) (by have:=gp.2.1; exact o540 this) (by have:=gq.2.1; exact o540 this) fun G S _=>hQ _⟩
noncomputable def RateG (c:Cx):Prop:=IsFn c (Str.ofString "rate_of")∧∀ (p:List Rat) (k m:Nat) (sto:Sto) (Q:D→Sto→Prop) (X:Str→Prop),4≤m→RC k (cf p)→k≤1000→p.length≤15→(∀ V,Rw V→V.length≤p.length→RC (k+4) (cf V)→Q (rowD V) sto)→CallOK c m (Str.ofString "rate_of") [rowD p] sto Q X
noncomputable def Rate1 (c:Cx):Prop:=IsFn c (Str.ofString "rate")∧∀ (d:D) (b:Bool) (m:Nat) (sto:Sto) (Q:D→Sto→Prop) (X:Str→Prop),9≤m→Stt sto d b→(b=false→X nmRow)→(b=true→∀ r,Q r sto)→CallOK c m (Str.ofString "rate") [d] sto Q X
noncomputable def Tld (sto:Sto) (xs:List (D×Bool)):Prop:=∀ x∈xs,Stt sto x.1 x.2
noncomputable def allB (xs:List (D×Bool)):Bool:=xs.all (·.2)
noncomputable def PartsR (c:Cx):Prop:=IsFn c (Str.ofString "parts")∧∀ (d:D) (b:Bool) (xs:List (D×Bool)) (a:Addr) (o:Bool) (m:Nat) (sto:Sto) (Q:D→Sto→Prop) (X:Str→Prop),11≤m→Stt sto d b→Tld sto xs→xs.length≤10→sto a=some (.list o (xs.map (·.1)))→((b&&allB xs)=false→X nmRow)→((b&&allB xs)=true→d=rowD []→X nmNou)→((b&&allB xs)=true→d≠rowD []→∀ r l k,sto l=none→Q r (Sto.put sto l (.list true k)))→CallOK c m (Str.ofString "parts") [d,.lst a] sto Q X
theorem rowD_nil {q:List Rat} (z:rowD q=rowD []):q=[]:=by
 have:(q.map frD)=[]:=D.tup.inj z
 exact List.map_eq_nil_iff.mp this
theorem tldGd {sto:Sto} {xs:List (D×Bool)} (h:Tld sto xs) (k:allB xs=true):∃ ts:List (List Rat),xs.map (·.1)=ts.map rowD∧∀ t∈ts,Gd t:=by
 induction xs with
 | nil=>exact ⟨[],rfl,fun t ht=>by cases ht⟩
 | cons x xs ih =>
  obtain ⟨k1,k2⟩:=and2 (show (x.2&&xs.all (·.2))=true from k)
  obtain ⟨ts,e,g⟩:=ih (fun y hy=>h y (.tail _ hy)) k2
  obtain ⟨p,e',gp⟩:=(h x (.head _)).2.2 k1
  refine ⟨p :: ts,?_,fun t ht=>?_⟩
  ·rw [List.map_cons,List.map_cons,e,e']
  ·rcases List.mem_cons.mp ht with rfl | ht
   ·exact gp
   ·exact g t ht
theorem Gd.td {t:List Rat} (h:Gd t):TdR t:=⟨h.1,by have:=h.2.1; exact o540 this,h.2.2.mono (by exact lin [] [] [] [] (.nl (.k 130) (.k 335)) (.l 1 []) rfl)⟩
theorem tld_at {xs:List (D×Bool)} {i:Nat} {d:D} (h:(xs.map (·.1))[i]?=some d):∃ x,xs[i]?=some x∧d=x.1:=by
 rw [List.getElem?_map] at h
 cases e:xs[i]? with
 | none=>rw [e] at h; cases h
 | some x=>rw [e] at h; cases h; exact ⟨x,rfl,rfl⟩
theorem allB_of {xs:List (D×Bool)} (h:∀ (i:Nat) (x:D×Bool),xs[i]?=some x→x.2=true):allB xs=true:=List.all_eq_true.mpr fun x hx=>by
 obtain ⟨i,hi⟩:=List.getElem?_of_mem hx
 exact h i x hi
section
variable {c:Cx} (CO:CxOK c) (EO:ExcOK c) (RO:RzOK c)
include CO EO RO
theorem rateG_ok {t g x:Str} (ht:TrimOK c 1 t) (hg:ProdOK c 3 g) {ps v:List Str} (hf:FnIs c (Str.ofString "rate_of") ps v (s_rateG t g x)) (hps:ps.length=1):RateG c:=by
 refine ⟨hf.isFn,fun p k m sto Q X hm kp hk lp h=>rate_ok CO EO RO ht hg hf hps (fun i=>kp.rs i) (by exact o479 hk) (by exact o449 lp) hm fun r hr=>?_⟩
 have e:cf (trimL r)=der (cf p):=funext fun j=>by
  rw [cf_trim,hr j,Rat.mul_comm]; rfl
 refine h _ (rw_trim r) (rw_len' (rw_trim r) fun j hj=>?_) (by rw [e]; exact rc_der kp lp)
 rw [e]
 show _*cf p (j+1)=0
 rw [cf_ge (by exact lin [_,_] [] [.nl (.x 0) (.x 1)] [] (.nl (.x 0) (.a (.x 1) (.k 1))) (.l 1 [1]) rfl hj),Rat.mul_zero]
theorem rate1_ok (hn:NeedR c) (hr:RateG c) {ps v:List Str} (hf:FnIs c (Str.ofString "rate") ps v s_rate) (hps:ps.length=1):Rate1 c:=by
 refine ⟨hf.isFn,fun d b m sto Q X hm hd h1 h2=>?_⟩
 obtain ⟨n,rfl⟩:∃ n,m=n+1:=⟨m - 1,by exact o502 hm⟩
 refine fn_call CO EO RO hf hps.symm ?_
 unfold s_rate
 walk_at "m"
 refine e_call hn.1 ?_
 walk_at "m"
 refine hn.2 d b _ _ _ _ (by exact o535 hm) hd.1.ro hd.2.1 (fun hb=>?_) h1
 obtain ⟨p,rfl,gp⟩:=hd.2.2 hb
 walk_at "m"
 refine e_call hr.1 ?_
 walk_at "m"
 exact hr.2 p 130 _ _ _ _ (by exact o535 hm) gp.2.2 (by exact lin [] [] [] [] (.nl (.k 130) (.k 1000)) (.l 1 []) rfl) (by have:=gp.2.1; exact o540 this) fun V _ _ _=>ret_plain (h2 hb _)
theorem need_loop (hn:NeedR c) {n:Nat} (hm:4≤n) {σ:St} {xs:List (D×Bool)} {a:Addr} {o:Bool} {i:Nat} {K:Fl→St→Prop} {X:Str→St→Prop} {y:Nat} (hy:y≠i) (g1:σ.loc i=some (.lst a)) (ha:σ.sto a=some (.list o (xs.map (·.1)))) (hx:Tld σ.sto xs) (lx:xs.length≤10) (hX:allB xs=false→∀ τ,X nmRow τ) (h:allB xs=true→∀ τ:St,(∀ j,j≠y→τ.loc j=σ.loc j)→τ.sto=σ.sto→K .next τ) :
  wS c n true (.fors [y] true .plain [.var i] [.expr (.call (Str.ofString "need_row") [.var y])]) K X σ:=by
 refine g_for1 (i_tup1 (e_var g1 ?_))
 refine ⟨o,xs.map (·.1),ha,by exact Mine.mlim (by exact o504 lx),?_⟩
 refine forL_inv (fun k τ=>(∀ j x,j<k→xs[j]?=some x→x.2=true)∧(∀ j,j≠y→τ.loc j=σ.loc j)∧τ.sto=σ.sto) (fun _ _=>False) _ 0 _ ⟨(fun j x hj=>by omega),(fun _ _=>rfl),rfl⟩ ?_ ?_ (fun _ _ z=>z.elim) ?_
 ·rintro k τ ⟨_,_,sa⟩
  exact ⟨o,by rw [sa]; exact ha⟩
 ·rintro k d τ K' hd ⟨g0,g1',sa⟩ hn' hr
  obtain ⟨x,hx1,rfl⟩:=tld_at hd
  rw [Nat.zero_add] at g0 hn'
  have st:=hx x (List.mem_of_getElem? hx1)
  walk_at "m"
  refine e_call hn.1 ?_
  refine es_cons (e_var (d:=x.1) (show (if y=y then some x.1 else τ.loc y)=some x.1 from if_pos rfl) (es_nil ?_))
  refine hn.2 x.1 x.2 _ _ _ _ (by exact lin [_] [] [.nl (.k 4) (.x 0)] [] (.nl (.k 4) (.x 0)) (.l 1 [1]) rfl hm) (by show KnR τ.sto x.1; rw [sa]; exact st.1) st.2.1 (fun hb=>?_) fun hb=>?_
  ·walk_at "m"
   refine hn' _ ⟨fun j z hj e=>?_,fun j hj=>?_,sa⟩
   ·by_cases hjk:j=k
    ·rw [hjk,hx1] at e; cases e; exact hb
    ·exact g0 j z (by exact o145 hj hjk) e
   ·show (if j=y then some x.1 else τ.loc j)=_
    rw [if_neg hj]; exact g1' j hj
  ·refine hX ?_ _
   cases e:allB xs with
   | false=>rfl
   | true=>have:=List.all_eq_true.mp e x (List.mem_of_getElem? hx1); rw [hb] at this; cases this
 ·rintro τ ⟨g0,g1',sa⟩
  rw [Nat.zero_add,List.length_map] at g0
  exact h (allB_of fun j x e=>g0 j x (List.getElem?_eq_some_iff.mp e).1 e) τ g1' sa
end
end Mine
namespace Mine
open PySem
noncomputable def s_need_quotient:List S:=[
  .ifs (.not (.call (Str.ofString "is_quotient") [.var 0])) [.raise (Str.ofString "NoQuotient") (Str.ofString "no quotient")] []]
noncomputable def s_together:List S:=[
  .assign 2 (.call (Str.ofString "added") [.call (Str.ofString "multiplied") [.idx (.var 0) (.cint 0),.idx (.var 1) (.cint 1)],.call (Str.ofString "multiplied") [.idx (.var 1) (.cint 0),.idx (.var 0) (.cint 1)]]),
  .ret (.call (Str.ofString "made") [.var 2,.call (Str.ofString "multiplied") [.idx (.var 0) (.cint 1),.idx (.var 1) (.cint 1)]])]
noncomputable def s_joined:List S:=[
  .expr (.call (Str.ofString "need_quotient") [.var 0]),
  .expr (.call (Str.ofString "need_quotient") [.var 1]),
  .ret (.call (Str.ofString "together") [.var 0,.var 1])]
noncomputable def s_rated:List S:=[
  .expr (.call (Str.ofString "need_quotient") [.var 0]),
  .assign 1 (.call (Str.ofString "multiplied") [.call (Str.ofString "rate_of") [.idx (.var 0) (.cint 0)],.idx (.var 0) (.cint 1)]),
  .assign 2 (.call (Str.ofString "multiplied") [.idx (.var 0) (.cint 0),.call (Str.ofString "rate_of") [.idx (.var 0) (.cint 1)]]),
  .ret (.call (Str.ofString "made") [.call (Str.ofString "lessened") [.var 1,.var 2],.call (Str.ofString "multiplied") [.idx (.var 0) (.cint 1),.idx (.var 0) (.cint 1)]])]
noncomputable def qD (h l:List Rat):D:=.tup [rowD h,rowD l]
noncomputable def NeedQ (c:Cx):Prop:=IsFn c (Str.ofString "need_quotient")∧∀ (d:D) (b:Bool) (m:Nat) (sto:Sto) (Q:D→Sto→Prop) (X:Str→Prop),8≤m→QB sto d b→(b=true→Q .none sto)→(b=false→X nmQuo)→CallOK c m (Str.ofString "need_quotient") [d] sto Q X
noncomputable def TogOK (c:Cx):Prop:=IsFn c (Str.ofString "together")∧∀ (h l h' l':List Rat) (k m:Nat) (sto:Sto) (Q:D→Sto→Prop) (X:Str→Prop),8≤m→RC k (cf h)→RC k (cf l)→RC k (cf h')→RC k (cf l')→Rw l→Rw l'→l≠[]→l'≠[]→2*(2*k+4)+1≤350→h.length≤6→l.length≤6→h'.length≤6→l'.length≤6→(∀ u v,Q (qD u v) sto)→CallOK c m (Str.ofString "together") [qD h l,qD h' l'] sto Q X
theorem sum_rc {p q r:List Rat} {k:Nat} (hs:IsSum p q r) (kp:RC k (cf p)) (kq:RC k (cf q)):RC (2*k+1) (cf (trimL r)):=by
 obtain ⟨d,z,d0,db,zb,e⟩:=kp
 obtain ⟨d',z',d0',db',zb',e'⟩:=kq
 have m:∀ {a b:Int},a.natAbs<2 ^ k→b.natAbs<2 ^ k→(a*b).natAbs<2 ^ (2*k):=fun {a b} h1 h2=>by
  rw [Int.natAbs_mul,show 2*k=k+k by exact o551,Nat.pow_add]
  exact Nat.mul_lt_mul'' h1 h2
 have up:(2:Nat) ^ (2*k+1)=2 ^ (2*k)+2 ^ (2*k):=by rw [Nat.pow_succ]; exact o552
 refine ⟨d*d',fun i=>z i*d'+z' i*d,Int.mul_ne_zero d0 d0',by have:=m db db'; omega,fun i=>?_,fun i=>?_⟩
 ·have h1:=m (zb i) db'
  have h2:=m (zb' i) db
  have h3:=Int.natAbs_add_le (z i*d') (z' i*d)
  show (z i*d'+z' i*d).natAbs<_
  omega
 ·rw [cf_trim,hs i,Rat.intCast_add,Rat.intCast_mul,Rat.intCast_mul,Rat.intCast_mul,← e i,← e' i]
  grind
theorem prod_rc {p q r:List Rat} {k l:Nat} (hp:IsProd p q r) (kp:RC k (cf p)) (kq:RC l (cf q)) (lp:p.length≤15):RC (k+l+4) (cf (trimL r)):=(kp.prod kq lp).cong fun j=>by rw [cf_trim,hp j,cv_cvn]
section
variable {c:Cx} (CO:CxOK c) (EO:ExcOK c) (RO:RzOK c)
include CO EO RO
theorem partsR_ok (hC:∃ C,c.cls nmNou=some C) (hn:NeedR c) (hcu:CutsOK c 9 (Str.ofString "cut")) {ps v:List Str} (hf:FnIs c (Str.ofString "parts") ps v s_parts) (hps:ps.length=2):PartsR c:=by
 refine ⟨hf.isFn,fun d b xs a o m sto Q X hm hd hx lx ha h1 h2 h3=>?_⟩
 obtain ⟨n,rfl⟩:∃ n,m=n+1:=⟨m - 1,by exact o555 hm⟩
 obtain ⟨C,hC⟩:=hC
 refine fn_call CO EO RO hf hps.symm ?_
 unfold s_parts
 have ha':=ro_at ha
 walk_at "m"
 refine e_call hn.1 ?_
 walk_at "m"
 refine hn.2 d b _ _ _ _ (by exact o556 hm) hd.1.ro hd.2.1 (fun hb=>?_) fun hb=>h1 (by rw [hb]; rfl)
 obtain ⟨p,rfl,gp⟩:=hd.2.2 hb
 walk_at "m"
 refine need_loop CO EO RO hn (by exact o556 hm) (by decide) rfl ha' (fun x hx'=>(hx x hx').ro) lx (fun hb' _=>h1 (by rw [hb',Bool.and_false])) fun hb' τ t1 t2=>?_
 have hbb:(b&&allB xs)=true:=by rw [hb,hb']; rfl
 have g0:τ.loc 0=some (rowD p):=t1 0 (by decide)
 have g1:τ.loc 1=some (.lst a):=t1 1 (by decide)
 have sa:τ.sto a=some (.list false (xs.map (·.1))):=by rw [t2]; exact ha'
 walk_at "m"
 refine ⟨by exact Nat.le_of_ble_eq_true rfl,?_⟩
 refine c_eqD (eq_rows p []) ?_
 walk_at "m"
 refine if_b (fun hb=>?_) fun hb=>?_
 ·walk_at "m"
  exact g_raise hC (h2 hbb (by rw [beq_iff_eq.mp hb]))
 ·have p0:p≠[]:=beq_eq_false_iff_ne.mp hb
  obtain ⟨ts,et,gt⟩:=tldGd hx hb'
  have lt:ts.length≤10:=by
   have:=congrArg List.length et
   rw [List.length_map,List.length_map] at this
   exact o557 lx this
  walk_at "m"
  refine e_call hcu.1 ?_
  walk_at "m"
  refine hcu.2 p ts a false _ _ _ _ (by exact lin [_] [] [.nl (.k 11) (.a (.x 0) (.k 1))] [] (.nl (.k 9) (.x 0)) (.l 1 [1]) rfl hm) gp.1 p0 (gp.2.2.mono (by exact lin [] [] [] [] (.nl (.k 130) (.k 200)) (.l 1 []) rfl)) (by have:=gp.2.1; exact o540 this) lt (fun t ht=>(gt t ht).td) (by rw [← et]; exact sa) fun ys l I hl=>?_
  exact ret_list put_same fun hb=>h3 hbb (fun z=>p0 (rowD_nil z)) _ _ _ hb
theorem needQ_ok (hC:∃ C,c.cls nmQuo=some C) (hg:IsQOK c) {ps v:List Str} (hf:FnIs c (Str.ofString "need_quotient") ps v s_need_quotient) (hps:ps.length=1):NeedQ c:=by
 refine ⟨hf.isFn,fun d b m sto Q X hm hB h1 h2=>?_⟩
 obtain ⟨n,rfl⟩:∃ n,m=n+1:=⟨m - 1,by exact o482 hm⟩
 obtain ⟨C,hC⟩:=hC
 refine fn_call CO EO RO hf hps.symm ?_
 unfold s_need_quotient
 walk_at "m"
 refine e_call hg.1 ?_
 walk_at "m"
 refine hg.2 d b _ _ _ _ (by exact o496 hm) (hB.mono fun a o ds e=>⟨false,ds,ro_at e⟩) ?_
 walk_at "m"
 refine if_b (fun z=>?_) fun z=>?_
 ·walk_at "m"
  exact g_raise hC (h2 ((Bool.not_eq_true' _).mp z))
 ·walk_at "m"
  exact ret_plain (h1 ((Bool.not_eq_false' _).mp z))
theorem tog_ok (had:AddedOK c) (hmu:MultOK c) (hma:MadeOK c) {ps v:List Str} (hf:FnIs c (Str.ofString "together") ps v s_together) (hps:ps.length=2):TogOK c:=by
 refine ⟨hf.isFn,fun h l h' l' k m sto Q X hm kh kl kh' kl' wl wl' l0 l0' hk lh ll lh' ll' hQ=>?_⟩
 obtain ⟨n,rfl⟩:∃ n,m=n+1:=⟨m - 1,by exact o482 hm⟩
 refine fn_call CO EO RO hf hps.symm ?_
 unfold s_together qD
 walk_at "m"
 refine e_call had.1 ?_
 walk_at "m"
 refine e_call hmu.1 ?_
 walk_at "m"
 refine i_tup (by exact Nat.le_of_ble_eq_true rfl) rfl ?_
 walk_at "m"
 refine i_tup (by exact Nat.le_of_ble_eq_true rfl) rfl ?_
 walk_at "m"
 refine hmu.2 h l' k k _ _ _ _ (by exact o486 hm) kh kl' (by exact o560 hk) (by exact o540 lh) (by exact o541 ll') fun r hr=>?_
 walk_at "m"
 refine e_call hmu.1 ?_
 walk_at "m"
 refine i_tup (by exact Nat.le_of_ble_eq_true rfl) rfl ?_
 walk_at "m"
 refine i_tup (by exact Nat.le_of_ble_eq_true rfl) rfl ?_
 walk_at "m"
 refine hmu.2 h' l k k _ _ _ _ (by exact o486 hm) kh' kl (by exact o560 hk) (by exact o540 lh') (by exact o541 ll) fun r' hr'=>?_
 walk_at "m"
 have k1:=prod_rc hr kh kl' (by exact o540 lh)
 have k2:=prod_rc hr' kh' kl (by exact o540 lh')
 have len:∀ {p q r:List Rat},IsProd p q r→p.length≤6→q.length≤6→(trimL r).length≤12:=fun {p q r} hr lp lq=>rw_len' (rw_trim r) fun j hj=>by
  rw [cf_trim,hr j,cv_cvn]
  exact cvn_ge (N:=p.length) (M:=q.length) (fun i hi=>cf_ge hi) (fun i hi=>cf_ge hi) (by exact o561 lp lq hj)
 have lr:=len hr lh ll'
 have lr':=len hr' lh' ll
 refine had.2 (trimL r) (trimL r') (k+k+4) (k+k+4) _ _ _ _ (by exact o486 hm) (fun i=>k1.rs i) (fun i=>k2.rs i) (by exact lin [_] [] [.nl (.a (.m 2 (.a (.m 2 (.x 0)) (.k 4))) (.k 1)) (.k 350)] [] (.nl (.a (.a (.a (.x 0) (.x 0)) (.k 4)) (.a (.a (.x 0) (.x 0)) (.k 4))) (.k 67108864)) (.l 4 [4]) rfl hk) (by exact o563 lr) (by exact o563 lr') fun s hs=>?_
 have k3:=sum_rc hs k1 k2
 have ls:(trimL s).length≤12:=rw_len' (rw_trim s) fun j hj=>by
  rw [cf_trim,hs j,cf_ge (by exact o564 lr hj),cf_ge (by exact o564 lr' hj),Rat.add_zero]
 walk_at "m"
 refine e_call hma.1 ?_
 walk_at "m"
 refine e_call hmu.1 ?_
 walk_at "m"
 refine i_tup (by exact Nat.le_of_ble_eq_true rfl) rfl ?_
 walk_at "m"
 refine i_tup (by exact Nat.le_of_ble_eq_true rfl) rfl ?_
 walk_at "m"
 refine hmu.2 l l' k k _ _ _ _ (by exact o486 hm) kl kl' (by exact o560 hk) (by exact o540 ll) (by exact o541 ll') fun u hu=>?_
 have k4:=prod_rc hu kl kl' (by exact o540 ll)
 have lu:=len hu ll ll'
 have u0:trimL u≠[]:=fun z=>by
  have d:=(dg_cf wl l0).mul (dg_cf wl' l0')
  have e:cf (trimL u)=cvn (cf l) (cf l'):=funext fun j=>by rw [cf_trim,hu j,cv_cvn]
  rw [← e,z] at d
  exact d.1 rfl
 walk_at "m"
 exact hma.2 (trimL s) (trimL u) (2*(k+k+4)+1) _ _ _ _ (by exact o496 hm) (rw_trim s) (rw_trim u) u0 k3 (k4.mono (by exact lin [_] [] [] [] (.nl (.a (.a (.x 0) (.x 0)) (.k 4)) (.a (.m 2 (.a (.a (.x 0) (.x 0)) (.k 4))) (.k 1))) (.l 1 []) rfl)) (by exact lin [_] [] [.nl (.a (.m 2 (.a (.m 2 (.x 0)) (.k 4))) (.k 1)) (.k 350)] [] (.nl (.a (.m 2 (.a (.a (.x 0) (.x 0)) (.k 4))) (.k 1)) (.k 350)) (.l 4 [4]) rfl hk) (by exact o567 ls) (by exact o567 lu) fun a b _=>ret_plain (hQ a b)
end
end Mine
namespace Mine
open PySem
noncomputable def s_raised:List S:=[
  .assign 2 (.glob (Str.ofString "UNIT")),
  .fors [3] true .range [.var 1] [.assign 2 (.call (Str.ofString "multiplied") [.var 2,.var 0])],
  .ret (.var 2)]
noncomputable def s_pieces_of:List S:=[
  .assign 3 (.lst []),
  .fors [4] true .range [.var 2,.cint 0,.neg (.cint 1)] [.unpack [0,5] (.call (Str.ofString "parted") [.var 0,.var 1]),.ifs (.cmp .NotEq (.var 5) (.tup [])) [.assign 3 (.bin .Add (.lst [.tup [.var 5,.var 1,.var 4]]) (.var 3))] []],
  .ret (.var 3)]
noncomputable def Gr (p:List Rat):Prop:=Rw p∧p.length≤5∧RC 83 (cf p)
noncomputable def GQ (h l:List Rat):Prop:=Gr h∧Gr l∧l≠[]∧(l=[1]∨(h=[1]∧(∃ x,l=[x,1])∧RC 8 (cf l)))
noncomputable def QSt (sto:Sto) (d:D) (b:Bool):Prop:=QB sto d b∧(b=true→∃ h l,d=qD h l∧GQ h l)
theorem QSt.mono {s s':Sto} (h:Lk s s') {d:D} {b:Bool} (k:QSt s d b):QSt s' d b:=⟨k.1.mono h,k.2⟩
theorem lk_ro (s:Sto):Lk s (Sto.ro s):=fun a o ds e=>⟨false,ds,ro_at e⟩
noncomputable def JoinR (c:Cx):Prop:=IsFn c (Str.ofString "joined")∧∀ (d e:D) (b b':Bool) (m:Nat) (sto:Sto) (Q:D→Sto→Prop) (X:Str→Prop),10≤m→QSt sto d b→QSt sto e b'→((b&&b')=false→X nmQuo)→((b&&b')=true→∀ r,Q r sto)→CallOK c m (Str.ofString "joined") [d,e] sto Q X
noncomputable def RtdR (c:Cx):Prop:=IsFn c (Str.ofString "rated")∧∀ (d:D) (b:Bool) (m:Nat) (sto:Sto) (Q:D→Sto→Prop) (X:Str→Prop),10≤m→QSt sto d b→(b=false→X nmQuo)→(b=true→∀ r,Q r sto)→CallOK c m (Str.ofString "rated") [d] sto Q X
noncomputable def RaiOK (c:Cx):Prop:=IsFn c (Str.ofString "raised")∧∀ (l:List Rat) (m:Nat) (sto:Sto) (Q:D→Sto→Prop) (X:Str→Prop),5≤m→Gr l→Q (rowD l) sto→CallOK c m (Str.ofString "raised") [rowD l,.int 1] sto Q X
noncomputable def PieOK (c:Cx):Prop:=IsFn c (Str.ofString "pieces_of")∧∀ (t l:List Rat) (a b m:Nat) (sto:Sto) (Q:D→Sto→Prop) (X:Str→Prop),5≤m→RC a (cf t)→RC b (cf l)→a+(t.length+2 - l.length)*(b+1)≤20000000→l≠[]→Rw l→t.length≤15→l.length≤15→(∀ W R,IsDivC a b t l W R→trimL R≠[])→(∀ W R f,IsDivC a b t l W R→sto f=none→Q (.lst f) (Sto.put sto f (.list true [.tup [rowD (trimL R),rowD l,.int 1]])))→CallOK c m (Str.ofString "pieces_of") [rowD t,rowD l,.int 1] sto Q X
theorem diff_rc {p q:List Rat} {r:List Rat} {k:Nat} (hs:∀ i,cf r i=cf p i - cf q i) (kp:RC k (cf p)) (kq:RC k (cf q)):RC (2*k+1) (cf r):=by
 obtain ⟨d,z,d0,db,zb,e⟩:=kp
 obtain ⟨d',z',d0',db',zb',e'⟩:=kq
 have m:∀ {a b:Int},a.natAbs<2 ^ k→b.natAbs<2 ^ k→(a*b).natAbs<2 ^ (2*k):=fun {a b} h1 h2=>by
  rw [Int.natAbs_mul,show 2*k=k+k by exact o551,Nat.pow_add]
  exact Nat.mul_lt_mul'' h1 h2
 have up:(2:Nat) ^ (2*k+1)=2 ^ (2*k)+2 ^ (2*k):=by rw [Nat.pow_succ]; exact o552
 refine ⟨d*d',fun i=>z i*d' - z' i*d,Int.mul_ne_zero d0 d0',by have:=m db db'; omega,fun i=>?_,fun i=>?_⟩
 ·have h1:=m (zb i) db'
  have h2:=m (zb' i) db
  show (z i*d' - z' i*d).natAbs<_
  omega
 ·rw [hs i,Rat.intCast_sub,Rat.intCast_mul,Rat.intCast_mul,Rat.intCast_mul,← e i,← e' i]
  grind
theorem ret_new {sto τ:Sto} {Q:D→Sto→Prop} {d:D} {l:Addr} {xs:List D} (e:τ l=some (.list true xs)) (h:sto l=none→Q d (Sto.put sto l (.list true xs))):Ret sto τ Q d:=by
 refine ⟨Sto.put sto l (.list true xs),fun b k e'=>?_,fun f=>h (f l _ e rfl)⟩
 unfold Sto.put at e'
 split at e'
 ·rename_i hb
  subst hb
  cases e'
  exact .inr ⟨e,rfl⟩
 ·exact .inl e'
section
variable {c:Cx} (CO:CxOK c) (EO:ExcOK c) (RO:RzOK c)
include CO EO RO
theorem joinR_ok (hn:NeedQ c) (ht:TogOK c) {ps v:List Str} (hf:FnIs c (Str.ofString "joined") ps v s_joined) (hps:ps.length=2):JoinR c:=by
 refine ⟨hf.isFn,fun d e b b' m sto Q X hm hd he h1 h2=>?_⟩
 obtain ⟨n,rfl⟩:∃ n,m=n+1:=⟨m - 1,by exact o569 hm⟩
 refine fn_call CO EO RO hf hps.symm ?_
 unfold s_joined
 walk_at "m"
 refine e_call hn.1 ?_
 walk_at "m"
 refine hn.2 d b _ _ _ _ (by exact o570 hm) (hd.1.mono (lk_ro _)) (fun hb=>?_) fun hb=>h1 (by rw [hb]; rfl)
 walk_at "m"
 refine e_call hn.1 ?_
 walk_at "m"
 refine hn.2 e b' _ _ _ _ (by exact o570 hm) (he.1.mono (lk_ro _)) (fun hb'=>?_) fun hb'=>h1 (by rw [hb',Bool.and_false])
 obtain ⟨h,l,rfl,g1,g2,l0,_⟩:=hd.2 hb
 obtain ⟨h',l',rfl,g1',g2',l0',_⟩:=he.2 hb'
 walk_at "m"
 refine e_call ht.1 ?_
 walk_at "m"
 exact ht.2 h l h' l' 83 _ _ _ _ (by exact o570 hm) g1.2.2 g2.2.2 g1'.2.2 g2'.2.2 g2.1 g2'.1 l0 l0' (by exact lin [] [] [] [] (.nl (.a (.m 2 (.a (.m 2 (.k 83)) (.k 4))) (.k 1)) (.k 350)) (.l 1 []) rfl) (by have:=g1.2.1; exact o572 this) (by have:=g2.2.1; exact o572 this) (by have:=g1'.2.1; exact o572 this) (by have:=g2'.2.1; exact o572 this) fun u v=>ret_plain (h2 (by rw [hb,hb']; rfl) _)
theorem rtdR_ok (hn:NeedQ c) (hr:RateG c) (hmu:MultOK c) (hle:LessOK c) (hma:MadeOK c) {ps v:List Str} (hf:FnIs c (Str.ofString "rated") ps v s_rated) (hps:ps.length=1):RtdR c:=by
 refine ⟨hf.isFn,fun d b m sto Q X hm hd h1 h2=>?_⟩
 obtain ⟨n,rfl⟩:∃ n,m=n+1:=⟨m - 1,by exact o569 hm⟩
 refine fn_call CO EO RO hf hps.symm ?_
 unfold s_rated
 walk_at "m"
 refine e_call hn.1 ?_
 walk_at "m"
 refine hn.2 d b _ _ _ _ (by exact o570 hm) (hd.1.mono (lk_ro _)) (fun hb=>?_) h1
 obtain ⟨h,l,rfl,g1,g2,l0,_⟩:=hd.2 hb
 unfold qD
 have lh:=g1.2.1
 have ll:=g2.2.1
 walk_at "m"
 refine e_call hmu.1 ?_
 walk_at "m"
 refine e_call hr.1 ?_
 walk_at "m"
 refine i_tup (by exact Nat.le_of_ble_eq_true rfl) rfl ?_
 walk_at "m"
 refine hr.2 h 83 _ _ _ _ (by exact o573 hm) g1.2.2 (by exact o574) (by exact o575 lh) fun V wV lV kV=>?_
 walk_at "m"
 refine i_tup (by exact Nat.le_of_ble_eq_true rfl) rfl ?_
 walk_at "m"
 refine hmu.2 V l 87 83 _ _ _ _ (by exact o573 hm) kV g2.2.2 (by exact lin [] [] [] [] (.nl (.a (.k 87) (.k 83)) (.k 33000000)) (.l 1 []) rfl) (by exact o577 lh lV) (by exact o578 ll) fun r hr1=>?_
 have k1:=prod_rc hr1 kV g2.2.2 (by exact o577 lh lV)
 walk_at "m"
 refine e_call hmu.1 ?_
 walk_at "m"
 refine i_tup (by exact Nat.le_of_ble_eq_true rfl) rfl ?_
 walk_at "m"
 refine e_call hr.1 ?_
 walk_at "m"
 refine i_tup (by exact Nat.le_of_ble_eq_true rfl) rfl ?_
 walk_at "m"
 refine hr.2 l 83 _ _ _ _ (by exact o573 hm) g2.2.2 (by exact o574) (by exact o575 ll) fun U wU lU kU=>?_
 walk_at "m"
 refine hmu.2 h U 83 87 _ _ _ _ (by exact o573 hm) g1.2.2 kU (by exact lin [] [] [] [] (.nl (.a (.k 83) (.k 87)) (.k 33000000)) (.l 1 []) rfl) (by exact o575 lh) (by exact lin [_,_] [] [.nl (.x 0) (.k 5),.nl (.x 1) (.x 0)] [] (.nl (.x 1) (.k 100)) (.l 1 [1,1]) rfl ll lU) fun s hs1=>?_
 have k2:=prod_rc hs1 g1.2.2 kU (by exact o575 lh)
 have len:∀ {p q r:List Rat},IsProd p q r→p.length≤6→q.length≤6→(trimL r).length≤12:=fun {p q r} hr lp lq=>rw_len' (rw_trim r) fun j hj=>by
  rw [cf_trim,hr j,cv_cvn]
  exact cvn_ge (N:=p.length) (M:=q.length) (fun i hi=>cf_ge hi) (fun i hi=>cf_ge hi) (by exact o561 lp lq hj)
 have lr:=len hr1 (by exact o581 lh lV) (by exact o572 ll)
 have ls:=len hs1 (by exact o572 lh) (by exact o581 ll lU)
 walk_at "m"
 refine e_call hma.1 ?_
 walk_at "m"
 refine e_call hle.1 ?_
 walk_at "m"
 refine hle.2 (trimL r) (trimL s) 174 174 _ _ _ _ (by exact o582 hm) (fun i=>k1.rs i) (fun i=>k2.rs i) (by exact lin [] [] [] [] (.nl (.a (.a (.k 174) (.k 174)) (.k 1)) (.k 67108864)) (.l 1 []) rfl) (by exact o563 lr) (by exact o563 ls) fun t wt et=>?_
 have k3:=diff_rc et k1 k2
 have lt:t.length≤12:=rw_len' wt fun j hj=>by
  rw [et j,cf_ge (by exact o564 lr hj),cf_ge (by exact o564 ls hj)]; grind
 walk_at "m"
 refine e_call hmu.1 ?_
 walk_at "m"
 refine i_tup (by exact Nat.le_of_ble_eq_true rfl) rfl ?_
 walk_at "m"
 refine i_tup (by exact Nat.le_of_ble_eq_true rfl) rfl ?_
 walk_at "m"
 refine hmu.2 l l 83 83 _ _ _ _ (by exact o573 hm) g2.2.2 g2.2.2 (by exact lin [] [] [] [] (.nl (.a (.k 83) (.k 83)) (.k 33000000)) (.l 1 []) rfl) (by exact o575 ll) (by exact o578 ll) fun u hu=>?_
 have k4:=prod_rc hu g2.2.2 g2.2.2 (by exact o575 ll)
 have lu:=len hu (by exact o572 ll) (by exact o572 ll)
 have u0:trimL u≠[]:=fun z=>by
  have d:=(dg_cf g2.1 l0).mul (dg_cf g2.1 l0)
  have e:cf (trimL u)=cvn (cf l) (cf l):=funext fun j=>by rw [cf_trim,hu j,cv_cvn]
  rw [← e,z] at d
  exact d.1 rfl
 walk_at "m"
 exact hma.2 t (trimL u) 349 _ _ _ _ (by exact lin [_] [] [.nl (.k 10) (.a (.x 0) (.k 1))] [] (.nl (.k 7) (.x 0)) (.l 1 [1]) rfl hm) wt (rw_trim u) u0 (k3.mono (by exact lin [] [] [] [] (.nl (.a (.m 2 (.a (.a (.a (.k 83) (.k 4)) (.k 83)) (.k 4))) (.k 1)) (.k 349)) (.l 1 []) rfl)) (k4.mono (by exact lin [] [] [] [] (.nl (.a (.a (.k 83) (.k 83)) (.k 4)) (.k 349)) (.l 1 []) rfl)) (by exact lin [] [] [] [] (.nl (.k 349) (.k 350)) (.l 1 []) rfl) (by exact o567 lt) (by exact o567 lu) fun a b _=>ret_plain (h2 hb _)
theorem rai_ok (hu:c.cs (Str.ofString "UNIT")=some (rowD [1])) (hmu:MultOK c) {ps v:List Str} (hf:FnIs c (Str.ofString "raised") ps v s_raised) (hps:ps.length=2):RaiOK c:=by
 refine ⟨hf.isFn,fun l m sto Q X hm gl h=>?_⟩
 obtain ⟨n,rfl⟩:∃ n,m=n+1:=⟨m - 1,by exact o425 hm⟩
 refine fn_call CO EO RO hf hps.symm ?_
 unfold s_raised
 walk_at "m"
 refine e_glob hu ?_
 walk_at "m"
 refine g_for1 ?_
 refine ⟨_,rfl,rfl,_,rfl,?_⟩
 show forL _ _ [D.int 0] _ _
 refine ⟨trivial,?_⟩
 walk_at "m"
 refine e_call hmu.1 ?_
 walk_at "m"
 refine hmu.2 [1] l 1 83 _ _ _ _ (by exact o426 hm) rc_one gl.2.2 (by exact lin [] [] [] [] (.nl (.a (.k 1) (.k 83)) (.k 33000000)) (.l 1 []) rfl) (by simp) (by have:=gl.2.1; exact o578 this) fun r hr=>?_
 have e:trimL r=l:=cf_inj (rw_trim r) gl.1 (funext fun j=>by rw [cf_trim,hr j,cv_cvn,show cf [1]=one0 from funext cf_one,cvn_one])
 rw [e]
 walk_at "m"
 refine ⟨trivial,?_⟩
 walk_at "m"
 exact ret_plain h
theorem pie_ok (hpt:PartedOK c) {ps v:List Str} (hf:FnIs c (Str.ofString "pieces_of") ps v s_pieces_of) (hps:ps.length=3):PieOK c:=by
 refine ⟨hf.isFn,fun t l a b m sto Q X hm kt kl hab l0 wl lt ll hne h=>?_⟩
 obtain ⟨n,rfl⟩:∃ n,m=n+1:=⟨m - 1,by exact o425 hm⟩
 refine fn_call CO EO RO hf hps.symm ?_
 unfold s_pieces_of
 walk_at "m"
 refine ⟨by exact Nat.le_of_ble_eq_true rfl,fun l3 hl3=>?_⟩
 walk_at "m"
 refine g_for1 ?_
 refine ⟨_,rfl,rfl,_,rfl,?_⟩
 show forL _ _ [D.int 1] _ _
 refine ⟨trivial,?_⟩
 walk_at "m"
 refine e_call hpt.1 ?_
 walk_at "m"
 refine hpt.2 t l a b _ _ _ _ (by exact o426 hm) kt kl hab l0 wl lt ll fun W R hD=>?_
 refine ⟨_,rfl,rfl,?_⟩
 walk_at "m"
 refine ⟨by exact Nat.le_of_ble_eq_true rfl,?_⟩
 refine c_neD (eq_rows (trimL R) []) ?_
 walk_at "m"
 refine if_b (fun hb=>?_) fun hb=>?_
 ·walk_at "m"
  refine ⟨by exact Nat.le_of_ble_eq_true rfl,?_⟩
  walk_at "m"
  refine ⟨by exact Nat.le_of_ble_eq_true rfl,fun l4 hl4=>?_⟩
  walk_at "m"
  refine o_addL (put_same) (put_old hl4 put_same) (by exact Nat.le_of_ble_eq_true rfl) (by exact Nat.le_of_ble_eq_true rfl) fun l5 hl5=>?_
  walk_at "m"
  refine ⟨trivial,?_⟩
  walk_at "m"
  exact ret_new put_same fun hb=>h W R l5 hD hb
 ·exact absurd (beq_iff_eq.mp ((Bool.not_eq_false' _).mp hb)) (hne W R hD)
end
end Mine
namespace Mine
open PySem
noncomputable def s_taken:List S:=[
  .unpack [2,3] (.call (Str.ofString "parted") [.idx (.var 0) (.cint 0),.idx (.var 0) (.cint 1)]),
  .assign 4 (.lst []),
  .fors [5,6] false .plain [.call (Str.ofString "cut") [.idx (.var 0) (.cint 1),.var 1]] [.assign 7 (.call (Str.ofString "raised") [.var 5,.var 6]),.assign 8 (.idx (.call (Str.ofString "parted") [.idx (.var 0) (.cint 1),.var 7]) (.cint 0)),.assign 9 (.idx (.call (Str.ofString "shared") [.var 8,.var 7]) (.cint 1)),.assign 10 (.idx (.call (Str.ofString "parted") [.call (Str.ofString "multiplied") [.var 3,.var 9],.var 7]) (.cint 1)),.assign 4 (.bin .Add (.var 4) (.call (Str.ofString "pieces_of") [.var 10,.var 5,.var 6]))],
  .ret (.tup [.var 2,.var 4])]
noncomputable def s_apart:List S:=[
  .expr (.call (Str.ofString "need_quotient") [.var 0]),
  .fors [2] true .plain [.var 1] [.expr (.call (Str.ofString "need_row") [.var 2])],
  .ret (.call (Str.ofString "taken") [.var 0,.var 1])]
noncomputable def s_grown_row:List S:=[
  .ifs (.cmp .Eq (.var 0) (.tup [])) [.ret (.tup [])] [],
  .ret (.bin .Add (.tup [.glob (Str.ofString "ZERO")]) (.blt .tuple [.comp (.call (Str.ofString "part_of") [.idx (.var 0) (.var 100),.tup [.bin .Add (.var 100) (.cint 1),.cint 1]]) [(100,(Str.ofString "place"))] .range [.blt .len [.var 0]]]))]
noncomputable def PcD (l:List Rat) (ys:List D):Prop:=ys=[]∨(ys=[.tup [rowD [1],rowD l,.int 1]]∧(∃ x,l=[x,1])∧RC 8 (cf l))
noncomputable def TakR (c:Cx):Prop:=IsFn c (Str.ofString "taken")∧∀ (h l:List Rat) (ts:List (List Rat)) (a:Addr) (o:Bool) (m:Nat) (sto:Sto) (Q:D→Sto→Prop) (X:Str→Prop),10≤m→GQ h l→(∀ t∈ts,Gd t)→ts.length≤10→sto a=some (.list o (ts.map rowD))→(∀ W f ys,W.length≤6→RC 600 (cf W)→PcD l ys→sto f=none→Q (.tup [rowD W,.lst f]) (Sto.put sto f (.list true ys)))→CallOK c m (Str.ofString "taken") [qD h l,.lst a] sto Q X
noncomputable def GroR (c:Cx):Prop:=IsFn c (Str.ofString "grown_row")∧∀ (p:List Rat) (m:Nat) (sto:Sto) (Q:D→Sto→Prop) (X:Str→Prop),5≤m→p.length≤6→RC 600 (cf p)→(∀ r,Q r sto)→CallOK c m (Str.ofString "grown_row") [rowD p] sto Q X
noncomputable def ApaR (c:Cx):Prop:=IsFn c (Str.ofString "apart")∧∀ (d:D) (b:Bool) (xs:List (D×Bool)) (a:Addr) (o:Bool) (m:Nat) (sto:Sto) (Q:D→Sto→Prop) (X:Str→Prop),12≤m→QSt sto d b→Tld sto xs→xs.length≤10→sto a=some (.list o (xs.map (·.1)))→(b=false→X nmQuo)→(b=true→allB xs=false→X nmRow)→(b=true→allB xs=true→∀ r l k,sto l=none→Q r (Sto.put sto l (.list true k)))→CallOK c m (Str.ofString "apart") [d,.lst a] sto Q X
theorem one_fin:Fin0 one0:=fin_one
theorem bd_one:Bd 1 one0:=fun i hi=>if_neg (by exact o261 hi)
theorem rem_one {p l W R:List Rat} {a b:Nat} (hD:IsDivC a b p l W R) (ml:Mon l) (l2:l.length=2) {Z:Nat→Rat} (fZ:Fin0 Z) (e:∀ j,cf p j=cvn Z (cf l) j+one0 j):trimL R=[1]:=by
 have d:=ml.dg
 rw [l2] at d
 have e1:=(div_one d.1 d.2 (fin_cf W) fZ (R:=cf R) (R':=one0) (fun i hi=>hD.2.1 i (by exact o590 l2 hi)) bd_one fun j=>by rw [← cv_cvn,← hD.1 j,e j]).2
 exact cf_inj (rw_trim R) (.inr (by decide)) (funext fun i=>by rw [cf_trim,e1 i,cf_one])
theorem quo_self {l W R:List Rat} {a b:Nat} (hD:IsDivC a b l l W R) (ml:Mon l) (l2:l.length=2):trimL W=[1]:=by
 have d:=ml.dg
 rw [l2] at d
 have e1:=(div_one d.1 d.2 (fin_cf W) one_fin (R:=cf R) (R':=fun _=>0) (fun i hi=>hD.2.1 i (by exact o590 l2 hi)) (fun _ _=>rfl) fun j=>by rw [← cv_cvn,← hD.1 j,cvn_one,Rat.add_zero]).1
 exact cf_inj (rw_trim W) (.inr (by decide)) (funext fun i=>by rw [cf_trim,e1 i,cf_one])
theorem mon_two (x:Rat):Mon [x,1]:=⟨.inr (by show (1:Rat)≠0; decide),List.cons_ne_nil _ _,rfl⟩
theorem mon_1:Mon [1]:=⟨.inr (by show (1:Rat)≠0; decide),List.cons_ne_nil _ _,rfl⟩
theorem led_self {l:List Rat} (ml:Mon l) {b:Nat} (k:RC b (cf l)):cf (ledL l)=cf l:=funext fun i=>by
 have:=(ledL_mon ml.w ml.n k).2.2.2 i
 rw [ml.m,Rat.mul_one] at this
 exact this
section
variable {c:Cx} (CO:CxOK c) (EO:ExcOK c) (RO:RzOK c)
include CO EO RO
theorem takR_ok (hpt:PartedOK c) (hcu:CutsOK c 9 (Str.ofString "cut")) (hra:RaiOK c) (hsh:ShOK c) (hmu:MultOK c) (hpi:PieOK c) {ps v:List Str} (hf:FnIs c (Str.ofString "taken") ps v s_taken) (hps:ps.length=2):TakR c:=by
 refine ⟨hf.isFn,fun h l ts a o m sto Q X hm hq hts lts ha hQ=>?_⟩
 obtain ⟨n,rfl⟩:∃ n,m=n+1:=⟨m - 1,by exact o569 hm⟩
 refine fn_call CO EO RO hf hps.symm ?_
 unfold s_taken qD
 have ha':=ro_at ha
 obtain ⟨g1,g2,l0,kind⟩:=hq
 have lh:=g1.2.1
 have ll:=g2.2.1
 have l1:1≤l.length:=List.length_pos_iff.mpr l0
 have big:83+(h.length+2 - l.length)*(83+1)≤600:=by
  have:(h.length+2 - l.length)*(83+1)≤6*84:=Nat.mul_le_mul (by exact o591 lh l1) (Nat.le_refl _)
  exact lin [_] [] [.nl (.x 0) (.m 6 (.k 84))] [] (.nl (.a (.k 83) (.x 0)) (.k 600)) (.l 1 [1]) rfl this
 have big':83+(h.length+1 - l.length)*(83+1)≤600:=by
  have:(h.length+1 - l.length)*(83+1)≤5*84:=Nat.mul_le_mul (by exact o593 lh l1) (Nat.le_refl _)
  exact lin [_] [] [.nl (.x 0) (.m 5 (.k 84))] [] (.nl (.a (.k 83) (.x 0)) (.k 600)) (.l 1 [1]) rfl this
 walk_at "m"
 refine e_call hpt.1 ?_
 walk_at "m"
 refine i_tup (by exact Nat.le_of_ble_eq_true rfl) rfl ?_
 walk_at "m"
 refine i_tup (by exact Nat.le_of_ble_eq_true rfl) rfl ?_
 walk_at "m"
 refine hpt.2 h l 83 83 _ _ _ _ (by exact o573 hm) g1.2.2 g2.2.2 (by exact lin [_] [] [.nl (.a (.k 83) (.x 0)) (.k 600)] [] (.nl (.a (.k 83) (.x 0)) (.k 20000000)) (.l 1 [1]) rfl big) l0 g2.1 (by exact o575 lh) (by exact o575 ll) fun W R hD=>?_
 have lW:(trimL W).length≤6:=by have:=trim_len W; have:=hD.2.2.2.2; omega
 have kW:RC 600 (cf (trimL W)):=hD.2.2.1.trim.mono big'
 refine ⟨_,rfl,rfl,?_⟩
 walk_at "m"
 refine ⟨by exact Nat.le_of_ble_eq_true rfl,fun l4 hl4=>?_⟩
 have hne:a≠l4:=fun z=>by
  subst z
  have h4:Sto.ro sto a=none:=hl4
  rw [ha'] at h4; cases h4
 walk_at "m"
 refine ⟨rfl,i_tup1 ?_⟩
 refine e_call hcu.1 ?_
 walk_at "m"
 refine i_tup (by exact Nat.le_of_ble_eq_true rfl) rfl ?_
 walk_at "m"
 refine hcu.2 l ts a false _ _ _ _ (by exact lin [_] [] [.nl (.k 10) (.a (.x 0) (.k 1))] [] (.nl (.k 9) (.x 0)) (.l 1 [1]) rfl hm) g2.1 l0 (g2.2.2.mono (by exact lin [] [] [] [] (.nl (.k 83) (.k 200)) (.l 1 []) rfl)) (by exact o575 ll) lts (fun t ht=>(hts t ht).td) ((put_ne hne).trans ha') fun xs lx I hlx=>?_
 have nx:l4≠lx:=fun z=>by
  rw [← z] at hlx
  have hlx:Sto.put (Sto.ro sto) l4 (.list true []) l4=none:=hlx
  rw [put_same] at hlx; cases hlx
 rcases kind with rfl | ⟨rfl,⟨x,rfl⟩,k8⟩
 ·rw [led_self mon_1 g2.2.2,show cf [1]=one0 from funext cf_one] at I
  rw [ptL_one I]
  refine ⟨true,[],put_same,by exact Nat.le_of_ble_eq_true rfl,⟨true,put_same⟩,?_⟩
  walk_at "m"
  refine ⟨by exact Nat.le_of_ble_eq_true rfl,?_⟩
  exact ret_new ((put_ne nx).trans put_same) fun hb=>hQ _ _ _ lW kW (.inl rfl) hb
 ·have ml:=mon_two x
  rw [led_self ml g2.2.2] at I
  rw [ptL_two ml rfl I]
  have eR:trimL R=[1]:=rem_one hD ml rfl (Z:=fun _=>0) fin_none fun j=>by rw [cvn_none,Rat.zero_add]; exact cf_one j
  refine ⟨true,[PtD ([x,1],1)],put_same,by exact Nat.le_of_ble_eq_true rfl,⟨true,put_same⟩,?_⟩
  refine ⟨[rowD [x,1],.int 1],rfl,rfl,?_⟩
  walk_at "m"
  refine e_call hra.1 ?_
  walk_at "m"
  refine hra.2 [x,1] _ _ _ _ (by exact o582 hm) g2 ?_
  walk_at "m"
  refine e_call hpt.1 ?_
  walk_at "m"
  refine i_tup (by exact Nat.le_of_ble_eq_true rfl) rfl ?_
  walk_at "m"
  refine hpt.2 [x,1] [x,1] 83 83 _ _ _ _ (by exact o573 hm) g2.2.2 g2.2.2 (by simp) l0 g2.1 (by exact o575 ll) (by exact o575 ll) fun W2 R2 hD2=>?_
  rw [quo_self hD2 ml rfl]
  walk_at "m"
  refine i_tup (by exact Nat.le_of_ble_eq_true rfl) rfl ?_
  walk_at "m"
  refine e_call hsh.1 ?_
  walk_at "m"
  refine hsh.2 [1] [x,1] 83 _ _ _ _ (by exact lin [_] [] [.nl (.k 10) (.a (.x 0) (.k 1))] [] (.nl (.k 6) (.x 0)) (.l 1 [1]) rfl hm) mon_1.w g2.1 (rc_one.mono (by exact o599)) g2.2.2 (by exact o600) (by simp) (by exact o575 ll) fun G S T O=>?_
  have mG:Mon G:=by
   have g:=O.led.resolve_left fun z=>l0 z.2.2
   exact ⟨O.wG,g.1,g.2⟩
  have eG1:G=[1]:=by
   obtain ⟨r,fr,er⟩:=O.dp
   exact mon_one_eq mG (mon_of_one mG ⟨r,fr,by rw [← show cf [1]=one0 from funext cf_one]; exact funext er⟩)
  have lS:=O.lS
  have kS:=O.kS
  have eS:=O.eG
  have wS:=O.wS
  rw [eG1] at lS eS
  have lS:S.length≤15:=by have:S.length+1≤16:=lS; exact lin [_] [] [.nl (.a (.x 0) (.k 1)) (.k 16)] [] (.nl (.x 0) (.k 15)) (.l 1 [1]) rfl this
  have kS:RC 2970 (cf S):=kS
  walk_at "m"
  refine i_tup (by exact Nat.le_of_ble_eq_true rfl) rfl ?_
  walk_at "m"
  refine e_call hpt.1 ?_
  walk_at "m"
  refine e_call hmu.1 ?_
  rw [eR]
  walk_at "m"
  refine hmu.2 [1] S 1 2970 _ _ _ _ (by exact o573 hm) rc_one kS (by exact lin [] [] [] [] (.nl (.a (.k 1) (.k 2970)) (.k 33000000)) (.l 1 []) rfl) (by simp) (by exact lin [_] [] [.nl (.x 0) (.k 15)] [] (.nl (.x 0) (.k 100)) (.l 1 [1]) rfl lS) fun r hr=>?_
  have er:trimL r=S:=cf_inj (rw_trim r) wS (funext fun j=>by rw [cf_trim,hr j,cv_cvn,show cf [1]=one0 from funext cf_one,cvn_one])
  rw [er]
  walk_at "m"
  have b3:(S.length+2 - 2)*(83+1)≤15*84:=Nat.mul_le_mul (by exact o604 lS) (Nat.le_refl _)
  refine hpt.2 S [x,1] 2970 83 _ _ _ _ (by exact o573 hm) kS g2.2.2 (by show 2970+(S.length+2 - 2)*(83+1)≤_; exact lin [_] [] [.nl (.x 0) (.m 15 (.k 84))] [] (.nl (.a (.k 2970) (.x 0)) (.k 20000000)) (.l 1 [1]) rfl b3) l0 g2.1 lS (by exact o575 ll) fun W3 R3 hD3=>?_
  have e3:trimL R3=[1]:=rem_one hD3 ml rfl (Z:=fun i=>(-1)*cf T i) ⟨T.length,fun i hi=>by show _*cf T i=0; rw [cf_ge hi,Rat.mul_zero]⟩ fun j=>by
   have h1:=eS j
   rw [cf_one,cvn_comm (cf S),show cf [1]=one0 from funext cf_one,cvn_one] at h1
   rw [cvn_mul_left,h1]
   grind
  rw [e3]
  walk_at "m"
  refine i_tup (by exact Nat.le_of_ble_eq_true rfl) rfl ?_
  walk_at "m"
  refine e_call hpi.1 ?_
  walk_at "m"
  have pc:∀ W4 R4,IsDivC 1 83 [1] [x,1] W4 R4→trimL R4=[1]:=fun W4 R4 hD4=>rem_one hD4 ml rfl (Z:=fun _=>0) fin_none fun j=>by rw [cvn_none,Rat.zero_add]; exact cf_one j
  refine hpi.2 [1] [x,1] 1 83 _ _ _ _ (by exact o582 hm) rc_one g2.2.2 (by simp) l0 g2.1 (by simp) (by exact o575 ll) (fun W4 R4 hD4=>by rw [pc W4 R4 hD4]; exact List.cons_ne_nil _ _) fun W4 R4 f hD4 hf4=>?_
  rw [pc W4 R4 hD4]
  refine o_addL (xs:=[]) ((put_old hf4 ((put_ne nx).trans put_same))) put_same (by exact Nat.le_of_ble_eq_true rfl) (by exact Nat.le_of_ble_eq_true rfl) fun l9 hl9=>?_
  walk_at "m"
  refine ⟨⟨true,put_old hl9 (put_old hf4 put_same)⟩,?_⟩
  walk_at "m"
  refine ⟨by exact Nat.le_of_ble_eq_true rfl,?_⟩
  exact ret_new put_same fun hb=>hQ _ _ _ lW kW (.inr ⟨rfl,⟨x,rfl⟩,k8⟩) hb
end
end Mine
namespace Mine
open PySem
noncomputable def s_tops_by_parts:List S:=[
  .assign 1 (.lst []),
  .fors [2,3,4] false .plain [.var 0] [.ifs (.bool .Or [.cmp .Eq (.var 1) (.lst []),.cmp .NotEq (.idx (.idx (.var 1) (.neg (.cint 1))) (.cint 0)) (.var 3)]) [.expr (.append (.var 1) (.tup [.var 3,.dict0]))] [],.setitem (.idx (.idx (.var 1) (.neg (.cint 1))) (.cint 1)) (.var 4) (.var 2)],
  .ret (.var 1)]
noncomputable def topsC (sto:Sto) (g e:Addr) (l:List Rat):Sto:=Sto.put (Sto.put sto g (.list true [.tup [rowD l,.lst e]])) e (.dict [(1,rowD [1])])
noncomputable def TopR (c:Cx):Prop:=IsFn c (Str.ofString "tops_by_parts")∧∀ (l:List Rat) (ys:List D) (f:Addr) (o:Bool) (m:Nat) (sto:Sto) (Q:D→Sto→Prop) (X:Str→Prop),1≤m→PcD l ys→sto f=some (.list o ys)→(∀ g,sto g=none→Q (.lst g) (Sto.put sto g (.list true [])))→((∃ x,l=[x,1])→RC 8 (cf l)→∀ g e,sto g=none→sto e=none→g≠e→Q (.lst g) (topsC sto g e l))→CallOK c m (Str.ofString "tops_by_parts") [.lst f] sto Q X
theorem ret_two {sto τ:Sto} {Q:D→Sto→Prop} {d:D} {g e:Addr} {l:List Rat} (hg:τ g=some (.list true [.tup [rowD l,.lst e]])) (he:τ e=some (.dict [(1,rowD [1])])) (h:sto g=none→sto e=none→Q d (topsC sto g e l)):Ret sto τ Q d:=by
 refine ⟨topsC sto g e l,fun b k e'=>?_,fun f=>h (f g _ hg rfl) (f e _ he trivial)⟩
 unfold topsC Sto.put at e'
 split at e'
 ·rename_i hb
  subst hb
  cases e'
  exact .inr ⟨he,trivial⟩
 ·split at e'
  ·rename_i hb
   subst hb
   cases e'
   exact .inr ⟨hg,rfl⟩
  ·exact .inl e'
theorem st_dict {σ:St} {a:Addr} {k:Int} {d:D} {Q:St→Prop} (e:σ.sto a=some (.dict [])) (h:Q (σ.put a (.dict [(k,d)]))):opSet (.lst a) (.int k) d Q σ:=.inr ⟨e,h⟩
section
variable {c:Cx} (CO:CxOK c) (EO:ExcOK c) (RO:RzOK c)
include CO EO RO
theorem apaR_ok (hn:NeedR c) (hq:NeedQ c) (ht:TakR c) {ps v:List Str} (hf:FnIs c (Str.ofString "apart") ps v s_apart) (hps:ps.length=2):ApaR c:=by
 refine ⟨hf.isFn,fun d b xs a o m sto Q X hm hd hx lx ha h1 h2 h3=>?_⟩
 obtain ⟨n,rfl⟩:∃ n,m=n+1:=⟨m - 1,by exact o606 hm⟩
 refine fn_call CO EO RO hf hps.symm ?_
 unfold s_apart
 have ha':=ro_at ha
 walk_at "m"
 refine e_call hq.1 ?_
 walk_at "m"
 refine hq.2 d b _ _ _ _ (by exact o607 hm) (hd.1.mono (lk_ro _)) (fun hb=>?_) h1
 obtain ⟨h,l,rfl,gq⟩:=hd.2 hb
 walk_at "m"
 refine need_loop CO EO RO hn (by exact o608 hm) (by decide) rfl ha' (fun x hx'=>(hx x hx').ro) lx (fun hb' _=>h2 hb hb') fun hb' τ t1 t2=>?_
 have g0:τ.loc 0=some (qD h l):=t1 0 (by decide)
 have g1:τ.loc 1=some (.lst a):=t1 1 (by decide)
 have sa:τ.sto a=some (.list false (xs.map (·.1))):=by rw [t2]; exact ha'
 obtain ⟨ts,et,gt⟩:=tldGd hx hb'
 have lt:ts.length≤10:=by
  have:=congrArg List.length et
  rw [List.length_map,List.length_map] at this
  exact o557 lx this
 walk_at "m"
 refine e_call ht.1 ?_
 walk_at "m"
 refine ht.2 h l ts a false _ _ _ _ (by exact o609 hm) gq gt lt (by rw [← et]; exact sa) fun W f ys _ _ _ hf'=>?_
 exact ret_new put_same fun hb'=>h3 hb (by assumption) _ _ _ hb'
theorem groR_ok (hz:c.cs (Str.ofString "ZERO")=some (frD 0)) (hpa:PartOK c 3 (Str.ofString "part_of")) {ps v:List Str} (hf:FnIs c (Str.ofString "grown_row") ps v s_grown_row) (hps:ps.length=1):GroR c:=by
 refine ⟨hf.isFn,fun p m sto Q X hm lp kp h=>?_⟩
 obtain ⟨n,rfl⟩:∃ n,m=n+1:=⟨m - 1,by exact o425 hm⟩
 refine fn_call CO EO RO hf hps.symm ?_
 unfold s_grown_row
 walk_at "m"
 refine ⟨by exact Nat.le_of_ble_eq_true rfl,?_⟩
 refine c_eqD (eq_rows p []) ?_
 walk_at "m"
 refine if_b (fun hb=>?_) fun hb=>?_
 ·walk_at "m"
  refine ⟨by exact Nat.le_of_ble_eq_true rfl,?_⟩
  exact ret_plain (h _)
 walk_at "m"
 refine e_glob hz ?_
 walk_at "m"
 refine ⟨by exact Nat.le_of_ble_eq_true rfl,?_⟩
 refine e_blt ?_
 refine es_cons (e_comp ?_)
 walk_at "m"
 refine f_lenR (by exact o534 lp) ?_
 walk_at "m"
 refine ⟨by simp [smallI]; exact lin [_] [] [.nl (.x 0) (.k 6)] [] (.il (.c (.x 0)) (.k 1000000)) (.l 1 [1]) rfl lp,_,rfl,?_⟩
 rw [rangeUp_map]
 refine ⟨by rw [List.length_map,List.length_range]; unfold lim; exact o611 lp,?_⟩
 refine compL_map (fun (j:Nat)=>D.int (0+j)) (fun j=>frD (cf p j / ((j+1:Nat):Rat))) _ _ (fun j hj K hK=>?_) fun l hl=>?_
 ·have hj:=List.mem_range.mp hj
  refine turn1 ?_
  refine e_call hpa.1 ?_
  walk_at "m"
  rw [Int.zero_add]
  refine i_row (p:=p) (by exact o534 lp) (by exact o155 hj) ?_
  walk_at "m"
  refine ⟨by exact Nat.le_of_ble_eq_true rfl,?_⟩
  walk_at "m"
  rw [show (j:Int)+1=((j+1:Nat):Int) by exact o173,fr_int]
  refine hpa.2 _ _ 600 11 _ _ _ _ (by exact o476 hm) (kp.rs _) (rs_int (by exact o612 lp hj) (by exact o167)) (by exact lin [] [] [] [] (.nl (.a (.k 600) (.k 11)) (.k 67108864)) (.l 1 []) rfl) (fun z=>?_) ?_
  ·have:((j+1:Nat):Int)=0:=Rat.intCast_eq_zero_iff.mp z
   exact lin [_] [] [.ie (.c (.a (.x 0) (.k 1))) (.k 0)] [] .f (.l 0 [1]) rfl this
  ·exact ⟨trivial,hK⟩
 ·rw [List.nil_append]
  walk_at "m"
  refine ⟨true,_,put_same,by rw [List.length_map,List.length_range]; unfold lim; exact o611 lp,?_⟩
  refine o_addT (by exact Nat.le_of_ble_eq_true rfl) (by rw [List.length_map,List.length_range]; unfold lim; exact o611 lp) ?_
  exact ret_plain (h _)
theorem topR_ok {ps v:List Str} (hf:FnIs c (Str.ofString "tops_by_parts") ps v s_tops_by_parts) (hps:ps.length=1):TopR c:=by
 refine ⟨hf.isFn,fun l ys f o m sto Q X hm hp hs h1 h2=>?_⟩
 obtain ⟨n,rfl⟩:∃ n,m=n+1:=⟨m - 1,by exact o127 hm⟩
 refine fn_call CO EO RO hf hps.symm ?_
 unfold s_tops_by_parts
 have hs':=ro_at hs
 walk_at "m"
 refine ⟨by exact Nat.le_of_ble_eq_true rfl,fun l1 hl1=>?_⟩
 walk_at "m"
 refine ⟨rfl,i_tup1 (e_var rfl ?_)⟩
 rcases hp with rfl | ⟨rfl,hx,k8⟩
 ·refine ⟨false,[],put_old hl1 hs',by exact Nat.le_of_ble_eq_true rfl,⟨false,put_old hl1 hs'⟩,?_⟩
  walk_at "m"
  exact ret_list put_same fun hb=>h1 _ hb
 ·refine ⟨false,_,put_old hl1 hs',by exact Nat.le_of_ble_eq_true rfl,⟨false,put_old hl1 hs'⟩,?_⟩
  refine ⟨[rowD [1],rowD l,.int 1],rfl,rfl,?_⟩
  walk_at "m"
  refine ⟨by exact Nat.le_of_ble_eq_true rfl,fun l5 hl5=>?_⟩
  refine c_eqD (eqTop_lst (put_old hl5 put_same) put_same) ?_
  walk_at "m"
  refine if_or (fun _=>?_) fun z=>by cases z
  refine if_b (fun _=>?_) fun z=>by cases z
  walk_at "m"
  refine e_append ?_
  walk_at "m"
  refine ⟨⟨l1,_,rfl,put_old hl5 put_same⟩,?_⟩
  walk_at "m"
  intro l6 hl6
  walk_at "m"
  refine ⟨by exact Nat.le_of_ble_eq_true rfl,?_⟩
  refine ap_lst (put_old hl6 (put_old hl5 put_same)) (by exact Nat.le_of_ble_eq_true rfl) ?_
  have n16:l1≠l6:=fun z=>by
   rw [← z] at hl6
   have hl6:Sto.put (Sto.put (Sto.ro sto) l1 (.list true [])) l5 (.list true []) l1=none:=hl6
   have h7:Sto.put (Sto.put (Sto.ro sto) l1 (.list true [])) l5 (.list true []) l1=some (.list true []):=put_old hl5 put_same
   rw [h7] at hl6; cases hl6
  walk_at "m"
  refine i_lst put_same (by exact Nat.le_of_ble_eq_true rfl) rfl ?_
  walk_at "m"
  refine i_tup (by exact Nat.le_of_ble_eq_true rfl) rfl ?_
  walk_at "m"
  refine st_dict ((put_ne (Ne.symm n16)).trans put_same) ?_
  walk_at "m"
  have f1:Sto.put (Sto.put (Sto.put (Sto.ro sto) l1 (.list true [])) l5 (.list true [])) l6 (.dict []) f=some (.list false _):=put_old hl6 (put_old hl5 (put_old hl1 hs'))
  have nf1:f≠l1:=fun z=>by
   subst z
   have hl1:Sto.ro sto f=none:=hl1
   rw [hs'] at hl1; cases hl1
  have nf6:f≠l6:=fun z=>by
   subst z
   rw [put_same] at f1; cases f1
  refine ⟨⟨false,(put_ne nf6).trans ((put_ne nf1).trans f1)⟩,?_⟩
  walk_at "m"
  exact ret_two ((put_ne n16).trans put_same) put_same fun hb hb'=>h2 hx k8 l1 l6 hb hb' n16
end
end Mine
namespace Mine
open PySem
noncomputable def s_growT:List S:=[
  .ifs (.cmp .Eq (.var 4) (.glob (Str.ofString "EMPTY"))) [.ret (.tup [.cstr (Str.ofString "growth"),.var 3])] [],
  .ret (.tup [.cstr (Str.ofString "barred"),.var 3,.var 4])]
noncomputable def s_growth:List S :=
  .expr (.call (Str.ofString "need_quotient") [.var 0]) ::
  .unpack [1,2] (.call (Str.ofString "taken") [.var 0,.lst []]) ::
  .assign 3 (.tup [.call (Str.ofString "grown_row") [.var 1],.glob (Str.ofString "UNIT")]) ::
  .assign 4 (.glob (Str.ofString "EMPTY")) ::
  .fors [5,6] false .plain [.call (Str.ofString "tops_by_parts") [.var 2]] [.assign 7 (.tup []),.fors [8] true .range [.maxd (.var 6),.cint 1,.neg (.cint 1)] [.unpack [9,7] (.call (Str.ofString "lowered") [.call (Str.ofString "added") [.var 7,.getd (.var 6) (.var 8) (.tup [])],.var 5,.var 8]),.assign 3 (.call (Str.ofString "together") [.var 3,.var 9])],.assign 4 (.call (Str.ofString "together") [.var 4,.call (Str.ofString "made") [.call (Str.ofString "added") [.var 7,.getd (.var 6) (.cint 1) (.tup [])],.var 5]])] ::
  s_growT
noncomputable def GrwR (c:Cx):Prop:=IsFn c (Str.ofString "growth")∧∀ (d:D) (b:Bool) (m:Nat) (sto:Sto) (Q:D→Sto→Prop) (X:Str→Prop),12≤m→QSt sto d b→(b=false→X nmQuo)→(b=true→∀ r,Q r sto)→CallOK c m (Str.ofString "growth") [d] sto Q X
theorem eqL_some:∀ (p q:List Rat),∃ b,eqL (eqD 48) (p.map frD) (q.map frD)=some b
 | [],[]=>⟨_,rfl⟩
 | [],_ :: _=>⟨_,rfl⟩
 | _ :: _,[]=>⟨_,rfl⟩
 | x :: p,y :: q=>by
  obtain ⟨b,e⟩:=eqL_some p q
  have e1:eqD 48 (frD x) (frD y)=some ((x.num==y.num)&&((x.den:Int)==(y.den:Int)&&true)):=rfl
  refine ⟨((x.num==y.num)&&((x.den:Int)==(y.den:Int)&&true))&&b,?_⟩
  show (match eqD 48 (frD x) (frD y) with | some x=>(match eqL (eqD 48) (p.map frD) (q.map frD) with | some y=>some (x&&y) | none=>none) | none=>none)=_
  rw [e1,e]
theorem eq_q {τ:Sto} (u v h l:List Rat):∃ b,eqTop τ (qD u v) (qD h l)=some b:=by
 obtain ⟨b1,e1⟩:=eqL_some u h
 obtain ⟨b2,e2⟩:=eqL_some v l
 refine ⟨b1&&(b2&&true),?_⟩
 show (match eqL (eqD 48) (u.map frD) (h.map frD) with | some x=>(match (match eqL (eqD 48) (v.map frD) (l.map frD) with | some x=>(match (some true:Option Bool) with | some y=>some (x&&y) | none=>none) | none=>none) with | some y=>some (x&&y) | none=>none) | none=>none)=_
 rw [e1,e2]
section
variable {c:Cx} (CO:CxOK c) (EO:ExcOK c) (RO:RzOK c)
include CO EO RO
theorem grow_tail (hE:c.cs (Str.ofString "EMPTY")=some (qD [] [1])) {n:Nat} {sto:Sto} {Q:D→Sto→Prop} {X:Str→St→Prop} {σ:St} {u v:List Rat} {d:D} (g4:σ.loc 4=some (qD u v)) (g3:σ.loc 3=some d) (h:∀ r,Q r sto):wSs c n true s_growT (EndQ sto Q) X σ:=by
 unfold s_growT
 obtain ⟨b,e⟩:=eq_q (τ:=σ.sto) u v [] [1]
 walk_at "m"
 refine e_glob hE ?_
 refine c_eqD e ?_
 walk_at "m"
 refine if_b (fun hb=>?_) fun hb=>?_
 ·walk_at "m"
  refine ⟨by exact Nat.le_of_ble_eq_true rfl,?_⟩
  exact ret_plain (h _)
 ·walk_at "m"
  refine ⟨by exact Nat.le_of_ble_eq_true rfl,?_⟩
  exact ret_plain (h _)
theorem grwR_ok (hE:c.cs (Str.ofString "EMPTY")=some (qD [] [1])) (hu:c.cs (Str.ofString "UNIT")=some (rowD [1])) (hq:NeedQ c) (ht:TakR c) (hg:GroR c) (hto:TopR c) (had:AddedOK c) (hma:MadeOK c) (htg:TogOK c) {ps v:List Str} (hf:FnIs c (Str.ofString "growth") ps v s_growth) (hps:ps.length=1):GrwR c:=by
 refine ⟨hf.isFn,fun d b m sto Q X hm hd h1 h2=>?_⟩
 obtain ⟨n,rfl⟩:∃ n,m=n+1:=⟨m - 1,by exact o606 hm⟩
 refine fn_call CO EO RO hf hps.symm ?_
 unfold s_growth
 walk_at "m"
 refine e_call hq.1 ?_
 walk_at "m"
 refine hq.2 d b _ _ _ _ (by exact o607 hm) (hd.1.mono (lk_ro _)) (fun hb=>?_) h1
 have h2:=h2 hb
 obtain ⟨h,l,rfl,gq⟩:=hd.2 hb
 walk_at "m"
 refine e_call ht.1 ?_
 walk_at "m"
 refine ⟨by exact Nat.le_of_ble_eq_true rfl,fun la hla=>?_⟩
 walk_at "m"
 refine ht.2 h l [] la true _ _ _ _ (by exact o609 hm) gq (fun t ht=>by cases ht) (by simp) put_same fun W f ys lW kW hP hf'=>?_
 refine ⟨_,rfl,rfl,?_⟩
 walk_at "m"
 refine e_call hg.1 ?_
 walk_at "m"
 refine hg.2 W _ _ _ _ (by exact lin [_] [] [.nl (.k 12) (.a (.x 0) (.k 1))] [] (.nl (.k 5) (.x 0)) (.l 1 [1]) rfl hm) lW kW fun r=>?_
 walk_at "m"
 refine e_glob hu ?_
 walk_at "m"
 refine ⟨by exact Nat.le_of_ble_eq_true rfl,?_⟩
 walk_at "m"
 refine e_glob hE ?_
 walk_at "m"
 refine ⟨rfl,i_tup1 ?_⟩
 refine e_call hto.1 ?_
 walk_at "m"
 refine hto.2 l ys f true _ _ _ _ (by exact lin [_] [] [.nl (.k 12) (.a (.x 0) (.k 1))] [] (.nl (.k 1) (.x 0)) (.l 1 [1]) rfl hm) hP put_same (fun g hg'=>?_) fun hx k8 g e hg' he' nge=>?_
 ·refine ⟨true,[],put_same,by exact Nat.le_of_ble_eq_true rfl,⟨true,put_same⟩,?_⟩
  refine grow_tail CO EO RO hE rfl rfl h2
 ·have sg:topsC (Sto.put (Sto.put (Sto.ro sto) la (.list true [])) f (.list true ys)) g e l g=some (.list true [.tup [rowD l,.lst e]]):=(put_ne nge).trans put_same
  refine ⟨true,[.tup [rowD l,.lst e]],sg,by exact Nat.le_of_ble_eq_true rfl,⟨true,sg⟩,?_⟩
  refine ⟨[rowD l,.lst e],rfl,rfl,?_⟩
  obtain ⟨g1,g2,l0,_⟩:=gq
  have ll:l.length=2:=by obtain ⟨x,rfl⟩:=hx; rfl
  have l1:cf l (l.length - 1)=1:=by obtain ⟨x,rfl⟩:=hx; rfl
  walk_at "m"
  refine ⟨by exact Nat.le_of_ble_eq_true rfl,?_⟩
  walk_at "m"
  refine g_for1 ?_
  refine ⟨rfl,_,rfl,e,1,rowD [1],rfl,put_same,?_⟩
  walk_at "m"
  refine ⟨rfl,_,rfl,?_⟩
  show forL _ _ [] _ _
  refine ⟨trivial,?_⟩
  walk_at "m"
  refine e_call htg.1 ?_
  walk_at "m"
  refine e_call hma.1 ?_
  walk_at "m"
  refine e_call had.1 ?_
  walk_at "m"
  refine ⟨rfl,_,rfl,⟨e,1,rowD [1],rfl,put_same⟩,?_⟩
  walk_at "m"
  refine ⟨by exact Nat.le_of_ble_eq_true rfl,?_⟩
  refine ⟨e,1,rowD [1],rfl,put_same,rfl,?_⟩
  walk_at "m"
  refine had.2 [] [1] 1 1 _ _ _ _ (by exact o608 hm) (fun i=>(RC.none (by exact o347)).rs i) (fun i=>rc_one.rs i) (by exact lin [] [] [] [] (.nl (.a (.k 1) (.k 1)) (.k 67108864)) (.l 1 []) rfl) (by simp) (by simp) fun s hs=>?_
  have es:trimL s=[1]:=cf_inj (rw_trim s) mon_1.w (funext fun j=>by rw [cf_trim,hs j,cf_ge (p:=[]) (Nat.zero_le _),Rat.zero_add])
  rw [es]
  walk_at "m"
  refine hma.2 [1] l 8 _ _ _ _ (by exact lin [_] [] [.nl (.k 12) (.a (.x 0) (.k 1))] [] (.nl (.k 7) (.x 0)) (.l 1 [1]) rfl hm) mon_1.w g2.1 l0 (rc_one.mono (by exact lin [] [] [] [] (.nl (.k 1) (.k 8)) (.l 1 []) rfl)) k8 (by exact lin [] [] [] [] (.nl (.k 8) (.k 350)) (.l 1 []) rfl) (by simp) (by exact lin [_] [] [.ne (.x 0) (.k 2)] [] (.nl (.x 0) (.k 15)) (.l 1 [1]) rfl ll) fun u v O=>?_
  obtain ⟨wu,wv,lu,lv,v0,kv,ku⟩:=O
  have ku:=ku 1 rs_one (by rw [l1]; exact rs_one)
  rw [ll] at kv lv
  walk_at "m"
  refine htg.2 [] [1] u v 30 _ _ _ _ (by exact o607 hm) (RC.none (by exact o622)) (rc_one.mono (by exact o622)) (ku.mono (by show 8+9*1+2≤30; exact lin [] [] [] [] (.nl (.a (.a (.k 8) (.m 9 (.k 1))) (.k 2)) (.k 30)) (.l 1 []) rfl)) (kv.mono (by exact lin [] [] [] [] (.nl (.a (.k 8) (.m 9 (.k 2))) (.k 30)) (.l 1 []) rfl)) mon_1.w wv mon_1.n v0 (by exact lin [] [] [] [] (.nl (.a (.m 2 (.a (.m 2 (.k 30)) (.k 4))) (.k 1)) (.k 350)) (.l 1 []) rfl) (by simp) (by simp) (by have:u.length≤1:=lu; exact lin [_] [] [.nl (.x 0) (.k 1)] [] (.nl (.x 0) (.k 6)) (.l 1 [1]) rfl this) (by exact lin [_] [] [.nl (.x 0) (.k 2)] [] (.nl (.x 0) (.k 6)) (.l 1 [1]) rfl lv) fun a b=>?_
  walk_at "m"
  refine ⟨⟨true,sg⟩,?_⟩
  exact grow_tail CO EO RO hE rfl rfl h2
end
end Mine
namespace Mine
open PySem
noncomputable def s__law_wrong_quotient:List S:=[
  .assign 1 (.bin .Add (.var 1) (.tup [.tup [.cint 1,.cint 1]])),
  .assign 2 (.lst [.tup [.var 1,.bin .Add (.var 1) (.tup [.tup [.cint 2,.cint 1]])],.tup [.var 1,.tup []],.lst [.var 1,.tup [.tup [.cint 1,.cint 1]]],.var 1,.cnone,.tup [.var 1],.tup [.var 1,.tup [.tup [.cint 1,.cint 1]],.tup []],.cint 7]),
  .ifs (.cmp .Gt (.blt .len [.var 1]) (.cint 1)) [.expr (.append (.var 2) (.tup [.var 1,.var 1]))] [],
  .assign 3 (.bin .Mod (.bin .FloorDiv (.var 0) (.cint 288)) (.blt .len [.var 1])),
  .assign 2 (.bin .Add (.var 2) (.lst [.tup [.blt .list [.var 1],.tup [.tup [.cint 1,.cint 1]]],.tup [.bin .Add (.var 1) (.tup [.tup [.cint 0,.cint 1]]),.tup [.tup [.cint 1,.cint 1]]],.tup [.tup [],.bin .Add (.var 1) (.tup [.tup [.cint 1,.cint 1]])]])),
  .assign 4 (.bin .Add (.bin .Add (.slice (.var 1) none (some (.var 3))) (.tup [.call (Str.ofString "_law_bad") [.bin .FloorDiv (.var 0) (.cint 24)]])) (.slice (.var 1) (some (.var 3)) none)),
  .assign 2 (.bin .Add (.var 2) (.lst [.tup [.var 4,.tup [.tup [.cint 1,.cint 1]]],.tup [.tup [.tup [.cint 1,.cint 1]],.var 4],.tup [.var 4,.var 1],.tup [.var 4,.tup [.tup [.cint 1,.cint 1]]],.tup [.tup [.tup [.cint 1,.cint 1]],.var 4]])),
  .ret (.idx (.var 2) (.bin .Mod (.var 0) (.blt .len [.var 2])))]
noncomputable def Rr (p:List Rat):Prop:=Rw p∧p.length≤4∧RSs 20 p
noncomputable def WqR (c:Cx):Prop:=IsFn c (Str.ofString "_law_wrong_quotient")∧∀ (x:Int) (p:List Rat) (m:Nat) (sto:Sto) (Q:D→Sto→Prop) (X:Str→Prop),3≤m→Rr p→(∀ d sto',Ext sto sto'→QB sto' d false→Q d sto')→CallOK c m (Str.ofString "_law_wrong_quotient") [.int x,rowD p] sto Q X
theorem last_snoc (p:List Rat) (x:Rat):cf (p ++ [x]) ((p ++ [x]).length - 1)=x:=by
 rw [cf_app,List.length_append,if_neg (by show ¬ p.length+1 - 1<p.length; exact o526),show p.length+[x].length - 1 - p.length=0 by show p.length+1 - 1 - p.length=0; exact o527]
 rfl
theorem rw_snoc (p:List Rat) {x:Rat} (h:x≠0):Rw (p ++ [x]):=.inr (by rw [last_snoc]; exact h)
theorem mon_snoc (p:List Rat):Mon (p ++ [1]):=⟨rw_snoc p (by decide),by simp,last_snoc p 1⟩
theorem nrow_snoc (p:List Rat):RowB (rowD (p ++ [0])) false:=.inl ⟨_,rfl,⟨fun z=>(by cases z),fun z=>by
 rcases z with z | z
 ·exact absurd z (by simp)
 ·exact absurd (last_snoc p 0) z⟩⟩
theorem rss_snoc {p:List Rat} (h:RSs 20 p) {x:Rat} (hx:RS 20 x):RSs 20 (p ++ [x]):=fun i=>by
 rw [cf_app]
 split
 ·exact h i
 ·by_cases z:i - p.length=0
  ·rw [z]; exact hx
  ·rw [cf_ge (by show 1≤_; omega)]; exact (RC.none (B:=1) (by exact o347)).rs 0 |>.mono (by exact o628)
theorem rowB_fr (a:Rat):RowB (frD a) false:=.inr ⟨rfl,fun ds e=>by cases e; rfl⟩
theorem knR_fr {τ:Sto} (a:Rat):KnR τ (frD a):=⟨by simp,fun x hx=>by
 rcases List.mem_cons.mp hx with rfl | hx
 ·trivial
 ·rw [List.mem_singleton.mp hx]; trivial⟩
theorem qb_rows {τ:Sto} {p q:List Rat} (wp:Rw p) (wq:Rw q) (lp:p.length≤1000) (lq:q.length≤1000) {b:Bool} (h:QR p q b):QB τ (qD p q) b:=.inr (.inr ⟨_,_,rfl,knR_row lp,knR_row lq,.inr ⟨p,rfl,wp,.inr ⟨q,rfl,wq,h⟩⟩⟩)
theorem sh_long {p q G S T:List Rat} {b:Nat} (O:ShO p q G S T b) (mq:Mon q) (lq:1<q.length) (hp:p=q∨p=[]):G≠[1]:=fun z=>by
 have e:cf [1]=fun j=>cvn (cf S) (cf p) j+cvn (cf T) (cf q) j:=by rw [← z]; exact funext O.eG
 have d:Df (cf q) one0:=by
  rw [← show cf [1]=one0 from funext cf_one,e]
  refine df_comb ?_ (df_self _) (fin_cf S) (fin_cf T)
  rcases hp with rfl | rfl
  ·exact df_self _
  ·exact df_none _
 have:=mon_of_one mq d
 exact lin [_] [] [.nt (.k 1) (.x 0),.nl (.x 0) (.k 1)] [] .f (.l 0 [1,1]) rfl lq this
noncomputable def wqs (r:List Rat) (l3 l10:Addr) (bd:D):List D:=[qD r (r ++ [2]),qD r [],.lst l3,rowD r,.none,.tup [rowD r],.tup [rowD r,rowD [1],rowD []],.int 7] ++ (if 1<r.length then [qD r r] else []) ++ [.tup [.lst l10,rowD [1]],qD (r ++ [0]) [1],qD [] (r ++ [1])] ++ [.tup [bd,rowD [1]],.tup [rowD [1],bd],.tup [bd,rowD r],.tup [bd,rowD [1]],.tup [rowD [1],bd]]
theorem wqs_bad {τ:Sto} {p:List Rat} {l3 l10:Addr} {bd:D} (hr:Rr p) (h3:∃ o ds,τ l3=some (.list o ds)) (h10:∃ o ds,τ l10=some (.list o ds)) (hb:WrongD τ bd):∀ d∈wqs (p ++ [1]) l3 l10 bd,QB τ d false:=by
 have mr:=mon_snoc p
 have lr:(p ++ [1]).length≤5:=by rw [List.length_append]; have:=hr.2.1; show _+1≤5; exact o630 this
 have rs1:RS 20 1:=rs_one.mono (by exact o628)
 have kr:RSs 20 (p ++ [1]):=rss_snoc hr.2.2 rs1
 have kr1:RSs 20 (p ++ [1] ++ [1]):=rss_snoc kr rs1
 generalize p ++ [1]=r at *
 have c1:RC 130 (cf r):=rc_of kr (by exact lin [_] [] [.nl (.x 0) (.k 5)] [] (.nl (.a (.m 20 (.x 0)) (.k 1)) (.k 130)) (.l 1 [20]) rfl lr)
 have l2:(r ++ [1]).length≤6:=by rw [List.length_append]; show _+1≤6; exact lin [_] [] [.nl (.x 0) (.k 5)] [] (.nl (.a (.x 0) (.k 1)) (.k 6)) (.l 1 [1]) rfl lr
 have c2:RC 130 (cf (r ++ [1])):=rc_of kr1 (by exact lin [_] [] [.nl (.x 0) (.k 6)] [] (.nl (.a (.m 20 (.x 0)) (.k 1)) (.k 130)) (.l 1 [20]) rfl l2)
 have bl:∀ {y:D},KnR τ y→QB τ (.tup [bd,y]) false:=fun {y} ky=>.inr (.inr ⟨_,_,rfl,hb.2,ky,.inl ⟨rfl,hb.1⟩⟩)
 have br:QB τ (.tup [rowD [1],bd]) false:=.inr (.inr ⟨_,_,rfl,knR_row (by simp),hb.2,.inr ⟨[1],rfl,mon_1.w,.inl ⟨rfl,hb.1⟩⟩⟩)
 have i1:QB τ (qD r (r ++ [2])) false:=qb_rows mr.w (rw_snoc r (by decide)) (by exact o634 lr) (by rw [List.length_append]; show _+1≤_; exact o635 lr) (.inl ⟨rfl,.inr (by rw [last_snoc]; decide)⟩)
 have i4:QB τ (rowD r) false:=by
  by_cases z:r.length=2
  ·match r,z with
   | [a,e],_=>exact .inr (.inr ⟨frD a,frD e,rfl,knR_fr a,knR_fr e,.inl ⟨rfl,rowB_fr a⟩⟩)
  ·exact .inr (.inl ⟨rfl,_,rfl,by rw [List.length_map]; exact z,by rw [List.length_map]; exact o634 lr⟩)
 have i9:1<r.length→QB τ (qD r r) false:=fun z=>qb_rows mr.w mr.w (by exact o634 lr) (by exact o634 lr) (.inr ⟨mr.n,mr.m,130,c1,c1,by exact o545,by exact o575 lr,by exact o575 lr,fun G S T O=>⟨fun y=>(by cases y),fun y=>absurd y (sh_long O mr z (.inl rfl))⟩⟩)
 have i12:QB τ (qD [] (r ++ [1])) false:=qb_rows (.inl rfl) (mon_snoc r).w (by simp) (by exact o534 l2) (.inr ⟨(mon_snoc r).n,(mon_snoc r).m,130,RC.none (by exact o636),c2,by exact o545,by simp,by exact o540 l2,fun G S T O=>⟨fun y=>(by cases y),fun y=>absurd y (sh_long O (mon_snoc r) (by rw [List.length_append]; have:=mr.pos; show 1<_+1; exact lin [_] [] [.nl (.k 1) (.x 0)] [] (.nt (.k 1) (.a (.x 0) (.k 1))) (.l 1 [1]) rfl this) (.inr rfl))⟩⟩)
 intro d hd
 unfold wqs at hd
 rcases List.mem_append.mp hd with hd | hd
 ·rcases List.mem_append.mp hd with hd | hd
  ·rcases List.mem_append.mp hd with hd | hd
   ·simp only [List.mem_cons,List.not_mem_nil,or_false] at hd
    rcases hd with rfl | rfl | rfl | rfl | rfl | rfl | rfl | rfl
    ·exact i1
    ·exact qb_rows mr.w (.inl rfl) (by exact o634 lr) (by simp) (.inl ⟨rfl,.inl rfl⟩)
    ·exact .inl ⟨rfl,h3,rfl⟩
    ·exact i4
    ·exact .inl ⟨rfl,trivial,rfl⟩
    ·exact .inr (.inl ⟨rfl,_,rfl,by simp,by simp⟩)
    ·exact .inr (.inl ⟨rfl,_,rfl,by simp,by simp⟩)
    ·exact .inl ⟨rfl,trivial,rfl⟩
   ·by_cases z:1<r.length
    ·rw [if_pos z] at hd; rw [List.mem_singleton.mp hd]; exact i9 z
    ·rw [if_neg z] at hd; cases hd
  ·simp only [List.mem_cons,List.not_mem_nil,or_false] at hd
   rcases hd with rfl | rfl | rfl
   ·exact .inr (.inr ⟨_,_,rfl,h10,knR_row (by simp),.inl ⟨rfl,.inr ⟨rfl,fun ds e=>by cases e⟩⟩⟩)
   ·exact .inr (.inr ⟨_,_,rfl,knR_row (by rw [List.length_append]; show _+1≤_; exact o635 lr),knR_row (by simp),.inl ⟨rfl,nrow_snoc r⟩⟩)
   ·exact i12
 ·simp only [List.mem_cons,List.not_mem_nil,or_false] at hd
  rcases hd with rfl | rfl | rfl | rfl | rfl
  ·exact bl (knR_row (by simp))
  ·exact br
  ·exact bl (knR_row (by exact o634 lr))
  ·exact bl (knR_row (by simp))
  ·exact br
end Mine
namespace Mine
open PySem
theorem row1 (p:List Rat):D.tup (p.map frD ++ [D.tup [.int 1,.int 1]])=rowD (p ++ [1]):=by unfold rowD; rw [List.map_append]; rfl
theorem row2 (p:List Rat):D.tup (p.map frD ++ [D.tup [.int 2,.int 1]])=rowD (p ++ [2]):=by unfold rowD; rw [List.map_append]; rfl
theorem row0 (p:List Rat):D.tup (p.map frD ++ [D.tup [.int 0,.int 1]])=rowD (p ++ [0]):=by unfold rowD; rw [List.map_append]; rfl
noncomputable def wq1 (r:List Rat) (l3:Addr):List D:=[qD r (r ++ [2]),qD r [],.lst l3,rowD r,.none,.tup [rowD r],.tup [rowD r,rowD [1],rowD []],.int 7]
noncomputable def wq12 (r:List Rat) (l3:Addr):List D:=wq1 r l3 ++ (if 1<r.length then [qD r r] else [])
noncomputable def s_wqT:List S:=[
  .assign 3 (.bin .Mod (.bin .FloorDiv (.var 0) (.cint 288)) (.blt .len [.var 1])),
  .assign 2 (.bin .Add (.var 2) (.lst [.tup [.blt .list [.var 1],.tup [.tup [.cint 1,.cint 1]]],.tup [.bin .Add (.var 1) (.tup [.tup [.cint 0,.cint 1]]),.tup [.tup [.cint 1,.cint 1]]],.tup [.tup [],.bin .Add (.var 1) (.tup [.tup [.cint 1,.cint 1]])]])),
  .assign 4 (.bin .Add (.bin .Add (.slice (.var 1) none (some (.var 3))) (.tup [.call (Str.ofString "_law_bad") [.bin .FloorDiv (.var 0) (.cint 24)]])) (.slice (.var 1) (some (.var 3)) none)),
  .assign 2 (.bin .Add (.var 2) (.lst [.tup [.var 4,.tup [.tup [.cint 1,.cint 1]]],.tup [.tup [.tup [.cint 1,.cint 1]],.var 4],.tup [.var 4,.var 1],.tup [.var 4,.tup [.tup [.cint 1,.cint 1]]],.tup [.tup [.tup [.cint 1,.cint 1]],.var 4]])),
  .ret (.idx (.var 2) (.bin .Mod (.var 0) (.blt .len [.var 2])))]
section
variable {c:Cx} (CO:CxOK c) (EO:ExcOK c) (RO:RzOK c)
include CO EO RO
theorem wq_tail (hba:BadOK c) {n:Nat} (hm:2≤n) {σ:St} {x:Int} {p:List Rat} {l2 l3:Addr} {sto:Sto} {Q:D→Sto→Prop} {X:Str→St→Prop} (hr:Rr p) (g0:σ.loc 0=some (.int x)) (g1:σ.loc 1=some (rowD (p ++ [1]))) (g2:σ.loc 2=some (.lst l2)) (s2:σ.sto l2=some (.list true (wq12 (p ++ [1]) l3))) (s3:∃ o ds,σ.sto l3=some (.list o ds)) (hE:Ext (Sto.ro sto) σ.sto) (h:∀ d sto',Ext sto sto'→QB sto' d false→Q d sto'):wSs c n true s_wqT (EndQ sto Q) X σ:=by
 have lr:(p ++ [1]).length≤5:=by rw [List.length_append]; have:=hr.2.1; show _+1≤5; exact o630 this
 have lr1:1≤(p ++ [1]).length:=(mon_snoc p).pos
 have L12:(wq12 (p ++ [1]) l3).length≤9:=by unfold wq12 wq1; rw [List.length_append]; split <;> simp
 have all:=fun (τ:Sto) (l10:Addr) (bd:D)=>wqs_bad (τ:=τ) (l3:=l3) (l10:=l10) (bd:=bd) hr
 have eW:∀ (l10:Addr) (bd:D),wqs (p ++ [1]) l3 l10 bd=(wq12 (p ++ [1]) l3 ++ [.tup [.lst l10,rowD [1]],qD (p ++ [1] ++ [0]) [1],qD [] (p ++ [1] ++ [1])]) ++ [.tup [bd,rowD [1]],.tup [rowD [1],bd],.tup [bd,rowD (p ++ [1])],.tup [bd,rowD [1]],.tup [rowD [1],bd]]:=fun _ _=>rfl
 generalize p ++ [1]=r at *
 have lim':(r.map frD).length≤lim:=by exact Mine.mlim (by exact o634 lr)
 unfold s_wqT
 walk_at "m"
 refine o_fdiv (by decide) ?_
 walk_at "m"
 refine f_lenR (by exact o634 lr) ?_
 refine o_mod (by exact o638 lr1) ?_
 obtain ⟨u,hu,eu⟩:=fmod_lt (a:=x.fdiv 288) (m:=r.length) (by exact o639 lr1)
 rw [eu]
 walk_at "m"
 refine f_listT lim' fun l10 hl10=>?_
 walk_at "m"
 refine ⟨Nat.le_of_ble_eq_true rfl,?_⟩
 walk_at "m"
 refine ⟨Nat.le_of_ble_eq_true rfl,?_⟩
 walk_at "m"
 refine ⟨Nat.le_of_ble_eq_true rfl,?_⟩
 walk_at "m"
 refine ⟨Nat.le_of_ble_eq_true rfl,?_⟩
 walk_at "m"
 refine ⟨Nat.le_of_ble_eq_true rfl,?_⟩
 refine o_addT lim' (Nat.le_of_ble_eq_true rfl) ?_
 rw [row0]
 walk_at "m"
 refine ⟨Nat.le_of_ble_eq_true rfl,?_⟩
 walk_at "m"
 refine ⟨Nat.le_of_ble_eq_true rfl,?_⟩
 walk_at "m"
 refine ⟨Nat.le_of_ble_eq_true rfl,?_⟩
 walk_at "m"
 refine ⟨Nat.le_of_ble_eq_true rfl,?_⟩
 walk_at "m"
 refine ⟨Nat.le_of_ble_eq_true rfl,?_⟩
 walk_at "m"
 refine ⟨Nat.le_of_ble_eq_true rfl,?_⟩
 refine o_addT lim' (Nat.le_of_ble_eq_true rfl) ?_
 rw [row1]
 walk_at "m"
 refine ⟨Nat.le_of_ble_eq_true rfl,?_⟩
 walk_at "m"
 refine ⟨Nat.le_of_ble_eq_true rfl,fun l5 hl5=>?_⟩
 refine o_addL (put_old hl5 (put_old hl10 s2)) put_same (by unfold lim; exact lin [_] [] [.nl (.x 0) (.k 9)] [] (.nl (.x 0) (.k 1000000)) (.l 1 [1]) rfl L12) (Nat.le_of_ble_eq_true rfl) fun l6 hl6=>?_
 walk_at "m"
 refine sl_tup rfl rfl lim' ?_
 rw [cut_take _ _ (by rw [List.length_map]; exact o310 hu)]
 walk_at "m"
 refine e_call hba.1 ?_
 walk_at "m"
 refine o_fdiv (by decide) ?_
 walk_at "m"
 refine hba.2 _ _ _ _ _ (by exact lin [_] [] [.nl (.k 2) (.x 0)] [] (.nl (.k 1) (.x 0)) (.l 1 [1]) rfl hm) fun d sto1 hx1 hd hk=>?_
 walk_at "m"
 refine ⟨Nat.le_of_ble_eq_true rfl,?_⟩
 refine o_addT (by rw [List.length_take,List.length_map]; unfold lim; exact o642 lr) (Nat.le_of_ble_eq_true rfl) ?_
 walk_at "m"
 refine sl_tup rfl rfl lim' ?_
 rw [cut_drop _ _ (by rw [List.length_map]; exact o310 hu)]
 refine o_addT (by rw [List.length_append,List.length_take,List.length_map]; show _+1≤_; unfold lim; exact o643 lr) (by rw [List.length_drop,List.length_map]; unfold lim; exact o644 lr) ?_
 rw [← List.map_take,← List.map_drop]
 have hb:WrongD sto1 (.tup ((r.take u).map frD ++ [d] ++ (r.drop u).map frD)):=wrong_put hd hk (by rw [List.length_take,List.length_drop]; exact o645 lr)
 generalize D.tup ((r.take u).map frD ++ [d] ++ (r.drop u).map frD)=bd at hb ⊢
 walk_at "m"
 iterate 13
  refine ⟨Nat.le_of_ble_eq_true rfl,?_⟩
  walk_at "m"
 refine ⟨Nat.le_of_ble_eq_true rfl,fun l7 hl7=>?_⟩
 have e6:=hx1.1 l6 _ put_same
 refine o_addL (put_old hl7 e6) put_same (by rw [List.length_append]; show _+3≤_; unfold lim; exact lin [_] [] [.nl (.x 0) (.k 9)] [] (.nl (.a (.x 0) (.k 3)) (.k 1000000)) (.l 1 [1]) rfl L12) (Nat.le_of_ble_eq_true rfl) fun l8 hl8=>?_
 have L:(wqs r l3 l10 bd).length≤20:=by rw [eW,List.length_append,List.length_append]; show _+3+5≤20; exact lin [_] [] [.nl (.x 0) (.k 9)] [] (.nl (.a (.a (.x 0) (.k 3)) (.k 5)) (.k 20)) (.l 1 [1]) rfl L12
 have L1:1≤(wqs r l3 l10 bd).length:=by rw [eW,List.length_append]; show 1≤_+5; exact lin [_] [] [] [] (.nl (.k 1) (.a (.x 0) (.k 5))) (.l 1 []) rfl
 walk_at "m"
 refine f_lenL (xs:=wqs r l3 l10 bd) put_same (by unfold lim; exact o649 L) ?_
 refine o_mod (by exact o638 L1) ?_
 obtain ⟨w,hw,ew⟩:=fmod_lt (a:=x) (m:=(wqs r l3 l10 bd).length) (by exact o639 L1)
 rw [ew]
 refine i_lst (o:=true) (ds:=wqs r l3 l10 bd) put_same (by unfold lim; exact o649 L) (nth_at hw) ?_
 walk_at "m"
 obtain ⟨o3,d3,s3⟩:=s3
 have E1:=hE.put (l:=l10) (xs:=r.map frD) (hE.none hl10)
 have E2:=E1.put (l:=l5) (xs:=[.tup [.lst l10,rowD [1]],qD (r ++ [0]) [1],qD [] (r ++ [1])]) (E1.none hl5)
 have E3:=E2.put (l:=l6) (xs:=wq12 r l3 ++ [.tup [.lst l10,rowD [1]],qD (r ++ [0]) [1],qD [] (r ++ [1])]) (E2.none hl6)
 have E4:=E3.trans hx1
 have E5:=E4.put (l:=l7) (xs:=[.tup [bd,rowD [1]],.tup [rowD [1],bd],.tup [bd,rowD r],.tup [bd,rowD [1]],.tup [rowD [1],bd]]) (E4.none hl7)
 have E6:=E5.put (l:=l8) (xs:=wqs r l3 l10 bd) (E5.none hl8)
 have up:∀ {b:Addr} {k:Cell},sto1 b=some k→Sto.put (Sto.put sto1 l7 (.list true [.tup [bd,rowD [1]],.tup [rowD [1],bd],.tup [bd,rowD r],.tup [bd,rowD [1]],.tup [rowD [1],bd]])) l8 (.list true (wqs r l3 l10 bd)) b=some k:=fun e=>put_old hl8 (put_old hl7 e)
 refine ret_all E6 fun sto' hx hd' _=>h _ _ hx ?_
 refine (all _ l10 bd ⟨o3,d3,up (hx1.1 _ _ (put_old hl6 (put_old hl5 (put_old hl10 s3))))⟩ ⟨true,_,up (hx1.1 _ _ (put_old hl6 (put_old hl5 put_same)))⟩ ⟨hb.1,hb.2.mono fun a o ds e=>⟨o,ds,up e⟩⟩ _ (List.getElem_mem hw)).mono hd'
theorem wqR_ok (hba:BadOK c) {ps v:List Str} (hf:FnIs c (Str.ofString "_law_wrong_quotient") ps v s__law_wrong_quotient) (hps:ps.length=2):WqR c:=by
 refine ⟨hf.isFn,fun x p m sto Q X hm hr h=>?_⟩
 obtain ⟨n,rfl⟩:∃ n,m=n+1:=⟨m - 1,by exact o122 hm⟩
 refine fn_call CO EO RO hf hps.symm ?_
 have e:s__law_wrong_quotient=.assign 1 (.bin .Add (.var 1) (.tup [.tup [.cint 1,.cint 1]])) :: .assign 2 (.lst [.tup [.var 1,.bin .Add (.var 1) (.tup [.tup [.cint 2,.cint 1]])],.tup [.var 1,.tup []],.lst [.var 1,.tup [.tup [.cint 1,.cint 1]]],.var 1,.cnone,.tup [.var 1],.tup [.var 1,.tup [.tup [.cint 1,.cint 1]],.tup []],.cint 7]) :: .ifs (.cmp .Gt (.blt .len [.var 1]) (.cint 1)) [.expr (.append (.var 2) (.tup [.var 1,.var 1]))] [] :: s_wqT:=rfl
 rw [e]
 have lp:=hr.2.1
 have lim':(p.map frD).length≤lim:=by exact Mine.mlim (by exact lin [_] [] [.nl (.x 0) (.k 4)] [] (.nl (.x 0) (.k 1000)) (.l 1 [1]) rfl lp)
 have lr:(p ++ [1]).length≤5:=by rw [List.length_append]; show _+1≤5; exact o630 lp
 have lim2:((p ++ [1]).map frD).length≤lim:=by exact Mine.mlim (by exact o634 lr)
 walk_at "m"
 refine ⟨Nat.le_of_ble_eq_true rfl,?_⟩
 walk_at "m"
 refine ⟨Nat.le_of_ble_eq_true rfl,?_⟩
 refine o_addT lim' (Nat.le_of_ble_eq_true rfl) ?_
 rw [row1]
 walk_at "m"
 refine ⟨Nat.le_of_ble_eq_true rfl,?_⟩
 walk_at "m"
 refine ⟨Nat.le_of_ble_eq_true rfl,?_⟩
 refine o_addT lim2 (Nat.le_of_ble_eq_true rfl) ?_
 rw [row2]
 walk_at "m"
 iterate 5
  refine ⟨Nat.le_of_ble_eq_true rfl,?_⟩
  walk_at "m"
 refine ⟨Nat.le_of_ble_eq_true rfl,fun l3 hl3=>?_⟩
 walk_at "m"
 iterate 5
  refine ⟨Nat.le_of_ble_eq_true rfl,?_⟩
  walk_at "m"
 refine ⟨Nat.le_of_ble_eq_true rfl,fun l2 hl2=>?_⟩
 walk_at "m"
 refine f_lenR (by exact o634 lr) ?_
 walk_at "m"
 have E0:Ext (Sto.ro sto) (Sto.put (Sto.ro sto) l3 (.list true [rowD (p ++ [1]),rowD [1]])):=(Ext.refl _).put hl3
 have E1:=E0.put (l:=l2) (xs:=wq1 (p ++ [1]) l3) (E0.none hl2)
 have n32:l3≠l2:=fun z=>by
  subst z
  have hl2:Sto.put (Sto.ro sto) l3 (.list true [rowD (p ++ [1]),rowD [1]]) l3=none:=hl2
  rw [put_same] at hl2; cases hl2
 refine if_b (fun hb=>?_) fun hb=>?_
 ·have hb:1<(p ++ [1]).length:=by have:=of_decide_eq_true hb; exact o494 this
  walk_at "m"
  refine e_append ?_
  walk_at "m"
  refine ⟨⟨l2,_,rfl,put_same⟩,?_⟩
  walk_at "m"
  refine ⟨Nat.le_of_ble_eq_true rfl,?_⟩
  refine ap_lst put_same (Nat.le_of_ble_eq_true rfl) ?_
  walk_at "m"
  refine wq_tail CO EO RO hba (by exact o124 hm) (l2:=l2) (l3:=l3) hr rfl rfl rfl ?_ ⟨true,_,(put_ne n32).trans ((put_ne n32).trans put_same)⟩ (E1.put (l:=l2) (E0.none hl2)) h
  unfold wq12
  rw [if_pos hb]
  exact put_same
 ·have hb:¬ 1<(p ++ [1]).length:=by have:=of_decide_eq_false hb; exact o497 this
  walk_at "m"
  refine wq_tail CO EO RO hba (by exact o124 hm) (l2:=l2) (l3:=l3) hr rfl rfl rfl ?_ ⟨true,_,(put_ne n32).trans put_same⟩ E1 h
  unfold wq12
  rw [if_neg hb,List.append_nil]
  exact put_same
end
end Mine
namespace Mine
open PySem
noncomputable def s__law_rows_done:List S:=[
  .ifs (.cmp .Eq (.var 0) (.cint 0)) [.ret (.call (Str.ofString "plus") [.var 1,.var 2])] [],
  .ifs (.cmp .Eq (.var 0) (.cint 1)) [.ret (.call (Str.ofString "times") [.var 1,.var 2])] [],
  .ifs (.cmp .Eq (.var 0) (.cint 2)) [.ret (.call (Str.ofString "divided") [.var 1,.var 2])] [],
  .ifs (.cmp .Eq (.var 0) (.cint 3)) [.ret (.call (Str.ofString "common") [.var 1,.var 2])] [],
  .ifs (.cmp .Eq (.var 0) (.cint 4)) [.ret (.call (Str.ofString "quotient") [.var 1,.var 2])] [],
  .ifs (.cmp .Eq (.var 0) (.cint 5)) [.ret (.call (Str.ofString "parts") [.var 1,.bin .Add (.lst [.var 2]) (.var 3)])] [],
  .ret (.call (Str.ofString "rate") [.var 1])]
noncomputable def s__law_quotients_done:List S:=[
  .ifs (.cmp .Eq (.var 0) (.cint 0)) [.ret (.call (Str.ofString "joined") [.var 1,.var 2])] [],
  .ifs (.cmp .Eq (.var 0) (.cint 1)) [.ret (.call (Str.ofString "rated") [.var 1])] [],
  .ifs (.cmp .Eq (.var 0) (.cint 2)) [.ret (.call (Str.ofString "growth") [.var 1])] [],
  .ret (.call (Str.ofString "apart") [.var 1,.var 3])]
noncomputable def badR (w:Nat) (b b' bt:Bool):Bool:=!b || (decide (w<6)&&!b') || (w==5&&!bt)
noncomputable def nouR (w:Nat) (e e':Bool):Bool:=(w==5&&e) || ((w==2 || w==4)&&e')
noncomputable def badQ (w:Nat) (b b':Bool):Bool:=!b || (w==0&&!b')
noncomputable def RowsD (c:Cx):Prop:=IsFn c (Str.ofString "_law_rows_done")∧∀ (w:Nat) (d d':D) (b b' e e':Bool) (xs:List (D×Bool)) (a:Addr) (o:Bool) (m:Nat) (sto:Sto) (Q:D→Sto→Prop) (X:Str→Prop),13≤m→w≤6→Stt sto d b→Stt sto d' b'→(e=true↔d=rowD [])→(e'=true↔d'=rowD [])→Tld sto xs→xs.length≤3→sto a=some (.list o (xs.map (·.1)))→(badR w b b' (allB xs)=true→X nmRow)→(badR w b b' (allB xs)=false→nouR w e e'=true→X nmNou)→(badR w b b' (allB xs)=false→nouR w e e'=false→∀ r sto',Ext sto sto'→Q r sto')→CallOK c m (Str.ofString "_law_rows_done") [.int w,d,d',.lst a] sto Q X
noncomputable def QuosD (c:Cx):Prop:=IsFn c (Str.ofString "_law_quotients_done")∧∀ (w:Nat) (d d':D) (b b':Bool) (xs:List (D×Bool)) (a:Addr) (o:Bool) (m:Nat) (sto:Sto) (Q:D→Sto→Prop) (X:Str→Prop),13≤m→w≤3→QSt sto d b→QSt sto d' b'→Tld sto xs→xs.length≤3→sto a=some (.list o (xs.map (·.1)))→(badQ w b b'=true→X nmQuo)→(badQ w b b'=false→(w==3&&!allB xs)=true→X nmRow)→(badQ w b b'=false→(w==3&&!allB xs)=false→∀ r sto',Ext sto sto'→Q r sto')→CallOK c m (Str.ofString "_law_quotients_done") [.int w,d,d',.lst a] sto Q X
section
variable {c:Cx} (CO:CxOK c) (EO:ExcOK c) (RO:RzOK c)
include CO EO RO
theorem two_call {z:Bool} {f:Str} (h2:Two c z f) {n:Nat} (hm:9≤n) {σ:St} {d d':D} {b b':Bool} {sto:Sto} {Q:D→Sto→Prop} {X:Str→Prop} (g1:σ.loc 1=some d) (g2:σ.loc 2=some d') (hd:Stt σ.sto d b) (hd':Stt σ.sto d' b') (h1:(b&&b')=false→X nmRow) (h3:(b&&b')=true→z=true→d'=rowD []→X nmNou) (h4:(b&&b')=true→(z=true→d'≠rowD [])→∀ r,Q r sto) :
  wSs c n true [.ret (.call f [.var 1,.var 2])] (EndQ sto Q) (fun k _=>X k) σ:=by
 walk_at "m"
 refine e_call h2.1 ?_
 walk_at "m"
 exact h2.2 d d' b b' _ _ _ _ hm hd hd' h1 fun hb=>⟨h3 hb,fun hz r=>ret_plain (h4 hb hz r)⟩
theorem rowsD_ok (hpl:Two c false (Str.ofString "plus")) (hti:Two c false (Str.ofString "times")) (hdi:Two c true (Str.ofString "divided")) (hco:Two c false (Str.ofString "common")) (hqu:Two c true (Str.ofString "quotient")) (hpa:PartsR c) (hra:Rate1 c) {ps v:List Str} (hf:FnIs c (Str.ofString "_law_rows_done") ps v s__law_rows_done) (hps:ps.length=4):RowsD c:=by
 refine ⟨hf.isFn,fun w d d' b b' e e' xs a o m sto Q X hm hw hd hd' he he' hx lx ha h1 h2 h3=>?_⟩
 obtain ⟨n,rfl⟩:∃ n,m=n+1:=⟨m - 1,by exact o651 hm⟩
 refine fn_call CO EO RO hf hps.symm ?_
 unfold s__law_rows_done
 have ha':=ro_at ha
 have fin:∀ {z:Bool} {f:Str} (σ:St),σ.loc 1=some d→σ.loc 2=some d'→σ.sto=Sto.ro sto→Two c z f→w<6→w≠5→(z=true↔(w==2 || w==4)=true)→wSs c n true [.ret (.call f [.var 1,.var 2])] (EndQ sto Q) (fun k _=>X k) σ:=fun {z f} σ g1 g2 gs hT h6 h5 hz=>by
  have h5':(w==5)=false:=beq_eq_false_iff_ne.mpr h5
  have eb:badR w b b' (allB xs)=!(b&&b'):=by unfold badR; rw [h5',decide_eq_true h6]; cases b <;> cases b' <;> rfl
  have en:nouR w e e'=((w==2 || w==4)&&e'):=by unfold nouR; rw [h5']; rfl
  rw [eb] at h1 h2 h3
  rw [en] at h2 h3
  refine two_call CO EO RO hT (by exact o652 hm) g1 g2 (by rw [gs]; exact hd.ro) (by rw [gs]; exact hd'.ro) (fun hb=>h1 (by rw [hb]; rfl)) (fun hb z1 z2=>h2 (by rw [hb]; rfl) (by rw [hz.mp z1,he'.mpr z2]; rfl)) fun hb hz' r=>h3 (by rw [hb]; rfl) ?_ r sto (Ext.refl _)
  cases hc:(w==2 || w==4) with
  | false=>rfl
  | true =>
   cases hce:e' with
   | false=>rfl
   | true=>exact absurd (he'.mp hce) (hz' (hz.mpr hc))
 match w,hw with
 | 0,_=>walk_at "m"; refine if_b (fun _=>?_) (fun z=>by cases z); exact fin _ rfl rfl rfl hpl (by decide) (by decide) (by decide)
 | 1,_=>walk_at "m"; refine if_b (fun z=>by cases z) (fun _=>?_); walk_at "m"; refine if_b (fun _=>?_) (fun z=>by cases z); exact fin _ rfl rfl rfl hti (by decide) (by decide) (by decide)
 | 2,_ =>
  walk_at "m"; iterate 2 (refine if_b (fun z=>by cases z) (fun _=>?_); walk_at "m")
  refine if_b (fun _=>?_) (fun z=>by cases z); exact fin _ rfl rfl rfl hdi (by decide) (by decide) (by decide)
 | 3,_ =>
  walk_at "m"; iterate 3 (refine if_b (fun z=>by cases z) (fun _=>?_); walk_at "m")
  refine if_b (fun _=>?_) (fun z=>by cases z); exact fin _ rfl rfl rfl hco (by decide) (by decide) (by decide)
 | 4,_ =>
  walk_at "m"; iterate 4 (refine if_b (fun z=>by cases z) (fun _=>?_); walk_at "m")
  refine if_b (fun _=>?_) (fun z=>by cases z); exact fin _ rfl rfl rfl hqu (by decide) (by decide) (by decide)
 | 5,_ =>
  walk_at "m"; iterate 5 (refine if_b (fun z=>by cases z) (fun _=>?_); walk_at "m")
  refine if_b (fun _=>?_) (fun z=>by cases z)
  have eb:badR 5 b b' (allB xs)=!(b&&(b'&&allB xs)):=by unfold badR; cases b <;> cases b' <;> cases allB xs <;> rfl
  have en:nouR 5 e e'=e:=by unfold nouR; cases e <;> cases e' <;> rfl
  rw [eb] at h1 h2 h3
  rw [en] at h2 h3
  walk_at "m"
  refine e_call hpa.1 ?_
  walk_at "m"
  refine ⟨Nat.le_of_ble_eq_true rfl,fun l1 hl1=>?_⟩
  walk_at "m"
  refine o_addL put_same (put_old hl1 ha') (Nat.le_of_ble_eq_true rfl) (by exact Mine.mlim (by exact lin [_] [] [.nl (.x 0) (.k 3)] [] (.nl (.x 0) (.k 1000)) (.l 1 [1]) rfl lx)) fun l2 hl2=>?_
  walk_at "m"
  have up:Lk sto (Sto.put (Sto.put (Sto.ro sto) l1 (.list true [d'])) l2 (.list true ([d'] ++ xs.map (·.1)))):=fun a o ds e=>⟨false,ds,put_old hl2 (put_old hl1 (ro_at e))⟩
  refine hpa.2 d b ((d',b') :: xs) l2 true _ _ _ _ (by exact lin [_] [] [.nl (.k 13) (.a (.x 0) (.k 1))] [] (.nl (.k 11) (.x 0)) (.l 1 [1]) rfl hm) (hd.mono up) (fun x hx'=>?_) (by show _+1≤10; exact lin [_] [] [.nl (.x 0) (.k 3)] [] (.nl (.a (.x 0) (.k 1)) (.k 10)) (.l 1 [1]) rfl lx) put_same (fun z=>?_) (fun z z'=>?_) fun z z' r l k hl=>?_
  ·rcases List.mem_cons.mp hx' with rfl | hx'
   ·exact hd'.mono up
   ·exact (hx x hx').mono up
  ·exact h1 (by have z:(b&&(b'&&allB xs))=false:=z; rw [z]; rfl)
  ·exact h2 (by have z:(b&&(b'&&allB xs))=true:=z; rw [z]; rfl) (he.mpr z')
  ·refine ret_plain (h3 (by have z:(b&&(b'&&allB xs))=true:=z; rw [z]; rfl) ?_ r sto (Ext.refl _))
   cases hc:e with
   | false=>rfl
   | true=>exact absurd (he.mp hc) z'
 | 6,_ =>
  walk_at "m"; iterate 6 (refine if_b (fun z=>by cases z) (fun _=>?_); walk_at "m")
  have eb:badR 6 b b' (allB xs)=!b:=by unfold badR; cases b <;> cases b' <;> cases allB xs <;> rfl
  have en:nouR 6 e e'=false:=by unfold nouR; cases e <;> cases e' <;> rfl
  rw [eb] at h1 h3
  refine e_call hra.1 ?_
  walk_at "m"
  exact hra.2 d b _ _ _ _ (by exact o652 hm) hd.ro (fun z=>h1 (by rw [z]; rfl)) fun z r=>ret_plain (h3 (by rw [z]; rfl) en r sto (Ext.refl _))
end
end Mine
namespace Mine
open PySem
noncomputable def s_wordH:List S:=[.assign 6 (.lst [.isa (.var 5) (.own (Str.ofString "NoRow")),.isa (.var 5) (.own (Str.ofString "NoQuotient")),.isa (.var 5) (.own (Str.ofString "Nought")),.not (.isa (.var 5) .valueError)]),.ret (.var 6)]
noncomputable def s__law_word:List S:=[
  .tryx [.ifs (.cmp .Eq (.var 0) (.cstr (Str.ofString "rows"))) [.expr (.call (Str.ofString "_law_rows_done") [.var 1,.var 2,.var 3,.var 4])] [.expr (.call (Str.ofString "_law_quotients_done") [.var 1,.var 2,.var 3,.var 4])]] (Str.ofString "PartError") (some 5) s_wordH,
  .ret (.lst [])]
noncomputable def nmPar:Str:=Str.ofString "PartError"
noncomputable def Subs (c:Cx):Prop:=c.ie=true∧(∃ C,c.cls nmPar=some C)∧(∃ C,c.cls nmRow=some C)∧(∃ C,c.cls nmQuo=some C)∧(∃ C,c.cls nmNou=some C)∧
 ∀ e∈[nmRow,nmQuo,nmNou],c.sub e nmPar=true∧c.sub e nmRow=(e==nmRow)∧c.sub e nmQuo=(e==nmQuo)∧c.sub e nmNou=(e==nmNou)
noncomputable def kinds:Nat→List D
 | 0=>[]
 | n=>[.bool (n==1),.bool (n==2),.bool (n==3),.bool false]
noncomputable def codeR (w:Nat) (b b' bt e e':Bool):Nat:=if badR w b b' bt=true then 1 else if nouR w e e'=true then 3 else 0
noncomputable def codeQ (w:Nat) (b b' bt:Bool):Nat:=if badQ w b b'=true then 2 else if (w==3&&!bt)=true then 1 else 0
noncomputable def WordR (c:Cx):Prop:=IsFn c (Str.ofString "_law_word")∧∀ (w:Nat) (d d':D) (b b' e e':Bool) (xs:List (D×Bool)) (a:Addr) (o:Bool) (m:Nat) (sto:Sto) (Q:D→Sto→Prop) (X:Str→Prop),14≤m→w≤6→Stt sto d b→Stt sto d' b'→(e=true↔d=rowD [])→(e'=true↔d'=rowD [])→Tld sto xs→xs.length≤3→sto a=some (.list o (xs.map (·.1)))→(∀ l,sto l=none→Q (.lst l) (Sto.put sto l (.list true (kinds (codeR w b b' (allB xs) e e')))))→CallOK c m (Str.ofString "_law_word") [.str (Str.ofString "rows"),.int w,d,d',.lst a] sto Q X
noncomputable def WordQ (c:Cx):Prop:=IsFn c (Str.ofString "_law_word")∧∀ (w:Nat) (d d':D) (b b':Bool) (xs:List (D×Bool)) (a:Addr) (o:Bool) (m:Nat) (sto:Sto) (Q:D→Sto→Prop) (X:Str→Prop),14≤m→w≤3→QSt sto d b→QSt sto d' b'→Tld sto xs→xs.length≤3→sto a=some (.list o (xs.map (·.1)))→(∀ l,sto l=none→Q (.lst l) (Sto.put sto l (.list true (kinds (codeQ w b b' (allB xs))))))→CallOK c m (Str.ofString "_law_word") [.str (Str.ofString "quotients"),.int w,d,d',.lst a] sto Q X
section
variable {c:Cx} (CO:CxOK c) (EO:ExcOK c) (RO:RzOK c)
include CO EO RO
theorem quosD_ok (hjo:JoinR c) (hra:RtdR c) (hgr:GrwR c) (hap:ApaR c) {ps v:List Str} (hf:FnIs c (Str.ofString "_law_quotients_done") ps v s__law_quotients_done) (hps:ps.length=4):QuosD c:=by
 refine ⟨hf.isFn,fun w d d' b b' xs a o m sto Q X hm hw hd hd' hx lx ha h1 h2 h3=>?_⟩
 obtain ⟨n,rfl⟩:∃ n,m=n+1:=⟨m - 1,by exact o651 hm⟩
 refine fn_call CO EO RO hf hps.symm ?_
 unfold s__law_quotients_done
 have ha':=ro_at ha
 have hd:=hd.mono (lk_ro sto)
 have hd':=hd'.mono (lk_ro sto)
 match w,hw with
 | 0,_ =>
  have eb:badQ 0 b b'=!(b&&b'):=by unfold badQ; cases b <;> cases b' <;> rfl
  rw [eb] at h1 h3
  walk_at "m"
  refine if_b (fun _=>?_) (fun z=>by cases z)
  walk_at "m"
  refine e_call hjo.1 ?_
  walk_at "m"
  exact hjo.2 d d' b b' _ _ _ _ (by exact o656 hm) hd hd' (fun z=>h1 (by rw [z]; rfl)) fun z r=>ret_plain (h3 (by rw [z]; rfl) rfl r sto (Ext.refl _))
 | 1,_ =>
  have eb:badQ 1 b b'=!b:=by unfold badQ; cases b <;> cases b' <;> rfl
  rw [eb] at h1 h3
  walk_at "m"
  refine if_b (fun z=>by cases z) (fun _=>?_)
  walk_at "m"
  refine if_b (fun _=>?_) (fun z=>by cases z)
  walk_at "m"
  refine e_call hra.1 ?_
  walk_at "m"
  exact hra.2 d b _ _ _ _ (by exact o656 hm) hd (fun z=>h1 (by rw [z]; rfl)) fun z r=>ret_plain (h3 (by rw [z]; rfl) rfl r sto (Ext.refl _))
 | 2,_ =>
  have eb:badQ 2 b b'=!b:=by unfold badQ; cases b <;> cases b' <;> rfl
  rw [eb] at h1 h3
  walk_at "m"
  iterate 2 (refine if_b (fun z=>by cases z) (fun _=>?_); walk_at "m")
  refine if_b (fun _=>?_) (fun z=>by cases z)
  walk_at "m"
  refine e_call hgr.1 ?_
  walk_at "m"
  exact hgr.2 d b _ _ _ _ (by exact o657 hm) hd (fun z=>h1 (by rw [z]; rfl)) fun z r=>ret_plain (h3 (by rw [z]; rfl) rfl r sto (Ext.refl _))
 | 3,_ =>
  have eb:badQ 3 b b'=!b:=by unfold badQ; cases b <;> cases b' <;> rfl
  have et:((3:Nat)==3&&!allB xs)=!allB xs:=by cases allB xs <;> rfl
  rw [eb] at h1 h2 h3
  rw [et] at h2 h3
  walk_at "m"
  iterate 3 (refine if_b (fun z=>by cases z) (fun _=>?_); walk_at "m")
  refine e_call hap.1 ?_
  walk_at "m"
  exact hap.2 d b xs a false _ _ _ _ (by exact o657 hm) hd (fun x hx'=>(hx x hx').ro) (by exact lin [_] [] [.nl (.x 0) (.k 3)] [] (.nl (.x 0) (.k 10)) (.l 1 [1]) rfl lx) ha' (fun z=>h1 (by rw [z]; rfl)) (fun z z'=>h2 (by rw [z]; rfl) (by rw [z']; rfl)) fun z z' r l k hl=>ret_plain (h3 (by rw [z]; rfl) (by rw [z']; rfl) r sto (Ext.refl _))
theorem word_h (hS:Subs c) {n:Nat} {σ:St} {sto:Sto} {Q:D→Sto→Prop} {k:Nat} {e:Str} {a C:Addr} (he:e∈[nmRow,nmQuo,nmNou]) (hC:c.cls e=some C) (hk:kinds k=[.bool (e==nmRow),.bool (e==nmQuo),.bool (e==nmNou),.bool false]) (g5:σ.loc 5=some (.exc a e C)) (h:∀ l,sto l=none→Q (.lst l) (Sto.put sto l (.list true (kinds k)))):wSs c n false s_wordH (fun fl σ₂=>EndQ sto Q fl (σ₂.del 5)) noX σ:=by
 obtain ⟨hi,_,h2,h3,h4,h5⟩:=hS
 obtain ⟨e1,e2,e3,e4⟩:=h5 e he
 unfold s_wordH
 walk_at "m"
 refine ⟨hi,hC,h2,?_⟩
 walk_at "m"
 refine ⟨hi,hC,h3,?_⟩
 walk_at "m"
 refine ⟨hi,hC,h4,?_⟩
 walk_at "m"
 refine ⟨hi,hC,?_⟩
 walk_at "m"
 refine ⟨Nat.le_of_ble_eq_true rfl,fun l hl=>?_⟩
 walk_at "m"
 refine ret_list (xs:=kinds k) ?_ fun hb=>h l hb
 rw [hk]
 show Sto.put _ _ _ _=_
 rw [put_same]
 show some (Cell.list true [.bool (c.sub e nmRow),.bool (c.sub e nmQuo),.bool (c.sub e nmNou),.bool (!true)])=_
 rw [e2,e3,e4]
 rfl
theorem wordR_ok (hS:Subs c) (hr:RowsD c) {ps v:List Str} (hf:FnIs c (Str.ofString "_law_word") ps v s__law_word) (hps:ps.length=5):WordR c:=by
 refine ⟨hf.isFn,fun w d d' b b' e e' xs a o m sto Q X hm hw hd hd' he he' hx lx ha h=>?_⟩
 obtain ⟨n,rfl⟩:∃ n,m=n+1:=⟨m - 1,by exact o659 hm⟩
 refine fn_call CO EO RO hf hps.symm ?_
 unfold s__law_word
 have ha':=ro_at ha
 obtain ⟨CP,hP⟩:=hS.2.1
 refine g_cons (g_try1 hP ?_)
 walk_at "m"
 refine c_mix (b:=true) rfl ?_
 walk_at "m"
 refine if_b (fun _=>?_) (fun z=>by cases z)
 walk_at "m"
 refine e_call hr.1 ?_
 walk_at "m"
 refine hr.2 w d d' b b' e e' xs a false _ _ _ _ (by exact o660 hm) hw hd.ro hd'.ro he he' (fun x hx'=>(hx x hx').ro) lx ha' (fun z=>?_) (fun z z'=>?_) fun z z' r sto' hx'=>?_
 ·refine ⟨(hS.2.2.2.2.2 nmRow (by simp)).1,fun a C hC=>word_h CO EO RO hS (k:=1) (by simp) hC rfl rfl fun l hl=>?_⟩
  have:=h l hl
  unfold codeR at this
  rw [if_pos z] at this
  exact this
 ·refine ⟨(hS.2.2.2.2.2 nmNou (by simp)).1,fun a C hC=>word_h CO EO RO hS (k:=3) (by simp) hC rfl rfl fun l hl=>?_⟩
  have:=h l hl
  unfold codeR at this
  rw [if_neg (by rw [z]; decide),if_pos z'] at this
  exact this
 ·walk_at "m"
  refine ⟨Nat.le_of_ble_eq_true rfl,fun l hl=>?_⟩
  refine ret_list put_same fun hb=>?_
  have:=h l hb
  unfold codeR at this
  rw [if_neg (by rw [z]; decide),if_neg (by rw [z']; decide)] at this
  exact this
theorem wordQ_ok (hS:Subs c) (hr:QuosD c) {ps v:List Str} (hf:FnIs c (Str.ofString "_law_word") ps v s__law_word) (hps:ps.length=5):WordQ c:=by
 refine ⟨hf.isFn,fun w d d' b b' xs a o m sto Q X hm hw hd hd' hx lx ha h=>?_⟩
 obtain ⟨n,rfl⟩:∃ n,m=n+1:=⟨m - 1,by exact o659 hm⟩
 refine fn_call CO EO RO hf hps.symm ?_
 unfold s__law_word
 have ha':=ro_at ha
 obtain ⟨CP,hP⟩:=hS.2.1
 refine g_cons (g_try1 hP ?_)
 walk_at "m"
 refine c_mix (b:=false) (show some (Str.ofString "quotients"==Str.ofString "rows")=some false from congrArg some (by decide)) ?_
 walk_at "m"
 refine if_b (fun z=>by cases z) (fun _=>?_)
 walk_at "m"
 refine e_call hr.1 ?_
 walk_at "m"
 refine hr.2 w d d' b b' xs a false _ _ _ _ (by exact o660 hm) hw (hd.mono (lk_ro _)) (hd'.mono (lk_ro _)) (fun x hx'=>(hx x hx').ro) lx ha' (fun z=>?_) (fun z z'=>?_) fun z z' r sto' hx'=>?_
 ·refine ⟨(hS.2.2.2.2.2 nmQuo (by simp)).1,fun a C hC=>word_h CO EO RO hS (k:=2) (by simp) hC rfl rfl fun l hl=>?_⟩
  have:=h l hl
  unfold codeQ at this
  rw [if_pos z] at this
  exact this
 ·refine ⟨(hS.2.2.2.2.2 nmRow (by simp)).1,fun a C hC=>word_h CO EO RO hS (k:=1) (by simp) hC rfl rfl fun l hl=>?_⟩
  have:=h l hl
  unfold codeQ at this
  rw [if_neg (by rw [z]; decide),if_pos z'] at this
  exact this
 ·walk_at "m"
  refine ⟨Nat.le_of_ble_eq_true rfl,fun l hl=>?_⟩
  refine ret_list put_same fun hb=>?_
  have:=h l hb
  unfold codeQ at this
  rw [if_neg (by rw [z]; decide),if_neg (by rw [z']; decide)] at this
  exact this
end
end Mine
namespace Mine
open PySem
theorem c_nil {σ:St} {Q:D→St→Prop} {d:D} {e:Bool} (k:KnR σ.sto d) (he:e=true↔d=rowD []) (h:Q (.bool e) σ):opCmp .Eq d (.tup []) Q σ:=by
 have no:∀ {b:Bool},b=false→(∀ ds,d=.tup ds→ds≠[])→e=b:=fun {b} hb hd=>by
  rw [hb]
  cases hc:e with
  | false=>rfl
  | true=>exact absurd rfl (hd [] (he.mp hc))
 cases d with
 | tup ds =>
  cases ds with
  | nil=>rw [he.mpr rfl] at h; exact c_eqD (b:=true) rfl h
  | cons x xs=>rw [no rfl fun ds z=>by cases z; exact List.cons_ne_nil _ _] at h; exact c_eqD (b:=false) rfl h
 | exc=>exact (show False from k).elim
 | lst a =>
  rw [no rfl fun ds z=>by cases z] at h
  obtain ⟨o,ds,e⟩:=(show ∃ o ds,σ.sto a=some (.list o ds) from k)
  refine c_mix (b:=false) ?_ h
  show (match lstOf σ.sto a with | some _=>some false | none=>none)=_
  unfold lstOf
  rw [e]
 | none=>rw [no rfl fun ds z=>by cases z] at h; exact c_mix (b:=false) rfl h
 | bool _=>rw [no rfl fun ds z=>by cases z] at h; exact c_mix (b:=false) rfl h
 | int _=>rw [no rfl fun ds z=>by cases z] at h; exact c_mix (b:=false) rfl h
 | str _=>rw [no rfl fun ds z=>by cases z] at h; exact c_mix (b:=false) rfl h
theorem eq_kinds:∀ n,eqL (eqD 50) (kinds n) (kinds n)=some true
 | 0=>rfl
 | 1=>rfl
 | 2=>rfl
 | 3=>rfl
 | n+4=>by
  show some ((((n+4==1)==(n+4==1)))&&(((n+4==2)==(n+4==2))&&(((n+4==3)==(n+4==3))&&((false==false)&&true))))=_
  simp
noncomputable def s_rowsE:List S:=[.ret (.cmp .Eq (.call (Str.ofString "_law_word") [.cstr (Str.ofString "rows"),.var 3,.var 5,.var 6,.var 7]) (.var 8))]
noncomputable def s_rowsC:List S:=.ifs (.bool .Or [.cmp .Eq (.bin .Mod (.var 4) (.cint 2)) (.cint 1),.bool .And [.cmp .Gt (.var 4) (.cint 1),.cmp .Lt (.var 3) (.cint 6)],.bool .And [.cmp .Eq (.var 3) (.cint 5),.cmp .Gt (.bin .Mod (.idx (.var 0) (.cint 7)) (.cint 4)) (.cint 1)]]) [.assign 8 (.lst [.cbool true,.cbool false,.cbool false,.cbool false])] [] :: s_rowsE
noncomputable def s_rowsT:List S:=.assign 8 (.lst []) :: .ifs (.bool .Or [.bool .And [.cmp .Eq (.var 3) (.cint 5),.cmp .Eq (.var 5) (.tup [])],.bool .And [.cmp .In (.var 3) (.tup [.cint 2,.cint 4]),.cmp .Eq (.var 6) (.tup [])]]) [.assign 8 (.lst [.cbool false,.cbool false,.cbool true,.cbool false])] [] :: s_rowsC
theorem nth_ints {xs:List Int} {i:Nat} (h:i<xs.length):nth (xs.map D.int) (i:Int)=some (.int xs[i]):=by
 rw [nth_at (by rw [List.length_map]; exact h),List.getElem_map]
noncomputable def RowsS (σ:St) (w u:Nat) (v:Int) (ax a:Addr) (o:Bool) (xs:List Int) (one two:D) (b b' e e':Bool) (tl:List (D×Bool)):Prop :=
 (σ.loc 0=some (.lst ax))∧
 (∃ o,σ.sto ax=some (.list o (xs.map D.int)))∧
 (xs.length=9)∧
 (∀ h:7<xs.length,(xs[7]'h).fmod 4=v)∧
 (σ.loc 3=some (.int w))∧
 (σ.loc 4=some (.int u))∧
 (σ.loc 5=some one)∧
 (σ.loc 6=some two)∧
 (σ.loc 7=some (.lst a))∧
 (w≤6)∧
 (Stt σ.sto one b)∧
 (Stt σ.sto two b')∧
 (e=true↔one=rowD [])∧
 (e'=true↔two=rowD [])∧
 (Tld σ.sto tl)∧
 (tl.length≤3)∧
 (σ.sto a=some (.list o (tl.map (·.1))))∧
 (b=!((u:Int).fmod 2==1))∧
 (b'=!(decide ((u:Int) > 1)))∧
 (allB tl=!(decide (v > 1)))
section
variable {σ:St} {w u:Nat} {v:Int} {ax a:Addr} {o:Bool} {xs:List Int} {one two:D} {b b' e e':Bool} {tl:List (D×Bool)} (h_:RowsS σ w u v ax a o xs one two b b' e e' tl)
include h_
theorem RowsS.g0:σ.loc 0=some (.lst ax):=h_.1
theorem RowsS.sx:∃ o,σ.sto ax=some (.list o (xs.map D.int)):=h_.2.1
theorem RowsS.lx:xs.length=9:=h_.2.2.1
theorem RowsS.hv:∀ h:7<xs.length,(xs[7]'h).fmod 4=v:=h_.2.2.2.1
theorem RowsS.g3:σ.loc 3=some (.int w):=h_.2.2.2.2.1
theorem RowsS.g4:σ.loc 4=some (.int u):=h_.2.2.2.2.2.1
theorem RowsS.g5:σ.loc 5=some one:=h_.2.2.2.2.2.2.1
theorem RowsS.g6:σ.loc 6=some two:=h_.2.2.2.2.2.2.2.1
theorem RowsS.g7:σ.loc 7=some (.lst a):=h_.2.2.2.2.2.2.2.2.1
theorem RowsS.hw:w≤6:=h_.2.2.2.2.2.2.2.2.2.1
theorem RowsS.hd:Stt σ.sto one b:=h_.2.2.2.2.2.2.2.2.2.2.1
theorem RowsS.hd':Stt σ.sto two b':=h_.2.2.2.2.2.2.2.2.2.2.2.1
theorem RowsS.he:e=true↔one=rowD []:=h_.2.2.2.2.2.2.2.2.2.2.2.2.1
theorem RowsS.he':e'=true↔two=rowD []:=h_.2.2.2.2.2.2.2.2.2.2.2.2.2.1
theorem RowsS.ht:Tld σ.sto tl:=h_.2.2.2.2.2.2.2.2.2.2.2.2.2.2.1
theorem RowsS.lt:tl.length≤3:=h_.2.2.2.2.2.2.2.2.2.2.2.2.2.2.2.1
theorem RowsS.sa:σ.sto a=some (.list o (tl.map (·.1))):=h_.2.2.2.2.2.2.2.2.2.2.2.2.2.2.2.2.1
theorem RowsS.hb:b=!((u:Int).fmod 2==1):=h_.2.2.2.2.2.2.2.2.2.2.2.2.2.2.2.2.2.1
theorem RowsS.hb':b'=!(decide ((u:Int) > 1)):=h_.2.2.2.2.2.2.2.2.2.2.2.2.2.2.2.2.2.2.1
theorem RowsS.hbt:allB tl=!(decide (v > 1)):=h_.2.2.2.2.2.2.2.2.2.2.2.2.2.2.2.2.2.2.2
end
theorem RowsS.put {σ:St} {w u:Nat} {v:Int} {ax a:Addr} {o:Bool} {xs:List Int} {one two:D} {b b' e e':Bool} {tl:List (D×Bool)} (S:RowsS σ w u v ax a o xs one two b b' e e' tl) {l:Addr} (hl:σ.sto l=none) {k:List D} {d:D}:RowsS ((σ.put l (.list true k)).set 8 d) w u v ax a o xs one two b b' e e' tl:=by
 have up:Lk σ.sto (σ.put l (.list true k)).sto:=fun a o ds e=>⟨o,ds,put_old hl e⟩
 obtain ⟨ox,sx⟩:=S.sx
 exact ⟨S.g0,⟨ox,put_old hl sx⟩,S.lx,S.hv,S.g3,S.g4,S.g5,S.g6,S.g7,S.hw,S.hd.mono up,S.hd'.mono up,S.he,S.he',fun x hx=>(S.ht x hx).mono up,S.lt,put_old hl S.sa,S.hb,S.hb',S.hbt⟩
section
variable {c:Cx} (CO:CxOK c) (EO:ExcOK c) (RO:RzOK c)
include CO EO RO
theorem rows_end (hw:WordR c) {n:Nat} (hm:14≤n) {σ:St} {sto:Sto} {Q:D→Sto→Prop} {X:Str→St→Prop} {w u:Nat} {v:Int} {ax a l8:Addr} {o:Bool} {xs:List Int} {one two:D} {b b' e e':Bool} {tl:List (D×Bool)} (S:RowsS σ w u v ax a o xs one two b b' e e' tl) (g8:σ.loc 8=some (.lst l8)) (s8:σ.sto l8=some (.list true (kinds (codeR w b b' (allB tl) e e')))) (h:Q (.bool true) sto):wSs c n true s_rowsE (EndQ sto Q) X σ:=by
 obtain ⟨g0,sx,lx,hv,g3,g4,g5,g6,g7,hw6,hd,hd',he,he',ht,lt,sa,hb,hb',hbt⟩:=S
 unfold s_rowsE
 walk_at "m"
 refine e_call hw.1 ?_
 walk_at "m"
 refine hw.2 w one two b b' e e' tl a o _ _ _ _ hm hw6 hd hd' he he' ht lt sa fun l hl=>?_
 walk_at "m"
 refine c_eqD ((eqTop_lst put_same (put_old hl s8)).trans (eq_kinds _)) ?_
 exact ret_plain h
theorem rows_c2 (hw:WordR c) {n:Nat} (hm:14≤n) {σ:St} {sto:Sto} {Q:D→Sto→Prop} {X:Str→St→Prop} {w u:Nat} {v:Int} {ax a l8:Addr} {o:Bool} {xs:List Int} {one two:D} {b b' e e':Bool} {tl:List (D×Bool)} (S:RowsS σ w u v ax a o xs one two b b' e e' tl) (g8:σ.loc 8=some (.lst l8)) (s8:σ.sto l8=some (.list true (kinds (if nouR w e e'=true then 3 else 0)))) (h:Q (.bool true) sto):wSs c n true s_rowsC (EndQ sto Q) X σ:=by
 have T:badR w b b' (allB tl)=true→wSs c n true [.assign 8 (.lst [.cbool true,.cbool false,.cbool false,.cbool false])] (fun fl σ₁=>match fl with | .next=>wSs c n true s_rowsE (EndQ sto Q) X σ₁ | fl=>EndQ sto Q fl σ₁) X σ:=fun hb=>by
  walk_at "m"
  refine ⟨Nat.le_of_ble_eq_true rfl,fun l hl=>?_⟩
  walk_at "m"
  refine rows_end CO EO RO hw hm (S.put hl) (l8:=l) rfl ?_ h
  unfold codeR
  rw [if_pos hb]
  exact put_same
 have F:badR w b b' (allB tl)=false→wSs c n true [] (fun fl σ₁=>match fl with | .next=>wSs c n true s_rowsE (EndQ sto Q) X σ₁ | fl=>EndQ sto Q fl σ₁) X σ:=fun hb=>by
  show wSs c n true s_rowsE (EndQ sto Q) X σ
  refine rows_end CO EO RO hw hm S g8 ?_ h
  unfold codeR
  rw [if_neg (by rw [hb]; exact Bool.false_ne_true)]
  exact s8
 obtain ⟨g0,⟨ox,sx⟩,lx,hv,g3,g4,g5,g6,g7,hw6,hd,hd',he,he',ht,lt,sa,hb,hb',hbt⟩:=S
 have c1:((u:Int).fmod 2==1)=!b:=by rw [hb,Bool.not_not]
 have c2:decide ((u:Int) > 1)=!b':=by rw [hb',Bool.not_not]
 have c3:decide (v > 1)=!allB tl:=by rw [hbt,Bool.not_not]
 have c4:decide ((w:Int)<6)=decide (w<6):=decide_eq_decide.mpr (by exact o661 hw6)
 have c5:((w:Int)==5)=(w==5):=by
  cases hc:(w==5) with
  | true=>rw [beq_iff_eq.mp hc]; rfl
  | false=>exact beq_eq_false_iff_ne.mpr fun z=>beq_eq_false_iff_ne.mp hc (by exact linN [_] [] [.ie (.c (.x 0)) (.k 5)] [] (.x 0) (.k 5) (.l 1 [1]) (.l 1 [-1]) rfl z)
 have third:∀ (r:Bool),(!b || (decide (w<6)&&!b'))=false→wTs c n true .Or [.bool .And [.cmp .Eq (.var 3) (.cint 5),.cmp .Gt (.bin .Mod (.idx (.var 0) (.cint 7)) (.cint 4)) (.cint 1)]] (fun r σ₁=>if r=true then wSs c n true [.assign 8 (.lst [.cbool true,.cbool false,.cbool false,.cbool false])] (fun fl σ₁=>match fl with | .next=>wSs c n true s_rowsE (EndQ sto Q) X σ₁ | fl=>EndQ sto Q fl σ₁) X σ₁ else wSs c n true [] (fun fl σ₁=>match fl with | .next=>wSs c n true s_rowsE (EndQ sto Q) X σ₁ | fl=>EndQ sto Q fl σ₁) X σ₁) X σ:=fun r h12=>by
  have F':(w==5&&!allB tl)=false→badR w b b' (allB tl)=false:=fun z=>by unfold badR; rw [h12,z]; rfl
  have T':(w==5&&!allB tl)=true→badR w b b' (allB tl)=true:=fun z=>by unfold badR; rw [z,Bool.or_true]
  walk_at "m"
  rw [c5]
  refine if_and (fun z=>?_) fun z=>?_
  ·rw [z]
   refine if_or (fun y=>by cases y) fun _=>?_
   walk_at "m"
   refine if_b (fun y=>by cases y) fun _=>F (F' (by rw [z]; rfl))
  ·walk_at "m"
   refine i_lst sx (by exact Mine.mlim (by exact o663 lx)) (nth_ints (i:=7) (by exact o664 lx)) ?_
   walk_at "m"
   refine o_mod (by decide) ?_
   rw [hv]
   walk_at "m"
   rw [c3]
   have e5:(w==5&&!allB tl)=!allB tl:=by rw [z]; rfl
   refine if_and (fun y=>?_) fun y=>?_
   ·rw [y]
    refine if_or (fun y=>by cases y) fun _=>?_
    walk_at "m"
    refine if_b (fun y=>by cases y) fun _=>F (F' (by rw [e5,y]))
   ·walk_at "m"
    refine if_or (fun _=>?_) fun y=>by cases y
    exact if_b (fun _=>T (T' (by rw [e5,y]))) fun y=>by cases y
 unfold s_rowsC
 walk_at "m"
 refine o_mod (by decide) ?_
 walk_at "m"
 rw [c1]
 refine if_or (fun z=>?_) fun z=>?_
 ·rw [z]
  refine if_b (fun _=>T (by unfold badR; rw [z]; rfl)) fun y=>by cases y
 ·walk_at "m"
  rw [c2]
  refine if_and (fun y=>?_) fun y=>?_
  ·rw [y]
   refine if_or (fun y=>by cases y) fun _=>?_
   exact third true (by rw [z,y,Bool.and_false]; rfl)
  ·walk_at "m"
   rw [c4]
   refine if_and (fun x=>?_) fun x=>?_
   ·rw [x]
    refine if_or (fun y=>by cases y) fun _=>?_
    exact third true (by rw [z,x]; rfl)
   ·walk_at "m"
    refine if_or (fun _=>?_) fun y=>by cases y
    exact if_b (fun _=>T (by unfold badR; rw [x,y,Bool.true_and,Bool.or_true]; rfl)) fun y=>by cases y
end
end Mine
namespace Mine
open PySem
theorem w_eq {w k:Nat}:((w:Int)==(k:Int))=(w==k):=by
 cases hc:(w==k) with
 | true=>rw [beq_iff_eq.mp hc]; exact beq_self_eq_true _
 | false=>exact beq_eq_false_iff_ne.mpr fun z=>beq_eq_false_iff_ne.mp hc (by exact o119 z)
section
variable {c:Cx} (CO:CxOK c) (EO:ExcOK c) (RO:RzOK c)
include CO EO RO
theorem rows_c1 (hw:WordR c) {n:Nat} (hm:14≤n) {σ:St} {sto:Sto} {Q:D→Sto→Prop} {X:Str→St→Prop} {w u:Nat} {v:Int} {ax a:Addr} {o:Bool} {xs:List Int} {one two:D} {b b' e e':Bool} {tl:List (D×Bool)} (S:RowsS σ w u v ax a o xs one two b b' e e' tl) (h:Q (.bool true) sto):wSs c n true s_rowsT (EndQ sto Q) X σ:=by
 unfold s_rowsT
 walk_at "m"
 refine ⟨Nat.le_of_ble_eq_true rfl,fun l hl=>?_⟩
 walk_at "m"
 have S:=S.put hl (k:=[]) (d:=.lst l)
 have s8:((σ.put l (.list true [])).set 8 (.lst l)).sto l=some (.list true []):=put_same
 have g8:((σ.put l (.list true [])).set 8 (.lst l)).loc 8=some (.lst l):=rfl
 generalize (σ.put l (.list true [])).set 8 (.lst l)=τ at S s8 g8 ⊢
 have T:nouR w e e'=true→wSs c n true [.assign 8 (.lst [.cbool false,.cbool false,.cbool true,.cbool false])] (fun fl σ₁=>match fl with | .next=>wSs c n true s_rowsC (EndQ sto Q) X σ₁ | fl=>EndQ sto Q fl σ₁) X τ:=fun hb=>by
  walk_at "m"
  refine ⟨Nat.le_of_ble_eq_true rfl,fun l' hl'=>?_⟩
  walk_at "m"
  refine rows_c2 CO EO RO hw hm (S.put hl') (l8:=l') rfl ?_ h
  rw [if_pos hb]
  exact put_same
 have F:nouR w e e'=false→wSs c n true [] (fun fl σ₁=>match fl with | .next=>wSs c n true s_rowsC (EndQ sto Q) X σ₁ | fl=>EndQ sto Q fl σ₁) X τ:=fun hb=>by
  show wSs c n true s_rowsC (EndQ sto Q) X τ
  refine rows_c2 CO EO RO hw hm S g8 ?_ h
  rw [if_neg (by rw [hb]; exact Bool.false_ne_true)]
  exact s8
 obtain ⟨g0,⟨ox,sx⟩,lx,hv,g3,g4,g5,g6,g7,hw6,hd,hd',he,he',ht,lt,sa,hb,hb',hbt⟩:=S
 have c5:((w:Int)==5)=(w==5):=w_eq
 have c2:([2,4].any fun (j:Int)=>j==(w:Int))=(w==2 || w==4):=by
  show (((2:Int)==(w:Int)) || (((4:Int)==(w:Int)) || false))=_
  rw [Bool.or_false,Bool.beq_comm (a:=(2:Int)),Bool.beq_comm (a:=(4:Int)),show ((w:Int)==2)=(w==2) from w_eq,show ((w:Int)==4)=(w==4) from w_eq]
 have second:(w==5&&e)=false→wTs c n true .Or [.bool .And [.cmp .In (.var 3) (.tup [.cint 2,.cint 4]),.cmp .Eq (.var 6) (.tup [])]] (fun r σ₁=>if r=true then wSs c n true [.assign 8 (.lst [.cbool false,.cbool false,.cbool true,.cbool false])] (fun fl σ₁=>match fl with | .next=>wSs c n true s_rowsC (EndQ sto Q) X σ₁ | fl=>EndQ sto Q fl σ₁) X σ₁ else wSs c n true [] (fun fl σ₁=>match fl with | .next=>wSs c n true s_rowsC (EndQ sto Q) X σ₁ | fl=>EndQ sto Q fl σ₁) X σ₁) X τ:=fun h12=>by
  have en:nouR w e e'=((w==2 || w==4)&&e'):=by unfold nouR; rw [h12]; rfl
  walk_at "m"
  refine ⟨Nat.le_of_ble_eq_true rfl,?_⟩
  refine c_in (js:=[2,4]) ?_
  rw [c2]
  walk_at "m"
  refine if_and (fun z=>?_) fun z=>?_
  ·rw [z]
   refine if_or (fun y=>by cases y) fun _=>?_
   walk_at "m"
   exact if_b (fun y=>by cases y) fun _=>F (by rw [en,z]; rfl)
  ·walk_at "m"
   refine ⟨Nat.le_of_ble_eq_true rfl,?_⟩
   refine c_nil hd'.1 he' ?_
   walk_at "m"
   refine if_and (fun y=>?_) fun y=>?_
   ·rw [y]
    refine if_or (fun y=>by cases y) fun _=>?_
    walk_at "m"
    exact if_b (fun y=>by cases y) fun _=>F (by rw [en,y,Bool.and_false])
   ·walk_at "m"
    refine if_or (fun _=>?_) fun y=>by cases y
    exact if_b (fun _=>T (by rw [en,z,y]; rfl)) fun y=>by cases y
 walk_at "m"
 rw [c5]
 refine if_and (fun z=>?_) fun z=>?_
 ·rw [z]
  refine if_or (fun y=>by cases y) fun _=>?_
  exact second (by rw [z]; rfl)
 ·walk_at "m"
  refine ⟨Nat.le_of_ble_eq_true rfl,?_⟩
  refine c_nil hd.1 he ?_
  walk_at "m"
  refine if_and (fun y=>?_) fun y=>?_
  ·rw [y]
   refine if_or (fun y=>by cases y) fun _=>?_
   exact second (by rw [y,Bool.and_false])
  ·walk_at "m"
   refine if_or (fun _=>?_) fun y=>by cases y
   exact if_b (fun _=>T (by unfold nouR; rw [z,y]; rfl)) fun y=>by cases y
end
end Mine
namespace Mine
open PySem
noncomputable def s_rows7:List S:=.assign 7 (.idx (.lst [.lst [],.lst [.var 1],.lst [.call (Str.ofString "_law_wrong_row") [.idx (.var 0) (.cint 6),.var 2]],.lst [.var 2,.call (Str.ofString "_law_wrong_row") [.idx (.var 0) (.cint 6),.var 1]]]) (.bin .Mod (.idx (.var 0) (.cint 7)) (.cint 4))) :: s_rowsT
noncomputable def s__law_of_rows:List S :=
  .assign 3 (.bin .Mod (.idx (.var 0) (.cint 1)) (.cint 7)) ::
  .assign 4 (.bin .Mod (.idx (.var 0) (.cint 2)) (.cint 4)) ::
  .assign 5 (.idx (.lst [.var 1,.call (Str.ofString "_law_wrong_row") [.idx (.var 0) (.cint 3),.var 1]]) (.bin .Mod (.var 4) (.cint 2))) ::
  .assign 6 (.idx (.lst [.var 2,.call (Str.ofString "_law_wrong_row") [.idx (.var 0) (.cint 4),.var 2]]) (.bin .FloorDiv (.var 4) (.cint 2))) ::
  .ifs (.cmp .Eq (.bin .Mod (.idx (.var 0) (.cint 5)) (.cint 4)) (.cint 0)) [.assign 6 (.idx (.lst [.tup [],.var 6]) (.blt .int [.cmp .Gt (.var 4) (.cint 1)]))] [] ::
  s_rows7
noncomputable def OfR (c:Cx):Prop:=IsFn c (Str.ofString "_law_of_rows")∧∀ (xs:List Int) (p q:List Rat) (ax:Addr) (o:Bool) (m:Nat) (sto:Sto) (Q:D→Sto→Prop) (X:Str→Prop),15≤m→Rr p→Rr q→xs.length=9→sto ax=some (.list o (xs.map D.int))→Q (.bool true) sto→CallOK c m (Str.ofString "_law_of_rows") [.lst ax,rowD p,rowD q] sto Q X
theorem Rr.gd {p:List Rat} (h:Rr p):Gd p:=⟨h.1,by have:=h.2.1; exact lin [_] [] [.nl (.x 0) (.k 4)] [] (.nl (.x 0) (.k 6)) (.l 1 [1]) rfl this,rc_of h.2.2 (by have:=h.2.1; exact lin [_] [] [.nl (.x 0) (.k 4)] [] (.nl (.a (.m 20 (.x 0)) (.k 1)) (.k 130)) (.l 1 [20]) rfl this)⟩
noncomputable def Up1 (s t:Sto):Prop:=∀ b k,s b=some k→t b=some k
theorem Up1.lk {s t:Sto} (h:Up1 s t):Lk s t:=fun a o ds e=>⟨o,ds,h _ _ e⟩
theorem Up1.trans {s t u:Sto} (h:Up1 s t) (k:Up1 t u):Up1 s u:=fun b x e=>k b x (h b x e)
theorem up_put {s:Sto} {l:Addr} (hl:s l=none) {k:Cell}:Up1 s (Sto.put s l k):=fun b x e=>put_old hl e
theorem nilB (d:D):∃ e:Bool,e=true↔d=rowD []:=by
 by_cases h:d=rowD []
 ·exact ⟨true,fun _=>h,fun _=>rfl⟩
 ·exact ⟨false,fun z=>(by cases z),fun z=>absurd z h⟩
theorem pickS {τ:Sto} {x y:D} (hx:Stt τ x true) (hy:Stt τ y false):∀ {i:Nat},i<2→∃ d b,nth [x,y] (i:Int)=some d∧Stt τ d b∧b=!((i:Int)==1)
 | 0,_=>⟨x,true,rfl,hx,rfl⟩
 | 1,_=>⟨y,false,rfl,hy,rfl⟩
 | n+2,h=>absurd h (by exact o667 h)
theorem pick4 {τ:Sto} {a b c d:Addr} {r q x y:D} (ha:τ a=some (.list true [])) (hb:τ b=some (.list true [r])) (hc:τ c=some (.list true [x])) (hd:τ d=some (.list true [q,y])) (sr:Stt τ r true) (sq:Stt τ q true) (sx:Stt τ x false) (sy:Stt τ y false):∀ {v:Nat},v<4→∃ (l:Addr) (tl:List (D×Bool)),nth [D.lst a,.lst b,.lst c,.lst d] (v:Int)=some (.lst l)∧τ l=some (.list true (tl.map (·.1)))∧Tld τ tl∧tl.length≤3∧allB tl=!(decide ((v:Int) > 1))
 | 0,_=>⟨a,[],rfl,ha,(fun z hz=>by cases hz),by simp,rfl⟩
 | 1,_=>⟨b,[(r,true)],rfl,hb,(fun z hz=>by rw [List.mem_singleton.mp hz]; exact sr),by simp,rfl⟩
 | 2,_=>⟨c,[(x,false)],rfl,hc,(fun z hz=>by rw [List.mem_singleton.mp hz]; exact sx),by simp,rfl⟩
 | 3,_=>⟨d,[(q,true),(y,false)],rfl,hd,(fun z hz=>by
   rcases List.mem_cons.mp hz with rfl | hz
   ·exact sq
   ·rw [List.mem_singleton.mp hz]; exact sy),by simp,rfl⟩
 | n+4,h=>absurd h (by exact o668 h)
section
variable {c:Cx} (CO:CxOK c) (EO:ExcOK c) (RO:RzOK c)
include CO EO RO
theorem rows_7 (hw:WordR c) (hwr:WrongOK c) {n:Nat} (hm:14≤n) {σ:St} {sto:Sto} {Q:D→Sto→Prop} {X:Str→St→Prop} {w u:Nat} {ax:Addr} {o:Bool} {xs:List Int} {p q:List Rat} {one two:D} {b b':Bool} (hp:Rr p) (hq:Rr q) (g0:σ.loc 0=some (.lst ax)) (sx:σ.sto ax=some (.list o (xs.map D.int))) (lx:xs.length=9) (g1:σ.loc 1=some (rowD p)) (g2:σ.loc 2=some (rowD q)) (g3:σ.loc 3=some (.int w)) (g4:σ.loc 4=some (.int u)) (g5:σ.loc 5=some one) (g6:σ.loc 6=some two) (hw6:w≤6) (hd:Stt σ.sto one b) (hd':Stt σ.sto two b') (hb:b=!((u:Int).fmod 2==1)) (hb':b'=!(decide ((u:Int) > 1))) (h:Q (.bool true) sto):wSs c n true s_rows7 (EndQ sto Q) X σ:=by
 have lim':(xs.map D.int).length≤lim:=by exact Mine.mlim (by exact o663 lx)
 unfold s_rows7
 walk_at "m"
 refine ⟨Nat.le_of_ble_eq_true rfl,fun la hla=>?_⟩
 walk_at "m"
 refine ⟨Nat.le_of_ble_eq_true rfl,fun lb hlb=>?_⟩
 walk_at "m"
 have U1:Up1 σ.sto (Sto.put (Sto.put σ.sto la (.list true [])) lb (.list true [rowD p])):=(up_put hla).trans (up_put hlb)
 refine e_call hwr.1 ?_
 walk_at "m"
 refine i_lst (U1 _ _ sx) lim' (nth_ints (i:=6) (by exact o669 lx)) ?_
 walk_at "m"
 refine hwr.2 _ q _ _ _ _ (by exact o670 hm) (by have:=hq.2.1; exact o671 this) fun dx s1 hx1 wx=>?_
 walk_at "m"
 refine ⟨Nat.le_of_ble_eq_true rfl,fun lc hlc=>?_⟩
 walk_at "m"
 have U2:Up1 σ.sto (Sto.put s1 lc (.list true [dx])):=(U1.trans hx1.1).trans (up_put hlc)
 refine e_call hwr.1 ?_
 walk_at "m"
 refine i_lst (U2 _ _ sx) lim' (nth_ints (i:=6) (by exact o669 lx)) ?_
 walk_at "m"
 refine hwr.2 _ p _ _ _ _ (by exact o670 hm) (by have:=hp.2.1; exact o671 this) fun dy s2 hx2 wy=>?_
 walk_at "m"
 refine ⟨Nat.le_of_ble_eq_true rfl,fun ld hld=>?_⟩
 walk_at "m"
 refine ⟨Nat.le_of_ble_eq_true rfl,fun l7 hl7=>?_⟩
 walk_at "m"
 have V3:Up1 (Sto.put s1 lc (.list true [dx])) (Sto.put (Sto.put s2 ld (.list true [rowD q,dy])) l7 (.list true [.lst la,.lst lb,.lst lc,.lst ld])):=Up1.trans hx2.1 ((up_put hld).trans (up_put hl7))
 have U3:=U2.trans V3
 have V2:Up1 s2 (Sto.put (Sto.put s2 ld (.list true [rowD q,dy])) l7 (.list true [.lst la,.lst lb,.lst lc,.lst ld])):=(up_put hld).trans (up_put hl7)
 have W1:Up1 (Sto.put (Sto.put σ.sto la (.list true [])) lb (.list true [rowD p])) (Sto.put (Sto.put s2 ld (.list true [rowD q,dy])) l7 (.list true [.lst la,.lst lb,.lst lc,.lst ld])):=(Up1.trans hx1.1 (up_put hlc)).trans V3
 refine i_lst (U3 _ _ sx) lim' (nth_ints (i:=7) (by exact o664 lx)) ?_
 walk_at "m"
 refine o_mod (by decide) ?_
 obtain ⟨v,hv,ev⟩:=fmod_lt (a:=xs[7]) (m:=4) (by exact o672)
 rw [show (xs[7]).fmod 4=(v:Int) from ev]
 obtain ⟨l,tl,e1,e2,e3,e4,e5⟩:=pick4 (W1 _ _ (put_old hlb put_same)) (W1 _ _ put_same) (V3 _ _ put_same) (put_old hl7 put_same) (stt_row hp.gd) (stt_row hq.gd) ((stt_wrong wx).mono (((up_put hlc).trans V3).lk)) ((stt_wrong wy).mono V2.lk) hv
 refine i_lst put_same (Nat.le_of_ble_eq_true rfl) e1 ?_
 walk_at "m"
 obtain ⟨e,he⟩:=nilB one
 obtain ⟨e',he'⟩:=nilB two
 exact rows_c1 CO EO RO hw hm ⟨g0,⟨o,U3 _ _ sx⟩,lx,fun _=>ev,g3,g4,g5,g6,rfl,hw6,hd.mono U3.lk,hd'.mono U3.lk,he,he',e3,e4,e2,hb,hb',e5⟩ h
theorem ofR_ok (hw:WordR c) (hwr:WrongOK c) {ps v:List Str} (hf:FnIs c (Str.ofString "_law_of_rows") ps v s__law_of_rows) (hps:ps.length=3):OfR c:=by
 refine ⟨hf.isFn,fun xs p q ax o m sto Q X hm hp hq lx sx h=>?_⟩
 obtain ⟨n,rfl⟩:∃ n,m=n+1:=⟨m - 1,by exact o673 hm⟩
 refine fn_call CO EO RO hf hps.symm ?_
 unfold s__law_of_rows
 have lim':(xs.map D.int).length≤lim:=by exact Mine.mlim (by exact o663 lx)
 have sx:=ro_at sx
 walk_at "m"
 refine i_lst sx lim' (nth_ints (i:=1) (by exact o674 lx)) ?_
 walk_at "m"
 refine o_mod (by decide) ?_
 obtain ⟨w,hw7,ew⟩:=fmod_lt (a:=xs[1]) (m:=7) (by exact lin [] [] [] [] (.nt (.k 0) (.k 7)) (.l 1 []) rfl)
 rw [show (xs[1]).fmod 7=(w:Int) from ew]
 walk_at "m"
 refine i_lst sx lim' (nth_ints (i:=2) (by exact o676 lx)) ?_
 walk_at "m"
 refine o_mod (by decide) ?_
 obtain ⟨u,hu,eu⟩:=fmod_lt (a:=xs[2]) (m:=4) (by exact o672)
 rw [show (xs[2]).fmod 4=(u:Int) from eu]
 walk_at "m"
 refine e_call hwr.1 ?_
 walk_at "m"
 refine i_lst sx lim' (nth_ints (i:=3) (by exact o677 lx)) ?_
 walk_at "m"
 refine hwr.2 _ p _ _ _ _ (by exact o678 hm) (by have:=hp.2.1; exact o671 this) fun dx s1 hx1 wx=>?_
 walk_at "m"
 refine ⟨Nat.le_of_ble_eq_true rfl,fun l5 hl5=>?_⟩
 walk_at "m"
 refine o_mod (by decide) ?_
 obtain ⟨i1,hi1,ei1⟩:=fmod_lt (a:=(u:Int)) (m:=2) (by exact o679)
 rw [show (u:Int).fmod 2=(i1:Int) from ei1]
 obtain ⟨one,b,eo,so,hb⟩:=pickS (τ:=s1) (stt_row hp.gd) (stt_wrong wx) hi1
 refine i_lst put_same (Nat.le_of_ble_eq_true rfl) eo ?_
 walk_at "m"
 have U1:Up1 (Sto.ro sto) (Sto.put s1 l5 (.list true [rowD p,dx])):=Up1.trans hx1.1 (up_put hl5)
 refine e_call hwr.1 ?_
 walk_at "m"
 refine i_lst (U1 _ _ sx) lim' (nth_ints (i:=4) (by exact o680 lx)) ?_
 walk_at "m"
 refine hwr.2 _ q _ _ _ _ (by exact o678 hm) (by have:=hq.2.1; exact o671 this) fun dy s2 hx2 wy=>?_
 walk_at "m"
 refine ⟨Nat.le_of_ble_eq_true rfl,fun l6 hl6=>?_⟩
 walk_at "m"
 refine o_fdiv (by decide) ?_
 obtain ⟨i2,hi2,ei2,hu2⟩:∃ i2:Nat,i2<2∧(u:Int).fdiv 2=(i2:Int)∧decide ((u:Int) > 1)=((i2:Int)==1):=by
  match u,hu with
  | 0,_=>exact ⟨0,by exact o679,rfl,rfl⟩
  | 1,_=>exact ⟨0,by exact o679,rfl,rfl⟩
  | 2,_=>exact ⟨1,by exact o681,rfl,rfl⟩
  | 3,_=>exact ⟨1,by exact o681,rfl,rfl⟩
 rw [ei2]
 obtain ⟨two,b',et,st,hb'⟩:=pickS (τ:=s2) (stt_row hq.gd) (stt_wrong wy) hi2
 refine i_lst put_same (Nat.le_of_ble_eq_true rfl) et ?_
 walk_at "m"
 have U2:Up1 (Sto.put s1 l5 (.list true [rowD p,dx])) (Sto.put s2 l6 (.list true [rowD q,dy])):=Up1.trans hx2.1 (up_put hl6)
 have hb2:b=!((u:Int).fmod 2==1):=by rw [show (u:Int).fmod 2=(i1:Int) from ei1]; exact hb
 have hb3:b'=!(decide ((u:Int) > 1)):=by rw [hu2]; exact hb'
 have so':Stt (Sto.put s2 l6 (.list true [rowD q,dy])) one b:=so.mono (((up_put hl5).trans U2).lk)
 have st':Stt (Sto.put s2 l6 (.list true [rowD q,dy])) two b':=st.mono (Up1.lk (up_put hl6))
 refine i_lst ((U1.trans U2) _ _ sx) lim' (nth_ints (i:=5) (by exact o682 lx)) ?_
 walk_at "m"
 refine o_mod (by decide) ?_
 walk_at "m"
 refine if_b (fun _=>?_) fun _=>?_
 ·walk_at "m"
  refine ⟨Nat.le_of_ble_eq_true rfl,?_⟩
  walk_at "m"
  refine ⟨Nat.le_of_ble_eq_true rfl,fun l8 hl8=>?_⟩
  walk_at "m"
  obtain ⟨two',et',st2⟩:∃ two',nth [D.tup [],two] (if decide ((u:Int) > 1)=true then 1 else 0)=some two'∧Stt (Sto.put s2 l6 (.list true [rowD q,dy])) two' b':=by
   rw [hb3] at st' ⊢
   cases hc:decide ((u:Int) > 1) with
   | true=>rw [hc] at st'; exact ⟨two,rfl,st'⟩
   | false=>exact ⟨rowD [],rfl,stt_row ⟨.inl rfl,by simp,RC.none (by exact o636)⟩⟩
  refine f_int ?_
  refine i_lst put_same (Nat.le_of_ble_eq_true rfl) et' ?_
  walk_at "m"
  exact rows_7 CO EO RO hw hwr (by exact o683 hm) (o:=false) hp hq rfl (up_put hl8 _ _ ((U1.trans U2) _ _ sx)) lx rfl rfl rfl rfl rfl rfl (by exact o684 hw7) (so'.mono (Up1.lk (up_put hl8))) (st2.mono (Up1.lk (up_put hl8))) hb2 hb3 h
 ·walk_at "m"
  exact rows_7 CO EO RO hw hwr (by exact o683 hm) (o:=false) hp hq rfl ((U1.trans U2) _ _ sx) lx rfl rfl rfl rfl rfl rfl (by exact o684 hw7) so' st' hb2 hb3 h
end
end Mine
namespace Mine
open PySem
noncomputable def s_quoE:List S:=[.ret (.cmp .Eq (.call (Str.ofString "_law_word") [.cstr (Str.ofString "quotients"),.var 3,.var 6,.var 7,.var 8]) (.var 9))]
noncomputable def s_quoC:List S:=.ifs (.bool .Or [.cmp .Eq (.bin .Mod (.var 4) (.cint 2)) (.cint 1),.bool .And [.cmp .Gt (.var 4) (.cint 1),.cmp .Eq (.var 3) (.cint 0)]]) [.assign 9 (.lst [.cbool false,.cbool true,.cbool false,.cbool false])] [] :: s_quoE
noncomputable def s_quoT:List S:=.assign 9 (.lst []) :: .ifs (.bool .And [.cmp .Eq (.var 3) (.cint 3),.cmp .Gt (.bin .Mod (.idx (.var 0) (.cint 7)) (.cint 4)) (.cint 1)]) [.assign 9 (.lst [.cbool true,.cbool false,.cbool false,.cbool false])] [] :: s_quoC
noncomputable def QuoS (σ:St) (w u:Nat) (v:Int) (ax a:Addr) (o:Bool) (xs:List Int) (one two:D) (b b':Bool) (tl:List (D×Bool)):Prop :=
 (σ.loc 0=some (.lst ax))∧
 (∃ o,σ.sto ax=some (.list o (xs.map D.int)))∧
 (xs.length=9)∧
 (∀ h:7<xs.length,(xs[7]'h).fmod 4=v)∧
 (σ.loc 3=some (.int w))∧
 (σ.loc 4=some (.int u))∧
 (σ.loc 6=some one)∧
 (σ.loc 7=some two)∧
 (σ.loc 8=some (.lst a))∧
 (w≤3)∧
 (QSt σ.sto one b)∧
 (QSt σ.sto two b')∧
 (Tld σ.sto tl)∧
 (tl.length≤3)∧
 (σ.sto a=some (.list o (tl.map (·.1))))∧
 (b=!((u:Int).fmod 2==1))∧
 (b'=!(decide ((u:Int) > 1)))∧
 (allB tl=!(decide (v > 1)))
section
variable {σ:St} {w u:Nat} {v:Int} {ax a:Addr} {o:Bool} {xs:List Int} {one two:D} {b b':Bool} {tl:List (D×Bool)} (h_:QuoS σ w u v ax a o xs one two b b' tl)
include h_
theorem QuoS.g0:σ.loc 0=some (.lst ax):=h_.1
theorem QuoS.sx:∃ o,σ.sto ax=some (.list o (xs.map D.int)):=h_.2.1
theorem QuoS.lx:xs.length=9:=h_.2.2.1
theorem QuoS.hv:∀ h:7<xs.length,(xs[7]'h).fmod 4=v:=h_.2.2.2.1
theorem QuoS.g3:σ.loc 3=some (.int w):=h_.2.2.2.2.1
theorem QuoS.g4:σ.loc 4=some (.int u):=h_.2.2.2.2.2.1
theorem QuoS.g6:σ.loc 6=some one:=h_.2.2.2.2.2.2.1
theorem QuoS.g7:σ.loc 7=some two:=h_.2.2.2.2.2.2.2.1
theorem QuoS.g8:σ.loc 8=some (.lst a):=h_.2.2.2.2.2.2.2.2.1
theorem QuoS.hw:w≤3:=h_.2.2.2.2.2.2.2.2.2.1
theorem QuoS.hd:QSt σ.sto one b:=h_.2.2.2.2.2.2.2.2.2.2.1
theorem QuoS.hd':QSt σ.sto two b':=h_.2.2.2.2.2.2.2.2.2.2.2.1
theorem QuoS.ht:Tld σ.sto tl:=h_.2.2.2.2.2.2.2.2.2.2.2.2.1
theorem QuoS.lt:tl.length≤3:=h_.2.2.2.2.2.2.2.2.2.2.2.2.2.1
theorem QuoS.sa:σ.sto a=some (.list o (tl.map (·.1))):=h_.2.2.2.2.2.2.2.2.2.2.2.2.2.2.1
theorem QuoS.hb:b=!((u:Int).fmod 2==1):=h_.2.2.2.2.2.2.2.2.2.2.2.2.2.2.2.1
theorem QuoS.hb':b'=!(decide ((u:Int) > 1)):=h_.2.2.2.2.2.2.2.2.2.2.2.2.2.2.2.2.1
theorem QuoS.hbt:allB tl=!(decide (v > 1)):=h_.2.2.2.2.2.2.2.2.2.2.2.2.2.2.2.2.2
end
theorem QuoS.put {σ:St} {w u:Nat} {v:Int} {ax a:Addr} {o:Bool} {xs:List Int} {one two:D} {b b':Bool} {tl:List (D×Bool)} (S:QuoS σ w u v ax a o xs one two b b' tl) {l:Addr} (hl:σ.sto l=none) {k:List D} {d:D}:QuoS ((σ.put l (.list true k)).set 9 d) w u v ax a o xs one two b b' tl:=by
 have up:Lk σ.sto (σ.put l (.list true k)).sto:=fun a o ds e=>⟨o,ds,put_old hl e⟩
 obtain ⟨ox,sx⟩:=S.sx
 exact ⟨S.g0,⟨ox,put_old hl sx⟩,S.lx,S.hv,S.g3,S.g4,S.g6,S.g7,S.g8,S.hw,S.hd.mono up,S.hd'.mono up,fun x hx=>(S.ht x hx).mono up,S.lt,put_old hl S.sa,S.hb,S.hb',S.hbt⟩
section
variable {c:Cx} (CO:CxOK c) (EO:ExcOK c) (RO:RzOK c)
include CO EO RO
theorem quo_end (hw:WordQ c) {n:Nat} (hm:14≤n) {σ:St} {sto:Sto} {Q:D→Sto→Prop} {X:Str→St→Prop} {w u:Nat} {v:Int} {ax a l9:Addr} {o:Bool} {xs:List Int} {one two:D} {b b':Bool} {tl:List (D×Bool)} (S:QuoS σ w u v ax a o xs one two b b' tl) (g9:σ.loc 9=some (.lst l9)) (s9:σ.sto l9=some (.list true (kinds (codeQ w b b' (allB tl))))) (h:Q (.bool true) sto):wSs c n true s_quoE (EndQ sto Q) X σ:=by
 obtain ⟨g0,sx,lx,hv,g3,g4,g6,g7,g8,hw6,hd,hd',ht,lt,sa,hb,hb',hbt⟩:=S
 unfold s_quoE
 walk_at "m"
 refine e_call hw.1 ?_
 walk_at "m"
 refine hw.2 w one two b b' tl a o _ _ _ _ hm hw6 hd hd' ht lt sa fun l hl=>?_
 walk_at "m"
 refine c_eqD ((eqTop_lst put_same (put_old hl s9)).trans (eq_kinds _)) ?_
 exact ret_plain h
theorem quo_c2 (hw:WordQ c) {n:Nat} (hm:14≤n) {σ:St} {sto:Sto} {Q:D→Sto→Prop} {X:Str→St→Prop} {w u:Nat} {v:Int} {ax a l9:Addr} {o:Bool} {xs:List Int} {one two:D} {b b':Bool} {tl:List (D×Bool)} (S:QuoS σ w u v ax a o xs one two b b' tl) (g9:σ.loc 9=some (.lst l9)) (s9:σ.sto l9=some (.list true (kinds (if (w==3&&!allB tl)=true then 1 else 0)))) (h:Q (.bool true) sto):wSs c n true s_quoC (EndQ sto Q) X σ:=by
 have T:badQ w b b'=true→wSs c n true [.assign 9 (.lst [.cbool false,.cbool true,.cbool false,.cbool false])] (fun fl σ₁=>match fl with | .next=>wSs c n true s_quoE (EndQ sto Q) X σ₁ | fl=>EndQ sto Q fl σ₁) X σ:=fun hb=>by
  walk_at "m"
  refine ⟨Nat.le_of_ble_eq_true rfl,fun l hl=>?_⟩
  walk_at "m"
  refine quo_end CO EO RO hw hm (S.put hl) (l9:=l) rfl ?_ h
  unfold codeQ
  rw [if_pos hb]
  exact put_same
 have F:badQ w b b'=false→wSs c n true [] (fun fl σ₁=>match fl with | .next=>wSs c n true s_quoE (EndQ sto Q) X σ₁ | fl=>EndQ sto Q fl σ₁) X σ:=fun hb=>by
  show wSs c n true s_quoE (EndQ sto Q) X σ
  refine quo_end CO EO RO hw hm S g9 ?_ h
  unfold codeQ
  rw [if_neg (by rw [hb]; exact Bool.false_ne_true)]
  exact s9
 obtain ⟨g0,⟨ox,sx⟩,lx,hv,g3,g4,g6,g7,g8,hw6,hd,hd',ht,lt,sa,hb,hb',hbt⟩:=S
 have c1:((u:Int).fmod 2==1)=!b:=by rw [hb,Bool.not_not]
 have c2:decide ((u:Int) > 1)=!b':=by rw [hb',Bool.not_not]
 have c0:((w:Int)==0)=(w==0):=w_eq
 unfold s_quoC
 walk_at "m"
 refine o_mod (by decide) ?_
 walk_at "m"
 rw [c1]
 refine if_or (fun z=>?_) fun z=>?_
 ·rw [z]
  exact if_b (fun _=>T (by unfold badQ; rw [z]; rfl)) fun y=>by cases y
 ·walk_at "m"
  rw [c2]
  refine if_and (fun y=>?_) fun y=>?_
  ·rw [y]
   refine if_or (fun y=>by cases y) fun _=>?_
   walk_at "m"
   exact if_b (fun y=>by cases y) fun _=>F (by unfold badQ; rw [z,y,Bool.and_false]; rfl)
  ·walk_at "m"
   rw [c0]
   refine if_and (fun x=>?_) fun x=>?_
   ·rw [x]
    refine if_or (fun y=>by cases y) fun _=>?_
    walk_at "m"
    exact if_b (fun y=>by cases y) fun _=>F (by unfold badQ; rw [z,x]; rfl)
   ·walk_at "m"
    refine if_or (fun _=>?_) fun y=>by cases y
    exact if_b (fun _=>T (by unfold badQ; rw [x,y,Bool.true_and,Bool.or_true])) fun y=>by cases y
theorem quo_c1 (hw:WordQ c) {n:Nat} (hm:14≤n) {σ:St} {sto:Sto} {Q:D→Sto→Prop} {X:Str→St→Prop} {w u:Nat} {v:Int} {ax a:Addr} {o:Bool} {xs:List Int} {one two:D} {b b':Bool} {tl:List (D×Bool)} (S:QuoS σ w u v ax a o xs one two b b' tl) (h:Q (.bool true) sto):wSs c n true s_quoT (EndQ sto Q) X σ:=by
 unfold s_quoT
 walk_at "m"
 refine ⟨Nat.le_of_ble_eq_true rfl,fun l hl=>?_⟩
 walk_at "m"
 have S:=S.put hl (k:=[]) (d:=.lst l)
 have s9:((σ.put l (.list true [])).set 9 (.lst l)).sto l=some (.list true []):=put_same
 have g9:((σ.put l (.list true [])).set 9 (.lst l)).loc 9=some (.lst l):=rfl
 generalize (σ.put l (.list true [])).set 9 (.lst l)=τ at S s9 g9 ⊢
 have T:(w==3&&!allB tl)=true→wSs c n true [.assign 9 (.lst [.cbool true,.cbool false,.cbool false,.cbool false])] (fun fl σ₁=>match fl with | .next=>wSs c n true s_quoC (EndQ sto Q) X σ₁ | fl=>EndQ sto Q fl σ₁) X τ:=fun hb=>by
  walk_at "m"
  refine ⟨Nat.le_of_ble_eq_true rfl,fun l' hl'=>?_⟩
  walk_at "m"
  refine quo_c2 CO EO RO hw hm (S.put hl') (l9:=l') rfl ?_ h
  rw [if_pos hb]
  exact put_same
 have F:(w==3&&!allB tl)=false→wSs c n true [] (fun fl σ₁=>match fl with | .next=>wSs c n true s_quoC (EndQ sto Q) X σ₁ | fl=>EndQ sto Q fl σ₁) X τ:=fun hb=>by
  show wSs c n true s_quoC (EndQ sto Q) X τ
  refine quo_c2 CO EO RO hw hm S g9 ?_ h
  rw [if_neg (by rw [hb]; exact Bool.false_ne_true)]
  exact s9
 obtain ⟨g0,⟨ox,sx⟩,lx,hv,g3,g4,g6,g7,g8,hw6,hd,hd',ht,lt,sa,hb,hb',hbt⟩:=S
 have c3:decide (v > 1)=!allB tl:=by rw [hbt,Bool.not_not]
 have c5:((w:Int)==3)=(w==3):=w_eq
 walk_at "m"
 rw [c5]
 refine if_and (fun z=>?_) fun z=>?_
 ·rw [z]
  exact if_b (fun y=>by cases y) fun _=>F (by rw [z]; rfl)
 ·walk_at "m"
  refine i_lst sx (by exact Mine.mlim (by exact o663 lx)) (nth_ints (i:=7) (by exact o664 lx)) ?_
  walk_at "m"
  refine o_mod (by decide) ?_
  rw [hv]
  walk_at "m"
  rw [c3]
  refine if_and (fun y=>?_) fun y=>?_
  ·rw [y]
   exact if_b (fun y=>by cases y) fun _=>F (by rw [y,Bool.and_false])
  ·walk_at "m"
   exact if_b (fun _=>T (by rw [z,y]; rfl)) fun y=>by cases y
end
end Mine
namespace Mine
open PySem
noncomputable def s_quo8:List S:=.assign 8 (.idx (.lst [.lst [],.lst [.var 1],.lst [.call (Str.ofString "_law_wrong_row") [.idx (.var 0) (.cint 6),.var 2]],.lst [.tup [],.call (Str.ofString "_law_wrong_row") [.idx (.var 0) (.cint 6),.var 1]]]) (.bin .Mod (.idx (.var 0) (.cint 7)) (.cint 4))) :: s_quoT
noncomputable def s_quo6:List S :=
  .assign 6 (.idx (.lst [.idx (.var 5) (.bin .Mod (.idx (.var 0) (.cint 5)) (.cint 3)),.call (Str.ofString "_law_wrong_quotient") [.idx (.var 0) (.cint 3),.var 1]]) (.bin .Mod (.var 4) (.cint 2))) ::
  .assign 7 (.idx (.lst [.idx (.var 5) (.bin .Mod (.idx (.var 0) (.cint 6)) (.cint 3)),.call (Str.ofString "_law_wrong_quotient") [.idx (.var 0) (.cint 4),.var 2]]) (.bin .FloorDiv (.var 4) (.cint 2))) ::
  s_quo8
noncomputable def s__law_of_quotients:List S :=
  .assign 3 (.bin .Mod (.idx (.var 0) (.cint 1)) (.cint 4)) ::
  .assign 4 (.bin .Mod (.idx (.var 0) (.cint 2)) (.cint 4)) ::
  .assign 5 (.lst [.tup [.tup [],.tup [.tup [.cint 1,.cint 1]]],.tup [.var 1,.tup [.tup [.cint 1,.cint 1]]],.tup [.tup [.tup [.cint 1,.cint 1]],.tup [.tup [.bin .Sub (.bin .Mod (.idx (.var 0) (.cint 8)) (.cint 9)) (.cint 4),.cint 1],.tup [.cint 1,.cint 1]]]]) ::
  s_quo6
noncomputable def OfQ (c:Cx):Prop:=IsFn c (Str.ofString "_law_of_quotients")∧∀ (xs:List Int) (p q:List Rat) (ax:Addr) (o:Bool) (m:Nat) (sto:Sto) (Q:D→Sto→Prop) (X:Str→Prop),15≤m→Rr p→Rr q→xs.length=9→sto ax=some (.list o (xs.map D.int))→Q (.bool true) sto→CallOK c m (Str.ofString "_law_of_quotients") [.lst ax,rowD p,rowD q] sto Q X
theorem sh_one {p q G S T:List Rat} {b:Nat} (O:ShO p q G S T b) (q0:q≠[]) (h:p=[1]∨q=[1]):G=[1]:=by
 have g:=O.led.resolve_left fun z=>q0 z.2.2
 have mG:Mon G:=⟨O.wG,g.1,g.2⟩
 have d:Dv G (cf [1]):=by
  rcases h with rfl | rfl
  ·exact O.dp
  ·exact O.dq
 obtain ⟨r,fr,er⟩:=d
 exact mon_one_eq mG (mon_of_one mG ⟨r,fr,by rw [← show cf [1]=one0 from funext cf_one]; exact funext er⟩)
theorem qst_good {τ:Sto} {h l:List Rat} (g:GQ h l):QSt τ (qD h l) true:=by
 refine ⟨?_,fun _=>⟨h,l,rfl,g⟩⟩
 obtain ⟨g1,g2,l0,k⟩:=g
 have led:cf l (l.length - 1)=1:=by
  rcases k with rfl | ⟨_,⟨x,rfl⟩,_⟩ <;> rfl
 refine qb_rows g1.1 g2.1 (by have:=g1.2.1; exact o634 this) (by have:=g2.2.1; exact o634 this) (.inr ⟨l0,led,83,g1.2.2,g2.2.2,by exact o600,by have:=g1.2.1; exact o575 this,by have:=g2.2.1; exact o575 this,fun G S T O=>⟨fun _=>sh_one O l0 ?_,fun _=>rfl⟩⟩)
 rcases k with rfl | ⟨rfl,_⟩
 ·exact .inr rfl
 ·exact .inl rfl
theorem gr_one:Gr [1]:=⟨mon_1.w,by simp,rc_one.mono (by exact o599)⟩
theorem gq_nil:GQ [] [1]:=⟨⟨.inl rfl,by simp,RC.none (by exact o599)⟩,gr_one,List.cons_ne_nil _ _,.inl rfl⟩
theorem gq_row {p:List Rat} (h:Rr p):GQ p [1]:=⟨⟨h.1,by have:=h.2.1; exact lin [_] [] [.nl (.x 0) (.k 4)] [] (.nl (.x 0) (.k 5)) (.l 1 [1]) rfl this,rc_of h.2.2 (by have:=h.2.1; exact lin [_] [] [.nl (.x 0) (.k 4)] [] (.nl (.a (.m 20 (.x 0)) (.k 1)) (.k 83)) (.l 1 [20]) rfl this)⟩,gr_one,List.cons_ne_nil _ _,.inl rfl⟩
theorem gq_two {y:Int} (h1:-4≤y) (h2:y≤4):GQ [1] [(y:Rat),1]:=by
 have k:RSs 3 [(y:Rat),1]:=fun i=>by
  match i with
  | 0=>exact ⟨by show y.natAbs<8; exact o687 h1 h2,by show 1<8; exact o688⟩
  | 1=>exact ⟨by show 1<8; exact o688,by show 1<8; exact o688⟩
  | n+2=>exact ⟨by show 0<8; exact lin [] [] [] [] (.nt (.k 0) (.k 8)) (.l 1 []) rfl,by show 1<8; exact o688⟩
 exact ⟨gr_one,⟨(mon_two _).w,by simp,rc_of k (by simp)⟩,List.cons_ne_nil _ _,.inr ⟨rfl,⟨_,rfl⟩,rc_of k (by simp)⟩⟩
theorem pick3 {h1 l1 h2 l2 h3 l3:List Rat} (g1:GQ h1 l1) (g2:GQ h2 l2) (g3:GQ h3 l3):∀ {i:Nat},i<3→∃ h l,nth [qD h1 l1,qD h2 l2,qD h3 l3] (i:Int)=some (qD h l)∧GQ h l
 | 0,_=>⟨_,_,rfl,g1⟩
 | 1,_=>⟨_,_,rfl,g2⟩
 | 2,_=>⟨_,_,rfl,g3⟩
 | n+3,h=>absurd h (by exact o690 h)
theorem pickQ {τ:Sto} {x y:D} (hx:QSt τ x true) (hy:QSt τ y false):∀ {i:Nat},i<2→∃ d b,nth [x,y] (i:Int)=some d∧QSt τ d b∧b=!((i:Int)==1)
 | 0,_=>⟨x,true,rfl,hx,rfl⟩
 | 1,_=>⟨y,false,rfl,hy,rfl⟩
 | n+2,h=>absurd h (by exact o667 h)
theorem qst_wrong {τ:Sto} {d:D} (h:QB τ d false):QSt τ d false:=⟨h,fun z=>by cases z⟩
section
variable {c:Cx} (CO:CxOK c) (EO:ExcOK c) (RO:RzOK c)
include CO EO RO
theorem quo_8 (hw:WordQ c) (hwr:WrongOK c) {n:Nat} (hm:14≤n) {σ:St} {sto:Sto} {Q:D→Sto→Prop} {X:Str→St→Prop} {w u:Nat} {ax:Addr} {o:Bool} {xs:List Int} {p q:List Rat} {one two:D} {b b':Bool} (hp:Rr p) (hq:Rr q) (g0:σ.loc 0=some (.lst ax)) (sx:σ.sto ax=some (.list o (xs.map D.int))) (lx:xs.length=9) (g1:σ.loc 1=some (rowD p)) (g2:σ.loc 2=some (rowD q)) (g3:σ.loc 3=some (.int w)) (g4:σ.loc 4=some (.int u)) (g6:σ.loc 6=some one) (g7:σ.loc 7=some two) (hw6:w≤3) (hd:QSt σ.sto one b) (hd':QSt σ.sto two b') (hb:b=!((u:Int).fmod 2==1)) (hb':b'=!(decide ((u:Int) > 1))) (h:Q (.bool true) sto):wSs c n true s_quo8 (EndQ sto Q) X σ:=by
 have lim':(xs.map D.int).length≤lim:=by exact Mine.mlim (by exact o663 lx)
 unfold s_quo8
 walk_at "m"
 refine ⟨Nat.le_of_ble_eq_true rfl,fun la hla=>?_⟩
 walk_at "m"
 refine ⟨Nat.le_of_ble_eq_true rfl,fun lb hlb=>?_⟩
 walk_at "m"
 have U1:Up1 σ.sto (Sto.put (Sto.put σ.sto la (.list true [])) lb (.list true [rowD p])):=(up_put hla).trans (up_put hlb)
 refine e_call hwr.1 ?_
 walk_at "m"
 refine i_lst (U1 _ _ sx) lim' (nth_ints (i:=6) (by exact o669 lx)) ?_
 walk_at "m"
 refine hwr.2 _ q _ _ _ _ (by exact o670 hm) (by have:=hq.2.1; exact o671 this) fun dx s1 hx1 wx=>?_
 walk_at "m"
 refine ⟨Nat.le_of_ble_eq_true rfl,fun lc hlc=>?_⟩
 walk_at "m"
 have U2:Up1 σ.sto (Sto.put s1 lc (.list true [dx])):=(U1.trans hx1.1).trans (up_put hlc)
 refine ⟨Nat.le_of_ble_eq_true rfl,?_⟩
 walk_at "m"
 refine e_call hwr.1 ?_
 walk_at "m"
 refine i_lst (U2 _ _ sx) lim' (nth_ints (i:=6) (by exact o669 lx)) ?_
 walk_at "m"
 refine hwr.2 _ p _ _ _ _ (by exact o670 hm) (by have:=hp.2.1; exact o671 this) fun dy s2 hx2 wy=>?_
 walk_at "m"
 refine ⟨Nat.le_of_ble_eq_true rfl,fun ld hld=>?_⟩
 walk_at "m"
 refine ⟨Nat.le_of_ble_eq_true rfl,fun l7 hl7=>?_⟩
 walk_at "m"
 have V3:Up1 (Sto.put s1 lc (.list true [dx])) (Sto.put (Sto.put s2 ld (.list true [rowD [],dy])) l7 (.list true [.lst la,.lst lb,.lst lc,.lst ld])):=Up1.trans hx2.1 ((up_put hld).trans (up_put hl7))
 have U3:=U2.trans V3
 have V2:Up1 s2 (Sto.put (Sto.put s2 ld (.list true [rowD [],dy])) l7 (.list true [.lst la,.lst lb,.lst lc,.lst ld])):=(up_put hld).trans (up_put hl7)
 have W1:Up1 (Sto.put (Sto.put σ.sto la (.list true [])) lb (.list true [rowD p])) (Sto.put (Sto.put s2 ld (.list true [rowD [],dy])) l7 (.list true [.lst la,.lst lb,.lst lc,.lst ld])):=(Up1.trans hx1.1 (up_put hlc)).trans V3
 refine i_lst (U3 _ _ sx) lim' (nth_ints (i:=7) (by exact o664 lx)) ?_
 walk_at "m"
 refine o_mod (by decide) ?_
 obtain ⟨v,hv,ev⟩:=fmod_lt (a:=xs[7]) (m:=4) (by exact o672)
 rw [show (xs[7]).fmod 4=(v:Int) from ev]
 obtain ⟨l,tl,e1,e2,e3,e4,e5⟩:=pick4 (W1 _ _ (put_old hlb put_same)) (W1 _ _ put_same) (V3 _ _ put_same) (put_old hl7 put_same) (stt_row hp.gd) (stt_row (p:=[]) ⟨.inl rfl,by simp,RC.none (by exact o636)⟩) ((stt_wrong wx).mono (((up_put hlc).trans V3).lk)) ((stt_wrong wy).mono V2.lk) hv
 refine i_lst put_same (Nat.le_of_ble_eq_true rfl) e1 ?_
 walk_at "m"
 exact quo_c1 CO EO RO hw hm ⟨g0,⟨o,U3 _ _ sx⟩,lx,fun _=>ev,g3,g4,g6,g7,rfl,hw6,hd.mono U3.lk,hd'.mono U3.lk,e3,e4,e2,hb,hb',e5⟩ h
theorem quo_6 (hw:WordQ c) (hwr:WrongOK c) (hwq:WqR c) {n:Nat} (hm:14≤n) {σ:St} {sto:Sto} {Q:D→Sto→Prop} {X:Str→St→Prop} {w u:Nat} {ax l5:Addr} {o:Bool} {xs:List Int} {p q:List Rat} {gs:List D} (hp:Rr p) (hq:Rr q) (g0:σ.loc 0=some (.lst ax)) (sx:σ.sto ax=some (.list o (xs.map D.int))) (lx:xs.length=9) (g1:σ.loc 1=some (rowD p)) (g2:σ.loc 2=some (rowD q)) (g3:σ.loc 3=some (.int w)) (g4:σ.loc 4=some (.int u)) (g5:σ.loc 5=some (.lst l5)) (s5:σ.sto l5=some (.list true gs)) (lg:gs.length=3) (pk:∀ i:Nat,i<3→∃ h l,nth gs (i:Int)=some (qD h l)∧GQ h l) (hw6:w≤3) (hu:u<4) (h:Q (.bool true) sto):wSs c n true s_quo6 (EndQ sto Q) X σ:=by
 have lim':(xs.map D.int).length≤lim:=by exact Mine.mlim (by exact o663 lx)
 have lim3:gs.length≤lim:=by unfold lim; exact lin [_] [] [.ne (.x 0) (.k 3)] [] (.nl (.x 0) (.k 1000000)) (.l 1 [1]) rfl lg
 unfold s_quo6
 walk_at "m"
 refine i_lst sx lim' (nth_ints (i:=5) (by exact o682 lx)) ?_
 walk_at "m"
 refine o_mod (by decide) ?_
 obtain ⟨i5,hi5,ei5⟩:=fmod_lt (a:=xs[5]) (m:=3) (by exact o692)
 rw [show (xs[5]).fmod 3=(i5:Int) from ei5]
 obtain ⟨h1,l1,en1,gq1⟩:=pk i5 hi5
 refine i_lst s5 lim3 en1 ?_
 walk_at "m"
 refine e_call hwq.1 ?_
 walk_at "m"
 refine i_lst sx lim' (nth_ints (i:=3) (by exact o677 lx)) ?_
 walk_at "m"
 refine hwq.2 _ p _ _ _ _ (by exact o693 hm) hp fun dx s1 hx1 wx=>?_
 walk_at "m"
 refine ⟨Nat.le_of_ble_eq_true rfl,fun l6 hl6=>?_⟩
 walk_at "m"
 refine o_mod (by decide) ?_
 obtain ⟨i1,hi1,ei1⟩:=fmod_lt (a:=(u:Int)) (m:=2) (by exact o679)
 rw [show (u:Int).fmod 2=(i1:Int) from ei1]
 obtain ⟨one,b,eo,so,hb⟩:=pickQ (τ:=s1) (qst_good gq1) (qst_wrong wx) hi1
 refine i_lst put_same (Nat.le_of_ble_eq_true rfl) eo ?_
 walk_at "m"
 have U1:Up1 σ.sto (Sto.put s1 l6 (.list true [qD h1 l1,dx])):=Up1.trans hx1.1 (up_put hl6)
 refine i_lst (U1 _ _ sx) lim' (nth_ints (i:=6) (by exact o669 lx)) ?_
 walk_at "m"
 refine o_mod (by decide) ?_
 obtain ⟨i6,hi6,ei6⟩:=fmod_lt (a:=xs[6]) (m:=3) (by exact o692)
 rw [show (xs[6]).fmod 3=(i6:Int) from ei6]
 obtain ⟨h2,l2,en2,gq2⟩:=pk i6 hi6
 refine i_lst (U1 _ _ s5) lim3 en2 ?_
 walk_at "m"
 refine e_call hwq.1 ?_
 walk_at "m"
 refine i_lst (U1 _ _ sx) lim' (nth_ints (i:=4) (by exact o680 lx)) ?_
 walk_at "m"
 refine hwq.2 _ q _ _ _ _ (by exact o693 hm) hq fun dy s2 hx2 wy=>?_
 walk_at "m"
 refine ⟨Nat.le_of_ble_eq_true rfl,fun l7 hl7=>?_⟩
 walk_at "m"
 refine o_fdiv (by decide) ?_
 obtain ⟨i2,hi2,ei2,hu2⟩:∃ i2:Nat,i2<2∧(u:Int).fdiv 2=(i2:Int)∧decide ((u:Int) > 1)=((i2:Int)==1):=by
  match u,hu with
  | 0,_=>exact ⟨0,by exact o679,rfl,rfl⟩
  | 1,_=>exact ⟨0,by exact o679,rfl,rfl⟩
  | 2,_=>exact ⟨1,by exact o681,rfl,rfl⟩
  | 3,_=>exact ⟨1,by exact o681,rfl,rfl⟩
 rw [ei2]
 obtain ⟨two,b',et,st,hb'⟩:=pickQ (τ:=s2) (qst_good gq2) (qst_wrong wy) hi2
 refine i_lst put_same (Nat.le_of_ble_eq_true rfl) et ?_
 walk_at "m"
 have U2:Up1 (Sto.put s1 l6 (.list true [qD h1 l1,dx])) (Sto.put s2 l7 (.list true [qD h2 l2,dy])):=Up1.trans hx2.1 (up_put hl7)
 have hb2:b=!((u:Int).fmod 2==1):=by rw [show (u:Int).fmod 2=(i1:Int) from ei1]; exact hb
 have hb3:b'=!(decide ((u:Int) > 1)):=by rw [hu2]; exact hb'
 have so':QSt (Sto.put s2 l7 (.list true [qD h2 l2,dy])) one b:=so.mono (((up_put hl6).trans U2).lk)
 have st':QSt (Sto.put s2 l7 (.list true [qD h2 l2,dy])) two b':=st.mono (Up1.lk (up_put hl7))
 exact quo_8 CO EO RO hw hwr hm (o:=o) hp hq g0 ((U1.trans U2) _ _ sx) lx g1 g2 g3 g4 rfl rfl hw6 so' st' hb2 hb3 h
theorem ofQ_ok (hw:WordQ c) (hwr:WrongOK c) (hwq:WqR c) {ps v:List Str} (hf:FnIs c (Str.ofString "_law_of_quotients") ps v s__law_of_quotients) (hps:ps.length=3):OfQ c:=by
 refine ⟨hf.isFn,fun xs p q ax o m sto Q X hm hp hq lx sx h=>?_⟩
 obtain ⟨n,rfl⟩:∃ n,m=n+1:=⟨m - 1,by exact o673 hm⟩
 refine fn_call CO EO RO hf hps.symm ?_
 unfold s__law_of_quotients
 have lim':(xs.map D.int).length≤lim:=by exact Mine.mlim (by exact o663 lx)
 have sx:=ro_at sx
 walk_at "m"
 refine i_lst sx lim' (nth_ints (i:=1) (by exact o674 lx)) ?_
 walk_at "m"
 refine o_mod (by decide) ?_
 obtain ⟨w,hw7,ew⟩:=fmod_lt (a:=xs[1]) (m:=4) (by exact o672)
 rw [show (xs[1]).fmod 4=(w:Int) from ew]
 walk_at "m"
 refine i_lst sx lim' (nth_ints (i:=2) (by exact o676 lx)) ?_
 walk_at "m"
 refine o_mod (by decide) ?_
 obtain ⟨u,hu,eu⟩:=fmod_lt (a:=xs[2]) (m:=4) (by exact o672)
 rw [show (xs[2]).fmod 4=(u:Int) from eu]
 walk_at "m"
 iterate 9
  refine ⟨Nat.le_of_ble_eq_true rfl,?_⟩
  walk_at "m"
 refine i_lst sx lim' (nth_ints (i:=8) (by exact o694 lx)) ?_
 walk_at "m"
 refine o_mod (by decide) ?_
 obtain ⟨t,ht,et⟩:=fmod_lt (a:=xs[8]) (m:=9) (by exact lin [] [] [] [] (.nt (.k 0) (.k 9)) (.l 1 []) rfl)
 rw [show (xs[8]).fmod 9=(t:Int) from et]
 walk_at "m"
 iterate 4
  refine ⟨Nat.le_of_ble_eq_true rfl,?_⟩
  walk_at "m"
 refine ⟨Nat.le_of_ble_eq_true rfl,fun l5 hl5=>?_⟩
 walk_at "m"
 have e5:D.tup [D.tup [.int ((t:Int) - 4),.int 1],D.tup [.int 1,.int 1]]=rowD [(((t:Int) - 4:Int):Rat),1]:=by rw [fr_int]; rfl
 rw [e5]
 refine quo_6 CO EO RO hw hwr hwq (by exact o683 hm) (o:=false) (gs:=[qD [] [1],qD p [1],qD [1] [(((t:Int) - 4:Int):Rat),1]]) hp hq rfl (put_old hl5 sx) lx rfl rfl rfl rfl rfl put_same rfl (fun i hi=>pick3 gq_nil (gq_row hp) (gq_two (y:=(t:Int) - 4) (by exact lin [_] [] [] [] (.il (.g (.k 4)) (.s (.c (.x 0)) (.k 4))) (.l 1 []) rfl) (by exact lin [_] [] [.nt (.x 0) (.k 9)] [] (.il (.s (.c (.x 0)) (.k 4)) (.k 4)) (.l 1 [1]) rfl ht)) hi) (by exact lin [_] [] [.nt (.x 0) (.k 4)] [] (.nl (.x 0) (.k 3)) (.l 1 [1]) rfl hw7) hu h
end
end Mine
namespace Mine
open PySem
noncomputable def s_law08:List S:=[
  .assign 1 (.call (Str.ofString "_law_row_by") [.call (Str.ofString "_law_cell_at") [.var 0,.cint 0],.cint 4]),
  .assign 2 (.call (Str.ofString "_law_row_by") [.call (Str.ofString "_law_cell_at") [.var 0,.cint 1],.cint 3]),
  .fors [3] true .range [.cint 3] [.assign 4 (.call (Str.ofString "_law_stream") [.bin .Add (.call (Str.ofString "_law_cell_at") [.var 0,.bin .Add (.cint 2) (.var 3)]) (.bin .Mult (.cint 3) (.var 3)),.cint 9]),.ifs (.bool .Or [.not (.call (Str.ofString "_law_of_rows") [.var 4,.var 1,.var 2]),.not (.call (Str.ofString "_law_of_quotients") [.var 4,.var 1,.var 2])]) [.ret (.cbool false)] []],
  .ret (.cbool true)]
noncomputable def table08:List (Str×List S×Nat):=[
 (Str.ofString "divisor_of",s_divisor_of,2),
 (Str.ofString "fraction",s_fraction,2),
 (Str.ofString "is_whole",s__law_whole,1),
 (Str.ofString "is_fraction",s_is_fraction,1),
 (Str.ofString "sum_of",(s_sum (Str.ofString "fraction")),2),
 (Str.ofString "product_of",(s_prod (Str.ofString "fraction")),2),
 (Str.ofString "part_of",(s_part (Str.ofString "fraction")),2),
 (Str.ofString "turned",s_turned,1),
 (Str.ofString "is_row",s_is_row,1),
 (Str.ofString "need_row",s_need_row,1),
 (Str.ofString "trimmed",s_trimmed,1),
 (Str.ofString "added",s_added,2),
 (Str.ofString "scaled",(s_scaleG (Str.ofString "trimmed") (Str.ofString "product_of") (Str.ofString "one")),2),
 (Str.ofString "lessened",s_lessened,2),
 (Str.ofString "multiplied",s_multiplied,2),
 (Str.ofString "parted",s_parted,2),
 (Str.ofString "led",s_led,1),
 (Str.ofString "raised",s_raised,2),
 (Str.ofString "rate_of",(s_rateG (Str.ofString "trimmed") (Str.ofString "product_of") (Str.ofString "place")),1),
 (Str.ofString "plus",(s_two false (Str.ofString "added") (Str.ofString "")),2),
 (Str.ofString "times",(s_two false (Str.ofString "multiplied") (Str.ofString "")),2),
 (Str.ofString "divided",(s_two true (Str.ofString "parted") (Str.ofString "a row by nought")),2),
 (Str.ofString "rate",s_rate,1),
 (Str.ofString "shared",s_shared,2),
 (Str.ofString "common",(s_two false (Str.ofString "shared") (Str.ofString "")),2),
 (Str.ofString "is_quotient",s_is_quotient,1),
 (Str.ofString "need_quotient",s_need_quotient,1),
 (Str.ofString "made",s_made,2),
 (Str.ofString "together",s_together,2),
 (Str.ofString "quotient",(s_two true (Str.ofString "made") (Str.ofString "a quotient by nought")),2),
 (Str.ofString "joined",s_joined,2),
 (Str.ofString "rated",s_rated,1),
 (Str.ofString "by_powers",s_by_powers,1),
 (Str.ofString "cut_by",s_cut_by,2),
 (Str.ofString "cut",s_cut,2),
 (Str.ofString "parts",s_parts,2),
 (Str.ofString "pieces_of",s_pieces_of,3),
 (Str.ofString "taken",s_taken,2),
 (Str.ofString "apart",s_apart,2),
 (Str.ofString "grown_row",s_grown_row,1),
 (Str.ofString "tops_by_parts",s_tops_by_parts,1),
 (Str.ofString "growth",s_growth,1),
 (Str.ofString "_law_trim",s__law_trim,1),
 (Str.ofString "_law_row_by",s__law_row_by,2),
 (Str.ofString "_law_bad",s__law_bad,1),
 (Str.ofString "_law_wrong_row",s__law_wrong_row,2),
 (Str.ofString "_law_wrong_quotient",s__law_wrong_quotient,2),
 (Str.ofString "_law_rows_done",s__law_rows_done,4),
 (Str.ofString "_law_quotients_done",s__law_quotients_done,4),
 (Str.ofString "_law_word",s__law_word,5),
 (Str.ofString "_law_of_rows",s__law_of_rows,3),
 (Str.ofString "_law_of_quotients",s__law_of_quotients,3)]
noncomputable def AllFn (c:Cx):List (Str×List S×Nat)→Prop
 | []=>True
 | x :: r=>(∃ p v,FnIs c x.1 p v x.2.1∧p.length=x.2.2)∧AllFn c r
theorem AllFn.pv {c:Cx}:∀ (t:List (Str×List S×Nat)),AllFn c t→∃ P V:Nat→List Str,∀ i x,t[i]?=some x→FnIs c x.1 (P i) (V i) x.2.1∧(P i).length=x.2.2
 | [],_=>⟨fun _=>[],fun _=>[],fun i x e=>by cases e⟩
 | y :: r,⟨⟨p,v,h⟩,k⟩=>by
  obtain ⟨P,V,g⟩:=AllFn.pv r k
  exact ⟨fun i=>Nat.casesOn i p fun i=>P i,fun i=>Nat.casesOn i v fun i=>V i,fun i x e=>by
   cases i with
   | zero=>cases e; exact h
   | succ i=>exact g i x e⟩
noncomputable def Defs08 (c:Cx):Prop :=
 c.cs (Str.ofString "ZERO")=some (frD 0)∧
 c.cs (Str.ofString "UNIT")=some (rowD [1])∧
 c.cs (Str.ofString "EMPTY")=some (qD [] [1])∧
 Subs c∧AllFn c table08
section
variable {c:Cx} (CO:CxOK c) (EO:ExcOK c) (RO:RzOK c)
include CO EO RO
theorem does08 (N:Defs08 c) (LN:LNums c):OfR c∧OfQ c∧(IsFn c (Str.ofString "_law_row_by")∧∀ (x:Int) (most m:Nat) (sto:Sto) (Q:D→Sto→Prop) (X:Str→Prop),4≤m→most≤50→(∀ p,Rw p→p.length≤most→RSs 20 p→Q (rowD p) sto)→CallOK c m (Str.ofString "_law_row_by") [.int x,.int most] sto Q X):=by
 obtain ⟨zz,uu,ee,su,N⟩:=N
 obtain ⟨P,V,N⟩:=AllFn.pv table08 N
 have hR:=su.2.2.1
 have hQ:=su.2.2.2.1
 have hN:=su.2.2.2.2.1
 have frO:=fr_ok CO EO RO (N 1 _ rfl).1 (N 1 _ rfl).2 (N 0 _ rfl).1 (N 0 _ rfl).2
 have sumO:=sum_ok CO EO RO (N 4 _ rfl).1 (N 4 _ rfl).2 frO
 have prodO:=prod_ok CO EO RO (N 5 _ rfl).1 (N 5 _ rfl).2 frO
 have partO:=part_ok CO EO RO (N 6 _ rfl).1 (N 6 _ rfl).2 frO
 have trimO:=trimmed_ok CO EO RO zz (N 10 _ rfl).1 (N 10 _ rfl).2
 have trimL':=law_trim_ok CO EO RO (N 42 _ rfl).1 (N 42 _ rfl).2
 have isfO:IsFrOK c 2 (Str.ofString "is_fraction"):=⟨(N 3 _ rfl).1.isFn,fun d m sto Q X hm hk h=>by
  obtain ⟨n,rfl⟩:∃ n,m=n+2:=⟨m - 2,by exact o120 hm⟩
  exact call_is_fraction CO EO RO (N 3 _ rfl).1 (N 3 _ rfl).2 (N 0 _ rfl).1 (N 0 _ rfl).2 (N 2 _ rfl).1 (N 2 _ rfl).2 hk h⟩
 have rowO:=is_row_ok CO EO RO zz isfO (N 8 _ rfl).1 (N 8 _ rfl).2
 have scO:=scaleG_ok CO EO RO trimO prodO (N 12 _ rfl).1 (N 12 _ rfl).2
 have adO:AddedOK c:=⟨(N 11 _ rfl).1.isFn,fun p q k l m sto Q X hm kp kq hkl lp lq h=>added_ok CO EO RO zz sumO trimO (N 11 _ rfl).1 (N 11 _ rfl).2 kp kq hkl lp lq hm h⟩
 have muO:MultOK c:=⟨(N 14 _ rfl).1.isFn,fun p q k l m sto Q X hm kp kq hkl lp lq h=>multiplied_okC CO EO RO zz sumO prodO trimO (N 14 _ rfl).1 (N 14 _ rfl).2 kp kq hkl lp lq hm h⟩
 have paO:PartedOK c:=⟨(N 15 _ rfl).1.isFn,fun p q a b m sto Q X hm kp kq hab hq hw lp lq h=>parted_okC CO EO RO zz sumO prodO partO trimO (N 7 _ rfl).1 (N 7 _ rfl).2 (N 15 _ rfl).1 (N 15 _ rfl).2 kp kq hab hq (hw.resolve_left hq) lp lq hm h⟩
 have leO:=lessened_ok CO EO RO adO scO (N 13 _ rfl).1 (N 13 _ rfl).2
 have shO:ShOK c:=⟨(N 23 _ rfl).1.isFn,fun p q b m sto Q X hm hp hq kp kq hb lp lq h=>shared_ok CO EO RO uu paO muO leO partO scO (N 23 _ rfl).1 (N 23 _ rfl).2 hp hq kp kq hb lp lq hm h⟩
 have shm:=shM_of shO
 have pam:=partM_of paO
 have raG:=rateG_ok CO EO RO trimO prodO (N 18 _ rfl).1 (N 18 _ rfl).2
 have pow:=powers_ok CO EO RO (ledP_ok CO EO RO partO scO (N 16 _ rfl).1 (N 16 _ rfl).2) (rateC_ok CO EO RO trimO prodO (N 18 _ rfl).1 (N 18 _ rfl).2) shm pam (N 32 _ rfl).1 (N 32 _ rfl).2
 have cut:=cut_ok CO EO RO pow (cutBy_ok CO EO RO shm pam (N 33 _ rfl).1 (N 33 _ rfl).2) (N 34 _ rfl).1 (N 34 _ rfl).2
 have maO:=made_ok CO EO RO shO paO partO scO (N 27 _ rfl).1 (N 27 _ rfl).2
 have neR:=needR_ok CO EO RO hR rowO (N 9 _ rfl).1 (N 9 _ rfl).2
 have iqO:=is_quotient_ok CO EO RO uu rowO shO (N 25 _ rfl).1 (N 25 _ rfl).2
 have neQ:=needQ_ok CO EO RO hQ iqO (N 26 _ rfl).1 (N 26 _ rfl).2
 have toG:=tog_ok CO EO RO adO muO maO (N 28 _ rfl).1 (N 28 _ rfl).2
 have plR:=two_ok CO EO RO hN neR (in2_added adO) (N 19 _ rfl).1 (N 19 _ rfl).2
 have tiR:=two_ok CO EO RO hN neR (in2_mult muO) (N 20 _ rfl).1 (N 20 _ rfl).2
 have diR:=two_ok CO EO RO hN neR (in2_parted paO) (N 21 _ rfl).1 (N 21 _ rfl).2
 have coR:=two_ok CO EO RO hN neR (in2_shared shO) (N 24 _ rfl).1 (N 24 _ rfl).2
 have quR:=two_ok CO EO RO hN neR (in2_made maO) (N 29 _ rfl).1 (N 29 _ rfl).2
 have raR:=rate1_ok CO EO RO neR raG (N 22 _ rfl).1 (N 22 _ rfl).2
 have ptR:=partsR_ok CO EO RO hN neR cut (N 35 _ rfl).1 (N 35 _ rfl).2
 have joR:=joinR_ok CO EO RO neQ toG (N 30 _ rfl).1 (N 30 _ rfl).2
 have rtR:=rtdR_ok CO EO RO neQ raG muO leO maO (N 31 _ rfl).1 (N 31 _ rfl).2
 have tkR:=takR_ok CO EO RO paO cut (rai_ok CO EO RO uu muO (N 17 _ rfl).1 (N 17 _ rfl).2) shO muO (pie_ok CO EO RO paO (N 36 _ rfl).1 (N 36 _ rfl).2) (N 37 _ rfl).1 (N 37 _ rfl).2
 have apR:=apaR_ok CO EO RO neR neQ tkR (N 38 _ rfl).1 (N 38 _ rfl).2
 have gwR:=grwR_ok CO EO RO ee uu neQ tkR (groR_ok CO EO RO zz partO (N 39 _ rfl).1 (N 39 _ rfl).2) (topR_ok CO EO RO (N 40 _ rfl).1 (N 40 _ rfl).2) adO maO toG (N 41 _ rfl).1 (N 41 _ rfl).2
 have baO:=bad_ok CO EO RO (N 44 _ rfl).1 (N 44 _ rfl).2
 have wrO:=wrong_ok CO EO RO baO (N 45 _ rfl).1 (N 45 _ rfl).2
 have wqO:=wqR_ok CO EO RO baO (N 46 _ rfl).1 (N 46 _ rfl).2
 have roD:=rowsD_ok CO EO RO plR tiR diR coR quR ptR raR (N 47 _ rfl).1 (N 47 _ rfl).2
 have quD:=quosD_ok CO EO RO joR rtR gwR apR (N 48 _ rfl).1 (N 48 _ rfl).2
 refine ⟨ofR_ok CO EO RO (wordR_ok CO EO RO su roD (N 49 _ rfl).1 (N 49 _ rfl).2) wrO (N 50 _ rfl).1 (N 50 _ rfl).2,ofQ_ok CO EO RO (wordQ_ok CO EO RO su quD (N 49 _ rfl).1 (N 49 _ rfl).2) wrO wqO (N 51 _ rfl).1 (N 51 _ rfl).2,(N 43 _ rfl).1.isFn,fun x most m sto Q X hm hmo h=>row_by_ok CO EO RO LN trimL' (N 43 _ rfl).1 (N 43 _ rfl).2 hmo hm h⟩
theorem call_law08 (N:Defs08 c) (LN:LNums c) {p v:List Str} (hf:FnIs c (Str.ofString "law") p v s_law08) (hp:p.length=1) {a:Addr} {is:List Int} {sto:Sto} {o:Bool} (hs:sto a=some (.list o (is.map D.int))) (hl:is.length≤1000) :
  CallOK c 20 (Str.ofString "law") [.lst a] sto (fun d _=>d=.bool true) (fun _=>False):=by
 obtain ⟨ofR,ofQ,rb⟩:=does08 CO EO RO N LN
 obtain ⟨_,_,hstr,hstr'⟩:=LN.stream
 obtain ⟨_,_,hcel,hcel'⟩:=LN.cell_at
 refine fn_call CO EO RO hf hp.symm ?_
 have hs':=ro_at hs
 unfold s_law08
 walk_at "m"
 refine e_call rb.1 ?_
 walk_at "m"
 refine e_call hcel.isFn ?_
 walk_at "m"
 refine call_cell_at CO EO RO hcel hcel' hs' hl (by decide) fun z=>?_
 walk_at "m"
 refine rb.2 z 4 _ _ _ _ (by exact o699) (by exact lin [] [] [] [] (.nl (.k 4) (.k 50)) (.l 1 []) rfl) fun P wP lP kP=>?_
 walk_at "m"
 refine e_call rb.1 ?_
 walk_at "m"
 refine e_call hcel.isFn ?_
 walk_at "m"
 refine call_cell_at CO EO RO hcel hcel' hs' hl (by decide) fun z'=>?_
 walk_at "m"
 refine rb.2 z' 3 _ _ _ _ (by exact o699) (by exact lin [] [] [] [] (.nl (.k 3) (.k 50)) (.l 1 []) rfl) fun R wR lR kR=>?_
 walk_at "m"
 refine g_for1 ?_
 refine ⟨rfl,_,rfl,?_⟩
 refine forL_inv (fun i τ=>τ.loc 0=some (.lst a)∧τ.loc 1=some (rowD P)∧τ.loc 2=some (rowD R)∧τ.sto a=some (.list false (is.map D.int))) (fun _ _=>False) _ 0 _ ⟨rfl,rfl,rfl,hs'⟩ (fun _ _ _=>trivial) ?_ (fun _ _ z=>z.elim) ?_
 ·rintro i d τ K hd ⟨t0,t1,t2,sa⟩ hn hr
  have hi:i<3:=by have:=(List.getElem?_eq_some_iff.mp hd).1; simpa [rangeUp] using this
  obtain ⟨k,rfl,hk⟩:∃ k:Nat,d=.int k∧k<3:=by
   match i,hi with
   | 0,_=>cases hd; exact ⟨0,rfl,by exact o692⟩
   | 1,_=>cases hd; exact ⟨1,rfl,by exact lin [] [] [] [] (.nt (.k 1) (.k 3)) (.l 1 []) rfl⟩
   | 2,_=>cases hd; exact ⟨2,rfl,by exact lin [] [] [] [] (.nt (.k 2) (.k 3)) (.l 1 []) rfl⟩
  walk_at "m"
  refine e_call hstr.isFn ?_
  walk_at "m"
  refine e_call hcel.isFn ?_
  walk_at "m"
  refine call_cell_at CO EO RO hcel hcel' sa hl (by exact lin [_] [] [] [] (.il (.k 0) (.a (.k 2) (.c (.x 0)))) (.l 1 []) rfl) fun y=>?_
  walk_at "m"
  refine o_mul (PySem.IntMulOk.of_left (by decide)) ?_
  walk_at "m"
  refine call_stream CO EO RO hstr hstr' (m:=9) (by exact lin [] [] [] [] (.nl (.k 9) (.k 1000)) (.l 1 []) rfl) fun xs l hxl hxs hl'=>?_
  walk_at "m"
  refine e_call ofR.1 ?_
  walk_at "m"
  refine ofR.2 xs P R l true _ _ _ _ (by exact o706) ⟨wP,by exact o707 lP,kP⟩ ⟨wR,by exact o708 lR,kR⟩ hxl put_same ?_
  walk_at "m"
  refine if_or (fun z=>by cases z) fun _=>?_
  walk_at "m"
  refine e_call ofQ.1 ?_
  walk_at "m"
  refine ofQ.2 xs P R l true _ _ _ _ (by exact o706) ⟨wP,by exact o707 lP,kP⟩ ⟨wR,by exact o708 lR,kR⟩ hxl put_same ?_
  walk_at "m"
  refine if_or (fun z=>by cases z) fun _=>?_
  walk_at "m"
  refine if_b (fun z=>by cases z) fun _=>?_
  walk_at "m"
  exact hn _ ⟨t0,t1,t2,put_old hl' sa⟩
 ·rintro τ ⟨t0,t1,t2,sa⟩
  walk_at "m"
  exact (ret_plain rfl:Ret sto τ.sto (fun d _=>d=.bool true) (.bool true))
end
end Mine
end
open PySem PySem.W PyProof.Rows Mine
set_option maxHeartbeats 8000000 in
theorem PySem.Challenge.cw_uf030008_08_holds : PySem.Challenge.rw_uf030008_08.Holds := by
 w_on
 refine holds_law (by decide +kernel) fun said=>?_
 refine holds_open (q:=Mine.q8) (loose:=[]) (Xt:=fun s=>xlAt Mine.q8 [] s&&recOk (RowW.records Mine.r8.toRowW) s) (XP:=XL Mine.q8 []) (Yf:=Hook.obs Mine.H8) (Ya:=Hook.val Mine.H8) (YP:=Hook.says Mine.H8) (N:=6004) Mine.left8 (Hook.of Mine.H8) (Hook.keeps Mine.H8) (fun s e=>xl_of s (Bool.and_eq_true_iff.mp e).1) XL.keeps (by rfl) (by rfl) (by rfl) (fun s e=>recFacts_of (Bool.and_eq_true_iff.mp e).2) (by rfl) said (by decide +kernel) ⟨rfl,rfl,rfl,rfl,rfl,by decide +kernel⟩ ?hw ?hc
 case hw=>w_witness2
 intro w s₀ s₁ mg mb G Y fa o pm cd doc dV kV ho hd hcd hD hmg hg args vals as hpre hlay hrd hwl hlo
 have KX:=kIn_of Y
 refine Ground.open G ?_
 intro T B D TE TW
 clear ho hd hcd hD Y B D TE TW
 wrow_args hpre hlay hrd hwl hlo
 rename_i is _ _ _ _ _ _ _ la vs _ hL _ _ _ hI _ hlen _
 obtain ⟨CO,EO,RO⟩:=mk_all (prog:=Challenge.rw_uf030008_08.row.prog) (w:=w) (cs:=[(Str.ofString "ZERO",frD 0),(Str.ofString "UNIT",rowD [1]),(Str.ofString "EMPTY",qD [] [1])]) (cls:=[(nmPar,24),(nmRow,37),(nmQuo,49),(nmNou,61)]) (sub:=[(nmRow,nmPar),(nmQuo,nmPar),(nmNou,nmPar),(nmRow,nmRow),(nmQuo,nmQuo),(nmNou,nmNou),(nmPar,nmPar)]) KX T (by decide +kernel) (by rfl) (by kernel_rfl)
 have hlaw:mg (Str.ofString "law")=some (.ref fa):=hmg
 clear hmg G
 have fn:=fun {f:Str} {ps vars:List Str} {ss:List S} e el=>fnIs_top (c:=mkCxK Challenge.rw_uf030008_08.row.prog w s₁.heap mg [(Str.ofString "ZERO",frD 0),(Str.ofString "UNIT",rowD [1]),(Str.ofString "EMPTY",qD [] [1])] [(nmPar,24),(nmRow,37),(nmQuo,49),(nmNou,61)] [(nmRow,nmPar),(nmQuo,nmPar),(nmNou,nmPar),(nmRow,nmRow),(nmQuo,nmQuo),(nmNou,nmNou),(nmPar,nmPar)]) (f:=f) (ps:=ps) (vars:=vars) (ss:=ss) T e el
 have call:=call_law08 CO EO RO
  ⟨rfl,rfl,rfl,⟨rfl,⟨_,rfl⟩,⟨_,rfl⟩,⟨_,rfl⟩,⟨_,rfl⟩,fun e he=>by
   simp only [List.mem_cons,List.not_mem_nil,or_false] at he
   rcases he with rfl | rfl | rfl <;> exact ⟨rfl,rfl,rfl,rfl⟩⟩,⟨_,_,fn (ps:=[Str.ofString "one",Str.ofString "other"]) (vars:=[Str.ofString "one",Str.ofString "other",Str.ofString "here",Str.ofString "there",Str.ofString "rest"]) (by kernel_rfl) (by kernel_rfl),rfl⟩,⟨_,_,fn (ps:=[Str.ofString "top",Str.ofString "bottom"]) (vars:=[Str.ofString "top",Str.ofString "bottom",Str.ofString "by"]) (by kernel_rfl) (by kernel_rfl),rfl⟩,⟨_,_,fn (ps:=[Str.ofString "thing"]) (vars:=[Str.ofString "thing"]) (by kernel_rfl) (by kernel_rfl),rfl⟩,⟨_,_,fn (ps:=[Str.ofString "thing"]) (vars:=[Str.ofString "thing"]) (by kernel_rfl) (by kernel_rfl),rfl⟩,⟨_,_,fn (ps:=[Str.ofString "one",Str.ofString "other"]) (vars:=[Str.ofString "one",Str.ofString "other"]) (by kernel_rfl) (by kernel_rfl),rfl⟩,⟨_,_,fn (ps:=[Str.ofString "one",Str.ofString "other"]) (vars:=[Str.ofString "one",Str.ofString "other"]) (by kernel_rfl) (by kernel_rfl),rfl⟩,⟨_,_,fn (ps:=[Str.ofString "one",Str.ofString "other"]) (vars:=[Str.ofString "one",Str.ofString "other"]) (by kernel_rfl) (by kernel_rfl),rfl⟩,⟨_,_,fn (ps:=[Str.ofString "one"]) (vars:=[Str.ofString "one"]) (by kernel_rfl) (by kernel_rfl),rfl⟩,⟨_,_,fn (ps:=[Str.ofString "thing"]) (vars:=[Str.ofString "thing",Str.ofString "one"]) (by kernel_rfl) (by kernel_rfl),rfl⟩,⟨_,_,fn (ps:=[Str.ofString "thing"]) (vars:=[Str.ofString "thing"]) (by kernel_rfl) (by kernel_rfl),rfl⟩,⟨_,_,fn (ps:=[Str.ofString "some"]) (vars:=[Str.ofString "some",Str.ofString "size"]) (by kernel_rfl) (by kernel_rfl),rfl⟩,⟨_,_,fn (ps:=[Str.ofString "one",Str.ofString "other"]) (vars:=[Str.ofString "one",Str.ofString "other",Str.ofString "found",Str.ofString "place"]) (by kernel_rfl) (by kernel_rfl),rfl⟩,⟨_,_,fn (ps:=[Str.ofString "row",Str.ofString "number"]) (vars:=[Str.ofString "row",Str.ofString "number"]) (by kernel_rfl) (by kernel_rfl),rfl⟩,⟨_,_,fn (ps:=[Str.ofString "one",Str.ofString "other"]) (vars:=[Str.ofString "one",Str.ofString "other"]) (by kernel_rfl) (by kernel_rfl),rfl⟩,⟨_,_,fn (ps:=[Str.ofString "one",Str.ofString "other"]) (vars:=[Str.ofString "one",Str.ofString "other",Str.ofString "found",Str.ofString "here",Str.ofString "there"]) (by kernel_rfl) (by kernel_rfl),rfl⟩,⟨_,_,fn (ps:=[Str.ofString "one",Str.ofString "other"]) (vars:=[Str.ofString "one",Str.ofString "other",Str.ofString "rest",Str.ofString "whole",Str.ofString "place",Str.ofString "often",Str.ofString "at"]) (by kernel_rfl) (by kernel_rfl),rfl⟩,⟨_,_,fn (ps:=[Str.ofString "row"]) (vars:=[Str.ofString "row"]) (by kernel_rfl) (by kernel_rfl),rfl⟩,⟨_,_,fn (ps:=[Str.ofString "row",Str.ofString "power"]) (vars:=[Str.ofString "row",Str.ofString "power",Str.ofString "found",Str.ofString "turn"]) (by kernel_rfl) (by kernel_rfl),rfl⟩,⟨_,_,fn (ps:=[Str.ofString "row"]) (vars:=[Str.ofString "row"]) (by kernel_rfl) (by kernel_rfl),rfl⟩,⟨_,_,fn (ps:=[Str.ofString "one",Str.ofString "other"]) (vars:=[Str.ofString "one",Str.ofString "other"]) (by kernel_rfl) (by kernel_rfl),rfl⟩,⟨_,_,fn (ps:=[Str.ofString "one",Str.ofString "other"]) (vars:=[Str.ofString "one",Str.ofString "other"]) (by kernel_rfl) (by kernel_rfl),rfl⟩,⟨_,_,fn (ps:=[Str.ofString "one",Str.ofString "other"]) (vars:=[Str.ofString "one",Str.ofString "other"]) (by kernel_rfl) (by kernel_rfl),rfl⟩,⟨_,_,fn (ps:=[Str.ofString "row"]) (vars:=[Str.ofString "row"]) (by kernel_rfl) (by kernel_rfl),rfl⟩,⟨_,_,fn (ps:=[Str.ofString "one",Str.ofString "other"]) (vars:=[Str.ofString "one",Str.ofString "other",Str.ofString "ahead",Str.ofString "behind",Str.ofString "whole",Str.ofString "rest",Str.ofString "first",Str.ofString "second",Str.ofString "by"]) (by kernel_rfl) (by kernel_rfl),rfl⟩,⟨_,_,fn (ps:=[Str.ofString "one",Str.ofString "other"]) (vars:=[Str.ofString "one",Str.ofString "other"]) (by kernel_rfl) (by kernel_rfl),rfl⟩,⟨_,_,fn (ps:=[Str.ofString "thing"]) (vars:=[Str.ofString "thing"]) (by kernel_rfl) (by kernel_rfl),rfl⟩,⟨_,_,fn (ps:=[Str.ofString "thing"]) (vars:=[Str.ofString "thing"]) (by kernel_rfl) (by kernel_rfl),rfl⟩,⟨_,_,fn (ps:=[Str.ofString "top",Str.ofString "bottom"]) (vars:=[Str.ofString "top",Str.ofString "bottom",Str.ofString "both",Str.ofString "high",Str.ofString "low",Str.ofString "by"]) (by kernel_rfl) (by kernel_rfl),rfl⟩,⟨_,_,fn (ps:=[Str.ofString "one",Str.ofString "other"]) (vars:=[Str.ofString "one",Str.ofString "other",Str.ofString "top"]) (by kernel_rfl) (by kernel_rfl),rfl⟩,⟨_,_,fn (ps:=[Str.ofString "top",Str.ofString "bottom"]) (vars:=[Str.ofString "top",Str.ofString "bottom"]) (by kernel_rfl) (by kernel_rfl),rfl⟩,⟨_,_,fn (ps:=[Str.ofString "one",Str.ofString "other"]) (vars:=[Str.ofString "one",Str.ofString "other"]) (by kernel_rfl) (by kernel_rfl),rfl⟩,⟨_,_,fn (ps:=[Str.ofString "one"]) (vars:=[Str.ofString "one",Str.ofString "high",Str.ofString "low"]) (by kernel_rfl) (by kernel_rfl),rfl⟩,⟨_,_,fn (ps:=[Str.ofString "row"]) (vars:=[Str.ofString "row",Str.ofString "whole",Str.ofString "more",Str.ofString "left",Str.ofString "found",Str.ofString "power",Str.ofString "again",Str.ofString "alone"]) (by kernel_rfl) (by kernel_rfl),rfl⟩,⟨_,_,fn (ps:=[Str.ofString "some",Str.ofString "other"]) (vars:=[Str.ofString "some",Str.ofString "other",Str.ofString "found",Str.ofString "part",Str.ofString "power",Str.ofString "inside",Str.ofString "outside",Str.ofString "piece"]) (by kernel_rfl) (by kernel_rfl),rfl⟩,⟨_,_,fn (ps:=[Str.ofString "row",Str.ofString "told"]) (vars:=[Str.ofString "row",Str.ofString "told",Str.ofString "found",Str.ofString "other"]) (by kernel_rfl) (by kernel_rfl),rfl⟩,⟨_,_,fn (ps:=[Str.ofString "row",Str.ofString "told"]) (vars:=[Str.ofString "row",Str.ofString "told",Str.ofString "other"]) (by kernel_rfl) (by kernel_rfl),rfl⟩,⟨_,_,fn (ps:=[Str.ofString "top",Str.ofString "part",Str.ofString "power"]) (vars:=[Str.ofString "top",Str.ofString "part",Str.ofString "power",Str.ofString "found",Str.ofString "many",Str.ofString "rest"]) (by kernel_rfl) (by kernel_rfl),rfl⟩,⟨_,_,fn (ps:=[Str.ofString "one",Str.ofString "told"]) (vars:=[Str.ofString "one",Str.ofString "told",Str.ofString "whole",Str.ofString "rest",Str.ofString "found",Str.ofString "part",Str.ofString "power",Str.ofString "mine",Str.ofString "others",Str.ofString "back",Str.ofString "top"]) (by kernel_rfl) (by kernel_rfl),rfl⟩,⟨_,_,fn (ps:=[Str.ofString "one",Str.ofString "told"]) (vars:=[Str.ofString "one",Str.ofString "told",Str.ofString "other"]) (by kernel_rfl) (by kernel_rfl),rfl⟩,⟨_,_,fn (ps:=[Str.ofString "row"]) (vars:=[Str.ofString "row"]) (by kernel_rfl) (by kernel_rfl),rfl⟩,⟨_,_,fn (ps:=[Str.ofString "pieces"]) (vars:=[Str.ofString "pieces",Str.ofString "found",Str.ofString "top",Str.ofString "part",Str.ofString "power"]) (by kernel_rfl) (by kernel_rfl),rfl⟩,⟨_,_,fn (ps:=[Str.ofString "one"]) (vars:=[Str.ofString "one",Str.ofString "whole",Str.ofString "pieces",Str.ofString "grown",Str.ofString "rest",Str.ofString "part",Str.ofString "tops",Str.ofString "left",Str.ofString "power",Str.ofString "step"]) (by kernel_rfl) (by kernel_rfl),rfl⟩,⟨_,_,fn (ps:=[Str.ofString "_law_row"]) (vars:=[Str.ofString "_law_row"]) (by kernel_rfl) (by kernel_rfl),rfl⟩,⟨_,_,fn (ps:=[Str.ofString "_law_x",Str.ofString "_law_most"]) (vars:=[Str.ofString "_law_x",Str.ofString "_law_most",Str.ofString "_law_xs"]) (by kernel_rfl) (by kernel_rfl),rfl⟩,⟨_,_,fn (ps:=[Str.ofString "_law_x"]) (vars:=[Str.ofString "_law_x"]) (by kernel_rfl) (by kernel_rfl),rfl⟩,⟨_,_,fn (ps:=[Str.ofString "_law_x",Str.ofString "_law_row"]) (vars:=[Str.ofString "_law_x",Str.ofString "_law_row",Str.ofString "_law_at"]) (by kernel_rfl) (by kernel_rfl),rfl⟩,⟨_,_,fn (ps:=[Str.ofString "_law_x",Str.ofString "_law_row"]) (vars:=[Str.ofString "_law_x",Str.ofString "_law_row",Str.ofString "_law_wrong",Str.ofString "_law_at",Str.ofString "_law_bad_here"]) (by kernel_rfl) (by kernel_rfl),rfl⟩,⟨_,_,fn (ps:=[Str.ofString "_law_which",Str.ofString "_law_one",Str.ofString "_law_other",Str.ofString "_law_told"]) (vars:=[Str.ofString "_law_which",Str.ofString "_law_one",Str.ofString "_law_other",Str.ofString "_law_told"]) (by kernel_rfl) (by kernel_rfl),rfl⟩,⟨_,_,fn (ps:=[Str.ofString "_law_which",Str.ofString "_law_one",Str.ofString "_law_other",Str.ofString "_law_told"]) (vars:=[Str.ofString "_law_which",Str.ofString "_law_one",Str.ofString "_law_other",Str.ofString "_law_told"]) (by kernel_rfl) (by kernel_rfl),rfl⟩,⟨_,_,fn (ps:=[Str.ofString "_law_deed",Str.ofString "_law_which",Str.ofString "_law_one",Str.ofString "_law_other",Str.ofString "_law_told"]) (vars:=[Str.ofString "_law_deed",Str.ofString "_law_which",Str.ofString "_law_one",Str.ofString "_law_other",Str.ofString "_law_told",Str.ofString "e",Str.ofString "_law_kinds"]) (by kernel_rfl) (by kernel_rfl),rfl⟩,⟨_,_,fn (ps:=[Str.ofString "_law_xs",Str.ofString "_law_row",Str.ofString "_law_other"]) (vars:=[Str.ofString "_law_xs",Str.ofString "_law_row",Str.ofString "_law_other",Str.ofString "_law_which",Str.ofString "_law_bad_here",Str.ofString "_law_one",Str.ofString "_law_two",Str.ofString "_law_told",Str.ofString "_law_due"]) (by kernel_rfl) (by kernel_rfl),rfl⟩,⟨_,_,fn (ps:=[Str.ofString "_law_xs",Str.ofString "_law_row",Str.ofString "_law_other"]) (vars:=[Str.ofString "_law_xs",Str.ofString "_law_row",Str.ofString "_law_other",Str.ofString "_law_which",Str.ofString "_law_bad_here",Str.ofString "_law_good",Str.ofString "_law_one",Str.ofString "_law_two",Str.ofString "_law_told",Str.ofString "_law_due"]) (by kernel_rfl) (by kernel_rfl),rfl⟩,trivial⟩
  ⟨⟨_,_,fn (ps:=[Str.ofString "_law_script",Str.ofString "_law_k"]) (vars:=[Str.ofString "_law_script",Str.ofString "_law_k"]) (by kernel_rfl) (by kernel_rfl),rfl⟩,⟨_,_,fn (ps:=[Str.ofString "_law_cell",Str.ofString "_law_many"]) (vars:=[Str.ofString "_law_cell",Str.ofString "_law_many",Str.ofString "_law_found",Str.ofString "_law_number_here",Str.ofString "_law_k"]) (by kernel_rfl) (by kernel_rfl),rfl⟩,⟨_,_,fn (ps:=[Str.ofString "_law_one",Str.ofString "_law_other"]) (vars:=[Str.ofString "_law_one",Str.ofString "_law_other"]) (by kernel_rfl) (by kernel_rfl),rfl⟩,⟨_,_,fn (ps:=[Str.ofString "_law_top",Str.ofString "_law_bottom"]) (vars:=[Str.ofString "_law_top",Str.ofString "_law_bottom",Str.ofString "_law_by"]) (by kernel_rfl) (by kernel_rfl),rfl⟩,⟨_,_,fn (ps:=[Str.ofString "_law_x"]) (vars:=[Str.ofString "_law_x"]) (by kernel_rfl) (by kernel_rfl),rfl⟩⟩ (fn (ps:=[Str.ofString "_law_script"]) (vars:=[Str.ofString "_law_script",Str.ofString "_law_row",Str.ofString "_law_other",Str.ofString "_law_k",Str.ofString "_law_xs"]) (by kernel_rfl) (by kernel_rfl)) rfl (a:=la) (is:=is) (o:=false) (sto:=fun b=>if b=la then some (.list false (is.map D.int)) else none) (if_pos rfl) (by omega)
 refine law_end (c:=mkCxK Challenge.rw_uf030008_08.row.prog w s₁.heap mg [(Str.ofString "ZERO",frD 0),(Str.ofString "UNIT",rowD [1]),(Str.ofString "EMPTY",qD [] [1])] [(nmPar,24),(nmRow,37),(nmQuo,49),(nmNou,61)] [(nmRow,nmPar),(nmQuo,nmPar),(nmNou,nmPar),(nmRow,nmRow),(nmQuo,nmQuo),(nmNou,nmNou),(nmPar,nmPar)]) rfl hlaw hL hI (by omega) call fun h' t hk=>?_
 refine ⟨.inl ⟨_,ofPy (.bool true),[],rfl,?_,?_,?_,?_⟩,?_,rfl,?_⟩
 ·exact raisesW_false (by wrow_none_raised)
 ·exact .bool true
 ·wrow_post
 ·intro h; exact ⟨List.nodup_nil,fun a ha=>by cases ha⟩
 ·exact .of_keep hk
 ·exact .of_eq hg
