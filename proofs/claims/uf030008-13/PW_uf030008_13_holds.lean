import PyProof.Rows.All
import Wide.All
import Open.Line
import Wide.FinOn
import PyProof.Cells
import PyProof.DictCalls
import PyProof.DictWalks
import PyProof.MinMaxWalk
import PyProof.Rows.TupIn
import PyProof.CompFree
import PyProof.StationsW
import PyProof.PureInt
import PyProof.EqKinds
import PyProof.TupleIter
import PyProof.TupleOps
import PyProof.WalksMore
import PyProof.NoPylong
import PyProof.ForAny
import PyProof.EvalArms
import PyProof.ListMulRoad
import PyProof.SumWalk
import PyProof.WalkInts
import PyProof.DictStraight
import PyProof.Rows.Range3
import OpenK.KWalk
import PySem.Challenge.RW_uf030008_13
set_option Elab.async false
set_option bootstrap.genMatcherCode false
set_option compiler.extract_closed false
set_option linter.defProp false
set_option maxRecDepth 100000
set_option linter.unusedVariables false
namespace Mine
abbrev LR:=List Rat
abbrev NR:=Nat->Rat
theorem zq {a b:Nat} (h:Nat.ble a b=true):a<=b:=Nat.le_of_ble_eq_true h
end Mine
namespace Mine
section
open PySem PySem.W PyProof.Rows
noncomputable def k13 (P:Params):Frag:=[
  (3,{ cls:=Value.type "dict",data:=Data.dict #[{ hash:=PyData.keyHash P "__name__",key:=Value.str "__name__" 165,val:=Value.str "law_uf030008_13" 608 },{ hash:=PyData.keyHash P "__doc__",key:=Value.str "__doc__" 166,val:=Value.none },{ hash:=PyData.keyHash P "__package__",key:=Value.str "__package__" 167,val:=Value.none },{ hash:=PyData.keyHash P "__loader__",key:=Value.str "__loader__" 168,val:=Value.builtin "__main__.__loader__#opaque" },{ hash:=PyData.keyHash P "__spec__",key:=Value.str "__spec__" 169,val:=Value.none },{ hash:=PyData.keyHash P "__annotations__",key:=Value.str "__annotations__" 170,val:=Value.ref 6 },{ hash:=PyData.keyHash P "__builtins__",key:=Value.str "__builtins__" 171,val:=Value.ref 4 },{ hash:=PyData.keyHash P "__file__",key:=Value.str "__file__" 173,val:=Value.str "/claim/cut.py" 172 },{ hash:=PyData.keyHash P "__cached__",key:=Value.str "__cached__" 174,val:=Value.none },{ hash:=PyData.keyHash P "PartError",key:=Value.str "PartError" 206,val:=Value.ref 24 },{ hash:=PyData.keyHash P "NoRow",key:=Value.str "NoRow" 222,val:=Value.ref 37 },{ hash:=PyData.keyHash P "NoQuotient",key:=Value.str "NoQuotient" 238,val:=Value.ref 49 },{ hash:=PyData.keyHash P "Nought",key:=Value.str "Nought" 254,val:=Value.ref 61 },{ hash:=PyData.keyHash P "is_whole",key:=Value.str "is_whole" 263,val:=Value.ref 70 },{ hash:=PyData.keyHash P "divisor_of",key:=Value.str "divisor_of" 274,val:=Value.ref 77 },{ hash:=PyData.keyHash P "fraction",key:=Value.str "fraction" 283,val:=Value.ref 84 },{ hash:=PyData.keyHash P "is_fraction",key:=Value.str "is_fraction" 290,val:=Value.ref 91 },{ hash:=PyData.keyHash P "sum_of",key:=Value.str "sum_of" 298,val:=Value.ref 98 },{ hash:=PyData.keyHash P "product_of",key:=Value.str "product_of" 306,val:=Value.ref 105 },{ hash:=PyData.keyHash P "part_of",key:=Value.str "part_of" 314,val:=Value.ref 112 },{ hash:=PyData.keyHash P "turned",key:=Value.str "turned" 321,val:=Value.ref 119 },{ hash:=PyData.keyHash P "ZERO",key:=Value.str "ZERO" 326,val:=Value.ref 120 },{ hash:=PyData.keyHash P "UNIT",key:=Value.str "UNIT" 329,val:=Value.ref 122 },{ hash:=PyData.keyHash P "is_row",key:=Value.str "is_row" 337,val:=Value.ref 129 },{ hash:=PyData.keyHash P "need_row",key:=Value.str "need_row" 344,val:=Value.ref 136 },{ hash:=PyData.keyHash P "trimmed",key:=Value.str "trimmed" 352,val:=Value.ref 143 },{ hash:=PyData.keyHash P "added",key:=Value.str "added" 362,val:=Value.ref 150 },{ hash:=PyData.keyHash P "scaled",key:=Value.str "scaled" 368,val:=Value.ref 155 },{ hash:=PyData.keyHash P "lessened",key:=Value.str "lessened" 376,val:=Value.ref 162 },{ hash:=PyData.keyHash P "multiplied",key:=Value.str "multiplied" 387,val:=Value.ref 169 },{ hash:=PyData.keyHash P "parted",key:=Value.str "parted" 400,val:=Value.ref 176 },{ hash:=PyData.keyHash P "led",key:=Value.str "led" 407,val:=Value.ref 183 },{ hash:=PyData.keyHash P "raised",key:=Value.str "raised" 417,val:=Value.ref 190 },{ hash:=PyData.keyHash P "rate_of",key:=Value.str "rate_of" 423,val:=Value.ref 195 },{ hash:=PyData.keyHash P "shared",key:=Value.str "shared" 440,val:=Value.ref 202 },{ hash:=PyData.keyHash P "EMPTY",key:=Value.str "EMPTY" 445,val:=Value.ref 206 },{ hash:=PyData.keyHash P "is_quotient",key:=Value.str "is_quotient" 452,val:=Value.ref 213 },{ hash:=PyData.keyHash P "need_quotient",key:=Value.str "need_quotient" 459,val:=Value.ref 220 },{ hash:=PyData.keyHash P "made",key:=Value.str "made" 471,val:=Value.ref 227 },{ hash:=PyData.keyHash P "together",key:=Value.str "together" 480,val:=Value.ref 234 },{ hash:=PyData.keyHash P "quotient",key:=Value.str "quotient" 488,val:=Value.ref 241 },{ hash:=PyData.keyHash P "by_powers",key:=Value.str "by_powers" 504,val:=Value.ref 248 },{ hash:=PyData.keyHash P "cut_by",key:=Value.str "cut_by" 518,val:=Value.ref 255 },{ hash:=PyData.keyHash P "cut",key:=Value.str "cut" 528,val:=Value.ref 262 },{ hash:=PyData.keyHash P "pieces_of",key:=Value.str "pieces_of" 540,val:=Value.ref 269 },{ hash:=PyData.keyHash P "taken",key:=Value.str "taken" 557,val:=Value.ref 276 },{ hash:=PyData.keyHash P "grown_row",key:=Value.str "grown_row" 565,val:=Value.ref 281 },{ hash:=PyData.keyHash P "lowered",key:=Value.str "lowered" 580,val:=Value.ref 288 },{ hash:=PyData.keyHash P "tops_by_parts",key:=Value.str "tops_by_parts" 591,val:=Value.ref 295 },{ hash:=PyData.keyHash P "growth",key:=Value.str "growth" 607,val:=Value.ref 302 },{ hash:=PyData.keyHash P "_law_cell_at",key:=Value.str "_law_cell_at" 617,val:=Value.ref 309 },{ hash:=PyData.keyHash P "_law_stream",key:=Value.str "_law_stream" 628,val:=Value.ref 316 },{ hash:=PyData.keyHash P "_law_divisor",key:=Value.str "_law_divisor" 636,val:=Value.ref 323 },{ hash:=PyData.keyHash P "_law_fraction",key:=Value.str "_law_fraction" 645,val:=Value.ref 330 },{ hash:=PyData.keyHash P "_law_sum",key:=Value.str "_law_sum" 653,val:=Value.ref 337 },{ hash:=PyData.keyHash P "_law_product",key:=Value.str "_law_product" 661,val:=Value.ref 344 },{ hash:=PyData.keyHash P "_law_trim",key:=Value.str "_law_trim" 668,val:=Value.ref 351 },{ hash:=PyData.keyHash P "_law_plus",key:=Value.str "_law_plus" 674,val:=Value.ref 356 },{ hash:=PyData.keyHash P "_law_scale",key:=Value.str "_law_scale" 680,val:=Value.ref 361 },{ hash:=PyData.keyHash P "_law_times",key:=Value.str "_law_times" 690,val:=Value.ref 368 },{ hash:=PyData.keyHash P "_law_rate",key:=Value.str "_law_rate" 696,val:=Value.ref 373 },{ hash:=PyData.keyHash P "_law_power",key:=Value.str "_law_power" 706,val:=Value.ref 380 },{ hash:=PyData.keyHash P "_law_number",key:=Value.str "_law_number" 713,val:=Value.ref 387 },{ hash:=PyData.keyHash P "_law_row_by",key:=Value.str "_law_row_by" 719,val:=Value.ref 392 },{ hash:=PyData.keyHash P "_law_factors",key:=Value.str "_law_factors" 725,val:=Value.ref 397 },{ hash:=PyData.keyHash P "_law_powers",key:=Value.str "_law_powers" 739,val:=Value.ref 404 },{ hash:=PyData.keyHash P "_law_many",key:=Value.str "_law_many" 746,val:=Value.ref 411 },{ hash:=PyData.keyHash P "_law_bottom",key:=Value.str "_law_bottom" 757,val:=Value.ref 418 },{ hash:=PyData.keyHash P "_law_slope",key:=Value.str "_law_slope" 765,val:=Value.ref 425 },{ hash:=PyData.keyHash P "_law_proper",key:=Value.str "_law_proper" 774,val:=Value.ref 432 },{ hash:=PyData.keyHash P "law",key:=Value.str "law" 780,val:=Value.ref 437 }] 71 }),
  (120,{ cls:=Value.type "tuple",data:=Data.seq #[Value.int 0 324,Value.int 1 325] }),
  (121,{ cls:=Value.type "tuple",data:=Data.seq #[Value.int 1 327,Value.int 1 328] }),
  (122,{ cls:=Value.type "tuple",data:=Data.seq #[Value.ref 121] }),
  (203,{ cls:=Value.type "tuple",data:=Data.seq #[] }),
  (204,{ cls:=Value.type "tuple",data:=Data.seq #[Value.int 1 443,Value.int 1 444] }),
  (205,{ cls:=Value.type "tuple",data:=Data.seq #[Value.ref 204] }),
  (206,{ cls:=Value.type "tuple",data:=Data.seq #[Value.ref 203,Value.ref 205] })]
noncomputable abbrev r13:=PySem.Challenge.rw_uf030008_13.row
noncomputable def BQ:Program:={ r13.prog with main:={ r13.prog.main with body:=r13.prog.main.body.filter fun s=>(nameLine? s).isNone } }
noncomputable abbrev Hv:Hook:=kHook k13 [3,120,121,122,203,204,205,206] (fun _=>rfl)
set_option maxHeartbeats 8000000 in
theorem acd (w:World):(openEnds treeTable r13.prog w 5398).map (fun s=>seen ((recsOf BQ).map (·.name)) (ownsOf BQ) [] { s with gens:=#[] })=some (expectedOf BQ):=by kernel_rfl
set_option maxHeartbeats 8000000 in
theorem ace (w:World):(openEnds treeTable r13.prog w 5398).map (fun s=>((s.heap.bltView,s.heap.keysOk (looseW BQ []) ((recsOf BQ).map (·.name)) ((litsOf BQ).map (·.1)) ((clssOf BQ (looseW BQ [])).map (·.name)),s.heap.accountedOkI (importedModules r13.prog.main.body)),(s.heap.isNs mainGlobals,s.heap.isNs builtinsNs,tablesOk BQ s.heap,(xlAt BQ [] s&&recOk (RowW.records r13.toRowW) s),(if true then s.gens.size==0 else !leftWithCleanup s.gens)),(pinSeenD BQ (drecsOf BQ) s,plainSeenE BQ (looseW BQ []) s,plainSeenD BQ [] s,wideSeen BQ s,clsSeenW BQ [] s),Hook.obs Hv s))=some (((bltViewBooted,true,true),(true,true,true,true,true),(pinGoodD (drecsOf BQ),plainGoodE BQ (looseW BQ []),plainGoodD BQ [],wideGood BQ,clsGoodW BQ []),Hook.val Hv w)):=by kernel_rfl
set_option maxHeartbeats 8000000 in
theorem acf (w:World):(openEnds treeTable r13.prog w 5398).map (fun s=>tabsOk BQ s)=some (true):=by kernel_rfl
theorem S9 {σ A B E Y:Type} {O:Option σ} {f1:σ->A} {f2:σ->B} {k1 k2 n1 n2 n3 n4 n5 t:σ->Bool} {f5:σ->E} {y:σ->Y} {a:A} {b:B} {e:E} {z:Y} (h1:O.map f1=some a) (h2:O.map (fun s=>((f2 s,k1 s,k2 s),(n1 s,n2 s,n3 s,n4 s,n5 s),f5 s,y s))=some ((b,true,true),(true,true,true,true,true),e,z)) (h3:O.map t=some true):O.map (fun s=>((f1 s,f2 s,k1 s&&k2 s&&n1 s&&n2 s&&n3 s&&n4 s&&n5 s,t s,f5 s),y s))=some ((a,b,true,true,e),z):=by
 cases O with
 | none=>cases h1
 | some s =>
  simp only [Option.map_some,Option.some.injEq,Prod.mk.injEq] at h1 h2 h3;simp only [Option.map_some,h1,h2,h3,Bool.and_self]
theorem RT {p q:Program} {loose:List Str} {Xt:Shared->Bool} {α:Type} {Yf:Shared->α} {Ya:World->α} {N:Nat}
  (h1:∀ w,(openEnds treeTable p w N).map (fun s=>seen ((recsOf q).map (·.name)) (ownsOf q) [] { s with gens:=#[] })=some (expectedOf q))
  (h2:∀ w,(openEnds treeTable p w N).map (fun s=>((s.heap.bltView,s.heap.keysOk (looseW q loose) ((recsOf q).map (·.name)) ((litsOf q).map (·.1)) ((clssOf q (looseW q loose)).map (·.name)),s.heap.accountedOkI (importedModules p.main.body)),(s.heap.isNs mainGlobals,s.heap.isNs builtinsNs,tablesOk q s.heap,Xt s,(if true then s.gens.size==0 else !leftWithCleanup s.gens)),(pinSeenD q (drecsOf q) s,plainSeenE q (looseW q loose) s,plainSeenD q loose s,wideSeen q s,clsSeenW q loose s),Yf s))=some ((bltViewBooted,true,true),(true,true,true,true,true),(pinGoodD (drecsOf q),plainGoodE q (looseW q loose),plainGoodD q loose,wideGood q,clsGoodW q loose),Ya w))
  (h3:∀ w,(openEnds treeTable p w N).map (fun s=>tabsOk q s)=some true):LeftO p q loose Xt Yf Ya N:=fun w=>S9 (h1 w) (h2 w) (h3 w)
theorem Ta:LeftO r13.prog BQ [] (fun s=>xlAt BQ [] s&&recOk (RowW.records r13.toRowW) s) (Hook.obs Hv) (Hook.val Hv) 5398:=RT acd ace acf
end
end Mine
noncomputable section
namespace Mine
set_option genSizeOf false
set_option genInjectivity false
mutual
inductive NT where
 | x (i:Nat) | k (n:Nat) | a (p q:NT) | s (p q:NT) | m (c:Nat) (p:NT) | r (p:NT) (c:Nat) | u (p q:NT) | v (p q:NT) | t (p:IT) | b (p:IT)
inductive IT where
 | x (i:Nat) | k (z:Int) | c (p:NT) | a (p q:IT) | s (p q:IT) | g (p:IT) | m (z:Int) (p:IT) | r (p:IT) (z:Int) | u (p q:IT) | v (p q:IT)
end
inductive CT where
 | l (p q:NT) | t (p q:NT) | e (p q:NT) | L (p q:IT) | T (p q:IT) | E (p q:IT) | f | n (c:CT) | w (a b:CT) | o (a b:CT)
def atN:List Nat->Nat->Nat
 | [],_=>0
 | v :: _,0=>v
 | _ :: l,i+1=>atN l i
def Ja:List Int->Nat->Int
 | [],_=>0
 | v :: _,0=>v
 | _ :: l,i+1=>Ja l i
mutual
def NT.d (N:List Nat) (I:List Int):NT->Nat
 | .x i=>atN N i
 | .k n=>n
 | .a p q=>p.d N I+q.d N I
 | .s p q=>p.d N I - q.d N I
 | .m c p=>c*p.d N I
 | .r p c=>p.d N I*c
 | .u p q=>max (p.d N I) (q.d N I)
 | .v p q=>min (p.d N I) (q.d N I)
 | .t p=>(p.d N I).toNat
 | .b p=>(p.d N I).natAbs
def IT.d (N:List Nat) (I:List Int):IT->Int
 | .x i=>Ja I i
 | .k z=>z
 | .c p=>(p.d N I:Int)
 | .a p q=>p.d N I+q.d N I
 | .s p q=>p.d N I - q.d N I
 | .g p=>- p.d N I
 | .m z p=>z*p.d N I
 | .r p z=>p.d N I*z
 | .u p q=>max (p.d N I) (q.d N I)
 | .v p q=>min (p.d N I) (q.d N I)
end
def CT.d (N:List Nat) (I:List Int):CT->Prop
 | .l p q=>p.d N I<=q.d N I
 | .t p q=>p.d N I<q.d N I
 | .e p q=>p.d N I=q.d N I
 | .L p q=>p.d N I<=q.d N I
 | .T p q=>p.d N I<q.d N I
 | .E p q=>p.d N I=q.d N I
 | .f=>False
 | .n c=>¬ c.d N I
 | .w a b=>a.d N I/\b.d N I
 | .o a b=>a.d N I\/b.d N I
structure Po where
 c:Int
 n:List Int
 i:List Int
def AU:List Int->List Int->Int
 | c :: cs,v :: vs=>c*v+AU cs vs
 | _,_=>0
def FT:List Nat->List Int
 | []=>[]
 | v :: l=>(v:Int) :: FT l
def Po.e (N:List Nat) (I:List Int) (p:Po):Int:=p.c+(AU p.n (FT N)+AU p.i I)
def JN:List Int->List Int->List Int
 | [],l=>l
 | a :: l,[]=>a :: l
 | a :: l,b :: m=>(a+b) :: JN l m
def G3 (z:Int):List Int->List Int
 | []=>[]
 | a :: l=>z*a :: G3 z l
def Fo:Nat->List Int
 | 0=>[1]
 | i+1=>0 :: Fo i
def Po.add (p q:Po):Po:=⟨p.c+q.c,JN p.n q.n,JN p.i q.i⟩
def Po.mul (z:Int) (p:Po):Po:=⟨z*p.c,G3 z p.n,G3 z p.i⟩
def Po.sub (p q:Po):Po:=p.add (q.mul (-1))
def Po.dec (p:Po):Po:=p.add ⟨-1,[],[]⟩
theorem Mf (a b c d:Int):a+b+(c+d)=a+c+(b+d):=by rw [Int.add_assoc,Int.add_left_comm b,Int.add_assoc]
theorem Id:∀ (l m N:List Int),AU (JN l m) N=AU l N+AU m N
 | [],m,N=>(Int.zero_add _).symm
 | a :: l,[],N=>(Int.add_zero _).symm
 | a :: l,b :: m,[]=>rfl
 | a :: l,b :: m,v :: N=>by
  show (a+b)*v+AU (JN l m) N=a*v+AU l N+(b*v+AU m N);rw [Id l m N,Int.add_mul,Mf]
theorem Ie (z:Int):∀ (l N:List Int),AU (G3 z l) N=z*AU l N
 | [],N=>(Int.mul_zero z).symm
 | a :: l,[]=>(Int.mul_zero z).symm
 | a :: l,v :: N=>by
  show z*a*v+AU (G3 z l) N=z*(a*v+AU l N);rw [Ie z l N,Int.mul_add,Int.mul_assoc]
theorem G4:∀ (i:Nat) (N:List Int),AU (Fo i) N=Ja N i
 | 0,[]=>rfl
 | 0,v :: N=>by show 1*v+0=v; rw [Int.add_zero,Int.one_mul]
 | i+1,[]=>rfl
 | i+1,v :: N=>by
  show 0*v+AU (Fo i) N=Ja N i;rw [G4 i N,Int.zero_mul,Int.zero_add]
theorem Nv:∀ (N:List Nat) (i:Nat),Ja (FT N) i=(atN N i:Int)
 | [],0=>rfl
 | [],i+1=>rfl
 | v :: N,0=>rfl
 | v :: N,i+1=>Nv N i
theorem Po.e_add (N:List Nat) (I:List Int) (p q:Po):(p.add q).e N I=p.e N I+q.e N I:=by
 show p.c+q.c+(AU (JN p.n q.n) (FT N)+AU (JN p.i q.i) I)=p.c+(AU p.n (FT N)+AU p.i I)+(q.c+(AU q.n (FT N)+AU q.i I));rw [Id,Id,Mf (AU p.n (FT N)),Mf p.c]
theorem Po.e_mul (N:List Nat) (I:List Int) (z:Int) (p:Po):(p.mul z).e N I=z*p.e N I:=by
 show z*p.c+(AU (G3 z p.n) (FT N)+AU (G3 z p.i) I)=z*(p.c+(AU p.n (FT N)+AU p.i I));rw [Ie,Ie,Int.mul_add,Int.mul_add]
theorem Po.e_k (N:List Nat) (I:List Int) (z:Int):Po.e N I ⟨z,[],[]⟩=z:=Int.add_zero z
theorem Po.e_sub (N:List Nat) (I:List Int) (p q:Po):(p.sub q).e N I=p.e N I - q.e N I:=by
 unfold Po.sub;rw [Po.e_add,Po.e_mul,Int.neg_one_mul,Int.sub_eq_add_neg]
theorem Po.e_dec (N:List Nat) (I:List Int) (p:Po):p.dec.e N I=p.e N I - 1:=by
 unfold Po.dec;rw [Po.e_add,Po.e_k]; rfl
def JO:List Int->Bool
 | []=>true
 | a :: l=>decide (a<=0)&&JO l
def JP:List Int->Bool
 | []=>true
 | a :: l=>decide (a=0)&&JP l
def Po.bad (r:Po):Bool:=decide (r.c<0)&&(JO r.n&&JP r.i)
theorem Lp:∀ (l:List Int) (N:List Nat),JO l=true->AU l (FT N)<=0
 | [],N,_=>Int.le_refl _
 | a :: l,[],_=>Int.le_refl _
 | a :: l,v :: N,h=>by
  obtain ⟨h1,h2⟩:=(Bool.and_eq_true _ _).mp h;exact Int.add_nonpos (Int.mul_nonpos_of_nonpos_of_nonneg (of_decide_eq_true h1) (Int.natCast_nonneg v)) (Lp l N h2)
theorem Lq:∀ (l N:List Int),JP l=true->AU l N=0
 | [],N,_=>rfl
 | a :: l,[],_=>rfl
 | a :: l,v :: N,h=>by
  obtain ⟨h1,h2⟩:=(Bool.and_eq_true _ _).mp h;show a*v+AU l N=0;rw [of_decide_eq_true h1,Lq l N h2,Int.zero_mul]; rfl
theorem Po.bad_lt {N:List Nat} {I:List Int} {r:Po} (h:r.bad=true):r.e N I<0:=by
 obtain ⟨h1,h2⟩:=(Bool.and_eq_true _ _).mp h;obtain ⟨h2,h3⟩:=(Bool.and_eq_true _ _).mp h2;have h4:AU r.n (FT N)+AU r.i I<=0:=by rw [Lq r.i I h3,Int.add_zero]; exact Lp r.n N h2
 exact Int.lt_of_le_of_lt (Int.add_le_add_left h4 r.c) (by rw [Int.add_zero]; exact of_decide_eq_true h1)
abbrev Kp:=Po->List Po->Bool
def oP:Po:=⟨0,[],[]⟩
mutual
def NT.q:NT->Kp->List Po->Bool
 | .x i,k,h=>k ⟨0,Fo i,[]⟩ h
 | .k n,k,h=>k ⟨n,[],[]⟩ h
 | .a p q,k,h=>p.q (fun P h=>q.q (fun Q h=>k (P.add Q) h) h) h
 | .s p q,k,h=>p.q (fun P h=>q.q (fun Q h=>k (P.sub Q) (P.sub Q :: h)&&k oP (Q.sub P :: h)) h) h
 | .m c p,k,h=>p.q (fun P h=>k (P.mul c) h) h
 | .r p c,k,h=>p.q (fun P h=>k (P.mul c) h) h
 | .u p q,k,h=>p.q (fun P h=>q.q (fun Q h=>k Q (Q.sub P :: h)&&k P (P.sub Q :: h)) h) h
 | .v p q,k,h=>p.q (fun P h=>q.q (fun Q h=>k P (Q.sub P :: h)&&k Q (P.sub Q :: h)) h) h
 | .t p,k,h=>p.q (fun P h=>k P (P :: h)&&k oP (P.mul (-1) :: h)) h
 | .b p,k,h=>p.q (fun P h=>k P (P :: h)&&k (P.mul (-1)) (P.mul (-1) :: h)) h
def IT.q:IT->Kp->List Po->Bool
 | .x i,k,h=>k ⟨0,[],Fo i⟩ h
 | .k z,k,h=>k ⟨z,[],[]⟩ h
 | .c p,k,h=>p.q k h
 | .a p q,k,h=>p.q (fun P h=>q.q (fun Q h=>k (P.add Q) h) h) h
 | .s p q,k,h=>p.q (fun P h=>q.q (fun Q h=>k (P.sub Q) h) h) h
 | .g p,k,h=>p.q (fun P h=>k (P.mul (-1)) h) h
 | .m z p,k,h=>p.q (fun P h=>k (P.mul z) h) h
 | .r p z,k,h=>p.q (fun P h=>k (P.mul z) h) h
 | .u p q,k,h=>p.q (fun P h=>q.q (fun Q h=>k Q (Q.sub P :: h)&&k P (P.sub Q :: h)) h) h
 | .v p q,k,h=>p.q (fun P h=>q.q (fun Q h=>k P (Q.sub P :: h)&&k Q (P.sub Q :: h)) h) h
end
def qL (P Q:Po) (k:List Po->Bool) (h:List Po):Bool->Bool
 | true=>k (Q.sub P :: h)
 | false=>k ((P.sub Q).dec :: h)
def qE (P Q:Po) (k:List Po->Bool) (h:List Po):Bool->Bool
 | true=>k (Q.sub P :: P.sub Q :: h)
 | false=>k ((Q.sub P).dec :: h)&&k ((P.sub Q).dec :: h)
def CT.q:CT->Bool->(List Po->Bool)->List Po->Bool
 | .l p q,b,k,h=>p.q (fun P h=>q.q (fun Q h=>qL P Q k h b) h) h
 | .t p q,b,k,h=>p.q (fun P h=>q.q (fun Q h=>qL Q P k h (!b)) h) h
 | .e p q,b,k,h=>p.q (fun P h=>q.q (fun Q h=>qE P Q k h b) h) h
 | .L p q,b,k,h=>p.q (fun P h=>q.q (fun Q h=>qL P Q k h b) h) h
 | .T p q,b,k,h=>p.q (fun P h=>q.q (fun Q h=>qL Q P k h (!b)) h) h
 | .E p q,b,k,h=>p.q (fun P h=>q.q (fun Q h=>qE P Q k h b) h) h
 | .f,true,k,h=>true
 | .f,false,k,h=>k h
 | .n c,b,k,h=>c.q (!b) k h
 | .w a b,true,k,h=>a.q true (fun h=>b.q true k h) h
 | .w a b,false,k,h=>a.q false k h&&b.q false k h
 | .o a b,true,k,h=>a.q true k h&&b.q true k h
 | .o a b,false,k,h=>a.q false (fun h=>b.q false k h) h
def Nw (f:Po->Int) (p:Po):List Po->List Po->List Po
 | [],r=>r
 | q :: h,r=>match f q with
  | .ofNat _=>Nw f p h r
  | .negSucc n=>Nw f p h ((p.mul (n+1:Nat)).add (q.mul (f p).natAbs) :: r)
def Jb (f:Po->Int) (b:Bool) (g:List Po):List Po->List Po->List Po
 | [],r=>r
 | p :: h,r=>match f p with
  | .ofNat 0=>Jb f b g h (p :: r)
  | .ofNat (_+1)=>Jb f b g h (Nw f p g r)
  | .negSucc _=>match b with
   | true=>Jb f b g h (p :: r)
   | false=>Jb f b g h r
def OP:List Po->Bool
 | []=>false
 | p :: h=>p.bad || OP h
def Tb:Nat->List Po->Bool
 | 0,h=>OP h
 | m+1,h=>Tb m (Jb (fun p=>Ja p.i m) false h h [])
def QJ (m:Nat):Nat->List Po->Bool
 | 0,h=>Tb m h
 | n+1,h=>QJ m n (Jb (fun p=>Ja p.n n) true h h [])
def run (n m:Nat) (g:CT):List CT->List Po->Bool
 | [],h=>g.q false (QJ m n) h
 | t :: ts,h=>t.q true (run n m g ts) h
def Ba (N:List Nat) (I:List Int):List CT->CT->Prop
 | [],g=>g.d N I
 | t :: ts,g=>t.d N I->Ba N I ts g
section
variable {N:List Nat} {I:List Int}
def Hh (N:List Nat) (I:List Int):List Po->Prop
 | []=>True
 | p :: h=>0<=p.e N I/\Hh N I h
theorem B3 {a b:Bool} (h:(a&&b)=true):a=true/\b=true:=(Bool.and_eq_true _ _).mp h
def Oq (N:List Nat) (I:List Int) (k:Kp) (z:Int):Prop:=∃ P h,k P h=true/\Hh N I h/\P.e N I=z
theorem Oq.mul {k:Kp} {z:Int} (c:Int) (o:Oq N I (fun P h=>k (P.mul c) h) z):Oq N I k (c*z):=o.elim fun P o=>o.elim fun h o=>⟨P.mul c,h,o.1,o.2.1,(Po.e_mul N I c P).trans (congrArg _ o.2.2)⟩
theorem e0:oP.e N I=0:=Po.e_k N I 0
theorem Tc (P:Po):(P.mul (-1)).e N I=-P.e N I:=(Po.e_mul N I (-1) P).trans (Int.neg_one_mul _)
theorem Ds {P Q:Po} (h:Q.e N I<=P.e N I):0<=(P.sub Q).e N I:=Po.e_sub N I P Q ▸ Int.sub_nonneg_of_le h
theorem two {k:Kp} {p q:Kp->List Po->Bool} {x y z:Int} (K:Po->Po->List Po->Bool)
  (hp:∀ k h,p k h=true->Hh N I h->Oq N I k x) (hq:∀ k h,q k h=true->Hh N I h->Oq N I k y)
  (f:∀ P Q h,K P Q h=true->Hh N I h->P.e N I=x->Q.e N I=y->Oq N I k z) {h:List Po} (e:p (fun P h=>q (fun Q h=>K P Q h) h) h=true) (H:Hh N I h):Oq N I k z:=by
 obtain ⟨P,h1,e1,H1,r1⟩:=hp _ h e H;obtain ⟨Q,h2,e2,H2,r2⟩:=hq _ h1 e1 H1;exact f P Q h2 e2 H2 r1 r2
mutual
theorem NT.ok:∀ (t:NT) (k:Kp) (h:List Po),t.q k h=true->Hh N I h->Oq N I k (t.d N I)
 | .x i,k,h,e,H=>⟨_,h,e,H,by
  show 0+(AU (Fo i) (FT N)+0)=(atN N i:Int);rw [G4,Nv,Int.add_zero,Int.zero_add]⟩
 | .k n,k,h,e,H=>⟨_,h,e,H,Po.e_k N I n⟩
 | .a p q,k,h,e,H=>two (fun P Q h=>k (P.add Q) h) p.ok q.ok (fun P Q h e H a b=>⟨_,h,e,H,(Po.e_add N I P Q).trans (by rw [a,b]; rfl)⟩) e H
 | .s p q,k,h,e,H=>two (fun P Q h=>k (P.sub Q) (P.sub Q :: h)&&k oP (Q.sub P :: h)) p.ok q.ok (fun P Q h e H a b=>(Nat.le_total (q.d N I) (p.d N I)).elim
   (fun l=>⟨_,_,(B3 e).1,⟨Ds (by rw [a,b]; exact Int.ofNat_le.mpr l),H⟩,(Po.e_sub N I P Q).trans (by rw [a,b]; exact (Int.ofNat_sub l).symm)⟩)
   fun l=>⟨_,_,(B3 e).2,⟨Ds (by rw [a,b]; exact Int.ofNat_le.mpr l),H⟩,e0.trans (by show 0=((p.d N I - q.d N I:Nat):Int); rw [Nat.sub_eq_zero_of_le l]; rfl)⟩) e H
 | .m c p,k,h,e,H=>Oq.mul c (p.ok _ h e H)
 | .r p c,k,h,e,H=>(Int.mul_comm _ _).trans (Int.natCast_mul _ _).symm ▸ Oq.mul c (p.ok _ h e H)
 | .u p q,k,h,e,H=>two (fun P Q h=>k Q (Q.sub P :: h)&&k P (P.sub Q :: h)) p.ok q.ok (fun P Q h e H a b=>(Nat.le_total (p.d N I) (q.d N I)).elim
   (fun l=>⟨_,_,(B3 e).1,⟨Ds (by rw [a,b]; exact Int.ofNat_le.mpr l),H⟩,b.trans (congrArg Int.ofNat (Nat.max_eq_right l).symm)⟩)
   fun l=>⟨_,_,(B3 e).2,⟨Ds (by rw [a,b]; exact Int.ofNat_le.mpr l),H⟩,a.trans (congrArg Int.ofNat (Nat.max_eq_left l).symm)⟩) e H
 | .v p q,k,h,e,H=>two (fun P Q h=>k P (Q.sub P :: h)&&k Q (P.sub Q :: h)) p.ok q.ok (fun P Q h e H a b=>(Nat.le_total (p.d N I) (q.d N I)).elim
   (fun l=>⟨_,_,(B3 e).1,⟨Ds (by rw [a,b]; exact Int.ofNat_le.mpr l),H⟩,a.trans (congrArg Int.ofNat (Nat.min_eq_left l).symm)⟩)
   fun l=>⟨_,_,(B3 e).2,⟨Ds (by rw [a,b]; exact Int.ofNat_le.mpr l),H⟩,b.trans (congrArg Int.ofNat (Nat.min_eq_right l).symm)⟩) e H
 | .t p,k,h,e,H=>(p.ok _ h e H).elim fun P o=>o.elim fun h o=>(Int.le_total 0 (p.d N I)).elim
   (fun l=>⟨_,_,(B3 o.1).1,⟨o.2.2 ▸ l,o.2.1⟩,o.2.2.trans (Int.toNat_of_nonneg l).symm⟩)
   fun l=>⟨_,_,(B3 o.1).2,⟨Tc P ▸ o.2.2 ▸ Int.neg_nonneg_of_nonpos l,o.2.1⟩,e0.trans (congrArg Int.ofNat (Int.toNat_of_nonpos l).symm)⟩
 | .b p,k,h,e,H=>(p.ok _ h e H).elim fun P o=>o.elim fun h o=>(Int.le_total 0 (p.d N I)).elim
   (fun l=>⟨_,_,(B3 o.1).1,⟨o.2.2 ▸ l,o.2.1⟩,o.2.2.trans (Int.natAbs_of_nonneg l).symm⟩)
   fun l=>⟨_,_,(B3 o.1).2,⟨Tc P ▸ o.2.2 ▸ Int.neg_nonneg_of_nonpos l,o.2.1⟩,(Tc P).trans (o.2.2 ▸ (Int.ofNat_natAbs_of_nonpos l).symm)⟩
theorem IT.ok:∀ (t:IT) (k:Kp) (h:List Po),t.q k h=true->Hh N I h->Oq N I k (t.d N I)
 | .x i,k,h,e,H=>⟨_,h,e,H,by
  show 0+(0+AU (Fo i) I)=Ja I i;rw [G4,Int.zero_add,Int.zero_add]⟩
 | .k n,k,h,e,H=>⟨_,h,e,H,Po.e_k N I n⟩
 | .c p,k,h,e,H=>p.ok k h e H
 | .a p q,k,h,e,H=>two (fun P Q h=>k (P.add Q) h) p.ok q.ok (fun P Q h e H a b=>⟨_,h,e,H,(Po.e_add N I P Q).trans (by rw [a,b]; rfl)⟩) e H
 | .s p q,k,h,e,H=>two (fun P Q h=>k (P.sub Q) h) p.ok q.ok (fun P Q h e H a b=>⟨_,h,e,H,(Po.e_sub N I P Q).trans (by rw [a,b]; rfl)⟩) e H
 | .g p,k,h,e,H=>by show Oq N I k (-p.d N I); rw [<- Int.neg_one_mul]; exact Oq.mul (-1) (p.ok _ h e H)
 | .m c p,k,h,e,H=>Oq.mul c (p.ok _ h e H)
 | .r p c,k,h,e,H=>by show Oq N I k (p.d N I*c); rw [Int.mul_comm]; exact Oq.mul c (p.ok _ h e H)
 | .u p q,k,h,e,H=>two (fun P Q h=>k Q (Q.sub P :: h)&&k P (P.sub Q :: h)) p.ok q.ok (fun P Q h e H a b=>(Int.le_total (p.d N I) (q.d N I)).elim
   (fun l=>⟨_,_,(B3 e).1,⟨Ds (by rw [a,b]; exact l),H⟩,b.trans (Int.max_eq_right l).symm⟩)
   fun l=>⟨_,_,(B3 e).2,⟨Ds (by rw [a,b]; exact l),H⟩,a.trans (Int.max_eq_left l).symm⟩) e H
 | .v p q,k,h,e,H=>two (fun P Q h=>k P (Q.sub P :: h)&&k Q (P.sub Q :: h)) p.ok q.ok (fun P Q h e H a b=>(Int.le_total (p.d N I) (q.d N I)).elim
   (fun l=>⟨_,_,(B3 e).1,⟨Ds (by rw [a,b]; exact l),H⟩,a.trans (Int.min_eq_left l).symm⟩)
   fun l=>⟨_,_,(B3 e).2,⟨Ds (by rw [a,b]; exact l),H⟩,b.trans (Int.min_eq_right l).symm⟩) e H
end
def Ok (N:List Nat) (I:List Int) (k:List Po->Bool):Prop:=∃ h,k h=true/\Hh N I h
def says (a:Prop):Bool->Prop
 | true=>a
 | false=>¬ a
theorem Ig {k:List Po->Bool} {p q:Kp->List Po->Bool} {x y:Int} (K:Po->Po->List Po->Bool)
  (hp:∀ k h,p k h=true->Hh N I h->Oq N I k x) (hq:∀ k h,q k h=true->Hh N I h->Oq N I k y)
  (f:∀ P Q h,K P Q h=true->Hh N I h->P.e N I=x->Q.e N I=y->Ok N I k) {h:List Po} (e:p (fun P h=>q (fun Q h=>K P Q h) h) h=true) (H:Hh N I h):Ok N I k:=by
 obtain ⟨P,h1,e1,H1,r1⟩:=hp _ h e H;obtain ⟨Q,h2,e2,H2,r2⟩:=hq _ h1 e1 H1;exact f P Q h2 e2 H2 r1 r2
theorem OQ {P Q:Po} (h:Q.e N I<P.e N I):0<=((P.sub Q).dec).e N I:=by
 rw [Po.e_dec,Po.e_sub]; exact Int.le_sub_right_of_add_le (Int.le_sub_right_of_add_le (by rw [Int.zero_add,Int.add_comm]; exact h))
theorem Jz {P Q:Po} {k:List Po->Bool} {h:List Po} {x y:Int}:∀ {b:Bool},qL P Q k h b=true->Hh N I h->P.e N I=x->Q.e N I=y->says (x<=y) b->Ok N I k
 | true,e,H,a,b,s=>⟨_,e,Ds (a.symm ▸ b.symm ▸ s),H⟩
 | false,e,H,a,b,s=>⟨_,e,OQ (a.symm ▸ b.symm ▸ Int.not_le.mp s),H⟩
theorem QK {P Q:Po} {k:List Po->Bool} {h:List Po} {x y:Int}:∀ {b:Bool},qE P Q k h b=true->Hh N I h->P.e N I=x->Q.e N I=y->says (x=y) b->Ok N I k
 | true,e,H,a,b,s=>⟨_,e,Ds (a.symm ▸ b.symm ▸ Int.le_of_eq s),Ds (a.symm ▸ b.symm ▸ Int.le_of_eq s.symm),H⟩
 | false,e,H,a,b,s=>(Int.lt_or_gt_of_ne s).elim (fun s=>⟨_,(B3 e).1,OQ (a.symm ▸ b.symm ▸ s),H⟩) fun s=>⟨_,(B3 e).2,OQ (a.symm ▸ b.symm ▸ s),H⟩
theorem JQ {a b:Prop} (h:a↔b):∀ {c:Bool},says a c->says b c
 | true,s=>h.mp s
 | false,s=>fun k=>s (h.mpr k)
theorem JR {a b:Prop} (h:¬ a↔b):∀ {c:Bool},says a c->says b (!c)
 | true,s=>fun k=>h.mpr k s
 | false,s=>h.mp s
theorem CT.ok:∀ (t:CT) (b:Bool) (k:List Po->Bool) (h:List Po),t.q b k h=true->Hh N I h->says (t.d N I) b->Ok N I k
 | .l p q,b,k,h,ee,H,s=>Ig (fun P Q h=>qL P Q k h b) p.ok q.ok (fun P Q h ee H x y=>Jz ee H x y (JQ Int.ofNat_le.symm s)) ee H
 | .t p q,b,k,h,ee,H,s=>Ig (fun P Q h=>qL Q P k h (!b)) p.ok q.ok (fun P Q h ee H x y=>Jz ee H y x (JR ⟨fun n=>Int.ofNat_le.mpr (Nat.le_of_not_lt n),fun n=>Nat.not_lt.mpr (Int.ofNat_le.mp n)⟩ s)) ee H
 | .e p q,b,k,h,ee,H,s=>Ig (fun P Q h=>qE P Q k h b) p.ok q.ok (fun P Q h ee H x y=>QK ee H x y (JQ Int.ofNat_inj.symm s)) ee H
 | .L p q,b,k,h,ee,H,s=>Ig (fun P Q h=>qL P Q k h b) p.ok q.ok (fun P Q h ee H x y=>Jz ee H x y s) ee H
 | .T p q,b,k,h,ee,H,s=>Ig (fun P Q h=>qL Q P k h (!b)) p.ok q.ok (fun P Q h ee H x y=>Jz ee H y x (JR Int.not_lt s)) ee H
 | .E p q,b,k,h,ee,H,s=>Ig (fun P Q h=>qE P Q k h b) p.ok q.ok (fun P Q h ee H x y=>QK ee H x y s) ee H
 | .f,true,k,h,ee,H,s=>s.elim
 | .f,false,k,h,ee,H,s=>⟨h,ee,H⟩
 | .n c,true,k,h,ee,H,s=>c.ok false k h ee H s
 | .n c,false,k,h,ee,H,s=>c.ok true k h ee H (Classical.not_not.mp s)
 | .w a b,true,k,h,ee,H,s=>(a.ok true _ h ee H s.1).elim fun h' o=>b.ok true k h' o.1 o.2 s.2
 | .w a b,false,k,h,ee,H,s=>(Classical.em (a.d N I)).elim (fun x=>b.ok false k h (B3 ee).2 H fun y=>s ⟨x,y⟩) fun x=>a.ok false k h (B3 ee).1 H x
 | .o a b,true,k,h,ee,H,s=>s.elim (fun s=>a.ok true k h (B3 ee).1 H s) fun s=>b.ok true k h (B3 ee).2 H s
 | .o a b,false,k,h,ee,H,s=>(a.ok false _ h ee H fun x=>s (.inl x)).elim fun h' o=>b.ok false k h' o.1 o.2 fun x=>s (.inr x)
theorem JS {f:Po->Int} {p:Po} (P:0<=p.e N I):∀ (h r:List Po),Hh N I h->Hh N I r->Hh N I (Nw f p h r)
 | [],r,_,R=>R
 | q :: h,r,H,R=>by
  unfold Nw
  split
  ·exact JS P h r H.2 R
  ·exact JS P h _ H.2 ⟨by rw [Po.e_add,Po.e_mul,Po.e_mul]; exact Int.add_nonneg (Int.mul_nonneg (Int.natCast_nonneg _) P) (Int.mul_nonneg (Int.natCast_nonneg _) H.1),R⟩
theorem EX {f:Po->Int} {b:Bool} {g:List Po} (G:Hh N I g):∀ (h r:List Po),Hh N I h->Hh N I r->Hh N I (Jb f b g h r)
 | [],r,_,R=>R
 | p :: h,r,H,R=>by
  unfold Jb
  split
  ·exact EX G h _ H.2 ⟨H.1,R⟩
  ·exact EX G h _ H.2 (JS H.1 g r G R)
  ·split
   ·exact EX G h _ H.2 ⟨H.1,R⟩
   ·exact EX G h r H.2 R
theorem Lr:∀ {h:List Po},Hh N I h->OP h=true->False
 | [],_,e=>Bool.noConfusion e
 | _ :: _,H,e=>((Bool.or_eq_true _ _).mp e).elim (fun e=>Int.not_le.mpr (Po.bad_lt e) H.1) fun e=>Lr H.2 e
theorem Nx:∀ (m:Nat) {h:List Po},Hh N I h->Tb m h=true->False
 | 0,_,H,e=>Lr H e
 | m+1,h,H,e=>Nx m (EX H h [] H trivial) e
theorem Ny (m:Nat):∀ (n:Nat) {h:List Po},Hh N I h->QJ m n h=true->False
 | 0,_,H,e=>Nx m H e
 | n+1,h,H,e=>Ny m n (EX H h [] H trivial) e
theorem Nz {n m:Nat} {g:CT}:∀ (ts:List CT) {h:List Po},run n m g ts h=true->Hh N I h->Ba N I ts g
 | [],h,e,H=>Classical.byContradiction fun k=>(g.ok false (QJ m n) h e H k).elim fun h' o=>Ny m n o.2 o.1
 | t :: ts,h,e,H=>fun s=>(t.ok true _ h e H s).elim fun h' o=>Nz ts o.1 o.2
end
theorem B0 (N:List Nat) (I:List Int) (ts:List CT) (g:CT) (h:run N.length I.length g ts []=true):Ba N I ts g:=Nz ts h trivial
end Mine
namespace Mine
namespace O
def A0 (ts:List CT) (g:CT):Prop:=Ba [] [] ts g
theorem l0 (ts:List CT) (g:CT) (h:run 0 0 g ts []=true):A0 ts g:=B0 _ _ _ _ h
theorem Av (g:CT) (h:run 0 0 g [] []=true):Ba [] [] [] g:=B0 _ _ _ _ h
def A01 (ts:List CT) (g:CT):Prop:=∀ ⦃b0:Int⦄,Ba [] [b0] ts g
theorem AV (ts:List CT) (g:CT) (h:run 0 1 g ts []=true):A01 ts g:=fun _=>B0 _ _ _ _ h
theorem Td (g:CT) (h:run 0 1 g [] []=true) {b0:Int}:Ba [] [b0] [] g:=B0 _ _ _ _ h
def A02 (ts:List CT) (g:CT):Prop:=∀ ⦃b0 b1:Int⦄,Ba [] [b0,b1] ts g
theorem Hw (ts:List CT) (g:CT) (h:run 0 2 g ts []=true):A02 ts g:=fun _ _=>B0 _ _ _ _ h
theorem Te (g:CT) (h:run 0 2 g [] []=true) {b0 b1:Int}:Ba [] [b0,b1] [] g:=B0 _ _ _ _ h
def A03 (ts:List CT) (g:CT):Prop:=∀ ⦃b0 b1 b2:Int⦄,Ba [] [b0,b1,b2] ts g
theorem l03 (ts:List CT) (g:CT) (h:run 0 3 g ts []=true):A03 ts g:=fun _ _ _=>B0 _ _ _ _ h
theorem acg (g:CT) (h:run 0 3 g [] []=true) {b0 b1 b2:Int}:Ba [] [b0,b1,b2] [] g:=B0 _ _ _ _ h
theorem ach (g:CT) (h:run 0 4 g [] []=true) {b0 b1 b2 b3:Int}:Ba [] [b0,b1,b2,b3] [] g:=B0 _ _ _ _ h
def A1 (ts:List CT) (g:CT):Prop:=∀ ⦃a0:Nat⦄,Ba [a0] [] ts g
theorem l1 (ts:List CT) (g:CT) (h:run 1 0 g ts []=true):A1 ts g:=fun _=>B0 _ _ _ _ h
theorem AF (g:CT) (h:run 1 0 g [] []=true) {a0:Nat}:Ba [a0] [] [] g:=B0 _ _ _ _ h
def A11 (ts:List CT) (g:CT):Prop:=∀ ⦃a0:Nat⦄ ⦃b0:Int⦄,Ba [a0] [b0] ts g
theorem CF (ts:List CT) (g:CT) (h:run 1 1 g ts []=true):A11 ts g:=fun _ _=>B0 _ _ _ _ h
theorem Tf (g:CT) (h:run 1 1 g [] []=true) {a0:Nat} {b0:Int}:Ba [a0] [b0] [] g:=B0 _ _ _ _ h
def A12 (ts:List CT) (g:CT):Prop:=∀ ⦃a0:Nat⦄ ⦃b0 b1:Int⦄,Ba [a0] [b0,b1] ts g
theorem Ls (ts:List CT) (g:CT) (h:run 1 2 g ts []=true):A12 ts g:=fun _ _ _=>B0 _ _ _ _ h
def A2 (ts:List CT) (g:CT):Prop:=∀ ⦃a0 a1:Nat⦄,Ba [a0,a1] [] ts g
theorem l2 (ts:List CT) (g:CT) (h:run 2 0 g ts []=true):A2 ts g:=fun _ _=>B0 _ _ _ _ h
theorem AK (g:CT) (h:run 2 0 g [] []=true) {a0 a1:Nat}:Ba [a0,a1] [] [] g:=B0 _ _ _ _ h
def A21 (ts:List CT) (g:CT):Prop:=∀ ⦃a0 a1:Nat⦄ ⦃b0:Int⦄,Ba [a0,a1] [b0] ts g
theorem Ex (ts:List CT) (g:CT) (h:run 2 1 g ts []=true):A21 ts g:=fun _ _ _=>B0 _ _ _ _ h
def A22 (ts:List CT) (g:CT):Prop:=∀ ⦃a0 a1:Nat⦄ ⦃b0 b1:Int⦄,Ba [a0,a1] [b0,b1] ts g
theorem l22 (ts:List CT) (g:CT) (h:run 2 2 g ts []=true):A22 ts g:=fun _ _ _ _=>B0 _ _ _ _ h
def A23 (ts:List CT) (g:CT):Prop:=∀ ⦃a0 a1:Nat⦄ ⦃b0 b1 b2:Int⦄,Ba [a0,a1] [b0,b1,b2] ts g
theorem l23 (ts:List CT) (g:CT) (h:run 2 3 g ts []=true):A23 ts g:=fun _ _ _ _ _=>B0 _ _ _ _ h
def A3 (ts:List CT) (g:CT):Prop:=∀ ⦃a0 a1 a2:Nat⦄,Ba [a0,a1,a2] [] ts g
theorem l3 (ts:List CT) (g:CT) (h:run 3 0 g ts []=true):A3 ts g:=fun _ _ _=>B0 _ _ _ _ h
theorem FU (g:CT) (h:run 3 0 g [] []=true) {a0 a1 a2:Nat}:Ba [a0,a1,a2] [] [] g:=B0 _ _ _ _ h
def A32 (ts:List CT) (g:CT):Prop:=∀ ⦃a0 a1 a2:Nat⦄ ⦃b0 b1:Int⦄,Ba [a0,a1,a2] [b0,b1] ts g
theorem l32 (ts:List CT) (g:CT) (h:run 3 2 g ts []=true):A32 ts g:=fun _ _ _ _ _=>B0 _ _ _ _ h
def A4 (ts:List CT) (g:CT):Prop:=∀ ⦃a0 a1 a2 a3:Nat⦄,Ba [a0,a1,a2,a3] [] ts g
theorem l4 (ts:List CT) (g:CT) (h:run 4 0 g ts []=true):A4 ts g:=fun _ _ _ _=>B0 _ _ _ _ h
def A41 (ts:List CT) (g:CT):Prop:=∀ ⦃a0 a1 a2 a3:Nat⦄ ⦃b0:Int⦄,Ba [a0,a1,a2,a3] [b0] ts g
theorem l41 (ts:List CT) (g:CT) (h:run 4 1 g ts []=true):A41 ts g:=fun _ _ _ _ _=>B0 _ _ _ _ h
def A43 (ts:List CT) (g:CT):Prop:=∀ ⦃a0 a1 a2 a3:Nat⦄ ⦃b0 b1 b2:Int⦄,Ba [a0,a1,a2,a3] [b0,b1,b2] ts g
theorem l43 (ts:List CT) (g:CT) (h:run 4 3 g ts []=true):A43 ts g:=fun _ _ _ _ _ _ _=>B0 _ _ _ _ h
def A5 (ts:List CT) (g:CT):Prop:=∀ ⦃a0 a1 a2 a3 a4:Nat⦄,Ba [a0,a1,a2,a3,a4] [] ts g
theorem l5 (ts:List CT) (g:CT) (h:run 5 0 g ts []=true):A5 ts g:=fun _ _ _ _ _=>B0 _ _ _ _ h
def A6 (ts:List CT) (g:CT):Prop:=∀ ⦃a0 a1 a2 a3 a4 a5:Nat⦄,Ba [a0,a1,a2,a3,a4,a5] [] ts g
theorem l6 (ts:List CT) (g:CT) (h:run 6 0 g ts []=true):A6 ts g:=fun _ _ _ _ _ _=>B0 _ _ _ _ h
def A7 (ts:List CT) (g:CT):Prop:=∀ ⦃a0 a1 a2 a3 a4 a5 a6:Nat⦄,Ba [a0,a1,a2,a3,a4,a5,a6] [] ts g
theorem l7 (ts:List CT) (g:CT) (h:run 7 0 g ts []=true):A7 ts g:=fun _ _ _ _ _ _ _=>B0 _ _ _ _ h
theorem J:true=true:=rfl
def x:NT:=.x 0
def y:NT:=.x 1
def z:NT:=.x 2
def w:NT:=.x 3
def u1:NT:=.x 4
def u2:NT:=.x 5
def u3:NT:=.x 6
def X:IT:=.x 0
def Y:IT:=.x 1
def Z:IT:=.x 2
def W:IT:=.x 3
def k0:NT:=.k 0
def K0:IT:=.k 0
def k1:NT:=.k 1
def K1:IT:=.k 1
def k2:NT:=.k 2
def K2:IT:=.k 2
abbrev A:=IT.a
abbrev S:=IT.s
abbrev R:=IT.r
abbrev U:=IT.u
abbrev V:=IT.v
abbrev M:=IT.m
abbrev K:=IT.k
abbrev t_:=NT.t
abbrev w_:=CT.w
abbrev q (p r:NT):CT:=.n (.e p r)
abbrev Q (p r:IT):CT:=.n (.E p r)
abbrev g:=IT.g
abbrev c:=IT.c
abbrev a:=NT.a
abbrev k:=NT.k
abbrev s:=NT.s
abbrev m:=NT.m
abbrev r:=NT.r
abbrev u:=NT.u
abbrev v:=NT.v
abbrev b:=NT.b
abbrev l:=CT.l
abbrev t:=CT.t
abbrev e:=CT.e
abbrev L:=CT.L
abbrev T:=CT.T
abbrev E:=CT.E
abbrev f:=CT.f
abbrev n:=CT.n
abbrev o:=CT.o
end O
section
open O
def aa:=s x k1
def ab:=a y k1
def ac:=a x k1
def ad:=a x y
def ae:=k 134217728
def af:=c x
def ah:=s y k1
def aj:=k 5
def al:=a z k1
def ao:=k 1000000
def aq:=k 59000000
def au:=l x y
def av:=a y z
def aw:=e x y
def az:=l k1 x
def aA:=l x (k 31)
def aB:=K 1000000
def aC:=t x y
def aD:=k 3
def aE:=K 9223372036854775808
def aH:=e x ab
def aI:=k 4
def aJ:=k 60000000
def aK:=s z k1
def aL:=c y
def aP:=b X
def aQ:=a aa k1
def aS:=l y x
def aU:=A K1 af
def aV:=l x aj
def aW:=s y x
def aX:=k 10000
def aY:=s x y
def aZ:=k 10
def a8:=t k0 x
def a9:=l y aa
def bf:=l x aI
def bj:=k 9
def bk:=k 1000
def ag:=l x bk
def bm:=a x ab
def bn:=l z y
def bo:=k 66000000
def bq:=e x k0
def bv:=t y x
def bw:=a w k1
def aM:=l (a x (u y z)) bw
def bD:=K 10000
def bH:=l y (k 31)
def bI:=e x (a av k1)
def b6:=k 20000
def b7:=l y aj
def b8:=t z x
def b9:=k 18
def aR:=l x b9
def ca:=L K0 X
def cb:=e x aD
def cc:=k 100
def ay:=l x cc
def cj:=l ac y
def ck:=S af K1
def cn:=l k1 y
def cu:=a x k2
def cw:=k 8
def cx:=l x z
def cy:=a ac y
def cC:=Q X K0
def cD:=l aI x
def cE:=t k1 x
def cF:=k 1024
def a7:=t (b af) cF
def cG:=e ac (a y y)
def cH:=l x (k 50)
def cI:=k 6
def ai:=l x cI
def aO:=l y cI
def cK:=m 2 x
def ce:=l (a cK (m 3 (a y cw))) z
def cM:=l ad z
def cN:=l k2 x
def cO:=e x aQ
def cQ:=s ab z
def cR:=e x av
def cW:=l x ab
def cY:=l y z
def cZ:=a z w
def c6:=l ad al
def c7:=e ad al
def c8:=a aa ah
def c9:=k 17
def di:=k 16777216
def du:=l aa y
def dC:=k 14
def aF:=l x dC
def bM:=l y dC
def dF:=t_ (S af K0)
def dH:=a z x
def dI:=k 640
def dJ:=a x (a y aj)
def dN:=A af K1
def bF:=w_ (L (g aB) dN) (L dN aB)
def dO:=L af aB
def dQ:=a u1 k1
def dT:=a ad aj
def aN:=l (a (a (a dT (a cZ aj)) k1) u1) aq
def dX:=a aW k1
def dY:=l ad aj
def dZ:=k 12
def d5:=T X K0
def d6:=t y z
def d7:=t x ab
def d8:=l aD x
def d9:=a y x
def en:=t aP x
def eC:=l aP x
def eI:=s y z
def eJ:=a k1 x
def eO:=l (k 7) x
def eZ:=L K1 X
def e7:=l x (k 900)
def e8:=k 20
def aG:=l x e8
def be:=l y e8
def fe:=k 16
def bO:=l x fe
def ff:=t z y
def fi:=S af aL
def cm:=U K0 (A fi K1)
def fj:=e x (a (s x k2) k2)
def fk:=T X (A aL K1)
def fF:=a ad k1
def fH:=l z x
def fI:=l w (s ab u1)
def fJ:=l w z
def fO:=l (a x ah) aI
def fU:=l (k 11) x
def fZ:=l x ao
def f6:=A X af
def f7:=s ac y
def f8:=a y k2
def f9:=s ab x
def ga:=l aj x
def gb:=l x k1
def gd:=l z aj
def ge:=l x aZ
def gf:=l y bj
def gg:=t x (t_ (S aL K1))
def gi:=c ac
def gj:=t_ (S aL K0)
def gk:=S X Y
def gm:=a z y
def gp:=S aL af
def gq:=l x ah
def gr:=l cI x
def gt:=a y aK
def gu:=e aa av
def gw:=l w aj
def gx:=l z aI
def gy:=k 40000
def cL:=a (a (a x (a (a (a gy (k 645)) aj) k1)) k1) y
def gz:=l x aD
def gA:=t x aD
def gB:=l y aI
def gC:=e x bj
def gE:=l w x
def gF:=l w y
def gH:=a x z
def gI:=l z w
def gJ:=k 470
def gK:=g K1
def gL:=k 15
def ak:=l x gL
def bK:=l y gL
def gN:=l (k 7) ac
def gO:=k 30
def cJ:=l x gO
def gP:=S (U af aL) aL
def gQ:=a b6 (k 21600)
def gR:=T K0 X
def gS:=l y bk
def gT:=l k1 z
def gU:=a w u1
def gV:=e ad z
def gW:=a x aj
def gX:=e x k1
def gY:=s cu y
def g7:=m 11 y
def de:=a (a k1 (m 6 x)) g7
def g8:=l cw x
def hV:=l z aa
def ic:=l x bj
def ie:=a aD x
def ig:=l x aX
def ii:=k 800
def ij:=v y z
def ik:=n aC
def il:=Q af K0
def im:=o (E X K1) (E X (K 1000))
def io:=n bq
def ip:=c aa
def iq:=b Y
def ir:=e x (s av k1)
def iu:=a aY k1
def iw:=l (a ad k2) z
def ix:=a x x
def iy:=k 400
def am:=l x iy
def aT:=l y iy
def ei:=l z iy
def iz:=a ah k1
def iA:=l bj ac
def iB:=l aa aj
def iC:=m 22 ab
def iD:=l dZ ac
def iE:=w_ (L (g aE) X) (T X aE)
def iF:=w_ (L (g aE) Y) (T Y aE)
def iG:=t (b (M 3 X)) (k 262144)
def iH:=c z
def cg:=E (V af (S (K 8) (M 2 aL))) iH
def iI:=k 4294967296
def iJ:=a (m 4 x) aI
def iK:=m 3 (a z cw)
def iL:=l (a w z) ac
def iM:=V aL (S (K 8) (M 2 af))
def iN:=k 60
def gn:=t (a x iN) y
def iO:=k 13
def ci:=l iO x
def cX:=a iO k1
def iP:=l y ao
def iQ:=m 4 y
def iR:=v x y
def iS:=l bm z
def iT:=t (b (c ab)) (k 2048)
def iU:=l x aJ
def iV:=e x cQ
def iW:=a x w
def iX:=l ab x
def iY:=a x cw
def gh:=l (m 3 iY) y
def iZ:=a x aI
def i6:=t x k2
def i7:=l x k0
def i8:=l x c9
def i9:=V aU X
def fM:=E i9 aL
def jc:=l z b9
def jd:=l y cc
def je:=l dZ x
def jf:=t_ (S X K1)
def jg:=l (a (m 2 ad) aj) ae
def jh:=t_ X
def ji:=n au
def jj:=k 33554432
def jl:=T K0 af
def jm:=l k1 k0
def jn:=e x (a (s x aI) aI)
def jo:=l y (k 50)
def jp:=l ad bo
def jq:=a (a (a y w) u1) k1
def jr:=a ah aK
def e9:=e aa jr
def js:=a u2 k1
def jt:=k 30000000
def ju:=l cw ac
def jv:=l aa dC
def jw:=T K1 af
def jx:=e ac av
def jy:=l aZ ac
def jz:=l x (k 28)
def jA:=a (a (a x aX) aj) y
def jB:=l ac ao
def jC:=a ah ah
def jD:=t aP cF
def jE:=l (a x (u y y)) al
def jF:=a (k 1400) (k 120)
def jG:=t w x
def jH:=r x 2
def jI:=b (A X Y)
def jJ:=s z y
def jK:=s z x
def jL:=L X (K 3)
def jM:=a (k 160) (k 285)
set_option maxRecDepth 100000
def o0:=l2 [t ad ii] (t (a x cc) bk) J
def o1:=l2 [fZ,iP] (l ad di) J
theorem o2 {x0:Int} (h0:0<=x0) (h1:x0<=10000):¬ (x0<(-((2:Int) ^ 63))):=by omega
theorem o3 {x0:Int} (h0:0<=x0) (h1:x0<=10000):¬ (x0>=((2:Int) ^ 63)):=by omega
def o4:=AV [ca,L X K0] (E X K0) J
theorem o5 {x0:Int} (h0:x0<=1000000):¬ (x0 > ((((2:Int) ^ 63) - 1) / 8)):=by omega
def o6:=AV [L X aB] (n (T (c di) X)) J
def o7:=AV [L X bD] (l jh aX) J
def o8:=l1 [l x (m 10000 cc)] (l x di) J
def o9:=AV [L (g bD) X,L X bD] iE J
theorem o10 {x0:Nat} (h0:x0<=(100*10000)):¬ (x0 > (((2 ^ 63) - 1) / 8)):=by omega
def Tg:=l1 [fZ] (l x di) J
def o12:=l3 [t bm z] (t cy z) J
def o13:=l3 [t bm z] (t x z) J
def o14:=l2 [gn] (t (a ac (k 49)) y) J
def Lu:=l2 [gn] aC J
def o16:=l2 [t (a x iQ) (k 9000)] (t (a x iN) (k 9900)) J
def o17:=l2 [gn] (t (a ac (k 50)) y) J
def o18:=AV [ca] (n d5) J
def o19:=CF [ca,t jh x] (w_ ca (T X af)) J
def o20:=@Tf (E (A af X) f6) J
def o21:=AV [n ca] d5 J
def o22:=CF [L (g af) X,n ca] (w_ (L K0 f6) (T f6 af)) J
theorem o23 {x0:Nat} {x1:Nat} {x2:Nat} {x3:Int} (h0:x0<=1000000) (h1:x1<x0) (h2:x2=x0) (h3:0<=x3) (h4:x1=(Int.toNat x3)):((-((2:Int) ^ 63))<=x3)/\(x3<((2:Int) ^ 63)):=by omega
theorem o24 {x0:Nat} {x1:Nat} {x2:Int} {x3:Nat} (h0:x0<=1000000) (h1:x1=x0) (h2:¬ (0<=x2)) (h3:(x3=(Int.toNat (x2+(x1:Int))))/\((-(x1:Int))<=x2)):((-((2:Int) ^ 63))<=x2)/\(x2<((2:Int) ^ 63)):=by omega
theorem o25 {x0:Nat} {x1:Nat} {x2:Int} (h0:x0<=1000000) (h1:x1=x0) (h2:(Int.toNat x2)<x0):x2<((2:Int) ^ 63):=by omega
theorem o26 {x0:Nat} {x1:Nat} {x2:Int} (h0:x0<=1000000) (h1:x1=x0) (h2:(-(x1:Int))<=x2):(-((2:Int) ^ 63))<=x2:=by omega
def o27:=l2 [T af aL] aC J
def JT:=l2 [aw,iP] (l x di) J
theorem o29 {x0:Nat} {x1:Int} {x2:Nat} (h0:x0<=1000000) (h1:x1<(x0:Int)) (h2:x2=x0):x1<((2:Int) ^ 63):=by omega
def o30:=Ex [T X af,e y x] (T X aL) J
def o31:=CF [ca] (E (V X af) (c (v jh x))) J
def o32:=@Tf (E (U f6 K0) (c (t_ (A af X)))) J
def o33:=CF [d5] (E (U K0 (V f6 af)) (U f6 K0)) J
def o34:=CF [n d5] (E (U K0 (V X af)) (V X af)) J
theorem o35 {x0:Nat} {x1:Nat} (h0:x0<=1000000) (h1:x1=x0):¬ ((x1:Int)>=((2:Int) ^ 63)):=by omega
theorem o36 {x0:Nat} {x1:Nat} (h0:x0<=1000000) (h1:x1=x0):(x1:Int)<((2:Int) ^ 63):=by omega
def o37:=l2 [cj] au J
def NA:=l2 [cj] aC J
def o39:=Ls [w_ (L (g aB) X) (L X aB),w_ (L (g (M 1000000 af)) Y) (L Y (M 1000000 af))] (w_ (L (g (M 1000000 gi)) (A Y X)) (L (A Y X) (M 1000000 gi))) J
def Jc:=l3 [aw,b8] ff J
def JU:=l2 [aC] cj J
theorem o42 {x0:Int} (h0:((-1000000)<=x0)/\(x0<=1000000)):(-((2:Int) ^ 63))<=x0:=by omega
theorem o43 {x0:Int} (h0:((-1000000)<=x0)/\(x0<=1000000)):x0<((2:Int) ^ 63):=by omega
theorem o44 {x0:Nat} {x1:Nat} {x2:Nat} {x3:Int} (h0:x0<=1000) (h1:x1=x0) (h2:x2<x0) (h3:((-(1000000*(((x2+1):Nat):Int)))<=x3)/\(x3<=(1000000*(((x2+1):Nat):Int)))):((-((2:Int) ^ 63))<=x3)/\(x3<((2:Int) ^ 63)):=by omega
def o45:=@FU (l iR av) J
def o46:=@Av (n (T K1 K0)) J
def o47:=l2 [n (T af aL)] aS J
def o48:=@AK (e (t_ (A af (R aL 1))) ad) J
def o49:=l3 [iS] cM J
def o50:=l3 [iS] (t ad z) J
def o51:=l3 [au,cY] (l (a x aW) z) J
def o52:=l2 [ji] (e aW k0) J
def o53:=l3 [ji] (l ij x) J
def o54:=l3 [w_ bq (e aW z)] bn J
def Th:=l2 [aH] bv J
def JV:=l3 [aH,ff] b8 J
def o57:=l3 [aH,bn] b8 J
def o58:=l2 [aH] a8 J
def o59:=l2 [aC] (T K0 gp) J
def o60:=@AK (E (S af (A aL K1)) (S fi K1)) J
def o61:=l2 [aw] (L gp K0) J
def o62:=Hw [T X Y] (E (A (S (S Y X) K1) K1) (c (t_ (S Y X)))) J
def o63:=Hw [n (T X Y)] (E K0 (c (t_ (S Y X)))) J
def o64:=Hw [L (g aB) X,L (g aB) Y,L X aB,L Y aB] (w_ (w_ (w_ iE iF) (w_ (L (g aE) (U gk K0)) (T (U gk K0) aE))) (o (E (U gk K0) K0) iF)) J
theorem o65:(-((2:Int) ^ 62))<=0:=by omega
theorem o66:0<((2:Int) ^ 62):=by omega
theorem o67 {x0:Int} (h0:(-1000000)<=x0) (h1:x0<=1000000):(-((2:Int) ^ 62))<=x0:=by omega
theorem o68 {x0:Int} (h0:(-1000000)<=x0) (h1:x0<=1000000):x0<((2:Int) ^ 62):=by omega
def o69:=l3 [aw,l z ao,d6] (l x di) J
def Ti:=l2 [aC] (t (s y ac) aW) J
def o71:=l4 [e x ij,e w y,cY] gE J
def o72:=l4 [e x ij,e w z,bn] gE J
def o73:=l2 [t bm ii] (t x bk) J
def o74:=l2 [t bm ii] (t cy ii) J
def o75:=l2 [t (a x (m 4 ab)) (k 9000)] (t (a (a x aD) iQ) (k 9000)) J
def o76:=@AK (e cy bm) J
def o77:=@AK (e bm cy) J
def QL:=l2 [ji] a9 J
def o79:=l2 [au,aS] aw J
def CG:=l2 [ik] aS J
def o81:=l3 [ik] (l ij x) J
def JW:=l2 [aC] d7 J
def QM:=@AF (t x ac) J
def Lv:=@AK (l x ad) J
def Tj:=@AK (e (s aa y) (s x ab)) J
def o86:=l2 [cj] (n aS) J
def Tk:=l2 [d7] au J
def o88:=@AK (e (s (s ac k1) y) aY) J
def o89:=l2 [d7] (e (s y aW) x) J
def o90:=l4 [L (K 67108864) af,l y jj,bn,gF] (n (T af (A (c w) iH))) J
def NB:=l1 [a8] jl J
def o92:=AV [gR] (Q (S K0 X) K0) J
def EY:=AV [gR] cC J
def o94:=AV [cC,n d5] gR J
def o95:=AV [d5] (E (c aP) (g X)) J
def o96:=AV [n d5] (E (c aP) X) J
def Tl:=@Td (L K0 (c aP)) J
def o98:=Hw [E X Y,L K0 Y] ca J
def o99:=l03 [E X Y,T K0 Z,T Y Z] (t jh (t_ Z)) J
def Tm:=AV [ca] (E X (c aP)) J
def aci:=l1 [q x k0] il J
def Tn:=l1 [ag] fZ J
def acj:=l1 [ag] bF J
theorem ack {x0:Int} {x1:Int} (h0:x0=(x1 % 2147483647)):0<=(x0+48271):=by omega
theorem acl {x0:Int} {x1:Int} (h0:x0=(x1 % 2147483647)):(x0+48271)<4294967296:=by omega
def OS:=AV [ca,T X (K 4294967296)] (t aP iI) J
def OT:=@Av (l (k 32) jj) J
def acm:=@Av (t (b (K 48271)) iI) J
def acn:=l3 [e x (a k0 y),l z bk,t y (t_ (S (A iH K1) K0))] fZ J
theorem aco {x0:Int} {x1:Int} {x2:Int} {x3:Nat} (h0:x0=(((x1+(48271*x2))+(x3:Int)) % 2147483647)):(0<=(((x1+(48271*x2))+(x3:Int)) % 2147483647))/\((((x1+(48271*x2))+(x3:Int)) % 2147483647)<2147483647):=by omega
theorem acp {x0:Int} {x1:Int} {x2:Int} {x3:Nat} (h0:x0=(((x1+(48271*x2))+(x3:Int)) % 2147483647)):0<=x0:=by omega
theorem acq {x0:Int} {x1:Int} {x2:Int} {x3:Nat} (h0:x0=(((x1+(48271*x2))+(x3:Int)) % 2147483647)):x0<4294967296:=by omega
def acr:=@AF (e (a k0 (t_ (S dN K0))) ac) J
def acs:=l2 [aH,gS] fZ J
def act:=l2 [aH] (e aa y) J
def acu:=l03 [E X Y,L K0 Y,T Y Z] (t jh (t_ Z)) J
def To:=AV [gR] ca J
def Mg:=l1 [jl] il J
def acv:=AV [gR] (n d5) J
def acw:=AV [d5] (T K0 (g X)) J
theorem acx {x0:Int}:(Int.natAbs ((x0 % 13) - 6))<=1000000:=by omega
theorem Tq {x0:Int} {x1:Int} (h0:x0=(x1 % 9)):(1+x0)≠0:=by omega
theorem acy {x0:Int} {x1:Int} (h0:x0=(x1 % 25)):(Int.natAbs (x0 - 12))<=1000000:=by omega
theorem acz {x0:Int} {x1:Int} (h0:x0=(x1 % 9)):(Int.natAbs (1+x0))<=1000:=by omega
def Tr:=AV [w_ ca (T X (K 2147483647))] (t aP iI) J
def Ts:=AV [im] cC J
def Tu:=AV [im] gR J
theorem acA {x0:Int} {x1:Int} (h0:x0=(x1 % 2000001)):(Int.natAbs (x0 - 1000000))<=1000000:=by omega
theorem o129 {x0:Int} {x1:Int} (h0:x0=(x1 % 2)):(x0=0)\/(x0=1):=by omega
def acB:=AV [l aP ao] (t aP (k 1048576)) J
def acC:=l1 [ag] (t x (k 1048576)) J
def o132:=l1 [t x cc] (t (a (k 301) x) ii) J
def o133:=l1 [t x cc] (t (a aI (m 4 x)) (k 9000)) J
def acD:=l5 [L (K 134217728) af,l av ae,gF,l u1 z] (n (T af (A (c w) (c u1)))) J
def EL:=@AF (L K0 af) J
def Ih:=l1 [ag] ag J
def acE:=l2 [E af aL] aw J
def Tv:=l1 [cN] fj J
def Tw:=l1 [jl] (Q (S K0 af) K0) J
def OU:=l1 [d8] cO J
def acF:=l2 [l ad ae] (l d9 ae) J
def OV:=l1 [l aD ac] cN J
def OW:=@AF (e (t_ (A af gK)) aa) J
def acG:=l1 [io] (t aa x) J
def EM:=l1 [az] cO J
def Tz:=l2 [ag] (l (v y x) ao) J
def TA:=l1 [a8] (E ck ip) J
def acH:=l2 [au,a8] (t aa y) J
def TB:=l2 [au] du J
def TC:=l2 [du,n (e y aa)] au J
def acI:=l1 [a8] (t (t_ ck) (t_ af)) J
def TD:=l2 [au] (e iR x) J
def acJ:=l2 [ag,aS] iP J
def TF:=l1 [a8] (t aa x) J
def acK:=l2 [au,a8] (t aa iR) J
def acL:=l1 [a8] (L (g af) gK) J
def OX:=@AF (L K0 ip) J
def acM:=l2 [aw,t k0 y] az J
def acN:=@AF (l aa x) J
def acO:=l2 [a8] (t (v aa y) x) J
def acP:=l1 [az] (t aa x) J
def acQ:=l1 [az] (L (g af) gK) J
def TG:=l1 [d8] (e x (a (s x aD) aD)) J
def FY:=l1 [cD] cO J
def Eg:=l1 [l aI ac] d8 J
def Cc:=l1 [am] ag J
def acR:=l2 [am] (L (g bD) gp) J
def acS:=l2 [am] (L fi bD) J
def acT:=l2 [am] (l (t_ fi) ao) J
def TH:=l1 [am] dO J
def acU:=@AK (l x (a y (t_ fi))) J
def acV:=l2 [am,aT] (l (a x (t_ gp)) ii) J
def Eh:=l2 [t x gj] aC J
def OY:=l1 [l x ii] ag J
def TJ:=l3 [au,b8] ff J
def acW:=l3 [au,b8] (T iH aL) J
def acX:=l2 [n aw,ik] (n d7) J
def FZ:=l1 [l aI ac] az J
def acY:=l2 [n (t x (a k0 gj))] aS J
def acZ:=l1 [am] (l (t_ ck) ao) J
def TK:=@AF (E aU gi) J
def ac0:=l2 [gg] (t ac y) J
def ac1:=l2 [am,t y (t_ ck)] iT J
def TL:=@Av (l k1 (k 11)) J
def ac2:=l1 [iU] (l (a x (k 11)) ae) J
def ac3:=l1 [am] (l (t_ ck) bk) J
def ac4:=l2 [n gg] (l (t_ (S aL K1)) x) J
def ac5:=l2 [n gg] (l y ac) J
def ac6:=@AK (L (g bD) (S (U af aL) af)) J
def ac7:=l2 [am] (L (S (U aL af) aL) bD) J
def ac8:=l2 [am] (l (t_ (S (U aL af) aL)) ao) J
def ac9:=@AK (L (g bD) gP) J
def ada:=l2 [am] (L gP bD) J
def adb:=l2 [am] (l (t_ gP) ao) J
def adc:=@AK (e (a x (t_ (S (U af aL) af))) (u x y)) J
def ade:=@AK (e (a x (t_ (S (U aL af) af))) (u y x)) J
def adf:=l4 [e x (u y z),aT,ei] (l (v w x) ao) J
def adg:=l4 [e x (u y z),aT,ei] (l (v w x) bk) J
theorem adh {x0 x1 x2 x3:Nat} (h0:x0=max x1 x2):min x3 x0<=max x1 x2:=(l4 [e x (u y z)] (l (v w x) (u y z)) J) h0
theorem adi {x0 x1 x2 x3 x4:Nat} (h0:x0=max x1 x2) (h1:x3=max x1 x2) (h2:x4<max x1 x2):x4<min x3 x0:=(l5 [e x (u y z),e w (u y z),t u1 (u y z)] (t u1 (v w x)) J) h0 h1 h2
theorem TM {x0 x1 x2 x3:Nat} (h0:x0=max x1 x2) (h1:x3<max x1 x2):x3<x0:=(l4 [e x (u y z),t w (u y z)] (t w x) J) h0 h1
theorem adj {x0 x1 x2 x3 x4:Nat} (h0:x0=max x1 x2) (h1:¬ (x3<max x1 x2)):min x4 x0<=x3:=(l5 [e x (u y z),n (t w (u y z))] (l (v u1 x) w) J) h0 h1
theorem TN {x0 x1 x2 x3:Nat} (h0:x0=max x1 x2) (h1:¬ (x3<max x1 x2)):x0<=x3:=(l4 [e x (u y z),n (t w (u y z))] (l x w) J) h0 h1
def adk:=l1 [bq,a8] jm J
def JX:=l1 [io] az J
def adl:=l1 [cD] jn J
def OZ:=@AF (E dN gi) J
def adm:=l1 [cH] (l ac bk) J
def TP:=l2 [aH,jo] ag J
def adn:=@AF (L K0 dN) J
def ado:=@AF (Q dN K0) J
def adp:=@AF (T K0 dN) J
def TQ:=Ex [E X af,fk] au J
def adq:=Ex [E X af,fk,jo] dO J
def adr:=Ex [E X af,fk,jo] (l dF ao) J
def ads:=@AF (E (A K1 (A K0 af)) gi) J
def TR:=@AF (L K0 gi) J
def adt:=l41 [E X af,fk,e z ab,jG] (t bw z) J
def adu:=l3 [iS] (l cy z) J
def TS:=@AF (l k1 (a x aD)) J
def adv:=l2 [cH,aS] gS J
def TT:=l2 [n aw,n bv] (n (t y ac)) J
def O0:=@AF (t k0 ac) J
def adw:=CF [en] (t aP jH) J
def adx:=Ls [en,t iq x] (t jI jH) J
def ady:=l22 [eC,l iq y] (l jI ad) J
def adz:=CF [en] (t aP (m 32 x)) J
def adA:=Ex [eC,l x (m 31 y),t k0 y] (t aP (m 32 y)) J
def adB:=@AF (e jH cK) J
def O1:=CF [en] (t aP cK) J
def adC:=Ls [en,t iq x] (t (b (A X (g Y))) cK) J
def adD:=CF [en] (t (b (A X K0)) cK) J
def o233:=l1 [aA] ag J
def EN:=l1 [aG] ag J
def adE:=@AK (L (g bD) cm) J
def adF:=l2 [aA] (L cm bD) J
def adG:=@AK (L K0 cm) J
def adH:=l3 [E cm iH] (e z f7) J
def adI:=l3 [iV,gT,bH] aA J
def adJ:=l1 [aA] fZ J
def adK:=l1 [aA] (w_ (L (g aB) ck) (L ck aB)) J
def adM:=l4 [iV,l gH (a bw k0)] (l y w) J
def adN:=l2 [t x (t_ (S (S aL K1) gK))] aC J
def adP:=l2 [aC] (e y (a (a (s ah x) x) k1)) J
def adQ:=l5 [iV,e x (a gU k1)] (l (a w z) y) J
def adR:=l3 [bI] (E (S ck iH) aL) J
def adS:=l5 [bI,e x (s bw u1)] (l al (s (a w k2) u1)) J
def adT:=l4 [iS,l (a w z) aJ] (l (a (a w x) ab) aJ) J
def adU:=l2 [az] (E (S (A aL af) K1) (c (s d9 k1))) J
def Ii:=l2 [aw,bH] ag J
def adV:=l4 [aw,l cZ y,l k1 w] (t (s cZ k1) x) J
def adW:=l2 [l bm aJ] (l ad ae) J
def adX:=l4 [bI,e w x] (T aL (c w)) J
def JY:=l1 [aG] dO J
def TU:=l2 [w_ (l x ad) (t (s ad x) y)] f J
def JZ:=@AK (E (A af aL) (c ad)) J
def TV:=l5 [aw,l cZ y,t u1 w] (t (a z u1) x) J
def adY:=l2 [l bm aJ] (l (a ad y) ae) J
def adZ:=l2 [l bm aJ] (l (a x (a ad y)) ae) J
def TX:=@AK (L K0 (c ad)) J
def ad0:=l5 [aw,l cZ y,t u1 w] (T (c (a z u1)) af) J
def TY:=@AK (t (s ad x) ab) J
def F3:=@AK (e (s ad x) y) J
def TZ:=l3 [w_ au (t aW z)] (t aW al) J
def T0:=l3 [n cR,w_ aS (t aY al)] (t aY z) J
def T9:=l3 [t aY z] (t aY (t_ (S iH K0))) J
def Ua:=l3 [w_ au (t aW (t_ (S iH K0)))] (t aW z) J
def Ub:=l3 [n (t aY z)] (l z aY) J
def ad1:=@FU (e (a x (a y al)) (a ad al)) J
def O2:=l4 [bI,e w x] (t y w) J
def ad2:=l3 [bI] (t av x) J
def ad3:=l4 [bI,t (a w al) x] (n (e w y)) J
def ad4:=l3 [t bm z] (t ad z) J
def ad5:=l5 [bI,l iW (a dQ al),l k1 w] (l y u1) J
def ad6:=@AK (e (s (s ad k1) x) ah) J
def ad7:=l5 [l ad (a al bw),e x (a (a u1 w) k1),n (e z (s (a u1 y) k1))] (l ad (a al w)) J
def ad8:=l5 [az,n (e y (s dH k1)),e w (a (a z u1) k1),l (a w x) (a ab dQ)] (l x eI) J
def ad9:=@AF (e (t_ (S ck gK)) x) J
def aea:=l3 [iV] (l x cQ) J
def aeb:=l3 [du] (l dH (a ab (t_ (S (S iH K1) gK)))) J
def O3:=l2 [du] cW J
def Uc:=l3 [au] (l dH gm) J
def aec:=l4 [iV,e w x] (l w cQ) J
def o284:=l1 [ay] ag J
def aed:=@AK (L (g bD) (S (A af aL) K1)) J
def aee:=l2 [ay,be] (L (S (A aL af) K1) bD) J
def aef:=@AK (e (t_ (S (A af aL) K1)) (s ad k1)) J
def aeg:=@AK (l k1 dT) J
def Ud:=l1 [ay] dO J
def O4:=l3 [ir,be,l z cc] ag J
def Ue:=l5 [ir,t w gj,t u1 z] (t gU x) J
def aeh:=l2 [jp] (l ad ae) J
def aei:=l2 [jp] (l (a dT ad) ae) J
def aej:=l5 [ir,t w gj,t u1 z] (T (c gU) af) J
def aek:=l2 [aG,bv] (l ab (k 31)) J
def Uf:=@AF (e (a k0 dF) x) J
def Mh:=l3 [cM] cx J
def F4:=l3 [cM] cY J
def ael:=l4 [c6,jG] (l y (s z w)) J
def O5:=l3 [cM] c6 J
def G5:=l1 [az] io J
def o302:=@AF (n (e ac k0)) J
def Fp:=@AF (l k1 ac) J
def J0:=l3 [au,cY] cx J
def Mi:=l4 [c6,gI] (l ad bw) J
def aem:=l3 [aw,q x z,t z ab] ff J
def aen:=l2 [n aw,d7] aC J
def O6:=l3 [au,b8] bn J
def aeo:=l3 [aw,e z y] (e x z) J
def aep:=l3 [aw,q y x] (e z y) J
def aeq:=l3 [aw,q x y] (e x z) J
def aer:=l2 [t x k1,t y k1] aw J
def aes:=l4 [cM,t w y] (t iW z) J
def aet:=@ach (E (A gk (S Z W)) (S (A X Z) (A Y W))) J
def aeu:=l3 [e x iQ,bn,t k0 y] (l (a (m 2 z) k1) x) J
def aev:=@FU (e (a (a ad z) k2) (a x (a av k2))) J
def aew:=l3 [aH] (t gm dH) J
def aex:=CF [eC] (t (t_ f6) (a cK k1)) J
def aey:=l4 [au,d6,jG] (t w z) J
def aez:=l3 [au,d6] (t x z) J
def aeA:=l2 [E fi K0] aw J
def aeB:=l2 [aw,aC] f J
def aeC:=l3 [aC,ff] (t (b (S af iH)) y) J
def aeD:=Ls [e (t_ f6) (t_ (A Y af)),eC,l iq x] (E gk K0) J
def Ug:=@AK (t x fF) J
def aeE:=l3 [aC] (l al (s av x)) J
def aeF:=l2 [ik,q x y] iX J
def Mj:=@AK (l x d9) J
def aeG:=l3 [au] (l (a ac z) (a av k1)) J
def aeH:=l3 [ji] (l al gH) J
def aeI:=l3 [ji] (l (a ab z) (a gH k1)) J
def aeJ:=l2 [io] (l ab ad) J
def Uh:=l1 [io] (l (a k0 k1) x) J
def aeK:=@FU (l (a x av) (a av x)) J
def aeL:=l2 [a8] (e d9 (a (s d9 k1) k1)) J
def aeM:=l4 [c7,l ad w] (l al w) J
def aeN:=@FU (l ac (a x (a av k2))) J
def Mk:=l2 [au] (n bv) J
def aeO:=l4 [c7,n jG,t w al] (t (s w x) y) J
def Ui:=l2 [ik] (e (a y aY) x) J
def aeP:=l2 [au] (e y (a x aW)) J
def O7:=@AK (n (t ad x)) J
def aeQ:=l6 [c6,n (t w z),t u1 x] (l (a y u2) (s (a u2 w) u1)) J
def aeR:=l3 [c7] c6 J
def aeS:=l3 [c7] (l d9 al) J
def O8:=l2 [au] d7 J
def aeT:=l2 [ji] (n d7) J
def Uj:=l3 [cM,n (e z d9)] iS J
def Ul:=l3 [cM,n (e z d9)] (l ac jJ) J
def aeU:=l2 [aC] (n aw) J
def aeV:=@FU (e (a x (a y al)) (a (a x al) y)) J
def Um:=l2 [cj] (n (e y x)) J
def Ij:=l2 [aC] au J
def aeW:=l2 [aC] (e y (a aW x)) J
def Uo:=l2 [aC] (e (a aW x) y) J
def aeX:=l3 [aC] (l jJ jK) J
def aeY:=l3 [au,b8] (e eI (a (s x z) aW)) J
def aeZ:=l4 [l iu z,t y w] (l (s x w) z) J
def ae0:=l3 [au,b8] (l (a (a (s x z) k1) dX) (a (a eI k1) k1)) J
def ae1:=l3 [au,b8] (l dX eI) J
def Up:=l3 [l (a iu y) z] (l ac z) J
def Uq:=@AK (t k0 iu) J
def ae2:=l4 [iw] (l (a (a (s x w) k1) (a (s y w) k1)) z) J
def Ur:=@FU (l (a iu (a jJ k1)) (a gH k2)) J
def Ut:=@AK (e (a ad aD) (a (a ad k2) k1)) J
def ae3:=l5 [aw,cx] (l jq (a z (a gU k2))) J
def ae4:=l4 [iw] (l (a (s x w) k1) z) J
def ae5:=l4 [iw] (l (a (s y w) k1) z) J
def ae6:=@AF (e ix jH) J
def ae7:=l5 [aw,cx] (t jq (a z (a gU k2))) J
def Uu:=@FU (l ad (a (a d9 z) k1)) J
def ae8:=l1 [a8] (t k1 jH) J
def Uv:=@AF (l x ac) J
def ae9:=AV [cC] (l k1 aP) J
def afa:=CF [l k1 aP,en] cE J
def Uw:=CF [cC,en] cE J
def Ik:=l2 [l aQ y] au J
def afb:=l2 [aC] gq J
def afc:=l3 [aA,aS,fH] (l (a jr k2) (k 64)) J
def afd:=l3 [au,bn] (l (a (a aa aK) aD) (a (m 2 y) aD)) J
def afe:=@AF (l (a (a x cI) k2) iY) J
def Ml:=@AF (l aD (a cK aD)) J
def aff:=@AF (l aI iJ) J
def afg:=l3 [gh,l (m 4 f8) z] (l iY z) J
def Ux:=l3 [au,bn] (l (a k1 (u x z)) ab) J
def Uy:=l3 [au,bn] (l (a k0 (u x z)) ab) J
def afh:=l2 [cj] (l (a (m 4 x) aD) (a iQ aD)) J
def afi:=l3 [au] (l gH (a y (a z k2))) J
def afj:=AV [cC,t aP k1] jm J
def afk:=l2 [l iY y] au J
def Mm:=@Av (l k1 k1) J
def Mn:=l2 [az,au] cn J
def Uz:=l4 [aM] (l x (s bw z)) J
def UA:=l6 [aM,l u1 cQ,l u2 u1] (l (a u2 x) (a (s bw z) k1)) J
def afl:=l5 [l iu z,l w f7,l u1 w] (l u1 z) J
def afm:=l2 [gh] cj J
def UB:=l3 [gq,cY] cx J
def UC:=l5 [aM,l u1 aK] (l (a x (u z u1)) bw) J
def UD:=l4 [l x cQ,l w aK,bn] (l (a x (u z w)) ab) J
def Mo:=l2 [az,a9] bv J
def UE:=l4 [l x cQ,gE,d6] (e w k0) J
def afn:=l3 [gq,n ff] cx J
def UF:=l3 [cj,l ab z] (l ac z) J
def afo:=l2 [az,n bv] (t aa y) J
def afp:=l3 [l (a aa f9) z] cY J
def afq:=l3 [az,cY] (l f9 z) J
def O9:=@AF (l ac iY) J
def Pa:=l3 [au] (l (a cK iK) (a (m 2 y) iK)) J
def afr:=l5 [e x (m 3 f8),l (a (m 2 z) (m 3 (a w cw))) y,l u1 z] (l (a gU y) x) J
def afs:=l2 [aC] (n bv) J
def aft:=l2 [az] (l dX (a (s ah aa) k1)) J
def afu:=l3 [aC] (l (a (m 4 jJ) aD) (a (m 4 jK) aD)) J
def afv:=l2 [az,au] (t aa y) J
def afw:=l3 [l (a aa dX) z] cY J
def afx:=l3 [au,b8] (l (a (a (a (m 4 aW) aD) (a (s x z) k1)) k2) (a (m 4 eI) aD)) J
def afy:=l5 [e x f8,l (a cZ cK) u1] (l (a (a z (a ab w)) y) u1) J
def afz:=l3 [jE] (l (a x k0) al) J
def afA:=l3 [jE] (l y al) J
def Mp:=l3 [ce] gT J
def afB:=l3 [ce] cY J
def afC:=l3 [ce] (l (a k1 (a k1 y)) z) J
def UG:=l3 [aw,cY] cx J
def afD:=l6 [aw,gI,l (a w (u y u1)) js] (l dH js) J
def afE:=l5 [aM,l u1 x] (l u1 bw) J
def UH:=l3 [e x (a iQ z)] (l iQ x) J
def UI:=l3 [az,cY] (l (s f8 x) al) J
def UJ:=@AF (l k1 iZ) J
def UK:=l2 [l (m 1 iZ) y] (l iZ y) J
def afF:=l2 [gh] (l ac f8) J
def afG:=l6 [e (a x (m 3 ab)) z,l w u1,l u2 x,gI] (l (a y u2) u1) J
def Pc:=@AF (l aI iZ) J
def afH:=l3 [l (m 16 cu) y,l iK x] (l (m 3 z) y) J
def afI:=@AK (l ad (s (a x f8) k2)) J
def afJ:=@AF (l k2 (m 1 cu)) J
def afK:=@AF (l k1 iJ) J
def afL:=l5 [e x eI,l k1 w,l y u1,bn] (l (s (a z k2) w) (s dQ x)) J
def afM:=l1 [cN] (l (a (s x k2) k1) x) J
def afN:=l4 [e x eI,l y w] (e (s (a w k2) x) (a (s bw x) k1)) J
def afO:=l4 [e x eI,l y w] (l (a ac (s (a w k2) x)) (a w aI)) J
def afP:=l5 [gV,gF,l z u1] (l (a (s x k2) w) u1) J
def afQ:=l5 [e x eI,l y w,bn,t u1 z] (l ac w) J
def UL:=l2 [cj] (l gW (a y aI)) J
def afR:=l1 [t x k1] bq J
def afS:=l1 [az,i6] gX J
def afT:=l2 [l cK y] (l cK ab) J
def afU:=l4 [e x (a (a y (m 10 z)) (k 25)),l (m 2 z) ab,l x w] (l (m 3 (a (m 4 z) aI)) w) J
def Il:=l1 [ga] cO J
def F5:=l1 [l aj ac] cD J
def afV:=l2 [l fF ae] (l ab ae) J
def afW:=l2 [l fF ae] (l bm ae) J
def afX:=l2 [am,aS] aT J
def Pd:=l1 [gr] cO J
def afY:=l2 [l (m 4 iZ) y] (l iJ y) J
def UM:=l1 [aR] aA J
def afZ:=@AK (l f7 gY) J
def af0:=l4 [cM,gF,l z aq] (l iW aq) J
def af1:=l2 [cW] (e (s f8 x) (a f9 k1)) J
def af2:=l3 [l (a x (a y ac)) z,l z aq] (l (a ad x) aq) J
def af3:=l2 [n cW] (e f9 k0) J
def af4:=l2 [l (m 3 x) y,l y aq] (l (a (a x k0) x) aq) J
def af5:=l3 [cM,l z aq] (l ad aJ) J
def af6:=l2 [l (m 3 x) y,l y aq] (l (m 3 x) aq) J
def EO:=l1 [l cI ac] cD J
def Pe:=l2 [aR,aS] bH J
def Pf:=l2 [aR,aS] be J
def UN:=l2 [l ad aq] jp J
def UO:=l5 [aR,aS,gI,fI] (l z e8) J
def UP:=l4 [aM,l w b9] ay J
def UQ:=l5 [aR,aS,gI,fI] (l z (k 31)) J
def UR:=l5 [aM,l u1 cQ,l w b9] (l (a u1 x) iy) J
def Im:=l1 [l cI ac] ga J
def US:=l2 [l ad aq] (l (a (a y dT) k1) ae) J
def Mq:=l4 [aM,l w b9] am J
def Io:=l2 [aR,aS] gS J
def af7:=l1 [l cI ac] d8 J
def af8:=l1 [l x aq] (l eJ ae) J
def Pg:=l1 [l x aq] (l (a x eJ) ae) J
def Ph:=l2 [aR,aS] aT J
def af9:=l23 [E X (A Y Z),eC,l (b Z) y] (l iq ad) J
def aga:=Hw [E gk K0] (E Y X) J
def agb:=Ls [eC,l iq x] (l (b gk) cK) J
def agc:=Hw [Q gk K0] (t k0 (b gk)) J
def agd:=@AF (t k0 (a cK aD)) J
def age:=l43 [E X (A Y Z),eC,l (b Z) y,cx] (l iq (a (a w y) z)) J
def agf:=Ex [eC] (l aP ad) J
def agg:=l2 [t ac ab] aC J
def agh:=@AF (n (l ac k0)) J
def UT:=l2 [au] (l ac ab) J
def agi:=l2 [l ac ab] au J
def agj:=@Td (E (A K0 X) (A X K0)) J
def agk:=@AK (n (l cy k0)) J
def agl:=l3 [l cy al] cM J
def agm:=l3 [l cy al] (l y al) J
def agn:=l32 [eC,l iq y,cx] (l jI av) J
def ago:=l3 [gV] (e cy al) J
def agp:=l3 [gV] (e bm al) J
def agq:=l4 [gV,e z (k 35),l w b9,n gE] (e (v w y) w) J
def agr:=AV [cC,l aP k0] f J
def ags:=AV [cC] (t k0 aP) J
def agt:=l1 [i7] (n cE) J
def agu:=l1 [cE] a8 J
def agv:=l3 [cW,fH,q z x] bn J
def agw:=l1 [q x k0,q x k1] cE J
def agx:=@Te (E (S (A X Y) Y) (S X K0)) J
def agy:=@acg (E (S (A X Y) Z) (A (S X Z) Y)) J
def agz:=l2 [i7] (n bv) J
def agA:=l3 [cW,b8] bn J
def agB:=l3 [n (t (s ad z) y),n b8,t z fF] (n (q z x)) J
def agC:=@Te (E X (S Y (S Y X))) J
def agD:=AV [l aP k0] (n cC) J
def agE:=AV [cC,e k0 aP] f J
def agF:=l1 [cE] cN J
def agG:=l22 [e x aP,l aP ab,l (m 2 iq) x] (l iq y) J
def agH:=l1 [cE] il J
def Pk:=l2 [n d7] iX J
def agI:=l1 [n gX,a8] cE J
def agJ:=CF [en] (l aP aa) J
def agK:=l3 [au,b8] (l al y) J
def agL:=@AK (e (a x g7) (a x (a (m 5 y) (m 6 y)))) J
def agM:=l2 [ik,n bv] aw J
def agN:=@AK (l (a ac ab) (a fF k1)) J
def agO:=l3 [gV] cY J
def agP:=l1 [i7] (n az) J
def agQ:=l3 [cW,fH,n (e z x)] bn J
def UU:=l2 [au] cW J
def agR:=l2 [t x (a ab k1)] (e ab (a x f9)) J
def agS:=@AK (e (s ac ab) aY) J
def agT:=l2 [d7] (e f9 dX) J
def agU:=l3 [aw,cn,l z k0] (n cx) J
def agV:=l4 [aw,cn,l z bw] (l jK w) J
def UV:=l1 [l (a k0 k1) x] io J
def agW:=l2 [cj] (l (a ac k1) ab) J
def Pl:=l2 [aw,cn,i7] f J
def agX:=l0 [jm] f J
def agY:=l2 [aH,au] f J
def agZ:=l1 [n gb] (l k1 aa) J
def ag0:=l3 [e c8 aK,az,cn,gT] c7 J
def ag1:=l2 [aA,n (t ab (k 32))] cW J
def ag2:=l3 [e x ah,cx] (l y al) J
def UW:=l1 [i8] (l ac b9) J
def ag3:=l3 [az,cY] (l ab dH) J
def Fq:=l1 [cN] (l k1 aa) J
def ag4:=l4 [az,au,gI] (l al (a w y)) J
def ag5:=l4 [aw,cx,gF] fJ J
def ag6:=@AK (l (a aQ iz) (a (a c8 k1) k1)) J
def ag7:=l3 [n (t c8 z)] (l z c8) J
def ag8:=l3 [n (t aa (a jr k1))] (l (a jr k1) aa) J
def ag9:=l3 [az,cn,t c8 z,t aK (a c8 k1)] c7 J
def aha:=l3 [t c8 z,t aK (a c8 k1)] (e aK c8) J
def UX:=l1 [aF] i8 J
def ahb:=l1 [aF] (l ac gL) J
def ahc:=l1 [aF] (l (a gJ (m 11 ac)) dI) J
def ahd:=l2 [ak] (l gY c9) J
def UY:=l1 [ak] aA J
def Pn:=l1 [ak] aG J
def ahe:=l3 [c7,cn,l z gL] ak J
def J1:=l1 [ak] ag J
def ahf:=l1 [l aj ac] d8 J
def ahg:=l1 [l x jt] (l eJ ae) J
def ahh:=l1 [l x jt] (l (a x eJ) ae) J
def UZ:=l1 [ak] am J
def ahi:=l1 [ag] iU J
def ahj:=l2 [l gL x,bK] (l y ac) J
def ahk:=l1 [eO] cD J
def Pp:=l1 [g8] cO J
def ahl:=l1 [ju] ga J
def ahm:=@Av (l gJ jt) J
def ahn:=l2 [aw,bK] jv J
def Fr:=l1 [ju] cD J
def aho:=@Av (l gJ bk) J
def Pq:=l2 [aw,bK] ak J
def U1:=l1 [ju] gr J
def ahp:=@Av (l gJ (k 475)) J
def ahq:=@Av (l (k 475) (k 645)) J
def U2:=@Av (l gJ dI) J
def Ps:=@Av (l dI (k 645)) J
def ahr:=l4 [jw,e av bw] (t gm iW) J
def ahs:=l1 [jw] cE J
def aht:=l2 [jv,a9] gS J
def Mr:=l1 [ju] eO J
def ahu:=l1 [n jw] (n cE) J
def ahv:=l1 [n jw] gb J
def U3:=l1 [l bj x] cO J
def ahw:=l1 [iA] g8 J
def ahx:=l3 [e9,az,cn,gT] jx J
def ahy:=l3 [gV] cx J
def ahz:=l1 [az] jl J
def ahA:=CF [eZ] (E i9 (c (t_ i9))) J
def ahB:=Ex [fM] (L aL X) J
def ahC:=Ex [fM,eZ] (E (U K1 i9) aL) J
def ahD:=Ex [fM,eZ] cn J
def ahE:=Ex [fM] (l y eJ) J
def ahF:=CF [n eZ] (E (U K1 i9) (c k1)) J
def ahG:=@AF (l k1 eJ) J
def ahH:=@AF (l k1 (a k1 (m 0 gW))) J
def ahI:=l3 [e x gt,aF] bM J
def ahJ:=l4 [e x gt,e w ab,aF] (l w (k 31)) J
def ahK:=l5 [jx,e w (a u1 aK),e y dQ,gT] (e x bw) J
def ahL:=@AK (l (a (a eJ y) aj) (a k1 dJ)) J
def ahM:=@AF (l k1 cu) J
def ahN:=l2 [ji] iX J
def ahO:=l1 [i7] bq J
def ahP:=l1 [n az] bq J
def ahQ:=l5 [cR,l k1 w,gF,l x dQ] (l z u1) J
def ahR:=l1 [io] cO J
def ahS:=@Av (n jm) J
def ahT:=l2 [n cj] (l f8 cu) J
def ahU:=l1 [io,n gX] cN J
def ahV:=l3 [ik,t x av] (t aY z) J
def ahW:=l3 [n (t x av),t x (a av k1)] cR J
def ahX:=@AK (n (t ad ad)) J
def ahY:=l3 [aC] (t dH gm) J
def ahZ:=l6 [l ad cZ,n (t u1 cZ),t u2 x] (l ab (s u1 u2)) J
def ah0:=@AK (l ad ad) J
def U4:=@AK (l ad d9) J
def ah1:=l3 [n (t x av)] (l av x) J
def ah2:=AV [E (g X) K0] (E X K0) J
def U5:=l1 [e ac k0] f J
def ah3:=l2 [az,cn,l x iz,l y aQ] aw J
def ah4:=l3 [e aa (a ah z),e y x] (e z k0) J
def ah5:=l3 [l cy z] (l (a ac ab) al) J
def ah6:=l3 [cR] (l (a ah z) x) J
def ah7:=l3 [cR] (l (a y (s al k1)) ac) J
def ah8:=l3 [cR] (l gm x) J
def ah9:=@AK (l ad dT) J
def aia:=@AK (t (a ad aI) dT) J
def J2:=l1 [l x (a k0 k1)] gb J
def Ms:=l3 [aw,ff] b8 J
def o632:=l3 [aw,n ff] cx J
def Pt:=l2 [t aY k1] (e aY k0) J
def aib:=l3 [ik] (l av gH) J
def U6:=l2 [au] (e (a x aW) y) J
def J3:=@AK (l aY x) J
def U7:=@AK (l (m 0 x) y) J
def U8:=@AK (l (s x x) y) J
def aic:=l4 [cR,l av w] (l x w) J
def aid:=l3 [cR] (l x gm) J
def aie:=@AF (l (a aa x) ix) J
def aif:=@AF (l (a x (s ac k1)) (a ix k1)) J
def aig:=@AK (l (a x (a y y)) (a (a y y) x)) J
def aih:=@FU (l (a (a ix y) z) (a z (a ix y))) J
def aii:=l3 [cR] fH J
def aij:=l3 [cR] (l av x) J
def aik:=@AK (l x (a y aY)) J
def ail:=l4 [aw,e z w,l x w] (e eI k0) J
def Pu:=l2 [ik,q x y] bv J
def aim:=l2 [aC] (q x y) J
def Pv:=@Av (l (k 140) (k 180)) J
def ain:=l1 [ai] (l aQ cw) J
def aio:=@Av (l (k 120) (k 160)) J
def aip:=l1 [aV] (l aQ cw) J
def Px:=l1 [ai] iB J
def U9:=l1 [aV] (l aa aI) J
def aiq:=l2 [aw,bH] aA J
def air:=@AK (l (a bm k1) (a ad k2)) J
def ais:=l1 [bO] aA J
def ait:=l1 [bO] (l aa fe) J
def aiu:=l1 [ak] (l ac (k 31)) J
def aiv:=l1 [ak] bO J
def aiw:=@FU (l (a (a (a (a (a (a gW y) aj) (a (a dJ aj) aI)) k2) (a gm aj)) k1) (a (a (a cK (m 3 y)) z) (k 40))) J
def aix:=@AK (q x cy) J
def aiy:=l3 [e aa gt] (l (a (m 1 aK) y) aa) J
def aiz:=l4 [gu,l (r w 1) z,ai] gw J
def aiA:=l3 [e aa gt,bO] (l (m 1 aK) fe) J
def aiB:=l4 [gu,fJ] (l ab (a (s aa w) k1)) J
def aiC:=@AK (l aa (a y (s aa y))) J
def aiD:=l4 [gu,fJ,ai] (l (a (a w (s aa w)) k1) cw) J
def aiE:=l4 [gu,fJ] (e (a w (s aa w)) aa) J
def aiF:=l3 [gu,ai] gd J
def aiG:=l3 [gu] hV J
def aiH:=l1 [aV] (t x fe) J
def aiI:=l3 [aH,fH] (l z ab) J
def aiJ:=@AK (l aY ac) J
def aiK:=l2 [aV] (t aY fe) J
def aiL:=l2 [aC] (e aW (a (s aW k1) k1)) J
def aiM:=l3 [e aY al] (e (s aY k1) z) J
def aiN:=l3 [e aY al] (e (s x ab) z) J
def Mt:=l3 [aH,l al y] b8 J
def Va:=@AK (l x (a ah x)) J
def aiO:=@AF (l aa (a aa aa)) J
def aiP:=@AF (l (a aa (s aQ k1)) (a (a aa aa) k1)) J
def aiQ:=l2 [du] (l aa ab) J
def aiR:=l2 [bq,aS] (e y k0) J
def aiS:=@Av (l k1 b6) J
def aiT:=@Av (l (a (a (k 7048) (k 12048)) k2) b6) J
def Py:=l2 [aC] cn J
def Vb:=l2 [aC] (l ac ab) J
def aiU:=@Av (l aZ fe) J
def aiV:=@Av (l (a (a (k 7048) (a (a (k 12048) dI) aj)) k2) b6) J
def aiW:=l4 [cR,l w cI,l x (s w k1)] (l av aj) J
def Pz:=l1 [bf] bO J
def aiX:=l2 [dY] bO J
def aiY:=l3 [dY,bn] (l z fe) J
def aiZ:=l3 [dY,gx] (l (a z ad) bj) J
def ai0:=l2 [dY] (l ad bj) J
def ai1:=l3 [dY,bn] (l dH bj) J
def ai2:=l3 [dY,l z fF] (l z cI) J
def ai3:=@AF (l x (a aI x)) J
def ai4:=l3 [dY,l z (a aI x)] (l gm bj) J
def ai5:=l3 [dY,l (m 1 aK) y] (l aK aj) J
def ai6:=l4 [e x gt,gw,l x (s w k1)] (l gt aI) J
def ai7:=l2 [fO] bf J
def ai8:=l3 [fO,l z ac] gd J
def ai9:=l2 [fO] (l (m 1 ah) aI) J
def aja:=l3 [fO,l z iz] gd J
def ajb:=l4 [c7,e w x,cn] fJ J
def ajc:=l3 [c7,cn] cx J
def ajd:=@AF (l ac cu) J
def aje:=l6 [l x aq,aS,e y (a z (m 3 (a w k2))),l u1 z,l (m 3 (a u2 cw)) w] (l (a u2 u1) aq) J
def Vc:=l1 [eO] cO J
def Vd:=l1 [gN] gr J
def Ve:=l3 [l ad aq,bn] (l gH aq) J
def ajf:=l3 [au] (l (s ac z) ab) J
def Mu:=l1 [gN] cD J
def ajg:=l5 [aR,aS,gI,fI] (l z bk) J
def ajh:=l1 [gN] d8 J
def aji:=@Av (l (a k1 aq) ae) J
def Vf:=@Av (l (a aq (a k1 aq)) ae) J
def Vg:=l5 [aR,aS,gI,fI] ei J
def ajj:=l1 [g8] fj J
def Vh:=l1 [l cw cu] d8 J
def ajk:=l1 [l cw cu] gr J
def ajl:=l5 [aN] jp J
def PA:=l3 [c6,jc] aG J
def Vi:=l3 [c6,jc] jd J
def ajm:=l5 [aN] (l cZ bo) J
def ajn:=l3 [c6,jc] ay J
def PB:=l3 [c6,jc] aA J
def ajo:=l5 [aN] (l (a dT (a cZ aj)) ae) J
def ajp:=l5 [aN] (l (a w y) bo) J
def ajq:=@AK (l x (s (a x k0) (m 0 y))) J
def ajr:=@AK (l x (a x (m 0 iC))) J
def ajs:=l2 [aG,bv] be J
def ajt:=l4 [l x iC] (l (a cZ x) (a z (a w iC))) J
def aju:=l2 [aG,bv] (l ab e8) J
def ajv:=l2 [aG] (l gY (k 22)) J
def ajw:=l5 [l (a ad z) iW,l (a x (m 21 (m 22 dQ))) aq,l w (m 20 (m 22 dQ))] (l (a ad z) aJ) J
def ajx:=l1 [aG] aA J
def Vj:=l2 [aG] (l f7 (k 22)) J
def ajy:=l3 [l x (m 20 iC)] (l dH (a z (m 20 iC))) J
def ajz:=l7 [az,l y (s al x),gF,l z (s (a u1 u2) u3)] (l w (s (a u1 js) (a u3 x))) J
def ajA:=l4 [aw,l z e8,gE,d6] (l w ao) J
def Vk:=l4 [az,be,l z f9,fJ] (l w e8) J
def ajB:=l2 [aC] (E (c aW) gp) J
def G6:=@AF (e dF x) J
def ajC:=l3 [l (a x ah) z,jc] (l (a x ah) b9) J
def ajD:=l1 [fZ] (l ix bo) J
def ajE:=l3 [aH,l gt b9] aG J
def ajF:=l2 [l (a x ah) b9] jd J
def ajG:=l4 [jx,e y bw,gT] (e x (a (a w aK) k1)) J
def ajH:=l2 [aG] (l (a (m 20 y) x) (m 20 ab)) J
def ajI:=l3 [aw,l x aK,l z gL] bM J
def ajJ:=l2 [l (r x 1) y] au J
def o757:=l1 [ak] (l aa c9) J
def o758:=l1 [ak] (l (a gJ (m 11 aQ)) dI) J
def ajK:=l2 [l (m 1 aa) y] du J
def ajL:=l1 [jv] ak J
def ajM:=l1 [l aZ x] cO J
def Mv:=l1 [jy] cD J
def ajN:=l2 [aR] (l gY e8) J
def ajO:=l2 [l ad b6] (l ad aJ) J
def Vl:=l2 [aR] (l f7 e8) J
def o766:=l1 [jy] (l bj x) J
def Vm:=l1 [ak] jv J
def ajP:=l1 [aF] ag J
def J4:=l1 [aF] aG J
def ajQ:=l2 [aF] (l (v y x) dC) J
def Vn:=l1 [jy] ga J
def Vo:=@Av (l dI ao) J
def ajR:=l1 [aF] aR J
def ajS:=@Av (l dI (k 21600)) J
def PC:=l2 [aH,bM] ak J
def ajT:=l1 [jy] gr J
def ajU:=l1 [l ac fe] ak J
def ajV:=@Av (l gQ bo) J
def ajW:=l2 [ak,a9] be J
def ajX:=l1 [ak] ay J
def ajY:=l2 [ak,a9] bH J
def ajZ:=l4 [l (k 28) x,bK,l z gL,l w ah] iL J
def aj0:=l2 [jz] (l gY gO) J
def aj1:=l1 [l (a (a gQ aj) x) (k 61000)] (l (a (a gQ aj) x) aJ) J
def aj2:=l1 [jz] aA J
def aj3:=l2 [aH,bM] aG J
def aj4:=l2 [jz] (l f7 gO) J
def aj5:=@Av (l (a (k 61000) (m 21 (m 22 (a dI k1)))) aq) J
def aj6:=l2 [aF,aS] be J
def aj7:=l2 [aF,l y (m 20 x)] iP J
def aj8:=l3 [aw,bM,fH] (l z ao) J
def aj9:=@Av (l (a (k 61000) (m 20 (m 22 (a dI k1)))) (k 400000)) J
def aka:=Ex [ge,w_ (E K1 X) (E af aL)] (t y cF) J
def akb:=Ex [ge,w_ (E gK X) (E af aL)] (t y cF) J
def akc:=l1 [iU] iU J
def akd:=l1 [aA] am J
def Fs:=l1 [iA] cD J
def ake:=@Av (l dI aJ) J
def PD:=l1 [ai] aA J
def akf:=l1 [iA] gr J
def Vp:=@Av (l cI b9) J
def akg:=l2 [ai,a9] aO J
def akh:=l1 [cN] (e (a (s x k2) k1) aa) J
def aki:=l1 [l x b6] (l (a x aX) bo) J
def akj:=l2 [ai,aS] be J
def akk:=l1 [l x (a cI k1)] ay J
def akl:=l2 [ai,aS] bH J
def akm:=l4 [je,l y (a cI k1),l z cI,fJ] (l (a w y) ac) J
def Vq:=l2 [l x dZ] (l gY dC) J
def akn:=l2 [l jA gy] (l jA aJ) J
def Vr:=l1 [l x dZ] aA J
def Vs:=l1 [ai] aG J
def Vt:=l2 [l x dZ] (l f7 dC) J
def ako:=@Av (l (a gy (k 645)) bo) J
def akp:=l2 [ai,a9] be J
def akq:=l2 [ai,a9] jd J
def Vu:=l2 [ai,a9] bH J
def akr:=l4 [l aZ x,aO,l z ah,l w ah] iL J
def Vv:=l1 [iA] ga J
def aks:=l1 [l x b6] (l (a (a x (a (a gy (a dI aj)) aj)) k1) ae) J
def Vx:=l2 [ai,aS] aT J
def akt:=l1 [ge] am J
def aku:=l3 [je,aO,bn] fH J
def akv:=l2 [je,l y aZ] aS J
def akw:=l2 [l cL (k 80000)] (l cL aJ) J
def akx:=l2 [du] du J
def aky:=l2 [l x dZ] (l f7 iO) J
def Vy:=@AF (E (S gi K1) af) J
def akz:=@Av (l (a gy aZ) ae) J
def akA:=l2 [ai,a9] aT J
def akB:=l1 [bq,az] f J
def akC:=l3 [gq,fH] bn J
def akD:=l1 [ge] aG J
def akE:=l1 [aV] aR J
def akF:=l1 [iA] eO J
def akG:=@Av (l dI (k 5000)) J
def akH:=l2 [ai,aS] aO J
def J5:=l2 [aH,b7] ai J
def akI:=@Av (l gy aJ) J
def akJ:=@Av (l (a (k 40005) aZ) ae) J
def akK:=l3 [ai,a9,l z ah] ei J
def akL:=@Av (l (a (k 80000) (k 40015)) ae) J
def akM:=l1 [l x iO] am J
def akN:=l4 [ai,a9,l z ah,fJ] (l w iy) J
def akO:=CF [L X ip] (L X af) J
def Vz:=Hw [T X Y] (n (E X Y)) J
def akP:=Ex [L X ip,iX] (T X (c (s x k0))) J
def VA:=l2 [cj] gq J
def akQ:=l3 [cj] (n (E aL (c (s y al)))) J
def akR:=@AF (e (t_ (A gi gK)) x) J
def akS:=@Av (n (L K0 gK)) J
def akT:=@AF (L (g gi) gK) J
def akU:=l1 [ag] jB J
def akV:=l1 [e7] jB J
def Mw:=l1 [e7] ag J
def VB:=l1 [l ac (k 900)] e7 J
def akW:=Ex [L X ip,iX] (T X af) J
def akX:=l1 [l ac e8] aG J
def VC:=l3 [e x ij,e y z] aw J
def akY:=l2 [aw,l ab e8] e7 J
def akZ:=l2 [aw] au J
def ak0:=l2 [aw,be] e7 J
def ak1:=l1 [aG] (l (m 20 x) iy) J
def ak2:=l1 [am] fZ J
def ak3:=l2 [l x iz,bK] bO J
def ak4:=l3 [aw,t jJ k1] (e jK k0) J
def PE:=l1 [aG] (l dF ao) J
def ak5:=l2 [aG,t y dF] iT J
def ak6:=@Av (l (a b6 (k 11)) ae) J
def ak7:=l1 [E gi K0] f J
def ak8:=l1 [a8] (e (s ac k1) aQ) J
def ak9:=CF [L X af] (T X gi) J
def VD:=l3 [l (r x 1) y,l y aK,l z cI] aV J
def ala:=l3 [l (m 1 aa) y,l y aK,l z cI] iB J
def alb:=l3 [ai,a9,bn] gd J
def VE:=l2 [aH] cW J
def alc:=l2 [aC] (e f9 dX) J
def VF:=l1 [fU] cD J
def VG:=@Av (l (a b6 (k 400000)) ae) J
def ald:=l2 [iB,a9] aT J
def ale:=l2 [iB,bv] aT J
def alf:=l3 [du,b8] bn J
def alg:=l1 [fU] (l bj x) J
def alh:=l2 [gq] au J
def ali:=l1 [iB] ai J
def alj:=l2 [aC] (l k1 aW) J
def alk:=l2 [aV] (l aY aZ) J
def alm:=@Av (l b6 b6) J
def aln:=l3 [l x eI] cW J
def alo:=l4 [l ad bj,l z bw,gF] (l gH dC) J
def alp:=l2 [a8,aC] (l dX y) J
def alq:=l6 [cN,aO,l z ah,l w dQ,l u2 bj,l (a u1 aa) z] (l (a u2 w) dC) J
def alr:=l2 [cW,b7] ai J
def VH:=l1 [fU] g8 J
def als:=@Av (l iO b9) J
def alt:=l2 [l ad dC] (l ad cX) J
def alu:=l2 [aV,aO] (l ad cX) J
def alv:=l2 [ai,aO] (l ad cX) J
def alw:=l2 [l x iz,bK] ak J
def alx:=@AF (e (s ac x) k1) J
def aly:=l2 [ak,a9] aT J
def alz:=l2 [ak,bv] aT J
def alA:=l1 [fU] eO J
def alB:=@Av (l gL b9) J
def alC:=l2 [ak,a9] bK J
def alD:=@Av (l bj b9) J
def VI:=l2 [bf,b7] (l ad (a bj k1)) J
def alE:=l2 [aV,b7] (l ad (a bj k1)) J
def alF:=l1 [aV] bF J
def alG:=l2 [t x (t_ (S (c ab) K1))] aC J
def alH:=l2 [aC] (E (S (c ab) af) (c dX)) J
def alI:=@AF (e (a k0 (t_ (S gi K1))) x) J
def alJ:=l1 [je] cO J
def alK:=l1 [iD] g8 J
def PF:=@Av (l c9 b9) J
def alL:=@Av (l gJ (k 3600)) J
def alM:=l1 [ak] i8 J
def alN:=l1 [iD] (l aZ x) J
def alO:=@Av (l (k 3600) aX) J
def alP:=l1 [i8] aR J
def alQ:=l1 [iD] cD J
def alR:=l3 [i8,l y (s ac z)] be J
def alS:=l1 [iD] az J
def alT:=l2 [aw,bM] ag J
def alU:=l1 [iD] fU J
def alV:=l1 [ak] dO J
def alW:=l2 [ak,bv] bH J
def alX:=l2 [ak,bv] (L aL bD) J
def alY:=l2 [jg] (l d9 ae) J
def alZ:=l1 [ay] am J
def al0:=l2 [ak,bv] iP J
def al1:=l2 [ay,aS] gS J
def al2:=l2 [aC] (n aS) J
def al3:=l2 [az] (l k1 ad) J
def al4:=l2 [jg] (l (a dT ad) ae) J
def al5:=l3 [l x (a y cc),l z gL,d6] am J
def al6:=l4 [ay,bK,fH,t w y] (l (a w z) iy) J
def al7:=l6 [ay,l y (a z cc),gE,l u1 (u y cZ),l u2 u1] (l u2 (a al cc)) J
def al8:=l2 [du,bM] ak J
def al9:=l2 [ay,bv] jd J
def ama:=l1 [ag] (l gW (k 1005)) J
def amb:=l2 [ag,l y (m 100 (k 1005))] (l (a (m 2 (a (a k1 y) x)) aj) ae) J
def amc:=l3 [o ak (e y k0),ff] ay J
def amd:=l1 [gb,io] gX J
def ame:=l3 [az] (l k1 (a (a x g7) z)) J
def amf:=l3 [n (t ad z)] (l z ad) J
def amg:=l3 [t ad z] (t x z) J
def amh:=@Av (l aj b9) J
def ami:=l1 [ai] (l aa c9) J
def amj:=l1 [ai] (l (a (k 74) (m 11 aQ)) (k 140)) J
def amk:=l3 [e9,ai] aO J
def aml:=l1 [ai] (l (a aI aa) bj) J
def amm:=l1 [ai] (l aa bj) J
def amn:=@Av (l aI b9) J
def amo:=l1 [aV] (l aa c9) J
def amp:=l1 [aV] (l (a (k 63) (m 11 aQ)) (k 120)) J
def amq:=l3 [e9,aV] b7 J
def amr:=l3 [e9,aV] (l ah aI) J
def ams:=l2 [ai,gf] (l (a ah aa) iO) J
def amt:=l2 [ai,gf] (l (a y (s aQ k1)) cX) J
def VJ:=l1 [aV] (l (a iO aa) c9) J
def amu:=l2 [aV,aO] (l (a aa jC) c9) J
def VK:=l1 [ic] aA J
def VL:=l1 [ic] (l aa fe) J
def VM:=l1 [ic] bO J
def amv:=@Av (l iO fe) J
def PG:=l1 [ai] bO J
def amw:=l1 [aV] (l aa fe) J
def amx:=l4 [e aa (a jC aK),gE,aO,gd] (l w gL) J
def amy:=l1 [ai] (l (a (a aa aa) k1) fe) J
def amz:=@Av (l fe fe) J
def o972:=l2 [aV,aO] (l (a jC aa) c9) J
def o973:=l2 [aV,aO] (l (a (k 221) (m 11 (a (a jC aa) k1))) gJ) J
def amA:=@AF (l c9 (a c9 aa)) J
def amB:=@AK (e fF cy) J
def amC:=l1 [a8] il J
def amD:=CF [ca,T X af] (t jh x) J
def amE:=AV [ca] (E X (c jh)) J
def Ip:=AV [eZ] cC J
def VN:=AV [eZ,jL] (t aP (k 64)) J
def amF:=AV [l aP iN] (t aP (k 64)) J
def VO:=AV [eZ,jL] (l aP aD) J
def VQ:=AV [l aP (m 3 aD)] (t aP (k 4096)) J
def amG:=Hw [l aP (m 10 (m 3 aD)),l iq (m 60 iN)] (t (b (A Y X)) (k 4096)) J
def amH:=AV [l aP (m 60 aD)] (t (b (M 2 X)) (k 4096)) J
def VR:=AV [l aP (r (m 3 aD) 3)] (t aP (k 262144)) J
def amI:=Hw [l aP (m 10 (r (m 3 aD) 3)),l iq (r (m 60 iN) 60)] (t (b (A Y X)) (k 262144)) J
def amJ:=AV [l aP (r (m 60 iN) 3)] iG J
def amK:=AV [l aP (r (m 60 aD) 3)] iG J
def amL:=l1 [ga] jn J
def amM:=@AF (E (A (K 3) af) (c ie)) J
def amN:=l1 [gz] (l ie bk) J
def amO:=l3 [e x (a aD y),t z (a aD y)] b8 J
def amP:=@AF (t k0 ie) J
def amQ:=@AF (t k1 ie) J
def amR:=@AF (t k2 ie) J
def amS:=l2 [e x (a aD y),l y aD] ag J
def VS:=@Av (t k0 aD) J
def o999:=l1 [gz] dO J
def XG:=CF [E X aU] eZ J
def XH:=CF [E X aU,gA] jL J
def XI:=@Av (t k0 (k 25)) J
def XJ:=@Av (t k0 aj) J
def Hx:=CF [E X aU] cC J
def XK:=l3 [aw,l z aD,d6] ag J
def XM:=l2 [aC] (t ie (a aD y)) J
def XN:=l1 [t x aj] (l (b aU) aj) J
def XO:=l2 [gz,bv] (l (b aL) aD) J
def XQ:=CF [E X aU,gA] (l aP aD) J
def XR:=l1 [l (b aU) aj] (t (b aU) cF) J
def XS:=l1 [l (b af) aD] a7 J
def Ft:=@Av (l aZ jj) J
def XT:=AV [l aP (m 5 aD)] jD J
def QN:=AV [l aP aD] jD J
def XU:=@AF (l k2 (a x aD)) J
def XV:=Ls [E X (A (S af (K 12)) Y),l iq (r (m 5 aD) 3),t x (k 25)] (l aP iN) J
def XW:=AV [l aP iN] jD J
def XX:=l3 [aw,n b8,t jK k1] (e z y) J
def XY:=@Av (t k0 dZ) J
def Ey:=@AF (l aD (a x aD)) J
def JA:=@Av (l (a aZ aZ) ae) J
def XZ:=AV [l aP aZ] jD J
def Hy:=@Av (l k1 aZ) J
def QO:=@Av (l (a e8 aZ) ae) J
def X1:=@Av (t k0 cI) J
def X2:=l1 [t x cI] (t (b (A K2 af)) cF) J
def X3:=@Av (l (a gO aZ) ae) J
def X4:=@Av (l (a aZ e8) ae) J
def X5:=l1 [t x cI] (l (b (A K2 af)) aZ) J
def X6:=l1 [bf] ay J
def X7:=@AF (L K1 aU) J
def X8:=l1 [t x aj] (L aU (K 5)) J
def X9:=AV [L X (K 5)] (t jf aj) J
def Yb:=AV [L X K2] (t jf k2) J
def QP:=AV [eZ] (E (A K1 (c jf)) X) J
def Yc:=l2 [aC] (L K1 gp) J
def Yd:=l3 [gz,bv] (L (S aL iH) K2) J
def Ye:=@AK (E af (A aL fi)) J
def Fu:=l1 [bf] ag J
def Yg:=l1 [E af K1] gX J
def Yh:=l1 [d8] fj J
def Yi:=l1 [bf] (l ac bk) J
def Yj:=l2 [aH,gB] ag J
def Mx:=l2 [aH] az J
def QQ:=l2 [aH,gB] ay J
def o1046:=l1 [bf] dO J
def Yk:=@AF (E aU (c eJ)) J
def Yl:=l3 [aH,ff] (t (a k1 z) x) J
def Ym:=l1 [az] il J
def Yn:=l1 [az] a8 J
def QS:=l1 [cN] (E ck ip) J
def Yo:=l1 [cN] (Q ip K0) J
def Yp:=l3 [aw,gx,d6] ag J
def Yq:=l3 [aw,gx,d6] jB J
def QT:=l1 [bf] (t (b ip) cF) J
def Yr:=l3 [l x (a k1 y),l z aZ,d6] a7 J
def o1057:=l3 [az,l x (a k1 y),l z aZ,d6] (w_ az ge) J
def Ys:=l2 [bf] (l iR aI) J
def Yt:=@AF (l k1 (a (a k1 (m 6 k0)) (m 11 x))) J
def Yu:=l1 [cN] (l (a (m 6 aa) aj) (m 11 aa)) J
def Yv:=l2 [l x g7] (l eJ (a k1 g7)) J
def Yw:=l1 [bf] (l (m 6 aa) bk) J
def Yx:=l4 [aw,l gm w,gw] aF J
def Yy:=l1 [ge] ay J
def Yz:=l1 [gN] ga J
def YA:=l5 [cM,l w aI,gd,t u1 w] (l (a (m 2 (a (a (a k1 (m 6 u1)) (m 11 x)) (a k1 g7))) aj) ae) J
def YB:=l4 [aH,l av w,gw] ak J
def YC:=l5 [aH,e y z,gw,l (a u1 z) w] ay J
def YD:=l4 [aH,l av w,gw] aA J
def YE:=@FU (l (a (a de (a k1 (m 11 z))) aj) (a (a k1 (m 6 ac)) (m 11 av))) J
def YF:=l6 [jx,e w u1,e y js,e z bw] (e x (a (a u2 u1) k1)) J
def YG:=@FU (l (a (a k1 (m 6 iR)) (m 11 z)) (a (a k1 (m 6 x)) (m 11 z))) J
def YH:=l1 [gA] bF J
def YI:=@AF (e (t_ (S dN K0)) ac) J
def YJ:=l1 [gA] jB J
def Gv:=l3 [cb,t y al,t z aD] bv J
def YK:=l1 [l cc x] (q aI x) J
def Gw:=l1 [cb] ag J
def YL:=l2 [l cc x,t y cc] (q y x) J
def YM:=l1 [ge] a7 J
def JB:=l1 [bf] (l aa aD) J
def YN:=l1 [gA] (o bq (o gX (e x k2))) J
def YO:=l1 [cJ] cJ J
def YQ:=l2 [cJ,l y gO] (w_ cJ (l y gO)) J
def YR:=l3 [cJ,l y gO,l z gO] (w_ cJ (w_ (l y gO) (l z gO))) J
def QU:=l1 [gz] ag J
def YS:=l1 [cJ] (w_ (L (g aB) af) dO) J
def YT:=l1 [t x (t_ (S (K 3) K1))] i6 J
def YU:=l2 [cb,e y aD] (e iR aD) J
def QV:=@Av (q aI cI) J
def YV:=l1 [i6] (t ac aD) J
def YW:=l1 [q x cI] (q x cI) J
def YX:=l2 [cb,t y k2] (T (c ab) af) J
theorem QW {x0 x1:Nat} (h0:x0=3) (h1:x1<2):x1+1<x0:=(l2 [e x (k 3),t y k2] (t (a y k1) x) J) h0 h1
theorem YY {x0 x1 x2:Nat} (h0:x0=3) (h1:x1=3) (h2:x2<2):x2+1<min x0 x1:=(l3 [e x (k 3),e y (k 3),t z k2] (t (a z k1) (v x y)) J) h0 h1 h2
def YZ:=l2 [cb] (l (v y x) aD) J
def QX:=l1 [ig] iU J
def JC:=l1 [aF] aA J
def Y0:=l2 [ig,l y aX] (l (a (m 2 dJ) aj) ae) J
def My:=l1 [aF] ak J
def Y1:=l2 [aF,a9] jd J
def Y2:=l4 [l (k 40) x,bM,l z dC,l w ah] (l cZ ac) J
def QY:=@Av (l k1 k2) J
def Y3:=l2 [ig,l y aX] (l (a (a dJ aj) k2) ae) J
def QZ:=l1 [l x (k 40)] am J
def Y4:=l2 [ig,l y aX] (l (a (m 2 (a gW y)) aj) ae) J
def Y5:=l2 [aF,a9] bK J
def Q0:=l1 [aF] ay J
def Y6:=l2 [aF,a9] bH J
def Y7:=l4 [l (k 40) x,bM,l z dC,l w ah] iL J
def Y8:=l2 [ig,l y aX] (l (a (a (a gW y) aj) (a (a dJ aj) k2)) ae) J
def Y9:=l2 [l x (k 40),aS] aT J
def Za:=l1 [ig] (l (a (m 2 ix) aj) ae) J
def Q1:=l1 [cH] ag J
def Q2:=l1 [az] (E ck ip) J
def Zb:=l1 [cH] (l aa (k 50)) J
def Zc:=l2 [cH,a9] gS J
def Zd:=l2 [gq] (l x (v ah x)) J
def Fv:=l1 [gC] ag J
def Ze:=l1 [gC] (t cw x) J
def Zf:=l1 [ci] d8 J
def Hz:=l1 [ci] cD J
def Zg:=@Av (l (a (k 140) e8) ae) J
def Zh:=l1 [ai] am J
def Zi:=@Av (l (a (k 388) (k 160)) ae) J
def Q3:=l1 [ic] am J
def Zj:=l4 [ai,gf,l z (u y w),gE] (l z bj) J
def Zk:=l1 [ci] gr J
def Zl:=@Av (l (k 549) aX) J
def Zm:=@Av (l (k 140) aX) J
def Zn:=l1 [ic] aF J
def Zo:=l1 [ai] aF J
def Zp:=l2 [ai,gf] (l (a ah x) (a dC k1)) J
def Zq:=l2 [ai,gf] (l (a y aa) (a dC k1)) J
def Fw:=l1 [ci] ga J
def Zr:=@Av (l (a (m 2 jF) aj) ae) J
def Q4:=l1 [aV] ay J
def Zs:=l2 [aF,b7] (l ad (a b9 k1)) J
def Zt:=@Av (l (a (m 2 jM) aj) ae) J
def Q5:=l1 [bf] ak J
def Zu:=l2 [cG,aO] ay J
def Q6:=l1 [bf] aA J
def Zv:=l3 [cG,aO,gx] (l dH (a b9 k1)) J
def Zw:=@Av (l (a (a jF aj) (a jM aj)) ae) J
def Q7:=l1 [aR] am J
def Zx:=@Av (l (a (m 2 (a (k 285) (k 120))) aj) ae) J
def Zy:=l2 [cG,aO] ak J
def Zz:=l2 [cG,aO] aA J
def ZA:=l2 [ai,gf] (l (a ah x) cX) J
def ZB:=l2 [ai,gf] (l (a y aa) cX) J
def ZC:=l3 [cG,aO,gx] (l dH (a c9 k1)) J
def JD:=l1 [ci] g8 J
def ZD:=l4 [cG,e al iW,gw,aO] (l z c9) J
def ZE:=l1 [ci] je J
def ZF:=l4 [t x ij,jG] (t w y) J
def ZG:=l3 [t x ij] aC J
def ZH:=l3 [l (a (m 20 x) k1) y,fH] (l (a (m 20 z) k1) y) J
theorem Mz {x0:Nat} (h0:x0=9):5<x0:=(l1 [e x (k 9)] (t (k 5) x) J) h0
def MA:=@Av (t k0 k2) J
def ZI:=l3 [gb,t y k2,t z k2] (w_ (l y k1) (w_ (l z k1) gb)) J
def Q8:=l1 [ci] eO J
def MB:=l1 [cb] bf J
def Q9:=l2 [cb,e y aD] aw J
def ZJ:=l1 [bf] aV J
def ZK:=l2 [cb,gB] (l de (k 63)) J
def ZL:=l1 [cb] gz J
def ZM:=l1 [gC] (t cI x) J
def ZN:=l1 [gC] (t (k 7) x) J
def ZO:=l2 [aH,gB] cH J
def ZP:=l3 [aH,gB,hV] gx J
def ZQ:=l3 [aH,gB,hV] gd J
def MC:=l2 [aH,gB] aV J
def ZR:=l2 [cb,b7] (l de (k 74)) J
def ZS:=l1 [ci] az J
def ZT:=l1 [gz] (l ac aI) J
def ZU:=@Av (l (a (m 2 (a (k 62) (k 74))) aj) ae) J
def ZV:=l2 [aH,b7] ay J
def ZW:=l3 [aH,b7,gx] (l dH (a bj k1)) J
def Ra:=l1 [gC] (t aI x) J
def Rb:=l2 [aH,b7] cH J
def Rc:=l3 [aH,b7,hV] gd J
def ZX:=@Av (l (a (a (a (k 62) (k 74)) aj) e8) ae) J
def ZY:=l3 [aH,b7,hV] ei J
def ZZ:=l2 [l bj x,gf] aS J
def Z0:=l4 [aH,l bj z,l w aa,b7] fJ J
def Rd:=l2 [aH,b7] ic J
def Z1:=l3 [aH,b7,hV] (l z bj) J
def Fx:=l1 [cb] a8 J
def Z2:=@Av (t (b K2) cF) J
def Z3:=l1 [bf] a7 J
theorem MD {x0:Nat} (h0:x0=9):2<x0:=(l1 [e x (k 9)] (t k2 x) J) h0
def Z4:=l2 [bf] (E iM (c (t_ iM))) J
def Z5:=l3 [cg] (t (b iH) cF) J
def Z6:=l1 [i6] a7 J
def Z7:=l1 [i6] gb J
def Z8:=l2 [l x (r y 1)] au J
def Z9:=l3 [cg] (l z (s cw (m 2 y))) J
def aaa:=l1 [bf] (t x aj) J
def aab:=l4 [cg,l k2 y,fJ] (l w aI) J
def ME:=l1 [cb] cE J
def aac:=l1 [gA] a7 J
def aad:=l1 [gb] a7 J
def aae:=l1 [gA] (l x k2) J
def aaf:=l2 [cb,e y x] (e y aD) J
def aag:=l3 [bf,l y k1,l z k2] (w_ ge (w_ (l z aZ) (l y aZ))) J
def MF:=@Av (l k1 (k 19)) J
def Re:=l1 [gC] a8 J
def Rf:=@Av (l aj (k 19)) J
def aah:=l1 [gC] cE J
def aai:=@Av (l aD (k 19)) J
def aaj:=l1 [cb] az J
end
end Mine
namespace Mine
theorem xq0_2  {A0 A1:Prop} {C:Prop} (h:A0/\A1) (k:A0->A1->C):C:=k h.1 h.2
theorem AI  {A0 A1 A2:Prop} {C:Prop} (h:A0/\A1/\A2) (k:A0->A1->A2->C):C:=k h.1 h.2.1 h.2.2
theorem MG  {A0 A1 A2:Prop} {C:Prop} (k:A0->A1->A2->C):(A0/\A1/\A2)->C:=fun h=>k h.1 h.2.1 h.2.2
theorem Bz  {A0 A1 A2 A3:Prop} {C:Prop} (h:A0/\A1/\A2/\A3) (k:A0->A1->A2->A3->C):C:=k h.1 h.2.1 h.2.2.1 h.2.2.2
theorem AO  {A0 A1 A2 A3 A4:Prop} {C:Prop} (h:A0/\A1/\A2/\A3/\A4) (k:A0->A1->A2->A3->A4->C):C:=k h.1 h.2.1 h.2.2.1 h.2.2.2.1 h.2.2.2.2
theorem MH  {A0 A1 A2 A3 A4 A5:Prop} {C:Prop} (h:A0/\A1/\A2/\A3/\A4/\A5) (k:A0->A1->A2->A3->A4->A5->C):C:=k h.1 h.2.1 h.2.2.1 h.2.2.2.1 h.2.2.2.2.1 h.2.2.2.2.2
theorem MI  {A0 A1 A2 A3 A4 A5 A6:Prop} {C:Prop} (h:A0/\A1/\A2/\A3/\A4/\A5/\A6) (k:A0->A1->A2->A3->A4->A5->A6->C):C:=k h.1 h.2.1 h.2.2.1 h.2.2.2.1 h.2.2.2.2.1 h.2.2.2.2.2.1 h.2.2.2.2.2.2
theorem aak  {A0 A1 A2 A3 A4 A5 A6 A7:Prop} {C:Prop} (h:A0/\A1/\A2/\A3/\A4/\A5/\A6/\A7) (k:A0->A1->A2->A3->A4->A5->A6->A7->C):C:=k h.1 h.2.1 h.2.2.1 h.2.2.2.1 h.2.2.2.2.1 h.2.2.2.2.2.1 h.2.2.2.2.2.2.1 h.2.2.2.2.2.2.2
theorem aal  {A0 A1 A2 A3 A4 A5 A6 A7 A8:Prop} {C:Prop} (h:A0/\A1/\A2/\A3/\A4/\A5/\A6/\A7/\A8) (k:A0->A1->A2->A3->A4->A5->A6->A7->A8->C):C:=k h.1 h.2.1 h.2.2.1 h.2.2.2.1 h.2.2.2.2.1 h.2.2.2.2.2.1 h.2.2.2.2.2.2.1 h.2.2.2.2.2.2.2.1 h.2.2.2.2.2.2.2.2
theorem VT  {A0 A1 A2 A3 A4 A5 A6 A7 A8 A9:Prop} {C:Prop} (h:A0/\A1/\A2/\A3/\A4/\A5/\A6/\A7/\A8/\A9) (k:A0->A1->A2->A3->A4->A5->A6->A7->A8->A9->C):C:=k h.1 h.2.1 h.2.2.1 h.2.2.2.1 h.2.2.2.2.1 h.2.2.2.2.2.1 h.2.2.2.2.2.2.1 h.2.2.2.2.2.2.2.1 h.2.2.2.2.2.2.2.2.1 h.2.2.2.2.2.2.2.2.2
theorem HA {α0:Type} {A0:α0->Prop} {C:Prop} (h:∃ x1,A0 x1) (k:∀ x1,A0 x1->C):C:=Exists.elim h fun x1 h=>k x1 h
theorem xq1_2 {α0:Type} {A0 A1:α0->Prop} {C:Prop} (h:∃ x1,A0 x1/\A1 x1) (k:∀ x1,A0 x1->A1 x1->C):C:=Exists.elim h fun x1 h=>k x1 h.1 h.2
theorem aam {α0:Type} {A0 A1:α0->Prop} {C:Prop} (k:∀ x1,A0 x1->A1 x1->C):(∃ x1,A0 x1/\A1 x1)->C:=fun h=>Exists.elim h fun x1 h=>k x1 h.1 h.2
theorem xq1_3 {α0:Type} {A0 A1 A2:α0->Prop} {C:Prop} (h:∃ x1,A0 x1/\A1 x1/\A2 x1) (k:∀ x1,A0 x1->A1 x1->A2 x1->C):C:=Exists.elim h fun x1 h=>k x1 h.1 h.2.1 h.2.2
theorem aan {α0:Type} {A0 A1 A2:α0->Prop} {C:Prop} (k:∀ x1,A0 x1->A1 x1->A2 x1->C):(∃ x1,A0 x1/\A1 x1/\A2 x1)->C:=fun h=>Exists.elim h fun x1 h=>k x1 h.1 h.2.1 h.2.2
theorem xq1_4 {α0:Type} {A0 A1 A2 A3:α0->Prop} {C:Prop} (h:∃ x1,A0 x1/\A1 x1/\A2 x1/\A3 x1) (k:∀ x1,A0 x1->A1 x1->A2 x1->A3 x1->C):C:=Exists.elim h fun x1 h=>k x1 h.1 h.2.1 h.2.2.1 h.2.2.2
theorem aao {α0:Type} {A0 A1 A2 A3:α0->Prop} {C:Prop} (k:∀ x1,A0 x1->A1 x1->A2 x1->A3 x1->C):(∃ x1,A0 x1/\A1 x1/\A2 x1/\A3 x1)->C:=fun h=>Exists.elim h fun x1 h=>k x1 h.1 h.2.1 h.2.2.1 h.2.2.2
theorem xq1_5 {α0:Type} {A0 A1 A2 A3 A4:α0->Prop} {C:Prop} (h:∃ x1,A0 x1/\A1 x1/\A2 x1/\A3 x1/\A4 x1) (k:∀ x1,A0 x1->A1 x1->A2 x1->A3 x1->A4 x1->C):C:=Exists.elim h fun x1 h=>k x1 h.1 h.2.1 h.2.2.1 h.2.2.2.1 h.2.2.2.2
theorem xq1_6 {α0:Type} {A0 A1 A2 A3 A4 A5:α0->Prop} {C:Prop} (h:∃ x1,A0 x1/\A1 x1/\A2 x1/\A3 x1/\A4 x1/\A5 x1) (k:∀ x1,A0 x1->A1 x1->A2 x1->A3 x1->A4 x1->A5 x1->C):C:=Exists.elim h fun x1 h=>k x1 h.1 h.2.1 h.2.2.1 h.2.2.2.1 h.2.2.2.2.1 h.2.2.2.2.2
theorem xq1_7 {α0:Type} {A0 A1 A2 A3 A4 A5 A6:α0->Prop} {C:Prop} (h:∃ x1,A0 x1/\A1 x1/\A2 x1/\A3 x1/\A4 x1/\A5 x1/\A6 x1) (k:∀ x1,A0 x1->A1 x1->A2 x1->A3 x1->A4 x1->A5 x1->A6 x1->C):C:=Exists.elim h fun x1 h=>k x1 h.1 h.2.1 h.2.2.1 h.2.2.2.1 h.2.2.2.2.1 h.2.2.2.2.2.1 h.2.2.2.2.2.2
theorem aap {α0:Type} {A0 A1 A2 A3 A4 A5 A6 A7:α0->Prop} {C:Prop} (h:∃ x1,A0 x1/\A1 x1/\A2 x1/\A3 x1/\A4 x1/\A5 x1/\A6 x1/\A7 x1) (k:∀ x1,A0 x1->A1 x1->A2 x1->A3 x1->A4 x1->A5 x1->A6 x1->A7 x1->C):C:=Exists.elim h fun x1 h=>k x1 h.1 h.2.1 h.2.2.1 h.2.2.2.1 h.2.2.2.2.1 h.2.2.2.2.2.1 h.2.2.2.2.2.2.1 h.2.2.2.2.2.2.2
theorem xq1_9 {α0:Type} {A0 A1 A2 A3 A4 A5 A6 A7 A8:α0->Prop} {C:Prop} (h:∃ x1,A0 x1/\A1 x1/\A2 x1/\A3 x1/\A4 x1/\A5 x1/\A6 x1/\A7 x1/\A8 x1) (k:∀ x1,A0 x1->A1 x1->A2 x1->A3 x1->A4 x1->A5 x1->A6 x1->A7 x1->A8 x1->C):C:=Exists.elim h fun x1 h=>k x1 h.1 h.2.1 h.2.2.1 h.2.2.2.1 h.2.2.2.2.1 h.2.2.2.2.2.1 h.2.2.2.2.2.2.1 h.2.2.2.2.2.2.2.1 h.2.2.2.2.2.2.2.2
theorem DG {α0:Type} {α1:Type} {A0:α0->α1->Prop} {C:Prop} (h:∃ x1 x2,A0 x1 x2) (k:∀ x1 x2,A0 x1 x2->C):C:=Exists.elim h fun x1 h=>Exists.elim h fun x2 h=>k x1 x2 h
theorem xq2_2 {α0:Type} {α1:Type} {A0 A1:α0->α1->Prop} {C:Prop} (h:∃ x1 x2,A0 x1 x2/\A1 x1 x2) (k:∀ x1 x2,A0 x1 x2->A1 x1 x2->C):C:=Exists.elim h fun x1 h=>Exists.elim h fun x2 h=>k x1 x2 h.1 h.2
theorem aaq {α0:Type} {α1:Type} {A0 A1:α0->α1->Prop} {C:Prop} (k:∀ x1 x2,A0 x1 x2->A1 x1 x2->C):(∃ x1 x2,A0 x1 x2/\A1 x1 x2)->C:=fun h=>Exists.elim h fun x1 h=>Exists.elim h fun x2 h=>k x1 x2 h.1 h.2
theorem xq2_3 {α0:Type} {α1:Type} {A0 A1 A2:α0->α1->Prop} {C:Prop} (h:∃ x1 x2,A0 x1 x2/\A1 x1 x2/\A2 x1 x2) (k:∀ x1 x2,A0 x1 x2->A1 x1 x2->A2 x1 x2->C):C:=Exists.elim h fun x1 h=>Exists.elim h fun x2 h=>k x1 x2 h.1 h.2.1 h.2.2
theorem JE {α0:Type} {α1:Type} {A0 A1 A2:α0->α1->Prop} {C:Prop} (k:∀ x1 x2,A0 x1 x2->A1 x1 x2->A2 x1 x2->C):(∃ x1 x2,A0 x1 x2/\A1 x1 x2/\A2 x1 x2)->C:=fun h=>Exists.elim h fun x1 h=>Exists.elim h fun x2 h=>k x1 x2 h.1 h.2.1 h.2.2
theorem Am {α0:Type} {α1:Type} {A0 A1 A2 A3:α0->α1->Prop} {C:Prop} (h:∃ x1 x2,A0 x1 x2/\A1 x1 x2/\A2 x1 x2/\A3 x1 x2) (k:∀ x1 x2,A0 x1 x2->A1 x1 x2->A2 x1 x2->A3 x1 x2->C):C:=Exists.elim h fun x1 h=>Exists.elim h fun x2 h=>k x1 x2 h.1 h.2.1 h.2.2.1 h.2.2.2
theorem xq2_5 {α0:Type} {α1:Type} {A0 A1 A2 A3 A4:α0->α1->Prop} {C:Prop} (h:∃ x1 x2,A0 x1 x2/\A1 x1 x2/\A2 x1 x2/\A3 x1 x2/\A4 x1 x2) (k:∀ x1 x2,A0 x1 x2->A1 x1 x2->A2 x1 x2->A3 x1 x2->A4 x1 x2->C):C:=Exists.elim h fun x1 h=>Exists.elim h fun x2 h=>k x1 x2 h.1 h.2.1 h.2.2.1 h.2.2.2.1 h.2.2.2.2
theorem JF {α0:Type} {α1:Type} {A0 A1 A2 A3 A4 A5:α0->α1->Prop} {C:Prop} (h:∃ x1 x2,A0 x1 x2/\A1 x1 x2/\A2 x1 x2/\A3 x1 x2/\A4 x1 x2/\A5 x1 x2) (k:∀ x1 x2,A0 x1 x2->A1 x1 x2->A2 x1 x2->A3 x1 x2->A4 x1 x2->A5 x1 x2->C):C:=Exists.elim h fun x1 h=>Exists.elim h fun x2 h=>k x1 x2 h.1 h.2.1 h.2.2.1 h.2.2.2.1 h.2.2.2.2.1 h.2.2.2.2.2
theorem xq2_7 {α0:Type} {α1:Type} {A0 A1 A2 A3 A4 A5 A6:α0->α1->Prop} {C:Prop} (h:∃ x1 x2,A0 x1 x2/\A1 x1 x2/\A2 x1 x2/\A3 x1 x2/\A4 x1 x2/\A5 x1 x2/\A6 x1 x2) (k:∀ x1 x2,A0 x1 x2->A1 x1 x2->A2 x1 x2->A3 x1 x2->A4 x1 x2->A5 x1 x2->A6 x1 x2->C):C:=Exists.elim h fun x1 h=>Exists.elim h fun x2 h=>k x1 x2 h.1 h.2.1 h.2.2.1 h.2.2.2.1 h.2.2.2.2.1 h.2.2.2.2.2.1 h.2.2.2.2.2.2
theorem xq2_11 {α0:Type} {α1:Type} {A0 A1 A2 A3 A4 A5 A6 A7 A8 A9 A10:α0->α1->Prop} {C:Prop} (h:∃ x1 x2,A0 x1 x2/\A1 x1 x2/\A2 x1 x2/\A3 x1 x2/\A4 x1 x2/\A5 x1 x2/\A6 x1 x2/\A7 x1 x2/\A8 x1 x2/\A9 x1 x2/\A10 x1 x2) (k:∀ x1 x2,A0 x1 x2->A1 x1 x2->A2 x1 x2->A3 x1 x2->A4 x1 x2->A5 x1 x2->A6 x1 x2->A7 x1 x2->A8 x1 x2->A9 x1 x2->A10 x1 x2->C):C:=Exists.elim h fun x1 h=>Exists.elim h fun x2 h=>k x1 x2 h.1 h.2.1 h.2.2.1 h.2.2.2.1 h.2.2.2.2.1 h.2.2.2.2.2.1 h.2.2.2.2.2.2.1 h.2.2.2.2.2.2.2.1 h.2.2.2.2.2.2.2.2.1 h.2.2.2.2.2.2.2.2.2.1 h.2.2.2.2.2.2.2.2.2.2
theorem xq2_12 {α0:Type} {α1:Type} {A0 A1 A2 A3 A4 A5 A6 A7 A8 A9 A10 A11:α0->α1->Prop} {C:Prop} (h:∃ x1 x2,A0 x1 x2/\A1 x1 x2/\A2 x1 x2/\A3 x1 x2/\A4 x1 x2/\A5 x1 x2/\A6 x1 x2/\A7 x1 x2/\A8 x1 x2/\A9 x1 x2/\A10 x1 x2/\A11 x1 x2) (k:∀ x1 x2,A0 x1 x2->A1 x1 x2->A2 x1 x2->A3 x1 x2->A4 x1 x2->A5 x1 x2->A6 x1 x2->A7 x1 x2->A8 x1 x2->A9 x1 x2->A10 x1 x2->A11 x1 x2->C):C:=Exists.elim h fun x1 h=>Exists.elim h fun x2 h=>k x1 x2 h.1 h.2.1 h.2.2.1 h.2.2.2.1 h.2.2.2.2.1 h.2.2.2.2.2.1 h.2.2.2.2.2.2.1 h.2.2.2.2.2.2.2.1 h.2.2.2.2.2.2.2.2.1 h.2.2.2.2.2.2.2.2.2.1 h.2.2.2.2.2.2.2.2.2.2.1 h.2.2.2.2.2.2.2.2.2.2.2
theorem MJ {α0:Type} {α1:Type} {α2:Type} {A0:α0->α1->α2->Prop} {C:Prop} (h:∃ x1 x2 x3,A0 x1 x2 x3) (k:∀ x1 x2 x3,A0 x1 x2 x3->C):C:=Exists.elim h fun x1 h=>Exists.elim h fun x2 h=>Exists.elim h fun x3 h=>k x1 x2 x3 h
theorem aar {α0:Type} {α1:Type} {α2:Type} {A0 A1:α0->α1->α2->Prop} {C:Prop} (h:∃ x1 x2 x3,A0 x1 x2 x3/\A1 x1 x2 x3) (k:∀ x1 x2 x3,A0 x1 x2 x3->A1 x1 x2 x3->C):C:=Exists.elim h fun x1 h=>Exists.elim h fun x2 h=>Exists.elim h fun x3 h=>k x1 x2 x3 h.1 h.2
theorem xq3_3 {α0:Type} {α1:Type} {α2:Type} {A0 A1 A2:α0->α1->α2->Prop} {C:Prop} (h:∃ x1 x2 x3,A0 x1 x2 x3/\A1 x1 x2 x3/\A2 x1 x2 x3) (k:∀ x1 x2 x3,A0 x1 x2 x3->A1 x1 x2 x3->A2 x1 x2 x3->C):C:=Exists.elim h fun x1 h=>Exists.elim h fun x2 h=>Exists.elim h fun x3 h=>k x1 x2 x3 h.1 h.2.1 h.2.2
theorem xq3_4 {α0:Type} {α1:Type} {α2:Type} {A0 A1 A2 A3:α0->α1->α2->Prop} {C:Prop} (h:∃ x1 x2 x3,A0 x1 x2 x3/\A1 x1 x2 x3/\A2 x1 x2 x3/\A3 x1 x2 x3) (k:∀ x1 x2 x3,A0 x1 x2 x3->A1 x1 x2 x3->A2 x1 x2 x3->A3 x1 x2 x3->C):C:=Exists.elim h fun x1 h=>Exists.elim h fun x2 h=>Exists.elim h fun x3 h=>k x1 x2 x3 h.1 h.2.1 h.2.2.1 h.2.2.2
theorem Ez {α0:Type} {α1:Type} {α2:Type} {A0 A1 A2 A3 A4 A5:α0->α1->α2->Prop} {C:Prop} (h:∃ x1 x2 x3,A0 x1 x2 x3/\A1 x1 x2 x3/\A2 x1 x2 x3/\A3 x1 x2 x3/\A4 x1 x2 x3/\A5 x1 x2 x3) (k:∀ x1 x2 x3,A0 x1 x2 x3->A1 x1 x2 x3->A2 x1 x2 x3->A3 x1 x2 x3->A4 x1 x2 x3->A5 x1 x2 x3->C):C:=Exists.elim h fun x1 h=>Exists.elim h fun x2 h=>Exists.elim h fun x3 h=>k x1 x2 x3 h.1 h.2.1 h.2.2.1 h.2.2.2.1 h.2.2.2.2.1 h.2.2.2.2.2
theorem xq3_7 {α0:Type} {α1:Type} {α2:Type} {A0 A1 A2 A3 A4 A5 A6:α0->α1->α2->Prop} {C:Prop} (h:∃ x1 x2 x3,A0 x1 x2 x3/\A1 x1 x2 x3/\A2 x1 x2 x3/\A3 x1 x2 x3/\A4 x1 x2 x3/\A5 x1 x2 x3/\A6 x1 x2 x3) (k:∀ x1 x2 x3,A0 x1 x2 x3->A1 x1 x2 x3->A2 x1 x2 x3->A3 x1 x2 x3->A4 x1 x2 x3->A5 x1 x2 x3->A6 x1 x2 x3->C):C:=Exists.elim h fun x1 h=>Exists.elim h fun x2 h=>Exists.elim h fun x3 h=>k x1 x2 x3 h.1 h.2.1 h.2.2.1 h.2.2.2.1 h.2.2.2.2.1 h.2.2.2.2.2.1 h.2.2.2.2.2.2
theorem xq3_10 {α0:Type} {α1:Type} {α2:Type} {A0 A1 A2 A3 A4 A5 A6 A7 A8 A9:α0->α1->α2->Prop} {C:Prop} (h:∃ x1 x2 x3,A0 x1 x2 x3/\A1 x1 x2 x3/\A2 x1 x2 x3/\A3 x1 x2 x3/\A4 x1 x2 x3/\A5 x1 x2 x3/\A6 x1 x2 x3/\A7 x1 x2 x3/\A8 x1 x2 x3/\A9 x1 x2 x3) (k:∀ x1 x2 x3,A0 x1 x2 x3->A1 x1 x2 x3->A2 x1 x2 x3->A3 x1 x2 x3->A4 x1 x2 x3->A5 x1 x2 x3->A6 x1 x2 x3->A7 x1 x2 x3->A8 x1 x2 x3->A9 x1 x2 x3->C):C:=Exists.elim h fun x1 h=>Exists.elim h fun x2 h=>Exists.elim h fun x3 h=>k x1 x2 x3 h.1 h.2.1 h.2.2.1 h.2.2.2.1 h.2.2.2.2.1 h.2.2.2.2.2.1 h.2.2.2.2.2.2.1 h.2.2.2.2.2.2.2.1 h.2.2.2.2.2.2.2.2.1 h.2.2.2.2.2.2.2.2.2
theorem VU {α0:Type} {α1:Type} {α2:Type} {A0 A1 A2 A3 A4 A5 A6 A7 A8 A9 A10:α0->α1->α2->Prop} {C:Prop} (h:∃ x1 x2 x3,A0 x1 x2 x3/\A1 x1 x2 x3/\A2 x1 x2 x3/\A3 x1 x2 x3/\A4 x1 x2 x3/\A5 x1 x2 x3/\A6 x1 x2 x3/\A7 x1 x2 x3/\A8 x1 x2 x3/\A9 x1 x2 x3/\A10 x1 x2 x3) (k:∀ x1 x2 x3,A0 x1 x2 x3->A1 x1 x2 x3->A2 x1 x2 x3->A3 x1 x2 x3->A4 x1 x2 x3->A5 x1 x2 x3->A6 x1 x2 x3->A7 x1 x2 x3->A8 x1 x2 x3->A9 x1 x2 x3->A10 x1 x2 x3->C):C:=Exists.elim h fun x1 h=>Exists.elim h fun x2 h=>Exists.elim h fun x3 h=>k x1 x2 x3 h.1 h.2.1 h.2.2.1 h.2.2.2.1 h.2.2.2.2.1 h.2.2.2.2.2.1 h.2.2.2.2.2.2.1 h.2.2.2.2.2.2.2.1 h.2.2.2.2.2.2.2.2.1 h.2.2.2.2.2.2.2.2.2.1 h.2.2.2.2.2.2.2.2.2.2
theorem aas {α0:Type} {α1:Type} {α2:Type} {α3:Type} {A0:α0->α1->α2->α3->Prop} {C:Prop} (h:∃ x1 x2 x3 x4,A0 x1 x2 x3 x4) (k:∀ x1 x2 x3 x4,A0 x1 x2 x3 x4->C):C:=Exists.elim h fun x1 h=>Exists.elim h fun x2 h=>Exists.elim h fun x3 h=>Exists.elim h fun x4 h=>k x1 x2 x3 x4 h
theorem aat {α0:Type} {α1:Type} {α2:Type} {α3:Type} {A0 A1:α0->α1->α2->α3->Prop} {C:Prop} (h:∃ x1 x2 x3 x4,A0 x1 x2 x3 x4/\A1 x1 x2 x3 x4) (k:∀ x1 x2 x3 x4,A0 x1 x2 x3 x4->A1 x1 x2 x3 x4->C):C:=Exists.elim h fun x1 h=>Exists.elim h fun x2 h=>Exists.elim h fun x3 h=>Exists.elim h fun x4 h=>k x1 x2 x3 x4 h.1 h.2
theorem Rg {α0:Type} {α1:Type} {α2:Type} {α3:Type} {A0 A1 A2:α0->α1->α2->α3->Prop} {C:Prop} (h:∃ x1 x2 x3 x4,A0 x1 x2 x3 x4/\A1 x1 x2 x3 x4/\A2 x1 x2 x3 x4) (k:∀ x1 x2 x3 x4,A0 x1 x2 x3 x4->A1 x1 x2 x3 x4->A2 x1 x2 x3 x4->C):C:=Exists.elim h fun x1 h=>Exists.elim h fun x2 h=>Exists.elim h fun x3 h=>Exists.elim h fun x4 h=>k x1 x2 x3 x4 h.1 h.2.1 h.2.2
theorem aau {α0:Type} {α1:Type} {α2:Type} {α3:Type} {A0 A1 A2 A3:α0->α1->α2->α3->Prop} {C:Prop} (h:∃ x1 x2 x3 x4,A0 x1 x2 x3 x4/\A1 x1 x2 x3 x4/\A2 x1 x2 x3 x4/\A3 x1 x2 x3 x4) (k:∀ x1 x2 x3 x4,A0 x1 x2 x3 x4->A1 x1 x2 x3 x4->A2 x1 x2 x3 x4->A3 x1 x2 x3 x4->C):C:=Exists.elim h fun x1 h=>Exists.elim h fun x2 h=>Exists.elim h fun x3 h=>Exists.elim h fun x4 h=>k x1 x2 x3 x4 h.1 h.2.1 h.2.2.1 h.2.2.2
theorem xq4_5 {α0:Type} {α1:Type} {α2:Type} {α3:Type} {A0 A1 A2 A3 A4:α0->α1->α2->α3->Prop} {C:Prop} (h:∃ x1 x2 x3 x4,A0 x1 x2 x3 x4/\A1 x1 x2 x3 x4/\A2 x1 x2 x3 x4/\A3 x1 x2 x3 x4/\A4 x1 x2 x3 x4) (k:∀ x1 x2 x3 x4,A0 x1 x2 x3 x4->A1 x1 x2 x3 x4->A2 x1 x2 x3 x4->A3 x1 x2 x3 x4->A4 x1 x2 x3 x4->C):C:=Exists.elim h fun x1 h=>Exists.elim h fun x2 h=>Exists.elim h fun x3 h=>Exists.elim h fun x4 h=>k x1 x2 x3 x4 h.1 h.2.1 h.2.2.1 h.2.2.2.1 h.2.2.2.2
theorem xq4_6 {α0:Type} {α1:Type} {α2:Type} {α3:Type} {A0 A1 A2 A3 A4 A5:α0->α1->α2->α3->Prop} {C:Prop} (h:∃ x1 x2 x3 x4,A0 x1 x2 x3 x4/\A1 x1 x2 x3 x4/\A2 x1 x2 x3 x4/\A3 x1 x2 x3 x4/\A4 x1 x2 x3 x4/\A5 x1 x2 x3 x4) (k:∀ x1 x2 x3 x4,A0 x1 x2 x3 x4->A1 x1 x2 x3 x4->A2 x1 x2 x3 x4->A3 x1 x2 x3 x4->A4 x1 x2 x3 x4->A5 x1 x2 x3 x4->C):C:=Exists.elim h fun x1 h=>Exists.elim h fun x2 h=>Exists.elim h fun x3 h=>Exists.elim h fun x4 h=>k x1 x2 x3 x4 h.1 h.2.1 h.2.2.1 h.2.2.2.1 h.2.2.2.2.1 h.2.2.2.2.2
theorem aav {α0:Type} {α1:Type} {α2:Type} {α3:Type} {A0 A1 A2 A3 A4 A5 A6:α0->α1->α2->α3->Prop} {C:Prop} (h:∃ x1 x2 x3 x4,A0 x1 x2 x3 x4/\A1 x1 x2 x3 x4/\A2 x1 x2 x3 x4/\A3 x1 x2 x3 x4/\A4 x1 x2 x3 x4/\A5 x1 x2 x3 x4/\A6 x1 x2 x3 x4) (k:∀ x1 x2 x3 x4,A0 x1 x2 x3 x4->A1 x1 x2 x3 x4->A2 x1 x2 x3 x4->A3 x1 x2 x3 x4->A4 x1 x2 x3 x4->A5 x1 x2 x3 x4->A6 x1 x2 x3 x4->C):C:=Exists.elim h fun x1 h=>Exists.elim h fun x2 h=>Exists.elim h fun x3 h=>Exists.elim h fun x4 h=>k x1 x2 x3 x4 h.1 h.2.1 h.2.2.1 h.2.2.2.1 h.2.2.2.2.1 h.2.2.2.2.2.1 h.2.2.2.2.2.2
theorem VV {α0:Type} {α1:Type} {α2:Type} {α3:Type} {A0 A1 A2 A3 A4 A5 A6 A7 A8 A9 A10 A11 A12 A13:α0->α1->α2->α3->Prop} {C:Prop} (h:∃ x1 x2 x3 x4,A0 x1 x2 x3 x4/\A1 x1 x2 x3 x4/\A2 x1 x2 x3 x4/\A3 x1 x2 x3 x4/\A4 x1 x2 x3 x4/\A5 x1 x2 x3 x4/\A6 x1 x2 x3 x4/\A7 x1 x2 x3 x4/\A8 x1 x2 x3 x4/\A9 x1 x2 x3 x4/\A10 x1 x2 x3 x4/\A11 x1 x2 x3 x4/\A12 x1 x2 x3 x4/\A13 x1 x2 x3 x4) (k:∀ x1 x2 x3 x4,A0 x1 x2 x3 x4->A1 x1 x2 x3 x4->A2 x1 x2 x3 x4->A3 x1 x2 x3 x4->A4 x1 x2 x3 x4->A5 x1 x2 x3 x4->A6 x1 x2 x3 x4->A7 x1 x2 x3 x4->A8 x1 x2 x3 x4->A9 x1 x2 x3 x4->A10 x1 x2 x3 x4->A11 x1 x2 x3 x4->A12 x1 x2 x3 x4->A13 x1 x2 x3 x4->C):C:=Exists.elim h fun x1 h=>Exists.elim h fun x2 h=>Exists.elim h fun x3 h=>Exists.elim h fun x4 h=>k x1 x2 x3 x4 h.1 h.2.1 h.2.2.1 h.2.2.2.1 h.2.2.2.2.1 h.2.2.2.2.2.1 h.2.2.2.2.2.2.1 h.2.2.2.2.2.2.2.1 h.2.2.2.2.2.2.2.2.1 h.2.2.2.2.2.2.2.2.2.1 h.2.2.2.2.2.2.2.2.2.2.1 h.2.2.2.2.2.2.2.2.2.2.2.1 h.2.2.2.2.2.2.2.2.2.2.2.2.1 h.2.2.2.2.2.2.2.2.2.2.2.2.2
theorem Rh {α0:Type} {α1:Type} {α2:Type} {α3:Type} {α4:Type} {A0:α0->α1->α2->α3->α4->Prop} {C:Prop} (h:∃ x1 x2 x3 x4 x5,A0 x1 x2 x3 x4 x5) (k:∀ x1 x2 x3 x4 x5,A0 x1 x2 x3 x4 x5->C):C:=Exists.elim h fun x1 h=>Exists.elim h fun x2 h=>Exists.elim h fun x3 h=>Exists.elim h fun x4 h=>Exists.elim h fun x5 h=>k x1 x2 x3 x4 x5 h
theorem aaw {α0:Type} {α1:Type} {α2:Type} {α3:Type} {α4:Type} {A0 A1 A2 A3:α0->α1->α2->α3->α4->Prop} {C:Prop} (h:∃ x1 x2 x3 x4 x5,A0 x1 x2 x3 x4 x5/\A1 x1 x2 x3 x4 x5/\A2 x1 x2 x3 x4 x5/\A3 x1 x2 x3 x4 x5) (k:∀ x1 x2 x3 x4 x5,A0 x1 x2 x3 x4 x5->A1 x1 x2 x3 x4 x5->A2 x1 x2 x3 x4 x5->A3 x1 x2 x3 x4 x5->C):C:=Exists.elim h fun x1 h=>Exists.elim h fun x2 h=>Exists.elim h fun x3 h=>Exists.elim h fun x4 h=>Exists.elim h fun x5 h=>k x1 x2 x3 x4 x5 h.1 h.2.1 h.2.2.1 h.2.2.2
theorem Ri {α0:Type} {α1:Type} {α2:Type} {α3:Type} {α4:Type} {α5:Type} {A0:α0->α1->α2->α3->α4->α5->Prop} {C:Prop} (h:∃ x1 x2 x3 x4 x5 x6,A0 x1 x2 x3 x4 x5 x6) (k:∀ x1 x2 x3 x4 x5 x6,A0 x1 x2 x3 x4 x5 x6->C):C:=Exists.elim h fun x1 h=>Exists.elim h fun x2 h=>Exists.elim h fun x3 h=>Exists.elim h fun x4 h=>Exists.elim h fun x5 h=>Exists.elim h fun x6 h=>k x1 x2 x3 x4 x5 x6 h
theorem xq6_3 {α0:Type} {α1:Type} {α2:Type} {α3:Type} {α4:Type} {α5:Type} {A0 A1 A2:α0->α1->α2->α3->α4->α5->Prop} {C:Prop} (h:∃ x1 x2 x3 x4 x5 x6,A0 x1 x2 x3 x4 x5 x6/\A1 x1 x2 x3 x4 x5 x6/\A2 x1 x2 x3 x4 x5 x6) (k:∀ x1 x2 x3 x4 x5 x6,A0 x1 x2 x3 x4 x5 x6->A1 x1 x2 x3 x4 x5 x6->A2 x1 x2 x3 x4 x5 x6->C):C:=Exists.elim h fun x1 h=>Exists.elim h fun x2 h=>Exists.elim h fun x3 h=>Exists.elim h fun x4 h=>Exists.elim h fun x5 h=>Exists.elim h fun x6 h=>k x1 x2 x3 x4 x5 x6 h.1 h.2.1 h.2.2
theorem xq6_7 {α0:Type} {α1:Type} {α2:Type} {α3:Type} {α4:Type} {α5:Type} {A0 A1 A2 A3 A4 A5 A6:α0->α1->α2->α3->α4->α5->Prop} {C:Prop} (h:∃ x1 x2 x3 x4 x5 x6,A0 x1 x2 x3 x4 x5 x6/\A1 x1 x2 x3 x4 x5 x6/\A2 x1 x2 x3 x4 x5 x6/\A3 x1 x2 x3 x4 x5 x6/\A4 x1 x2 x3 x4 x5 x6/\A5 x1 x2 x3 x4 x5 x6/\A6 x1 x2 x3 x4 x5 x6) (k:∀ x1 x2 x3 x4 x5 x6,A0 x1 x2 x3 x4 x5 x6->A1 x1 x2 x3 x4 x5 x6->A2 x1 x2 x3 x4 x5 x6->A3 x1 x2 x3 x4 x5 x6->A4 x1 x2 x3 x4 x5 x6->A5 x1 x2 x3 x4 x5 x6->A6 x1 x2 x3 x4 x5 x6->C):C:=Exists.elim h fun x1 h=>Exists.elim h fun x2 h=>Exists.elim h fun x3 h=>Exists.elim h fun x4 h=>Exists.elim h fun x5 h=>Exists.elim h fun x6 h=>k x1 x2 x3 x4 x5 x6 h.1 h.2.1 h.2.2.1 h.2.2.2.1 h.2.2.2.2.1 h.2.2.2.2.2.1 h.2.2.2.2.2.2
theorem Rl {α0:Type} {α1:Type} {α2:Type} {α3:Type} {α4:Type} {α5:Type} {A0 A1 A2 A3 A4 A5 A6 A7:α0->α1->α2->α3->α4->α5->Prop} {C:Prop} (h:∃ x1 x2 x3 x4 x5 x6,A0 x1 x2 x3 x4 x5 x6/\A1 x1 x2 x3 x4 x5 x6/\A2 x1 x2 x3 x4 x5 x6/\A3 x1 x2 x3 x4 x5 x6/\A4 x1 x2 x3 x4 x5 x6/\A5 x1 x2 x3 x4 x5 x6/\A6 x1 x2 x3 x4 x5 x6/\A7 x1 x2 x3 x4 x5 x6) (k:∀ x1 x2 x3 x4 x5 x6,A0 x1 x2 x3 x4 x5 x6->A1 x1 x2 x3 x4 x5 x6->A2 x1 x2 x3 x4 x5 x6->A3 x1 x2 x3 x4 x5 x6->A4 x1 x2 x3 x4 x5 x6->A5 x1 x2 x3 x4 x5 x6->A6 x1 x2 x3 x4 x5 x6->A7 x1 x2 x3 x4 x5 x6->C):C:=Exists.elim h fun x1 h=>Exists.elim h fun x2 h=>Exists.elim h fun x3 h=>Exists.elim h fun x4 h=>Exists.elim h fun x5 h=>Exists.elim h fun x6 h=>k x1 x2 x3 x4 x5 x6 h.1 h.2.1 h.2.2.1 h.2.2.2.1 h.2.2.2.2.1 h.2.2.2.2.2.1 h.2.2.2.2.2.2.1 h.2.2.2.2.2.2.2
theorem aax {α0:Type} {α1:Type} {α2:Type} {α3:Type} {α4:Type} {α5:Type} {A0 A1 A2 A3 A4 A5 A6 A7 A8:α0->α1->α2->α3->α4->α5->Prop} {C:Prop} (h:∃ x1 x2 x3 x4 x5 x6,A0 x1 x2 x3 x4 x5 x6/\A1 x1 x2 x3 x4 x5 x6/\A2 x1 x2 x3 x4 x5 x6/\A3 x1 x2 x3 x4 x5 x6/\A4 x1 x2 x3 x4 x5 x6/\A5 x1 x2 x3 x4 x5 x6/\A6 x1 x2 x3 x4 x5 x6/\A7 x1 x2 x3 x4 x5 x6/\A8 x1 x2 x3 x4 x5 x6) (k:∀ x1 x2 x3 x4 x5 x6,A0 x1 x2 x3 x4 x5 x6->A1 x1 x2 x3 x4 x5 x6->A2 x1 x2 x3 x4 x5 x6->A3 x1 x2 x3 x4 x5 x6->A4 x1 x2 x3 x4 x5 x6->A5 x1 x2 x3 x4 x5 x6->A6 x1 x2 x3 x4 x5 x6->A7 x1 x2 x3 x4 x5 x6->A8 x1 x2 x3 x4 x5 x6->C):C:=Exists.elim h fun x1 h=>Exists.elim h fun x2 h=>Exists.elim h fun x3 h=>Exists.elim h fun x4 h=>Exists.elim h fun x5 h=>Exists.elim h fun x6 h=>k x1 x2 x3 x4 x5 x6 h.1 h.2.1 h.2.2.1 h.2.2.2.1 h.2.2.2.2.1 h.2.2.2.2.2.1 h.2.2.2.2.2.2.1 h.2.2.2.2.2.2.2.1 h.2.2.2.2.2.2.2.2
theorem aay {α0:Type} {α1:Type} {α2:Type} {α3:Type} {α4:Type} {α5:Type} {α6:Type} {A0 A1 A2 A3 A4 A5 A6 A7:α0->α1->α2->α3->α4->α5->α6->Prop} {C:Prop} (h:∃ x1 x2 x3 x4 x5 x6 x7,A0 x1 x2 x3 x4 x5 x6 x7/\A1 x1 x2 x3 x4 x5 x6 x7/\A2 x1 x2 x3 x4 x5 x6 x7/\A3 x1 x2 x3 x4 x5 x6 x7/\A4 x1 x2 x3 x4 x5 x6 x7/\A5 x1 x2 x3 x4 x5 x6 x7/\A6 x1 x2 x3 x4 x5 x6 x7/\A7 x1 x2 x3 x4 x5 x6 x7) (k:∀ x1 x2 x3 x4 x5 x6 x7,A0 x1 x2 x3 x4 x5 x6 x7->A1 x1 x2 x3 x4 x5 x6 x7->A2 x1 x2 x3 x4 x5 x6 x7->A3 x1 x2 x3 x4 x5 x6 x7->A4 x1 x2 x3 x4 x5 x6 x7->A5 x1 x2 x3 x4 x5 x6 x7->A6 x1 x2 x3 x4 x5 x6 x7->A7 x1 x2 x3 x4 x5 x6 x7->C):C:=Exists.elim h fun x1 h=>Exists.elim h fun x2 h=>Exists.elim h fun x3 h=>Exists.elim h fun x4 h=>Exists.elim h fun x5 h=>Exists.elim h fun x6 h=>Exists.elim h fun x7 h=>k x1 x2 x3 x4 x5 x6 x7 h.1 h.2.1 h.2.2.1 h.2.2.2.1 h.2.2.2.2.1 h.2.2.2.2.2.1 h.2.2.2.2.2.2.1 h.2.2.2.2.2.2.2
end Mine
namespace Mine
open PySem
set_option genSizeOf false
inductive D where
 | none
 | bool (b:Bool)
 | int (i:Int)
 | str (s:Str)
 | tup (ds:List D)
 | lst (a:Addr)
mutual
inductive Rep (h:Heap):Value->D->Prop
 | none:Rep h .none .none
 | bool (b:Bool):Rep h (.bool b) (.bool b)
 | int (i:Int) (t:Tok):Rep h (.int i t) (.int i)
 | str (s:Str) (t:Tok):Rep h (.str s t) (.str s)
 | tup {a:Addr} {n:Nat} {vs:List Value} {ds:List D}:IsT h a vs.toArray n->Reps h vs ds->Rep h (.ref a) (.tup ds)
 | lst (a:Addr):Rep h (.ref a) (.lst a)
inductive Reps (h:Heap):List Value->List D->Prop
 | nil:Reps h [] []
 | cons {v:Value} {vs:List Value} {d:D} {ds:List D}:Rep h v d->Reps h vs ds->Reps h (v :: vs) (d :: ds)
end
noncomputable def NC (o:Obj):Prop:=(∃ xs n,o.cls=.type "tuple"/\o.data=.seq xs n)\/∃ vs,o.data=.fields vs
noncomputable def Grow (h h':Heap):Prop:=∀ b o,h.get? b=some o->NC o->h'.get? b=some o
theorem Grow.refl (h:Heap):Grow h h:=fun _ _ e _=>e
theorem Grow.trans {h₁ h₂ h₃:Heap} (x:Grow h₁ h₂) (y:Grow h₂ h₃):Grow h₁ h₃:=fun b o e q=>y b o (x b o e q) q
theorem J6 {h h':Heap} (g:Grow h h') {a:Addr} {xs:Array Value} {n:Nat} (x:IsT h a xs n):IsT h' a xs n:=g a _ x (.inl ⟨_,_,rfl,rfl⟩)
theorem IsT.tuple {h:Heap} {a:Addr} {xs:Array Value} {n:Nat} (x:IsT h a xs n):h.IsTuple a xs:=⟨_,x,rfl,n,rfl⟩
theorem Rep.trans {h h':Heap} (t:∀ {a:Addr} {xs:Array Value} {n:Nat},IsT h a xs n->IsT h' a xs n) {v:Value} {d:D} (r:Rep h v d):Rep h' v d :=
 Rep.rec (motive_1:=fun v d _=>Rep h' v d) (motive_2:=fun vs ds _=>Reps h' vs ds) .none .bool .int .str (fun x _ y=>.tup (t x) y) .lst .nil (fun _ _ x y=>.cons x y) r
theorem Reps.ind {h:Heap} {P:List Value->List D->Prop} (n:P [] []) (c:∀ {v:Value} {vs:List Value} {d:D} {ds:List D},Rep h v d->Reps h vs ds->P vs ds->P (v :: vs) (d :: ds)) {vs:List Value} {ds:List D} (r:Reps h vs ds):P vs ds :=
 Reps.rec (motive_1:=fun _ _ _=>True) (motive_2:=fun vs ds _=>P vs ds) trivial (fun _=>trivial) (fun _ _=>trivial) (fun _ _=>trivial) (fun _ _ _=>trivial) (fun _=>trivial) n (fun x y _ z=>c x y z) r
theorem Rep.grow {h h':Heap} (g:Grow h h') {v:Value} {d:D} (r:Rep h v d):Rep h' v d:=r.trans (J6 g)
theorem Reps.over {h h':Heap} (f:∀ {v:Value} {d:D},Rep h v d->Rep h' v d) {vs:List Value} {ds:List D} (r:Reps h vs ds):Reps h' vs ds:=Reps.ind (P:=Reps h') .nil (fun x _ z=>.cons (f x) z) r
theorem Reps.grow {h h':Heap} (g:Grow h h') {vs:List Value} {ds:List D} (r:Reps h vs ds):Reps h' vs ds:=r.over (Rep.grow g)
theorem Reps.length {h:Heap} {vs:List Value} {ds:List D} (r:Reps h vs ds):vs.length=ds.length:=Reps.ind (P:=fun vs ds=>vs.length=ds.length) rfl (fun _ _ z=>congrArg Nat.succ z) r
theorem Reps.append {h:Heap} {vs ws:List Value} {ds es:List D} (r:Reps h vs ds) (k:Reps h ws es):Reps h (vs ++ ws) (ds ++ es):=Reps.ind (P:=fun vs ds=>Reps h (vs ++ ws) (ds ++ es)) k (fun x _ z=>.cons x z) r
theorem Reps.get {h:Heap} {vs:List Value} {ds:List D} {i:Nat} {d:D} (r:Reps h vs ds) (e:ds[i]?=some d):∃ v,vs[i]?=some v/\Rep h v d:=Reps.ind (P:=fun vs ds=>∀ i,ds[i]?=some d->∃ v,vs[i]?=some v/\Rep h v d) (fun _ e=>by rw [List.getElem?_nil] at e; cases e) (fun x _ z i=>Nat.casesOn i (fun e=>⟨_,rfl,Option.some.inj e ▸ x⟩) fun i e=>z i e) r i e
theorem Reps.set {h:Heap} {v:Value} {d:D} (r:Rep h v d) {vs:List Value} {ds:List D} {i:Nat} (q:Reps h vs ds):Reps h (vs.set i v) (ds.set i d):=Reps.ind (P:=fun vs ds=>∀ i,Reps h (vs.set i v) (ds.set i d)) (fun _=>.nil) (fun x y z i=>Nat.casesOn i (.cons r y) fun i=>.cons x (z i)) q i
theorem Reps.drop {h:Heap} {vs:List Value} {ds:List D} (i:Nat) (q:Reps h vs ds):Reps h (vs.drop i) (ds.drop i):=Reps.ind (P:=fun vs ds=>∀ i,Reps h (vs.drop i) (ds.drop i)) (fun i=>Nat.casesOn i .nil fun _=>.nil) (fun x y z i=>Nat.casesOn i (.cons x y) fun i=>z i) q i
theorem Reps.take {h:Heap} {vs:List Value} {ds:List D} (i:Nat) (q:Reps h vs ds):Reps h (vs.take i) (ds.take i):=Reps.ind (P:=fun vs ds=>∀ i,Reps h (vs.take i) (ds.take i)) (fun i=>Nat.casesOn i .nil fun _=>.nil) (fun x _ z i=>Nat.casesOn i .nil fun i=>.cons x (z i)) q i
noncomputable def noDict (o:Obj):Prop:=∀ es n,o.data≠.dict es n
noncomputable def Kept (h h':Heap):Prop:=∀ b o,h.get? b=some o->h'.get? b=some o
theorem Kept.trans {h₁ h₂ h₃:Heap} (x:Kept h₁ h₂) (y:Kept h₂ h₃):Kept h₁ h₃:=fun b o e=>y b o (x b o e)
theorem Kept.grow {h h':Heap} (x:Kept h h'):Grow h h':=fun b o e _=>x b o e
theorem Kept.but {h h₁ h₂:Heap} {a:Addr} (x:Kept h h₁) (na:h.get? a=none) (y:∀ b o,b≠a->h₁.get? b=some o->h₂.get? b=some o):Kept h h₂:=fun b o e=>y b o (fun z=>by rw [z,na] at e; cases e) (x b o e)
theorem Ns.unique {h:Heap} {a:Addr} {m m':Str->Option Value} (x:h.Ns a m) (y:h.Ns a m'):m=m':=by
 refine xq3_4 x fun o es ep ho hd _ r=>?_;refine xq3_4 y fun o' es' ep' ho' hd' _ r'=>?_;rw [ho] at ho'; cases ho';rw [hd] at hd'; cases hd';funext n;rw [<- r,<- r']
inductive Cell where
 | list (own:Bool) (ds:List D)
 | dict (ps:List (Int×D))
abbrev Sto:=Addr->Option Cell
structure St where
 loc:Nat->Option D
 sto:Sto
noncomputable def St.set (σ:St) (i:Nat) (d:D):St:={ σ with loc:=fun j=>if j=i then some d else σ.loc j }
noncomputable def Sto.put (σ:Sto) (a:Addr) (k:Cell):Sto:=fun b=>if b=a then some k else σ b
noncomputable def St.put (σ:St) (a:Addr) (k:Cell):St:={ σ with sto:=Sto.put σ.sto a k }
noncomputable def Cell.ro:Cell->Option Cell
 | .list _ ds=>some (.list false ds)
 | .dict _=>none
noncomputable def Cell.mine:Cell->Prop
 | .list o _=>o=true
 | .dict _=>True
noncomputable def Sto.ro (σ:Sto):Sto:=fun a=>(σ a).bind Cell.ro
noncomputable def St.ro (σ:St):St:={ σ with sto:=Sto.ro σ.sto }
inductive Blt where
 | len | abs | max | min | int | list | tuple | sum
inductive Ty where
 | int | bool | tuple
inductive ItK where
 | plain | range | zip
set_option genSizeOf false
set_option genInjectivity false
inductive E where
 | cnone
 | cbool (b:Bool)
 | cint (i:Int)
 | cstr (s:Str)
 | var (i:Nat)
 | glob (x:Str)
 | bin (op:Operator) (a b:E)
 | neg (a:E)
 | not (a:E)
 | cmp (op:CmpOp) (a b:E)
 | bool (op:BoolOp) (es:List E)
 | call (f:Str) (es:List E)
 | blt (f:Blt) (es:List E)
 | isa (a:E) (ty:Ty)
 | idx (a i:E)
 | slice (a:E) (lo hi:Option E)
 | tup (es:List E)
 | lst (es:List E)
 | comp (elt:E) (xs:List (Nat×Str)) (k:ItK) (es:List E)
 | append (o a:E)
 | dict0
 | getd (o k d:E)
 | maxd (o:E)
inductive S where
 | expr (e:E)
 | assign (x:Nat) (e:E)
 | unpack (xs:List Nat) (e:E)
 | swap (xs:List Nat) (es:List E)
 | setitem (o i e:E)
 | ifs (t:E) (a b:List S)
 | whiles (t:E) (b:List S)
 | fors (xs:List Nat) (one:Bool) (k:ItK) (es:List E) (b:List S)
 | ret (e:E)
 | raise (c:Str) (msg:Str)
 | pass
 | any
inductive Fl where
 | next | brk | cont
 | ret (d:D)
structure Cx where
 prog:Program
 w:World
 B:Heap
 mg:Str->Option Value
 cs:Str->Option D
noncomputable def CellOK (h hE:Heap) (a:Addr):Cell->Prop
 | .list own ds=>∃ vs:List Value,h.IsList a vs.toArray/\(own=true->h.PlainList a vs.toArray/\hE.get? a=none)/\Reps h vs ds
 | .dict ps=>hE.get? a=none/\∃ kvs:List (Int×Value),(∀ prog w,h.DictOf (intKind prog w) a kvs)/\kvs.map (·.1)=ps.map (·.1)/\Reps h (kvs.map (·.2)) (ps.map (·.2))
noncomputable def SameSh (s s':Shared):Prop:=∃ h t,s'={ s with heap:=h,toks:=t }
theorem SameSh.refl (s:Shared):SameSh s s:=⟨s.heap,s.toks,rfl⟩
theorem SameSh.trans {s s' s'':Shared} (x:SameSh s s') (y:SameSh s' s''):SameSh s s'':=by
 refine DG x fun h t q1_=>?_; obtain rfl:=q1_;refine DG y fun h' t' q2_=>?_; obtain rfl:=q2_;exact ⟨h',t',rfl⟩
noncomputable def AD (c:Cx) (f:Str):Prop:=∃ a o fd,c.mg f=some (.ref a)/\c.B.get? a=some o/\o.data=.func fd
noncomputable def Lw (sto:Sto) (Q:D->Sto->Prop) (s:Shared) (r:Result) (s':Shared):Prop :=
 SameSh s s'/\Kept s.heap s'.heap/\match r with
  | .ok (.ret v)=>∃ d sto',Rep s'.heap v d/\(∀ b k,sto' b=some k->sto b=some k\/(s.heap.get? b=none/\CellOK s'.heap s.heap b k))/\Q d sto'
  | .ok _=>False
  | .error _=>False
noncomputable def ND (c:Cx) (n:Nat) (a:Addr) (ds:List D) (sto:Sto) (Q:D->Sto->Prop):Prop :=
 ∀ (A:Around) (l:List Env) (s:Shared) (vs:List Value),A.frames=some l->A.handled=none->A.depth+n<800->A.units+4*n<9000->
  c.B.StaysIn s.heap->Reps s.heap vs ds->(∀ b k,sto b=some k->∃ hE,CellOK s.heap hE b k)->
  codeAny (model c.prog c.w) A (.call (.ref a) ⟨vs,[]⟩) (Lw sto Q s) s
noncomputable def Ah (c:Cx) (n:Nat) (f:Str) (ds:List D) (sto:Sto) (Q:D->Sto->Prop):Prop :=
 ∃ a o fd,c.mg f=some (.ref a)/\c.B.get? a=some o/\o.data=.func fd/\ND c n a ds sto Q
noncomputable def lim:Nat:=1000000
noncomputable def Fy {α:Type} (n:Int) (l:List α):List α:=(List.replicate n.toNat l).flatten
noncomputable def DZ (x y:D) (K:Int->Int->Prop):Prop:=match x with
 | .int a=>(match y with | .int b=>K a b | _=>False)
 | _=>False
noncomputable def Rn (x y:D) (Q:D->St->Prop) (σ:St):Prop:=match x with
 | .int a=>(match y with | .int b=>Q (.int (a+b)) σ | _=>False)
 | .tup a=>(match y with | .tup b=>a.length<=lim/\b.length<=lim/\Q (.tup (a ++ b)) σ | _=>False)
 | .lst a=>(match y with
  | .lst b=>∃ o₁ xs o₂ ys,σ.sto a=some (.list o₁ xs)/\σ.sto b=some (.list o₂ ys)/\xs.length<=lim/\ys.length<=lim/\∀ l,σ.sto l=none->Q (.lst l) (σ.put l (.list true (xs ++ ys)))
  | _=>False)
 | _=>False
noncomputable def Ro (x y:D) (Q:D->St->Prop) (σ:St):Prop:=match x with
 | .int a=>(match y with | .int b=>IntMulOk a b/\Q (.int (a*b)) σ | _=>False)
 | .tup a=>(match y with | .int n=>1<=a.length/\a.length<=100/\0<=n/\n<=10000/\Q (.tup (Fy n a)) σ | _=>False)
 | .lst a=>(match y with
  | .int n=>∃ xs,σ.sto a=some (.list true xs)/\xs.length<=100/\-10000<=n/\n<=10000/\∀ l,σ.sto l=none->Q (.lst l) (σ.put l (.list true (Fy n xs)))
  | _=>False)
 | _=>False
noncomputable def BD (op:Operator) (x y:D) (Q:D->St->Prop) (σ:St):Prop:=match op with
 | .Add=>Rn x y Q σ
 | .Sub=>DZ x y fun a b=>Q (.int (a - b)) σ
 | .Mult=>Ro x y Q σ
 | .FloorDiv=>DZ x y fun a b=>b≠0/\Q (.int (a.fdiv b)) σ
 | .Mod=>DZ x y fun a b=>b≠0/\Q (.int (a.fmod b)) σ
 | _=>False
noncomputable def MK (x:D) (Q:D->St->Prop) (σ:St):Prop:=match x with
 | .int i=>Q (.int (-i)) σ
 | _=>False
noncomputable def truth:D->Option Bool
 | .none=>some false
 | .bool b=>some b
 | .int i=>some (i != 0)
 | _=>none
noncomputable def CK (d:D) (Q:Bool->St->Prop) (σ:St):Prop:=∃ b,truth d=some b/\Q b σ
noncomputable def Ca (f:D->D->Option Bool):List D->List D->Option Bool
 | [],bs=>(match bs with | []=>some true | _ :: _=>some false)
 | a :: as,bs=>(match bs with
  | []=>some false
  | b :: bs=>(match f a b with
   | some x=>(match Ca f as bs with | some y=>some (x&&y) | none=>none)
   | none=>none))
noncomputable def VW (fo:Option (D->D->Option Bool)) (x y:D):Option Bool:=match x with
 | .int a=>(match y with | .int b=>some (a==b) | _=>none)
 | .bool a=>(match y with | .bool b=>some (a==b) | _=>none)
 | .str a=>(match y with | .str b=>some (a==b) | _=>none)
 | .tup as=>(match y with | .tup bs=>(match fo with | some f=>Ca f as bs | none=>none) | _=>none)
 | _=>none
noncomputable def Bi:Nat->D->D->Option Bool
 | 0=>VW none
 | n+1=>VW (some (Bi n))
noncomputable def Db (σ:Sto) (a:Addr):Option (List D):=match σ a with
 | some k=>(match k with | .list _ xs=>some xs | .dict _=>none)
 | none=>none
noncomputable def CQ (σ:Sto) (x y:D):Option Bool:=match x with
 | .lst a=>(match y with
  | .lst b=>(match Db σ a with
   | some xs=>(match Db σ b with | some ys=>Ca (Bi 50) xs ys | none=>none)
   | none=>none)
  | _=>Bi 50 x y)
 | _=>Bi 50 x y
noncomputable def CR (op:CmpOp) (x y:D) (Q:D->St->Prop) (σ:St):Prop :=
 match op with
 | .Lt=>DZ x y fun a b=>Q (.bool (decide (a<b))) σ
 | .Gt=>DZ x y fun a b=>Q (.bool (decide (a > b))) σ
 | .Eq=>∃ b,CQ σ.sto x y=some b/\Q (.bool b) σ
 | .NotEq=>∃ b,CQ σ.sto x y=some b/\Q (.bool (!b)) σ
 | _=>False
noncomputable def BH {α:Type} (l:List α) (i:Int):Option α:=if 0<=i then l[i.toNat]? else if -(l.length:Int)<=i then l[(l.length+i).toNat]? else none
noncomputable def Dc (x y:D) (Q:D->St->Prop) (σ:St):Prop:=match y with
 | .int i=>(match x with
  | .tup ds=>ds.length<=lim/\∃ d,BH ds i=some d/\Q d σ
  | .lst a=>∃ o ds,σ.sto a=some (.list o ds)/\ds.length<=lim/\∃ d,BH ds i=some d/\Q d σ
  | _=>False)
 | _=>False
noncomputable def cutAt (n:Nat) (d:Nat):Option Int->Nat
 | none=>d
 | some i=>if 0<=i then min i.toNat n else (n+i).toNat
noncomputable def Br {α:Type} (l:List α) (lo hi:Option Int):List α:=(l.take (cutAt l.length l.length hi)).drop (cutAt l.length 0 lo)
noncomputable def bound:D->Option (Option Int)
 | .none=>some none
 | .int i=>some (some i)
 | _=>none
noncomputable def EZ (x lo hi:D) (Q:D->St->Prop) (σ:St):Prop :=
 ∃ l h,bound lo=some l/\bound hi=some h/\match x with
 | .tup ds=>ds.length<=lim/\Q (.tup (Br ds l h)) σ
 | .lst a=>∃ o ds,σ.sto a=some (.list o ds)/\ds.length<=lim/\∀ b,σ.sto b=none->Q (.lst b) (σ.put b (.list true (Br ds l h)))
 | _=>False
noncomputable def HB (x i d:D) (Q:St->Prop) (σ:St):Prop:=match x with
 | .lst a=>(match i with
  | .int k=>(∃ ds,σ.sto a=some (.list true ds)/\ds.length<=lim/\0<=k/\k<ds.length/\Q (σ.put a (.list true (ds.set k.toNat d))))\/(∃ ps,σ.sto a=some (.dict ps)/\ps.length<=lim/\(ps.any fun p=>decide (p.1=k))=false/\Q (σ.put a (.dict (ps ++ [(k,d)]))))
  | _=>False)
 | _=>False
noncomputable def Fz (x d:D) (Q:D->St->Prop) (σ:St):Prop :=
 match x with
 | .lst a=>∃ ds,σ.sto a=some (.list true ds)/\ds.length<=lim/\Q .none (σ.put a (.list true (ds ++ [d])))
 | _=>False
noncomputable def DR (ds:List D) (K:D->Prop):Prop:=match ds with
 | []=>False
 | d :: r=>(match r with | []=>K d | _ :: _=>False)
noncomputable def Iq (ds:List D) (K:D->D->Prop):Prop:=match ds with
 | []=>False
 | d :: r=>DR r (K d)
noncomputable def VX (d:D) (Q:D->St->Prop) (σ:St):Prop:=match d with
 | .tup xs=>xs.length<=lim/\Q (.int xs.length) σ
 | .lst a=>∃ o xs,σ.sto a=some (.list o xs)/\xs.length<=lim/\Q (.int xs.length) σ
 | _=>False
noncomputable def Rp (d:D) (Q:D->St->Prop) (σ:St):Prop:=match d with
 | .tup xs=>xs.length<=lim/\∀ l,σ.sto l=none->Q (.lst l) (σ.put l (.list true xs))
 | .lst a=>∃ o xs,σ.sto a=some (.list o xs)/\xs.length<=lim/\∀ l,σ.sto l=none->Q (.lst l) (σ.put l (.list true xs))
 | _=>False
noncomputable def NE (d:D) (Q:D->St->Prop) (σ:St):Prop:=match d with
 | .tup xs=>Q (.tup xs) σ
 | .lst a=>∃ o xs,σ.sto a=some (.list o xs)/\xs.length<=lim/\Q (.tup xs) σ
 | _=>False
noncomputable def amT (d:D) (Q:D->St->Prop) (σ:St):Prop:=match d with
 | .bool b=>Q (.int (if b then 1 else 0)) σ
 | _=>False
noncomputable def amU (d:D) (Q:D->St->Prop) (σ:St):Prop:=match d with
 | .int i=>Q (.int i.natAbs) σ
 | _=>False
noncomputable def VY (d:D) (Q:D->St->Prop) (σ:St):Prop:=match d with
 | .lst a=>∃ (o:Bool) (ns:List Int),σ.sto a=some (.list o (ns.map D.int))/\ns.length<=1000/\(∀ x∈ns,-1000000<=x/\x<=1000000)/\Q (.int ns.sum) σ
 | _=>False
noncomputable def Cd (f:Blt) (ds:List D) (Q:D->St->Prop) (σ:St):Prop:=match f with
 | .len=>DR ds fun d=>VX d Q σ
 | .abs=>DR ds fun d=>amU d Q σ
 | .max=>Iq ds fun x y=>DZ x y fun a b=>Q (.int (max a b)) σ
 | .min=>Iq ds fun x y=>DZ x y fun a b=>Q (.int (min a b)) σ
 | .int=>DR ds fun d=>amT d Q σ
 | .list=>DR ds fun d=>Rp d Q σ
 | .tuple=>DR ds fun d=>NE d Q σ
 | .sum=>DR ds fun d=>VY d Q σ
noncomputable def Gx (d:D) (t:Ty) (Q:D->St->Prop) (σ:St):Prop:=match t with
 | .int=>(match d with | .int _=>Q (.bool true) σ | _=>False)
 | .bool=>(match d with | .int _=>Q (.bool false) σ | _=>False)
 | .tuple=>(match d with | .tup _=>Q (.bool true) σ | _=>False)
noncomputable def Bm (a b:Int):List D:=(List.range (b - a).toNat).map fun (k:Nat)=>D.int (a+k)
noncomputable def BO (a b:Int):List D:=(List.range (a - b).toNat).map fun (k:Nat)=>D.int (a - k)
noncomputable def int?:D->Option Int
 | .int i=>some i
 | _=>none
noncomputable def HC (ds:List D):Option (List D):=match ds with
 | []=>none
 | a :: r=>(match int? a with
  | none=>none
  | some i=>(match r with
   | []=>some (Bm 0 i)
   | b :: r=>(match int? b with
    | none=>none
    | some j=>(match r with
     | []=>some (Bm i j)
     | d :: r=>(match int? d with
      | none=>none
      | some k=>(match r with
       | []=>if k=-1 then some (BO i j) else none
       | _ :: _=>none))))))
noncomputable def smallI:D->Bool
 | .int i=>decide (-1000000<=i/\i<=1000000)
 | _=>false
noncomputable def D6 (d:D) (K:List D->(St->Prop)->St->Prop) (σ:St):Prop :=
 match d with
 | .tup ds=>ds.length<=lim/\K ds (fun _=>True) σ
 | .lst a=>∃ o ds,σ.sto a=some (.list o ds)/\ds.length<=lim/\K ds (fun σ'=>∃ o',σ'.sto a=some (.list o' ds)) σ
 | _=>False
noncomputable def GT (d:D):Bool:=match d with
 | .int _=>true
 | _=>false
noncomputable def AY (d:D):Bool:=match d with
 | .int _=>true
 | .tup ds=>ds.all GT
 | _=>false
noncomputable def DH (d:D):Bool:=match d with
 | .tup _=>true
 | _=>false
noncomputable def B2 (d:D):Bool:=match d with
 | .int _=>true
 | .lst _=>true
 | .tup ds=>ds.all GT || ds.all fun x=>DH x&&AY x
 | _=>false
noncomputable def SafeS (σ:St):Prop:=(∀ i d,σ.loc i=some d->B2 d=true)/\(∀ a o ds,σ.sto a=some (.list o ds)->ds.all B2=true)/\∀ a ps,σ.sto a≠some (.dict ps)
noncomputable def itK (k:ItK) (ds:List D) (K:List D->(St->Prop)->St->Prop) (σ:St):Prop:=match k with
 | .plain=>DR ds fun d=>D6 d K σ
 | .range=>ds.all smallI=true/\∃ items,HC ds=some items/\K items (fun _=>True) σ
 | .zip=>Iq ds fun x y=>∃ a b o us o' vs,x=.lst a/\y=.lst b/\σ.sto a=some (.list o us)/\σ.sto b=some (.list o' vs)/\us.all DH=true/\us.all B2=true/\vs.all GT=true/\K (List.zipWith (fun u v=>D.tup [u,v]) us vs) (fun σ'=>SafeS σ'/\(∃ o,σ'.sto a=some (.list o us))/\∃ o,σ'.sto b=some (.list o vs)) σ
noncomputable def Aw (σ:St):List Nat->List D->St
 | x :: xs,d :: ds=>Aw (σ.set x d) xs ds
 | _,_=>σ
noncomputable def D0 (one:Bool) (xs:List Nat) (d:D) (Q:St->Prop) (σ:St):Prop :=
 if one then (match xs with | [x]=>Q (σ.set x d) | _=>False)
 else ∃ ds,d=.tup ds/\ds.length=xs.length/\Q (Aw σ xs ds)
noncomputable def Cp (g:St->Prop) (step:D->(Fl->St->Prop)->St->Prop):List D->(Fl->St->Prop)->St->Prop
 | [],Q,σ=>g σ/\Q .next σ
 | d :: ds,Q,σ=>g σ/\step d (fun fl σ'=>match fl with
  | .next=>Cp g step ds Q σ'
  | .cont=>Cp g step ds Q σ'
  | .brk=>Q .next σ'
  | .ret v=>Q (.ret v) σ') σ
noncomputable def D1 (step:D->(D->Prop)->Prop):List D->List D->(List D->Prop)->Prop
 | [],acc,Q=>Q acc
 | d :: ds,acc,Q=>step d fun r=>D1 step ds (acc ++ [r]) Q
noncomputable def EA (xs:List (Nat×Str)) (elt:(D->St->Prop)->St->Prop) (P:D->Prop) (σ:St) (d:D) (K:D->Prop):Prop :=
 D0 (xs.length==1) (xs.map (·.1)) d (fun σ₂=>elt (fun r _=>P r/\K r) σ₂) σ.ro
noncomputable def EB (xs:List (Nat×Str)) (elt:(D->St->Prop)->St->Prop) (P:D->Prop) (Q:D->St->Prop) (items:List D) (σ:St):Prop :=
 items.length<=lim/\D1 (EA xs elt P σ) items [] fun acc=>∀ l,σ.sto l=none->Q (.lst l) (σ.put l (.list true acc))
noncomputable def Rq (k:ItK) (xs:List (Nat×Str)) (elt:(D->St->Prop)->St->Prop) (Q:D->St->Prop) (ds:List D) (σ:St):Prop:=match k with
 | .plain=>DR ds fun d=>D6 d (fun items _ σ₂=>EB xs elt (fun _=>True) Q items σ₂) σ
 | .range=>ds.all smallI=true/\∃ items,HC ds=some items/\EB xs elt (fun _=>True) Q items σ
 | .zip=>Iq ds fun x y=>∃ a b o us o' vs,x=.lst a/\y=.lst b/\σ.sto a=some (.list o us)/\σ.sto b=some (.list o' vs)/\us.all DH=true/\us.all AY=true/\vs.all AY=true/\(xs.length==1)=false/\EB xs elt (fun r=>AY r=true) Q (List.zipWith (fun u v=>D.tup [u,v]) us vs) σ
mutual
noncomputable def wE (c:Cx) (n:Nat):E->(D->St->Prop)->St->Prop
 | .cnone,Q,σ=>Q .none σ
 | .cbool b,Q,σ=>Q (.bool b) σ
 | .cint i,Q,σ=>Q (.int i) σ
 | .cstr s,Q,σ=>Q (.str s) σ
 | .var i,Q,σ=>∃ d,σ.loc i=some d/\Q d σ
 | .glob x,Q,σ=>∃ d,c.cs x=some d/\Q d σ
 | .bin op a b,Q,σ=>wE c n a (fun x σ₁=>wE c n b (fun y σ₂=>BD op x y Q σ₂) σ₁) σ
 | .neg a,Q,σ=>wE c n a (fun x σ₁=>MK x Q σ₁) σ
 | .not a,Q,σ=>wE c n a (fun x σ₁=>CK x (fun b σ₂=>Q (.bool (!b)) σ₂) σ₁) σ
 | .cmp op a b,Q,σ=>wE c n a (fun x σ₁=>wE c n b (fun y σ₂=>CR op x y Q σ₂) σ₁) σ
 | .bool op es,Q,σ=>wB c n op es Q σ
 | .call f es,Q,σ=>AD c f/\Cs c n es (fun ds σ₁=>Ah c n f ds σ₁.sto (fun d sto'=>Q d { σ₁ with sto:=sto' })) σ
 | .blt f es,Q,σ=>Cs c n es (fun ds σ₁=>Cd f ds Q σ₁) σ
 | .isa a t,Q,σ=>wE c n a (fun x σ₁=>Gx x t Q σ₁) σ
 | .idx a i,Q,σ=>wE c n a (fun x σ₁=>wE c n i (fun y σ₂=>Dc x y Q σ₂) σ₁) σ
 | .slice a lo hi,Q,σ=>wE c n a (fun x σ₁=>wO c n lo (fun l σ₂=>wO c n hi (fun h σ₃=>EZ x l h Q σ₃) σ₂) σ₁) σ
 | .tup es,Q,σ=>Cs c n es (fun ds σ₁=>ds.length<=lim/\Q (.tup ds) σ₁) σ
 | .lst es,Q,σ=>Cs c n es (fun ds σ₁=>ds.length<=lim/\∀ l,σ₁.sto l=none->Q (.lst l) (σ₁.put l (.list true ds))) σ
 | .comp elt xs k es,Q,σ=>Cs c n es (fun ds σ₁=>Rq k xs (fun K σ₂=>wE c n elt K σ₂) Q ds σ₁) σ
 | .dict0,Q,σ=>∀ l,σ.sto l=none->Q (.lst l) (σ.put l (.dict []))
 | .getd o k d,Q,σ=>wE c n o (fun x σ₁=>(∃ l ps,x=.lst l/\σ₁.sto l=some (.dict ps))/\wE c n k (fun y σ₂=>wE c n d (fun z σ₃=>∃ l ps k₀,x=.lst l/\σ₃.sto l=some (.dict ps)/\y=.int k₀/\Q (((ps.find? fun p=>decide (p.1=k₀)).map (·.2)).getD z) σ₃) σ₂) σ₁) σ
 | .maxd o,Q,σ=>wE c n o (fun x σ₁=>∃ l ps k₀ r,x=.lst l/\σ₁.sto l=some (.dict (ps ++ [(k₀,r)]))/\(∀ p∈ps,p.1<k₀)/\Q (.int k₀) σ₁) σ
 | .append o a,Q,σ=>wE c n o (fun x σ₁=>(∃ l ds,x=.lst l/\σ₁.sto l=some (.list true ds))/\wE c n a (fun d σ₂=>Fz x d Q σ₂) σ₁) σ
noncomputable def Cs (c:Cx) (n:Nat):List E->(List D->St->Prop)->St->Prop
 | [],Q,σ=>Q [] σ
 | e :: es,Q,σ=>wE c n e (fun d σ₁=>Cs c n es (fun ds σ₂=>Q (d :: ds) σ₂) σ₁) σ
noncomputable def wO (c:Cx) (n:Nat):Option E->(D->St->Prop)->St->Prop
 | none,Q,σ=>Q .none σ
 | some e,Q,σ=>wE c n e Q σ
noncomputable def wB (c:Cx) (n:Nat) (op:BoolOp):List E->(D->St->Prop)->St->Prop
 | [],Q,σ=>False
 | [e],Q,σ=>wE c n e Q σ
 | e :: es,Q,σ=>wE c n e (fun d σ₁=>CK d (fun b σ₂=>if b=(op==.Or) then Q d σ₂ else wB c n op es Q σ₂) σ₁) σ
end
noncomputable def wI (c:Cx) (n:Nat) (k:ItK) (es:List E) (K:List D->(St->Prop)->St->Prop) (σ:St):Prop:=Cs c n es (fun ds σ₁=>itK k ds K σ₁) σ
mutual
noncomputable def wT (c:Cx) (n:Nat):E->(Bool->St->Prop)->St->Prop
 | .not a,Q,σ=>wT c n a (fun b σ₁=>Q (!b) σ₁) σ
 | .bool op es,Q,σ=>J7 c n op es Q σ
 | e,Q,σ=>wE c n e (fun d σ₁=>CK d Q σ₁) σ
noncomputable def J7 (c:Cx) (n:Nat) (op:BoolOp):List E->(Bool->St->Prop)->St->Prop
 | [],Q,σ=>Q (op==.And) σ
 | e :: es,Q,σ=>wT c n e (fun b σ₁=>if b=(op==.Or) then Q b σ₁ else J7 c n op es Q σ₁) σ
end
mutual
noncomputable def wS (c:Cx) (n:Nat):S->(Fl->St->Prop)->St->Prop
 | .expr e,Q,σ=>wE c n e (fun _ σ₁=>Q .next σ₁) σ
 | .assign x e,Q,σ=>wE c n e (fun d σ₁=>Q .next (σ₁.set x d)) σ
 | .unpack xs e,Q,σ=>wE c n e (fun d σ₁=>∃ ds,d=.tup ds/\ds.length=xs.length/\Q .next (Aw σ₁ xs ds)) σ
 | .swap xs es,Q,σ=>wE c n (.tup es) (fun d σ₁=>∃ ds,d=.tup ds/\ds.length=xs.length/\Q .next (Aw σ₁ xs ds)) σ
 | .setitem o i e,Q,σ=>wE c n e (fun d σ₁=>wE c n o (fun x σ₂=>wE c n i (fun k σ₃=>HB x k d (Q .next) σ₃) σ₂) σ₁) σ
 | .ifs t a b,Q,σ=>wT c n t (fun r σ₁=>if r=true then Bo c n a Q σ₁ else Bo c n b Q σ₁) σ
 | .whiles t b,Q,σ=>∃ (I:St->Prop) (m:St->Nat),I σ/\∀ σ',I σ'->wT c n t (fun r σ₁=>if r=true then Bo c n b (fun fl σ₂=>match fl with
   | .next=>I σ₂/\m σ₂<m σ'
   | .cont=>I σ₂/\m σ₂<m σ'
   | .brk=>Q .next σ₂
   | .ret d=>Q (.ret d) σ₂) σ₁ else Q .next σ₁) σ'
 | .fors xs one k es b,Q,σ=>wI c n k es (fun items g σ₁=>Cp g (fun d K σ₂=>D0 one xs d (fun σ₃=>Bo c n b K σ₃) σ₂) items Q σ₁) σ
 | .ret e,Q,σ=>wE c n e (fun d σ₁=>Q (.ret d) σ₁) σ
 | .raise k _,Q,σ=>False
 | .pass,Q,σ=>Q .next σ
 | .any,Q,σ=>False
noncomputable def Bo (c:Cx) (n:Nat):List S->(Fl->St->Prop)->St->Prop
 | [],Q,σ=>Q .next σ
 | s :: ss,Q,σ=>wS c n s (fun fl σ₁=>match fl with
  | .next=>Bo c n ss Q σ₁
  | fl=>Q fl σ₁) σ
end
theorem mlim {α β:Type} {p:List α} {f:α->β} (h:p.length<=1000):(p.map f).length<=lim:=by rw [List.length_map]; exact Nat.le_trans h (Nat.le_of_ble_eq_true rfl)
inductive Loc where
 | ns (L:Addr) (x:Str)
 | cell (a:Addr)
noncomputable def Loc.addr:Loc->Addr
 | .ns L _=>L
 | .cell a=>a
noncomputable def Loc.holds (h:Heap):Loc->Value->Prop
 | .ns L x,v=>∃ m,h.Ns L m/\m x=some v
 | .cell a,v=>h.IsCell a (some v)
noncomputable def Loc.there (h:Heap):Loc->Prop
 | .ns L _=>∃ m,h.Ns L m
 | .cell a=>∃ v,h.IsCell a v
structure Fm where
 A:Around
 fenv:Env
 outer:List Env
 hE:Heap
 s0:Shared
 loc:Nat->Option Loc
noncomputable def Inv (c:Cx) (F:Fm) (σ:St) (s:Shared):Prop :=
 SameSh F.s0 s/\
 c.B.StaysIn s.heap/\
 Kept F.hE s.heap/\
 (∀ i d,σ.loc i=some d->∃ l v,F.loc i=some l/\l.holds s.heap v/\Rep s.heap v d)/\
 (∀ i l,F.loc i=some l->l.there s.heap)/\
 (∀ a k,σ.sto a=some k->CellOK s.heap F.hE a k)/\
 ∀ a ps,σ.sto a=some (.dict ps)->∀ i l,F.loc i=some l->a≠l.addr
section
variable {c:Cx} {F:Fm} {σ:St} {s:Shared} (h_:Inv c F σ s)
def Inv.same:=h_.1
def Inv.base:=h_.2.1
def Inv.kept:=h_.2.2.1
def Inv.vars:=h_.2.2.2.1
def Inv.places:=h_.2.2.2.2.1
def Inv.sto:=h_.2.2.2.2.2.1
def Inv.dap:=h_.2.2.2.2.2.2
end
noncomputable def FmOK (c:Cx) (n:Nat) (F:Fm):Prop :=
 F.A.frames=some (F.fenv :: F.outer)/\
 F.A.handled=none/\
 F.A.depth+n<800/\
 F.A.units+4*n<9000/\
 F.fenv.globals=mainGlobals/\
 F.fenv.builtins=builtinsNs/\
 F.fenv.scope.isGenerator=false/\
 F.fenv.scope.isCoroutine=false/\
 c.B.StaysIn F.hE
section
variable {c:Cx} {n:Nat} {F:Fm} (h_:FmOK c n F)
def FmOK.frames:=h_.1
def FmOK.handled:=h_.2.1
def FmOK.depth:=h_.2.2.1
def FmOK.units:=h_.2.2.2.1
def FmOK.globals:=h_.2.2.2.2.1
def FmOK.builtins:=h_.2.2.2.2.2.1
def FmOK.gen:=h_.2.2.2.2.2.2.1
def FmOK.co:=h_.2.2.2.2.2.2.2.1
def FmOK.bh:=h_.2.2.2.2.2.2.2.2
end
noncomputable def FmW (F:Fm):Prop :=
 (∀ i l,F.loc i=some l->F.hE.get? l.addr=none)/\
 ∀ i j l,F.loc i=some l->F.loc j=some l->i=j
section
variable {F:Fm} (h_:FmW F)
def FmW.fresh:=h_.1
def FmW.apart:=h_.2
end
noncomputable def CxOK (c:Cx):Prop :=
 c.B.Ns mainGlobals c.mg/\
 (∃ mb,c.B.Ns builtinsNs mb/\∀ x:Str,x≠"__name__"->mb x=bootBuiltins x)/\
 c.B.NoLimit/\
 c.B.NoSeer/\
 c.prog.given.tree=none/\
 (∀ x d,c.cs x=some d->∃ v,c.mg x=some v/\Rep c.B v d)/\
 ∀ x∈(["len","abs","max","min","int","list","tuple","sum","isinstance","bool","range","zip"]:List String),c.mg (Str.ofString x)=none
section
variable {c:Cx} (h_:CxOK c)
def CxOK.g:=h_.1
def CxOK.b:=h_.2.1
def CxOK.lim:=h_.2.2.1
def CxOK.seer:=h_.2.2.2.1
def CxOK.tree:=h_.2.2.2.2.1
def CxOK.cs:=h_.2.2.2.2.2.1
def CxOK.free:=h_.2.2.2.2.2.2
end
section
variable {c:Cx} {F:Fm} {σ:St} {s:Shared}
noncomputable def Nf (h h':Heap):Prop:=∀ b o,h.get? b=some o->(∀ vs,o.data≠.fields vs)->h'.get? b=some o
theorem Nf.of_keeps {h h':Heap} (k:Kept h h'):Nf h h':=fun b o e _=>k b o e
theorem Nf.ns {h h':Heap} (x:Nf h h') {a:Addr} {m:Str->Option Value} (n:h.Ns a m):h'.Ns a m:=by
 refine xq3_3 n fun o es ep ho hd r=>?_;exact ⟨_,es,ep,x a o ho (fun vs q=>by rw [hd] at q; cases q),hd,r⟩
theorem Nf.cell {h h':Heap} (x:Nf h h') {a:Addr} {v:Option Value} (n:h.IsCell a v):h'.IsCell a v:=by
 refine xq1_2 n fun o ho hd=>?_;exact ⟨_,x a o ho (fun vs q=>by rw [hd] at q; cases q),hd⟩
theorem Nf.list {h h':Heap} (x:Nf h h') {a:Addr} {xs:Array Value} (n:h.IsList a xs):h'.IsList a xs:=by
 refine xq1_3 n fun o ho hc q3_=>HA q3_ fun m hd=>?_;exact ⟨_,x a o ho (fun vs q=>by rw [hd] at q; cases q),hc,m,hd⟩
theorem Nf.tuple {h h':Heap} (x:Nf h h') {a:Addr} {xs:Array Value} {k:Nat} (n:IsT h a xs k):IsT h' a xs k:=x a _ n (fun vs q=>by cases q)
theorem Rep.nf {h h':Heap} (g:Nf h h') {v:Value} {d:D} (r:Rep h v d):Rep h' v d:=r.trans g.tuple
theorem Reps.nf {h h':Heap} (g:Nf h h') {vs:List Value} {ds:List D} (r:Reps h vs ds):Reps h' vs ds:=r.over (Rep.nf g)
theorem Nf.plain {h h':Heap} (x:Nf h h') {a:Addr} {xs:Array Value} (n:h.PlainList a xs):h'.PlainList a xs:=by
 obtain ⟨m,ho⟩:=n;exact ⟨m,x a _ ho (fun vs q=>by cases q)⟩
theorem Loc.holds_nf {h h':Heap} (x:Nf h h') {l:Loc} {v:Value} (p:l.holds h v):l.holds h' v:=by
 cases l with
 | ns L y=>refine xq1_2 p fun m n e=>?_; exact ⟨m,x.ns n,e⟩
 | cell a=>exact x.cell p
theorem Loc.there_nf {h h':Heap} (x:Nf h h') {l:Loc} (p:l.there h):l.there h':=by
 cases l with
 | ns L y=>obtain ⟨m,n⟩:=p; exact ⟨m,x.ns n⟩
 | cell a=>obtain ⟨v,n⟩:=p; exact ⟨v,x.cell n⟩
theorem Gy {h h':Heap} {a:Addr} {kvs:List (Int×Value)} (x:∀ prog w,h.DictOf (intKind prog w) a kvs) (e:∀ o es ep,h.get? a=some o->o.data=.dict es ep->h'.get? a=some o):∀ prog w,h'.DictOf (intKind prog w) a kvs:=fun prog w=>by
 refine xq3_4 (x prog w) fun o es ep ho hc hd r=>?_;exact ⟨o,es,ep,e o es ep ho hd,hc,hd,r⟩
theorem CellOK.nf {h h' hE:Heap} {a:Addr} {k:Cell} (x:Nf h h') (p:CellOK h hE a k):CellOK h' hE a k:=by
 cases k with
 | list own ds =>
  refine xq1_3 p fun vs h1 h2 h3=>?_;exact ⟨vs,x.list h1,fun o=>⟨x.plain (h2 o).1,(h2 o).2⟩,Reps.nf x h3⟩
 | dict ps =>
  refine xq0_2 p fun h0 q4_=>xq1_3 q4_ fun kvs h1 h2 h3=>?_;exact ⟨h0,kvs,Gy h1 fun o es ep e hd=>x a o e (fun vs q=>by rw [hd] at q; cases q),h2,Reps.nf x h3⟩
theorem Inv.nf (I:Inv c F σ s) {h':Heap} {t:Nat} (hb:c.B.StaysIn h') (hk:Kept F.hE h') (x:Nf s.heap h'):Inv c F σ { s with heap:=h',toks:=t }:=⟨I.same.trans ⟨_,_,rfl⟩,
 hb,
 hk,
 (fun i d e=>by
  refine xq2_3 (I.vars i d e) fun l v e1 e2 e3=>?_;exact ⟨l,v,e1,Loc.holds_nf x e2,Rep.nf x e3⟩),
 (fun i l e=>Loc.there_nf x (I.places i l e)),
 (fun a k e=>CellOK.nf x (I.sto a k e)),
 I.dap⟩
theorem Inv.keeps (I:Inv c F σ s) {h':Heap} {t:Nat} (k:∀ b o,s.heap.get? b=some o->h'.get? b=some o):Inv c F σ { s with heap:=h',toks:=t } :=
 I.nf (fun b o e=>k b o (I.base b o e)) (I.kept.trans k) (Nf.of_keeps k)
theorem Inv.tok (I:Inv c F σ s) (t:Nat):Inv c F σ { s with toks:=t }:=I.keeps (h':=s.heap) fun _ _ e=>e
theorem Ap {h h':Heap} (k:∀ b o,h.get? b=some o->h'.get? b=some o):Grow h h':=fun b o e _=>k b o e
end
noncomputable def Res (F:Fm) (env:Env) (i:Nat) (x:Str):Prop :=
 (env.kindOf x=some .local/\F.loc i=some (.ns env.locals x))\/(env.kindOf x=some .cell/\∃ a,env.cells.lookup x=some a/\F.loc i=some (.cell a))
noncomputable def EnvOK (F:Fm) (env:Env) (K:Str->Option NameKind) (ns:Nat->Option Str):Prop :=
 (env.scope.kind=.function)/\
 env.globals=mainGlobals/\
 env.builtins=builtinsNs/\
 (∀ x,env.kindOf x=K x)/\
 (∀ i x,ns i=some x->Res F env i x)/\
 ∀ x,K x=some .cell->∃ a,env.cells.lookup x=some a
section
variable {F:Fm} {env:Env} {K:Str->Option NameKind} {ns:Nat->Option Str} (h_:EnvOK F env K ns)
def EnvOK.kind:=h_.1
def EnvOK.globals:=h_.2.1
def EnvOK.builtins:=h_.2.2.1
def EnvOK.kinds:=h_.2.2.2.1
def EnvOK.res:=h_.2.2.2.2.1
def EnvOK.cells:=h_.2.2.2.2.2
end
section
variable {c:Cx} {F:Fm} {σ:St} {s:Shared} {env:Env} {K:Str->Option NameKind} {ns:Nat->Option Str} {n:Nat}
theorem PH {M:Model} {A:Around} {E:Value->Shared->Prop} {i:Nat} {x:Str} {d:D} {pos:Pos} {Q:Value->Shared->Prop} (I:Inv c F σ s) (O:EnvOK F env K ns) (hx:ns i=some x) (hd:σ.loc i=some d) (nd:(x==("__debug__":Str))=false)
  (h:∀ v,Rep s.heap v d->Q v s):wpAny M A (eval (.Name x pos) env) Q E s:=by
 refine xq2_3 (I.vars i d hd) fun l v e1 e2 e3=>?_;refine wpAny_Name ?_ nd;rcases O.res i x hx with ⟨hk,hl⟩ | ⟨hk,a,hc,hl⟩
 ·rw [hl] at e1; cases e1;refine xq1_2 e2 fun m hn hv=>?_;exact wpAny_loadName_local O.kind hk hn hv (h v e3)
 ·rw [hl] at e1; cases e1;exact wpAny_loadName_cell O.kind hk hc e2 (h v e3)
theorem Inv.stored (I:Inv c F σ s) (O:FmOK c n F) (Wr:FmW F) {i:Nat} {l:Loc} {d:D} {v:Value} {h':Heap} {t:Nat} {o:Obj} (hl:F.loc i=some l) (ho:s.heap.get? l.addr=some o)
  (nd:(∀ vs,o.data≠.fields vs)/\(∀ xs k,o.data≠.seq xs k)) (r:Rep s.heap v d)
  (k:∀ b o,b≠l.addr->s.heap.get? b=some o->h'.get? b=some o)
  (hv:l.holds h' v) (hth:∀ j l',F.loc j=some l'->l'.there h')
  (hoth:∀ l' w,l'≠l->l'.holds s.heap w->l'.holds h' w) :
  Inv c F (σ.set i d) { s with heap:=h',toks:=t }/\Grow s.heap h':=by
 have fresh:=Wr.fresh i l hl;have nB:c.B.get? l.addr=none:=by
  cases e:c.B.get? l.addr with
  | none=>rfl
  | some o'=>have:=O.bh _ _ e; rw [fresh] at this; cases this
 have grow:Grow s.heap h':=fun b o' e st=>k b o' (fun z=>by
  subst z;rw [ho] at e; cases e;rcases st with ⟨xs,m,_,st⟩ | ⟨vs,st⟩
  ·exact nd.2 _ _ st
  ·exact nd.1 vs st) e
 refine ⟨⟨I.same.trans ⟨_,_,rfl⟩,fun b o' e=>k b o' (fun z=>by rw [z,nB] at e; cases e) (I.base b o' e),I.kept.but fresh k,fun j d' e=>?_,hth,fun a k' e=>?_,I.dap⟩,grow⟩
 ·by_cases z:j=i
  ·subst z;have e':some d=some d':=by simpa [St.set] using e
   cases e';exact ⟨l,v,hl,hv,Rep.grow grow r⟩
  ·have e':σ.loc j=some d':=by simpa [St.set,z] using e
   refine xq2_3 (I.vars j d' e') fun l' w e1 e2 e3=>?_;exact ⟨l',w,e1,hoth l' w (fun z'=>z (Wr.apart j i l (z' ▸ e1) hl)) e2,Rep.grow grow e3⟩
 ·have p:=I.sto a k' e;cases k' with
  | dict ps =>
   refine xq0_2 p fun h0 q5_=>xq1_3 q5_ fun kvs h1 h2 h3=>?_;exact ⟨h0,kvs,Gy h1 fun o' es ep e' _=>k a o' (I.dap a ps e i l hl) e',h2,Reps.grow grow h3⟩
  | list own ds =>
   refine xq1_3 p fun vs h1 h2 h3=>?_;refine xq1_3 (id h1) fun oa e1 e2 q6_=>HA q6_ fun m e3=>?_;have na:a≠l.addr:=fun z=>by rw [z,ho] at e1; cases e1; exact nd.2 _ _ e3
   exact ⟨vs,⟨oa,k a oa na e1,e2,m,e3⟩,fun w=>⟨(h2 w).1.at fun o' e'=>k a o' na e',(h2 w).2⟩,Reps.grow grow h3⟩
theorem EC {M:Model} {A:Around} {E:Value->Shared->Prop} {i:Nat} {x:Str} {d:D} {v:Value} {Q:Unit->Shared->Prop} (I:Inv c F σ s) (FO:FmOK c n F) (Wr:FmW F) (O:EnvOK F env K ns) (hx:ns i=some x) (r:Rep s.heap v d)
  (h:∀ s',SameSh s s'->Grow s.heap s'.heap->Inv c F (σ.set i d) s'->Q () s'):wpAny M A (storeName env x v) Q E s:=by
 rcases O.res i x hx with ⟨hk,hl⟩ | ⟨hk,a,hc,hl⟩
 ·obtain ⟨m,hn⟩:=I.places i _ hl;refine wpAny_storeName_local hk hn (fun h' hn' hs'=>?_) (by rw [O.kind]; rfl);refine xq3_3 (id hn) fun o es ep ho hd rr=>?_;have kk:∀ b o,b≠env.locals->s.heap.get? b=some o->h'.get? b=some o:=fun b o nb e=>hs'.extBut b o nb e;have oth:∀ (l':Loc) w,l'≠.ns env.locals x->l'.holds s.heap w->l'.holds h' w:=fun l' w ne p=>by
   cases l' with
   | ns L y =>
    refine xq1_2 p fun m₁ hn₁ hv₁=>?_
    by_cases z:L=env.locals
    ·subst z;have:=Ns.unique hn hn₁;subst this;refine ⟨_,hn',?_⟩;rw [if_neg (fun e=>ne (by rw [e]))]; exact hv₁
    ·exact ⟨m₁,hn₁.at' fun o e=>kk L o z e,hv₁⟩
   | cell a =>
    refine xq1_2 p fun oa e1 e2=>?_;exact ⟨oa,kk a oa (fun z=>by rw [z,ho] at e1; cases e1; rw [hd] at e2; cases e2) e1,e2⟩
  have th:∀ j l',F.loc j=some l'->l'.there h':=fun j l' e=>by
   have p:=I.places j l' e;cases l' with
   | ns L y =>
    obtain ⟨m₁,hn₁⟩:=p
    by_cases z:L=env.locals
    ·subst z; exact ⟨_,hn'⟩
    ·exact ⟨m₁,hn₁.at' fun o e=>kk L o z e⟩
   | cell a =>
    refine xq2_2 p fun w oa e1 e2=>?_;exact ⟨w,oa,kk a oa (fun z=>by rw [z,ho] at e1; cases e1; rw [hd] at e2; cases e2) e1,e2⟩
  obtain ⟨I',g⟩:=I.stored (t:=s.toks+1) FO Wr hl ho ⟨(fun vs e=>by rw [hd] at e; cases e),(fun xs k e=>by rw [hd] at e; cases e)⟩ r kk ⟨_,hn',by simp⟩ th oth;exact h _ ⟨_,_,rfl⟩ g I'
 ·obtain ⟨w₀,hc₀⟩:=I.places i _ hl;refine wpAny_storeName_cell O.kind hk hc hc₀ fun h' hc' hs'=>?_;refine xq1_2 (id hc₀) fun o ho hd=>?_;have kk:∀ b o,b≠a->s.heap.get? b=some o->h'.get? b=some o:=fun b o nb e=>hs'.extBut b o nb e;have oth:∀ (l':Loc) w,l'≠.cell a->l'.holds s.heap w->l'.holds h' w:=fun l' w ne p=>by
   cases l' with
   | ns L y =>
    refine xq1_2 p fun m₁ q7_ hv₁=>?_; obtain ⟨o₁,es₁,ep₁,ho₁,hd₁,r₁⟩:=q7_;exact ⟨m₁,⟨o₁,es₁,ep₁,kk L o₁ (fun z=>by rw [z,ho] at ho₁; cases ho₁; rw [hd] at hd₁; cases hd₁) ho₁,hd₁,r₁⟩,hv₁⟩
   | cell b =>
    refine xq1_2 p fun oa e1 e2=>?_;exact ⟨oa,kk b oa (fun z=>ne (by rw [z])) e1,e2⟩
  have th:∀ j l',F.loc j=some l'->l'.there h':=fun j l' e=>by
   have p:=I.places j l' e;cases l' with
   | ns L y =>
    refine Rg p fun m₁ o₁ es₁ ep₁ ho₁ hd₁ r₁=>?_;exact ⟨m₁,o₁,es₁,ep₁,kk L o₁ (fun z=>by rw [z,ho] at ho₁; cases ho₁; rw [hd] at hd₁; cases hd₁) ho₁,hd₁,r₁⟩
   | cell b =>
    by_cases z:b=a
    ·subst z; exact ⟨_,hc'⟩
    ·refine xq2_2 p fun w oa e1 e2=>?_;exact ⟨w,oa,kk b oa z e1,e2⟩
  obtain ⟨I',g⟩:=I.stored (t:=s.toks) FO Wr hl ho ⟨(fun vs e=>by rw [hd] at e; cases e),(fun xs k e=>by rw [hd] at e; cases e)⟩ r kk hc' th oth;exact h _ ⟨_,_,rfl⟩ g I'
end
noncomputable def Post (c:Cx) (F:Fm) (h₀:Heap) (Q:D->St->Prop):Value->Shared->Prop:=fun v s'=>∃ d σ',Grow h₀ s'.heap/\Inv c F σ' s'/\Rep s'.heap v d/\Q d σ'
theorem AC:sizeLine=16777216:=rfl
theorem NF (t:Addr) (items:Array Value) (n:Nat) (u:Tok) :
  Meets (Builtin.«tuple.__mul__» ⟨[.ref t,.int 1 u],[]⟩) (fun _ R s=>s.heap.get? t=some { cls:=.type "tuple",dict:=none,data:=.seq items n,slots:=#[] }/\R (.ok (.ret (Value.ref t))) s) :=
 .of_wp fun prog w A R s h=>by
  obtain ⟨hp,g,d,tk,os⟩:=s; obtain ⟨hl,h⟩:=h
  wp_walk
  exact ⟨_,rfl,h⟩
theorem NG (t:Addr) (items:Array Value) (n:Nat) (x:Int) (u:Tok) (hx:(decide (x < -2 ^ 63) || decide (x>=2 ^ 63))=false) (h1:(items.isEmpty || x==1)=false) (h2:(decide (x<=0) || items.isEmpty)=true) :
  Meets (Builtin.«tuple.__mul__» ⟨[.ref t,.int x u],[]⟩) (fun _ R s=>s.heap.get? t=some { cls:=.type "tuple",dict:=none,data:=.seq items n,slots:=#[] }/\R (.ok (.ret (Value.ref s.heap.objs.size))) { s with heap:=s.heap.push { cls:=.type "tuple",data:=.seq #[] } }) :=
 .of_wp fun prog w A R s h=>by
  obtain ⟨hp,g,d,tk,os⟩:=s; obtain ⟨hl,h⟩:=h
  wp_walk
  refine wpAny_ite_false (by rw [hx]; rfl) ?_
  wp_walk
  exact ⟨_,rfl,h⟩
theorem NH (t:Addr) (items:Array Value) (n:Nat) (x:Int) (u:Tok) (hx:(decide (x < -2 ^ 63) || decide (x>=2 ^ 63))=false) (h1:(items.isEmpty || x==1)=false) (h2:(decide (x<=0) || items.isEmpty)=false) (h3:¬ ((items.size:Int)*x > (2 ^ 63 - 1) / 8)) (h4:Builtin.Tuple.tupleTooMany (items.size*x)=false) (h5:(List.foldl (fun x1 x2=>x1 ++ x2) #[] (List.replicate x.toNat items)).size<=sizeLine) :
  Meets (Builtin.«tuple.__mul__» ⟨[.ref t,.int x u],[]⟩) (fun _ R s=>s.heap.get? t=some { cls:=.type "tuple",dict:=none,data:=.seq items n,slots:=#[] }/\R (.ok (.ret (Value.ref s.heap.objs.size))) { s with heap:=s.heap.push { cls:=.type "tuple",data:=.seq (List.foldl (fun x1 x2=>x1 ++ x2) #[] (List.replicate x.toNat items)) } }) :=
 .of_wp fun prog w A R s h=>by
  obtain ⟨hp,g,d,tk,os⟩:=s; obtain ⟨hl,h⟩:=h
  wp_walk
  refine wpAny_ite_false (by rw [hx]; rfl) ?_
  wp_walk
  refine wpAny_ite_false (decide_eq_false h3) ?_
  wp_walk
  exact ⟨_,rfl,h⟩
theorem Ir:fillsNumberSlot (.type "tuple") "mul"=pure false :=
 fillsNumberSlot_seq (id:="tuple.__mul__") (r:=some (.builtin "tuple.__rmul__")) F.slot_tuple_mul.lookup (by decide +kernel) F.slot_tuple_rmul.lookup (by decide +kernel)
theorem ML:seqRepeat? (.type "tuple")=pure (some (.builtin "tuple.__mul__")):=by
 unfold seqRepeat?;rw [seqSlot_of (T:="tuple") (name:="__mul__") (id:="tuple.__mul__") F.slot_tuple_mul.lookup (by decide +kernel),seqSlot_of (T:="tuple") (name:="__rmul__") (id:="tuple.__rmul__") F.slot_tuple_rmul.lookup (by decide +kernel)];rfl
theorem J8 (a:Int) (t:Tok) (l:Addr) (items:Array Value) (n:Nat) :
  Meets (Builtin.«int.__rmul__» ⟨[.int a t,.ref l],[]⟩) (fun _ R s=>s.heap.get? l=some { cls:=.type "tuple",dict:=none,data:=.seq items n,slots:=#[] }/\R (.ok (.ret Value.notImplemented)) s) :=
 .of_wp fun prog w A R s h=>by obtain ⟨hp,g,d,tk,os⟩:=s; obtain ⟨hl,h⟩:=h; wp_walk; exact ⟨_,rfl,h⟩
theorem G7 {h:Heap} {vs:List Value} {ds:List D} (r:Reps h vs ds):∀ k:Nat,Reps h (List.replicate k vs).flatten (List.replicate k ds).flatten
 | 0=>.nil
 | k+1=>by
  rw [List.replicate_succ,List.replicate_succ,List.flatten_cons,List.flatten_cons];exact r.append (G7 r k)
section
variable {c:Cx} {F:Fm} {σ:St} {s:Shared} {n:Nat} {E:Value->Shared->Prop} {Q:D->St->Prop}
theorem post_same (I:Inv c F σ s) {v:Value} {d:D} (r:Rep s.heap v d) (h:Q d σ):Post c F s.heap Q v s:=⟨d,σ,Grow.refl _,I,r,h⟩
theorem Bj (I:Inv c F σ s) {v:Value} {d:D} {t:Nat} (r:Rep s.heap v d) (h:Q d σ):Post c F s.heap Q v { s with toks:=t }:=⟨d,σ,Grow.refl _,I.tok t,r,h⟩
theorem BR (I:Inv c F σ s) {h':Heap} {t:Nat} (k:∀ b o,s.heap.get? b=some o->h'.get? b=some o) {v:Value} {d:D} (r:Rep h' v d) (h:Q d σ):Post c F s.heap Q v { s with heap:=h',toks:=t } :=
 ⟨d,σ,Ap k,I.keeps k,r,h⟩
theorem push_keeps (h:Heap) (o:Obj):∀ b o',h.get? b=some o'->(h.push o).get? b=some o':=fun b o' e=>Heap.get?_push_of_some o e
theorem Dd (I:Inv c F σ s) {vs:List Value} {ds:List D} {t:Nat} (r:Reps s.heap vs ds) (h:Q (.tup ds) σ) :
  Post c F s.heap Q (.ref s.heap.objs.size) { s with heap:=s.heap.push { cls:=.type "tuple",data:=.seq vs.toArray },toks:=t } :=
 BR I (push_keeps _ _) (.tup (IsT.new s.heap vs.toArray) (Reps.grow (Ap (push_keeps _ _)) r)) h
theorem CellOK.there (c':Cx) {h hE:Heap} {a:Addr} {k:Cell} (p:CellOK h hE a k):∃ o,h.get? a=some o:=by
 cases k with
 | list own ds=>refine xq1_2 p fun vs q8_ _=>?_; obtain ⟨o,e1,_⟩:=q8_; exact ⟨o,e1⟩
 | dict ps=>refine xq0_2 p fun _ q9_=>xq1_2 q9_ fun kvs h1 _=>?_; refine aar (h1 c'.prog c'.w) fun o _ _ e1 _=>?_; exact ⟨o,e1⟩
theorem Inv.free (I:Inv c F σ s) {a:Addr} (ha:s.heap.get? a=none):σ.sto a=none:=by
 cases e:σ.sto a with
 | none=>rfl
 | some k=>obtain ⟨o,e1⟩:=(I.sto a k e).there c; rw [ha] at e1; cases e1
theorem Inv.new_off (I:Inv c F σ s) {a:Addr} (ha:s.heap.get? a=none):∀ i l,F.loc i=some l->a≠l.addr:=fun i l e z=>by
  have p:=I.places i l e;cases l with
  | ns L x=>refine aat p fun m o _ _ e1 _=>?_; have z:a=L:=z; rw [<- z,ha] at e1; cases e1
  | cell b=>refine xq2_2 p fun v o e1 _=>?_; have z:a=b:=z; rw [<- z,ha] at e1; cases e1
theorem dap_list {F:Fm} {σ:St} {a:Addr} {o:Bool} {ds:List D} (h:∀ a ps,σ.sto a=some (.dict ps)->∀ i l,F.loc i=some l->a≠l.addr):∀ b ps,(σ.put a (.list o ds)).sto b=some (.dict ps)->∀ i l,F.loc i=some l->b≠l.addr:=fun b ps e=>by
 by_cases z:b=a
 ·have e':some (Cell.list o ds)=some (.dict ps):=by simpa [St.put,Sto.put,z] using e
  cases e'
 ·exact h b ps (by simpa [St.put,Sto.put,z] using e)
theorem AE (h:Heap):h.get? h.objs.size=none:=by
 cases e:h.get? h.objs.size with
 | none=>rfl
 | some o=>exact absurd (Heap.lt_size e) (Nat.lt_irrefl _)
theorem kept_none {h h':Heap} (k:Kept h h') {a:Addr} (e:h'.get? a=none):h.get? a=none:=by
 cases q:h.get? a with
 | none=>rfl
 | some o=>have e1:=k a o q; rw [e] at e1; cases e1
theorem Inv.newList (I:Inv c F σ s) {h':Heap} {t:Nat} {a:Addr} {vs:List Value} {ds:List D} (ha:s.heap.get? a=none) (k:∀ b o,s.heap.get? b=some o->h'.get? b=some o) (hl:h'.PlainList a vs.toArray) (r:Reps s.heap vs ds) :
  Inv c F (σ.put a (.list true ds)) { s with heap:=h',toks:=t }:=by
 have I':=I.keeps (t:=t) k;refine ⟨I'.same,I'.base,I'.kept,I'.vars,I'.places,fun b k' e=>?_,dap_list I'.dap⟩
 by_cases z:b=a
 ·subst z;have e':some (Cell.list true ds)=some k':=by simpa [St.put,Sto.put] using e
  cases e';exact ⟨vs,hl.isList,fun _=>⟨hl,kept_none I.kept ha⟩,Reps.grow (Ap k) r⟩
 ·exact I'.sto b k' (by simpa [St.put,Sto.put,z] using e)
theorem NI (I:Inv c F σ s) {t:Nat} (h:∀ l,σ.sto l=none->Q (.lst l) (σ.put l (.dict []))):Post c F s.heap Q (.ref s.heap.objs.size) { s with heap:=s.heap.push { cls:=.type "dict",data:=.dict #[] },toks:=t }:=by
 have k:=push_keeps s.heap { cls:=.type "dict",data:=.dict #[] };have ha:=AE s.heap;have I':=I.keeps (t:=t) k;refine ⟨.lst _,σ.put s.heap.objs.size (.dict []),Ap k,⟨I'.same,I'.base,I'.kept,I'.vars,I'.places,fun b k' e=>?_,fun b ps e=>?_⟩,.lst _,h _ (I.free ha)⟩
 ·by_cases z:b=s.heap.objs.size
  ·subst z;have e':some (Cell.dict [])=some k':=by simpa [St.put,Sto.put] using e
   cases e';exact ⟨kept_none I.kept ha,[],fun prog w=>⟨_,#[],0,Heap.get?_push_size _ rfl,⟨rfl,rfl,rfl⟩,rfl,(fun e he=>by simp at he),by constructor,by simp⟩,rfl,.nil⟩
  ·exact I'.sto b k' (by simpa [St.put,Sto.put,z] using e)
 ·by_cases z:b=s.heap.objs.size
  ·subst z; exact I.new_off ha
  ·exact I'.dap b ps (by simpa [St.put,Sto.put,z] using e)
theorem C0 (I:Inv c F σ s) {h':Heap} {t:Nat} {a:Addr} {vs:List Value} {ds:List D} (ha:s.heap.get? a=none) (k:∀ b o,s.heap.get? b=some o->h'.get? b=some o) (hl:h'.PlainList a vs.toArray) (r:Reps s.heap vs ds)
  (h:∀ l,σ.sto l=none->Q (.lst l) (σ.put l (.list true ds))):Post c F s.heap Q (.ref a) { s with heap:=h',toks:=t } :=
 ⟨.lst a,_,Ap k,I.newList ha k hl r,.lst a,h a (I.free ha)⟩
theorem RU {prog:Program} {w:World} {A:Around} {t b:Addr} {vs ws:List Value} {n₁ n₂:Nat} {Q:Value->Shared->Prop} (ht:IsT s.heap t vs.toArray n₁) (hb:IsT s.heap b ws.toArray n₂)
  (h0:vs=[]->Q (.ref b) s) (h1:vs≠[]->ws=[]->Q (.ref t) s)
  (h2:vs≠[]->ws≠[]->Q (.ref s.heap.objs.size) { s with heap:=s.heap.push { cls:=.type "tuple",data:=.seq (vs ++ ws).toArray } })
  (hsz:vs.length+ws.length<=sizeLine):wpAny (model prog w) A (binaryOp .Add (.ref t) (.ref b)) Q E s:=by
 by_cases hv:vs=[]
 ·exact concat_meets ⟨_,ht,rfl⟩ ⟨_,hb,rfl⟩ noFill_tuple_add seq_tuple_add PySem.F.slot_tuple_add PySem.F.entry_tuple_add (PySem.F.args_tuple_add_2 _ _) (PyProof.Rows.tuple_addW0 t b vs.toArray ws.toArray n₁ n₂ none none #[] #[] (by simp [hv])) ⟨ht,hb,h0 hv⟩
 ·by_cases hw:ws=[]
  ·exact concat_meets ⟨_,ht,rfl⟩ ⟨_,hb,rfl⟩ noFill_tuple_add seq_tuple_add PySem.F.slot_tuple_add PySem.F.entry_tuple_add (PySem.F.args_tuple_add_2 _ _) (PyProof.Rows.tuple_addW1 t b vs.toArray ws.toArray n₁ n₂ none none #[] #[] (by simpa using hv) (by simp [hw])) ⟨ht,hb,h1 hv hw⟩
  ·have e:vs.toArray ++ ws.toArray=(vs ++ ws).toArray:=by simp
   have:=h2 hv hw;rw [<- e] at this;exact P.add_tuple ht hb (by simpa using hv) (by simpa using hw) this (by simpa using hsz)
theorem FmOK.room (FO:FmOK c n F) (CO:CxOK c) (hb:c.B.StaysIn s.heap):PylongRoom (model c.prog c.w) F.A s :=
 PylongRoom.of (CO.lim.keeps hb) (by have:=FO.depth; show F.A.depth+100<1000; exact o0 this)
  (SeerAt.of (CO.seer.keeps hb) CO.tree FO.frames FO.gen FO.co FO.builtins FO.globals)
theorem DL {h:Heap} {v w:Value} {x y:D} {K:Int->Int->Prop} (rv:Rep h v x) (rw':Rep h w y) (k:DZ x y K):∃ a t b u,v=.int a t/\w=.int b u/\K a b:=by
 cases rv with
 | int a t =>
  cases rw' with
  | int b u=>exact ⟨a,t,b,u,rfl,rfl,k⟩
  | _=>exact (show False from k).elim
 | _=>exact (show False from k).elim
theorem aaz (I:Inv c F σ s) {x y:D} {v w:Value} (rv:Rep s.heap v x) (rw':Rep s.heap w y) (h:Rn x y Q σ) :
  wpAny (model c.prog c.w) F.A (binaryOp .Add v w) (Post c F s.heap Q) E s:=by
 cases rv with
 | int a t =>
  cases rw' with
  | int b u=>exact P.add_int (Bj I (.int _ _) h)
  | _=>exact (show False from h).elim
 | tup ht ra =>
  cases rw' with
  | tup hb rb =>
   refine AI h fun l1 l2 hq=>?_;refine RU ht hb (fun e=>?_) (fun _ e=>?_) (fun _ _=>Dd I (ra.append rb) hq) (by rw [ra.length,rb.length,AC]; unfold lim at l1 l2; exact o1 l1 l2)
   ·subst e; cases ra; exact post_same I (.tup hb rb) hq
   ·subst e; cases rb; rw [List.append_nil] at hq; exact post_same I (.tup ht ra) hq
  | _=>exact (show False from h).elim
 | lst a =>
  cases rw' with
  | lst b =>
   refine xq4_5 h fun o₁ xs o₂ ys e1 e2 l1 l2 hq=>?_;refine xq1_3 (I.sto _ _ e1) fun vs hl _ ra=>?_;refine xq1_3 (I.sto _ _ e2) fun ws hl' _ rb=>?_;refine xq1_3 (id hl) fun q10_ ho hc q11_=>HA q11_ fun m hd=>?_; obtain ⟨cls,dd,data,sl⟩:=q10_;refine xq1_3 (id hl') fun q12_ ho2 hc2 q13_=>HA q13_ fun m2 hd2=>?_; obtain ⟨cls2,dd2,data2,sl2⟩:=q12_;simp only at hc hd hc2 hd2;subst hc hd hc2 hd2;refine concat_meets ⟨_,ho,rfl⟩ ⟨_,ho2,rfl⟩ noFill_list_add seq_list_add PySem.F.slot_list_add PySem.F.entry_list_add (PySem.F.args_list_add_2 _ _) (PyProof.Rows.list_addW a b vs.toArray ws.toArray m m2 dd dd2 sl sl2 ?_) ⟨ho,ho2,?_⟩
   ·simp only [List.size_toArray]; rw [ra.length,rb.length,AC]; unfold lim at l1 l2; exact o1 l1 l2
   ·have e:vs.toArray ++ ws.toArray=(vs ++ ws).toArray:=by simp
    rw [e];exact C0 I (AE _) (push_keeps _ _) ⟨0,Heap.get?_push_size _ rfl⟩ (ra.append rb) hq
  | _=>exact (show False from h).elim
 | _=>exact (show False from h).elim
theorem aaA (I:Inv c F σ s) {x y:D} {v w:Value} (rv:Rep s.heap v x) (rw':Rep s.heap w y) (h:Ro x y Q σ) :
  wpAny (model c.prog c.w) F.A (binaryOp .Mult v w) (Post c F s.heap Q) E s:=by
 cases rv with
 | int a t =>
  cases rw' with
  | int b u=>exact P.mul_int (Bj I (.int _ _) h.2) h.1
  | _=>exact (show False from h).elim
 | @tup a m vs ds ht ra =>
  cases rw' with
  | int b u =>
   refine AO h fun h0 h1 h2 h3 hq=>?_;have hl:=ra.length;have hne:vs.toArray.isEmpty=false:=by
    cases vs with
    | nil=>rw [<- hl] at h0; cases h0
    | cons=>rfl
   have hsz:vs.toArray.size*b<=1000000:=by
    have e1:((vs.toArray.size:Nat):Int)<=100:=by rw [List.size_toArray,hl]; exact Int.ofNat_le.mpr h1
    exact Int.le_trans (Int.mul_le_mul e1 h3 h2 (by decide)) (by decide)
   refine wpAny_binaryOp_repeat_ref (T:="tuple") (U:="int") (by decide) ⟨_,ht,rfl⟩ (fun s'=>typeIs_int s' b u) Ir PySem.F.fills_int_mul PySem.F.slot_int_rmul ML PySem.F.slot_int_index.lookup
    (call_meets PySem.F.slot_int_rmul (typeIs_int s b u) PySem.F.entry_int_rmul (PySem.F.args_int_rmul_2 _ _) (J8 b u a vs.toArray m) ⟨ht,rfl,⟨_,ht,rfl⟩,?_⟩)
   have hx:(decide (b < -2 ^ 63) || decide (b>=2 ^ 63))=false:=by
    rw [decide_eq_false (show ¬ b < -2 ^ 63 by exact o2 h2 h3),decide_eq_false (show ¬ b>=2 ^ 63 by exact o3 h2 h3)]; rfl
   by_cases e1:b=1
   ·subst e1;refine call_meets PySem.F.slot_tuple_mul ⟨_,ht,rfl⟩ PySem.F.entry_tuple_mul (PySem.F.args_tuple_mul_2 _ _) (NF a vs.toArray m u) ⟨ht,?_⟩;have e:Fy 1 ds=ds:=List.append_nil ds;rw [e] at hq;exact post_same I (.tup ht ra) hq
   have e1':(vs.toArray.isEmpty || b==1)=false:=by rw [hne,beq_eq_false_iff_ne.mpr e1]; rfl
   by_cases e0:b<=0
   ·obtain rfl:b=0:=o4 h2 e0;refine call_meets PySem.F.slot_tuple_mul ⟨_,ht,rfl⟩ PySem.F.entry_tuple_mul (PySem.F.args_tuple_mul_2 _ _) (NG a vs.toArray m 0 u hx e1' rfl) ⟨ht,?_⟩;exact Dd (t:=s.toks) I .nil hq
   ·have e2:(decide (b<=0) || vs.toArray.isEmpty)=false:=by rw [hne,decide_eq_false e0]; rfl
    have ef:List.foldl (fun x1 x2=>x1 ++ x2) #[] (List.replicate b.toNat vs.toArray)=(Fy b vs).toArray:=PyProof.Rows.listMul_foldl vs.toArray b.toNat #[];refine call_meets PySem.F.slot_tuple_mul ⟨_,ht,rfl⟩ PySem.F.entry_tuple_mul (PySem.F.args_tuple_mul_2 _ _) (NH a vs.toArray m b u hx e1' e2 (o5 hsz) (decide_eq_false (by rw [AC]; exact o6 hsz)) ?_) ⟨ht,?_⟩
    ·rw [ef,List.size_toArray,AC];unfold Fy;rw [PyProof.Rows.lm_len_rep_flat];have:b.toNat*vs.length<=10000*100:=Nat.mul_le_mul (o7 h3) (by rw [hl]; exact h1);exact o8 this
    ·rw [ef];exact Dd (t:=s.toks) I (G7 ra b.toNat) hq
  | _=>exact (show False from h).elim
 | lst a =>
  cases rw' with
  | int b u =>
   refine xq1_5 h fun xs e h1 h2 h3 hq=>?_;refine xq1_3 (I.sto a _ e) fun vs _ hp ra=>?_;obtain ⟨m,hl⟩:=(hp rfl).1;have hlen:=ra.length;have hsz:vs.toArray.size*b.toNat<=100*10000:=Nat.mul_le_mul (by rw [List.size_toArray,hlen]; exact h1) (o7 h3);refine wpAny_binaryOp_repeat_ref (T:="list") (U:="int") (by decide) ⟨_,hl,rfl⟩ (fun s'=>typeIs_int s' b u) noFill_list_mul PySem.F.fills_int_mul PySem.F.slot_int_rmul repeat_list PySem.F.slot_int_index.lookup
    (call_meets PySem.F.slot_int_rmul (typeIs_int s b u) PySem.F.entry_int_rmul (PySem.F.args_int_rmul_2 _ _) (int___rmul___int_list b u a vs.toArray m)
     ⟨hl,rfl,⟨_,hl,rfl⟩,call_meets PySem.F.slot_list_mul ⟨_,hl,rfl⟩ PySem.F.entry_list_mul (PySem.F.args_list_mul_2 _ _)
      (AutoListH.list___mul___list_int_3 a vs.toArray m b u (by simp [Builtin.List.listFitsIndex]; exact o9 h2 h3) (o10 hsz) (by simp [Builtin.List.listTooLong,sizeLine]; simp at hsz; exact Tg hsz)) ⟨hl,?_⟩⟩)
   rw [PyProof.Rows.listMul_foldl_if];exact C0 (t:=s.toks) I (AE _) (push_keeps _ _) ⟨0,Heap.get?_push_size _ rfl⟩ (G7 ra b.toNat) hq
  | _=>exact (show False from h).elim
 | _=>exact (show False from h).elim
theorem aaB (I:Inv c F σ s) (FO:FmOK c n F) (CO:CxOK c) {op:Operator} {x y:D} {v w:Value} (rv:Rep s.heap v x) (rw':Rep s.heap w y) (h:BD op x y Q σ) :
  wpAny (model c.prog c.w) F.A (binaryOp op v w) (Post c F s.heap Q) E s:=by
 cases op with
 | Add=>exact aaz I rv rw' h
 | Mult=>exact aaA I rv rw' h
 | Sub=>obtain ⟨a,t,b,u,rfl,rfl,h⟩:=DL rv rw' h; exact P.sub_int (Bj I (.int _ _) h)
 | FloorDiv=>obtain ⟨a,t,b,u,rfl,rfl,h⟩:=DL rv rw' h; exact PyProof.Rows.floordiv_int h.1 (Bj I (.int _ _) h.2) (.inr (FO.room CO I.base))
 | Mod=>obtain ⟨a,t,b,u,rfl,rfl,h⟩:=DL rv rw' h; exact PyProof.Rows.mod_int' h.1 (Bj I (.int _ _) h.2)
 | _=>exact (show False from h).elim
end
end Mine
namespace Mine
open PySem PySem.SeqAt
theorem F6 {h:Heap} {a:Addr} {vs vs':List Value} {n n':Nat} (x:IsT h a vs.toArray n) (y:IsT h a vs'.toArray n'):vs=vs':=by
 have:some ({ cls:=.type "tuple",dict:=none,data:=.seq vs.toArray n,slots:=#[] }:Obj)=some { cls:=.type "tuple",dict:=none,data:=.seq vs'.toArray n',slots:=#[] }:=x.symm.trans y;injection this with this;injection this with _ _ this _;injection this with this _;injection this
theorem none_some {b:Bool} (h:(none:Option Bool)=some b) {P:Prop}:P:=by cases h
theorem eqK_inv {fo:Option (D->D->Option Bool)} {x y:D} {b:Bool} (e:VW fo x y=some b):(∃ i j,x=.int i/\y=.int j/\(i==j)=b)\/(∃ p q,x=.bool p/\y=.bool q/\(p==q)=b)\/(∃ p q,x=.str p/\y=.str q/\(p==q)=b)\/∃ f as bs,x=.tup as/\y=.tup bs/\fo=some f/\Ca f as bs=some b:=by
 cases x with
 | int i=>cases y with
  | int j=>exact .inl ⟨i,j,rfl,rfl,Option.some.inj e⟩
  | _=>exact none_some e
 | bool p=>cases y with
  | bool j=>exact .inr (.inl ⟨p,j,rfl,rfl,Option.some.inj e⟩)
  | _=>exact none_some e
 | tup as=>cases y with
  | tup bs=>cases fo with
   | none=>exact none_some e
   | some f=>exact .inr (.inr (.inr ⟨f,as,bs,rfl,rfl,rfl,e⟩))
  | _=>exact none_some e
 | str p=>cases y with
  | str j=>exact .inr (.inr (.inl ⟨p,j,rfl,rfl,Option.some.inj e⟩))
  | _=>exact none_some e
 | _=>exact none_some e
theorem J9 {f:D->D->Option Bool} {x y:D} {xs ys:List D} {b:Bool} (e:Ca f (x :: xs) (y :: ys)=some b):∃ p q,f x y=some p/\Ca f xs ys=some q/\(p&&q)=b:=by
 have e:(match f x y with | some x=>(match Ca f xs ys with | some y=>some (x&&y) | none=>none) | none=>none)=some b:=e
 cases h1:f x y with
 | none=>rw [h1] at e; exact none_some e
 | some p =>
  rw [h1] at e;cases h2:Ca f xs ys with
  | none=>rw [h2] at e; exact none_some e
  | some q=>rw [h2] at e; exact ⟨p,q,rfl,rfl,Option.some.inj e⟩
theorem D7 {h:Heap} {v:Value} {i:Int} (r:Rep h v (.int i)):∃ t,v=.int i t:=by
 cases r; exact ⟨_,rfl⟩
theorem rep_tup {h:Heap} {v:Value} {ds:List D} (r:Rep h v (.tup ds)):∃ a n vs,v=.ref a/\IsT h a (List.toArray vs) n/\Reps h vs ds:=by
 cases r with | tup ht rs=>exact ⟨_,_,_,rfl,ht,rs⟩
theorem MM {h:Heap} {f:D->D->Option Bool} (ih:∀ {v:Value} {d d':D} {b:Bool},Rep h v d->Rep h v d'->f d d'=some b->b=true) (vs:List Value) (ds ds':List D) (b:Bool) (r:Reps h vs ds):Reps h vs ds'->Ca f ds ds'=some b->b=true :=
 Reps.ind (P:=fun vs ds=>∀ ds' b,Reps h vs ds'->Ca f ds ds'=some b->b=true) (fun ds' b q e=>by cases q; exact (Option.some.inj e).symm) (fun x _ z ds' b q e=>by
  cases q with | cons x' y' =>
  refine xq2_3 (J9 e) fun p q hp hq q20_=>?_; obtain rfl:=q20_;rw [ih x x' hp,z _ _ y' hq]; rfl) r ds' b
theorem Rep.same_eq (h:Heap):∀ (k:Nat) {v:Value} {d d':D} {b:Bool},Rep h v d->Rep h v d'->Bi k d d'=some b->b=true:=by
 intro k
 induction k with
 | zero =>
  intro v d d' b r r' e;rcases eqK_inv e with ⟨i,j,rfl,rfl,rfl⟩ | ⟨i,j,rfl,rfl,rfl⟩ | ⟨i,j,rfl,rfl,rfl⟩ | ⟨f,as,bs,rfl,rfl,z,e⟩
  ·cases r; cases r'; exact beq_self_eq_true _
  ·cases r; cases r'; exact beq_self_eq_true _
  ·cases r; cases r'; exact beq_self_eq_true _
  ·cases z
 | succ k ih =>
  intro v d d' b r r' e;rcases eqK_inv e with ⟨i,j,rfl,rfl,rfl⟩ | ⟨i,j,rfl,rfl,rfl⟩ | ⟨i,j,rfl,rfl,rfl⟩ | ⟨f,as,bs,rfl,rfl,z,e⟩
  ·cases r; cases r'; exact beq_self_eq_true _
  ·cases r; cases r'; exact beq_self_eq_true _
  ·cases r; cases r'; exact beq_self_eq_true _
  ·cases z;refine xq3_3 (rep_tup r) fun a n vs q21_ ht rs=>?_; obtain rfl:=q21_;refine xq3_3 (rep_tup r') fun a' n' vs' e1 ht' rs'=>?_;cases e1;have e1:=F6 ht ht';subst e1;exact MM ih vs as bs b rs rs' e
noncomputable def D2 (f:D->D->Option Bool) (as bs:List D) (j:Nat):Bool:=match as[j]?,bs[j]? with | some x,some y=>(f x y).getD false | _,_=>false
theorem Is (f:D->D->Option Bool):∀ (as bs:List D) (b:Bool),Ca f as bs=some b->
  (∀ (j:Nat) x y,as[j]?=some x->bs[j]?=some y->∃ r,f x y=some r)/\
  b=((List.range (min as.length bs.length)).all (D2 f as bs)&&as.length==bs.length)
 | [],[],b,e=>by simp [Ca] at e; subst e; simp
 | [],y :: ys,b,e=>by simp [Ca] at e; subst e; simp
 | x :: xs,[],b,e=>by simp [Ca] at e; subst e; simp
 | x :: xs,y :: ys,b,e=>by
  refine xq2_3 (J9 e) fun p q hp hq q22_=>?_; obtain rfl:=q22_;obtain ⟨h1,h2⟩:=Is f xs ys q hq;refine ⟨fun j x' y' e1 e2=>?_,?_⟩
  ·cases j with
   | zero=>cases e1; cases e2; exact ⟨p,hp⟩
   | succ j=>exact h1 j x' y' e1 e2
  ·have hm:min (x :: xs).length (y :: ys).length=min xs.length ys.length+1:=Nat.succ_min_succ ..;have hf:(D2 f (x :: xs) (y :: ys)) ∘ Nat.succ=D2 f xs ys:=rfl;have h0:D2 f (x :: xs) (y :: ys) 0=p:=by show (f x y).getD false=p; rw [hp]; rfl
   rw [hm,List.range_succ_eq_map,List.all_cons,List.all_map,hf,h0,h2];simp [Bool.and_assoc]
section
variable {s:Shared}
theorem It {k:Nat} {A:Around} {vs vs':List Value} {ds ds':List D} {b:Bool} (ih:∀ {v v':Value} {d d':D} {b:Bool},Rep s.heap v d->Rep s.heap v' d'->Bi k d d'=some b->EqAt A s v v' b)
  (rs:Reps s.heap vs ds) (rs':Reps s.heap vs' ds') (e:Ca (Bi k) ds ds'=some b) :
  b=((List.range (min vs.toArray.size vs'.toArray.size)).all (D2 (Bi k) ds ds')&&vs.toArray.size==vs'.toArray.size)/\
  ∀ j (h1:j<vs.toArray.size) (h2:j<vs'.toArray.size),EqAt A s vs.toArray[j] vs'.toArray[j] (D2 (Bi k) ds ds' j):=by
 obtain ⟨h1,h2⟩:=Is _ _ _ _ e;refine ⟨by simpa only [List.size_toArray,rs.length,rs'.length] using h2,fun j j1 j2=>?_⟩;simp only [List.size_toArray] at j1 j2;have k1:j<ds.length:=by rw [<- rs.length]; exact j1
 have k2:j<ds'.length:=by rw [<- rs'.length]; exact j2
 refine xq1_2 (rs.get (List.getElem?_eq_getElem k1)) fun v e1 r1=>?_;refine xq1_2 (rs'.get (List.getElem?_eq_getElem k2)) fun v' e2 r2=>?_;obtain ⟨r,hr⟩:=h1 j _ _ (List.getElem?_eq_getElem k1) (List.getElem?_eq_getElem k2);have ev:vs.toArray[j]=v:=by rw [List.getElem?_eq_getElem j1] at e1; simpa using e1
 have ev':vs'.toArray[j]=v':=by rw [List.getElem?_eq_getElem j2] at e2; simpa using e2
 have er:D2 (Bi k) ds ds' j=r:=by simp [D2,k1,k2,hr]
 rw [ev,ev',er];exact ih r1 r2 hr
theorem PJ {k:Nat} (ih:∀ {v v':Value} {d d':D} {b:Bool},Rep s.heap v d->Rep s.heap v' d'->Bi k d d'=some b->∀ {A:Around},A.units+k<cLine->EqAt A s v v' b) {A:Around} (hu:A.units+(k+1)<cLine)
  {a a':Addr} {n n':Nat} {vs vs':List Value} {ds ds':List D} {b:Bool} (ht:IsT s.heap a vs.toArray n) (rs:Reps s.heap vs ds) (ht':IsT s.heap a' vs'.toArray n') (rs':Reps s.heap vs' ds') (e:Bi (k+1) (.tup ds) (.tup ds')=some b) :
  EqAt A s (.ref a) (.ref a') b:=by
 by_cases z:a=a'
 ·subst z;have:=Rep.same_eq s.heap (k+1) (.tup ht rs) (.tup ht' rs') e;subst this;exact EqAt.same _
 ·have e':Ca (Bi k) ds ds'=some b:=e;obtain ⟨h1,h2⟩:=It (A:=A.in1) (fun r r' q=>ih r r' q (by show A.units+1+k<cLine; exact o12 hu)) rs rs' e';rw [h1];exact EqAt.of_refs z (RcAt.tuples (IsT.tuple ht) (IsT.tuple ht') (o13 hu) h2)
theorem VZ:∀ (k:Nat) {v v':Value} {d d':D} {b:Bool},Rep s.heap v d->Rep s.heap v' d'->Bi k d d'=some b->∀ {A:Around},A.units+k<cLine->EqAt A s v v' b:=by
 intro k
 induction k with
 | zero =>
  intro v v' d d' b r1 r2 e A hu';rcases eqK_inv e with ⟨i,j,rfl,rfl,rfl⟩ | ⟨i,j,rfl,rfl,rfl⟩ | ⟨i,j,rfl,rfl,rfl⟩ | ⟨f,as,bs,rfl,rfl,z,e⟩
  ·cases r1; cases r2; exact EqAt.int_int _ _ _ _
  ·cases r1; cases r2; exact EqAt.bool_bool _ _
  ·cases r1; cases r2; exact EqAt.str_str _ _ _ _
  ·cases z
 | succ k ih =>
  intro v v' d d' b r1 r2 e A hu';rcases eqK_inv e with ⟨i,j,rfl,rfl,rfl⟩ | ⟨i,j,rfl,rfl,rfl⟩ | ⟨i,j,rfl,rfl,rfl⟩ | ⟨f,as,bs,rfl,rfl,z,e'⟩
  ·cases r1; cases r2; exact EqAt.int_int _ _ _ _
  ·cases r1; cases r2; exact EqAt.bool_bool _ _
  ·cases r1; cases r2; exact EqAt.str_str _ _ _ _
  ·refine xq3_3 (rep_tup r1) fun a n vs q23_ ht rs=>?_; obtain rfl:=q23_;refine xq3_3 (rep_tup r2) fun a' n' vs' q24_ ht' rs'=>?_; obtain rfl:=q24_;exact PJ ih hu' ht rs ht' rs' e
end
section
variable {s:Shared}
theorem amV {v v':Value} {d d':D} {b:Bool} (r1:Rep s.heap v d) (r2:Rep s.heap v' d') (e:Bi 50 d d'=some b) {A:Around} (hu:A.units+60<cLine):RcAt A s v v' b/\RcNeAt A s v v' (!b):=by
 rcases eqK_inv (fo:=some (Bi 49)) e with ⟨i,j,rfl,rfl,rfl⟩ | ⟨i,j,rfl,rfl,rfl⟩ | ⟨i,j,rfl,rfl,rfl⟩ | ⟨f,as,bs,rfl,rfl,z,e'⟩
 ·cases r1; cases r2; exact ⟨RcAt.int_int _ _ _ _,RcNeAt.int_int _ _ _ _⟩
 ·cases r1; cases r2; exact ⟨RcAt.bool_bool _ _,RcNeAt.bool_bool _ _⟩
 ·cases r1; cases r2; exact ⟨RcAt.str_str _ _ _ _,RcNeAt.str_str _ _ _ _⟩
 ·cases z;refine xq3_3 (rep_tup r1) fun a n vs q25_ ht rs=>?_; obtain rfl:=q25_;refine xq3_3 (rep_tup r2) fun a' n' vs' q26_ ht' rs'=>?_; obtain rfl:=q26_;obtain ⟨h1,h2⟩:=It (A:=A.in1) (fun r r' q=>VZ 49 r r' q (by show A.units+1+49<cLine; exact o14 hu)) rs rs' e';rw [h1];exact ⟨RcAt.tuples (IsT.tuple ht) (IsT.tuple ht') (Lu hu) h2,RcNeAt.tuples (IsT.tuple ht) (IsT.tuple ht') (Lu hu) h2⟩
end
section
variable {c:Cx} {F:Fm} {σ:St} {s:Shared} {n:Nat} {E:Value->Shared->Prop} {Q:D->St->Prop}
theorem FmOK.u60 (FO:FmOK c n F):F.A.units+60<cLine:=by have:=FO.units; show F.A.units+60<9900; exact o16 this
theorem HD {τ:Sto} {a:Addr} {xs:List D} (h:Db τ a=some xs):∃ o,τ a=some (.list o xs):=by
 unfold Db at h;cases e:τ a with
 | none=>rw [e] at h; cases h
 | some k =>
  rw [e] at h;cases k with
  | list o ys=>cases h; exact ⟨o,rfl⟩
  | dict ps=>cases h
theorem s_eqLst (I:Inv c F σ s) (FO:FmOK c n F) {a a':Addr} {b:Bool} (e:CQ σ.sto (.lst a) (.lst a')=some b):RcAt F.A s (.ref a) (.ref a') b/\RcNeAt F.A s (.ref a) (.ref a') (!b):=by
 have hu:=FO.u60;have e:(match Db σ.sto a with | some xs=>(match Db σ.sto a' with | some ys=>Ca (Bi 50) xs ys | none=>none) | none=>none)=some b:=e
 cases h1:Db σ.sto a with
 | none=>rw [h1] at e; exact none_some e
 | some xs =>
  rw [h1] at e;cases h2:Db σ.sto a' with
  | none=>rw [h2] at e; exact none_some e
  | some ys =>
   rw [h2] at e;obtain ⟨o₁,h1⟩:=HD h1;obtain ⟨o₂,h2⟩:=HD h2;refine xq1_3 (I.sto _ _ h1) fun vs hl _ ra=>?_;refine xq1_3 (I.sto _ _ h2) fun ws hl' _ rb=>?_
   by_cases z:xs.length=ys.length
   ·obtain ⟨e1,e2⟩:=It (A:=F.A.in1) (fun r r' q=>VZ 50 r r' q (by show F.A.units+1+50<cLine; exact o17 hu)) ra rb e;have hz:vs.toArray.size=ws.toArray.size:=by simp only [List.size_toArray,ra.length,rb.length,z]
    have hb:b=(List.range vs.toArray.size).all (D2 (Bi 50) xs ys):=by rw [e1,<- hz]; simp
    rw [hb];exact ⟨RcAt.lists hl hl' hz (Lu hu) e2,RcNeAt.lists hl hl' hz (Lu hu) e2⟩
   ·have hz:(vs.toArray.size != ws.toArray.size)=true:=by simp only [List.size_toArray,ra.length,rb.length]; simpa using z
    have hb:b=false:=by rw [(Is _ _ _ _ e).2]; simp [z]
    subst hb;exact ⟨RcAt.lists_lengths hl hl' hz (Lu hu),RcNeAt.lists_lengths hl hl' hz (Lu hu)⟩
theorem Lx (I:Inv c F σ s) (FO:FmOK c n F) {x y:D} {v w:Value} {b:Bool} (rv:Rep s.heap v x) (rw':Rep s.heap w y) (e:CQ σ.sto x y=some b):RcAt F.A s v w b/\RcNeAt F.A s v w (!b):=by
 cases x with
 | lst a =>
  cases y with
  | lst a'=>cases rv; cases rw'; exact s_eqLst I FO e
  | _=>exact none_some (show Bi 50 (.lst a) _=some b from e)
 | _=>exact amV rv rw' e FO.u60
theorem Jd {x y:D} {K:Int->Int->Prop} (h:DZ x y K):∃ a b,x=.int a/\y=.int b/\K a b:=by
 cases x with
 | int a=>cases y with
  | int b=>exact ⟨a,b,rfl,rfl,h⟩
  | _=>exact (show False from h).elim
 | _=>exact (show False from h).elim
theorem Rs (I:Inv c F σ s) (FO:FmOK c n F) {op:CmpOp} {x y:D} {v w:Value} (rv:Rep s.heap v x) (rw':Rep s.heap w y) (h:CR op x y Q σ) :
  wpAny (model c.prog c.w) F.A (compareOp op v w) (Post c F s.heap Q) E s:=by
 cases op with
 | Lt=>obtain ⟨a,b,rfl,rfl,h⟩:=Jd h; cases rv; cases rw'; exact P.lt_int (post_same I (.bool _) h)
 | Gt=>obtain ⟨a,b,rfl,rfl,h⟩:=Jd h; cases rv; cases rw'; exact P.gt_int (post_same I (.bool _) h)
 | Eq=>refine xq1_2 h fun b e hq=>?_; exact PySem.EqBoolInt.of_rc (Lx I FO rv rw' e).1 (post_same I (.bool _) hq)
 | NotEq=>refine xq1_2 h fun b e hq=>?_; exact PySem.EqBoolInt.of_rcne (Lx I FO rv rw' e).2 (post_same I (.bool _) hq)
 | _=>exact (show False from h).elim
theorem Ly {vs:List Value} {ds:List D} {i:Int} {d:D} {h:Heap} (r:Reps h vs ds) (e:BH ds i=some d):∃ j v,seqIndex? i vs.length=some j/\vs[j]?=some v/\Rep h v d/\(0<=i->j=i.toNat)/\(¬ 0<=i->j=(i+vs.length).toNat/\-(vs.length:Int)<=i)/\j<ds.length:=by
 unfold BH at e
 split at e
 ·rename_i h0;refine xq1_2 (r.get e) fun v e1 e2=>?_;have hlt:=(List.getElem?_eq_some_iff.mp e).1;refine ⟨i.toNat,v,?_,e1,e2,fun _=>rfl,fun z=>absurd h0 z,hlt⟩;unfold seqIndex?;rw [<- r.length] at hlt;simp only [show ¬ i<0 by exact o18 h0,if_false];rw [if_pos (by simp; exact o19 h0 hlt)]
 ·rename_i h0
  split at e
  ·rename_i h1;refine xq1_2 (r.get e) fun v e1 e2=>?_;have hlt:=(List.getElem?_eq_some_iff.mp e).1;have ej:((ds.length:Int)+i).toNat=(i+vs.length).toNat:=by rw [r.length]; congr 1; exact o20
   rw [ej] at e1 hlt;refine ⟨(i+vs.length).toNat,v,?_,e1,e2,fun z=>absurd z h0,fun _=>⟨rfl,by rw [r.length]; exact h1⟩,hlt⟩;unfold seqIndex?;rw [<- r.length] at hlt h1;simp only [show i<0 by exact o21 h0,if_true];rw [if_pos (by simp; exact o22 h1 h0)]
  ·cases e
theorem s_idx (I:Inv c F σ s) {value slice:Expr} {x y:D} {v w:Value} (rv:Rep s.heap v x) (rw':Rep s.heap w y) (h:Dc x y Q σ) (hs:∀ o i,subscripted slice false o i=operate [o,i] (getItem o i)) :
  wpAny (model c.prog c.w) F.A (PyProof.Rows.subscriptTail value slice v w) (Post c F s.heap Q) E s:=by
 cases y with
 | int i =>
  cases rw' with | int _ t =>
  cases rv with
  | tup ht ra =>
   refine xq0_2 h fun hl q31_=>xq1_2 q31_ fun d e hq=>?_;refine JF (Ly ra e) fun j v e1 e2 e3 e4 e5 e6=>?_;have hb:-(2 ^ 63)<=i/\i<2 ^ 63:=by
    have:=ra.length;unfold lim at hl
    by_cases z:0<=i
    ·have q4:=e4 z; exact o23 hl e6 this z q4
    ·have q5:=e5 z; exact o24 hl this z q5
   exact PyProof.Rows.tail_any ⟨_,ht,rfl⟩ PyProof.Rows.slot_tuple_getitem.lookup (P.getItem_tuple ht hb.1 hb.2 (by simpa using e1) (by simpa using e2) (post_same I e3 hq)) (hs _ _)
  | lst a =>
   refine xq2_3 h fun o ds es hl q32_=>xq1_2 q32_ fun d e hq=>?_;refine xq1_3 (I.sto _ _ es) fun vs hls _ ra=>?_;refine JF (Ly ra e) fun j v e1 e2 e3 e4 e5 e6=>?_;have hlen:=ra.length;unfold lim at hl;refine PyProof.Rows.tail_any hls.typeIs PySem.list_getitem_lookup ?_ (hs _ _)
   by_cases z:0<=i
   ·have:=e4 z;subst this;exact wpAny_getItem_list hls z (o25 hl hlen e6) (by simpa using e2) (post_same I e3 hq)
   ·obtain ⟨z1,z2⟩:=e5 z;subst z1;exact wpAny_getItem_list_neg hls (o21 z) (by simpa using z2) (o26 hl hlen z2) (by simpa using e2) (post_same I e3 hq)
  | _=>exact (show False from h).elim
 | _=>exact (show False from h).elim
end
section
variable {prog:Program} {w:World} {A:Around} {E:Value->Shared->Prop} {s:Shared}
theorem Jv {l:Addr} {items:Array Value} {k:Int} {t:Tok} {v:Value} {Q:Unit->Shared->Prop} (hl:s.heap.PlainList l items) (h0:0<=k) (hfit:k<2 ^ 63) (hn:k<items.size)
  (hQ:∀ h',h'.PlainList l (items.setIfInBounds k.toNat v)->Heap.SameBut l s.heap h'->Q () { s with heap:=h' }):wpAny (model prog w) A (setItem (.ref l) (.int k t) v) Q E s:=by
 obtain ⟨ne,ho⟩:=id hl;have hi:=hl.isList;unfold setItem;try with_reducible refine wpAny_holding ?_
 first | refine wpAny_bind (wpAny_pure ?_) | skip
 refine wpAny_bind (wpAny_sequenceKey hi.typeIs (by decide) ?_);refine wpAny_bind (wpAny_callSpecial?_slot (name:="__setitem__") hi.typeIs slot_list_setitem (wpAny_call_entry slot_list_setitem hi.typeIs entry_list_setitem ?_ (args_list_setitem _ _ _)));show wpAny _ _ (Builtin.List.listSubscript? (.int k t) >>= _) _ _ s;refine wpAny_bind (wpAny_listSubscript_int (fitsIndex_of h0 hfit) ?_);clear hfit;obtain ⟨j,rfl⟩:=Int.eq_ofNat_of_zero_le h0;have hj:j<items.size:=o27 hn;have hx':items[j]?=some items[j]:=Array.getElem?_eq_getElem hj;show wpAny _ _ ((seqItemAt l j >>= fun r=>pure (r.map (j,·))) >>= _) _ _ s;refine wpAny_bind (wpAny_bind (wpAny_seqItemAt ho rfl (wpAny_pure ?_)));rw [hx'];show wpAny _ _ (setSeqItemAt l j v >>= _) _ _ s;have hm:Obj.mapSeq (·.setIfInBounds j v) { cls:=.type "list",data:=.seq items ne }={ cls:=.type "list",data:=.seq (items.setIfInBounds j v) ne }:=by simp [Obj.mapSeq]
 have hfin:(s.heap.update l (Obj.mapSeq (·.setIfInBounds j v))).PlainList l (items.setIfInBounds j v):=⟨ne,by rw [Heap.get?_update_self _ ho (by rw [hm]; rfl),hm]⟩;refine wpAny_bind (wpAny_setSeqItemAt ho rfl ?_)
 first
  | exact wpAny_bind (wpAny_pure (wpAny_pure ⟨.none,rfl,wpAny_pure (hQ _ hfin (Heap.SameBut.update ..))⟩))
  | exact wpAny_pure ⟨.none,rfl,wpAny_pure (hQ _ hfin (Heap.SameBut.update ..))⟩
end
section
variable {c:Cx} {F:Fm} {σ:St} {s:Shared} {n:Nat} {E:Value->Shared->Prop} {Q:D->St->Prop}
theorem Inv.relist (I:Inv c F σ s) (FO:FmOK c n F) {h':Heap} {t:Nat} {a:Addr} {ds ds':List D} {vs':List Value} (e:σ.sto a=some (.list true ds)) (k:Heap.SameBut a s.heap h') (hl:h'.PlainList a vs'.toArray) (r:Reps s.heap vs' ds') :
  Inv c F (σ.put a (.list true ds')) { s with heap:=h',toks:=t }/\Grow s.heap h':=by
 refine xq1_3 (I.sto a _ e) fun vs hls hp rs=>?_;obtain ⟨hp1,hp2⟩:=hp rfl;obtain ⟨m,ho⟩:=id hp1;have kk:∀ b o,b≠a->s.heap.get? b=some o->h'.get? b=some o:=fun b o nb e=>k.extBut b o nb e;have nB:c.B.get? a=none:=by
  cases e':c.B.get? a with
  | none=>rfl
  | some o'=>have:=FO.bh _ _ e'; rw [hp2] at this; cases this
 have grow:Grow s.heap h':=fun b o' eb st=>kk b o' (fun z=>by
  rw [z,ho] at eb; cases eb;rcases st with ⟨xs,m,st,_⟩ | ⟨vs,st⟩
  ·simp at st
  ·cases st) eb
 have nsk:∀ {L m},s.heap.Ns L m->h'.Ns L m:=fun {L m} hn=>by
  refine xq3_3 (id hn) fun o es ep ho' hd r=>?_;exact hn.at' fun o' e'=>kk L o' (fun z=>by rw [z,ho] at ho'; cases ho'; cases hd) e'
 have clk:∀ {b v},s.heap.IsCell b v->h'.IsCell b v:=fun {b v} ⟨o,ho',hd⟩=>⟨o,kk b o (fun z=>by rw [z,ho] at ho'; cases ho'; cases hd) ho',hd⟩;refine ⟨⟨I.same.trans ⟨_,_,rfl⟩,fun b o' e=>kk b o' (fun z=>by rw [z,nB] at e; cases e) (I.base b o' e),I.kept.but hp2 kk,fun j d' e=>?_,fun j l e=>?_,fun b k' e'=>?_,dap_list I.dap⟩,grow⟩
 ·refine xq2_3 (I.vars j d' e) fun l v e1 e2 e3=>?_;refine ⟨l,v,e1,?_,Rep.grow grow e3⟩;cases l with
  | ns L x=>refine xq1_2 e2 fun m hn hv=>?_; exact ⟨m,nsk hn,hv⟩
  | cell b=>exact clk e2
 ·have p:=I.places j l e;cases l with
  | ns L x=>obtain ⟨m,hn⟩:=p; exact ⟨m,nsk hn⟩
  | cell b=>obtain ⟨v,hn⟩:=p; exact ⟨v,clk hn⟩
 ·by_cases z:b=a
  ·subst z;have e'':some (Cell.list true ds')=some k':=by simpa [St.put,Sto.put] using e'
   cases e'';exact ⟨vs',hl.isList,fun _=>⟨hl,hp2⟩,Reps.grow grow r⟩
  ·have p:=I.sto b k' (by simpa [St.put,Sto.put,z] using e');cases k' with
   | dict ps =>
    refine xq0_2 p fun h0 q33_=>xq1_3 q33_ fun kvs h1 h2 h3=>?_;exact ⟨h0,kvs,Gy h1 fun o' _ _ e' _=>kk b o' z e',h2,Reps.grow grow h3⟩
   | list own xs =>
    refine xq1_3 p fun ws h1 h2 h3=>?_;exact ⟨ws,h1.at fun o e=>kk b o z e,fun w=>⟨(h2 w).1.at fun o e=>kk b o z e,(h2 w).2⟩,Reps.grow grow h3⟩
theorem PK {h:Heap} {a:Addr} {kvs:List (Int×Value)} {p p':Program} {w w':World} (x:h.DictOf (intKind p w) a kvs):h.DictOf (intKind p' w') a kvs:=by
 refine Ez x fun o es ep h1 h2 h3 h4 h5 h6=>?_;refine ⟨o,es,ep,h1,h2,h3,h4,?_,h6⟩;clear h1 h2 h3 h4 h6;try clear x;generalize es.toList=l at h5
 induction h5 with
 | nil=>exact .nil
 | cons a b _ ih=>exact .cons a b ih
theorem Inv.redict (I:Inv c F σ s) (FO:FmOK c n F) {h':Heap} {t:Nat} {a:Addr} {ps:List (Int×D)} {d:D} {u:Value} {i:Int} (e:σ.sto a=some (.dict ps)) (k:Heap.SameBut a s.heap h') {kvs:List (Int×Value)} (hk1:kvs.map (·.1)=ps.map (·.1)) (hk2:Reps s.heap (kvs.map (·.2)) (ps.map (·.2))) (hl:∀ prog w,h'.DictOf (intKind prog w) a (kvs ++ [(i,u)])) (r:Rep s.heap u d) :
  Inv c F (σ.put a (.dict (ps ++ [(i,d)]))) { s with heap:=h',toks:=t }/\Grow s.heap h':=by
 refine xq0_2 (I.sto a _ e) fun hp2 q34_=>xq1_3 q34_ fun kvs hm _ _=>?_;have nl:=I.dap a _ e;refine xq3_4 (hm c.prog c.w) fun o es ep ho _ hd _=>?_;have kk:∀ b o,b≠a->s.heap.get? b=some o->h'.get? b=some o:=fun b o nb e=>k.extBut b o nb e;have nB:c.B.get? a=none:=by
  cases e':c.B.get? a with
  | none=>rfl
  | some o'=>have:=FO.bh _ _ e'; rw [hp2] at this; cases this
 have grow:Grow s.heap h':=fun b o' eb st=>kk b o' (fun z=>by
  rw [z,ho] at eb; cases eb;rcases st with ⟨xs,m,_,st⟩ | ⟨vs,st⟩ <;> (rw [hd] at st; cases st)) eb
 have hloc:∀ {j l},F.loc j=some l->∀ {v},l.holds s.heap v->l.holds h' v:=fun {j l} e {v} p=>by
  have na:=nl j l e;cases l with
  | ns L x=>refine xq1_2 p fun m hn hv=>?_; exact ⟨m,hn.at' fun o' e'=>kk L o' (Ne.symm na) e',hv⟩
  | cell b=>refine xq1_2 p fun o ho hd=>?_; exact ⟨o,kk b o (Ne.symm na) ho,hd⟩
 refine ⟨⟨I.same.trans ⟨_,_,rfl⟩,fun b o' e=>kk b o' (fun z=>by rw [z,nB] at e; cases e) (I.base b o' e),I.kept.but hp2 kk,fun j d' e=>?_,fun j l e=>?_,fun b k' e'=>?_,fun b qs e'=>?_⟩,grow⟩
 ·refine xq2_3 (I.vars j d' e) fun l v e1 e2 e3=>?_;exact ⟨l,v,e1,hloc e1 e2,Rep.grow grow e3⟩
 ·have na:=nl j l e;have p:=I.places j l e;cases l with
  | ns L x=>obtain ⟨m,hn⟩:=p; exact ⟨m,hn.at' fun o' e'=>kk L o' (Ne.symm na) e'⟩
  | cell b=>refine xq2_2 p fun v o ho hd=>?_; exact ⟨v,o,kk b o (Ne.symm na) ho,hd⟩
 ·by_cases z:b=a
  ·subst z;have e'':some (Cell.dict (ps ++ [(i,d)]))=some k':=by simpa [St.put,Sto.put] using e'
   cases e'';exact ⟨hp2,_,hl,by rw [List.map_append,List.map_append,hk1]; rfl,by rw [List.map_append,List.map_append]; exact (Reps.grow grow hk2).append (.cons (r.grow grow) .nil)⟩
  ·have p:=I.sto b k' (by simpa [St.put,Sto.put,z] using e');cases k' with
   | dict ps =>
    refine xq0_2 p fun h0 q35_=>xq1_3 q35_ fun kvs h1 h2 h3=>?_;exact ⟨h0,kvs,Gy h1 fun o' _ _ e' _=>kk b o' z e',h2,Reps.grow grow h3⟩
   | list own xs =>
    refine xq1_3 p fun ws h1 h2 h3=>?_;exact ⟨ws,h1.at fun o e=>kk b o z e,fun w=>⟨(h2 w).1.at fun o e=>kk b o z e,(h2 w).2⟩,Reps.grow grow h3⟩
 ·by_cases z:b=a
  ·rw [z]; exact nl
  ·exact I.dap b qs (by simpa [St.put,Sto.put,z] using e')
theorem aaC (I:Inv c F σ s) (FO:FmOK c n F) {x i d:D} {v w u:Value} {Q:St->Prop} (rv:Rep s.heap v x) (rw':Rep s.heap w i) (ru:Rep s.heap u d) (h:HB x i d Q σ) :
  wpAny (model c.prog c.w) F.A (setItem v w u) (fun _ s'=>∃ σ',Grow s.heap s'.heap/\Inv c F σ' s'/\Q σ') E s:=by
 cases x with
 | lst a =>
  cases i with
  | int k =>
  cases rv; cases rw';rcases h with h | ⟨ps,e,hlp,hany,hq⟩
  case inr =>
   refine xq0_2 (I.sto a _ e) fun _ q36_=>xq1_3 q36_ fun kvs hm h2 h3=>?_;have hlen:kvs.length=ps.length:=by
    have:=congrArg List.length h2;rwa [List.length_map,List.length_map] at this
   have hnew:stored kvs k u=kvs ++ [(k,u)]:=by
    unfold stored;rw [if_neg];intro z;refine xq1_2 (List.any_eq_true.mp z) fun x hx hx'=>?_;have:x.1∈ps.map (·.1):=by rw [<- h2]; exact List.mem_map.mpr ⟨x,hx,rfl⟩
    refine xq1_2 (List.mem_map.mp this) fun y hy hy'=>?_;have:(ps.any fun p=>decide (p.1=k))=true:=List.any_eq_true.mpr ⟨y,hy,by rw [hy']; exact hx'⟩;rw [hany] at this;cases this
   unfold lim at hlp;refine wpAny_setItem_pairs (knd:=intKind c.prog c.w) (k:=k) (by simp [intKind,Value.isInt]) (hm _ _) (fun h' hd hs'=>?_) (by rw [AC]; exact JT hlen hlp);rw [hnew] at hd;obtain ⟨I',g⟩:=I.redict (t:=s.toks+1) (i:=k) FO e hs' h2 h3 (fun prog w=>PK (p:=c.prog) (w:=c.w) hd) ru;exact ⟨_,g,I',hq⟩
  refine xq1_5 h fun ds e hl h0 hk hq=>?_;refine xq1_3 (I.sto a _ e) fun vs hls hp rs=>?_;have hlen:=rs.length;unfold lim at hl;refine Jv (hp rfl).1 h0 (o29 hl hk hlen) (by simp; exact o30 hk hlen) fun h' hl' hs'=>?_;obtain ⟨I',g⟩:=I.relist (t:=s.toks) FO e hs' (vs':=vs.set k.toNat u) (by simpa using hl') (Reps.set ru rs);exact ⟨_,g,I',hq⟩
  | _=>exact (show False from h).elim
 | _=>exact (show False from h).elim
theorem PL (I:Inv c F σ s) (FO:FmOK c n F) {a:Addr} {d:D} {u:Value} (ru:Rep s.heap u d) (h:Fz (.lst a) d Q σ) :
  wpAny (model c.prog c.w) F.A (call (.builtin "list.append") [.ref a,u]) (Post c F s.heap Q) E s:=by
 refine xq1_3 h fun ds e hl hq=>?_;refine xq1_3 (I.sto a _ e) fun vs hls hp rs=>?_;have hlen:=rs.length;unfold lim at hl;refine wpAny_list_append_plain (hp rfl).1 (fun h' hl' hs'=>?_) (by rw [List.size_toArray,AC]; exact JT hlen hl);obtain ⟨I',g⟩:=I.relist (t:=s.toks) FO e hs' (vs':=vs ++ [u]) (by simpa using hl') (Reps.append rs (.cons ru .nil));exact ⟨.none,_,g,I',.none,hq⟩
theorem s_truth {d:D} {v:Value} {Q:Bool->St->Prop} (I:Inv c F σ s) (rv:Rep s.heap v d) (h:CK d Q σ) :
  wpAny (model c.prog c.w) F.A (truthy v) (fun b s'=>∃ σ',Grow s.heap s'.heap/\Inv c F σ' s'/\Q b σ') E s:=by
 refine xq1_2 h fun b e hq=>?_;cases rv <;> simp [truth] at e
 ·subst e; exact wpAny_pure ⟨σ,Grow.refl _,I,hq⟩
 ·subst e; exact wpAny_truthy_bool ⟨σ,Grow.refl _,I,hq⟩
 ·subst e; exact P.truthy_int ⟨σ,Grow.refl _,I,hq⟩
theorem G8 (n d:Nat) (i:Int):(if i<0 then max (i+(n:Int)) 0 else min i (n:Int))=((cutAt n d (some i):Nat):Int):=by
 show _=(((if 0<=i then min i.toNat n else ((n:Int)+i).toNat):Nat):Int)
 by_cases z:0<=i
 ·rw [if_neg (Int.not_lt.mpr z),if_pos z]; exact o31 z
 ·rw [if_pos (Int.not_le.mp z),if_neg z]; exact o32
theorem Je (n d:Nat) (i:Int):max 0 (min (if i<0 then i+(n:Int) else i) (n:Int))=((cutAt n d (some i):Nat):Int):=by
 rw [<- G8 n d i]
 by_cases z:i<0
 ·rw [if_pos z,if_pos z]; exact o33 z
 ·rw [if_neg z,if_neg z]; exact o34 z
theorem Jw (vs:List Value) (lo hi:Option Int):slicePick vs.toArray lo hi none=(Br vs lo hi).toArray:=by
 have hb:sliceBounds lo hi none vs.length=(((cutAt vs.length 0 lo:Nat):Int),((cutAt vs.length vs.length hi:Nat):Int),1):=by
  simp only [sliceBounds,Option.getD_none,show (1:Int) > 0 by decide,if_true]
  congr 1
  ·cases lo with
   | none=>rfl
   | some i=>exact Je _ 0 i
  ·congr 1
   cases hi with
   | none=>rfl
   | some i=>exact Je _ _ i
 unfold slicePick;rw [List.size_toArray,hb];simp only [sliceRange_one,pick_run]
 congr 1
 unfold Br;rw [List.drop_take]
end
noncomputable def Blt.name:Blt->String
 | .len=>"len" | .abs=>"abs" | .max=>"max" | .min=>"min" | .int=>"int" | .list=>"list" | .tuple=>"tuple" | .sum=>"sum"
noncomputable def Blt.val:Blt->Value
 | .len=>.builtin "len" | .abs=>.builtin "abs" | .max=>.builtin "max" | .min=>.builtin "min" | .int=>.type "int" | .list=>.type "list" | .tuple=>.type "tuple" | .sum=>.builtin "sum"
theorem Blt.boot (f:Blt):bootBuiltins (Str.ofString f.name)=some f.val:=by
 cases f
 ·exact PyProof.Rows.Boot.«len»
 ·exact PyProof.Rows.Boot.«abs»
 ·exact PyProof.Rows.Boot.«max»
 ·exact PyProof.Rows.Boot.«min»
 ·exact PyProof.Rows.Boot.«int»
 ·exact PyProof.Rows.Boot.«list»
 ·exact PyProof.Rows.Boot.«tuple»
 ·exact PyProof.Rows.Boot.«sum»
section
variable {c:Cx} {F:Fm} {σ:St} {s:Shared} {n:Nat} {E:Value->Shared->Prop} {Q:D->St->Prop}
theorem CW {h:Heap} {vs:List Value} {ds:List D} {K:D->Prop} (rs:Reps h vs ds) (k:DR ds K):∃ v d,vs=[v]/\Rep h v d/\K d:=by
 cases rs with
 | nil=>exact (show False from k).elim
 | cons r rs =>
  cases rs with
  | nil=>exact ⟨_,_,rfl,r,k⟩
  | cons _ _=>exact (show False from k).elim
theorem Ka {h:Heap} {vs:List Value} {ds:List D} {K:D->D->Prop} (rs:Reps h vs ds) (k:Iq ds K):∃ v w x y,vs=[v,w]/\Rep h v x/\Rep h w y/\K x y:=by
 cases rs with
 | nil=>exact (show False from k).elim
 | cons r rs =>
  obtain ⟨w,y,rfl,r',k⟩:=CW rs k;exact ⟨_,_,_,_,rfl,r,r',k⟩
theorem aaD (I:Inv c F σ s) {d:D} {v:Value} (r:Rep s.heap v d) (h:VX d Q σ):wpAny (model c.prog c.w) F.A (call Blt.len.val [v]) (Post c F s.heap Q) E s:=by
 cases r with
 | tup ht ra =>
  obtain ⟨hl,hq⟩:=h;unfold lim at hl;have hlen:=ra.length;refine P.len_tuple ht (by simp only [List.size_toArray]; exact o35 hl hlen) ?_;simp only [List.size_toArray,hlen];exact Bj I (.int _ _) hq
 | lst a =>
  refine xq2_3 h fun o xs e hl hq=>?_;refine xq1_3 (I.sto _ _ e) fun vs hls _ ra=>?_;unfold lim at hl;have hlen:=ra.length;refine Calls.call_len_list hls (by simp only [List.size_toArray]; exact o36 hl hlen) ?_;simp only [List.size_toArray,hlen];exact Bj I (.int _ _) hq
 | _=>exact (show False from h).elim
theorem V0 (I:Inv c F σ s) {d:D} {v:Value} (r:Rep s.heap v d) (h:Rp d Q σ):wpAny (model c.prog c.w) F.A (call Blt.list.val [v]) (Post c F s.heap Q) E s:=by
 cases r with
 | tup ht ra =>
  obtain ⟨hl,hq⟩:=h;unfold lim at hl;have hlen:=ra.length;exact call_list_seq _ (.inr rfl) ht rfl rfl (fun h' c' k hD=>C0 (t:=s.toks) I (AE _) k ⟨c',hD⟩ ra hq) (by rw [List.size_toArray,AC]; exact JT hlen hl)
 | lst a =>
  refine xq2_3 h fun o xs e hl hq=>?_;obtain ⟨vs,⟨ob,ho,hc,m,hd⟩,_,ra⟩:=I.sto _ _ e;unfold lim at hl;have hlen:=ra.length;exact call_list_seq _ (.inl rfl) ho hc hd (fun h' c' k hD=>C0 (t:=s.toks) I (AE _) k ⟨c',hD⟩ ra hq) (by rw [List.size_toArray,AC]; exact JT hlen hl)
 | _=>exact (show False from h).elim
theorem RV (I:Inv c F σ s) {d:D} {v:Value} (r:Rep s.heap v d) (h:NE d Q σ):wpAny (model c.prog c.w) F.A (call Blt.tuple.val [v]) (Post c F s.heap Q) E s:=by
 cases r with
 | tup ht ra=>exact call_tuple_same (IsT.tuple ht) (post_same I (.tup ht ra) h)
 | lst a =>
  refine xq2_3 h fun o xs e hl hq=>?_;refine xq1_3 (I.sto _ _ e) fun vs hls _ ra=>?_;unfold lim at hl;have hlen:=ra.length;refine call_tuple_list hls (fun h' k=>?_) (by rw [List.size_toArray,AC]; exact JT hlen hl);have k':∀ b o,s.heap.get? b=some o->(h'.push { cls:=.type "tuple",data:=.seq vs.toArray }).get? b=some o:=fun b o e=>Heap.get?_push_of_some _ (k b o e);exact BR (t:=s.toks) I k' (.tup (IsT.new h' vs.toArray) (Reps.grow (Ap k') ra)) hq
 | _=>exact (show False from h).elim
theorem Lk:∀ (ns:List Int) (val:Nat->Int),(∀ i,i<ns.length->val i=(ns[i]?).getD 0)->preSum val ns.length=ns.sum:=by
 intro ns val h;have key:∀ k,k<=ns.length->preSum val k=(ns.take k).sum:=by
  intro k
  induction k with
  | zero=>intro _; rfl
  | succ k ih =>
   intro hk;show preSum val k+val k=_;rw [ih (by exact o37 hk),h k (by exact NA hk),List.take_add_one,List.sum_append,List.getElem?_eq_getElem (by exact NA hk)];simp
 rw [key _ (Nat.le_refl _),List.take_length]
theorem Jf (val:Nat->Int) (n:Nat) (h:∀ i,i<n->-1000000<=val i/\val i<=1000000):∀ k,k<=n->-(1000000*(k:Int))<=preSum val k/\preSum val k<=1000000*(k:Int)
 | 0,_=>⟨Int.le_refl _,Int.le_refl _⟩
 | k+1,hk=>by
  have h1:=Jf val n h k (o37 hk);have h2:=h k (NA hk);show -(1000000*((k+1:Nat):Int))<=preSum val k+val k/\preSum val k+val k<=1000000*((k+1:Nat):Int);exact o39 h2 h1
theorem RW (I:Inv c F σ s) (hh:F.A.handled=none) {d:D} {v:Value} (r:Rep s.heap v d) (h:VY d Q σ):wpAny (model c.prog c.w) F.A (call Blt.sum.val [v]) (Post c F s.heap Q) E s:=by
 cases r with
 | lst a =>
  refine Am h fun o ns e hl hb hq=>?_;refine xq1_3 (I.sto _ _ e) fun vs hls _ ra=>?_;have hlen:vs.length=ns.length:=by rw [ra.length,List.length_map]
  have hlt:a<s.heap.objs.size:=by refine xq1_2 hls fun _ e _=>?_; exact Heap.lt_size e
  obtain ⟨val,hval⟩:∃ val:Nat->Int,∀ i,val i=(ns[i]?).getD 0:=⟨_,fun _=>rfl⟩;have hsm:∀ i,i<ns.length->-1000000<=val i/\val i<=1000000:=fun i hi=>by
   rw [hval,List.getElem?_eq_getElem hi];exact hb _ (List.getElem_mem hi)
  refine call_sum_walk (wpAny_pyIter_list hls ?_);refine ⟨_,_,_,_,_,_,val,rfl,Walks.list (A:=F.A.in1) hh _ a (Nat.ne_of_lt hlt) vs.toArray,⟨⟨_,Heap.get?_push_size _ rfl,rfl,rfl⟩,hls.at fun o e=>push_keeps _ _ _ _ e⟩,fun b hb=>?_,fun i w p=>?_,fun j hj=>?_,fun h' tk t' hk=>?_⟩
  ·have hs:∀ ob,(s.heap.push ob).objs.size=s.heap.objs.size+1:=fun ob=>by simp [Heap.push]
   show b<(s.heap.push _).objs.size;rw [hs];rcases List.mem_cons.mp hb with rfl | hb
   ·exact Nat.lt_succ_self _
   ·rcases List.mem_cons.mp hb with rfl | hb
    ·exact Nat.lt_succ_of_lt hlt
    ·cases hb
  ·have p:vs[i]?=some w:=by simpa using p
   have hi:i<ns.length:=by have:=(List.getElem?_eq_some_iff.mp p).1; exact Jc hlen this
   refine xq1_2 (ra.get (i:=i) (d:=.int ns[i]) (by rw [List.getElem?_map,List.getElem?_eq_getElem hi]; rfl)) fun w' e1 e2=>?_;rw [p] at e1;cases e1;cases e2 with | int _ t =>
   exact ⟨t,by rw [hval,List.getElem?_eq_getElem hi]; rfl⟩
  ·have hj:j<ns.length:=by
    have:j<vs.length:=by simpa using hj
    exact Jc hlen this
   have h1:=hsm j hj;have h2:=Jf val ns.length hsm (j+1) (JU hj);refine ⟨⟨o42 h1,o43 h1⟩,?_⟩;unfold InLong;exact o44 hl hlen hj h2
  ·have e3:preSum val vs.toArray.size=ns.sum:=by
    rw [List.size_toArray,hlen];exact Lk ns val fun i _=>hval i
   rw [e3];exact BR I (fun b o eb=>hk b o (fun hb=>by
    rcases List.mem_cons.mp hb with rfl | hb
    ·exact Nat.lt_irrefl _ (Heap.lt_size eb)
    ·cases hb) (push_keeps _ _ _ _ eb)) (.int _ _) hq
 | _=>exact (show False from h).elim
theorem aaE (I:Inv c F σ s) (FO:FmOK c n F) {f:Blt} {ds:List D} {vs:List Value} (rs:Reps s.heap vs ds) (h:Cd f ds Q σ) :
  wpAny (model c.prog c.w) F.A (call f.val vs) (Post c F s.heap Q) E s:=by
 have hh:=FO.handled;cases f with
 | len=>obtain ⟨v,d,rfl,r,h⟩:=CW rs h; exact aaD I r h
 | list=>obtain ⟨v,d,rfl,r,h⟩:=CW rs h; exact V0 I r h
 | tuple=>obtain ⟨v,d,rfl,r,h⟩:=CW rs h; exact RV I r h
 | sum=>obtain ⟨v,d,rfl,r,h⟩:=CW rs h; exact RW I hh r h
 | abs =>
  obtain ⟨v,d,rfl,r,h⟩:=CW rs h;cases r with
  | int i t =>
   refine PyProof.Rows.call_abs_int fun u tk=>?_;have e:(if i<0 then -i else i)=(i.natAbs:Int):=by
    by_cases z:i<0
    ·rw [if_pos z]; exact (Int.ofNat_natAbs_of_nonpos (Int.le_of_lt z)).symm
    ·rw [if_neg z]; exact (Int.natAbs_of_nonneg (Int.not_lt.mp z)).symm
   rw [e];exact Bj I (.int _ _) h
  | _=>exact (show False from h).elim
 | int =>
  obtain ⟨v,d,rfl,r,h⟩:=CW rs h;cases r with
  | bool b=>exact call_int_bool (Bj I (.int _ _) h)
  | _=>exact (show False from h).elim
 | max =>
  obtain ⟨v,w,x,y,rfl,r,r',h⟩:=Ka rs h;obtain ⟨a,t,b,u,rfl,rfl,h⟩:=DL r r' h;refine max_two_ints hh fun h' tk k=>?_;have e:max a b=if b > a then b else a:=by
   by_cases z:b > a
   ·rw [if_pos z]; exact Int.max_eq_right (Int.le_of_lt z)
   ·rw [if_neg z]; exact Int.max_eq_left (Int.not_lt.mp z)
  rw [e] at h
  split
  ·rename_i z; rw [if_pos z] at h; exact BR I k (.int _ _) h
  ·rename_i z; rw [if_neg z] at h; exact BR I k (.int _ _) h
 | min =>
  obtain ⟨v,w,x,y,rfl,r,r',h⟩:=Ka rs h;obtain ⟨a,t,b,u,rfl,rfl,h⟩:=DL r r' h;refine min_two_ints hh fun h' tk k=>?_;have e:min a b=if b<a then b else a:=by
   by_cases z:b<a
   ·rw [if_pos z]; exact Int.min_eq_right (Int.le_of_lt z)
   ·rw [if_neg z]; exact Int.min_eq_left (Int.not_lt.mp z)
  rw [e] at h
  split
  ·rename_i z; rw [if_pos z] at h; exact BR I k (.int _ _) h
  ·rename_i z; rw [if_neg z] at h; exact BR I k (.int _ _) h
end
section
variable {prog:Program} {w:World} {A:Around} {E:Value->Shared->Prop} {s:Shared}
theorem Ll {i:Int} {t:Tok} {Q:Value->Shared->Prop} (h:Q (.bool true) s):wpAny (model prog w) A (call (.builtin "isinstance") [(.int i t),.type "int"]) Q E s :=
 call_isinstance (isinstance_true (Tx:="int") (by kernel_rfl) (by rw [isSubtype_type]; kernel_rfl)) ⟨(typeIs_int s i t),h⟩
theorem Kb {i:Int} {t:Tok} {Q:Value->Shared->Prop} (h:Q (.bool false) { s with toks:=s.toks+1 }):wpAny (model prog w) A (call (.builtin "isinstance") [(.int i t),.type "bool"]) Q E s :=
 call_isinstance (isinstance_false_int (by decide +kernel) (by kernel_rfl) (by rw [isSubtype_type]; kernel_rfl)) h
theorem Jx {a:Addr} {o:Obj} (ho:s.heap.get? a=some o) (hc:o.cls=.type "tuple") {Q:Value->Shared->Prop} (h:Q (.bool true) s):wpAny (model prog w) A (call (.builtin "isinstance") [(.ref a),.type "tuple"]) Q E s :=
 call_isinstance (isinstance_true (Tx:="tuple") (by kernel_rfl) (by rw [isSubtype_type]; kernel_rfl)) ⟨⟨o,ho,hc⟩,h⟩
end
noncomputable def Ty.name:Ty->Str
 | .int=>"int" | .bool=>"bool" | .tuple=>"tuple"
noncomputable def Ty.val:Ty->Value
 | .int=>.type "int" | .bool=>.type "bool" | .tuple=>.type "tuple"
section
variable {c:Cx} {F:Fm} {σ:St} {s:Shared} {n:Nat} {E:Value->Shared->Prop} {Q:D->St->Prop}
theorem aaF (I:Inv c F σ s) {d:D} {t:Ty} {v:Value} (rv:Rep s.heap v d) (h:Gx d t Q σ) :
  wpAny (model c.prog c.w) F.A (call (.builtin "isinstance") [v,t.val]) (Post c F s.heap Q) E s:=by
 cases t with
 | int =>
  cases rv with
  | int i t=>exact Ll (post_same I (.bool _) h)
  | _=>exact (show False from h).elim
 | bool =>
  cases rv with
  | int i t=>exact Kb (Bj I (.bool _) h)
  | _=>exact (show False from h).elim
 | tuple =>
  cases rv with
  | tup ht ra=>exact Jx ht rfl (post_same I (.bool _) h)
  | _=>exact (show False from h).elim
end
noncomputable def Kd (x:Str):Bool:=!(x==("__debug__":Str))
noncomputable def Dt (K:Str->Option NameKind) (x:Str):Bool:=(K x==some .globalImplicit)&&Kd x&&!(x==("__name__":Str))
noncomputable def NJ:Str:=""
noncomputable def RX:List Comprehension->List Expr
 | []=>[]
 | g :: _=>[g.target,g.iter]
noncomputable def AL (x:Expr):List Expr:=match x with
 | .BoolOp _ vs _=>vs
 | .BinOp l _ r _=>[l,r]
 | .UnaryOp _ y _=>[y]
 | .Compare l _ rs _=>l :: rs
 | .Call f as _ _=>f :: as
 | .Attribute v _ _=>[v]
 | .Subscript v s _=>[v,s]
 | .List xs _=>xs
 | .Tuple xs _ _=>xs
 | .Slice l u _ _=>[l.getD default,u.getD default]
 | .ListComp e gs _ _=>e :: RX gs
 | _=>[]
noncomputable def kid (x:Expr) (i:Nat):Expr:=(AL x).getD i default
noncomputable def HE (x:Expr):Nat:=match x with
 | .Constant _ k _=>k
 | .Tuple _ k _=>k
 | _=>0
noncomputable def F7 (x:Expr):Scope:=match x with
 | .ListComp _ _ sc _=>sc
 | _=>default
structure Vw where
 K:Str->Option NameKind
 ns:Nat->Option Str
 nL:Nat->Str
 us:Nat->Bool
noncomputable def Iu (K:Str->Option NameKind) (names:List (Str×NameKind)) (x:Str):Option NameKind :=
 (names.map fun (n,k)=>if (k==.free&&K n==some .cell) then (n,NameKind.cell) else (n,k)).lookup x
noncomputable def Vw.comp (V:Vw) (xs:List (Nat×Str)) (sc:Scope):Vw where
 K:=Iu V.K sc.names
 ns:=fun i=>if (xs.map (·.1)).contains i then some ((xs.lookup i).getD (V.nL i)) else match V.ns i with
  | some x=>if Iu V.K sc.names x==some .cell then some x else none
  | none=>none
 nL:=fun i=>(xs.lookup i).getD (V.nL i)
 us:=fun i=>V.us i || (xs.map (·.1)).contains i
noncomputable def B4:List Str->List Expr->List Expr
 | [],_=>[]
 | s :: ss,xs=>.Name s (xs.headD default).pos :: B4 ss xs.tail
noncomputable def E0 (one:Bool) (ss:List Str) (x:Expr):Expr:=match one with
 | true=>.Name (ss.headD NJ) x.pos
 | false=>.Tuple (B4 ss (AL x)) (HE x) x.pos
noncomputable def HF:Str:="range"
noncomputable def MN:Str:="zip"
noncomputable def HG (k:ItK) (ys:List Expr) (x:Expr):Expr:=match k with
 | .plain=>ys.headD default
 | .range=>.Call (.Name HF (kid x 0).pos) ys [] x.pos
 | .zip=>.Call (.Name MN (kid x 0).pos) ys [] x.pos
noncomputable def E1 (k:ItK) (x:Expr):List Expr:=match k with
 | .plain=>[x]
 | _=>(AL x).tail
noncomputable def Ru (p:Pos) (l:Nat):Pos:=⟨p.line,p.col,l,p.endCol⟩
noncomputable def PM:Str:="isinstance"
noncomputable def RY:Str:="append"
noncomputable def amW:Str:="get"
noncomputable def PN:Str:="max"
mutual
noncomputable def like:E->Vw->Expr->Expr
 | .cnone,V,x=>.Constant .none (HE x) x.pos
 | .cbool b,V,x=>.Constant (.bool b) (HE x) x.pos
 | .cint i,V,x=>.Constant (.int i) (HE x) x.pos
 | .cstr s,V,x=>.Constant (.str s) (HE x) x.pos
 | .var i,V,x=>.Name (V.nL i) x.pos
 | .glob g,V,x=>.Name g x.pos
 | .bin op a b,V,x=>.BinOp (like a V (kid x 0)) op (like b V (kid x 1)) x.pos
 | .neg a,V,x=>.UnaryOp .USub (like a V (kid x 0)) x.pos
 | .not a,V,x=>.UnaryOp .Not (like a V (kid x 0)) x.pos
 | .cmp op a b,V,x=>.Compare (like a V (kid x 0)) [op] [like b V (kid x 1)] x.pos
 | .bool op es,V,x=>.BoolOp op (AG es V (AL x)) x.pos
 | .call f es,V,x=>.Call (.Name f (kid x 0).pos) (AG es V (AL x).tail) [] x.pos
 | .blt f es,V,x=>.Call (.Name (Str.ofString f.name) (kid x 0).pos) (AG es V (AL x).tail) [] x.pos
 | .isa a t,V,x=>.Call (.Name PM (kid x 0).pos) [like a V (kid x 1),.Name t.name (kid x 2).pos] [] x.pos
 | .idx a i,V,x=>.Subscript (like a V (kid x 0)) (like i V (kid x 1)) x.pos
 | .slice a lo hi,V,x=>.Subscript (like a V (kid x 0)) (.Slice (MO lo V (kid (kid x 1) 0)) (MO hi V (kid (kid x 1) 1)) none (kid x 1).pos) x.pos
 | .tup es,V,x=>.Tuple (AG es V (AL x)) (HE x) x.pos
 | .lst es,V,x=>.List (AG es V (AL x)) x.pos
 | .comp elt xs k es,V,x=>.ListComp (like elt (V.comp xs (F7 x)) (kid x 0)) [⟨E0 (xs.length==1) ((xs.map (·.1)).map (V.comp xs (F7 x)).nL) (kid x 1),HG k (AG es V (E1 k (kid x 2))) (kid x 2),[],0⟩] (F7 x) x.pos
 | .dict0,V,x=>.Dict [] [] x.pos
 | .getd o k d,V,x=>.Call (.Attribute (like o V (kid (kid x 0) 0)) amW (Ru (kid x 0).pos x.pos.line)) [like k V (kid x 1),like d V (kid x 2)] [] x.pos
 | .maxd o,V,x=>.Call (.Name PN (kid x 0).pos) [like o V (kid x 1)] [] x.pos
 | .append o a,V,x=>.Call (.Attribute (like o V (kid (kid x 0) 0)) RY (Ru (kid x 0).pos x.pos.line)) [like a V (kid x 1)] [] x.pos
noncomputable def AG:List E->Vw->List Expr->List Expr
 | [],V,xs=>[]
 | e :: es,V,xs=>like e V (xs.headD default) :: AG es V xs.tail
noncomputable def MO:Option E->Vw->Expr->Option Expr
 | none,V,x=>none
 | some e,V,x=>some (like e V x)
end
noncomputable def RZ (V:Vw) (sc:Scope):Bool :=
 sc.kind==.function&&sc.names.all (fun p=>!(p.2==.cell)&&(!(p.2==.local) || sc.names.lookup p.1==some .local)&&(!(p.2==.free) || (V.K p.1==some .cell)))
noncomputable def NK (V:Vw) (xs:List (Nat×Str)) (sc:Scope) (is:List Nat) (V':Vw):Bool :=
 RZ V sc&&is.all (fun i=>V'.K (V'.nL i)==some .local&&V.us i==false)&&is.all (fun i=>is.all fun j=>!(V'.nL i==V'.nL j) || i==j)&&!is.isEmpty
noncomputable def MP:E->Bool
 | .var _=>true
 | _=>false
noncomputable def MQ (K:Str->Option NameKind) (k:ItK) (es:List E):Bool:=match k with
 | .plain=>es.length==1
 | .range=>Dt K HF
 | .zip=>Dt K MN
mutual
noncomputable def ok:E->Vw->Expr->Bool
 | .cnone,V,x=>true
 | .cbool b,V,x=>true
 | .cint i,V,x=>true
 | .cstr s,V,x=>true
 | .var i,V,x=>V.ns i==some (V.nL i)&&Kd (V.nL i)
 | .glob g,V,x=>Dt V.K g
 | .bin op a b,V,x=>ok a V (kid x 0)&&ok b V (kid x 1)
 | .neg a,V,x=>ok a V (kid x 0)
 | .not a,V,x=>ok a V (kid x 0)
 | .cmp op a b,V,x=>ok a V (kid x 0)&&ok b V (kid x 1)
 | .bool op es,V,x=>E4 es V (AL x)
 | .call f es,V,x=>Dt V.K f&&E4 es V (AL x).tail
 | .blt f es,V,x=>Dt V.K (Str.ofString f.name)&&E4 es V (AL x).tail
 | .isa a t,V,x=>Dt V.K PM&&ok a V (kid x 1)&&Dt V.K t.name
 | .idx a i,V,x=>ok a V (kid x 0)&&ok i V (kid x 1)
 | .slice a lo hi,V,x=>ok a V (kid x 0)&&V1 lo V (kid (kid x 1) 0)&&V1 hi V (kid (kid x 1) 1)
 | .tup es,V,x=>E4 es V (AL x)
 | .lst es,V,x=>E4 es V (AL x)
 | .comp elt xs k es,V,x=>ok elt (V.comp xs (F7 x)) (kid x 0)&&NK V xs (F7 x) (xs.map (·.1)) (V.comp xs (F7 x))&&MQ V.K k es&&E4 es V (E1 k (kid x 2))
 | .dict0,V,x=>true
 | .getd o k d,V,x=>ok o V (kid (kid x 0) 0)&&ok k V (kid x 1)&&ok d V (kid x 2)&&MP o
 | .maxd o,V,x=>Dt V.K PN&&ok o V (kid x 1)
 | .append o a,V,x=>ok o V (kid (kid x 0) 0)&&ok a V (kid x 1)&&MP o
noncomputable def E4:List E->Vw->List Expr->Bool
 | [],V,xs=>true
 | e :: es,V,xs=>ok e V (xs.headD default)&&E4 es V xs.tail
noncomputable def V1:Option E->Vw->Expr->Bool
 | none,V,x=>true
 | some e,V,x=>ok e V x
end
noncomputable def CH:Value->Shared->Prop:=fun _ _=>False
theorem wm {α:Type} {M:Model} {A:Around} {x:Sem α} {Q Q':α->Shared->Prop} {E:Value->Shared->Prop} {s:Shared} (h:wpAny M A x Q E s) (f:∀ a s,Q a s->Q' a s):wpAny M A x Q' E s:=wpAny_mono h f fun _ _ y=>y
theorem Post.grow {c:Cx} {F:Fm} {h₀ h₁:Heap} {Q:D->St->Prop} {v:Value} {s':Shared} (g:Grow h₀ h₁) (x:Post c F h₁ Q v s'):Post c F h₀ Q v s':=by
 refine xq2_2 x fun d σ' h1 r=>?_;exact ⟨d,σ',g.trans h1,r⟩
noncomputable def aaG (c:Cx) (F:Fm) (h₀:Heap) (Q:List D->St->Prop):List Value->Shared->Prop:=fun vs s'=>∃ ds σ',Grow h₀ s'.heap/\Inv c F σ' s'/\Reps s'.heap vs ds/\Q ds σ'
theorem Du {e:E} {V:Vw} {x:Expr} {rest:List Expr} {env:Env}:starEach (like e V x :: rest) env=(false,eval (like e V x) env) :: starEach rest env:=by
 cases e <;> rfl
theorem like_noSet (e:E) (V:Vw) (x:Expr) (op:CmpOp):behindInMarks op (like e V x)=false:=by
 cases e <;> rfl
theorem like_notSlice (e:E) (V:Vw) (x:Expr) (o i:Value):subscripted (like e V x) false o i=operate [o,i] (getItem o i):=by
 cases e <;> rfl
theorem like_folded (e:E) (V:Vw) (x:Expr) (env:Env) (v:Value):foldedSetIterable (like e V x) env v=pure v:=by
 cases e <;> rfl
theorem var_base {o:E} {nm:Str} (h:MP o=true) (V:Vw) (x:Expr) (env:Env):attributeBase (like o V x) nm env (eval (like o V x) env)=eval (like o V x) env:=by
 cases o <;> first | exact (Bool.false_ne_true h).elim | rfl
noncomputable def Run (c:Cx) (F:Fm) (env:Env) (V:Vw) (n:Nat):Prop :=
 CxOK c/\
 FmOK c n F/\
 EnvOK F env V.K V.ns/\
 ∀ i,V.us i=false->F.loc i=none
section
variable {c:Cx} {F:Fm} {env:Env} {V:Vw} {n:Nat} (h_:Run c F env V n)
def Run.CO:=h_.1
def Run.FO:=h_.2.1
def Run.O:=h_.2.2.1
def Run.U:=h_.2.2.2
end
theorem and2 {a b:Bool} (h:(a&&b)=true):a=true/\b=true:=(Bool.and_eq_true a b).mp h
section
variable {c:Cx} {F:Fm} {env:Env} {K:Str->Option NameKind} {ns:Nat->Option Str} {n:Nat}
theorem HH {x:Str} (h:Dt K x=true):K x=some .globalImplicit/\(x==("__debug__":Str))=false/\x≠("__name__":Str):=by
 obtain ⟨h1,h2⟩:=and2 h;obtain ⟨h1,h3⟩:=and2 h1;refine ⟨beq_iff_eq.mp h1,(Bool.not_eq_true' _).mp h3,fun e=>?_⟩;rw [e] at h2;exact Bool.false_ne_true h2
theorem GU (CO:CxOK c) (O:EnvOK F env K ns) {σ:St} {s:Shared} (I:Inv c F σ s) {A:Around} {E:Value->Shared->Prop} {Q:Value->Shared->Prop} {x:Str} {pos:Pos} {v:Value} (hx:Dt K x=true) (hv:c.mg x=some v) (h:Q v s) :
  wpAny (model c.prog c.w) A (eval (.Name x pos) env) Q E s:=by
 refine AI (HH hx) fun h1 h2 _=>?_;exact Calls.Name_function_global O.kind ((O.kinds x).trans h1) (Calls.loadGlobal_global (by rw [O.globals]; exact CO.g.keeps I.base) hv h) h2
theorem AX (CO:CxOK c) (O:EnvOK F env K ns) {σ:St} {s:Shared} (I:Inv c F σ s) {A:Around} {E:Value->Shared->Prop} {Q:Value->Shared->Prop} {x:Str} {pos:Pos} {v:Value} (hx:Dt K x=true) (hm:c.mg x=none) (hv:bootBuiltins x=some v) (h:Q v s) :
  wpAny (model c.prog c.w) A (eval (.Name x pos) env) Q E s:=by
 refine AI (HH hx) fun h1 h2 hn=>?_;refine xq1_2 CO.b fun mb hb hbb=>?_;exact Calls.Name_function_global O.kind ((O.kinds x).trans h1) (Calls.loadGlobal_builtin (by rw [O.globals]; exact CO.g.keeps I.base) hm (by rw [O.builtins]; exact hb.keeps I.base) ((hbb x hn).trans hv) h) h2
theorem Ty.load (CO:CxOK c) (O:EnvOK F env K ns) {σ:St} {s:Shared} (I:Inv c F σ s) {A:Around} {E:Value->Shared->Prop} {Q:Value->Shared->Prop} {t:Ty} {pos:Pos} (hx:Dt K t.name=true) (h:Q t.val s) :
  wpAny (model c.prog c.w) A (eval (.Name t.name pos) env) Q E s:=by
 cases t with
 | int=>exact AX CO O I hx (CO.free "int" (by decide)) PyProof.Rows.Boot.«int» h
 | bool=>exact AX CO O I hx (CO.free "bool" (by decide)) PyProof.Rows.Boot.«bool» h
 | tuple=>exact AX CO O I hx (CO.free "tuple" (by decide)) PyProof.Rows.Boot.«tuple» h
theorem B5 {M:Model} {A:Around} {E:Value->Shared->Prop} {s:Shared} {f:Value} {args:List (Bool×Sem Value)} {Q:Args->Shared->Prop} (hp:args.any (·.1)=false)
  (h:wpAny M A (spliced args) (fun vs s'=>Q ⟨vs,[]⟩ s') E s):wpAny M A (evalArgs f true args []) Q E s:=by
 cases args with
 | nil =>
  unfold evalArgs;show wpAny M A (spliced [] >>= _) Q E s;refine wpAny_bind (wpAny_mono h (fun vs s' h'=>?_) fun _ _ x=>x);refine wpAny_bind (wpAny_pure ?_);refine wpAny_holding ?_;exact wpAny_bind (wpAny_pure (wpAny_bind (wpAny_pure (wpAny_pure h'))))
 | cons x rest =>
  obtain ⟨b,t⟩:=x;cases b with
  | false=>exact Calls.evalArgs_plain h
  | true=>exact (Bool.false_ne_true hp.symm).elim
theorem Bp:∀ (xs:List Expr) (env:Env),(xs.map fun x=>((false,eval x env):Bool×Sem Value)).any (·.1)=false
 | [],_=>rfl
 | _ :: xs,env=>Bp xs env
theorem BI {pos:Pos} {env:Env} {V:Vw}:∀ (es:List E) (xs:List Expr),backTo pos (starEach (AG es V xs) env)=(AG es V xs).map fun x=>(false,eval x env)
 | [],xs=>rfl
 | e :: es,xs=>by
  show backTo pos (starEach (like e V (xs.headD default) :: AG es V xs.tail) env)=_;rw [Du];show (false,eval (like e V (xs.headD default)) env) :: backTo pos (starEach (AG es V xs.tail) env)=_;rw [BI es xs.tail];rfl
theorem Bb (f:Str) (p:Pos) (args:List Expr) (pos:Pos) (env:Env):eval (.Call (.Name f p) args [] pos) env=(do callWith pos (<- eval (.Name f p) env) [] (backTo pos (starEach args env)) []):=rfl
end
section
variable {c:Cx} {F:Fm} {env:Env} {K:Str->Option NameKind} {ns:Nat->Option Str} {n:Nat}
theorem D3 {h:Heap} {v:Value} {d:D} {o:Option Int} (r:Rep h v d) (e:bound d=some o):IsPart v o:=by
 cases r <;> simp [bound] at e
 ·subst e; exact .none
 ·subst e; exact .int _ _
theorem cutL_reps {h:Heap} {vs:List Value} {ds:List D} (r:Reps h vs ds) (l u:Option Int):Reps h (Br vs l u) (Br ds l u):=by
 unfold Br;rw [r.length];exact (r.take _).drop _
theorem PO {α:Type} (xs:List α) (l u:Option Int):(Br xs l u).length<=xs.length:=by
 unfold Br; simp; exact o45
theorem MR (lo hi:Option Int) (n:Nat):Builtin.Slice.sliceAdjust lo hi 1 (n:Int)=(((cutAt n 0 lo:Nat):Int),((cutAt n n hi:Nat):Int)):=by
 unfold Builtin.Slice.sliceAdjust;have h1:¬ ((1:Int)<0):=o46;simp only [h1,if_false]
 congr 1
 ·cases lo with
  | none=>rfl
  | some i=>exact G8 n 0 i
 ·cases hi with
  | none=>rfl
  | some i=>exact G8 n n i
theorem MS (a b:Nat):Builtin.Slice.slicePlaces (a:Int) (b:Int) 1=b - a:=by
 unfold Builtin.Slice.slicePlaces;rw [if_pos (by decide),Int.ediv_one]
 by_cases z:(a:Int)<b
 ·rw [if_pos z,Int.sub_add_cancel]; exact Int.toNat_sub b a
 ·rw [if_neg z]; exact (Nat.sub_eq_zero_of_le (o47 z)).symm
theorem HI {prog:Program} {w:World} {A:Around} {E:Value->Shared->Prop} {s:Shared} {v:Value} {o:Option Int} {Q:Option Int->Shared->Prop} (p:IsPart v o) (h:Q o s):wpAny (model prog w) A (Builtin.Slice.slicePartIndex v) Q E s:=by
 cases p with
 | none=>exact PyProof.Rows.slicePart_none h
 | int i t=>exact PyProof.Rows.slicePart_int h
theorem PP (vs:List Value) (a b:Nat) (hb:b<=vs.length):((List.range (b - a)).filterMap fun (k:Nat)=>vs.toArray[((a:Int)+(k:Int)*1).toNat]?).toArray=((vs.take b).drop a).toArray:=by
 congr 1
 have e:(fun (k:Nat)=>vs.toArray[((a:Int)+(k:Int)*1).toNat]?)=fun k=>vs[a+k]?:=by
  funext k;have:((a:Int)+(k:Int)*1).toNat=a+k:=o48;rw [this]; simp
 rw [e];apply List.ext_getElem?;intro i;have key:∀ m,a+m<=vs.length->(List.range m).filterMap (fun k=>vs[a+k]?)=(vs.drop a).take m:=by
  intro m
  induction m with
  | zero=>intro _; rfl
  | succ m ih =>
   intro hm;rw [List.range_succ,List.filterMap_append,ih (by exact o49 hm),List.take_add_one]
   congr 1
   have:vs[a+m]?=some vs[a+m]:=List.getElem?_eq_getElem (o50 hm);simp [this]
 by_cases hab:a<=b
 ·rw [key (b - a) (by exact o51 hab hb),List.drop_take]
 ·have:b - a=0:=o52 hab;rw [this,List.drop_eq_nil_of_le (by rw [List.length_take]; exact o53 hab)];rfl
theorem FX {prog:Program} {w:World} {A:Around} {E:Value->Shared->Prop} {s:Shared} {t sl:Addr} {vs:List Value} {m:Nat} {vl vu:Value} {lo hi:Option Int} {Q:Value->Shared->Prop} (ht:IsT s.heap t vs.toArray m) (hs:s.heap.IsSliceOf sl vl vu .none) (pl:IsPart vl lo) (pu:IsPart vu hi)
  (h0:Br vs lo hi=vs->Q (.ref t) s) (h1:Q (.ref s.heap.objs.size) { s with heap:=s.heap.push { cls:=.type "tuple",data:=.seq (Br vs lo hi).toArray } }) (hsz:vs.length<=sizeLine) :
  wpAny (model prog w) A (getItem (.ref t) (.ref sl)) Q E s:=by
 have hT:s.TypeIs (.ref t) "tuple":=⟨_,ht,rfl⟩;refine xq1_3 (id hs) fun os hos hcs hds=>?_;have hTs:s.TypeIs (.ref sl) "slice":=⟨os,hos,hcs⟩;have hb:cutAt vs.length vs.length hi<=vs.length:=by
  unfold cutAt;cases hi with
  | none=>exact Nat.le_refl _
  | some i=>dsimp only; split <;> omega
 unfold getItem;try with_reducible refine wpAny_holding ?_
 first | refine wpAny_bind (wpAny_pure ?_) | skip
 refine wpAny_bind (wpAny_sequenceKey hT (by decide) ?_);refine wpAny_bind (wpAny_callSpecial?_slot (name:="__getitem__") hT PyProof.Rows.slot_tuple_getitem
  (wpAny_call_entry PyProof.Rows.slot_tuple_getitem hT PyProof.Rows.entry_tuple_getitem ?_ (PyProof.Rows.args_tuple_getitem _ _)))
 show wpAny _ _ (Builtin.Tuple.tupleItemsOf (.ref t) >>= _) _ _ s;refine wpAny_bind (PyProof.Rows.tupleItemsOf_ ⟨_,ht,rfl,_,rfl⟩ ?_);refine wpAny_bind (wpAny_typeOf hTs ?_);rw [if_pos (by decide)];refine wpAny_bind (Q:=_) ?_
 ·unfold Builtin.Slice.sliceApplied Builtin.Slice.sliceFields;refine wpAny_bind (wpAny_bind (wpAny_field hos hds (x:=vl) rfl (wpAny_bind (wpAny_field hos hds (x:=vu) rfl (wpAny_bind (wpAny_field hos hds (x:=.none) rfl (wpAny_pure ?_)))))));refine wpAny_bind (PyProof.Rows.slicePart_none ?_);show wpAny _ _ (if ((1:Int)==0)=true then _ else _) _ _ s;rw [if_neg (by decide)];refine wpAny_bind (HI pl (wpAny_bind (HI pu (wpAny_bind (wpAny_pure ?_)))));show wpAny _ _ (match Builtin.Slice.sliceAdjust lo hi 1 (vs.toArray.size:Int) with | (lo,hi)=>pure (lo,(1:Int),Builtin.Slice.slicePlaces lo hi 1)) _ _ s
  rw [List.size_toArray,MR];show wpAny _ _ (pure (((cutAt vs.length 0 lo:Nat):Int),(1:Int),Builtin.Slice.slicePlaces ((cutAt vs.length 0 lo:Nat):Int) ((cutAt vs.length vs.length hi:Nat):Int) 1)) _ _ s;rw [MS];refine wpAny_pure ?_;show wpAny _ _ (if ((((cutAt vs.length 0 lo:Nat):Int)==0&&(1:Int)==1&&(cutAt vs.length vs.length hi - cutAt vs.length 0 lo)==vs.toArray.size)=true) then _ else _) _ _ s;have hcut:(Br vs lo hi).length<=sizeLine:=Nat.le_trans (PO vs lo hi) hsz
  by_cases hw:(((cutAt vs.length 0 lo:Nat):Int)==0&&(1:Int)==1&&(cutAt vs.length vs.length hi - cutAt vs.length 0 lo)==vs.toArray.size)=true
  ·rw [if_pos hw];have e:Br vs lo hi=vs:=by
    simp at hw;unfold Br;rw [hw.1,List.drop_zero,List.take_of_length_le (by exact o54 hw)]
   refine wpAny_bind (wpAny_bind (wpAny_typeOf hT (wpAny_pure ?_)));rw [if_pos (by decide)];exact wpAny_bind (wpAny_rule (wpAny_pure ⟨_,rfl,wpAny_pure (h0 e)⟩))
  ·rw [if_neg hw,PP vs _ _ hb];have hdrop:sizeOk (.seq ((vs.take (cutAt vs.length vs.length hi)).drop (cutAt vs.length 0 lo)).toArray):=by
    show ((vs.take (cutAt vs.length vs.length hi)).drop (cutAt vs.length 0 lo)).toArray.size<=sizeLine;rw [List.size_toArray]; exact hcut
   first
    | exact wpAny_bind (m:=Builtin.Tuple.tupleExact _) (wpAny_newObj_type (wpAny_pure ⟨_,rfl,wpAny_pure h1⟩) hdrop)
    | exact wpAny_bind (m:=Builtin.Tuple.tupleExact _) (wpAny_newObj_type (wpAny_bind (wpAny_pure (wpAny_pure ⟨_,rfl,wpAny_pure h1⟩))) hdrop)
    | exact wpAny_bind (wpAny_bind (m:=Builtin.Tuple.tupleExact _) (wpAny_newObj_type (wpAny_pure (wpAny_pure ⟨_,rfl,wpAny_pure h1⟩)) hdrop))
    | exact wpAny_bind (wpAny_bind (m:=Builtin.Tuple.tupleExact _) (wpAny_newObj_type (wpAny_pure ⟨_,rfl,wpAny_pure h1⟩) hdrop))
theorem R1 {σ:St} {s:Shared} {E:Value->Shared->Prop} {Q:D->St->Prop} {x lo hi:D} {v vl vu:Value} {value:Expr} {slice:Expr} (I:Inv c F σ s) (rv:Rep s.heap v x) (rl:Rep s.heap vl lo) (ru:Rep s.heap vu hi) (h:EZ x lo hi Q σ)
  (hs:∀ o i,subscripted slice false o i=operate [i,o] (getItem o i)) :
  wpAny (model c.prog c.w) F.A (PyProof.Rows.subscriptTail value slice v (.ref s.heap.objs.size)) (Post c F s.heap Q) E { s with heap:=s.heap.push { cls:=.type "slice",data:=.fields #[vl,vu,.none] } }:=by
 revert h; refine JE fun l u e1 e2 h=>?_;have k:=push_keeps s.heap { cls:=.type "slice",data:=.fields #[vl,vu,.none] };have I':Inv c F σ { s with heap:=s.heap.push { cls:=.type "slice",data:=.fields #[vl,vu,.none] },toks:=s.toks }:=I.keeps k;cases rv with
 | tup ht ra =>
  obtain ⟨hl,hq⟩:=h;have hlen:=ra.length;unfold lim at hl;refine PyProof.Rows.tail_any ⟨_,k _ _ ht,rfl⟩ PyProof.Rows.slot_tuple_getitem.lookup (FX (k _ _ ht) (Heap.IsSliceOf.new ..) (D3 rl e1) (D3 ru e2) (fun e=>?_) ?_ (by rw [AC]; exact JT hlen hl)) (hs _ _)
  ·have:=cutL_reps ra l u;rw [e] at this;exact ⟨_,σ,Ap k,I',.tup (k _ _ ht) (Reps.grow (Ap k) this),hq⟩
  ·exact Post.grow (Ap k) (Dd (t:=s.toks) I' (cutL_reps (Reps.grow (Ap k) ra) l u) hq)
 | lst a =>
  refine xq2_3 h fun o ds es hl hq=>?_;refine xq1_3 (I'.sto _ _ es) fun vs hls _ ra=>?_;have hlen:=ra.length;unfold lim at hl;refine PyProof.Rows.tail_any hls.typeIs PySem.list_getitem_lookup (wpAny_getItem_list_slice hls (Heap.IsSliceOf.new ..) (D3 rl e1) (D3 ru e2) .none (by simp) ?_ (by rw [List.size_toArray,AC]; exact JT hlen hl)) (hs _ _);rw [Jw];exact Post.grow (Ap k) (C0 (t:=s.toks) I' (AE _) (push_keeps _ _) ⟨0,Heap.get?_push_size _ rfl⟩ (cutL_reps ra l u) hq)
 | _=>exact h.elim
theorem V2 {σ:St} {s:Shared} {Q:D->St->Prop} {ds:List D} {vs:List Value} (I:Inv c F σ s) (FO:FmOK c n F) (rs:Reps s.heap vs ds)
  {a:Addr} (hC:ND c n a ds σ.sto (fun d sto'=>Q d { σ with sto:=sto' })) :
  wpAny (model c.prog c.w) F.A (call (.ref a) vs) (Post c F s.heap Q) CH s:=by
 refine wpAny_call (codeAny_mono (hC F.A (F.fenv :: F.outer) s vs FO.frames (FO.handled) FO.depth FO.units I.base rs fun b k e=>⟨F.hE,I.sto b k e⟩) fun r s' h=>?_);revert h; refine MG fun hs hk h=>?_;refine DG (id hs) fun h' t' q51_=>?_; obtain rfl:=q51_;have I':Inv c F σ { s with heap:=h',toks:=t' }:=I.keeps hk;cases r with
 | error e=>exact h
 | ok fl =>
 cases fl with
 | ret v =>
  refine xq2_3 h fun d sto' rd hst hq=>?_;refine ⟨d,{ σ with sto:=sto' },hk.grow,⟨I'.same,I'.base,I'.kept,I'.vars,I'.places,fun b k e=>?_,fun b ps e=>?_⟩,rd,hq⟩
  case refine_2 =>
   rcases hst b _ e with w | ⟨w1,_⟩
   ·exact I.dap b ps w
   ·exact I.new_off w1
  rcases hst b k e with w | ⟨w1,w2⟩
  ·exact I'.sto b k w
  ·cases k with
   | dict ps =>
    obtain ⟨_,r⟩:=w2;exact ⟨kept_none I.kept w1,r⟩
   | list own xs =>
    refine xq1_3 w2 fun vs' h1 h2 h3=>?_;exact ⟨vs',h1,fun z=>⟨(h2 z).1,kept_none I.kept w1⟩,h3⟩
 | _=>exact (show False from h).elim
end
section
variable {c:Cx} {F:Fm} {σ:St} {s:Shared} {n:Nat} {E:Value->Shared->Prop} {Q:D->St->Prop}
theorem Ke (I:Inv c F σ s) (FO:FmOK c n F) (CO:CxOK c) {l:Addr} {ps:List (Int×D)} (e:σ.sto l=some (.dict ps)):(l==sysModules)=false:=by
 cases z:l==sysModules with
 | false=>rfl
 | true =>
  obtain ⟨h0,_⟩:=I.sto l _ e;refine xq1_2 CO.seer.mods fun _ q52_ _=>?_; obtain ⟨o,_,_,ho,_⟩:=q52_;have:=FO.bh _ _ ho;rw [<- beq_iff_eq.mp z,h0] at this;cases this
theorem argBest_lt (bt:Nat->Nat->Bool):∀ n,argBest bt n<=n
 | 0=>Nat.le_refl _
 | n+1=>by
  show (if bt (n+1) (argBest bt n) then n+1 else argBest bt n)<=n+1
  split
  ·exact Nat.le_refl _
  ·exact Nat.le_succ_of_le (argBest_lt bt n)
theorem s_maxd (I:Inv c F σ s) (FO:FmOK c n F) (CO:CxOK c) {l:Addr} {ps:List (Int×D)} {k:Int} {r:D} (e:σ.sto l=some (.dict (ps ++ [(k,r)]))) (hp:∀ p∈ps,p.1<k) (h:Q (.int k) σ) :
  wpAny (model c.prog c.w) F.A (call (.builtin "max") [.ref l]) (Post c F s.heap Q) E s:=by
 refine xq0_2 (I.sto l _ e) fun _ q53_=>xq1_3 q53_ fun kvs hm h2 _=>?_;obtain ⟨ep,ha⟩:=(hm c.prog c.w).dictAt;have hne:l≠s.heap.objs.size:=Nat.ne_of_lt ha.lt_size;have hlen:kvs.length=ps.length+1:=by
  have:=congrArg List.length h2;rw [List.length_map,List.length_map,List.length_append] at this;exact this
 have key:∀ (i:Nat) (x:Int×Value),kvs[i]?=some x->((ps ++ [(k,r)])[i]?).map (fun p:Int×D=>p.1)=some x.1:=fun i x hx=>by
  have:(kvs.map (fun p:Int×Value=>p.1))[i]?=some x.1:=by rw [List.getElem?_map,hx]; rfl
  rw [show kvs.map (fun p:Int×Value=>p.1)=(ps ++ [(k,r)]).map (fun p:Int×D=>p.1) from h2,List.getElem?_map] at this;exact this
 obtain ⟨val,hval⟩:∃ val:Nat->Int,∀ i,val i=((kvs[i]?).map (·.1)).getD 0:=⟨_,fun _=>rfl⟩;have vlast:val ps.length=k:=by
  rw [hval];have hi:ps.length<kvs.length:=Th hlen;rw [List.getElem?_eq_getElem hi];have:=key ps.length kvs[ps.length] (List.getElem?_eq_getElem hi);rw [List.getElem?_append_right (Nat.le_refl _),Nat.sub_self] at this;exact (Option.some.inj this).symm
 have vlow:∀ i,i<ps.length->val i<k:=fun i hi=>by
  rw [hval];have hi':i<kvs.length:=JV hlen hi;rw [List.getElem?_eq_getElem hi'];have:=key i kvs[i] (List.getElem?_eq_getElem hi');rw [List.getElem?_append_left hi,List.getElem?_eq_getElem hi] at this;have e2:ps[i].1=kvs[i].1:=Option.some.inj this;show kvs[i].1<k;rw [<- e2];exact hp _ (List.getElem_mem hi)
 have best:argBest (fun i j=>decide (val i > val j)) (kvs.length - 1)=ps.length:=by
  rw [hlen,Nat.add_sub_cancel];cases hn:ps.length with
  | zero=>rfl
  | succ q =>
   show (if decide (val (q+1) > val (argBest _ q)) then q+1 else _)=q+1;rw [if_pos];refine decide_eq_true ?_;have h1:=argBest_lt (fun i j=>decide (val i > val j)) q;have h3:=vlow (argBest (fun i j=>decide (val i > val j)) q) (o57 hn h1);rw [hn] at vlast;rw [vlast];exact h3
 refine call_max_walk (wpAny_pyIter_dict (Ke I FO CO e) ha ?_);refine ⟨_,_,_,_,_,_,_,rfl,Walks.dictKeys (A:=F.A.in1) (knd:=intKind c.prog c.w) (FO.handled) _ l hne kvs ep,⟨⟨_,Heap.get?_push_size _ rfl,rfl,rfl⟩,ha.push _⟩,fun b hb=>?_,o58 hlen,CmpOf.ints_gt val (fun i w p=>?_),fun w h' tk p hk=>?_⟩
 ·have hs:(s.heap.push { cls:=.type "dict_keyiterator",data:=.fields #[.ref l,.int 0 0,.int kvs.length 0,.int ep 0] }).objs.size=s.heap.objs.size+1:=by simp [Heap.push]
  show b<(s.heap.push _).objs.size;rw [hs];rcases List.mem_cons.mp hb with rfl | hb
  ·exact Nat.lt_succ_self _
  ·rcases List.mem_cons.mp hb with rfl | hb
   ·exact Nat.lt_succ_of_lt ha.lt_size
   ·cases hb
 ·refine xq2_2 p fun k' x h1 h2=>?_;obtain ⟨t,h3⟩:=Value.isInt_shape h2;have:val i=k':=by rw [hval,h1]; rfl
  exact ⟨t,this ▸ h3⟩
 ·rw [best] at p;refine xq2_2 p fun k' x h1 h2=>?_;obtain ⟨t,rfl⟩:=Value.isInt_shape h2;have:k'=k:=by rw [<- vlast,hval,h1]; rfl
  subst this;exact BR I (fun b o eb=>hk b o (fun hb=>by
   rcases List.mem_cons.mp hb with rfl | hb
   ·exact Nat.lt_irrefl _ (Heap.lt_size eb)
   ·cases hb) (push_keeps _ _ _ _ eb)) (.int _ _) h
end
section
variable {c:Cx} {F:Fm} {σ:St} {s:Shared}
theorem Inv.turnedL (I:Inv c F σ s) {h':Heap} {t:Nat} {wr:List Addr} (hw:∀ a∈wr,(∃ o vs,s.heap.get? a=some o/\o.data=.fields vs)/\F.hE.get? a=none/\c.B.get? a=none)
  (k:∀ b o,b∉wr->s.heap.get? b=some o->h'.get? b=some o):Inv c F σ { s with heap:=h',toks:=t }:=by
 refine I.nf (fun b o e=>k b o (fun m=>by rw [(hw b m).2.2] at e; cases e) (I.base b o e)) (fun b o e=>k b o (fun m=>by rw [(hw b m).2.1] at e; cases e) (I.kept b o e)) (fun b o e nf=>k b o (fun m=>?_) e);obtain ⟨⟨o',vs,e1,e2⟩,_⟩:=hw b m;rw [e] at e1; cases e1;exact nf vs e2
end
noncomputable def ItOK (c:Cx) (F:Fm) (items:List D) (g:St->Prop) (it:Value) (wr:List Addr) (At:Nat->Heap->Prop):Prop :=
 (∀ {i:Nat} {σ:St} {s:Shared} {E:Value->Shared->Prop} {Q:Option Value->Shared->Prop} {d:D},Inv c F σ s->g σ->At i s.heap->items[i]?=some d->
  (∀ v h' t,Rep h' v d->At (i+1) h'->(∀ b o,b∉wr->s.heap.get? b=some o->h'.get? b=some o)->Q (some v) { s with heap:=h',toks:=t })->wpAny (model c.prog c.w) F.A (pyNext it) Q E s)/\
 (∀ {i:Nat} {σ:St} {s:Shared} {E:Value->Shared->Prop} {Q:Option Value->Shared->Prop},Inv c F σ s->g σ->At i s.heap->i=items.length->
  (∀ h' t,(∀ b o,b∉wr->s.heap.get? b=some o->h'.get? b=some o)->Q none { s with heap:=h',toks:=t })->wpAny (model c.prog c.w) F.A (pyNext it) Q E s)/\
 (∀ {i:Nat} {s:Shared} {E:Value->Shared->Prop} {Q:Unit->Shared->Prop} {target:Expr} {v:Value},At i s.heap->
  (∀ h',At i h'->(∀ b o,b∉wr->s.heap.get? b=some o->h'.get? b=some o)->Q () { s with heap:=h' })->wpAny (model c.prog c.w) F.A (letOwnedTupleGo target it v) Q E s)/\
 (∀ {i:Nat} {h h':Heap},At i h->Grow h h'->At i h')/\
 (∀ {i:Nat} {h:Heap},At i h->∀ b∈wr,∃ o vs,h.get? b=some o/\o.data=.fields vs)/\
 (∀ b∈wr,F.hE.get? b=none/\c.B.get? b=none)/\
 ∀ {i:Nat} {s:Shared} {E:Value->Shared->Prop} {Q:Value->Shared->Prop},At i s.heap->Q it s->wpAny (model c.prog c.w) F.A (pyIter it) Q E s
section
variable {c:Cx} {F:Fm} {items:List D} {g:St->Prop} {it:Value} {wr:List Addr} {At:Nat->Heap->Prop} (h_:ItOK c F items g it wr At)
include h_ in
theorem ItOK.next:∀ {i:Nat} {σ:St} {s:Shared} {E:Value->Shared->Prop} {Q:Option Value->Shared->Prop} {d:D},Inv c F σ s->g σ->At i s.heap->items[i]?=some d->
  (∀ v h' t,Rep h' v d->At (i+1) h'->(∀ b o,b∉wr->s.heap.get? b=some o->h'.get? b=some o)->Q (some v) { s with heap:=h',toks:=t })->wpAny (model c.prog c.w) F.A (pyNext it) Q E s:=h_.1
include h_ in
theorem ItOK.last:∀ {i:Nat} {σ:St} {s:Shared} {E:Value->Shared->Prop} {Q:Option Value->Shared->Prop},Inv c F σ s->g σ->At i s.heap->i=items.length->
  (∀ h' t,(∀ b o,b∉wr->s.heap.get? b=some o->h'.get? b=some o)->Q none { s with heap:=h',toks:=t })->wpAny (model c.prog c.w) F.A (pyNext it) Q E s:=h_.2.1
include h_ in
theorem ItOK.goes:∀ {i:Nat} {s:Shared} {E:Value->Shared->Prop} {Q:Unit->Shared->Prop} {target:Expr} {v:Value},At i s.heap->
  (∀ h',At i h'->(∀ b o,b∉wr->s.heap.get? b=some o->h'.get? b=some o)->Q () { s with heap:=h' })->wpAny (model c.prog c.w) F.A (letOwnedTupleGo target it v) Q E s:=h_.2.2.1
include h_ in
theorem ItOK.keep:∀ {i:Nat} {h h':Heap},At i h->Grow h h'->At i h':=h_.2.2.2.1
include h_ in
theorem ItOK.own:∀ {i:Nat} {h:Heap},At i h->∀ b∈wr,∃ o vs,h.get? b=some o/\o.data=.fields vs:=h_.2.2.2.2.1
def ItOK.fresh:=h_.2.2.2.2.2.1
include h_ in
theorem ItOK.self:∀ {i:Nat} {s:Shared} {E:Value->Shared->Prop} {Q:Value->Shared->Prop},At i s.heap->Q it s->wpAny (model c.prog c.w) F.A (pyIter it) Q E s:=h_.2.2.2.2.2.2
end
theorem EP {prog:Program} {w:World} {A:Around} {E:Value->Shared->Prop} {s:Shared} {T:String} {o:Obj} {I:Addr} {target:Expr} {v:Value} {vs:Array Value} {Q:Unit->Shared->Prop} (ho:s.heap.get? I=some o) (hc:o.cls=.type T) (hd:o.data=.fields vs)
  (hT:(["enumerate","zip","dict_itemiterator","dict_reverseitemiterator","odict_iterator","itertools.zip_longest","itertools.pairwise"].contains T)=false) (hq:Q () s):wpAny (model prog w) A (letOwnedTupleGo target (.ref I) v) Q E s:=by
 have main:∀ a,wpAny (model prog w) A (do
   let o <- load I
   match o.cls,o.data with
   | .type n,.fields vs =>
    if ["enumerate","zip","dict_itemiterator","dict_reverseitemiterator","odict_iterator","itertools.zip_longest","itertools.pairwise"].contains n&&vs[0]?==some (rawInt a) then
     rule "for.unpacks-the-owned-tuple"
     updateField I 0 .none
   | _,_=>pure ()) Q E s:=fun a=>by
  refine wpAny_bind (wpAny_load ho ?_);rw [hc,hd];dsimp only;rw [if_neg (by rw [hT]; simp)];exact wpAny_pure hq
 cases target <;> first | exact wpAny_pure hq | (cases v <;> first | exact main _ | exact wpAny_pure hq)
section
variable {c:Cx} {F:Fm} {σ:St} {s:Shared} {n:Nat} {E:Value->Shared->Prop}
theorem ED (I:Inv c F σ s) {a:Addr} (ha:s.heap.get? a=none):F.hE.get? a=none/\c.B.get? a=none:=by
 refine ⟨kept_none I.kept ha,?_⟩;cases e:c.B.get? a with
 | none=>rfl
 | some o=>have:=I.base a o e; rw [ha] at this; cases this
theorem it_list (hh:F.A.handled=none) {I ax:Addr} {ds:List D} (hf:F.hE.get? I=none/\c.B.get? I=none):ItOK c F ds (fun σ=>∃ o,σ.sto ax=some (.list o ds)) (.ref I) [I] (fun i h=>h.IsListIter I ax i):=⟨(fun {i σ s E Q d} Iv hg hat hd hQ=>by
  obtain ⟨o,hg⟩:=hg;refine xq1_3 (Iv.sto _ _ hg) fun vs hl _ rs=>?_;refine xq1_2 (rs.get hd) fun v e1 r=>?_;refine wpAny_pyNext_list_item hat hl (by simpa using e1) fun h' hit' hs'=>?_;refine hQ v h' s.toks (Rep.nf (fun b o e nf=>hs'.extBut b o (fun z=>?_) e) r) hit' fun b o hb e=>hs'.extBut b o (by simpa using hb) e;refine xq1_3 hat fun oi h1 h2 h3=>?_;subst z; rw [e] at h1; cases h1; exact nf _ h3),
 (fun {i σ s E Q} Iv hg hat hi hQ=>by
  obtain ⟨o,hg⟩:=hg;refine xq1_3 (Iv.sto _ _ hg) fun vs hl _ rs=>?_;exact wpAny_pyNext_list_end hh hat hl (by simp [hi,rs.length]) fun h' he=>hQ h' s.toks fun b o hb e=>he b o (by simpa using hb) e),
 (fun {i s E Q target v} hat hQ=>by
  refine xq1_3 (id hat) fun oi h1 h2 h3=>?_;exact EP h1 h2 h3 (by decide) (hQ s.heap hat fun _ _ _ e=>e)),
 (fun {i h h'} hat g=>hat.at fun o e=>by
  refine xq1_3 hat fun oi h1 h2 h3=>?_;rw [e] at h1; cases h1;exact g _ _ e (.inr ⟨_,h3⟩)),
 (fun {i h} hat b hb=>by
  refine xq1_3 hat fun oi h1 h2 h3=>?_;obtain rfl:b=I:=by simpa using hb
  exact ⟨oi,_,h1,h3⟩),
 (fun b hb=>by
  obtain rfl:b=I:=by simpa using hb
  exact hf),
 (fun {i s E Q} hat hq=>wpAny_pyIter_listiter hat hq)⟩
theorem PQ (hh:F.A.handled=none) {I ax:Addr} {ds:List D} {vs:List Value} {m:Nat} (hf:F.hE.get? I=none/\c.B.get? I=none):ItOK c F ds (fun _=>True) (.ref I) [I] (fun i h=>h.IsTupleIter I ax i/\IsT h ax vs.toArray m/\Reps h vs ds):=⟨(fun {i σ s E Q d} Iv hg hat hd hQ=>by
  revert hat; refine MG fun hat ht rs=>?_;refine xq1_2 (rs.get hd) fun v e1 r=>?_;refine wpAny_pyNext_tuple_item hat (IsT.tuple ht) (by simpa using e1) fun h' hit' hs'=>?_;have nf:Nf s.heap h':=fun b o e nf=>hs'.extBut b o (fun z=>by
   refine xq1_3 hat fun oi h1 h2 h3=>?_;subst z; rw [e] at h1; cases h1; exact nf _ h3) e
  exact hQ v h' s.toks (Rep.nf nf r) ⟨hit',nf.tuple ht,Reps.nf nf rs⟩ fun b o hb e=>hs'.extBut b o (by simpa using hb) e),
 (fun {i σ s E Q} Iv hg hat hi hQ=>by
  revert hat; refine MG fun hat ht rs=>?_;exact wpAny_pyNext_tuple_end hh hat (IsT.tuple ht) (by simp [hi,rs.length]) fun h' he=>hQ h' s.toks fun b o hb e=>he b o (by simpa using hb) e),
 (fun {i s E Q target v} hat hQ=>by
  refine xq1_3 hat.1 fun oi h1 h2 h3=>?_;exact EP h1 h2 h3 (by decide) (hQ s.heap hat fun _ _ _ e=>e)),
 (fun {i h h'} hat g=>⟨hat.1.at fun o e=>by
  refine xq1_3 hat.1 fun oi h1 h2 h3=>?_;rw [e] at h1; cases h1;exact g _ _ e (.inr ⟨_,h3⟩),J6 g hat.2.1,Reps.grow g hat.2.2⟩),
 (fun {i h} hat b hb=>by
  refine xq1_3 hat.1 fun oi h1 h2 h3=>?_;obtain rfl:b=I:=by simpa using hb
  exact ⟨oi,_,h1,h3⟩),
 (fun b hb=>by
  obtain rfl:b=I:=by simpa using hb
  exact hf),
 (fun {i s E Q} hat hq=>wpAny_pyIter_tupleiter hat.1 hq)⟩
theorem PR (hh:F.A.handled=none) {I:Addr} {a k:Int} {len:Nat} (hf:F.hE.get? I=none/\c.B.get? I=none):ItOK c F ((List.range len).map fun (i:Nat)=>D.int (a+i*k)) (fun _=>True) (.ref I) [I] (fun i h=>IsRangeIter h I (a+(i:Nat)*k) ((len:Int) - (i:Nat)) k):=⟨(fun {i σ s E Q d} Iv hg hat hd hQ=>by
  have hi:i<len:=by
   have:=(List.getElem?_eq_some_iff.mp hd).1;simpa using this
  have hdd:d=.int (a+i*k):=by simp [hi] at hd; exact hd.symm
  subst hdd;refine wpAny_pyNext_range_item hat (o59 hi) fun h' hit' hs'=>?_;refine hQ _ h' _ (.int _ _) ?_ fun b o hb e=>hs'.extBut b o (by simpa using hb) e;have e1:a+((i+1:Nat):Int)*k=a+(i:Int)*k+k:=by push_cast; rw [Int.add_mul,Int.one_mul,Int.add_assoc]
  have e2:(len:Int) - ((i+1:Nat):Int)=(len:Int) - (i:Int) - 1:=by push_cast; exact o60
  show IsRangeIter h' I (a+((i+1:Nat):Int)*k) ((len:Int) - ((i+1:Nat):Int)) k;rw [e1,e2]; exact hit'),
 (fun {i σ s E Q} Iv hg hat hi hQ=>by
  have hi':i=len:=by simpa using hi
  exact wpAny_pyNext_range_end hh hat (o61 hi') fun h' he=>hQ h' s.toks fun b o hb e=>he b o (by simpa using hb) e),
 (fun {i s E Q target v} hat hQ=>EP hat rfl rfl (by decide) (hQ s.heap hat fun _ _ _ e=>e)),
 (fun {i h h'} hat g=>g _ _ hat (.inr ⟨_,rfl⟩)),
 (fun {i h} hat b hb=>by
  obtain rfl:b=I:=by simpa using hb
  exact ⟨_,_,hat,rfl⟩),
 (fun b hb=>by
  obtain rfl:b=I:=by simpa using hb
  exact hf),
 (fun {i s E Q} hat hq=>wpAny_pyIter_rangeiter hat hq)⟩
end
noncomputable def HJ (c:Cx) (F:Fm) (h₀:Heap) (Kc:List D->(St->Prop)->St->Prop):Value->Shared->Prop:=fun itv s₂ =>
 ∃ items g σ' wr At sb,Grow h₀ sb.heap/\Inv c F σ' sb/\SameSh sb s₂/\(∀ b o,sb.heap.get? b=some o->s₂.heap.get? b=some o)/\(∀ b∈wr,sb.heap.get? b=none)/\ItOK c F items g itv wr At/\At 0 s₂.heap/\Kc items g σ'
section
variable {c:Cx} {F:Fm} {env:Env} {K:Str->Option NameKind} {ns:Nat->Option Str} {n:Nat}
theorem MT {h:Heap} {a:Addr} (n:h.get? a=none):∀ b∈[a],h.get? b=none:=fun b hb=>by
 obtain rfl:b=a:=by simpa using hb
 exact n
theorem rangeUp_eq (a b:Int):Bm a b=(List.range (b - a).toNat).map fun (i:Nat)=>D.int (a+i*1):=by
 unfold Bm;exact List.map_congr_left fun i _=>by rw [Int.mul_one]
theorem rangeDn_eq (a b:Int):BO a b=(List.range (a - b).toNat).map fun (i:Nat)=>D.int (a+i*(-1)):=by
 unfold BO;exact List.map_congr_left fun i _=>by rw [show a+(i:Int)*(-1)=a - i by rw [Int.mul_neg_one]; rfl]
theorem Lz (a b:Int):Builtin.Range.rangeSize a b (-1)=((a - b).toNat:Int):=by
 have h1:¬ ((-1:Int) > 0):=by decide
 have h2:(-(-1):Int)=1:=rfl;unfold Builtin.Range.rangeSize;rw [if_neg h1,h2,Int.ediv_one]
 by_cases h:a > b
 ·rw [if_pos h]; exact o62 h
 ·rw [if_neg h]; exact o63 h
theorem PS {a b:Int} (h1:-1000000<=a) (h2:a<=1000000) (h3:-1000000<=b) (h4:b<=1000000):Builtin.Range.small a b (-1)=true:=by
 unfold Builtin.Range.small;rw [Lz];simp [Builtin.Range.rangeFitsLong];exact o64 h1 h3 h2 h4
theorem s_rangeIt {σ:St} {s:Shared} {E:Value->Shared->Prop} {a b k:Int} {t u v:Tok} {len:Nat} {h₀:Heap} {Kc:List D->(St->Prop)->St->Prop} (I:Inv c F σ s) (hh:F.A.handled=none) (g:Grow h₀ s.heap)
  (hs:Builtin.Range.small a b k=true) (hn:Builtin.Range.rangeSize a b k=(len:Int)) (hK:Kc ((List.range len).map fun (i:Nat)=>D.int (a+i*k)) (fun _=>True) σ) {tk:Nat} :
  wpAny (model c.prog c.w) F.A (pyIter (.ref s.heap.objs.size)) (HJ c F h₀ Kc) E { s with heap:=s.heap.push { cls:=.type "range",data:=.fields #[.int a t,.int b u,.int k v] },toks:=tk }:=by
 have k1:=push_keeps s.heap { cls:=.type "range",data:=.fields #[.int a t,.int b u,.int k v] };have I₁:Inv c F σ { s with heap:=s.heap.push { cls:=.type "range",data:=.fields #[.int a t,.int b u,.int k v] },toks:=tk }:=I.keeps k1;refine wpAny_pyIter_range (IsRange.new _ a b k t u v) hs ?_;rw [hn];have k2:=push_keeps (s.heap.push { cls:=.type "range",data:=.fields #[.int a t,.int b u,.int k v] }) { cls:=.type "range_iterator",data:=.fields #[rawInt a,rawInt (len:Int),rawInt k] };refine ⟨_,_,σ,_,_,_,g.trans (Ap k1),I₁,⟨_,_,rfl⟩,k2,MT (AE _),PR (a:=a) (k:=k) (len:=len) hh (ED I₁ (AE _)),?_,hK⟩;show IsRangeIter _ _ _ _ _;have:=Heap.get?_push_size (o:={ cls:=.type "range_iterator",data:=.fields #[rawInt a,rawInt (len:Int),rawInt k] }) (s.heap.push { cls:=.type "range",data:=.fields #[.int a t,.int b u,.int k v] }) rfl;simpa using this
theorem BE {d:D} (h:smallI d=true):∃ i,d=.int i/\-1000000<=i/\i<=1000000:=by
 cases d <;> simp [smallI] at h
 exact ⟨_,rfl,h.1,h.2⟩
theorem Rv {h:Heap} {vs:List Value} {a:D} (r:Reps h vs [a]):∃ v,vs=[v]/\Rep h v a:=by
 cases r with | cons x y=>cases y; exact ⟨_,rfl,x⟩
theorem JG {h:Heap} {vs:List Value} {a b:D} (r:Reps h vs [a,b]):∃ v w,vs=[v,w]/\Rep h v a/\Rep h w b:=by
 cases r with | cons x y=>refine xq1_2 (Rv y) fun w q54_ z=>?_; obtain rfl:=q54_; exact ⟨_,_,rfl,x,z⟩
theorem aaH {h:Heap} {vs:List Value} {a b d:D} (r:Reps h vs [a,b,d]):∃ v w x,vs=[v,w,x]/\Rep h v a/\Rep h w b/\Rep h x d:=by
 cases r with | cons x y=>refine xq2_3 (JG y) fun w z q55_ p q=>?_; obtain rfl:=q55_; exact ⟨_,_,_,rfl,x,p,q⟩
theorem LA {σ:St} {s:Shared} {E:Value->Shared->Prop} {ds:List D} {vs:List Value} {items:List D} {h₀:Heap} {Kc:List D->(St->Prop)->St->Prop} (I:Inv c F σ s) (FO:FmOK c n F) (CO:CxOK c) (g:Grow h₀ s.heap) (r:Reps s.heap vs ds)
  (hs:ds.all smallI=true) (hi:HC ds=some items) (hK:Kc items (fun _=>True) σ) :
  wpAny (model c.prog c.w) F.A (call (.type "range") vs) (fun v s₁=>wpAny (model c.prog c.w) F.A (pyIter v) (HJ c F h₀ Kc) E s₁) E s:=by
 have hh:=FO.handled;cases ds with
 | nil=>cases hi
 | cons d ds =>
 cases ds with
 | nil =>
  simp only [List.all_cons,List.all_nil,Bool.and_true] at hs;refine xq1_3 (BE hs) fun b q56_ b1 b2=>?_; obtain rfl:=q56_;refine xq1_2 (Rv r) fun v q57_ rv=>?_; obtain rfl:=q57_;obtain ⟨t,rfl⟩:=D7 rv;have hi:some (Bm 0 b)=some items:=hi;cases hi;rw [rangeUp_eq] at hK;exact call_range_1 (s_rangeIt I hh g (small_one (o65) (o66) (o67 b1 b2) (o68 b1 b2)) (PyProof.Rows.rangeSize_nat 0 b) hK)
 | cons e ds =>
 cases ds with
 | nil =>
  simp only [List.all_cons,List.all_nil,Bool.and_true,Bool.and_eq_true] at hs;refine xq1_3 (BE hs.1) fun a q58_ a1 a2=>?_; obtain rfl:=q58_;refine xq1_3 (BE hs.2) fun b q59_ b1 b2=>?_; obtain rfl:=q59_;refine xq2_3 (JG r) fun v w q60_ rv rw'=>?_; obtain rfl:=q60_;obtain ⟨t,rfl⟩:=D7 rv;obtain ⟨u,rfl⟩:=D7 rw';have hi:some (Bm a b)=some items:=hi;cases hi;rw [rangeUp_eq] at hK;exact call_range_2 (s_rangeIt I hh g (small_one (o67 a1 a2) (o68 a1 a2) (o67 b1 b2) (o68 b1 b2)) (PyProof.Rows.rangeSize_nat a b) hK)
 | cons f ds =>
 cases ds with
 | nil =>
  simp only [List.all_cons,List.all_nil,Bool.and_true,Bool.and_eq_true] at hs;refine xq1_3 (BE hs.1) fun a q61_ a1 a2=>?_; obtain rfl:=q61_;refine xq1_3 (BE hs.2.1) fun b q62_ b1 b2=>?_; obtain rfl:=q62_;refine xq1_3 (BE hs.2.2) fun k q63_ k1 k2=>?_; obtain rfl:=q63_;refine xq3_4 (aaH r) fun v w z q64_ rv rw' rz=>?_; obtain rfl:=q64_;obtain ⟨t,rfl⟩:=D7 rv;obtain ⟨u,rfl⟩:=D7 rw';obtain ⟨y,rfl⟩:=D7 rz;have hi:(if k=-1 then some (BO a b) else none)=some items:=hi
  by_cases hk:k=-1
  ·subst hk;rw [if_pos rfl] at hi;cases hi;rw [rangeDn_eq] at hK;exact PySem.call_range_3 (by decide) (s_rangeIt (tk:=s.toks) I hh g (PS a1 a2 b1 b2) (Lz a b) hK) (.inr (FO.room CO I.base))
  ·rw [if_neg hk] at hi; cases hi
 | cons g' r' =>
  simp only [List.all_cons,Bool.and_eq_true] at hs;refine xq1_2 (BE hs.1) fun a q65_ _=>?_; obtain rfl:=q65_;refine xq1_2 (BE hs.2.1) fun b q66_ _=>?_; obtain rfl:=q66_;refine xq1_2 (BE hs.2.2.1) fun k q67_ _=>?_; obtain rfl:=q67_;cases (show (none:Option (List D))=some items from hi)
theorem LB {σ:St} {s:Shared} {E:Value->Shared->Prop} {d:D} {v:Value} {h₀:Heap} {Kc:List D->(St->Prop)->St->Prop} (I:Inv c F σ s) (hh:F.A.handled=none) (g:Grow h₀ s.heap) (r:Rep s.heap v d) (w:D6 d Kc σ) :
  wpAny (model c.prog c.w) F.A (pyIter v) (HJ c F h₀ Kc) E s:=by
 cases r with
 | @tup a m vs ds ht rs =>
  obtain ⟨hl,hK⟩:=w;refine wpAny_pyIter_tuple (IsT.tuple ht) ?_;have k:=push_keeps s.heap { cls:=.type "tuple_iterator",data:=.fields #[.ref a,.int 0 0] };exact ⟨_,_,σ,_,_,s,g,I,⟨_,_,rfl⟩,k,MT (AE _),PQ (ax:=a) (vs:=vs) (m:=m) hh (ED I (AE _)),⟨⟨_,Heap.get?_push_size _ rfl,rfl,rfl⟩,k _ _ ht,Reps.grow (Ap k) rs⟩,hK⟩
 | lst a =>
  refine xq2_3 w fun o ds es hl hK=>?_;refine xq1_3 (I.sto _ _ es) fun vs hls _ rs=>?_;refine wpAny_pyIter_list hls ?_;have k:=push_keeps s.heap { cls:=.type "list_iterator",data:=.fields #[.ref a,.int 0 0] };exact ⟨_,_,σ,_,_,s,g,I,⟨_,_,rfl⟩,k,MT (AE _),it_list (ax:=a) hh (ED I (AE _)),⟨_,Heap.get?_push_size _ rfl,rfl,rfl⟩,hK⟩
 | _=>exact w.elim
end
theorem SameSh.two {a b d:Shared} (x:SameSh a b) (y:SameSh a d):SameSh b d:=by
 refine DG x fun h t q68_=>?_; obtain rfl:=q68_;refine DG y fun h' t' q69_=>?_; obtain rfl:=q69_;exact ⟨h',t',rfl⟩
theorem Cell.ro_ok {h hE hE':Heap} {b:Addr} {k k':Cell} (p:CellOK h hE b k) (e:k.ro=some k'):CellOK h hE' b k':=by
 cases k with
 | list own ds=>cases e; refine xq1_3 p fun vs h1 h2 h3=>?_; exact ⟨vs,h1,(fun z=>by cases z),h3⟩
 | dict ps=>cases e
theorem Cell.ro_list {k k':Cell} (e:k.ro=some k'):∃ ds,k'=.list false ds:=by
 cases k with
 | list own ds=>cases e; exact ⟨ds,rfl⟩
 | dict ps=>cases e
theorem ro_some {τ:Sto} {a:Addr} {k':Cell} (e:Sto.ro τ a=some k'):∃ k,τ a=some k/\k.ro=some k':=Option.bind_eq_some_iff.mp e
theorem Jg {τ:Sto} {a:Addr} {ps:List (Int×D)} (e:Sto.ro τ a=some (.dict ps)):False:=by
 refine xq1_2 (ro_some e) fun k _ e=>?_;obtain ⟨ds,e⟩:=Cell.ro_list e;cases e
section
variable {c:Cx} {F:Fm} {env:Env} {K:Str->Option NameKind} {ns:Nat->Option Str} {n:Nat}
theorem Inv.after {σ:St} {sc s':Shared} (I:Inv c F σ sc) (k:Kept sc.heap s'.heap) (hs:SameSh sc s'):Inv c F σ s':=by
 refine DG hs fun h' t' q70_=>?_; obtain rfl:=q70_;exact I.keeps k
theorem Jh (FO:FmOK c n F) (Wr:FmW F) (O:EnvOK F env K ns) {E:Value->Shared->Prop} (f:Nat->Str):∀ (xs:List Nat) (ys:List Expr) (ds:List D) (vs:List Value) (σ:St) (s:Shared) (Q:Unit->Shared->Prop),(∀ i∈xs,ns i=some (f i))->xs.length=ds.length->Reps s.heap vs ds->Inv c F σ s->
  (∀ s',SameSh s s'->Grow s.heap s'.heap->Inv c F (Aw σ xs ds) s'->Q () s')->wpAny (model c.prog c.w) F.A (assignInOrder ((assignEach (B4 (xs.map f) ys) env).map (·.2)) vs) Q E s
 | [],ys,ds,vs,σ,s,Q,hn,hl,r,I,h=>wpAny_pure (h s (SameSh.refl s) (Grow.refl _) I)
 | x :: xs,ys,_,_,σ,s,Q,hn,hl,.nil,I,h=>by simp at hl
 | x :: xs,ys,d :: ds,v :: vs,σ,s,Q,hn,hl,.cons rv rs,I,h=>by
  show wpAny _ _ (do holding vs (assign (.Name (f x) (ys.headD default).pos) env v); assignInOrder ((assignEach (B4 (xs.map f) ys.tail) env).map (·.2)) vs) _ _ s
  refine wpAny_bind (wpAny_holding (wpAny_assign_Name (EC I FO Wr O (hn x (.head _)) rv fun s₁ hs₁ g₁ I₁=>?_)));exact Jh FO Wr O f xs ys.tail ds vs (σ.set x d) s₁ Q (fun i hi=>hn i (.tail _ hi)) (Nat.succ.inj hl) (rs.grow g₁) I₁ fun s₂ hs₂ g₂ I₂=>h s₂ (hs₁.trans hs₂) (g₁.trans g₂) I₂
theorem E5 (env:Env):∀ (ss:List Str) (ys:List Expr),(assignEach (B4 ss ys) env).length=ss.length/\(assignEach (B4 ss ys) env).findIdx? (·.1)=none
 | [],_=>⟨rfl,rfl⟩
 | s :: ss,ys=>by
  obtain ⟨a,b⟩:=E5 env ss ys.tail;refine ⟨congrArg Nat.succ a,?_⟩;show ((false,assign (.Name s (ys.headD default).pos) env) :: assignEach (B4 ss ys.tail) env).findIdx? (·.1)=none;rw [List.findIdx?_cons,b];rfl
theorem Ji (FO:FmOK c n F) (Wr:FmW F) (O:EnvOK F env K ns) {E:Value->Shared->Prop} {f:Nat->Str} {xs:List Nat} {ys:List Expr} {k:Nat} {p:Pos} {ds:List D} {v:Value} {σ:St} {s:Shared} {Q:Unit->Shared->Prop} (hn:∀ i∈xs,ns i=some (f i)) (hl:ds.length=xs.length) (r:Rep s.heap v (.tup ds)) (I:Inv c F σ s)
  (h:∀ s',SameSh s s'->Grow s.heap s'.heap->Inv c F (Aw σ xs ds) s'->Q () s'):wpAny (model c.prog c.w) F.A (assign (.Tuple (B4 (xs.map f) ys) k p) env v) Q E s:=by
 refine xq3_3 (rep_tup r) fun a m vs q71_ ht rs=>?_; obtain rfl:=q71_;have hlen:=rs.length;obtain ⟨a1,a2⟩:=E5 env (xs.map f) ys;refine wpAny_assign_Tuple (FO.handled) (IsT.tuple ht) (by rw [a1,List.length_map,List.size_toArray,hlen,hl]) a2 fun h' he=>?_;have kk:∀ b o,s.heap.get? b=some o->h'.get? b=some o:=fun b o e=>he b o (Nat.ne_of_lt (Heap.lt_size e)) e;exact Jh FO Wr O f xs ys ds _ σ { s with heap:=h' } Q hn hl.symm (rs.grow (Ap kk)) (I.keeps (t:=s.toks) kk) fun s₂ hs₂ g₂ I₂=>h s₂ (SameSh.trans ⟨h',s.toks,rfl⟩ hs₂) ((Ap kk).trans g₂) I₂
theorem NL (FO:FmOK c n F) (Wr:FmW F) (O:EnvOK F env K ns) {E:Value->Shared->Prop} {f:Nat->Str} {one:Bool} {xs:List Nat} {y:Expr} {d:D} {v:Value} {σ:St} {s:Shared} {K':St->Prop} {Q:Unit->Shared->Prop} (hn:∀ i∈xs,ns i=some (f i)) (r:Rep s.heap v d) (I:Inv c F σ s) (w:D0 one xs d K' σ)
  (h:∀ s' ds,SameSh s s'->Grow s.heap s'.heap->Inv c F (Aw σ xs ds) s'->K' (Aw σ xs ds)->Q () s'):wpAny (model c.prog c.w) F.A (assign (E0 one (xs.map f) y) env v) Q E s:=by
 cases one with
 | true =>
  cases xs with
  | nil=>exact (show False from w).elim
  | cons x xs =>
  cases xs with
  | cons _ _=>exact (show False from w).elim
  | nil=>exact wpAny_assign_Name (EC I FO Wr O (hn x (.head _)) r fun s' h1 h2 h3=>h s' [d] h1 h2 h3 w)
 | false =>
  obtain ⟨ds,rfl,hl,w⟩:=w;exact Ji FO Wr O hn hl r I fun s' h1 h2 h3=>h s' ds h1 h2 h3 w
end
noncomputable def Ei (env:Env):List (Str×NameKind)->List (Str×Addr)->List (Str×Addr)
 | [],cs=>cs
 | (x,k) :: r,cs=>Ei env r (if k==.free then (x,(env.cells.lookup x).getD 0) :: cs else cs)
theorem MU {sc:Scope} {env:Env} (h:∀ p∈sc.names,p.2=.free->∃ a,env.cells.lookup p.1=some a):closureFor sc env=pure (Ei env sc.names []):=by
 unfold closureFor;have key:∀ (l:List (Str×NameKind)) (cs:List (Str×Addr)),(∀ p∈l,p.2=.free->∃ a,env.cells.lookup p.1=some a)->
   (forIn l cs (fun (x:Str×NameKind) r=>if (x.2==NameKind.free)=true then do let a <- cellOf env x.1; pure (ForInStep.yield ((x.1,a) :: r)) else pure (ForInStep.yield r)):Sem (List (Str×Addr)))=pure (Ei env l cs):=by
  intro l
  induction l with
  | nil=>intro cs _; rfl
  | cons p l ih =>
   intro cs h;obtain ⟨x,k⟩:=p;rw [List.forIn_cons];cases hk:k==NameKind.free with
   | true =>
    obtain ⟨a,ha⟩:=h (x,k) (.head _) (beq_iff_eq.mp hk);have hc:cellOf env x=pure a:=by unfold cellOf; rw [ha]
    simp only [if_true,hc,pure_bind];rw [ih _ fun p hp=>h p (.tail _ hp)];show pure (Ei env l ((x,a) :: cs))=pure (Ei env l (if (k==.free)=true then (x,(env.cells.lookup x).getD 0) :: cs else cs));rw [hk,if_pos rfl,ha]; rfl
   | false =>
    simp only [if_false,pure_bind,Bool.false_eq_true];rw [ih _ fun p hp=>h p (.tail _ hp)];show pure (Ei env l cs)=pure (Ei env l (if (k==.free)=true then (x,(env.cells.lookup x).getD 0) :: cs else cs));rw [hk,if_neg Bool.false_ne_true]
 have:=key sc.names [] h;simp only [bind_pure];exact this
theorem HK {env:Env} {x:Str} {a:Addr} (ha:env.cells.lookup x=some a):∀ (l:List (Str×NameKind)) (cs:List (Str×Addr)),((x,NameKind.free)∈l\/cs.lookup x=some a)->(Ei env l cs).lookup x=some a
 | [],cs,h=>by
  rcases h with h | h
  ·cases h
  ·exact h
 | (y,k) :: l,cs,h=>by
  unfold Ei;refine HK ha l _ ?_;cases hk:k==NameKind.free with
  | true =>
   rw [if_pos rfl]
   by_cases z:x=y
   ·subst z;exact .inr (by rw [List.lookup_cons_self,ha]; rfl)
   ·rcases h with h | h
    ·rcases List.mem_cons.mp h with h | h
     ·cases h; exact absurd rfl z
     ·exact .inl h
    ·exact .inr (by rw [List.lookup_cons,beq_eq_false_iff_ne.mpr z]; exact h)
  | false =>
   rw [if_neg Bool.false_ne_true];rcases h with h | h
   ·rcases List.mem_cons.mp h with h | h
    ·cases h; cases hk
    ·exact .inl h
   ·exact .inr h
theorem relK_cell {K:Str->Option NameKind} {x:Str}:∀ {names:List (Str×NameKind)},(∀ p∈names,p.2≠.cell)->Iu K names x=some .cell->(x,NameKind.free)∈names/\K x=some .cell
 | [],_,h=>by cases h
 | (y,k) :: r,hn,h=>by
  have h:List.lookup x ((if (k==NameKind.free&&K y==some .cell)=true then (y,NameKind.cell) else (y,k)) :: (r.map fun (n,k)=>if (k==.free&&K n==some .cell) then (n,NameKind.cell) else (n,k)))=some .cell:=h
  by_cases hc:(k==NameKind.free&&K y==some .cell)=true
  ·rw [if_pos hc,List.lookup_cons] at h
   by_cases z:x=y
   ·subst z;obtain ⟨h1,h2⟩:=and2 hc;exact ⟨by rw [beq_iff_eq.mp h1]; exact .head _,beq_iff_eq.mp h2⟩
   ·rw [beq_eq_false_iff_ne.mpr z] at h;obtain ⟨h1,h2⟩:=relK_cell (fun p hp=>hn p (.tail _ hp)) h;exact ⟨.tail _ h1,h2⟩
  ·rw [if_neg hc,List.lookup_cons] at h
   by_cases z:x=y
   ·subst z;rw [beq_self_eq_true] at h;exact absurd (Option.some.inj h) (hn _ (.head _))
   ·rw [beq_eq_false_iff_ne.mpr z] at h;obtain ⟨h1,h2⟩:=relK_cell (fun p hp=>hn p (.tail _ hp)) h;exact ⟨.tail _ h1,h2⟩
noncomputable def CIt (c:Cx) (F:Fm) (σ:St) (hb:Heap) (fl:Bool) (items:List D) (it:Value) (wr:List Addr) (At:Nat->Heap->Prop) (Md:Nat->Value->Heap->Prop) (target:Expr):Prop :=
 (∀ {i:Nat} {s:Shared} {E:Value->Shared->Prop} {Q:Option Value->Shared->Prop} {d:D},Inv c F σ s->At i s.heap->items[i]?=some d->
  (∀ v h' t,Rep h' v d->Md (i+1) v h'->(∀ b o,b∉wr->s.heap.get? b=some o->h'.get? b=some o)->Q (some v) { s with heap:=h',toks:=t })->wpAny (model c.prog c.w) F.A (pyNext it) Q E s)/\
 (∀ {i:Nat} {s:Shared} {E:Value->Shared->Prop} {Q:Option Value->Shared->Prop},Inv c F σ s->At i s.heap->i=items.length->
  (∀ h' t,(∀ b o,b∉wr->s.heap.get? b=some o->h'.get? b=some o)->Q none { s with heap:=h',toks:=t })->wpAny (model c.prog c.w) F.A (pyNext it) Q E s)/\
 (∀ {i:Nat} {s:Shared} {E:Value->Shared->Prop} {Q:Unit->Shared->Prop} {v:Value},Md i v s.heap->
  (∀ h',At i h'->(∀ b o,b∉wr->s.heap.get? b=some o->h'.get? b=some o)->(∀ u d,Rep s.heap u d->Rep h' u d)->Q () { s with heap:=h' })->wpAny (model c.prog c.w) F.A (letOwnedTupleGo target it v) Q E s)/\
 (∀ {i:Nat} {h h':Heap},At i h->Grow h h'->At i h')/\
 (∀ {i:Nat} {h h':Heap} {v:Value} {d:D},At i h->(∀ b o,b∉wr->h.get? b=some o->h'.get? b=some o)->(fl=true->AY d=true)->Rep h v d->Rep h' v d)/\
 (∀ {i:Nat} {h:Heap},At i h->∀ b∈wr,∃ o,h.get? b=some o/\noDict o/\∀ ws m,o.data=.seq ws m->o.cls≠.type "list")/\
 (∀ {i:Nat} {v:Value} {h:Heap},Md i v h->∀ b∈wr,∃ o,h.get? b=some o/\noDict o/\∀ ws m,o.data=.seq ws m->o.cls≠.type "list")/\
 (∀ b∈wr,hb.get? b=none)/\
 ∀ {i:Nat} {s:Shared} {E:Value->Shared->Prop} {Q:Value->Shared->Prop},At i s.heap->Q it s->wpAny (model c.prog c.w) F.A (pyIter it) Q E s
section
variable {c:Cx} {F:Fm} {σ:St} {hb:Heap} {fl:Bool} {items:List D} {it:Value} {wr:List Addr} {At:Nat->Heap->Prop} {Md:Nat->Value->Heap->Prop} {target:Expr} (h_:CIt c F σ hb fl items it wr At Md target)
include h_ in
theorem CIt.next:∀ {i:Nat} {s:Shared} {E:Value->Shared->Prop} {Q:Option Value->Shared->Prop} {d:D},Inv c F σ s->At i s.heap->items[i]?=some d->
  (∀ v h' t,Rep h' v d->Md (i+1) v h'->(∀ b o,b∉wr->s.heap.get? b=some o->h'.get? b=some o)->Q (some v) { s with heap:=h',toks:=t })->wpAny (model c.prog c.w) F.A (pyNext it) Q E s:=h_.1
include h_ in
theorem CIt.last:∀ {i:Nat} {s:Shared} {E:Value->Shared->Prop} {Q:Option Value->Shared->Prop},Inv c F σ s->At i s.heap->i=items.length->
  (∀ h' t,(∀ b o,b∉wr->s.heap.get? b=some o->h'.get? b=some o)->Q none { s with heap:=h',toks:=t })->wpAny (model c.prog c.w) F.A (pyNext it) Q E s:=h_.2.1
include h_ in
theorem CIt.goes:∀ {i:Nat} {s:Shared} {E:Value->Shared->Prop} {Q:Unit->Shared->Prop} {v:Value},Md i v s.heap->
  (∀ h',At i h'->(∀ b o,b∉wr->s.heap.get? b=some o->h'.get? b=some o)->(∀ u d,Rep s.heap u d->Rep h' u d)->Q () { s with heap:=h' })->wpAny (model c.prog c.w) F.A (letOwnedTupleGo target it v) Q E s:=h_.2.2.1
include h_ in
theorem CIt.keep:∀ {i:Nat} {h h':Heap},At i h->Grow h h'->At i h':=h_.2.2.2.1
include h_ in
theorem CIt.safe:∀ {i:Nat} {h h':Heap} {v:Value} {d:D},At i h->(∀ b o,b∉wr->h.get? b=some o->h'.get? b=some o)->(fl=true->AY d=true)->Rep h v d->Rep h' v d:=h_.2.2.2.2.1
include h_ in
theorem CIt.kinds:∀ {i:Nat} {h:Heap},At i h->∀ b∈wr,∃ o,h.get? b=some o/\noDict o/\∀ ws m,o.data=.seq ws m->o.cls≠.type "list":=h_.2.2.2.2.2.1
include h_ in
theorem CIt.kindsM:∀ {i:Nat} {v:Value} {h:Heap},Md i v h->∀ b∈wr,∃ o,h.get? b=some o/\noDict o/\∀ ws m,o.data=.seq ws m->o.cls≠.type "list":=h_.2.2.2.2.2.2.1
def CIt.fresh:=h_.2.2.2.2.2.2.2.1
include h_ in
theorem CIt.self:∀ {i:Nat} {s:Shared} {E:Value->Shared->Prop} {Q:Value->Shared->Prop},At i s.heap->Q it s->wpAny (model c.prog c.w) F.A (pyIter it) Q E s:=h_.2.2.2.2.2.2.2.2
end
theorem EE {h h':Heap} {fl:Bool} (f:∀ {v:Value} {d:D},(fl=true->AY d=true)->Rep h v d->Rep h' v d) {vs:List Value} {ds:List D} (k:fl=true->ds.all AY=true) (r:Reps h vs ds):Reps h' vs ds :=
 Reps.ind (P:=fun vs ds=>(fl=true->ds.all AY=true)->Reps h' vs ds) (fun _=>.nil) (fun x _ z k=>.cons (f (fun q=>(and2 (k q)).1) x) (z fun q=>(and2 (k q)).2)) r k
section
variable {prog:Program} {w:World} {A:Around} {s:Shared} {R:Result->Shared->Prop}
theorem NM {elt target iter:Expr} {scope:Scope} {pos:Pos} {it acc:Value} {env:Env} (I:Nat->Shared->Prop)
  (turn:∀ n s,I n s->wpAny (model prog w) A (pyNext it) (fun r s₁=>match r with
   | none=>R (.ok .next) s₁
   | some v=>wpAny (model prog w) A (letOwnedTupleGo target it v) (fun _ s₁=>wpAny (model prog w) A (assign target env v) (fun _ s₂=>wpAny (model prog w) A (eval elt env) (fun x s₃ =>
     wpAny (model prog w) A (call (.builtin "list.append") [acc,x]) (fun _ s₄=>∃ m,m<n/\I m s₄) (fun _ _=>False) s₃) (fun _ _=>False) s₂) (fun _ _=>False) s₁) (fun _ _=>False) s₁) (fun _ _=>False) s)
  (n:Nat) (h:I n s):codeAny (model prog w) A (.compLoop (.ListComp elt [⟨target,iter,[],0⟩] scope pos) 0 it acc env) R s:=by
 refine codeAny_loop rfl I (fun n s hI=>?_) n h;show wpAny _ _ ((compTurn (.ListComp elt [⟨target,iter,[],0⟩] scope pos) 0 it acc env).onRaise (fun x=>do noteFrame x env; theTreesLotGoes x)) _ _ s
 refine wpAny_noted ?_;rw [compTurn_list1];refine wpAny_bind (wpAny_standAt (wpAny_bind (wpAny_mono (turn n s hI) (fun r s₁ h₁=>?_) fun _ _ h'=>h'.elim)));cases r with
 | none=>exact wpAny_pure h₁
 | some v =>
  exact wpAny_bind (wpAny_mono h₁ (fun _ s₁ h₁=>wpAny_bind (wpAny_mono h₁ (fun _ s₂ h₂=>wpAny_bind (wpAny_bind (wpAny_mono h₂ (fun x s₃ h₃=>wpAny_bind (wpAny_mono h₃
   (fun _ s₄ h₄=>wpAny_pure (wpAny_pure ⟨rfl,h₄⟩)) fun _ _ h'=>h'.elim)) fun _ _ h'=>h'.elim))) fun _ _ h'=>h'.elim)) fun _ _ h'=>h'.elim)
end
theorem FA (σ:St):∀ (xs:List Nat) (ds:List D),(Aw σ xs ds).sto=σ.sto
 | [],_=>rfl
 | _ :: _,[]=>rfl
 | x :: xs,d :: ds=>FA (σ.set x d) xs ds
theorem setAll_off:∀ (xs:List Nat) (ds:List D) (σ:St) (i:Nat),i∉xs->(Aw σ xs ds).loc i=σ.loc i
 | [],_,_,_,_=>rfl
 | _ :: _,[],_,_,_=>rfl
 | x :: xs,d :: ds,σ,i,h=>(setAll_off xs ds (σ.set x d) i fun m=>h (.tail _ m)).trans (if_neg fun (z:i=x)=>h (by rw [z]; exact .head _))
theorem setAll_loc {σ σ':St}:∀ (xs:List Nat) (ds:List D),∀ i,(i∉xs->σ.loc i=σ'.loc i)->(Aw σ xs ds).loc i=(Aw σ' xs ds).loc i\/(ds.length<xs.length)
 | [],_,i,h=>.inl (h (by simp))
 | x :: xs,[],i,h=>.inr (by simp)
 | x :: xs,d :: ds,i,h=>by
  rcases setAll_loc (σ:=σ.set x d) (σ':=σ'.set x d) xs ds i (fun hi=>by
   by_cases z:i=x
   ·simp [St.set,z]
   ·simp only [St.set,if_neg z]; exact h (fun m=>(List.mem_cons.mp m).elim z hi)) with e | e
  ·exact .inl e
  ·exact .inr (by simpa using e)
section
variable {c:Cx} {F:Fm} {env:Env} {V:Vw} {n:Nat} {σ:St} {sb s:Shared}
noncomputable def Iw (is:List Nat) (f:Nat->Str) (C:Addr) (o:Nat->Option Loc) (i:Nat):Option Loc:=if is.contains i then some (.ns C (f i)) else o i
theorem GV {is:List Nat} {f:Nat->Str} {C:Addr} {o:Nat->Option Loc} {i:Nat} (h:is.contains i=false):Iw is f C o i=o i:=if_neg (by rw [h]; exact Bool.false_ne_true)
noncomputable def Fm.bnd (F:Fm) (hb:Heap) (is:List Nat) (f:Nat->Str) (C:Addr):Fm:={ F with hE:=hb,loc:=Iw is f C fun _=>none }
noncomputable def Fm.elt (F:Fm) (hb:Heap) (is:List Nat) (f:Nat->Str) (C:Addr):Fm:={ F with hE:=hb,loc:=Iw is f C F.loc }
theorem bnd_pos {is:List Nat} {f:Nat->Str} {C:Addr} {hb:Heap} {i:Nat} (h:is.contains i=true):(F.bnd hb is f C).loc i=some (.ns C (f i)):=if_pos h
theorem Gz {is:List Nat} {f:Nat->Str} {C:Addr} {hb:Heap} {i:Nat} (h:is.contains i=false):(F.bnd hb is f C).loc i=none:=GV (o:=fun _=>none) h
theorem Ix {is:List Nat} {f:Nat->Str} {C:Addr} {hb:Heap} {i:Nat} (h:is.contains i=true):(F.elt hb is f C).loc i=some (.ns C (f i)):=if_pos h
theorem GA {is:List Nat} {f:Nat->Str} {C:Addr} {hb:Heap} {i:Nat} (h:is.contains i=false):(F.elt hb is f C).loc i=F.loc i:=GV (o:=F.loc) h
theorem FmOK.turn {l:Nat->Option Loc} {hb:Heap} (FO:FmOK c n F) (h:c.B.StaysIn hb):FmOK c n { F with hE:=hb,loc:=l } :=
 ⟨FO.frames,FO.handled,FO.depth,FO.units,FO.globals,FO.builtins,FO.gen,FO.co,h⟩
theorem aaI {is:List Nat} {f:Nat->Str} {C:Addr} {hb:Heap} (hC:hb.get? C=none) (ha:∀ i∈is,∀ j∈is,f i=f j->i=j):FmW (F.bnd hb is f C):=⟨(fun i l e=>by
  cases h:is.contains i with
  | true=>rw [bnd_pos h] at e; cases e; exact hC
  | false=>rw [Gz h] at e; cases e),
 (fun i j l e e'=>by
  cases h:is.contains i with
  | false=>rw [Gz h] at e; cases e
  | true =>
   rw [bnd_pos h] at e; cases e;cases h':is.contains j with
   | false=>rw [Gz h'] at e'; cases e'
   | true =>
    rw [bnd_pos h'] at e';injection e' with e'; injection e' with _ e';exact ha i (by simpa using h) j (by simpa using h') e'.symm)⟩
noncomputable def st0:St:=⟨fun _=>none,fun _=>none⟩
theorem R2 (I:Inv c F σ sb) (hs:SameSh sb s) (k:Kept sb.heap s.heap) {is:List Nat} {f:Nat->Str} {C L:Addr} {vs:List Value} {ds:List D} (hC:∃ m,s.heap.Ns C m) (hL:s.heap.PlainList L vs.toArray) (nL:sb.heap.get? L=none) (r:Reps s.heap vs ds) :
  Inv c (F.bnd sb.heap is f C) (st0.put L (.list true ds)) s:=⟨(I.after k hs).same,
 (I.after k hs).base,
 k,
 (fun i d e=>by cases e),
 (fun i l e=>by
  cases h:is.contains i with
  | true=>rw [bnd_pos h] at e; cases e; exact hC
  | false=>rw [Gz h] at e; cases e),
 (fun b k' e=>by
  by_cases z:b=L
  ·subst z;have e':some (Cell.list true ds)=some k':=by simpa [St.put,Sto.put] using e
   cases e';exact ⟨vs,hL.isList,fun _=>⟨hL,nL⟩,r⟩
  ·have e':(none:Option Cell)=some k':=by simp [St.put,Sto.put,z,st0] at e
   cases e'),
 (dap_list fun b ps e=>by cases e)⟩
theorem setAll_ro:∀ (xs:List Nat) (ds:List D) (σ:St),Aw σ.ro xs ds=(Aw σ xs ds).ro
 | [],_,_=>rfl
 | _ :: _,[],_=>rfl
 | x :: xs,d :: ds,σ=>setAll_ro xs ds (σ.set x d)
theorem R3 (I:Inv c F σ sb) {s₃:Shared} (hs:SameSh sb s₃) (k:Kept sb.heap s₃.heap) {is:List Nat} {f:Nat->Str} {C:Addr} {τ:St} {ds:List D} (J:Inv c (F.bnd sb.heap is f C) (Aw τ is ds) s₃) (hl:ds.length=is.length) (hU:∀ i∈is,F.loc i=none) :
  Inv c (F.elt s₃.heap is f C) (Aw σ is ds).ro s₃:=⟨J.same,
 J.base,
 (fun _ _ e=>e),
 (fun i d e=>by
  have e:(Aw σ is ds).loc i=some d:=e;have I₃:=I.after k hs;cases h:is.contains i with
  | true =>
   have hi:i∈is:=by simpa using h
   rcases setAll_loc (σ:=σ) (σ':=τ) is ds i (fun m=>absurd hi m) with z | z
   ·rw [z] at e;refine xq2_3 (J.vars i d e) fun l v e1 e2 e3=>?_;refine ⟨l,v,?_,e2,e3⟩;rw [bnd_pos h] at e1;exact (Ix h).trans e1
   ·omega
  | false =>
   have hi:i∉is:=fun m=>by rw [List.contains_iff_mem.mpr m] at h; cases h
   refine xq2_3 (I₃.vars i d ((setAll_off is ds σ i hi).symm.trans e)) fun l v e1 e2 e3=>?_;exact ⟨l,v,(GA h).trans e1,e2,e3⟩),
 (fun i l e=>by
  have I₃:=I.after k hs;cases h:is.contains i with
  | true =>
   rw [Ix h] at e;cases e;exact J.places i _ (bnd_pos h)
  | false=>rw [GA h] at e; exact I₃.places i l e),
 (fun a k' e=>by
  have I₃:=I.after k hs;have e':Sto.ro (Aw σ is ds).sto a=some k':=e;rw [FA] at e';refine xq1_2 (ro_some e') fun k₀ h1 h2=>?_;exact Cell.ro_ok (I₃.sto a k₀ h1) h2),
 (fun a ps e=>(Jg (τ:=(Aw σ is ds).sto) e).elim)⟩
theorem MV {one:Bool} {is:List Nat} {d:D} {K:St->Prop} {τ:St} {m:Nat} (w:D0 one is d K σ) (hm:is.length=m):D0 one is d (fun σ₂=>∃ es,es.length=m/\σ₂=Aw τ is es/\K (Aw σ is es)) τ:=by
 subst hm;cases one with
 | true =>
  match is,w with
  | [x],w=>exact ⟨[d],rfl,rfl,w⟩
  | [],w=>exact (show False from w).elim
  | _ :: _ :: _,w=>exact (show False from w).elim
 | false =>
  obtain ⟨ds,rfl,hl,w⟩:=w;exact ⟨ds,rfl,hl,ds,hl,rfl,w⟩
theorem V3 {s':Shared} {is:List Nat} {f:Nat->Str} {C:Addr} {hb:Heap} {τ:St} (J:Inv c (F.bnd hb is f C) τ s') (h0:is≠[]):∃ m,s'.heap.Ns C m:=by
 cases is with
 | nil=>exact absurd rfl h0
 | cons i is=>exact J.places i _ (bnd_pos (by simp))
end
noncomputable def CompOK (V V':Vw) (sc:Scope) (is:List Nat):Prop :=
 (sc.kind=.function)/\
 (∀ p∈sc.names,p.2≠.cell)/\
 (∀ p∈sc.names,p.2=.local->sc.names.lookup p.1=some .local)/\
 (∀ p∈sc.names,p.2=.free->V.K p.1=some .cell)/\
 (∀ i∈is,V'.K (V'.nL i)=some .local)/\
 (∀ i∈is,V.us i=false)/\
 (∀ i∈is,∀ j∈is,V'.nL i=V'.nL j->i=j)/\
 is≠[]
section
variable {V V':Vw} {sc:Scope} {is:List Nat} (h_:CompOK V V' sc is)
def CompOK.kind:=h_.1
def CompOK.cell:=h_.2.1
def CompOK.names:=h_.2.2.1
def CompOK.free:=h_.2.2.2.1
def CompOK.loc:=h_.2.2.2.2.1
def CompOK.us:=h_.2.2.2.2.2.1
def CompOK.ap:=h_.2.2.2.2.2.2.1
def CompOK.ne:=h_.2.2.2.2.2.2.2
end
theorem Kg {a b:Bool} (h:(!a || b)=true) (x:a=true):b=true:=by subst x; exact h
theorem NN {V V':Vw} {xs:List (Nat×Str)} {sc:Scope} {is:List Nat} (h:NK V xs sc is V'=true):CompOK V V' sc is:=by
 obtain ⟨h,h4⟩:=and2 h;obtain ⟨h,h3⟩:=and2 h;obtain ⟨h1,h2⟩:=and2 h;obtain ⟨h0,h1⟩:=and2 h1;have h1:=List.all_eq_true.mp h1;have h2:=List.all_eq_true.mp h2;have h3:=List.all_eq_true.mp h3;exact ⟨beq_iff_eq.mp h0,
 (fun p hp z=>by
   have:=(and2 (and2 (h1 p hp)).1).1;rw [z] at this; cases this),
 (fun p hp z=>beq_iff_eq.mp (Kg (and2 (and2 (h1 p hp)).1).2 (beq_iff_eq.mpr z))),
 (fun p hp z=>beq_iff_eq.mp (Kg (and2 (h1 p hp)).2 (beq_iff_eq.mpr z))),
 (fun i hi=>beq_iff_eq.mp (and2 (h2 i hi)).1),
 (fun i hi=>beq_iff_eq.mp (and2 (h2 i hi)).2),
 (fun i hi j hj e=>beq_iff_eq.mp (Kg (List.all_eq_true.mp (h3 i hi) j hj) (beq_iff_eq.mpr e))),
 (fun z=>by subst z; cases h4)⟩
section
variable {c:Cx} {F:Fm} {env:Env} {V:Vw} {n:Nat} {σ:St} {xs:List (Nat×Str)} {sc:Scope}
theorem comp_kinds (R:Run c F env V n) (x:Str) (cl:List (Str×Addr)) (C:Addr):(compEnvC sc cl C env).kindOf x=(V.comp xs sc).K x:=by
 show (sc.names.map fun (n,k)=>if (k==.free&&env.scope.kind==.function&&env.kindOf n==some .cell) then (n,NameKind.cell) else (n,k)).lookup x=(sc.names.map fun (n,k)=>if (k==.free&&V.K n==some .cell) then (n,NameKind.cell) else (n,k)).lookup x
 congr 1
 refine List.map_congr_left fun p _=>?_;obtain ⟨m,k⟩:=p;show (if (k==.free&&env.scope.kind==.function&&env.kindOf m==some .cell)=true then (m,NameKind.cell) else (m,k))=if (k==.free&&V.K m==some .cell)=true then (m,NameKind.cell) else (m,k);rw [R.O.kind,R.O.kinds m,show (ScopeKind.function==ScopeKind.function)=true from rfl,Bool.and_true]
theorem R4 (R:Run c F env V n) (H:CompOK V (V.comp xs sc) sc (xs.map (·.1))) (hb:Heap) (C:Addr) :
  EnvOK (F.bnd hb (xs.map (·.1)) (V.comp xs sc).nL C) (compEnvC sc (Ei env sc.names []) C env) (V.comp xs sc).K (fun i=>if (xs.map (·.1)).contains i then some ((V.comp xs sc).nL i) else none):=⟨H.kind,
 R.O.globals,
 R.O.builtins,
 (fun x=>comp_kinds R x _ _),
 (fun i x hx=>by
  try dsimp only at hx;cases h:(xs.map (·.1)).contains i with
  | false=>rw [h] at hx; cases hx
  | true =>
   rw [h] at hx; cases hx;exact .inl ⟨(comp_kinds R _ _ _).trans (H.loc i (List.contains_iff_mem.mp h)),bnd_pos h⟩),
 (fun x hx=>by
  obtain ⟨h1,h2⟩:=relK_cell H.cell hx;obtain ⟨a,ha⟩:=R.O.cells x h2;exact ⟨a,HK ha _ _ (.inl h1)⟩)⟩
theorem R5 (R:Run c F env V n) (H:CompOK V (V.comp xs sc) sc (xs.map (·.1))) (hb:Heap) (C:Addr) :
  EnvOK (F.elt hb (xs.map (·.1)) (V.comp xs sc).nL C) (compEnvC sc (Ei env sc.names []) C env) (V.comp xs sc).K (V.comp xs sc).ns:=⟨H.kind,
 R.O.globals,
 R.O.builtins,
 (fun x=>comp_kinds R x _ _),
 (fun i x hx=>by
  have hx:(if (xs.map (·.1)).contains i then some ((V.comp xs sc).nL i) else match V.ns i with
   | some x=>if Iu V.K sc.names x==some .cell then some x else none
   | none=>none)=some x:=hx
  cases h:(xs.map (·.1)).contains i with
  | true =>
   rw [h] at hx; cases hx;exact .inl ⟨(comp_kinds R _ _ _).trans (H.loc i (List.contains_iff_mem.mp h)),Ix h⟩
  | false =>
   rw [h,if_neg Bool.false_ne_true] at hx;cases hv:V.ns i with
   | none=>rw [hv] at hx; cases hx
   | some y =>
    rw [hv] at hx;have hx:(if (Iu V.K sc.names y==some .cell)=true then some y else none)=some x:=hx
    by_cases hr:(Iu V.K sc.names y==some .cell)=true
    ·rw [if_pos hr] at hx; cases hx;obtain ⟨h1,h2⟩:=relK_cell H.cell (beq_iff_eq.mp hr);rcases R.O.res i x hv with ⟨k1,_⟩ | ⟨k1,a,k2,k3⟩
     ·rw [R.O.kinds,h2] at k1; cases k1
     ·exact .inr ⟨(comp_kinds (xs:=xs) R _ _ _).trans (beq_iff_eq.mp hr),a,HK k2 _ _ (.inl h1),(GA h).trans k3⟩
    ·rw [if_neg hr] at hx; cases hx),
 (fun x hx=>by
  obtain ⟨h1,h2⟩:=relK_cell H.cell hx;obtain ⟨a,ha⟩:=R.O.cells x h2;exact ⟨a,HK ha _ _ (.inl h1)⟩)⟩
theorem R6 (R:Run c F env V n) (H:CompOK V (V.comp xs sc) sc (xs.map (·.1))) {hb:Heap} (hB:c.B.StaysIn hb) (C:Addr) :
  Run c (F.elt hb (xs.map (·.1)) (V.comp xs sc).nL C) (compEnvC sc (Ei env sc.names []) C env) (V.comp xs sc) n :=
 ⟨R.CO,R.FO.turn hB,R5 R H hb C,fun i hi=>by
  have hi:(V.us i || (xs.map (·.1)).contains i)=false:=hi;rw [Bool.or_eq_false_iff] at hi;exact (GA hi.2).trans (R.U i hi.1)⟩
theorem GB {wr:List Addr} {hb h h':Heap} (x:Kept hb h) (fr:∀ b∈wr,hb.get? b=none) (k:∀ b o,b∉wr->h.get? b=some o->h'.get? b=some o):Kept hb h':=fun b o e=>k b o (fun m=>by rw [fr b m] at e; cases e) (x b o e)
theorem ns_off {wr:List Addr} {h:Heap} {C:Addr} (hC:∃ m,h.Ns C m) (kd:∀ b∈wr,∃ o,h.get? b=some o/\noDict o/\∀ ws m,o.data=.seq ws m->o.cls≠.type "list"):C∉wr:=fun m=>by
 refine Rg hC fun _ o es ep ho hd _=>?_;refine xq1_3 (kd C m) fun o' h1 h2 _=>?_;rw [ho] at h1; cases h1;exact h2 _ _ hd
theorem ns_at {h h':Heap} {C:Addr} (hC:∃ m,h.Ns C m) (k:∀ o,h.get? C=some o->h'.get? C=some o):∃ m,h'.Ns C m:=by
 obtain ⟨m,hn⟩:=hC;exact ⟨m,hn.at' k⟩
theorem Iy {wr:List Addr} {h:Heap} {L:Addr} {ws:Array Value} (hL:h.PlainList L ws) (kd:∀ b∈wr,∃ o,h.get? b=some o/\noDict o/\∀ ws m,o.data=.seq ws m->o.cls≠.type "list"):L∉wr:=fun m=>by
 obtain ⟨_,ho⟩:=hL;refine xq1_3 (kd L m) fun o' h1 _ h3=>?_;rw [ho] at h1; cases h1;exact h3 _ _ rfl rfl
theorem plain_kept {h h':Heap} {L:Addr} {ws:Array Value} (k:Kept h h') (hL:h.PlainList L ws):h'.PlainList L ws:=by
 obtain ⟨m,ho⟩:=hL;exact ⟨m,k _ _ ho⟩
theorem PT {h h':Heap} {L:Addr} {ws:Array Value} (hL:h.PlainList L ws) (k:∀ b o,b≠L->h.get? b=some o->h'.get? b=some o):Grow h h':=fun b o e st=>k b o (fun z=>by
 subst z;obtain ⟨m,ho⟩:=hL;rw [e] at ho; cases ho;rcases st with ⟨_,_,hc,_⟩ | ⟨_,hd⟩
 ·exact absurd hc (by simp)
 ·cases hd) e
theorem s_turns (R:Run c F env V n) (H:CompOK V (V.comp xs sc) sc (xs.map (·.1))) {elt:(D->St->Prop)->St->Prop} {P:D->Prop} {fl:Bool} (hP:∀ r,fl=true->P r->AY r=true) {eltx itx y:Expr} {pos:Pos}
  (eltS:∀ {F':Fm} {env':Env},Run c F' env' (V.comp xs sc) n->∀ {K:D->St->Prop} {σ:St} {s:Shared},Inv c F' σ s->elt K σ->wpAny (model c.prog c.w) F'.A (eval eltx env') (Post c F' s.heap K) CH s)
  {sb s:Shared} {items:List D} {it:Value} {wr:List Addr} {At:Nat->Heap->Prop} {Md:Nat->Value->Heap->Prop} {C L:Addr} {Rr:Result->Shared->Prop} {Kf:List D->Prop}
  (I:Inv c F σ sb) (W:CIt c F σ sb.heap fl items it wr At Md (E0 (xs.length==1) ((xs.map (·.1)).map (V.comp xs sc).nL) y)) (nC:sb.heap.get? C=none) (nL:sb.heap.get? L=none) (hCL:C≠L) (hl:items.length<=lim)
  (hs:SameSh sb s) (k:Kept sb.heap s.heap) (hat:At 0 s.heap) (hC:∃ m,s.heap.Ns C m) (hL:s.heap.PlainList L #[]) (w:D1 (EA xs elt P σ) items [] Kf)
  (done:∀ s' ds vs,SameSh sb s'->Kept sb.heap s'.heap->(∃ m,s'.heap.Ns C m)->s'.heap.PlainList L (List.toArray vs)->Reps s'.heap vs ds->Kf ds->Rr (.ok .next) s') :
  codeAny (model c.prog c.w) F.A (.compLoop (.ListComp eltx [⟨E0 (xs.length==1) ((xs.map (·.1)).map (V.comp xs sc).nL) y,itx,[],0⟩] sc pos) 0 it (.ref L) (compEnvC sc (Ei env sc.names []) C env)) Rr s:=by
 have hb:c.B.StaysIn sb.heap:=I.base;refine NM (fun m s₁=>∃ i ds vs,i<=items.length/\m=items.length - i/\SameSh sb s₁/\Kept sb.heap s₁.heap/\At i s₁.heap/\(∃ m,s₁.heap.Ns C m)/\s₁.heap.PlainList L (List.toArray vs)/\Reps s₁.heap vs ds/\(fl=true->ds.all AY=true)/\ds.length=i/\D1 (EA xs elt P σ) (items.drop i) ds Kf) (fun m s₁ hI=>?_) items.length
  ⟨0,[],[],Nat.zero_le _,rfl,hs,k,hat,hC,hL,.nil,fun _=>rfl,rfl,by rw [List.drop_zero]; exact w⟩
 refine VU hI fun i ds vs hi q74_ hs₁ k₁ hat₁ hC₁ hL₁ r₁ fl₁ hlen w₁=>?_; obtain rfl:=q74_;have I₁:Inv c F σ s₁:=I.after k₁ hs₁;rcases Nat.lt_or_eq_of_le hi with hlt | rfl
 ·rw [List.drop_eq_getElem_cons hlt] at w₁;have w₁:D0 (xs.length==1) (xs.map (·.1)) items[i] (fun σ₂=>elt (fun r _=>P r/\D1 (EA xs elt P σ) (items.drop (i+1)) (ds ++ [r]) Kf) σ₂) σ.ro:=w₁;refine W.next I₁ hat₁ (List.getElem?_eq_getElem hlt) fun v h₂ t rv md k₂=>?_;have kd:=W.kinds hat₁;have hC₂:=ns_at hC₁ (h':=h₂) fun o e=>k₂ C o (ns_off hC₁ kd) e;have hL₂:h₂.PlainList L (List.toArray vs):=hL₁.at fun o e=>k₂ L o (Iy hL₁ kd) e;have r₂:Reps h₂ vs ds:=EE (fl:=fl) (fun q r=>W.safe hat₁ k₂ q r) fl₁ r₁;refine W.goes md fun h₃ hat₃ k₃ rr₃=>?_;have kd₃:=W.kindsM md;have hC₃:=ns_at hC₂ (h':=h₃) fun o e=>k₃ C o (ns_off hC₂ kd₃) e;have hL₃:h₃.PlainList L (List.toArray vs):=hL₂.at fun o e=>k₃ L o (Iy hL₂ kd₃) e;have r₃:Reps h₃ vs ds:=EE (fl:=false) (fun _ r=>rr₃ _ _ r) (fun z=>by cases z) r₂;have kk₃:Kept sb.heap h₃:=GB (GB k₁ W.fresh k₂) W.fresh k₃;have hs₃:SameSh sb { s₁ with heap:=h₃,toks:=t }:=hs₁.trans ⟨h₃,t,rfl⟩;have J:=R2 (s:={ s₁ with heap:=h₃,toks:=t }) (is:=xs.map (·.1)) (f:=(V.comp xs sc).nL) I hs₃ kk₃ hC₃ hL₃ nL r₃;have FOb:FmOK c n (F.bnd sb.heap (xs.map (·.1)) (V.comp xs sc).nL C):=R.FO.turn hb;have w₁':D0 (xs.length==1) (xs.map (·.1)) items[i] (fun σ₂=>∃ es,es.length=xs.length/\σ₂=Aw (st0.put L (.list true ds)) (xs.map (·.1)) es/\elt (fun r _=>P r/\D1 (EA xs elt P σ) (items.drop (i+1)) (ds ++ [r]) Kf) (Aw σ.ro (xs.map (·.1)) es)) (st0.put L (.list true ds)):=MV w₁ (List.length_map ..);refine NL (K':=fun σ₂=>∃ es,es.length=xs.length/\σ₂=Aw (st0.put L (.list true ds)) (xs.map (·.1)) es/\elt (fun r _=>P r/\D1 (EA xs elt P σ) (items.drop (i+1)) (ds ++ [r]) Kf) (Aw σ.ro (xs.map (·.1)) es)) FOb (aaI nC H.ap) (R4 R H sb.heap C) (fun j hj=>if_pos (List.contains_iff_mem.mpr hj)) (rr₃ _ _ rv) J w₁' fun s₄ es' hs₄ g₄ J₄ w₄=>?_;revert w₄; refine aan fun es hes eq w₄=>?_;rw [eq] at J₄;have hs₄':SameSh sb s₄:=hs₃.trans hs₄;have k₄:Kept sb.heap s₄.heap:=J₄.kept;have I₄:=R3 I hs₄' k₄ J₄ (by rw [hes,List.length_map]) fun j hj=>R.U j (H.us j hj);rw [setAll_ro] at w₄;have p₄:=J₄.sto L (.list true ds) (by rw [FA]; simp [St.put,Sto.put]);refine xq1_3 p₄ fun vs₄ _ o₄ r₄=>?_;have hL₄:=(o₄ rfl).1;have hC₄:∃ m,s₄.heap.Ns C m:=V3 J₄ H.ne;refine wpAny_mono (eltS (R6 R H I₄.base C) I₄ w₄) (fun x s₅ p₅=>?_) fun _ _ y=>False.elim y;refine xq2_5 p₅ fun r σ₅ g₅ I₅ rx hPr w₅=>?_;have k₅:Kept s₄.heap s₅.heap:=I₅.kept;have hs₅:SameSh sb s₅:=hs₄'.trans (J₄.same.two I₅.same);have hL₅:=plain_kept k₅ hL₄;have hl₄:vs₄.length=i:=by rw [r₄.length,hlen]
  unfold lim at hl;refine wpAny_list_append_plain hL₅ (fun h₆ hL₆ hs₆=>?_) (by rw [List.size_toArray,AC]; exact o69 hl₄ hl hlt);have g₆:Grow s₅.heap h₆:=PT hL₅ fun b o nb e=>hs₆.extBut b o nb e;refine ⟨items.length - (i+1),Ti hlt,i+1,ds ++ [r],vs₄ ++ [x],hlt,rfl,hs₅.trans ⟨h₆,_,rfl⟩,?_,?_,?_,by simpa using hL₆,((r₄.grow k₅.grow).append (.cons rx .nil)).grow g₆,fun z=>?_,by rw [List.length_append,hlen]; rfl,w₅⟩
  ·exact (k₄.trans k₅).but nL fun b o nb e=>hs₆.extBut b o nb e
  ·exact W.keep (W.keep (W.keep hat₃ g₄) k₅.grow) g₆
  ·obtain ⟨m,hn⟩:=hC₄;exact ns_at ⟨m,hn.keeps k₅⟩ fun o e=>hs₆.extBut C o hCL e
  ·rw [List.all_append,fl₁ z];show (true&&(AY r&&true))=true;rw [hP r z hPr]; rfl
 ·rw [List.drop_length] at w₁;refine W.last I₁ hat₁ rfl fun h₂ t k₂=>?_;have kd:=W.kinds hat₁;exact done _ ds vs (hs₁.trans ⟨h₂,t,rfl⟩) (GB k₁ W.fresh k₂) (ns_at hC₁ fun o e=>k₂ C o (ns_off hC₁ kd) e) (hL₁.at fun o e=>k₂ L o (Iy hL₁ kd) e) (EE (fl:=fl) (fun q r=>W.safe hat₁ k₂ q r) fl₁ r₁) w₁
end
theorem De {h h':Heap} {wr:List Addr} (own:∀ b∈wr,∃ o vs,h.get? b=some o/\o.data=.fields vs) (k:∀ b o,b∉wr->h.get? b=some o->h'.get? b=some o) {v:Value} {d:D} (r:Rep h v d):Rep h' v d :=
 Rep.nf (fun b o e nf=>k b o (fun m=>by
  refine xq2_2 (own b m) fun o' vs e1 e2=>?_;rw [e] at e1; cases e1; exact nf _ e2) e) r
theorem kinds_fields {h:Heap} {b:Addr} (x:∃ o vs,h.get? b=some o/\o.data=.fields vs):∃ o,h.get? b=some o/\noDict o/\∀ ws m,o.data=.seq ws m->o.cls≠.type "list":=by
 refine xq2_2 x fun o vs e1 e2=>?_;exact ⟨o,e1,(fun es n z=>by rw [e2] at z; cases z),(fun ws m z=>by rw [e2] at z; cases z)⟩
section
variable {c:Cx} {F:Fm} {env:Env} {V:Vw} {n:Nat} {σ:St} {xs:List (Nat×Str)} {sc:Scope}
theorem ItOK.cit {items:List D} {g:St->Prop} {it:Value} {wr:List Addr} {At:Nat->Heap->Prop} {hb:Heap} {target:Expr} (W:ItOK c F items g it wr At) (hg:g σ) (fr:∀ b∈wr,hb.get? b=none):CIt c F σ hb false items it wr At (fun i _ h=>At i h) target:=⟨(fun I hat hd hQ=>W.next I hg hat hd hQ),
 (fun I hat hi hQ=>W.last I hg hat hi hQ),
 (fun md hQ=>W.goes md fun h' hat k=>hQ h' hat k fun u d r=>De (W.own md) k r),
 (fun hat g=>W.keep hat g),
 (fun hat k _ r=>De (W.own hat) k r),
 (fun hat b hb=>kinds_fields (W.own hat b hb)),
 (fun hat b hb=>kinds_fields (W.own hat b hb)),
 fr,
 (fun hat h=>W.self hat h)⟩
theorem Kh (R:Run c F env V n) (H:CompOK V (V.comp xs sc) sc (xs.map (·.1))) {elt:(D->St->Prop)->St->Prop} {P:D->Prop} {fl:Bool} (hP:∀ r,fl=true->P r->AY r=true) {eltx itx y:Expr} {pos:Pos}
  (eltS:∀ {F':Fm} {env':Env},Run c F' env' (V.comp xs sc) n->∀ {K:D->St->Prop} {σ:St} {s:Shared},Inv c F' σ s->elt K σ->wpAny (model c.prog c.w) F'.A (eval eltx env') (Post c F' s.heap K) CH s)
  (hfold:∀ v,foldedSetIterable itx env v=pure v) {Q:D->St->Prop} {E:Value->Shared->Prop} {s:Shared} {h₀:Heap}
  (first:wpAny (model c.prog c.w) F.A (eval itx env) (fun v s₁=>wpAny (model c.prog c.w) F.A (pyIter v) (fun it s₂=>∃ items wr At Md sb σ,Grow h₀ sb.heap/\Inv c F σ sb/\SameSh sb s₂/\(∀ b o,sb.heap.get? b=some o->s₂.heap.get? b=some o)/\
   CIt c F σ sb.heap fl items it wr At Md (E0 (xs.length==1) ((xs.map (·.1)).map (V.comp xs sc).nL) y)/\At 0 s₂.heap/\EB xs elt P Q items σ) E s₁) E s) :
  wpAny (model c.prog c.w) F.A (eval (.ListComp eltx [⟨E0 (xs.length==1) ((xs.map (·.1)).map (V.comp xs sc).nL) y,itx,[],0⟩] sc pos) env) (Post c F h₀ Q) E s:=by
 rw [eval_ListComp];refine wpAny_comprehension_free (use:=none) (cl:=Ei env sc.names []) rfl hfold (MU fun p hp hf=>R.O.cells p.1 (H.free p hp hf)) H.kind H.names (wpAny_mono first (fun xv s₁ h₁=>wpAny_mono h₁ (fun it s₂ h₂=>?_) fun _ _ e=>e) fun _ _ e=>e);refine Rl h₂ fun items wr At Md sb σ g I hs kb W hat hl w=>?_;refine wpAny_newObj_type (wpAny_newFunctionEnv H.cell (by intro y hy; simp at hy) (fun h₁ hns₁ hsb₁=>?_) H.kind);dsimp only at hns₁ hsb₁ ⊢;generalize hH2:s₂.heap.push { cls:=.type "list",dict:=none,data:=.seq ([]:List Value).toArray }=H2 at hns₁ hsb₁ ⊢;have hC:H2.objs.size=s₂.heap.objs.size+1:=by rw [<- hH2,Heap.size_push]
 have hDC:s₂.heap.objs.size≠H2.objs.size:=by rw [hC]; exact Nat.ne_of_lt (Nat.lt_succ_self _)
 have old:∀ b o,s₂.heap.get? b=some o->h₁.get? b=some o:=fun b o e=>hsb₁.extBut b o (Nat.ne_of_lt (by rw [hC]; exact Nat.lt_succ_of_lt (Heap.lt_size e))) (Heap.get?_push_of_some _ (hH2 ▸ Heap.get?_push_of_some _ e));have hacc:h₁.PlainList s₂.heap.objs.size #[]:=⟨_,hsb₁.extBut _ _ hDC (Heap.get?_push_of_some _ (hH2 ▸ Heap.get?_push_size _ rfl))⟩;have fresh:∀ a,s₂.heap.objs.size<=a->sb.heap.get? a=none:=fun a ha=>by
  cases e:sb.heap.get? a with
  | none=>rfl
  | some o'=>exact absurd (Heap.lt_size (kb a o' e)) (Nat.not_lt.mpr ha)
 have nL:=fresh s₂.heap.objs.size (Nat.le_refl _);have nC:=fresh H2.objs.size (by rw [hC]; exact Nat.le_succ _);have keep:Grow s₂.heap h₁:=Ap old;have loop:∀ s₃:Shared,s₃={ s₂ with heap:=h₁,toks:=s₂.toks+([]:List (Str×Value)).length }->
   codeAny (model c.prog c.w) F.A (.compLoop (.ListComp eltx [⟨E0 (xs.length==1) ((xs.map (·.1)).map (V.comp xs sc).nL) y,itx,[],0⟩] sc pos) 0 it (.ref s₂.heap.objs.size) (compEnvC sc (Ei env sc.names []) H2.objs.size env))
    (compPost (model c.prog c.w) F.A E none (Post c F h₀ Q) (.ref s₂.heap.objs.size) H2.objs.size) s₃:=by
  rintro s₃ rfl;refine s_turns R H hP eltS I W nC nL hDC.symm hl (hs.trans ⟨h₁,_,rfl⟩) (fun b o e=>old b o (kb b o e)) (W.keep hat keep) ⟨_,hns₁⟩ hacc w fun s' ds vs hs' k' hC' hL' r' w'=>?_;obtain ⟨m,hn⟩:=hC';refine ⟨m,hn,fun h'' hs''=>?_⟩;have kk:Kept sb.heap h'':=k'.but nC fun b o nb e=>hs''.extBut b o nb e;have I':=I.after (s':={ s' with heap:=h'' }) kk (hs'.trans ⟨h'',_,rfl⟩);have grow':Grow s'.heap h'':=fun b o e st=>hs''.extBut b o (fun z=>by
   subst z;refine xq3_3 hn fun o' es ep ho hd _=>?_;rw [e] at ho; cases ho;rcases st with ⟨_,_,_,st⟩ | ⟨_,st⟩ <;> (rw [hd] at st; cases st)) e
  have hL'':h''.PlainList s₂.heap.objs.size vs.toArray:=hL'.at fun o e=>hs''.extBut _ o hDC e;refine ⟨.lst s₂.heap.objs.size,σ.put s₂.heap.objs.size (.list true ds),g.trans kk.grow,⟨I'.same,I'.base,I'.kept,I'.vars,I'.places,fun b k₁ e=>?_,dap_list I'.dap⟩,.lst _,w' _ (I.free nL)⟩
  by_cases z:b=s₂.heap.objs.size
  ·subst z;have e':some (Cell.list true ds)=some k₁:=by simpa [St.put,Sto.put] using e
   cases e';exact ⟨vs,hL''.isList,fun _=>⟨hL'',kept_none I.kept nL⟩,r'.grow grow'⟩
  ·exact I'.sto b k₁ (by simpa [St.put,Sto.put,z] using e)
 exact codeAny_compStart_list (loop _ rfl) (W.self (s:={ s₂ with heap:=h₁,toks:=s₂.toks+([]:List (Str×Value)).length }) (W.keep hat keep) (loop _ rfl))
end
noncomputable def NO (z TI TO i1 i2 l1 l2:Addr) (f0:Value) (i:Nat) (h:Heap):Prop:=IsZip h z TI TO f0/\IsPair h TI (.ref i1) (.ref i2)/\(∃ p q,IsPair h TO p q/\∀ j t,p≠.int j t)/\h.IsListIter i1 l1 i/\h.IsListIter i2 l2 i
theorem LC {h h':Heap} {P:D->Bool} (f:∀ {v:Value} {d:D},P d=true->Rep h v d->Rep h' v d) {vs:List Value} {ds:List D} (k:ds.all P=true) (r:Reps h vs ds):Reps h' vs ds:=Reps.ind (P:=fun vs ds=>ds.all P=true->Reps h' vs ds) (fun _=>.nil) (fun x _ z k=>.cons (f (and2 k).1 x) (z (and2 k).2)) r k
theorem NP {h h':Heap} {vs:List Value} {ds:List D} (k:ds.all GT=true) (r:Reps h vs ds):Reps h' vs ds:=LC (fun k x=>by
 cases x with
 | int i t=>exact .int i t
 | _=>exact (Bool.false_ne_true k).elim) k r
theorem Jj {z TI TO i1 i2 l1 l2:Addr} {f0:Value} {i:Nat} {h:Heap} (a:NO z TI TO i1 i2 l1 l2 f0 i h):∀ b∈[z,TO,i1,i2],∃ o,h.get? b=some o/\noDict o/\∀ ws m,o.data=.seq ws m->o.cls≠.type "list":=fun b hb=>by
 refine AO a fun hz _ q75_ q76_ q77_=>?_; obtain ⟨p,q,hTO,_⟩:=q75_; obtain ⟨o1,e1,_,d1⟩:=q76_; obtain ⟨o2,e2,_,d2⟩:=q77_;rcases List.mem_cons.mp hb with rfl | hb
 ·exact ⟨_,hz,(fun es n z=>by cases z),(fun ws m z=>by cases z)⟩
 rcases List.mem_cons.mp hb with rfl | hb
 ·exact ⟨_,hTO,(fun es n z=>by cases z),(fun ws m _ z=>by simp at z)⟩
 rcases List.mem_cons.mp hb with rfl | hb
 ·exact ⟨_,e1,(fun es n z=>by rw [d1] at z; cases z),(fun ws m z=>by rw [d1] at z; cases z)⟩
 rcases List.mem_cons.mp hb with rfl | hb
 ·exact ⟨_,e2,(fun es n z=>by rw [d2] at z; cases z),(fun ws m z=>by rw [d2] at z; cases z)⟩
 cases hb
theorem zAt_safe {z TI TO i1 i2 l1 l2:Addr} {f0:Value} {i:Nat} {h h':Heap} (a:NO z TI TO i1 i2 l1 l2 f0 i h) (k:∀ b o,b∉[z,TO,i1,i2]->h.get? b=some o->h'.get? b=some o) {v:Value} {d:D} (fl:AY d=true) (r:Rep h v d):Rep h' v d:=by
 cases r with
 | int i t=>exact .int i t
 | @tup A m vs ds ht rs =>
  have fl:ds.all GT=true:=fl;refine .tup (k A _ (fun hb=>?_) ht) (NP fl rs);refine AO a fun hz _ q78_ q79_ q80_=>?_; obtain ⟨p,q,hTO,hp⟩:=q78_; obtain ⟨o1,e1,c1,d1⟩:=q79_; obtain ⟨o2,e2,c2,d2⟩:=q80_;have ht':h.get? A=some _:=ht;rcases List.mem_cons.mp hb with rfl | hb
  ·rw [hz] at ht'; simp at ht'
  rcases List.mem_cons.mp hb with rfl | hb
  ·have e:IsT h A (List.toArray [p,q]) 0:=hTO;have:=F6 ht e;subst this;cases rs with
   | cons x y =>
    cases x with
    | int j t=>exact hp j t rfl
    | _=>exact Bool.false_ne_true (and2 fl).1
  rcases List.mem_cons.mp hb with rfl | hb
  ·rw [e1] at ht'; cases ht'; simp at c1
  rcases List.mem_cons.mp hb with rfl | hb
  ·rw [e2] at ht'; cases ht'; simp at c2
  cases hb
 | _=>exact (Bool.false_ne_true fl).elim
section
variable {c:Cx} {F:Fm} {n:Nat} {σ:St}
theorem GW {us vs:List D} {i:Nat} {d:D} (h:(List.zipWith (fun u v=>D.tup [u,v]) us vs)[i]?=some d):∃ u v,us[i]?=some u/\vs[i]?=some v/\d=.tup [u,v]:=by
 rw [List.getElem?_zipWith] at h;cases h1:us[i]? with
 | none=>rw [h1] at h; cases h
 | some u =>
  cases h2:vs[i]? with
  | none=>rw [h1,h2] at h; cases h
  | some v=>rw [h1,h2] at h; cases h; exact ⟨u,v,rfl,rfl,rfl⟩
theorem D8 {f:D->Bool} {us:List D} (h:us.all f=true) {i:Nat} {u:D} (e:us[i]?=some u):f u=true:=List.all_eq_true.mp h u (List.mem_of_getElem? e)
theorem R7 (hh:F.A.handled=none) {hb:Heap} {z TI TO i1 i2 a b:Addr} {o o':Bool} {us vs:List D} (D':ZipApart z TI TO i1 i2 a b) (ha:σ.sto a=some (.list o us)) (hb':σ.sto b=some (.list o' vs)) (h1:us.all DH=true) (h2:us.all AY=true) (h3:vs.all AY=true)
  (fr:∀ x∈[z,TO,i1,i2],hb.get? x=none) {ss:List Str} {y:Expr} :
  CIt c F σ hb true (List.zipWith (fun u v=>D.tup [u,v]) us vs) (.ref z) [z,TO,i1,i2] (NO z TI TO i1 i2 a b .none) (fun i v h=>∃ T,v=.ref T/\NO z TI TO i1 i2 a b (rawInt T) i h) (E0 false ss y):=⟨(fun {i s E Q d} I hat hd hQ=>by
  refine xq2_3 (GW hd) fun u v hu hv q81_=>?_; obtain rfl:=q81_;refine xq1_3 (I.sto a _ ha) fun xs hl1 _ rx=>?_;refine xq1_3 (I.sto b _ hb') fun ys hl2 _ ry=>?_;refine xq1_2 (rx.get hu) fun x ex rxu=>?_;refine xq1_2 (ry.get hv) fun w ew rwv=>?_;refine AO (id hat) fun hz hTI q82_ l1 l2=>?_; obtain ⟨p,q,hTO,hp⟩:=q82_;refine wpAny_pyNext_zip_item D' hz hTI hTO l1 l2 hl1 hl2 (by simpa using ex) (by simpa using ew) fun h' a1 a2 a3 a4 a5 a6 hk=>?_;have kk:∀ c o,c∉[z,TO,i1,i2]->s.heap.get? c=some o->h'.get? c=some o:=fun c o hc e=>hk c o (fun x=>hc (by simp [x])) (fun x=>hc (by simp [x])) (fun x=>hc (by simp [x])) (fun x=>hc (by simp [x])) e;refine hQ _ h' s.toks (.tup (n:=0) (vs:=[x,w]) a5 (.cons (zAt_safe hat kk (D8 h2 hu) rxu) (.cons (zAt_safe hat kk (D8 h3 hv) rwv) .nil))) ⟨_,rfl,a1,hk _ _ D'.TIz D'.TITO D'.TIi1 D'.TIi2 hTI,⟨x,w,a2,?_⟩,a3,a4⟩ kk;intro j t z;subst z;have:=D8 h1 hu;cases rxu;cases this),
 (fun {i s E Q} I hat hi hQ=>by
  refine xq1_3 (I.sto a _ ha) fun xs hl1 _ rx=>?_;refine xq1_3 (I.sto b _ hb') fun ys hl2 _ ry=>?_;refine AO (id hat) fun hz hTI q83_ l1 l2=>?_; obtain ⟨p,q,hTO,hp⟩:=q83_;have e1:=rx.length;have e2:=ry.length;rw [List.length_zipWith] at hi;have hend:xs.toArray[i]?=none\/ys.toArray[i]?=none:=by
   rcases Nat.le_total us.length vs.length with h | h
   ·exact .inl (by simp; exact o71 hi e1 h)
   ·exact .inr (by simp; exact o72 hi e2 h)
  exact wpAny_pyNext_zip_end hh D' hz hTI hTO l1 l2 hl1 hl2 hend fun h' hk=>hQ h' s.toks fun c o hc e=>hk c o (fun x=>hc (by simp [x])) (fun x=>hc (by simp [x])) (fun x=>hc (by simp [x])) (fun x=>hc (by simp [x])) e),
 (fun {i s E Q v} md hQ=>by
  refine xq1_6 md fun T q84_ hz hTI q85_ l1 l2=>?_; obtain rfl:=q84_; obtain ⟨p,q,hTO,hp⟩:=q85_;refine wpAny_letOwnedTupleGo_zip hz fun h' hz' hs'=>?_;refine hQ h' ⟨hz',hs'.extBut _ _ D'.TIz hTI,⟨p,q,hs'.extBut _ _ D'.TOz hTO,hp⟩,l1.extBut hs'.extBut D'.i1z,l2.extBut hs'.extBut D'.i2z⟩ (fun c o hc e=>hs'.extBut _ _ (fun x=>hc (by simp [x])) e) fun u d r=>?_;exact De (wr:=[z]) (fun x hx=>by
   obtain rfl:x=z:=by simpa using hx
   exact ⟨_,_,hz,rfl⟩) (fun c o hc e=>hs'.extBut _ _ (fun x=>hc (by simp [x])) e) r),
 (fun {i h h'} hat g=>by
  refine AO hat fun hz hTI q86_ l1 l2=>?_; obtain ⟨p,q,hTO,hp⟩:=q86_;refine ⟨g _ _ hz (.inr ⟨_,rfl⟩),g _ _ hTI (.inl ⟨_,_,rfl,rfl⟩),⟨p,q,g _ _ hTO (.inl ⟨_,_,rfl,rfl⟩),hp⟩,l1.at fun o e=>?_,l2.at fun o e=>?_⟩
  ·refine xq1_3 l1 fun o' e1 _ e3=>?_; rw [e] at e1; cases e1; exact g _ _ e (.inr ⟨_,e3⟩)
  ·refine xq1_3 l2 fun o' e1 _ e3=>?_; rw [e] at e1; cases e1; exact g _ _ e (.inr ⟨_,e3⟩)),
 (fun hat k fl r=>zAt_safe hat k (fl rfl) r),
 (fun hat=>Jj hat),
 (fun md=>by revert md; refine aam fun T _ md=>?_; exact Jj md),
 fr,
 (fun hat h=>wpAny_pyIter_zip hat.1 h)⟩
end
section
variable {c:Cx} {n:Nat}
noncomputable def Rx (c:Cx) (F:Fm) (h₀:Heap) (xs:List (Nat×Str)) (elt:(D->St->Prop)->St->Prop) (P:D->Prop) (fl:Bool) (Q:D->St->Prop) (tx:Expr):Value->Shared->Prop:=fun it s₂ =>
 ∃ items wr At Md sb σ,Grow h₀ sb.heap/\Inv c F σ sb/\SameSh sb s₂/\(∀ b o,sb.heap.get? b=some o->s₂.heap.get? b=some o)/\CIt c F σ sb.heap fl items it wr At Md tx/\At 0 s₂.heap/\EB xs elt P Q items σ
theorem Ki {F:Fm} {h₀:Heap} {xs:List (Nat×Str)} {elt:(D->St->Prop)->St->Prop} {Q:D->St->Prop} {tx:Expr} {it:Value} {s₂:Shared} (h:HJ c F h₀ (fun items g σ=>g σ/\EB xs elt (fun _=>True) Q items σ) it s₂):Rx c F h₀ xs elt (fun _=>True) false Q tx it s₂:=by
 refine aax h fun items g σ wr At sb h1 h2 h3 h4 h5 W hat hg w=>?_;exact ⟨items,wr,At,_,sb,σ,h1,h2,h3,h4,W.cit hg h5,hat,w⟩
theorem R8 {d:D} {K:List D->St->Prop} {σ:St} (h:D6 d (fun items _ σ=>K items σ) σ):D6 d (fun items g σ=>g σ/\K items σ) σ:=by
 cases d with
 | tup ds=>exact ⟨h.1,trivial,h.2⟩
 | lst a=>refine xq2_3 h fun o ds h1 h2 h3=>?_; exact ⟨o,ds,h1,h2,⟨o,h1⟩,h3⟩
 | _=>exact (show False from h).elim
theorem PU {ds:List D} {K:D->Prop} (h:DR ds K):∃ d,ds=[d]/\K d:=by
 cases ds with
 | nil=>exact (show False from h).elim
 | cons d r =>
  cases r with
  | nil=>exact ⟨d,rfl,h⟩
  | cons _ _=>exact (show False from h).elim
theorem Kj {ds:List D} {K:D->D->Prop} (h:Iq ds K):∃ d e,ds=[d,e]/\K d e:=by
 cases ds with
 | nil=>exact (show False from h).elim
 | cons d r=>obtain ⟨e,rfl,h⟩:=PU (show DR r (K d) from h); exact ⟨d,e,rfl,h⟩
theorem GX (n a b:Nat) (la:a<n) (lb:b<n):ZipApart (n+4) (n+2) (n+3) n (n+1) a b:=by
 have nn:∀ {i j:Nat},(i==j)=false->n+i≠n+j:=fun h z=>by rw [Nat.add_left_cancel z,beq_self_eq_true] at h; cases h
 have na:∀ {x i:Nat},x<n->x≠n+i:=fun h z=>Nat.not_lt.mpr (Nat.le_add_right _ _) (z ▸ h);constructor <;> first | exact nn rfl | exact nn (i:=0) rfl | exact nn (j:=0) rfl | exact na (i:=0) la | exact na (i:=0) lb | exact na la | exact na lb
theorem s_zip {F:Fm} {σ:St} {s:Shared} {E:Value->Shared->Prop} {h₀:Heap} {xs:List (Nat×Str)} {elt:(D->St->Prop)->St->Prop} {Q:D->St->Prop} {a b:Addr} {o o':Bool} {us vs:List D} {ss:List Str} {y:Expr} {one:Bool} (I:Inv c F σ s) (hh:F.A.handled=none) (g:Grow h₀ s.heap)
  (ha:σ.sto a=some (.list o us)) (hb:σ.sto b=some (.list o' vs)) (h1:us.all DH=true) (h2:us.all AY=true) (h3:vs.all AY=true) (h4:one=false) (w:EB xs elt (fun r=>AY r=true) Q (List.zipWith (fun u v=>D.tup [u,v]) us vs) σ) :
  wpAny (model c.prog c.w) F.A (call (.type "zip") [.ref a,.ref b]) (fun v s₁=>wpAny (model c.prog c.w) F.A (pyIter v) (Rx c F h₀ xs elt (fun r=>AY r=true) true Q (E0 one ss y)) E s₁) E s:=by
 subst h4;refine xq1_3 (I.sto a _ ha) fun ws hl1 _ _=>?_;refine xq1_3 (I.sto b _ hb) fun ws' hl2 _ _=>?_;have la:a<s.heap.objs.size:=by refine xq1_2 hl1 fun _ e _=>?_; exact Heap.lt_size e
 have lb:b<s.heap.objs.size:=by refine xq1_2 hl2 fun _ e _=>?_; exact Heap.lt_size e
 refine call_zip_2 hl1 hl2 fun h' z1 z2 z3 z4 z5 z6 kk=>?_;have none_at:∀ k,s.heap.get? (s.heap.objs.size+k)=none:=fun k=>by
  cases e:s.heap.get? (s.heap.objs.size+k) with
  | none=>rfl
  | some o=>exact absurd (Heap.lt_size e) (Nat.not_lt.mpr (Nat.le_add_right _ _))
 refine wpAny_pyIter_zip z1 ⟨_,_,_,_,s,σ,g,I,⟨h',s.toks,rfl⟩,kk,R7 hh (GX _ a b la lb) ha hb h1 h2 h3 (fun x hx=>?_),⟨z1,z2,⟨_,_,z3,fun j t z=>by cases z⟩,z4,z5⟩,w⟩;simp only [List.mem_cons,List.not_mem_nil,or_false] at hx;rcases hx with rfl | rfl | rfl | rfl
 ·exact none_at 4
 ·exact none_at 3
 ·exact none_at 0
 ·exact none_at 1
theorem Blt.called (f:Blt) {M:Model} {A:Around} {E:Value->Shared->Prop} {s:Shared} {Q:Value->Shared->Prop} {p:Pos} {args:List (Bool×Sem Value)} (ha:args.any (·.1)=false) (h:wpAny M A (evalArgs f.val true args []) (fun a s₁=>wpAny M A (call f.val ([] ++ a.pos) a.kw) Q E s₁) E s):wpAny M A (callWith p f.val [] args []) Q E s:=by
 cases f with
 | int=>exact PyProof.Rows.callWith_type ha h
 | list=>exact PyProof.Rows.callWith_type ha h
 | tuple=>exact PyProof.Rows.callWith_type ha h
 | _=>exact Calls.callWith_builtin ha h
theorem Kl {h:Heap} {dv:Value} {z:D} (rz:Rep h dv z) (k:Int):∀ (kvs:List (Int×Value)) (ps:List (Int×D)),kvs.map (·.1)=ps.map (·.1)->Reps h (kvs.map (·.2)) (ps.map (·.2))->Rep h ((valueAt kvs k).getD dv) (((ps.find? fun p=>decide (p.1=k)).map (·.2)).getD z)
 | [],ps,h1,h2=>by
  cases ps with
  | nil=>exact rz
  | cons p ps=>cases h1
 | x :: kvs,ps,h1,h2=>by
  cases ps with
  | nil=>cases h1
  | cons p ps =>
   have e1:x.1=p.1:=(List.cons.inj h1).1;have e2:=(List.cons.inj h1).2;cases h2 with | cons r1 r2 =>
   unfold valueAt;rw [List.find?_cons,List.find?_cons,e1]
   by_cases hk:p.1=k
   ·rw [decide_eq_true hk]; exact r1
   ·rw [decide_eq_false hk]; exact Kl rz k kvs ps e2 r2
mutual
theorem sE:∀ (e:E) (x:Expr) {V:Vw},ok e V x=true->∀ {F:Fm} {env:Env},Run c F env V n->∀ {Q:D->St->Prop} {σ:St} {s:Shared},Inv c F σ s->wE c n e Q σ->
  wpAny (model c.prog c.w) F.A (eval (like e V x) env) (Post c F s.heap Q) CH s
 | .cnone,x,V,h,F,env,R,Q,σ,s,I,w=>wpAny_pure (a:=Value.none) (post_same I .none w)
 | .cbool b,x,V,h,F,env,R,Q,σ,s,I,w=>wpAny_pure (a:=Value.bool b) (post_same I (.bool b) w)
 | .cint i,x,V,h,F,env,R,Q,σ,s,I,w=>wpAny_Constant_int (Bj I (.int i _) w)
 | .cstr y,x,V,h,F,env,R,Q,σ,s,I,w=>Calls.Constant_str (Bj I (.str y _) w)
 | .var i,x,V,h,F,env,R,Q,σ,s,I,w=>by
  refine xq1_2 w fun d e hq=>?_;exact PH I R.O (beq_iff_eq.mp (and2 h).1) e ((Bool.not_eq_true' _).mp (and2 h).2) fun v r=>post_same I r hq
 | .glob g,x,V,h,F,env,R,Q,σ,s,I,w=>by
  refine xq1_2 w fun d e hq=>?_;refine xq1_2 (R.CO.cs g d e) fun v e1 r=>?_;exact GU R.CO R.O I h e1 (post_same I (Rep.grow (Ap I.base) r) hq)
 | .bin op a b,x,V,h,F,env,R,Q,σ,s,I,w=>by
  refine wpAny_BinOp (wm (sE a (kid x 0) (and2 h).1 R I w) (fun v s₁ p₁=>?_));refine Am p₁ fun d₁ σ₁ g₁ I₁ r₁ w₁=>?_;refine wm (sE b (kid x 1) (and2 h).2 R I₁ w₁) (fun u s₂ p₂=>?_);refine Am p₂ fun d₂ σ₂ g₂ I₂ r₂ w₂=>?_;exact wm (aaB I₂ R.FO R.CO (r₁.grow g₂) r₂ w₂) (fun _ _ y=>y.grow (g₁.trans g₂))
 | .neg a,x,V,h,F,env,R,Q,σ,s,I,w=>by
  show wpAny _ _ (eval (.UnaryOp .USub (like a V (kid x 0)) x.pos) env) _ _ s;rw [arm_eval_UnaryOp];refine wpAny_bind (wm (sE a (kid x 0) h R I w) (fun v s₁ p₁=>?_));refine Am p₁ fun d₁ σ₁ g₁ I₁ r₁ w₁=>?_;refine wpAny_bind (wpAny_standAt (wpAny_holding ?_));cases r₁ with
  | int i t=>exact P.neg_int (Post.grow g₁ (Bj I₁ (.int _ _) w₁))
  | _=>exact (show False from w₁).elim
 | .not a,x,V,h,F,env,R,Q,σ,s,I,w=>by
  show wpAny _ _ (eval (.UnaryOp .Not (like a V (kid x 0)) x.pos) env) _ _ s;rw [arm_eval_UnaryOp];refine wpAny_bind (wm (sE a (kid x 0) h R I w) (fun v s₁ p₁=>?_));refine Am p₁ fun d₁ σ₁ g₁ I₁ r₁ w₁=>?_;refine wpAny_bind (wpAny_standAt (wpAny_holding ?_));unfold unaryOp;refine wpAny_holding ?_;show wpAny _ _ (do let b <- truthy v; pure (Value.bool !b)) _ _ s₁
  refine wpAny_bind (wm (s_truth I₁ r₁ w₁) (fun b s₂ p₂=>?_));refine xq1_3 p₂ fun σ₂ g₂ I₂ w₂=>?_;exact wpAny_pure (Post.grow (g₁.trans g₂) (post_same I₂ (.bool _) w₂))
 | .cmp op a b,x,V,h,F,env,R,Q,σ,s,I,w=>by
  refine wpAny_Compare1 (wm (sE a (kid x 0) (and2 h).1 R I w) (fun v s₁ p₁=>?_)) (like_noSet b V (kid x 1) op);refine Am p₁ fun d₁ σ₁ g₁ I₁ r₁ w₁=>?_;refine wm (sE b (kid x 1) (and2 h).2 R I₁ w₁) (fun u s₂ p₂=>?_);refine Am p₂ fun d₂ σ₂ g₂ I₂ r₂ w₂=>?_;exact wm (Rs I₂ R.FO (r₁.grow g₂) r₂ w₂) (fun _ _ y=>y.grow (g₁.trans g₂))
 | .bool op es,x,V,h,F,env,R,Q,σ,s,I,w=>by
  show wpAny _ _ (eval (.BoolOp op (AG es V (AL x)) x.pos) env) _ _ s;rw [arm_eval_BoolOp];exact sB op x.pos es (AL x) h R I w
 | .call f es,x,V,h,F,env,R,Q,σ,s,I,w=>by
  obtain ⟨⟨a,o,fd,e1,e2,e3⟩,w⟩:=w;show wpAny _ _ (eval (.Call (.Name f (kid x 0).pos) (AG es V (AL x).tail) [] x.pos) env) _ _ s;rw [Bb];refine wpAny_bind (GU R.CO R.O I (and2 h).1 e1 ?_);have:=sEs x.pos es (AL x).tail (and2 h).2 R I w;rw [BI] at this ⊢;refine Calls.callWith_function (o:=o) (fd:=fd) ?_;refine B5 (Bp _ env) ?_;refine wm this (fun vs s₁ p₁=>?_);refine Am p₁ fun ds σ₁ g₁ I₁ r₁ q88_=>xq3_4 q88_ fun a' o' fd' f1 f2 f3 hC=>?_;rw [f1] at e1; cases e1;rw [f2] at e2; cases e2;rw [f3] at e3; cases e3;exact ⟨⟨I₁.base _ _ f2,f3⟩,wm (V2 I₁ R.FO r₁ hC) (fun _ _ y=>y.grow g₁)⟩
 | .blt f es,x,V,h,F,env,R,Q,σ,s,I,w=>by
  show wpAny _ _ (eval (.Call (.Name (Str.ofString f.name) (kid x 0).pos) (AG es V (AL x).tail) [] x.pos) env) _ _ s;rw [Bb];refine wpAny_bind (AX R.CO R.O I (and2 h).1 (R.CO.free f.name (by cases f <;> decide)) f.boot ?_)
  have:=sEs x.pos es (AL x).tail (and2 h).2 R I w;rw [BI] at this ⊢;have fin:wpAny (model c.prog c.w) F.A (evalArgs f.val true ((AG es V (AL x).tail).map fun x=>(false,eval x env)) []) (fun a s₁=>wpAny (model c.prog c.w) F.A (call f.val ([] ++ a.pos) a.kw) (Post c F s.heap Q) CH s₁) CH s:=by
   refine B5 (Bp _ env) ?_;refine wm this (fun vs s₁ p₁=>?_);refine Am p₁ fun ds σ₁ g₁ I₁ r₁ w₁=>?_;exact wm (aaE I₁ R.FO r₁ w₁) (fun _ _ y=>y.grow g₁)
  exact f.called (Bp _ env) fin
 | .isa a t,x,V,h,F,env,R,Q,σ,s,I,w=>by
  show wpAny _ _ (eval (.Call (.Name PM (kid x 0).pos) [like a V (kid x 1),.Name t.name (kid x 2).pos] [] x.pos) env) _ _ s;rw [Bb];refine wpAny_bind (AX R.CO R.O I (and2 (and2 h).1).1 (R.CO.free "isinstance" (by decide)) PyProof.Rows.Boot.«isinstance» ?_);have e:backTo x.pos (starEach [like a V (kid x 1),.Name t.name (kid x 2).pos] env)=[(false,eval (like a V (kid x 1)) env),(false,eval (.Name t.name (kid x 2).pos) env)]:=by rw [Du]; rfl
  rw [e];refine Calls.callWith_builtin rfl (Calls.evalArgs_plain (Calls.spliced_cons (wm (sE a (kid x 1) (and2 (and2 h).1).2 R I w) (fun v s₁ p₁=>?_))));refine Am p₁ fun d₁ σ₁ g₁ I₁ r₁ w₁=>?_;refine Calls.spliced_cons (Ty.load R.CO R.O I₁ (and2 h).2 (Calls.spliced_nil ?_));exact wm (aaF I₁ r₁ w₁) (fun _ _ y=>y.grow g₁)
 | .idx a i,x,V,h,F,env,R,Q,σ,s,I,w=>by
  refine PyProof.Rows.Subscript_ (wm (sE a (kid x 0) (and2 h).1 R I w) (fun o s₁ p₁=>?_));refine Am p₁ fun d₁ σ₁ g₁ I₁ r₁ w₁=>?_;refine wm (sE i (kid x 1) (and2 h).2 R I₁ w₁) (fun u s₂ p₂=>?_);refine Am p₂ fun d₂ σ₂ g₂ I₂ r₂ w₂=>?_;exact wm (s_idx I₂ (r₁.grow g₂) r₂ w₂ (like_notSlice i V (kid x 1))) (fun _ _ y=>y.grow (g₁.trans g₂))
 | .slice a lo hi,x,V,h,F,env,R,Q,σ,s,I,w=>by
  refine PyProof.Rows.Subscript_ (wm (sE a (kid x 0) (and2 (and2 h).1).1 R I w) (fun o s₁ p₁=>?_));refine Am p₁ fun d₁ σ₁ g₁ I₁ r₁ w₁=>?_;rw [arm_eval_Slice];refine wpAny_bind (wm (sO lo _ (and2 (and2 h).1).2 R I₁ w₁) (fun vl s₂ p₂=>?_));refine Am p₂ fun d₂ σ₂ g₂ I₂ r₂ w₂=>?_;refine wpAny_bind (wpAny_holding (wm (sO hi _ (and2 h).2 R I₂ w₂) (fun vu s₃ p₃=>?_)));refine Am p₃ fun d₃ σ₃ g₃ I₃ r₃ w₃=>?_;refine wpAny_bind (wpAny_holding (wpAny_pure ?_));refine wpAny_newObj_type ?_ (by show _<=_; simp [AC]);exact wm (R1 I₃ ((r₁.grow g₂).grow g₃) (r₂.grow g₃) r₃ w₃ fun o i=>rfl) (fun _ _ y=>y.grow ((g₁.trans g₂).trans g₃))
 | .tup es,x,V,h,F,env,R,Q,σ,s,I,w=>by
  refine PyProof.Rows.Tuple_ (wm (sEs x.pos es (AL x) h R I w) (fun vs s₁ p₁=>?_));refine xq2_5 p₁ fun ds σ₁ g₁ I₁ r₁ hl w₁=>?_;refine wpAny_newObj_type (Post.grow g₁ (Dd (t:=s₁.toks) I₁ r₁ w₁)) ?_;show vs.toArray.size<=sizeLine;rw [List.size_toArray,r₁.length,AC]; unfold lim at hl; exact Tg hl
 | .lst es,x,V,h,F,env,R,Q,σ,s,I,w=>by
  refine PyProof.Rows.List_ (wm (sEs x.pos es (AL x) h R I w) (fun vs s₁ p₁=>?_));refine xq2_5 p₁ fun ds σ₁ g₁ I₁ r₁ hl w₁=>?_;refine wpAny_newObj_type (Post.grow g₁ (C0 (t:=s₁.toks) I₁ (AE _) (push_keeps _ _) ⟨0,Heap.get?_push_size _ rfl⟩ r₁ w₁)) ?_;show vs.toArray.size<=sizeLine;rw [List.size_toArray,r₁.length,AC]; unfold lim at hl; exact Tg hl
 | .dict0,x,V,h,F,env,R,Q,σ,s,I,w=>wpAny_Dict_empty (NI (t:=s.toks) I w)
 | .getd o k d,x,V,h,F,env,R,Q,σ,s,I,w=>by
  obtain ⟨h,h4⟩:=and2 h;obtain ⟨h,h3⟩:=and2 h;obtain ⟨h1,h2⟩:=and2 h;have hst:backTo x.pos (starEach [like k V (kid x 1),like d V (kid x 2)] env)=[(false,eval (like k V (kid x 1)) env),(false,eval (like d V (kid x 2)) env)]:=by rw [Du,Du]; rfl
  refine wpAny_Call_method2_late (var_base h4 V _ env) (beq_self_eq_true _) hst ?_;refine wm (sE o _ h1 R I w) (fun ov s₁ p₁=>?_);refine xq2_5 p₁ fun d₁ σ₁ g₁ I₁ r₁ q89_ w₁=>?_; obtain ⟨l,ps,rfl,hl⟩:=q89_;cases r₁;refine xq0_2 (I₁.sto l _ hl) fun _ q90_=>xq1_3 q90_ fun kvs hm _ _=>?_;have hm₁:=hm c.prog c.w;refine ⟨"dict","dict.get",PySem.F.plainAttrs_dict,PySem.F.slot_dict_get,PySem.F.type_dict_get,hm₁.typeIs,hm₁.mapOf.noDict,wpAny_dict_get2 (knd:=intKind c.prog c.w) (Ke I₁ R.FO R.CO hl) ?_⟩;refine wm (sE k _ h2 R I₁ w₁) (fun kv s₂ p₂=>?_);refine Am p₂ fun d₂ σ₂ g₂ I₂ r₂ w₂=>?_;refine wm (sE d _ h3 R I₂ w₂) (fun dv s₃ p₃=>?_);refine Am p₃ fun d₃ σ₃ g₃ I₃ r₃ q92_=>xq3_4 q92_ fun l' ps' k' e hl₃ q91_ hQ=>?_; obtain rfl:=q91_;cases e;cases r₂ with | int _ t =>
  refine xq0_2 (I₃.sto l _ hl₃) fun _ q93_=>xq1_3 q93_ fun kvs' hm' hk1 hk2=>?_;refine ⟨k',_,intKind_is _ _ k' t,(hm' c.prog c.w).mapOf,?_⟩;exact Post.grow ((g₁.trans g₂).trans g₃) (Bj I₃ (Kl r₃ k' kvs' ps' hk1 hk2) hQ)
 | .maxd o,x,V,h,F,env,R,Q,σ,s,I,w=>by
  show wpAny _ _ (eval (.Call (.Name PN (kid x 0).pos) [like o V (kid x 1)] [] x.pos) env) _ _ s;rw [Bb];refine wpAny_bind (AX R.CO R.O I (and2 h).1 (R.CO.free "max" (by decide)) PyProof.Rows.Boot.«max» ?_);have hst:backTo x.pos (starEach [like o V (kid x 1)] env)=[(false,eval (like o V (kid x 1)) env)]:=by rw [Du]; rfl
  rw [hst];refine Calls.callWith_builtin rfl (Calls.evalArgs_plain (Calls.spliced_cons (wm (sE o (kid x 1) (and2 h).2 R I w) (fun v s₁ p₁=>?_))));refine Am p₁ fun d₁ σ₁ g₁ I₁ r₁ q95_=>aau q95_ fun l ps k₀ r q94_ hl hlt w₁=>?_; obtain rfl:=q94_;cases r₁;exact Calls.spliced_nil (wm (s_maxd I₁ R.FO R.CO hl hlt w₁) (fun _ _ y=>y.grow g₁))
 | .append o a,x,V,h,F,env,R,Q,σ,s,I,w=>by
  have hst:backTo x.pos (starEach [like a V (kid x 1)] env)=[(false,eval (like a V (kid x 1)) env)]:=by rw [Du]; rfl
  refine wpAny_Call_append (var_base (and2 h).2 V _ env) (by rw [hst]; rfl) (beq_self_eq_true _) hst ?_;refine wm (sE o _ (and2 (and2 h).1).1 R I w) (fun ov s₁ p₁=>?_);refine xq2_5 p₁ fun d₁ σ₁ g₁ I₁ r₁ q96_ w₁=>?_; obtain ⟨l,ds,rfl,hl⟩:=q96_;cases r₁;refine xq1_3 (I₁.sto _ _ hl) fun vs _ hp _=>?_;obtain ⟨m,ho⟩:=(hp rfl).1;refine ⟨l,vs.toArray,rfl,⟨_,m,ho,rfl,rfl,rfl⟩,?_⟩;refine wm (sE a _ (and2 (and2 h).1).2 R I₁ w₁) (fun u s₂ p₂=>?_);refine Am p₂ fun d₂ σ₂ g₂ I₂ r₂ w₂=>?_;exact wm (PL I₂ R.FO r₂ w₂) (fun _ _ y=>y.grow (g₁.trans g₂))
 | .comp elt xs k es,x,V,h,F,env,R,Q,σ,s,I,w=>by
  obtain ⟨h,h4⟩:=and2 h;obtain ⟨h,h3⟩:=and2 h;obtain ⟨h1,h2⟩:=and2 h;have H:=NN h2;have el:∀ {F':Fm} {env':Env},Run c F' env' (V.comp xs (F7 x)) n->∀ {K:D->St->Prop} {σ:St} {s:Shared},Inv c F' σ s->wE c n elt K σ->wpAny (model c.prog c.w) F'.A (eval (like elt (V.comp xs (F7 x)) (kid x 0)) env') (Post c F' s.heap K) CH s:=fun {F' env'} R' {K σ s} I' w'=>sE elt (kid x 0) h1 R' I' w';cases k with
  | plain =>
   cases es with
   | nil=>exact (Bool.false_ne_true h3).elim
   | cons e es =>
   cases es with
   | cons _ _=>exact (Bool.false_ne_true h3).elim
   | nil =>
    refine Kh (P:=fun _=>True) (fl:=false) R H (fun _ z=>by cases z) el (like_folded e V _ env) (wm (sE e (kid x 2) (and2 h4).1 R I w) (fun v s₁ p₁=>?_));refine Am p₁ fun d σ₁ g₁ I₁ r₁ w₁=>?_;exact wm (LB I₁ (R.FO.handled) g₁ r₁ (R8 w₁)) (fun _ _ y=>Ki y)
  | range =>
   refine Kh (P:=fun _=>True) (fl:=false) R H (fun _ z=>by cases z) el (fun _=>rfl) ?_;show wpAny _ _ (eval (.Call (.Name HF (kid (kid x 2) 0).pos) (AG es V (AL (kid x 2)).tail) [] (kid x 2).pos) env) _ _ s;rw [Bb];refine wpAny_bind (AX R.CO R.O I h3 (R.CO.free "range" (by decide)) PyProof.Rows.Boot.«range» ?_);have:=sEs (kid x 2).pos es (AL (kid x 2)).tail h4 R I w;rw [BI] at this ⊢;refine PyProof.Rows.callWith_type (Bp _ env) (B5 (Bp _ env) (wm this (fun vs s₁ p₁=>?_)));refine xq2_5 p₁ fun ds σ₁ g₁ I₁ r₁ hs q97_=>xq1_2 q97_ fun items hi hK=>?_;exact wm (LA (Kc:=fun items g σ=>g σ/\EB xs (fun K σ₂=>wE c n elt K σ₂) (fun _=>True) Q items σ) I₁ R.FO R.CO g₁ r₁ hs hi ⟨trivial,hK⟩) (fun _ _ y=>wm y (fun _ _ y=>Ki y))
  | zip =>
   refine Kh (P:=fun r=>AY r=true) (fl:=true) R H (fun _ _ z=>z) el (fun _=>rfl) ?_;show wpAny _ _ (eval (.Call (.Name MN (kid (kid x 2) 0).pos) (AG es V (AL (kid x 2)).tail) [] (kid x 2).pos) env) _ _ s;rw [Bb];refine wpAny_bind (AX R.CO R.O I h3 (R.CO.free "zip" (by decide)) PyProof.Rows.Boot.«zip» ?_);have:=sEs (kid x 2).pos es (AL (kid x 2)).tail h4 R I w;rw [BI] at this ⊢;refine PyProof.Rows.callWith_type (Bp _ env) (B5 (Bp _ env) (wm this (fun vs s₁ p₁=>?_)));refine Am p₁ fun ds σ₁ g₁ I₁ r₁ w₁=>?_;obtain ⟨d,e,rfl,a,b,o,us,o',ws,rfl,rfl,ha,hb,k1,k2,k3,k4,w₁⟩:=Kj w₁;refine xq2_3 (JG r₁) fun v₁ v₂ q102_ rv₁ rv₂=>?_; obtain rfl:=q102_;cases rv₁;cases rv₂;exact s_zip I₁ (R.FO.handled) g₁ ha hb k1 k2 k3 k4 w₁
theorem sEs (pos:Pos):∀ (es:List E) (xs:List Expr) {V:Vw},E4 es V xs=true->∀ {F:Fm} {env:Env},Run c F env V n->∀ {Q:List D->St->Prop} {σ:St} {s:Shared},Inv c F σ s->Cs c n es Q σ->
  wpAny (model c.prog c.w) F.A (spliced (backTo pos (starEach (AG es V xs) env))) (aaG c F s.heap Q) CH s
 | [],xs,V,h,F,env,R,Q,σ,s,I,w=>Calls.spliced_nil ⟨[],σ,Grow.refl _,I,.nil,w⟩
 | e :: es,xs,V,h,F,env,R,Q,σ,s,I,w=>by
  show wpAny _ _ (spliced (backTo pos (starEach (like e V (xs.headD default) :: AG es V xs.tail) env))) _ _ s;rw [Du];show wpAny _ _ (spliced ((false,eval (like e V (xs.headD default)) env) :: backTo pos (starEach (AG es V xs.tail) env))) _ _ s;refine Calls.spliced_cons (wm (sE e _ (and2 h).1 R I w) (fun v s₁ p₁=>?_));refine Am p₁ fun d₁ σ₁ g₁ I₁ r₁ w₁=>?_;refine wm (sEs pos es xs.tail (and2 h).2 R I₁ w₁) (fun vs s₂ p₂=>?_);refine Am p₂ fun ds σ₂ g₂ I₂ r₂ w₂=>?_;exact ⟨d₁ :: ds,σ₂,g₁.trans g₂,I₂,.cons (r₁.grow g₂) r₂,w₂⟩
theorem sO:∀ (e:Option E) (x:Expr) {V:Vw},V1 e V x=true->∀ {F:Fm} {env:Env},Run c F env V n->∀ {Q:D->St->Prop} {σ:St} {s:Shared},Inv c F σ s->wO c n e Q σ->
  wpAny (model c.prog c.w) F.A (valueOrNone (evalOpt (MO e V x) env)) (Post c F s.heap Q) CH s
 | none,x,V,h,F,env,R,Q,σ,s,I,w=>wpAny_pure (a:=Value.none) (post_same I .none w)
 | some e,x,V,h,F,env,R,Q,σ,s,I,w=>sE e x h R I w
theorem sB (op:BoolOp) (pos:Pos):∀ (es:List E) (xs:List Expr) {V:Vw},E4 es V xs=true->∀ {F:Fm} {env:Env},Run c F env V n->∀ {Q:D->St->Prop} {σ:St} {s:Shared},Inv c F σ s->wB c n op es Q σ->
  wpAny (model c.prog c.w) F.A (boolOp pos op (evalEach (AG es V xs) env)) (Post c F s.heap Q) CH s
 | [],xs,V,h,F,env,R,Q,σ,s,I,w=>(show False from w).elim
 | [e],xs,V,h,F,env,R,Q,σ,s,I,w=>sE e _ (and2 h).1 R I w
 | e :: e' :: es,xs,V,h,F,env,R,Q,σ,s,I,w=>by
  show wpAny _ _ (do
   let v <- eval (like e V (xs.headD default)) env
   standAt pos
   let t <- holding [v] (truthy v)
   match op,t with
   | .And,false | .Or,true=>pure v
   | _,_=>boolOp pos op (evalEach (AG (e' :: es) V xs.tail) env)) _ _ s
  refine wpAny_bind (wm (sE e _ (and2 h).1 R I w) (fun v s₁ p₁=>?_));refine Am p₁ fun d₁ σ₁ g₁ I₁ r₁ w₁=>?_;refine wpAny_bind (wpAny_standAt (wpAny_bind (wpAny_holding (wm (s_truth I₁ r₁ w₁) (fun b s₂ p₂=>?_)))));refine xq1_3 p₂ fun σ₂ g₂ I₂ w₂=>?_;have go:(b=(op==.Or))\/¬ (b=(op==.Or)):=Decidable.em _;rcases go with z | z
  ·rw [if_pos z] at w₂;have:Post c F s.heap Q v s₂:=⟨d₁,σ₂,g₁.trans g₂,I₂,r₁.grow g₂,w₂⟩;cases op <;> cases b <;> first | (simp at z; done) | exact wpAny_pure this
  ·rw [if_neg z] at w₂;have:wpAny (model c.prog c.w) F.A (boolOp pos op (evalEach (AG (e' :: es) V xs.tail) env)) (Post c F s.heap Q) CH s₂ :=
    wm (sB op pos (e' :: es) xs.tail (and2 h).2 R I₂ w₂) (fun _ _ y=>y.grow (g₁.trans g₂))
   cases op <;> cases b <;> first | (simp at z; done) | exact this
end
end
noncomputable def PostB (c:Cx) (F:Fm) (h₀:Heap) (Q:Bool->St->Prop):Bool->Shared->Prop:=fun b s'=>∃ σ',Grow h₀ s'.heap/\Inv c F σ' s'/\Q b σ'
theorem PostB.grow {c:Cx} {F:Fm} {h₀ h₁:Heap} {Q:Bool->St->Prop} {b:Bool} {s':Shared} (g:Grow h₀ h₁) (x:PostB c F h₁ Q b s'):PostB c F h₀ Q b s':=by
 refine xq1_2 x fun σ' h1 r=>?_;exact ⟨σ',g.trans h1,r⟩
noncomputable def NQ:Expr->Bool
 | .UnaryOp .Not _ _=>false
 | .BoolOp ..=>false
 | .IfExp ..=>false
 | .Compare ..=>false
 | _=>true
theorem Jy (x:Expr) (env:Env) (whole:Sem Value) (h:NQ x=true):isTrue x env whole=(do let v <- whole; standAt x.pos; holding [v] (truthy v)):=by
 cases x <;> first | rfl | exact (Bool.false_ne_true h).elim | skip
 rename_i op y p;cases op <;> first | rfl | exact (Bool.false_ne_true h).elim
section
variable {c:Cx} {F:Fm} {env:Env} {n:Nat}
theorem AJ {V:Vw} (R:Run c F env V n) (e:E) (x:Expr) (h:ok e V x=true) (hp:NQ (like e V x)=true) {Q:Bool->St->Prop} {σ:St} {s:Shared} (I:Inv c F σ s) (w:wE c n e (fun d σ₁=>CK d Q σ₁) σ) :
  wpAny (model c.prog c.w) F.A (isTrue (like e V x) env (eval (like e V x) env)) (PostB c F s.heap Q) CH s:=by
 rw [Jy _ env _ hp];refine wpAny_bind (wm (sE e x h R I w) (fun v s₁ p₁=>?_));refine Am p₁ fun d₁ σ₁ g₁ I₁ r₁ w₁=>?_;refine wpAny_bind (wpAny_standAt (wpAny_holding (wm (s_truth I₁ r₁ w₁) (fun b s₂ p₂=>?_))));refine xq1_3 p₂ fun σ₂ g₂ I₂ w₂=>?_;exact ⟨σ₂,g₁.trans g₂,I₂,w₂⟩
theorem V4 {V:Vw} (R:Run c F env V n) {op:CmpOp} {a b:E} {x:Expr} (h:ok (.cmp op a b) V x=true) {Q:Bool->St->Prop} {σ:St} {s:Shared} (I:Inv c F σ s) (w:wE c n a (fun x σ₁=>wE c n b (fun y σ₂=>CR op x y (fun d σ₁=>CK d Q σ₁) σ₂) σ₁) σ) :
  wpAny (model c.prog c.w) F.A (isTrue (like (.cmp op a b) V x) env (eval (like (.cmp op a b) V x) env)) (PostB c F s.heap Q) CH s:=by
 refine wpAny_isTrue_Compare1 (wm (sE a (kid x 0) (and2 h).1 R I w) (fun v s₁ p₁=>?_)) (like_noSet b V (kid x 1) op);refine Am p₁ fun d₁ σ₁ g₁ I₁ r₁ w₁=>?_;refine wm (sE b (kid x 1) (and2 h).2 R I₁ w₁) (fun u s₂ p₂=>?_);refine Am p₂ fun d₂ σ₂ g₂ I₂ r₂ w₂=>?_;refine wm (Rs I₂ R.FO (r₁.grow g₂) r₂ w₂) (fun t s₃ p₃=>?_);refine Am p₃ fun d₃ σ₃ g₃ I₃ r₃ w₃=>?_;refine wm (s_truth I₃ r₃ w₃) (fun b s₄ p₄=>?_);refine xq1_3 p₄ fun σ₄ g₄ I₄ w₄=>?_;exact ⟨σ₄,((g₁.trans g₂).trans g₃).trans g₄,I₄,w₄⟩
mutual
theorem sT {V:Vw} (R:Run c F env V n):∀ (e:E) (x:Expr),ok e V x=true->∀ {Q:Bool->St->Prop} {σ:St} {s:Shared},Inv c F σ s->wT c n e Q σ->
  wpAny (model c.prog c.w) F.A (isTrue (like e V x) env (eval (like e V x) env)) (PostB c F s.heap Q) CH s
 | .not a,x,h,Q,σ,s,I,w=>by
  show wpAny _ _ (isTrue (.UnaryOp .Not (like a V (kid x 0)) x.pos) env (eval (.UnaryOp .Not (like a V (kid x 0)) x.pos) env)) _ _ s;rw [arm_isTrue_UnaryOp];exact wpAny_bind (wm (sT R a (kid x 0) h I w) (fun b s₁ p₁=>wpAny_pure p₁))
 | .bool op es,x,h,Q,σ,s,I,w=>by
  show wpAny _ _ (isTrue (.BoolOp op (AG es V (AL x)) x.pos) env (eval (.BoolOp op (AG es V (AL x)) x.pos) env)) _ _ s;rw [arm_isTrue_BoolOp];exact sTs R op es (AL x) h I w
 | .cmp op a b,x,h,Q,σ,s,I,w=>V4 R h I w
 | .cnone,x,h,Q,σ,s,I,w=>AJ R (.cnone) x h rfl I w
 | .cbool b,x,h,Q,σ,s,I,w=>AJ R (.cbool b) x h rfl I w
 | .cint i,x,h,Q,σ,s,I,w=>AJ R (.cint i) x h rfl I w
 | .cstr y,x,h,Q,σ,s,I,w=>AJ R (.cstr y) x h rfl I w
 | .var i,x,h,Q,σ,s,I,w=>AJ R (.var i) x h rfl I w
 | .glob g,x,h,Q,σ,s,I,w=>AJ R (.glob g) x h rfl I w
 | .bin op a b,x,h,Q,σ,s,I,w=>AJ R (.bin op a b) x h rfl I w
 | .neg a,x,h,Q,σ,s,I,w=>AJ R (.neg a) x h rfl I w
 | .call f es,x,h,Q,σ,s,I,w=>AJ R (.call f es) x h rfl I w
 | .blt f es,x,h,Q,σ,s,I,w=>AJ R (.blt f es) x h rfl I w
 | .isa a t,x,h,Q,σ,s,I,w=>AJ R (.isa a t) x h rfl I w
 | .idx a i,x,h,Q,σ,s,I,w=>AJ R (.idx a i) x h rfl I w
 | .slice a lo hi,x,h,Q,σ,s,I,w=>AJ R (.slice a lo hi) x h rfl I w
 | .tup es,x,h,Q,σ,s,I,w=>AJ R (.tup es) x h rfl I w
 | .lst es,x,h,Q,σ,s,I,w=>AJ R (.lst es) x h rfl I w
 | .append o a,x,h,Q,σ,s,I,w=>AJ R (.append o a) x h rfl I w
 | .dict0,x,h,Q,σ,s,I,w=>AJ R .dict0 x h rfl I w
 | .getd o k d,x,h,Q,σ,s,I,w=>AJ R (.getd o k d) x h rfl I w
 | .maxd o,x,h,Q,σ,s,I,w=>AJ R (.maxd o) x h rfl I w
 | .comp elt xs k es,x,h,Q,σ,s,I,w=>AJ R (.comp elt xs k es) x h rfl I w
theorem sTs {V:Vw} (R:Run c F env V n) (op:BoolOp):∀ (es:List E) (xs:List Expr),E4 es V xs=true->∀ {Q:Bool->St->Prop} {σ:St} {s:Shared},Inv c F σ s->J7 c n op es Q σ->
  wpAny (model c.prog c.w) F.A (allTrue op (AG es V xs) env) (PostB c F s.heap Q) CH s
 | [],xs,h,Q,σ,s,I,w=>wpAny_pure ⟨σ,Grow.refl _,I,w⟩
 | e :: es,xs,h,Q,σ,s,I,w=>by
  show wpAny _ _ (allTrue op (like e V (xs.headD default) :: AG es V xs.tail) env) _ _ s;rw [arm_allTrue_cons];refine wpAny_bind (wm (sT R e _ (and2 h).1 I w) (fun b s₁ p₁=>?_));obtain ⟨σ₁,g₁,I₁,w₁⟩:=p₁
  by_cases z:b=(op==.Or)
  ·rw [if_pos z] at w₁;have:PostB c F s.heap Q b s₁:=⟨σ₁,g₁,I₁,w₁⟩;cases op <;> cases b <;> first | (simp at z; done) | exact wpAny_pure this
  ·rw [if_neg z] at w₁;have:wpAny (model c.prog c.w) F.A (allTrue op (AG es V xs.tail) env) (PostB c F s.heap Q) CH s₁:=wm (sTs R op es xs.tail (and2 h).2 I₁ w₁) (fun _ _ y=>y.grow g₁);cases op <;> cases b <;> first | (simp at z; done) | exact this
end
theorem s_stores {K:Str->Option NameKind} {ns:Nat->Option Str} (FO:FmOK c n F) (Wr:FmW F) (O:EnvOK F env K ns) {E:Value->Shared->Prop}:∀ (xs:List Nat) (ys:List Str) (ds:List D) (vs:List Value) (σ:St) (s:Shared) (Q:Unit->Shared->Prop),xs.length=ds.length->(∀ p∈xs.zip ys,ns p.1=some p.2)->xs.length=ys.length->Reps s.heap vs ds->Inv c F σ s->
  (∀ s',SameSh s s'->Grow s.heap s'.heap->Inv c F (Aw σ xs ds) s'->Q () s')->wpAny (model c.prog c.w) F.A (assignInOrder (ys.map fun y=>bindName env y) vs) Q E s
 | [],ys,ds,vs,σ,s,Q,hl,hn,hy,r,I,h=>by
  cases ys with
  | cons=>simp at hy
  | nil=>exact wpAny_pure (h s (SameSh.refl s) (Grow.refl _) I)
 | x :: xs,ys,ds,vs,σ,s,Q,hl,hn,hy,r,I,h=>by
  cases ys with
  | nil=>simp at hy
  | cons y ys =>
   cases r with
   | nil=>simp at hl
   | cons rv rs =>
    rename_i v vs d ds;show wpAny _ _ (do holding vs (bindName env y v); assignInOrder (ys.map fun y=>bindName env y) vs) _ _ s
    refine wpAny_bind (wpAny_holding (wpAny_bindName (EC I FO Wr O (hn (x,y) (by simp)) rv fun s₁ hs₁ g₁ I₁=>?_)));exact s_stores FO Wr O xs ys ds vs (σ.set x d) s₁ Q (by simpa using hl) (fun p hp=>hn p (by simp [hp])) (by simpa using hy) (rs.grow g₁) I₁ fun s₂ hs₂ g₂ I₂=>h s₂ (hs₁.trans hs₂) (g₁.trans g₂) I₂
end
noncomputable def C1:List Expr->List Str
 | .Name y _ :: xs=>y :: C1 xs
 | _=>[]
noncomputable def Jk:Expr->Bool
 | .Starred ..=>true
 | _=>false
noncomputable def Jl (K:Str->Option NameKind) (ts:List Expr):List Str :=
 ts.filterMap fun
  | .Name id pos=>if K id==some .local&&pos.line==(ts.head?.map (·.pos.line)).getD 0 then some id else none
  | _=>none
noncomputable def Km (K:Str->Option NameKind) (ts vs:List Expr):Bool :=
 (ts.length==2 || ts.length==3)&&vs.length==ts.length&&!(vs.any Jk)&&Jl K ts==C1 ts&&(C1 ts).length==ts.length&&(C1 ts).eraseDups.length==ts.length&&!(vs.all (foldedForSure 8))&&!(vs.all (constantsAlone 8))
noncomputable def HL:List Nat->Bool
 | []=>true
 | x :: xs=>!(xs.contains x)&&HL xs
theorem F8:∀ (ss:List Str) (ys:List Expr),C1 (B4 ss ys)=ss
 | [],_=>rfl
 | s :: ss,ys=>congrArg (s :: ·) (F8 ss ys.tail)
noncomputable def sxs (s:Stmt):List Expr:=match s with
 | .Expr x _=>[x]
 | .Assign ts x _=>x :: ts
 | .If x _ _ _=>[x]
 | .While x _ _ _=>[x]
 | .For t x _ _ _=>[x,t]
 | .Return x _=>[x.getD default]
 | .Raise x _ _=>[x.getD default]
 | _=>[]
noncomputable def sx (s:Stmt) (i:Nat):Expr:=(sxs s).getD i default
noncomputable def GC (s:Stmt):List Stmt:=match s with
 | .If _ b _ _=>b
 | .While _ b _ _=>b
 | .For _ _ b _ _=>b
 | .Try b _ _ _ _=>b
 | _=>[]
noncomputable def Ry (s:Stmt):List Stmt:=match s with
 | .If _ _ b _=>b
 | _=>[]
mutual
noncomputable def Rz:S->Vw->Stmt->Stmt
 | .expr e,V,s=>.Expr (like e V (sx s 0)) s.pos
 | .assign i e,V,s=>.Assign [.Name (V.nL i) (sx s 1).pos] (like e V (sx s 0)) s.pos
 | .unpack is e,V,s=>.Assign [.Tuple (B4 (is.map V.nL) (AL (sx s 1))) (HE (sx s 1)) (sx s 1).pos] (like e V (sx s 0)) s.pos
 | .swap is es,V,s=>.Assign [.Tuple (B4 (is.map V.nL) (AL (sx s 1))) (HE (sx s 1)) (sx s 1).pos] (like (.tup es) V (sx s 0)) s.pos
 | .setitem o i e,V,s=>.Assign [.Subscript (like o V (kid (sx s 1) 0)) (like i V (kid (sx s 1) 1)) (sx s 1).pos] (like e V (sx s 0)) s.pos
 | .ifs t a b,V,s=>.If (like t V (sx s 0)) (Dh a V (GC s)) (Dh b V (Ry s)) s.pos
 | .whiles t b,V,s=>.While (like t V (sx s 0)) (Dh b V (GC s)) [] s.pos
 | .fors is one k es b,V,s=>.For (E0 one (is.map V.nL) (sx s 1)) (HG k (AG es V (E1 k (sx s 0))) (sx s 0)) (Dh b V (GC s)) [] s.pos
 | .ret e,V,s=>.Return (some (like e V (sx s 0))) s.pos
 | .raise k m,V,s=>.Raise (some (.Call (.Name k (kid (sx s 0) 0).pos) [.Constant (.str m) (HE (kid (sx s 0) 1)) (kid (sx s 0) 1).pos] [] (sx s 0).pos)) none s.pos
 | .pass,V,s=>.Pass s.pos
 | .any,V,s=>s
noncomputable def Dh:List S->Vw->List Stmt->List Stmt
 | [],V,xs=>[]
 | s :: ss,V,xs=>Rz s V (xs.headD default) :: Dh ss V xs.tail
end
noncomputable def Iz (e:E):Bool:=match e with
 | .comp _ _ _ _=>false
 | _=>true
noncomputable def NS (e:E):Bool:=match e with
 | .tup _=>false
 | _=>true
noncomputable def V5 (k:ItK) (one:Bool):Bool:=match k with
 | .zip=>!one
 | _=>true
noncomputable def MW (V:Vw) (is:List Nat):Bool:=is.all fun i=>V.ns i==some (V.nL i)
mutual
noncomputable def okS:S->Vw->Stmt->Bool
 | .expr e,V,s=>ok e V (sx s 0)&&Iz e
 | .assign i e,V,s=>V.ns i==some (V.nL i)&&ok e V (sx s 0)&&Iz e
 | .unpack is e,V,s=>MW V is&&ok e V (sx s 0)&&Iz e&&NS e
 | .swap is es,V,s=>MW V is&&E4 es V (AL (sx s 0))&&HL is&&Km V.K (B4 (is.map V.nL) (AL (sx s 1))) (AG es V (AL (sx s 0)))
 | .setitem o i e,V,s=>ok o V (kid (sx s 1) 0)&&ok i V (kid (sx s 1) 1)&&ok e V (sx s 0)&&Iz e
 | .ifs t a b,V,s=>ok t V (sx s 0)&&G9 a V (GC s)&&G9 b V (Ry s)
 | .whiles t b,V,s=>ok t V (sx s 0)&&G9 b V (GC s)
 | .fors is one k es b,V,s=>(MW V is&&V5 k one)&&MQ V.K k es&&E4 es V (E1 k (sx s 0))&&G9 b V (GC s)
 | .ret e,V,s=>ok e V (sx s 0)
 | .raise k m,V,s=>Dt V.K k
 | .pass,V,s=>true
 | .any,V,s=>true
noncomputable def G9:List S->Vw->List Stmt->Bool
 | [],V,xs=>true
 | s :: ss,V,xs=>okS s V (xs.headD default)&&G9 ss V xs.tail
end
theorem MX {env:Env} {K:Str->Option NameKind} {ts vs:List Expr} {k k':Nat} {p p':Pos} (hk:env.scope.kind=.function) (hK:∀ x,env.kindOf x=K x) (h:Km K ts vs=true) :
  swappedStores [.Tuple ts k p] (.Tuple vs k' p') env=pure (some (C1 ts)):=by
 unfold Km at h;simp only [Bool.and_eq_true,Bool.not_eq_true',Bool.or_eq_true,beq_iff_eq] at h;obtain ⟨⟨⟨⟨⟨⟨⟨h1,h2⟩,h3⟩,h4⟩,h5⟩,h6⟩,h7⟩,h8⟩:=h;have hb:env.blockKind=.function:=by unfold Env.blockKind; rw [hk]; rfl
 unfold swappedStores;dsimp only;rw [if_neg (by rw [hb]; rcases h1 with h1 | h1 <;> simp [h1,h2])]
 rw [if_neg (fun z=>by
  have:vs.any Jk=true:=by
   rw [<- z];rfl
  rw [h3] at this; cases this)]
 generalize hN:List.filterMap _ ts=N;have hN':N=C1 ts:=by
  rw [<- hN,<- h4];unfold Jl
  congr 1
  funext x;cases x <;> simp [hK]
 subst hN';rw [if_neg (by simp [h5,h6]),if_neg (by rw [h7]; simp),if_neg (by rw [h8]; simp)]
theorem MY (xs:List Nat):∀ (ds:List D) (σ:St) (x:Nat) (d:D),xs.length=ds.length->Aw σ (xs ++ [x]) (ds ++ [d])=(Aw σ xs ds).set x d:=by
 induction xs with
 | nil=>intro ds σ x d h; cases ds with | nil=>rfl | cons=>simp at h
 | cons y ys ih =>
  intro ds σ x d h;cases ds with
  | nil=>simp at h
  | cons e es=>exact ih es (σ.set y e) x d (by simpa using h)
theorem PV {σ:St} {x y:Nat} {d e:D} (h:x≠y):(σ.set x d).set y e=(σ.set y e).set x d:=by
 unfold St.set
 congr 1
 funext j
 by_cases h1:j=x <;> by_cases h2:j=y <;> simp_all
theorem HM:∀ (xs:List Nat) (ds:List D) (σ:St) (x:Nat) (d:D),xs.contains x=false->(Aw σ xs ds).set x d=Aw (σ.set x d) xs ds
 | [],ds,σ,x,d,_=>by cases ds <;> rfl
 | y :: ys,[],σ,x,d,_=>rfl
 | y :: ys,e :: es,σ,x,d,h=>by
  simp only [List.contains_cons,Bool.or_eq_false_iff,beq_eq_false_iff_ne,ne_eq] at h;show (Aw (σ.set y e) ys es).set x d=Aw ((σ.set x d).set y e) ys es;rw [HM ys es (σ.set y e) x d h.2,PV (fun z=>h.1 z.symm)]
theorem HN:∀ (xs:List Nat) (ds:List D) (σ:St),xs.length=ds.length->HL xs=true->Aw σ xs.reverse ds.reverse=Aw σ xs ds
 | [],[],σ,_,_=>rfl
 | [],_ :: _,σ,h,_=>by simp at h
 | _ :: _,[],σ,h,_=>by simp at h
 | x :: xs,d :: ds,σ,h,hn=>by
  simp only [HL,Bool.and_eq_true,Bool.not_eq_true'] at hn;rw [List.reverse_cons,List.reverse_cons,MY _ _ _ _ _ (by simpa using h),HN xs ds σ (by simpa using h) hn.2,HM xs ds σ x d hn.1];rfl
theorem Reps.reverse {h:Heap} {vs:List Value} {ds:List D} (r:Reps h vs ds):Reps h vs.reverse ds.reverse:=Reps.ind (P:=fun vs ds=>Reps h vs.reverse ds.reverse) .nil (fun x _ z=>by
  rw [List.reverse_cons,List.reverse_cons];exact z.append (.cons x .nil)) r
section
variable {c:Cx} {F:Fm} {env:Env} {K:Str->Option NameKind} {ns:Nat->Option Str} {n:Nat}
end
noncomputable def aaJ (h:Heap):Flow->Fl->Prop
 | .next,.next=>True
 | .brk,.brk=>True
 | .cont,.cont=>True
 | .ret v,.ret d=>Rep h v d
 | _,_=>False
noncomputable def PostS (c:Cx) (F:Fm) (h₀:Heap) (Q:Fl->St->Prop):Flow->Shared->Prop:=fun f s'=>∃ fl σ',Grow h₀ s'.heap/\Inv c F σ' s'/\aaJ s'.heap f fl/\Q fl σ'
theorem PostS.grow {c:Cx} {F:Fm} {h₀ h₁:Heap} {Q:Fl->St->Prop} {f:Flow} {s':Shared} (g:Grow h₀ h₁) (x:PostS c F h₁ Q f s'):PostS c F h₀ Q f s':=by
 refine xq2_2 x fun d σ' h1 r=>?_;exact ⟨d,σ',g.trans h1,r⟩
theorem D4 {e:E} {V:Vw} {x:Expr} {t:Option Expr} {l:Nat} {env:Env} (h:Iz e=true):swapsWith (like e V x) t l env=pure false:=by
 cases e <;> first | rfl | exact (Bool.false_ne_true h).elim
theorem notTup_swapped {e:E} {V:Vw} {x:Expr} {env:Env} {ts:List Expr} {k:Nat} {tp:Pos} (h:NS e=true):swappedStores [.Tuple ts k tp] (like e V x) env=pure none:=by
 cases e <;> first | exact (Bool.false_ne_true h).elim | rfl
theorem likeIt_folded {k:ItK} {es:List E} {V:Vw} {xs:List Expr} {x:Expr} {env:Env} {K:Str->Option NameKind} (h:MQ K k es=true) (v:Value):foldedSetIterable (HG k (AG es V xs) x) env v=pure v:=by
 cases k with
 | plain =>
  cases es with
  | nil=>exact (Bool.false_ne_true h).elim
  | cons e es=>exact like_folded e V _ env v
 | _=>rfl
section
variable {c:Cx} {F:Fm} {env:Env} {V:Vw} {n:Nat}
noncomputable def ItG (c:Cx) (F:Fm) (items:List D) (g:St->Prop) (it:Value) (wr:List Addr) (At:Nat->Heap->Prop) (Md:Nat->Value->Heap->Prop) (target:Expr):Prop :=
 (∀ {i:Nat} {σ:St} {s:Shared} {E:Value->Shared->Prop} {Q:Option Value->Shared->Prop} {d:D},Inv c F σ s->g σ->At i s.heap->items[i]?=some d->
  (∀ v h' t,Inv c F σ { s with heap:=h',toks:=t }->Rep h' v d->Md (i+1) v h'->(∀ b o,b∉wr->s.heap.get? b=some o->h'.get? b=some o)->Q (some v) { s with heap:=h',toks:=t })->wpAny (model c.prog c.w) F.A (pyNext it) Q E s)/\
 (∀ {i:Nat} {σ:St} {s:Shared} {E:Value->Shared->Prop} {Q:Option Value->Shared->Prop},Inv c F σ s->g σ->At i s.heap->i=items.length->
  (∀ h' t,Inv c F σ { s with heap:=h',toks:=t }->(∀ b o,b∉wr->s.heap.get? b=some o->h'.get? b=some o)->Q none { s with heap:=h',toks:=t })->wpAny (model c.prog c.w) F.A (pyNext it) Q E s)/\
 (∀ {i:Nat} {σ:St} {s:Shared} {E:Value->Shared->Prop} {Q:Unit->Shared->Prop} {v:Value} {d:D},Inv c F σ s->Md i v s.heap->Rep s.heap v d->
  (∀ h',Inv c F σ { s with heap:=h' }->Rep h' v d->At i h'->(∀ b o,b∉wr->s.heap.get? b=some o->h'.get? b=some o)->Q () { s with heap:=h' })->wpAny (model c.prog c.w) F.A (letOwnedTupleGo target it v) Q E s)/\
 ∀ {i:Nat} {h h':Heap},At i h->Grow h h'->At i h'
section
variable {c:Cx} {F:Fm} {items:List D} {g:St->Prop} {it:Value} {wr:List Addr} {At:Nat->Heap->Prop} {Md:Nat->Value->Heap->Prop} {target:Expr} (h_:ItG c F items g it wr At Md target)
include h_ in
theorem ItG.next:∀ {i:Nat} {σ:St} {s:Shared} {E:Value->Shared->Prop} {Q:Option Value->Shared->Prop} {d:D},Inv c F σ s->g σ->At i s.heap->items[i]?=some d->
  (∀ v h' t,Inv c F σ { s with heap:=h',toks:=t }->Rep h' v d->Md (i+1) v h'->(∀ b o,b∉wr->s.heap.get? b=some o->h'.get? b=some o)->Q (some v) { s with heap:=h',toks:=t })->wpAny (model c.prog c.w) F.A (pyNext it) Q E s:=h_.1
include h_ in
theorem ItG.last:∀ {i:Nat} {σ:St} {s:Shared} {E:Value->Shared->Prop} {Q:Option Value->Shared->Prop},Inv c F σ s->g σ->At i s.heap->i=items.length->
  (∀ h' t,Inv c F σ { s with heap:=h',toks:=t }->(∀ b o,b∉wr->s.heap.get? b=some o->h'.get? b=some o)->Q none { s with heap:=h',toks:=t })->wpAny (model c.prog c.w) F.A (pyNext it) Q E s:=h_.2.1
include h_ in
theorem ItG.goes:∀ {i:Nat} {σ:St} {s:Shared} {E:Value->Shared->Prop} {Q:Unit->Shared->Prop} {v:Value} {d:D},Inv c F σ s->Md i v s.heap->Rep s.heap v d->
  (∀ h',Inv c F σ { s with heap:=h' }->Rep h' v d->At i h'->(∀ b o,b∉wr->s.heap.get? b=some o->h'.get? b=some o)->Q () { s with heap:=h' })->wpAny (model c.prog c.w) F.A (letOwnedTupleGo target it v) Q E s:=h_.2.2.1
include h_ in
theorem ItG.keep:∀ {i:Nat} {h h':Heap},At i h->Grow h h'->At i h':=h_.2.2.2
end
theorem ItOK.gen {items:List D} {g:St->Prop} {it:Value} {wr:List Addr} {At:Nat->Heap->Prop} {target:Expr} (W:ItOK c F items g it wr At):ItG c F items g it wr At (fun i _ h=>At i h) target:=⟨(fun I hg hat hd hQ=>W.next I hg hat hd fun v h' t rv hat' k=>hQ v h' t (I.turnedL (t:=t) (fun a ha=>⟨W.own hat a ha,W.fresh a ha⟩) k) rv hat' k),
 (fun I hg hat hi hQ=>W.last I hg hat hi fun h' t k=>hQ h' t (I.turnedL (t:=t) (fun a ha=>⟨W.own hat a ha,W.fresh a ha⟩) k) k),
 (fun {i σ s E Q v d} I hat rv hQ=>W.goes hat fun h' hat' k=>hQ h' (I.turnedL (t:=s.toks) (fun a ha=>⟨W.own hat a ha,W.fresh a ha⟩) k) (De (W.own hat) k rv) hat' k),
 W.keep⟩
theorem aaK (R:Run c F env V n) {items:List D} {g:St->Prop} {it:Value} {wr:List Addr} {At:Nat->Heap->Prop} {Md:Nat->Value->Heap->Prop} {target:Expr} (W:ItG c F items g it wr At Md target) {body:List Stmt} {step:D->(Fl->St->Prop)->St->Prop} {h₀:Heap} {Q:Fl->St->Prop} {Rr:Result->Shared->Prop}
  (fresh:∀ b∈wr,∀ o,h₀.get? b=some o->¬ NC o)
  (turn:∀ (d:D) (v:Value) (σ:St) (s:Shared) (Kk:Fl->St->Prop),Inv c F σ s->Rep s.heap v d->step d Kk σ->
   wpAny (model c.prog c.w) F.A (assign target env v) (fun _ s₂=>wpAny (model c.prog c.w) F.A (execs body env) (PostS c F s.heap Kk) CH s₂) CH s)
  (done:∀ f s',PostS c F h₀ Q f s'->Rr (.ok f) s') {σ:St} {s:Shared} (I:Inv c F σ s) (g₀:Grow h₀ s.heap) (h0:At 0 s.heap) (w:Cp g step items Q σ) :
  codeAny (model c.prog c.w) F.A (.forLoop target it body [] env) Rr s:=by
 refine codeAny_forLoop_any (fun m s₁=>∃ i σ',i<=items.length/\m=items.length - i/\Inv c F σ' s₁/\Grow h₀ s₁.heap/\At i s₁.heap/\Cp g step (items.drop i) Q σ') (fun m s₁ hI=>?_) items.length ⟨0,σ,Nat.zero_le _,rfl,I,g₀,h0,by simpa using w⟩;refine JF hI fun i σ' hi q103_ I₁ g₁ hat w₁=>?_; obtain rfl:=q103_;have grow:∀ h':Heap,(∀ b o,b∉wr->s₁.heap.get? b=some o->h'.get? b=some o)->Grow h₀ h':=fun h' k b o e st=>k b o (fun m=>fresh b m o e st) (g₁ b o e st);rcases Nat.lt_or_eq_of_le hi with hlt | rfl
 ·have hd:items[i]?=some items[i]:=by simp [hlt]
  rw [List.drop_eq_getElem_cons hlt] at w₁;obtain ⟨hg,w₁⟩:=w₁;refine W.next I₁ hg hat hd fun v h' t I₂ rv hat' k=>?_;have g₂:=grow h' k;refine W.goes I₂ hat' rv fun h'' I₃ rv' hat'' k''=>?_;have g₃:Grow h₀ h'':=fun b o e st=>k'' b o (fun m=>fresh b m o e st) (g₂ b o e st);refine wpAny_mono (turn items[i] v σ' { s₁ with heap:=h'',toks:=t } _ I₃ rv' w₁) (fun _ s₄ p₄=>wpAny_mono p₄ (fun f s₅ p₅=>?_) fun _ _ y=>False.elim y) fun _ _ y=>False.elim y;refine Am p₅ fun fl σ₅ g₅ I₅ rf w₅=>?_;cases f with
  | next =>
   cases fl <;> first | exact rf.elim | skip
   exact ⟨_,Ti hlt,i+1,σ₅,hlt,rfl,I₅,g₃.trans g₅,W.keep hat'' g₅,w₅⟩
  | cont =>
   cases fl <;> first | exact rf.elim | skip
   exact ⟨_,Ti hlt,i+1,σ₅,hlt,rfl,I₅,g₃.trans g₅,W.keep hat'' g₅,w₅⟩
  | brk =>
   cases fl <;> first | exact rf.elim | skip
   exact done _ _ ⟨.next,σ₅,g₃.trans g₅,I₅,trivial,w₅⟩
  | ret v =>
   cases fl <;> first | exact rf.elim | skip
   exact done _ _ ⟨.ret _,σ₅,g₃.trans g₅,I₅,rf,w₅⟩
 ·rw [List.drop_length] at w₁;obtain ⟨hg,w₁⟩:=w₁;refine W.last I₁ hg hat rfl fun h' t I₂ k=>?_;exact wpAny_execs_nil (done _ _ ⟨.next,σ',grow h' k,I₂,trivial,w₁⟩)
end
noncomputable def MZ (c:Cx) (F:Fm) (h₀:Heap) (Kc:List D->(St->Prop)->St->Prop) (target:Expr):Value->Shared->Prop:=fun itv s₂ =>
 ∃ items g σ' wr At Md sb,Grow h₀ sb.heap/\Inv c F σ' sb/\SameSh sb s₂/\(∀ b o,sb.heap.get? b=some o->s₂.heap.get? b=some o)/\(∀ b∈wr,sb.heap.get? b=none)/\ItG c F items g itv wr At Md target/\At 0 s₂.heap/\Kc items g σ'
theorem Kn {c:Cx} {F:Fm} {h₀:Heap} {Kc:List D->(St->Prop)->St->Prop} {target:Expr} {itv:Value} {s₂:Shared} (h:HJ c F h₀ Kc itv s₂):MZ c F h₀ Kc target itv s₂:=by
 refine Rl h fun items g σ wr At sb h1 h2 h3 h4 h5 W hat w=>?_;exact ⟨items,g,σ,wr,At,_,sb,h1,h2,h3,h4,h5,W.gen,hat,w⟩
noncomputable def zAt2 (z TI TO i1 i2 l1 l2:Addr) (f0:Value) (i:Nat) (h:Heap):Prop:=IsZip h z TI TO f0/\IsPair h TI (.ref i1) (.ref i2)/\(∃ p q,IsPair h TO p q/\(∀ j t,p≠.int j t)/\∀ a,q≠.ref a)/\h.IsListIter i1 l1 i/\h.IsListIter i2 l2 i
theorem zAt2.z {z TI TO i1 i2 l1 l2:Addr} {f0:Value} {i:Nat} {h:Heap} (a:zAt2 z TI TO i1 i2 l1 l2 f0 i h):NO z TI TO i1 i2 l1 l2 f0 i h:=by
 refine AO a fun a1 a2 q104_ a5 a6=>?_; obtain ⟨p,q,a3,a4,_⟩:=q104_;exact ⟨a1,a2,⟨p,q,a3,a4⟩,a5,a6⟩
theorem Jm {z TI TO i1 i2 l1 l2:Addr} {f0:Value} {i:Nat} {h h':Heap} (a:zAt2 z TI TO i1 i2 l1 l2 f0 i h) (k:∀ b o,b∉[z,TO,i1,i2]->h.get? b=some o->h'.get? b=some o) {v:Value} {d:D} (fl:B2 d=true) (r:Rep h v d):Rep h' v d:=by
 cases r with
 | int i t=>exact .int i t
 | lst b=>exact .lst b
 | @tup A m vs ds ht rs =>
  cases e:ds.all GT with
  | true=>exact zAt_safe a.z k (show AY (.tup ds)=true from e) (.tup ht rs)
  | false =>
   have fl:(ds.all GT || ds.all fun x=>DH x&&AY x)=true:=fl;rw [e,Bool.false_or] at fl;refine .tup (k A _ (fun hb=>?_) ht) (EE (fl:=true) (fun f r=>zAt_safe a.z k (f rfl) r) (fun _=>List.all_eq_true.mpr fun x hx=>(and2 (List.all_eq_true.mp fl x hx)).2) rs);refine AO a fun hz _ q105_ q106_ q107_=>?_; obtain ⟨p,q,hTO,_,hq⟩:=q105_; obtain ⟨o1,e1,c1,d1⟩:=q106_; obtain ⟨o2,e2,c2,d2⟩:=q107_;have ht':h.get? A=some _:=ht;rcases List.mem_cons.mp hb with rfl | hb
   ·rw [hz] at ht'; simp at ht'
   rcases List.mem_cons.mp hb with rfl | hb
   ·have e:IsT h A (List.toArray [p,q]) 0:=hTO;have:=F6 ht e;subst this;cases rs with
    | cons x y =>
     cases y with
     | cons y1 y2 =>
      have f2:=List.all_eq_true.mp fl _ (List.mem_cons_of_mem _ (List.mem_cons_self ..));cases y1 with
      | tup _ _=>exact hq _ rfl
      | _=>exact Bool.false_ne_true (and2 f2).1
   rcases List.mem_cons.mp hb with rfl | hb
   ·rw [e1] at ht'; cases ht'; simp at c1
   rcases List.mem_cons.mp hb with rfl | hb
   ·rw [e2] at ht'; cases ht'; simp at c2
   cases hb
 | _=>exact (Bool.false_ne_true fl).elim
theorem HO {z TI TO i1 i2 l1 l2:Addr} {f0:Value} {i:Nat} {h:Heap} (a:zAt2 z TI TO i1 i2 l1 l2 f0 i h):∀ b∈[z,TO,i1,i2],∃ o,h.get? b=some o/\((∃ vs,o.data=.fields vs)\/((∃ ws m,o.data=.seq ws m)/\o.cls=.type "tuple")):=fun b hb=>by
 refine AO a fun hz _ q108_ q109_ q110_=>?_; obtain ⟨p,q,hTO,_⟩:=q108_; obtain ⟨o1,e1,_,d1⟩:=q109_; obtain ⟨o2,e2,_,d2⟩:=q110_;rcases List.mem_cons.mp hb with rfl | hb
 ·exact ⟨_,hz,.inl ⟨_,rfl⟩⟩
 rcases List.mem_cons.mp hb with rfl | hb
 ·exact ⟨_,hTO,.inr ⟨⟨_,_,rfl⟩,rfl⟩⟩
 rcases List.mem_cons.mp hb with rfl | hb
 ·exact ⟨_,e1,.inl ⟨_,d1⟩⟩
 rcases List.mem_cons.mp hb with rfl | hb
 ·exact ⟨_,e2,.inl ⟨_,d2⟩⟩
 cases hb
theorem Inv.turnZ {c:Cx} {F:Fm} {σ:St} {s:Shared} (I:Inv c F σ s) {h':Heap} {t:Nat} {wr:List Addr} (kd:∀ b∈wr,∃ o,s.heap.get? b=some o/\((∃ vs,o.data=.fields vs)\/((∃ ws m,o.data=.seq ws m)/\o.cls=.type "tuple"))) (fr:∀ b∈wr,F.hE.get? b=none/\c.B.get? b=none)
  (k:∀ b o,b∉wr->s.heap.get? b=some o->h'.get? b=some o) (sv:∀ {v:Value} {d:D},B2 d=true->Rep s.heap v d->Rep h' v d) (g:SafeS σ):Inv c F σ { s with heap:=h',toks:=t }:=by
 have off:∀ {b o},s.heap.get? b=some o->(∀ vs,o.data≠.fields vs)->((∀ ws m,o.data≠.seq ws m)\/o.cls≠.type "tuple")->h'.get? b=some o:=fun {b o} e h1 h2=>k b o (fun m=>by
  refine xq1_2 (kd b m) fun o' e1 e2=>?_;rw [e] at e1; cases e1;rcases e2 with ⟨vs,e2⟩ | ⟨⟨ws,m,e2⟩,e3⟩
  ·exact h1 vs e2
  ·exact h2.elim (fun h=>h ws m e2) fun h=>h e3) e
 have ns:∀ {C m},s.heap.Ns C m->h'.Ns C m:=fun {C m} hn=>by
  refine xq3_3 (id hn) fun o es ep ho hd _=>?_;exact hn.at' fun o' e=>by
   rw [ho] at e; cases e;exact off ho (fun vs z=>by rw [hd] at z; cases z) (.inl fun ws m z=>by rw [hd] at z; cases z)
 have cell:∀ {a v},s.heap.IsCell a v->h'.IsCell a v:=fun {a v} hn=>by
  refine xq1_2 hn fun o ho hd=>?_;exact ⟨o,off ho (fun vs z=>by rw [hd] at z; cases z) (.inl fun ws m z=>by rw [hd] at z; cases z),hd⟩
 refine ⟨I.same.trans ⟨_,_,rfl⟩,fun b o e=>k b o (fun m=>by rw [(fr b m).2] at e; cases e) (I.base b o e),GB I.kept (fun b m=>(fr b m).1) k,fun i d e=>?_,fun i l e=>?_,fun a kk e=>?_,I.dap⟩
 ·refine xq2_3 (I.vars i d e) fun l v e1 e2 e3=>?_;refine ⟨l,v,e1,?_,sv (g.1 i d e) e3⟩;cases l with
  | ns L y=>refine xq1_2 e2 fun m n e=>?_; exact ⟨m,ns n,e⟩
  | cell a=>exact cell e2
 ·have p:=I.places i l e;cases l with
  | ns L y=>obtain ⟨m,n⟩:=p; exact ⟨m,ns n⟩
  | cell a=>obtain ⟨v,n⟩:=p; exact ⟨v,cell n⟩
 ·have p:=I.sto a kk e;cases kk with
  | dict ps=>exact absurd e (g.2.2 a ps)
  | list own ds =>
   refine xq1_3 p fun vs h1 h2 h3=>?_;have lst:∀ o,s.heap.get? a=some o->h'.get? a=some o:=fun o e=>by
    refine xq1_3 h1 fun o' ho hc q111_=>HA q111_ fun m hd=>?_;rw [ho] at e; cases e;exact off ho (fun vs z=>by rw [hd] at z; cases z) (.inr fun z=>by rw [hc] at z; simp at z)
   refine ⟨vs,?_,fun ho=>⟨?_,(h2 ho).2⟩,LC sv (g.2.1 a own ds e) h3⟩
   ·refine xq1_2 h1 fun o' ho r=>?_;exact ⟨o',lst _ ho,r⟩
   ·obtain ⟨m,ho'⟩:=(h2 ho).1;exact ⟨m,lst _ ho'⟩
section
variable {c:Cx} {F:Fm}
noncomputable def gZ (a b:Addr) (us vs:List D) (σ:St):Prop:=SafeS σ/\(∃ o,σ.sto a=some (.list o us))/\∃ o,σ.sto b=some (.list o vs)
theorem R9 (hh:F.A.handled=none) {z TI TO i1 i2 a b:Addr} {us vs:List D} (D':ZipApart z TI TO i1 i2 a b) (h1:us.all DH=true) (h2:us.all B2=true) (h3:vs.all GT=true)
  (fr:∀ x∈[z,TO,i1,i2],F.hE.get? x=none/\c.B.get? x=none) {ss:List Str} {y:Expr} :
  ItG c F (List.zipWith (fun u v=>D.tup [u,v]) us vs) (gZ a b us vs) (.ref z) [z,TO,i1,i2] (zAt2 z TI TO i1 i2 a b .none) (fun i v h=>∃ T,v=.ref T/\zAt2 z TI TO i1 i2 a b (rawInt T) i h) (E0 false ss y):=⟨(fun {i σ s E Q d} I hg hat hd hQ=>by
  refine AI hg fun hS q112_ q113_=>?_; obtain ⟨o,ha⟩:=q112_; obtain ⟨o',hb'⟩:=q113_;refine xq2_3 (GW hd) fun u v hu hv q114_=>?_; obtain rfl:=q114_;refine xq1_3 (I.sto a _ ha) fun xs hl1 _ rx=>?_;refine xq1_3 (I.sto b _ hb') fun ys hl2 _ ry=>?_;refine xq1_2 (rx.get hu) fun x ex rxu=>?_;refine xq1_2 (ry.get hv) fun w ew rwv=>?_;refine AO (id hat) fun hz hTI q115_ l1 l2=>?_; obtain ⟨p,q,hTO,hp,hq⟩:=q115_;refine wpAny_pyNext_zip_item D' hz hTI hTO l1 l2 hl1 hl2 (by simpa using ex) (by simpa using ew) fun h' a1 a2 a3 a4 a5 a6 hk=>?_;have kk:∀ c o,c∉[z,TO,i1,i2]->s.heap.get? c=some o->h'.get? c=some o:=fun c o hc e=>hk c o (fun x=>hc (by simp [x])) (fun x=>hc (by simp [x])) (fun x=>hc (by simp [x])) (fun x=>hc (by simp [x])) e;have sv:∀ {v:Value} {d:D},B2 d=true->Rep s.heap v d->Rep h' v d:=fun f r=>Jm hat kk f r;have iv:=D8 h3 hv;cases rwv with
  | int j t =>
   refine hQ _ h' s.toks (I.turnZ (t:=s.toks) (HO hat) fr kk sv hS) (.tup (n:=0) (vs:=[x,.int j t]) a5 (.cons (sv (D8 h2 hu) rxu) (.cons (.int j t) .nil))) ⟨_,rfl,a1,hk _ _ D'.TIz D'.TITO D'.TIi1 D'.TIi2 hTI,⟨x,.int j t,a2,?_,fun a z=>by cases z⟩,a3,a4⟩ kk;intro j t z;subst z;have:=D8 h1 hu;cases rxu;cases this
  | _=>exact (Bool.false_ne_true iv).elim),
 (fun {i σ s E Q} I hg hat hi hQ=>by
  refine AI hg fun hS q116_ q117_=>?_; obtain ⟨o,ha⟩:=q116_; obtain ⟨o',hb'⟩:=q117_;refine xq1_3 (I.sto a _ ha) fun xs hl1 _ rx=>?_;refine xq1_3 (I.sto b _ hb') fun ys hl2 _ ry=>?_;refine AO (id hat) fun hz hTI q118_ l1 l2=>?_; obtain ⟨p,q,hTO,hp,hq⟩:=q118_;have e1:=rx.length;have e2:=ry.length;rw [List.length_zipWith] at hi;have hend:xs.toArray[i]?=none\/ys.toArray[i]?=none:=by
   rcases Nat.le_total us.length vs.length with h | h
   ·exact .inl (by simp; exact o71 hi e1 h)
   ·exact .inr (by simp; exact o72 hi e2 h)
  refine wpAny_pyNext_zip_end hh D' hz hTI hTO l1 l2 hl1 hl2 hend fun h' hk=>?_;have kk:∀ c o,c∉[z,TO,i1,i2]->s.heap.get? c=some o->h'.get? c=some o:=fun c o hc e=>hk c o (fun x=>hc (by simp [x])) (fun x=>hc (by simp [x])) (fun x=>hc (by simp [x])) (fun x=>hc (by simp [x])) e;exact hQ h' s.toks (I.turnZ (t:=s.toks) (HO hat) fr kk (fun f r=>Jm hat kk f r) hS) kk),
 (fun {i σ s E Q v d} I md rv hQ=>by
  refine xq1_6 md fun T q119_ hz hTI q120_ l1 l2=>?_; obtain rfl:=q119_; obtain ⟨p,q,hTO,hp,hq⟩:=q120_;refine wpAny_letOwnedTupleGo_zip hz fun h' hz' hs'=>?_;have own:∀ x∈[z],∃ o vs,s.heap.get? x=some o/\o.data=.fields vs:=fun x hx=>by
   obtain rfl:x=z:=by simpa using hx
   exact ⟨_,_,hz,rfl⟩
  have k1:∀ c o,c∉[z]->s.heap.get? c=some o->h'.get? c=some o:=fun c o hc e=>hs'.extBut _ _ (fun x=>hc (by simp [x])) e;have inz:∀ x∈[z],x∈[z,TO,i1,i2]:=fun x hx=>by
   rw [List.mem_singleton.mp hx];exact List.mem_cons_self ..
  exact hQ h' (I.turnedL (t:=s.toks) (wr:=[z]) (fun x hx=>⟨own x hx,fr x (inz x hx)⟩) k1) (De own k1 rv) ⟨hz',hs'.extBut _ _ D'.TIz hTI,⟨p,q,hs'.extBut _ _ D'.TOz hTO,hp,hq⟩,l1.extBut hs'.extBut D'.i1z,l2.extBut hs'.extBut D'.i2z⟩ (fun c o hc e=>k1 c o (fun x=>hc (inz c x)) e)),
 (fun {i h h'} hat g=>by
  refine AO hat fun hz hTI q121_ l1 l2=>?_; obtain ⟨p,q,hTO,hp⟩:=q121_;refine ⟨g _ _ hz (.inr ⟨_,rfl⟩),g _ _ hTI (.inl ⟨_,_,rfl,rfl⟩),⟨p,q,g _ _ hTO (.inl ⟨_,_,rfl,rfl⟩),hp⟩,l1.at fun o e=>?_,l2.at fun o e=>?_⟩
  ·refine xq1_3 l1 fun o' e1 _ e3=>?_; rw [e] at e1; cases e1; exact g _ _ e (.inr ⟨_,e3⟩)
  ·refine xq1_3 l2 fun o' e1 _ e3=>?_; rw [e] at e1; cases e1; exact g _ _ e (.inr ⟨_,e3⟩))⟩
theorem s_zipG {σ:St} {s:Shared} {E:Value->Shared->Prop} {h₀:Heap} {Kc:List D->(St->Prop)->St->Prop} {a b:Addr} {o o':Bool} {us vs:List D} {ss:List Str} {y:Expr} {one:Bool} (I:Inv c F σ s) (hh:F.A.handled=none) (g:Grow h₀ s.heap)
  (ha:σ.sto a=some (.list o us)) (hb:σ.sto b=some (.list o' vs)) (h1:us.all DH=true) (h2:us.all B2=true) (h3:vs.all GT=true) (h4:one=false) (w:Kc (List.zipWith (fun u v=>D.tup [u,v]) us vs) (gZ a b us vs) σ) :
  wpAny (model c.prog c.w) F.A (call (.type "zip") [.ref a,.ref b]) (fun v s₁=>wpAny (model c.prog c.w) F.A (pyIter v) (MZ c F h₀ Kc (E0 one ss y)) E s₁) E s:=by
 subst h4;refine xq1_3 (I.sto a _ ha) fun ws hl1 _ _=>?_;refine xq1_3 (I.sto b _ hb) fun ws' hl2 _ _=>?_;have la:a<s.heap.objs.size:=by refine xq1_2 hl1 fun _ e _=>?_; exact Heap.lt_size e
 have lb:b<s.heap.objs.size:=by refine xq1_2 hl2 fun _ e _=>?_; exact Heap.lt_size e
 refine call_zip_2 hl1 hl2 fun h' z1 z2 z3 z4 z5 z6 kk=>?_;have none_at:∀ k,s.heap.get? (s.heap.objs.size+k)=none:=fun k=>by
  cases e:s.heap.get? (s.heap.objs.size+k) with
  | none=>rfl
  | some o=>exact absurd (Heap.lt_size e) (Nat.not_lt.mpr (Nat.le_add_right _ _))
 have nn:∀ x∈[s.heap.objs.size+4,s.heap.objs.size+3,s.heap.objs.size,s.heap.objs.size+1],s.heap.get? x=none:=fun x hx=>by
  simp only [List.mem_cons,List.not_mem_nil,or_false] at hx;rcases hx with rfl | rfl | rfl | rfl
  ·exact none_at 4
  ·exact none_at 3
  ·exact none_at 0
  ·exact none_at 1
 exact wpAny_pyIter_zip z1 ⟨_,_,σ,_,_,_,s,g,I,⟨h',s.toks,rfl⟩,kk,nn,R9 hh (GX _ a b la lb) h1 h2 h3 (fun x hx=>ED I (nn x hx)),⟨z1,z2,⟨_,_,z3,(fun j t z=>by cases z),fun a z=>by cases z⟩,z4,z5⟩,w⟩
end
theorem zip_rev {α β:Type}:∀ (xs:List α) (ys:List β),xs.length=ys.length->∀ p∈xs.reverse.zip ys.reverse,p∈xs.zip ys
 | [],[],_,p,h=>h
 | [],_ :: _,h,_,_=>by simp at h
 | _ :: _,[],h,_,_=>by simp at h
 | x :: xs,y :: ys,h,p,hp=>by
  rw [List.reverse_cons,List.reverse_cons,List.zip_append (by simpa using h)] at hp;rcases List.mem_append.mp hp with hp | hp
  ·exact List.mem_cons_of_mem _ (zip_rev xs ys (by simpa using h) p hp)
  ·simp at hp; simp [hp]
theorem sole_swaps {e:E} {V:Vw} {x t:Expr} {l:Nat} {env:Env} (h:Iz e=true):swapsWithSole [t] (like e V x) l env=pure false:=by
 show swapsWith (like e V x) (some t) l env=pure false;exact D4 h
theorem zip_self {α:Type}:∀ (xs:List α) (p:α×α),p∈xs.zip xs->p.1=p.2
 | [],p,h=>by cases h
 | x :: xs,p,h=>by
  rcases List.mem_cons.mp h with rfl | h
  ·rfl
  ·exact zip_self xs p h
theorem sI {c:Cx} {F:Fm} {env:Env} {V:Vw} {n:Nat} (R:Run c F env V n) (k:ItK) (es:List E) (x:Expr) {one:Bool} {ss:List Str} {y:Expr} (hz:V5 k one=true) (h0:MQ V.K k es=true) (h:E4 es V (E1 k x)=true) {Kc:List D->(St->Prop)->St->Prop} {σ:St} {s:Shared} (I:Inv c F σ s) (w:wI c n k es Kc σ) :
  wpAny (model c.prog c.w) F.A (eval (HG k (AG es V (E1 k x)) x) env) (fun v s₁=>wpAny (model c.prog c.w) F.A (pyIter v) (MZ c F s.heap Kc (E0 one ss y)) CH s₁) CH s:=by
 cases k with
 | plain =>
  cases es with
  | nil=>exact (Bool.false_ne_true h0).elim
  | cons e es =>
  cases es with
  | cons _ _=>exact (Bool.false_ne_true h0).elim
  | nil =>
   refine wm (sE e x (and2 h).1 R I w) (fun v s₁ p₁=>?_);refine Am p₁ fun d σ₁ g₁ I₁ r₁ w₁=>?_;exact wm (LB I₁ (R.FO.handled) g₁ r₁ w₁) (fun _ _ y=>Kn y)
 | range =>
  show wpAny _ _ (eval (.Call (.Name HF (kid x 0).pos) (AG es V (AL x).tail) [] x.pos) env) _ _ s;rw [Bb];refine wpAny_bind (AX R.CO R.O I h0 (R.CO.free "range" (by decide)) PyProof.Rows.Boot.«range» ?_);have:=sEs x.pos es (AL x).tail h R I w;rw [BI] at this ⊢;refine PyProof.Rows.callWith_type (Bp _ env) (B5 (Bp _ env) (wm this (fun vs s₁ p₁=>?_)));refine xq2_5 p₁ fun ds σ₁ g₁ I₁ r₁ hs q122_=>xq1_2 q122_ fun items hi hK=>?_;exact wm (LA I₁ R.FO R.CO g₁ r₁ hs hi hK) (fun _ _ p=>wm p (fun _ _ y=>Kn y))
 | zip =>
  show wpAny _ _ (eval (.Call (.Name MN (kid x 0).pos) (AG es V (AL x).tail) [] x.pos) env) _ _ s;rw [Bb];refine wpAny_bind (AX R.CO R.O I h0 (R.CO.free "zip" (by decide)) PyProof.Rows.Boot.«zip» ?_);have:=sEs x.pos es (AL x).tail h R I w;rw [BI] at this ⊢;refine PyProof.Rows.callWith_type (Bp _ env) (B5 (Bp _ env) (wm this (fun vs s₁ p₁=>?_)));refine Am p₁ fun ds σ₁ g₁ I₁ r₁ w₁=>?_;obtain ⟨d₁,d₂,rfl,a,b,o,us,o',vs',rfl,rfl,k1,k2,k3,k4,k5,w₁⟩:=Kj w₁;refine xq2_3 (JG r₁) fun v₁ v₂ q127_ r1 r2=>?_; obtain rfl:=q127_;cases r1;cases r2;exact s_zipG I₁ (R.FO.handled) g₁ k1 k2 k3 k4 k5 ((Bool.not_eq_true' _).mp hz) w₁
section
variable {c:Cx} {env:Env} {V:Vw} {n:Nat}
theorem Ha {is:List Nat} (h:MW V is=true):∀ i∈is,V.ns i=some (V.nL i):=fun i hi=>beq_iff_eq.mp (List.all_eq_true.mp h i hi)
theorem M0 {is:List Nat} (h:∀ i∈is,V.ns i=some (V.nL i)):∀ p∈is.zip (is.map V.nL),V.ns p.1=some p.2:=fun p hp=>by
 rw [List.zip_map_right] at hp;refine xq1_2 (List.mem_map.mp hp) fun p' h1 q128_=>?_; obtain rfl:=q128_;have e:p'.1=p'.2:=zip_self is p' h1;show V.ns p'.1=some (V.nL p'.2);rw [<- e];exact h _ (List.of_mem_zip h1).1
mutual
theorem sS:∀ (st:S) (x:Stmt),okS st V x=true->∀ {F:Fm},Run c F env V n->FmW F->∀ {Q:Fl->St->Prop} {σ:St} {s:Shared},Inv c F σ s->wS c n st Q σ->
  wpAny (model c.prog c.w) F.A (exec (Rz st V x) env) (PostS c F s.heap Q) CH s
 | .expr e,x,h,F,R,Wr,Q,σ,s,I,w=>by
  refine wpAny_Expr_any (wm (sE e (sx x 0) (and2 h).1 R I w) (fun v s₁ p₁=>?_)) (by unfold interactive; rw [R.O.kind]; rfl) (D4 (and2 h).2);refine Am p₁ fun d σ₁ g₁ I₁ r₁ w₁=>?_;exact ⟨.next,σ₁,g₁,I₁,trivial,w₁⟩
 | .assign i e,x,h,F,R,Wr,Q,σ,s,I,w=>by
  obtain ⟨h,h3⟩:=and2 h;obtain ⟨h1,h2⟩:=and2 h;refine wpAny_Assign_Name (wm (sE e (sx x 0) h2 R I w) (fun v s₁ p₁=>?_)) (D4 h3);refine Am p₁ fun d σ₁ g₁ I₁ r₁ w₁=>?_;exact EC I₁ R.FO Wr R.O (beq_iff_eq.mp h1) r₁ fun s₂ _ g₂ I₂=>⟨.next,_,g₁.trans g₂,I₂,trivial,w₁⟩
 | .unpack is e,x,h,F,R,Wr,Q,σ,s,I,w=>by
  obtain ⟨h,h4⟩:=and2 h;obtain ⟨h,h3⟩:=and2 h;obtain ⟨h1,h2⟩:=and2 h;refine PyProof.Rows.Assign_Tuple (wm (sE e (sx x 0) h2 R I w) (fun v s₁ p₁=>?_)) (sole_swaps h3) (notTup_swapped h4);refine Am p₁ fun d σ₁ g₁ I₁ r₁ q130_=>xq1_3 q130_ fun ds q129_ hl w₁=>?_; obtain rfl:=q129_;exact Ji R.FO Wr R.O (Ha h1) hl r₁ I₁ fun s₂ _ g₂ I₂=>⟨.next,_,g₁.trans g₂,I₂,trivial,w₁⟩
 | .swap is es,x,h,F,R,Wr,Q,σ,s,I,w=>by
  have w:wE c n (.tup es) (fun d σ₁=>∃ ds,d=.tup ds/\ds.length=is.length/\Q .next (Aw σ₁ is ds)) σ:=w;obtain ⟨h,h3⟩:=and2 h;obtain ⟨h,h4⟩:=and2 h;obtain ⟨h1,h2⟩:=and2 h;refine PyProof.Rows.Assign_Tuple_swapped (names:=C1 (B4 (is.map V.nL) (AL (sx x 1)))) (wm (sE (.tup es) (sx x 0) h2 R I w) (fun v s₁ p₁=>?_)) rfl (MX R.O.kind R.O.kinds h3);rw [F8];refine Am p₁ fun d σ₁ g₁ I₁ r₁ q132_=>xq1_3 q132_ fun ds q131_ hdl w₁=>?_; obtain rfl:=q131_;refine xq3_3 (rep_tup r₁) fun a m us q133_ hat rs=>?_; obtain rfl:=q133_;have hln:=rs.length;have hnm:(is.map V.nL).length=us.toArray.size:=by
   rw [List.length_map,<- hdl,<- hln]; rfl
  rw [hnm];refine wpAny_unpackItems_tuple (R.FO.handled) (IsT.tuple hat) fun h' he=>?_;have kk:∀ b o,s₁.heap.get? b=some o->h'.get? b=some o:=fun b o e=>he b o (Nat.ne_of_lt (Heap.lt_size e)) e;refine s_stores R.FO Wr R.O is.reverse (is.map V.nL).reverse ds.reverse _ σ₁ { s₁ with heap:=h' } _ (by simp [hdl]) (fun p hp=>?_) (by simp) (rs.reverse.grow (Ap kk)) (I₁.keeps (t:=s₁.toks) kk) fun s₂ hs₂ g₂ I₂=>?_
  ·exact M0 (Ha h1) p (zip_rev is (is.map V.nL) (by simp) p hp)
  ·rw [HN is ds σ₁ hdl.symm h4] at I₂;exact ⟨.next,_,(g₁.trans (Ap kk)).trans g₂,I₂,trivial,w₁⟩
 | .setitem o i e,x,h,F,R,Wr,Q,σ,s,I,w=>by
  obtain ⟨h,h4⟩:=and2 h;obtain ⟨h,h3⟩:=and2 h;obtain ⟨h1,h2⟩:=and2 h;refine wpAny_Assign_Subscript (wm (sE e (sx x 0) h3 R I w) (fun v s₁ p₁=>?_)) (D4 h4);refine Am p₁ fun d σ₁ g₁ I₁ r₁ w₁=>?_;refine wm (sE o _ h1 R I₁ w₁) (fun v₂ s₂ p₂=>?_);refine Am p₂ fun d₂ σ₂ g₂ I₂ r₂ w₂=>?_;refine wm (sE i _ h2 R I₂ w₂) (fun v₃ s₃ p₃=>?_);refine Am p₃ fun d₃ σ₃ g₃ I₃ r₃ w₃=>?_;refine wm (aaC I₃ R.FO (r₂.grow g₃) r₃ (r₁.grow (g₂.trans g₃)) w₃) (fun _ s₄ p₄=>?_);refine xq1_3 p₄ fun σ₄ g₄ I₄ w₄=>?_;exact ⟨.next,σ₄,((g₁.trans g₂).trans g₃).trans g₄,I₄,trivial,w₄⟩
 | .ifs t a b,x,h,F,R,Wr,Q,σ,s,I,w=>by
  obtain ⟨h,h3⟩:=and2 h;obtain ⟨h1,h2⟩:=and2 h;refine wpAny_If (wm (sT R t (sx x 0) h1 I w) (fun r s₁ p₁=>?_));refine xq1_3 p₁ fun σ₁ g₁ I₁ w₁=>?_;cases r with
  | true =>
   rw [if_pos rfl] at w₁ ⊢;exact wm (sSs a _ h2 R Wr I₁ w₁) (fun _ _ y=>y.grow g₁)
  | false =>
   rw [if_neg Bool.false_ne_true] at w₁ ⊢;exact wm (sSs b _ h3 R Wr I₁ w₁) (fun _ _ y=>y.grow g₁)
 | .whiles t b,x,h,F,R,Wr,Q,σ,s,I,w=>by
  obtain ⟨h1,h2⟩:=and2 h;refine xq2_2 w fun J m hJ step=>?_;refine wpAny_While (codeAny_whileLoop (fun k s₁=>∃ σ',Inv c F σ' s₁/\Grow s.heap s₁.heap/\J σ'/\m σ'=k) (fun k s₁ hI=>?_) (m σ) ⟨σ,I,Grow.refl _,hJ,rfl⟩);refine xq1_4 hI fun σ' I₁ g₁ j₁ q134_=>?_; obtain rfl:=q134_;refine wpAny_mono (sT R t (sx x 0) h1 I₁ (step σ' j₁)) (fun r s₂ p₂=>?_) fun _ _ y=>False.elim y;refine xq1_3 p₂ fun σ₂ g₂ I₂ w₂=>?_;cases r with
  | true =>
   rw [if_pos rfl] at w₂ ⊢;refine wpAny_mono (sSs b _ h2 R Wr I₂ w₂) (fun f s₃ p₃=>?_) fun _ _ y=>False.elim y;refine Am p₃ fun fl σ₃ g₃ I₃ rf w₃=>?_;cases f with
   | next =>
    cases fl <;> first | exact rf.elim | skip
    exact ⟨_,w₃.2,σ₃,I₃,(g₁.trans g₂).trans g₃,w₃.1,rfl⟩
   | cont =>
    cases fl <;> first | exact rf.elim | skip
    exact ⟨_,w₃.2,σ₃,I₃,(g₁.trans g₂).trans g₃,w₃.1,rfl⟩
   | brk =>
    cases fl <;> first | exact rf.elim | skip
    exact ⟨.next,σ₃,(g₁.trans g₂).trans g₃,I₃,trivial,w₃⟩
   | ret v =>
    cases fl <;> first | exact rf.elim | skip
    exact ⟨.ret _,σ₃,(g₁.trans g₂).trans g₃,I₃,rf,w₃⟩
  | false =>
   rw [if_neg Bool.false_ne_true] at w₂ ⊢;exact wpAny_execs_nil ⟨.next,σ₂,g₁.trans g₂,I₂,trivial,w₂⟩
 | .fors is one k es b,x,h,F,R,Wr,Q,σ,s,I,w=>by
  obtain ⟨h,h4⟩:=and2 h;obtain ⟨h,h3⟩:=and2 h;obtain ⟨h1,h2⟩:=and2 h;obtain ⟨h1,hz⟩:=and2 h1;refine wpAny_For (wm (sI R k es (sx x 0) (ss:=is.map V.nL) (y:=sx x 1) hz h2 h3 I w) (fun v s₁ p₁=>wm p₁ (fun itv s₂ p₂=>?_))) (likeIt_folded h2);refine aay p₂ fun items g σ₂ wr At Md sb g₂ I₂ hs₂ kb fr W hat w₂=>?_;refine DG hs₂ fun h' t' q135_=>?_; obtain rfl:=q135_;refine aaK R W (fun b hb o e st=>by have:=g₂ b o e st; rw [fr b hb] at this; cases this) (fun d v' σ' s' Kk I' r' w'=>?_) (fun f s' ps=>ps) (I₂.keeps (t:=t') kb) (g₂.trans (Ap kb)) hat w₂;exact NL R.FO Wr R.O (Ha h1) r' I' w' fun s₃ ds _ g₃ I₃ w₃=>wm (sSs b _ h4 R Wr I₃ w₃) (fun _ _ y=>y.grow g₃)
 | .ret e,x,h,F,R,Wr,Q,σ,s,I,w=>by
  refine wpAny_Return_some (wm (sE e (sx x 0) h R I w) (fun v s₁ p₁=>?_));refine Am p₁ fun d σ₁ g₁ I₁ r₁ w₁=>?_;exact ⟨.ret d,σ₁,g₁,I₁,r₁,w₁⟩
 | .raise k m,x,h,F,R,Wr,Q,σ,s,I,w=>(show False from w).elim
 | .pass,x,h,F,R,Wr,Q,σ,s,I,w=>by
  exact wpAny_Pass ⟨.next,σ,Grow.refl _,I,trivial,w⟩
 | .any,x,h,F,R,Wr,Q,σ,s,I,w=>(show False from w).elim
theorem sSs:∀ (ss:List S) (xs:List Stmt),G9 ss V xs=true->∀ {F:Fm},Run c F env V n->FmW F->∀ {Q:Fl->St->Prop} {σ:St} {s:Shared},Inv c F σ s->Bo c n ss Q σ->
  wpAny (model c.prog c.w) F.A (execs (Dh ss V xs) env) (PostS c F s.heap Q) CH s
 | [],xs,h,F,R,Wr,Q,σ,s,I,w=>wpAny_execs_nil ⟨.next,σ,Grow.refl _,I,trivial,w⟩
 | st :: ss,xs,h,F,R,Wr,Q,σ,s,I,w=>by
  refine wpAny_execs_cons (wm (sS st _ (and2 h).1 R Wr I w) (fun f s₁ p₁=>?_));refine Am p₁ fun fl σ₁ g₁ I₁ rf w₁=>?_;cases f with
  | next =>
   cases fl <;> first | exact rf.elim | skip
   exact wm (sSs ss _ (and2 h).2 R Wr I₁ w₁) (fun _ _ y=>y.grow g₁)
  | cont=>cases fl <;> first | exact rf.elim | exact ⟨_,σ₁,g₁,I₁,rf,w₁⟩
  | brk=>cases fl <;> first | exact rf.elim | exact ⟨_,σ₁,g₁,I₁,rf,w₁⟩
  | ret v=>cases fl <;> first | exact rf.elim | exact ⟨_,σ₁,g₁,I₁,rf,w₁⟩
end
end
noncomputable def nodupS:List Str->Bool
 | []=>true
 | x :: xs=>!(xs.contains x)&&nodupS xs
noncomputable def Ko (names:List (Str×NameKind)) (vars:List Str):Vw:=⟨fun x=>names.lookup x,fun i=>vars[i]?,fun i=>(vars[i]?).getD NJ,fun i=>(vars[i]?).isSome⟩
noncomputable def M2 (names:List (Str×NameKind)) (ps vars:List Str) (ss:List S) (body:List Stmt):Bool :=
 (vars.take ps.length==ps)&&nodupS vars&&vars.all (fun x=>names.lookup x==some .local || names.lookup x==some .cell)&&G9 ss (Ko names vars) body
noncomputable def V6 (c:Cx) (f:Str) (ps vars:List Str) (ss:List S):Prop:=∃ a o fd body,c.mg f=some (.ref a)/\c.B.get? a=some o/\o.data=.func fd/\c.B.CodeRec fd.code fd.qualname/\fd.body=.stmts body/\
 (∀ vs:List Value,vs.length=ps.length->bindArgs fd ⟨vs,[]⟩=pure (ps.zip vs))/\fd.closure=[]/\fd.scope.isCoroutine=false/\fd.scope.isGenerator=false/\fd.scope.kind=.function/\fd.globals=mainGlobals/\fd.builtins=builtinsNs/\M2 fd.scope.names ps vars ss body=true/\Dh ss (Ko fd.scope.names vars) body=body
noncomputable def Kq (sto τ:Sto) (Q:D->Sto->Prop) (d:D):Prop:=∃ sto':Sto,(∀ b k,sto' b=some k->sto b=some k\/(τ b=some k/\k.mine))/\((∀ b k,τ b=some k->k.mine->sto b=none)->Q d sto')
noncomputable def Ej (sto:Sto) (Q:D->Sto->Prop):Fl->St->Prop:=fun fl σ=>match fl with
 | .next=>Kq sto σ.sto Q .none
 | .ret d=>Kq sto σ.sto Q d
 | _=>False
theorem Kr {h hE:Heap} {b:Addr} {k:Cell} (p:CellOK h hE b k) (hm:k.mine):hE.get? b=none:=by
 cases k with
 | list own ds=>refine xq1_3 p fun _ _ p2 _=>?_; exact (p2 hm).2
 | dict ps=>exact p.1
theorem ret_plain {sto τ:Sto} {Q:D->Sto->Prop} {d:D} (h:Q d sto):Kq sto τ Q d:=⟨sto,fun b k e=>.inl e,fun _=>h⟩
theorem Ek {sto τ:Sto} {Q:D->Sto->Prop} {l:Addr} {xs:List D} (e:τ l=some (.list true xs)) (h:sto l=none->Q (.lst l) (Sto.put sto l (.list true xs))):Kq sto τ Q (.lst l):=by
 refine ⟨Sto.put sto l (.list true xs),fun b k e'=>?_,fun f=>h (f l _ e rfl)⟩;unfold Sto.put at e'
 split at e'
 ·rename_i hb;subst hb;cases e';exact .inr ⟨e,rfl⟩
 ·exact .inl e'
noncomputable def Dw (ds:List D) (sto:Sto):St:=⟨fun i=>ds[i]?,Sto.ro sto⟩
theorem nodupS_get {xs:List Str} (h:nodupS xs=true):∀ {i j:Nat} {x:Str},xs[i]?=some x->xs[j]?=some x->i=j:=by
 induction xs with
 | nil=>intro i j x e; simp at e
 | cons y ys ih =>
  simp only [nodupS,Bool.and_eq_true,Bool.not_eq_true',List.contains_eq_mem,decide_eq_false_iff_not] at h;intro i j x e e';cases i with
  | zero =>
   cases j with
   | zero=>rfl
   | succ j=>simp at e e'; subst e; exact absurd (List.mem_of_getElem? e') h.1
  | succ i =>
   cases j with
   | zero=>simp at e e'; subst e'; exact absurd (List.mem_of_getElem? e) h.1
   | succ j=>simp at e e'; rw [ih h.2 e e']
theorem Jn {k:Str->Option NameKind} {x:Str}:∀ (bs:List (Str×Value)) (m:Str->Option Value),(∀ b∈bs,b.1≠x)->bindL k bs m x=m x
 | [],m,_=>rfl
 | (n,v) :: r,m,h=>by
  unfold bindL;rw [Jn r _ fun b hb=>h b (.tail _ hb)];have:=h (n,v) (.head _)
  split
  ·exact if_neg fun z=>this z.symm
  ·rfl
theorem Jo {k:Str->Option NameKind} {x:Str}:∀ (bs:List (Str×Value)) (m:Str->Option Value),(∀ b∈bs,b.1≠x)->bindC k bs m x=m x
 | [],m,_=>rfl
 | (n,v) :: r,m,h=>by
  unfold bindC;rw [Jo r _ fun b hb=>h b (.tail _ hb)];have:=h (n,v) (.head _)
  split
  ·rfl
  ·exact if_neg fun z=>this z.symm
theorem NU {x:Str} {ps:List Str} {vs:List Value} (h:x∉ps):∀ b∈ps.zip vs,b.1≠x:=fun b hb z=>h (z ▸ (List.of_mem_zip hb).1)
theorem Ks {k:Str->Option NameKind} {x:Str} (hk:k x=some .local):∀ (ps:List Str) (vs:List Value) (m:Str->Option Value) (i:Nat) (v:Value),nodupS ps=true->ps[i]?=some x->vs[i]?=some v->bindL k (ps.zip vs) m x=some v
 | [],vs,m,i,v,_,e,_=>by simp at e
 | p :: ps,[],m,i,v,_,_,e=>by simp at e
 | p :: ps,w :: vs,m,0,v,hn,e,e'=>by
  simp only [nodupS,Bool.and_eq_true,Bool.not_eq_true',List.contains_eq_mem,decide_eq_false_iff_not] at hn;simp at e e'; subst e; subst e';show bindL k (ps.zip vs) _ p=_;rw [Jn _ _ (NU hn.1),if_pos hk];simp
 | p :: ps,w :: vs,m,i+1,v,hn,e,e'=>by
  simp only [nodupS,Bool.and_eq_true] at hn;exact Ks hk ps vs _ i v hn.2 (by simpa using e) (by simpa using e')
theorem Ku {k:Str->Option NameKind} {x:Str} (hk:k x=some .cell):∀ (ps:List Str) (vs:List Value) (m:Str->Option Value) (i:Nat) (v:Value),nodupS ps=true->ps[i]?=some x->vs[i]?=some v->bindC k (ps.zip vs) m x=some v
 | [],vs,m,i,v,_,e,_=>by simp at e
 | p :: ps,[],m,i,v,_,_,e=>by simp at e
 | p :: ps,w :: vs,m,0,v,hn,e,e'=>by
  simp only [nodupS,Bool.and_eq_true,Bool.not_eq_true',List.contains_eq_mem,decide_eq_false_iff_not] at hn;simp at e e'; subst e; subst e';show bindC k (ps.zip vs) _ p=_;rw [Jo _ _ (NU hn.1),if_neg (by rw [hk]; decide)];simp
 | p :: ps,w :: vs,m,i+1,v,hn,e,e'=>by
  simp only [nodupS,Bool.and_eq_true] at hn;exact Ku hk ps vs _ i v hn.2 (by simpa using e) (by simpa using e')
theorem Lm {k:Nat}:∀ {xs:List Str},nodupS xs=true->nodupS (xs.take k)=true:=by
 induction k with
 | zero=>intro xs _; simp [nodupS]
 | succ k ih =>
  intro xs h;cases xs with
  | nil=>exact h
  | cons y ys =>
   simp only [nodupS,List.take_succ_cons,Bool.and_eq_true,Bool.not_eq_true',List.contains_eq_mem,decide_eq_false_iff_not] at h ⊢;exact ⟨fun m=>h.1 (List.mem_of_mem_take m),ih h.2⟩
theorem AZ {x:Str}:∀ (names:List (Str×NameKind)) (n:Nat) (acc:List (Str×Addr)),(names.lookup x=some .cell\/(acc.lookup x).isSome=true)->((cellsFrom n names acc).lookup x).isSome=true
 | [],n,acc,h=>by
  rcases h with h | h
  ·simp at h
  ·exact h
 | (y,k) :: r,n,acc,h=>by
  unfold cellsFrom;rcases h with h | h
  ·rw [List.lookup_cons] at h;cases hb:x==y with
   | true =>
    rw [hb] at h;simp only [Option.some.injEq] at h;subst h;rw [if_pos (by decide)];exact AZ r _ _ (.inr (by rw [List.lookup_cons,hb]; rfl))
   | false =>
    rw [hb] at h
    split
    ·exact AZ r _ _ (.inl h)
    ·exact AZ r _ _ (.inl h)
  ·split
   ·refine AZ r _ _ (.inr ?_);rw [List.lookup_cons]
    split
    ·rfl
    ·exact h
   ·exact AZ r _ _ (.inr h)
noncomputable def locOf (K:Str->Option NameKind) (cells:List (Str×Addr)) (L:Addr) (vars:List Str) (i:Nat):Option Loc :=
 match vars[i]? with
 | none=>none
 | some x=>if K x==some .local then some (.ns L x) else if K x==some .cell then (cells.lookup x).map Loc.cell else none
theorem Di {K:Str->Option NameKind} {cells:List (Str×Addr)} {L:Addr} {vars:List Str} {i:Nat} {l:Loc} (h:locOf K cells L vars i=some l) :
  ∃ x,vars[i]?=some x/\((K x=some .local/\l=.ns L x)\/(K x=some .cell/\∃ a,cells.lookup x=some a/\l=.cell a)):=by
 unfold locOf at h
 split at h
 ·cases h
 ·rename_i x hx;refine ⟨x,hx,?_⟩
  split at h
  ·rename_i hk; cases h; exact .inl ⟨by simpa using hk,rfl⟩
  ·split at h
   ·rename_i hk;refine xq1_2 (Option.map_eq_some_iff.mp h) fun a ha q136_=>?_; obtain rfl:=q136_;exact .inr ⟨by simpa using hk,a,ha,rfl⟩
   ·cases h
section
variable {c:Cx} {n:Nat}
noncomputable def FnK (c:Cx) (f:Str) (k:Nat) (ss:List S):Prop:=∃ ps vars,V6 c f ps vars ss/\ps.length=k
theorem FnK.isFn {f:Str} {k:Nat} {ss:List S} (h:FnK c f k ss):AD c f:=by
 refine xq2_2 h fun _ _ q137_ _=>?_; obtain ⟨a,o,fd,body,h1,h2,h3,_⟩:=q137_;exact ⟨a,o,fd,h1,h2,h3⟩
theorem fn_call (CO:CxOK c) {f:Str} {k:Nat} {ss:List S} (hf:FnK c f k ss) {ds:List D} {sto:Sto} {Q:D->Sto->Prop} (hl:ds.length=k)
  (w:Bo c n ss (Ej sto Q) (Dw ds sto)):Ah c (n+1) f ds sto Q:=by
 revert hf; refine aaq fun ps vars hf hk=>?_
 replace hl:=hl.trans hk.symm
 refine VV hf fun a o fd body h1 h2 h3 hcd hbody hbind hclo hco hgen hkf hgl hbu hchk hlike=>?_;refine ⟨a,o,fd,h1,h2,h3,fun A l s vs hfr hh hdep hun hB rs hst=>?_⟩;have hlen:=rs.length;unfold M2 at hchk;simp only [Bool.and_eq_true,beq_iff_eq] at hchk;obtain ⟨⟨⟨hps,hnd⟩,hall⟩,hbdy⟩:=hchk;have hlv:vs.length=ps.length:=by rw [hlen,hl]
 have kinds:∀ i x,vars[i]?=some x->fd.scope.names.lookup x=some .local\/fd.scope.names.lookup x=some .cell:=fun i x e=>by
  have:=List.all_eq_true.mp hall x (List.mem_of_getElem? e);simpa using this
 have psv:∀ i x,ps[i]?=some x->vars[i]?=some x:=fun i x e=>by
  have hi:i<ps.length:=(List.getElem?_eq_some_iff.mp e).1;rw [<- hps,List.getElem?_take_of_lt hi] at e;exact e
 have hndp:nodupS ps=true:=by rw [<- hps]; exact Lm hnd
 have hkind:∀ x∈ps.zip vs,fd.scope.names.lookup x.1=some .local\/(fd.scope.names.lookup x.1=some .cell/\((cellsFrom (s.heap.objs.size+1) fd.scope.names []).lookup x.1).isSome=true):=fun x hx=>by
  obtain ⟨i,hi⟩:=List.getElem?_of_mem (List.of_mem_zip hx).1;rcases kinds i x.1 (psv i x.1 hi) with k | k
  ·exact .inl k
  ·exact .inr ⟨k,AZ _ _ _ (.inl k)⟩
 refine codeAny_call_cells (by show A.depth<1000; exact o73 hdep) (hB _ _ h2) h3 (CO.lim.keeps hB) (hcd.keeps hB) hbody (hbind vs hlv) hclo hkind (fun s₁ C=>?_) hco hgen hkf
 let env':=callEnvC fd s.heap.objs.size a
 have eL:env'.locals=s.heap.objs.size:=rfl;have eK:∀ x,env'.kindOf x=fd.scope.names.lookup x:=fun x=>rfl;obtain ⟨hsame,hns,hkeep,hfresh⟩:=C.toInCall
 let F:Fm:=⟨A.deeper env',env',l,s.heap,s,locOf (fun x=>fd.scope.names.lookup x) env'.cells s.heap.objs.size vars⟩
 have above:∀ x a',env'.cells.lookup x=some a'->s.heap.get? a'=none:=fun x a' e=>by
  have:=C.above x a' (mem_of_lookup e);cases z:s.heap.get? a' with
  | none=>rfl
  | some o'=>exact absurd (Heap.lt_size z) (Nat.lt_asymm (show s.heap.objs.size<a' from this))
 have nB:∀ a',s.heap.get? a'=none->c.B.get? a'=none:=fun a' e=>by
  cases z:c.B.get? a' with
  | none=>rfl
  | some o'=>have:=hB _ _ z; rw [e] at this; cases this
 have FO:FmOK c n F:=⟨Around.frames_deeper hfr,
 hh,
 (by show A.depth+1+n<800; exact o74 hdep),
 (by show A.units+3+4*n<9000; exact o75 hun),
 hgl,
 hbu,
 hgen,
 hco,
 hB⟩
 have Wr:FmW F:=⟨(fun i lc e=>by
   obtain ⟨x,hx,⟨_,rfl⟩ | ⟨_,a',ha',rfl⟩⟩:=Di e
   ·exact AE _
   ·exact above x a' ha'),
 (fun i j lc e e'=>by
   obtain ⟨x,hx,⟨k1,z⟩ | ⟨k1,a',ha',z⟩⟩:=Di e
   ·obtain ⟨y,hy,⟨k2,z'⟩ | ⟨k2,a'',ha'',z'⟩⟩:=Di e'
    ·rw [z] at z'; cases z';exact nodupS_get hnd hx hy
    ·rw [z] at z'; cases z'
   ·obtain ⟨y,hy,⟨k2,z'⟩ | ⟨k2,a'',ha'',z'⟩⟩:=Di e'
    ·rw [z] at z'; cases z'
    ·rw [z] at z'; cases z';have:=name_of_addr C.apart (mem_of_lookup ha') (mem_of_lookup ha'');subst this;exact nodupS_get hnd hx hy)⟩
 have O:EnvOK F env' (fun x=>fd.scope.names.lookup x) (fun i=>vars[i]?):=⟨hkf,
 hgl,
 hbu,
 eK,
 (fun i x hx=>by
   rcases kinds i x hx with k | k
   ·refine .inl ⟨k,?_⟩;show locOf _ _ _ _ _=_;unfold locOf;simp [hx,k,eL]
   ·obtain ⟨a',ha'⟩:=Option.isSome_iff_exists.mp (AZ fd.scope.names (s.heap.objs.size+1) [] (.inl k));refine .inr ⟨k,a',ha',?_⟩;show locOf _ _ _ _ _=_;unfold locOf;have ha'':env'.cells.lookup x=some a':=ha';simp [hx,k,ha'']),
 (fun x hx=>Option.isSome_iff_exists.mp (AZ fd.scope.names (s.heap.objs.size+1) [] (.inl hx)))⟩
 have I:Inv c F (Dw ds sto) s₁:=⟨(by refine DG hsame fun h tk e=>?_; exact ⟨h,tk,e⟩),
 (fun b o' e=>hkeep b o' (hB b o' e)),
 hkeep,
 (fun i d e=>by
   have e':ds[i]?=some d:=e;refine xq1_2 (rs.get e') fun v hv rv=>?_;have hi:i<ps.length:=by rw [<- hl]; exact (List.getElem?_eq_some_iff.mp e').1
   have hp:ps[i]?=some ps[i]:=by simp [hi]
   have hx:=psv i _ hp;have rv':Rep s₁.heap v d:=rv.grow (Ap hkeep);rcases kinds i _ hx with k | k
   ·refine ⟨.ns s.heap.objs.size ps[i],v,?_,⟨_,hns,Ks (k:=env'.kindOf) k ps vs _ i v hndp hp hv⟩,rv'⟩;show locOf _ _ _ _ _=_;unfold locOf;simp [hx,k]
   ·obtain ⟨a',ha'⟩:=Option.isSome_iff_exists.mp (AZ fd.scope.names (s.heap.objs.size+1) [] (.inl k));have ha'':env'.cells.lookup ps[i]=some a':=ha';refine ⟨.cell a',v,?_,?_,rv'⟩
    ·show locOf _ _ _ _ _=_;unfold locOf;simp [hx,k,ha'']
    ·have:=C.cell _ _ ha'';rw [Ku (k:=env'.kindOf) k ps vs _ i v hndp hp hv] at this;exact this),
 (fun i lc e=>by
   obtain ⟨x,hx,⟨_,rfl⟩ | ⟨_,a',ha',rfl⟩⟩:=Di e
   ·exact ⟨_,hns⟩
   ·exact ⟨_,C.cell _ _ ha'⟩),
 (fun b k e=>by
   refine xq1_2 (ro_some e) fun k' hk' e'=>?_;obtain ⟨hE,p⟩:=hst b k' hk';exact (Cell.ro_ok p e').nf (Nf.of_keeps hkeep)),
 (fun b ps e=>(Jg e).elim)⟩
 have R:Run c F env' (Ko fd.scope.names vars) n:=⟨CO,FO,O,fun i hi=>by
  have hi:(vars[i]?).isSome=false:=hi;show locOf _ _ _ _ _=_;unfold locOf;have hv:vars[i]?=none:=by
   cases e:vars[i]? with
   | none=>rfl
   | some x=>rw [e] at hi; cases hi
  rw [hv]⟩
 have back:∀ {s':Shared} {σ':St} {v:Value} {d:D},Inv c F σ' s'->Rep s'.heap v d->Kq sto σ'.sto Q d->Lw sto Q s (.ok (.ret v)) s':=fun {s' σ' v d} I' r' hr=>by
  refine xq1_2 hr fun sto' hs' hq=>?_;refine ⟨I'.same,I'.kept,d,sto',r',fun b k e=>?_,hq fun b k e hm=>?_⟩
  ·rcases hs' b k e with z | ⟨z,hm⟩
   ·exact .inl z
   ·have p:=I'.sto b _ z;exact .inr ⟨Kr p hm,p⟩
  ·have hn:s.heap.get? b=none:=Kr (I'.sto b _ e) hm;cases z:sto b with
   | none=>rfl
   | some k =>
    obtain ⟨hE,q⟩:=hst b k z;obtain ⟨o',q1⟩:=q.there c;rw [hn] at q1; cases q1
 have run:=sSs ss body hbdy R Wr I w;rw [hlike] at run;refine wpAny_mono run (fun fl s' p=>?_) fun e s' y=>False.elim y;refine Am p fun f' σ' g I' rf hq=>?_;cases fl <;> cases f' <;> first | exact rf.elim | exact hq.elim | exact back I' .none hq | exact back I' rf hq
end
end Mine
namespace Mine
open PySem
section
variable (c:Cx) (n:Nat)
@[reducible] noncomputable def kOp (op:Operator) (Q:D->St->Prop) (x y:D) (σ:St):Prop:=BD op x y Q σ
@[reducible] noncomputable def kBin (op:Operator) (b:E) (Q:D->St->Prop) (x:D) (σ:St):Prop:=wE c n b (kOp op Q x) σ
@[reducible] noncomputable def kBc (op:Operator) (k:Int) (Q:D->St->Prop) (x:D) (σ:St):Prop:=BD op x (.int k) Q σ
@[reducible] noncomputable def kNeg (Q:D->St->Prop) (x:D) (σ:St):Prop:=MK x Q σ
@[reducible] noncomputable def kNb (Q:D->St->Prop) (b:Bool) (σ:St):Prop:=Q (.bool (!b)) σ
@[reducible] noncomputable def kNot (Q:D->St->Prop) (x:D) (σ:St):Prop:=CK x (kNb Q) σ
@[reducible] noncomputable def kCp (op:CmpOp) (Q:D->St->Prop) (x y:D) (σ:St):Prop:=CR op x y Q σ
@[reducible] noncomputable def kCm (op:CmpOp) (b:E) (Q:D->St->Prop) (x:D) (σ:St):Prop:=wE c n b (kCp op Q x) σ
@[reducible] noncomputable def kCc (op:CmpOp) (k:Int) (Q:D->St->Prop) (x:D) (σ:St):Prop:=CR op x (.int k) Q σ
@[reducible] noncomputable def kBt (op:BoolOp) (es:List E) (Q:D->St->Prop) (d:D) (b:Bool) (σ:St):Prop:=if b=(op==.Or) then Q d σ else wB c n op es Q σ
@[reducible] noncomputable def kBo (op:BoolOp) (es:List E) (Q:D->St->Prop) (d:D) (σ:St):Prop:=CK d (kBt c n op es Q d) σ
@[reducible] noncomputable def kRt (Q:D->St->Prop) (σ:St) (d:D) (sto:Sto):Prop:=Q d { σ with sto:=sto }
@[reducible] noncomputable def kCl (f:Str) (Q:D->St->Prop) (ds:List D) (σ:St):Prop:=Ah c n f ds σ.sto (kRt Q σ)
@[reducible] noncomputable def kBl (f:Blt) (Q:D->St->Prop) (ds:List D) (σ:St):Prop:=Cd f ds Q σ
@[reducible] noncomputable def kIs (t:Ty) (Q:D->St->Prop) (x:D) (σ:St):Prop:=Gx x t Q σ
@[reducible] noncomputable def kI2 (Q:D->St->Prop) (x y:D) (σ:St):Prop:=Dc x y Q σ
@[reducible] noncomputable def kIx (b:E) (Q:D->St->Prop) (x:D) (σ:St):Prop:=wE c n b (kI2 Q x) σ
@[reducible] noncomputable def kS3 (Q:D->St->Prop) (x l h:D) (σ:St):Prop:=EZ x l h Q σ
@[reducible] noncomputable def kS2 (hi:Option E) (Q:D->St->Prop) (x l:D) (σ:St):Prop:=wO c n hi (kS3 Q x l) σ
@[reducible] noncomputable def kS1 (lo hi:Option E) (Q:D->St->Prop) (x:D) (σ:St):Prop:=wO c n lo (kS2 c n hi Q x) σ
@[reducible] noncomputable def kTp (Q:D->St->Prop) (ds:List D) (σ:St):Prop:=ds.length<=lim/\Q (.tup ds) σ
@[reducible] noncomputable def kLs (Q:D->St->Prop) (ds:List D) (σ:St):Prop:=ds.length<=lim/\∀ l,σ.sto l=none->Q (.lst l) (σ.put l (.list true ds))
@[reducible] noncomputable def kAp (Q:D->St->Prop) (x d:D) (σ:St):Prop:=Fz x d Q σ
@[reducible] noncomputable def kAo (b:E) (Q:D->St->Prop) (x:D) (σ:St):Prop:=(∃ l ds,x=.lst l/\σ.sto l=some (.list true ds))/\wE c n b (kAp Q x) σ
@[reducible] noncomputable def kCn (Q:List D->St->Prop) (d:D) (ds:List D) (σ:St):Prop:=Q (d :: ds) σ
@[reducible] noncomputable def kEs (es:List E) (Q:List D->St->Prop) (d:D) (σ:St):Prop:=Cs c n es (kCn Q d) σ
@[reducible] noncomputable def kTr (Q:Bool->St->Prop) (d:D) (σ:St):Prop:=CK d Q σ
@[reducible] noncomputable def kTn (Q:Bool->St->Prop) (b:Bool) (σ:St):Prop:=Q (!b) σ
@[reducible] noncomputable def kTs (op:BoolOp) (es:List E) (Q:Bool->St->Prop) (b:Bool) (σ:St):Prop:=if b=(op==.Or) then Q b σ else J7 c n op es Q σ
@[reducible] noncomputable def kN (ss:List S) (Q:Fl->St->Prop) (fl:Fl) (σ:St):Prop:=match fl with | .next=>Bo c n ss Q σ | fl=>Q fl σ
@[reducible] noncomputable def kA (ss:List S) (Q:Fl->St->Prop) (x:Nat) (d:D) (σ:St):Prop:=Bo c n ss Q (σ.set x d)
@[reducible] noncomputable def kE (ss:List S) (Q:Fl->St->Prop) (_d:D) (σ:St):Prop:=Bo c n ss Q σ
@[reducible] noncomputable def kR (Q:Fl->St->Prop) (d:D) (σ:St):Prop:=Q (.ret d) σ
@[reducible] noncomputable def kX (Q:Fl->St->Prop) (_d:D) (σ:St):Prop:=Q .next σ
@[reducible] noncomputable def kQ (Q:Fl->St->Prop) (x:Nat) (d:D) (σ:St):Prop:=Q .next (σ.set x d)
@[reducible] noncomputable def kU (xs:List Nat) (Q:Fl->St->Prop) (d:D) (σ:St):Prop:=∃ ds,d=.tup ds/\ds.length=xs.length/\Q .next (Aw σ xs ds)
@[reducible] noncomputable def kSt (Q:Fl->St->Prop) (d x k:D) (σ:St):Prop:=HB x k d (Q .next) σ
@[reducible] noncomputable def kSi (i:E) (Q:Fl->St->Prop) (d x:D) (σ:St):Prop:=wE c n i (kSt Q d x) σ
@[reducible] noncomputable def kSo (o i:E) (Q:Fl->St->Prop) (d:D) (σ:St):Prop:=wE c n o (kSi c n i Q d) σ
@[reducible] noncomputable def kIf (a b:List S) (Q:Fl->St->Prop) (r:Bool) (σ:St):Prop:=if r=true then Bo c n a Q σ else Bo c n b Q σ
@[reducible] noncomputable def kF1 (b:List S) (x:Nat) (d:D) (K:Fl->St->Prop) (σ:St):Prop:=Bo c n b K (σ.set x d)
@[reducible] noncomputable def kFo (b:List S) (Q:Fl->St->Prop) (x:Nat) (items:List D) (g:St->Prop) (σ:St):Prop:=Cp g (kF1 c n b x) items Q σ
@[reducible] noncomputable def kRg (Kc:List D->(St->Prop)->St->Prop) (ds:List D) (σ:St):Prop:=ds.all smallI=true/\∃ items,HC ds=some items/\Kc items (fun _=>True) σ
@[reducible] noncomputable def kIt (Kc:List D->(St->Prop)->St->Prop) (d:D) (σ:St):Prop:=D6 d Kc σ
end
section
variable {c:Cx} {n:Nat} {Q:D->St->Prop} {σ:St} {a b e:E} {es:List E}
theorem V7 {b:Bool} (h:Q (.bool b) σ):wE c n (.cbool b) Q σ:=h
theorem aaL {i:Int} (h:Q (.int i) σ):wE c n (.cint i) Q σ:=h
theorem aaM {s:Str} (h:Q (.str s) σ):wE c n (.cstr s) Q σ:=h
theorem HP {i:Nat} {d:D} (e:σ.loc i=some d) (h:Q d σ):wE c n (.var i) Q σ:=⟨d,e,h⟩
theorem V8 {x:Str} {d:D} (e:c.cs x=some d) (h:Q d σ):wE c n (.glob x) Q σ:=⟨d,e,h⟩
theorem RA {op:Operator} (h:wE c n a (kBin c n op b Q) σ):wE c n (.bin op a b) Q σ:=h
theorem aaN (h:wE c n a (kNeg Q) σ):wE c n (.neg a) Q σ:=h
theorem aaO (h:wE c n a (kNot Q) σ):wE c n (.not a) Q σ:=h
theorem aaP {op:CmpOp} (h:wE c n a (kCm c n op b Q) σ):wE c n (.cmp op a b) Q σ:=h
theorem PW {op:BoolOp} (h:wB c n op es Q σ):wE c n (.bool op es) Q σ:=h
theorem aaQ {op:BoolOp} (h:wE c n e Q σ):wB c n op [e] Q σ:=h
theorem V9 {op:BoolOp} {e':E} (h:wE c n e (kBo c n op (e' :: es) Q) σ):wB c n op (e :: e' :: es) Q σ:=h
theorem Wa {f:Str} (hf:AD c f) (h:Cs c n es (kCl c n f Q) σ):wE c n (.call f es) Q σ:=⟨hf,h⟩
theorem aaR {f:Blt} (h:Cs c n es (kBl f Q) σ):wE c n (.blt f es) Q σ:=h
theorem aaS {t:Ty} (h:wE c n a (kIs t Q) σ):wE c n (.isa a t) Q σ:=h
theorem aaT (h:wE c n a (kIx c n b Q) σ):wE c n (.idx a b) Q σ:=h
theorem Sa {lo hi:Option E} (h:wE c n a (kS1 c n lo hi Q) σ):wE c n (.slice a lo hi) Q σ:=h
theorem Wb (h:Q .none σ):wO c n none Q σ:=h
theorem Wc (h:wE c n e Q σ):wO c n (some e) Q σ:=h
theorem aaU (h:Cs c n es (kTp Q) σ):wE c n (.tup es) Q σ:=h
theorem aaV (h:Cs c n es (kLs Q) σ):wE c n (.lst es) Q σ:=h
theorem PX (h:wE c n a (kAo c n b Q) σ):wE c n (.append a b) Q σ:=h
theorem Wd {Q:List D->St->Prop} (h:Q [] σ):Cs c n [] Q σ:=h
theorem Sb {Q:List D->St->Prop} (h:wE c n e (kEs c n es Q) σ):Cs c n (e :: es) Q σ:=h
theorem Sc {Q:List D->St->Prop} {i:Nat} {d:D} (e:σ.loc i=some d) (h:Q [d] σ):Cs c n [.var i] Q σ:=⟨d,e,h⟩
theorem We {Q:List D->St->Prop} {i:Nat} {d:D} (e:σ.loc i=some d) (h:Cs c n es (kCn Q d) σ):Cs c n (.var i :: es) Q σ:=⟨d,e,h⟩
theorem Sd {Q:List D->St->Prop} {k:Int} (h:Q [.int k] σ):Cs c n [.cint k] Q σ:=h
theorem Wf {i:Nat} {k:Int} {d:D} (e:σ.loc i=some d) (h:Dc d (.int k) Q σ):wE c n (.idx (.var i) (.cint k)) Q σ:=⟨d,e,h⟩
theorem M3 {i:Nat} {d:D} (e:σ.loc i=some d) (h:wE c n b (kI2 Q d) σ):wE c n (.idx (.var i) b) Q σ:=⟨d,e,h⟩
theorem aaW {i:Nat} {d:D} (e:σ.loc i=some d) (h:Cd .len [d] Q σ):wE c n (.blt .len [.var i]) Q σ:=⟨d,e,h⟩
theorem Wg {op:Operator} {i:Nat} {k:Int} {d:D} (e:σ.loc i=some d) (h:BD op d (.int k) Q σ):wE c n (.bin op (.var i) (.cint k)) Q σ:=⟨d,e,h⟩
theorem aaX {op:Operator} {i:Nat} {d:D} (e:σ.loc i=some d) (h:wE c n b (kOp op Q d) σ):wE c n (.bin op (.var i) b) Q σ:=⟨d,e,h⟩
theorem Wh {op:Operator} {k:Int} (h:wE c n a (kBc op k Q) σ):wE c n (.bin op a (.cint k)) Q σ:=h
theorem Wi {op:CmpOp} {i:Nat} {k:Int} {d:D} (e:σ.loc i=some d) (h:CR op d (.int k) Q σ):wE c n (.cmp op (.var i) (.cint k)) Q σ:=⟨d,e,h⟩
theorem Wj {op:CmpOp} {k:Int} (h:wE c n a (kCc op k Q) σ):wE c n (.cmp op a (.cint k)) Q σ:=h
theorem Wk {elt:E} {xs:List (Nat×Str)} {k:ItK} (h:Cs c n es (fun ds σ₁=>Rq k xs (fun K σ₂=>wE c n elt K σ₂) Q ds σ₁) σ):wE c n (.comp elt xs k es) Q σ:=h
theorem NV {τ:Sto} {a b:Addr} {o o':Bool} {xs ys:List D} (h1:τ a=some (.list o xs)) (h2:τ b=some (.list o' ys)):CQ τ (.lst a) (.lst b)=Ca (Bi 50) xs ys:=by
 show (match Db τ a with | some xs=>(match Db τ b with | some ys=>Ca (Bi 50) xs ys | none=>none) | none=>none)=_
 unfold Db;rw [h1,h2]
theorem aaY {x y:Int} (h:Q (.int (x+y)) σ):BD .Add (.int x) (.int y) Q σ:=h
theorem aaZ {x y:Int} (h:Q (.int (x - y)) σ):BD .Sub (.int x) (.int y) Q σ:=h
theorem BS {x y:Int} (hm:IntMulOk x y) (h:Q (.int (x*y)) σ):BD .Mult (.int x) (.int y) Q σ:=⟨hm,h⟩
theorem El {x y:Int} (hm:y≠0) (h:Q (.int (x.fdiv y)) σ):BD .FloorDiv (.int x) (.int y) Q σ:=⟨hm,h⟩
theorem JH {x y:Int} (hm:y≠0) (h:Q (.int (x.fmod y)) σ):BD .Mod (.int x) (.int y) Q σ:=⟨hm,h⟩
theorem Kv {x y:List D} (h1:x.length<=lim) (h2:y.length<=lim) (h:Q (.tup (x ++ y)) σ):BD .Add (.tup x) (.tup y) Q σ:=⟨h1,h2,h⟩
theorem F9 {a b:Addr} {o₁ o₂:Bool} {xs ys:List D} (e1:σ.sto a=some (.list o₁ xs)) (e2:σ.sto b=some (.list o₂ ys)) (h1:xs.length<=lim) (h2:ys.length<=lim) (h:∀ l,σ.sto l=none->Q (.lst l) (σ.put l (.list true (xs ++ ys)))):BD .Add (.lst a) (.lst b) Q σ:=⟨o₁,xs,o₂,ys,e1,e2,h1,h2,h⟩
theorem Wl {x:List D} {k:Int} (h0:1<=x.length) (h1:x.length<=100) (h2:0<=k) (h3:k<=10000) (h:Q (.tup (Fy k x)) σ):BD .Mult (.tup x) (.int k) Q σ:=⟨h0,h1,h2,h3,h⟩
theorem Ga {a:Addr} {xs:List D} {k:Int} (e1:σ.sto a=some (.list true xs)) (h1:xs.length<=100) (h2:-10000<=k) (h3:k<=10000) (h:∀ l,σ.sto l=none->Q (.lst l) (σ.put l (.list true (Fy k xs)))):BD .Mult (.lst a) (.int k) Q σ:=⟨xs,e1,h1,h2,h3,h⟩
theorem f_listT {xs:List D} (hl:xs.length<=lim) (h:∀ l,σ.sto l=none->Q (.lst l) (σ.put l (.list true xs))):Cd .list [.tup xs] Q σ:=⟨hl,h⟩
theorem Wn {xs:List D} (h:Q (.tup xs) σ):Cd .tuple [.tup xs] Q σ:=h
theorem NW {a:Addr} {o:Bool} {xs:List D} (es:σ.sto a=some (.list o xs)) (hl:xs.length<=lim) (h:Q (.tup xs) σ):Cd .tuple [.lst a] Q σ:=⟨o,xs,es,hl,h⟩
theorem aa0 {x y:Int} (h:Q (.int (max x y)) σ):Cd .max [.int x,.int y] Q σ:=h
theorem aa1 {x y:Int} (h:Q (.int (min x y)) σ):Cd .min [.int x,.int y] Q σ:=h
theorem aa2 {b:Bool} (h:Q (.int (if b then 1 else 0)) σ):Cd .int [.bool b] Q σ:=h
theorem Gb {l:Addr} {ds:List D} {d:D} {k:Int} {Q:St->Prop} (es:σ.sto l=some (.list true ds)) (hl:ds.length<=lim) (h0:0<=k) (hk:k<ds.length) (h:Q (σ.put l (.list true (ds.set k.toNat d)))):HB (.lst l) (.int k) d Q σ:=.inl ⟨ds,es,hl,h0,hk,h⟩
theorem aa3 {x:Int} (h:Q (.int (-x)) σ):MK (.int x) Q σ:=h
theorem amX {x y:Int} (h:Q (.bool (decide (x<y))) σ):CR .Lt (.int x) (.int y) Q σ:=h
theorem amY {x y:Int} (h:Q (.bool (decide (x > y))) σ):CR .Gt (.int x) (.int y) Q σ:=h
theorem amZ {x y:Int} (h:Q (.bool (x==y)) σ):CR .Eq (.int x) (.int y) Q σ:=⟨x==y,rfl,h⟩
theorem am0 {x y:Int} (h:Q (.bool (!(x==y))) σ):CR .NotEq (.int x) (.int y) Q σ:=⟨x==y,rfl,h⟩
theorem c_eqD {x y:D} {b:Bool} (e:CQ σ.sto x y=some b) (h:Q (.bool b) σ):CR .Eq x y Q σ:=⟨b,e,h⟩
theorem GD {x y:D} {b:Bool} (e:CQ σ.sto x y=some b) (h:Q (.bool (!b)) σ):CR .NotEq x y Q σ:=⟨b,e,h⟩
theorem EF {ds:List D} {i:Int} {d:D} (hl:ds.length<=lim) (e:BH ds i=some d) (h:Q d σ):Dc (.tup ds) (.int i) Q σ:=⟨hl,d,e,h⟩
theorem i_lst {l:Addr} {o:Bool} {ds:List D} {i:Int} {d:D} (es:σ.sto l=some (.list o ds)) (hl:ds.length<=lim) (e:BH ds i=some d) (h:Q d σ):Dc (.lst l) (.int i) Q σ:=⟨o,ds,es,hl,d,e,h⟩
theorem aa4 {i:Int} (h:Q (.int i.natAbs) σ):Cd .abs [.int i] Q σ:=h
theorem Wo {xs:List D} (hl:xs.length<=lim) (h:Q (.int xs.length) σ):Cd .len [.tup xs] Q σ:=⟨hl,h⟩
theorem f_lenL {l:Addr} {o:Bool} {xs:List D} (es:σ.sto l=some (.list o xs)) (hl:xs.length<=lim) (h:Q (.int xs.length) σ):Cd .len [.lst l] Q σ:=⟨o,xs,es,hl,h⟩
theorem sl_lst {l:Addr} {o:Bool} {ds:List D} {lo hi:D} {p r:Option Int} (es:σ.sto l=some (.list o ds)) (e1:bound lo=some p) (e2:bound hi=some r) (hl:ds.length<=lim) (h:∀ b,σ.sto b=none->Q (.lst b) (σ.put b (.list true (Br ds p r)))):EZ (.lst l) lo hi Q σ:=⟨p,r,e1,e2,o,ds,es,hl,h⟩
theorem Wp {ds:List D} {lo hi:D} {p r:Option Int} (e1:bound lo=some p) (e2:bound hi=some r) (hl:ds.length<=lim) (h:Q (.tup (Br ds p r)) σ):EZ (.tup ds) lo hi Q σ:=⟨p,r,e1,e2,hl,h⟩
theorem ap_lst {l:Addr} {ds:List D} {d:D} (es:σ.sto l=some (.list true ds)) (hl:ds.length<=lim) (h:Q .none (σ.put l (.list true (ds ++ [d])))):Fz (.lst l) d Q σ:=⟨ds,es,hl,h⟩
theorem IA {b:Bool} {Q:Bool->St->Prop} (h:Q b σ):CK (.bool b) Q σ:=⟨b,rfl,h⟩
noncomputable def Ws (ds:List D) (i:Int):Option D:=if Nat.ble ds.length lim=true then BH ds i else none
theorem Wt {ds:List D} {i:Int} {d:D} (e:Ws ds i=some d) (h:Q d σ):Dc (.tup ds) (.int i) Q σ:=by
 unfold Ws at e
 by_cases z:Nat.ble ds.length lim=true
 ·rw [if_pos z] at e; exact ⟨Nat.le_of_ble_eq_true z,d,e,h⟩
 ·rw [if_neg z] at e; cases e
theorem tp_lim {ds:List D} (e:Nat.ble ds.length lim=true) (h:Q (.tup ds) σ):kTp Q ds σ:=⟨Nat.le_of_ble_eq_true e,h⟩
theorem aa5 {xs:List D} (e:Nat.ble xs.length lim=true) (h:Q (.int xs.length) σ):Cd .len [.tup xs] Q σ:=⟨Nat.le_of_ble_eq_true e,h⟩
theorem Se {x y:Int} (e:(y==0)=false) (h:Q (.int (x.fdiv y)) σ):BD .FloorDiv (.int x) (.int y) Q σ:=⟨beq_eq_false_iff_ne.mp e,h⟩
theorem Wu {x y:Int} (e:(y==0)=false) (h:Q (.int (x.fmod y)) σ):BD .Mod (.int x) (.int y) Q σ:=⟨beq_eq_false_iff_ne.mp e,h⟩
theorem am1 {xs:List Nat} {ds:List D} {Q:Fl->St->Prop} (e:ds.length=xs.length) (h:Q .next (Aw σ xs ds)):kU xs Q (.tup ds) σ:=⟨ds,rfl,e,h⟩
theorem aa6 {i:Int} (h:Q (.bool true) σ):Gx (.int i) .int Q σ:=h
theorem aa7 {i:Int} (h:Q (.bool false) σ):Gx (.int i) .bool Q σ:=h
theorem aa8 {ds:List D} (h:Q (.bool true) σ):Gx (.tup ds) .tuple Q σ:=h
theorem aa9 {b:Bool} {A B:Prop} (e:b=false) (h:B):if b=true then A else B:=by rw [e]; exact h
theorem aba {b:Bool} {A B:Prop} (e:b=true) (h:A):if b=true then A else B:=by rw [e]; exact h
theorem abb {b:Bool} {A B:Prop} (e:b=false) (h:B):if b=(BoolOp.Or==.Or) then A else B:=by rw [e]; exact h
theorem abc {b:Bool} {A B:Prop} (e:b=true) (h:A):if b=(BoolOp.Or==.Or) then A else B:=by rw [e]; exact h
theorem abd {b:Bool} {A B:Prop} (e:b=true) (h:B):if b=(BoolOp.And==.Or) then A else B:=by rw [e]; exact h
theorem abe {Q:Bool->St->Prop} (h:wT c n a (kTn Q) σ):wT c n (.not a) Q σ:=h
theorem Wv {Q:Bool->St->Prop} {op:BoolOp} (h:J7 c n op es Q σ):wT c n (.bool op es) Q σ:=h
theorem NX {Q:Bool->St->Prop} {op:BoolOp} (h:Q (op==.And) σ):J7 c n op [] Q σ:=h
theorem Sf {Q:Bool->St->Prop} {op:BoolOp} (h:wT c n e (kTs c n op es Q) σ):J7 c n op (e :: es) Q σ:=h
theorem abf {Q:Bool->St->Prop} {op:CmpOp} (h:wE c n (.cmp op a b) (kTr Q) σ):wT c n (.cmp op a b) Q σ:=h
theorem Ww {Q:Bool->St->Prop} {f:Str} (h:wE c n (.call f es) (kTr Q) σ):wT c n (.call f es) Q σ:=h
theorem abg {Q:Bool->St->Prop} {t:Ty} (h:wE c n (.isa a t) (kTr Q) σ):wT c n (.isa a t) Q σ:=h
end
section
variable {c:Cx} {n:Nat} {Q:Fl->St->Prop} {σ:St} {e t:E} {a b:List S} {s:S} {ss:List S}
theorem g_nil (h:Q .next σ):Bo c n [] Q σ:=h
theorem NY (h:wS c n s (kN c n ss Q) σ):Bo c n (s :: ss) Q σ:=h
theorem am2 {x:Nat} (h:wE c n e (kA c n ss Q x) σ):Bo c n (.assign x e :: ss) Q σ:=h
theorem am3 (h:wE c n e (kE c n ss Q) σ):Bo c n (.expr e :: ss) Q σ:=h
theorem am4 (h:wE c n e (kR Q) σ):Bo c n (.ret e :: ss) Q σ:=h
theorem Wx {xs:List Nat} {es:List E} (h:wE c n (.tup es) (kU xs Q) σ):wS c n (.swap xs es) Q σ:=h
theorem PY {xs:List Nat} (h:wE c n e (kU xs Q) σ):wS c n (.unpack xs e) Q σ:=h
theorem NZ {o i:E} (h:wE c n e (kSo c n o i Q) σ):wS c n (.setitem o i e) Q σ:=h
theorem am5 (h:wT c n t (kIf c n a b Q) σ):wS c n (.ifs t a b) Q σ:=h
theorem Dx (I:St->Prop) (m:St->Nat) (h0:I σ) (h:∀ σ',I σ'->wT c n t (fun r σ₁=>if r=true then Bo c n b (fun fl σ₂=>match fl with
   | .next=>I σ₂/\m σ₂<m σ'
   | .cont=>I σ₂/\m σ₂<m σ'
   | .brk=>Q .next σ₂
   | .ret d=>Q (.ret d) σ₂) σ₁ else Q .next σ₁) σ'):wS c n (.whiles t b) Q σ:=⟨I,m,h0,h⟩
theorem Kw {x:Nat} {k:ItK} {es:List E} (h:wI c n k es (kFo c n b Q x) σ):wS c n (.fors [x] true k es b) Q σ:=h
theorem Sg {es:List E} {Kc:List D->(St->Prop)->St->Prop} (h:Cs c n es (kRg Kc) σ):wI c n .range es Kc σ:=h
theorem i_tup1 {e:E} {Kc:List D->(St->Prop)->St->Prop} (h:wE c n e (kIt Kc) σ):wI c n .plain [e] Kc σ:=h
theorem AM {g:St->Prop} {step:D->(Fl->St->Prop)->St->Prop} (I:Nat->St->Prop) (Rt:D->St->Prop):∀ (items:List D) (k:Nat) (σ:St),I k σ->(∀ i σ,I i σ->g σ)->
  (∀ i d σ (K:Fl->St->Prop),items[i]?=some d->I (k+i) σ->(∀ σ',I (k+i+1) σ'->K .next σ')->(∀ v σ',Rt v σ'->K (.ret v) σ')->step d K σ)->
  (∀ v σ,Rt v σ->Q (.ret v) σ)->(∀ σ,I (k+items.length) σ->Q .next σ)->Cp g step items Q σ
 | [],k,σ,hI,hg,hs,hr,hQ=>⟨hg _ _ hI,hQ σ hI⟩
 | d :: ds,k,σ,hI,hg,hs,hr,hQ=>by
  refine ⟨hg _ _ hI,hs 0 d σ _ rfl hI (fun σ' hI'=>?_) fun v σ' h=>hr v σ' h⟩;exact AM I Rt ds (k+1) σ' hI' hg (fun i d' σ₂ K e hI₂ hn hr'=>by
   have e1:k+1+i=k+(i+1):=o76;rw [e1] at hI₂ hn;exact hs (i+1) d' σ₂ K (by simpa using e) hI₂ hn hr') hr (fun σ₂ h₂=>hQ σ₂ (by rw [List.length_cons,show k+(ds.length+1)=k+1+ds.length by exact o77]; exact h₂))
theorem if_b {b:Bool} {A B:Prop} (h1:b=true->A) (h2:b=false->B):if b=true then A else B:=by
 cases b with
 | true=>exact h1 rfl
 | false=>exact h2 rfl
theorem if_or {b:Bool} {A B:Prop} (h1:b=true->A) (h2:b=false->B):if b=(BoolOp.Or==.Or) then A else B:=by
 cases b with
 | true=>exact h1 rfl
 | false=>exact h2 rfl
theorem Dj {b:Bool} {A B:Prop} (h1:b=false->A) (h2:b=true->B):if b=(BoolOp.And==.Or) then A else B:=by
 cases b with
 | true=>exact h2 rfl
 | false=>exact h1 rfl
end
noncomputable def Ae (r:Rat):D:=.tup [.int r.num,.int r.den]
noncomputable def RS (k:Nat) (r:Rat):Prop:=r.num.natAbs<2 ^ k/\r.den<2 ^ k
theorem abh {x:Rat} {Q:D->St->Prop} {σ:St} (h:Q (.int x.num) σ):Dc (Ae x) (.int 0) Q σ:=⟨zq rfl,_,rfl,h⟩
theorem abi {x:Rat} {Q:D->St->Prop} {σ:St} (h:Q (.int x.den) σ):Dc (Ae x) (.int 1) Q σ:=⟨zq rfl,_,rfl,h⟩
end Mine
namespace Mine
open PySem PySem.SeqAt PySem.W PyProof.Rows
theorem EG:∀ (ps:List Str) (vs:List Value),nodupS ps=true->vs.length=ps.length->ps.filterMap (fun n=>((ps.zip vs).lookup n).map fun x=>(n,x))=ps.zip vs/\∀ p∈ps,((ps.zip vs).lookup p).isNone=false
 | [],[],_,_=>⟨rfl,fun p hp=>by cases hp⟩
 | [],_ :: _,_,h=>by simp at h
 | _ :: _,[],_,h=>by simp at h
 | p :: ps,v :: vs,hn,h=>by
  simp only [nodupS,Bool.and_eq_true,Bool.not_eq_true',List.contains_eq_mem,decide_eq_false_iff_not] at hn;obtain ⟨h1,h2⟩:=EG ps vs hn.2 (by simpa using h);have step:∀ n∈ps,((p :: ps).zip (v :: vs)).lookup n=(ps.zip vs).lookup n:=fun n hm=>by
   rw [List.zip_cons_cons,List.lookup_cons];have:(n==p)=false:=by
    cases e:n==p with
    | false=>rfl
    | true=>rw [beq_iff_eq] at e; exact absurd (e ▸ hm) hn.1
   rw [this]
  constructor
  ·rw [List.filterMap_cons];have e:((p :: ps).zip (v :: vs)).lookup p=some v:=by rw [List.zip_cons_cons,List.lookup_cons,beq_self_eq_true]
   rw [e];simp only [Option.map_some,List.zip_cons_cons]
   congr 1
   have cong:∀ (l:List Str) (f g:Str->Option (Str×Value)),(∀ n∈l,f n=g n)->l.filterMap f=l.filterMap g:=by
    intro l f g hfg
    induction l with
    | nil=>rfl
    | cons a l ih=>rw [List.filterMap_cons,List.filterMap_cons,hfg a (.head _),ih fun n hm=>hfg n (.tail _ hm)]
   refine (cong ps _ _ fun n hm=>?_).trans h1;have:=step n hm;rw [List.zip_cons_cons] at this;rw [this]
  ·intro q hq;rcases List.mem_cons.mp hq with rfl | hq
   ·rw [List.zip_cons_cons,List.lookup_cons,beq_self_eq_true]; rfl
   ·rw [step q hq]; exact h2 q hq
theorem M4 {fd:FuncData} {ps:List Str} (hp:fd.params.posonlyargs=[]) (ha:fd.params.args.map (·.arg)=ps) (hv:fd.params.vararg=none) (hk:fd.params.kwonlyargs=[]) (hkw:fd.params.kwarg=none) (hd:fd.defaults=.none) (nd:nodupS ps=true) (vs:List Value) (hl:vs.length=ps.length):bindArgs fd ⟨vs,[]⟩=pure (ps.zip vs):=by
 obtain ⟨h1,h2⟩:=EG ps vs nd hl;have hm:List.filter (fun n=>((ps.zip vs).lookup n).isNone) (ps.take ps.length)=[]:=by rw [List.take_length]; exact List.filter_eq_nil_iff.mpr fun p hp'=>by rw [h2 p hp']; exact Bool.false_ne_true
 obtain ⟨nm,qn,⟨po,ar,va,ko,kd,kw,df⟩,bd,sc,gl,cl,dd,kwd,doc,pm,an,co,ct,bi⟩:=fd;cases hp; cases hv; cases hk; cases hkw; cases hd; cases ha;show (if (decide (vs.length > (ar.map (·.arg)).length)&&true)=true then _ else _)=_;refine (if_neg (by simp [hl])).trans ?_;rw [show ∀ n,List.drop n ((none:Option (Array Value)).getD #[]).toList=[] from fun n=>List.drop_nil];show (if (!(List.filter (fun n=>(((ar.map (·.arg)).zip vs).lookup n).isNone) ((ar.map (·.arg)).take (ar.map (·.arg)).length)).isEmpty)=true then _ else _)=_;refine (if_neg (by rw [hm]; exact Bool.false_ne_true)).trans ?_;rw [List.zip_nil_right];exact congrArg (pure (f:=Sem)) ((congrArg (List.filterMap _) (List.append_nil _)).trans h1)
noncomputable def M5 (p:Program) (f:Str):Option DefRec:=(recsOf p).find? fun d=>d.name==f
noncomputable def RB (d:DefRec) (ps vars:List Str) (ss:List S):Bool :=
 (d.params.posonlyargs.isEmpty&&(d.params.args.map (·.arg)==ps)&&d.params.vararg.isNone&&d.params.kwonlyargs.isEmpty&&d.params.kwarg.isNone) &&
  (!d.scope.isCoroutine&&!d.scope.isGenerator&&d.scope.kind==.function&&nodupS ps&&M2 d.scope.names ps vars ss d.body)
noncomputable def RD (p:Program) (f:Str) (ps vars:List Str) (ss:List S):Bool:=match M5 p f with
 | some d=>RB d ps vars ss
 | none=>false
noncomputable def M6 (p:Program) (f:Str):List Stmt:=match M5 p f with
 | some d=>d.body
 | none=>[]
noncomputable def N0 (p:Program) (f:Str):List (Str×NameKind):=match M5 p f with
 | some d=>d.scope.names
 | none=>[]
theorem PZ {c:Cx} {p:Program} {loose:List Str} {mean:ExcName->Option Value} {mb:Str->Option Value} (T:Top p loose mean c.mg mb c.B) {f:Str} {ps vars:List Str} {ss:List S} (e:RD p f ps vars ss=true) (el:Dh ss (Ko (N0 p f) vars) (M6 p f)=M6 p f):V6 c f ps vars ss:=by
 unfold RD at e;unfold M6 N0 at el;cases hd:M5 p f with
 | none=>rw [hd] at e; cases e
 | some d =>
  rw [hd] at e el;have e:RB d ps vars ss=true:=e;have el:Dh ss (Ko d.scope.names vars) d.body=d.body:=el;have hm:d∈recsOf p:=List.mem_of_find?_eq_some hd;have hd':(recsOf p).find? (fun d=>d.name==f)=some d:=hd;have hn:d.name=f:=by
   have:=List.find?_some hd';exact beq_iff_eq.mp this
  refine aaw (T.fn d hm) fun a o pm code doc h1 h2 h3 h4=>?_;obtain ⟨e,e'⟩:=and2 e;obtain ⟨e,e5⟩:=and2 e;obtain ⟨e,e4⟩:=and2 e;obtain ⟨e,e3⟩:=and2 e;obtain ⟨e1,e2⟩:=and2 e;obtain ⟨e,f5⟩:=and2 e';obtain ⟨e,f4⟩:=and2 e;obtain ⟨e,f3⟩:=and2 e;obtain ⟨f1,f2⟩:=and2 e;exact ⟨a,o,_,d.body,hn ▸ h1,h2,h3,h4,rfl,fun vs hl=>M4 (List.isEmpty_iff.mp e1) (beq_iff_eq.mp e2) (Option.isNone_iff_eq_none.mp e3) (List.isEmpty_iff.mp e4) (Option.isNone_iff_eq_none.mp e5) rfl f4 vs hl,rfl,(Bool.not_eq_true' _).mp f1,(Bool.not_eq_true' _).mp f2,beq_iff_eq.mp f3,rfl,rfl,f5,el⟩
noncomputable def P2 (prog:Program) (w:World) (B:Heap) (mg:Str->Option Value) (cs:List (Str×D)):Cx:=⟨prog,w,B,mg,fun x=>cs.lookup x⟩
noncomputable def freeL:List String:=["len","abs","max","min","int","list","tuple","sum","isinstance","bool","range","zip"]
noncomputable def Wy (p:Program) (loose:List Str) (x:Str):Bool:=!(startupNames.contains x)&&!(loose.contains x)&&!(((recsOf p).map (·.name)).contains x)&&!(((litsOf p).map (·.1)).contains x)&&!(((clssOf p loose).map (·.name)).contains x)
theorem E6 {l:List Str} {x:Str} (h:(!(l.contains x))=true):x∉l:=fun m=>by rw [List.contains_iff_mem.mpr m] at h; cases h
theorem mk_light {p:Program} {loose:List Str} {mean:ExcName->Option Value} {mg mb:Str->Option Value} {h:Heap} {prog:Program} {w:World} {cs:List (Str×D)} (T:Top p loose mean mg mb h) (hs:importsNone p=true) (ht:prog.given.tree=none) (ef:(freeL.all fun x=>Wy p loose (Str.ofString x))=true)
  (hc:∀ x d,cs.lookup x=some d->∃ v,mg x=some v/\Rep h v d):CxOK (P2 prog w h mg cs):=by
 refine ⟨T.g,⟨mb,T.b,T.builtins⟩,T.nolimit,T.seer hs,ht,hc,fun x hx=>?_⟩;have q:=List.all_eq_true.mp ef x hx;obtain ⟨q,q5⟩:=and2 q;obtain ⟨q,q4⟩:=and2 q;obtain ⟨q,q3⟩:=and2 q;obtain ⟨q1,q2⟩:=and2 q;exact T.free _ (E6 q1) (E6 q2) (E6 q3) (E6 q4) (E6 q5)
end Mine
namespace Mine
open PySem
noncomputable def cf (p:LR) (i:Nat):Rat:=(p[i]?).getD 0
theorem HQ (i:Nat):cf [] i=0:=rfl
theorem An {p:LR} {i:Nat} (h:p.length<=i):cf p i=0:=by unfold cf; rw [List.getElem?_eq_none h]; rfl
theorem DI {p:LR} {i:Nat} (h:i<p.length):cf p i=p[i]:=by unfold cf; rw [List.getElem?_eq_getElem h]; rfl
noncomputable def trimL:LR->LR
 | []=>[]
 | x :: xs=>match trimL xs with
  | []=>if x=0 then [] else [x]
  | y :: ys=>x :: y :: ys
theorem Ak:∀ (p:LR) (i:Nat),cf (trimL p) i=cf p i
 | [],i=>rfl
 | x :: xs,i=>by
  have ih:=Ak xs;unfold trimL;cases h:trimL xs with
  | nil =>
   rw [h] at ih;dsimp only
   by_cases hx:x=0
   ·rw [if_pos hx];cases i with
    | zero=>show (0:Rat)=x; exact hx.symm
    | succ i=>exact ih i
   ·rw [if_neg hx];cases i with
    | zero=>rfl
    | succ i=>exact ih i
  | cons y ys =>
   rw [h] at ih;cases i with
   | zero=>rfl
   | succ i=>exact ih i
noncomputable def Rw (p:LR):Prop:=p=[]\/cf p (p.length - 1)≠0
theorem rw_trim:∀ p:LR,Rw (trimL p)
 | []=>.inl rfl
 | x :: xs=>by
  have ih:=rw_trim xs;unfold trimL;cases h:trimL xs with
  | nil =>
   dsimp only
   by_cases hx:x=0
   ·rw [if_pos hx]; exact .inl rfl
   ·rw [if_neg hx]; exact .inr hx
  | cons y ys =>
   rw [h] at ih;rcases ih with ih | ih
   ·cases ih
   ·exact .inr ih
theorem trim_len:∀ p:LR,(trimL p).length<=p.length
 | []=>Nat.le_refl _
 | x :: xs=>by
  have ih:=trim_len xs;unfold trimL;cases h:trimL xs with
  | nil =>
   dsimp only
   split
   ·exact Nat.zero_le _
   ·exact Nat.succ_le_succ (Nat.zero_le _)
  | cons y ys =>
   rw [h] at ih;exact Nat.succ_le_succ ih
theorem IB {p q:LR} (hp:Rw p) (hq:Rw q) (h:∀ i,cf p i=cf q i):p=q:=by
 have le:∀ {p q:LR},Rw q->(∀ i,cf p i=cf q i)->q.length<=p.length:=fun {p q} hq h=>by
  rcases hq with rfl | hq
  ·exact Nat.zero_le _
  ·by_cases z:q.length<=p.length
   ·exact z
   ·exact absurd ((h (q.length - 1)).symm.trans (An (QL z))) hq
 have l1:=le hq h;have l2:=le hp fun i=>(h i).symm;refine List.ext_getElem (o79 l2 l1) fun i h1 h2=>?_;rw [<- DI h1,<- DI h2,h i]
theorem LD {p q:LR} (hq:Rw q) (h:∀ i,cf q i=cf p i):q=trimL p:=IB hq (rw_trim p) fun i=>(h i).trans (Ak p i).symm
theorem LE {p:LR} {s:Nat} (h:∀ i,s<=i->cf p i=0) (i:Nat):cf (p.take s) i=cf p i:=by
 by_cases hi:i<s
 ·unfold cf; rw [List.getElem?_take_of_lt hi]
 ·rw [h i (by exact CG hi),An (by rw [List.length_take]; exact o81 hi)]
theorem E7 {p:LR} {k:Nat} {v:Rat} (hk:k<p.length) (i:Nat):cf (p.set k v) i=if i=k then v else cf p i:=by
 unfold cf;rw [List.getElem?_set]
 by_cases h:i=k
 ·subst h; simp [hk]
 ·rw [if_neg (fun z=>h z.symm),if_neg h]
theorem HR (p q:LR) (i:Nat):cf (p ++ q) i=if i<p.length then cf p i else cf q (i - p.length):=by
 unfold cf;rw [List.getElem?_append]
 split <;> rfl
theorem Ce (k i:Nat):cf (List.replicate k 0) i=0:=by
 unfold cf;rw [List.getElem?_replicate]
 split <;> rfl
theorem N1 {f:Rat->Rat} (hf:f 0=0) (p:LR) (i:Nat):cf (p.map f) i=f (cf p i):=by
 unfold cf;rw [List.getElem?_map];cases p[i]? with
 | none=>exact hf.symm
 | some x=>rfl
noncomputable def sm (f:NR):NR
 | 0=>0
 | n+1=>sm f n+f n
theorem Bs {f g:NR}:∀ {n:Nat},(∀ i,i<n->f i=g i)->sm f n=sm g n
 | 0,_=>rfl
 | n+1,h=>by
  show sm f n+f n=sm g n+g n;rw [Bs fun i hi=>h i (by exact JW hi),h n (by exact QM)]
theorem IC {f:NR} {n:Nat}:∀ {m:Nat},(∀ i,n<=i->f i=0)->sm f (n+m)=sm f n
 | 0,_=>rfl
 | m+1,h=>by
  show sm f (n+m)+f (n+m)=sm f n;rw [IC h,h _ (by exact Lv),Rat.add_zero]
theorem FB (f:NR):∀ n:Nat,sm f (n+1)=f 0+sm (fun i=>f (i+1)) n
 | 0=>by show 0+f 0=f 0+0; rw [Rat.add_comm]
 | n+1=>by
  show sm f (n+1)+f (n+1)=f 0+(sm (fun i=>f (i+1)) n+f (n+1));rw [FB f n,Rat.add_assoc]
theorem Kx:∀ (n:Nat) (f:NR),sm f n=sm (fun i=>f (n - 1 - i)) n
 | 0,_=>rfl
 | n+1,f=>by
  rw [FB (fun i=>f (n+1 - 1 - i)) n];show sm f n+f n=f (n - 0)+sm (fun i=>f (n - (i+1))) n;rw [Kx n f,Rat.add_comm]
  congr 1
  exact Bs fun i hi=>by congr 1; exact Tj
noncomputable def Dk (p q:LR) (j i:Nat):Rat:=if i<=j then cf p i*cf q (j - i) else 0
noncomputable def cv (p q:LR) (j:Nat):Rat:=sm (Dk p q j) p.length
theorem GE (p q:LR) (j:Nat):cv p q j=sm (fun i=>cf p i*cf q (j - i)) (j+1):=by
 have h1:sm (Dk p q j) (p.length+(j+1))=sm (Dk p q j) p.length:=IC fun i hi=>by
  unfold Dk; split
  ·rw [An hi,Rat.zero_mul]
  ·rfl
 have h2:sm (Dk p q j) (j+1+p.length)=sm (Dk p q j) (j+1):=IC fun i hi=>if_neg (o86 hi);unfold cv;rw [<- h1,Nat.add_comm,h2];exact Bs fun i hi=>if_pos (Tk hi)
theorem cv_comm (p q:LR) (j:Nat):cv p q j=cv q p j:=by
 rw [GE,GE,Kx];refine Bs fun i hi=>?_;show cf p (j+1 - 1 - i)*cf q (j - (j+1 - 1 - i))=_;rw [Rat.mul_comm,show j+1 - 1 - i=j - i by exact o88,show j - (j - i)=i by exact o89 hi]
theorem RS.mono {k l:Nat} {x:Rat} (h:RS k x) (hl:k<=l):RS l x:=⟨Nat.lt_of_lt_of_le h.1 (Nat.pow_le_pow_right (by decide) hl),Nat.lt_of_lt_of_le h.2 (Nat.pow_le_pow_right (by decide) hl)⟩
theorem ID {k:Nat} (h:1<=k):RS k 0:=RS.mono (k:=1) ⟨by decide,by decide⟩ h
theorem EH {t b:Int} {k:Nat} (hb:b≠0) (h1:t.natAbs<2 ^ k) (h2:b.natAbs<2 ^ k):RS k (Rat.divInt t b):=by
 unfold RS;rw [Rat.num_divInt,Rat.den_divInt,if_neg hb];refine ⟨?_,Nat.lt_of_le_of_lt (Nat.div_le_self _ _) h2⟩;refine Nat.lt_of_le_of_lt (Int.natAbs_ediv_le_natAbs _ _) ?_;rw [Int.natAbs_mul,Int.natAbs_sign_of_ne_zero hb,Nat.one_mul];exact h1
theorem pow_mul {a b:Int} {k l:Nat} (ha:a.natAbs<2 ^ k) (hb:b.natAbs<2 ^ l):(a*b).natAbs<2 ^ (k+l):=by
 rw [Int.natAbs_mul,Nat.pow_add];exact Nat.mul_lt_mul'' ha hb
theorem Bn {x:Rat} {k:Nat} (h:RS k x):(x.den:Int).natAbs<2 ^ k:=h.2
end Mine
local macro_rules | `(tactic| walk_at "m") => `(tactic| (repeat (first | ((with_reducible first | apply Mine.Sc | apply Mine.We | apply Mine.Wf | apply Mine.M3 | apply Mine.aaW | apply Mine.Wg | apply Mine.aaX | apply Mine.Wi | apply Mine.HP | apply Mine.V8); first | exact rfl | assumption) | with_reducible (first | refine Mine.am2 ?_ | refine Mine.am3 ?_ | refine Mine.am4 ?_ | refine Mine.NY ?_ | refine Mine.Wx ?_ | refine Mine.PY ?_ | refine Mine.NZ ?_ | refine Mine.am5 ?_ | refine Mine.Kw ?_ | refine Mine.g_nil ?_ | refine Mine.Wh ?_ | refine Mine.Wj ?_ | refine Mine.RA ?_ | refine Mine.aaP ?_ | refine Mine.aaT ?_ | refine Mine.aaU ?_ | refine Mine.aaV ?_ | refine Mine.Sd ?_ | refine Mine.Sb ?_ | refine Mine.Wd ?_ | refine Mine.aaL ?_ | refine Mine.V7 ?_ | refine Mine.aaM ?_ | refine Mine.aaR ?_ | refine Mine.aaO ?_ | refine Mine.aaN ?_ | refine Mine.aaS ?_ | refine Mine.PW ?_ | refine Mine.V9 ?_ | refine Mine.aaQ ?_ | refine Mine.Sa ?_ | refine Mine.PX ?_ | refine Mine.Wk ?_ | refine Mine.Wb ?_ | refine Mine.Wc ?_ | refine Mine.abe ?_ | refine Mine.Wv ?_ | refine Mine.abf ?_ | refine Mine.Ww ?_ | refine Mine.abg ?_ | refine Mine.Sf ?_ | refine Mine.NX ?_ | refine Mine.IA ?_ | refine Mine.aaY ?_ | refine Mine.aaZ ?_ | refine Mine.aa3 ?_ | refine Mine.amX ?_ | refine Mine.amY ?_ | refine Mine.amZ ?_ | refine Mine.am0 ?_ | refine Mine.aa4 ?_ | refine Mine.aa2 ?_ | refine Mine.aa0 ?_ | refine Mine.aa1 ?_ | refine Mine.Sg ?_ | refine Mine.i_tup1 ?_ | refine Mine.aa6 ?_ | refine Mine.aa7 ?_ | refine Mine.aa8 ?_ | refine Mine.abh ?_ | refine Mine.abi ?_) | ((with_reducible first | apply Mine.Wt | apply Mine.tp_lim | apply Mine.aa5 | apply Mine.Se | apply Mine.Wu | apply Mine.am1); exact rfl) | ((with_reducible apply Mine.aa9); exact rfl) | ((with_reducible apply Mine.aba); exact rfl) | ((with_reducible apply Mine.abb); exact rfl) | ((with_reducible apply Mine.abc); exact rfl) | ((with_reducible apply Mine.abd); exact rfl) | ((with_reducible apply Mine.Wa); first | (apply And.left; assumption) | exact Mine.FnK.isFn (by assumption)))))
namespace Mine
open PySem
theorem CL {a b:Int} {k:Nat} (ha:a.natAbs<2 ^ k) (hb:b.natAbs<2 ^ k) (hk:k<=33554432):IntMulOk a b:=by
 have bits:∀ x:Int,x.natAbs<2 ^ k->Builtin.Int.intBits x<=k:=fun x hx=>by
  unfold Builtin.Int.intBits
  split
  ·exact Nat.zero_le _
  ·rename_i h0;have hn:x.natAbs≠0:=fun z=>h0 (by simpa using z);have:=(Nat.log2_lt hn).mpr hx;exact JU this
 have h1:=bits a ha;have h2:=bits b hb;unfold IntMulOk;have:Builtin.Int.intTooBig (Builtin.Int.intBits a+Builtin.Int.intBits b)=false:=by
  unfold Builtin.Int.intTooBig;have:(bitsLine:Int)>=67108864:=by decide
  simp only [decide_eq_false_iff_not];exact o90 this hk h2 h1
 rw [this]; simp
theorem IE {t b:Int} (hb:b≠0):t.fdiv (if b<0 then 0 - (Int.gcd t b:Int) else Int.gcd t b)=(Rat.divInt t b).num:=by
 have hg:(0:Int)<Int.gcd t b:=by
  have:=Int.gcd_pos_of_ne_zero_right t hb;exact NB this
 rw [Rat.num_divInt,Int.gcd_comm b t];obtain ⟨k,hk⟩:=Int.gcd_dvd_left t b;generalize (Int.gcd t b:Int)=g at *;subst hk
 split
 ·rename_i h;rw [Int.sign_eq_neg_one_of_neg h,show g*k=(0 - g)*(-k) by grind,Int.mul_fdiv_cancel_left _ (by exact o92 hg),show -1*((0 - g)*-k)=g*(-k) by grind,Int.mul_ediv_cancel_left _ (by exact EY hg)]
 ·rename_i h;rw [Int.sign_eq_one_of_pos (by exact o94 hb h),Int.mul_fdiv_cancel_left _ (by exact EY hg),Int.one_mul,Int.mul_ediv_cancel_left _ (by exact EY hg)]
theorem IG {t b:Int} (hb:b≠0):b.fdiv (if b<0 then 0 - (Int.gcd t b:Int) else Int.gcd t b)=((Rat.divInt t b).den:Int):=by
 have hg:(0:Int)<Int.gcd t b:=by
  have:=Int.gcd_pos_of_ne_zero_right t hb;exact NB this
 rw [Rat.den_divInt,if_neg hb,Int.gcd_comm b t];obtain ⟨k,hk⟩:=Int.gcd_dvd_right t b;have hn:((b.natAbs / Int.gcd t b:Nat):Int)=(b.natAbs:Int) / (Int.gcd t b:Int):=by push_cast; rfl
 rw [hn];generalize (Int.gcd t b:Int)=g at *;subst hk
 split
 ·rename_i h;rw [show ((g*k).natAbs:Int)=g*(-k) by rw [Int.mul_neg]; exact o95 h,show g*k=(0 - g)*(-k) by grind,Int.mul_fdiv_cancel_left _ (by exact o92 hg),Int.mul_ediv_cancel_left _ (by exact EY hg)]
 ·rename_i h;rw [show ((g*k).natAbs:Int)=g*k by exact o96 h,Int.mul_fdiv_cancel_left _ (by exact EY hg),Int.mul_ediv_cancel_left _ (by exact EY hg)]
theorem Ky {x y:Int} (hx:0<=x) (hy:0<=y):Int.gcd y (x % y)=Int.gcd x y:=by
 obtain ⟨m,rfl⟩:=Int.eq_ofNat_of_zero_le hx;obtain ⟨k,rfl⟩:=Int.eq_ofNat_of_zero_le hy;show Nat.gcd k ((m:Int) % (k:Int)).natAbs=Nat.gcd m k;rw [<- Int.natCast_emod,Int.natAbs_natCast,Nat.gcd_comm k,<- Nat.gcd_rec,Nat.gcd_comm]
noncomputable def B6:List S:=[
  .assign 2 (.blt .abs [.var 0]),
  .assign 3 (.blt .abs [.var 1]),
  .whiles (.cmp .Gt (.var 3) (.cint 0)) [.assign 4 (.bin .Mod (.var 2) (.var 3)),.assign 2 (.var 3),.assign 3 (.var 4)],
  .ret (.var 2)]
section
variable {c:Cx} (CO:CxOK c)
include CO
theorem EI {n:Nat} {f:Str} (hf:FnK c f 2 B6) {a b:Int} {sto:Sto} {Q:D->Sto->Prop} (h:Q (.int (Int.gcd a b)) sto):Ah c (n+1) f [.int a,.int b] sto Q:=by
 refine fn_call CO hf rfl ?_;unfold B6;walk_at "m";refine Dx (fun σ=>∃ x y:Int,σ.loc 2=some (.int x)/\σ.loc 3=some (.int y)/\0<=x/\0<=y/\Int.gcd x y=Int.gcd a b) (fun σ=>match σ.loc 3 with | some (.int y)=>y.toNat | _=>0) ?_ ?_
 ·exact ⟨a.natAbs,b.natAbs,rfl,rfl,Tl,Tl,by simp [Int.gcd]⟩
 intro σ' q138_; refine xq2_5 q138_ fun x y h2 h3 hx hy hg=>?_; clear q138_;walk_at "m";refine if_b (fun hb=>?_) fun hb=>?_
 ·have hb':y > 0:=by simpa using hb
  walk_at "m";refine JH (EY hb') ?_;walk_at "m";have e:x.fmod y=x % y:=Int.fmod_eq_emod_of_nonneg x hy;have m1:=Int.emod_nonneg x (show y≠0 by exact EY hb');have m2:=Int.emod_lt_of_pos x hb';refine ⟨⟨y,x.fmod y,rfl,rfl,hy,o98 e m1,?_⟩,?_⟩
  ·rw [e,<- hg,Ky hx hy]
  ·show (x.fmod y).toNat<_;rw [h3];show (x.fmod y).toNat<y.toNat;exact o99 e hb' m2
 ·have hb':y=0:=by simp at hb; exact o4 hy hb
  subst hb';walk_at "m";refine ret_plain ?_;have:x=(Int.gcd a b:Int):=by rw [<- hg]; simp [Int.gcd]; exact Tm hx
  rw [this]; exact h
noncomputable def FC:List S:=[
  .ifs (.cmp .Eq (.var 1) (.cint 0)) [.raise "Nought" "by nought"] [],
  .assign 2 (.call "divisor_of" [.var 0,.var 1]),
  .ifs (.cmp .Lt (.var 1) (.cint 0)) [.assign 2 (.bin .Sub (.cint 0) (.var 2))] [],
  .ret (.tup [.bin .FloorDiv (.var 0) (.var 2),.bin .FloorDiv (.var 1) (.var 2)])]
end
noncomputable def CB:List S:=[
  .ifs (.cmp .Lt (.var 1) (.blt .len [.var 0])) [.ret (.idx (.var 0) (.var 1))] [],
  .ret (.cint 0)]
noncomputable def BP:List S:=[
  .assign 2 (.lst []),
  .assign 3 (.bin .Add (.bin .Mod (.var 0) (.cint 2147483647)) (.cint 48271)),
  .fors [4] true .range [.bin .Add (.var 1) (.cint 1)] [.assign 3 (.bin .Mod (.bin .Add (.bin .Add (.bin .Mult (.var 3) (.var 3)) (.bin .Mult (.cint 48271) (.var 3))) (.var 4)) (.cint 2147483647)),.expr (.append (.var 2) (.var 3))],
  .ret (.slice (.var 2) (some (.cint 1)) none)]
noncomputable def Bt:List S:=[
  .whiles (.cmp .Gt (.var 0) (.cint 0)) [.swap [0,1] [.bin .Mod (.var 1) (.var 0),.var 0]],
  .ret (.var 1)]
noncomputable def BA:List S:=[
  .ifs (.cmp .Lt (.var 1) (.cint 0)) [.assign 0 (.neg (.var 0)),.assign 1 (.neg (.var 1))] [],
  .assign 2 (.call "_law_divisor" [.blt .abs [.var 0],.var 1]),
  .ret (.tup [.bin .FloorDiv (.var 0) (.var 2),.bin .FloorDiv (.var 1) (.var 2)])]
theorem Bk (x:Rat):(x.den:Int)≠0:=by have:=x.den_nz; exact aci this
theorem Sh (x y:Rat):Rat.divInt (x.num*y.den+y.num*x.den) (x.den*y.den)=x+y:=by
 rw [<- Rat.divInt_add_divInt x.num y.num (Bk x) (Bk y),Rat.num_divInt_den,Rat.num_divInt_den]
theorem LF (x y:Rat):Rat.divInt (x.num*y.num) (x.den*y.den)=x*y:=by
 rw [<- Rat.divInt_mul_divInt x.num y.num,Rat.num_divInt_den,Rat.num_divInt_den]
theorem LG (x y:Rat):Rat.divInt (x.num*y.den) (x.den*y.num)=x / y:=by
 rw [Rat.div_def,<- Rat.divInt_mul_divInt x.num y.den,Rat.num_divInt_den,<- Rat.inv_divInt,Rat.num_divInt_den]
section
variable {c:Cx} (CO:CxOK c)
include CO
theorem Kz {n:Nat} (hf:FnK c "_law_cell_at" 2 CB) {a:Addr} {is:List Int} {i:Int} {sto:Sto} {o:Bool} (hs:sto a=some (.list o (is.map D.int))) (hl:is.length<=1000) (hi:0<=i) {Q:D->Sto->Prop} (h:∀ z,Q (.int z) sto):Ah c (n+1) "_law_cell_at" [.lst a,.int i] sto Q:=by
 refine fn_call CO hf rfl ?_;have hs':Sto.ro sto a=some (.list false (is.map D.int)):=by unfold Sto.ro; rw [hs]; rfl
 have hlim:(is.map D.int).length<=lim:=by simp [lim]; exact Tn hl
 unfold CB;walk_at "m";refine f_lenL hs' hlim ?_;walk_at "m";refine if_b (fun hb=>?_) fun hb=>?_
 ·have hb':i<is.length:=by simpa using hb
  have e:BH (is.map D.int) i=some (.int is[i.toNat]):=by
   unfold BH;rw [if_pos hi];simp
  walk_at "m";refine i_lst hs' hlim e ?_;walk_at "m";exact ret_plain (h _)
 ·walk_at "m";exact ret_plain (h _)
end
theorem Bg (a b:Int):(Bm a b).length=(b - a).toNat:=by simp [Bm]
theorem Bh {a b:Int} {i:Nat} {d:D} (h:(Bm a b)[i]?=some d):i<(b - a).toNat/\d=.int (a+i):=by
 have hi:=(List.getElem?_eq_some_iff.mp h).1;rw [Bg] at hi;refine ⟨hi,?_⟩;unfold Bm at h;rw [List.getElem?_map,List.getElem?_range hi] at h;simpa using h.symm
theorem EQ (a b:Int):(BO a b).length=(a - b).toNat:=by simp [BO]
theorem ER {a b:Int} {i:Nat} {d:D} (h:(BO a b)[i]?=some d):i<(a - b).toNat/\d=.int (a - i):=by
 have hi:=(List.getElem?_eq_some_iff.mp h).1;rw [EQ] at hi;refine ⟨hi,?_⟩;unfold BO at h;rw [List.getElem?_map,List.getElem?_range hi] at h;simpa using h.symm
theorem P3 {α:Type} (l:List α):Br l (some 1) none=l.drop 1:=by
 unfold Br cutAt;cases l with
 | nil=>rfl
 | cons a l=>simp
section
variable {c:Cx} (CO:CxOK c)
include CO
theorem DJ {n:Nat} (hf:FnK c "_law_stream" 2 BP) {z:Int} {m:Nat} (hm:m<=1000) {sto:Sto} {Q:D->Sto->Prop}
  (h:∀ (xs:List Int) l,xs.length=m->(∀ x∈xs,0<=x/\x<2147483647)->sto l=none->Q (.lst l) (Sto.put sto l (.list true (xs.map D.int)))):Ah c (n+1) "_law_stream" [.int z,.int m] sto Q:=by
 refine fn_call CO hf rfl ?_;unfold BP;walk_at "m";refine ⟨zq rfl,fun l hl=>?_⟩;walk_at "m";refine ⟨by simp [smallI]; exact acj hm,_,rfl,?_⟩;refine AM (fun k σ=>∃ (xs:List Int) (y:Int),xs.length=k/\(∀ x∈xs,0<=x/\x<2147483647)/\σ.loc 2=some (.lst l)/\σ.loc 3=some (.int y)/\0<=y/\y<4294967296/\σ.sto l=some (.list true (xs.map D.int))) (fun _ _=>False) _ 0 _ ?_ (fun _ _ _=>trivial) ?_ (fun _ _ z=>z.elim) ?_
 ·have e:z.fmod 2147483647=z % 2147483647:=Int.fmod_eq_emod_of_nonneg z (by decide);refine ⟨[],_,rfl,by simp,rfl,rfl,ack e,acl e,?_⟩;show Sto.put _ _ _ _=_;simp [Sto.put]
 ·intro i d σ K hd q139_ hn hr; refine xq2_7 q139_ fun xs y hxl hxs h2 h3 hy0 hy1 hst=>?_; clear q139_;obtain ⟨hi,hdd⟩:=Bh hd;rw [Int.zero_add] at hdd;subst hdd;walk_at "m";refine BS (CL (k:=32) (OS hy0 hy1) (OS hy0 hy1) (OT)) ?_;walk_at "m";refine BS (CL (k:=32) (acm) (OS hy0 hy1) (OT)) ?_;walk_at "m";refine ⟨⟨l,_,rfl,hst⟩,?_⟩;walk_at "m";refine ap_lst hst (by simp [lim]; exact acn hxl hm hi) ?_;walk_at "m";refine hn _ ⟨xs ++ [(y*y+48271*y+i).fmod 2147483647],_,by simp [hxl],?_,h2,rfl,?_,?_,?_⟩
  ·intro x hx;have e:(y*y+48271*y+i).fmod 2147483647=(y*y+48271*y+i) % 2147483647:=Int.fmod_eq_emod_of_nonneg _ (by decide);rcases List.mem_append.mp hx with hx | hx
   ·exact hxs x hx
   ·rw [List.mem_singleton.mp hx,e]; exact aco e
  ·have e:(y*y+48271*y+i).fmod 2147483647=(y*y+48271*y+i) % 2147483647:=Int.fmod_eq_emod_of_nonneg _ (by decide);exact acp e
  ·have e:(y*y+48271*y+i).fmod 2147483647=(y*y+48271*y+i) % 2147483647:=Int.fmod_eq_emod_of_nonneg _ (by decide);exact acq e
  ·show Sto.put _ _ _ _=_;simp [Sto.put]
 ·intro σ q140_; refine xq2_7 q140_ fun xs y hxl hxs h2 h3 hy0 hy1 hst=>?_; clear q140_;have hxl':xs.length=m+1:=by rw [hxl,Bg]; exact acr
  walk_at "m";refine sl_lst hst rfl rfl (by simp [lim]; exact acs hxl' hm) fun b hb=>?_;refine Ek (l:=b) (xs:=(xs.drop 1).map D.int) ?_ fun hb'=>h (xs.drop 1) b (by simp; exact act hxl') (fun x hx=>hxs x (List.mem_of_mem_drop hx)) hb';show Sto.put _ _ _ _=_;simp only [Sto.put,if_true];rw [P3,List.map_drop]
theorem Hb {n:Nat} (hf:FnK c "_law_divisor" 2 Bt) {a b:Int} (ha:0<=a) (hb:0<=b) {sto:Sto} {Q:D->Sto->Prop} (h:Q (.int (Int.gcd a b)) sto):Ah c (n+1) "_law_divisor" [.int a,.int b] sto Q:=by
 refine fn_call CO hf rfl ?_;unfold Bt;walk_at "m";refine Dx (fun σ=>∃ x y:Int,σ.loc 0=some (.int x)/\σ.loc 1=some (.int y)/\0<=x/\0<=y/\Int.gcd y x=Int.gcd a b) (fun σ=>match σ.loc 0 with | some (.int y)=>y.toNat | _=>0) ?_ ?_
 ·exact ⟨a,b,rfl,rfl,ha,hb,Int.gcd_comm ..⟩
 intro σ' q141_; refine xq2_5 q141_ fun x y h2 h3 hx hy hg=>?_; clear q141_;walk_at "m";refine if_b (fun hb=>?_) fun hb=>?_
 ·have hb':x > 0:=by simpa using hb
  walk_at "m";refine JH (EY hb') ?_;walk_at "m";have e:y.fmod x=y % x:=Int.fmod_eq_emod_of_nonneg y hx;have m1:=Int.emod_nonneg y (show x≠0 by exact EY hb');have m2:=Int.emod_lt_of_pos y hb';refine ⟨⟨y.fmod x,x,rfl,rfl,o98 e m1,hx,?_⟩,?_⟩
  ·rw [e,<- hg,Ky hy hx]
  ·show (y.fmod x).toNat<_;rw [h2];show (y.fmod x).toNat<x.toNat;exact acu e m1 m2
 ·have hb':x=0:=by simp at hb; exact o4 hx hb
  subst hb';walk_at "m";refine ret_plain ?_;have:y=(Int.gcd a b:Int):=by rw [<- hg]; simp [Int.gcd]; exact Tm hy
  rw [this]; exact h
theorem CI {n:Nat} (hf:FnK c "_law_fraction" 2 BA) (hd:FnK c "_law_divisor" 2 Bt) {t b:Int} (hb:b≠0) {sto:Sto} {Q:D->Sto->Prop} (h:Q (Ae (Rat.divInt t b)) sto):Ah c (n+2) "_law_fraction" [.int t,.int b] sto Q:=by
 refine fn_call CO hf rfl ?_;unfold BA;walk_at "m";have main:∀ (σ:St) (t' b':Int),σ.loc 0=some (.int t')->σ.loc 1=some (.int b')->0<b'->Rat.divInt t' b'=Rat.divInt t b->
   Bo c (n+1) [.assign 2 (.call "_law_divisor" [.blt .abs [.var 0],.var 1]),.ret (.tup [.bin .FloorDiv (.var 0) (.var 2),.bin .FloorDiv (.var 1) (.var 2)])] (Ej sto Q) σ:=by
  intro σ t' b' h0 h1 hpos he;have hg:(0:Int)<Int.gcd t' b':=by
   have:=Int.gcd_pos_of_ne_zero_right t' (show b'≠0 by exact EY hpos);exact NB this
  have hg':Int.gcd (t'.natAbs:Int) b'=Int.gcd t' b':=by simp [Int.gcd]
  walk_at "m";refine Hb CO hd (by exact Tl) (by exact To hpos) ?_;rw [hg'];walk_at "m";refine El (Mg hg) ?_;walk_at "m";refine El (Mg hg) ?_;walk_at "m";refine ret_plain ?_;have:=h;rw [<- he] at this;unfold Ae at this;rw [<- IE (show b'≠0 by exact EY hpos),<- IG (show b'≠0 by exact EY hpos),if_neg (show ¬ b'<0 by exact acv hpos)] at this;exact this
 clear hd;refine if_b (fun hl=>?_) fun hl=>?_
 ·have hl':b<0:=by simpa using hl
  walk_at "m";exact main _ (-t) (-b) rfl rfl (acw hl') (by rw [Rat.neg_divInt_neg])
 ·have hl':¬ b<0:=by simpa using hl
  walk_at "m";exact main _ t b rfl rfl (o94 hb hl') rfl
end
noncomputable def Ct:List S:=[
  .ret (.bool .And [.isa (.var 0) .int,.not (.isa (.var 0) .bool)])]
noncomputable def N2 (w:Str) (dv:E):List S:=[
  .ifs (.bool .Or [.not (.isa (.var 0) .tuple),.cmp .NotEq (.blt .len [.var 0]) (.cint 2),.not (.call w [.idx (.var 0) (.cint 0)]),.not (.call w [.idx (.var 0) (.cint 1)])]) [.ret (.cbool false)] [],
  .ret (.bool .And [.cmp .Gt (.idx (.var 0) (.cint 1)) (.cint 0),.cmp .Eq dv (.cint 1)])]
noncomputable def CS:List S:=[
  .ifs (.cmp .Lt (.bin .Mod (.var 0) (.cint 8)) (.cint 5)) [.ret (.tup [.bin .Sub (.bin .Mod (.bin .FloorDiv (.var 0) (.cint 8)) (.cint 13)) (.cint 6),.cint 1])] [],
  .ifs (.cmp .Gt (.bin .Mod (.bin .FloorDiv (.var 0) (.cint 8)) (.cint 16)) (.cint 0)) [.ret (.call "_law_fraction" [.bin .Sub (.bin .Mod (.bin .FloorDiv (.var 0) (.cint 128)) (.cint 25)) (.cint 12),.bin .Add (.cint 1) (.bin .Mod (.bin .FloorDiv (.var 0) (.cint 3200)) (.cint 9))])] [],
  .ret (.call "_law_fraction" [.bin .Sub (.bin .Mod (.bin .FloorDiv (.bin .Mult (.var 0) (.var 0)) (.cint 128)) (.cint 2000001)) (.cint 1000000),.bin .Add (.cint 1) (.bin .Mod (.bin .FloorDiv (.var 0) (.cint 128)) (.idx (.lst [.cint 1,.cint 1000]) (.bin .Mod (.bin .FloorDiv (.var 0) (.cint 128000)) (.cint 2))))])]
section
variable {c:Cx} (CO:CxOK c)
include CO
theorem HS {n:Nat} {f:Str} (hf:FnK c f 1 Ct) {i:Int} {sto:Sto} {Q:D->Sto->Prop} (h:Q (.bool true) sto):Ah c (n+1) f [.int i] sto Q:=by
 refine fn_call CO hf rfl ?_;unfold Ct;walk_at "m";exact ret_plain h
theorem EJ {n:Nat} (hf:FnK c "_law_number" 1 CS) (hd:FnK c "_law_divisor" 2 Bt) (hw:FnK c "_law_fraction" 2 BA)
  {x:Int} (hx:0<=x/\x<2147483647) {sto:Sto} {Q:D->Sto->Prop} (h:∀ r:Rat,r.num.natAbs<=1000000->r.den<=1000->Q (Ae r) sto):Ah c (n+3) "_law_number" [.int x] sto Q:=by
 refine fn_call CO hf rfl ?_;unfold CS;have fm:∀ (a:Int) (b:Int),0<b->a.fmod b=a % b:=fun a b hb=>Int.fmod_eq_emod_of_nonneg a (To hb);have fr:∀ (t b:Int),b≠0->t.natAbs<=1000000->b.natAbs<=1000->(Rat.divInt t b).num.natAbs<=1000000/\(Rat.divInt t b).den<=1000:=fun t b hb h1 h2=>by
  rw [Rat.num_divInt,Rat.den_divInt,if_neg hb];refine ⟨?_,Nat.le_trans (Nat.div_le_self _ _) h2⟩;refine Nat.le_trans (Int.natAbs_ediv_le_natAbs _ _) ?_;rw [Int.natAbs_mul];have:b.sign.natAbs=1:=by rw [Int.natAbs_sign_of_ne_zero hb]
  rw [this,Nat.one_mul]; exact h1
 have key:∀ i:Int,i.natAbs<=1000000->Q (.tup [.int i,.int 1]) sto:=fun i hi=>by
  have:=h (i:Rat) (by simpa using hi) (by simp);simpa [Ae] using this
 walk_at "m";refine if_b (fun hb=>?_) fun hb=>?_
 ·walk_at "m";refine ret_plain ?_;exact key _ (by rw [fm _ _ (by decide)]; exact acx)
 walk_at "m";refine if_b (fun hb=>?_) fun hb=>?_
 ·walk_at "m";have e1:=fm (x.fdiv 128) 25 (by decide);have e2:=fm (x.fdiv 3200) 9 (by decide);refine CI CO hw hd (Tq e2) ?_;obtain ⟨f1,f2⟩:=fr ((x.fdiv 128).fmod 25 - 12) (1+(x.fdiv 3200).fmod 9) (Tq e2) (acy e1) (acz e2);exact ret_plain (h _ f1 f2)
 walk_at "m";refine BS (CL (k:=32) (Tr hx) (Tr hx) (OT)) ?_;walk_at "m";refine ⟨zq rfl,fun l hl=>?_⟩;walk_at "m";have e3:=fm (x.fdiv 128000) 2 (by decide);have e1:=fm ((x*x).fdiv 128) 2000001 (by decide);have hst:∀ σ:St,(σ.put l (.list true [.int 1,.int 1000])).sto l=some (.list true [.int 1,.int 1000]):=fun σ=>by simp [St.put,Sto.put]
 have tail:∀ k:Int,(k=1\/k=1000)->∀ σ:St,BD .Mod (.int (x.fdiv 128)) (.int k) (fun y σ₂=>BD .Add (.int 1) y (fun d σ₁=>Cs c (n+2) [] (fun ds σ₂=>Ah c (n+2) "_law_fraction" (D.int (((x*x).fdiv 128).fmod 2000001 - 1000000) :: d :: ds) σ₂.sto (fun d sto'=>Ej sto Q (.ret d) { σ₂ with sto:=sto' })) σ₁) σ₂) σ:=fun k hk σ=>by
  refine JH (Ts hk) ?_;walk_at "m";have e2:=fm (x.fdiv 128) k (Tu hk);have:=Int.emod_nonneg (x.fdiv 128) (show k≠0 by exact Ts hk);have:=Int.emod_lt_of_pos (x.fdiv 128) (show 0<k by exact Tu hk);refine CI CO hw hd (by omega) ?_;obtain ⟨f1,f2⟩:=fr (((x*x).fdiv 128).fmod 2000001 - 1000000) (1+(x.fdiv 128).fmod k) (by omega) (acA e1) (by omega);exact ret_plain (h _ f1 f2)
 rcases (by exact o129 e3:(x.fdiv 128000).fmod 2=0\/(x.fdiv 128000).fmod 2=1) with z | z
 ·rw [z];exact i_lst (hst _) (zq rfl) rfl (tail 1 (.inl rfl) _)
 ·rw [z];exact i_lst (hst _) (zq rfl) rfl (tail 1000 (.inr rfl) _)
end
theorem put_same {s:Sto} {l:Addr} {k:Cell}:Sto.put s l k l=some k:=by simp [Sto.put]
theorem put_ne {s:Sto} {l l':Addr} {k:Cell} (h:l'≠l):Sto.put s l k l'=s l':=by simp [Sto.put,h]
theorem put_old {s:Sto} {l l':Addr} {k k':Cell} (h:s l=none) (h':s l'=some k'):Sto.put s l k l'=some k':=by
 rw [put_ne (fun z=>by rw [z,h] at h'; cases h')]; exact h'
noncomputable def LNums (c:Cx):Prop :=
 FnK c "_law_cell_at" 2 CB/\
 FnK c "_law_stream" 2 BP/\
 FnK c "_law_divisor" 2 Bt/\
 FnK c "_law_fraction" 2 BA/\
 FnK c "_law_number" 1 CS
section
variable {c:Cx} (h_:LNums c)
def LNums.cell_at:=h_.1
def LNums.stream:=h_.2.1
def LNums.divisor:=h_.2.2.1
def LNums.fraction:=h_.2.2.2.1
def LNums.number:=h_.2.2.2.2
end
theorem rs_of {x:Rat} (h1:x.num.natAbs<=1000000) (h2:x.den<=1000):RS 20 x:=⟨acB h1,acC h2⟩
theorem BJ {a b:Int} {A B:Nat} (ha:a.natAbs<=A) (hb:b.natAbs<=B):(a*b).natAbs<=A*B:=by
 rw [Int.natAbs_mul]; exact Nat.mul_le_mul ha hb
section
open PySem.W PyProof.Rows
theorem N3 {h:Heap}:∀ {vs:List Value} {is:List Int},IntsAre vs is->Reps h vs (is.map D.int):=by
 intro vs is hI
 induction hI with
 | nil=>exact .nil
 | cons=>rename_i ih; exact .cons (.int _ _) ih
theorem Si {c:Cx} {f:Str} {fa la:Addr} {vs:List Value} {is:List Int} {n:Nat} {s₁:Shared} {P:Value->Shared->Prop} {E:Value->Shared->Prop} (hB:c.B=s₁.heap) (hmg:c.mg f=some (.ref fa)) (hL:s₁.heap.IsList la vs.toArray) (hI:IntsAre vs is) (hn:n<100)
  (h:Ah c n f [.lst la] (fun b=>if b=la then some (.list false (is.map D.int)) else none) (fun d _=>d=.bool true))
  (hP:∀ h' t,(∀ b o,s₁.heap.get? b=some o->h'.get? b=some o)->P (.bool true) { s₁ with heap:=h',toks:=t }) :
  wpAny (model c.prog c.w) callerA (call (.ref fa) [.ref la]) P E s₁:=by
 refine xq3_4 h fun a o fd h1 h2 h3 h4=>?_;rw [hmg] at h1; cases h1;refine wpAny_call (codeAny_mono (h4 callerA [] s₁ [.ref la] rfl rfl (by show 301+n<800; exact o132 hn) (by show 4+4*n<9000; exact o133 hn) (fun b o e=>by rw [hB] at e; exact e) (.cons (.lst la) .nil) fun b k e=>?_) fun r s' hr=>?_)
 ·by_cases hb:b=la
  ·subst hb;have e':some (Cell.list false (is.map D.int))=some k:=by simpa using e
   cases e';exact ⟨s₁.heap,vs,hL,(fun z=>nomatch z),N3 hI⟩
  ·have e':(none:Option Cell)=some k:=by simpa [hb] using e
   cases e'
 ·obtain ⟨⟨h',t,rfl⟩,hk,hr⟩:=hr;cases r with
  | ok x=>cases x with
   | ret v =>
    refine xq2_3 hr fun d sto' rv _ hd=>?_;subst hd;cases rv;exact hP h' t hk
   | _=>exact (show False from hr).elim
  | error e=>exact (show False from hr).elim
end
noncomputable def rowD (p:LR):D:=.tup (p.map Ae)
noncomputable def Cb (k:Nat) (p:LR):Prop:=∀ i,RS k (cf p i)
theorem Dy {a b:Int} {k l:Nat} (ha:a.natAbs<2 ^ k) (hb:b.natAbs<2 ^ l) (hk:k+l<=134217728):IntMulOk a b:=by
 have bits:∀ (x:Int) (k:Nat),x.natAbs<2 ^ k->Builtin.Int.intBits x<=k:=fun x k hx=>by
  unfold Builtin.Int.intBits
  split
  ·exact Nat.zero_le _
  ·rename_i h0;have hn:x.natAbs≠0:=fun z=>h0 (by simpa using z);have:=(Nat.log2_lt hn).mpr hx;exact JU this
 have h1:=bits a k ha;have h2:=bits b l hb;unfold IntMulOk;have:Builtin.Int.intTooBig (Builtin.Int.intBits a+Builtin.Int.intBits b)=false:=by
  unfold Builtin.Int.intTooBig;have:(bitsLine:Int)>=134217728:=by decide
  simp only [decide_eq_false_iff_not];exact acD this hk h1 h2
 rw [this]; simp
theorem C2 {k l:Nat} {x y:Rat} (hx:RS k x) (hy:RS l y):RS (k+l) (x*y):=by
 rw [<- LF];exact EH (Int.mul_ne_zero (Bk x) (Bk y)) (pow_mul hx.1 hy.1) (pow_mul (Bn hx) (Bn hy))
theorem GF {p:LR} {i:Nat} (h:i<p.length):BH (p.map Ae) (i:Int)=some (Ae (cf p i)):=by
 unfold BH;rw [if_pos (by exact EL),Int.toNat_natCast,List.getElem?_map,List.getElem?_eq_getElem h,DI h];rfl
theorem FD {p:LR} {i:Nat} {Q:D->St->Prop} {σ:St} (hl:p.length<=1000) (h:i<p.length) (hq:Q (Ae (cf p i)) σ):Dc (rowD p) (.int i) Q σ:=EF (by exact Mine.mlim (Ih hl)) (GF h) hq
theorem Gc {p:LR} {i:Nat} {l:Addr} {o:Bool} {Q:D->St->Prop} {σ:St} (e:σ.sto l=some (.list o (p.map Ae))) (hl:p.length<=1000) (h:i<p.length) (hq:Q (Ae (cf p i)) σ):Dc (.lst l) (.int i) Q σ:=i_lst e (by exact Mine.mlim (Ih hl)) (GF h) hq
theorem f_lenR {p:LR} {Q:D->St->Prop} {σ:St} (hl:p.length<=1000) (h:Q (.int p.length) σ):Cd .len [rowD p] Q σ:=Wo (by exact Mine.mlim (Ih hl)) (by rw [List.length_map]; exact h)
theorem GG (p:LR) (k:Nat) (v:Rat):(p.map Ae).set k (Ae v)=(p.set k v).map Ae:=by rw [List.map_set]
theorem M7 (x y:Rat):Bi 50 (Ae x) (Ae y)=some (x==y):=by
 have e:Bi 50 (Ae x) (Ae y)=some ((x.num==y.num)&&((x.den:Int)==(y.den:Int)&&true)):=rfl;rw [e]
 congr 1
 by_cases h:x=y
 ·subst h; simp
 ·rw [beq_eq_false_iff_ne.mpr h];cases h1:(x.num==y.num) with
  | false=>rfl
  | true =>
   cases h2:((x.den:Int)==(y.den:Int)) with
   | false=>rfl
   | true =>
    have h1:=beq_iff_eq.mp h1;have h2:(x.den:Int)=y.den:=beq_iff_eq.mp h2;exact absurd (Rat.ext h1 (acE h2)) h
theorem Sj (x y:Rat):Bi 49 (Ae x) (Ae y)=some (x==y):=by
 have e:Bi 49 (Ae x) (Ae y)=some ((x.num==y.num)&&((x.den:Int)==(y.den:Int)&&true)):=rfl;exact e.trans (M7 x y)
theorem KA:∀ (p q:LR),Ca (Bi 49) (p.map Ae) (q.map Ae)=some (p==q)
 | [],[]=>rfl
 | [],_ :: _=>rfl
 | _ :: _,[]=>rfl
 | x :: p,y :: q=>by
  show (match Bi 49 (Ae x) (Ae y) with | some x=>(match Ca (Bi 49) (p.map Ae) (q.map Ae) with | some y=>some (x&&y) | none=>none) | none=>none)=_
  rw [Sj,KA p q];rfl
theorem eq_rows {τ:Sto} (p q:LR):CQ τ (rowD p) (rowD q)=some (p==q):=KA p q
theorem KB {τ:Sto} (x y:Rat):CQ τ (Ae x) (Ae y)=some (x==y):=M7 x y
noncomputable def IH (c:Cx) (n:Nat) (g:Str):Prop:=AD c g/\∀ (t b:Int) {m:Nat} {sto:Sto} {Q:D->Sto->Prop},n<=m->b≠0->Q (Ae (Rat.divInt t b)) sto->Ah c m g [.int t,.int b] sto Q
noncomputable def JI (g:Str):List S:=[.ret (.call g [.bin .Add (.bin .Mult (.idx (.var 0) (.cint 0)) (.idx (.var 1) (.cint 1))) (.bin .Mult (.idx (.var 1) (.cint 0)) (.idx (.var 0) (.cint 1))),.bin .Mult (.idx (.var 0) (.cint 1)) (.idx (.var 1) (.cint 1))])]
noncomputable def HT (g:Str):List S:=[.ret (.call g [.bin .Mult (.idx (.var 0) (.cint 0)) (.idx (.var 1) (.cint 0)),.bin .Mult (.idx (.var 0) (.cint 1)) (.idx (.var 1) (.cint 1))])]
noncomputable def GH (c:Cx) (n:Nat) (g:Str):Prop:=AD c g/\∀ (x y:Rat) (k l:Nat) {m:Nat} {sto:Sto} {Q:D->Sto->Prop},n<=m->RS k x->RS l y->k+l<=134217728->Q (Ae (x+y)) sto->Ah c m g [Ae x,Ae y] sto Q
noncomputable def DM (c:Cx) (n:Nat) (g:Str):Prop:=AD c g/\∀ (x y:Rat) (k l:Nat) {m:Nat} {sto:Sto} {Q:D->Sto->Prop},n<=m->RS k x->RS l y->k+l<=134217728->Q (Ae (x*y)) sto->Ah c m g [Ae x,Ae y] sto Q
section
variable {c:Cx} (CO:CxOK c)
include CO
theorem abj (hf:FnK c "fraction" 2 FC) (hd:FnK c "divisor_of" 2 B6):IH c 2 "fraction":=by
 refine ⟨hf.isFn,fun t b {m sto Q} hm hb0 h=>?_⟩;obtain ⟨n,rfl⟩:∃ n,m=n+2:=⟨m - 2,Tv hm⟩;refine fn_call CO hf rfl ?_;have hg:(0:Int)<Int.gcd t b:=by
  have:=Int.gcd_pos_of_ne_zero_right t hb0;exact NB this
 unfold FC;walk_at "m";refine if_b (fun hb=>absurd (by simpa using hb) hb0) fun hb=>?_;walk_at "m";refine EI CO hd ?_;walk_at "m";refine if_b (fun hl=>?_) fun hl=>?_
 ·have hl':b<0:=by simpa using hl
  walk_at "m";refine El (Tw hg) ?_;walk_at "m";refine El (Tw hg) ?_;walk_at "m";refine ret_plain ?_;unfold Ae at h;rw [<- IE hb0,<- IG hb0,if_pos hl'] at h;exact h
 ·have hl':¬ b<0:=by simpa using hl
  walk_at "m";refine El (Mg hg) ?_;walk_at "m";refine El (Mg hg) ?_;walk_at "m";refine ret_plain ?_;unfold Ae at h;rw [<- IE hb0,<- IG hb0,if_neg hl'] at h;exact h
theorem Wz (hf:FnK c "_law_fraction" 2 BA) (hd:FnK c "_law_divisor" 2 Bt):IH c 2 "_law_fraction":=by
 refine ⟨hf.isFn,fun t b {m sto Q} hm hb0 h=>?_⟩;obtain ⟨n,rfl⟩:∃ n,m=n+2:=⟨m - 2,Tv hm⟩;exact CI CO hf hd hb0 h
theorem N4 {f g:Str} (hf:FnK c f 2 (JI g)) (hg:IH c 2 g):GH c 3 f:=by
 refine ⟨hf.isFn,fun x y k l {m sto Q} hm hx hy hk h=>?_⟩;obtain ⟨n,rfl⟩:∃ n,m=n+1:=⟨m - 1,OU hm⟩;refine fn_call CO hf rfl ?_;unfold JI;walk_at "m";refine BS (Dy hx.1 (Bn hy) hk) ?_;walk_at "m";refine BS (Dy hy.1 (Bn hx) (acF hk)) ?_;walk_at "m";refine BS (Dy (Bn hx) (Bn hy) hk) ?_;walk_at "m";refine hg.2 _ _ (OV hm) (Int.mul_ne_zero (Bk x) (Bk y)) ?_;rw [Sh];exact ret_plain h
theorem LH {f g:Str} (hf:FnK c f 2 (HT g)) (hg:IH c 2 g):DM c 3 f:=by
 refine ⟨hf.isFn,fun x y k l {m sto Q} hm hx hy hk h=>?_⟩;obtain ⟨n,rfl⟩:∃ n,m=n+1:=⟨m - 1,OU hm⟩;refine fn_call CO hf rfl ?_;unfold HT;walk_at "m";refine BS (Dy hx.1 hy.1 hk) ?_;walk_at "m";refine BS (Dy (Bn hx) (Bn hy) hk) ?_;walk_at "m";refine hg.2 _ _ (OV hm) (Int.mul_ne_zero (Bk x) (Bk y)) ?_;rw [LF];exact ret_plain h
end
noncomputable def Gd:List S:=[
  .assign 1 (.blt .len [.var 0]),
  .whiles (.bool .And [.cmp .Gt (.var 1) (.cint 0),.cmp .Eq (.idx (.var 0) (.bin .Sub (.var 1) (.cint 1))) (.glob "ZERO")]) [.assign 1 (.bin .Sub (.var 1) (.cint 1))],
  .ret (.blt .tuple [.slice (.var 0) none (some (.var 1))])]
noncomputable def Cl:List S:=[
  .whiles (.bool .And [.cmp .Gt (.blt .len [.var 0]) (.cint 0),.cmp .Eq (.idx (.idx (.var 0) (.neg (.cint 1))) (.cint 0)) (.cint 0)]) [.assign 0 (.slice (.var 0) none (some (.neg (.cint 1))))],
  .ret (.blt .tuple [.var 0])]
noncomputable def Cu (c:Cx) (n:Nat) (g:Str):Prop:=AD c g/\∀ (p:LR) (l:Addr) (o:Bool) {m:Nat} {sto:Sto} {Q:D->Sto->Prop},n<=m->sto l=some (.list o (p.map Ae))->p.length<=1000->Q (rowD (trimL p)) sto->Ah c m g [.lst l] sto Q
theorem CU {sto:Sto} {l:Addr} {o:Bool} {xs:List D} (h:sto l=some (.list o xs)):Sto.ro sto l=some (.list false xs):=by unfold Sto.ro; rw [h]; rfl
theorem P4 {α:Type} (l:List α) (s:Nat) (h:s<=l.length):Br l none (some (s:Int))=l.take s:=by
 unfold Br cutAt;simp only;rw [if_pos (by exact EL),Int.toNat_natCast,Nat.min_eq_left h,List.drop_zero]
theorem P5 {α:Type} (l:List α) (h:1<=l.length):Br l none (some (-1))=l.take (l.length - 1):=by
 unfold Br cutAt;simp only;rw [if_neg (by decide),List.drop_zero]
 congr 1
 exact OW
theorem LI {p:LR} {s:Nat} (hs:s<=p.length) (h:s=0\/cf p (s - 1)≠0):Rw (p.take s):=by
 rcases h with rfl | h
 ·exact .inl rfl
 ·by_cases z:s=0
  ·subst z; exact .inl rfl
  ·refine .inr ?_;rw [List.length_take,Nat.min_eq_left hs];unfold cf;rw [List.getElem?_take_of_lt (by exact acG z)];exact h
section
variable {c:Cx} (CO:CxOK c)
include CO
theorem M8 (hz:c.cs "ZERO"=some (Ae 0)) (hf:FnK c "trimmed" 1 Gd):Cu c 1 "trimmed":=by
 refine ⟨hf.isFn,fun p l o {m sto Q} hm hl hlen h=>?_⟩;obtain ⟨n,rfl⟩:∃ n,m=n+1:=⟨m - 1,EM hm⟩;refine fn_call CO hf rfl ?_;have hl':=CU hl;have hlim:(p.map Ae).length<=lim:=by exact Mine.mlim (Ih hlen)
 have tail:∀ (σ:St) (s:Nat),σ.loc 0=some (.lst l)->σ.loc 1=some (.int s)->σ.sto l=some (.list false (p.map Ae))->s<=p.length->(∀ i,s<=i->cf p i=0)->(s=0\/cf p (s - 1)≠0)->
   Bo c n [.ret (.blt .tuple [.slice (.var 0) none (some (.var 1))])] (Ej sto Q) σ:=fun σ s h0 h1 h2 hs hzz hn=>by
  walk_at "m";refine sl_lst h2 rfl rfl hlim fun b hb=>?_;walk_at "m";refine NW (o:=true) (xs:=(p.take s).map Ae) ?_ (by rw [List.length_map,List.length_take]; unfold lim; exact Tz hlen) ?_
  ·show Sto.put _ _ _ _=_;rw [put_same,P4 _ _ (by rw [List.length_map]; exact hs),List.map_take]
  ·walk_at "m";refine ret_plain ?_;rw [LD (LI hs hn) (LE hzz)];exact h
 unfold Gd;walk_at "m";refine f_lenL hl' hlim ?_;rw [List.length_map];walk_at "m";refine Dx (fun σ=>∃ s:Nat,σ.loc 0=some (.lst l)/\σ.loc 1=some (.int s)/\σ.sto l=some (.list false (p.map Ae))/\s<=p.length/\∀ i,s<=i->cf p i=0) (fun σ=>match σ.loc 1 with | some (.int y)=>y.toNat | _=>0) ?_ ?_
 ·exact ⟨p.length,rfl,rfl,hl',Nat.le_refl _,fun i hi=>An hi⟩
 intro σ' q143_; refine xq1_5 q143_ fun s h0 h1 h2 hs hzz=>?_; clear q143_;walk_at "m";refine Dj (fun hb=>?_) fun hb=>?_
 ·refine if_b (fun z=>by rw [hb] at z; cases z) fun _=>?_;have:s=0:=by simpa using hb
  exact tail σ' s h0 h1 h2 hs hzz (.inl this)
 have hs0:0<s:=by simpa using hb
 walk_at "m";rw [show (s:Int) - 1=((s - 1:Nat):Int) by exact TA hs0];refine Gc h2 hlen (acH hs hs0) ?_;walk_at "m";refine c_eqD (KB _ _) ?_;walk_at "m";refine Dj (fun hb=>?_) fun hb=>?_
 ·refine if_b (fun z=>by rw [hb] at z; cases z) fun _=>?_;exact tail σ' s h0 h1 h2 hs hzz (.inr (beq_eq_false_iff_ne.mp hb))
 walk_at "m";refine ⟨⟨s - 1,h0,?_,h2,TB hs,fun i hi=>?_⟩,?_⟩
 ·show some (D.int ((s:Int) - 1))=some (D.int ((s - 1:Nat):Int))
  congr 2; exact TA hs0
 ·by_cases z:i=s - 1
  ·subst z; exact beq_iff_eq.mp hb
  ·exact hzz i (TC hi z)
 ·show ((s:Int) - 1).toNat<_;rw [h1];show ((s:Int) - 1).toNat<(s:Int).toNat;exact acI hs0
theorem Ln (hf:FnK c "_law_trim" 1 Cl):Cu c 1 "_law_trim":=by
 refine ⟨hf.isFn,fun p l o {m sto Q} hm hl hlen h=>?_⟩;obtain ⟨n,rfl⟩:∃ n,m=n+1:=⟨m - 1,EM hm⟩;refine fn_call CO hf rfl ?_;have tail:∀ (σ:St) (a:Addr) (o:Bool) (s:Nat),σ.loc 0=some (.lst a)->σ.sto a=some (.list o ((p.take s).map Ae))->s<=p.length->(∀ i,s<=i->cf p i=0)->(s=0\/cf p (s - 1)≠0)->
   Bo c n [.ret (.blt .tuple [.var 0])] (Ej sto Q) σ:=fun σ a o s h0 h2 hs hzz hn=>by
  walk_at "m";refine NW h2 (by rw [List.length_map,List.length_take]; unfold lim; exact Tz hlen) ?_;walk_at "m";refine ret_plain ?_;rw [LD (LI hs hn) (LE hzz)];exact h
 unfold Cl;walk_at "m";refine Dx (fun σ=>∃ (a:Addr) (o:Bool) (s:Nat),σ.loc 0=some (.lst a)/\σ.sto a=some (.list o ((p.take s).map Ae))/\s<=p.length/\∀ i,s<=i->cf p i=0) (fun σ=>match σ.loc 0 with | some (.lst a)=>(match σ.sto a with | some (.list _ xs)=>xs.length | _=>0) | _=>0) ?_ ?_
 ·exact ⟨l,false,p.length,rfl,by rw [List.take_length]; exact CU hl,Nat.le_refl _,fun i hi=>An hi⟩
 intro σ' q144_; refine xq3_4 q144_ fun a o' s h0 h2 hs hzz=>?_; clear q144_;have hsl:((p.take s).map Ae).length=s:=by rw [List.length_map,List.length_take]; exact TD hs
 have hlim:((p.take s).map Ae).length<=lim:=by rw [hsl]; unfold lim; exact acJ hlen hs
 walk_at "m";refine f_lenL h2 hlim ?_;rw [hsl];walk_at "m";refine Dj (fun hb=>?_) fun hb=>?_
 ·refine if_b (fun z=>by rw [hb] at z; cases z) fun _=>?_;have:s=0:=by simpa using hb
  exact tail σ' a o' s h0 h2 hs hzz (.inl this)
 have hs0:0<s:=by simpa using hb
 have hcf:cf (p.take s) (s - 1)=cf p (s - 1):=by unfold cf; rw [List.getElem?_take_of_lt (by exact TF hs0)]
 walk_at "m";refine i_lst h2 hlim (d:=Ae (cf p (s - 1))) ?_ ?_
 ·have:=GF (p:=p.take s) (i:=s - 1) (by rw [List.length_take]; exact acK hs hs0);unfold BH;rw [if_neg (by decide),if_pos (by rw [hsl]; exact acL hs0),hsl];unfold BH at this;rw [if_pos (by exact OX),Int.toNat_natCast,hcf] at this;rw [show ((s:Int)+-1).toNat=s - 1 by exact OW];exact this
 walk_at "m";refine Dj (fun hb=>?_) fun hb=>?_
 ·refine if_b (fun z=>by rw [hb] at z; cases z) fun _=>?_;refine tail σ' a o' s h0 h2 hs hzz (.inr fun z=>?_);rw [z] at hb; cases hb
 walk_at "m";refine sl_lst h2 rfl rfl hlim fun b hb'=>?_;walk_at "m";have e:Br ((p.take s).map Ae) none (some (-1))=(p.take (s - 1)).map Ae:=by
  rw [P5 _ (by exact acM hsl hs0),hsl,<- List.map_take,List.take_take,Nat.min_eq_left (by exact acN)]
 have e2:Sto.put σ'.sto b (.list true (Br ((p.take s).map Ae) none (some (-1)))) b=some (.list true ((p.take (s - 1)).map Ae)):=by rw [put_same,e]
 refine ⟨⟨b,true,s - 1,rfl,e2,TB hs,fun i hi=>?_⟩,?_⟩
 ·by_cases z:i=s - 1
  ·subst z; exact Rat.num_eq_zero.mp (beq_iff_eq.mp hb)
  ·exact hzz i (TC hi z)
 ·show (match Sto.put σ'.sto b (.list true (Br ((p.take s).map Ae) none (some (-1)))) b with | some (.list _ xs)=>xs.length | _=>0)<_
  rw [e2,h0];show ((p.take (s - 1)).map Ae).length<(match σ'.sto a with | some (.list _ xs)=>xs.length | _=>0)
  rw [h2];show ((p.take (s - 1)).map Ae).length<((p.take s).map Ae).length;rw [hsl,List.length_map,List.length_take];exact acO hs0
end
noncomputable def CV:List S:=N2 "is_whole" (.call "divisor_of" [.idx (.var 0) (.cint 0),.idx (.var 0) (.cint 1)])
noncomputable def Hc:List S:=[
  .ifs (.not (.isa (.var 0) .tuple)) [.ret (.cbool false)] [],
  .fors [1] true .plain [.var 0] [.ifs (.not (.call "is_fraction" [.var 1])) [.ret (.cbool false)] []],
  .ret (.bool .Or [.cmp .Eq (.var 0) (.tup []),.cmp .NotEq (.idx (.var 0) (.neg (.cint 1))) (.glob "ZERO")])]
noncomputable def D5:List S:=[
  .ifs (.not (.call "is_row" [.var 0])) [.raise "NoRow" "no row"] []]
noncomputable def GI (c:Cx) (n:Nat) (g:Str):Prop:=AD c g/\∀ (p:LR) {m:Nat} {sto:Sto} {Q:D->Sto->Prop},n<=m->Rw p->p.length<=1000->Q (.bool true) sto->Ah c m g [rowD p] sto Q
theorem CX {p:LR} (h:p≠[]):BH (p.map Ae) (-1)=some (Ae (cf p (p.length - 1))):=by
 have hl:1<=p.length:=List.length_pos_iff.mpr h;have:=GF (p:=p) (i:=p.length - 1) (acP hl);unfold BH at this ⊢;rw [if_pos (by exact OX),Int.toNat_natCast] at this;rw [if_neg (by decide),List.length_map,if_pos (by exact acQ hl),show ((p.length:Int)+-1).toNat=p.length - 1 by exact OW];exact this
section
variable {c:Cx} (CO:CxOK c)
include CO
theorem Hd {n:Nat} (hf:FnK c "is_fraction" 1 CV) (hd:FnK c "divisor_of" 2 B6) (hw:FnK c "is_whole" 1 Ct)
  {r:Rat} {sto:Sto} {Q:D->Sto->Prop} (h:Q (.bool true) sto):Ah c (n+2) "is_fraction" [Ae r] sto Q:=by
 refine fn_call CO hf rfl ?_;unfold CV N2 Ae;walk_at "m";refine HS CO hw ?_;walk_at "m";refine HS CO hw ?_;walk_at "m";have hd0:(r.den:Int) > 0:=Int.natCast_pos.mpr r.den_pos;refine Dj (fun hb=>absurd hd0 (of_decide_eq_false hb)) fun _=>?_;walk_at "m";refine EI CO hd ?_;rw [show Int.gcd r.num r.den=1 from r.reduced];walk_at "m";exact ret_plain h
theorem N5 (hz:c.cs "ZERO"=some (Ae 0)) (hf:FnK c "is_fraction" 1 CV) (hd:FnK c "divisor_of" 2 B6) (hw:FnK c "is_whole" 1 Ct) (hr:FnK c "is_row" 1 Hc):GI c 3 "is_row":=by
 refine ⟨hr.isFn,fun p {m sto Q} hm hr' hl h=>?_⟩;obtain ⟨n,rfl⟩:∃ n,m=n+3:=⟨m - 3,TG hm⟩;refine fn_call CO hr rfl ?_;unfold Hc rowD;walk_at "m";refine ⟨by exact Mine.mlim (Ih hl),?_⟩;refine AM (fun _ σ'=>σ'.loc 0=some (.tup (p.map Ae))) (fun _ _=>False) _ 0 _ rfl (fun _ _ _=>trivial) ?_ (fun _ _ z=>z.elim) ?_
 ·intro i d σ₁ K hd' k1 hnx _;refine xq1_2 (List.mem_map.mp (List.mem_of_getElem? hd')) fun x _ q145_=>?_; obtain rfl:=q145_;walk_at "m";refine Hd CO hf hd hw ?_;walk_at "m";exact hnx _ k1
 ·intro σ₁ k1;walk_at "m";refine c_eqD (eq_rows p []) ?_;walk_at "m";refine if_or (fun hb=>by rw [hb]; exact ret_plain h) fun hb=>?_;have hne:p≠[]:=beq_eq_false_iff_ne.mp hb;walk_at "m";refine EF (by exact Mine.mlim (Ih hl)) (CX hne) ?_;walk_at "m";refine GD (KB _ _) ?_;refine ret_plain ?_;rw [beq_eq_false_iff_ne.mpr (hr'.resolve_left hne)]; exact h
theorem GY (hg:GI c 3 "is_row") (hf:FnK c "need_row" 1 D5) {p:LR} (hr:Rw p) (hl:p.length<=1000) {m:Nat} (hm:4<=m) {sto:Sto} {Q:D->Sto->Prop} (h:Q .none sto):Ah c m "need_row" [rowD p] sto Q:=by
 obtain ⟨n,rfl⟩:∃ n,m=n+1:=⟨m - 1,FY hm⟩;refine fn_call CO hf rfl ?_;unfold D5;walk_at "m";refine hg.2 _ (Eg hm) hr hl ?_;walk_at "m";exact ret_plain h
end
noncomputable def II:List S:=[
  .assign 2 (.bin .Add (.blt .list [.var 0]) (.bin .Mult (.lst [.glob "ZERO"]) (.bin .Sub (.blt .len [.var 1]) (.blt .len [.var 0])))),
  .fors [3] true .range [.blt .len [.var 1]] [.setitem (.var 2) (.var 3) (.call "sum_of" [.idx (.var 2) (.var 3),.idx (.var 1) (.var 3)])],
  .ret (.call "trimmed" [.var 2])]
noncomputable def s_multiplied:List S:=[
  .ifs (.bool .Or [.cmp .Eq (.var 0) (.tup []),.cmp .Eq (.var 1) (.tup [])]) [.ret (.tup [])] [],
  .assign 2 (.bin .Mult (.lst [.glob "ZERO"]) (.bin .Sub (.bin .Add (.blt .len [.var 0]) (.blt .len [.var 1])) (.cint 1))),
  .fors [3] true .range [.blt .len [.var 0]] [.fors [4] true .range [.blt .len [.var 1]] [.setitem (.var 2) (.bin .Add (.var 3) (.var 4)) (.call "sum_of" [.idx (.var 2) (.bin .Add (.var 3) (.var 4)),.call "product_of" [.idx (.var 0) (.var 3),.idx (.var 1) (.var 4)]])]],
  .ret (.call "trimmed" [.var 2])]
theorem Cf (z:Int) (x:Rat):Fy z [Ae x]=(List.replicate z.toNat x).map Ae:=by
 unfold Fy;rw [PyProof.Rows.lm_rep_flat_one,List.map_replicate]
theorem WA:D.tup [.int 0,.int 1]=Ae 0:=rfl
noncomputable def JJ (p q r:LR):Prop:=∀ i,cf r i=cf p i+cf q i
noncomputable def E8 (p q r:LR):Prop:=∀ j,cf r j=cv p q j
noncomputable def WB (p r:LR):Prop:=∀ j,cf r j=cf p (j+1)*((j+1:Nat):Rat)
section
variable {c:Cx} (CO:CxOK c)
include CO
theorem P6 (hz:c.cs "ZERO"=some (Ae 0)) (hs:GH c 3 "sum_of") (ht:Cu c 1 "trimmed") (hf:FnK c "added" 2 II) {p q:LR} {k l:Nat} (hp:Cb k p) (hq:Cb l q) (hkl:k+l<=134217728) (hpl:p.length<=400) (hql:q.length<=400) {m:Nat} (hm:4<=m) {sto:Sto} {Q:D->Sto->Prop} (h:∀ r,JJ p q r->Q (rowD (trimL r)) sto):Ah c m "added" [rowD p,rowD q] sto Q:=by
 obtain ⟨n,rfl⟩:∃ n,m=n+1:=⟨m - 1,FY hm⟩;refine fn_call CO hf rfl ?_;unfold II;walk_at "m";refine f_listT (by exact Mine.mlim (Cc hpl)) fun l1 hl1=>?_;walk_at "m";refine ⟨zq rfl,fun l2 hl2=>?_⟩;walk_at "m";refine f_lenR (Cc hql) ?_;walk_at "m";refine f_lenR (Cc hpl) ?_;walk_at "m";refine Ga put_same (by simp) (acR hpl) (acS hql) fun l3 hl3=>?_;refine F9 (put_old hl3 (put_old hl2 put_same)) put_same (by exact Mine.mlim (Cc hpl)) (by rw [Cf,List.length_map,List.length_replicate]; unfold lim; exact acT hql) fun l4 hl4=>?_;rw [Cf,<- List.map_append];walk_at "m";refine f_lenR (Cc hql) ?_;walk_at "m";refine ⟨by simp [smallI]; exact TH hql,_,rfl,?_⟩;refine AM (fun i σ=>∃ F:LR,q.length<=F.length/\F.length<=800/\(∀ j,cf F j=cf p j+if j<i then cf q j else 0)/\σ.loc 2=some (.lst l4)/\σ.loc 1=some (rowD q)/\σ.sto l4=some (.list true (F.map Ae))) (fun _ _=>False) _ 0 _ ?_ (fun _ _ _=>trivial) ?_ (fun _ _ z=>z.elim) ?_
 ·refine ⟨p ++ List.replicate ((q.length:Int) - p.length).toNat 0,by rw [List.length_append,List.length_replicate]; exact acU,by rw [List.length_append,List.length_replicate]; exact acV hpl hql,fun j=>?_,rfl,rfl,put_same⟩;rw [if_neg (Nat.not_lt_zero j),Rat.add_zero,HR]
  by_cases z:j<p.length
  ·rw [if_pos z]
  ·rw [if_neg z,Ce,An (by exact CG z)]
 ·intro i d σ K hd q146_ hn hr; refine xq1_6 q146_ fun F hF1 hF2 hF h2 h1 hst=>?_; clear q146_;obtain ⟨hi,hdd⟩:=Bh hd;rw [Int.zero_add] at hdd;subst hdd;rw [Nat.zero_add] at hF hn;have hi:i<q.length:=Eh hi;walk_at "m";refine Gc hst (OY hF2) (TJ hF1 hi) ?_;walk_at "m";refine FD (Cc hql) hi ?_;walk_at "m";have e:cf F i=cf p i:=by rw [hF i,if_neg (Nat.lt_irrefl i),Rat.add_zero]
  rw [e];refine hs.2 _ _ k l (Eg hm) (hp i) (hq i) hkl ?_;walk_at "m";refine Gb hst (by exact Mine.mlim (OY hF2)) (EL) (by rw [List.length_map]; exact acW hF1 hi) ?_;refine hn _ ⟨F.set i (cf p i+cf q i),by rw [List.length_set]; exact hF1,by rw [List.length_set]; exact hF2,fun j=>?_,h2,h1,?_⟩
  ·rw [E7 (by exact TJ hF1 hi)]
   by_cases z:j=i
   ·subst z; rw [if_pos rfl,if_pos (Nat.lt_succ_self j)]
   ·rw [if_neg z,hF j]
    by_cases z2:j<i
    ·rw [if_pos z2,if_pos (by exact JW z2)]
    ·rw [if_neg z2,if_neg (by exact acX z z2)]
  ·show Sto.put _ _ _ _=_;rw [put_same,Int.toNat_natCast,GG]
 ·intro σ q147_; refine xq1_6 q147_ fun F hF1 hF2 hF h2 h1 hst=>?_; clear q147_;walk_at "m";refine ht.2 F l4 _ (FZ hm) hst (OY hF2) ?_;walk_at "m";refine ret_plain (h F fun j=>?_);rw [hF j]
  congr 1
  split
  ·rfl
  ·rename_i z;rw [Bg] at z;exact (An (acY z)).symm
end
noncomputable def ES:List S:=[
  .assign 2 (.blt .max [.blt .len [.var 0],.blt .len [.var 1]]),
  .assign 0 (.bin .Add (.blt .list [.var 0]) (.bin .Mult (.lst [.tup [.cint 0,.cint 1]]) (.bin .Sub (.var 2) (.blt .len [.var 0])))),
  .assign 1 (.bin .Add (.blt .list [.var 1]) (.bin .Mult (.lst [.tup [.cint 0,.cint 1]]) (.bin .Sub (.var 2) (.blt .len [.var 1])))),
  .ret (.call "_law_trim" [.comp (.call "_law_sum" [.var 100,.var 101]) [(100,"_law_x"),(101,"_law_y")] .zip [.var 0,.var 1]])]
noncomputable def Em:List S:=[
  .assign 2 (.tup []),
  .fors [3] true .range [.blt .len [.var 0]] [.assign 2 (.call "_law_plus" [.var 2,.bin .Add (.bin .Mult (.tup [.tup [.cint 0,.cint 1]]) (.var 3)) (.call "_law_scale" [.var 1,.idx (.var 0) (.var 3)])])],
  .ret (.var 2)]
noncomputable def DS:List S:=[
  .assign 2 (.call "_law_stream" [.var 0,.bin .Add (.var 1) (.cint 1)]),
  .ret (.call "_law_trim" [.comp (.call "_law_number" [.idx (.var 2) (.bin .Add (.cint 1) (.var 100))]) [(100,"_law_k")] .range [.bin .Mod (.idx (.var 2) (.cint 0)) (.bin .Add (.var 1) (.cint 1))]])]
noncomputable def D9 (t g x:Str):List S:=[.ret (.call t [.comp (.call g [.idx (.var 0) (.var 100),.tup [.var 100,.cint 1]]) [(100,x)] .range [.cint 1,.blt .len [.var 0]]])]
theorem Cv {α:Type} {step:D->(D->Prop)->Prop} {Kf:List D->Prop} (f g:α->D):∀ (xs:List α) (acc:List D),(∀ a∈xs,∀ K:D->Prop,K (g a)->step (f a) K)->Kf (acc ++ xs.map g)->D1 step (xs.map f) acc Kf
 | [],acc,_,h=>by
  have:acc ++ List.map g []=acc:=List.append_nil acc;rw [this] at h; exact h
 | a :: xs,acc,hs,h=>hs a (.head _) _ (Cv f g xs (acc ++ [g a]) (fun e he=>hs e (.tail _ he)) (by
  rw [List.append_assoc]; exact h))
theorem GJ {x:Nat} {s:Str} {elt:(D->St->Prop)->St->Prop} {P:D->Prop} {σ:St} {d:D} {K:D->Prop} (h:elt (fun r _=>P r/\K r) (σ.ro.set x d)):EA [(x,s)] elt P σ d K:=h
theorem Ci (z:Int):D.tup [.int z,.int 1]=Ae (z:Rat):=rfl
theorem Dm {z:Int} {k:Nat} (h:z.natAbs<2 ^ k) (hk:1<=k):RS k (z:Rat):=⟨h,by
 show 1<2 ^ k;exact Nat.lt_of_lt_of_le (by decide) (Nat.pow_le_pow_right (by decide) hk)⟩
theorem DK (a b:Int):Bm a b=(List.range (b - a).toNat).map fun (k:Nat)=>D.int (a+k):=rfl
theorem P7 (p q:LR):List.zipWith (fun u v=>D.tup [u,v]) (p.map Ae) (q.map Ae)=(p.zip q).map fun a=>D.tup [Ae a.1,Ae a.2]:=by
 rw [List.zipWith_map,List.zip,List.map_zipWith]
theorem KC (p:LR):(p.map Ae).all AY=true:=by
 rw [List.all_eq_true];intro d hd;refine xq1_2 (List.mem_map.mp hd) fun x _ q148_=>?_; obtain rfl:=q148_;rfl
theorem Sk (p:LR):(p.map Ae).all DH=true:=by
 rw [List.all_eq_true];intro d hd;refine xq1_2 (List.mem_map.mp hd) fun x _ q149_=>?_; obtain rfl:=q149_;rfl
section
variable {c:Cx} (CO:CxOK c)
include CO
theorem LJ {t g x f:Str} (ht:Cu c 1 t) (hg:DM c 3 g) (hf:FnK c f 1 (D9 t g x)) {p:LR} {k:Nat} (hp:Cb k p) (hk:k<=60000000) (hpl:p.length<=400) {m:Nat} (hm:4<=m) {sto:Sto} {Q:D->Sto->Prop} (h:∀ r,WB p r->Q (rowD (trimL r)) sto):Ah c m f [rowD p] sto Q:=by
 obtain ⟨n,rfl⟩:∃ n,m=n+1:=⟨m - 1,FY hm⟩;refine fn_call CO hf rfl ?_;unfold D9;walk_at "m";refine f_lenR (Cc hpl) ?_;walk_at "m";refine ⟨by simp [smallI]; exact TH hpl,_,rfl,?_⟩;rw [DK];refine ⟨by rw [List.length_map,List.length_range]; unfold lim; exact acZ hpl,?_⟩;refine Cv (fun (j:Nat)=>D.int (1+j)) (fun j=>Ae (cf p (j+1)*((j+1:Nat):Rat))) _ _ (fun j hj K hK=>?_) fun l hl=>?_
 ·have hj:=List.mem_range.mp hj;refine GJ ?_;walk_at "m";rw [show (1:Int)+(j:Int)=((j+1:Nat):Int) by exact TK];refine FD (p:=p) (Cc hpl) (ac0 hj) ?_;walk_at "m";rw [Ci];refine hg.2 _ _ k 11 (Eg hm) (hp _) (Dm (ac1 hpl hj) (TL)) (ac2 hk) ?_;exact ⟨trivial,hK⟩
 ·rw [List.nil_append];walk_at "m";have e:((List.range ((p.length:Int) - 1).toNat).map fun (j:Nat)=>Ae (cf p (j+1)*((j+1:Nat):Rat)))=((List.range ((p.length:Int) - 1).toNat).map fun (j:Nat)=>cf p (j+1)*((j+1:Nat):Rat)).map Ae:=by rw [List.map_map]; rfl
  rw [e];refine ht.2 _ l _ (FZ hm) put_same (by rw [List.length_map,List.length_range]; exact ac3 hpl) ?_;refine ret_plain (h _ fun j=>?_)
  by_cases z:j<((p.length:Int) - 1).toNat
  ·rw [DI (by rw [List.length_map,List.length_range]; exact z),List.getElem_map,List.getElem_range]
  ·rw [An (by rw [List.length_map,List.length_range]; exact ac4 z),An (p:=p) (by exact ac5 z),Rat.zero_mul]
noncomputable def CC (c:Cx) (n:Nat) (f:Str):Prop:=AD c f/\∀ (p:LR) (x:Rat) (k l:Nat) {m:Nat} {sto:Sto} {Q:D->Sto->Prop},n<=m->Cb k p->RS l x->k+l<=134217728->p.length<=400->Q (rowD (trimL (p.map (·*x)))) sto->Ah c m f [rowD p,Ae x] sto Q
noncomputable def HU (c:Cx) (n:Nat) (f:Str):Prop:=AD c f/\∀ (p q:LR) (k l:Nat) {m:Nat} {sto:Sto} {Q:D->Sto->Prop},n<=m->Cb k p->Cb l q->k+l<=134217728->p.length<=400->q.length<=400->(∀ r,JJ p q r->r.length<=max p.length q.length->Q (rowD (trimL r)) sto)->Ah c m f [rowD p,rowD q] sto Q
theorem Sl (ht:Cu c 1 "_law_trim") (hg:GH c 3 "_law_sum") (hf:FnK c "_law_plus" 2 ES):HU c 4 "_law_plus":=by
 refine ⟨hf.isFn,fun p q k l {m sto Q} hm hp hq hkl hpl hql h=>?_⟩;obtain ⟨n,rfl⟩:∃ n,m=n+1:=⟨m - 1,FY hm⟩;refine fn_call CO hf rfl ?_;unfold ES;walk_at "m";refine f_lenR (Cc hpl) ?_;walk_at "m";refine f_lenR (Cc hql) ?_;walk_at "m";refine f_listT (by exact Mine.mlim (Cc hpl)) fun l1 hl1=>?_;walk_at "m";refine ⟨zq rfl,fun l2 hl2=>?_⟩;rw [WA];walk_at "m";refine f_lenR (Cc hpl) ?_;walk_at "m";refine Ga put_same (by simp) (ac6) (ac7 hql) fun l3 hl3=>?_;refine F9 (put_old hl3 (put_old hl2 put_same)) put_same (by exact Mine.mlim (Cc hpl)) (by rw [Cf,List.length_map,List.length_replicate]; unfold lim; exact ac8 hql) fun l4 hl4=>?_;rw [Cf,<- List.map_append];walk_at "m";refine f_listT (by exact Mine.mlim (Cc hql)) fun l5 hl5=>?_;walk_at "m";refine ⟨zq rfl,fun l6 hl6=>?_⟩;rw [WA];walk_at "m";refine f_lenR (Cc hql) ?_;walk_at "m";refine Ga put_same (by simp) (ac9) (ada hpl) fun l7 hl7=>?_;refine F9 (put_old hl7 (put_old hl6 put_same)) put_same (by exact Mine.mlim (Cc hql)) (by rw [Cf,List.length_map,List.length_replicate]; unfold lim; exact adb hpl) fun l8 hl8=>?_;rw [Cf] at hl8 ⊢;rw [<- List.map_append];walk_at "m";refine ⟨l4,l8,true,(p ++ List.replicate (max (p.length:Int) q.length - p.length).toNat 0).map Ae,true,(q ++ List.replicate (max (p.length:Int) q.length - q.length).toNat 0).map Ae,rfl,rfl,?_,(show Sto.put _ _ _ _=_ from put_same),Sk _,KC _,KC _,rfl,?_⟩
 ·exact put_old hl8 (put_old hl7 (put_old hl6 (put_old hl5 put_same)))
 have lp:(p ++ List.replicate (max (p.length:Int) q.length - p.length).toNat 0).length=max p.length q.length:=by rw [List.length_append,List.length_replicate]; exact adc
 have lq:(q ++ List.replicate (max (p.length:Int) q.length - q.length).toNat 0).length=max p.length q.length:=by rw [List.length_append,List.length_replicate]; exact ade
 have cp:∀ i,cf (p ++ List.replicate (max (p.length:Int) q.length - p.length).toNat 0) i=cf p i:=fun i=>by
  rw [HR]
  by_cases z:i<p.length
  ·rw [if_pos z]
  ·rw [if_neg z,Ce,An (p:=p) (by exact CG z)]
 have cq:∀ i,cf (q ++ List.replicate (max (p.length:Int) q.length - q.length).toNat 0) i=cf q i:=fun i=>by
  rw [HR]
  by_cases z:i<q.length
  ·rw [if_pos z]
  ·rw [if_neg z,Ce,An (p:=q) (by exact CG z)]
 generalize (p ++ List.replicate (max (p.length:Int) q.length - p.length).toNat 0)=P at *;generalize (q ++ List.replicate (max (p.length:Int) q.length - q.length).toNat 0)=R at *;rw [P7];refine ⟨by rw [List.length_map,List.length_zip]; unfold lim; exact adf lq hpl hql,?_⟩;refine Cv (α:=Rat×Rat) (fun a=>D.tup [Ae a.1,Ae a.2]) (fun a=>Ae (a.1+a.2)) (P.zip R) [] ?_ ?_
 ·intro a ha K hK;obtain ⟨i,hi⟩:=List.getElem?_of_mem ha;have hx:RS k a.1/\RS l a.2:=by
   rw [List.getElem?_zip_eq_some] at hi;have e1:cf p i=a.1:=by rw [<- cp i]; unfold cf; rw [hi.1]; rfl
   have e2:cf q i=a.2:=by rw [<- cq i]; unfold cf; rw [hi.2]; rfl
   exact ⟨e1 ▸ hp i,e2 ▸ hq i⟩
  refine ⟨_,rfl,rfl,?_⟩;walk_at "m";refine hg.2 a.1 a.2 k l (Eg hm) hx.1 hx.2 hkl ?_;exact ⟨rfl,hK⟩
 ·intro l' hl';rw [List.nil_append];walk_at "m";have e:((P.zip R).map fun a=>Ae (a.1+a.2))=((P.zip R).map fun a=>a.1+a.2).map Ae:=by rw [List.map_map]; rfl
  rw [e];refine ht.2 _ l' _ (FZ hm) put_same (by rw [List.length_map,List.length_zip]; exact adg lq hpl hql) ?_;refine ret_plain (h _ (fun i=>?_) (by rw [List.length_map,List.length_zip]; exact adh lq));rw [<- cp i,<- cq i]
  by_cases z:i<max p.length q.length
  ·rw [DI (by rw [List.length_map,List.length_zip]; exact adi lq lp z),List.getElem_map,List.getElem_zip,DI (by exact TM lp z),DI (by exact TM lq z)]
  ·rw [An (by rw [List.length_map,List.length_zip]; exact adj lq z),An (p:=P) (by exact TN lp z),An (p:=R) (by exact TN lq z),Rat.add_zero]
end
theorem P8 {k:Nat} {p:LR} (h:Cb k p):Cb k (trimL p):=fun i=>by rw [Ak]; exact h i
theorem WC {k:Nat} {x:Rat} (h:RS k x):1<=k:=by
 have h1:=x.den_pos
 by_cases z:k=0
 ·subst z; have:=h.2; simp at this; exact adk this h1
 ·exact JX z
section
variable {c:Cx} (CO:CxOK c)
include CO
theorem N6 (LN:LNums c) (ht:Cu c 1 "_law_trim") (hf:FnK c "_law_row_by" 2 DS) {x:Int} {most:Nat} (hmo:most<=50) {m:Nat} (hm:4<=m) {sto:Sto} {Q:D->Sto->Prop} (h:∀ p,Rw p->p.length<=most->Cb 20 p->Q (rowD p) sto):Ah c m "_law_row_by" [.int x,.int most] sto Q:=by
 obtain ⟨n,rfl⟩:∃ n,m=n+4:=⟨m - 4,adl hm⟩;have hst:=LN.stream;have hdv:=LN.divisor;have hfr:=LN.fraction;have hnu:=LN.number;refine fn_call CO hf rfl ?_;unfold DS;walk_at "m";rw [show (most:Int)+1=((most+1:Nat):Int) by exact OZ];refine DJ CO hst (by exact adm hmo) fun xs l hxl hxs hl=>?_;have e0:∀ (σ:St),(σ.put l (.list true (xs.map D.int))).sto l=some (.list true (xs.map D.int)):=fun σ=>put_same;have hx0:BH (xs.map D.int) 0=some (.int xs[0]):=by
  unfold BH;rw [if_pos (by decide)];simp
 walk_at "m";refine i_lst put_same (by exact Mine.mlim (TP hxl hmo)) hx0 ?_;walk_at "m";have fm:(xs[0]).fmod ((most:Int)+1)=xs[0] % ((most:Int)+1):=Int.fmod_eq_emod_of_nonneg _ (adn);have m1:=Int.emod_nonneg xs[0] (show ((most:Int)+1)≠0 by exact ado);have m2:=Int.emod_lt_of_pos xs[0] (show 0<((most:Int)+1) by exact adp);obtain ⟨u,hu⟩:=Int.eq_ofNat_of_zero_le m1;have hu':(xs[0]).fmod ((most:Int)+1)=(u:Int):=fm.trans hu;rw [hu'];have hum:u<=most:=TQ hu m2;refine ⟨by simp [smallI]; exact adq hu m2 hmo,_,rfl,?_⟩;rw [DK];refine ⟨by rw [List.length_map,List.length_range]; unfold lim; exact adr hu m2 hmo,?_⟩;have key:∀ (us:List Nat) (acc:LR),(∀ j∈us,j<u)->acc.length+us.length<=most->(∀ x∈acc,RS 20 x)->∀ Kf:List D->Prop,(∀ F:LR,F.length<=most->(∀ x∈F,RS 20 x)->Kf (F.map Ae))->
   D1 (EA [(100,"_law_k")] (fun K σ₂=>wE c (n+3) (.call "_law_number" [.idx (.var 2) (.bin .Add (.cint 1) (.var 100))]) K σ₂) (fun _=>True) (St.set { loc:=(Dw [.int x,.int most] sto).loc,sto:=Sto.put (Sto.ro sto) l (.list true (xs.map D.int)) } 2 (.lst l))) (us.map fun (k:Nat)=>D.int (0+k)) (acc.map Ae) Kf:=by
  intro us
  induction us with
  | nil=>intro acc _ hl ha Kf hK; exact hK acc (by simpa using hl) ha
  | cons j us ih =>
   intro acc hus hl ha Kf hK;have hj:=hus j (.head _);refine GJ ?_;walk_at "m";rw [show (1:Int)+(0+(j:Int))=((j+1:Nat):Int) by exact ads];have hxj:BH (xs.map D.int) ((j+1:Nat):Int)=some (.int xs[j+1]):=by
    unfold BH;rw [if_pos (by exact TR),Int.toNat_natCast,List.getElem?_map,List.getElem?_eq_getElem (by exact adt hu m2 hxl hj)];rfl
   refine i_lst (o:=false) (ds:=xs.map D.int) (CU (o:=true) put_same) (by exact Mine.mlim (TP hxl hmo)) hxj ?_;walk_at "m";refine EJ CO hnu hdv hfr (hxs _ (List.getElem_mem _)) fun r h1 h2=>?_;refine ⟨trivial,?_⟩;have e:acc.map Ae ++ [Ae r]=(acc ++ [r]).map Ae:=by rw [List.map_append]; rfl
   rw [e];exact ih (acc ++ [r]) (fun i hi=>hus i (.tail _ hi)) (by rw [List.length_append]; simp at hl ⊢; exact adu hl) (fun y hy=>by
    rcases List.mem_append.mp hy with hy | hy
    ·exact ha y hy
    ·rw [List.mem_singleton.mp hy]; exact rs_of h1 h2) Kf hK
 refine key (List.range ((u:Int) - 0).toNat) [] (fun j hj=>by have:=List.mem_range.mp hj; exact Eh this) (by rw [List.length_range]; simp; exact TQ hu m2) (fun x hx=>by cases hx) _ fun F hF hFs l' hl'=>?_;walk_at "m";refine ht.2 F l' _ (TS) put_same (adv hmo hF) ?_;refine ret_plain (h _ (rw_trim F) (Nat.le_trans (trim_len F) hF) (P8 fun i=>?_))
 by_cases z:i<F.length
 ·rw [DI z]; exact hFs _ (List.getElem_mem _)
 ·rw [An (by exact CG z)]; exact ID (by decide)
end
theorem WD {c:Cx} {n:Nat} {s:S} {ss:List S} {Q:Fl->St->Prop} {σ:St} (h:wS c n s (fun fl σ₁=>match fl with | .next=>Bo c n ss Q σ₁ | fl=>Q fl σ₁) σ):Bo c n (s :: ss) Q σ:=h
theorem JK {f g:NR} {a:Nat} {d:Rat} (h:∀ i,g i=f i+if i=a then d else 0):∀ n,sm g n=sm f n+if a<n then d else 0
 | 0=>by rw [if_neg (Nat.not_lt_zero a),Rat.add_zero]; rfl
 | n+1=>by
  show sm g n+g n=sm f n+f n+_;rw [JK h n,h n]
  by_cases z:n=a
  ·subst z;rw [if_pos rfl,if_neg (Nat.lt_irrefl n),if_pos (Nat.lt_succ_self n)];grind
  ·rw [if_neg z]
   by_cases z2:a<n
   ·rw [if_pos z2,if_pos (by exact JW z2)]; grind
   ·rw [if_neg z2,if_neg (by exact TT z z2)]; grind
theorem KD {f:NR} {a n:Nat} (ha:a<n) (h:∀ i,i≠a->f i=0):sm f n=f a:=by
 have e:=JK (f:=fun _=>0) (g:=f) (a:=a) (d:=f a) (fun i=>by
  by_cases z:i=a
  ·subst z; rw [if_pos rfl,Rat.zero_add]
  ·rw [if_neg z,h i z,Rat.add_zero]) n
 have z:∀ n,sm (fun _=>(0:Rat)) n=0:=fun n=>by
  induction n with
  | zero=>rfl
  | succ n ih=>show sm (fun _=>0) n+0=0; rw [ih,Rat.add_zero]
 rw [e,z,if_pos ha,Rat.zero_add]
theorem WE {W q:LR} {k:Nat} {t:Rat} (hk:k<W.length) (h0:cf W k=0) (j:Nat):cv (W.set k t) q j=cv W q j+if k<=j then t*cf q (j - k) else 0:=by
 unfold cv;rw [List.length_set,JK (f:=Dk W q j) (a:=k) (d:=if k<=j then t*cf q (j - k) else 0) (fun i=>?_),if_pos hk];unfold Dk;rw [E7 hk]
 by_cases z:i=k
 ·subst z;rw [if_pos rfl,if_pos rfl,h0,Rat.zero_mul]
  by_cases z2:i<=j
  ·rw [if_pos z2,if_pos z2,Rat.zero_add]
  ·rw [if_neg z2,if_neg z2,Rat.zero_add]
 ·rw [if_neg z,if_neg z,Rat.add_zero]
theorem C3 {k l:Nat} {x y:Rat} (hx:RS k x) (hy:RS l y) (h0:y≠0):RS (k+l) (x / y):=by
 rw [<- LG];exact EH (Int.mul_ne_zero (Bk x) (fun z=>h0 (Rat.num_eq_zero.mp z))) (pow_mul hx.1 (Bn hy)) (pow_mul (Bn hx) hy.1)
theorem WF {k:Nat} {x:Rat} (hx:RS k x):RS k (-x):=by
 refine ⟨?_,hx.2⟩;show (-x.num).natAbs<_;rw [Int.natAbs_neg]; exact hx.1
theorem WG (x:Rat):D.tup [.int (0 - x.num),.int x.den]=Ae (-x):=by
 unfold Ae;rw [Int.zero_sub]; rfl
noncomputable def KE (g:Str):List S:=[.ret (.call g [.bin .Mult (.idx (.var 0) (.cint 0)) (.idx (.var 1) (.cint 1)),.bin .Mult (.idx (.var 0) (.cint 1)) (.idx (.var 1) (.cint 0))])]
noncomputable def FE:List S:=[
  .ret (.tup [.bin .Sub (.cint 0) (.idx (.var 0) (.cint 0)),.idx (.var 0) (.cint 1)])]
noncomputable def s_parted:List S:=[
  .assign 2 (.blt .list [.var 0]),
  .assign 3 (.bin .Mult (.lst [.glob "ZERO"]) (.blt .max [.cint 0,.bin .Add (.bin .Sub (.blt .len [.var 0]) (.blt .len [.var 1])) (.cint 1)])),
  .fors [4] true .range [.bin .Sub (.blt .len [.var 3]) (.cint 1),.neg (.cint 1),.neg (.cint 1)] [.assign 5 (.call "part_of" [.idx (.var 2) (.bin .Sub (.bin .Add (.var 4) (.blt .len [.var 1])) (.cint 1)),.idx (.var 1) (.neg (.cint 1))]),.setitem (.var 3) (.var 4) (.var 5),.fors [6] true .range [.blt .len [.var 1]] [.setitem (.var 2) (.bin .Add (.var 4) (.var 6)) (.call "sum_of" [.idx (.var 2) (.bin .Add (.var 4) (.var 6)),.call "turned" [.call "product_of" [.var 5,.idx (.var 1) (.var 6)]]])]],
  .ret (.tup [.call "trimmed" [.var 3],.call "trimmed" [.var 2]])]
noncomputable def E9 (c:Cx) (n:Nat) (g:Str):Prop:=AD c g/\∀ (x y:Rat) (k l:Nat) {m:Nat} {sto:Sto} {Q:D->Sto->Prop},n<=m->RS k x->RS l y->k+l<=134217728->y≠0->Q (Ae (x / y)) sto->Ah c m g [Ae x,Ae y] sto Q
section
variable {c:Cx} (CO:CxOK c)
include CO
theorem Sm {f g:Str} (hf:FnK c f 2 (KE g)) (hg:IH c 2 g):E9 c 3 f:=by
 refine ⟨hf.isFn,fun x y k l {m sto Q} hm hx hy hk h0 h=>?_⟩;obtain ⟨n,rfl⟩:∃ n,m=n+1:=⟨m - 1,OU hm⟩;refine fn_call CO hf rfl ?_;unfold KE;walk_at "m";refine BS (Dy hx.1 (Bn hy) hk) ?_;walk_at "m";refine BS (Dy (Bn hx) hy.1 hk) ?_;walk_at "m";refine hg.2 _ _ (OV hm) (Int.mul_ne_zero (Bk x) (fun z=>h0 (Rat.num_eq_zero.mp z))) ?_;rw [LG];exact ret_plain h
theorem N7 (hf:FnK c "turned" 1 FE) {x:Rat} {m:Nat} (hm:1<=m) {sto:Sto} {Q:D->Sto->Prop} (h:Q (Ae (-x)) sto):Ah c m "turned" [Ae x] sto Q:=by
 obtain ⟨n,rfl⟩:∃ n,m=n+1:=⟨m - 1,EM hm⟩;refine fn_call CO hf rfl ?_;unfold FE;walk_at "m";rw [WG];walk_at "m";exact ret_plain h
end
noncomputable def cvn (a b:NR) (j:Nat):Rat:=sm (fun i=>a i*b (j - i)) (j+1)
theorem Ar (p q:LR) (j:Nat):cv p q j=cvn (cf p) (cf q) j:=GE p q j
theorem KF (f g:NR):∀ n,sm (fun i=>f i+g i) n=sm f n+sm g n
 | 0=>by show (0:Rat)=0+0; grind
 | n+1=>by
  show sm (fun i=>f i+g i) n+(f n+g n)=sm f n+f n+(sm g n+g n);rw [KF f g n]; grind
theorem HV (x:Rat) (f:NR):∀ n,sm (fun i=>x*f i) n=x*sm f n
 | 0=>by show (0:Rat)=x*0; grind
 | n+1=>by
  show sm (fun i=>x*f i) n+x*f n=x*(sm f n+f n);rw [HV x f n]; grind
theorem Ge:∀ n,sm (fun _=>(0:Rat)) n=0
 | 0=>rfl
 | n+1=>by show sm (fun _=>0) n+0=0; rw [Ge n,Rat.add_zero]
theorem Ax {a b a' b':NR} (h1:∀ i,a i=a' i) (h2:∀ i,b i=b' i) (j:Nat):cvn a b j=cvn a' b' j:=Bs fun i _=>by rw [h1,h2]
theorem Af (a b:NR) (j:Nat):cvn a b j=cvn b a j:=by
 unfold cvn;rw [Kx];refine Bs fun i hi=>?_;show a (j+1 - 1 - i)*b (j - (j+1 - 1 - i))=_;rw [Rat.mul_comm,show j+1 - 1 - i=j - i by exact o88,show j - (j - i)=i by exact o89 hi]
theorem BK (a b c:NR) (j:Nat):cvn (fun i=>a i+b i) c j=cvn a c j+cvn b c j:=by
 unfold cvn;rw [<- KF];exact Bs fun i _=>by grind
theorem DT (a b c:NR) (j:Nat):cvn a (fun i=>b i+c i) j=cvn a b j+cvn a c j:=by
 rw [Af,BK,Af b,Af c]
theorem Ai (x:Rat) (a b:NR) (j:Nat):cvn (fun i=>x*a i) b j=x*cvn a b j:=by
 unfold cvn;rw [<- HV];exact Bs fun i _=>by grind
theorem AN (x:Rat) (a b:NR) (j:Nat):cvn a (fun i=>x*b i) j=x*cvn a b j:=by
 rw [Af,Ai,Af]
theorem En (a b:NR):cvn a b 0=a 0*b 0:=by
 show 0+a 0*b (0 - 0)=_;rw [Rat.zero_add]
theorem Eo (a b:NR) (j:Nat):cvn a b (j+1)=a 0*b (j+1)+cvn (fun i=>a (i+1)) b j:=by
 show sm (fun i=>a i*b (j+1 - i)) (j+1+1)=_;rw [FB]
 congr 1
 exact Bs fun i _=>by rw [Nat.succ_sub_succ j i]
theorem C4 (b c:NR):∀ (j:Nat) (a:NR),cvn (cvn a b) c j=cvn a (cvn b c) j
 | 0,a=>by rw [En,En,En,En]; grind
 | j+1,a=>by
  rw [Eo (cvn a b),Eo a (cvn b c),En,Eo b c];have e:∀ i,cvn a b (i+1)=a 0*b (i+1)+cvn (fun i=>a (i+1)) b i:=fun i=>Eo a b i;rw [Ax e (fun _=>rfl) j,BK,Ai,C4 b c j (fun i=>a (i+1))];grind
noncomputable def one0 (i:Nat):Rat:=if i=0 then 1 else 0
theorem Aq (a:NR) (j:Nat):cvn one0 a j=a j:=by
 unfold cvn;rw [KD (a:=0) (by exact O0) (fun i hi=>by rw [show one0 i=0 from if_neg hi,Rat.zero_mul])];show one0 0*a (j - 0)=a j;rw [show one0 0=1 from rfl,Rat.one_mul]; rfl
theorem Ag (a:NR) (j:Nat):cvn (fun _=>0) a j=0:=by
 unfold cvn;rw [show (fun i=>(0:Rat)*a (j - i))=fun _=>0 by funext i; rw [Rat.zero_mul]];exact Ge _
noncomputable def RC (B:Nat) (a:NR):Prop:=∃ (d:Int) (z:Nat->Int),d≠0/\d.natAbs<2 ^ B/\(∀ i,(z i).natAbs<2 ^ B)/\∀ i,a i*(d:Rat)=(z i:Rat)
theorem cast_ne {d:Int} (h:d≠0):(d:Rat)≠0:=fun z=>h (Rat.intCast_eq_zero_iff.mp z)
theorem WH {x:Rat} {d z:Int} (hd:d≠0) (h:x*(d:Rat)=(z:Rat)):x=Rat.divInt z d:=by
 rw [Rat.divInt_eq_div,<- h,Rat.mul_div_cancel (cast_ne hd)]
theorem RC.rs {B:Nat} {a:NR} (h:RC B a) (i:Nat):RS B (a i):=by
 refine Am h fun d z h1 h2 h3 h4=>?_;rw [WH h1 (h4 i)];exact EH h1 (h3 i) h2
theorem RC.mono {B C:Nat} {a:NR} (h:RC B a) (hl:B<=C):RC C a:=by
 refine Am h fun d z h1 h2 h3 h4=>?_;have:=Nat.pow_le_pow_right (show 0<2 by decide) hl;exact ⟨d,z,h1,Nat.lt_of_lt_of_le h2 this,fun i=>Nat.lt_of_lt_of_le (h3 i) this,h4⟩
theorem RC.cong {B:Nat} {a b:NR} (h:RC B a) (e:∀ i,b i=a i):RC B b:=by
 refine Am h fun d z h1 h2 h3 h4=>?_;exact ⟨d,z,h1,h2,h3,fun i=>by rw [e i]; exact h4 i⟩
theorem RC.scale {B k:Nat} {a:NR} {x:Rat} (h:RC B a) (hx:RS k x):RC (B+k) (fun i=>a i*x):=by
 refine Am h fun d z h1 h2 h3 h4=>?_;refine ⟨d*x.den,fun i=>z i*x.num,Int.mul_ne_zero h1 (Bk x),pow_mul h2 (Bn hx),fun i=>pow_mul (h3 i) hx.1,fun i=>?_⟩;have e:x*((x.den:Int):Rat)=((x.num:Int):Rat):=by
  have h:=Rat.num_divInt_den x;rw [Rat.divInt_eq_div] at h;have k:=Rat.div_mul_cancel (a:=((x.num:Int):Rat)) (cast_ne (Bk x));rw [h] at k;exact k
 rw [Rat.intCast_mul,Rat.intCast_mul,<- h4 i,<- e]; grind
theorem RC.add {A B:Nat} {a b:NR} (h:RC A a) (h':RC B b):RC (A+B+1) (fun i=>a i+b i):=by
 refine Am h fun d z h1 h2 h3 h4=>?_;refine Am h' fun e y k1 k2 k3 k4=>?_;refine ⟨d*e,fun i=>z i*e+y i*d,Int.mul_ne_zero h1 k1,?_,fun i=>?_,fun i=>?_⟩
 ·have:=pow_mul h2 k2;rw [Nat.pow_succ]; exact adw this
 ·have m1:=pow_mul (h3 i) k2;have m2:=pow_mul (k3 i) h2;rw [Nat.add_comm B A] at m2;have m3:=Int.natAbs_add_le (z i*e) (y i*d);show (z i*e+y i*d).natAbs<_;rw [Nat.pow_succ]; exact adx m1 m2
 ·rw [Rat.intCast_mul,Rat.intCast_add,Rat.intCast_mul,Rat.intCast_mul,<- h4 i,<- k4 i]; grind
noncomputable def smI (f:Nat->Int):Nat->Int
 | 0=>0
 | n+1=>smI f n+f n
theorem He (f:Nat->Int):∀ n,((smI f n:Int):Rat)=sm (fun i=>(f i:Rat)) n
 | 0=>rfl
 | n+1=>by
  show ((smI f n+f n:Int):Rat)=sm (fun i=>(f i:Rat)) n+(f n:Rat);rw [Rat.intCast_add,He f n]
theorem HW {f:Nat->Int} {M:Nat} (h:∀ i,(f i).natAbs<=M):∀ n,(smI f n).natAbs<=n*M
 | 0=>by show (0:Int).natAbs<=_; simp
 | n+1=>by
  have h1:=HW h n;have h2:=h n;have h3:=Int.natAbs_add_le (smI f n) (f n);show (smI f n+f n).natAbs<=_;rw [Nat.add_mul,Nat.one_mul]; exact ady h1 h2
theorem RC.part {A B:Nat} {p q:LR} (h:RC A (cf p)) (h':RC B (cf q)) {n:Nat} (hn:n<=31):RC (A+B+5) (fun j=>sm (Dk p q j) n):=by
 refine Am h fun d z h1 h2 h3 h4=>?_;refine Am h' fun e y k1 k2 k3 k4=>?_;have hp:2 ^ (A+B+5)=32*2 ^ (A+B):=(Nat.pow_add 2 (A+B) 5).trans (Nat.mul_comm _ _);refine ⟨d*e,fun j=>smI (fun i=>if i<=j then z i*y (j - i) else 0) n,Int.mul_ne_zero h1 k1,?_,fun j=>?_,fun j=>?_⟩
 ·have:=pow_mul h2 k2;rw [hp]; exact adz this
 ·have hb:=HW (f:=fun i=>if i<=j then z i*y (j - i) else 0) (M:=2 ^ (A+B)) (fun i=>by
   split
   ·exact Nat.le_of_lt (pow_mul (h3 i) (k3 _))
   ·exact Nat.zero_le _) n
  have h5:n*2 ^ (A+B)<=31*2 ^ (A+B):=Nat.mul_le_mul hn (Nat.le_refl _);have h6:0<2 ^ (A+B):=Nat.pow_pos (by decide);show (smI (fun i=>if i<=j then z i*y (j - i) else 0) n).natAbs<_;rw [hp]; exact adA hb h5 h6
 ·rw [He,Rat.mul_comm,<- HV];refine Bs fun i _=>?_;unfold Dk
  by_cases z1:i<=j
  ·rw [if_pos z1,if_pos z1,Rat.intCast_mul,Rat.intCast_mul,<- h4 i,<- k4]; grind
  ·rw [if_neg z1,if_neg z1,Rat.mul_zero]; rfl
theorem RC.prod {A B:Nat} {p q:LR} (h:RC A (cf p)) (h':RC B (cf q)) (hn:p.length<=31):RC (A+B+5) (cv p q):=h.part h' hn
theorem RC.none {B:Nat} (h:1<=B):RC B (fun _=>0):=⟨1,fun _=>0,by decide,Nat.lt_of_lt_of_le (by decide) (Nat.pow_le_pow_right (show 0<2 by decide) h),fun _=>Nat.pow_pos (by decide),fun _=>by rw [Rat.zero_mul]; rfl⟩
section
variable {c:Cx} (CO:CxOK c)
include CO
noncomputable def RC2 (B:Nat) (a b:NR):Prop:=∃ (d:Int) (z y:Nat->Int),d≠0/\d.natAbs<2 ^ B/\(∀ i,(z i).natAbs<2 ^ B)/\(∀ i,(y i).natAbs<2 ^ B)/\(∀ i,a i*(d:Rat)=(z i:Rat))/\∀ i,b i*(d:Rat)=(y i:Rat)
omit CO in
theorem N8 {B N m:Nat} {p:LR} (h:RC B (cf p)):RC2 (B+0*m) (cf (List.replicate N 0)) (cf p):=by
 refine Am h fun d z h1 h2 h3 h4=>?_;rw [Nat.zero_mul,Nat.add_zero];exact ⟨d,fun _=>0,z,h1,h2,fun _=>Nat.pow_pos (by decide),h3,fun i=>by rw [Ce,Rat.zero_mul]; rfl,h4⟩
omit CO in
theorem RC2.left {B:Nat} {a b:NR} (h:RC2 B a b):RC B a:=by
 refine Ez h fun d z y h1 h2 h3 h4 h5 h6=>?_;exact ⟨d,z,h1,h2,h3,h5⟩
omit CO in
theorem RC2.right {B:Nat} {a b:NR} (h:RC2 B a b):RC B b:=by
 refine Ez h fun d z y h1 h2 h3 h4 h5 h6=>?_;exact ⟨d,y,h1,h2,h4,h6⟩
omit CO in
theorem RC2.put {A b m a:Nat} {W R q:NR} {e:Int} {y:Nat->Int} {t:Rat} (h:RC2 A W R) (he:e.natAbs<2 ^ b) (hy:∀ i,(y i).natAbs<2 ^ b) (hq:∀ i,q i*(e:Rat)=(y i:Rat)) (hm:y m≠0) (ht:t*q m=R (a+m)) :
  RC2 (A+(b+1)) (fun i=>if i=a then t else W i) (fun j=>R j+if a<=j then -(t*q (j - a)) else 0):=by
 refine Ez h fun d z w h1 h2 h3 h4 h5 h6=>?_;have hp:2 ^ (A+(b+1))=2*2 ^ (A+b):=by rw [<- Nat.add_assoc,Nat.pow_succ]; exact adB
 have key:∀ i,t*q i*((d*y m:Int):Rat)=((w (a+m)*y i:Int):Rat):=fun i=>by
  rw [Rat.intCast_mul,Rat.intCast_mul,<- h6,<- hq i,<- hq,<- ht]; grind
 refine ⟨d*y m,fun i=>if i=a then w (a+m)*e else z i*y m,fun j=>w j*y m+if a<=j then -(w (a+m)*y (j - a)) else 0,Int.mul_ne_zero h1 hm,?_,fun i=>?_,fun j=>?_,fun i=>?_,fun j=>?_⟩
 ·have:=pow_mul h2 (hy m); rw [hp]; exact O1 this
 ·show (if i=a then w (a+m)*e else z i*y m).natAbs<_;have m1:=pow_mul (h4 (a+m)) he;have m2:=pow_mul (h3 i) (hy m);rw [hp]
  by_cases z1:i=a
  ·rw [if_pos z1]; exact O1 m1
  ·rw [if_neg z1]; exact O1 m2
 ·show (w j*y m+if a<=j then -(w (a+m)*y (j - a)) else 0).natAbs<_;have m1:=pow_mul (h4 j) (hy m);have m2:=pow_mul (h4 (a+m)) (hy (j - a));rw [hp]
  by_cases z1:a<=j
  ·rw [if_pos z1]; exact adC m1 m2
  ·rw [if_neg z1]; exact adD m1
 ·show (if i=a then t else W i)*_=((if i=a then w (a+m)*e else z i*y m:Int):Rat)
  by_cases z1:i=a
  ·rw [if_pos z1,if_pos z1,Rat.intCast_mul,Rat.intCast_mul,<- h6,<- hq,<- ht]; grind
  ·rw [if_neg z1,if_neg z1,Rat.intCast_mul,Rat.intCast_mul,<- h5]; grind
 ·show (R j+if a<=j then -(t*q (j - a)) else 0)*_=((w j*y m+if a<=j then -(w (a+m)*y (j - a)) else 0:Int):Rat)
  by_cases z1:a<=j
  ·rw [if_pos z1,if_pos z1,Rat.intCast_add,Rat.intCast_neg,<- key,Rat.intCast_mul,Rat.intCast_mul,<- h6]; grind
  ·rw [if_neg z1,if_neg z1,Rat.intCast_add,Rat.intCast_mul,Rat.intCast_mul,<- h6];rw [show ((0:Int):Rat)=0 from rfl]; grind
omit CO in
theorem RC2.place {A b:Nat} {W R q:LR} {e:Int} {y:Nat->Int} {t:Rat} {a:Nat} (h:RC2 A (cf W) (cf R)) (he:e.natAbs<2 ^ b) (hy:∀ i,(y i).natAbs<2 ^ b) (hq:∀ i,cf q i*(e:Rat)=(y i:Rat)) (hm:y (q.length - 1)≠0) (ht:t*cf q (q.length - 1)=cf R (a+q.length - 1)) (hq1:1<=q.length) :
  RC2 (A+(b+1)) (fun i=>if i=a then t else cf W i) (fun j=>cf R j+if a<=j then -(t*cf q (j - a)) else 0):=h.put he hy hq hm (by rw [ht,Nat.add_sub_assoc hq1])
noncomputable def Fa (a b:Nat) (p q W R:LR):Prop:=(∀ j,cf p j=cv W q j+cf R j)/\(∀ j,q.length - 1<=j->cf R j=0)/\RC (a+(p.length+1 - q.length)*(b+1)) (cf W)/\RC (a+(p.length+1 - q.length)*(b+1)) (cf R)/\W.length<=p.length+1 - q.length
theorem M9 (hz:c.cs "ZERO"=some (Ae 0)) (hs:GH c 3 "sum_of") (hpr:DM c 3 "product_of") (hpa:E9 c 3 "part_of") (ht:Cu c 1 "trimmed") (htu:FnK c "turned" 1 FE) (hf:FnK c "parted" 2 s_parted) {p q:LR} {ba bb:Nat} (hp:RC ba (cf p)) (hqc:RC bb (cf q)) (hab:ba+(p.length+2 - q.length)*(bb+1)<=60000000) (hq0:q≠[]) (hqw:cf q (q.length - 1)≠0) (hpl:p.length<=31) (hql:q.length<=20) {m:Nat} (hm:4<=m) {sto:Sto} {Q:D->Sto->Prop}
  (h:∀ W R,Fa ba bb p q W R->Q (.tup [rowD (trimL W),rowD (trimL R)]) sto):Ah c m "parted" [rowD p,rowD q] sto Q:=by
 obtain ⟨n,rfl⟩:∃ n,m=n+1:=⟨m - 1,FY hm⟩;have hq1:1<=q.length:=List.length_pos_iff.mpr hq0;have hq:Cb bb q:=fun i=>hqc.rs i;refine Am (id hqc) fun qe qy qe0 qeb qyb qeq=>?_;have hqm:qy (q.length - 1)≠0:=fun z=>by
  have:=qeq (q.length - 1);rw [z] at this;rcases Rat.mul_eq_zero.mp this with z' | z'
  ·exact hqw z'
  ·exact cast_ne qe0 z'
 refine fn_call CO hf rfl ?_;unfold s_parted;walk_at "m";refine f_listT (by exact Mine.mlim (o233 hpl)) fun l2 hl2=>?_;walk_at "m";refine ⟨zq rfl,fun l3 hl3=>?_⟩;walk_at "m";refine f_lenR (o233 hpl) ?_;walk_at "m";refine f_lenR (EN hql) ?_;walk_at "m";refine Ga put_same (by simp) (adE) (adF hpl) fun l4 hl4=>?_;rw [Cf] at *;obtain ⟨N,hN⟩:∃ N:Nat,(max (0:Int) ((p.length:Int) - q.length+1))=(N:Int):=Int.eq_ofNat_of_zero_le (adG);rw [hN,Int.toNat_natCast];have hNd:N=p.length+1 - q.length:=adH hN;clear hN;have hN15:N<=31:=adI hNd hq1 hpl;walk_at "m";refine f_lenL put_same (by rw [List.length_map,List.length_replicate]; unfold lim; exact adJ hN15) ?_;rw [List.length_map,List.length_replicate];walk_at "m";refine ⟨by simp [smallI]; exact adK hN15,_,rfl,?_⟩;refine AM (fun i σ=>∃ W R:LR,W.length=N/\R.length=p.length/\(∀ j,cf p j=cv W q j+cf R j)/\(∀ a,a+i<N->cf W a=0)/\(∀ j,N+q.length<=j+1+i->q.length<=j+1->cf R j=0)/\RC2 (ba+i*(bb+1)) (cf W) (cf R)/\σ.loc 1=some (rowD q)/\σ.loc 2=some (.lst l2)/\σ.loc 3=some (.lst l4)/\l2≠l4/\σ.sto l2=some (.list true (R.map Ae))/\σ.sto l4=some (.list true (W.map Ae))) (fun _ _=>False) _ 0 _ ?_ (fun _ _ _=>trivial) ?_ (fun _ _ z=>z.elim) ?_
 ·have hs2:=put_old (k:=Cell.list true ((List.replicate N 0).map Ae)) hl4 (put_old hl3 (put_same (s:=(Dw [rowD p,rowD q] sto).sto) (l:=l2) (k:=Cell.list true (p.map Ae))));refine ⟨List.replicate N 0,p,List.length_replicate,rfl,fun j=>?_,fun a _=>Ce _ _,fun j hj hj2=>An (adM hNd hj),N8 hp,rfl,rfl,rfl,fun z=>?_,hs2,put_same⟩
  ·have:cv (List.replicate N 0) q j=0:=by
    rw [cv_comm,GE];have e:(fun i=>cf q i*cf (List.replicate N 0) (j - i))=fun _=>0:=by funext i; rw [Ce,Rat.mul_zero]
    rw [e];exact KD (f:=fun _=>0) (a:=0) (O0) (fun _ _=>rfl)
   rw [this,Rat.zero_add]
  ·subst z;have h4:Sto.put (Sto.put (Dw [rowD p,rowD q] sto).sto l2 (Cell.list true (p.map Ae))) l3 (Cell.list true [Ae 0]) l2=none:=hl4;exact absurd (h4.symm.trans (put_old (s:=Sto.put (Dw [rowD p,rowD q] sto).sto l2 (Cell.list true (p.map Ae))) hl3 put_same)) (by simp)
 ·intro i d σ K hd q150_ hn hr; refine xq2_12 q150_ fun W R hW1 hR1 hE hW0 hR0 hRW g1 g2 g3 hne s2 s4=>?_; clear q150_;obtain ⟨hi0,hdd⟩:=ER hd;subst hdd;rw [Nat.zero_add] at hW0 hR0 hRW hn;have hi:i<N:=adN hi0;obtain ⟨a,ha⟩:∃ a:Nat,N=a+i+1:=⟨N - 1 - i,adP hi⟩;have hap:a+q.length<=p.length:=adQ hNd ha;rw [show (N:Int) - 1 - (i:Int)=(a:Int) by exact adR ha];have hbi:ba+i*(bb+1)+(bb+1)<=60000000:=by
   have:(i+1)*(bb+1)<=(p.length+2 - q.length)*(bb+1):=Nat.mul_le_mul (adS ha hNd) (Nat.le_refl _);rw [Nat.add_mul,Nat.one_mul] at this;exact adT this hab
  have hRs:Cb (ba+i*(bb+1)) R:=fun j=>hRW.right.rs j;obtain ⟨bi,hbie⟩:∃ bi,ba+i*(bb+1)=bi:=⟨_,rfl⟩;rw [hbie] at hbi hRs hRW;walk_at "m";refine f_lenR (EN hql) ?_;walk_at "m";rw [show (a:Int)+(q.length:Int) - 1=((a+q.length - 1:Nat):Int) by exact adU hq1];refine Gc s2 (Ii hR1 hpl) (adV hR1 hap hq1) ?_;walk_at "m";refine EF (by exact Mine.mlim (EN hql)) (CX hq0) ?_;walk_at "m";refine hpa.2 _ _ bi bb (Eg hm) (hRs _) (hq _) (adW hbi) hqw ?_;have rt:RS (bi+bb) (cf R (a+q.length - 1) / cf q (q.length - 1)):=C3 (hRs _) (hq _) hqw;have et:cf R (a+q.length - 1) / cf q (q.length - 1)*cf q (q.length - 1)=cf R (a+q.length - 1):=Rat.div_mul_cancel hqw;generalize cf R (a+q.length - 1) / cf q (q.length - 1)=t at rt et ⊢;walk_at "m";refine Gb s4 (by exact Mine.mlim (Ii hW1 hN15)) (EL) (by rw [List.length_map]; exact adX ha hW1) ?_;rw [Int.toNat_natCast,GG];refine WD (Kw ?_);walk_at "m";refine f_lenR (EN hql) ?_;walk_at "m";refine ⟨by simp [smallI]; exact JY hql,_,rfl,?_⟩;refine AM (fun u τ=>∃ G:LR,G.length=p.length/\(∀ j,cf G j=cf R j+if a<=j/\j - a<u then -(t*cf q (j - a)) else 0)/\τ.loc 1=some (rowD q)/\τ.loc 2=some (.lst l2)/\τ.loc 3=some (.lst l4)/\τ.loc 4=some (.int a)/\τ.loc 5=some (Ae t)/\τ.sto l2=some (.list true (G.map Ae))/\τ.sto l4=some (.list true ((W.set a t).map Ae))) (fun _ _=>False) _ 0 _ ?_ (fun _ _ _=>trivial) ?_ (fun _ _ z=>z.elim) ?_
  ·exact ⟨R,hR1,fun j=>by rw [if_neg (fun z=>Nat.not_lt_zero _ z.2),Rat.add_zero],g1,g2,g3,rfl,rfl,(put_ne hne).trans s2,put_same⟩
  ·intro u d τ K₂ hd₂ q151_ hn₂ hr₂; refine xq1_9 q151_ fun G hG1 hG k1 k2 k3 k4 k5 t2 t4=>?_; clear q151_;obtain ⟨hu,hdd⟩:=Bh hd₂;rw [Int.zero_add] at hdd;subst hdd;rw [Nat.zero_add] at hG hn₂;have hu:u<q.length:=Eh hu;have e:cf G (a+u)=cf R (a+u):=by rw [hG,if_neg (fun z=>by have:=z.2; exact TU z),Rat.add_zero]
   walk_at "m";rw [show (a:Int)+(u:Int)=((a+u:Nat):Int) by exact JZ];refine Gc t2 (Ii hG1 hpl) (TV hG1 hap hu) ?_;rw [e];walk_at "m";refine FD (EN hql) hu ?_;walk_at "m";refine hpr.2 _ _ (bi+bb) bb (Eg hm) rt (hq u) (adY hbi) ?_;walk_at "m";refine N7 CO htu (FZ hm) ?_;walk_at "m";refine hs.2 _ _ bi (bi+bb+bb) (Eg hm) (hRs _) (WF (C2 rt (hq u))) (adZ hbi) ?_;walk_at "m";rw [show (a:Int)+(u:Int)=((a+u:Nat):Int) by exact JZ];refine Gb t2 (by exact Mine.mlim (Ii hG1 hpl)) (TX) (by rw [List.length_map]; exact ad0 hG1 hap hu) ?_;refine hn₂ _ ⟨G.set (a+u) (cf R (a+u)+-(t*cf q u)),by rw [List.length_set]; exact hG1,fun j=>?_,k1,k2,k3,k4,k5,?_,?_⟩
   ·rw [E7 (by exact TV hG1 hap hu)]
    by_cases z:j=a+u
    ·subst z; rw [if_pos rfl,if_pos ⟨by exact Lv,by exact TY⟩,show a+u - a=u by exact F3]
    ·rw [if_neg z,hG j]
     congr 1
     by_cases z2:a<=j/\j - a<u
     ·rw [if_pos z2,if_pos ⟨z2.1,by exact TZ z2⟩]
     ·rw [if_neg z2,if_neg (fun z3=>z2 ⟨z3.1,by exact T0 z z3⟩)]
   ·show Sto.put _ _ _ _=_;rw [put_same,Int.toNat_natCast,GG]
   ·exact (put_ne (fun z=>hne z.symm)).trans t4
  ·intro τ q152_; refine xq1_9 q152_ fun G hG1 hG k1 k2 k3 k4 k5 t2 t4=>?_; clear q152_;rw [Nat.zero_add,Bg] at hG;have hG:∀ j,cf G j=cf R j+if a<=j then -(t*cf q (j - a)) else 0:=fun j=>by
    rw [hG j]
    congr 1
    by_cases z:a<=j
    ·rw [if_pos z]
     by_cases z2:j - a<q.length
     ·rw [if_pos ⟨z,by exact T9 z2⟩]
     ·rw [if_neg (fun z3=>z2 (by have:=z3.2; exact Ua z3)),An (p:=q) (by exact Ub z2),Rat.mul_zero]; rfl
    ·rw [if_neg z,if_neg (fun z3=>z z3.1)]
   have hst:RC2 (ba+(i+1)*(bb+1)) (cf (W.set a t)) (cf G):=by
    have:=hRW.place (q:=q) (t:=t) (a:=a) qeb qyb qeq hqm et hq1;rw [show ba+(i+1)*(bb+1)=bi+(bb+1) by rw [<- hbie,Nat.add_mul,Nat.one_mul]; exact ad1];have e1:cf (W.set a t)=fun i=>if i=a then t else cf W i:=funext fun b=>E7 (O2 ha hW1) b;have e2:cf G=fun j=>cf R j+if a<=j then -(t*cf q (j - a)) else 0:=funext hG;rw [e1,e2]; exact this
   refine hn _ ⟨W.set a t,G,by rw [List.length_set]; exact hW1,hG1,fun j=>?_,fun b hb=>?_,fun j hj hj2=>?_,hst,k1,k2,k3,hne,t2,t4⟩
   ·rw [WE (by exact O2 ha hW1) (hW0 a (by exact ad2 ha)),hG j,hE j]
    by_cases z:a<=j
    ·rw [if_pos z,if_pos z]; grind
    ·rw [if_neg z,if_neg z]; grind
   ·rw [E7 (by exact O2 ha hW1),if_neg (by exact ad3 ha hb)]; exact hW0 b (ad4 hb)
   ·rw [hG j,if_pos (by exact ad5 ha hj hq1)]
    by_cases z:j=a+q.length - 1
    ·subst z;rw [show a+q.length - 1 - a=q.length - 1 by exact ad6,et]; grind
    ·rw [hR0 j (by exact ad7 hj ha z) hj2,An (p:=q) (by exact ad8 hq1 z ha hj),Rat.mul_zero]; grind
 ·intro σ q153_; refine xq2_12 q153_ fun W R hW1 hR1 hE hW0 hR0 hRW g1 g2 g3 hne s2 s4=>?_; clear q153_;rw [Nat.zero_add,EQ] at hW0 hR0 hRW;walk_at "m";refine ht.2 W l4 _ (FZ hm) s4 (Ii hW1 hN15) ?_;walk_at "m";refine ht.2 R l2 _ (FZ hm) s2 (Ii hR1 hpl) ?_;walk_at "m";have eN:((N:Int) - 1 - -1).toNat=N:=ad9;rw [eN] at hRW;have hNl:N<=p.length+1 - q.length:=aea hNd;have hNm:N*(bb+1)<=(p.length+1 - q.length)*(bb+1):=Nat.mul_le_mul hNl (Nat.le_refl _);refine ret_plain (h W R ⟨hE,fun j hj=>hR0 j (aeb hj) (O3 hj),hRW.left.mono (Uc hNm),hRW.right.mono (Uc hNm),aec hNd hW1⟩)
theorem IJ (hz:c.cs "ZERO"=some (Ae 0)) (hs:GH c 3 "sum_of") (hpr:DM c 3 "product_of") (ht:Cu c 1 "trimmed") (hf:FnK c "multiplied" 2 s_multiplied) {p q:LR} {k l:Nat} (hpc:RC k (cf p)) (hqc:RC l (cf q)) (hkl:k+l<=66000000) (hpl:p.length<=20) (hql:q.length<=100) {m:Nat} (hm:4<=m) {sto:Sto} {Q:D->Sto->Prop} (h:∀ r,E8 p q r->Q (rowD (trimL r)) sto):Ah c m "multiplied" [rowD p,rowD q] sto Q:=by
 obtain ⟨n,rfl⟩:∃ n,m=n+1:=⟨m - 1,FY hm⟩;have hp:Cb k p:=fun i=>hpc.rs i;have hq:Cb l q:=fun i=>hqc.rs i;refine fn_call CO hf rfl ?_;have nil:p=[]\/q=[]->Q (.tup []) sto:=fun hpq=>by
  have:=h [] fun j=>by
   rcases hpq with rfl | rfl
   ·rfl
   ·rw [cv_comm]; rfl
  exact this
 unfold s_multiplied;walk_at "m";refine c_eqD (eq_rows p []) ?_;walk_at "m";refine if_or (fun hb=>?_) fun hb=>?_
 ·refine if_b (fun _=>?_) fun z=>by rw [hb] at z; cases z
  walk_at "m";exact ret_plain (nil (.inl (beq_iff_eq.mp hb)))
 walk_at "m";refine c_eqD (eq_rows q []) ?_;walk_at "m";refine if_or (fun hb=>?_) fun hb'=>?_
 ·refine if_b (fun _=>?_) fun z=>by rw [hb] at z; cases z
  walk_at "m";exact ret_plain (nil (.inr (beq_iff_eq.mp hb)))
 walk_at "m";have hp1:1<=p.length:=List.length_pos_iff.mpr (beq_eq_false_iff_ne.mp hb);have hq1:1<=q.length:=List.length_pos_iff.mpr (beq_eq_false_iff_ne.mp hb');walk_at "m";refine ⟨zq rfl,fun l2 hl2=>?_⟩;walk_at "m";refine f_lenR (EN hpl) ?_;walk_at "m";refine f_lenR (o284 hql) ?_;walk_at "m";refine Ga put_same (by simp) (aed) (aee hql hpl) fun l4 hl4=>?_;rw [Cf];walk_at "m";refine f_lenR (EN hpl) ?_;walk_at "m";refine ⟨by simp [smallI]; exact JY hpl,_,rfl,?_⟩;refine AM (fun i σ=>∃ F:LR,F.length=p.length+q.length - 1/\(∀ j,cf F j=sm (Dk p q j) i)/\Cb (k+l+5) F/\σ.loc 0=some (rowD p)/\σ.loc 2=some (.lst l4)/\σ.loc 1=some (rowD q)/\σ.sto l4=some (.list true (F.map Ae))) (fun _ _=>False) _ 0 _ ?_ (fun _ _ _=>trivial) ?_ (fun _ _ z=>z.elim) ?_
 ·refine ⟨List.replicate ((p.length:Int)+q.length - 1).toNat 0,by rw [List.length_replicate]; exact aef,fun j=>Ce _ _,fun j=>by rw [Ce]; exact ID (aeg),rfl,rfl,rfl,put_same⟩
 ·intro i d σ K hd q154_ hn hr; refine xq1_7 q154_ fun F hF1 hF hFs h0 h2 h1 hst=>?_; clear q154_;obtain ⟨hi0,hdd⟩:=Bh hd;rw [Int.zero_add] at hdd;subst hdd;rw [Nat.zero_add] at hF hn;have hi:i<p.length:=Eh hi0;refine NY (Kw ?_);walk_at "m";refine f_lenR (o284 hql) ?_;walk_at "m";refine ⟨by simp [smallI]; exact Ud hql,_,rfl,?_⟩;refine AM (fun t σ=>∃ G:LR,G.length=p.length+q.length - 1/\(∀ j,cf G j=cf F j+if i<=j/\j - i<t then cf p i*cf q (j - i) else 0)/\σ.loc 0=some (rowD p)/\σ.loc 2=some (.lst l4)/\σ.loc 1=some (rowD q)/\σ.loc 3=some (.int i)/\σ.sto l4=some (.list true (G.map Ae))) (fun _ _=>False) _ 0 _ ?_ (fun _ _ _=>trivial) ?_ (fun _ _ z=>z.elim) ?_
  ·exact ⟨F,hF1,fun j=>by rw [if_neg (fun z=>Nat.not_lt_zero _ z.2),Rat.add_zero],h0,h2,h1,rfl,hst⟩
  ·intro t d σ₂ K₂ hd₂ q155_ hn₂ hr₂; refine xq1_7 q155_ fun G hG1 hG g0 g2 g1 g3 gst=>?_; clear q155_;obtain ⟨ht',hdd⟩:=Bh hd₂;rw [Int.zero_add] at hdd;subst hdd;rw [Nat.zero_add] at hG hn₂;have ht':t<q.length:=Eh ht';have e:cf G (i+t)=cf F (i+t):=by rw [hG,if_neg (fun z=>by have:=z.2; exact TU z),Rat.add_zero]
   walk_at "m";rw [show (i:Int)+(t:Int)=((i+t:Nat):Int) by exact JZ];refine Gc gst (O4 hG1 hpl hql) (Ue hG1 hi0 ht') ?_;rw [e];walk_at "m";refine FD (EN hpl) hi ?_;walk_at "m";refine FD (o284 hql) ht' ?_;walk_at "m";refine hpr.2 _ _ k l (Eg hm) (hp i) (hq t) (aeh hkl) ?_;walk_at "m";refine hs.2 _ _ (k+l+5) (k+l) (Eg hm) (hFs (i+t)) (C2 (hp i) (hq t)) (aei hkl) ?_;walk_at "m";rw [show (i:Int)+(t:Int)=((i+t:Nat):Int) by exact JZ];refine Gb gst (by exact Mine.mlim (O4 hG1 hpl hql)) (TX) (by rw [List.length_map]; exact aej hG1 hi0 ht') ?_;refine hn₂ _ ⟨G.set (i+t) (cf F (i+t)+cf p i*cf q t),by rw [List.length_set]; exact hG1,fun j=>?_,g0,g2,g1,g3,?_⟩
   ·rw [E7 (by exact Ue hG1 hi0 ht')]
    by_cases z:j=i+t
    ·subst z; rw [if_pos rfl,if_pos ⟨by exact Lv,by exact TY⟩,show i+t - i=t by exact F3]
    ·rw [if_neg z,hG j]
     congr 1
     by_cases z2:i<=j/\j - i<t
     ·rw [if_pos z2,if_pos ⟨z2.1,by exact TZ z2⟩]
     ·rw [if_neg z2,if_neg (fun z3=>z2 ⟨z3.1,by exact T0 z z3⟩)]
   ·show Sto.put _ _ _ _=_;rw [put_same,Int.toNat_natCast,GG]
  ·intro σ₂ q156_; refine xq1_7 q156_ fun G hG1 hG g0 g2 g1 g3 gst=>?_; clear q156_;rw [Nat.zero_add,Bg] at hG;have hG:∀ j,cf G j=sm (Dk p q j) (i+1):=fun j=>by
    rw [hG j,hF j];show _=sm (Dk p q j) i+Dk p q j i
    congr 1
    unfold Dk
    by_cases z:i<=j
    ·rw [if_pos z]
     by_cases z2:j - i<q.length
     ·rw [if_pos ⟨z,by exact T9 z2⟩]
     ·rw [if_neg (fun z3=>z2 (by have:=z3.2; exact Ua z3)),An (p:=q) (by exact Ub z2),Rat.mul_zero]
    ·rw [if_neg z,if_neg (fun z3=>z z3.1)]
   refine hn _ ⟨G,hG1,hG,fun j=>?_,g0,g2,g1,gst⟩;rw [hG j];exact (hpc.part hqc (n:=i+1) (aek hpl hi)).rs j
 ·intro σ q157_; refine xq1_7 q157_ fun F hF1 hF hFs h0 h2 h1 hst=>?_; clear q157_;walk_at "m";refine ht.2 F l4 _ (FZ hm) hst (O4 hF1 hpl hql) ?_;walk_at "m";refine ret_plain (h F fun j=>?_);rw [hF j,Bg];show sm _ (0+((p.length:Int) - 0).toNat)=sm _ p.length
  congr 1
  exact Uf
end
noncomputable def FF (t g x:Str):List S:=[
  .ret (.call t [.comp (.call g [.var 100,.var 1]) [(100,x)] .plain [.var 0]])]
noncomputable def FG:List S:=[
  .ret (.call "added" [.var 0,.call "scaled" [.var 1,.tup [.neg (.cint 1),.cint 1]]])]
noncomputable def Ab (a:NR):Prop:=∃ N,∀ i,N<=i->a i=0
theorem fin_cf (p:LR):Ab (cf p):=⟨p.length,fun i hi=>An hi⟩
theorem Au {a b:NR} (h:Ab a) (h':Ab b):Ab (fun i=>a i+b i):=by
 obtain ⟨N,h⟩:=h;obtain ⟨M,h'⟩:=h';exact ⟨N+M,fun i hi=>by show a i+b i=0; rw [h i (by exact Mh hi),h' i (by exact F4 hi),Rat.add_zero]⟩
theorem Cj {a b:NR} {N M j:Nat} (h:∀ i,N<=i->a i=0) (h':∀ i,M<=i->b i=0) (hj:N+M<=j+1):cvn a b j=0:=by
 unfold cvn;rw [show (fun i=>a i*b (j - i))=fun _=>0 from ?_]
 ·exact Ge _
 ·funext i
  by_cases z:i<N
  ·rw [h' _ (by exact ael hj z),Rat.mul_zero]
  ·rw [h _ (by exact CG z),Rat.zero_mul]
theorem fin_cvn {a b:NR} (h:Ab a) (h':Ab b):Ab (cvn a b):=by
 obtain ⟨N,h⟩:=h;obtain ⟨M,h'⟩:=h';exact ⟨N+M,fun j hj=>Cj h h' (O5 hj)⟩
noncomputable def Dv (g:LR) (a:NR):Prop:=∃ r,Ab r/\∀ j,a j=cvn r (cf g) j
theorem IK (g:LR):Dv g (cf g):=⟨one0,⟨1,fun i hi=>if_neg (G5 hi)⟩,fun j=>(Aq _ j).symm⟩
theorem Sn (g:LR):Dv g (cf []):=⟨fun _=>0,⟨0,fun _ _=>rfl⟩,fun j=>by rw [Ag]; rfl⟩
theorem So {g W:LR} {A B R:NR} (h:∀ j,A j=cvn (cf W) B j+R j) (hB:Dv g B) (hR:Dv g R):Dv g A:=by
 refine xq1_2 hB fun r fr hr=>?_;refine xq1_2 hR fun t ft ht=>?_;refine ⟨fun i=>cvn (cf W) r i+t i,Au (fin_cvn (fin_cf W) fr) ft,fun j=>?_⟩;rw [BK,C4,h j,ht j,Ax (fun _=>rfl) hr]
theorem KG {g G:LR} {a:NR} {x y:Rat} (hxy:x*y=1) (hG:∀ i,cf G i=cf g i*x) (h:Dv g a):Dv G a:=by
 refine xq1_2 h fun r q158_ hr=>?_; obtain ⟨N,fr⟩:=q158_;refine ⟨fun i=>y*r i,⟨N,fun i hi=>by show y*r i=0; rw [fr i hi,Rat.mul_zero]⟩,fun j=>?_⟩;rw [Ai,Ax (fun _=>rfl) (fun i=>(hG i).trans (Rat.mul_comm _ _)),AN,hr j];grind
theorem RC.monic {B n:Nat} {a:NR} (h:RC B a) (h0:a n≠0):RC B (fun i=>a i*(1 / a n)):=by
 refine Am h fun d z h1 h2 h3 h4=>?_;have hz:z n≠0:=fun e=>by
  have:=h4 n;rw [e] at this;rcases Rat.mul_eq_zero.mp this with z' | z'
  ·exact h0 z'
  ·exact cast_ne h1 z'
 refine ⟨z n,z,hz,h3 n,h3,fun i=>?_⟩;rw [<- h4 n,<- h4 i];have e:1 / a n*a n=1:=Rat.div_mul_cancel h0;have:a i*(1 / a n)*(a n*(d:Rat))=a i*(1 / a n*a n)*(d:Rat):=by grind
 rw [this,e,Rat.mul_one]
theorem DN:RS 1 (1:Rat):=⟨by decide,by decide⟩
theorem IL:RS 1 (-1:Rat):=⟨by decide,by decide⟩
theorem rc_one:RC 1 (cf [1]):=⟨1,fun i=>if i=0 then 1 else 0,by decide,by decide,fun i=>by
 show (if i=0 then (1:Int) else 0).natAbs<_
 split <;> decide,fun i=>by
 show _=((if i=0 then (1:Int) else 0:Int):Rat)
 match i with
 | 0=>exact Rat.mul_one _
 | i+1=>rw [if_neg (by exact o302),An (by show 1<=i+1; exact Fp),Rat.zero_mul]; rfl⟩
theorem RC.trim {B:Nat} {p:LR} (h:RC B (cf p)):RC B (cf (trimL p)):=h.cong (Ak p)
theorem Ay {r:LR} {n:Nat} (hr:Rw r) (h:∀ j,n<=j->cf r j=0):r.length<=n:=by
 rcases hr with rfl | hr
 ·exact Nat.zero_le _
 ·by_cases z:r.length<=n
  ·exact z
  ·exact absurd (h _ (QL z)) hr
theorem KH {S W U F:LR} {n m:Nat} (hF:Rw F) (e:∀ i,cf F i=cf S i - cvn (cf W) (cf U) i) (h1:S.length<=n) (h2:W.length+U.length<=n+1):F.length<=n :=
 Ay hF fun j hj=>by
  rw [e j,An (p:=S) (by exact J0 h1 hj),Cj (N:=W.length) (M:=U.length) (fun i hi=>An hi) (fun i hi=>An hi) (by exact Mi h2 hj)]; grind
theorem Sp {S T W U V F H p q:LR} {A B R:NR} (eA:∀ j,A j=cvn (cf S) (cf p) j+cvn (cf T) (cf q) j) (eB:∀ j,B j=cvn (cf U) (cf p) j+cvn (cf V) (cf q) j) (h:∀ j,A j=cvn (cf W) B j+R j) (eF:∀ i,cf F i=cf S i - cvn (cf W) (cf U) i) (eH:∀ i,cf H i=cf T i - cvn (cf W) (cf V) i) (j:Nat):R j=cvn (cf F) (cf p) j+cvn (cf H) (cf q) j:=by
 have x1:∀ {S U F:LR} (p:LR),(∀ i,cf F i=cf S i - cvn (cf W) (cf U) i)->∀ j,cvn (cf F) (cf p) j=cvn (cf S) (cf p) j - cvn (cf W) (cvn (cf U) (cf p)) j:=fun {S U F} p eF j=>by
  rw [Ax (a':=fun i=>cf S i+(-1)*cvn (cf W) (cf U) i) (fun i=>by rw [eF i]; grind) (fun _=>rfl),BK,Ai,C4]; grind
 rw [x1 p eF,x1 q eH];have h1:=h j;rw [Ax (fun _=>rfl) eB,DT,eA j] at h1;grind
theorem N9:∀ (K:Nat) (f:Nat->Nat),(∀ n,n<=K->f n<K)->∃ i j,i<j/\j<=K/\f i=f j
 | 0,f,h=>absurd (h 0 (Nat.le_refl _)) (Nat.not_lt_zero _)
 | K+1,f,h=>by
  by_cases hv:∃ i,i<=K/\f i=f (K+1)
  ·refine xq1_2 hv fun i hi e=>?_;exact ⟨i,K+1,Nat.lt_succ_of_le hi,Nat.le_refl _,e⟩
  ·have hv:∀ i,i<=K->f i≠f (K+1):=fun i hi e=>hv ⟨i,hi,e⟩;have h1:=h (K+1) (Nat.le_refl _);obtain ⟨i,j,hij,hj,e⟩:=N9 K (fun n=>if f n=K then f (K+1) else f n) (fun n hn=>by
    have h2:=h n (Nat.le_succ_of_le hn);have h3:=hv n hn;show (if f n=K then f (K+1) else f n)<K
    by_cases z:f n=K
    ·rw [if_pos z]; exact aem z h3 h1
    ·rw [if_neg z]; exact aen z h2)
   refine ⟨i,j,hij,Nat.le_succ_of_le hj,?_⟩;have e:(if f i=K then f (K+1) else f i)=(if f j=K then f (K+1) else f j):=e;have h3:=hv i (O6 hj hij);have h4:=hv j hj
   by_cases z:f i=K
   ·rw [if_pos z] at e
    by_cases y:f j=K
    ·exact aeo z y
    ·rw [if_neg y] at e; exact aep e h4
   ·rw [if_neg z] at e
    by_cases y:f j=K
    ·rw [if_pos y] at e; exact aeq e h3
    ·rw [if_neg y] at e; exact e
noncomputable def Fb (T:Nat):Nat->Nat->Nat
 | n,0=>n % T
 | n,i+1=>Fb T (n / T) i
theorem HX {T:Nat} (hT:0<T):∀ (i n:Nat),Fb T n i<T
 | 0,n=>Nat.mod_lt n hT
 | i+1,n=>HX hT i (n / T)
theorem LK {T:Nat} (hT:0<T):∀ (N n m:Nat),n<T ^ N->m<T ^ N->(∀ i,i<N->Fb T n i=Fb T m i)->n=m
 | 0,n,m,h1,h2,_=>by rw [Nat.pow_zero] at h1 h2; exact aer h1 h2
 | N+1,n,m,h1,h2,h=>by
  have e0:n % T=m % T:=h 0 (Nat.zero_lt_succ _);rw [Nat.pow_succ,Nat.mul_comm] at h1 h2;have e1:=LK hT N (n / T) (m / T) (Nat.div_lt_of_lt_mul h1) (Nat.div_lt_of_lt_mul h2) fun i hi=>h (i+1) (Nat.succ_lt_succ hi);rw [<- Nat.div_add_mod n T,<- Nat.div_add_mod m T,e0,e1]
noncomputable def GZ (R:Nat) (y:Nat->Nat):Nat->Nat
 | 0=>0
 | M+1=>GZ R y M*R+y M
theorem Oa {R:Nat} {y:Nat->Nat}:∀ (M:Nat),(∀ k,y k<R)->GZ R y M<R ^ M
 | 0,_=>by rw [Nat.pow_zero]; exact Nat.zero_lt_one
 | M+1,h=>by
  have h1:=Oa M h;have h2:=h M;have h3:=Nat.mul_le_mul_right R (Nat.succ_le_of_lt h1);rw [Nat.succ_mul] at h3;rw [Nat.pow_succ];show GZ R y M*R+y M<_;exact aes h3 h2
theorem enc_inj {R:Nat} {y z:Nat->Nat} (hy:∀ k,y k<R) (hz:∀ k,z k<R):∀ (M:Nat),GZ R y M=GZ R z M->∀ k,k<M->y k=z k
 | 0,_,k,hk=>absurd hk (Nat.not_lt_zero _)
 | M+1,e,k,hk=>by
  have e:GZ R y M*R+y M=GZ R z M*R+z M:=e;have hR:0<R:=Nat.lt_of_le_of_lt (Nat.zero_le _) (hy 0);have e1:y M=z M:=by
   have:=congrArg (· % R) e;simp only [Nat.mul_add_mod_self_right,Nat.mod_eq_of_lt (hy M),Nat.mod_eq_of_lt (hz M)] at this;exact this
  rw [e1] at e;have e2:GZ R y M=GZ R z M:=Nat.eq_of_mul_eq_mul_right hR (Nat.add_right_cancel e);rcases Nat.lt_succ_iff_lt_or_eq.mp hk with h | h
  ·exact enc_inj hy hz M e2 k h
  ·rw [h]; exact e1
theorem smI_sub (f g:Nat->Int):∀ n,smI (fun i=>f i - g i) n=smI f n - smI g n
 | 0=>rfl
 | n+1=>by
  show smI (fun i=>f i - g i) n+(f n - g n)=smI f n+f n - (smI g n+g n);rw [smI_sub f g n]; exact aet
theorem FH {f g:Nat->Int} (h:∀ i,f i=g i) (n:Nat):smI f n=smI g n:=by rw [show f=g from funext h]
theorem Ob (M b c:Nat) (r:Nat->Nat->Int) (hr:∀ k i,(r k i).natAbs<=2 ^ b) (hc:M+1<=2 ^ c) :
  ∃ x:Nat->Int,(∃ i,i<M+1/\x i≠0)/\(∀ i,(x i).natAbs<2 ^ (M*(b+c+2)+1))/\∀ k,k<M->smI (fun i=>x i*r k i) (M+1)=0:=by
 obtain ⟨τ,hτ⟩:∃ τ,τ=M*(b+c+2)+1:=⟨_,rfl⟩;have hT:0<2 ^ τ:=Nat.pow_pos (by decide);obtain ⟨Z,hZ⟩:∃ Z,Z=(M+1)*(2 ^ τ*2 ^ b):=⟨_,rfl⟩;obtain ⟨L,hL⟩:∃ L:Nat->Nat->Int,∀ n k,L n k=smI (fun i=>(Fb (2 ^ τ) n i:Int)*r k i) (M+1):=⟨_,fun _ _=>rfl⟩;have lb:∀ n k,(L n k).natAbs<=Z:=fun n k=>by
  rw [hL,hZ];refine HW (fun i=>?_) _;rw [Int.natAbs_mul];exact Nat.mul_le_mul (Nat.le_of_lt (HX hT i n)) (hr k i)
 have zb:2*Z+1<=2 ^ (τ+b+c+2):=by
  have h1:Z<=2 ^ c*(2 ^ τ*2 ^ b):=by rw [hZ]; exact Nat.mul_le_mul_right _ hc
  have h2:2 ^ (τ+b+c+2)=4*(2 ^ c*(2 ^ τ*2 ^ b)):=by
   rw [Nat.pow_add 2 (τ+b+c) 2,Nat.pow_add,Nat.pow_add,Nat.mul_comm (2 ^ c)]; omega
  have h3:0<2 ^ c*(2 ^ τ*2 ^ b):=Nat.mul_pos (Nat.pow_pos (by decide)) (Nat.mul_pos hT (Nat.pow_pos (by decide)));exact aeu h2 h1 h3
 have kb:(2*Z+1) ^ M<(2 ^ τ) ^ (M+1):=by
  refine Nat.lt_of_le_of_lt (Nat.pow_le_pow_left zb M) ?_;rw [<- Nat.pow_mul,<- Nat.pow_mul];refine Nat.pow_lt_pow_right (by decide) ?_;have e:(τ+b+c+2)*M=τ*M+M*(b+c+2):=by
   rw [show τ+b+c+2=τ+(b+c+2) by exact aev,Nat.add_mul,Nat.mul_comm (b+c+2)]
  rw [Nat.mul_add,Nat.mul_one,e]; exact aew hτ
 have yl:∀ n k,(L n k+(Z:Int)).toNat<2*Z+1:=fun n k=>by have:=lb n k; exact aex this
 refine xq2_3 (N9 ((2*Z+1) ^ M) (fun n=>GZ (2*Z+1) (fun k=>(L n k+(Z:Int)).toNat) M) fun n _=>Oa M (yl n)) fun i j hij hj e=>?_;have ek:=enc_inj (yl i) (yl j) M e;refine ⟨fun t=>(Fb (2 ^ τ) i t:Int) - (Fb (2 ^ τ) j t:Int),?_,fun t=>?_,fun k hk=>?_⟩
 ·refine Classical.byContradiction fun hn=>?_;have:i=j:=LK hT (M+1) i j (aey hj kb hij) (aez hj kb) fun t ht=>by
   refine Classical.byContradiction fun hne=>hn ⟨t,ht,fun z=>hne ?_⟩;have z:(Fb (2 ^ τ) i t:Int) - (Fb (2 ^ τ) j t:Int)=0:=z;exact aeA z
  exact aeB this hij
 ·have h1:=HX hT t i;have h2:=HX hT t j;rw [<- hτ];show ((Fb (2 ^ τ) i t:Int) - (Fb (2 ^ τ) j t:Int)).natAbs<_;exact aeC h1 h2
 ·rw [FH (g:=fun t=>(Fb (2 ^ τ) i t:Int)*r k t - (Fb (2 ^ τ) j t:Int)*r k t) (fun t=>Int.sub_mul _ _ _),smI_sub,<- hL,<- hL];have h1:=ek k hk;have h2:=lb i k;have h3:=lb j k;exact aeD h1 h2 h3
noncomputable def Aj (n:Nat):NR:=fun i=>if i=0 then (n:Rat) else 0
noncomputable def abk (n:Int):NR:=fun i=>if i=0 then (n:Rat) else 0
noncomputable def Aa (a:NR):Nat->NR
 | 0=>Aj 1
 | n+1=>cvn (Aa a n) a
theorem psNat_one:Aj 1=one0:=by
 funext i;show (if i=0 then ((1:Nat):Rat) else 0)=if i=0 then 1 else 0;rfl
theorem psNat_zero:Aj 0=fun _=>0:=by
 funext i;show (if i=0 then ((0:Nat):Rat) else 0)=0
 split <;> rfl
set_option warn.classDefReducibility false in
noncomputable def psRing:Lean.Grind.CommRing NR where
 add a b:=fun i=>a i+b i
 mul a b:=cvn a b
 natCast:=⟨Aj⟩
 ofNat n:=⟨Aj n⟩
 nsmul:=⟨fun n a=>fun i=>(n:Rat)*a i⟩
 npow:=⟨Aa⟩
 neg a:=fun i=>- a i
 sub a b:=fun i=>a i - b i
 intCast:=⟨abk⟩
 zsmul:=⟨fun n a=>fun i=>(n:Rat)*a i⟩
 add_zero a:=by
  funext i;show a i+Aj 0 i=a i;rw [psNat_zero,Rat.add_zero]
 add_comm a b:=funext fun i=>Rat.add_comm _ _
 add_assoc a b c:=funext fun i=>Rat.add_assoc _ _ _
 mul_assoc a b c:=funext fun i=>C4 b c i a
 mul_comm a b:=funext fun i=>Af a b i
 mul_one a:=by
  funext i;show cvn a (Aj 1) i=a i;rw [psNat_one,Af,Aq]
 one_mul a:=by
  funext i;show cvn (Aj 1) a i=a i;rw [psNat_one,Aq]
 right_distrib a b c:=funext fun i=>BK a b c i
 mul_zero a:=by
  show cvn a (Aj 0)=Aj 0;rw [psNat_zero];exact funext fun i=>(Af _ _ i).trans (Ag a i)
 left_distrib a b c:=funext fun i=>DT a b c i
 zero_mul a:=by
  show cvn (Aj 0) a=Aj 0;rw [psNat_zero];exact funext fun i=>Ag a i
 pow_zero a:=rfl
 pow_succ a n:=rfl
 ofNat_succ n:=by
  funext i;show (if i=0 then ((n+1:Nat):Rat) else 0)=(if i=0 then (n:Rat) else 0)+(if i=0 then ((1:Nat):Rat) else 0)
  by_cases h:i=0
  ·rw [if_pos h,if_pos h,if_pos h,Rat.natCast_add]
  ·rw [if_neg h,if_neg h,if_neg h,Rat.add_zero]
 ofNat_eq_natCast n:=rfl
 nsmul_eq_natCast_mul n a:=by
  funext i;show (n:Rat)*a i=cvn (Aj n) a i;rw [show Aj n=fun i=>(n:Rat)*one0 i from ?_,Ai,Aq];funext j;show (if j=0 then (n:Rat) else 0)=(n:Rat)*(if j=0 then 1 else 0)
  by_cases h:j=0
  ·rw [if_pos h,if_pos h,Rat.mul_one]
  ·rw [if_neg h,if_neg h,Rat.mul_zero]
 neg_add_cancel a:=by
  funext i;show - a i+a i=Aj 0 i;rw [psNat_zero]; grind
 sub_eq_add_neg a b:=funext fun i=>Rat.sub_eq_add_neg _ _
 neg_zsmul z a:=by
  funext i;show ((-z:Int):Rat)*a i=-((z:Rat)*a i);rw [Rat.intCast_neg,Rat.neg_mul]
 zsmul_natCast_eq_nsmul n a:=by
  funext i;show ((n:Int):Rat)*a i=(n:Rat)*a i;rfl
 intCast_ofNat n:=by
  funext i;show (if i=0 then ((n:Int):Rat) else 0)=if i=0 then (n:Rat) else 0;rfl
 intCast_neg z:=by
  funext i;show (if i=0 then ((-z:Int):Rat) else 0)=-(if i=0 then (z:Rat) else 0)
  by_cases h:i=0
  ·rw [if_pos h,if_pos h,Rat.intCast_neg]
  ·rw [if_neg h,if_neg h,Rat.neg_zero]
noncomputable def Bd (n:Nat) (a:NR):Prop:=∀ i,n<=i->a i=0
theorem AQ (p:LR):Bd p.length (cf p):=fun i hi=>An hi
theorem Bd.mono {n m:Nat} {a:NR} (h:Bd n a) (hm:n<=m):Bd m a:=fun i hi=>h i (Nat.le_trans hm hi)
theorem Ep {a b:NR} {n m k:Nat} (ha:Bd n a) (hb:Bd m b) (hk:n+m<=k+1):Bd k (cvn a b):=fun j hj=>Cj ha hb (Mi hk hj)
theorem Bu {a b:NR} {n m:Nat} (ha:Bd (n+1) a) (hb:Bd (m+1) b):cvn a b (n+m)=a n*b m:=by
 unfold cvn;rw [KD (a:=n) (by exact Ug) (fun i hi=>?_),show n+m - n=m by exact F3]
 by_cases z:i<n
 ·rw [hb _ (by exact aeE z),Rat.mul_zero]
 ·rw [ha _ (by exact aeF z hi),Rat.zero_mul]
theorem bd_deg {a:NR}:∀ {n:Nat},Bd n a->(∀ i,a i=0)\/∃ k,k<n/\a k≠0/\Bd (k+1) a
 | 0,h=>.inl fun i=>h i (Nat.zero_le _)
 | n+1,h=>by
  by_cases z:a n=0
  ·have hn:Bd n a:=fun i hi=>by
    rcases Nat.eq_or_lt_of_le hi with e | e
    ·rw [<- e]; exact z
    ·exact h i e
   rcases bd_deg hn with k | ⟨k,h1,h2,h3⟩
   ·exact .inl k
   ·exact .inr ⟨k,Nat.lt_succ_of_lt h1,h2,h3⟩
  ·exact .inr ⟨n,Nat.lt_succ_self n,z,h⟩
section
variable {R:Type} [Lean.Grind.CommRing R]
theorem WI {s t S T U V E:R} (hE:(S*V - T*U)*E=1):s=E*(s*V - t*U)*S+E*(t*S - s*T)*U:=by grind
theorem WJ {s t S T U V E:R} (hE:(S*V - T*U)*E=1):t=E*(s*V - t*U)*T+E*(t*S - s*T)*V:=by grind
theorem WK {p q s t S T U V E A B:R} (hE:(S*V - T*U)*E=1) (hA:A=S*p+T*q) (hB:B=U*p+V*q):s*p+t*q=E*(s*V - t*U)*A+E*(t*S - s*T)*B:=by grind
end
theorem Oc {p q A S T B U V E s t r:NR} {k u:Nat} (eA:A=fun j=>cvn S p j+cvn T q j) (eB:B=fun j=>cvn U p j+cvn V q j) (hE:cvn (fun j=>cvn S V j - cvn T U j) E=one0)
  (fT:Ab T) (fV:Ab V) (fE:Ab E) (ft:Ab t) (kA:A k≠0) (dA:Bd (k+1) A) (dB:Bd k B) (kU:U u≠0) (dU:Bd (u+1) U) (dS:Bd u S) (ds:Bd (u+1) s) (er:r=fun j=>cvn s p j+cvn t q j) (dr:Bd k r) :
  ∃ c:Rat,(∀ j,s j=c*U j)/\(∀ j,t j=c*V j)/\∀ j,r j=c*B j:=by
 have hE':cvn (fun j=>cvn S V j - cvn T U j) E=Aj 1:=by rw [hE,psNat_one]
 obtain ⟨x,hx⟩:∃ x:NR,x=cvn E (fun j=>cvn s V j - cvn t U j):=⟨_,rfl⟩;obtain ⟨y,hy⟩:∃ y:NR,y=cvn E (fun j=>cvn t S j - cvn s T j):=⟨_,rfl⟩;have e1:s=fun j=>cvn x S j+cvn y U j:=by rw [hx,hy]; exact @WI NR psRing s t S T U V E hE'
 have e2:t=fun j=>cvn x T j+cvn y V j:=by rw [hx,hy]; exact @WJ NR psRing s t S T U V E hE'
 have e3:r=fun j=>cvn x A j+cvn y B j:=by rw [hx,hy,er]; exact @WK NR psRing p q s t S T U V E A B hE' eA eB
 have fsub:∀ {a b:NR},Ab a->Ab b->Ab (fun j=>a j - b j):=fun {a b} ⟨n,ha⟩ ⟨m,hb⟩=>⟨n+m,fun i hi=>by show a i - b i=0; rw [ha i (by exact Mh hi),hb i (by exact F4 hi)]; exact Rat.sub_self⟩;have fs:Ab s:=⟨_,ds⟩;have fx:Ab x:=by rw [hx]; exact fin_cvn fE (fsub (fin_cvn fs fV) (fin_cvn ft ⟨_,dU⟩))
 have fy:Ab y:=by rw [hy]; exact fin_cvn fE (fsub (fin_cvn ft ⟨_,dS⟩) (fin_cvn fs fT))
 obtain ⟨nx,bx⟩:=fx;obtain ⟨ny,by'⟩:=fy;have yf:∀ f,y f≠0->Bd (f+1) y->cvn y U (f+u)≠0:=fun f h1 h2=>by
  rw [Bu h2 dU];exact fun z=>(Rat.mul_eq_zero.mp z).elim h1 kU
 have x0:∀ i,x i=0:=by
  rcases bd_deg bx with h | ⟨e,_,h1,h2⟩
  ·exact h
  ·exfalso;have r1:r (e+k)=0:=dr _ (Mj);rw [e3] at r1;have r1:cvn x A (e+k)+cvn y B (e+k)=0:=r1;rw [Bu h2 dA] at r1;have hne:x e*A k≠0:=fun z=>(Rat.mul_eq_zero.mp z).elim h1 kA;rcases bd_deg by' with hy0 | ⟨f,_,g1,g2⟩
   ·rw [show y=fun _=>0 from funext hy0,Ag,Rat.add_zero] at r1;exact hne r1
   ·by_cases hfe:f<=e
    ·rw [Ep g2 dB (k:=e+k) (by exact aeG hfe) _ (Nat.le_refl _),Rat.add_zero] at r1;exact hne r1
    ·have s1:s (f+u)=0:=ds _ (aeH hfe);rw [e1] at s1;have s1:cvn x S (f+u)+cvn y U (f+u)=0:=s1;rw [Ep h2 dS (k:=f+u) (by exact aeI hfe) _ (Nat.le_refl _),Rat.zero_add] at s1;exact yf f g1 g2 s1
 have x0':x=fun _=>0:=funext x0;have y0:∀ j,y j=y 0*one0 j:=by
  rcases bd_deg by' with hy0 | ⟨f,_,g1,g2⟩
  ·intro j; rw [hy0,hy0,Rat.zero_mul]
  ·have hf:f=0:=by
    by_cases z:f=0
    ·exact z
    ·exfalso;have s1:s (f+u)=0:=ds _ (aeJ z);rw [e1] at s1;have s1:cvn x S (f+u)+cvn y U (f+u)=0:=s1;rw [x0',Ag,Rat.zero_add] at s1;exact yf f g1 g2 s1
   subst hf;intro j
   by_cases z:j=0
   ·subst z; show _=y 0*1; rw [Rat.mul_one]
   ·rw [g2 j (by exact Uh z),show one0 j=0 from if_neg z,Rat.mul_zero]
 have ym:∀ (a:NR) j,cvn y a j=y 0*a j:=fun a j=>by
  rw [Ax y0 (fun _=>rfl),Ai,Aq]
 refine ⟨y 0,fun j=>?_,fun j=>?_,fun j=>?_⟩
 ·rw [e1]; show cvn x S j+cvn y U j=_; rw [x0',Ag,Rat.zero_add,ym]
 ·rw [e2]; show cvn x T j+cvn y V j=_; rw [x0',Ag,Rat.zero_add,ym]
 ·rw [e3]; show cvn x A j+cvn y B j=_; rw [x0',Ag,Rat.zero_add,ym]
theorem Cw {f g:Nat->Int}:∀ {n:Nat},(∀ i,i<n->f i=g i)->smI f n=smI g n
 | 0,_=>rfl
 | n+1,h=>by
  show smI f n+f n=smI g n+g n;rw [Cw fun i hi=>h i (by exact JW hi),h n (by exact QM)]
theorem IM (f:Nat->Int) (a:Nat):∀ b,smI f (a+b)=smI f a+smI (fun i=>f (a+i)) b
 | 0=>(Int.add_zero _).symm
 | b+1=>by
  show smI f (a+b)+f (a+b)=smI f a+(smI (fun i=>f (a+i)) b+f (a+b));rw [IM f a b,Int.add_assoc]
theorem Dz {f:Nat->Int} {n:Nat}:∀ {m:Nat},(∀ i,n<=i->f i=0)->smI f (n+m)=smI f n
 | 0,_=>rfl
 | m+1,h=>by
  show smI f (n+m)+f (n+m)=smI f n;rw [Dz h,h _ (by exact Lv),Int.add_zero]
noncomputable def cvI (s P:Nat->Int) (j:Nat):Int:=smI (fun i=>s i*P (j - i)) (j+1)
theorem DA (s P:Nat->Int) (j:Nat):((cvI s P j:Int):Rat)=cvn (fun i=>(s i:Rat)) (fun i=>(P i:Rat)) j:=by
 unfold cvI cvn;rw [He];exact Bs fun i _=>Rat.intCast_mul _ _
theorem Fc {s P:Nat->Int} {a:Nat} (h:∀ i,a<=i->s i=0) (j:Nat):smI (fun i=>s i*(if i<=j then P (j - i) else 0)) a=cvI s P j:=by
 have h1:smI (fun i=>s i*(if i<=j then P (j - i) else 0)) (a+(j+1))=smI (fun i=>s i*(if i<=j then P (j - i) else 0)) a:=Dz fun i hi=>by rw [h i hi,Int.zero_mul]
 have h2:smI (fun i=>s i*(if i<=j then P (j - i) else 0)) (j+1+a)=smI (fun i=>s i*(if i<=j then P (j - i) else 0)) (j+1):=Dz fun i hi=>by rw [if_neg (by exact o86 hi),Int.mul_zero]
 rw [<- h1,Nat.add_comm,h2];exact Cw fun i hi=>by rw [if_pos (by exact Tk hi)]
theorem KI {s P:Nat->Int} {a S T c:Nat} (h:∀ i,a<=i->s i=0) (hs:∀ i,(s i).natAbs<=2 ^ S) (hP:∀ i,(P i).natAbs<=2 ^ T) (ha:a<=2 ^ c) (j:Nat):(cvI s P j).natAbs<=2 ^ (S+T+c):=by
 rw [<- Fc h];have:=HW (f:=fun i=>s i*(if i<=j then P (j - i) else 0)) (M:=2 ^ S*2 ^ T) (fun i=>by
  show (s i*(if i<=j then P (j - i) else 0)).natAbs<=_;rw [Int.natAbs_mul];refine Nat.mul_le_mul (hs i) ?_
  split
  ·exact hP _
  ·exact Nat.zero_le _) a
 refine Nat.le_trans this (Nat.le_trans (Nat.mul_le_mul_right _ ha) ?_);rw [<- Nat.pow_add,<- Nat.pow_add];exact Nat.pow_le_pow_right (by decide) (aeK)
theorem Sq {P Q:Nat->Int} {a b B c:Nat} (k:Nat) (hP:∀ i,b+k<=i->P i=0) (hQ:∀ i,a+k<=i->Q i=0) (ha:0<a) (hb:0<b) (bP:∀ i,(P i).natAbs<=2 ^ B) (bQ:∀ i,(Q i).natAbs<=2 ^ B) (hc:a+b<=2 ^ c) :
  ∃ s t:Nat->Int,(∃ i,s i≠0\/t i≠0)/\(∀ i,a<=i->s i=0)/\(∀ i,b<=i->t i=0)/\(∀ i,(s i).natAbs<2 ^ ((a+b)*(B+c+2)))/\(∀ i,(t i).natAbs<2 ^ ((a+b)*(B+c+2)))/\∀ j,k<=j->cvI s P j+cvI t Q j=0:=by
 obtain ⟨M,hM⟩:∃ M,a+b=M+1:=⟨a+b - 1,aeL hb⟩;obtain ⟨x,⟨i0,hi0,hx0⟩,hxb,hxe⟩:=Ob M B c (fun l i=>if i<a then (if i<=k+l then P (k+l - i) else 0) else (if i - a<=k+l then Q (k+l - (i - a)) else 0)) (fun l i=>by
  show (if i<a then (if i<=k+l then P (k+l - i) else 0) else (if i - a<=k+l then Q (k+l - (i - a)) else 0)).natAbs<=_
  split
  ·split
   ·exact bP _
   ·exact Nat.zero_le _
  ·split
   ·exact bQ _
   ·exact Nat.zero_le _) (aeM hM hc)
 have hp:2 ^ (M*(B+c+2)+1)<=2 ^ ((a+b)*(B+c+2)):=Nat.pow_le_pow_right (by decide) (by rw [hM,Nat.add_mul,Nat.one_mul]; exact aeN);have h0:0<2 ^ ((a+b)*(B+c+2)):=Nat.pow_pos (by decide);obtain ⟨s,hs⟩:∃ s:Nat->Int,∀ i,s i=if i<a then x i else 0:=⟨_,fun _=>rfl⟩;obtain ⟨t,ht⟩:∃ t:Nat->Int,∀ i,t i=if i<b then x (a+i) else 0:=⟨_,fun _=>rfl⟩;have s0:∀ i,a<=i->s i=0:=fun i hi=>by rw [hs]; exact if_neg (Mk hi)
 have t0:∀ i,b<=i->t i=0:=fun i hi=>by rw [ht]; exact if_neg (Mk hi)
 refine ⟨s,t,?_,s0,t0,fun i=>?_,fun i=>?_,fun j hj=>?_⟩
 ·by_cases z:i0<a
  ·exact ⟨i0,.inl (by rw [hs,if_pos z]; exact hx0)⟩
  ·exact ⟨i0 - a,.inr (by rw [ht,if_pos (by exact aeO hM z hi0),show a+(i0 - a)=i0 by exact Ui z]; exact hx0)⟩
 ·rw [hs]
  split
  ·exact Nat.lt_of_lt_of_le (hxb i) hp
  ·exact h0
 ·rw [ht]
  split
  ·exact Nat.lt_of_lt_of_le (hxb _) hp
  ·exact h0
 ·obtain ⟨l,rfl⟩:∃ l,j=k+l:=⟨j - k,aeP hj⟩
  by_cases hl:l<M
  ·have e:=hxe l hl;rw [<- hM,IM] at e;rw [<- Fc s0,<- Fc t0];have e1:smI (fun i=>s i*(if i<=k+l then P (k+l - i) else 0)) a=smI (fun i=>x i*(if i<a then (if i<=k+l then P (k+l - i) else 0) else (if i - a<=k+l then Q (k+l - (i - a)) else 0))) a:=Cw fun i hi=>by rw [hs,if_pos hi,if_pos hi]
   have e2:smI (fun i=>t i*(if i<=k+l then Q (k+l - i) else 0)) b=smI (fun i=>x (a+i)*(if a+i<a then (if a+i<=k+l then P (k+l - (a+i)) else 0) else (if a+i - a<=k+l then Q (k+l - (a+i - a)) else 0))) b:=Cw fun i hi=>by rw [ht,if_pos hi,if_neg (show ¬ a+i<a by exact O7),show a+i - a=i by exact F3]
   rw [e1,e2]; exact e
  ·have z1:∀ (u v:Nat->Int) (d e:Nat),(∀ i,d<=i->u i=0)->(∀ i,e+k<=i->v i=0)->d+e<=M+1->cvI u v (k+l)=0:=fun u v d e hu hv hde=>by
    unfold cvI;have:∀ i,u i*v (k+l - i)=0:=fun i=>by
     by_cases z:i<d
     ·rw [hv _ (by exact aeQ hde hl z),Int.mul_zero]
     ·rw [hu _ (by exact CG z),Int.zero_mul]
    rw [FH this];exact Dz (n:=0) (m:=k+l+1) (f:=fun _=>0) (fun _ _=>rfl) |> fun h=>by rw [Nat.zero_add] at h; exact h
   rw [z1 s P a b s0 hP (by exact aeR hM),z1 t Q b a t0 hQ (by exact aeS hM)]; rfl
theorem Od {W b:NR} {a:Nat} {t:Rat} (h0:W a=0) (j:Nat):cvn (fun i=>if i=a then t else W i) b j=cvn W b j+if a<=j then t*b (j - a) else 0:=by
 unfold cvn;rw [JK (f:=fun i=>W i*b (j - i)) (a:=a) (d:=t*b (j - a)) (fun i=>?_)]
 ·by_cases z:a<=j
  ·rw [if_pos z,if_pos (by exact O8 z)]
  ·rw [if_neg z,if_neg (by exact aeT z)]
 ·show (if i=a then t else W i)*b (j - i)=W i*b (j - i)+if i=a then t*b (j - a) else 0
  by_cases z:i=a
  ·subst z; rw [if_pos rfl,if_pos rfl,h0,Rat.zero_mul,Rat.zero_add]
  ·rw [if_neg z,if_neg z,Rat.add_zero]
theorem KJ {b:NR} {B m:Nat} (hb:RC B b) (hb0:b m≠0) (db:Bd (m+1) b):∀ (N A:Nat) (W a:NR),RC2 A W a->Bd (m+N) a->(∀ i,i<N->W i=0)->
  ∃ W' R,RC2 (A+N*(B+1)) W' R/\Bd m R/\(∀ j,cvn W' b j+R j=cvn W b j+a j)/\∀ i,N<=i->W' i=W i
 | 0,A,W,a,h,da,hW=>⟨W,a,by rw [Nat.zero_mul]; exact h,da,fun _=>rfl,fun _ _=>rfl⟩
 | N+1,A,W,a,h,da,hW=>by
  refine Am (id hb) fun e y e0 he hy hq=>?_;have hm:y m≠0:=fun z=>by
   have:=hq m;rw [z] at this;exact (Rat.mul_eq_zero.mp this).elim hb0 (cast_ne e0)
  have ht:a (N+m) / b m*b m=a (N+m):=Rat.div_mul_cancel hb0;have h':=h.put (a:=N) he hy hq hm ht;generalize a (N+m) / b m=t at ht h';have da':Bd (m+N) (fun j=>a j+if N<=j then -(t*b (j - N)) else 0):=fun j hj=>by
   show a j+(if N<=j then -(t*b (j - N)) else 0)=0;rw [if_pos (by exact F4 hj)]
   by_cases z:j=N+m
   ·subst z; rw [show N+m - N=m by exact F3,ht]; grind
   ·rw [da j (by exact Uj hj z),db _ (by exact Ul hj z),Rat.mul_zero]; grind
  obtain ⟨W',R,k1,k2,k3,k4⟩:=KJ hb hb0 db N _ _ _ h' da' (fun i hi=>by
   show (if i=N then t else W i)=0;rw [if_neg (by exact aeU hi)]; exact hW i (JW hi))
  refine ⟨W',R,?_,k2,fun j=>?_,fun i hi=>?_⟩
  ·rw [show A+(N+1)*(B+1)=A+(B+1)+N*(B+1) by rw [Nat.add_mul,Nat.one_mul]; exact aeV]; exact k1
  ·rw [k3 j,Od (hW N (by exact QM))]
   by_cases z:N<=j
   ·rw [if_pos z,if_pos z]; grind
   ·rw [if_neg z,if_neg z]; grind
  ·rw [k4 i (by exact o37 hi),if_neg (by exact Um hi)]
theorem Fd {a b:NR} {A B m N:Nat} (ha:RC A a) (hb:RC B b) (hb0:b m≠0) (db:Bd (m+1) b) (da:Bd (m+N) a) :
  ∃ W R,(∀ j,a j=cvn W b j+R j)/\Bd m R/\Bd N W/\RC (A+N*(B+1)) W/\RC (A+N*(B+1)) R:=by
 refine Am ha fun d z h1 h2 h3 h4=>?_;refine Am (KJ hb hb0 db N A (fun _=>0) a ⟨d,fun _=>0,z,h1,h2,fun _=>Nat.pow_pos (by decide),h3,fun i=>by rw [Rat.zero_mul]; rfl,h4⟩ da (fun _ _=>rfl)) fun W R k1 k2 k3 k4=>?_;exact ⟨W,R,fun j=>by rw [k3 j,Ag,Rat.zero_add],k2,fun i hi=>k4 i hi,k1.left,k1.right⟩
theorem C5 {W W' b R R':NR} {m:Nat} (hb0:b m≠0) (db:Bd (m+1) b) (fW:Ab W) (fW':Ab W') (dR:Bd m R) (dR':Bd m R') (h:∀ j,cvn W b j+R j=cvn W' b j+R' j):(∀ i,W i=W' i)/\∀ i,R i=R' i:=by
 obtain ⟨n,hW⟩:=fW;obtain ⟨n',hW'⟩:=fW';have bx:Bd (n+n') (fun i=>W i+(-1)*W' i):=fun i hi=>by show W i+(-1)*W' i=0; rw [hW i (by exact Mh hi),hW' i (by exact F4 hi)]; grind
 have e:∀ j,cvn (fun i=>W i+(-1)*W' i) b j=R' j - R j:=fun j=>by
  have:=h j;rw [BK,Ai]; grind
 have w0:∀ i,W i+(-1)*W' i=0:=by
  rcases bd_deg bx with k | ⟨k,_,h1,h2⟩
  ·exact k
  ·exfalso;have:=e (k+m);rw [Bu h2 db,dR _ (by exact Mj),dR' _ (by exact Mj),Rat.sub_self] at this;exact (Rat.mul_eq_zero.mp this).elim h1 hb0
 refine ⟨fun i=>by have:=w0 i; grind,fun i=>?_⟩;have:=e i;rw [show (fun i=>W i+(-1)*W' i)=fun _=>0 from funext w0,Ag] at this;grind
noncomputable def EuA (p q A S T B U V:NR) (n k:Nat):Prop :=
 (A=fun j=>cvn S p j+cvn T q j)/\
 (B=fun j=>cvn U p j+cvn V q j)/\
 (∃ E,Ab E/\cvn (fun j=>cvn S V j - cvn T U j) E=one0)/\
 Ab T/\
 Ab V/\
 A k≠0/\
 Bd (k+1) A/\
 Bd k B/\
 k<=n/\
 U (n - k)≠0/\
 Bd (n - k+1) U/\
 Bd (n - k) S
section
variable {p q A S T B U V:NR} {n k:Nat} (h_:EuA p q A S T B U V n k)
def EuA.eA:=h_.1
def EuA.eB:=h_.2.1
def EuA.det:=h_.2.2.1
def EuA.fT:=h_.2.2.2.1
def EuA.fV:=h_.2.2.2.2.1
def EuA.kA:=h_.2.2.2.2.2.1
def EuA.dA:=h_.2.2.2.2.2.2.1
def EuA.dB:=h_.2.2.2.2.2.2.2.1
def EuA.kn:=h_.2.2.2.2.2.2.2.2.1
def EuA.kU:=h_.2.2.2.2.2.2.2.2.2.1
def EuA.dU:=h_.2.2.2.2.2.2.2.2.2.2.1
def EuA.dS:=h_.2.2.2.2.2.2.2.2.2.2.2
end
section
variable {R:Type} [Lean.Grind.CommRing R]
theorem Sr {p q S T U V W A B R':R} (hA:A=S*p+T*q) (hB:B=U*p+V*q) (h:A=W*B+R'):R'=(S - W*U)*p+(T - W*V)*q:=by grind
theorem P9 {S T U V W E:R} (h:(S*V - T*U)*E=1):(U*(T - W*V) - V*(S - W*U))*-E=1:=by grind
end
theorem fin_sub {a b:NR} (ha:Ab a) (hb:Ab b):Ab (fun j=>a j - b j):=by
 obtain ⟨n,ha⟩:=ha;obtain ⟨m,hb⟩:=hb;exact ⟨n+m,fun i hi=>by show a i - b i=0; rw [ha i (by exact Mh hi),hb i (by exact F4 hi),Rat.sub_self]⟩
theorem EuA.step {p q A S T B U V W R:NR} {n k k':Nat} (I:EuA p q A S T B U V n k) (h:A=fun j=>cvn W B j+R j) (dW:Bd (k - k'+1) W) (kB:B k'≠0) (dB:Bd (k'+1) B) (dR:Bd k' R) :
  EuA p q B U V R (fun j=>S j - cvn W U j) (fun j=>T j - cvn W V j) n k':=by
 have hk:k'<k:=by
  by_cases z:k'<k
  ·exact z
  ·exact absurd (I.dB k' (CG z)) kB
 have kn:=I.kn;refine xq1_2 I.det fun E fE hE=>?_;have lW:W (k - k')≠0:=fun z=>by
  have e:=congrFun h k;have e:A k=cvn W B k+R k:=e;rw [dR k (by exact Ij hk),Rat.add_zero,show k=(k - k')+k' by exact aeW hk,Bu dW dB,z,Rat.zero_mul,show k - k'+k'=k by exact Uo hk] at e;exact I.kA e
 have fW:Ab W:=⟨_,dW⟩;exact ⟨I.eB,
 @Sr NR psRing p q S T U V W A B R I.eA I.eB h,
 (by
   obtain ⟨m,hm⟩:=fE;rw [<- psNat_one] at hE ⊢;exact ⟨fun i=>- E i,⟨m,fun i hi=>by show - E i=0; rw [hm i hi,Rat.neg_zero]⟩,@P9 NR psRing S T U V W E hE⟩),
 I.fV,
 fin_sub I.fT (fin_cvn fW I.fV),
 kB,
 dB,
 dR,
 (O6 kn hk),
 (by
   show S (n - k') - cvn W U (n - k')≠0;rw [I.dS _ (by exact aeX hk),show n - k'=(k - k')+(n - k) by exact aeY kn hk,Bu dW I.dU];intro z;have:W (k - k')*U (n - k)=0:=by grind
   exact (Rat.mul_eq_zero.mp this).elim lW I.kU),
 (fun i hi=>by
   show S i - cvn W U i=0;rw [I.dS _ (by exact aeZ hi hk),Ep dW I.dU (k:=n - k'+1) (by exact ae0 kn hk) _ hi,Rat.sub_self]),
 (I.dU.mono (ae1 kn hk))⟩
noncomputable def Pm (H:Nat) (l:Rat) (a:NR):Prop:=∃ z:Nat->Int,(∀ i,(z i).natAbs<2 ^ H)/\∀ i,a i=l*(z i:Rat)
theorem Pm.rc {H L:Nat} {l:Rat} {a:NR} (h:Pm H l a) (hl:RS L l):RC (L+H) a:=by
 refine xq1_2 h fun z h1 h2=>?_;have e:l*((l.den:Int):Rat)=((l.num:Int):Rat):=by
  have h:=Rat.num_divInt_den l;rw [Rat.divInt_eq_div] at h;have k:=Rat.div_mul_cancel (a:=((l.num:Int):Rat)) (cast_ne (Bk l));rw [h] at k;exact k
 refine ⟨l.den,fun i=>l.num*z i,Bk l,Nat.lt_of_lt_of_le (Bn hl) (Nat.pow_le_pow_right (by decide) (Lv)),fun i=>pow_mul hl.1 (h1 i),fun i=>?_⟩;rw [h2 i,Rat.intCast_mul,<- e]; grind
theorem Pm.mono {H H':Nat} {l:Rat} {a:NR} (h:Pm H l a) (hh:H<=H'):Pm H' l a:=by
 refine xq1_2 h fun z h1 h2=>?_;exact ⟨z,fun i=>Nat.lt_of_lt_of_le (h1 i) (Nat.pow_le_pow_right (by decide) hh),h2⟩
theorem Pm.led {H k:Nat} {l:Rat} {a b:NR} (ha:Pm H l a) (hb:Pm H l b) (hk:a k≠0):RC H (fun i=>b i*(1 / a k)):=by
 refine xq1_2 ha fun z h1 h2=>?_;refine xq1_2 hb fun y k1 k2=>?_;have hl:l≠0:=fun e=>hk (by rw [h2,e,Rat.zero_mul]);have hz:z k≠0:=fun e=>hk (by rw [h2,e]; exact Rat.mul_zero l);refine ⟨z k,y,hz,h1 k,k1,fun i=>?_⟩;have e:1 / a k*a k=1:=Rat.div_mul_cancel hk;have e2:(z k:Rat)*l=a k:=by rw [h2 k,Rat.mul_comm]
 have:b i*(1 / a k)*(z k:Rat)=(1 / a k*((z k:Rat)*l))*(y i:Rat):=by rw [k2 i]; grind
 rw [this,e2,e,Rat.one_mul]
theorem EuA.prim {p q A S T B U V:NR} {n k m b c:Nat} (I:EuA p q A S T B U V n k) (hp:RC b p) (hq:RC b q) (dp:Bd (m+1) p) (dq:Bd (n+1) q) (hm:k<=m) (hc:n+m+2<=2 ^ c) :
  ∃ l:Rat,Pm ((n+m+3)*(b+c+2)) l B/\Pm ((n+m+3)*(b+c+2)) l U/\Pm ((n+m+3)*(b+c+2)) l V:=by
 refine xq1_2 I.det fun E fE hE=>?_;refine Am hp fun d P d0 db Pb eP=>?_;refine Am hq fun e Q e0 eb Qb eQ=>?_;have kn:=I.kn;have z0:∀ {x:Rat} {d z:Int},x=0->x*(d:Rat)=(z:Rat)->z=0:=fun {x d z} hx h=>by
  rw [hx,Rat.zero_mul] at h;exact Rat.intCast_eq_zero_iff.mp h.symm
 refine JF (Sq (P:=P) (Q:=Q) (a:=n - k+1) (b:=m - k+1) (B:=b) (c:=c) k (fun i hi=>z0 (dp i (Up hi)) (eP i)) (fun i hi=>z0 (dq i (Up hi)) (eQ i)) (Uq) (Uq) (fun i=>Nat.le_of_lt (Pb i)) (fun i=>Nat.le_of_lt (Qb i)) (ae2 hc)) fun s t hst s0 t0 sb tb hr=>?_;obtain ⟨H0,hH0⟩:∃ H0,(n - k+1+(m - k+1))*(b+c+2)=H0:=⟨_,rfl⟩;rw [hH0] at sb tb;have hH:H0+b+c+1<=(n+m+3)*(b+c+2):=by
  have:(n - k+1+(m - k+1))*(b+c+2)<=(n+m+2)*(b+c+2):=Nat.mul_le_mul_right _ (Ur);rw [show n+m+3=(n+m+2)+1 by exact Ut,Nat.add_mul (n+m+2) 1,Nat.one_mul]; exact ae3 hH0 this
 have cv1:∀ (s P:Nat->Int) (p:NR) (d:Int),(∀ i,p i*(d:Rat)=(P i:Rat))->∀ j,cvn (fun i=>((d*s i:Int):Rat)) p j=((cvI s P j:Int):Rat):=fun s P p d eP j=>by
  rw [DA];refine Bs fun i _=>?_;show ((d*s i:Int):Rat)*p (j - i)=(s i:Rat)*(P (j - i):Rat);rw [<- eP,Rat.intCast_mul]; grind
 obtain ⟨c',c1,c2,c3⟩:=Oc (s:=fun i=>((d*s i:Int):Rat)) (t:=fun i=>((e*t i:Int):Rat)) (r:=fun j=>((cvI s P j+cvI t Q j:Int):Rat)) I.eA I.eB hE I.fT I.fV fE ⟨m - k+1,fun i hi=>by show ((e*t i:Int):Rat)=0; rw [t0 i hi,Int.mul_zero]; rfl⟩ I.kA I.dA I.dB I.kU I.dU I.dS
  (fun i hi=>by show ((d*s i:Int):Rat)=0; rw [s0 i hi,Int.mul_zero]; rfl) (by
   funext j;show ((cvI s P j+cvI t Q j:Int):Rat)=_;rw [cv1 s P p d eP,cv1 t Q q e eQ,Rat.intCast_add]) (fun j hj=>by show ((cvI s P j+cvI t Q j:Int):Rat)=0; rw [hr j hj]; rfl)
 have hc0:c'≠0:=fun z=>by
  obtain ⟨i,hi⟩:=hst;rcases hi with hi | hi
  ·have:=c1 i;rw [z,Rat.zero_mul] at this;exact Int.mul_ne_zero d0 hi (Rat.intCast_eq_zero_iff.mp this)
  ·have:=c2 i;rw [z,Rat.zero_mul] at this;exact Int.mul_ne_zero e0 hi (Rat.intCast_eq_zero_iff.mp this)
 have back:∀ {x y:Rat},y=c'*x->x=1 / c'*y:=fun {x y} h=>by
  have:1 / c'*c'=1:=Rat.div_mul_cancel hc0;rw [h,<- Rat.mul_assoc,this,Rat.one_mul]
 have up:∀ {z:Int} {g:Nat},z.natAbs<2 ^ g->g<=H0+b+c+1->z.natAbs<2 ^ ((n+m+3)*(b+c+2)):=fun {z g} h hg=>Nat.lt_of_lt_of_le h (Nat.pow_le_pow_right (by decide) (Nat.le_trans hg hH));refine ⟨1 / c',⟨fun j=>cvI s P j+cvI t Q j,fun j=>?_,fun j=>back (c3 j)⟩,⟨fun i=>d*s i,fun i=>?_,fun i=>back (c1 i)⟩,⟨fun i=>e*t i,fun i=>?_,fun i=>back (c2 i)⟩⟩
 ·have h1:=KI s0 (fun i=>Nat.le_of_lt (sb i)) (fun i=>Nat.le_of_lt (Pb i)) (show n - k+1<=2 ^ c by exact ae4 hc) j;have h2:=KI t0 (fun i=>Nat.le_of_lt (tb i)) (fun i=>Nat.le_of_lt (Qb i)) (show m - k+1<=2 ^ c by exact ae5 hc) j;have h3:=Int.natAbs_add_le (cvI s P j) (cvI t Q j);have h4:2 ^ (H0+b+c)+2 ^ (H0+b+c)=2 ^ (H0+b+c+1):=by rw [Nat.pow_succ]; exact ae6
  have h5:2 ^ (H0+b+c+1)<2 ^ ((n+m+3)*(b+c+2)):=Nat.pow_lt_pow_right (by decide) (by
   have:(n - k+1+(m - k+1))*(b+c+2)<=(n+m+2)*(b+c+2):=Nat.mul_le_mul_right _ (Ur);rw [show n+m+3=(n+m+2)+1 by exact Ut,Nat.add_mul (n+m+2) 1,Nat.one_mul]; exact ae7 hH0 this)
  show (cvI s P j+cvI t Q j).natAbs<_;omega
 ·exact up (pow_mul db (sb i)) (Uu)
 ·exact up (pow_mul eb (tb i)) (Uu)
theorem Pm.next {H L N m:Nat} {A B W R:NR} {lA lB l:Rat} (hA:Pm H lA A) (hB:Pm H lB B) (hR:Pm H l R) (sA:RS L lA) (kB:B m≠0) (dB:Bd (m+1) B) (dA:Bd (m+N) A) (h:∀ j,A j=cvn W B j+R j) (fW:Ab W) (dR:Bd m R) {j0:Nat} (hj:R j0≠0):RS (L+(H+1+N*(H+2))+H) l:=by
 refine xq1_2 hA fun zA a1 a2=>?_;refine xq1_2 hB fun zB b1 b2=>?_;refine xq1_2 hR fun z c1 c2=>?_;have rcz:∀ z:Nat->Int,(∀ i,(z i).natAbs<2 ^ H)->RC (H+1) (fun i=>(z i:Rat)):=fun z hz=>⟨1,z,by decide,by
  show 1<2 ^ (H+1);have:0<2 ^ H:=Nat.pow_pos (by decide);rw [Nat.pow_succ]; exact ae8 this,fun i=>Nat.lt_of_lt_of_le (hz i) (Nat.pow_le_pow_right (by decide) (Uv)),fun i=>Rat.mul_one _⟩
 have lB0:lB≠0:=fun e=>kB (by rw [b2,e,Rat.zero_mul]);have zm:zB m≠0:=fun e=>kB (by rw [b2,e]; exact Rat.mul_zero lB)
 by_cases lA0:lA=0
 ·exfalso;have A0:∀ j,A j=0:=fun j=>by rw [a2,lA0,Rat.zero_mul]
  have:=(C5 kB dB fW ⟨0,fun _ _=>rfl⟩ dR (fun _ _=>rfl) (W':=fun _=>0) (R':=fun _=>0) fun j=>by rw [<- h j,A0,Ag,Rat.zero_add]).2 j0;exact hj this
 have sc0:∀ {l:Rat} {z:Int},l≠0->l*(z:Rat)=0->(z:Rat)=0:=fun {l z} h1 h2=>(Rat.mul_eq_zero.mp h2).resolve_left h1;refine xq2_5 (Fd (rcz zA a1) (rcz zB b1) (m:=m) (N:=N) (fun e=>zm (Rat.intCast_eq_zero_iff.mp e)) (fun i hi=>sc0 lB0 (by rw [<- b2]; exact dB i hi)) (fun i hi=>sc0 lA0 (by rw [<- a2]; exact dA i hi))) fun W' R' e1 e2 e3 e4 e5=>?_;have hR':=(C5 kB dB (W:=W) (W':=fun i=>lA*(1 / lB)*W' i) (R:=R) (R':=fun i=>lA*R' i) fW ⟨N,fun i hi=>by show lA*(1 / lB)*W' i=0; rw [e3 i hi,Rat.mul_zero]⟩ dR (fun i hi=>by show lA*R' i=0; rw [e2 i hi,Rat.mul_zero]) fun j=>by
  rw [<- h j,a2 j,e1 j,Ai,Ax (fun _=>rfl) b2,AN];have:1 / lB*lB=1:=Rat.div_mul_cancel lB0;have e:lA*(1 / lB)*(lB*cvn W' (fun i=>(zB i:Rat)) j)=lA*((1 / lB*lB)*cvn W' (fun i=>(zB i:Rat)) j):=by grind
  rw [e,this,Rat.one_mul]; grind).2
 have hz:z j0≠0:=fun e=>hj (by rw [c2,e]; exact Rat.mul_zero l);have hz':(z j0:Rat)≠0:=cast_ne hz;have el:l=lA*R' j0 / (z j0:Rat):=by
  have:l*(z j0:Rat)=lA*R' j0:=by rw [<- c2,hR' j0]
  rw [<- this,Rat.mul_div_cancel hz']
 rw [el];have rz:RS (H+1) ((z j0:Int):Rat):=RC.rs (rcz z c1) j0;have r1:=C2 sA (e5.rs j0);refine (C3 r1 ?_ hz').mono (Nat.le_refl _);exact ⟨by have:=c1 j0; simpa using this,by
  have:=c1 j0;have h0:1<=(z j0).natAbs:=ae9 hz;show 1<_;exact afa h0 this⟩
theorem EuA.first {p q W R:NR} {n:Nat} (h:p=fun j=>cvn W q j+R j) (fW:Ab W) (kq:q n≠0) (dq:Bd (n+1) q) (dR:Bd n R):EuA p q q (fun _=>0) one0 R one0 (fun j=>- W j) n n:=by
 have b1:Bd 1 one0:=fun i hi=>if_neg (G5 hi);exact ⟨(by funext j; rw [Ag,Aq,Rat.zero_add]),
 (by
   funext j;rw [Aq,Ax (a':=fun j=>(-1)*W j) (fun i=>by grind) (fun _=>rfl),Ai,h]; grind),
 (by
   refine ⟨fun j=>- one0 j,⟨1,fun i hi=>by show - one0 i=0; rw [b1 i hi,Rat.neg_zero]⟩,?_⟩;have e:(fun j=>cvn (fun _=>0) (fun j=>- W j) j - cvn one0 one0 j)=fun j=>(-1)*one0 j:=by funext j; rw [Ag,Aq]; grind
   rw [e];funext j;rw [Ai,Aq]; grind),
 ⟨1,b1⟩,
 (by obtain ⟨m,hm⟩:=fW; exact ⟨m,fun i hi=>by show - W i=0; rw [hm i hi,Rat.neg_zero]⟩),
 kq,
 dq,
 dR,
 Nat.le_refl _,
 (by rw [Nat.sub_self]; decide),
 (by rw [Nat.sub_self]; exact b1),
 (fun _ _=>rfl)⟩
theorem Pm.size {H c:Nat} {l:Rat} {a:NR} (h:Pm H l a) (hc:RC c a) {j:Nat} (hj:a j≠0):RS (c+H) l:=by
 refine xq1_2 h fun z h1 h2=>?_;have hz:z j≠0:=fun e=>hj (by rw [h2,e]; exact Rat.mul_zero l);have el:l=a j / (z j:Rat):=by rw [h2 j,Rat.mul_div_cancel (cast_ne hz)]
 rw [el];refine C3 (hc.rs j) ⟨by have:=h1 j; simpa using this,?_⟩ (cast_ne hz);have:=h1 j;show 1<_;exact Uw hz this
theorem Pm.of_rc {b:Nat} {a:NR} (h:RC b a):∃ l,RS (b+1) l/\Pm b l a/\Pm b l one0/\Pm b l (fun _=>0):=by
 refine Am h fun d z h1 h2 h3 h4=>?_;have hd:(d:Rat)≠0:=cast_ne h1;have e1:1 / (d:Rat)*(d:Rat)=1:=Rat.div_mul_cancel hd;have h0:0<2 ^ b:=Nat.pow_pos (by decide);refine ⟨1 / (d:Rat),?_,⟨z,h3,fun i=>?_⟩,⟨fun i=>if i=0 then d else 0,fun i=>?_,fun i=>?_⟩,⟨fun _=>0,fun _=>h0,fun _=>(Rat.mul_zero _).symm⟩⟩
 ·have r1:RS 1 (1:Rat):=DN;have:=C3 r1 (l:=b) (y:=(d:Rat)) ⟨by simpa using h2,by show 1<_; exact Uw h1 h2⟩ hd;rw [Nat.add_comm] at this; exact this
 ·rw [<- h4 i];have:1 / (d:Rat)*(a i*(d:Rat))=a i*(1 / (d:Rat)*(d:Rat)):=by grind
  rw [this,e1,Rat.mul_one]
 ·show (if i=0 then d else 0).natAbs<_
  split
  ·exact h2
  ·exact h0
 ·show (if i=0 then (1:Rat) else 0)=1 / (d:Rat)*((if i=0 then d else 0:Int):Rat)
  by_cases z:i=0
  ·rw [if_pos z,if_pos z,e1]
  ·rw [if_neg z,if_neg z]; exact (Rat.mul_zero _).symm
theorem HY (i:Nat):cf [1] i=one0 i:=by
 match i with
 | 0=>rfl
 | i+1=>rw [An (by show 1<=i+1; exact Fp)]; exact (if_neg (o302)).symm
noncomputable def hB (L b:Nat):Nat:=(2*L+3)*(b+8)
noncomputable def HZ (L b d:Nat):Nat:=(4*d+3)*(hB L b+2)
noncomputable def FV (L b:Nat):Nat:=(4*L+4)*(hB L b+2)
theorem EuA.rows {p q:LR} {A S T B U V:NR} {L k b:Nat} (hL:L<=31) (I:EuA (cf p) (cf q) A S T B U V (q.length - 1) k) (hp:RC b (cf p)) (hq:RC b (cf q)) (lp:p.length<=L) (lq:q.length<=L) (q0:q≠[]) (hk:k<p.length):∃ l,Pm (hB L b) l B/\Pm (hB L b) l U/\Pm (hB L b) l V:=by
 have hl:1<=q.length:=List.length_pos_iff.mpr q0;refine xq1_3 (I.prim (m:=p.length - 1) (c:=6) hp hq (fun i hi=>An (Ik hi)) (fun i hi=>An (Ik hi)) (afb hk) (afc hL lq lp)) fun l h1 h2 h3=>?_;have hm:(q.length - 1+(p.length - 1)+3)*(b+6+2)<=hB L b:=Nat.mul_le_mul (afd lq lp) (afe);exact ⟨l,h1.mono hm,h2.mono hm,h3.mono hm⟩
theorem abl (L b:Nat):b+8<=FV L b:=by
 have h1:3*(b+8)<=hB L b:=Nat.mul_le_mul_right _ (Ml);have h2:4*(hB L b+2)<=FV L b:=Nat.mul_le_mul_right _ (aff);exact afg h1 h2
noncomputable def ShJ (L:Nat) (p q A S T B U V:LR) (b:Nat):Prop :=
 L<=31/\
 RC b (cf p)/\
 RC b (cf q)/\
 p.length<=L/\
 q.length<=L/\
 Rw A/\
 Rw S/\
 Rw T/\
 Rw B/\
 Rw U/\
 Rw V/\
 A.length<=L/\
 B.length<=L/\
 S.length+max A.length B.length<=L+1/\
 T.length+max A.length B.length<=L+1/\
 U.length+max A.length B.length<=L+1/\
 V.length+max A.length B.length<=L+1/\
 (∀ j,cf A j=cvn (cf S) (cf p) j+cvn (cf T) (cf q) j)/\
 (∀ j,cf B j=cvn (cf U) (cf p) j+cvn (cf V) (cf q) j)/\
 (∀ g:LR,Dv g (cf A)->Dv g (cf B)->Dv g (cf p)/\Dv g (cf q))/\
 ((A=p/\S=[1]/\T=[]/\B=q/\U=[]/\V=[1])\/
  (q≠[]/\A≠[]/\B.length<A.length/\B.length<=p.length/\A.length<=q.length/\EuA (cf p) (cf q) (cf A) (cf S) (cf T) (cf B) (cf U) (cf V) (q.length - 1) (A.length - 1)/\
   (∃ l,RS (HZ L b (q.length - A.length)) l/\Pm (hB L b) l (cf A)/\Pm (hB L b) l (cf S)/\Pm (hB L b) l (cf T))/\
   (B=[]\/∃ l,RS (HZ L b (q.length - A.length)) l/\Pm (hB L b) l (cf B)/\Pm (hB L b) l (cf U)/\Pm (hB L b) l (cf V))))
section
variable {L:Nat} {p q A S T B U V:LR} {b:Nat} (h_:ShJ L p q A S T B U V b)
def ShJ.hL:=h_.1
def ShJ.cp:=h_.2.1
def ShJ.cq:=h_.2.2.1
def ShJ.lp:=h_.2.2.2.1
def ShJ.lq:=h_.2.2.2.2.1
def ShJ.wA:=h_.2.2.2.2.2.1
def ShJ.wS:=h_.2.2.2.2.2.2.1
def ShJ.wT:=h_.2.2.2.2.2.2.2.1
def ShJ.wB:=h_.2.2.2.2.2.2.2.2.1
def ShJ.wU:=h_.2.2.2.2.2.2.2.2.2.1
def ShJ.wV:=h_.2.2.2.2.2.2.2.2.2.2.1
def ShJ.lA:=h_.2.2.2.2.2.2.2.2.2.2.2.1
def ShJ.lB:=h_.2.2.2.2.2.2.2.2.2.2.2.2.1
def ShJ.lS:=h_.2.2.2.2.2.2.2.2.2.2.2.2.2.1
def ShJ.lT:=h_.2.2.2.2.2.2.2.2.2.2.2.2.2.2.1
def ShJ.lU:=h_.2.2.2.2.2.2.2.2.2.2.2.2.2.2.2.1
def ShJ.lV:=h_.2.2.2.2.2.2.2.2.2.2.2.2.2.2.2.2.1
def ShJ.eA:=h_.2.2.2.2.2.2.2.2.2.2.2.2.2.2.2.2.2.1
def ShJ.eB:=h_.2.2.2.2.2.2.2.2.2.2.2.2.2.2.2.2.2.2.1
def ShJ.dv:=h_.2.2.2.2.2.2.2.2.2.2.2.2.2.2.2.2.2.2.2.1
def ShJ.ph:=h_.2.2.2.2.2.2.2.2.2.2.2.2.2.2.2.2.2.2.2.2
end
theorem ShJ.start {p q:LR} {L b:Nat} (hL:L<=31) (hp:Rw p) (hq:Rw q) (kp:RC b (cf p)) (kq:RC b (cf q)) (lp:p.length<=L) (lq:q.length<=L):ShJ L p q p [1] [] q [] [1] b:=by
 have c1:∀ (a:NR) j,cvn (cf [1]) a j=a j:=fun a j=>by rw [Ax HY (fun _=>rfl),Aq]
 have c0:∀ (a:NR) j,cvn (cf []) a j=0:=fun a j=>Ag a j;have w1:Rw [1]:=.inr (by show (1:Rat)≠0; decide);refine ⟨hL,kp,kq,lp,lq,hp,w1,.inl rfl,hq,.inl rfl,w1,lp,lq,?_,?_,?_,?_,fun j=>by rw [c1,c0,Rat.add_zero],fun j=>by rw [c1,c0,Rat.zero_add],fun g h1 h2=>⟨h1,h2⟩,.inl ⟨rfl,rfl,rfl,rfl,rfl,rfl⟩⟩
 ·show 1+_<=L+1; exact Ux lp lq
 ·show 0+_<=L+1; exact Uy lp lq
 ·show 0+_<=L+1; exact Uy lp lq
 ·show 1+_<=L+1; exact Ux lp lq
theorem WL {L b d:Nat} (h:d+1<=L):HZ L b d+hB L b<=FV L b:=by
 have h1:HZ L b d<=(4*L+3)*(hB L b+2):=Nat.mul_le_mul_right _ (afh h);show _<=(4*L+3+1)*(hB L b+2);rw [Nat.add_mul,Nat.one_mul]; exact afi h1
theorem Gf {b:Nat} {a:NR} (h:RC b a):1<=b:=by
 refine Am h fun d z h1 h2 h3 h4=>?_
 by_cases z:b=0
 ·subst z; rw [Nat.pow_zero] at h2; exact afj h1 h2
 ·exact JX z
theorem ShJ.rc {p q A S T B U V:LR} {L b:Nat} (I:ShJ L p q A S T B U V b):RC (FV L b) (cf A)/\RC (FV L b) (cf S)/\RC (FV L b) (cf T)/\(B≠[]->RC (FV L b) (cf B)/\RC (FV L b) (cf U)/\RC (FV L b) (cf V)):=by
 have hb:=Gf I.cp;have hX:b<=FV L b:=by have:=abl L b; exact afk this
 have n1:RC 1 (cf []):=RC.none (Mm);rcases I.ph with ⟨rfl,rfl,rfl,rfl,rfl,rfl⟩ | ⟨q0,A0,h1,h2,h3,E,⟨l,sl,kA,kS,kT⟩,hB⟩
 ·exact ⟨I.cp.mono hX,rc_one.mono (Mn hb hX),n1.mono (Mn hb hX),fun _=>⟨I.cq.mono hX,n1.mono (Mn hb hX),rc_one.mono (Mn hb hX)⟩⟩
 ·have hA1:1<=A.length:=List.length_pos_iff.mpr A0;have hl:=WL (L:=L) (b:=b) (d:=q.length - A.length) (by have:=I.lq; have:1<=q.length:=List.length_pos_iff.mpr q0; omega);refine ⟨(kA.rc sl).mono hl,(kS.rc sl).mono hl,(kT.rc sl).mono hl,fun hBn=>?_⟩;refine xq1_4 (hB.resolve_left hBn) fun l' sl' k1 k2 k3=>?_;exact ⟨(k1.rc sl').mono hl,(k2.rc sl').mono hl,(k3.rc sl').mono hl⟩
theorem ShJ.step {p q A S T B U V W R F H:LR} {L b x:Nat} (I:ShJ L p q A S T B U V b) (hBn:B≠[]) (hD:Fa x x A B W R) (hF:Rw F) (hH:Rw H) (eF:∀ i,cf F i=cf S i - cvn (cf (trimL W)) (cf U) i) (eH:∀ i,cf H i=cf T i - cvn (cf (trimL W)) (cf V) i) :
  ShJ L p q B U V (trimL R) F H b/\(trimL R).length<B.length:=by
 refine AO hD fun hE hR0 kW kR lW=>?_;have hB1:1<=B.length:=List.length_pos_iff.mpr hBn;have hB0:cf B (B.length - 1)≠0:=I.wB.resolve_left hBn;have lw:=trim_len W;have lr:(trimL R).length<=B.length - 1:=Ay (rw_trim R) fun j hj=>by rw [Ak]; exact hR0 j hj
 have hE':∀ j,cf A j=cvn (cf (trimL W)) (cf B) j+cf (trimL R) j:=fun j=>by
  rw [Ak,hE j,Ar,Ax (fun i=>(Ak W i)) (fun _=>rfl)]
 have lS:=I.lS;have lT:=I.lT;have lU:=I.lU;have lV:=I.lV;have lA:=I.lA;have lB:=I.lB;have lp:=I.lp;have lq:=I.lq;have lF:F.length<=L+1 - B.length:=KH (m:=0) hF eF (Uz lS) (UA lU lW lw);have lH:H.length<=L+1 - B.length:=KH (m:=0) hH eH (Uz lT) (UA lV lW lw);have dR:Bd (B.length - 1) (cf (trimL R)):=fun i hi=>by rw [Ak]; exact hR0 i hi
 have dB:Bd (B.length - 1+1) (cf B):=fun i hi=>An (Ik hi);have dWl:Bd (A.length - B.length+1) (cf (trimL W))\/A.length<B.length:=by
  by_cases z:A.length<B.length
  ·exact .inr z
  ·exact .inl fun i hi=>An (afl hi lW lw)
 have hbH:b+1<=hB L b:=by have:3*(b+8)<=(2*L+3)*(b+8):=Nat.mul_le_mul_right _ (Ml); show b+1<=(2*L+3)*(b+8); exact afm this
 refine ⟨⟨I.hL,I.cp,I.cq,lp,lq,I.wB,I.wU,I.wV,rw_trim R,hF,hH,lB,UB lr lB,UC lU lr,UC lV lr,UD lF lr lB,UD lH lr lB,I.eB,Sp I.eA I.eB hE' eF eH,fun g h1 h2=>I.dv g (So hE' h1 h2) h1,.inr ?_⟩,Mo hB1 lr⟩;rcases I.ph with ⟨rfl,rfl,rfl,rfl,rfl,rfl⟩ | ⟨q0,A0,h1,h2,h3,E,⟨l,sl,kA,kS,kT⟩,hBl⟩
 ·have fW:Ab (cf (trimL W)):=fin_cf _;have E:=EuA.first (p:=cf A) (q:=cf B) (W:=cf (trimL W)) (R:=cf (trimL R)) (n:=B.length - 1) (funext hE') fW hB0 dB dR;have c0:∀ i,cf ([]:LR) i=0:=fun i=>rfl;have e1:cf F=one0:=funext fun i=>by
   rw [eF i,HY,Af,show cf ([]:LR)=fun _=>0 from funext c0,Ag]; grind
  have e2:cf H=fun j=>- cf (trimL W) j:=funext fun i=>by
   rw [eH i,c0,Af,Ax HY (fun _=>rfl),Aq]; grind
  have e3:cf ([1]:LR)=one0:=funext HY;have e4:cf ([]:LR)=fun _=>0:=funext c0;have hl0:hB L b+1<=HZ L b (B.length - B.length):=by
   show hB L b+1<=(4*(B.length - B.length)+3)*(hB L b+2);rw [Nat.sub_self]; omega
  refine ⟨hBn,hBn,Mo hB1 lr,?_,Nat.le_refl _,?_,?_,?_⟩
  ·by_cases z:A.length<B.length
   ·have:=Ay (n:=A.length) (rw_trim R) (fun j hj=>by
     have h5:=hE' j;rw [An hj,show trimL W=[] from List.eq_nil_of_length_eq_zero (by exact UE lW lw z),e4,Ag,Rat.zero_add] at h5;exact h5.symm)
    exact this
   ·exact afn lr z
  ·rw [e1,e2,e3,e4]; exact E
  ·refine xq1_4 (Pm.of_rc I.cq) fun l sl k1 k2 k3=>?_;rw [e3,e4];exact ⟨l,sl.mono (UF hbH hl0),k1.mono (o37 hbH),k3.mono (o37 hbH),k2.mono (o37 hbH)⟩
  ·by_cases hr:trimL R=[]
   ·exact .inl hr
   ·refine .inr ?_;rw [e1,e2]
    by_cases z:A.length<B.length
    ·have ew:cf (trimL W)=fun _=>0:=by rw [show trimL W=[] from List.eq_nil_of_length_eq_zero (by exact UE lW lw z)]; exact e4
     refine xq1_4 (Pm.of_rc I.cp) fun l sl k1 k2 k3=>?_;have er:cf (trimL R)=cf A:=funext fun j=>by rw [hE' j,ew,Ag,Rat.zero_add]
     have e0:(fun j=>- cf (trimL W) j)=fun _=>0:=by rw [ew]; funext j; exact Rat.neg_zero
     rw [er,e0];exact ⟨l,sl.mono (UF hbH hl0),k1.mono (o37 hbH),k2.mono (o37 hbH),k3.mono (o37 hbH)⟩
    ·refine xq1_3 (E.rows I.hL I.cp I.cq lp lq hBn (afo hB1 z)) fun l k1 k2 k3=>?_;refine xq2_5 (Fd I.cp I.cq (m:=B.length - 1) (N:=A.length+1 - B.length) hB0 dB (fun i hi=>An (afp hi))) fun W' R' g1 g2 g3 g4 g5=>?_;have er:=(C5 hB0 dB fW ⟨_,g3⟩ dR g2 fun j=>by rw [<- hE' j,g1 j]).2;refine ⟨l,(k1.size (g5.cong er) ((rw_trim R).resolve_left hr)).mono ?_,k1,k2,k3⟩;have h5:(A.length+1 - B.length)*(b+1)<=L*(b+1):=Nat.mul_le_mul_right _ (afq hB1 lA);have h6:2*(L*(b+1))+3*(b+8)<=hB L b:=by
      show _<=(2*L+3)*(b+8);rw [Nat.add_mul,Nat.mul_assoc];have:L*(b+1)<=L*(b+8):=Nat.mul_le_mul_left _ (O9);exact Pa this
     have h7:HZ L b (B.length - B.length)=3*(hB L b+2):=by rw [Nat.sub_self]; rfl
     exact afr h7 h6 h5
 ·have hA1:1<=A.length:=List.length_pos_iff.mpr A0;refine xq1_4 (hBl.resolve_left hBn) fun l' sl' k1 k2 k3=>?_;have dW:Bd (A.length - 1 - (B.length - 1)+1) (cf (trimL W)):=(dWl.resolve_right (afs h1)).mono (aft hB1);have E':=E.step (W:=cf (trimL W)) (R:=cf (trimL R)) (k':=B.length - 1) (funext hE') dW hB0 dB dR;have e1:cf F=fun j=>cf S j - cvn (cf (trimL W)) (cf U) j:=funext eF;have e2:cf H=fun j=>cf T j - cvn (cf (trimL W)) (cf V) j:=funext eH;have hm:HZ L b (q.length - A.length)<=HZ L b (q.length - B.length):=Nat.mul_le_mul_right _ (afu h1);refine ⟨q0,hBn,Mo hB1 lr,UB lr h2,O6 h3 h1,?_,⟨l',sl'.mono hm,k1,k2,k3⟩,?_⟩
  ·rw [e1,e2]; exact E'
  ·by_cases hr:trimL R=[]
   ·exact .inl hr
   ·refine xq1_3 (E'.rows I.hL I.cp I.cq lp lq q0 (afv hB1 h2)) fun l2 j1 j2 j3=>?_;rw [e1,e2];refine .inr ⟨l2,(Pm.next kA k1 j1 sl hB0 dB (N:=A.length - B.length+1) (fun i hi=>An (afw hi)) hE' (fin_cf _) dR ((rw_trim R).resolve_left hr)).mono ?_,j1,j2,j3⟩;show (4*(q.length - A.length)+3)*(hB L b+2)+(hB L b+1+(A.length - B.length+1)*(hB L b+2))+hB L b<=(4*(q.length - B.length)+3)*(hB L b+2);obtain ⟨y,hy⟩:∃ y,y=hB L b+2:=⟨_,rfl⟩;have h8:(4*(q.length - A.length)+3)*y+(A.length - B.length+1)*y+2*y<=(4*(q.length - B.length)+3)*y:=by
     rw [<- Nat.add_mul,<- Nat.add_mul];exact Nat.mul_le_mul_right _ (afx h3 h1)
    rw [<- hy];exact afy hy h8
noncomputable def ShO (L:Nat) (p q G S T:LR) (b:Nat):Prop :=
 Rw G/\
 Rw S/\
 Rw T/\
 G.length<=L/\
 S.length+G.length<=L+1/\
 T.length<=L+1/\
 RC (hB L b) (cf G)/\
 RC (hB L b) (cf S)/\
 RC (hB L b) (cf T)/\
 (∀ j,cf G j=cvn (cf S) (cf p) j+cvn (cf T) (cf q) j)/\
 Dv G (cf p)/\
 Dv G (cf q)/\
 ((G=[]/\p=[]/\q=[])\/(G≠[]/\cf G (G.length - 1)=1))
section
variable {L:Nat} {p q G S T:LR} {b:Nat} (h_:ShO L p q G S T b)
def ShO.wG:=h_.1
def ShO.wS:=h_.2.1
def ShO.wT:=h_.2.2.1
def ShO.lG:=h_.2.2.2.1
def ShO.lS:=h_.2.2.2.2.1
def ShO.lT:=h_.2.2.2.2.2.1
def ShO.kG:=h_.2.2.2.2.2.2.1
def ShO.kS:=h_.2.2.2.2.2.2.2.1
def ShO.kT:=h_.2.2.2.2.2.2.2.2.1
def ShO.eG:=h_.2.2.2.2.2.2.2.2.2.1
def ShO.dp:=h_.2.2.2.2.2.2.2.2.2.2.1
def ShO.dq:=h_.2.2.2.2.2.2.2.2.2.2.2.1
def ShO.led:=h_.2.2.2.2.2.2.2.2.2.2.2.2
end
theorem ShJ.out0 {p q S T U V:LR} {L b:Nat} (I:ShJ L p q [] S T [] U V b):ShO L p q [] S T b:=by
 have l1:=I.lS;have l2:=I.lT;have d:=I.dv [] (IK []) (IK []);have hb:=Gf I.cp;have h6:2*(L*(b+1))+3*(b+8)<=hB L b:=by
      show _<=(2*L+3)*(b+8);rw [Nat.add_mul,Nat.mul_assoc];have:L*(b+1)<=L*(b+8):=Nat.mul_le_mul_left _ (O9);exact Pa this
 have n1:RC 1 (cf []):=RC.none (Mm);rcases I.ph with ⟨rfl,rfl,rfl,rfl,rfl,rfl⟩ | ⟨q0,A0,_⟩
 ·exact ⟨.inl rfl,I.wS,I.wT,by simp,(by show _+0<=L+1; exact afz l1),afA l1,n1.mono (Mp h6),rc_one.mono (Mp h6),n1.mono (Mp h6),I.eA,d.1,d.2,.inl ⟨rfl,rfl,rfl⟩⟩
 ·exact absurd rfl A0
theorem AW (p:LR) (x:Rat) (i:Nat):cf (trimL (p.map (·*x))) i=cf p i*x:=by
 rw [Ak,N1 (f:=fun y=>y*x) (Rat.zero_mul _)]
theorem FI {A:LR} {x:Rat} (hA:Rw A) (hx:x≠0):(trimL (A.map (·*x))).length=A.length:=by
 have m1:=trim_len (A.map (·*x));rw [List.length_map] at m1;rcases hA with rfl | hA
 ·rfl
 ·by_cases z:A.length<=(trimL (A.map (·*x))).length
  ·exact o79 m1 z
  ·have h:=AW A x (A.length - 1);rw [An (by exact QL z)] at h;exact absurd (Rat.mul_eq_zero.mp h.symm) (fun z=>z.elim hA hx)
theorem ShJ.out1 {p q A S T U V:LR} {L b:Nat} (I:ShJ L p q A S T [] U V b) (hA:A≠[]) {x:Rat} (hx:x=1 / cf A (A.length - 1)):ShO L p q (trimL (A.map (·*x))) (trimL (S.map (·*x))) (trimL (T.map (·*x))) b:=by
 have hA1:1<=A.length:=List.length_pos_iff.mpr hA;have hA0:cf A (A.length - 1)≠0:=I.wA.resolve_left hA;have e1:x*cf A (A.length - 1)=1:=by rw [hx]; exact Rat.div_mul_cancel hA0
 have x0:x≠0:=fun z=>by rw [z,Rat.zero_mul] at e1; exact absurd e1 (by decide)
 have lA:=I.lA;have l1:=I.lS;have l2:=I.lT;have m2:=trim_len (S.map (·*x));have m3:=trim_len (T.map (·*x));rw [List.length_map] at m2 m3;have hl:=FI I.wA x0;have hG:=AW A x;have d:=I.dv A (IK A) (Sn A);have hb:=Gf I.cp;have h6:2*(L*(b+1))+3*(b+8)<=hB L b:=by
      show _<=(2*L+3)*(b+8);rw [Nat.add_mul,Nat.mul_assoc];have:L*(b+1)<=L*(b+8):=Nat.mul_le_mul_left _ (O9);exact Pa this
 have ks:RC (hB L b) (cf (trimL (A.map (·*x))))/\RC (hB L b) (cf (trimL (S.map (·*x))))/\RC (hB L b) (cf (trimL (T.map (·*x)))):=by
  rcases I.ph with ⟨rfl,rfl,rfl,hq,rfl,rfl⟩ | ⟨q0,A0,h1,h2,h3,E,⟨l,sl,kA,kS,kT⟩,hBl⟩
  ·have rx:RS (1+b) x:=by rw [hx]; exact C3 DN (I.cp.rs _) hA0
   refine ⟨((I.cp.monic hA0).cong fun i=>?_).mono (afB h6),((rc_one.scale rx).cong (AW _ x)).mono (afC h6),(RC.none (B:=1) (Mm)).mono (Mp h6)⟩;rw [hG i,hx]
  ·exact ⟨(kA.led kA hA0).cong fun i=>by rw [hG i,hx],(kA.led kS hA0).cong fun i=>by rw [AW,hx],(kA.led kT hA0).cong fun i=>by rw [AW,hx]⟩
 have l3:=Nat.le_max_left A.length ([]:LR).length;refine ⟨rw_trim _,rw_trim _,rw_trim _,UG hl lA,afD hl m2 l1,afE l2 m3,ks.1,ks.2.1,ks.2.2,fun j=>?_,KG e1 hG d.1,KG e1 hG d.2,.inr ⟨fun z=>?_,?_⟩⟩
 ·rw [hG j,I.eA j,Ax (fun i=>(AW S x i).trans (Rat.mul_comm _ _)) (fun _=>rfl),Ax (a:=cf (trimL (T.map (·*x)))) (fun i=>(AW T x i).trans (Rat.mul_comm _ _)) (fun _=>rfl),Ai,Ai]; grind
 ·rw [z] at hl;exact hA (List.eq_nil_of_length_eq_zero hl.symm)
 ·rw [hl,hG,Rat.mul_comm,e1]
noncomputable def FW (L b:Nat):Nat:=(L+4)*(L+4)*(hB L b+2)
theorem abm {L d N:Nat} (h:d+N<=L+4):4*(d*N)<=(L+4)*(L+4):=by
 have h1:4*(d*N)<=(d+N)*(d+N):=by
  rcases Nat.le_total d N with k | k
  ·obtain ⟨e,rfl⟩:=Nat.exists_eq_add_of_le k;have:(d+(d+e))*(d+(d+e))=4*(d*(d+e))+e*e:=by grind
   exact UH this
  ·obtain ⟨e,rfl⟩:=Nat.exists_eq_add_of_le k;have:(N+e+N)*(N+e+N)=4*((N+e)*N)+e*e:=by grind
   exact UH this
 exact Nat.le_trans h1 (Nat.mul_le_mul h h)
theorem ShJ.div {p q A S T B U V:LR} {L b:Nat} (I:ShJ L p q A S T B U V b) (hB0:B≠[]):∃ x,RC x (cf A)/\RC x (cf B)/\RC x (cf S)/\RC x (cf T)/\RC x (cf U)/\RC x (cf V)/\x+(A.length+2 - B.length)*(x+1)<=FW L b/\3*x<=FW L b:=by
 have hb:=Gf I.cp;have n1:RC 1 (cf []):=RC.none (Mm);have y3:3*(b+8)<=hB L b:=Nat.mul_le_mul_right _ (Ml);have lB1:1<=B.length:=List.length_pos_iff.mpr hB0;rcases I.ph with ⟨rfl,rfl,rfl,rfl,rfl,rfl⟩ | ⟨q0,A0,h1,h2,h3,E,⟨l,sl,kA,kS,kT⟩,hBl⟩
 ·have lp:=I.lp;refine ⟨b,I.cp,I.cq,rc_one.mono hb,n1.mono hb,n1.mono hb,rc_one.mono hb,?_,?_⟩
  ·have k1:(A.length+2 - B.length)*(b+1)<=(L+1)*(b+1):=Nat.mul_le_mul_right _ (UI lB1 lp);have k2:(L+4)*(hB L b+2)<=FW L b:=Nat.mul_le_mul_right _ (by
    have:=Nat.mul_le_mul (show 1<=L+4 by exact UJ) (Nat.le_refl (L+4));exact UK this)
   have k3:(L+4)*(b+1)<=(L+4)*(hB L b+2):=Nat.mul_le_mul_left _ (afF y3);have k4:(L+1)*(b+1)+3*(b+1)=(L+4)*(b+1):=by rw [<- Nat.add_mul]
   exact afG k4 k2 k1 k3
  ·have k2:16*(hB L b+2)<=FW L b:=Nat.mul_le_mul_right _ (Nat.mul_le_mul (show 4<=L+4 by exact Pc) (show 4<=L+4 by exact Pc));exact afH k2 y3
 ·refine xq1_4 (hBl.resolve_left hB0) fun l' sl' k1 k2 k3=>?_;have lq:=I.lq;have lA1:1<=A.length:=List.length_pos_iff.mpr A0;obtain ⟨d,hd⟩:∃ d,d=q.length - A.length:=⟨_,rfl⟩;rw [<- hd] at sl sl';have hx:HZ L b d+hB L b<=(4*d+4)*(hB L b+2) - 2:=by
   show (4*d+3)*(hB L b+2)+_<=(4*d+3+1)*(hB L b+2) - 2;rw [Nat.add_mul (4*d+3) 1,Nat.one_mul]; exact afI
  have x2:2<=(4*d+4)*(hB L b+2):=Nat.le_trans (afJ) (Nat.mul_le_mul (show 1<=4*d+4 by exact afK) (Nat.le_refl _));refine ⟨(4*d+4)*(hB L b+2) - 2,(kA.rc sl).mono hx,(k1.rc sl').mono hx,(kS.rc sl).mono hx,(kT.rc sl).mono hx,(k2.rc sl').mono hx,(k3.rc sl').mono hx,?_,?_⟩
  ·have m1:(A.length+2 - B.length)*((4*d+4)*(hB L b+2) - 2+1)<=(L+1 - d)*((4*d+4)*(hB L b+2)):=Nat.mul_le_mul (afL hd lB1 lq h3) (afM x2);have m2:(4*d+4)*(hB L b+2)+(L+1 - d)*((4*d+4)*(hB L b+2))=(4*((d+1)*(L+2 - d)))*(hB L b+2):=by
    have:L+2 - d=L+1 - d+1:=afN hd lq;rw [this]; grind
   have m3:=Nat.mul_le_mul_right (hB L b+2) (abm (L:=L) (d:=d+1) (N:=L+2 - d) (afO hd lq));show _<=(L+4)*(L+4)*(hB L b+2);exact afP m2 m1 m3
  ·have m4:3*(4*d+4)<=(L+4)*(L+4):=by
    have h5:d+1<=L:=afQ hd lq h3 h1;have:=Nat.mul_le_mul (show d+5<=L+4 by exact UL h5) (show d+5<=L+4 by exact UL h5);have e:(d+5)*(d+5)=d*d+10*d+25:=by grind
    have e2:2*d<=d*d+1:=by
     rcases Nat.lt_or_ge d 2 with k | k
     ·rcases Nat.lt_or_ge d 1 with z | z
      ·obtain rfl:d=0:=afR z;decide
      ·obtain rfl:d=1:=afS z k;decide
     ·have:=Nat.mul_le_mul_right d k;exact afT this
    exact afU e e2 this
   have:=Nat.mul_le_mul_right (hB L b+2) m4;show _<=(L+4)*(L+4)*(hB L b+2);have:3*(4*d+4)*(hB L b+2)=3*((4*d+4)*(hB L b+2)):=Nat.mul_assoc _ _ _;omega
noncomputable def Hf:List S:=[
  .assign 2 (.tup [.var 0,.glob "UNIT",.tup []]),
  .assign 3 (.tup [.var 1,.tup [],.glob "UNIT"]),
  .whiles (.cmp .NotEq (.idx (.var 3) (.cint 0)) (.tup [])) [.unpack [4,5] (.call "parted" [.idx (.var 2) (.cint 0),.idx (.var 3) (.cint 0)]),.assign 6 (.call "lessened" [.idx (.var 2) (.cint 1),.call "multiplied" [.var 4,.idx (.var 3) (.cint 1)]]),.assign 7 (.call "lessened" [.idx (.var 2) (.cint 2),.call "multiplied" [.var 4,.idx (.var 3) (.cint 2)]]),.assign 2 (.var 3),.assign 3 (.tup [.var 5,.var 6,.var 7])],
  .ifs (.cmp .Eq (.idx (.var 2) (.cint 0)) (.tup [])) [.ret (.var 2)] [],
  .assign 8 (.call "part_of" [.tup [.cint 1,.cint 1],.idx (.idx (.var 2) (.cint 0)) (.neg (.cint 1))]),
  .ret (.tup [.call "scaled" [.idx (.var 2) (.cint 0),.var 8],.call "scaled" [.idx (.var 2) (.cint 1),.var 8],.call "scaled" [.idx (.var 2) (.cint 2),.var 8]])]
section
variable {c:Cx} (CO:CxOK c)
include CO
theorem Jp {t g x f:Str} (ht:Cu c 1 t) (hg:DM c 3 g) (hf:FnK c f 2 (FF t g x)):CC c 4 f:=by
 refine ⟨hf.isFn,fun p x k l {m sto Q} hm hp hx hkl hpl h=>?_⟩;obtain ⟨n,rfl⟩:∃ n,m=n+1:=⟨m - 1,FY hm⟩;refine fn_call CO hf rfl ?_;unfold FF;walk_at "m";refine ⟨by exact Mine.mlim (Cc hpl),by exact Mine.mlim (Cc hpl),?_⟩;refine Cv Ae (fun y=>Ae (y*x)) p [] (fun y hy K hK=>?_) fun l' hl'=>?_
 ·refine GJ ?_;walk_at "m";obtain ⟨i,hi⟩:=List.getElem?_of_mem hy;have e:cf p i=y:=by unfold cf; rw [hi]; rfl
  refine hg.2 y x k l (Eg hm) (e ▸ hp i) hx hkl ?_;exact ⟨trivial,hK⟩
 ·rw [List.nil_append];walk_at "m";have e:(p.map fun y=>Ae (y*x))=(p.map (·*x)).map Ae:=by rw [List.map_map]; rfl
  rw [e];refine ht.2 _ l' _ (FZ hm) put_same (by rw [List.length_map]; exact Cc hpl) ?_;exact ret_plain h
noncomputable def C6 (c:Cx):Prop:=AD c "added"/\∀ (p q:LR) (k l:Nat) {m:Nat} {sto:Sto} {Q:D->Sto->Prop},4<=m->Cb k p->Cb l q->k+l<=134217728->p.length<=400->q.length<=400->(∀ r,JJ p q r->Q (rowD (trimL r)) sto)->Ah c m "added" [rowD p,rowD q] sto Q
noncomputable def Fe (c:Cx):Prop:=AD c "multiplied"/\∀ (p q:LR) (k l:Nat) {m:Nat} {sto:Sto} {Q:D->Sto->Prop},4<=m->RC k (cf p)->RC l (cf q)->k+l<=66000000->p.length<=20->q.length<=100->(∀ r,E8 p q r->Q (rowD (trimL r)) sto)->Ah c m "multiplied" [rowD p,rowD q] sto Q
noncomputable def CY (c:Cx):Prop:=AD c "parted"/\∀ (p q:LR) (a b:Nat) {m:Nat} {sto:Sto} {Q:D->Sto->Prop},4<=m->RC a (cf p)->RC b (cf q)->a+(p.length+2 - q.length)*(b+1)<=60000000->q≠[]->Rw q->p.length<=31->q.length<=20->(∀ W R,Fa a b p q W R->Q (.tup [rowD (trimL W),rowD (trimL R)]) sto)->Ah c m "parted" [rowD p,rowD q] sto Q
noncomputable def KK (c:Cx):Prop:=AD c "lessened"/\∀ (p q:LR) (k l:Nat) {m:Nat} {sto:Sto} {Q:D->Sto->Prop},5<=m->Cb k p->Cb l q->k+l+1<=134217728->p.length<=400->q.length<=400->(∀ r,Rw r->(∀ i,cf r i=cf p i - cf q i)->Q (rowD r) sto)->Ah c m "lessened" [rowD p,rowD q] sto Q
theorem Lo (ha:C6 c) (hs:CC c 4 "scaled") (hf:FnK c "lessened" 2 FG):KK c:=by
 refine ⟨hf.isFn,fun p q k l {m sto Q} hm hp hq hkl hpl hql h=>?_⟩;obtain ⟨n,rfl⟩:∃ n,m=n+1:=⟨m - 1,Il hm⟩;refine fn_call CO hf rfl ?_;unfold FG;walk_at "m";rw [Ci];have em:(((-1:Int)):Rat)=-1:=rfl;rw [em];refine hs.2 q (-1) l 1 (F5 hm) hq IL (afV hkl) hql ?_;walk_at "m";have ll:=trim_len (q.map (·*(-1)));rw [List.length_map] at ll;refine ha.2 p _ k (l+1) (F5 hm) hp (fun i=>by rw [AW]; exact C2 (hq i) IL) (afW hkl) hpl (afX hql ll) fun r hr=>?_;refine ret_plain (h _ (rw_trim r) fun i=>?_);rw [Ak,hr i,AW]; grind
theorem Oe (hu:c.cs "UNIT"=some (rowD [1])) (hpt:CY c) (hmu:Fe c) (hle:KK c) (hpa:E9 c 3 "part_of") (hsc:CC c 4 "scaled") (hf:FnK c "shared" 2 Hf) {p q:LR} {L b:Nat} (hL:L<=18) (hp:Rw p) (hq:Rw q) (kp:RC b (cf p)) (kq:RC b (cf q)) (hK:FW L b<=59000000) (lp:p.length<=L) (lq:q.length<=L) {m:Nat} (hm:6<=m) {sto:Sto} {Q:D->Sto->Prop}
  (h:∀ G S T,ShO L p q G S T b->Q (.tup [rowD G,rowD S,rowD T]) sto):Ah c m "shared" [rowD p,rowD q] sto Q:=by
 obtain ⟨n,rfl⟩:∃ n,m=n+1:=⟨m - 1,Pd hm⟩;refine fn_call CO hf rfl ?_;unfold Hf;walk_at "m";have hx:FV L b<=59000000:=Nat.le_trans (Nat.mul_le_mul_right _ (by
  have:=Nat.mul_le_mul (show 4<=L+4 by exact Pc) (Nat.le_refl (L+4));exact afY this)) hK
 refine Dx (fun σ=>∃ (A S T B U V:LR),ShJ L p q A S T B U V b/\σ.loc 2=some (.tup [rowD A,rowD S,rowD T])/\σ.loc 3=some (.tup [rowD B,rowD U,rowD V])) (fun σ=>match σ.loc 3 with | some (.tup (.tup ds :: _))=>ds.length | _=>0) ?_ ?_
 ·exact ⟨p,[1],[],q,[],[1],ShJ.start (UM hL) hp hq kp kq lp lq,rfl,rfl⟩
 intro σ q159_; refine xq6_3 q159_ fun A S T B U V I h2 h3=>?_; clear q159_;have lA:=I.lA;have lB:=I.lB;have lS:=I.lS;have lT:=I.lT;have lU:=I.lU;have lV:=I.lV;walk_at "m";refine GD (eq_rows B []) ?_;walk_at "m";refine if_b (fun hb=>?_) fun hb=>?_
 ·have hB:B≠[]:=by simpa using hb
  have hB1:1<=B.length:=List.length_pos_iff.mpr hB;refine aap (I.div hB) fun x cA cB cS cT cU cV hab hx3=>?_;have hw:x+(A.length+1 - B.length)*(x+1)<=59000000:=by
   have:(A.length+1 - B.length)*(x+1)<=(A.length+2 - B.length)*(x+1):=Nat.mul_le_mul_right _ (afZ);exact af0 hab this hK
  have hwx:x+(A.length+1 - B.length)*(x+1)+x<=59000000:=by
   by_cases z:B.length<=A.length+1
   ·rw [show A.length+2 - B.length=(A.length+1 - B.length)+1 by exact af1 z,Nat.add_mul,Nat.one_mul] at hab;exact af2 hab hK
   ·rw [show A.length+1 - B.length=0 by exact af3 z,Nat.zero_mul]; exact af4 hx3 hK
  have hab:x+(A.length+2 - B.length)*(x+1)<=60000000:=af5 hab hK;have hx3:3*x<=59000000:=af6 hx3 hK;walk_at "m";refine hpt.2 A B x x (EO hm) cA cB hab hB I.wB (Pe hL lA) (Pf hL lB) fun W R hD=>?_;refine ⟨_,rfl,rfl,?_⟩;have kW:=hD.2.2.1.trim;have lW:=hD.2.2.2.2;have lw:=trim_len W;generalize x+(A.length+1 - B.length)*(x+1)=w at hw kW hwx;walk_at "m";refine hmu.2 (trimL W) U w x (EO hm) kW cU (UN hwx) (UO hL lA lw lW) (UP lU hL) fun r hr=>?_;have kr:RC (w+x+5) (cf r):=(kW.prod cU (UQ hL lA lw lW)).cong hr;have lr:(trimL r).length<=400:=Nat.le_trans (Ay (n:=W.length+U.length) (rw_trim r) fun j hj=>by
   rw [Ak,hr j,Ar,Cj (N:=W.length) (M:=U.length) (fun i hi=>An (by exact J0 lw hi)) (fun i hi=>An hi) (by exact O5 hj)]) (UR lU lW hL)
  walk_at "m";refine hle.2 S (trimL r) x _ (Im hm) (fun i=>cS.rs i) (fun i=>kr.trim.rs i) (US hwx) (Mq lS hL) lr fun F hF eF=>?_;walk_at "m";refine hmu.2 (trimL W) V w x (EO hm) kW cV (UN hwx) (UO hL lA lw lW) (UP lV hL) fun t ht=>?_;have kt:RC (w+x+5) (cf t):=(kW.prod cV (UQ hL lA lw lW)).cong ht;have lt:(trimL t).length<=400:=Nat.le_trans (Ay (n:=W.length+V.length) (rw_trim t) fun j hj=>by
   rw [Ak,ht j,Ar,Cj (N:=W.length) (M:=V.length) (fun i hi=>An (by exact J0 lw hi)) (fun i hi=>An hi) (by exact O5 hj)]) (UR lV lW hL)
  walk_at "m";refine hle.2 T (trimL t) x _ (Im hm) (fun i=>cT.rs i) (fun i=>kt.trim.rs i) (US hwx) (Mq lT hL) lt fun H hH eH=>?_;walk_at "m";have st:=I.step hB hD hF hH (fun i=>by rw [eF i,Ak,hr i,Ar]) (fun i=>by rw [eH i,Ak,ht i,Ar]);refine ⟨⟨_,_,_,_,_,_,st.1,rfl,rfl⟩,?_⟩;rw [h3];show ((trimL R).map Ae).length<(B.map Ae).length;rw [List.length_map,List.length_map];exact st.2
 ·have hB:B=[]:=by simpa using hb
  subst hB;refine Bz I.rc fun cA cS cT _=>?_;generalize FV L b=x at hx cA cS cT;walk_at "m";refine c_eqD (eq_rows A []) ?_;walk_at "m";refine if_b (fun hb=>?_) fun hb=>?_
  ·have hA:A=[]:=beq_iff_eq.mp hb;subst hA;walk_at "m";exact ret_plain (h _ _ _ I.out0)
  ·have hA:A≠[]:=beq_eq_false_iff_ne.mp hb;have hA1:1<=A.length:=List.length_pos_iff.mpr hA;have hA0:cf A (A.length - 1)≠0:=I.wA.resolve_left hA;walk_at "m";refine EF (by exact Mine.mlim (Io hL lA)) (CX hA) ?_;walk_at "m";rw [Ci];have em:(((1:Int)):Rat)=1:=rfl;rw [em];refine hpa.2 1 _ 1 x (af7 hm) DN (cA.rs _) (af8 hx) hA0 ?_;have rx:RS (1+x) (1 / cf A (A.length - 1)):=C3 DN (cA.rs _) hA0;obtain ⟨y,hy⟩:∃ y,y=1 / cf A (A.length - 1):=⟨_,rfl⟩;rw [<- hy] at rx ⊢;walk_at "m";refine hsc.2 A y x (1+x) (EO hm) (fun i=>cA.rs i) rx (Pg hx) (Ph hL lA) ?_;walk_at "m";refine hsc.2 S y x (1+x) (EO hm) (fun i=>cS.rs i) rx (Pg hx) (Mq lS hL) ?_;walk_at "m";refine hsc.2 T y x (1+x) (EO hm) (fun i=>cT.rs i) rx (Pg hx) (Mq lT hL) ?_;walk_at "m";exact ret_plain (h _ _ _ (I.out1 hA hy))
end
noncomputable def Cq (R:LR):LR:=if R=[] then [] else trimL (R.map (·*(1 / cf R (R.length - 1))))
theorem Of {R:LR} (hR:Rw R):Rw (Cq R)/\(Cq R).length=R.length/\∃ x y:Rat,x*y=1/\(∀ i,cf (Cq R) i=cf R i*x)/\(R≠[]->cf (Cq R) ((Cq R).length - 1)=1/\x=1 / cf R (R.length - 1)):=by
 unfold Cq
 by_cases z:R=[]
 ·rw [if_pos z];subst z;exact ⟨.inl rfl,rfl,1,1,Rat.mul_one 1,fun i=>(Rat.mul_one _).symm,fun h=>absurd rfl h⟩
 ·rw [if_neg z];have h0:cf R (R.length - 1)≠0:=hR.resolve_left z;have e1:1 / cf R (R.length - 1)*cf R (R.length - 1)=1:=Rat.div_mul_cancel h0;have x0:1 / cf R (R.length - 1)≠0:=fun z=>by rw [z,Rat.zero_mul] at e1; exact absurd e1 (by decide)
  have hl:=FI hR x0;refine ⟨rw_trim _,hl,_,_,e1,AW R _,fun _=>⟨?_,rfl⟩⟩;rw [hl,AW,Rat.mul_comm,e1]
noncomputable def AH:List Int->Int->Int
 | [],_=>0
 | c :: cs,x=>c+x*AH cs x
noncomputable def quL (x:Int):List Int->List Int
 | []=>[]
 | d :: ds=>AH (d :: ds) x :: quL x ds
theorem LL (x:Int):∀ cs,(quL x cs).length=cs.length
 | []=>rfl
 | d :: ds=>congrArg (·+1) (LL x ds)
theorem Og (x y c:Int):∀ cs,AH (c :: cs) y - AH (c :: cs) x=(y - x)*AH (quL x cs) y
 | []=>by show c+y*0 - (c+x*0)=(y - x)*0; rw [Int.mul_zero,Int.mul_zero,Int.mul_zero,Int.sub_self]
 | d :: ds=>by
  have ih:=Og x y d ds;show c+y*AH (d :: ds) y - (c+x*AH (d :: ds) x)=(y - x)*(AH (d :: ds) x+y*AH (quL x ds) y);have e:(y - x)*(AH (d :: ds) x+y*AH (quL x ds) y)=(y - x)*AH (d :: ds) x+y*((y - x)*AH (quL x ds) y):=by grind
  rw [e,<- ih]; grind
theorem KL {x:Int} {R B:Nat} (hx:x.natAbs<=R):∀ cs:List Int,(∀ e∈quL x cs,e.natAbs<=B)->(AH cs x).natAbs<=B/\∀ d∈cs,d.natAbs<=(1+R)*B
 | [],_=>⟨Nat.zero_le _,fun d hd=>by cases hd⟩
 | d :: ds,h=>by
  have h0:(AH (d :: ds) x).natAbs<=B:=h _ (.head _);obtain ⟨h1,h2⟩:=KL hx ds fun e he=>h e (.tail _ he);refine ⟨h0,fun e he=>?_⟩;rcases List.mem_cons.mp he with rfl | he
  ·have h3:AH (e :: ds) x=e+x*AH ds x:=rfl;have h4:(x*AH ds x).natAbs<=R*B:=by rw [Int.natAbs_mul]; exact Nat.mul_le_mul hx h1
   rw [Nat.add_mul,Nat.one_mul];exact af9 h3 h0 h4
  ·exact h2 e he
theorem Hg (R:Nat):∀ (n M:Nat) (as xs:List Int),as.length=n->xs.length=n->xs.Nodup->(∀ x∈xs,x.natAbs<=R)->(∀ x∈xs,(AH as x).natAbs<=M)->∀ a∈as,a.natAbs<=M*(2*R+3) ^ n
 | 0,M,as,xs,h1,_,_,_,_,a,ha=>by rw [List.eq_nil_of_length_eq_zero h1] at ha; cases ha
 | n+1,M,[],xs,h1,_,_,_,_,a,ha=>by cases ha
 | n+1,M,c :: cs,[],h1,h2,_,_,_,a,ha=>by cases h2
 | n+1,M,c :: cs,x :: xs,h1,h2,h3,h4,h5,a,ha=>by
  have hx:=h4 x (.head _);have h3':=List.nodup_cons.mp h3;have ih:=Hg R n (2*M) (quL x cs) xs (by rw [LL]; exact Nat.succ.inj h1) (Nat.succ.inj h2) h3'.2 (fun y hy=>h4 y (.tail _ hy)) fun y hy=>by
   have e:=Og x y c cs;have m1:=h5 x (.head _);have m2:=h5 y (.tail _ hy);have ne:y - x≠0:=fun z=>h3'.1 (by rw [show x=y by exact aga z]; exact hy);have e2:((y - x)*AH (quL x cs) y).natAbs<=2*M:=by rw [<- e]; exact agb m2 m1
   rw [Int.natAbs_mul] at e2;exact Nat.le_trans (Nat.le_mul_of_pos_left _ (agc ne)) e2
  obtain ⟨k1,k2⟩:=KL hx cs ih;obtain ⟨K,hK⟩:∃ K,K=(2*R+3) ^ n:=⟨_,rfl⟩;rw [<- hK] at ih k1 k2;have hK1:1<=K:=by rw [hK]; exact Nat.pow_pos (agd)
  have e3:M*(2*R+3) ^ (n+1)=(1+R)*(2*M*K)+M*K:=by
   rw [Nat.pow_succ,<- hK]; grind
  have hMK:M<=M*K:=Nat.le_mul_of_pos_right _ hK1;rcases List.mem_cons.mp ha with rfl | ha
  ·have m1:(AH (a :: cs) x).natAbs<=M:=h5 x (.head _);have m2:AH (a :: cs) x=a+x*AH cs x:=rfl;have m3:(x*AH cs x).natAbs<=R*(2*M*K):=by rw [Int.natAbs_mul]; exact Nat.mul_le_mul hx k1
   rw [e3,Nat.add_mul,Nat.one_mul]; exact age m2 m1 m3 hMK
  ·have:=k2 a ha;rw [e3]; exact agf this
noncomputable def Bq:Nat->(Nat->Int)->List Int
 | 0,_=>[]
 | n+1,a=>a 0 :: Bq n (fun i=>a (i+1))
theorem IO:∀ (n:Nat) (a:Nat->Int),(Bq n a).length=n
 | 0,_=>rfl
 | n+1,a=>congrArg (·+1) (IO n _)
theorem IP:∀ (n:Nat) (a:Nat->Int) (i:Nat),i<n->a i∈Bq n a
 | 0,_,i,h=>absurd h (Nat.not_lt_zero _)
 | n+1,a,0,_=>.head _
 | n+1,a,i+1,h=>.tail _ (IP n (fun i=>a (i+1)) i (agg h))
theorem Oh (u x:Int):∀ (n:Nat) (f g:Nat->Int),AH (Bq n (fun j=>u*f j+g j)) x=u*AH (Bq n f) x+AH (Bq n g) x
 | 0,f,g=>by show (0:Int)=u*0+0; rw [Int.mul_zero,Int.add_zero]
 | n+1,f,g=>by
  show u*f 0+g 0+x*AH (Bq n (fun j=>u*f (j+1)+g (j+1))) x=u*(f 0+x*AH (Bq n fun j=>f (j+1)) x)+(g 0+x*AH (Bq n fun j=>g (j+1)) x);rw [Oh u x n (fun j=>f (j+1)) (fun j=>g (j+1))]; grind
theorem IQ (x:Int):∀ n:Nat,AH (Bq n (fun _=>0)) x=0
 | 0=>rfl
 | n+1=>by show 0+x*AH (Bq n (fun _=>0)) x=0; rw [IQ x n,Int.mul_zero,Int.add_zero]
theorem KM (x:Int):∀ (m:Nat) (f:Nat->Int) (N:Nat),(∀ i,m<=i->f i=0)->m<=N->AH (Bq N f) x=AH (Bq m f) x
 | 0,f,N,h,_=>by rw [show f=fun _=>0 from funext fun i=>h i (Nat.zero_le _),IQ]; rfl
 | m+1,f,0,h,hN=>absurd hN (agh)
 | m+1,f,N+1,h,hN=>by
  show f 0+x*AH (Bq N fun j=>f (j+1)) x=f 0+x*AH (Bq m fun j=>f (j+1)) x;rw [KM x m (fun j=>f (j+1)) N (fun i hi=>h (i+1) (by exact UT hi)) (by exact agi hN)]
theorem Jq (f:Nat->Int):∀ n:Nat,smI f (n+1)=f 0+smI (fun i=>f (i+1)) n
 | 0=>by show 0+f 0=f 0+0; exact agj
 | n+1=>by
  show smI f (n+1)+f (n+1)=f 0+(smI (fun i=>f (i+1)) n+f (n+1));rw [Jq f n,Int.add_assoc]
theorem Qa (a b:Nat->Int) (j:Nat):cvI a b (j+1)=a 0*b (j+1)+cvI (fun i=>a (i+1)) b j:=by
 show smI (fun i=>a i*b (j+1 - i)) (j+1+1)=_;rw [Jq]
 congr 1
 exact Cw fun i _=>by rw [Nat.succ_sub_succ j i]
theorem Oi {b:Nat->Int} {m:Nat} (hb:∀ i,m<=i->b i=0) (x:Int):∀ (n:Nat) (a:Nat->Int) (N:Nat),(∀ i,n<=i->a i=0)->n+m<=N->AH (Bq N (cvI a b)) x=AH (Bq n a) x*AH (Bq m b) x
 | 0,a,N,ha,hN=>by
  have e:cvI a b=fun _=>0:=funext fun j=>by
   unfold cvI;rw [FH (g:=fun _=>0) (fun i=>by rw [ha i (Nat.zero_le _),Int.zero_mul])];have:=Dz (f:=fun _=>0) (n:=0) (m:=j+1) (fun _ _=>rfl);rw [Nat.zero_add] at this;exact this
  rw [e,IQ];exact (Int.zero_mul _).symm
 | n+1,a,0,ha,hN=>absurd hN (agk)
 | n+1,a,N+1,ha,hN=>by
  have e0:cvI a b 0=a 0*b 0:=by show 0+a 0*b (0 - 0)=_; rw [Int.zero_add]
  show cvI a b 0+x*AH (Bq N fun j=>cvI a b (j+1)) x=(a 0+x*AH (Bq n fun j=>a (j+1)) x)*AH (Bq m b) x;rw [show (fun j=>cvI a b (j+1))=fun j=>a 0*b (j+1)+cvI (fun i=>a (i+1)) b j from funext (Qa a b),Oh,Oi hb x n (fun i=>a (i+1)) N (fun i hi=>ha (i+1) (by exact UT hi)) (by exact agl hN),<- KM x m b (N+1) hb (by exact agm hN),e0];show a 0*b 0+x*(a 0*AH (Bq N fun j=>b (j+1)) x+AH (Bq n fun i=>a (i+1)) x*(b 0+x*AH (Bq N fun j=>b (j+1)) x))=(a 0+x*AH (Bq n fun j=>a (j+1)) x)*(b 0+x*AH (Bq N fun j=>b (j+1)) x);grind
theorem RE {B R:Nat} {x:Int} (hx:x.natAbs<=R):∀ (n:Nat) (a:Nat->Int),(∀ i,(a i).natAbs<=B)->(AH (Bq n a) x).natAbs<=B*(R+1) ^ n
 | 0,a,_=>Nat.zero_le _
 | n+1,a,h=>by
  have ih:=RE hx n (fun i=>a (i+1)) fun i=>h (i+1);have h0:=h 0;show (a 0+x*AH (Bq n fun i=>a (i+1)) x).natAbs<=_;have h1:(x*AH (Bq n fun i=>a (i+1)) x).natAbs<=R*(B*(R+1) ^ n):=by rw [Int.natAbs_mul]; exact Nat.mul_le_mul hx ih
  have h2:B<=B*(R+1) ^ n:=Nat.le_mul_of_pos_right _ (Nat.pow_pos (O0));have h3:B*(R+1) ^ (n+1)=R*(B*(R+1) ^ n)+B*(R+1) ^ n:=by rw [Nat.pow_succ]; grind
  rw [h3]; exact agn h0 h1 h2
noncomputable def pts:List Int:=(List.range 35).map fun (i:Nat)=>(i:Int) - 17
theorem pts_nodup:pts.Nodup:=by decide
theorem KN:∀ x∈pts,x.natAbs<=17:=by decide
theorem H3 (f:Int->Bool):∀ l:List Int,(l.filter f).length+(l.filter fun x=>!f x).length=l.length
 | []=>rfl
 | a :: l=>by
  have ih:=H3 f l;rw [List.filter_cons,List.filter_cons,List.length_cons];cases f a with
  | true=>show (a :: l.filter f).length+(l.filter fun x=>!f x).length=_; rw [List.length_cons]; exact ago ih
  | false=>show (l.filter f).length+(a :: l.filter fun x=>!f x).length=_; rw [List.length_cons]; exact agp ih
theorem Ss {P g h:Nat->Int} {n B:Nat} (hn:n<=18) (hP:∀ i,(P i).natAbs<=B) (dP:∀ i,n<=i->P i=0) (P0:∃ i,P i≠0) (dg:∀ i,n<=i->g i=0) {m:Nat} (dh:∀ i,m<=i->h i=0) (e:∀ j,P j=cvI g h j) (i:Nat):(g i).natAbs<=B*18 ^ n*37 ^ n:=by
 obtain ⟨i0,hi0⟩:=P0;have hi0n:i0<n:=by
  by_cases z:i0<n
  ·exact z
  ·exact absurd (dP i0 (CG z)) hi0
 obtain ⟨f,hf⟩:∃ f:Int->Bool,∀ x,f x=!(AH (Bq n P) x==0):=⟨_,fun _=>rfl⟩;have key:n<=(pts.filter f).length:=by
  by_cases z:n<=(pts.filter f).length
  ·exact z
  ·exfalso;have hs:=H3 f pts;have hl:pts.length=35:=rfl;have:=Hg 17 n 0 (Bq n P) ((pts.filter fun x=>!f x).take n) (IO n P) (by rw [List.length_take]; exact agq hs hl hn z) ((pts_nodup.filter _).sublist (List.take_sublist _ _)) (fun x hx=>KN x (List.mem_filter.mp (List.mem_of_mem_take hx)).1) (fun x hx=>by
    have:=(List.mem_filter.mp (List.mem_of_mem_take hx)).2;rw [hf,Bool.not_not,beq_iff_eq] at this;rw [this]; exact Nat.le_refl _) (P i0) (IP n P i0 hi0n)
   rw [Nat.zero_mul] at this;exact agr hi0 this
 by_cases z:i<n
 ·have b:=Hg 17 n (B*18 ^ n) (Bq n g) ((pts.filter f).take n) (IO n g) (by rw [List.length_take]; exact TD key) ((pts_nodup.filter _).sublist (List.take_sublist _ _)) (fun x hx=>KN x (List.mem_filter.mp (List.mem_of_mem_take hx)).1) (fun x hx=>by
   have h1:=List.mem_filter.mp (List.mem_of_mem_take hx);have h2:AH (Bq n P) x≠0:=fun z=>by have h1:=h1.2; rw [hf,z] at h1; cases h1
   have h3:=RE (KN x h1.1) n P hP;have h4:AH (Bq n P) x=AH (Bq n g) x*AH (Bq m h) x:=by
    rw [<- Oi dh x n g (n+m) dg (Nat.le_refl _),<- show P=cvI g h from funext e];exact (KM x n P (n+m) dP (Lv)).symm
   rw [h4] at h2 h3;have h5:AH (Bq m h) x≠0:=fun z=>h2 (by rw [z,Int.mul_zero]);rw [Int.natAbs_mul] at h3;exact Nat.le_trans (Nat.le_mul_of_pos_right _ (ags h5)) h3) (g i) (IP n g i z)
  exact b
 ·rw [dg i (by exact CG z)]; exact Nat.zero_le _
noncomputable def Pr (π:Nat):Prop:=1<π/\∀ d,d∣π->d=1\/d=π
theorem RF:∀ (N n:Nat),n<=N->1<n->∃ π,Pr π/\π∣n
 | 0,n,h,h1=>absurd h1 (agt h)
 | N+1,n,h,h1=>by
  by_cases z:∀ d,d∣n->d=1\/d=n
  ·exact ⟨n,⟨h1,z⟩,Nat.dvd_refl n⟩
  ·obtain ⟨d,hd⟩:=Classical.not_forall.mp z;have hd1:d∣n:=Classical.byContradiction fun q=>hd fun r=>absurd r q;have hd2:d≠1:=fun q=>hd fun _=>.inl q;have hd3:d≠n:=fun q=>hd fun _=>.inr q;have hle:=Nat.le_of_dvd (agu h1) hd1;have h0:d≠0:=fun q=>by subst q; have:=Nat.eq_zero_of_zero_dvd hd1; omega
   refine xq1_2 (RF N d (agv h hle hd3) (agw h0 hd2)) fun π p1 p2=>?_;exact ⟨π,p1,Nat.dvd_trans p2 hd1⟩
theorem Pr.mul {π:Nat} (h:Pr π) {a b:Int} (hab:(π:Int)∣a*b):(π:Int)∣a\/(π:Int)∣b:=by
 rw [<- Int.natAbs_dvd_natAbs,Int.natAbs_mul,Int.natAbs_natCast] at hab;rw [<- Int.natAbs_dvd_natAbs,<- Int.natAbs_dvd_natAbs (b:=b),Int.natAbs_natCast];rcases h.2 _ (Nat.gcd_dvd_left π a.natAbs) with e | e
 ·exact .inr (Nat.Coprime.dvd_of_dvd_mul_left e hab)
 ·exact .inl (e ▸ Nat.gcd_dvd_right π a.natAbs)
theorem sm_dvd {π:Int} {f:Nat->Int} {a:Nat}:∀ n,(∀ i,i<n->i≠a->π∣f i)->π∣smI f n - if a<n then f a else 0
 | 0,_=>by rw [if_neg (Nat.not_lt_zero a)]; show π∣0 - 0; exact Int.dvd_zero π
 | n+1,h=>by
  have ih:=sm_dvd (π:=π) (f:=f) (a:=a) n fun i hi=>h i (JW hi);show π∣smI f n+f n - _
  by_cases z:n=a
  ·subst z;rw [if_neg (Nat.lt_irrefl n)] at ih;rw [if_pos (Nat.lt_succ_self n)];have:smI f n+f n - f n=smI f n - 0:=agx;rw [this]; exact ih
  ·have h1:=h n (QM) z;have e:(if a<n+1 then f a else 0)=if a<n then f a else 0:=by
    by_cases z2:a<n
    ·rw [if_pos z2,if_pos (by exact JW z2)]
    ·rw [if_neg z2,if_neg (by exact TT z z2)]
   rw [e];have:smI f n+f n - (if a<n then f a else 0)=(smI f n - if a<n then f a else 0)+f n:=agy;rw [this]; exact Int.dvd_add ih h1
theorem Na {p:Nat->Prop}:∀ N,(∃ i,i<=N/\p i)->∃ i,p i/\∀ j,j<i->¬ p j
 | 0,⟨i,hi,h⟩=>⟨i,h,fun j hj=>absurd hj (agz hi)⟩
 | N+1,⟨i,hi,h⟩=>by
  by_cases z:∃ j,j<=N/\p j
  ·exact Na N z
  ·exact ⟨i,h,fun j hj q=>z ⟨j,agA hi hj,q⟩⟩
theorem gauss {π:Nat} (hπ:Pr π) {a b:Nat->Int} (h:∀ j,(π:Int)∣cvI a b j):(∀ i,(π:Int)∣a i)\/∀ i,(π:Int)∣b i:=by
 refine Classical.byContradiction fun hn=>?_;have h1:∃ i,¬ (π:Int)∣a i:=Classical.byContradiction fun q=>hn (.inl fun i=>Classical.byContradiction fun r=>q ⟨i,r⟩);have h2:∃ i,¬ (π:Int)∣b i:=Classical.byContradiction fun q=>hn (.inr fun i=>Classical.byContradiction fun r=>q ⟨i,r⟩);obtain ⟨i0,hi0⟩:=h1;obtain ⟨j0,hj0⟩:=h2;refine xq1_2 (Na (p:=fun i=>¬ (π:Int)∣a i) i0 ⟨i0,Nat.le_refl _,hi0⟩) fun i ia ib=>?_;refine xq1_2 (Na (p:=fun i=>¬ (π:Int)∣b i) j0 ⟨j0,Nat.le_refl _,hj0⟩) fun j ja jb=>?_;have k:=sm_dvd (π:=(π:Int)) (f:=fun t=>a t*b (i+j - t)) (a:=i) (i+j+1) (fun t hn ht=>by
  by_cases z:t<i
  ·exact Int.dvd_mul_of_dvd_left (Classical.not_not.mp (ib t z))
  ·by_cases z2:i+j - t<j
   ·exact Int.dvd_mul_of_dvd_right (Classical.not_not.mp (jb _ z2))
   ·exact absurd ht (agB z2 z hn))
 rw [if_pos (by exact Ug),show i+j - i=j by exact F3] at k;have k2:(π:Int)∣a i*b j:=by
  have h3:=h (i+j);have:a i*b j=cvI a b (i+j) - (smI (fun t=>a t*b (i+j - t)) (i+j+1) - a i*b j):=by unfold cvI; exact agC
  rw [this];exact Int.dvd_sub h3 k
 rcases hπ.mul k2 with q | q
 ·exact ia q
 ·exact ja q
noncomputable def Prm (a:Nat->Int):Prop:=∀ π,Pr π->∃ i,¬ (π:Int)∣a i
theorem Oj {k:Nat}:∀ (N:Nat) (a:Nat->Int),(a k).natAbs<=N->a k≠0->∃ (c:Int) (z:Nat->Int),c≠0/\Prm z/\∀ i,a i=c*z i
 | 0,a,h,h0=>absurd h0 (agD h)
 | N+1,a,h,h0=>by
  by_cases z:Prm a
  ·exact ⟨1,a,by decide,z,fun i=>(Int.one_mul _).symm⟩
  ·obtain ⟨π,hπ⟩:=Classical.not_forall.mp z;have p1:Pr π:=Classical.byContradiction fun q=>hπ fun r=>absurd r q;have p2:∀ i,(π:Int)∣a i:=fun i=>Classical.byContradiction fun q=>hπ fun _=>⟨i,q⟩;have e:∀ i,(π:Int)*(a i / (π:Int))=a i:=fun i=>Int.mul_ediv_cancel' (p2 i);have hk:=e k;have hlt:(a k / (π:Int)).natAbs<=N:=by
    have h3:π*(a k / (π:Int)).natAbs=(a k).natAbs:=by rw [<- hk,Int.natAbs_mul,Int.natAbs_natCast,hk]
    have h4:=p1.1;have h5:(a k / (π:Int)).natAbs≠0:=fun q=>by rw [q,Nat.mul_zero] at h3; exact agE h0 h3
    have h6:2*(a k / (π:Int)).natAbs<=π*(a k / (π:Int)).natAbs:=Nat.mul_le_mul_right _ (agF h4);exact agG h3 h h6
   refine xq2_3 (Oj N (fun i=>a i / (π:Int)) hlt (fun q=>h0 (by rw [<- hk,q,Int.mul_zero]))) fun c y c0 hy ey=>?_;refine ⟨π*c,y,Int.mul_ne_zero (by have:=p1.1; exact agH this) c0,hy,fun i=>?_⟩;have:=ey i;rw [<- e i,this,Int.mul_assoc]
theorem Ol {a:NR}:∀ n:Nat,∃ d:Int,d≠0/\∀ i,i<n->∃ z:Int,a i*(d:Rat)=(z:Rat)
 | 0=>⟨1,by decide,fun i hi=>absurd hi (Nat.not_lt_zero _)⟩
 | n+1=>by
  refine xq1_2 (Ol (a:=a) n) fun d d0 hd=>?_;have e:a n*(((a n).den:Int):Rat)=(((a n).num:Int):Rat):=by
   have h:=Rat.num_divInt_den (a n);rw [Rat.divInt_eq_div] at h;have k:=Rat.div_mul_cancel (a:=(((a n).num:Int):Rat)) (cast_ne (Bk (a n)));rw [h] at k;exact k
  refine ⟨d*(a n).den,Int.mul_ne_zero d0 (Bk _),fun i hi=>?_⟩;rcases Nat.lt_succ_iff_lt_or_eq.mp hi with z | z
  ·obtain ⟨y,hy⟩:=hd i z;exact ⟨y*(a n).den,by rw [Rat.intCast_mul,Rat.intCast_mul,<- hy]; grind⟩
  ·subst z;exact ⟨d*(a i).num,by rw [Rat.intCast_mul,Rat.intCast_mul,<- e]; grind⟩
theorem LM {a:NR} {k:Nat} (h0:a k≠0) (hk:Bd (k+1) a):∃ (u:Rat) (z:Nat->Int),u≠0/\Prm z/\∀ i,a i=u*(z i:Rat):=by
 refine xq1_2 (Ol (a:=a) (k+1)) fun d d0 hd=>?_;have all:∀ i,∃ z:Int,a i*(d:Rat)=(z:Rat):=fun i=>by
  by_cases z:i<k+1
  ·exact hd i z
  ·exact ⟨0,by rw [hk i (by exact Pk z),Rat.zero_mul]; rfl⟩
 have hb:∃ b:Nat->Int,∀ i,a i*(d:Rat)=(b i:Rat):=⟨fun i=>(all i).choose,fun i=>(all i).choose_spec⟩;obtain ⟨b,hb⟩:=hb;have dq:(d:Rat)≠0:=cast_ne d0;obtain ⟨c,z,c0,hz,ez⟩:=Oj (k:=k) _ b (Nat.le_refl _) (fun q=>by
  have:=hb k;rw [q] at this;exact (Rat.mul_eq_zero.mp this).elim h0 dq)
 have e1:1 / (d:Rat)*(d:Rat)=1:=Rat.div_mul_cancel dq;refine ⟨(c:Rat)*(1 / (d:Rat)),z,fun q=>?_,hz,fun i=>?_⟩
 ·rcases Rat.mul_eq_zero.mp q with q | q
  ·exact cast_ne c0 q
  ·rw [q,Rat.zero_mul] at e1; exact absurd e1 (by decide)
 ·have h2:=hb i;rw [ez i,Rat.intCast_mul] at h2;have:(c:Rat)*(1 / (d:Rat))*(z i:Rat)=1 / (d:Rat)*((c:Rat)*(z i:Rat)):=by grind
  rw [this,<- h2];have:1 / (d:Rat)*(a i*(d:Rat))=a i*(1 / (d:Rat)*(d:Rat)):=by grind
  rw [this,e1,Rat.mul_one]
theorem KO {p g r:NR} {b n k m:Nat} (hp:RC b p) (hn:n<=18) (dp:Bd n p) (hg0:g k≠0) (dg:Bd (k+1) g) (hr0:r m≠0) (dr:Bd (m+1) r) (e:∀ j,p j=cvn g r j) (hk:k<n):RC (b+11*n) (fun i=>g i*(1 / g k)):=by
 refine xq2_3 (LM hg0 dg) fun u x u0 hx ex=>?_;refine xq2_3 (LM hr0 dr) fun v y v0 hy ey=>?_;refine Am hp fun d P d0 db Pb eP=>?_;have dq:(d:Rat)≠0:=cast_ne d0;obtain ⟨w,hw⟩:∃ w:Rat,w=(d:Rat)*(u*v):=⟨_,rfl⟩;have w0:w≠0:=fun q=>by
  rw [hw] at q;rcases Rat.mul_eq_zero.mp q with q | q
  ·exact dq q
  ·exact (Rat.mul_eq_zero.mp q).elim u0 v0
 have e1:∀ j,(P j:Rat)=w*((cvI x y j:Int):Rat):=fun j=>by
  rw [<- eP j,e j,Ax ex ey,Ai,AN,<- DA,hw]; grind
 have ew:w*((w.den:Int):Rat)=((w.num:Int):Rat):=by
  have h:=Rat.num_divInt_den w;rw [Rat.divInt_eq_div] at h;have k:=Rat.div_mul_cancel (a:=((w.num:Int):Rat)) (cast_ne (Bk w));rw [h] at k;exact k
 have e2:∀ j,(w.den:Int)*P j=w.num*cvI x y j:=fun j=>by
  have:(((w.den:Int)*P j:Int):Rat)=((w.num*cvI x y j:Int):Rat):=by
   rw [Rat.intCast_mul,Rat.intCast_mul,e1 j,<- ew]; grind
  exact Rat.intCast_inj.mp this
 have hden:w.den=1:=by
  refine Classical.byContradiction fun hd=>?_;have hd1:=w.den_pos;refine xq1_2 (RF w.den w.den (Nat.le_refl _) (agI hd hd1)) fun π hπ hdv=>?_;have hnum:¬ (π:Int)∣w.num:=fun q=>by
   have h1:π∣w.num.natAbs:=by rw [<- Int.natAbs_dvd_natAbs,Int.natAbs_natCast] at q; exact q
   have h2:=Nat.dvd_gcd h1 hdv;rw [w.reduced] at h2;exact Nat.not_lt.mpr (Nat.le_of_dvd (by decide) h2) hπ.1
  have hc:∀ j,(π:Int)∣cvI x y j:=fun j=>by
   have h1:(π:Int)∣w.num*cvI x y j:=by
    rw [<- e2 j];exact Int.dvd_mul_of_dvd_left (Int.natCast_dvd_natCast.mpr hdv)
   exact (hπ.mul h1).resolve_left hnum
  rcases gauss hπ hc with q | q
  ·obtain ⟨i,hi⟩:=hx π hπ; exact hi (q i)
  ·obtain ⟨i,hi⟩:=hy π hπ; exact hi (q i)
 have e3:∀ j,P j=cvI x (fun i=>w.num*y i) j:=fun j=>by
  have h1:=e2 j;rw [hden] at h1;have:cvI x (fun i=>w.num*y i) j=w.num*cvI x y j:=by
   have:((cvI x (fun i=>w.num*y i) j:Int):Rat)=((w.num*cvI x y j:Int):Rat):=by
    rw [DA,Rat.intCast_mul,DA,<- AN];exact Ax (fun _=>rfl) (fun i=>Rat.intCast_mul _ _) j
   exact Rat.intCast_inj.mp this
  rw [this,<- h1]; exact (Int.one_mul _).symm
 have z0:∀ {u:Rat} {z:Int},u≠0->u*(z:Rat)=0->z=0:=fun {u z} h1 h2=>Rat.intCast_eq_zero_iff.mp ((Rat.mul_eq_zero.mp h2).resolve_left h1);have dx:∀ i,k+1<=i->x i=0:=fun i hi=>z0 u0 (by rw [<- ex]; exact dg i hi);have dy:∀ i,m+1<=i->y i=0:=fun i hi=>z0 v0 (by rw [<- ey]; exact dr i hi);have dP:∀ i,n<=i->P i=0:=fun i hi=>Rat.intCast_eq_zero_iff.mp (by rw [<- eP,dp i hi,Rat.zero_mul]);have hP0:∃ i,P i≠0:=⟨k+m,fun q=>by
  have:=eP (k+m);rw [q,e,Bu dg dr] at this;rcases Rat.mul_eq_zero.mp this with h | h
  ·exact (Rat.mul_eq_zero.mp h).elim hg0 hr0
  ·exact dq h⟩
 have bd:=Ss (B:=2 ^ b - 1) hn (fun i=>by have:=Pb i; exact agJ this) dP hP0 (fun i hi=>dx i (agK hi hk)) (m:=m+1) (fun i hi=>by rw [dy i hi,Int.mul_zero]) e3;have big:(2 ^ b - 1)*18 ^ n*37 ^ n<2 ^ (b+11*n):=by
  have h1:18 ^ n<=(2 ^ 5) ^ n:=Nat.pow_le_pow_left (by decide) n;have h2:37 ^ n<=(2 ^ 6) ^ n:=Nat.pow_le_pow_left (by decide) n;have h3:2 ^ (b+11*n)=2 ^ b*((2 ^ 5) ^ n*(2 ^ 6) ^ n):=by rw [<- Nat.pow_mul,<- Nat.pow_mul,<- Nat.pow_add,<- Nat.pow_add]; congr 1; exact agL
  have h4:0<2 ^ b:=Nat.pow_pos (by decide);have h5:0<(2 ^ 5) ^ n*(2 ^ 6) ^ n:=Nat.mul_pos (Nat.pow_pos (by decide)) (Nat.pow_pos (by decide));rw [h3,Nat.mul_assoc];refine Nat.lt_of_le_of_lt (Nat.mul_le_mul_left _ (Nat.mul_le_mul h1 h2)) ?_;exact Nat.mul_lt_mul_of_pos_right (TF h4) h5
 have xk:x k≠0:=fun q=>hg0 (by rw [ex,q]; exact Rat.mul_zero u);refine ⟨x k,x,xk,Nat.lt_of_le_of_lt (bd k) big,fun i=>Nat.lt_of_le_of_lt (bd i) big,fun i=>?_⟩;have e5:1 / g k*g k=1:=Rat.div_mul_cancel hg0;have:g i*(1 / g k)*(x k:Rat)=1 / g k*(u*(x k:Rat))*(x i:Rat):=by rw [ex i]; grind
 rw [this,<- ex k,e5,Rat.one_mul]
noncomputable def Df (g a:NR):Prop:=∃ r,Ab r/\a=cvn r g
section
variable {R:Type} [Lean.Grind.CommRing R]
theorem DB (a b c:R):a*b*c=a*(b*c):=by grind
theorem Su {r t g S T p q:R} (hp:p=r*g) (hq:q=t*g):S*p+T*q=(S*r+T*t)*g:=by grind
theorem WM {W b A Rr S T g:R} (hA:A=W*b+Rr) (hg:g=S*b+T*Rr):g=T*A+(S - T*W)*b:=by grind
theorem WN {W b A Rr r t g:R} (hA:A=W*b+Rr) (hb:b=r*g) (hR:Rr=t*g):A=(W*r+t)*g:=by grind
end
theorem CD:Ab one0:=⟨1,fun i hi=>if_neg (G5 hi)⟩
theorem Cg:Ab (fun _=>0):=⟨0,fun _ _=>rfl⟩
theorem BB (g:NR):Df g g:=⟨one0,CD,(funext (Aq g)).symm⟩
theorem IR (g:NR):Df g (fun _=>0):=⟨fun _=>0,Cg,(funext (Ag g)).symm⟩
theorem df_trans {f g a:NR} (h:Df f g) (k:Df g a):Df f a:=by
 refine xq1_2 h fun r fr er=>?_;refine xq1_2 k fun t ft et=>?_;exact ⟨cvn t r,fin_cvn ft fr,by rw [et,er]; exact (@DB NR psRing t r f).symm⟩
theorem GK {g p q S T:NR} (h:Df g p) (k:Df g q) (fS:Ab S) (fT:Ab T):Df g (fun j=>cvn S p j+cvn T q j):=by
 refine xq1_2 h fun r fr er=>?_;refine xq1_2 k fun t ft et=>?_;exact ⟨fun j=>cvn S r j+cvn T t j,Au (fin_cvn fS fr) (fin_cvn fT ft),@Su NR psRing r t g S T p q er et⟩
theorem H4 {b:NR} {m:Nat} (hb0:b m≠0) (db:Bd (m+1) b):∀ (N:Nat) (a:NR),Bd (m+N) a->∃ W R,Bd N W/\Bd m R/\a=fun j=>cvn W b j+R j
 | 0,a,h=>⟨fun _=>0,a,fun _ _=>rfl,h,funext fun j=>by rw [Ag,Rat.zero_add]⟩
 | N+1,a,h=>by
  obtain ⟨t,ht⟩:∃ t,t*b m=a (N+m):=⟨a (N+m) / b m,Rat.div_mul_cancel hb0⟩;obtain ⟨W,R,k1,k2,k3⟩:=H4 hb0 db N (fun j=>a j+if N<=j then -(t*b (j - N)) else 0) (fun j hj=>by
   show a j+(if N<=j then -(t*b (j - N)) else 0)=0;rw [if_pos (by exact F4 hj)]
   by_cases z:j=N+m
   ·subst z; rw [show N+m - N=m by exact F3,ht]; grind
   ·rw [h j (by exact Uj hj z),db _ (by exact Ul hj z),Rat.mul_zero]; grind)
  refine ⟨fun i=>if i=N then t else W i,R,fun i hi=>?_,k2,funext fun j=>?_⟩
  ·show (if i=N then t else W i)=0;rw [if_neg (by exact Um hi)]; exact k1 i (o37 hi)
  ·rw [Od (k1 N (Nat.le_refl _))];have e:=congrFun k3 j;have e:a j+(if N<=j then -(t*b (j - N)) else 0)=cvn W b j+R j:=e
   by_cases z:N<=j
   ·rw [if_pos z] at e ⊢; grind
   ·rw [if_neg z] at e ⊢; grind
theorem H5:∀ (n:Nat) (p q:NR),Ab p->Bd n q->∃ g S T,Ab g/\Ab S/\Ab T/\Df g p/\Df g q/\g=fun j=>cvn S p j+cvn T q j
 | 0,p,q,fp,hq=>⟨p,one0,fun _=>0,fp,CD,Cg,BB p,by rw [show q=fun _=>0 from funext fun i=>hq i (Nat.zero_le _)]; exact IR p,funext fun j=>by rw [Aq,Ag,Rat.add_zero]⟩
 | n+1,p,q,fp,hq=>by
  rcases bd_deg hq with h | ⟨k,hk,h1,h2⟩
  ·exact ⟨p,one0,fun _=>0,fp,CD,Cg,BB p,by rw [show q=fun _=>0 from funext h]; exact IR p,funext fun j=>by rw [Aq,Ag,Rat.add_zero]⟩
  ·obtain ⟨N,bp⟩:=fp;refine xq2_3 (H4 h1 h2 N p (fun i hi=>bp i (F4 hi))) fun W R w1 w2 w3=>?_;refine Ez (H5 n q R ⟨_,h2⟩ (w2.mono (Tk hk))) fun g S T fg fS fT d1 d2 e=>?_;have fW:Ab W:=⟨_,w1⟩;refine ⟨g,T,fun j=>S j - cvn T W j,fg,fT,fin_sub fS (fin_cvn fT fW),?_,d1,@WM NR psRing W q p R S T g w3 e⟩;refine xq1_2 d1 fun r fr er=>?_;refine xq1_2 d2 fun t ft et=>?_;exact ⟨fun j=>cvn W r j+t j,Au (fin_cvn fW fr) ft,@WN NR psRing W q p R r t g w3 er et⟩
noncomputable def Dg (k:Nat) (a:NR):Prop:=a k≠0/\Bd (k+1) a
theorem Dg.fin {k:Nat} {a:NR} (h:Dg k a):Ab a:=⟨_,h.2⟩
theorem Dg.uniq {k l:Nat} {a:NR} (h:Dg k a) (h':Dg l a):k=l:=by
 by_cases z:k<l
 ·exact absurd (h.2 l (JU z)) h'.1
 ·by_cases z2:l<k
  ·exact absurd (h'.2 k (JU z2)) h.1
  ·exact agM z z2
theorem Dg.mul {k l:Nat} {a b:NR} (h:Dg k a) (h':Dg l b):Dg (k+l) (cvn a b):=⟨by
 rw [Bu h.2 h'.2];exact fun z=>(Rat.mul_eq_zero.mp z).elim h.1 h'.1,Ep h.2 h'.2 (agN)⟩
theorem dg_of {a:NR} (f:Ab a):a=(fun _=>0)\/∃ k,Dg k a:=by
 obtain ⟨n,f⟩:=f;rcases bd_deg f with h | ⟨k,_,h1,h2⟩
 ·exact .inl (funext h)
 ·exact .inr ⟨k,h1,h2⟩
theorem Df.deg {g f:NR} {k:Nat} (hf:Dg k f) (fg:Ab g) (h:Df g f):∃ j,j<=k/\Dg j g/\∃ r,Dg (k - j) r/\f=cvn r g:=by
 refine xq1_2 h fun r fr er=>?_;rcases dg_of fg with z | ⟨j,hj⟩
 ·exact absurd (by rw [er,z,Af,Ag]) hf.1
 ·rcases dg_of fr with z | ⟨i,hi⟩
  ·exact absurd (by rw [er,z,Ag]) hf.1
  ·have e:=(hi.mul hj).uniq (er ▸ hf);exact ⟨j,agO e,hj,r,by rw [<- e,Nat.add_sub_cancel]; exact hi,er⟩
theorem DC {a:NR} (h:Dg 0 a):a=fun j=>a 0*one0 j:=funext fun j=>by
 by_cases z:j=0
 ·subst z; show _=a 0*1; rw [Rat.mul_one]
 ·rw [h.2 j (by exact Uh z),show one0 j=0 from if_neg z,Rat.mul_zero]
theorem Cy (x:Rat) (a:NR):cvn (fun j=>x*one0 j) a=fun j=>x*a j:=funext fun j=>by rw [Ai,Aq]
noncomputable def Al (h a:NR):Prop:=∃ s t,Ab s/\Ab t/\one0=fun j=>cvn s h j+cvn t a j
noncomputable def Irr (h:NR):Prop:=(∃ k,1<=k/\Dg k h)/\∀ a,Ab a->Df h a\/Al h a
theorem Irr.fin {h:NR} (i:Irr h):Ab h:=by
 obtain ⟨⟨k,_,hk⟩,_⟩:=i;exact hk.fin
section
variable {R:Type} [Lean.Grind.CommRing R]
theorem Qc {s t h a b r:R} (e:1=s*h+t*a) (k:a*b=r*h):b=(s*b+t*r)*h:=by grind
end
theorem Irr.prime {h a b:NR} (i:Irr h) (fa:Ab a) (fb:Ab b) (k:Df h (cvn a b)):Df h a\/Df h b:=by
 rcases i.2 a fa with d | ⟨s,t,fs,ft,e⟩
 ·exact .inl d
 ·refine xq1_2 k fun r fr er=>?_;rw [<- psNat_one] at e;exact .inr ⟨fun j=>cvn s b j+cvn t r j,Au (fin_cvn fs fb) (fin_cvn ft fr),@Qc NR psRing s t h a b r e er⟩
theorem H6:∀ (n k:Nat) (f:NR),k<=n->1<=k->Dg k f->∃ h,Irr h/\Df h f
 | 0,k,f,h,h1,_=>absurd h1 (agP h)
 | n+1,k,f,hn,h1,hf=>by
  by_cases z:∀ a,Ab a->Df f a\/Al f a
  ·exact ⟨f,⟨⟨k,h1,hf⟩,z⟩,BB f⟩
  ·obtain ⟨a,ha⟩:=Classical.not_forall.mp z;have fa:Ab a:=Classical.byContradiction fun q=>ha fun r=>absurd r q;have nd:¬ Df f a:=fun q=>ha fun _=>.inl q;have nc:¬ Al f a:=fun q=>ha fun _=>.inr q;obtain ⟨N,ba⟩:=id fa;refine Ez (H5 N f a hf.fin ba) fun g S T fg fS fT d1 d2 e=>?_;refine xq1_3 (d1.deg hf fg) fun j hjk hj q160_=>xq1_2 q160_ fun r hr er=>?_
   by_cases j0:j=0
   ·subst j0;exfalso;have g0:=hj.1;have eg:=DC hj;have e1:1 / g 0*g 0=1:=Rat.div_mul_cancel g0;obtain ⟨n1,f1⟩:=fS;obtain ⟨n2,f2⟩:=fT;refine nc ⟨fun i=>1 / g 0*S i,fun i=>1 / g 0*T i,⟨n1,fun i hi=>by show _*S i=0; rw [f1 i hi,Rat.mul_zero]⟩,⟨n2,fun i hi=>by show _*T i=0; rw [f2 i hi,Rat.mul_zero]⟩,funext fun i=>?_⟩;rw [Ai,Ai];have e2:=congrFun e i;have e2:g i=cvn S f i+cvn T a i:=e2;rw [eg] at e2;have e2:g 0*one0 i=cvn S f i+cvn T a i:=e2;have:1 / g 0*cvn S f i+1 / g 0*cvn T a i=1 / g 0*(cvn S f i+cvn T a i):=by grind
    rw [this,<- e2,<- Rat.mul_assoc,e1,Rat.one_mul]
   ·by_cases jk:j=k
    ·exfalso;subst jk;rw [Nat.sub_self] at hr;have r0:=hr.1;have e1:1 / r 0*r 0=1:=Rat.div_mul_cancel r0;have d3:Df f g:=⟨fun i=>1 / r 0*one0 i,⟨1,fun i hi=>by show _*one0 i=0; rw [show one0 i=0 from if_neg (by exact G5 hi),Rat.mul_zero]⟩,by
      rw [Cy,er,(congrArg (fun x=>cvn x g) (DC hr)).trans (Cy _ _)];funext i;show g i=1 / r 0*(r 0*g i);rw [<- Rat.mul_assoc,e1,Rat.one_mul]⟩
     exact nd (df_trans d3 d2)
    ·refine xq1_2 (H6 n j g (agQ hn hjk jk) (JX j0) hj) fun h ih dh=>?_;exact ⟨h,ih,df_trans dh d1⟩
noncomputable def Ac (a:NR) (j:Nat):Rat:=((j+1:Nat):Rat)*a (j+1)
theorem fin_der {a:NR} (h:Ab a):Ab (Ac a):=by
 obtain ⟨n,h⟩:=h;exact ⟨n,fun i hi=>by unfold Ac; rw [h (i+1) (by exact UU hi),Rat.mul_zero]⟩
theorem Qd (x:Rat) (f:NR) (n:Nat):x*sm f n=sm (fun i=>x*f i) n:=(HV x f n).symm
theorem AR (a b:NR):Ac (cvn a b)=fun j=>cvn (Ac a) b j+cvn a (Ac b) j:=by
 funext j;show ((j+1:Nat):Rat)*cvn a b (j+1)=_;have e1:((j+1:Nat):Rat)*cvn a b (j+1)=sm (fun i=>((i:Nat):Rat)*(a i*b (j+1 - i))) (j+1+1)+sm (fun i=>((j+1 - i:Nat):Rat)*(a i*b (j+1 - i))) (j+1+1):=by
  unfold cvn;rw [Qd,<- KF];refine Bs fun i hi=>?_;have:((j+1:Nat):Rat)=((i:Nat):Rat)+((j+1 - i:Nat):Rat):=by
   rw [<- Rat.natCast_add]; congr 1; exact agR hi
  rw [this]; grind
 have e2:sm (fun i=>((i:Nat):Rat)*(a i*b (j+1 - i))) (j+1+1)=cvn (Ac a) b j:=by
  rw [FB];have z:((0:Nat):Rat)*(a 0*b (j+1 - 0))=0:=Rat.zero_mul _;rw [z,Rat.zero_add];unfold cvn Ac;refine Bs fun i hi=>?_;rw [show j+1 - (i+1)=j - i by exact agS]; grind
 have e3:sm (fun i=>((j+1 - i:Nat):Rat)*(a i*b (j+1 - i))) (j+1+1)=cvn a (Ac b) j:=by
  show sm _ (j+1)+((j+1 - (j+1):Nat):Rat)*_=_;rw [Nat.sub_self,show ((0:Nat):Rat)=0 from rfl,Rat.zero_mul,Rat.add_zero];unfold cvn Ac;refine Bs fun i hi=>?_;rw [show j+1 - i=j - i+1 by exact agT hi]; grind
 rw [e1,e2,e3]
theorem fin_pow {a:NR} (h:Ab a):∀ n,Ab (Aa a n)
 | 0=>by show Ab (Aj 1); rw [psNat_one]; exact CD
 | n+1=>fin_cvn (fin_pow h n) h
theorem mult_of {h:NR} (ih:Irr h):∀ (n k:Nat) (f:NR),k<=n->Dg k f->∃ m c,Ab c/\¬ Df h c/\f=cvn (Aa h m) c
 | n,k,f,hn,hf=>by
  by_cases z:Df h f
  ·refine xq1_2 ih.1 fun d hd1 hd=>?_;refine xq1_3 (z.deg hf ih.fin) fun j hj hg q161_=>xq1_2 q161_ fun r hr er=>?_;have hjd:=hg.uniq hd
   match n,hn with
   | 0,hn=>exact absurd hj (agU hjd hd1 hn)
   | n+1,hn =>
    refine xq2_3 (mult_of ih n (k - j) r (agV hjd hd1 hn) hr) fun m c fc nc ec=>?_;refine ⟨m+1,c,fc,nc,?_⟩;rw [er,ec];show cvn (cvn (Aa h m) c) h=cvn (cvn (Aa h m) h) c;funext i;rw [C4,C4];exact Ax (fun _=>rfl) (fun t=>Af c h t) i
  ·exact ⟨0,f,hf.fin,z,by show f=cvn (Aj 1) f; rw [psNat_one]; exact (funext (Aq f)).symm⟩
section
variable {R:Type} [Lean.Grind.CommRing R]
theorem abn {P0 P1 h d N:R} (e:P1=P0*h):N*(P0*d)*h+P1*d=(N+1)*(P1*d):=by grind
theorem abo {P0 P1 h d N c f:R} (e:P1=P0*h):N*(P0*d)*c+P1*f=P0*(N*(d*c)+h*f):=by grind
theorem abp {N d c h f r:R} (e:N*(d*c)+h*f=r*h):N*(d*c)=(r - f)*h:=by grind
theorem abq {L g D l d:R} (e:l*g+L*d=D*g):L*d=(D - l)*g:=by grind
theorem abr {S T L g D W w:R} (e1:W=L*g) (e2:w=D*g) (e3:g=S*W+T*w):g*1=g*(S*L+T*D):=by grind
theorem abt {L P K E Q h c d g:R} (e:L*d=E*g) (eg:g=Q*c) (eQ:Q=P*h) (ed:d=P*K):P*(L*K)=P*(E*c*h):=by grind
theorem abu {L P K E Q h c d g a:R} (e:L*d=E*g) (eg:g=Q*c) (eQ:Q=P*h) (ed:d=P*K) (eL:L=a*h*h):Q*(E*c)=Q*(a*K*h):=by grind
theorem abv {a h b d:R}:b*h+a*h*d=(b+a*d)*h:=by grind
theorem abw {D l r t h:R} (e1:l=r*h) (e2:D - l=t*h):D=(r+t)*h:=by grind
theorem WO {S T L D r t h:R} (e:1=S*L+T*D) (e1:L=r*h) (e2:D=t*h):1=(S*r+T*t)*h:=by grind
theorem WP {a b h d f r:R} (e:b*h+a*d=r*h):d*a=(r - b)*h:=by grind
theorem WQ {a h d E g L:R} (e:L*d=E*g) (eL:L=a*h*h):E*g=a*h*d*h:=by grind
end
theorem BT:Dg 0 one0:=⟨by show (1:Rat)≠0; decide,fun i hi=>if_neg (UV hi)⟩
theorem Az {P x y:NR} {k:Nat} (hP:Dg k P) (fx:Ab x) (fy:Ab y) (e:cvn P x=cvn P y):x=y:=by
 rcases dg_of (fin_sub fx fy) with z | ⟨l,hl⟩
 ·funext j;have:=congrFun z j;have:x j - y j=0:=this;grind
 ·refine absurd ?_ (hP.mul hl).1;have:cvn P (fun j=>x j - y j)=fun j=>cvn P x j - cvn P y j:=funext fun j=>by
   have e1:(fun j=>x j - y j)=fun j=>x j+(-1)*y j:=funext fun j=>by grind
   rw [e1,DT,AN]; grind
  rw [this,e];show cvn P y _ - cvn P y _=0;grind
theorem Om {a:NR} {k:Nat} (h:Dg (k+1) a):Dg k (Ac a):=⟨fun z=>by
 have z:((k+1:Nat):Rat)*a (k+1)=0:=z;rcases Rat.mul_eq_zero.mp z with z | z
 ·exact absurd (Rat.natCast_eq_zero_iff.mp z) (o302)
 ·exact h.1 z,fun i hi=>by show _*a (i+1)=0; rw [h.2 (i+1) (by exact agW hi),Rat.mul_zero]⟩
theorem Irr.not_one {h:NR} (i:Irr h):¬ Df h one0:=fun d=>by
 refine xq1_2 i.1 fun k k1 hk=>?_;refine xq1_3 (d.deg BT hk.fin) fun j hj hg _=>?_;have:=hg.uniq hk;exact Pl this k1 hj
theorem Irr.not_der {h:NR} (i:Irr h):¬ Df h (Ac h):=fun d=>by
 refine xq1_2 i.1 fun k k1 hk=>?_;cases k with
 | zero=>exact agX k1
 | succ k =>
  refine xq1_3 (d.deg (Om hk) hk.fin) fun j hj hg _=>?_;have:=hg.uniq hk;exact agY this hj
theorem Irr.not_nat {h:NR} (i:Irr h) (n:Nat):¬ Df h (Aj (n+1)):=fun d=>by
 refine xq1_2 i.1 fun k k1 hk=>?_;obtain ⟨j,hj,hg,_⟩:=d.deg (k:=0) ⟨fun z=>by
  have z:((n+1:Nat):Rat)=0:=z;exact absurd (Rat.natCast_eq_zero_iff.mp z) (o302),fun i hi=>if_neg (UV hi)⟩ hk.fin
 have:=hg.uniq hk;exact Pl this k1 hj
theorem fin_nat (n:Nat):Ab (Aj n):=⟨1,fun i hi=>if_neg (G5 hi)⟩
theorem GL (h:NR):∀ i,Ac (Aa h (i+1))=cvn (Aj (i+1)) (cvn (Aa h i) (Ac h))
 | 0=>by
  have e:Aa h 1=h:=by show cvn (Aj 1) h=h; rw [psNat_one]; exact funext (Aq h)
  have e2:Aa h 0=one0:=psNat_one;rw [e,e2,psNat_one,funext (Aq _),funext (Aq _)]
 | i+1=>by
  show Ac (cvn (Aa h (i+1)) h)=_;rw [AR,GL h i];have k:=@abn NR psRing (Aa h i) (Aa h (i+1)) h (Ac h) (Aj (i+1)) rfl;have e:Aj (i+1+1)=fun j=>Aj (i+1) j+Aj 1 j:=psRing.ofNat_succ (i+1);rw [e];exact k
theorem Bv {a:NR} (f:Ab a) (h:a≠fun _=>0):∃ k,Dg k a:=(dg_of f).resolve_left h
theorem WR {L:NR} {k:Nat} (hL:Dg k L) (no:∀ h a,Irr h->Ab a->L≠cvn (cvn a h) h):Al L (Ac L):=by
 obtain ⟨N,bL⟩:=fin_der hL.fin;refine Ez (H5 N L (Ac L) hL.fin bL) fun g S T fg fS fT d1 d2 e=>?_;refine xq1_3 (d1.deg hL fg) fun j hj hg q162_=>xq1_2 q162_ fun r hr er=>?_
 by_cases z:j=0
 ·subst z;have e1:1 / g 0*g 0=1:=Rat.div_mul_cancel hg.1;obtain ⟨n1,f1⟩:=fS;obtain ⟨n2,f2⟩:=fT;refine ⟨fun i=>1 / g 0*S i,fun i=>1 / g 0*T i,⟨n1,fun i hi=>by show _*S i=0; rw [f1 i hi,Rat.mul_zero]⟩,⟨n2,fun i hi=>by show _*T i=0; rw [f2 i hi,Rat.mul_zero]⟩,funext fun i=>?_⟩;rw [Ai,Ai];have e2:=congrFun e i;have e2:g i=cvn S L i+cvn T (Ac L) i:=e2;rw [DC hg] at e2;have e2:g 0*one0 i=cvn S L i+cvn T (Ac L) i:=e2;have:1 / g 0*cvn S L i+1 / g 0*cvn T (Ac L) i=1 / g 0*(cvn S L i+cvn T (Ac L) i):=by grind
  rw [this,<- e2,<- Rat.mul_assoc,e1,Rat.one_mul]
 ·exfalso;refine xq1_2 (H6 j j g (Nat.le_refl _) (JX z) hg) fun h ih dh=>?_;refine xq1_2 (df_trans dh d1) fun a fa ea=>?_;refine xq1_2 (df_trans dh d2) fun r fr er=>?_;rw [ea,AR] at er;have k:=@WP NR psRing a (Ac a) h (Ac h) h r er;rcases ih.prime (fin_der ih.fin) fa ⟨_,fin_sub fr (fin_der fa),k⟩ with q | ⟨b,fb,eb⟩
  ·exact ih.not_der q
  ·exact no h b ih fb (ea.trans (by rw [eb]))
theorem yun {w L g D S T:NR} {k:Nat} (hw:Dg k w) (fL:Ab L) (fg:Ab g) (fD:Ab D) (fS:Ab S) (fT:Ab T) (e1:w=cvn L g) (e2:Ac w=cvn D g) (e3:g=fun j=>cvn S w j+cvn T (Ac w) j) :
  (∀ h,Irr h->Df h g->Df h L)/\Al L (Ac L):=by
 refine xq1_3 (Df.deg hw fg ⟨L,fL,e1⟩) fun kg _ hg _=>?_;refine xq1_3 (Df.deg hw fL ⟨g,fg,e1.trans (funext fun j=>Af L g j)⟩) fun kl _ hl _=>?_;have c1:(Aj 1)=fun j=>cvn S L j+cvn T D j:=Az hg (fin_nat 1) (Au (fin_cvn fS fL) (fin_cvn fT fD)) (@abr NR psRing S T L g D w (Ac w) e1 e2 e3);have e4:cvn L (Ac g)=cvn (fun j=>D j - Ac L j) g:=@abq NR psRing L g D (Ac L) (Ac g) (((AR L g).symm.trans (congrArg Ac e1.symm)).trans e2);have fE:Ab (fun j=>D j - Ac L j):=fin_sub fD (fin_der fL);have top:∀ h,Irr h->∀ m c,Ab c->¬ Df h c->g=cvn (Aa h (m+1)) c->∃ K,Ab K/\¬ Df h K/\Ac g=cvn (Aa h m) K:=by
  intro h ih m c fc nc eg;refine ⟨fun j=>cvn (Aj (m+1)) (cvn (Ac h) c) j+cvn h (Ac c) j,Au (fin_cvn (fin_nat _) (fin_cvn (fin_der ih.fin) fc)) (fin_cvn ih.fin (fin_der fc)),fun d=>?_,?_⟩
  ·refine xq1_2 d fun r fr er=>?_;have k:=@abp NR psRing (Aj (m+1)) (Ac h) c h (Ac c) r er;rcases ih.prime (fin_nat _) (fin_cvn (fin_der ih.fin) fc) ⟨_,fin_sub fr (fin_der fc),k⟩ with q | q
   ·exact ih.not_nat m q
   ·rcases ih.prime (fin_der ih.fin) fc q with q | q
    ·exact ih.not_der q
    ·exact nc q
  ·rw [eg,AR,GL];exact @abo NR psRing (Aa h m) (Aa h (m+1)) h (Ac h) (Aj (m+1)) c (Ac c) rfl
 have pw:∀ h,Irr h->∀ m,∃ k,Dg k (Aa h m):=fun h ih m=>by
  refine xq1_2 ih.1 fun d _ hd=>?_
  induction m with
  | zero=>exact ⟨0,by show Dg 0 (Aj 1); rw [psNat_one]; exact BT⟩
  | succ m q =>
   obtain ⟨k,hk⟩:=q;exact ⟨_,hk.mul hd⟩
 constructor
 ·intro h ih dh;refine xq2_3 (mult_of ih kg kg g (Nat.le_refl _) hg) fun m c fc nc eg=>?_;cases m with
  | zero =>
   have:g=c:=by rw [eg]; show cvn (Aj 1) c=c; rw [psNat_one]; exact funext (Aq c)
   exact absurd (this ▸ dh) nc
  | succ m =>
   refine xq1_3 (top h ih m c fc nc eg) fun K fK nK eK=>?_;obtain ⟨kp,hp⟩:=pw h ih m;have k:=Az hp (fin_cvn fL fK) (fin_cvn (fin_cvn fE fc) ih.fin) (@abt NR psRing L (Aa h m) K (fun j=>D j - Ac L j) (Aa h (m+1)) h c (Ac g) g e4 eg rfl eK);exact (ih.prime fL fK ⟨_,fin_cvn fE fc,k⟩).resolve_right nK
 ·refine WR hl fun h a ih fa eL=>?_;have nE:¬ Df h (fun j=>D j - Ac L j):=fun ⟨t,ft,et⟩=>by
   have k:Ac L=cvn (fun j=>Ac (cvn a h) j+cvn a (Ac h) j) h:=by
    rw [eL,AR];exact @abv NR psRing a h (Ac (cvn a h)) (Ac h)
   have k2:=@abw NR psRing D (Ac L) _ t h k et;have k3:=@WO NR psRing S T L D (cvn a h) _ h c1 eL k2;have fr:Ab (fun j=>Ac (cvn a h) j+cvn a (Ac h) j):=Au (fin_der (fin_cvn fa ih.fin)) (fin_cvn fa (fin_der ih.fin));exact ih.not_nat 0 ⟨_,Au (fin_cvn fS (fin_cvn fa ih.fin)) (fin_cvn fT (Au fr ft)),k3⟩
  refine xq2_3 (mult_of ih kg kg g (Nat.le_refl _) hg) fun m c fc nc eg=>?_;cases m with
  | zero =>
   have gc:g=c:=by rw [eg]; show cvn (Aj 1) c=c; rw [psNat_one]; exact funext (Aq c)
   have k:=@WQ NR psRing a h (Ac g) _ g L e4 eL;rcases ih.prime fE fg ⟨_,fin_cvn (fin_cvn fa ih.fin) (fin_der fg),k⟩ with q | q
   ·exact nE q
   ·exact nc (gc ▸ q)
  | succ m =>
   refine xq1_3 (top h ih m c fc nc eg) fun K fK nK eK=>?_;obtain ⟨kp,hp⟩:=pw h ih (m+1);have k:=Az hp (fin_cvn fE fc) (fin_cvn (fin_cvn fa fK) ih.fin) (@abu NR psRing L (Aa h m) K (fun j=>D j - Ac L j) (Aa h (m+1)) h c (Ac g) g a e4 eg rfl eK eL);rcases ih.prime fE fc ⟨_,fin_cvn fa fK,k⟩ with q | q
   ·exact nE q
   ·exact nc q
section
variable {R:Type} [Lean.Grind.CommRing R]
theorem abx {s t a b:R} (e:1=s*a+t*b):1=t*b+s*a:=by grind
theorem aby {s t a b r c:R} (e:1=s*a+t*b) (ea:a=r*c):1=s*r*c+t*b:=by grind
theorem abz {s t a b s' t' c:R} (e:1=s*a+t*b) (e':1=s'*a+t'*c):1=(s*s'*a+s*t'*c+t*s'*b)*a+t*t'*(b*c):=by grind
theorem abA {s t A B L a b:R} (e:1=s*L+t*(b*A+B*a)) (eL:L=B*A):1=(s*B+t*b)*A+t*a*B:=by grind
theorem abB {s t A B L a b:R} (e:1=s*L+t*(b*A+B*a)) (eL:L=B*A):1=(s*B+t*b)*A+t*B*a:=by grind
theorem abC {s t A L M r q:R} (e:A=s*L+t*M) (e1:L=r*A) (e2:M=q*A):A*1=A*(s*r+t*q):=by grind
theorem RG {a b c:R}:a*b*c=a*c*b:=by grind
theorem On {X Y B A:R}:X*B*(Y*A)=X*Y*(B*A):=by grind
end
theorem Ao {a b:NR} (h:Al a b):Al b a:=by
 refine xq2_3 h fun s t fs ft e=>?_;rw [<- psNat_one] at e;exact ⟨t,s,ft,fs,psNat_one.symm.trans (@abx NR psRing s t a b e)⟩
theorem BU {a b c:NR} (h:Al a b) (d:Df c a):Al c b:=by
 refine xq2_3 h fun s t fs ft e=>?_;refine xq1_2 d fun r fr er=>?_;rw [<- psNat_one] at e;exact ⟨cvn s r,t,fin_cvn fs fr,ft,psNat_one.symm.trans (@aby NR psRing s t a b r c e er)⟩
theorem C7 {a b c:NR} (fa:Ab a) (fb:Ab b) (fc:Ab c) (h:Al a b) (k:Al a c):Al a (cvn b c):=by
 refine xq2_3 h fun s t fs ft e=>?_;refine xq2_3 k fun s' t' fs' ft' e'=>?_;rw [<- psNat_one] at e e';exact ⟨fun j=>cvn (cvn s s') a j+cvn (cvn s t') c j+cvn (cvn t s') b j,cvn t t',Au (Au (fin_cvn (fin_cvn fs fs') fa) (fin_cvn (fin_cvn fs ft') fc)) (fin_cvn (fin_cvn ft fs') fb),fin_cvn ft ft',psNat_one.symm.trans (@abz NR psRing s t a b s' t' c e e')⟩
theorem Cm {a:NR}:Al a one0:=⟨fun _=>0,one0,Cg,CD,funext fun j=>by rw [Ag,Aq,Rat.zero_add]⟩
theorem DD {a b:NR} (fa:Ab a) (fb:Ab b) (h:Al a b):∀ n,Al a (Aa b n)
 | 0=>by show Al a (Aj 1); rw [psNat_one]; exact Cm
 | n+1=>C7 fa (fin_pow fb n) fb (DD fa fb h n) h
theorem CE {a b:NR} {k:Nat} (h:Al a b) (ha:Dg k a) (hk:1<=k):¬ Df a b:=fun ⟨r,fr,er⟩=>by
 refine xq2_3 h fun s t fs ft e=>?_;have d:Df a one0:=e ▸ GK (BB a) ⟨r,fr,er⟩ fs ft;refine xq1_3 (d.deg BT ha.fin) fun j hj hg _=>?_;have:=hg.uniq ha;exact Pl this hk hj
theorem IS {L A B:NR} (fA:Ab A) (fB:Ab B) (h:Al L (Ac L)) (eL:L=cvn B A):Al A B/\Al A (Ac A):=by
 refine xq2_3 h fun s t fs ft e=>?_;rw [<- psNat_one,show Ac L=fun j=>cvn (Ac B) A j+cvn B (Ac A) j by rw [eL,AR]] at e;exact ⟨⟨fun j=>cvn s B j+cvn t (Ac B) j,cvn t (Ac A),Au (fin_cvn fs fB) (fin_cvn ft (fin_der fB)),fin_cvn ft (fin_der fA),psNat_one.symm.trans (@abA NR psRing s t A B L (Ac A) (Ac B) e eL)⟩,
  ⟨fun j=>cvn s B j+cvn t (Ac B) j,cvn t B,Au (fin_cvn fs fB) (fin_cvn ft (fin_der fB)),fin_cvn ft fB,psNat_one.symm.trans (@abB NR psRing s t A B L (Ac A) (Ac B) e eL)⟩⟩
theorem LO {A L M r q s t:NR} {k:Nat} (hA:Dg k A) (fr:Ab r) (fq:Ab q) (fs:Ab s) (ft:Ab t) (e:A=fun j=>cvn s L j+cvn t M j) (e1:L=cvn r A) (e2:M=cvn q A):Al r q :=
 ⟨s,t,fs,ft,psNat_one.symm.trans (Az hA (fin_nat 1) (Au (fin_cvn fs fr) (fin_cvn ft fq)) (@abC NR psRing s t A L M r q e e1 e2))⟩
noncomputable def Ad (xs:List (LR×Nat)):NR:=xs.foldl (fun a x=>cvn a (Aa (cf x.1) x.2)) one0
theorem EK:Ad []=one0:=rfl
theorem AB (xs:List (LR×Nat)) (x:LR×Nat):Ad (xs ++ [x])=cvn (Ad xs) (Aa (cf x.1) x.2):=by
 unfold Ad;rw [List.foldl_append];rfl
theorem BL {α:Type} {p:List α->Prop} (h0:p []) (h:∀ xs x,p xs->p (xs ++ [x])) (xs:List α):p xs:=by
 rw [<- List.reverse_reverse xs]
 induction xs.reverse with
 | nil=>exact h0
 | cons x l ih=>rw [List.reverse_cons]; exact h _ _ ih
theorem fin_prod (xs:List (LR×Nat)):Ab (Ad xs):=by
 refine BL (p:=fun xs=>Ab (Ad xs)) CD (fun xs x h=>?_) xs;rw [AB];exact fin_cvn h (fin_pow (fin_cf _) _)
theorem BZ {a:NR} (fa:Ab a) (xs:List (LR×Nat)):(∀ x∈xs,Al a (cf x.1))->Al a (Ad xs):=by
 refine BL (p:=fun xs=>(∀ x∈xs,Al a (cf x.1))->Al a (Ad xs)) (fun _=>Cm) (fun xs x h k=>?_) xs;rw [AB];exact C7 fa (fin_prod xs) (fin_pow (fin_cf _) _) (h fun y hy=>k y (List.mem_append_left _ hy)) (DD fa (fin_cf _) (k x (List.mem_append_right _ (List.mem_singleton.mpr rfl))) _)
theorem BF {a b:NR} (fb:Ab b):Df a (cvn a b):=⟨b,fb,funext fun j=>Af a b j⟩
theorem BM {a b:NR} (fa:Ab a):Df b (cvn a b):=⟨a,fa,rfl⟩
theorem Sv {ys:List (LR×Nat)} (xs:List (LR×Nat)):Df (Ad ys) (Ad (ys ++ xs)):=by
 refine BL (p:=fun xs=>Df (Ad ys) (Ad (ys ++ xs))) (by rw [List.append_nil]; exact BB _) (fun xs x h=>?_) xs;rw [<- List.append_assoc,AB];exact df_trans h (BF (fin_pow (fin_cf _) _))
theorem Gg {xs:List (LR×Nat)} {x:LR×Nat} (h:x∈xs):Df (Aa (cf x.1) x.2) (Ad xs):=by
 refine DG (List.append_of_mem h) fun s t e=>?_;have:xs=(s ++ [x]) ++ t:=by rw [e]; simp
 rw [this];refine df_trans ?_ (Sv t);rw [AB];exact BM (fin_prod s)
theorem CM {a:NR} (fa:Ab a) {n:Nat} (h:1<=n):Df a (Aa a n):=by
 cases n with
 | zero=>omega
 | succ n=>exact BM (fin_pow fa n)
theorem Hi:∀ n,Aa one0 n=one0
 | 0=>psNat_one
 | n+1=>by show cvn (Aa one0 n) one0=_; rw [Hi n]; exact funext (Aq _)
theorem KP (a b:NR):∀ n,Aa (cvn a b) n=cvn (Aa a n) (Aa b n)
 | 0=>by show Aj 1=cvn (Aj 1) (Aj 1); rw [psNat_one]; exact (funext (Aq _)).symm
 | n+1=>by
  show cvn (Aa (cvn a b) n) (cvn a b)=cvn (cvn (Aa a n) a) (cvn (Aa b n) b);rw [KP a b n];exact (@On NR psRing (Aa a n) (Aa b n) a b).symm
noncomputable def Oo:List Int->List Int->Prop
 | a :: as,b :: bs=>a<b\/(a=b/\Oo as bs)
 | _,_=>False
open Classical in
noncomputable def am6 (p t:LR):Int:=if Df (cf p) (cf t) then 0 else 1
noncomputable def Gh (ts:List LR) (x:LR×Nat):List Int:=(x.2:Int) :: ts.map (am6 x.1)
noncomputable def OneP (ts:List LR) (x:LR×Nat):Prop :=
 Rw x.1/\
 2<=x.1.length/\
 cf x.1 (x.1.length - 1)=1/\
 1<=x.2/\
 Al (cf x.1) (Ac (cf x.1))/\
 ∀ t∈ts,Df (cf x.1) (cf t)\/Al (cf x.1) (cf t)
section
variable {ts:List LR} {x:LR×Nat} (h_:OneP ts x)
def OneP.w:=h_.1
def OneP.l:=h_.2.1
def OneP.m:=h_.2.2.1
def OneP.k:=h_.2.2.2.1
def OneP.s:=h_.2.2.2.2.1
def OneP.t:=h_.2.2.2.2.2
end
theorem Nb {p:LR} (w:Rw p) (h:p≠[]):Dg (p.length - 1) (cf p):=by
 have:1<=p.length:=List.length_pos_iff.mpr h;exact ⟨w.resolve_left h,fun i hi=>An (Ik hi)⟩
theorem Jr {p:LR} {n:Nat} (h:n+1<=p.length):p≠[]:=fun z=>by rw [z] at h; exact absurd h (by simp)
theorem OneP.dg {ts:List LR} {x:LR×Nat} (h:OneP ts x):Dg (x.1.length - 1) (cf x.1):=Nb h.w (Jr h.l)
noncomputable def PtOK (w:NR) (ts:List LR) (xs:List (LR×Nat)):Prop :=
 (∀ x∈xs,OneP ts x)/\
 (xs.Pairwise fun x y=>Al (cf x.1) (cf y.1)/\Oo (Gh ts x) (Gh ts y))/\
 w=Ad xs
section
variable {w:NR} {ts:List LR} {xs:List (LR×Nat)} (h_:PtOK w ts xs)
def PtOK.one:=h_.1
def PtOK.pw:=h_.2.1
def PtOK.pr:=h_.2.2
end
section
variable {R:Type} [Lean.Grind.CommRing R]
theorem abD {X Y Z A N:R}:X*(Y*Z)*(N*A)=X*Y*(Z*A)*N:=by grind
theorem RH {X Y Z:R}:X*(Y*Z)=X*Z*Y:=by grind
end
noncomputable def Mon (p:LR):Prop :=
 Rw p/\
 p≠[]/\
 cf p (p.length - 1)=1
section
variable {p:LR} (h_:Mon p)
def Mon.w:=h_.1
def Mon.n:=h_.2.1
def Mon.m:=h_.2.2
end
theorem Mon.dg {p:LR} (h:Mon p):Dg (p.length - 1) (cf p):=Nb h.w h.n
theorem Mon.pos {p:LR} (h:Mon p):1<=p.length:=List.length_pos_iff.mpr h.n
theorem Mon.one {p:LR} (h:Mon p) (l:p.length<=1):cf p=one0:=by
 have l1:p.length=1:=Nat.le_antisymm l h.pos;have m:=h.m;rw [l1] at m;have d:=h.dg;rw [l1] at d;rw [DC d,show cf p 0=1 from m];funext j;exact Rat.one_mul _
theorem OneP.mon {ts:List LR} {x:LR×Nat} (h:OneP ts x):Mon x.1:=⟨h.w,Jr h.l,h.m⟩
noncomputable def PwI (w:NR) (L M:LR) (k:Nat) (xs:List (LR×Nat)):Prop :=
 Mon L/\
 Mon M/\
 1<=k/\
 w=cvn (cvn (Ad xs) (Aa (cf L) k)) (cf M)/\
 Al (cf L) (Ac (cf L))/\
 (∀ h,Irr h->Df h (cf M)->Df h (cf L))/\
 (∀ x∈xs,OneP [] x/\x.2<k/\Al (cf x.1) (cf L))/\
 (xs.Pairwise fun x y=>Al (cf x.1) (cf y.1)/\Oo (Gh [] x) (Gh [] y))
section
variable {w:NR} {L M:LR} {k:Nat} {xs:List (LR×Nat)} (h_:PwI w L M k xs)
def PwI.mL:=h_.1
def PwI.mM:=h_.2.1
def PwI.k1:=h_.2.2.1
def PwI.e:=h_.2.2.2.1
def PwI.s:=h_.2.2.2.2.1
def PwI.h:=h_.2.2.2.2.2.1
def PwI.one:=h_.2.2.2.2.2.2.1
def PwI.pw:=h_.2.2.2.2.2.2.2
end
theorem PwI.start {W V G L S T:LR} (hW:Mon W) (hG:Mon G) (hL:Mon L) (eV:cf V=Ac (cf W)) (dV:Df (cf G) (cf V)) (eG:∀ j,cf G j=cvn (cf S) (cf W) j+cvn (cf T) (cf V) j) (e:cf W=cvn (cf L) (cf G)):PwI (cf W) L G 1 []:=by
 refine xq1_2 dV fun D fD eD=>?_;rw [eV] at eD;have y:=yun hW.dg (fin_cf L) (fin_cf G) fD (fin_cf S) (fin_cf T) e eD (by rw [<- eV]; exact funext eG);refine ⟨hL,hG,Nat.le_refl _,?_,y.2,y.1,fun x h=>absurd h (List.not_mem_nil),.nil⟩;have:Aa (cf L) 1=cf L:=by show cvn (Aj 1) (cf L)=_; rw [psNat_one]; exact funext (Aq _)
 rw [this,EK,funext (Aq (cf L)),e]
theorem PwI.step {w:NR} {L M A B N S T:LR} {k:Nat} {xs:List (LR×Nat)} (I:PwI w L M k xs) (hA:Mon A) (hB:Mon B) (hN:Mon N) (eA:∀ j,cf A j=cvn (cf S) (cf L) j+cvn (cf T) (cf M) j) (eL:cf L=cvn (cf B) (cf A)) (eM:cf M=cvn (cf N) (cf A)) :
  PwI w A N (k+1) (if 1<B.length then xs ++ [(B,k)] else xs):=by
 have eL':cf L=cvn (cf A) (cf B):=eL.trans (funext fun j=>Af _ _ j);have fA:=IS (fin_cf A) (fin_cf B) I.s eL;have fB:=IS (fin_cf B) (fin_cf A) I.s eL';have dA:Df (cf A) (cf L):=⟨_,fin_cf B,eL⟩;have dB:Df (cf B) (cf L):=⟨_,fin_cf A,eL'⟩;have h2:∀ h,Irr h->Df h (cf N)->Df h (cf A):=fun h ih d=>by
  have d1:Df h (cf M):=by rw [eM]; exact df_trans d (BF (fin_cf A))
  rw [funext eA];exact GK (I.h h ih d1) d1 (fin_cf S) (fin_cf T)
 have e2:w=cvn (cvn (cvn (Ad xs) (Aa (cf B) k)) (Aa (cf A) (k+1))) (cf N):=by
  rw [I.e,eL,KP,eM];exact @abD NR psRing (Ad xs) (Aa (cf B) k) (Aa (cf A) k) (cf A) (cf N)
 have o2:∀ x∈xs,OneP [] x/\x.2<k+1/\Al (cf x.1) (cf A):=fun x hx=>by
  refine AI (I.one x hx) fun a b c=>?_;exact ⟨a,Nat.lt_succ_of_lt b,Ao (BU (Ao c) dA)⟩
 by_cases z:1<B.length
 ·rw [if_pos z];refine ⟨hA,hN,Nat.le_add_left _ _,by rw [AB]; exact e2,fA.2,h2,fun x hx=>?_,?_⟩
  ·rcases List.mem_append.mp hx with hx | hx
   ·exact o2 x hx
   ·rw [List.mem_singleton.mp hx];exact ⟨⟨hB.w,z,hB.m,I.k1,fB.2,fun t ht=>absurd ht List.not_mem_nil⟩,Nat.lt_succ_self _,fB.1⟩
  ·refine List.pairwise_append.mpr ⟨I.pw,List.pairwise_singleton _ _,fun x hx y hy=>?_⟩;rw [List.mem_singleton.mp hy];refine AI (I.one x hx) fun a b c=>?_;exact ⟨Ao (BU (Ao c) dB),.inl (Int.ofNat_lt.mpr b)⟩
 ·rw [if_neg z];refine ⟨hA,hN,Nat.le_add_left _ _,?_,fA.2,h2,o2,I.pw⟩;have:cvn (Ad xs) (Aa (cf B) k)=Ad xs:=by
   rw [hB.one (Nat.le_of_not_lt z),Hi];exact funext fun j=>(Af _ _ j).trans (Aq _ j)
  rw [this] at e2;exact e2
theorem PwI.stop {w:NR} {L M:LR} {k:Nat} {xs:List (LR×Nat)} (I:PwI w L M k xs) (l:L.length<=1):PtOK w [] xs:=by
 have e1:=I.mL.one l;have e2:cf M=one0:=I.mM.one (Classical.byContradiction fun z=>by
  refine xq1_2 (H6 _ _ _ (Nat.le_refl _) (agZ z) I.mM.dg) fun h ih dh=>?_;have:=I.h h ih dh;rw [e1] at this;exact ih.not_one this)
 refine ⟨fun x hx=>(I.one x hx).1,I.pw,?_⟩;rw [I.e,e1,e2,Hi];exact funext fun j=>by rw [Af,Aq,Af,Aq]
theorem PwI.less {w:NR} {L M A B N:LR} {k:Nat} {xs:List (LR×Nat)} (hA:Mon A) (hM:Mon M) (hN:Mon N) (eM:cf M=cvn (cf N) (cf A)):N.length+A.length=M.length+1:=by
 have:=(hN.dg.mul hA.dg).uniq (eM ▸ hM.dg);have a:=hA.pos;have b:=hM.pos;have c:=hN.pos;exact ag0 this c a b
theorem KQ {b:Nat} {p:LR} (h:RC b (cf p)) (l:p.length<=31):RC (b+5) (Ac (cf p)):=by
 refine Am h fun d z h1 h2 h3 h4=>?_;refine ⟨d,fun i=>((i+1:Nat):Int)*z (i+1),h1,Nat.lt_of_lt_of_le h2 (Nat.pow_le_pow_right (by decide) (Nat.le_add_right _ _)),fun i=>?_,fun i=>?_⟩
 ·by_cases c:i+1<32
  ·have e1:2 ^ (b+5)=32*2 ^ b:=by rw [Nat.pow_add,Nat.mul_comm]
   rw [Int.natAbs_mul,e1];show (i+1)*(z (i+1)).natAbs<_;exact Nat.lt_of_le_of_lt (Nat.mul_le_mul (Nat.le_of_lt c) (Nat.le_refl _)) (Nat.mul_lt_mul_of_pos_left (h3 _) (by decide))
  ·have e1:=h4 (i+1);rw [An (by exact ag1 l c),Rat.zero_mul] at e1;have e2:z (i+1)=0:=Rat.intCast_eq_zero_iff.mp e1.symm;show (((i+1:Nat):Int)*z (i+1)).natAbs<_;rw [e2,Int.mul_zero];exact Nat.pow_pos (by decide)
 ·show ((i+1:Nat):Rat)*cf p (i+1)*(d:Rat)=_;rw [Rat.mul_assoc,h4,Rat.intCast_mul];rfl
theorem B7 {w:NR} {p:LR} {k:Nat} (hw:Dg k w) (hp:Mon p) (d:Df (cf p) w):p.length<=k+1:=by
 refine xq1_3 (d.deg hw (fin_cf p)) fun j h1 h2 _=>?_;have m1:=h2.uniq hp.dg;have m2:=hp.pos;exact ag2 m1 h1
theorem IU {w:NR} {p:LR} {k β:Nat} (hw:Dg k w) (hk:k<=17) (kw:RC β w) (hp:Mon p) (d:Df (cf p) w):p.length<=k+1/\RC (β+11*(k+1)) (cf p):=by
 refine ⟨B7 hw hp d,?_⟩;refine xq1_3 (d.deg hw (fin_cf p)) fun j h1 h2 q163_=>xq1_2 q163_ fun r hr er=>?_;have e:=h2.uniq hp.dg;have k:=KO kw (n:=k+1) (UW hk) hw.2 h2.1 h2.2 hr.1 hr.2 (fun j=>by rw [er,Af]) (O8 h1);refine k.cong fun i=>?_;rw [e,hp.m,show (1:Rat) / 1=1 by decide +kernel,Rat.mul_one]
theorem KR {p:LR} {b:Nat} (w:Rw p) (p0:p≠[]) (kp:RC b (cf p)):Mon (Cq p)/\RC b (cf (Cq p))/\(Cq p).length=p.length/\∀ i,cf (Cq p) i*cf p (p.length - 1)=cf p i:=by
 refine AI (Of w) fun h1 h2 q164_=>xq2_3 q164_ fun x y h3 h4 h5=>?_;obtain ⟨h6,h7⟩:=h5 p0;have n0:Cq p≠[]:=fun z=>by
  have:(Cq p).length=0:=by rw [z]; rfl
  rw [h2] at this;exact p0 (List.eq_nil_of_length_eq_zero this)
 have l0:cf p (p.length - 1)≠0:=w.resolve_left p0;refine ⟨⟨h1,n0,h6⟩,?_,h2,fun i=>?_⟩
 ·refine (kp.monic (n:=p.length - 1) l0).cong fun i=>?_;rw [h4 i,h7]
 ·rw [h4 i,h7,Rat.mul_assoc,Rat.div_mul_cancel l0,Rat.mul_one]
theorem PwI.facs {w:NR} {L M:LR} {k:Nat} {xs:List (LR×Nat)} (I:PwI w L M k xs):Df (cf L) w/\Df (cf M) w/\Df (Ad xs) w:=by
 have h3:Df (cvn (Ad xs) (Aa (cf L) k)) w:=I.e ▸ BF (fin_cf M);exact ⟨df_trans (CM (fin_cf L) I.k1) (df_trans (BM (fin_prod xs)) h3),I.e ▸ BM (fin_cvn (fin_prod xs) (fin_pow (fin_cf L) k)),df_trans (BF (fin_pow (fin_cf L) k)) h3⟩
theorem H7 {a:NR} {k:Nat} (h:Dg k a) (hk:1<=k):∀ n,∃ j,n<=j/\Dg j (Aa a n)
 | 0=>⟨0,Nat.le_refl _,by show Dg 0 (Aj 1); rw [psNat_one]; exact BT⟩
 | n+1=>by
  refine xq1_2 (H7 h hk n) fun j hj h2=>?_;exact ⟨j+k,ag3 hk hj,h2.mul h⟩
theorem LP {ts:List LR} (xs:List (LR×Nat)):(∀ x∈xs,OneP ts x)->∃ K,xs.length<=K/\Dg K (Ad xs):=by
 refine BL (p:=fun xs=>(∀ x∈xs,OneP ts x)->∃ K,xs.length<=K/\Dg K (Ad xs)) (fun _=>⟨0,Nat.le_refl _,BT⟩) (fun xs x ih h=>?_) xs;refine xq1_2 (ih fun y hy=>h y (List.mem_append_left _ hy)) fun K h1 h2=>?_;have hx:=h x (List.mem_append_right _ (List.mem_singleton.mpr rfl));refine xq1_2 (H7 hx.dg (by have:=hx.l; exact Fq this) x.2) fun j h3 h4=>?_;have:=hx.k;rw [AB];exact ⟨K+j,by rw [List.length_append]; show xs.length+1<=_; exact ag4 this h3 h1,h2.mul h4⟩
theorem Op {w:NR} {k:Nat} {ts:List LR} {xs:List (LR×Nat)} (hw:Dg k w) (h:∀ x∈xs,OneP ts x) (d:Df (Ad xs) w):xs.length<=k:=by
 refine xq1_2 (LP xs h) fun K h1 h2=>?_;refine xq1_3 (d.deg hw h2.fin) fun j h3 h4 _=>?_;have:=h4.uniq h2;exact ag5 this h3 h1
theorem PtOK.df {w:NR} {ts:List LR} {xs:List (LR×Nat)} (h:PtOK w ts xs) {x:LR×Nat} (hx:x∈xs):Df (cf x.1) w:=by
 rw [h.pr];exact df_trans (CM (fin_cf _) (h.one x hx).k) (Gg hx)
theorem PtOK.len {w:NR} {k:Nat} {ts:List LR} {xs:List (LR×Nat)} (hw:Dg k w) (h:PtOK w ts xs):xs.length<=k:=Op hw h.one (by rw [h.pr]; exact BB _)
noncomputable def Nc:List S:=[
  .ret (.call "scaled" [.var 0,.call "part_of" [.tup [.cint 1,.cint 1],.idx (.var 0) (.neg (.cint 1))]])]
noncomputable def KS:List S:=[.assign 5 (.bin .Add (.var 5) (.cint 1)),.assign 3 (.var 6),.assign 2 (.idx (.call "parted" [.var 2,.var 6]) (.cint 0))]
noncomputable def Os:List S:=(.assign 6 (.idx (.call "shared" [.var 3,.var 2]) (.cint 0))) :: (.assign 7 (.idx (.call "parted" [.var 3,.var 6]) (.cint 0))) :: (.ifs (.cmp .Gt (.blt .len [.var 7]) (.cint 1)) [.expr (.append (.var 4) (.tup [.var 7,.var 5]))] []) :: KS
noncomputable def ET:List S:=[
  .assign 1 (.call "led" [.var 0]),
  .assign 2 (.idx (.call "shared" [.var 1,.call "rate_of" [.var 1]]) (.cint 0)),
  .assign 3 (.idx (.call "parted" [.var 1,.var 2]) (.cint 0)),
  .assign 4 (.lst []),
  .assign 5 (.cint 1),
  .whiles (.cmp .Gt (.blt .len [.var 3]) (.cint 1)) Os,
  .ret (.var 4)]
noncomputable def Nd:List S:=[
  .assign 2 (.call "by_powers" [.var 0]),
  .fors [3] true .plain [.var 1] [.assign 2 (.call "cut_by" [.var 2,.var 3])],
  .ret (.var 2)]
theorem GM {p G W R:LR} {a b:Nat} (wp:Rw p) (hG:G≠[]) (wG:Rw G) (hD:Fa a b p G W R) (hd:Dv G (cf p)):(∀ j,cf p j=cvn (cf (trimL W)) (cf G) j)/\(p=[]->trimL W=[])/\(p≠[]->trimL W≠[]/\(trimL W).length+G.length=p.length+1/\cf p (p.length - 1)=cf (trimL W) ((trimL W).length - 1)*cf G (G.length - 1)):=by
 refine AO hD fun hE hR0 kW kR lW=>?_;have hG1:1<=G.length:=List.length_pos_iff.mpr hG;have hG0:cf G (G.length - 1)≠0:=wG.resolve_left hG;have dG:Bd (G.length - 1+1) (cf G):=fun i hi=>An (Ik hi);refine xq1_2 hd fun r fr er=>?_;have e1:=C5 hG0 dG (fin_cf W) fr (R:=cf R) (R':=fun _=>0) hR0 (fun _ _=>rfl) fun j=>by rw [<- Ar,<- hE j,er j,Rat.add_zero]
 have e2:∀ j,cf p j=cvn (cf (trimL W)) (cf G) j:=fun j=>by
  rw [er j];exact Ax (fun i=>by rw [Ak,e1.1 i]) (fun _=>rfl) j
 have wW:=rw_trim W;have key:trimL W≠[]->cf p ((trimL W).length - 1+(G.length - 1))≠0/\(∀ j,(trimL W).length - 1+(G.length - 1)+1<=j->cf p j=0)/\cf p ((trimL W).length - 1+(G.length - 1))=cf (trimL W) ((trimL W).length - 1)*cf G (G.length - 1):=fun hW=>by
  have hW1:1<=(trimL W).length:=List.length_pos_iff.mpr hW;have dW:Bd ((trimL W).length - 1+1) (cf (trimL W)):=fun i hi=>An (Ik hi);have e3:cf p ((trimL W).length - 1+(G.length - 1))=cf (trimL W) ((trimL W).length - 1)*cf G (G.length - 1):=by rw [e2,Bu dW dG]
  refine ⟨fun z=>?_,fun j hj=>?_,e3⟩
  ·rw [e3] at z;exact (Rat.mul_eq_zero.mp z).elim (wW.resolve_left hW) hG0
  ·rw [e2]; exact Ep dW dG (k:=(trimL W).length - 1+(G.length - 1)+1) (ag6) j hj
 refine ⟨e2,fun hp=>?_,fun hp=>?_⟩
 ·refine Classical.byContradiction fun hW=>(key hW).1 ?_;rw [hp]; rfl
 ·have h0:cf p (p.length - 1)≠0:=wp.resolve_left hp;have hp1:1<=p.length:=List.length_pos_iff.mpr hp;have hW:trimL W≠[]:=fun hW=>h0 (by rw [e2,hW]; exact Ag _ _);refine AI (key hW) fun k1 k2 k3=>?_;have hW1:1<=(trimL W).length:=List.length_pos_iff.mpr hW;have l1:(trimL W).length - 1+(G.length - 1)<p.length:=by
   by_cases z:(trimL W).length - 1+(G.length - 1)<p.length
   ·exact z
   ·exact absurd (An (ag7 z)) k1
  have l2:p.length - 1<(trimL W).length - 1+(G.length - 1)+1:=by
   by_cases z:p.length - 1<(trimL W).length - 1+(G.length - 1)+1
   ·exact z
   ·exact absurd (k2 _ (ag8 z)) h0
  refine ⟨hW,ag9 hW1 hG1 l1 l2,?_⟩;rw [<- k3]
  congr 1
  exact aha l1 l2
theorem RI {w:NR} {p:LR} {k:Nat} (hw:Dg k w) (hk:k<=14) (kw:RC 470 w) (hp:Mon p) (d:Df (cf p) w):p.length<=15/\RC 640 (cf p):=⟨Nat.le_trans (IU hw (UX hk) kw hp d).1 (ahb hk),(IU hw (UX hk) kw hp d).2.mono (ahc hk)⟩
noncomputable def Js (x:LR×Nat):D:=.tup [rowD x.1,.int x.2]
noncomputable def Qe (c:Cx):Prop:=AD c "shared"/\∀ (p q:LR) (b:Nat) {m:Nat} {sto:Sto} {Q:D->Sto->Prop},6<=m->Rw p->Rw q->RC b (cf p)->RC b (cf q)->b<=645->p.length<=15->q.length<=15->(∀ G S T,ShO 15 p q G S T b->Q (.tup [rowD G,rowD S,rowD T]) sto)->Ah c m "shared" [rowD p,rowD q] sto Q
noncomputable def WS (c:Cx):Prop:=AD c "led"/\∀ (p:LR) (k:Nat) {m:Nat} {sto:Sto} {Q:D->Sto->Prop},5<=m->Rw p->p≠[]->RC k (cf p)->k<=30000000->p.length<=15->Q (rowD (Cq p)) sto->Ah c m "led" [rowD p] sto Q
noncomputable def RJ (c:Cx) (f:Str):Prop:=AD c f/\∀ (p:LR) (k:Nat) {m:Nat} {sto:Sto} {Q:D->Sto->Prop},4<=m->Mon p->RC k (cf p)->k<=1000->p.length<=15->(∀ V,Rw V->cf V=Ac (cf p)->V.length<=15->RC (k+5) (cf V)->Q (rowD V) sto)->Ah c m f [rowD p] sto Q
noncomputable def ShM (c:Cx):Prop:=AD c "shared"/\∀ (p q:LR) (b:Nat) {m:Nat} {sto:Sto} {Q:D->Sto->Prop},6<=m->Mon p->Rw q->RC b (cf p)->RC b (cf q)->b<=645->p.length<=15->q.length<=15->(∀ G S T,Mon G->RC 21600 (cf G)->G.length<=15->(∀ j,cf G j=cvn (cf S) (cf p) j+cvn (cf T) (cf q) j)->Df (cf G) (cf p)->Df (cf G) (cf q)->Q (.tup [rowD G,rowD S,rowD T]) sto)->Ah c m "shared" [rowD p,rowD q] sto Q
noncomputable def Ng (c:Cx):Prop:=AD c "parted"/\∀ (p G:LR) {m:Nat} {sto:Sto} {Q:D->Sto->Prop},4<=m->Mon p->Mon G->RC 640 (cf p)->RC 21600 (cf G)->p.length<=15->G.length<=15->Df (cf G) (cf p)->(∀ W R,Mon W->W.length<=15->cf p=cvn (cf W) (cf G)->Q (.tup [rowD W,R]) sto)->Ah c m "parted" [rowD p,rowD G] sto Q
noncomputable def RK (c:Cx):Prop:=AD c "by_powers"/\∀ (p:LR) {m:Nat} {sto:Sto} {Q:D->Sto->Prop},8<=m->Rw p->p≠[]->RC 470 (cf p)->p.length<=15->(∀ xs l,PtOK (cf (Cq p)) [] xs->sto l=none->Q (.lst l) (Sto.put sto l (.list true (xs.map Js))))->Ah c m "by_powers" [rowD p] sto Q
noncomputable def Ot (c:Cx):Prop:=AD c "cut"/\∀ (p:LR) (a:Addr) (o:Bool) {m:Nat} {sto:Sto} {Q:D->Sto->Prop},9<=m->Rw p->p≠[]->RC 470 (cf p)->p.length<=15->sto a=some (.list o [])->(∀ xs l,PtOK (cf (Cq p)) [] xs->sto l=none->Q (.lst l) (Sto.put sto l (.list true (xs.map Js))))->Ah c m "cut" [rowD p,.lst a] sto Q
noncomputable def Ff:Option D->Nat
 | some (.tup ds)=>ds.length
 | _=>0
section
variable {c:Cx} (CO:CxOK c)
theorem WT (h:Qe c):ShM c:=by
 refine ⟨h.1,fun p q b {m sto Q} hm mp wq kp kq hb lp lq hQ=>h.2 p q b hm mp.w wq kp kq hb lp lq fun G S T O=>?_⟩;have g:=O.led.resolve_left fun z=>mp.n z.2.1;refine xq1_2 O.dp fun r fr er=>?_;refine xq1_2 O.dq fun t ft et=>?_;exact hQ G S T ⟨O.wG,g.1,g.2⟩ (O.kG.mono (Nat.le_trans (Nat.mul_le_mul_left (2*15+3) (Nat.add_le_add_right hb 8)) (by decide))) O.lG O.eG ⟨r,fr,funext er⟩ ⟨t,ft,funext et⟩
theorem KT (h:CY c):Ng c:=by
 refine ⟨h.1,fun p G {m sto Q} hm mp mG kp kG lp lG d hQ=>?_⟩;have h17:p.length+2 - G.length<=17:=ahd lp;refine h.2 p G 640 21600 hm kp kG (Nat.le_trans (Nat.add_le_add_left (Nat.mul_le_mul_right _ h17) _) (by decide)) mG.n mG.w (UY lp) (Pn lG) fun W R hD=>?_;refine xq1_2 d fun r fr er=>?_;refine AI (GM mp.w mG.n mG.w hD ⟨r,fr,fun j=>congrFun er j⟩) fun e1 _ e2=>?_;refine AI (e2 mp.n) fun n1 n2 n3=>?_;rw [mp.m,mG.m,Rat.mul_one] at n3;have:=mG.pos;exact hQ _ _ ⟨rw_trim W,n1,n3.symm⟩ (ahe n2 this lp) (funext e1)
include CO
theorem Sw (hpa:E9 c 3 "part_of") (hsc:CC c 4 "scaled") (hf:FnK c "led" 1 Nc):WS c:=by
 refine ⟨hf.isFn,fun p k {m sto Q} hm hp hne kp hk lp h=>?_⟩;obtain ⟨n,rfl⟩:∃ n,m=n+1:=⟨m - 1,Il hm⟩;refine fn_call CO hf rfl ?_;unfold Nc;have h0:cf p (p.length - 1)≠0:=hp.resolve_left hne;walk_at "m";refine EF (by exact Mine.mlim (J1 lp)) (CX hne) ?_;walk_at "m";refine hpa.2 1 _ 1 k (ahf hm) DN (kp.rs _) (ahg hk) h0 ?_;walk_at "m";refine hsc.2 p _ k (1+k) (F5 hm) (fun i=>kp.rs i) (C3 DN (kp.rs _) h0) (ahh hk) (UZ lp) ?_;unfold Cq at h;rw [if_neg hne] at h;exact ret_plain h
theorem Qf {t g x f:Str} (ht:Cu c 1 t) (hg:DM c 3 g) (hf:FnK c f 1 (D9 t g x)):RJ c f:=by
 refine ⟨hf.isFn,fun p k {m sto Q} hm mp kp hk lp h=>LJ CO ht hg hf (fun i=>kp.rs i) (ahi hk) (UZ lp) hm fun r hr=>?_⟩;have e:cf (trimL r)=Ac (cf p):=funext fun j=>by
  rw [Ak,hr j,Rat.mul_comm]; rfl
 refine h _ (rw_trim r) e (Ay (rw_trim r) fun j hj=>?_) (by rw [e]; exact KQ kp (UY lp));rw [e];show _*cf p (j+1)=0;rw [An (by exact ahj hj lp),Rat.mul_zero]
theorem KU (hpm:Ng c) {n:Nat} (hn:7<=n) {σ:St} {K:Fl->St->Prop} {M A:LR} {k:Nat} (mM:Mon M) (mA:Mon A) (kM:RC 640 (cf M)) (kA:RC 21600 (cf A)) (lM:M.length<=15) (lA:A.length<=15) (d:Df (cf A) (cf M)) (g2:σ.loc 2=some (rowD M)) (g6:σ.loc 6=some (rowD A)) (g5:σ.loc 5=some (.int k)) (h:∀ N,Mon N->cf M=cvn (cf N) (cf A)->K .next (((σ.set 5 (.int (k+1:Nat))).set 3 (rowD A)).set 2 (rowD N))):Bo c n KS K σ:=by
 unfold KS;walk_at "m";refine hpm.2 M A (ahk hn) mM mA kM kA lM lA d fun N R mN lN eN=>?_;walk_at "m";exact h N mN eN
theorem Ou (hle:WS c) (hra:RJ c "rate_of") (hsh:ShM c) (hpm:Ng c) (hf:FnK c "by_powers" 1 ET):RK c:=by
 refine ⟨hf.isFn,fun p {m sto Q} hm wp p0 kp lp h=>?_⟩;obtain ⟨n,rfl⟩:∃ n,m=n+1:=⟨m - 1,Pp hm⟩;refine fn_call CO hf rfl ?_;unfold ET;refine Bz (KR wp p0 kp) fun mW kW lW _=>?_;walk_at "m";refine hle.2 p 470 (ahl hm) wp p0 kp (ahm) lp ?_;generalize Cq p=W at mW kW lW h ⊢;have hw:=mW.dg;have hk:W.length - 1<=14:=ahn lW lp;walk_at "m";refine hra.2 W 470 (Fr hm) mW kW (aho) (Pq lW lp) fun V wV eV lV kV=>?_;walk_at "m";refine hsh.2 W V 475 (U1 hm) mW wV (kW.mono (ahp)) kV (ahq) (Pq lW lp) lV fun G S T mG kG lG eG d1 d2=>?_;walk_at "m";refine hpm.2 W G (Fr hm) mW mG (kW.mono (U2)) kG (Pq lW lp) lG d1 fun L R mL lL eL=>?_;walk_at "m";refine ⟨zq rfl,fun l hl=>?_⟩;walk_at "m";refine Dx (fun σ=>∃ (L M:LR) (k:Nat) (xs:List (LR×Nat)),PwI (cf W) L M k xs/\σ.loc 3=some (rowD L)/\σ.loc 2=some (rowD M)/\σ.loc 5=some (.int k)/\σ.loc 4=some (.lst l)/\σ.sto l=some (.list true (xs.map Js))) (fun σ=>Ff (σ.loc 3)+Ff (σ.loc 2)) ?_ ?_
 ·exact ⟨L,G,1,[],PwI.start mW mG mL eV d2 eG eL,rfl,rfl,rfl,rfl,put_same⟩
 intro σ q165_; refine xq4_6 q165_ fun L M k xs I g3 g2 g5 g4 s4=>?_; clear q165_;refine AI I.facs fun dL dM dP=>?_;obtain ⟨lL,kL⟩:=RI hw hk kW I.mL dL;obtain ⟨lM,kM⟩:=RI hw hk kW I.mM dM;have lx:=Op hw (fun x hx=>(I.one x hx).1) dP;walk_at "m";refine f_lenR (J1 lL) ?_;walk_at "m";refine if_b (fun hb=>?_) fun hb=>?_
 ·have hb:(L.length:Int) > 1:=of_decide_eq_true hb;unfold Os;walk_at "m";refine hsh.2 L M 640 (U1 hm) I.mL I.mM.w kL kM (Ps) lL lM fun A S T mA kA lA eA d1 d2=>?_;walk_at "m";refine hpm.2 L A (Fr hm) I.mL mA kL kA lL lA d1 fun B R mB lB eB=>?_;walk_at "m";refine f_lenR (J1 lB) ?_;have fin:∀ (τ:St) (N:LR),Mon N->cf M=cvn (cf N) (cf A)->Ff (some (rowD A))+Ff (some (rowD N))<Ff (σ.loc 3)+Ff (σ.loc 2):=fun τ N mN eN=>by
   rw [g3,g2];show (A.map Ae).length+(N.map Ae).length<(L.map Ae).length+(M.map Ae).length;rw [List.length_map,List.length_map,List.length_map,List.length_map];have:=PwI.less (w:=cf M) (L:=M) (B:=M) (k:=k) (xs:=xs) mA I.mM mN eN;exact ahr hb this
  walk_at "m";refine if_b (fun hb2=>?_) fun hb2=>?_
  ·have hb2:1<B.length:=by have:=of_decide_eq_true hb2; exact ahs this
   walk_at "m";refine ⟨⟨l,_,rfl,s4⟩,?_⟩;walk_at "m";refine ap_lst s4 (by exact Mine.mlim (aht hk lx)) ?_;walk_at "m";refine KU CO hpm (Mr hm) I.mM mA kM kA lM lA d2 g2 rfl g5 fun N mN eN=>⟨⟨A,N,k+1,xs ++ [(B,k)],?_,rfl,rfl,rfl,g4,?_⟩,fin σ N mN eN⟩
   ·have st:=I.step mA mB mN eA eB eN;rw [if_pos hb2] at st;exact st
   ·rw [List.map_append]; exact put_same
  ·have hb2:¬ 1<B.length:=by have:=of_decide_eq_false hb2; exact ahu this
   walk_at "m";refine KU CO hpm (Mr hm) I.mM mA kM kA lM lA d2 g2 rfl g5 fun N mN eN=>⟨⟨A,N,k+1,xs,?_,rfl,rfl,rfl,g4,s4⟩,fin σ N mN eN⟩;have st:=I.step mA mB mN eA eB eN;rw [if_neg hb2] at st;exact st
 ·have hb:¬ (L.length:Int) > 1:=of_decide_eq_false hb;walk_at "m";exact Ek s4 fun hb'=>h xs l (I.stop (ahv hb)) hb'
theorem WU (hpo:RK c) (hf:FnK c "cut" 2 Nd):Ot c:=by
 refine ⟨hf.isFn,fun p a o {m sto Q} hm wp p0 kp lp ha h=>?_⟩;obtain ⟨n,rfl⟩:∃ n,m=n+1:=⟨m - 1,U3 hm⟩;refine fn_call CO hf rfl ?_;unfold Nd;have ha':=CU ha;walk_at "m";refine hpo.2 p (ahw hm) wp p0 kp lp fun xs l I hl=>?_;walk_at "m";refine ⟨false,[],put_old hl ha',zq rfl,⟨false,put_old hl ha'⟩,?_⟩;walk_at "m";exact Ek put_same fun hb=>h xs l I hb
end
theorem Ea {p q r:LR} (mp:Mon p) (mq:Mon q) (wr:Rw r) (e:∀ j,cf r j=cvn (cf p) (cf q) j):Mon r/\r.length+1=p.length+q.length:=by
 have h:=mp.dg.mul mq.dg;rw [<- funext e] at h;have r0:r≠[]:=fun z=>h.1 (by rw [z]; rfl);have k:=(Nb wr r0).uniq h;have m1:=mp.pos;have m2:=mq.pos;have m3:1<=r.length:=List.length_pos_iff.mpr r0;refine ⟨⟨wr,r0,?_⟩,ahx k m3 m1 m2⟩;rw [k,e,Bu mp.dg.2 mq.dg.2,mp.m,mq.m,Rat.mul_one]
theorem mon_unit:Mon [1]:=⟨.inr (by show (1:Rat)≠0; decide),List.cons_ne_nil _ _,rfl⟩
theorem cf_unit:cf [1]=one0:=mon_unit.one (Nat.le_refl _)
noncomputable def Ck (zs:List (LR×Nat)):Nat:=(zs.map fun x=>x.2*(x.1.length - 1)).sum
theorem FJ (zs:List (LR×Nat)) (x:LR×Nat):Ck (zs ++ [x])=Ck zs+x.2*(x.1.length - 1):=by
 unfold Ck;rw [List.map_append,List.sum_append];rfl
theorem Qg (zs:List (LR×Nat)) (i:Nat):Ck (zs.take i)<=Ck zs:=by
 unfold Ck;rw [List.map_take];have h:=congrArg List.sum (List.take_append_drop i (zs.map fun x=>x.2*(x.1.length - 1)));rw [List.sum_append] at h;exact ahy h
theorem Ov {room:Int} {d u:Nat} (h1:1<=d):∃ k:Nat,max 1 (min (1+(u:Int)) (room.fdiv (d:Int)))=(k:Int)/\1<=k/\k<=1+u/\((d:Int)<=room->(d:Int)*k<=room)/\((d:Int)*k<=room\/k=1):=by
 have d0:(0:Int)<d:=ahz h1;rw [Int.fdiv_eq_ediv_of_nonneg _ (Int.le_of_lt d0)];have a1:=Int.mul_ediv_self_le (x:=room) (k:=(d:Int)) (Int.ne_of_gt d0);have a2:(d:Int)<=room->1<=room / (d:Int):=fun h=>(Int.le_ediv_iff_mul_le d0).mpr (by rw [Int.one_mul]; exact h);generalize room / (d:Int)=q at a1 a2
 by_cases z:1<=q
 ·obtain ⟨k,hk⟩:∃ k:Nat,min (1+(u:Int)) q=(k:Int):=⟨(min (1+(u:Int)) q).toNat,ahA z⟩;have k1:(d:Int)*k<=room:=Int.le_trans (Int.mul_le_mul_of_nonneg_left (ahB hk) (Int.le_of_lt d0)) a1;exact ⟨k,ahC hk z,ahD hk z,ahE hk,fun _=>k1,.inl k1⟩
 ·exact ⟨1,ahF z,Nat.le_refl _,ahG,fun h=>absurd (a2 h) z,.inr rfl⟩
theorem KV {p:LR} {b:Nat} (mp:Mon p) (kp:RC b (cf p)):∀ (e:Nat) (r:LR),Rw r->cf r=Aa (cf p) e->(p.length - 1)*e<=14->RC (1+e*(b+5)) (cf r)/\Mon r/\r.length=(p.length - 1)*e+1
 | 0,r,wr,er,_=>by
  have e0:cf r=one0:=er.trans psNat_one;have r1:r=[1]:=IB wr mon_unit.w fun i=>by rw [e0,cf_unit]
  rw [r1];exact ⟨rc_one.mono (ahH),mon_unit,by simp⟩
 | e+1,r,wr,er,hl=>by
  have s:(p.length - 1)*(e+1)=(p.length - 1)*e+(p.length - 1):=Nat.mul_succ _ _;obtain ⟨N,hN⟩:=fin_pow (fin_cf p) e;obtain ⟨q,wq,eq⟩:∃ q,Rw q/\cf q=Aa (cf p) e:=⟨trimL ((List.range N).map (Aa (cf p) e)),rw_trim _,funext fun i=>by
   rw [Ak]
   by_cases z:i<N
   ·rw [DI (by rw [List.length_map,List.length_range]; exact z),List.getElem_map,List.getElem_range]
   ·rw [An (by rw [List.length_map,List.length_range]; exact CG z),hN i (by exact CG z)]⟩
  refine AI (KV mp kp e q wq eq (ahI s hl)) fun k1 k2 k3=>?_;have e2:∀ j,cf r j=cvn (cf q) (cf p) j:=fun j=>by rw [er,eq]; rfl
  obtain ⟨m1,m2⟩:=Ea k2 mp wr e2;have:=mp.pos;refine ⟨((k1.prod kp (ahJ s k3 hl)).cong fun j=>by rw [e2 j,Ar]).mono ?_,m1,ahK m2 s k3 this⟩;rw [Nat.succ_mul];exact ahL
theorem Ow {p q:LR} (wp:Rw p) (wq:Rw q) (e:cf p=cf q):p=q:=by
 have hl:∀ {p q:LR},Rw p->Rw q->cf p=cf q->p.length<=q.length:=fun {p q} wp wq e=>by
  by_cases z:p=[]
  ·rw [z]; exact Nat.zero_le _
  ·by_cases y:p.length<=q.length
   ·exact y
   ·exact absurd (by rw [e]; exact An (QL y)) (wp.resolve_left z)
 have l:p.length=q.length:=Nat.le_antisymm (hl wp wq e) (hl wq wp e.symm);refine List.ext_getElem l fun i h1 h2=>?_;have:=congrFun e i;unfold cf at this;simpa [h1,h2] using this
section
variable {R:Type} [Lean.Grind.CommRing R]
theorem am7 {π P l₁ dπ dl n:R}:n*(P*dπ)*l₁+P*π*dl=P*(n*(dπ*l₁)+π*dl):=by grind
theorem am8 {π P l₁ dπ dl h dh n l L:R} (el:l=P*π*l₁) (eL:L=P*(n*(dπ*l₁)+π*dl)):dh*l - h*L=P*(π*(dh*l₁ - h*dl) - n*(h*(dπ*l₁))):=by grind
theorem am9 {π P X v v₁ E u l l₁ q0 q1 N K:R} (ev:v=E*v₁) (el:l=P*π*l₁) (eK:π=K*E) (eN:N=P*X*v+u*(l*l)):N=P*E*(X*v₁+u*(P*π*K*(l₁*l₁))):=by grind
theorem ana {π P v v₁ E l l₁ q0 q1 N N₁:R} (ev:v=E*v₁) (el:l=P*π*l₁) (e:N*q1=q0*(l*l*v)) (eN:N=P*E*N₁):P*E*(N₁*q1)=P*E*(q0*(P*π*π*(l₁*l₁*v₁))):=by grind
theorem anb {a b b' π r P:R} (eb:b=b'*π) (e:a*b=r*(P*π)):π*(a*b')=π*(r*P):=by grind
theorem anc {b b' π s P:R} (eb:b=b'*π) (e:b'=s*P):b=s*(P*π):=by grind
theorem ane {N q1 q0 P π s K:R} (e:N*q1=q0*(P*K)) (eq:q1=s*(P*π)):P*(N*s*π)=P*(q0*K):=by grind
theorem abE {a b π r s:R} (e:a+b=r*π) (ea:a=s*π):b=(r - s)*π:=by grind
end
theorem abF {a:NR} {π:NR} (f:Ab a) (n:¬ Df π a):∃ k,Dg k a:=Bv f fun z=>n (z ▸ IR π)
theorem Irr.dg {π:NR} (i:Irr π):∃ k,Dg k π:=let ⟨⟨k,_,h⟩,_⟩:=i; ⟨k,h⟩
theorem Irr.pdg {π:NR} (i:Irr π) (n:Nat):∃ k,Dg k (Aa π n):=by
 obtain ⟨⟨k,hk,d⟩,_⟩:=i;refine xq1_2 (H7 d hk n) fun j _ h=>?_;exact ⟨j,h⟩
theorem Gi (a:NR) (f:Ab a):Df one0 a:=⟨a,f,funext fun j=>by rw [Af,Aq]⟩
theorem GN {π a:NR} (iπ:Irr π) (fa:Ab a) (na:¬ Df π a):∀ (n:Nat) (b:NR),Ab b->Df (Aa π n) (cvn a b)->Df (Aa π n) b
 | 0,b,fb,_=>Gi b fb
 | n+1,b,fb,⟨r,fr,er⟩=>by
  obtain ⟨k,dπ⟩:=iπ.dg;have h:Df π (cvn a b):=⟨cvn r (Aa π n),fin_cvn fr (fin_pow iπ.fin n),by rw [er]; exact (@DB NR psRing r (Aa π n) π).symm⟩;refine xq1_2 ((iπ.prime fa fb h).resolve_left na) fun b' fb' eb=>?_;have e:cvn a b'=cvn r (Aa π n):=Az dπ (fin_cvn fa fb') (fin_cvn fr (fin_pow iπ.fin n)) (@anb NR psRing a b b' π r (Aa π n) eb er);refine xq1_2 (GN iπ fa na n b' fb' ⟨r,fr,e⟩) fun s fs es=>?_;exact ⟨s,fs,@anc NR psRing b b' π s (Aa π n) eb es⟩
theorem KW {π q0 q1 N K:NR} {i:Nat} (iπ:Irr π) (fN:Ab N) (f0:Ab q0) (f1:Ab q1) (fK:Ab K) (nN:¬ Df π N) (nK:¬ Df π K) (e:cvn N q1=cvn q0 (cvn (Aa π i) K)) (hi:1<=i) :
  Df (Aa π i) q1/\(Al q0 q1->¬ Df (Aa π (i+1)) q1):=by
 refine ⟨GN iπ fN nN i q1 f1 ⟨cvn q0 K,fin_cvn f0 fK,by rw [e]; exact @RH NR psRing q0 (Aa π i) K⟩,fun hc ⟨s,fs,es⟩=>?_⟩;obtain ⟨k,dP⟩:=iπ.pdg i;have e2:cvn (cvn N s) π=cvn q0 K:=Az dP (fin_cvn (fin_cvn fN fs) iπ.fin) (fin_cvn f0 fK) (@ane NR psRing N q1 q0 (Aa π i) π s K e es);rcases iπ.prime f0 fK ⟨cvn N s,fin_cvn fN fs,e2.symm⟩ with d | d
 ·obtain ⟨⟨k',hk',dπ⟩,_⟩:=id iπ;have d1:Df π q1:=⟨cvn s (Aa π i),fin_cvn fs (fin_pow iπ.fin i),by rw [es]; exact (@DB NR psRing s (Aa π i) π).symm⟩;exact CE (BU hc d) dπ hk' d1
 ·exact nK d
section
variable {R:Type} [Lean.Grind.CommRing R]
theorem abG {X v v₁ u l π q0 q1:R} (ev:v=v₁*π) (e:(X*v+u*(l*l))*q1=q0*(l*l*v)):(X*v+u*(l*l))*q1=q0*(π*(l*l*v₁)):=by grind
theorem abH {X v v₁ π:R} (ev:v=v₁*π):X*v=X*v₁*π:=by grind
theorem abI {A B C π r v₁:R} (e:(π*A - B)*v₁+π*C=r*π):B*v₁=(A*v₁+C - r)*π:=by grind
theorem abJ {u P π K l₁:R}:u*(P*π*K*(l₁*l₁))=π*(u*(P*K*(l₁*l₁))):=by grind
end
theorem B8 {π a b:NR} (i:Irr π) (fa:Ab a) (fb:Ab b) (na:¬ Df π a) (nb:¬ Df π b):¬ Df π (cvn a b):=fun d=>(i.prime fa fb d).elim na nb
noncomputable def Dn (h l u v:NR):NR:=fun j=>cvn (fun j=>cvn (Ac h) l j - cvn h (Ac l) j) v j+cvn u (cvn l l) j
theorem IV {h l u v:NR} (fh:Ab h) (fl:Ab l) (fu:Ab u) (fv:Ab v):Ab (Dn h l u v) :=
 Au (fin_cvn (fin_sub (fin_cvn (fin_der fh) fl) (fin_cvn fh (fin_der fl))) fv) (fin_cvn fu (fin_cvn fl fl))
theorem Qh {π h l u v v₁ q0 q1:NR} (iπ:Irr π) (fh:Ab h) (fl:Ab l) (fu:Ab u) (fv₁:Ab v₁) (f0:Ab q0) (f1:Ab q1) (nl:¬ Df π l) (ev:v=cvn v₁ π) (nv:¬ Df π v₁) (nu:¬ Df π u)
  (e:cvn (Dn h l u v) q1=cvn q0 (cvn (cvn l l) v)):Df (Aa π 1) q1/\(Al q0 q1->¬ Df (Aa π 2) q1):=by
 have fv:Ab v:=by rw [ev]; exact fin_cvn fv₁ iπ.fin
 have nll:=B8 iπ fl fl nl nl;refine KW iπ (IV fh fl fu fv) f0 f1 (fin_cvn (fin_cvn fl fl) fv₁) (fun ⟨r,fr,er⟩=>?_) (B8 iπ (fin_cvn fl fl) fv₁ nll nv) ?_ (Nat.le_refl 1)
 ·have fX:=fin_sub (fin_cvn (fin_der fh) fl) (fin_cvn fh (fin_der fl));exact B8 iπ fu (fin_cvn fl fl) nu nll ⟨_,fin_sub fr (fin_cvn fX fv₁),@abE NR psRing _ _ π r _ er (@abH NR psRing _ v v₁ π ev)⟩
 ·have:cvn (Aa π 1) (cvn (cvn l l) v₁)=cvn π (cvn (cvn l l) v₁):=by
   show cvn (cvn (Aa π 0) π) _=_;rw [show cvn (Aa π 0) π=π from funext fun j=>Aq π j]
  rw [this];exact @abG NR psRing _ v v₁ u l π q0 q1 ev e
theorem KY {π h l u v l₁ v₁ q0 q1 E K:NR} {i:Nat} (iπ:Irr π) (fh:Ab h) (fl₁:Ab l₁) (fu:Ab u) (fv₁:Ab v₁) (f0:Ab q0) (f1:Ab q1) (fE:Ab E) (fK:Ab K) {kE:Nat} (dE:Dg kE E) (eK:π=cvn K E)
  (el:l=cvn (Aa π (i+1)) l₁) (nl:¬ Df π l₁) (ev:v=cvn E v₁) (nv:¬ Df π v₁) (nh:¬ Df π h)
  (e:cvn (Dn h l u v) q1=cvn q0 (cvn (cvn l l) v)):Df (Aa π (i+2)) q1/\(Al q0 q1->¬ Df (Aa π (i+3)) q1):=by
 obtain ⟨kP,dP⟩:=iπ.pdg i;have fP:=fin_pow iπ.fin i;have el':l=cvn (cvn (Aa π i) π) l₁:=el;have dl:Ac l=cvn (Aa π i) (fun j=>cvn (Aj (i+1)) (cvn (Ac π) l₁) j+cvn π (Ac l₁) j):=by
  rw [el,AR,GL];exact @am7 NR psRing π (Aa π i) l₁ (Ac π) (Ac l₁) (Aj (i+1))
 have eX:(fun j=>cvn (Ac h) l j - cvn h (Ac l) j)=cvn (Aa π i) (fun j=>cvn π (fun j=>cvn (Ac h) l₁ j - cvn h (Ac l₁) j) j - cvn (Aj (i+1)) (cvn h (cvn (Ac π) l₁)) j):=@am8 NR psRing π (Aa π i) l₁ (Ac π) (Ac l₁) h (Ac h) (Aj (i+1)) l (Ac l) el' dl;have fA:Ab (fun j=>cvn (Ac h) l₁ j - cvn h (Ac l₁) j):=fin_sub (fin_cvn (fin_der fh) fl₁) (fin_cvn fh (fin_der fl₁));have fB:Ab (cvn (Aj (i+1)) (cvn h (cvn (Ac π) l₁))):=fin_cvn (fin_nat _) (fin_cvn fh (fin_cvn (fin_der iπ.fin) fl₁));have nB:¬ Df π (cvn (Aj (i+1)) (cvn h (cvn (Ac π) l₁))):=B8 iπ (fin_nat _) (fin_cvn fh (fin_cvn (fin_der iπ.fin) fl₁)) (iπ.not_nat i) (B8 iπ fh (fin_cvn (fin_der iπ.fin) fl₁) nh (B8 iπ (fin_der iπ.fin) fl₁ iπ.not_der nl));have fX:Ab (fun j=>cvn π (fun j=>cvn (Ac h) l₁ j - cvn h (Ac l₁) j) j - cvn (Aj (i+1)) (cvn h (cvn (Ac π) l₁)) j):=fin_sub (fin_cvn iπ.fin fA) fB;have fC:Ab (cvn u (cvn (cvn (Aa π i) K) (cvn l₁ l₁))):=fin_cvn fu (fin_cvn (fin_cvn fP fK) (fin_cvn fl₁ fl₁));have eN:=@am9 NR psRing π (Aa π i) (fun j=>cvn π (fun j=>cvn (Ac h) l₁ j - cvn h (Ac l₁) j) j - cvn (Aj (i+1)) (cvn h (cvn (Ac π) l₁)) j) v v₁ E u l l₁ q0 q1 (Dn h l u v) K ev el' eK (by
  show Dn h l u v=_;unfold Dn;rw [eX];rfl)
 have e2:=@ana NR psRing π (Aa π i) v v₁ E l l₁ q0 q1 (Dn h l u v) _ ev el' e eN;have fT:Ab (cvn u (cvn (cvn (cvn (Aa π i) π) K) (cvn l₁ l₁))):=fin_cvn fu (fin_cvn (fin_cvn (fin_cvn fP iπ.fin) fK) (fin_cvn fl₁ fl₁));have fN₁:=Au (fin_cvn fX fv₁) fT;have fR:Ab (cvn q0 (cvn (cvn (cvn (Aa π i) π) π) (cvn (cvn l₁ l₁) v₁))):=fin_cvn f0 (fin_cvn (fin_cvn (fin_cvn fP iπ.fin) iπ.fin) (fin_cvn (fin_cvn fl₁ fl₁) fv₁));have e3:=Az (dP.mul dE) (fin_cvn fN₁ f1) fR e2;refine KW (i:=i+2) iπ fN₁ f0 f1 (fin_cvn (fin_cvn fl₁ fl₁) fv₁) (fun ⟨r,fr,er⟩=>?_) (B8 iπ (fin_cvn fl₁ fl₁) fv₁ (B8 iπ fl₁ fl₁ nl nl) nv) e3 (ahM);have e4:=@abJ NR psRing u (Aa π i) π K l₁;have er':(fun j=>cvn (fun j=>cvn π (fun j=>cvn (Ac h) l₁ j - cvn h (Ac l₁) j) j - cvn (Aj (i+1)) (cvn h (cvn (Ac π) l₁)) j) v₁ j+cvn π (cvn u (cvn (cvn (Aa π i) K) (cvn l₁ l₁))) j)=cvn r π:=by
  rw [<- er];exact funext fun j=>congrArg (fun x=>_+x) (congrFun e4 j).symm
 have e5:=@abI NR psRing (fun j=>cvn (Ac h) l₁ j - cvn h (Ac l₁) j) (cvn (Aj (i+1)) (cvn h (cvn (Ac π) l₁))) (cvn u (cvn (cvn (Aa π i) K) (cvn l₁ l₁))) π r v₁ er';exact B8 iπ fB fv₁ nB nv ⟨_,fin_sub (Au (fin_cvn fA fv₁) fC) fr,e5⟩
section
variable {R:Type} [Lean.Grind.CommRing R]
theorem anf {b b' P c a r:R} (eb:b=b'*P) (ec:b'=r*c) (ea:a=P*c):b=r*a:=by grind
theorem ang {a P Q c x:R} (ea:a=P*c) (e:c=x*Q):a=P*x*Q:=by grind
theorem anh {b b' P Q r:R} (eb:b=b'*P) (e:b=r*Q):P*b'=r*Q:=by grind
theorem ani {P π c r:R} (e:P*c=r*(P*π)):P*c=P*(r*π):=by grind
theorem anj {s t a b c d:R} (e:1=s*a+t*b):1=(s - t*d)*a+t*(b+a*d):=by grind
theorem ank {M rad r₁ π P q s:R} (eq:q=M*rad) (er:rad=r₁*π) (e:q=s*(P*π)):π*(r₁*M)=π*(s*P):=by grind
theorem abK {M rad r₁ π s P q:R} (eq:q=M*rad) (er:rad=r₁*π) (e:M=s*P):q=s*r₁*(P*π):=by grind
theorem abL {q0 l v N q1 r π:R} (e:N*q1=q0*(l*l*v)) (eq:q1=r*π):q0*(l*l*v)=N*r*π:=by grind
end
theorem BN {π a:NR} (fp:Ab π):∀ {n m:Nat},m<=n->Df (Aa π n) a->Df (Aa π m) a:=by
 intro n m h
 induction h with
 | refl=>exact id
 | step _ ih=>exact fun ⟨r,fr,er⟩=>ih ⟨cvn r π,fin_cvn fr fp,by rw [er]; exact @RH NR psRing r (Aa π _) π⟩
theorem WV {π c:NR} {n j:Nat} (iπ:Irr π) (fc:Ab c) (nc:¬ Df π c) (h:Df (Aa π n) (cvn (Aa π j) c)):n<=j:=by
 refine Classical.byContradiction fun hn=>?_;refine xq1_2 (BN (m:=j+1) iπ.fin (ahN hn) h) fun r fr er=>?_;obtain ⟨k,dP⟩:=iπ.pdg j;exact nc ⟨r,fr,Az dP fc (fin_cvn fr iπ.fin) (@ani NR psRing (Aa π j) π c r er)⟩
theorem Qi {π ρ:NR} (i:Irr π) (k:Irr ρ) (h:¬ Df π ρ):Al ρ π:=by
 refine (k.2 π i.fin).resolve_left fun d=>?_;rcases i.2 ρ k.fin with q | q
 ·exact h q
 ·obtain ⟨⟨m,hm,dm⟩,_⟩:=id k;exact CE (Ao (BU q d)) dm hm (BB ρ)
theorem KZ {a b:NR} (h:Dg 0 a) (fb:Ab b):Df a b:=by
 refine ⟨fun j=>(1 / a 0)*b j,?_,?_⟩
 ·obtain ⟨N,hN⟩:=fb;exact ⟨N,fun i hi=>by show _*b i=0; rw [hN i hi,Rat.mul_zero]⟩
 ·have e:=DC h;have h0:a 0≠0:=h.1;funext j;have e2:cvn b a j=a 0*b j:=(congrArg (fun z=>cvn b z j) e).trans (by rw [AN,Af,Aq]);rw [Ai,e2,<- Rat.mul_assoc,Rat.div_def,Rat.one_mul,Rat.inv_mul_cancel _ h0,Rat.one_mul]
theorem Er:∀ (n k:Nat) (a b:NR),k<=n->Dg k a->Ab b->(∀ π,Irr π->∀ n,Df (Aa π n) a->Df (Aa π n) b)->Df a b:=by
 intro n
 induction n with
 | zero =>
  intro k a b hk da fb h;obtain rfl:k=0:=ahO hk;exact KZ da fb
 | succ n ih =>
  intro k a b hk da fb h
  by_cases k0:k=0
  ·subst k0; exact KZ da fb
  refine xq1_2 (H6 k k a (Nat.le_refl _) (JX k0) da) fun π iπ dπ=>?_;refine xq2_3 (mult_of iπ k k a (Nat.le_refl _) da) fun m c fc nc ea=>?_;have m1:1<=m:=by
   refine Classical.byContradiction fun z=>nc ?_;obtain rfl:m=0:=ahP z;have:a=c:=ea.trans (funext fun j=>Aq c j);rw [<- this]; exact dπ
  have fP:=fin_pow iπ.fin m;refine xq1_2 (h π iπ m ⟨c,fc,ea.trans (funext fun j=>Af _ _ j)⟩) fun b' fb' eb=>?_;obtain ⟨kc,dc⟩:=abF fc nc;obtain ⟨⟨kπ,hkπ,dkπ⟩,_⟩:=id iπ;refine xq1_2 (H7 dkπ hkπ m) fun kP hkP dP=>?_;have hd:kc<=n:=by
   have:=Dg.uniq da (by rw [ea]; exact dP.mul dc);exact ahQ this m1 hkP hk
  obtain ⟨r,fr,er⟩:=ih kc c b' hd dc fb' fun ρ iρ t ⟨x,fx,ex⟩=>by
   by_cases t0:t=0
   ·subst t0; exact Gi b' fb'
   obtain ⟨s,rfl⟩:∃ s,t=s+1:=⟨t - 1,ahR t0⟩;have dρ:Df ρ c:=df_trans (CM iρ.fin (Fp)) ⟨x,fx,ex⟩;have cp:Al ρ π:=Qi iπ iρ fun d=>nc (df_trans d dρ);obtain ⟨⟨kρ,hkρ,dkρ⟩,_⟩:=id iρ;have nρ:¬ Df ρ (Aa π m):=CE (DD iρ.fin iπ.fin cp m) dkρ hkρ;have h1:Df (Aa ρ (s+1)) b:=h ρ iρ (s+1) ⟨_,fin_cvn fP fx,@ang NR psRing a (Aa π m) (Aa ρ (s+1)) c x ea ex⟩;refine xq1_2 h1 fun y fy ey=>?_;exact GN iρ fP nρ (s+1) b' fb' ⟨y,fy,@anh NR psRing b b' (Aa π m) (Aa ρ (s+1)) y eb ey⟩
  exact ⟨r,fr,@anf NR psRing b b' (Aa π m) c a r eb er ea⟩
noncomputable def CZ (xs:List (LR×Nat)):NR:=Ad (xs.map fun x=>(x.1,x.2 - 1))
noncomputable def Bw (xs:List (LR×Nat)):NR:=Ad (xs.map fun x=>(x.1,1))
theorem LQ (xs:List (LR×Nat)):(∀ x∈xs,1<=x.2)->Ad xs=cvn (CZ xs) (Bw xs):=by
 refine BL (p:=fun xs=>(∀ x∈xs,1<=x.2)->Ad xs=cvn (CZ xs) (Bw xs)) (fun _=>(funext fun j=>Aq one0 j).symm) (fun xs x ih h=>?_) xs;have h1:=ih fun y hy=>h y (List.mem_append.mpr (.inl hy));have hx:=h x (List.mem_append.mpr (.inr (.head _)));unfold CZ Bw at h1 ⊢;rw [List.map_append,List.map_append,List.map_cons,List.map_cons,List.map_nil,List.map_nil,AB,AB,AB,h1];obtain ⟨k,e⟩:∃ k,x.2=k+1:=⟨x.2 - 1,EM hx⟩;show cvn _ (Aa (cf x.1) x.2)=cvn (cvn _ (Aa (cf x.1) (x.2 - 1))) (cvn _ (Aa (cf x.1) 1));rw [e,Nat.add_sub_cancel];have e1:Aa (cf x.1) 1=cf x.1:=funext fun j=>Aq (cf x.1) j;rw [e1];exact (@On NR psRing _ _ (Aa (cf x.1) k) (cf x.1)).symm
theorem Nh {π:NR} (iπ:Irr π) (xs:List (LR×Nat)):Df π (Ad xs)->∃ x∈xs,Df π (cf x.1):=by
 refine BL (p:=fun xs=>Df π (Ad xs)->∃ x∈xs,Df π (cf x.1)) (fun d=>(iπ.not_one d).elim) (fun xs x ih d=>?_) xs;rw [AB] at d;rcases iπ.prime (fin_prod xs) (fin_pow (fin_cf x.1) x.2) d with d | d
 ·refine xq1_2 (ih d) fun y hy h=>?_;exact ⟨y,List.mem_append.mpr (.inl hy),h⟩
 ·refine ⟨x,List.mem_append.mpr (.inr (.head _)),?_⟩;have:∀ n,Df π (Aa (cf x.1) n)->Df π (cf x.1):=by
   intro n
   induction n with
   | zero=>exact fun d=>(iπ.not_one d).elim
   | succ n ih=>exact fun d=>(iπ.prime (fin_pow (fin_cf x.1) n) (fin_cf x.1) d).elim ih id
  exact this _ d
theorem LS {a b d:NR} (h:Al a b) (fd:Ab d):Al a (fun j=>b j+cvn a d j):=by
 refine xq2_3 h fun s t fs ft e=>?_;exact ⟨fun j=>s j - cvn t d j,t,fin_sub fs (fin_cvn ft fd),ft,@anj NR psRing s t a b (fun _=>0) d e⟩
theorem LT {a b:NR} (fa:Ab a) (fb:Ab b) (ha:Al a (Ac a)) (hb:Al b (Ac b)) (h:Al a b):Al (cvn a b) (Ac (cvn a b)):=by
 have k1:Al a (Ac (cvn a b)):=by
  rw [AR];exact LS (C7 fa (fin_der fa) fb ha h) (fin_der fb)
 have k2:Al b (Ac (cvn a b)):=by
  rw [AR];have:(fun j=>cvn (Ac a) b j+cvn a (Ac b) j)=fun j=>cvn a (Ac b) j+cvn b (Ac a) j:=funext fun j=>by rw [Af (Ac a) b,Rat.add_comm]
  rw [this];exact LS (C7 fb fa (fin_der fb) (Ao h) hb) (fin_der fa)
 exact Ao (C7 (fin_der (fin_cvn fa fb)) fa fb (Ao k1) (Ao k2))
theorem K3 {r π s:NR} (iπ:Irr π) (fs:Ab s) (h:Al r (Ac r)) (e:r=cvn (cvn s π) π):False:=by
 have d:Df π (Ac r):=by
  rw [e,AR];refine ⟨fun j=>Ac (cvn s π) j+cvn s (Ac π) j,Au (fin_der (fin_cvn fs iπ.fin)) (fin_cvn fs (fin_der iπ.fin)),?_⟩;funext j;rw [BK]
  congr 1
  exact congrFun (@RG NR psRing s π (Ac π)) j
 obtain ⟨⟨k,hk,dk⟩,_⟩:=id iπ;exact CE (BU h ⟨cvn s π,fin_cvn fs iπ.fin,e⟩) dk hk d
theorem Bx (a:NR):cvn a one0=a:=funext fun j=>by rw [Af,Aq]
theorem BV (a:NR):cvn one0 a=a:=funext fun j=>Aq a j
theorem Cr (a:NR):Aa a 1=a:=BV a
theorem K4 (xs:List (LR×Nat)) (x:LR×Nat):Bw (xs ++ [x])=cvn (Bw xs) (cf x.1):=by
 unfold Bw;rw [List.map_append,List.map_cons,List.map_nil,AB,Cr]
theorem Eb (xs:List (LR×Nat)):Ab (Bw xs):=fin_prod _
theorem Fg (xs:List (LR×Nat)):Ab (CZ xs):=fin_prod _
theorem Sx {ts:List LR} (xs:List (LR×Nat)):(∀ x∈xs,OneP ts x)->(xs.Pairwise fun x y=>Al (cf x.1) (cf y.1)/\Oo (Gh ts x) (Gh ts y))->Al (Bw xs) (Ac (Bw xs)):=by
 refine BL (p:=fun xs=>(∀ x∈xs,OneP ts x)->(xs.Pairwise fun x y=>Al (cf x.1) (cf y.1)/\Oo (Gh ts x) (Gh ts y))->Al (Bw xs) (Ac (Bw xs))) (fun _ _=>Ao Cm) (fun xs x ih h pw=>?_) xs;refine AI (List.pairwise_append.mp pw) fun p1 _ p3=>?_;have h1:=ih (fun y hy=>h y (List.mem_append.mpr (.inl hy))) p1;rw [K4];refine LT (Eb xs) (fin_cf x.1) h1 (h x (List.mem_append.mpr (.inr (.head _)))).s (Ao (BZ (fin_cf x.1) _ fun y hy=>?_));refine xq1_2 (List.mem_map.mp hy) fun z hz q166_=>?_; obtain rfl:=q166_;exact Ao (p3 z hz x (.head _)).1
theorem WW {π:NR} (iπ:Irr π) {xs:List (LR×Nat)} (h:Df π (Ad xs)):Df π (Bw xs):=by
 refine xq1_2 (Nh iπ xs h) fun x hx d=>?_;have:=Gg (xs:=xs.map fun x=>(x.1,1)) (List.mem_map.mpr ⟨x,hx,rfl⟩);rw [Cr] at this;exact df_trans d this
theorem Sy {h l u v q0 q1:NR} (fh:Ab h) (fu:Ab u) (f0:Ab q0) (f1:Ab q1) {kl kv:Nat} (dl:Dg kl l) (dv:Dg kv v) (chl:Al h l) (cuv:Al u v) (sv:Al v (Ac v)) (c01:Al q0 q1) (e:cvn (Dn h l u v) q1=cvn q0 (cvn (cvn l l) v)) {π:NR} (iπ:Irr π) :
  ∃ j c,Ab c/\¬ Df π c/\l=cvn (Aa π j) c/\((1<=j\/Df π v)->Df (Aa π (j+1)) q1/\¬ Df (Aa π (j+2)) q1):=by
 refine xq2_3 (mult_of iπ kl kl l (Nat.le_refl _) dl) fun j c fc nc el=>?_;refine ⟨j,c,fc,nc,el,fun hj=>?_⟩;obtain ⟨⟨kπ,hkπ,dkπ⟩,_⟩:=id iπ;have wv:Df π v->∃ v₁,Ab v₁/\¬ Df π v₁/\v=cvn v₁ π:=fun ⟨r,fr,er⟩=>⟨r,fr,fun ⟨s,fs,es⟩=>K3 iπ fs sv (by rw [er,es]),er⟩;cases j with
 | zero =>
  have ec:l=c:=el.trans (BV c);have dπ:Df π v:=hj.resolve_left (ahS);refine xq1_3 (wv dπ) fun v₁ fv₁ nv ev=>?_;have nu:¬ Df π u:=fun d=>CE (BU cuv d) dkπ hkπ dπ;have:=Qh iπ fh dl.fin fu fv₁ f0 f1 (by rw [ec]; exact nc) ev nv nu e;exact ⟨this.1,this.2 c01⟩
 | succ i =>
  have dπl:Df π l:=⟨cvn (Aa π i) c,fin_cvn (fin_pow iπ.fin i) fc,by rw [el]; exact @RG NR psRing (Aa π i) π c⟩;have nh:¬ Df π h:=fun d=>CE (BU chl d) dkπ hkπ dπl
  by_cases dπ:Df π v
  ·refine xq1_3 (wv dπ) fun v₁ fv₁ nv ev=>?_;have:=KY iπ fh fc fu fv₁ f0 f1 iπ.fin CD dkπ (BV π).symm el nc (ev.trans (funext fun j=>Af _ _ j)) nv nh e;exact ⟨this.1,this.2 c01⟩
  ·have:=KY iπ fh fc fu dv.fin f0 f1 CD iπ.fin BT (Bx π).symm el nc (BV v).symm dπ nh e;exact ⟨this.1,this.2 c01⟩
theorem WX {h l u v q0 q1:NR} {xs:List (LR×Nat)} (P:PtOK q1 [] xs) (fh:Ab h) (fu:Ab u) (f0:Ab q0) {kl kv:Nat} (dl:Dg kl l) (dv:Dg kv v) (chl:Al h l) (cuv:Al u v) (sv:Al v (Ac v)) (c01:Al q0 q1) (e:cvn (Dn h l u v) q1=cvn q0 (cvn (cvn l l) v)) :
  Df l (CZ xs)/\Df (CZ xs) l/\Df v (Bw xs):=by
 have f1:Ab q1:=by rw [P.pr]; exact fin_prod xs
 have eq:q1=cvn (CZ xs) (Bw xs):=P.pr.trans (LQ xs fun x hx=>(P.one x hx).k);have key:=fun {π} (iπ:Irr π)=>Sy fh fu f0 f1 dl dv chl cuv sv c01 e iπ;have rs:=Sx xs P.one P.pw;have rad1:∀ π,Irr π->Df π q1->∃ r,Ab r/\¬ Df π r/\Bw xs=cvn r π:=fun π iπ d=>by
  refine xq1_2 (WW iπ (P.pr ▸ d)) fun r fr er=>?_;exact ⟨r,fr,fun ⟨s,fs,es⟩=>K3 iπ fs rs (by rw [er,es]),er⟩
 have p1:∀ {π n},Irr π->Df (Aa π (n+1)) q1->Df π q1:=fun iπ d=>by
  have:=BN (m:=1) iπ.fin (Fp) d;rwa [Cr] at this
 have up:∀ {π n},Irr π->Df (Aa π (n+1)) q1->Df (Aa π n) (CZ xs):=fun {π n} iπ d=>by
  refine xq1_3 (rad1 π iπ (p1 iπ d)) fun r fr nr er=>?_;refine xq1_2 d fun s fs es=>?_;obtain ⟨k,dπ⟩:=iπ.dg;have:=Az dπ (fin_cvn fr (Fg xs)) (fin_cvn fs (fin_pow iπ.fin n)) (@ank NR psRing (CZ xs) (Bw xs) r π (Aa π n) q1 s eq er es);exact GN iπ fr nr n _ (Fg xs) ⟨s,fs,this⟩
 refine xq1_2 (LP (ts:=[]) xs P.one) fun kM _ dM=>?_;have dlow:∃ k,Dg k (CZ xs):=by
  refine Bv (Fg xs) fun z=>?_;rw [<- P.pr,eq,z] at dM;exact dM.1 (Ag _ _)
 obtain ⟨kL,dL⟩:=dlow;refine ⟨Er kl kl l _ (Nat.le_refl _) dl (Fg xs) fun π iπ n d=>?_,Er kL kL _ l (Nat.le_refl _) dL dl.fin fun π iπ n d=>?_,Er kv kv v _ (Nat.le_refl _) dv (Eb xs) fun π iπ n d=>?_⟩
 ·by_cases n0:n=0
  ·subst n0; exact Gi _ (Fg xs)
  refine Am (key iπ) fun j c fc nc el hk=>?_;rw [el] at d;have hn:=WV iπ fc nc d;exact BN iπ.fin hn (up iπ (hk (.inl (Nat.le_trans (Nat.pos_of_ne_zero n0) hn))).1)
 ·by_cases n0:n=0
  ·subst n0; exact Gi _ dl.fin
  refine Am (key iπ) fun j c fc nc el hk=>?_;obtain ⟨m,rfl⟩:∃ m,n=m+1:=⟨n - 1,(Nat.succ_pred_eq_of_ne_zero n0).symm⟩;have dπq:Df π q1:=by
   have:=df_trans (CM iπ.fin (show 1<=m+1 by exact Fp)) d;rw [eq]; exact df_trans this (BF (Eb xs))
  refine xq1_3 (rad1 π iπ dπq) fun r fr nr er=>?_;refine xq1_2 d fun s fs es=>?_;have dn:Df (Aa π (m+2)) q1:=⟨cvn s r,fin_cvn fs fr,@abK NR psRing (CZ xs) (Bw xs) r π s (Aa π (m+1)) q1 eq er es⟩
  by_cases hj:1<=j\/Df π v
  ·have:=(hk hj).2;have hle:m+1<=j:=Classical.byContradiction fun z=>this (BN iπ.fin (ahT z) dn);rw [el];exact BN iπ.fin hle (BF fc)
  ·obtain ⟨j0,nv⟩:=not_or.mp hj;obtain rfl:j=0:=by omega
   have ec:l=c:=el.trans (BV c);refine xq1_2 dπq fun t ft et=>?_;have dd:Df π (cvn q0 (cvn (cvn l l) v)):=⟨_,fin_cvn (IV fh dl.fin fu dv.fin) ft,@abL NR psRing q0 l v _ q1 t π e et⟩;have nl:¬ Df π l:=by rw [ec]; exact nc
   rcases iπ.prime f0 (fin_cvn (fin_cvn dl.fin dl.fin) dv.fin) dd with q | q
   ·obtain ⟨⟨kπ,hkπ,dkπ⟩,_⟩:=id iπ;exact (CE (BU c01 q) dkπ hkπ ⟨t,ft,et⟩).elim
   ·exact (B8 iπ (fin_cvn dl.fin dl.fin) dv.fin (B8 iπ dl.fin dl.fin nl nl) nv q).elim
 ·by_cases n0:n=0
  ·subst n0; exact Gi _ (Eb xs)
  have hn:n=1:=Classical.byContradiction fun z=>by
   refine xq1_2 (BN (m:=2) iπ.fin (ahU n0 z) d) fun s fs es=>?_;have e2:Aa π 2=cvn π π:=by show cvn (Aa π 1) π=_; rw [Cr]
   exact K3 iπ fs sv (by rw [es,e2]; exact (@DB NR psRing s π π).symm)
  subst hn;rw [Cr] at d ⊢;refine Am (key iπ) fun j c fc nc el hk=>?_;refine xq1_3 (rad1 π iπ (p1 iπ (hk (.inr d)).1)) fun r fr nr er=>?_;exact ⟨r,fr,er⟩
theorem Sz {P Q Y:Nat->Int} {a b B c:Nat} (hP:∀ i,b+1<=i->P i=0) (hQ:∀ i,a+1<=i->Q i=0) (hY:∀ i,a+b<=i->Y i=0) (bP:∀ i,(P i).natAbs<=2 ^ B) (bQ:∀ i,(Q i).natAbs<=2 ^ B) (bY:∀ i,(Y i).natAbs<=2 ^ B) (hc:a+b+1<=2 ^ c) :
  ∃ (s t:Nat->Int) (z:Int),((∃ i,s i≠0\/t i≠0)\/z≠0)/\(∀ i,a<=i->s i=0)/\(∀ i,b<=i->t i=0)/\(∀ i,(s i).natAbs<2 ^ ((a+b)*(B+c+2)+1))/\(∀ i,(t i).natAbs<2 ^ ((a+b)*(B+c+2)+1))/\z.natAbs<2 ^ ((a+b)*(B+c+2)+1)/\∀ j,cvI s P j+cvI t Q j+z*Y j=0:=by
 obtain ⟨x,⟨i0,hi0,hx0⟩,hxb,hxe⟩:=Ob (a+b) B c (fun l i=>if i<a then (if i<=l then P (l - i) else 0) else if i<a+b then (if i - a<=l then Q (l - (i - a)) else 0) else Y l) (fun l i=>by
  show (if i<a then (if i<=l then P (l - i) else 0) else if i<a+b then (if i - a<=l then Q (l - (i - a)) else 0) else Y l).natAbs<=_
  split
  ·split
   ·exact bP _
   ·exact Nat.zero_le _
  ·split
   ·split
    ·exact bQ _
    ·exact Nat.zero_le _
   ·exact bY _) hc
 have h0:0<2 ^ ((a+b)*(B+c+2)+1):=Nat.pow_pos (by decide);obtain ⟨s,hs⟩:∃ s:Nat->Int,∀ i,s i=if i<a then x i else 0:=⟨_,fun _=>rfl⟩;obtain ⟨t,ht⟩:∃ t:Nat->Int,∀ i,t i=if i<b then x (a+i) else 0:=⟨_,fun _=>rfl⟩;have s0:∀ i,a<=i->s i=0:=fun i hi=>by rw [hs]; exact if_neg (Mk hi)
 have t0:∀ i,b<=i->t i=0:=fun i hi=>by rw [ht]; exact if_neg (Mk hi)
 refine ⟨s,t,x (a+b),?_,s0,t0,fun i=>?_,fun i=>?_,hxb _,fun j=>?_⟩
 ·by_cases z:i0<a
  ·exact .inl ⟨i0,.inl (by rw [hs,if_pos z]; exact hx0)⟩
  ·by_cases z2:i0<a+b
   ·exact .inl ⟨i0 - a,.inr (by rw [ht,if_pos (by exact ahV z z2),show a+(i0 - a)=i0 by exact Ui z]; exact hx0)⟩
   ·rw [show i0=a+b by exact ahW z2 hi0] at hx0; exact .inr hx0
 ·rw [hs]
  split
  ·exact hxb i
  ·exact h0
 ·rw [ht]
  split
  ·exact hxb _
  ·exact h0
 ·by_cases hj:j<a+b
  ·have e:=hxe j hj;have e:smI (fun i=>x i*(if i<a then (if i<=j then P (j - i) else 0) else if i<a+b then (if i - a<=j then Q (j - (i - a)) else 0) else Y j)) (a+b)+x (a+b)*(if a+b<a then (if a+b<=j then P (j - (a+b)) else 0) else if a+b<a+b then (if a+b - a<=j then Q (j - (a+b - a)) else 0) else Y j)=0:=e;rw [IM,if_neg (by exact O7),if_neg (by exact ahX)] at e;rw [<- Fc s0,<- Fc t0];rw [Cw (g:=fun i=>x i*(if i<a then (if i<=j then P (j - i) else 0) else if i<a+b then (if i - a<=j then Q (j - (i - a)) else 0) else Y j)) (n:=a) fun i hi=>by rw [hs,if_pos hi,if_pos hi]];rw [Cw (g:=fun i=>x (a+i)*(if a+i<a then (if a+i<=j then P (j - (a+i)) else 0) else if a+i<a+b then (if a+i - a<=j then Q (j - (a+i - a)) else 0) else Y j)) (n:=b) fun i hi=>by rw [ht,if_pos hi,if_neg (show ¬ a+i<a by exact O7),if_pos (show a+i<a+b by exact ahY hi),show a+i - a=i by exact F3]];exact e
  ·have z1:∀ (u v:Nat->Int) (d e:Nat),(∀ i,d<=i->u i=0)->(∀ i,e+1<=i->v i=0)->d+e<=a+b->cvI u v j=0:=fun u v d e hu hv hde=>by
    unfold cvI;have:∀ i,u i*v (j - i)=0:=fun i=>by
     by_cases z:i<d
     ·rw [hv _ (by exact ahZ hde hj z),Int.mul_zero]
     ·rw [hu _ (by exact CG z),Int.zero_mul]
    rw [FH this];exact Dz (n:=0) (m:=j+1) (f:=fun _=>0) (fun _ _=>rfl) |> fun h=>by rw [Nat.zero_add] at h; exact h
   rw [z1 s P a b s0 hP (by exact ah0),z1 t Q b a t0 hQ (by exact U4),hY j (by exact ah1 hj),Int.mul_zero]; rfl
section
variable {R:Type} [Lean.Grind.CommRing R]
theorem anl {s t A B x r:R} (e:1=s*A+t*B) (k:x*B=r*A):x=(x*s+t*r)*A:=by grind
theorem anm {s t s' t' A B:R} (e:s*B+t*A=s'*B+t'*A):(s - s')*B=(t' - t)*A:=by grind
theorem ann {t t' A B s:R} (e:s*B+t*A=s*B+t'*A):A*t=A*t':=by grind
end
theorem C8 {A B x:NR} (fA:Ab A) (fx:Ab x) (h:Al A B) (d:Df A (cvn x B)):Df A x:=by
 refine xq2_3 h fun s t fs ft e=>?_;refine xq1_2 d fun r fr er=>?_;exact ⟨_,Au (fin_cvn fx fs) (fin_cvn ft fr),@anl NR psRing s t A B x r e er⟩
theorem FK {A x:NR} {a:Nat} (dA:Dg a A) (hx:Bd a x) (d:Df A x):x=fun _=>0:=by
 rcases dg_of ⟨a,hx⟩ with z | ⟨k,dk⟩
 ·exact z
 ·refine xq1_3 (Df.deg dk dA.fin d) fun j hj dj _=>?_;have:=dA.uniq dj;exact absurd (hx k (UG this hj)) dk.1
theorem AA {a:Nat} {x:NR} (h:Bd a x):Ab x:=⟨a,h⟩
theorem CN {a:Nat} {x y:NR} (h:Bd a x) (k:Bd a y):Bd a (fun j=>x j - y j):=fun i hi=>by show x i - y i=0; rw [h i hi,k i hi,Rat.sub_self]
theorem JL {A B s t s' t':NR} {a:Nat} (dA:Dg a A) (fB:Ab B) (h:Al A B) (bs:Bd a s) (bs':Bd a s') (ft:Ab t) (ft':Ab t') (e:(fun j=>cvn s B j+cvn t A j)=fun j=>cvn s' B j+cvn t' A j):s=s'/\t=t':=by
 have k:=FK dA (CN bs bs') (C8 dA.fin (AA (CN bs bs')) h ⟨_,fin_sub ft' ft,@anm NR psRing s t s' t' A B e⟩);have e1:s=s':=funext fun j=>by
  have:s j - s' j=0:=congrFun k j;grind
 subst e1;exact ⟨rfl,Az dA ft ft' (@ann NR psRing t t' A B s e)⟩
theorem Ox {H:Nat} {x:NR} {z:Nat->Int} {d:Int} (hd:d≠0) (h1:d.natAbs<2 ^ H) (h2:∀ i,(z i).natAbs<2 ^ H) (e:∀ i,x i*(d:Rat)=(z i:Rat)):RC H x:=⟨d,z,hd,h1,h2,e⟩
section
variable {R:Type} [Lean.Grind.CommRing R]
end
theorem Ni {A B y:NR} {a b β c:Nat} (dA:Dg a A) (dB:Bd (b+1) B) (h:Al A B) (hy:Bd (a+b) y) (kA:RC β A) (kB:RC β B) (ky:RC β y) (hc:a+b+1<=2 ^ c) :
  ∃ s t,Bd a s/\Bd b t/\(y=fun j=>cvn s B j+cvn t A j)/\RC ((a+b)*(β+c+2)+1+β) s/\RC ((a+b)*(β+c+2)+1+β) t:=by
 refine Am kA fun eA zA nA hA bA qA=>?_;refine Am kB fun eB zB nB hB bB qB=>?_;refine Am ky fun ey zy ny hy' by' qy=>?_;have z0:∀ {x:NR} {z:Nat->Int} {d:Int} {n:Nat},Bd n x->(∀ i,x i*(d:Rat)=(z i:Rat))->∀ i,n<=i->z i=0:=fun {x z d n} hb q i hi=>by
  have:=q i;rw [hb i hi,Rat.zero_mul] at this;exact Rat.intCast_eq_zero_iff.mp this.symm
 refine xq3_7 (Sz (z0 dB qB) (z0 dA.2 qA) (z0 hy qy) (fun i=>Nat.le_of_lt (bB i)) (fun i=>Nat.le_of_lt (bA i)) (fun i=>Nat.le_of_lt (by' i)) hc) fun s t z hn s0 t0 bs bt bz e=>?_;have key:(fun j=>cvn (fun i=>(eB:Rat)*(s i:Rat)) B j+cvn (fun i=>(eA:Rat)*(t i:Rat)) A j)=fun j=>-((z:Rat)*(ey:Rat))*y j:=funext fun j=>by
  have:=congrArg (fun x:Int=>(x:Rat)) (e j);simp only [Rat.intCast_add,Rat.intCast_mul,DA] at this;rw [Ai,Ai];have h1:cvn (fun i=>(s i:Rat)) (fun i=>(zB i:Rat)) j=(eB:Rat)*cvn (fun i=>(s i:Rat)) B j:=by
   rw [<- AN];exact Ax (fun _=>rfl) (fun i=>by rw [<- qB i,Rat.mul_comm]) j
  have h2:cvn (fun i=>(t i:Rat)) (fun i=>(zA i:Rat)) j=(eA:Rat)*cvn (fun i=>(t i:Rat)) A j:=by
   rw [<- AN];exact Ax (fun _=>rfl) (fun i=>by rw [<- qA i,Rat.mul_comm]) j
  rw [h1,h2,<- qy j] at this;have h3:((0:Int):Rat)=0:=rfl;rw [h3] at this;grind
 have bS:Bd a (fun i=>(eB:Rat)*(s i:Rat)):=fun i hi=>by show (eB:Rat)*(s i:Rat)=0; rw [s0 i hi]; exact Rat.mul_zero _
 have bT:Bd b (fun i=>(eA:Rat)*(t i:Rat)):=fun i hi=>by show (eA:Rat)*(t i:Rat)=0; rw [t0 i hi]; exact Rat.mul_zero _
 have zn:z≠0:=fun hz=>by
  subst hz;have k0:(fun j=>cvn (fun i=>(eB:Rat)*(s i:Rat)) B j+cvn (fun i=>(eA:Rat)*(t i:Rat)) A j)=fun j=>cvn (fun _=>0) B j+cvn (fun _=>0) A j:=key.trans (funext fun j=>by
   rw [Ag,Ag,Rat.add_zero,show ((0:Int):Rat)=0 from rfl,Rat.zero_mul,Rat.neg_zero,Rat.zero_mul])
  obtain ⟨e1,e2⟩:=JL dA (AA dB) h bS (fun _ _=>rfl) (AA bT) Cg k0;rcases hn with ⟨i,hi⟩ | hn
  ·rcases hi with hi | hi
   ·exact hi (Rat.intCast_eq_zero_iff.mp ((Rat.mul_eq_zero.mp (congrFun e1 i)).resolve_left (cast_ne nB)))
   ·exact hi (Rat.intCast_eq_zero_iff.mp ((Rat.mul_eq_zero.mp (congrFun e2 i)).resolve_left (cast_ne nA)))
  ·exact hn rfl
 have wn:(-((z:Rat)*(ey:Rat)))≠0:=fun q=>by
  have:(z:Rat)*(ey:Rat)=0:=by grind
  rcases Rat.mul_eq_zero.mp this with q | q
  ·exact cast_ne zn q
  ·exact cast_ne ny q
 obtain ⟨w,hw⟩:∃ w:Rat,w=-((z:Rat)*(ey:Rat)):=⟨_,rfl⟩;have ew:w=((-(z*ey):Int):Rat):=by rw [hw,Rat.intCast_neg,Rat.intCast_mul]
 rw [<- hw] at key wn;have inv:∀ x:Rat,x*(1 / w)*w=x:=fun x=>by rw [Rat.mul_assoc,Rat.div_mul_cancel wn,Rat.mul_one]
 have szb:(-(z*ey)).natAbs<2 ^ ((a+b)*(β+c+2)+1+β):=by rw [Int.natAbs_neg]; exact pow_mul bz hy'
 have nz:(-(z*ey))≠0:=fun q=>by
  have:z*ey=0:=ah2 q;exact (Int.mul_ne_zero zn ny) this
 refine ⟨fun i=>(eB:Rat)*(s i:Rat)*(1 / w),fun i=>(eA:Rat)*(t i:Rat)*(1 / w),fun i hi=>?_,fun i hi=>?_,funext fun j=>?_,Ox (z:=fun i=>s i*eB) nz szb (fun i=>pow_mul (bs i) hB) fun i=>?_,Ox (z:=fun i=>t i*eA) nz szb (fun i=>pow_mul (bt i) hA) fun i=>?_⟩
 ·show (eB:Rat)*(s i:Rat)*_=0; rw [s0 i hi,show ((0:Int):Rat)=0 from rfl,Rat.mul_zero,Rat.zero_mul]
 ·show (eA:Rat)*(t i:Rat)*_=0; rw [t0 i hi,show ((0:Int):Rat)=0 from rfl,Rat.mul_zero,Rat.zero_mul]
 ·have k1:=congrFun key j;have h1:cvn (fun i=>(eB:Rat)*(s i:Rat)*(1 / w)) B j=(1 / w)*cvn (fun i=>(eB:Rat)*(s i:Rat)) B j:=by
   rw [<- Ai]; exact Ax (fun i=>Rat.mul_comm _ _) (fun _=>rfl) j
  have h2:cvn (fun i=>(eA:Rat)*(t i:Rat)*(1 / w)) A j=(1 / w)*cvn (fun i=>(eA:Rat)*(t i:Rat)) A j:=by
   rw [<- Ai]; exact Ax (fun i=>Rat.mul_comm _ _) (fun _=>rfl) j
  rw [h1,h2,<- Rat.mul_add];have k1:cvn (fun i=>(eB:Rat)*(s i:Rat)) B j+cvn (fun i=>(eA:Rat)*(t i:Rat)) A j=w*y j:=k1;rw [k1,<- Rat.mul_assoc,Rat.div_mul_cancel wn,Rat.one_mul]
 ·show (eB:Rat)*(s i:Rat)*(1 / w)*((-(z*ey):Int):Rat)=((s i*eB:Int):Rat);rw [<- ew,inv,Rat.intCast_mul,Rat.mul_comm]
 ·show (eA:Rat)*(t i:Rat)*(1 / w)*((-(z*ey):Int):Rat)=((t i*eA:Int):Rat);rw [<- ew,inv,Rat.intCast_mul,Rat.mul_comm]
section
variable {R:Type} [Lean.Grind.CommRing R]
theorem ano {N q0 q1 l v V rad:R} (e:N*q1=q0*(l*l*v)) (eq:q1=l*rad) (er:rad=V*v):l*rad*(N*V)=l*rad*(q0*l):=by grind
theorem anp {h l dh dl v u V rad q0:R} (e:((dh*l - h*dl)*v+u*(l*l))*V=q0*l) (er:rad=V*v):q0*l=(dh*l - h*dl)*rad+u*V*(l*l):=by grind
theorem abM {l a B h dh dl P dP c dc t dt dB da:R} (el:l=a*B) (eh:h=P*l+(c*B+t*a)) (edh:dh=(dP*l+P*dl)+((dc*B+c*dB)+(dt*a+t*da))) (edl:dl=da*B+a*dB):dh*l - h*dl=dP*(l*l)+B*B*(dc*a - c*da)+a*a*(dt*B - t*dB):=by
 subst eh; subst edh; subst edl; subst el; grind
theorem abN {l rad X a B p r dP c dc t dt dB da m dp:R} (er:rad=p*r) (eX:X=dP*(l*l)+B*B*(dc*a - c*da)+a*a*(dt*B - t*dB)) (eda:da*p=m*(a*dp)):X*rad=dP*(l*l)*(p*r)+B*B*r*(dc*a*p - c*(m*(a*dp)))+a*a*(dt*B - t*dB)*(p*r):=by
 rw [<- eda]; subst eX; subst er; grind
theorem anq {l q0 a B p r uV X dP c dc t dt dB m dp d t':R} (el:l=a*B) (e1:q0*l=X+uV*(l*l)) (eX:X=dP*(l*l)*(p*r)+B*B*r*(dc*a*p - c*(m*(a*dp)))+a*a*(dt*B - t*dB)*(p*r)) (eu:uV=d*r+t'*p) :
  a*(B*(q0 - (dc*p - m*(c*dp)+d*a)*(B*r)))=a*((B*B*dP*r+B*B*t'+r*(dt*B - t*dB))*(a*p)):=by
 subst el;have e2:a*(B*(q0 - (dc*p - m*(c*dp)+d*a)*(B*r)))=q0*(a*B) - a*(B*((dc*p - m*(c*dp)+d*a)*(B*r))):=by grind
 rw [e2,e1,eX,eu]; grind
theorem anr {x B y A:R} (e:B*x=y*A):x*B=y*A:=by grind
end
theorem DE (a b:NR):Ac (fun j=>a j+b j)=fun j=>Ac a j+Ac b j:=funext fun j=>by
 show _*(a (j+1)+b (j+1))=_*a (j+1)+_*b (j+1);rw [Rat.mul_add]
theorem SA:Ac one0=fun _=>0:=funext fun j=>by show _*(if j+1=0 then (1:Rat) else 0)=0; rw [if_neg (by exact o302),Rat.mul_zero]
section
variable {R:Type} [Lean.Grind.CommRing R]
theorem ans {n P d p:R}:n*(P*d)*p=n*(P*p*d):=by grind
end
theorem SB (p:NR):∀ m,cvn (Ac (Aa p m)) p=cvn (Aj m) (cvn (Aa p m) (Ac p))
 | 0=>by
  have:Ac (Aa p 0)=fun _=>0:=SA;rw [this,psNat_zero,funext (Ag p),funext (Ag _)]
 | m+1=>by
  rw [GL];exact @ans NR psRing (Aj (m+1)) (Aa p m) (Ac p) p
noncomputable def BC (c d p:NR) (m:Nat):NR:=fun j=>cvn (Ac c) p j - cvn (Aj m) (cvn c (Ac p)) j+cvn d (Aa p m) j
theorem WY {h l u v q0 q1 rad V P B p r c t d t':NR} {m kl kr ka:Nat} (dl:Dg kl l) (dr:Dg kr rad) (dp:Dg ka p) (fh:Ab h) (fu:Ab u) (fv:Ab v) (fV:Ab V) (f0:Ab q0) (fP:Ab P) (fB:Ab B) (fr:Ab r) (fc:Ab c) (ft:Ab t) (fd:Ab d) (ft':Ab t')
  (e:cvn (Dn h l u v) q1=cvn q0 (cvn (cvn l l) v)) (eq:q1=cvn l rad) (er:rad=cvn V v) (el:l=cvn (Aa p m) B) (er':rad=cvn p r)
  (eh:h=fun j=>cvn P l j+(cvn c B j+cvn t (Aa p m) j)) (eu:cvn u V=fun j=>cvn d r j+cvn t' p j) (hc:Al (cvn (Aa p m) p) B) :
  Df (Aa p (m+1)) (fun j=>q0 j - cvn (BC c d p m) (cvn B r) j):=by
 have fa:=fin_pow dp.fin m;have k1:=Az (dl.mul dr) (fin_cvn (IV fh dl.fin fu fv) fV) (fin_cvn f0 dl.fin) (@ano NR psRing (Dn h l u v) q0 q1 l v V rad e eq er);have k2:=@anp NR psRing h l (Ac h) (Ac l) v u V rad q0 k1 er;have edl:Ac l=fun j=>cvn (Ac (Aa p m)) B j+cvn (Aa p m) (Ac B) j:=by rw [el,AR]
 have edh:Ac h=fun j=>(cvn (Ac P) l j+cvn P (Ac l) j)+((cvn (Ac c) B j+cvn c (Ac B) j)+(cvn (Ac t) (Aa p m) j+cvn t (Ac (Aa p m)) j)):=by
  rw [eh,DE,DE,AR,AR,AR]
 have eX:=@abM NR psRing l (Aa p m) B h (Ac h) (Ac l) P (Ac P) c (Ac c) t (Ac t) (Ac B) (Ac (Aa p m)) el eh edh edl;have eY:=@abN NR psRing l rad _ (Aa p m) B p r (Ac P) c (Ac c) t (Ac t) (Ac B) (Ac (Aa p m)) (Aj m) (Ac p) er' eX (SB p m);have k3:=@anq NR psRing l q0 (Aa p m) B p r (cvn u V) _ (Ac P) c (Ac c) t (Ac t) (Ac B) (Aj m) (Ac p) d t' el k2 eY eu;obtain ⟨kp,hkp⟩:∃ k,Dg k (Aa p m):=by
  refine Bv fa fun z=>?_;rw [z,funext (Ag B)] at el;exact dl.1 (by rw [el])
 have fE:Ab (BC c d p m):=Au (fin_sub (fin_cvn (fin_der fc) dp.fin) (fin_cvn (fin_nat m) (fin_cvn fc (fin_der dp.fin)))) (fin_cvn fd fa);have fx:Ab (fun j=>q0 j - cvn (BC c d p m) (cvn B r) j):=fin_sub f0 (fin_cvn fE (fin_cvn fB fr));have fy:Ab (fun j=>cvn (cvn (cvn B B) (Ac P)) r j+cvn (cvn B B) t' j+cvn r (fun j=>cvn (Ac t) B j - cvn t (Ac B) j) j):=Au (Au (fin_cvn (fin_cvn (fin_cvn fB fB) (fin_der fP)) fr) (fin_cvn (fin_cvn fB fB) ft')) (fin_cvn fr (fin_sub (fin_cvn (fin_der ft) fB) (fin_cvn ft (fin_der fB))));have k4:=Az hkp (fin_cvn fB fx) (fin_cvn fy (fin_cvn fa dp.fin)) k3;exact C8 (fin_cvn fa dp.fin) fx hc ⟨_,fy,@anr NR psRing _ B _ _ k4⟩
section
variable {R:Type} [Lean.Grind.CommRing R]
theorem ant {p dp c c' γ dγ dc dc' d P e e' left N M:R} (inv:dc*p - N*(c*dp)+d*(P*p)=left+(e+e'*p)) (ec:c=γ+c'*p) (edc:dc=dγ+(dc'*p+c'*dp)) (eN:N=M+1):left+e+N*(γ*dp)=(dγ+(dc'*p - M*(c'*dp)+d*P) - e')*p:=by
 subst eN; subst ec; subst edc; grind
theorem anu {p dp γ raw T back S W less N:R} (eT:T+N*(γ*dp)=raw*p) (eb:1=S*p+back*dp) (el:T*back=W*p+less):less+N*γ=(N*γ*S+raw*back - W)*p:=by grind
theorem anv {T less N γ dp raw p:R} (eT:T+N*(γ*dp)=raw*p) (e:less=-(N*γ)):T - less*dp=raw*p:=by subst e; grind
end
theorem Fh (n:Nat) (a:NR):cvn (Aj n) a=fun j=>(n:Rat)*a j:=by
 have:Aj n=fun j=>(n:Rat)*one0 j:=funext fun j=>by
  show (if j=0 then (n:Rat) else 0)=(n:Rat)*(if j=0 then 1 else 0)
  split
  ·rw [Rat.mul_one]
  ·rw [Rat.mul_zero]
 rw [this,Cy]
theorem Qj (n:Nat):Aj (n+1)=fun j=>Aj n j+Aj 1 j:=funext fun j=>by
 show (if j=0 then ((n+1:Nat):Rat) else 0)=(if j=0 then (n:Rat) else 0)+if j=0 then ((1:Nat):Rat) else 0
 split
 ·exact Rat.natCast_add n 1
 ·rw [Rat.add_zero]
theorem Hj {c d p:NR} (fc:Ab c) (fd:Ab d) (fp:Ab p) (m:Nat):Ab (BC c d p m):=Au (fin_sub (fin_cvn (fin_der fc) fp) (fin_cvn (fin_nat m) (fin_cvn fc (fin_der fp)))) (fin_cvn fd (fin_pow fp m))
theorem Qk {c c' γ d p e E E' left back S W less:NR} {m kp:Nat} (dp:Dg kp p) (fc':Ab c') (fd:Ab d) (fE':Ab E') (fb:Ab back) (fS:Ab S) (fW:Ab W) (bγ:Bd kp γ) (bl:Bd kp less)
  (ec:c=fun j=>γ j+cvn c' p j) (ee:E=fun j=>e j+cvn E' p j) (inv:BC c d p (m+1)=fun j=>left j+E j) (eb:one0=fun j=>cvn S p j+cvn back (Ac p) j) (el:cvn (fun j=>left j+e j) back=fun j=>cvn W p j+less j) :
  (less=fun j=>-((m+1:Nat):Rat)*γ j)/\(fun j=>(left j+e j) - cvn less (Ac p) j)=cvn (fun j=>Ac γ j+BC c' d p m j - E' j) p/\
   BC c' d p m=fun j=>((Ac γ j+BC c' d p m j - E' j)+Ac less j*(1 / ((m+1:Nat):Rat)))+E' j:=by
 have edc:Ac c=fun j=>Ac γ j+(cvn (Ac c') p j+cvn c' (Ac p) j):=by rw [ec,DE,AR]
 rw [ee] at inv;have k1:=@ant NR psRing p (Ac p) c c' γ (Ac γ) (Ac c) (Ac c') d (Aa p m) e E' left (Aj (m+1)) (Aj m) inv ec edc (Qj m);have k2:=@anu NR psRing p (Ac p) γ _ _ back S W less (Aj (m+1)) k1 eb el;have fγ:=AA bγ;have fraw:Ab (fun j=>Ac γ j+BC c' d p m j - E' j):=fin_sub (Au (fin_der fγ) (Hj fc' fd dp.fin m)) fE';have z:=FK dp (x:=fun j=>less j+cvn (Aj (m+1)) γ j) (fun i hi=>by
  rw [Fh];show less i+_*γ i=0;rw [bl i hi,bγ i hi,Rat.mul_zero,Rat.add_zero]) ⟨_,fin_sub (Au (fin_cvn (fin_cvn (fin_nat _) fγ) fS) (fin_cvn fraw fb)) fW,k2⟩
 have e1:less=fun j=>-((m+1:Nat):Rat)*γ j:=funext fun j=>by
  have:=congrFun z j;simp only [Fh] at this;grind
 refine ⟨e1,?_,funext fun j=>?_⟩
 ·refine @anv NR psRing (fun j=>left j+e j) less (Aj (m+1)) γ (Ac p) _ p k1 ?_;show less=fun j=>- cvn (Aj (m+1)) γ j;rw [Fh,e1];funext j; grind
 ·have hn:((m+1:Nat):Rat)≠0:=fun q=>by
   have:=Rat.natCast_eq_zero_iff.mp q;exact U5 this
  have e2:Ac less j=-((m+1:Nat):Rat)*Ac γ j:=by
   rw [e1];show ((j+1:Nat):Rat)*(-((m+1:Nat):Rat)*γ (j+1))=-((m+1:Nat):Rat)*(((j+1:Nat):Rat)*γ (j+1));grind
  have e3:Ac less j*(1 / ((m+1:Nat):Rat))=- Ac γ j:=by
   rw [e2,Rat.neg_mul,Rat.neg_mul,Rat.mul_comm ((m+1:Nat):Rat) (Ac γ j),Rat.mul_assoc,Rat.mul_comm ((m+1:Nat):Rat),Rat.div_mul_cancel hn,Rat.mul_one]
  show BC c' d p m j=((Ac γ j+BC c' d p m j - E' j)+Ac less j*(1 / ((m+1:Nat):Rat)))+E' j;rw [e3]; grind
theorem K5 {h l h' l':LR} (wh:Rw h) (ml:Mon l) (hc:Al (cf h) (cf l)) (wh':Rw h') (ml':Mon l') (hc':Al (cf h') (cf l')) (e:cvn (cf h) (cf l')=cvn (cf h') (cf l)):h=h'/\l=l':=by
 have d1:Df (cf l) (cf l'):=C8 (fin_cf l) (fin_cf l') (Ao hc) ⟨cf h',fin_cf h',by rw [<- e]; exact funext fun j=>Af _ _ j⟩;have d2:Df (cf l') (cf l):=C8 (fin_cf l') (fin_cf l) (Ao hc') ⟨cf h,fin_cf h,by rw [e]; exact funext fun j=>Af _ _ j⟩;have l1:=B7 ml'.dg ml d1;have l2:=B7 ml.dg ml' d2;have p1:=ml.pos;have p2:=ml'.pos;have el:l.length=l'.length:=ah3 p1 p2 l1 l2;refine xq1_2 d1 fun r fr er=>?_;have er':cf l'=cvn (cf l) r:=er.trans (funext fun j=>Af _ _ j);obtain ⟨k,dr⟩:∃ k,Dg k r:=Bv fr fun z=>by
  rw [z] at er;have:=ml'.dg.1;rw [er,Ag] at this;exact this rfl
 have hk:k=0:=by
  have:=Dg.uniq ml'.dg (by rw [er']; exact ml.dg.mul dr);exact ah4 this el
 subst hk;have e0:=DC dr;have r1:r 0=1:=by
  have h1:cf l' (l'.length - 1)=r 0*cf l (l'.length - 1):=by
   rw [er];exact (congrArg (fun z=>cvn z (cf l) (l'.length - 1)) e0).trans (by rw [Ai,Aq])
  rw [ml'.m,<- el,ml.m,Rat.mul_one] at h1;exact h1.symm
 have ell:cf l'=cf l:=by
  rw [er,e0,r1];exact (congrArg (fun z=>cvn z (cf l)) (funext fun j=>Rat.one_mul _)).trans (BV _)
 have l3:l'=l:=Ow ml'.w ml.w ell;subst l3;refine ⟨Ow wh wh' (Az ml.dg (fin_cf h) (fin_cf h') ?_),rfl⟩;rw [funext fun j=>Af (cf l') (cf h) j,e];exact funext fun j=>Af _ _ j
section
variable {R:Type} [Lean.Grind.CommRing R]
end
theorem pow_deg {p:NR} {d:Nat} (h:Dg d p):∀ n,Dg (n*d) (Aa p n)
 | 0=>by rw [Nat.zero_mul]; exact BT
 | n+1=>by rw [Nat.succ_mul]; exact (pow_deg h n).mul h
section
variable {R:Type} [Lean.Grind.CommRing R]
theorem anw {A a B y G T c:R} (e1:y=G*(a*B)+T*A):y - (G*a+c*A)*B=(T - c*B)*A:=by grind
theorem anx {A a B y G t c:R} (e2:y=c*(A*B)+t*a):y - (G*a+c*A)*B=(t - G*B)*a:=by grind
theorem anz {z s s' A a:R} (e:z=s*A) (e':s=s'*a):z=s'*(A*a):=by grind
theorem anA {y x z:R} (e:y - x=z):y=x+z:=by grind
theorem anB {u v g0 g1 s0 s1 A P Pm Y γ Pj N:R} (cr:u*(g1*s1)=v*(g0*s1+s0*g1)) (eg:g0*(A*P)=g1*Y) (es:s0*Pm=s1*γ) (eP:P=Pm*Pj):g1*s1*(u*(A*P))=g1*s1*(v*(Y+γ*Pj*A)):=by
 have h1:g1*s1*(u*(A*P))=u*(g1*s1)*(A*P):=by grind
 rw [h1,cr];have h2:v*(g0*s1+s0*g1)*(A*P)=v*(s1*(g0*(A*P))+g1*A*Pj*(s0*Pm)):=by rw [eP]; grind
 rw [h2,eg,es]; grind
end
theorem SC {A a z:NR} (fA:Ab A) (fa:Ab a) (h:Al A a) (d1:Df A z) (d2:Df a z):Df (cvn A a) z:=by
 refine xq1_2 d1 fun s fs es=>?_;refine xq1_2 d2 fun r fr er=>?_;refine xq1_2 (C8 fa fs (Ao h) ⟨r,fr,es.symm.trans er⟩) fun s' fs' es'=>?_;exact ⟨s',fs',@anz NR psRing z s s' A a es es'⟩
theorem B9 {n:Nat} {x y:NR} (h:Bd n x) (k:Bd n y):Bd n (fun j=>x j+y j):=fun i hi=>by show x i+y i=0; rw [h i hi,k i hi,Rat.add_zero]
theorem Bc {n m k:Nat} {x y:NR} (h:Bd n x) (d:Dg m y) (hk:n+m<=k):Bd k (cvn x y):=by
 cases n with
 | zero =>
  have:x=fun _=>0:=funext fun j=>h j (Nat.zero_le _);rw [this];exact fun i _=>Ag y i
 | succ n=>exact Ep h d.2 (ah5 hk)
theorem SD {A a B y G T c t:NR} {kA ka:Nat} (dA:Dg kA A) (da:Dg ka a) (fB:Ab B) (fT:Ab T) (ft:Ab t) (h:Al A a) (bG:Bd kA G) (bc:Bd ka c) (e1:y=fun j=>cvn G (cvn a B) j+cvn T A j) (e2:y=fun j=>cvn c (cvn A B) j+cvn t a j) :
  Bd (kA+ka) (fun j=>cvn G a j+cvn c A j)/\∃ T',Ab T'/\y=fun j=>cvn (fun j=>cvn G a j+cvn c A j) B j+cvn T' (cvn A a) j:=by
 have fG:=AA bG;have fc:=AA bc;refine ⟨B9 (Bc bG da (Nat.le_refl _)) (Bc bc dA (U4)),?_⟩;refine xq1_2 (SC dA.fin da.fin h ⟨_,fin_sub fT (fin_cvn fc fB),@anw NR psRing A a B y G T c e1⟩ ⟨_,fin_sub ft (fin_cvn fG fB),@anx NR psRing A a B y G t c e2⟩) fun T' fT' eT'=>?_;exact ⟨T',fT',@anA NR psRing y _ _ eT'⟩
theorem BW (xs:List (LR×Nat)):∀ ys:List (LR×Nat),Ad (xs ++ ys)=cvn (Ad xs) (Ad ys):=by
 refine fun ys=>BL (p:=fun ys=>Ad (xs ++ ys)=cvn (Ad xs) (Ad ys)) (by rw [List.append_nil,EK,Bx]) (fun ys y ih=>?_) ys;rw [<- List.append_assoc,AB,ih,AB];exact @DB NR psRing _ _ _
theorem DP (x:LR×Nat):Ad [x]=Aa (cf x.1) x.2:=by
 have:=AB [] x;rw [EK,BV] at this;exact this
section
variable {R:Type} [Lean.Grind.CommRing R]
theorem anC {q0 q1 W Rr others mine back W2 top y E z:R} (e1:q0=W*q1+Rr) (e2:q1=others*mine) (e3:Rr*back=W2*mine+top) (e4:1=back*others+y*mine) (e5:q0 - E*others=z*mine):top - E=(back*z - W*others*back - W2 - E*y)*mine:=by
 have h1:top=Rr*back - W2*mine:=by rw [e3]; grind
 have h2:Rr=q0 - W*(others*mine):=by rw [e1,e2]; grind
 have h3:E=E*(back*others)+E*(y*mine):=by
  have:E*1=E*(back*others+y*mine):=by rw [<- e4]
  grind
 have h4:top - E=Rr*back - W2*mine - (E*(back*others)+E*(y*mine)):=by rw [<- h3,h1]
 rw [h4,h2];have h5:(q0 - W*(others*mine))*back - W2*mine - (E*(back*others)+E*(y*mine))=back*(q0 - E*others) - (W*others*back+W2+E*y)*mine:=by grind
 rw [h5,e5]; grind
theorem anE {q0 E o z P p s:R} (e:q0 - E*o=z*(P*p)) (eE:E=s*p):q0=(s*o+z*P)*p:=by
 have:q0=E*o+z*(P*p):=by rw [<- e]; grind
 rw [this,eE]; grind
end
theorem abO {q0 q1 W Rr others mine back W2 top y E:NR} {k:Nat} (dm:Dg k mine) (f0:Ab q0) (fW:Ab W) (fo:Ab others) (fb:Ab back) (fW2:Ab W2) (fy:Ab y) (bt:Bd k top) (bE:Bd k E)
  (e1:q0=fun j=>cvn W q1 j+Rr j) (e2:q1=cvn others mine) (e3:cvn Rr back=fun j=>cvn W2 mine j+top j) (e4:one0=fun j=>cvn back others j+cvn y mine j) (e5:Df mine (fun j=>q0 j - cvn E others j)):top=E:=by
 refine xq1_2 e5 fun z fz ez=>?_;have k:=@anC NR psRing q0 q1 W Rr others mine back W2 top y E z e1 e2 e3 e4 ez;have d:=FK dm (CN bt bE) ⟨_,fin_sub (fin_sub (fin_sub (fin_cvn fb fz) (fin_cvn (fin_cvn fW fo) fb)) fW2) (fin_cvn (AA bE) fy),k⟩;funext j;have:top j - E j=0:=congrFun d j;grind
theorem BX {n:Nat} {a:NR} (h:Bd n a):Bd (n - 1) (Ac a):=fun i hi=>by
 show _*a (i+1)=0;rw [h (i+1) (by exact O3 hi),Rat.mul_zero]
theorem WZ {n k:Nat} {a:NR} (h:Bd k a):Bd k (cvn (Aj n) a):=fun i hi=>by
 rw [Fh]; show _*a i=0; rw [h i hi,Rat.mul_zero]
theorem Dp {n m k:Nat} {x y:NR} (h:Bd n x) (g:Bd m y) (hk:n+m<=k+1):Bd k (cvn x y):=by
 cases n with
 | zero =>
  have:x=fun _=>0:=funext fun j=>h j (Nat.zero_le _);rw [this]; exact fun i _=>Ag y i
 | succ n=>exact Ep h g hk
theorem LU {c d p:NR} {m kp:Nat} (dp:Dg kp p) (h1:1<=kp) (bc:Bd (m*kp) c) (bd:Bd kp d):Bd ((m+1)*kp) (BC c d p m):=by
 have e:(m+1)*kp=m*kp+kp:=Nat.succ_mul _ _;refine B9 (CN (Bc (BX bc) dp (ah6 e)) (WZ (Dp bc (BX dp.2) (ah7 e)))) (Bc bd (pow_deg dp m) (ah8 e))
theorem W1 {q0 q1 E o p:NR} {m kp:Nat} (dp:Dg kp p) (h1:1<=kp) (fo:Ab o) (hc:Al q0 q1) (hp:Df p q1) (e:Df (Aa p (m+1)) (fun j=>q0 j - cvn E o j)):¬ Df p E:=fun ⟨s,fs,es⟩=>by
 refine xq1_2 e fun z fz ez=>?_;exact CE (BU (Ao hc) hp) dp h1 ⟨_,Au (fin_cvn fs fo) (fin_cvn fz (fin_pow dp.fin m)),@anE NR psRing q0 E o z (Aa p m) p s ez es⟩
theorem Be {a b:NR} {A B n:Nat} (ha:RC A a) (hb:RC B b) (da:Bd n a) (hn:n<=16):RC (A+B+5) (cvn a b):=by
 refine Am ha fun d z d0 dB zB e=>?_;refine Am hb fun d' z' d0' dB' zB' e'=>?_;have z0:∀ i,n<=i->z i=0:=fun i hi=>by
  have:=e i;rw [da i hi,Rat.zero_mul] at this;exact Rat.intCast_eq_zero_iff.mp this.symm
 refine ⟨d*d',cvI z z',Int.mul_ne_zero d0 d0',Nat.lt_of_lt_of_le (pow_mul dB dB') (Nat.pow_le_pow_right (by decide) (ah9)),fun j=>?_,fun j=>?_⟩
 ·exact Nat.lt_of_le_of_lt (KI (c:=4) z0 (fun i=>Nat.le_of_lt (zB i)) (fun i=>Nat.le_of_lt (zB' i)) hn j) (Nat.pow_lt_pow_right (by decide) (aia))
 ·have h:cvn (fun i=>(z i:Rat)) (fun i=>(z' i:Rat)) j=(d:Rat)*((d':Rat)*cvn a b j):=by
   rw [<- AN,<- Ai];exact Ax (fun i=>by rw [<- e i,Rat.mul_comm]) (fun i=>by rw [<- e' i,Rat.mul_comm]) j
  rw [DA,Rat.intCast_mul,h];grind
theorem W3 {a:NR} {k:Nat} (h:Dg k a):∃ p:LR,cf p=a/\p.length=k+1/\Rw p:=by
 have e:cf ((List.range (k+1)).map a)=a:=funext fun i=>by
  unfold cf
  by_cases hi:i<k+1
  ·rw [List.getElem?_map,List.getElem?_range hi]; rfl
  ·rw [List.getElem?_eq_none (by rw [List.length_map,List.length_range]; exact Pk hi),h.2 i (by exact Pk hi)]; rfl
 have l:((List.range (k+1)).map a).length=k+1:=by rw [List.length_map,List.length_range]
 exact ⟨_,e,l,.inr (by rw [l,e]; exact h.1)⟩
theorem K6 {a:NR} {k:Nat} (h:Dg k a) (h1:a k=1):∃ p:LR,cf p=a/\Mon p/\p.length=k+1:=by
 refine xq1_3 (W3 h) fun p e l w=>?_;refine ⟨p,e,⟨w,fun z=>?_,?_⟩,l⟩
 ·rw [z] at l; cases l
 ·rw [l,e]; exact h1
theorem SE {a b:NR} (fa:Ab a) {k:Nat} (db:Dg k b):∃ g S T j,Ab S/\Ab T/\Dg j g/\g j=1/\Df g a/\Df g b/\g=fun i=>cvn S a i+cvn T b i:=by
 refine Ez (H5 (k+1) a b fa db.2) fun g S T fg fS fT da dB e=>?_;obtain ⟨j,dj⟩:∃ j,Dg j g:=Bv fg fun z=>by
  refine xq1_2 dB fun r _ er=>?_;have:=db.1;rw [er,z,Af,Ag] at this;exact this rfl
 obtain ⟨x,hx⟩:∃ x,x=1 / g j:=⟨_,rfl⟩;have e1:x*g j=1:=by rw [hx]; exact Rat.div_mul_cancel dj.1
 have df:∀ {w:NR},Df g w->Df (fun i=>x*g i) w:=fun {w} ⟨r,⟨n,fr⟩,er⟩=>⟨fun i=>g j*r i,⟨n,fun i hi=>by show g j*r i=0; rw [fr i hi,Rat.mul_zero]⟩,by
  rw [er];funext i;rw [Ai,AN,<- Rat.mul_assoc,Rat.mul_comm (g j) x,e1,Rat.one_mul]⟩
 refine ⟨fun i=>x*g i,fun i=>x*S i,fun i=>x*T i,j,?_,?_,⟨by show x*g j≠0; rw [e1]; decide,fun i hi=>by show x*g i=0; rw [dj.2 i hi,Rat.mul_zero]⟩,e1,df da,df dB,?_⟩
 ·obtain ⟨n,f⟩:=fS;exact ⟨n,fun i hi=>by show x*S i=0; rw [f i hi,Rat.mul_zero]⟩
 ·obtain ⟨n,f⟩:=fT;exact ⟨n,fun i hi=>by show x*T i=0; rw [f i hi,Rat.mul_zero]⟩
 ·funext i;rw [Ai,Ai,<- Rat.mul_add,congrFun e i]
section
variable {R:Type} [Lean.Grind.CommRing R]
theorem anF {rad x x' z v v' r:R} (ex:x=x'*z) (ev:v=v'*z) (e:rad*x=r*v):z*(rad*x')=z*(r*v'):=by grind
end
theorem Gj {a b w:NR} {i j k:Nat} (da:Dg i a) (db:Dg j b) (dw:Dg k w) (e:w=cvn a b) (h1:w k=1) (hb:b j=1):a i=1/\k=i+j:=by
 have:=dw.uniq (e ▸ da.mul db);subst this;rw [e,Bu da.2 db.2,hb,Rat.mul_one] at h1;exact ⟨h1,rfl⟩
theorem split (xs:List (LR×Nat)):∀ v:LR,Mon v->(∀ x∈xs,Mon x.1)->Df (cf v) (Bw xs)->∃ vs:List LR,vs.length=xs.length/\cf v=Ad (vs.map fun z=>(z,1))/\∀ (i:Nat) (x:LR×Nat) (z:LR),xs[i]?=some x->vs[i]?=some z->Mon z/\∃ w,Ab w/\cf x.1=cvn w (cf z):=by
 refine BL (p:=fun xs=>∀ v:LR,Mon v->(∀ x∈xs,Mon x.1)->Df (cf v) (Bw xs)->∃ vs:List LR,vs.length=xs.length/\cf v=Ad (vs.map fun z=>(z,1))/\∀ (i:Nat) (x:LR×Nat) (z:LR),xs[i]?=some x->vs[i]?=some z->Mon z/\∃ w,Ab w/\cf x.1=cvn w (cf z)) (fun v mv _ d=>?_) (fun xs x ih v mv hx d=>?_) xs
 ·have:=B7 BT mv (show Df (cf v) one0 from d);exact ⟨[],rfl,mv.one (J2 this),fun i x z h=>by cases h⟩
 ·have mx:=hx x (List.mem_append_right _ (.head _));refine aav (SE (fin_cf v) mx.dg) fun g S T j fS fT dg g1 dv dx eg=>?_;refine xq1_3 (K6 dg g1) fun z ez mz lz=>?_;refine xq1_2 dv fun v' fv' ev=>?_;refine xq1_2 dx fun x' fx' ex=>?_;refine xq1_2 d fun r fr er=>?_;rw [K4] at er;obtain ⟨k,dk⟩:∃ k,Dg k v':=Bv fv' fun q=>by
   have:=mv.dg.1;rw [ev,q,Ag] at this;exact this rfl
  obtain ⟨l1,_⟩:=Gj dk dg mv.dg ev mv.m g1;refine xq1_3 (K6 dk l1) fun w ew mw lw=>?_;have e2:=Az dg (fin_cvn (Eb xs) fx') (fin_cvn fr fv') (@anF NR psRing (Bw xs) (cf x.1) x' g (cf v) v' r ex ev er);have c:=LO dg fv' fx' fS fT eg ev ex;refine xq1_3 (ih w mw (fun y hy=>hx y (List.mem_append_left _ hy)) (by rw [ew]; exact C8 fv' (Eb xs) c ⟨r,fr,e2⟩)) fun vs h1 h2 h3=>?_;refine ⟨vs ++ [z],by rw [List.length_append,List.length_append,h1]; rfl,?_,fun i y u hy hu=>?_⟩
  ·rw [List.map_append,BW,<- h2,List.map_cons,List.map_nil,DP,Cr,ew,ev,ez]
  ·by_cases hi:i<xs.length
   ·rw [List.getElem?_append_left hi] at hy;rw [List.getElem?_append_left (by exact Ms h1 hi)] at hu;exact h3 i y u hy hu
   ·rw [List.getElem?_append_right (by exact CG hi)] at hy;rw [List.getElem?_append_right (by exact o632 h1 hi),h1] at hu;obtain ⟨q,_⟩:=List.getElem?_eq_some_iff.mp hy;have q:i - xs.length<1:=q;rw [show i - xs.length=0 by exact Pt q] at hy hu;cases hy;cases hu;exact ⟨mz,x',fx',by rw [ez]; exact ex⟩
noncomputable def SzD (w:NR) (β:Nat):Prop:=∀ g k,Dg k g->g k=1->Df g w->RC β g
theorem SzD.df {w w':NR} {β:Nat} (h:SzD w β) (d:Df w' w):SzD w' β:=fun g k dg g1 dd=>h g k dg g1 (df_trans dd d)
theorem IW {a b:NR} {i j:Nat} (da:Dg i a) (a1:a i=1) (db:Dg j b) (b1:b j=1):Dg (i+j) (cvn a b)/\cvn a b (i+j)=1:=⟨da.mul db,by rw [Bu da.2 db.2,a1,b1,Rat.mul_one]⟩
theorem pow_lead {p:LR} (mp:Mon p):∀ i,Aa (cf p) i (i*(p.length - 1))=1
 | 0=>by rw [Nat.zero_mul]; rfl
 | i+1=>by
  have d:=pow_deg mp.dg i;show cvn (Aa (cf p) i) (cf p) _=1;rw [Nat.succ_mul,Bu d.2 mp.dg.2,pow_lead mp i,mp.m,Rat.mul_one]
theorem GO {w g:NR} {k j β:Nat} (hw:Dg k w) (hk:k<=17) (kw:RC β w) (dg:Dg j g) (h1:g j=1) (d:Df g w):RC (β+11*(k+1)) g:=by
 refine xq1_3 (d.deg hw dg.fin) fun j' h2 h3 q167_=>xq1_2 q167_ fun r hr er=>?_;have e:=h3.uniq dg;subst e;have k:=KO kw (n:=k+1) (UW hk) hw.2 h3.1 h3.2 hr.1 hr.2 (fun j=>by rw [er,Af]) (O8 h2);refine k.cong fun i=>?_;rw [h1,show (1:Rat) / 1=1 by decide +kernel,Rat.mul_one]
theorem Cz (zs:List (LR×Nat)):(∀ z∈zs,Mon z.1)->∃ a,Dg a (Ad zs)/\Ad zs a=1:=by
 refine BL (p:=fun zs=>(∀ z∈zs,Mon z.1)->∃ a,Dg a (Ad zs)/\Ad zs a=1) (fun _=>⟨0,BT,rfl⟩) (fun zs z ih h=>?_) zs;refine xq1_2 (ih fun y hy=>h y (List.mem_append_left _ hy)) fun a d e=>?_;have mz:=h z (List.mem_append_right _ (.head _));rw [AB];exact ⟨_,IW d e (pow_deg mz.dg z.2) (pow_lead mz z.2)⟩
section
variable {R:Type} [Lean.Grind.CommRing R]
theorem W4 {x y z:R}:x*(y*z)=y*(x*z):=by grind
end
theorem Hk {zs:List (LR×Nat)} (pw:zs.Pairwise fun x y=>Al (cf x.1) (cf y.1)) {as bs:List (LR×Nat)} (e:zs=as ++ bs):Al (Ad as) (Ad bs):=by
 rw [e] at pw;refine BZ (fin_prod _) _ fun y hy=>Ao (BZ (fin_cf y.1) _ fun x hx=>Ao ((List.pairwise_append.mp pw).2.2 x hx y hy))
theorem Oy {zs:List (LR×Nat)} {y:NR} {K β c:Nat} (hm:∀ z∈zs,Mon z.1) (pw:zs.Pairwise fun x y=>Al (cf x.1) (cf y.1)) (dK:Dg K (Ad zs)) (hy:Bd K y) (kz:SzD (Ad zs) β) (ky:RC β y) (hc:K+1<=2 ^ c) :
  ∃ G C:Nat->NR,(G 0=fun _=>0)/\G zs.length=y/\(∀ i,RC (K*(β+c+2)+1+β) (G i)/\∃ a,Dg a (Ad (zs.take i))/\Bd a (G i))/\∀ (i:Nat) (z:LR×Nat),zs[i]?=some z->RC (K*(β+c+2)+1+β) (C i)/\Bd (z.2*(z.1.length - 1)) (C i)/\(G (i+1)=fun j=>cvn (G i) (Aa (cf z.1) z.2) j+cvn (C i) (Ad (zs.take i)) j)/\∃ t,Ab t/\y=fun j=>cvn (C i) (cvn (Ad (zs.take i)) (Ad (zs.drop (i+1)))) j+cvn t (Aa (cf z.1) z.2) j:=by
 have hA:∀ i,∃ G:NR,RC (K*(β+c+2)+1+β) G/\∃ a,Dg a (Ad (zs.take i))/\Bd a G/\∃ T,Ab T/\y=fun j=>cvn G (Ad (zs.drop i)) j+cvn T (Ad (zs.take i)) j:=fun i=>by
  refine xq1_2 (Cz (zs.take i) fun z hz=>hm z (List.mem_of_mem_take hz)) fun a da a1=>?_;refine xq1_2 (Cz (zs.drop i) fun z hz=>hm z (List.mem_of_mem_drop hz)) fun b db b1=>?_;have e:Ad zs=cvn (Ad (zs.take i)) (Ad (zs.drop i)):=by rw [<- BW,List.take_append_drop]
  have hK:K=a+b:=dK.uniq (e ▸ da.mul db);subst hK;refine xq2_5 (Ni da db.2 (Hk pw (List.take_append_drop i zs).symm) hy (kz _ _ da a1 (e ▸ BF db.fin)) (kz _ _ db b1 (e ▸ BM da.fin)) ky hc) fun s t bs bt ey ks kt=>?_;exact ⟨s,ks,a,da,bs,t,AA bt,ey⟩
 have hB:∀ i,∃ C:NR,∀ z:LR×Nat,zs[i]?=some z->RC (K*(β+c+2)+1+β) C/\Bd (z.2*(z.1.length - 1)) C/\∃ t,Ab t/\y=fun j=>cvn C (cvn (Ad (zs.take i)) (Ad (zs.drop (i+1)))) j+cvn t (Aa (cf z.1) z.2) j:=fun i=>by
  cases hz:zs[i]? with
  | none=>exact ⟨fun _=>0,fun z h=>by cases h⟩
  | some z =>
   have hi:=(List.getElem?_eq_some_iff.mp hz).1;have hez:zs[i]=z:=(List.getElem?_eq_some_iff.mp hz).2;have mz:=hm z (List.mem_of_getElem? hz);have e0:zs=zs.take i ++ z :: zs.drop (i+1):=by rw [<- hez,<- List.drop_eq_getElem_cons hi,List.take_append_drop]
   refine xq1_2 (Cz (zs.take i) fun z hz=>hm z (List.mem_of_mem_take hz)) fun a da a1=>?_;refine xq1_2 (Cz (zs.drop (i+1)) fun z hz=>hm z (List.mem_of_mem_drop hz)) fun b db b1=>?_;have dz:=pow_deg mz.dg z.2;have e:Ad zs=cvn (Aa (cf z.1) z.2) (cvn (Ad (zs.take i)) (Ad (zs.drop (i+1)))):=by
    conv=>lhs; rw [e0]
    rw [show z :: zs.drop (i+1)=[z] ++ zs.drop (i+1) from rfl,BW,BW,DP];exact @W4 NR psRing _ _ _
   obtain ⟨dc,c1⟩:=IW da a1 db b1;have hK:K=z.2*(z.1.length - 1)+(a+b):=dK.uniq (e ▸ dz.mul dc);rw [hK] at hy hc ⊢;rw [e0] at pw;refine AI (List.pairwise_append.mp pw) fun p1 p2 p3=>?_;have cz:Al (cf z.1) (cvn (Ad (zs.take i)) (Ad (zs.drop (i+1)))):=C7 (fin_cf z.1) da.fin db.fin (BZ (fin_cf z.1) _ fun y hy=>Ao (p3 y hy z (.head _))) (BZ (fin_cf z.1) _ fun y hy=>(List.pairwise_cons.mp p2).1 y hy);refine xq2_5 (Ni dz dc.2 (Ao (DD dc.fin (fin_cf z.1) (Ao cz) z.2)) hy (kz _ _ dz (pow_lead mz z.2) (e ▸ BF dc.fin)) (kz _ _ dc c1 (e ▸ BM dz.fin)) ky hc) fun s t bs bt ey ks kt=>?_;exact ⟨s,fun z' h=>by cases h; exact ⟨ks,bs,t,AA bt,ey⟩⟩
 obtain ⟨G,hG⟩:=Classical.skolem.mp hA;obtain ⟨C,hC⟩:=Classical.skolem.mp hB;refine ⟨G,C,?_,?_,fun i=>?_,fun i z hz=>?_⟩
 ·refine xq0_2 (hG 0) fun _ q168_=>xq1_3 q168_ fun a da ba _=>?_;have:a=0:=da.uniq BT;subst this;exact funext fun j=>ba j (Nat.zero_le _)
 ·refine xq0_2 (hG zs.length) fun _ q169_=>xq1_3 q169_ fun a da ba q170_=>xq1_2 q170_ fun T fT e=>?_;rw [List.take_length] at da e;rw [List.drop_length] at e;have:=dK.uniq da;subst this;refine (JL dK CD Cm ba hy fT Cg ?_).1;have e:y=fun j=>cvn (G zs.length) one0 j+cvn T (Ad zs) j:=e;rw [<- e];funext j;rw [Ag,Bx,Rat.add_zero]
 ·refine xq0_2 (hG i) fun k q171_=>xq1_3 q171_ fun a da ba _=>?_;exact ⟨k,a,da,ba⟩
 ·refine AI (hC i z hz) fun kC bC q172_=>xq1_2 q172_ fun t ft et=>?_;refine ⟨kC,bC,?_,t,ft,et⟩;refine xq0_2 (hG i) fun _ q173_=>xq1_3 q173_ fun a da ba q174_=>xq1_2 q174_ fun T fT e=>?_;refine xq0_2 (hG (i+1)) fun _ q175_=>xq1_3 q175_ fun a' da' ba' q176_=>xq1_2 q176_ fun T' fT' e'=>?_;have hez:zs[i]'(List.getElem?_eq_some_iff.mp hz).1=z:=(List.getElem?_eq_some_iff.mp hz).2;have ed:Ad (zs.drop i)=cvn (Aa (cf z.1) z.2) (Ad (zs.drop (i+1))):=by
   rw [List.drop_eq_getElem_cons (List.getElem?_eq_some_iff.mp hz).1,hez,show z :: zs.drop (i+1)=[z] ++ zs.drop (i+1) from rfl,BW,DP]
  have et':Ad (zs.take (i+1))=cvn (Ad (zs.take i)) (Aa (cf z.1) z.2):=by
   rw [List.take_add_one,hz];exact AB _ _
  rw [ed] at e;rw [et'] at da' e';have mz:=hm z (List.mem_of_getElem? hz);have dz:=pow_deg mz.dg z.2;have c1:Al (Ad (zs.take i)) (Aa (cf z.1) z.2):=by
   refine BU (Hk (as:=zs.take i) (bs:=zs.drop i) pw (List.take_append_drop i zs).symm) (BB _) |> fun h=>Ao (BU (Ao h) ?_);rw [ed]; exact BF (fin_prod _)
  refine xq0_2 (SD da dz (fin_prod (zs.drop (i+1))) fT ft c1 ba bC e et) fun bJ q177_=>xq1_2 q177_ fun T2 fT2 e2=>?_;have:=da'.uniq (da.mul dz);subst this;refine (JL da' (fin_prod (zs.drop (i+1))) ?_ ba' bJ fT' fT2 (e'.symm.trans e2)).1;rw [<- et'];exact Hk pw (List.take_append_drop (i+1) zs).symm
section
variable {R:Type} [Lean.Grind.CommRing R]
theorem anG {c W W' P p A B g:R} (e1:c=W*P+A) (e2:c=W'*(P*p)+B) (eg:W=g+W'*p):B=A+g*P:=by grind
theorem anH {g0 M g1 Y s:R} (e:g0*M=g1*Y) (eM:M=s*g1):g1*Y=g1*(g0*s):=by grind
theorem anI {g0 M g1 Y:R} (e:g0*M=g1*Y):M*g0=Y*g1:=by grind
theorem anJ {h l u v q0 q1 P y dh dl dP dy W Rr:R} (e:((dh*l - h*dl)*v+u*(l*l))*q1=q0*(l*l*v)) (eh:h=P*l+y) (edh:dh=dP*l+P*dl+dy) (e0:q0=W*q1+Rr):((dy*l - y*dl)*v+u*(l*l))*q1 - Rr*(l*l*v)=(W - dP)*(q1*(l*l*v)):=by
 subst eh edh e0; grind
end
theorem pow_add (p:NR) (a:Nat):∀ b,Aa p (a+b)=cvn (Aa p a) (Aa p b)
 | 0=>by rw [Nat.add_zero,show Aa p 0=one0 from psNat_one,Bx]
 | b+1=>by
  show cvn (Aa p (a+b)) p=cvn _ (cvn (Aa p b) p);rw [pow_add p a b];exact @DB NR psRing _ _ _
theorem JM (p:NR):Aa p 0=one0:=psNat_one
theorem Gl {x p:NR} {n k:Nat} (dp:Dg k p) (fx:Ab x) (h:Bd (n+k) (cvn x p)):Bd n x:=by
 rcases dg_of fx with z | ⟨j,dj⟩
 ·rw [z]; exact fun _ _=>rfl
 ·have d:=dj.mul dp;have:j<n:=Classical.byContradiction fun q=>d.1 (h _ (aib q));exact dj.2.mono (JU this)
theorem SF {c p:NR} {m d N B:Nat} (dp:Dg d p) (hc:Bd (m*d) c) (kp:∀ i,i<=m->RC B (Aa p i)) (kR:∀ i W R,i<=m->Ab W->(c=fun j=>cvn W (Aa p i) j+R j)->Bd (i*d) R->RC N R) :
  ∃ W γ R:Nat->NR,W 0=c/\(W m=fun _=>0)/\(R 0=fun _=>0)/\R m=c/\(∀ i,i<=m->Bd (m*d - i*d) (W i)/\RC (N+m*d*(B+1)) (W i)/\RC N (R i)/\Bd (i*d) (R i))/\∀ i,i<m->(W i=fun j=>γ i j+cvn (W (i+1)) p j)/\Bd d (γ i)/\RC (N+d*(B+1)) (γ i)/\R (i+1)=fun j=>R i j+cvn (γ i) (Aa p i) j:=by
 have kc:RC N c:=kR m (fun _=>0) c (Nat.le_refl _) Cg (funext fun j=>by rw [Ag,Rat.zero_add]) hc;have ex:∀ i,∃ x:NR×NR,i<=m->(c=fun j=>cvn x.1 (Aa p i) j+x.2 j)/\Bd (i*d) x.2/\Bd (m*d - i*d) x.1/\RC (N+m*d*(B+1)) x.1:=fun i=>by
  by_cases hi:i<=m
  ·have dP:=pow_deg dp i;have hle:i*d<=m*d:=Nat.mul_le_mul_right _ hi;refine xq2_5 (Fd kc (kp i hi) dP.1 dP.2 (N:=m*d - i*d) (by rw [show i*d+(m*d - i*d)=m*d by exact U6 hle]; exact hc)) fun W R e1 e2 e3 e4 e5=>?_;exact ⟨(W,R),fun _=>⟨funext e1,e2,e3,e4.mono (Nat.add_le_add_left (Nat.mul_le_mul_right _ (J3)) _)⟩⟩
  ·exact ⟨(fun _=>0,fun _=>0),fun z=>absurd z hi⟩
 obtain ⟨f,h⟩:=Classical.skolem.mp ex;have w0:(f 0).1=c:=by
  refine Bz (h 0 (Nat.zero_le _)) fun e r _ _=>?_;funext j;have:=congrFun e j;rw [r j (by exact U7),Rat.add_zero,JM,Bx] at this;exact this.symm
 have r0:(f 0).2=fun _=>0:=by
  refine Bz (h 0 (Nat.zero_le _)) fun e r _ _=>?_;exact funext fun j=>r j (U7)
 have wm:(f m).1=fun _=>0:=by
  refine Bz (h m (Nat.le_refl _)) fun _ _ b _=>?_;exact funext fun j=>b j (U8)
 have rm:(f m).2=c:=by
  obtain ⟨e,_⟩:=h m (Nat.le_refl _);rw [wm] at e;rw [e];funext j;rw [Ag,Rat.zero_add]
 refine ⟨fun i=>(f i).1,fun i j=>(f i).1 j - cvn (f (i+1)).1 p j,fun i=>(f i).2,w0,wm,r0,rm,fun i hi=>?_,fun i hi=>?_⟩
 ·refine Bz (h i hi) fun e r b k=>?_;exact ⟨b,k,kR i _ _ hi (AA b) e r,r⟩
 ·refine Bz (h i (Nat.le_of_lt hi)) fun e1 r1 b1 k1=>?_;refine Bz (h (i+1) hi) fun e2 r2 b2 k2=>?_;have eW:(f i).1=fun j=>(fun j=>(f i).1 j - cvn (f (i+1)).1 p j) j+cvn (f (i+1)).1 p j:=funext fun j=>by
   show _=(f i).1 j - cvn (f (i+1)).1 p j+cvn (f (i+1)).1 p j;grind
  have eR:=@anG NR psRing c (f i).1 (f (i+1)).1 (Aa p i) p (f i).2 (f (i+1)).2 _ e1 e2 eW;have fg:Ab (fun j=>(f i).1 j - cvn (f (i+1)).1 p j):=fin_sub (AA b1) (fin_cvn (AA b2) dp.fin);have dP:=pow_deg dp i;have sm:(i+1)*d=d+i*d:=by rw [Nat.succ_mul,Nat.add_comm]
  have bg:Bd d (fun j=>(f i).1 j - cvn (f (i+1)).1 p j):=Gl dP fg fun j hj=>by
   have q:(f (i+1)).2 j=(f i).2 j+cvn (fun j=>(f i).1 j - cvn (f (i+1)).1 p j) (Aa p i) j:=congrFun eR j;rw [r2 j (by exact aic sm hj),r1 j (by exact F4 hj),Rat.zero_add] at q;exact q.symm
  refine ⟨eW,bg,?_,eR⟩;have kR1:=kR (i+1) _ _ hi (AA b2) e2 r2;refine xq2_5 (Fd kR1 (kp i (Nat.le_of_lt hi)) dP.1 dP.2 (N:=d) (r2.mono (aid sm))) fun V S g1 g2 g3 g4 g5=>?_;have u:=C5 dP.1 dP.2 (AA g3) fg g2 r1 fun j=>by
   rw [<- g1 j,Rat.add_comm];exact congrFun eR j
  exact g4.cong fun j=>(u.1 j).symm
theorem Es {g0 g1:LR} {M Y:NR} {kM n a b:Nat} (w0:Rw g0) (m1:Mon g1) (hc:Al (cf g0) (cf g1)) (dM:Dg kM M) (M1:M kM=1) (e:cvn (cf g0) M=cvn (cf g1) Y) (bY:Bd n Y) (kY:RC a Y) (kd:SzD M b):Df (cf g1) M/\RC b (cf g1)/\g1.length<=kM+1/\RC (a+n*(b+1)) (cf g0)/\g0.length<=n:=by
 have fY:=AA bY;have d1:Df (cf g1) M:=C8 (fin_cf g1) dM.fin (Ao hc) ⟨Y,fY,@anI NR psRing (cf g0) M (cf g1) Y e⟩;refine xq1_2 (id d1) fun s fs es=>?_;obtain ⟨k,dk⟩:∃ k,Dg k s:=Bv fs fun q=>by
  have:=dM.1;rw [es,q,Ag] at this;exact this rfl
 obtain ⟨s1,hk⟩:=Gj dk m1.dg dM es M1 m1.m;have eY:Y=cvn (cf g0) s:=Az m1.dg fY (fin_cvn (fin_cf g0) fs) (@anH NR psRing (cf g0) M (cf g1) Y s e es);have ks:=kd s k dk s1 ⟨cf g1,fin_cf g1,es.trans (funext fun j=>Af _ _ j)⟩;refine xq2_5 (Fd kY ks dk.1 dk.2 (N:=n) (bY.mono (Mj))) fun W S h1 h2 h3 h4 h5=>?_;have u:=C5 dk.1 dk.2 (AA h3) (fin_cf g0) (R':=fun _=>0) h2 (fun _ _=>rfl) fun j=>by
  rw [<- h1 j,Rat.add_zero]; exact congrFun eY j
 exact ⟨d1,kd _ _ m1.dg m1.m d1,B7 dM m1 d1,h4.cong fun j=>(u.1 j).symm,Ay w0 fun j hj=>by rw [<- u.1 j]; exact h3 j hj⟩
theorem Oz {h l u v q0 q1 P y W Rr:NR} {kl kv k1:Nat} (dl:Dg kl l) (dv:Dg kv v) (d1:Dg k1 q1) (by':Bd kl y) (bu:Bd kv u) (bR:Bd k1 Rr) (fP:Ab P) (fW:Ab W) (e:cvn (Dn h l u v) q1=cvn q0 (cvn (cvn l l) v)) (eh:h=fun j=>cvn P l j+y j) (e0:q0=fun j=>cvn W q1 j+Rr j):W=Ac P:=by
 have edh:Ac h=fun j=>cvn (Ac P) l j+cvn P (Ac l) j+Ac y j:=by rw [eh,DE,AR]
 have k:=@anJ NR psRing h l u v q0 q1 P y (Ac h) (Ac l) (Ac P) (Ac y) W Rr e eh edh e0;have dD:=d1.mul ((dl.mul dl).mul dv);have b1:Bd (kl+kl) (fun j=>cvn (Ac y) l j - cvn y (Ac l) j):=CN (Bc (BX by') dl (aie)) (Dp by' (BX dl.2) (aif));have b2:Bd (kl+kl+kv) (fun j=>cvn (fun j=>cvn (Ac y) l j - cvn y (Ac l) j) v j+cvn u (cvn l l) j):=B9 (Bc b1 dv (Nat.le_refl _)) (Bc bu (dl.mul dl) (aig));have b3:Bd (k1+(kl+kl+kv)) (fun j=>cvn (fun j=>cvn (fun j=>cvn (Ac y) l j - cvn y (Ac l) j) v j+cvn u (cvn l l) j) q1 j - cvn Rr (cvn (cvn l l) v) j):=CN (Bc b2 d1 (aih)) (Bc bR ((dl.mul dl).mul dv) (Nat.le_refl _));have z:=FK dD b3 ⟨_,fin_sub fW (fin_der fP),k⟩;have q:cvn (cvn q1 (cvn (cvn l l) v)) (fun j=>W j - Ac P j)=cvn (cvn q1 (cvn (cvn l l) v)) (fun _=>0):=by
  refine ((funext (Af _ _)).trans (k.symm.trans z)).trans ?_;exact funext fun j=>by rw [Af,Ag]
 have:=Az dD (fin_sub fW (fin_der fP)) Cg q;funext j;have:W j - Ac P j=0:=congrFun this j;grind
noncomputable def DigP (p:NR):NR->List LR->NR->Prop
 | X,[],Y=>X=Y
 | X,e :: es,Y=>∃ X',(X=fun j=>cf e j+cvn X' p j)/\DigP p X' es Y
theorem LV {p Y:NR} (fp:Ab p) (fY:Ab Y):∀ (es:List LR) (X:NR),DigP p X es Y->∃ Xs:Nat->NR,Xs 0=X/\Xs es.length=Y/\(∀ i,Ab (Xs i))/\∀ (i:Nat) (e:LR),es[i]?=some e->Xs i=fun j=>cf e j+cvn (Xs (i+1)) p j
 | [],X,h=>⟨fun _=>Y,h.symm,rfl,fun _=>fY,fun i e h=>by cases h⟩
 | e :: es,X,⟨X',e1,h⟩=>by
  refine xq1_4 (LV fp fY es X' h) fun Xs h0 hl hf hs=>?_;refine ⟨fun | 0=>X | i+1=>Xs i,rfl,hl,fun | 0=>?_ | i+1=>hf i,fun | 0,a,ha=>?_ | i+1,a,ha=>hs i a ha⟩
  ·show Ab X;rw [e1];exact Au (fin_cf e) (fin_cvn (h0 ▸ hf 0) fp)
  ·cases ha;show X=fun j=>cf e j+cvn (Xs 0) p j;rw [h0]; exact e1
section
variable {R:Type} [Lean.Grind.CommRing R]
theorem anK {X Z A P e A' p:R} (e1:X=Z+A*P) (e2:A=e+A'*p):X=(Z+e*P)+A'*(P*p):=by grind
end
theorem Ql {p:NR} {es:List LR} {Xs:Nat->NR} {d A B:Nat} (dp:Dg d p) (kp:∀ i,i<=es.length->RC B (Aa p i)) (hf:∀ i,Ab (Xs i)) (hs:∀ (i:Nat) (e:LR),es[i]?=some e->Xs i=fun j=>cf e j+cvn (Xs (i+1)) p j) (he:∀ e∈es,e.length<=d) (bX:Bd (es.length*d) (Xs 0)) (kX:RC A (Xs 0)) :
  (Xs es.length=fun _=>0)/\∀ i,i<=es.length->RC (A+es.length*d*(B+1)) (Xs i)/\Bd (es.length*d - i*d) (Xs i):=by
 have st:∀ i,i<=es.length->∃ Z,Bd (i*d) Z/\Xs 0=fun j=>Z j+cvn (Xs i) (Aa p i) j:=fun i=>by
  induction i with
  | zero=>exact fun _=>⟨fun _=>0,fun _ _=>rfl,funext fun j=>by rw [JM,Bx,Rat.zero_add]⟩
  | succ i ih =>
   intro hi;refine xq1_2 (ih (o37 hi)) fun Z bZ e=>?_;have hg:es[i]?=some es[i]:=List.getElem?_eq_getElem hi;refine ⟨_,?_,@anK NR psRing (Xs 0) Z (Xs i) (Aa p i) (cf es[i]) (Xs (i+1)) p e (hs i _ hg)⟩;have sm:(i+1)*d=d+i*d:=by rw [Nat.succ_mul,Nat.add_comm]
   exact B9 (bZ.mono (aii sm)) (Bc ((AQ es[i]).mono (he _ (List.getElem_mem hi))) (pow_deg dp i) (aij sm))
 have key:∀ i,i<=es.length->RC (A+es.length*d*(B+1)) (Xs i)/\Bd (es.length*d - i*d) (Xs i):=fun i hi=>by
  refine xq1_2 (st i hi) fun Z bZ e=>?_;have dP:=pow_deg dp i;have hle:i*d<=es.length*d:=Nat.mul_le_mul_right _ hi;refine xq2_5 (Fd kX (kp i hi) dP.1 dP.2 (N:=es.length*d - i*d) (bX.mono (aik))) fun V S g1 g2 g3 g4 g5=>?_;have u:=C5 dP.1 dP.2 (AA g3) (hf i) g2 bZ fun j=>by
   rw [<- g1 j,Rat.add_comm]; exact congrFun e j
  exact ⟨(g4.cong fun j=>(u.1 j).symm).mono (Nat.add_le_add_left (Nat.mul_le_mul_right _ (J3)) _),fun j hj=>by rw [<- u.1 j]; exact g3 j hj⟩
 exact ⟨funext fun j=>(key _ (Nat.le_refl _)).2 j (U8),key⟩
theorem Qm {a b:NR} {i j:Nat} (da:Dg i a) (a1:a i=1) (db:Dg j b) (b1:b j=1) (h:Df a b) (k:Df b a):a=b:=by
 refine xq1_3 (h.deg db da.fin) fun n hn d1 q178_=>xq1_2 q178_ fun r dr er=>?_;refine xq1_3 (k.deg da db.fin) fun n' hn' d2 _=>?_;have e1:=d1.uniq da;have e2:=d2.uniq db;rw [show j - n=0 by exact ail e2 e1 hn'] at dr;have l:=Gj dr da db er b1 a1;rw [er,DC dr,l.1,Cy];funext x;rw [Rat.one_mul]
noncomputable def GrH (h l u v q0 q1 P:LR) (y:NR):Prop :=
 Mon l/\
 Mon v/\
 Mon q1/\
 Al (cf h) (cf l)/\
 Al (cf u) (cf v)/\
 Al (cf v) (Ac (cf v))/\
 Al (cf q0) (cf q1)/\
 cvn (Dn (cf h) (cf l) (cf u) (cf v)) (cf q1)=cvn (cf q0) (cvn (cvn (cf l) (cf l)) (cf v))/\
 (cf h=fun j=>cvn (cf P) (cf l) j+y j)/\
 Bd (l.length - 1) y/\
 Bd (v.length - 1) (cf u)/\
 P.length<=4/\
 cf P 0=0/\
 l.length<=6/\
 v.length<=5/\
 SzD (cf l) 140/\
 SzD (cf v) 120/\
 RC 62 (cf P)/\
 RC 180 y/\
 RC 160 (cf u)
section
variable {h l u v q0 q1 P:LR} {y:NR} (h_:GrH h l u v q0 q1 P y)
def GrH.ml:=h_.1
def GrH.mv:=h_.2.1
def GrH.m1:=h_.2.2.1
def GrH.chl:=h_.2.2.2.1
def GrH.cuv:=h_.2.2.2.2.1
def GrH.sv:=h_.2.2.2.2.2.1
def GrH.c01:=h_.2.2.2.2.2.2.1
def GrH.e:=h_.2.2.2.2.2.2.2.1
def GrH.eh:=h_.2.2.2.2.2.2.2.2.1
def GrH.by':=h_.2.2.2.2.2.2.2.2.2.1
def GrH.bu:=h_.2.2.2.2.2.2.2.2.2.2.1
def GrH.lP:=h_.2.2.2.2.2.2.2.2.2.2.2.1
def GrH.P0:=h_.2.2.2.2.2.2.2.2.2.2.2.2.1
def GrH.ll:=h_.2.2.2.2.2.2.2.2.2.2.2.2.2.1
def GrH.lv:=h_.2.2.2.2.2.2.2.2.2.2.2.2.2.2.1
def GrH.kl:=h_.2.2.2.2.2.2.2.2.2.2.2.2.2.2.2.1
def GrH.kv:=h_.2.2.2.2.2.2.2.2.2.2.2.2.2.2.2.2.1
def GrH.kP:=h_.2.2.2.2.2.2.2.2.2.2.2.2.2.2.2.2.2.1
def GrH.ky:=h_.2.2.2.2.2.2.2.2.2.2.2.2.2.2.2.2.2.2.1
def GrH.ku:=h_.2.2.2.2.2.2.2.2.2.2.2.2.2.2.2.2.2.2.2
end
noncomputable def z1 (z:LR):LR×Nat:=(z,1)
noncomputable def lo (x:LR×Nat):LR×Nat:=(x.1,x.2 - 1)
noncomputable def Fra (l u v:LR) (y:NR) (xs:List (LR×Nat)) (vs:List LR) (G C U E:Nat->NR):Prop :=
 cf l=CZ xs/\
 Df (cf v) (Bw xs)/\
 vs.length=xs.length/\
 cf v=Ad (vs.map z1)/\
 (∀ (i:Nat) (x:LR×Nat) (z:LR),xs[i]?=some x->vs[i]?=some z->Mon z/\∃ w,Ab w/\cf x.1=cvn w (cf z))/\
 (∀ (i j:Nat) (x:LR×Nat) (z:LR),i≠j->xs[i]?=some x->vs[j]?=some z->Al (cf x.1) (cf z))/\
 (G 0=fun _=>0)/\
 G xs.length=y/\
 (∀ i,RC 1106 (G i)/\∃ a,Dg a (Ad ((xs.map lo).take i))/\Bd a (G i))/\
 (∀ (i:Nat) (z:LR×Nat),(xs.map lo)[i]?=some z->RC 1106 (C i)/\Bd (z.2*(z.1.length - 1)) (C i)/\(G (i+1)=fun j=>cvn (G i) (Aa (cf z.1) z.2) j+cvn (C i) (Ad ((xs.map lo).take i)) j)/\∃ t,Ab t/\y=fun j=>cvn (C i) (cvn (Ad ((xs.map lo).take i)) (Ad ((xs.map lo).drop (i+1)))) j+cvn t (Aa (cf z.1) z.2) j)/\
 (U 0=fun _=>0)/\
 U xs.length=cf u/\
 (∀ i,RC 821 (U i)/\∃ a,Dg a (Ad ((vs.map z1).take i))/\Bd a (U i))/\
 ∀ (i:Nat) (z:LR×Nat),(vs.map z1)[i]?=some z->RC 821 (E i)/\Bd (z.2*(z.1.length - 1)) (E i)/\(U (i+1)=fun j=>cvn (U i) (Aa (cf z.1) z.2) j+cvn (E i) (Ad ((vs.map z1).take i)) j)/\∃ t,Ab t/\cf u=fun j=>cvn (E i) (cvn (Ad ((vs.map z1).take i)) (Ad ((vs.map z1).drop (i+1)))) j+cvn t (Aa (cf z.1) z.2) j
section
variable {l u v:LR} {y:NR} {xs:List (LR×Nat)} {vs:List LR} {G C U E:Nat->NR} (h_:Fra l u v y xs vs G C U E)
def Fra.el:=h_.1
def Fra.dv:=h_.2.1
def Fra.lv:=h_.2.2.1
def Fra.ev:=h_.2.2.2.1
def Fra.sp:=h_.2.2.2.2.1
def Fra.cz:=h_.2.2.2.2.2.1
def Fra.G0:=h_.2.2.2.2.2.2.1
def Fra.Gn:=h_.2.2.2.2.2.2.2.1
def Fra.Gk:=h_.2.2.2.2.2.2.2.2.1
def Fra.Gs:=h_.2.2.2.2.2.2.2.2.2.1
def Fra.U0:=h_.2.2.2.2.2.2.2.2.2.2.1
def Fra.Un:=h_.2.2.2.2.2.2.2.2.2.2.2.1
def Fra.Uk:=h_.2.2.2.2.2.2.2.2.2.2.2.2.1
def Fra.Us:=h_.2.2.2.2.2.2.2.2.2.2.2.2.2
end
theorem pw_lt {α:Type} {r:α->α->Prop} {xs:List α} (h:xs.Pairwise r) {i j:Nat} {a b:α} (hij:i<j) (ha:xs[i]?=some a) (hb:xs[j]?=some b):r a b:=by
 obtain ⟨h1,e1⟩:=List.getElem?_eq_some_iff.mp ha;obtain ⟨h2,e2⟩:=List.getElem?_eq_some_iff.mp hb;rw [<- e1,<- e2];exact List.pairwise_iff_getElem.mp h i j h1 h2 hij
theorem RL {k:Nat} (h:k<=5):k*(180+3+2)+1+180<=1106:=Nat.le_trans (Nat.add_le_add_right (Nat.add_le_add_right (Nat.mul_le_mul_right _ h) 1) 180) (by decide)
theorem anL {k:Nat} (h:k<=4):k*(160+3+2)+1+160<=821:=Nat.le_trans (Nat.add_le_add_right (Nat.add_le_add_right (Nat.mul_le_mul_right _ h) 1) 160) (by decide)
theorem abP {h l u v q0 q1 P:LR} {y:NR} {xs:List (LR×Nat)} (H:GrH h l u v q0 q1 P y) (I:PtOK (cf q1) [] xs):∃ vs G C U E,Fra l u v y xs vs G C U E:=by
 refine AI (WX I (fin_cf h) (fin_cf u) (fin_cf q0) H.ml.dg H.mv.dg H.chl H.cuv H.sv H.c01 H.e) fun d1 d2 d3=>?_;have mx:∀ x∈xs,Mon x.1:=fun x hx=>(I.one x hx).mon;have mlo:∀ z∈xs.map lo,Mon z.1:=fun z hz=>by
  refine xq1_2 (List.mem_map.mp hz) fun x hx q179_=>?_; obtain rfl:=q179_;exact mx x hx
 refine xq1_2 (Cz (xs.map lo) mlo) fun a da a1=>?_;have el:cf l=CZ xs:=Qm H.ml.dg H.ml.m da a1 d1 d2;refine xq1_3 (split xs v H.mv mx d3) fun vs hl ev sp=>?_;have pwx:xs.Pairwise fun x y=>Al (cf x.1) (cf y.1):=I.pw.imp fun h=>h.1;have pw1:(xs.map lo).Pairwise fun x y=>Al (cf x.1) (cf y.1):=List.pairwise_map.mpr pwx;have cz:∀ (i j:Nat) (x:LR×Nat) (z:LR),i≠j->xs[i]?=some x->vs[j]?=some z->Al (cf x.1) (cf z):=fun i j x z hij hx hz=>by
  have hj:=(List.getElem?_eq_some_iff.mp hz).1;have hx':xs[j]?=some (xs[j]'(Jc hl hj)):=List.getElem?_eq_getElem _;refine xq0_2 (sp j _ z hx' hz) fun _ q180_=>xq1_2 q180_ fun w fw ew=>?_;refine Ao (BU (b:=cf x.1) (a:=cf (xs[j]'(Jc hl hj)).1) ?_ ⟨w,fw,ew⟩)
  by_cases q:i<j
  ·exact Ao (pw_lt pwx q hx hx')
  ·exact pw_lt pwx (Pu q hij) hx' hx
 have mvs:∀ z∈vs,Mon z:=fun z hz=>by
  obtain ⟨j,hj⟩:=List.mem_iff_getElem?.mp hz;have hj':=(List.getElem?_eq_some_iff.mp hj).1;exact (sp j (xs[j]'(Jc hl hj')) z (List.getElem?_eq_getElem _) hj).1
 have pw2:(vs.map z1).Pairwise fun x y=>Al (cf x.1) (cf y.1):=List.pairwise_map.mpr (List.pairwise_iff_getElem.mpr fun i j hi hj hij=>by
  have hx':xs[i]?=some (xs[i]'(Jc hl hi)):=List.getElem?_eq_getElem _;refine xq0_2 (sp i _ _ hx' (List.getElem?_eq_getElem hi)) fun _ q181_=>xq1_2 q181_ fun w fw ew=>?_;exact BU (cz i j _ _ (aim hij) hx' (List.getElem?_eq_getElem hj)) ⟨w,fw,ew⟩)
 have p1:=H.ml.pos;have p2:=H.mv.pos;have l6:=H.ll;have l5:=H.lv;have mz1:∀ z∈vs.map z1,Mon z.1:=fun z hz=>by
  refine xq1_2 (List.mem_map.mp hz) fun x hx q182_=>?_; obtain rfl:=q182_;exact mvs x hx
 refine Am (Oy (c:=3) mlo pw1 (show Dg _ (CZ xs) from el ▸ H.ml.dg) H.by' (show SzD (CZ xs) 180 from fun g k dg g1 d=>(H.kl g k dg g1 (by rw [el]; exact d)).mono (Pv)) H.ky (by show _<=8; exact ain l6)) fun G C G0 Gn Gk Gs=>?_;refine Am (Oy (c:=3) mz1 pw2 (show Dg _ (Ad (vs.map z1)) from (show cf v=Ad (vs.map z1) from ev) ▸ H.mv.dg) H.bu (show SzD (Ad (vs.map z1)) 160 from fun g k dg g1 d=>(H.kv g k dg g1 (by rw [ev]; exact d)).mono (aio)) H.ku (by show _<=8; exact aip l5)) fun U E U0 Un Uk Us=>?_;have n1:=RL (show l.length - 1<=5 by exact Px l6);have n2:=anL (show v.length - 1<=4 by exact U9 l5);rw [List.length_map] at Gn Un;rw [hl] at Un;exact ⟨vs,G,C,U,E,el,d3,hl,ev,sp,cz,G0,Gn,fun i=>⟨(Gk i).1.mono n1,(Gk i).2⟩,fun i z hz=>⟨(Gs i z hz).1.mono n1,(Gs i z hz).2⟩,U0,Un,fun i=>⟨(Uk i).1.mono n2,(Uk i).2⟩,fun i z hz=>⟨(Us i z hz).1.mono n2,(Us i z hz).2⟩⟩
theorem W5 {a:NR} {n:Nat} (h:Bd n a):∃ p:LR,cf p=a/\p.length=n:=by
 refine ⟨(List.range n).map a,funext fun i=>?_,by rw [List.length_map,List.length_range]⟩;unfold cf
 by_cases hi:i<n
 ·rw [List.getElem?_map,List.getElem?_range hi]; rfl
 ·rw [List.getElem?_eq_none (by rw [List.length_map,List.length_range]; exact CG hi),h i (by exact CG hi)]; rfl
theorem Ec {b n:Nat} {a:NR} (h:RC b a) (hb:Bd n a) (hn:n<=31):RC (b+5) (Ac a):=by
 refine xq1_2 (W5 hb) fun p q183_ l=>?_; obtain rfl:=q183_;exact KQ h (aiq l hn)
theorem Gm {A B:Nat} {a b:NR} (h:RC A a) (k:RC B b):RC (A+B+2) (fun i=>a i - b i):=by
 refine ((h.add (k.scale (k:=1) (x:=-1) ⟨by decide,by decide⟩)).cong fun i=>?_).mono (air);show a i - b i=a i+b i*-1;grind
theorem W6 {m:Nat} (h:m<16):RS 4 ((m:Nat):Rat):=⟨by rw [Rat.num_natCast]; exact h,by rw [Rat.den_natCast]; decide⟩
theorem LW {c d p:NR} {m n kp a b e:Nat} (kc:RC a c) (bc:Bd n c) (hn:n<=16) (kd:RC e d) (bd:Bd kp d) (hk:kp<=15) (kp':RC b p) (bp:Bd (kp+1) p) (kpm:RC b (Aa p m)) (hm:m<16):RC (2*a+3*b+e+40) (BC c d p m):=by
 have h1:=Be (Ec kc bc (ais hn)) kp' (BX bc) (ait hn);have h2:=Be kc (Ec kp' bp (aiu hk)) bc hn;have h3:RC (a+(b+5)+5+4) (cvn (Aj m) (cvn c (Ac p))):=by
  rw [Fh];exact (h2.scale (W6 hm)).cong fun i=>Rat.mul_comm _ _
 exact ((Gm h1 h3).add (Be kd kpm bd (aiv hk))).mono (aiw)
noncomputable def OA (q1 R:NR) (x:LR×Nat) (es:List LR):Prop:=∃ (others back y W2 top T:LR),q1=cvn (cf others) (Aa (cf x.1) x.2)/\(one0=fun j=>cvn (cf back) (cf others) j+cvn (cf y) (Aa (cf x.1) x.2) j)/\(cvn R (cf back)=fun j=>cvn (cf W2) (Aa (cf x.1) x.2) j+cf top j)/\Bd (x.2*(x.1.length - 1)) (cf top)/\es.length=x.2/\DigP (cf x.1) (cf top) es (cf T)/\∀ e∈es,Rw e/\e.length<x.1.length/\RC 400000 (cf e)
section
variable {R:Type} [Lean.Grind.CommRing R]
theorem anM {w z r V v v' rad p:R} (e1:rad=p*r) (ep:p=w*z) (e2:rad=V*v) (ev:v=z*v'):z*(V*v')=z*(r*w):=by grind
theorem anN {u V E v' t z s w r p:R} (eu:u=E*v'+t*z) (eV:V=s*w) (e:V*v'=r*w) (ep:p=w*z):u*V=E*w*r+t*s*p:=by
 have h1:u*V=E*(V*v')+t*z*V:=by rw [eu]; grind
 rw [h1,e,eV,ep]; grind
theorem anO {q l rad P B p r:R} (eq:q=l*rad) (el:l=P*B) (er:rad=p*r):q=B*r*(P*p):=by grind
end
theorem FL {xs:List (LR×Nat)} {i:Nat} {x:LR×Nat} (h:xs[i]?=some x):(xs.map lo)[i]?=some (x.1,x.2 - 1):=by rw [List.getElem?_map,h]; rfl
theorem FM {vs:List LR} {i:Nat} {z:LR} (h:vs[i]?=some z):(vs.map z1)[i]?=some (z,1):=by rw [List.getElem?_map,h]; rfl
theorem Ed {zs:List (LR×Nat)} {i:Nat} {z:LR×Nat} (hz:zs[i]?=some z):Ad zs=cvn (Aa (cf z.1) z.2) (cvn (Ad (zs.take i)) (Ad (zs.drop (i+1)))):=by
 have hi:=(List.getElem?_eq_some_iff.mp hz).1;have hez:zs[i]=z:=(List.getElem?_eq_some_iff.mp hz).2
 conv=>lhs; rw [<- List.take_append_drop i zs,List.drop_eq_getElem_cons hi,hez,show z :: zs.drop (i+1)=[z] ++ zs.drop (i+1) from rfl,BW,BW,DP]
 exact @W4 NR psRing _ _ _
theorem FN {zs:List (LR×Nat)} {i:Nat} {p:NR} (fp:Ab p) (h:∀ (j:Nat) (z:LR×Nat),i≠j->zs[j]?=some z->Al p (cf z.1)):Al p (cvn (Ad (zs.take i)) (Ad (zs.drop (i+1)))):=by
 refine C7 fp (fin_prod _) (fin_prod _) (BZ fp _ fun z hz=>?_) (BZ fp _ fun z hz=>?_)
 ·obtain ⟨j,hj⟩:=List.mem_iff_getElem?.mp hz;rw [List.getElem?_take] at hj
  split at hj
  ·exact h j z (by omega) hj
  ·cases hj
 ·obtain ⟨j,hj⟩:=List.mem_iff_getElem?.mp hz;rw [List.getElem?_drop] at hj;exact h _ z (aix) hj
theorem Qn {h l u v q0 q1 P:LR} {y Wq Rr:NR} {xs:List (LR×Nat)} {vs:List LR} {G C U E:Nat->NR} {i m:Nat} {px:LR} {es:List LR} (H:GrH h l u v q0 q1 P y) (I:PtOK (cf q1) [] xs) (F:Fra l u v y xs vs G C U E) (hx:xs[i]?=some (px,m+1)) (fW:Ab Wq) (e0:cf q0=fun j=>cvn Wq (cf q1) j+Rr j) (T:OA (cf q1) Rr (px,m+1) es) :
  ∃ z w,vs[i]?=some z/\Mon z/\Ab w/\cf px=cvn w (cf z)/\Bd (px.length - 1) (cvn (E i) w)/\¬ Df (cf px) (BC (C i) (cvn (E i) w) (cf px) m)/\∃ Y,Ab Y/\DigP (cf px) (BC (C i) (cvn (E i) w) (cf px) m) es Y:=by
 have hmem:=List.mem_of_getElem? hx;have O:=I.one _ hmem;have mx:Mon px:=O.mon;have hl2:2<=px.length:=O.l;have dp:=mx.dg;have hi:=(List.getElem?_eq_some_iff.mp hx).1;have hz:vs[i]?=some (vs[i]'(by have:=F.lv; exact Ms this hi)):=List.getElem?_eq_getElem _;generalize vs[i]'(by have:=F.lv; exact Ms this hi)=z at hz;refine xq0_2 (F.sp i _ z hx hz) fun mz q184_=>xq1_2 q184_ fun w fw ew=>?_;have ew:cf px=cvn w (cf z):=ew;refine Bz (F.Gs i _ (FL hx)) fun kC bC eG q185_=>xq1_2 q185_ fun t ft ey=>?_;refine Bz (F.Us i _ (FM hz)) fun kE bE eU q186_=>xq1_2 q186_ fun t' ft' eu=>?_;have el:=F.el.trans (Ed (zs:=xs.map lo) (FL hx));have ev:=F.ev.trans (Ed (FM hz));refine xq1_2 F.dv fun V fV eV=>?_;have er:Bw xs=_:=Ed (zs:=xs.map fun (x:LR×Nat)=>(x.1,1)) (z:=(px,1)) (i:=i) (by rw [List.getElem?_map,hx]; rfl);rw [Cr] at ev er eu;have ey:y=fun j=>cvn (C i) (cvn (Ad ((xs.map lo).take i)) (Ad ((xs.map lo).drop (i+1)))) j+cvn t (Aa (cf px) m) j:=ey;have el:cf l=cvn (Aa (cf px) m) (cvn (Ad ((xs.map lo).take i)) (Ad ((xs.map lo).drop (i+1)))):=el;have er:Bw xs=cvn (cf px) (cvn (Ad ((xs.map fun (x:LR×Nat)=>(x.1,1)).take i)) (Ad ((xs.map fun (x:LR×Nat)=>(x.1,1)).drop (i+1)))):=er;have fB:=fin_cvn (fin_prod ((xs.map lo).take i)) (fin_prod ((xs.map lo).drop (i+1)));have fr:=fin_cvn (fin_prod ((xs.map fun (x:LR×Nat)=>(x.1,1)).take i)) (fin_prod ((xs.map fun (x:LR×Nat)=>(x.1,1)).drop (i+1)));have fv':=fin_cvn (fin_prod ((vs.map z1).take i)) (fin_prod ((vs.map z1).drop (i+1)));have cv':Al (cf px) (cvn (Ad ((vs.map z1).take i)) (Ad ((vs.map z1).drop (i+1)))):=FN (fin_cf px) fun j a hij ha=>by
  rw [List.getElem?_map] at ha;refine xq1_2 (Option.map_eq_some_iff.mp ha) fun b hb q187_=>?_; obtain rfl:=q187_;exact F.cz i j _ b hij hx hb
 have pwx:xs.Pairwise fun x y=>Al (cf x.1) (cf y.1):=I.pw.imp fun h=>h.1;have cB:Al (cf px) (cvn (Ad ((xs.map lo).take i)) (Ad ((xs.map lo).drop (i+1)))):=FN (fin_cf px) fun j a hij ha=>by
  rw [List.getElem?_map] at ha;refine xq1_2 (Option.map_eq_some_iff.mp ha) fun b hb q188_=>?_; obtain rfl:=q188_
  by_cases q:i<j
  ·exact (pw_lt pwx q hx hb:Al (cf px) (cf b.1))
  ·exact Ao (pw_lt pwx (Pu q hij) hb hx:Al (cf b.1) (cf px))
 generalize cvn (Ad ((xs.map lo).take i)) (Ad ((xs.map lo).drop (i+1)))=B at *;generalize cvn (Ad ((xs.map fun (x:LR×Nat)=>(x.1,1)).take i)) (Ad ((xs.map fun (x:LR×Nat)=>(x.1,1)).drop (i+1)))=r at *;generalize cvn (Ad ((vs.map z1).take i)) (Ad ((vs.map z1).drop (i+1)))=v' at *;have e3:=Az mz.dg (fin_cvn fV fv') (fin_cvn fr fw) (@anM NR psRing w (cf z) r V (cf v) v' (Bw xs) (cf px) er ew eV ev);refine xq1_2 (C8 fw fV (BU cv' ⟨cf z,fin_cf z,ew.trans (funext (Af _ _))⟩) ⟨r,fr,e3⟩) fun s fs es'=>?_;have euV:=@anN NR psRing (cf u) V (E i) v' t' (cf z) s w r (cf px) eu es' e3 ew;have eq:cf q1=cvn (cf l) (Bw xs):=by rw [F.el]; exact I.pr.trans (LQ xs fun x hx=>(I.one x hx).k)
 obtain ⟨kr,dr,_⟩:=Cz (xs.map fun (x:LR×Nat)=>(x.1,1)) fun z hz=>by
  refine xq1_2 (List.mem_map.mp hz) fun x hx q189_=>?_; obtain rfl:=q189_;exact (I.one x hx).mon
 have fc:=AA bC;have fE:=AA bE;have dE:=WY (m:=m) H.ml.dg dr dp (fin_cf h) (fin_cf u) (fin_cf v) fV (fin_cf q0) (fin_cf P) fB fr fc ft (fin_cvn fE fw) (fin_cvn ft' fs) H.e eq eV el er (H.eh.trans (funext fun j=>by rw [congrFun ey j])) euV (Ao (DD fB (fin_cf px) (Ao cB) (m+1)));refine xq6_7 T fun others back yy W2 top Tt t1 t2 t3 t4 t5 t6 t7=>?_;have dP:=pow_deg dp (m+1);have t1:cf q1=cvn (cf others) (Aa (cf px) (m+1)):=t1;have eo:cf others=cvn B r:=Az dP (fin_cf others) (fin_cvn fB fr) (by
  rw [funext (Af (Aa (cf px) (m+1)) (cf others)),<- t1,funext (Af (Aa (cf px) (m+1)) (cvn B r))];exact @anO NR psRing (cf q1) (cf l) (Bw xs) (Aa (cf px) m) B (cf px) r eq el er)
 obtain ⟨kw,dw⟩:∃ k,Dg k w:=Bv fw fun q=>by
  have:=dp.1;rw [ew,q,Ag] at this;exact this rfl
 have hk:=dp.uniq (ew ▸ dw.mul mz.dg);have bd:Bd (px.length - 1) (cvn (E i) w):=Bc bE dw (by show 1*(z.length - 1)+kw<=_; exact aiy hk);have et:cf top=BC (C i) (cvn (E i) w) (cf px) m:=abO dP (fin_cf q0) fW (fin_cf others) (fin_cf back) (fin_cf W2) (fin_cf yy) t4 (LU dp (Fq hl2) bC bd) e0 t1 t3 t2 (by rw [eo]; exact dE);refine ⟨z,w,hz,mz,fw,ew,bd,W1 (o:=cf others) dp (Fq hl2) (fin_cf others) H.c01 ?_ (by rw [eo]; exact dE),cf Tt,fin_cf Tt,?_⟩
 ·rw [t1]; exact df_trans (CM (fin_cf px) (Fp)) (BM (fin_cf others))
 ·rw [<- et]; exact t6
section
variable {R:Type} [Lean.Grind.CommRing R]
theorem anP {y c B t Pm Pi Pj W Rr:R} (e:y=c*B+t*Pm) (eP:Pm=Pi*Pj) (ec:c=W*Pi+Rr):y=Rr*B+(W*B+t*Pj)*Pi:=by grind
theorem W7 {A L X e X' p:R} (e1:L=A - X) (e2:X=e+X'*p):L+e=A - X'*p:=by grind
theorem anQ {A L X:R} (e1:L=A - X):A=L+X:=by grind
theorem anR {A raw d X:R} (e1:A=raw+d+X):A - X=raw+d:=by grind
end
theorem OB (d p:NR):BC (fun _=>0) d p 0=d:=funext fun j=>by
 have h1:Ac (fun _=>(0:Rat))=fun _=>0:=funext fun i=>by show _*(0:Rat)=0; rw [Rat.mul_zero]
 show cvn (Ac fun _=>0) p j - cvn (Aj 0) (cvn (fun _=>0) (Ac p)) j+cvn d (Aa p 0) j=d j;rw [h1,Ag,psNat_zero,Ag,JM,Bx];grind
noncomputable def W8 (p C dd:NR) (kp m:Nat) (es:List LR) (L γ raw R:Nat->NR):Prop :=
 (R 0=fun _=>0)/\R m=C/\(L 0=fun _=>0)/\(∀ j,j<=m->RC 1106 (R j)/\Bd (j*kp) (R j)/\Bd kp (L j)/\RC 20000 (L j))/\
 (∀ j,j<m->Bd kp (γ j)/\RC 1811 (γ j)/\(R (j+1)=fun n=>R j n+cvn (γ j) (Aa p j) n)/\Ab (raw j)/\(L (j+1)=fun n=>raw j n+Ac (fun n=>-((m - j:Nat):Rat)*γ j n) n*(1 / ((m - j:Nat):Rat)))/\
  ∀ e:LR,es[j]?=some e->RC 20000 (fun n=>L j n+cf e n)/\∀ back S V less:NR,Ab back->Ab S->Ab V->Bd kp less->(one0=fun n=>cvn S p n+cvn back (Ac p) n)->(cvn (fun n=>L j n+cf e n) back=fun n=>cvn V p n+less n)->(less=fun n=>-((m - j:Nat):Rat)*γ j n)/\(fun n=>(L j n+cf e n) - cvn less (Ac p) n)=cvn (raw j) p)/\
 (∀ e:LR,es[m]?=some e->dd=fun n=>L m n+cf e n)/\∀ e:LR,es[0]?=some e->e≠[]
theorem abQ {m k K:Nat} (h:m*k<=K) (h1:1<=m):k<=K:=Nat.le_trans (Nat.le_mul_of_pos_left k h1) h
theorem Qo {h l u v q0 q1 P:LR} {y:NR} {xs:List (LR×Nat)} {vs:List LR} {G C U E:Nat->NR} {i m:Nat} {px z:LR} {w Y:NR} {es:List LR} (H:GrH h l u v q0 q1 P y) (I:PtOK (cf q1) [] xs) (F:Fra l u v y xs vs G C U E) (hx:xs[i]?=some (px,m+1)) (kq:SzD (cf q1) 640) (hz:vs[i]?=some z) (mz:Mon z) (fw:Ab w) (ew:cf px=cvn w (cf z)) (bd:Bd (px.length - 1) (cvn (E i) w)) (lx:px.length<=16) (nd:¬ Df (cf px) (BC (C i) (cvn (E i) w) (cf px) m)) (fY:Ab Y) (hD:DigP (cf px) (BC (C i) (cvn (E i) w) (cf px) m) es Y) (le:es.length=m+1) (he:∀ e∈es,e.length<px.length) :
  m*(px.length - 1)<=l.length - 1/\RC 1466 (cvn (E i) w)/\∃ L γ raw R,W8 (cf px) (C i) (cvn (E i) w) (px.length - 1) m es L γ raw R:=by
 have hmem:=List.mem_of_getElem? hx;have O:=I.one _ hmem;have mx:Mon px:=O.mon;have hl2:2<=px.length:=O.l;have sq:Al (cf px) (Ac (cf px)):=O.s;have dp:=mx.dg;refine Bz (F.Gs i _ (FL hx)) fun kC bC eG q190_=>xq1_2 q190_ fun t ft ey=>?_;refine Bz (F.Us i _ (FM hz)) fun kE bE eU q191_=>xq1_2 q191_ fun t' ft' eu=>?_;have el:=F.el.trans (Ed (zs:=xs.map lo) (FL hx));have ey:y=fun j=>cvn (C i) (cvn (Ad ((xs.map lo).take i)) (Ad ((xs.map lo).drop (i+1)))) j+cvn t (Aa (cf px) m) j:=ey;have el:cf l=cvn (Aa (cf px) m) (cvn (Ad ((xs.map lo).take i)) (Ad ((xs.map lo).drop (i+1)))):=el;have bC:Bd (m*(px.length - 1)) (C i):=bC;have fB:=fin_cvn (fin_prod ((xs.map lo).take i)) (fin_prod ((xs.map lo).drop (i+1)));have pwx:xs.Pairwise fun x y=>Al (cf x.1) (cf y.1):=I.pw.imp fun h=>h.1;have cB:Al (cf px) (cvn (Ad ((xs.map lo).take i)) (Ad ((xs.map lo).drop (i+1)))):=FN (fin_cf px) fun j a hij ha=>by
  rw [List.getElem?_map] at ha;refine xq1_2 (Option.map_eq_some_iff.mp ha) fun b hb q192_=>?_; obtain rfl:=q192_
  by_cases q:i<j
  ·exact (pw_lt pwx q hx hb:Al (cf px) (cf b.1))
  ·exact Ao (pw_lt pwx (Pu q hij) hb hx:Al (cf b.1) (cf px))
 generalize cvn (Ad ((xs.map lo).take i)) (Ad ((xs.map lo).drop (i+1)))=B at *;obtain ⟨kB,dB⟩:∃ k,Dg k B:=Bv fB fun q=>by
  have:=H.ml.dg.1;rw [el,q,Af,Ag] at this;exact this rfl
 have dPm:=pow_deg dp m;obtain ⟨B1,hKB⟩:=Gj dB dPm H.ml.dg (el.trans (funext (Af _ _))) H.ml.m (pow_lead mx m);have l6:=H.ll;have dpq:∀ j,j<=m+1->RC 640 (Aa (cf px) j):=fun j hj=>kq _ _ (pow_deg dp j) (pow_lead mx j) (by rw [I.pr]; exact BN (fin_cf px) hj (Gg hmem));have dpl:∀ j,j<=m->RC 140 (Aa (cf px) j):=fun j hj=>H.kl _ _ (pow_deg dp j) (pow_lead mx j) (BN (fin_cf px) hj (el ▸ BF fB));have kB1:RC 140 B:=H.kl _ _ dB B1 (el ▸ BM (fin_pow (fin_cf px) m));have kp1:RC 640 (cf px):=by have:=dpq 1 (Fp); rwa [Cr] at this
 have hm5:m<=5:=by
  have:=Nat.mul_le_mul_left m (show 1<=px.length - 1 by exact Fq hl2);exact aiz hKB this l6
 obtain ⟨kw,dw⟩:∃ k,Dg k w:=Bv fw fun q=>by
  have:=dp.1;rw [ew,q,Ag] at this;exact this rfl
 obtain ⟨w1,hkw⟩:=Gj dw mz.dg dp ew mx.m mz.m;have kdd:RC 1466 (cvn (E i) w):=(Be kE (kq _ _ dw w1 (df_trans ⟨cf z,fin_cf z,ew.trans (funext (Af _ _))⟩ (I.df hmem))) bE (by show 1*(z.length - 1)<=16; exact aiA hkw lx)).mono (by decide);generalize cvn (E i) w=dd at *;obtain ⟨W,γ,R,W0,Wm,R0,Rm,hW,hst⟩:=SF (N:=1106) (B:=140) dp bC dpl fun j V S hj fV ec bS=>by
  have hle:j*(px.length - 1)<=m*(px.length - 1):=Nat.mul_le_mul_right _ hj;have dPj:=pow_deg dp j;have cP:Al (Aa (cf px) j) B:=Ao (DD fB (fin_cf px) (Ao cB) j);refine xq2_5 (Ni (b:=l.length - 1 - j*(px.length - 1)) (c:=3) dPj (dB.2.mono (aiB hKB hle)) cP (H.by'.mono (aiC)) ((dpl j hj).mono (Pv)) (kB1.mono (Pv)) H.ky (by show _<=8; exact aiD hKB hle l6)) fun s t2 bs bt e2 ks kt=>?_;have e3:=@anP NR psRing y (C i) B t (Aa (cf px) m) (Aa (cf px) j) (Aa (cf px) (m - j)) V S ey (by show _=cvn _ _; rw [<- pow_add,show j+(m - j)=m by exact U6 hj]) ec;have:=(JL dPj fB cP bs bS (AA bt) (Au (fin_cvn fV fB) (fin_cvn ft (fin_pow (fin_cf px) _))) (e2.symm.trans e3)).1;rw [<- this];refine ks.mono ?_;rw [show j*(px.length - 1)+(l.length - 1 - j*(px.length - 1))=l.length - 1 by exact aiE hKB hle];exact RL (show l.length - 1<=5 by exact Px l6)
 have hmk:m*(px.length - 1)<=5:=aiF hKB l6;have hmk16:m*(px.length - 1)<=16:=Nat.le_trans hmk (by decide);refine ⟨aiG hKB,kdd,?_⟩;have hkp1:=fun h1=>abQ (k:=px.length - 1) hmk h1;have hkp16:px.length - 1<=15:=Nat.sub_le_sub_right lx 1;have h1k:1<=px.length - 1:=Nat.sub_le_sub_right hl2 1;refine xq1_4 (LV (fin_cf px) fY es _ hD) fun X X0 Xl fX hX=>?_;have e1:(m+1)*(px.length - 1)=m*(px.length - 1)+(px.length - 1):=Nat.succ_mul _ _;have kE0:RC 5638 (X 0):=by
  rw [X0];exact (LW (a:=1106) (b:=640) (e:=1466) kC bC hmk16 kdd bd hkp16 kp1 dp.2 (dpq m (Uv)) (aiH hm5)).mono (by decide)
 obtain ⟨Xz,hXk⟩:=Ql (B:=640) dp (fun j hj=>dpq j (aiI le hj)) fX hX (fun e h=>Nat.le_sub_one_of_lt (he e h)) (by rw [X0,le]; exact LU dp h1k bC bd) kE0;have kX:1<=m->∀ j,j<=m+1->RC 12048 (X j)/\Bd 10 (X j):=fun h1 j hj=>by
  have h10:es.length*(px.length - 1)<=10:=by rw [le,e1]; exact Nat.add_le_add hmk (hkp1 h1)
  have h2:es.length*(px.length - 1)*(640+1)<=10*(640+1):=Nat.mul_le_mul_right _ h10;have hj':j<=es.length:=by rw [le]; exact hj
  exact ⟨(hXk j hj').1.mono (Nat.add_le_add_left h2 _),(hXk j hj').2.mono (Nat.le_trans (Nat.sub_le _ _) h10)⟩
 have kT:1<=m->∀ j,j<=m->RC 7048 (BC (W j) dd (cf px) (m - j)):=fun h1 j hj=>by
  refine AI (hW j hj) fun bW kW _=>?_;have h2:m*(px.length - 1)*(140+1)<=5*(140+1):=Nat.mul_le_mul_right _ hmk;exact (LW (a:=1811) (b:=640) (e:=1466) (kW.mono (Nat.add_le_add_left h2 _)) bW (Nat.le_trans (Nat.sub_le _ _) hmk16) kdd bd hkp16 kp1 dp.2 (dpq (m - j) (aiJ)) (aiK hm5)).mono (by decide)
 obtain ⟨L,hL⟩:∃ L:Nat->NR,∀ j,L j=fun n=>BC (W j) dd (cf px) (m - j) n - X j n:=⟨_,fun _=>rfl⟩;have L0:L 0=fun _=>0:=by rw [hL,W0,X0]; exact funext fun n=>Rat.sub_self
 obtain ⟨raw,hraw⟩:∃ raw:Nat->NR,∀ j,raw j=fun n=>Ac (γ j) n+BC (W (j+1)) dd (cf px) (m - j - 1) n - X (j+1) n:=⟨_,fun _=>rfl⟩;have fdd:=AA bd;have st:∀ j,j<m->∀ e:LR,es[j]?=some e->∀ back S V less:NR,Ab back->Ab S->Ab V->Bd (px.length - 1) less->(one0=fun n=>cvn S (cf px) n+cvn back (Ac (cf px)) n)->(cvn (fun n=>L j n+cf e n) back=fun n=>cvn V (cf px) n+less n)->((less=fun n=>-((m - j:Nat):Rat)*γ j n)/\(fun n=>(L j n+cf e n) - cvn less (Ac (cf px)) n)=cvn (raw j) (cf px))/\L (j+1)=fun n=>raw j n+Ac (fun n=>-((m - j:Nat):Rat)*γ j n) n*(1 / ((m - j:Nat):Rat)):=fun j hj e hej back S V less fb fS fV bl e1 e2=>by
  refine Bz (hst j hj) fun eW bγ kγ eR=>?_;obtain ⟨m',hm'⟩:∃ m',m - j=m'+1:=⟨m - j - 1,aiL hj⟩;have hLj:=hL j;rw [hm'] at hLj;refine AI (Qk (m:=m') dp (AA (hW (j+1) hj).1) fdd (fX (j+1)) fb fS fV bγ bl eW (hX j e hej) (@anQ NR psRing _ (L j) (X j) hLj) e1 e2) fun a1 a2 a3=>?_;have hr:raw j=fun n=>Ac (γ j) n+BC (W (j+1)) dd (cf px) m' n - X (j+1) n:=by rw [hraw,show m - j - 1=m' by exact aiM hm']
  rw [hm'];refine ⟨⟨a1,by rw [hr]; exact a2⟩,?_⟩;rw [hL,show m - (j+1)=m' by exact aiN hm'];have a4:=@anR NR psRing _ _ _ (X (j+1)) a3;refine a4.trans ?_;rw [hr,a1];rfl
 refine xq2_3 sq fun S back fS fb eb=>?_;have bL:∀ j,j<=m->Bd (px.length - 1) (L j):=fun j=>by
  induction j with
  | zero=>intro _; rw [L0]; exact fun _ _=>rfl
  | succ j ih =>
   intro hj;have hg:es[j]?=some (es[j]'(Mt le hj)):=List.getElem?_eq_getElem _;have b1:=ih (o37 hj);have le1:=he _ (List.getElem_mem (show j<es.length by exact Mt le hj));have b2:Bd (px.length - 1) (fun n=>L j n+cf (es[j]'(Mt le hj)) n):=B9 b1 ((AQ _).mono (Nat.le_sub_one_of_lt le1));obtain ⟨N,bN⟩:∃ N,Bd (px.length - 1+N) (cvn (fun n=>L j n+cf (es[j]'(Mt le hj)) n) back):=by
    obtain ⟨N,f⟩:=fin_cvn (AA b2) fb;exact ⟨N,Bd.mono f (Va)⟩
   refine xq2_3 (H4 dp.1 dp.2 N _ bN) fun V less bV bl e2=>?_;obtain ⟨⟨a1,a2⟩,a3⟩:=st j (NA hj) _ hg back S V less fb fS (AA bV) bl eb e2;have bγ:=(hst j (NA hj)).2.1;have fr:Ab (raw j):=by
    rw [hraw];exact fin_sub (Au (fin_der (AA bγ)) (Hj (AA (hW (j+1) hj).1) fdd (fin_cf px) _)) (fX _)
   have br:Bd (px.length - 1) (raw j):=Gl dp fr (by
    rw [<- a2];exact CN (b2.mono (aiO)) (Dp bl (BX dp.2) (aiP)))
   rw [a3];refine B9 br fun n hn=>?_;show Ac (fun n=>-((m - j:Nat):Rat)*γ j n) n*_=0;have:Ac (fun n=>-((m - j:Nat):Rat)*γ j n) n=0:=by
    show _*(-((m - j:Nat):Rat)*γ j (n+1))=0;rw [bγ _ (by exact aiQ hn),Rat.mul_zero,Rat.mul_zero]
   rw [this,Rat.zero_mul]
 refine ⟨L,γ,raw,R,R0,Rm,L0,fun j hj=>⟨(hW j hj).2.2.1,(hW j hj).2.2.2,bL j hj,?_⟩,fun j hj=>?_,fun e hem=>?_,fun e h0 z0=>?_⟩
 ·rcases Nat.eq_zero_or_pos m with h0 | h1
  ·rw [show j=0 by exact aiR h0 hj,L0]; exact RC.none (aiS)
  ·rw [hL]; exact (Gm (kT h1 j hj) (kX h1 j (UU hj)).1).mono (aiT)
 ·refine Bz (hst j hj) fun eW bγ kγ eR=>?_;have h1:1<=m:=Py hj;have hk5:=hkp1 h1;have h2:(px.length - 1)*(140+1)<=5*(140+1):=Nat.mul_le_mul_right _ hk5;have hg:es[j]?=some (es[j]'(JV le hj)):=List.getElem?_eq_getElem _;have fr:Ab (raw j):=by
   rw [hraw];exact fin_sub (Au (fin_der (AA bγ)) (Hj (AA (hW (j+1) hj).1) fdd (fin_cf px) _)) (fX _)
  refine ⟨bγ,kγ.mono (Nat.add_le_add_left h2 _),eR,fr,?_,fun e hej=>⟨?_,fun back' S' V less fb' fS' fV bl e1 e2=>(st j hj e hej back' S' V less fb' fS' fV bl e1 e2).1⟩⟩
  ·have b2:Bd (px.length - 1) (fun n=>L j n+cf (es[j]'(JV le hj)) n):=B9 (bL j (Ij hj)) ((AQ _).mono (Nat.le_sub_one_of_lt (he _ (List.getElem_mem (show j<es.length by exact JV le hj)))));obtain ⟨N,bN⟩:∃ N,Bd (px.length - 1+N) (cvn (fun n=>L j n+cf (es[j]'(JV le hj)) n) back):=by
    obtain ⟨N,f⟩:=fin_cvn (AA b2) fb;exact ⟨N,Bd.mono f (Va)⟩
   refine xq2_3 (H4 dp.1 dp.2 N _ bN) fun V less bV bl e2=>?_;exact (st j hj _ hg back S V less fb fS (AA bV) bl eb e2).2
  ·rw [show (fun n=>L j n+cf e n)=fun n=>BC (W j) dd (cf px) (m - j) n - cvn (X (j+1)) (cf px) n from @W7 NR psRing _ (L j) (X j) (cf e) (X (j+1)) (cf px) (hL j) (hX j e hej)];exact (Gm (kT h1 j (Ij hj)) (Be (kX h1 (j+1) (Vb hj)).1 kp1 (kX h1 (j+1) (Vb hj)).2 (aiU))).mono (aiV)
 ·have:=@W7 NR psRing _ (L m) (X m) (cf e) (X (m+1)) (cf px) (hL m) (hX m e hem);have h3:(fun n=>L m n+cf e n)=fun n=>BC (W m) dd (cf px) (m - m) n - cvn (X (m+1)) (cf px) n:=this;rw [h3,Wm,Nat.sub_self,OB,<- le,Xz];funext n;rw [Ag];grind
 ·subst z0;refine nd ⟨X 1,fX 1,?_⟩;rw [<- X0,hX 0 [] h0];funext n;rw [HQ,Rat.zero_add]
noncomputable def QR (p q h l:LR):Prop:=Rw h/\Mon l/\Al (cf h) (cf l)/\h.length<=p.length/\l.length<=q.length/\∃ G,Mon G/\(∀ j,cf p j=cf q (q.length - 1)*cvn (cf h) (cf G) j)/\∀ j,cf q j=cf q (q.length - 1)*cvn (cf l) (cf G) j
section
variable {R:Type} [Lean.Grind.CommRing R]
theorem anS {p q h l G:R} (ep:p=h*G) (eq:q=l*G):h*q=l*p:=by grind
theorem anT {g0 g1 P A Pm G:R} (e:g0*A=g1*(P*A+G)):g0*(A*Pm)=g1*(P*(A*Pm)+G*Pm+0*A):=by grind
theorem anU {g0 g1 P A Pm G C:R} (e:g0*(A*Pm)=g1*(P*(A*Pm)+G*Pm+C*A)):g0*(A*Pm)=g1*(P*(A*Pm)+(G*Pm+C*A)):=by grind
theorem anV {a b r g A:R}:a+b+r*A+g*A=a+b+(r+g)*A:=by grind
theorem anW {s0 s1 E w z p dd:R} (e:s0*p=s1*dd) (ep:p=w*z) (ed:dd=E*w):w*(s0*z)=w*(s1*E):=by grind
end
theorem QR.cross {p q h l:LR} (O:QR p q h l) (mq:Mon q):cvn (cf h) (cf q)=cvn (cf l) (cf p):=by
 refine MH O fun _ _ _ _ _ q193_=>xq1_3 q193_ fun G mG e1 e2=>?_;rw [mq.m] at e1 e2;exact @anS NR psRing (cf p) (cf q) (cf h) (cf l) (cf G) (funext fun j=>by rw [e1 j,Rat.one_mul]; rfl) (funext fun j=>by rw [e2 j,Rat.one_mul]; rfl)
noncomputable def EU (g0 g1:LR):Prop:=Rw g0/\Mon g1/\Al (cf g0) (cf g1)
theorem QR.red {p q h l:LR} (O:QR p q h l):EU h l:=⟨O.1,O.2.1,O.2.2.1⟩
noncomputable def GrO (P A G:NR) (g0 g1:LR):Prop:=EU g0 g1/\cvn (cf g0) A=cvn (cf g1) (fun n=>cvn P A n+G n)
noncomputable def GrJ (P A Pm G Rj:NR) (g0 g1:LR):Prop:=EU g0 g1/\cvn (cf g0) (cvn A Pm)=cvn (cf g1) (fun n=>cvn P (cvn A Pm) n+cvn G Pm n+cvn Rj A n)
theorem SG:(fun _=>(0:Rat))=Aj 0:=psNat_zero.symm
theorem GrO.in {P A G:NR} {g0 g1:LR} (h:GrO P A G g0 g1) (Pm:NR):GrJ P A Pm G (fun _=>0) g0 g1:=⟨h.1,by
 rw [SG];exact @anT NR psRing (cf g0) (cf g1) P A Pm G h.2⟩
theorem GrJ.out {P A Pm G C:NR} {g0 g1:LR} (h:GrJ P A Pm G C g0 g1):GrO P (cvn A Pm) (fun n=>cvn G Pm n+cvn C A n) g0 g1:=⟨h.1,@anU NR psRing (cf g0) (cf g1) P A Pm G C h.2⟩
theorem GrJ.step {P A Pm G Rj Rk γ Pw Pj:NR} {g0 g1 s0 s1 t s a b:LR} (h:GrJ P A Pm G Rj g0 g1) (fA:Ab A) (fP:Ab P) (fG:Ab G) (fPm:Ab Pm) (fR:Ab Rk) (eP:Pm=cvn Pw Pj) (eR:Rk=fun n=>Rj n+cvn γ Pj n) (r2:EU s0 s1) (es:cvn (cf s0) Pw=cvn (cf s1) γ) (ms:Mon s) (et:∀ j,cf t j=cvn (cf g0) (cf s1) j+cvn (cf s0) (cf g1) j) (es':∀ j,cf s j=cvn (cf g1) (cf s1) j) (O:QR t s a b):GrJ P A Pm G Rk a b:=by
 have c:=O.cross ms;rw [show cf t=fun j=>cvn (cf g0) (cf s1) j+cvn (cf s0) (cf g1) j from funext et,show cf s=cvn (cf g1) (cf s1) from funext es'] at c;have k:=@anB NR psRing (cf a) (cf b) (cf g0) (cf g1) (cf s0) (cf s1) A Pm Pw _ γ Pj (Aj 0) c h.2 es eP;have fY:∀ {Q:NR},Ab Q->Ab (fun n=>cvn P (cvn A Pm) n+cvn G Pm n+cvn Q A n):=fun fQ=>Au (Au (fin_cvn fP (fin_cvn fA fPm)) (fin_cvn fG fPm)) (fin_cvn fQ fA);refine ⟨O.red,?_⟩;have hR:(fun n=>(fun n=>cvn P (cvn A Pm) n+cvn G Pm n+cvn Rj A n) n+cvn (cvn γ Pj) A n)=fun n=>cvn P (cvn A Pm) n+cvn G Pm n+cvn Rk A n:=by
  rw [eR];exact @anV NR psRing _ _ _ _ _
 refine Az (h.1.2.1.dg.mul r2.2.1.dg) (fin_cvn (fin_cf a) (fin_cvn fA fPm)) (fin_cvn (fin_cf b) (fY fR)) ?_;rw [<- hR];exact k
section
variable {R:Type} [Lean.Grind.CommRing R]
theorem W9 {a b c:R}:a*(b*c)=c*(b*a):=by grind
end
noncomputable def AP (xs:List (LR×Nat)) (i:Nat):NR:=Ad ((xs.map lo).take i)
noncomputable def VP (vs:List LR) (i:Nat):NR:=Ad ((vs.map z1).take i)
section
variable {h l u v q0 q1 P:LR} {y:NR} {xs:List (LR×Nat)} {vs:List LR} {G C U E:Nat->NR} {i m:Nat} {px z g0 g1 s0 s1:LR}
theorem Et (H:GrH h l u v q0 q1 P y) (I:PtOK (cf q1) [] xs) (F:Fra l u v y xs vs G C U E) (hx:xs[i]?=some (px,m+1)):∃ a,Dg a (AP xs i)/\AP xs i a=1/\Bd a (G i)/\a+m*(px.length - 1)<=5/\Df (cvn (AP xs i) (Aa (cf px) m)) (cf l)/\AP xs (i+1)=cvn (AP xs i) (Aa (cf px) m):=by
 refine xq0_2 (F.Gk i) fun _ q194_=>xq1_2 q194_ fun a' da' ba=>?_;obtain ⟨a,da,a1⟩:=Cz ((xs.map lo).take i) fun w hw=>by
  refine xq1_2 (List.mem_map.mp (List.mem_of_mem_take hw)) fun x hx q195_=>?_; obtain rfl:=q195_;exact (I.one x hx).mon
 have:=da'.uniq da;subst this;have el:cf l=cvn (Aa (cf px) m) (cvn (AP xs i) (Ad ((xs.map lo).drop (i+1)))):=F.el.trans (Ed (zs:=xs.map lo) (FL hx));have e2:cf l=cvn (Ad ((xs.map lo).drop (i+1))) (cvn (AP xs i) (Aa (cf px) m)):=el.trans (@W9 NR psRing _ _ _);have dPm:=pow_deg (I.one _ (List.mem_of_getElem? hx)).mon.dg m;have d:Df (cvn (AP xs i) (Aa (cf px) m)) (cf l):=⟨_,fin_prod _,e2⟩;refine xq1_3 (d.deg H.ml.dg (fin_cvn da.fin dPm.fin)) fun k hk dk _=>?_;have hk':k=a'+m*(px.length - 1):=dk.uniq (show Dg _ (cvn (AP xs i) _) from da.mul dPm);have l6:=H.ll;refine ⟨a',da,a1,ba,aiW hk' l6 hk,d,?_⟩;show Ad ((xs.map lo).take (i+1))=_;rw [List.take_add_one,FL hx];exact AB _ _
theorem Xa {Rj:NR} {n:Nat} (H:GrH h l u v q0 q1 P y) (I:PtOK (cf q1) [] xs) (F:Fra l u v y xs vs G C U E) (hx:xs[i]?=some (px,m+1)) (hR:RC 1106 Rj) (hn:n<=m*(px.length - 1)) (bR:Bd n Rj) (hg:GrJ (cf P) (AP xs i) (Aa (cf px) m) (G i) Rj g0 g1):RC 140 (cf g1)/\g1.length<=6/\RC 3980 (cf g0)/\g0.length<=9:=by
 refine xq1_6 (Et H I F hx) fun a da a1 bG ha d _=>?_;have mx:Mon px:=(I.one _ (List.mem_of_getElem? hx)).mon;have dPm:=pow_deg mx.dg m;obtain ⟨dM,M1⟩:=IW da a1 dPm (pow_lead mx m);have kM:=H.kl _ _ dM M1 d;have kA:=H.kl _ _ da a1 (df_trans (BF dPm.fin) d);have kp:=H.kl _ _ dPm (pow_lead mx m) (df_trans (BM da.fin) d);have lP:=H.lP;have bP:=AQ P;have kY:RC 2711 (fun n=>cvn (cf P) (cvn (AP xs i) (Aa (cf px) m)) n+cvn (G i) (Aa (cf px) m) n+cvn Rj (AP xs i) n):=(((Be H.kP kM bP (Pz lP)).add (Be (F.Gk i).1 kp bG (aiX ha))).add (Be hR kA bR (aiY ha hn))).mono (by decide);have bY:Bd 9 (fun n=>cvn (cf P) (cvn (AP xs i) (Aa (cf px) m)) n+cvn (G i) (Aa (cf px) m) n+cvn Rj (AP xs i) n):=B9 (B9 (Bc bP dM (aiZ ha lP)) (Bc bG dPm (ai0 ha))) (Bc bR da (ai1 ha hn));refine AO (Es hg.1.1 hg.1.2.1 hg.1.2.2 dM M1 hg.2 bY kY (H.kl.df d)) fun r1 r2 r3 r4 r5=>?_;exact ⟨r2,ai2 ha r3,r4.mono (by decide),r5⟩
theorem Xb (H:GrH h l u v q0 q1 P y) (I:PtOK (cf q1) [] xs) (F:Fra l u v y xs vs G C U E) (hx:xs[i]?=some (px,m+1)) (hg:GrO (cf P) (AP xs i) (G i) g0 g1):g0.length+m*(px.length - 1)<=9:=by
 refine xq1_6 (Et H I F hx) fun a da a1 bG ha d _=>?_;have mx:Mon px:=(I.one _ (List.mem_of_getElem? hx)).mon;have dPm:=pow_deg mx.dg m;have d':=df_trans (BF dPm.fin) d;have kA:=H.kl _ _ da a1 d';have lP:=H.lP;have bP:=AQ P;refine AO (Es (n:=4+a) hg.1.1 hg.1.2.1 hg.1.2.2 da a1 hg.2 (B9 (Bc (bP.mono lP) da (Nat.le_refl _)) (bG.mono (ai3))) ((Be H.kP kA bP (Pz lP)).add (F.Gk i).1) (H.kl.df d')) fun r1 r2 r3 r4 r5=>?_;exact ai4 ha r5
theorem Xc {γ:NR} {Γ Pw:LR} {k:Nat} (H:GrH h l u v q0 q1 P y) (I:PtOK (cf q1) [] xs) (F:Fra l u v y xs vs G C U E) (hx:xs[i]?=some (px,m+1)) (h1:1<=m) (hk:k<=m) (bγ:Bd (px.length - 1) γ) (kγ:RC 1811 γ) (eΓ:cf Γ=γ) (mP:Mon Pw) (eP:cf Pw=Aa (cf px) k) (O:QR Γ Pw s0 s1):cvn (cf s0) (Aa (cf px) k)=cvn (cf s1) γ/\RC 140 (cf s1)/\s1.length<=k*(px.length - 1)+1/\RC 2516 (cf s0)/\s0.length<=5:=by
 refine xq1_6 (Et H I F hx) fun a da a1 bG ha d _=>?_;have mx:Mon px:=(I.one _ (List.mem_of_getElem? hx)).mon;have d':Df (Aa (cf px) k) (cf l):=df_trans (BN mx.dg.fin hk (BB _)) (df_trans (BM da.fin) d);have hk5:px.length - 1<=5:=by
  have:=Nat.mul_le_mul_right (px.length - 1) h1;exact ai5 ha this
 have c:=O.cross mP;rw [eP,eΓ] at c;refine AO (Es O.1 O.2.1 O.2.2.1 (pow_deg mx.dg k) (pow_lead mx k) c (bγ.mono hk5) kγ (H.kl.df d')) fun r1 r2 r3 r4 r5=>?_;exact ⟨c,r2,r3,r4.mono (by decide),r5⟩
theorem Hl (H:GrH h l u v q0 q1 P y) (F:Fra l u v y xs vs G C U E) (hz:vs[i]?=some z) (mz:∀ w∈vs,Mon w):∃ a,Dg a (VP vs i)/\VP vs i a=1/\Bd a (U i)/\a+(z.length - 1)<=4/\Df (cvn (VP vs i) (cf z)) (cf v)/\VP vs (i+1)=cvn (VP vs i) (cf z):=by
 refine xq0_2 (F.Uk i) fun _ q196_=>xq1_2 q196_ fun a' da' ba=>?_;obtain ⟨a,da,a1⟩:=Cz ((vs.map z1).take i) fun w hw=>by
  refine xq1_2 (List.mem_map.mp (List.mem_of_mem_take hw)) fun x hx q197_=>?_; obtain rfl:=q197_;exact mz x hx
 have:=da'.uniq da;subst this;have ev:=F.ev.trans (Ed (FM hz));rw [Cr] at ev;have e2:cf v=cvn (Ad ((vs.map z1).drop (i+1))) (cvn (VP vs i) (cf z)):=ev.trans (@W9 NR psRing _ _ _);have dz:=(mz z (List.mem_of_getElem? hz)).dg;have d:Df (cvn (VP vs i) (cf z)) (cf v):=⟨_,fin_prod _,e2⟩;refine xq1_3 (d.deg H.mv.dg (fin_cvn da.fin dz.fin)) fun k hk dk _=>?_;have:k=a'+(z.length - 1):=dk.uniq (show Dg _ (cvn (VP vs i) _) from da.mul dz);have l5:=H.lv;refine ⟨a',da,a1,ba,ai6 this l5 hk,d,?_⟩;show Ad ((vs.map z1).take (i+1))=_;rw [List.take_add_one,FM hz];exact (AB _ _).trans (by rw [show Aa (cf (z,1).1) (z,1).2=cf z from Cr _]; rfl)
theorem Xd (H:GrH h l u v q0 q1 P y) (F:Fra l u v y xs vs G C U E) (hz:vs[i]?=some z) (mz:∀ w∈vs,Mon w) (hg:GrO (fun _=>0) (VP vs i) (U i) g0 g1):RC 120 (cf g1)/\g1.length<=5/\RC 1305 (cf g0)/\g0.length<=4:=by
 refine xq1_6 (Hl H F hz mz) fun a da a1 bU ha d _=>?_;have d':=df_trans (BF (fin_cf z)) d;have e:=hg.2;rw [show (fun n=>cvn (fun _=>0) (VP vs i) n+U i n)=U i from funext fun n=>by rw [Ag,Rat.zero_add]] at e;refine AO (Es hg.1.1 hg.1.2.1 hg.1.2.2 da a1 e (bU.mono (show a<=4 by exact ai7 ha)) (F.Uk i).1 (H.kv.df d')) fun r1 r2 r3 r4 r5=>?_;exact ⟨r2,ai8 ha r3,r4.mono (by decide),r5⟩
theorem Xe {w:NR} {Dl:LR} (H:GrH h l u v q0 q1 P y) (F:Fra l u v y xs vs G C U E) (hz:vs[i]?=some z) (mz:∀ w∈vs,Mon w) (mx:Mon px) (fw:Ab w) (ew:cf px=cvn w (cf z)) (eD:cf Dl=cvn (E i) w) (O:QR Dl px s0 s1):cvn (cf s0) (cf z)=cvn (cf s1) (E i)/\RC 120 (cf s1)/\s1.length<=5/\RC 1305 (cf s0)/\s0.length<=4:=by
 refine xq1_6 (Hl H F hz mz) fun a da a1 bU ha d _=>?_;have d':=df_trans (BM da.fin) d;have mz':=mz z (List.mem_of_getElem? hz);refine AI (F.Us i _ (FM hz)) fun kE bE _=>?_;have bE:Bd (1*(z.length - 1)) (E i):=bE;have c:=O.cross mx;obtain ⟨kw,dw⟩:∃ k,Dg k w:=Bv fw fun q=>by
  have:=mx.dg.1;rw [ew,q,Ag] at this;exact this rfl
 have c:=Az dw (fin_cvn (fin_cf s0) (fin_cf z)) (fin_cvn (fin_cf s1) (AA bE)) (@anW NR psRing (cf s0) (cf s1) (E i) w (cf z) (cf px) (cf Dl) c ew eD);refine AO (Es O.1 O.2.1 O.2.2.1 mz'.dg mz'.m c (bE.mono (show _<=4 by exact ai9 ha)) kE (H.kv.df d')) fun r1 r2 r3 r4 r5=>?_;exact ⟨c,r2,aja ha r3,r4.mono (by decide),r5⟩
theorem Qp (H:GrH h l u v q0 q1 P y) (F:Fra l u v y xs vs G C U E) (wh:Rw h) (hg:GrO (cf P) (AP xs xs.length) (G xs.length) g0 g1):g0=h/\g1=l:=by
 have e:=hg.2;rw [F.Gn,show AP xs xs.length=cf l by rw [F.el]; show Ad ((xs.map lo).take xs.length)=_; rw [List.take_of_length_le (by rw [List.length_map]; exact Nat.le_refl _)]; rfl,<- H.eh] at e;exact K5 hg.1.1 hg.1.2.1 hg.1.2.2 wh H.ml H.chl (e.trans (funext (Af _ _)))
theorem Qq (H:GrH h l u v q0 q1 P y) (F:Fra l u v y xs vs G C U E) (wu:Rw u) (hg:GrO (fun _=>0) (VP vs xs.length) (U xs.length) g0 g1):g0=u/\g1=v:=by
 have e:=hg.2;rw [F.Un,show VP vs xs.length=cf v by rw [F.ev]; show Ad ((vs.map z1).take xs.length)=_; rw [List.take_of_length_le (by rw [List.length_map,F.lv]; exact Nat.le_refl _)],show (fun n=>cvn (fun _=>0) (cf v) n+cf u n)=cf u from funext fun n=>by rw [Ag,Rat.zero_add]] at e;exact K5 hg.1.1 hg.1.2.1 hg.1.2.2 wu H.mv H.cuv (e.trans (funext (Af _ _)))
end
noncomputable def K7:List S:=[
  .assign 2 (.idx (.call "shared" [.var 0,.var 1]) (.cint 0)),
  .assign 3 (.idx (.call "parted" [.var 0,.var 2]) (.cint 0)),
  .assign 4 (.idx (.call "parted" [.var 1,.var 2]) (.cint 0)),
  .assign 5 (.call "part_of" [.tup [.cint 1,.cint 1],.idx (.var 4) (.neg (.cint 1))]),
  .ret (.tup [.call "scaled" [.var 3,.var 5],.call "scaled" [.var 4,.var 5]])]
theorem OC {a b:NR} {x y:Rat} (e:x*y=1) (h:Al a b):Al (fun i=>a i*x) (fun i=>b i*x):=by
 refine xq2_3 h fun s t q198_ q199_ e'=>?_; obtain ⟨n,fs⟩:=q198_; obtain ⟨k,ft⟩:=q199_;refine ⟨fun i=>s i*y,fun i=>t i*y,⟨n,fun i hi=>by show s i*y=0; rw [fs i hi,Rat.zero_mul]⟩,⟨k,fun i hi=>by show t i*y=0; rw [ft i hi,Rat.zero_mul]⟩,?_⟩;have c1:∀ (s a:NR) j,cvn (fun i=>s i*y) (fun i=>a i*x) j=cvn s a j:=fun s a j=>by
  rw [Ax (a':=fun i=>y*s i) (b':=fun i=>x*a i) (fun i=>Rat.mul_comm _ _) (fun i=>Rat.mul_comm _ _),Ai,AN,<- Rat.mul_assoc,Rat.mul_comm y x,e,Rat.one_mul]
 rw [e'];funext j;rw [c1,c1]
theorem Qr {p q G S T W R W' R':LR} {L a a' b' b'' x:Nat} {y:Rat} (wp:Rw p) (wq:Rw q) (q0:q≠[]) (O:ShO L p q G S T x) (hD:Fa a a' p G W R) (hD':Fa b' b'' q G W' R') (hy:y=1 / cf (trimL W') ((trimL W').length - 1)):QR p q (trimL ((trimL W).map (·*y))) (trimL ((trimL W').map (·*y))):=by
 have hG:G≠[]/\cf G (G.length - 1)=1:=by
  rcases O.led with ⟨_,_,h⟩ | h
  ·exact absurd h q0
  ·exact h
 have mG:Mon G:=⟨O.wG,hG.1,hG.2⟩;have hG1:1<=G.length:=List.length_pos_iff.mpr hG.1;refine AI (GM wp hG.1 O.wG hD O.dp) fun ep p1 p2=>?_;refine AI (GM wq hG.1 O.wG hD' O.dq) fun eq q1 q2=>?_;refine AI (q2 q0) fun W0 lW' eW'=>?_;have wW:=rw_trim W;have wW':=rw_trim W';generalize trimL W=w at *;generalize trimL W'=u at *;rw [hG.2,Rat.mul_one] at eW';have u0:cf u (u.length - 1)≠0:=wW'.resolve_left W0;have e1:y*cf u (u.length - 1)=1:=by rw [hy]; exact Rat.div_mul_cancel u0
 have y0:y≠0:=fun z=>by rw [z,Rat.zero_mul] at e1; exact absurd e1 (by decide)
 have lh:=FI wW y0;have ll:=FI wW' y0;have ch:=AW w y;have cl:=AW u y;have l0:trimL (u.map (·*y))≠[]:=fun z=>by
  rw [z] at ll;exact W0 (List.eq_nil_of_length_eq_zero ll.symm)
 have cp:Al (cf w) (cf u):=LO mG.dg (fin_cf w) (fin_cf u) (fin_cf S) (fin_cf T) (funext O.eG) (funext ep) (funext eq);have e2:cf u (u.length - 1)*y=1:=by rw [Rat.mul_comm]; exact e1
 refine ⟨rw_trim _,⟨rw_trim _,l0,by rw [ll,cl]; exact e2⟩,?_,?_,ajb lW' ll hG1,G,mG,fun j=>?_,fun j=>?_⟩
 ·have:=OC (x:=y) (y:=cf u (u.length - 1)) e1 cp;rw [show cf (trimL (w.map (·*y)))=fun i=>cf w i*y from funext ch,show cf (trimL (u.map (·*y)))=fun i=>cf u i*y from funext cl];exact this
 ·rw [lh]
  by_cases z:p=[]
  ·rw [p1 z]; exact Nat.zero_le _
  ·have:=(p2 z).2.1; exact ajc this hG1
 ·rw [ep j,eW',Ax (a:=cf (trimL (w.map (·*y)))) (a':=fun i=>y*cf w i) (fun i=>by rw [ch i,Rat.mul_comm]) (fun _=>rfl),Ai,<- Rat.mul_assoc,e2,Rat.one_mul]
 ·rw [eq j,eW',Ax (a:=cf (trimL (u.map (·*y)))) (a':=fun i=>y*cf u i) (fun i=>by rw [cl i,Rat.mul_comm]) (fun _=>rfl),Ai,<- Rat.mul_assoc,e2,Rat.one_mul]
noncomputable def OD (c:Cx):Prop:=AD c "shared"/\∀ (p q:LR) (L b:Nat) {m:Nat} {sto:Sto} {Q:D->Sto->Prop},6<=m->L<=18->Rw p->Rw q->RC b (cf p)->RC b (cf q)->FW L b<=59000000->p.length<=L->q.length<=L->(∀ G S T,ShO L p q G S T b->Q (.tup [rowD G,rowD S,rowD T]) sto)->Ah c m "shared" [rowD p,rowD q] sto Q
noncomputable def FP (c:Cx):Prop:=AD c "made"/\∀ (p q:LR) (L b:Nat) {m:Nat} {sto:Sto} {Q:D->Sto->Prop},7<=m->L<=18->Rw p->Rw q->q≠[]->RC b (cf p)->RC b (cf q)->FW L b<=59000000->p.length<=L->q.length<=L->(∀ h l,QR p q h l->Q (.tup [rowD h,rowD l]) sto)->Ah c m "made" [rowD p,rowD q] sto Q
theorem Xf (h:OD c):Qe c:=⟨h.1,fun p q b {m sto Q} hm wp wq kp kq hb lp lq hQ=>h.2 p q 15 b hm (by decide) wp wq kp kq (by
 show (15+4)*(15+4)*((2*15+3)*(b+8)+2)<=59000000;exact Nat.le_trans (Nat.mul_le_mul_left _ (Nat.add_le_add_right (Nat.mul_le_mul_left _ (Nat.add_le_add_right hb 8)) 2)) (by decide)) lp lq hQ⟩
theorem LX {L b:Nat} (h:FW L b<=59000000):b+(L+1)*(hB L b+1)<=59000000:=by
 have h1:(L+4)*(hB L b+2)<=FW L b:=Nat.mul_le_mul_right _ (by
  have:=Nat.mul_le_mul (show 1<=L+4 by exact UJ) (Nat.le_refl (L+4));exact UK this)
 have h2:(L+4)*(hB L b+2)=(L+1)*(hB L b+2)+3*(hB L b+2):=by rw [<- Nat.add_mul]
 have h3:(L+1)*(hB L b+1)<=(L+1)*(hB L b+2):=Nat.mul_le_mul_left _ (ajd);have h4:3*(b+8)<=hB L b:=Nat.mul_le_mul_right _ (Ml);exact aje h h1 h2 h3 h4
section
variable {c:Cx} (CO:CxOK c)
include CO
theorem SH (hsh:OD c) (hpt:CY c) (hpa:E9 c 3 "part_of") (hsc:CC c 4 "scaled") (hf:FnK c "made" 2 K7):FP c:=by
 refine ⟨hf.isFn,fun p q L b {m sto Q} hm hL wp wq q0 kp kq hK lp lq h=>?_⟩;obtain ⟨n,rfl⟩:∃ n,m=n+1:=⟨m - 1,Vc hm⟩;refine fn_call CO hf rfl ?_;unfold K7;walk_at "m";refine hsh.2 p q L b (Vd hm) hL wp wq kp kq hK lp lq fun G S T O=>?_;have hx:=LX hK;have kG:=O.kG;have lG:=O.lG;have hG:G≠[]:=by
  rcases O.led with ⟨_,_,h⟩ | h
  ·exact absurd h q0
  ·exact h.1
 generalize hB L b=x at hx kG;have hG1:1<=G.length:=List.length_pos_iff.mpr hG;walk_at "m";have hab:∀ p:LR,p.length<=L->b+(p.length+2 - G.length)*(x+1)<=59000000:=fun u lu=>by
  have m1:(u.length+2 - G.length)*(x+1)<=(L+1)*(x+1):=Nat.mul_le_mul_right _ (UI hG1 lu);exact Ve hx m1
 have hab':∀ p:LR,p.length<=L->b+(p.length+1 - G.length)*(x+1)<=59000000:=fun u lu=>by
  have m1:(u.length+1 - G.length)*(x+1)<=(L+1)*(x+1):=Nat.mul_le_mul_right _ (ajf lu);exact Ve hx m1
 refine hpt.2 p G b x (Mu hm) kp kG (Nat.le_trans (hab p lp) (by decide)) hG O.wG (Pe hL lp) (Pf hL lG) fun W R hD=>?_;have kW:=hD.2.2.1.trim.mono (hab' p lp);have lW:=hD.2.2.2.2;have lw:=trim_len W;walk_at "m";refine hpt.2 q G b x (Mu hm) kq kG (Nat.le_trans (hab q lq) (by decide)) hG O.wG (Pe hL lq) (Pf hL lG) fun W' R' hD'=>?_;have kW':=hD'.2.2.1.trim.mono (hab' q lq);have lW':=hD'.2.2.2.2;have lw':=trim_len W';refine AI (GM wq hG O.wG hD' O.dq) fun eq q1 q2=>?_;have W0:=(q2 q0).1;have u0:cf (trimL W') ((trimL W').length - 1)≠0:=(rw_trim W').resolve_left W0;walk_at "m";refine EF (by exact Mine.mlim (ajg hL lq lw' lW')) (CX W0) ?_;walk_at "m";rw [Ci];have em:(((1:Int)):Rat)=1:=rfl;rw [em];refine hpa.2 1 _ 1 59000000 (ajh hm) DN (kW'.rs _) (aji) u0 ?_;have ry:RS (1+59000000) (1 / cf (trimL W') ((trimL W').length - 1)):=C3 DN (kW'.rs _) u0;obtain ⟨y,hy⟩:∃ y,y=1 / cf (trimL W') ((trimL W').length - 1):=⟨_,rfl⟩;rw [<- hy] at ry ⊢;walk_at "m";refine hsc.2 (trimL W) y 59000000 (1+59000000) (Mu hm) (fun i=>kW.rs i) ry (Vf) (Vg hL lp lw lW) ?_;walk_at "m";refine hsc.2 (trimL W') y 59000000 (1+59000000) (Mu hm) (fun i=>kW'.rs i) ry (Vf) (Vg hL lq lw' lW') ?_;walk_at "m";exact ret_plain (h _ _ (Qr wp wq q0 O hD hD' hy))
end
noncomputable def DU:List S:=[
  .ifs (.bool .Or [.not (.isa (.var 0) .tuple),.cmp .NotEq (.blt .len [.var 0]) (.cint 2),.not (.call "is_row" [.idx (.var 0) (.cint 0)]),.not (.call "is_row" [.idx (.var 0) (.cint 1)])]) [.ret (.cbool false)] [],
  .ifs (.bool .Or [.cmp .Eq (.idx (.var 0) (.cint 1)) (.tup []),.cmp .NotEq (.idx (.idx (.var 0) (.cint 1)) (.neg (.cint 1))) (.tup [.cint 1,.cint 1])]) [.ret (.cbool false)] [],
  .ret (.cmp .Eq (.idx (.call "shared" [.idx (.var 0) (.cint 0),.idx (.var 0) (.cint 1)]) (.cint 0)) (.glob "UNIT"))]
noncomputable def Dq:List S:=[
  .ifs (.not (.call "is_quotient" [.var 0])) [.raise "NoQuotient" "no quotient"] []]
noncomputable def FQ:List S:=[
  .assign 2 (.call "added" [.call "multiplied" [.idx (.var 0) (.cint 0),.idx (.var 1) (.cint 1)],.call "multiplied" [.idx (.var 1) (.cint 0),.idx (.var 0) (.cint 1)]]),
  .ret (.call "made" [.var 2,.call "multiplied" [.idx (.var 0) (.cint 1),.idx (.var 1) (.cint 1)]])]
noncomputable def OE (g:Str) (msg:Str):Bool->List S
 | true=>[.ifs (.cmp .Eq (.var 1) (.tup [])) [.raise "Nought" msg] [],.ret (.call g [.var 0,.var 1])]
 | false=>[.ret (.call g [.var 0,.var 1])]
noncomputable def Nj (z:Bool) (g:Str) (msg:Str):List S:=.expr (.call "need_row" [.var 0]) :: .expr (.call "need_row" [.var 1]) :: OE g msg z
abbrev qD (h l:LR):D:=.tup [rowD h,rowD l]
theorem H8 {p q r:LR} {k l:Nat} (hs:JJ p q r) (kp:RC k (cf p)) (kq:RC l (cf q)):RC (k+l+1) (cf (trimL r)):=(kp.add kq).cong fun j=>by rw [Ak,hs j]
theorem Ee {p q r:LR} {k l:Nat} (hp:E8 p q r) (kp:RC k (cf p)) (kq:RC l (cf q)) (lp:p.length<=31):RC (k+l+5) (cf (trimL r)):=(kp.prod kq lp).cong fun j=>by rw [Ak,hp j,Ar]
theorem Nk {p q:LR} (wp:Rw p) (wq:Rw q) (e:cf p=cf q):p=q:=IB wp wq fun i=>congrFun e i
theorem OF {L b:Nat} {p q G S T:LR} (O:ShO L p q G S T b) (mq:Mon q) (h:Al (cf p) (cf q)):G=[1]:=by
 have g:=O.led.resolve_left fun z=>mq.n z.2.2;have mG:Mon G:=⟨O.wG,g.1,g.2⟩;refine xq1_2 O.dp fun r fr er=>?_;refine xq1_2 O.dq fun t ft et=>?_;have d:Df (cf G) one0:=by
  refine xq2_3 h fun x y fx fy e=>?_;rw [e];exact GK ⟨r,fr,funext er⟩ ⟨t,ft,funext et⟩ fx fy
 have l1:=B7 BT mG d;exact Nk mG.w (.inr (by decide)) ((mG.one (J2 l1)).trans (Mon.one (p:=[1]) ⟨.inr (by decide),List.cons_ne_nil _ _,rfl⟩ (Nat.le_refl 1)).symm)
noncomputable def RM (c:Cx):Prop:=AD c "need_quotient"/\∀ (p q:LR) (L b:Nat) {m:Nat} {sto:Sto} {Q:D->Sto->Prop},8<=m->L<=18->Rw p->Mon q->Al (cf p) (cf q)->RC b (cf p)->RC b (cf q)->FW L b<=59000000->p.length<=L->q.length<=L->Q .none sto->Ah c m "need_quotient" [qD p q] sto Q
noncomputable def Xg (c:Cx):Prop:=AD c "quotient"/\∀ (p q:LR) (L b:Nat) {m:Nat} {sto:Sto} {Q:D->Sto->Prop},8<=m->L<=18->Rw p->Rw q->q≠[]->RC b (cf p)->RC b (cf q)->FW L b<=59000000->p.length<=L->q.length<=L->(∀ h l,QR p q h l->Q (qD h l) sto)->Ah c m "quotient" [rowD p,rowD q] sto Q
noncomputable def K8 (c:Cx):Prop:=AD c "together"/\∀ (h l h' l':LR) (L a b a' b':Nat) {m:Nat} {sto:Sto} {Q:D->Sto->Prop},8<=m->L<=18->RC a (cf h)->RC b (cf l)->RC a' (cf h')->RC b' (cf l')->Mon l->Mon l'->FW L (a+b'+5+(a'+b+5)+1)<=59000000->b+b'+5<=a+b'+5+(a'+b+5)+1->h.length+l'.length<=L+1->h'.length+l.length<=L+1->l.length+l'.length<=L+1->
 (∀ t s u v,Rw t->Mon s->(∀ j,cf t j=cvn (cf h) (cf l') j+cvn (cf h') (cf l) j)->(∀ j,cf s j=cvn (cf l) (cf l') j)->QR t s u v->Q (qD u v) sto)->Ah c m "together" [qD h l,qD h' l'] sto Q
section
variable {c:Cx} (CO:CxOK c)
include CO
theorem Qs (hu:c.cs "UNIT"=some (rowD [1])) (hro:GI c 3 "is_row") (hsh:OD c) (hf:FnK c "is_quotient" 1 DU) (hf':FnK c "need_quotient" 1 Dq):RM c:=by
 refine ⟨hf'.isFn,fun p q L b {m sto Q} hm hL wp mq hc kp kq hK lp lq h=>?_⟩;obtain ⟨n,rfl⟩:∃ n,m=n+2:=⟨m - 2,ajj hm⟩;refine fn_call CO hf' rfl ?_;unfold Dq;walk_at "m";refine fn_call CO hf rfl ?_;unfold DU qD;walk_at "m";refine hro.2 p (Vh hm) wp (Io hL lp) ?_;walk_at "m";refine hro.2 q (Vh hm) mq.w (Io hL lq) ?_;walk_at "m";refine c_eqD (eq_rows q []) ?_;rw [beq_eq_false_iff_ne.mpr mq.n];walk_at "m";refine EF (by exact Mine.mlim (Io hL lq)) (CX mq.n) ?_;walk_at "m";rw [Ci];have em:(((1:Int)):Rat)=1:=rfl;rw [em];refine GD (KB _ _) ?_;rw [beq_iff_eq.mpr mq.m];walk_at "m";refine hsh.2 p q L b (ajk hm) hL wp mq.w kp kq hK lp lq fun G S T O=>?_;walk_at "m";refine c_eqD (eq_rows G [1]) ?_;rw [beq_iff_eq.mpr (OF O mq hc)];walk_at "m";refine ret_plain ?_;walk_at "m";exact ret_plain h
theorem SI (hro:GI c 3 "is_row") (hn:FnK c "need_row" 1 D5) (hma:FP c) (hf:FnK c "quotient" 2 (Nj true "made" "a quotient by nought")):Xg c:=by
 refine ⟨hf.isFn,fun p q L b {m sto Q} hm hL wp wq q0 kp kq hK lp lq h=>?_⟩;obtain ⟨n,rfl⟩:∃ n,m=n+1:=⟨m - 1,Pp hm⟩;refine fn_call CO hf rfl ?_;unfold Nj OE;walk_at "m";refine GY CO hro hn wp (Io hL lp) (Fr hm) ?_;walk_at "m";refine GY CO hro hn wq (Io hL lq) (Fr hm) ?_;walk_at "m";refine c_eqD (eq_rows q []) ?_;rw [beq_eq_false_iff_ne.mpr q0];walk_at "m";refine hma.2 p q L b (Mr hm) hL wp wq q0 kp kq hK lp lq fun h' l' O=>?_;exact ret_plain (h h' l' O)
theorem SJ (had:C6 c) (hmu:Fe c) (hma:FP c) (hf:FnK c "together" 2 FQ):K8 c:=by
 refine ⟨hf.isFn,fun h l h' l' L a b a' b' {m sto Q} hm hL kh kl kh' kl' ml ml' hK hb lh lh' ll hQ=>?_⟩;obtain ⟨n,rfl⟩:∃ n,m=n+1:=⟨m - 1,Pp hm⟩;have hx:=LX hK;have hl1:=ml.pos;have hl2:=ml'.pos;refine fn_call CO hf rfl ?_;unfold FQ qD;walk_at "m";refine hmu.2 h l' a b' (Fr hm) kh kl' (ajl hx) (PA lh hL) (Vi ll hL) fun r hr=>?_;walk_at "m";refine hmu.2 h' l a' b (Fr hm) kh' kl (ajm hx) (PA lh' hL) (ajn ll hL) fun r' hr'=>?_;walk_at "m";have k1:=Ee hr kh kl' (PB lh hL);have k2:=Ee hr' kh' kl (PB lh' hL);have len:∀ {p q r:LR},E8 p q r->p.length+q.length<=L+1->(trimL r).length<=L:=fun {p q r} hr lpq=>Ay (rw_trim r) fun j hj=>by
  rw [Ak,hr j,Ar];exact Cj (N:=p.length) (M:=q.length) (fun i hi=>An hi) (fun i hi=>An hi) (Mi lpq hj)
 have lr:=len hr lh;have lr':=len hr' lh';refine had.2 (trimL r) (trimL r') _ _ (Fr hm) (fun i=>k1.rs i) (fun i=>k2.rs i) (ajo hx) (Ph hL lr) (Ph hL lr') fun s hs=>?_;have k3:=H8 hs k1 k2;have ls:(trimL s).length<=L:=Ay (rw_trim s) fun j hj=>by
  rw [Ak,hs j,An (by exact J0 lr hj),An (by exact J0 lr' hj),Rat.add_zero]
 walk_at "m";refine hmu.2 l l' b b' (Fr hm) kl kl' (ajp hx) (PA ll hL) (Vi ll hL) fun u hu=>?_;have k4:=Ee hu kl kl' (PB ll hL);have lu:=len hu ll;have mu:=Ea ml ml' (rw_trim u) fun j=>by rw [Ak,hu j,Ar]
 walk_at "m";refine hma.2 (trimL s) (trimL u) L _ (Mr hm) hL (rw_trim s) (rw_trim u) mu.1.n k3 (k4.mono hb) hK ls lu fun x y O=>?_;refine ret_plain (hQ _ _ x y (rw_trim s) mu.1 (fun j=>?_) (fun j=>?_) O)
 ·rw [Ak,hs j,Ak,Ak,hr j,hr' j,Ar,Ar]
 ·rw [Ak,hu j,Ar]
end
noncomputable def EV:List S:=[
  .assign 3 (.lst []),
  .fors [4] true .range [.var 2,.cint 0,.neg (.cint 1)] [.unpack [0,5] (.call "parted" [.var 0,.var 1]),.ifs (.cmp .NotEq (.var 5) (.tup [])) [.assign 3 (.bin .Add (.lst [.tup [.var 5,.var 1,.var 4]]) (.var 3))] []],
  .ret (.var 3)]
theorem DigP.snoc {p:NR} {e:LR} {Y Y':NR} (h:Y=fun j=>cf e j+cvn Y' p j):∀ {es:List LR} {X:NR},DigP p X es Y->DigP p X (es ++ [e]) Y'
 | [],X,k=>⟨Y',k.trans h,rfl⟩
 | a :: es,X,⟨X',e1,k⟩=>⟨X',e1,DigP.snoc h k⟩
noncomputable def Eu (p e:LR) (n:Nat):List D:=if e=[] then [] else [.tup [rowD e,rowD p,.int n]]
noncomputable def Fi (p:LR):Nat->List LR->List D
 | _,[]=>[]
 | k,e :: es=>Fi p (k - 1) es ++ Eu p e k
theorem K9 (p e:LR):∀ (es:List LR) (k:Nat),Fi p k (es ++ [e])=Eu p e (k - es.length) ++ Fi p k es
 | [],k=>(List.append_nil _).symm
 | a :: es,k=>by
  show Fi p (k - 1) (es ++ [e]) ++ Eu p a k=Eu p e (k - (es.length+1)) ++ (Fi p (k - 1) es ++ Eu p a k);rw [K9 p e es (k - 1),List.append_assoc,show k - 1 - es.length=k - (es.length+1) by exact Tj]
theorem SK (p e:LR) (n:Nat):(Eu p e n).length<=1:=by
 unfold Eu
 split
 ·exact Nat.zero_le _
 ·exact Nat.le_refl _
theorem GP (p:LR):∀ (es:List LR) (k:Nat),(Fi p k es).length<=es.length
 | [],k=>Nat.le_refl _
 | e :: es,k=>by
  show (Fi p (k - 1) es ++ Eu p e k).length<=_;rw [List.length_append,List.length_cons];have:=GP p es (k - 1);have:=SK p e k;omega
noncomputable def Xh (c:Cx):Prop:=AD c "pieces_of"/\∀ (t p:LR) (k A B:Nat) {m:Nat} {sto:Sto} {Q:D->Sto->Prop},5<=m->1<=k->k<=20->Rw t->Mon p->RC A (cf t)->RC B (cf p)->A+21*(22*(B+1))<=59000000->t.length<=20->p.length<=20->
 (∀ es T f,es.length=k->DigP (cf p) (cf t) es (cf T)->(∀ e∈es,Rw e/\e.length<p.length/\RC (A+20*(22*(B+1))) (cf e))->T.length<=t.length+k - k*p.length->sto f=none->Q (.lst f) (Sto.put sto f (.list true (Fi p k es))))->Ah c m "pieces_of" [rowD t,rowD p,.int k] sto Q
theorem LY {sto τ:Sto} {Q:D->Sto->Prop} {d:D} {l:Addr} {xs:List D} (e:τ l=some (.list true xs)) (h:sto l=none->Q d (Sto.put sto l (.list true xs))):Kq sto τ Q d:=by
 refine ⟨Sto.put sto l (.list true xs),fun b k e'=>?_,fun f=>h (f l _ e rfl)⟩;unfold Sto.put at e'
 split at e'
 ·rename_i hb;subst hb;cases e';exact .inr ⟨e,rfl⟩
 ·exact .inl e'
section
variable {c:Cx} (CO:CxOK c)
include CO
theorem SL (hpt:CY c) (hf:FnK c "pieces_of" 3 EV):Xh c:=by
 refine ⟨hf.isFn,fun t p k A B {m sto Q} hm hk1 hk wt mp kt kp hab lt lp h=>?_⟩;obtain ⟨n,rfl⟩:∃ n,m=n+1:=⟨m - 1,Il hm⟩;refine fn_call CO hf rfl ?_;unfold EV;have p1:=mp.pos;walk_at "m";refine ⟨zq rfl,fun l3 hl3=>?_⟩;walk_at "m";refine ⟨by simp [smallI]; exact JY hk,_,rfl,?_⟩;refine AM (fun i σ=>∃ (T:LR) (es:List LR) (f:Addr),es.length=i/\DigP (cf p) (cf t) es (cf T)/\(∀ e∈es,Rw e/\e.length<p.length/\RC (A+20*(22*(B+1))) (cf e))/\T.length<=t.length+i - i*p.length/\T.length<=20/\RC (A+i*(22*(B+1))) (cf T)/\σ.loc 0=some (rowD T)/\σ.loc 1=some (rowD p)/\σ.loc 3=some (.lst f)/\σ.sto f=some (.list true (Fi p k es))) (fun _ _=>False) _ 0 _ ?_ (fun _ _ _=>trivial) ?_ (fun _ _ z=>z.elim) ?_
 ·exact ⟨t,[],l3,rfl,rfl,fun e he=>absurd he List.not_mem_nil,ajq,lt,kt.mono (ajr),rfl,rfl,rfl,put_same⟩
 ·intro i d σ K hd q200_ hn hr; refine xq3_10 q200_ fun T es f le hD he lT lT2 kT g0 g1 g3 sf=>?_; clear q200_;obtain ⟨hi,rfl⟩:=ER hd;rw [Nat.zero_add] at le lT kT hn;have hik:i<k:=Eh hi;have hi2:i*(22*(B+1))<=20*(22*(B+1)):=Nat.mul_le_mul_right _ (ajs hk hik);have hN:∀ N,N<=22->A+i*(22*(B+1))+N*(B+1)<=A+(i+1)*(22*(B+1)):=fun N hN=>by
   have:=Nat.mul_le_mul_right (B+1) hN;rw [Nat.add_mul i 1,Nat.one_mul]; exact ajt this
  have hi3:(i+1)*(22*(B+1))<=20*(22*(B+1)):=Nat.mul_le_mul_right _ (aju hk hik);walk_at "m";refine hpt.2 T p _ B (F5 hm) kT kp (by have:=hN (T.length+2 - p.length) (ajv lT2); exact ajw this hab hi3) mp.n mp.w (ajx lT2) lp fun W R hd'=>?_;have lw:=trim_len W;have lW:=hd'.2.2.2.2;have kW:RC (A+(i+1)*(22*(B+1))) (cf (trimL W)):=hd'.2.2.1.trim.mono (hN _ (Vj lT2));have kR:RC (A+20*(22*(B+1))) (cf (trimL R)):=hd'.2.2.2.1.trim.mono (Nat.le_trans (hN _ (Vj lT2)) (ajy hi3));have lR:(trimL R).length<=p.length - 1:=Ay (rw_trim R) fun j hj=>by rw [Ak]; exact hd'.2.1 j hj
  have eT:cf T=fun j=>cf (trimL R) j+cvn (cf (trimL W)) (cf p) j:=funext fun j=>by
   rw [hd'.1 j,Ar,Ak,Ax (fun i=>(Ak W i)) (fun _=>rfl),Rat.add_comm]
  have hD':=DigP.snoc eT hD;have he':∀ e∈es ++ [trimL R],Rw e/\e.length<p.length/\RC (A+20*(22*(B+1))) (cf e):=fun e hm=>by
   rcases List.mem_append.mp hm with hm | hm
   ·exact he e hm
   ·rw [List.mem_singleton.mp hm]; exact ⟨rw_trim R,Mo p1 lR,kR⟩
  have lW':(trimL W).length<=t.length+(i+1) - (i+1)*p.length:=by rw [Nat.succ_mul]; exact ajz p1 lW lw lT
  have hpc:=K9 p (trimL R) es k;have hl:=GP p es k;refine ⟨_,rfl,rfl,?_⟩;generalize trimL W=w at *;generalize trimL R=r at *;walk_at "m";refine GD (eq_rows r []) ?_;walk_at "m";refine if_b (fun hb=>?_) fun hb=>?_
  ·have r0:r≠[]:=by simpa using hb
   walk_at "m";refine ⟨zq rfl,fun l4 hl4=>?_⟩;refine HP g3 ?_;refine F9 put_same (put_old hl4 sf) (zq rfl) (by unfold lim; exact ajA le hk hl hik) fun l5 hl5=>?_;walk_at "m";refine hn _ ⟨w,es ++ [r],l5,by rw [List.length_append,le]; rfl,hD',he',lW',Vk p1 lT2 lW lw,kW,rfl,g1,rfl,?_⟩;rw [hpc];have:Eu p r (k - es.length)=[.tup [rowD r,rowD p,.int ((k:Int) - (i:Int))]]:=by
    unfold Eu;rw [if_neg r0,le,show ((k - i:Nat):Int)=(k:Int) - (i:Int) by exact ajB hik]
   rw [this];exact put_same
  ·have r0:r=[]:=by simpa using hb
   walk_at "m";refine hn _ ⟨w,es ++ [r],f,by rw [List.length_append,le]; rfl,hD',he',lW',Vk p1 lT2 lW lw,kW,rfl,g1,g3,?_⟩;rw [hpc];have:Eu p r (k - es.length)=[]:=by unfold Eu; rw [if_pos r0]
   rw [this];exact sf
 ·intro σ q201_; refine xq3_10 q201_ fun T es f le hD he lT lT2 kT g0 g1 g3 sf=>?_; clear q201_;have hlen:(BO (k:Int) 0).length=k:=by unfold BO; rw [List.length_map,List.length_range]; exact G6
  have hz:(0:Nat)+(BO (k:Int) 0).length=k:=by rw [hlen,Nat.zero_add]
  rw [hz] at le lT;walk_at "m";exact LY sf fun hb=>h es T f le hD he lT hb
end
noncomputable def Hm:List S:=[
  .assign 2 (.glob "UNIT"),
  .fors [3] true .range [.var 1] [.assign 2 (.call "multiplied" [.var 2,.var 0])],
  .ret (.var 2)]
noncomputable def Qt (c:Cx):Prop:=AD c "raised"/\∀ (p:LR) (k B:Nat) {m:Nat} {sto:Sto} {Q:D->Sto->Prop},5<=m->k<=20->Mon p->RC B (cf p)->(∀ i,i<=k->RC B (Aa (cf p) i))->B<=1000000->(p.length - 1)*k<=18->(∀ r,Mon r->cf r=Aa (cf p) k->r.length=(p.length - 1)*k+1->Q (rowD r) sto)->Ah c m "raised" [rowD p,.int k] sto Q
section
variable {c:Cx} (CO:CxOK c)
include CO
theorem SM (hu:c.cs "UNIT"=some (rowD [1])) (hmu:Fe c) (hf:FnK c "raised" 2 Hm):Qt c:=by
 refine ⟨hf.isFn,fun p k B {m sto Q} hm hk mp kp kps hB lk h=>?_⟩;obtain ⟨n,rfl⟩:∃ n,m=n+1:=⟨m - 1,Il hm⟩;refine fn_call CO hf rfl ?_;unfold Hm;have p1:=mp.pos;walk_at "m";refine ⟨by simp [smallI]; exact JY hk,_,rfl,?_⟩;refine AM (fun i σ=>∃ r:LR,Mon r/\cf r=Aa (cf p) i/\r.length=(p.length - 1)*i+1/\σ.loc 1=some (.int k)/\σ.loc 0=some (rowD p)/\σ.loc 2=some (rowD r)) (fun _ _=>False) _ 0 _ ?_ (fun _ _ _=>trivial) ?_ (fun _ _ z=>z.elim) ?_
 ·exact ⟨[1],mon_unit,cf_unit,by rw [Nat.mul_zero]; rfl,rfl,rfl,rfl⟩
 ·intro i d σ K hd q202_ hn hr; refine xq1_6 q202_ fun r mr er lr g1 g0 g2=>?_; clear q202_;rw [Nat.zero_add] at er lr hn;have hi:i<k:=by
   have:=(List.getElem?_eq_some_iff.mp hd).1;have hlen:(Bm 0 (k:Int)).length=k:=by unfold Bm; rw [List.length_map,List.length_range]; exact G6
   exact Jc hlen this
  have hle:(p.length - 1)*i+(p.length - 1)<=18:=by
   have:=Nat.mul_le_mul_left (p.length - 1) (show i+1<=k by exact JU hi);rw [Nat.mul_add,Nat.mul_one] at this;exact ajC this lk
  walk_at "m";refine hmu.2 r p B B (F5 hm) (by rw [er]; exact kps i (Ij hi)) kp (ajD hB) (ajE lr hle) (ajF hle) fun s hs=>?_;obtain ⟨ms,lms⟩:=Ea mr mp (rw_trim s) fun j=>by rw [Ak,hs j,Ar]
  walk_at "m";refine hn _ ⟨trimL s,ms,?_,?_,g1,g0,rfl⟩
  ·show _=cvn (Aa (cf p) i) (cf p);rw [<- er]; exact funext fun j=>by rw [Ak,hs j,Ar]
  ·rw [Nat.mul_add,Nat.mul_one]; exact ajG lms lr p1
 ·intro σ q203_; refine xq1_6 q203_ fun r mr er lr g1 g0 g2=>?_; clear q203_;have hlen:(0:Nat)+(Bm 0 (k:Int)).length=k:=by unfold Bm; rw [List.length_map,List.length_range]; exact Uf
  rw [hlen] at er lr;walk_at "m";exact ret_plain (h r mr er lr)
end
noncomputable def IX:List S:=[
  .unpack [2,3] (.call "parted" [.idx (.var 0) (.cint 0),.idx (.var 0) (.cint 1)]),
  .assign 4 (.lst []),
  .fors [5,6] false .plain [.call "cut" [.idx (.var 0) (.cint 1),.var 1]] [.assign 7 (.call "raised" [.var 5,.var 6]),.assign 8 (.idx (.call "parted" [.idx (.var 0) (.cint 1),.var 7]) (.cint 0)),.assign 9 (.idx (.call "shared" [.var 8,.var 7]) (.cint 1)),.assign 10 (.idx (.call "parted" [.call "multiplied" [.var 3,.var 9],.var 7]) (.cint 1)),.assign 4 (.bin .Add (.var 4) (.call "pieces_of" [.var 10,.var 5,.var 6]))],
  .ret (.tup [.var 2,.var 4])]
section
variable {R:Type} [Lean.Grind.CommRing R]
theorem abR {a b c:R}:a*(b*c)=b*(a*c):=by grind
end
theorem pow_df {p:NR} (fp:Ab p) {i k:Nat} (h:i<=k):Df (Aa p i) (Aa p k):=BN fp h (BB _)
inductive TkL (q1 R:NR):List (LR×Nat)->List (List LR)->List D->Prop
 | nil:TkL q1 R [] [] []
 | snoc {xs ess ds x es}:TkL q1 R xs ess ds->OA q1 R x es->TkL q1 R (xs ++ [x]) (ess ++ [es]) (ds ++ Fi x.1 x.2 es)
theorem TkL.len {q1 R:NR} {xs:List (LR×Nat)} {ess:List (List LR)} {ds:List D} (h:TkL q1 R xs ess ds) (hx:∀ x∈xs,x.2<=20):ds.length<=20*xs.length:=by
 induction h with
 | nil=>exact Nat.le_refl _
 | snoc k p ih =>
  refine xq6_7 p fun _ _ _ _ _ _ _ _ _ _ le _ _=>?_;rw [List.length_append,List.length_append];have h1:=ih fun x hm=>hx x (List.mem_append.mpr (.inl hm));have h2:=hx _ (List.mem_append.mpr (.inr (.head _)));exact Nat.le_trans (Nat.add_le_add h1 (GP _ _ _)) (by rw [le]; show _<=20*(_+1); exact ajH h2)
noncomputable def Xi (c:Cx):Prop:=AD c "taken"/\∀ (q0 q1:LR) (A:Nat) (a:Addr) (o:Bool) {m:Nat} {sto:Sto} {Q:D->Sto->Prop},10<=m->Rw q0->Mon q1->RC A (cf q0)->A<=10000->RC 470 (cf q1)->q0.length<=18->q1.length<=15->sto a=some (.list o [])->
 (∀ W R xs ess ds f,Rw W->W.length<=q0.length+1 - q1.length->RC 20000 (cf W)->(cf q0=fun j=>cvn (cf W) (cf q1) j+cf R j)->Bd (q1.length - 1) (cf R)->PtOK (cf q1) [] xs->TkL (cf q1) (cf R) xs ess ds->sto f=none->Q (.tup [rowD W,.lst f]) (Sto.put sto f (.list true ds)))->Ah c m "taken" [qD q0 q1,.lst a] sto Q
theorem Qu {l:LR} (ml:Mon l) {b:Nat} (k:RC b (cf l)):cf (Cq l)=cf l:=funext fun i=>by
 have:=(KR ml.w ml.n k).2.2.2 i;rw [ml.m,Rat.mul_one] at this;exact this
theorem FR {q1:LR} {xs:List (LR×Nat)} (mq:Mon q1) (kq:RC 470 (cf q1)) (lq:q1.length<=15) (I:PtOK (cf q1) [] xs) {x:LR×Nat} (hx:x∈xs) :
  Mon x.1/\2<=x.1.length/\1<=x.2/\(x.1.length - 1)*x.2<=14/\x.2<=14/\x.1.length<=15/\(∀ i,i<=x.2->RC 640 (Aa (cf x.1) i))/\RC 640 (cf x.1)/\Df (Aa (cf x.1) x.2) (cf q1)/\∀ o:NR,Ab o->cf q1=cvn o (Aa (cf x.1) x.2)->Al o (Aa (cf x.1) x.2):=by
 have O:=I.one x hx;have mx:=O.mon;have hl:=O.l;have d1:Df (Aa (cf x.1) x.2) (cf q1):=by rw [I.pr]; exact Gg hx
 have dP:=pow_deg mx.dg x.2;refine xq1_3 (d1.deg mq.dg dP.fin) fun j hj dj _=>?_;have e:=dj.uniq dP;have hdeg:x.2*(x.1.length - 1)<=14:=ajI e hj lq;have hk14:x.2<=14:=Nat.le_trans (by have:=Nat.mul_le_mul_left x.2 (show 1<=x.1.length - 1 by exact Fq hl); exact ajJ this) hdeg;have rc:∀ i,i<=x.2->RC 640 (Aa (cf x.1) i):=fun i hi=>(GO mq.dg (o757 lq) kq (pow_deg mx.dg i) (pow_lead mx i) (df_trans (pow_df (fin_cf x.1) hi) d1)).mono (o758 lq);have hx1:x.1.length - 1<=14:=Nat.le_trans (by have:=Nat.mul_le_mul_right (x.1.length - 1) O.k; exact ajK this) hdeg;refine ⟨mx,hl,O.k,by rw [Nat.mul_comm]; exact hdeg,hk14,ajL hx1,rc,by have:=rc 1 O.k; rwa [Cr] at this,d1,fun o fo eo=>?_⟩;refine DG (List.append_of_mem hx) fun ys zs q204_=>?_; obtain rfl:=q204_;refine AI (List.pairwise_append.mp I.pw) fun p1 p2 p3=>?_;have e2:cf q1=cvn (Aa (cf x.1) x.2) (cvn (Ad ys) (Ad zs)):=by
  rw [I.pr,show x :: zs=[x] ++ zs from rfl,BW,BW,DP];exact @abR NR psRing _ _ _
 have e3:o=cvn (Ad ys) (Ad zs):=Az dP fo (fin_cvn (fin_prod ys) (fin_prod zs)) (by rw [<- e2,eo]; exact funext fun j=>Af _ _ j);rw [e3];have c1:Al (cf x.1) (Ad ys):=BZ (fin_cf x.1) ys fun y hy=>Ao (p3 y hy x (.head _)).1;have c2:Al (cf x.1) (Ad zs):=BZ (fin_cf x.1) zs fun y hy=>((List.pairwise_cons.mp p2).1 y hy).1;have c3:=C7 (fin_cf x.1) (fin_prod ys) (fin_prod zs) c1 c2;exact DD (fin_cvn (fin_prod ys) (fin_prod zs)) (fin_cf x.1) (Ao c3) x.2
section
variable {c:Cx} (CO:CxOK c)
include CO
theorem SN (hpt:CY c) (hcu:Ot c) (hra:Qt c) (hsh:Qe c) (hmu:Fe c) (hpi:Xh c) (hf:FnK c "taken" 2 IX):Xi c:=by
 refine ⟨hf.isFn,fun q0 q1 A a o {m sto Q} hm w0 mq kA hA kq l0 lq ha hQ=>?_⟩;obtain ⟨n,rfl⟩:∃ n,m=n+1:=⟨m - 1,ajM hm⟩;have hpm:=KT hpt;refine fn_call CO hf rfl ?_;unfold IX qD;have ha':=CU ha;have lq1:=mq.pos;walk_at "m";have hN:∀ N,N<=20->A+N*(470+1)<=20000:=fun N h=>Nat.le_trans (Nat.add_le_add hA (Nat.mul_le_mul_right (470+1) h)) (by decide);refine hpt.2 q0 q1 A 470 (Mv hm) kA kq (by have:=hN (q0.length+2 - q1.length) (ajN l0); exact ajO this) mq.n mq.w (UM l0) (Pn lq) fun W R hD=>?_;have lw:=trim_len W;have lW:(trimL W).length<=q0.length+1 - q1.length:=Nat.le_trans lw hD.2.2.2.2;have kW:RC 20000 (cf (trimL W)):=hD.2.2.1.trim.mono (hN _ (Vl l0));have kR:RC 20000 (cf (trimL R)):=hD.2.2.2.1.trim.mono (hN _ (Vl l0));have bR:Bd (q1.length - 1) (cf (trimL R)):=fun j hj=>by rw [Ak]; exact hD.2.1 j hj
 have lR:(trimL R).length<=q1.length - 1:=Ay (rw_trim R) bR;have e0:cf q0=fun j=>cvn (cf (trimL W)) (cf q1) j+cf (trimL R) j:=funext fun j=>by
  rw [hD.1 j,Ar,Ak,Ax (fun i=>(Ak W i)) (fun _=>rfl)]
 have wW:=rw_trim W;generalize trimL W=w at *;generalize trimL R=r at *;refine ⟨_,rfl,rfl,?_⟩;walk_at "m";refine ⟨zq rfl,fun l4 hl4=>?_⟩;have hne:a≠l4:=fun z=>by
  subst z;have h4:Sto.ro sto a=none:=hl4;rw [ha'] at h4; cases h4
 walk_at "m";refine i_tup1 ?_;walk_at "m";refine hcu.2 q1 a false (o766 hm) mq.w mq.n kq lq ((put_ne hne).trans ha') fun xs lx I hlx=>?_;rw [Qu mq kq] at I;have lxs:xs.length<=14:=Nat.le_trans (I.len mq.dg) (Vm lq);have nx:l4≠lx:=fun z=>by
  rw [<- z] at hlx;have hlx:Sto.put (Sto.ro sto) l4 (.list true []) l4=none:=hlx;rw [put_same] at hlx; cases hlx
 refine ⟨true,xs.map Js,put_same,by exact Mine.mlim (ajP lxs),?_⟩;refine AM (fun i σ=>∃ (ess:List (List LR)) (ds:List D) (f:Addr),TkL (cf q1) (cf r) (xs.take i) ess ds/\σ.loc 0=some (.tup [rowD q0,rowD q1])/\σ.loc 2=some (rowD w)/\σ.loc 3=some (rowD r)/\σ.loc 4=some (.lst f)/\σ.sto f=some (.list true ds)/\σ.sto lx=some (.list true (xs.map Js))) (fun _ _=>False) _ 0 _ ?_ ?_ ?_ (fun _ _ z=>z.elim) ?_
 ·exact ⟨[],[],l4,.nil,rfl,rfl,rfl,rfl,(put_ne nx).trans put_same,put_same⟩
 ·intro i σ q205_; refine xq3_7 q205_ fun ess ds f _ _ _ _ _ _ sx=>?_; clear q205_;exact ⟨true,sx⟩
 ·intro i d σ K hd q206_ hn hr; refine xq3_7 q206_ fun ess ds f hT g0 g2 g3 g4 sf sx=>?_; clear q206_;rw [Nat.zero_add] at hT hn;obtain ⟨x,hxi,rfl⟩:∃ x,xs[i]?=some x/\d=Js x:=by
   rw [List.getElem?_map] at hd;cases e:xs[i]? with
   | none=>rw [e] at hd; cases hd
   | some x=>rw [e] at hd; cases hd; exact ⟨x,rfl,rfl⟩
  have hx:=List.mem_of_getElem? hxi;refine VT (FR mq kq lq I hx) fun mx lx2 hk1 hdeg hk14 lx15 kpw kx dvd cop=>?_;have hds:ds.length<=20*(xs.take i).length:=hT.len fun y hy=>by
   have:=(FR mq kq lq I (List.mem_of_mem_take hy)).2.2.2.2.1;exact J4 this
  have hti:(xs.take i).length<=14:=by rw [List.length_take]; exact ajQ lxs
  refine ⟨[rowD x.1,.int x.2],rfl,rfl,?_⟩;walk_at "m";refine hra.2 x.1 x.2 640 (Vn hm) (J4 hk14) mx kx kpw (Vo) (ajR hdeg) fun mine mm em lm=>?_;have kmine:RC 640 (cf mine):=by rw [em]; exact kpw _ (Nat.le_refl _)
  walk_at "m";refine hpm.2 q1 mine (Mv hm) mq mm (kq.mono (U2)) (kmine.mono (ajS)) lq (PC lm hdeg) (by rw [em]; exact dvd) fun others oR mo lo eo=>?_;walk_at "m";have eo':cf q1=cvn (cf others) (Aa (cf x.1) x.2):=by rw [<- em]; exact eo
  have cpo:=cop _ (fin_cf others) eo';have ko:RC 640 (cf others):=(IU mq.dg (o757 lq) kq mo ⟨cf mine,fin_cf mine,eo.trans (funext fun j=>Af _ _ j)⟩).2.mono (o758 lq);walk_at "m";refine hsh.2 others mine 640 (ajT hm) mo.w mm.w ko kmine (Ps) lo (PC lm hdeg) fun G S T O=>?_;have eG:=OF O mm (by rw [em]; exact cpo);have lS:=O.lS;have kS:=O.kS;have eS:=O.eG;rw [eG] at lS eS;have lS:S.length<=15:=by have:S.length+1<=16:=lS; exact ajU this
  have kS:RC 21600 (cf S):=kS.mono (by decide);have eS':one0=fun j=>cvn (cf S) (cf others) j+cvn (cf T) (Aa (cf x.1) x.2) j:=by
   rw [<- em,<- show cf [1]=one0 from cf_unit];exact funext eS
  walk_at "m";refine hmu.2 r S 20000 21600 (Mv hm) kR kS (ajV) (ajW lq lR) (ajX lS) fun z hz=>?_;have kz:=Ee hz kR kS (ajY lq lR);have lz:(trimL z).length<=28:=Ay (rw_trim z) fun j hj=>by
   rw [Ak,hz j,Ar];exact Cj (N:=r.length) (M:=S.length) (fun i hi=>An hi) (fun i hi=>An hi) (ajZ hj lq lS lR)
  walk_at "m";have hM:∀ N,N<=30->20000+21600+5+N*(640+1)<=61000:=fun N h=>Nat.le_trans (Nat.add_le_add_left (Nat.mul_le_mul_right (640+1) h) _) (by decide);have lm1:=mm.pos;refine hpt.2 (trimL z) mine _ 640 (Mv hm) kz kmine (by have:=hM ((trimL z).length+2 - mine.length) (aj0 lz); exact aj1 this) mm.n mm.w (aj2 lz) (aj3 lm hdeg) fun W2 Tp hD2=>?_;have kT2:RC 61000 (cf (trimL Tp)):=hD2.2.2.2.1.trim.mono (hM _ (aj4 lz));have bT2:Bd (x.2*(x.1.length - 1)) (cf (trimL Tp)):=fun j hj=>by
   rw [Ak];exact hD2.2.1 j (by rw [lm,Nat.mul_comm]; exact hj)
  have lT2:(trimL Tp).length<=x.2*(x.1.length - 1):=Ay (rw_trim Tp) bT2;have hdeg':x.2*(x.1.length - 1)<=14:=by rw [Nat.mul_comm]; exact hdeg
  have e2:cvn (cf r) (cf S)=fun j=>cvn (cf W2) (Aa (cf x.1) x.2) j+cf (trimL Tp) j:=funext fun j=>by
   have h1:cf (trimL z) j=cvn (cf r) (cf S) j:=by rw [Ak,hz j,Ar]
   rw [<- h1,hD2.1 j,Ar,Ak,em]
  walk_at "m";refine hpi.2 (trimL Tp) x.1 x.2 61000 640 (Vn hm) hk1 (J4 hk14) (rw_trim Tp) mx kT2 kx (aj5) (aj6 hdeg' lT2) (Pn lx15) fun es T' f' le hDg hes _ hf'=>?_;have hpl:=GP x.1 es x.2;refine F9 (put_old hf' sf) put_same (by unfold lim; exact aj7 hti hds) (by unfold lim; exact aj8 le hk14 hpl) fun l9 hl9=>?_;walk_at "m";refine hn _ ⟨ess ++ [es],ds ++ Fi x.1 x.2 es,l9,?_,g0,g2,g3,rfl,put_same,put_old hl9 (put_old hf' sx)⟩;rw [List.take_add_one,hxi];exact .snoc hT ⟨others,S,T,W2,trimL Tp,T',eo',eS',e2,bT2,le,hDg,fun e he=>⟨(hes e he).1,(hes e he).2.1,(hes e he).2.2.mono (aj9)⟩⟩
 ·intro σ q207_; refine xq3_7 q207_ fun ess ds f hT g0 g2 g3 g4 sf sx=>?_; clear q207_;rw [Nat.zero_add,List.length_map,List.take_length] at hT;walk_at "m";exact LY sf fun hb=>hQ _ _ _ _ _ _ wW lW kW e0 bR I hT hb
end
noncomputable def Go:List S:=[
  .assign 3 (.call "rate_of" [.var 1]),
  .assign 4 (.idx (.call "shared" [.var 1,.var 3]) (.cint 2)),
  .assign 5 (.idx (.call "parted" [.call "multiplied" [.var 0,.var 4],.var 1]) (.cint 1)),
  .assign 6 (.idx (.call "parted" [.call "lessened" [.var 0,.call "multiplied" [.var 5,.var 3]],.var 1]) (.cint 0)),
  .assign 7 (.tup [.cint 1,.bin .Sub (.var 2) (.cint 1)]),
  .assign 8 (.call "made" [.call "scaled" [.var 5,.tup [.neg (.cint 1),.bin .Sub (.var 2) (.cint 1)]],.call "raised" [.var 1,.bin .Sub (.var 2) (.cint 1)]]),
  .ret (.tup [.var 8,.call "added" [.var 6,.call "scaled" [.call "rate_of" [.var 5],.var 7]]])]
noncomputable def Nl (c:Cx) (f:Str):Prop:=AD c f/\∀ (p:LR) (k:Nat) {m:Nat} {sto:Sto} {Q:D->Sto->Prop},4<=m->RC k (cf p)->k<=60000000->p.length<=31->(∀ V,Rw V->cf V=Ac (cf p)->V.length<=p.length - 1->RC (k+5) (cf V)->Q (rowD V) sto)->Ah c m f [rowD p] sto Q
noncomputable def Nm (c:Cx):Prop:=AD c "lowered"/\∀ (t p:LR) (γ raw:NR) (k Kt:Nat) {m:Nat} {sto:Sto} {Q:D->Sto->Prop},9<=m->Rw t->t.length<=p.length->Mon p->2<=p.length->p.length<=6->1<=k->k<=10->(p.length - 1)*k<=5->RC Kt (cf t)->Kt<=20000->RC 640 (cf p)->(∀ i,i<=k->RC 640 (Aa (cf p) i))->Al (cf p) (Ac (cf p))->RC 5000 γ->Ab raw->
 (∀ back S W less:NR,Ab back->Ab S->Ab W->Bd (p.length - 1) less->(one0=fun j=>cvn S (cf p) j+cvn back (Ac (cf p)) j)->(cvn (cf t) back=fun j=>cvn W (cf p) j+less j)->(less=fun j=>-(k:Rat)*γ j)/\(fun j=>cf t j - cvn less (Ac (cf p)) j)=cvn raw (cf p))->
 (∀ G P g0 g1 F,Rw G->cf G=γ->Mon P->cf P=Aa (cf p) k->QR G P g0 g1->Rw F->(cf F=fun j=>raw j+Ac (fun j=>-(k:Rat)*γ j) j*(1 / (k:Rat)))->Q (.tup [qD g0 g1,rowD F]) sto)->Ah c m "lowered" [rowD t,rowD p,.int ((k+1:Nat):Int)] sto Q
theorem La {k:Nat} (h:1<=k):D.tup [.int 1,.int (k:Int)]=Ae (1 / (k:Rat))/\D.tup [.int (-1),.int (k:Int)]=Ae (-(1 / (k:Rat))):=by
 have e:(1 / (k:Rat))=mkRat 1 k:=by rw [Rat.mkRat_eq_div]; rfl
 have hn:(mkRat 1 k).num=1/\(mkRat 1 k).den=k:=by
  rw [Rat.mkRat_def,dif_neg (show ¬ k=0 by exact G5 h)];exact ⟨by simp [Rat.normalize],by simp [Rat.normalize]⟩
 unfold Ae;rw [e,Rat.neg_num,Rat.neg_den,hn.1,hn.2];exact ⟨rfl,rfl⟩
theorem Lb {k:Nat} (h:1<=k) (hk:k<=10):RS 10 (1 / (k:Rat))/\RS 10 (-(1 / (k:Rat))):=by
 have:=La h;unfold Ae at this;obtain ⟨h1,h2⟩:=this;injection h1 with h1;injection h2 with h2;simp only [List.cons.injEq,D.int.injEq,and_true] at h1 h2;exact ⟨⟨by rw [<- h1.1]; decide,by have:=h1.2; exact aka hk h1⟩,⟨by rw [<- h2.1]; decide,by have:=h2.2; exact akb hk h2⟩⟩
section
variable {c:Cx} (CO:CxOK c)
include CO
theorem Lc {t g x f:Str} (ht:Cu c 1 t) (hg:DM c 3 g) (hf:FnK c f 1 (D9 t g x)):Nl c f:=by
 refine ⟨hf.isFn,fun p k {m sto Q} hm kp hk lp h=>LJ CO ht hg hf (fun i=>kp.rs i) (akc hk) (akd lp) hm fun r hr=>?_⟩;have e:cf (trimL r)=Ac (cf p):=funext fun j=>by
  rw [Ak,hr j,Rat.mul_comm]; rfl
 refine h _ (rw_trim r) e (Ay (rw_trim r) fun j hj=>?_) (by rw [e]; exact KQ kp lp);rw [e];show _*cf p (j+1)=0;rw [An (by exact O3 hj),Rat.mul_zero]
theorem SO (hra:Nl c "rate_of") (hsh:OD c) (hmu:Fe c) (hpt:CY c) (hle:KK c) (hma:FP c) (hsc:CC c 4 "scaled") (hrai:Qt c) (had:C6 c) (hf:FnK c "lowered" 3 Go):Nm c:=by
 refine ⟨hf.isFn,fun t p γ raw k Kt {m sto Q} hm wt lt mp l2 l6 hk1 hk lk kt hKt kp kps sq kγ fraw hmath h=>?_⟩;obtain ⟨n,rfl⟩:∃ n,m=n+1:=⟨m - 1,U3 hm⟩;refine fn_call CO hf rfl ?_;unfold Go;walk_at "m";refine hra.2 p 640 (Fs hm) kp (ake) (PD l6) fun V wV eV lV kV=>?_;walk_at "m";refine hsh.2 p V 6 645 (akf hm) (Vp) mp.w wV (kp.mono (Ps)) kV (by decide) l6 (akg l6 lV) fun G S T O=>?_;have mV:V≠[]:=fun z=>by
  have:Ac (cf p) (p.length - 2)=0:=by rw [<- eV,z]; rfl
  have d:=(Om (k:=p.length - 2) (by rw [show p.length - 2+1=p.length - 1 by exact akh l2]; exact mp.dg)).1;exact d this
 have gG:G=[1]:=by
  have g:=O.led.resolve_left fun z=>mp.n z.2.1;have mG:Mon G:=⟨O.wG,g.1,g.2⟩;refine xq1_2 O.dp fun r fr er=>?_;refine xq1_2 O.dq fun q fq eq=>?_;have d:Df (cf G) one0:=by
   refine xq2_3 sq fun x y fx fy e=>?_;rw [e];exact GK ⟨r,fr,funext er⟩ ⟨q,fq,by rw [<- eV]; exact funext eq⟩ fx fy
  exact Nk mG.w mon_unit.w ((mG.one (by have:=B7 BT mG d; exact J2 this)).trans cf_unit.symm)
 have kT:=O.kT;have lT:=O.lT;have eS:=O.eG;rw [gG] at eS;have kT:RC 10000 (cf T):=kT.mono (by decide);have eS':one0=fun j=>cvn (cf S) (cf p) j+cvn (cf T) (Ac (cf p)) j:=by
  rw [<- cf_unit,<- eV];exact funext eS
 walk_at "m";refine hmu.2 t T Kt 10000 (Fs hm) kt kT (aki hKt) (akj l6 lt) (akk lT) fun z hz=>?_;have kz:=Ee hz kt kT (akl l6 lt);have lz:(trimL z).length<=12:=Ay (rw_trim z) fun j hj=>by
  rw [Ak,hz j,Ar];exact Cj (N:=t.length) (M:=T.length) (fun i hi=>An hi) (fun i hi=>An hi) (akm hj lT l6 lt)
 walk_at "m";have hM:∀ N,N<=14->Kt+10000+5+N*(640+1)<=40000:=fun N h=>Nat.le_trans (Nat.add_le_add (Nat.add_le_add_right (Nat.add_le_add_right hKt _) _) (Nat.mul_le_mul_right (640+1) h)) (by decide);refine hpt.2 (trimL z) p _ 640 (Fs hm) kz kp (by have:=hM ((trimL z).length+2 - p.length) (Vq lz); exact akn this) mp.n mp.w (Vr lz) (Vs l6) fun W less hD=>?_;have bl:Bd (p.length - 1) (cf (trimL less)):=fun j hj=>by rw [Ak]; exact hD.2.1 j hj
 have ll:(trimL less).length<=p.length - 1:=Ay (rw_trim less) bl;have kl:RC 40000 (cf (trimL less)):=hD.2.2.2.1.trim.mono (hM _ (Vt lz));obtain ⟨e1,e2⟩:=hmath (cf T) (cf S) (cf W) (cf (trimL less)) (fin_cf T) (fin_cf S) (fin_cf W) bl eS' (funext fun j=>by
  have h1:cf (trimL z) j=cvn (cf t) (cf T) j:=by rw [Ak,hz j,Ar]
  rw [<- h1,hD.1 j,Ar,Ak])
 generalize trimL less=r at *;walk_at "m";refine hmu.2 r V 40000 645 (Fs hm) kl kV (ako) (akp l6 ll) (akq l6 lV) fun x hx=>?_;have kx:=Ee hx kl kV (Vu l6 ll);have lx:(trimL x).length<=10:=Ay (rw_trim x) fun j hj=>by
  rw [Ak,hx j,Ar];exact Cj (N:=r.length) (M:=V.length) (fun i hi=>An hi) (fun i hi=>An hi) (akr hj l6 lV ll)
 walk_at "m";refine hle.2 t (trimL x) Kt _ (Vv hm) (fun i=>kt.rs i) (fun i=>kx.rs i) (aks hKt) (Vx l6 lt) (akt lx) fun y wy ey=>?_;have ky:RC (Kt+(40000+645+5+1)+1) (cf y):=(kt.add (kx.scale IL)).cong fun i=>by rw [ey i]; grind
 have ly:y.length<=12:=Ay wy fun j hj=>by rw [ey j,An (by exact aku hj l6 lt),An (by exact akv hj lx)]; grind
 have eyy:cf y=cvn raw (cf p):=by
  rw [<- e2];funext j;rw [ey j,Ak,hx j,Ar,eV]
 walk_at "m";have hM2:∀ N,N<=14->Kt+(40000+645+5+1)+1+N*(640+1)<=80000:=fun N h=>Nat.le_trans (Nat.add_le_add (Nat.add_le_add_right (Nat.add_le_add_right hKt _) _) (Nat.mul_le_mul_right (640+1) h)) (by decide);refine hpt.2 y p _ 640 (Fs hm) ky kp (by have:=hM2 (y.length+2 - p.length) (Vq ly); exact akw this) mp.n mp.w (Vr ly) (Vs l6) fun L L' hD2=>?_;have eL:cf (trimL L)=raw:=by
  have u:=C5 mp.dg.1 mp.dg.2 (fin_cf L) fraw (R:=cf L') (R':=fun _=>0) (fun i hi=>hD2.2.1 i (akx hi)) (fun _ _=>rfl) fun j=>by
   rw [<- Ar,<- hD2.1 j,eyy,Rat.add_zero]
  exact funext fun j=>by rw [Ak]; exact u.1 j
 have kL:RC 80000 (cf (trimL L)):=hD2.2.2.1.trim.mono (hM2 _ (Vt ly));have lL:(trimL L).length<=13:=Nat.le_trans (Nat.le_trans (trim_len L) hD2.2.2.2.2) (aky ly);generalize trimL L=q at *;walk_at "m";rw [show ((k+1:Nat):Int) - 1=(k:Int) by exact Vy,(La hk1).1,show -(1:Int)=-1 from rfl,(La hk1).2];walk_at "m";refine hsc.2 r _ 40000 10 (Fs hm) (fun i=>kl.rs i) (Lb hk1 hk).2 (akz) (akA l6 ll) ?_;have kne:(k:Rat)≠0:=fun z=>by
  have:=Rat.natCast_eq_zero_iff.mp z;exact akB this hk1
 have eG:cf (trimL (r.map (·*-(1 / (k:Rat)))))=γ:=funext fun i=>by
  rw [AW,e1];show -(k:Rat)*γ i*-(1 / (k:Rat))=γ i;have:(k:Rat)*(1 / (k:Rat))=1:=by rw [Rat.mul_comm]; exact Rat.div_mul_cancel kne
  grind
 have lG:(trimL (r.map (·*-(1 / (k:Rat))))).length<=p.length:=by
  have:=trim_len (r.map (·*-(1 / (k:Rat))));rw [List.length_map] at this;exact akC ll this
 have wG:=rw_trim (r.map (·*-(1 / (k:Rat))));generalize trimL (r.map (·*-(1 / (k:Rat))))=g at *;walk_at "m";rw [show ((k+1:Nat):Int) - 1=(k:Int) by exact Vy];refine hrai.2 p k 640 (Vv hm) (akD hk) mp kp kps (Vo) (akE lk) fun P mP eP lP=>?_;walk_at "m";refine hma.2 g P 6 5000 (akF hm) (Vp) wG mP.w mP.n (by rw [eG]; exact kγ) (by rw [eP]; exact (kps k (Nat.le_refl _)).mono (akG)) (by decide) (akH l6 lG) (J5 lP lk) fun g0 g1 hq=>?_;walk_at "m";refine hra.2 r 40000 (Fs hm) kl (akI) (Vu l6 ll) fun U wU eU lU kU=>?_;walk_at "m";refine hsc.2 U _ 40005 10 (Fs hm) (fun i=>kU.rs i) (Lb hk1 hk).1 (akJ) (akK l6 ll lU) ?_;have lU2:=trim_len (U.map (·*(1 / (k:Rat))));rw [List.length_map] at lU2;walk_at "m";refine had.2 q _ 80000 40015 (Fs hm) (fun i=>kL.rs i) (fun i=>by rw [AW]; exact C2 (kU.rs i) (Lb hk1 hk).1) (akL) (akM lL) (akN l6 ll lU lU2) fun s hs=>?_;walk_at "m";refine ret_plain (h g P g0 g1 _ wG eG mP eP hq (rw_trim s) (funext fun j=>?_));rw [Ak,hs j,eL,AW,eU,e1]
end
noncomputable def GQ:List S:=[.ifs (.bool .Or [.cmp .Eq (.var 1) (.lst []),.cmp .NotEq (.idx (.idx (.var 1) (.neg (.cint 1))) (.cint 0)) (.var 3)]) [.expr (.append (.var 1) (.tup [.var 3,.dict0]))] [],.setitem (.idx (.idx (.var 1) (.neg (.cint 1))) (.cint 1)) (.var 4) (.var 2)]
noncomputable def Dr:List S:=[
  .assign 1 (.lst []),
  .fors [2,3,4] false .plain [.var 0] GQ,
  .ret (.var 1)]
noncomputable def dc1 (e:LR) (n:Nat):List (Int×D):=if e=[] then [] else [((n:Int),rowD e)]
noncomputable def dcF:Nat->List LR->List (Int×D)
 | _,[]=>[]
 | k,e :: es=>dcF (k - 1) es ++ dc1 e k
theorem H9:∀ (es:List LR) (k:Nat),∀ q∈dcF k es,q.1<=(k:Int)
 | [],k,q,h=>by cases h
 | e :: es,k,q,h=>by
  rcases List.mem_append.mp h with h | h
  ·have:=H9 es (k - 1) q h;exact akO this
  ·unfold dc1 at h
   split at h
   ·cases h
   ·rw [List.mem_singleton.mp h]; exact Int.le_refl _
theorem find_none {ps:List (Int×D)} {k:Int} (h:∀ q∈ps,q.1<k):ps.find? (fun q=>decide (q.1=k))=none:=List.find?_eq_none.mpr fun q hq=>by
 have:=h q hq;simp; exact Vz this
theorem IY:∀ (es:List LR) (k j:Nat) (e:LR),es.length<=k->es[j]?=some e->(((dcF k es).find? fun q=>decide (q.1=((k - j:Nat):Int))).map (·.2)).getD (rowD [])=rowD e
 | [],k,j,e,_,h=>by cases h
 | a :: es,k,0,e,hk,h=>by
  cases h;show (((dcF (k - 1) es ++ dc1 a k).find? _).map _).getD _=_;have hk:es.length+1<=k:=hk;rw [List.find?_append,find_none fun q hq=>by have:=H9 es (k - 1) q hq; exact akP this hk];unfold dc1
  by_cases z:a=[]
  ·rw [if_pos z,z]; rfl
  ·rw [if_neg z,List.find?_cons_of_pos (by simp)]; rfl
 | a :: es,k,j+1,e,hk,h=>by
  have hk:es.length+1<=k:=hk;have hj:=(List.getElem?_eq_some_iff.mp (show es[j]?=some e from h)).1;have ih:=IY es (k - 1) j e (VA hk) h;rw [show k - 1 - j=k - (j+1) by exact Tj] at ih;show (((dcF (k - 1) es ++ dc1 a k).find? _).map _).getD _=_;have hn:(dc1 a k).find? (fun q=>decide (q.1=((k - (j+1):Nat):Int)))=none:=by
   unfold dc1
   split
   ·rfl
   ·rw [List.find?_cons_of_neg (by simp; exact akQ hk)]; rfl
  rw [List.find?_append,hn,Option.or_none];exact ih
theorem GR {l:List D} {d:D}:BH (l ++ [d]) (-1)=some d:=by
 unfold BH;have e:(((l ++ [d]).length:Int)+(-1)).toNat=l.length:=by rw [List.length_append]; show (((l.length+1:Nat):Int)+(-1)).toNat=_; exact akR
 rw [if_neg (by exact akS),if_pos (by rw [List.length_append]; show -((l.length+1:Nat):Int)<=-1; exact akT),e,List.getElem?_append_right (Nat.le_refl _),Nat.sub_self];rfl
theorem SP {σ:St} {a:Addr} {ps:List (Int×D)} {k:Int} {d:D} {Q:St->Prop} (e:σ.sto a=some (.dict ps)) (hl:ps.length<=lim) (hk:∀ q∈ps,q.1<k) (h:Q (σ.put a (.dict (ps ++ [(k,d)])))):HB (.lst a) (.int k) d Q σ:=.inr ⟨ps,e,hl,List.any_eq_false.mpr fun q hq=>by have:=hk q hq; simp; exact Vz this,h⟩
abbrev G2:=LR×Addr×List (Int×D)
noncomputable def gD (x:G2):D:=.tup [rowD x.1,.lst x.2.1]
noncomputable def DV (f l1:Addr) (ds:List D) (gs:List G2) (σ:St):Prop :=
 σ.loc 1=some (.lst l1)/\σ.sto l1=some (.list true (gs.map gD))/\σ.sto f=some (.list false ds)/\(∀ x∈gs,σ.sto x.2.1=some (.dict x.2.2))/\gs.Pairwise fun x y=>x.2.1≠y.2.1
noncomputable def C9 (c:Cx) (n:Nat) (d:D) (K:Fl->St->Prop) (σ:St):Prop:=D0 false [2,3,4] d (fun σ₃=>Bo c n GQ K σ₃) σ
noncomputable def Gp (f:Addr) (ds:List D) (σ:St):Prop:=∃ o,σ.sto f=some (.list o ds)
theorem Jt {τ:Sto} {l1 l2:Addr} {gs:List G2} (h1:τ l1=some (.list true (gs.map gD))) (h2:τ l2=some (.list true [])):CQ τ (.lst l1) (.lst l2)=some gs.isEmpty:=by
 rw [NV h1 h2];cases gs with
 | nil=>rfl
 | cons a as=>rfl
section
variable {c:Cx}
theorem top_set {n:Nat} {K:Fl->St->Prop} {f l1 a:Addr} {ds:List D} {gs:List G2} {p e:LR} {ps:List (Int×D)} {k:Nat} {σ:St} (lg:gs.length<=1000) (lp:ps.length<=1000) (hk:∀ q∈ps,q.1<(k:Int)) (hI:DV f l1 ds (gs ++ [(p,a,ps)]) σ) (g2:σ.loc 2=some (rowD e)) (g4:σ.loc 4=some (.int k)) (h:∀ σ',DV f l1 ds (gs ++ [(p,a,ps ++ [((k:Int),rowD e)])]) σ'->K .next σ'):Bo c n [.setitem (.idx (.idx (.var 1) (.neg (.cint 1))) (.cint 1)) (.var 4) (.var 2)] K σ:=by
 refine AO hI fun i1 i2 i3 i4 i5=>?_;have ha:σ.sto a=some (.dict ps):=i4 (p,a,ps) (List.mem_append_right _ (.head _));have n1:l1≠a:=fun z=>by rw [z,ha] at i2; cases i2
 have nf:f≠a:=fun z=>by rw [z,ha] at i3; cases i3
 have e2:σ.sto l1=some (.list true (gs.map gD ++ [gD (p,a,ps)])):=by rw [i2,List.map_append]; rfl
 walk_at "m";refine i_lst e2 (by rw [List.length_append,List.length_map]; show gs.length+1<=lim; unfold lim; exact akU lg) GR ?_;unfold gD;walk_at "m";refine SP ha (by unfold lim; exact Tn lp) hk ?_;refine h _ ⟨i1,(put_ne n1).trans (by rw [i2,List.map_append,List.map_append]; rfl),(put_ne nf).trans i3,fun x hx=>?_,?_⟩
 ·rcases List.mem_append.mp hx with hx | hx
  ·exact (put_ne (fun z=>(List.pairwise_append.mp i5).2.2 x hx (p,a,ps) (.head _) z)).trans (i4 x (List.mem_append_left _ hx))
  ·rw [List.mem_singleton.mp hx]; exact put_same
 ·refine AI (List.pairwise_append.mp i5) fun p1 p2 p3=>?_;exact List.pairwise_append.mpr ⟨p1,List.pairwise_singleton _ _,fun x hx y hy=>by
   rw [List.mem_singleton.mp hy];exact p3 x hx (p,a,ps) (.head _)⟩
theorem SQ {n:Nat} {K:Fl->St->Prop} {f l1 a:Addr} {ds rest:List D} {gs:List G2} {p e:LR} {ps:List (Int×D)} {k:Nat} {σ:St} (lg:gs.length<=900) (lp:ps.length<=1000) (hk:∀ q∈ps,q.1<(k:Int)) (hI:DV f l1 ds (gs ++ [(p,a,ps)]) σ) (h:∀ σ',DV f l1 ds (gs ++ [(p,a,ps ++ [((k:Int),rowD e)])]) σ'->Cp (Gp f ds) (C9 c n) rest K σ'):Cp (Gp f ds) (C9 c n) (.tup [rowD e,rowD p,.int k] :: rest) K σ:=by
 refine ⟨⟨false,hI.2.2.1⟩,[rowD e,rowD p,.int k],rfl,rfl,?_⟩;have hI:=hI;refine AO (id hI) fun i1 i2 i3 i4 i5=>?_;have e2:σ.sto l1=some (.list true (gs.map gD ++ [gD (p,a,ps)])):=by rw [i2,List.map_append]; rfl
 unfold GQ;walk_at "m";refine ⟨zq rfl,fun l5 hl5=>?_⟩;refine c_eqD (Jt (put_old hl5 i2) put_same) ?_;walk_at "m";refine if_or (fun z=>by cases gs <;> cases z) fun _=>?_
 walk_at "m";refine i_lst (put_old hl5 e2) (by rw [List.length_append,List.length_map]; show gs.length+1<=lim; unfold lim; exact akV lg) GR ?_;unfold gD;walk_at "m";refine GD (eq_rows p p) ?_;rw [beq_self_eq_true];refine IA (if_or (fun z=>by cases z) fun _=>NX (if_b (fun z=>by cases z) fun _=>g_nil ?_));refine top_set (Mw lg) lp hk ⟨i1,put_old hl5 i2,put_old hl5 i3,fun x hx=>put_old hl5 (i4 x hx),i5⟩ rfl rfl fun σ' h'=>h σ' h'
theorem SR {n:Nat} {K:Fl->St->Prop} {f l1:Addr} {ds rest:List D} {gs:List G2} {p e:LR} {k:Nat} {σ:St} (lg:gs.length<=900) (hp:∀ x∈gs,x.1≠p) (hI:DV f l1 ds gs σ) (h:∀ σ' a,DV f l1 ds (gs ++ [(p,a,[((k:Int),rowD e)])]) σ'->Cp (Gp f ds) (C9 c n) rest K σ'):Cp (Gp f ds) (C9 c n) (.tup [rowD e,rowD p,.int k] :: rest) K σ:=by
 refine ⟨⟨false,hI.2.2.1⟩,[rowD e,rowD p,.int k],rfl,rfl,?_⟩;refine AO hI fun i1 i2 i3 i4 i5=>?_;have nl:f≠l1:=fun z=>by rw [z,i2] at i3; cases i3
 have hml:(gs.map gD).length<=lim:=by exact Mine.mlim (Mw lg)
 have tail:∀ (τ:St) ,τ.loc 1=some (.lst l1)->τ.loc 2=some (rowD e)->τ.loc 3=some (rowD p)->τ.loc 4=some (.int k)->τ.sto l1=some (.list true (gs.map gD))->τ.sto f=some (.list false ds)->(∀ x∈gs,τ.sto x.2.1=some (.dict x.2.2))->∀ K',(∀ σ' a,DV f l1 ds (gs ++ [(p,a,[((k:Int),rowD e)])]) σ'->K' .next σ')->Bo c n [.expr (.append (.var 1) (.tup [.var 3,.dict0]))] (kN c n [.setitem (.idx (.idx (.var 1) (.neg (.cint 1))) (.cint 1)) (.var 4) (.var 2)] K') τ:=fun τ g1 g2 g3 g4 s1 sf sd K' hK=>by
  walk_at "m";refine ⟨⟨l1,_,rfl,s1⟩,?_⟩;walk_at "m";intro l6 hl6;walk_at "m";refine ap_lst (put_old hl6 s1) hml ?_;have n16:l1≠l6:=fun z=>by rw [<- z,s1] at hl6; cases hl6
  have nf6:f≠l6:=fun z=>by rw [<- z,sf] at hl6; cases hl6
  have nd:∀ x∈gs,x.2.1≠l6:=fun x hx z=>by rw [<- z,sd x hx] at hl6; cases hl6
  have nd1:∀ x∈gs,x.2.1≠l1:=fun x hx z=>by rw [<- z,sd x hx] at s1; cases s1
  refine g_nil ?_;refine top_set (gs:=gs) (p:=p) (a:=l6) (ps:=[]) (e:=e) (k:=k) (Mw lg) (by simp) (fun q hq=>by cases hq) ⟨g1,?_,?_,fun x hx=>?_,?_⟩ g2 g4 fun σ' h'=>hK σ' l6 h'
  ·rw [List.map_append]; exact put_same
  ·exact (put_ne nl).trans ((put_ne nf6).trans sf)
  ·rcases List.mem_append.mp hx with hx | hx
   ·exact (put_ne (nd1 x hx)).trans ((put_ne (nd x hx)).trans (sd x hx))
   ·rw [List.mem_singleton.mp hx]; exact (put_ne (Ne.symm n16)).trans put_same
  ·exact List.pairwise_append.mpr ⟨i5,List.pairwise_singleton _ _,fun x hx y hy=>by
    rw [List.mem_singleton.mp hy]; exact nd x hx⟩
 unfold GQ;walk_at "m";refine ⟨zq rfl,fun l5 hl5=>?_⟩;refine c_eqD (Jt (put_old hl5 i2) put_same) ?_;walk_at "m";rcases List.eq_nil_or_concat gs with z | ⟨gs',x,z⟩
 ·subst z;refine if_or (fun _=>?_) fun z=>by cases z
  refine if_b (fun _=>?_) fun z=>by cases z
  refine tail _ (by exact i1) rfl rfl rfl (by exact put_old hl5 i2) (by exact put_old hl5 i3) (fun x hx=>by cases hx) _ ?_;exact fun σ' a h'=>h σ' a h'
 ·have hxp:=hp x (by rw [z,List.concat_eq_append]; exact List.mem_append_right _ (.head _));refine if_or (fun q=>by rw [z] at q; cases gs' <;> cases q) fun _=>?_
  have e2:σ.sto l1=some (.list true (gs'.map gD ++ [gD x])):=by rw [i2,z,List.concat_eq_append,List.map_append]; rfl
  walk_at "m";refine i_lst (put_old hl5 e2) (by rw [z,List.concat_eq_append,List.map_append] at hml; exact hml) GR ?_;unfold gD;walk_at "m";refine GD (eq_rows x.1 p) ?_;rw [beq_eq_false_iff_ne.mpr hxp];refine IA (if_or (fun _=>if_b (fun _=>?_) fun z=>by cases z) fun z=>by cases z);refine tail _ (by exact i1) rfl rfl rfl (by exact put_old hl5 i2) (by exact put_old hl5 i3) (by exact fun x hx=>put_old hl5 (i4 x hx)) _ ?_;exact fun σ' a h'=>h σ' a h'
end
noncomputable def gM (x:LR×Nat) (es:List LR):LR×List (Int×D):=(x.1,dcF x.2 es)
noncomputable def Xj (c:Cx):Prop:=AD c "tops_by_parts"/\∀ (q1 R:NR) (xs:List (LR×Nat)) (ess:List (List LR)) (ds:List D) (f:Addr) (o:Bool) {m:Nat} {sto:Sto} {Q:D->Sto->Prop},1<=m->TkL q1 R xs ess ds->xs.length<=20->(∀ x∈xs,x.2<=20)->(∀ es∈ess,∀ e,es[0]?=some e->e≠[])->(∀ es∈ess,es≠[])->(xs.Pairwise fun x y=>x.1≠y.1)->sto f=some (.list o ds)->
 (∀ (g:Addr) (gs:List G2) (sto':Sto),gs.map (fun (x:G2)=>(x.1,x.2.2))=List.zipWith gM xs ess->sto' g=some (.list true (gs.map gD))->(∀ x∈gs,sto' x.2.1=some (.dict x.2.2))->Q (.lst g) sto')->Ah c m "tops_by_parts" [.lst f] sto Q
theorem Qv {sto τ:Sto} {Q:D->Sto->Prop} {d:D} (As:List Addr) (hm:∀ a∈As,∃ k,τ a=some k/\k.mine) (h:∀ sto':Sto,(∀ a∈As,sto' a=τ a)->Q d sto'):Kq sto τ Q d:=by
 refine ⟨fun b=>if As.contains b then τ b else sto b,fun b k e=>?_,fun _=>h _ fun a ha=>if_pos (List.contains_iff_mem.mpr ha)⟩;have e:(if As.contains b then τ b else sto b)=some k:=e
 split at e
 ·rename_i hb;refine xq1_2 (hm b (List.contains_iff_mem.mp hb)) fun k' e1 m=>?_;rw [e] at e1;cases e1;exact .inr ⟨e,m⟩
 ·exact .inl e
theorem LZ:∀ (es:List LR) (k:Nat),(dcF k es).length<=es.length
 | [],k=>Nat.le_refl _
 | e :: es,k=>by
  show (dcF (k - 1) es ++ dc1 e k).length<=_;have:=LZ es (k - 1);have:(dc1 e k).length<=1:=by
   unfold dc1
   split
   ·exact Nat.zero_le _
   ·exact Nat.le_refl _
  rw [List.length_append,List.length_cons]; omega
theorem TkL.len2 {q1 R:NR} {xs:List (LR×Nat)} {ess:List (List LR)} {ds:List D} (h:TkL q1 R xs ess ds):xs.length=ess.length:=by
 induction h with
 | nil=>rfl
 | snoc _ _ ih=>rw [List.length_append,List.length_append,ih]; rfl
section
variable {c:Cx}
theorem Ju {n:Nat} {K:Fl->St->Prop} {f l1:Addr} {ds:List D} {gs:List G2} {p:LR} (lg:gs.length<=900) (hp:∀ x∈gs,x.1≠p):∀ (es:List LR) (k:Nat) (rest:List D) (σ:St),es.length<=k->es.length<=900->DV f l1 ds gs σ->(∀ σ',(dcF k es=[]->DV f l1 ds gs σ')->(dcF k es≠[]->∃ a,DV f l1 ds (gs ++ [(p,a,dcF k es)]) σ')->Cp (Gp f ds) (C9 c n) rest K σ')->Cp (Gp f ds) (C9 c n) (Fi p k es ++ rest) K σ
 | [],k,rest,σ,_,_,hI,h=>h σ (fun _=>hI) fun z=>absurd rfl z
 | e :: es,k,rest,σ,hk,h9,hI,h=>by
  show Cp _ _ (Fi p (k - 1) es ++ Eu p e k ++ rest) K σ;have hk:es.length+1<=k:=hk;have h9:es.length+1<=900:=h9;rw [List.append_assoc];refine Ju lg hp es (k - 1) _ σ (VA hk) (VB h9) hI fun σ' h1 h2=>?_;have hd:dcF k (e :: es)=dcF (k - 1) es ++ dc1 e k:=rfl;rw [hd] at h;have hlt:∀ q∈dcF (k - 1) es,q.1<(k:Int):=fun q hq=>by have:=H9 es (k - 1) q hq; exact akW this hk
  have hlen:(dcF (k - 1) es).length<=900:=Nat.le_trans (LZ es (k - 1)) (VB h9)
  by_cases z:e=[]
  ·have e1:Eu p e k=[]:=if_pos z;have e2:dc1 e k=[]:=if_pos z;rw [e2,List.append_nil] at h;rw [e1];exact h σ' h1 h2
  ·have e1:Eu p e k=[.tup [rowD e,rowD p,.int k]]:=if_neg z;have e2:dc1 e k=[((k:Int),rowD e)]:=if_neg z;rw [e2] at h;rw [e1];show Cp _ _ (.tup [rowD e,rowD p,.int k] :: rest) K σ'
   by_cases y:dcF (k - 1) es=[]
   ·refine SR lg hp (h1 y) fun σ₂ a h3=>h σ₂ (fun q=>by rw [y] at q; cases q) fun _=>⟨a,by rw [y]; exact h3⟩
   ·obtain ⟨a,h3⟩:=h2 y;refine SQ lg (Mw hlen) hlt h3 fun σ₂ h4=>h σ₂ (fun q=>absurd (List.append_eq_nil_iff.mp q).1 y) fun _=>⟨a,h4⟩
theorem SS {n:Nat} {K:Fl->St->Prop} {f l1:Addr} {dd:List D} {q1 R:NR} {xs:List (LR×Nat)} {ess:List (List LR)} {ds:List D} (hT:TkL q1 R xs ess ds):xs.length<=20->(∀ x∈xs,x.2<=20)->(∀ es∈ess,∀ e,es[0]?=some e->e≠[])->(∀ es∈ess,es≠[])->(xs.Pairwise fun x y=>x.1≠y.1)->∀ (rest:List D) (σ:St),DV f l1 dd [] σ->(∀ σ' gs,DV f l1 dd gs σ'->gs.map (fun (x:G2)=>(x.1,x.2.2))=List.zipWith gM xs ess->Cp (Gp f dd) (C9 c n) rest K σ')->Cp (Gp f dd) (C9 c n) (ds ++ rest) K σ:=by
 induction hT with
 | nil=>exact fun _ _ _ _ _ rest σ hI h=>h σ [] hI rfl
 | @snoc xs ess ds x es hT hP ih =>
  intro l20 hk he hne pw rest σ hI h;refine xq6_7 hP fun _ _ _ _ _ _ _ _ _ _ le _ _=>?_;have hx20:=hk x (List.mem_append_right _ (.head _));rw [List.length_append] at l20;have l20:xs.length+1<=20:=l20;refine AI (List.pairwise_append.mp pw) fun p1 p2 p3=>?_;have len:=hT.len2;rw [List.append_assoc];refine ih (akX l20) (fun y hy=>hk y (List.mem_append_left _ hy)) (fun y hy=>he y (List.mem_append_left _ hy)) (fun y hy=>hne y (List.mem_append_left _ hy)) p1 _ σ hI fun σ' gs hI' hm=>?_;have lgs:gs.length=xs.length:=by
   have:=congrArg List.length hm;rw [List.length_map,List.length_zipWith] at this;exact VC this len
  refine Ju (akY lgs l20) (fun y hy z=>?_) es x.2 rest σ' (akZ le) (ak0 le hx20) hI' fun σ₂ h1 h2=>?_
  ·obtain ⟨i,hi⟩:=List.mem_iff_getElem?.mp hy;have h3:(List.zipWith gM xs ess)[i]?=some (y.1,y.2.2):=by rw [<- hm,List.getElem?_map,hi]; rfl
   rw [List.getElem?_zipWith] at h3
   split at h3
   ·rename_i u v hu hv;refine p3 u (List.mem_of_getElem? hu) x (.head _) ?_;rw [<- z];exact congrArg Prod.fst (Option.some.inj h3)
   ·cases h3
  ·have hne':dcF x.2 es≠[]:=by
    have h3:=hne es (List.mem_append_right _ (.head _));have h4:=he es (List.mem_append_right _ (.head _));cases es with
    | nil=>exact absurd rfl h3
    | cons e es =>
     show dcF _ _ ++ dc1 e x.2≠[];rw [show dc1 e x.2=[((x.2:Int),rowD e)] from if_neg (h4 e rfl)];exact fun q=>by have:=(List.append_eq_nil_iff.mp q).2; cases this
   obtain ⟨a,h3⟩:=h2 hne';refine h σ₂ _ h3 ?_;rw [List.map_append,hm,List.zipWith_append len];rfl
variable (CO:CxOK c)
include CO
theorem ST (hf:FnK c "tops_by_parts" 1 Dr):Xj c:=by
 refine ⟨hf.isFn,fun q1 R xs ess ds f o {m sto Q} hm hT l20 hk he hne pw hs h=>?_⟩;obtain ⟨n,rfl⟩:∃ n,m=n+1:=⟨m - 1,EM hm⟩;refine fn_call CO hf rfl ?_;unfold Dr;have hs':=CU hs;walk_at "m";refine ⟨zq rfl,fun l1 hl1=>?_⟩;have lds:ds.length<=400:=Nat.le_trans (hT.len hk) (ak1 l20);walk_at "m";refine i_tup1 (HP rfl ?_);refine ⟨false,ds,put_old hl1 hs',by unfold lim; exact ak2 lds,?_⟩;have key:=SS (c:=c) (n:=n) (f:=f) (l1:=l1) (dd:=ds) (K:=fun fl σ'=>kN c n [.ret (.var 1)] (Ej sto Q) fl σ') hT l20 hk he hne pw [];rw [List.append_nil] at key;refine key _ ⟨rfl,put_same,put_old hl1 hs',⟨fun x hx=>(List.not_mem_nil hx).elim,.nil⟩⟩ fun σ' gs hI hm=>⟨⟨false,hI.2.2.1⟩,?_⟩;refine AO hI fun i1 i2 i3 i4 i5=>?_;show Bo c n [.ret (.var 1)] (Ej sto Q) σ';walk_at "m";refine Qv (l1 :: gs.map fun x=>x.2.1) (fun a ha=>?_) fun sto' h1=>h l1 gs sto' hm ?_ fun x hx=>?_
 ·rcases List.mem_cons.mp ha with rfl | ha
  ·exact ⟨_,i2,rfl⟩
  ·refine xq1_2 (List.mem_map.mp ha) fun x hx q208_=>?_; obtain rfl:=q208_;exact ⟨_,i4 x hx,trivial⟩
 ·rw [h1 l1 (.head _)]; exact i2
 ·rw [h1 _ (List.mem_cons_of_mem _ (List.mem_map.mpr ⟨x,hx,rfl⟩))]; exact i4 x hx
end
section
variable {h l u v q0 q1 P:LR} {y Wq Rr:NR} {xs:List (LR×Nat)} {vs:List LR} {G C U E:Nat->NR} {i m:Nat} {px:LR} {es:List LR}
noncomputable def PaO (l:LR) (vs:List LR) (E C:Nat->NR) (i m:Nat) (px:LR) (es:List LR) (z:LR) (w:NR) (L γ raw R:Nat->NR):Prop :=
 vs[i]?=some z/\
 Mon z/\
 Ab w/\
 cf px=cvn w (cf z)/\
 Bd (px.length - 1) (cvn (E i) w)/\
 RC 1466 (cvn (E i) w)/\
 m*(px.length - 1)<=l.length - 1/\
 W8 (cf px) (C i) (cvn (E i) w) (px.length - 1) m es L γ raw R/\
 es.length=m+1/\
 ∀ e∈es,Rw e/\e.length<px.length/\RC 400000 (cf e)
section
variable {l:LR} {vs:List LR} {E C:Nat->NR} {i m:Nat} {px:LR} {es:List LR} {z:LR} {w:NR} {L γ raw R:Nat->NR} (h_:PaO l vs E C i m px es z w L γ raw R)
def PaO.hz:=h_.1
def PaO.mz:=h_.2.1
def PaO.fw:=h_.2.2.1
def PaO.ew:=h_.2.2.2.1
def PaO.bd:=h_.2.2.2.2.1
def PaO.kd:=h_.2.2.2.2.2.1
def PaO.ml:=h_.2.2.2.2.2.2.1
def PaO.T:=h_.2.2.2.2.2.2.2.1
def PaO.le:=h_.2.2.2.2.2.2.2.2.1
def PaO.he:=h_.2.2.2.2.2.2.2.2.2
end
theorem L1 (H:GrH h l u v q0 q1 P y) (I:PtOK (cf q1) [] xs) (F:Fra l u v y xs vs G C U E) (kq:SzD (cf q1) 640) (l15:q1.length<=15) (fW:Ab Wq) (e0:cf q0=fun j=>cvn Wq (cf q1) j+Rr j) (hx:xs[i]?=some (px,m+1)) (T:OA (cf q1) Rr (px,m+1) es):∃ z w L γ raw R,PaO l vs E C i m px es z w L γ raw R:=by
 refine xq2_7 (Qn H I F hx fW e0 T) fun z w hz mz fw ew bd nd q209_=>xq1_2 q209_ fun Y fY hD=>?_;refine xq6_7 T fun _ _ _ _ _ _ _ _ _ _ le _ he=>?_;have lx:px.length<=16:=by
  have h1:px.length<=q1.length - 1+1:=B7 H.m1.dg (I.one _ (List.mem_of_getElem? hx)).mon (I.df (List.mem_of_getElem? hx));have h2:=H.m1.pos;exact ak3 h1 l15
 refine AI (Qo H I F hx kq hz mz fw ew bd lx nd fY hD le fun e h=>(he e h).2.1) fun a b q210_=>aas q210_ fun L γ raw R c=>?_;exact ⟨z,w,L,γ,raw,R,hz,mz,fw,ew,bd,b,a,c,le,he⟩
theorem SU (H:GrH h l u v q0 q1 P y) (I:PtOK (cf q1) [] xs) (fra:∃ vs G C U E,Fra l u v y xs vs G C U E) (kq:SzD (cf q1) 640) (l15:q1.length<=15) (fW:Ab Wq) (e0:cf q0=fun j=>cvn Wq (cf q1) j+Rr j) {x:LR×Nat} (hx:xs[i]?=some x) (T:OA (cf q1) Rr x es):es≠[]/\∀ e,es[0]?=some e->e≠[]:=by
 refine Rh fra fun vs G C U E F=>?_;obtain ⟨px,k⟩:=x;obtain ⟨m,rfl⟩:∃ m,k=m+1:=⟨k - 1,by have:1<=k:=(I.one _ (List.mem_of_getElem? hx)).k; exact EM this⟩;refine Ri (L1 H I F kq l15 fW e0 hx T) fun z w L γ raw R O=>?_;refine ⟨fun q=>?_,O.T.2.2.2.2.2.2⟩;have:=O.le;rw [q] at this;cases this
theorem mon_vs (I:PtOK (cf q1) [] xs) (F:Fra l u v y xs vs G C U E):∀ w∈vs,Mon w:=fun w hw=>by
 obtain ⟨j,hj⟩:=List.mem_iff_getElem?.mp hw;have h1:=(List.getElem?_eq_some_iff.mp hj).1;exact (F.sp j (xs[j]'(by have:=F.lv; exact Jc this h1)) w (List.getElem?_eq_getElem _) hj).1
theorem Nn (F:Fra l u v y xs vs G C U E) {g:LR} (wg:Rw g) (e:cf g=cf P):GrO (cf P) (AP xs 0) (G 0) g [1]:=⟨⟨wg,mon_unit,by rw [cf_unit]; exact Cm⟩,by
 rw [F.G0,cf_unit,e];show cvn (cf P) one0=cvn one0 fun n=>cvn (cf P) one0 n+0;rw [Bx,BV];exact funext fun n=>(Rat.add_zero _).symm⟩
theorem No (F:Fra l u v y xs vs G C U E):GrO (fun _=>0) (VP vs 0) (U 0) [] [1]:=⟨⟨.inl rfl,mon_unit,by rw [cf_unit]; exact Cm⟩,by
 rw [F.U0,cf_unit,BV];exact funext fun n=>by show cvn (fun _=>0) _ n=cvn (fun _=>0) _ n+0; rw [Rat.add_zero]⟩
theorem OG (H:GrH h l u v q0 q1 P y) (I:PtOK (cf q1) [] xs) (F:Fra l u v y xs vs G C U E) {z r0 r1 s0 s1 t s a b:LR} (hz:vs[i]?=some z) (hg:GrO (fun _=>0) (VP vs i) (U i) r0 r1) (r2:EU s0 s1) (es:cvn (cf s0) (cf z)=cvn (cf s1) (E i)) (ms:Mon s) (et:∀ j,cf t j=cvn (cf r0) (cf s1) j+cvn (cf s0) (cf r1) j) (es':∀ j,cf s j=cvn (cf r1) (cf s1) j) (O:QR t s a b):GrO (fun _=>0) (VP vs (i+1)) (U (i+1)) a b:=by
 refine xq1_6 (Hl H F hz (mon_vs I F)) fun a0 da a1 bU ha d eV=>?_;refine Bz (F.Us i _ (FM hz)) fun _ bE eU _=>?_;rw [eV,eU,show Aa (cf (z,1).1) (z,1).2=cf z from Cr _];exact ((hg.in (cf z)).step da.fin Cg (AA bU) (fin_cf z) (AA bE) (Bx (cf z)).symm (show E i=fun n=>(0:Rat)+cvn (E i) one0 n from funext fun n=>by rw [Bx,Rat.zero_add]) r2 es ms et es' O).out
theorem Qw (H:GrH h l u v q0 q1 P y) (I:PtOK (cf q1) [] xs) (F:Fra l u v y xs vs G C U E) (hx:xs[i]?=some (px,m+1)) {z:LR} {w:NR} {L γ raw R:Nat->NR} (O:PaO l vs E C i m px es z w L γ raw R) {j:Nat} (hj:j<m) {g0 g1 s0 s1 t s a b:LR} (hg:GrJ (cf P) (AP xs i) (Aa (cf px) m) (G i) (R j) g0 g1) (r2:EU s0 s1) (e2:cvn (cf s0) (Aa (cf px) (m - j))=cvn (cf s1) (γ j)) (ms:Mon s) (et:∀ j,cf t j=cvn (cf g0) (cf s1) j+cvn (cf s0) (cf g1) j) (es':∀ j,cf s j=cvn (cf g1) (cf s1) j) (Q:QR t s a b):GrJ (cf P) (AP xs i) (Aa (cf px) m) (G i) (R (j+1)) a b:=by
 refine xq1_6 (Et H I F hx) fun a0 da a1 bG ha d eA=>?_;exact hg.step da.fin (fin_cf P) (AA bG) (fin_pow (fin_cf px) m) (AA (O.T.2.2.2.1 (j+1) hj).2.1) (by rw [<- pow_add,show m - j+j=m by exact Uo hj]) (O.T.2.2.2.2.1 j hj).2.2.1 r2 e2 ms et es' Q
theorem Qx (H:GrH h l u v q0 q1 P y) (I:PtOK (cf q1) [] xs) (F:Fra l u v y xs vs G C U E) (hx:xs[i]?=some (px,m+1)) {z:LR} {w:NR} {L γ raw R:Nat->NR} (O:PaO l vs E C i m px es z w L γ raw R) {g0 g1:LR} (hg:GrJ (cf P) (AP xs i) (Aa (cf px) m) (G i) (R m) g0 g1):GrO (cf P) (AP xs (i+1)) (G (i+1)) g0 g1:=by
 refine xq1_6 (Et H I F hx) fun a0 da a1 bG ha d eA=>?_;refine Bz (F.Gs i _ (FL hx)) fun _ _ eG _=>?_;rw [O.T.2.1] at hg;rw [eA,eG];exact hg.out
end
noncomputable def EW:List S:=[
  .ifs (.cmp .Eq (.var 0) (.tup [])) [.ret (.tup [])] [],
  .ret (.bin .Add (.tup [.glob "ZERO"]) (.blt .tuple [.comp (.call "part_of" [.idx (.var 0) (.var 100),.tup [.bin .Add (.var 100) (.cint 1),.cint 1]]) [(100,"place")] .range [.blt .len [.var 0]]]))]
noncomputable def Xk (c:Cx):Prop:=AD c "grown_row"/\∀ (p:LR) {m:Nat} {sto:Sto} {Q:D->Sto->Prop},4<=m->Rw p->p.length<=20->RC 20000 (cf p)->(∀ g,Rw g->cf g 0=0->(∀ j,cf g (j+1)=cf p j / ((j+1:Nat):Rat))->Q (rowD g) sto)->Ah c m "grown_row" [rowD p] sto Q
theorem Ld (j:Nat):((j+1:Nat):Rat)≠0:=fun z=>by
 have:=Rat.natCast_eq_zero_iff.mp z;exact U5 this
theorem Le (p:LR) (j:Nat):cf (0 :: (List.range p.length).map fun j=>cf p j / ((j+1:Nat):Rat)) (j+1)=cf p j / ((j+1:Nat):Rat):=by
 show cf ((List.range p.length).map fun j=>cf p j / ((j+1:Nat):Rat)) j=_
 by_cases h:j<p.length
 ·unfold cf;rw [List.getElem?_map,List.getElem?_range h]; rfl
 ·rw [An (by rw [List.length_map,List.length_range]; exact CG h),An (by exact CG h),Rat.div_def,Rat.zero_mul]
theorem TkL.at {q1 R:NR} {xs:List (LR×Nat)} {ess:List (List LR)} {ds:List D} (h:TkL q1 R xs ess ds):∀ (i:Nat) (es:List LR),ess[i]?=some es->∃ x,xs[i]?=some x/\OA q1 R x es:=by
 induction h with
 | nil=>intro i es h; cases h
 | @snoc xs ess ds x es k p ih =>
  intro i es' h;have len:=k.len2
  by_cases hi:i<ess.length
  ·rw [List.getElem?_append_left hi] at h;rw [List.getElem?_append_left (by exact Ms len hi)];exact ih i es' h
  ·rw [List.getElem?_append_right (by exact CG hi)] at h;have q:i - ess.length<1:=(List.getElem?_eq_some_iff.mp h).1;rw [show i - ess.length=0 by exact Pt q] at h;cases h;rw [List.getElem?_append_right (by exact o632 len hi),show i - xs.length=0 by exact ak4 len q];exact ⟨x,rfl,p⟩
theorem L2 (k:Nat) (a b:Int):Bi k (.int a) (.int b)=some (a==b):=by cases k <;> rfl
theorem eqL_two {f:D->D->Option Bool} {a b a' b':D} {x y:Bool} (h1:f a a'=some x) (h2:f b b'=some y):Ca f [a,b] [a',b']=some (x&&(y&&true)):=by
 show (match f a a' with | some x=>(match (match f b b' with | some x=>(match (some true:Option Bool) with | some y=>some (x&&y) | none=>none) | none=>none) with | some y=>some (x&&y) | none=>none) | none=>none)=_
 rw [h1,h2]
theorem Xm (k:Nat) (x y:Rat):Bi (k+1) (Ae x) (Ae y)=some (x==y):=(eqL_two (L2 k _ _) (L2 k _ _)).trans (M7 x y)
theorem IZ (k:Nat):∀ (p q:LR),Ca (Bi (k+1)) (p.map Ae) (q.map Ae)=some (p==q)
 | [],[]=>rfl
 | [],_ :: _=>rfl
 | _ :: _,[]=>rfl
 | x :: p,y :: q=>by
  show (match Bi (k+1) (Ae x) (Ae y) with | some x=>(match Ca (Bi (k+1)) (p.map Ae) (q.map Ae) with | some y=>some (x&&y) | none=>none) | none=>none)=_
  rw [Xm,IZ k p q];rfl
theorem RN (k:Nat) (u v h l:LR):Bi (k+3) (qD u v) (qD h l)=some (u==h&&(v==l&&true)):=eqL_two (IZ k u h) (IZ k v l)
section
variable {c:Cx} (CO:CxOK c)
include CO
theorem SV (hz:c.cs "ZERO"=some (Ae 0)) (hpa:E9 c 3 "part_of") (hf:FnK c "grown_row" 1 EW):Xk c:=by
 refine ⟨hf.isFn,fun p {m sto Q} hm wp lp kp h=>?_⟩;obtain ⟨n,rfl⟩:∃ n,m=n+1:=⟨m - 1,FY hm⟩;refine fn_call CO hf rfl ?_;unfold EW;walk_at "m";refine c_eqD (eq_rows p []) ?_;walk_at "m";refine if_b (fun hb=>?_) fun hb=>?_
 ·have p0:p=[]:=by simpa using hb
  walk_at "m";refine ret_plain (h [] (.inl rfl) rfl fun j=>?_);rw [p0,HQ,HQ,Rat.div_def,Rat.zero_mul]
 have p0:p≠[]:=by simpa using hb
 walk_at "m";refine f_lenR (EN lp) ?_;walk_at "m";refine ⟨by simp [smallI]; exact JY lp,_,rfl,?_⟩;rw [DK];refine ⟨by rw [List.length_map,List.length_range]; unfold lim; exact PE lp,?_⟩;refine Cv (fun (j:Nat)=>D.int (0+j)) (fun j=>Ae (cf p j / ((j+1:Nat):Rat))) _ _ (fun j hj K hK=>?_) fun l hl=>?_
 ·have hj:=List.mem_range.mp hj;refine GJ ?_;walk_at "m";rw [Int.zero_add];refine FD (p:=p) (EN lp) (Eh hj) ?_;walk_at "m";rw [show (j:Int)+1=((j+1:Nat):Int) by exact OZ,Ci];refine hpa.2 _ _ 20000 11 (Eg hm) (kp.rs _) (Dm (ak5 lp hj) (TL)) (ak6) (fun z=>?_) ?_
  ·have:((j+1:Nat):Int)=0:=Rat.intCast_eq_zero_iff.mp z;exact ak7 this
  ·exact ⟨trivial,hK⟩
 ·rw [List.nil_append];walk_at "m";refine ⟨true,_,put_same,by rw [List.length_map,List.length_range]; unfold lim; exact PE lp,?_⟩;refine Kv (zq rfl) (by rw [List.length_map,List.length_range]; unfold lim; exact PE lp) ?_;have e:D.tup ([Ae 0] ++ List.map (fun j=>Ae (cf p j / ((j+1:Nat):Rat))) (List.range ((p.length:Int) - 0).toNat))=rowD (0 :: (List.range p.length).map fun j=>cf p j / ((j+1:Nat):Rat)):=by
   unfold rowD;rw [List.map_cons,List.map_map,show ((p.length:Int) - 0).toNat=p.length by exact G6];rfl
  refine ret_plain ?_;refine e ▸ h _ (.inr ?_) rfl (Le p);have hl:=List.length_pos_iff.mpr p0;rw [List.length_cons,List.length_map,List.length_range,show p.length+1 - 1=p.length - 1+1 by exact ak8 hl,Le];have l0:=wp.resolve_left p0;intro z;have q:=Rat.div_mul_cancel (a:=cf p (p.length - 1)) (Ld (p.length - 1));rw [z,Rat.zero_mul] at q;exact l0 q.symm
end
noncomputable def I0:List S:=[.unpack [9,7] (.call "lowered" [.call "added" [.var 7,.getd (.var 6) (.var 8) (.tup [])],.var 5,.var 8]),.assign 3 (.call "together" [.var 3,.var 9])]
noncomputable def I1:List S:=[.assign 4 (.call "together" [.var 4,.call "made" [.call "added" [.var 7,.getd (.var 6) (.cint 1) (.tup [])],.var 5]])]
noncomputable def I2:List S:=.assign 7 (.tup []) :: .fors [8] true .range [.maxd (.var 6),.cint 1,.neg (.cint 1)] I0 :: I1
theorem SW {es:List LR} {m:Nat} (le:es.length=m+1) (h:∀ e,es[0]?=some e->e≠[]):∃ (ps:List (Int×D)) (e:LR),dcF (m+1) es=ps ++ [(((m+1:Nat):Int),rowD e)]/\∀ q∈ps,q.1<((m+1:Nat):Int):=by
 cases es with
 | nil=>cases le
 | cons e es =>
  refine ⟨dcF m es,e,?_,fun q hq=>by have:=H9 es m q hq; exact ak9 this⟩;show dcF (m+1 - 1) es ++ dc1 e (m+1)=_;rw [show dc1 e (m+1)=[(((m+1:Nat):Int),rowD e)] from if_neg (h e rfl)];rfl
section
variable {c:Cx}
variable {h l u v q0 q1 P:LR} {y:NR} {xs:List (LR×Nat)} {vs:List LR} {G C U E:Nat->NR} {i m:Nat} {px z:LR} {es:List LR} {w:NR} {L γ raw R:Nat->NR}
theorem OH (had:C6 c) (hlow:Nm c) (htg:K8 c) (H:GrH h l u v q0 q1 P y) (I:PtOK (cf q1) [] xs) (F:Fra l u v y xs vs G C U E) (kq:SzD (cf q1) 640) (hx:xs[i]?=some (px,m+1)) (O:PaO l vs E C i m px es z w L γ raw R) {n:Nat} (hn:11<=n) {j:Nat} (hj:j<m) {K:Fl->St->Prop} {σ:St} {a:Addr} {Lf g0 g1:LR} (wL:Rw Lf) (eL:cf Lf=L j) (hg:GrJ (cf P) (AP xs i) (Aa (cf px) m) (G i) (R j) g0 g1) (hg0:j=0->GrO (cf P) (AP xs i) (G i) g0 g1)
  (l7:σ.loc 7=some (rowD Lf)) (l3:σ.loc 3=some (qD g0 g1)) (l5:σ.loc 5=some (rowD px)) (l6:σ.loc 6=some (.lst a)) (l8:σ.loc 8=some (.int ((m - j+1:Nat):Int))) (sa:σ.sto a=some (.dict (dcF (m+1) es)))
  (hK:∀ (F' a' b':LR),Rw F'->cf F'=L (j+1)->GrJ (cf P) (AP xs i) (Aa (cf px) m) (G i) (R (j+1)) a' b'->∀ d,K .next ((((σ.set 9 d).set 7 (rowD F')).set 3 (qD a' b')))):Bo c n I0 K σ:=by
 have hej:es[j]?=some (es[j]'(by have:=O.le; exact JV this hj)):=List.getElem?_eq_getElem _;generalize es[j]'(by have:=O.le; exact JV this hj)=e at hej;refine AI (O.he e (List.mem_of_getElem? hej)) fun we le1 ke=>?_;refine MI O.T fun T1 T2 T3 T4 T5 T6 T7=>?_;refine MH (T5 j hj) fun bγ kγ eR fraw eL1 T8=>?_;obtain ⟨kt,hmath⟩:=T8 e hej;refine Bz (T4 j (Ij hj)) fun kR bR bL kL=>?_;have hmem:=List.mem_of_getElem? hx;have mx:Mon px:=(I.one _ hmem).mon;have l2:2<=px.length:=(I.one _ hmem).l;have sq:Al (cf px) (Ac (cf px)):=(I.one _ hmem).s;have dpq:∀ j,j<=m+1->RC 640 (Aa (cf px) j):=fun j hj=>kq _ _ (pow_deg mx.dg j) (pow_lead mx j) (by rw [I.pr]; exact BN (fin_cf px) hj (Gg hmem));have kp1:RC 640 (cf px):=by have:=dpq 1 (Fp); rwa [Cr] at this
 have l6':=H.ll;have hmk:=O.ml;have hm5:m<=5:=by
  have:=Nat.mul_le_mul_left m (show 1<=px.length - 1 by exact Fq l2);exact VD this hmk l6'
 have hk5:px.length - 1<=5:=by
  have:=Nat.mul_le_mul_right (px.length - 1) (show 1<=m by exact Py hj);exact ala this hmk l6'
 have hmj:(px.length - 1)*(m - j)<=5:=by
  have:=Nat.mul_le_mul_left (px.length - 1) (show m - j<=m by exact J3);rw [Nat.mul_comm (px.length - 1) m] at this;exact alb l6' hmk this
 have eg:(((dcF (m+1) es).find? fun q=>decide (q.1=((m - j+1:Nat):Int))).map (·.2)).getD (.tup [])=rowD e:=by
  have:=IY es (m+1) j e (by have:=O.le; exact VE this) hej;rw [show m+1 - j=m - j+1 by exact alc hj] at this;exact this
 have lLf:Lf.length<=px.length - 1:=Ay wL fun n hn=>by rw [eL]; exact bL n hn
 unfold I0;walk_at "m";refine ⟨_,l6,⟨a,_,rfl,sa⟩,?_⟩;walk_at "m";refine ⟨a,_,_,rfl,sa,rfl,?_⟩;rw [eg];walk_at "m";refine had.2 Lf e 20000 400000 (VF hn) (fun n=>by rw [eL]; exact kL.rs n) (fun n=>ke.rs n) (VG) (ald hk5 lLf) (ale hk5 le1) fun r hr=>?_;have et:cf (trimL r)=fun n=>L j n+cf e n:=funext fun n=>by rw [Ak,hr n,eL]
 have wt:=rw_trim r;have lt:(trimL r).length<=px.length - 1:=Ay wt fun n hn=>by
  rw [et];show L j n+cf e n=0;rw [bL n hn,An (by exact alf hn le1),Rat.add_zero]
 generalize trimL r=t at *;walk_at "m";refine hlow.2 t px (γ j) (raw j) (m - j) 20000 (alg hn) wt (alh lt) mx l2 (ali hk5) (alj hj) (alk hm5) hmj (by rw [et]; exact kt) (alm) kp1 (fun i hi=>dpq i (aln hi)) sq (kγ.mono (by decide)) fraw (by rw [et]; exact hmath) fun Γ Pw s0 s1 Fl wΓ eΓ mP eP hq wF eF=>?_;refine ⟨_,rfl,rfl,?_⟩;refine AO (Xc H I F hx (show 1<=m by exact Py hj) (show m - j<=m by exact J3) bγ kγ eΓ mP eP hq) fun c1 c2 c3 c4 c5=>?_;refine Bz (Xa H I F hx kR (Nat.mul_le_mul_right _ (show j<=m by exact Ij hj)) bR hg) fun d1 d2 d3 d4=>?_;have lsum:g0.length+s1.length<=14:=by
  rcases Nat.eq_zero_or_pos j with h0 | h1
  ·have h2:=Xb H I F hx (hg0 h0);have h3:=Nat.mul_le_mul_right (px.length - 1) (show m - j<=m by exact J3);exact alo h2 c3 h3
  ·have:=Nat.mul_le_mul_right (px.length - 1) (show m - j+1<=m by exact alp h1 hj);rw [Nat.succ_mul] at this;exact alq l2 l6' hmk c3 d4 this
 have s1l:s1.length<=6:=by rw [Nat.mul_comm] at c3; exact alr c3 hmj
 walk_at "m";refine htg.2 g0 g1 s0 s1 13 3980 140 2516 140 (VH hn) (als) d3 d1 c4 c2 hg.1.2.1 hq.2.1 (by decide) (by decide) (alt lsum) (alu c5 d2) (alv d2 s1l) fun t' s' a' b' wt' ms' et' es' O'=>?_;walk_at "m";exact hK Fl a' b' wF (by rw [eF,eL1]) (Qw H I F hx O hj hg hq.red c1 ms' et' es' O') _
end
section
variable {c:Cx}
variable {h l u v q0 q1 P:LR} {y:NR} {xs:List (LR×Nat)} {vs:List LR} {G C U E:Nat->NR} {i m:Nat} {px z:LR} {es:List LR} {w:NR} {L γ raw R:Nat->NR}
theorem OI (had:C6 c) (htg:K8 c) (hma:FP c) (H:GrH h l u v q0 q1 P y) (I:PtOK (cf q1) [] xs) (F:Fra l u v y xs vs G C U E) (kq:SzD (cf q1) 640) (l15:q1.length<=15) (hx:xs[i]?=some (px,m+1)) (O:PaO l vs E C i m px es z w L γ raw R) {n:Nat} (hn:11<=n) {K:Fl->St->Prop} {σ:St} {a:Addr} {Lf r0 r1:LR} (wL:Rw Lf) (eL:cf Lf=L m) (hg:GrO (fun _=>0) (VP vs i) (U i) r0 r1)
  (l7:σ.loc 7=some (rowD Lf)) (l4:σ.loc 4=some (qD r0 r1)) (l5:σ.loc 5=some (rowD px)) (l6:σ.loc 6=some (.lst a)) (sa:σ.sto a=some (.dict (dcF (m+1) es)))
  (hK:∀ (a' b':LR),GrO (fun _=>0) (VP vs (i+1)) (U (i+1)) a' b'->K .next (σ.set 4 (qD a' b'))):Bo c n I1 K σ:=by
 have hem:es[m]?=some (es[m]'(by have:=O.le; exact Th this)):=List.getElem?_eq_getElem _;generalize es[m]'(by have:=O.le; exact Th this)=e at hem;refine AI (O.he e (List.mem_of_getElem? hem)) fun we le1 ke=>?_;refine MI O.T fun T1 T2 T3 T4 T5 T6 T7=>?_;refine Bz (T4 m (Nat.le_refl _)) fun kR bR bL kL=>?_;have hdd:=T6 e hem;have hmem:=List.mem_of_getElem? hx;have mx:Mon px:=(I.one _ hmem).mon;have lx:px.length<=15:=by
  have h1:px.length<=q1.length - 1+1:=B7 H.m1.dg mx (I.df hmem);have:=H.m1.pos;exact alw h1 l15
 have kp1:RC 640 (cf px):=kq _ _ mx.dg mx.m (I.df hmem);have eg:(((dcF (m+1) es).find? fun q=>decide (q.1=(1:Int))).map (·.2)).getD (.tup [])=rowD e:=by
  have:=IY es (m+1) m e (by have:=O.le; exact VE this) hem;rw [show m+1 - m=1 by exact alx] at this;exact this
 have lLf:Lf.length<=px.length - 1:=Ay wL fun n hn=>by rw [eL]; exact bL n hn
 unfold I1;walk_at "m";refine ⟨_,l6,⟨a,_,rfl,sa⟩,?_⟩;walk_at "m";refine ⟨a,_,_,rfl,sa,rfl,?_⟩;rw [eg];walk_at "m";refine had.2 Lf e 20000 400000 (VF hn) (fun n=>by rw [eL]; exact kL.rs n) (fun n=>ke.rs n) (VG) (aly lx lLf) (alz lx le1) fun r hr=>?_;have et:cf (trimL r)=cvn (E i) w:=by
  rw [hdd];exact funext fun n=>by rw [Ak,hr n,eL]
 have wt:=rw_trim r;have lt:(trimL r).length<=px.length - 1:=Ay wt fun n hn=>by rw [et]; exact O.bd n hn
 generalize trimL r=t at *;walk_at "m";refine hma.2 t px 15 1466 (alA hn) (alB) wt mx.w mx.n (by rw [et]; exact O.kd) (kp1.mono (by decide)) (by decide) (alC lx lt) lx fun s0 s1 hq=>?_;refine AO (Xe H F O.hz (mon_vs I F) mx O.fw O.ew et hq) fun c1 c2 c3 c4 c5=>?_;refine Bz (Xd H F O.hz (mon_vs I F) hg) fun d1 d2 d3 d4=>?_;walk_at "m";refine htg.2 r0 r1 s0 s1 9 1305 120 1305 120 (VH hn) (alD) d3 d1 c4 c2 hg.1.2.1 hq.2.1 (by decide) (by decide) (VI d4 c3) (VI c5 d2) (alE d2 c3) fun t' s' a' b' wt' ms' et' es' O'=>?_;walk_at "m";exact hK a' b' (OG H I F O.hz hg hq.red c1 ms' et' es' O')
theorem OJ (had:C6 c) (hlow:Nm c) (htg:K8 c) (hma:FP c) (H:GrH h l u v q0 q1 P y) (I:PtOK (cf q1) [] xs) (F:Fra l u v y xs vs G C U E) (kq:SzD (cf q1) 640) (l15:q1.length<=15) (hx:xs[i]?=some (px,m+1)) (O:PaO l vs E C i m px es z w L γ raw R) {n:Nat} (hn:11<=n) {K:Fl->St->Prop} {σ:St} {a:Addr} {g0 g1 r0 r1:LR} (hg:GrO (cf P) (AP xs i) (G i) g0 g1) (hr:GrO (fun _=>0) (VP vs i) (U i) r0 r1)
  (l3:σ.loc 3=some (qD g0 g1)) (l4:σ.loc 4=some (qD r0 r1)) (l5:σ.loc 5=some (rowD px)) (l6:σ.loc 6=some (.lst a)) (sa:σ.sto a=some (.dict (dcF (m+1) es)))
  (hK:∀ (σ':St) (g0 g1 r0 r1:LR),σ'.sto=σ.sto->σ'.loc 3=some (qD g0 g1)->σ'.loc 4=some (qD r0 r1)->GrO (cf P) (AP xs (i+1)) (G (i+1)) g0 g1->GrO (fun _=>0) (VP vs (i+1)) (U (i+1)) r0 r1->K .next σ'):Bo c n I2 K σ:=by
 refine MI O.T fun T1 T2 T3 T4 T5 T6 T7=>?_;refine xq2_2 (SW O.le T7) fun ps e0 hmax hlt=>?_;have hmk:=O.ml;have ll:=H.ll;have l2:2<=px.length:=(I.one _ (List.mem_of_getElem? hx)).l;have hm5:m<=5:=by
  have:=Nat.mul_le_mul_left m (show 1<=px.length - 1 by exact Fq l2);exact VD this hmk ll
 unfold I2;walk_at "m";refine ⟨_,l6,a,ps,((m+1:Nat):Int),rowD e0,rfl,by rw [<- hmax]; exact sa,hlt,?_⟩;walk_at "m";refine ⟨by simp [smallI]; exact alF hm5,_,rfl,?_⟩;refine AM (fun j σ'=>∃ (Lf g0 g1:LR),Rw Lf/\cf Lf=L j/\GrJ (cf P) (AP xs i) (Aa (cf px) m) (G i) (R j) g0 g1/\(j=0->GrO (cf P) (AP xs i) (G i) g0 g1)/\σ'.loc 7=some (rowD Lf)/\σ'.loc 3=some (qD g0 g1)/\σ'.loc 4=some (qD r0 r1)/\σ'.loc 5=some (rowD px)/\σ'.loc 6=some (.lst a)/\σ'.sto=σ.sto) (fun _ _=>False) _ 0 _ ?_ (fun _ _ _=>trivial) ?_ (fun _ _ z=>z.elim) ?_
 ·exact ⟨[],g0,g1,.inl rfl,by rw [T3]; rfl,by rw [T1]; exact hg.in _,fun _=>hg,rfl,l3,l4,l5,l6,rfl⟩
 ·intro j d σ' K' hd q211_ hn' _; refine xq3_10 q211_ fun Lf g0' g1' wL eL hJ hJ0 k7 k3 k4 k5 k6 ks=>?_; clear q211_;rw [Nat.zero_add] at eL hJ hJ0 hn';obtain ⟨hi,rfl⟩:=ER hd;have hj:j<m:=alG hi;rw [show (((m+1:Nat):Int) - (j:Int))=((m - j+1:Nat):Int) by exact alH hj];refine OH had hlow htg H I F kq hx O hn hj wL eL hJ hJ0 k7 k3 k5 k6 rfl (by show σ'.sto a=_; rw [ks]; exact sa) fun F' a' b' wF eF hJ' d=>hn' _ ⟨F',a',b',wF,eF,hJ',fun q=>absurd q (Nat.succ_ne_zero _),rfl,rfl,k4,k5,k6,ks⟩
 ·intro σ' q212_; refine xq3_10 q212_ fun Lf g0' g1' wL eL hJ hJ0 k7 k3 k4 k5 k6 ks=>?_; clear q212_;have hlen:0+(BO ((m+1:Nat):Int) 1).length=m:=by rw [EQ]; exact alI
  rw [hlen] at eL hJ;refine OI had htg hma H I F kq l15 hx O hn wL eL hr k7 k4 k5 k6 (by rw [ks]; exact sa) fun a' b' hr'=>hK _ g0' g1' a' b' ks k3 rfl (Qx H I F hx O hJ) hr'
end
noncomputable def L3:List S:=[
  .ifs (.cmp .Eq (.var 4) (.glob "EMPTY")) [.ret (.tup [.cstr "growth",.var 3])] [],
  .ret (.tup [.cstr "barred",.var 3,.var 4])]
noncomputable def Hn:List S :=
  .expr (.call "need_quotient" [.var 0]) ::
  .unpack [1,2] (.call "taken" [.var 0,.lst []]) ::
  .assign 3 (.tup [.call "grown_row" [.var 1],.glob "UNIT"]) ::
  .assign 4 (.glob "EMPTY") ::
  .fors [5,6] false .plain [.call "tops_by_parts" [.var 2]] I2 ::
  L3
noncomputable def Xn (c:Cx):Prop:=AD c "growth"/\∀ (h l u v q0 q1 P:LR) (y:NR) {m:Nat} {sto:Sto} {Q:D->Sto->Prop},12<=m->GrH h l u v q0 q1 P y->Rw h->Rw u->Rw q0->RC 3600 (cf q0)->RC 470 (cf q1)->q0.length<=17->q1.length<=15->(u=[]->Q (.tup [.str "growth",qD h l]) sto)->(u≠[]->Q (.tup [.str "barred",qD h l,qD u v]) sto)->Ah c m "growth" [qD q0 q1] sto Q
theorem Xo {q:LR} (mq:Mon q) (kq:RC 470 (cf q)) (lq:q.length<=15):SzD (cf q) 640:=fun g k dg g1 d=>(GO mq.dg (o757 lq) kq dg g1 d).mono (o758 lq)
theorem none_unit {v:LR} (mv:Mon v) (h:Al (cf []) (cf v)):v=[1]:=by
 have d:Df (cf v) one0:=by
  refine xq2_3 h fun s t fs ft e=>?_;exact ⟨t,ft,e.trans (funext fun j=>by rw [show cvn s (cf []) j=0 by rw [Af]; exact Ag s j,Rat.zero_add])⟩
 have:=B7 BT mv d;exact Nk mv.w mon_unit.w ((mv.one (J2 this)).trans cf_unit.symm)
section
variable {c:Cx} (CO:CxOK c)
include CO
theorem SX (hE:c.cs "EMPTY"=some (qD [] [1])) (hu:c.cs "UNIT"=some (rowD [1])) (hq:RM c) (ht:Xi c) (hg:Xk c) (hto:Xj c) (had:C6 c) (hlow:Nm c) (htg:K8 c) (hma:FP c) (hf:FnK c "growth" 1 Hn):Xn c:=by
 refine ⟨hf.isFn,fun h l u v q0 q1 P y {m sto Q} hm H wh wu w0 k0 k1 l0 l1 hQ1 hQ2=>?_⟩;obtain ⟨n,rfl⟩:∃ n,m=n+1:=⟨m - 1,alJ hm⟩;refine fn_call CO hf rfl ?_;unfold Hn;walk_at "m";refine hq.2 q0 q1 17 3600 (alK hm) (PF) w0 H.m1 H.c01 k0 (k1.mono (alL)) (by decide) l0 (alM l1) ?_;walk_at "m";refine ⟨zq rfl,fun la hla=>?_⟩;walk_at "m";refine ht.2 q0 q1 3600 la true (alN hm) w0 H.m1 k0 (alO) k1 (alP l0) l1 put_same fun W Rr xs ess ds f wW lW kW e0 bR I hT hf'=>?_;refine ⟨_,rfl,rfl,?_⟩;have kq:=Xo H.m1 k1 l1;have fra:=abP H I;have eW:cf W=Ac (cf P):=Oz H.ml.dg H.mv.dg H.m1.dg H.by' H.bu bR (fin_cf P) (fin_cf W) H.e H.eh e0;have hpos:=H.m1.pos;have len2:=hT.len2;have lxs:xs.length<=14:=Nat.le_trans (I.len H.m1.dg) (Vm l1);have ne:∀ es∈ess,es≠[]/\∀ e,es[0]?=some e->e≠[]:=fun es hes=>by
  obtain ⟨i,hi⟩:=List.mem_iff_getElem?.mp hes;refine xq1_2 (hT.at i es hi) fun x hx hP=>?_;exact SU H I fra kq l1 (fin_cf W) e0 hx hP
 refine Rh fra fun vs G C U E F=>?_;walk_at "m";refine hg.2 W (alQ hm) wW (alR l0 lW) kW fun g wg g00 gs=>?_;have eg:cf g=cf P:=funext fun j=>by
  cases j with
  | zero=>rw [g00,H.P0]
  | succ j =>
   rw [gs j,eW];show ((j+1:Nat):Rat)*cf P (j+1) / _=_;have:=Rat.div_mul_cancel (a:=cf P (j+1)) (Ld j);rw [Rat.mul_comm,Rat.mul_div_cancel (Ld j)]
 walk_at "m";refine i_tup1 ?_;walk_at "m";refine hto.2 (cf q1) (cf Rr) xs ess ds f true (alS hm) hT (J4 lxs) (fun x hx=>by have:=(FR H.m1 k1 l1 I hx).2.2.2.2.1; exact J4 this) (fun es hes=>(ne es hes).2) (fun es hes=>(ne es hes).1) (I.pw.imp_of_mem fun hx hy h z=>?_) put_same fun gl gps sto' hm' hgl hds=>?_
 ·rw [<- z] at h;have O:=I.one _ hx;exact CE h.1 O.dg (by have:=O.l; exact Fq this) (BB _)
 have lg:gps.length=xs.length:=by
  have:=congrArg List.length hm';rw [List.length_map,List.length_zipWith] at this;exact VC this len2
 refine ⟨true,gps.map gD,hgl,by exact Mine.mlim (alT lg lxs),?_⟩;refine AM (fun i σ=>∃ (g0 g1 r0 r1:LR),GrO (cf P) (AP xs i) (G i) g0 g1/\GrO (fun _=>0) (VP vs i) (U i) r0 r1/\σ.loc 3=some (qD g0 g1)/\σ.loc 4=some (qD r0 r1)/\σ.sto=sto') (fun _ _=>False) _ 0 _ ?_ ?_ ?_ (fun _ _ z=>z.elim) ?_
 ·exact ⟨g,[1],[],[1],Nn F wg eg,No F,rfl,rfl,rfl⟩
 ·intro i σ q213_; refine xq4_5 q213_ fun _ _ _ _ _ _ _ _ ks=>?_; clear q213_;exact ⟨true,by rw [ks]; exact hgl⟩
 ·intro i d σ K hd q214_ hn _; refine xq4_5 q214_ fun g0 g1 r0 r1 hO hR l3 l4 ks=>?_; clear q214_;rw [Nat.zero_add] at hO hR hn;rw [List.getElem?_map] at hd;refine xq1_2 (Option.map_eq_some_iff.mp hd) fun x hx q215_=>?_; obtain rfl:=q215_;have hz:(List.zipWith gM xs ess)[i]?=some (x.1,x.2.2):=by rw [<- hm',List.getElem?_map,hx]; rfl
  rw [List.getElem?_zipWith] at hz
  split at hz
  ·rename_i xi es hxi hes;refine xq1_2 (hT.at i es hes) fun x' hx' hP=>?_;rw [hxi] at hx';cases hx';obtain ⟨px,k⟩:=xi;obtain ⟨mm,rfl⟩:∃ m,k=m+1:=⟨k - 1,by have:1<=k:=(I.one _ (List.mem_of_getElem? hxi)).k; exact EM this⟩;refine Ri (L1 H I F kq l1 (fin_cf W) e0 hxi hP) fun z w L γ raw R O=>?_;have e:=Option.some.inj hz;obtain ⟨xp,xa,xd⟩:=x;cases e;refine ⟨[rowD px,.lst xa],rfl,rfl,?_⟩;have sd:=hds _ (List.mem_of_getElem? hx);refine OJ had hlow htg hma H I F kq l1 hxi O (alU hm) hO hR l3 l4 rfl rfl (by show σ.sto xa=_; rw [ks]; exact sd) fun σ' g0 g1 r0 r1 k1 k2 k3 k4 k5=>hn σ' ⟨g0,g1,r0,r1,k4,k5,k2,k3,k1.trans ks⟩
  ·cases hz
 ·intro σ q216_; refine xq4_5 q216_ fun g0 g1 r0 r1 hO hR l3 l4 ks=>?_; clear q216_;rw [Nat.zero_add,List.length_map,lg] at hO hR;obtain ⟨rfl,rfl⟩:=Qp H F wh hO;obtain ⟨rfl,rfl⟩:=Qq H F wu hR;unfold L3;walk_at "m";refine c_eqD (RN 47 r0 r1 [] [1]) ?_;walk_at "m";refine if_b (fun hb=>?_) fun hb=>?_
  ·have z:r0=[]:=by
    have:=(Bool.and_eq_true _ _ ▸ hb).1;simpa using this
   walk_at "m";exact ret_plain (hQ1 z)
  ·have z:r0≠[]:=fun z=>by
    subst z;rw [none_unit H.mv H.cuv] at hb;cases hb
   walk_at "m";exact ret_plain (hQ2 z)
end
noncomputable def s__law_power:List S:=[
  .assign 2 (.tup [.tup [.cint 1,.cint 1]]),
  .fors [3] true .range [.var 1] [.assign 2 (.call "_law_times" [.var 2,.var 0])],
  .ret (.var 2)]
noncomputable def Gq (c:Cx):Prop:=AD c "_law_times"/\∀ (p q:LR) (k l:Nat) {m:Nat} {sto:Sto} {Q:D->Sto->Prop},5<=m->RC k (cf p)->RC l (cf q)->2*(k+l)+5<=134217728->p.length<=15->q.length<=100->(∀ r,Rw r->E8 p q r->Q (rowD r) sto)->Ah c m "_law_times" [rowD p,rowD q] sto Q
noncomputable def Xp (c:Cx):Prop:=AD c "_law_power"/\∀ (p:LR) (e b:Nat) {m:Nat} {sto:Sto} {Q:D->Sto->Prop},6<=m->Mon p->RC b (cf p)->b<=1000->(p.length - 1)*e<=14->e<=100->(∀ r,Mon r->cf r=Aa (cf p) e->RC (1+e*(b+5)) (cf r)->r.length=(p.length - 1)*e+1->Q (rowD r) sto)->Ah c m "_law_power" [rowD p,.int e] sto Q
section
variable {c:Cx} (CO:CxOK c)
include CO
theorem OK (hpl:HU c 4 "_law_plus") (hsc:CC c 4 "_law_scale") (hf:FnK c "_law_times" 2 Em):Gq c:=by
 refine ⟨hf.isFn,fun p q k l {m sto Q} hm hpc hqc hB h1 h2 h=>?_⟩;have hp:Cb k p:=fun i=>hpc.rs i;have hq:Cb l q:=fun i=>hqc.rs i;obtain ⟨n,rfl⟩:∃ n,m=n+1:=⟨m - 1,Il hm⟩;refine fn_call CO hf rfl ?_;unfold Em;walk_at "m";refine f_lenR (J1 h1) ?_;walk_at "m";refine ⟨by simp [smallI]; exact alV h1,_,rfl,?_⟩;refine AM (fun i σ=>∃ F:LR,Rw F/\F.length<=i+100/\(∀ j,cf F j=sm (Dk p q j) i)/\σ.loc 0=some (rowD p)/\σ.loc 1=some (rowD q)/\σ.loc 2=some (rowD F)) (fun _ _=>False) _ 0 _ ?_ (fun _ _ _=>trivial) ?_ (fun _ _ z=>z.elim) ?_
 ·exact ⟨[],.inl rfl,by simp,fun j=>rfl,rfl,rfl,rfl⟩
 ·intro i d σ K hd q217_ hn hr; refine xq1_6 q217_ fun F hw hF1 hF g0 g1 g2=>?_; clear q217_;obtain ⟨hi,hdd⟩:=Bh hd;rw [Int.zero_add] at hdd;subst hdd;rw [Nat.zero_add] at hF1 hF hn;have hi:i<p.length:=Eh hi;have hFs:Cb (k+l+5) F:=fun j=>by rw [hF j]; exact (hpc.part hqc (n:=i) (alW h1 hi)).rs j
  walk_at "m";rw [WA];walk_at "m";refine Wl (by simp) (by simp) (EL) (alX h1 hi) ?_;rw [Cf,Int.toNat_natCast];walk_at "m";refine FD (J1 h1) hi ?_;walk_at "m";refine hsc.2 q (cf p i) l k (F5 hm) hq (hp i) (alY hB) (alZ h2) ?_;have ll:(trimL (q.map (·*cf p i))).length<=q.length:=by have:=trim_len (q.map (·*cf p i)); rw [List.length_map] at this; exact this
  refine Kv (by rw [List.length_map,List.length_replicate]; unfold lim; exact al0 h1 hi) (by exact Mine.mlim (al1 h2 ll)) ?_;rw [<- List.map_append];walk_at "m";have cs:∀ j,cf (List.replicate i 0 ++ trimL (q.map (·*cf p i))) j=Dk p q j i:=fun j=>by
   rw [HR,List.length_replicate];unfold Dk
   by_cases z:j<i
   ·rw [if_pos z,if_neg (by exact al2 z),Ce]
   ·rw [if_neg z,if_pos (by exact CG z),Ak,N1 (f:=fun y=>y*cf p i) (Rat.zero_mul _),Rat.mul_comm]
  have rsc:Cb (k+l) (List.replicate i 0 ++ trimL (q.map (·*cf p i))):=fun j=>by
   rw [cs j];unfold Dk
   split
   ·exact C2 (hp i) (hq _)
   ·exact ID (by have:=WC (hp 0); exact al3 this)
  refine hpl.2 F _ (k+l+5) (k+l) (F5 hm) hFs rsc (al4 hB) (al5 hF1 h1 hi) (by rw [List.length_append,List.length_replicate]; exact al6 h2 h1 ll hi) fun r hr hrl=>?_;walk_at "m";refine hn _ ⟨trimL r,rw_trim r,?_,fun j=>?_,g0,g1,rfl⟩
  ·have:=trim_len r;rw [List.length_append,List.length_replicate] at hrl;exact al7 h2 hF1 ll hrl this
  ·rw [Ak,hr j,hF j,cs j]; rfl
 ·intro σ q218_; refine xq1_6 q218_ fun F hw hF1 hF g0 g1 g2=>?_; clear q218_;rw [Nat.zero_add,Bg] at hF1 hF;rw [show ((p.length:Int) - 0).toNat=p.length by exact G6] at hF1 hF;walk_at "m";exact ret_plain (h F hw hF)
theorem Xq (hti:Gq c) (hf:FnK c "_law_power" 2 s__law_power):Xp c:=by
 refine ⟨hf.isFn,fun p e b {m sto Q} hm mp kp hb hl he h=>?_⟩;obtain ⟨n,rfl⟩:∃ n,m=n+1:=⟨m - 1,Pd hm⟩;refine fn_call CO hf rfl ?_;unfold s__law_power;have lp:p.length<=15\/e=0:=by
  rcases Nat.eq_zero_or_pos e with z | z
  ·exact .inr z
  ·have:=Nat.le_mul_of_pos_right (p.length - 1) z;exact .inl (al8 this hl)
 walk_at "m";refine ⟨by simp [smallI]; exact Ud he,_,rfl,?_⟩;refine AM (fun i τ=>∃ r:LR,Rw r/\cf r=Aa (cf p) i/\τ.loc 0=some (rowD p)/\τ.loc 2=some (rowD r)) (fun _ _=>False) _ 0 _ ⟨[1],mon_unit.w,cf_unit.trans psNat_one.symm,rfl,rfl⟩ (fun _ _ _=>trivial) ?_ (fun _ _ z=>z.elim) ?_
 ·intro i d τ K hd q219_ hn hr; refine xq1_4 q219_ fun r wr er g0 g2=>?_; clear q219_;obtain ⟨hi,hdd⟩:=Bh hd;rw [Nat.zero_add] at er hn;have hi:i<e:=Eh hi;have hl':(p.length - 1)*i<=14:=Nat.le_trans (Nat.mul_le_mul_left _ (Nat.le_of_lt hi)) hl;refine AI (KV mp kp i r wr er hl') fun kr mr lr=>?_;have:i*(b+5)<=100*1005:=Nat.mul_le_mul (al9 he hi) (ama hb);walk_at "m";refine hti.2 r p _ b (Im hm) kr kp (amb hb this) (PC lr hl') (amc lp hi) fun u wu eu=>?_;walk_at "m";refine hn _ ⟨u,wu,funext fun j=>?_,g0,rfl⟩;rw [eu j,Ar,er]; rfl
 ·intro τ q220_; refine xq1_4 q220_ fun r wr er g0 g2=>?_; clear q220_;rw [Nat.zero_add,Bg,show ((e:Int) - 0).toNat=e by exact G6] at er;refine AI (KV mp kp e r wr er hl) fun kr mr lr=>?_;walk_at "m";exact ret_plain (h r mr er kr lr)
end
noncomputable def Bl (x:Rat):NR:=fun j=>x*one0 j
theorem I3 (x:Rat):Ab (Bl x):=⟨1,fun i hi=>by show x*(if i=0 then 1 else 0)=0; rw [if_neg (by exact G5 hi),Rat.mul_zero]⟩
theorem Cn (a b:Rat):Bl (a*b)=cvn (Bl a) (Bl b):=((Cy a (Bl b)).trans (funext fun j=>(Rat.mul_assoc _ _ _).symm)).symm
theorem Bf (a b:Rat):Bl (a+b)=fun j=>Bl a j+Bl b j:=funext fun j=>Rat.add_mul _ _ _
theorem Da (a b:Rat):Bl (a - b)=fun j=>Bl a j - Bl b j:=funext fun j=>by show (a - b)*one0 j=a*one0 j - b*one0 j; grind
theorem BG:Bl 1=Aj 1:=funext fun j=>by rw [psNat_one]; exact Rat.one_mul _
theorem CA:Bl 0=Aj 0:=funext fun j=>by rw [psNat_zero]; exact Rat.zero_mul _
noncomputable def Gr (T:NR) (a b c:Rat):NR:=fun j=>Bl a j+(cvn (Bl b) T j+cvn (Bl c) (cvn T T) j)
theorem SY {T:NR} (h:Ab T) (a b c:Rat):Ab (Gr T a b c):=Au (I3 a) (Au (fin_cvn (I3 b) h) (fin_cvn (I3 c) (fin_cvn h h)))
theorem DQ {T f g:NR} (fT:Ab T) {a b c a' b' c' ρ:Rat} (h:ρ≠0) (e:(fun j=>cvn (Gr T a b c) f j+cvn (Gr T a' b' c') g j)=Bl ρ):Al f g:=by
 have f3:∀ x y z,Ab (fun j=>1 / ρ*Gr T x y z j):=fun x y z=>by
  obtain ⟨n,f⟩:=SY fT x y z;exact ⟨n,fun i hi=>by show 1 / ρ*Gr T x y z i=0; rw [f i hi,Rat.mul_zero]⟩
 refine ⟨fun j=>1 / ρ*Gr T a b c j,fun j=>1 / ρ*Gr T a' b' c' j,f3 _ _ _,f3 _ _ _,funext fun j=>?_⟩;rw [Ai,Ai,<- Rat.mul_add];have:cvn (Gr T a b c) f j+cvn (Gr T a' b' c') g j=ρ*one0 j:=congrFun e j;rw [this,<- Rat.mul_assoc,Rat.div_mul_cancel h,Rat.one_mul]
section
variable {R:Type} [Lean.Grind.CommRing R] (φ:Rat->R) (ha:∀ a b,φ (a+b)=φ a+φ b) (hs:∀ a b,φ (a - b)=φ a - φ b) (hm:∀ a b,φ (a*b)=φ a*φ b) (h1:φ 1=1) (h0:φ 0=0) (T:R) (δ n m:Rat)
include ha hs hm h1 h0
theorem anX:(φ (0 - 1)+(φ 0*T+φ 0*(T*T)))*T+(φ 1+(φ 0*T+φ 0*(T*T)))*(T+φ δ)=φ δ:=by simp only [ha,hs,hm,h1,h0]; grind
theorem anY:(φ (0 - (δ+δ))+(φ (0 - 1)*T+φ 0*(T*T)))*T+(φ 1+(φ 0*T+φ 0*(T*T)))*((T+φ δ)*(T+φ δ)+φ m)=φ (δ*δ+m):=by simp only [ha,hs,hm,h1,h0]; grind
theorem anZ:(φ (0 - (δ*δ+δ*δ+δ*δ))+(φ (0 - (δ+δ+δ))*T+φ (0 - 1)*(T*T)))*T+(φ 1+(φ 0*T+φ 0*(T*T)))*((T+φ δ)*(T+φ δ)*(T+φ δ)+φ m)=φ (δ*δ*δ+m):=by simp only [ha,hs,hm,h1,h0]; grind
theorem an0 {κ:Rat} (hκ:κ=δ*δ+m - n):(φ ((δ+δ)*(δ+δ) - κ)+(φ (δ+δ)*T+φ 0*(T*T)))*(T*T+φ n)+(φ κ+(φ (0 - (δ+δ))*T+φ 0*(T*T)))*((T+φ δ)*(T+φ δ)+φ m)=φ ((δ+δ)*(δ+δ)*n+κ*κ):=by subst hκ; simp only [ha,hs,hm,h1,h0]; grind
theorem an1 {δ3 α β:Rat} (h3:δ3=δ+δ+δ) (hα:α=δ*δ3 - n) (hβ:β=δ*δ*δ+m - δ3*n):(φ (α*α - δ3*β)+(φ (δ3*α - β)*T+φ α*(T*T)))*(T*T+φ n)+(φ β+(φ (0 - α)*T+φ 0*(T*T)))*((T+φ δ)*(T+φ δ)*(T+φ δ)+φ m)=φ (α*α*n+β*β):=by subst hα hβ h3; simp only [ha,hs,hm,h1,h0]; grind
theorem an2 {A B C D E F:Rat} (hA:A=δ+δ+δ) (hB:B=δ*A) (hC:C=δ*δ*δ+m - n) (hD:D=B*B - A*C) (hE:E=0 - n*A*A - B*C) (hF:F=C*C+n*A*B):(φ (0 - F - A*E - B*D)+(φ (0 - E - A*D)*T+φ (0 - D)*(T*T)))*(T*T*T+φ n)+(φ F+(φ E*T+φ D*(T*T)))*((T+φ δ)*(T+φ δ)*(T+φ δ)+φ m)=φ (C*F - n*(A*E+B*D)):=by
 have k1:φ A=φ δ+φ δ+φ δ:=by rw [hA,ha,ha]
 have k2:φ B=φ δ*φ A:=by rw [hB,hm]
 have k3:φ C=φ δ*φ δ*φ δ+φ m - φ n:=by rw [hC,hs,ha,hm,hm]
 have k4:φ D=φ B*φ B - φ A*φ C:=by rw [hD,hs,hm,hm]
 have k5:φ E=0 - φ n*φ A*φ A - φ B*φ C:=by rw [hE,hs,hs,hm,hm,hm,h0]
 have k6:φ F=φ C*φ C+φ n*φ A*φ B:=by rw [hF,ha,hm,hm,hm]
 simp only [ha,hs,hm,h0];have g:(T+φ δ)*(T+φ δ)*(T+φ δ)+φ m=T*T*T+φ n+(φ A*(T*T)+φ B*T+φ C):=by rw [k3,k2,k1]; grind
 rw [g];generalize φ A=a at *;generalize φ B=b at *;generalize φ C=c at *;rw [k4,k5,k6];generalize φ n=N;clear g k1 k2 k3 k4 k5 k6;grind
end
noncomputable def ns12:List Int:=[1,2,3,4,5,7,-2,-3,-5,-6,-7,-10]
noncomputable def ns6:List Int:=[2,3,4,5,6,7]
noncomputable def ds20:List Int:=[1,2,3,4,5,6,7,8,9,10,-1,-2,-3,-4,-5,-6,-7,-8,-9,-10]
noncomputable def I4 (e:Rat) (f:LR):Prop:=f=[e,1]\/(∃ n∈ns12,f=[e*e+(n:Rat),((2:Int):Rat)*e,1])\/∃ n∈ns6,f=[e*e*e+(n:Rat),((3:Int):Rat)*(e*e),((3:Int):Rat)*e,1]
theorem Ch (a:Rat) (p:LR):cf (a :: p)=fun j=>Bl a j+cvn (cf [0,1]) (cf p) j:=funext fun j=>by
 cases j with
 | zero =>
  show a=a*1+cvn (cf [0,1]) (cf p) 0;have:cvn (cf [0,1]) (cf p) 0=0:=by
   show 0+cf [0,1] 0*cf p (0 - 0)=0;show 0+0*_=0;rw [Rat.zero_mul,Rat.add_zero]
  rw [this,Rat.mul_one,Rat.add_zero]
 | succ j =>
  show cf p j=a*0+cvn (cf [0,1]) (cf p) (j+1);rw [Eo,show (fun i=>cf [0,1] (i+1))=one0 from cf_unit,Aq];show cf p j=a*0+(0*_+cf p j);rw [Rat.zero_mul,Rat.mul_zero,Rat.zero_add,Rat.zero_add]
section
variable {R:Type} [Lean.Grind.CommRing R]
theorem an3 {X E D:R}:(E+D)+X*(1+X*0)=(E+X*(1+X*0))+D:=by grind
theorem an4 {X E N E2:R} (h:E2=E+E):(E*E+N)+X*(E2+X*(1+X*0))=(E+X*(1+X*0))*(E+X*(1+X*0))+N:=by subst h; grind
theorem an5 {X E N E2 E3:R} (h:E3=E+E+E) (h2:E2=E*E+E*E+E*E):(E*E*E+N)+X*(E2+X*(E3+X*(1+X*0)))=(E+X*(1+X*0))*(E+X*(1+X*0))*(E+X*(1+X*0))+N:=by subst h h2; grind
end
theorem I5:cf []=Aj 0:=by rw [psNat_zero]; rfl
theorem Ia (e:Rat):cf [e,1]=fun j=>Bl e j+cvn (cf [0,1]) (fun j=>Aj 1 j+cvn (cf [0,1]) (Aj 0) j) j:=by rw [Ch,Ch 1 [],BG,I5]
theorem Ef (e δ:Rat):cf [e+δ,1]=fun j=>cf [e,1] j+Bl δ j:=by
 rw [Ia (e+δ),Ia e,Bf];exact @an3 NR psRing _ _ _
theorem Ev (e n:Rat):cf [e*e+n,((2:Int):Rat)*e,1]=fun j=>cvn (cf [e,1]) (cf [e,1]) j+Bl n j:=by
 rw [Ia e,Ch,Ch (((2:Int):Rat)*e),Ch 1 [],BG,I5,Bf,Cn];exact @an4 NR psRing _ _ _ _ (by rw [show ((2:Int):Rat)*e=e+e by grind,Bf]; rfl)
theorem Fj (e n:Rat):cf [e*e*e+n,((3:Int):Rat)*(e*e),((3:Int):Rat)*e,1]=fun j=>cvn (cvn (cf [e,1]) (cf [e,1])) (cf [e,1]) j+Bl n j:=by
 rw [Ia e,Ch,Ch (((3:Int):Rat)*(e*e)),Ch (((3:Int):Rat)*e),Ch 1 [],BG,I5,Bf,Cn,Cn];exact @an5 NR psRing _ _ _ _ _ (by rw [show ((3:Int):Rat)*e=e+e+e by grind,Bf,Bf]; rfl) (by rw [show ((3:Int):Rat)*(e*e)=e*e+e*e+e*e by grind,Bf,Bf,Cn]; rfl)
theorem an6:∀ δ∈ds20,δ≠0:=by decide +kernel
theorem abS:∀ δ∈ds20,-δ∈ds20:=by decide +kernel
theorem an7:∀ δ∈ds20,∀ m∈ns12,δ*δ+m≠0:=by decide +kernel
theorem an8:∀ δ∈ds20,∀ m∈ns6,δ*δ*δ+m≠0:=by decide +kernel
theorem an9:∀ δ∈ds20,∀ n∈ns12,∀ m∈ns12,(δ+δ)*(δ+δ)*n+(δ*δ+m - n)*(δ*δ+m - n)≠0:=by decide +kernel
theorem aoa:∀ δ∈ds20,∀ n∈ns12,∀ m∈ns6,(δ*(δ+δ+δ) - n)*(δ*(δ+δ+δ) - n)*n+(δ*δ*δ+m - (δ+δ+δ)*n)*(δ*δ*δ+m - (δ+δ+δ)*n)≠0:=by decide +kernel
noncomputable def ccI (δ n m:Int):Int :=
 let A:=δ+δ+δ
 let B:=δ*A
 let C:=δ*δ*δ+m - n
 C*(C*C+n*A*B) - n*(A*(0 - n*A*A - B*C)+B*(B*B - A*C))
theorem aob:∀ δ∈ds20,∀ n∈ns6,∀ m∈ns6,ccI δ n m≠0:=by decide +kernel
theorem d_n:(∀ n∈ns12,n≠0)/\∀ n∈ns6,n≠0:=by decide +kernel
theorem Fk {ρ:Rat} {z:Int} (h:z≠0) (e:(z:Rat)=ρ):ρ≠0:=e ▸ cast_ne h
section
variable {e e':Rat} {δ n m:Int} (he:e'=e+(δ:Rat))
include he
theorem aoc (h:δ∈ds20):Al (cf [e,1]) (cf [e',1]):=by
 rw [he,Ef];exact DQ (fin_cf _) (cast_ne (an6 δ h)) (@anX NR psRing Bl Bf Da Cn BG CA (cf [e,1]) (δ:Rat))
theorem Xr (h:δ∈ds20) (hm:m∈ns12):Al (cf [e,1]) (cf [e'*e'+(m:Rat),((2:Int):Rat)*e',1]):=by
 rw [Ev,he,Ef];exact DQ (fin_cf _) (Fk (an7 δ h m hm) (by rw [Rat.intCast_add,Rat.intCast_mul])) (@anY NR psRing Bl Bf Da Cn BG CA (cf [e,1]) (δ:Rat) (m:Rat))
theorem Xu (h:δ∈ds20) (hm:m∈ns6):Al (cf [e,1]) (cf [e'*e'*e'+(m:Rat),((3:Int):Rat)*(e'*e'),((3:Int):Rat)*e',1]):=by
 rw [Fj,he,Ef];exact DQ (fin_cf _) (Fk (an8 δ h m hm) (by rw [Rat.intCast_add,Rat.intCast_mul,Rat.intCast_mul])) (@anZ NR psRing Bl Bf Da Cn BG CA (cf [e,1]) (δ:Rat) (m:Rat))
theorem aod (h:δ∈ds20) (hn:n∈ns12) (hm:m∈ns12):Al (cf [e*e+(n:Rat),((2:Int):Rat)*e,1]) (cf [e'*e'+(m:Rat),((2:Int):Rat)*e',1]):=by
 rw [Ev,Ev,he,Ef];exact DQ (fin_cf _) (Fk (an9 δ h n hn m hm) (by simp only [Rat.intCast_add,Rat.intCast_mul,Rat.intCast_sub])) (@an0 NR psRing Bl Bf Da Cn BG CA (cf [e,1]) (δ:Rat) (n:Rat) (m:Rat) _ rfl)
theorem Xv (h:δ∈ds20) (hn:n∈ns12) (hm:m∈ns6):Al (cf [e*e+(n:Rat),((2:Int):Rat)*e,1]) (cf [e'*e'*e'+(m:Rat),((3:Int):Rat)*(e'*e'),((3:Int):Rat)*e',1]):=by
 rw [Ev,Fj,he,Ef];exact DQ (fin_cf _) (Fk (aoa δ h n hn m hm) (by simp only [Rat.intCast_add,Rat.intCast_mul,Rat.intCast_sub])) (@an1 NR psRing Bl Bf Da Cn BG CA (cf [e,1]) (δ:Rat) (n:Rat) (m:Rat) _ _ _ rfl rfl rfl)
theorem aoe (h:δ∈ds20) (hn:n∈ns6) (hm:m∈ns6):Al (cf [e*e*e+(n:Rat),((3:Int):Rat)*(e*e),((3:Int):Rat)*e,1]) (cf [e'*e'*e'+(m:Rat),((3:Int):Rat)*(e'*e'),((3:Int):Rat)*e',1]):=by
 rw [Fj,Fj,he,Ef];exact DQ (fin_cf _) (Fk (aob δ h n hn m hm) (by unfold ccI; simp only [Rat.intCast_add,Rat.intCast_mul,Rat.intCast_sub]; rfl)) (@an2 NR psRing Bl Bf Da Cn BG CA (cf [e,1]) (δ:Rat) (n:Rat) (m:Rat) _ _ _ _ _ _ rfl rfl rfl rfl rfl rfl)
end
theorem Qy {e e':Rat} {δ:Int} {f g:LR} (he:e'=e+(δ:Rat)) (h:δ∈ds20) (hf:I4 e f) (hg:I4 e' g):Al (cf f) (cf g):=by
 have he':e=e'+((-δ:Int):Rat):=by rw [he,Rat.intCast_neg]; grind
 have h':=abS δ h;rcases hf with rfl | ⟨n,hn,rfl⟩ | ⟨n,hn,rfl⟩
 ·rcases hg with rfl | ⟨m,hm,rfl⟩ | ⟨m,hm,rfl⟩
  ·exact aoc he h
  ·exact Xr he h hm
  ·exact Xu he h hm
 ·rcases hg with rfl | ⟨m,hm,rfl⟩ | ⟨m,hm,rfl⟩
  ·exact Ao (Xr he' h' hn)
  ·exact aod he h hn hm
  ·exact Xv he h hn hm
 ·rcases hg with rfl | ⟨m,hm,rfl⟩ | ⟨m,hm,rfl⟩
  ·exact Ao (Xu he' h' hn)
  ·exact Ao (Xv he' h' hm hn)
  ·exact aoe he h hn hm
section
variable {R:Type} [Lean.Grind.CommRing R]
theorem aof {T N h z o:R} (hh:h+h=1) (hz:z=0) (ho:o=1):(o+(z*T+z*(T*T)))*(T*T+N)+(z+((0 - h)*T+z*(T*T)))*(1*T+T*1+0)=N:=by subst hz ho; grind
theorem aog {T N h z o:R} (hh:h+h+h=1) (hz:z=0) (ho:o=1):(o+(z*T+z*(T*T)))*(T*T*T+N)+(z+((0 - h)*T+z*(T*T)))*((1*T+T*1)*T+T*T*1+0)=N:=by subst hz ho; grind
end
theorem I6 (e:Rat):Ac (cf [e,1])=Aj 1:=by
 rw [psNat_one,<- cf_unit];funext j;show ((j+1:Nat):Rat)*cf [1] j=cf [1] j;cases j with
 | zero=>exact Rat.one_mul _
 | succ j=>rw [An (by show 1<=j+1; exact Fp),Rat.mul_zero]
theorem L4 (x:Rat):Ac (Bl x)=Aj 0:=by
 rw [psNat_zero];funext j;show _*(x*(if j+1=0 then 1 else 0))=0;rw [if_neg (by exact o302),Rat.mul_zero,Rat.mul_zero]
theorem Qz {e:Rat} {f:LR} (hf:I4 e f):Al (cf f) (Ac (cf f)):=by
 rcases hf with rfl | ⟨n,hn,rfl⟩ | ⟨n,hn,rfl⟩
 ·rw [I6,psNat_one]; exact Cm
 ·rw [Ev,DE,AR,I6,L4];refine DQ (a:=1) (b:=0) (c:=0) (a':=0) (b':=0 - 1 / 2) (c':=0) (fin_cf [e,1]) (cast_ne (d_n.1 n hn)) ?_;unfold Gr;rw [Da,CA];exact @aof NR psRing _ _ _ _ _ (show (fun j=>Bl (1 / 2) j+Bl (1 / 2) j)=Aj 1 by rw [<- Bf,<- BG]; congr 1; decide +kernel) rfl BG
 ·rw [Fj,DE,AR,AR,I6,L4];refine DQ (a:=1) (b:=0) (c:=0) (a':=0) (b':=0 - 1 / 3) (c':=0) (fin_cf [e,1]) (cast_ne (d_n.2 n hn)) ?_;unfold Gr;rw [Da,CA];exact @aog NR psRing _ _ _ _ _ (show (fun j=>(fun j=>Bl (1 / 3) j+Bl (1 / 3) j) j+Bl (1 / 3) j)=Aj 1 by rw [<- Bf,<- Bf,<- BG]; congr 1; decide +kernel) rfl BG
theorem QA (zs:List (LR×Nat)):(∀ z∈zs,z.2<=1/\Al (cf z.1) (Ac (cf z.1)))->(zs.Pairwise fun x y=>Al (cf x.1) (cf y.1))->Al (Ad zs) (Ac (Ad zs)):=by
 refine BL (p:=fun zs=>(∀ z∈zs,z.2<=1/\Al (cf z.1) (Ac (cf z.1)))->(zs.Pairwise fun x y=>Al (cf x.1) (cf y.1))->Al (Ad zs) (Ac (Ad zs))) (fun _ _=>by rw [EK]; exact Ao Cm) (fun zs z ih h pw=>?_) zs;refine AI (List.pairwise_append.mp pw) fun p1 p2 p3=>?_;have h1:=ih (fun y hy=>h y (List.mem_append_left _ hy)) p1;obtain ⟨h2,h3⟩:=h z (List.mem_append_right _ (.head _));rw [AB]
 by_cases q:z.2=0
 ·rw [q,JM,Bx]; exact h1
 ·rw [show z.2=1 by exact amd h2 q,Cr];exact LT (fin_prod _) (fin_cf _) h1 h3 (Ao (BZ (fin_cf _) _ fun y hy=>Ao (p3 y hy z (.head _))))
theorem I7 {p g G:NR} {a n e kG:Nat} (kp:RC a p) (hn:n<=18) (bp:Bd n p) (re:∀ i,RS e (p i)) (fg:Ab g) (dG:Dg kG G) (G1:G kG=1) (h:p=cvn g G):RC (a+11*n+e) g:=by
 rcases dg_of fg with z | ⟨k,dk⟩
 ·rw [z]; exact RC.none (by have:=Gf kp; exact ame this)
 ·have d:=dk.mul dG;have hk:k+kG<n:=Classical.byContradiction fun q=>by
   have:=bp (k+kG) (amf q);rw [h] at this;exact d.1 this
  have r:=KO kp hn bp dk.1 dk.2 dG.1 dG.2 (fun j=>congrFun h j) (amg hk);have hl:RS e (g k):=by
   have:=re (k+kG);rw [h,Bu dk.2 dG.2,G1,Rat.mul_one] at this;exact this
  refine (r.scale hl).cong fun i=>?_;rw [Rat.mul_assoc,Rat.div_mul_cancel dk.1,Rat.mul_one]
section
variable {R:Type} [Lean.Grind.CommRing R]
theorem aoh {p P r pr h l G:R} (e1:p=P*r+pr) (e2:p=h*G) (e3:r=l*G):pr=(h - P*l)*G:=by grind
theorem aoi {h P l:R}:h=P*l+(h - P*l):=by grind
theorem aoj {r s a c:R}:r*a*(s*c)=r*s*(a*c):=by grind
theorem aok {h l dh dl x:R}:(dh+dl*x)*l - (h+l*x)*dl=dh*l - h*dl:=by grind
end
theorem QR.eqs {p q h l:LR} (O:QR p q h l) (mq:Mon q):∃ G,Mon G/\cf p=cvn (cf h) (cf G)/\cf q=cvn (cf l) (cf G):=by
 refine MH O fun _ _ _ _ _ q221_=>xq1_3 q221_ fun G mG e1 e2=>?_;rw [mq.m] at e1 e2;exact ⟨G,mG,funext fun j=>by rw [e1 j,Rat.one_mul],funext fun j=>by rw [e2 j,Rat.one_mul]⟩
theorem L5 {w l:NR} {k β:Nat} (dw:Dg k w) (hk:k<=17) (kw:RC β w) (d:Df l w):SzD l (β+11*(k+1)):=fun g j dg g1 dd=>GO dw hk kw dg g1 (df_trans dd d)
theorem SzD.mono {w:NR} {a b:Nat} (h:SzD w a) (hab:a<=b):SzD w b:=fun g k dg g1 d=>(h g k dg g1 d).mono hab
theorem Lg {r P pr p1 h l:LR} (mr:Mon r) (kr:RC 74 (cf r)) (lr:r.length<=6) (lP:P.length<=4) (kP:RC 62 (cf P)) (kpr:RC 101 (cf pr)) (rpr:∀ i,RS 20 (cf pr i)) (lpr:pr.length<=r.length - 1) (ep:∀ j,cf p1 j=cvn (cf P) (cf r) j+cf pr j) (O:QR p1 r h l) :
  ∃ y,(cf h=fun j=>cvn (cf P) (cf l) j+y j)/\Bd (l.length - 1) y/\RC 180 y/\SzD (cf l) 140/\RC 140 (cf l)/\RC 388 (cf h)/\l.length<=6/\h.length<=9/\Df (cf l) (cf r):=by
 refine xq1_3 (O.eqs mr) fun G mG e1 e2=>?_;have ml:=O.2.1;have hr1:=mr.pos;have hl1:=ml.pos;have hdeg:=mr.dg.uniq (e2 ▸ ml.dg.mul mG.dg);have k:=@aoh NR psRing (cf p1) (cf P) (cf r) (cf pr) (cf h) (cf l) (cf G) (funext ep) e1 e2;have fy:Ab (fun j=>cf h j - cvn (cf P) (cf l) j):=fin_sub (fin_cf h) (fin_cvn (fin_cf P) (fin_cf l));have bpr:Bd (r.length - 1) (cf pr):=(AQ pr).mono lpr;have by':Bd (l.length - 1) (fun j=>cf h j - cvn (cf P) (cf l) j):=Gl mG.dg fy (by
  have:=bpr;rw [k,hdeg] at this;exact this)
 have ky:RC 180 (fun j=>cf h j - cvn (cf P) (cf l) j):=(I7 (n:=5) kpr (amh) (bpr.mono (Px lr)) rpr fy mG.dg mG.m k).mono (by decide);have dl:Df (cf l) (cf r):=⟨cf G,fin_cf G,e2.trans (funext (Af _ _))⟩;have sz:SzD (cf l) 140:=(L5 mr.dg (ami lr) kr dl).mono (amj lr);have kl:=sz _ _ ml.dg ml.m (BB _);have eh:cf h=fun j=>cvn (cf P) (cf l) j+(fun j=>cf h j - cvn (cf P) (cf l) j) j:=@aoi NR psRing (cf h) (cf P) (cf l);have bP:=AQ P;have l6:l.length<=6:=amk hdeg lr;refine ⟨_,eh,by',ky,sz,kl,?_,l6,Ay O.1 fun j hj=>?_,dl⟩
 ·rw [eh]; exact ((Be kP kl bP (Pz lP)).add ky).mono (by decide)
 ·have b:=B9 (Bc (bP.mono lP) ml.dg (show 4+(l.length - 1)<=9 by exact aml l6)) (by'.mono (show l.length - 1<=9 by exact amm l6));rw [eh];exact b j hj
theorem OL {b pr u v:LR} (mb:Mon b) (kb:RC 63 (cf b)) (lb:b.length<=5) (sb:Al (cf b) (Ac (cf b))) (kpr:RC 81 (cf pr)) (rpr:∀ i,RS 20 (cf pr i)) (lpr:pr.length<=b.length - 1) (O:QR pr b u v) :
  Bd (v.length - 1) (cf u)/\RC 160 (cf u)/\SzD (cf v) 120/\RC 120 (cf v)/\Al (cf v) (Ac (cf v))/\v.length<=5/\u.length<=4/\Df (cf v) (cf b):=by
 refine xq1_3 (O.eqs mb) fun G mG e1 e2=>?_;have mv:=O.2.1;have hb1:=mb.pos;have hv1:=mv.pos;have hdeg:=mb.dg.uniq (e2 ▸ mv.dg.mul mG.dg);have bpr:Bd (b.length - 1) (cf pr):=(AQ pr).mono lpr;have bu:Bd (v.length - 1) (cf u):=Gl mG.dg (fin_cf u) (by
  have:=bpr;rw [e1,hdeg] at this;exact this)
 have ku:RC 160 (cf u):=(I7 (n:=4) kpr (amn) (bpr.mono (U9 lb)) rpr (fin_cf u) mG.dg mG.m e1).mono (by decide);have e3:cf b=cvn (cf G) (cf v):=e2.trans (funext (Af _ _));have dv:Df (cf v) (cf b):=⟨cf G,fin_cf G,e3⟩;have sz:SzD (cf v) 120:=(L5 mb.dg (amo lb) kb dv).mono (amp lb);exact ⟨bu,ku,sz,sz _ _ mv.dg mv.m (BB _),(IS (fin_cf v) (fin_cf G) sb e3).2,amq hdeg lb,Ay O.1 (bu.mono (amr hdeg lb)),dv⟩
theorem L6 {a b c d:NR} (h:Df a b) (k:Df c d):Df (cvn a c) (cvn b d):=by
 refine xq1_2 h fun r fr er=>?_;refine xq1_2 k fun s fs es=>?_;exact ⟨cvn r s,fin_cvn fr fs,by rw [er,es]; exact @aoj NR psRing _ _ _ _⟩
theorem QB {r P h l b u v w t s tp bt q0 q1:LR} {y:NR} {x:Rat} (mr:Mon r) (kr:RC 74 (cf r)) (lr:r.length<=6) (lP:P.length<=4) (P0:cf P 0=0) (kP:RC 62 (cf P)) (eh:cf h=fun j=>cvn (cf P) (cf l) j+y j) (by':Bd (l.length - 1) y) (ky:RC 180 y) (szl:SzD (cf l) 140) (kl:RC 140 (cf l)) (kh:RC 388 (cf h)) (ll:l.length<=6) (lh:h.length<=9) (dl:Df (cf l) (cf r)) (r1:EU h l)
  (mb:Mon b) (kb:RC 63 (cf b)) (lb:b.length<=5) (bu:Bd (v.length - 1) (cf u)) (ku:RC 160 (cf u)) (szv:SzD (cf v) 120) (kv:RC 120 (cf v)) (sv:Al (cf v) (Ac (cf v))) (lv:v.length<=5) (lu:u.length<=4) (dv:Df (cf v) (cf b)) (r2:EU u v)
  (ew:∀ j,cf w j=cf h j+cf l j*x) (et:∀ j,cf t j=cvn (Ac (cf w)) (cf l) j - cvn (cf w) (Ac (cf l)) j) (es:∀ j,cf s j=cvn (cf l) (cf l) j) (etp:∀ j,cf tp j=cvn (cf t) (cf v) j+cvn (cf u) (cf s) j) (mbt:Mon bt) (ebt:∀ j,cf bt j=cvn (cf s) (cf v) j) (O:QR tp bt q0 q1) :
  GrH h l u v q0 q1 P y/\RC 3600 (cf q0)/\RC 470 (cf q1)/\q0.length<=17/\q1.length<=15:=by
 have ml:=r1.2.1;have mv:=r2.2.1;have hl1:=ml.pos;have hv1:=mv.pos;have hr1:=mr.pos;have hb1:=mb.pos;have edw:Ac (cf w)=fun j=>Ac (cf h) j+Ac (cf l) j*x:=by
  rw [show cf w=fun j=>cf h j+cf l j*x from funext ew,DE];funext j;show _+((j+1:Nat):Rat)*(cf l (j+1)*x)=_+((j+1:Nat):Rat)*cf l (j+1)*x;rw [Rat.mul_assoc]
 have ett:cf t=fun j=>cvn (Ac (cf h)) (cf l) j - cvn (cf h) (Ac (cf l)) j:=by
  rw [show cf t=_ from funext et,edw,show cf w=fun j=>cf h j+cf l j*x from funext ew];have q1:(fun j=>Ac (cf h) j+Ac (cf l) j*x)=fun j=>Ac (cf h) j+cvn (Ac (cf l)) (Bl x) j:=funext fun j=>by rw [Af,show cvn (Bl x) (Ac (cf l))=_ from Cy x _,Rat.mul_comm]
  have q2:(fun j=>cf h j+cf l j*x)=fun j=>cf h j+cvn (cf l) (Bl x) j:=funext fun j=>by rw [Af (cf l),show cvn (Bl x) (cf l)=_ from Cy x _,Rat.mul_comm]
  rw [q1,q2];exact @aok NR psRing (cf h) (cf l) (Ac (cf h)) (Ac (cf l)) (Bl x)
 have ess:cf s=cvn (cf l) (cf l):=funext es;have eN:cf tp=Dn (cf h) (cf l) (cf u) (cf v):=by
  rw [show cf tp=_ from funext etp,ett,ess]; rfl
 have eB:cf bt=cvn (cvn (cf l) (cf l)) (cf v):=by rw [show cf bt=_ from funext ebt,ess]
 have cr:=O.cross mbt;rw [eN,eB] at cr;refine xq1_3 (O.eqs mbt) fun G mG e1 e2=>?_;have bh:=AQ h;have b1:Bd 13 (fun j=>cvn (Ac (cf h)) (cf l) j - cvn (cf h) (Ac (cf l)) j):=CN (Bc (BX bh) ml.dg (ams ll lh)) (Dp bh (BX ml.dg.2) (amt ll lh));have bT:Bd 17 (cf tp):=by
  rw [show cf tp=_ from funext etp,ett,ess];exact B9 (Bc b1 mv.dg (VJ lv)) (Bc bu (ml.dg.mul ml.dg) (amu lv ll))
 have kd:=Ec kh bh (VK lh);have kdl:=Ec kl (AQ l) (PD ll);have kT:RC 1654 (cf tp):=by
  rw [show cf tp=_ from funext etp,ett,ess];exact ((Be (Gm (Be kd kl (BX bh) (VL lh)) (Be kh kdl bh (VM lh))) kv b1 (amv)).add (Be ku (Be kl kl (AQ l) (PG ll)) bu (amw lv))).mono (by decide)
 have k0:RC 3600 (cf q0):=(I7 (n:=17) kT (PF) bT (fun i=>kT.rs i) (fin_cf q0) mG.dg mG.m e1).mono (by decide);have mq:=O.2.1;have hd:=mbt.dg.uniq (eB ▸ (ml.dg.mul ml.dg).mul mv.dg);have l1:q1.length<=15:=by
  have h1:=O.2.2.2.2.1;have h2:=mbt.pos;exact amx hd h1 ll lv
 have dq:Df (cf q1) (cvn (cvn (cf r) (cf r)) (cf b)):=df_trans ⟨cf G,fin_cf G,e2.trans (funext (Af _ _))⟩ (by rw [eB]; exact L6 (L6 dl dl) dv);have kR:RC 221 (cvn (cvn (cf r) (cf r)) (cf b)):=(Be (Be kr kr (AQ r) (PG lr)) kb ((mr.dg.mul mr.dg).2.mono (show r.length - 1+(r.length - 1)+1<=16 by exact amy lr)) (amz)).mono (by decide);have k1:RC 470 (cf q1):=(GO ((mr.dg.mul mr.dg).mul mb.dg) (o972 lb lr) kR mq.dg mq.m dq).mono (o973 lb lr);refine ⟨⟨ml,mv,mq,r1.2.2,r2.2.2,sv,O.2.2.1,?_,eh,by',bu,lP,P0,ll,lv,szl,szv,kP,ky,ku⟩,k0,k1,?_,l1⟩
 ·rw [<- cr.symm];exact funext (Af _ _)
 ·refine Ay O.1 fun j hj=>?_;have fq:=Gl mG.dg (fin_cf q0) (n:=17) (by
   have:=bT;rw [e1] at this;exact this.mono (amA))
  exact fq j hj
noncomputable def DF:List S:=[
  .assign 2 (.call "_law_stream" [.var 0,.bin .Add (.cint 3) (.var 1)]),
  .assign 3 (.bin .Add (.cint 1) (.bin .Mod (.idx (.var 2) (.cint 2)) (.cint 3))),
  .assign 4 (.lst []),
  .fors [5] true .range [.var 1] [.assign 6 (.call "_law_fraction" [.bin .Add (.bin .Sub (.bin .Mod (.idx (.var 2) (.cint 0)) (.cint 25)) (.cint 12)) (.bin .Mult (.bin .Mult (.bin .Add (.cint 1) (.bin .Mod (.idx (.var 2) (.cint 1)) (.cint 5))) (.var 5)) (.var 3)),.var 3]),.ifs (.cmp .Eq (.bin .Mod (.idx (.var 2) (.bin .Add (.cint 3) (.var 5))) (.cint 3)) (.cint 0)) [.assign 7 (.idx (.lst [.cint 1,.cint 2,.cint 3,.cint 4,.cint 5,.cint 7,.neg (.cint 2),.neg (.cint 3),.neg (.cint 5),.neg (.cint 6),.neg (.cint 7),.neg (.cint 10)]) (.bin .Mod (.bin .FloorDiv (.idx (.var 2) (.bin .Add (.cint 3) (.var 5))) (.cint 3)) (.cint 12))),.assign 8 (.call "_law_sum" [.call "_law_product" [.var 6,.var 6],.tup [.var 7,.cint 1]]),.expr (.append (.var 4) (.tup [.var 8,.call "_law_product" [.tup [.cint 2,.cint 1],.var 6],.tup [.cint 1,.cint 1]]))] [.ifs (.cmp .Eq (.bin .Mod (.idx (.var 2) (.bin .Add (.cint 3) (.var 5))) (.cint 9)) (.cint 1)) [.assign 9 (.call "_law_product" [.var 6,.var 6]),.assign 8 (.call "_law_sum" [.call "_law_product" [.var 9,.var 6],.tup [.bin .Add (.cint 2) (.bin .Mod (.bin .FloorDiv (.idx (.var 2) (.bin .Add (.cint 3) (.var 5))) (.cint 9)) (.cint 6)),.cint 1]]),.expr (.append (.var 4) (.tup [.var 8,.call "_law_product" [.tup [.cint 3,.cint 1],.var 9],.call "_law_product" [.tup [.cint 3,.cint 1],.var 6],.tup [.cint 1,.cint 1]]))] [.expr (.append (.var 4) (.tup [.var 6,.tup [.cint 1,.cint 1]]))]]],
  .ret (.comp (.call "_law_trim" [.var 100]) [(100,"_law_row")] .plain [.var 4])]
theorem GS {B:Nat} {p:LR} (d:Int) (hd:d≠0) (hB:d.natAbs<2 ^ B) (h:∀ x∈p,∃ z:Int,z.natAbs<2 ^ B/\x*(d:Rat)=(z:Rat)):RC B (cf p):=by
 have all:∀ i,∃ z:Int,z.natAbs<2 ^ B/\cf p i*(d:Rat)=(z:Rat):=fun i=>by
  by_cases z:i<p.length
  ·rw [DI z]; exact h _ (List.getElem_mem _)
  ·exact ⟨0,Nat.pow_pos (by decide),by rw [An (by exact CG z),Rat.zero_mul]; rfl⟩
 exact ⟨d,fun i=>(all i).choose,hd,hB,fun i=>(all i).choose_spec.1,fun i=>(all i).choose_spec.2⟩
theorem L7 {k:Nat}:∀ (p:LR),(∀ x∈p,RS k x)->∃ d:Int,d≠0/\d.natAbs<2 ^ (k*p.length+1)/\∀ x∈p,∃ z:Int,z.natAbs<2 ^ (k*p.length+1)/\x*(d:Rat)=(z:Rat)
 | [],h=>⟨1,by decide,by show 1<2 ^ (k*0+1); rw [Nat.mul_zero]; decide,fun x hx=>by cases hx⟩
 | y :: p,h=>by
  refine xq1_3 (L7 p fun x hx=>h x (.tail _ hx)) fun d h1 h2 h3=>?_;have hy:=h y (.head _);have e:y*((y.den:Int):Rat)=((y.num:Int):Rat):=by
   have h:=Rat.num_divInt_den y;rw [Rat.divInt_eq_div] at h;have k:=Rat.div_mul_cancel (a:=((y.num:Int):Rat)) (cast_ne (Bk y));rw [h] at k;exact k
  have eB:k*(y :: p).length+1=k*p.length+1+k:=by rw [List.length_cons,Nat.mul_add,Nat.mul_one]; exact amB
  rw [eB];refine ⟨d*y.den,Int.mul_ne_zero h1 (Bk y),pow_mul h2 (Bn hy),fun x hx=>?_⟩;rcases List.mem_cons.mp hx with rfl | hx
  ·refine ⟨d*x.num,pow_mul h2 hy.1,?_⟩;rw [Rat.intCast_mul,Rat.intCast_mul,<- e]; grind
  ·refine xq1_2 (h3 x hx) fun z hz ez=>?_;refine ⟨z*y.den,pow_mul hz (Bn hy),?_⟩;rw [Rat.intCast_mul,Rat.intCast_mul,<- ez]; grind
theorem abT {k B:Nat} {p:LR} (h:Cb k p) (hB:k*p.length+1<=B):RC B (cf p):=by
 obtain ⟨d,h1,h2,h3⟩:=L7 (k:=k) p fun x hx=>by
  obtain ⟨i,hi⟩:=List.getElem?_of_mem hx;have e:cf p i=x:=by unfold cf; rw [hi]; rfl
  exact e ▸ h i
 exact (GS d h1 h2 h3).mono hB
theorem Co {a:Int} {m:Nat} (hm:0<m):∃ i:Nat,i<m/\a.fmod (m:Int)=(i:Int):=by
 have e:a.fmod (m:Int)=a % (m:Int):=Int.fmod_eq_emod_of_nonneg a (EL);have h1:=Int.emod_nonneg a (show (m:Int)≠0 by exact amC hm);have h2:=Int.emod_lt_of_pos a (show 0<(m:Int) by exact NB hm);exact ⟨(a % (m:Int)).toNat,amD h1 h2,by rw [e]; exact amE h1⟩
theorem AS {l:List Int} {i:Nat} (h:i<l.length):BH (l.map D.int) (i:Int)=some (.int l[i]):=by
 unfold BH;rw [if_pos (by exact EL),Int.toNat_natCast,List.getElem?_map,List.getElem?_eq_getElem h]; rfl
noncomputable def CJ (f:LR):Prop:=f≠[]/\Rw f/\f.length<=4/\(2<=f.length/\cf f (f.length - 1)=1)/\RC (6*(f.length - 1)) (cf f)
theorem L8 {z d:Int} (hd:d≠0):Rat.divInt z d*(d:Rat)=(z:Rat):=by
 rw [Rat.divInt_eq_div]; exact Rat.div_mul_cancel (cast_ne hd)
theorem aol {e:Rat} {z d:Int} (hz:z.natAbs<=60) (h1:1<=d) (h2:d<=3) (he:e*(d:Rat)=(z:Rat)):CJ [e,1]:=by
 refine ⟨by simp,.inr (by show (1:Rat)≠0; decide),by simp,⟨by simp,rfl⟩,(show RC 6 _ from GS d (Ip h1) (VN h1 h2) fun x hx=>?_)⟩;simp only [List.mem_cons,List.not_mem_nil,or_false] at hx;rcases hx with rfl | rfl
 ·exact ⟨z,amF hz,he⟩
 ·exact ⟨d,VN h1 h2,Rat.one_mul _⟩
theorem aom {e:Rat} {z d n:Int} (hz:z.natAbs<=60) (h1:1<=d) (h2:d<=3) (hn:n.natAbs<=10) (he:e*(d:Rat)=(z:Rat)):CJ [e*e+(n:Rat),((2:Int):Rat)*e,1]:=by
 have d1:d.natAbs<=3:=VO h1 h2;have m1:=BJ hz hz;have m2:=BJ d1 d1;have m3:=BJ hn m2;have m4:=BJ hz d1;refine ⟨by simp,.inr (by show (1:Rat)≠0; decide),by simp,⟨by simp,rfl⟩,(show RC 12 _ from GS (d*d) (Int.mul_ne_zero (Ip h1) (Ip h1)) (VQ m2) fun x hx=>?_)⟩;simp only [List.mem_cons,List.not_mem_nil,or_false] at hx;rcases hx with rfl | rfl | rfl
 ·refine ⟨z*z+n*(d*d),amG m3 m1,?_⟩;rw [Rat.intCast_add,Rat.intCast_mul,Rat.intCast_mul,Rat.intCast_mul,<- he]; grind
 ·refine ⟨2*(z*d),amH m4,?_⟩;rw [Rat.intCast_mul,Rat.intCast_mul,Rat.intCast_mul,<- he]; grind
 ·exact ⟨d*d,VQ m2,Rat.one_mul _⟩
theorem aon {e:Rat} {z d n:Int} (hz:z.natAbs<=60) (h1:1<=d) (h2:d<=3) (hn:n.natAbs<=10) (he:e*(d:Rat)=(z:Rat)):CJ [e*e*e+(n:Rat),((3:Int):Rat)*(e*e),((3:Int):Rat)*e,1]:=by
 have d1:d.natAbs<=3:=VO h1 h2;have m1:=BJ (BJ hz hz) hz;have m2:=BJ (BJ d1 d1) d1;have m3:=BJ hn m2;have m4:=BJ (BJ hz hz) d1;have m5:=BJ (BJ hz d1) d1;refine ⟨by simp,.inr (by show (1:Rat)≠0; decide),by simp,⟨by simp,rfl⟩,(show RC 18 _ from GS (d*d*d) (Int.mul_ne_zero (Int.mul_ne_zero (Ip h1) (Ip h1)) (Ip h1)) (VR m2) fun x hx=>?_)⟩;simp only [List.mem_cons,List.not_mem_nil,or_false] at hx;rcases hx with rfl | rfl | rfl | rfl
 ·refine ⟨z*z*z+n*(d*d*d),amI m3 m1,?_⟩;rw [Rat.intCast_add,Rat.intCast_mul,Rat.intCast_mul,Rat.intCast_mul,Rat.intCast_mul,Rat.intCast_mul,<- he]; grind
 ·refine ⟨3*(z*z*d),amJ m4,?_⟩;rw [Rat.intCast_mul,Rat.intCast_mul,Rat.intCast_mul,Rat.intCast_mul,Rat.intCast_mul,<- he]; grind
 ·refine ⟨3*(z*d*d),amK m5,?_⟩;rw [Rat.intCast_mul,Rat.intCast_mul,Rat.intCast_mul,Rat.intCast_mul,Rat.intCast_mul,<- he]; grind
 ·exact ⟨d*d*d,VR m2,Rat.one_mul _⟩
theorem Xw {u:Nat} (h:u<6):2+(u:Int)∈ns6:=by
 have:∀ v:Fin 6,2+(v.val:Int)∈ns6:=by decide
 exact this ⟨u,h⟩
theorem SZ:∀ n∈ns12,n.natAbs<=10:=by decide
section
variable {c:Cx} (CO:CxOK c)
include CO
theorem QC (hf:FnK c "_law_trim" 1 Cl) {p:LR} (hp:p≠[]) (hw:Rw p) (lp:p.length<=100) {m:Nat} (hm:1<=m) {sto:Sto} {Q:D->Sto->Prop} (h:Q (rowD p) sto):Ah c m "_law_trim" [rowD p] sto Q:=by
 obtain ⟨n,rfl⟩:∃ n,m=n+1:=⟨m - 1,EM hm⟩;have h0:cf p (p.length - 1)≠0:=hw.resolve_left hp;refine fn_call CO hf rfl ?_;unfold Cl;walk_at "m";refine Dx (fun σ=>σ.loc 0=some (rowD p)) (fun _=>0) rfl ?_;intro σ g0;walk_at "m";refine f_lenR (o284 lp) ?_;have hl:1<=p.length:=List.length_pos_iff.mpr hp;walk_at "m";refine Dj (fun hb=>?_) fun hb=>?_
 ·have:p.length=0:=by simpa using hb
  omega
 walk_at "m";refine EF (by exact Mine.mlim (o284 lp)) (CX hp) ?_;walk_at "m";refine Dj (fun hb=>?_) fun hb=>?_
 ·refine if_b (fun z=>by rw [hb] at z; cases z) fun _=>?_;walk_at "m";refine Wn ?_;walk_at "m";exact ret_plain h
 ·exact absurd (Rat.num_eq_zero.mp (beq_iff_eq.mp hb)) h0
noncomputable def FacG (fs:List LR):Prop:=∃ (a:Rat) (c:Int),1<=c/\c<=5/\∀ (i:Nat) (f:LR),fs[i]?=some f->CJ f/\I4 (a+((c*(i:Int):Int):Rat)) f
noncomputable def OM (c:Cx):Prop:=AD c "_law_factors"/\∀ (x:Int) (many:Nat) {m:Nat} {sto:Sto} {Q:D->Sto->Prop},5<=m->many<=3->(∀ (fs:List LR) (l:Addr),fs.length=many->FacG fs->sto l=none->Q (.lst l) (Sto.put sto l (.list true (fs.map rowD))))->Ah c m "_law_factors" [.int x,.int many] sto Q
theorem Np (hst:FnK c "_law_stream" 2 BP) (hfr:IH c 2 "_law_fraction") (hsu:GH c 3 "_law_sum") (hpr:DM c 3 "_law_product") (htr:FnK c "_law_trim" 1 Cl) (hf:FnK c "_law_factors" 2 DF):OM c:=by
 refine ⟨hf.isFn,fun x many {m sto Q} hm hmany h=>?_⟩;obtain ⟨n,rfl⟩:∃ n,m=n+4:=⟨m - 4,amL hm⟩;refine fn_call CO hf rfl ?_;unfold DF;walk_at "m";rw [show (3:Int)+(many:Int)=((3+many:Nat):Int) by exact amM];refine DJ CO hst (by exact amN hmany) fun xs l hxl hxs hl=>?_;have hx:∀ (i:Nat),i<3+many->∃ y:Int,BH (xs.map D.int) (i:Int)=some (.int y):=fun i hi=>⟨_,AS (amO hxl hi)⟩;obtain ⟨y0,hy0⟩:=hx 0 (amP);obtain ⟨y1,hy1⟩:=hx 1 (amQ);obtain ⟨y2,hy2⟩:=hx 2 (amR);have hlx:(xs.map D.int).length<=lim:=by exact Mine.mlim (amS hxl hmany)
 walk_at "m";refine i_lst put_same hlx hy2 ?_;walk_at "m";refine xq1_2 (Co (a:=y2) (m:=3) (VS)) fun d0 hd0 ed0=>?_;rw [show y2.fmod 3=(d0:Int) from ed0];walk_at "m";refine ⟨zq rfl,fun lr hlr=>?_⟩;have hne:l≠lr:=fun z=>by
  subst z;have h4:Sto.put (Sto.ro sto) l (.list true (xs.map D.int)) l=none:=hlr;rw [put_same] at h4; cases h4
 walk_at "m";refine ⟨by simp [smallI]; exact o999 hmany,_,rfl,?_⟩;obtain ⟨d,hd⟩:∃ d:Int,d=1+(d0:Int):=⟨_,rfl⟩;have d1:1<=d:=XG hd;have d3:d<=3:=XH hd hd0;rw [<- hd];refine xq1_2 (Co (a:=y0) (m:=25) (XI)) fun z0 hz0 ez0=>?_;refine xq1_2 (Co (a:=y1) (m:=5) (XJ)) fun z1 hz1 ez1=>?_;obtain ⟨a0,ha0⟩:∃ a0:Rat,a0*(d:Rat)=(((z0:Int) - 12:Int):Rat):=⟨_,L8 (Hx hd)⟩;refine AM (fun k σ=>∃ fs:List LR,fs.length=k/\(∀ (i:Nat) (f:LR),fs[i]?=some f->CJ f/\I4 (a0+(((1+(z1:Int))*(i:Int):Int):Rat)) f)/\σ.loc 2=some (.lst l)/\σ.loc 3=some (.int d)/\σ.loc 4=some (.lst lr)/\σ.sto l=some (.list true (xs.map D.int))/\σ.sto lr=some (.list true (fs.map rowD))) (fun _ _=>False) _ 0 _ ?_ (fun _ _ _=>trivial) ?_ (fun _ _ z=>z.elim) ?_
 ·refine ⟨[],rfl,(fun i f hf=>by cases hf),rfl,rfl,rfl,?_,put_same⟩;exact (put_ne hne).trans put_same
 ·intro i dd σ K hd' q222_ hn hr; refine xq1_7 q222_ fun fs hfl hfs g2 g3 g4 s1 s2=>?_; clear q222_;obtain ⟨hi,hdd⟩:=Bh hd';rw [Int.zero_add] at hdd;subst hdd;rw [Nat.zero_add] at hfl hn;have hi:i<many:=Eh hi;have fsl:(fs.map rowD).length<=lim:=by exact Mine.mlim (XK hfl hmany hi)
  obtain ⟨yi,hyi⟩:=hx (3+i) (XM hi);have hyi':BH (xs.map D.int) ((3:Int)+(i:Int))=some (.int yi):=by rw [<- hyi]; congr 1
  have b1:(1+(z1:Int)).natAbs<=5:=XN hz1;have b2:(i:Int).natAbs<=3:=XO hmany hi;have b3:d.natAbs<=3:=XQ hd hd0;have b4:=BJ b1 b2;have b5:=BJ b4 b3;walk_at "m";refine i_lst s1 hlx hy0 ?_;walk_at "m";rw [show y0.fmod 25=(z0:Int) from ez0];walk_at "m";refine i_lst s1 hlx hy1 ?_;walk_at "m";rw [show y1.fmod 5=(z1:Int) from ez1];walk_at "m";refine BS (CL (k:=10) (XR b1) (XS b2) (Ft)) ?_;walk_at "m";refine BS (CL (k:=10) (XT b4) (QN b3) (Ft)) ?_;walk_at "m";refine hfr.2 _ _ (XU) (Hx hd) ?_;obtain ⟨z,hz⟩:∃ z:Int,z=(z0:Int) - 12+(1+(z1:Int))*(i:Int)*d:=⟨_,rfl⟩;rw [<- hz];have zb:z.natAbs<=60:=XV hz b5 hz0;have re:RS 10 (Rat.divInt z d):=EH (Hx hd) (XW zb) (QN b3);have ee:Rat.divInt z d*(d:Rat)=(z:Rat):=L8 (Hx hd);generalize Rat.divInt z d=e at re ee ⊢;have dn:(d:Rat)≠0:=cast_ne (Hx hd);have ea:e=a0+(((1+(z1:Int))*(i:Int):Int):Rat):=by
   have h1:(a0+(((1+(z1:Int))*(i:Int):Int):Rat))*(d:Rat)=e*(d:Rat):=by
    rw [Rat.add_mul,ha0,ee,hz,<- Rat.intCast_mul,<- Rat.intCast_add]
   have h2:∀ x:Rat,x*(d:Rat)*(1 / (d:Rat))=x:=fun x=>by
    rw [Rat.mul_assoc,Rat.mul_comm (d:Rat),Rat.div_mul_cancel dn,Rat.mul_one]
   rw [<- h2 e,<- h1,h2]
  have r2:RS 20 (e*e):=C2 re re;have app:∀ (σ':St) (f:LR),CJ f->I4 e f->σ'.loc 2=some (.lst l)->σ'.loc 3=some (.int d)->σ'.loc 4=some (.lst lr)->σ'.sto l=some (.list true (xs.map D.int))->σ'.sto lr=some (.list true (fs.map rowD))->K .next (σ'.put lr (.list true (fs.map rowD ++ [rowD f]))):=fun σ' f hf hs k2 k3 k4 t1 t2=>by
   refine hn _ ⟨fs ++ [f],by simp [hfl],fun k f' hf'=>?_,k2,k3,k4,(put_ne hne).trans t1,?_⟩
   ·by_cases hk:k<fs.length
    ·rw [List.getElem?_append_left hk] at hf';exact hfs k f' hf'
    ·rw [List.getElem?_append_right (by exact CG hk)] at hf';have q:k - fs.length<1:=(List.getElem?_eq_some_iff.mp hf').1;rw [show k - fs.length=0 by exact Pt q] at hf';cases hf';rw [show k=i by exact XX hfl hk q,<- ea];exact ⟨hf,hs⟩
   ·rw [List.map_append]; exact put_same
  walk_at "m";refine i_lst s1 hlx hyi' ?_;walk_at "m";refine if_b (fun _=>?_) fun _=>?_
  ·walk_at "m";refine ⟨zq rfl,fun l7 hl7=>?_⟩;walk_at "m";refine i_lst (put_old hl7 s1) hlx hyi' ?_;walk_at "m";refine xq1_2 (Co (a:=yi.fdiv 3) (m:=12) (XY)) fun u hu eu=>?_;rw [show (yi.fdiv 3).fmod 12=(u:Int) from eu];refine i_lst (o:=true) (ds:=ns12.map D.int) put_same (by simp [ns12,lim]) (AS hu) ?_;have hb:=SZ ns12[u] (List.getElem_mem _);have hw:ns12[u]∈ns12:=List.getElem_mem _;generalize ns12[u]=w at hb hw ⊢;have t1:=put_old (k:=Cell.list true (ns12.map D.int)) hl7 s1;have t2:=put_old (k:=Cell.list true (ns12.map D.int)) hl7 s2;walk_at "m";refine hpr.2 e e 10 10 (Ey) re re (JA) ?_;walk_at "m";rw [Ci];refine hsu.2 (e*e) (w:Rat) 20 10 (Ey) r2 (Dm (XZ hb) (Hy)) (QO) ?_;walk_at "m";refine ⟨⟨lr,_,rfl,t2⟩,?_⟩;walk_at "m";rw [Ci];refine hpr.2 ((2:Int):Rat) e 10 10 (Ey) (Dm (by decide) (Hy)) re (JA) ?_;walk_at "m";refine ap_lst t2 fsl ?_;walk_at "m";exact app _ _ (aom zb d1 d3 hb ee) (.inr (.inl ⟨w,hw,rfl⟩)) g2 g3 g4 t1 t2
  ·walk_at "m";refine i_lst s1 hlx hyi' ?_;walk_at "m";refine if_b (fun _=>?_) fun _=>?_
   ·walk_at "m";refine hpr.2 e e 10 10 (Ey) re re (JA) ?_;walk_at "m";refine hpr.2 (e*e) e 20 10 (Ey) r2 re (QO) ?_;walk_at "m";refine i_lst s1 hlx hyi' ?_;walk_at "m";refine xq1_2 (Co (a:=yi.fdiv 9) (m:=6) (X1)) fun u hu eu=>?_;rw [show (yi.fdiv 9).fmod 6=(u:Int) from eu];walk_at "m";rw [Ci];refine hsu.2 (e*e*e) (((2:Int)+(u:Int):Int):Rat) 30 10 (Ey) (C2 r2 re) (Dm (X2 hu) (Hy)) (X3) ?_;walk_at "m";refine ⟨⟨lr,_,rfl,s2⟩,?_⟩;walk_at "m";rw [Ci];refine hpr.2 ((3:Int):Rat) (e*e) 10 20 (Ey) (Dm (by decide) (Hy)) r2 (X4) ?_;walk_at "m";rw [Ci];refine hpr.2 ((3:Int):Rat) e 10 10 (Ey) (Dm (by decide) (Hy)) re (JA) ?_;walk_at "m";refine ap_lst s2 fsl ?_;walk_at "m";exact app _ _ (aon (n:=2+(u:Int)) zb d1 d3 (X5 hu) ee) (.inr (.inr ⟨2+(u:Int),Xw hu,rfl⟩)) g2 g3 g4 s1 s2
   ·walk_at "m";refine ⟨⟨lr,_,rfl,s2⟩,?_⟩;walk_at "m";refine ap_lst s2 fsl ?_;walk_at "m";exact app _ _ (aol zb d1 d3 ee) (.inl rfl) g2 g3 g4 s1 s2
 ·intro σ q223_; refine xq1_7 q223_ fun fs hfl hfs g2 g3 g4 s1 s2=>?_; clear q223_;rw [Nat.zero_add,Bg] at hfl;have hfl:fs.length=many:=by rw [hfl]; exact G6
  walk_at "m";refine ⟨_,_,s2,by exact Mine.mlim (by omega),by exact Mine.mlim (by omega),?_⟩;refine Cv rowD rowD fs [] (fun f hf K hK=>?_) fun l' hl'=>?_
  ·refine GJ ?_;walk_at "m";obtain ⟨k,hk⟩:=List.mem_iff_getElem?.mp hf;have F:=(hfs k f hk).1;exact QC CO htr F.1 F.2.1 (by have:=F.2.2.1; exact X6 this) (TS) ⟨trivial,hK⟩
  ·rw [List.nil_append];exact Ek put_same fun hb=>h fs l' hfl ⟨a0,_,X7,X8 hz1,hfs⟩ hb
end
theorem FacG.all {fs:List LR} (h:FacG fs):∀ f∈fs,CJ f:=fun f hf=>by
 revert h; refine JE fun a c _ _ h=>?_;obtain ⟨k,hk⟩:=List.mem_iff_getElem?.mp hf;exact (h k f hk).1
theorem Xx {c k:Int} (h1:1<=c) (h5:c<=5) (k1:1<=k) (k2:k<=2):c*k∈ds20:=by
 have a:∀ u:Fin 5,∀ v:Fin 2,(1+(u.val:Int))*(1+(v.val:Int))∈ds20:=by decide
 have:=a ⟨(c - 1).toNat,X9 h5⟩ ⟨(k - 1).toNat,Yb k2⟩;have e1:1+(((c - 1).toNat:Nat):Int)=c:=QP h1;have e2:1+(((k - 1).toNat:Nat):Int)=k:=QP k1;simp only [e1,e2] at this;exact this
theorem FacG.pw {fs:List LR} (h:FacG fs) (l:fs.length<=3):fs.Pairwise fun f g=>Al (cf f) (cf g):=by
 revert h; refine JE fun a c c1 c5 h=>?_;refine List.pairwise_iff_getElem.mpr fun i j hi hj hij=>?_;refine Qy (δ:=c*((j:Int) - (i:Int))) ?_ (Xx c1 c5 (Yc hij) (Yd l hj)) (h i _ (List.getElem?_eq_getElem hi)).2 (h j _ (List.getElem?_eq_getElem hj)).2;rw [Rat.add_assoc,<- Rat.intCast_add,<- Int.mul_add]
 congr 3
 exact Ye
theorem FacG.sqf {fs:List LR} (h:FacG fs):∀ f∈fs,Al (cf f) (Ac (cf f)):=fun f hf=>by
 revert h; refine JE fun a c _ _ h=>?_;obtain ⟨k,hk⟩:=List.mem_iff_getElem?.mp hf;exact Qz (h k f hk).2
noncomputable def Lh:E:=.idx (.lst [.cint 5,.cint 10]) (.blt .int [.bool .And [.cmp .Eq (.bin .Mod (.idx (.var 2) (.cint 0)) (.cint 16)) (.cint 0),.cmp .Eq (.blt .len [.var 1]) (.cint 1),.cmp .Eq (.blt .len [.idx (.var 1) (.cint 0)]) (.cint 2)]])
noncomputable def Li:E:=.idx (.lst [.cint 3,.cint 10]) (.blt .int [.cmp .Eq (.bin .Mod (.idx (.var 2) (.cint 0)) (.cint 8)) (.cint 0)])
noncomputable def DW:List S:=[
  .assign 2 (.call "_law_stream" [.var 0,.bin .Add (.blt .len [.var 1]) (.cint 1)]),
  .assign 3 Lh,
  .assign 4 (.lst []),
  .fors [5] true .range [.blt .len [.var 1]] [.assign 6 (.bin .Sub (.blt .len [.idx (.var 1) (.var 5)]) (.cint 1)),.assign 7 Li,.expr (.append (.var 4) (.blt .max [.cint 1,.blt .min [.bin .Add (.cint 1) (.bin .Mod (.idx (.var 2) (.bin .Add (.cint 1) (.var 5))) (.var 7)),.bin .FloorDiv (.var 3) (.var 6)]])),.assign 3 (.bin .Sub (.var 3) (.bin .Mult (.var 6) (.idx (.var 4) (.neg (.cint 1)))))],
  .ret (.var 4)]
noncomputable def RO (c:Cx):Prop:=AD c "_law_powers"/\∀ (x:Int) (fs:List LR) (a:Addr) (o:Bool) {m:Nat} {sto:Sto} {Q:D->Sto->Prop},3<=m->1<=fs.length->fs.length<=4->(∀ f∈fs,CJ f)->sto a=some (.list o (fs.map rowD))->(∀ (ks:List Nat) (l:Addr),ks.length=fs.length->(∀ k∈ks,1<=k/\k<=10)->sto l=none->Q (.lst l) (Sto.put sto l (.list true (ks.map fun (k:Nat)=>D.int (k:Int)))))->Ah c m "_law_powers" [.int x,.lst a] sto Q
theorem FS {fs:List LR} {i:Nat} {f:LR} (h:fs[i]?=some f):BH (fs.map rowD) (i:Int)=some (rowD f):=by
 unfold BH;rw [if_pos (by exact EL),Int.toNat_natCast,List.getElem?_map,h]; rfl
section
variable {c:Cx}
theorem S0 {n:Nat} {Q:D->St->Prop} {σ:St} {fs:List LR} {a l:Addr} {o o':Bool} {xs:List Int} (hxs:1<=xs.length) (lxs:xs.length<=100) (h1:1<=fs.length) (h4:fs.length<=4) (hF:∀ f∈fs,CJ f) (g1:σ.loc 1=some (.lst a)) (g2:σ.loc 2=some (.lst l)) (s1:σ.sto a=some (.list o (fs.map rowD))) (s2:σ.sto l=some (.list o' (xs.map D.int)))
  (h:∀ (R:Nat) (b:Addr),(R=5\/(R=10/\fs.length=1))->σ.sto b=none->Q (.int R) (σ.put b (.list true [.int 5,.int 10]))):wE c n Lh Q σ:=by
 unfold Lh;have hlx:(xs.map D.int).length<=lim:=by exact Mine.mlim (o284 lxs)
 have hlf:(fs.map rowD).length<=lim:=by exact Mine.mlim (Fu h4)
 walk_at "m";refine ⟨zq rfl,fun b hb=>?_⟩;have t1:=put_old (k:=Cell.list true [.int 5,.int 10]) hb s1;have t2:=put_old (k:=Cell.list true [.int 5,.int 10]) hb s2;walk_at "m";refine i_lst t2 hlx (AS (i:=0) hxs) ?_;walk_at "m";refine Dj (fun hb'=>?_) fun _=>?_
 ·rw [hb'];walk_at "m";exact i_lst put_same (zq rfl) rfl (h 5 b (.inl rfl) hb)
 walk_at "m";refine f_lenL t1 hlf ?_;rw [List.length_map];walk_at "m";refine Dj (fun hb'=>?_) fun hb2=>?_
 ·rw [hb'];walk_at "m";exact i_lst put_same (zq rfl) rfl (h 5 b (.inl rfl) hb)
 have hf1:fs.length=1:=by have:=beq_iff_eq.mp hb2; exact Yg this
 walk_at "m";obtain ⟨f,hf⟩:∃ f,fs[0]?=some f:=⟨fs[0],List.getElem?_eq_getElem _⟩;have lf:=(hF f (List.mem_of_getElem? hf)).2.2.1;refine i_lst t1 hlf (FS hf) ?_;walk_at "m";refine f_lenR (Fu lf) ?_;walk_at "m";generalize ((f.length:Int)==2)=bb;cases bb with
 | false=>exact i_lst put_same (zq rfl) rfl (h 5 b (.inl rfl) hb)
 | true=>exact i_lst put_same (zq rfl) rfl (h 10 b (.inr ⟨rfl,hf1⟩) hb)
theorem S5 {n:Nat} {Q:D->St->Prop} {σ:St} {l:Addr} {o':Bool} {xs:List Int} (hxs:1<=xs.length) (lxs:xs.length<=100) (g2:σ.loc 2=some (.lst l)) (s2:σ.sto l=some (.list o' (xs.map D.int)))
  (h:∀ (R:Nat) (b:Addr),1<=R->R<=10->σ.sto b=none->Q (.int R) (σ.put b (.list true [.int 3,.int 10]))):wE c n Li Q σ:=by
 unfold Li;have hlx:(xs.map D.int).length<=lim:=by exact Mine.mlim (o284 lxs)
 walk_at "m";refine ⟨zq rfl,fun b hb=>?_⟩;have t2:=put_old (k:=Cell.list true [.int 3,.int 10]) hb s2;walk_at "m";refine i_lst t2 hlx (AS (i:=0) hxs) ?_;walk_at "m";generalize ((xs[0].fmod 8)==0)=bb;cases bb with
 | false=>exact i_lst put_same (zq rfl) rfl (h 3 b (by decide) (by decide) hb)
 | true=>exact i_lst put_same (zq rfl) rfl (h 10 b (by decide) (by decide) hb)
variable (CO:CxOK c)
include CO
theorem Xy (hst:FnK c "_law_stream" 2 BP) (hf:FnK c "_law_powers" 2 DW):RO c:=by
 refine ⟨hf.isFn,fun x fs a o {m sto Q} hm h1 h4 hF ha h=>?_⟩;obtain ⟨n,rfl⟩:∃ n,m=n+2:=⟨m - 2,Yh hm⟩;refine fn_call CO hf rfl ?_;unfold DW;have ha':=CU ha;have hlf:(fs.map rowD).length<=lim:=by exact Mine.mlim (Fu h4)
 walk_at "m";refine f_lenL ha' hlf ?_;rw [List.length_map];walk_at "m";rw [show (fs.length:Int)+1=((fs.length+1:Nat):Int) by exact OZ];refine DJ CO hst (by exact Yi h4) fun xs l hxl hxs hl=>?_;have hlx:(xs.map D.int).length<=lim:=by exact Mine.mlim (Yj hxl h4)
 have a1:=put_old (k:=Cell.list true (xs.map D.int)) hl ha';have x1:Sto.put (Sto.ro sto) l (.list true (xs.map D.int)) l=some (.list true (xs.map D.int)):=put_same;walk_at "m";refine S0 (xs:=xs) (Mx hxl) (QQ hxl h4) h1 h4 hF rfl rfl a1 x1 fun R b hR hb=>?_;have a2:=put_old (k:=Cell.list true [.int 5,.int 10]) hb a1;have x2:=put_old (k:=Cell.list true [.int 5,.int 10]) hb x1;walk_at "m";refine ⟨zq rfl,fun l4 hl4=>?_⟩;have a3:=put_old (k:=Cell.list true []) hl4 a2;have x3:=put_old (k:=Cell.list true []) hl4 x2;have na:a≠l4:=fun z=>by subst z; cases a2.symm.trans hl4
 have nx:l≠l4:=fun z=>by subst z; cases x2.symm.trans hl4
 walk_at "m";refine f_lenL a3 hlf ?_;rw [List.length_map];walk_at "m";refine ⟨by simp [smallI]; exact o1046 h4,_,rfl,?_⟩;refine AM (fun i τ=>∃ (ks:List Nat) (room:Int),ks.length=i/\(∀ k∈ks,1<=k/\k<=10)/\τ.loc 1=some (.lst a)/\τ.loc 2=some (.lst l)/\τ.loc 3=some (.int room)/\τ.loc 4=some (.lst l4)/\τ.sto a=some (.list false (fs.map rowD))/\τ.sto l=some (.list true (xs.map D.int))/\τ.sto l4=some (.list true (ks.map fun (k:Nat)=>D.int (k:Int)))/\a≠l4/\l≠l4) (fun _ _=>False) _ 0 _ ?_ (fun _ _ _=>trivial) ?_ (fun _ _ z=>z.elim) ?_
 ·exact ⟨[],R,rfl,(fun k hk=>by cases hk),rfl,rfl,rfl,rfl,a3,x3,put_same,na,nx⟩
 ·intro i d τ K hd q224_ hn hr; refine xq2_11 q224_ fun ks room hkl hks g1 g2 g3 g4 sa sx s4 na nx=>?_; clear q224_;obtain ⟨hi,hdd⟩:=Bh hd;rw [Int.zero_add] at hdd;subst hdd;rw [Nat.zero_add] at hkl hn;have hi:i<fs.length:=Eh hi;obtain ⟨f,hfi⟩:∃ f,fs[i]?=some f:=⟨fs[i],List.getElem?_eq_getElem hi⟩;refine AO (hF f (List.mem_of_getElem? hfi)) fun _ _ lf4 q225_ _=>?_; obtain ⟨lf2,_⟩:=q225_;walk_at "m";refine i_lst sa hlf (FS hfi) ?_;walk_at "m";refine f_lenR (Fu lf4) ?_;walk_at "m";refine S5 (xs:=xs) (Mx hxl) (QQ hxl h4) g2 sx fun M b hM1 hM2 hb=>?_;have sa1:=put_old (k:=Cell.list true [.int 3,.int 10]) hb sa;have sx1:=put_old (k:=Cell.list true [.int 3,.int 10]) hb sx;have s41:=put_old (k:=Cell.list true [.int 3,.int 10]) hb s4;walk_at "m";refine ⟨⟨l4,_,rfl,s41⟩,?_⟩;walk_at "m";rw [show (1:Int)+(i:Int)=((1+i:Nat):Int) by exact Yk];obtain ⟨y,hy⟩:∃ y:Int,BH (xs.map D.int) ((1+i:Nat):Int)=some (.int y):=⟨_,AS (Yl hxl hi)⟩;refine i_lst sx1 hlx hy ?_;walk_at "m";refine JH (Ym hM1) ?_;refine xq1_2 (Co (a:=y) (m:=M) (Yn hM1)) fun u hu eu=>?_;rw [eu];walk_at "m";rw [show (f.length:Int) - 1=((f.length - 1:Nat):Int) by exact QS lf2];refine El (Yo lf2) ?_;walk_at "m";refine xq1_5 (Ov (room:=room) (d:=f.length - 1) (u:=u) (Fq lf2)) fun k ek k1 k2 k3 k4=>?_;rw [ek];refine ap_lst s41 (by exact Mine.mlim (Yp hkl h4 hi)) ?_;walk_at "m";refine i_lst put_same (by rw [List.length_append,List.length_map]; show ks.length+1<=lim; unfold lim; exact Yq hkl h4 hi) GR ?_;walk_at "m";refine BS (CL (k:=10) (QT lf4) (Yr k2 hM2 hu) (Ft)) ?_;walk_at "m";refine hn _ ⟨ks ++ [k],_,by rw [List.length_append,hkl]; rfl,fun j hj=>?_,g1,g2,rfl,g4,?_,?_,?_,na,nx⟩
  ·rcases List.mem_append.mp hj with hj | hj
   ·exact hks j hj
   ·rw [List.mem_singleton.mp hj]; exact o1057 k1 k2 hM2 hu
  ·exact (put_ne na).trans sa1
  ·exact (put_ne nx).trans sx1
  ·rw [List.map_append]; exact put_same
 ·intro τ q226_; refine xq2_11 q226_ fun ks room hkl hks g1 g2 g3 g4 sa sx s4 _ _=>?_; clear q226_;rw [Nat.zero_add,Bg,show ((fs.length:Int) - 0).toNat=fs.length by exact G6] at hkl;walk_at "m";exact Ek s4 fun hb=>h ks l4 hkl hks hb
end
noncomputable def DX:List S:=[
  .assign 2 (.tup [.tup [.cint 1,.cint 1]]),
  .fors [3,4] false .zip [.var 0,.var 1] [.assign 2 (.call "_law_times" [.var 2,.call "_law_power" [.var 3,.var 4]])],
  .ret (.var 2)]
noncomputable def SafeT (sto:Sto):Prop:=(∀ a o ds,sto a=some (.list o ds)->ds.all B2=true)/\∀ a ps,sto a≠some (.dict ps)
noncomputable def RP (c:Cx):Prop:=AD c "_law_bottom"/\∀ (fs:List LR) (ks:List Nat) (a b:Addr) (o o':Bool) {m:Nat} {sto:Sto} {Q:D->Sto->Prop},7<=m->SafeT sto->fs.length<=4->(∀ f∈fs,CJ f)->ks.length=fs.length->(∀ k∈ks,k<=10)->Ck (fs.zip ks)<=5->sto a=some (.list o (fs.map rowD))->sto b=some (.list o' (ks.map fun (k:Nat)=>D.int (k:Int)))->(∀ r,Mon r->r.length=Ck (fs.zip ks)+1->RC (1+6*fs.length+11*Ck (fs.zip ks)) (cf r)->cf r=Ad (fs.zip ks)->Q (rowD r) sto)->Ah c m "_law_bottom" [.lst a,.lst b] sto Q
noncomputable def Nq (c:Cx):Prop:=AD c "_law_row_by"/\∀ (x:Int) (most:Nat) {m:Nat} {sto:Sto} {Q:D->Sto->Prop},4<=m->most<=50->(∀ p,Rw p->p.length<=most->Cb 20 p->Q (rowD p) sto)->Ah c m "_law_row_by" [.int x,.int most] sto Q
theorem SafeS.set {σ:St} (h:SafeS σ) {i:Nat} {d:D} (hd:B2 d=true):SafeS (σ.set i d):=by
 refine ⟨fun j e he=>?_,h.2⟩;have he:(if j=i then some d else σ.loc j)=some e:=he
 by_cases z:j=i
 ·rw [if_pos z] at he; cases he; exact hd
 ·rw [if_neg z] at he; exact h.1 j e he
theorem safe_row (p:LR):B2 (rowD p)=true:=by
 show ((p.map Ae).all GT || (p.map Ae).all fun x=>DH x&&AY x)=true;rw [Bool.or_eq_true];refine .inr (List.all_eq_true.mpr fun d hd=>?_);refine xq1_2 (List.mem_map.mp hd) fun x _ q227_=>?_; obtain rfl:=q227_;rfl
theorem safe_ints (xs:List Int):(xs.map D.int).all B2=true:=List.all_eq_true.mpr fun d hd=>by
 refine xq1_2 (List.mem_map.mp hd) fun x _ q228_=>?_; obtain rfl:=q228_;rfl
theorem Gu (fs:List LR):(fs.map rowD).all B2=true:=List.all_eq_true.mpr fun d hd=>by
 refine xq1_2 (List.mem_map.mp hd) fun x _ q229_=>?_; obtain rfl:=q229_;exact safe_row x
theorem SafeT.put {sto:Sto} (h:SafeT sto) {l:Addr} {b:Bool} {ds:List D} (hd:ds.all B2=true):SafeT (Sto.put sto l (.list b ds)):=by
 refine ⟨fun a o es e=>?_,fun a ps e=>?_⟩
 ·by_cases z:a=l
  ·rw [z,put_same] at e; cases e; exact hd
  ·rw [put_ne z] at e; exact h.1 a o es e
 ·by_cases z:a=l
  ·rw [z,put_same] at e; cases e
  ·rw [put_ne z] at e; exact h.2 a ps e
theorem SafeT.ro {sto:Sto} (h:SafeT sto):SafeT (Sto.ro sto):=by
 have key:∀ a k,Sto.ro sto a=some k->∃ o ds,sto a=some (.list o ds)/\k=.list false ds:=fun a k e=>by
  unfold Sto.ro at e;cases q:sto a with
  | none=>rw [q] at e; cases e
  | some c =>
   rw [q] at e;cases c with
   | list b ds=>cases e; exact ⟨b,ds,rfl,rfl⟩
   | dict ps=>cases e
 refine ⟨fun a o es e=>?_,fun a ps e=>?_⟩
 ·refine xq2_2 (key a _ e) fun b ds h1 h2=>?_;cases h2;exact h.1 a b _ h1
 ·refine xq2_2 (key a _ e) fun b ds h1 h2=>?_;cases h2
theorem zip_pt (fs:List LR) (ks:List Nat):List.zipWith (fun u v=>D.tup [u,v]) (fs.map rowD) (ks.map fun (k:Nat)=>D.int (k:Int))=(fs.zip ks).map Js:=by
 rw [List.zipWith_map,List.zip,List.map_zipWith];rfl
theorem QD {f:LR} (h:CJ f):Mon f:=⟨h.2.1,h.1,h.2.2.2.1.2⟩
theorem XA {c:Cx} {n:Nat} {xs:List Nat} {one:Bool} {es:List E} {b:List S} {Q:Fl->St->Prop} {σ:St} (h:Cs c n es (fun ds σ₁=>itK .zip ds (fun items g σ₁=>Cp g (fun d K σ₂=>D0 one xs d (fun σ₃=>Bo c n b K σ₃) σ₂) items Q σ₁) σ₁) σ):wS c n (.fors xs one .zip es b) Q σ:=h
section
variable {c:Cx} (CO:CxOK c)
include CO
theorem XB (hti:Gq c) (hpw:Xp c) (hf:FnK c "_law_bottom" 2 DX):RP c:=by
 refine ⟨hf.isFn,fun fs ks a b o o' {m sto Q} hm hS h4 hF hkl hks hwt ha hb h=>?_⟩;obtain ⟨n,rfl⟩:∃ n,m=n+1:=⟨m - 1,Vc hm⟩;refine fn_call CO hf rfl ?_;unfold DX;have ha':=CU ha;have hb':=CU hb;have lz:(fs.zip ks).length<=4:=by rw [List.length_zip]; exact Ys h4
 walk_at "m";refine XA ?_;walk_at "m";refine ⟨a,b,false,fs.map rowD,false,ks.map fun (k:Nat)=>D.int (k:Int),rfl,rfl,ha',hb',?_,Gu fs,?_,?_⟩
 ·exact List.all_eq_true.mpr fun d hd=>by
   refine xq1_2 (List.mem_map.mp hd) fun x _ q230_=>?_; obtain rfl:=q230_;rfl
 ·exact List.all_eq_true.mpr fun d hd=>by
   refine xq1_2 (List.mem_map.mp hd) fun x _ q231_=>?_; obtain rfl:=q231_;rfl
 rw [zip_pt];refine AM (fun i τ=>∃ r:LR,Mon r/\RC (1+6*i+11*Ck ((fs.zip ks).take i)) (cf r)/\cf r=Ad ((fs.zip ks).take i)/\r.length=Ck ((fs.zip ks).take i)+1/\SafeS τ/\τ.loc 2=some (rowD r)/\τ.sto=Sto.ro sto) (fun _ _=>False) _ 0 _ ?_ ?_ ?_ (fun _ _ z=>z.elim) ?_
 ·refine ⟨[1],mon_unit,rc_one.mono (Yt),cf_unit,by simp [Ck],SafeS.set (σ:=Dw [.lst a,.lst b] sto) ⟨fun i d e=>?_,hS.ro⟩ (safe_row [1]),rfl,rfl⟩;have e:[D.lst a,D.lst b][i]?=some d:=e
  match i,e with
  | 0,e=>cases e; rfl
  | 1,e=>cases e; rfl
  | i+2,e=>cases e
 ·intro i τ q232_; refine xq1_7 q232_ fun r _ _ _ _ k1 _ k2=>?_; clear q232_;exact ⟨k1,⟨false,by rw [k2]; exact ha'⟩,false,by rw [k2]; exact hb'⟩
 ·intro i d τ K hd q233_ hn hr; refine xq1_7 q233_ fun r mr kr er lr hT g2 gs=>?_; clear q233_;rw [Nat.zero_add] at kr er lr hn;obtain ⟨x,hxi,rfl⟩:∃ x,(fs.zip ks)[i]?=some x/\d=Js x:=by
   rw [List.getElem?_map] at hd;cases e:(fs.zip ks)[i]? with
   | none=>rw [e] at hd; cases hd
   | some x=>rw [e] at hd; cases hd; exact ⟨x,rfl,rfl⟩
  obtain ⟨f,k⟩:=x;have hi:=(List.getElem?_eq_some_iff.mp hxi).1;have tk:(fs.zip ks).take (i+1)=(fs.zip ks).take i ++ [(f,k)]:=by rw [List.take_add_one,hxi]; rfl
  have wt1:Ck ((fs.zip ks).take i)+k*(f.length - 1)<=Ck (fs.zip ks):=by
   have h:=Qg (fs.zip ks) (i+1);rw [tk,FJ] at h;exact h
  have hz:=List.of_mem_zip (List.mem_of_getElem? hxi);have F:=hF f hz.1;have mf:=QD F;have lf:=F.2.2.1;have k10:=hks k hz.2;have e1:(f.length - 1)*k=k*(f.length - 1):=Nat.mul_comm _ _;have lf2:=F.2.2.2.1.1;have e2:1+k*(6*(f.length - 1)+5)<=1+11*(k*(f.length - 1)):=by
   have:k*(6*(f.length - 1)+5)<=k*(11*(f.length - 1)):=Nat.mul_le_mul_left _ (Yu lf2);rw [Nat.mul_left_comm] at this;exact Yv this
  refine ⟨[rowD f,.int k],rfl,rfl,?_⟩;walk_at "m";refine hpw.2 f k (6*(f.length - 1)) (Vd hm) mf F.2.2.2.2 (Yw lf) (Yx e1 wt1 hwt) (Yy k10) fun u mu eu ku lu=>?_;walk_at "m";have ku:=ku.mono e2;refine hti.2 r u _ _ (Yz hm) kr ku (YA wt1 lz hwt hi) (YB lr wt1 hwt) (YC lu e1 hwt wt1) fun y wy ey=>?_;walk_at "m";obtain ⟨my,ly⟩:=Ea mr mu wy fun j=>by rw [ey j,Ar]
  refine hn _ ⟨y,my,?_,?_,?_,SafeS.set (SafeS.set (SafeS.set hT (safe_row f)) rfl) (safe_row y),rfl,gs⟩
  ·rw [tk,FJ];refine ((kr.prod ku (YD lr wt1 hwt)).cong fun j=>ey j).mono ?_;show _<=1+6*(i+1)+11*(Ck ((fs.zip ks).take i)+k*(f.length - 1));exact YE
  ·rw [tk,AB,<- er,<- eu];exact funext fun j=>by rw [ey j,Ar]
  ·rw [tk,FJ];show _=Ck ((fs.zip ks).take i)+k*(f.length - 1)+1;exact YF ly e1 lr lu
 ·intro τ q234_; refine xq1_7 q234_ fun r mr kr er lr _ g2 gs=>?_; clear q234_;rw [Nat.zero_add,List.length_map,List.take_length] at kr er lr;walk_at "m";exact ret_plain (h r mr lr (kr.mono (by rw [List.length_zip]; exact YG)) er)
end
noncomputable def Ew:List S:=[
  .assign 1 (.call "_law_scale" [.call "_law_times" [.idx (.var 0) (.cint 0),.call "_law_rate" [.idx (.var 0) (.cint 1)]],.tup [.neg (.cint 1),.cint 1]]),
  .ret (.tup [.call "_law_plus" [.call "_law_times" [.call "_law_rate" [.idx (.var 0) (.cint 0)],.idx (.var 0) (.cint 1)],.var 1],.call "_law_times" [.idx (.var 0) (.cint 1),.idx (.var 0) (.cint 1)]])]
noncomputable def DY:List S:=[
  .assign 2 (.call "_law_row_by" [.var 0,.bin .Sub (.blt .len [.var 1]) (.cint 1)]),
  .ret (.slice (.var 2) none (some (.bin .Sub (.blt .len [.var 1]) (.cint 1))))]
noncomputable def Nr (v x:Nat):E:=.blt .sum [.comp (.bin .Mult (.idx (.var 4) (.var x)) (.bin .Sub (.blt .len [.idx (.var v) (.var x)]) (.cint 1))) [(x,"_law_j")] .range [.bin .Add (.var 6) (.cint 1)]]
noncomputable def Ib (v x:Nat) (most:Int):S:=.fors [6] true .range [.cint 1,.cint 3] [.ifs (.cmp .Gt (Nr v x) (.cint most)) [.setitem (.var 4) (.var 6) (.cint 0)] []]
noncomputable def RQ (c:Cx):Prop:=AD c "_law_slope"/\∀ (h l:LR) (a b:Nat) {m:Nat} {sto:Sto} {Q:D->Sto->Prop},6<=m->RC a (cf h)->RC b (cf l)->a<=10000->b<=10000->h.length<=14->l.length<=14->(∀ t s,Rw t->Rw s->(∀ j,cf t j=cvn (Ac (cf h)) (cf l) j - cvn (cf h) (Ac (cf l)) j)->(∀ j,cf s j=cvn (cf l) (cf l) j)->Q (.tup [rowD t,rowD s]) sto)->Ah c m "_law_slope" [qD h l] sto Q
noncomputable def RR (c:Cx):Prop:=AD c "_law_proper"/\∀ (x:Int) (r:LR) {m:Nat} {sto:Sto} {Q:D->Sto->Prop},5<=m->1<=r.length->r.length<=50->(∀ p,Rw p->p.length<=r.length - 1->Cb 20 p->Q (rowD p) sto)->Ah c m "_law_proper" [.int x,rowD r] sto Q
theorem Fn {σ:St} {i x:Nat} {d:D} (h:i≠x):(σ.set x d).loc i=σ.loc i:=if_neg h
theorem Lj {σ:St} {x:Nat} {d:D}:(σ.set x d).loc x=some d:=if_pos rfl
theorem Ho {α:Type}:∀ {l:List α},l.length=3->∃ a b c,l=[a,b,c]
 | [a,b,c],_=>⟨a,b,c,rfl⟩
section
variable {c:Cx}
theorem XC {n v x k:Nat} {Q:D->St->Prop} {σ:St} {fs:List LR} {ks:List Nat} {l4 lv:Addr} {o o':Bool} (hx:100<=x) (hv:v<100) (hk:k<3) (lf:fs.length=3) (lk:ks.length=3) (hF:∀ f∈fs,CJ f) (hks:∀ k∈ks,k<=10) (g4:σ.loc 4=some (.lst l4)) (gv:σ.loc v=some (.lst lv)) (g6:σ.loc 6=some (.int k)) (s4:σ.sto l4=some (.list o (ks.map fun (k:Nat)=>D.int (k:Int)))) (sv:σ.sto lv=some (.list o' (fs.map rowD)))
  (h:∀ b ns,σ.sto b=none->ns.all B2=true->Q (.int (Ck ((fs.zip ks).take (k+1)))) (σ.put b (.list true ns))):wE c n (Nr v x) Q σ:=by
 unfold Nr;walk_at "m";refine ⟨by simp [smallI]; exact YH hk,_,rfl,?_⟩;rw [DK,show ((k:Int)+1 - 0).toNat=k+1 by exact YI];refine ⟨by rw [List.length_map,List.length_range]; unfold lim; exact YJ hk,?_⟩;have s4':=CU s4;have sv':=CU sv;refine Cv (fun (j:Nat)=>D.int (0+j)) (fun j=>D.int (((ks[j]?.getD 0*((fs[j]?.getD []).length - 1):Nat):Int))) _ _ (fun j hj K hK=>?_) fun l hl=>?_
 ·have hj:=List.mem_range.mp hj;have hjf:fs[j]?=some (fs[j]'(Gv lf hj hk)):=List.getElem?_eq_getElem _;have hjk:ks[j]?=some (ks[j]'(Gv lk hj hk)):=List.getElem?_eq_getElem _;rw [hjf,hjk] at hK;have F:=hF _ (List.getElem_mem (show j<fs.length by exact Gv lf hj hk));have k10:=hks _ (List.getElem_mem (show j<ks.length by exact Gv lk hj hk));generalize fs[j]'(Gv lf hj hk)=f at *;generalize ks[j]'(Gv lk hj hk)=kk at *;have l4':=F.2.2.1;have l2:=F.2.2.2.1.1;refine GJ ?_;refine RA ?_;rw [Int.zero_add];refine M3 ((Fn (YK hx)).trans g4) ?_;refine HP Lj ?_;refine i_lst (ds:=ks.map fun (k:Nat)=>D.int (k:Int)) s4' (by exact Mine.mlim (Gw lk)) (d:=.int kk) ?_ ?_
  ·unfold BH;rw [if_pos (by exact EL),Int.toNat_natCast,List.getElem?_map,hjk]; rfl
  walk_at "m";refine M3 ((Fn (YL hx hv)).trans gv) ?_;refine HP Lj ?_;refine i_lst sv' (by exact Mine.mlim (Gw lf)) (d:=rowD f) ?_ ?_
  ·unfold BH;rw [if_pos (by exact EL),Int.toNat_natCast,List.getElem?_map,hjf]; rfl
  walk_at "m";refine f_lenR (Fu l4') ?_;walk_at "m";rw [show (f.length:Int) - 1=((f.length - 1:Nat):Int) by exact QS l2];refine BS (CL (k:=10) (YM k10) (QT l4') (Ft)) ?_;rw [<- Int.natCast_mul];exact ⟨trivial,hK⟩
 ·rw [List.nil_append];walk_at "m";have e:(List.range (k+1)).map (fun j=>D.int (((ks[j]?.getD 0*((fs[j]?.getD []).length - 1):Nat):Int)))=((List.range (k+1)).map fun j=>(((ks[j]?.getD 0*((fs[j]?.getD []).length - 1):Nat):Int))).map D.int:=by rw [List.map_map]; rfl
  rw [e];refine MJ (Ho lf) fun f0 f1 f2 q235_=>?_; obtain rfl:=q235_;refine MJ (Ho lk) fun a b d q236_=>?_; obtain rfl:=q236_;have F0:=(hF f0 (.head _)).2.2.1;have F1:=(hF f1 (.tail _ (.head _))).2.2.1;have F2:=(hF f2 (.tail _ (.tail _ (.head _)))).2.2.1;have k0:=hks a (.head _);have k1:=hks b (.tail _ (.head _));have k2:=hks d (.tail _ (.tail _ (.head _)));have m:∀ {x y:Nat},x<=10->y<=3->x*y<=30:=fun h1 h2=>Nat.mul_le_mul h1 h2;have b0:a*(f0.length - 1)<=30:=m k0 (JB F0);have b1:b*(f1.length - 1)<=30:=m k1 (JB F1);have b2:d*(f2.length - 1)<=30:=m k2 (JB F2);have ns:∃ ns:List Nat,(∀ x∈ns,x<=30)/\ns.length<=3/\ns.sum=Ck (([f0,f1,f2].zip [a,b,d]).take (k+1))/\(List.range (k+1)).map (fun j=>(((([a,b,d]:List Nat)[j]?.getD 0*((([f0,f1,f2]:List LR)[j]?.getD []).length - 1):Nat):Int)))=ns.map fun (x:Nat)=>(x:Int):=by
   have:k=0\/k=1\/k=2:=YN hk;rcases this with rfl | rfl | rfl
   ·exact ⟨[a*(f0.length - 1)],by simp; exact YO b0,by simp,rfl,rfl⟩
   ·exact ⟨[a*(f0.length - 1),b*(f1.length - 1)],by simp; exact YQ b0 b1,by simp,rfl,rfl⟩
   ·exact ⟨[a*(f0.length - 1),b*(f1.length - 1),d*(f2.length - 1)],by simp; exact YR b0 b1 b2,by simp,rfl,rfl⟩
  revert ns; refine aao fun ns n1 n2 n3 n4=>?_;rw [n4];refine ⟨true,ns.map fun (x:Nat)=>(x:Int),put_same,by rw [List.length_map]; exact QU n2,fun z hz=>?_,?_⟩
  ·refine xq1_2 (List.mem_map.mp hz) fun y hy q237_=>?_; obtain rfl:=q237_;have:=n1 y hy;exact YS this
  ·have es:(ns.map fun (x:Nat)=>(x:Int)).sum=((ns.sum:Nat):Int):=by
    clear n1 n2 n3 n4
    induction ns with
    | nil=>rfl
    | cons y ys ih=>rw [List.map_cons,List.sum_cons,List.sum_cons,ih]; exact JZ
   rw [es,n3];exact h l _ hl (safe_ints _)
end
theorem S6 {fs:List LR} {ks:List Nat} {k:Nat}:(fs.zip (ks.set k 0)).take k=(fs.zip ks).take k:=by
 rw [List.zip_eq_zipWith,List.zip_eq_zipWith,List.take_zipWith,List.take_zipWith,List.take_set_of_le (Nat.le_refl _)]
theorem QE {ks:List Nat} {k M:Nat} (h:∀ x∈ks,x<=M):∀ x∈ks.set k 0,x<=M:=fun x hx=>by
 rcases List.mem_or_eq_of_mem_set hx with hx | rfl
 ·exact h x hx
 ·exact Nat.zero_le _
section
variable {c:Cx}
theorem cut_is {n v x M:Nat} {mo:Nat} {K:Fl->St->Prop} {σ:St} {fs:List LR} {ks:List Nat} {l4 lv:Addr} {o':Bool} (hx:100<=x) (hv:v<100) (hv4:v≠4) (hv6:v≠6) (hM:M<=10) (lf:fs.length=3) (lk:ks.length=3) (hF:∀ f∈fs,CJ f) (hks:∀ k∈ks,k<=M) (hw:Ck ((fs.zip ks).take 1)<=mo) (hS:SafeT σ.sto) (g4:σ.loc 4=some (.lst l4)) (gv:σ.loc v=some (.lst lv)) (s4:σ.sto l4=some (.list true (ks.map fun (k:Nat)=>D.int (k:Int)))) (sv:σ.sto lv=some (.list o' (fs.map rowD))) (ne:lv≠l4)
  (h:∀ (σ':St) (ks':List Nat),ks'.length=3->(∀ k∈ks',k<=M)->Ck (fs.zip ks')<=mo->SafeT σ'.sto->(∀ i,i≠6->σ'.loc i=σ.loc i)->(∀ b k,b≠l4->σ.sto b=some k->σ'.sto b=some k)->σ'.sto l4=some (.list true (ks'.map fun (k:Nat)=>D.int (k:Int)))->K .next σ'):wS c n (Ib v x mo) K σ:=by
 unfold Ib;walk_at "m";refine ⟨rfl,_,rfl,?_⟩;refine AM (fun i τ=>∃ ks':List Nat,ks'.length=3/\(∀ k∈ks',k<=M)/\Ck ((fs.zip ks').take (i+1))<=mo/\SafeT τ.sto/\(∀ i,i≠6->τ.loc i=σ.loc i)/\(∀ b k,b≠l4->σ.sto b=some k->τ.sto b=some k)/\τ.sto l4=some (.list true (ks'.map fun (k:Nat)=>D.int (k:Int)))) (fun _ _=>False) _ 0 _ ⟨ks,lk,hks,hw,hS,fun _ _=>rfl,fun _ _ _ e=>e,s4⟩ (fun _ _ _=>trivial) ?_ (fun _ _ z=>z.elim) ?_
 ·intro i d τ K' hd q238_ hn _; refine xq1_7 q238_ fun ks' lk' hk' hw' hS' hl' hs' s4'=>?_; clear q238_;rw [Nat.zero_add] at hw' hn;obtain ⟨hi,rfl⟩:=Bh hd;have hi:i<2:=YT hi;rw [show (1:Int)+(i:Int)=((i+1:Nat):Int) by exact TK];have lz:(fs.zip ks').length=3:=by rw [List.length_zip]; exact YU lf lk'
  have g4':τ.loc 4=some (.lst l4):=(hl' 4 (QV)).trans g4;walk_at "m";refine XC (k:=i+1) (fs:=fs) (ks:=ks') hx hv (YV hi) lf lk' hF (fun k hk=>Nat.le_trans (hk' k hk) hM) ((Fn (QV)).trans g4') ((Fn (YW hv6)).trans ((hl' v hv6).trans gv)) Lj s4' (hs' lv _ ne sv) fun b ns hb sf=>?_;have hb:τ.sto b=none:=hb;walk_at "m";refine if_b (fun hgt=>?_) fun hle=>?_
  ·walk_at "m";refine Gb (put_old hb s4') (by exact Mine.mlim (Gw lk')) (TR) (by rw [List.length_map]; exact YX lk' hi) ?_;have eset:(ks'.map fun (k:Nat)=>D.int (k:Int)).set (((i+1:Nat):Int).toNat) (.int 0)=(ks'.set (i+1) 0).map fun (k:Nat)=>D.int (k:Int):=by rw [List.map_set,Int.toNat_natCast]; rfl
   rw [eset];refine hn _ ⟨ks'.set (i+1) 0,by rw [List.length_set]; exact lk',QE hk',?_,(hS'.put sf).put ?_,fun j hj=>(Fn hj).trans (hl' j hj),fun a k ha e=>(put_ne ha).trans (put_old hb (hs' a k ha e)),put_same⟩
   ·have hg:(fs.zip (ks'.set (i+1) 0))[i+1]?=some (fs[i+1]'(QW lf hi),0):=by
     rw [List.getElem?_eq_getElem (by rw [List.length_zip,List.length_set]; exact YY lf lk' hi),List.getElem_zip,List.getElem_set_self]
    rw [List.take_add_one,hg,S6];show Ck ((fs.zip ks').take (i+1) ++ [(fs[i+1]'(QW lf hi),0)])<=mo;rw [FJ,Nat.zero_mul];exact hw'
   ·exact List.all_eq_true.mpr fun d hd=>by
     refine xq1_2 (List.mem_map.mp hd) fun k _ q239_=>?_; obtain rfl:=q239_;rfl
  ·walk_at "m";have hle:Ck ((fs.zip ks').take (i+1+1))<=mo:=by
    have:=of_decide_eq_false hle;exact o47 this
   exact hn _ ⟨ks',lk',hk',hle,hS'.put sf,fun j hj=>(Fn hj).trans (hl' j hj),fun a k ha e=>put_old hb (hs' a k ha e),put_old hb s4'⟩
 ·intro τ q240_; refine xq1_7 q240_ fun ks' lk' hk' hw' hS' hl' hs' s4'=>?_; clear q240_;have e:0+(Bm 1 3).length+1=3:=rfl;rw [e,List.take_of_length_le (by rw [List.length_zip]; exact YZ lk')] at hw';exact h τ ks' lk' hk' hw' hS' hl' hs' s4'
variable (CO:CxOK c)
include CO
theorem XD (hti:Gq c) (hra:Nl c "_law_rate") (hsc:CC c 4 "_law_scale") (hpl:HU c 4 "_law_plus") (hf:FnK c "_law_slope" 1 Ew):RQ c:=by
 refine ⟨hf.isFn,fun h l a b {m sto Q} hm kh kl ha hb lh ll hQ=>?_⟩;obtain ⟨n,rfl⟩:∃ n,m=n+1:=⟨m - 1,Pd hm⟩;refine fn_call CO hf rfl ?_;unfold Ew qD;walk_at "m";refine hra.2 l b (EO hm) kl (QX hb) (JC ll) fun V wV eV lV kV=>?_;walk_at "m";refine hti.2 h V a (b+5) (Im hm) kh kV (Y0 ha hb) (My lh) (Y1 ll lV) fun r wr er=>?_;have kr:RC (a+(b+5)+5) (cf r):=(kh.prod kV (JC lh)).cong er;have lr:r.length<=40:=Ay wr fun j hj=>by
  rw [er j,Ar];exact Cj (N:=h.length) (M:=V.length) (fun i hi=>An hi) (fun i hi=>An hi) (Y2 hj ll lh lV)
 walk_at "m";rw [show -(1:Int)=-1 from rfl,Ci];walk_at "m";refine hsc.2 r _ _ 2 (EO hm) (fun i=>kr.rs i) (Dm (by decide) (QY)) (Y3 ha hb) (QZ lr) ?_;have cl:=AW r (((-1:Int):Rat));have ks:RC (a+(b+5)+5+2) (cf (trimL (r.map (·*((-1:Int):Rat))))):=(kr.scale (Dm (by decide) (QY))).cong cl;have ls:=trim_len (r.map (·*((-1:Int):Rat)));rw [List.length_map] at ls;generalize trimL (r.map (·*((-1:Int):Rat)))=w at *;walk_at "m";refine hra.2 h a (EO hm) kh (QX ha) (JC lh) fun U wU eU lU kU=>?_;walk_at "m";refine hti.2 U l (a+5) b (Im hm) kU kl (Y4 ha hb) (Y5 lh lU) (Q0 ll) fun t wt et=>?_;have kt:RC (a+5+b+5) (cf t):=(kU.prod kl (Y6 lh lU)).cong et;have lt:t.length<=40:=Ay wt fun j hj=>by
  rw [et j,Ar];exact Cj (N:=U.length) (M:=l.length) (fun i hi=>An hi) (fun i hi=>An hi) (Y7 hj lh ll lU)
 walk_at "m";refine hpl.2 t w _ _ (EO hm) (fun i=>kt.rs i) (fun i=>ks.rs i) (Y8 ha hb) (QZ lt) (Y9 lr ls) fun s hs _=>?_;walk_at "m";refine hti.2 l l b b (Im hm) kl kl (Za hb) (My ll) (Q0 ll) fun q wq eq=>?_;walk_at "m";refine ret_plain (hQ _ _ (rw_trim s) wq (fun j=>?_) fun j=>by rw [eq j,Ar]);rw [Ak,hs j,et j,Ar,cl,er j,Ar,eU,eV,show ((-1:Int):Rat)=-1 from rfl];grind
theorem XE (hrb:Nq c) (hf:FnK c "_law_proper" 2 DY):RR c:=by
 refine ⟨hf.isFn,fun x r {m sto Q} hm l1 l50 hQ=>?_⟩;obtain ⟨n,rfl⟩:∃ n,m=n+1:=⟨m - 1,Il hm⟩;refine fn_call CO hf rfl ?_;unfold DY;walk_at "m";refine f_lenR (Q1 l50) ?_;walk_at "m";rw [show (r.length:Int) - 1=((r.length - 1:Nat):Int) by exact Q2 l1];refine hrb.2 x (r.length - 1) (F5 hm) (Zb l50) fun p wp lp kp=>?_;walk_at "m";refine f_lenR (Q1 l50) ?_;walk_at "m";rw [show (r.length:Int) - 1=((r.length - 1:Nat):Int) by exact Q2 l1];refine Wp (p:=none) (r:=some ((r.length - 1:Nat):Int)) rfl rfl (by exact Mine.mlim (Zc l50 lp)) ?_;have e:Br (p.map Ae) none (some ((r.length - 1:Nat):Int))=p.map Ae:=by
  unfold Br cutAt;simp only;rw [if_pos (by exact OX),List.drop_zero,List.take_of_length_le];rw [List.length_map,Int.toNat_natCast]; exact Zd lp
 rw [e];exact ret_plain (hQ p wp lp kp)
end
noncomputable def Hp:List S:=[
  .assign 8 (.call "_law_plus" [.idx (.var 9) (.cint 0),.call "_law_scale" [.idx (.var 9) (.cint 1),.call "_law_number" [.idx (.var 1) (.cint 8)]]]),
  .assign 12 (.call "_law_slope" [.tup [.var 8,.idx (.var 9) (.cint 1)]]),
  .assign 13 (.call "_law_plus" [.call "_law_times" [.idx (.var 12) (.cint 0),.idx (.var 11) (.cint 1)],.call "_law_times" [.idx (.var 11) (.cint 0),.idx (.var 12) (.cint 1)]]),
  .assign 14 (.call "growth" [.call "quotient" [.var 13,.call "_law_times" [.idx (.var 12) (.cint 1),.idx (.var 11) (.cint 1)]]]),
  .ifs (.cmp .Eq (.idx (.var 11) (.cint 0)) (.tup [])) [.ret (.cmp .Eq (.var 14) (.tup [.cstr "growth",.var 9]))] [],
  .ret (.cmp .Eq (.var 14) (.tup [.cstr "barred",.var 9,.var 11]))]
noncomputable def Does13 (c:Cx):Prop :=
 Gq c/\
 HU c 4 "_law_plus"/\
 CC c 4 "_law_scale"/\
 RQ c/\
 RR c/\
 Nq c/\
 Xg c/\
 Xn c/\
 RP c/\
 RO c/\
 OM c/\
 (AD c "_law_cell_at"/\∀ (a:Addr) (is:List Int) (i:Int) (o:Bool) {m:Nat} {sto:Sto} {Q:D->Sto->Prop},1<=m->sto a=some (.list o (is.map D.int))->is.length<=1000->0<=i->(∀ z,Q (.int z) sto)->Ah c m "_law_cell_at" [.lst a,.int i] sto Q)/\
 (AD c "_law_number"/\∀ (x:Int) {m:Nat} {sto:Sto} {Q:D->Sto->Prop},3<=m->(0<=x/\x<2147483647)->(∀ r:Rat,RS 20 r->Q (Ae r) sto)->Ah c m "_law_number" [.int x] sto Q)/\
 (AD c "_law_stream"/\∀ (z:Int) (k:Nat) {m:Nat} {sto:Sto} {Q:D->Sto->Prop},1<=m->k<=1000->(∀ (xs:List Int) (l:Addr),xs.length=k->(∀ x∈xs,0<=x/\x<2147483647)->sto l=none->Q (.lst l) (Sto.put sto l (.list true (xs.map D.int))))->Ah c m "_law_stream" [.int z,.int k] sto Q)
section
variable {c:Cx} (h_:Does13 c)
def Does13.times:=h_.1
def Does13.plus:=h_.2.1
def Does13.scale:=h_.2.2.1
def Does13.slope:=h_.2.2.2.1
def Does13.proper:=h_.2.2.2.2.1
def Does13.rowby:=h_.2.2.2.2.2.1
def Does13.quot:=h_.2.2.2.2.2.2.1
def Does13.growth:=h_.2.2.2.2.2.2.2.1
def Does13.bottom:=h_.2.2.2.2.2.2.2.2.1
def Does13.powers:=h_.2.2.2.2.2.2.2.2.2.1
def Does13.facts:=h_.2.2.2.2.2.2.2.2.2.2.1
def Does13.cell:=h_.2.2.2.2.2.2.2.2.2.2.2.1
def Does13.number:=h_.2.2.2.2.2.2.2.2.2.2.2.2.1
def Does13.stream:=h_.2.2.2.2.2.2.2.2.2.2.2.2.2
end
noncomputable def OneD (r P h l:LR) (y:NR):Prop :=
 Mon r/\
 RC 74 (cf r)/\
 r.length<=6/\
 P.length<=4/\
 cf P 0=0/\
 RC 62 (cf P)/\
 EU h l/\
 ((cf h=fun j=>cvn (cf P) (cf l) j+y j)/\Bd (l.length - 1) y/\RC 180 y/\SzD (cf l) 140/\RC 140 (cf l)/\RC 388 (cf h)/\l.length<=6/\h.length<=9/\Df (cf l) (cf r))
section
variable {r P h l:LR} {y:NR} (h_:OneD r P h l y)
def OneD.mr:=h_.1
def OneD.kr:=h_.2.1
def OneD.lr:=h_.2.2.1
def OneD.lP:=h_.2.2.2.1
def OneD.P0:=h_.2.2.2.2.1
def OneD.kP:=h_.2.2.2.2.2.1
def OneD.red:=h_.2.2.2.2.2.2.1
def OneD.a:=h_.2.2.2.2.2.2.2
end
noncomputable def RstD (b u v:LR):Prop :=
 Mon b/\
 RC 63 (cf b)/\
 b.length<=5/\
 EU u v/\
 (Bd (v.length - 1) (cf u)/\RC 160 (cf u)/\SzD (cf v) 120/\RC 120 (cf v)/\Al (cf v) (Ac (cf v))/\v.length<=5/\u.length<=4/\Df (cf v) (cf b))
section
variable {b u v:LR} (h_:RstD b u v)
def RstD.mb:=h_.1
def RstD.kb:=h_.2.1
def RstD.lb:=h_.2.2.1
def RstD.red:=h_.2.2.2.1
def RstD.a:=h_.2.2.2.2
end
noncomputable def CP:D->Sto->Prop:=fun d _=>d=.bool true
theorem ON {f:D->D->Option Bool} {a b e a' b' e':D} (h1:f a a'=some true) (h2:f b b'=some true) (h3:f e e'=some true):Ca f [a,b,e] [a',b',e']=some true:=by
 show (match f a a' with | some x=>(match Ca f [b,e] [b',e'] with | some y=>some (x&&y) | none=>none) | none=>none)=_
 rw [h1,eqL_two h2 h3];rfl
theorem Nt (k:Nat) (h l:LR):Bi (k+3) (qD h l) (qD h l)=some true:=by rw [RN,beq_self_eq_true,beq_self_eq_true]; rfl
theorem abU {τ:Sto} {a:Str} (ha:(a==a)=true) (h l:LR):CQ τ (.tup [.str a,qD h l]) (.tup [.str a,qD h l])=some true:=eqL_two (f:=Bi 49) (x:=true) (y:=true) (show Bi 49 (.str a) (.str a)=_ from congrArg some ha) (Nt 46 h l)
theorem abV {τ:Sto} {a:Str} (ha:(a==a)=true) (h l u v:LR):CQ τ (.tup [.str a,qD h l,qD u v]) (.tup [.str a,qD h l,qD u v])=some true:=ON (f:=Bi 49) (show Bi 49 (.str a) (.str a)=_ from congrArg some ha) (Nt 46 h l) (Nt 46 u v)
theorem Hq {p q r:LR} (wr:Rw r) (e:E8 p q r) {n:Nat} (h:p.length+q.length<=n+1):r.length<=n:=Ay wr fun j hj=>by
 rw [e,Ar];exact Cj (N:=p.length) (M:=q.length) (fun i hi=>An hi) (fun i hi=>An hi) (Mi h hj)
section
variable {c:Cx} (DO:Does13 c) {n:Nat} (hn:13<=n) {sto:Sto}
include DO hn
theorem L9 {σ:St} {r P h l b u v:LR} {y:NR} {xs:List Int} {l1:Addr} {o1:Bool} (A:OneD r P h l y) (B:RstD b u v) (hxl:xs.length=9) (hxs:∀ x∈xs,0<=x/\x<2147483647) (g1:σ.loc 1=some (.lst l1)) (g9:σ.loc 9=some (qD h l)) (g11:σ.loc 11=some (qD u v)) (s1:σ.sto l1=some (.list o1 (xs.map D.int))):Bo c n Hp (Ej sto CP) σ:=by
 have d_plus:=DO.plus;have d_scale:=DO.scale;have d_number:=DO.number;have d_slope:=DO.slope;have d_times:=DO.times;have d_growth:=DO.growth;have d_quot:=DO.quot;refine aal A.a fun eh by' ky szl kl kh ll lh dl=>?_;refine aak B.a fun bu ku szv kv sv lv lu dv=>?_;have ml:=A.red.2.1;have mv:=B.red.2.1;have hlx:(xs.map D.int).length<=lim:=by exact Mine.mlim (Fv hxl)
 unfold Hp;walk_at "m";refine i_lst s1 hlx (AS (i:=8) (Ze hxl)) ?_;walk_at "m";refine d_number.2 _ (Zf hn) (hxs _ (List.getElem_mem _)) fun x kx=>?_;walk_at "m";refine d_scale.2 l x 140 20 (Hz hn) (fun i=>kl.rs i) kx (Zg) (Zh ll) ?_;have cl:=AW l x;have ks:RC (140+20) (cf (trimL (l.map (·*x)))):=(kl.scale kx).cong cl;have ls:=trim_len (l.map (·*x));rw [List.length_map] at ls;generalize trimL (l.map (·*x))=lx at *;walk_at "m";refine d_plus.2 h lx 388 160 (Hz hn) (fun i=>kh.rs i) (fun i=>ks.rs i) (Zi) (Q3 lh) (Vx ll ls) fun w0 hw lw=>?_;have kw:RC 549 (cf (trimL w0)):=(H8 hw kh ks).mono (by decide);have ew:∀ j,cf (trimL w0) j=cf h j+cf l j*x:=fun j=>by rw [Ak,hw j,cl]
 have lw':(trimL w0).length<=9:=Nat.le_trans (trim_len w0) (Zj ll lh lw ls);generalize trimL w0=w at *;walk_at "m";refine d_slope.2 w l 549 140 (Zk hn) kw kl (Zl) (Zm) (Zn lw') (Zo ll) fun t s wt ws et es=>?_;have kt:RC 1400 (cf t):=((Gm (Be (Ec kw (AQ w) (VK lw')) kl (BX (AQ w)) (VL lw')) (Be kw (Ec kl (AQ l) (PD ll)) (AQ w) (VM lw'))).cong et).mono (by decide);have ks2:RC 285 (cf s):=((Be kl kl (AQ l) (PG ll)).cong es).mono (by decide);have lt:t.length<=14:=Ay wt fun j hj=>by
  rw [et j];exact CN (Dp (k:=14) (BX (AQ w)) (AQ l) (Zp ll lw')) (Dp (AQ w) (BX (AQ l)) (Zq ll lw')) j hj
 obtain ⟨ms,lms⟩:=Ea ml ml ws es;walk_at "m";refine d_times.2 t v 1400 120 (Fw hn) kt kv (Zr) (My lt) (Q4 lv) fun p1 w1 e1=>?_;have k1:=((kt.prod kv (JC lt)).cong e1);have n1:=Hq (n:=18) w1 e1 (Zs lt lv);walk_at "m";refine d_times.2 u s 160 285 (Fw hn) ku ks2 (Zt) (Q5 lu) (Zu lms ll) fun p2 w2 e2=>?_;have k2:=((ku.prod ks2 (Q6 lu)).cong e2);have n2:=Hq (n:=18) w2 e2 (Zv lms ll lu);walk_at "m";refine d_plus.2 p1 p2 _ _ (Hz hn) (fun i=>k1.rs i) (fun i=>k2.rs i) (Zw) (Q7 n1) (Q7 n2) fun t0 ht0 _=>?_;have kT:RC 3600 (cf (trimL t0)):=(H8 ht0 k1 k2).mono (by decide);have eT:∀ j,cf (trimL t0) j=cvn (cf t) (cf v) j+cvn (cf u) (cf s) j:=fun j=>by rw [Ak,ht0 j,e1 j,e2 j,Ar,Ar]
 have wT:=rw_trim t0;generalize trimL t0=tp at *;walk_at "m";refine d_times.2 s v 285 120 (Fw hn) ks2 kv (Zx) (Zy lms ll) (Q4 lv) fun bt w3 e3=>?_;obtain ⟨mbt,lbt⟩:=Ea ms mv w3 fun j=>by rw [e3 j,Ar]
 have k3:RC 3600 (cf bt):=((ks2.prod kv (Zz lms ll)).cong e3).mono (by decide);have ltp:tp.length<=17:=Ay wT fun j hj=>by
  rw [eT j];have b1:Bd 13 (cf t):=fun j hj=>by
   rw [et j];exact CN (Dp (k:=13) (BX (AQ w)) (AQ l) (ZA ll lw')) (Dp (AQ w) (BX (AQ l)) (ZB ll lw')) j hj
  exact B9 (Bc b1 mv.dg (VJ lv)) (Dp (k:=17) (AQ u) (AQ s) (ZC lms ll lu)) j hj
 walk_at "m";refine d_quot.2 tp bt 17 3600 (JD hn) (PF) wT w3 mbt.n kT k3 (by decide) ltp (ZD lms lbt lv ll) fun q0 q1 O=>?_;refine AO (QB A.mr A.kr A.lr A.lP A.P0 A.kP eh by' ky szl kl kh ll lh dl A.red B.mb B.kb B.lb bu ku szv kv sv lv lu dv B.red ew et es eT mbt (fun j=>by rw [e3 j,Ar]) O) fun H kq0 kq1 lq0 lq1=>?_;walk_at "m";refine d_growth.2 h l u v q0 q1 P y (ZE hn) H A.red.1 B.red.1 O.1 kq0 kq1 lq0 lq1 (fun z=>?_) fun z=>?_
 ·walk_at "m";refine c_eqD (eq_rows u []) ?_;rw [beq_iff_eq.mpr z];walk_at "m";refine c_eqD (abU rfl h l) ?_;exact ret_plain rfl
 ·walk_at "m";refine c_eqD (eq_rows u []) ?_;rw [beq_eq_false_iff_ne.mpr z];walk_at "m";refine c_eqD (abV rfl h l u v) ?_;exact ret_plain rfl
end
noncomputable def Hr:List S :=
  .assign 4 (.lst [.bin .Mod (.idx (.var 1) (.cint 5)) (.cint 2),.bin .Mod (.bin .FloorDiv (.idx (.var 1) (.cint 5)) (.cint 2)) (.cint 2),.blt .int [.cmp .Eq (.bin .Mod (.bin .FloorDiv (.idx (.var 1) (.cint 5)) (.cint 4)) (.cint 4)) (.cint 0)]]) ::
  Ib 3 101 4 ::
  .assign 10 (.call "_law_bottom" [.var 3,.var 4]) ::
  .assign 11 (.tup [.tup [],.tup [.tup [.cint 1,.cint 1]]]) ::
  .ifs (.cmp .Eq (.bin .Mod (.idx (.var 1) (.cint 6)) (.cint 2)) (.cint 0)) [.assign 11 (.call "quotient" [.call "_law_proper" [.idx (.var 1) (.cint 7),.var 10],.var 10])] [] ::
  Hp
noncomputable def Hs:List S :=
  .assign 7 (.call "_law_bottom" [.var 2,.var 4]) ::
  .assign 8 (.call "_law_row_by" [.call "_law_cell_at" [.var 0,.cint 2],.cint 3]) ::
  .assign 9 (.call "quotient" [.call "_law_plus" [.call "_law_times" [.bin .Add (.tup [.tup [.cint 0,.cint 1]]) (.var 8),.var 7],.call "_law_proper" [.idx (.var 1) (.cint 4),.var 7]],.var 7]) ::
  .ifs (.cmp .Eq (.var 8) (.tup [])) [.assign 9 (.call "quotient" [.call "_law_proper" [.idx (.var 1) (.cint 4),.var 7],.var 7])] [] ::
  Hr
theorem QF:RstD [1] [] [1]:=by
 have s1:SzD (cf [1]) 120:=fun g k dg g1 d=>by
  rw [cf_unit] at d;refine xq1_3 (K6 dg g1) fun p ep mp lp=>?_;have:=B7 BT mp (by rw [ep]; exact d);have e:=mp.one (J2 this);rw [ep] at e;rw [e,<- cf_unit];exact rc_one.mono (by decide)
 refine ⟨mon_unit,rc_one.mono (by decide),by decide,⟨.inl rfl,mon_unit,by rw [cf_unit]; exact Cm⟩,fun i hi=>HQ i,RC.none (by decide),s1,rc_one.mono (by decide),?_,by decide,by decide,BB _⟩;rw [cf_unit];exact Ao Cm
theorem Ma {fs:List LR} {ks:List Nat} {z:LR×Nat} (h:z∈fs.zip ks):z.1∈fs/\z.2∈ks:=List.of_mem_zip h
theorem XF {r:LR->LR->Prop} {fs:List LR} {ks:List Nat} (h:fs.Pairwise r):(fs.zip ks).Pairwise fun x y=>r x.1 y.1:=List.pairwise_iff_getElem.mpr fun i j hi hj hij=>by
 rw [List.length_zip] at hi hj;rw [List.getElem_zip,List.getElem_zip];exact List.pairwise_iff_getElem.mp h i j (ZF hj hij) (ZG hj) hij
theorem Ic {p:LR} {n B:Nat} (h:Cb 20 p) (l:p.length<=n) (hB:20*n+1<=B):RC B (cf p):=abT h (ZH hB l)
theorem QG {p:LR} {B:Nat} (h:RC B (cf p)):RC B (cf (0 :: p)):=by
 refine Am h fun d z h1 h2 h3 h4=>?_;refine ⟨d,fun i=>match i with | 0=>0 | i+1=>z i,h1,h2,fun i=>?_,fun i=>?_⟩
 ·cases i with
  | zero=>exact Nat.pow_pos (by decide)
  | succ i=>exact h3 i
 ·cases i with
  | zero=>exact Rat.zero_mul _
  | succ i=>exact h4 i
theorem Mb {b:Bool}:(if b then (1:Int) else 0)=((if b then 1 else 0:Nat):Int)/\(if b then 1 else 0:Nat)<=1:=by cases b <;> decide
theorem wt_one {fs:List LR} {ks:List Nat} {M:Nat} (hF:∀ f∈fs,CJ f) (hk:∀ k∈ks,k<=M):Ck ((fs.zip ks).take 1)<=M*3:=by
 cases fs with
 | nil=>exact Nat.zero_le _
 | cons f fs=>cases ks with
  | nil=>exact Nat.zero_le _
  | cons k ks =>
   show k*(f.length - 1)+0<=M*3;have:=(hF f (.head _)).2.2.1;exact Nat.mul_le_mul (hk k (.head _)) (JB this)
section
variable {c:Cx} (DO:Does13 c) {n:Nat} (hn:13<=n) {sto:Sto}
include DO hn
theorem Mc {σ:St} {r P h l:LR} {y:NR} {xs:List Int} {fs:List LR} {l1 l3:Addr} {o1 o3:Bool} (A:OneD r P h l y) (hxl:xs.length=9) (hxs:∀ x∈xs,0<=x/\x<2147483647) (lf:fs.length=3) (hF:FacG fs) (hS:SafeT σ.sto) (g1:σ.loc 1=some (.lst l1)) (g3:σ.loc 3=some (.lst l3)) (g9:σ.loc 9=some (qD h l)) (s1:σ.sto l1=some (.list o1 (xs.map D.int))) (s3:σ.sto l3=some (.list o3 (fs.map rowD))):Bo c n Hr (Ej sto CP) σ:=by
 have d_bottom:=DO.bottom;have d_quot:=DO.quot;have d_proper:=DO.proper;have hlx:(xs.map D.int).length<=lim:=by exact Mine.mlim (Fv hxl)
 unfold Hr;walk_at "m";refine i_lst s1 hlx (AS (i:=5) (Mz hxl)) ?_;walk_at "m";refine xq1_2 (Co (a:=xs[5]) (m:=2) (MA)) fun k0 hk0 ek0=>?_;rw [show (xs[5]).fmod 2=(k0:Int) from ek0];walk_at "m";refine i_lst s1 hlx (AS (i:=5) (Mz hxl)) ?_;walk_at "m";refine xq1_2 (Co (a:=(xs[5]).fdiv 2) (m:=2) (MA)) fun k1 hk1 ek1=>?_;rw [show ((xs[5]).fdiv 2).fmod 2=(k1:Int) from ek1];walk_at "m";refine i_lst s1 hlx (AS (i:=5) (Mz hxl)) ?_;walk_at "m";generalize (((xs[5]).fdiv 4).fmod 4==0)=bb;rw [(Mb (b:=bb)).1];have hb1:=(Mb (b:=bb)).2;generalize (if bb then 1 else 0:Nat)=k2 at hb1 ⊢;walk_at "m";refine ⟨zq rfl,fun l4 hl4=>?_⟩;have hl4:σ.sto l4=none:=hl4;have t1:=put_old (k:=Cell.list true ([k0,k1,k2].map fun (k:Nat)=>D.int (k:Int))) hl4 s1;have t3:=put_old (k:=Cell.list true ([k0,k1,k2].map fun (k:Nat)=>D.int (k:Int))) hl4 s3;have n1:l1≠l4:=fun z=>by rw [<- z,s1] at hl4; cases hl4
 have n3:l3≠l4:=fun z=>by rw [<- z,s3] at hl4; cases hl4
 have hks:∀ k∈[k0,k1,k2],k<=1:=by simp; exact ZI hb1 hk0 hk1
 walk_at "m";refine cut_is (ks:=[k0,k1,k2]) (M:=1) (mo:=4) (by decide) (by decide) (by decide) (by decide) (by decide) lf rfl hF.all hks (Nat.le_trans (wt_one hF.all hks) (by decide)) (hS.put rfl) rfl g3 put_same t3 n3 fun σ' ks lk hks' hwt hS' hl hs s4=>?_;have g1':σ'.loc 1=some (.lst l1):=(hl 1 (by decide)).trans g1;have g3':σ'.loc 3=some (.lst l3):=(hl 3 (by decide)).trans g3;have g4':σ'.loc 4=some (.lst l4):=(hl 4 (by decide)).trans rfl;have g9':σ'.loc 9=some (qD h l):=(hl 9 (by decide)).trans g9;have s1':=hs l1 _ n1 t1;have s3':=hs l3 _ n3 t3;show Bo c n _ _ _;walk_at "m";refine d_bottom.2 fs ks l3 l4 o3 true (Q8 hn) hS' (MB lf) hF.all (Q9 lk lf) (fun k hk=>Nat.le_trans (hks' k hk) (by decide)) (ZJ hwt) s3' s4 fun b mb lb kb eb=>?_;have kb:RC 63 (cf b):=kb.mono (ZK lf hwt);have sb:Al (cf b) (Ac (cf b)):=by
  rw [eb];exact QA _ (fun z hz=>⟨hks' _ (Ma hz).2,hF.sqf _ (Ma hz).1⟩) (XF (hF.pw (ZL lf)))
 walk_at "m";refine i_lst s1' hlx (AS (i:=6) (ZM hxl)) ?_;walk_at "m";refine if_b (fun _=>?_) fun _=>?_
 ·walk_at "m";refine i_lst s1' hlx (AS (i:=7) (ZN hxl)) ?_;walk_at "m";refine d_proper.2 _ b (Fw hn) (Mx lb) (ZO lb hwt) fun pr wpr lpr kpr=>?_;have kp81:RC 81 (cf pr):=Ic (n:=4) kpr (ZP lb hwt lpr) (by decide);walk_at "m";refine d_quot.2 pr b 5 81 (JD hn) (by decide) wpr mb.w mb.n kp81 (kb.mono (by decide)) (by decide) (ZQ lb hwt lpr) (MC lb hwt) fun u v O=>?_;walk_at "m";exact L9 DO hn A ⟨mb,kb,MC lb hwt,O.red,OL mb kb (MC lb hwt) sb kp81 kpr lpr O⟩ hxl hxs g1' g9' rfl s1'
 ·walk_at "m";exact L9 DO hn A QF hxl hxs g1' g9' rfl s1'
theorem S7 {σ:St} {is xs:List Int} {fs gs:List LR} {ks:List Nat} {l0 l1 l2 l3 l4:Addr} {o0 o1 o2 o3 o4:Bool} (hi:is.length<=1000) (hxl:xs.length=9) (hxs:∀ x∈xs,0<=x/\x<2147483647) (lf:fs.length=3) (hF:FacG fs) (lg:gs.length=3) (hG:FacG gs) (lk:ks.length=3) (hks:∀ k∈ks,k<=10) (hwt:Ck (fs.zip ks)<=5) (hS:SafeT σ.sto) (g0:σ.loc 0=some (.lst l0)) (g1:σ.loc 1=some (.lst l1)) (g2:σ.loc 2=some (.lst l2)) (g3:σ.loc 3=some (.lst l3)) (g4:σ.loc 4=some (.lst l4)) (s0:σ.sto l0=some (.list o0 (is.map D.int))) (s1:σ.sto l1=some (.list o1 (xs.map D.int))) (s2:σ.sto l2=some (.list o2 (fs.map rowD))) (s3:σ.sto l3=some (.list o3 (gs.map rowD))) (s4:σ.sto l4=some (.list o4 (ks.map fun (k:Nat)=>D.int (k:Int)))):Bo c n Hs (Ej sto CP) σ:=by
 have d_bottom:=DO.bottom;have d_rowby:=DO.rowby;have d_cell:=DO.cell;have d_quot:=DO.quot;have d_plus:=DO.plus;have d_times:=DO.times;have d_proper:=DO.proper;have hlx:(xs.map D.int).length<=lim:=by exact Mine.mlim (Fv hxl)
 unfold Hs;walk_at "m";refine d_bottom.2 fs ks l2 l4 o2 o4 (Q8 hn) hS (MB lf) hF.all (Q9 lk lf) hks hwt s2 s4 fun r mr lr kr er=>?_;have kr:RC 74 (cf r):=kr.mono (ZR lf hwt);have r1:=mr.pos;walk_at "m";refine d_cell.2 l0 is 2 o0 (ZS hn) s0 hi (by decide) fun z=>?_;walk_at "m";refine d_rowby.2 z 3 (Hz hn) (by decide) fun p8 w8 l8 k8=>?_;have kP:RC 62 (cf (0 :: p8)):=QG (Ic (n:=3) k8 l8 (by decide));have lP:(0 :: p8).length<=4:=by rw [List.length_cons]; exact ZT l8
 walk_at "m";refine Kv (zq rfl) (by exact Mine.mlim (QU l8)) ?_;walk_at "m";refine d_times.2 (0 :: p8) r 62 74 (Fw hn) kP kr (ZU) (Q5 lP) (ZV lr hwt) fun p1 w1 e1=>?_;have k1:=((kP.prod kr (Q6 lP)).cong e1);have n1:=Hq (n:=9) w1 e1 (ZW lr hwt lP);walk_at "m";refine i_lst s1 hlx (AS (i:=4) (Ra hxl)) ?_;walk_at "m";refine d_proper.2 _ r (Fw hn) r1 (Rb lr hwt) fun pr wpr lpr kpr=>?_;have kp:RC 101 (cf pr):=Ic (n:=5) kpr (Rc lr hwt lpr) (by decide);walk_at "m";refine d_plus.2 p1 pr _ 20 (Hz hn) (fun i=>k1.rs i) kpr (ZX) (Q3 n1) (ZY lr hwt lpr) fun t0 ht0 _=>?_;have kT:RC 300 (cf (trimL t0)):=(H8 ht0 k1 kp).mono (by decide);have lT:(trimL t0).length<=9:=Ay (rw_trim t0) fun j hj=>by rw [Ak,ht0 j,An (by exact ZZ hj n1),An (by exact Z0 lr hj lpr hwt),Rat.add_zero]
 have eT:∀ j,cf (trimL t0) j=cvn (cf (0 :: p8)) (cf r) j+cf pr j:=fun j=>by rw [Ak,ht0 j,e1 j,Ar]
 walk_at "m";refine d_quot.2 (trimL t0) r 9 300 (JD hn) (by decide) (rw_trim t0) mr.w mr.n kT (kr.mono (by decide)) (by decide) lT (Rd lr hwt) fun h l O=>?_;obtain ⟨y,hy⟩:=Lg mr kr (J5 lr hwt) lP kP kp kpr lpr eT O;walk_at "m";refine c_eqD (eq_rows p8 []) ?_;walk_at "m";refine if_b (fun hb=>?_) fun _=>?_
 ·have z8:p8=[]:=by simpa using hb
  walk_at "m";refine i_lst s1 hlx (AS (i:=4) (Ra hxl)) ?_;walk_at "m";refine d_proper.2 _ r (Fw hn) r1 (Rb lr hwt) fun pr' wpr' lpr' kpr'=>?_;have kp':RC 101 (cf pr'):=Ic (n:=5) kpr' (Rc lr hwt lpr') (by decide);walk_at "m";refine d_quot.2 pr' r 9 300 (JD hn) (by decide) wpr' mr.w mr.n (kp'.mono (by decide)) (kr.mono (by decide)) (by decide) (Z1 lr hwt lpr') (Rd lr hwt) fun h' l' O'=>?_;obtain ⟨y',hy'⟩:=Lg mr kr (J5 lr hwt) lP kP kp' kpr' lpr' (fun j=>by
   rw [z8,show cf [0]=fun _=>0 from funext fun i=>by cases i <;> rfl,Ag,Rat.zero_add]) O'
  walk_at "m";exact Mc DO hn ⟨mr,kr,J5 lr hwt,lP,rfl,kP,O'.red,hy'⟩ hxl hxs lg hG hS g1 g3 rfl s1 s3
 ·walk_at "m";exact Mc DO hn ⟨mr,kr,J5 lr hwt,lP,rfl,kP,O.red,hy⟩ hxl hxs lg hG hS g1 g3 rfl s1 s3
end
noncomputable def I8:E:=.bin .Mult (.blt .min [.idx (.var 4) (.cint 0),.bin .Sub (.cint 8) (.bin .Mult (.cint 2) (.blt .len [.idx (.var 2) (.cint 0)]))]) (.bin .Mod (.idx (.var 1) (.cint 2)) (.cint 2))
noncomputable def Ht:E:=.bin .Mult (.bin .Mod (.bin .FloorDiv (.idx (.var 1) (.cint 2)) (.cint 2)) (.cint 3)) (.blt .int [.bool .Or [.cmp .Lt (.blt .len [.idx (.var 2) (.cint 1)]) (.cint 3),.cmp .Lt (.var 5) (.cint 3)]])
noncomputable def Hu:List S :=
  .assign 5 I8 ::
  .assign 4 (.lst [.var 5,Ht,.blt .int [.cmp .Eq (.bin .Mod (.idx (.var 1) (.cint 2)) (.cint 16)) (.cint 4)]]) ::
  Ib 2 100 5 :: Hs
noncomputable def I9:List S :=
  .assign 1 (.call "_law_stream" [.call "_law_cell_at" [.var 0,.cint 0],.cint 9]) ::
  .assign 2 (.call "_law_factors" [.idx (.var 1) (.cint 0),.cint 3]) ::
  .assign 3 (.call "_law_factors" [.bin .Add (.idx (.var 1) (.cint 0)) (.bin .Mod (.idx (.var 1) (.cint 1)) (.cint 2)),.cint 3]) ::
  .assign 4 (.call "_law_powers" [.call "_law_cell_at" [.var 0,.cint 1],.var 2]) ::
  Hu
theorem f84 {l:Nat} (h:l<5):(8 - 2*l)*(l - 1)<=4:=by
 have:∀ l:Fin 5,(8 - 2*l.val)*(l.val - 1)<=4:=by decide
 exact this ⟨l,h⟩
section
variable {c:Cx} {n:Nat} {Q:D->St->Prop} {σ:St} {fs:List LR} {xs:List Int} {l1 l2:Addr} {o1 o2:Bool}
theorem QH {ks:List Nat} {l4:Addr} {o4:Bool} (hxl:xs.length=9) (lf:fs.length=3) (hF:∀ f∈fs,CJ f) (lk:ks.length=3) (hks:∀ k∈ks,1<=k/\k<=10) (g1:σ.loc 1=some (.lst l1)) (g2:σ.loc 2=some (.lst l2)) (g4:σ.loc 4=some (.lst l4)) (s1:σ.sto l1=some (.list o1 (xs.map D.int))) (s2:σ.sto l2=some (.list o2 (fs.map rowD))) (s4:σ.sto l4=some (.list o4 (ks.map fun (k:Nat)=>D.int (k:Int)))) (h:∀ k:Nat,k<=4->k*((fs[0]'(Fx lf)).length - 1)<=4->Q (.int k) σ):wE c n I8 Q σ:=by
 have hlx:(xs.map D.int).length<=lim:=by exact Mine.mlim (Fv hxl)
 have F:=hF _ (List.getElem_mem (show 0<fs.length by exact Fx lf));have hk:=hks _ (List.getElem_mem (show 0<ks.length by exact Fx lk));have hf0:fs[0]?=some (fs[0]'(Fx lf)):=List.getElem?_eq_getElem _;have hk0:ks[0]?=some (ks[0]'(Fx lk)):=List.getElem?_eq_getElem _;generalize fs[0]'(Fx lf)=f at *;generalize ks[0]'(Fx lk)=k at *;have l4:=F.2.2.1;have l2':=F.2.2.2.1.1;unfold I8;walk_at "m";refine i_lst (d:=.int k) s4 (by exact Mine.mlim (Gw lk)) ?_ ?_
 ·unfold BH;rw [if_pos (by decide)];show (ks.map _)[0]?=_;rw [List.getElem?_map,hk0]; rfl
 walk_at "m";refine i_lst s2 (by exact Mine.mlim (Gw lf)) (FS (i:=0) hf0) ?_;walk_at "m";refine f_lenR (Fu l4) ?_;refine BS (CL (k:=10) (Z2) (Z3 l4) (Ft)) ?_;walk_at "m";refine i_lst s1 hlx (AS (i:=2) (MD hxl)) ?_;walk_at "m";refine xq1_2 (Co (a:=xs[2]) (m:=2) (MA)) fun u hu eu=>?_;rw [show (xs[2]).fmod 2=(u:Int) from eu];obtain ⟨m,hm⟩:∃ m:Nat,min (k:Int) (8 - 2*(f.length:Int))=(m:Int):=⟨(min (k:Int) (8 - 2*(f.length:Int))).toNat,Z4 l4⟩;rw [hm];refine BS (CL (k:=10) (Z5 hm) (Z6 hu) (Ft)) ?_;rw [<- Int.natCast_mul];have hmu:m*u<=m:=by
  have:=Nat.mul_le_mul_left m (show u<=1 by exact Z7 hu);exact Z8 this
 have hm4:m*(f.length - 1)<=4:=Nat.le_trans (Nat.mul_le_mul_right _ (show m<=8 - 2*f.length by exact Z9 hm)) (f84 (aaa l4));exact h (m*u) (aab hm l2' hmu) (Nat.le_trans (Nat.mul_le_mul_right _ hmu) hm4)
theorem OO {z:Int} (hxl:xs.length=9) (lf:fs.length=3) (hF:∀ f∈fs,CJ f) (g1:σ.loc 1=some (.lst l1)) (g2:σ.loc 2=some (.lst l2)) (g5:σ.loc 5=some (.int z)) (s1:σ.sto l1=some (.list o1 (xs.map D.int))) (s2:σ.sto l2=some (.list o2 (fs.map rowD))) (h:∀ k:Nat,k<=2->Q (.int k) σ):wE c n Ht Q σ:=by
 have hlx:(xs.map D.int).length<=lim:=by exact Mine.mlim (Fv hxl)
 have hf1:fs[1]?=some (fs[1]'(ME lf)):=List.getElem?_eq_getElem _;have F:=hF _ (List.getElem_mem (show 1<fs.length by exact ME lf));generalize fs[1]'(ME lf)=f at *;have l4:=F.2.2.1;unfold Ht;walk_at "m";refine i_lst s1 hlx (AS (i:=2) (MD hxl)) ?_;walk_at "m";refine xq1_2 (Co (a:=(xs[2]).fdiv 2) (m:=3) (VS)) fun u hu eu=>?_;rw [show ((xs[2]).fdiv 2).fmod 3=(u:Int) from eu];have tail:∀ b:Bool,BD .Mult (.int u) (.int (if b then 1 else 0)) Q σ:=fun b=>by
  rw [(Mb (b:=b)).1];have hb:=(Mb (b:=b)).2;generalize (if b then 1 else 0:Nat)=w at hb ⊢;refine BS (CL (k:=10) (aac hu) (aad hb) (Ft)) ?_;rw [<- Int.natCast_mul];exact h _ (Nat.mul_le_mul (show u<=2 by exact aae hu) hb)
 walk_at "m";refine i_lst s2 (by exact Mine.mlim (Gw lf)) (FS (i:=1) hf1) ?_;walk_at "m";refine f_lenR (Fu l4) ?_;walk_at "m";refine if_or (fun hb=>?_) fun _=>?_
 ·rw [hb];walk_at "m";exact tail true
 ·walk_at "m";exact tail _
end
section
variable {c:Cx} (DO:Does13 c) {n:Nat} (hn:13<=n) {sto:Sto}
include DO hn
theorem S8 {σ:St} {is xs:List Int} {fs gs:List LR} {ks:List Nat} {a l1 l2 l3 l4:Addr} {o0 o1 o2 o3 o4:Bool} (hi:is.length<=1000) (hxl:xs.length=9) (hxs:∀ x∈xs,0<=x/\x<2147483647) (lf:fs.length=3) (hF:FacG fs) (lg:gs.length=3) (hG:FacG gs) (lk:ks.length=fs.length) (hks:∀ k∈ks,1<=k/\k<=10) (S4:SafeT σ.sto) (g0:σ.loc 0=some (.lst a)) (g1:σ.loc 1=some (.lst l1)) (g2:σ.loc 2=some (.lst l2)) (g3:σ.loc 3=some (.lst l3)) (g4:σ.loc 4=some (.lst l4)) (e0:σ.sto a=some (.list o0 (is.map D.int))) (e1:σ.sto l1=some (.list o1 (xs.map D.int))) (e2:σ.sto l2=some (.list o2 (fs.map rowD))) (e3:σ.sto l3=some (.list o3 (gs.map rowD))) (e4:σ.sto l4=some (.list o4 (ks.map fun (k:Nat)=>D.int (k:Int)))):Bo c n Hu (Ej sto CP) σ:=by
 have hlx:(xs.map D.int).length<=lim:=by exact Mine.mlim (Fv hxl)
 unfold Hu;walk_at "m";refine QH hxl lf hF.all (aaf lf lk) hks g1 g2 g4 e1 e2 e4 fun k0 hk4 hkw=>?_;walk_at "m";refine OO hxl lf hF.all g1 g2 rfl e1 e2 fun k1 hk1=>?_;walk_at "m";refine i_lst e1 hlx (AS (i:=2) (MD hxl)) ?_;walk_at "m";generalize ((xs[2]).fmod 16==4)=bb;rw [(Mb (b:=bb)).1];have hb1:=(Mb (b:=bb)).2;generalize (if bb then 1 else 0:Nat)=k2 at hb1 ⊢;walk_at "m";refine ⟨zq rfl,fun l5 hl5=>?_⟩;have hl5:σ.sto l5=none:=hl5;have f0:=put_old (k:=Cell.list true ([k0,k1,k2].map fun (k:Nat)=>D.int (k:Int))) hl5 e0;have f1:=put_old (k:=Cell.list true ([k0,k1,k2].map fun (k:Nat)=>D.int (k:Int))) hl5 e1;have f2:=put_old (k:=Cell.list true ([k0,k1,k2].map fun (k:Nat)=>D.int (k:Int))) hl5 e2;have f3:=put_old (k:=Cell.list true ([k0,k1,k2].map fun (k:Nat)=>D.int (k:Int))) hl5 e3;have ne:∀ {x:Addr} {k:Cell},σ.sto x=some k->x≠l5:=fun e q=>by rw [q,hl5] at e; cases e
 walk_at "m";refine cut_is (ks:=[k0,k1,k2]) (M:=10) (mo:=5) (by decide) (by decide) (by decide) (by decide) (by decide) lf rfl hF.all (by simp; exact aag hk4 hb1 hk1) ?_ (S4.put rfl) rfl g2 put_same f2 (ne e2) fun σ' ks' lk' hks' hwt hS' hl hs s4=>?_
 ·refine MJ (Ho lf) fun f f' f'' q241_=>?_; obtain rfl:=q241_;exact Nat.le_trans hkw (by decide)
 exact S7 DO hn hi hxl hxs lf hF lg hG lk' hks' hwt hS' ((hl 0 (by decide)).trans g0) ((hl 1 (by decide)).trans g1) ((hl 2 (by decide)).trans g2) ((hl 3 (by decide)).trans g3) (hl 4 (by decide)) (hs a _ (ne e0) f0) (hs l1 _ (ne e1) f1) (hs l2 _ (ne e2) f2) (hs l3 _ (ne e3) f3) s4
end
section
variable {c:Cx} (DO:Does13 c) (CO:CxOK c)
include DO CO
theorem Nu (hf:FnK c "law" 1 I9) {a:Addr} {is:List Int} {sto:Sto} {o:Bool} (hS:SafeT sto) (hs:sto a=some (.list o (is.map D.int))) (hl:is.length<=1000):Ah c 20 "law" [.lst a] sto (fun d _=>d=.bool true):=by
 have d_stream:=DO.stream;have d_cell:=DO.cell;have d_facts:=DO.facts;have d_powers:=DO.powers;refine fn_call CO hf rfl ?_;unfold I9;have s0:=CU hs;walk_at "m";refine d_cell.2 a is 0 false (MF) s0 hl (by decide) fun z=>?_;walk_at "m";refine d_stream.2 z 9 (MF) (by decide) fun xs l1 hxl hxs hl1=>?_;have S1:=hS.ro.put (l:=l1) (b:=true) (safe_ints xs);have a0:=put_old (k:=Cell.list true (xs.map D.int)) hl1 s0;have a1:=put_same (s:=Sto.ro sto) (l:=l1) (k:=Cell.list true (xs.map D.int));have hlx:(xs.map D.int).length<=lim:=by exact Mine.mlim (Fv hxl)
 walk_at "m";refine i_lst a1 hlx (AS (i:=0) (Re hxl)) ?_;walk_at "m";refine d_facts.2 _ 3 (Rf) (by decide) fun fs l2 lf hF hl2=>?_;have S2:=S1.put (l:=l2) (b:=true) (Gu fs);have b0:=put_old (k:=Cell.list true (fs.map rowD)) hl2 a0;have b1:=put_old (k:=Cell.list true (fs.map rowD)) hl2 a1;have b2:=put_same (s:=Sto.put (Sto.ro sto) l1 (.list true (xs.map D.int))) (l:=l2) (k:=Cell.list true (fs.map rowD));walk_at "m";refine i_lst b1 hlx (AS (i:=0) (Re hxl)) ?_;walk_at "m";refine i_lst b1 hlx (AS (i:=1) (aah hxl)) ?_;walk_at "m";refine d_facts.2 _ 3 (Rf) (by decide) fun gs l3 lg hG hl3=>?_;have S3:=S2.put (l:=l3) (b:=true) (Gu gs);have d0:=put_old (k:=Cell.list true (gs.map rowD)) hl3 b0;have d1:=put_old (k:=Cell.list true (gs.map rowD)) hl3 b1;have d2:=put_old (k:=Cell.list true (gs.map rowD)) hl3 b2;have d3:=put_same (s:=Sto.put (Sto.put (Sto.ro sto) l1 (.list true (xs.map D.int))) l2 (.list true (fs.map rowD))) (l:=l3) (k:=Cell.list true (gs.map rowD));walk_at "m";refine d_cell.2 a is 1 false (MF) d0 hl (by decide) fun z=>?_;walk_at "m";refine d_powers.2 z fs l2 true (aai) (aaj lf) (MB lf) hF.all d2 fun ks l4 lk hks hl4=>?_;have ski:(ks.map fun (k:Nat)=>D.int (k:Int)).all B2=true:=List.all_eq_true.mpr fun d hd=>by
  refine xq1_2 (List.mem_map.mp hd) fun k _ q242_=>?_; obtain rfl:=q242_;rfl
 have S4:=S3.put (l:=l4) (b:=true) ski;have e0:=put_old (k:=Cell.list true (ks.map fun (k:Nat)=>D.int (k:Int))) hl4 d0;have e1:=put_old (k:=Cell.list true (ks.map fun (k:Nat)=>D.int (k:Int))) hl4 d1;have e2:=put_old (k:=Cell.list true (ks.map fun (k:Nat)=>D.int (k:Int))) hl4 d2;have e3:=put_old (k:=Cell.list true (ks.map fun (k:Nat)=>D.int (k:Int))) hl4 d3;have e4:=put_same (s:=Sto.put (Sto.put (Sto.put (Sto.ro sto) l1 (.list true (xs.map D.int))) l2 (.list true (fs.map rowD))) l3 (.list true (gs.map rowD))) (l:=l4) (k:=Cell.list true (ks.map fun (k:Nat)=>D.int (k:Int)));exact S8 DO (by decide) hl hxl hxs lf hF lg hG lk hks S4 rfl rfl rfl rfl rfl e0 e1 e2 e3 e4
end
noncomputable def Me:List (Str×List S×Nat):=[
 ((Str.ofString "divisor_of"),B6,2),
 ((Str.ofString "fraction"),FC,2),
 ((Str.ofString "is_whole"),Ct,1),
 ((Str.ofString "is_fraction"),CV,1),
 ((Str.ofString "sum_of"),JI (Str.ofString "fraction"),2),
 ((Str.ofString "product_of"),HT (Str.ofString "fraction"),2),
 ((Str.ofString "part_of"),KE (Str.ofString "fraction"),2),
 ((Str.ofString "turned"),FE,1),
 ((Str.ofString "is_row"),Hc,1),
 ((Str.ofString "need_row"),D5,1),
 ((Str.ofString "trimmed"),Gd,1),
 ((Str.ofString "added"),II,2),
 ((Str.ofString "scaled"),FF (Str.ofString "trimmed") (Str.ofString "product_of") (Str.ofString "one"),2),
 ((Str.ofString "lessened"),FG,2),
 ((Str.ofString "multiplied"),s_multiplied,2),
 ((Str.ofString "parted"),s_parted,2),
 ((Str.ofString "led"),Nc,1),
 ((Str.ofString "raised"),Hm,2),
 ((Str.ofString "rate_of"),D9 (Str.ofString "trimmed") (Str.ofString "product_of") (Str.ofString "place"),1),
 ((Str.ofString "shared"),Hf,2),
 ((Str.ofString "is_quotient"),DU,1),
 ((Str.ofString "need_quotient"),Dq,1),
 ((Str.ofString "made"),K7,2),
 ((Str.ofString "together"),FQ,2),
 ((Str.ofString "quotient"),Nj true (Str.ofString "made") (Str.ofString "a quotient by nought"),2),
 ((Str.ofString "by_powers"),ET,1),
 ((Str.ofString "cut"),Nd,2),
 ((Str.ofString "pieces_of"),EV,3),
 ((Str.ofString "taken"),IX,2),
 ((Str.ofString "grown_row"),EW,1),
 ((Str.ofString "lowered"),Go,3),
 ((Str.ofString "tops_by_parts"),Dr,1),
 ((Str.ofString "growth"),Hn,1),
 ((Str.ofString "_law_cell_at"),CB,2),
 ((Str.ofString "_law_stream"),BP,2),
 ((Str.ofString "_law_divisor"),Bt,2),
 ((Str.ofString "_law_fraction"),BA,2),
 ((Str.ofString "_law_sum"),JI (Str.ofString "_law_fraction"),2),
 ((Str.ofString "_law_product"),HT (Str.ofString "_law_fraction"),2),
 ((Str.ofString "_law_trim"),Cl,1),
 ((Str.ofString "_law_plus"),ES,2),
 ((Str.ofString "_law_scale"),FF (Str.ofString "_law_trim") (Str.ofString "_law_product") (Str.ofString "_law_part"),2),
 ((Str.ofString "_law_times"),Em,2),
 ((Str.ofString "_law_rate"),D9 (Str.ofString "_law_trim") (Str.ofString "_law_product") (Str.ofString "_law_k"),1),
 ((Str.ofString "_law_power"),s__law_power,2),
 ((Str.ofString "_law_number"),CS,1),
 ((Str.ofString "_law_row_by"),DS,2),
 ((Str.ofString "_law_factors"),DF,2),
 ((Str.ofString "_law_powers"),DW,2),
 ((Str.ofString "_law_bottom"),DX,2),
 ((Str.ofString "_law_slope"),Ew,1),
 ((Str.ofString "_law_proper"),DY,2),
 ((Str.ofString "law"),I9,1)]
noncomputable def AllFn (c:Cx):List (Str×List S×Nat)->Prop
 | []=>True
 | x :: r=>FnK c x.1 x.2.2 x.2.1/\AllFn c r
theorem AllFn.at {c:Cx}:∀ (t:List (Str×List S×Nat)),AllFn c t->∀ (i:Nat) (x:Str×List S×Nat),t[i]?=some x->FnK c x.1 x.2.2 x.2.1
 | [],_,i,x,e=>by cases e
 | y :: r,k,0,x,e=>by cases e; exact k.1
 | y :: r,k,i+1,x,e=>AllFn.at r k.2 i x e
section
variable {c:Cx} (CO:CxOK c)
include CO
theorem QI (zz:c.cs "ZERO"=some (Ae 0)) (uu:c.cs "UNIT"=some (rowD [1])) (ee:c.cs "EMPTY"=some (qD [] [1])) (N:AllFn c Me) {a:Addr} {is:List Int} {sto:Sto} {o:Bool} (hS:SafeT sto) (hs:sto a=some (.list o (is.map D.int))) (hl:is.length<=1000):Ah c 20 "law" [.lst a] sto (fun d _=>d=.bool true):=by
 have N:=AllFn.at Me N;have LN:LNums c:=⟨N 33 _ rfl,N 34 _ rfl,N 35 _ rfl,N 36 _ rfl,N 45 _ rfl⟩;have frO:=abj CO (N 1 _ rfl) (N 0 _ rfl);have sumO:=N4 CO (N 4 _ rfl) frO;have prodO:=LH CO (N 5 _ rfl) frO;have partO:=Sm CO (N 6 _ rfl) frO;have trimO:=M8 CO zz (N 10 _ rfl);have rowO:=N5 CO zz (N 3 _ rfl) (N 0 _ rfl) (N 2 _ rfl) (N 8 _ rfl);have scO:=Jp CO trimO prodO (N 12 _ rfl);have adO:C6 c:=⟨(N 11 _ rfl).isFn,fun p q k l {m sto Q} hm kp kq hkl lp lq h=>P6 CO zz sumO trimO (N 11 _ rfl) kp kq hkl lp lq hm h⟩;have muO:Fe c:=⟨(N 14 _ rfl).isFn,fun p q k l {m sto Q} hm kp kq hkl lp lq h=>IJ CO zz sumO prodO trimO (N 14 _ rfl) kp kq hkl lp lq hm h⟩;have paO:CY c:=⟨(N 15 _ rfl).isFn,fun p q a b {m sto Q} hm kp kq hab hq hw lp lq h=>M9 CO zz sumO prodO partO trimO (N 7 _ rfl) (N 15 _ rfl) kp kq hab hq (hw.resolve_left hq) lp lq hm h⟩;have leO:=Lo CO adO scO (N 13 _ rfl);have shG:OD c:=⟨(N 19 _ rfl).isFn,fun p q L b {m sto Q} hm hL hp hq kp kq hK lp lq h=>Oe CO uu paO muO leO partO scO (N 19 _ rfl) hL hp hq kp kq hK lp lq hm h⟩;have shO:=Xf shG;have pow:=Ou CO (Sw CO partO scO (N 16 _ rfl)) (Qf CO trimO prodO (N 18 _ rfl)) (WT shO) (KT paO) (N 25 _ rfl);have cut:=WU CO pow (N 26 _ rfl);have maR:=SH CO shG paO partO scO (N 22 _ rfl);have raiG:=SM CO uu muO (N 17 _ rfl);have tak:=SN CO paO cut raiG shO muO (SL CO paO (N 27 _ rfl)) (N 28 _ rfl);have low:=SO CO (Lc CO trimO prodO (N 18 _ rfl)) shG muO paO leO maR scO raiG adO (N 30 _ rfl);have tog:=SJ CO adO muO maR (N 23 _ rfl);have need:=Qs CO uu rowO shG (N 20 _ rfl) (N 21 _ rfl);have grw:=SX CO ee uu need tak (SV CO zz partO (N 29 _ rfl)) (ST CO (N 31 _ rfl)) adO low tog maR (N 32 _ rfl);have quo:=SI CO rowO (N 9 _ rfl) maR (N 24 _ rfl);have frL:=Wz CO (N 36 _ rfl) (N 35 _ rfl);have sumL:=N4 CO (N 37 _ rfl) frL;have prodL:=LH CO (N 38 _ rfl) frL;have trimL':=Ln CO (N 39 _ rfl);have plL:=Sl CO trimL' sumL (N 40 _ rfl);have scL:=Jp CO trimL' prodL (N 41 _ rfl);have tiL:=OK CO plL scL (N 42 _ rfl);have rbL:Nq c:=⟨(N 46 _ rfl).isFn,fun x most {m sto Q} hm hmo h=>N6 CO LN trimL' (N 46 _ rfl) hmo hm h⟩;refine Nu ⟨tiL,plL,scL,XD CO tiL (Lc CO trimL' prodL (N 43 _ rfl)) scL plL (N 50 _ rfl),XE CO rbL (N 51 _ rfl),rbL,quo,grw,XB CO tiL (Xq CO tiL (N 44 _ rfl)) (N 49 _ rfl),Xy CO (N 34 _ rfl) (N 48 _ rfl),Np CO (N 34 _ rfl) frL sumL prodL (N 39 _ rfl) (N 47 _ rfl),⟨(N 33 _ rfl).isFn,fun a is i o {m sto Q} hm hs hl hi h=>?_⟩,⟨(N 45 _ rfl).isFn,fun x {m sto Q} hm hx h=>?_⟩,⟨(N 34 _ rfl).isFn,fun z k {m sto Q} hm hk h=>?_⟩⟩ CO (N 52 _ rfl) hS hs hl
 ·obtain ⟨n,rfl⟩:∃ n,m=n+1:=⟨m - 1,EM hm⟩;exact Kz CO (N 33 _ rfl) hs hl hi h
 ·obtain ⟨n,rfl⟩:∃ n,m=n+3:=⟨m - 3,TG hm⟩;exact EJ CO (N 45 _ rfl) (N 35 _ rfl) (N 36 _ rfl) hx fun r h1 h2=>h r (rs_of h1 h2)
 ·obtain ⟨n,rfl⟩:∃ n,m=n+1:=⟨m - 1,EM hm⟩;exact DJ CO (N 34 _ rfl) hk h
end
end Mine
end
open PySem PySem.W PyProof.Rows Mine
theorem Mine.const_of {mg:Str->Option Value} {h:Heap} {y:Str} {d:D} {cs:List (Str×D)} {v:Value} (e1:mg y=some v) (r:Rep h v d) (k:∀ x e,cs.lookup x=some e->∃ v,mg x=some v/\Rep h v e):∀ x e,((y,d) :: cs).lookup x=some e->∃ v,mg x=some v/\Rep h v e:=fun x e hx=>by
 rw [List.lookup_cons] at hx
 by_cases z:x=y
 ·subst z;rw [beq_self_eq_true] at hx;cases hx;exact ⟨_,e1,r⟩
 ·rw [beq_eq_false_iff_ne.mpr z] at hx;exact k x e hx
theorem Mine.unit_of {K:Frag} {h:Heap} (X:K.In h) (b d:Addr) (t u:Tok) (e4:K.lookup b=some { cls:=.type "tuple",data:=.seq #[.ref d] }) (e5:K.lookup d=some { cls:=.type "tuple",data:=.seq #[.int 1 t,.int 1 u] }):Rep h (.ref b) (rowD [1]):=.tup (n:=0) (vs:=[.ref d]) (X _ _ e4) (.cons (.tup (n:=0) (vs:=[.int 1 t,.int 1 u]) (X _ _ e5) (.cons (.int 1 t) (.cons (.int 1 u) .nil))) .nil)
theorem Mine.safe_one (is:List Int) {la:Addr}:SafeT (fun b=>if b=la then some (.list false (is.map D.int)) else none):=by
 have key:∀ b k,(if b=la then some (Cell.list false (is.map D.int)) else none)=some k->k=.list false (is.map D.int):=fun b k e=>by
  by_cases z:b=la
  ·rw [if_pos z] at e; cases e; rfl
  ·rw [if_neg z] at e; cases e
 refine ⟨fun b o ds e=>?_,fun b ps e=>?_⟩
 ·cases key b _ e;exact safe_ints is
 ·cases key b _ e
set_option maxHeartbeats 8000000 in
theorem PySem.Challenge.cw_uf030008_13_holds : PySem.Challenge.rw_uf030008_13.Holds := by
 w_on
 refine holds_law (by decide +kernel) fun said=>?_;refine holds_open (q:=Mine.BQ) (loose:=[]) (Xt:=fun s=>xlAt Mine.BQ [] s&&recOk (RowW.records Mine.r13.toRowW) s) (XP:=XL Mine.BQ []) (Yf:=Hook.obs Mine.Hv) (Ya:=Hook.val Mine.Hv) (YP:=Hook.says Mine.Hv) (N:=5398) Mine.Ta (Hook.of Mine.Hv) (Hook.keeps Mine.Hv) (fun s e=>xl_of s (Bool.and_eq_true_iff.mp e).1) XL.keeps (by rfl) (by rfl) (by rfl) (fun s e=>recFacts_of (Bool.and_eq_true_iff.mp e).2) (by rfl) said (by decide +kernel) ⟨rfl,rfl,rfl,rfl,rfl,by decide +kernel⟩ ?hw ?hc
 case hw=>w_witness2
 intro w s₀ s₁ mg mb G Y fa o pm cd doc dV kV ho hd hcd hD hmg hg args vals as hpre hlay hrd hwl hlo;have KX:=kIn_of Y;refine Ground.open G ?_;intro T B D TE TW;clear ho hd hcd hD Y B D TE TW
 wrow_args hpre hlay hrd hwl hlo
 rename_i is _ _ _ _ _ _ _ la vs _ hL _ _ _ hI _ hlen _;have hz:=Mine.const_of (mg_of KX T.g (n:="ZERO") (by kernel_rfl)) (.tup (n:=0) (vs:=[.int 0 324,.int 1 325]) (KX 120 _ (by kernel_rfl)) (.cons (.int 0 324) (.cons (.int 1 325) .nil))) (Mine.const_of (mg_of KX T.g (n:="UNIT") (by kernel_rfl)) (Mine.unit_of KX 122 121 327 328 (by kernel_rfl) (by kernel_rfl)) (Mine.const_of (mg_of KX T.g (n:="EMPTY") (by kernel_rfl)) (.tup (n:=0) (vs:=[.ref 203,.ref 205]) (KX 206 _ (by kernel_rfl)) (.cons (.tup (n:=0) (vs:=[]) (KX 203 _ (by kernel_rfl)) .nil) (.cons (Mine.unit_of KX 205 204 443 444 (by kernel_rfl) (by kernel_rfl)) .nil))) (fun x e (h:List.lookup x []=some e)=>by cases h)));have CO:=mk_light (cs:=[("ZERO",Ae 0),("UNIT",rowD [1]),("EMPTY",qD [] [1])]) (prog:=Challenge.rw_uf030008_13.row.prog) (w:=w) T (by decide +kernel) (by rfl) (by kernel_rfl) hz;have hlaw:mg "law"=some (.ref fa):=hmg;clear hmg G;have fn:=fun {f:Str} {ps vars:List Str} {ss:List S} e el=>PZ (c:=P2 Challenge.rw_uf030008_13.row.prog w s₁.heap mg [("ZERO",Ae 0),("UNIT",rowD [1]),("EMPTY",qD [] [1])]) (f:=f) (ps:=ps) (vars:=vars) (ss:=ss) T e el;have call:=QI CO rfl rfl rfl
  ⟨⟨_,_,fn (ps:=["one","other"]) (vars:=["one","other","here","there","rest"]) (by kernel_rfl) (by kernel_rfl),rfl⟩,⟨_,_,fn (ps:=["top","bottom"]) (vars:=["top","bottom","by"]) (by kernel_rfl) (by kernel_rfl),rfl⟩,⟨_,_,fn (ps:=["thing"]) (vars:=["thing"]) (by kernel_rfl) (by kernel_rfl),rfl⟩,⟨_,_,fn (ps:=["thing"]) (vars:=["thing"]) (by kernel_rfl) (by kernel_rfl),rfl⟩,⟨_,_,fn (ps:=["one","other"]) (vars:=["one","other"]) (by kernel_rfl) (by kernel_rfl),rfl⟩,⟨_,_,fn (ps:=["one","other"]) (vars:=["one","other"]) (by kernel_rfl) (by kernel_rfl),rfl⟩,⟨_,_,fn (ps:=["one","other"]) (vars:=["one","other"]) (by kernel_rfl) (by kernel_rfl),rfl⟩,⟨_,_,fn (ps:=["one"]) (vars:=["one"]) (by kernel_rfl) (by kernel_rfl),rfl⟩,⟨_,_,fn (ps:=["thing"]) (vars:=["thing","one"]) (by kernel_rfl) (by kernel_rfl),rfl⟩,⟨_,_,fn (ps:=["thing"]) (vars:=["thing"]) (by kernel_rfl) (by kernel_rfl),rfl⟩,⟨_,_,fn (ps:=["some"]) (vars:=["some","size"]) (by kernel_rfl) (by kernel_rfl),rfl⟩,⟨_,_,fn (ps:=["one","other"]) (vars:=["one","other","found","place"]) (by kernel_rfl) (by kernel_rfl),rfl⟩,⟨_,_,fn (ps:=["row","number"]) (vars:=["row","number"]) (by kernel_rfl) (by kernel_rfl),rfl⟩,⟨_,_,fn (ps:=["one","other"]) (vars:=["one","other"]) (by kernel_rfl) (by kernel_rfl),rfl⟩,⟨_,_,fn (ps:=["one","other"]) (vars:=["one","other","found","here","there"]) (by kernel_rfl) (by kernel_rfl),rfl⟩,⟨_,_,fn (ps:=["one","other"]) (vars:=["one","other","rest","whole","place","often","at"]) (by kernel_rfl) (by kernel_rfl),rfl⟩,⟨_,_,fn (ps:=["row"]) (vars:=["row"]) (by kernel_rfl) (by kernel_rfl),rfl⟩,⟨_,_,fn (ps:=["row","power"]) (vars:=["row","power","found","turn"]) (by kernel_rfl) (by kernel_rfl),rfl⟩,⟨_,_,fn (ps:=["row"]) (vars:=["row"]) (by kernel_rfl) (by kernel_rfl),rfl⟩,⟨_,_,fn (ps:=["one","other"]) (vars:=["one","other","ahead","behind","whole","rest","first","second","by"]) (by kernel_rfl) (by kernel_rfl),rfl⟩,⟨_,_,fn (ps:=["thing"]) (vars:=["thing"]) (by kernel_rfl) (by kernel_rfl),rfl⟩,⟨_,_,fn (ps:=["thing"]) (vars:=["thing"]) (by kernel_rfl) (by kernel_rfl),rfl⟩,⟨_,_,fn (ps:=["top","bottom"]) (vars:=["top","bottom","both","high","low","by"]) (by kernel_rfl) (by kernel_rfl),rfl⟩,⟨_,_,fn (ps:=["one","other"]) (vars:=["one","other","top"]) (by kernel_rfl) (by kernel_rfl),rfl⟩,⟨_,_,fn (ps:=["top","bottom"]) (vars:=["top","bottom"]) (by kernel_rfl) (by kernel_rfl),rfl⟩,⟨_,_,fn (ps:=["row"]) (vars:=["row","whole","more","left","found","power","again","alone"]) (by kernel_rfl) (by kernel_rfl),rfl⟩,⟨_,_,fn (ps:=["row","told"]) (vars:=["row","told","found","other"]) (by kernel_rfl) (by kernel_rfl),rfl⟩,⟨_,_,fn (ps:=["top","part","power"]) (vars:=["top","part","power","found","many","rest"]) (by kernel_rfl) (by kernel_rfl),rfl⟩,⟨_,_,fn (ps:=["one","told"]) (vars:=["one","told","whole","rest","found","part","power","mine","others","back","top"]) (by kernel_rfl) (by kernel_rfl),rfl⟩,⟨_,_,fn (ps:=["row"]) (vars:=["row"]) (by kernel_rfl) (by kernel_rfl),rfl⟩,⟨_,_,fn (ps:=["top","part","power"]) (vars:=["top","part","power","slope","back","less","left","by","grown"]) (by kernel_rfl) (by kernel_rfl),rfl⟩,⟨_,_,fn (ps:=["pieces"]) (vars:=["pieces","found","top","part","power"]) (by kernel_rfl) (by kernel_rfl),rfl⟩,⟨_,_,fn (ps:=["one"]) (vars:=["one","whole","pieces","grown","rest","part","tops","left","power","step"]) (by kernel_rfl) (by kernel_rfl),rfl⟩,⟨_,_,fn (ps:=["_law_script","_law_k"]) (vars:=["_law_script","_law_k"]) (by kernel_rfl) (by kernel_rfl),rfl⟩,⟨_,_,fn (ps:=["_law_cell","_law_many_here"]) (vars:=["_law_cell","_law_many_here","_law_found","_law_number_here","_law_k"]) (by kernel_rfl) (by kernel_rfl),rfl⟩,⟨_,_,fn (ps:=["_law_one","_law_other"]) (vars:=["_law_one","_law_other"]) (by kernel_rfl) (by kernel_rfl),rfl⟩,⟨_,_,fn (ps:=["_law_top","_law_bottom_here"]) (vars:=["_law_top","_law_bottom_here","_law_by"]) (by kernel_rfl) (by kernel_rfl),rfl⟩,⟨_,_,fn (ps:=["_law_one","_law_other"]) (vars:=["_law_one","_law_other"]) (by kernel_rfl) (by kernel_rfl),rfl⟩,⟨_,_,fn (ps:=["_law_one","_law_other"]) (vars:=["_law_one","_law_other"]) (by kernel_rfl) (by kernel_rfl),rfl⟩,⟨_,_,fn (ps:=["_law_row"]) (vars:=["_law_row"]) (by kernel_rfl) (by kernel_rfl),rfl⟩,⟨_,_,fn (ps:=["_law_one","_law_other"]) (vars:=["_law_one","_law_other","_law_size"]) (by kernel_rfl) (by kernel_rfl),rfl⟩,⟨_,_,fn (ps:=["_law_row","_law_number_here"]) (vars:=["_law_row","_law_number_here"]) (by kernel_rfl) (by kernel_rfl),rfl⟩,⟨_,_,fn (ps:=["_law_one","_law_other"]) (vars:=["_law_one","_law_other","_law_found","_law_k"]) (by kernel_rfl) (by kernel_rfl),rfl⟩,⟨_,_,fn (ps:=["_law_row"]) (vars:=["_law_row"]) (by kernel_rfl) (by kernel_rfl),rfl⟩,⟨_,_,fn (ps:=["_law_row","_law_power_here"]) (vars:=["_law_row","_law_power_here","_law_found","_law_k"]) (by kernel_rfl) (by kernel_rfl),rfl⟩,⟨_,_,fn (ps:=["_law_x"]) (vars:=["_law_x"]) (by kernel_rfl) (by kernel_rfl),rfl⟩,⟨_,_,fn (ps:=["_law_x","_law_most"]) (vars:=["_law_x","_law_most","_law_xs"]) (by kernel_rfl) (by kernel_rfl),rfl⟩,⟨_,_,fn (ps:=["_law_x","_law_many_here"]) (vars:=["_law_x","_law_many_here","_law_xs","_law_low","_law_found","_law_k","_law_at","_law_number_here","_law_low_end","_law_square"]) (by kernel_rfl) (by kernel_rfl),rfl⟩,⟨_,_,fn (ps:=["_law_x","_law_rows"]) (vars:=["_law_x","_law_rows","_law_xs","_law_room","_law_powers_here","_law_k","_law_size","_law_most"]) (by kernel_rfl) (by kernel_rfl),rfl⟩,⟨_,_,fn (ps:=["_law_rows","_law_powers_here"]) (vars:=["_law_rows","_law_powers_here","_law_found","_law_row","_law_power_here"]) (by kernel_rfl) (by kernel_rfl),rfl⟩,⟨_,_,fn (ps:=["_law_one"]) (vars:=["_law_one","_law_less"]) (by kernel_rfl) (by kernel_rfl),rfl⟩,⟨_,_,fn (ps:=["_law_x","_law_bottom_here"]) (vars:=["_law_x","_law_bottom_here","_law_top"]) (by kernel_rfl) (by kernel_rfl),rfl⟩,⟨_,_,fn (ps:=["_law_script"]) (vars:=["_law_script","_law_xs","_law_rows","_law_some","_law_powers_here","_law_first","_law_k","_law_bottom_here","_law_whole","_law_one","_law_below","_law_rest","_law_slope_of_one","_law_top","_law_found"]) (by kernel_rfl) (by kernel_rfl),rfl⟩,trivial⟩ (a:=la) (is:=is) (o:=false) (sto:=fun b=>if b=la then some (.list false (is.map D.int)) else none) (Mine.safe_one is) (if_pos rfl) (by omega)
 refine Si (c:=P2 Challenge.rw_uf030008_13.row.prog w s₁.heap mg [("ZERO",Ae 0),("UNIT",rowD [1]),("EMPTY",qD [] [1])]) rfl hlaw hL hI (by omega) call fun h' t hk=>?_;refine ⟨.inl ⟨_,ofPy (.bool true),[],rfl,?_,?_,?_,?_⟩,?_,rfl,?_⟩
 ·exact raisesW_false (by wrow_none_raised)
 ·exact .bool true
 ·wrow_post
 ·intro h; exact ⟨List.nodup_nil,fun a ha=>by cases ha⟩
 ·exact .of_keep hk
 ·exact .of_eq hg
