import PyProof.Rows.All
import PyProof.P3Statements
import PyProof.SliceMore
import KE.KItem
import Wide.All
import OpenK.AllK
import Wide.FinOn
import Lean
import PySem.Challenge.RW_sx_r140_1
set_option autoImplicit false
set_option backward.match.sparseCases false
set_option genSizeOf false
set_option bootstrap.genMatcherCode false
set_option compiler.extract_closed false
set_option linter.all false
set_option Elab.async false
set_option tactic.hygienic false
set_option maxRecDepth 100000
set_option maxHeartbeats 8000000
namespace Mine.Internal
theorem aU{G:Type}{ne:Nonempty G}{Q:G->Prop}(h:Q (@Classical.epsilon G ne λ x=>¬Q x))(x:G):Q x:=Classical.byContradiction λ q=>@Classical.epsilon_spec G (λ x=>¬Q x) ⟨x,q⟩ h
theorem bC{p:Prop}(h:¬¬p):p:=Classical.byContradiction h
section
open PySem
inductive V where
 |d (x:PyData)
 |fs (xs:List Int)
 |ty (n:String)
 |o (l:Nat)
inductive Nd where
 |aI (xs:List V)
 |fF (bj:List (Int×V))
 |jf (bj:List (List Int×V))
 |set (xs:List Int)
 |ins (fs:List (Str×V))
 |cn (x:PyData)
 |eM
noncomputable abbrev ae:=List Nd
noncomputable abbrev ak:=Str->Option V
noncomputable def upd(O:ak)(x:Str)(v:V):ak:=λ y=>if y=x then some v else O y
inductive Out where
 |nx | br | ct | ex
 |rt (v:V)
set_option genInjectivity false in
structure Or where
 P:Str->List V->Option (Option V)
 M:Str->List V->ae->Option (V×ae)
 gl:Str->Option V
 own:Pos->Bool
 cn:Pos->Bool
 cls:Str
 fuel:Nat
noncomputable def cW:Nat:=100000
noncomputable def L2:PyData->Option Nat
 |.list xs=>some xs.length
 |.tuple xs=>some xs.length
 |_=>none
noncomputable def items?:PyData->Option (List PyData)
 |.list xs=>some xs
 |.tuple xs=>some xs
 |_=>none
noncomputable def int?:PyData->Option Int
 |.int i=>some i
 |_=>none
noncomputable def kY:List PyData->Option (List Int)
 |[]=>some []
 |x::r=>do let i<-int? x;let js<-kY r;some (i::js)
noncomputable def eq?(a b:PyData):Option Bool:=if min a.depth b.depth<=64 then some (PyData.eqv a b) else none
noncomputable def k6(x:PyData):List PyData->Option Bool
 |[]=>some false
 |y::r=>do let b<-eq? y x;let c<-k6 x r;some (b || c)
noncomputable def ow(x:PyData):Nat->List PyData->Option Nat
 |_,[]=>none
 |k,y::r=>do if<-eq? y x then some k else ow x (k+1) r
noncomputable def u7(x c:PyData):Option Nat:=
 match x,c with
 |.int i,.list xs=>(kY xs).map λ is=>is.count i
 |_,_=>none
noncomputable def iC(c:PyData)(i:Int):Option PyData:=
 match c with
 |.list xs=>(seqIndex? i xs.length).bind λ j=>xs[j]?
 |.tuple xs=>(seqIndex? i xs.length).bind λ j=>xs[j]?
 |.str x=>if x.length<=cW then(seqIndex? i x.length).bind λ j=>(x.cps[j]?).map λ c=>.str ⟨#[c]⟩ else none
 |_=>none
noncomputable def cutAt{G:Type}(lo hi:Option Int)(xs:List G):List G:=
 (xs.drop (lo.elim 0 (clipAt xs.length))).take (hi.elim xs.length (clipAt xs.length)-lo.elim 0 (clipAt xs.length))
noncomputable def slice?(c:PyData)(lo hi:Option Int):Option PyData:=
 match c with
 |.list xs=>some (.list (cutAt lo hi xs))
 |.tuple xs=>some (.tuple (cutAt lo hi xs))
 |_=>none
noncomputable def truth?:PyData->Option Bool
 |.bool b=>some b
 |.list xs=>some (!xs.isEmpty)
 |_=>none
noncomputable def times{G:Type}(xs:List G):Nat->List G
 |0=>[]
 |n+1=>xs++times xs n
noncomputable def vD:PyData->Option (List PyData)
 |.list xs=>some xs
 |_=>none
noncomputable def MF:PyData->Option (List PyData)
 |.tuple xs=>some xs
 |_=>none
noncomputable def J9(a b:PyData):Option PyData:=
 match a with
 |.int i=>do let j<-int? b;some (.int (i+j))
 |.list xs=>do let ys<-vD b;if xs.length+ys.length<=cW then some (.list (xs++ys)) else none
 |.tuple xs=>do let ys<-MF b;if xs.length+ys.length<=cW/\xs≠[]/\ys≠[] then some (.tuple (xs++ys)) else none
 |_=>none
noncomputable def NV(op:Operator)(a b:PyData):Option PyData:=
 match op with
 |.Add=>J9 a b
 |.Sub=>do let i<-int? a;let j<-int? b;some (.int (i-j))
 |.Mod=>do let i<-int? a;let j<-int? b;if j=0 then none else some (.int (i.fmod j))
 |.Mult=>do let xs<-vD a;let j<-int? b;if xs.length*j.toNat<=cW/\0<=j/\j<=(cW:Int) then some (.list (times xs j.toNat)) else none
 |_=>none
noncomputable def O3(a b:PyData):Option Bool:=
 match a,b with
 |.int i,.int j=>some (decide (i<j))
 |_,_=>none
noncomputable def Rp(a b:PyData):Option Bool:=
 match a,b with
 |.int i,.int j=>some (decide (i<=j))
 |_,_=>none
noncomputable def Cz(l:Nat):Option Nd->V
 |some (.cn x)=>.d x
 |_=>.o l
noncomputable def dr(U:ae):V->V
 |.o l=>Cz l U[l]?
 |v=>v
noncomputable def DM(f:ae->V->Option (PyData×ae)):ae->List V->Option (List PyData×ae)
 |U,[]=>some ([],U)
 |U,v::r=>do
  let (d,U)<-f U v
  let (ds,U)<-DM f U r
  some (d::ds,U)
noncomputable def tj(f:ae->V->Option (PyData×ae))(l:Nat)(U:ae):Option Nd->Option (PyData×ae)
 |some (.cn x)=>some (x,U)
 |some (.aI xs)=>do
  let (ds,U)<-DM f U xs
  some (.list ds,U.set l (.cn (.list ds)))
 |_=>none
noncomputable def cn:Nat->ae->V->Option (PyData×ae)
 |0,U,v=>match v with
  |.d x=>some (x,U)
  |_=>none
 |n+1,U,v=>match v with
  |.d x=>some (x,U)
  |.o l=>tj (cn n) l U U[l]?
  |_=>none
noncomputable def KV(n:Nat):ae->List V->Option (List PyData×ae):=DM (cn n)
noncomputable def ew:V->Option PyData
 |.d x=>some x
 |_=>none
noncomputable def mu:List V->Option (List PyData)
 |[]=>some []
 |v::r=>do let x<-ew v;let xs<-mu r;some (x::xs)
noncomputable def c8:V->Option Int
 |.d (.int i)=>some i
 |_=>none
noncomputable def eT:V->Bool
 |.d _=>true
 |.fs _=>true
 |_=>false
set_option genCtorIdx false in
set_option genInjectivity false in
inductive Tg where
 |ty (n:String) | EB | bl (b:Bool) | vQ
noncomputable def tag:V->Tg
 |.ty n=>.ty n
 |.d .none=>.EB
 |.d (.bool b)=>.bl b
 |_=>.vQ
noncomputable def GA:Tg->Tg->Option Bool
 |.ty a,.ty b=>some (a == b)
 |.bl a,.bl b=>some (a == b)
 |.EB,.EB=>some true
 |.EB,_=>some false
 |_,.EB=>some false
 |.bl _,_=>some false
 |_,.bl _=>some false
 |_,_=>none
noncomputable def m5(x y:V):Option Bool:=GA (tag x) (tag y)
noncomputable def mK:V->Option String
 |.d (.int _)=>some "int"
 |.d (.bool _)=>some "bool"
 |.d (.tuple _)=>some "tuple"
 |_=>none
noncomputable def mJ:PyData->Option (List Int)
 |.tuple xs=>kY xs
 |_=>none
noncomputable def look{K:Type}[DecidableEq K](k:K):List (K×V)->Option V
 |[]=>none
 |(q,v)::r=>if q=k then some v else look k r
noncomputable def put{K:Type}[DecidableEq K](k:K)(v:V)(bj:List (K×V)):List (K×V):=
 if(look k bj).isSome then bj.map λ q=>if q.1=k then(q.1,v) else q else bj++[(k,v)]
noncomputable def dY(n:Str):List (Str×V)->Option V
 |[]=>none
 |(m,v)::r=>if m=n then some v else dY n r
noncomputable def cT(n:Str)(v:V):List (Str×V)->List (Str×V)
 |[]=>[(n,v)]
 |(m,u)::r=>if m=n then(n,v)::r else(m,u)::cT n v r
noncomputable def dC(own:Bool)(vs:List V)(U:ae):Option (V×ae):=
 if own then some (.o U.length,U++[.aI vs]) else(mu vs).map λ ds=>(.d (.list ds),U)
noncomputable def fresh(n:Nd)(U:ae):V×ae:=(.o U.length,U++[n])
noncomputable def MG:Option Nd->Option Bool
 |some (.aI xs)=>some (!xs.isEmpty)
 |_=>none
noncomputable def iD(U:ae):V->Option Bool
 |.d x=>truth? x
 |.o l=>MG U[l]?
 |_=>none
noncomputable def Nf(a:V):Option Nd->Option Bool
 |some (.fF bj)=>do let k<-c8 a;some (look k bj).isSome
 |some (.jf bj)=>do let k<-mJ (<-ew a);some (look k bj).isSome
 |some (.set xs)=>do let i<-c8 a;some (xs.contains i)
 |_=>none
noncomputable def dB(U:ae)(op:CmpOp)(a b:V):Option Bool:=
 match op with
 |.Is=>m5 a b
 |.IsNot=>(m5 a b).map (!·)
 |.Eq=>do eq? (<-ew a) (<-ew b)
 |.NotEq=>do let r<-eq? (<-ew a) (<-ew b);some (!r)
 |.Lt=>do O3 (<-ew a) (<-ew b)
 |.Gt=>do O3 (<-ew b) (<-ew a)
 |.LtE=>do Rp (<-ew a) (<-ew b)
 |.GtE=>none
 |.In=>isIn U a b
 |.NotIn=>(isIn U a b).map (!·)
where
 isIn (U:ae) (a b:V):Option Bool:=
  match b with
  |.d c=>do k6 (<-ew a) (<-items? c)
  |.fs xs=>do let i<-c8 a;some (xs.contains i)
  |.o l=>Nf a U[l]?
  |.ty _=>none
noncomputable def um(U:ae)(i:V):Option Nd->Option V
 |some (.aI xs)=>do let j<-c8 i;let k<-seqIndex? j xs.length;(xs[k]?).map (dr U)
 |some (.fF bj)=>do let k<-c8 i;(look k bj).map (dr U)
 |some (.jf bj)=>do let k<-mJ (<-ew i);(look k bj).map (dr U)
 |_=>none
noncomputable def dX(U:ae)(c i:V):Option V:=
 match c with
 |.d c=>do let j<-c8 i;(iC c j).map .d
 |.o l=>um U i U[l]?
 |_=>none
noncomputable def pT(l:Nat)(i v:V)(U:ae):Option Nd->Option ae
 |some (.aI xs)=>do let j<-c8 i;let k<-seqIndex? j xs.length;if k<xs.length then some (U.set l (.aI (xs.set k v))) else none
 |some (.fF bj)=>do let k<-c8 i;if bj.length<cW then some (U.set l (.fF (put k v bj))) else none
 |some (.jf bj)=>do let k<-mJ (<-ew i);if bj.length<cW then some (U.set l (.jf (put k v bj))) else none
 |_=>none
noncomputable def fR(c i v:V)(U:ae):Option ae:=
 match c with
 |.o l=>pT l i v U U[l]?
 |_=>none
noncomputable def mS(own:Bool)(op:Operator)(a b:V)(U:ae):Option (V×ae):=do
 let r<-NV op (<-ew a) (<-ew b)
 match own,r with
 |true,.list xs=>some (fresh (.aI (xs.map .d)) U)
 |true,_=>none
 |false,r=>some (.d r,U)
noncomputable def Kh{γ:Type}(r:Option γ):List V->Option γ
 |[]=>r
 |_=>none
noncomputable def nG{γ:Type}(f:V->Option γ):List V->Option γ
 |[v]=>f v
 |_=>none
noncomputable def CN{γ:Type}(f:V->V->Option γ):List V->Option γ
 |[a,b]=>f a b
 |_=>none
noncomputable def Pb:V->Option Unit
 |.d .none=>some ()
 |_=>none
noncomputable def O0(U:ae):Option Nd->Option (V×ae)
 |some (.aI xs)=>some (.d (.int xs.length),U)
 |_=>none
noncomputable def O1(U:ae):V->Option (V×ae)
 |.d x=>(L2 x).map fun(n:Nat)=>(.d (.int n),U)
 |.o l=>O0 U U[l]?
 |_=>none
noncomputable def f7(Y:Or)(own:Bool)(f:Str)(vs:List V)(U:ae):Option (V×ae):=
 if f="len" then nG (O1 U) vs
 else if f="list" then nG (λ v=>do let x<-ew v;let xs<-items? x;dC own (xs.map .d) U) vs
 else if f="sum" then nG (λ v=>do let x<-ew v;let xs<-vD x;let is<-kY xs;some (.d (.int is.sum),U)) vs
 else if f="max" then CN (λ a b=>do let i<-c8 a;let j<-c8 b;some (.d (.int (max i j)),U)) vs
 else if f="set" then Kh (some (fresh (.set []) U)) vs
 else if f="type" then nG (λ v=>do let t<-mK v;some (.ty t,U)) vs
 else if f=Y.cls then do
  let (u,aj)<-Y.M "__init__" (.o U.length::vs) (U++[.ins []])
  let _<-Pb u
  some (.o U.length,aj)
 else if vs.all eT then do
  let r<-Y.P f vs
  r.map λ v=>(v,U)
 else none
noncomputable def Pl(U:ae)(l:Nat):List V->Option (V×ae)
 |x::r=>some (dr U x,U.set l (.aI r))
 |[]=>none
noncomputable def nO(Y:Or)(m:Str)(l:Nat)(vs:List V)(U:ae):Option Nd->Option (V×ae)
 |some (.aI xs)=>
   if m="append" then nG (λ v=>if xs.length<cW then some (.d .none,U.set l (.aI (xs++[v]))) else none) vs
   else if m="pop" then nG (λ v=>do let i<-c8 v;if i=0 then Pl U l xs else none) vs
   else none
 |some (.set xs)=>
   if m="add" then nG (λ v=>do let i<-c8 v;if xs.length<4000 then some (.d .none,U.set l (.set (if xs.contains i then xs else xs++[i]))) else none) vs
   else none
 |some (.fF bj)=>
   if m="get" then CN (λ a v=>do let k<-c8 a;some (((look k bj).map (dr U)).getD v,U)) vs
   else none
 |some (.ins _)=>Y.M m (.o l::vs) U
 |_=>none
noncomputable def iN(Y:Or)(m:Str)(ov:V)(vs:List V)(U:ae):Option (V×ae):=
 match ov with
 |.d c=>
  if m="index" then nG (λ v=>do let x<-ew v;let xs<-vD c;let k<-ow x 0 xs;some (.d (.int k),U)) vs
  else if m="count" then nG (λ v=>do let x<-ew v;let k<-u7 x c;some (.d (.int k),U)) vs
  else none
 |.o l=>nO Y m l vs U U[l]?
 |_=>none
noncomputable def Nn(m:Str):Option Nd->Option Nat
 |some (.aI _)=>some 1
 |some (.fF _)=>some 3
 |some (.set _)=>some 4
 |some (.ins fs)=>if(dY m fs).isSome then none else some 5
 |_=>none
noncomputable def vk(U:ae)(m:Str):V->Option Nat
 |.d (.list _)=>some 1
 |.o l=>Nn m U[l]?
 |_=>none
noncomputable def ux(v:V):Option (List PyData):=do let x<-ew v;vD x
noncomputable def Nl(a b:Int):Option (List V):=if b-a<=(cW:Int)/\(-(2:Int)^60)<=a/\b<=(2:Int)^60/\a<=b then some ((List.range (b-a).toNat).map fun(i:Nat)=>.d (.int (a+i))) else none
noncomputable def Mw:List V->Option (List V)
 |[v]=>do let n<-c8 v;Nl 0 n
 |[v,w]=>do let a<-c8 v;let b<-c8 w;Nl a b
 |_=>none
noncomputable def draws(f:Str)(vs:List V):Option (List V):=
 if f="enumerate" then nG (λ v=>do let xs<-ux v;some (xs.zipIdx.map fun(p:PyData×Nat)=>.d (.tuple [.int p.2,p.1]))) vs
 else if f="range" then Mw vs
 else if f="zip" then CN (λ v w=>do let xs<-ux v;let ys<-ux w;some ((xs.zip ys).map fun(p:PyData×PyData)=>.d (.tuple [p.1,p.2]))) vs
 else none
noncomputable def gB(f:Str):Bool:=f == "enumerate" || f == "range" || f == "zip"
noncomputable def ly:V->Option (List V)
 |.d x=>(items? x).map λ xs=>xs.map .d
 |_=>none
noncomputable def lJ(r:Option (V×ae)):Option (List V×ae):=do
 let (v,U)<-r
 let xs<-ly v
 some (xs,U)
noncomputable def nY(f:Str)(as:Option (List V×ae))(r:Option (V×ae)):Option (List V×ae):=
 if gB f then do
  let (vs,U)<-as
  let xs<-draws f vs
  some (xs,U)
 else lJ r
mutual
noncomputable def ba:Expr->V->ak->Option ak
 |.Name x _,v,O=>some (upd O x v)
 |.Tuple ts _ _,v,O=>do let vs<-ly v;d0 ts vs O
 |_,_,_=>none
noncomputable def d0:List Expr->List V->ak->Option ak
 |[],[],O=>some O
 |t::ts,v::vs,O=>do let O<-ba t v O;d0 ts vs O
 |_,_,_=>none
end
noncomputable def eZ(bind:V->Option ak)(cond:ak->ae->Option (Bool×ae))(elt:ak->ae->Option (V×ae)):List V->ae->Option (List V×ae)
 |[],U=>some ([],U)
 |x::r,U=>do
  let O<-bind x
  let (b,U)<-cond O U
  if b then
   let (v,U)<-elt O U
   let (vs,U)<-eZ bind cond elt r U
   some (v::vs,U)
  else eZ bind cond elt r U
noncomputable def Mu(Y:Or)(p:Pos)(U:ae)(v:V):Option (V×ae):=if Y.cn p then(cn 8 U v).map λ x=>(.d x.1,x.2) else some (dr U v,U)
noncomputable def Mc(Y:Or)(p:Pos)(U:ae)(r:Option V):Option V->Option (V×ae)
 |some v=>some (v,U)
 |none=>r.bind (Mu Y p U)
noncomputable def Kk(Y:Or)(n:Str)(p:Pos)(U:ae):Option Nd->Option (V×ae)
 |some (.ins fs)=>(dY n fs).bind (Mu Y p U)
 |_=>none
noncomputable def sj:Expr->Option Str
 |.Name f _=>some f
 |_=>none
noncomputable def FH:Expr->Option (Expr×List Expr×List Keyword)
 |.Call fn args rX _=>some (fn,args,rX)
 |_=>none
noncomputable def Jo(e:Expr):Option (Str×List Expr):=(FH e).bind λ x=>(sj x.1).bind λ f=>if x.2.2.isEmpty then some (f,x.2.1) else none
noncomputable def one?{G:Type}:List G->Option G
 |[a]=>some a
 |_=>none
noncomputable def MH(e:Expr):Option Str:=(Jo e).bind λ g=>if g.1="type" then(one? g.2).bind sj else none
noncomputable def FI:Expr->Option (Expr×List CmpOp×List Expr)
 |.Compare l os rs _=>some (l,os,rs)
 |_=>none
noncomputable def LN(e:Expr):Option (Str×Str):=(FI e).bind λ c=>(MH c.1).bind λ x=>((one? c.2.2).bind sj).bind λ T=>if c.2.1=[.Is] then some (x,T) else none
noncomputable def FU:Expr->Option (Expr×List Comprehension×Scope)
 |.GeneratorExp e cs sc _=>some (e,cs,sc)
 |_=>none
noncomputable def FO(c:Comprehension):Option (Str×Str):=(sj c.target).bind λ x=>(sj c.iter).bind λ y=>if c.ifs.isEmpty/\c.is_async=0 then some (x,y) else none
set_option genInjectivity false in
structure Gn where
 x:Str
 y:Str
 py:Pos
 T:Str
 sc:Scope
noncomputable def rM(fn:Expr)(args:List Expr):Option Gn:=((one? args).bind FU).bind λ q=>(LN q.1).bind λ u=>(one? q.2.1).bind λ c=>(FO c).bind λ w=>(sj fn).bind λ f=>if f="all"/\w.1=u.1 then some ⟨u.1,w.2,c.iter.pos,u.2,q.2.2⟩ else none
noncomputable def kU:Expr->Option Gn
 |.Call fn args _ _=>rM fn args
 |_=>none
noncomputable def RQ:V->Option String
 |.ty n=>some n
 |_=>none
noncomputable def pQ:Option Nd->Bool
 |some .eM=>true
 |_=>false
noncomputable def Kf(Y:Or)(g:Gn)(O:ak)(U:ae):Option (Bool×ae):=do
 let (v,U)<-Mc Y g.py U (O g.y) (Y.gl g.y)
 let xs<-ux v
 let t<-(Y.gl g.T).bind RQ
 if pQ U[0]?/\xs.all (λ d=>mK (.d d) == some t) then some (true,U) else none
noncomputable def PM(r:Option (V×ae)):Option (Bool×ae):=do
  let (v,U)<-r
  let b<-iD U v
  some (b,U)
noncomputable def B0(Y:Or)(O:ak)(U:ae)(r:Option (V×ae)):Option Gn->Option (Bool×ae)
 |none=>PM r
 |some g=>Kf Y g O U
mutual
noncomputable def ev(Y:Or):Expr->ak->ae->Option (V×ae)
 |.Constant c _ _,_,U=>match c with
  |.none=>some (.d .none,U)
  |.bool b=>some (.d (.bool b),U)
  |.int i=>some (.d (.int i),U)
  |.str s=>some (.d (.str s),U)
  |_=>none
 |.Name x p,O,U=>Mc Y p U (O x) (Y.gl x)
 |.BinOp l op r p,O,U=>do
  let (a,U)<-ev Y l O U
  let (b,U)<-ev Y r O U
  mS (Y.own p) op a b U
 |.UnaryOp op x _,O,U=>match op with
  |.USub=>do
   let (a,U)<-ev Y x O U
   let i<-c8 a
   some (.d (.int (-i)),U)
  |.Not=>do
   let (a,U)<-ev Y x O U
   let b<-iD U a
   some (.d (.bool (!b)),U)
  |_=>none
 |.Compare l [op] [r] _,O,U=>do
  let (a,U)<-ev Y l O U
  let (b,U)<-ev Y r O U
  let c<-dB U op a b
  some (.d (.bool c),U)
 |.Subscript c (.Slice lo hi none _) _,O,U=>do
  let (a,U)<-ev Y c O U
  let (l,U)<-aH Y lo O U
  let (u,U)<-aH Y hi O U
  let x<-ew a
  let r<-slice? x l u
  some (.d r,U)
 |.Subscript c i _,O,U=>do
  let (a,U)<-ev Y c O U
  let (b,U)<-ev Y i O U
  let r<-dX U a b
  some (r,U)
 |.Tuple es _ _,O,U=>do
  let (vs,U)<-gJ Y es O U
  let ds<-mu vs
  some (.d (.tuple ds),U)
 |.List es p,O,U=>do
  let (vs,U)<-gJ Y es O U
  dC (Y.own p) vs U
 |.Dict [] [] p,_,U=>some (fresh (if Y.own p then .jf [] else .fF []) U)
 |.ListComp elt [⟨t,it,ifs,0⟩] _ p,O,U=>do
  let (xs,U)<-uC Y it O U (ev Y it O U)
  let (vs,U)<-eZ (λ x=>ba t x O) (λ O U=>gX Y ifs O U) (λ O U=>ev Y elt O U) xs U
  dC (Y.own p) vs U
 |.IfExp t b o _,O,U=>do
  let (c,U)<-i9 Y t O U (ev Y t O U)
  if c then ev Y b O U else ev Y o O U
 |.Attribute o n p,O,U=>do
  let (a,U)<-ev Y o O U
  match a with
  |.o l=>Kk Y n p U U[l]?
  |_=>none
 |.Call (.Attribute o m _) args [] _,O,U=>do
  let (a,U)<-ev Y o O U
  let q<-vk U m a
  let (vs,U)<-gJ Y args O U
  if vk U m a=some q then iN Y m a vs U else none
 |.Call (.Name f _) args [] p,O,U=>do
  let (vs,U)<-gJ Y args O U
  f7 Y (Y.own p) f vs U
 |_,_,_=>none
noncomputable def gJ(Y:Or):List Expr->ak->ae->Option (List V×ae)
 |[],_,U=>some ([],U)
 |e::r,O,U=>do
  let (v,U)<-ev Y e O U
  let (vs,U)<-gJ Y r O U
  some (v::vs,U)
noncomputable def aH(Y:Or):Option Expr->ak->ae->Option (Option Int×ae)
 |none,_,U=>some (none,U)
 |some e,O,U=>do
  let (v,U)<-ev Y e O U
  let i<-c8 v
  some (some i,U)
noncomputable def uC(Y:Or):Expr->ak->ae->Option (V×ae)->Option (List V×ae)
 |.Call (.Name f _) args [] _,O,U,r=>nY f (gJ Y args O U) r
 |_,_,_,r=>lJ r
noncomputable def i9(Y:Or):Expr->ak->ae->Option (V×ae)->Option (Bool×ae)
 |.UnaryOp .Not x _,O,U,_=>do
  let (b,U)<-i9 Y x O U (ev Y x O U)
  some (!b,U)
 |.BoolOp op es _,O,U,_=>mi Y op es O U
 |.IfExp ..,_,_,_=>none
 |e,O,U,r=>B0 Y O U r (kU e)
noncomputable def mi(Y:Or):BoolOp->List Expr->ak->ae->Option (Bool×ae)
 |op,[],_,U=>some (op == .And,U)
 |op,e::r,O,U=>do
  let (b,U)<-i9 Y e O U (ev Y e O U)
  match op,b with
  |.And,false=>some (false,U)
  |.Or,true=>some (true,U)
  |_,_=>mi Y op r O U
noncomputable def gX(Y:Or):List Expr->ak->ae->Option (Bool×ae)
 |[],_,U=>some (true,U)
 |e::r,O,U=>do
  let (b,U)<-i9 Y e O U (ev Y e O U)
  if b then gX Y r O U else some (false,U)
end
noncomputable def stN(l:Nat)(n:Str)(v:V)(O:ak)(U:ae):Option Nd->Option (ak×ae)
 |some (.ins fs)=>if fs.length<1000 then some (O,U.set l (.ins (cT n v fs))) else none
 |_=>none
noncomputable def store(Y:Or)(t:Expr)(v:V)(O:ak)(U:ae):Option (ak×ae):=
 match t with
 |.Attribute o n _=>do
  let (a,U)<-ev Y o O U
  match a with
  |.o l=>stN l n v O U U[l]?
  |_=>none
 |.Subscript o i _=>do
  let (a,U)<-ev Y o O U
  let (b,U)<-ev Y i O U
  let U<-fR a b v U
  some (O,U)
 |t=>do let O<-ba t v O;some (O,U)
noncomputable def Kl(b:V):Option Nd->Option Int
 |some (.aI xs)=>do let j<-c8 b;let k<-seqIndex? j xs.length;let v<-xs[k]?;c8 v
 |_=>none
noncomputable def nI(U:ae)(a b:V):Option Int:=
 match a with
 |.o l=>Kl b U[l]?
 |_=>none
noncomputable def zj(op:Operator)(c m:Int):Option Int:=
 match op with
 |.Add=>some (c+m)
 |.Sub=>some (c-m)
 |_=>none
noncomputable abbrev Res:=Option (Out×ak×ae)
noncomputable def cont(k:ak->ae->Res):Out->ak->ae->Res
 |.nx,O,U=>k O U
 |.ct,O,U=>k O U
 |.br,O,U=>some (.nx,O,U)
 |.ex,_,_=>none
 |.rt v,O,U=>some (.rt v,O,U)
noncomputable def forL(step:V->ak->ae->Res):List V->ak->ae->Res
 |[],O,U=>some (.nx,O,U)
 |x::r,O,U=>(step x O U).bind λ y=>cont (forL step r) y.1 y.2.1 y.2.2
noncomputable def EC(f:V->Res)(e:Res):Option V->Res
 |none=>e
 |some x=>f x
noncomputable def KS(f:V->Res)(i:Nat)(e:Res):Option Nd->Res
 |some (.aI xs)=>EC f e xs[i]?
 |_=>none
noncomputable def gA(step:V->ak->ae->Res)(l:Nat):Nat->Nat->ak->ae->Res
 |0,_,_,_=>none
 |n+1,i,O,U=>KS (λ x=>(step (dr U x) O U).bind λ y=>cont (gA step l n (i+1)) y.1 y.2.1 y.2.2) i (some (.nx,O,U)) U[l]?
mutual
noncomputable def ay:Expr->List Str
 |.Name x _=>[x]
 |.Tuple ts _ _=>bX ts
 |_=>[]
noncomputable def bX:List Expr->List Str
 |[]=>[]
 |t::r=>ay t++bX r
end
mutual
noncomputable def stored:Stmt->List Str
 |.Assign ts _ _=>bX ts
 |.For t _ b o _=>ay t++(bp b++bp o)
 |.If _ b o _=>bp b++bp o
 |.Try b hs o f _=>bp b++(storedH hs++(bp o++bp f))
 |_=>[]
noncomputable def bp:List Stmt->List Str
 |[]=>[]
 |s::r=>stored s++bp r
noncomputable def storedH:List ExceptHandler->List Str
 |[]=>[]
 |.ExceptHandler _ _ b _::r=>bp b++storedH r
end
noncomputable def oM:Nat->Stmt->Bool
 |0,_=>false
 |n+1,s=>match s with
  |.If _ b o _=>b.all (oM n) && o.all (oM n)
  |.For _ _ b _ _=>b.all (oM n)
  |.Return (some _) _=>true
  |_=>false
noncomputable def lp(b:List Stmt):Bool:=b.all (oM 6)
noncomputable def forget(xs:List Str)(O:ak):ak:=λ y=>if xs.contains y then none else O y
set_option genCtorIdx false in
set_option genInjectivity false in
inductive Src where
 |items (ys:List V)
 |obj (l:Nat)
 |tm (ks:List Int)
noncomputable def PD:V->Option Src
 |.o l=>some (.obj l)
 |.fs ks=>some (.tm ks)
 |v=>(ly v).map .items
noncomputable def srcOf(r:Option (V×ae)):Option (Src×ae):=do
 let (v,U)<-r
 let s<-PD v
 some (s,U)
noncomputable def src(Y:Or)(it:Expr)(O:ak)(U:ae):Option (Src×ae):=
 match it with
 |.Call (.Name f p) args [] q=>
  if gB f then do
   let (vs,U)<-gJ Y args O U
   let xs<-draws f vs
   some (.items xs,U)
  else srcOf (ev Y (.Call (.Name f p) args [] q) O U)
 |it=>srcOf (ev Y it O U)
noncomputable def Ss(q:Option Bool):V->Option (Option Bool)
 |.d (.bool b)=>if q=none\/q=some b then some (some b) else none
 |_=>none
noncomputable def Qh(o:Out)(U:ae)(q:Option Bool):Option (Option Bool):=if U.isEmpty then match o with
 |.nx=>some q
 |.rt v=>Ss q v
 |_=>none else none
noncomputable def pM(step:V->ak->ae->Res)(O:ak):List Int->Option (Option Bool)
 |[]=>some none
 |x::r=>(step (.d (.int x)) O []).bind λ y=>(pM step O r).bind λ q=>Qh y.1 y.2.2 q
mutual
noncomputable def x1(Y:Or):Stmt->ak->ae->Res
 |.Assign [.Tuple ts _ _] (.Tuple es _ _) _,O,U=>do
  let (vs,U)<-gJ Y es O U
  let O<-d0 ts vs O
  some (.nx,O,U)
 |.Assign [t] e _,O,U=>do
  let (v,U)<-ev Y e O U
  let (O,U)<-store Y t v O U
  some (.nx,O,U)
 |.AugAssign (.Subscript o i _) op e _,O,U=>do
  let (a,U)<-ev Y o O U
  let (b,U)<-ev Y i O U
  let c<-nI U a b
  let (d,U)<-ev Y e O U
  let m<-c8 d
  let r<-zj op c m
  let U<-fR a b (.d (.int r)) U
  some (.nx,O,U)
 |.Expr e _,O,U=>do
  let (_,U)<-ev Y e O U
  some (.nx,O,U)
 |.Return (some e) _,O,U=>do
  let (v,U)<-ev Y e O U
  some (.rt v,O,U)
 |.If t b o _,O,U=>do
  let (c,U)<-i9 Y t O U (ev Y t O U)
  if c then xs Y b O U else xs Y o O U
 |.For t it body [] _,O,U=>do
  let (sr,U)<-src Y it O U
  match sr with
  |.items ys=>forL (λ x O U=>do let O<-ba t x O;xs Y body O U) ys O U
  |.obj l=>gA (λ x O U=>do let O<-ba t x O;xs Y body O U) l Y.fuel 0 O U
  |.tm ks=>do
   let jW:=forget (ay t++bp body) O
   match U,lp body with
   |[],true=>match<-pM (λ x O U=>do let O<-ba t x O;xs Y body O U) jW ks with
    |none=>some (.nx,jW,[])
    |some b=>some (.rt (.d (.bool b)),jW,[])
   |_,_=>none
 |.Break _,O,U=>some (.br,O,U)
 |.Continue _,O,U=>some (.ct,O,U)
 |.Raise (some (.Call (.Name f _) [.Constant (.str _) _ _] [] _)) none _,O,U=>if f="ValueError" then some (.ex,O,U) else none
 |.Try [.Assign [.Name x _] (.Call (.Name f _) args [] _) _] [.ExceptHandler (some (.Name c _)) none hb _] [] [] _,O,U=>
  if c="ValueError" then do
   let (vs,U)<-gJ Y args O U
   if vs.all eT then do
    match<-Y.P f vs with
    |some v=>some (.nx,upd O x v,U)
    |none=>xs Y hb O U
   else none
  else none
 |_,_,_=>none
noncomputable def xs(Y:Or):List Stmt->ak->ae->Res
 |[],O,U=>some (.nx,O,U)
 |s::r,O,U=>do
  let (o,O,U)<-x1 Y s O U
  match o with
  |.nx=>xs Y r O U
  |o=>some (o,O,U)
end
set_option genInjectivity false in
structure Fn where
 params:List Str
 body:List Stmt
noncomputable def binds:List Str->List V->Option ak
 |[],[]=>some λ _=>none
 |x::r,v::vs=>do let O<-binds r vs;some (upd O x v)
 |_,_=>none
noncomputable def NW(l:Nat)(U:ae):Option Nd->Option V
 |some (.set xs)=>some (.fs xs)
 |_=>(cn 8 U (.o l)).map λ x=>.d x.1
noncomputable def back(U:ae):V->Option V
 |.fs xs=>some (.fs xs)
 |.o l=>NW l U U[l]?
 |.d x=>some (.d x)
 |.ty _=>none
set_option genInjectivity false in
structure FG where
 fn:Str->Option Fn
 mt:Str->Option Fn
 gl:Str->Option V
 own:Pos->Bool
 cn:Pos->Bool
 cls:Str
 fuel:Nat
noncomputable def FG.run(p:FG):Nat->Or
 |0=>{ P:=λ _ _=>none,M:=λ _ _ _=>none,gl:=p.gl,own:=p.own,cn:=p.cn,cls:=p.cls,fuel:=p.fuel }
 |n+1=>
  {
   P:=λ f vs=>do
    let g<-p.fn f
    let O<-binds g.params vs
    let (o,_,U)<-xs (p.run n) g.body O []
    match o with
    |.rt v=>(back U v).map some
    |.nx=>some (some (.d .none))
    |.ex=>some none
    |_=>none
   M:=λ f vs U=>do
    let g<-p.mt f
    let O<-binds g.params vs
    let (o,_,U)<-xs (p.run n) g.body O U
    match o with
    |.rt v=>some (v,U)
    |.nx=>some (.d .none,U)
    |_=>none
   gl:=p.gl,own:=p.own,cn:=p.cn,cls:=p.cls,fuel:=p.fuel }
end
section
open PySem
set_option genInjectivity false in
structure Df where
 nm:Str
 a:Arguments
 b:List Stmt
 sc:Scope
noncomputable def zP(l:List Stmt):List Df:=l.filterMap λ s=>match s with
 |.FunctionDef n a b _ _ _ sc _ _ _=>some ⟨n,a,b,sc⟩
 |_=>none
noncomputable def Df.fn(d:Df):Fn:=⟨d.a.args.map (·.arg),d.b⟩
noncomputable def N0(b:List Stmt):List (Str×Fn):=(zP b).filterMap λ d=>if d.nm=("law":Str) then none else some (d.nm,d.fn)
noncomputable def oy(b:List Stmt):Fn:=(((zP b).find? λ d=>d.nm == ("law":Str)).map (·.fn)).getD ⟨[],[]⟩
noncomputable def wD(b:List Stmt):List Stmt:=(b.findSome? λ s=>match s with
 |.ClassDef _ _ _ body _ _ _ _ _ _ _=>some body
 |_=>none).getD []
namespace L1
noncomputable def Ph:List (Nat×Nat×Nat):=[(75,8,10),(127,8,10),(6,17,28),(7,17,41),(7,18,25),(8,17,28),(9,16,18),(11,21,49),(11,22,34),(11,26,33),(12,25,54),(12,29,36),(12,38,45),(16,16,18),(44,21,56),(44,22,34),(44,31,33),(45,26,64),(45,33,43),(45,45,55),(76,10,12),(82,15,17),(88,25,32),(88,26,28),(99,9,11),(101,12,22),(103,16,53),(129,15,17),(136,11,33),(140,10,20),(213,12,14),(237,30,32)]
noncomputable def N3:List (Nat×Nat×Nat):=[(17,26,32),(19,16,22),(19,24,30),(19,32,38),(19,40,45),(96,25,29),(103,43,44),(105,18,19),(224,24,29),(257,54,58),(263,16,20),(264,20,24),(275,29,33),(277,33,37),(280,26,30),(286,28,32)]
set_option genInjectivity false in
structure Net where
 aw:List (Nat×Nat)
 ui:Nat×Nat
 bO:List Nat
noncomputable def Et:List Net:=[⟨[(0,1),(1,2),(2,0)],(0,2),[0,1,2]⟩,⟨[(1,0),(0,1),(2,1),(1,2)],(2,0),[0,1,2]⟩,⟨[(0,1),(0,2),(1,2)],(1,0),[0]⟩,⟨[(1,0),(0,1)],(1,2),[]⟩]
noncomputable def aD(c:Nat×Nat):PyData:=.tuple [.int c.1,.int c.2]
noncomputable def C8(n:Net):PyData:=.tuple [.list (n.aw.map aD),aD n.ui,.tuple (n.bO.map fun(k:Nat)=>.int k)]
noncomputable def Bk:PyData:=.tuple (Et.map C8)
noncomputable def body:List Stmt:=PySem.Challenge.pw_sx_r140_1.main.body
noncomputable def bM:FG where
 fn:=λ f=>(N0 body).lookup f
 mt:=λ f=>(N0 (wD body)).lookup f
 gl:=λ x=>if x="_law_nets" then some (.d Bk) else if x="int" then some (.ty "int") else if x="bool" then some (.ty "bool") else if x="tuple" then some (.ty "tuple") else none
 own:=λ p=>Ph.contains (p.line,p.col,p.endCol)
 cn:=λ p=>N3.contains (p.line,p.col,p.endCol)
 cls:="_St"
 fuel:=300
end L1
end
section
open PySem PySem.W PyProof.Rows
noncomputable abbrev iH:Nat:=2 ^ 20
noncomputable abbrev bo(vs:List Value)(n:Nat):Obj:={ cls:=.type "list",data:=.seq vs.toArray n }
noncomputable abbrev eX(vs:List Value)(n:Nat):Obj:={ cls:=.type "tuple",data:=.seq vs.toArray n }
noncomputable def GX(g g':Array GenState):Prop:=∃ex:Array GenState,g'=g++ex/\∀x∈ex,x.bare=true
noncomputable def pz(s s':Shared):Prop:=s'.os=s.os/\GX s.gens s'.gens
noncomputable def Cw:List (Str×Value):=[("len",.builtin "len"),("list",.type "list"),("sum",.builtin "sum"),("max",.builtin "max"),("range",.type "range"),("zip",.type "zip"),("bool",.type "bool"),("tuple",.type "tuple"),("all",.builtin "all"),("set",.type "set"),("type",.type "type"),
 ("enumerate",.type "enumerate"),("int",.type "int"),("ValueError",.type "ValueError")]
noncomputable def LR:Value->Bool
 |.none=>true
 |_=>false
noncomputable def B2:Value->Option String
 |.type n=>some n
 |_=>none
noncomputable def Bx:Value->Option Addr
 |.ref a=>some a
 |_=>none
noncomputable def BQ:Value->Option Str
 |.str q _=>some q
 |_=>none
noncomputable def AS:Value->Option Int
 |.int q _=>some q
 |_=>none
noncomputable def zq:Value->Option Bool
 |.bool q=>some q
 |_=>none
noncomputable def wR:Data->Option (Array Value)
 |.fields vs=>some vs
 |_=>none
noncomputable def FQ:Data->Option FuncData
 |.func fd=>some fd
 |_=>none
noncomputable def codeB(h:Heap)(fd:FuncData):Option Str:=(Bx fd.code).bind λ c=>(h.get? c).bind λ o=>(wR o.data).bind λ vs=>(vs[1]?).bind BQ
noncomputable def cL:Addr:=175
noncomputable def PL:Addr:=173
noncomputable def iY:Str:="wholes"
noncomputable def LO(k:Option NameKind):Bool:=k == some .local
noncomputable def Qe(h:Heap)(o:Obj)(fd:FuncData):Bool:=(B2 o.cls == some "function") && ((!LO (fd.scope.names.lookup iY) || Bx fd.code == some cL) && (fd.closure.isEmpty && ((fd.globals == mainGlobals) && ((fd.builtins == builtinsNs) && (LR fd.defaults && (codeB h fd == some fd.qualname))))))
noncomputable def IS(h:Heap)(v:Option Value):Option (Arguments×FuncBody×Scope):=v.bind λ v=>(Bx v).bind λ a=>(h.get? a).bind λ o=>(FQ o.data).bind λ fd=>if Qe h o fd then some (fd.params,fd.body,fd.scope) else none
noncomputable def Df.Pw(d:Df):Option (Arguments×FuncBody×Scope):=some (d.a,.stmts d.b,d.sc)
noncomputable def seq?:Data->Option (Array Value)
 |.seq vs 0=>some vs
 |_=>none
noncomputable def yQ(T:String)(o:Obj):Option (List Value):=(seq? o.data).bind λ vs=>if B2 o.cls=some T/\o.dict.isNone=true/\o.slots.size=0/\vs.toList.length<=iH then some vs.toList else none
noncomputable def JE(h:Heap):Nat->Value->Option PyData
 |0,_=>none
 |n+1,v=>match v with
  |.int i _=>some (.int i)
  |.str x _=>if PyData.strOk x then some (.str x) else none
  |.ref a=>match(h.get? a).bind (yQ "tuple") with
   |some vs=>(vs.mapM (JE h n)).map .tuple
   |none=>((h.get? a).bind (yQ "list")).bind λ vs=>(vs.mapM (JE h n)).map .list
  |_=>none
noncomputable def fr(h:Heap):Heap:=h.update PL λ o=>{ o with data:=.freed }
noncomputable def Kp(vs:Array Value):Bool:=((vs[11]?).bind Bx == some PL) && (((vs[18]?).bind BQ).isSome && (((vs[7]?).bind AS).isSome && (((vs[9]?).bind zq).isSome && ((vs[10]?).bind AS).isSome)))
noncomputable def zD(h:Heap):Bool:=match h.get? cL with
 |some o=>(B2 o.cls == some "code") && (match wR o.data with
  |some vs=>Kp vs
  |none=>false)
 |none=>false
namespace L1
noncomputable def QQ:List Str:=["__getattribute__","__getattr__","__setattr__","net","b","q","c","s"]
noncomputable def obs(h:Heap):=((zP body).map (λ d=>IS h (h.nsMap mainGlobals d.nm)),(zP (wD body)).map (λ d=>IS h (h.nsMap 52 d.nm)),QQ.map (h.nsMap 52),Cw.map (λ q=>h.nsMap mainGlobals q.1),
 h.get? 53,(h.nsMap mainGlobals "_law_nets").bind (JE h 9),h.nsMap mainGlobals bM.cls,h.isNs mainGlobals && (h.isNs 52 && zD h))
noncomputable def Qa:=((zP body).map Df.Pw,(zP (wD body)).map Df.Pw,QQ.map (λ _=>(none:Option Value)),Cw.map (λ _=>(none:Option Value)),
 some (excClassObj "_St" "_St" 53 52 [.type "object"] [.type "object"] true [] [] false none none none none (some (.str "_St" 189)) (some (.str "_St" 197)) (some (.bool true)) "object.__new__"),some Bk,some (Value.ref 53),true)
noncomputable def NO(h:Heap):Prop:=∃h₀:Heap,(h₀.get? PL=some { cls:=.none,data:=.fields #[] }/\obs (fr h₀)=Qa)/\∀b o,h₀.get? b=some o->h.get? b=some o
end L1
set_option genInjectivity false in
structure Cx where
 w:World
 hR:Heap
 mg:Str->Option Value
 mb:Str->Option Value
noncomputable def prog:Program:=PySem.Challenge.pw_sx_r140_1
noncomputable def C:Addr:=53
noncomputable def N:Addr:=52
noncomputable def p:FG:=L1.bM
noncomputable def Cx.ok(x:Cx):Prop:=L1.NO x.hR->(∃q loose Em,Top q loose Em x.mg x.mb x.hR)->∀(s:Shared) (a la:Addr) (ws:List Value) (zs:List Int),s.heap=x.hR->x.mg "law"=some (.ref a)->x.hR.get? la=some (bo ws 0)->IntsAre ws zs->zs.length<=63->
 wpAny (model prog x.w) callerA (call (.ref a) [.ref la]) (λ v s'=>v=.bool true/\OldK x.hR s'.heap/\pz s s') (λ _ _=>False) s
noncomputable def cx:Cx:=@Classical.epsilon Cx ⟨⟨⟨λ _ _=>0,{ strHash:=λ _=>0,shareClass:=λ _=>0,mergeTok:=id,idOf:=λ _=>0,idOfShared:=λ _ _=>0,followText:=λ _=>false,idOfImm:=λ _=>0 }⟩,default,λ _=>none,λ _=>none⟩⟩ λ x=>¬x.ok
theorem G5(h:cx.ok)(x:Cx):x.ok:=Classical.byContradiction λ q=>@Classical.epsilon_spec Cx (λ x=>¬x.ok) ⟨x,q⟩ h
noncomputable def w:World:=cx.w
noncomputable def hB:Heap:=fr cx.hR
noncomputable def mg:Str->Option Value:=cx.mg
noncomputable def mb:Str->Option Value:=cx.mb
noncomputable def mN:Str->Option Value:=hB.nsMap 52
end
section
set_option tactic.hygienic true
open PySem
variable{P:Expr->Prop}{Ps:List Expr->Prop}{args:List Expr}{b:Bool}{e:Expr}{f:Str}{fn:Expr}{l:Nat}{m:Str}{n:Nat}{t:Expr}{vs:List V}{x y:Str}{Y:Or}{O:ak}{U:ae}
inductive Kd where
 |loc | qb | uF | vQ
 deriving DecidableEq
noncomputable def kdOf:Option NameKind->Kd
 |some .local=>.loc
 |some .cell=>.qb
 |some .free=>.qb
 |some .globalImplicit=>.uF
 |_=>.vQ
noncomputable def gC(names:List (Str×NameKind))(x:Str):Kd:=kdOf (names.lookup x)
noncomputable def ik(x:Str):Bool:=!(x == ("__classdict__":Str)) && !(x == ("__debug__":Str)) && !(x == (".0":Str))
noncomputable def own?(κ:Str->Kd)(x:Str):Bool:=(κ x == .loc || κ x == .qb) && ik x
mutual
noncomputable def yC(κ:Str->Kd):Expr->Bool
 |.Name x _=>own? κ x
 |.Tuple ts _ _=>Bo κ ts
 |_=>false
noncomputable def Bo(κ:Str->Kd):List Expr->Bool
 |[]=>true
 |t::r=>yC κ t && Bo κ r
end
noncomputable def k7:Expr->Bool
 |.Slice ..=>false
 |_=>true
noncomputable def gR:Expr->Bool
 |.UnaryOp .Not _ _=>false
 |.BoolOp ..=>false
 |.Compare ..=>false
 |.IfExp ..=>false
 |_=>true
noncomputable def sV:List Str:=["net","b","q","c","s"]
noncomputable def isNm:Expr->Bool
 |.Name ..=>true
 |_=>false
noncomputable def isTup:Expr->Bool
 |.Tuple ..=>true
 |_=>false
noncomputable def vN(t:Expr):Expr->Bool
 |.Call (.Name f _) _ _ _=>!(f == ("enumerate":Str) || f == ("zip":Str)) || isTup t
 |_=>true
noncomputable def qL:Expr->Bool
 |.Call ..=>false
 |_=>true
noncomputable def xl(κ:Str->Kd)(t:Expr)(scope:Scope):Bool:=
 scope.kind == .function && decide ((scope.names.map (·.1)).Nodup) && scope.names.all λ q=>match q.2 with
  |.local=>!(q.1 == iY) && (q.1 == (".0":Str) || (ay t).contains q.1)
  |.cell=>(ay t).contains q.1
  |.free=>κ q.1 == .qb && !(ay t).contains q.1
  |.globalImplicit=>true
  |_=>false
noncomputable def UG:Const->Bool
 |.str x=>PyData.strOk x
 |_=>true
noncomputable def UH(f:Expr->Bool):Expr->Bool
 |.Slice lo hi none _=>lo.all f && hi.all f
 |.Slice _ _ (some _) _=>false
 |i=>f i
noncomputable def Pd(κ:Str->Kd)(f:Expr->Bool)(args:List Expr)(p:Pos):Expr->Bool
 |.Attribute o _ ap=>qL o && ((ap.endLine == p.line) && (decide (args.length<20) && f o))
 |.Name g _=>(κ g == .uF) && (ik g && (decide (args.length<20) && (!args.isEmpty || g == ("set":Str))))
 |_=>false
noncomputable def JD(gl:Str->Bool)(κ:Str->Kd)(g:Gn):Bool:=(κ "all" == .uF) && (!gl g.y && (own? κ g.y && (κ iY == .loc && (!g.sc.isCoroutine && (g.sc.kind == .function && ((g.sc.names.all λ q=>!(q.2 == .cell) && !(q.2 == .free)) &&
 (g.sc.names.lookup (".0":Str) == some .local && (g.sc.names.lookup g.x == some .local && (ik g.x && (g.sc.names.lookup ("type":Str) == some .globalImplicit && (g.sc.names.lookup g.T == some .globalImplicit && ik g.T)))))))))))
noncomputable def iI(gl:Str->Bool):Nat->(Str->Kd)->Expr->Bool
 |0,_,_=>false
 |n+1,κ,e=>match e with
  |.Constant c _ _=>UG c
  |.Name x _=>if gl x then κ x == .uF && ik x else own? κ x
  |.BinOp l _ r _=>iI gl n κ l && iI gl n κ r
  |.UnaryOp _ x _=>iI gl n κ x
  |.BoolOp _ es _=>es.all (iI gl n κ)
  |.Compare l _ rs _=>iI gl n κ l && rs.all (iI gl n κ)
  |.Subscript c i _=>iI gl n κ c && UH (iI gl n κ) i
  |.Tuple es _ _=>decide (es.length<=1000) && es.all (iI gl n κ)
  |.List es _=>decide (es.length<=1000) && es.all (iI gl n κ)
  |.Dict _ _ _=>true
  |.IfExp t b o _=>iI gl n κ t && (iI gl n κ b && iI gl n κ o)
  |.ListComp elt [⟨t,it,ifs,0⟩] scope _=>iI gl n κ it && (vN t it && (xl κ t scope && (yC (gC scope.names) t && (iI gl n (gC scope.names) elt && ifs.all (iI gl n (gC scope.names))))))
  |.Attribute o m _=>isNm o && (sV.contains m && iI gl n κ o)
  |.Call fn args [] p=>match rM fn args with
   |some g=>JD gl κ g
   |none=>Pd κ (iI gl n κ) args p fn && args.all (iI gl n κ)
  |_=>false
section
variable{G β γ:Type}
inductive RV(x:Option G)(f:G->Option γ)(c:γ):Prop
 |mk (a:G) (h1:x=some a) (h2:f a=some c)
inductive RW(x:Option (G×β))(f:G×β->Option γ)(c:γ):Prop
 |mk (a:G) (b:β) (h1:x=some (a,b)) (h2:f (a,b)=some c)
inductive RX{δ:Type}(x:Option (G×β×δ))(f:G×β×δ->Option γ)(c:γ):Prop
 |mk (a:G) (b:β) (d:δ) (h1:x=some (a,b,d)) (h2:f (a,b,d)=some c)
theorem a9{x:Option G}{f:G->Option γ}{c:γ}(h:x.bind f=some c):RV x f c:=by
 cases x with
 |none=>cases h
 |some a=>exact⟨a,rfl,h⟩
theorem dy{x:Option (G×β)}{f:G×β->Option γ}{c:γ}(h:x.bind f=some c):RW x f c:=by
 cases x with
 |none=>cases h
 |some p=>exact⟨p.1,p.2,rfl,h⟩
theorem zl{δ:Type}{x:Option (G×β×δ)}{f:G×β×δ->Option γ}{c:γ}(h:x.bind f=some c):RX x f c:=by
 cases x with
 |none=>cases h
 |some p=>exact⟨p.1,p.2.1,p.2.2,rfl,h⟩
theorem no{x:G}{P:Prop}(h:(none:Option G)=some x):P:=by cases h
theorem bt{P:Prop}(h:false=true):P:=by cases h
theorem iM(h:(!b)=true):b=false:=by cases b<;>first | rfl | exact no h | exact bt h | cases h
theorem az{a:Bool}(h:(a && b)=true):a=true/\b=true:=Bool.and_eq_true_iff.mp h
end
inductive Nr(it:Expr):Prop
 |call (f:Str) (np:Pos) (args:List Expr) (q:Pos) (e:it=.Call (.Name f np) args [] q)
 |plain (h1:∀Y O U r,uC Y it O U r=lJ r) (h2:∀Y O U,src Y it O U=srcOf (ev Y it O U))
theorem KA(it:Expr):Nr it:=by
 cases it with
 |Call fn args rX q=>
  cases fn with
  |Name f np=>
   cases rX with
   |nil=>exact .call f np args q rfl
   |cons a b=>exact .plain (λ _ _ _ _=>rfl) (λ _ _ _=>rfl)
  |_=>exact .plain (λ _ _ _ _=>rfl) (λ _ _ _=>rfl)
 |_=>exact .plain (λ _ _ _ _=>rfl) (λ _ _ _=>rfl)
theorem yP{r:Option (V×ae)}(hp:gR e=true):i9 Y e O U r=B0 Y O U r (kU e):=by
 cases e<;>first | rfl | exact bt hp | (rename_i op _ _;cases op<;>first | rfl | exact bt hp)
theorem DA{c i:Expr}{q:Pos}(hs:k7 i=true):ev Y (.Subscript c i q) O U=(ev Y c O U).bind λ x=>(ev Y i O x.2).bind λ y=>(dX y.2 x.1 y.1).bind λ r=>some (r,y.2):=by
 cases i<;>first | rfl | exact bt hs
theorem lst_inv{γ:Type}{f:List V->Option γ}{r:γ}(h:(match U[l]? with | some (.aI xs)=>f xs | _=>none)=some r):∃xs,U[l]?=some (.aI xs)/\f xs=some r:=by
 cases hl:U[l]? with
 |none=>rw[hl] at h;first | exact no h | exact bt h | cases h
 |some nd=>
  rw[hl] at h;cases nd with
  |aI xs=>exact⟨xs,rfl,h⟩
  |_=>first | exact no h | exact bt h | cases h
theorem n6{step:V->ak->ae->Res}{i:Nat}{r:Out×ak×ae}(h:gA step l (n+1) i O U=some r):∃xs,U[l]?=some (.aI xs)/\EC (λ x=>(step (dr U x) O U).bind λ y=>cont (gA step l n (i+1)) y.1 y.2.1 y.2.2) (some (.nx,O,U)) xs[i]?=some r:=
 lst_inv (f:=λ xs=>EC (λ x=>(step (dr U x) O U).bind λ y=>cont (gA step l n (i+1)) y.1 y.2.1 y.2.2) (some (.nx,O,U)) xs[i]?) h
noncomputable def rL(O:ak):Option Bool->Out×ak×ae
 |none=>(.nx,O,[])
 |some b=>(.rt (.d (.bool b)),O,[])
theorem tn{body:List Stmt}{ks:List Int}{r:Out×ak×ae}(h:(do
   let jW:=forget (ay t++bp body) O
   match([]:ae),lp body with
   |[],true=>match<-pM (λ x O U=>do let O<-ba t x O;xs Y body O U) jW ks with
    |none=>some (.nx,jW,[])
    |some b=>some (.rt (.d (.bool b)),jW,[])
   |_,_=>none)=some r):lp body=true/\∃q,pM (λ x O U=>(ba t x O).bind λ O=>xs Y body O U) (forget (ay t++bp body) O) ks=some q/\rL (forget (ay t++bp body) O) q=r:=by
 revert h
 cases lp body with
 |false=>exact λ h=>no h
 |true=>
  intro h;obtain⟨q,h1,h2⟩:=a9 h;cases q with
  |none=>exact⟨rfl,none,h1,Option.some.inj h2⟩
  |some b=>exact⟨rfl,some b,h1,Option.some.inj h2⟩
inductive PZ(f:Str):Expr->Prop
 |mk (p:Pos):PZ f (.Name f p)
theorem Iw(h:sj e=some f):PZ f e:=by
 cases e with
 |Name z p=>cases h;exact .mk p
 |_=>exact no h
inductive FD(fn:Expr)(args:List Expr)(rX:List Keyword):Expr->Prop
 |mk (q:Pos):FD fn args rX (.Call fn args rX q)
theorem callC{rX:List Keyword}(h:FH e=some (fn,args,rX)):FD fn args rX e:=by
 cases e with
 |Call a b c q=>cases h;exact .mk q
 |_=>exact no h
inductive Nq(f:Str)(args:List Expr):Expr->Prop
 |mk (np q:Pos):Nq f args (.Call (.Name f np) args [] q)
theorem NX(h:Jo e=some (f,args)):Nq f args e:=by
 obtain⟨⟨fn,as,rX⟩,h1,h⟩:=a9 h;obtain⟨g,h2,h⟩:=a9 h;cases callC h1;cases Iw h2;cases rX with
 |nil=>cases h;exact .mk _ _
 |cons a b=>exact no h
inductive CL(g:Gn):Expr->List Expr->Prop
 |mk (np p1 p2 p3 p4 p5 p6 p7:Pos):CL g (.Name "all" np) [.GeneratorExp (.Compare (.Call (.Name "type" p1) [.Name g.x p2] [] p3) [.Is] [.Name g.T p4] p5) [⟨.Name g.x p6,.Name g.y g.py,[],0⟩] g.sc p7]
theorem oneOf{G:Type}{xs:List G}{a:G}(h:one? xs=some a):xs=[a]:=by
 cases xs with
 |nil=>exact no h
 |cons b r=>
  cases r with
  |nil=>cases h;rfl
  |cons c d=>exact no h
theorem Mb{xs:List Expr}(h:(one? xs).bind sj=some x):∃p,xs=[.Name x p]:=by
 obtain⟨a,h1,h2⟩:=a9 h;cases Iw h2;exact⟨_,oneOf h1⟩
theorem PQ(h:MH e=some x):∃p1 p2 p3,e=.Call (.Name "type" p1) [.Name x p2] [] p3:=by
 refine bC λ k9=>?_;obtain⟨⟨g,as⟩,h1,h⟩:=a9 h;by_cases q:g="type"
 ·obtain⟨p,rfl⟩:=Mb ((if_pos q).symm.trans h);cases q;cases NX h1;exact k9 ⟨_,_,_,rfl⟩
 ·exact no ((if_neg q).symm.trans h)
theorem Ko{c:Expr×List CmpOp×List Expr}(h:FI e=some c):∃p,e=.Compare c.1 c.2.1 c.2.2 p:=by
 cases e with
 |Compare a b c q=>cases h;exact⟨_,rfl⟩
 |_=>exact no h
theorem Ut{T:Str}(h:LN e=some (x,T)):∃p1 p2 p3 p4 p5,e=.Compare (.Call (.Name "type" p1) [.Name x p2] [] p3) [.Is] [.Name T p4] p5:=by
 obtain⟨c,h1,h⟩:=a9 h;obtain⟨x',h2,h⟩:=a9 h;obtain⟨T',h3,h⟩:=a9 h;by_cases q:c.2.1=[.Is]
 ·cases(if_pos q).symm.trans h;obtain⟨p1,p2,p3,hl⟩:=PQ h2;obtain⟨p4,hr⟩:=Mb h3;obtain⟨p5,he⟩:=Ko h1;exact⟨p1,p2,p3,p4,p5,by rw[he,hl,hr,q]⟩
 ·exact no ((if_neg q).symm.trans h)
theorem K1{a:Expr}{q:Expr×List Comprehension×Scope}(h:FU a=some q):∃p,a=.GeneratorExp q.1 q.2.1 q.2.2 p:=by
 cases a with
 |GeneratorExp a b c q=>cases h;exact⟨_,rfl⟩
 |_=>exact no h
theorem O9(h:sj e=some f):e=.Name f e.pos:=by cases Iw h;rfl
theorem UA{c:Comprehension}{it:Expr}{i:List Expr}{a:Int}(h1:c.target=t)(h2:c.iter=it)(h3:c.ifs=i)(h4:c.is_async=a):c=⟨t,it,i,a⟩:=by
 subst h1 h2 h3 h4;cases c;rfl
theorem KR{c:Comprehension}(h:FO c=some (x,y)):∃p,c=⟨.Name x p,.Name y c.iter.pos,[],0⟩:=by
 obtain⟨x',h1,h⟩:=a9 h;obtain⟨y',h2,h⟩:=a9 h;by_cases q:c.ifs.isEmpty=true/\c.is_async=0
 ·cases(if_pos q).symm.trans h;exact⟨_,UA (O9 h1) (O9 h2) (List.isEmpty_iff.mp q.1) q.2⟩
 ·exact no ((if_neg q).symm.trans h)
theorem N5{g:Gn}(h:rM fn args=some g):CL g fn args:=by
 obtain⟨u,h1,h⟩:=a9 h;obtain⟨v,h2,h⟩:=a9 h;obtain⟨c,h3,h⟩:=a9 h;obtain⟨w,h4,h⟩:=a9 h;obtain⟨f,h5,h⟩:=a9 h;by_cases q:f="all"/\w.1=v.1
 ·cases(if_pos q).symm.trans h;obtain⟨a,k1,k2⟩:=a9 h1;obtain⟨p7,hg⟩:=K1 k2;obtain⟨p1,p2,p3,p4,p5,he⟩:=Ut h2;obtain⟨p6,hc⟩:=KR h4;rw[oneOf k1,hg,he,oneOf h3,hc,O9 h5,q.1,q.2];exact .mk ..
 ·exact no ((if_neg q).symm.trans h)
inductive Sg(gl:Str->Bool)(n:Nat)(κ:Str->Kd)(fn:Expr)(args:List Expr)(p:Pos):Prop
 |gen (g:Gn) (h:CL g fn args) (e:rM fn args=some g) (ok:JD gl κ g=true)
 |call (e:rM fn args=none) (o1:Pd κ (iI gl n κ) args p fn=true) (o2:args.all (iI gl n κ)=true)
theorem oA{gl:Str->Bool}{κ:Str->Kd}{p:Pos}(h:iI gl (n+1) κ (.Call fn args [] p)=true):Sg gl n κ fn args p:=by
 have h:(match rM fn args with
   |some g=>JD gl κ g
   |none=>Pd κ (iI gl n κ) args p fn && args.all (iI gl n κ))=true:=h
 cases e:rM fn args with
 |none=>rw[e] at h;exact .call e (az h).1 (az h).2
 |some g=>rw[e] at h;exact .gen g (N5 e) e h
structure NF(t:Expr):Prop where
 b:∀v O,ba t v O=none
 k:∀κ,yC κ t=false
mutual
theorem xM{P:Expr->Prop}{Ps:List Expr->Prop}(hN:∀x p,P (.Name x p))(hT:∀ts k p,Ps ts->P (.Tuple ts k p))(hO:∀t,NF t->P t)(h0:Ps [])(h1:∀t ts,P t->Ps ts->Ps (t::ts)):∀t,P t
 |.Name x p=>hN x p
 |.Tuple ts k p=>hT ts k p (oY hN hT hO h0 h1 ts)
 |.BoolOp ..=>hO _ ⟨λ _ _=>rfl,λ _=>rfl⟩
 |.NamedExpr ..=>hO _ ⟨λ _ _=>rfl,λ _=>rfl⟩
 |.BinOp ..=>hO _ ⟨λ _ _=>rfl,λ _=>rfl⟩
 |.UnaryOp ..=>hO _ ⟨λ _ _=>rfl,λ _=>rfl⟩
 |.Lambda ..=>hO _ ⟨λ _ _=>rfl,λ _=>rfl⟩
 |.IfExp ..=>hO _ ⟨λ _ _=>rfl,λ _=>rfl⟩
 |.Dict ..=>hO _ ⟨λ _ _=>rfl,λ _=>rfl⟩
 |.Set ..=>hO _ ⟨λ _ _=>rfl,λ _=>rfl⟩
 |.ListComp ..=>hO _ ⟨λ _ _=>rfl,λ _=>rfl⟩
 |.SetComp ..=>hO _ ⟨λ _ _=>rfl,λ _=>rfl⟩
 |.DictComp ..=>hO _ ⟨λ _ _=>rfl,λ _=>rfl⟩
 |.GeneratorExp ..=>hO _ ⟨λ _ _=>rfl,λ _=>rfl⟩
 |.Await ..=>hO _ ⟨λ _ _=>rfl,λ _=>rfl⟩
 |.Yield ..=>hO _ ⟨λ _ _=>rfl,λ _=>rfl⟩
 |.YieldFrom ..=>hO _ ⟨λ _ _=>rfl,λ _=>rfl⟩
 |.Compare ..=>hO _ ⟨λ _ _=>rfl,λ _=>rfl⟩
 |.Call ..=>hO _ ⟨λ _ _=>rfl,λ _=>rfl⟩
 |.FormattedValue ..=>hO _ ⟨λ _ _=>rfl,λ _=>rfl⟩
 |.JoinedStr ..=>hO _ ⟨λ _ _=>rfl,λ _=>rfl⟩
 |.Constant ..=>hO _ ⟨λ _ _=>rfl,λ _=>rfl⟩
 |.Attribute ..=>hO _ ⟨λ _ _=>rfl,λ _=>rfl⟩
 |.Subscript ..=>hO _ ⟨λ _ _=>rfl,λ _=>rfl⟩
 |.Starred ..=>hO _ ⟨λ _ _=>rfl,λ _=>rfl⟩
 |.List ..=>hO _ ⟨λ _ _=>rfl,λ _=>rfl⟩
 |.Slice ..=>hO _ ⟨λ _ _=>rfl,λ _=>rfl⟩
theorem oY{P:Expr->Prop}{Ps:List Expr->Prop}(hN:∀x p,P (.Name x p))(hT:∀ts k p,Ps ts->P (.Tuple ts k p))(hO:∀t,NF t->P t)(h0:Ps [])(h1:∀t ts,P t->Ps ts->Ps (t::ts)):∀ts,Ps ts
 |[]=>h0
 |t::ts=>h1 t ts (xM hN hT hO h0 h1 t) (oY hN hT hO h0 h1 ts)
end
theorem oX(hN:∀x p,P (.Name x p))(hT:∀ts k p,Ps ts->P (.Tuple ts k p))(hO:∀t,NF t->P t)(h0:Ps [])(h1:∀t ts,P t->Ps ts->Ps (t::ts)):(∀t,P t)/\∀ts,Ps ts:=
 ⟨xM hN hT hO h0 h1,oY hN hT hO h0 h1⟩
theorem tY{κ:Str->Kd}:(∀t:Expr,yC κ t=true->∀z∈ay t,own? κ z=true)/\∀ts:List Expr,Bo κ ts=true->∀z∈bX ts,own? κ z=true:=
 oX (λ x p h z hz=>List.mem_singleton.mp hz▸h) (λ ts k p ih h z hz=>ih h z hz) (λ t q h=>bt ((q.k κ).symm.trans h)) (λ h z hz=>by cases hz)
  λ t ts i1 i2 h z hz=>(List.mem_append.mp hz).elim (i1 (az h).1 z) (i2 (az h).2 z)
theorem qH{κ:Str->Kd}(h:yC κ t=true):∀z∈ay t,own? κ z=true:=tY.1 t h
theorem vP{κ:Str->Kd}{ts:List Expr}(h:Bo κ ts=true):∀z∈bX ts,own? κ z=true:=tY.2 ts h
theorem lu(O:ak)(x:Str)(v:V):upd O x v x=some v:=if_pos rfl
theorem sH{v:V}(h:y≠x):upd O x v y=O y:=if_neg h
noncomputable def GD(xs:List Str)(bb cV dK et:ak)(y:Str):Prop:=(y∈xs/\et y=cV y)\/(y∉xs/\cV y=bb y/\et y=dK y)
theorem zo:(∀(t:Expr) (x:V) (bb cV dK:ak),ba t x bb=some cV->∃et,ba t x dK=some et/\∀y,GD (ay t) bb cV dK et y)/\
  ∀(ts:List Expr) (xs:List V) (bb cV dK:ak),d0 ts xs bb=some cV->∃et,d0 ts xs dK=some et/\∀y,GD (bX ts) bb cV dK et y:=by
 refine oX (λ n p x bb cV dK e=>?_) (λ ts k p ih x bb cV dK e=>?_) (λ t q x bb cV dK e=>no ((q.b x bb).symm.trans e)) (λ xs bb cV dK e=>?_) λ t ts i1 i2 xs bb cV dK e=>?_
 ·cases e;refine⟨_,rfl,λ y=>?_⟩;refine Classical.byCases (p:=y=n) (λ hy=>?_) (λ hy=>?_)
  ·exact .inl ⟨hy▸.head _,by rw[hy,lu,lu]⟩
  ·exact .inr ⟨λ q=>hy (List.mem_singleton.mp q),sH hy,sH hy⟩
 ·obtain⟨vs,e1,e2⟩:=a9 e;refine bC λ k9=>?_;obtain⟨et,h1,h2⟩:=ih vs bb cV dK e2;refine k9 ?_;exact⟨et,(congrArg (Option.bind · λ vs=>d0 ts vs dK) e1).trans h1,h2⟩
 ·cases xs with
  |cons x xs=>exact no e
  |nil=>cases e;exact⟨dK,rfl,λ y=>.inr ⟨(λ h=>by cases h),rfl,rfl⟩⟩
 ·cases xs with
  |nil=>exact no e
  |cons x xs=>
   refine bC λ k9=>?_;obtain⟨O,e1,e2⟩:=a9 e;obtain⟨fB,h1,h2⟩:=i1 x bb O dK e1;obtain⟨iG,h3,h4⟩:=i2 xs O cV fB e2;refine k9 ?_;refine⟨iG,(congrArg (Option.bind · λ O=>d0 ts xs O) h1).trans h3,λ y=>?_⟩;rcases h4 y with ⟨q1,q2⟩ | ⟨q1,q2,q3⟩
   ·exact .inl ⟨List.mem_append_right _ q1,q2⟩
   ·rcases h2 y with ⟨p1,p2⟩ | ⟨p1,p2,p3⟩
    ·exact .inl ⟨List.mem_append_left _ p1,q3.trans (p2.trans q2.symm)⟩
    ·exact .inr ⟨λ q=>(List.mem_append.mp q).elim p1 q1,q2.trans p2,q3.trans p3⟩
theorem lD(t:Expr)(x:V)(bb cV dK:ak)(e:ba t x bb=some cV):∃et,ba t x dK=some et/\∀y,GD (ay t) bb cV dK et y:=zo.1 t x bb cV dK e
theorem rn{x:V}{aC:ak}(e:ba t x O=some aC):ba t x (forget (ay t) O)=some aC:=by
 obtain⟨et,h1,h2⟩:=lD t x O aC (forget (ay t) O) e;refine h1.trans (congrArg some (funext λ y=>?_));rcases h2 y with ⟨_,q⟩ | ⟨q0,q1,q2⟩
 ·exact q
 ·exact q2.trans (Eq.trans (if_neg λ q=>q0 (List.contains_iff_mem.mp q)) q1.symm)
inductive JI{γ:Type}(f:V->Option γ)(r:γ):List V->Prop
 |mk (v:V) (h:f v=some r):JI f r [v]
theorem jM{γ:Type}{f:V->Option γ}{r:γ}(h:nG f vs=some r):JI f r vs:=by
 cases vs with
 |nil=>first | exact no h | exact bt h | cases h
 |cons v t=>
  cases t with
  |nil=>exact .mk v h
  |cons a b=>first | exact no h | exact bt h | cases h
inductive JJ{γ:Type}(f:V->V->Option γ)(r:γ):List V->Prop
 |mk (a b:V) (h:f a b=some r):JJ f r [a,b]
theorem zd{γ:Type}{f:V->V->Option γ}{r:γ}(h:CN f vs=some r):JJ f r vs:=by
 cases vs with
 |nil=>first | exact no h | exact bt h | cases h
 |cons a t=>
  cases t with
  |nil=>first | exact no h | exact bt h | cases h
  |cons b t=>
   cases t with
   |nil=>exact .mk a b h
   |cons c d=>cases h
theorem Ki{γ:Type}{x:Option γ}{r:γ}(h:Kh x vs=some r):vs=[]/\x=some r:=by
 cases vs with
 |nil=>exact⟨rfl,h⟩
 |cons v t=>cases h
theorem kZ{x:PyData}{xs:List PyData}(h:vD x=some xs):x=.list xs:=by
 cases x with
 |list ys=>cases h;rfl
 |_=>first | exact no h | exact bt h | cases h
inductive Sd(c:PyData)(m:Str)(U:ae)(r:V)(aj:ae)(y:V):Prop
 |index (x:PyData) (xs:List PyData) (k:Nat) (hm:m="index") (hy:ew y=some x) (e1:vD c=some xs) (e2:ow x 0 xs=some k) (e3:some (V.d (.int k),U)=some (r,aj))
 |count (x:PyData) (k:Nat) (hm:m="count") (hy:ew y=some x) (e1:u7 x c=some k) (e3:some (V.d (.int k),U)=some (r,aj))
inductive JV(c:PyData)(m:Str)(U:ae)(r:V)(aj:ae):List V->Prop
 |mk (y:V) (h:Sd c m U r aj y):JV c m U r aj [y]
theorem Uz{c:PyData}{aj:ae}{r:V}(e:iN Y m (.d c) vs U=some (r,aj)):JV c m U r aj vs:=by
 by_cases hm:m="index"
 ·replace e:=jM ((if_pos hm).symm.trans e)
  cases e with
  |mk v e=>
   obtain⟨x,e0,e⟩:=a9 e;obtain⟨xs,e1,e⟩:=a9 e;obtain⟨k,e2,e⟩:=a9 e;exact .mk v (.index x xs k hm e0 e1 e2 e)
 ·replace e:=(if_neg hm).symm.trans e
  by_cases hm:m="count"
  ·replace e:=jM ((if_pos hm).symm.trans e)
   cases e with
   |mk v e=>
    refine bC λ k9=>?_;obtain⟨x,e0,e⟩:=a9 e;obtain⟨k,e1,e⟩:=a9 e;refine k9 ?_;exact .mk v (.count x k hm e0 e1 e)
  ·exact no ((if_neg hm).symm.trans e)
theorem kH{nd:Nd}(h:U[l]?=some nd):iN Y m (.o l) vs U=nO Y m l vs U (some nd):=congrArg (nO Y m l vs U) h
end
section
open PySem PyProof.Rows
variable{b:Addr}{i n:Nat}{o:Obj}{γ:Type}{zs:List γ}
inductive RD(X:Addr->Prop)(h:Heap):Value->PyData->Prop
 |none:RD X h .none .none
 |bool (b:Bool):RD X h (.bool b) (.bool b)
 |int (i:Int) (t:Tok):RD X h (.int i t) (.int i)
 |str (x:Str) (t:Tok):PyData.strOk x=true->RD X h (.str x t) (.str x)
 |list {a:Addr} {vs:List Value} {n:Nat} {xs:List PyData}:h.get? a=some (bo vs n)->¬X a->vs.length<=iH->vs.length=xs.length->
   (∀(i:Nat) (v:Value) (x:PyData),vs[i]?=some v->xs[i]?=some x->RD X h v x)->RD X h (.ref a) (.list xs)
 |tuple {a:Addr} {vs:List Value} {n:Nat} {xs:List PyData}:h.get? a=some (eX vs n)->¬X a->vs.length<=iH->vs.length=xs.length->
   (∀(i:Nat) (v:Value) (x:PyData),vs[i]?=some v->xs[i]?=some x->RD X h v x)->RD X h (.ref a) (.tuple xs)
noncomputable def aE{G β:Type}(R:G->β->Prop)(vs:List G)(xs:List β):Prop:=vs.length=xs.length/\∀(i:Nat) (v:G) (x:β),vs[i]?=some v->xs[i]?=some x->R v x
section
variable{G β:Type}{R R':G->β->Prop}{vs ws:List G}{xs ys:List β}{v:G}{x:β}
theorem aE.nil:aE R [] []:=⟨rfl,λ i v x h=>by cases(show(none:Option G)=some v from h)⟩
theorem aE.cons(h:R v x)(r:aE R vs xs):aE R (v::vs) (x::xs):=by
 refine⟨congrArg Nat.succ r.1,λ i u y hu hy=>?_⟩;cases i with
 |zero=>cases hu;cases hy;exact h
 |succ i=>exact r.2 i u y hu hy
theorem aE.head(h:aE R (v::vs) (x::xs)):R v x:=h.2 0 v x rfl rfl
theorem aE.tail(h:aE R (v::vs) (x::xs)):aE R vs xs:=⟨Nat.succ.inj h.1,λ i u y hu hy=>h.2 (i+1) u y hu hy⟩
theorem aE.mono(h:aE R vs xs)(hR:∀v x,R v x->R' v x):aE R' vs xs:=⟨h.1,λ i v x a b=>hR v x (h.2 i v x a b)⟩
theorem aE.Bh(h:aE R vs xs)(hR:∀v x,v∈vs->x∈xs->R v x->R' v x):aE R' vs xs:=
 ⟨h.1,λ i v x a b=>hR v x (List.mem_of_getElem? a) (List.mem_of_getElem? b) (h.2 i v x a b)⟩
theorem aE.append(h:aE R vs xs)(k:aE R ws ys):aE R (vs++ws) (xs++ys):=by
 refine⟨by rw[List.length_append,List.length_append,h.1,k.1],λ i v x a b=>?_⟩;by_cases hi:i<vs.length
 ·rw[List.getElem?_append_left hi] at a;rw[List.getElem?_append_left (h.1▸hi)] at b;exact h.2 i v x a b
 ·rw[List.getElem?_append_right (Nat.le_of_not_lt hi)] at a;rw[List.getElem?_append_right (h.1▸Nat.le_of_not_lt hi),<-h.1] at b;exact k.2 _ v x a b
theorem aE.get(h:aE R vs xs)(hx:xs[i]?=some x):∃v,vs[i]?=some v/\R v x:=by
 have hi:i<xs.length:=(List.getElem?_eq_some_iff.mp hx).1;have hv:vs[i]?=some (vs[i]'(by rw[h.1];exact hi)):=List.getElem?_eq_getElem _;exact⟨_,hv,h.2 i _ _ hv hx⟩
theorem aE.K2(h:aE R vs xs)(hv:vs[i]?=some v):∃x,xs[i]?=some x/\R v x:=by
 have hi:i<vs.length:=(List.getElem?_eq_some_iff.mp hv).1;have hx:xs[i]?=some (xs[i]'(by rw[<-h.1];exact hi)):=List.getElem?_eq_getElem _;exact⟨_,hx,h.2 i _ _ hv hx⟩
theorem aE.one(h:R v x):aE R [v] [x]:=aE.cons h aE.nil
theorem aE.set(h:aE R vs xs)(k:Nat)(hv:R v x):aE R (vs.set k v) (xs.set k x):=by
 refine⟨by rw[List.length_set,List.length_set,h.1],λ i u y a b=>?_⟩;rw[List.getElem?_set] at a b;by_cases hk:k=i
 ·subst hk;rw[if_pos rfl] at a b;by_cases hl:k<vs.length
  ·rw[if_pos hl] at a;rw[if_pos (h.1▸hl)] at b;cases a;cases b;exact hv
  ·rw[if_neg hl] at a;cases a
 ·rw[if_neg hk] at a b;exact h.2 i u y a b
theorem aE.drop(h:aE R vs xs)(k:Nat):aE R (vs.drop k) (xs.drop k):=
 ⟨by rw[List.length_drop,List.length_drop,h.1],λ i v x a b=>h.2 (k+i) v x (List.getElem?_drop.symm.trans a) (List.getElem?_drop.symm.trans b)⟩
theorem aE.take(h:aE R vs xs)(k:Nat):aE R (vs.take k) (xs.take k):=by
 refine⟨by rw[List.length_take,List.length_take,h.1],λ i v x a b=>?_⟩;rw[List.getElem?_take] at a b;by_cases hk:i<k
 ·exact h.2 i v x ((if_pos hk).symm.trans a) ((if_pos hk).symm.trans b)
 ·exact no ((if_neg hk).symm.trans a)
theorem aE.tT(h:aE R [] xs):xs=[]:=List.eq_nil_of_length_eq_zero h.1.symm
theorem aE.cM(h:aE R vs []):vs=[]:=List.eq_nil_of_length_eq_zero h.1
inductive JP(R:G->β->Prop)(vs:List G)(x:β)(xs:List β):Prop
 |mk (v:G) (ws:List G) (e:vs=v::ws) (h:R v x) (r:aE R ws xs)
theorem aE.cons_right(h:aE R vs (x::xs)):JP R vs x xs:=by
 cases vs with
 |nil=>exact by cases h.1
 |cons v ws=>exact⟨v,ws,rfl,h.head,h.tail⟩
theorem aE.yx{g:γ->β}(h:aE R vs (zs.map g)):aE (λ v z=>R v (g z)) vs zs:=
 ⟨h.1.trans (List.length_map _),λ i v z a b=>h.2 i v (g z) a (by rw[List.getElem?_map,b];rfl)⟩
theorem aE.so{g:γ->β}(h:aE (λ v z=>R v (g z)) vs zs):aE R vs (zs.map g):=
 ⟨h.1.trans (List.length_map _).symm,λ i v x a b=>by
  rw[List.getElem?_map] at b;obtain⟨z,hz,rfl⟩:=Option.map_eq_some_iff.mp b;exact h.2 i v z a hz⟩
end
section
variable{X X':Addr->Prop}{h h':Heap}{v:Value}{x:PyData}{vs:List Value}{xs:List PyData}{a:Addr}
theorem RD.qz(ho:h.get? a=some (bo vs n))(hx:¬X a)(hl:vs.length<=iH)(hr:aE (RD X h) vs xs):RD X h (.ref a) (.list xs):=.list ho hx hl hr.1 hr.2
theorem RD.pd(ho:h.get? a=some (eX vs n))(hx:¬X a)(hl:vs.length<=iH)(hr:aE (RD X h) vs xs):RD X h (.ref a) (.tuple xs):=.tuple ho hx hl hr.1 hr.2
inductive J4(mk:List Value->Nat->Obj)(X:Addr->Prop)(h:Heap)(v:Value)(xs:List PyData):Prop
 |intro(a:Addr) (vs:List Value) (n:Nat) (e:v=.ref a) (q1:h.get? a=some (mk vs n)) (q2:¬X a) (q3:vs.length<=iH) (q4:aE (RD X h) vs xs)
theorem RD.bJ(r:RD X h v (.list xs)):J4 bo X h v xs:=by
 cases r with | list h1 h2 h3 h4 h5=>exact⟨_,_,_,rfl,h1,h2,h3,h4,h5⟩
theorem RD.bR(r:RD X h v (.tuple xs)):J4 eX X h v xs:=by
 cases r with | tuple h1 h2 h3 h4 h5=>exact⟨_,_,_,rfl,h1,h2,h3,h4,h5⟩
theorem RD.keeps(hk:∀b o,¬X b->h.get? b=some o->h'.get? b=some o)(hX:∀b o,¬X b->h.get? b=some o->¬X' b):∀{v:Value} {x:PyData},RD X h v x->RD X' h' v x:=by
 intro v x r
 induction r with
 |none=>exact .none
 |bool b=>exact .bool b
 |int i t=>exact .int i t
 |str y t hy=>exact .str y t hy
 |list h1 h2 h3 h4 _ ih=>exact .list (hk _ _ h2 h1) (hX _ _ h2 h1) h3 h4 ih
 |tuple h1 h2 h3 h4 _ ih=>exact .tuple (hk _ _ h2 h1) (hX _ _ h2 h1) h3 h4 ih
theorem mG{xs:List PyData}:∀{vs:List Value},vs.length=xs.length->(∀(i:Nat) (v:Value) (x:PyData),vs[i]?=some v->xs[i]?=some x->∃as,Reads h v x as)->∃as,ReadsAll h vs xs as:=by
 induction xs with
 |nil=>
  intro vs hl _;cases vs with
  |nil=>exact⟨[],.nil⟩
  |cons v vs=>exact by cases hl
 |cons x xs ih=>
  intro vs hl hr;cases vs with
  |nil=>exact by cases hl
  |cons v vs=>
   obtain⟨as,ha⟩:=hr 0 v x rfl rfl;obtain⟨bs,hb⟩:=ih (vs:=vs) (Nat.succ.inj hl) λ i u y hu hy=>hr (i+1) u y hu hy;exact⟨as++bs,.cons ha hb⟩
theorem RD.reads(r:RD X h v x):∃as,Reads h v x as:=by
 induction r with
 |none=>exact⟨[],.none⟩
 |bool b=>exact⟨[],.bool b⟩
 |int i t=>exact⟨[],.int i t⟩
 |str y t _=>exact⟨[],.str y t⟩
 |list h1 _ _ h4 _ ih=>
  obtain⟨as,ha⟩:=mG h4 ih;exact⟨_,.list h1 rfl rfl ha⟩
 |tuple h1 _ _ h4 _ ih=>
  obtain⟨as,ha⟩:=mG h4 ih;exact⟨_,.tuple h1 rfl rfl ha⟩
theorem jN:∀{xs:List PyData},(∀x∈xs,x.canLay0=true)->PyData.canLayAll0 xs=true:=by
 intro xs
 induction xs with
 |nil=>
  intro _;rw[PyData.canLayAll0]
 |cons x xs ih=>
  intro h;rw[PyData.canLayAll0,h x List.mem_cons_self,ih λ y hy=>h y (List.mem_cons_of_mem _ hy)];rfl
theorem qa{vs:List Value}{xs:List PyData}(h4:vs.length=xs.length)(ih:∀(i:Nat) (v:Value) (x:PyData),vs[i]?=some v->xs[i]?=some x->x.canLay0=true):PyData.canLayAll0 xs=true:=jN λ y hy=>by
 obtain⟨i,hi⟩:=List.mem_iff_getElem?.mp hy;exact ih i _ _ (List.getElem?_eq_getElem (h4▸(List.getElem?_eq_some_iff.mp hi).1)) hi
theorem RD.canLay(r:RD X h v x):x.canLay0=true:=by
 induction r with
 |none=>rw[PyData.canLay0]
 |bool b=>rw[PyData.canLay0]
 |int i t=>rw[PyData.canLay0]
 |str y t hy=>rw[PyData.canLay0];exact hy
 |list h1 _ _ h4 _ ih=>rw[PyData.canLay0];exact qa h4 ih
 |tuple h1 _ _ h4 _ ih=>rw[PyData.canLay0];exact qa h4 ih
end
noncomputable abbrev bB:=Nat->Addr×Addr
noncomputable def Nd.live:Nd->Bool
 |.cn _=>false
 |_=>true
noncomputable def Nd.qx:Nd->Bool
 |.ins _=>true
 |_=>false
inductive Own(H:bB)(U:ae)(b:Addr):Prop
 |mk (l:Nat) (n:Nd) (e1:U[l]?=some n) (e2:n.live=true) (e3:b=(H l).1\/b=(H l).2)
noncomputable def Ex(J:Addr->Prop)(H:bB)(U:ae)(b:Addr):Prop:=J b\/Own H U b
section
variable{J:Addr->Prop}{H aB dF:bB}{U aj iz:ae}{h h' mZ:Heap}{v:Value}
structure bZ(H:bB)(U:ae)(h:Heap)(aB:bB)(aj:ae)(h':Heap):Prop where
 len:U.length<=aj.length
 ag:∀l,l<U.length->aB l=H l
 own:∀b,Own aB aj b->Own H U b\/h.get? b=none
 kp:∀b o,¬Own H U b->h.get? b=some o->h'.get? b=some o
theorem bZ.refl:bZ H U h H U h:=⟨Nat.le_refl _,λ _ _=>rfl,λ _ x=>.inl x,λ _ _ _ e=>e⟩
theorem bZ.trans(a:bZ H U h aB aj h')(b:bZ aB aj h' dF iz mZ):bZ H U h dF iz mZ where
 len:=Nat.le_trans a.len b.len
 ag:=λ l hl=>(b.ag l (Nat.lt_of_lt_of_le hl a.len)).trans (a.ag l hl)
 own:=λ c x=>by
  rcases b.own c x with y | y
  ·exact a.own c y
  ·by_cases hc:Own H U c
   ·exact .inl hc
   ·cases e:h.get? c with
    |none=>exact .inr rfl
    |some o=>rw[a.kp c o hc e] at y;cases y
 kp:=λ c o hc e=>b.kp c o (λ y=>by
  rcases a.own c y with y | y
  ·exact hc y
  ·rw[e] at y;cases y) (a.kp c o hc e)
theorem bZ.off(a:bZ H U h aB aj h')(hb:¬Own H U b)(e:h.get? b=some o):¬Own aB aj b:=λ y=>by
 rcases a.own b y with y | y
 ·exact hb y
 ·rw[e] at y;first | exact no y | exact bt y | cases y
theorem bZ.ex(a:bZ H U h aB aj h')(hb:¬Ex J H U b)(e:h.get? b=some o):¬Ex J aB aj b:=λ y=>by
 rcases y with y | y
 ·exact hb (.inl y)
 ·exact a.off (λ q=>hb (.inr q)) e y
theorem bZ.OZ(a:bZ H U h aB aj h')(hb:¬Ex J H U b)(e:h.get? b=some o):h'.get? b=some o:=a.kp b o (λ q=>hb (.inr q)) e
structure Mv(J:Addr->Prop)(H:bB)(U:ae)(h:Heap)(J':Addr->Prop)(aB:bB)(aj:ae)(h':Heap):Prop where
 kp:∀b o,¬Ex J H U b->h.get? b=some o->h'.get? b=some o
 ex:∀b o,¬Ex J H U b->h.get? b=some o->¬Ex J' aB aj b
 at':∀l,l<U.length->aB l=H l/\l<aj.length
theorem bZ.mv(e:bZ H U h aB aj h'):Mv J H U h J aB aj h':=⟨λ b o hb ho=>e.OZ hb ho,λ _ _ hb ho=>e.ex hb ho,λ l hl=>⟨e.ag l hl,Nat.lt_of_lt_of_le hl e.len⟩⟩
theorem RD.mv{J':Addr->Prop}{x:PyData}(r:RD (Ex J H U) h v x)(m:Mv J H U h J' aB aj h'):RD (Ex J' aB aj) h' v x:=r.keeps m.kp m.ex
theorem RD.aH{x:PyData}(r:RD (Ex J H U) h v x)(e:bZ H U h aB aj h'):RD (Ex J aB aj) h' v x:=r.mv e.mv
end
open PySem PyProof.Rows
variable{G β:Type}{R:G->β->Prop}{a:Option G}{b:Option β}
noncomputable abbrev CM(xs:Array Nat):Prop:=xs.toList.Pairwise (·<·)
noncomputable def FT:Bool:=w.params.followText "set-order"
structure TB(t:SetTable):Prop where
 Po:CM t.place
 led:t.led=!FT
structure EL(es:Array (Int×Value))(xs:List Int):Prop where
 el:∀e∈es.toList,∃i tk,e=(hashInt i,.int i tk)
 mem:∀i,i∈xs↔∃e∈es.toList,∃tk,e.2=.int i tk
 le:es.size<=xs.length
inductive dO(w:World)(h:Heap)(a:Addr)(xs:List Int):Prop
 |mk (o:Obj) (es:Array (Int×Value)) (ep:Nat) (t:SetTable) (q1:h.get? a=some o) (q2:o.ExactSet) (q3:o.data=.set es ep t) (q4:EL es xs) (q7:xs.length<=4000) (q8:t.fits es.size=true) (q9:TB t)
theorem dO.got{h:Heap}{a:Addr}{xs:List Int}(x:dO w h a xs):∃o,h.get? a=some o/\o.cls=.type "set":=by
 obtain⟨o,_,_,_,ho,hx⟩:=x;exact⟨o,ho,hx.1⟩
theorem dO.keeps{h h':Heap}{a:Addr}{xs:List Int}(x:dO w h a xs)(e:∀o,h.get? a=some o->h'.get? a=some o):dO w h' a xs:=by
 obtain⟨o,es,ep,t,ho,q2,q3,q4,q7,q8,q9⟩:=x;exact⟨o,es,ep,t,e o ho,q2,q3,q4,q7,q8,q9⟩
noncomputable def pE{G β:Type}(R:G->β->Prop):Option G->Option β->Prop
 |none,none=>True
 |some v,some x=>R v x
 |_,_=>False
theorem pE.mono{R':G->β->Prop}(h:pE R a b)(k:∀v x,R v x->R' v x):pE R' a b:=by
 cases a<;>cases b<;>first | exact h | exact k _ _ h
theorem pE.ko{x:β}(h:pE R a (some x)):∃v,a=some v/\R v x:=by
 cases a with
 |none=>exact False.elim h
 |some v=>exact⟨v,rfl,h⟩
theorem pE.isSome(h:pE R a b):a.isSome=b.isSome:=by
 cases a<;>cases b<;>first | rfl | exact False.elim h
inductive R9(w:World)(J:Addr->Prop)(H:bB)(U:ae)(h:Heap)(v:Value)(xs:List Int):Prop
 |mk (a:Addr) (h1:v=.ref a) (h2:¬Ex J H U a) (h3:dO w h a xs)
noncomputable def VR(w:World)(J:Addr->Prop)(H:bB)(U:ae)(h:Heap)(v:Value):V->Prop
 |.d x=>RD (Ex J H U) h v x
 |.fs xs=>R9 w J H U h v xs
 |.ty n=>v=.type n
 |.o l=>v=.ref (H l).1/\l<U.length
section
variable{J:Addr->Prop}{H aB:bB}{U aj:ae}{h h':Heap}{v:Value}{x:V}
theorem VR.mv{J':Addr->Prop}(r:VR w J H U h v x)(e:Mv J H U h J' aB aj h'):VR w J' aB aj h' v x:=by
 cases x with
 |d x=>exact RD.mv r e
 |ty n=>exact r
 |o l=>exact⟨by rw[(e.at' l r.2).1];exact r.1,(e.at' l r.2).2⟩
 |fs xs=>
  obtain⟨a,h1,h2,h3⟩:=r;obtain⟨o,ho,_⟩:=h3.got;exact⟨a,h1,e.ex a o h2 ho,h3.keeps λ o ho=>e.kp a o h2 ho⟩
theorem VR.aH(r:VR w J H U h v x)(e:bZ H U h aB aj h'):VR w J aB aj h' v x:=r.mv e.mv
end
section
variable(prog:Program)(w:World)(hB:Heap)(C:Addr)
inductive ND(J:Addr->Prop)(H:bB)(U:ae)(h:Heap)(a:Addr)(xs:List V):Prop
 |mk (vs:List Value) (n:Nat) (q1:h.get? a=some (bo vs n)) (q2:vs.length<=iH) (q3:aE (VR w J H U h) vs xs)
inductive RZ(J:Addr->Prop)(H:bB)(U:ae)(h:Heap)(a:Addr)(bj:List (Int×V)):Prop
 |mk (q0:bj.length<=cW/\a≠sysModules) (ps:List (Int×Value)) (q1:h.DictOf (intKind prog w) a ps) (q2:aE (λ p q=>p.1=q.1/\VR w J H U h p.2 q.2) ps bj)
inductive R0(J:Addr->Prop)(H:bB)(U:ae)(h:Heap)(a:Addr)(bj:List (List Int×V)):Prop
 |mk (q0:bj.length<=cW/\a≠sysModules) (ps:List (List Int×Addr×Value)) (q1:h.DictOfH (tupleKind (intKind prog w)) a ps) (q3:∀x∈ps,¬Ex J H U x.2.1) (q2:aE (λ p q=>p.1=q.1/\VR w J H U h p.2.2 q.2) ps bj)
inductive NA(J:Addr->Prop)(H:bB)(U:ae)(h:Heap)(a da:Addr)(fs:List (Str×V)):Prop
 |mk (q0:fs.length<=1000) (mA:Str->Option Value) (q1:h.Inst a C mA) (q2:∀o,h.get? a=some o->o.dict=some da) (q3:∀n v,mA n=some v->n∈fs.map (·.1)) (q4:∀n,pE (VR w J H U h) (mA n) (dY n fs))
inductive GI(h:Heap)(a:Addr):Prop
 |mk (ps:Array Value) (q0:a=PL) (q1:h.get? a=some { cls:=.none,data:=.fields ps }) (q2:TriplesOk ps.toList)
noncomputable def NR(J:Addr->Prop)(H:bB)(U:ae)(h:Heap)(a da:Addr):Nd->Prop
 |.aI xs=>ND w J H U h a xs
 |.fF bj=>RZ prog w J H U h a bj
 |.jf bj=>R0 prog w J H U h a bj
 |.set xs=>dO w h a xs
 |.ins fs=>NA w C J H U h a da fs
 |.cn x=>RD (Ex J H U) h (.ref a) x
 |.eM=>GI h a
structure SR(J:Addr->Prop)(H:bB)(U:ae)(h:Heap):Prop where
 keep:∀b o,hB.get? b=some o->h.get? b=some o
 node:∀l n,U[l]?=some n->NR prog w C J H U h (H l).1 (H l).2 n
 inj:∀l l' n n',U[l]?=some n->n.live=true->U[l']?=some n'->n'.live=true->
  ((H l).1=(H l').1\/(H l).1=(H l').2\/(H l).2=(H l').2)->l=l'
 off:∀l n,U[l]?=some n->n.live=true->hB.get? (H l).1=none/\hB.get? (H l).2=none
 two:∀l n,U[l]?=some n->n.qx=false->(H l).2=(H l).1
 jo:∀b,J b->¬Own H U b/\hB.get? b=none/\∃o,h.get? b=some o
end
end
section
open PySem PyProof.Rows
variable{b:Addr}
section
variable{J:Addr->Prop}{H aB:bB}{U aj:ae}{h h':Heap}{v:Value}{x:V}{n n':Nd}{a da:Addr}{l:Nat}
theorem Own.of(hn:U[l]?=some n)(hl:n.live=true):Own H U (H l).1/\Own H U (H l).2:=⟨⟨l,n,hn,hl,.inl rfl⟩,⟨l,n,hn,hl,.inr rfl⟩⟩
theorem rB{K:Type}[DecidableEq K]{knd:KeyKind prog w K}{ps:List (K×Value)}(x:h.DictOf knd a ps)(e:∀o,h.get? a=some o->h'.get? a=some o):h'.DictOf knd a ps:=
 (by obtain⟨o,es,ep,ho,r⟩:=x;exact⟨o,es,ep,e o ho,r⟩)
theorem pH{xs:List (List Int×Addr×Value)}(x:h.DictOfH (tupleKind (intKind prog w)) a xs)(e:∀o,h.get? a=some o->h'.get? a=some o)
  (ek:∀y∈xs,∀o,h.get? y.2.1=some o->h'.get? y.2.1=some o):h'.DictOfH (tupleKind (intKind prog w)) a xs:=by
 refine bC λ k9=>?_;obtain⟨o,es,ep,ho,h1,h2,h3,h4,h5⟩:=x;refine k9 ?_;refine⟨o,es,ep,e o ho,h1,h2,h3,λ y hy=>?_,h5⟩;refine bC λ k9=>?_;obtain⟨ob,items,m,q,r⟩:=h4 y hy;refine k9 ?_;exact⟨ob,items,m,ek y hy ob q,r⟩
theorem yB{m:Str->Option Value}(x:h.Ns1 a m)(e:∀o,h.get? a=some o->h'.get? a=some o):h'.Ns1 a m:=by
 obtain⟨o,es,ep,ho,r⟩:=x;exact⟨o,es,ep,e o ho,r⟩
theorem vA{mA:Str->Option Value}(x:h.Inst a C mA)(hd:∀o,h.get? a=some o->o.dict=some da)(e:∀o,h.get? a=some o->h'.get? a=some o)
  (e2:∀o,h.get? da=some o->h'.get? da=some o):h'.Inst a C mA:=by
 refine bC λ k9=>?_;obtain⟨o,ho,h1,h2,h3⟩:=x;refine k9 ?_;refine⟨o,e o ho,h1,h2,?_⟩;rcases h3 with ⟨q,_⟩ | ⟨d,q,q2,q3⟩
 ·rw[hd o ho] at q;cases q
 ·obtain rfl:da=d:=Option.some.inj ((hd o ho).symm.trans q);exact .inr ⟨da,q,q2,yB q3 e2⟩
theorem NR.mv{J':Addr->Prop}(r:NR prog w C J H U h a da n)(e:Mv J H U h J' aB aj h')(h1:n.live=true->∀o,h.get? a=some o->h'.get? a=some o)(h2:n.live=true->∀o,h.get? da=some o->h'.get? da=some o):NR prog w C J' aB aj h' a da n:=by
 cases n with
 |aI xs=>
  obtain⟨vs,m,q1,q2,q3⟩:=r;exact⟨vs,m,h1 rfl _ q1,q2,q3.mono λ v x r=>r.mv e⟩
 |fF bj=>
  obtain⟨q0,ps,q1,q2⟩:=r;exact⟨q0,ps,rB q1 (h1 rfl),q2.mono λ p q r=>⟨r.1,r.2.mv e⟩⟩
 |jf bj=>
  obtain⟨q0,ps,q1,q3,q2⟩:=r;refine⟨q0,ps,pH q1 (h1 rfl) (λ y hy o ho=>e.kp _ o (q3 y hy) ho),λ y hy=>?_,q2.mono λ p q r=>⟨r.1,r.2.mv e⟩⟩;refine bC λ k9=>?_;obtain⟨o,es,ep,ho,k1,k2,k3,k4,k5⟩:=q1;obtain⟨ob,items,m,q,r⟩:=k4 y hy;refine k9 ?_;exact e.ex _ ob (q3 y hy) q
 |set xs=>exact dO.keeps r (h1 rfl)
 |ins fs=>
  obtain⟨q0,mA,q1,q2,q3,q4⟩:=r;refine⟨q0,mA,vA q1 q2 (h1 rfl) (h2 rfl),λ o ho=>?_,q3,λ m=>(q4 m).mono λ v x r=>r.mv e⟩;obtain⟨o',pC,_⟩:=q1;obtain rfl:o'=o:=Option.some.inj ((h1 rfl o' pC).symm.trans ho);exact q2 o' pC
 |cn x=>exact RD.mv r e
 |eM=>
  obtain⟨ps,q0,q1,q2⟩:=r;exact⟨ps,q0,h1 rfl _ q1,q2⟩
theorem NR.aH(r:NR prog w C J H U h a da n)(e:bZ H U h aB aj h')(h1:∀o,h.get? a=some o->h'.get? a=some o)(h2:∀o,h.get? da=some o->h'.get? da=some o):NR prog w C J aB aj h' a da n:=r.mv e.mv (λ _=>h1) (λ _=>h2)
theorem RD.sA{X:Addr->Prop}{x:PyData}(r:RD X h (.ref a) x):∃o,h.get? a=some o/\¬X a:=by
 cases r with
 |list h1 h2=>exact⟨_,h1,h2⟩
 |tuple h1 h2=>exact⟨_,h1,h2⟩
theorem NR.got(r:NR prog w C J H U h a da n):∃o,h.get? a=some o:=by
 cases n with
 |aI xs=>obtain⟨vs,m,q1,_⟩:=r;exact⟨_,q1⟩
 |fF bj=>
  refine bC λ k9=>?_;obtain⟨_,ps,⟨o,_,_,q,_⟩,_⟩:=r;refine k9 ?_;exact⟨o,q⟩
 |jf bj=>
  obtain⟨_,ps,⟨o,_,_,q,_⟩,_⟩:=r;exact⟨o,q⟩
 |set xs=>obtain⟨o,q,_⟩:=dO.got r;exact⟨o,q⟩
 |ins fs=>obtain⟨_,mA,⟨o,q,_⟩,_⟩:=r;exact⟨o,q⟩
 |cn x=>obtain⟨o,q,_⟩:=RD.sA r;exact⟨o,q⟩
 |eM=>obtain⟨ps,_,q,_⟩:=r;exact⟨_,q⟩
theorem NR.DQ(r:NR prog w C J H U h a da n)(hl:n.qx=false->da=a):∃o,h.get? da=some o:=by
 cases n with
 |ins fs=>
  refine bC λ k9=>?_;obtain⟨_,mA,⟨o,q,_,_,hd⟩,q2⟩:=r;refine k9 ?_;rcases hd with ⟨e,_⟩ | ⟨d,e,_,⟨o',_,_,pC,_⟩⟩
  ·cases(q2 o q).symm.trans e
  ·obtain rfl:da=d:=Option.some.inj ((q2 o q).symm.trans e);exact⟨o',pC⟩
 |_=>rw[hl rfl];exact NR.got r
end
section
variable{J:Addr->Prop}{H aB:bB}{U aj:ae}{h h':Heap}{v:Value}{x:V}{n n':Nd}{a da:Addr}{l:Nat}
noncomputable def bB.add(H:bB)(U:ae)(a da:Addr):bB:=λ l=>if l=U.length then(a,da) else H l
theorem bZ.bx(hk:∀b o,h.get? b=some o->h'.get? b=some o):bZ H U h H U h':=⟨Nat.le_refl _,λ _ _=>rfl,λ _ x=>.inl x,λ b o _ e=>hk b o e⟩
theorem SR.bx(S:SR prog w hB C J H U h)(hk:∀b o,h.get? b=some o->h'.get? b=some o):SR prog w hB C J H U h':=
 ⟨λ b o e=>hk b o (S.keep b o e),λ l n e=>(S.node l n e).aH (bZ.bx hk) (λ o ho=>hk _ o ho) (λ o ho=>hk _ o ho),S.inj,S.off,S.two,λ b hb=>(by obtain⟨h1,h2,o,h3⟩:=S.jo b hb;exact⟨h1,h2,o,hk b o h3⟩)⟩
theorem top_lt(h:l<(U++[n]).length):l<U.length+1:=by rw[List.length_append] at h;exact h
theorem nj(o:Own (H.add U a da) (U++[n]) b):Own H U b\/(n.live=true/\(b=a\/b=da)):=by
 refine bC λ k9=>?_;obtain⟨l,m,e,hl,hb⟩:=o;refine k9 ?_;refine Classical.byCases (p:=l<U.length) (λ q=>?_) (λ q=>?_)
 ·rw[List.getElem?_append_left q] at e;rw[show(H.add U a da) l=H l from if_neg (Nat.ne_of_lt q)] at hb;exact .inl ⟨l,m,e,hl,hb⟩
 ·have q2:l=U.length:=by
   exact Nat.le_antisymm (Nat.le_of_lt_succ (top_lt (List.getElem?_eq_some_iff.mp e).1)) (Nat.le_of_not_lt q)
  subst q2;cases(List.getElem?_concat_length).symm.trans e;rw[show(H.add U a da) U.length=(a,da) from if_pos rfl] at hb;exact .inr ⟨hl,hb⟩
theorem bZ.grow(ha:h.get? a=none)(hd:h.get? da=none)(hk:∀b o,h.get? b=some o->h'.get? b=some o):bZ H U h (H.add U a da) (U++[n]) h' where
 len:=List.length_append (as:=U) (bs:=[n])▸Nat.le_succ _
 ag:=λ l hl=>if_neg (Nat.ne_of_lt hl)
 own:=λ b o=>by
  rcases nj o with o | ⟨_,rfl | rfl⟩
  ·exact .inl o
  ·exact .inr ha
  ·exact .inr hd
 kp:=λ b o _ e=>hk b o e
end
section
namespace lB
noncomputable section
def P(J:Addr->Prop)(H:bB)(U:ae)(h:Heap)(h':Heap)(n:Nd)(a:Addr)(da:Addr):Prop:=∀(S:SR prog w hB C J H U h) (ha:h.get? a=none) (hd:h.get? da=none) (hk:∀b o,h.get? b=some o->h'.get? b=some o) (hn:NR prog w C J (H.add U a da) (U++[n]) h' a da n) (h2:n.qx=false->da=a),SR prog w hB C J (H.add U a da) (U++[n]) h'
def xe:(Addr->Prop)×(bB)×(ae)×(Heap)×(Heap)×(Nd)×(Addr)×(Addr):=@Classical.epsilon _ ⟨(default,default,default,default,default,.set [],default,default)⟩ λ x=>¬P x.1 x.2.1 x.2.2.1 x.2.2.2.1 x.2.2.2.2.1 x.2.2.2.2.2.1 x.2.2.2.2.2.2.1 x.2.2.2.2.2.2.2
def J:Addr->Prop:=xe.1
def H:bB:=xe.2.1
def U:ae:=xe.2.2.1
def h:Heap:=xe.2.2.2.1
def h':Heap:=xe.2.2.2.2.1
def n:Nd:=xe.2.2.2.2.2.1
def a:Addr:=xe.2.2.2.2.2.2.1
def da:Addr:=xe.2.2.2.2.2.2.2
theorem core:P J H U h h' n a da:=λ S ha hd hk hn h2=>by
 have e:bZ H U h (H.add U a da) (U++[n]) h':=bZ.grow ha hd hk;have hg:∀l m,U[l]?=some m->m.live=true->(∃o,h.get? (H l).1=some o)/\(∃o,h.get? (H l).2=some o):=λ l m q1 q2=>⟨(S.node l m q1).got,(S.node l m q1).DQ (S.two l m q1)⟩;have hi:∀l,l<U.length->(H.add U a da) l=H l:=λ l hl=>e.ag l hl;have ht:(H.add U a da) U.length=(a,da):=if_pos rfl;have cs:∀l m,(U++[n])[l]?=some m->(l<U.length/\U[l]?=some m)\/(l=U.length/\m=n):=λ l m q=>by
  refine Classical.byCases (p:=l<U.length) (λ k=>?_) (λ k=>?_)
  ·rw[List.getElem?_append_left k] at q;exact .inl ⟨k,q⟩
  ·have q2:l=U.length:=Nat.le_antisymm (Nat.le_of_lt_succ (top_lt (List.getElem?_eq_some_iff.mp q).1)) (Nat.le_of_not_lt k);subst q2;cases(List.getElem?_concat_length).symm.trans q;exact .inr ⟨rfl,rfl⟩
 refine⟨λ b o q=>hk b o (S.keep b o q),λ l m q=>?_,λ l l' m m' q1 q2 q3 q4 q5=>?_,λ l m q1 q2=>?_,λ l m q1 q2=>?_,λ b hb=>?_⟩
 ·rcases cs l m q with ⟨k,q⟩ | ⟨rfl,rfl⟩
  ·rw[hi l k];exact(S.node l m q).aH e (λ o ho=>hk _ o ho) (λ o ho=>hk _ o ho)
  ·rw[ht];exact hn
 ·rcases cs l m q1 with ⟨k,Mo⟩ | ⟨rfl,rfl⟩<;>rcases cs l' m' q3 with ⟨k',Mp⟩ | ⟨rfl,rfl⟩
  ·rw[hi l k,hi l' k'] at q5;exact S.inj l l' m m' Mo q2 Mp q4 q5
  ·exfalso;rw[hi l k,ht] at q5;obtain⟨⟨o1,g1⟩,⟨o2,g2⟩⟩:=hg l m Mo q2;rcases q5 with q | q | q<;>dsimp only at q
   ·rw[q,ha] at g1;cases g1
   ·rw[q,hd] at g1;cases g1
   ·rw[q,hd] at g2;cases g2
  ·exfalso;rw[ht,hi l' k'] at q5;obtain⟨⟨o1,g1⟩,⟨o2,g2⟩⟩:=hg l' m' Mp q4;rcases q5 with q | q | q<;>dsimp only at q
   ·rw[<-q,ha] at g1;cases g1
   ·rw[<-q,ha] at g2;cases g2
   ·rw[<-q,hd] at g2;cases g2
  ·rfl
 ·rcases cs l m q1 with ⟨k,q1⟩ | ⟨rfl,rfl⟩
  ·rw[hi l k];exact S.off l m q1 q2
  ·rw[ht];refine⟨?_,?_⟩
   ·cases e:hB.get? a with
    |none=>rfl
    |some o=>rw[S.keep _ _ e] at ha;cases ha
   ·cases e:hB.get? da with
    |none=>rfl
    |some o=>rw[S.keep _ _ e] at hd;cases hd
 ·rcases cs l m q1 with ⟨k,q1⟩ | ⟨rfl,rfl⟩
  ·rw[hi l k];exact S.two l m q1 q2
  ·rw[ht];exact h2 q2
 ·obtain⟨h1,h2,o,h3⟩:=S.jo b hb;refine⟨λ q=>?_,h2,o,hk b o h3⟩;rcases e.own b q with q | q
  ·exact h1 q
  ·rw[h3] at q;first | exact no q | exact bt q | cases q
end
end lB
variable{J:Addr->Prop}{H aB:bB}{U aj:ae}{h h':Heap}{v:Value}{x:V}{n n':Nd}{a da:Addr}{l:Nat}
theorem SR.grow(S:SR prog w hB C J H U h)(ha:h.get? a=none)(hd:h.get? da=none)(hk:∀b o,h.get? b=some o->h'.get? b=some o)
  (hn:NR prog w C J (H.add U a da) (U++[n]) h' a da n) (h2:n.qx=false->da=a):SR prog w hB C J (H.add U a da) (U++[n]) h':=aU (Q:=λ x:(Addr->Prop)×(bB)×(ae)×(Heap)×(Heap)×(Nd)×(Addr)×(Addr)=>lB.P x.1 x.2.1 x.2.2.1 x.2.2.2.1 x.2.2.2.2.1 x.2.2.2.2.2.1 x.2.2.2.2.2.2.1 x.2.2.2.2.2.2.2) lB.core (J,H,U,h,h',n,a,da) S ha hd hk hn h2
theorem xx(hl:U[l]?=some n)(hv:n.live=true)(o:Own H (U.set l n') b):Own H U b:=by
 obtain⟨k,m,e,q,hb⟩:=o;refine Classical.byCases (p:=l=k) (λ hk=>?_) (λ hk=>?_)
 ·subst hk;exact⟨l,n,hl,hv,hb⟩
 ·exact⟨k,m,(List.getElem?_set_ne hk).symm.trans e,q,hb⟩
theorem bZ.set(hl:U[l]?=some n)(hv:n.live=true)(hk:∀b o,b≠(H l).1->b≠(H l).2->h.get? b=some o->h'.get? b=some o):bZ H U h H (U.set l n') h' where
 len:=Nat.le_of_eq List.length_set.symm
 ag:=λ _ _=>rfl
 own:=λ b o=>.inl (xx hl hv o)
 kp:=λ b o hb e=>hk b o (λ q=>hb (q▸(Own.of hl hv).1)) (λ q=>hb (q▸(Own.of hl hv).2)) e
end
section
namespace nE
noncomputable section
def P(J:Addr->Prop)(H:bB)(U:ae)(h:Heap)(h':Heap)(n:Nd)(n':Nd)(l:Nat):Prop:=∀(S:SR prog w hB C J H U h) (hl:U[l]?=some n) (hv:n.live=true) (hk:∀b o,b≠(H l).1->b≠(H l).2->h.get? b=some o->h'.get? b=some o) (hn:NR prog w C J H (U.set l n') h' (H l).1 (H l).2 n') (h2:n'.qx=false->(H l).2=(H l).1),SR prog w hB C J H (U.set l n') h'
def xe:(Addr->Prop)×(bB)×(ae)×(Heap)×(Heap)×(Nd)×(Nd)×(Nat):=@Classical.epsilon _ ⟨(default,default,default,default,default,.set [],.set [],default)⟩ λ x=>¬P x.1 x.2.1 x.2.2.1 x.2.2.2.1 x.2.2.2.2.1 x.2.2.2.2.2.1 x.2.2.2.2.2.2.1 x.2.2.2.2.2.2.2
def J:Addr->Prop:=xe.1
def H:bB:=xe.2.1
def U:ae:=xe.2.2.1
def h:Heap:=xe.2.2.2.1
def h':Heap:=xe.2.2.2.2.1
def n:Nd:=xe.2.2.2.2.2.1
def n':Nd:=xe.2.2.2.2.2.2.1
def l:Nat:=xe.2.2.2.2.2.2.2
theorem core:P J H U h h' n n' l:=λ S hl hv hk hn h2=>by
 have e:bZ H U h H (U.set l n') h':=bZ.set hl hv hk;have lt:l<U.length:=(List.getElem?_eq_some_iff.mp hl).1;have cs:∀k m,(U.set l n')[k]?=some m->(k=l/\m=n')\/(k≠l/\U[k]?=some m):=λ k m q=>by
  refine Classical.byCases (p:=l=k) (λ hk=>?_) (λ hk=>?_)
  ·subst hk;cases(List.getElem?_set_self lt).symm.trans q;exact .inl ⟨rfl,rfl⟩
  ·exact .inr ⟨λ x=>hk x.symm,(List.getElem?_set_ne hk).symm.trans q⟩
 have lv:∀(k:Nat) (m:Nd),(U.set l n')[k]?=some m->m.live=true->∃yz:Nd,U[k]?=some yz/\yz.live=true:=λ k m q1 q2=>by
  rcases cs k m q1 with ⟨rfl,rfl⟩ | ⟨_,q⟩
  ·exact⟨n,hl,hv⟩
  ·exact⟨m,q,q2⟩
 refine⟨λ b o q=>?_,λ k m q=>?_,λ k k' m m' q1 q2 q3 q4 q5=>?_,λ k m q1 q2=>?_,λ k m q1 q2=>?_,λ b hb=>?_⟩
 ·obtain⟨h1,h2⟩:=S.off l n hl hv;refine hk b o (λ x=>?_) (λ x=>?_) (S.keep b o q)
  ·rw[x,h1] at q;cases q
  ·rw[x,h2] at q;cases q
 ·rcases cs k m q with ⟨rfl,rfl⟩ | ⟨Ni,q⟩
  ·exact hn
  ·refine Classical.byCases (p:=m.live=true) (λ hm=>?_) (λ hm=>?_)
   ·have ne:(H k).1≠(H l).1/\(H k).1≠(H l).2/\(H k).2≠(H l).1/\(H k).2≠(H l).2:=
     ⟨λ x=>Ni (S.inj k l m n q hm hl hv (.inl x)),λ x=>Ni (S.inj k l m n q hm hl hv (.inr (.inl x))),λ x=>Ni (S.inj l k n m hl hv q hm (.inr (.inl x.symm))).symm,λ x=>Ni (S.inj k l m n q hm hl hv (.inr (.inr x)))⟩
    exact(S.node k m q).aH e (λ o ho=>hk _ o ne.1 ne.2.1 ho) (λ o ho=>hk _ o ne.2.2.1 ne.2.2.2 ho)
   ·have:=S.node k m q;cases m with
    |cn d=>exact RD.aH this e
    |_=>exact absurd rfl hm
 ·obtain⟨yz,a1,a2⟩:=lv k m q1 q2;obtain⟨m₁,b1,b2⟩:=lv k' m' q3 q4;exact S.inj k k' yz m₁ a1 a2 b1 b2 q5
 ·obtain⟨yz,a1,a2⟩:=lv k m q1 q2;exact S.off k yz a1 a2
 ·rcases cs k m q1 with ⟨rfl,rfl⟩ | ⟨_,q⟩
  ·exact h2 q2
  ·exact S.two k m q q2
 ·obtain⟨h1,h2,o,h3⟩:=S.jo b hb;exact⟨λ q=>h1 (xx hl hv q),h2,o,e.kp b o h1 h3⟩
end
end nE
variable{J:Addr->Prop}{H aB:bB}{U aj:ae}{h h':Heap}{v:Value}{x:V}{n n':Nd}{a da:Addr}{l:Nat}
theorem SR.set(S:SR prog w hB C J H U h)(hl:U[l]?=some n)(hv:n.live=true)(hk:∀b o,b≠(H l).1->b≠(H l).2->h.get? b=some o->h'.get? b=some o)
  (hn:NR prog w C J H (U.set l n') h' (H l).1 (H l).2 n') (h2:n'.qx=false->(H l).2=(H l).1):SR prog w hB C J H (U.set l n') h':=aU (Q:=λ x:(Addr->Prop)×(bB)×(ae)×(Heap)×(Heap)×(Nd)×(Nd)×(Nat)=>nE.P x.1 x.2.1 x.2.2.1 x.2.2.2.1 x.2.2.2.2.1 x.2.2.2.2.2.1 x.2.2.2.2.2.2.1 x.2.2.2.2.2.2.2) nE.core (J,H,U,h,h',n,n',l) S hl hv hk hn h2
end
end
section
open PySem PyProof.Rows
variable{b:Addr}{d:PyData}
section
variable{J:Addr->Prop}{H aB:bB}{U aj:ae}{h h':Heap}{v:Value}{x:V}{n n':Nd}{a da:Addr}{l:Nat}
theorem jA{k:Nat}{m:Nd}(e:(U.set l (.cn d))[k]?=some m)(q:m.live=true):k≠l/\U[k]?=some m:=by
 refine Classical.byCases (p:=l=k) (λ hk=>?_) (λ hk=>?_)
 ·subst hk;refine Classical.byCases (p:=l<U.length) (λ hl=>?_) (λ hl=>?_)
  ·cases(List.getElem?_set_self hl).symm.trans e;exact bt q
  ·rw[List.set_eq_of_length_le (Nat.le_of_not_lt hl)] at e;exact absurd (List.getElem?_eq_some_iff.mp e).1 hl
 ·exact⟨λ x=>hk x.symm,(List.getElem?_set_ne hk).symm.trans e⟩
inductive NI(H:bB)(U:ae)(l:Nat)(b:Addr):Prop
 |mk (k:Nat) (n:Nd) (hk:k≠l) (e:U[k]?=some n) (q:n.live=true) (hb:b=(H k).1\/b=(H k).2)
theorem xu(o:Own H (U.set l (.cn d)) b):NI H U l b:=by
 obtain⟨k,m,e,q,hb⟩:=o;exact⟨k,m,(jA e q).1,(jA e q).2,q,hb⟩
theorem t4(o:Own H (U.set l (.cn d)) b):Own H U b:=by
 obtain⟨k,m,_,e,q,hb⟩:=xu o;exact⟨k,m,e,q,hb⟩
theorem bZ.cn:bZ H U h H (U.set l (.cn d)) h:=⟨Nat.le_of_eq List.length_set.symm,λ _ _=>rfl,λ b o=>.inl (t4 o),λ _ _ _ e=>e⟩
theorem SR.cn(S:SR prog w hB C J H U h)(hl:l<U.length)(r:RD (Ex J H (U.set l (.cn d))) h (.ref (H l).1) d)(h2:(H l).2=(H l).1):SR prog w hB C J H (U.set l (.cn d)) h:=by
 have cs:∀(k:Nat) (m:Nd),(U.set l (.cn d))[k]?=some m->(k=l/\m=.cn d)\/U[k]?=some m:=λ k m q=>by
  refine Classical.byCases (p:=l=k) (λ hk=>?_) (λ hk=>?_)
  ·subst hk;cases(List.getElem?_set_self hl).symm.trans q;exact .inl ⟨rfl,rfl⟩
  ·exact .inr ((List.getElem?_set_ne hk).symm.trans q)
 refine⟨S.keep,λ k m q=>?_,λ k k' m m' q1 q2 q3 q4 q5=>S.inj k k' m m' (jA q1 q2).2 q2 (jA q3 q4).2 q4 q5,λ k m q1 q2=>S.off k m (jA q1 q2).2 q2,λ k m q1 q2=>?_,λ b hb=>?_⟩
 ·rcases cs k m q with ⟨rfl,rfl⟩ | q
  ·exact r
  ·exact(S.node k m q).aH bZ.cn (λ _ ho=>ho) (λ _ ho=>ho)
 ·rcases cs k m q1 with ⟨rfl,rfl⟩ | q1
  ·exact h2
  ·exact S.two k m q1 q2
 ·obtain⟨h1,h2,o,h3⟩:=S.jo b hb;exact⟨λ q=>h1 (t4 q),h2,o,h3⟩
noncomputable def P6(U aj:ae):Prop:=∀(k:Nat) (m:Nd),aj[k]?=some m->m.live=true->U[k]?=some m
inductive PX(H:bB)(J:Addr->Prop)(h:Heap)(U:ae)(v:Value)(d:PyData)(aj:ae):Prop
 |mk (S:SR prog w hB C J H aj h) (E:bZ H U h H aj h) (R:RD (Ex J H aj) h v d)
noncomputable def PW(n:Nat)(J:Addr->Prop)(H:bB)(h:Heap):Prop:=∀(U:ae) (x:V) (d:PyData) (aj:ae),Mine.Internal.cn n U x=some (d,aj)->P6 U aj/\∀v,SR prog w hB C J H U h->VR w J H U h v x->PX H J h U v d aj
noncomputable def Sa(n:Nat)(J:Addr->Prop)(H:bB)(h:Heap):Prop:=∀(xs:List V) (U:ae) (ds:List PyData) (aj:ae),Mine.Internal.KV n U xs=some (ds,aj)->P6 U aj/\∀vs,SR prog w hB C J H U h->aE (VR w J H U h) vs xs->SR prog w hB C J H aj h/\bZ H U h H aj h/\aE (RD (Ex J H aj) h) vs ds
theorem Ao{n:Nat}(one:PW n J H h):Sa n J H h:=by
 intro xs
 induction xs with
 |nil=>
  intro U ds aj e;cases e;exact⟨λ _ _ q _=>q,λ vs S r=>⟨S,bZ.refl,by rw[r.cM];exact aE.nil⟩⟩
 |cons x xs ih=>
  intro U ds aj e;refine bC λ k9=>?_;obtain⟨d,af,e1,e⟩:=dy e;obtain⟨Jp,ar,e2,e⟩:=dy e;cases e;obtain⟨a1,b1⟩:=one U x d af e1;obtain⟨a2,b2⟩:=ih af Jp _ e2;refine k9 ?_;refine⟨λ k m q r=>a1 k m (a2 k m q r) r,λ vs S r=>?_⟩;refine bC λ k9=>?_;obtain⟨v,ws,rfl,rv,rs⟩:=r.cons_right;obtain⟨S1,E1,R1⟩:=b1 v S rv;obtain⟨S2,E2,R2⟩:=b2 ws S1 (rs.mono λ v x r=>r.aH E1);refine k9 ?_;exact⟨S2,E1.trans E2,aE.cons (R1.aH E2) R2⟩
theorem KW(n:Nat):PW n J H h:=by
 induction n with
 |zero=>
  intro U x d aj e;cases x with
  |d y=>cases e;exact⟨λ _ _ q _=>q,λ v S r=>⟨S,bZ.refl,r⟩⟩
  |_=>first | exact no e | exact bt e | cases e
 |succ n ih=>
  intro U x d aj e;cases x with
  |d y=>cases e;exact⟨λ _ _ q _=>q,λ v S r=>⟨S,bZ.refl,r⟩⟩
  |o l=>
   have e:tj (Mine.Internal.cn n) l U U[l]?=some (d,aj):=e;cases hy:U[l]? with
   |none=>rw[hy] at e;first | exact no e | exact bt e | cases e
   |some nd=>
    rw[hy] at e;cases nd with
    |cn y=>cases e;exact⟨λ _ _ q _=>q,λ v S r=>⟨S,bZ.refl,r.1▸S.node l _ hy⟩⟩
    |aI xs=>
     obtain⟨ds,af,e1,e⟩:=dy e;cases e;obtain⟨a1,b1⟩:=Ao ih xs U ds af e1;refine⟨λ k m q r=>a1 k m (jA q r).2 r,λ v S r=>?_⟩;refine bC λ k9=>?_;obtain⟨rfl,cz⟩:=r;obtain⟨vs,m,q1,q2,q3⟩:=S.node l _ hy;obtain⟨S1,E1,R1⟩:=b1 vs S q3;refine k9 ?_;have R2:RD (Ex J H (af.set l (.cn (.list ds)))) h (.ref (H l).1) (.list ds):=RD.qz q1 (λ x=>x.elim (λ hj=>(S.jo _ hj).1 (Own.of hy rfl).1) λ o=>by
      obtain⟨k,m',hk,hm,QT,hb⟩:=xu o;exact hk (S.inj l k _ _ hy rfl (a1 k m' hm QT) QT (hb.elim .inl λ q=>.inr (.inl q))).symm) q2 (R1.mono λ v x r=>r.aH bZ.cn)
     exact⟨S1.cn (Nat.lt_of_lt_of_le cz E1.len) R2 (S.two l _ hy rfl),E1.trans bZ.cn,R2⟩
    |_=>first | exact no e | exact bt e | cases e
  |_=>first | exact no e | exact bt e | cases e
theorem hW(n:Nat){x:V}(S:SR prog w hB C J H U h)(r:VR w J H U h v x)(e:Mine.Internal.cn n U x=some (d,aj)):PX H J h U v d aj:=(KW n U x d aj e).2 v S r
end
end
section
open PySem PyProof.Rows
variable{v':V}{x:Str}
theorem GX.refl(g:Array GenState):GX g g:=⟨#[],Array.append_empty.symm,λ _ h=>absurd h (Array.not_mem_empty _)⟩
theorem GX.trans{g g' Qi:Array GenState}(a:GX g g')(b:GX g' Qi):GX g Qi:=by
 obtain⟨e1,rfl,h1⟩:=a;obtain⟨e2,rfl,h2⟩:=b;refine⟨e1++e2,Array.append_assoc,λ x hx=>?_⟩;rcases Array.mem_append.mp hx with h | h
 ·exact h1 x h
 ·exact h2 x h
theorem pz.refl(s:Shared):pz s s:=⟨rfl,GX.refl _⟩
theorem pz.trans{s s' lA:Shared}(a:pz s s')(b:pz s' lA):pz s lA:=⟨b.1.trans a.1,a.2.trans b.2⟩
structure cZ(A:Around)(k:Nat):Prop where
 handled:A.handled=none
 depth:A.depth+2*k+10<recursionLimit
 units:A.units+40*k+400<cLine
structure aN(env:Env):Prop where
 kind:env.scope.kind=.function
 globals:env.globals=mainGlobals
 builtins:env.builtins=builtinsNs
 code:env.kindOf iY=some .local->env.code=.ref cL
noncomputable def kd(env:Env)(x:Str):Kd:=kdOf (env.kindOf x)
inductive GH(env:Env)(x:Str):Kd->Prop
 |loc (h:env.kindOf x=some .local):GH env x .loc
 |qb (h:env.kindOf x=some .cell):GH env x .qb
 |DK (h:env.kindOf x=some .free):GH env x .qb
 |uF (h:env.kindOf x=some .globalImplicit):GH env x .uF
 |vQ:GH env x .vQ
theorem LY(env:Env)(x:Str):GH env x (kd env x):=by
 unfold kd;cases q:env.kindOf x with
 |none=>exact .vQ
 |some u=>cases u<;>first | exact .loc q | exact .qb q | exact .DK q | exact .uF q | exact .vQ
noncomputable def Nh:Kd->Bool
 |.loc=>true
 |.qb=>true
 |_=>false
noncomputable def yS(a b:Option Value):Kd->Option Value
 |.loc=>a
 |.qb=>b
 |_=>none
noncomputable def gD(env:Env)(x:Str):Bool:=!(x == (".0":Str)) && Nh (kd env x)
noncomputable def val(env:Env)(m cm:Str->Option Value)(x:Str):Option Value:=yS (m x) (cm x) (kd env x)
structure FR(J:Addr->Prop)(env:Env)(m cm:Str->Option Value)(h:Heap):Prop where
 ns:h.Ns env.locals m
 jL:J env.locals
 cell:∀n c,env.cells.lookup n=some c->h.IsCell c (cm n)/\J c/\c≠env.locals
 apart:∀n n' c,env.cells.lookup n=some c->env.cells.lookup n'=some c->n=n'
 has:∀n,(env.kindOf n=some .cell\/env.kindOf n=some .free)->(env.cells.lookup n).isSome=true
inductive Nv(w:World)(J:Addr->Prop)(H:bB)(U:ae)(h:Heap)(u:Option Value)(x:V):Prop
 |mk (v:Value) (h1:u=some v) (h2:VR w J H U h v x)
noncomputable def ER(w:World)(J:Addr->Prop)(H:bB)(U:ae)(env:Env)(m cm:Str->Option Value)(h:Heap)(O:ak):Prop:=
 ∀x v',O x=some v'->gD env x=true->Nv w J H U h (val env m cm x) v'
section
variable{J:Addr->Prop}{H aB:bB}{U aj:ae}{h h':Heap}{env:Env}{m cm:Str->Option Value}{O:ak}
theorem FR.aH(F:FR J env m cm h)(S:SR prog w hB C J H U h)(e:bZ H U h aB aj h'):FR J env m cm h' where
 ns:=(by obtain⟨o,es,ep,ho,r⟩:=F.ns;exact⟨o,es,ep,e.kp _ _ (S.jo _ F.jL).1 ho,r⟩)
 jL:=F.jL
 cell:=λ n c hc=>by
  refine bC λ k9=>?_;obtain⟨⟨o,ho,hd⟩,h2,h3⟩:=F.cell n c hc;refine k9 ?_;exact⟨⟨o,e.kp _ _ (S.jo _ h2).1 ho,hd⟩,h2,h3⟩
 apart:=F.apart
 has:=F.has
theorem ER.aH(R:ER w J H U env m cm h O)(e:bZ H U h aB aj h'):ER w J aB aj env m cm h' O:=λ x v' hx hm=>by
 obtain⟨v,h1,h2⟩:=R x v' hx hm;exact⟨v,h1,h2.aH e⟩
end
section
variable(prog:Program)(w:World)(hB:Heap)(C:Addr)(J:Addr->Prop)
structure aS(s:Shared)(H:bB)(U:ae)(s':Shared)(aB:bB)(aj:ae):Prop where
 same:pz s s'
 aH:bZ H U s.heap aB aj s'.heap
 sr:SR prog w hB C J aB aj s'.heap
end
section
variable{s s' lA:Shared}{J:Addr->Prop}{H aB dF:bB}{U aj iz:ae}{x':V}{v:Value}
theorem aS.refl(S:SR prog w hB C J H U s.heap):aS prog w hB C J s H U s H U:=⟨⟨rfl,GX.refl _⟩,bZ.refl,S⟩
theorem aS.trans(a:aS prog w hB C J s H U s' aB aj)(b:aS prog w hB C J s' aB aj lA dF iz):aS prog w hB C J s H U lA dF iz:=⟨a.same.trans b.same,a.aH.trans b.aH,b.sr⟩
theorem aS.tok(S:SR prog w hB C J H U s.heap)(t:Nat):aS prog w hB C J s H U { s with toks:=t } H U:=⟨⟨rfl,GX.refl _⟩,bZ.refl,S⟩
theorem aS.more{h':Heap}{t:Nat}(S:SR prog w hB C J H U s.heap)(hk:∀b o,s.heap.get? b=some o->h'.get? b=some o):aS prog w hB C J s H U { s with heap:=h',toks:=t } H U:=
 ⟨⟨rfl,GX.refl _⟩,bZ.bx hk,S.bx hk⟩
end
section
variable(prog:Program)(w:World)(hB:Heap)(C:Addr)(J:Addr->Prop)(A:Around)(env:Env)
noncomputable def c7(e:Expr)(O:ak)(U:ae)(x':V)(aj:ae):Prop:=
 ∀(H:bB) (s:Shared) (m cm:Str->Option Value) (Q:Value->Shared->Prop) (E:Value->Shared->Prop),FR J env m cm s.heap->ER w J H U env m cm s.heap O->SR prog w hB C J H U s.heap->
  (∀v s' aB,aS prog w hB C J s H U s' aB aj->VR w J aB aj s'.heap v x'->Q v s')->wpAny (model prog w) A (eval e env) Q E s
noncomputable def xZ(e:Expr)(O:ak)(U:ae)(b:Bool)(aj:ae):Prop:=
 ∀(H:bB) (s:Shared) (m cm:Str->Option Value) (Q:Bool->Shared->Prop) (E:Value->Shared->Prop),FR J env m cm s.heap->ER w J H U env m cm s.heap O->SR prog w hB C J H U s.heap->
  (∀s' aB,aS prog w hB C J s H U s' aB aj->Q b s')->wpAny (model prog w) A (isTrue e env (eval e env)) Q E s
end
section
variable{J:Addr->Prop}{A:Around}{env:Env}
variable{O:ak}{U af ar aj:ae}{x':V}{pos:Pos}{k:Nat}
theorem Dz:c7 prog w hB C J A env (.Constant .none k pos) O U (.d .none) U:=λ H s m cm Q E F R S h=>λ _ _ _=>h .none s H (aS.refl S) RD.none
theorem wN(b:Bool):c7 prog w hB C J A env (.Constant (.bool b) k pos) O U (.d (.bool b)) U:=λ H s m cm Q E F R S h=>λ _ _ _=>h (.bool b) s H (aS.refl S) (RD.bool b)
theorem Hn(i:Int):c7 prog w hB C J A env (.Constant (.int i) k pos) O U (.d (.int i)) U:=λ H s m cm Q E F R S h=>λ _ _ _=>h (.int i s.toks) _ H (aS.tok S _) (RD.int i _)
theorem z9(x:Str)(hx:PyData.strOk x=true):c7 prog w hB C J A env (.Constant (.str x) k pos) O U (.d (.str x)) U:=
 λ H s m cm Q E F R S h=>λ _ _ _=>h (.str x s.toks) _ H (aS.tok S _) (RD.str x _ hx)
theorem mw{H:bB}{s:Shared}{v:Value}{x:V}(S:SR prog w hB C J H U s.heap)(r:VR w J H U s.heap v x):VR w J H U s.heap v (dr U x):=by
 cases x with
 |o l=>
  show VR w J H U s.heap v (Cz l U[l]?);cases hl:U[l]? with
  |none=>exact r
  |some nd=>
   cases nd with
   |cn y=>rw[r.1];exact S.node l _ hl
   |_=>exact r
 |_=>exact r
theorem w9{s:Shared}{m cm:Str->Option Value}{v:Value}{Q:Value->Shared->Prop}{E:Value->Shared->Prop}(hE:aN env)(F:FR J env m cm s.heap)
  (hm:gD env x=true) (hv:val env m cm x=some v) (hx:(x == ("__classdict__":Str))=false) (h:Q v s):wpAny (model prog w) A (loadName env x) Q E s:=by
 unfold val at hv;have K:=LY env x;generalize kd env x=κ at K hv;cases K with
 |loc hl=>exact wpAny_loadName_local hE.kind hl F.ns hv h
 |qb hl=>
  obtain⟨c,hc⟩:=Option.isSome_iff_exists.mp (F.has x (.inl hl));exact wpAny_loadName_cell hE.kind hl hc (hv▸(F.cell x c hc).1) h
 |DK hl=>
  obtain⟨c,hc⟩:=Option.isSome_iff_exists.mp (F.has x (.inr hl));exact wpAny_loadName_free hE.kind hl hc (hv▸(F.cell x c hc).1) h hx
 |_=>exact no hv
theorem Hq(hE:aN env)(hm:gD env x=true)(hx:(x == ("__classdict__":Str))=false)(hd:(x == ("__debug__":Str))=false)(kf:O x=some v') :
  c7 prog w hB C J A env (.Name x pos) O U (dr U v') U:=λ H s m cm Q E F R S h=>by
 obtain⟨v,h1,h2⟩:=R x v' kf hm;exact wpAny_Name (w9 hE F hm h1 hx (h v s H (aS.refl S) (mw S h2))) hd
theorem vi{d:PyData}{n:Nat}(hE:aN env)(hm:gD env x=true)(hx:(x == ("__classdict__":Str))=false)(hd:(x == ("__debug__":Str))=false)(kf:O x=some v')
  (hf:cn n U v'=some (d,aj)):c7 prog w hB C J A env (.Name x pos) O U (.d d) aj:=λ H s m cm Q E F R S h=>by
 obtain⟨v,h1,h2⟩:=R x v' kf hm;obtain⟨S',E',R'⟩:=hW n S h2 hf;exact wpAny_Name (w9 hE F hm h1 hx (h v s H ⟨⟨rfl,GX.refl _⟩,E',S'⟩ R')) hd
end
end
section
open PySem PyProof.Rows
variable{d:PyData}{ds:List PyData}{i:Int}{l:Addr}{n:Nat}{vs:List Value}{G:Type}
section
variable{A:Around}{env:Env}
variable{J:Addr->Prop}{H aB:bB}{U aj:ae}{s:Shared}{h h':Heap}{a b v:Value}{x y r:V}{k:Nat}
theorem bu:iH<=sizeLine:=by decide
theorem dM:cW<=iH:=by decide
theorem rk(h:vs.length<=iH):(vs.toArray.size:Int)<2 ^ 63:=Int.lt_of_le_of_lt (Int.ofNat_le.mpr h) (by decide)
theorem SR.xv(S:SR prog w hB C J H U h){b:Addr}(o:Own H U b):∃ob,h.get? b=some ob:=by
 obtain⟨l,n,e,hl,rfl | rfl⟩:=o
 ·exact(S.node l n e).got
 ·exact(S.node l n e).DQ (S.two l n e)
theorem SR.fresh(S:SR prog w hB C J H U h){b:Addr}(hb:h.get? b=none):¬Ex J H U b:=λ o=>by
 rcases o with o | o
 ·obtain⟨_,_,ob,q⟩:=S.jo b o;rw[hb] at q;first | exact no q | exact bt q | cases q
 ·obtain⟨ob,q⟩:=S.xv o;rw[hb] at q;first | exact no q | exact bt q | cases q
theorem aY(h:Heap):h.get? h.objs.size=none:=Heap.get?_none_of_le (Nat.le_refl _)
section
variable{s':Shared}
theorem aS.got{b:Addr}{ob:Obj}(g:aS prog w hB C J s H U s' aB aj)(S:SR prog w hB C J H U s.heap)(h:s.heap.get? b=some ob):∃JB,s'.heap.get? b=some JB:=by
 refine Classical.byCases (p:=Own H U b) (λ ho=>?_) (λ ho=>?_)
 ·obtain⟨l,n,e1,e2,e3⟩:=ho;have hl:l<U.length:=(List.getElem?_eq_some_iff.mp e1).1;have e4:aj[l]?=some (aj[l]'(Nat.lt_of_lt_of_le hl g.aH.len)):=List.getElem?_eq_getElem _;rw[<-g.aH.ag l hl] at e3;rcases e3 with rfl | rfl
  ·exact(g.sr.node l _ e4).got
  ·exact(g.sr.node l _ e4).DQ (g.sr.two l _ e4)
 ·exact⟨ob,g.aH.kp b ob ho h⟩
theorem aS.fresh{b:Addr}(g:aS prog w hB C J s H U s' aB aj)(S:SR prog w hB C J H U s.heap)(h:s'.heap.get? b=none):s.heap.get? b=none:=by
 cases q:s.heap.get? b with
 |none=>rfl
 |some ob=>obtain⟨o',pC⟩:=g.got S q;exact by cases h.symm.trans pC
end
theorem rh(r:aE (VR w J H U h) vs (ds.map V.d)):aE (RD (Ex J H U) h) vs ds:=r.yx
theorem jb(r:aE (RD (Ex J H U) h) vs ds):aE (VR w J H U h) vs (ds.map V.d):=aE.so r
theorem je:∀{xs:List V} {ds:List PyData},mu xs=some ds->xs=ds.map V.d:=by
 intro xs
 induction xs with
 |nil=>
  intro ds e;cases e;rfl
 |cons x xs ih=>
  intro ds e;obtain⟨d,h1,e⟩:=a9 e;obtain⟨Jp,h2,e⟩:=a9 e;cases e;rw[ih h2];cases x with
  |d y=>cases h1;rfl
  |_=>first | exact no h1 | exact bt h1 | cases h1
theorem c9{x:V}(e:ew x=some d):x=.d d:=by
 cases x with
 |d y=>cases e;rfl
 |_=>first | exact no e | exact bt e | cases e
theorem bq{x:V}(e:c8 x=some i):x=.d (.int i):=by
 cases x with
 |d y=>
  cases y with
  |int j=>cases e;rfl
  |_=>first | exact no e | exact bt e | cases e
 |_=>first | exact no e | exact bt e | cases e
theorem VR.dat(r:VR w J H U h v x)(e:ew x=some d):RD (Ex J H U) h v d:=by
 rw[c9 e] at r;exact r
theorem aT(r:VR w J H U h v (.d (.int i))):∃t,v=.int i t:=by
 cases r with | int i t=>exact⟨t,rfl⟩
theorem VR.top{a da:Addr}{n:Nd}:VR w J (H.add U a da) (U++[n]) h (.ref a) (.o U.length):=
 ⟨congrArg Value.ref (congrArg Prod.fst (show(H.add U a da) U.length=(a,da) from if_pos rfl).symm),List.length_append (as:=U) (bs:=[n])▸Nat.lt_succ_self _⟩
theorem fx(S:SR prog w hB C J H U s.heap)(hr:aE (RD (Ex J H U) s.heap) vs ds)(hl:vs.length<=iH) :
  aS prog w hB C J s H U { s with heap:=s.heap.push (bo vs n) } H U/\VR w J H U (s.heap.push (bo vs n)) (.ref s.heap.objs.size) (.d (.list ds)):=by
 have e:bZ H U s.heap H U (s.heap.push (bo vs n)):=bZ.bx (λ b o q=>Heap.get?_push_of_some _ q);exact⟨⟨⟨rfl,GX.refl _⟩,e,S.bx (λ b o q=>Heap.get?_push_of_some _ q)⟩,RD.qz (Heap.get?_push_size _ rfl) (S.fresh (aY _)) hl (hr.mono λ v x r=>r.aH e)⟩
theorem il(S:SR prog w hB C J H U s.heap)(hr:aE (RD (Ex J H U) s.heap) vs ds)(hl:vs.length<=iH) :
  aS prog w hB C J s H U { s with heap:=s.heap.push (eX vs n) } H U/\VR w J H U (s.heap.push (eX vs n)) (.ref s.heap.objs.size) (.d (.tuple ds)):=by
 have e:bZ H U s.heap H U (s.heap.push (eX vs n)):=bZ.bx (λ b o q=>Heap.get?_push_of_some _ q);exact⟨⟨⟨rfl,GX.refl _⟩,e,S.bx (λ b o q=>Heap.get?_push_of_some _ q)⟩,RD.pd (Heap.get?_push_size _ rfl) (S.fresh (aY _)) hl (hr.mono λ v x r=>r.aH e)⟩
theorem ju{xs:List V}(S:SR prog w hB C J H U s.heap)(hr:aE (VR w J H U s.heap) vs xs)(hl:vs.length<=iH) :
  aS prog w hB C J s H U { s with heap:=s.heap.push (bo vs n) } (H.add U s.heap.objs.size s.heap.objs.size) (U++[.aI xs])/\
   VR w J (H.add U s.heap.objs.size s.heap.objs.size) (U++[.aI xs]) (s.heap.push (bo vs n)) (.ref s.heap.objs.size) (.o U.length):=by
 have e:bZ H U s.heap (H.add U s.heap.objs.size s.heap.objs.size) (U++[.aI xs]) (s.heap.push (bo vs n)):=bZ.grow (aY _) (aY _) (λ b o q=>Heap.get?_push_of_some _ q);refine⟨⟨⟨rfl,GX.refl _⟩,e,S.grow (aY _) (aY _) (λ b o q=>Heap.get?_push_of_some _ q) ⟨vs,n,Heap.get?_push_size _ rfl,hl,hr.mono λ v x r=>r.aH e⟩ (λ _=>rfl)⟩,VR.top⟩
theorem yy{xs:List V}{own:Bool}{Q:Value->Shared->Prop}{E:Value->Shared->Prop}(S:SR prog w hB C J H U s.heap)(hr:aE (VR w J H U s.heap) vs xs)(hl:vs.length<=iH)
  (e:dC own xs U=some (r,aj)) (h:∀v s' aB,aS prog w hB C J s H U s' aB aj->VR w J aB aj s'.heap v r->Q v s') :
  Q (.ref s.heap.objs.size) { s with heap:=s.heap.push { cls:=.type "list",data:=.seq vs.toArray } }:=by
 cases own with
 |true=>
  refine bC λ k9=>?_;cases e;refine k9 ?_;exact h _ _ _ (ju (n:=0) S hr hl).1 (ju (n:=0) S hr hl).2
 |false=>
  refine bC λ k9=>?_;obtain⟨ds,e1,e2⟩:=Option.map_eq_some_iff.mp e;cases e2;rw[je e1] at hr;refine k9 ?_;exact h _ _ _ (fx (n:=0) S (rh hr) hl).1 (fx (n:=0) S (rh hr) hl).2
theorem IsList.of(e:h.get? l=some (bo vs n)):h.IsList l vs.toArray:=⟨_,e,rfl,n,rfl⟩
theorem IsTup.of(e:h.get? l=some (eX vs n)):IsTup h l vs.toArray:=⟨_,e,rfl,n,rfl⟩
theorem sF(xs:List G)(n:Nat):(times xs n).length=n*xs.length:=by
 induction n with
 |zero=>rw[Nat.zero_mul];rfl
 |succ n ih=>rw[show times xs (n+1)=xs++times xs n from rfl,List.length_append,ih,Nat.succ_mul,Nat.add_comm]
theorem aE.times{G β:Type}{R:G->β->Prop}{vs:List G}{xs:List β}(h:aE R vs xs):∀n,aE R (Mine.Internal.times vs n) (Mine.Internal.times xs n)
 |0=>aE.nil
 |n+1=>h.append (aE.times h n)
theorem mO(vs:Array Value):∀(n:Nat) (acc:Array Value),List.foldl (λ x1 x2=>x1++x2) acc (List.replicate n vs)=acc++(times vs.toList n).toArray:=by
 intro n
 induction n with
 |zero=>
  intro acc;rfl
 |succ n ih=>
  intro acc;rw[List.replicate_succ,List.foldl_cons,ih];obtain⟨l⟩:=vs;rw[show times (⟨l⟩:Array Value).toList (n+1)=l++times l n from rfl,<-List.append_toArray,Array.append_assoc]
end
end
section
open PySem PyProof.Rows
variable{i j:Int}{own:Bool}{vs:List Value}
section
variable{A:Around}{env:Env}
variable{J:Addr->Prop}{H aB:bB}{U aj:ae}{s:Shared}{h h':Heap}{a b v:Value}{x y r:V}{k:Nat}
variable{Q:Value->Shared->Prop}{E:Value->Shared->Prop}
noncomputable def yT(own:Bool)(U:ae)(r:PyData):Option (V×ae):=match own,r with
 |true,.list xs=>some (fresh (.aI (xs.map .d)) U)
 |true,_=>none
 |false,r=>some (.d r,U)
theorem oD{ds:List PyData}(S:SR prog w hB C J H U s.heap)(hr:aE (RD (Ex J H U) s.heap) vs ds)(hl:vs.length<=iH)
  (e:yT own U (.list ds)=some (r,aj))
  (h:∀v s' aB,aS prog w hB C J s H U s' aB aj->VR w J aB aj s'.heap v r->Q v s') :
  Q (.ref s.heap.objs.size) { s with heap:=s.heap.push { cls:=.type "list",data:=.seq vs.toArray } }:=by
 cases own with
 |true=>
  refine bC λ k9=>?_;cases e;refine k9 ?_;exact h _ _ _ (ju (n:=0) S (jb hr) hl).1 (ju (n:=0) S (jb hr) hl).2
 |false=>
  refine bC λ k9=>?_;cases e;refine k9 ?_;exact h _ _ _ (fx (n:=0) S hr hl).1 (fx (n:=0) S hr hl).2
theorem gP{x:PyData}(h:int? x=some i):x=.int i:=by
 cases x with
 |int j=>cases h;rfl
 |_=>exact no h
theorem BX{x:PyData}{xs:List PyData}(h:MF x=some xs):x=.tuple xs:=by
 cases x with
 |tuple ys=>cases h;rfl
 |_=>exact no h
theorem pq(e:yT own U (.int i)=some (r,aj)):r=.d (.int i)/\aj=U:=by
 cases own with
 |true=>exact no e
 |false=>cases e;exact⟨rfl,rfl⟩
theorem Ca{xs:List PyData}(e:yT own U (.tuple xs)=some (r,aj)):r=.d (.tuple xs)/\aj=U:=by
 cases own with
 |true=>exact no e
 |false=>cases e;exact⟨rfl,rfl⟩
theorem mul_fits(h:0<=j/\j<=(cW:Int)):¬(!Builtin.List.listFitsIndex j)=true:=by
 have e:(cW:Int)=100000:=rfl;have:Builtin.List.listFitsIndex j=true:=Bool.and_eq_true_iff.mpr ⟨decide_eq_true (by omega),decide_eq_true (by omega)⟩;rw[this];exact λ q=>bt q
theorem tS{m:Nat}(hs:vs.length*m<=cW):¬vs.toArray.size*m > (2 ^ 63-1) / 8/\¬Builtin.List.listTooLong (vs.toArray.size*m)=true:=by
 rw[List.size_toArray];exact⟨Nat.not_lt.mpr (Nat.le_trans hs (by decide)),λ q=>absurd (of_decide_eq_true q) (Nat.not_lt.mpr (Nat.le_trans hs (Nat.le_trans dM bu)))⟩
theorem It{xs:List PyData}(S:SR prog w hB C J H U s.heap)(ra:RD (Ex J H U) s.heap a (.list xs))(rb:VR w J H U s.heap b (.d (.int j)))(hl:xs.length*j.toNat<=cW/\0<=j/\j<=(cW:Int))
  (e:yT own U (.list (times xs j.toNat))=some (r,aj))
  (h:∀v s' aB,aS prog w hB C J s H U s' aB aj->VR w J aB aj s'.heap v r->Q v s'):wpAny (model prog w) A (binaryOp .Mult a b) Q E s:=by
 obtain⟨la,vs,n,rfl,q1,q2,q3,q4⟩:=ra.bJ;obtain⟨u,rfl⟩:=aT rb;have hsz:vs.length*j.toNat<=cW:=q4.1▸hl.1;have hz:Q (.ref s.heap.objs.size) { s with heap:=s.heap.push { cls:=.type "list",data:=.seq (times vs j.toNat).toArray } }:=
  oD (Q:=Q) S (q4.times j.toNat) (by rw[sF,Nat.mul_comm];exact Nat.le_trans hsz dM) e h
 refine wpAny_binaryOp_repeat_ref (T:="list") (U:="int") (by decide) ⟨_,q1,rfl⟩ (λ s'=>typeIs_int s' j u) noFill_list_mul F.fills_int_mul F.slot_int_rmul repeat_list F.slot_int_index.lookup
  (call_meets F.slot_int_rmul (typeIs_int s j u) F.entry_int_rmul (F.args_int_rmul_2 _ _) (int___rmul___int_list j u la vs.toArray n)
   ⟨q1,rfl,⟨_,q1,rfl⟩,call_meets F.slot_list_mul ⟨_,q1,rfl⟩ F.entry_list_mul (F.args_list_mul_2 _ _)
    (AutoListH.list___mul___list_int_3 la vs.toArray n j u (mul_fits hl.2) (tS hsz).1 (tS hsz).2)
    ⟨q1,?_⟩⟩)
 rw[mO];rw[List.isEmpty_toArray];cases vs with
 |nil=>
  have ht:∀n,times ([]:List Value) n=[]:=λ n=>by
   induction n with
   |zero=>rfl
   |succ n ih=>exact ih
  rw[ht] at hz;exact hz
 |cons v vs=>
  rw[Array.empty_append];exact hz
theorem GQ{da db z:PyData}(S:SR prog w hB C J H U s.heap)(ra:RD (Ex J H U) s.heap a da)(rb:RD (Ex J H U) s.heap b db)(ez:J9 da db=some z)(e:yT own U z=some (r,aj))
  (h:∀v s' aB,aS prog w hB C J s H U s' aB aj->VR w J aB aj s'.heap v r->Q v s'):wpAny (model prog w) A (binaryOp .Add a b) Q E s:=by
 cases da with
 |int i=>
  obtain⟨j,ej,ez⟩:=a9 ez;obtain rfl:=gP ej;cases ez;obtain⟨rfl,rfl⟩:=pq e;obtain⟨t,rfl⟩:=aT ra;obtain⟨u,rfl⟩:=aT rb;exact add_int (h _ _ H (aS.tok S _) (RD.int _ _))
 |list xs=>
  obtain⟨ys,ej,ez⟩:=a9 ez;obtain rfl:=kZ ej;obtain⟨la,vs,n,rfl,q1,q2,q3,q4⟩:=ra.bJ;obtain⟨lb,ws,n',rfl,p1,p2,p3,p4⟩:=rb.bJ;refine Classical.byCases (p:=xs.length+ys.length<=cW) (λ hl=>?_) (λ hl=>?_)
  ·cases(if_pos hl).symm.trans ez;have hsz:(vs++ws).length<=cW:=by rw[List.length_append,q4.1,p4.1];exact hl
   refine PySem.P.add_list (hsz:=by rw[List.size_toArray,List.size_toArray,<-List.length_append];exact Nat.le_trans hsz (Nat.le_trans dM bu)) q1 p1 ?_;rw[List.append_toArray];exact oD (Q:=Q) (vs:=vs++ws) S (q4.append p4) (Nat.le_trans hsz dM) e h
  ·exact no ((if_neg hl).symm.trans ez)
 |tuple xs=>
  obtain⟨ys,ej,ez⟩:=a9 ez;obtain rfl:=BX ej;obtain⟨la,vs,n,rfl,q1,q2,q3,q4⟩:=ra.bR;obtain⟨lb,ws,n',rfl,p1,p2,p3,p4⟩:=rb.bR;refine Classical.byCases (p:=xs.length+ys.length<=cW/\xs≠[]/\ys≠[]) (λ hl=>?_) (λ hl=>?_)
  ·cases(if_pos hl).symm.trans ez;obtain⟨rfl,rfl⟩:=Ca e;have hsz:(vs++ws).length<=cW:=by rw[List.length_append,q4.1,p4.1];exact hl.1
   have n1:vs≠[]:=λ q=>by subst q;exact hl.2.1 q4.tT
   have n2:ws≠[]:=λ q=>by subst q;exact hl.2.2 p4.tT
   refine PySem.P.add_tuple (hsz:=by rw[List.size_toArray,List.size_toArray,<-List.length_append];exact Nat.le_trans hsz (Nat.le_trans dM bu)) q1 p1 (by simpa using n1) (by simpa using n2) ?_;rw[List.append_toArray];exact h _ _ _ (il (n:=0) (vs:=vs++ws) S (q4.append p4) (Nat.le_trans hsz dM)).1 (il (n:=0) (vs:=vs++ws) S (q4.append p4) (Nat.le_trans hsz dM)).2
  ·exact no ((if_neg hl).symm.trans ez)
 |_=>exact no ez
theorem GU{op:Operator}(S:SR prog w hB C J H U s.heap)(ra:VR w J H U s.heap a x)(rb:VR w J H U s.heap b y)(e:mS own op x y U=some (r,aj))
  (h:∀v s' aB,aS prog w hB C J s H U s' aB aj->VR w J aB aj s'.heap v r->Q v s'):wpAny (model prog w) A (binaryOp op a b) Q E s:=by
 obtain⟨da,ea,e⟩:=a9 e;obtain⟨db,eb,e⟩:=a9 e;obtain⟨z,ez,e2⟩:=a9 e;have er:yT own U z=some (r,aj):=e2;have ra:=VR.dat ra ea;have rb:=VR.dat rb eb;clear e ea eb;cases op with
 |Add=>exact GQ S ra rb ez er h
 |Sub=>
  refine bC λ k9=>?_;obtain⟨i,ei,ez⟩:=a9 ez;obtain⟨j,ej,ez⟩:=a9 ez;cases ez;obtain⟨rfl,rfl⟩:=pq er;obtain⟨t,rfl⟩:=aT (gP ei▸ra);obtain⟨u,rfl⟩:=aT (gP ej▸rb);refine k9 ?_;exact sub_int (h _ _ H (aS.tok S _) (RD.int _ _))
 |Mod=>
  obtain⟨i,ei,ez⟩:=a9 ez;obtain⟨j,ej,ez⟩:=a9 ez;refine Classical.byCases (p:=j=0) (λ hj=>?_) (λ hj=>?_)
  ·exact no ((if_pos hj).symm.trans ez)
  ·cases(if_neg hj).symm.trans ez;obtain⟨rfl,rfl⟩:=pq er;obtain⟨t,rfl⟩:=aT (gP ei▸ra);obtain⟨u,rfl⟩:=aT (gP ej▸rb);exact mod_int hj (h _ _ H (aS.tok S _) (RD.int _ _))
 |Mult=>
  obtain⟨xs,ei,ez⟩:=a9 ez;obtain⟨j,ej,ez⟩:=a9 ez;refine Classical.byCases (p:=xs.length*j.toNat<=cW/\0<=j/\j<=(cW:Int)) (λ hl=>?_) (λ hl=>?_)
  ·cases(if_pos hl).symm.trans ez;exact It S (kZ ei▸ra) (gP ej▸rb) hl er h
  ·exact no ((if_neg hl).symm.trans ez)
 |_=>exact no ez
end
end
section
open PySem PyProof.Rows
variable{R:Value->V->Prop}{X:Addr->Prop}{c:Bool}{d da db:PyData}{ks:List Int}{l:Addr}{n:Nat}{vs:List Value}
section
variable{A:Around}{env:Env}
variable{J:Addr->Prop}{H aB:bB}{U aj:ae}{s:Shared}{h h':Heap}{a b v:Value}{x y r:V}{k:Nat}
variable{Q:Value->Shared->Prop}{E:Value->Shared->Prop}
theorem dO.setOf{xs:List Int}(q:dO w h l xs):∃n,n<=4000/\n<=xs.length/\h.SetOf (intKind prog w) l (λ k=>xs.contains k) n:=by
 refine bC λ k9=>?_;obtain⟨o,es,ep,t,ho,hx,hd,el,tD,hf,_⟩:=q;refine k9 ?_;refine⟨es.size,Nat.le_trans el.le tD,el.le,o,es,ep,t,ho,hx,hd,λ e h1=>?_,λ k=>?_,?_,hf,rfl⟩
 ·obtain⟨i,tk,rfl⟩:=el.el e h1;exact⟨⟨i,intKind_is prog w i tk,rfl⟩,rfl⟩
 ·rw[List.contains_iff_mem,el.mem];exact⟨(by rintro⟨e,h1,tk,h2⟩;exact⟨e,h1,h2▸intKind_is prog w k tk⟩),(by rintro⟨e,h1,h2⟩;exact(by obtain⟨t,h3⟩:=Value.isInt_shape h2;exact⟨e,h1,t,h3⟩))⟩
 ·exact Nat.lt_of_le_of_lt (Nat.le_trans el.le tD) (by decide)
theorem s8{d:Nat}:∀{xs:List PyData},(∀x∈xs,x.depth<=d)->PyData.depthAll xs<=d:=by
 intro xs
 induction xs with
 |nil=>
  intro _;rw[PyData.depthAll];exact Nat.zero_le _
 |cons x xs ih=>
  intro hx;rw[PyData.depthAll];exact Nat.max_le.mpr ⟨hx x List.mem_cons_self,ih λ y hy=>hx y (List.mem_cons_of_mem _ hy)⟩
theorem mX(e:eq? da db=some c):min da.depth db.depth<=64/\c=PyData.eqv da db:=by
 by_cases hd:min da.depth db.depth<=64
 ·exact⟨hd,(Option.some.inj ((if_pos hd).symm.trans e)).symm⟩
 ·exact no ((if_neg hd).symm.trans e)
theorem mem_some:∀{xs:List PyData} {c:Bool},k6 d xs=some c->c=(xs.any λ y=>PyData.eqv y d)/\∀x∈xs,min x.depth d.depth<=64:=by
 intro xs
 induction xs with
 |nil=>
  intro c e;cases e;exact⟨rfl,λ _ h=>by cases h⟩
 |cons x xs ih=>
  intro c e;obtain⟨b,h1,e⟩:=a9 e;obtain⟨b',h2,e⟩:=a9 e;cases e;obtain⟨q1,q2⟩:=mX h1;obtain⟨q3,q4⟩:=ih h2;subst q2;subst q3;refine⟨rfl,λ y hy=>?_⟩;rcases List.mem_cons.mp hy with rfl | hy
  ·exact q1
  ·exact q4 y hy
theorem BA{xs:List PyData}(h:∀x∈xs,min x.depth d.depth<=64):min (PyData.depthAll xs) d.depth<=64:=by
 by_cases hd:d.depth<=64
 ·exact Nat.le_trans (Nat.min_le_right _ _) hd
 ·exact Nat.le_trans (Nat.min_le_left _ _) (s8 λ x hx=>by
   have q:=h x hx;by_cases q2:x.depth<=d.depth
   ·rw[Nat.min_eq_left q2] at q;exact q
   ·rw[Nat.min_eq_right (Nat.le_of_not_le q2)] at q;exact absurd q hd)
theorem RD.canLayAll{xs:List PyData}(r:aE (RD X h) vs xs):PyData.canLayAll0 xs=true:=jN λ x hx=>by
 obtain⟨i,hi⟩:=List.mem_iff_getElem?.mp hx;obtain⟨v,_,hr⟩:=r.get hi;exact hr.canLay
theorem gN{K W:Type}[DecidableEq K]{q k:K}{u:W}{ps:List (K×W)}:((q,u)::ps).find? (λ kv=>decide (kv.1=k))=if q=k then some (q,u) else ps.find? λ kv=>decide (kv.1=k):=by
 by_cases h:q=k
 ·rw[if_pos h];exact List.find?_cons_of_pos (decide_eq_true h)
 ·rw[if_neg h];exact List.find?_cons_of_neg λ e=>h (of_decide_eq_true e)
theorem ft{ps:List (Int×Value)}{bj:List (Int×V)}(hr:aE (λ p q=>p.1=q.1/\R p.2 q.2) ps bj)(k:Int):pE R (valueAt ps k) (look k bj):=by
 induction bj generalizing ps with
 |nil=>rw[hr.cM];exact trivial
 |cons q bj ih=>
  obtain⟨p,Pm,rfl,⟨h1,h2⟩,h3⟩:=hr.cons_right;obtain⟨pk,pv⟩:=p;obtain⟨qk,qv⟩:=q;cases h1;by_cases hk:pk=k
  ·rw[valueAt,gN,if_pos hk,show look k ((pk,qv)::bj)=some qv from if_pos hk];exact h2
  ·rw[valueAt,gN,if_neg hk,show look k ((pk,qv)::bj)=look k bj from if_neg hk];exact ih h3
theorem j0{ps:List (List Int×Addr×Value)}{bj:List (List Int×V)}(hr:aE (λ p q=>p.1=q.1/\R p.2.2 q.2) ps bj)(k:List Int):pE R ((atKey ps k).map (·.2)) (look k bj):=by
 induction bj generalizing ps with
 |nil=>rw[hr.cM];exact trivial
 |cons q bj ih=>
  obtain⟨p,Pm,rfl,⟨h1,h2⟩,h3⟩:=hr.cons_right;obtain⟨pk,pa,pv⟩:=p;obtain⟨qk,qv⟩:=q;cases h1;by_cases hk:pk=k
  ·rw[atKey,gN,if_pos hk,show look k ((pk,qv)::bj)=some qv from if_pos hk];exact h2
  ·rw[atKey,gN,if_neg hk,show look k ((pk,qv)::bj)=look k bj from if_neg hk];exact ih h3
theorem lZ:∀{xs:List PyData} {is:List Int},kY xs=some is->xs=is.map .int:=by
 intro xs
 induction xs with
 |nil=>
  intro is e;cases e;rfl
 |cons x xs ih=>
  intro is e;obtain⟨i,h1,e⟩:=a9 e;obtain⟨js,h2,e⟩:=a9 e;cases e;rw[ih h2];cases x with
  |int j=>cases h1;rfl
  |_=>first | exact no h1 | exact bt h1 | cases h1
theorem mh(e:mJ d=some ks):d=.tuple (ks.map .int):=by
 cases d with
 |tuple xs=>exact congrArg PyData.tuple (lZ e)
 |_=>first | exact no e | exact bt e | cases e
theorem itemsAre:∀{ks:List Int} {vs:List Value},aE (RD X h) vs (ks.map .int)->PySem.ItemsAre (intKind prog w) ks vs:=by
 intro ks
 induction ks with
 |nil=>
  intro vs r;rw[r.cM];exact .nil
 |cons k ks ih=>
  intro vs r;obtain⟨v,ws,rfl,h1,h2⟩:=r.cons_right;cases h1;exact .cons (intKind_is prog w k _) (ih h2)
theorem sG(r:RD X h (.ref l) (.tuple (ks.map .int))):(tupleKind (intKind prog w)).is h ks l:=by
 refine bC λ k9=>?_;obtain⟨l',vs,n,e,q1,q2,q3,q4⟩:=RD.bR r;cases e;refine k9 ?_;exact⟨_,_,_,q1,rfl,rfl,itemsAre q4⟩
noncomputable def JY(u a:Value):Prop:=(plainIs u a=true/\(u == a)=false)/\plainIs a u=true/\(a == u)=false
noncomputable def MS(a:Value):Tg->Prop
 |.ty n=>a=.type n
 |.EB=>a=.none
 |.bl b=>a=.bool b
 |.vQ=>JY .none a/\∀c,JY (.bool c) a
theorem ME(ra:VR w J H U s.heap a x):MS a (tag x):=by
 have q:∀a:Addr,MS (.ref a) .vQ:=λ a=>⟨⟨⟨rfl,rfl⟩,rfl,rfl⟩,λ c=>⟨⟨rfl,rfl⟩,rfl,rfl⟩⟩;cases x with
 |d y=>cases ra<;>first | rfl | exact q _ | exact⟨⟨⟨rfl,rfl⟩,rfl,rfl⟩,λ c=>⟨⟨rfl,rfl⟩,rfl,rfl⟩⟩
 |fs _=>obtain⟨z,rfl,_⟩:=ra;exact q _
 |ty _=>exact ra
 |o l=>obtain⟨rfl,_⟩:=ra;exact q _
theorem EZ{u v:Tg}(ra:MS a u)(rb:MS b v)(e:GA u v=some c):plainIs a b=true/\(a == b)=c:=by
 cases u with
 |ty p=>
  obtain rfl:=ra;cases v with
  |ty q=>
   obtain rfl:=rb;cases e;refine⟨rfl,?_⟩;by_cases h:p=q
   ·subst h;rw[beq_self_eq_true,beq_self_eq_true]
   ·rw[beq_eq_false_iff_ne.mpr h,beq_eq_false_iff_ne.mpr (λ e=>h (Value.type.inj e))]
  |EB=>obtain rfl:=rb;cases e;exact⟨rfl,rfl⟩
  |bl q=>obtain rfl:=rb;cases e;exact⟨rfl,rfl⟩
  |vQ=>exact no e
 |EB=>
  obtain rfl:=ra;cases v with
  |vQ=>cases e;exact rb.1.1
  |_=>obtain rfl:=rb;cases e;exact⟨rfl,rfl⟩
 |bl p=>
  obtain rfl:=ra;cases v with
  |vQ=>cases e;exact(rb.2 p).1
  |bl q=>obtain rfl:=rb;cases e;exact⟨rfl,by cases p<;>cases q<;>rfl⟩
  |_=>obtain rfl:=rb;cases e;exact⟨rfl,rfl⟩
 |vQ=>
  cases v with
  |EB=>obtain rfl:=rb;cases e;exact ra.1.2
  |bl q=>obtain rfl:=rb;cases e;exact(ra.2 q).2
  |_=>exact no e
theorem Gp(ra:VR w J H U s.heap a x)(rb:VR w J H U s.heap b y)(e:m5 x y=some c):plainIs a b=true/\(a == b)=c:=EZ (ME ra) (ME rb) e
inductive J8(da db:PyData)(c:Bool)(f:Int->Int->Bool):Prop
 |mk (i j:Int) (e1:da=.int i) (e2:db=.int j) (e3:c=f i j)
theorem xb(e:O3 da db=some c):J8 da db c λ i j=>decide (i<j):=by
 cases da with
 |int i=>
  cases db with
  |int j=>cases e;exact⟨i,j,rfl,rfl,rfl⟩
  |_=>first | exact no e | exact bt e | cases e
 |_=>first | exact no e | exact bt e | cases e
theorem D9(e:Rp da db=some c):J8 da db c λ i j=>decide (i<=j):=by
 cases da with
 |int i=>
  cases db with
  |int j=>cases e;exact⟨i,j,rfl,rfl,rfl⟩
  |_=>first | exact no e | exact bt e | cases e
 |_=>first | exact no e | exact bt e | cases e
inductive Jm(U:ae)(c:Bool)(x:V):V->Prop
 |d (da d:PyData) (xs:List PyData) (e1:x=.d da) (e2:items? d=some xs) (e:k6 da xs=some c):Jm U c x (.d d)
 |fs (i:Int) (xs:List Int) (e1:x=.d (.int i)) (e:xs.contains i=c):Jm U c x (.fs xs)
 |st (l:Nat) (i:Int) (xs:List Int) (hn:U[l]?=some (.set xs)) (e1:x=.d (.int i)) (e:xs.contains i=c):Jm U c x (.o l)
 |di (l:Nat) (i:Int) (bj:List (Int×V)) (hn:U[l]?=some (.fF bj)) (e1:x=.d (.int i)) (e:(look i bj).isSome=c):Jm U c x (.o l)
 |dt (l:Nat) (ks:List Int) (bj:List (List Int×V)) (hn:U[l]?=some (.jf bj)) (e1:x=.d (.tuple (ks.map .int))) (e:(look ks bj).isSome=c):Jm U c x (.o l)
theorem Us(e:dB.isIn U x y=some c):Jm U c x y:=by
 cases y with
 |d d=>
  obtain⟨da,ea,e⟩:=a9 e;obtain⟨xs,ex,e⟩:=a9 e;exact .d da d xs (c9 ea) ex e
 |fs xs=>
  obtain⟨i,ei,e⟩:=a9 e;exact .fs i xs (bq ei) (Option.some.inj e)
 |o l=>
  have e:Nf x U[l]?=some c:=e;cases hn:U[l]? with
  |none=>rw[hn] at e;first | exact no e | exact bt e | cases e
  |some nd=>
   rw[hn] at e;cases nd with
   |fF bj=>
    obtain⟨i,ei,e⟩:=a9 e;exact .di l i bj hn (bq ei) (Option.some.inj e)
   |jf bj=>
    obtain⟨da,ea,e⟩:=a9 e;obtain⟨ks,ek,e⟩:=a9 e;exact .dt l ks bj hn (by rw[c9 ea,mh ek]) (Option.some.inj e)
   |set xs=>
    obtain⟨i,ei,e⟩:=a9 e;exact .st l i xs hn (bq ei) (Option.some.inj e)
   |_=>first | exact no e | exact bt e | cases e
 |_=>first | exact no e | exact bt e | cases e
theorem cZ.room(hA:cZ A k):A.units+2+64<cLine:=Nat.lt_of_le_of_lt (show A.units+(2+64)<=_ from Nat.add_le_add (Nat.le_add_right A.units (40*k)) (by decide)) hA.units
theorem cZ.vY(hA:cZ A k){m:Nat}(h:n<=64)(hm:m<=2):A.units+m+n<cLine:=Nat.lt_of_le_of_lt (Nat.add_le_add (Nat.add_le_add_left hm _) h) hA.room
noncomputable def Nz(A:Around)(a b:Value)(s:Shared)(c:Bool)(E:Value->Shared->Prop):Prop:=
  (∀Q:Value->Shared->Prop,(∀t,Q (.bool c) { s with toks:=t })->wpAny (model prog w) A (compareOp .In a b) Q E s)/\
  (∀Q:Value->Shared->Prop,(∀t,Q (.bool !c) { s with toks:=t })->wpAny (model prog w) A (compareOp .NotIn a b) Q E s)
theorem w5(hA:cZ A k)(S:SR prog w hB C J H U s.heap)(ra:VR w J H U s.heap a x)(rb:VR w J H U s.heap b y)(e:dB.isIn U x y=some c):Nz A a b s c E:=by
 have hu:=hA.room
 replace e:=Us e
 cases e with
 |d da d xs e1 ex e=>
  subst e1;obtain⟨rfl,hd⟩:=mem_some e;have qs:=BA hd;obtain⟨as,Gy⟩:=RD.reads ra;obtain⟨bs,Gz⟩:=RD.reads rb;cases d with
  |list ys=>
   cases ex;obtain⟨l,vs,n,rfl,q1,q2,q3,q4⟩:=RD.bJ rb;exact⟨λ Q h=>SeqAt.in_list_reads Gz Gy (RD.canLayAll q4) (RD.canLay ra) (by omega) (h s.toks),λ Q h=>SeqAt.notIn_list_reads Gz Gy (RD.canLayAll q4) (RD.canLay ra) (by omega) (h s.toks)⟩
  |tuple ys=>
   cases ex;obtain⟨l,vs,n,rfl,q1,q2,q3,q4⟩:=RD.bR rb;exact⟨λ Q h=>SeqAt.in_tuple_reads Gz Gy (RD.canLayAll q4) (RD.canLay ra) (by omega) (h s.toks),λ Q h=>SeqAt.notIn_tuple_reads Gz Gy (RD.canLayAll q4) (RD.canLay ra) (by omega) (h s.toks)⟩
  |_=>first | exact no ex | exact bt ex | cases ex
 |fs i xs e1 e=>
  subst e1;subst e;obtain⟨t,rfl⟩:=aT ra;obtain⟨l,rfl,hl,hS⟩:=rb;obtain⟨n,_,_,hS⟩:=dO.setOf hS;exact⟨λ Q h=>wpAny_inSet_of (intKind_is prog w i t) rfl hS (h _),λ Q h=>wpAny_notInSet_of (intKind_is prog w i t) rfl hS (h _)⟩
 |st l i xs hn e1 e=>
  subst e1;subst e;obtain⟨t,rfl⟩:=aT ra;obtain⟨rfl,cz⟩:=rb;obtain⟨n,_,_,hS⟩:=dO.setOf (S.node l _ hn);exact⟨λ Q h=>wpAny_inSet_of (intKind_is prog w i t) rfl hS (h _),λ Q h=>wpAny_notInSet_of (intKind_is prog w i t) rfl hS (h _)⟩
 |di l i bj hn e1 e=>
  subst e1;subst e;obtain⟨t,rfl⟩:=aT ra;obtain⟨rfl,cz⟩:=rb;obtain⟨q0,ps,q1,q2⟩:=S.node l _ hn;have jj:=beq_eq_false_iff_ne.mpr q0.2;rw[<-(ft q2 i).isSome];exact⟨λ Q h=>wpAny_in_of (intKind_is prog w i t) jj q1.mapOf (h _),λ Q h=>wpAny_notIn_of (intKind_is prog w i t) jj q1.mapOf (h _)⟩
 |dt l ks bj hn e1 e=>
  subst e1;subst e;obtain⟨rfl,cz⟩:=rb;obtain⟨q0,ps,q1,q3,q2⟩:=S.node l _ hn;have jj:=beq_eq_false_iff_ne.mpr q0.2;obtain⟨la,vs,n,rfl,_⟩:=RD.bR ra;rw[<-(j0 q2 ks).isSome,Option.isSome_map];exact⟨λ Q h=>wpAny_in_heap (tupleKind_room_in1 (by omega)) (sG ra) jj q1 (h _),λ Q h=>wpAny_notIn_heap (tupleKind_room_in1 (by omega)) (sG ra) jj q1 (h _)⟩
theorem zz{op:CmpOp}(hA:cZ A k)(S:SR prog w hB C J H U s.heap)(ra:VR w J H U s.heap a x)(rb:VR w J H U s.heap b y)(e:dB U op x y=some c)
  (h:∀t,Q (.bool c) { s with toks:=t }):wpAny (model prog w) A (compareOp op a b) Q E s:=by
 have hu:=hA.room;cases op with
 |Is=>
  refine bC λ k9=>?_;obtain⟨h1,h2⟩:=Gp ra rb e;refine k9 ?_;exact wpAny_is_plain h1 (h2▸h s.toks)
 |IsNot=>
  refine bC λ k9=>?_;obtain⟨c',e',rfl⟩:=Option.map_eq_some_iff.mp e;obtain⟨h1,h2⟩:=Gp ra rb e';refine k9 ?_;exact wpAny_isNot_plain h1 (h2▸h s.toks)
 |Eq=>
  refine bC λ k9=>?_;obtain⟨da,ea,e⟩:=a9 e;obtain⟨db,eb,e⟩:=a9 e;have ra:=VR.dat ra ea;have rb:=VR.dat rb eb;obtain⟨hd,rfl⟩:=mX e;obtain⟨as,Gy⟩:=RD.reads ra;obtain⟨bs,Gz⟩:=RD.reads rb;refine k9 ?_;exact SeqAt.compareEq_reads Gy Gz (RD.canLay ra) (RD.canLay rb) (by omega) (h s.toks)
 |NotEq=>
  refine bC λ k9=>?_;obtain⟨da,ea,e⟩:=a9 e;obtain⟨db,eb,e⟩:=a9 e;obtain⟨c',e',e⟩:=a9 e;cases e;have ra:=VR.dat ra ea;have rb:=VR.dat rb eb;obtain⟨hd,rfl⟩:=mX e';obtain⟨as,Gy⟩:=RD.reads ra;obtain⟨bs,Gz⟩:=RD.reads rb;refine k9 ?_;exact SeqAt.compareNe_reads Gy Gz (RD.canLay ra) (RD.canLay rb) (by omega) (h s.toks)
 |Lt=>
  refine bC λ k9=>?_;obtain⟨da,ea,e⟩:=a9 e;obtain⟨db,eb,e⟩:=a9 e;have ra:=VR.dat ra ea;have rb:=VR.dat rb eb;obtain⟨i,j,rfl,rfl,rfl⟩:=xb e;obtain⟨t,rfl⟩:=aT ra;obtain⟨u,rfl⟩:=aT rb;refine k9 ?_;exact lt_int (h s.toks)
 |Gt=>
  refine bC λ k9=>?_;obtain⟨db,eb,e⟩:=a9 e;obtain⟨da,ea,e⟩:=a9 e;have ra:=VR.dat ra ea;have rb:=VR.dat rb eb;obtain⟨i,j,rfl,rfl,rfl⟩:=xb e;obtain⟨t,rfl⟩:=aT ra;obtain⟨u,rfl⟩:=aT rb;refine k9 ?_;exact gt_int (h s.toks)
 |LtE=>
  refine bC λ k9=>?_;obtain⟨da,ea,e⟩:=a9 e;obtain⟨db,eb,e⟩:=a9 e;have ra:=VR.dat ra ea;have rb:=VR.dat rb eb;obtain⟨i,j,rfl,rfl,rfl⟩:=D9 e;obtain⟨t,rfl⟩:=aT ra;obtain⟨u,rfl⟩:=aT rb;refine k9 ?_;exact le_int (h s.toks)
 |GtE=>cases e
 |In=>exact(w5 (E:=E) hA S ra rb e).1 Q h
 |NotIn=>
  refine bC λ k9=>?_;obtain⟨c',e',rfl⟩:=Option.map_eq_some_iff.mp e;refine k9 ?_;exact(w5 (E:=E) hA S ra rb e').2 Q h
theorem aE.isEmpty{G β:Type}{R:G->β->Prop}{vs:List G}{xs:List β}(r:aE R vs xs):vs.toArray.isEmpty=xs.isEmpty:=by
 rw[List.isEmpty_toArray];cases xs with
 |nil=>rw[r.cM];rfl
 |cons x xs=>obtain⟨v,ws,rfl,_⟩:=r.cons_right;rfl
theorem oZ{Q:Bool->Shared->Prop}(q1:s.heap.get? l=some (bo vs n))(q3:vs.length<=iH)(e:(!vs.toArray.isEmpty)=c)(h:∀t,Q c { s with toks:=t }):wpAny (model prog w) A (truthy (.ref l)) Q E s:=by
 subst e;exact wpAny_truthy_list (IsList.of q1) (rk q3) (h (s.toks+1+1))
theorem uu{Q:Bool->Shared->Prop}(S:SR prog w hB C J H U s.heap)(ra:VR w J H U s.heap a x)(e:iD U x=some c)(h:∀t,Q c { s with toks:=t }) :
  wpAny (model prog w) A (truthy a) Q E s:=by
 cases x with
 |d d=>
  cases d with
  |bool b=>cases e;cases ra;exact wpAny_truthy_bool (h s.toks)
  |list xs=>
   cases e;obtain⟨l,vs,n,rfl,q1,q2,q3,q4⟩:=RD.bJ ra;exact oZ q1 q3 (by rw[q4.isEmpty]) h
  |_=>first | exact no e | exact bt e | cases e
 |o l=>
  obtain⟨xs,hn,e⟩:=lst_inv (f:=λ xs=>some (!xs.isEmpty)) e;cases e;obtain⟨rfl,_⟩:=ra;obtain⟨vs,n,q1,q3,q4⟩:=S.node _ _ hn;exact oZ q1 q3 (by rw[q4.isEmpty]) h
 |_=>first | exact no e | exact bt e | cases e
end
end
section
open PySem PyProof.Rows
variable{j:Int}{n:Nat}
section
variable{A:Around}{env:Env}
variable{J:Addr->Prop}{H aB:bB}{U aj:ae}{s:Shared}{h h':Heap}{a b v:Value}{x y r:V}{k:Nat}
variable{Q:Value->Shared->Prop}{E:Value->Shared->Prop}
theorem i8(slice:Expr)(o i:Value):∃ops,subscripted slice false o i=operate ops (getItem o i):=by
 cases slice with
 |Slice lo hi st p=>cases st<;>exact⟨_,rfl⟩
 |_=>exact⟨_,rfl⟩
theorem i5{k:Nat}(e:seqIndex? j n=some k):k<n/\((0<=j/\j.toNat=k/\j<n)\/(j<0/\-(n:Int)<=j/\(j+n).toNat=k)):=by
 have e:(if(decide (0<=(if j<0 then j+n else j)) && decide ((if j<0 then j+n else j)<n))=true then some (if j<0 then j+n else j).toNat else none)=some k:=e;generalize hm:(if j<0 then j+n else j)=m at e;by_cases hc:(decide (0<=m) && decide (m<n))=true
 ·obtain rfl:=Option.some.inj ((if_pos hc).symm.trans e);have h0:=of_decide_eq_true (az hc).1;have h1:=of_decide_eq_true (az hc).2;refine⟨(Int.toNat_lt h0).mpr h1,?_⟩;by_cases hj:j<0
  ·obtain rfl:=(if_pos hj).symm.trans hm;exact .inr ⟨hj,Int.le_of_sub_nonneg (by rw[Int.sub_neg];exact h0),rfl⟩
  ·obtain rfl:=(if_neg hj).symm.trans hm;exact .inl ⟨h0,rfl,h1⟩
 ·exact no ((if_neg hc).symm.trans e)
theorem dR{k:Nat}(e:seqIndex? j n=some k)(hz:n<=iH):-(2 ^ 63)<=j/\j<2 ^ 63:=by
 have hn:(n:Int)<2 ^ 63:=Int.lt_of_le_of_lt (Int.ofNat_le.mpr hz) (by decide);rcases(i5 e).2 with ⟨h0,_,h2⟩ | ⟨h0,h1,_⟩
 ·exact⟨Int.le_trans (by decide) h0,Int.lt_trans h2 hn⟩
 ·exact⟨Int.le_trans (Int.neg_le_neg (Int.le_of_lt hn)) h1,Int.lt_trans h0 (by decide)⟩
theorem ka{l:Addr}{vs:List Value}{t:Tok}{k:Nat}{u:Value}(hl:s.heap.get? l=some (bo vs n))(hz:vs.length<=iH)(e:seqIndex? j vs.length=some k)(hu:vs[k]?=some u)
  (h:Q u s):wpAny (model prog w) A (getItem (.ref l) (.int j t)) Q E s:=by
 obtain⟨hk,⟨h0,h1,h2⟩ | ⟨h0,h1,h2⟩⟩:=i5 e
 ·exact wpAny_getItem_list (IsList.of hl) h0 (dR e hz).2 (by rw[h1];exact List.getElem?_toArray.trans hu) h
 ·exact wpAny_getItem_list_neg (IsList.of hl) h0 (by rw[List.size_toArray];exact h1) (dR e hz).1 (by rw[List.size_toArray,h2];exact List.getElem?_toArray.trans hu) h
inductive uL(U:ae)(r:V):V->V->Prop
 |li (xs:List PyData) (j:Int) (kk:Nat) (d:PyData) (e2:seqIndex? j xs.length=some kk) (e3:xs[kk]?=some d) (e:r=.d d):uL U r (.d (.list xs)) (.d (.int j))
 |tu (xs:List PyData) (j:Int) (kk:Nat) (d:PyData) (e2:seqIndex? j xs.length=some kk) (e3:xs[kk]?=some d) (e:r=.d d):uL U r (.d (.tuple xs)) (.d (.int j))
 |st (z:Str) (j:Int) (kk:Nat) (c:Nat) (hz:z.length<=cW) (e2:seqIndex? j z.length=some kk) (e3:z.cps[kk]?=some c) (e:r=.d (.str ⟨#[c]⟩)):uL U r (.d (.str z)) (.d (.int j))
 |lo (l:Nat) (xs:List V) (j:Int) (kk:Nat) (d:V) (hn:U[l]?=some (.aI xs)) (e2:seqIndex? j xs.length=some kk) (e3:xs[kk]?=some d) (e:r=dr U d):uL U r (.o l) (.d (.int j))
 |di (l:Nat) (bj:List (Int×V)) (j:Int) (d:V) (hn:U[l]?=some (.fF bj)) (e3:look j bj=some d) (e:r=dr U d):uL U r (.o l) (.d (.int j))
 |dt (l:Nat) (bj:List (List Int×V)) (ks:List Int) (d:V) (hn:U[l]?=some (.jf bj)) (e3:look ks bj=some d) (e:r=dr U d):uL U r (.o l) (.d (.tuple (ks.map .int)))
theorem PI(e:dX U x y=some r):uL U r x y:=by
 cases x with
 |d c=>
  obtain⟨j,ej,e⟩:=a9 e;obtain rfl:=bq ej;obtain⟨d,e1,rfl⟩:=Option.map_eq_some_iff.mp e;cases c with
  |list xs=>
   obtain⟨kk,e2,e3⟩:=a9 e1;exact .li xs j kk d e2 e3 rfl
  |tuple xs=>
   obtain⟨kk,e2,e3⟩:=a9 e1;exact .tu xs j kk d e2 e3 rfl
  |str z=>
   refine Classical.byCases (p:=z.length<=cW) (λ hz=>?_) (λ hz=>?_)
   ·obtain⟨kk,e2,e3⟩:=a9 ((if_pos hz).symm.trans e1);obtain⟨c,e4,rfl⟩:=Option.map_eq_some_iff.mp e3;exact .st z j kk c hz e2 e4 rfl
   ·exact no ((if_neg hz).symm.trans e1)
  |_=>first | exact no e1 | exact bt e1 | cases e1
 |o l=>
  have e:um U y U[l]?=some r:=e;cases hn:U[l]? with
  |none=>rw[hn] at e;first | exact no e | exact bt e | cases e
  |some nd=>
   rw[hn] at e;cases nd with
   |aI xs=>
    obtain⟨j,ej,e⟩:=a9 e;obtain⟨kk,e2,e⟩:=a9 e;obtain⟨d,e3,rfl⟩:=Option.map_eq_some_iff.mp e;obtain rfl:=bq ej;exact .lo l xs j kk d hn e2 e3 rfl
   |fF bj=>
    obtain⟨j,ej,e⟩:=a9 e;obtain⟨d,e3,rfl⟩:=Option.map_eq_some_iff.mp e;obtain rfl:=bq ej;exact .di l bj j d hn e3 rfl
   |jf bj=>
    obtain⟨da,ea,e⟩:=a9 e;obtain⟨ks,ek,e⟩:=a9 e;obtain⟨d,e3,rfl⟩:=Option.map_eq_some_iff.mp e;obtain rfl:=c9 ea;obtain rfl:=mh ek;exact .dt l bj ks d hn e3 rfl
   |_=>first | exact no e | exact bt e | cases e
 |_=>first | exact no e | exact bt e | cases e
theorem IZ{value slice:Expr}(hA:cZ A k)(S:SR prog w hB C J H U s.heap)(ra:VR w J H U s.heap a x)(rb:VR w J H U s.heap b y)(e:dX U x y=some r)
  (h:∀v t,VR w J H U s.heap v r->Q v { s with toks:=t }):wpAny (model prog w) A (subscriptTail value slice a b) Q E s:=by
 obtain⟨ops,rR⟩:=i8 slice a b
 replace e:=PI e
 cases e with
 |li xs j kk d e2 e3 e=>
  subst e;obtain⟨t,rfl⟩:=aT rb;obtain⟨l,vs,n,rfl,q1,q2,q3,q4⟩:=RD.bJ ra;obtain⟨u,hu,hr⟩:=q4.get e3;exact tail_any (IsList.of q1).typeIs slot_list_getitem.lookup (ka q1 q3 (q4.1▸e2) hu (h u s.toks hr)) rR
 |tu xs j kk d e2 e3 e=>
  subst e;obtain⟨t,rfl⟩:=aT rb;obtain⟨l,vs,n,rfl,q1,q2,q3,q4⟩:=RD.bR ra;obtain⟨u,hu,hr⟩:=q4.get e3;rw[<-q4.1] at e2;exact tail_any ⟨_,q1,rfl⟩ PyProof.Rows.slot_tuple_getitem.lookup (PyProof.Rows.getItem_tuple (IsTup.of q1) (dR e2 q3).1 (dR e2 q3).2 (j:=kk) (by rw[List.size_toArray];exact e2) (List.getElem?_toArray.trans hu) (h u s.toks hr)) rR
 |st z j kk c Um e2 e4 e=>
  subst e;obtain⟨t,rfl⟩:=aT rb;cases ra with
  |str _ tz hz=>
   have AG:PyData.strOk ⟨#[c]⟩=true:=by
    unfold PyData.strOk at hz ⊢;have:=Array.all_eq_true_iff_forall_mem.mp hz c (Array.mem_of_getElem? e4);simpa using this
   have f:=dR e2 (Nat.le_trans Um dM);refine tail_any (typeIs_str s z tz) PyProof.Rows.slot_str_getitem.lookup (PyProof.Rows.getItem_str (c:=c) ?_ (by rw[e2];exact e4) (h _ _ (RD.str _ _ AG))) rR;exact Bool.or_eq_false_iff.mpr ⟨decide_eq_false (Int.not_lt.mpr f.1),decide_eq_false (Int.not_le.mpr f.2)⟩
 |lo l xs j kk d hn e2 e3 e=>
  subst e;obtain⟨rfl,cz⟩:=ra;obtain⟨t,rfl⟩:=aT rb;obtain⟨vs,n,q1,q3,q4⟩:=S.node l _ hn;obtain⟨u,hu,hr⟩:=q4.get e3;exact tail_any (IsList.of q1).typeIs slot_list_getitem.lookup (ka q1 q3 (q4.1▸e2) hu (h u s.toks (mw S hr))) rR
 |di l bj j d hn e3 e=>
  refine bC λ k9=>?_;subst e;obtain⟨rfl,cz⟩:=ra;obtain⟨t,rfl⟩:=aT rb;obtain⟨q0,ps,q1,q2⟩:=S.node l _ hn;obtain⟨u,hu,hr⟩:=(e3▸ft q2 j).ko;refine k9 ?_;exact tail_any q1.mapOf.typeIs slot_dict_getitem.lookup (wpAny_getItem_of (intKind_is prog w j t) q1.mapOf hu (h u _ (mw S hr))) rR
 |dt l bj ks d hn e3 e=>
  refine bC λ k9=>?_;subst e;obtain⟨rfl,cz⟩:=ra;obtain⟨lb,vs,n,rfl,_⟩:=RD.bR rb;obtain⟨q0,ps,q1,q3,q2⟩:=S.node l _ hn;obtain⟨u,hu,hr⟩:=(e3▸j0 q2 ks).ko;obtain⟨p,hp,rfl⟩:=Option.map_eq_some_iff.mp hu;refine k9 ?_;exact tail_any q1.typeIs slot_dict_getitem.lookup (wpAny_getItem_heap (tupleKind_room_in1 (hA.vY (n:=0) (m:=1) (by decide) (by decide))) (sG rb) q1 hp (h _ _ (mw S hr))) rR
end
end
section
set_option tactic.hygienic true
open PySem PyProof.Rows
variable{R:Value->V->Prop}{j:Int}{l:Addr}{G:Type}
section
variable{A:Around}{env:Env}
variable{J:Addr->Prop}{H aB:bB}{U aj:ae}{s:Shared}{h h':Heap}{a b v:Value}{x y r:V}{k:Nat}
variable{Q:Value->Shared->Prop}{E:Value->Shared->Prop}
theorem lj{v:Value}{p:Option Int}{Q:Option Int->Shared->Prop}(hp:IsPart v p)(h:Q p s):wpAny (model prog w) A (Builtin.Slice.slicePartIndex v) Q E s:=by
 cases hp with
 |none=>exact PyProof.Rows.slicePart_none h
 |int i t=>exact PyProof.Rows.slicePart_int h
theorem wC(n:Nat)(v:Int):(if v<0 then max (v+n) 0 else min v n)=((clipAt n v:Nat):Int):=by
 rw[clipAt_cast];by_cases h:v<0
 ·rw[if_pos h,if_pos h,Int.min_eq_left (by have:=Int.add_le_add_right (Int.le_of_lt h) n;rwa [Int.zero_add] at this),Int.max_comm]
 ·rw[if_neg h,if_neg h,Int.max_eq_right (Int.le_min.mpr ⟨Int.not_lt.mp h,Int.natCast_nonneg n⟩)]
theorem sP(lo hi:Option Int)(n:Nat):Builtin.Slice.sliceAdjust lo hi 1 (n:Int)=(((lo.elim 0 (clipAt n):Nat):Int),((hi.elim n (clipAt n):Nat):Int)):=by
 cases lo<;>cases hi
 ·rfl
 ·exact congrArg (Prod.mk _) (wC n _)
 ·exact congrArg (Prod.mk · _) (wC n _)
 ·exact(congrArg (Prod.mk · _) (wC n _)).trans (congrArg (Prod.mk _) (wC n _))
theorem mR{sl:Addr}{vl vu:Value}{lo hi:Option Int}{n:Nat}{Q:Int×Int×Nat->Shared->Prop}(hs:s.heap.IsSliceOf sl vl vu .none)(pl:IsPart vl lo)(pu:IsPart vu hi)
  (h:Q (((lo.elim 0 (clipAt n):Nat):Int),1,hi.elim n (clipAt n)-lo.elim 0 (clipAt n)) s):wpAny (model prog w) A (Builtin.Slice.sliceApplied (.ref sl) (pure (n:Int))) Q E s:=by
 refine bC λ k9=>?_;obtain⟨os,Lv,QD,M0⟩:=id hs;refine k9 ?_;delta Builtin.Slice.sliceApplied Builtin.Slice.sliceFields;refine wpAny_bind (wpAny_bind (wpAny_field Lv M0 (x:=vl) rfl (wpAny_bind (wpAny_field Lv M0 (x:=vu) rfl (wpAny_bind (wpAny_field Lv M0 (x:=.none) rfl (wpAny_pure ?_)))))));refine wpAny_bind (PyProof.Rows.slicePart_none ?_);rw[if_neg (by decide)];refine wpAny_bind (lj pl (wpAny_bind (lj pu (wpAny_bind (wpAny_pure ?_)))));show wpAny _ _ (match Builtin.Slice.sliceAdjust lo hi 1 (n:Int) with | (lo,hi)=>pure (lo,(1:Int),Builtin.Slice.slicePlaces lo hi 1)) _ _ s;rw[sP lo hi n];show wpAny _ _ (pure (((lo.elim 0 (clipAt n):Nat):Int),(1:Int),Builtin.Slice.slicePlaces ((lo.elim 0 (clipAt n):Nat):Int) ((hi.elim n (clipAt n):Nat):Int) 1)) _ _ s;have e:Builtin.Slice.slicePlaces ((lo.elim 0 (clipAt n):Nat):Int) ((hi.elim n (clipAt n):Nat):Int) 1=hi.elim n (clipAt n)-lo.elim 0 (clipAt n):=by
  delta Builtin.Slice.slicePlaces;rw[if_pos (by decide)];generalize hi.elim n (clipAt n)=b;generalize lo.elim 0 (clipAt n)=a;by_cases q:a<b
  ·rw[if_pos (Int.ofNat_lt.mpr q),Int.ediv_one,Int.sub_add_cancel,Int.toNat_sub]
  ·rw[if_neg λ z=>q (Int.ofNat_lt.mp z),Nat.sub_eq_zero_of_le (Nat.not_lt.mp q)];rfl
 rw[e];exact wpAny_pure h
theorem Bt(xs:Array Value)(a k:Nat):((List.range k).filterMap fun(j:Nat)=>xs[((a:Int)+(j:Int)*1).toNat]?).toArray=((xs.toList.drop a).take k).toArray:=by
 have e:(fun(k:Nat)=>xs[((a:Int)+(k:Int)*1).toNat]?)=λ k=>xs[a+k]?:=by
  funext k;have:((a:Int)+(k:Int)*1).toNat=a+k:=by lia
  rw[this]
 rw[e];have:=pick_run xs a k;rw[List.filterMap_map] at this;have e2:((λ x=>xs[x]?) ∘ λ x=>a+x)=λ k=>xs[a+k]?:=rfl;rw[e2] at this;rw[this]
theorem g6(lo hi:Option Int)(xs:List G):(cutAt lo hi xs).length<=xs.length:=by
 exact((List.take_sublist _ _).trans (List.drop_sublist _ _)).length_le
theorem aE.ao{β:Type}{R:G->β->Prop}{vs:List G}{xs:List β}(r:aE R vs xs)(lo hi:Option Int):aE R (cutAt lo hi vs) (cutAt lo hi xs):=by
 unfold cutAt;rw[r.1];exact(r.drop _).take _
end
section
namespace cD
noncomputable section
def P(A:Around)(s:Shared)(Q:Value->Shared->Prop)(E:Value->Shared->Prop)(t:Addr)(sl:Addr)(vs:List Value)(n:Nat)(vl:Value)(vu:Value)(lo:Option Int)(hi:Option Int):Prop:=∀(ht:s.heap.get? t=some (eX vs n)) (hs:s.heap.IsSliceOf sl vl vu .none) (pl:IsPart vl lo) (pu:IsPart vu hi) (hz:vs.length<=iH) (h:Q (.ref s.heap.objs.size) { s with heap:=s.heap.push { cls:=.type "tuple",data:=.seq (cutAt lo hi vs).toArray } }) (h':cutAt lo hi vs=vs->Q (.ref t) s),wpAny (model prog w) A (getItem (.ref t) (.ref sl)) Q E s
def xe:(Around)×(Shared)×(Value->Shared->Prop)×(Value->Shared->Prop)×(Addr)×(Addr)×(List Value)×(Nat)×(Value)×(Value)×(Option Int)×(Option Int):=@Classical.epsilon _ ⟨({},{},default,default,default,default,default,default,default,default,default,default)⟩ λ x=>¬P x.1 x.2.1 x.2.2.1 x.2.2.2.1 x.2.2.2.2.1 x.2.2.2.2.2.1 x.2.2.2.2.2.2.1 x.2.2.2.2.2.2.2.1 x.2.2.2.2.2.2.2.2.1 x.2.2.2.2.2.2.2.2.2.1 x.2.2.2.2.2.2.2.2.2.2.1 x.2.2.2.2.2.2.2.2.2.2.2
def A:Around:=xe.1
def s:Shared:=xe.2.1
def Q:Value->Shared->Prop:=xe.2.2.1
def E:Value->Shared->Prop:=xe.2.2.2.1
def t:Addr:=xe.2.2.2.2.1
def sl:Addr:=xe.2.2.2.2.2.1
def vs:List Value:=xe.2.2.2.2.2.2.1
def n:Nat:=xe.2.2.2.2.2.2.2.1
def vl:Value:=xe.2.2.2.2.2.2.2.2.1
def vu:Value:=xe.2.2.2.2.2.2.2.2.2.1
def lo:Option Int:=xe.2.2.2.2.2.2.2.2.2.2.1
def hi:Option Int:=xe.2.2.2.2.2.2.2.2.2.2.2
theorem core:P A s Q E t sl vs n vl vu lo hi:=λ ht hs pl pu hz h h'=>by
 have hT:IsTup s.heap t vs.toArray:=IsTup.of ht;have wZ:sizeOk (.seq (cutAt lo hi vs).toArray):=by
  show(cutAt lo hi vs).toArray.size<=sizeLine;rw[List.size_toArray];exact Nat.le_trans (g6 lo hi vs) (Nat.le_trans hz bu)
 refine bC λ k9=>?_;obtain⟨os,Lv,QD,M0⟩:=id hs;have sL:s.TypeIs (.ref sl) "slice":=⟨os,Lv,QD⟩;refine k9 ?_;unfold getItem
 try with_reducible refine wpAny_holding ?_
 first | refine wpAny_bind (wpAny_pure ?_) | skip
 refine wpAny_bind (wpAny_sequenceKey hT.typeIs (by decide) ?_);refine wpAny_bind (wpAny_callSpecial?_slot (name:=Str.ofString "__getitem__") hT.typeIs PyProof.Rows.slot_tuple_getitem
  (wpAny_call_entry PyProof.Rows.slot_tuple_getitem hT.typeIs PyProof.Rows.entry_tuple_getitem ?_ (PyProof.Rows.args_tuple_getitem _ _)))
 show wpAny _ _ (Builtin.Tuple.tupleItemsOf (.ref t) >>= _) _ _ s;refine wpAny_bind (tupleItemsOf_ hT ?_);refine wpAny_bind (wpAny_typeOf sL ?_);rw[if_pos (by decide)];refine wpAny_bind (mR hs pl pu ?_);rw[List.size_toArray];generalize Oz:lo.elim 0 (clipAt vs.length)=p at *;generalize Tw:hi.elim vs.length (clipAt vs.length)=q at *;have K9:cutAt lo hi vs=(vs.drop p).take (q-p):=by unfold cutAt;rw[Oz,Tw]
 show wpAny _ _ (if((p:Int) == 0 && (1:Int) == 1 && (q-p) == vs.length)=true then _ else _) _ _ s;split
 ·rename_i hc;simp only[Bool.and_eq_true,beq_iff_eq] at hc;have hp:p=0:=by lia
  have hw:cutAt lo hi vs=vs:=by rw[K9,hp,List.drop_zero,List.take_of_length_le (by lia)]
  unfold Builtin.Tuple.tupleIsExact;refine wpAny_bind (wpAny_bind (wpAny_typeOf hT.typeIs (wpAny_pure ?_)));rw[if_pos (by decide)]
  first
   |exact wpAny_bind (wpAny_rule (wpAny_pure ⟨_,rfl,wpAny_pure (h' hw)⟩))
   |exact wpAny_bind (wpAny_rule (wpAny_bind (m:=ret _) (wpAny_pure (wpAny_pure ⟨_,rfl,wpAny_pure (h' hw)⟩))))
   |exact wpAny_bind (wpAny_bind (wpAny_rule (wpAny_pure (wpAny_pure ⟨_,rfl,wpAny_pure (h' hw)⟩))))
 ·rw[Bt,<-K9]
  first
   |exact wpAny_bind (m:=Builtin.Tuple.tupleExact _) (wpAny_newObj_type (wpAny_pure ⟨_,rfl,wpAny_pure h⟩) wZ)
   |exact wpAny_bind (m:=Builtin.Tuple.tupleExact _) (wpAny_newObj_type (wpAny_bind (wpAny_pure (wpAny_pure ⟨_,rfl,wpAny_pure h⟩))) wZ)
   |exact wpAny_bind (wpAny_bind (m:=Builtin.Tuple.tupleExact _) (wpAny_newObj_type (wpAny_pure (wpAny_pure ⟨_,rfl,wpAny_pure h⟩)) wZ))
   |exact wpAny_bind (wpAny_bind (m:=Builtin.Tuple.tupleExact _) (wpAny_newObj_type (wpAny_pure ⟨_,rfl,wpAny_pure h⟩) wZ))
end
end cD
variable{A:Around}{env:Env}
variable{J:Addr->Prop}{H aB:bB}{U aj:ae}{s:Shared}{h h':Heap}{a b v:Value}{x y r:V}{k:Nat}
variable{Q:Value->Shared->Prop}{E:Value->Shared->Prop}
theorem kW{A:Around}{s:Shared}{Q:Value->Shared->Prop}{E:Value->Shared->Prop}{t:Addr}{sl:Addr}{vs:List Value}{n:Nat}{vl:Value}{vu:Value}{lo:Option Int}{hi:Option Int}:cD.P A s Q E t sl vs n vl vu lo hi:=aU (Q:=λ x:(Around)×(Shared)×(Value->Shared->Prop)×(Value->Shared->Prop)×(Addr)×(Addr)×(List Value)×(Nat)×(Value)×(Value)×(Option Int)×(Option Int)=>cD.P x.1 x.2.1 x.2.2.1 x.2.2.2.1 x.2.2.2.2.1 x.2.2.2.2.2.1 x.2.2.2.2.2.2.1 x.2.2.2.2.2.2.2.1 x.2.2.2.2.2.2.2.2.1 x.2.2.2.2.2.2.2.2.2.1 x.2.2.2.2.2.2.2.2.2.2.1 x.2.2.2.2.2.2.2.2.2.2.2) cD.core (A,s,Q,E,t,sl,vs,n,vl,vu,lo,hi)
theorem BI{value slice:Expr}{d r:PyData}{sl:Addr}{vl vu:Value}{lo hi:Option Int}(S:SR prog w hB C J H U s.heap)(ra:VR w J H U s.heap a (.d d))(hs:s.heap.IsSliceOf sl vl vu .none)(pl:IsPart vl lo)(pu:IsPart vu hi)
  (e:slice? d lo hi=some r) (h:∀v s' aB,aS prog w hB C J s H U s' aB U->VR w J aB U s'.heap v (.d r)->Q v s'):wpAny (model prog w) A (subscriptTail value slice a (.ref sl)) Q E s:=by
 obtain⟨ops,rR⟩:=i8 slice a (.ref sl);cases d with
 |list xs=>
  cases e;obtain⟨l,vs,n,rfl,q1,q2,q3,q4⟩:=RD.bJ ra;refine tail_any (IsList.of q1).typeIs slot_list_getitem.lookup (wpAny_getItem_list_slice (IsList.of q1) hs pl pu .none (by simp) ?_ (by rw[List.size_toArray];exact Nat.le_trans q3 bu)) rR;rw[slicePick_plain];exact h _ _ _ (fx (n:=0) S (q4.ao lo hi) (Nat.le_trans (g6 lo hi vs) q3)).1 (fx (n:=0) S (q4.ao lo hi) (Nat.le_trans (g6 lo hi vs) q3)).2
 |tuple xs=>
  cases e;obtain⟨l,vs,n,rfl,q1,q2,q3,q4⟩:=RD.bR ra;refine tail_any (IsTup.of q1).typeIs PyProof.Rows.slot_tuple_getitem.lookup (kW q1 hs pl pu q3 ?_ ?_) rR
  ·obtain⟨g,q⟩:=il (n:=0) S (q4.ao lo hi) (Nat.le_trans (g6 lo hi vs) q3);exact h _ _ _ g q
  ·intro hw;refine h _ _ H (aS.refl S) ?_;exact RD.pd q1 q2 q3 (hw▸q4.ao lo hi)
 |_=>first | exact no e | exact bt e | cases e
theorem vF{vs:List Value}{n kk:Nat}{u:Value}(ho:h.get? l=some (bo vs n))(hk:kk<vs.length) :
  ∃n',(h.update l (Obj.mapSeq (·.setIfInBounds kk u))).get? l=some (bo (vs.set kk u) n'):=by
 refine⟨n,(Heap.get?_update_self (Obj.mapSeq (·.setIfInBounds kk u)) ho rfl).trans ?_⟩;simp[Obj.mapSeq]
theorem sS:∀(ps:List (Int×Value)),ps.any (λ kv=>kv.1=j)=(valueAt ps j).isSome:=by
 intro ps
 induction ps with
 |nil=>
  exact rfl
 |cons p ps ih=>
  refine Classical.byCases (p:=p.1=j) (λ hp=>?_) (λ hp=>?_)
  ·rw[List.any_cons,decide_eq_true hp,valueAt,gN,if_pos hp];rfl
  ·rw[List.any_cons,decide_eq_false hp,valueAt,gN,if_neg hp];exact ih
theorem wc{ps:List (Int×Value)}{bj:List (Int×V)}(r:aE (λ p q=>p.1=q.1/\R p.2 q.2) ps bj)(rv:R v x) :
  aE (λ p q=>p.1=q.1/\R p.2 q.2) (PySem.stored ps j v) (put j x bj):=by
 delta PySem.stored put;rw[sS,(ft r j).isSome];cases(look j bj).isSome with
 |true=>
  refine⟨by rw[if_pos rfl,if_pos rfl,List.length_map,List.length_map];exact r.1,λ i p q hp hq=>?_⟩;rw[if_pos rfl,List.getElem?_map] at hp hq;obtain⟨p',HT,rfl⟩:=Option.map_eq_some_iff.mp hp;obtain⟨q',jk,rfl⟩:=Option.map_eq_some_iff.mp hq;obtain⟨z1,z2⟩:=r.2 i p' q' HT jk;rw[z1];by_cases hj:q'.1=j
  ·rw[if_pos hj,if_pos hj];exact⟨rfl,rv⟩
  ·rw[if_neg hj,if_neg hj];exact⟨z1,z2⟩
 |false=>exact r.append (aE.one (v:=(j,v)) (x:=(j,x)) ⟨rfl,rv⟩)
theorem uk{ps:List (List Int×Addr×Value)}{bj:List (List Int×V)}{j:List Int}(r:aE (λ p q=>p.1=q.1/\R p.2.2 q.2) ps bj)(rv:R v x) :
  aE (λ p q=>p.1=q.1/\R p.2.2 q.2) (PySem.storedH ps j l v) (put j x bj):=by
 have e1:=(j0 r j).isSome;rw[Option.isSome_map] at e1;delta PySem.storedH put;rw[e1];cases(look j bj).isSome with
 |true=>
  refine⟨by rw[if_pos rfl,if_pos rfl,List.length_map,List.length_map];exact r.1,λ i p q hp hq=>?_⟩;rw[if_pos rfl,List.getElem?_map] at hp hq;obtain⟨p',HT,rfl⟩:=Option.map_eq_some_iff.mp hp;obtain⟨q',jk,rfl⟩:=Option.map_eq_some_iff.mp hq;obtain⟨z1,z2⟩:=r.2 i p' q' HT jk;delta putAt;rw[z1];refine Classical.byCases (p:=q'.1=j) (λ hj=>?_) (λ hj=>?_)
  ·rw[if_pos hj,if_pos hj];exact⟨rfl,rv⟩
  ·rw[if_neg hj,if_neg hj];exact⟨z1,z2⟩
 |false=>exact r.append (aE.one (v:=(j,l,v)) (x:=(j,x)) ⟨rfl,rv⟩)
theorem s9{K:Type}[DecidableEq K]{k:K}{bj:List (K×V)}(h:bj.length<cW):(put k x bj).length<=cW:=by
 unfold put;by_cases q:(look k bj).isSome=true
 ·rw[if_pos q,List.length_map];exact Nat.le_of_lt h
 ·rw[if_neg q,List.length_append];exact h
inductive MR(U:ae)(x:V)(aj:ae):V->V->Prop
 |lo (l:Nat) (xs:List V) (j:Int) (kk:Nat) (hn:U[l]?=some (.aI xs)) (e2:seqIndex? j xs.length=some kk) (hk:kk<xs.length) (e:aj=U.set l (.aI (xs.set kk x))):MR U x aj (.o l) (.d (.int j))
 |di (l:Nat) (bj:List (Int×V)) (j:Int) (hn:U[l]?=some (.fF bj)) (hl:bj.length<cW) (e:aj=U.set l (.fF (put j x bj))):MR U x aj (.o l) (.d (.int j))
 |dt (l:Nat) (bj:List (List Int×V)) (ks:List Int) (hn:U[l]?=some (.jf bj)) (hl:bj.length<cW) (e:aj=U.set l (.jf (put ks x bj))):MR U x aj (.o l) (.d (.tuple (ks.map .int)))
theorem stC{c i:V}(e:fR c i x U=some aj):MR U x aj c i:=by
 cases c with
 |o l=>
  have e:pT l i x U U[l]?=some aj:=e;cases hn:U[l]? with
  |none=>rw[hn] at e;first | exact no e | exact bt e | cases e
  |some nd=>
   rw[hn] at e;cases nd with
   |aI xs=>
    obtain⟨j,ej,e1⟩:=a9 e;obtain rfl:=bq ej;obtain⟨kk,e2,e1⟩:=a9 e1;by_cases hk:kk<xs.length
    ·cases(if_pos hk).symm.trans e1;exact .lo l xs j kk hn e2 hk rfl
    ·exact no ((if_neg hk).symm.trans e1)
   |fF bj=>
    obtain⟨j,ej,e1⟩:=a9 e;obtain rfl:=bq ej;by_cases hk:bj.length<cW
    ·cases(if_pos hk).symm.trans e1;exact .di l bj j hn hk rfl
    ·exact no ((if_neg hk).symm.trans e1)
   |jf bj=>
    obtain⟨da,ea,e1⟩:=a9 e;obtain rfl:=c9 ea;obtain⟨ks,ek,e2⟩:=a9 e1;obtain rfl:=mh ek;by_cases hk:bj.length<cW
    ·cases(if_pos hk).symm.trans e2;exact .dt l bj ks hn hk rfl
    ·exact no ((if_neg hk).symm.trans e2)
   |_=>first | exact no e | exact bt e | cases e
 |_=>first | exact no e | exact bt e | cases e
theorem qO{c:Value}{xc:V}{Q:Unit->Shared->Prop}(hA:cZ A k)(S:SR prog w hB C J H U s.heap)(rc:VR w J H U s.heap c xc)(ri:VR w J H U s.heap b y)(rv:VR w J H U s.heap v x)(e:fR xc y x U=some aj)
  (h:∀s' aB,aS prog w hB C J s H U s' aB aj->Q () s'):wpAny (model prog w) A (setItem c b v) Q E s:=by
 replace e:=stC e
 cases e with
 |lo l xs j kk hn ek TF e=>
  subst e;obtain⟨rfl,cz⟩:=rc;obtain⟨t,rfl⟩:=aT ri;obtain⟨vs,n,q1,q3,q4⟩:=S.node l _ hn;obtain⟨n',HS⟩:=vF (u:=v) q1 (q4.1▸TF);have fin:Q () { s with heap:=s.heap.update (H l).1 (Obj.mapSeq (·.setIfInBounds kk v)) }:=by
   have om:∀b o,b≠(H l).1->b≠(H l).2->s.heap.get? b=some o->(s.heap.update (H l).1 (Obj.mapSeq (·.setIfInBounds kk v))).get? b=some o:=λ b o h1 _ ho=>(Heap.get?_update_other _ _ (Ne.symm h1)).trans ho;have ev:bZ H U s.heap H (U.set l (.aI (xs.set kk x))) _:=bZ.set hn rfl om;exact h _ H ⟨⟨rfl,GX.refl _⟩,ev,S.set hn rfl om ⟨vs.set kk v,n',HS,by rw[List.length_set];exact q3,(q4.set kk rv).mono λ v x r=>r.aH ev⟩ (λ _=>S.two l _ hn rfl)⟩
  rw[<-q4.1] at ek;obtain⟨_,⟨h0,h1,h2⟩ | ⟨h0,h1,h2⟩⟩:=i5 ek
  ·exact W.ki_setAt q1 h0 (dR ek q3).2 (by rw[List.size_toArray];exact h2) (by rw[h1];exact fin)
  ·exact W.ki_setBack q1 h0 (by rw[List.size_toArray];exact h1) (dR ek q3).1 (by rw[List.size_toArray,h2];exact fin)
 |di l bj j hn aZ e=>
  subst e;obtain⟨rfl,cz⟩:=rc;obtain⟨t,rfl⟩:=aT ri;obtain⟨q0,ps,q1,q2⟩:=S.node l _ hn;refine wpAny_setItem_pairs (intKind_is prog w j t) q1 (λ h' hm DW=>?_) (by rw[q2.1];exact Nat.le_trans q0.1 (Nat.le_trans dM bu));have om:∀b o,b≠(H l).1->b≠(H l).2->s.heap.get? b=some o->h'.get? b=some o:=λ b o h1 _ ho=>(DW.2 b h1).trans ho;have ev:bZ H U s.heap H (U.set l (.fF (put j x bj))) h':=bZ.set hn rfl om;exact h _ H ⟨⟨rfl,GX.refl _⟩,ev,S.set hn rfl om ⟨⟨s9 aZ,q0.2⟩,_,hm,wc (R:=VR w J H (U.set l (.fF (put j x bj))) h') (q2.mono λ p q r=>⟨r.1,r.2.aH ev⟩) (rv.aH ev)⟩ (λ _=>S.two l _ hn rfl)⟩
 |dt l bj ks hn aZ e=>
  subst e;obtain⟨rfl,cz⟩:=rc;obtain⟨lb,Vz,nb,rfl,Sz,SA,_⟩:=RD.bR ri;obtain⟨q0,ps,q1,q3,q2⟩:=S.node l _ hn;refine wpAny_setItem_heap (tupleKind_room_in1 (hA.vY (n:=0) (m:=1) (by decide) (by decide))) (sG ri) q1 (λ h' hm DW=>?_) (by rw[q2.1];exact Nat.le_trans q0.1 (Nat.le_trans dM bu));have om:∀b o,b≠(H l).1->b≠(H l).2->s.heap.get? b=some o->h'.get? b=some o:=λ b o h1 _ ho=>(DW.2 b h1).trans ho;have ev:bZ H U s.heap H (U.set l (.jf (put ks x bj))) h':=bZ.set hn rfl om;refine h _ H ⟨⟨rfl,GX.refl _⟩,ev,S.set hn rfl om ⟨⟨s9 aZ,q0.2⟩,_,hm,λ z hz=>?_,uk (R:=VR w J H (U.set l (.jf (put ks x bj))) h') (q2.mono λ p q r=>⟨r.1,r.2.aH ev⟩) (rv.aH ev)⟩ (λ _=>S.two l _ hn rfl)⟩;rcases mem_storedH hz with ⟨y,hy,_,e2⟩ | ⟨_,e2⟩
  ·rw[e2];refine bC λ k9=>?_;obtain⟨o,es,ep,ho,k1,k2,k3,k4,k5⟩:=q1;obtain⟨ob,items,m,q,r⟩:=k4 y hy;refine k9 ?_;exact ev.ex (q3 y hy) q
  ·rw[e2];exact ev.ex SA Sz
end
end
section
open PySem PyProof.Rows
variable{d:PyData}{n:Nat}
section
variable{A:Around}{env:Env}
variable{J:Addr->Prop}{H aB:bB}{U aj:ae}{s:Shared}{h h':Heap}{a b v:Value}{x y r:V}{k:Nat}
variable{Q:Value->Shared->Prop}{E:Value->Shared->Prop}
theorem mE{l:Addr}{vs:List Value}(q:s.heap.get? l=some (bo vs n))(hz:vs.length<=iH)(h:∀t u,Q (.int vs.length u) { s with toks:=t }) :
  wpAny (model prog w) A (call (.builtin "len") [.ref l]) Q E s:=by
 exact PySem.Calls.call_len_list (IsList.of q) (rk hz) (h _ _)
theorem Ii(S:SR prog w hB C J H U s.heap)(ra:VR w J H U s.heap a (.d d))(e:L2 d=some n)(h:∀v t,VR w J H U s.heap v (.d (.int n))->Q v { s with toks:=t }) :
  wpAny (model prog w) A (call (.builtin "len") [a]) Q E s:=by
 cases d with
 |list xs=>
  cases e;obtain⟨l,vs,m,rfl,q1,q2,q3,q4⟩:=RD.bJ ra;exact mE q1 q3 λ t u=>by rw[q4.1];exact h _ _ (RD.int _ _)
 |tuple xs=>
  cases e;obtain⟨l,vs,m,rfl,q1,q2,q3,q4⟩:=RD.bR ra;exact PySem.P.len_tuple q1 (Int.not_le.mpr (rk q3)) (by rw[List.size_toArray,q4.1];exact h _ _ (RD.int _ _))
 |_=>first | exact no e | exact bt e | cases e
theorem Ec{own:Bool}{xs:List PyData}(S:SR prog w hB C J H U s.heap)(ra:VR w J H U s.heap a (.d d))(ei:items? d=some xs)(e:dC own (xs.map .d) U=some (r,aj))
  (h:∀v s' aB,aS prog w hB C J s H U s' aB aj->VR w J aB aj s'.heap v r->Q v s'):wpAny (model prog w) A (call (.type "list") [a]) Q E s:=by
 have key:∀(l:Addr) (vs:List Value) (o:Obj) (T:String) (n:Nat),(T="list"\/T="tuple")->s.heap.get? l=some o->o.cls=.type T->o.data=.seq vs.toArray n->vs.length<=iH->aE (RD (Ex J H U) s.heap) vs xs->wpAny (model prog w) A (call (.type "list") [.ref l]) Q E s:=by
  intro l vs o T n hT ho hc hd hl hr;refine call_list_seq (hsz:=by rw[List.size_toArray];exact Nat.le_trans hl bu) l hT ho hc hd λ h' c' hk hD=>?_;cases own with
  |true=>
   refine bC λ k9=>?_;cases e;have ev:bZ H U s.heap (H.add U s.heap.objs.size s.heap.objs.size) (U++[.aI (xs.map .d)]) h':=bZ.grow (aY _) (aY _) hk;refine k9 ?_;exact h _ _ _ ⟨⟨rfl,GX.refl _⟩,ev,S.grow (aY _) (aY _) hk ⟨vs,c',hD,hl,(jb hr).mono λ v x r=>r.aH ev⟩ (λ _=>rfl)⟩ VR.top
  |false=>
   refine bC λ k9=>?_;obtain⟨ds,e1,e2⟩:=Option.map_eq_some_iff.mp e;cases e2;obtain rfl:ds=xs:=(List.map_inj_right (λ a b e=>V.d.inj e)).mp (je e1).symm;refine k9 ?_;exact h _ _ _ (aS.more S hk) (RD.qz hD (S.fresh (aY _)) hl (hr.mono λ v x r=>r.aH (bZ.bx hk)))
 cases d with
 |list ys=>
  cases ei;obtain⟨l,vs,m,rfl,q1,q2,q3,q4⟩:=RD.bJ ra;exact key l vs _ "list" m (.inl rfl) q1 rfl rfl q3 q4
 |tuple ys=>
  cases ei;obtain⟨l,vs,m,rfl,q1,q2,q3,q4⟩:=RD.bR ra;exact key l vs _ "tuple" m (.inr rfl) q1 rfl rfl q3 q4
 |_=>first | exact no ei | exact bt ei | cases ei
theorem D3{X:Addr->Prop}:∀{is:List Int} {vs:List Value},aE (RD X h) vs (is.map .int)->∃ps:List (Int×Tok),vs=ps.map (λ p=>Value.int p.1 p.2)/\ps.map (·.1)=is:=by
 intro is
 induction is with
 |nil=>
  intro vs r;exact⟨[],by rw[r.cM];rfl,rfl⟩
 |cons i is ih=>
  intro vs r;obtain⟨v,ws,rfl,h1,h2⟩:=r.cons_right;obtain⟨ps,rfl,e⟩:=ih h2;cases h1 with
  |int i t=>exact⟨(i,t)::ps,rfl,congrArg (i::·) e⟩
theorem I0{xs:List PyData}{is:List Int}(hA:cZ A k)(S:SR prog w hB C J H U s.heap)(ra:VR w J H U s.heap a (.d (.list xs)))(e:kY xs=some is)
  (h:∀v s',aS prog w hB C J s H U s' H U->VR w J H U s'.heap v (.d (.int is.sum))->Q v s'):wpAny (model prog w) A (call (.builtin "sum") [a]) Q E s:=by
 refine bC λ k9=>?_;obtain⟨l,vs,m,rfl,q1,q2,q3,q4⟩:=RD.bJ ra;rw[lZ e] at q4;obtain⟨ps,rfl,hp⟩:=D3 q4;refine k9 ?_;have hl:s.heap.IsList l (intItems ps.toArray):=by
  have:=IsList.of q1;simpa[intItems] using this
 refine sum_intListG hA.handled hl λ h' tk t' hk=>?_;have hs:preSum (numAt ps.toArray) ps.toArray.size=is.sum:=by
  rw[preSum_eq,List.take_of_length_le (by simp)];simp[hp]
 rw[hs];exact h _ _ (aS.more S hk) (RD.int _ _)
theorem Io{i j:Int}(hA:cZ A k)(S:SR prog w hB C J H U s.heap)(ra:VR w J H U s.heap a (.d (.int i)))(rb:VR w J H U s.heap b (.d (.int j)))
  (h:∀v s',aS prog w hB C J s H U s' H U->VR w J H U s'.heap v (.d (.int (max i j)))->Q v s'):wpAny (model prog w) A (call (.builtin "max") [a,b]) Q E s:=by
 obtain⟨t,rfl⟩:=aT ra;obtain⟨u,rfl⟩:=aT rb;refine max_two_ints hA.handled λ h' tk hk=>?_;by_cases hc:i<j
 ·rw[if_pos hc];exact h _ _ (aS.more S hk) (by rw[Int.max_eq_right (Int.le_of_lt hc)];exact RD.int _ _)
 ·rw[if_neg hc];exact h _ _ (aS.more S hk) (by rw[Int.max_eq_left (Int.not_lt.1 hc)];exact RD.int _ _)
theorem xP{t:String}(ra:VR w J H U s.heap a x)(e:mK x=some t)(h:Q (.type t) s):wpAny (model prog w) A (call (.type "type") [a]) Q E s:=by
 cases x with
 |d x=>
  cases x with
  |int i=>cases e;cases ra;exact call_type_of (Tx:="int") (typeIs_int s _ _) (by decide) h
  |bool b=>cases e;cases ra;exact call_type_of (Tx:="bool") (PySem.typeIs_bool s _) (by decide) h
  |tuple xs=>
   cases e;obtain⟨l,vs,m,rfl,q1,q2,q3,q4⟩:=RD.bR ra;exact call_type_of (Tx:="tuple") (IsTup.of q1).typeIs (by decide) h
  |_=>first | exact no e | exact bt e | cases e
 |_=>first | exact no e | exact bt e | cases e
end
end
section
open PySem PyProof.Rows
variable{X:Addr->Prop}{d:PyData}{j l n:Nat}{u:Value}{vs:List Value}
section
variable{J:Addr->Prop}{A:Around}{env:Env}
variable{H aB:bB}{U aj:ae}{s:Shared}{h h':Heap}{a b v:Value}{x y r:V}{k:Nat}
variable{Q:Value->Shared->Prop}{E:Value->Shared->Prop}
theorem mF{l:Addr}(ho:h.get? l=some (bo vs n)) :
  ∃n',(h.update l (Obj.mapSeq λ xs=>xs.push u)).get? l=some (bo (vs++[u]) n'):=by
 rw[Heap.get?_update_self (Obj.mapSeq λ xs=>xs.push u) ho rfl];simp only[Obj.mapSeq,List.push_toArray];exact⟨_,rfl⟩
theorem vE{l:Addr}(ho:h.get? l=some (bo (u::vs) n)) :
  ∃n',(h.update l (Obj.mapSeq λ xs=>xs.eraseIdxIfInBounds 0)).get? l=some (bo vs n'):=by
 rw[Heap.get?_update_self (Obj.mapSeq λ xs=>xs.eraseIdxIfInBounds 0) ho rfl];simp only[Obj.mapSeq,show(u::vs).toArray.eraseIdxIfInBounds 0=vs.toArray by simp[Array.eraseIdxIfInBounds]];exact⟨_,rfl⟩
theorem x5{xs:List V}(S:SR prog w hB C J H U s.heap)(hn:U[l]?=some (.aI xs))(hz:xs.length<cW)(rv:VR w J H U s.heap v x)
  (h:∀v s' aB,aS prog w hB C J s H U s' aB (U.set l (.aI (xs++[x])))->VR w J aB (U.set l (.aI (xs++[x]))) s'.heap v (.d .none)->Q v s') :
  wpAny (model prog w) A (call (.builtin "list.append") [.ref (H l).1,v]) Q E s:=by
 refine bC λ k9=>?_;obtain⟨vs,n,q1,q3,q4⟩:=S.node l _ hn;have HZ:vs.length<cW:=q4.1▸hz;obtain⟨n',HS⟩:=mF (u:=v) q1;refine k9 ?_;refine call_meets F.slot_list_append ⟨_,q1,rfl⟩ F.entry_list_append (F.args_list_append_2 _ _) (list_append (H l).1 vs.toArray n v (by rw[List.size_toArray];exact Nat.le_trans q3 bu)) ⟨q1,?_⟩;have om:∀b o,b≠(H l).1->b≠(H l).2->s.heap.get? b=some o->(s.heap.update (H l).1 (Obj.mapSeq λ xs=>xs.push v)).get? b=some o:=λ b o h1 _ ho=>(Heap.get?_update_other _ _ (Ne.symm h1)).trans ho;have ev:bZ H U s.heap H (U.set l (.aI (xs++[x]))) _:=bZ.set hn rfl om;exact h _ _ H ⟨⟨rfl,GX.refl _⟩,ev,S.set hn rfl om ⟨vs++[v],n',HS,by rw[List.length_append];exact Nat.le_trans HZ dM,(q4.mono λ v x r=>r.aH ev).append (aE.one (rv.aH ev))⟩ (λ _=>S.two l _ hn rfl)⟩ RD.none
theorem IF{xs:List V}{u:Tok}(S:SR prog w hB C J H U s.heap)(hn:U[l]?=some (.aI (x::xs)))
  (h:∀v s' aB,aS prog w hB C J s H U s' aB (U.set l (.aI xs))->VR w J aB (U.set l (.aI xs)) s'.heap v (dr U x)->Q v s') :
  wpAny (model prog w) A (call (.builtin "list.pop") [.ref (H l).1,.int 0 u]) Q E s:=by
 refine bC λ k9=>?_;obtain⟨vs,n,q1,q3,q4⟩:=S.node l _ hn;obtain⟨v,ws,rfl,rv,rs⟩:=q4.cons_right;obtain⟨n',HS⟩:=vE q1;refine k9 ?_;refine call_meets F.slot_list_pop ⟨_,q1,rfl⟩ F.entry_list_pop (F.args_list_pop_2 _ _) (MeetsSeq.list_pop_at (H l).1 (v::ws).toArray n 0 u 0 v (by decide) (by simp[seqIndex?]) rfl (by rw[List.size_toArray];exact Nat.le_trans q3 bu)) ⟨q1,?_⟩;have om:∀b o,b≠(H l).1->b≠(H l).2->s.heap.get? b=some o->(s.heap.update (H l).1 (Obj.mapSeq λ xs=>xs.eraseIdxIfInBounds 0)).get? b=some o:=λ b o h1 _ ho=>(Heap.get?_update_other _ _ (Ne.symm h1)).trans ho;have ev:bZ H U s.heap H (U.set l (.aI xs)) _:=bZ.set hn rfl om;exact h _ _ H ⟨⟨rfl,GX.refl _⟩,ev,S.set hn rfl om ⟨ws,n',HS,Nat.le_of_succ_le q3,rs.mono λ v x r=>r.aH ev⟩ (λ _=>S.two l _ hn rfl)⟩ ((mw S rv).aH ev)
theorem HF{bj:List (Int×V)}{j:Int}{t:Tok}(S:SR prog w hB C J H U s.heap)(hn:U[l]?=some (.fF bj))(rv:VR w J H U s.heap v x)
  (h:∀v t,VR w J H U s.heap v (((look j bj).map (dr U)).getD x)->Q v { s with toks:=t }) :
  wpAny (model prog w) A (call (.builtin "dict.get") [.ref (H l).1,.int j t,v]) Q E s:=by
 refine bC λ k9=>?_;obtain⟨q0,ps,q1,q2⟩:=S.node l _ hn;have jj:=beq_eq_false_iff_ne.mpr q0.2;refine k9 ?_;refine call_meetsIn F.slot_dict_get q1.mapOf.typeIs F.entry_dict_get (F.args_dict_get_3 _ _ _) (meets_dict_get_default (intKind prog w) _ (intKind_is prog w j t) jj v) ⟨_,q1.mapOf,h _ _ ?_⟩;have hv:=ft q2 j
 revert hv
 cases valueAt ps j<;>cases look j bj<;>intro hv
 ·exact rv
 ·exact hv.elim
 ·exact hv.elim
 ·exact mw S hv
inductive Ny(d:PyData)(xs:List PyData)(i j:Nat):Prop
 |mk (k:Nat) (x:PyData) (e:j=i+k) (hx:xs[k]?=some x) (h1:PyData.eqv x d=true) (h2:∀m y,xs[m]?=some y->m<=k->min y.depth d.depth<=64) (h3:∀m y,xs[m]?=some y->m<k->PyData.eqv y d=false)
theorem AO:∀{xs:List PyData} {i j:Nat},ow d i xs=some j->Ny d xs i j:=by
 intro xs
 induction xs with
 |nil=>
  intro i j e;exact no e
 |cons y xs ih=>
  intro i j e;obtain⟨b,e1,e⟩:=a9 e;obtain⟨hd,rfl⟩:=mX e1;refine Classical.byCases (p:=PyData.eqv y d=true) (λ hb=>?_) (λ hb=>?_)
  ·cases(if_pos hb).symm.trans e;refine⟨0,y,rfl,rfl,hb,λ m z hm hle=>?_,λ m z _ cz=>absurd cz (Nat.not_lt_zero m)⟩;obtain rfl:=Nat.le_zero.mp hle;cases hm;exact hd
  ·obtain⟨k,x,rfl,hx,h1,h2,h3⟩:=ih ((if_neg hb).symm.trans e);refine⟨k+1,x,Nat.add_right_comm i 1 k,hx,h1,λ m z hm hle=>?_,λ m z hm cz=>?_⟩
   ·cases m with
    |zero=>cases hm;exact hd
    |succ m=>exact h2 m z hm (Nat.le_of_succ_le_succ hle)
   ·cases m with
    |zero=>cases hm;exact Bool.eq_false_iff.mpr hb
    |succ m=>exact h3 m z hm (Nat.lt_of_succ_lt_succ cz)
open SeqAt in
theorem index_loopAt(l:Addr)(items:Array Value)(n:Nat)(x:Value)(e:Nat->Bool)(B7:Int)(j:Nat)(hj:j<items.size)(Gi:(j:Int)<B7)(hit:e j=true)(k:Nat) :
  ∀i:Nat,j-i=k->i<=j->(∀m,i<=m->m<j->e m=false)->Meets (Builtin.«list.index.loop» ⟨[.ref l,x,rawInt i,rawInt B7],[]⟩)
   (λ A R s=>s.heap.get? l=some { cls:=.type "list",dict:=none,data:=.seq items n,slots:=#[] }/\(∀m (hm:m<items.size),m<=j->EqAt A.in1 s items[m] x (e m))/\R (.ok (.ret (.int j s.toks))) { s with toks:=s.toks+1 }):=by
 induction k with
 |zero=>
  intro i hk F7 fk prog w A R s h;obtain⟨hp,g,d,tk,os⟩:=s;obtain⟨hl,he,h⟩:=h;obtain rfl:=Nat.le_antisymm F7 (Nat.sub_eq_zero_iff_le.mp hk)
  wp_walk using wpAny_loadPart' hl
  have hi:(if(i:Int)<B7 then items[((i:Nat):Int).toNat]? else none)=some items[i]:=(if_pos Gi).trans (Array.getElem?_eq_getElem hj);rw[hi];refine wpAny_bind (he i hj (Nat.le_refl _) prog w _ _ ?_);rw[hit]
  wp_walk
  exact h
 |succ k ih=>
  intro i hk F7 fk prog w A R s h;obtain⟨hp,g,d,tk,os⟩:=s;obtain⟨hl,he,h⟩:=h;have cz:i<items.size:=by exact Nat.lt_of_le_of_lt ‹_› ‹_›
  have iW:(i:Int)<B7:=Int.lt_of_le_of_lt (Int.ofNat_le.mpr F7) Gi;have Lp:i<j:=Nat.lt_of_sub_eq_succ hk
  wp_walk using wpAny_loadPart' hl
  have hi:(if(i:Int)<B7 then items[((i:Nat):Int).toNat]? else none)=some items[i]:=(if_pos iW).trans (Array.getElem?_eq_getElem cz);have hc:((i:Int)+1)=((i+1:Nat):Int):=rfl;rw[hi];refine wpAny_bind (he i cz F7 prog w _ _ ?_);rw[fk i (Nat.le_refl _) Lp]
  wp_walk
  rw[hc];exact⟨plainId_quiet MeetsSeq.plain_index_loop _,codeAny_builtin MeetsSeq.entry_index_loop (by
   rw[Around.under_plainId MeetsSeq.plain_index_loop _];exact ih (i+1) (congrArg Nat.pred hk) Lp (λ m h1 h2=>fk m (by exact Nat.le_of_lt ‹_›) h2) prog w A R _ ⟨hl,he,h⟩)⟩
open SeqAt in
theorem list_indexAt(l:Addr)(items:Array Value)(n:Nat)(x:Value)(e:Nat->Bool)(j:Nat)(hj:j<items.size)(HW:(j:Int)<2 ^ 63-1)(hit:e j=true)(fk:∀m,m<j->e m=false) :
  Meets (Builtin.«list.index» ⟨[.ref l,x],[]⟩)
   (λ A R s=>s.heap.get? l=some { cls:=.type "list",dict:=none,data:=.seq items n,slots:=#[] }/\(∀m (hm:m<items.size),m<=j->EqAt A.in1 s items[m] x (e m))/\R (.ok (.ret (.int j s.toks))) { s with toks:=s.toks+1 }):=by
 intro prog w A R s h;obtain⟨hp,g,d,tk,os⟩:=s;obtain⟨hl,he,h⟩:=h
 wp_walk using wpAny_loadPart' hl
 have a1:((λ i:Int=>if i<0 then max 0 (i+(items.size:Int)) else i) ((none:Option Int).getD 0))=((0:Nat):Int):=by rfl
 have a2:((λ i:Int=>if i<0 then max 0 (i+(items.size:Int)) else i) ((none:Option Int).getD (2 ^ 63-1)))=2 ^ 63-1:=by rfl
 rw[a1,a2];exact⟨plainId_quiet MeetsSeq.plain_index_loop _,codeAny_builtin MeetsSeq.entry_index_loop (by
  rw[Around.under_plainId MeetsSeq.plain_index_loop _];exact index_loopAt l items n x e (2 ^ 63-1) j hj HW hit _ 0 rfl (Nat.zero_le _) (λ m _ h2=>fk m h2) prog w A R _ ⟨hl,he,h⟩)⟩
theorem yk{d1 d2:PyData}{v1 v2:Value}{A':Around}(r1:RD X s.heap v1 d1)(r2:RD X s.heap v2 d2)(hu:A'.units+min d1.depth d2.depth<cLine):SeqAt.EqAt A' s v1 v2 (PyData.eqv d1 d2):=by
 refine bC λ k9=>?_;obtain⟨as,q1⟩:=r1.reads;obtain⟨bs,q2⟩:=r2.reads;have k1:ReadsAll s.heap [v1] [d1] (as++[]):=.cons q1 .nil;have k2:ReadsAll s.heap [v2] [d2] (bs++[]):=.cons q2 .nil;refine k9 ?_;have:=SeqAt.eqAt_readsAll [d1] [d2] A' s [v1] [v2] _ _ k1 k2 (by simp[PyData.canLayAll0,r1.canLay]) (by simp[PyData.canLayAll0,r2.canLay]) (by simpa[PyData.depthAll] using hu) 0 (by simp) (by simp);exact this
inductive Nw(A:Around)(s:Shared)(vs:List Value)(b:Value)(j:Nat):Prop
 |mk (f:Nat->Bool) (hj:j<vs.toArray.size) (h1:f j=true) (h2:∀m,m<j->f m=false) (h3:∀m (hm:m<vs.toArray.size),m<=j->SeqAt.EqAt A.in1 s vs.toArray[m] b (f m))
theorem D0{xs:List PyData}(hA:cZ A k)(q4:aE (RD X s.heap) vs xs)(rb:RD X s.heap b d)(e:ow d 0 xs=some j):Nw A s vs b j:=by
 obtain⟨k,x,rfl,hx,h1,h2,h3⟩:=AO e;rw[Nat.zero_add];have hv:∀m,m<vs.length->∃y,xs[m]?=some y:=λ m hm=>⟨_,List.getElem?_eq_getElem (q4.1▸hm)⟩;have hk:k<vs.length:=q4.1▸(List.getElem?_eq_some_iff.mp hx).1;refine⟨λ m=>(xs[m]?).elim false λ y=>PyData.eqv y d,by rw[List.size_toArray];exact hk,by rw[hx];exact h1,λ m hm=>?_,λ m hm hle=>?_⟩
 ·obtain⟨y,hy⟩:=hv m (Nat.lt_trans hm hk);rw[hy];exact h3 m y hy hm
 ·rw[List.size_toArray] at hm;obtain⟨y,hy⟩:=hv m hm;rw[hy];exact yk (q4.2 m _ y (List.getElem?_eq_getElem hm) hy) rb (by rw[Around.in1_units];exact hA.vY (m:=1) (h2 m y hy hle) (by decide))
theorem yt(hj:j<vs.toArray.size)(q3:vs.length<=iH):(j:Int)<2 ^ 63-1:=by
 rw[List.size_toArray] at hj;exact Int.lt_of_lt_of_le (Int.ofNat_lt.mpr (Nat.lt_of_lt_of_le hj q3)) (by decide)
theorem AP{xs:List PyData}(hA:cZ A k)(S:SR prog w hB C J H U s.heap)(ra:VR w J H U s.heap a (.d (.list xs)))(rb:VR w J H U s.heap b (.d d))(e:ow d 0 xs=some j)
  (h:∀v t,VR w J H U s.heap v (.d (.int j))->Q v { s with toks:=t }):wpAny (model prog w) A (call (.builtin "list.index") [a,b]) Q E s:=by
 obtain⟨l,vs,n,rfl,q1,q2,q3,q4⟩:=RD.bJ ra;obtain⟨f,hj,h1,h2,h3⟩:=D0 hA q4 rb e;exact call_meets F.slot_list_index ⟨_,q1,rfl⟩ F.entry_list_index (F.args_list_index_2 _ _) (list_indexAt l vs.toArray n b f j hj (yt hj q3) h1 h2) ⟨q1,h3,h _ _ (RD.int _ _)⟩
theorem u9{i:Int}:∀{is:List Int} {vs:List Value} {X:Addr->Prop},aE (RD X h) vs (is.map .int)->vs.countP (Value.isInt i)=is.count i:=by
 intro is
 induction is with
 |nil=>
  intro vs X r;rw[r.cM];rfl
 |cons j is ih=>
  intro vs X r;obtain⟨v,ws,rfl,h1,h2⟩:=r.cons_right;cases h1;rw[List.countP_cons,List.count_cons,ih h2];rfl
theorem zJ{c:PyData}(S:SR prog w hB C J H U s.heap)(ra:VR w J H U s.heap a (.d c))(rb:VR w J H U s.heap b (.d d))(e:u7 d c=some n)
  (h:∀v t,VR w J H U s.heap v (.d (.int n))->Q v { s with toks:=t }):wpAny (model prog w) A (call (.builtin "list.count") [a,b]) Q E s:=by
 cases d with
 |int i=>
  cases c with
  |list xs=>
   obtain⟨is,e1,rfl⟩:=Option.map_eq_some_iff.mp e;obtain⟨l,vs,m,rfl,q1,q2,q3,q4⟩:=RD.bJ ra;obtain⟨t,rfl⟩:=aT rb;rw[lZ e1] at q4;refine call_meets F.slot_list_count ⟨_,q1,rfl⟩ F.entry_list_count (F.args_list_count_2 _ _) (MeetsSeq.list_count l vs.toArray m (.int i t) (Value.isInt i) (λ y hy=>?_)) ⟨q1,?_⟩
   ·obtain⟨k,hk⟩:=List.mem_iff_getElem?.mp (List.mem_toArray.mp hy);obtain⟨d,hd,hr⟩:=q4.K2 hk;rw[List.getElem?_map] at hd;obtain⟨j,_,rfl⟩:=Option.map_eq_some_iff.mp hd;cases hr;exact MeetsSeq.EqGives.int _ _ _ _
   ·rw[show vs.toArray.toList=vs from rfl,u9 q4];exact h _ _ (RD.int _ _)
  |_=>first | exact no e | exact bt e | cases e
 |_=>first | exact no e | exact bt e | cases e
end
end
section
open PySem PyProof.Rows
variable{X:Addr->Prop}{c:Addr}{d:PyData}{ds:List PyData}{e:Addr}{i kk:Nat}{l:Addr}{n:Nat}{t:Expr}{ts:List Expr}
section
variable{J J':Addr->Prop}{A:Around}{env:Env}
variable{H aB:bB}{U aj:ae}{s:Shared}{h h':Heap}{a b v:Value}{x y r:V}{k:Nat}
theorem Mv.eu(hJ:∀b,J' b->J b\/h.get? b=Option.none)(hk:∀b o,¬J b->h.get? b=some o->h'.get? b=some o):Mv J H U h J' H U h':=
 ⟨λ b o hb ho=>hk b o (λ q=>hb (.inl q)) ho,λ b o hb ho q=>q.elim (λ q=>(hJ b q).elim (λ q=>hb (.inl q)) λ q=>by cases ho.symm.trans q) λ q=>hb (.inr q),λ l hl=>⟨rfl,hl⟩⟩
theorem Mv.bT(hk:∀b o,¬J b->h.get? b=some o->h'.get? b=some o):Mv J H U h J H U h':=.eu (λ _ q=>.inl q) hk
theorem RD.bT(r:RD (Ex J H U) h v d)(hk:∀b o,¬J b->h.get? b=some o->h'.get? b=some o):RD (Ex J H U) h' v d:=r.mv (.bT hk)
theorem VR.bT(r:VR w J H U h v x)(hk:∀b o,¬J b->h.get? b=some o->h'.get? b=some o):VR w J H U h' v x:=r.mv (.bT hk)
theorem RD.eu(r:RD (Ex J H U) h v d)(hJ:∀b,J' b->J b\/h.get? b=Option.none)(hk:∀b o,¬J b->h.get? b=some o->h'.get? b=some o):RD (Ex J' H U) h' v d:=r.mv (.eu hJ hk)
theorem VR.eu(r:VR w J H U h v x)(hJ:∀b,J' b->J b\/h.get? b=Option.none)(hk:∀b o,¬J b->h.get? b=some o->h'.get? b=some o):VR w J' H U h' v x:=r.mv (.eu hJ hk)
theorem SR.eu(S:SR prog w hB C J H U h)(hJ:∀b,J' b->J b\/h.get? b=Option.none)(hk:∀b o,¬J b->h.get? b=some o->h'.get? b=some o)(hj:∀b,J' b->∃o,h'.get? b=some o):SR prog w hB C J' H U h':=by
 refine⟨λ b o q=>hk b o (λ x=>by cases(S.jo b x).2.1.symm.trans q) (S.keep b o q),λ l n q=>(S.node l n q).mv (.eu hJ hk) (λ hl o ho=>hk _ o (λ x=>(S.jo _ x).1 (Own.of q hl).1) ho) (λ hl o ho=>hk _ o (λ x=>(S.jo _ x).1 (Own.of q hl).2) ho),S.inj,S.off,S.two,λ b hb=>⟨λ q=>?_,?_,hj b hb⟩⟩
 ·exact(hJ b hb).elim (λ x=>(S.jo b x).1 q) λ x=>(S.fresh x) (.inr q)
 ·rcases hJ b hb with x | x
  ·exact(S.jo b x).2.1
  ·cases e:hB.get? b with
   |none=>rfl
   |some o=>exact by cases(S.keep b o e).symm.trans x
theorem SR.bT(S:SR prog w hB C J H U h)(hk:∀b o,¬J b->h.get? b=some o->h'.get? b=some o)(hj:∀b,J b->∃o,h'.get? b=some o):SR prog w hB C J H U h':=S.eu (λ _ q=>.inl q) hk hj
structure gx(prog:Program)(w:World)(hB:Heap)(C:Addr)(A:Around)(t:Expr)(I:Addr)(wr fp:List Addr)(rs:List (Value×PyData))(ds:List PyData)(St:Nat->Heap->Prop):Prop where
 sub:∀b∈wr,b∈fp
 vo:∀b∈fp,b∈wr\/∃d,(Value.ref b,d)∈rs
 frame:∀i h h',St i h->(∀b∈fp,∀o,h.get? b=some o->h'.get? b=some o)->St i h'
 step:∀(J:Addr->Prop) (H:bB) (U:ae) (s:Shared) (i:Nat) (d:PyData),SR prog w hB C J H U s.heap->(∀p∈rs,RD (Ex J H U) s.heap p.1 p.2)->(∀b∈wr,J b)->ds[i]?=some d->St i s.heap->
  ∀(Q:Value->Shared->Prop) (E:Value->Shared->Prop),
   (∀v h' tk,(∀b o,b∉wr->s.heap.get? b=some o->h'.get? b=some o)->(∀b∈wr,∃o,h'.get? b=some o)->St (i+1) h'->RD (Ex J H U) h' v d->Q v { s with heap:=h',toks:=tk })->
   wpAny (model prog w) A (pyNext (.ref I)) (λ r s₁=>∃v,r=some v/\wpAny (model prog w) A (letOwnedTupleGo t (.ref I) v) (λ _ s₂=>Q v s₂) E s₁) E s
 done:∀(s:Shared),St ds.length s.heap->∀(Q:Option Value->Shared->Prop) (E:Value->Shared->Prop),
   (∀h' tk,(∀b o,b∉wr->s.heap.get? b=some o->h'.get? b=some o)->Q none { s with heap:=h',toks:=tk })->wpAny (model prog w) A (pyNext (.ref I)) Q E s
 self:∀(s:Shared) i (Q:Value->Shared->Prop) (E:Value->Shared->Prop),St i s.heap->Q (.ref I) s->wpAny (model prog w) A (pyIter (.ref I)) Q E s
inductive eY:Expr->Prop
 |name (x:Str) (p:Pos):eY (.Name x p)
 |tup (ts:List Expr) (k:Nat) (p:Pos):eY (.Tuple ts k p)
theorem Bl{I:Addr}{v:Value}{o:Obj}{T:String}{vs:Array Value}{Q:Unit->Shared->Prop}{E:Value->Shared->Prop}(ht:eY t)(ho:s.heap.get? I=some o)(hc:o.cls=.type T)(hd:o.data=.fields vs)
  (hT:["enumerate","zip","dict_itemiterator","dict_reverseitemiterator","odict_iterator","itertools.zip_longest","itertools.pairwise"].contains T=false) (h:Q () s) :
  wpAny (model prog w) A (letOwnedTupleGo t (.ref I) v) Q E s:=by
 cases ht with
 |name x p=>exact wpAny_pure h
 |tup ts k p=>
  unfold letOwnedTupleGo;cases v with
  |ref a=>
   refine wpAny_bind (wpAny_load ho ?_);rw[hc,hd];show wpAny _ A (if(["enumerate","zip","dict_itemiterator","dict_reverseitemiterator","odict_iterator","itertools.zip_longest","itertools.pairwise"].contains T && vs[0]? == some (rawInt a))=true then _ else _) Q E s;rw[hT];exact wpAny_pure h
  |_=>exact wpAny_pure h
theorem mT{xs:List Value}(hl:h.get? l=some (bo xs n))(r:RD X h (.ref l) (.list ds))(hd:ds[i]?=some d):∃v,xs.toArray[i]?=some v/\RD X h v d:=by
 obtain⟨l',Jg,n',e,q1,q2,q3,q4⟩:=RD.bJ r;cases e;cases hl.symm.trans q1;obtain⟨v,hv,rv⟩:=q4.get hd;exact⟨v,List.getElem?_toArray.trans hv,rv⟩
theorem zi{xs:List Value}(hl:h.get? l=some (eX xs n))(r:RD X h (.ref l) (.tuple ds))(hd:ds[i]?=some d):∃v,xs.toArray[i]?=some v/\RD X h v d:=by
 obtain⟨l',Jg,n',e,q1,q2,q3,q4⟩:=RD.bR r;cases e;cases hl.symm.trans q1;obtain⟨v,hv,rv⟩:=q4.get hd;exact⟨v,List.getElem?_toArray.trans hv,rv⟩
theorem Dl(hd:(ds.zipIdx.map fun(p:PyData×Nat)=>PyData.tuple [.int p.2,p.1])[i]?=some d):∃d1,ds[i]?=some d1/\PyData.tuple [.int (i:Nat),d1]=d:=by
 rw[List.getElem?_map,List.getElem?_zipIdx,Option.map_map,Nat.zero_add] at hd;exact Option.map_eq_some_iff.mp hd
theorem iQ{xs:List Value}(h:xs.length=n):xs.toArray[n]?=none:=List.getElem?_toArray.trans (List.getElem?_eq_none (Nat.le_of_eq h))
theorem gx.list(ht:eY t)(hh:A.handled=none)(I l:Addr)(jj:l≠I)(vs:List Value)(ds:List PyData) :
  gx prog w hB C A t I [I] [I,l] [(.ref l,.list ds)] ds (λ i h=>h.IsListIter I l i/\∃n,h.get? l=some (bo vs n)/\vs.length=ds.length) where
 sub:=λ b hb=>List.mem_singleton.mp hb▸.head _
 vo:=λ b hb=>by
  cases hb with
  |head=>exact .inl (.head _)
  |tail _ hb=>obtain rfl:=List.mem_singleton.mp hb;exact .inr ⟨_,.head _⟩
 frame:=λ i h h' st hk=>⟨st.1.at λ o e=>hk I (.head _) o e,st.2.elim λ n q=>⟨n,hk l (.tail _ (.head _)) _ q.1,q.2⟩⟩
 step:=λ J H U s i d S hr hw hd st Q E hQ=>by
  refine bC λ k9=>?_;obtain⟨hit,n,hl,aZ⟩:=st;obtain⟨v,hv,rv⟩:=mT hl (hr (.ref l,.list ds) (.head _)) hd;refine k9 ?_;refine wpAny_pyNext_list_item hit (IsList.of hl) (x:=v) hv λ h' ke kX=>⟨v,rfl,?_⟩;refine bC λ k9=>?_;obtain⟨o,ho,hc,HO⟩:=id ke;refine k9 ?_;refine Bl ht ho hc HO (by decide) (hQ v h' s.toks (λ b o hb e=>kX.extBut b o (λ q=>hb (q▸.head _)) e) (λ b hb=>?_) ⟨ke,n,kX.extBut l _ jj hl,aZ⟩ ?_)
  ·exact⟨o,List.mem_singleton.mp hb▸ho⟩
  ·exact RD.bT rv λ b o hb e=>kX.extBut b o (λ q=>hb (q▸hw I (.head _))) e
 done:=λ s st Q E hQ=>by
  obtain⟨hit,n,hl,aZ⟩:=st;exact wpAny_pyNext_list_end hh hit (IsList.of hl) (iQ aZ) λ h' CE=>hQ h' s.toks λ b o hb e=>CE b o (λ q=>hb (q▸.head _)) e
 self:=λ s i Q E st hQ=>wpAny_pyIter_listiter st.1 hQ
theorem gx.tuple(ht:eY t)(hh:A.handled=none)(I l:Addr)(jj:l≠I)(vs:List Value)(ds:List PyData) :
  gx prog w hB C A t I [I] [I,l] [(.ref l,.tuple ds)] ds (λ i h=>h.IsTupleIter I l i/\∃n,h.get? l=some (eX vs n)/\vs.length=ds.length) where
 sub:=λ b hb=>List.mem_singleton.mp hb▸.head _
 vo:=λ b hb=>by
  cases hb with
  |head=>exact .inl (.head _)
  |tail _ hb=>obtain rfl:=List.mem_singleton.mp hb;exact .inr ⟨_,.head _⟩
 frame:=λ i h h' st hk=>⟨st.1.at λ o e=>hk I (.head _) o e,st.2.elim λ n q=>⟨n,hk l (.tail _ (.head _)) _ q.1,q.2⟩⟩
 step:=λ J H U s i d S hr hw hd st Q E hQ=>by
  refine bC λ k9=>?_;obtain⟨hit,n,hl,aZ⟩:=st;obtain⟨v,hv,rv⟩:=zi hl (hr (.ref l,.tuple ds) (.head _)) hd;refine k9 ?_;refine wpAny_pyNext_tuple_item hit (IsTup.of hl) (x:=v) hv λ h' ke kX=>⟨v,rfl,?_⟩;refine bC λ k9=>?_;obtain⟨o,ho,hc,HO⟩:=id ke;refine k9 ?_;refine Bl ht ho hc HO (by decide) (hQ v h' s.toks (λ b o hb e=>kX.extBut b o (λ q=>hb (q▸.head _)) e) (λ b hb=>?_) ⟨ke,n,kX.extBut l _ jj hl,aZ⟩ ?_)
  ·exact⟨o,List.mem_singleton.mp hb▸ho⟩
  ·exact RD.bT rv λ b o hb e=>kX.extBut b o (λ q=>hb (q▸hw I (.head _))) e
 done:=λ s st Q E hQ=>by
  obtain⟨hit,n,hl,aZ⟩:=st;exact wpAny_pyNext_tuple_end hh hit (IsTup.of hl) (iQ aZ) λ h' CE=>hQ h' s.toks λ b o hb e=>CE b o (λ q=>hb (q▸.head _)) e
 self:=λ s i Q E st hQ=>wpAny_pyIter_tupleiter st.1 hQ
inductive Nt(e it l:Addr)(vs:List Value)(ds:List PyData)(i:Nat)(h:Heap):Prop
 |mk (old:Value) (n:Nat) (h1:IsEnum h e it i old) (h2:h.IsListIter it l i) (h3:h.get? l=some (bo vs n)) (h4:vs.length=ds.length)
theorem gx.enum{p:Pos}(hh:A.handled=none)(e it l:Addr)(QG:e≠it)(hle:l≠e)(QS:l≠it)(vs:List Value)(ds:List PyData) :
  gx prog w hB C A (.Tuple ts kk p) e [e,it] [e,it,l] [(.ref l,.list ds)] (ds.zipIdx.map fun(p:PyData×Nat)=>PyData.tuple [.int p.2,p.1])
   (Nt e it l vs ds) where
 sub:=λ b hb=>by
  cases hb with
  |head=>exact .head _
  |tail _ hb=>exact List.mem_singleton.mp hb▸.tail _ (.head _)
 vo:=λ b hb=>by
  cases hb with
  |head=>exact .inl (.head _)
  |tail _ hb=>
   cases hb with
   |head=>exact .inl (.tail _ (.head _))
   |tail _ hb=>obtain rfl:=List.mem_singleton.mp hb;exact .inr ⟨_,.head _⟩
 frame:=λ i h h' ⟨old,n,h1,h2,h3,h4⟩ hk=>⟨old,n,hk e (.head _) _ h1,h2.at λ o q=>hk it (.tail _ (.head _)) o q,hk l (.tail _ (.tail _ (.head _))) _ h3,h4⟩
 step:=λ J H U s i d S hr hw hd st Q E hQ=>by
  refine bC λ k9=>?_;obtain⟨old,n,he,hit,hl,aZ⟩:=st;obtain⟨d1,Tj,Tp⟩:=Dl hd;obtain⟨v,hv,rv⟩:=mT hl (hr (.ref l,.list ds) (.head _)) Tj;refine k9 ?_;have Oi:e<s.heap.objs.size:=Heap.lt_size he;refine wpAny_pyNext_enum_item he hit (IsList.of hl) (x:=v) hv QG λ h' ho ke hT hsz hk=>⟨_,rfl,?_⟩;refine wpAny_letOwnedTupleGo_enum ho λ mZ CE kX=>?_;have kk:∀b o,b∉[e,it]->s.heap.get? b=some o->mZ.get? b=some o:=λ b o hb q=>by
   have h1:b≠e:=λ q=>hb (q▸.head _);exact(kX.2 b h1).trans (hk b o h1 (λ q=>hb (q▸.tail _ (.head _))) q)
  have Lk:mZ.IsListIter it l (i+1):=ke.at λ o y=>(kX.2 it QG.symm).trans y;refine hQ _ mZ _ kk (λ b hb=>?_) ⟨_,n,CE,Lk,kk l _ (λ q=>(List.mem_cons.mp q).elim hle λ q=>QS (List.mem_singleton.mp q)) hl,aZ⟩ ?_
  ·rcases List.mem_cons.mp hb with rfl | hb
   ·exact⟨_,CE⟩
   ·obtain rfl:=List.mem_singleton.mp hb;obtain⟨o,ho,_⟩:=Lk;exact⟨o,ho⟩
  ·have SS:mZ.get? s.heap.objs.size=some (eX [.int (i:Int) s.toks,v] 0):=(kX.2 _ (Nat.ne_of_gt Oi)).trans hT;have yJ:RD (Ex J H U) mZ v d1:=RD.bT rv λ b o hb q=>kk b o (λ x=>hb (hw b x)) q;exact Tp▸RD.pd SS (S.fresh (aY _)) (by show 2<=iH;decide) (aE.cons (RD.int _ _) (aE.cons yJ aE.nil))
 done:=λ s st Q E hQ=>by
  refine bC λ k9=>?_;obtain⟨old,n,he,hit,hl,aZ⟩:=st;refine k9 ?_;refine wpAny_pyNext_enum_end hh he hit (IsList.of hl) (iQ (aZ.trans ((List.length_map _).trans List.length_zipIdx).symm)) λ h' hx=>hQ h' s.toks λ b o hb y=>hx b o (λ q=>hb (q▸.tail _ (.head _))) y
 self:=λ s i Q E st hQ=>by
  obtain⟨old,n,he,_⟩:=st;exact wpAny_pyIter_enum he hQ
theorem gx.range(ht:eY t)(hh:A.handled=none)(I:Addr)(a:Int)(n:Nat) :
  gx prog w hB C A t I [I] [I] [] ((List.range n).map fun(i:Nat)=>PyData.int (a+i)) (λ i h=>IsRangeIter h I (a+(i:Nat)*1) ((n:Int)-(i:Nat)) 1) where
 sub:=λ b hb=>hb
 vo:=λ b hb=>.inl hb
 frame:=λ i h h' st hk=>hk I (.head _) _ st
 step:=λ J H U s i d S hr hw hd st Q E hQ=>by
  have hi:i<n:=Nat.lt_of_lt_of_eq ((List.getElem?_eq_some_iff.mp hd).1) ((List.length_map _).trans List.length_range);have CD:PyData.int (a+i)=d:=by rw[List.getElem?_map,List.getElem?_range hi] at hd;exact Option.some.inj hd
  refine wpAny_pyNext_range_item st (Int.sub_pos_of_lt (Int.ofNat_lt.2 hi)) λ h' ke kX=>⟨_,rfl,?_⟩;refine Bl ht ke rfl rfl (by decide) (hQ _ h' _ (λ b o hb e=>kX.extBut b o (λ q=>hb (q▸.head _)) e) (λ b hb=>⟨_,List.mem_singleton.mp hb▸ke⟩) ?_ ?_)
  ·show IsRangeIter h' I (a+((i:Int)+1)*1) ((n:Int)-((i:Int)+1)) 1;rw[Int.mul_one,<-Int.add_assoc,<-Int.sub_sub];rw[Int.mul_one] at ke;exact ke
  ·rw[Int.mul_one];exact CD▸RD.int _ _
 done:=λ s st Q E hQ=>by
  rw[List.length_map,List.length_range] at st;exact wpAny_pyNext_range_end hh st (Int.le_of_eq (Int.sub_self _)) λ h' CE=>hQ h' s.toks λ b o hb e=>CE b o (λ q=>hb (q▸.head _)) e
 self:=λ s i Q E st hQ=>wpAny_pyIter_rangeiter st hQ
theorem Ma{a b d:Addr}(h1:l≠a)(h2:l≠b)(h3:l≠c)(h4:l≠d)(h5:l≠e):l∉[a,b,c,d,e]:=λ q=>
 (List.mem_cons.1 q).elim h1 λ q=>(List.mem_cons.1 q).elim h2 λ q=>(List.mem_cons.1 q).elim h3 λ q=>(List.mem_cons.1 q).elim h4 λ q=>h5 (List.mem_singleton.1 q)
theorem Ke{P:Addr->Prop}{a b d:Addr}(h1:P a)(h2:P b)(h3:P c)(h4:P d)(h5:P e):∀x∈[a,b,c,d,e],P x:=λ x q=>
 (List.mem_cons.1 q).elim (·▸h1) λ q=>(List.mem_cons.1 q).elim (·▸h2) λ q=>(List.mem_cons.1 q).elim (·▸h3) λ q=>(List.mem_cons.1 q).elim (·▸h4) λ q=>List.mem_singleton.1 q▸h5
structure Sf(l a b c d e:Addr):Prop where
 a:l≠a
 b:l≠b
 c:l≠c
 d:l≠d
 e:l≠e
theorem ne5{a b d:Addr}(h:l∉[a,b,c,d,e]):Sf l a b c d e:=⟨λ q=>h (q▸.head _),λ q=>h (q▸.tail _ (.head _)),λ q=>h (q▸.tail _ (.tail _ (.head _))),λ q=>h (q▸.tail _ (.tail _ (.tail _ (.head _)))),λ q=>h (q▸.tail _ (.tail _ (.tail _ (.tail _ (.head _)))))⟩
theorem FC{xs ys:List Value}{a b:Nat}(e1:xs.length=a)(e2:ys.length=b):xs.toArray[min a b]?=none\/ys.toArray[min a b]?=none:=
 (Nat.le_total a b).imp (λ q=>by rw[Nat.min_eq_left q];exact iQ e1) λ q=>by rw[Nat.min_eq_right q];exact iQ e2
inductive NP(z TI TO i1 i2 l1 l2:Addr)(xs ys:List Value)(ds es:List PyData)(i:Nat)(h:Heap):Prop
 |mk (a b:Value) (m1 m2:Nat) (h0:IsZip h z TI TO .none) (h1:IsPair h TI (.ref i1) (.ref i2)) (h2:IsPair h TO a b) (h3:h.IsListIter i1 l1 i) (h4:h.IsListIter i2 l2 i) (h5:h.get? l1=some (bo xs m1)) (h6:h.get? l2=some (bo ys m2)) (h7:xs.length=ds.length) (h8:ys.length=es.length)
theorem gx.zip{p:Pos}(hh:A.handled=none)(z TI TO i1 i2 l1 l2:Addr)(D:ZipApart z TI TO i1 i2 l1 l2)(xs ys:List Value)(ds es:List PyData)(n1:l1≠TI)(n2:l2≠TI) :
  gx prog w hB C A (.Tuple ts kk p) z [z,TI,TO,i1,i2] [z,TI,TO,i1,i2,l1,l2] [(.ref l1,.list ds),(.ref l2,.list es)] ((ds.zip es).map fun(p:PyData×PyData)=>PyData.tuple [p.1,p.2])
   (NP z TI TO i1 i2 l1 l2 xs ys ds es) where
 sub:=λ b hb=>List.mem_append_left [l1,l2] hb
 vo:=λ b hb=>by
  refine(List.mem_append (s:=[z,TI,TO,i1,i2]).1 hb).imp id λ q=>?_;rcases List.mem_cons.1 q with rfl | q
  ·exact⟨_,.head _⟩
  ·cases List.mem_singleton.1 q;exact⟨_,.tail _ (.head _)⟩
 frame:=λ i h h' ⟨a,b,m1,m2,h0,h1,h2,h3,h4,h5,h6,h7,h8⟩ hk=>⟨a,b,m1,m2,hk z (.head _) _ h0,hk TI (.tail _ (.head _)) _ h1,hk TO (.tail _ (.tail _ (.head _))) _ h2,h3.at λ o e=>hk i1 (.tail _ (.tail _ (.tail _ (.head _)))) o e,h4.at λ o e=>hk i2 (.tail _ (.tail _ (.tail _ (.tail _ (.head _))))) o e,hk l1 (List.mem_append_right [z,TI,TO,i1,i2] (.head _)) _ h5,hk l2 (List.mem_append_right [z,TI,TO,i1,i2] (.tail _ (.head _))) _ h6,h7,h8⟩
 step:=λ J H U s i d S hr hw hd st Q E hQ=>by
  refine bC λ k9=>?_;obtain⟨a,b,m1,m2,hz,HK,Jq,h1,h2,yX,Ga,e1,e2⟩:=st;rw[List.getElem?_map] at hd;obtain⟨dd,QE,rfl⟩:=Option.map_eq_some_iff.mp hd;have QF:=List.getElem?_zip_eq_some.mp QE;obtain⟨v1,Ud,Pp⟩:=mT yX (hr (.ref l1,.list ds) (.head _)) QF.1;obtain⟨v2,Ue,Pq⟩:=mT Ga (hr (.ref l2,.list es) (.tail _ (.head _))) QF.2;refine k9 (wpAny_pyNext_zip_item D hz HK Jq h1 h2 (IsList.of yX) (IsList.of Ga) Ud Ue λ h' a1 a2 a3 a4 a5 a6 hk=>⟨_,rfl,wpAny_letOwnedTupleGo_zip a1 λ mZ Nc kX=>?_⟩);have kk:∀b o,b∉[z,TI,TO,i1,i2]->s.heap.get? b=some o->mZ.get? b=some o:=λ b o hb q=>kX.extBut b o (ne5 hb).a (hk b o (ne5 hb).a (ne5 hb).c (ne5 hb).d (ne5 hb).e q);have Qj:IsPair mZ TI (.ref i1) (.ref i2):=kX.extBut _ _ D.TIz (hk _ _ D.TIz D.TITO D.TIi1 D.TIi2 HK);have Qk:IsPair mZ TO v1 v2:=kX.extBut _ _ D.TOz a2;have g1:=a3.extBut kX.extBut D.i1z;have g2:=a4.extBut kX.extBut D.i2z;exact hQ _ mZ _ kk (Ke ⟨_,Nc⟩ ⟨_,Qj⟩ ⟨_,Qk⟩ (g1.imp λ _ q=>q.1) (g2.imp λ _ q=>q.1)) ⟨_,_,m1,m2,Nc,Qj,Qk,g1,g2,kk l1 _ (Ma D.l1z n1 D.l1TO D.l1i1 D.l1i2) yX,kk l2 _ (Ma D.l2z n2 D.l2TO D.l2i1 D.l2i2) Ga,e1,e2⟩
   (RD.pd (kX.extBut _ _ (Nat.ne_of_gt (Heap.lt_size hz)) a5) (S.fresh (aY _)) (by show 2<=iH;decide) (aE.cons (RD.bT Pp λ b o hb q=>kk b o (λ x=>hb (hw b x)) q) (aE.cons (RD.bT Pq λ b o hb q=>kk b o (λ x=>hb (hw b x)) q) aE.nil)))
 done:=λ s st Q E hQ=>by
  obtain⟨a,b,m1,m2,hz,HK,Jq,h1,h2,yX,Ga,e1,e2⟩:=st;rw[List.length_map,List.length_zip] at h1 h2;exact wpAny_pyNext_zip_end hh D hz HK Jq h1 h2 (IsList.of yX) (IsList.of Ga) (FC e1 e2) λ h' hk=>hQ h' s.toks λ c o hc e=>hk c o (ne5 hc).a (ne5 hc).c (ne5 hc).d (ne5 hc).e e
 self:=λ s i Q E st hQ=>by
  obtain⟨_,_,_,_,hz⟩:=st;exact wpAny_pyIter_zip hz hQ
end
end
section
open PySem PyProof.Rows
variable{xn:Str}
section
variable{J J':Addr->Prop}{A:Around}{env:Env}
variable{H aB:bB}{U aj:ae}{s:Shared}{h h':Heap}{a b v:Value}{x y r:V}{k:Nat}
variable{m cm:Str->Option Value}{O aC:ak}
theorem yh{it l:Addr}{items:Array Value}{E:Value->Shared->Prop}(jj:l≠it):∀(n i:Nat) (s:Shared) (Q:List Value->Shared->Prop),s.heap.IsListIter it l i->s.heap.IsList l items->i+n<=items.size->
  (∀h',h'.IsListIter it l (i+n)->Heap.SameBut it s.heap h'->Q ((items.toList.drop i).take n) { s with heap:=h' })->wpAny (model prog w) A (draw (.ref it) n) Q E s:=by
 intro n
 induction n with
 |zero=>
  intro i s Q hit _ _ hQ;exact wpAny_pure (by simpa using hQ s.heap hit (Heap.SameBut.refl ..))
 |succ n ih=>
  intro i s Q hit ht hle hQ;have cz:i<items.size:=by lia
  refine wpAny_bind (wpAny_pyNext_list_item hit ht (x:=items[i]) (by simp[cz]) λ tG vx tE=>?_);refine wpAny_bind (wpAny_holding (ih (i+1) _ _ vx (ht.extBut tE.extBut jj) (by lia) λ h₂ HQ LB=>wpAny_pure ?_));have hd:items.toList.drop i=items[i]::items.toList.drop (i+1):=by simp[List.drop_eq_getElem_cons,cz]
  have:=hQ h₂ (by rw[show i+(n+1)=i+1+n by lia];exact HQ) (tE.trans LB);rw[hd,List.take_succ_cons] at this;exact this
end
section
namespace cU
noncomputable section
def P(A:Around)(s:Shared)(l:Addr)(items:Array Value)(Q:List Value->Shared->Prop)(E:Value->Shared->Prop):Prop:=∀(hh:A.handled=none) (ht:s.heap.IsList l items) (hQ:∀h',Heap.ExtBut s.heap.objs.size s.heap h'->Q items.toList { s with heap:=h' }),wpAny (model prog w) A (unpackItems (.ref l) items.size none) Q E s
def xe:(Around)×(Shared)×(Addr)×(Array Value)×(List Value->Shared->Prop)×(Value->Shared->Prop):=@Classical.epsilon _ ⟨({},{},default,default,default,default)⟩ λ x=>¬P x.1 x.2.1 x.2.2.1 x.2.2.2.1 x.2.2.2.2.1 x.2.2.2.2.2
def A:Around:=xe.1
def s:Shared:=xe.2.1
def l:Addr:=xe.2.2.1
def items:Array Value:=xe.2.2.2.1
def Q:List Value->Shared->Prop:=xe.2.2.2.2.1
def E:Value->Shared->Prop:=xe.2.2.2.2.2
theorem core:P A s l items Q E:=λ hh ht hQ=>by
 have cz:l≠s.heap.objs.size:=by obtain⟨o,ho,_⟩:=ht;exact Nat.ne_of_lt (Heap.lt_size ho)
 unfold unpackItems;refine wpAny_bind ?_;unfold notIterableAtAll;refine wpAny_bind (wpAny_specialOf ht.typeIs slot_list_iter.lookup ?_);refine wpAny_pure ?_;refine wpAny_bind (wpAny_holding (wpAny_pyIter_list ht ?_));refine wpAny_bind (wpAny_holding (yh cz items.size 0 _ _ ⟨_,Heap.get?_push_size _ rfl,rfl,rfl⟩ (ht.push _) (by lia) λ tG vx tE=>?_));have oh:List.take items.size (List.drop 0 items.toList)=items.toList:=by
  rw[List.drop_zero];exact List.take_of_length_le (by simp)
 rw[oh];rw[if_neg (by simp)];have LD:tG.IsList l items:=(ht.push _).extBut tE.extBut cz;refine wpAny_bind (wpAny_holding (wpAny_pyNext_list_end hh vx LD (by simp) λ h₂ Le=>?_));exact wpAny_pure (hQ h₂ λ b o hb e=>Le b o hb (tE.extBut b o hb (Heap.get?_push_of_some _ e)))
end
end cU
variable{J J':Addr->Prop}{A:Around}{env:Env}
variable{H aB:bB}{U aj:ae}{s:Shared}{h h':Heap}{a b v:Value}{x y r:V}{k:Nat}
variable{m cm:Str->Option Value}{O aC:ak}
theorem mj{A:Around}{s:Shared}{l:Addr}{items:Array Value}{Q:List Value->Shared->Prop}{E:Value->Shared->Prop}:cU.P A s l items Q E:=aU (Q:=λ x:(Around)×(Shared)×(Addr)×(Array Value)×(List Value->Shared->Prop)×(Value->Shared->Prop)=>cU.P x.1 x.2.1 x.2.2.1 x.2.2.2.1 x.2.2.2.2.1 x.2.2.2.2.2) cU.core (A,s,l,items,Q,E)
theorem pg{d:PyData}{xs:List PyData}{Q:List Value->Shared->Prop}{E:Value->Shared->Prop}(hA:cZ A k)(rv:RD (Ex J H U) s.heap v d)(e:items? d=some xs)
  (hQ:∀vs h',(∀b o,s.heap.get? b=some o->h'.get? b=some o)->aE (RD (Ex J H U) h') vs xs->Q vs { s with heap:=h' }):wpAny (model prog w) A (unpackItems v xs.length none) Q E s:=by
 have fin:∀(vs:List Value) (h':Heap),Heap.ExtBut s.heap.objs.size s.heap h'->aE (RD (Ex J H U) s.heap) vs xs->Q vs { s with heap:=h' }:=λ vs h' hx q4=>
  hQ vs h' (λ b o ho=>hx b o (Nat.ne_of_lt (Heap.lt_size ho)) ho) (q4.mono λ v x r=>r.keeps (λ b o _ ho=>hx b o (Nat.ne_of_lt (Heap.lt_size ho)) ho) λ _ _ hb _=>hb)
 cases d with
 |list ys=>
  cases e;obtain⟨l,vs,n,rfl,q1,q2,q3,q4⟩:=RD.bJ rv;rw[<-q4.1];exact mj (Q:=Q) (E:=E) hA.handled (IsList.of q1) λ h' hx=>fin vs h' hx q4
 |tuple ys=>
  cases e;obtain⟨l,vs,n,rfl,q1,q2,q3,q4⟩:=RD.bR rv;rw[<-q4.1];exact wpAny_unpackItems_tuple (prog:=prog) (w:=w) (Q:=Q) (E:=E) hA.handled (IsTup.of q1) λ h' hx=>fin vs h' hx q4
 |_=>first | exact no e | exact bt e | cases e
noncomputable def bE(env:Env)(x:Str):Prop:=env.kindOf x=some .local\/env.kindOf x=some .cell
noncomputable def WN(env:Env)(x:Str)(b:Addr):Prop:=b=env.locals\/(env.kindOf x=some .cell/\env.cells.lookup x=some b)
theorem FR.bx(F:FR J env m cm h)(hk:∀b o,h.get? b=some o->h'.get? b=some o):FR J env m cm h':=
 ⟨F.ns.keeps hk,F.jL,λ n c hc=>⟨(F.cell n c hc).1.keeps hk,(F.cell n c hc).2⟩,F.apart,F.has⟩
theorem ER.bx(R:ER w J H U env m cm h O)(hk:∀b o,h.get? b=some o->h'.get? b=some o):ER w J H U env m cm h' O:=R.aH (bZ.bx hk)
theorem ER.store{m' cm':Str->Option Value}(R:ER w J H U env m cm h O)(hv:∀y,y≠xn->val env m' cm' y=val env m cm y)(hx:val env m' cm' xn=some v)(rv:VR w J H U h v x)
  (hk:∀b o,¬J b->h.get? b=some o->h'.get? b=some o):ER w J H U env m' cm' h' (upd O xn x):=λ y v' hy hm=>by
 refine Classical.byCases (p:=y=xn) (λ e=>?_) (λ e=>?_)
 ·subst e;cases(lu O y x).symm.trans hy;exact⟨v,hx,rv.bT hk⟩
 ·obtain⟨u,h1,h2⟩:=R y v' ((sH e).symm.trans hy) hm;exact⟨u,(hv y e).trans h1,h2.bT hk⟩
theorem lr{Q:Unit->Shared->Prop}{E:Value->Shared->Prop}(hE:aN env)(hk:bE env xn)(F:FR J env m cm s.heap)(R:ER w J H U env m cm s.heap O)(S:SR prog w hB C J H U s.heap)(rv:VR w J H U s.heap v x)
  (h:∀h' tk m' cm',FR J env m' cm' h'->ER w J H U env m' cm' h' (upd O xn x)->SR prog w hB C J H U h'->(∀b o,¬WN env xn b->s.heap.get? b=some o->h'.get? b=some o)->(∀z,m' z=m z\/z=xn)->(∀z,cm' z=cm z\/(z=xn/\env.kindOf xn=some .cell))->Q () { s with heap:=h',toks:=tk }) :
  wpAny (model prog w) A (storeName env xn v) Q E s:=by
 rcases hk with hl | hl
 ·refine wpAny_storeName_local hl F.ns (λ h' hn hs=>?_) (by rw[hE.kind];rfl);have kp:∀b o,b≠env.locals->s.heap.get? b=some o->h'.get? b=some o:=λ b o hb ho=>hs.extBut b o hb ho;have kj:∀b o,¬J b->s.heap.get? b=some o->h'.get? b=some o:=λ b o hb ho=>kp b o (λ q=>hb (q▸F.jL)) ho;have gL:∃o,h'.get? env.locals=some o:=by obtain⟨o,_,_,ho,_⟩:=hn;exact⟨o,ho⟩
  refine h h' _ _ cm ⟨hn,F.jL,λ n c hc=>?_,F.apart,F.has⟩ (R.store (λ y hy=>?_) ?_ rv kj) (S.bT kj λ b hb=>?_) (λ b o hb ho=>kp b o (λ q=>hb (.inl q)) ho) (λ z=>?_) (λ z=>.inl rfl)
  ·obtain⟨h1,h2,h3⟩:=F.cell n c hc;exact⟨h1.sameBut hs h3,h2,h3⟩
  ·exact congrArg (λ a=>yS a (cm y) (kd env y)) (if_neg hy)
  ·show yS _ _ (kdOf (env.kindOf xn))=_;rw[hl];exact if_pos rfl
  ·by_cases q:b=env.locals
   ·rw[q];exact gL
   ·obtain⟨_,_,o,ho⟩:=S.jo b hb;exact⟨o,kp b o q ho⟩
  ·by_cases q:z=xn
   ·exact .inr q
   ·exact .inl (by exact if_neg ‹_›)
 ·obtain⟨c,hc⟩:=Option.isSome_iff_exists.mp (F.has xn (.inl hl));obtain⟨c1,c2,c3⟩:=F.cell xn c hc;refine wpAny_storeName_cell hE.kind hl hc c1 λ h' hv hs=>?_;have kp:∀b o,b≠c->s.heap.get? b=some o->h'.get? b=some o:=λ b o hb ho=>hs.extBut b o hb ho;have kj:∀b o,¬J b->s.heap.get? b=some o->h'.get? b=some o:=λ b o hb ho=>kp b o (λ q=>hb (q▸c2)) ho;refine h h' s.toks m (λ y=>if y=xn then some v else cm y) ⟨F.ns.sameBut hs (Ne.symm c3),F.jL,λ n c' uH=>?_,F.apart,F.has⟩ (R.store (λ y hy=>?_) ?_ rv kj) (S.bT kj λ b hb=>?_) (λ b o hb ho=>kp b o (λ q=>hb (.inr ⟨hl,q▸hc⟩)) ho) (λ z=>.inl rfl) (λ z=>?_)
  ·obtain⟨h1,h2,h3⟩:=F.cell n c' uH;refine⟨?_,h2,h3⟩;by_cases hn:n=xn
   ·subst hn;rw[hc] at uH;cases uH;simpa using hv
   ·have MY:c'≠c:=λ q=>hn (F.apart n xn c (q▸uH) hc);simpa[hn] using h1.sameBut hs MY
  ·exact congrArg (λ a=>yS (m y) a (kd env y)) (if_neg hy)
  ·show yS _ _ (kdOf (env.kindOf xn))=_;rw[hl];exact if_pos rfl
  ·by_cases q:b=c
   ·rw[q];obtain⟨o,ho,_⟩:=hv;exact⟨o,ho⟩
   ·obtain⟨_,_,o,ho⟩:=S.jo b hb;exact⟨o,kp b o q ho⟩
  ·by_cases q:z=xn
   ·exact .inr ⟨q,hl⟩
   ·exact .inl (by exact if_neg ‹_›)
noncomputable def WT(env:Env)(xs:List Str)(b:Addr):Prop:=b=env.locals\/∃x∈xs,env.kindOf x=some .cell/\env.cells.lookup x=some b
noncomputable def uJ(prog:Program)(w:World)(hB:Heap)(C:Addr)(J:Addr->Prop)(H:bB)(U:ae)(env:Env)(xs:List Str)(aC:ak)(s:Shared)(Q:Unit->Shared->Prop):Prop:=
 ∀h' tk m' cm',FR J env m' cm' h'->ER w J H U env m' cm' h' aC->SR prog w hB C J H U h'->(∀b o,¬WT env xs b->s.heap.get? b=some o->h'.get? b=some o)->Q () { s with heap:=h',toks:=tk }
theorem nK(ts:List Expr):∀(xs:List V) (O aC:ak),d0 ts xs O=some aC->ts.length=xs.length:=by
 induction ts with
 |nil=>
  intro xs O aC e;cases xs with
  |nil=>rfl
  |cons x xs=>exact no e
 |cons t ts ih=>
  intro xs O aC e;cases xs with
  |nil=>exact no e
  |cons x xs=>
   obtain⟨bb,_,e2⟩:=a9 e;exact congrArg Nat.succ (ih xs bb aC e2)
theorem iL{t:Expr}{ts:List Expr}(e1:ba t x O=some aC):assignEach (t::ts) env=(false,assign t env)::assignEach ts env:=by
 cases t<;>first | rfl | exact no e1 | exact bt e1 | cases e1
theorem dh(ts:List Expr):∀(xs:List V) (O aC:ak),d0 ts xs O=some aC->(assignEach ts env).length=ts.length/\(assignEach ts env).findIdx? (·.1)=none:=by
 induction ts with
 |nil=>exact λ _ _ _ _=>⟨rfl,rfl⟩
 |cons t ts ih=>
  intro xs O aC e;cases xs with
  |nil=>exact no e
  |cons x xs=>
   refine bC λ k9=>?_;obtain⟨bb,e1,e2⟩:=a9 e;obtain⟨h1,h2⟩:=ih xs bb aC e2;refine k9 ?_;rw[iL e1];exact⟨congrArg Nat.succ h1,by rw[List.findIdx?_cons,h2];rfl⟩
theorem WT.mono{xs ys:List Str}{b:Addr}(h:∀x∈xs,x∈ys)(q:WT env xs b):WT env ys b:=q.imp id (by rintro⟨z,h1,h2⟩;exact⟨z,h z h1,h2⟩)
noncomputable def y3(J:Addr->Prop)(H:bB)(U:ae)(A:Around)(env:Env)(t:Expr):Prop:=∀(O aC:ak) (x:V) (v:Value) (s:Shared) (m cm:Str->Option Value) (Q:Unit->Shared->Prop) (E:Value->Shared->Prop),
  ba t x O=some aC->(∀z∈ay t,bE env z)->FR J env m cm s.heap->ER w J H U env m cm s.heap O->SR prog w hB C J H U s.heap->VR w J H U s.heap v x->
  uJ prog w hB C J H U env (ay t) aC s Q->wpAny (model prog w) A (assign t env v) Q E s
noncomputable def xV(J:Addr->Prop)(H:bB)(U:ae)(A:Around)(env:Env)(ts:List Expr):Prop:=∀(O aC:ak) (xs:List V) (vs:List Value) (s:Shared) (m cm:Str->Option Value) (Q:Unit->Shared->Prop) (E:Value->Shared->Prop),
  d0 ts xs O=some aC->(∀z∈bX ts,bE env z)->FR J env m cm s.heap->ER w J H U env m cm s.heap O->SR prog w hB C J H U s.heap->aE (VR w J H U s.heap) vs xs->
  uJ prog w hB C J H U env (bX ts) aC s Q->wpAny (model prog w) A (assignInOrder ((assignEach ts env).map (·.2)) vs) Q E s
theorem zh(hE:aN env)(n:Str)(p:Pos):y3 J H U A env (.Name n p):=λ O aC x v s m cm Q E e hs F R S rv hQ=>by
 refine bC λ k9=>?_;cases e;refine k9 ?_;exact wpAny_assign_Name (lr hE (hs n (.head _)) F R S rv λ h' tk m' cm' F' R' S' kp _ _=>hQ h' tk m' cm' F' R' S' λ b o hb ho=>kp b o (λ q=>hb (q.imp id λ q=>⟨n,.head _,q⟩)) ho)
theorem x8(hA:cZ A k)(ts:List Expr)(kk:Nat)(p:Pos)(ih:xV J H U A env ts):y3 J H U A env (.Tuple ts kk p):=λ O aC x v s m cm Q E e hs F R S rv hQ=>by
 obtain⟨Jg,e1,e2⟩:=a9 e;cases x with
 |d d=>
  refine bC λ k9=>?_;obtain⟨xs,e3,rfl⟩:=Option.map_eq_some_iff.mp e1;refine k9 ?_;rw[arm_assign_Tuple];refine wpAny_bind (wpAny_standAt ?_);unfold unpack;rw[(dh ts _ O aC e2).1,(dh ts _ O aC e2).2,nK ts _ O aC e2,List.length_map];exact wpAny_bind (wpAny_holding (pg hA rv e3 λ vs h' kp rs=>ih O aC (xs.map .d) vs _ m cm Q E e2 hs (F.bx kp) (R.bx kp) (S.bx kp) (jb rs)
   λ mZ tk m' cm' F' R' S' yu=>hQ mZ tk m' cm' F' R' S' λ b o hb ho=>yu b o hb (kp b o ho)))
 |_=>first | exact no e1 | exact bt e1 | cases e1
theorem CQ:xV J H U A env []:=λ O aC xs vs s m cm Q E e hs F R S rv hQ=>by
 cases xs with
 |cons x xs=>exact no e
 |nil=>
  cases e;rw[rv.cM];exact wpAny_pure (hQ s.heap s.toks m cm F R S λ _ _ _ e=>e)
theorem zg(t:Expr)(ts:List Expr)(i1:y3 J H U A env t)(i2:xV J H U A env ts):xV J H U A env (t::ts):=λ O aC xs vs s m cm Q E e hs F R S rv hQ=>by
 cases xs with
 |nil=>exact no e
 |cons x xs=>
  obtain⟨bb,e1,e2⟩:=a9 e;obtain⟨v,ws,rfl,r1,r2⟩:=rv.cons_right;rw[iL e1];refine wpAny_bind (wpAny_holding (i1 O bb x v s m cm _ E e1 (λ z hz=>hs z (List.mem_append_left _ hz)) F R S r1 λ h' tk m' cm' F' R' S' kp=>?_));refine i2 bb aC xs ws _ m' cm' Q E e2 (λ z hz=>hs z (List.mem_append_right _ hz)) F' R' S' (r2.mono λ v x r=>r.bT λ b o hb ho=>kp b o (λ q=>hb ?_) ho)
   λ mZ tk O4 G3 Nu NK Jn yu=>hQ mZ tk O4 G3 Nu NK Jn λ b o hb ho=>yu b o (λ q=>hb (q.mono λ z hz=>List.mem_append_right _ hz)) (kp b o (λ q=>hb (q.mono λ z hz=>List.mem_append_left _ hz)) ho)
  rcases q with q | ⟨z,_,_,hz⟩
  ·exact q▸F.jL
  ·exact(F.cell z b hz).2.1
theorem sT(hE:aN env)(hA:cZ A k):(∀t,y3 J H U A env t)/\∀ts,xV J H U A env ts:=
 oX (zh hE) (x8 hA) (λ t q O aC x v s m cm Q E e=>no ((q.b x O).symm.trans e)) CQ zg
theorem lC(hE:aN env)(hA:cZ A k)(t:Expr):y3 J H U A env t:=(sT hE hA).1 t
theorem uR(hE:aN env)(hA:cZ A k)(ts:List Expr):xV J H U A env ts:=(sT hE hA).2 ts
end
end
section
set_option tactic.hygienic true
open PySem PyProof.Rows
variable{c:Bool}{es:List Expr}{i:Int}{op:BoolOp}{own:Bool}{xs':List V}{Y:Or}
section
variable(prog:Program)(w:World)(hB:Heap)(C:Addr)(J:Addr->Prop)(A:Around)(env:Env)
noncomputable def xW(es:List Expr)(pos:Pos)(O:ak)(U:ae)(xs':List V)(aj:ae):Prop:=
 ∀(H:bB) (s:Shared) (m cm:Str->Option Value) (Q:List Value->Shared->Prop) (E:Value->Shared->Prop),FR J env m cm s.heap->ER w J H U env m cm s.heap O->SR prog w hB C J H U s.heap->
  (∀vs s' aB,aS prog w hB C J s H U s' aB aj->aE (VR w J aB aj s'.heap) vs xs'->Q vs s')->wpAny (model prog w) A (spliced (backTo pos (starEach es env))) Q E s
noncomputable def J5(op:BoolOp)(es:List Expr)(O:ak)(U:ae)(b:Bool)(aj:ae):Prop:=
 ∀(H:bB) (s:Shared) (m cm:Str->Option Value) (Q:Bool->Shared->Prop) (E:Value->Shared->Prop),FR J env m cm s.heap->ER w J H U env m cm s.heap O->SR prog w hB C J H U s.heap->
  (∀s' aB,aS prog w hB C J s H U s' aB aj->Q b s')->wpAny (model prog w) A (allTrue op es env) Q E s
end
section
variable{J:Addr->Prop}{A:Around}{env:Env}
variable{O:ak}{U af ar bL aj:ae}{a b r:V}{pos:Pos}{k:Nat}{e f:Expr}
noncomputable def isStar:Expr->Bool
 |.Starred ..=>true
 |_=>false
theorem f5(e:Expr)(es:List Expr)(h:isStar e=false):backTo pos (starEach (e::es) env)=(false,eval e env)::backTo pos (starEach es env):=by
 cases e<;>first | rfl | exact no h | exact bt h | cases h
theorem wO{x:V×ae}(h:ev Y e O U=some x):isStar e=false:=by
 cases e<;>first | rfl | exact no h | exact bt h | cases h
theorem Hk:xW prog w hB C J A env [] pos O U [] U:=λ H s m cm Q E F R S h=>PySem.Calls.spliced_nil (h [] s H (aS.refl S) aE.nil)
theorem Ds(hs:isStar e=false)(L:c7 prog w hB C J A env e O U a af)(R:xW prog w hB C J A env es pos O af xs' ar):xW prog w hB C J A env (e::es) pos O U (a::xs') ar:=
 λ H s m cm Q E F Re S h=>by
  rw[f5 e es hs];refine PySem.Calls.spliced_cons (L H s m cm _ _ F Re S λ v s₁ av b7 mQ=>?_);refine R av s₁ m cm _ _ (F.aH S b7.aH) (Re.aH b7.aH) b7.sr λ vs s₂ ck cP oH=>h (v::vs) s₂ ck (b7.trans cP) (aE.cons (mQ.aH cP.aH) oH)
theorem c7.two{H:bB}{s:Shared}{m cm:Str->Option Value}{K:Value->Value->Shared->Prop}{E:Value->Shared->Prop}(L:c7 prog w hB C J A env e O U a af)(R:c7 prog w hB C J A env f O af b ar)
  (F:FR J env m cm s.heap) (Re:ER w J H U env m cm s.heap O) (S:SR prog w hB C J H U s.heap)
  (h:∀va vb s' aB,aS prog w hB C J s H U s' aB ar->VR w J aB ar s'.heap va a->VR w J aB ar s'.heap vb b->K va vb s') :
  wpAny (model prog w) A (eval e env) (λ va s₁=>wpAny (model prog w) A (eval f env) (λ vb s₂=>K va vb s₂) E s₁) E s:=
 L H s m cm _ _ F Re S λ va s₁ av b7 mQ=>R av s₁ m cm _ _ (F.aH S b7.aH) (Re.aH b7.aH) b7.sr λ vb s₂ ck cP oH=>h va vb s₂ ck (b7.trans cP) (mQ.aH cP.aH) oH
theorem bf{op:Operator}(L:c7 prog w hB C J A env e O U a af)(R:c7 prog w hB C J A env f O af b ar)(hv:mS own op a b ar=some (r,aj)) :
  c7 prog w hB C J A env (.BinOp e op f pos) O U r aj:=λ H s m cm Q E F Re S h=>by
 refine wpAny_BinOp (L.two R F Re S λ va vb s' aB g ra rb=>?_);exact GU g.sr ra rb hv λ v lA dF g' r'=>h v lA dF (g.trans g') r'
theorem lL{op:CmpOp}(hA:cZ A k)(hm:behindInMarks op f=false)(L:c7 prog w hB C J A env e O U a af)(R:c7 prog w hB C J A env f O af b ar)(hc:dB ar op a b=some c) :
  c7 prog w hB C J A env (.Compare e [op] [f] pos) O U (.d (.bool c)) ar:=λ H s m cm Q E F Re S h=>by
 refine wpAny_Compare1 (L.two R F Re S λ va vb s' aB g ra rb=>?_) hm;exact zz hA g.sr ra rb hc λ t=>h _ _ aB (g.trans (aS.tok g.sr t)) (RD.bool c)
theorem I8{op:CmpOp}(hA:cZ A k)(hm:behindInMarks op f=false)(L:c7 prog w hB C J A env e O U a af)(R:c7 prog w hB C J A env f O af b ar)(hc:dB ar op a b=some c) :
  xZ prog w hB C J A env (.Compare e [op] [f] pos) O U c ar:=λ H s m cm Q E F Re S h=>by
 refine wpAny_isTrue_Compare1 (L.two R F Re S λ va vb s' aB g ra rb=>?_) hm;exact zz hA g.sr ra rb hc λ t=>wpAny_truthy_bool (h _ aB (g.trans (aS.tok g.sr t)))
theorem Ho(L:c7 prog w hB C J A env e O U (.d (.int i)) af):c7 prog w hB C J A env (.UnaryOp .USub e pos) O U (.d (.int (-i))) af:=λ H s m cm Q E F Re S h=>by
 refine wpAny_UnaryOp (L H s m cm _ _ F Re S λ v s₁ av g r=>?_);obtain⟨t,rfl⟩:=aT r;exact PyProof.Rows.neg_int (h _ _ av (g.trans (aS.tok g.sr _)) (RD.int _ _))
theorem Hp(L:c7 prog w hB C J A env e O U a af)(hc:iD af a=some c):c7 prog w hB C J A env (.UnaryOp .Not e pos) O U (.d (.bool !c)) af:=λ H s m cm Q E F Re S h=>by
 refine wpAny_UnaryOp (L H s m cm _ _ F Re S λ v s₁ av g r=>PySem.not_value ?_);exact uu g.sr r hc λ t=>h _ _ av (g.trans (aS.tok g.sr _)) (RD.bool _)
theorem I9(L:xZ prog w hB C J A env e O U c af):xZ prog w hB C J A env (.UnaryOp .Not e pos) O U (!c) af:=λ H s m cm Q E F Re S h=>
 isTrue_not (L H s m cm _ _ F Re S λ s' aB g=>h s' aB g)
theorem uv(hp:gR e=true)(L:c7 prog w hB C J A env e O U a af)(hc:iD af a=some c):xZ prog w hB C J A env e O U c af:=λ H s m cm Q E F Re S h=>by
 have he:isTrue e env (eval e env)=(do let v<-eval e env;standAt e.pos;holding [v] (truthy v)):=by
  cases e<;>first | rfl | exact bt hp | (rename_i op x p;cases op<;>first | rfl | exact bt hp)
 refine isTrue_plain (L H s m cm _ _ F Re S λ v s₁ av g r=>?_) he;exact uu g.sr r hc λ t=>h _ av (g.trans (aS.tok g.sr _))
theorem I7:J5 prog w hB C J A env op [] O U (op == .And) U:=λ H s m cm Q E F Re S h=>wpAny_pure (h s H (aS.refl S))
theorem E9{c':Bool}(T:xZ prog w hB C J A env e O U c af)
  (R:(match op,c with | .And,false=>c'=false/\ar=af | .Or,true=>c'=true/\ar=af | _,_=>J5 prog w hB C J A env op es O af c' ar)):J5 prog w hB C J A env op (e::es) O U c' ar:=λ H s m cm Q E F Re S h=>by
 rw[arm_allTrue_cons];refine wpAny_bind (T H s m cm _ _ F Re S λ s₁ av g=>?_);cases op<;>cases c
 ·obtain⟨rfl,rfl⟩:=R;exact wpAny_pure (h s₁ av g)
 ·exact R av s₁ m cm _ _ (F.aH S g.aH) (Re.aH g.aH) g.sr λ s₂ ck cP=>h s₂ ck (g.trans cP)
 ·exact R av s₁ m cm _ _ (F.aH S g.aH) (Re.aH g.aH) g.sr λ s₂ ck cP=>h s₂ ck (g.trans cP)
 ·obtain⟨rfl,rfl⟩:=R;exact wpAny_pure (h s₁ av g)
theorem Fh(T:J5 prog w hB C J A env op es O U c af):xZ prog w hB C J A env (.BoolOp op es pos) O U c af:=λ H s m cm Q E F Re S h=>by
 rw[arm_isTrue_BoolOp];exact T H s m cm _ _ F Re S h
theorem au(hA:cZ A k)(L:c7 prog w hB C J A env e O U a af)(R:c7 prog w hB C J A env f O af b ar)(hv:dX ar a b=some r):c7 prog w hB C J A env (.Subscript e f pos) O U r ar:=λ H s m cm Q E F Re S h=>by
 refine Subscript_ (L.two R F Re S λ va vb s' aB g ra rb=>?_);exact IZ hA g.sr ra rb hv λ v t r'=>h v _ aB (g.trans (aS.tok g.sr t)) r'
noncomputable def J2(prog:Program)(w:World)(hB:Heap)(C:Addr)(J:Addr->Prop)(A:Around)(env:Env)(e:Option Expr)(O:ak)(U:ae)(i:Option Int)(aj:ae):Prop:=
 ∀(H:bB) (s:Shared) (m cm:Str->Option Value) (Q:Value->Shared->Prop) (E:Value->Shared->Prop),FR J env m cm s.heap->ER w J H U env m cm s.heap O->SR prog w hB C J H U s.heap->
  (∀v s' aB,aS prog w hB C J s H U s' aB aj->IsPart v i->Q v s')->wpAny (model prog w) A (evalPart e env) Q E s
theorem EO:J2 prog w hB C J A env none O U none U:=λ H s m cm Q E F Re S h=>wpAny_pure (h _ s H (aS.refl S) .none)
theorem EP(L:c7 prog w hB C J A env e O U (.d (.int i)) af):J2 prog w hB C J A env (some e) O U (some i) af:=λ H s m cm Q E F Re S h=>by
 rw[evalPart_some];refine L H s m cm _ _ F Re S λ v s₁ av g r=>?_;obtain⟨t,rfl⟩:=aT r;exact h _ s₁ av g (.int i t)
theorem z8{lo hi:Option Expr}{i j:Option Int}{d d':PyData}{p:Pos}(L:c7 prog w hB C J A env e O U (.d d) af)(R:J2 prog w hB C J A env lo O af i ar)(T:J2 prog w hB C J A env hi O ar j bL)(hv:slice? d i j=some d') :
  c7 prog w hB C J A env (.Subscript e (.Slice lo hi none p) pos) O U (.d d') bL:=λ H s m cm Q E F Re S h=>by
 refine Subscript_ (L H s m cm _ _ F Re S λ va s₁ av b7 ra=>wpAny_Slice ?_);refine R av s₁ m cm _ _ (F.aH S b7.aH) (Re.aH b7.aH) b7.sr λ vl s₂ ck cP pl=>?_;have HA:=b7.trans cP;refine T ck s₂ m cm _ _ (F.aH S HA.aH) (Re.aH HA.aH) cP.sr λ vu ix jV od pu=>?_;rw[evalPart_none];refine wpAny_pure ?_;have N4:=HA.trans od;have hk:∀b o,ix.heap.get? b=some o->(ix.heap.push { cls:=.type "slice",data:=.fields #[vl,vu,.none] }).get? b=some o:=λ b o q=>Heap.get?_push_of_some _ q;have g4:aS prog w hB C J ix jV bL { ix with heap:=ix.heap.push { cls:=.type "slice",data:=.fields #[vl,vu,.none] } } jV bL:=aS.more od.sr hk;refine BI g4.sr (((VR.aH (x:=.d d) ra cP.aH).aH od.aH).aH g4.aH) ⟨_,Heap.get?_push_size _ rfl,rfl,rfl⟩ pl pu hv λ v s' aB g r'=>h v s' aB ((N4.trans g4).trans g) r'
theorem vg:∀(es:List Expr) (U:ae) (xs':List V) (aj:ae),gJ Y es O U=some (xs',aj)->xs'.length=es.length:=by
 intro es
 induction es with
 |nil=>
  intro U xs' aj h;cases h;rfl
 |cons e es ih=>
  intro U xs' aj h;refine bC λ k9=>?_;obtain⟨v,af,h1,h⟩:=dy h;obtain⟨vs,ar,h2,h⟩:=dy h;cases h;refine k9 ?_;exact congrArg Nat.succ (ih af vs _ h2)
theorem Dy(hl:es.length<=1000)(hx:xs'.length=es.length)(L:xW prog w hB C J A env es pos O U xs' af)(hv:dC own xs' af=some (r,aj)):c7 prog w hB C J A env (.List es pos) O U r aj:=
 λ H s m cm Q E F Re S h=>by
  have SH:iH=1048576:=rfl;refine List_ (L H s m cm _ _ F Re S λ vs s₁ av g rs=>?_);have HZ:vs.length<=iH:=by rw[rs.1,hx];omega
  refine wpAny_newList ?_ (Nat.le_trans HZ bu);exact yy (E:=E) g.sr rs HZ hv λ v s' aB g' r'=>h v s' aB (g.trans g') r'
theorem Aa{ds:List PyData}{kk:Nat}(hl:es.length<=1000)(hx:ds.length=es.length)(L:xW prog w hB C J A env es pos O U (ds.map .d) af):c7 prog w hB C J A env (.Tuple es kk pos) O U (.d (.tuple ds)) af:=
 λ H s m cm Q E F Re S h=>by
  have SH:iH=1048576:=rfl;refine Tuple_ (L H s m cm _ _ F Re S λ vs s₁ av g rs=>?_);have HZ:vs.length<=iH:=by rw[rs.1,List.length_map,hx];omega
  refine wpAny_newTuple ?_ (Nat.le_trans HZ bu);obtain⟨g',r'⟩:=il (n:=0) g.sr (rh rs) HZ;exact h _ _ av (g.trans g') r'
end
end
section
open PySem PyProof.Rows
variable{E Q:Value->Shared->Prop}{h:Heap}{s:Shared}{u:Value}{x:Str}{Y:Or}{G β:Type}{H:bB}{R:G->β->Prop}{vs:List G}
section
variable{J:Addr->Prop}{A:Around}{env:Env}
variable{O:ak}{U af ar bL aj:ae}{a b r:V}{pos:Pos}{k:Nat}{e f:Expr}
noncomputable def noStar:List Expr->Bool
 |[]=>true
 |e::r=>!isStar e && noStar r
theorem fO:∀{es:List Expr},noStar es=true->(backTo pos (starEach es env)).any (·.1)=false:=by
 intro es
 induction es with
 |nil=>
  intro _;exact rfl
 |cons e es ih=>
  intro h;rw[f5 e es (iM (az h).1)];exact ih (az h).2
theorem vJ:∀{es:List Expr},noStar es=true->(backTo pos (starEach es env)).all (λ x=>!x.1)=true:=by
 intro es
 induction es with
 |nil=>
  intro _;exact rfl
 |cons e es ih=>
  intro h;rw[f5 e es (iM (az h).1)];exact ih (az h).2
theorem g9:∀{es:List Expr} {U:ae} {x:List V×ae},gJ Y es O U=some x->noStar es=true:=by
 intro es
 induction es with
 |nil=>
  intro _ _ _;exact rfl
 |cons e es ih=>
  intro U x h;obtain⟨v,af,h1,h⟩:=dy h;obtain⟨vs,ar,h2,_⟩:=dy h;rw[noStar,wO h1,ih h2];rfl
theorem gZ{es:List Expr}{xs':List V}{fv:Value}{m cm:Str->Option Value}{Q:Args->Shared->Prop}(he:gJ Y es O U=some (xs',aj))
  (L:xW prog w hB C J A env es pos O U xs' aj) (F:FR J env m cm s.heap) (R:ER w J H U env m cm s.heap O) (S:SR prog w hB C J H U s.heap)
  (h:∀vs s' aB,aS prog w hB C J s H U s' aB aj->aE (VR w J aB aj s'.heap) vs xs'->Q ⟨vs,[]⟩ s'):wpAny (model prog w) A (evalArgs fv true (backTo pos (starEach es env)) []) Q E s:=by
 cases es with
 |nil=>
  refine bC λ k9=>?_;cases he;refine k9 ?_;exact evalArgs_nil3 (h [] s H (aS.refl S) aE.nil)
 |cons e es=>
  have:=L H s m cm (λ vs s'=>Q ⟨vs,[]⟩ s') E F R S h;rw[f5 e es (iM (az (g9 he)).1)] at this ⊢;exact PySem.Calls.evalArgs_plain this
theorem sk{h':Heap}{x:Addr}{mm:Str->Option Value}(n:h.Ns x mm)(hk:∀b o,h.get? b=some o->h'.get? b=some o):h'.Ns x mm:=n.keeps hk
theorem RD.base{v:Value}{d:PyData}(S:SR prog w hB C J H U h)(r:RD (λ _=>False) hB v d):RD (Ex J H U) h v d:=
 r.keeps (λ b o _ q=>S.keep b o q) λ b o _ q x=>by
  rcases x with x | ⟨l,n,e,hl,rfl | rfl⟩
  ·rw[(S.jo b x).2.1] at q;cases q
  ·rw[(S.off l n e hl).1] at q;cases q
  ·rw[(S.off l n e hl).2] at q;cases q
theorem qm(hE:aN env)(hk:env.kindOf x=some .globalImplicit)(hd:(x == ("__debug__":Str))=false)
  (ng:hB.Ns mainGlobals mg) (hx:mg x=some u) (S:SR prog w hB C J H U s.heap) (h:Q u s):wpAny (model prog w) A (eval (.Name x pos) env) Q E s:=
 PySem.Calls.Name_function_global hE.kind hk (PySem.Calls.loadGlobal_global (mg:=mg) (by rw[hE.globals];exact sk ng S.keep) hx h) hd
theorem kG(hE:aN env)(hk:env.kindOf x=some .globalImplicit)(hd:(x == ("__debug__":Str))=false)
  (ng:hB.Ns mainGlobals mg) (hx:mg x=none) (nb:hB.Ns builtinsNs mb) (hb:mb x=some u) (S:SR prog w hB C J H U s.heap) (h:Q u s):wpAny (model prog w) A (eval (.Name x pos) env) Q E s:=
 PySem.Calls.Name_function_global hE.kind hk (PySem.Calls.loadGlobal_builtin (mg:=mg) (mb:=mb) (by rw[hE.globals];exact sk ng S.keep) hx (by rw[hE.builtins];exact sk nb S.keep) hb h) hd
structure FnAt(hB:Heap)(a:Addr)(g:Fn)(fd:FuncData):Prop where
 obj:∃o,hB.get? a=some o/\o.data=.func fd/\o.cls=.type "function"
 code:hB.CodeRec fd.code fd.qualname
 body:fd.body=.stmts g.body
 args:∀vals:List Value,vals.length=g.params.length->bindArgs fd ⟨vals,[]⟩=pure (g.params.zip vals)
 P8:fd.closure=[]
 globals:fd.globals=mainGlobals
 builtins:fd.builtins=builtinsNs
 co:fd.scope.isCoroutine=false
 gen:fd.scope.isGenerator=false
 kind:fd.scope.kind=.function
 nodup:g.params.Nodup
 names:(fd.scope.names.map (·.1)).Nodup
 vI:∀x,fd.scope.names.lookup x≠some .free
 pk:∀x∈g.params,fd.scope.names.lookup x=some .local\/fd.scope.names.lookup x=some .cell
 lw:fd.scope.names.lookup iY=some .local->fd.code=.ref cL
theorem nH:∀n∈sV,typeLookup (.type "object") n=pure none:=by
 intro n hn;simp only[sV,List.mem_cons,List.not_mem_nil,or_false] at hn;rcases hn with rfl | rfl | rfl | rfl | rfl<;>(rw[typeLookup_type,builtinLookup_eq_fast];kernel_rfl)
inductive JT(hB:Heap):Prop
 |mk (o:Obj) (vs:Array Value) (file:Str) (tf:Nat) (flags:Int) (tg:Nat) (OT:Bool) (text:Int) (tt:Nat) (h1:hB.get? cL=some o) (h2:o.cls=.type "code") (h3:o.data=.fields vs) (h4:vs[11]?=some (.ref PL)) (h5:vs[18]?=some (.str file tf)) (h6:vs[7]?=some (.int flags tg)) (h7:vs[9]?=some (.bool OT)) (h8:vs[10]?=some (.int text tt))
structure Base(hB:Heap)(C N:Addr)(p:FG)(mg mb mN:Str->Option Value):Prop where
 lim:hB.NoLimit
 eM:JT hB
 bm:∃bm ob,BMod hB mainGlobals mg bm ob
 ng:hB.Ns mainGlobals mg
 nb:hB.Ns builtinsNs mb
 SD:∀x d,p.gl x=some (.d d)->∃u,mg x=some u/\RD (λ _=>False) hB u d
 Qm:∀x t,p.gl x=some (.ty t)->mg x=none/\mb x=some (.type t)
 SE:∀x v,p.gl x=some v->(∃d,v=.d d)\/∃t,v=.ty t
 bi:∀n v,(n,v)∈Cw->mg n=none/\mb n=some v
 cls:mg p.cls=some (.ref C)
 at':ClsAt hB C N mN
 hook:mN "__getattribute__"=none/\mN "__getattr__"=none/\mN "__setattr__"=none
 P7:∀n∈sV,mN n=none
 mt:∀m g,p.mt m=some g->∃a fd,mN m=some (.ref a)/\FnAt hB a g fd/\∃y,typeLookup (.type "object") m=pure y
 fn:∀f g,p.fn f=some g->∃a fd,mg f=some (.ref a)/\FnAt hB a g fd
theorem Dx{v:V}(B:Base hB C N p mg mb mN)(hE:aN env)(hk:env.kindOf x=some .globalImplicit)(hd:(x == ("__debug__":Str))=false)(hv:p.gl x=some v) :
  c7 prog w hB C J A env (.Name x pos) O U v U:=λ H s m cm Q E F R S h=>by
 rcases B.SE x v hv with ⟨d,rfl⟩ | ⟨t,rfl⟩
 ·obtain⟨u,h1,h2⟩:=B.SD x d hv;exact qm hE hk hd B.ng h1 S (h u s H (aS.refl S) (RD.base S h2))
 ·obtain⟨h1,h2⟩:=B.Qm x t hv;exact kG hE hk hd B.ng h1 B.nb h2 S (h _ s H (aS.refl S) rfl)
noncomputable def wy(prog:Program)(w:World)(hB:Heap)(C:Addr)(A:Around)(fv:Value)(vs:List V)(U:ae)(r:V)(aj:ae):Prop:=
 ∀(J:Addr->Prop) (H:bB) (s:Shared) (vals:List Value) (Q:Value->Shared->Prop) (E:Value->Shared->Prop),SR prog w hB C J H U s.heap->aE (VR w J H U s.heap) vals vs->
  (∀v s' aB,aS prog w hB C J s H U s' aB aj->VR w J aB aj s'.heap v r->Q v s')->wpAny (model prog w) A (call fv vals) Q E s
inductive NH{G β:Type}(R:G->β->Prop)(vs:List G)(x:β):Prop
 |mk (v:G) (e:vs=[v]) (h:R v x)
inductive NN{G β:Type}(R:G->β->Prop)(vs:List G)(x y:β):Prop
 |mk (u v:G) (e:vs=[u,v]) (h1:R u x) (h2:R v y)
theorem aE.inv1{x:β}(r:aE R vs [x]):NH R vs x:=by
 obtain⟨v,ws,rfl,h1,h2⟩:=r.cons_right;rw[h2.cM];exact⟨v,rfl,h1⟩
theorem aE.inv2{x y:β}(r:aE R vs [x,y]):NN R vs x y:=by
 obtain⟨v,ws,rfl,h1,h2⟩:=r.cons_right;obtain⟨u,rfl,h3⟩:=h2.inv1;exact⟨v,u,rfl,h1,h3⟩
end
end
section
open PySem PyProof.Rows
variable{E Q:Value->Shared->Prop}{es:List Expr}{fv:Value}{own:Bool}{s:Shared}{vs:List V}{x:Str}{xs':List V}{Y:Or}{H:bB}
structure Cr(A:Around)(k:Nat):Prop where
 handled:A.handled=none
 depth:A.depth+2*k+9<recursionLimit
 units:A.units+40*k+380<cLine
theorem cZ.call{A:Around}{k:Nat}(h:cZ A k):Cr A k:=⟨h.handled,Nat.lt_of_le_of_lt (Nat.add_le_add_left (by decide) _) h.depth,Nat.lt_of_le_of_lt (Nat.add_le_add_left (by decide) _) h.units⟩
theorem nq{a c k n m L:Nat}(hc:c+n<=m)(h:a+k+m<L):a+c+k+n<L:=by
 rw[Nat.add_right_comm a c k,Nat.add_assoc];exact Nat.lt_of_le_of_lt (Nat.add_le_add_left hc _) h
theorem cZ.make{A:Around}{k:Nat}{vals:List Value}(h:cZ A k):Cr (A.under (.builtin "type.__call__" ⟨.ref C::vals,[]⟩)) k:=by
 refine⟨h.handled,?_,nq (c:=1) (by decide) h.units⟩;rw[depth_under_make];exact nq (c:=1) (by decide) h.depth
theorem Cr.deeper{A:Around}{k:Nat}{env:Env}(h:Cr A (k+1)):cZ (A.deeper env) k:=
 ⟨h.handled,nq (c:=1) (m:=2+9) (by decide) (by rw[<-Nat.add_assoc,Nat.add_assoc A.depth];exact h.depth),nq (c:=3) (m:=40+380) (by decide) (by rw[<-Nat.add_assoc,Nat.add_assoc A.units];exact h.units)⟩
section
variable{J:Addr->Prop}{A:Around}{env:Env}
variable{O:ak}{U af ar bL aj:ae}{a b r:V}{pos:Pos}{k:Nat}{e f:Expr}
structure y9(prog:Program)(w:World)(hB:Heap)(C:Addr)(mg mN:Str->Option Value)(Y:Or)(k:Nat):Prop where
 P:∀f vs v,Y.P f vs=some (some v)->vs.all eT=true->∃a fd,mg f=some (.ref a)/\(∃o,hB.get? a=some o/\o.data=.func fd/\o.cls=.type "function")/\
  ∀A U,Cr A k->wy prog w hB C A (.ref a) vs U v U
 M:∀m vs U v aj,Y.M m vs U=some (v,aj)->∃a fd,mN m=some (.ref a)/\(∃o,hB.get? a=some o/\o.data=.func fd/\o.cls=.type "function")/\(∃y,typeLookup (.type "object") m=pure y)/\
  ∀A,Cr A k->wy prog w hB C A (.ref a) vs U v aj
noncomputable def GN(mg mb:Str->Option Value)(f:Str)(fv:Value):Prop:=mg f=some fv\/(mg f=none/\mb f=some fv)
theorem rN{u:Value}(hE:aN env)(hk:env.kindOf x=some .globalImplicit)(hd:(x == ("__debug__":Str))=false)
  (ng:hB.Ns mainGlobals mg) (nb:hB.Ns builtinsNs mb) (hx:GN mg mb x u) (S:SR prog w hB C J H U s.heap) (h:Q u s):wpAny (model prog w) A (eval (.Name x pos) env) Q E s:=by
 rcases hx with hx | ⟨h1,h2⟩
 ·exact qm hE hk hd ng hx S h
 ·exact kG hE hk hd ng h1 nb h2 S h
inductive Callee(hB:Heap)(C:Addr)(N:Addr)(mN:Str->Option Value):Value->Prop
 |builtin (id:String):Callee hB C N mN (.builtin id)
 |type (T:String):Callee hB C N mN (.type T)
 |func (a:Addr) (fd:FuncData):(∃o,hB.get? a=some o/\o.data=.func fd/\o.cls=.type "function")->Callee hB C N mN (.ref a)
 |cls:ClsAt hB C N mN->Callee hB C N mN (.ref C)
theorem sX{m cm:Str->Option Value}(he:gJ Y es O U=some (xs',af))
  (hc:Callee hB C N mN fv) (jj:fv=.ref C->es≠[]) (L:xW prog w hB C J A env es pos O U xs' af) (K:wy prog w hB C A fv xs' af r aj) (F:FR J env m cm s.heap) (R:ER w J H U env m cm s.heap O) (S:SR prog w hB C J H U s.heap)
  (h:∀v s' aB,aS prog w hB C J s H U s' aB aj->VR w J aB aj s'.heap v r->Q v s'):wpAny (model prog w) A (callWith pos fv [] (backTo pos (starEach es env)) []) Q E s:=by
 have hn:=g9 he;have go:∀vs s' aB,aS prog w hB C J s H U s' aB af->aE (VR w J aB af s'.heap) vs xs'->wpAny (model prog w) A (call fv vs) Q E s':=λ vs s' aB g rs=>
  K J aB s' vs _ _ g.sr rs λ v lA dF g' r'=>h v lA dF (g.trans g') r'
 cases hc with
 |builtin id=>exact PySem.Calls.callWith_builtin (fO hn) (gZ he L F R S go)
 |type T=>exact PyProof.Rows.callWith_type (fO hn) (gZ he L F R S go)
 |func a fd ho=>
  obtain⟨o,h1,h2,h3⟩:=ho;exact PySem.Calls.callWith_function (o:=o) (fd:=fd) (gZ he L F R S λ vs s' aB g rs=>⟨⟨g.sr.keep _ _ h1,h2⟩,go vs s' aB g rs⟩)
 |cls X=>
  cases es with
  |nil=>exact absurd rfl (jj rfl)
  |cons e es=>
   have h1:starEach (e::es) env=(false,eval e env)::starEach es env:=by
    have:=(az hn).1;cases e<;>first | rfl | exact no this | exact bt this | cases this
   exact callWith_cls X (L H s m cm _ _ F R S λ vs s' aB g rs=>⟨g.sr.keep,go vs s' aB g rs⟩) h1 (fO (az hn).2)
theorem bA{np:Pos}(hE:aN env)(hk:env.kindOf x=some .globalImplicit)(hd:(x == ("__debug__":Str))=false)
  (ng:hB.Ns mainGlobals mg) (nb:hB.Ns builtinsNs mb) (hx:GN mg mb x fv) (he:gJ Y es O U=some (xs',af)) (hc:Callee hB C N mN fv) (jj:fv=.ref C->es≠[]) (L:xW prog w hB C J A env es pos O U xs' af)
  (K:wy prog w hB C A fv xs' af r aj):c7 prog w hB C J A env (.Call (.Name x np) es [] pos) O U r aj:=λ H s m cm Q E F R S h=>
 Call_Name rfl (rN hE hk hd ng nb hx S (sX he hc jj L K F R S h))
theorem GW(e:f7 Y own "len" vs U=some (r,aj)):wy prog w hB C A (.builtin "len") vs U r aj:=λ J H s vals Q E S R h=>by
 replace e:=jM ((if_pos rfl).symm.trans e)
 cases e with
 |mk x e=>
  obtain⟨v,rfl,rv⟩:=R.inv1;cases x with
  |d x=>
   refine bC λ k9=>?_;obtain⟨n,e3,e⟩:=Option.map_eq_some_iff.mp e;cases e;refine k9 ?_;exact Ii S rv e3 λ v t r'=>h v _ H (aS.tok S t) r'
  |o l=>
   obtain⟨xs,hn,e⟩:=lst_inv (f:=λ xs=>some (V.d (.int xs.length),U)) e;cases e;obtain⟨Jg,n,q1,q2,q3⟩:=S.node l _ hn;obtain⟨rfl,_⟩:=rv;exact mE q1 q2 λ t u=>h _ _ H (aS.tok S t) (by rw[q3.1];exact RD.int _ _)
  |_=>first | exact no e | exact bt e | cases e
theorem CT(e:f7 Y own "list" vs U=some (r,aj)):wy prog w hB C A (.type "list") vs U r aj:=λ J H s vals Q E S R h=>by
 replace e:=jM ((if_pos rfl).symm.trans ((if_neg (by decide)).symm.trans e))
 cases e with
 |mk x e=>
  obtain⟨v,rfl,rv⟩:=R.inv1;obtain⟨d,e0,e⟩:=a9 e;obtain⟨xs,e1,e2⟩:=a9 e;obtain rfl:=c9 e0;exact Ec S rv e1 e2 h
theorem G0(hA:cZ A k)(e:f7 Y own "sum" vs U=some (r,aj)):wy prog w hB C A (.builtin "sum") vs U r aj:=λ J H s vals Q E S R h=>by
 replace e:=jM ((if_pos rfl).symm.trans ((if_neg (by decide)).symm.trans ((if_neg (by decide)).symm.trans e)))
 cases e with
 |mk x e=>
  refine bC λ k9=>?_;obtain⟨v,rfl,rv⟩:=R.inv1;obtain⟨d,e0,e⟩:=a9 e;obtain⟨xs,e1,e⟩:=a9 e;obtain⟨is,e2,e⟩:=a9 e;cases e;obtain rfl:=c9 e0;obtain rfl:=kZ e1;refine k9 ?_;exact I0 hA S rv e2 λ v s' g r'=>h v s' H g r'
theorem GY(hA:cZ A k)(e:f7 Y own "max" vs U=some (r,aj)):wy prog w hB C A (.builtin "max") vs U r aj:=λ J H s vals Q E S R h=>by
 replace e:=zd ((if_pos rfl).symm.trans ((if_neg (by decide)).symm.trans ((if_neg (by decide)).symm.trans ((if_neg (by decide)).symm.trans e))))
 cases e with
 |mk x y e=>
  refine bC λ k9=>?_;obtain⟨u,v,rfl,ru,rv⟩:=R.inv2;obtain⟨i,e0,e⟩:=a9 e;obtain⟨j,e1,e⟩:=a9 e;cases e;obtain rfl:=bq e0;obtain rfl:=bq e1;refine k9 ?_;exact Io hA S ru rv λ v s' g r'=>h v s' H g r'
theorem CV(e:f7 Y own "type" vs U=some (r,aj)):wy prog w hB C A (.type "type") vs U r aj:=λ J H s vals Q E S R h=>by
 replace e:=jM ((if_pos rfl).symm.trans ((if_neg (by decide)).symm.trans ((if_neg (by decide)).symm.trans ((if_neg (by decide)).symm.trans ((if_neg (by decide)).symm.trans ((if_neg (by decide)).symm.trans e))))))
 cases e with
 |mk x e=>
  refine bC λ k9=>?_;obtain⟨v,rfl,rv⟩:=R.inv1;obtain⟨t,e1,e⟩:=a9 e;cases e;refine k9 ?_;exact xP rv e1 (h _ s H (aS.refl S) rfl)
theorem CU(hA:cZ A k)(X:ClsAt hB C N mN)(VB:y9 prog w hB C mg mN Y k)(e:Y.M "__init__" (.o U.length::vs) (U++[.ins []])=some (.d .none,aj)) :
  wy prog w hB C A (.ref C) vs U (.o U.length) aj:=λ J H s vals Q E S R h=>by
 refine bC λ k9=>?_;obtain⟨fI,fd,hi,⟨oI,h1,h2,h3⟩,_,K⟩:=VB.M _ _ _ _ _ e;obtain⟨hh,g,d,t,os⟩:=s;obtain⟨nm,q,bs,sn,sub,col,dd,k0,k1,k2,k3,k5,hC⟩:=(X.keeps S.keep).obj;refine k9 ?_;refine wpAny_call_obj_init PySem.F.objNew hC (X.keeps S.keep).ns hi (S.keep _ _ h1) h3 λ h' x dx Mk=>?_;have Qc:bZ H U hh (H.add U x dx) (U++[.ins []]) h':=bZ.grow Mk.newX Mk.newD Mk.keeps;have nr:NR prog w C J (H.add U x dx) (U++[.ins []]) h' x dx (.ins []):=⟨Nat.zero_le _,λ _=>none,Mk.inst,Mk.dict,(λ n v q=>by cases q),λ n=>trivial⟩;have S1:SR prog w hB C J (H.add U x dx) (U++[.ins []]) h':=S.grow Mk.newX Mk.newD Mk.keeps nr (λ q=>bt q.symm);have RK:VR w J (H.add U x dx) (U++[.ins []]) h' (.ref x) (.o U.length):=VR.top;refine K _ hA.make J (H.add U x dx) ⟨h',g,d,t,os⟩ (.ref x::vals) _ E S1 (aE.cons RK (R.mono λ v y r=>r.aH Qc)) λ v s' aB g' r'=>⟨?_,?_⟩
 ·cases r';rfl
 ·refine h _ s' aB ?_ (RK.aH g'.aH);exact⟨g'.same,Qc.trans g'.aH,g'.sr⟩
inductive JN(A:Around)(f:Str)(vs:List V)(U:ae)(r:V)(aj:ae):Prop
 |mk (fv:Value) (h1:GN mg mb f fv) (h2:Callee hB C N mN fv) (h3:wy prog w hB C A fv vs U r aj)
theorem zt{f:Str}(B:Base hB C N p mg mb mN)(VB:y9 prog w hB C mg mN Y k)(Oe:Y.cls=p.cls)(hA:cZ A k)(Lr:f≠"set")
  (e:f7 Y own f vs U=some (r,aj)):JN A f vs U r aj:=by
 have bi:∀n v,(n,v)∈Cw->GN mg mb n v:=λ n v hm=>.inr (B.bi n v hm);by_cases h1:f="len"
 ·subst h1;exact⟨_,bi _ _ (.head _),.builtin _,GW e⟩
 by_cases h2:f="list"
 ·subst h2;exact⟨_,bi _ (.type "list") (by decide),.type _,CT e⟩
 by_cases h3:f="sum"
 ·subst h3;exact⟨_,bi _ (.builtin "sum") (by decide),.builtin _,G0 hA e⟩
 by_cases h5:f="max"
 ·subst h5;exact⟨_,bi _ (.builtin "max") (by decide),.builtin _,GY hA e⟩
 by_cases h8:f="type"
 ·subst h8;exact⟨_,bi _ (.type "type") (by decide),.type _,CV e⟩
 replace e:=(if_neg h8).symm.trans ((if_neg Lr).symm.trans ((if_neg h5).symm.trans ((if_neg h3).symm.trans ((if_neg h2).symm.trans ((if_neg h1).symm.trans e)))))
 by_cases hf:f=Y.cls
 ·obtain⟨u,ar,e1,e2⟩:=dy ((if_pos hf).symm.trans e);refine bC λ k9=>?_;obtain⟨_,e3,e2⟩:=a9 e2;cases e2;refine k9 ?_;cases u with
  |d y=>
   cases y with
   |none=>exact⟨_,.inl (by rw[hf,Oe];exact B.cls),.cls B.at',CU hA B.at' VB e1⟩
   |_=>first | exact no e3 | exact bt e3 | cases e3
  |_=>first | exact no e3 | exact bt e3 | cases e3
 ·replace e:=(if_neg hf).symm.trans e
  by_cases hs:vs.all eT=true
  ·obtain⟨r',e1,e2⟩:=a9 ((if_pos hs).symm.trans e);refine bC λ k9=>?_;obtain⟨v,rfl,e2⟩:=Option.map_eq_some_iff.mp e2;cases e2;obtain⟨a,fd,q1,q2,K⟩:=VB.P f vs _ e1 hs;refine k9 ?_;exact⟨_,.inl q1,.func a fd q2,K A U hA.call⟩
  ·exact no ((if_neg hs).symm.trans e)
end
end
section
open PySem PyProof.Rows
variable{fs:List (Str×V)}{h:Heap}{l:Nat}{m:Str}{n:Nat}{ov:Value}{s₁:Shared}{vs:List V}{Y:Or}{av:bB}
section
variable{J:Addr->Prop}{A:Around}{env:Env}
variable{O:ak}{U af ar bL aj:ae}{a b r:V}{pos:Pos}{k:Nat}{e f:Expr}
theorem yq{H:bB}{v:Value}{x:V}(rv:VR w J H U h v x):handedOut v=pure v:=by
 cases x with
 |d d=>cases rv<;>rfl
 |fs xs=>obtain⟨a,rfl,_⟩:=rv;rfl
 |ty n=>obtain rfl:=rv;rfl
 |o l=>obtain⟨rfl,_⟩:=rv;rfl
noncomputable def FF(prog:Program)(w:World)(hB:Heap)(C:Addr)(A:Around)(m:Str)(ov:Value)(a:V)(vs:List V)(s₁:Shared)(ar:ae)(r:V)(aj:ae):Prop:=
 ∃fv,(∀(pl:Sem Bool) (Q:Value×List Value->Shared->Prop) (E:Value->Shared->Prop),Q (fv,[ov]) s₁->wpAny (model prog w) A (getMethod ov m pl) Q E s₁)/\
  ((∃id,fv=.builtin id)\/∃f fd o,fv=.ref f/\hB.get? f=some o/\o.data=.func fd)/\wy prog w hB C A fv (a::vs) ar r aj
theorem Bd{l:Addr}{vs:List Value}(e:h.get? l=some (bo vs n)):∀a,Value.ref l=.ref a->∃o,h.get? a=some o/\o.dict=none:=λ a q=>by cases q;exact⟨_,e,rfl⟩
theorem nc{id:String}{l:Addr}{ws:List Value}(ho:s₁.heap.get? l=some (bo ws n))(TY:ov=.ref l)(slot:Slot "list" m id)(ty:typeOf (.builtin id)=pure (.type "method_descriptor"))
  (K:wy prog w hB C A (.builtin id) (a::vs) ar r aj):FF prog w hB C A m ov a vs s₁ ar r aj:=by
 subst TY;exact⟨_,λ pl Q E h=>getMethod_builtin (IsList.of ho).typeIs F.plainAttrs_list slot ty (Bd ho) h,.inl ⟨_,rfl⟩,K⟩
theorem Eo{xs:List PyData}(hA:cZ A k)(S:SR prog w hB C J av af s₁.heap)(rv:VR w J av af s₁.heap ov (.d (.list xs)))
  (e:iN Y m (.d (.list xs)) vs ar=some (r,aj)):FF prog w hB C A m ov (.d (.list xs)) vs s₁ ar r aj:=by
 obtain⟨l,ws,n,rfl,q1,q2,q3,q4⟩:=RD.bJ rv;cases Uz e with
 |mk y q=>
  cases q with
  |index x ys j hm hy e1 e2 e3=>
   subst hm;cases e1;cases e3;obtain rfl:=c9 hy;refine nc q1 rfl F.slot_list_index F.type_list_index λ J' H s vals Q E S' R h=>?_;obtain⟨u,v,rfl,ru,yJ⟩:=R.inv2;exact AP hA S' ru yJ e2 λ v t r'=>h v _ H (aS.tok S' t) r'
  |count x j hm hy e1 e3=>
   subst hm;cases e3;obtain rfl:=c9 hy;refine nc q1 rfl F.slot_list_count F.type_list_count λ J' H s vals Q E S' R h=>?_;obtain⟨u,v,rfl,ru,yJ⟩:=R.inv2;exact zJ S' ru yJ e1 λ v t r'=>h v _ H (aS.tok S' t) r'
theorem Iq{xs lz:List V}(S:SR prog w hB C J av af s₁.heap)(rv:VR w J av af s₁.heap ov (.o l))(hn:af[l]?=some (.aI xs))(dA:ar[l]?=some (.aI lz))
  (e:iN Y m (.o l) vs ar=some (r,aj)):FF prog w hB C A m ov (.o l) vs s₁ ar r aj:=by
 obtain⟨rfl,hl⟩:=rv;obtain⟨ws,n,q1,q2,q3⟩:=S.node l _ hn
 replace e:=(kH dA).symm.trans e
 by_cases hm:m="append"
 ·replace e:=jM ((if_pos hm).symm.trans e)
  cases e with
  |mk y e=>
   by_cases hz:lz.length<cW
   ·cases(if_pos hz).symm.trans e;subst hm;refine nc q1 rfl F.slot_list_append F.type_list_append λ J' H s vals Q E S' R h=>?_;obtain⟨u,v,rfl,⟨rfl,_⟩,yJ⟩:=R.inv2;exact x5 S' dA hz yJ h
   ·exact no ((if_neg hz).symm.trans e)
 ·replace e:=(if_neg hm).symm.trans e
  by_cases hm:m="pop"
  ·replace e:=jM ((if_pos hm).symm.trans e)
   cases e with
   |mk y e=>
    obtain⟨i,ei,e⟩:=a9 e;by_cases hi:i=0
    ·replace e:=(if_pos hi).symm.trans e
     cases lz with
     |nil=>first | exact no e | exact bt e | cases e
     |cons x r'=>
      cases e;subst hm;subst hi;obtain rfl:=bq ei;refine nc q1 rfl F.slot_list_pop F.type_list_pop λ J' H s vals Q E S' R h=>?_;obtain⟨u,v,rfl,⟨rfl,_⟩,yJ⟩:=R.inv2;obtain⟨t,rfl⟩:=aT yJ;exact IF S' dA h
    ·exact no ((if_neg hi).symm.trans e)
  ·exact no ((if_neg hm).symm.trans e)
theorem L8{bj Ie:List (Int×V)}(S:SR prog w hB C J av af s₁.heap)(rv:VR w J av af s₁.heap ov (.o l))(hn:af[l]?=some (.fF bj))(dA:ar[l]?=some (.fF Ie))
  (e:iN Y m (.o l) vs ar=some (r,aj)):FF prog w hB C A m ov (.o l) vs s₁ ar r aj:=by
 obtain⟨rfl,hl⟩:=rv;obtain⟨q0,ps,q1,q2⟩:=S.node l _ hn
 replace e:=(kH dA).symm.trans e
 refine Classical.byCases (p:=m="get") (λ hm=>?_) (λ hm=>?_)
 ·replace e:=zd ((if_pos hm).symm.trans e)
  cases e with
  |mk a y e=>
   obtain⟨j,ej,e⟩:=a9 e;cases e;subst hm;obtain rfl:=bq ej;refine⟨_,λ pl Q E h=>getMethod_builtin q1.typeIs F.plainAttrs_dict F.slot_dict_get F.type_dict_get q1.mapOf.noDict h,.inl ⟨_,rfl⟩,λ J' H s vals Q E S' R h=>?_⟩;obtain⟨u,ws,rfl,⟨rfl,_⟩,R'⟩:=R.cons_right;obtain⟨v,v',rfl,Pp,Pq⟩:=R'.inv2;obtain⟨t,rfl⟩:=aT Pp;exact HF S' dA Pq λ v t r'=>h v _ H (aS.tok S' t) r'
 ·exact no ((if_neg hm).symm.trans e)
theorem Ip{FP:List (Str×V)}(B:Base hB C N p mg mb mN)(VB:y9 prog w hB C mg mN Y k)(hA:cZ A k)
  (S:SR prog w hB C J av af s₁.heap) (rv:VR w J av af s₁.heap ov (.o l)) (hn:af[l]?=some (.ins fs)) (ha:dY m fs=none) (dA:ar[l]?=some (.ins FP))
  (e:iN Y m (.o l) vs ar=some (r,aj)):FF prog w hB C A m ov (.o l) vs s₁ ar r aj:=by
 obtain⟨rfl,hl⟩:=rv;obtain⟨q0,mA,q1,q2,q3,q4⟩:=S.node l _ hn;have TH:mA m=none:=by
  have:=q4 m;rw[ha] at this;cases hm:mA m with
  |none=>rfl
  |some v=>rw[hm] at this;exact this.elim
 refine bC λ k9=>?_;obtain⟨f,fd,h1,⟨o,h2,h3,h4⟩,⟨y,h5⟩,K⟩:=VB.M _ _ _ _ _ ((kH dA).symm.trans e);obtain⟨hh,g,d,t,os⟩:=s₁;obtain⟨nm,q,bs,sn,sub,col,dd,k0,k1,k2,k3,k5,hC⟩:=(B.at'.keeps S.keep).obj;refine k9 ?_;exact⟨_,λ pl Q E h=>method_of hC (B.at'.keeps S.keep).ns B.hook.1 B.hook.2.1 h1 (S.keep _ _ h2) h4 h5 q1 TH h,.inr ⟨f,fd,o,rfl,h2,h3⟩,K A hA.call⟩
theorem fi{apos:Pos}{es:List Expr}(hb:qL e=true)(hl:(apos.endLine == pos.line)=true)(hf:es.length<20)(L:c7 prog w hB C J A env e O U a af)
  (he:gJ Y es O af=some (vs,ar)) (Es:xW prog w hB C J A env es pos O af vs ar)
  (K:∀ov s₁ av,SR prog w hB C J av af s₁.heap->VR w J av af s₁.heap ov a->FF prog w hB C A m ov a vs s₁ ar r aj):c7 prog w hB C J A env (.Call (.Attribute e m apos) es [] pos) O U r aj:=λ H s mm cm Q E F R S h=>by
 have hn:=g9 he;have K6:attributeBase e m env (eval e env)=eval e env:=by cases e<;>first | rfl | exact bt hb
 rw[arm_eval_Call,K6];refine wpAny_bind (L H s mm cm _ _ F R S λ ov s₁ av b7 mQ=>wpAny_bind (wpAny_standAt ?_));refine bC λ k9=>?_;obtain⟨fv,yr,Tt,wY⟩:=K ov s₁ av b7.sr mQ;refine k9 ?_;have Lg:methodCallForm (es.length+([]:List Keyword).length) (backTo pos (starEach es env)) (backToKw pos (keywordEach [] env))=true:=by
  have:decide (es.length+0+0<30)=true:=decide_eq_true (Nat.lt_trans hf (by decide));exact Bool.and_eq_true_iff.mpr ⟨Bool.and_eq_true_iff.mpr ⟨vJ hn,rfl⟩,this⟩
 have AI:methodCallPos true e env apos pos=pure pos:=by unfold methodCallPos;exact if_pos ‹_›
 unfold methodCall;rw[Lg];refine wpAny_bind (wpAny_holding (yr _ _ _ ?_));refine wpAny_bind (wpAny_of_eq AI ?_);have go:∀vals s' aB,aS prog w hB C J s₁ av af s' aB ar->aE (VR w J aB ar s'.heap) vals vs->wpAny (model prog w) A (call fv (ov::vals)) Q E s':=λ vals s' aB g rs=>
  wY J aB s' (ov::vals) _ _ g.sr (aE.cons (mQ.aH g.aH) rs) λ v lA dF g' r'=>h v lA dF ((b7.trans g).trans g') r'
 rcases Tt with ⟨id,rfl⟩ | ⟨f,fd,o,rfl,h1,h2⟩
 ·exact PySem.Calls.callWith_builtin (fO hn) (gZ he Es (F.aH S b7.aH) (R.aH b7.aH) b7.sr go)
 ·exact PySem.Calls.callWith_function (o:=o) (fd:=fd) (gZ he Es (F.aH S b7.aH) (R.aH b7.aH) b7.sr λ vs s' aB g rs=>⟨⟨g.sr.keep _ _ h1,h2⟩,go vs s' aB g rs⟩)
noncomputable def isName:Expr->Bool
 |.Name ..=>true
 |_=>false
theorem Du{n:Str}{v:V}(B:Base hB C N p mg mb mN)(hb:isName e=true)(hn:n∈sV)(L:c7 prog w hB C J A env e O U (.o l) af)
  (hl:af[l]?=some (.ins fs)) (ha:dY n fs=some v) (hr:(r=dr af v/\aj=af)\/∃d,cn 8 af v=some (d,aj)/\r=.d d):c7 prog w hB C J A env (.Attribute e n pos) O U r aj:=λ H s mm cm Q E F R S h=>by
 refine Attribute_any_ (L H s mm cm _ _ F R S λ ov s₁ av b7 mQ=>?_) (by cases e<;>first | rfl | exact bt hb);obtain⟨rfl,_⟩:=mQ;obtain⟨q0,mA,q1,q2,q3,q4⟩:=b7.sr.node l _ hl;have hv:=q4 n;rw[ha] at hv;obtain⟨u,hu,ru⟩:=hv.ko;have hg:∀(Q:Value->Shared->Prop) (E:Value->Shared->Prop),Q u { s₁ with toks:=s₁.toks+1 }->wpAny (model prog w) A (getAttr (.ref (av l).1) n true) Q E s₁:=λ Q E hq=>by
  refine bC λ k9=>?_;obtain⟨hh,g,d,t,os⟩:=s₁;obtain⟨nm,q,bs,sn,sub,col,dd,k0,k1,k2,k3,k5,hC⟩:=(B.at'.keeps b7.sr.keep).obj;refine k9 ?_;exact load_attr hC (B.at'.keeps b7.sr.keep).ns B.hook.1 (B.P7 n hn) (nH n hn) q1 hu (yq ru) hq
 refine hg _ _ ?_;have g2:aS prog w hB C J s₁ av af { s₁ with toks:=s₁.toks+1 } av af:=aS.tok b7.sr _;rcases hr with ⟨rfl,rfl⟩ | ⟨d,hd,rfl⟩
 ·exact h u _ av (b7.trans g2) (mw (s:={ s₁ with toks:=s₁.toks+1 }) b7.sr ru)
 ·obtain⟨S',E',R'⟩:=hW 8 b7.sr ru hd;exact h u _ av (b7.trans ⟨⟨rfl,GX.refl _⟩,E',S'⟩) R'
end
end
section
set_option tactic.hygienic true
open PySem PyProof.Rows
variable{acc:List (Str×Addr)}{k:NameKind}{r:List (Str×NameKind)}{scope:Scope}{x:Str}{G:Type}
noncomputable def lE(env:Env):List (Str×NameKind)->List (Str×Addr)->List (Str×Addr)
 |[],acc=>acc
 |(n,k)::r,acc=>if k == .free then lE env r ((n,(env.cells.lookup n).getD 0)::acc) else lE env r acc
section
variable{env:Env}
theorem jd{n:Str}(h:¬k=.free):lE env ((n,k)::r) acc=lE env r acc:=if_neg λ q=>h (eq_of_beq q)
theorem G2(f:Str×NameKind->List (Str×Addr)->Sem (ForInStep (List (Str×Addr))))
  (hf:∀name kind cs,f (name,kind) cs=if kind == .free then(do let a<-cellOf env name;pure (.yield ((name,a)::cs))) else pure (.yield cs)) :
  ∀(names:List (Str×NameKind)) (acc:List (Str×Addr)),(∀x∈names,x.2=.free->(env.cells.lookup x.1).isSome=true)->forIn names acc f=pure (lE env names acc):=by
 intro names
 induction names with
 |nil=>exact λ acc _=>rfl
 |cons x9 r ih=>
  intro acc h;obtain⟨n,k⟩:=x9;have hr:∀x∈r,x.2=.free->(env.cells.lookup x.1).isSome=true:=λ x hx=>h x (List.mem_cons_of_mem _ hx);rw[List.forIn_cons,hf];by_cases hk:k=.free
  ·subst hk;obtain⟨c,hc⟩:=Option.isSome_iff_exists.mp (h (n,.free) List.mem_cons_self rfl);have hc:env.cells.lookup n=some c:=hc;have h1:cellOf env n=pure c:=by unfold cellOf;rw[hc]
   refine .trans ?_ (ih _ hr);rw[h1,hc];rfl
  ·rw[if_neg λ q=>hk (eq_of_beq q),jd hk];exact ih acc hr
theorem jP(h:∀x∈scope.names,x.2=.free->(env.cells.lookup x.1).isSome=true):closureFor scope env=pure (lE env scope.names []):=by
 simp only[closureFor];rw[G2 (env:=env) _ (λ name kind cs=>?_) scope.names [] h]
 ·rfl
 ·by_cases hk:kind == NameKind.free<;>rfl
theorem zy:∀(names:List (Str×NameKind)) (acc:List (Str×Addr)),(∀x∈names,x.2=.free->(env.cells.lookup x.1).isSome=true)->
  ∀n c,(n,c)∈lE env names acc->((n,.free)∈names/\env.cells.lookup n=some c)\/(n,c)∈acc:=by
 intro names
 induction names with
 |nil=>exact λ acc _ n c h=>.inr h
 |cons x9 r ih=>
  intro acc hs n c h;obtain⟨k,kd⟩:=x9;have hr:∀x∈r,x.2=.free->(env.cells.lookup x.1).isSome=true:=λ x hx=>hs x (List.mem_cons_of_mem _ hx);by_cases hk:kd=.free
  ·subst hk;rcases ih _ hr n c h with ⟨h1,h2⟩ | h1
   ·exact .inl ⟨List.mem_cons_of_mem _ h1,h2⟩
   ·rcases List.mem_cons.mp h1 with e | h1
    ·obtain⟨rfl,rfl⟩:=Prod.mk.inj e;obtain⟨c',hc⟩:=Option.isSome_iff_exists.mp (hs (n,.free) List.mem_cons_self rfl);have hc:env.cells.lookup n=some c':=hc;exact .inl ⟨List.mem_cons_self,by rw[hc];rfl⟩
    ·exact .inr h1
  ·rw[jd hk] at h;exact(ih _ hr n c h).imp_left λ q=>⟨List.mem_cons_of_mem _ q.1,q.2⟩
theorem zw:∀(names:List (Str×NameKind)) (acc:List (Str×Addr)) (x:Str×Addr),x∈acc->x∈lE env names acc:=by
 intro names
 induction names with
 |nil=>exact λ acc x h=>h
 |cons x9 r ih=>
  intro acc x h;obtain⟨k,kd⟩:=x9;by_cases hk:kd=.free
  ·subst hk;exact ih _ x (List.mem_cons_of_mem _ h)
  ·rw[jd hk];exact ih _ x h
theorem zx:∀(names:List (Str×NameKind)) (acc:List (Str×Addr)) (n:Str),(n,NameKind.free)∈names->∃c,(n,c)∈lE env names acc:=by
 intro names
 induction names with
 |nil=>exact λ acc n h=>by cases h
 |cons x9 r ih=>
  intro acc n h;obtain⟨k,kd⟩:=x9;by_cases hk:kd=.free
  ·subst hk;rcases List.mem_cons.mp h with e | h
   ·cases e;exact⟨_,zw r _ _ List.mem_cons_self⟩
   ·exact ih _ n h
  ·rw[jd hk];exact ih _ n ((List.mem_cons.mp h).resolve_left λ e=>hk (Prod.mk.inj e).2.symm)
theorem u5(Od:∀n n' c,env.cells.lookup n=some c->env.cells.lookup n'=some c->n=n'):∀(names:List (Str×NameKind)) (acc:List (Str×Addr)),(∀x∈names,x.2=.free->(env.cells.lookup x.1).isSome=true)->
  (names.map (·.1)).Nodup->(acc.Pairwise λ x y=>x.2≠y.2)->(∀n c,(n,c)∈acc->env.cells.lookup n=some c/\n∉names.map (·.1))->(lE env names acc).Pairwise λ x y=>x.2≠y.2:=by
 intro names
 induction names with
 |nil=>exact λ acc _ _ h _=>h
 |cons x9 r ih=>
  intro acc hs hn h ha;obtain⟨k,kd⟩:=x9;have hr:∀x∈r,x.2=.free->(env.cells.lookup x.1).isSome=true:=λ x hx=>hs x (List.mem_cons_of_mem _ hx);have hn:=List.nodup_cons.mp hn;have Qw:∀n c,(n,c)∈acc->env.cells.lookup n=some c/\n∉r.map (·.1):=λ n c hm=>⟨(ha n c hm).1,λ q=>(ha n c hm).2 (List.mem_cons_of_mem _ q)⟩;by_cases hk:kd=.free
  ·subst hk;obtain⟨c',hc⟩:=Option.isSome_iff_exists.mp (hs (k,.free) List.mem_cons_self rfl);have hc:env.cells.lookup k=some c':=hc;refine ih _ hr hn.2 (List.pairwise_cons.mpr ⟨λ y hy e=>?_,h⟩) λ n c hm=>?_
   ·rw[hc] at e;have e:c'=y.2:=e;exact(ha y.1 y.2 hy).2 (Od _ _ _ (ha y.1 y.2 hy).1 (e▸hc)▸List.mem_cons_self)
   ·rcases List.mem_cons.mp hm with e | hm
    ·cases e;exact⟨by rw[hc];rfl,hn.1⟩
    ·exact Qw n c hm
  ·rw[jd hk];exact ih acc hr hn.2 h Qw
end
theorem kJ{n:Nat}(h:¬k=.cell):cellsFrom n ((x,k)::r) acc=cellsFrom n r acc:=if_neg λ q=>h (eq_of_beq q)
theorem ES{h:Heap}(q:¬k=.cell):pushCells h ((x,k)::r)=pushCells h r:=if_neg λ z=>q (eq_of_beq z)
theorem pG:∀(names:List (Str×NameKind)) (h:Heap) (acc:List (Str×Addr)) (n:Str) (c:Addr),(n,c)∈cellsFrom h.objs.size names acc->
  ((n,NameKind.cell)∈names/\h.objs.size<=c/\(pushCells h names).IsCell c none)\/(n,c)∈acc:=by
 intro names
 induction names with
 |nil=>exact λ h acc n c hm=>.inr hm
 |cons x9 r ih=>
  intro h acc n c hm;obtain⟨k,kd⟩:=x9;by_cases hk:kd=.cell
  ·subst hk;have hz:=Heap.size_push h { cls:=.type "cell",data:=.cell none };rcases ih (h.push { cls:=.type "cell",data:=.cell none }) ((k,h.objs.size)::acc) n c (by rw[hz];exact hm) with ⟨h1,h2,h3⟩ | h1
   ·exact .inl ⟨List.mem_cons_of_mem _ h1,Nat.le_of_lt (Nat.lt_of_lt_of_le (Nat.lt_succ_self _) (Nat.le_trans (Nat.le_of_eq hz.symm) h2)),h3⟩
   ·rcases List.mem_cons.mp h1 with e | h1
    ·cases e;exact .inl ⟨List.mem_cons_self,Nat.le_refl _,⟨_,pushCells_keeps r _ _ _ (Heap.get?_push_size _ rfl),rfl⟩⟩
    ·exact .inr h1
  ·rw[kJ hk] at hm;rw[ES hk];exact(ih h acc n c hm).imp_left λ q=>⟨List.mem_cons_of_mem _ q.1,q.2⟩
theorem jO:∀(names:List (Str×NameKind)) (n:Nat) (acc:List (Str×Addr)) (x:Str×Addr),x∈acc->x∈cellsFrom n names acc:=by
 intro names
 induction names with
 |nil=>exact λ n acc x h=>h
 |cons x9 r ih=>
  intro n acc x h;obtain⟨k,kd⟩:=x9;by_cases hk:kd=.cell
  ·subst hk;exact ih _ _ x (List.mem_cons_of_mem _ h)
  ·rw[kJ hk];exact ih _ _ x h
theorem eE:∀(names:List (Str×NameKind)) (n:Nat) (acc:List (Str×Addr)) (x:Str),(x,NameKind.cell)∈names->∃c,(x,c)∈cellsFrom n names acc:=by
 intro names
 induction names with
 |nil=>exact λ n acc x h=>by cases h
 |cons x9 r ih=>
  intro n acc x h;obtain⟨k,kd⟩:=x9;by_cases hk:kd=.cell
  ·subst hk;rcases List.mem_cons.mp h with e | h
   ·cases e;exact⟨_,jO r _ _ _ List.mem_cons_self⟩
   ·exact ih _ _ x h
  ·rw[kJ hk];exact ih _ _ x ((List.mem_cons.mp h).resolve_left λ e=>hk (Prod.mk.inj e).2.symm)
theorem mM:∀(names:List (Str×NameKind)) (n:Nat) (acc:List (Str×Addr)),(acc.Pairwise λ x y=>x.2≠y.2)->(∀x∈acc,x.2<n)->(cellsFrom n names acc).Pairwise λ x y=>x.2≠y.2:=by
 intro names
 induction names with
 |nil=>exact λ n acc h _=>h
 |cons x9 r ih=>
  intro n acc h hl;obtain⟨k,kd⟩:=x9;by_cases hk:kd=.cell
  ·subst hk;exact ih _ _ (List.pairwise_cons.mpr ⟨λ y hy e=>Nat.lt_irrefl _ ((show n=y.2 from e)▸hl y hy),h⟩) λ x hx=>(List.mem_cons.mp hx).elim (λ e=>e▸Nat.lt_succ_self _) λ hx=>Nat.lt_succ_of_lt (hl x hx)
  ·rw[kJ hk];exact ih n acc h hl
theorem dJ:∀{l:List (Str×G)} {n:Str} {c:G},(n,c)∈l->∃c',l.lookup n=some c':=by
 intro l
 induction l with
 |nil=>exact λ h=>by cases h
 |cons x9 r ih=>
  intro n c h;obtain⟨k,v⟩:=x9;rw[List.lookup_cons];cases hb:n == k with
  |true=>exact⟨v,rfl⟩
  |false=>exact ih ((List.mem_cons.mp h).resolve_left λ e=>ne_of_beq_false hb (Prod.mk.inj e).1)
theorem ed:∀{l:List (Str×G)} {n:Str} {c:G},(l.map (·.1)).Nodup->(n,c)∈l->l.lookup n=some c:=by
 intro l
 induction l with
 |nil=>exact λ _ h=>by cases h
 |cons x9 r ih=>
  intro n c hn h;obtain⟨k,v⟩:=x9;have hn:=List.nodup_cons.mp hn;rw[List.lookup_cons];rcases List.mem_cons.mp h with e | h
  ·cases e;rw[beq_self_eq_true]
  ·rw[beq_false_of_ne λ e:n=k=>hn.1 (e▸List.mem_map_of_mem (f:=(·.1)) h)];exact ih hn.2 h
theorem oG{env:Env}:∀(names:List (Str×NameKind)) (x:Str),
  (names.map fun(n,k)=>if(k == NameKind.free && env.scope.kind == .function && env.kindOf n == some .cell) then(n,NameKind.cell) else(n,k)).lookup x=
   (names.lookup x).map λ k=>if(k == NameKind.free && env.scope.kind == .function && env.kindOf x == some .cell) then NameKind.cell else k:=by
 intro names
 induction names with
 |nil=>exact λ x=>rfl
 |cons x9 r ih=>
  intro x;obtain⟨n,k⟩:=x9;rw[List.map_cons,List.lookup_cons (as:=r)];show((if(k == NameKind.free && env.scope.kind == .function && env.kindOf n == some .cell)=true then(n,NameKind.cell) else(n,k))::_).lookup x=_;rw[<-apply_ite (Prod.mk n),List.lookup_cons];cases hb:x == n with
  |true=>rw[eq_of_beq hb];rfl
  |false=>exact ih x
theorem iq{env:Env}(ce:Env)(Ax:ce.scope=relabel scope env):ce.kindOf x=(scope.names.lookup x).map λ k=>if(k == NameKind.free && env.scope.kind == .function && env.kindOf x == some .cell) then NameKind.cell else k:=by
 unfold Env.kindOf;rw[Ax];exact oG scope.names x
theorem vW{env:Env}(ce:Env)(Ax:ce.scope=relabel scope env)(x:Str):kdOf (ce.kindOf x)=gC scope.names x:=by
 rw[iq ce Ax];unfold gC;cases h:scope.names.lookup x with
 |none=>rfl
 |some k=>
  simp only[Option.map_some];split
  ·rename_i hc;have:k=.free:=by
    simp only[Bool.and_eq_true,beq_iff_eq] at hc;exact hc.1.1
   subst this;rfl
  ·rfl
end
section
open PySem PyProof.Rows
variable{kk n:Nat}{ts:List Expr}{vs:List V}{H:bB}
section
variable(prog:Program)(w:World)(hB:Heap)(C:Addr)(J:Addr->Prop)(A:Around)(env:Env)
structure y6(t:Expr)(av:bB)(aj:ae)(tG h₂:Heap)(I:Addr)(wr:List Addr)(ds:List PyData)(fp:List Addr)(rs:List (Value×PyData))(St:Nat->Heap->Prop):Prop where
 ok:gx prog w hB C A t I wr fp rs ds St
 kp:∀b o,tG.get? b=some o->h₂.get? b=some o
 st:St 0 h₂
 rd:∀p∈rs,RD (Ex J av aj) tG p.1 p.2
 new:∀b∈wr,tG.get? b=none/\∃o,h₂.get? b=some o
 len:ds.length<=iH
noncomputable def Cs(t it:Expr)(O:ak)(U:ae)(xs:List V)(aj:ae):Prop:=
 ∀(H:bB) (s:Shared) (m cm:Str->Option Value) (Q:Value->Shared->Prop) (E:Value->Shared->Prop),FR J env m cm s.heap->ER w J H U env m cm s.heap O->SR prog w hB C J H U s.heap->
  (∀s₁ av h₂ tk I wr ds fp rs St,aS prog w hB C J s H U s₁ av aj->xs=ds.map V.d->y6 prog w hB C J A t av aj s₁.heap h₂ I wr ds fp rs St->Q (.ref I) { s₁ with heap:=h₂,toks:=tk })->
  wpAny (model prog w) A (eval it env) (λ x s₁=>wpAny (model prog w) A (pyIter x) Q E s₁) E s
end
section
variable{J:Addr->Prop}{A:Around}{env:Env}
variable{O:ak}{U af ar bL aj:ae}{a b r:V}{pos:Pos}{k:Nat}{e f t it:Expr}
theorem AX{x:PyData}{ds:List PyData}(ht:eY t)(hA:cZ A k)(L:c7 prog w hB C J A env it O U (.d x) aj)(hi:items? x=some ds):Cs prog w hB C J A env t it O U (ds.map V.d) aj:=
 λ H s m cm Q E F R S h=>by
  refine L H s m cm _ _ F R S λ v s₁ av g r=>?_;cases x with
  |list=>
   cases hi;obtain⟨l,vs,n,rfl,q1,q2,q3,q4⟩:=RD.bJ r;have jj:l≠s₁.heap.objs.size:=Nat.ne_of_lt (Heap.lt_size q1);refine wpAny_pyIter_list (IsList.of q1) ?_;refine h s₁ av _ s₁.toks _ _ _ _ _ _ g rfl ⟨gx.list ht hA.handled s₁.heap.objs.size l jj vs _,λ b o q=>Heap.get?_push_of_some _ q,⟨⟨_,Heap.get?_push_size _ rfl,rfl,rfl⟩,n,Heap.get?_push_of_some _ q1,q4.1⟩,λ p hp=>?_,λ b hb=>?_,by rw[<-q4.1];exact q3⟩
   ·exact List.mem_singleton.mp hp▸r
   ·exact List.mem_singleton.mp hb▸⟨aY _,_,Heap.get?_push_size _ rfl⟩
  |tuple=>
   cases hi;obtain⟨l,vs,n,rfl,q1,q2,q3,q4⟩:=RD.bR r;have jj:l≠s₁.heap.objs.size:=Nat.ne_of_lt (Heap.lt_size q1);refine wpAny_pyIter_tuple (IsTup.of q1) ?_;refine h s₁ av _ s₁.toks _ _ _ _ _ _ g rfl ⟨gx.tuple ht hA.handled s₁.heap.objs.size l jj vs _,λ b o q=>Heap.get?_push_of_some _ q,⟨⟨_,Heap.get?_push_size _ rfl,rfl,rfl⟩,n,Heap.get?_push_of_some _ q1,q4.1⟩,λ p hp=>?_,λ b hb=>?_,by rw[<-q4.1];exact q3⟩
   ·exact List.mem_singleton.mp hp▸r
   ·exact List.mem_singleton.mp hb▸⟨aY _,_,Heap.get?_push_size _ rfl⟩
  |_=>exact no hi
noncomputable def JR(prog:Program)(w:World)(hB:Heap)(C:Addr)(A:Around)(t:Expr)(T:String)(vs:List V)(U:ae)(xs:List V):Prop:=
 ∀(J:Addr->Prop) (H:bB) (s:Shared) (vals:List Value) (Q:Value->Shared->Prop) (E:Value->Shared->Prop),SR prog w hB C J H U s.heap->aE (VR w J H U s.heap) vals vs->
  (∀h₂ tk I wr ds fp rs St,xs=ds.map V.d->y6 prog w hB C J A t H U s.heap h₂ I wr ds fp rs St->Q (.ref I) { s with heap:=h₂,toks:=tk })->wpAny (model prog w) A (call (.type T) vals) (λ x s₁=>wpAny (model prog w) A (pyIter x) Q E s₁) E s
theorem D5{Y:Or}{x:Str}{T:String}{np:Pos}{es:List Expr}{xs:List V}(hE:aN env)(hk:env.kindOf x=some .globalImplicit)(hd:(x == ("__debug__":Str))=false)
  (ng:hB.Ns mainGlobals mg) (nb:hB.Ns builtinsNs mb) (hx:GN mg mb x (.type T)) (he:gJ Y es O U=some (vs,aj)) (L:xW prog w hB C J A env es pos O U vs aj) (D:JR prog w hB C A t T vs aj xs) :
  Cs prog w hB C J A env t (.Call (.Name x np) es [] pos) O U xs aj:=λ H s m cm Q E F R S h=>
 Call_Name rfl (rN hE hk hd ng nb hx S (PyProof.Rows.callWith_type (fO (g9 he)) (gZ he L F R S λ vals s₁ av g rs=>
  D J av s₁ vals _ _ g.sr rs λ h₂ tk I wr ds fp rs St e at'=>h s₁ av h₂ tk I wr ds fp rs St g e at')))
theorem jE{v:V}{xs:List PyData}(h:ux v=some xs):v=.d (.list xs):=by
 obtain⟨x,h1,h2⟩:=a9 h;obtain rfl:=c9 h1;obtain rfl:=kZ h2;rfl
theorem C3{p:Pos}{xs:List V}(hA:cZ A k)(e:draws "enumerate" vs=some xs):JR prog w hB C A (.Tuple ts kk p) "enumerate" vs U xs:=λ J H s vals Q E S R h=>by
 replace e:=jM ((if_pos rfl).symm.trans e)
 cases e with
 |mk x e=>
  obtain⟨v,rfl,rv⟩:=R.inv1;obtain⟨ds,e0,e⟩:=a9 e;cases e;obtain rfl:=jE e0;obtain⟨l,ws,n,rfl,q1,q2,q3,q4⟩:=RD.bJ rv;have hl:@LT.lt Nat _ l s.heap.objs.size:=Heap.lt_size q1;refine call_enumerate_list (IsList.of q1) λ h' he hit hz hk=>wpAny_pyIter_enum he ?_;refine h h' _ _ _ (ds.zipIdx.map fun(p:PyData×Nat)=>PyData.tuple [.int p.2,p.1]) _ _ _ ?_ ⟨gx.enum hA.handled (s.heap.objs.size+1) s.heap.objs.size l (Nat.succ_ne_self _) (Nat.ne_of_lt (Nat.lt_succ_of_lt hl)) (Nat.ne_of_lt hl) ws ds,hk,⟨_,n,he,hit,hk _ _ q1,q4.1⟩,λ p hp=>?_,λ b hb=>?_,?_⟩
  ·exact List.map_map.symm
  ·obtain rfl:=List.mem_singleton.mp hp;exact rv
  ·rcases List.mem_cons.mp hb with rfl | hb
   ·exact⟨Heap.get?_none_of_le (Nat.le_add_right _ _),_,he⟩
   ·obtain rfl:=List.mem_singleton.mp hb;obtain⟨o,ho,_⟩:=hit;exact⟨aY _,o,ho⟩
  ·rw[List.length_map,List.length_zipIdx,<-q4.1];exact q3
theorem vU{a:Int}{h:Heap}(ht:eY t)(hA:cZ A k){h₂:Heap}{I:Addr}(hn:n<=cW)(hI:h.get? I=none)(hk:∀b o,h.get? b=some o->h₂.get? b=some o)(hit:IsRangeIter h₂ I a n 1) :
  y6 prog w hB C J A t H U h h₂ I [I] ((List.range n).map fun(i:Nat)=>PyData.int (a+i)) [I] [] (λ i h=>IsRangeIter h I (a+(i:Nat)*1) ((n:Int)-(i:Nat)) 1):=
 ⟨gx.range ht hA.handled I a n,hk,(Int.add_zero a).symm▸(Int.sub_zero (n:Int)).symm▸hit,(λ p hp=>by cases hp),λ b hb=>List.mem_singleton.mp hb▸⟨hI,_,hit⟩,by rw[List.length_map,List.length_range];exact Nat.le_trans hn dM⟩
theorem Bz{s:Shared}{a b:Int}{xs:List V}{Q:Value->Shared->Prop}{E:Value->Shared->Prop}{h':Heap}{tk:Nat}{R:Addr}(ht:eY t)(hA:cZ A k)(e:Nl a b=some xs)
  (h:∀h₂ tk I wr ds fp rs St,xs=ds.map V.d->y6 prog w hB C J A t H U s.heap h₂ I wr ds fp rs St->Q (.ref I) { s with heap:=h₂,toks:=tk }) (t1 t2 t3:Tok) (hR:IsRange h' R a b 1 t1 t2 t3) (hk:∀c o,s.heap.get? c=some o->h'.get? c=some o) (hz:s.heap.objs.size<=h'.objs.size) :
  wpAny (model prog w) A (pyIter (.ref R)) Q E { s with heap:=h',toks:=tk }:=by
 by_cases hn:b-a<=(cW:Int)/\(-(2:Int)^60)<=a/\b<=(2:Int)^60/\a<=b
 ·cases(if_pos hn).symm.trans e;refine wpAny_pyIter_range hR (small_one (Int.le_trans (by decide) hn.2.1) (Int.lt_of_le_of_lt (Int.le_trans hn.2.2.2 hn.2.2.1) (by decide)) (Int.le_trans (Int.le_trans (by decide) hn.2.1) hn.2.2.2) (Int.lt_of_le_of_lt hn.2.2.1 (by decide))) ?_;have hsz:Builtin.Range.rangeSize a b 1=(((b-a).toNat:Nat):Int):=by
   rw[rangeSize_one,Int.toNat_of_nonneg (Int.sub_nonneg_of_le hn.2.2.2)];by_cases q:a<b
   ·rw[if_pos q]
   ·rw[if_neg q,Int.le_antisymm hn.2.2.2 (Int.not_lt.1 q),Int.sub_self]
  refine h _ _ _ _ ((List.range (b-a).toNat).map fun(i:Nat)=>PyData.int (a+i)) _ _ _ List.map_map.symm (vU (n:=(b-a).toNat) ht hA (Int.toNat_le.2 hn.1) (Heap.get?_none_of_le hz) (λ b o q=>Heap.get?_push_of_some _ (hk b o q)) ?_);rw[<-hsz];exact Heap.get?_push_size _ rfl
 ·exact no ((if_neg hn).symm.trans e)
theorem zQ{xs:List V}(ht:eY t)(hA:cZ A k)(e:draws "range" vs=some xs):JR prog w hB C A t "range" vs U xs:=λ J H s vals Q E S R h=>by
 replace e:Mw vs=some xs:=(if_pos rfl).symm.trans ((if_neg (by decide)).symm.trans e)
 have hz:∀o,s.heap.objs.size<=(s.heap.push o).objs.size:=λ o=>by rw[Heap.size_push];exact Nat.le_succ _
 cases vs with
 |nil=>exact no e
 |cons x vs=>
  cases vs with
  |nil=>
   obtain⟨v,rfl,rv⟩:=R.inv1;obtain⟨n,e0,e⟩:=a9 e;obtain rfl:=bq e0;obtain⟨tk,rfl⟩:=aT rv;exact call_range_1 (Bz ht hA e h _ _ _ (Heap.get?_push_size _ rfl) (λ b o q=>Heap.get?_push_of_some _ q) (hz _))
  |cons y vs=>
   cases vs with
   |nil=>
    obtain⟨u,v,rfl,ru,rv⟩:=R.inv2;obtain⟨n,e0,e⟩:=a9 e;obtain⟨n',e1,e⟩:=a9 e;obtain rfl:=bq e0;obtain rfl:=bq e1;obtain⟨t1,rfl⟩:=aT ru;obtain⟨t2,rfl⟩:=aT rv;exact call_range_2 (Bz ht hA e h _ _ _ (Heap.get?_push_size _ rfl) (λ b o q=>Heap.get?_push_of_some _ q) (hz _))
   |cons _ _=>exact no e
theorem na(a b:Nat)(h:a≠b):n+a≠n+b:=λ e=>h (Nat.add_left_cancel e)
theorem nl{l:Nat}(h:l<n)(k:Nat):l≠n+k:=Nat.ne_of_lt (Nat.lt_of_lt_of_le h (Nat.le_add_right n k))
theorem Jk{l1 l2:Nat}(h1:l1<n)(h2:l2<n):ZipApart (n+4) (n+2) (n+3) n (n+1) l1 l2:=
 ⟨na 2 4 (by decide),na 3 4 (by decide),na 0 4 (by decide),na 1 4 (by decide),na 2 3 (by decide),na 2 0 (by decide),na 2 1 (by decide),na 3 0 (by decide),na 3 1 (by decide),na 0 1 (by decide),nl h1 4,nl h1 3,nl h1 0,nl h1 1,nl h2 4,nl h2 3,nl h2 0,nl h2 1⟩
theorem G8{p:Pos}{xs:List V}(hA:cZ A k)(e:draws "zip" vs=some xs):JR prog w hB C A (.Tuple ts kk p) "zip" vs U xs:=λ J H s vals Q E S R h=>by
 replace e:=zd ((if_pos rfl).symm.trans ((if_neg (by decide)).symm.trans ((if_neg (by decide)).symm.trans e)))
 cases e with
 |mk x y e=>
  obtain⟨u,v,rfl,ru,rv⟩:=R.inv2;obtain⟨ds,e0,e⟩:=a9 e;obtain⟨es,e1,e⟩:=a9 e;cases e;obtain rfl:=jE e0;obtain rfl:=jE e1;obtain⟨l1,ws,n,rfl,q1,q2,q3,q4⟩:=RD.bJ ru;obtain⟨l2,us,n2,rfl,p1,p2,p3,p4⟩:=RD.bJ rv;have yX:@LT.lt Nat _ l1 s.heap.objs.size:=Heap.lt_size q1;have Ga:@LT.lt Nat _ l2 s.heap.objs.size:=Heap.lt_size p1;have MU:∀k,s.heap.get? (s.heap.objs.size+k)=none:=λ k=>Heap.get?_none_of_le (Nat.le_add_right _ k);refine call_zip_2 (IsList.of q1) (IsList.of p1) λ h' hz HK Jq QM QN hsz hk=>wpAny_pyIter_zip hz ?_;refine h h' _ _ _ ((ds.zip es).map fun(p:PyData×PyData)=>PyData.tuple [p.1,p.2]) _ _ _ ?_ ⟨gx.zip hA.handled (s.heap.objs.size+4) (s.heap.objs.size+2) (s.heap.objs.size+3) s.heap.objs.size (s.heap.objs.size+1) l1 l2 (Jk yX Ga) ws us ds es (nl yX 2) (nl Ga 2),hk,
   ⟨_,_,n,n2,hz,HK,Jq,QM,QN,hk _ _ q1,hk _ _ p1,q4.1,p4.1⟩,λ p hp=>?_,Ke ⟨MU 4,_,hz⟩ ⟨MU 2,_,HK⟩ ⟨MU 3,_,Jq⟩ ⟨aY _,QM.imp λ _ q=>q.1⟩ ⟨MU 1,QN.imp λ _ q=>q.1⟩,?_⟩
  ·exact List.map_map.symm
  ·rcases List.mem_cons.mp hp with rfl | hp
   ·exact ru
   ·obtain rfl:=List.mem_singleton.mp hp;exact rv
  ·rw[List.length_map,List.length_zip,<-q4.1];exact Nat.le_trans (Nat.min_le_left ..) q3
end
end
section
open PySem PyProof.Rows
variable{h₀:Heap}
section
variable{J J':Addr->Prop}{A:Around}{env:Env}
variable{H aB:bB}{U aj:ae}{h h':Heap}{v:Value}{x:V}{a:Addr}
structure Sub(J:Addr->Prop)(H:bB)(U:ae)(J':Addr->Prop)(aB:bB)(aj:ae):Prop where
 ex:∀b,Ex J' aB aj b->Ex J H U b
 len:U.length<=aj.length
 ag:∀l,l<U.length->aB l=H l
theorem RD.sub{d:PyData}(r:RD (Ex J H U) h v d)(s:Sub J H U J' aB aj):RD (Ex J' aB aj) h v d:=r.keeps (λ _ _ _ e=>e) λ b _ hb _ q=>hb (s.ex b q)
theorem VR.sub(r:VR w J H U h v x)(s:Sub J H U J' aB aj):VR w J' aB aj h v x:=by
 cases x with
 |d x=>exact RD.sub r s
 |ty n=>exact r
 |o l=>exact⟨by rw[s.ag l r.2];exact r.1,Nat.lt_of_lt_of_le r.2 s.len⟩
 |fs xs=>
  obtain⟨a,h1,h2,h3⟩:=r;exact⟨a,h1,λ q=>h2 (s.ex a q),h3⟩
theorem NR.sub{n:Nd}{a da:Addr}(r:NR prog w C J H U h a da n)(s:Sub J H U J' aB aj):NR prog w C J' aB aj h a da n:=by
 cases n with
 |aI xs=>
  obtain⟨vs,m,q1,q2,q3⟩:=r;exact⟨vs,m,q1,q2,q3.mono λ v x r=>r.sub s⟩
 |fF bj=>
  obtain⟨q0,ps,q1,q2⟩:=r;exact⟨q0,ps,q1,q2.mono λ p q r=>⟨r.1,r.2.sub s⟩⟩
 |jf bj=>
  obtain⟨q0,ps,q1,q3,q2⟩:=r;exact⟨q0,ps,q1,λ y hy q=>q3 y hy (s.ex _ q),q2.mono λ p q r=>⟨r.1,r.2.sub s⟩⟩
 |set xs=>exact r
 |ins fs=>
  obtain⟨q0,mA,q1,q2,q3,q4⟩:=r;exact⟨q0,mA,q1,q2,q3,λ m=>(q4 m).mono λ v x r=>r.sub s⟩
 |cn x=>exact RD.sub r s
 |eM=>exact r
theorem Sub.qy(hJ:∀b,J' b->J b):Sub J H U J' H U:=⟨λ b q=>q.elim (λ q=>.inl (hJ b q)) .inr,Nat.le_refl _,λ _ _=>rfl⟩
theorem SR.qy(S:SR prog w hB C J H U h)(hJ:∀b,J' b->J b):SR prog w hB C J' H U h:=
 ⟨S.keep,λ l n e=>(S.node l n e).sub (Sub.qy hJ),S.inj,S.off,S.two,λ b hb=>S.jo b (hJ b hb)⟩
theorem Sub.adopt{n:Nd}(ha:J a)(hJ:∀b,J' b->J b):Sub J H U J' (H.add U a a) (U++[n]) where
 ex:=λ b q=>by
  rcases q with q | q
  ·exact .inl (hJ b q)
  ·rcases nj q with q | ⟨_,rfl | rfl⟩
   ·exact .inr q
   ·exact .inl ha
   ·exact .inl ha
 len:=by simp
 ag:=λ l hl=>by unfold bB.add;rw[if_neg (Nat.ne_of_lt hl)]
end
section
namespace jZ
noncomputable section
def P(J:Addr->Prop)(J':Addr->Prop)(H:bB)(U:ae)(h:Heap)(a:Addr)(n:Nd):Prop:=∀(S:SR prog w hB C J H U h) (ha:J a) (hJ:∀b,J' b->J b) (qq:¬J' a) (hn:NR prog w C J' (H.add U a a) (U++[n]) h a a n),SR prog w hB C J' (H.add U a a) (U++[n]) h
def xe:(Addr->Prop)×(Addr->Prop)×(bB)×(ae)×(Heap)×(Addr)×(Nd):=@Classical.epsilon _ ⟨(default,default,default,default,default,default,.set [])⟩ λ x=>¬P x.1 x.2.1 x.2.2.1 x.2.2.2.1 x.2.2.2.2.1 x.2.2.2.2.2.1 x.2.2.2.2.2.2
def J:Addr->Prop:=xe.1
def J':Addr->Prop:=xe.2.1
def H:bB:=xe.2.2.1
def U:ae:=xe.2.2.2.1
def h:Heap:=xe.2.2.2.2.1
def a:Addr:=xe.2.2.2.2.2.1
def n:Nd:=xe.2.2.2.2.2.2
theorem core:P J J' H U h a n:=λ S ha hJ qq hn=>by
 have sb:Sub J H U J' (H.add U a a) (U++[n]):=Sub.adopt ha hJ;have hi:∀l,l<U.length->(H.add U a a) l=H l:=sb.ag;have ht:(H.add U a a) U.length=(a,a):=by unfold bB.add;rw[if_pos rfl]
 have cs:∀l m,(U++[n])[l]?=some m->(l<U.length/\U[l]?=some m)\/(l=U.length/\m=n):=λ l m q=>by
  refine Classical.byCases (p:=l<U.length) (λ k=>?_) (λ k=>?_)
  ·rw[List.getElem?_append_left k] at q;exact .inl ⟨k,q⟩
  ·have h1:=(List.getElem?_eq_some_iff.mp q).1;have q2:l=U.length:=by simp at h1;lia
   subst q2;simp at q;exact .inr ⟨rfl,q.symm⟩
 have fk:=(S.jo a ha).1;refine⟨S.keep,λ l m q=>?_,λ l l' m m' q1 q2 q3 q4 q5=>?_,λ l m q1 q2=>?_,λ l m q1 q2=>?_,λ b hb=>?_⟩
 ·rcases cs l m q with ⟨k,q⟩ | ⟨rfl,rfl⟩
  ·rw[hi l k];exact(S.node l m q).sub sb
  ·rw[ht];exact hn
 ·rcases cs l m q1 with ⟨k,Mo⟩ | ⟨rfl,rfl⟩<;>rcases cs l' m' q3 with ⟨k',Mp⟩ | ⟨rfl,rfl⟩
  ·rw[hi l k,hi l' k'] at q5;exact S.inj l l' m m' Mo q2 Mp q4 q5
  ·exfalso;rw[hi l k,ht] at q5;have g:=Own.of (H:=H) Mo q2;rcases q5 with q | q | q<;>dsimp only at q
   ·exact fk (q▸g.1)
   ·exact fk (q▸g.1)
   ·exact fk (q▸g.2)
  ·exfalso;rw[ht,hi l' k'] at q5;have g:=Own.of (H:=H) Mp q4;rcases q5 with q | q | q<;>dsimp only at q
   ·exact fk (q▸g.1)
   ·exact fk (q▸g.2)
   ·exact fk (q▸g.2)
  ·rfl
 ·rcases cs l m q1 with ⟨k,q1⟩ | ⟨rfl,rfl⟩
  ·rw[hi l k];exact S.off l m q1 q2
  ·rw[ht];exact⟨(S.jo a ha).2.1,(S.jo a ha).2.1⟩
 ·rcases cs l m q1 with ⟨k,q1⟩ | ⟨rfl,rfl⟩
  ·rw[hi l k];exact S.two l m q1 q2
  ·rw[ht]
 ·obtain⟨h1,h2,h3⟩:=S.jo b (hJ b hb);refine⟨λ q=>?_,h2,h3⟩;rcases nj q with q | ⟨_,rfl | rfl⟩
  ·exact h1 q
  ·exact qq hb
  ·exact qq hb
end
end jZ
variable{J J':Addr->Prop}{A:Around}{env:Env}
variable{H aB:bB}{U aj:ae}{h h':Heap}{v:Value}{x:V}{a:Addr}
theorem SR.adopt{n:Nd}(S:SR prog w hB C J H U h)(ha:J a)(hJ:∀b,J' b->J b)(qq:¬J' a)(hn:NR prog w C J' (H.add U a a) (U++[n]) h a a n):SR prog w hB C J' (H.add U a a) (U++[n]) h:=aU (Q:=λ x:(Addr->Prop)×(Addr->Prop)×(bB)×(ae)×(Heap)×(Addr)×(Nd)=>jZ.P x.1 x.2.1 x.2.2.1 x.2.2.2.1 x.2.2.2.2.1 x.2.2.2.2.2.1 x.2.2.2.2.2.2) jZ.core (J,J',H,U,h,a,n) S ha hJ qq hn
theorem bZ.turn{VD:Addr->Prop}(e:bZ H U h₀ aB aj h)(hk:∀b o,¬VD b->h.get? b=some o->h'.get? b=some o)(hY:∀b,VD b->h₀.get? b=none):bZ H U h₀ aB aj h':=
 ⟨e.len,e.ag,e.own,λ b o hb q=>hk b o (λ y=>by rw[hY b y] at q;cases q) (e.kp b o hb q)⟩
theorem zF{df:bB}{dg:ae}{D:Addr}{ws:List Value}{nn:Nat}{own:Bool}{vs:List V}{r:V}(S:SR prog w hB C J H U h)(ev:bZ df dg h₀ H U h)(hD:J D)(hJ:∀b,J' b->J b)(QZ:¬J' D)(Qs:h₀.get? D=none)
  (ho:h.get? D=some (bo ws nn)) (hl:ws.length<=iH) (rs:aE (VR w J H U h) ws vs) (e:dC own vs U=some (r,aj)) :
  ∃aB,SR prog w hB C J' aB aj h/\bZ df dg h₀ aB aj h/\VR w J' aB aj h (.ref D) r:=by
 cases own with
 |true=>
  cases e;have sb:Sub J H U J' (H.add U D D) (U++[.aI vs]):=Sub.adopt hD hJ;refine⟨H.add U D D,S.adopt hD hJ QZ ⟨ws,nn,ho,hl,rs.mono λ v x r=>r.sub sb⟩,⟨Nat.le_trans ev.len sb.len,λ l hl=>?_,λ b q=>?_,ev.kp⟩,VR.top⟩
  ·rw[sb.ag l (Nat.lt_of_lt_of_le hl ev.len)];exact ev.ag l hl
  ·rcases nj q with q | ⟨_,rfl | rfl⟩
   ·exact ev.own b q
   ·exact .inr Qs
   ·exact .inr Qs
 |false=>
  obtain⟨ds,e1,e2⟩:=Option.map_eq_some_iff.mp e;cases e2;rw[je e1] at rs;refine⟨H,S.qy hJ,ev,RD.qz ho (λ q=>?_) hl ((rh rs).mono λ v x r=>r.sub (Sub.qy hJ))⟩;rcases q with q | q
  ·exact QZ q
  ·exact(S.jo D hD).1 q
theorem wA{t:Expr}{I:Addr}{wr fp:List Addr}{rs:List (Value×PyData)}{ds:List PyData}{St:Nat->Heap->Prop}{i:Nat}(ok:gx prog w hB C A t I wr fp rs ds St)(st:St i h)(rd:∀p∈rs,RD (Ex J H U) h p.1 p.2)
  (hk:∀b o,(b∈wr\/¬Ex J H U b)->h.get? b=some o->h'.get? b=some o):St i h':=by
 refine ok.frame i h h' st λ b hb o ho=>hk b o ?_ ho;rcases ok.vo b hb with q | ⟨d,q⟩
 ·exact .inl q
 ·obtain⟨_,_,hx⟩:=RD.sA (rd _ q);exact .inr hx
end
end
section
open PySem PyProof.Rows
variable{E:Value->Shared->Prop}{cm:Str->Option Value}{h h':Heap}{m:Str->Option Value}{nn:Nat}{s:Shared}{ws:List Value}{H:bB}{aC:ak}
section
variable(prog:Program)(w:World)(hB:Heap)(C:Addr)(J:Addr->Prop)(A:Around)(env:Env)
noncomputable def Cv(ifs:List Expr)(O:ak)(U:ae)(b:Bool)(aj:ae):Prop:=
 ∀(H:bB) (s:Shared) (m cm:Str->Option Value) (Q:Bool->Shared->Prop) (E:Value->Shared->Prop),FR J env m cm s.heap->ER w J H U env m cm s.heap O->SR prog w hB C J H U s.heap->
  (∀s' aB,aS prog w hB C J s H U s' aB aj->Q b s')->
  wpAny (model prog w) A (forIn ifs true λ c r=>if r=true then do let ok<-isTrue c env (eval c env);pure (ForInStep.yield ok) else pure (ForInStep.yield r)) Q E s
end
section
variable{J:Addr->Prop}{A:Around}{env ce:Env}
variable{O:ak}{U af ar bL aj:ae}{a b r:V}{pos:Pos}{k:Nat}{e f t it:Expr}
theorem yO:∀(ifs:List Expr),(forIn ifs false λ c r=>if r=true then do let ok<-isTrue c env (eval c env);pure (ForInStep.yield ok) else pure (ForInStep.yield r):Sem Bool)=pure false:=by
 intro ifs
 induction ifs with
 |nil=>
  exact rfl
 |cons c r ih=>
  rw[List.forIn_cons];exact ih
theorem Ja:Cv prog w hB C J A env [] O U true U:=λ H s m cm Q E F R S h=>wpAny_pure (h s H (aS.refl S))
theorem Fo{ifs:List Expr}{c c':Bool}(T:xZ prog w hB C J A env e O U c af)(R:if c then Cv prog w hB C J A env ifs O af c' ar else(c'=false/\ar=af)):Cv prog w hB C J A env (e::ifs) O U c' ar:=λ H s m cm Q E F Re S h=>by
 rw[List.forIn_cons];refine wpAny_bind (wpAny_bind (T H s m cm _ _ F Re S λ s₁ av g=>wpAny_pure ?_));cases c with
 |true=>exact R av s₁ m cm _ _ (F.aH S g.aH) (Re.aH g.aH) g.sr λ s₂ ck cP=>h s₂ ck (g.trans cP)
 |false=>
  obtain⟨rfl,rfl⟩:=R;show wpAny _ _ (forIn ifs false _) _ _ _;rw[yO];exact wpAny_pure (h s₁ av g)
theorem FR.E5(F:FR J env m cm h)(hL:∀o,h.get? env.locals=some o->h'.get? env.locals=some o)(hc:∀n c,env.cells.lookup n=some c->∀o,h.get? c=some o->h'.get? c=some o):FR J env m cm h' where
 ns:=(by obtain⟨o,es,ep,ho,r⟩:=F.ns;exact⟨o,es,ep,hL o ho,r⟩)
 jL:=F.jL
 cell:=λ n c hn=>(by obtain⟨⟨o,ho,hd⟩,h2,h3⟩:=F.cell n c hn;exact⟨⟨o,hc n c hn o ho,hd⟩,h2,h3⟩)
 apart:=F.apart
 has:=F.has
theorem ER.bT(R:ER w J H U env m cm h O)(hk:∀b o,¬J b->h.get? b=some o->h'.get? b=some o):ER w J H U env m cm h' O:=λ x v' hx hm=>by
 obtain⟨v,h1,h2⟩:=R x v' hx hm;exact⟨v,h1,h2.bT hk⟩
theorem ER.less(R:ER w J H U env m cm h O)(hl:∀x v,aC x=some v->O x=some v):ER w J H U env m cm h aC:=λ x v' hx hm=>R x v' (hl x v' hx) hm
theorem uM{D:Addr}{u:Value}{Q:Value->Shared->Prop}(ho:s.heap.get? D=some (bo ws nn))(hl:ws.length<=iH)
  (h:∀h' n',h'.get? D=some (bo (ws++[u]) n')->(∀b o,b≠D->s.heap.get? b=some o->h'.get? b=some o)->Q .none { s with heap:=h' }):wpAny (model prog w) A (call (.builtin "list.append") [.ref D,u]) Q E s:=by
 obtain⟨n',HS⟩:=mF (u:=u) ho;refine call_meets F.slot_list_append ⟨_,ho,rfl⟩ F.entry_list_append (F.args_list_append_2 _ _) (list_append D ws.toArray nn u (by rw[List.size_toArray];exact Nat.le_trans hl bu)) ⟨ho,?_⟩;exact h _ n' HS λ b o h1 ho=>(Heap.get?_update_other _ _ (Ne.symm h1)).trans ho
structure CK(J:Addr->Prop)(D:Addr)(rs:List (Value×PyData))(St:Nat->Heap->Prop)(j:Nat)(ws:List Value)(nn:Nat)(done:List V)(H:bB)(U:ae)(h:Heap):Prop where
 acc:h.get? D=some (bo ws nn)
 all:aE (VR w J H U h) ws done
 st:St j h
 rd:∀p∈rs,RD (Ex J H U) h p.1 p.2
theorem CK.mv{D I:Addr}{wr fp:List Addr}{rs:List (Value×PyData)}{ds:List PyData}{St:Nat->Heap->Prop}{j:Nat}{done:List V}{aB:bB}{U aj:ae}(ok:gx prog w hB C A t I wr fp rs ds St)(K:CK J D rs St j ws nn done H U h)(m:Mv J H U h J aB aj h')
  (kw:∀b o,(b=D\/b∈wr)->h.get? b=some o->h'.get? b=some o):CK J D rs St j ws nn done aB aj h':=
 ⟨kw D _ (.inl rfl) K.acc,K.all.mono λ v x r=>r.mv m,wA ok K.st K.rd λ b o hb ho=>hb.elim (λ q=>kw b o (.inr q) ho) λ q=>m.kp b o q ho,λ p hp=>(K.rd p hp).mv m⟩
structure CA(J:Addr->Prop)(ce:Env)(t:Expr)(D:Addr)(wr:List Addr)(h₀:Heap):Prop where
 wJ:∀b∈wr,J b
 DJ:J D
 Dw:D∉wr
 Lw:ce.locals∉wr
 cw:∀n c,ce.cells.lookup n=some c->c∉wr
 DL:D≠ce.locals
 Dc:∀n c,ce.cells.lookup n=some c->c≠D
 wn:∀b∈wr,h₀.get? b=none
 Dn:h₀.get? D=none
 Wn:∀b,WT ce (ay t) b->h₀.get? b=none
inductive JM(J:Addr->Prop)(Y:Or)(ce:Env)(t elt:Expr)(ifs:List Expr)(O:ak)(eV:Shared)(df:bB)(dg ar:ae)(D:Addr)(rs:List (Value×PyData))(ds:List PyData)(St:Nat->Heap->Prop)(vs:List V)(n:Nat)(s:Shared):Prop
 |mk (i:Nat) (iA:ae) (done rest:List V) (aB:bB) (m cm:Str->Option Value) (ws:List Value) (nn:Nat) (hn:n=ds.length-i) (le:i<=ds.length) (same:pz eV s) (aH:bZ df dg eV.heap aB iA s.heap) (sr:SR prog w hB C J aB iA s.heap) (fr:FR J ce m cm s.heap)
  (er:ER w J aB iA ce m cm s.heap (forget (ay t) O)) (K:CK J D rs St i ws nn done aB iA s.heap) (dn:done.length<=i) (cl:eZ (λ x=>ba t x O) (λ O U=>gX Y ifs O U) (λ O U=>ev Y elt O U) ((ds.drop i).map V.d) iA=some (rest,ar)) (ap:done++rest=vs)
theorem gx.next{β:Type}{N:Sem β}{K:Value->Sem β}{VE:β->Shared->Prop}{I:Addr}{wr fp:List Addr}{rs:List (Value×PyData)}{ds:List PyData}{St:Nat->Heap->Prop}{i:Nat}{d:PyData}
  (ok:gx prog w hB C A t I wr fp rs ds St) (S:SR prog w hB C J H U s.heap) (rd:∀p∈rs,RD (Ex J H U) s.heap p.1 p.2) (hw:∀b∈wr,J b) (hd:ds[i]?=some d) (st:St i s.heap)
  (h:∀v h' tk,(∀b o,b∉wr->s.heap.get? b=some o->h'.get? b=some o)->(∀b∈wr,∃o,h'.get? b=some o)->St (i+1) h'->RD (Ex J H U) h' v d->wpAny (model prog w) A (K v) VE E { s with heap:=h',toks:=tk }) :
  wpAny (model prog w) A (pyNext (.ref I) >>= λ r=>match r with | none=>N | some v=>letOwnedTupleGo t (.ref I) v >>= λ _=>K v) VE E s:=
 wpAny_bind (wpAny_mono (ok.step J H U s i d S rd hw hd st (λ v s₂=>wpAny (model prog w) A (K v) VE E s₂) E h) (λ r s₁ hr=>by obtain⟨v,rfl,hv⟩:=hr;exact wpAny_bind hv) λ _ _ q=>q)
theorem p9{x:V}(hb:ba t x O=some aC)(y:Str)(v:V)(q:forget (ay t) O y=some v):aC y=some v:=by
 refine Classical.byCases (p:=(ay t).contains y=true) (λ c=>?_) (λ c=>?_)
 ·exact no ((if_pos c).symm.trans q)
 ·obtain⟨_,_,e⟩:=lD t x O aC O hb;rcases e y with ⟨p1,_⟩ | ⟨_,p2,_⟩
  ·exact absurd (List.contains_iff_mem.mpr p1) c
  ·exact p2.trans ((if_neg c).symm.trans q)
end
section
namespace gb
noncomputable section
def P(J:Addr->Prop)(A:Around)(ce:Env)(O:ak)(ar:ae)(pos:Pos)(k:Nat)(t:Expr)(Y:Or)(elt:Expr)(iter:Expr)(ifs:List Expr)(scope:Scope)(I:Addr)(D:Addr)(wr:List Addr)(fp:List Addr)(rs:List (Value×PyData))(ds:List PyData)(St:Nat->Heap->Prop)(eV:Shared)(df:bB)(dg:ae)(vs:List V)(RR:Result->Shared->Prop):Prop:=∀(hE:aN ce) (hA:cZ A k) (iW:∀z∈ay t,bE ce z) (ok:gx prog w hB C A t I wr fp rs ds St) (uG:∀aC cy v cR,ev Y elt aC cy=some (v,cR)->c7 prog w hB C J A ce elt aC cy v cR) (sL:∀aC cy b cR,gX Y ifs aC cy=some (b,cR)->Cv prog w hB C J A ce ifs aC cy b cR) (Z:CA J ce t D wr eV.heap) (aZ:ds.length<=iH) (Qu:∀s' aB ws nn m',pz eV s'->bZ df dg eV.heap aB ar s'.heap->SR prog w hB C (λ b=>J b/\b∉wr) aB ar s'.heap->s'.heap.get? D=some (bo ws nn)->
   aE (VR w (λ b=>J b/\b∉wr) aB ar s'.heap) ws vs->ws.length<=iH->s'.heap.Ns ce.locals m'->RR (.ok .next) s') (n:Nat) (s:Shared) (hI:JM J Y ce t elt ifs O eV df dg ar D rs ds St vs n s),codeAny (model prog w) A (.compLoop (.ListComp elt [⟨t,iter,ifs,0⟩] scope pos) 0 (.ref I) (.ref D) ce) RR s
def xe:(Addr->Prop)×(Around)×(Env)×(ak)×(ae)×(Pos)×(Nat)×(Expr)×(Or)×(Expr)×(Expr)×(List Expr)×(Scope)×(Addr)×(Addr)×(List Addr)×(List Addr)×(List (Value×PyData))×(List PyData)×(Nat->Heap->Prop)×(Shared)×(bB)×(ae)×(List V)×(Result->Shared->Prop):=@Classical.epsilon _ ⟨(default,{},default,default,default,default,default,default,⟨λ _ _=>none,λ _ _ _=>none,λ _=>none,λ _=>false,λ _=>false,default,0⟩,default,default,default,default,default,default,default,default,default,default,default,{},default,default,default,default)⟩ λ x=>¬P x.1 x.2.1 x.2.2.1 x.2.2.2.1 x.2.2.2.2.1 x.2.2.2.2.2.1 x.2.2.2.2.2.2.1 x.2.2.2.2.2.2.2.1 x.2.2.2.2.2.2.2.2.1 x.2.2.2.2.2.2.2.2.2.1 x.2.2.2.2.2.2.2.2.2.2.1 x.2.2.2.2.2.2.2.2.2.2.2.1 x.2.2.2.2.2.2.2.2.2.2.2.2.1 x.2.2.2.2.2.2.2.2.2.2.2.2.2.1 x.2.2.2.2.2.2.2.2.2.2.2.2.2.2.1 x.2.2.2.2.2.2.2.2.2.2.2.2.2.2.2.1 x.2.2.2.2.2.2.2.2.2.2.2.2.2.2.2.2.1 x.2.2.2.2.2.2.2.2.2.2.2.2.2.2.2.2.2.1 x.2.2.2.2.2.2.2.2.2.2.2.2.2.2.2.2.2.2.1 x.2.2.2.2.2.2.2.2.2.2.2.2.2.2.2.2.2.2.2.1 x.2.2.2.2.2.2.2.2.2.2.2.2.2.2.2.2.2.2.2.2.1 x.2.2.2.2.2.2.2.2.2.2.2.2.2.2.2.2.2.2.2.2.2.1 x.2.2.2.2.2.2.2.2.2.2.2.2.2.2.2.2.2.2.2.2.2.2.1 x.2.2.2.2.2.2.2.2.2.2.2.2.2.2.2.2.2.2.2.2.2.2.2.1 x.2.2.2.2.2.2.2.2.2.2.2.2.2.2.2.2.2.2.2.2.2.2.2.2
def J:Addr->Prop:=xe.1
def A:Around:=xe.2.1
def ce:Env:=xe.2.2.1
def O:ak:=xe.2.2.2.1
def ar:ae:=xe.2.2.2.2.1
def pos:Pos:=xe.2.2.2.2.2.1
def k:Nat:=xe.2.2.2.2.2.2.1
def t:Expr:=xe.2.2.2.2.2.2.2.1
def Y:Or:=xe.2.2.2.2.2.2.2.2.1
def elt:Expr:=xe.2.2.2.2.2.2.2.2.2.1
def iter:Expr:=xe.2.2.2.2.2.2.2.2.2.2.1
def ifs:List Expr:=xe.2.2.2.2.2.2.2.2.2.2.2.1
def scope:Scope:=xe.2.2.2.2.2.2.2.2.2.2.2.2.1
def I:Addr:=xe.2.2.2.2.2.2.2.2.2.2.2.2.2.1
def D:Addr:=xe.2.2.2.2.2.2.2.2.2.2.2.2.2.2.1
def wr:List Addr:=xe.2.2.2.2.2.2.2.2.2.2.2.2.2.2.2.1
def fp:List Addr:=xe.2.2.2.2.2.2.2.2.2.2.2.2.2.2.2.2.1
def rs:List (Value×PyData):=xe.2.2.2.2.2.2.2.2.2.2.2.2.2.2.2.2.2.1
def ds:List PyData:=xe.2.2.2.2.2.2.2.2.2.2.2.2.2.2.2.2.2.2.1
def St:Nat->Heap->Prop:=xe.2.2.2.2.2.2.2.2.2.2.2.2.2.2.2.2.2.2.2.1
def eV:Shared:=xe.2.2.2.2.2.2.2.2.2.2.2.2.2.2.2.2.2.2.2.2.1
def df:bB:=xe.2.2.2.2.2.2.2.2.2.2.2.2.2.2.2.2.2.2.2.2.2.1
def dg:ae:=xe.2.2.2.2.2.2.2.2.2.2.2.2.2.2.2.2.2.2.2.2.2.2.1
def vs:List V:=xe.2.2.2.2.2.2.2.2.2.2.2.2.2.2.2.2.2.2.2.2.2.2.2.1
def RR:Result->Shared->Prop:=xe.2.2.2.2.2.2.2.2.2.2.2.2.2.2.2.2.2.2.2.2.2.2.2.2
theorem core:P J A ce O ar pos k t Y elt iter ifs scope I D wr fp rs ds St eV df dg vs RR:=λ hE hA iW ok uG sL Z aZ Qu n s hI=>by
 refine codeAny_loop rfl (JM J Y ce t elt ifs O eV df dg ar D rs ds St vs) (λ n s hI=>?_) n hI;obtain⟨i,iA,done,rest,aB,m,cm,ws,nn,rfl,le,same,aH,sr,fr,er,K,dn,cl,ap⟩:=hI;refine wpAny_noted ?_;rw[compTurn_list];refine wpAny_bind (wpAny_standAt ?_);refine Classical.byCases (p:=i<ds.length) (λ hi=>?_) (λ hi=>?_)
 ·rw[List.drop_eq_getElem_cons hi,List.map_cons] at cl;refine bC λ k9=>?_;obtain⟨aC,hb,cl⟩:=a9 cl;obtain⟨tb,cy,ht,gk⟩:=dy cl;refine k9 ?_;refine ok.next sr K.rd Z.wJ (List.getElem?_eq_getElem hi) K.st λ v ha UY sO N6 UO Pr=>?_;have Ib:∀b o,¬J b->s.heap.get? b=some o->ha.get? b=some o:=λ b o hb ho=>sO b o (λ q=>hb (Z.wJ b q)) ho;have Fa:FR J ce m cm ha:=fr.E5 (λ o ho=>sO _ o Z.Lw ho) λ n c hc o ho=>sO c o (Z.cw n c hc) ho;have Ka:CK J D rs St (i+1) ws nn done aB iA ha:=⟨sO _ _ Z.Dw K.acc,K.all.mono λ v x r=>r.bT Ib,UO,λ p hp=>(K.rd p hp).bT Ib⟩;have wj:∀b,WT ce (ay t) b->J b:=λ b q=>q.elim (λ q=>q▸Fa.jL) (by rintro⟨z,_,_,hz⟩;exact(Fa.cell z b hz).2.1);refine wpAny_bind (lC hE hA t (forget (ay t) O) aC (.d ds[i]) v _ m cm _ _ (rn hb) iW Fa (er.bT Ib) (sr.bT Ib λ b hb=>?_) Pr λ rO UZ m' cm' Fb Rb Sb Ic=>?_)
  ·refine Classical.byCases (p:=b∈wr) (λ q=>?_) (λ q=>?_)
   ·exact N6 b q
   ·obtain⟨_,_,o,ho⟩:=sr.jo b hb;exact⟨o,sO b o q ho⟩
  have Kb:CK J D rs St (i+1) ws nn done aB iA rO:=Ka.mv ok (.bT λ b o hb ho=>Ic b o (λ q=>hb (wj b q)) ho) λ b o hb ho=>Ic b o (λ q=>hb.elim (λ e=>q.elim (λ q=>Z.DL (e▸q)) (by rintro⟨z,_,_,hz⟩;exact Z.Dc z b hz e)) λ e=>q.elim (λ q=>Z.Lw (q▸e)) (by rintro⟨z,_,_,hz⟩;exact Z.cw z b hz e)) ho;have Eb:bZ df dg eV.heap aB iA rO:=(aH.turn sO Z.wn).turn Ic Z.Wn;have Qb:∀b,(b=D\/b∈wr)->J b:=λ b q=>q.elim (λ e=>e▸Z.DJ) (Z.wJ b);refine wpAny_bind (sL aC iA tb cy ht aB _ m' cm' _ _ Fb Rb Sb λ sc uB gc=>?_);have Kc:CK J D rs St (i+1) ws nn done uB cy sc.heap:=Kb.mv ok gc.aH.mv λ b o hb ho=>gc.aH.kp b o (Sb.jo b (Qb b hb)).1 ho;have Fc:FR J ce m' cm' sc.heap:=Fb.aH Sb gc.aH;have Rc:ER w J uB cy ce m' cm' sc.heap aC:=Rb.aH gc.aH;cases tb with
  |false=>exact wpAny_pure ⟨rfl,ds.length-(i+1),Nat.sub_lt_sub_left hi (Nat.lt_succ_self i),i+1,cy,done,rest,uB,m',cm',ws,nn,rfl,hi,same.trans gc.same,Eb.trans gc.aH,gc.sr,Fc,Rc.less (p9 hb),Kc,Nat.le_succ_of_le dn,gk,ap⟩
  |true=>
   refine bC λ k9=>?_;obtain⟨v',cR,Tq,gk⟩:=dy gk;obtain⟨Jg,bL,wY,gk⟩:=dy gk;cases gk;refine k9 ?_;refine wpAny_bind (wpAny_bind (uG aC cy v' cR Tq uB sc m' cm' _ _ Fc Rc gc.sr λ u sd RU gd ru=>?_));have Kd:CK J D rs St (i+1) ws nn done RU cR sd.heap:=Kc.mv ok gd.aH.mv λ b o hb ho=>gd.aH.kp b o (gc.sr.jo b (Qb b hb)).1 ho;have Fd:FR J ce m' cm' sd.heap:=Fc.aH gc.sr gd.aH;refine wpAny_bind (uM Kd.acc (by rw[Kd.all.1];exact Nat.le_trans dn (Nat.le_trans le aZ)) λ he n' De Jx=>?_);have LZ:∀b o,¬J b->sd.heap.get? b=some o->he.get? b=some o:=λ b o hb ho=>Jx b o (λ q=>hb (q▸Z.DJ)) ho;refine wpAny_pure (wpAny_pure ⟨rfl,ds.length-(i+1),Nat.sub_lt_sub_left hi (Nat.lt_succ_self i),i+1,cR,done++[v'],Jg,RU,m',cm',ws++[u],n',rfl,hi,(same.trans gc.same).trans gd.same,((Eb.trans gc.aH).trans gd.aH).turn (VD:=λ b=>b=D) Jx (λ b hb=>hb▸Z.Dn),
    gd.sr.bT LZ λ b hb=>?_,Fd.E5 (λ o ho=>Jx _ o (Ne.symm Z.DL) ho) λ n c hc o ho=>Jx c o (Z.Dc n c hc) ho,((Rc.aH gd.aH).less (p9 hb)).bT LZ,
    ⟨De,(Kd.all.mono λ v x r=>r.bT LZ).append (aE.one (ru.bT LZ)),wA ok Kd.st Kd.rd λ b o hb ho=>Jx b o (λ q=>?_) ho,λ p hp=>(Kd.rd p hp).bT LZ⟩,by rw[List.length_append];exact Nat.succ_le_succ dn,wY,by rw[List.append_assoc];exact ap⟩)
   ·refine Classical.byCases (p:=b=D) (λ q=>?_) (λ q=>?_)
    ·exact q▸⟨_,De⟩
    ·obtain⟨_,_,o,ho⟩:=gd.sr.jo b hb;exact⟨o,Jx b o q ho⟩
   ·exact hb.elim (λ hb=>Z.Dw (q▸hb)) λ hb=>hb (.inl (q▸Z.DJ))
 ·obtain rfl:i=ds.length:=Nat.le_antisymm le (Nat.le_of_not_lt hi);rw[List.drop_length] at cl;refine bC λ k9=>?_;cases cl;refine k9 ?_;refine wpAny_bind (ok.done s K.st _ _ λ h' tk kp=>wpAny_pure ?_);have wX:∀b,(J b/\b∉wr)->J b\/s.heap.get? b=none:=λ b hb=>.inl hb.1;have kj:∀b o,¬J b->s.heap.get? b=some o->h'.get? b=some o:=λ b o hb ho=>kp b o (λ q=>hb (Z.wJ b q)) ho;refine Qu _ aB ws nn m same (aH.turn (VD:=λ b=>b∈wr) kp Z.wn) (sr.eu wX kj λ b hb=>?_) (kp _ _ Z.Dw K.acc) ?_ (by rw[K.all.1];exact Nat.le_trans dn aZ) ?_
  ·obtain⟨_,_,o,ho⟩:=sr.jo b hb.1;exact⟨o,kp b o hb.2 ho⟩
  ·rw[<-ap,List.append_nil];exact K.all.mono λ v x r=>r.eu wX kj
  ·obtain⟨o,es,ep,ho,r⟩:=fr.ns;exact⟨o,es,ep,kp _ _ Z.Lw ho,r⟩
end
end gb
variable{J:Addr->Prop}{A:Around}{env ce:Env}
variable{O:ak}{U af ar bL aj:ae}{a b r:V}{pos:Pos}{k:Nat}{e f t it:Expr}
theorem yf{J:Addr->Prop}{A:Around}{ce:Env}{O:ak}{ar:ae}{pos:Pos}{k:Nat}{t:Expr}{Y:Or}{elt:Expr}{iter:Expr}{ifs:List Expr}{scope:Scope}{I:Addr}{D:Addr}{wr:List Addr}{fp:List Addr}{rs:List (Value×PyData)}{ds:List PyData}{St:Nat->Heap->Prop}{eV:Shared}{df:bB}{dg:ae}{vs:List V}{RR:Result->Shared->Prop}:gb.P J A ce O ar pos k t Y elt iter ifs scope I D wr fp rs ds St eV df dg vs RR:=aU (Q:=λ x:(Addr->Prop)×(Around)×(Env)×(ak)×(ae)×(Pos)×(Nat)×(Expr)×(Or)×(Expr)×(Expr)×(List Expr)×(Scope)×(Addr)×(Addr)×(List Addr)×(List Addr)×(List (Value×PyData))×(List PyData)×(Nat->Heap->Prop)×(Shared)×(bB)×(ae)×(List V)×(Result->Shared->Prop)=>gb.P x.1 x.2.1 x.2.2.1 x.2.2.2.1 x.2.2.2.2.1 x.2.2.2.2.2.1 x.2.2.2.2.2.2.1 x.2.2.2.2.2.2.2.1 x.2.2.2.2.2.2.2.2.1 x.2.2.2.2.2.2.2.2.2.1 x.2.2.2.2.2.2.2.2.2.2.1 x.2.2.2.2.2.2.2.2.2.2.2.1 x.2.2.2.2.2.2.2.2.2.2.2.2.1 x.2.2.2.2.2.2.2.2.2.2.2.2.2.1 x.2.2.2.2.2.2.2.2.2.2.2.2.2.2.1 x.2.2.2.2.2.2.2.2.2.2.2.2.2.2.2.1 x.2.2.2.2.2.2.2.2.2.2.2.2.2.2.2.2.1 x.2.2.2.2.2.2.2.2.2.2.2.2.2.2.2.2.2.1 x.2.2.2.2.2.2.2.2.2.2.2.2.2.2.2.2.2.2.1 x.2.2.2.2.2.2.2.2.2.2.2.2.2.2.2.2.2.2.2.1 x.2.2.2.2.2.2.2.2.2.2.2.2.2.2.2.2.2.2.2.2.1 x.2.2.2.2.2.2.2.2.2.2.2.2.2.2.2.2.2.2.2.2.2.1 x.2.2.2.2.2.2.2.2.2.2.2.2.2.2.2.2.2.2.2.2.2.2.1 x.2.2.2.2.2.2.2.2.2.2.2.2.2.2.2.2.2.2.2.2.2.2.2.1 x.2.2.2.2.2.2.2.2.2.2.2.2.2.2.2.2.2.2.2.2.2.2.2.2) gb.core (J,A,ce,O,ar,pos,k,t,Y,elt,iter,ifs,scope,I,D,wr,fp,rs,ds,St,eV,df,dg,vs,RR)
end
end
section
open PySem PyProof.Rows
variable{scope:Scope}{κ:Str->Kd}
section
variable{J:Addr->Prop}{A:Around}{env ce:Env}
variable{O:ak}{U af ar bL aj:ae}{a b r:V}{pos:Pos}{k:Nat}{e f t it:Expr}
theorem Ew{M:Model}{E:Value->Shared->Prop}{s:Shared}{globals:Addr}{cl:List (Str×Addr)}{qual:Str}{Q:Env->Shared->Prop}
  (h:Q (newEnv scope s.heap.objs.size globals (cellsFrom (s.heap.objs.size+1) scope.names cl) qual none .none (some env) builtinsNs)
   { s with heap:=pushCells (s.heap.push { cls:=.type "dict",data:=.dict #[] }) scope.names }) :
  wpAny M A (newFunctionEnv scope globals cl [] qual none .none (some env)) Q E s:=by
 simp only[newFunctionEnv,Option.isSome_some,if_true];refine wpAny_bind (wpAny_alloc ?_);refine wpAny_bind (wpAny_layCells _ (λ name kind cells=>by cases QR:kind == NameKind.cell<;>rfl) _ _ _ _ ?_);rw[show({ s with heap:=s.heap.push { cls:=.type "dict",data:=.dict #[] } }:Shared).heap.objs.size=s.heap.objs.size+1 from Heap.size_push ..];rw[List.forIn_nil];exact wpAny_bind (wpAny_pure (wpAny_pure h))
structure nF(κ:Str->Kd)(t:Expr)(scope:Scope):Prop where
 kind:scope.kind=.function
 nodup:(scope.names.map (·.1)).Nodup
 loc:∀x,(x,NameKind.local)∈scope.names->x=(".0":Str)\/x∈ay t
 qb:∀x,(x,NameKind.cell)∈scope.names->x∈ay t
 DK:∀x,(x,NameKind.free)∈scope.names->κ x=.qb/\x∉ay t
 own:(iY,NameKind.local)∉scope.names
 vQ:∀x k,(x,k)∈scope.names->k=.local\/k=.cell\/k=.free\/k=.globalImplicit
theorem nF.of(h:xl κ t scope=true):nF κ t scope:=by
 obtain⟨h,h3⟩:=az h;have h3:=List.all_eq_true.mp h3;refine⟨eq_of_beq (az h).1,of_decide_eq_true (az h).2,λ x hx=>(Bool.or_eq_true_iff.mp (az (h3 _ hx)).2).imp eq_of_beq List.contains_iff_mem.mp,λ x hx=>List.contains_iff_mem.mp (h3 _ hx),λ x hx=>⟨eq_of_beq (az (h3 _ hx)).1,λ q=>?_⟩,λ q=>bt ((iM (az (h3 _ q)).1).symm.trans (beq_self_eq_true _)),λ x k hx=>?_⟩
 ·have:=(az (h3 _ hx)).2;rw[List.contains_iff_mem.mpr q] at this;exact bt this
 ·have:=h3 _ hx;cases k with
  |«local»=>exact .inl rfl
  |cell=>exact .inr (.inl rfl)
  |free=>exact .inr (.inr (.inl rfl))
  |globalImplicit=>exact .inr (.inr (.inr rfl))
  |_=>exact bt this
theorem nF.Iy(X:nF κ t scope)(Ax:ce.scope=relabel scope env):ce.kindOf iY≠some .local:=λ q=>by
 rw[iq ce Ax] at q;obtain⟨k,h1,h2⟩:=Option.map_eq_some_iff.mp q;refine X.own ?_;split at h2
 ·cases h2
 ·exact h2▸mem_of_lookup h1
theorem uj(X:nF κ t scope)(hT:yC (gC scope.names) t=true)(Ax:ce.scope=relabel scope env):∀z∈ay t,bE ce z:=by
 have own:∀z∈ay t,own? (gC scope.names) z=true:=qH hT;intro z hz;have hk:=own z hz;unfold own? gC at hk;have F8:=iq (x:=z) ce Ax;unfold bE;rw[F8];cases hl:scope.names.lookup z with
 |none=>rw[hl] at hk;exact by cases hk
 |some q=>
  have hm:=mem_of_lookup hl;rw[hl] at hk;rcases X.vQ z q hm with rfl | rfl | rfl | rfl
  ·left;rfl
  ·right;rfl
  ·exact absurd hz (X.DK z hm).2
  ·exact by cases hk
end
end
section
open PySem PyProof.Rows
variable{E Q:Value->Shared->Prop}{cm:Str->Option Value}{elt:Expr}{ifs:List Expr}{m:Str->Option Value}{own:Bool}{s:Shared}{scope:Scope}{use:Option (Value->Sem Unit)}{vs:List V}{x:Str}{Y:Or}{H:bB}
section
variable{J:Addr->Prop}{A:Around}{env:Env}
variable{O:ak}{U af ar bL aj:ae}{a b r:V}{pos cp:Pos}{k:Nat}{e f t it:Expr}
theorem H7(h:kd env x=.qb):env.kindOf x=some .cell\/env.kindOf x=some .free:=by
 have K:=LY env x;rw[h] at K;cases K with
 |qb q=>exact .inl q
 |DK q=>exact .inr q
theorem A1{names:List (Str×NameKind)}(h:Nh (gC names x)=true):(x,NameKind.local)∈names\/(x,NameKind.cell)∈names\/(x,NameKind.free)∈names:=by
 unfold gC at h;cases q:names.lookup x with
 |none=>rw[q] at h;cases h
 |some u=>
  rw[q] at h;have m:=mem_of_lookup q;cases u<;>first | exact .inl m | exact .inr (.inl m) | exact .inr (.inr m) | cases h
theorem D6{names:List (Str×NameKind)}(hn:(names.map (·.1)).Nodup)(h:(x,NameKind.free)∈names):gC names x=.qb:=by
 unfold gC;rw[ed hn h];rfl
noncomputable def fP:Expr->Bool
 |.Set ..=>false
 |_=>true
theorem none_of{h h':Heap}{b:Addr}(hk:∀b o,h.get? b=some o->h'.get? b=some o)(q:h'.get? b=none):h.get? b=none:=by
 cases e:h.get? b with
 |none=>rfl
 |some o=>rw[hk b o e] at q;cases q
theorem CZ{xs:List V}{s₁:Shared}{av:bB}{h₂:Heap}{tk:Nat}{I:Addr}{wr:List Addr}{ds:List PyData}{fp:List Addr}{rs:List (Value×PyData)}{St:Nat->Heap->Prop}
  (tw:∀x∈scope.names,x.2=.free->(env.cells.lookup x.1).isSome=true) (hE:aN env) (hA:cZ A k) (X:nF (kd env) t scope) (hT:yC (gC scope.names) t=true)
  (hc:eZ (λ x=>ba t x O) (λ O U=>gX Y ifs O U) (λ O U=>ev Y elt O U) xs af=some (vs,ar)) (hm:dC own vs ar=some (r,aj))
  (uG:∀J' ce,aN ce->(∀x,kd ce x=gC scope.names x)->∀aC cy v cR,ev Y elt aC cy=some (v,cR)->c7 prog w hB C J' A ce elt aC cy v cR)
  (sL:∀J' ce,aN ce->(∀x,kd ce x=gC scope.names x)->∀aC cy b cR,gX Y ifs aC cy=some (b,cR)->Cv prog w hB C J' A ce ifs aC cy b cR)
  (F:FR J env m cm s.heap) (R:ER w J H U env m cm s.heap O) (S:SR prog w hB C J H U s.heap)
  (hQ:∀s' aB Cf D mC,pz s s'->bZ H U s.heap aB aj s'.heap->SR prog w hB C (λ b=>J b\/b=Cf) aB aj s'.heap->VR w (λ b=>J b\/b=Cf) aB aj s'.heap (.ref D) r->
   s'.heap.Ns Cf mC->s.heap.get? Cf=none->compPost (model prog w) A E use Q (.ref D) Cf (.ok .next) s')
  (g:aS prog w hB C J s H U s₁ av af) (hx:xs=ds.map V.d) (at':y6 prog w hB C J A t av af s₁.heap h₂ I wr ds fp rs St) :
  codeAny (model prog w) A (.compStart (.ListComp elt [⟨t,it,ifs,0⟩] scope pos) 0 (.ref I) (.ref h₂.objs.size) { newEnv scope (h₂.push (bo [] 0)).objs.size env.globals (cellsFrom ((h₂.push (bo [] 0)).objs.size+1) scope.names (lE env scope.names [])) env.qual none .none (some env) builtinsNs with scope:=relabel scope env }) (compPost (model prog w) A E use Q (.ref h₂.objs.size) (h₂.push (bo [] 0)).objs.size) { s₁ with heap:=pushCells ((h₂.push (bo [] 0)).push { cls:=.type "dict",data:=.dict #[] }) scope.names,toks:=tk }:=by
 let ou:Heap:=h₂.push { cls:=.type "list",data:=.seq ([]:List Value).toArray }
 let D:Addr:=h₂.objs.size
 let Cf:Addr:=ou.objs.size
 let AN:Heap:=ou.push { cls:=.type "dict",data:=.dict #[] }
 let iX:Heap:=pushCells AN scope.names
 let cl:List (Str×Addr):=lE env scope.names []
 let cs:List (Str×Addr):=cellsFrom (Cf+1) scope.names cl
 let ce:Env:={ newEnv scope Cf env.globals cs env.qual none .none (some env) builtinsNs with scope:=relabel scope env }
 let J':Addr->Prop:=λ b=>J b\/b∈wr\/b=D\/b=Cf\/(@LE.le Nat _ (Cf+1) b/\∃n,(n,b)∈cs)
 let cm':Str->Option Value:=λ n=>if(n,NameKind.cell)∈scope.names then none else cm n
 have Qq:@Eq Nat Cf (D+1):=Heap.size_push ..;have Qp:@Eq Nat AN.objs.size (Cf+1):=Heap.size_push ..;show codeAny (model prog w) A (.compStart (.ListComp elt [⟨t,it,ifs,0⟩] scope pos) 0 (.ref I) (.ref D) ce) (compPost (model prog w) A E use Q (.ref D) Cf) { s₁ with heap:=iX,toks:=tk };have DS:ce.scope=relabel scope env:=rfl;have CC:aN ce:=⟨by rw[DS];exact X.kind,hE.globals,hE.builtins,λ q=>absurd q (X.Iy DS)⟩;have F8:∀x,kd ce x=gC scope.names x:=λ x=>vW ce DS x;have OW:∀b o,ou.get? b=some o->iX.get? b=some o:=λ b o q=>pushCells_keeps _ _ _ _ (Heap.get?_push_of_some _ q);have OV:∀b o,h₂.get? b=some o->iX.get? b=some o:=λ b o q=>OW b o (Heap.get?_push_of_some _ q);have H6:∀b o,s₁.heap.get? b=some o->iX.get? b=some o:=λ b o q=>OV b o (at'.kp b o q);have O8:∀b:Addr,D<=b->s₁.heap.get? b=none:=λ b hb=>none_of at'.kp (Heap.get?_none_of_le hb);have below:∀b o,s₁.heap.get? b=some o->@LT.lt Nat _ b D:=λ b o q=>Heap.lt_size (at'.kp b o q);have tF:∀b∈wr,@LT.lt Nat _ b D:=λ b hb=>by obtain⟨_,o,ho⟩:=at'.new b hb;exact Heap.lt_size ho
 have CX:∀n c,(n,c)∈cs->((n,NameKind.cell)∈scope.names/\@LE.le Nat _ (Cf+1) c/\iX.IsCell c none)\/(n,c)∈cl:=λ n c hm=>by
  have:=pG scope.names AN cl n c (by rw[Qp];exact hm);rw[Qp] at this;exact this
 have zv:∀n c,(n,c)∈cl->(n,NameKind.free)∈scope.names/\env.cells.lookup n=some c:=λ n c hm=>by
  rcases zy scope.names [] tw n c hm with q | q
  ·exact q
  ·cases q
 have one:∀n q q',(n,q)∈scope.names->(n,q')∈scope.names->q=q':=λ n q q' h1 h2=>by
  have:=(ed X.nodup h1).symm.trans (ed X.nodup h2);exact Option.some.inj this
 have F1:FR J env m cm s₁.heap:=F.aH S g.aH;have Kn:∀n c,(n,c)∈cl->J c/\s₁.heap.IsCell c (cm n):=λ n c hm=>by
  refine bC λ k9=>?_;obtain⟨_,h2⟩:=zv n c hm;refine k9 ?_;exact⟨(F1.cell n c h2).2.1,(F1.cell n c h2).1⟩
 have wX:∀b,J' b->J b\/s₁.heap.get? b=none:=λ b hb=>by
  rcases hb with q | q | q | q | q
  ·exact .inl q
  ·exact .inr (at'.new b q).1
  ·exact .inr (O8 b (Nat.le_of_eq q.symm))
  ·exact .inr (O8 b (by rw[q,Qq];exact Nat.le_succ _))
  ·exact .inr (O8 b (by have:=q.1;rw[Qq] at this;exact Nat.le_trans (by lia) this))
 have S4:SR prog w hB C J' av af iX:=g.sr.eu wX (λ b o _ q=>H6 b o q) λ b hb=>by
  rcases hb with q | q | q | q | q
  ·obtain⟨_,_,o,ho⟩:=g.sr.jo b q;exact⟨o,H6 b o ho⟩
  ·obtain⟨_,o,ho⟩:=at'.new b q;exact⟨o,OV b o ho⟩
  ·rw[q];exact⟨_,OW _ _ (Heap.get?_push_size _ rfl)⟩
  ·rw[q];exact⟨_,pushCells_keeps _ _ _ _ (Heap.get?_push_size _ rfl)⟩
  ·obtain⟨q1,n,q2⟩:=q;rcases CX n b q2 with ⟨_,_,o,ho,_⟩ | q3
   ·exact⟨o,ho⟩
   ·obtain⟨o,ho,_⟩:=(Kn n b q3).2;exact⟨o,H6 b o ho⟩
 have F4:FR J' ce (λ _=>none) cm' iX:=by
  refine⟨(Heap.Ns.new ou (.type "dict")).keeps (pushCells_keeps _ _),.inr (.inr (.inr (.inl rfl))),λ n c hc=>?_,λ n n' c h1 h2=>?_,λ n hn=>?_⟩
  ·have hm:=mem_of_lookup hc;rcases CX n c hm with ⟨h1,h2,h3⟩ | h1
   ·refine⟨by show iX.IsCell c (if _ then none else cm n);rw[if_pos h1];exact h3,.inr (.inr (.inr (.inr ⟨h2,n,hm⟩))),λ q=>?_⟩;have:@Eq Nat c Cf:=q;lia
   ·obtain⟨q1,q2⟩:=Kn n c h1;have OD:¬(n,NameKind.cell)∈scope.names:=λ q=>by have:=one n _ _ q (zv n c h1).1;cases this
    refine⟨by show iX.IsCell c (if _ then none else cm n);rw[if_neg OD];exact q2.keeps H6,.inl q1,λ q=>?_⟩;have q':@Eq Nat c Cf:=q;obtain⟨o,ho,_⟩:=q2;have:=below c o ho;lia
  ·have Od:cs.Pairwise λ x y=>x.2≠y.2:=by
    refine mM _ _ _ ?_ λ x hx=>?_
    ·exact u5 F.apart scope.names [] tw X.nodup List.Pairwise.nil λ _ _ q=>by cases q
    ·obtain⟨o,ho,_⟩:=(Kn x.1 x.2 hx).2;have:=below _ o ho;lia
   exact name_of_addr Od (mem_of_lookup h1) (mem_of_lookup h2)
  ·have hk:Nh (gC scope.names n)=true:=by
    rw[<-F8];unfold kd;rcases hn with q | q<;>(rw[q];rfl)
   have hl:¬(n,NameKind.local)∈scope.names:=λ q=>by
    have:=F8 n;unfold gC kd at this;rw[ed X.nodup q] at this;rcases hn with q | q<;>(rw[q] at this;cases this)
   have:(n,NameKind.cell)∈scope.names\/(n,NameKind.free)∈scope.names:=(A1 hk).resolve_left hl;rcases this with q | q
   ·obtain⟨c,hc⟩:=eE scope.names (Cf+1) cl n q;obtain⟨c',uH⟩:=dJ hc;exact congrArg Option.isSome uH
   ·obtain⟨c,hc⟩:=zx (env:=env) scope.names [] n q;have hc:(n,c)∈cl:=hc;obtain⟨c',uH⟩:=dJ (jO scope.names (Cf+1) cl _ hc);exact congrArg Option.isSome uH
 have R4:ER w J' av af ce (λ _=>none) cm' iX (forget (ay t) O):=λ x v' hx hm=>by
  obtain⟨Rd,hx⟩:x∉ay t/\O x=some v':=by
   by_cases q:(ay t).contains x=true
   ·exact no ((if_pos q).symm.trans hx)
   ·exact⟨λ z=>q (List.contains_iff_mem.mpr z),(if_neg q).symm.trans hx⟩
  obtain⟨QU,QV⟩:=az hm;rw[F8] at QV;rcases A1 QV with q | q | oo
  ·rcases X.loc x q with rfl | q
   ·cases QU
   ·exact absurd q Rd
  ·exact absurd (X.qb x q) Rd
  ·have hk:=(X.DK x oo).1;have OD:¬(x,NameKind.cell)∈scope.names:=λ q=>by cases one x _ _ q oo
   obtain⟨v,h1,h2⟩:=R x v' hx (by unfold gD;rw[hk,QU];rfl);refine⟨v,?_,(h2.aH g.aH).eu wX λ b o _ q=>H6 b o q⟩;unfold val at h1 ⊢;rw[hk] at h1;rw[F8,D6 X.nodup oo];exact(if_neg OD).trans h1
 have E4:bZ H U s.heap av af iX:=g.aH.trans (bZ.bx H6);have nJ:∀b,J' b->(¬J b)->s.heap.get? b=none:=λ b hb TM=>g.fresh S ((wX b hb).resolve_left TM);have nd:∀b,J b->@LT.lt Nat _ b D:=λ b hb=>by obtain⟨_,_,o,ho⟩:=g.sr.jo b hb;exact below b o ho
 have sm:pz s { s₁ with heap:=iX,toks:=tk }:=g.same;have UL:∀p∈rs,RD (Ex J' av af) iX p.1 p.2:=λ p hp=>(at'.rd p hp).eu wX λ b o _ q=>H6 b o q;have RL:St 0 iX:=at'.ok.frame 0 h₂ iX at'.st λ b _ o q=>OV b o q;have NQ:iX.get? D=some (bo [] 0):=OW _ _ (Heap.get?_push_size _ rfl);have P9:∀n c,ce.cells.lookup n=some c->c∉wr/\c≠D:=λ n c hc=>by
  rcases CX n c (mem_of_lookup hc) with ⟨_,h2,_⟩ | h1
  ·refine⟨λ q=>?_,λ q=>?_⟩
   ·have:=tF c q;lia
   ·have q':@Eq Nat c D:=q;lia
  ·have SN:=(Kn n c h1).1;refine⟨λ q=>?_,λ q=>?_⟩
   ·obtain⟨o,ho,_⟩:=(Kn n c h1).2;rw[(at'.new c q).1] at ho;cases ho
   ·have:=nd c SN;lia
 have loop:codeAny (model prog w) A (.compLoop (.ListComp elt [⟨t,it,ifs,0⟩] scope pos) 0 (.ref I) (.ref D) ce) (compPost (model prog w) A E use Q (.ref D) Cf) { s₁ with heap:=iX,toks:=tk }:=by
  refine yf (J:=J') (eV:=s) (df:=H) (dg:=U) (ar:=ar) (O:=O) (vs:=vs) CC hA (uj X hT DS) at'.ok (uG J' ce CC F8) (sL J' ce CC F8) ⟨λ b hb=>.inr (.inl hb),.inr (.inr (.inl rfl)),
   λ q=>by have:=tF D q;lia,λ q=>?_,λ n c hc=>(P9 n c hc).1,λ q=>?_,λ n c hc=>(P9 n c hc).2,λ b hb=>?_,?_,λ b hb=>?_⟩ at'.len ?_ _ _
   ⟨0,af,[],vs,av,λ _=>none,cm',[],0,rfl,Nat.zero_le _,sm,E4,S4,F4,R4,⟨NQ,aE.nil,RL,UL⟩,Nat.le_refl _,by rw[List.drop_zero,<-hx];exact hc,rfl⟩
  ·have:=tF Cf q;lia
  ·have q':@Eq Nat D Cf:=q;lia
  ·refine nJ b (.inr (.inl hb)) λ q=>?_;obtain⟨_,_,o,ho⟩:=g.sr.jo b q;rw[(at'.new b hb).1] at ho;cases ho
  ·refine nJ D (.inr (.inr (.inl rfl))) λ q=>?_;have:=nd D q;lia
  ·have QA:J' b/\¬J b:=by
    rcases hb with q | ⟨z,h1,h2,h3⟩
    ·have q':@Eq Nat b Cf:=q;refine⟨.inr (.inr (.inr (.inl q))),λ q2=>?_⟩;have:=nd b q2;lia
    ·rcases CX z b (mem_of_lookup h3) with ⟨_,p2,_⟩ | p1
     ·refine⟨.inr (.inr (.inr (.inr ⟨p2,z,mem_of_lookup h3⟩))),λ q2=>?_⟩;have:=nd b q2;lia
     ·exact absurd h1 (X.DK z (zv z b p1).1).2
   exact nJ b QA.1 QA.2
  ·intro s' aB ws nn m' UN wM S' pC JF F9 Mg;have SM:∀b,(J b\/b=Cf)->(J' b/\b∉wr):=λ b hb=>by
    rcases hb with q | q
    ·refine⟨.inl q,λ q2=>?_⟩;obtain⟨_,_,o,ho⟩:=g.sr.jo b q;rw[(at'.new b q2).1] at ho;cases ho
    ·refine⟨.inr (.inr (.inr (.inl q))),λ q2=>?_⟩;have:=tF b q2;lia
   obtain⟨dF,Sx,R7,Vx⟩:=zF (J':=λ b=>J b\/b=Cf) S' wM (D:=D) ⟨.inr (.inr (.inl rfl)),λ q=>by have:=tF D q;lia⟩ SM (λ q=>by
    rcases q with q | q
    ·have:=nd D q;lia
    ·have q':@Eq Nat D Cf:=q;lia) (nJ D (.inr (.inr (.inl rfl))) λ q=>by have:=nd D q;lia) pC F9 JF hm
   refine hQ s' dF Cf D m' UN R7 Sx Vx Mg (nJ Cf (.inr (.inr (.inr (.inl rfl)))) λ q=>?_);have:=nd Cf q;lia
 exact codeAny_compStart_list loop (at'.ok.self _ 0 _ _ RL loop)
theorem wF{xs:List V}
  (hE:aN env) (hA:cZ A k) (X:nF (kd env) t scope) (hT:yC (gC scope.names) t=true) (dQ:fP it=true)
  (og:Cs prog w hB C J A env t it O U xs af) (hc:eZ (λ x=>ba t x O) (λ O U=>gX Y ifs O U) (λ O U=>ev Y elt O U) xs af=some (vs,ar)) (hm:dC own vs ar=some (r,aj))
  (uG:∀J' ce,aN ce->(∀x,kd ce x=gC scope.names x)->∀aC cy v cR,ev Y elt aC cy=some (v,cR)->c7 prog w hB C J' A ce elt aC cy v cR)
  (sL:∀J' ce,aN ce->(∀x,kd ce x=gC scope.names x)->∀aC cy b cR,gX Y ifs aC cy=some (b,cR)->Cv prog w hB C J' A ce ifs aC cy b cR)
  (F:FR J env m cm s.heap) (R:ER w J H U env m cm s.heap O) (S:SR prog w hB C J H U s.heap)
  (hQ:∀s' aB Cf D mC,pz s s'->bZ H U s.heap aB aj s'.heap->SR prog w hB C (λ b=>J b\/b=Cf) aB aj s'.heap->VR w (λ b=>J b\/b=Cf) aB aj s'.heap (.ref D) r->
   s'.heap.Ns Cf mC->s.heap.get? Cf=none->compPost (model prog w) A E use Q (.ref D) Cf (.ok .next) s') :
  wpAny (model prog w) A (comprehension (.ListComp elt [⟨t,it,ifs,0⟩] scope pos) scope env cp (newList []) false (eval it env) use) Q E s:=by
 have tw:∀x∈scope.names,x.2=.free->(env.cells.lookup x.1).isSome=true:=λ x hx hf=>by
  obtain⟨n,q⟩:=x;subst hf;exact F.has n (H7 (X.DK n hx).1)
 have AK:∀x,foldedSetIterable it env x=pure x:=λ x=>by
  cases it<;>first | rfl | exact bt dQ
 refine wpAny_comprehension_free (use:=use) rfl AK (jP tw) X.kind (λ x hx hl=>?_) (og H s m cm _ _ F R S λ s₁ av h₂ tk I wr ds fp rs St g hx at'=>?_)
 ·obtain⟨n,q⟩:=x;dsimp only at hl ⊢;subst hl;exact ed X.nodup hx
 refine wpAny_newList ?_ (by decide);refine Ew ?_;exact CZ (s₁:=s₁) (h₂:=h₂) tw hE hA X hT hc hm uG sL F R S hQ g hx at'
theorem fh{xs:List V}
  (hE:aN env) (hA:cZ A k) (X:nF (kd env) t scope) (hT:yC (gC scope.names) t=true) (dQ:fP it=true)
  (og:Cs prog w hB C J A env t it O U xs af) (hc:eZ (λ x=>ba t x O) (λ O U=>gX Y ifs O U) (λ O U=>ev Y elt O U) xs af=some (vs,ar)) (hm:dC own vs ar=some (r,aj))
  (uG:∀J' ce,aN ce->(∀x,kd ce x=gC scope.names x)->∀aC cy v cR,ev Y elt aC cy=some (v,cR)->c7 prog w hB C J' A ce elt aC cy v cR)
  (sL:∀J' ce,aN ce->(∀x,kd ce x=gC scope.names x)->∀aC cy b cR,gX Y ifs aC cy=some (b,cR)->Cv prog w hB C J' A ce ifs aC cy b cR) :
  c7 prog w hB C J A env (.ListComp elt [⟨t,it,ifs,0⟩] scope pos) O U r aj:=λ H s m cm Q E F R S h=>by
 rw[eval_ListComp];refine wF (use:=none) hE hA X hT dQ og hc hm uG sL F R S λ s' aB Cf D mC sm wM S' V' Mg hC=>⟨mC,Mg,λ h' hs=>?_⟩;have hk:∀b o,¬(J b\/b=Cf)->s'.heap.get? b=some o->h'.get? b=some o:=λ b o hb ho=>hs.extBut b o (λ q=>hb (.inr q)) ho;refine h _ _ aB ⟨sm,wM.turn (VD:=λ b=>b=Cf) (λ b o hb ho=>hs.extBut b o hb ho) (λ b hb=>hb▸hC),S'.eu (λ b hb=>.inl (.inl hb)) hk λ b hb=>?_⟩ (V'.eu (λ b hb=>.inl (.inl hb)) hk);refine bC λ k9=>?_;obtain⟨_,_,o,ho⟩:=S'.jo b (.inl hb);refine k9 ?_;refine⟨o,hs.extBut b o (λ q=>?_) ho⟩;obtain⟨_,_,o',pC⟩:=S.jo b hb;rw[q,hC] at pC;cases pC
end
end
section
set_option tactic.hygienic true
open PySem PyProof.Rows
variable{es:Array (Int×Value)}{h:Int}{hi i j lo n:Nat}{t:SetTable}
theorem sC{xs:Array Nat}(h:CM xs)(hj:j<xs.size)(F7:i<j):xs[i]'(Nat.lt_trans F7 hj)<xs[j]:=List.pairwise_iff_getElem.mp h i j (Nat.lt_trans F7 hj) hj F7
theorem l0(h:lo<hi):lo<=(lo+hi) / 2/\(lo+hi) / 2<hi:=
 ⟨(Nat.le_div_iff_mul_le (by decide)).mpr (Nat.mul_two lo▸Nat.add_le_add_left (Nat.le_of_lt h) lo),Nat.div_lt_of_lt_mul (Nat.two_mul hi▸Nat.add_lt_add_right h hi)⟩
theorem tQ(h:lo<hi)(f:hi-lo<=n+1):hi-((lo+hi) / 2+1)<=n/\(lo+hi) / 2-lo<=n:=
 ⟨Nat.le_trans (Nat.sub_le_sub_left (Nat.succ_le_succ (l0 h).1) hi) (Nat.pred_le_pred f),Nat.le_of_lt_succ (Nat.lt_of_lt_of_le (Nat.sub_lt_sub_right (l0 h).1 (l0 h).2) f)⟩
structure BZ(xs:Array Nat)(j lo hi:Nat):Prop where
 hs:hi<=xs.size
 le:lo<=hi
 lo:∀i (hq:i<xs.size),i<lo->xs[i]<j
 up:∀i (hq:i<xs.size),hi<=i->j<=xs[i]
theorem zm{xs:Array Nat}(h:CM xs)(fuel:Nat):∀(lo hi:Nat),BZ xs j lo hi->hi-lo<=fuel->BZ xs j (SetTable.below.go xs j fuel lo hi) (SetTable.below.go xs j fuel lo hi):=by
 induction fuel with
 |zero=>
  intro lo hi B f;obtain rfl:=Nat.le_antisymm B.le (Nat.sub_eq_zero_iff_le.mp (Nat.le_zero.mp f));exact B
 |succ fuel ih=>
  intro lo hi B f;have e:SetTable.below.go xs j (fuel+1) lo hi=if lo<hi then(if xs.getD ((lo+hi) / 2) j<j then SetTable.below.go xs j fuel ((lo+hi) / 2+1) hi else SetTable.below.go xs j fuel lo ((lo+hi) / 2)) else lo:=rfl
  by_cases cz:lo<hi
  ·have hm:(lo+hi) / 2<xs.size:=Nat.lt_of_lt_of_le (l0 cz).2 B.hs;rw[if_pos cz,show xs.getD ((lo+hi) / 2) j=xs[(lo+hi) / 2] from dif_pos hm] at e;by_cases hc:xs[(lo+hi) / 2]<j
   ·rw[e,if_pos hc];refine ih _ _ ⟨B.hs,(l0 cz).2,λ i hq hl=>?_,B.up⟩ (tQ cz f).1;rcases Nat.lt_or_eq_of_le (Nat.le_of_lt_succ hl) with q | rfl
    ·exact Nat.lt_trans (sC h hm q) hc
    ·exact hc
   ·rw[e,if_neg hc];refine ih _ _ ⟨Nat.le_of_lt hm,(l0 cz).1,B.lo,λ i hq hl=>?_⟩ (tQ cz f).2;rcases Nat.lt_or_eq_of_le hl with q | rfl
    ·exact Nat.le_of_lt (Nat.lt_of_le_of_lt (Nat.not_lt.mp hc) (sC h hq q))
    ·exact Nat.not_lt.mp hc
  ·rw[e,if_neg cz];obtain rfl:=Nat.le_antisymm B.le (Nat.not_lt.mp cz);exact B
theorem j5{xs:Array Nat}(h:CM xs)(j:Nat):BZ xs j (SetTable.below xs j) (SetTable.below xs j):=
 zm h xs.size 0 xs.size ⟨Nat.le_refl _,Nat.zero_le _,λ _ _ q=>absurd q (Nat.not_lt_zero _),λ i hi q=>absurd hi (Nat.not_lt.mpr q)⟩ (Nat.le_refl _)
theorem uT{xs:Array Nat}(h:CM xs)(hi:i<xs.size):SetTable.below xs (xs[i]+1)=i+1:=by
 have B:=j5 h (xs[i]+1);refine Nat.le_antisymm (Nat.not_lt.mp λ q=>?_) (Nat.not_lt.mp λ q=>Nat.lt_irrefl _ (B.up i hi (Nat.le_of_lt_succ q)));have hs:=Nat.lt_of_lt_of_le q B.hs;exact Nat.lt_irrefl _ (Nat.lt_of_lt_of_le (sC h hs (Nat.lt_succ_self i)) (Nat.le_of_lt_succ (B.lo _ hs q)))
theorem uV{xs:Array Nat}(h:CM xs):SetTable.below xs 0=0:=by
 have B:=j5 h 0;exact Nat.le_zero.mp (Nat.not_lt.mp λ q=>Nat.not_lt_zero _ (B.lo 0 (Nat.lt_of_lt_of_le q B.hs) q))
theorem pP{G:Type}(xs:Array G)(p:Nat)(x:G)(hp:p<=xs.size):(SetTable.insertAt xs p x).toList=xs.toList.take p++x::xs.toList.drop p:=by
 delta SetTable.insertAt;rw[Array.toList_append,Array.toList_push,Array.toList_extract,Array.toList_extract,List.append_assoc];show(xs.toList.drop 0).take (p-0)++([x]++(xs.toList.drop p).take (xs.size-p))=_;rw[List.take_of_length_le (l:=xs.toList.drop p) (by rw[List.length_drop];exact Nat.le_refl _)];rfl
theorem ET(h:CM t.place)(hn:t.place[SetTable.below t.place j]?≠some j):CM (t.put j).1.place:=by
 have B:=j5 h j;have up:∀y∈t.place.toList.drop (SetTable.below t.place j),j<y:=λ y hy=>by
  obtain⟨i,hi⟩:=List.mem_iff_getElem?.mp hy;rw[List.getElem?_drop] at hi;obtain⟨hs,e⟩:=List.getElem?_eq_some_iff.mp hi;refine Nat.lt_of_le_of_ne (e▸B.up _ hs (Nat.le_add_right _ _)) λ q=>?_;cases i with
  |zero=>exact hn ((Array.getElem?_eq_getElem hs).trans (congrArg some (e.trans q.symm)))
  |succ i=>exact Nat.lt_irrefl _ (Nat.lt_of_le_of_lt (B.up _ (Nat.lt_of_le_of_lt (Nat.le_add_right _ _) hs) (Nat.le_refl _)) (Nat.lt_of_lt_of_eq (sC h hs (Nat.lt_add_of_pos_right (Nat.succ_pos i))) (e.trans q.symm)))
 show((SetTable.insertAt t.place (SetTable.below t.place j) j).toList).Pairwise (·<·);rw[pP _ _ _ B.hs];refine List.pairwise_append.mpr ⟨List.Pairwise.sublist (List.take_sublist _ _) h,List.pairwise_cons.mpr ⟨up,List.Pairwise.sublist (List.drop_sublist _ _) h⟩,λ a ha b hb=>?_⟩;obtain⟨i,hi,rfl⟩:=List.mem_iff_getElem.mp ha;rw[List.getElem_take];rw[List.length_take] at hi;have Qx:=B.lo i (Nat.lt_of_lt_of_le hi (Nat.min_le_right _ _)) (Nat.lt_of_lt_of_le hi (Nat.min_le_left _ _));rcases List.mem_cons.mp hb with rfl | hb
 ·exact Qx
 ·exact Nat.lt_trans Qx (up b hb)
theorem qR(h:∀i,t.slot j≠.live i):t.place[SetTable.below t.place j]?≠some j:=λ q=>by
 unfold SetTable.slot at h;dsimp only at h;rw[if_pos (by rw[q];simp)] at h;exact h _ rfl
theorem pZ{p:SetTable.Probe}:(t.advance p).dummy=p.dummy:=by
 unfold SetTable.advance;split<;>rfl
theorem vS{f:Nat->Int}:∀(n:Nat) (p:SetTable.Probe) (j:Nat) (d:Option Nat),(∀d',p.dummy=some d'->∀i,t.slot d'≠.live i)->SetTable.probe.go t f h n p=some (.empty j d)->
  (∀i,t.slot j≠.live i)/\∀d',d=some d'->∀i,t.slot d'≠.live i:=by
 intro n
 induction n with
 |zero=>exact λ p j d _ e=>no e
 |succ n ih=>
  intro p j d hd e;have e:(match t.slot p.j with | .empty=>some (.empty p.j p.dummy) | .dummy=>SetTable.probe.go t f h n (t.advance { p with dummy:=some p.j }) | .live i=>if f i == h then some (.candidate p.j i (t.advance p)) else SetTable.probe.go t f h n (t.advance p))=some (SetTable.Met.empty j d):=e;refine bC λ k9=>?_;cases hs:t.slot p.j with
  |empty=>
   rw[hs] at e;cases e;exact k9 ⟨λ i q=>(by cases hs.symm.trans q),hd⟩
  |dummy=>
   rw[hs] at e;refine k9 (ih _ j d (λ d' q i q2=>?_) e);rw[pZ] at q;cases q;exact by cases hs.symm.trans q2
  |live i=>
   rw[hs] at e;by_cases hc:(f i == h)=true
   ·exact by cases(if_pos hc).symm.trans e
   ·exact k9 (ih _ j d (λ d' q=>hd d' (pZ.symm.trans q)) ((if_neg hc).symm.trans e))
set_option backward.match.sparseCases true in
theorem pN{b:Bool}(e:t.freeSlot h=some (j,b)):t.place[SetTable.below t.place j]?≠some j:=by
 have e:(match t.probe (λ _=>h+1) h (t.probeStart h) with | some (.empty j dummy)=>some (dummy.getD j,dummy.isSome) | _=>none)=some (j,b):=e;cases hp:t.probe (λ _=>h+1) h (t.probeStart h) with
 |none=>rw[hp] at e;exact no e
 |some m=>
  rw[hp] at e;cases m with
  |candidate _ _ _=>exact no e
  |empty j' d=>
   cases e;obtain⟨h1,h2⟩:=vS _ _ _ _ (λ d' q=>no q) hp;cases d with
   |none=>exact qR h1
   |some d'=>exact qR (h2 d' rfl)
theorem qM(n:Nat):CM (Array.range n):=by
 show(Array.range n).toList.Pairwise (·<·);rw[Array.toList_range];exact List.pairwise_lt_range
theorem TB.BO(T:TB t)(n:Nat):TB (t.standIn n):=⟨qM _,T.led⟩
theorem yv{x:Value}(T:TB t):TB (layNew t es h x).2.1:=by
 unfold layNew;split
 ·rename_i slot wd hf;show TB (if _ then _ else _);split
  ·exact⟨ET T.Po (pN hf),T.led⟩
  ·exact⟨qM _,T.led⟩
 ·exact T.BO _
theorem pK{f:Nat->Option Nat}:∀(l:List Nat),l.Pairwise (·<·)->(((l.filterMap λ j=>(f j).map λ k=>(j,k)).map (·.1))).Pairwise (·<·):=by
 intro l
 induction l with
 |nil=>
  intro _;assumption
 |cons a l ih=>
  intro h;rw[List.pairwise_cons] at h;have ih:=ih h.2;rw[List.filterMap_cons];cases hf:f a with
  |none=>exact ih
  |some k=>
   simp only[Option.map_some,List.map_cons,List.pairwise_cons];refine⟨λ b hb=>?_,ih⟩;simp only[List.mem_map,List.mem_filterMap] at hb;obtain⟨p,⟨c,hc,hp⟩,rfl⟩:=hb;obtain⟨k',_,rfl⟩:=Option.map_eq_some_iff.mp hp;exact h.1 c hc
theorem D7{mask finger moves:Nat}{led plain:Bool}{hs:Array Int}{o:Array Nat}(e:SetTable.laid mask finger moves led plain hs=some (t,o))(hl:led=!FT):TB t:=by
 obtain⟨owner,_,e⟩:=a9 e;cases e;exact⟨pK (f:=λ j=>owner.getD j none) (List.range (mask+1)) List.pairwise_lt_range,hl⟩
theorem ub(T:TB t):TB (relayAll t es n).2.1:=by
 unfold relayAll;split
 ·rename_i t' order he;dsimp only;split
  ·exact D7 he T.led
  ·exact T.BO _
 ·exact T.BO _
end
section
open PySem PyProof.Rows
variable{es vf:Array (Int×Value)}
section
variable{J:Addr->Prop}{A:Around}{env:Env}
variable{O:ak}{U af ar bL aj:ae}{r:V}{k:Nat}{H:bB}{s:Shared}{E:Value->Shared->Prop}
theorem EL.elems{xs:List Int}(h:EL es xs):ElemsOf (intKind prog w) es.toList:=λ e h1=>by
 obtain⟨i,tk,rfl⟩:=h.el e h1;exact⟨⟨i,intKind_is prog w i tk,rfl⟩,rfl⟩
theorem EL.perm{xs:List Int}(h:EL es xs)(p:vf.toList.Perm es.toList):EL vf xs:=
 ⟨λ e he=>h.el e (p.mem_iff.mp he),λ i=>(h.mem i).trans ⟨(by rintro⟨e,he,q⟩;exact⟨e,p.mem_iff.mpr he,q⟩),(by rintro⟨e,he,q⟩;exact⟨e,p.mem_iff.mp he,q⟩)⟩,Nat.le_trans (Nat.le_of_eq (show vf.size=es.size from p.length_eq)) h.le⟩
theorem EL.push{xs:List Int}{i:Int}{t:Tok}(h:EL es xs):EL (es.push (hashInt i,.int i t)) (xs++[i]):=by
 have tl:∀e,e∈(es.push (hashInt i,.int i t)).toList↔e∈es.toList\/e=(hashInt i,.int i t):=λ e=>by rw[Array.toList_push,List.mem_append,List.mem_singleton]
 refine⟨λ e he=>((tl e).mp he).elim (h.el e) λ q=>⟨i,t,q⟩,λ j=>⟨λ hj=>?_,fun⟨e,he,tk,q⟩=>?_⟩,?_⟩
 ·rcases List.mem_append.mp hj with hj | hj
  ·obtain⟨e,he,q⟩:=(h.mem j).mp hj;exact⟨e,(tl e).mpr (.inl he),q⟩
  ·exact⟨_,(tl _).mpr (.inr rfl),t,List.mem_singleton.mp hj▸rfl⟩
 ·rcases(tl e).mp he with he | rfl
  ·exact List.mem_append_left _ ((h.mem j).mpr ⟨e,he,tk,q⟩)
  ·cases q;exact List.mem_append_right _ (List.mem_singleton.mpr rfl)
 ·rw[Array.size_push,List.length_append];exact Nat.succ_le_succ h.le
theorem dO.put{h:Heap}{a:Addr}{o:Obj}{ep:Nat}{t t':SetTable}{xs:List Int}(ho:h.get? a=some o)(hx:o.ExactSet)(hd:o.data=.set es ep t)(el:EL vf xs)(hl:xs.length<=4000)(hf:t'.fits vf.size=true)(T:TB t') :
  (h.update a (Obj.putSet vf t')).get? a=some { o with data:=.set vf (ep+1) t' }/\dO w (h.update a (Obj.putSet vf t')) a xs:=by
 have hg:(h.update a (Obj.putSet vf t')).get? a=some { o with data:=.set vf (ep+1) t' }:=by
  have:=Heap.get?_update_self (Obj.putSet vf t') ho (by rw[putSet_of vf t' hd];rfl);rwa [putSet_of vf t' hd] at this
 exact⟨hg,_,vf,ep+1,t',hg,hx,rfl,el,hl,hf,T⟩
end
section
namespace gu
noncomputable section
def P(A:Around)(s:Shared)(E:Value->Shared->Prop)(a:Addr)(xs:List Int)(i:Int)(t:Tok)(Q:Bool->Shared->Prop):Prop:=∀(X:dO w s.heap a xs) (qs:xs.length<4000) (h:∀b h',Heap.SameBut a s.heap h'->dO w h' a (if xs.contains i then xs else xs++[i])->Q b { s with heap:=h' }),wpAny (model prog w) A (setAddHashed a (.int i t) (hashInt i)) Q E s
def xe:(Around)×(Shared)×(Value->Shared->Prop)×(Addr)×(List Int)×(Int)×(Tok)×(Bool->Shared->Prop):=@Classical.epsilon _ ⟨({},{},default,default,default,default,default,default)⟩ λ x=>¬P x.1 x.2.1 x.2.2.1 x.2.2.2.1 x.2.2.2.2.1 x.2.2.2.2.2.1 x.2.2.2.2.2.2.1 x.2.2.2.2.2.2.2
def A:Around:=xe.1
def s:Shared:=xe.2.1
def E:Value->Shared->Prop:=xe.2.2.1
def a:Addr:=xe.2.2.2.1
def xs:List Int:=xe.2.2.2.2.1
def i:Int:=xe.2.2.2.2.2.1
def t:Tok:=xe.2.2.2.2.2.2.1
def Q:Bool->Shared->Prop:=xe.2.2.2.2.2.2.2
theorem core:P A s E a xs i t Q:=λ X qs h=>by
 refine bC λ k9=>?_;obtain⟨o,es,ep,tb,ho,hex,hd,el,Ra,hf,T⟩:=id X;refine k9 ?_;have hb:es.size<scanBound:=Nat.lt_of_le_of_lt el.le (Nat.lt_trans qs (by decide));have Ou:=intKind_is prog w i t;unfold setAddHashed setAddHashedIn;refine wpAny_holding (wpAny_bind (wpAny_setState_of ho hd hf ?_));dsimp only;rw[byScan_of (knd:=intKind prog w) (x:=.int i t) rfl hb el.elems];simp only[↓reduceIte];unfold setAddByScan;refine wpAny_bind (wpAny_bind (wpAny_rule (wpAny_bind (wpAny_setScan_of Ou ho hd hf el.elems ?_))));cases hr:List.findIdx? (λ e=>(intKind prog w).is i e.2) es.toList with
 |some j=>
  obtain⟨hj,TZ,_⟩:=List.findIdx?_eq_some_iff_getElem.mp hr;obtain⟨tk,q⟩:=Value.isInt_shape TZ;refine wpAny_pure (wpAny_pure (h false s.heap (Heap.SameBut.refl a s.heap) ?_));rw[if_pos (List.contains_iff_mem.mpr ((el.mem i).mpr ⟨_,List.getElem_mem hj,tk,q⟩))];exact X
 |none=>
  have OE:¬xs.contains i=true:=λ hi=>by
   obtain⟨e,he,tk,q⟩:=(el.mem i).mp (List.contains_iff_mem.mp hi);have:=List.findIdx?_eq_none_iff.mp hr e he;rw[q,intKind_is] at this;exact Bool.noConfusion this
  have hQ:∀h',Heap.SameBut a s.heap h'->dO w h' a (xs++[i])->Q true { s with heap:=h' }:=λ h' DW hS=>h true h' DW (by rw[if_neg OE];exact hS);have KJ:=(el.push (i:=i) (t:=t)).perm (layNew_perm tb es (hashInt i) (.int i t));have AA:=layNew_fits tb es (hashInt i) (.int i t);have T1:=yv (t:=tb) (es:=es) (h:=hashInt i) (x:=.int i t) T;dsimp only;generalize layNew tb es (hashInt i) (.int i t)=L at KJ AA T1 ⊢;obtain⟨uE,t1,Cc,Sy⟩:=L;dsimp only at KJ AA T1 ⊢;have yX:(xs++[i]).length<=4000:=by rw[List.length_append];exact qs
  have QK:∀(b:Bool) {s₁:Shared} {Q':Unit->Shared->Prop},Q' () s₁->wpAny (model prog w) A (match b with | true=>rule "set.scan.the-table-gave-way" | false=>pure ()) Q' E s₁:=
   λ b s₁ Q' hq=>by cases b<;>first | exact wpAny_pure hq | exact wpAny_rule hq
  refine wpAny_bind (QK _ ?_);have tail:wpAny (model prog w) A (do
     storeSet a uE t1
     if(!Cc && t1.tooFull)=true then do
       (match(relayAll t1 uE (SetTable.grown uE.size)).2.2 with | true=>rule "set.scan.the-table-gave-way" | false=>pure ())
       storeSet a (relayAll t1 uE (SetTable.grown uE.size)).1 (relayAll t1 uE (SetTable.grown uE.size)).2.1
       pure (some true)
      else pure (some true)) (λ r s'=>r=some true/\Q true s') E s:=by
   obtain⟨g1,S1⟩:=dO.put ho hex hd KJ yX AA T1;have lim:∀{e':Array (Int×Value)},EL e' (xs++[i])->e'.size<scanBound:=λ h=>Nat.lt_of_le_of_lt (Nat.le_trans h.le yX) (by decide);have LA:=Heap.SameBut.update s.heap a (Obj.putSet uE t1);refine wpAny_bind (wpAny_storeSet_of ho hd ?_ (fits_of_scanBound (lim KJ)));split
   ·have NY:=KJ.perm (relayAll_perm t1 uE (SetTable.grown uE.size));have vt:=relayAll_fits t1 uE (SetTable.grown uE.size);have T2:=ub (t:=t1) (es:=uE) (n:=SetTable.grown uE.size) T1;generalize relayAll t1 uE (SetTable.grown uE.size)=Rl at NY vt T2 ⊢;obtain⟨Vg,t3,Ql⟩:=Rl;refine wpAny_bind (QK _ ?_);refine wpAny_bind (wpAny_storeSet_of g1 rfl ?_ (fits_of_scanBound (lim NY)));exact wpAny_pure ⟨rfl,hQ _ (LA.trans (Heap.SameBut.update _ a _)) (dO.put g1 hex rfl NY yX vt T2).2⟩
   ·exact wpAny_pure ⟨rfl,hQ _ LA S1⟩
  split
  ·refine wpAny_bind ?_;rw[hashByValue_scannable 8 (x:=.int i t) rfl];exact wpAny_pure (wpAny_mono tail (λ r s' hr=>by obtain⟨rfl,hr⟩:=hr;exact wpAny_pure hr) λ _ _ q=>q)
  ·exact wpAny_bind (wpAny_pure (wpAny_mono tail (λ r s' hr=>by obtain⟨rfl,hr⟩:=hr;exact wpAny_pure hr) λ _ _ q=>q))
end
end gu
variable{J:Addr->Prop}{A:Around}{env:Env}
variable{O:ak}{U af ar bL aj:ae}{r:V}{k:Nat}{H:bB}{s:Shared}{E:Value->Shared->Prop}
theorem yL{A:Around}{s:Shared}{E:Value->Shared->Prop}{a:Addr}{xs:List Int}{i:Int}{t:Tok}{Q:Bool->Shared->Prop}:gu.P A s E a xs i t Q:=aU (Q:=λ x:(Around)×(Shared)×(Value->Shared->Prop)×(Addr)×(List Int)×(Int)×(Tok)×(Bool->Shared->Prop)=>gu.P x.1 x.2.1 x.2.2.1 x.2.2.2.1 x.2.2.2.2.1 x.2.2.2.2.2.1 x.2.2.2.2.2.2.1 x.2.2.2.2.2.2.2) gu.core (A,s,E,a,xs,i,t,Q)
theorem dO.typeIs{a:Addr}{xs:List Int}(X:dO w s.heap a xs):s.TypeIs (.ref a) "set":=by
 obtain⟨o,es,ep,tb,ho,hex⟩:=X;exact⟨o,ho,hex.1⟩
theorem dO.noDict{a:Addr}{xs:List Int}(X:dO w s.heap a xs):∀b,Value.ref a=.ref b->∃ob,s.heap.get? b=some ob/\ob.dict=none:=λ b e=>by
 refine bC λ k9=>?_;obtain⟨o,es,ep,tb,ho,hex⟩:=X;cases e;refine k9 ?_;exact⟨o,ho,hex.2.1⟩
theorem uZ{a:Addr}{xs:List Int}{i:Int}{t:Tok}{Q:Value->Shared->Prop}(X:dO w s.heap a xs)(qs:xs.length<4000)
  (h:∀h',Heap.SameBut a s.heap h'->dO w h' a (if xs.contains i then xs else xs++[i])->Q .none { s with heap:=h',toks:=s.toks+1 }):wpAny (model prog w) A (call (.builtin "set.add") [.ref a,.int i t]) Q E s:=by
 refine wpAny_call_entry F.slot_set_add X.typeIs F.entry_set_add ?_ (F.args_set_add_2 _ _);delta Builtin.«set.add» Builtin.Frozenset.oneOther;simp only[List.isEmpty_nil,bind_assoc];delta Builtin.Frozenset.addrOf setAdd;refine wpAny_bind (wpAny_pure ?_)
 try dsimp only
 refine wpAny_bind (wpAny_pure ?_)
 try dsimp only
 refine wpAny_bind (wpAny_holding (wpAny_bind ((intKind prog w).pyHash (k:=i) (by simp[intKind,Value.isInt]) ?_)));refine yL (s:={ s with toks:=s.toks+1 }) X qs λ b h' DW hS=>?_;show wpAny _ _ (ret Value.none) _ _ _;exact wpAny_pure ⟨_,rfl,h h' DW hS⟩
theorem Ir{Y:Or}{m:Str}{l:Nat}{xs lz:List Int}{vs:List V}{av:bB}{ov:Value}{s₁:Shared}(S:SR prog w hB C J av af s₁.heap)(rv:VR w J av af s₁.heap ov (.o l))(hn:af[l]?=some (.set xs))(dA:ar[l]?=some (.set lz))
  (e:iN Y m (.o l) vs ar=some (r,aj)):FF prog w hB C A m ov (.o l) vs s₁ ar r aj:=by
 obtain⟨rfl,hl⟩:=rv;have q1:dO w s₁.heap (av l).1 xs:=S.node l _ hn
 replace e:=(kH dA).symm.trans e
 by_cases hm:m="add"
 ·replace e:=jM ((if_pos hm).symm.trans e)
  cases e with
  |mk y e=>
   obtain⟨i,ei,e⟩:=a9 e;by_cases hz:lz.length<4000
   ·cases(if_pos hz).symm.trans e;subst hm;obtain rfl:=bq ei;refine⟨_,λ pl Q E h=>getMethod_builtin q1.typeIs F.plainAttrs_set F.slot_set_add F.type_set_add q1.noDict h,.inl ⟨_,rfl⟩,λ J' H s vals Q E S' R h=>?_⟩;obtain⟨u,v,rfl,⟨rfl,_⟩,yJ⟩:=R.inv2;obtain⟨t,rfl⟩:=aT yJ;refine uZ (S'.node l _ dA) hz λ h' DW hS=>?_;have om:∀b o,b≠(H l).1->b≠(H l).2->s.heap.get? b=some o->h'.get? b=some o:=λ b o h1 _ ho=>DW.extBut b o h1 ho;exact h _ _ H ⟨⟨rfl,GX.refl _⟩,bZ.set dA rfl om,S'.set dA rfl om hS (λ _=>S'.two l _ dA rfl)⟩ RD.none
   ·exact no ((if_neg hz).symm.trans e)
 ·exact no ((if_neg hm).symm.trans e)
end
end
section
open PySem PyProof.Rows
section
variable{J:Addr->Prop}{A:Around}{env:Env}
variable{O:ak}{U af ar bL aj:ae}{r:V}{k:Nat}{H:bB}{s:Shared}{E:Value->Shared->Prop}
noncomputable abbrev dq(w:World):Obj:={ cls:=.type "set",dict:=none,data:=.set #[] 0 (.fresh 0 0 (!(w.params.followText "set-order"))) }
theorem ug{Q₁:Value->Shared->Prop}(h:Q₁ (.ref s.heap.objs.size) { s with heap:=s.heap.push (dq w) }) :
  codeAny (model prog w) A (.call (.builtin "set.__new__") ⟨[.type "set"],[]⟩) (wants Q₁ E) s:=by
 refine codeAny_of_tree ?_;show wpAny _ A.in1 (do checkBuiltinCall "set.__new__" ⟨[.type "set"],[]⟩;again (.builtin "set.__new__" ⟨[.type "set"],[]⟩)) _ _ s;refine wpAny_bind (wpAny_of_eq F.newCall_set_0 (wpAny_pure ⟨plainId_quiet F.plain_set_new _,codeAny_builtin F.entry_set_new ?_⟩));rw[Around.under_plainId F.plain_set_new _];delta Builtin.«set.__new__» Builtin.Frozenset.newClass;have OM:=sub_set_self;obtain⟨hp,g,d,tk,os⟩:=s;dsimp only
 wp_walk
 refine wpAny_askSetting (wpAny_pure ?_);dsimp only;simp only[newObj];refine wpAny_bind (wpAny_alloc (wpAny_pure ?_));exact wpAny_pure h
end
section
namespace d4
noncomputable section
def P(A:Around)(s:Shared)(E:Value->Shared->Prop)(Q:Value->Shared->Prop):Prop:=∀(h:Q (.ref s.heap.objs.size) { s with heap:=s.heap.push (dq w) }),wpAny (model prog w) A (call (.type "set") []) Q E s
def xe:(Around)×(Shared)×(Value->Shared->Prop)×(Value->Shared->Prop):=@Classical.epsilon _ ⟨({},{},default,default)⟩ λ x=>¬P x.1 x.2.1 x.2.2.1 x.2.2.2
def A:Around:=xe.1
def s:Shared:=xe.2.1
def E:Value->Shared->Prop:=xe.2.2.1
def Q:Value->Shared->Prop:=xe.2.2.2
theorem core:P A s E Q:=λ h=>by
 obtain⟨c,tl,TK⟩:=F.called_set.mro;have QW:=F.called_set.made;have OM:=F.called_set.sub;refine wpAny_call (codeAny_of_tree ?_);show wpAny _ _ (callAny (.type "set") _) _ _ _;refine wpAny_pure ⟨Code.quiet_builtin _ (by decide +kernel),codeAny_builtin F.entry_type_call ?_⟩;rw[Around.under_plain (weight_type_call_type "set" [] []) rfl];have h1:=F.called_set.notType;have h2:=F.called_set.canCreate;have Vo:=F.typeCall_set_0
 repeat (any_goals (first | assumption | wp_step))
 refine codeAny_mono (ug (E:=E) (Q₁:=λ obj s₁=>obj=.ref s.heap.objs.size/\s₁={ s with heap:=s.heap.push (dq w) }) ⟨rfl,rfl⟩) λ r s₁ hr=>?_;cases r with
 |error e=>exact hr
 |ok fl=>
  cases fl with
  |ret obj=>
   obtain⟨rfl,rfl⟩:=hr;have hS:(s.heap.push (dq w)).get? s.heap.objs.size=some (dq w):=Heap.get?_push_size _ rfl;have hT:Shared.TypeIs { s with heap:=s.heap.push (dq w) } (.ref s.heap.objs.size) "set":=⟨_,hS,rfl⟩;have QS:=F.called_set.init.lookup;have yW:=F.called_set.init.bind (.ref s.heap.objs.size)
   repeat (any_goals (first | assumption | wp_step))
   refine codeAny_mono (codeAny_call_builtin (R:=wants (λ r s₂=>r=.none/\Q (.ref s.heap.objs.size) s₂) E) F.called_set.init.plain F.entry_set_init (check_set_init hT ?_)) λ oH s₂ AJ=>?_
   ·delta Builtin.«set.__init__» noKeywords
    wp_walk
    exact⟨rfl,h⟩
   ·cases oH with
    |error e=>exact AJ
    |ok KP=>
     cases KP with
     |ret r=>
      obtain⟨rfl,hq⟩:=AJ
      repeat (any_goals (first | assumption | wp_step))
     |_=>exact AJ.elim
  |_=>exact hr.elim
end
end d4
variable{J:Addr->Prop}{A:Around}{env:Env}
variable{O:ak}{U af ar bL aj:ae}{r:V}{k:Nat}{H:bB}{s:Shared}{E:Value->Shared->Prop}
theorem rq{A:Around}{s:Shared}{E:Value->Shared->Prop}{Q:Value->Shared->Prop}:d4.P A s E Q:=aU (Q:=λ x:(Around)×(Shared)×(Value->Shared->Prop)×(Value->Shared->Prop)=>d4.P x.1 x.2.1 x.2.2.1 x.2.2.2) d4.core (A,s,E,Q)
theorem dO.new:dO w (s.heap.push (dq w)) s.heap.objs.size []:=
 ⟨dq w,#[],0,_,Heap.get?_push_size _ rfl,⟨rfl,rfl,rfl⟩,rfl,⟨λ e he=>(by cases he),λ i=>⟨λ h=>(by cases h),(by rintro⟨_,h,_⟩;exact(by cases h))⟩,Nat.zero_le _⟩,Nat.zero_le _,rfl,List.Pairwise.nil,rfl⟩
theorem GZ{vs:List V}{Y:Or}{own:Bool}(e:f7 Y own "set" vs U=some (r,aj)):wy prog w hB C A (.type "set") vs U r aj:=λ J H s vals Q E S R h=>by
 refine bC λ k9=>?_;obtain⟨rfl,e⟩:=Ki ((if_pos rfl).symm.trans ((if_neg (by decide)).symm.trans ((if_neg (by decide)).symm.trans ((if_neg (by decide)).symm.trans ((if_neg (by decide)).symm.trans e)))));cases e;refine k9 ?_;rw[R.cM];have kp:∀b o,s.heap.get? b=some o->(s.heap.push (dq w)).get? b=some o:=λ b o q=>Heap.get?_push_of_some _ q;exact rq (h _ _ _ ⟨⟨rfl,GX.refl _⟩,bZ.grow (aY _) (aY _) kp,S.grow (aY _) (aY _) kp dO.new (λ _=>rfl)⟩ VR.top)
end
end
section
open PySem PyProof.Rows
variable{E Q:Value->Shared->Prop}{g:Gn}{gl:Str->Bool}{p1 p2 p3 p4 p5:Pos}{s:Shared}{t:String}
section
variable{J:Addr->Prop}{A:Around}{env:Env}
variable{O:ak}{U af aj:ae}{pos:Pos}{k:Nat}
theorem DP{ge:Env}{x T:Str}{u:Shared}{m₂:Str->Option Value}{v:Value}{d:PyData}{X:Addr->Prop}
  (hk:ge.scope.kind=.function) (hg:u.heap.Ns ge.globals mg) (hb:u.heap.Ns ge.builtins mb) (kx:ge.kindOf x=some .local) (kt:ge.kindOf "type"=some .globalImplicit) (kT:ge.kindOf T=some .globalImplicit) (dx:(x == ("__debug__":Str))=false) (dT:(T == ("__debug__":Str))=false)
  (gt:mg "type"=none/\mb "type"=some (.type "type")) (gT:mg T=none/\mb T=some (.type t)) (hn:u.heap.Ns ge.locals m₂) (hx:m₂ x=some v) (rd:RD X u.heap v d) (ht:mK (.d d)=some t) :
  wpAny (model prog w) A (eval (.Compare (.Call (.Name "type" p1) [.Name x p2] [] p3) [.Is] [.Name T p4] p5) ge) (λ y ix=>y=.bool true/\Keeps u ix) E u:=by
 have gl:∀{z:Str} {y:String} {q:Pos} {s:Shared} {Q:Value->Shared->Prop},s=u->ge.kindOf z=some .globalImplicit->(z == ("__debug__":Str))=false->mg z=none/\mb z=some (.type y)->Q (.type y) s->wpAny (model prog w) A (eval (.Name z q) ge) Q E s:=λ {z y q s Q} e kz dz gz h=>by
  subst e;exact PySem.Calls.Name_function_global hk kz (PySem.Calls.loadGlobal_builtin (mg:=mg) (mb:=mb) hg gz.1 hb gz.2 h) dz
 refine wpAny_Compare1 ?_ rfl;refine Call_Name1 (gl rfl kt (by decide) gt (PyProof.Rows.callWith_type rfl (PySem.Calls.evalArgs_plain (PySem.Calls.spliced_cons (wpAny_Name (wpAny_loadName_local hk kx hn hx (PySem.Calls.spliced_nil ?_)) dx))))) rfl;refine xP (x:=.d d) (J:=X) (H:=λ _=>(0,0)) (U:=[]) (rd.keeps (λ _ _ _ q=>q) λ b o hb _ q=>q.elim hb λ q=>by obtain⟨l,n,e,_⟩:=q;cases e) ht ?_;refine gl rfl kT dT gT ?_;exact wpAny_is_plain (a:=.type t) (b:=.type t) rfl ⟨by show Value.bool (Value.type t == Value.type t)=_;rw[beq_self_eq_true],u.heap,u.toks,rfl,λ _ _ e=>e⟩
theorem ox(B:Base hB C N p mg mb mN){h:Heap}{ps:Array Value}(hk:∀b o,hB.get? b=some o->h.get? b=some o)(hp:h.get? PL=some { cls:=.none,data:=.fields ps })(ht:TriplesOk ps.toList):h.IsCode cL PL ps/\h.TableAt cL PL ps:=by
 obtain⟨o,vs,file,tf,flags,tg,OT,text,tt,h1,h2,h3,h4,h5,h6,h7,h8⟩:=B.eM;have g:∀{i:Nat} {v:Value},vs[i]?=some v->vs.getD i .none=v:=λ {i v} q=>by rw[Array.getD_eq_getD_getElem?,q];rfl
 exact⟨⟨o,vs,file,tf,flags,tg,OT,text,tt,_,hk _ _ h1,h3,g h4,g h5,g h6,g h7,g h8,hp,rfl,ht,by decide⟩,⟨o,vs,hk _ _ h1,h2,h3,h4⟩,hp⟩
theorem As(B:Base hB C N p mg mb mN){qn:Str}{sc:Scope}(hc:env.code=.ref cL)(hk:∀b o,hB.get? b=some o->s.heap.get? b=some o)(K:GI s.heap PL)
  (h:∀c h' tk,(∀b o,b≠PL->s.heap.get? b=some o->h'.get? b=some o)->GI h' PL->s.heap.objs.size<=h'.objs.size->Q c { s with heap:=h',toks:=tk }):wpAny (model prog w) A (genexprCode env pos qn sc) Q E s:=by
 obtain⟨ps,_,q1,q2⟩:=K;obtain⟨h1,h2⟩:=ox B hk q1 q2;cases hf:codeAmong pos ps.toList with
 |some c=>exact wpAny_genexprCode_hit hc h1 hf (h c s.heap s.toks (λ _ _ _ e=>e) ⟨ps,rfl,q1,q2⟩ (Nat.le_refl _))
 |none=>
  refine wpAny_genexprCodeX hc h1 h2 hf λ c' h' tk hx M4 cz Ay _ OP _=>h _ h' tk (λ b o hb e=>hx b o hb e) ⟨_,rfl,OP.2,?_⟩ (Nat.le_trans M4 (Nat.le_of_lt cz));obtain⟨_,_,_,_,_,_,_,_,_,_,_,_,_,_,_,_,_,_,_,ht,_⟩:=Ay;exact ht
theorem HH{g g':Array GenState}{x:GenState}(hb:x.bare=true)(h:GenOnlyQ g.size (g.push x) g'):GX g g':=by
 rcases h with rfl | ⟨⟨h1,h2⟩,h3⟩
 ·exact⟨#[x],Array.push_eq_append,λ y hy=>by rw[Array.mem_singleton.mp hy];exact hb⟩
 ·rw[Array.size_push] at h1;have hl:g.size<g'.size:=by rw[h1];exact Nat.lt_succ_self _
  refine⟨#[g'[g.size]],?_,λ y hy=>by rw[Array.mem_singleton.mp hy];exact h3 _ (Array.getElem?_eq_getElem hl)⟩;apply Array.ext_getElem?;intro i;rw[<-Array.push_eq_append];by_cases hi:i=g.size
  ·subst hi;rw[Array.getElem?_push_size,Array.getElem?_eq_getElem hl]
  ·rw[h2 i hi,Array.getElem?_push,Array.getElem?_push];simp[hi]
theorem tM{o:Option Nd}(h:pQ o=true):o=some .eM:=by
 cases o with
 |none=>exact bt h
 |some n=>cases n<;>first | rfl | exact bt h
theorem E3{U:ae}(h:U[0]?=some .eM):U.set 0 .eM=U:=by
 cases U with
 |nil=>exact no h
 |cons n r=>cases h;rfl
inductive NG(gl:Str->Bool)(κ:Str->Kd)(g:Gn):Prop
 |mk (o1:(κ "all" == .uF)=true) (o4:(κ iY == .loc)=true) (o5:(!g.sc.isCoroutine)=true) (o6:(g.sc.kind == .function)=true) (o7:(g.sc.names.all λ q=>!(q.2 == .cell) && !(q.2 == .free))=true) (o8:(g.sc.names.lookup (".0":Str) == some .local)=true) (o9:(g.sc.names.lookup g.x == some .local)=true) (Rx:ik g.x=true) (Ry:(g.sc.names.lookup ("type":Str) == some .globalImplicit)=true) (RA:(g.sc.names.lookup g.T == some .globalImplicit)=true) (RB:ik g.T=true)
theorem Pe{κ:Str->Kd}(ok:JD gl κ g=true):NG gl κ g:=
 let r1:=az ok;let r2:=az r1.2;let r3:=az r2.2;let r4:=az r3.2;let r5:=az r4.2;let r6:=az r5.2;let r7:=az r6.2;let r8:=az r7.2;let r9:=az r8.2;let RG:=az r9.2;let RH:=az RG.2;let RI:=az RH.2
 ⟨r1.1,r4.1,r5.1,r6.1,r7.1,r8.1,r9.1,RG.1,RH.1,RI.1,RI.2⟩
theorem CW{l:List (Str×NameKind)}:∀acc,(∀x∈l,(x.2 == NameKind.free)=false)->lE env l acc=acc:=by
 induction l with
 |nil=>exact λ _ _=>rfl
 |cons x r ih=>exact λ acc hf=>(jd λ q=>bt ((hf x (.head _)).symm.trans (beq_iff_eq.mpr q))).trans (ih acc λ y hy=>hf y (.tail _ hy))
theorem Qd{G β γ δ ε ζ η θ:Type}{R:G->β->γ->δ->ε->ζ->η->θ->Prop}(a:G)(b:β)(c:γ)(d:δ)(e:ε)(f:ζ)(g:η)(h:θ)(r:R a b c d e f g h):∃a b c d e f g h,R a b c d e f g h:=⟨a,b,c,d,e,f,g,h,r⟩
theorem Dt(B:Base hB C N p mg mb mN){xs:List PyData}{H:bB}{m cm:Str->Option Value}{np p6 p7:Pos}(hE:aN env)(hA:cZ A k)(ok:JD gl (kd env) g=true)(L:c7 prog w hB C J A env (.Name g.y g.py) O U (.d (.list xs)) aj)
  (hT:p.gl g.T=some (.ty t)) (h0:pQ aj[0]?=true) (hx:(xs.all λ d=>mK (.d d) == some t)=true) (F:FR J env m cm s.heap) (R:ER w J H U env m cm s.heap O) (S:SR prog w hB C J H U s.heap) (h:∀v s' aB,aS prog w hB C J s H U s' aB aj->VR w J aB aj s'.heap v (.d (.bool true))->Q v s') :
  wpAny (model prog w) A (eval (.Call (.Name "all" np) [.GeneratorExp (.Compare (.Call (.Name "type" p1) [.Name g.x p2] [] p3) [.Is] [.Name g.T p4] p5) [⟨.Name g.x p6,.Name g.y g.py,[],0⟩] g.sc p7] [] pos) env) Q E s:=by
 cases Pe ok with
 |mk o1 o4 o5 o6 o7 o8 o9 Rx Ry RA RB=>
 have o7:=List.all_eq_true.mp o7;have kl:∀{e:Env} {x:Str} {q:Kd},(kd e x == q)=true->GH e x q:=λ {e x q} h=>eq_of_beq h▸LY e x;have Ay:env.code=.ref cL:=hE.code (by cases kl o4 with | loc q=>exact q);have K8:closureFor g.sc env=pure []:=by
  rw[jP λ x hx hf=>bt ((iM (az (o7 x hx)).2).symm.trans (beq_iff_eq.mpr hf)),CW _ λ x hx=>iM (az (o7 x hx)).2]
 refine Call_Name1 (kG hE (by cases kl o1 with | uF q=>exact q) (by decide) B.ng (B.bi "all" (.builtin "all") (by decide)).1 B.nb (B.bi "all" (.builtin "all") (by decide)).2 S (PySem.Calls.callWith_builtin rfl (PySem.Calls.evalArgs_plain (PySem.Calls.spliced_cons ?_)))) rfl;refine wpAny_GeneratorExp_walksQD hA.handled (iM o5) K8 (λ y hy q=>bt ((iM (az (o7 y hy)).1).symm.trans (beq_iff_eq.mpr q))) (eq_of_beq o8) (eq_of_beq o9) (eq_of_beq o6) (Nat.lt_of_le_of_lt (Nat.le_trans (Nat.le_add_right _ _) (Nat.le_add_right _ _)) hA.depth) (L H s m cm _ _ F R S λ v s₁ av gg rv=>?_) λ _=>rfl;have AE:=tM h0;refine bC λ k9=>?_;obtain⟨ps,k1,k2,k3⟩:=gg.sr.node 0 _ AE;have Vk:(av 0).2=PL:=(gg.sr.two 0 _ AE rfl).trans k1;have Q2:Own av aj PL:=k1▸(Own.of (H:=av) AE rfl).1;have S8:hB.get? PL=none:=k1▸(gg.sr.off 0 _ AE rfl).1;rw[k1] at k2;have K4:=Heap.lt_size k2;obtain⟨l,vs,n,rfl,q1,q2,q3,q4⟩:=RD.bJ rv;obtain⟨bm,ob,M⟩:=B.bm;refine k9 ?_;have hl:=Heap.lt_size q1;refine wpAny_pyIter_list (IsList.of q1) ⟨(B.lim.keeps gg.sr.keep).push _,?_⟩;refine As B Ay (λ b o q=>Heap.get?_push_of_some _ (gg.sr.keep b o q)) ⟨ps,rfl,Heap.get?_push_of_some _ k2,k3⟩ λ c ou RN Gj NB w0=>?_;rw[Heap.size_push] at w0;have Ng:∀b o,b≠PL->s₁.heap.get? b=some o->ou.get? b=some o:=λ b o hb q=>Gj b o hb (Heap.get?_push_of_some _ q);have kb:∀b o,hB.get? b=some o->ou.get? b=some o:=λ b o q=>Ng b o (λ e=>by rw[e,S8] at q;cases q) (gg.sr.keep b o q);refine wpAny_builtinsFor (m:=mg) (by rw[hE.globals];exact M.ns.keeps kb) M.name M.ne (kb _ _ M.obj) M.cls M.dict M.data ?_;have hI:s₁.heap.objs.size≠PL:=Nat.ne_of_gt K4;have TG:l≠PL:=λ e=>q2 (e▸.inr Q2);have Ij:ou.NoLimit:=B.lim.keeps kb;refine Qd _ _ _ _ _ _ (λ _=>true) (λ _ y=>y=.bool true) ⟨rfl,λ A' DR=>Walks.list DR s₁.heap.objs.size l (Nat.ne_of_lt hl) vs.toArray,⟨⟨_,Gj _ _ hI (Heap.get?_push_size _ rfl),rfl,rfl⟩,(IsList.of q1).at λ o e=>Ng l o TG e⟩,λ b hb=>?_,Ij,λ hm=>?_,λ T6 Lj=>⟨λ A' E' i v u m₂ _ _ _ _ _ _ _=>wpAny_pure ⟨rfl,u.heap,u.toks,rfl,λ _ _ e=>e⟩,λ A' E' i v u m₂ _ _ _ hP _ hn hm Ow=>?_⟩,λ a Uq tk gs Oo Vl OO Ln W MX=>?_⟩
 ·rcases List.mem_cons.mp hb with rfl | hb
  ·exact w0
  ·rw[List.mem_singleton.mp hb];exact Nat.lt_of_lt_of_le hl (Nat.le_of_succ_le w0)
 ·obtain⟨_,ns,_⟩:=B.lim;obtain⟨o,_,_,ho,_⟩:=ns;exact Nat.lt_irrefl _ (List.mem_singleton.mp hm▸Heap.lt_size (gg.sr.keep _ _ ho))
 ·have kk:∀b o,b≠s₁.heap.objs.size->ou.get? b=some o->u.heap.get? b=some o:=λ b o hb e=>Ow b (List.mem_range.mpr (Heap.lt_size e)) (λ q=>hb (List.mem_singleton.mp q)) o (Lj b o e);have kB:∀b o,hB.get? b=some o->u.heap.get? b=some o:=λ b o q=>kk b o (Nat.ne_of_lt (Heap.lt_size (gg.sr.keep b o q))) (kb b o q);refine bC λ k9=>?_;obtain⟨d,hd,hr⟩:=q4.K2 (List.getElem?_toArray.symm.trans hP);refine k9 ?_;exact DP (X:=Ex J av aj) (eq_of_beq o6) (by show u.heap.Ns env.globals mg;rw[hE.globals];exact B.ng.keeps kB) (B.nb.keeps kB) (eq_of_beq o9) (eq_of_beq Ry) (eq_of_beq RA) (iM (az (az Rx).1).2) (iM (az (az RB).1).2) (B.bi "type" (.type "type") (by decide)) (B.Qm _ _ hT) hn hm
   (hr.keeps (λ b o hb e=>kk b o (Nat.ne_of_lt (Heap.lt_size e)) (Ng b o (λ q=>hb (q▸.inr Q2)) e)) λ _ _ hb _=>hb) (eq_of_beq (List.all_eq_true.mp hx d (List.mem_of_getElem? hd)))
 ·refine PySem.Calls.spliced_nil ?_;have W:=W.in4_1;refine call_all_walkS (W.self 0 _ _ _ MX (Qd a _ _ _ _ _ _ (λ _=>true) ⟨rfl,W,MX,λ j v s Q E hv hQ=>?_,λ s' hm=>?_⟩))
  ·obtain⟨i,_,rfl⟩:=hv;exact wpAny_truthy_bool hQ
  ·rw[show(List.range _).all (λ _=>true)=true from List.all_eq_true.mpr λ _ _=>rfl];have lo:∀b,b<s₁.heap.objs.size->b∉[ou.objs.size,s₁.heap.objs.size]:=λ b hb q=>by
    rcases List.mem_cons.mp q with rfl | q
    ·exact Nat.lt_irrefl _ (Nat.lt_of_lt_of_le hb (Nat.le_of_succ_le w0))
    ·exact Nat.lt_irrefl _ (List.mem_singleton.mp q▸hb)
   have Rk:∀b o,b<s₁.heap.objs.size->ou.get? b=some o->s'.heap.get? b=some o:=λ b o hb e=>hm.heap b o (lo b hb) (Ln b o e);have Rj:∀b o,b≠(av 0).1->b≠(av 0).2->s₁.heap.get? b=some o->s'.heap.get? b=some o:=λ b o hb _ e=>Rk b o (Heap.lt_size e) (Ng b o (k1▸hb) e);refine bC λ k9=>?_;obtain⟨Pm,_,c2,c3⟩:=NB;refine k9 ?_;have S':=gg.sr.set (n':=.eM) (h':=s'.heap) AE rfl Rj ⟨Pm,k1,by rw[k1];exact Rk _ _ K4 c2,c3⟩ λ _=>gg.sr.two 0 _ AE rfl;have E':=bZ.set (n':=.eM) (h':=s'.heap) AE rfl Rj;rw[E3 AE] at S' E';exact h _ s' av (gg.trans ⟨⟨hm.os,HH Oo hm.gens⟩,E',S'⟩) (RD.bool true)
theorem Hl(B:Base hB C N p mg mb mN){fn:Expr}{args:List Expr}{xs:List PyData}(hE:aN env)(hA:cZ A k)(hC:CL g fn args)(ok:JD gl (kd env) g=true)(L:c7 prog w hB C J A env (.Name g.y g.py) O U (.d (.list xs)) aj)
  (hT:p.gl g.T=some (.ty t)) (h0:pQ aj[0]?=true) (hx:(xs.all λ d=>mK (.d d) == some t)=true):c7 prog w hB C J A env (.Call fn args [] pos) O U (.d (.bool true)) aj:=λ H s m cm Q E F R S h=>by
 cases hC with
 |mk np p1 p2 p3 p4 p5 p6 p7=>exact Dt B hE hA ok L hT h0 hx F R S h
end
end
section
open PySem PyProof.Rows
variable{pos:Pos}{t:Expr}{x:Str}
structure Wd(prog:Program)(w:World)(hB:Heap)(C N:Addr)(p:FG)(mg mb mN:Str->Option Value)(Y:Or)(k:Nat):Prop where
 base:Base hB C N p mg mb mN
 or:y9 prog w hB C mg mN Y k
 gl:Y.gl=p.gl
 cls:Y.cls=p.cls
noncomputable def iT(p:FG)(x:Str):Bool:=(p.gl x).isSome
section
variable{Y:Or}{k n:Nat}
noncomputable def Good(Y:Or)(k n:Nat)(e:Expr):Prop:=
 ∀J A env O U x aj,aN env->cZ A k->iI (iT p) n (kd env) e=true->ev Y e O U=some (x,aj)->c7 prog w hB C J A env e O U x aj
noncomputable def fY(Y:Or)(k n:Nat)(e:Expr):Prop:=
 ∀J A env O U b aj,aN env->cZ A k->iI (iT p) n (kd env) e=true->i9 Y e O U (ev Y e O U)=some (b,aj)->xZ prog w hB C J A env e O U b aj
variable{J:Addr->Prop}{A:Around}{env:Env}{O:ak}{U aj af:ae}{e:Expr}
theorem c7.of{x y:V}(h:some (x,af)=some (y,aj))(L:c7 prog w hB C J A env e O U x af):c7 prog w hB C J A env e O U y aj:=by cases h;exact L
theorem xZ.of{x y:Bool}(h:some (x,af)=some (y,aj))(L:xZ prog w hB C J A env e O U x af):xZ prog w hB C J A env e O U y aj:=by cases h;exact L
theorem iS(hE:aN env)(hA:cZ A k)(VE:∀e,Good Y k n e):∀(es:List Expr) (U:ae) (xs:List V) (aj:ae),es.all (iI (iT p) n (kd env))=true->gJ Y es O U=some (xs,aj)->xW prog w hB C J A env es pos O U xs aj:=by
 intro es
 induction es with
 |nil=>
  intro U xs aj _ h;cases h;exact Hk
 |cons e es ih=>
  intro U xs aj ok h;refine bC λ k9=>?_;obtain⟨v,af,h1,h⟩:=dy h;obtain⟨vs,ar,h2,h⟩:=dy h;cases h;refine k9 ?_;exact Ds (wO h1) (VE e J A env O U v af hE hA (az ok).1 h1) (ih af vs _ (az ok).2 h2)
theorem Fj{op:BoolOp}(hE:aN env)(hA:cZ A k)(VE:∀e,fY Y k n e):∀(es:List Expr) (U:ae) (b:Bool) (aj:ae),es.all (iI (iT p) n (kd env))=true->mi Y op es O U=some (b,aj)->J5 prog w hB C J A env op es O U b aj:=by
 intro es
 induction es with
 |nil=>
  intro U b aj _ h;cases h;exact I7
 |cons e es ih=>
  intro U b aj ok h;obtain⟨c,af,h1,h⟩:=dy h;refine E9 (VE e J A env O U c af hE hA (az ok).1 h1) ?_;cases op<;>cases c
  ·cases h;exact⟨rfl,rfl⟩
  ·exact ih af b aj (az ok).2 h
  ·exact ih af b aj (az ok).2 h
  ·cases h;exact⟨rfl,rfl⟩
theorem Fm(hE:aN env)(hA:cZ A k)(VE:∀e,fY Y k n e):∀(es:List Expr) (U:ae) (b:Bool) (aj:ae),es.all (iI (iT p) n (kd env))=true->gX Y es O U=some (b,aj)->Cv prog w hB C J A env es O U b aj:=by
 intro es
 induction es with
 |nil=>
  intro U b aj _ h;cases h;exact Ja
 |cons e es ih=>
  intro U b aj ok h;obtain⟨c,af,h1,h⟩:=dy h;refine Fo (VE e J A env O U c af hE hA (az ok).1 h1) ?_;cases c with
  |true=>exact ih af b aj (az ok).2 h
  |false=>cases h;exact⟨rfl,rfl⟩
theorem H8(h:kd env x=.uF):env.kindOf x=some .globalImplicit:=by
 have K:=LY env x;rw[h] at K;cases K with | uF q=>exact q
theorem fN(h:ik x=true):(x == ("__debug__":Str))=false:=iM (az (az h).1).2
theorem Ia(h:own? (kd env) x=true):(env.kindOf x=some .local\/env.kindOf x=some .cell\/env.kindOf x=some .free)/\ik x=true:=by
 refine⟨?_,(az h).2⟩;have h:(kd env x == .loc || kd env x == .qb)=true:=(az h).1;have K:=LY env x;generalize kd env x=κ at K h;cases K with
 |loc q=>exact .inl q
 |qb q=>exact .inr (.inl q)
 |DK q=>exact .inr (.inr q)
 |_=>exact bt h
theorem Br(h:own? (kd env) x=true):gD env x=true/\(x == ("__classdict__":Str))=false/\(x == ("__debug__":Str))=false:=by
 refine⟨?_,iM (az (az (az h).2).1).1,fN (az h).2⟩;unfold gD;rw[iM (az (az h).2).2];have h:(kd env x == .loc || kd env x == .qb)=true:=(az h).1;show Nh (kd env x)=true;generalize kd env x=κ at h ⊢;cases κ<;>first | rfl | exact bt h
theorem iU(h:(kd env x == Kd.uF)=true):env.kindOf x=some .globalImplicit:=H8 (eq_of_beq h)
theorem KL{f:Expr}{c:Bool}{r:V}{ar:ae}(T:xZ prog w hB C J A env t O U c af)(L:c=true->c7 prog w hB C J A env e O af r ar)(R:c=false->c7 prog w hB C J A env f O af r ar):c7 prog w hB C J A env (.IfExp t e f pos) O U r ar:=
 λ H s m cm Q E F Re S h=>by
  refine wpAny_IfExp (T H s m cm _ _ F Re S λ s₁ av g=>?_);cases c with
  |true=>exact L rfl av s₁ m cm _ _ (F.aH S g.aH) (Re.aH g.aH) g.sr λ v s₂ ck cP oH=>h v s₂ ck (g.trans cP) oH
  |false=>exact R rfl av s₁ m cm _ _ (F.aH S g.aH) (Re.aH g.aH) g.sr λ v s₂ ck cP oH=>h v s₂ ck (g.trans cP) oH
theorem zS(W:Wd prog w hB C N p mg mb mN Y k){it:Expr}{xs:List V}(VE:∀m e,m<n->Good Y k m e)(IH:Good Y k n it)(hE:aN env)(hA:cZ A k)(ok:iI (iT p) n (kd env) it=true)(hd:vN t it=true)(ht:eY t)
  (h:uC Y it O U (ev Y it O U)=some (xs,aj)):Cs prog w hB C J A env t it O U xs aj:=by
 have plain:lJ (ev Y it O U)=some (xs,aj)->Cs prog w hB C J A env t it O U xs aj:=λ h=>by
  refine bC λ k9=>?_;obtain⟨v,af,h1,h⟩:=dy h;obtain⟨ys,h2,h⟩:=a9 h;cases h;refine k9 ?_;cases v with
  |d x=>
   obtain⟨ds,h3,rfl⟩:=Option.map_eq_some_iff.mp h2;exact AX ht hA (IH J A env O U _ _ hE hA ok h1) h3
  |_=>first | exact no h2 | exact bt h2 | cases h2
 refine bC λ k9=>?_;cases KA it with
 |plain q _=>exact k9 (plain ((q _ _ _ _).symm.trans h))
 |call f np args q e=>
  subst e;cases n with
  |zero=>exact bt ok
  |succ n=>
   refine Classical.byCases (p:=gB f=true) (λ hf=>?_) (λ hf=>?_)
   ·obtain⟨vs,af,h1,h⟩:=dy ((if_pos hf).symm.trans h);obtain⟨ys,h2,h⟩:=a9 h;cases h;cases oA ok with
    |gen g hg _ _=>cases hg;exact bt hf
    |call _ o o4=>
     obtain⟨o1,o⟩:=az o;have go:∀T,(f,.type T)∈Cw->JR prog w hB C A t T vs aj xs->Cs prog w hB C J A env t (.Call (.Name f np) args [] q) O U xs aj:=λ T hb D=>
      D5 hE (iU o1) (fN (az o).1) W.base.ng W.base.nb (.inr (W.base.bi _ _ hb)) h1 (iS hE hA (λ e=>VE n e (Nat.lt_succ_self n)) args U vs _ o4 h1) D
     rcases Bool.or_eq_true_iff.mp hf with hf | hf
     ·rcases Bool.or_eq_true_iff.mp hf with hf | hf
      ·obtain rfl:=eq_of_beq hf;cases ht with
       |name x p=>exact bt hd
       |tup ts kk p=>exact k9 (go "enumerate" (by decide) (C3 hA h2))
      ·obtain rfl:=eq_of_beq hf;exact k9 (go "range" (by decide) (zQ ht hA h2))
     ·obtain rfl:=eq_of_beq hf;cases ht with
      |name x p=>exact bt hd
      |tup ts kk p=>exact k9 (go "zip" (by decide) (G8 hA h2))
   ·exact k9 (plain ((if_neg hf).symm.trans h))
end
end
section
open PySem PyProof.Rows
variable{args:List Expr}{elt fn:Expr}{gens:List Comprehension}{gl:Str->Bool}{rX:List Keyword}{m:Str}{q:Nat}{r:V}{scope:Scope}{κ:Str->Kd}
section
variable{Y:Or}{k n:Nat}
variable{J:Addr->Prop}{A:Around}{env:Env}{O:ak}{U aj:ae}{e:Expr}{pos:Pos}
theorem Dv{n:Nd}(hg:∃o,hB.get? mainGlobals=some o)(hn:n=.fF []\/n=.jf []):c7 prog w hB C J A env (.Dict [] [] pos) O U (.o U.length) (U++[n]):=λ H s m cm Q E F R S h=>by
 refine wpAny_Dict_empty ?_;have kp:∀b o,s.heap.get? b=some o->(s.heap.push { cls:=.type "dict",data:=.dict #[] }).get? b=some o:=λ b o q=>Heap.get?_push_of_some _ q;have ev:bZ H U s.heap (H.add U s.heap.objs.size s.heap.objs.size) (U++[n]) (s.heap.push { cls:=.type "dict",data:=.dict #[] }):=bZ.grow (aY _) (aY _) kp;refine h _ _ _ ⟨⟨rfl,GX.refl _⟩,ev,S.grow (aY _) (aY _) kp ?_ (λ _=>rfl)⟩ VR.top;have hsz:s.heap.objs.size≠sysModules:=λ q=>by
  obtain⟨o,ho⟩:=hg;have:=Heap.lt_size (S.keep _ o ho);rw[q] at this;exact absurd this (by decide)
 rcases hn with rfl | rfl
 ·exact⟨⟨Nat.zero_le _,hsz⟩,[],Heap.DictOf.new s.heap,aE.nil⟩
 ·exact⟨⟨Nat.zero_le _,hsz⟩,[],Heap.DictOfH.new s.heap,(λ x hx=>by cases hx),aE.nil⟩
inductive Sj(U:ae)(m:Str)(l:Nat)(q:Nat):Prop
 |aI (xs:List V) (hn:U[l]?=some (.aI xs)) (e:q=1)
 |fF (bj:List (Int×V)) (hn:U[l]?=some (.fF bj)) (e:q=3)
 |set (xs:List Int) (hn:U[l]?=some (.set xs)) (e:q=4)
 |ins (fs:List (Str×V)) (hn:U[l]?=some (.ins fs)) (ha:dY m fs=none) (e:q=5)
theorem MK{l:Nat}(h:vk U m (.o l)=some q):Sj U m l q:=by
 have h:Nn m U[l]?=some q:=h;cases hn:U[l]? with
 |none=>rw[hn] at h;first | exact no h | exact bt h | cases h
 |some nd=>
  rw[hn] at h;cases nd with
  |aI xs=>cases h;exact .aI xs hn rfl
  |fF bj=>cases h;exact .fF bj hn rfl
  |set xs=>cases h;exact .set xs hn rfl
  |ins fs=>
   refine Classical.byCases (p:=(dY m fs).isSome=true) (λ ha=>?_) (λ ha=>?_)
   ·exact no ((if_pos ha).symm.trans h)
   ·cases(if_neg ha).symm.trans h;exact .ins fs hn (Option.not_isSome_iff_eq_none.mp ha) rfl
  |_=>first | exact no h | exact bt h | cases h
theorem ML{a:V}{vs:List V}{af ar aj:ae}(W:Wd prog w hB C N p mg mb mN Y k)(hA:cZ A k)(h1:vk af m a=some q)(h2:vk ar m a=some q)(e:iN Y m a vs ar=some (r,aj)) :
  ∀ov s₁ av,SR prog w hB C J av af s₁.heap->VR w J av af s₁.heap ov a->FF prog w hB C A m ov a vs s₁ ar r aj:=λ ov s₁ av S rv=>by
 cases a with
 |d x=>
  cases x with
  |list xs=>exact Eo hA S rv e
  |_=>first | exact no h1 | exact bt h1 | cases h1
 |o l=>
  cases MK h1 with
  |aI xs hn e1=>
   subst e1;cases MK h2 with
   |aI lz dA e2=>exact Iq S rv hn dA e
   |_=>contradiction
  |fF xs hn e1=>
   subst e1;cases MK h2 with
   |fF lz dA e2=>exact L8 S rv hn dA e
   |_=>contradiction
  |set xs hn e1=>
   subst e1;cases MK h2 with
   |set lz dA e2=>exact Ir S rv hn dA e
   |_=>contradiction
  |ins fs hn ha e1=>
   subst e1;cases MK h2 with
   |ins FP dA Qy e2=>exact Ip W.base W.or hA S rv hn ha dA e
   |_=>contradiction
 |_=>first | exact no h1 | exact bt h1 | cases h1
theorem ip(h:iI gl n κ e=true):fP e=true:=by
 cases n<;>first | exact bt h | (cases e<;>first | rfl | exact bt h)
theorem qG{op:CmpOp}(h:iI gl n κ e=true):behindInMarks op e=false:=by
 cases n<;>first | exact bt h | (cases e<;>first | rfl | exact bt h)
theorem nh{t:Expr}(h:yC κ t=true):eY t:=by
 cases t<;>first | exact .name _ _ | exact .tup _ _ _ | exact bt h
theorem mB(hp:gR e=true)(hg:kU e=none)(VE:Good Y k n e):fY Y k n e:=λ J A env O U b aj hE hA ok h=>by
 replace h:=(yP hp).symm.trans h
 rw[hg] at h;obtain⟨v,af,h1,h⟩:=dy h;obtain⟨c,h2,h⟩:=a9 h;exact .of h (uv hp (VE J A env O U v af hE hA ok h1) h2)
theorem fJ(hp:gR e=true)(hg:kU e=none)(VE:Good Y k n e):Good Y k n e/\fY Y k n e:=⟨VE,mB hp hg VE⟩
theorem Ar(hp:gR e=true)(hg:kU e=none)(VE:∀O U,ev Y e O U=none):Good Y k n e/\fY Y k n e:=fJ hp hg λ J A env O U x aj _ _ _ h=>no ((VE O U).symm.trans h)
theorem DO{c:Const}{kk:Nat}:Good Y k (n+1) (.Constant c kk pos):=λ J A env O U x aj hE hA ok h=>by
 cases c with
 |none=>exact .of h Dz
 |bool b=>exact .of h (wN _)
 |int i=>exact .of h (Hn _)
 |str z=>exact .of h (z9 _ ok)
 |_=>exact no h
inductive Sh(U:ae)(v x:V)(aj:ae):Prop
 |dr (e1:x=dr U v) (e2:aj=U)
 |fz (d:PyData) (h:cn 8 U v=some (d,aj)) (e:x=.d d)
theorem RJ{v x:V}(h:Mu Y pos U v=some (x,aj)):Sh U v x aj:=by
 refine Classical.byCases (p:=Y.cn pos=true) (λ hf=>?_) (λ hf=>?_)
 ·obtain⟨⟨d,af⟩,h1,h2⟩:=Option.map_eq_some_iff.mp ((if_pos hf).symm.trans h);cases h2;exact .fz d h1 rfl
 ·cases(if_neg hf).symm.trans h;exact .dr rfl rfl
theorem Aq(W:Wd prog w hB C N p mg mb mN Y k){y:Str}:Good Y k (n+1) (.Name y pos):=λ J A env O U x aj hE hA ok h=>by
 have h:Mc Y pos U (O y) (Y.gl y)=some (x,aj):=h;rw[W.gl] at h;cases hg:p.gl y with
 |some v=>
  obtain⟨o1,o2⟩:=az ((if_pos (congrArg Option.isSome hg:iT p y=true)).symm.trans ok);rw[hg] at h;exact .of h (Dx W.base hE (iU o1) (fN o2) hg)
 |none=>
  have Oo:¬iT p y=true:=λ q=>by rw[iT,hg] at q;cases q
  obtain⟨m1,m2,m3⟩:=Br ((if_neg Oo).symm.trans ok);rw[hg] at h;obtain⟨v,kf,h⟩:=a9 h;cases RJ h with
  |dr e1 e2=>subst e1;subst e2;exact Hq hE m1 m2 m3 kf
  |fz d h1 e=>subst e;exact vi hE m1 m2 m3 kf h1
theorem Gw(VE:∀e,Good Y k n e)(hE:aN env)(hA:cZ A k){o:Option Expr}{i:Option Int}(ho:o.all (iI (iT p) n (kd env))=true)(hv:aH Y o O U=some (i,aj)):J2 prog w hB C J A env o O U i aj:=by
 cases o with
 |none=>cases hv;exact EO
 |some e'=>
  refine bC λ k9=>?_;obtain⟨v,Va,g1,hv⟩:=dy hv;obtain⟨j,g2,hv⟩:=a9 hv;cases hv;obtain rfl:=bq g2;refine k9 ?_;exact EP (VE e' J A env O U _ _ hE hA ho g1)
theorem KZ(VE:∀e,Good Y k n e){c i:Expr}:Good Y k (n+1) (.Subscript c i pos):=λ J A env O U x aj hE hA ok h=>by
 obtain⟨o1,o2⟩:=az ok;refine Classical.byCases (p:=k7 i=true) (λ hs=>?_) (λ hs=>?_)
 ·obtain⟨a,af,h1,h⟩:=dy ((DA hs).symm.trans h);obtain⟨b,ar,h2,h⟩:=dy h;obtain⟨r,h3,h⟩:=a9 h;have o2:iI (iT p) n (kd env) i=true:=by cases i<;>first | exact o2 | exact bt hs
  exact .of h (au hA (VE c J A env O U a af hE hA o1 h1) (VE i J A env O af b ar hE hA o2 h2) h3)
 ·cases i with
  |Slice lo hi st q=>
   cases st with
   |some z=>exact bt o2
   |none=>
    refine bC λ k9=>?_;obtain⟨a,af,h1,h⟩:=dy h;obtain⟨l,ar,h2,h⟩:=dy h;obtain⟨u,bL,h3,h⟩:=dy h;obtain⟨d,h4,h⟩:=a9 h;obtain⟨d',h5,h6⟩:=a9 h;obtain rfl:=c9 h4;refine k9 ?_;exact .of h6 (z8 (VE c J A env O U _ af hE hA o1 h1) (Gw VE hE hA (az o2).1 h2) (Gw VE hE hA (az o2).2 h3) h5)
  |_=>exact absurd rfl hs
inductive JO(Y:Or)(J:Addr->Prop)(A:Around)(env:Env)(elt:Expr)(gens:List Comprehension)(scope:Scope)(O:ak)(U:ae)(r:V)(aj:ae):Prop
 |mk (t it:Expr) (ifs:List Expr) (xs vs:List V) (own:Bool) (af ar:ae) (e:gens=[⟨t,it,ifs,0⟩]) (X:nF (kd env) t scope) (hT:yC (gC scope.names) t=true) (dQ:fP it=true) (og:Cs prog w hB C J A env t it O U xs af)
  (hc:eZ (λ x=>ba t x O) (λ O U=>gX Y ifs O U) (λ O U=>ev Y elt O U) xs af=some (vs,ar)) (hm:dC own vs ar=some (r,aj))
  (uG:∀J' ce,aN ce->(∀x,kd ce x=gC scope.names x)->∀aC cy v cR,ev Y elt aC cy=some (v,cR)->c7 prog w hB C J' A ce elt aC cy v cR)
  (sL:∀J' ce,aN ce->(∀x,kd ce x=gC scope.names x)->∀aC cy b cR,gX Y ifs aC cy=some (b,cR)->Cv prog w hB C J' A ce ifs aC cy b cR)
theorem nR(W:Wd prog w hB C N p mg mb mN Y k)(VE:∀m e,m<=n->Good Y k m e/\fY Y k m e)(hE:aN env)(hA:cZ A k)(ok:iI (iT p) (n+1) (kd env) (.ListComp elt gens scope pos)=true)(h:ev Y (.ListComp elt gens scope pos) O U=some (r,aj)) :
  JO Y J A env elt gens scope O U r aj:=match gens,ok,h with
 |[⟨t,it,ifs,0⟩],ok,h=>by
  refine bC λ k9=>?_;obtain⟨xs,af,h1,h⟩:=dy h;obtain⟨vs,ar,h2,h3⟩:=dy h;obtain⟨o1,ok⟩:=az ok;obtain⟨o2,ok⟩:=az ok;obtain⟨o3,ok⟩:=az ok;obtain⟨o4,ok⟩:=az ok;refine k9 ?_;refine⟨t,it,ifs,xs,vs,_,af,ar,rfl,nF.of o3,o4,ip o1,zS W (λ m e hm=>(VE m e (Nat.le_of_lt hm)).1) (VE n it (Nat.le_refl n)).1 hE hA o1 o2 (nh o4) h1,h2,h3,λ J' ce CC hk aC cy v cR hv=>?_,λ J' ce CC hk aC cy b cR hv=>?_⟩
  ·exact(VE n elt (Nat.le_refl n)).1 J' A ce aC cy v cR CC hA (funext hk▸(az ok).1) hv
  ·exact Fm CC hA (λ e=>(VE n e (Nat.le_refl n)).2) ifs cy b cR (funext hk▸(az ok).2) hv
theorem HC(W:Wd prog w hB C N p mg mb mN Y k)(VE:∀m e,m<=n->Good Y k m e/\fY Y k m e):Good Y k (n+1) (.ListComp elt gens scope pos):=λ J A env O U x aj hE hA ok h=>by
 obtain⟨t,it,ifs,xs,vs,own,af,ar,rfl,X,hT,dQ,og,hc,hm,uG,sL⟩:=nR (J:=J) W VE hE hA ok h;exact fh hE hA X hT dQ og hc hm uG sL
theorem HB(W:Wd prog w hB C N p mg mb mN Y k)(VE:∀e,Good Y k n e){o:Expr}:Good Y k (n+1) (.Attribute o m pos):=λ J A env O U x aj hE hA ok h=>by
 obtain⟨a,af,h1,h⟩:=dy h;obtain⟨o1,ok⟩:=az ok;have oq:isName o=true:=by cases o<;>first | rfl | exact bt o1
 cases a with
 |o l=>
  have h:Kk Y m pos af af[l]?=some (x,aj):=h;cases hl:af[l]? with
  |none=>rw[hl] at h;first | exact no h | exact bt h | cases h
  |some nd=>
   rw[hl] at h;cases nd with
   |ins fs=>
    obtain⟨v,h3,h⟩:=a9 h;refine Du W.base oq (List.contains_iff_mem.mp (az ok).1) (VE o J A env O U _ af hE hA (az ok).2 h1) hl h3 ?_;cases RJ h with
    |dr e1 e2=>exact .inl ⟨e1,e2⟩
    |fz d g1 e=>exact .inr ⟨d,g1,e⟩
   |_=>first | exact no h | exact bt h | cases h
 |_=>exact no h
theorem Ap(W:Wd prog w hB C N p mg mb mN Y k)(VE:∀e,Good Y k n e):Good Y k (n+1) (.Call fn args rX pos):=λ J A env O U x aj hE hA ok h=>by
 cases rX with
 |cons a b=>exact bt ok
 |nil=>
  cases oA ok with
  |gen g hg _ _=>cases hg;exact no h
  |call _ ok o5=>
  cases fn with
  |Attribute o m ap=>
   refine bC λ k9=>?_;obtain⟨a,af,h1,h⟩:=dy h;obtain⟨kq,h2,h⟩:=a9 h;obtain⟨vs,ar,h3,h⟩:=dy h;obtain⟨o1,ok⟩:=az ok;obtain⟨o2,ok⟩:=az ok;refine k9 ?_;by_cases h5:vk ar m a=some kq
   ·exact fi o1 o2 (of_decide_eq_true (az ok).1) (VE o J A env O U a af hE hA (az ok).2 h1) h3 (iS hE hA VE args af vs ar o5 h3) (ML W hA h2 h5 ((if_pos h5).symm.trans h))
   ·exact no ((if_neg h5).symm.trans h)
  |Name f np=>
   obtain⟨vs,af,h1,h2⟩:=dy h;obtain⟨o1,ok⟩:=az ok;obtain⟨o2,ok⟩:=az ok;have Es:xW prog w hB C J A env args pos O U vs af:=iS hE hA VE args U vs af o5 h1;by_cases dQ:f="set"
   ·subst dQ;exact bA hE (iU o1) (fN o2) W.base.ng W.base.nb (.inr (W.base.bi _ (.type "set") (by decide))) h1 (.type _) (λ q=>by cases q) Es (GZ h2)
   ·obtain⟨fv,g1,g2,g3⟩:=zt W.base W.or W.cls hA dQ h2;refine bA hE (iU o1) (fN o2) W.base.ng W.base.nb g1 h1 g2 (λ _ q=>?_) Es g3;subst q;exact dQ (eq_of_beq (az ok).2)
  |_=>exact bt ok
theorem DN(W:Wd prog w hB C N p mg mb mN Y k)(VE:Good Y k (n+1) (.Call fn args rX pos)):fY Y k (n+1) (.Call fn args rX pos):=λ J A env O U c aj hE hA ok h=>by
 cases hg:rM fn args with
 |none=>exact mB (e:=.Call fn args rX pos) rfl hg VE J A env O U c aj hE hA ok h
 |some g=>
  cases rX with
  |cons a b=>exact bt ok
  |nil=>
   cases oA ok with
   |call e _ _=>exact no (e.symm.trans hg)
   |gen g' hC e RC=>
    obtain rfl:g=g':=Option.some.inj (hg.symm.trans e)
    replace h:B0 Y O U (ev Y (.Call fn args [] pos) O U) (rM fn args)=some (c,aj):=h
    rw[hg] at h;refine bC λ k9=>?_;obtain⟨v,af,h1,j1⟩:=dy h;obtain⟨xs,h2,j2⟩:=a9 j1;obtain⟨t,h3,h⟩:=a9 j2;clear j1 j2;obtain⟨tv,h4,h5⟩:=a9 h3;obtain rfl:=jE h2;refine k9 ?_;by_cases hc:pQ af[0]?=true/\(xs.all λ d=>mK (.d d) == some t)=true
    ·cases(if_pos hc).symm.trans h;obtain⟨_,ok⟩:=az RC;obtain⟨o2,ok⟩:=az ok;obtain⟨o3,_⟩:=az ok;have L:=Aq (n:=0) (pos:=g.py) W (y:=g.y) J A env O U _ aj hE hA ((if_neg (λ q=>by rw[q] at o2;exact bt o2)).trans o3) h1;refine uv rfl (Hl W.base hE hA hC RC L ?_ hc.1 hc.2) rfl;rw[<-W.gl,h4];cases tv with
     |ty z=>cases h5;rfl
     |_=>exact no h5
    ·exact no ((if_neg hc).symm.trans h)
theorem KY(VE:∀e,Good Y k n e){l:Expr}{ops:List CmpOp}{rs:List Expr}:Good Y k (n+1) (.Compare l ops rs pos)/\fY Y k (n+1) (.Compare l ops rs pos):=match ops,rs with
 |[op],[r]=>by
  refine⟨λ J A env O U x aj hE hA ok h=>?_,λ J A env O U c aj hE hA ok h=>?_⟩
  ·obtain⟨a,af,h1,h⟩:=dy h;refine bC λ k9=>?_;obtain⟨b,ar,h2,h⟩:=dy h;obtain⟨c,h3,h⟩:=a9 h;obtain⟨o1,o2⟩:=az ok;have o2:=(az o2).1;refine k9 ?_;exact .of h (lL hA (qG o2) (VE l J A env O U a af hE hA o1 h1) (VE r J A env O af b _ hE hA o2 h2) h3)
  ·obtain⟨v,bL,h0,h⟩:=dy h;refine bC λ k9=>?_;obtain⟨a,af,h1,h0⟩:=dy h0;obtain⟨b,ar,h2,h0⟩:=dy h0;obtain⟨c',h3,h0⟩:=a9 h0;cases h0;obtain⟨o1,o2⟩:=az ok;have o2:=(az o2).1;refine k9 ?_;exact .of h (I8 hA (qG o2) (VE l J A env O U a af hE hA o1 h1) (VE r J A env O af b _ hE hA o2 h2) h3)
 |[],_=>⟨λ _ _ _ _ _ _ _ _ _ _ h=>no h,λ _ _ _ _ _ _ _ _ _ _ h=>no h⟩
 |_::_::_,_=>⟨λ _ _ _ _ _ _ _ _ _ _ h=>no h,λ _ _ _ _ _ _ _ _ _ _ h=>no h⟩
 |[_],[]=>⟨λ _ _ _ _ _ _ _ _ _ _ h=>no h,λ _ _ _ _ _ _ _ _ _ _ h=>no h⟩
 |[_],_::_::_=>⟨λ _ _ _ _ _ _ _ _ _ _ h=>no h,λ _ _ _ _ _ _ _ _ _ _ h=>no h⟩
theorem HD(VE:∀e,Good Y k n e/\fY Y k n e){op:UnaryOp}{x:Expr}:Good Y k (n+1) (.UnaryOp op x pos)/\fY Y k (n+1) (.UnaryOp op x pos):=by
 cases op with
 |USub=>
  refine fJ rfl rfl λ J A env O U r aj hE hA ok h=>?_;obtain⟨a,af,h1,h⟩:=dy h;obtain⟨i,h2,h⟩:=a9 h;obtain rfl:=bq h2;exact .of h (Ho ((VE x).1 J A env O U _ _ hE hA ok h1))
 |Not=>
  refine⟨λ J A env O U r aj hE hA ok h=>?_,λ J A env O U r aj hE hA ok h=>?_⟩
  ·obtain⟨a,af,h1,h⟩:=dy h;obtain⟨b,h2,h⟩:=a9 h;exact .of h (Hp ((VE x).1 J A env O U a _ hE hA ok h1) h2)
  ·obtain⟨c,af,h1,h⟩:=dy h;exact .of h (I9 ((VE x).2 J A env O U c _ hE hA ok h1))
 |_=>exact Ar rfl rfl λ _ _=>rfl
theorem qg(W:Wd prog w hB C N p mg mb mN Y k)(n:Nat)(e:Expr):Good Y k n e/\fY Y k n e:=by
 induction n using Nat.strongRecOn generalizing e with
 |ind n ih=>
  cases n with
  |zero=>exact⟨λ J A env O U x aj hE hA ok h=>bt ok,λ J A env O U x aj hE hA ok h=>bt ok⟩
  |succ n=>
   have VE:∀e,Good Y k n e/\fY Y k n e:=ih n (Nat.lt_succ_self n);have G1:∀e,Good Y k n e:=λ e=>(VE e).1;cases e with
   |Constant c kk q=>exact fJ rfl rfl DO
   |Name y q=>exact fJ rfl rfl (Aq W)
   |BinOp l op r q=>
    refine fJ rfl rfl λ J A env O U x aj hE hA ok h=>?_;refine bC λ k9=>?_;obtain⟨a,af,h1,h⟩:=dy h;obtain⟨b,ar,h2,h3⟩:=dy h;refine k9 ?_;exact bf (G1 l J A env O U a af hE hA (az ok).1 h1) (G1 r J A env O af b ar hE hA (az ok).2 h2) h3
   |UnaryOp op x q=>exact HD VE
   |BoolOp op es q=>exact⟨λ J A env O U x aj hE hA ok h=>no h,λ J A env O U b aj hE hA ok h=>Fh (Fj hE hA (λ e=>(VE e).2) es U b aj ok h)⟩
   |IfExp t b o q=>
    refine⟨λ J A env O U x aj hE hA ok h=>?_,λ J A env O U b' aj hE hA ok h=>no h⟩;obtain⟨c,af,h1,h2⟩:=dy h;obtain⟨o1,ok⟩:=az ok;refine KL ((VE t).2 J A env O U c af hE hA o1 h1) (λ hc=>?_) (λ hc=>?_)
    ·subst hc;exact G1 b J A env O af x aj hE hA (az ok).1 h2
    ·subst hc;exact G1 o J A env O af x aj hE hA (az ok).2 h2
   |Compare l ops rs q=>exact KY G1
   |Subscript c i q=>exact fJ rfl rfl (KZ G1)
   |Tuple es kk q=>
    refine fJ rfl rfl λ J A env O U x aj hE hA ok h=>?_;refine bC λ k9=>?_;obtain⟨vs,af,h1,h⟩:=dy h;obtain⟨ds,h2,h3⟩:=a9 h;have hl:=vg es U vs _ h1;obtain rfl:=je h2;refine k9 ?_;exact .of h3 (Aa (of_decide_eq_true (az ok).1) (List.length_map (f:=V.d)▸hl) (iS hE hA G1 es U _ _ (az ok).2 h1))
   |List es q=>
    refine fJ rfl rfl λ J A env O U x aj hE hA ok h=>?_;obtain⟨vs,af,h1,h2⟩:=dy h;exact Dy (of_decide_eq_true (az ok).1) (vg es U vs _ h1) (iS hE hA G1 es U _ _ (az ok).2 h1) h2
   |Dict ks vs q=>
    refine fJ rfl rfl λ J A env O U x aj hE hA ok h=>?_;cases ks with
    |cons a b=>exact no h
    |nil=>
     cases vs with
     |cons a b=>exact no h
     |nil=>
      refine .of h (Dv ((by obtain⟨o,_,_,h,_⟩:=W.base.ng;exact⟨o,h⟩)) ?_);by_cases hw:Y.own q=true
      ·exact .inr (if_pos hw)
      ·exact .inl (if_neg hw)
   |ListComp elt gens scope q=>exact fJ rfl rfl (HC W λ m e hm=>ih m (Nat.lt_succ_of_le hm) e)
   |Attribute o m q=>exact fJ rfl rfl (HB W G1)
   |Call fn args rX q=>exact⟨Ap W G1,DN W (Ap W G1)⟩
   |_=>exact Ar rfl rfl λ _ _=>rfl
end
end
section
open PySem PyProof.Rows
variable{b:Addr}{cm m:Str->Option Value}{rest:List Stmt}{st:Stmt}
noncomputable def FA(env:Env)(b:Addr):Prop:=b=env.locals\/∃n,env.cells.lookup n=some b
structure iE(VD:Addr->Prop)(H:bB)(U:ae)(h:Heap)(aB:bB)(aj:ae)(h':Heap):Prop where
 len:U.length<=aj.length
 ag:∀l,l<U.length->aB l=H l
 own:∀b,¬VD b->Own aB aj b->Own H U b\/h.get? b=none
 kp:∀b o,¬Own H U b->¬VD b->h.get? b=some o->h'.get? b=some o
section
variable{J VD:Addr->Prop}{A:Around}{env:Env}
variable{H aB dF:bB}{U aj iz:ae}{h h' mZ:Heap}{v:Value}{x:V}
theorem bZ.toF(e:bZ H U h aB aj h'):iE VD H U h aB aj h':=⟨e.len,e.ag,λ b _ q=>e.own b q,λ b o h1 _ q=>e.kp b o h1 q⟩
theorem iE.trans(a:iE VD H U h aB aj h')(b:iE VD aB aj h' dF iz mZ):iE VD H U h dF iz mZ where
 len:=Nat.le_trans a.len b.len
 ag:=λ l hl=>(b.ag l (Nat.lt_of_lt_of_le hl a.len)).trans (a.ag l hl)
 own:=λ c hY x=>by
  rcases b.own c hY x with y | y
  ·exact a.own c hY y
  ·refine Classical.byCases (p:=Own H U c) (λ hc=>?_) (λ hc=>?_)
   ·exact .inl hc
   ·cases e:h.get? c with
    |none=>exact .inr rfl
    |some o=>rw[a.kp c o hc hY e] at y;cases y
 kp:=λ c o hc hY e=>b.kp c o (λ y=>by
  rcases a.own c hY y with y | y
  ·exact hc y
  ·rw[e] at y;cases y) hY (a.kp c o hc hY e)
theorem iE.ex{o:Obj}(e:iE VD H U h aB aj h')(hY:∀b,VD b->J b)(hb:¬Ex J H U b)(q:h.get? b=some o):¬Ex J aB aj b:=λ y=>by
 rcases y with y | y
 ·exact hb (.inl y)
 ·rcases e.own b (λ z=>hb (.inl (hY b z))) y with z | z
  ·exact hb (.inr z)
  ·rw[q] at z;first | exact no z | exact bt z | cases z
theorem iE.OZ{o:Obj}(e:iE VD H U h aB aj h')(hY:∀b,VD b->J b)(hb:¬Ex J H U b)(q:h.get? b=some o):h'.get? b=some o:=
 e.kp b o (λ z=>hb (.inr z)) (λ z=>hb (.inl (hY b z))) q
theorem iE.mv(e:iE VD H U h aB aj h')(hY:∀b,VD b->J b):Mv J H U h J aB aj h':=⟨λ b o hb q=>e.OZ hY hb q,λ b o hb q=>e.ex hY hb q,λ l hl=>⟨e.ag l hl,Nat.lt_of_lt_of_le hl e.len⟩⟩
theorem FR.fa(F:FR J env m cm h):∀b,FA env b->J b:=λ b hb=>by
 rcases hb with q | ⟨n,q⟩
 ·rw[q];exact F.jL
 ·exact(F.cell n b q).2.1
end
section
variable(prog:Program)(w:World)(hB:Heap)(C:Addr)(J:Addr->Prop)
structure dS(VD:Addr->Prop)(s:Shared)(H:bB)(U:ae)(s':Shared)(aB:bB)(aj:ae):Prop where
 same:pz s s'
 aH:iE VD H U s.heap aB aj s'.heap
 sr:SR prog w hB C J aB aj s'.heap
noncomputable def CJ(H:bB)(U:ae)(h:Heap)(fl:Flow):Out->Prop
 |.nx=>fl=.next
 |.br=>fl=.brk
 |.ct=>fl=.cont
 |.rt v=>∃u,fl=.ret u/\VR w J H U h u v
 |.ex=>False
structure Rz(s s':Shared)(aB:bB)(aj:ae)(ea:Addr):Prop where
 obj:∃oe vs a0,s'.heap.get? ea=some oe/\oe.cls=.type "ValueError"/\oe.data=.fields vs/\vs[0]?=some a0/\vs[1]?=some .none
 new:s.heap.get? ea=none
 out:¬Ex J aB aj ea
noncomputable def XS(A:Around)(env:Env)(run:Sem Flow)(O:ak)(U:ae)(o:Out)(aC:ak)(aj:ae):Prop:=
 ∀(H:bB) (s:Shared) (m cm:Str->Option Value) (Q:Flow->Shared->Prop) (E:Value->Shared->Prop),FR J env m cm s.heap->ER w J H U env m cm s.heap O->SR prog w hB C J H U s.heap->
  (∀fl s' aB m' cm',dS prog w hB C J (FA env) s H U s' aB aj->FR J env m' cm' s'.heap->ER w J aB aj env m' cm' s'.heap aC->CJ w J aB aj s'.heap fl o->Q fl s')->
  (∀ea s' aB,o=.ex->dS prog w hB C J (FA env) s H U s' aB aj->Rz J s s' aB aj ea->(∃m',s'.heap.Ns env.locals m')->E (.ref ea) s')->wpAny (model prog w) A run Q E s
end
section
variable{J VD:Addr->Prop}{A:Around}{env:Env}
variable{O aC bb:ak}{U aj af ar:ae}{s s' lA:Shared}{H aB dF:bB}{e f:Expr}{pos:Pos}{k:Nat}{o:Out}
theorem aS.toF(g:aS prog w hB C J s H U s' aB aj):dS prog w hB C J VD s H U s' aB aj:=⟨g.same,g.aH.toF,g.sr⟩
theorem dS.trans{iz:ae}(a:dS prog w hB C J VD s H U s' aB aj)(b:dS prog w hB C J VD s' aB aj lA dF iz):dS prog w hB C J VD s H U lA dF iz:=⟨a.same.trans b.same,a.aH.trans b.aH,b.sr⟩
theorem dS.refl(S:SR prog w hB C J H U s.heap):dS prog w hB C J VD s H U s H U:=(aS.refl S).toF
theorem Rz.from{ea:Addr}{iz:ae}{m cm:Str->Option Value}(hY:∀b,VD b->J b)(a:dS prog w hB C J VD s H U s' aB aj)(S:SR prog w hB C J H U s.heap)(r:Rz J s' lA dF iz ea):Rz J s lA dF iz ea:=by
 refine⟨r.obj,?_,r.out⟩;cases q:s.heap.get? ea with
 |none=>rfl
 |some ob=>
  exfalso;have hn:=r.new;by_cases ho:Own H U ea
  ·obtain⟨l,n,e1,e2,e3⟩:=ho;have hl:l<U.length:=(List.getElem?_eq_some_iff.mp e1).1;have F9:l<aj.length:=Nat.lt_of_lt_of_le hl a.aH.len;have e4:aj[l]?=some aj[l]:=List.getElem?_eq_getElem F9;have Rg:=a.aH.ag l hl;have N':=a.sr.node l _ e4;rcases e3 with e3 | e3
   ·obtain⟨o',pC⟩:=N'.got;rw[Rg,<-e3,hn] at pC;cases pC
   ·obtain⟨o',pC⟩:=N'.DQ (a.sr.two l _ e4);rw[Rg,<-e3,hn] at pC;cases pC
  ·by_cases hy:VD ea
   ·exact r.out (.inl (hY ea hy))
   ·rw[a.aH.kp ea ob ho hy q] at hn;cases hn
theorem Ck:XS prog w hB C J A env (execs [] env) O U .nx O U:=λ H s m cm Q E F R S h _=>wpAny_execs_nil (h .next s H m cm (dS.refl S) F R rfl)
theorem xT(L:XS prog w hB C J A env (exec st env) O U .nx bb af)(R:XS prog w hB C J A env (execs rest env) bb af o aC aj):XS prog w hB C J A env (execs (st::rest) env) O U o aC aj:=
 λ H s m cm Q E F Re S h he=>by
  refine wpAny_execs_cons (L H s m cm _ _ F Re S (λ fl s₁ av m₁ zA g GF GJ hf=>?_) (λ ea s' aB q=>by cases q));have Ts:fl=.next:=hf;subst Ts;exact R av s₁ m₁ zA _ _ GF GJ g.sr (λ fl s₂ ck m₂ zB cP GG GK Lh=>h fl s₂ ck m₂ zB (g.trans cP) GG GK Lh) (λ ea s' aB q cP rz ns=>he ea s' aB q (g.trans cP) (Rz.from (m:=m) (cm:=cm) F.fa g S rz) ns)
theorem Fy(hn:o≠.nx)(L:XS prog w hB C J A env (exec st env) O U o aC aj):XS prog w hB C J A env (execs (st::rest) env) O U o aC aj:=
 λ H s m cm Q E F Re S h he=>by
  refine wpAny_execs_cons (L H s m cm _ _ F Re S (λ fl s₁ av m₁ zA g GF GJ hf=>?_) he);have lW:fl≠.next:=λ q=>by
   refine bC λ k9=>?_;subst q;refine k9 ?_;cases o with
   |nx=>exact hn rfl
   |br=>simp[CJ] at hf
   |ct=>simp[CJ] at hf
   |ex=>simp[CJ] at hf
   |rt v=>obtain⟨u,q,_⟩:=hf;cases q
  cases fl with
  |next=>exact absurd rfl lW
  |_=>exact h _ s₁ av m₁ zA g GF GJ hf
theorem MM{t:Expr}{b pJ:List Stmt}{c:Bool}(T:xZ prog w hB C J A env t O U c af)(L:c=true->XS prog w hB C J A env (execs b env) O af o aC aj)(R:c=false->XS prog w hB C J A env (execs pJ env) O af o aC aj) :
  XS prog w hB C J A env (exec (.If t b pJ pos) env) O U o aC aj:=λ H s m cm Q E F Re S h he=>by
 refine wpAny_If (T H s m cm _ _ F Re S λ s₁ av g=>?_);have hh:=λ fl s₂ ck m₂ zB (cP:dS prog w hB C J (FA env) s₁ av af s₂ ck aj) GG GK hf=>h fl s₂ ck m₂ zB (g.toF.trans cP) GG GK hf;have hx:=λ ea s' aB q (cP:dS prog w hB C J (FA env) s₁ av af s' aB aj) rz ns=>he ea s' aB q (g.toF.trans cP) (Rz.from (m:=m) (cm:=cm) F.fa g.toF S rz) ns;cases c with
 |true=>exact L rfl av s₁ m cm _ _ (F.aH S g.aH) (Re.aH g.aH) g.sr hh hx
 |false=>exact R rfl av s₁ m cm _ _ (F.aH S g.aH) (Re.aH g.aH) g.sr hh hx
theorem Cj:XS prog w hB C J A env (exec (.Break pos) env) O U .br O U:=λ H s m cm Q E F R S h _=>by
 rw[arm_exec_Break];exact wpAny_bind (wpAny_standAt (wpAny_pure (h _ s H m cm (dS.refl S) F R rfl)))
theorem uz:XS prog w hB C J A env (exec (.Continue pos) env) O U .ct O U:=λ H s m cm Q E F R S h _=>by
 rw[arm_exec_Continue];exact wpAny_bind (wpAny_standAt (wpAny_pure (h _ s H m cm (dS.refl S) F R rfl)))
theorem yV{v:V}(L:c7 prog w hB C J A env e O U v aj):XS prog w hB C J A env (exec (.Return (some e) pos) env) O U (.rt v) O aj:=λ H s m cm Q E F R S h _=>by
 rw[exec_Return_some];exact wpAny_bind (wpAny_standAt (wpAny_bind (L H s m cm _ _ F R S λ u s₁ av g r=>wpAny_pure (h _ s₁ av m cm g.toF (F.aH S g.aH) (R.aH g.aH) ⟨u,rfl,r⟩))))
noncomputable def l5:Expr->Bool
 |.ListComp ..=>false
 |.SetComp ..=>false
 |.DictComp ..=>false
 |_=>true
theorem fS{t:Option Expr}{n:Nat}(h:l5 e=true):swapsWith e t n env=pure false:=by
 cases e<;>first | rfl | exact bt h
theorem Fv{v:V}(hE:aN env)(hn:l5 e=true)(L:c7 prog w hB C J A env e O U v aj):XS prog w hB C J A env (exec (.Expr e pos) env) O U .nx O aj:=λ H s m cm Q E F R S h _=>by
 refine wpAny_Expr_any (L H s m cm _ _ F R S λ u s₁ av g r=>h _ s₁ av m cm g.toF (F.aH S g.aH) (R.aH g.aH) rfl) ?_ (fS hn);unfold interactive;rw[hE.kind];rfl
theorem i7{xs:List Str}{m' cm':Str->Option Value}{h':Heap}{tk:Nat}(F:FR J env m cm s.heap)(S':SR prog w hB C J H U h')(kp:∀b o,¬WT env xs b->s.heap.get? b=some o->h'.get? b=some o) :
  dS prog w hB C J (FA env) s H U { s with heap:=h',toks:=tk } H U:=by
 refine⟨⟨rfl,GX.refl _⟩,⟨Nat.le_refl _,λ _ _=>rfl,λ b _ q=>.inl q,λ b o _ hb ho=>kp b o (λ q=>hb ?_) ho⟩,S'⟩;rcases q with q | ⟨z,_,_,q⟩
 ·exact .inl q
 ·exact .inr ⟨z,q⟩
end
end
section
open PySem PyProof.Rows
variable{x:V}
section
variable{J VD:Addr->Prop}{A:Around}{env:Env}
variable{O aC bb:ak}{U aj af ar bL:ae}{s s' lA:Shared}{H aB dF:bB}{e f t:Expr}{pos:Pos}{k:Nat}{o:Out}
theorem hU{Q:Flow->Shared->Prop}{E:Value->Shared->Prop}(h1:swapsWith e (some t) pos.line env=pure false)(h2:swappedStores [t] e env=pure none)(h3:isStar t=false)
  (h:wpAny (model prog w) A (eval e env) (λ v s₁=>wpAny (model prog w) A (assign t env v) (λ _ s₂=>Q .next s₂) E s₁) E s):wpAny (model prog w) A (exec (.Assign [t] e pos) env) Q E s:=by
 have h4:assignEach [t] env=[(false,assign t env)]:=by
  cases t<;>first | rfl | exact no h3 | exact bt h3 | cases h3
 rw[arm_exec_Assign];refine wpAny_bind (wpAny_standAt ?_);show wpAny _ _ (swapsWith e (some t) pos.line env >>= _) _ _ _;rw[h1];refine wpAny_bind (wpAny_pure ?_);refine wpAny_bind (wpAny_mono h (λ v s₁ tG=>?_) λ _ _ q=>q);rw[h2,h4];refine wpAny_bind (wpAny_pure ?_);exact wpAny_bind (wpAny_mono tG (λ _ s₂ q=>wpAny_pure q) λ _ _ q=>q)
noncomputable def jc:Expr->Expr->Bool
 |.Tuple ..,.Tuple ..=>true
 |.List ..,.Tuple ..=>true
 |_,_=>false
theorem kr(h:jc t e=false):swappedStores [t] e env=pure none:=by
 cases t<;>first | rfl | (cases e<;>first | rfl | cases h)
theorem uW(h:ba t x O=some aC):isStar t=false:=by
 cases t<;>first | rfl | exact no h | exact bt h | cases h
theorem jF(hE:aN env)(hA:cZ A k)(HX:swapsWith e (some t) pos.line env=pure false)(hb:jc t e=false)(iW:∀z∈ay t,bE env z)(L:c7 prog w hB C J A env e O U x aj)(hx:ba t x O=some aC) :
  XS prog w hB C J A env (exec (.Assign [t] e pos) env) O U .nx aC aj:=λ H s m cm Q E F R S h _=>by
 refine hU HX (kr hb) (uW hx) (L H s m cm _ _ F R S λ v s₁ av g r=>?_);refine lC hE hA t O aC x v s₁ m cm _ _ hx iW (F.aH S g.aH) (R.aH g.aH) g.sr r λ h' tk m' cm' F' R' S' kp=>?_;exact h _ _ av m' cm' (g.toF.trans (i7 (m':=m') (cm':=cm') (F.aH S g.aH) S' kp)) F' R' rfl
theorem pw{Y:Or}{elt it ct:Expr}{ifs:List Expr}{scope:Scope}{own:Bool}{xs vs:List V}{y:Str}{py C0:Pos}{r:V}
  (hE:aN env) (hA:cZ A k) (hk:bE env y) (X:nF (kd env) ct scope) (hT:yC (gC scope.names) ct=true) (dQ:fP it=true)
  (og:Cs prog w hB C J A env ct it O U xs af) (hc:eZ (λ x=>ba ct x O) (λ O U=>gX Y ifs O U) (λ O U=>ev Y elt O U) xs af=some (vs,ar)) (hm:dC own vs ar=some (r,aj))
  (uG:∀J' ce,aN ce->(∀x,kd ce x=gC scope.names x)->∀aC cy v cR,ev Y elt aC cy=some (v,cR)->c7 prog w hB C J' A ce elt aC cy v cR)
  (sL:∀J' ce,aN ce->(∀x,kd ce x=gC scope.names x)->∀aC cy b cR,gX Y ifs aC cy=some (b,cR)->Cv prog w hB C J' A ce ifs aC cy b cR) :
  XS prog w hB C J A env (exec (.Assign [.Name y py] (.ListComp elt [⟨ct,it,ifs,0⟩] scope C0) pos) env) O U .nx (upd O y r) aj:=by
 have plain:swapsWith (.ListComp elt [⟨ct,it,ifs,0⟩] scope C0) (some (.Name y py)) pos.line env=pure false->XS prog w hB C J A env (exec (.Assign [.Name y py] (.ListComp elt [⟨ct,it,ifs,0⟩] scope C0) pos) env) O U .nx (upd O y r) aj:=λ hq=>
  jF hE hA hq rfl (λ z hz=>List.mem_singleton.mp (show z∈[y] from hz)▸hk) (fh hE hA X hT dQ og hc hm uG sL) rfl
 have hb:∃b,swapsWith (.ListComp elt [⟨ct,it,ifs,0⟩] scope C0) (some (.Name y py)) pos.line env=pure b:=⟨_,rfl⟩;obtain⟨b,hb⟩:=hb;cases b with
 |false=>exact plain hb
 |true=>
  intro H s m cm Q E F R S h _;rw[exec_Assign_Name_used _ _ _ _ hb];refine wpAny_bind (wpAny_standAt (wpAny_bind ?_));refine wpAny_bind (wF (use:=some (assign (.Name y py) env)) hE hA X hT dQ og hc hm uG sL F R S λ s' aB Cf D mC sm wM S' V' Mg hC=>?_);have JC:∀b,J b->s.heap.get? b≠none:=λ b hb q=>by obtain⟨_,_,o',pC⟩:=S.jo b hb;rw[q] at pC;cases pC
  have wX:∀b,(J b\/b=Cf)->J b\/s.heap.get? b=none:=λ b hb=>hb.elim .inl λ q=>.inr (q▸hC);have F1:FR (λ b=>J b\/b=Cf) env m cm s'.heap:=by
   have F0:=F.aH S wM;exact⟨F0.ns,.inl F0.jL,λ n c hc=>⟨(F0.cell n c hc).1,.inl (F0.cell n c hc).2.1,(F0.cell n c hc).2.2⟩,F0.apart,F0.has⟩
  have R1:ER w (λ b=>J b\/b=Cf) aB aj env m cm s'.heap O:=λ x v' hx OB=>by
   obtain⟨v,h1,h2⟩:=R x v' hx OB;exact⟨v,h1,VR.aH (h2.eu wX λ b o _ q=>q) wM⟩
  refine wpAny_assign_Name (lr hE hk F1 R1 S' V' λ h' tk m' cm' F' R' Jn kp _ _=>?_);have Qr:Cf≠env.locals:=λ q=>JC _ F.jL (q▸hC);have SJ:¬WN env y Cf:=λ q=>by
   rcases q with q | ⟨_,q⟩
   ·exact Qr q
   ·exact JC _ (F.cell y Cf q).2.1 hC
  have Pc:h'.Ns Cf mC:=(by obtain⟨ob,es,ep,ho,r⟩:=Mg;exact⟨ob,es,ep,kp _ _ SJ ho,r⟩);refine⟨mC,Pc,λ h3 sM=>wpAny_pure (wpAny_pure ?_)⟩;have QP:∀b o,¬(J b\/b=Cf)->h'.get? b=some o->h3.get? b=some o:=λ b o hb ho=>sM.extBut b o (λ q=>hb (.inr q)) ho;have S3:SR prog w hB C J aB aj h3:=Jn.eu (λ b hb=>.inl (.inl hb)) QP λ b hb=>by
   refine bC λ k9=>?_;obtain⟨_,_,o',pC⟩:=Jn.jo b (.inl hb);refine k9 ?_;exact⟨o',sM.extBut b o' (λ q=>JC b hb (q▸hC)) pC⟩
  refine h _ _ aB m' cm' ⟨sm,⟨wM.len,wM.ag,λ b _ q=>wM.own b q,λ b o' h1 h2 ho=>?_⟩,S3⟩ ?_ ?_ rfl
  ·have e1:=wM.kp b o' h1 ho;have e2:=kp b o' (λ q=>h2 (by
    rcases q with q | ⟨_,q⟩
    ·exact .inl q
    ·exact .inr ⟨y,q⟩)) e1
   exact sM.extBut b o' (λ q=>by rw[q,hC] at ho;cases ho) e2
  ·refine⟨?_,F.jL,λ n c hc=>?_,F'.apart,F'.has⟩
   ·obtain⟨ob,es,ep,ho,r⟩:=F'.ns;exact⟨ob,es,ep,sM.extBut _ _ (Ne.symm Qr) ho,r⟩
   ·obtain⟨⟨ob,ho,hd⟩,q2,q3⟩:=F'.cell n c hc;have QC:=(F.cell n c hc).2.1;exact⟨⟨ob,sM.extBut _ _ (λ q=>JC c QC (q▸hC)) ho,hd⟩,QC,q3⟩
  ·intro x v' hx OB;obtain⟨v,h1,h2⟩:=R' x v' hx OB;exact⟨v,h1,h2.eu (λ b hb=>.inl (.inl hb)) QP⟩
theorem pX{c i:Expr}{ps:Pos}{a b:V}(hA:cZ A k)(hn:l5 e=true)(L:c7 prog w hB C J A env e O U x af)(La:c7 prog w hB C J A env c O af a ar)(Lb:c7 prog w hB C J A env i O ar b bL)(hv:fR a b x bL=some aj) :
  XS prog w hB C J A env (exec (.Assign [.Subscript c i ps] e pos) env) O U .nx O aj:=λ H s m cm Q E F R S h _=>by
 refine wpAny_Assign_Subscript (L H s m cm _ _ F R S λ v s₁ av b7 mQ=>?_) (fS hn);refine La.two Lb (F.aH S b7.aH) (R.aH b7.aH) b7.sr λ va vb s₂ ck cP ra rb=>?_;refine qO hA cP.sr ra rb (mQ.aH cP.aH) hv λ ix jV od=>?_;have g:=(b7.trans cP).trans od;exact h _ ix jV m cm g.toF (F.aH S g.aH) (R.aH g.aH) rfl
end
end
section
open PySem PyProof.Rows
variable{a b:V}{c:Expr}{fs:List (Str×V)}{l:Nat}{n:Str}{ps:Pos}{v x:V}{y:Str}
theorem sW{n y:Str}{v:V}:∀(fs:List (Str×V)),dY y (cT n v fs)=if y=n then some v else dY y fs
 |[]=>by
  show(if n=y then some v else none)=if y=n then some v else none
  by_cases h:n=y
  ·rw[if_pos h,if_pos h.symm]
  ·rw[if_neg h,if_neg (λ q=>h q.symm)]
 |(m,u)::r=>by
  have ih:=sW (n:=n) (y:=y) (v:=v) r;show dY y (if m=n then(n,v)::r else(m,u)::cT n v r)=if y=n then some v else if m=y then some u else dY y r
  by_cases hm:m=n
  ·rw[if_pos hm];show(if n=y then some v else dY y r)=_;by_cases hy:n=y
   ·rw[if_pos hy,if_pos hy.symm]
   ·rw[if_neg hy,if_neg (λ q=>hy q.symm),if_neg (hm▸hy)]
  ·rw[if_neg hm];show(if m=y then some u else dY y (cT n v r))=_;by_cases hy:m=y
   ·rw[if_pos hy,if_pos hy,if_neg (hy▸hm)]
   ·rw[if_neg hy,if_neg hy];exact ih
theorem yI:∀(fs:List (Str×V)),(y=n\/y∈fs.map (·.1))->y∈(cT n v fs).map (·.1):=by
 intro fs
 induction fs with
 |nil=>
  intro h;rcases h with h | h
  ·exact h▸.head _
  ·cases h
 |cons x9 r ih=>
  intro h;obtain⟨m,u⟩:=x9;show y∈(if m=n then(n,v)::r else(m,u)::cT n v r).map (·.1);by_cases hm:m=n
  ·rw[if_pos hm];rcases h with h | h
   ·exact h▸.head _
   ·exact hm▸h
  ·rw[if_neg hm];rcases h with h | h
   ·exact .tail _ (ih (.inl h))
   ·exact(List.mem_cons.1 h).elim (λ q=>q▸.head _) λ q=>.tail _ (ih (.inr q))
theorem jy:∀(fs:List (Str×V)),(cT n v fs).length<=fs.length+1:=by
 intro fs
 induction fs with
 |nil=>
  exact Nat.le_refl _
 |cons x9 r ih=>
  obtain⟨m,u⟩:=x9;show(if m=n then(n,v)::r else(m,u)::cT n v r).length<=_;by_cases hm:m=n
  ·rw[if_pos hm];exact Nat.le_succ _
  ·rw[if_neg hm];exact Nat.succ_le_succ ih
section
variable{J VD:Addr->Prop}{A:Around}{env:Env}
variable{O aC bb:ak}{U aj af ar bL:ae}{s s' lA:Shared}{H aB dF:bB}{e f t:Expr}{pos:Pos}{k:Nat}{o:Out}
theorem v8{v:Value}{Q:Unit->Shared->Prop}{E:Value->Shared->Prop}(B:Base hB C N p mg mb mN)(hn:n∈sV)(S:SR prog w hB C J H U s.heap)
  (hl:U[l]?=some (.ins fs)) (hz:fs.length<1000) (rv:VR w J H U s.heap v x) (h:∀s' aB,aS prog w hB C J s H U s' aB (U.set l (.ins (cT n x fs)))->Q () s'):wpAny (model prog w) A (setAttr (.ref (H l).1) n v) Q E s:=by
 refine bC λ k9=>?_;obtain⟨q0,mA,q1,q2,q3,q4⟩:=S.node l _ hl;obtain⟨hh,g,d,tk,os⟩:=s;obtain⟨nm,q,bs,sn,sub,col,dd,k0,k1,k2,k3,k5,Qo⟩:=B.at'.obj;have hC:=S.keep _ _ Qo;refine k9 ?_;have Uk:(H l).1≠C:=λ q=>by
  have:=(S.off l _ hl rfl).1;rw[q,Qo] at this;cases this
 have hw:Within mA (fs.map (·.1)):=λ y hy=>by
  cases hm:mA y with
  |none=>exact absurd hm hy
  |some u=>exact q3 y u hm
 refine store_attr PySem.F.store_object hC (B.at'.keeps S.keep).ns B.hook.2.2 (B.P7 n hn) (nH n hn) Uk q1 (λ h' UU I' hk Lz=>?_) hw (by rw[List.length_map];exact Nat.le_trans q0 (by decide));refine bC λ k9=>?_;obtain⟨o0,OF,Vm,TN,QE⟩:=q1;have FX:=q2 o0 OF;refine k9 ?_;have om:∀b o,b≠(H l).1->b≠(H l).2->hh.get? b=some o->h'.get? b=some o:=λ b o h1 h2 ho=>hk b o h1 (λ Pj dx e1 e2=>by
  obtain rfl:o0=Pj:=Option.some.inj (OF.symm.trans e1);obtain rfl:(H l).2=dx:=Option.some.inj (FX.symm.trans e2);exact h2) ho
 have ev:bZ H U hh H (U.set l (.ins (cT n x fs))) h':=bZ.set hl rfl om;have yJ:VR w J H (U.set l (.ins (cT n x fs))) h' v x:=rv.aH ev;refine h _ H ⟨⟨rfl,GX.refl _⟩,ev,S.set hl rfl om ⟨?_,_,I',λ o1 TR=>?_,λ y u hy=>?_,λ y=>?_⟩ (λ q=>bt q.symm)⟩
 ·have:=jy (n:=n) (v:=x) fs;exact Nat.le_trans ‹_› ‹_›
 ·obtain⟨Pk,e1,_,_,_,e5⟩:=Lz o0 OF;obtain rfl:Pk=o1:=Option.some.inj (e1.symm.trans TR);exact e5 _ FX
 ·refine yI fs ?_;by_cases q:y=n
  ·exact .inl q
  ·exact .inr (q3 y u ((if_neg q).symm.trans hy))
 ·rw[sW];dsimp only;by_cases q:y=n
  ·rw[if_pos q,if_pos q];exact yJ
  ·rw[if_neg q,if_neg q];exact(q4 y).mono λ u z r=>r.aH ev
theorem jH(B:Base hB C N p mg mb mN)(ha:n∈sV)(L:c7 prog w hB C J A env e O U x af)(La:c7 prog w hB C J A env c O af (.o l) ar)
  (HX:swapsWith e (some (.Attribute c n ps)) pos.line env=pure false)
  (hl:ar[l]?=some (.ins fs)) (hz:fs.length<1000):XS prog w hB C J A env (exec (.Assign [.Attribute c n ps] e pos) env) O U .nx O (ar.set l (.ins (cT n x fs))):=λ H s m cm Q E F R S h _=>by
 refine plainObj_wpAny_Assign_Attribute (L H s m cm _ _ F R S λ v s₁ av b7 mQ=>?_) HX;refine La av s₁ m cm _ _ (F.aH S b7.aH) (R.aH b7.aH) b7.sr λ ov s₂ ck cP oH=>?_;obtain⟨rfl,_⟩:=oH;refine v8 B ha cP.sr hl hz (mQ.aH cP.aH) λ ix jV od=>?_;have g:=(b7.trans cP).trans od;exact h _ ix jV m cm g.toF (F.aH S g.aH) (R.aH g.aH) rfl
inductive JL(U:ae)(c:Int):V->V->Prop
 |mk (l:Nat) (xs:List V) (j:Int) (kk:Nat) (hn:U[l]?=some (.aI xs)) (e2:seqIndex? j xs.length=some kk) (e3:xs[kk]?=some (.d (.int c))):JL U c (.o l) (.d (.int j))
theorem NU{c:Int}(h:nI U a b=some c):JL U c a b:=by
 cases a with
 |o l=>
  obtain⟨xs,hn,h⟩:=lst_inv (f:=λ xs=>(c8 b).bind λ j=>(seqIndex? j xs.length).bind λ k=>(xs[k]?).bind c8) h;obtain⟨j,ej,h⟩:=a9 h;obtain⟨kk,ek,h⟩:=a9 h;obtain⟨v,wM,ec⟩:=a9 h;obtain rfl:=bq ec;obtain rfl:=bq ej;exact .mk l xs j kk hn ek wM
 |_=>first | exact no h | exact bt h | cases h
theorem Ji{i:Expr}{op:Operator}{cc m' r':Int}{bL Cq:ae}(hA:cZ A k)(hs:k7 i=true)(La:c7 prog w hB C J A env c O U a af)(Lb:c7 prog w hB C J A env i O af b ar)(hg:nI ar a b=some cc)
  (L:c7 prog w hB C J A env e O ar (.d (.int m')) bL) (ho:zj op cc m'=some r') (hv:fR a b (.d (.int r')) bL=some Cq):XS prog w hB C J A env (exec (.AugAssign (.Subscript c i ps) op e pos) env) O U .nx O Cq:=λ H s m cm Q E F R S h _=>by
 rw[arm_exec_AugAssign_3];refine wpAny_bind (wpAny_standAt (wpAny_bind (La H s m cm _ _ F R S λ va s₁ av b7 ra=>wpAny_bind (wpAny_holding (Lb av s₁ m cm _ _ (F.aH S b7.aH) (R.aH b7.aH) b7.sr λ vb s₂ ck cP rb=>?_)))));refine wpAny_bind (wpAny_holding (wpAny_bind (wpAny_standAt (wpAny_bind ?_))));cases NU hg with
 |mk l xs j kk hn ek wM=>
   obtain⟨t,rfl⟩:=aT rb;have UK:=ra.aH cP.aH;obtain⟨rfl,cz⟩:=UK;obtain⟨vs,n,q1,q3,q4⟩:=cP.sr.node l _ hn;obtain⟨u,hu,hr⟩:=q4.get wM;obtain⟨tu,rfl⟩:=aT hr;refine ka q1 q3 (q4.1▸ek) hu ?_;have HA:=b7.trans cP;refine wpAny_bind (wpAny_holding (L ck s₂ m cm _ _ (F.aH S HA.aH) (R.aH HA.aH) cP.sr λ vd ix jV od rd=>?_));obtain⟨td,rfl⟩:=aT rd;refine wpAny_bind (wpAny_standAt (wpAny_operating ?_));have TX:∀(Q':Value->Shared->Prop),(∀tt,Q' (.int r' tt) { ix with toks:=ix.toks+1 })->wpAny (model prog w) A (inplaceOp op (.int cc tu) (.int m' td)) Q' E ix:=λ Q' hq=>by
    cases op with
    |Add=>cases ho;exact PyProof.Rows.iadd_int (hq _)
    |Sub=>cases ho;exact PyProof.Rows.isub_int (hq _)
    |_=>first | exact no ho | exact bt ho | cases ho
   refine TX _ λ tt=>?_;refine wpAny_bind (wpAny_standAt ?_);have iW:augStore i (.ref (ck l).1) (.int j t) (.int r' tt)=(do
     holding [.int r' tt,.ref (ck l).1,.int j t] (setItem (.ref (ck l).1) (.int j t) (.int r' tt))
     release [.int r' tt,.ref (ck l).1,.int j t] []
     pure .next):=by
    cases i<;>first | rfl | exact bt hs
   rw[iW];have g4:aS prog w hB C J ix jV bL { ix with toks:=ix.toks+1 } jV bL:=aS.tok od.sr _;have rl:VR w J jV bL ix.heap (.ref (ck l).1) (.o l):=VR.aH (x:=.o l) ⟨rfl,cz⟩ od.aH;refine wpAny_bind (wpAny_holding (qO hA g4.sr rl (y:=.d (.int j)) (RD.int j t) (x:=.d (.int r')) (RD.int r' tt) hv λ PJ MN N7=>?_));refine wpAny_bind (wpAny_release ?_);have gg:=((HA.trans od).trans g4).trans N7;exact wpAny_pure (h _ PJ MN m cm gg.toF (F.aH S gg.aH) (R.aH gg.aH) rfl)
end
end
section
set_option tactic.hygienic true
open PySem PyProof.Rows
variable{es:List Expr}{k1 k2:Nat}{p1 p2:Pos}{ts:List Expr}
noncomputable def wh:ak->List Str->List V->ak
 |O,n::ns,x::xs=>wh (upd O n x) ns xs
 |O,_,_=>O
theorem ph(ns:List Str):∀(xs:List V) (O:ak) (y:Str),y∉ns->wh O ns xs y=O y:=by
 induction ns with
 |nil=>intro xs O y h;rfl
 |cons n ns ih=>
  intro xs O y h;cases xs with
  |nil=>rfl
  |cons x xs=>exact(ih xs _ y λ q=>h (.tail _ q)).trans (sH λ q=>h (q▸.head _))
theorem xR(ns:List Str):∀(xs:List V) (O:ak) (i:Nat) (y:Str) (v:V),ns.Nodup->ns[i]?=some y->xs[i]?=some v->wh O ns xs y=some v:=by
 induction ns with
 |nil=>intro xs O i y v hn h;exact no h
 |cons n ns ih=>
  intro xs O i y v hn h1 h2;cases xs with
  |nil=>exact no h2
  |cons x xs=>
   have hn:=List.nodup_cons.1 hn;cases i with
   |zero=>
    cases h1;cases h2;exact(ph ns xs _ _ hn.1).trans (lu O _ _)
   |succ i=>exact ih xs _ i y v hn.2 h1 h2
theorem IL{i n:Nat}(h:i<n):n-1-i<n/\n-1-(n-1-i)=i:=⟨Nat.lt_of_le_of_lt (Nat.sub_le _ i) (Nat.sub_lt (Nat.lt_of_le_of_lt (Nat.zero_le i) h) Nat.one_pos),Nat.sub_sub_self (Nat.le_pred_of_lt h)⟩
theorem B5{ns:List Str}{xs:List V}{O:ak}(hn:ns.Nodup)(hl:ns.length=xs.length):wh O ns.reverse xs.reverse=wh O ns xs:=by
 funext y;refine Classical.byCases (p:=y∈ns) (λ hy=>?_) (λ hy=>?_)
 ·obtain⟨i,hi⟩:=List.mem_iff_getElem?.mp hy;have cz:i<ns.length:=(List.getElem?_eq_some_iff.mp hi).1;have hx:xs[i]?=some xs[i]:=List.getElem?_eq_getElem (hl▸cz);have r:=IL cz;rw[xR ns xs O i y xs[i] hn hi hx];refine xR _ _ O (ns.length-1-i) y xs[i] (by unfold List.Nodup;rw[List.pairwise_reverse];exact hn.imp λ h=>Ne.symm h) ?_ ?_
  ·rw[List.getElem?_reverse r.1,r.2];exact hi
  ·rw[hl] at r ⊢;rw[List.getElem?_reverse r.1,r.2];exact hx
 ·rw[ph ns xs O y hy,ph _ _ O y (by simpa using hy)]
theorem ro(ts:List Expr):∀(ns:List Str) (xs:List V) (O aC:ak),ts.map sj=ns.map some->d0 ts xs O=some aC->aC=wh O ns xs/\ns.length=xs.length/\bX ts=ns:=by
 induction ts with
 |nil=>
  intro ns xs O aC hn h;cases ns with
  |nil=>
   cases xs with
   |nil=>exact⟨(Option.some.inj h).symm,rfl,rfl⟩
   |cons a b=>exact no h
  |cons a b=>cases hn
 |cons t ts ih=>
  intro ns xs O aC hn h;cases ns with
  |nil=>cases hn
  |cons n ns=>
   cases xs with
   |nil=>exact no h
   |cons x xs=>
    obtain⟨h0,h9⟩:=List.cons.inj hn;cases Iw h0;refine bC λ k9=>?_;obtain⟨h1,h2,h3⟩:=ih ns xs _ aC h9 h;refine k9 ?_;exact⟨h1,congrArg Nat.succ h2,congrArg (n::·) h3⟩
section
variable{J VD:Addr->Prop}{A:Around}{env:Env}
variable{O aC bb:ak}{U aj af ar bL:ae}{s s' lA:Shared}{H aB dF:bB}{e f t:Expr}{pos:Pos}{k:Nat}{o:Out}
theorem rm(hE:aN env):∀(ns:List Str) (O:ak) (xs:List V) (vs:List Value) (s:Shared) (m cm:Str->Option Value) (Q:Unit->Shared->Prop) (E:Value->Shared->Prop),ns.length=xs.length->
  (∀z∈ns,bE env z)->FR J env m cm s.heap->ER w J H U env m cm s.heap O->SR prog w hB C J H U s.heap->aE (VR w J H U s.heap) vs xs->
  uJ prog w hB C J H U env ns (wh O ns xs) s Q->wpAny (model prog w) A (assignInOrder (ns.map λ n=>bindName env n) vs) Q E s:=by
 intro ns
 induction ns with
 |nil=>
  intro O xs vs s m cm Q E hl hs F R S rv hQ;cases xs with
  |cons a b=>exact by cases hl
  |nil=>
   rw[rv.cM];exact wpAny_pure (hQ s.heap s.toks m cm F R S λ _ _ _ e=>e)
 |cons n ns ih=>
  intro O xs vs s m cm Q E hl hs F R S rv hQ;cases xs with
  |nil=>exact by cases hl
  |cons x xs=>
   obtain⟨v,ws,rfl,r1,r2⟩:=rv.cons_right;refine wpAny_bind (wpAny_holding (wpAny_bindName (lr hE (hs n (.head _)) F R S r1 λ h' tk m' cm' F' R' S' kp _ _=>?_)));have kj:∀b o,¬J b->s.heap.get? b=some o->h'.get? b=some o:=λ b o hb ho=>kp b o (λ q=>hb (by
    rcases q with q | ⟨_,hz⟩
    ·rw[q];exact F.jL
    ·exact(F.cell n b hz).2.1)) ho
   exact ih (upd O n x) xs ws _ m' cm' Q E (Nat.succ.inj hl) (λ z hz=>hs z (.tail _ hz)) F' R' S' (r2.mono λ v x r=>r.bT kj)
    λ mZ tk O4 G3 Nu NK Jn yu=>hQ mZ tk O4 G3 Nu NK Jn λ b o hb ho=>yu b o (λ q=>hb (by
     exact q.imp id (by rintro⟨z,h1,h2⟩;exact⟨z,.tail _ h1,h2⟩))) (kp b o (λ q=>hb (q.imp id λ q=>⟨n,.head _,q⟩)) ho)
theorem rG{f:Expr->Option Str}(hf:∀t n,f t=some n->sj t=some n/\env.kindOf n=some .local):∀(ts:List Expr),(ts.filterMap f).length=ts.length->ts.map sj=(ts.filterMap f).map some/\∀n∈ts.filterMap f,env.kindOf n=some .local:=by
 intro ts
 induction ts with
 |nil=>
  intro _;exact⟨rfl,λ n h=>by cases h⟩
 |cons t ts ih=>
  intro h;rw[List.filterMap_cons] at h ⊢;cases F5:f t with
  |none=>
   rw[F5] at h;exact absurd (List.length_filterMap_le f ts) (Nat.not_le.mpr (h▸Nat.lt_succ_self _))
  |some n=>
   rw[F5] at h;obtain⟨h1,h2⟩:=ih (Nat.succ.inj h);obtain⟨q1,q2⟩:=hf t n F5;refine⟨by rw[List.map_cons,q1,h1];rfl,λ y hy=>?_⟩;rcases List.mem_cons.mp hy with rfl | hy
   ·exact q2
   ·exact h2 y hy
theorem pU(hc:es.all (constantsAlone 8)=false) :
  swappedStores [.Tuple ts k1 p1] (.Tuple es k2 p2) env=pure none\/∃ns,swappedStores [.Tuple ts k1 p1] (.Tuple es k2 p2) env=pure (some ns)/\ts.map sj=ns.map some/\∀n∈ns,env.kindOf n=some .local:=by
 unfold swappedStores;dsimp only;split
 ·exact .inl rfl
 ·split
  ·exact .inl rfl
  ·split
   ·exact .inl rfl
   ·rename_i hl;split
    ·exact .inl rfl
    ·rw[if_neg (by rw[hc];simp)];refine .inr ⟨_,rfl,?_⟩;refine rG (λ t n hq=>?_) ts ?_
     ·cases t with
      |Name id ps=>
       by_cases Az:(env.kindOf id == some .local && ps.line == (ts.head?.map (·.pos.line)).getD 0)=true
       ·cases(if_pos Az).symm.trans hq;exact⟨rfl,eq_of_beq (az Az).1⟩
       ·exact no ((if_neg Az).symm.trans hq)
      |_=>exact no hq
     ·exact Classical.byContradiction λ q=>hl (Bool.or_eq_true_iff.2 (.inl (bne_iff_ne.2 q)))
theorem sI{Y:Or}{vs:List V}(hE:aN env)(hA:cZ A k)(hc:es.all (constantsAlone 8)=false)(Tr:es.length<=1000)(cE:(bX ts).Nodup)(iW:∀z∈bX ts,bE env z)
  (he:gJ Y es O U=some (vs,aj)) (L:xW prog w hB C J A env es p2 O U vs aj) (hb:d0 ts vs O=some aC):XS prog w hB C J A env (exec (.Assign [.Tuple ts k1 p1] (.Tuple es k2 p2) pos) env) O U .nx aC aj:=λ H s m cm Q E F R S h _=>by
 have aZ:=vg es U vs aj he;rw[arm_exec_Assign];refine wpAny_bind (wpAny_standAt ?_);show wpAny _ _ (swapsWith (.Tuple es k2 p2) (some (.Tuple ts k1 p1)) pos.line env >>= _) _ _ _;rw[fS rfl];refine wpAny_bind (wpAny_pure ?_);refine wpAny_bind (Tuple_ (L H s m cm _ _ F R S λ us s₁ av g rs=>?_));have Uc:us.length<=iH:=by rw[rs.1,aZ];exact Nat.le_trans Tr (by decide)
 refine wpAny_newTuple ?_ (Nat.le_trans Uc bu);have Ro:∀b o,s₁.heap.get? b=some o->(s₁.heap.push { cls:=.type "tuple",data:=.seq us.toArray }).get? b=some o:=λ b o q=>Heap.get?_push_of_some _ q;have g1:aS prog w hB C J s₁ av aj { s₁ with heap:=s₁.heap.push { cls:=.type "tuple",data:=.seq us.toArray } } av aj:=⟨⟨rfl,GX.refl _⟩,bZ.bx Ro,g.sr.bx Ro⟩;have hT:IsTup (s₁.heap.push { cls:=.type "tuple",data:=.seq us.toArray }) s₁.heap.objs.size us.toArray:=⟨_,Heap.get?_push_size _ rfl,rfl,0,rfl⟩;have un:∀(n:Nat) (Q':List Value->Shared->Prop),n=us.length->(∀h',(∀b o,(s₁.heap.push { cls:=.type "tuple",data:=.seq us.toArray }).get? b=some o->h'.get? b=some o)->Q' us { s₁ with heap:=h' })->
   wpAny (model prog w) A (unpackItems (.ref s₁.heap.objs.size) n none) Q' E { s₁ with heap:=s₁.heap.push { cls:=.type "tuple",data:=.seq us.toArray } }:=λ n Q' hn hQ=>by
  subst hn;exact wpAny_unpackItems_tuple (prog:=prog) (w:=w) (Q:=Q') (E:=E) (s:={ s₁ with heap:=s₁.heap.push { cls:=.type "tuple",data:=.seq us.toArray } }) hA.handled hT λ h' hx=>hQ h' λ b o ho=>hx b o (Nat.ne_of_lt (Heap.lt_size ho)) ho
 have Su:=g.trans g1;have fin:∀h' (kp:∀b o,(s₁.heap.push { cls:=.type "tuple",data:=.seq us.toArray }).get? b=some o->h'.get? b=some o),aS prog w hB C J s H U { s₁ with heap:=h' } av aj:=λ h' kp=>
  Su.trans ⟨⟨rfl,GX.refl _⟩,bZ.bx kp,g1.sr.bx kp⟩
 have Tc:=nK ts vs O aC hb;rcases pU (env:=env) (ts:=ts) (es:=es) (k1:=k1) (k2:=k2) (p1:=p1) (p2:=p2) hc with HX | ⟨ns,HX,Lr,DU⟩
 ·rw[HX];refine wpAny_bind (wpAny_pure ?_);show wpAny _ _ (assign (.Tuple ts k1 p1) env (.ref s₁.heap.objs.size) >>= λ _=>(pure Flow.next:Sem Flow)) _ _ _;rw[arm_assign_Tuple];refine wpAny_bind (wpAny_bind (wpAny_standAt ?_));unfold unpack;rw[(dh ts _ O aC hb).1,(dh ts _ O aC hb).2];refine wpAny_bind (wpAny_holding (un ts.length _ (by rw[Tc,rs.1]) λ h' kp=>?_));have gg:=fin h' kp;refine uR hE hA ts O aC vs us _ m cm _ _ hb iW (F.aH S gg.aH) (R.aH gg.aH) gg.sr (rs.mono λ v x r=>(r.aH g1.aH).aH (bZ.bx kp)) λ mZ tk m' cm' F' R' S' yu=>wpAny_pure ?_;exact h _ _ av m' cm' (gg.toF.trans (i7 (m':=m') (cm':=cm') (F.aH S gg.aH) S' yu)) F' R' rfl
 ·obtain⟨e1,e2,e3⟩:=ro ts ns vs O aC Lr hb;rw[HX];refine wpAny_bind (wpAny_pure ?_);refine wpAny_bind (wpAny_rule (wpAny_bind (un ns.length _ (by rw[e2,rs.1]) λ h' kp=>?_)));have gg:=fin h' kp;have JF:aE (VR w J av aj h') us vs:=rs.mono λ v x r=>(r.aH g1.aH).aH (bZ.bx kp);have UM:aE (VR w J av aj h') us.reverse vs.reverse:=by
   refine⟨by rw[List.length_reverse,List.length_reverse,JF.1],λ i v x hv hx=>?_⟩;have hi:i<us.length:=List.length_reverse (as:=us)▸(List.getElem?_eq_some_iff.mp hv).1;rw[List.getElem?_reverse hi] at hv;rw[List.getElem?_reverse (by rw[<-JF.1];exact hi),<-JF.1] at hx;exact JF.2 _ v x hv hx
  refine wpAny_bind (rm hE ns.reverse O vs.reverse us.reverse _ m cm _ _ (by rw[List.length_reverse,List.length_reverse,e2]) (λ z hz=>.inl (DU z (List.mem_reverse.mp hz))) (F.aH S gg.aH) (R.aH gg.aH) gg.sr UM λ mZ tk m' cm' F' R' S' yu=>wpAny_pure ?_);rw[B5 (by rw[<-e3];exact cE) e2,<-e1] at R';exact h _ _ av m' cm' (gg.toF.trans (i7 (m':=m') (cm':=cm') (F.aH S gg.aH) S' yu)) F' R' rfl
end
end
section
open PySem PyProof.Rows
variable{E:Value->Shared->Prop}{J':Addr->Prop}{Q:Flow->Shared->Prop}{fl:Flow}{h:Heap}{s₂:Shared}
section
variable{J VD W:Addr->Prop}{A:Around}{env:Env}
variable{O aC bb fB iG wx:ak}{U aj af ar iA cR:ae}{s s' lA s₁:Shared}{H aB dF av:bB}{e f t it:Expr}{pos:Pos}{k:Nat}{o oa:Out}{m cm m' cm':Str->Option Value}{h₂ h' ha:Heap}
theorem iE.turn{h₀ h':Heap}{Z:Addr->Prop}(e:iE VD H U h₀ aB aj h)(hk:∀b o,¬Z b->h.get? b=some o->h'.get? b=some o)(hZ:∀b,Z b->h₀.get? b=none\/VD b):iE VD H U h₀ aB aj h':=
 ⟨e.len,e.ag,e.own,λ b o hb hY q=>hk b o (λ z=>(hZ b z).elim (λ z=>by cases z.symm.trans q) hY) (e.kp b o hb hY q)⟩
noncomputable def JW(J W:Addr->Prop)(b:Addr):Prop:=J b\/W b
structure MQ(J W:Addr->Prop)(env:Env)(h₀:Heap):Prop where
 jw:∀b,J b->¬W b
 wn:∀b,W b->h₀.get? b=none
 fj:∀b,FA env b->J b
structure iJ(J W:Addr->Prop)(env:Env)(eV:Shared)(df:bB)(dg:ae)(s:Shared)(wx:ak)(iA:ae)(aB:bB)(m cm:Str->Option Value):Prop where
 same:pz eV s
 aH:iE (FA env) df dg eV.heap aB iA s.heap
 sr:SR prog w hB C (JW J W) aB iA s.heap
 fr:FR (JW J W) env m cm s.heap
 er:ER w (JW J W) aB iA env m cm s.heap wx
theorem ER.eu(R:ER w J H U env m cm h O)(hJ:∀b,J' b->J b\/h.get? b=Option.none)(hk:∀b o,¬J b->h.get? b=some o->h'.get? b=some o):ER w J' H U env m cm h' O:=λ x v' hx hm=>by
 obtain⟨v,h1,h2⟩:=R x v' hx hm;exact⟨v,h1,h2.eu hJ hk⟩
theorem FR.RP(F:FR J env m cm h)(hJ:∀b,FA env b->J' b):FR J' env m cm h:=⟨F.ns,hJ _ (.inl rfl),λ n c hc=>⟨(F.cell n c hc).1,hJ _ (.inr ⟨n,hc⟩),(F.cell n c hc).2.2⟩,F.apart,F.has⟩
theorem iJ.start(F:FR J env m cm s.heap)(R:ER w J H U env m cm s.heap O)(S:SR prog w hB C J H U s.heap)(g:aS prog w hB C J s H U s₁ av af)(sh:pz s₁ s₂)(kp:∀b o,s₁.heap.get? b=some o->s₂.heap.get? b=some o)(new:∀b,W b->s₁.heap.get? b=none/\∃o,s₂.heap.get? b=some o) :
  MQ J W env s.heap/\iJ J W env s H U s₂ O af av m cm:=by
 have hJ:∀b,JW J W b->J b\/s₁.heap.get? b=none:=λ b hb=>hb.imp id λ q=>(new b q).1;refine⟨⟨λ b hb q=>?_,λ b hb=>g.fresh S (new b hb).1,F.fa⟩,g.same.trans sh,(g.aH.trans (bZ.bx kp)).toF,g.sr.eu hJ (λ b o _ q=>kp b o q) λ b hb=>?_,((F.aH S g.aH).bx kp).RP λ b q=>.inl (F.fa b q),(R.aH g.aH).eu hJ λ b o _ q=>kp b o q⟩
 ·obtain⟨_,_,ob,ho⟩:=g.sr.jo b hb;exact by cases(new b q).1.symm.trans ho
 ·rcases hb with q | q
  ·obtain⟨_,_,ob,ho⟩:=g.sr.jo b q;exact⟨ob,kp b ob ho⟩
  ·exact(new b q).2
theorem iJ.out(Z:MQ J W env s.heap)(L:iJ J W env s H U s' wx iA aB m' cm')(lW:CJ w (JW J W) aB iA s'.heap fl o)(sh:pz s' s₂)(kp:∀b o,¬W b->s'.heap.get? b=some o->s₂.heap.get? b=some o)
  (h:∀fl s' aB m' cm',dS prog w hB C J (FA env) s H U s' aB iA->FR J env m' cm' s'.heap->ER w J aB iA env m' cm' s'.heap wx->CJ w J aB iA s'.heap fl o->Q fl s'):Q fl s₂:=by
 have kj:∀b o,¬JW J W b->s'.heap.get? b=some o->s₂.heap.get? b=some o:=λ b o hb ho=>kp b o (λ q=>hb (.inr q)) ho;have jl:∀b,J b->JW J W b\/s'.heap.get? b=none:=λ b hb=>.inl (.inl hb);have fw:∀b,FA env b->¬W b:=λ b q=>Z.jw b (Z.fj b q);refine h fl _ aB m' cm' ⟨L.same.trans sh,L.aH.turn (Z:=W) kp λ b hb=>.inl (Z.wn b hb),L.sr.eu jl kj λ b hb=>?_⟩ ((L.fr.RP Z.fj).E5 (λ o ho=>kp _ o (fw _ (.inl rfl)) ho) λ n c hc o ho=>kp _ o (fw _ (.inr ⟨n,hc⟩)) ho) (L.er.eu jl kj) ?_
 ·obtain⟨_,_,ob,ho⟩:=L.sr.jo b (.inl hb);exact⟨ob,kp b ob (Z.jw b hb) ho⟩
 ·cases o with
  |rt v=>
   obtain⟨u,hu,ru⟩:=lW;exact⟨u,hu,ru.eu jl kj⟩
  |_=>exact lW
theorem iJ.turn{x:V}{v:Value}{body:List Stmt}(hE:aN env)(hA:cZ A k)(iW:∀z∈ay t,bE env z)(Z:MQ J W env s.heap)(L:iJ J W env s H U s' wx iA aB m' cm')
  (sh:pz s' s₂) (sO:∀b o,¬W b->s'.heap.get? b=some o->s₂.heap.get? b=some o) (N6:∀b,W b->∃o,s₂.heap.get? b=some o) (Pr:VR w (JW J W) aB iA s₂.heap v x)
  (yW:ba t x wx=some fB) (hx:oa≠.ex) (hB:XS prog w hB C (JW J W) A env (execs body env) fB iA oa iG cR)
  (hQ:∀fl sc uB mc Cy,iJ J W env s H U sc iG cR uB mc Cy->CJ w (JW J W) uB cR sc.heap fl oa->(∀b o,W b->s₂.heap.get? b=some o->sc.heap.get? b=some o)->Mv (JW J W) aB iA s₂.heap (JW J W) uB cR sc.heap->Q fl sc) :
  wpAny (model prog w) A (assign t env v) (λ _ s₂=>wpAny (model prog w) A (execs body env) Q E s₂) E s₂:=by
 have fw:∀b,FA env b->¬W b:=λ b q=>Z.jw b (Z.fj b q);have Ib:∀b o,¬JW J W b->s'.heap.get? b=some o->s₂.heap.get? b=some o:=λ b o hb ho=>sO b o (λ q=>hb (.inr q)) ho;have wf:∀b,WT env (ay t) b->FA env b:=λ b q=>q.imp id (by rintro⟨z,_,_,hz⟩;exact⟨z,hz⟩);refine lC hE hA t wx fB x v _ m' cm' _ _ yW iW (L.fr.E5 (λ o ho=>sO _ o (fw _ (.inl rfl)) ho) λ n c hc o ho=>sO _ o (fw _ (.inr ⟨n,hc⟩)) ho) (L.er.bT Ib) (L.sr.bT Ib λ b hb=>?_) Pr λ rO UZ mb So Fb Rb Sb Ic=>?_
 ·refine Classical.byCases (p:=W b) (λ q=>?_) (λ q=>?_)
  ·exact N6 b q
  ·obtain⟨_,_,ob,ho⟩:=L.sr.jo b hb;exact⟨ob,sO b ob q ho⟩
 ·have Uv:∀b o,¬JW J W b->s₂.heap.get? b=some o->rO.get? b=some o:=λ b o hb ho=>Ic b o (λ q=>hb (.inl (Z.fj b (wf b q)))) ho;have fj:∀b,FA env b->JW J W b:=λ b q=>.inl (Z.fj b q);refine hB aB _ mb So _ _ Fb Rb Sb (λ fl sc uB mc Cy gc Fc Rc lW=>hQ fl sc uB mc Cy ⟨(L.same.trans sh).trans gc.same,?_,gc.sr,Fc,Rc⟩ lW (λ b o hb ho=>?_) ?_) λ ea s' aB q=>absurd q hx
  ·exact((L.aH.turn (Z:=W) sO λ b hb=>.inl (Z.wn b hb)).turn (Z:=WT env (ay t)) Ic λ b hb=>.inr (wf b hb)).trans gc.aH
  ·exact gc.aH.kp b o (Sb.jo b (.inr hb)).1 (λ q=>fw b q hb) (Ic b o (λ q=>fw b (wf b q) hb) ho)
  ·have m1:=gc.aH.mv (J:=JW J W) fj;have m2:Mv (JW J W) aB iA s₂.heap (JW J W) aB iA rO:=.bT Uv;exact⟨λ b o hb ho=>m1.kp b o hb (m2.kp b o hb ho),λ b o hb ho=>m1.ex b o hb (m2.kp b o hb ho),m1.at'⟩
noncomputable def y7(Nx:Prop)(Q:Flow->Shared->Prop)(s:Shared):Flow->Prop
 |.next=>Nx
 |.cont=>Nx
 |.brk=>Q .next s
 |.ret v=>Q (.ret v) s
theorem qA{Nx:Prop}{kk:ak->ae->Res}(Z:MQ J W env s.heap)(L:iJ J W env s H U s' iG cR aB m' cm')(lW:CJ w (JW J W) aB cR s'.heap fl oa)(hr:cont kk oa iG cR=some (o,aC,aj))
  (h:∀fl s' aB m' cm',dS prog w hB C J (FA env) s H U s' aB aj->FR J env m' cm' s'.heap->ER w J aB aj env m' cm' s'.heap aC->CJ w J aB aj s'.heap fl o->Q fl s') (again:kk iG cR=some (o,aC,aj)->Nx):y7 Nx Q s' fl:=by
 cases oa with
 |nx=>obtain rfl:fl=.next:=lW;exact again hr
 |ct=>obtain rfl:fl=.cont:=lW;exact again hr
 |br=>obtain rfl:fl=.brk:=lW;cases hr;exact iJ.out (o:=.nx) (fl:=.next) Z L rfl (pz.refl _) (λ _ _ _ q=>q) h
 |ex=>cases hr
 |rt v=>obtain⟨u,rfl,ru⟩:=lW;cases hr;exact iJ.out (o:=.rt v) (fl:=.ret u) Z L ⟨u,rfl,ru⟩ (pz.refl _) (λ _ _ _ q=>q) h
theorem n7{body:List Stmt}(dQ:fP it=true)(h:wpAny (model prog w) A (eval it env) (λ x s₁=>wpAny (model prog w) A (pyIter x) (λ Uu s₂=>wpAny (model prog w) A (runOwn (.forLoop t Uu body [] env) env) Q E s₂) E s₁) E s) :
  wpAny (model prog w) A (exec (.For t it body [] pos) env) Q E s:=by
 have AK:∀x,foldedSetIterable it env x=pure x:=λ x=>by cases it<;>first | rfl | exact bt dQ
 rw[arm_exec_For];exact wpAny_bind (wpAny_standAt (wpAny_bind (wpAny_mono h (λ x s₁ hq=>wpAny_bind (wpAny_of_eq (AK x) (wpAny_bind (wpAny_standAt (wpAny_bind (wpAny_holding hq)))))) λ _ _ q=>q)))
end
end
section
open PySem PyProof.Rows
section
variable{J VD:Addr->Prop}{A:Around}{env:Env}
variable{O aC bb:ak}{U aj af ar bL:ae}{s s' lA:Shared}{H aB dF:bB}{e f t it:Expr}{pos:Pos}{k:Nat}{o:Out}
inductive JS(J:Addr->Prop)(wr:List Addr)(env:Env)(step:V->ak->ae->Res)(eV:Shared)(df:bB)(dg:ae)(rs:List (Value×PyData))(ds:List PyData)(St:Nat->Heap->Prop)(o:Out)(aC:ak)(aj:ae)(n:Nat)(s:Shared):Prop
 |mk (i:Nat) (wx:ak) (iA:ae) (aB:bB) (m cm:Str->Option Value) (le:i<=ds.length) (hn:n=ds.length-i) (L:iJ J (·∈wr) env eV df dg s wx iA aB m cm) (st:St i s.heap) (rd:∀p∈rs,RD (Ex (JW J (·∈wr)) aB iA) s.heap p.1 p.2)
  (go:forL step ((ds.drop i).map V.d) wx iA=some (o,aC,aj))
theorem Jj{body:List Stmt}{uA:ak->ae->Res}{xs:List V}(hE:aN env)(hA:cZ A k)(dQ:fP it=true)(iW:∀z∈ay t,bE env z)
  (og:Cs prog w hB C J A env t it O U xs af) (hf:forL (λ x O U=>(ba t x O).bind λ O=>uA O U) xs O af=some (o,aC,aj))
  (iV:∀J',∀fB cy oa iG cR,uA fB cy=some (oa,iG,cR)->XS prog w hB C J' A env (execs body env) fB cy oa iG cR) :
  XS prog w hB C J A env (exec (.For t it body [] pos) env) O U o aC aj:=λ H s m cm Q E F R S h _=>by
 refine n7 dQ (og H s m cm _ E F R S λ s₁ av h₂ tk I wr ds fp rs St g hx at'=>?_);obtain⟨Z,L0⟩:=iJ.start (W:=(·∈wr)) (s₂:={ s₁ with heap:=h₂,toks:=tk }) F R S g ⟨rfl,GX.refl _⟩ at'.kp at'.new;have wX:∀b,JW J (·∈wr) b->J b\/s₁.heap.get? b=none:=λ b hb=>hb.imp id λ q=>(at'.new b q).1;refine wpAny_runOwn (codeAny_forLoop_any (JS J wr env (λ x O U=>(ba t x O).bind λ O=>uA O U) s H U rs ds St o aC aj) (λ n s' hI=>?_) (ds.length-0)
  ⟨0,O,af,av,m,cm,Nat.zero_le _,rfl,L0,at'.st,λ p hp=>(at'.rd p hp).eu wX λ b o _ q=>at'.kp b o q,by rw[List.drop_zero,<-hx];exact hf⟩)
 obtain⟨i,wx,iA,aB,m',cm',le,rfl,L,st,rd,go⟩:=hI;refine Classical.byCases (p:=i<ds.length) (λ hi=>?_) (λ hi=>?_)
 ·rw[List.drop_eq_getElem_cons hi,List.map_cons] at go;refine bC λ k9=>?_;obtain⟨oa,iG,cR,h1,gk⟩:=zl go;obtain⟨fB,yW,Jv⟩:=a9 h1;refine k9 ?_;refine wpAny_mono (at'.ok.step (JW J (·∈wr)) aB iA s' i _ L.sr rd (λ b hb=>.inr hb) (List.getElem?_eq_getElem hi) st _ _ λ v ha UY q1 q2 q3 q4=>?_) (λ r RM hr=>hr.elim λ v hv=>by rw[hv.1];exact hv.2) λ _ _ q=>q;refine L.turn (x:=.d ds[i]) hE hA iW Z ⟨rfl,GX.refl _⟩ q1 q2 q4 yW (λ q=>by rw[q] at gk;cases gk) (iV _ fB iA oa iG cR Jv) λ fl sc uB mc Cy Lc lW kw mv=>?_;have UP:St (i+1) sc.heap:=at'.ok.frame _ _ _ q3 λ b hb o ho=>(at'.ok.vo b hb).elim (λ q=>kw b o q ho) fun⟨d,q⟩=>by
   obtain⟨_,_,hx⟩:=RD.sA ((rd _ q).bT λ b o hb ho=>q1 b o (λ q=>hb (.inr q)) ho);exact mv.kp b o hx ho
  have X:y7 (∃m,m<ds.length-i/\JS J wr env (λ x O U=>(ba t x O).bind λ O=>uA O U) s H U rs ds St o aC aj m sc) Q sc fl:=qA Z Lc lW gk h λ Jr=>⟨ds.length-(i+1),Nat.sub_lt_sub_left hi (Nat.lt_succ_self i),i+1,iG,cR,uB,mc,Cy,hi,rfl,Lc,UP,λ p hp=>((rd p hp).bT λ b o hb ho=>q1 b o (λ q=>hb (.inr q)) ho).mv mv,Jr⟩;cases fl<;>exact X
 ·obtain rfl:i=ds.length:=Nat.le_antisymm le (Nat.le_of_not_lt hi);rw[List.drop_length] at go;refine bC λ k9=>?_;cases go;refine k9 ?_;exact at'.ok.done s' st _ _ λ h' UU kp=>wpAny_execs_nil (L.out (o:=.nx) (fl:=.next) Z rfl ⟨rfl,GX.refl _⟩ kp h)
end
end
section
open PySem PyProof.Rows
section
variable{J VD:Addr->Prop}{A:Around}{env:Env}
variable{O aC bb:ak}{U aj af ar bL:ae}{s s' lA:Shared}{H aB dF:bB}{e f t it:Expr}{pos:Pos}{k:Nat}{o:Out}
inductive JZ(J:Addr->Prop)(env:Env)(step:V->ak->ae->Res)(eV:Shared)(df:bB)(dg:ae)(l:Nat)(a I:Addr)(o:Out)(aC:ak)(aj:ae)(n:Nat)(s:Shared):Prop
 |mk (i:Nat) (wx:ak) (iA:ae) (aB:bB) (m cm:Str->Option Value) (L:iJ J (·=I) env eV df dg s wx iA aB m cm) (it:s.heap.IsListIter I a i) (at':(aB l).1=a/\l<iA.length) (go:gA step l n i wx iA=some (o,aC,aj))
end
section
namespace mn
noncomputable section
def P(J:Addr->Prop)(A:Around)(env:Env)(O:ak)(aC:ak)(U:ae)(aj:ae)(af:ae)(t:Expr)(it:Expr)(pos:Pos)(k:Nat)(body:List Stmt)(uA:ak->ae->Res)(l:Nat):Prop:=∀(o:Out) (fuel:Nat) (hE:aN env) (hA:cZ A k) (dQ:fP it=true) (DZ:eY t) (iW:∀z∈ay t,bE env z) (og:c7 prog w hB C J A env it O U (.o l) af) (hf:gA (λ x O U=>(ba t x O).bind λ O=>uA O U) l fuel 0 O af=some (o,aC,aj)) (iV:∀J',∀fB cy oa iG cR,uA fB cy=some (oa,iG,cR)->XS prog w hB C J' A env (execs body env) fB cy oa iG cR),XS prog w hB C J A env (exec (.For t it body [] pos) env) O U o aC aj
def xe:(Addr->Prop)×(Around)×(Env)×(ak)×(ak)×(ae)×(ae)×(ae)×(Expr)×(Expr)×(Pos)×(Nat)×(List Stmt)×(ak->ae->Res)×(Nat):=@Classical.epsilon _ ⟨(default,{},default,default,default,default,default,default,default,default,default,default,default,default,default)⟩ λ x=>¬P x.1 x.2.1 x.2.2.1 x.2.2.2.1 x.2.2.2.2.1 x.2.2.2.2.2.1 x.2.2.2.2.2.2.1 x.2.2.2.2.2.2.2.1 x.2.2.2.2.2.2.2.2.1 x.2.2.2.2.2.2.2.2.2.1 x.2.2.2.2.2.2.2.2.2.2.1 x.2.2.2.2.2.2.2.2.2.2.2.1 x.2.2.2.2.2.2.2.2.2.2.2.2.1 x.2.2.2.2.2.2.2.2.2.2.2.2.2.1 x.2.2.2.2.2.2.2.2.2.2.2.2.2.2
def J:Addr->Prop:=xe.1
def A:Around:=xe.2.1
def env:Env:=xe.2.2.1
def O:ak:=xe.2.2.2.1
def aC:ak:=xe.2.2.2.2.1
def U:ae:=xe.2.2.2.2.2.1
def aj:ae:=xe.2.2.2.2.2.2.1
def af:ae:=xe.2.2.2.2.2.2.2.1
def t:Expr:=xe.2.2.2.2.2.2.2.2.1
def it:Expr:=xe.2.2.2.2.2.2.2.2.2.1
def pos:Pos:=xe.2.2.2.2.2.2.2.2.2.2.1
def k:Nat:=xe.2.2.2.2.2.2.2.2.2.2.2.1
def body:List Stmt:=xe.2.2.2.2.2.2.2.2.2.2.2.2.1
def uA:ak->ae->Res:=xe.2.2.2.2.2.2.2.2.2.2.2.2.2.1
def l:Nat:=xe.2.2.2.2.2.2.2.2.2.2.2.2.2.2
theorem core:P J A env O aC U aj af t it pos k body uA l:=λ o fuel hE hA dQ DZ iW og hf iV=>λ H s m cm Q E F R S h _=>by
 refine n7 dQ (og H s m cm _ E F R S λ x s₁ av g rx=>?_);obtain⟨rfl,cz⟩:=rx;cases fuel with
 |zero=>first | exact no hf | exact bt hf | cases hf
 |succ fuel=>
  refine bC λ k9=>?_;obtain⟨RT,H0,_⟩:=n6 hf;obtain⟨RS,UE,q1,q2,q3⟩:=g.sr.node l _ H0;refine k9 ?_;refine wpAny_pyIter_list (IsList.of q1) ?_;have OY:∀b o,s₁.heap.get? b=some o->(s₁.heap.push { cls:=.type "list_iterator",data:=.fields #[.ref (av l).1,.int 0 0] }).get? b=some o:=λ b o q=>Heap.get?_push_of_some _ q;obtain⟨Z,L0⟩:=iJ.start (W:=(·=s₁.heap.objs.size)) (s₂:={ s₁ with heap:=s₁.heap.push { cls:=.type "list_iterator",data:=.fields #[.ref (av l).1,.int 0 0] } }) F R S g ⟨rfl,GX.refl _⟩ OY λ b hb=>⟨hb▸aY _,_,hb▸Heap.get?_push_size _ rfl⟩;refine wpAny_runOwn (codeAny_forLoop_any (JZ J env (λ x O U=>(ba t x O).bind λ O=>uA O U) s H U l (av l).1 s₁.heap.objs.size o aC aj) (λ n s' hI=>?_) (fuel+1)
   ⟨0,O,af,av,m,cm,L0,⟨_,Heap.get?_push_size _ rfl,rfl,rfl⟩,⟨rfl,cz⟩,hf⟩)
  obtain⟨i,wx,iA,aB,m',cm',L,LU,at',go⟩:=hI;cases n with
  |zero=>first | exact no go | exact bt go | cases go
  |succ n=>
   refine bC λ k9=>?_;obtain⟨xs,hn,go⟩:=n6 go;obtain⟨vs,nn,p1,p2,p3⟩:=L.sr.node l _ hn;refine k9 ?_;rw[at'.1] at p1;cases hx:xs[i]? with
   |none=>
    rw[hx] at go;refine bC λ k9=>?_;cases go;refine k9 ?_;refine wpAny_pyNext_list_end hA.handled LU (IsList.of p1) ?_ λ h' CE=>wpAny_execs_nil (L.out (o:=.nx) (fl:=.next) Z rfl ⟨rfl,GX.refl _⟩ CE h);rw[List.getElem?_toArray];exact List.getElem?_eq_none (p3.1▸List.getElem?_eq_none_iff.mp hx)
   |some x=>
    rw[hx] at go;refine bC λ k9=>?_;obtain⟨oa,iG,cR,h1,gk⟩:=zl go;obtain⟨fB,yW,Jv⟩:=a9 h1;obtain⟨v,hv,rv⟩:=p3.get hx;refine k9 ?_;refine wpAny_pyNext_list_item LU (IsList.of p1) (x:=v) (List.getElem?_toArray.trans hv) λ ha ke kX=>?_;refine bC λ k9=>?_;obtain⟨oI,Q1,Td,Tn⟩:=id ke;refine k9 ?_;have sO:∀b o,¬b=s₁.heap.objs.size->s'.heap.get? b=some o->ha.get? b=some o:=λ b o hb ho=>kX.extBut b o hb ho;refine Bl DZ Q1 Td Tn (by decide) (L.turn hE hA iW Z ⟨rfl,GX.refl _⟩ sO (λ b hb=>⟨oI,hb▸Q1⟩) ((mw (s:=s') L.sr rv).bT λ b o hb ho=>sO b o (λ q=>hb (.inr q)) ho) yW (λ q=>by rw[q] at gk;cases gk) (iV _ fB iA oa iG cR Jv) λ fl sc uB mc Cy Lc lW kw mv=>?_);have X:y7 (∃m,m<n+1/\JZ J env (λ x O U=>(ba t x O).bind λ O=>uA O U) s H U l (av l).1 s₁.heap.objs.size o aC aj m sc) Q sc fl:=qA Z Lc lW gk h λ Jr=>
     ⟨n,Nat.lt_succ_self _,i+1,iG,cR,uB,mc,Cy,Lc,ke.at λ o ho=>kw _ o rfl ho,⟨(congrArg Prod.fst (mv.at' l at'.2).1).trans at'.1,(mv.at' l at'.2).2⟩,Jr⟩
    cases fl<;>exact X
end
end mn
variable{J VD:Addr->Prop}{A:Around}{env:Env}
variable{O aC bb:ak}{U aj af ar bL:ae}{s s' lA:Shared}{H aB dF:bB}{e f t it:Expr}{pos:Pos}{k:Nat}{o:Out}
theorem Fw{body:List Stmt}{uA:ak->ae->Res}{l fuel:Nat}(hE:aN env)(hA:cZ A k)(dQ:fP it=true)(DZ:eY t)(iW:∀z∈ay t,bE env z)
  (og:c7 prog w hB C J A env it O U (.o l) af) (hf:gA (λ x O U=>(ba t x O).bind λ O=>uA O U) l fuel 0 O af=some (o,aC,aj))
  (iV:∀J',∀fB cy oa iG cR,uA fB cy=some (oa,iG,cR)->XS prog w hB C J' A env (execs body env) fB cy oa iG cR):XS prog w hB C J A env (exec (.For t it body [] pos) env) O U o aC aj:=aU (Q:=λ x:(Addr->Prop)×(Around)×(Env)×(ak)×(ak)×(ae)×(ae)×(ae)×(Expr)×(Expr)×(Pos)×(Nat)×(List Stmt)×(ak->ae->Res)×(Nat)=>mn.P x.1 x.2.1 x.2.2.1 x.2.2.2.1 x.2.2.2.2.1 x.2.2.2.2.2.1 x.2.2.2.2.2.2.1 x.2.2.2.2.2.2.2.1 x.2.2.2.2.2.2.2.2.1 x.2.2.2.2.2.2.2.2.2.1 x.2.2.2.2.2.2.2.2.2.2.1 x.2.2.2.2.2.2.2.2.2.2.2.1 x.2.2.2.2.2.2.2.2.2.2.2.2.1 x.2.2.2.2.2.2.2.2.2.2.2.2.2.1 x.2.2.2.2.2.2.2.2.2.2.2.2.2.2) mn.core (J,A,env,O,aC,U,aj,af,t,it,pos,k,body,uA,l) o fuel hE hA dQ DZ iW og hf iV
end
end
section
open PySem PyProof.Rows
variable{I a:Addr}{ep:Nat}{es:Array (Int×Value)}{h:Heap}{i:Nat}{t:SetTable}{G:Type}
theorem gy{G:Type}:∀(xs:List G) (i:Nat) (x:G),xs[i]?=some x->xs.Perm (x::xs.eraseIdx i)
 |[],i,x,h=>by simp at h
 |y::ys,0,x,h=>by simp at h;subst h;simp
 |y::ys,i+1,x,h=>by
  simp at h;have:=gy ys i x h;rw[List.eraseIdx_cons_succ];exact(List.Perm.cons y this).trans (List.Perm.swap x y _)
theorem EN(next:Nat->Nat):∀(fuel k:Nat) (left:List G) (out:Array G),left.length<=fuel->(pickOrder.go next fuel k left out).toList.Perm (out.toList++left):=by
 intro fuel
 induction fuel with
 |zero=>
  intro k left out h;have:left=[]:=List.length_eq_zero_iff.mp (by omega);subst this;rw[List.append_nil];exact List.Perm.refl _
 |succ fuel ih=>
  intro k left out h;show(match left[next k % left.length]? with | some x=>pickOrder.go next fuel (k+1) (left.eraseIdx (next k % left.length)) (out.push x) | none=>out).toList.Perm _;by_cases hl:left=[]
  ·subst hl;simp
  ·have AI:0<left.length:=List.length_pos_iff.mpr hl;have hi:next k % left.length<left.length:=Nat.mod_lt _ AI
   have hx:left[next k % left.length]?=some left[next k % left.length]:=List.getElem?_eq_getElem hi;rw[hx];dsimp only;refine(ih (k+1) _ _ ?_).trans ?_
   ·rw[List.length_eraseIdx,if_pos hi];omega
   ·rw[Array.toList_push,List.append_assoc];exact List.Perm.append_left _ (gy left _ _ hx).symm
theorem yH(next:Nat->Nat)(xs:Array G):(pickOrder next xs).toList.Perm xs.toList:=by
 have:=EN next xs.size 0 xs.toList #[] (by simp)
 exact this
section
variable{A:Around}{E:Value->Shared->Prop}
theorem kN{G:Type}:∀(n:Nat) (xs:List G) (s:Shared) (Q:List G->Shared->Prop),n=xs.length->(∀ys d,ys.Perm xs->Q ys { s with drawn:=d })->wpAny (model prog w) A (drawOrder n xs) Q E s
 |0,xs,s,Q,hn,h=>by
  have:xs=[]:=List.length_eq_zero_iff.mp hn.symm;subst this;exact wpAny_pure (h [] s.drawn (List.Perm.refl _))
 |n+1,[],s,Q,hn,h=>by simp at hn
 |n+1,x::xs,s,Q,hn,h=>by
  have step:∀(K:Nat->Sem (List G)),(∀i d,i<(x::xs).length->wpAny (model prog w) A (K i) Q E { s with drawn:=d })->wpAny (model prog w) A (choose .order (x::xs).length >>= K) Q E s:=λ K hK=>by
   refine wpAny_bind λ Γ p Vt=>?_;refine⟨by simp,?_⟩;exact hK _ _ (Nat.mod_lt _ (by simp))
  show wpAny _ _ (choose .order (x::xs).length >>= _) _ _ _;refine step _ λ i d hi=>?_;have hx:(x::xs)[i]?=some (x::xs)[i]:=List.getElem?_eq_getElem hi;rw[hx];dsimp only;refine wpAny_bind (kN n _ _ _ ?_ λ ys d' hp=>wpAny_pure (h _ d' ?_))
  ·rw[List.length_eraseIdx,if_pos hi];simp at hn ⊢;exact hn
  ·exact(List.Perm.cons _ hp).trans (gy _ _ _ hx).symm
end
theorem t6:Manifest.owners.lookup (String.ofList ['r','o','t','a','r','e','t','i','_','t','e','s'].reverse)=some Manifest.sig_set_iterator:=by kernel_rfl
theorem eU:Slot "set_iterator" "__next__" "set_iterator.__next__":=
 .of (owner:="set_iterator") (n:="__next__") (by rw[typeLookup_type,builtinLookup_eq_fast];kernel_rfl) (by decide +kernel) (by decide +kernel) (by decide +kernel)
  (by first | exact .inl (by decide +kernel) | exact .inr (by decide +kernel)) (by rw[isSubtype_type];kernel_rfl)
theorem lK:entryFor table "set_iterator.__next__"=some Builtin.«set_iterator.__next__»:=entryFor_of_tree (by kernel_rfl)
theorem n0:entryFor table "set.__iter__"=some Builtin.«frozenset.__iter__»:=
 entryFor_alias (id':="frozenset.__iter__") (by kernel_rfl) rfl (by decide +kernel) (by kernel_rfl)
theorem mL(a:Value):argsOk "set_iterator.__next__" ⟨[a],[]⟩:=by
 unfold argsOk;rw[signature?_of (id:="set_iterator.__next__") (n:=['_','_','t','x','e','n','_','_']) (o:=['r','o','t','a','r','e','t','i','_','t','e','s']) (by kernel_rfl) t6];kernel_rfl
noncomputable abbrev Md:=Option (Addr×List Nat)
noncomputable def jR(a:Addr)(es:Array (Int×Value))(ep:Nat):Md->List (Int×Value)
 |none=>bif FT then(pickOrder (w.params.setOrder a ep) es).toList else es.toList
 |some x=>x.2.filterMap (es[·]?)
noncomputable abbrev xX(h:Heap)(I:Addr)(first:Value)(i:Nat)(a:Addr)(n ep:Nat):Prop:=
 h.get? I=some { cls:=.type "set_iterator",dict:=none,data:=.fields #[first,rawInt (i:Int),.ref a,rawInt (n:Int),rawInt (ep:Int)],slots:=#[] }
noncomputable def slotAt(t:SetTable):Nat->Nat
 |0=>0
 |i+1=>t.place.getD i 0+1
noncomputable def An(t:SetTable)(i:Nat):Nat:=bif FT then 0 else slotAt t i
noncomputable def Hz(t:SetTable)(i:Nat):Md->Value
 |none=>rawInt (An t i)
 |some x=>.ref x.1
noncomputable def JX(h:Heap)(I:Addr)(es:Array (Int×Value))(t:SetTable):Md->Prop
 |none=>FT=false->(!t.plain && decide (es.size > 1))=false
 |some x=>x.1≠I/\h.get? x.1=some (eX (x.2.map fun(p:Nat)=>rawInt (p:Int)) 0)/\x.2.Perm (List.range es.size)
structure uI(h:Heap)(I a:Addr)(es:Array (Int×Value))(ep:Nat)(t:SetTable)(md:Md)(i:Nat):Prop where
 set:∃o,h.get? a=some o/\o.data=.set es ep t
 fits:t.fits es.size=true
 ne:a≠I
 tb:TB t
 obj:xX h I (Hz t i md) i a es.size ep
 mode:JX h I es t md
theorem uI.keep{h':Heap}{md:Md}(x:uI h I a es ep t md i)(hI:∀o,h.get? I=some o->h'.get? I=some o)(ha:∀o,h.get? a=some o->h'.get? a=some o)
  (hT:∀T pl,md=some (T,pl)->∀o,h.get? T=some o->h'.get? T=some o):uI h' I a es ep t md i:=by
 refine⟨(by obtain⟨o,h1,h2⟩:=x.set;exact⟨o,ha o h1,h2⟩),x.fits,x.ne,x.tb,hI _ x.obj,?_⟩;have m:=x.mode;cases md with
 |none=>exact m
 |some d=>exact⟨m.1,hT _ _ rfl _ m.2.1,m.2.2⟩
theorem uI.perm{md:Md}(x:uI h I a es ep t md i):(jR a es ep md).Perm es.toList:=by
 have m:=x.mode;cases md with
 |none=>
  show List.Perm (bif FT then _ else _) _;cases FT with
  |true=>exact yH _ _
  |false=>exact List.Perm.refl _
 |some d=>exact(m.2.2.filterMap _).trans (filterMap_getElem?_range es▸List.Perm.refl _)
end
section
open PySem PyProof.Rows
variable{a:Addr}
section
variable{A:Around}{E:Value->Shared->Prop}{s:Shared}
theorem j8{o:Obj}{es:Array (Int×Value)}{ep:Nat}{t:SetTable}{Q:Array (Int×Value)->Shared->Prop}(ho:s.heap.get? a=some o)(hd:o.data=.set es ep t)(hf:t.fits es.size=true)(h:Q es s):wpAny (model prog w) A (setEntries a) Q E s:=by
 unfold setEntries;exact wpAny_bind (wpAny_setState_of ho hd hf (wpAny_pure h))
theorem wa{xs:List Int}{Q:Value->Shared->Prop}(X:dO w s.heap a xs)
  (hQ:∀h' d I es ep t md,(∀b o,s.heap.get? b=some o->h'.get? b=some o)->s.heap.get? I=none->(∀T pl,md=some (T,pl)->s.heap.get? T=none)->uI h' I a es ep t md 0->EL es xs->Q (.ref I) { s with heap:=h',drawn:=d }):wpAny (model prog w) A (pyIter (.ref a)) Q E s:=by
 refine bC λ k9=>?_;have hT:=X.typeIs;obtain⟨o,es,ep,tb,ho,hex,hd,el,Ra,hf,Si⟩:=X;refine k9 ?_;have SY:=Heap.lt_size ho;refine wpAny_pyIter_slot hT F.slot_set_iter (wpAny_call_entry F.slot_set_iter hT n0 ?_ (F.args_set_iter_1 _));delta Builtin.«frozenset.__iter__» Builtin.Frozenset.slot0 Builtin.Frozenset.sizeOf;refine wpAny_bind (wpAny_bind (m:=slotArgs _ _ _) (wpAny_pure ?_));show wpAny _ _ (pure a) _ _ _;refine wpAny_pure ?_;refine wpAny_bind (wpAny_bind (j8 ho hd hf (wpAny_pure ?_)));refine wpAny_bind ?_;delta setDrawn;refine wpAny_bind (wpAny_setState_of ho hd hf ?_);delta setsByText;refine wpAny_bind (wpAny_bind (wpAny_askSetting (wpAny_pure ?_)));show wpAny _ _ (pure (!FT && (!tb.plain && decide (es.size > 1)))) _ _ _;refine wpAny_pure ?_;have tail:∀(first:Value) (s₁:Shared) (d:Drawn) (md:Md),s₁.drawn=d->s₁.gens=s.gens->s₁.toks=s.toks->s₁.os=s.os->s.heap.objs.size<=s₁.heap.objs.size->(∀b ob,s.heap.get? b=some ob->s₁.heap.get? b=some ob)->first=Hz tb 0 md->(∀T pl,md=some (T,pl)->s.heap.get? T=none/\T<s₁.heap.objs.size)->JX s₁.heap s₁.heap.objs.size es tb md->
   wpAny (model prog w) A.in1 (do ret (<-newFields "set_iterator" [first,rawInt 0,.ref a,rawInt (es.size:Int),rawInt (<-setEpoch a)])) (λ r s'=>∃v,r=.done (.ret v)/\∃T UB,s'.TypeIs v T/\typeLookup (.type T) "__next__"=pure (some UB)/\Q v s') E s₁:=λ first s₁ d md q1 q2 q3 q4 q5 kp q6 q7 q8=>by
  have Gf:=kp _ _ ho;refine wpAny_bind (wpAny_setEpoch_of Gf hd hf (wpAny_bind (wpAny_newObj_type ?_ (by size_fits))));have yu:∀b ob,s₁.heap.get? b=some ob->(s₁.heap.push { cls:=.type "set_iterator",dict:=none,data:=.fields #[first,rawInt 0,.ref a,rawInt (es.size:Int),rawInt (ep:Int)],slots:=#[] }).get? b=some ob:=λ b ob q=>Heap.get?_push_of_some _ q;refine wpAny_pure ⟨_,rfl,"set_iterator",_,⟨_,Heap.get?_push_size _ rfl,rfl⟩,eU.lookup,?_⟩;cases s₁;cases q1;cases q2;cases q3;cases q4;refine hQ _ _ _ es ep tb md (λ b ob q=>yu b ob (kp b ob q)) (Heap.get?_none_of_le q5) (λ T pl q=>(q7 T pl q).1) ⟨⟨o,yu _ _ Gf,hd⟩,hf,Nat.ne_of_lt (Nat.lt_of_lt_of_le SY q5),Si,q6▸Heap.get?_push_size _ rfl,?_⟩ el;cases md with
  |none=>exact q8
  |some x=>exact⟨q8.1,yu _ _ q8.2.1,q8.2.2⟩
 cases hb:(!FT && (!tb.plain && decide (es.size > 1))) with
 |true=>
  simp only[if_true];refine wpAny_bind (kN es.size (List.range es.size) s _ (List.length_range).symm λ pl d hp=>?_);have CG:(pl.map fun(i:Nat)=>rawInt (i:Int)).length<=sizeLine:=by
   rw[List.length_map,hp.length_eq,List.length_range];exact Nat.le_trans (Nat.le_trans el.le Ra) (by decide)
  refine wpAny_bind (wpAny_newTuple ?_ CG);have HY:(s.heap.push { cls:=.type "tuple",data:=.seq (pl.map fun(i:Nat)=>rawInt (i:Int)).toArray }).objs.size=s.heap.objs.size+1:=Heap.size_push ..;exact tail _ { s with heap:=s.heap.push { cls:=.type "tuple",data:=.seq (pl.map fun(i:Nat)=>rawInt (i:Int)).toArray },drawn:=d } d (some (s.heap.objs.size,pl)) rfl rfl rfl rfl (HY▸Nat.le_succ _) (λ b ob q=>Heap.get?_push_of_some _ q) rfl (λ T Vw q=>by cases q;exact⟨aY _,HY▸Nat.lt_succ_self _⟩) ⟨Nat.ne_of_lt (HY▸Nat.lt_succ_self _),Heap.get?_push_size _ rfl,hp⟩
 |false=>
  simp only[Bool.false_eq_true,if_false];refine wpAny_bind (wpAny_pure (tail _ s s.drawn none rfl rfl rfl rfl (Nat.le_refl _) (λ _ _ q=>q) ?_ (λ _ _ q=>by cases q) λ q=>?_))
  ·show _=rawInt ((bif FT then 0 else slotAt tb 0:Nat):Int);cases FT<;>rfl
  ·rw[q] at hb;exact hb
end
end
section
open PySem PyProof.Rows
variable{M:Model}{c:Prop}{h:Heap}{n:Nat}{o:Obj}{β:Type}{x y:Sem β}
section
variable{A:Around}{E:Value->Shared->Prop}{s:Shared}
variable{I a:Addr}{es:Array (Int×Value)}{ep:Nat}{t:SetTable}{md:Md}{i:Nat}
theorem ml[Decidable c]{Q:β->Shared->Prop}(h:¬c)(k:wpAny M A y Q E s):wpAny M A (if c then x else y) Q E s:=by rw[if_neg h];exact k
theorem Cd[Decidable c]{Q:β->Shared->Prop}(h:c)(k:wpAny M A x Q E s):wpAny M A (if c then x else y) Q E s:=by rw[if_pos h];exact k
theorem uU(T:TB t)(hf:t.fits es.size=true)(hi:i<=es.size):SetTable.below t.place (slotAt t i)=i/\t.place.size=es.size:=by
 have Gg:t.place.size=es.size:=eq_of_beq (az hf).1;refine⟨?_,Gg⟩;cases i with
 |zero=>exact uV T.Po
 |succ j=>
  have hj:j<t.place.size:=Gg▸hi;have:=uT T.Po hj;show SetTable.below t.place (t.place.getD j 0+1)=j+1;rwa [show t.place.getD j 0=t.place[j] from dif_pos hj]
theorem wb{Q:Option (Value×Nat)->Shared->Prop}(ho:s.heap.get? a=some o)(hd:o.data=.set es ep t)(hf:t.fits es.size=true)(T:TB t)(hp:FT=false->(!t.plain && decide (es.size > 1))=false)(hi:i<=es.size)
  (h:Q ((jR a es ep none)[i]?.map λ e=>(e.2,An t (i+1))) s):wpAny (model prog w) A (setNext a (An t i) i ep) Q E s:=by
 delta setNext;refine wpAny_bind (wpAny_setState_of ho hd hf ?_);dsimp only;delta setsByText;refine wpAny_bind (wpAny_bind (wpAny_askSetting (wpAny_pure ?_)));unfold jR An at *;have h0:=T.led;show wpAny _ _ (if FT=true then _ else _) _ _ _;cases F5:FT with
 |true=>
  rw[F5] at h;refine Cd rfl (ml (by simp) ?_);delta setWalk setsByText;refine wpAny_bind (wpAny_bind (wpAny_setState_of ho hd hf ?_));refine wpAny_bind (wpAny_bind (wpAny_askSetting (wpAny_pure ?_)));refine Cd F5 ?_;refine wpAny_bind (wpAny_askSetting (wpAny_pure (wpAny_pure ?_)));have h:Q (Option.map (λ e=>(e.2,0)) ((pickOrder (w.params.setOrder a ep) es).toList[i]?)) s:=h;rw[Array.getElem?_toList] at h;exact h
 |false=>
  rw[F5] at h h0;refine ml (by simp) (ml (λ q=>by cases(hp F5).symm.trans q) ?_);show wpAny _ _ ((if(!t.led && !es.isEmpty)=true then unsupported "set:maker-not-led" else pure ()) >>= _) _ _ _;rw[h0];refine wpAny_bind (wpAny_pure ?_);obtain⟨q1,q2⟩:=uU T hf hi;rw[show SetTable.below t.place (bif false then 0 else slotAt t i)=i from q1];refine wpAny_pure ?_;have h:Q (Option.map (λ e=>(e.2,t.place.getD i 0+1)) (es.toList[i]?)) s:=h;rw[Array.getElem?_toList] at h;refine Classical.byCases (p:=i<es.size) (λ hl=>?_) λ hl=>?_
  ·rw[Array.getElem?_eq_getElem hl,Option.map_some,show t.place.getD i 0=t.place[i]'(q2▸hl) from dif_pos (q2▸hl)] at h;rw[Array.getElem?_eq_getElem hl,Array.getElem?_eq_getElem (q2▸hl:i<t.place.size)];exact h
  ·rw[Array.getElem?_eq_none (Nat.le_of_not_lt hl)] at h ⊢;exact h
theorem Hv{G:Type}{f:G->Option β}{l:List G}(h:∀x∈l,∃y,f x=some y)(i:Nat):(l.filterMap f)[i]?=(l[i]?).bind f:=by
 induction l generalizing i with
 |nil=>rfl
 |cons x l ih=>
  obtain⟨y,hy⟩:=h x List.mem_cons_self;rw[List.filterMap_cons_some hy];cases i with
  |zero=>exact hy.symm
  |succ i=>exact ih (λ z hz=>h z (List.mem_cons_of_mem _ hz)) i
theorem BG{x:Value}(hI:xX h I x i a n ep)(f:Value):xX (h.update I (Obj.mapFields (·.setIfInBounds 0 f))) I f i a n ep:=
 Heap.get?_update_self (Obj.mapFields (·.setIfInBounds 0 f)) hI rfl
theorem xI{x:Value}(hI:xX h I x i a n ep):xX (h.update I (Obj.mapFields (·.setIfInBounds 1 (rawInt ((i:Int)+1))))) I x (i+1) a n ep:=
 Heap.get?_update_self (Obj.mapFields (·.setIfInBounds 1 (rawInt ((i:Int)+1)))) hI rfl
theorem xJ{Q:β->Shared->Prop}{Q':Option Value->Shared->Prop}(hh:A.handled=none)(h:∀h',(∀b o,s.heap.get? b=some o->h'.get? b=some o)->Q' none { s with heap:=h' }) :
  wpAny (model prog w) A.in1 (do raiseNew (<-newExc (.type "StopIteration") []):Sem β) Q (λ e s'=>wpAny (model prog w) A (do if<-isInstance e (.type "StopIteration") then pure none else throw e) Q' E s') s:=by
 refine wpAny_bind ?_;simp only[newExc,newTuple];refine wpAny_bind (wpAny_newObj_type ?_ (by size_fits));refine wpAny_bind (m:=firstArgMember _ _) (wpAny_of_eq (a:=Value.none) (by first | rfl | (simp only[firstArgMember];rfl)) ?_);refine wpAny_newObj_type ?_ (by size_fits);simp only[raiseNew];refine wpAny_bind (wpAny_handled ?_);rw[show A.in1.handled=none from hh];refine wpAny_bind (wpAny_pure (wpAny_throw ?_));refine wpAny_bind (wpAny_isInstance (T:="StopIteration") (b:=true) ⟨_,Heap.get?_push_size _ rfl,rfl⟩ isSubtype_stop ?_);exact wpAny_pure (h _ λ b o q=>Heap.get?_push_of_some _ (Heap.get?_push_of_some _ q))
theorem d9{b:Addr}{f:Obj->Obj}(hb:b≠I)(q:h.get? b=some o):(h.update I f).get? b=some o:=(Heap.get?_update_other _ _ (Ne.symm hb)).trans q
theorem uI.next{h':Heap}(X:uI h I a es ep t md i)(kp:∀b o,b≠I->h.get? b=some o->h'.get? b=some o)(q:xX h' I (Hz t (i+1) md) (i+1) a es.size ep):uI h' I a es ep t md (i+1):=by
 refine⟨(by obtain⟨o,h1,h2⟩:=X.set;exact⟨o,kp _ o X.ne h1,h2⟩),X.fits,X.ne,X.tb,q,?_⟩;have m:=X.mode;cases md with
 |none=>exact m
 |some d=>exact⟨m.1,kp _ _ m.1 m.2.1,m.2.2⟩
end
section
namespace l4
noncomputable section
def P(A:Around)(E:Value->Shared->Prop)(s:Shared)(I:Addr)(t:SetTable)(Q:Option Value->Shared->Prop):Prop:=∀(a:Addr) (es:Array (Int×Value)) (ep:Nat) (md:Md) (i:Nat) (hh:A.handled=none) (X:uI s.heap I a es ep t md i) (hi:i<=es.size) (hS:∀e h',(jR a es ep md)[i]?=some e->(∀b o,b≠I->s.heap.get? b=some o->h'.get? b=some o)->uI h' I a es ep t md (i+1)->Q (some e.2) { s with heap:=h' }) (hN:∀h',(jR a es ep md)[i]?=none->(∀b o,b≠I->s.heap.get? b=some o->h'.get? b=some o)->Q none { s with heap:=h' }),wpAny (model prog w) A (pyNext (.ref I)) Q E s
def xe:(Around)×(Value->Shared->Prop)×(Shared)×(Addr)×(SetTable)×(Option Value->Shared->Prop):=@Classical.epsilon _ ⟨({},default,{},default,default,default)⟩ λ x=>¬P x.1 x.2.1 x.2.2.1 x.2.2.2.1 x.2.2.2.2.1 x.2.2.2.2.2
def A:Around:=xe.1
def E:Value->Shared->Prop:=xe.2.1
def s:Shared:=xe.2.2.1
def I:Addr:=xe.2.2.2.1
def t:SetTable:=xe.2.2.2.2.1
def Q:Option Value->Shared->Prop:=xe.2.2.2.2.2
theorem core:P A E s I t Q:=λ a es ep md i hh X hi hS hN=>by
 refine bC λ k9=>?_;have hT:s.TypeIs (.ref I) "set_iterator":=⟨_,X.obj,rfl⟩;obtain⟨o,ho,hd⟩:=X.set;refine k9 ?_;unfold pyNext;refine wpAny_bind (wpAny_attempt (wpAny_callSpecial?_slot (name:=Str.ofString "__next__") hT eU (wpAny_call_entry eU hT lK ?_ (mL _))));unfold Builtin.«set_iterator.__next__»;refine wpAny_bind (m:=slotArgs _ _ _) (wpAny_pure ?_);refine wpAny_bind (wpAny_fieldsOf X.obj rfl ?_);cases md with
 |none=>
  refine wpAny_bind (j8 ho hd X.fits (ml (by simp) ?_));refine wpAny_bind (wb (ep:=ep) ho hd X.fits X.tb X.mode hi ?_);cases hq:(jR a es ep none)[i]? with
  |some e=>
   refine wpAny_bind (wpAny_setField (i:=0) X.obj rfl (Nat.le_of_ble_eq_true rfl) ?_);have h1:=BG X.obj (rawInt (An t (i+1):Int));refine wpAny_bind (wpAny_setField (i:=1) h1 rfl (Nat.le_of_ble_eq_true rfl) ?_);exact wpAny_pure ⟨_,rfl,wpAny_pure (hS e _ hq (λ b o hb q=>d9 hb (d9 hb q)) (X.next (λ b o hb q=>d9 hb (d9 hb q)) (xI h1)))⟩
  |none=>
   refine wpAny_bind (wpAny_setField (i:=2) X.obj rfl (Nat.le_of_ble_eq_true rfl) ?_);exact xJ hh λ h' hk=>hN h' hq λ b ob hb q=>hk b ob (d9 hb q)
 |some d=>
  obtain⟨m1,m2,m3⟩:=X.mode;refine wpAny_bind (j8 ho hd X.fits (ml (by simp) ?_));refine wpAny_bind (wpAny_seqItems m2 rfl ?_);have oh:∀p∈d.2,∃e,es[p]?=some e:=λ p hp=>⟨_,Array.getElem?_eq_getElem (List.mem_range.mp (m3.mem_iff.mp hp))⟩;have hg:(jR a es ep (some d))[i]?=d.2[i]?.bind (es[·]?):=Hv oh i;dsimp only;rw[List.getElem?_toArray,Int.toNat_natCast,List.getElem?_map];cases hp:d.2[i]? with
  |some p=>
   obtain⟨e,he⟩:=oh p (List.mem_of_getElem? hp);rw[hp] at hg;unfold setNextDrawn;refine wpAny_bind (wpAny_bind (wpAny_setState_of ho hd X.fits (ml (by simp) ?_)));dsimp only;rw[show es[((p:Int)).toNat]?=some e from he];refine wpAny_pure (wpAny_bind (wpAny_setField (i:=1) X.obj rfl (Nat.le_of_ble_eq_true rfl) ?_));exact wpAny_pure ⟨_,rfl,wpAny_pure (hS e _ (hg.trans he) (λ b o hb q=>d9 hb q) (X.next (λ b o hb q=>d9 hb q) (xI X.obj)))⟩
  |none=>
   rw[hp] at hg;refine wpAny_bind (wpAny_setField (i:=0) X.obj rfl (Nat.le_of_ble_eq_true rfl) ?_);refine wpAny_bind (wpAny_setField (i:=2) (BG X.obj _) rfl (Nat.le_of_ble_eq_true rfl) ?_);exact xJ hh λ h' hk=>hN h' hg λ b ob hb q=>hk b ob (d9 hb (d9 hb q))
end
end l4
variable{A:Around}{E:Value->Shared->Prop}{s:Shared}
variable{I a:Addr}{es:Array (Int×Value)}{ep:Nat}{t:SetTable}{md:Md}{i:Nat}
theorem Ey{Q:Option Value->Shared->Prop}(hh:A.handled=none)(X:uI s.heap I a es ep t md i)(hi:i<=es.size)
  (hS:∀e h',(jR a es ep md)[i]?=some e->(∀b o,b≠I->s.heap.get? b=some o->h'.get? b=some o)->uI h' I a es ep t md (i+1)->Q (some e.2) { s with heap:=h' })
  (hN:∀h',(jR a es ep md)[i]?=none->(∀b o,b≠I->s.heap.get? b=some o->h'.get? b=some o)->Q none { s with heap:=h' }):wpAny (model prog w) A (pyNext (.ref I)) Q E s:=aU (Q:=λ x:(Around)×(Value->Shared->Prop)×(Shared)×(Addr)×(SetTable)×(Option Value->Shared->Prop)=>l4.P x.1 x.2.1 x.2.2.1 x.2.2.2.1 x.2.2.2.2.1 x.2.2.2.2.2) l4.core (A,E,s,I,t,Q) a es ep md i hh X hi hS hN
end
end
section
open PySem PyProof.Rows
variable{step:V->ak->ae->Res}{y:Str}{G:Type}{O:ak}{a b:List G}
section
variable{Y:Or}
theorem vm(hs:∀x O U o aC aj,step x O U=some (o,aC,aj)->aC y=O y):∀(xs:List V) (O:ak) (U:ae) (o:Out) (aC:ak) (aj:ae),forL step xs O U=some (o,aC,aj)->aC y=O y:=by
 intro xs
 induction xs with
 |nil=>
  intro O U o aC aj h;cases h;rfl
 |cons x xs ih=>
  intro O U o aC aj h;obtain⟨oa,fB,cy,h1,h2⟩:=zl h;refine Eq.trans ?_ (hs x O U oa fB cy h1);cases oa with
  |nx=>exact ih fB cy o aC aj h2
  |ct=>exact ih fB cy o aC aj h2
  |_=>cases h2<;>rfl
theorem vn{l:Nat}(hs:∀x O U o aC aj,step x O U=some (o,aC,aj)->aC y=O y):∀(n i:Nat) (O:ak) (U:ae) (o:Out) (aC:ak) (aj:ae),gA step l n i O U=some (o,aC,aj)->aC y=O y:=by
 intro n
 induction n with
 |zero=>
  intro i O U o aC aj h;exact no h
 |succ n ih=>
  intro i O U o aC aj h;obtain⟨ys,_,h⟩:=n6 h;cases hx:ys[i]? with
  |none=>rw[hx] at h;cases h;rfl
  |some x=>
   rw[hx] at h;obtain⟨oa,fB,cy,h1,h2⟩:=zl h;refine Eq.trans ?_ (hs _ O U oa fB cy h1);cases oa with
   |nx=>exact ih (i+1) fB cy o aC aj h2
   |ct=>exact ih (i+1) fB cy o aC aj h2
   |_=>cases h2<;>rfl
theorem mr{t:Expr}{x:V}{aC:ak}(h:ba t x O=some aC)(hy:y∉ay t):aC y=O y:=by
 obtain⟨_,_,h2⟩:=lD t x O aC O h;rcases h2 y with ⟨q,_⟩ | ⟨_,q,_⟩
 ·exact absurd q hy
 ·exact q
noncomputable def MP(Y:Or)(st:Stmt):Prop:=∀O U o aC aj,x1 Y st O U=some (o,aC,aj)->∀y,y∉stored st->aC y=O y
noncomputable def Frs(Y:Or)(b:List Stmt):Prop:=∀O U o aC aj,xs Y b O U=some (o,aC,aj)->∀y,y∉bp b->aC y=O y
theorem vM{y:G}(h:y∉a++b):y∉a:=λ q=>h (List.mem_append_left _ q)
theorem Bn{y:G}(h:y∉a++b):y∉b:=λ q=>h (List.mem_append_right _ q)
end
section
namespace n8
noncomputable section
def P(Y:Or)(t:Expr)(it:Expr)(body:List Stmt)(p:Pos):Prop:=∀(pJ:List Stmt) (B:Frs Y body),MP Y (.For t it body pJ p)
def xe:(Or)×(Expr)×(Expr)×(List Stmt)×(Pos):=@Classical.epsilon _ ⟨(⟨λ _ _=>none,λ _ _ _=>none,λ _=>none,λ _=>false,λ _=>false,default,0⟩,default,default,default,default)⟩ λ x=>¬P x.1 x.2.1 x.2.2.1 x.2.2.2.1 x.2.2.2.2
def Y:Or:=xe.1
def t:Expr:=xe.2.1
def it:Expr:=xe.2.2.1
def body:List Stmt:=xe.2.2.2.1
def p:Pos:=xe.2.2.2.2
theorem core:P Y t it body p:=λ pJ B=>λ O U o aC aj h y hy=>by
 cases pJ with
 |cons a b=>exact no h
 |nil=>
  obtain⟨sr,af,h1,h2⟩:=dy h;have ot:∀x O U o aC aj,((ba t x O).bind λ O=>xs Y body O U)=some (o,aC,aj)->aC y=O y:=λ x O U o aC aj hq=>by
   obtain⟨fB,g1,g2⟩:=a9 hq;exact(B fB U o aC aj g2 y (vM (Bn hy))).trans (mr g1 (vM hy))
  cases sr with
  |items ys=>exact vm ot ys O af o aC aj h2
  |obj l=>exact vn ot _ 0 O af o aC aj h2
  |tm ks=>
   have Lf:forget (ay t++bp body) O y=O y:=if_neg λ q=>(List.mem_append.mp (List.contains_iff_mem.mp q)).elim (vM hy) (vM (Bn hy));cases af with
   |cons a b=>exact no h2
   |nil=>
    obtain⟨_,r,_,h3⟩:=tn h2;cases r with
    |none=>cases h3;exact Lf
    |some b=>cases h3;exact Lf
end
end n8
variable{Y:Or}
theorem Hw{t it:Expr}{body pJ:List Stmt}{p:Pos}(B:Frs Y body):MP Y (.For t it body pJ p):=aU (Q:=λ x:(Or)×(Expr)×(Expr)×(List Stmt)×(Pos)=>n8.P x.1 x.2.1 x.2.2.1 x.2.2.2.1 x.2.2.2.2) n8.core (Y,t,it,body,p) pJ B
theorem rK{n:Nat}(VC:∀st,oM n st=true->MP Y st):∀(b:List Stmt),b.all (oM n)=true->Frs Y b:=by
 intro b
 induction b with
 |nil=>
  intro _;exact λ O U o aC aj h y hy=>by cases h;rfl
 |cons st b ih=>
  intro hs;exact λ O U o aC aj h y hy=>by
   obtain⟨oa,fB,cy,h1,h2⟩:=zl h;refine Eq.trans ?_ (VC st (az hs).1 O U oa fB cy h1 y (vM hy));cases oa with
   |nx=>exact ih (az hs).2 fB cy o aC aj h2 y (Bn hy)
   |_=>cases h2;rfl
theorem KU(n:Nat)(st:Stmt)(hs:oM n st=true):MP Y st:=by
 induction n generalizing st with
 |zero=>exact bt hs
 |succ n ih=>
  cases st with
  |If t b pJ p=>
   intro O U o aC aj h y hy;obtain⟨c,af,h1,h2⟩:=dy h;cases c with
   |true=>exact rK ih b (az hs).1 O af o aC aj h2 y (vM hy)
   |false=>exact rK ih pJ (az hs).2 O af o aC aj h2 y (Bn hy)
  |For t it body pJ p=>exact Hw (rK ih body hs)
  |Return v p=>
   cases v with
   |none=>exact bt hs
   |some e=>
    intro O U o aC aj h y hy;obtain⟨v,af,h1,h⟩:=dy h;cases h;rfl
  |_=>exact bt hs
theorem Hx(b:List Stmt)(h:lp b=true):Frs Y b:=rK (KU 6) b h
inductive R8(o:Out)(U:ae)(q r:Option Bool):Prop
 |nx (e1:o=.nx) (e2:U=[]) (e:r=q)
 |rt (b:Bool) (e1:o=.rt (.d (.bool b))) (e2:U=[]) (e:r=some b) (h:q=none\/q=some b)
theorem Qg{o:Out}{U:ae}{q r:Option Bool}(h:Qh o U q=some r):R8 o U q r:=by
 by_cases hs:U.isEmpty=true
 ·have h:=(if_pos hs).symm.trans h;have hs:=List.isEmpty_iff.mp hs;cases o with
  |nx=>exact .nx rfl hs (Option.some.inj h).symm
  |rt v=>
   cases v with
   |d x=>
    cases x with
    |bool b=>
     refine Classical.byCases (p:=q=none\/q=some b) (λ hq=>?_) (λ hq=>?_)
     ·exact .rt b rfl hs (Option.some.inj ((if_pos hq).symm.trans h)).symm hq
     ·exact no ((if_neg hq).symm.trans h)
    |_=>exact no h
   |_=>exact no h
  |_=>exact no h
 ·exact no ((if_neg hs).symm.trans h)
theorem Al:∀(ks:List Int) (r:Option Bool),pM step O ks=some r->∀x∈ks,∃o ρ1,step (.d (.int x)) O []=some (o,ρ1,[])/\(o=.nx\/∃b,o=.rt (.d (.bool b))/\r=some b):=by
 intro ks
 induction ks with
 |nil=>
  intro r h x hx;exact by cases hx
 |cons k ks ih=>
  intro r h x hx;obtain⟨o,ρ1,σ1,h1,h⟩:=zl h;obtain⟨q,h2,h3⟩:=a9 h;have ih:=ih q h2;cases Qg h3 with
  |nx e1 e2 e=>
   subst e1;subst e2;subst e;rcases List.mem_cons.mp hx with rfl | hx
   ·exact⟨_,ρ1,h1,.inl rfl⟩
   ·exact ih x hx
  |rt b e1 e2 e hq=>
   subst e1;subst e2;subst e;rcases List.mem_cons.mp hx with rfl | hx
   ·exact⟨_,ρ1,h1,.inr ⟨b,rfl,rfl⟩⟩
   ·obtain⟨o',aC,q1,q2⟩:=ih x hx;refine⟨o',aC,q1,q2.imp id fun⟨c,q2,q3⟩=>⟨c,q2,?_⟩⟩;rcases hq with e | e
    ·exact by cases e.symm.trans q3
    ·exact e.symm.trans q3
theorem Am:∀(ks:List Int) (b:Bool),pM step O ks=some (some b)->∃x∈ks,∃ρ1,step (.d (.int x)) O []=some (.rt (.d (.bool b)),ρ1,[]):=by
 intro ks
 induction ks with
 |nil=>
  intro b h;exact by cases Option.some.inj h
 |cons k ks ih=>
  intro b h;refine bC λ k9=>?_;obtain⟨o,ρ1,σ1,h1,h⟩:=zl h;obtain⟨q,h2,h3⟩:=a9 h;refine k9 ?_;cases Qg h3 with
  |nx e1 e2 e=>
   refine bC λ k9=>?_;subst e;obtain⟨x,hx,q⟩:=ih b h2;refine k9 ?_;exact⟨x,List.mem_cons_of_mem _ hx,q⟩
  |rt c e1 e2 e hq=>
   subst e1;subst e2;cases e;exact⟨k,List.mem_cons_self,ρ1,h1⟩
end
end
section
open PySem PyProof.Rows
section
variable{J VD:Addr->Prop}{A:Around}{env:Env}
variable{O aC bb:ak}{U aj af ar bL:ae}{s s' lA:Shared}{H aB dF:bB}{e f t it:Expr}{pos:Pos}{k:Nat}{o:Out}
noncomputable def SW(I:Addr)(md:Md)(b:Addr):Prop:=b=I\/∃pl,md=some (b,pl)
inductive NL(J:Addr->Prop)(env:Env)(step:V->ak->ae->Res)(eV:Shared)(df:bB)(dg:ae)(a I:Addr)(es:Array (Int×Value))(ep:Nat)(tb:SetTable)(md:Md)(jW:ak)(n:Nat)(s:Shared):Prop
 |mk (i:Nat) (aB:bB) (m cm:Str->Option Value) (le:i<=es.size) (hn:n=es.size-i) (L:iJ J (SW I md) env eV df dg s jW [] aB m cm) (it:uI s.heap I a es ep tb md i)
  (seen:∀j x e tk,j<i->(jR a es ep md)[j]?=some e->e.2=.int x tk->∃ρ1,step (.d (.int x)) jW []=some (.nx,ρ1,[]))
theorem mz{xs:List Str}{x:Str}{v:V}(h:forget xs O x=some v):x∉xs/\O x=some v:=by
 by_cases q:xs.contains x=true
 ·exact no ((if_pos q).symm.trans h)
 ·exact⟨λ z=>q (List.contains_iff_mem.mpr z),(if_neg q).symm.trans h⟩
end
section
namespace mq
noncomputable section
def P(J:Addr->Prop)(A:Around)(env:Env)(O:ak)(U:ae)(t:Expr)(it:Expr)(pos:Pos)(k:Nat)(Y:Or)(body:List Stmt)(ks:List Int):Prop:=∀(r:Option Bool) (hE:aN env) (hA:cZ A k) (dQ:fP it=true) (DZ:eY t) (iW:∀z∈ay t,bE env z) (Ju:lp body=true) (og:c7 prog w hB C J A env it O U (.fs ks) []) (hf:pM (λ x O U=>(ba t x O).bind λ O=>xs Y body O U) (forget (ay t++bp body) O) ks=some r) (iV:∀J',∀fB cy oa iG cR,xs Y body fB cy=some (oa,iG,cR)->XS prog w hB C J' A env (execs body env) fB cy oa iG cR),XS prog w hB C J A env (exec (.For t it body [] pos) env) O U (rL (forget (ay t++bp body) O) r).1 (forget (ay t++bp body) O) []
def xe:(Addr->Prop)×(Around)×(Env)×(ak)×(ae)×(Expr)×(Expr)×(Pos)×(Nat)×(Or)×(List Stmt)×(List Int):=@Classical.epsilon _ ⟨(default,{},default,default,default,default,default,default,default,⟨λ _ _=>none,λ _ _ _=>none,λ _=>none,λ _=>false,λ _=>false,default,0⟩,default,default)⟩ λ x=>¬P x.1 x.2.1 x.2.2.1 x.2.2.2.1 x.2.2.2.2.1 x.2.2.2.2.2.1 x.2.2.2.2.2.2.1 x.2.2.2.2.2.2.2.1 x.2.2.2.2.2.2.2.2.1 x.2.2.2.2.2.2.2.2.2.1 x.2.2.2.2.2.2.2.2.2.2.1 x.2.2.2.2.2.2.2.2.2.2.2
def J:Addr->Prop:=xe.1
def A:Around:=xe.2.1
def env:Env:=xe.2.2.1
def O:ak:=xe.2.2.2.1
def U:ae:=xe.2.2.2.2.1
def t:Expr:=xe.2.2.2.2.2.1
def it:Expr:=xe.2.2.2.2.2.2.1
def pos:Pos:=xe.2.2.2.2.2.2.2.1
def k:Nat:=xe.2.2.2.2.2.2.2.2.1
def Y:Or:=xe.2.2.2.2.2.2.2.2.2.1
def body:List Stmt:=xe.2.2.2.2.2.2.2.2.2.2.1
def ks:List Int:=xe.2.2.2.2.2.2.2.2.2.2.2
theorem core:P J A env O U t it pos k Y body ks:=λ r hE hA dQ DZ iW Ju og hf iV=>λ H s m cm Q E F R S h _=>by
 refine n7 dQ (og H s m cm _ E F R S λ x s₁ av g rx=>?_);obtain⟨a,rfl,S0,SI⟩:=rx;refine wa SI λ h₂ dd I es ep tb md OY hIn SU X0 el=>?_;have new:∀b,SW I md b->s₁.heap.get? b=none/\∃o,h₂.get? b=some o:=λ b hb=>by
  rcases hb with rfl | ⟨pl,rfl⟩
  ·exact⟨hIn,_,X0.obj⟩
  ·exact⟨SU b pl rfl,_,X0.mode.2.1⟩
 have SX:¬SW I md a:=λ q=>by
  obtain⟨ob,ho,_⟩:=SI.got;exact by cases(new a q).1.symm.trans ho
 have SV:¬JW J (SW I md) a:=λ q=>q.elim (λ q=>S0 (.inl q)) SX;obtain⟨Z,L0⟩:=iJ.start (W:=SW I md) (s₂:={ s₁ with heap:=h₂,drawn:=dd }) (O:=forget (ay t++bp body) O) F (R.less λ x v q=>(mz q).2) S g ⟨rfl,GX.refl _⟩ OY new;refine wpAny_runOwn (codeAny_forLoop_any (NL J env (λ x O U=>(ba t x O).bind λ O=>xs Y body O U) s H U a I es ep tb md (forget (ay t++bp body) O)) (λ n s' hI=>?_) (es.size-0)
  ⟨0,av,m,cm,Nat.zero_le _,rfl,L0,X0,λ j x e tk hj=>absurd hj (Nat.not_lt_zero _)⟩)
 refine bC λ k9=>?_;obtain⟨i,aB,m',cm',le,rfl,L,LU,seen⟩:=hI;refine k9 ?_;have pm:=LU.perm;refine Ey hA.handled LU le (λ e0 ha hv sO Xa=>?_) λ h' hv kp=>?_
 ·have hi:i<es.size:=Nat.lt_of_lt_of_le (List.getElem?_eq_some_iff.mp hv).1 (Nat.le_of_eq pm.length_eq);refine bC λ k9=>?_;have M1:=pm.mem_iff.mp (List.mem_of_getElem? hv);obtain⟨x,tk,rfl⟩:=el.el e0 M1;obtain⟨oa,iG,DX,Q3⟩:=Al ks r hf x ((el.mem x).mpr ⟨_,M1,tk,rfl⟩);obtain⟨fB,yW,Jv⟩:=a9 DX;refine k9 ?_;have ki:∀b,¬SW I md b->b≠I:=λ b q e=>q (.inl e);refine Bl DZ Xa.obj rfl rfl (by decide) (L.turn (x:=.d (.int x)) hE hA iW Z ⟨rfl,GX.refl _⟩ (λ b o hb ho=>sO b o (ki b hb) ho) (λ b hb=>?_) (RD.int x tk) yW (λ q=>by subst q;rcases Q3 with q | ⟨b,q,_⟩<;>cases q) (iV _ fB [] oa iG [] Jv) λ fl sc uB mc Cy Lc lW kw mv=>?_)
  ·refine Classical.byCases (p:=b=I) (λ q=>q▸⟨_,Xa.obj⟩) λ q=>?_;obtain⟨_,_,ob,ho⟩:=L.sr.jo b (.inr hb);exact⟨ob,sO b ob q ho⟩
  have Xc:uI sc.heap I a es ep tb md (i+1):=Xa.keep (λ o ho=>kw I o (.inl rfl) ho) (λ o ho=>mv.kp a o (λ q=>q.elim SV fun⟨_,_,q,_,_⟩=>by cases q) ho) λ T pl q o ho=>kw T o (.inr ⟨pl,q⟩) ho;have PY:iJ J (SW I md) env s H U sc (forget (ay t++bp body) O) [] uB mc Cy:=⟨Lc.same,Lc.aH,Lc.sr,Lc.fr,Lc.er.less λ y v q=>by
   have Q0:=(mz q).1;rw[Hx body Ju fB [] oa iG [] Jv y (Bn Q0),mr yW (vM Q0)];exact q⟩
  rcases Q3 with rfl | ⟨b,rfl,rfl⟩
  ·obtain rfl:fl=.next:=lW;refine⟨es.size-(i+1),Nat.sub_lt_sub_left hi (Nat.lt_succ_self i),i+1,uB,mc,Cy,hi,rfl,PY,Xc,λ j z e tz hj hz Rf=>?_⟩;rcases Nat.lt_succ_iff_lt_or_eq.mp hj with hj | rfl
   ·exact seen j z e tz hj hz Rf
   ·cases hv.symm.trans hz;cases Rf;exact⟨iG,DX⟩
  ·obtain⟨u,rfl,ru⟩:=lW;exact PY.out (o:=.rt (.d (.bool b))) (fl:=.ret u) Z ⟨u,rfl,ru⟩ (pz.refl _) (λ _ _ _ q=>q) h
 ·cases r with
  |none=>exact wpAny_execs_nil (L.out (o:=.nx) (fl:=.next) Z rfl ⟨rfl,GX.refl _⟩ (λ b o hb ho=>kp b o (λ q=>hb (.inl q)) ho) h)
  |some b=>
   exfalso;obtain⟨x,hx,ρ1,DX⟩:=Am ks b hf;obtain⟨e0,M1,tk,Ld⟩:=(el.mem x).mp hx;obtain⟨j,hj⟩:=List.mem_iff_getElem?.mp (pm.mem_iff.mpr M1);obtain⟨JH,hq⟩:=seen j x e0 tk (Nat.lt_of_lt_of_le (List.getElem?_eq_some_iff.mp hj).1 (List.getElem?_eq_none_iff.mp hv)) hj Ld;cases hq.symm.trans DX
end
end mq
variable{J VD:Addr->Prop}{A:Around}{env:Env}
variable{O aC bb:ak}{U aj af ar bL:ae}{s s' lA:Shared}{H aB dF:bB}{e f t it:Expr}{pos:Pos}{k:Nat}{o:Out}
theorem Fx{Y:Or}{body:List Stmt}{ks:List Int}{r:Option Bool}(hE:aN env)(hA:cZ A k)(dQ:fP it=true)(DZ:eY t)(iW:∀z∈ay t,bE env z)(Ju:lp body=true)
  (og:c7 prog w hB C J A env it O U (.fs ks) []) (hf:pM (λ x O U=>(ba t x O).bind λ O=>xs Y body O U) (forget (ay t++bp body) O) ks=some r)
  (iV:∀J',∀fB cy oa iG cR,xs Y body fB cy=some (oa,iG,cR)->XS prog w hB C J' A env (execs body env) fB cy oa iG cR):XS prog w hB C J A env (exec (.For t it body [] pos) env) O U (rL (forget (ay t++bp body) O) r).1 (forget (ay t++bp body) O) []:=aU (Q:=λ x:(Addr->Prop)×(Around)×(Env)×(ak)×(ae)×(Expr)×(Expr)×(Pos)×(Nat)×(Or)×(List Stmt)×(List Int)=>mq.P x.1 x.2.1 x.2.2.1 x.2.2.2.1 x.2.2.2.2.1 x.2.2.2.2.2.1 x.2.2.2.2.2.2.1 x.2.2.2.2.2.2.2.1 x.2.2.2.2.2.2.2.2.1 x.2.2.2.2.2.2.2.2.2.1 x.2.2.2.2.2.2.2.2.2.2.1 x.2.2.2.2.2.2.2.2.2.2.2) mq.core (J,A,env,O,U,t,it,pos,k,Y,body,ks) r hE hA dQ DZ iW Ju og hf iV
end
end
section
open PySem PyProof.Rows
variable{a:Addr}{fd:FuncData}{g:Fn}{vals:List Value}{vs:List V}{x:Str}{κ:Str->Option NameKind}
theorem nN:∀(ps:List Str) (vs:List V) (O:ak),ps.Nodup->binds ps vs=some O->ps.length=vs.length/\∀x v',O x=some v'->∃i:Nat,ps[i]?=some x/\vs[i]?=some v':=by
 intro ps
 induction ps with
 |nil=>
  intro vs O _ h;cases vs with
  |nil=>cases h;exact⟨rfl,λ x v' q=>no q⟩
  |cons _ _=>exact no h
 |cons p ps ih=>
  intro vs O hn h;cases vs with
  |nil=>exact no h
  |cons v vs=>
   refine bC λ k9=>?_;obtain⟨bb,h1,h⟩:=a9 h;cases h;obtain⟨h2,h3⟩:=ih vs bb (List.nodup_cons.mp hn).2 h1;refine k9 ?_;refine⟨congrArg Nat.succ h2,λ x v' q=>?_⟩;by_cases hx:x=p
   ·cases(if_pos hx).symm.trans q;exact⟨0,congrArg some hx.symm,rfl⟩
   ·obtain⟨i,q1,q2⟩:=h3 x v' ((if_neg hx).symm.trans q);exact⟨i+1,q1,q2⟩
theorem yc:∀(bs:List (Str×Value)) (m:Str->Option Value),x∉bs.map (·.1)->bindL κ bs m x=m x:=by
 intro bs
 induction bs with
 |nil=>
  intro m _;exact rfl
 |cons x9 bs ih=>
  intro m h;obtain⟨n,v⟩:=x9;simp only[List.map_cons,List.mem_cons,not_or] at h;unfold bindL;rw[ih _ h.2];split
  ·simp[h.1]
  ·rfl
theorem yb:∀(bs:List (Str×Value)) (m:Str->Option Value),x∉bs.map (·.1)->bindC κ bs m x=m x:=by
 intro bs
 induction bs with
 |nil=>
  intro m _;exact rfl
 |cons x9 bs ih=>
  intro m h;obtain⟨n,v⟩:=x9;simp only[List.map_cons,List.mem_cons,not_or] at h;unfold bindC;rw[ih _ h.2];split
  ·rfl
  ·simp[h.1]
theorem rp{κ:Str->Option NameKind}{x:Str}{v:Value}:∀(ps:List Str) (vals:List Value) (m:Str->Option Value) (i:Nat),ps.Nodup->ps.length=vals.length->ps[i]?=some x->vals[i]?=some v->
  (κ x=some .local->bindL κ (ps.zip vals) m x=some v)/\(κ x≠some .local->bindC κ (ps.zip vals) m x=some v)
 |[],_,_,i,_,_,h,_=>by simp at h
 |p::ps,[],_,i,_,h,_,_=>by simp at h
 |p::ps,u::vals,m,i,hn,hl,h1,h2=>by
  rw[List.nodup_cons] at hn;cases i with
  |zero=>
   simp at h1 h2;subst h1;subst h2;have Lu:p∉(ps.zip vals).map (·.1):=λ q=>by
    obtain⟨y,hy,rfl⟩:=List.mem_map.mp q;exact hn.1 (List.of_mem_zip hy).1
   refine⟨λ hk=>?_,λ hk=>?_⟩
   ·show bindL κ (ps.zip vals) (if κ p=some .local then λ y=>if y=p then some u else m y else m) p=some u;rw[yc _ _ Lu,if_pos hk];simp
   ·show bindC κ (ps.zip vals) (if κ p=some .local then m else λ y=>if y=p then some u else m y) p=some u;rw[yb _ _ Lu,if_neg hk];simp
  |succ i=>
   simp at h1 h2;refine⟨λ hk=>?_,λ hk=>?_⟩
   ·show bindL κ (ps.zip vals) _ x=some v;exact(rp ps vals _ i hn.2 (by simpa using hl) h1 h2).1 hk
   ·show bindC κ (ps.zip vals) _ x=some v;exact(rp ps vals _ i hn.2 (by simpa using hl) h1 h2).2 hk
section
variable{J VD:Addr->Prop}{A:Around}{env:Env}
variable{O aC bb:ak}{U aj af ar bL:ae}{s s' lA:Shared}{H aB dF:bB}{e f t it:Expr}{pos:Pos}{k:Nat}{o:Out}
theorem enter(X:FnAt hB a g fd)(S:SR prog w hB C J H U s.heap)(R:aE (VR w J H U s.heap) vals vs)(hb:binds g.params vs=some O){s₁:Shared}
  (Z:InCallC s (callEnvC fd s.heap.objs.size a).locals (bindL (callEnvC fd s.heap.objs.size a).kindOf (g.params.zip vals) λ _=>none) (callEnvC fd s.heap.objs.size a).cells (bindC (callEnvC fd s.heap.objs.size a).kindOf (g.params.zip vals) λ _=>none) s₁) :
  (∀b,FA (callEnvC fd s.heap.objs.size a) b->s.heap.get? b=none)/\SR prog w hB C (λ b=>J b\/FA (callEnvC fd s.heap.objs.size a) b) H U s₁.heap/\
  FR (λ b=>J b\/FA (callEnvC fd s.heap.objs.size a) b) (callEnvC fd s.heap.objs.size a) (bindL (callEnvC fd s.heap.objs.size a).kindOf (g.params.zip vals) λ _=>none) (bindC (callEnvC fd s.heap.objs.size a).kindOf (g.params.zip vals) λ _=>none) s₁.heap/\
  ER w (λ b=>J b\/FA (callEnvC fd s.heap.objs.size a) b) H U (callEnvC fd s.heap.objs.size a) (bindL (callEnvC fd s.heap.objs.size a).kindOf (g.params.zip vals) λ _=>none) (bindC (callEnvC fd s.heap.objs.size a).kindOf (g.params.zip vals) λ _=>none) s₁.heap O:=by
 generalize hE:callEnvC fd s.heap.objs.size a=env at Z ⊢;have DU:env.locals=s.heap.objs.size:=by rw[<-hE];rfl
 have HM:env.cells=cellsFrom (s.heap.objs.size+1) fd.scope.names []:=by rw[<-hE];rfl
 have mD:∀x,env.kindOf x=fd.scope.names.lookup x:=λ x=>by rw[<-hE];rfl
 have hk:∀b o,s.heap.get? b=some o->s₁.heap.get? b=some o:=Z.toInCall.keep;have rQ:∀b,FA env b->s.heap.get? b=none:=λ b rO=>by
  rcases rO with q | ⟨n,q⟩
  ·rw[q,DU];exact aY _
  ·have:=Z.above n b (mem_of_lookup q);rw[DU] at this;exact Heap.get?_none_of_le (Nat.le_of_lt this)
 have Oq:∀b,FA env b->∃ob,s₁.heap.get? b=some ob:=λ b rO=>by
  rcases rO with q | ⟨n,q⟩
  ·obtain⟨ob,_,_,ho,_⟩:=Z.toInCall.ns;rw[q];exact⟨ob,ho⟩
  ·obtain⟨ob,ho,_⟩:=Z.cell n b q;exact⟨ob,ho⟩
 have wX:∀b,(J b\/FA env b)->J b\/s.heap.get? b=none:=λ b rO=>rO.elim .inl λ q=>.inr (rQ b q);refine⟨rQ,S.eu wX (λ b o _ q=>hk b o q) λ b rO=>?_,⟨Z.toInCall.ns,.inr (.inl rfl),λ n c hc=>⟨Z.cell n c hc,.inr (.inr ⟨n,hc⟩),?_⟩,λ n n' c h1 h2=>name_of_addr Z.apart (mem_of_lookup h1) (mem_of_lookup h2),λ n hn=>?_⟩,λ x v' hx hm=>?_⟩
 ·rcases rO with q | q
  ·obtain⟨_,_,ob,ho⟩:=S.jo b q;exact⟨ob,hk b ob ho⟩
  ·exact Oq b q
 ·exact Nat.ne_of_gt (Z.above n c (mem_of_lookup hc))
 ·rw[mD] at hn;rcases hn with q | q
  ·obtain⟨c,hc⟩:=eE fd.scope.names (s.heap.objs.size+1) [] n (mem_of_lookup q);obtain⟨c',uH⟩:=dJ hc;rw[HM,uH];rfl
  ·exact absurd q (X.vI n)
 ·obtain⟨hl,MX⟩:=nN g.params vs O X.nodup hb;refine bC λ k9=>?_;obtain⟨i,q1,q2⟩:=MX x v' hx;obtain⟨v,hv,rv⟩:=R.get q2;have aZ:g.params.length=vals.length:=by rw[hl,R.1]
  have QB:=rp (κ:=env.kindOf) (x:=x) (v:=v) g.params vals (λ _=>none) i X.nodup aZ q1 hv;refine k9 ?_;refine⟨v,?_,rv.eu wX λ b o _ q=>hk b o q⟩;have Q4:=X.pk x (List.mem_of_getElem? q1);rw[<-mD] at Q4;show yS _ _ (kdOf (env.kindOf x))=_;rcases Q4 with q | q
  ·rw[q];exact QB.1 q
  ·rw[q];exact QB.2 (by rw[q];simp)
theorem Aj{Q:Value->Shared->Prop}{E:Value->Shared->Prop}(tC:hB.NoLimit)(X:FnAt hB a g fd)(hA:Cr A (k+1))(S:SR prog w hB C J H U s.heap)(R:aE (VR w J H U s.heap) vals vs)
  (hb:binds g.params vs=some O) (hx:o≠.ex)
  (hX:∀J' env,aN env->cZ (A.deeper env) k->env.frame=some env.locals->(∀x,kd env x=gC fd.scope.names x)->(∀x,env.kindOf x≠some .free)->XS prog w hB C J' (A.deeper env) env (execs g.body env) O U o aC aj)
  (h:∀u s' aB,aS prog w hB C J s H U s' aB aj->(match o with | .rt v=>VR w J aB aj s'.heap u v | _=>u=.none)->Q u s'):wpAny (model prog w) A (call (.ref a) vals) Q E s:=by
 refine bC λ k9=>?_;obtain⟨ob,ho,hd,hc⟩:=X.obj;obtain⟨hl,_⟩:=nN g.params vs O X.nodup hb;have aZ:vals.length=g.params.length:=by rw[hl,R.1]
 have hk:=S.keep;refine k9 ?_;refine wpAny_call (codeAny_call_cells (binds:=g.params.zip vals) (by have:=hA.depth;omega) (hk _ _ ho) hd (tC.keeps hk) (X.code.keeps hk) X.body (X.args vals aZ) X.P8 (λ x OR=>?_) (λ s₁ Z=>?_) X.co X.gen X.kind)
 ·have hp:x.1∈g.params:=(List.of_mem_zip (show(x.1,x.2)∈g.params.zip vals from OR)).1;rcases X.pk x.1 hp with q | q
  ·exact .inl q
  ·refine .inr ⟨q,?_⟩;obtain⟨c,hc⟩:=eE fd.scope.names (s.heap.objs.size+1) [] x.1 (mem_of_lookup q);obtain⟨c',uH⟩:=dJ hc;rw[uH];rfl
 ·obtain⟨rQ,S1,F1,R1⟩:=enter X S R hb Z;have lX:(callEnvC fd s.heap.objs.size a).frame=some (callEnvC fd s.heap.objs.size a).locals:=rfl;generalize hE:callEnvC fd s.heap.objs.size a=env at Z rQ S1 F1 R1 lX ⊢;have HJ:aN env:=by rw[<-hE];exact⟨X.kind,X.globals,X.builtins,X.lw⟩
  have mD:∀x,env.kindOf x=fd.scope.names.lookup x:=λ x=>by rw[<-hE];rfl
  refine hX _ env HJ hA.deeper lX (λ x=>by delta kd gC;rw[mD]) (λ x=>by rw[mD];exact X.vI x) H s₁ _ _ _ _ F1 R1 S1 (λ fl s' aB m' cm' gg F' R' lW=>?_) (λ ea s' aB q=>absurd q hx);obtain⟨h1,UW,rfl⟩:=Z.toInCall.same;have tB:∀b o,s.heap.get? b=some o->h1.get? b=some o:=Z.toInCall.keep;have ev:bZ H U s.heap aB aj s'.heap:=by
   refine⟨gg.aH.len,gg.aH.ag,λ b q=>?_,λ b ob rO hq=>gg.aH.kp b ob rO (λ q=>by rw[rQ b q] at hq;cases hq) (tB b ob hq)⟩;have TL:¬FA env b:=λ q2=>(gg.sr.jo b (.inr q2)).1 q;rcases gg.aH.own b TL q with q | q
   ·exact .inl q
   ·exact .inr (none_of tB q)
  have sb:Sub (λ b=>J b\/FA env b) aB aj J aB aj:=Sub.qy λ b rO=>.inl rO;refine h _ s' aB ⟨gg.same,ev,gg.sr.qy λ b rO=>.inl rO⟩ ?_;cases o with
  |rt v=>
   obtain⟨u,rfl,ru⟩:=lW;exact ru.sub sb
  |nx=>obtain rfl:fl=.next:=lW;rfl
  |br=>obtain rfl:fl=.brk:=lW;rfl
  |ct=>obtain rfl:fl=.cont:=lW;rfl
  |ex=>exact absurd rfl hx
end
end
section
open PySem PyProof.Rows
variable{L:Addr}{h:Heap}
noncomputable def minus(h:Heap)(L:Addr):Heap:=h.update L λ o=>{ o with data:=.freed }
theorem gp{b:Addr}(hb:b≠L):(minus h L).get? b=h.get? b:=Heap.get?_update_other _ _ (Ne.symm hb)
theorem kh:(minus h L).get? L=none:=by
 cases e:(minus h L).get? L with
 |none=>rfl
 |some o'=>
  exfalso;obtain⟨h1,h2⟩:=Heap.get?_some_iff.mp e;cases h;simp only[minus,Heap.update,Array.getElem?_modify,if_true] at h1;obtain⟨o0,_,rfl⟩:=Option.map_eq_some_iff.mp h1;simp[Obj.isFreed] at h2
section
variable{J VD:Addr->Prop}{A:Around}{env:Env}
variable{O aC bb:ak}{U aj af ar bL:ae}{s s' lA:Shared}{H aB dF:bB}{e f t it:Expr}{pos:Pos}{k:Nat}{o:Out}
theorem Cm{f:Str}{z:Str}{np cp zp:Pos}{zk:Nat}(B:Base hB C N p mg mb mN)(hE:aN env)(hA:cZ A k)(hk:env.kindOf f=some .globalImplicit)(hf:f="ValueError") :
  XS prog w hB C J A env (exec (.Raise (some (.Call (.Name f np) [.Constant (.str z) zk zp] [] cp)) none pos) env) O U .ex O U:=λ H s m cm Q E F R S _ he=>by
 subst hf;refine Raise_new hA.handled (Call_Name rfl (kG hE hk (by decide) B.ng (B.bi _ (.type "ValueError") (by decide)).1 B.nb (B.bi _ (.type "ValueError") (by decide)).2 S ?_));refine PyProof.Rows.callWith_type rfl (PySem.Calls.evalArgs_plain (PySem.Calls.spliced_cons (PySem.Calls.Constant_str (k:=zk) (pos:=zp) (PySem.Calls.spliced_nil ?_))));refine call_exc_raise excClass_ValueError (λ h' ea hx=>?_) (by show 1<=sizeLine;decide);have kp:∀b o,s.heap.get? b=some o->h'.get? b=some o:=hx.keeps;refine bC λ k9=>?_;obtain⟨ob,t0,h1,h2,h3⟩:=hx.there;refine k9 ?_;refine he ea _ H rfl ⟨⟨rfl,GX.refl _⟩,(bZ.bx kp).toF,S.bx kp⟩ ⟨⟨ob,_,t0,h1,h2,h3,rfl,rfl⟩,hx.new,S.fresh hx.new⟩ ?_;exact⟨m,F.ns.keeps kp⟩
structure Flew(s s':Shared)(L ea:Addr)(eL:Env):Prop where
 same:pz s s'
 new:s.heap.get? ea=none
 Sr:∃a0,Heap.FlyingW (minus s.heap L) [eL] ea (.type "ValueError") a0 s'.heap
 up:s.heap.UpToSlots s'.heap
theorem KQ{a:Addr}{g:Fn}{fd:FuncData}{vals:List Value}{vs:List V}{Q:Value->Shared->Prop}{E:Value->Shared->Prop}{eL:Env}{oL:Obj}(tC:hB.NoLimit)(X:FnAt hB a g fd)(hA:Cr A (k+1))(S:SR prog w hB C J H U s.heap)(R:aE (VR w J H U s.heap) vals vs)
  (hb:binds g.params vs=some O) (vt:A.frames=some [eL]) (Oa:eL.frame=some L) (Ob:eL.scope.kind=.function) (MV:s.heap.get? L=some oL) (N9:∀vs,oL.data≠.fields vs) (Vj:hB.get? L=none) (Vi:¬Own H U L)
  (hX:∀J' A' env,aN env->cZ A' k->(∀x,kd env x=gC fd.scope.names x)->(∀x,env.kindOf x≠some .free)->XS prog w hB C J' A' env (execs g.body env) O U .ex aC aj)
  (Ow:∀(env:Env) (s₁ s':Shared) (aB:bB),(∀b o,s.heap.get? b=some o->s₁.heap.get? b=some o)->(∀b,FA env b->s.heap.get? b=none)->iE (FA env) H U s₁.heap aB aj s'.heap->∀b o,s.heap.get? b=some o->s'.heap.get? b=some o)
  (h:∀ea s',Flew s s' L ea eL->E (.ref ea) s'):wpAny (model prog w) A (call (.ref a) vals) Q E s:=by
 refine bC λ k9=>?_;obtain⟨ob,ho,hd,hc⟩:=X.obj;obtain⟨hl,_⟩:=nN g.params vs O X.nodup hb;have aZ:vals.length=g.params.length:=by rw[hl,R.1]
 have hk:=S.keep;refine k9 ?_;refine wpAny_call (codeAny_call_cells (binds:=g.params.zip vals) (by have:=hA.depth;omega) (hk _ _ ho) hd (tC.keeps hk) (X.code.keeps hk) X.body (X.args vals aZ) X.P8 (λ x OR=>?_) (λ s₁ Z=>?_) X.co X.gen X.kind)
 ·have hp:x.1∈g.params:=(List.of_mem_zip (show(x.1,x.2)∈g.params.zip vals from OR)).1;rcases X.pk x.1 hp with q | q
  ·exact .inl q
  ·refine .inr ⟨q,?_⟩;obtain⟨c,hc⟩:=eE fd.scope.names (s.heap.objs.size+1) [] x.1 (mem_of_lookup q);obtain⟨c',uH⟩:=dJ hc;rw[uH];rfl
 ·obtain⟨rQ,S1,F1,R1⟩:=enter X S R hb Z;have lX:(callEnvC fd s.heap.objs.size a).frame=some (callEnvC fd s.heap.objs.size a).locals:=rfl;have QI:(callEnvC fd s.heap.objs.size a).scope.kind=.function:=X.kind;generalize hE:callEnvC fd s.heap.objs.size a=env at Z rQ S1 F1 R1 lX QI ⊢;have HJ:aN env:=by rw[<-hE];exact⟨X.kind,X.globals,X.builtins,X.lw⟩
  have mD:∀x,env.kindOf x=fd.scope.names.lookup x:=λ x=>by rw[<-hE];rfl
  refine hX _ _ env HJ hA.deeper (λ x=>by delta kd gC;rw[mD]) (λ x=>by rw[mD];exact X.vI x) H s₁ _ _ _ _ F1 R1 S1 (λ fl s' aB m' cm' gg F' R' lW=>lW.elim) (λ ea s' aB _ gg rz ns=>?_);refine bC λ k9=>?_;obtain⟨h1,UW,rfl⟩:=Z.toInCall.same;have tB:∀b o,s.heap.get? b=some o->h1.get? b=some o:=Z.toInCall.keep;have oh:=Ow env _ s' aB tB rQ gg.aH;obtain⟨oe,gJ,a0,e1,e2,e3,e4,e5⟩:=rz.obj;have FY:s.heap.get? ea=none:=none_of tB rz.new;obtain⟨Vv,Lr⟩:=ns;obtain⟨oU,Vh,Vf,TU,To,_⟩:=Lr;refine k9 ?_;have Qz:(minus s.heap L).get? ea=none:=by
   refine Classical.byCases (p:=ea=L) (λ q=>?_) (λ q=>?_)
   ·rw[q];exact kh
   ·rw[gp q];exact FY
  have S9:(minus s.heap L).get? env.locals=none:=by
   have hn:=rQ env.locals (.inl rfl);have q:env.locals≠L:=λ q=>by rw[q,MV] at hn;cases hn
   rw[gp q];exact hn
  have iW:(minus s.heap L).StaysIn s'.heap:=λ b JB hq=>by
   have jj:b≠L:=λ q=>by rw[q,kh] at hq;cases hq
   rw[gp jj] at hq;exact oh b JB hq
  have SK:s'.heap.FunFrames (minus s.heap L) [env,eL]:=⟨by rw[QI];simp,⟨env.locals,oU,lX,S9,TU,λ vs q=>by rw[To] at q;cases q⟩,by rw[Ob];simp,⟨L,oL,Oa,kh,oh L oL MV,N9⟩,trivial⟩;have Om:(A.deeper env).frames=some (env::[eL]):=by show A.frames.map _=_;rw[vt];rfl
  refine wpAny_leaving_firstW (a0:=a0) Om SK lX e1 iW Qz e3 e5 e4 λ h' hL=>?_;refine bC λ k9=>?_;obtain⟨k1,k2,k3,k4⟩:=hL;rw[e2] at k3;refine k9 ?_;refine h ea _ ⟨gg.same,FY,⟨a0,k1,Qz,k2.2.2,k3⟩,λ b JB hq TP=>?_⟩;exact k4 b JB (oh b JB hq) TP
end
end
section
open PySem PyProof.Rows
variable{c:Const}{kk:Nat}
section
variable{J VD:Addr->Prop}{A:Around}{env:Env}
variable{O aC bb:ak}{U aj af ar bL:ae}{s s' lA:Shared}{H aB dF:bB}{e f t it:Expr}{pos:Pos}{k:Nat}{o:Out}
noncomputable def RY(prog:Program)(w:World)(hB:Heap)(C:Addr)(A:Around)(fv:Value)(vs:List V):Prop:=
 ∀(J:Addr->Prop) (H:bB) (U:ae) (s:Shared) (vals:List Value) (Q:Value->Shared->Prop) (E:Value->Shared->Prop) (eL:Env) (L:Addr) (oL:Obj),SR prog w hB C J H U s.heap->aE (VR w J H U s.heap) vals vs->
  A.frames=some [eL]->eL.frame=some L->eL.scope.kind=.function->s.heap.get? L=some oL->(∀vs,oL.data≠.fields vs)->J L->
  (∀ea s',Flew s s' L ea eL->E (.ref ea) s')->wpAny (model prog w) A (call fv vals) Q E s
theorem qj{L ea:Addr}{h4:Heap}{m cm:Str->Option Value}(hL:env.locals=L)(F:FR J env m cm s.heap)(R:ER w J H U env m cm s.heap O)(S:SR prog w hB C J H U s.heap)(iW:(minus s.heap L).StaysIn h4)(Q7:s.heap.UpToSlots h4) :
  FR J env m cm h4/\ER w J H U env m cm h4 O/\SR prog w hB C J H U h4/\∀b o,b≠env.locals->s.heap.get? b=some o->h4.get? b=some o:=by
 have kp:∀b o,b≠L->s.heap.get? b=some o->h4.get? b=some o:=λ b o hb q=>iW b o (by rw[gp hb];exact q);have kj:∀b o,¬J b->s.heap.get? b=some o->h4.get? b=some o:=λ b o hb q=>kp b o (λ z=>hb (by rw[z,<-hL];exact F.jL)) q;have gL:∃o,h4.get? L=some o:=by
  refine bC λ k9=>?_;obtain⟨ob,_,_,ho,_⟩:=Q7.ns F.ns;refine k9 ?_;rw[<-hL];exact⟨ob,ho⟩
 refine⟨⟨Q7.ns F.ns,F.jL,λ n c hc=>?_,F.apart,F.has⟩,R.bT kj,S.bT kj λ b hb=>?_,λ b o hb q=>kp b o (by rw[<-hL];exact hb) q⟩
 ·obtain⟨⟨ob,ho,hd⟩,q2,q3⟩:=F.cell n c hc;exact⟨⟨ob,kp c ob (by rw[<-hL];exact q3) ho,hd⟩,q2,q3⟩
 ·refine Classical.byCases (p:=b=L) (λ q=>?_) (λ q=>?_)
  ·rw[q];exact gL
  ·obtain⟨_,_,ob,ho⟩:=S.jo b hb;exact⟨ob,kp b ob q ho⟩
noncomputable def isConst:Const->Bool
 |.bool _=>true
 |.str z=>PyData.strOk z
 |_=>false
noncomputable def ry:Const->V
 |.bool b=>.d (.bool b)
 |.str z=>.d (.str z)
 |_=>.d .none
theorem zG{cp:Pos}(hc:isConst c=true):c7 prog w hB C J A env (.Constant c kk cp) O U (ry c) U:=by
 cases c<;>first | exact bt hc | skip
 ·exact wN _
 ·exact z9 _ hc
theorem sJ{body:List Stmt}{cN z:Str}{p1 p2 p3 p4 p5:Pos}(B:Base hB C N p mg mb mN)(hE:aN env)(QR:env.kindOf cN=some .globalImplicit)(Te:cN="ValueError")
  (hz:bE env z) (hc:isConst c=true) (vt:A.frames=some [env]) (FZ:env.frame=some env.locals)
  (K7:∀H s m cm (Q:Flow->Shared->Prop) (E:Value->Shared->Prop),FR J env m cm s.heap->ER w J H U env m cm s.heap O->SR prog w hB C J H U s.heap->
   (∀s₁ av ea s',aS prog w hB C J s H U s₁ av aj->Flew s₁ s' env.locals ea env->E (.ref ea) s')->wpAny (model prog w) A (execs body env) Q E s) :
  XS prog w hB C J A env (exec (.Try body [.ExceptHandler (some (.Name cN p1)) none [.Assign [.Name z p2] (.Constant c kk p3) p4] p5] [] [] pos) env) O U .nx (upd O z (ry c)) aj:=λ H s m cm Q E F R S h _=>by
 subst Te;refine wpAny_Try_except (K7 H s m cm _ _ F R S λ s₁ av ea s' g fl=>?_);have F1:=F.aH S g.aH;have R1:=R.aH g.aH;obtain⟨a0,Ol⟩:=fl.Sr;refine wpAny_looks_onW vt FZ Ol λ h2 Li U0=>?_;refine wpAny_landsW (s:={ s' with heap:=h2 }) Li λ h3 tq U5=>?_;have OL:(minus s₁.heap env.locals).StaysIn h3:=tq.1;have u3:s₁.heap.UpToSlots h3:=(fl.up.trans U0).trans U5;refine bC λ k9=>?_;obtain⟨F3,R3,S3,Vu⟩:=qj (ea:=ea) rfl F1 R1 g.sr OL u3;obtain⟨oe,gJ,q1,q2,q3,q4⟩:=tq.first;refine k9 ?_;refine wpAny_handleBy_builtin (X:="ValueError") (T:="ValueError") (b:=true) excClass_ValueError.base (by kernel_rfl) excClass_ValueError.self ?_;refine kG (s:={ s' with heap:=h3 }) hE QR (by decide) B.ng (B.bi _ (.type "ValueError") (by decide)).1 B.nb (B.bi _ (.type "ValueError") (by decide)).2 S3 ⟨rfl,⟨oe,q1,q2⟩,?_⟩;refine wpAny_setFlight_noneW (s:={ s' with heap:=h3 }) tq.1 tq.2.2.1 tq.2.2.2.at λ h4 k1 k2 k3 k4=>?_;have u4:s₁.heap.UpToSlots h4:=u3.trans λ b ob hb hn=>⟨ob.slots,k4 b ob hb hn⟩;refine bC λ k9=>?_;obtain⟨F4,R4,S4,Uw⟩:=qj (ea:=ea) rfl F1 R1 g.sr k1 u4;refine k9 ?_;refine wpAny_execs_cons (hU (fS rfl) (kr rfl) rfl ?_);refine(zG (A:=A.mark (some (.ref ea))) hc:c7 prog w hB C J _ env (.Constant c kk p3) O aj (ry c) aj) av { s' with heap:=h4 } m cm _ _ F4 R4 S4 λ v s5 PT g5 r5=>?_;refine wpAny_assign_Name (lr hE hz (F4.aH S4 g5.aH) (R4.aH g5.aH) g5.sr r5 λ h6 UX m6 Sn F6 R6 S6 Ux _ _=>wpAny_execs_nil ?_);have Sq:iE (FA env) av aj s₁.heap av aj h4:=⟨Nat.le_refl _,λ _ _=>rfl,λ b _ q=>.inl q,λ b ob _ hb q=>Uw b ob (λ z=>hb (.inl z)) q⟩;have Sv:dS prog w hB C J (FA env) s₁ av aj { s' with heap:=h4 } av aj:=⟨fl.same,Sq,S4⟩;have Sw:dS prog w hB C J (FA env) s5 PT aj { s5 with heap:=h6,toks:=UX } PT aj:=by
  refine⟨⟨rfl,GX.refl _⟩,⟨Nat.le_refl _,λ _ _=>rfl,λ b _ q=>.inl q,λ b ob _ hb q=>Ux b ob (λ z=>hb ?_) q⟩,S6⟩;rcases z with z | ⟨_,z⟩
  ·exact .inl z
  ·exact .inr ⟨_,z⟩
 exact h _ _ PT m6 Sn (((g.toF.trans Sv).trans g5.toF).trans Sw) F6 R6 rfl
end
end
section
open PySem PyProof.Rows
variable{c:Expr}{k1:Nat}{m:Str}{p1 ps:Pos}{st:Stmt}{ts:List Expr}{v:V}{κ:Str->Kd}
noncomputable def qI(κ:Str->Kd)(f:Expr->Bool)(e:Expr):Expr->Bool
 |.Tuple ts _ _=>Bo κ ts && match e with
  |.Tuple es _ _=>decide ((bX ts).Nodup) && (decide (es.length<=1000) && (!(es.all (constantsAlone 8)) && es.all f))
  |_=>true
 |.Name x _=>own? κ x
 |.Attribute o n _=>f o && sV.contains n
 |.Subscript o i _=>f o && (f i && l5 e)
 |_=>false
noncomputable def oB(gl:Str->Bool)(κ:Str->Kd)(e:Expr):Bool:=iI gl 16 κ e
noncomputable def zK:Expr->Option Const
 |.Constant c _ _=>some c
 |_=>none
inductive JQ(c:Const):Expr->Prop
 |mk (k:Nat) (p:Pos):JQ c (.Constant c k p)
theorem Kq{c:Const}{e:Expr}(h:zK e=some c):JQ c e:=by
 cases e with
 |Constant c k p=>cases h;exact .mk k p
 |_=>exact no h
noncomputable def one{G:Type}(f:G->Bool):List G->Bool
 |[a]=>f a
 |_=>false
inductive J0{G:Type}(f:G->Bool):List G->Prop
 |mk (a:G) (h:f a=true):J0 f [a]
theorem yD{G:Type}{f:G->Bool}{xs:List G}(h:one f xs=true):J0 f xs:=by
 cases xs with
 |nil=>exact bt h
 |cons a r=>
  cases r with
  |nil=>exact .mk a h
  |cons b c=>exact bt h
noncomputable def H5:Const->Bool
 |.str _=>true
 |_=>false
noncomputable def PE:List Expr->Bool:=one λ e=>(zK e).any H5
inductive GL:List Expr->Prop
 |mk (z:Str) (k:Nat) (p:Pos):GL [.Constant (.str z) k p]
theorem PH{es:List Expr}(h:PE es=true):GL es:=by
 cases yD h with
 |mk e k1=>
  cases k2:zK e with
  |none=>rw[k2] at k1;exact bt k1
  |some c=>
   rw[k2] at k1;cases Kq k2;cases c with
   |str z=>exact .mk z _ _
   |_=>exact bt k1
noncomputable def zf:Stmt->Option (List Expr×Expr)
 |.Assign ts e _=>some (ts,e)
 |_=>none
inductive JK(ts:List Expr)(e:Expr):Stmt->Prop
 |mk (p:Pos):JK ts e (.Assign ts e p)
theorem Kj{e:Expr}(h:zf st=some (ts,e)):JK ts e st:=by
 cases st with
 |Assign a b p=>cases h;exact .mk p
 |_=>exact no h
noncomputable def EF(κ:Str->Kd)(st:Stmt):Bool:=(zf st).any λ x=>one (λ t=>(sj t).any (own? κ)) x.1 && (zK x.2).any isConst
noncomputable def Pf(κ:Str->Kd):ExceptHandler->Bool
 |.ExceptHandler (some t) none b _=>(sj t).any (λ c=>κ c == .uF) && one (EF κ) b
 |_=>false
noncomputable def vO(κ:Str->Kd)(hs:List ExceptHandler):Bool:=one (Pf κ) hs
inductive PV(κ:Str->Kd):Stmt->Prop
 |mk (z:Str) (q:Const) (kk:Nat) (p2 p3 p4:Pos) (h2:own? κ z=true) (h3:isConst q=true):PV κ (.Assign [.Name z p2] (.Constant q kk p3) p4)
theorem Sk(h:EF κ st=true):PV κ st:=by
 cases h1:zf st with
 |none=>rw[EF,h1] at h;exact bt h
 |some x=>
  rw[EF,h1] at h;obtain⟨ts,e⟩:=x;obtain⟨h2,h3⟩:=az h;clear h;cases Kj h1;cases yD h2 with
  |mk t k2=>
   cases k4:sj t with
   |none=>rw[k4] at k2;exact bt k2
   |some z=>
    cases k5:zK e with
    |none=>rw[k5] at h3;exact bt h3
    |some q=>
     rw[k4] at k2;rw[k5] at h3;cases Iw k4;cases Kq k5;exact .mk z q _ _ _ _ k2 h3
inductive FE(κ:Str->Kd):List ExceptHandler->Prop
 |mk (c z:Str) (q:Const) (kk:Nat) (p1 p2 p3 p4 p5:Pos) (h1:(κ c == .uF)=true) (h2:own? κ z=true) (h3:isConst q=true):FE κ [.ExceptHandler (some (.Name c p1)) none [.Assign [.Name z p2] (.Constant q kk p3) p4] p5]
theorem K5{hs:List ExceptHandler}(h:vO κ hs=true):FE κ hs:=by
 cases yD h with
 |mk x h=>
  cases x with
  |ExceptHandler ty nm b p5=>
   cases ty with
   |none=>exact bt h
   |some t=>
    cases nm with
    |some _=>exact bt h
    |none=>
     obtain⟨h1,h2⟩:=az h;clear h;cases k4:sj t with
     |none=>rw[k4] at h1;exact bt h1
     |some c=>
      rw[k4] at h1;cases Iw k4;cases yD h2 with
      |mk st k2=>
       cases Sk k2 with
       |mk z q kk p2 p3 p4 j2 j3=>exact .mk c z q kk _ p2 p3 p4 p5 h1 j2 j3
noncomputable def Gv(gl:Str->Bool)(κ:Str->Kd)(b:List Stmt):Bool:=one (λ st=>(zf st).any λ x=>one (λ t=>(sj t).any (own? κ)) x.1 && ((Jo x.2).isSome && oB gl κ x.2)) b
inductive J7(gl:Str->Bool)(κ:Str->Kd):List Stmt->Prop
 |mk (x f:Str) (args:List Expr) (p1 p2 p3 p4:Pos) (h1:own? κ x=true) (h2:oB gl κ (.Call (.Name f p2) args [] p3)=true):J7 gl κ [.Assign [.Name x p1] (.Call (.Name f p2) args [] p3) p4]
theorem PK{gl:Str->Bool}{b:List Stmt}(h:Gv gl κ b=true):J7 gl κ b:=by
 cases yD h with
 |mk st h'=>
  clear h;cases h1:zf st with
  |none=>rw[h1] at h';exact bt h'
  |some x=>
   rw[h1] at h';obtain⟨ts,e⟩:=x;obtain⟨h2,h3⟩:=az h';obtain⟨h3,h4⟩:=az h3;clear h';cases Kj h1;cases yD h2 with
   |mk t k2=>
    cases k4:sj t with
    |none=>rw[k4] at k2;exact bt k2
    |some z=>
     rw[k4] at k2;cases Iw k4;obtain⟨⟨f,args⟩,hc⟩:=Option.isSome_iff_exists.mp h3;cases NX hc;exact .mk z f args _ _ _ _ k2 h4
noncomputable def IB(gl:Str->Bool)(κ:Str->Kd)(tr:Bool):Nat->Stmt->Bool
 |0,_=>false
 |n+1,s=>match s with
  |.Assign [t] e _=>oB gl κ e && qI κ (oB gl κ) e t
  |.AugAssign (.Subscript o i _) _ e _=>oB gl κ o && (oB gl κ i && (k7 i && oB gl κ e))
  |.Expr e _=>oB gl κ e && l5 e
  |.Return (some e) _=>oB gl κ e
  |.If t b o _=>oB gl κ t && (b.all (IB gl κ tr n) && o.all (IB gl κ tr n))
  |.For t it b [] _=>oB gl κ it && (vN t it && (yC κ t && b.all (IB gl κ tr n)))
  |.Break _=>true
  |.Continue _=>true
  |.Raise (some e) none _=>(Jo e).any λ q=>(κ q.1 == .uF) && PE q.2
  |.Try body hs [] [] _=>tr && (Gv gl κ body && vO κ hs)
  |_=>false
noncomputable def tX(gl:Str->Bool)(κ:Str->Kd)(tr:Bool)(b:List Stmt):Bool:=b.all (IB gl κ tr 12)
noncomputable def J1(prog:Program)(w:World)(hB:Heap)(C:Addr)(mg:Str->Option Value)(Y:Or)(k:Nat):Prop:=
 ∀f vs,Y.P f vs=some none->vs.all eT=true->∃a fd,mg f=some (.ref a)/\(∃o,hB.get? a=some o/\o.data=.func fd/\o.cls=.type "function")/\∀A,Cr A k->RY prog w hB C A (.ref a) vs
section
variable{Y:Or}{k n:Nat}
variable{J:Addr->Prop}{A:Around}{env:Env}{O aC bb:ak}{U aj af ar:ae}{e t:Expr}{pos:Pos}{o:Out}
theorem XS.of{run:Sem Flow}{o':Out}(h:some (o',bb,af)=some (o,aC,aj))(L:XS prog w hB C J A env run O U o' bb af):XS prog w hB C J A env run O U o aC aj:=by cases h;exact L
theorem cC(W:Wd prog w hB C N p mg mb mN Y k)(e:Expr):Good Y k 16 e:=(qg W 16 e).1
theorem Fi(W:Wd prog w hB C N p mg mb mN Y k)(e:Expr):fY Y k 16 e:=(qg W 16 e).2
theorem eh(hf:∀x,env.kindOf x≠some .free){z:Str}(h:own? (kd env) z=true):bE env z:=by
 rcases(Ia h).1 with h | h | h
 ·exact .inl h
 ·exact .inr h
 ·exact absurd h (hf z)
structure y5(A:Around)(env:Env)(k:Nat)(tr:Bool):Prop where
 e:aN env
 a:cZ A k
 f:∀x,env.kindOf x≠some .free
 t:tr=true->A.frames=some [env]/\env.frame=some env.locals
noncomputable def jJ(Y:Or)(k n:Nat)(st:Stmt):Prop:=
 ∀J A env tr O U o aC aj,y5 A env k tr->IB (iT p) (kd env) tr n st=true->x1 Y st O U=some (o,aC,aj)->XS prog w hB C J A env (exec st env) O U o aC aj
noncomputable def qZ(Y:Or)(k n:Nat)(b:List Stmt):Prop:=
 ∀J A env tr O U o aC aj,y5 A env k tr->b.all (IB (iT p) (kd env) tr n)=true->xs Y b O U=some (o,aC,aj)->XS prog w hB C J A env (execs b env) O U o aC aj
theorem lU(VC:∀st,jJ Y k n st):∀(b:List Stmt),qZ Y k n b:=by
 intro b
 induction b with
 |nil=>
  intro J A env tr O U o aC aj hF ok h;exact .of h Ck
 |cons st b ih=>
  intro J A env tr O U o aC aj hF ok h;obtain⟨oa,fB,cy,h1,h2⟩:=zl h;have L:=VC st J A env tr O U oa fB cy hF (az ok).1 h1;cases oa with
  |nx=>exact xT L (ih J A env tr fB cy o aC aj hF (az ok).2 h2)
  |_=>exact .of h2 (Fy (λ q=>by cases q) L)
theorem CP(W:Wd prog w hB C N p mg mb mN Y k)(hE:aN env)(hA:cZ A k){y:Str}{py:Pos}(hk:bE env y)(ok:oB (iT p) (kd env) e=true)(h1:ev Y e O U=some (v,af)) :
  XS prog w hB C J A env (exec (.Assign [.Name y py] e pos) env) O U .nx (upd O y v) af:=by
 refine Classical.byCases (p:=l5 e=true) (λ hc=>?_) (λ hc=>?_)
 ·exact jF hE hA (fS hc) rfl (λ z hz=>by obtain rfl:=List.mem_singleton.mp hz;exact hk) (cC W e J A env O U v af hE hA ok h1) rfl
 ·cases e with
  |ListComp elt gens scope q=>
   obtain⟨ct,it,ifs,xs',vs,own,cy,cR,rfl,X,hT,dQ,og,wY,hm,uG,sL⟩:=nR (J:=J) (n:=15) W (λ m e _=>qg W m e) hE hA ok h1;exact pw hE hA hk X hT dQ og wY hm uG sL
  |SetComp=>exact bt ok
  |DictComp=>exact bt ok
  |_=>exact absurd rfl hc
theorem Km(h:jc (.Tuple ts k1 p1) e=true):∃es k2 p2,e=.Tuple es k2 p2:=by
 cases e with
 |Tuple es k2 p2=>exact⟨es,k2,p2,rfl⟩
 |_=>exact bt h
theorem wq(hb:jc (.Tuple ts k1 p1) e=false):x1 Y (.Assign [.Tuple ts k1 p1] e pos) O U=(ev Y e O U).bind λ x=>((ba (.Tuple ts k1 p1) x.1 O).bind λ O=>some (O,x.2)).bind λ y=>some (Out.nx,y.1,y.2):=by
 cases e<;>first | rfl | exact bt hb.symm
theorem I3{n:Nat}:swapsWith e (some (.Tuple ts k1 p1)) n env=pure false:=by cases e<;>rfl
theorem E8{n:Nat}:swapsWith e (some (.Attribute c m ps)) n env=pure false:=by cases e<;>rfl
theorem ze(W:Wd prog w hB C N p mg mb mN Y k)(hE:aN env)(hA:cZ A k)(hf:∀x,env.kindOf x≠some .free)(ok:oB (iT p) (kd env) e=true)(pD:qI (kd env) (oB (iT p) (kd env)) e (.Tuple ts k1 p1)=true)(h:x1 Y (.Assign [.Tuple ts k1 p1] e pos) O U=some (o,aC,aj)) :
  XS prog w hB C J A env (exec (.Assign [.Tuple ts k1 p1] e pos) env) O U o aC aj:=by
 obtain⟨a1,pD⟩:=az pD;have iW:∀z∈bX ts,bE env z:=λ z hz=>eh hf (vP a1 z hz);refine Classical.byCases (p:=jc (.Tuple ts k1 p1) e=true) (λ hb=>?_) (λ hb=>?_)
 ·obtain⟨es,k2,p2,rfl⟩:=Km hb;refine bC λ k9=>?_;obtain⟨vs,af,h1,h⟩:=dy h;obtain⟨bb,h2,h⟩:=a9 h;obtain⟨a2,pD⟩:=az pD;obtain⟨a3,pD⟩:=az pD;refine k9 ?_;exact .of h (sI hE hA (iM (az pD).1) (of_decide_eq_true a3) (of_decide_eq_true a2) iW h1 (iS hE hA (cC W) es U vs _ (az pD).2 h1) h2)
 ·have hb:jc (.Tuple ts k1 p1) e=false:=Bool.eq_false_iff.mpr hb;refine bC λ k9=>?_;obtain⟨v,af,h1,h⟩:=dy ((wq hb).symm.trans h);obtain⟨bb,ar,h2,h⟩:=dy h;obtain⟨dK,h3,h2⟩:=a9 h2;cases h2;refine k9 ?_;exact .of h (jF hE hA I3 hb iW (cC W e J A env O U v _ hE hA ok h1) h3)
inductive NM(l:Nat)(m:Str)(v:V)(O:ak)(U:ae)(bb:ak)(ar:ae):Prop
 |mk (fs:List (Str×V)) (hl:U[l]?=some (.ins fs)) (hz:fs.length<1000) (e1:bb=O) (e2:ar=U.set l (.ins (cT m v fs)))
theorem PG{l:Nat}(h:stN l m v O U U[l]?=some (bb,ar)):NM l m v O U bb ar:=by
 cases hl:U[l]? with
 |none=>rw[hl] at h;exact no h
 |some nd=>
  rw[hl] at h;cases nd with
  |ins fs=>
   refine Classical.byCases (p:=fs.length<1000) (λ hz=>?_) (λ hz=>?_)
   ·cases(if_pos hz).symm.trans h;exact⟨fs,hl,hz,rfl,rfl⟩
   ·exact no ((if_neg hz).symm.trans h)
  |_=>exact no h
theorem CO(W:Wd prog w hB C N p mg mb mN Y k)(hE:aN env)(hA:cZ A k)(ok:oB (iT p) (kd env) e=true)(pD:qI (kd env) (oB (iT p) (kd env)) e (.Attribute c m ps)=true)(h:x1 Y (.Assign [.Attribute c m ps] e pos) O U=some (o,aC,aj)) :
  XS prog w hB C J A env (exec (.Assign [.Attribute c m ps] e pos) env) O U o aC aj:=by
 refine bC λ k9=>?_;refine bC λ k9=>?_;obtain⟨v,af,h1,h⟩:=dy h;obtain⟨bb,ar,h2,h⟩:=dy h;obtain⟨a,cy,h3,h4⟩:=dy h2;refine k9 ?_;refine k9 ?_;cases a with
 |o l=>
  refine bC λ k9=>?_;obtain⟨fs,hl,hz,rfl,rfl⟩:=PG h4;refine k9 ?_;exact .of h (jH W.base (List.contains_iff_mem.mp (az pD).2) (cC W e J A env _ U v _ hE hA ok h1) (cC W c J A env _ af _ cy hE hA (az pD).1 h3) E8 hl hz)
 |_=>exact no h4
theorem GR(W:Wd prog w hB C N p mg mb mN Y k)(hE:aN env)(hA:cZ A k){i:Expr}(ok:oB (iT p) (kd env) e=true)(pD:qI (kd env) (oB (iT p) (kd env)) e (.Subscript c i ps)=true)(h:x1 Y (.Assign [.Subscript c i ps] e pos) O U=some (o,aC,aj)) :
  XS prog w hB C J A env (exec (.Assign [.Subscript c i ps] e pos) env) O U o aC aj:=by
 refine bC λ k9=>?_;obtain⟨v,af,h1,h⟩:=dy h;obtain⟨bb,ar,h2,h⟩:=dy h;obtain⟨a,cy,h3,h2⟩:=dy h2;obtain⟨b,cR,h4,h2⟩:=dy h2;obtain⟨Va,h5,h2⟩:=a9 h2;cases h2;obtain⟨a1,pD⟩:=az pD;refine k9 ?_;exact .of h (pX hA (az pD).2 (cC W e J A env O U v _ hE hA ok h1) (cC W c J A env O af a cy hE hA a1 h3) (cC W i J A env O cy b cR hE hA (az pD).1 h4) h5)
inductive J6:Expr->Prop
 |name (y:Str) (p:Pos):J6 (.Name y p)
 |tup (ts:List Expr) (k:Nat) (p:Pos):J6 (.Tuple ts k p)
 |attr (c:Expr) (m:Str) (p:Pos):J6 (.Attribute c m p)
 |sub (c i:Expr) (p:Pos):J6 (.Subscript c i p)
theorem US{f:Expr->Bool}(h:qI κ f e t=true):J6 t:=by
 cases t with
 |Name y p=>exact .name y p
 |Tuple ts k p=>exact .tup ts k p
 |Attribute c m p=>exact .attr c m p
 |Subscript c i p=>exact .sub c i p
 |_=>exact bt h
theorem sU(W:Wd prog w hB C N p mg mb mN Y k)(hE:aN env)(hA:cZ A k)(hf:∀x,env.kindOf x≠some .free)(ok:oB (iT p) (kd env) e=true)(pD:qI (kd env) (oB (iT p) (kd env)) e t=true)(h:x1 Y (.Assign [t] e pos) O U=some (o,aC,aj)) :
  XS prog w hB C J A env (exec (.Assign [t] e pos) env) O U o aC aj:=by
 cases US pD with
 |name y py=>
  obtain⟨v,af,h1,h⟩:=dy h;exact .of h (CP W hE hA (eh hf pD) ok h1)
 |tup ts k1 p1=>exact ze W hE hA hf ok pD h
 |attr c m ps=>exact CO W hE hA ok pD h
 |sub c i ps=>exact GR W hE hA ok pD h
end
end
section
open PySem PyProof.Rows
variable{args:List Expr}{pJ:List Stmt}{f:Str}{hs:List ExceptHandler}{it:Expr}{np q:Pos}{sr:Src}{vs:List V}
section
variable{Y:Or}{k n:Nat}
variable{J:Addr->Prop}{A:Around}{env:Env}{O aC:ak}{U aj af ar:ae}{e t:Expr}{pos:Pos}{o:Out}
inductive za(Y:Or)(it:Expr)(O:ak)(U af:ae):Src->Prop
 |items (ys:List V) (h:uC Y it O U (ev Y it O U)=some (ys,af)):za Y it O U af (.items ys)
 |obj (l:Nat) (h:ev Y it O U=some (.o l,af)):za Y it O U af (.obj l)
 |tm (ks:List Int) (h:ev Y it O U=some (.fs ks,af)):za Y it O U af (.tm ks)
theorem mI(h:srcOf (ev Y it O U)=some (sr,af))(hd:uC Y it O U (ev Y it O U)=lJ (ev Y it O U)):za Y it O U af sr:=by
 obtain⟨v,cy,h1,h⟩:=dy h;obtain⟨s',h2,h⟩:=a9 h;cases h;cases v with
 |o l=>cases h2;exact .obj l h1
 |fs ks=>cases h2;exact .tm ks h1
 |d x=>
  obtain⟨ys,h3,h2⟩:=a9 (Option.map_eq_bind.symm.trans h2);cases h2;refine .items ys (hd.trans ?_);rw[h1];show(ly (.d x)).bind _=_;rw[h3];rfl
 |ty m=>cases h2
theorem yN(h:src Y it O U=some (sr,af)):za Y it O U af sr:=by
 cases KA it with
 |plain h1 h2=>exact mI ((h2 _ _ _).symm.trans h) (h1 _ _ _ _)
 |call f np args q e=>
  subst e;refine Classical.byCases (p:=gB f=true) (λ hf=>?_) (λ hf=>?_)
  ·obtain⟨vs,cy,h1,h⟩:=dy ((if_pos hf).symm.trans h);refine bC λ k9=>?_;obtain⟨ys,h2,h⟩:=a9 h;cases h;refine k9 ?_;refine .items ys ((if_pos hf).trans ?_);rw[h1];show(draws f vs).bind _=_;rw[h2];rfl
  ·exact mI ((if_neg hf).symm.trans h) (if_neg hf)
theorem zu{a:Addr}(B:Base hB C N p mg mb mN)(q1:mg f=some (.ref a))(o:(f == ("set":Str))=true):False:=by
 obtain rfl:=eq_of_beq o;rw[(B.bi _ (.type "set") (by decide)).1] at q1;cases q1
theorem Fg(W:Wd prog w hB C N p mg mb mN Y k)(hE:aN env)(hA:cZ A k)(ok:oB (iT p) (kd env) (.Call (.Name f np) args [] q)=true)(h1:gJ Y args O U=some (vs,af))(yZ:vs.all eT=true)
  {v:V} (hv:Y.P f vs=some (some v)):c7 prog w hB C J A env (.Call (.Name f np) args [] q) O U v af:=by
 cases oA ok with
 |gen g hg _ _=>cases hg;exact no h1
 |call _ ok o5=>
 refine bC λ k9=>?_;obtain⟨o1,ok⟩:=az ok;obtain⟨o2,ok⟩:=az ok;obtain⟨a,fd,q1,q2,K⟩:=W.or.P f vs v hv yZ;refine k9 ?_;refine bA hE (iU o1) (fN o2) W.base.ng W.base.nb (.inl q1) h1 (.func a fd q2) (λ _ q3=>?_) (iS hE hA (λ e=>(qg W 15 e).1) args U vs af o5 h1) (K A af hA.call);subst q3;exact zu W.base q1 (az ok).2
theorem Ff(W:Wd prog w hB C N p mg mb mN Y k)(OX:J1 prog w hB C mg Y k)(hE:aN env)(hA:cZ A k)(ok:oB (iT p) (kd env) (.Call (.Name f np) args [] q)=true)(h1:gJ Y args O U=some (vs,af))(yZ:vs.all eT=true)
  (hv:Y.P f vs=some none) (vt:A.frames=some [env]) (FZ:env.frame=some env.locals) (H:bB) (s:Shared) (m cm:Str->Option Value) (Q:Value->Shared->Prop) (E:Value->Shared->Prop) (F:FR J env m cm s.heap) (R:ER w J H U env m cm s.heap O) (S:SR prog w hB C J H U s.heap)
  (he:∀s₁ av ea s',aS prog w hB C J s H U s₁ av af->Flew s₁ s' env.locals ea env->E (.ref ea) s'):wpAny (model prog w) A (eval (.Call (.Name f np) args [] q) env) Q E s:=by
 cases oA ok with
 |gen g hg _ _=>cases hg;exact no h1
 |call _ ok o5=>
 refine bC λ k9=>?_;obtain⟨o1,ok⟩:=az ok;obtain⟨a,fd,q1,⟨ob,q2,q3,q4⟩,K⟩:=OX f vs hv yZ;refine k9 ?_;refine Call_Name rfl (rN hE (iU o1) (fN (az ok).1) W.base.ng W.base.nb (.inl q1) S ?_);refine PySem.Calls.callWith_function (o:=ob) (fd:=fd) (gZ h1 (iS hE hA (λ e=>(qg W 15 e).1) args U vs af o5 h1) F R S λ vals s₁ av g rs=>⟨⟨g.sr.keep _ _ q2,q3⟩,?_⟩);have F1:=F.aH S g.aH;refine bC λ k9=>?_;obtain⟨oL,es,ep,TS,qp,_⟩:=F1.ns;refine k9 ?_;exact K A hA.call J av af s₁ vals Q E env env.locals oL g.sr rs vt FZ hE.kind TS (λ vs q=>by rw[qp] at q;cases q) F1.jL λ ea s' fl=>he s₁ av ea s' g fl
theorem zH{z:Str}{p2 p3 p4:Pos}{c:Const}{kk:Nat}(hc:isConst c=true)(h:xs Y [.Assign [.Name z p2] (.Constant c kk p3) p4] O U=some (o,aC,aj)):some (Out.nx,upd O z (ry c),U)=some (o,aC,aj):=by
 cases c<;>first | exact h | exact bt hc
theorem MA(W:Wd prog w hB C N p mg mb mN Y k)(OX:J1 prog w hB C mg Y k){tr:Bool}(hF:y5 A env k tr){x:Str}{ap xp:Pos}(Ua:tr=true)(UJ:own? (kd env) x=true)(RE:oB (iT p) (kd env) (.Call (.Name f np) args [] q)=true)(UI:vO (kd env) hs=true)
  (h:x1 Y (.Try [.Assign [.Name x xp] (.Call (.Name f np) args [] q) ap] hs [] [] pos) O U=some (o,aC,aj)):XS prog w hB C J A env (exec (.Try [.Assign [.Name x xp] (.Call (.Name f np) args [] q) ap] hs [] [] pos) env) O U o aC aj:=by
 cases K5 UI with
 |mk c z qc kk p1 p2 p3 p4 p5 c1 c2 c3=>
  by_cases Ax:c="ValueError"
  ·obtain⟨vs,af,h1,h⟩:=dy ((if_pos Ax).symm.trans h);by_cases yZ:vs.all eT=true
   ·obtain⟨r,h3,h4⟩:=a9 ((if_pos yZ).symm.trans h);refine bC λ k9=>?_;obtain⟨vt,FZ⟩:=hF.t Ua;refine k9 ?_;cases r with
    |some v=>
     refine .of h4 λ H s m cm Q E F R S hq hx=>?_;refine wpAny_Try_except (xT (jF hF.e hF.a (fS rfl) rfl (λ z hz=>by obtain rfl:=List.mem_singleton.mp hz;exact eh hF.f UJ) (Fg W hF.e hF.a RE h1 yZ h3) rfl) Ck H s m cm _ _ F R S (λ fl s' aB m' cm' g F' R' lW=>?_) (λ ea s' aB q=>by cases q));obtain rfl:fl=.next:=lW;exact wpAny_execs_nil (hq _ s' aB m' cm' g F' R' rfl)
    |none=>
     refine .of (zH c3 h4) (sJ W.base hF.e (iU c1) Ax (eh hF.f c2) c3 vt FZ λ H s m cm Q E F R S he=>?_);exact wpAny_execs_cons (hU (fS rfl) (kr rfl) rfl (Ff W OX hF.e hF.a RE h1 yZ h3 vt FZ H s m cm _ _ F R S he))
   ·exact no ((if_neg yZ).symm.trans h)
  ·exact no ((if_neg Ax).symm.trans h)
theorem EY(W:Wd prog w hB C N p mg mb mN Y k)(hE:aN env)(hA:cZ A k)(c:Nq f args e)(c2:GL args)(hg:env.kindOf f=some .globalImplicit)(h:x1 Y (.Raise (some e) none pos) O U=some (o,aC,aj)) :
  XS prog w hB C J A env (exec (.Raise (some e) none pos) env) O U o aC aj:=by
 cases c;cases c2;refine Classical.byCases (p:=f="ValueError") (λ M3=>?_) (λ M3=>?_)
 ·exact .of ((if_pos M3).symm.trans h) (Cm W.base hE hA hg M3)
 ·exact no ((if_neg M3).symm.trans h)
theorem My(W:Wd prog w hB C N p mg mb mN Y k)(VE:∀b,qZ Y k n b){body:List Stmt}:jJ Y k (n+1) (.For t it body [] pos):=λ J A env tr O U o aC aj hF ok h=>by
 refine bC λ k9=>?_;obtain⟨a1,ok⟩:=az ok;obtain⟨a2,ok⟩:=az ok;obtain⟨a3,a4⟩:=az ok;obtain⟨sr,af,h1,h2⟩:=dy h;have iW:∀z∈ay t,bE env z:=λ z hz=>eh hF.f (qH a3 z hz);have N8:∀J',∀fB cy oa iG cR,xs Y body fB cy=some (oa,iG,cR)->XS prog w hB C J' A env (execs body env) fB cy oa iG cR:=λ J' fB cy oa iG cR hx=>VE body J' A env tr fB cy oa iG cR hF a4 hx;refine k9 ?_;cases yN h1 with
 |items ys AL=>exact Jj (uA:=λ O U=>xs Y body O U) hF.e hF.a (ip a1) iW (zS W (λ m e _=>(qg W m e).1) (cC W it) hF.e hF.a a1 a2 (nh a3) AL) h2 N8
 |obj l AL=>exact Fw (uA:=λ O U=>xs Y body O U) hF.e hF.a (ip a1) (nh a3) iW (cC W it J A env O U _ af hF.e hF.a a1 AL) h2 N8
 |tm ks AL=>
  cases af with
  |cons a b=>exact no h2
  |nil=>
   obtain⟨Ju,r,h3,h4⟩:=tn h2;have X:=Fx (Y:=Y) (pos:=pos) hF.e hF.a (ip a1) (nh a3) iW Ju (cC W it J A env O U _ _ hF.e hF.a a1 AL) h3 N8;cases r with
   |none=>exact .of (congrArg some h4) X
   |some b=>exact .of (congrArg some h4) X
theorem jS{st:Stmt}(q:∀κ tr,IB (iT p) κ tr (n+1) st=false):jJ Y k (n+1) st:=λ J A env tr O U o aC aj hF ok h=>bt ((q _ _).symm.trans ok)
theorem Mx(W:Wd prog w hB C N p mg mb mN Y k){tg:Expr}{op:Operator}:jJ Y k (n+1) (.AugAssign tg op e pos):=by
 cases tg with
 |Subscript c i ps=>
  intro J A env tr O U o aC aj hF ok h;refine bC λ k9=>?_;obtain⟨a1,ok⟩:=az ok;obtain⟨a2,ok⟩:=az ok;obtain⟨a,af,h1,h⟩:=dy h;obtain⟨b,ar,h2,h⟩:=dy h;obtain⟨cc,h3,h⟩:=a9 h;obtain⟨d,bL,h4,h⟩:=dy h;obtain⟨m',h5,h⟩:=a9 h;obtain⟨r',h6,h⟩:=a9 h;obtain⟨Cq,h7,h8⟩:=a9 h;obtain rfl:=bq h5;exact k9 (.of h8 (Ji hF.a (az ok).1 (cC W c J A env O U a af hF.e hF.a a1 h1) (cC W i J A env O af b ar hF.e hF.a a2 h2) h3 (cC W e J A env O ar _ bL hF.e hF.a (az ok).2 h4) h6 h7))
 |_=>exact jS λ _ _=>rfl
theorem IP(W:Wd prog w hB C N p mg mb mN Y k):jJ Y k (n+1) (.Expr e pos):=λ J A env tr O U o aC aj hF ok h=>by
 obtain⟨v,af,h1,h⟩:=dy h;exact .of h (Fv hF.e (az ok).2 (cC W e J A env O U v _ hF.e hF.a (az ok).1 h1))
theorem Mz(W:Wd prog w hB C N p mg mb mN Y k){v:Option Expr}:jJ Y k (n+1) (.Return v pos):=by
 cases v with
 |none=>exact jS λ _ _=>rfl
 |some e=>
  intro J A env tr O U o aC aj hF ok h;obtain⟨v,af,h1,h⟩:=dy h;exact .of h (yV (cC W e J A env O U v _ hF.e hF.a ok h1))
theorem Pt(W:Wd prog w hB C N p mg mb mN Y k)(VE:∀b,qZ Y k n b){b:List Stmt}:jJ Y k (n+1) (.If t b pJ pos):=λ J A env tr O U o aC aj hF ok h=>by
 obtain⟨c,af,h1,h2⟩:=dy h;refine MM (Fi W t J A env O U c af hF.e hF.a (az ok).1 h1) (λ hc=>?_) (λ hc=>?_)
 ·exact VE b J A env tr O af o aC aj hF (az (az ok).2).1 ((if_pos hc).symm.trans h2)
 ·exact VE pJ J A env tr O af o aC aj hF (az (az ok).2).2 ((if_neg (by rw[hc];decide)).symm.trans h2)
theorem BB(W:Wd prog w hB C N p mg mb mN Y k){ex cause:Option Expr}:jJ Y k (n+1) (.Raise ex cause pos):=by
 cases ex with
 |none=>exact jS λ _ _=>rfl
 |some e=>
  cases cause with
  |some c=>exact jS λ _ _=>rfl
  |none=>
   intro J A env tr O U o aC aj hF ok h;have ok:(Jo e).any (λ q=>(kd env q.1 == .uF) && PE q.2)=true:=ok;refine bC λ k9=>?_;cases hc:Jo e with
   |none=>rw[hc] at ok;exact bt ok
   |some q=>
    rw[hc] at ok;exact k9 (EY W hF.e hF.a (NX hc) (PH (az ok).2) (iU (az ok).1) h)
theorem IQ(W:Wd prog w hB C N p mg mb mN Y k)(OX:J1 prog w hB C mg Y k){body fin:List Stmt}:jJ Y k (n+1) (.Try body hs pJ fin pos):=by
 cases pJ with
 |cons a b=>exact jS λ _ _=>rfl
 |nil=>
  cases fin with
  |cons a b=>exact jS λ _ _=>rfl
  |nil=>
   intro J A env tr O U o aC aj hF ok h;obtain⟨a1,ok⟩:=az ok;cases PK (az ok).1 with
   |mk x f args p1 p2 p3 p4 h1 h2=>exact MA W OX hF a1 h1 h2 (az ok).2 h
theorem GC(W:Wd prog w hB C N p mg mb mN Y k)(OX:J1 prog w hB C mg Y k)(n:Nat)(st:Stmt):jJ Y k n st:=by
 induction n generalizing st with
 |zero=>exact λ J A env tr O U o aC aj hF ok h=>bt ok
 |succ n ih=>
  have VE:∀b,qZ Y k n b:=lU ih;cases st with
  |Assign ts e q=>exact match ts with
   |[]=>jS λ _ _=>rfl
   |_::_::_=>jS λ _ _=>rfl
   |[t]=>λ J A env tr O U o aC aj hF ok h=>sU W hF.e hF.a hF.f (az ok).1 (az ok).2 h
  |AugAssign tg op e q=>exact Mx W
  |Expr e q=>exact IP W
  |Return v q=>exact Mz W
  |If t b pJ q=>exact Pt W VE
  |For t it body pJ q=>
   cases pJ with
   |cons a b=>exact jS λ _ _=>rfl
   |nil=>exact My W VE
  |Break q=>exact λ J A env tr O U o aC aj hF ok h=>.of h Cj
  |Continue q=>exact λ J A env tr O U o aC aj hF ok h=>.of h uz
  |Raise ex cause q=>exact BB W
  |Try body hs pJ fin q=>exact IQ W OX
  |_=>exact jS λ _ _=>rfl
end
end
section
open PySem PyProof.Rows
variable{h:Heap}{v:V}{vals:List Value}{vs:List V}
section
variable{Y:Or}{k:Nat}
variable{J:Addr->Prop}{A:Around}{env:Env}{O aC:ak}{U aj af ar:ae}{e t:Expr}{pos:Pos}{o:Out}{H aB:bB}{s s':Shared}
theorem SR.eT(S:SR prog w hB C J H U s.heap):SR prog w hB C (Ex J H U) H [] s.heap:=by
 refine⟨S.keep,λ l n q=>by simp at q,λ l l' n n' q=>by simp at q,λ l n q=>by simp at q,λ l n q=>by simp at q,λ b hb=>⟨λ q=>?_,?_,?_⟩⟩
 ·obtain⟨l,n,e1,_⟩:=q;simp at e1
 ·rcases hb with q | ⟨l,n,e1,e2,rfl | rfl⟩
  ·exact(S.jo b q).2.1
  ·exact(S.off l n e1 e2).1
  ·exact(S.off l n e1 e2).2
 ·rcases hb with q | q
  ·exact(S.jo b q).2.2
  ·exact S.xv q
theorem noOwn(H:bB)(b:Addr):¬Own H [] b:=λ q=>by obtain⟨l,n,e1,_⟩:=q;cases e1
theorem VR.eT{v:Value}{x:V}(r:VR w J H U h v x)(hx:Mine.Internal.eT x=true):VR w (Ex J H U) H [] h v x:=by
 have hX:∀b,Ex (Ex J H U) H [] b->Ex J H U b:=λ b q=>q.elim id λ q=>absurd q (noOwn H b);cases x with
 |d x=>exact RD.keeps (λ _ _ _ q=>q) (λ b _ hb _ q=>hb (hX b q)) r
 |fs xs=>
  obtain⟨a,h1,h2,h3⟩:=r;exact⟨a,h1,λ q=>h2 (hX a q),h3⟩
 |_=>first | exact no hx | exact bt hx | cases hx
theorem CS{u:Value}{v0:V}(S:SR prog w hB C (Ex J H U) aB aj s'.heap)(r:VR w (Ex J H U) aB aj s'.heap u v0)(hb:back aj v0=some v):VR w J H U s'.heap u v:=by
 have hX:∀{iz:ae} b,Ex J H U b->Ex (Ex J H U) aB iz b:=λ b q=>.inl q;cases v0 with
 |d x=>cases hb;exact RD.keeps (λ _ _ _ q=>q) (λ b _ h1 _ q=>h1 (hX b q)) r
 |fs xs=>
  cases hb;obtain⟨a,h1,h2,h3⟩:=r;exact⟨a,h1,λ q=>h2 (hX a q),h3⟩
 |ty n=>first | exact no hb | exact bt hb | cases hb
 |o l=>
  have fz:(Mine.Internal.cn 8 aj (.o l)).map (λ x=>V.d x.1)=some v->VR w J H U s'.heap u v:=λ hb=>by
   obtain⟨⟨d,iz⟩,h1,h2⟩:=Option.map_eq_some_iff.mp hb;subst h2;obtain⟨_,_,R'⟩:=hW 8 S r h1;exact RD.keeps (λ _ _ _ q=>q) (λ b _ h1 _ q=>h1 (hX b q)) R'
  have hb:NW l aj aj[l]?=some v:=hb;cases hl:aj[l]? with
  |none=>rw[hl] at hb;exact fz hb
  |some nd=>
   rw[hl] at hb;cases nd with
   |set xs=>
    cases hb;obtain⟨rfl,_⟩:=r;exact⟨_,rfl,λ q=>(S.jo _ q).1 (Own.of (H:=aB) hl rfl).1,S.node l _ hl⟩
   |_=>exact fz hb
structure rf(hB:Heap)(p:FG)(mg mN:Str->Option Value):Prop where
 fn:∀f g,p.fn f=some g->∃a fd,mg f=some (.ref a)/\FnAt hB a g fd/\tX (iT p) (gC fd.scope.names) false g.body=true
 mt:∀m g,p.mt m=some g->∃a fd,mN m=some (.ref a)/\FnAt hB a g fd/\tX (iT p) (gC fd.scope.names) false g.body=true/\∃y,typeLookup (.type "object") m=pure y
theorem sD(n:Nat):(p.run n).gl=p.gl/\(p.run n).cls=p.cls:=by cases n<;>exact⟨rfl,rfl⟩
theorem sQ(R:aE (VR w J H U h) vals vs)(hs:vs.all Mine.Internal.eT=true):aE (VR w (Ex J H U) H [] h) vals vs:=
 R.Bh λ v x _ hx r=>r.eT (List.all_eq_true.mp hs x hx)
theorem IM(B:Base hB C N p mg mb mN)(T:rf hB p mg mN):∀n,y9 prog w hB C mg mN (p.run n) n/\J1 prog w hB C mg (p.run n) n:=by
 intro n
 induction n with
 |zero=>
  refine⟨⟨λ f vs v h=>?_,λ m vs U v aj h=>?_⟩,λ f vs h=>?_⟩
  ·exact by cases(show(none:Option (Option V))=some (some v) from h)
  ·exact by cases(show(none:Option (V×ae))=some (v,aj) from h)
  ·exact by cases(show(none:Option (Option V))=some none from h)
 |succ n ih=>
  have W:Wd prog w hB C N p mg mb mN (p.run n) n:=⟨B,ih.1,(sD n).1,(sD n).2⟩;have body:∀(g:Fn) (fd:FuncData) (O aC:ak) (U aj:ae) (o:Out),tX (iT p) (gC fd.scope.names) false g.body=true->xs (p.run n) g.body O U=some (o,aC,aj)->
    ∀J' A' env,aN env->cZ A' n->(∀x,kd env x=gC fd.scope.names x)->(∀x,env.kindOf x≠some .free)->XS prog w hB C J' A' env (execs g.body env) O U o aC aj:=λ g fd O aC U aj o AG hx J' A' env hE hA hk hf=>
   lU (GC W ih.2 12) g.body J' A' env false O U o aC aj ⟨hE,hA,hf,λ q=>by cases q⟩ (funext hk▸AG) hx
  refine⟨⟨λ f vs v h yZ=>?_,λ m vs U v aj h=>?_⟩,λ f vs h yZ=>?_⟩
  ·have h':(do let g<-p.fn f;let O<-binds g.params vs;let (o,_,U)<-xs (p.run n) g.body O [];match o with | .rt v=>(back U v).map some | .nx=>some (some (.d .none)) | .ex=>some none | _=>none)=some (some v):=h;refine bC λ k9=>?_;obtain⟨g,hg,h'⟩:=a9 h';obtain⟨O,hb,h'⟩:=a9 h';obtain⟨o,aC,aj,hx,ho⟩:=zl h';obtain⟨a,fd,q1,X,AG⟩:=T.fn f g hg;refine k9 ?_;refine⟨a,fd,q1,X.obj,λ A U hA J H s vals Q E S R hQ=>?_⟩;refine Aj (J:=Ex J H U) (U:=[]) B.lim X hA S.eT (sQ R yZ) hb (λ q=>?_) (λ J' env hE DR _ hk hf=>body g fd O aC [] aj o AG hx J' _ env hE DR hk hf) λ u s' aB g' hr=>?_
   ·subst q;cases ho
   ·have kp:∀b ob,s.heap.get? b=some ob->s'.heap.get? b=some ob:=λ b ob q=>g'.aH.kp b ob (noOwn H b) q;have gg:aS prog w hB C J s H U s' H U:=⟨g'.same,bZ.bx kp,S.bx kp⟩;refine hQ u s' H gg ?_;cases o with
    |rt v0=>
     refine bC λ k9=>?_;obtain⟨v1,h1,h2⟩:=Option.map_eq_some_iff.mp ho;cases h2;refine k9 ?_;exact CS g'.sr hr h1
    |nx=>
     cases ho;obtain rfl:u=.none:=hr;exact RD.none
    |_=>first | exact no ho | exact bt ho | cases ho
  ·have h':(do let g<-p.mt m;let O<-binds g.params vs;let (o,_,U)<-xs (p.run n) g.body O U;match o with | .rt v=>some (v,U) | .nx=>some (.d .none,U) | _=>none)=some (v,aj):=h;refine bC λ k9=>?_;obtain⟨g,hg,h'⟩:=a9 h';obtain⟨O,hb,h'⟩:=a9 h';obtain⟨o,aC,iz,hx,ho⟩:=zl h';obtain⟨a,fd,q1,X,AG,Ub⟩:=T.mt m g hg;refine k9 ?_;refine⟨a,fd,q1,X.obj,Ub,λ A hA J H s vals Q E S R hQ=>?_⟩;refine Aj B.lim X hA S R hb (λ q=>?_) (λ J' env hE DR _ hk hf=>body g fd O aC U iz o AG hx J' _ env hE DR hk hf) λ u s' aB g' hr=>?_
   ·subst q;cases ho
   ·cases o with
    |rt v0=>
     refine bC λ k9=>?_;cases ho;refine k9 ?_;exact hQ u s' aB g' hr
    |nx=>
     refine bC λ k9=>?_;cases ho;obtain rfl:u=.none:=hr;refine k9 ?_;exact hQ _ s' aB g' RD.none
    |_=>first | exact no ho | exact bt ho | cases ho
  ·have h':(do let g<-p.fn f;let O<-binds g.params vs;let (o,_,U)<-xs (p.run n) g.body O [];match o with | .rt v=>(back U v).map some | .nx=>some (some (.d .none)) | .ex=>some none | _=>none)=some none:=h;refine bC λ k9=>?_;obtain⟨g,hg,h'⟩:=a9 h';obtain⟨O,hb,h'⟩:=a9 h';obtain⟨o,aC,aj,hx,ho⟩:=zl h';obtain⟨a,fd,q1,X,AG⟩:=T.fn f g hg;refine k9 ?_;have TV:o=.ex:=by
    cases o with
    |rt v0=>obtain⟨v1,h1,h2⟩:=Option.map_eq_some_iff.mp ho;cases h2
    |ex=>rfl
    |_=>first | exact no ho | exact bt ho | cases ho
   subst TV;refine⟨a,fd,q1,X.obj,λ A hA J H U s vals Q E eL L oL S R vt Oa Ob MV N9 SO hE=>?_⟩;refine KQ (J:=Ex J H U) (U:=[]) B.lim X hA S.eT (sQ R yZ) hb vt Oa Ob MV N9 (S.jo L SO).2.1 (noOwn H L) (body g fd O aC [] aj .ex AG hx) (λ env s₁ s' aB k1 k2 ev b ob q=>?_) hE;exact ev.kp b ob (noOwn H b) (λ z=>by rw[k2 b z] at q;cases q) (k1 b ob q)
theorem Ig{a:Addr}{g:Fn}{fd:FuncData}{n:Nat}{Q:Value->Shared->Prop}{E:Value->Shared->Prop}(B:Base hB C N p mg mb mN)(T:rf hB p mg mN)(X:FnAt hB a g fd)(AG:tX (iT p) (gC fd.scope.names) true g.body=true)
  (hA:Cr A (n+1)) (vt:A.frames=some []) (S:SR prog w hB C J H U s.heap) (R:aE (VR w J H U s.heap) vals vs) (hb:binds g.params vs=some O) (hx:xs (p.run n) g.body O U=some (.rt v,aC,aj))
  (h:∀u s' aB,aS prog w hB C J s H U s' aB aj->VR w J aB aj s'.heap u v->Q u s'):wpAny (model prog w) A (call (.ref a) vals) Q E s:=by
 have ih:=IM B T n;have W:Wd prog w hB C N p mg mb mN (p.run n) n:=⟨B,ih.1,(sD n).1,(sD n).2⟩;refine Aj (o:=.rt v) (aC:=aC) (aj:=aj) B.lim X hA S R hb (λ q=>by cases q) (λ J' env hE DR FZ hk hf=>?_) h;exact lU (GC W ih.2 12) g.body J' _ env true O U _ aC aj ⟨hE,DR,hf,λ _=>⟨by show A.frames.map _=_;rw[vt];rfl,FZ⟩⟩ (funext hk▸AG) hx
end
end
section
open PySem
variable{vs:List Value}
theorem Cn{x:Str}{ns:List Str}(h:vs.length=ns.length)(hx:x∈ns):((ns.zip vs).lookup x).isSome=true:=by
 induction ns generalizing vs with
 |nil=>cases hx
 |cons n ns ih=>
  cases vs with
  |nil=>cases h
  |cons v vs=>
   rw[List.zip_cons_cons,List.lookup_cons];cases q:(x == n) with
   |true=>rfl
   |false=>exact ih (Nat.succ.inj h) ((List.mem_cons.mp hx).resolve_left λ e=>ne_of_beq_false q e)
theorem kR{G β:Type}{f g:G->Option β}{l:List G}(h:∀x∈l,f x=g x):l.filterMap f=l.filterMap g:=by
 induction l with
 |nil=>rfl
 |cons a l ih=>rw[List.filterMap_cons,List.filterMap_cons,h a List.mem_cons_self,ih λ x hx=>h x (List.mem_cons_of_mem _ hx)]
theorem Jl{ns:List Str}(h:vs.length=ns.length)(hn:ns.Nodup):(ns.filterMap λ n=>((ns.zip vs).lookup n).map (n,·))=ns.zip vs:=by
 induction ns generalizing vs with
 |nil=>rfl
 |cons n ns ih=>
  cases vs with
  |nil=>cases h
  |cons v vs=>
   have hn:=List.nodup_cons.mp hn;rw[List.zip_cons_cons,List.filterMap_cons_some (b:=(n,v)) (by rw[List.lookup_cons,beq_self_eq_true];rfl)];refine congrArg _ (.trans (kR λ x hx=>?_) (ih (Nat.succ.inj h) hn.2));rw[List.lookup_cons,beq_false_of_ne (λ q:x=n=>hn.1 (q▸hx))]
theorem uX{fd:FuncData}{a:Arguments}(hp:fd.params=a)(h1:a.posonlyargs=[])(h2:a.vararg=none)(h3:a.kwonlyargs=[])(h4:a.kwarg=none)(hd:fd.defaults=.none)(hn:(a.args.map (·.arg)).Nodup)(vals:List Value)(hl:vals.length=(a.args.map (·.arg)).length) :
  bindArgs fd ⟨vals,[]⟩=pure ((a.args.map (·.arg)).zip vals):=by
 obtain⟨_,_,p,_,_,_,_,d,_⟩:=fd;obtain⟨_,as,_,_,_,_,_⟩:=a;cases h1;cases h2;cases h3;cases h4;cases hp;cases hd;have e1:((as.map (·.arg)).filter λ n=>(((as.map (·.arg)).zip vals).lookup n).isNone)=[]:=List.filter_eq_nil_iff.mpr λ x hx=>by
  rw[<-Option.not_isSome,Cn hl hx];decide
 have e3:¬(decide (vals.length > (as.map (·.arg)).length) && true)=true:=λ q=>Nat.ne_of_gt (of_decide_eq_true (Bool.and_eq_true_iff.mp q).1) hl;have e5:List.drop (([]:List Value).length-(as.map (·.arg)).length) ([]:List Value)=[]:=List.drop_nil;have e4:¬(!(List.filter (λ n=>(((as.map (·.arg)).zip vals).lookup n).isNone) ((as.map (·.arg)).take ((as.map (·.arg)).length-(List.drop (([]:List Value).length-(as.map (·.arg)).length) ([]:List Value)).length))).isEmpty)=true:=by
  rw[e5,show(as.map (·.arg)).take ((as.map (·.arg)).length-([]:List Value).length)=as.map (·.arg) from List.take_length,e1];decide
 refine(if_neg e3).trans ((if_neg e4).trans ?_);show(forIn (((as.map (·.arg)).drop ((as.map (·.arg)).length-(List.drop (([]:List Value).length-(as.map (·.arg)).length) ([]:List Value)).length)).zip (List.drop (([]:List Value).length-(as.map (·.arg)).length) ([]:List Value))) _ _ >>= _)=_;rw[e5,List.zip_nil_right];refine congrArg (pure (f:=Sem)) ((?_:List.filterMap _ (as.map (·.arg)++[])=_).trans (Jl hl hn));rw[List.append_nil];rfl
end
section
open PySem PySem.W PyProof.Rows
variable{a b:Addr}{d:Data}{fd:FuncData}{h h':Heap}{o:Obj}{q:Str}{v:Value}{vs:Array Value}{G β:Type}
noncomputable def w7:Option NameKind->Bool
 |some .local=>true
 |some .cell=>true
 |_=>false
noncomputable def A2:NameKind->Bool
 |.free=>true
 |_=>false
noncomputable def xD:ScopeKind->Bool
 |.function=>true
 |_=>false
noncomputable def G6(d:Df):Bool:=
 d.a.posonlyargs.isEmpty && (d.a.vararg.isNone && (d.a.kwonlyargs.isEmpty && (d.a.kwarg.isNone && (!d.sc.isCoroutine && (!d.sc.isGenerator && (xD d.sc.kind &&
 (decide d.fn.params.Nodup && (decide (d.sc.names.map (·.1)).Nodup && (d.sc.names.all (λ x=>!A2 x.2) && d.fn.params.all λ x=>w7 (d.sc.names.lookup x))))))))))
theorem lg(h:Bx v=some a):v=.ref a:=by
 cases v with
 |ref b=>cases h;rfl
 |_=>exact no h
theorem pe{n:String}(h:B2 v=some n):v=.type n:=by
 cases v with
 |type m=>cases h;rfl
 |_=>exact no h
theorem D4(h:LR v=true):v=.none:=by
 cases v with
 |none=>rfl
 |_=>exact bt h
theorem qS(h:BQ v=some q):∃t,v=.str q t:=by
 cases v with
 |str m t=>cases h;exact⟨t,rfl⟩
 |_=>exact no h
theorem qh(h:wR d=some vs):d=.fields vs:=by
 cases d with
 |fields ws=>cases h;rfl
 |_=>exact no h
theorem yo(h:FQ d=some fd):d=.func fd:=by
 cases d with
 |func f=>cases h;rfl
 |_=>exact no h
theorem zC(e:codeB h fd=some q):h.CodeRec fd.code q:=by
 refine bC λ k9=>?_;obtain⟨c,e1,e⟩:=a9 e;obtain⟨o,e2,e⟩:=a9 e;obtain⟨vs,e3,e⟩:=a9 e;obtain⟨v,e4,e⟩:=a9 e;obtain⟨t,rfl⟩:=qS e;refine k9 ?_;exact⟨c,o,vs,t,lg e1,e2,qh e3,e4⟩
theorem mem_lookup[BEq G][LawfulBEq G]{k:G}{v:β}{l:List (G×β)}:l.lookup k=some v->(k,v)∈l:=by
 induction l with
 |nil=>intro h;cases h
 |cons x l ih=>
  intro h;rw[show x=(x.1,x.2) from rfl,List.lookup_cons] at h;cases q:(k == x.1) with
  |true=>rw[q] at h;cases h;rw[eq_of_beq q];exact List.mem_cons_self
  |false=>rw[q] at h;exact List.mem_cons_of_mem _ (ih h)
theorem MB{k:ScopeKind}(h:xD k=true):k=.function:=by cases k<;>first | rfl | exact bt h
theorem H9{k:Option NameKind}(h:w7 k=true):k=some .local\/k=some .cell:=by
 cases k with
 |none=>exact bt h
 |some y=>cases y<;>first | exact .inl rfl | exact .inr rfl | exact bt h
theorem xE{v:Option Value}{d:Df}(e:IS h v=d.Pw)(k:∀b o,h.get? b=some o->h'.get? b=some o)(c:G6 d=true):∃a fd,v=some (.ref a)/\FnAt h' a d.fn fd/\fd.scope=d.sc:=by
 refine bC λ k9=>?_;obtain⟨v',q0,e⟩:=a9 e;obtain⟨a,q1,e⟩:=a9 e;obtain⟨o,q2,e⟩:=a9 e;obtain⟨fd,q3,e⟩:=a9 e;refine k9 ?_;refine Classical.byCases (p:=Qe h o fd=true) (λ q4=>?_) (λ q4=>?_)
 ·obtain⟨e1,e2⟩:=Prod.mk.inj (Option.some.inj ((if_pos q4).symm.trans e));refine bC λ k9=>?_;obtain⟨e2,e3⟩:=Prod.mk.inj e2;obtain⟨u1,q4⟩:=az q4;obtain⟨u0,q4⟩:=az q4;obtain⟨u2,q4⟩:=az q4;obtain⟨u3,q4⟩:=az q4;obtain⟨u4,q4⟩:=az q4;obtain⟨a1,c⟩:=az c;obtain⟨a2,c⟩:=az c;obtain⟨a3,c⟩:=az c;obtain⟨a4,c⟩:=az c;obtain⟨s1,c⟩:=az c;obtain⟨s2,c⟩:=az c;obtain⟨s3,c⟩:=az c;obtain⟨n1,c⟩:=az c;obtain⟨n2,c⟩:=az c;refine k9 ?_;exact⟨a,fd,q0.trans (congrArg some (lg q1)),⟨⟨o,k a o q2,yo q3,pe (eq_of_beq u1)⟩,(zC (eq_of_beq (az q4).2)).keeps k,e2,
   uX e1 (List.isEmpty_iff.mp a1) (Option.isNone_iff_eq_none.mp a2) (List.isEmpty_iff.mp a3) (Option.isNone_iff_eq_none.mp a4) (D4 (az q4).1) (of_decide_eq_true n1),List.isEmpty_iff.mp u2,eq_of_beq u3,eq_of_beq u4,
   e3▸iM s1,e3▸iM s2,e3▸MB s3,of_decide_eq_true n1,e3▸of_decide_eq_true n2,e3▸(λ x q=>bt (List.all_eq_true.mp (az c).1 _ (mem_lookup q))),e3▸λ x hx=>H9 (List.all_eq_true.mp (az c).2 x hx),λ q=>(Bool.or_eq_true_iff.mp u0).elim (λ z=>bt ((iM z).symm.trans (by rw[q];rfl))) λ z=>lg (eq_of_beq z)⟩,e3⟩
 ·exact no ((if_neg q4).symm.trans e)
theorem lh(h:seq? d=some vs):d=.seq vs 0:=by
 cases d with
 |seq ws n=>
  cases n with
  |zero=>cases h;rfl
  |succ n=>exact no h
 |_=>exact no h
theorem B1{T:String}{vs:List Value}(h:yQ T o=some vs):o={ cls:=.type T,data:=.seq vs.toArray 0 }/\vs.length<=iH:=by
 obtain⟨ws,h1,h⟩:=a9 h;refine Classical.byCases (p:=B2 o.cls=some T/\o.dict.isNone=true/\o.slots.size=0/\ws.toList.length<=iH) (λ q=>?_) (λ q=>?_)
 ·cases(if_pos q).symm.trans h;obtain⟨a,b,c,d⟩:=o;refine⟨?_,q.2.2.2⟩;rw[show a=.type T from pe q.1,show b=none from Option.isNone_iff_eq_none.mp q.2.1,show c=.seq ws 0 from lh h1,show d=#[] from Array.eq_empty_of_size_eq_zero q.2.2.1]
 ·exact no ((if_neg q).symm.trans h)
theorem qB{f:G->Option β}{R:G->β->Prop}(VC:∀a b,f a=some b->R a b):∀{l:List G} {r:List β},l.mapM f=some r->aE R l r:=by
 intro l
 induction l with
 |nil=>
  intro r h;cases h;exact aE.nil
 |cons a l ih=>
  intro r h;rw[List.mapM_cons] at h;obtain⟨b,h1,h⟩:=a9 h;obtain⟨bs,h2,h⟩:=a9 h;cases h;exact aE.cons (VC a b h1) (ih h2)
theorem vV{h:Heap}:∀n v d,JE h n v=some d->RD (λ _=>False) h v d
 |0,_,_,e=>by cases e
 |n+1,v,d,e=>by
  cases v with
  |int i t=>cases e;exact .int i t
  |str x t=>
   cases q:PyData.strOk x with
   |true=>cases(if_pos q).symm.trans e;exact .str x t q
   |false=>cases(if_neg (by rw[q];decide)).symm.trans e
  |ref a=>
   have e:(match(h.get? a).bind (yQ "tuple") with
    |some vs=>(vs.mapM (JE h n)).map PyData.tuple
    |none=>((h.get? a).bind (yQ "list")).bind λ vs=>(vs.mapM (JE h n)).map .list)=some d:=e
   cases q0:(h.get? a).bind (yQ "tuple") with
   |some vs=>
    rw[q0] at e;obtain⟨o,q3,q4⟩:=a9 q0;obtain⟨ds,q5,rfl⟩:=Option.map_eq_some_iff.mp e;obtain⟨rfl,q6⟩:=B1 q4;exact RD.pd q3 (λ q=>q) q6 (qB (vV n) q5)
   |none=>
    rw[q0] at e;obtain⟨vs,q1,q2⟩:=a9 e;obtain⟨o,q3,q4⟩:=a9 q1;obtain⟨ds,q5,rfl⟩:=Option.map_eq_some_iff.mp q2;obtain⟨rfl,q6⟩:=B1 q4;exact RD.qz q3 (λ q=>q) q6 (qB (vV n) q5)
  |_=>exact no e
theorem rJ(h:Heap):(fr h).get? PL=none:=by
 unfold fr Heap.update Heap.get?;dsimp only;rw[Array.getElem?_modify,if_pos rfl];cases h.objs[PL]?<;>rfl
theorem ql(hb:b≠PL):(fr h).get? b=h.get? b:=Heap.get?_update_other _ _ (Ne.symm hb)
theorem lT(q:(fr h).get? b=some o):b≠PL/\h.get? b=some o:=by
 have hb:b≠PL:=λ e=>by rw[e,rJ] at q;cases q
 exact⟨hb,(ql hb).symm.trans q⟩
theorem qw{q:Int}(h:AS v=some q):∃t,v=.int q t:=by
 cases v with
 |int m t=>cases h;exact⟨t,rfl⟩
 |_=>exact no h
theorem uY{q:Bool}(h:zq v=some q):v=.bool q:=by
 cases v with
 |bool m=>cases h;rfl
 |_=>exact no h
theorem zE(e:zD h=true)(k:∀b o,h.get? b=some o->h'.get? b=some o):JT h':=by
 unfold zD at e;cases h1:h.get? cL with
 |none=>rw[h1] at e;exact bt e
 |some o=>
  rw[h1] at e;obtain⟨e1,e⟩:=az e;cases h2:wR o.data with
  |none=>rw[h2] at e;exact bt e
  |some vs=>
   rw[h2] at e;obtain⟨e2,e⟩:=az e;obtain⟨e3,e⟩:=az e;obtain⟨e4,e⟩:=az e;obtain⟨e5,e6⟩:=az e;obtain⟨v11,a1,a2⟩:=a9 (eq_of_beq e2);obtain⟨U8,e3⟩:=Option.isSome_iff_exists.mp e3;obtain⟨Vy,b1,b2⟩:=a9 e3;obtain⟨UR,rfl⟩:=qS b2;obtain⟨x7,e4⟩:=Option.isSome_iff_exists.mp e4;obtain⟨v7,c1,c2⟩:=a9 e4;obtain⟨t7,rfl⟩:=qw c2;obtain⟨x9,e5⟩:=Option.isSome_iff_exists.mp e5;obtain⟨v9,d1,d2⟩:=a9 e5;obtain rfl:=uY d2;obtain⟨U7,e6⟩:=Option.isSome_iff_exists.mp e6;obtain⟨v10,f1,f2⟩:=a9 e6;obtain⟨UQ,rfl⟩:=qw f2;obtain rfl:=lg a2;exact⟨o,vs,U8,UR,x7,t7,x9,U7,UQ,k _ _ h1,pe (eq_of_beq e1),qh h2,a1,b1,c1,d1,f1⟩
theorem Iz{m m':Str->Option Value}(n:h.Ns a m)(n':h.Ns a m'):m=m':=by
 refine bC λ k9=>?_;obtain⟨o,es,ep,h1,h2,h3,h4⟩:=n;obtain⟨o',vf,Ve,g1,g2,g3,g4⟩:=n';refine k9 ?_;rw[h1] at g1;cases g1;rw[h2] at g2;cases g2;exact funext λ x=>(h4 x).symm.trans (g4 x)
theorem EE{n:Str}(h:(fastLookup "object" n).isSome=true):∃y,typeLookup (.type "object") n=pure y:=by
 obtain⟨y,h⟩:=Option.isSome_iff_exists.mp h;exact⟨y,by rw[typeLookup_type,builtinLookup_eq_fast,h]⟩
theorem map_one{f g:G->β}:∀{l:List G},l.map f=l.map g->∀x∈l,f x=g x:=by
 intro l
 induction l with
 |nil=>
  intro _ x h;exact by cases h
 |cons a l ih=>
  intro e x h;obtain⟨e1,e2⟩:=List.cons.inj e;rcases List.mem_cons.mp h with rfl | h
  ·exact e1
  ·exact ih e2 x h
end
section
open PySem PySem.W PyProof.Rows
namespace L1
theorem left:LeftO PySem.Challenge.pw_sx_r140_1 PySem.Challenge.pw_sx_r140_1 ["_law_nets"] (λ s=>xlAt PySem.Challenge.pw_sx_r140_1 [] s && recOk (RowW.records PySem.Challenge.rw_sx_r140_1.row.toRowW) s) (λ s=>(s.heap.get? PL,obs (fr s.heap))) (λ _=>(some { cls:=.none,data:=.fields #[] },Qa)) 2500:=by
 intro w
 kernel_rfl
theorem PN:((zP body).all λ d=>G6 d && tX (iT bM) (gC d.sc.names) (d.nm == ("law":Str)) d.b)=true:=by kernel_rfl
theorem PO:((zP (wD body)).all λ d=>G6 d && tX (iT bM) (gC d.sc.names) false d.b && (fastLookup "object" d.nm).isSome)=true:=by kernel_rfl
theorem Sl:Cw.map (λ q=>bootBuiltins q.1)=Cw.map (λ q=>some q.2):=by kernel_rfl
theorem Sm:(Cw.all λ q=>!(q.1 == ("__name__":Str)))=true:=by kernel_rfl
theorem xg{l:List Stmt}{f:Str}{g:Fn}(h:(f,g)∈N0 l):∃d∈zP l,f=d.nm/\g=d.fn/\(d.nm == ("law":Str))=false:=by
 obtain⟨d,h1,h2⟩:=List.mem_filterMap.mp h;by_cases q:d.nm=("law":Str)
 ·rw[if_pos q] at h2;cases h2
 ·rw[if_neg q] at h2;cases h2;exact⟨d,h1,rfl,rfl,beq_false_of_ne q⟩
theorem vp{x:Str}{v:V}(q:bM.gl x=some v):(x="_law_nets"/\v=.d Bk)\/∃t,(x,.type t)∈Cw/\v=.ty t:=by
 by_cases h1:x=("_law_nets":Str)
 ·exact .inl ⟨h1,(Option.some.inj ((if_pos h1).symm.trans q)).symm⟩
 ·have q:=(if_neg h1).symm.trans q;by_cases h2:x=("int":Str)
  ·exact .inr ⟨"int",h2▸by decide,(Option.some.inj ((if_pos h2).symm.trans q)).symm⟩
  ·have q:=(if_neg h2).symm.trans q;by_cases h3:x=("bool":Str)
   ·exact .inr ⟨"bool",h3▸by decide,(Option.some.inj ((if_pos h3).symm.trans q)).symm⟩
   ·have q:=(if_neg h3).symm.trans q;by_cases h4:x=("tuple":Str)
    ·exact .inr ⟨"tuple",h4▸by decide,(Option.some.inj ((if_pos h4).symm.trans q)).symm⟩
    ·exact no ((if_neg h4).symm.trans q)
theorem base{q:Program}{loose:List Str}{Em:ExcName->Option Value}{mg mb:Str->Option Value}{hR:Heap}(KX:NO hR)(T:Top q loose Em mg mb hR) :
  Base (fr hR) 53 52 bM mg mb ((fr hR).nsMap 52)/\rf (fr hR) bM mg ((fr hR).nsMap 52)/\hR.get? PL=some { cls:=.none,data:=.fields #[] }/\∃a fd,mg "law"=some (.ref a)/\FnAt (fr hR) a (oy body) fd/\tX (iT bM) (gC fd.scope.names) true (oy body).body=true:=by
 refine bC λ k9=>?_;obtain⟨h₀,⟨eP,e⟩,k⟩:=KX
 replace eP:=k _ _ eP
 replace k:∀b o,(fr h₀).get? b=some o->(fr hR).get? b=some o:=λ b o q=>(ql (lT q).1).trans (k b o (lT q).2)
 have Tg:(fr hR).Ns mainGlobals mg:=T.g.at' λ o q=>(ql (by decide)).trans q;have Tb:(fr hR).Ns builtinsNs mb:=T.b.at' λ o q=>(ql (by decide)).trans q;have Tl:(fr hR).NoLimit:=(by obtain⟨mc,n,q⟩:=T.nolimit;exact⟨mc,n.at' λ o q=>(ql (by decide)).trans q,q⟩);have Tm:∃bm ob,BMod (fr hR) mainGlobals mg bm ob:=by
  obtain⟨bm,ob,M⟩:=bmod_of_top T;exact⟨bm,ob,Tg,M.name,M.ne,(ql λ e=>by rw[e] at M;cases(congrArg Obj.cls (Option.some.inj (eP.symm.trans M.obj))).trans M.cls).trans M.obj,M.cls,M.dict,M.data⟩
 generalize fr h₀=h₀ at e k;generalize fr hR=h at k Tg Tb Tl Tm k9;obtain⟨e1,e⟩:=Prod.mk.inj e;obtain⟨e2,e⟩:=Prod.mk.inj e;obtain⟨e3,e⟩:=Prod.mk.inj e;obtain⟨e4,e⟩:=Prod.mk.inj e;obtain⟨e5,e⟩:=Prod.mk.inj e;obtain⟨e6,e⟩:=Prod.mk.inj e;obtain⟨e7,e8⟩:=Prod.mk.inj e;refine k9 ?_;have e8:=Bool.and_eq_true_iff.mp e8;have e9:=Bool.and_eq_true_iff.mp e8.2;obtain rfl:mg=h₀.nsMap mainGlobals:=Iz Tg ((Heap.Ns.of_isNs e8.1).keeps k);have Ru:=(Heap.Ns.of_isNs e9.1).keeps k;have eN:h.nsMap 52=h₀.nsMap 52:=by
  refine bC λ k9=>?_;obtain⟨o,es,ep,h1,h2,h3,h4⟩:=Ru;refine k9 ?_;refine funext λ x=>?_;rw[<-h4 x];unfold Heap.nsMap;rw[h1];dsimp only;rw[h2]
 rw[eN];have F:∀d∈zP body,∃a fd,h₀.nsMap mainGlobals d.nm=some (.ref a)/\FnAt h a d.fn fd/\tX (iT bM) (gC fd.scope.names) (d.nm == ("law":Str)) d.b=true:=λ d hd=>by
  refine bC λ k9=>?_;obtain⟨c1,c2⟩:=Bool.and_eq_true_iff.mp (List.all_eq_true.mp PN d hd);obtain⟨a,fd,q1,q2,q3⟩:=xE (map_one e1 d hd) k c1;refine k9 ?_;exact⟨a,fd,q1,q2,q3▸c2⟩
 have tx:rf h bM (h₀.nsMap mainGlobals) (h₀.nsMap 52):=by
  refine⟨λ f g q=>?_,λ m g q=>?_⟩
  ·obtain⟨d,hd,rfl,rfl,hl⟩:=xg (mem_lookup q);have:=F d hd;rw[hl] at this;exact this
  ·obtain⟨d,hd,rfl,rfl,hl⟩:=xg (mem_lookup q);refine bC λ k9=>?_;obtain⟨c,c3⟩:=Bool.and_eq_true_iff.mp (List.all_eq_true.mp PO d hd);obtain⟨c1,c2⟩:=Bool.and_eq_true_iff.mp c;obtain⟨a,fd,q1,q2,q3⟩:=xE (map_one e2 d hd) k c1;refine k9 ?_;exact⟨a,fd,q1,q2,q3▸c2,EE c3⟩
 have yW:∀n v,(n,v)∈Cw->h₀.nsMap mainGlobals n=none/\mb n=some v:=λ n v hn=>
  ⟨map_one e4 _ hn,(T.builtins n (λ q=>by have:=List.all_eq_true.mp Sm _ hn;rw[q] at this;cases this)).trans (map_one Sl _ hn)⟩
 have hk:=map_one e3;refine⟨⟨Tl,zE e9.2 k,Tm,Tg,Tb,λ x d q=>?_,λ x t q=>?_,λ x v q=>?_,yW,e7,⟨⟨_,_,_,_,_,_,_,_,_,_,_,_,k _ _ e5⟩,Ru⟩,⟨hk _ (by decide),hk _ (by decide),hk _ (by decide)⟩,λ n hn=>hk n ?_,?_,?_⟩,tx,eP,?_⟩
 ·rcases vp q with ⟨rfl,e⟩ | ⟨_,_,e⟩
  ·cases e;refine bC λ k9=>?_;obtain⟨u,q1,q2⟩:=a9 e6;refine k9 ?_;exact⟨u,q1,(vV _ _ _ q2).keeps (λ b o _ q=>k b o q) (λ _ _ _ _ q=>q)⟩
  ·cases e
 ·rcases vp q with ⟨_,e⟩ | ⟨_,hm,e⟩
  ·cases e
  ·cases e;exact yW _ _ hm
 ·rcases vp q with ⟨_,e⟩ | ⟨_,_,e⟩
  ·exact .inl ⟨_,e⟩
  ·exact .inr ⟨_,e⟩
 ·exact List.mem_cons_of_mem _ (List.mem_cons_of_mem _ (List.mem_cons_of_mem _ hn))
 ·exact λ m g q=>(by obtain⟨a,fd,h1,h2,_,h4⟩:=tx.mt m g q;exact⟨a,fd,h1,h2,h4⟩)
 ·exact λ f g q=>(by obtain⟨a,fd,h1,h2,_⟩:=tx.fn f g q;exact⟨a,fd,h1,h2⟩)
 ·cases hf:(zP body).find? λ d=>d.nm == ("law":Str) with
  |none=>exact absurd hf (by decide +kernel)
  |some d=>
   have hn:=List.find?_some hf;refine bC λ k9=>?_;obtain⟨a,fd,h1,h2,h3⟩:=F d (List.mem_of_find?_eq_some hf);refine k9 ?_;have:oy body=d.fn:=by unfold oy;rw[hf];rfl
   rw[this];rw[hn] at h3;exact⟨a,fd,eq_of_beq hn▸h1,h2,h3⟩
end L1
end
section
set_option tactic.hygienic true
open PySem PySem.W PyProof.Rows
variable{a:Addr}{h:Heap}{vs:List Value}
theorem tI{X:Addr->Prop}{ns:List Int}(r:IntsAre vs ns):aE (RD X h) vs (ns.map .int):=by
 induction r with
 |nil=>exact aE.nil
 |cons n t _ ih=>exact aE.cons (RD.int n t) ih
theorem qW{P:Prop}{o o':Obj}(q:h.get? a=some o')(ho:h.get? a=some o)(hc:o.cls=.type "list")(hn:o'.cls≠.type "list"):P:=
 absurd ((congrArg Obj.cls (Option.some.inj (q.symm.trans ho))).trans hc) hn
theorem yU{P:Params}{d:WData}(W:Well P h (.ref a) d)(L:h.IsList a vs.toArray):h.get? a=some (bo vs 0):=by
 refine bC λ k9=>?_;obtain⟨o,ho,hc,n,hd⟩:=L;cases W with
 |list q _=>
  obtain rfl:=Option.some.inj (q.symm.trans ho);refine k9 ?_;rw[q,(Data.seq.inj hd).1]
 |tuple q _=>exact qW q ho hc (λ e=>nomatch Value.type.inj e)
 |bytearray q=>exact qW q ho hc (λ e=>nomatch Value.type.inj e)
 |dict q _=>exact qW q ho hc (λ e=>nomatch Value.type.inj e)
 |set q=>exact qW q ho hc (λ e=>nomatch Value.type.inj e)
 |frozenset q=>exact qW q ho hc (λ e=>nomatch Value.type.inj e)
 |obj q=>exact qW q ho hc (λ e=>nomatch e)
theorem A3(l:OpenLaw)(args ds:List WData):l.row.toRowW.claim.post args (.bool true) ds=true:=by kernel_rfl
noncomputable def Np:bB:=λ _=>(PL,PL)
theorem xw{b:Addr}(h:Own Np [.eM] b):b=PL:=by
 obtain⟨_,_,_,_,e⟩:=h;exact e.elim id id
theorem vB{l:Nat}{n:Nd}(q:([.eM]:ae)[l]?=some n):l=0/\n=.eM:=by
 cases l with
 |zero=>cases q;exact⟨rfl,rfl⟩
 |succ l=>exact no q
theorem BL(hP:cx.hR.get? PL=some { cls:=.none,data:=.fields #[] }):SR prog w hB C (λ _=>False) Np [.eM] cx.hR:=
 ⟨λ _ _ q=>(lT q).2,λ l n q=>by obtain⟨rfl,rfl⟩:=vB q;exact⟨#[],rfl,hP,trivial⟩,λ l l' n n' q _ q' _ _=>(vB q).1.trans (vB q').1.symm,λ l n q _=>⟨rJ _,rJ _⟩,λ l n q _=>rfl,λ b hb=>hb.elim⟩
namespace L1
noncomputable def Good:Prop:=∀zs:List Int,zs.length<=63->∃aC aj,xs (bM.run 12) (oy body).body (upd (λ _=>none) "script" (.d (.list (zs.map .int)))) [.eM]=some (.rt (.d (.bool true)),aC,aj)/\pQ aj[0]?=true
noncomputable def Ks:DefRec×List (Str×Expr):=(defOf PySem.Challenge.pw_sx_r140_1 "law").get (by decide +kernel)
theorem Kr(VC:Good):cx.ok:=by
 intro KX ⟨q,loose,Em,T⟩ s a la ws zs hs hl ho hI hz;obtain⟨B,T,hP,a',fd,h1,h2,h3⟩:=base KX T;obtain rfl:a=a':=Value.ref.inj (Option.some.inj (hl.symm.trans h1));obtain⟨aC,aj,hx,hk⟩:=VC zs hz;have Qt:=tI (X:=Ex (λ _=>False) Np [.eM]) (h:=s.heap) hI;refine Ig (A:=callerA) (J:=λ _=>False) (H:=Np) (n:=12) (s:=s) B T h2 h3 ⟨rfl,by decide,by decide⟩ rfl (show SR prog w hB C (λ _=>False) _ [.eM] s.heap from hs▸BL hP) (vs:=[.d (.list (zs.map .int))]) (aE.one ?_) rfl hx λ u s' aB g r=>?_
 ·refine RD.qz (show s.heap.get? la=_ from hs▸ho) (λ q=>q.elim id λ q=>?_) ?_ Qt
  ·rw[xw q,hP] at ho;cases ho
  ·rw[Qt.1,List.length_map];exact Nat.le_trans hz (by decide)
 ·obtain rfl:u=.bool true:=by cases r;rfl
  refine⟨rfl,?_,g.same⟩;obtain⟨ps,q0,q1,q2⟩:=g.sr.node 0 _ (tM hk);rw[q0] at q1;have kp:∀b o,b≠PL->cx.hR.get? b=some o->s'.heap.get? b=some o:=λ b ob hb q=>g.aH.kp b ob (λ z=>hb (xw z)) (hs▸q);have t0:=(ox B (h:=cx.hR) (λ _ _ q=>(lT q).2) hP trivial).2;refine(OldK.refl cx.hR).step_table (more:=ps) t0 t0 ?_ kp (by decide);rw[Array.empty_append];exact(ox B (h:=s'.heap) (λ b o q=>kp b o (lT q).1 (lT q).2) q1 q2).2
theorem fin(VC:Good):PySem.Challenge.rw_sx_r140_1.Holds:=by
 refine holds_law (by kernel_rfl) λ Pu=>?_;refine holds_open (q:=PySem.Challenge.pw_sx_r140_1) (XP:=XL PySem.Challenge.pw_sx_r140_1 []) (YP:=λ _ h=>NO h) (d:=Ks.1) (kwd:=Ks.2) left (λ _ s e=>⟨s.heap,Prod.mk.inj e,λ _ _ q=>q⟩) (λ _ h h' ⟨h₀,e,k⟩ k'=>⟨h₀,e,λ b o q=>k' b o (k b o q)⟩)
  (λ s e=>xl_of s (Bool.and_eq_true_iff.mp e).1) XL.keeps (by kernel_rfl) (by kernel_rfl) (by kernel_rfl) (λ s e=>recFacts_of (Bool.and_eq_true_iff.mp e).2) (by kernel_rfl) Pu (by kernel_rfl) ⟨rfl,rfl,rfl,rfl,rfl,by decide +kernel⟩ ⟨[.list []],by decide +kernel,by decide +kernel⟩ ?_
 intro w eV s₁ mg mb VE VD fa o pm cd doc dV kV ho hd Vn hD TJ hg args vals as OH Oy T5 Ui Oz
 wrow_args OH Oy T5 Ui Oz
 rename_i zs _ _ _ _ _ _ _ la ws _ hL _ w1 _ hI _ aZ _;refine wpAny_mono (G5 (Kr VC) ⟨w,s₁.heap,mg,mb⟩ VD ⟨_,_,_,VE.T⟩ s₁ fa la ws zs rfl TJ (yU w1 hL) hI (by omega)) (λ v s' g=>?_) (λ _ _ g=>g.elim);obtain⟨rfl,g1,g2,g3⟩:=g;refine⟨.inl ⟨_,.bool true,[],rfl,λ _=>rfl,.bool true,?_,λ _=>⟨List.nodup_nil,λ a q=>by cases q⟩⟩,g1,g2,?_⟩
 ·exact A3 _ _ _
 ·obtain⟨ex,q1,q2⟩:=g3;rw[hg] at q1;intro y hy;rw[q1] at hy;exact q2 y (by simpa using hy)
end L1
end
section
namespace Q.L1
open PySem Classical Mine.Internal.L1
noncomputable section
inductive cB where
 |cO (v:Int)
 |mark (n:Str)
noncomputable abbrev Ch:=Nat×Nat
inductive ax where
 |out (c:Ch) (m:cB)
 |b5 (c:Ch) (m:cB)
 |aF (p:Nat) (n:Str)
 |aL (p:Nat) (n:Str)
inductive jI where
 |aL (p:Nat) (n:Str)
 |recv (c:Ch)
 |send (c:Ch) (v:Int)
noncomputable def c6:cB->PyData
 |.cO v=>.tuple [.str "pay",.int v]
 |.mark n=>.tuple [.str "mark",.str n]
noncomputable def Sp:ax->PyData
 |.out c m=>.tuple [.str "out",aD c,c6 m]
 |.b5 c m=>.tuple [.str "in",aD c,c6 m]
 |.aF p n=>.tuple [.str "save",.int p,.str n]
 |.aL p n=>.tuple [.str "snap",.int p,.str n]
noncomputable def d7:jI->PyData
 |.aL p n=>.tuple [.str "snap",.int p,.str n]
 |.recv c=>.tuple [.str "receive",.int c.1,.int c.2]
 |.send c v=>.tuple [.str "send",.int c.1,.int c.2,.int v]
noncomputable def tK(c:Ch):ax->Option cB
 |.out d m=>if d=c then some m else none
 |_=>none
noncomputable def w6(c:Ch):ax->Option cB
 |.b5 d m=>if d=c then some m else none
 |_=>none
noncomputable def outs(c:Ch)(ai:List ax):List cB:=ai.filterMap (tK c)
noncomputable def bN(c:Ch)(ai:List ax):List cB:=ai.filterMap (w6 c)
noncomputable def aq(ai:List ax)(c:Ch):List cB:=(outs c ai).drop (bN c ai).length
noncomputable def iB:cB->Option Int
 |.cO v=>some v
 |.mark _=>none
noncomputable def du(ms:List cB):List Int:=ms.filterMap iB
noncomputable def AW(p:Nat):ax->Option Int
 |.out c m=>if c.1=p then iB m else none
 |_=>none
noncomputable def Gm(p:Nat):ax->Option Int
 |.b5 c m=>if c.2=p then iB m else none
 |_=>none
noncomputable def fQ(p:Nat)(ai:List ax):List Int:=ai.filterMap (AW p)
noncomputable def jG(p:Nat)(ai:List ax):List Int:=ai.filterMap (Gm p)
noncomputable def bF(ai:List ax)(p:Nat)(start:Int):Int:=start+(jG p ai).sum-(fQ p ai).sum
noncomputable def bS(ai:List ax)(p:Nat):Nat:=(jG p ai).length+(fQ p ai).length
noncomputable def aK(ps:List Ch)(p:Nat)(n:Str):List ax:=.aF p n::(ps.filter λ c=>decide (c.1=p)).map λ c=>.out c (.mark n)
noncomputable def H4:ax->Option Str
 |.aL _ n=>some n
 |_=>none
noncomputable def names(ai:List ax):List Str:=ai.filterMap H4
set_option genInjectivity false in
structure Snap where
 name:Str
 a:List (Option Int)
 c:List (Option Nat)
 t:List (Nat×List Int)
set_option genInjectivity false in
structure St where
 b:List Int
 q:List (List cB)
 c:List Nat
 s:List Snap
noncomputable def gf:Nat->Str
 |0=>"idle"
 |1=>"open"
 |_=>"shut"
noncomputable def bw(l:List Int):PyData:=.list (l.map .int)
noncomputable def bK(l:List Nat):PyData:=.list (l.map fun(n:Nat)=>.int n)
noncomputable def pA:Option Int->PyData
 |none=>.none
 |some i=>.int i
noncomputable def rD:Option Nat->PyData
 |none=>.none
 |some (i:Nat)=>.int i
noncomputable def eJ(t:Nat×List Int):PyData:=.tuple [.str (gf t.1),bw t.2]
noncomputable def fG(s:Snap):PyData:=.tuple [.str s.name,.list (s.a.map pA),.list (s.c.map rD),.list (s.t.map eJ)]
noncomputable def eQ(q:List cB):PyData:=.list (q.map c6)
noncomputable def fV(S:St):PyData:=.tuple [bw S.b,.list (S.q.map eQ),bK S.c,.list (S.s.map fG)]
noncomputable def before{G:Type}(x:G)(l:List G):List G:=l.takeWhile λ y=>!decide (y=x)
noncomputable def since{G:Type}(x:G)(l:List G):List G:=l.dropWhile λ y=>!decide (y=x)
noncomputable def aP(ai:List ax)(c:Ch)(n:Str):Nat×List Int:=
 if ax.aF c.2 n∈ai then
  if ax.b5 c (.mark n)∈since (ax.aF c.2 n) ai then(2,du (bN c (before (ax.b5 c (.mark n)) (since (ax.aF c.2 n) ai))))
  else(1,du (bN c (since (ax.aF c.2 n) ai)))
 else(0,[])
noncomputable def cH(ai:List ax)(n:Str)(x:Int×Nat):Option Int:=
 if ax.aF x.2 n∈ai then some (bF (before (ax.aF x.2 n) ai) x.2 x.1) else none
noncomputable def fb(ai:List ax)(n:Str)(x:Int×Nat):Option Nat:=
 if ax.aF x.2 n∈ai then some (bS (before (ax.aF x.2 n) ai) x.2) else none
noncomputable def dE(ps:List Ch)(aa:List Int)(ai:List ax)(n:Str):Snap:=
 ⟨n,aa.zipIdx.map (cH ai n),aa.zipIdx.map (fb ai n),ps.map λ c=>aP ai c n⟩
noncomputable def bz(ps:List Ch)(aa:List Int)(ai:List ax):St:=
 ⟨aa.zipIdx.map λ x=>bF ai x.2 x.1,ps.map (aq ai),aa.zipIdx.map λ x=>bS ai x.2,(names ai).map (dE ps aa ai)⟩
noncomputable def bU(ps:List Ch)(aa:List Int)(ai:List ax):jI->Str×List ax
 |.aL p n=>if n∈names ai then("known",ai) else("done",ai++[.aL p n]++aK ps p n)
 |.send c v=>if c∈ps then if bF ai c.1 (aa.getD c.1 0)<v then("too much",ai) else("done",ai++[.out c (.cO v)]) else("no channel",ai)
 |.recv c=>if c∈ps then match aq ai c with
   |[]=>("nothing",ai)
   |.cO v::_=>("done",ai++[.b5 c (.cO v)])
   |.mark n::_=>("done",(if ax.aF c.2 n∈ai then ai else ai++aK ps c.2 n)++[.b5 c (.mark n)])
  else("no channel",ai)
end
end Q.L1
end
section
namespace Q
open PySem Mine.Internal.L1
variable{P:Prop}{a:V}{b:List Stmt}{c:Bool}{e elt:Expr}{es:List Expr}{f:Str}{ifs:List Expr}{it l:Expr}{o:List Stmt}{op:CmpOp}{q:Pos}{r:List Stmt}{s:Stmt}{t:Expr}{ts:List Expr}{v:V}{vs:List V}{x:Str}{Y:Or}{G β:Type}{O ρ1:ak}{U σ1 σ2:ae}{pre:List G}{y:G}{ys:List G}
theorem bi{x:Option G}{a:G}{f:G->Option β}{r:Option β}(h:x=some a)(k:f a=r):x.bind f=r:=by rw[h];exact k
theorem sf{r:List G}:y∈y::r:=.head _
theorem sg{z:G}{r:List G}(h:z∈r):z∈y::r:=.tail _ h
theorem lI{bind:V->Option ak}{cond:ak->ae->Option (Bool×ae)}{elt:ak->ae->Option (V×ae)}(f:G->V)(h:G->Option V)
  (VC:∀y,y∈ys->∃O b,bind (f y)=some O/\cond O U=some (b,U)/\(if b then ∃v,h y=some v/\elt O U=some (v,U) else h y=none)) :
  eZ bind cond elt (ys.map f) U=some (ys.filterMap h,U):=by
 induction ys with
 |nil=>rfl
 |cons y r ih=>
  refine bC λ k9=>?_;obtain⟨O,b,h1,h2,h3⟩:=VC y sf;refine k9 ?_;have:=ih λ z hz=>VC z (sg hz);cases b with
  |true=>
   obtain⟨v,h4,h5⟩:=h3;exact bi h1 (bi h2 (bi h5 (bi this (by rw[List.filterMap_cons,h4]))))
  |false=>exact bi h1 (bi h2 (this.trans (by rw[List.filterMap_cons,show h y=none from h3])))
theorem nW(f:G->PyData)(ys:List G):mu (ys.map λ y=>V.d (f y))=some (ys.map f):=by
 induction ys with
 |nil=>rfl
 |cons y r ih=>exact bi ih rfl
noncomputable def isTup:Expr->Bool
 |.Tuple ..=>true
 |_=>false
inductive Wp(r:Res)(K:Out->ak->ae->Prop):Prop
 |intro(o:Out) (O:ak) (U:ae) (e:r=some (o,O,U)) (k:K o O U)
noncomputable def Ct(Y:Or)(r:List Stmt)(K:Out->ak->ae->Prop):Out->ak->ae->Prop
 |.nx,O,U=>Wp (xs Y r O U) K
 |o,O,U=>K o O U
theorem Wp.mono{r:Res}{K K':Out->ak->ae->Prop}(h:Wp r K)(h':∀o O U,K o O U->K' o O U):Wp r K':=by
 obtain⟨o,O,U,e,k⟩:=h;exact⟨o,O,U,e,h' _ _ _ k⟩
theorem Wp.nil{K:Out->ak->ae->Prop}(h:K .nx O U):Wp (xs Y [] O U) K:=⟨_,_,_,rfl,h⟩
theorem Wp.cons{K:Out->ak->ae->Prop}(h:Wp (x1 Y s O U) (Ct Y r K)):Wp (xs Y (s::r) O U) K:=by
 obtain⟨o,ρ1,σ1,e,k⟩:=h;cases o with
 |nx=>
  obtain⟨o,JH,σ2,e2,k2⟩:=k;exact⟨o,JH,σ2,bi e e2,k2⟩
 |_=>exact⟨_,ρ1,σ1,bi e rfl,k⟩
theorem Wp.nx{K:Out->ak->ae->Prop}(h1:x1 Y s O U=some (.nx,ρ1,σ1))(h:Wp (xs Y r ρ1 σ1) K):Wp (xs Y (s::r) O U) K:=
 Wp.cons ⟨_,_,_,h1,h⟩
theorem Wp.asg{p:Pos}{K:Out->ak->ae->Prop}(h:ev Y e O U=some (v,σ1))(h2:Wp (xs Y r (upd O x v) σ1) K):Wp (xs Y (.Assign [.Name x p] e q::r) O U) K:=
 Wp.nx (bi h rfl) h2
theorem wq{c:Nat}{p:Pos}(ht:isTup e=false):x1 Y (.Assign [.Tuple ts c p] e q) O U=(ev Y e O U).bind λ x=>((ba (.Tuple ts c p) x.1 O).bind λ O=>some (O,x.2)).bind λ y=>some (.nx,y.1,y.2):=by
 cases e<;>first | rfl | cases ht
theorem Wp.MI{c:Nat}{p:Pos}{K:Out->ak->ae->Prop}(ht:isTup e=false)(h:ev Y e O U=some (v,σ1))(h2:ly v=some vs)(h3:d0 ts vs O=some ρ1)(h4:Wp (xs Y r ρ1 σ1) K):Wp (xs Y (.Assign [.Tuple ts c p] e q::r) O U) K:=
 Wp.nx ((wq ht).trans (bi h (bi (bi (bi h2 h3) rfl) rfl))) h4
theorem Wp.ret{p:Pos}{K:Out->ak->ae->Prop}(h:ev Y e O U=some (v,σ1))(k:K (.rt v) O σ1):Wp (xs Y (.Return (some e) p::r) O U) K:=
 Wp.cons ⟨.rt v,O,σ1,bi h rfl,k⟩
theorem Wp.expr{p:Pos}{K:Out->ak->ae->Prop}(h:ev Y e O U=some (v,σ1))(k:Wp (xs Y r O σ1) K):Wp (xs Y (.Expr e p::r) O U) K:=
 Wp.nx (bi h rfl) k
theorem Wp.w2{p:Pos}{K:Out->ak->ae->Prop}(h:i9 Y t O U (ev Y t O U)=some (c,σ1))(hT:c=true->Wp (xs Y b O σ1) (Ct Y r K))(hF:c=false->Wp (xs Y o O σ1) (Ct Y r K)):Wp (xs Y (.If t b o p::r) O U) K:=by
 apply Wp.cons;have e:x1 Y (.If t b o p) O U=if c then xs Y b O σ1 else xs Y o O σ1:=bi h rfl
 rw[e];cases c with
 |true=>exact hT rfl
 |false=>exact hF rfl
theorem Wp.CH{p:Pos}[D:Decidable P]{K:Out->ak->ae->Prop}(h:i9 Y t O U (ev Y t O U)=some (@decide P D,σ1))(hT:P->Wp (xs Y b O σ1) (Ct Y r K))(hF:¬P->Wp (xs Y o O σ1) (Ct Y r K)):Wp (xs Y (.If t b o p::r) O U) K:=
 Wp.w2 h (λ q=>hT (of_decide_eq_true q)) λ q=>hF (of_decide_eq_false q)
theorem fK{Q:Prop}[Decidable P][Decidable Q](h:P↔Q){a b:G}:(if P then a else b)=if Q then a else b:=ite_congr (propext h) (λ _=>rfl) λ _=>rfl
theorem BK{f:G->β}{v:β}(h:v=f y):pre.map f++[v]=(pre++[y]).map f:=h▸(List.map_append (l₂:=[y])).symm
theorem nk{k:Nat}{xs post:List G}{c:G}(hy:xs=pre++c::post)(h:xs.length<=k)(hk:k<cW):pre.length<cW:=
 Nat.lt_of_le_of_lt (Nat.le_trans (Nat.le_add_right ..) (Nat.le_of_eq (congrArg List.length hy |>.trans List.length_append).symm)) (Nat.lt_of_le_of_lt h hk)
theorem Wp.sN{p:Pos}{K:Out->ak->ae->Prop}(h:i9 Y t O U (ev Y t O U)=some (true,σ1))(hT:Wp (xs Y b O σ1) (Ct Y r K)):Wp (xs Y (.If t b o p::r) O U) K:=
 Wp.w2 h (λ _=>hT) (λ q=>by cases q)
theorem Wp.Jw{p:Pos}{K:Out->ak->ae->Prop}(h:i9 Y t O U (ev Y t O U)=some (false,σ1))(hF:Wp (xs Y o O σ1) (Ct Y r K)):Wp (xs Y (.If t b o p::r) O U) K:=
 Wp.w2 h (λ q=>by cases q) (λ _=>hF)
theorem Wp.fin{K:Out->ak->ae->Prop}(h:Wp (xs Y r O U) K):Wp (xs Y [] O U) (Ct Y r K):=⟨.nx,O,U,rfl,h⟩
theorem Wp.for{p:Pos}{ys:List V}{K:Out->ak->ae->Prop}(h:src Y it O U=some (.items ys,σ1))(h2:Wp (forL (λ x O U=>(ba t x O).bind λ O=>xs Y b O U) ys O σ1) (Ct Y r K)):Wp (xs Y (.For t it b [] p::r) O U) K:=by
 apply Wp.cons;have e:x1 Y (.For t it b [] p) O U=forL (λ x O U=>(ba t x O).bind λ O=>xs Y b O U) ys O σ1:=bi h rfl;rw[e];exact h2
theorem Wp.gA{p:Pos}{l:Nat}{K:Out->ak->ae->Prop}(h:src Y it O U=some (.obj l,σ1))(h2:Wp (Mine.Internal.gA (λ x O U=>(ba t x O).bind λ O=>xs Y b O U) l Y.fuel 0 O σ1) (Ct Y r K)):Wp (xs Y (.For t it b [] p::r) O U) K:=by
 apply Wp.cons;have e:x1 Y (.For t it b [] p) O U=Mine.Internal.gA (λ x O U=>(ba t x O).bind λ O=>xs Y b O U) l Y.fuel 0 O σ1:=bi h rfl;rw[e];exact h2
noncomputable abbrev JU(J:ak->ae->Prop)(K:Out->ak->ae->Prop):Out->ak->ae->Prop
 |.nx,O,U=>J O U
 |.ct,O,U=>J O U
 |.br,O,U=>K .nx O U
 |.ex,_,_=>False
 |.rt v,O,U=>K (.rt v) O U
noncomputable abbrev P0(w:V):Out->ak->ae->Prop:=λ o _ U=>∃v,o=.rt v/\back U v=some w
theorem Wp.forL{step:V->ak->ae->Res}(f:G->V)(I:List G->ak->ae->Prop){K:Out->ak->ae->Prop}
  (h0:I [] O U)
  (hs:∀pre y post O U,ys=pre++y::post->I pre O U->Wp (step (f y) O U) (JU (I (pre++[y])) K))
  (h1:∀O U,I ys O U->K .nx O U):Wp (Mine.Internal.forL step (ys.map f) O U) K:=by
 have gen:∀(post pre:List G) (O:ak) (U:ae),ys=pre++post->I pre O U->Wp (Mine.Internal.forL step (post.map f) O U) K:=by
  intro post
  induction post with
  |nil=>
   intro pre O U e i;rw[List.append_nil] at e;subst e;exact⟨_,_,_,rfl,h1 _ _ i⟩
  |cons y r ih=>
   intro pre O U e i;obtain⟨o,ρ1,σ1,e1,k1⟩:=hs pre y r O U e i;have hr:∀{ρ1 σ1},I (pre++[y]) ρ1 σ1->Wp (Mine.Internal.forL step (r.map f) ρ1 σ1) K:=λ {ρ1 σ1} i=>ih (pre++[y]) ρ1 σ1 (by rw[e,List.append_assoc];rfl) i;cases o with
   |nx=>
    obtain⟨o,JH,σ2,e2,k2⟩:=hr k1;exact⟨o,JH,σ2,bi e1 e2,k2⟩
   |ct=>
    obtain⟨o,JH,σ2,e2,k2⟩:=hr k1;exact⟨o,JH,σ2,bi e1 e2,k2⟩
   |br=>exact⟨.nx,ρ1,σ1,bi e1 rfl,k1⟩
   |ex=>exact k1.elim
   |rt v=>exact⟨.rt v,ρ1,σ1,bi e1 rfl,k1⟩
 exact gen ys [] O U rfl h0
noncomputable def over(ns:List Str)(f O:ak):ak:=λ x=>if ns.contains x then f x else O x
noncomputable def Ov(ns:List Str)(Cp O:ak):Prop:=∃f,O=over ns f Cp
theorem Ov.refl{ns:List Str}:Ov ns O O:=⟨O,funext λ x=>by unfold over;cases ns.contains x<;>rfl⟩
theorem Ov.upd{ns:List Str}{Cp:ak}(h:Ov ns Cp O)(hx:ns.contains x=true):Ov ns Cp (Mine.Internal.upd O x v):=by
 obtain⟨f,rfl⟩:=h;refine⟨Mine.Internal.upd f x v,?_⟩;funext y;show(if y=x then _ else if ns.contains y then _ else _)=if ns.contains y then(if y=x then _ else _) else _
 by_cases e:y=x
 ·rw[if_pos e,if_pos e,e,if_pos hx]
 ·rw[if_neg e,if_neg e]
theorem fh{c:Scope}{p:Pos}{xs:List V}{r:Option (V×ae)}
  (h1:uC Y it O U (ev Y it O U)=some (xs,σ1)) (h2:eZ (λ x=>ba t x O) (λ O U=>gX Y ifs O U) (λ O U=>ev Y elt O U) xs σ1=some (vs,σ2)) (h3:dC (Y.own p) vs σ2=r):ev Y (.ListComp elt [⟨t,it,ifs,0⟩] c p) O U=r:=bi h1 (bi h2 h3)
theorem En(ds:List PyData):dC false (ds.map .d) U=some (.d (.list ds),U):=by
 have:=nW (λ x:PyData=>x) ds;rw[List.map_id'] at this;exact congrArg (Option.map λ ds=>(V.d (.list ds),U)) this
theorem n3{c:Scope}{p:Pos}(f:G->PyData)(g:G->Option PyData)
  (h1:uC Y it O U (ev Y it O U)=some ((ys.map f).map .d,σ1)) (ho:Y.own p=false)
  (VC:∀y,y∈ys->∃aC b,ba t (.d (f y)) O=some aC/\gX Y ifs aC σ1=some (b,σ1)/\(if b then ∃d,g y=some d/\ev Y elt aC σ1=some (.d d,σ1) else g y=none)) :
  ev Y (.ListComp elt [⟨t,it,ifs,0⟩] c p) O U=some (.d (.list (ys.filterMap g)),σ1):=by
 refine fh h1 (vs:=(ys.filterMap g).map .d) (σ2:=σ1) ?_ ?_
 ·rw[List.map_map,List.map_filterMap];refine lI _ _ λ y hy=>?_;refine bC λ k9=>?_;obtain⟨aC,b,h2,h3,h4⟩:=VC y hy;refine k9 ?_;refine⟨aC,b,h2,h3,?_⟩;cases b with
  |true=>
   obtain⟨d,h5,h6⟩:=h4;exact⟨.d d,congrArg (Option.map V.d) h5,h6⟩
  |false=>exact congrArg (Option.map V.d) h4
 ·rw[ho];exact En _
theorem bA{args:List Expr}{p:Pos}{r:Option (V×ae)}(h1:gJ Y args O U=some (vs,σ1))(h2:f7 Y (Y.own p) f vs σ1=r):ev Y (.Call (.Name f q) args [] p) O U=r:=bi h1 h2
theorem ah(h1:ev Y e O U=some (v,σ1))(h2:gJ Y es O σ1=some (vs,σ2)):gJ Y (e::es) O U=some (v::vs,σ2):=bi h1 (bi h2 rfl)
theorem bQ{c:Nat}{p:Pos}{ds:List PyData}(h1:gJ Y es O U=some (vs,σ1))(h2:mu vs=some ds):ev Y (.Tuple es c p) O U=some (.d (.tuple ds),σ1):=bi h1 (bi h2 rfl)
theorem bf{r:Expr}{op:Operator}{p:Pos}{b:V}{res:Option (V×ae)}(h1:ev Y l O U=some (a,σ1))(h2:ev Y r O σ1=some (b,σ2))(h3:mS (Y.own p) op a b σ2=res):ev Y (.BinOp l op r p) O U=res:=bi h1 (bi h2 h3)
theorem lL{r:Expr}{p:Pos}{b:V}(h1:ev Y l O U=some (a,σ1))(h2:ev Y r O σ1=some (b,σ2))(h3:dB σ2 op a b=some c):ev Y (.Compare l [op] [r] p) O U=some (.d (.bool c),σ2):=bi h1 (bi h2 (bi h3 rfl))
theorem lR{c:Expr}{lo hi:Option Expr}{p:Pos}{y2:ae}{x r:PyData}{l u:Option Int}(h1:ev Y c O U=some (.d x,σ1))(h2:aH Y lo O σ1=some (l,σ2))(h3:aH Y hi O σ2=some (u,y2))(h4:slice? x l u=some r):ev Y (.Subscript c (.Slice lo hi none q) p) O U=some (.d r,y2):=bi h1 (bi h2 (bi h3 (bi (a:=x) rfl (bi h4 rfl))))
theorem Fl{r:Expr}{p:Pos}(h:ev Y (.Compare l [op] [r] p) O U=some (.d (.bool c),σ1)):i9 Y (.Compare l [op] [r] p) O U (ev Y (.Compare l [op] [r] p) O U)=some (c,σ1):=by
 rw[h];rfl
theorem eo{b:Bool}(h:i9 Y e O U (ev Y e O U)=some (b,σ1)):gX Y [e] O U=some (b,σ1):=by
 cases b<;>exact bi h rfl
theorem aV{r:Expr}{p:Pos}{b:V}(h1:ev Y l O U=some (a,σ1))(h2:ev Y r O σ1=some (b,σ2))(h3:dB σ2 op a b=some c):i9 Y (.Compare l [op] [r] p) O U (ev Y (.Compare l [op] [r] p) O U)=some (c,σ2):=Fl (lL h1 h2 h3)
theorem Wp.fX{p:Pos}{K:Out->ak->ae->Prop}(h:i9 Y t O U (ev Y t O U)=some (false,σ1))(k:Wp (xs Y r O σ1) K):Wp (xs Y (.If t b [] p::r) O U) K:=Wp.Jw h (Wp.fin k)
namespace L1
theorem jX{n:Nat}{g:Fn}{w:V}(h:bM.fn f=some g)(hb:binds g.params vs=some O)(hx:Wp (xs (bM.run n) g.body O []) (P0 w)):(bM.run (n+1)).P f vs=some (some w):=by
 refine bC λ k9=>?_;obtain⟨o,aC,U,hx,v,rfl,hw⟩:=hx;refine k9 ?_;exact bi h (bi hb (bi hx (congrArg (Option.map some) hw)))
end L1
end Q
end
section
namespace Q
open PySem Classical Mine.Internal.L1
theorem fg(i j:Int):PyData.eqv (.int i) (.int j)=decide (i=j):=by
 show(i == j)=_;by_cases h:i=j<;>rfl
theorem ji(i j:Str):PyData.eqv (.str i) (.str j)=decide (i=j):=by
 show(i == j)=_;by_cases h:i=j<;>rfl
theorem qf{a b:PyData}(h:min a.depth b.depth<=64):eq? a b=some (PyData.eqv a b):=by simp[eq?,h]
theorem u6{U:ae}{a b:PyData}{c:Bool}(h:min a.depth b.depth<=64)(e:PyData.eqv a b=c):dB U .Eq (.d a) (.d b)=some c:=by
 show(eq? a b)=_;rw[qf h,e]
theorem lF{U:ae}{a b:PyData}{c:Bool}(h:min a.depth b.depth<=64)(e:(!PyData.eqv a b)=c):dB U .NotEq (.d a) (.d b)=some c:=by
 show((eq? a b).bind λ r=>some (!r))=_;rw[qf h,<-e];rfl
theorem mem_map{G:Type}{f:G->PyData}{D:∀a b:G,Decidable (a=b)}(hE:∀a b,eq? (f a) (f b)=some (@decide (a=b) (D a b)))(a:G)(ys:List G){d:Decidable (a∈ys)}:k6 (f a) (ys.map f)=some (@decide (a∈ys) d):=by
 have gen:∃b,k6 (f a) (ys.map f)=some b/\(b=true↔a∈ys):=by
  clear d
  induction ys with
  |nil=>exact⟨false,rfl,by simp⟩
  |cons y r ih=>
   obtain⟨b,h1,h2⟩:=ih;refine⟨@decide (y=a) (D y a) || b,?_,?_⟩
   ·show((eq? (f y) (f a)).bind λ b=>(k6 (f a) (r.map f)).bind λ c=>some (b || c))=_;rw[hE,h1];rfl
   ·rw[Bool.or_eq_true,h2,List.mem_cons];exact or_congr ⟨λ q=>(of_decide_eq_true q).symm,λ q=>decide_eq_true q.symm⟩ Iff.rfl
 obtain⟨b,h1,h2⟩:=gen;rw[h1];congr 1;cases b with
 |true=>exact(decide_eq_true (h2.1 rfl)).symm
 |false=>exact(decide_eq_false λ q=>by cases h2.2 q).symm
theorem idx_map{G:Type}{f:G->PyData}{D:∀a b:G,Decidable (a=b)}(hE:∀a b,eq? (f a) (f b)=some (@decide (a=b) (D a b)))(a:G)(ys:List G)(h:a∈ys)(k:Nat):ow (f a) k (ys.map f)=some (k+(L1.before a ys).length):=by
 induction ys generalizing k with
 |nil=>cases h
 |cons y r ih=>
  show((eq? (f y) (f a)).bind λ b=>if b=true then some k else ow (f a) (k+1) (r.map f))=_;rw[hE];show(if @decide (y=a) (D y a)=true then some k else ow (f a) (k+1) (r.map f))=_;by_cases e:y=a
  ·rw[if_pos (decide_eq_true e),show L1.before a (y::r)=[] from List.takeWhile_cons_of_neg (by simp[e])];rfl
  ·have:a∈r:=by
    rcases List.mem_cons.1 h with q | q
    ·exact absurd q.symm e
    ·exact q
   rw[if_neg λ q=>e (of_decide_eq_true q),ih this (k+1),show L1.before a (y::r)=y::L1.before a r from List.takeWhile_cons_of_pos (by simp[e]),List.length_cons,Nat.add_right_comm];rfl
theorem sY(n k:Nat):clipAt n (k:Int)=min k n:=by
 unfold clipAt;rw[if_neg (Int.not_lt.mpr (Int.natCast_nonneg k))];rcases Nat.le_total k n with h | h
 ·rw[Int.min_eq_left (Int.ofNat_le.mpr h),Nat.min_eq_left h,Int.max_eq_right (Int.natCast_nonneg _)];rfl
 ·rw[Int.min_eq_right (Int.ofNat_le.mpr h),Nat.min_eq_right h,Int.max_eq_right (Int.natCast_nonneg _)];rfl
theorem lh{i j:Int}{n:Nat}(e:(if i<0 then i+n else i)=j)(h0:0<=j)(h1:j<n):seqIndex? i n=some j.toNat:=by
 subst e;exact if_pos (Bool.and_eq_true_iff.mpr ⟨decide_eq_true h0,decide_eq_true h1⟩)
theorem iw{k n:Nat}(h:k<n):seqIndex? (k:Int) n=some k:=lh (j:=k) (if_neg (Int.not_lt.mpr (Int.natCast_nonneg k))) (Int.natCast_nonneg k) (Int.ofNat_lt.mpr h)
theorem BD{G:Type}{xs:List G}{x:G}:seqIndex? (-1) (xs++[x]).length=some xs.length:=by
 rw[List.length_append];exact lh (j:=xs.length) ((if_pos (by decide)).trans ((congrArg (λ z=>-1+z) ((Int.natCast_add _ _).trans (Int.add_comm _ _))).trans (Int.neg_add_cancel_left 1 _))) (Int.natCast_nonneg _) (Int.ofNat_lt.mpr (Nat.lt_succ_self _))
theorem zM{G:Type}(k:Nat)(xs:List G):cutAt (some (k:Int)) none xs=xs.drop k:=by
 simp only[cutAt,Option.elim,sY];by_cases h:k<=xs.length
 ·rw[Nat.min_eq_left h];exact List.take_of_length_le (by simp)
 ·rw[Nat.min_eq_right (by exact Nat.le_of_not_le ‹_›)];rw[List.drop_of_length_le (Nat.le_refl _),List.drop_of_length_le (by exact Nat.le_of_not_le ‹_›)];simp
theorem nU{G:Type}(k:Nat)(xs:List G):cutAt none (some (k:Int)) xs=xs.take k:=by
 simp only[cutAt,Option.elim,sY,List.drop_zero,Nat.sub_zero];by_cases h:k<=xs.length
 ·rw[Nat.min_eq_left h]
 ·rw[Nat.min_eq_right (by exact Nat.le_of_not_le ‹_›)];rw[List.take_of_length_le (Nat.le_refl _),List.take_of_length_le (by exact Nat.le_of_not_le ‹_›)]
theorem ints_map(l:List Int):kY (l.map .int)=some l:=by
 induction l with
 |nil=>rfl
 |cons x r ih=>exact bi (a:=r) ih rfl
namespace L1
theorem z6(c d:Ch):PyData.eqv (aD c) (aD d)=decide (c=d):=by
 show(PyData.eqv (.int c.1) (.int d.1) && (PyData.eqv (.int c.2) (.int d.2) && true))=_;rw[fg,fg];obtain⟨a,b⟩:=c;obtain⟨a',b'⟩:=d;by_cases h:a=a'<;>by_cases g:b=b'<;>simp[h,g,Int.ofNat_inj]
theorem ff(c d:Ch):eq? (aD c) (aD d)=some (decide (c=d)):=by
 rw[qf (show min _ _<=64 from Nat.le_of_ble_eq_true rfl),z6]
theorem Dp(c d:cB):PyData.eqv (c6 c) (c6 d)=decide (c=d):=by
 cases c with
 |cO v=>cases d with
  |cO w=>
   show(true && (PyData.eqv (.int v) (.int w) && true))=_;rw[fg];simp
  |mark w=>simp;rfl
 |mark v=>cases d with
  |cO w=>simp;rfl
  |mark w=>
   show(true && (PyData.eqv (.str v) (.str w) && true))=_;rw[ji];simp
theorem C2(m:cB):(c6 m).depth<=8:=by cases m<;>exact Nat.le_of_ble_eq_true rfl
end L1
end Q
end
section
namespace Q
open PySem Classical Mine.Internal.L1
variable{a:Bool}{args:List Expr}{b:Bool}{c:Scope}{ds:List PyData}{e elt:Expr}{es:List Expr}{f:Str}{i:Int}{ifs:List Expr}{it:Expr}{j:Int}{k l:Nat}{m:Str}{o:Expr}{own:Bool}{q:Pos}{r:List Expr}{t:Expr}{v:V}{vs:List V}{x:Str}{Y:Or}{G:Type}{O ρ1:ak}{U σ1 σ2:ae}{ys:List G}
theorem D1{P Q:Prop}(hT:b=true->P)(hF:b=false->Q):if b then P else Q:=by
 cases b
 ·exact hF rfl
 ·exact hT rfl
theorem cj{f:Expr}{p:Pos}{q:Option (V×ae)}(h1:i9 Y e O U (ev Y e O U)=some (a,U))(h2:a=true->mi Y .And (f::r) O U=some (b,U)):i9 Y (.BoolOp .And (e::f::r) p) O U q=some (a && b,U):=by
 cases a
 ·exact bi h1 rfl
 ·exact bi h1 (h2 rfl)
theorem bY(h1:i9 Y e O U (ev Y e O U)=some (a,U))(h2:a=true->mi Y .And r O U=some (b,U)):mi Y .And (e::r) O U=some (a && b,U):=by
 cases a
 ·exact bi h1 rfl
 ·exact bi h1 (h2 rfl)
theorem wg{p:Pos}{q:Option (V×ae)}(h1:i9 Y e O U (ev Y e O U)=some (a,U))(h2:a=false->mi Y .Or r O U=some (b,U)):i9 Y (.BoolOp .Or (e::r) p) O U q=some (a || b,U):=by
 cases a
 ·exact bi h1 (h2 rfl)
 ·exact bi h1 rfl
theorem uw(h1:i9 Y e O U (ev Y e O U)=some (a,U))(h2:a=false->mi Y .Or r O U=some (b,U)):mi Y .Or (e::r) O U=some (a || b,U):=by
 cases a
 ·exact bi h1 (h2 rfl)
 ·exact bi h1 rfl
theorem iO{l:List Int}:f7 Y own "sum" [.d (.list (l.map .int))] U=some (.d (.int l.sum),U):=by
 show((kY (l.map .int)).bind λ is=>some (V.d (.int is.sum),U))=_;rw[ints_map];rfl
theorem add_list{xs ys:List PyData}(h:xs.length+ys.length<=cW):mS false .Add (.d (.list xs)) (.d (.list ys)) U=some (.d (.list (xs++ys)),U):=by
 show((if xs.length+ys.length<=cW then some (PyData.list (xs++ys)) else none).bind λ r=>some (V.d r,U))=_;rw[if_pos h];rfl
noncomputable def H3(Y:Or)(f:Str):Bool:=(["len","list","sum","max","set","type",Y.cls]:List Str).contains f
theorem GV{w:V}(hn:H3 Y f=false)(hs:vs.all eT=true)(h:Y.P f vs=some (some w)):f7 Y own f vs U=some (w,U):=by
 simp only[H3,List.contains_cons,List.contains_nil,Bool.or_false,Bool.or_eq_false_iff,beq_eq_false_iff_ne,ne_eq] at hn;refine bC λ k9=>?_;obtain⟨h1,h2,h3,h4,h5,h6,h8⟩:=hn;refine k9 ?_;exact(if_neg h1).trans ((if_neg h2).trans ((if_neg h3).trans ((if_neg h4).trans ((if_neg h5).trans ((if_neg h6).trans ((if_neg h8).trans ((if_pos hs).trans (bi h rfl))))))))
theorem eq_str(a b:Str):eq? (.str a) (.str b)=some (decide (a=b)):=by
 rw[qf (Nat.le_of_ble_eq_true rfl),ji]
theorem eq_int(a b:Int):eq? (.int a) (.int b)=some (decide (a=b)):=by
 rw[qf (Nat.le_of_ble_eq_true rfl),fg]
theorem nQ{a c:PyData}{xs:List PyData}(h:items? c=some xs)(e:k6 a xs=some b):dB U .In (.d a) (.d c)=some b:=by
 show((items? c).bind λ xs=>k6 a xs)=_;rw[h];exact e
theorem rr{a c:PyData}{xs:List PyData}(h:items? c=some xs)(e:k6 a xs=some b):dB U .NotIn (.d a) (.d c)=some (!b):=by
 show((items? c).bind λ xs=>k6 a xs).map (!·)=_;rw[h];show(k6 a xs).map (!·)=_;rw[e];rfl
theorem item_list{xs:List PyData}(h:k<xs.length):iC (.list xs) (k:Int)=some xs[k]:=by
 show(seqIndex? k xs.length).bind (λ j=>xs[j]?)=_;rw[iw h];exact List.getElem?_eq_getElem h
theorem en{p:Pos}{q:Option (V×ae)}(h:i9 Y e O U (ev Y e O U)=some (b,σ1)):i9 Y (.UnaryOp .Not e p) O U q=some (!b,σ1):=by
 show((i9 Y e O U (ev Y e O U)).bind fun(x:Bool×ae)=>some (!x.1,x.2))=_;rw[h];rfl
noncomputable def LS:Expr->Bool
 |.Slice ..=>true
 |_=>false
theorem au{c i:Expr}{p:Pos}{a b r:V}(hi:LS i=false)(h1:ev Y c O U=some (a,σ1))(h2:ev Y i O σ1=some (b,σ2))(h3:dX σ2 a b=some r):ev Y (.Subscript c i p) O U=some (r,σ2):=by
 have e:ev Y (.Subscript c i p) O U=(ev Y c O U).bind fun(x:V×ae)=>(ev Y i O x.2).bind fun(y:V×ae)=>(dX y.2 x.1 y.1).bind λ r=>some (r,y.2):=by
  cases i<;>first | (cases hi;done) | rfl
 rw[e,h1];show((ev Y i O σ1).bind fun(y:V×ae)=>(dX y.2 a y.1).bind λ r=>some (r,y.2))=_;rw[h2];show(dX σ2 a b).bind _=_;rw[h3];rfl
theorem IY{x:PyData}{xs:List PyData}:dX U (.d (.list (x::xs))) (.d (.int 0))=some (.d x):=by
 show((iC (.list (x::xs)) ((0:Nat):Int)).map V.d)=_;rw[item_list (by simp)];rfl
theorem j9{p:Pos}{r:Option (V×ae)}(h1:gJ Y es O U=some (vs,σ1))(h2:dC (Y.own p) vs σ1=r):ev Y (.List es p) O U=r:=bi h1 h2
theorem Wp.bind{b:List Stmt}{x:V}{K:Out->ak->ae->Prop}(h:ba t x O=some ρ1)(k:Wp (xs Y b ρ1 U) K):Wp ((ba t x O).bind λ O=>xs Y b O U) K:=by
 rw[h];exact k
theorem Wp.lS{step:V->ak->ae->Res}(f:G->PyData)(I:List G->ak->ae->Prop){K:Out->ak->ae->Prop}
  (h0:I [] O U)
  (hs:∀pre y post O U,ys=pre++y::post->I pre O U->Wp (step (.d (f y)) O U) (JU (I (pre++[y])) K))
  (h1:∀O U,I ys O U->K .nx O U):Wp (Mine.Internal.forL step ((ys.map f).map .d) O U) K:=by
 rw[List.map_map];exact Wp.forL (V.d ∘ f) I h0 hs h1
theorem Wp.PR{ts:List Expr}{c c':Nat}{p p':Pos}{r:List Stmt}{K:Out->ak->ae->Prop}(h:gJ Y es O U=some (vs,σ1))(h3:d0 ts vs O=some ρ1)(h4:Wp (xs Y r ρ1 σ1) K):Wp (xs Y (.Assign [.Tuple ts c p] (.Tuple es c' p') q::r) O U) K:=
 Wp.nx (bi h (bi h3 rfl)) h4
theorem fi{p:Pos}{a:V}{r:Option (V×ae)}(h1:ev Y o O U=some (a,σ1))(h2:vk σ1 m a=some k)(h3:gJ Y args O σ1=some (vs,σ2))(h4:vk σ2 m a=some k)(h5:iN Y m a vs σ2=r):ev Y (.Call (.Attribute o m p) args [] q) O U=r:=bi h1 (bi h2 (bi h3 ((if_pos h4).trans h5)))
theorem pW{nd:Nd}(h:U[l]?=some nd)(e:Nn m (some nd)=some k):vk U m (.o l)=some k:=(congrArg (Nn m) h).trans e
theorem kI{nd:Nd}{r:Option (V×ae)}(h:U[l]?=some nd)(e:nO Y m l vs U (some nd)=r):iN Y m (.o l) vs U=r:=(congrArg (nO Y m l vs U) h).trans e
theorem dP{p:Pos}{xs xs':List V}(h1:ev Y o O U=some (.o l,σ1))(h2:σ1[l]?=some (.aI xs'))(h3:ev Y e O σ1=some (v,σ2))(h4:σ2[l]?=some (.aI xs))(hl:xs.length<cW):ev Y (.Call (.Attribute o "append" p) [e] [] q) O U=some (.d .none,σ2.set l (.aI (xs++[v]))):=by
 exact fi h1 (k:=1) (pW h2 rfl) (ah h3 rfl) (pW h4 rfl) (kI h4 (show(if xs.length<cW then some (V.d .none,σ2.set l (.aI (xs++[v]))) else none)=_ from if_pos hl))
theorem lN{p:Pos}{x:PyData}{xs:List PyData}(h1:ev Y o O U=some (.d (.list xs),σ1))(h2:ev Y e O σ1=some (.d x,σ2))(h3:ow x 0 xs=some k):ev Y (.Call (.Attribute o "index" p) [e] [] q) O U=some (.d (.int k),σ2):=by
 refine fi h1 (k:=1) rfl (ah h2 rfl) rfl ?_;show((ow x 0 xs).bind λ k=>some (V.d (.int k),σ2))=_;rw[h3];rfl
theorem kQ(h:ev Y e O U=some (.d (.int i),σ1)):aH Y (some e) O U=some (some i,σ1):=by
 exact bi h rfl
theorem BM{p:Pos}{xs:List PyData}(h:ev Y e O U=some (.d (.list xs),σ1)):src Y (.Call (.Name "enumerate" p) [e] [] q) O U=some (.items (xs.zipIdx.map fun(p:PyData×Nat)=>.d (.tuple [.int p.2,p.1])),σ1):=by
 show((gJ Y [e] O U).bind fun(x:List V×ae)=>(draws "enumerate" x.1).bind λ ys=>some (Src.items ys,x.2))=_;rw[ah h rfl];rfl
theorem zip_map(f:G->PyData)(xs:List G)(g:PyData×Nat->V):(xs.map f).zipIdx.map g=xs.zipIdx.map λ x=>g (f x.1,x.2):=by
 rw[List.zipIdx_map,List.map_map];rfl
theorem gV(f:G->PyData){p:Pos}(h:ev Y e O U=some (.d (.list (ys.map f)),σ1)):src Y (.Call (.Name "enumerate" p) [e] [] q) O U=some (.items (ys.zipIdx.map λ x=>.d (.tuple [.int x.2,f x.1])),σ1):=by
 rw[BM h,zip_map]
theorem Hy(n:Nat)(ds:List PyData)(U:ae):DM (cn (n+1)) U (ds.map V.d)=some (ds,U):=by
 induction ds with
 |nil=>rfl
 |cons d r ih=>exact bi ih rfl
theorem te{p:Pos}{r:Option (V×ae)}(hg:Y.gl x=none)(h:O x=some v)(e:Mu Y p U v=r):ev Y (.Name x p) O U=r:=by
 show Mc Y p U (O x) (Y.gl x)=r;rw[hg,h];exact e
theorem EU{p:Pos}{nd:Nd}(hf:Y.cn p=false)(hs:U[l]?=some nd)(e:Cz l (some nd)=v):Mu Y p U (.o l)=some (v,U):=by
 show(if Y.cn p=true then _ else some (Cz l U[l]?,U))=_;rw[hf,hs,e];rfl
theorem lM{p:Pos}(hg:Y.gl x=none)(hf:Y.cn p=true)(h:O x=some (.o l))(hs:U[l]?=some (.aI (ds.map .d))):ev Y (.Name x p) O U=some (.d (.list ds),U.set l (.cn (.list ds))):=by
 exact te hg h ((if_pos hf).trans (congrArg (Option.map fun(x:PyData×ae)=>(V.d x.1,x.2)) ((congrArg (tj (cn 7) l U) hs).trans (bi (Hy 6 ds U) rfl))))
theorem g8{p:Pos}{d:PyData}(hg:Y.gl x=none)(hf:Y.cn p=true)(h:O x=some (.o l))(hs:U[l]?=some (.cn d)):ev Y (.Name x p) O U=some (.d d,U):=by
 exact te hg h ((if_pos hf).trans (congrArg (Option.map fun(x:PyData×ae)=>(V.d x.1,x.2)) (congrArg (tj (cn 7) l U) hs)))
theorem zR{p:Pos}(h:ev Y (.Name x p) O U=some (.d (.list ds),σ1)):uC Y (.Name x p) O U (ev Y (.Name x p) O U)=some (ds.map .d,σ1):=by
 rw[h];rfl
theorem bh{p:Pos}(f:G->PyData)(g:G->PyData)
  (h1:uC Y it O U (ev Y it O U)=some ((ys.map f).map .d,σ1)) (ho:Y.own p=false)
  (VC:∀y,y∈ys->∃aC,ba t (.d (f y)) O=some aC/\ev Y elt aC σ1=some (.d (g y),σ1)) :
  ev Y (.ListComp elt [⟨t,it,[],0⟩] c p) O U=some (.d (.list (ys.map g)),σ1):=by
 have:=n3 (elt:=elt) (t:=t) (ifs:=[]) (c:=c) f (λ y=>some (g y)) h1 ho λ y hy=>by
  refine bC λ k9=>?_;obtain⟨aC,a,b⟩:=VC y hy;refine k9 ?_;exact⟨aC,true,a,rfl,_,rfl,b⟩
 rw[this,List.filterMap_eq_map']
theorem Wp.AZ{s:Stmt}{r:List Stmt}{K:Out->ak->ae->Prop}(P:ae->Prop)(h1:Wp (x1 Y s O U) λ o aC τ=>o=.nx/\aC=O/\P τ)(h2:∀τ,P τ->Wp (xs Y r O τ) K):Wp (xs Y (s::r) O U) K:=by
 refine Wp.cons (h1.mono ?_);rintro o aC τ ⟨rfl,rfl,p⟩;exact h2 _ p
theorem L6(f:G->PyData)(l:List G):(l.map λ x=>V.d (f x))=(l.map f).map V.d:=by simp[Function.comp_def]
theorem d5{c:Bool}(h:c=decide (i=j)):dB U .Eq (.d (.int i)) (.d (.int j))=some c:=by
 rw[h];exact u6 (Nat.le_of_ble_eq_true rfl) (fg i j)
theorem f9{i j:Str}{c:Bool}(h:c=decide (i=j)):dB U .Eq (.d (.str i)) (.d (.str j))=some c:=by
 rw[h];exact u6 (Nat.le_of_ble_eq_true rfl) (ji i j)
theorem Ov.over{ns ms:List Str}{Cp g:ak}(h:Ov ns Cp O)(hm:(ms.all λ x=>ns.contains x)=true):Ov ns Cp (Mine.Internal.Q.over ms g O):=by
 obtain⟨f,rfl⟩:=h;refine⟨Mine.Internal.Q.over ms g f,?_⟩;funext y;show(if ms.contains y then g y else if ns.contains y then f y else Cp y)=if ns.contains y then(if ms.contains y then g y else f y) else Cp y
 by_cases e:ms.contains y=true
 ·have:ns.contains y=true:=List.all_eq_true.1 hm y (by simpa using e);rw[if_pos e,if_pos this,if_pos e]
 ·rw[if_neg e,if_neg e]
theorem gE(h:j≠0):mS false .Mod (.d (.int i)) (.d (.int j)) U=some (.d (.int (i.fmod j)),U):=by
 show((if j=0 then none else some (PyData.int (i.fmod j))).bind λ r=>some (V.d r,U))=_;rw[if_neg h];rfl
theorem kS(i:Int)(n:Nat)(h:0<n):∃k:Nat,k<n/\i.fmod n=k:=by
 have h1:=Int.fmod_nonneg_of_pos i (b:=n) (by exact Int.ofNat_lt.mpr ‹_›);have h2:=Int.fmod_lt_of_pos i (b:=n) (by exact Int.ofNat_lt.mpr ‹_›);exact⟨(i.fmod n).toNat,(Int.toNat_lt h1).mpr h2,(Int.toNat_of_nonneg h1).symm⟩
theorem item_tup{xs:List PyData}(h:k<xs.length):iC (.tuple xs) (k:Int)=some xs[k]:=by
 show(seqIndex? k xs.length).bind (λ j=>xs[j]?)=_;rw[iw h];exact List.getElem?_eq_getElem h
theorem fH{p:Pos}(f:G->PyData)(b:G->Bool)(g:G->PyData)
  (h1:uC Y it O U (ev Y it O U)=some ((ys.map f).map .d,σ1)) (ho:Y.own p=false)
  (VC:∀y,y∈ys->∃aC,ba t (.d (f y)) O=some aC/\gX Y ifs aC σ1=some (b y,σ1)/\(b y=true->ev Y elt aC σ1=some (.d (g y),σ1))) :
  ev Y (.ListComp elt [⟨t,it,ifs,0⟩] c p) O U=some (.d (.list ((ys.filter b).map g)),σ1):=by
 have:=n3 (elt:=elt) (t:=t) (ifs:=ifs) (c:=c) f (λ y=>if b y then some (g y) else none) h1 ho λ y hy=>by
  refine bC λ k9=>?_;obtain⟨aC,h2,h3,h4⟩:=VC y hy;refine k9 ?_;refine⟨aC,b y,h2,h3,D1 (λ q=>⟨g y,by exact if_pos ‹_›,h4 q⟩) (λ q=>by simp[q])⟩
 rw[this];congr 4;clear this VC h1
 induction ys with
 |nil=>rfl
 |cons y r ih=>cases h:b y<;>simp[List.filterMap_cons,List.filter_cons,h,ih]
theorem n4{β:Type}{p:Pos}(f:G->PyData)(g:G->Option β)(e:β->PyData)
  (h1:uC Y it O U (ev Y it O U)=some ((ys.map f).map .d,σ1)) (ho:Y.own p=false)
  (VC:∀y,y∈ys->∃aC b,ba t (.d (f y)) O=some aC/\gX Y ifs aC σ1=some (b,σ1)/\(if b then ∃d,g y=some d/\ev Y elt aC σ1=some (.d (e d),σ1) else g y=none)) :
  ev Y (.ListComp elt [⟨t,it,ifs,0⟩] c p) O U=some (.d (.list ((ys.filterMap g).map e)),σ1):=by
 have:=n3 (elt:=elt) (t:=t) (ifs:=ifs) (c:=c) f (λ y=>(g y).map e) h1 ho λ y hy=>by
  refine bC λ k9=>?_;obtain⟨aC,b,h2,h3,h4⟩:=VC y hy;refine k9 ?_;refine⟨aC,b,h2,h3,?_⟩;cases b with
  |true=>
   obtain⟨d,h5,h6⟩:=h4;exact⟨e d,by simp[h5],h6⟩
  |false=>
   have h5:g y=none:=h4;show Option.map e (g y)=none;simp[h5]
 rw[this,<-List.map_filterMap]
theorem dk{a b:Nat}{D:Decidable (a=b)}:@decide (a=b) D=decide ((a:Int)=b):=decide_eq_decide.2 Int.ofNat_inj.symm
theorem Dq(a b:Nat){D:Decidable (a=b)}:PyData.eqv (.int a) (.int b)=@decide (a=b) D:=(fg ..).trans dk.symm
theorem fW{p:Pos}{w:V}(h1:gJ Y args O U=some (vs,σ1))(hn:H3 Y f=false)(hs:vs.all eT=true)(h:Y.P f vs=some (some w)):ev Y (.Call (.Name f q) args [] p) O U=some (w,σ1):=bA h1 (GV hn hs h)
theorem iy{p:Pos}{q:Option (V×ae)}(h1:i9 Y e O U (ev Y e O U)=some (false,U))(h2:mi Y .Or r O U=some (false,U)):i9 Y (.BoolOp .Or (e::r) p) O U q=some (false,U):=wg h1 λ _=>h2
theorem ku(h1:i9 Y e O U (ev Y e O U)=some (false,U))(h2:mi Y .Or r O U=some (false,U)):mi Y .Or (e::r) O U=some (false,U):=uw h1 λ _=>h2
theorem ky(h1:i9 Y e O U (ev Y e O U)=some (false,U)):mi Y .Or [e] O U=some (false,U):=ku h1 rfl
namespace L1
theorem gM(P:Prop)[Decidable P](m:cB):(if P then some m else none).bind iB=if P then iB m else none:=by
 by_cases q:P
 ·rw[if_pos q,if_pos q];rfl
 ·rw[if_neg q,if_neg q];rfl
theorem Wp.PS{b o:List Stmt}{p:Pos}{P:Prop}[D:Decidable P]{K:Out->ak->ae->Prop}(h:i9 Y t O U (ev Y t O U)=some (@decide P D,σ1))(hT:P->Wp (xs Y b O σ1) K)(hF:¬P->Wp (xs Y o O σ1) K):Wp (x1 Y (.If t b o p) O U) K:=by
 rw[show x1 Y (.If t b o p) O U=if @decide P D then xs Y b O σ1 else xs Y o O σ1 from bi h rfl];by_cases q:P
 ·rw[decide_eq_true q];exact hT q
 ·rw[decide_eq_false q];exact hF q
theorem Bj(ai:List ax):(names ai).length<=ai.length:=List.length_filterMap_le _ _
noncomputable def isWhole(s:Snap):Bool:=!decide (none∈s.a) && s.t.all λ t=>decide (2<=t.1)
noncomputable def wholeOf(ss:List Snap)(nm:Str):Option Snap:=ss.find? λ s=>decide (s.name=nm) && isWhole s
noncomputable def eW:Option Snap->PyData
 |none=>.none
 |some s=>.tuple [.list (s.a.map pA),.list (s.c.map rD),.list (s.t.map λ t=>bw t.2)]
theorem wK(k:Nat):(gf k="shut")↔2<=k:=by
 match k with
 |0=>exact⟨λ h=>absurd h (by decide),λ h=>absurd h (by decide)⟩
 |1=>exact⟨λ h=>absurd h (by decide),λ h=>absurd h (by decide)⟩
 |k+2=>exact⟨λ h=>by lia,λ h=>rfl⟩
theorem Bg(l:List (Option Int)):k6 .none (l.map pA)=some (decide (none∈l)):=by
 have hE:∀o,eq? (pA o) .none=some (decide (o=none)):=by
  intro o;cases o<;>rfl
 induction l with
 |nil=>rfl
 |cons o r ih=>
  simp only[List.map_cons,k6,hE,ih,Option.bind_eq_bind,Option.bind_some];congr 1;cases o<;>(first | rfl | simp)
noncomputable def DG:Fn:=(bM.fn "whole").getD ⟨[],[]⟩
theorem Dk:bM.fn "whole"=some DG:=rfl
namespace gw
noncomputable section
def P(n:Nat)(S:St)(nm:Str):Prop:=(bM.run (n+2)).P "whole" [.d (fV S),.d (.str nm)]=some (some (.d (eW (wholeOf S.s nm))))
def xe:(Nat)×(St)×(Str):=@Classical.epsilon _ ⟨(default,⟨[],[],[],[]⟩,default)⟩ λ x=>¬P x.1 x.2.1 x.2.2
def n:Nat:=xe.1
def S:St:=xe.2.1
def nm:Str:=xe.2.2
theorem core:P n S nm:=by
 refine jX Dk rfl ?_;refine Wp.for rfl ?_;refine Wp.lS fG (λ pre O U=>Ov ["n","a","c","t","ok","m","l"] _ O/\U=[]/\∀s∈pre,(decide (s.name=nm) && isWhole s)=false) ⟨Ov.refl,rfl,by simp⟩ ?_ ?_
 ·rintro pre s post O U hy ⟨⟨f,rfl⟩,rfl,hp⟩;have HG:(decide (s.name=nm) && isWhole s)=false->∀t∈pre++[s],(decide (t.name=nm) && isWhole t)=false:=by
   intro q t ht;rcases List.mem_append.1 ht with h | h
   ·exact hp t h
   ·obtain rfl:t=s:=by simpa using h
    exact q
  refine Wp.bind rfl ?_;refine Wp.w2 (c:=!decide (s.name=nm)) (en (aV rfl rfl (f9 rfl))) ?_ ?_
  ·intro q;refine⟨.ct,_,_,rfl,⟨by repeat first | exact⟨f,rfl⟩ | refine Ov.upd ?_ rfl,rfl,HG ?_⟩⟩;simp at q;simp[q]
  intro q;have hn:s.name=nm:=by simpa using q
  refine Wp.fin (Wp.w2 (c:=decide (none∈s.a)) (aV rfl rfl (nQ rfl (Bg s.a))) ?_ ?_)
  ·intro q;refine⟨.ct,_,_,rfl,⟨by repeat first | exact⟨f,rfl⟩ | refine Ov.upd ?_ rfl,rfl,HG ?_⟩⟩;have:none∈s.a:=by simpa using q
   simp[isWhole,this]
  intro q;have ha:none∉s.a:=by simpa using q
  refine Wp.fin (Wp.asg rfl ?_);refine Wp.for rfl ?_;refine Wp.lS eJ (ys:=s.t) (λ pre O U=>Ov ["m","l"] _ O/\U=[]/\∀t∈pre,2<=t.1) ⟨Ov.refl,rfl,by simp⟩ ?_ ?_
  ·rintro IG t Mn O U OS ⟨⟨g,rfl⟩,rfl,HT⟩;refine Wp.bind rfl ?_;refine Wp.w2 (c:=!decide (gf t.1="shut")) (en (aV rfl rfl (f9 rfl))) ?_ ?_
   ·intro q;refine Wp.asg rfl ⟨.br,_,_,rfl,?_⟩;refine Wp.fX rfl ((Wp.nil ⟨?_,rfl,HG ?_⟩))
    ·repeat first | exact⟨f,rfl⟩ | refine Ov.upd ?_ rfl | refine Ov.over ?_ rfl
    ·have h2:¬2<=t.1:=by
      intro h;rw[(wK t.1).2 h] at q;simp at q
     have:(s.t.all λ t=>decide (2<=t.1))=false:=by
      rw[List.all_eq_false];exact⟨t,by rw[OS];simp,by simpa using h2⟩
     simp[isWhole,this]
   ·intro q;refine Wp.fin (Wp.nil ⟨by repeat first | exact⟨g,rfl⟩ | refine Ov.upd ?_ rfl,rfl,?_⟩);intro t' T7;rcases List.mem_append.1 T7 with h | h
    ·exact HT t' h
    ·obtain rfl:t'=t:=by simpa using h
     have:gf t'.1="shut":=by simpa using q
     exact(wK t'.1).1 this
  ·rintro O U ⟨⟨g,rfl⟩,rfl,HT⟩;refine Wp.sN rfl ?_;refine Wp.ret (bQ (ah rfl (ah rfl (ah (bh eJ (ys:=s.t) (λ t=>bw t.2) rfl rfl λ x hx=>⟨_,rfl,rfl⟩) rfl))) rfl) ⟨_,rfl,?_⟩;have h1:wholeOf S.s nm=some s:=by
    have h2:(decide (s.name=nm) && isWhole s)=true:=by
     simp only[isWhole,hn,decide_true,Bool.true_and,Bool.and_eq_true,List.all_eq_true];exact⟨by simpa using ha,λ t ht=>decide_eq_true (HT t ht)⟩
    rw[wholeOf,hy,List.find?_append];have:pre.find? (λ s=>decide (s.name=nm) && isWhole s)=none:=by
     rw[List.find?_eq_none];intro t ht;simp only[hp t ht];simp
    rw[this,List.find?_cons,h2];rfl
   rw[h1];rfl
 ·rintro O U ⟨⟨f,rfl⟩,rfl,hp⟩;refine Wp.ret rfl ⟨_,rfl,?_⟩;have:wholeOf S.s nm=none:=by
   rw[wholeOf,List.find?_eq_none];intro t ht;simp only[hp t ht];simp
  rw[this];rfl
end
end gw
theorem whole_run(n:Nat)(S:St)(nm:Str):gw.P n S nm:=aU (Q:=λ x:(Nat)×(St)×(Str)=>gw.P x.1 x.2.1 x.2.2) gw.core (n,S,nm)
noncomputable def pY(size:Nat)(places:List Ch):jI->Prop
 |.aL p n=>p<size/\(n="a"\/n="b")
 |.recv c=>c∈places
 |.send c _=>c∈places
noncomputable abbrev aQ:=Ch×Option Int
noncomputable def eH:aQ->PyData
 |(c,some v)=>d7 (.send c v)
 |(c,none)=>d7 (.recv c)
noncomputable def aA(x:aQ):Nat:=match x.2 with
 |some _=>x.1.1
 |none=>x.1.2
noncomputable def gD(h:List aQ)(p k:Nat):List aQ:=(h.filter λ x=>decide (aA x=p)).take k
noncomputable def ie(q:Nat)(x:aQ):Option Int:=if x.1.2=q then x.2 else none
noncomputable def gm(p:Nat)(x:aQ):Option Ch:=if x.2=none/\x.1.1=p then some x.1 else none
noncomputable def cq(h:List aQ)(ao:List Nat)(c:Ch):List Int:=(gD h c.1 (ao.getD c.1 0)).filterMap (ie c.2)
noncomputable def b8(h:List aQ)(ao:List Nat)(c:Ch):List Ch:=(gD h c.2 (ao.getD c.2 0)).filterMap (gm c.1)
theorem AY{ao:List Nat}(hk:k<ao.length)(U:ae):dX U (.d (bK ao)) (.d (.int k))=some (.d (.int (ao.getD k 0:Nat))):=by
 show(iC (.list (ao.map fun(n:Nat)=>PyData.int n)) (k:Int)).map V.d=_;rw[item_list (Nat.lt_of_lt_of_eq hk (List.length_map _).symm),List.getElem_map,List.getD_eq_getElem?_getD,List.getElem?_eq_getElem hk];rfl
theorem BH(l:List aQ)(k:Nat):slice? (.list (l.map eH)) none (some (k:Int))=some (.list ((l.take k).map eH)):=by
 show some (PyData.list (cutAt none (some (k:Int)) (l.map eH)))=_;rw[nU,<-List.map_take]
end L1
end Q
end
section
namespace Q
open PySem Classical Mine.Internal.L1
namespace L1
set_option genInjectivity false in
structure cf where
 name:Str
 a:Nat->Option Int
 c:Nat->Option Nat
 t:Nat->Nat×List Int
set_option genInjectivity false in
structure A where
 b:Nat->Int
 q:Nat->List cB
 c:Nat->Nat
 s:List cf
set_option genCtorIdx false in
set_option genInjectivity false in
inductive Key where
 |me | b
 |q (j:Nat)
 |Q | c | S
 |t (i j:Nat)
 |m (i j:Nat)
 |T (i:Nat)
 |a (i:Nat)
 |d (i:Nat)
 |s (i:Nat)
noncomputable def ad(k:Nat):Key->Nat
 |.me=>0
 |.b=>1
 |.q j=>2+j
 |.Q=>2+k
 |.c=>3+k
 |.S=>4+k
 |.t i j=>5+k+i*(2*k+4)+j*2
 |.m i j=>5+k+i*(2*k+4)+(j*2+1)
 |.T i=>5+k+i*(2*k+4)+2*k
 |.a i=>5+k+i*(2*k+4)+(2*k+1)
 |.d i=>5+k+i*(2*k+4)+(2*k+2)
 |.s i=>5+k+i*(2*k+4)+(2*k+3)
noncomputable def y0(k ns:Nat):Key->Prop
 |.q j=>j<k
 |.t i j=>i<ns/\j<k
 |.m i j=>i<ns/\j<k
 |.T i=>i<ns
 |.a i=>i<ns
 |.d i=>i<ns
 |.s i=>i<ns
 |_=>True
noncomputable def Ku(k n:Nat):Key:=if n=0 then .me else if n=1 then .b else if n<2+k then .q (n-2) else if n=2+k then .Q else if n=3+k then .c else .S
noncomputable def Kt(k i r:Nat):Key:=if r<2*k then(if r % 2=0 then .t i (r / 2) else .m i (r / 2)) else if r=2*k then .T i else if r=2*k+1 then .a i else if r=2*k+2 then .d i else .s i
noncomputable def dec(k n:Nat):Key:=if n<5+k then Ku k n else Kt k ((n-(5+k)) / (2*k+4)) ((n-(5+k)) % (2*k+4))
theorem qd{k i r:Nat}(h:r<2*k+4):dec k (5+k+i*(2*k+4)+r)=Kt k i r:=by
 unfold dec;rw[if_neg (Nat.not_lt.mpr (Nat.le_trans (Nat.le_add_right _ _) (Nat.le_add_right _ r))),Nat.add_assoc (5+k),Nat.add_sub_cancel_left,Nat.add_comm (i*_) r,Nat.add_mul_div_right _ _ (Nat.succ_pos _),Nat.div_eq_of_lt h,Nat.zero_add,
  Nat.add_mul_mod_self_right,Nat.mod_eq_of_lt h]
theorem qe{k n:Nat}(h:n<5+k):dec k n=Ku k n:=if_pos h
theorem NT{k j:Nat}(h:j<k):2+j<5+k/\2+j≠0/\2+j≠1/\2+j<2+k:=
 ⟨Nat.add_lt_add (by decide) h,Nat.ne_of_gt (Nat.lt_of_lt_of_le (by decide) (Nat.le_add_right 2 j)),Nat.ne_of_gt (Nat.lt_of_lt_of_le (by decide) (Nat.le_add_right 2 j)),Nat.add_lt_add_left h 2⟩
theorem NS(k:Nat):(2+k<5+k/\3+k<5+k/\4+k<5+k)/\(2+k≠0/\3+k≠0/\4+k≠0)/\(2+k≠1/\3+k≠1/\4+k≠1)/\(¬3+k<2+k/\¬4+k<2+k)/\3+k≠2+k/\4+k≠2+k/\4+k≠3+k:=by
 have a:∀{m n:Nat},m<n->m+k<n+k:=λ h=>Nat.add_lt_add_right h k;have z:∀{m n:Nat},n<m->m+k≠n:=λ h=>Nat.ne_of_gt (Nat.lt_of_lt_of_le h (Nat.le_add_right _ k));exact⟨⟨a (by decide),a (by decide),a (by decide)⟩,⟨z (by decide),z (by decide),z (by decide)⟩,⟨z (by decide),z (by decide),z (by decide)⟩,⟨Nat.lt_asymm (a (by decide)),Nat.lt_asymm (a (by decide))⟩,Nat.ne_of_gt (a (by decide)),Nat.ne_of_gt (a (by decide)),Nat.ne_of_gt (a (by decide))⟩
theorem Kg{k j:Nat}(h:j<k):j*2<2*k/\j*2+1<2*k/\(j*2+1) % 2≠0/\(j*2+1) / 2=j:=by
 have h2:j*2+1<2*k:=by
  rw[Nat.mul_comm 2 k];exact Nat.le_trans (Nat.le_of_eq (Nat.succ_mul j 2).symm) (Nat.mul_le_mul_right 2 h)
 refine⟨Nat.lt_of_succ_lt h2,h2,?_,?_⟩
 ·rw[Nat.add_comm,Nat.add_mul_mod_self_right];decide
 ·rw[Nat.add_comm,Nat.add_mul_div_right 1 j (by decide)];exact Nat.zero_add j
theorem Rq{k r:Nat}(h:r<2*k):r<2*k+4:=Nat.lt_of_lt_of_le h (Nat.le_add_right _ _)
namespace nX
noncomputable section
def P(k:Nat)(ns:Nat):Prop:=∀(x:Key) (h:y0 k ns x),dec k (ad k x)=x
def xe:(Nat)×(Nat):=@Classical.epsilon _ ⟨(default,default)⟩ λ x=>¬P x.1 x.2
def k:Nat:=xe.1
def ns:Nat:=xe.2
theorem core:P k ns:=λ x h=>by
 obtain⟨⟨a1,a2,a3⟩,⟨b1,b2,b3⟩,⟨c1,c2,c3⟩,⟨d2,d3⟩,e2,e3,f3⟩:=NS k;cases x with
 |me=>exact(qe (n:=0) (Nat.lt_of_lt_of_le (by decide) (Nat.le_add_right 5 k))).trans (if_pos rfl)
 |b=>exact(qe (n:=1) (Nat.lt_of_lt_of_le (by decide) (Nat.le_add_right 5 k))).trans ((if_neg Nat.one_ne_zero).trans (if_pos rfl))
 |q j=>
  obtain⟨g1,g2,g3,g4⟩:=NT h;exact(qe g1).trans ((if_neg g2).trans ((if_neg g3).trans ((if_pos g4).trans (congrArg Key.q (Nat.add_sub_cancel_left 2 j)))))
 |Q=>exact(qe a1).trans ((if_neg b1).trans ((if_neg c1).trans ((if_neg (Nat.lt_irrefl _)).trans (if_pos rfl))))
 |c=>exact(qe a2).trans ((if_neg b2).trans ((if_neg c2).trans ((if_neg d2).trans ((if_neg e2).trans (if_pos rfl)))))
 |S=>exact(qe a3).trans ((if_neg b3).trans ((if_neg c3).trans ((if_neg d3).trans ((if_neg e3).trans (if_neg f3)))))
 |t i j=>
  obtain⟨g1,_⟩:=Kg h.2;exact(qd (Rq g1)).trans ((if_pos g1).trans ((if_pos (Nat.mul_mod_left j 2)).trans (congrArg (Key.t i) (Nat.mul_div_cancel j (by decide)))))
 |m i j=>
  obtain⟨_,g1,g2,g3⟩:=Kg h.2;exact(qd (Rq g1)).trans ((if_pos g1).trans ((if_neg g2).trans (congrArg (Key.m i) g3)))
 |T i=>exact(qd (Nat.lt_add_of_pos_right (by decide))).trans ((if_neg (Nat.lt_irrefl _)).trans (if_pos rfl))
 |a i=>exact(qd (Nat.add_lt_add_left (by decide) _)).trans ((if_neg (Nat.not_lt.mpr (Nat.le_add_right _ 1))).trans ((if_neg (Nat.succ_ne_self _)).trans (if_pos rfl)))
 |d i=>exact(qd (Nat.add_lt_add_left (by decide) _)).trans ((if_neg (Nat.not_lt.mpr (Nat.le_add_right _ 2))).trans ((if_neg (λ q=>by cases Nat.add_left_cancel (m:=2) (k:=0) q)).trans ((if_neg (Nat.succ_ne_self _)).trans (if_pos rfl))))
 |s i=>exact(qd (Nat.add_lt_add_left (by decide) _)).trans ((if_neg (Nat.not_lt.mpr (Nat.le_add_right _ 3))).trans ((if_neg (λ q=>by cases Nat.add_left_cancel (m:=3) (k:=0) q)).trans ((if_neg (λ q=>by cases Nat.add_left_cancel (m:=3) (k:=1) q)).trans (if_neg (Nat.succ_ne_self _)))))
end
end nX
theorem zN{k ns:Nat}{x:Key}(h:y0 k ns x):dec k (ad k x)=x:=aU (Q:=λ x:(Nat)×(Nat)=>nX.P x.1 x.2) nX.core (k,ns) x h
theorem zb{k ns:Nat}{x y:Key}(hx:y0 k ns x)(hy:y0 k ns y)(e:ad k x=ad k y):x=y:=(zN hx).symm.trans ((congrArg (dec k) e).trans (zN hy))
noncomputable def eA(sz:Nat)(ps:List Ch):PyData:=.tuple [.int sz,.list (ps.map aD)]
noncomputable def O6(sz:Nat)(ps:List Ch):Nd:=.ins [("net",.d (eA sz ps)),("b",.o 1),("q",.o (2+ps.length)),("c",.o (3+ps.length)),("s",.o (4+ps.length))]
noncomputable def lO(l:List PyData):Nd:=.aI (l.map .d)
noncomputable def nd(sz:Nat)(ps:List Ch)(S:A):Key->Option Nd
 |.me=>some (O6 sz ps)
 |.b=>some (lO (((List.range sz).map S.b).map .int))
 |.q j=>some (lO ((S.q j).map c6))
 |.Q=>some (.aI ((List.range ps.length).map λ j=>.o (2+j)))
 |.c=>some (lO (((List.range sz).map S.c).map fun(n:Nat)=>.int n))
 |.S=>some (.aI ((List.range S.s.length).map λ i=>.o (ad ps.length (.s i))))
 |.t i j=>(S.s[i]?).map λ s=>lO ((s.t j).2.map .int)
 |.m i j=>(S.s[i]?).map λ s=>.aI [.d (.str (gf (s.t j).1)),.o (ad ps.length (.t i j))]
 |.T i=>some (.aI ((List.range ps.length).map λ j=>.o (ad ps.length (.m i j))))
 |.a i=>(S.s[i]?).map λ s=>lO (((List.range sz).map s.a).map pA)
 |.d i=>(S.s[i]?).map λ s=>lO (((List.range sz).map s.c).map rD)
 |.s i=>(S.s[i]?).map λ s=>.aI [.d (.str s.name),.o (ad ps.length (.a i)),.o (ad ps.length (.d i)),.o (ad ps.length (.T i))]
structure Rep(sz:Nat)(ps:List Ch)(S:A)(U:ae):Prop where
 len:U.length=5+ps.length+S.s.length*(2*ps.length+4)
 at':∀x,y0 ps.length S.s.length x->U[ad ps.length x]?=nd sz ps S x
theorem Er(sz:Nat)(ps:List Ch)(S:A)(y:Key)(hy:y0 ps.length S.s.length y):∃z,nd sz ps S y=some z:=by
 have g:∀i,i<S.s.length->∀f:cf->Nd,∃z,(S.s[i]?).map f=some z:=λ i hi f=>⟨_,congrArg (Option.map f) (List.getElem?_eq_getElem hi)⟩;cases y with
 |t i j=>exact g i hy.1 _
 |m i j=>exact g i hy.1 _
 |a i=>exact g i hy _
 |d i=>exact g i hy _
 |s i=>exact g i hy _
 |_=>exact⟨_,rfl⟩
theorem Rep.set{sz:Nat}{ps:List Ch}{S S':A}{U:ae}{n:Nd}(R:Rep sz ps S U)(x:Key)(hx:y0 ps.length S.s.length x)(hl:S'.s.length=S.s.length)(hn:nd sz ps S' x=some n)(ho:∀y,y≠x->y0 ps.length S.s.length y->nd sz ps S' y=nd sz ps S y):Rep sz ps S' (U.set (ad ps.length x) n):=by
 refine⟨by rw[List.length_set,R.len,hl],λ y hy=>?_⟩;rw[hl] at hy;by_cases e:y=x
 ·subst e;have cz:ad ps.length y<U.length:=by
   have h:=R.at' y hy;obtain⟨z,hz⟩:=Er sz ps S y hy;exact(List.getElem?_eq_some_iff.mp (h.trans hz)).1
  rw[List.getElem?_set_self cz,hn]
 ·have:ad ps.length x≠ad ps.length y:=λ q=>e (zb hx hy q).symm;rw[List.getElem?_set_ne this,R.at' y hy,ho y e hy]
end L1
end Q
end
section
namespace Q
open PySem Classical Mine.Internal.L1
theorem ti{G β:Type}{f:G->List β}{B:Nat}(l:List G)(hB:∀x∈l,(f x).length=B)(i r:Nat)(hr:r<B):(l.flatMap f)[i*B+r]?=(l[i]?).bind λ x=>(f x)[r]?:=by
 induction l generalizing i with
 |nil=>rfl
 |cons x t ih=>
  have hx:=hB x (by exact List.mem_cons_self);rw[List.flatMap_cons];cases i with
  |zero=>
   rw[Nat.zero_mul,Nat.zero_add,List.getElem?_append_left (by rw[hx];exact hr)];rfl
  |succ i=>
   have e:(i+1)*B+r=B+(i*B+r):=by rw[Nat.succ_mul,Nat.add_comm (i*B),Nat.add_assoc]
   rw[e,List.getElem?_append_right (by rw[hx];exact Nat.le_add_right _ _),hx,Nat.add_sub_cancel_left,ih (λ y hy=>hB y (by exact List.mem_cons_of_mem _ ‹_›)) i];rfl
theorem d8{G β:Type}{f:G->List β}{B:Nat}(l:List G)(hB:∀x∈l,(f x).length=B):(l.flatMap f).length=l.length*B:=by
 induction l with
 |nil=>simp
 |cons x t ih=>
  rw[List.flatMap_cons,List.length_append,hB x (by exact List.mem_cons_self),ih (λ y hy=>hB y (by exact List.mem_cons_of_mem _ ‹_›)),List.length_cons,Nat.succ_mul,Nat.add_comm]
theorem lH{G:Type}{bind:V->Option ak}{cond:ak->ae->Option (Bool×ae)}{elt:ak->ae->Option (V×ae)}(f:G->V)(j6:Nat->G->List Nd)(B r:Nat){ys:List G}{U:ae}
  (hB:∀L,∀y∈ys,(j6 L y).length=B)
  (VC:∀y,y∈ys->∀U,∃O,bind (f y)=some O/\cond O U=some (true,U)/\elt O U=some (.o (U.length+r),U++j6 U.length y)) :
  eZ bind cond elt (ys.map f) U=some ((List.range ys.length).map λ j=>.o (U.length+(j*B+r)),U++ys.zipIdx.flatMap λ x=>j6 (U.length+x.2*B) x.1):=by
 have gen:∀(ys:List G) (U:ae) (m L:Nat),U.length=L+m*B->(∀L,∀y∈ys,(j6 L y).length=B)->(∀y,y∈ys->∀U,∃O,bind (f y)=some O/\cond O U=some (true,U)/\elt O U=some (.o (U.length+r),U++j6 U.length y))->
   eZ bind cond elt (ys.map f) U=some ((List.range' m ys.length).map λ j=>.o (L+(j*B+r)),U++(ys.zipIdx m).flatMap λ x=>j6 (L+x.2*B) x.1):=by
  intro ys
  induction ys with
  |nil=>intro U m L _ _ _;exact congrArg (λ q=>some (([]:List V),q)) (List.append_nil U).symm
  |cons y t ih=>
   intro U m L hL hB VC;refine bC λ k9=>?_;obtain⟨O,h1,h2,h3⟩:=VC y sf U;refine k9 ?_;have hl:(U++j6 U.length y).length=L+(m+1)*B:=by
    rw[List.length_append,hB _ y sf,hL,Nat.succ_mul];exact Nat.add_assoc _ _ _
   have:=ih (U++j6 U.length y) (m+1) L hl (λ L z hz=>hB L z (sg hz)) (λ z hz=>VC z (sg hz));rw[show eZ bind cond elt ((y::t).map f) U=_ from bi h1 (bi h2 (bi h3 (bi this rfl)))];rw[hL];simp[List.range'_succ,List.zipIdx_cons,List.append_assoc,Nat.add_assoc]
 have:=gen ys U 0 U.length (by omega) hB VC;rw[this,List.range_eq_range']
theorem ye{G:Type}{bind:V->Option ak}{cond:ak->ae->Option (Bool×ae)}{elt:ak->ae->Option (V×ae)}(f:G->V)(g:G->Nd){ys:List G}{U:ae}
  (VC:∀y,y∈ys->∀U,∃O,bind (f y)=some O/\cond O U=some (true,U)/\elt O U=some (.o U.length,U++[g y])) :
  eZ bind cond elt (ys.map f) U=some ((List.range ys.length).map λ j=>.o (U.length+j),U++ys.map g):=by
 rw[lH f (λ _ y=>[g y]) 1 0 (λ _ _ _=>rfl) VC];congr 2
 ·simp
 ·congr 1;have:∀(ys:List G) (m:Nat),((ys.zipIdx m).flatMap λ x=>[g x.1])=ys.map g:=by
   intro ys
   induction ys with
   |nil=>intro m;rfl
   |cons y r ih=>intro m;simp[List.zipIdx_cons,ih]
  exact this ys 0
theorem Wp.ud{Y:Or}{o e:Expr}{n:Str}{p q:Pos}{r:List Stmt}{O:ak}{U σ1 σ2:ae}{v:V}{l:Nat}{fs:List (Str×V)}{K:Out->ak->ae->Prop}(h:ev Y e O U=some (v,σ1))(h1:ev Y o O σ1=some (.o l,σ2))(h2:σ2[l]?=some (.ins fs))(h3:fs.length<1000)(h4:Wp (xs Y r O (σ2.set l (.ins (cT n v fs)))) K):Wp (xs Y (.Assign [.Attribute o n p] e q::r) O U) K:=
 Wp.nx (bi h (bi (bi h1 ((congrArg (stN l n v O σ2) h2).trans (if_pos h3))) rfl)) h4
namespace L1
noncomputable def pV(sz k:Nat)(s:cf):Snap:=⟨s.name,(List.range sz).map s.a,(List.range sz).map s.c,(List.range k).map s.t⟩
noncomputable def ur(sz k:Nat)(X:A):St:=⟨(List.range sz).map X.b,(List.range k).map X.q,(List.range sz).map X.c,X.s.map (pV sz k)⟩
noncomputable def BY(L:Nat)(x:(Nat×List Int)×Nat):List Nd:=[lO (x.1.2.map .int),.aI [.d (.str (gf x.1.1)),.o (L+x.2*2)]]
noncomputable def j6(sz k L:Nat)(s:cf):List Nd:=
 ((List.range k).map s.t).zipIdx.flatMap (BY L)++[.aI ((List.range k).map λ j=>.o (L+(j*2+1))),lO (((List.range sz).map s.a).map pA),lO (((List.range sz).map s.c).map rD),.aI [.d (.str s.name),.o (L+(2*k+1)),.o (L+(2*k+2)),.o (L+2*k)]]
noncomputable def qp(sz:Nat)(ps:List Ch)(X:A)(m:Nat):List Nd:=
 [O6 sz ps,lO (((List.range sz).map X.b).map .int)]++(List.range ps.length).map (λ j=>lO ((X.q j).map c6))++
 [.aI ((List.range ps.length).map λ j=>.o (2+j)),lO (((List.range sz).map X.c).map fun(n:Nat)=>.int n),.aI ((List.range m).map λ i=>.o (ad ps.length (.s i)))]
noncomputable def lay(sz:Nat)(ps:List Ch)(X:A):ae:=
 qp sz ps X X.s.length++X.s.zipIdx.flatMap λ x=>j6 sz ps.length (5+ps.length+x.2*(2*ps.length+4)) x.1
theorem mU(sz k L:Nat)(s:cf):(j6 sz k L s).length=2*k+4:=by
 rw[j6,List.length_append,d8 (B:=2) _ (λ x _=>rfl)];simp;exact Nat.mul_comm _ _
theorem vr(sz:Nat)(ps:List Ch)(X:A):([O6 sz ps,lO (((List.range sz).map X.b).map .int)]++(List.range ps.length).map (λ j=>lO ((X.q j).map c6))).length=2+ps.length:=by
 rw[List.length_append,List.length_map,List.length_range];rfl
theorem rP(sz:Nat)(ps:List Ch)(X:A)(m:Nat):(qp sz ps X m).length=5+ps.length:=by
 rw[qp,List.length_append,vr];exact Nat.add_right_comm 2 ps.length 3
theorem vq(sz:Nat)(ps:List Ch)(X:A)(m r:Nat):(qp sz ps X m)[2+ps.length+r]?=([.aI ((List.range ps.length).map λ j=>.o (2+j)),lO (((List.range sz).map X.c).map fun(n:Nat)=>.int n),.aI ((List.range m).map λ i=>.o (ad ps.length (.s i)))]:List Nd)[r]?:=by
 rw[qp,List.getElem?_append_right (by rw[vr];exact Nat.le_add_right _ _),vr,Nat.add_sub_cancel_left]
theorem D8(sz:Nat)(ps:List Ch)(X:A):(lay sz ps X).length=5+ps.length+X.s.length*(2*ps.length+4):=by
 rw[lay,List.length_append,rP,d8 _ (λ x _=>mU _ _ _ _),List.length_zipIdx]
theorem jn(sz:Nat)(ps:List Ch)(X:A)(i r:Nat)(hr:r<2*ps.length+4)(hi:i<X.s.length) :
  (lay sz ps X)[5+ps.length+i*(2*ps.length+4)+r]?=(j6 sz ps.length (5+ps.length+i*(2*ps.length+4)) X.s[i])[r]?:=by
 rw[lay,List.getElem?_append_right (by rw[rP,Nat.add_assoc];exact Nat.le_add_right _ _),rP,Nat.add_assoc (5+ps.length),Nat.add_sub_cancel_left,ti _ (λ x _=>mU _ _ _ _) i r hr];simp[hi]
theorem mV(sz k L:Nat)(s:cf)(j r:Nat)(hj:j<k)(hr:r<2):(j6 sz k L s)[j*2+r]?=(BY L (s.t j,j))[r]?:=by
 rw[j6,List.getElem?_append_left (by rw[d8 (B:=2) _ (λ x _=>rfl)];simp;omega),ti (B:=2) _ (λ x _=>rfl) j r hr];simp[hj]
theorem f6(sz k L:Nat)(s:cf)(r:Nat):(j6 sz k L s)[2*k+r]?=([.aI ((List.range k).map λ j=>.o (L+(j*2+1))),lO (((List.range sz).map s.a).map pA),lO (((List.range sz).map s.c).map rD),.aI [.d (.str s.name),.o (L+(2*k+1)),.o (L+(2*k+2)),.o (L+2*k)]]:List Nd)[r]?:=by
 have:(((List.range k).map s.t).zipIdx.flatMap (BY L)).length=2*k:=by rw[d8 (B:=2) _ (λ x _=>rfl)];simp;exact Nat.mul_comm _ _
 rw[j6,List.getElem?_append_right (by omega),this,Nat.add_sub_cancel_left]
theorem w8(sz:Nat)(ps:List Ch)(X:A):Rep sz ps X (lay sz ps X):=by
 refine⟨D8 _ _ _,λ x hx=>?_⟩;have hd:∀i,i<5+ps.length->(lay sz ps X)[i]?=(qp sz ps X X.s.length)[i]?:=λ i hi=>by
  rw[lay,List.getElem?_append_left (by rw[rP];exact hi)]
 cases x with
 |me=>exact hd 0 (Nat.lt_of_lt_of_le (by decide) (Nat.le_add_right 5 _))
 |b=>exact hd 1 (Nat.lt_of_lt_of_le (by decide) (Nat.le_add_right 5 _))
 |q j=>
  have hx:j<ps.length:=hx;refine(hd (2+j) (Nat.add_lt_add (by decide) hx)).trans ?_;rw[qp,List.append_assoc,Nat.add_comm 2 j];show((List.range ps.length).map _++_)[j]?=_;rw[List.getElem?_append_left (by rw[List.length_map,List.length_range];exact hx),List.getElem?_map,List.getElem?_range hx];rfl
 |Q=>exact(hd (2+ps.length) (Nat.add_lt_add_right (by decide) _)).trans (vq sz ps X _ 0)
 |c=>exact(hd (3+ps.length) (Nat.add_lt_add_right (by decide) _)).trans (Nat.add_right_comm 2 1 ps.length▸vq sz ps X _ 1)
 |S=>exact(hd (4+ps.length) (Nat.add_lt_add_right (by decide) _)).trans (Nat.add_right_comm 2 2 ps.length▸vq sz ps X _ 2)
 |t i j=>
  have hx:i<X.s.length/\j<ps.length:=hx;rw[ad,jn _ _ _ _ _ (by omega) hx.1];have:=mV sz ps.length (5+ps.length+i*(2*ps.length+4)) X.s[i] j 0 hx.2 (by exact Nat.le_add_left _ _);refine Eq.trans this ?_;rw[nd,List.getElem?_eq_getElem hx.1];rfl
 |m i j=>
  have hx:i<X.s.length/\j<ps.length:=hx;rw[ad,jn _ _ _ _ _ (by omega) hx.1,mV _ _ _ _ _ _ hx.2 (by exact Nat.le_refl _),nd,List.getElem?_eq_getElem hx.1];rfl
 |T i=>
  have hx:i<X.s.length:=hx;rw[ad,jn _ _ _ _ _ (Nat.lt_add_of_pos_right (by decide)) hx];have:=f6 sz ps.length (5+ps.length+i*(2*ps.length+4)) X.s[i] 0;refine Eq.trans this ?_;rw[nd];rfl
 |a i=>
  have hx:i<X.s.length:=hx;rw[ad,jn _ _ _ _ _ (Nat.add_lt_add_left (by decide) _) hx,f6,nd,List.getElem?_eq_getElem hx];rfl
 |d i=>
  have hx:i<X.s.length:=hx;rw[ad,jn _ _ _ _ _ (by exact Nat.le_succ _) hx,f6,nd,List.getElem?_eq_getElem hx];rfl
 |s i=>
  have hx:i<X.s.length:=hx;rw[ad,jn _ _ _ _ _ (by exact Nat.le_refl _) hx,f6,nd,List.getElem?_eq_getElem hx];rfl
end L1
end Q
end
section
namespace Q
open PySem Classical Mine.Internal.L1
theorem bD{Y:Or}{x:Str}{p:Pos}{O:ak}{U:ae}{l:Nat}{xs:List V}(hg:Y.gl x=none)(hf:Y.cn p=false)(h:O x=some (.o l))(hs:U[l]?=some (.aI xs)):ev Y (.Name x p) O U=some (.o l,U):=by
 exact te hg h (EU hf hs rfl)
namespace L1
noncomputable abbrev Se(Q:V->ae->Prop):Out->ak->ae->Prop:=λ o _ aj=>∃v,(o=.rt v\/(o=.nx/\v=.d .none))/\Q v aj
theorem nC{n:Nat}{f:Str}{g:Fn}{vs:List V}{O:ak}{U:ae}{Q:V->ae->Prop}(h:bM.mt f=some g)(hb:binds g.params vs=some O)
  (hx:Wp (xs (bM.run n) g.body O U) (Se Q)):∃v aj,(bM.run (n+1)).M f vs U=some (v,aj)/\Q v aj:=by
 obtain⟨o,aC,aj,e,v,h1 | ⟨h1,h2⟩,q⟩:=hx
 ·subst h1;exact⟨v,aj,bi h (bi hb (bi e rfl)),q⟩
 ·subst h1;subst h2;exact⟨_,aj,bi h (bi hb (bi e rfl)),q⟩
noncomputable def Il:Fn:=(bM.mt "__init__").getD ⟨[],[]⟩
theorem He:bM.mt "__init__"=some Il:=rfl
theorem HN(sz:Nat)(ps:List Ch)(X:A)(m:Nat)(me nd:Nd)(rest:List Nd) :
  ((me::(qp sz ps X m).tail)++rest).set (4+ps.length) nd=([me,lO (((List.range sz).map X.b).map .int)]++(List.range ps.length).map (λ j=>lO ((X.q j).map c6))++
 [.aI ((List.range ps.length).map λ j=>.o (2+j)),lO (((List.range sz).map X.c).map fun(n:Nat)=>.int n),nd])++rest:=by
 have e:me::(qp sz ps X m).tail=([me,lO (((List.range sz).map X.b).map .int)]++(List.range ps.length).map (λ j=>lO ((X.q j).map c6)))++[.aI ((List.range ps.length).map λ j=>.o (2+j)),lO (((List.range sz).map X.c).map fun(n:Nat)=>.int n),.aI ((List.range m).map λ i=>.o (ad ps.length (.s i)))]:=rfl;rw[List.set_append_left (h:=by simp[qp];lia),e,List.set_append_right (h:=by simp;lia)];have:4+ps.length-([me,lO (((List.range sz).map X.b).map .int)]++(List.range ps.length).map (λ j=>lO ((X.q j).map c6))).length=2:=by simp;lia
 rw[this];rfl
theorem FW(sz:Nat)(ps:List Ch)(X:A)(m:Nat)(me:Nd)(rest:List Nd):((me::(qp sz ps X m).tail)++rest)[4+ps.length]?=some (.aI ((List.range m).map λ i=>.o (ad ps.length (.s i)))):=by
 rw[List.getElem?_append_left (by simp[qp];lia)];show(([me,_]++(List.range ps.length).map (λ j=>lO ((X.q j).map c6)))++[.aI ((List.range ps.length).map λ j=>.o (2+j)),lO (((List.range sz).map X.c).map fun(n:Nat)=>.int n),.aI ((List.range m).map λ i=>.o (ad ps.length (.s i)))]:List Nd)[4+ps.length]?=_;rw[List.getElem?_append_right (by simp;lia)];have:∀a b:Nd,4+ps.length-([a,b]++(List.range ps.length).map (λ j=>lO ((X.q j).map c6))).length=2:=by intro a b;simp;lia
 rw[this];rfl
namespace ib
noncomputable section
def P(n:Nat)(sz:Nat)(ps:List Ch)(X:A):Prop:=∀(hs:X.s.length<=50000),(bM.run (n+2)).M "__init__" [.o 0,.d (eA sz ps),.d (fV (ur sz ps.length X))] [.ins []]=some (.d .none,lay sz ps X)
def xe:(Nat)×(Nat)×(List Ch)×(A):=@Classical.epsilon _ ⟨(default,default,default,⟨λ _=>0,λ _=>[],λ _=>0,[]⟩)⟩ λ x=>¬P x.1 x.2.1 x.2.2.1 x.2.2.2
def n:Nat:=xe.1
def sz:Nat:=xe.2.1
def ps:List Ch:=xe.2.2.1
def X:A:=xe.2.2.2
theorem core:P n sz ps X:=λ hs=>by
 have key:∃v aj,(bM.run (n+2)).M "__init__" [.o 0,.d (eA sz ps),.d (fV (ur sz ps.length X))] [.ins []]=some (v,aj)/\(v=.d .none/\aj=lay sz ps X):=by
  refine nC He rfl ?_;refine Wp.ud rfl rfl rfl (Nat.le_of_ble_eq_true rfl) ?_;refine Wp.ud rfl rfl rfl (Nat.le_of_ble_eq_true rfl) ?_;refine Wp.ud (v:=.o (2+ps.length)) (σ1:=[.ins [("net",.d (eA sz ps)),("b",.o 1)],lO (((List.range sz).map X.b).map .int)]++(List.range ps.length).map (λ j=>lO ((X.q j).map c6))++[.aI ((List.range ps.length).map λ j=>.o (2+j))]) (fh (xs:=((List.range ps.length).map X.q).map λ l=>V.d (eQ l)) (σ1:=[.ins [("net",.d (eA sz ps)),("b",.o 1)],lO (((List.range sz).map X.b).map .int)]) ?_ (ye (λ l=>V.d (eQ l)) (λ l=>lO (l.map c6)) ?_) ?_) rfl rfl (Nat.le_of_ble_eq_true rfl) ?_
  ·show some (List.map V.d (List.map eQ _),_)=_;rw[List.map_map];rfl
  ·intro l hl U;exact⟨_,rfl,rfl,rfl⟩
  ·show some (V.o (_++_:List Nd).length,(_++_:List Nd)++[Nd.aI _])=_;simp[Function.comp_def];lia
  refine Wp.ud (v:=.o (3+ps.length)) (σ1:=[.ins [("net",.d (eA sz ps)),("b",.o 1),("q",.o (2+ps.length))],lO (((List.range sz).map X.b).map .int)]++(List.range ps.length).map (λ j=>lO ((X.q j).map c6))++[.aI ((List.range ps.length).map λ j=>.o (2+j)),lO (((List.range sz).map X.c).map fun(n:Nat)=>.int n)]) ?_ rfl rfl (Nat.le_of_ble_eq_true rfl) ?_
  ·show some (V.o (_:List Nd).length,(_:List Nd)++[lO (((List.range sz).map X.c).map fun(n:Nat)=>.int n)])=_;congr 2
   ·simp;lia
   ·show(_::_:List Nd)=_::_;simp;rfl
  refine Wp.asg (v:=.o (4+ps.length)) (σ1:=[.ins [("net",.d (eA sz ps)),("b",.o 1),("q",.o (2+ps.length)),("c",.o (3+ps.length))],lO (((List.range sz).map X.b).map .int)]++(List.range ps.length).map (λ j=>lO ((X.q j).map c6))++[.aI ((List.range ps.length).map λ j=>.o (2+j)),lO (((List.range sz).map X.c).map fun(n:Nat)=>.int n),.aI []]) ?_ ?_
  ·show some (V.o (_:List Nd).length,(_:List Nd)++[Nd.aI []])=_;congr 2
   ·simp;lia
   ·show(_::_:List Nd)=_::_;simp;rfl
  have hI:∀i,i<=X.s.length->i<cW:=λ i hi=>by simp only[cW];exact Nat.lt_of_le_of_lt (Nat.le_trans ‹_› ‹_›) (by decide)
  refine Wp.for (ys:=(X.s.map λ s=>fG (pV sz ps.length s)).map V.d) (σ1:=(.ins [("net",.d (eA sz ps)),("b",.o 1),("q",.o (2+ps.length)),("c",.o (3+ps.length))]::(qp sz ps X 0).tail)++[]) ?_ ?_
  ·have e:List.map fG (X.s.map (pV sz ps.length))=X.s.map λ s=>fG (pV sz ps.length s):=by rw[List.map_map];rfl
   show some (Src.items (List.map V.d (List.map fG (X.s.map (pV sz ps.length)))),_)=_;rw[e,List.append_nil];rfl
  refine Wp.lS (λ s=>fG (pV sz ps.length s)) (λ pre O U=>Ov ["n","a","c","t","tracks"] _ O/\U=(.ins [("net",.d (eA sz ps)),("b",.o 1),("q",.o (2+ps.length)),("c",.o (3+ps.length))]::(qp sz ps X pre.length).tail)++pre.zipIdx.flatMap λ x=>j6 sz ps.length (5+ps.length+x.2*(2*ps.length+4)) x.1) ⟨Ov.refl,rfl⟩ ?_ ?_
  ·rintro pre s post O U hy ⟨⟨f,rfl⟩,rfl⟩;have hl:((Nd.ins [("net",.d (eA sz ps)),("b",.o 1),("q",.o (2+ps.length)),("c",.o (3+ps.length))]::(qp sz ps X pre.length).tail)++pre.zipIdx.flatMap λ x=>j6 sz ps.length (5+ps.length+x.2*(2*ps.length+4)) x.1).length=5+ps.length+pre.length*(2*ps.length+4):=by
    rw[List.length_append,d8 _ (λ x _=>mU _ _ _ _),List.length_zipIdx];simp[qp];lia
   have dQ:=λ nd rest=>HN sz ps X pre.length (.ins [("net",.d (eA sz ps)),("b",.o 1),("q",.o (2+ps.length)),("c",.o (3+ps.length))]) nd ((pre.zipIdx.flatMap λ x=>j6 sz ps.length (5+ps.length+x.2*(2*ps.length+4)) x.1)++rest);have yr:((Nd.ins [("net",.d (eA sz ps)),("b",.o 1),("q",.o (2+ps.length)),("c",.o (3+ps.length))]::(qp sz ps X pre.length).tail)++pre.zipIdx.flatMap λ x=>j6 sz ps.length (5+ps.length+x.2*(2*ps.length+4)) x.1)[4+ps.length]?=some (.aI ((List.range pre.length).map λ i=>.o (ad ps.length (.s i)))):=FW sz ps X pre.length _ _;generalize Gk:((Nd.ins [("net",.d (eA sz ps)),("b",.o 1),("q",.o (2+ps.length)),("c",.o (3+ps.length))]::(qp sz ps X pre.length).tail)++pre.zipIdx.flatMap λ x=>j6 sz ps.length (5+ps.length+x.2*(2*ps.length+4)) x.1)=U at hl yr ⊢;refine Wp.bind rfl ?_;refine Wp.asg (v:=.o (U.length+ps.length*2)) (σ1:=U++((List.range ps.length).map s.t).zipIdx.flatMap (BY U.length)++[.aI ((List.range ps.length).map λ j=>.o (U.length+(j*2+1)))]) (fh (xs:=((List.range ps.length).map s.t).map λ t=>V.d (eJ t)) (σ1:=U) ?_ (lH (λ t=>V.d (eJ t)) (λ L (t:Nat×List Int)=>[lO (t.2.map .int),.aI [.d (.str (gf t.1)),.o L]]) 2 1 (λ _ _ _=>rfl) ?_) ?_) ?_
   ·show some (List.map V.d (List.map eJ _),_)=_;rw[List.map_map];rfl
   ·intro t ht U;refine⟨_,rfl,rfl,?_⟩;show some (V.o (U++[lO (t.2.map .int)]).length,(U++[lO (t.2.map .int)])++[.aI [.d (.str (gf t.1)),.o U.length]])=_;simp
   ·show some (V.o (_++_:List Nd).length,(_++_:List Nd)++[Nd.aI _])=_;rw[List.length_append,d8 (B:=2) _ (λ x _=>rfl)];simp;rfl
   have hk:(U++((List.range ps.length).map s.t).zipIdx.flatMap (BY U.length)).length=U.length+ps.length*2:=by
    rw[List.length_append,d8 (B:=2) _ (λ x _=>rfl)];simp
   have AB:∀r:List Nd,(U++r)[4+ps.length]?=some (.aI ((List.range pre.length).map λ i=>.o (ad ps.length (.s i)))):=λ r=>by
    rw[List.getElem?_append_left (by lia)];exact yr
   generalize Uo:((List.range ps.length).map s.t).zipIdx.flatMap (BY U.length)=τ at hk ⊢;generalize hT:Nd.aI ((List.range ps.length).map λ j=>V.o (U.length+(j*2+1)))=T at hk ⊢;have l1:(U++τ++[T]).length=U.length+(2*ps.length+1):=by rw[List.length_append,hk];simp;lia
   have l2:∀a,((U++τ++[T])++[a]).length=U.length+(2*ps.length+2):=λ a=>by rw[List.length_append,l1];simp;rfl
   have l3:∀a b,(((U++τ++[T])++[a])++[b]).length=ad ps.length (.s pre.length):=λ a b=>by rw[List.length_append,l2,hl,ad];simp;rfl
   refine Wp.expr (dP (l:=4+ps.length) (xs':=(List.range pre.length).map λ i=>.o (ad ps.length (.s i))) (xs:=(List.range pre.length).map λ i=>.o (ad ps.length (.s i))) (σ1:=U++τ++[T]) (σ2:=U++j6 sz ps.length U.length s) (v:=.o (ad ps.length (.s pre.length))) (bD rfl rfl rfl (by rw[List.append_assoc];exact AB _)) (by rw[List.append_assoc];exact AB _) (j9 (ah rfl (ah rfl (ah rfl (ah (bD (xs:=(List.range ps.length).map λ j=>V.o (U.length+(j*2+1))) rfl rfl rfl ?_) rfl)))) ?_) (AB _) (by simpa using hI pre.length (by rw[hy];simp))) (Wp.nil ⟨by repeat first | exact⟨f,rfl⟩ | refine Ov.upd ?_ rfl,?_⟩)
   ·rw[List.append_assoc,List.append_assoc,List.getElem?_append_right (by exact Nat.le_of_eq ‹_›),hk,Nat.sub_self,hT];rfl
   ·show some (V.o ((((U++τ++[T])++[_])++[_]):List Nd).length,(((U++τ++[T])++[_])++[_])++[Nd.aI [V.d (.str s.name),V.o (U++τ++[T]).length,V.o ((U++τ++[T])++[_]).length,V.o (U.length+ps.length*2)]])=_;rw[l3,l2,l1,j6,<-Uo,<-hT,Nat.mul_comm ps.length 2];simp only[List.append_assoc];rfl
   ·show _=Nd.ins _::_++_;rw[hl,<-Gk,List.append_assoc,dQ];have hz:(pre++[s]).zipIdx=pre.zipIdx++[(s,pre.length)]:=by simp[List.zipIdx_append]
    rw[hz,List.flatMap_append,List.length_append];show _=([_,_]++_++[_,_,Nd.aI ((List.range (pre.length+1)).map _)])++(_++(j6 _ _ (5+ps.length+pre.length*(2*ps.length+4)) s++[]));rw[List.range_succ,List.map_append,List.append_nil];rfl
  ·rintro O U ⟨⟨f,rfl⟩,rfl⟩;refine Wp.ud (bD (l:=4+ps.length) (xs:=(List.range X.s.length).map λ i=>.o (ad ps.length (.s i))) rfl rfl rfl ?_) rfl rfl (Nat.le_of_ble_eq_true rfl) (Wp.nil ⟨_,.inr ⟨rfl,rfl⟩,rfl,?_⟩)
   ·exact FW sz ps X X.s.length _ _
   ·rfl
 obtain⟨v,aj,h1,rfl,rfl⟩:=key;exact h1
end
end ib
theorem AQ(n:Nat)(sz:Nat)(ps:List Ch)(X:A):ib.P n sz ps X:=aU (Q:=λ x:(Nat)×(Nat)×(List Ch)×(A)=>ib.P x.1 x.2.1 x.2.2.1 x.2.2.2) ib.core (n,sz,ps,X)
end L1
end Q
end
section
namespace Q
open PySem Classical Mine.Internal.L1
theorem aG{Y:Or}{x:Str}{p:Pos}{O:ak}{U:ae}{l:Nat}{fs:List (Str×V)}(hg:Y.gl x=none)(hf:Y.cn p=false)(h:O x=some (.o l))(hs:U[l]?=some (.ins fs)):ev Y (.Name x p) O U=some (.o l,U):=by
 exact te hg h (EU hf hs rfl)
theorem bG{Y:Or}{o:Expr}{n:Str}{p:Pos}{O:ak}{U σ1:ae}{l l':Nat}{fs:List (Str×V)}{xs:List V}(h1:ev Y o O U=some (.o l,σ1))(h2:σ1[l]?=some (.ins fs))(h3:dY n fs=some (.o l'))(h4:σ1[l']?=some (.aI xs))(hf:Y.cn p=false):ev Y (.Attribute o n p) O U=some (.o l',σ1):=by
 exact bi h1 ((congrArg (Kk Y n p σ1) h2).trans (bi h3 (EU hf h4 rfl)))
theorem cX{Y:Or}{o:Expr}{n:Str}{p:Pos}{O:ak}{U σ1:ae}{l:Nat}{fs:List (Str×V)}{x:PyData}(h1:ev Y o O U=some (.o l,σ1))(h2:σ1[l]?=some (.ins fs))(h3:dY n fs=some (.d x))(hf:Y.cn p=false):ev Y (.Attribute o n p) O U=some (.d x,σ1):=by
 exact bi h1 ((congrArg (Kk Y n p σ1) h2).trans (bi h3 (if_neg (by rw[hf];exact Bool.false_ne_true))))
theorem aJ{G:Type}{xs:List G}{j:Nat}{v:G}(h:xs[j]?=some v):j<xs.length:=(List.getElem?_eq_some_iff.mp h).1
theorem cu{U:ae}{l l' j:Nat}{xs ys:List V}(h:U[l]?=some (.aI xs))(hj:xs[j]?=some (.o l'))(h':U[l']?=some (.aI ys)):dX U (.o l) (.d (.int (j:Nat)))=some (.o l'):=by
 exact(congrArg (um U (.d (.int (j:Nat)))) h).trans (bi (iw (aJ hj)) ((congrArg (Option.map (dr U)) hj).trans (congrArg (λ q=>some (Cz l' q)) h')))
theorem gH{U:ae}{l j:Nat}{xs:List V}{x:PyData}(h:U[l]?=some (.aI xs))(hj:xs[j]?=some (.d x)):dX U (.o l) (.d (.int (j:Nat)))=some (.d x):=by
 exact(congrArg (um U (.d (.int (j:Nat)))) h).trans (bi (iw (aJ hj)) (congrArg (Option.map (dr U)) hj))
theorem de{U:ae}{l k:Nat}{xs:List V}{v:V}(h:U[l]?=some (.aI xs))(hk:k<xs.length):fR (.o l) (.d (.int (k:Nat))) v U=some (U.set l (.aI (xs.set k v))):=by
 exact(congrArg (pT l (.d (.int (k:Nat))) v U) h).trans (bi (iw hk) (if_pos hk))
theorem gK{U:ae}{l k:Nat}{xs:List V}{i:Int}(h:U[l]?=some (.aI xs))(hk:xs[k]?=some (.d (.int i))):nI U (.o l) (.d (.int (k:Nat)))=some i:=by
 exact(congrArg (Kl (.d (.int (k:Nat)))) h).trans (bi (iw (aJ hk)) (bi hk rfl))
theorem Wp.sE{Y:Or}{o i e:Expr}{p q:Pos}{r:List Stmt}{O:ak}{U σ1 σ2 y2 σ4:ae}{v a b:V}{K:Out->ak->ae->Prop}(h:ev Y e O U=some (v,σ1))(h1:ev Y o O σ1=some (a,σ2))(h2:ev Y i O σ2=some (b,y2))(h3:fR a b v y2=some σ4)(h4:Wp (xs Y r O σ4) K):Wp (xs Y (.Assign [.Subscript o i p] e q::r) O U) K:=
 Wp.nx (bi h (bi (bi h1 (bi h2 (bi h3 rfl))) rfl)) h4
theorem Wp.aug{Y:Or}{o i e:Expr}{op:Operator}{p q:Pos}{r:List Stmt}{O:ak}{U σ1 σ2 y2 σ4:ae}{a b:V}{c m w:Int}{K:Out->ak->ae->Prop}(h1:ev Y o O U=some (a,σ1))(h2:ev Y i O σ1=some (b,σ2))(h3:nI σ2 a b=some c)(h4:ev Y e O σ2=some (.d (.int m),y2))(h5:zj op c m=some w)(h6:fR a b (.d (.int w)) y2=some σ4)(h7:Wp (xs Y r O σ4) K):Wp (xs Y (.AugAssign (.Subscript o i p) op e q::r) O U) K:=
 Wp.nx (bi h1 (bi h2 (bi h3 (bi h4 (bi (a:=m) rfl (bi h5 (bi h6 rfl))))))) h7
theorem kP{Y:Or}{o:Expr}{m:Str}{args:List Expr}{p q:Pos}{O:ak}{U σ1 σ2:ae}{l:Nat}{fs Qf:List (Str×V)}{vs:List V}{r:Option (V×ae)}(h1:ev Y o O U=some (.o l,σ1))(h2:σ1[l]?=some (.ins fs))(SF:(dY m fs).isSome=false)(h3:gJ Y args O σ1=some (vs,σ2))(h4:σ2[l]?=some (.ins Qf))(SG:(dY m Qf).isSome=false)(h5:Y.M m (.o l::vs) σ2=r):ev Y (.Call (.Attribute o m p) args [] q) O U=r:=by
 exact fi h1 (k:=5) (pW h2 (if_neg (by rw[SF];exact Bool.false_ne_true))) h3 (pW h4 (if_neg (by rw[SG];exact Bool.false_ne_true))) (kI h4 h5)
theorem wU{step:V->ak->ae->Res}{l f i:Nat}{O:ak}{U:ae}{xs:List V}(h:U[l]?=some (.aI xs)):Mine.Internal.gA step l (f+1) i O U=EC (λ x=>(step (dr U x) O U).bind λ y=>cont (Mine.Internal.gA step l f (i+1)) y.1 y.2.1 y.2.2) (some (.nx,O,U)) xs[i]?:=
 congrArg (KS (λ x=>(step (dr U x) O U).bind λ y=>cont (Mine.Internal.gA step l f (i+1)) y.1 y.2.1 y.2.2) i (some (.nx,O,U))) h
theorem Wp.Ak{step:V->ak->ae->Res}{l fuel:Nat}{O:ak}{U:ae}{K:Out->ak->ae->Prop}(xs:List V)(I:Nat->ak->ae->Prop)(aZ:xs.length<fuel)
  (h0:I 0 O U) (hl:∀i O U,I i O U->U[l]?=some (.aI xs))
  (hs:∀i v O U,xs[i]?=some v->I i O U->Wp (step (dr U v) O U) (JU (I (i+1)) K))
  (h1:∀O U,I xs.length O U->K .nx O U):Wp (Mine.Internal.gA step l fuel 0 O U) K:=by
 have gen:∀(m fuel i:Nat) (O:ak) (U:ae),i+m=xs.length->m<fuel->I i O U->Wp (Mine.Internal.gA step l fuel i O U) K:=by
  intro m
  induction m with
  |zero=>
   intro fuel i O U e hf hi;obtain rfl:i=xs.length:=e;cases fuel with
   |zero=>exact absurd hf (Nat.lt_irrefl 0)
   |succ f=>exact⟨.nx,O,U,by rw[wU (hl _ _ _ hi),List.getElem?_eq_none (Nat.le_refl _)];rfl,h1 _ _ hi⟩
  |succ m ih=>
   intro fuel i O U e hf hi;cases fuel with
   |zero=>exact absurd hf (Nat.not_lt_zero _)
   |succ f=>
   have cz:i<xs.length:=e▸Nat.lt_add_of_pos_right (Nat.succ_pos m);have hx:xs[i]?=some xs[i]:=List.getElem?_eq_getElem cz;obtain⟨o,ρ1,σ1,e1,k1⟩:=hs i _ O U hx hi;have Jr:∀{ρ1 σ1},I (i+1) ρ1 σ1->Wp (Mine.Internal.gA step l f (i+1) ρ1 σ1) K:=λ {ρ1 σ1} h=>ih f (i+1) ρ1 σ1 ((Nat.add_right_comm i 1 m).trans e) (Nat.lt_of_succ_lt_succ hf) h;rw[wU (hl _ _ _ hi),hx];show Wp ((step (dr U xs[i]) O U).bind _) K;rw[e1];cases o with
   |nx=>exact Jr k1
   |ct=>exact Jr k1
   |br=>exact⟨.nx,ρ1,σ1,rfl,k1⟩
   |ex=>exact k1.elim
   |rt v=>exact⟨.rt v,ρ1,σ1,rfl,k1⟩
 exact gen xs.length fuel 0 O U (by exact Nat.add_comm _ _) aZ h0
theorem fy{G:Type}(n p:Nat)(f:Nat->G)(v:G):((List.range n).map f).set p v=(List.range n).map λ x=>if x=p then v else f x:=by
 apply List.ext_getElem?;intro i;rw[List.getElem?_set];by_cases h:p=i
 ·subst h;by_cases hp:p<n<;>simp[hp]
 ·rw[if_neg h];by_cases hi:i<n
  ·simp[hi,Ne.symm h]
  ·simp[hi]
namespace L1
noncomputable def setB(p:Nat)(v:Int)(S:A):A:={ S with b:=λ x=>if x=p then v else S.b x }
noncomputable def setC(p:Nat)(v:Nat)(S:A):A:={ S with c:=λ x=>if x=p then v else S.c x }
noncomputable def eS(j:Nat)(l:List cB)(S:A):A:={ S with q:=λ x=>if x=j then l else S.q x }
noncomputable def dD(i:Nat)(f:cf->cf)(S:A):A:={ S with s:=S.s.modify i f }
noncomputable def fA(p:Nat)(v:Option Int)(s:cf):cf:={ s with a:=λ x=>if x=p then v else s.a x }
noncomputable def fD(p:Nat)(v:Option Nat)(s:cf):cf:={ s with c:=λ x=>if x=p then v else s.c x }
noncomputable def fT(j:Nat)(t:Nat×List Int)(s:cf):cf:={ s with t:=λ x=>if x=j then t else s.t x }
variable{sz:Nat}{ps:List Ch}{S:A}{U:ae}
theorem Rep.setB(R:Rep sz ps S U)(p:Nat)(v:Int):Rep sz ps (setB p v S) (U.set 1 (.aI (((((List.range sz).map S.b).map PyData.int).map V.d).set p (.d (.int v))))):=by
 refine R.set .b trivial rfl ?_ ?_
 ·simp only[nd,lO,L1.setB];simp only[List.map_map];rw[fy];congr 2;apply List.map_congr_left;intro x _;by_cases h:x=p<;>simp[h]
 ·intro y hy _;cases y<;>first | rfl | exact absurd rfl hy
theorem Rep.setC(R:Rep sz ps S U)(p:Nat)(v:Nat):Rep sz ps (setC p v S) (U.set (3+ps.length) (.aI (((((List.range sz).map S.c).map fun(n:Nat)=>PyData.int n).map V.d).set p (.d (.int (v:Nat)))))):=by
 refine R.set .c trivial rfl ?_ ?_
 ·simp only[nd,lO,L1.setC];simp only[List.map_map];rw[fy];congr 2;apply List.map_congr_left;intro x _;by_cases h:x=p<;>simp[h]
 ·intro y hy _;cases y<;>first | rfl | exact absurd rfl hy
theorem Rep.eS(R:Rep sz ps S U)(j:Nat)(hj:j<ps.length)(l:List cB):Rep sz ps (eS j l S) (U.set (2+j) (lO (l.map c6))):=by
 refine R.set (.q j) hj rfl ?_ ?_
 ·simp[nd,L1.eS]
 ·intro y hy _;cases y with
  |q j'=>
   have:j'≠j:=λ h=>hy (by rw[h]);simp[nd,L1.eS,this]
  |_=>rfl
theorem eF(S:A)(i i':Nat)(f:cf->cf):(dD i f S).s[i']?=if i=i' then(S.s[i']?).map f else S.s[i']?:=by
 by_cases h:i=i'<;>simp[dD,List.getElem?_modify,h]
theorem gq(S:A)(i:Nat)(f:cf->cf):(dD i f S).s.length=S.s.length:=by simp[dD]
theorem cG{β:Type}(S:A)(i i':Nat)(f:cf->cf)(g:cf->β)(h:i=i'->∀s,g (f s)=g s):((dD i f S).s[i']?).map g=(S.s[i']?).map g:=by
 rw[eF];by_cases e:i=i'
 ·rw[if_pos e];cases hs:S.s[i']? with
  |none=>rfl
  |some s=>simp[h e]
 ·rw[if_neg e]
theorem Rep.PA(R:Rep sz ps S U)(i p:Nat)(v:Option Int){s:cf}(hs:S.s[i]?=some s):Rep sz ps (dD i (fA p v) S) (U.set (ad ps.length (.a i)) (.aI (((((List.range sz).map s.a).map pA).map V.d).set p (.d (pA v))))):=by
 have hi:i<S.s.length:=by
  by_cases h:i<S.s.length
  ·exact h
  ·rw[List.getElem?_eq_none (by exact Nat.not_lt.mp ‹_›)] at hs;cases hs
 refine R.set (.a i) hi (gq _ _ _) ?_ ?_
 ·simp only[nd,lO,eF,hs,if_true,Option.map_some];simp only[List.map_map];rw[fy];congr 2;apply List.map_congr_left;intro x _;by_cases h:x=p<;>simp[h,fA]
 ·intro y hy _;cases y with
  |S=>simp only[nd,gq]
  |a i'=>
   have:i≠i':=λ h=>hy (by rw[h]);simp only[nd];exact cG _ _ _ _ _ λ h=>absurd h this
  |t i' j=>exact cG _ _ _ _ _ λ _ _=>rfl
  |m i' j=>exact cG _ _ _ _ _ λ _ _=>rfl
  |d i'=>exact cG _ _ _ _ _ λ _ _=>rfl
  |s i'=>exact cG _ _ _ _ _ λ _ _=>rfl
  |_=>rfl
theorem Rep.PB(R:Rep sz ps S U)(i p:Nat)(v:Option Nat){s:cf}(hs:S.s[i]?=some s):Rep sz ps (dD i (fD p v) S) (U.set (ad ps.length (.d i)) (.aI (((((List.range sz).map s.c).map rD).map V.d).set p (.d (rD v))))):=by
 have hi:i<S.s.length:=by
  by_cases h:i<S.s.length
  ·exact h
  ·rw[List.getElem?_eq_none (by exact Nat.not_lt.mp ‹_›)] at hs;cases hs
 refine R.set (.d i) hi (gq _ _ _) ?_ ?_
 ·simp only[nd,lO,eF,hs,if_true,Option.map_some];simp only[List.map_map];rw[fy];congr 2;apply List.map_congr_left;intro x _;by_cases h:x=p<;>simp[h,fD]
 ·intro y hy _;cases y with
  |S=>simp only[nd,gq]
  |d i'=>
   have:i≠i':=λ h=>hy (by rw[h]);simp only[nd];exact cG _ _ _ _ _ λ h=>absurd h this
  |t i' j=>exact cG _ _ _ _ _ λ _ _=>rfl
  |m i' j=>exact cG _ _ _ _ _ λ _ _=>rfl
  |a i'=>exact cG _ _ _ _ _ λ _ _=>rfl
  |s i'=>exact cG _ _ _ _ _ λ _ _=>rfl
  |_=>rfl
theorem Rep.setM(R:Rep sz ps S U)(i j k:Nat)(hj:j<ps.length){s:cf}(hs:S.s[i]?=some s):Rep sz ps (dD i (fT j (k,(s.t j).2)) S) (U.set (ad ps.length (.m i j)) (.aI [.d (.str (gf k)),.o (ad ps.length (.t i j))])):=by
 have hi:i<S.s.length:=by
  by_cases h:i<S.s.length
  ·exact h
  ·rw[List.getElem?_eq_none (by exact Nat.not_lt.mp ‹_›)] at hs;cases hs
 have key:∀{i'},i=i'->∀s',S.s[i']?=some s'->s'=s:=λ e s' h'=>by subst e;rw[hs] at h';exact(Option.some.inj h').symm
 refine R.set (.m i j) ⟨hi,hj⟩ (gq _ _ _) ?_ ?_
 ·simp only[nd,eF,hs,if_true,Option.map_some,fT]
 ·intro y hy _;cases y with
  |S=>simp only[nd,gq]
  |d i'=>exact cG _ _ _ _ _ λ _ _=>rfl
  |a i'=>exact cG _ _ _ _ _ λ _ _=>rfl
  |s i'=>exact cG _ _ _ _ _ λ _ _=>rfl
  |t i' j'=>
   simp only[nd,eF];by_cases e:i=i'
   ·subst e;simp only[if_true,hs,Option.map_some,fT];by_cases e':j'=j<;>simp[e']
   ·rw[if_neg e]
  |m i' j'=>
   simp only[nd,eF];by_cases e:i=i'
   ·subst e;have:j'≠j:=λ h=>hy (by rw[h]);simp[hs,fT,this]
   ·rw[if_neg e]
  |_=>rfl
theorem Rep.PC(R:Rep sz ps S U)(i j:Nat)(l:List Int)(hj:j<ps.length){s:cf}(hs:S.s[i]?=some s):Rep sz ps (dD i (fT j ((s.t j).1,l)) S) (U.set (ad ps.length (.t i j)) (lO (l.map .int))):=by
 have hi:i<S.s.length:=by
  by_cases h:i<S.s.length
  ·exact h
  ·rw[List.getElem?_eq_none (by exact Nat.not_lt.mp ‹_›)] at hs;cases hs
 refine R.set (.t i j) ⟨hi,hj⟩ (gq _ _ _) ?_ ?_
 ·simp only[nd,eF,hs,if_true,Option.map_some,fT]
 ·intro y hy _;cases y with
  |S=>simp only[nd,gq]
  |d i'=>exact cG _ _ _ _ _ λ _ _=>rfl
  |a i'=>exact cG _ _ _ _ _ λ _ _=>rfl
  |s i'=>exact cG _ _ _ _ _ λ _ _=>rfl
  |m i' j'=>
   simp only[nd,eF];by_cases e:i=i'
   ·subst e;simp only[if_true,hs,Option.map_some,fT];by_cases e':j'=j<;>simp[e']
   ·rw[if_neg e]
  |t i' j'=>
   simp only[nd,eF];by_cases e:i=i'
   ·subst e;have:j'≠j:=λ h=>hy (by rw[h]);simp[hs,fT,this]
   ·rw[if_neg e]
  |_=>rfl
end L1
end Q
end
section
namespace Q
open PySem Classical Mine.Internal.L1
theorem wu{G:Type}{ps:List G}{pre post:List (G×Nat)}{y:G×Nat}(h:ps.zipIdx=pre++y::post):y.2=pre.length/\ps[pre.length]?=some y.1:=by
 have h1:ps.zipIdx[pre.length]?=some y:=by rw[h,List.getElem?_append_right (Nat.le_refl _),Nat.sub_self];rfl
 rw[List.getElem?_zipIdx] at h1;obtain⟨x,hx,rfl⟩:=Option.map_eq_some_iff.1 h1;exact⟨Nat.zero_add _,hx⟩
theorem rg{β:Type}{n p:Nat}{f:Nat->β}(h:p<n):((List.range n).map f)[p]?=some (f p):=by
 rw[List.getElem?_map,List.getElem?_range h];rfl
theorem EW{β γ:Type}{n p:Nat}{f:Nat->β}{g:β->PyData}{k:PyData->γ}(h:p<n):((((List.range n).map f).map g).map k)[p]?=some (k (g (f p))):=by
 rw[List.getElem?_map,List.getElem?_map,rg h];rfl
theorem rY{β γ:Type}{n p:Nat}{f:Nat->β}{g:β->PyData}{k:PyData->γ}(h:p<n):p<((((List.range n).map f).map g).map k).length:=aJ (EW h)
theorem xK{β:Type}{P:Nat->Prop}{D:DecidablePred P}{m:Nat}{u v:Nat->β}:(λ j=>if j<m+1/\P j then u j else v j)=if P m then(λ j=>if j=m then u m else if j<m/\P j then u j else v j) else λ j=>if j<m/\P j then u j else v j:=by
 have lt:∀{j},j≠m->(j<m+1/\P j↔j<m/\P j):=λ e=>⟨λ h=>⟨Nat.lt_of_le_of_ne (Nat.le_of_lt_succ h.1) e,h.2⟩,λ h=>⟨Nat.lt_succ_of_lt h.1,h.2⟩⟩;by_cases hP:P m
 ·rw[if_pos hP];funext j;by_cases e:j=m
  ·rw[if_pos e,e,if_pos ⟨Nat.lt_succ_self m,hP⟩]
  ·rw[if_neg e];exact fK (lt e)
 ·rw[if_neg hP];funext j;by_cases e:j=m
  ·rw[if_neg fun(h:j<m+1/\P j)=>hP (e▸h.2),if_neg fun(h:j<m/\P j)=>hP (e▸h.2)]
  ·exact fK (lt e)
namespace L1
noncomputable def JA(ps:List Ch)(p:Nat)(nm:Str)(m:Nat)(q:Nat->List cB):Nat->List cB:=λ j=>if j<m/\(ps.getD j (0,0)).1=p then q j++[.mark nm] else q j
noncomputable def Nj(ps:List Ch)(p:Nat)(m:Nat)(t:Nat->Nat×List Int):Nat->Nat×List Int:=λ j=>if j<m/\(ps.getD j (0,0)).2=p then(1,(t j).2) else t j
noncomputable def gT(ps:List Ch)(p m:Nat)(s:cf):cf:={ s with t:=Nj ps p m s.t }
noncomputable def jU(ps:List Ch)(p i:Nat)(nm:Str)(m:Nat)(S:A):A:={ (dD i (gT ps p m) S) with q:=JA ps p nm m S.q }
noncomputable def jT(ps:List Ch)(p i:Nat)(nm:Str)(S:A):A:=jU ps p i nm ps.length (dD i (fD p (some (S.c p))) (dD i (fA p (some (S.b p))) S))
variable{sz:Nat}{ps:List Ch}{S:A}{U:ae}
theorem A.ext{S S':A}(h1:S.b=S'.b)(h2:S.q=S'.q)(h3:S.c=S'.c)(h4:S.s=S'.s):S=S':=by
 cases S;cases S';cases h1;cases h2;cases h3;cases h4;rfl
theorem m7{l m:List cf}{i:Nat}{f:cf->cf}(h1:(l[i]?).map f=m[i]?)(h2:∀n,i≠n->l[n]?=m[n]?):l.modify i f=m:=by
 apply List.ext_getElem?;intro n;by_cases h:i=n
 ·rw[<-h,List.getElem?_modify_eq];exact h1
 ·rw[List.getElem?_modify_ne _ _ h];exact h2 n h
theorem Me{j:Nat}{P:Prop}:¬(j<0/\P):=λ h=>Nat.not_lt_zero _ h.1
theorem Mf{j:Nat}{P:Prop}:¬(j<j/\P):=λ h=>Nat.lt_irrefl _ h.1
theorem v3(ps:List Ch)(p i:Nat)(nm:Str)(S:A):jU ps p i nm 0 S=S:=
 A.ext rfl (funext λ j=>show JA ps p nm 0 S.q j=S.q j from if_neg Me) rfl (m7 (by
  cases S.s[i]? with
  |none=>rfl
  |some s=>exact congrArg (λ t=>some { s with t:=t }) (funext λ j=>if_neg Me)) λ _ _=>rfl)
theorem mod_mod{l:List cf}{i:Nat}{f g:cf->cf}:(l.modify i f).modify i g=l.modify i (λ s=>g (f s)):=
 m7 (by rw[List.getElem?_modify_eq,List.getElem?_modify_eq];cases l[i]?<;>rfl) λ n h=>by rw[List.getElem?_modify_ne _ _ h,List.getElem?_modify_ne _ _ h]
theorem mod_congr{l:List cf}{i:Nat}{f g:cf->cf}{s:cf}(hs:l[i]?=some s)(h:f s=g s):l.modify i f=l.modify i g:=
 m7 (by rw[List.getElem?_modify_eq,hs];exact congrArg some h) λ n h=>(List.getElem?_modify_ne _ _ h).symm
theorem mod_self{i:Nat}{s:cf}{f:cf->cf}(hs:S.s[i]?=some s):(dD i f S).s[i]?=some (f s):=by
 rw[eF,if_pos rfl,hs];rfl
theorem vZ(ps:List Ch)(p i:Nat)(nm:Str)(m:Nat)(S:A){c:Ch}{s:cf}(hc:ps[m]?=some c)(hs:S.s[i]?=some s) :
  jU ps p i nm (m+1) S=(let T:=if c.2=p then dD i (fT m (1,(s.t m).2)) (jU ps p i nm m S) else jU ps p i nm m S
   if c.1=p then eS m (S.q m++[.mark nm]) T else T):=by
 have hg:ps.getD m (0,0)=c:=by rw[List.getD_eq_getElem?_getD,hc];rfl
 have hq:JA ps p nm (m+1) S.q=if c.1=p then(λ j=>if j=m then S.q m++[.mark nm] else JA ps p nm m S.q j) else JA ps p nm m S.q:=hg▸xK (P:=λ j=>(ps.getD j (0,0)).1=p)
 have ht:Nj ps p (m+1) s.t=if c.2=p then(λ j=>if j=m then(1,(s.t m).2) else Nj ps p m s.t j) else Nj ps p m s.t:=hg▸xK (P:=λ j=>(ps.getD j (0,0)).2=p)
 show _=if c.1=p then eS m (S.q m++[.mark nm]) (if c.2=p then _ else _) else(if c.2=p then _ else _)
 have fin:∀T:A,T.b=S.b->T.q=JA ps p nm m S.q->T.c=S.c->S.s.modify i (gT ps p (m+1))=T.s->jU ps p i nm (m+1) S=if c.1=p then eS m (S.q m++[.mark nm]) T else T:=λ T e1 e2 e3 e4=>by
  by_cases h1:c.1=p
  ·rw[if_pos h1] at hq ⊢;exact A.ext e1.symm (hq.trans (by rw[<-e2];rfl)) e3.symm e4
  ·rw[if_neg h1] at hq ⊢;exact A.ext e1.symm (hq.trans e2.symm) e3.symm e4
 by_cases h2:c.2=p
 ·rw[if_pos h2] at ht ⊢;exact fin _ rfl rfl rfl ((mod_congr hs (congrArg (λ t=>({ s with t:=t }:cf)) ht)).trans mod_mod.symm)
 ·rw[if_neg h2] at ht ⊢;exact fin _ rfl rfl rfl (mod_congr hs (congrArg (λ t=>({ s with t:=t }:cf)) ht))
theorem Rep.nS{i:Nat}{s:cf}(R:Rep sz ps S U)(hs:S.s[i]?=some s):U[ad ps.length (.s i)]?=some (.aI [.d (.str s.name),.o (ad ps.length (.a i)),.o (ad ps.length (.d i)),.o (ad ps.length (.T i))]):=(R.at' (.s i) (aJ hs)).trans (congrArg (Option.map _) hs)
theorem Rep.nA{i:Nat}{s:cf}(R:Rep sz ps S U)(hs:S.s[i]?=some s):U[ad ps.length (.a i)]?=some (lO (((List.range sz).map s.a).map pA)):=(R.at' (.a i) (aJ hs)).trans (congrArg (Option.map _) hs)
theorem Rep.nD{i:Nat}{s:cf}(R:Rep sz ps S U)(hs:S.s[i]?=some s):U[ad ps.length (.d i)]?=some (lO (((List.range sz).map s.c).map rD)):=(R.at' (.d i) (aJ hs)).trans (congrArg (Option.map _) hs)
theorem Rep.nM{i j:Nat}{s:cf}(R:Rep sz ps S U)(hs:S.s[i]?=some s)(hj:j<ps.length):U[ad ps.length (.m i j)]?=some (.aI [.d (.str (gf (s.t j).1)),.o (ad ps.length (.t i j))]):=(R.at' (.m i j) ⟨aJ hs,hj⟩).trans (congrArg (Option.map _) hs)
theorem Rep.nt{i j:Nat}{s:cf}(R:Rep sz ps S U)(hs:S.s[i]?=some s)(hj:j<ps.length):U[ad ps.length (.t i j)]?=some (lO ((s.t j).2.map .int)):=(R.at' (.t i j) ⟨aJ hs,hj⟩).trans (congrArg (Option.map _) hs)
theorem H2{i:Nat}{s:cf}{f:cf->cf}(P:Prop){D:Decidable P}(hs:S.s[i]?=some s)(hf:(f s).name=s.name):∃s',(@ite A P D (dD i f S) S).s[i]?=some s'/\s'.name=s.name/\(@ite A P D (dD i f S) S).q=S.q:=by
 by_cases h:P
 ·rw[if_pos h];exact⟨_,mod_self hs,hf,rfl⟩
 ·rw[if_neg h];exact⟨_,hs,rfl,rfl⟩
theorem Wp.pS{Y:Or}{r:List Stmt}{O:ak}{S':A}{aj:ae}{K:Out->ak->ae->Prop}(R':Rep sz ps S' aj)(h:∀τ,Rep sz ps S' τ->Wp (xs Y r O τ) K):Wp (xs Y r O aj) K:=h _ R'
noncomputable def Im:Fn:=(bM.mt "_save").getD ⟨[],[]⟩
theorem Hg:bM.mt "_save"=some Im:=rfl
end L1
namespace L1
namespace iu
noncomputable section
def P(sz:Nat)(ps:List Ch)(S:A)(U:ae)(n:Nat)(i:Nat)(p:Nat)(s:cf):Prop:=∀(R:Rep sz ps S U) (hp:p<sz) (hs:S.s[i]?=some s) (hq:∀j,j<ps.length->(S.q j).length<cW),∃v aj,(bM.run (n+2)).M "_save" [.o 0,.d (.int p),.o (ad ps.length (.s i))] U=some (v,aj)/\(v=.d .none/\Rep sz ps (jT ps p i s.name S) aj)
def xe:(Nat)×(List Ch)×(A)×(ae)×(Nat)×(Nat)×(Nat)×(cf):=@Classical.epsilon _ ⟨(default,default,⟨λ _=>0,λ _=>[],λ _=>0,[]⟩,default,default,default,default,⟨default,λ _=>none,λ _=>none,λ _=>(0,[])⟩)⟩ λ x=>¬P x.1 x.2.1 x.2.2.1 x.2.2.2.1 x.2.2.2.2.1 x.2.2.2.2.2.1 x.2.2.2.2.2.2.1 x.2.2.2.2.2.2.2
def sz:Nat:=xe.1
def ps:List Ch:=xe.2.1
def S:A:=xe.2.2.1
def U:ae:=xe.2.2.2.1
def n:Nat:=xe.2.2.2.2.1
def i:Nat:=xe.2.2.2.2.2.1
def p:Nat:=xe.2.2.2.2.2.2.1
def s:cf:=xe.2.2.2.2.2.2.2
theorem core:P sz ps S U n i p s:=λ R hp hs hq=>by
 refine nC Hg rfl (Wp.asg (v:=.d (.int (S.b p))) (au rfl (bG (aG rfl rfl rfl (R.at' .me trivial)) (R.at' .me trivial) rfl (R.at' .b trivial) rfl) rfl (gH (R.at' .b trivial) (EW hp))) (Wp.asg (v:=.d (.int (S.c p:Nat))) (au rfl (bG (aG rfl rfl rfl (R.at' .me trivial)) (R.at' .me trivial) rfl (R.at' .c trivial) rfl) rfl (gH (R.at' .c trivial) (EW hp))) ?_));refine Wp.sE rfl (au rfl (bD rfl rfl rfl (R.nS hs)) rfl (cu (j:=1) (R.nS hs) rfl (R.nA hs))) rfl (de (R.nA hs) (rY hp)) (Wp.pS (R.PA i p (some (S.b p)) hs) λ σ1 R1=>?_);have HV:(dD i (fA p (some (S.b p))) S).s[i]?=some (fA p (some (S.b p)) s):=mod_self hs;refine Wp.sE rfl (au rfl (bD rfl rfl rfl (R1.nS HV)) rfl (cu (j:=2) (R1.nS HV) rfl (R1.nD HV))) rfl (de (R1.nD HV) (rY hp)) (Wp.pS (R1.PB i p (some (S.c p)) HV) λ σ2 R2=>?_);have tD:(dD i (fD p (some (S.c p))) (dD i (fA p (some (S.b p))) S)).s[i]?=some (fD p (some (S.c p)) (fA p (some (S.b p)) s)):=mod_self HV;have OI:(dD i (fD p (some (S.c p))) (dD i (fA p (some (S.b p))) S)).q=S.q:=rfl;have OC:(fD p (some (S.c p)) (fA p (some (S.b p)) s)).name=s.name:=rfl;unfold jT;generalize dD i (fD p (some (S.c p))) (dD i (fA p (some (S.b p))) S)=S2 at R2 tD OI ⊢;generalize fD p (some (S.c p)) (fA p (some (S.b p)) s)=s2 at tD OC;clear HV R1 R;refine Wp.for (gV aD (ys:=ps) (au rfl (cX (aG rfl rfl rfl (R2.at' .me trivial)) (R2.at' .me trivial) rfl rfl) rfl rfl)) (Wp.forL (fun(x:Ch×Nat)=>V.d (.tuple [.int x.2,aD x.1])) (λ pre O U=>Ov ["k","i","j"] _ O/\Rep sz ps (jU ps p i s.name pre.length S2) U) ⟨Ov.refl,(v3 ps p i s.name S2).symm▸R2⟩ ?_ ?_)
 ·rintro pre ⟨c,m⟩ post O U hy ⟨⟨f,rfl⟩,R3⟩;obtain⟨hm,hc⟩:=wu hy;cases(show m=pre.length from hm);have cz:=aJ hc;rw[show(pre++[(c,pre.length)]).length=pre.length+1 from List.length_append,vZ ps p i s.name pre.length S2 hc tD,OI];have sM:(jU ps p i s.name pre.length S2).s[i]?=some (gT ps p pre.length s2):=mod_self (f:=gT ps p pre.length) tD;have M9:(jU ps p i s.name pre.length S2).q pre.length=S.q pre.length:=(if_neg Mf).trans (congrFun OI _);have T8:(gT ps p pre.length s2).t pre.length=s2.t pre.length:=if_neg Mf;generalize jU ps p i s.name pre.length S2=S3 at R3 sM M9 ⊢;refine Wp.bind rfl (Wp.AZ (Rep sz ps (if c.2=p then dD i (fT pre.length (1,(s2.t pre.length).2)) S3 else S3)) (Wp.PS (P:=c.2=p) (aV rfl rfl (d5 dk)) (λ h2=>?_) λ h2=>?_) λ τ R4=>?_)
  ·rw[if_pos h2];exact Wp.sE rfl (au rfl (au rfl (bD rfl rfl rfl (R3.nS sM)) rfl (cu (j:=3) (R3.nS sM) rfl (R3.at' (.T i) (aJ sM)))) rfl (cu (R3.at' (.T i) (aJ sM)) (rg cz) (R3.nM sM cz))) rfl (de (k:=0) (R3.nM sM cz) (Nat.le_of_ble_eq_true rfl)) (Wp.nil ⟨rfl,rfl,T8▸R3.setM i pre.length 1 cz sM⟩)
  ·rw[if_neg h2];exact Wp.nil ⟨rfl,rfl,R3⟩
  ·obtain⟨s4,vy,QY,Na⟩:=H2 (f:=fT pre.length (1,(s2.t pre.length).2)) (c.2=p) sM rfl;show Wp _ λ o O U=>_;generalize (if c.2=p then dD i (fT pre.length (1,(s2.t pre.length).2)) S3 else S3)=S4 at R4 vy Na ⊢;have jk:=R4.at' (.q pre.length) cz;refine Wp.CH (P:=c.1=p) (aV rfl rfl (d5 dk)) (λ h1=>?_) λ h1=>?_
   ·rw[if_pos h1];refine Wp.expr (dP (l:=2+pre.length) (au rfl (bG (aG rfl rfl rfl (R4.at' .me trivial)) (R4.at' .me trivial) rfl (R4.at' .Q trivial) rfl) rfl (cu (R4.at' .Q trivial) (rg cz) jk)) jk (bQ (ah rfl (ah (au rfl (bD rfl rfl rfl (R4.nS vy)) rfl (gH (j:=0) (R4.nS vy) rfl)) rfl)) rfl) jk ?_) (Wp.fin (Wp.nil ⟨by repeat first | exact⟨f,rfl⟩ | refine Ov.upd ?_ rfl,?_⟩))
    ·rw[List.length_map,List.length_map,congrFun Na,M9];exact hq pre.length cz
    ·have:=R4.eS pre.length cz (S.q pre.length++[.mark s.name]);rw[lO,List.map_append,List.map_append,<-M9,<-congrFun Na,<-OC,<-show s4.name=s2.name from QY] at this;rw[<-M9,<-congrFun Na,<-OC,<-show s4.name=s2.name from QY];exact this
   ·rw[if_neg h1];exact Wp.fin (Wp.nil ⟨by repeat first | exact⟨f,rfl⟩ | refine Ov.upd ?_ rfl,R4⟩)
 ·rintro O U ⟨⟨f,rfl⟩,R3⟩;rw[List.length_zipIdx] at R3;exact Wp.nil ⟨_,.inr ⟨rfl,rfl⟩,rfl,R3⟩
end
end iu
variable{sz:Nat}{ps:List Ch}{S:A}{U:ae}
theorem ue{sz:Nat}{ps:List Ch}{S:A}{U:ae}(n:Nat)(i:Nat)(p:Nat){s:cf}:iu.P sz ps S U n i p s:=aU (Q:=λ x:(Nat)×(List Ch)×(A)×(ae)×(Nat)×(Nat)×(Nat)×(cf)=>iu.P x.1 x.2.1 x.2.2.1 x.2.2.2.1 x.2.2.2.2.1 x.2.2.2.2.2.1 x.2.2.2.2.2.2.1 x.2.2.2.2.2.2.2) iu.core (sz,ps,S,U,n,i,p,s)
end L1
end Q
end
section
namespace Q
open PySem Classical Mine.Internal.L1
namespace L1
variable{sz:Nat}{ps:List Ch}{S:A}{U:ae}
theorem aJ{G:Type}{l:List G}{i:Nat}{x:G}(h:l[i]?=some x):i<l.length:=by
 exact(List.getElem?_eq_some_iff.mp h).1
theorem Rep.lt(R:Rep sz ps S U){x:Key}(hx:y0 ps.length S.s.length x):ad ps.length x<U.length:=by
 have h:=R.at' x hx;have z:∀{i:Nat} {f:cf->Nd},i<S.s.length->∃y,(S.s[i]?).map f=some y:=λ {i f} hi=>⟨_,congrArg (Option.map f) (List.getElem?_eq_getElem hi)⟩;have:∃y,nd sz ps S x=some y:=by
  cases x with
  |t i j=>exact z hx.1
  |m i j=>exact z hx.1
  |a i=>exact z hx
  |d i=>exact z hx
  |s i=>exact z hx
  |_=>exact⟨_,rfl⟩
 obtain⟨y,hy⟩:=this;exact aJ (h.trans hy)
end L1
namespace L1
namespace jY
noncomputable section
def P(sz:Nat)(ps:List Ch)(S:A)(U:ae)(s0:cf):Prop:=∀(R:Rep sz ps S U),Rep sz ps { S with s:=S.s++[s0] } ((U++j6 sz ps.length U.length s0).set (4+ps.length) (.aI (((List.range S.s.length).map λ i=>.o (ad ps.length (.s i)))++[.o (ad ps.length (.s S.s.length))])))
def xe:(Nat)×(List Ch)×(A)×(ae)×(cf):=@Classical.epsilon _ ⟨(default,default,⟨λ _=>0,λ _=>[],λ _=>0,[]⟩,default,⟨default,λ _=>none,λ _=>none,λ _=>(0,[])⟩)⟩ λ x=>¬P x.1 x.2.1 x.2.2.1 x.2.2.2.1 x.2.2.2.2
def sz:Nat:=xe.1
def ps:List Ch:=xe.2.1
def S:A:=xe.2.2.1
def U:ae:=xe.2.2.2.1
def s0:cf:=xe.2.2.2.2
theorem core:P sz ps S U s0:=λ R=>by
 have aZ:(S.s++[s0]).length=S.s.length+1:=List.length_append;refine⟨?_,λ x hx=>?_⟩
 ·rw[List.length_set,List.length_append,mU,R.len];show _=5+ps.length+(S.s++[s0]).length*(2*ps.length+4);rw[aZ,show(S.s.length+1)*(2*ps.length+4)=S.s.length*(2*ps.length+4)+(2*ps.length+4) from Nat.succ_mul _ _];exact Nat.add_assoc _ _ _
 ·replace hx:y0 ps.length (S.s.length+1) x:=by rw[<-aZ];exact hx
  by_cases hS:x=.S
  ·subst hS;have:=R.lt (x:=.S) trivial;rw[ad,List.getElem?_set_self (by rw[List.length_append];exact Nat.lt_of_lt_of_le this (Nat.le_add_right _ _))];simp only[nd,aZ,List.range_succ,List.map_append];rfl
  have jj:ad ps.length .S≠ad ps.length x:=λ q=>hS (zb (ns:=S.s.length+1) (x:=.S) trivial hx q).symm;rw[show 4+ps.length=ad ps.length .S from rfl,List.getElem?_set_ne jj];by_cases hold:y0 ps.length S.s.length x
  ·rw[List.getElem?_append_left (R.lt hold),R.at' x hold];have old:∀i,i<S.s.length->(S.s++[s0])[i]?=S.s[i]?:=λ i hi=>List.getElem?_append_left hi;cases x with
   |t i j=>simp only[nd,old i hold.1]
   |m i j=>simp only[nd,old i hold.1]
   |a i=>simp only[nd,old i hold]
   |d i=>simp only[nd,old i hold]
   |s i=>simp only[nd,old i hold]
   |S=>exact absurd rfl hS
   |_=>rfl
  ·have hi:∀i,i<S.s.length+1->¬i<S.s.length->i=S.s.length:=λ i h1 h2=>Nat.le_antisymm (Nat.le_of_lt_succ h1) (Nat.not_lt.mp h2);have new:(S.s++[s0])[S.s.length]?=some s0:=List.getElem?_concat_length;have hL:=R.len;have pos:∀r,(U++j6 sz ps.length U.length s0)[5+ps.length+S.s.length*(2*ps.length+4)+r]?=(j6 sz ps.length U.length s0)[r]?:=λ r=>by
    rw[<-hL,List.getElem?_append_right (Nat.le_add_right _ _),Nat.add_sub_cancel_left]
   cases x with
   |t i j=>
    obtain rfl:=hi i hx.1 (λ h=>hold ⟨h,hx.2⟩);rw[ad,pos];have:=mV sz ps.length U.length s0 j 0 hx.2 (by exact Nat.le_add_left _ _);refine Eq.trans this ?_;simp only[nd,new];rfl
   |m i j=>
    obtain rfl:=hi i hx.1 (λ h=>hold ⟨h,hx.2⟩);rw[ad,pos,mV _ _ _ _ _ _ hx.2 (by exact Nat.le_refl _)];simp only[nd,new,Option.map_some,ad,<-hL];rfl
   |T i=>
    obtain rfl:=hi i hx hold;rw[ad,pos];have:=f6 sz ps.length U.length s0 0;refine Eq.trans this ?_;simp only[nd,ad,<-hL];rfl
   |a i=>
    obtain rfl:=hi i hx hold;rw[ad,pos,f6];simp only[nd,new];rfl
   |d i=>
    obtain rfl:=hi i hx hold;rw[ad,pos,f6];simp only[nd,new];rfl
   |s i=>
    obtain rfl:=hi i hx hold;rw[ad,pos,f6];simp only[nd,new,Option.map_some,ad,<-hL];rfl
   |q j=>exact absurd hx hold
   |_=>exact absurd trivial hold
end
end jY
variable{sz:Nat}{ps:List Ch}{S:A}{U:ae}
theorem Rep.grow(R:Rep sz ps S U)(s0:cf):Rep sz ps { S with s:=S.s++[s0] } ((U++j6 sz ps.length U.length s0).set (4+ps.length) (.aI (((List.range S.s.length).map λ i=>.o (ad ps.length (.s i)))++[.o (ad ps.length (.s S.s.length))]))):=aU (Q:=λ x:(Nat)×(List Ch)×(A)×(ae)×(cf)=>jY.P x.1 x.2.1 x.2.2.1 x.2.2.2.1 x.2.2.2.2) jY.core (sz,ps,S,U,s0) R
noncomputable def m_find:Fn:=(bM.mt "_find").getD ⟨[],[]⟩
theorem Hd:bM.mt "_find"=some m_find:=rfl
noncomputable def y8(l:List cf)(nm:Str)(i:Nat):Prop:=∀i' s,i'<i->l[i']?=some s->s.name≠nm
theorem y8.zero{l:List cf}{nm:Str}:y8 l nm 0:=λ _ _ h=>absurd h (Nat.not_lt_zero _)
theorem y8.succ{l:List cf}{nm:Str}{i:Nat}{s:cf}(h:y8 l nm i)(hs:l[i]?=some s)(hn:s.name≠nm):y8 l nm (i+1):=λ i' s' h1 h2=>by
 by_cases e:i'=i
 ·rw[e,hs] at h2;exact Option.some.inj h2▸hn
 ·exact h i' s' (Nat.lt_of_le_of_ne (Nat.le_of_lt_succ h1) e) h2
theorem y8.all{β:Type}{f:Nat->β}{l:List cf}{nm:Str}(h:y8 l nm ((List.range l.length).map f).length):¬∃s∈l,s.name=nm:=fun⟨s,h1,h2⟩=>by
 rw[List.length_map,List.length_range] at h;exact(List.mem_iff_getElem?.1 h1).elim λ i h3=>h i s (aJ h3) h3 h2
theorem vX{β:Type}{n i:Nat}{f:Nat->β}{v:β}(h:((List.range n).map f)[i]?=some v):i<n/\v=f i:=by
 have hi:i<n:=Nat.lt_of_lt_of_eq (aJ h) ((List.length_map _).trans List.length_range);exact⟨hi,Option.some.inj (h.symm.trans (rg hi))⟩
theorem Ae(n:Nat)(nm:Str)(R:Rep sz ps S U)(aZ:S.s.length<300)(hm:∃s∈S.s,s.name=nm) :
  ∃v aj,(bM.run (n+2)).M "_find" [.o 0,.d (.str nm)] U=some (v,aj)/\(aj=U/\∃i s,S.s[i]?=some s/\s.name=nm/\v=.o (ad ps.length (.s i))):=by
 refine nC Hd rfl (Wp.gA (l:=4+ps.length) (σ1:=U) ?_ ?_)
 ·show srcOf (ev _ _ _ _)=_;rw[bG (aG rfl rfl rfl (R.at' .me trivial)) (R.at' .me trivial) rfl (R.at' .S trivial) rfl];rfl
 refine Wp.Ak ((List.range S.s.length).map λ i=>.o (ad ps.length (.s i))) (λ i O τ=>Ov ["s"] _ O/\τ=U/\y8 S.s nm i) (by rw[List.length_map,List.length_range];exact aZ) ⟨Ov.refl,rfl,y8.zero⟩ (λ i O τ h=>h.2.1▸R.at' .S trivial) ?_ ?_
 ·rintro i v O τ hv ⟨⟨f,rfl⟩,rfl,hp⟩;obtain⟨hi,rfl⟩:=vX hv;have hs:=List.getElem?_eq_getElem hi;rw[show dr τ (V.o (ad ps.length (.s i)))=V.o (ad ps.length (.s i)) from congrArg (Cz _) (R.nS hs)];exact Wp.bind rfl (Wp.CH (P:=S.s[i].name=nm) (aV (au rfl (bD rfl rfl rfl (R.nS hs)) rfl (gH (j:=0) (R.nS hs) rfl)) rfl (f9 rfl)) (λ q=>Wp.ret (bD rfl rfl rfl (R.nS hs)) ⟨_,.inl rfl,rfl,i,_,hs,q,rfl⟩) λ q=>Wp.fin (Wp.nil ⟨Ov.upd ⟨f,rfl⟩ rfl,rfl,hp.succ hs q⟩))
 ·exact λ O τ h=>absurd hm h.2.2.all
end L1
end Q
end
section
namespace Q
open PySem Classical Mine.Internal.L1
namespace L1
theorem nb{G:Type}{x y:G}{l:List G}(h:x∉l)(hy:y∈l):(!decide (y=x))=true:=congrArg not (decide_eq_false fun(e:y=x)=>h (e▸hy))
theorem ns{G:Type}{x:G}:¬(!decide (x=x))=true:=λ h=>by cases(congrArg not (decide_eq_true (rfl:x=x))).symm.trans h
theorem b6{G:Type}{x:G}{l r:List G}(h:x∉l):before x (l++x::r)=l:=
 (List.takeWhile_append_of_pos λ y hy=>nb h hy).trans ((congrArg (l++·) (List.takeWhile_cons_of_neg ns)).trans (List.append_nil l))
theorem jB{G:Type}{x:G}{l r:List G}(h:x∉l):since x (l++x::r)=x::r:=
 (List.dropWhile_append_of_pos λ y hy=>nb h hy).trans (List.dropWhile_cons_of_neg ns)
end L1
theorem cS{G:Type}{ps:List G}{c:G}(h:c∈ps):ps[(L1.before c ps).length]?=some c:=by
 obtain⟨a,b,rfl,qq⟩:=List.eq_append_cons_of_mem h;rw[L1.b6 qq,List.getElem?_append_right (Nat.le_refl _),Nat.sub_self];rfl
theorem zr{Y:Or}{own:Bool}{U:ae}{l:Nat}{xs:List V}(h:U[l]?=some (.aI xs)):f7 Y own "len" [.o l] U=some (.d (.int xs.length),U):=by
 show(match U[l]? with | some (.aI xs)=>some (V.d (.int xs.length),U) | _=>none)=_;rw[h]
theorem qU{G:Type}(x:G)(n:Nat):times [x] n=List.replicate n x:=by
 induction n with
 |zero=>rfl
 |succ n ih=>exact congrArg (x::·) ih
theorem nf{U:ae}{n:Nat}{x:PyData}(h:n<=50000):mS true .Mult (.d (.list [x])) (.d (.int n)) U=some (.o U.length,U++[.aI ((List.replicate n x).map .d)]):=by
 show((if [x].length*(n:Int).toNat<=cW/\0<=(n:Int)/\(n:Int)<=(cW:Int) then some (PyData.list (times [x] (n:Int).toNat)) else none).bind λ r=>match true,r with
  |true,.list xs=>some (fresh (.aI (xs.map .d)) U)
  |true,_=>none
  |false,r=>some (.d r,U))=_
 rw[if_pos ⟨by simp[cW];exact Nat.le_trans ‹_› (by decide),by exact Int.natCast_nonneg _,by simp[cW];exact Int.ofNat_le.2 (Nat.le_trans ‹_› (by decide))⟩,Int.toNat_natCast,qU];rfl
theorem BS{U:ae}{l l':Nat}{xs ys:List V}(h:U[l]?=some (.aI (xs++[.o l'])))(h':U[l']?=some (.aI ys)):dX U (.o l) (.d (.int (-1)))=some (.o l'):=by
 refine(congrArg (um U (.d (.int (-1)))) h).trans (bi BD ?_);rw[List.getElem?_concat_length];exact congrArg (λ q=>some (Cz l' q)) h'
namespace L1
theorem Fe(ps:List Ch)(L:Nat):(ps.zipIdx.flatMap λ x=>[lO [],Nd.aI [.d (.str "idle"),.o (L+x.2*2)]])=((List.range ps.length).map λ _=>((0:Nat),([]:List Int))).zipIdx.flatMap (BY L):=by
 have:((List.range ps.length).map λ _=>((0:Nat),([]:List Int)))=List.replicate ps.length (0,[]):=by simp[List.map_const']
 rw[this];have gen:∀(ps:List Ch) (m:Nat),((ps.zipIdx m).flatMap λ x=>[lO [],Nd.aI [.d (.str "idle"),.o (L+x.2*2)]])=((List.replicate ps.length ((0:Nat),([]:List Int))).zipIdx m).flatMap (BY L):=by
  intro ps
  induction ps with
  |nil=>intro m;rfl
  |cons c r ih=>
   intro m;rw[List.zipIdx_cons,List.flatMap_cons,ih,List.length_cons,List.replicate_succ,List.zipIdx_cons,List.flatMap_cons];rfl
 exact gen ps 0
variable{sz:Nat}{ps:List Ch}{S:A}{U:ae}
noncomputable def iF(nm:Str):cf:=⟨nm,λ _=>none,λ _=>none,λ _=>(0,[])⟩
noncomputable def El:Fn:=(bM.mt "_apply").getD ⟨[],[]⟩
theorem g7:bM.mt "_apply"=some El:=rfl
noncomputable def Told(sz:Nat)(ps:List Ch)(t:Str)(S':A)(v:V)(aj:ae):Prop:=v=.d (.str t)/\Rep sz ps S' aj
end L1
namespace L1
namespace gY
noncomputable section
def P(sz:Nat)(ps:List Ch)(S:A)(n:Nat)(p:Nat)(nm:Str):Prop:=∀(U:ae) (R:Rep sz ps S U) (aZ:S.s.length<299) (hsz:sz<=50000) (M8:p<sz) (hq:∀j,j<ps.length->(S.q j).length<cW),∃v aj,(bM.run (n+3)).M "_apply" [.o 0,.d (d7 (.aL p nm))] U=some (v,aj)/\
   (if ∃s∈S.s,s.name=nm then Told sz ps "known" S v aj else Told sz ps "done" (jT ps p S.s.length nm { S with s:=S.s++[iF nm] }) v aj)
def xe:(Nat)×(List Ch)×(A)×(Nat)×(Nat)×(Str):=@Classical.epsilon _ ⟨(default,default,⟨λ _=>0,λ _=>[],λ _=>0,[]⟩,default,default,default)⟩ λ x=>¬P x.1 x.2.1 x.2.2.1 x.2.2.2.1 x.2.2.2.2.1 x.2.2.2.2.2
def sz:Nat:=xe.1
def ps:List Ch:=xe.2.1
def S:A:=xe.2.2.1
def n:Nat:=xe.2.2.2.1
def p:Nat:=xe.2.2.2.2.1
def nm:Str:=xe.2.2.2.2.2
theorem core:P sz ps S n p nm:=λ U R aZ hsz M8 hq=>by
 refine nC g7 rfl ?_;refine Wp.sN rfl ?_;refine Wp.gA (l:=4+ps.length) (σ1:=U) ?_ ?_
 ·show srcOf (ev _ _ _ _)=_;rw[bG (aG rfl rfl rfl (R.at' .me trivial)) (R.at' .me trivial) rfl (R.at' .S trivial) rfl];rfl
 refine Wp.Ak ((List.range S.s.length).map λ i=>.o (ad ps.length (.s i))) (λ i O τ=>Ov ["s"] _ O/\τ=U/\y8 S.s nm i) (by rw[List.length_map,List.length_range];exact Nat.lt_trans aZ (by decide:299<300)) ⟨Ov.refl,rfl,y8.zero⟩ (λ i O τ h=>h.2.1▸R.at' .S trivial) ?_ ?_
 ·rintro i v O τ hv ⟨⟨f,rfl⟩,rfl,hp⟩;obtain⟨hi,rfl⟩:=vX hv;have hs:=List.getElem?_eq_getElem hi;rw[show dr τ (V.o (ad ps.length (.s i)))=V.o (ad ps.length (.s i)) from congrArg (Cz _) (R.nS hs)];refine Wp.bind rfl (Wp.CH (P:=S.s[i].name=nm) (aV (au rfl (bD rfl rfl rfl (R.nS hs)) rfl (gH (j:=0) (R.nS hs) rfl)) rfl (f9 rfl)) (λ q=>Wp.ret rfl ⟨_,.inl rfl,?_⟩) λ q=>Wp.fin (Wp.nil ⟨Ov.upd ⟨f,rfl⟩ rfl,rfl,hp.succ hs q⟩));show if _ then _ else _
  rw[if_pos ⟨S.s[i],List.getElem_mem _,q⟩];exact⟨rfl,R⟩
 ·rintro O τ ⟨⟨f,rfl⟩,rfl,hp⟩;have fk:=hp.all;refine Wp.asg (bA (ah (bG (aG rfl rfl rfl (R.at' .me trivial)) (R.at' .me trivial) rfl (R.at' .b trivial) rfl) rfl) (zr (R.at' .b trivial))) ?_;rw[show((((List.range sz).map S.b).map PyData.int).map V.d).length=sz by rw[List.length_map,List.length_map,List.length_map,List.length_range]];refine Wp.asg (v:=.o (τ.length+ps.length*2)) (σ1:=τ++((List.range ps.length).map (iF nm).t).zipIdx.flatMap (BY τ.length)++[.aI ((List.range ps.length).map λ j=>.o (τ.length+(j*2+1)))]) (fh (xs:=ps.map λ c=>V.d (aD c)) (σ1:=τ) ?_ (lH (λ c=>V.d (aD c)) (λ L (c:Ch)=>[lO [],.aI [.d (.str "idle"),.o L]]) 2 1 (λ _ _ _=>rfl) ?_) ?_) ?_
  ·show lJ (ev _ _ _ _)=_;rw[au rfl (cX (aG rfl rfl rfl (R.at' .me trivial)) (R.at' .me trivial) rfl rfl) rfl (r:=.d (.list (ps.map aD))) rfl];show some (List.map V.d (List.map aD _),_)=_;rw[List.map_map];rfl
  ·intro t ht U;refine⟨_,rfl,rfl,?_⟩;show some (V.o (U++[lO []]).length,(U++[lO []])++[.aI [.d (.str "idle"),.o U.length]])=_;simp
  ·show some (V.o (_++_:List Nd).length,(_++_:List Nd)++[Nd.aI _])=_;rw[List.length_append,d8 (B:=2) _ (λ x _=>rfl),Fe];simp;rfl
  have hk:(τ++((List.range ps.length).map (iF nm).t).zipIdx.flatMap (BY τ.length)).length=τ.length+ps.length*2:=by
   rw[List.length_append,d8 (B:=2) _ (λ x _=>rfl)];simp
  have Vq:4+ps.length<τ.length:=R.lt (x:=.S) trivial;have get:∀(x:Key),y0 ps.length S.s.length x->∀r:List Nd,(τ++r)[ad ps.length x]?=nd sz ps S x:=λ x hx r=>by
   rw[List.getElem?_append_left (R.lt hx)];exact R.at' x hx
  generalize Un:((List.range ps.length).map (iF nm).t).zipIdx.flatMap (BY τ.length)=θ at hk ⊢;generalize hT:Nd.aI ((List.range ps.length).map λ j=>V.o (τ.length+(j*2+1)))=T at hk ⊢;have l1:(τ++θ++[T]).length=τ.length+(2*ps.length+1):=by rw[List.length_append,hk];simp;lia
  have l2:∀a,((τ++θ++[T])++[a]).length=τ.length+(2*ps.length+2):=λ a=>by rw[List.length_append,l1];simp;rfl
  have l3:∀a b,(((τ++θ++[T])++[a])++[b]).length=ad ps.length (.s S.s.length):=λ a b=>by rw[List.length_append,l2,R.len,ad];simp;rfl
  refine Wp.expr (dP (l:=4+ps.length) (xs':=(List.range S.s.length).map λ i=>.o (ad ps.length (.s i))) (xs:=(List.range S.s.length).map λ i=>.o (ad ps.length (.s i))) (σ1:=τ++θ++[T]) (σ2:=τ++j6 sz ps.length τ.length (iF nm)) (v:=.o (ad ps.length (.s S.s.length))) (bG (aG rfl rfl rfl (by rw[List.append_assoc];exact get .me trivial _)) (by rw[List.append_assoc];exact get .me trivial _) rfl (by rw[List.append_assoc];exact get .S trivial _) rfl) (by rw[List.append_assoc];exact get .S trivial _) (j9 (ah rfl (ah (bf rfl rfl (nf hsz)) (ah (bf rfl rfl (nf hsz)) (ah (bD (xs:=(List.range ps.length).map λ j=>V.o (τ.length+(j*2+1))) rfl rfl rfl ?_) rfl)))) ?_) (get .S trivial _) (by simp[cW];exact Nat.le_trans ‹_› (by decide))) (Wp.pS (R.grow (iF nm)) λ σ2 R2=>?_)
  ·rw[List.append_assoc,List.append_assoc,List.getElem?_append_right (by exact Nat.le_of_eq ‹_›),hk,Nat.sub_self,hT];rfl
  ·show some (V.o ((((τ++θ++[T])++[_])++[_]):List Nd).length,(((τ++θ++[T])++[_])++[_])++[Nd.aI [V.d (.str nm),V.o (τ++θ++[T]).length,V.o ((τ++θ++[T])++[_]).length,V.o (τ.length+ps.length*2)]])=_;rw[l3,l2,l1,j6,<-Un,<-hT,Nat.mul_comm ps.length 2];simp only[List.append_assoc];have e1:Nd.aI (List.map V.d (List.replicate sz PyData.none))=lO (((List.range sz).map (iF nm).a).map pA):=by
    simp[lO,iF,List.map_const',pA,Function.comp_def]
   have e2:Nd.aI (List.map V.d (List.replicate sz PyData.none))=lO (((List.range sz).map (iF nm).c).map rD):=by
    simp[lO,iF,List.map_const',rD,Function.comp_def]
   rw[<-e1,<-e2];rfl
  have tD:(S.s++[iF nm])[S.s.length]?=some (iF nm):=List.getElem?_concat_length;have Qv:σ2[4+ps.length]?=some (.aI (((List.range S.s.length).map λ i=>.o (ad ps.length (.s i)))++[.o (ad ps.length (.s S.s.length))])):=(R2.at' .S trivial).trans (by
   show some (Nd.aI ((List.range (S.s++[iF nm]).length).map _))=_;rw[List.length_append,show [iF nm].length=1 from rfl,List.range_succ,List.map_append];rfl)
  refine bC λ k9=>?_;obtain⟨v,y2,h3,rfl,R3⟩:=ue n S.s.length p R2 M8 tD hq;refine k9 ?_;refine Wp.expr (kP (aG rfl rfl rfl (R2.at' .me trivial)) (R2.at' .me trivial) rfl (ah rfl (ah (au rfl (bG (aG rfl rfl rfl (R2.at' .me trivial)) (R2.at' .me trivial) rfl Qv rfl) rfl (BS Qv (R2.nS tD))) rfl)) (R2.at' .me trivial) rfl h3) ?_;refine Wp.ret rfl ⟨_,.inl rfl,?_⟩;show if _ then _ else _
  rw[if_neg fk];exact⟨rfl,R3⟩
end
end gY
variable{sz:Nat}{ps:List Ch}{S:A}{U:ae}
theorem uQ(n p:Nat)(nm:Str)(R:Rep sz ps S U)(aZ:S.s.length<299)(hsz:sz<=50000)(M8:p<sz)(hq:∀j,j<ps.length->(S.q j).length<cW):∃v aj,(bM.run (n+3)).M "_apply" [.o 0,.d (d7 (.aL p nm))] U=some (v,aj)/\
   (if ∃s∈S.s,s.name=nm then Told sz ps "known" S v aj else Told sz ps "done" (jT ps p S.s.length nm { S with s:=S.s++[iF nm] }) v aj):=aU (Q:=λ x:(Nat)×(List Ch)×(A)×(Nat)×(Nat)×(Str)=>gY.P x.1 x.2.1 x.2.2.1 x.2.2.2.1 x.2.2.2.2.1 x.2.2.2.2.2) gY.core (sz,ps,S,n,p,nm) U R aZ hsz M8 hq
end L1
end Q
end
section
namespace Q
open PySem Classical Mine.Internal.L1
theorem oW{U:ae}{l:Nat}{xs:List V}(h:U[l]?=some (.aI xs)):iD U (.o l)=some (!xs.isEmpty):=by
 exact congrArg MG h
theorem vh{Y:Or}{o e:Expr}{p q:Pos}{O:ak}{U σ1:ae}{l:Nat}{x:PyData}{xs:List V}(h1:ev Y o O U=some (.o l,σ1))(h2:σ1[l]?=some (.aI (.d x::xs)))(h3:ev Y e O σ1=some (.d (.int 0),σ1)):ev Y (.Call (.Attribute o "pop" p) [e] [] q) O U=some (.d x,σ1.set l (.aI xs)):=by
 exact fi h1 (k:=1) (pW h2 rfl) (ah h3 rfl) (pW h2 rfl) (kI h2 rfl)
namespace L1
variable{sz:Nat}{ps:List Ch}{S:A}{U:ae}
theorem Gu{c:Ch}(hc:c∉ps):dB U .NotIn (.d (aD c)) (.d (.list (ps.map aD)))=some true:=by
 rw[rr (b:=decide (c∈ps)) rfl (mem_map ff c ps)];simp[hc]
theorem xi{c:Ch}(hc:c∈ps):dB U .NotIn (.d (aD c)) (.d (.list (ps.map aD)))=some false:=by
 rw[rr (b:=decide (c∈ps)) rfl (mem_map ff c ps)];simp[hc]
theorem kD(n:Nat)(c:Ch)(v:Int)(R:Rep sz ps S U)(hc:c∉ps) :
  ∃w aj,(bM.run (n+3)).M "_apply" [.o 0,.d (d7 (.send c v))] U=some (w,aj)/\Told sz ps "no channel" S w aj:=by
 refine nC g7 rfl ?_;refine Wp.fX rfl ?_;refine Wp.sN (aV (a:=.d (aD c)) rfl (au rfl (cX (aG rfl rfl rfl (R.at' .me trivial)) (R.at' .me trivial) rfl rfl) rfl (r:=.d (.list (ps.map aD))) rfl) (Gu hc)) ?_;exact Wp.ret rfl ⟨_,.inl rfl,rfl,R⟩
theorem kC(n:Nat)(c:Ch)(R:Rep sz ps S U)(hc:c∉ps) :
  ∃w aj,(bM.run (n+3)).M "_apply" [.o 0,.d (d7 (.recv c))] U=some (w,aj)/\Told sz ps "no channel" S w aj:=by
 refine nC g7 rfl ?_;refine Wp.fX rfl ?_;refine Wp.sN (aV (a:=.d (aD c)) rfl (au rfl (cX (aG rfl rfl rfl (R.at' .me trivial)) (R.at' .me trivial) rfl rfl) rfl (r:=.d (.list (ps.map aD))) rfl) (Gu hc)) ?_;exact Wp.ret rfl ⟨_,.inl rfl,rfl,R⟩
noncomputable def BC(c:Ch)(j:Nat)(v:Int)(S:A):A:=eS j (S.q j++[.cO v]) (setC c.1 (S.c c.1+1) (setB c.1 (S.b c.1-v) S))
theorem uP(n:Nat)(c:Ch)(v:Int)(R:Rep sz ps S U)(hc:c∈ps)(hz:c.1<sz)(hq:∀j,j<ps.length->(S.q j).length<cW) :
  ∃w aj,(bM.run (n+3)).M "_apply" [.o 0,.d (d7 (.send c v))] U=some (w,aj)/\
   (if S.b c.1<v then Told sz ps "too much" S w aj else Told sz ps "done" (BC c (before c ps).length v S) w aj):=by
 refine nC g7 rfl ?_;refine Wp.fX rfl ?_;refine Wp.fX (aV (a:=.d (aD c)) rfl (au rfl (cX (aG rfl rfl rfl (R.at' .me trivial)) (R.at' .me trivial) rfl rfl) rfl (r:=.d (.list (ps.map aD))) rfl) (xi hc)) ?_;refine Wp.asg (lN (au rfl (cX (aG rfl rfl rfl (R.at' .me trivial)) (R.at' .me trivial) rfl rfl) rfl (r:=.d (.list (ps.map aD))) rfl) (x:=aD c) rfl (idx_map ff c ps hc 0)) ?_;rw[Nat.zero_add];have hj:(before c ps).length<ps.length:=aJ (cS hc);generalize (before c ps).length=j at hj ⊢;refine Wp.sN rfl ?_;refine Wp.CH (P:=S.b c.1<v) (aV (a:=.d (.int v)) rfl (au rfl (bG (aG rfl rfl rfl (R.at' .me trivial)) (R.at' .me trivial) rfl (R.at' .b trivial) rfl) rfl (gH (x:=.int (S.b c.1)) (R.at' .b trivial) (EW hz))) rfl) ?_ ?_
 ·intro q;exact Wp.ret rfl ⟨_,.inl rfl,(if_pos q).mpr ⟨rfl,R⟩⟩
 ·intro q;refine Wp.fin ?_;refine Wp.aug (bG (aG rfl rfl rfl (R.at' .me trivial)) (R.at' .me trivial) rfl (R.at' .b trivial) rfl) rfl (gK (k:=c.1) (i:=S.b c.1) (R.at' .b trivial) (EW hz)) (m:=v) rfl rfl (de (R.at' .b trivial) (rY hz)) (Wp.pS (R.setB c.1 (S.b c.1-v)) λ σ1 R1=>?_);refine Wp.aug (bG (aG rfl rfl rfl (R1.at' .me trivial)) (R1.at' .me trivial) rfl (R1.at' .c trivial) rfl) rfl (gK (k:=c.1) (i:=(S.c c.1:Nat)) (R1.at' .c trivial) (EW hz)) (m:=1) rfl rfl (de (R1.at' .c trivial) (rY hz)) (Wp.pS (R1.setC c.1 (S.c c.1+1)) λ σ2 R2=>?_);have jk:=R2.at' (.q j) hj;refine Wp.expr (dP (l:=2+j) (au rfl (bG (aG rfl rfl rfl (R2.at' .me trivial)) (R2.at' .me trivial) rfl (R2.at' .Q trivial) rfl) rfl (cu (R2.at' .Q trivial) (rg hj) jk)) jk rfl jk (by rw[List.length_map,List.length_map];exact hq j hj)) (Wp.pS (S':=BC c j v S) ?_ λ VA R5=>Wp.ret rfl ⟨_,.inl rfl,(if_neg q).mpr ⟨rfl,R5⟩⟩);have:=R2.eS j hj (S.q j++[.cO v]);rw[lO,List.map_append,List.map_append] at this;exact this
theorem pF(n:Nat)(c:Ch)(R:Rep sz ps S U)(hc:c∈ps)(he:S.q (before c ps).length=[]) :
  ∃w aj,(bM.run (n+3)).M "_apply" [.o 0,.d (d7 (.recv c))] U=some (w,aj)/\Told sz ps "nothing" S w aj:=by
 refine nC g7 rfl ?_;refine Wp.fX rfl ?_;refine Wp.fX (aV (a:=.d (aD c)) rfl (au rfl (cX (aG rfl rfl rfl (R.at' .me trivial)) (R.at' .me trivial) rfl rfl) rfl (r:=.d (.list (ps.map aD))) rfl) (xi hc)) ?_;refine Wp.asg (lN (au rfl (cX (aG rfl rfl rfl (R.at' .me trivial)) (R.at' .me trivial) rfl rfl) rfl (r:=.d (.list (ps.map aD))) rfl) (x:=aD c) rfl (idx_map ff c ps hc 0)) ?_;rw[Nat.zero_add];have hj:(before c ps).length<ps.length:=aJ (cS hc);generalize (before c ps).length=j at hj he ⊢;refine Wp.fX rfl ?_;have jk:U[2+j]?=some (.aI []):=(R.at' (.q j) hj).trans (congrArg (fun(l:List cB)=>some (lO (l.map c6))) he);refine Wp.sN (en (b:=false) ?_) (Wp.ret rfl ⟨_,.inl rfl,rfl,R⟩);refine Eq.trans (b:=((ev _ _ _ _).bind fun(x:V×ae)=>(iD x.2 x.1).bind λ b=>some (b,x.2))) rfl ?_;rw[au rfl (bG (aG rfl rfl rfl (R.at' .me trivial)) (R.at' .me trivial) rfl (R.at' .Q trivial) rfl) rfl (cu (R.at' .Q trivial) (rg hj) jk)];show(iD U (.o (2+j))).bind _=_;rw[oW jk];rfl
end L1
end Q
end
section
namespace Q
open PySem Classical Mine.Internal.L1
namespace L1
variable{sz:Nat}{ps:List Ch}{S:A}{U:ae}
noncomputable def vR(j:Nat)(v:Int)(s:cf):cf:=if(s.t j).1=1 then fT j ((s.t j).1,(s.t j).2++[v]) s else s
noncomputable def oE(j:Nat)(v:Int)(m:Nat)(S:A):A:={ S with s:=S.s.mapIdx λ i s=>if i<m then vR j v s else s }
theorem i3(j:Nat)(v:Int)(m i:Nat)(S:A):(oE j v m S).s[i]?=(S.s[i]?).map λ s=>if i<m then vR j v s else s:=List.getElem?_mapIdx
theorem sx{j m:Nat}{v:Int}{S:A}{s:cf}(hs:S.s[m]?=some s):(oE j v m S).s[m]?=some s:=by
 rw[i3,hs];exact congrArg some (if_neg (Nat.lt_irrefl _))
theorem yG(j:Nat)(v:Int)(S:A):oE j v 0 S=S:=A.ext rfl rfl rfl (List.ext_getElem? λ i=>by
 rw[i3];cases S.s[i]? with
 |none=>rfl
 |some s=>exact congrArg some (if_neg (Nat.not_lt_zero _)))
theorem xB{j m i:Nat}{v:Int}{S:A}(h:m≠i):(oE j v (m+1) S).s[i]?=(oE j v m S).s[i]?:=by
 rw[i3,i3];exact congrArg (λ f=>Option.map f S.s[i]?) (funext λ s=>fK ⟨λ q=>Nat.lt_of_le_of_ne (Nat.le_of_lt_succ q) λ e=>h e.symm,Nat.lt_succ_of_lt⟩)
theorem yF(j:Nat)(v:Int)(m:Nat)(S:A){s:cf}(hs:S.s[m]?=some s):oE j v (m+1) S=if(s.t j).1=1 then dD m (fT j ((s.t j).1,(s.t j).2++[v])) (oE j v m S) else oE j v m S:=by
 have hm:(oE j v (m+1) S).s[m]?=some (vR j v s):=by
  rw[i3,hs];exact congrArg some (if_pos (Nat.lt_succ_self m))
 by_cases e:(s.t j).1=1
 ·rw[if_pos e];rw[vR,if_pos e] at hm;exact A.ext rfl rfl rfl (m7 (by rw[sx hs];exact hm.symm) λ n h=>(xB h).symm).symm
 ·rw[if_neg e];rw[vR,if_neg e] at hm;refine A.ext rfl rfl rfl (List.ext_getElem? λ i=>?_);by_cases h:m=i
  ·rw[<-h,hm,sx hs]
  ·exact xB h
theorem wL(k:Nat):(gf k="open")↔k=1:=by
 match k with
 |0=>exact⟨λ h=>absurd h (by decide),λ h=>absurd h (by decide)⟩
 |1=>exact⟨λ h=>rfl,λ h=>rfl⟩
 |k+2=>exact⟨λ h=>absurd (show("shut":Str)="open" from h) (by decide),λ h=>by lia⟩
noncomputable def IE(c:Ch)(j:Nat)(v:Int)(r:List cB)(S:A):A:=oE j v S.s.length (setC c.2 (S.c c.2+1) (setB c.2 (S.b c.2+v) (eS j r S)))
end L1
namespace L1
namespace fZ
noncomputable section
def P(sz:Nat)(ps:List Ch)(S:A)(U:ae)(n:Nat)(c:Ch)(v:Int)(r:List cB):Prop:=∀(R:Rep sz ps S U) (hc:c∈ps) (hz:c.2<sz) (aZ:S.s.length<300) (ht:∀s∈S.s,∀j,(s.t j).2.length<cW) (he:S.q (before c ps).length=.cO v::r),∃w aj,(bM.run (n+3)).M "_apply" [.o 0,.d (d7 (.recv c))] U=some (w,aj)/\Told sz ps "done" (IE c (before c ps).length v r S) w aj
def xe:(Nat)×(List Ch)×(A)×(ae)×(Nat)×(Ch)×(Int)×(List cB):=@Classical.epsilon _ ⟨(default,default,⟨λ _=>0,λ _=>[],λ _=>0,[]⟩,default,default,default,default,default)⟩ λ x=>¬P x.1 x.2.1 x.2.2.1 x.2.2.2.1 x.2.2.2.2.1 x.2.2.2.2.2.1 x.2.2.2.2.2.2.1 x.2.2.2.2.2.2.2
def sz:Nat:=xe.1
def ps:List Ch:=xe.2.1
def S:A:=xe.2.2.1
def U:ae:=xe.2.2.2.1
def n:Nat:=xe.2.2.2.2.1
def c:Ch:=xe.2.2.2.2.2.1
def v:Int:=xe.2.2.2.2.2.2.1
def r:List cB:=xe.2.2.2.2.2.2.2
theorem core:P sz ps S U n c v r:=λ R hc hz aZ ht he=>by
 refine nC g7 rfl ?_;refine Wp.fX rfl ?_;refine Wp.fX (aV (a:=.d (aD c)) rfl (au rfl (cX (aG rfl rfl rfl (R.at' .me trivial)) (R.at' .me trivial) rfl rfl) rfl (r:=.d (.list (ps.map aD))) rfl) (xi hc)) ?_;refine Wp.asg (lN (au rfl (cX (aG rfl rfl rfl (R.at' .me trivial)) (R.at' .me trivial) rfl rfl) rfl (r:=.d (.list (ps.map aD))) rfl) (x:=aD c) rfl (idx_map ff c ps hc 0)) ?_;rw[Nat.zero_add];have hj:(before c ps).length<ps.length:=aJ (cS hc);generalize (before c ps).length=j at hj he ⊢;refine Wp.fX rfl ?_;have jk:U[2+j]?=some (.aI (.d (c6 (.cO v))::(r.map c6).map .d)):=(R.at' (.q j) hj).trans (congrArg (fun(l:List cB)=>some (lO (l.map c6))) he);refine Wp.fX (σ1:=U) (en (b:=true) ?_) ?_
 ·refine Eq.trans (b:=((ev _ _ _ _).bind fun(x:V×ae)=>(iD x.2 x.1).bind λ b=>some (b,x.2))) rfl ?_;rw[au rfl (bG (aG rfl rfl rfl (R.at' .me trivial)) (R.at' .me trivial) rfl (R.at' .Q trivial) rfl) rfl (cu (R.at' .Q trivial) (rg hj) jk)];show(iD U (.o (2+j))).bind _=_;rw[oW jk];rfl
 refine Wp.MI (v:=.d (c6 (.cO v))) (vs:=[.d (.str "pay"),.d (.int v)]) rfl (vh (au rfl (bG (aG rfl rfl rfl (R.at' .me trivial)) (R.at' .me trivial) rfl (R.at' .Q trivial) rfl) rfl (cu (R.at' .Q trivial) (rg hj) jk)) jk rfl) rfl rfl ?_;refine Wp.pS (R.eS j hj r) λ σ1 R1=>?_;refine Wp.sN rfl ?_;refine Wp.aug (bG (aG rfl rfl rfl (R1.at' .me trivial)) (R1.at' .me trivial) rfl (R1.at' .b trivial) rfl) rfl (gK (k:=c.2) (i:=S.b c.2) (R1.at' .b trivial) (EW hz)) (m:=v) rfl rfl (de (R1.at' .b trivial) (rY hz)) (Wp.pS (R1.setB c.2 (S.b c.2+v)) λ σ2 R2=>?_);refine Wp.aug (bG (aG rfl rfl rfl (R2.at' .me trivial)) (R2.at' .me trivial) rfl (R2.at' .c trivial) rfl) rfl (gK (k:=c.2) (i:=(S.c c.2:Nat)) (R2.at' .c trivial) (EW hz)) (m:=1) rfl rfl (de (R2.at' .c trivial) (rY hz)) (Wp.pS (R2.setC c.2 (S.c c.2+1)) λ y2 R3=>?_);have sM:(setC c.2 (S.c c.2+1) (setB c.2 (S.b c.2+v) (eS j r S))).s=S.s:=rfl;unfold IE;generalize (setC c.2 (S.c c.2+1) (setB c.2 (S.b c.2+v) (eS j r S)))=S3 at R3 sM ⊢;rw[<-sM] at aZ ht ⊢;refine Wp.gA (l:=4+ps.length) (σ1:=y2) ?_ ?_
 ·show srcOf (ev _ _ _ _)=_;rw[bG (aG rfl rfl rfl (R3.at' .me trivial)) (R3.at' .me trivial) rfl (R3.at' .S trivial) rfl];rfl
 refine Wp.Ak ((List.range S3.s.length).map λ i=>.o (ad ps.length (.s i))) (λ i O τ=>Ov ["s"] _ O/\Rep sz ps (oE j v i S3) τ) (by rw[List.length_map,List.length_range];exact aZ) ⟨Ov.refl,by rw[yG];exact R3⟩ ?_ ?_ ?_
 ·rintro i O τ ⟨_,R4⟩;exact(R4.at' .S trivial).trans (congrArg (λ k=>some (Nd.aI ((List.range k).map λ i=>.o (ad ps.length (.s i))))) List.length_mapIdx)
 ·rintro i w O τ hv ⟨⟨f,rfl⟩,R4⟩;obtain⟨hi,rfl⟩:=vX hv;have hs:=List.getElem?_eq_getElem hi;have LC:=ht S3.s[i] (List.getElem_mem _) j;have vy:=sx (j:=j) (v:=v) hs;rw[show dr τ (V.o (ad ps.length (.s i)))=V.o (ad ps.length (.s i)) from congrArg (Cz _) (R4.nS vy),yF j v i S3 hs];generalize S3.s[i]=s at *;have hT:=R4.at' (.T i) (aJ vy);have hM:=R4.nM vy hj;refine Wp.bind rfl (Wp.CH (P:=gf (s.t j).1="open") (aV (au rfl (au rfl (au rfl (bD rfl rfl rfl (R4.nS vy)) rfl (cu (j:=3) (R4.nS vy) rfl hT)) rfl (cu hT (rg hj) hM)) rfl (gH (j:=0) hM rfl)) rfl (f9 rfl)) (λ q=>?_) λ q=>?_)
  ·rw[if_pos ((wL _).1 q)];refine Wp.expr (dP (l:=ad ps.length (.t i j)) (au rfl (au rfl (au rfl (bD rfl rfl rfl (R4.nS vy)) rfl (cu (j:=3) (R4.nS vy) rfl hT)) rfl (cu hT (rg hj) hM)) rfl (cu (j:=1) hM rfl (R4.nt vy hj))) (R4.nt vy hj) rfl (R4.nt vy hj) (by rw[List.length_map,List.length_map];exact LC)) (Wp.fin (Wp.nil ⟨Ov.upd ⟨f,rfl⟩ rfl,?_⟩));have:=R4.PC i j ((s.t j).2++[v]) hj vy;rw[lO,List.map_append,List.map_append] at this;exact this
  ·rw[if_neg λ h=>q ((wL _).2 h)];exact Wp.fin (Wp.nil ⟨Ov.upd ⟨f,rfl⟩ rfl,R4⟩)
 ·rintro O τ ⟨⟨f,rfl⟩,R4⟩;rw[List.length_map,List.length_range] at R4;exact Wp.fin (Wp.ret rfl ⟨_,.inl rfl,rfl,R4⟩)
end
end fZ
variable{sz:Nat}{ps:List Ch}{S:A}{U:ae}
theorem x6{sz:Nat}{ps:List Ch}{S:A}{U:ae}(n:Nat)(c:Ch)(v:Int)(r:List cB):fZ.P sz ps S U n c v r:=aU (Q:=λ x:(Nat)×(List Ch)×(A)×(ae)×(Nat)×(Ch)×(Int)×(List cB)=>fZ.P x.1 x.2.1 x.2.2.1 x.2.2.2.1 x.2.2.2.2.1 x.2.2.2.2.2.1 x.2.2.2.2.2.2.1 x.2.2.2.2.2.2.2) fZ.core (sz,ps,S,U,n,c,v,r)
end L1
end Q
end
section
namespace Q
open PySem Classical Mine.Internal.L1
namespace L1
variable{sz:Nat}{ps:List Ch}{S:A}{U:ae}
noncomputable def qP(j:Nat)(s:cf):cf:=fT j (2,(s.t j).2) s
theorem Rep.eT(R:Rep sz ps S U)(i j:Nat)(hj:j<ps.length){s:cf}(hs:S.s[i]?=some s):Rep sz ps (dD i (qP j) S) (U.set (ad ps.length (.m i j)) (.aI [.d (.str "shut"),.o (ad ps.length (.t i j))])):=by
 have:=R.setM i j 2 hj hs;rw[show dD i (qP j) S=dD i (fT j (2,(s.t j).2)) S from A.ext rfl rfl rfl (mod_congr hs rfl)];exact this
theorem yK(p i:Nat)(nm:Str)(S:A){s:cf}(hs:S.s[i]?=some s):∃s',(jT ps p i nm S).s[i]?=some s':=by
 refine⟨gT ps p ps.length (fD p (some (S.c p)) (fA p (some (S.b p)) s)),?_⟩;show(dD i _ _).s[i]?=_;exact mod_self (mod_self (mod_self hs))
noncomputable def xd(ps:List Ch)(c:Ch)(j i:Nat)(nm:Str)(r:List cB)(s:cf)(S:A):A:=dD i (qP j) (if s.a c.2=none then jT ps c.2 i nm (eS j r S) else eS j r S)
end L1
namespace L1
namespace fe
noncomputable section
def P(sz:Nat)(ps:List Ch)(S:A)(U:ae)(n:Nat)(c:Ch)(nm:Str)(r:List cB):Prop:=∀(R:Rep sz ps S U) (hc:c∈ps) (hz:c.2<sz) (aZ:S.s.length<300) (hq:∀j,j<ps.length->(S.q j).length<cW) (hm:∃s∈S.s,s.name=nm) (he:S.q (before c ps).length=.mark nm::r),∃w aj,(bM.run (n+4)).M "_apply" [.o 0,.d (d7 (.recv c))] U=some (w,aj)/\∃i s,S.s[i]?=some s/\s.name=nm/\Told sz ps "done" (xd ps c (before c ps).length i nm r s S) w aj
def xe:(Nat)×(List Ch)×(A)×(ae)×(Nat)×(Ch)×(Str)×(List cB):=@Classical.epsilon _ ⟨(default,default,⟨λ _=>0,λ _=>[],λ _=>0,[]⟩,default,default,default,default,default)⟩ λ x=>¬P x.1 x.2.1 x.2.2.1 x.2.2.2.1 x.2.2.2.2.1 x.2.2.2.2.2.1 x.2.2.2.2.2.2.1 x.2.2.2.2.2.2.2
def sz:Nat:=xe.1
def ps:List Ch:=xe.2.1
def S:A:=xe.2.2.1
def U:ae:=xe.2.2.2.1
def n:Nat:=xe.2.2.2.2.1
def c:Ch:=xe.2.2.2.2.2.1
def nm:Str:=xe.2.2.2.2.2.2.1
def r:List cB:=xe.2.2.2.2.2.2.2
theorem core:P sz ps S U n c nm r:=λ R hc hz aZ hq hm he=>by
 refine nC g7 rfl ?_;refine Wp.fX rfl ?_;refine Wp.fX (aV (a:=.d (aD c)) rfl (au rfl (cX (aG rfl rfl rfl (R.at' .me trivial)) (R.at' .me trivial) rfl rfl) rfl (r:=.d (.list (ps.map aD))) rfl) (xi hc)) ?_;refine Wp.asg (lN (au rfl (cX (aG rfl rfl rfl (R.at' .me trivial)) (R.at' .me trivial) rfl rfl) rfl (r:=.d (.list (ps.map aD))) rfl) (x:=aD c) rfl (idx_map ff c ps hc 0)) ?_;rw[Nat.zero_add];have hj:(before c ps).length<ps.length:=aJ (cS hc);generalize (before c ps).length=j at hj he ⊢;refine Wp.fX rfl ?_;have jk:U[2+j]?=some (.aI (.d (c6 (.mark nm))::(r.map c6).map .d)):=(R.at' (.q j) hj).trans (congrArg (fun(l:List cB)=>some (lO (l.map c6))) he);refine Wp.fX (σ1:=U) (en (b:=true) ?_) ?_
 ·refine Eq.trans (b:=((ev _ _ _ _).bind fun(x:V×ae)=>(iD x.2 x.1).bind λ b=>some (b,x.2))) rfl ?_;rw[au rfl (bG (aG rfl rfl rfl (R.at' .me trivial)) (R.at' .me trivial) rfl (R.at' .Q trivial) rfl) rfl (cu (R.at' .Q trivial) (rg hj) jk)];show(iD U (.o (2+j))).bind _=_;rw[oW jk];rfl
 refine Wp.MI (v:=.d (c6 (.mark nm))) (vs:=[.d (.str "mark"),.d (.str nm)]) rfl (vh (au rfl (bG (aG rfl rfl rfl (R.at' .me trivial)) (R.at' .me trivial) rfl (R.at' .Q trivial) rfl) rfl (cu (R.at' .Q trivial) (rg hj) jk)) jk rfl) rfl rfl ?_;refine Wp.pS (R.eS j hj r) λ σ1 R1=>?_;refine Wp.Jw rfl ?_;refine bC λ k9=>?_;obtain⟨v,U9,hf,rfl,i,s,hs,oq,rfl⟩:=Ae (n+1) nm R1 aZ hm;refine k9 ?_;refine Wp.asg (kP (aG rfl rfl rfl (R1.at' .me trivial)) (R1.at' .me trivial) rfl rfl (R1.at' .me trivial) rfl hf) ?_;unfold xd;refine Wp.AZ (Rep sz ps (if s.a c.2=none then jT ps c.2 i nm (eS j r S) else eS j r S)) (Wp.PS (P:=s.a c.2=none) (aV (au rfl (au rfl (bD rfl rfl rfl (R1.nS hs)) rfl (cu (j:=1) (R1.nS hs) rfl (R1.nA hs))) rfl (gH (x:=pA (s.a c.2)) (R1.nA hs) (EW hz))) rfl ?_) (λ hn=>?_) λ hn=>?_) λ σ2 R2=>?_
 ·show m5 _ _=some (decide (s.a c.2=none));cases s.a c.2 with
  |none=>rfl
  |some x=>rfl
 ·have T3:∀j',j'<ps.length->((eS j r S).q j').length<cW:=λ j' h'=>by
   show(if j'=j then r else S.q j').length<cW;by_cases e:j'=j
   ·rw[if_pos e];exact Nat.lt_of_succ_lt (Nat.lt_of_le_of_lt (Nat.le_of_eq (congrArg List.length he).symm) (hq j (e▸h')))
   ·rw[if_neg e];exact hq j' h'
  obtain⟨w,σ2,h3,rfl,R2⟩:=ue (n+1) i c.2 R1 hz hs T3;exact Wp.expr (kP (aG rfl rfl rfl (R1.at' .me trivial)) (R1.at' .me trivial) rfl (ah rfl (ah (bD rfl rfl rfl (R1.nS hs)) rfl)) (R1.at' .me trivial) rfl h3) (Wp.nil ⟨rfl,rfl,by rw[if_pos hn,<-oq];exact R2⟩)
 ·exact Wp.nil ⟨rfl,rfl,by rw[if_neg hn];exact R1⟩
 ·obtain⟨s2,tD⟩:∃s2,(if s.a c.2=none then jT ps c.2 i nm (eS j r S) else eS j r S).s[i]?=some s2:=by
   by_cases hn:s.a c.2=none
   ·rw[if_pos hn];exact yK c.2 i nm (eS j r S) hs
   ·rw[if_neg hn];exact⟨s,hs⟩
  have hT:=R2.at' (.T i) (aJ tD);exact Wp.sE rfl (au rfl (au rfl (bD rfl rfl rfl (R2.nS tD)) rfl (cu (j:=3) (R2.nS tD) rfl hT)) rfl (cu hT (rg hj) (R2.nM tD hj))) rfl (de (k:=0) (R2.nM tD hj) (Nat.le_of_ble_eq_true rfl)) (Wp.fin (Wp.ret rfl ⟨_,.inl rfl,i,s,hs,oq,rfl,R2.eT i j hj tD⟩))
end
end fe
variable{sz:Nat}{ps:List Ch}{S:A}{U:ae}
theorem uO{sz:Nat}{ps:List Ch}{S:A}{U:ae}(n:Nat)(c:Ch)(nm:Str)(r:List cB):fe.P sz ps S U n c nm r:=aU (Q:=λ x:(Nat)×(List Ch)×(A)×(ae)×(Nat)×(Ch)×(Str)×(List cB)=>fe.P x.1 x.2.1 x.2.2.1 x.2.2.2.1 x.2.2.2.2.1 x.2.2.2.2.2.1 x.2.2.2.2.2.2.1 x.2.2.2.2.2.2.2) fe.core (sz,ps,S,U,n,c,nm,r)
end L1
end Q
end
section
namespace Q
open PySem Classical Mine.Internal.L1
noncomputable def Den:Nat->ae->V->PyData->Prop
 |_,_,.d x,d=>x=d
 |n+1,U,.o l,d=>U[l]?=some (.cn d)\/∃vs ds,U[l]?=some (.aI vs)/\d=.list ds/\vs.length=ds.length/\∀(i:Nat) v e,vs[i]?=some v->ds[i]?=some e->Den n U v e
 |_,_,_,_=>False
theorem FK{n:Nat}{U:ae}{l:Nat}{d:PyData}(h:Den n U (.o l) d):∃m,n=m+1/\(U[l]?=some (.cn d)\/∃vs ds,U[l]?=some (.aI vs)/\d=.list ds/\vs.length=ds.length/\∀(i:Nat) v e,vs[i]?=some v->ds[i]?=some e->Den m U v e):=by
 cases n with
 |zero=>exact h.elim
 |succ m=>exact⟨m,rfl,h⟩
theorem wH:∀(n m:Nat) (U:ae) (v:V) (d d':PyData),Den n U v d->Den m U v d'->d=d':=by
 intro n
 induction n with
 |zero=>
  intro m U v d d' h1 h2;cases v with
  |d x=>
   cases m<;>exact(show x=d from h1).symm.trans (show x=d' from h2)
  |o l=>exact(show False from h1).elim
  |fs _=>exact(show False from h1).elim
  |ty _=>exact(show False from h1).elim
 |succ n ih=>
  intro m U v d d' h1 h2;cases v with
  |d x=>
   cases m<;>exact(show x=d from h1).symm.trans (show x=d' from h2)
  |o l=>
   obtain⟨m',_,g⟩:=FK h2;rcases h1 with h1 | ⟨vs,ds,h1,rfl,h3,h4⟩
   ·rcases g with g | ⟨Jg,Jp,g,rfl,h5,h6⟩
    ·exact Nd.cn.inj (Option.some.inj (h1.symm.trans g))
    ·have:=Option.some.inj (h1.symm.trans g);cases this
   ·rcases g with g | ⟨Jg,Jp,g,rfl,h5,h6⟩
    ·have:=Option.some.inj (h1.symm.trans g);cases this
    ·obtain rfl:=Nd.aI.inj (Option.some.inj (h1.symm.trans g));congr 1;apply List.ext_getElem?;intro i;by_cases hi:i<vs.length
     ·have e1:ds[i]?=some (ds[i]'(by exact Nat.lt_of_lt_of_eq ‹_› ‹_›)):=List.getElem?_eq_getElem (by exact Nat.lt_of_lt_of_eq ‹_› ‹_›);have e2:Jp[i]?=some (Jp[i]'(by exact Nat.lt_of_lt_of_eq ‹_› ‹_›)):=List.getElem?_eq_getElem (by exact Nat.lt_of_lt_of_eq ‹_› ‹_›);have e3:vs[i]?=some vs[i]:=List.getElem?_eq_getElem hi;rw[e1,e2,ih _ _ _ _ _ (h4 i _ _ e3 e1) (h6 i _ _ e3 e2)]
     ·rw[List.getElem?_eq_none (by lia),List.getElem?_eq_none (by lia)]
  |fs _=>exact(show False from h1).elim
  |ty _=>exact(show False from h1).elim
structure Fz(U τ:ae):Prop where
 len:U.length<=τ.length
 at':∀l,l<U.length->τ[l]?=U[l]?\/∃d m,τ[l]?=some (.cn d)/\Den m U (.o l) d
theorem Fz.refl(U:ae)(r:List Nd):Fz U (U++r):=⟨by simp,λ l hl=>.inl (List.getElem?_append_left hl)⟩
noncomputable def Up(U τ CI:ae):Prop:=CI.length=τ.length/\∀l,U.length<=l->CI[l]?=τ[l]?
theorem hW:∀(n:Nat) (U τ:ae) (v:V) (d:PyData),Den n U v d->Fz U τ->∃CI,cn n τ v=some (d,CI)/\Fz U CI/\Up U τ CI:=by
 intro n
 induction n with
 |zero=>
  intro U τ v d h F;cases v with
  |d x=>obtain rfl:x=d:=h;exact⟨τ,rfl,F,rfl,λ _ _=>rfl⟩
  |o l=>exact(show False from h).elim
  |fs _=>exact(show False from h).elim
  |ty _=>exact(show False from h).elim
 |succ n ih=>
  intro U τ v d h F;have list:∀(vs:List V) (ds:List PyData) (τ:ae),Fz U τ->vs.length=ds.length->(∀(i:Nat) v e,vs[i]?=some v->ds[i]?=some e->Den n U v e)->∃CI,KV n τ vs=some (ds,CI)/\Fz U CI/\Up U τ CI:=by
   intro vs
   induction vs with
   |nil=>
    intro ds τ F hl _;obtain rfl:ds=[]:=by cases ds with
     |nil=>rfl
     |cons=>exact by cases hl
    exact⟨τ,rfl,F,rfl,λ _ _=>rfl⟩
   |cons v r Ur=>
    intro ds τ F hl hd;cases ds with
    |nil=>exact by cases hl
    |cons e es=>
     refine bC λ k9=>?_;obtain⟨MO,a1,a2,a3,a4⟩:=ih U τ v e (hd 0 v e rfl rfl) F;obtain⟨PU,b1,b2,b3,b4⟩:=Ur es MO a2 (by simpa using hl) (λ i v e h1 h2=>hd (i+1) v e (by exact h1) (by exact h2));refine k9 ?_;exact⟨PU,bi a1 (bi b1 rfl),b2,b3.trans a3,λ l hl=>(b4 l hl).trans (a4 l hl)⟩
  cases v with
  |d x=>obtain rfl:x=d:=h;exact⟨τ,rfl,F,rfl,λ _ _=>rfl⟩
  |o l=>
   have hD:Den (n+1) U (.o l) d:=h;rcases h with h | ⟨vs,ds,h,rfl,h3,h4⟩
   ·have hl:l<U.length:=by
     by_cases hc:l<U.length
     ·exact hc
     ·rw[List.getElem?_eq_none (by exact Nat.not_lt.mp ‹_›)] at h;cases h
    rcases F.at' l hl with q | ⟨d',m,q,q2⟩
    ·exact⟨τ,congrArg (tj (cn n) l τ) (q.trans h),F,rfl,λ _ _=>rfl⟩
    ·obtain rfl:=wH _ _ _ _ _ _ q2 hD;exact⟨τ,congrArg (tj (cn n) l τ) q,F,rfl,λ _ _=>rfl⟩
   ·have hl:l<U.length:=by
     by_cases hc:l<U.length
     ·exact hc
     ·rw[List.getElem?_eq_none (by exact Nat.not_lt.mp ‹_›)] at h;cases h
    rcases F.at' l hl with q | ⟨d',m,q,q2⟩
    ·obtain⟨MO,b1,b2,b3,b4⟩:=list vs ds τ F h3 h4;refine⟨MO.set l (.cn (.list ds)),(congrArg (tj (cn n) l τ) (q.trans h)).trans (bi b1 rfl),⟨by rw[List.length_set];exact b2.len,λ l' F9=>?_⟩,by rw[List.length_set];exact b3,λ l' F9=>?_⟩
     ·by_cases e:l=l'
      ·subst e;exact .inr ⟨_,_,List.getElem?_set_self (by have:=b2.len;exact Nat.le_trans ‹_› ‹_›),hD⟩
      ·rw[List.getElem?_set_ne e];exact b2.at' l' F9
     ·rw[List.getElem?_set_ne (by exact Nat.ne_of_lt (Nat.lt_of_lt_of_le ‹_› ‹_›))];exact b4 l' F9
    ·obtain rfl:=wH _ _ _ _ _ _ q2 hD;exact⟨τ,congrArg (tj (cn n) l τ) q,F,rfl,λ _ _=>rfl⟩
  |fs _=>exact(show False from h).elim
  |ty _=>exact(show False from h).elim
theorem kO{Y:Or}{o:Expr}{n:Str}{p:Pos}{O:ak}{U σ1 σ2:ae}{l:Nat}{fs:List (Str×V)}{v:V}{d:PyData}(h1:ev Y o O U=some (.o l,σ1))(h2:σ1[l]?=some (.ins fs))(h3:dY n fs=some v)(hf:Y.cn p=true)(hz:cn 8 σ1 v=some (d,σ2)):ev Y (.Attribute o n p) O U=some (.d d,σ2):=by
 exact bi h1 ((congrArg (Kk Y n p σ1) h2).trans (bi h3 ((if_pos hf).trans (congrArg (Option.map fun(x:PyData×ae)=>(V.d x.1,x.2)) hz))))
theorem kM{n:Nat}{U:ae}{l:Nat}{vs:List V}{ds:List PyData}(h:U[l]?=some (.aI vs))(hl:vs.length=ds.length)(hi:∀(i:Nat) v e,vs[i]?=some v->ds[i]?=some e->Den n U v e):Den (n+1) U (.o l) (.list ds):=.inr ⟨vs,ds,h,rfl,hl,hi⟩
theorem zO{n:Nat}{U:ae}{x:PyData}:Den n U (.d x) x:=by cases n<;>exact rfl
theorem dG{n:Nat}{U:ae}{l:Nat}{ds:List PyData}(h:U[l]?=some (.aI (ds.map .d))):Den (n+1) U (.o l) (.list ds):=by
 refine kM h (by exact List.length_map _) λ i v e h1 h2=>?_;rw[List.getElem?_map,h2] at h1;obtain rfl:=Option.some.inj h1;exact zO
theorem rA{n:Nat}{U:ae}{l m:Nat}{f:Nat->V}{g:Nat->PyData}(h:U[l]?=some (.aI ((List.range m).map f)))(hi:∀i,i<m->Den n U (f i) (g i)):Den (n+1) U (.o l) (.list ((List.range m).map g)):=by
 refine kM h (by simp) λ i v e h1 h2=>?_;have cz:i<m:=by
  by_cases hc:i<m
  ·exact hc
  ·rw[List.getElem?_eq_none (by simpa using hc)] at h1;cases h1
 simp[cz] at h1 h2;subst h1;subst h2;exact hi i cz
namespace L1
variable{sz:Nat}{ps:List Ch}{S:A}{U:ae}
noncomputable def IU(sz k:Nat)(s:cf):PyData:=.list [.str s.name,.list (((List.range sz).map s.a).map pA),.list (((List.range sz).map s.c).map rD),.list ((List.range k).map λ j=>.list [.str (gf (s.t j).1),.list ((s.t j).2.map .int)])]
end L1
namespace L1
namespace iK
noncomputable section
def P(sz:Nat)(ps:List Ch)(S:A)(U:ae):Prop:=∀(R:Rep sz ps S U),Den 8 U (.o (4+ps.length)) (.list (S.s.map (IU sz ps.length)))
def xe:(Nat)×(List Ch)×(A)×(ae):=@Classical.epsilon _ ⟨(default,default,⟨λ _=>0,λ _=>[],λ _=>0,[]⟩,default)⟩ λ x=>¬P x.1 x.2.1 x.2.2.1 x.2.2.2
def sz:Nat:=xe.1
def ps:List Ch:=xe.2.1
def S:A:=xe.2.2.1
def U:ae:=xe.2.2.2
theorem core:P sz ps S U:=λ R=>by
 have e:S.s.map (IU sz ps.length)=(List.range S.s.length).map λ i=>((S.s[i]?).map (IU sz ps.length)).getD .none:=by
  apply List.ext_getElem?;intro i;by_cases hi:i<S.s.length<;>simp[hi]
 rw[e];refine rA (R.at' .S trivial) λ i hi=>?_;have hs:S.s[i]?=some S.s[i]:=List.getElem?_eq_getElem hi;have a1:=R.at' (.s i) hi;have a2:=R.at' (.a i) hi;have a3:=R.at' (.d i) hi;have a4:=R.at' (.T i) hi;simp only[nd,hs,Option.map_some] at a1 a2 a3 a4;rw[hs];show Den 7 U _ (IU sz ps.length S.s[i]);refine kM a1 rfl λ k v e h1 h2=>?_
 match k,h1,h2 with
 |0,h1,h2=>cases h1;cases h2;exact zO
 |1,h1,h2=>cases h1;cases h2;exact dG a2
 |2,h1,h2=>cases h1;cases h2;exact dG a3
 |3,h1,h2=>
  cases h1;cases h2;refine rA a4 λ j hj=>?_;have b1:=R.at' (.m i j) ⟨hi,hj⟩;have b2:=R.at' (.t i j) ⟨hi,hj⟩;simp only[nd,hs,Option.map_some] at b1 b2;refine kM b1 rfl λ k v e h1 h2=>?_
  match k,h1,h2 with
  |0,h1,h2=>cases h1;cases h2;exact zO
  |1,h1,h2=>cases h1;cases h2;exact dG b2
  |k+2,h1,h2=>simp at h1
 |k+4,h1,h2=>simp at h1
end
end iK
variable{sz:Nat}{ps:List Ch}{S:A}{U:ae}
theorem Rep.Ky(R:Rep sz ps S U):Den 8 U (.o (4+ps.length)) (.list (S.s.map (IU sz ps.length))):=aU (Q:=λ x:(Nat)×(List Ch)×(A)×(ae)=>iK.P x.1 x.2.1 x.2.2.1 x.2.2.2) iK.core (sz,ps,S,U) R
theorem Rep.Kv(R:Rep sz ps S U):Den 8 U (.o 1) (bw ((List.range sz).map S.b)):=dG (R.at' .b trivial)
theorem Rep.Kw(R:Rep sz ps S U):Den 8 U (.o (3+ps.length)) (bK ((List.range sz).map S.c)):=dG (R.at' .c trivial)
theorem Rep.Kx(R:Rep sz ps S U):Den 8 U (.o (2+ps.length)) (.list (((List.range ps.length).map S.q).map eQ)):=by
 rw[List.map_map];exact rA (R.at' .Q trivial) λ j hj=>dG (R.at' (.q j) hj)
end L1
end Q
end
section
namespace Q
open PySem Classical Mine.Internal.L1
theorem Fz.set{U τ:ae}(F:Fz U τ){l:Nat}(hl:U.length<=l)(n:Nd):Fz U (τ.set l n):=
 ⟨by rw[List.length_set];exact F.len,λ l' h'=>by rw[List.getElem?_set_ne (by exact Nat.ne_of_gt (Nat.lt_of_lt_of_le ‹_› ‹_›))];exact F.at' l' h'⟩
theorem Fz.ins{U τ:ae}(F:Fz U τ){l:Nat}{fs:List (Str×V)}(h:U[l]?=some (.ins fs)):τ[l]?=some (.ins fs):=by
 rcases F.at' l (L1.aJ h) with q | ⟨d,m,q,D⟩
 ·rw[q,h]
 ·obtain⟨m',_,g⟩:=FK D;rcases g with g | ⟨vs,ds,g,_⟩
  ·have:=Option.some.inj (h.symm.trans g);cases this
  ·have:=Option.some.inj (h.symm.trans g);cases this
namespace L1
variable{sz:Nat}{ps:List Ch}{S:A}{U:ae}
noncomputable def L5:Fn:=(bM.mt "_out").getD ⟨[],[]⟩
theorem KG:bM.mt "_out"=some L5:=rfl
end L1
namespace L1
namespace jx
noncomputable section
def P(sz:Nat)(ps:List Ch)(S:A)(U:ae)(n:Nat):Prop:=∀(R:Rep sz ps S U) (aZ:S.s.length<=50000),∃v aj,(bM.run (n+2)).M "_out" [.o 0] U=some (v,aj)/\v=.d (fV (ur sz ps.length S))
def xe:(Nat)×(List Ch)×(A)×(ae)×(Nat):=@Classical.epsilon _ ⟨(default,default,⟨λ _=>0,λ _=>[],λ _=>0,[]⟩,default,default)⟩ λ x=>¬P x.1 x.2.1 x.2.2.1 x.2.2.2.1 x.2.2.2.2
def sz:Nat:=xe.1
def ps:List Ch:=xe.2.1
def S:A:=xe.2.2.1
def U:ae:=xe.2.2.2.1
def n:Nat:=xe.2.2.2.2
theorem core:P sz ps S U n:=λ R aZ=>by
 refine nC KG rfl ?_;refine Wp.asg (v:=.o U.length) (σ1:=U++[.aI []]) rfl ?_;have F0:=Fz.refl U [.aI []];have y1:=R.at' .me trivial;refine bC λ k9=>?_;obtain⟨MO,z1,F1,U1⟩:=hW 8 U _ _ _ R.Ky F0;refine k9 ?_;refine Wp.for (ys:=(S.s.map (IU sz ps.length)).map V.d) (σ1:=MO) ?_ ?_
 ·show srcOf (ev _ _ _ _)=_;rw[kO (aG rfl rfl rfl (F0.ins y1)) (F0.ins y1) rfl rfl z1];rfl
 refine Wp.lS (IU sz ps.length) (λ pre O τ=>Ov ["n","a","c","t"] _ O/\Fz U τ/\τ[U.length]?=some (.aI ((pre.map λ s=>fG (pV sz ps.length s)).map V.d))) ⟨Ov.refl,F1,by rw[U1.2 _ (Nat.le_refl _)];simp⟩ ?_ ?_
 ·rintro pre s post O τ hy ⟨⟨f,rfl⟩,F,hN⟩;refine Wp.bind rfl ?_;have hl:pre.length<cW:=by
   rw[hy] at aZ;simp at aZ;simp only[cW];exact Nat.lt_of_le_of_lt (Nat.le_add_right _ _) (Nat.lt_of_le_of_lt ‹_› (by decide))
  refine Wp.expr (dP (l:=U.length) (bD rfl rfl rfl hN) hN (v:=.d (fG (pV sz ps.length s))) (σ2:=τ) (bQ (ds:=[.str s.name,.list (((List.range sz).map s.a).map pA),.list (((List.range sz).map s.c).map rD),.list (((List.range ps.length).map s.t).map eJ)]) (ah rfl (ah rfl (ah rfl (ah (v:=.d (.list (((List.range ps.length).map s.t).map eJ))) (σ1:=τ) ((bh (λ j=>PyData.list [.str (gf (s.t j).1),.list ((s.t j).2.map .int)]) (ys:=List.range ps.length) (λ j=>eJ (s.t j)) rfl rfl λ j hj=>⟨_,rfl,rfl⟩).trans ?_) rfl)))) rfl) hN (by simpa using hl)) (Wp.nil ⟨by repeat first | exact⟨f,rfl⟩ | refine Ov.upd ?_ rfl,F.set (Nat.le_refl _) _,?_⟩)
  ·rw[List.map_map];rfl
  ·rw[List.getElem?_set_self (aJ hN)];simp
 ·rintro O τ ⟨⟨f,rfl⟩,F,hN⟩;refine bC λ k9=>?_;obtain⟨PU,z2,F2,U2⟩:=hW 8 U τ _ _ R.Kv F;obtain⟨Vb,z3,F3,U3⟩:=hW 8 U PU _ _ R.Kx F2;obtain⟨Vd,z4,F4,U4⟩:=hW 8 U Vb _ _ R.Kw F3;refine k9 ?_;have SQ:Vd[U.length]?=some (.aI ((S.s.map λ s=>fG (pV sz ps.length s)).map V.d)):=by
   rw[U4.2 _ (Nat.le_refl _),U3.2 _ (Nat.le_refl _),U2.2 _ (Nat.le_refl _),hN]
  refine Wp.ret (bQ (ah (kO (aG rfl rfl rfl (F.ins y1)) (F.ins y1) rfl rfl z2) (ah (kO (aG rfl rfl rfl (F2.ins y1)) (F2.ins y1) rfl rfl z3) (ah (kO (aG rfl rfl rfl (F3.ins y1)) (F3.ins y1) rfl rfl z4) (ah (lM rfl rfl rfl SQ) rfl)))) rfl) ⟨_,.inl rfl,?_⟩;simp only[fV,ur,List.map_map];rfl
end
end jx
variable{sz:Nat}{ps:List Ch}{S:A}{U:ae}
theorem EK{sz:Nat}{ps:List Ch}{S:A}{U:ae}(n:Nat):jx.P sz ps S U n:=aU (Q:=λ x:(Nat)×(List Ch)×(A)×(ae)×(Nat)=>jx.P x.1 x.2.1 x.2.2.1 x.2.2.2.1 x.2.2.2.2) jx.core (sz,ps,S,U,n)
noncomputable def Hu:Fn:=(bM.fn "step").getD ⟨[],[]⟩
theorem Hh:bM.fn "step"=some Hu:=rfl
theorem BP(n:Nat)(X S':A)(e:jI)(t:Str)(aZ:X.s.length<=50000)(Lo:S'.s.length<=50000)
  (VC:∃v aj,(bM.run (n+4)).M "_apply" [.o 0,.d (d7 e)] (lay sz ps X)=some (v,aj)/\Told sz ps t S' v aj) :
  (bM.run (n+5)).P "step" [.d (eA sz ps),.d (fV (ur sz ps.length X)),.d (d7 e)]=some (some (.d (.tuple [fV (ur sz ps.length S'),.str t]))):=by
 refine bC λ k9=>?_;obtain⟨v,σ1,h1,rfl,R1⟩:=VC;obtain⟨w,σ2,h2,rfl⟩:=EK (n+2) R1 Lo;refine k9 ?_;refine jX Hh rfl ?_;have LK:=AQ (n+2) sz ps X aZ;refine Wp.asg (v:=.o 0) (σ1:=lay sz ps X) (bA rfl (bi LK rfl)) ?_;have y1:=(w8 sz ps X).at' .me trivial;refine Wp.asg (kP (aG rfl rfl rfl y1) y1 rfl rfl y1 rfl h1) ?_;have O5:=R1.at' .me trivial;refine Wp.ret (bQ (ah (kP (aG rfl rfl rfl O5) O5 rfl rfl O5 rfl h2) (ah rfl rfl)) rfl) ⟨_,rfl,rfl⟩
end L1
end Q
end
section
namespace Q
open PySem Classical Mine.Internal.L1
theorem gQ{K:Type}[DecidableEq K]{k a:K}{b:V}{r:List (K×V)}:look k ((a,b)::r)=if a=k then some b else look k r:=rfl
theorem rZ{K:Type}[DecidableEq K](k k':K)(v:V)(bj:List (K×V)):look k' (bj.map λ q=>if q.1=k then(q.1,v) else q)=if k'=k then(look k' bj).map λ _=>v else look k' bj:=by
 induction bj with
 |nil=>exact(ite_self none).symm
 |cons q r ih=>
  obtain⟨a,b⟩:=q;rw[List.map_cons,gQ];by_cases h:a=k
  ·rw[if_pos h,gQ];by_cases h2:a=k'
   ·rw[if_pos h2,if_pos h2,if_pos (h2.symm.trans h)];rfl
   ·rw[if_neg h2,if_neg h2];exact ih
  ·rw[if_neg h,gQ];by_cases h2:a=k'
   ·rw[if_pos h2,if_pos h2,if_neg (λ e=>h (h2.trans e))]
   ·rw[if_neg h2,if_neg h2];exact ih
theorem A5{K:Type}[DecidableEq K](k k':K)(v:V)(bj:List (K×V)):look k' (bj++[(k,v)])=match look k' bj with
  |some u=>some u
  |none=>if k=k' then some v else none:=by
 induction bj with
 |nil=>rfl
 |cons q r ih=>
  obtain⟨a,b⟩:=q;rw[List.cons_append,gQ,gQ];by_cases h2:a=k'
  ·rw[if_pos h2,if_pos h2]
  ·rw[if_neg h2,if_neg h2];exact ih
theorem iZ{K:Type}[DecidableEq K](k k':K)(v:V)(bj:List (K×V)):look k' (put k v bj)=if k'=k then some v else look k' bj:=by
 unfold put;by_cases h:(look k bj).isSome
 ·rw[if_pos h,rZ];by_cases e:k'=k
  ·subst e;obtain⟨u,hu⟩:=Option.isSome_iff_exists.1 h;rw[if_pos rfl,if_pos rfl,hu];rfl
  ·rw[if_neg e,if_neg e]
 ·rw[if_neg h,A5];by_cases e:k'=k
  ·subst e;rw[Option.not_isSome_iff_eq_none.mp h,if_pos rfl]
  ·rw[if_neg e,if_neg λ q=>e q.symm];cases look k' bj<;>rfl
theorem jy{K:Type}[DecidableEq K](k:K)(v:V)(bj:List (K×V)):(put k v bj).length<=bj.length+1:=by
 unfold put;split
 ·rw[List.length_map];exact Nat.le_succ _
 ·exact Nat.le_of_eq List.length_append
theorem LJ{U:ae}{l:Nat}{k:Int}{bj:List (Int×V)}(h:U[l]?=some (.fF bj)):dB U .In (.d (.int k)) (.o l)=some (look k bj).isSome:=by
 exact congrArg (Nf (.d (.int k))) h
theorem Iu{U:ae}{l:Nat}{d:PyData}{k:List Int}{bj:List (List Int×V)}(h:U[l]?=some (.jf bj))(hk:mJ d=some k):dB U .NotIn (.d d) (.o l)=some (!(look k bj).isSome):=by
 exact congrArg (Option.map (!·)) ((congrArg (Nf (.d d)) h).trans (bi hk rfl))
theorem BR{U:ae}{l:Nat}{k:Int}{bj:List (Int×V)}{x:PyData}(h:U[l]?=some (.fF bj))(hv:look k bj=some (.d x)):dX U (.o l) (.d (.int k))=some (.d x):=by
 exact(congrArg (um U (.d (.int k))) h).trans (congrArg (Option.map (dr U)) hv)
theorem oP{U:ae}{l l':Nat}{d:PyData}{k:List Int}{bj:List (List Int×V)}{xs:List V}(h:U[l]?=some (.jf bj))(hk:mJ d=some k)(hv:look k bj=some (.o l'))(h':U[l']?=some (.aI xs)):dX U (.o l) (.d d)=some (.o l'):=by
 exact(congrArg (um U (.d d)) h).trans (bi hk ((congrArg (Option.map (dr U)) hv).trans (congrArg (λ q=>some (Cz l' q)) h')))
theorem BE{U:ae}{l:Nat}{k:Int}{bj:List (Int×V)}{v:V}(h:U[l]?=some (.fF bj))(hl:bj.length<cW):fR (.o l) (.d (.int k)) v U=some (U.set l (.fF (put k v bj))):=by
 exact(congrArg (pT l (.d (.int k)) v U) h).trans (if_pos hl)
theorem BF{U:ae}{l:Nat}{d:PyData}{k:List Int}{bj:List (List Int×V)}{v:V}(h:U[l]?=some (.jf bj))(hk:mJ d=some k)(hl:bj.length<cW):fR (.o l) (.d d) v U=some (U.set l (.jf (put k v bj))):=by
 exact(congrArg (pT l (.d d) v U) h).trans (bi hk (if_pos hl))
noncomputable def OU:Nd->Bool
 |.cn _=>true
 |_=>false
theorem aW{Y:Or}{x:Str}{p:Pos}{O:ak}{U:ae}{l:Nat}{n:Nd}(hg:Y.gl x=none)(hf:Y.cn p=false)(h:O x=some (.o l))(hs:U[l]?=some n)(hn:OU n=false):ev Y (.Name x p) O U=some (.o l,U):=
 te hg h (EU hf hs (by cases n<;>first | rfl | cases hn))
namespace L1
noncomputable def kc(c:Ch):List Int:=[(c.1:Int),(c.2:Int)]
theorem A0{c d:Ch}:kc c=kc d↔c=d:=by
 obtain⟨a,b⟩:=c;obtain⟨a',b'⟩:=d;simp[kc,Int.ofNat_inj]
noncomputable def aM(h:List aQ)(c:Ch):List Nat:=h.zipIdx.filterMap λ x=>if x.1.1=c/\x.1.2≠none then some x.2 else none
noncomputable def cA(h:List aQ)(c:Ch):Nat:=(h.filter λ x=>decide (x=(c,none))).length
noncomputable def cF:List aQ->Nat->Option Nat:=λ h p=>(h.zipIdx.filterMap λ x=>if aA x.1=p then some x.2 else none).getLast?
noncomputable def aX(pre:List aQ)(e:aQ):Nat×List Nat:=(aA e,(cF pre (aA e)).toList++match e.2 with
 |some _=>[]
 |none=>[(aM pre e.1).getD (cA pre e.1) 0])
noncomputable def aR(h:List aQ):List (Nat×List Nat):=h.zipIdx.map λ x=>aX (h.take x.2) x.1
noncomputable def Valid(h:List aQ):Prop:=∀pre c post,h=pre++(c,none)::post->cA pre c<(aM pre c).length
noncomputable def iP(x:Nat×List Nat):PyData:=.tuple [.int x.1,bK x.2]
theorem gI{G:Type}{h:List G}{x:G×Nat}(hx:x∈h.zipIdx):x.2<h.length:=Nat.lt_of_lt_of_eq (List.mem_zipIdx hx).2.1 (Nat.zero_add _)
theorem fU{G:Type}(h:List G)(e:G):(h++[e]).zipIdx=h.zipIdx++[(e,h.length)]:=by simp[List.zipIdx_append]
theorem bV(h:List aQ)(e:aQ)(c:Ch):aM (h++[e]) c=aM h c++(if e.1=c/\e.2≠none then [h.length] else []):=by
 unfold aM;rw[fU,List.filterMap_append];by_cases q:e.1=c/\e.2≠none
 ·simp only[if_pos q,List.filterMap_cons,List.filterMap_nil]
 ·simp only[if_neg q,List.filterMap_cons,List.filterMap_nil]
theorem eC(h:List aQ)(e:aQ)(c:Ch):cA (h++[e]) c=cA h c+(if e=(c,none) then 1 else 0):=by
 unfold cA;rw[List.filter_append,List.length_append];by_cases q:e=(c,none)<;>simp[q]
theorem fm(h:List aQ)(e:aQ)(p:Nat):cF (h++[e]) p=if aA e=p then some h.length else cF h p:=by
 unfold cF;rw[fU,List.filterMap_append];by_cases q:aA e=p
 ·simp[q,List.filterMap_cons]
 ·simp[q,List.filterMap_cons]
theorem ij(h:List aQ)(e:aQ):aR (h++[e])=aR h++[aX h e]:=by
 unfold aR;rw[fU,List.map_append];congr 1
 ·apply List.map_congr_left;intro x hx;have:x.2<h.length:=gI hx;rw[List.take_append_of_le_length (by exact Nat.le_of_lt ‹_›)]
 ·simp
end L1
end Q
end
section
namespace Q
open PySem Classical Mine.Internal.L1
namespace L1
noncomputable def nL(l:List Nat):Nd:=.aI (l.map λ k=>V.d (.int (k:Nat)))
noncomputable def nP(l r:Nat):Nd:=.aI [.o l,.d (.int (r:Nat))]
structure LW(kl:List (Int×V))(kq:List (List Int×V))(out:List V)(K:Ch->Prop)(snd:Ch->List Nat)(sy L:Ch->Nat)(U:ae):Prop where
 z0:U[0]?=some (.fF kl)
 z1:U[1]?=some (.jf kq)
 z2:U[2]?=some (.aI out)
 lo:∀c,K c->3<=L c
 ca:∀c,K c->U[L c]?=some (nL (snd c))
 cb:∀c,K c->U[L c+1]?=some (nP (L c) (sy c))
 dj:∀c c',K c->K c'->c≠c'->L c+1<L c'\/L c'+1<L c
structure LP(K:Ch->Prop)(L:Ch->Nat)(N:Nat)(n:Nd)(U:ae):Prop where
 at':U[N]?=some n
 lo:3<=N
 dj:∀c,K c->L c≠N
 Kz:∀c,K c->L c+1≠N
theorem n9{U r:ae}{l:Nat}{n:Nd}(h:U[l]?=some n):(U++r)[l]?=some n:=(List.getElem?_append_left (aJ h)).trans h
theorem eO{U:ae}{a l:Nat}{m n:Nd}(hl:a≠l)(h:U[l]?=some n):(U.set a m)[l]?=some n:=(List.getElem?_set_ne hl).trans h
theorem qo{U:ae}{l:Nat}{m n:Nd}(h:U[l]?=some n):(U.set l m)[l]?=some m:=List.getElem?_set_self (aJ h)
theorem Gr{a l:Nat}(h:3<=l)(ha:a<3):a≠l:=Nat.ne_of_lt (Nat.lt_of_lt_of_le ha h)
theorem Jz{a l:Nat}(h:3<=l)(ha:a<3):l≠a:=λ e=>Gr h ha e.symm
variable{kl:List (Int×V)}{kq:List (List Int×V)}{out:List V}{K:Ch->Prop}{snd:Ch->List Nat}{sy L:Ch->Nat}{U:ae}{N:Nat}{n:Nd}
theorem LW.app(W:LW kl kq out K snd sy L U)(r:List Nd):LW kl kq out K snd sy L (U++r):=
 ⟨n9 W.z0,n9 W.z1,n9 W.z2,W.lo,λ c hc=>n9 (W.ca c hc),λ c hc=>n9 (W.cb c hc),W.dj⟩
theorem LW.Px(W:LW kl kq out K snd sy L U)(Rm:List (Int×V)):LW Rm kq out K snd sy L (U.set 0 (.fF Rm)):=
 ⟨qo W.z0,eO (by decide) W.z1,eO (by decide) W.z2,W.lo,λ c hc=>eO (Gr (W.lo c hc) (by decide)) (W.ca c hc),λ c hc=>eO (Nat.zero_ne_add_one _) (W.cb c hc),W.dj⟩
theorem LW.Py(W:LW kl kq out K snd sy L U)(Jy:List (List Int×V)):LW kl Jy out K snd sy L (U.set 1 (.jf Jy)):=
 ⟨eO (by decide) W.z0,qo W.z1,eO (by decide) W.z2,W.lo,λ c hc=>eO (Gr (W.lo c hc) (by decide)) (W.ca c hc),λ c hc=>eO (Gr (Nat.le_succ_of_le (W.lo c hc)) (by decide)) (W.cb c hc),W.dj⟩
theorem LW.Pz(W:LW kl kq out K snd sy L U)(Mm:List V):LW kl kq Mm K snd sy L (U.set 2 (.aI Mm)):=
 ⟨eO (by decide) W.z0,eO (by decide) W.z1,qo W.z2,W.lo,λ c hc=>eO (Gr (W.lo c hc) (by decide)) (W.ca c hc),λ c hc=>eO (Gr (Nat.le_succ_of_le (W.lo c hc)) (by decide)) (W.cb c hc),W.dj⟩
theorem LW.pT(W:LW kl kq out K snd sy L U)(P:LP K L N n U)(n':Nd):LW kl kq out K snd sy L (U.set N n'):=
 ⟨eO (Jz P.lo (by decide)) W.z0,eO (Jz P.lo (by decide)) W.z1,eO (Jz P.lo (by decide)) W.z2,W.lo,λ c hc=>eO (P.dj c hc).symm (W.ca c hc),λ c hc=>eO (P.Kz c hc).symm (W.cb c hc),W.dj⟩
theorem LP.pT(P:LP K L N n U)(n':Nd):LP K L N n' (U.set N n'):=⟨qo P.at',P.lo,P.dj,P.Kz⟩
theorem LP.set(P:LP K L N n U){l:Nat}(hl:l≠N)(n':Nd):LP K L N n (U.set l n'):=⟨eO hl P.at',P.lo,P.dj,P.Kz⟩
theorem LW.rY(W:LW kl kq out K snd sy L U):3<=U.length:=aJ W.z2
theorem LP.mk'(W:LW kl kq out K snd sy L U)(n:Nd):LP K L U.length n (U++[n]):=
 ⟨List.getElem?_concat_length,W.rY,λ c hc=>Nat.ne_of_lt (aJ (W.ca c hc)),λ c hc=>Nat.ne_of_lt (aJ (W.cb c hc))⟩
theorem Uy{a b:Nat}(h:a+1<b\/b+1<a):a≠b/\a≠b+1/\a+1≠b/\a+1≠b+1:=
 ⟨λ e=>(e▸h).elim (λ h=>Nat.lt_irrefl _ (Nat.lt_of_succ_lt h)) λ h=>Nat.lt_irrefl _ (Nat.lt_of_succ_lt h),
  λ e=>h.elim (λ h=>Nat.lt_irrefl _ (Nat.lt_of_succ_lt (Nat.lt_of_succ_lt (e▸h)))) λ h=>Nat.lt_irrefl _ (e▸h),
  λ e=>h.elim (λ h=>Nat.lt_irrefl _ (e▸h)) λ h=>Nat.lt_irrefl _ (Nat.lt_of_succ_lt (Nat.lt_of_succ_lt (e▸h))),
  λ e=>(Nat.succ.inj e▸h).elim (λ h=>Nat.lt_irrefl _ (Nat.lt_of_succ_lt h)) λ h=>Nat.lt_irrefl _ (Nat.lt_of_succ_lt h)⟩
theorem LW.one(W:LW kl kq out K snd sy L U){c:Ch}(hc:K c){IV:Ch->List Nat}{IK:Ch->Nat}{l:Nat}{nd:Nd}(hl:l=L c\/l=L c+1)(hs:∀d,d≠c->IV d=snd d)(hr:∀d,d≠c->IK d=sy d)
  (ha:(U.set l nd)[L c]?=some (nL (IV c))) (hb:(U.set l nd)[L c+1]?=some (nP (L c) (IK c))):LW kl kq out K IV IK L (U.set l nd):=by
 have lo:3<=l:=hl.elim (λ e=>e▸W.lo c hc) λ e=>e▸Nat.le_succ_of_le (W.lo c hc);have ne:∀d,K d->d≠c->l≠L d/\l≠L d+1:=λ d hd e=>have q:=Uy (W.dj c d hc hd λ h=>e h.symm);hl.elim (λ z=>z.symm▸⟨q.1,q.2.1⟩) λ z=>z.symm▸q.2.2;refine⟨eO (Jz lo (by decide)) W.z0,eO (Jz lo (by decide)) W.z1,eO (Jz lo (by decide)) W.z2,W.lo,λ d hd=>?_,λ d hd=>?_,W.dj⟩
 ·by_cases e:d=c
  ·exact e▸ha
  ·exact eO (ne d hd e).1 (hs d e▸W.ca d hd)
 ·by_cases e:d=c
  ·exact e▸hb
  ·exact eO (ne d hd e).2 (hr d e▸W.cb d hd)
theorem LW.new(W:LW kl kq out K snd sy L U){c:Ch}(hc:¬K c)(hs:snd c=[])(hr:sy c=0):LW kl kq out (λ d=>K d\/d=c) snd sy (λ d=>if d=c then U.length else L d) (U++[.aI [],nP U.length 0]):=by
 have ne:∀d,K d->(if d=c then U.length else L d)=L d:=λ d hd=>if_neg fun(e:d=c)=>hc (e▸hd);have eq:(if c=c then U.length else L c)=U.length:=if_pos rfl;refine⟨n9 W.z0,n9 W.z1,n9 W.z2,λ d hd=>?_,λ d hd=>?_,λ d hd=>?_,λ d d' hd CD jj=>?_⟩
 ·cases hd with
  |inl hd=>rw[ne d hd];exact W.lo d hd
  |inr e=>rw[e,eq];exact W.rY
 ·cases hd with
  |inl hd=>rw[ne d hd];exact n9 (W.ca d hd)
  |inr e=>subst e;rw[eq,hs];rw[List.getElem?_append_right (Nat.le_refl _),Nat.sub_self];rfl
 ·cases hd with
  |inl hd=>rw[ne d hd];exact n9 (W.cb d hd)
  |inr e=>subst e;rw[eq,hr];rw[List.getElem?_append_right (Nat.le_succ _),Nat.succ_sub (Nat.le_refl _),Nat.sub_self];rfl
 ·cases hd with
  |inl hd=>
   rw[ne d hd];cases CD with
   |inl CD=>rw[ne d' CD];exact W.dj d d' hd CD jj
   |inr e=>rw[e,eq];exact .inl (aJ (W.cb d hd))
  |inr e=>
   cases CD with
   |inl CD=>rw[ne d' CD,e,eq];exact .inr (aJ (W.cb d' CD))
   |inr e'=>exact absurd (e.trans e'.symm) jj
theorem LP.new(P:LP K L N n U)(c:Ch)(r:List Nd):LP (λ d=>K d\/d=c) (λ d=>if d=c then U.length else L d) N n (U++r):=by
 have hN:=aJ P.at';refine⟨n9 P.at',P.lo,λ d hd=>?_,λ d hd=>?_⟩
 ·by_cases e:d=c
  ·rw[if_pos e];exact Nat.ne_of_gt hN
  ·rw[if_neg e];exact P.dj d (hd.resolve_right e)
 ·by_cases e:d=c
  ·rw[if_pos e];exact Nat.ne_of_gt (Nat.lt_succ_of_lt hN)
  ·rw[if_neg e];exact P.Kz d (hd.resolve_right e)
end L1
end Q
end
section
namespace Q
open PySem Classical Mine.Internal.L1
theorem xU{G:Type}{h:List G}{pre post:List (G×Nat)}{y:G×Nat}(e:h.zipIdx=pre++y::post):y.2=(pre.map Prod.fst).length/\h=pre.map Prod.fst++y.1::post.map Prod.fst:=by
 refine⟨by rw[List.length_map];exact(wu e).1,?_⟩;have:h=h.zipIdx.map Prod.fst:=by simp
 rw[this,e];exact List.map_append
theorem Wp.LV{Y:Or}{s:Stmt}{r:List Stmt}{O:ak}{U:ae}{K:Out->ak->ae->Prop}(ns:List Str)(P:ae->Prop)(h1:Wp (x1 Y s O U) λ o aC τ=>o=.nx/\Ov ns O aC/\P τ)(h2:∀f τ,P τ->Wp (xs Y r (over ns f O) τ) K):Wp (xs Y (s::r) O U) K:=by
 refine Wp.cons (h1.mono ?_);rintro o aC τ ⟨rfl,⟨f,rfl⟩,p⟩;exact h2 _ _ p
theorem Wp.UC{Y:Or}{s:Stmt}{r:List Stmt}{O:ak}{U:ae}{K:Out->ak->ae->Prop}(x:Str)(v:V)(h1:x1 Y s O U=some (.nx,upd O x v,U))(h:Wp (xs Y r (upd O x v) U) K):Wp (xs Y (s::r) O U) K:=Wp.nx h1 h
theorem Wp.UD{Y:Or}{s:Stmt}{r:List Stmt}{O:ak}{U:ae}{K:Out->ak->ae->Prop}(σ1:ae)(h1:x1 Y s O U=some (.nx,O,σ1))(h:Wp (xs Y r O σ1) K):Wp (xs Y (s::r) O U) K:=Wp.nx h1 h
theorem kF{U:ae}{l:Nat}{d:PyData}{vs:List V}(h:U[l]?=some (.aI vs))(D:Den 8 U (.o l) d):back U (.o l)=some (.d d):=by
 refine bC λ k9=>?_;obtain⟨τ,hz,_⟩:=hW 8 U U (.o l) d D ⟨Nat.le_refl _,λ l _=>.inl rfl⟩;refine k9 ?_;exact(congrArg (NW l U) h).trans (congrArg (Option.map fun(x:PyData×ae)=>V.d x.1) hz)
theorem Wp.Jh{Y:Or}{t:Expr}{b o:List Stmt}{p:Pos}{O:ak}{U σ1:ae}{c:Bool}{K:Out->ak->ae->Prop}(h:i9 Y t O U (ev Y t O U)=some (c,σ1))(hT:c=true->Wp (xs Y b O σ1) K)(hF:c=false->Wp (xs Y o O σ1) K):Wp (x1 Y (.If t b o p) O U) K:=by
 have e:x1 Y (.If t b o p) O U=if c then xs Y b O σ1 else xs Y o O σ1:=bi h rfl
 rw[e];cases c with
 |true=>exact hT rfl
 |false=>exact hF rfl
theorem dW{i j:Int}:mJ (.tuple [.int i,.int j])=some [i,j]:=rfl
namespace L1
theorem v5(h:List aQ)(c:Ch):(aM h c).length<=h.length:=Nat.le_trans (List.length_filterMap_le _ _) (Nat.le_of_eq List.length_zipIdx)
theorem wi{h g post:List aQ}{e:aQ}(hv:Valid h)(hs:h=g++e::post)(d:Ch)(hd:aM g d=[]):cA g d=0:=by
 refine Classical.byContradiction λ h0=>?_;obtain⟨x,hx⟩:=List.exists_mem_of_length_pos (Nat.pos_of_ne_zero h0);obtain⟨hx,h1⟩:=List.mem_filter.1 hx;obtain⟨a,b,rfl⟩:=List.append_of_mem (of_decide_eq_true h1▸hx);have h1:=hv a d (b++e::post) (hs.trans (List.append_assoc ..));have hd:List.filterMap _ _=[]:=hd;rw[List.zipIdx_append,List.filterMap_append] at hd;exact Nat.not_lt_zero _ (Nat.lt_of_lt_of_eq h1 (congrArg List.length (List.append_eq_nil_iff.1 hd).1))
theorem iv{g:List aQ}{e:aQ}{d:Ch}(h:¬(e.1=d/\e.2≠none)):aM (g++[e]) d=aM g d:=(bV ..).trans ((congrArg (_++·) (if_neg h)).trans (List.append_nil _))
theorem oJ{g:List aQ}{c:Ch}{v:Int}:aM (g++[(c,some v)]) c=aM g c++[g.length]:=(bV ..).trans (congrArg (_++·) (if_pos ⟨rfl,(λ h=>by cases h)⟩))
theorem oF{g:List aQ}{e:aQ}{d:Ch}(h:e≠(d,none)):cA (g++[e]) d=cA g d:=(eC ..).trans (congrArg (_ + ·) (if_neg h))
theorem Bw{g:List aQ}{c:Ch}:cA (g++[(c,none)]) c=cA g c+1:=(eC ..).trans (congrArg (_ + ·) (if_pos rfl))
noncomputable def DE:Fn:=(bM.fn "_links").getD ⟨[],[]⟩
theorem Di:bM.fn "_links"=some DE:=rfl
noncomputable def oL(g:List aQ):List V:=((aR g).map iP).map V.d
noncomputable def sK(g:List aQ)(c:Ch):Prop:=aM g c≠[]
noncomputable def lQ(K:Ch->Prop)(kq:List (List Int×V))(L:Ch->Nat):Prop:=∀d,look (kc d) kq=if K d then some (.o (L d+1)) else none
theorem EX{g:List aQ}{c:Ch}{v:Int}:sK (g++[(c,some v)])=λ d=>sK g d\/d=c:=funext λ d=>propext ⟨λ q=>(em (d=c)).elim .inr λ e=>.inl λ h=>q ((iv λ h=>e h.1.symm).trans h),
 λ q=>(em (d=c)).elim (λ e z=>List.concat_ne_nil _ _ (oJ.symm.trans (e▸z))) λ e z=>q.resolve_right e ((iv λ h=>e h.1.symm).symm.trans z)⟩
theorem ED{g:List aQ}{e:aQ}:oL (g++[e])=oL g++[V.d (iP (aX g e))]:=by
 unfold oL;rw[ij,List.map_append,List.map_append];rfl
noncomputable def nD(l:List Nat):Nd:=.aI ((l.map fun(k:Nat)=>PyData.int k).map .d)
inductive LI(g:List aQ)(U:ae):Prop
 |mk (kl:List (Int×V)) (kq:List (List Int×V)) (L:Ch->Nat) (W:LW kl kq (oL g) (sK g) (aM g) (cA g) L U) (hl:kl.length<=g.length) (hq:kq.length<=g.length)
  (last:∀p:Nat,look (p:Int) kl=(cF g p).map fun(k:Nat)=>V.d (.int k)) (lq:lQ (sK g) kq L)
inductive LM(g:List aQ)(K:Ch->Prop)(s:Ch->List Nat)(r:Ch->Nat)(kl:List (Int×V))(N:Nat)(l:List Nat)(U:ae):Prop
 |mk (kq:List (List Int×V)) (L:Ch->Nat) (W:LW kl kq (oL g) K s r L U) (P:LP K L N (nD l) U) (hq:kq.length<=g.length+1) (lq:lQ K kq L)
theorem xG{U:ae}{a b:Nd}:(U++[a]).set U.length b=U++[b]:=by
 rw[List.set_append_right _ _ (Nat.le_refl _),Nat.sub_self];rfl
theorem O2{a:Nat}(h:a<=1000):a<cW:=Nat.lt_of_le_of_lt h (by decide)
namespace gn
noncomputable section
def P(n:Nat)(h:List aQ):Prop:=∀(hv:Valid h) (aZ:h.length<=1000),(bM.run (n+2)).P "_links" [.d (.list (h.map eH))]=some (some (.d (.list ((aR h).map iP))))
def xe:(Nat)×(List aQ):=@Classical.epsilon _ ⟨(default,default)⟩ λ x=>¬P x.1 x.2
def n:Nat:=xe.1
def h:List aQ:=xe.2
theorem core:P n h:=λ hv aZ=>by
 refine jX Di rfl (Wp.asg (v:=.o 0) (σ1:=[.fF []]) rfl (Wp.asg (v:=.o 1) (σ1:=[.fF [],.jf []]) rfl (Wp.asg (v:=.o 2) (σ1:=[.fF [],.jf [],.aI []]) rfl (Wp.for (gV eH (ys:=h) rfl) ?_))));refine Wp.forL (fun(x:aQ×Nat)=>V.d (.tuple [.int x.2,eH x.1])) (λ pre O U=>Ov ["k","e","own","pred","key","pair","h"] _ O/\LI (pre.map Prod.fst) U) ⟨Ov.refl,[],[],λ _=>0,⟨rfl,rfl,rfl,λ c hc=>absurd rfl hc,λ c hc=>absurd rfl hc,λ c hc=>absurd rfl hc,λ c c' hc=>absurd rfl hc⟩,Nat.le_refl _,Nat.le_refl _,λ p=>rfl,λ c=>(if_neg λ hc=>absurd rfl hc).symm⟩ ?_ ?_
 ·rintro pre ⟨⟨c,x⟩,m⟩ post O U hy ⟨⟨f,rfl⟩,kl,kq,L,W,CF,M7,AF,Js⟩;obtain⟨hm,vz⟩:=xU hy;have Lq:(pre++[((c,x),m)]).map Prod.fst=pre.map Prod.fst++[(c,x)]:=List.map_append;have hle:(pre.map Prod.fst).length<1000:=Nat.lt_of_lt_of_le (Nat.lt_of_lt_of_eq (Nat.lt_add_of_pos_right (Nat.succ_pos _)) (congrArg List.length vz |>.trans List.length_append).symm) aZ;have OQ:x=none->cA (pre.map Prod.fst) c<(aM (pre.map Prod.fst) c).length:=λ q=>hv _ _ _ (q▸vz);have OK:=wi hv vz;rw[Lq];clear Lq hy vz;generalize pre.map Prod.fst=g at *;cases(show m=g.length from hm);have tC:∀{a},a<=g.length->a<cW:=λ q=>O2 (Nat.le_of_lt (Nat.lt_of_le_of_lt q hle));refine Wp.bind rfl (Wp.UC "own" (.d (.int (aA (c,x)))) (by cases x<;>rfl) (Wp.asg (v:=.o U.length) (σ1:=U++[.aI []]) rfl ?_));refine Wp.UD (U++[nD (cF g (aA (c,x))).toList]) ?_ ?_
  ·have z:=(W.app [.aI []]).z0;refine bi (aV rfl (aW rfl rfl rfl z rfl) (LJ z)) ?_;have hl:=AF (aA (c,x));cases e:cF g (aA (c,x)) with
   |none=>rw[e] at hl;rw[hl];rfl
   |some k=>
    rw[e] at hl;rw[hl];have hN:(U++[.aI []])[U.length]?=some (Nd.aI []):=List.getElem?_concat_length;exact bi (bi (dP (l:=U.length) (bD rfl rfl rfl hN) hN (au rfl (aW rfl rfl rfl z rfl) rfl (BR z (x:=.int (k:Nat)) hl)) hN (Nat.le_of_ble_eq_true rfl)) rfl) (congrArg (λ s=>some (Out.nx,_,s)) xG)
  have W1:=W.app [nD (cF g (aA (c,x))).toList];have P1:=LP.mk' W (nD (cF g (aA (c,x))).toList);generalize U++[nD _]=σ1 at W1 P1 ⊢;generalize U.length=N at P1 ⊢;clear W;refine Wp.LV ["key","pair","h"] (LM g (sK (g++[(c,x)])) (aM (g++[(c,x)])) (cA (g++[(c,x)])) kl N (aX g (c,x)).2) ?_ ?_
  ·clear AF;cases x with
   |some v=>
    rw[show(aX g (c,some v)).2=(cF g c.1).toList from List.append_nil _,EX];refine Wp.Jh (c:=true) rfl (λ _=>Wp.asg (v:=.d (.tuple [.int c.1,.int c.2])) rfl ?_) (λ h=>by cases h);refine Wp.AZ (LM g (λ d=>sK g d\/d=c) (aM g) (cA g) kl N (cF g c.1).toList) (Wp.Jh (aV rfl (aW rfl rfl rfl W1.z1 rfl) (Iu (k:=kc c) W1.z1 dW)) (λ q=>?_) λ q=>?_) ?_
    ·have hk:¬sK g c:=λ h=>by rw[Js c,if_pos h] at q;cases q
     have AE:aM g c=[]:=Classical.byContradiction hk;have W3:=W1.new hk AE (OK c AE);have P3:=P1.new c [.aI [],nP σ1.length 0];refine Wp.sE (v:=.o (σ1.length+1)) (σ1:=σ1++[.aI [],nP σ1.length 0]) ?_ (aW rfl rfl rfl W3.z1 rfl) rfl (BF (k:=kc c) W3.z1 dW (tC M7)) (Wp.nil ⟨rfl,rfl,_,_,W3.Py _,P3.set (Gr P3.lo (by decide)) _,Nat.le_trans (jy _ _ _) (Nat.succ_le_succ M7),λ d=>?_⟩)
     ·show some (V.o (σ1++[Nd.aI []]).length,(σ1++[Nd.aI []])++[Nd.aI [V.o σ1.length,V.d (.int 0)]])=_;rw[List.length_append,List.append_assoc];rfl
     ·rw[iZ];by_cases e:d=c
      ·rw[e,if_pos rfl,if_pos (.inr rfl),if_pos rfl]
      ·rw[if_neg λ q=>e (A0.1 q),Js d,if_neg e];by_cases hd:sK g d
       ·rw[if_pos hd,if_pos (.inl hd)]
       ·rw[if_neg hd,if_neg λ q=>q.elim hd e]
    ·have hk:sK g c:=Classical.byContradiction λ h=>by rw[Js c,if_neg h] at q;cases q
     rw[show(λ d=>sK g d\/d=c)=sK g from funext λ d=>propext (or_iff_left_of_imp λ e=>e▸hk)];exact Wp.nil ⟨rfl,rfl,kq,L,W1,P1,Nat.le_succ_of_le M7,Js⟩
    ·rintro y2 ⟨Jy,L',W3,P3,Ox,DV⟩;have ca:=W3.ca c (.inr rfl);have cb:=W3.cb c (.inr rfl);refine Wp.expr (dP (l:=L' c) (au rfl (au rfl (aW rfl rfl rfl W3.z1 rfl) rfl (oP (k:=kc c) W3.z1 dW ((DV c).trans (if_pos (.inr rfl))) cb)) rfl (cu (j:=0) cb rfl ca)) ca (v:=.d (.int g.length)) rfl ca (by rw[List.length_map];exact tC (v5 g c)))
      (Wp.nil ⟨rfl,Ov.upd Ov.refl rfl,Jy,L',W3.one (.inr rfl) (.inl rfl) (λ d e=>iv λ h=>e h.1.symm) (λ d e=>oF λ q=>by cases q) ?_ ?_,P3.set (P3.dj c (.inr rfl)) _,Ox,DV⟩)
     ·rw[oJ];exact(qo ca).trans (congrArg (λ l=>some (Nd.aI l)) (List.map_append (l₂:=[g.length])).symm)
     ·rw[show cA (g++[(c,some v)]) c=_ from oF λ q=>by cases(Prod.mk.inj q).2];exact eO (Nat.ne_of_lt (Nat.lt_succ_self _)) cb
   |none=>
    have Q5:=OQ rfl;have hk:sK g c:=λ q=>Nat.not_lt_zero _ (Nat.lt_of_lt_of_eq Q5 (congrArg List.length q));have ca:=W1.ca c hk;have cb:=W1.cb c hk;have eK:aM (g++[(c,none)])=aM g:=funext λ d=>iv λ h=>h.2 rfl;rw[show sK (g++[(c,none)])=sK g from funext λ d=>congrArg (·≠[]) (congrFun eK d),eK];refine Wp.Jh (c:=false) rfl (λ h=>by cases h) λ _=>Wp.asg (v:=.o (L c+1)) (au rfl (aW rfl rfl rfl W1.z1 rfl) rfl (oP (k:=kc c) W1.z1 dW ((Js c).trans (if_pos hk)) cb)) ?_;refine Wp.asg (v:=.d (.int (cA g c:Nat))) (au rfl (bD rfl rfl rfl cb) rfl (gH (j:=1) cb rfl)) ?_;refine Wp.expr (dP (l:=N) (bD rfl rfl rfl P1.at') P1.at' (au rfl (au rfl (bD rfl rfl rfl cb) rfl (cu (j:=0) cb rfl ca)) rfl (gH (j:=cA g c) (x:=.int ((aM g c).getD (cA g c) 0:Nat)) ca (by simp[Q5]))) P1.at' (by cases cF g (aA (c,none))<;>exact Nat.le_of_ble_eq_true rfl)) ?_;rw[show(Nd.aI (_++[_]))=nD (aX g (c,none)).2 from congrArg Nd.aI (by simp[aX,aA])];have W2:=W1.pT P1 (nD (aX g (c,none)).2);have P2:=P1.pT (nD (aX g (c,none)).2);have cb:=W2.cb c hk;exact Wp.sE (v:=.d (.int (cA g c+1:Nat))) rfl (bD rfl rfl rfl cb) rfl (de (k:=1) cb (Nat.le_of_ble_eq_true rfl)) (Wp.nil ⟨rfl,Ov.upd (Ov.upd Ov.refl rfl) rfl,kq,L,W2.one hk (.inr rfl) (λ _ _=>rfl) (λ d e=>oF λ q=>e (Prod.mk.inj q).1.symm) (eO (Nat.ne_of_gt (Nat.lt_succ_self _)) (W2.ca c hk)) (by rw[Bw];exact qo cb),P2.set (P2.Kz c hk) _,Nat.le_succ_of_le M7,Js⟩)
  ·rintro f2 τ ⟨Jy,L',W4,P4,jk,DV⟩;refine Wp.sE rfl (aW rfl rfl rfl W4.z0 rfl) rfl (BE W4.z0 (tC CF)) ?_;have W5:=W4.Px (put (aA (c,x):Int) (.d (.int g.length)) kl);have P5:=P4.set (l:=0) (Gr P4.lo (by decide)) (.fF (put (aA (c,x):Int) (.d (.int g.length)) kl));have W6:=W5.pT P5 (.cn (bK (aX g (c,x)).2));refine Wp.expr (dP (l:=2) (aW rfl rfl rfl W5.z2 rfl) W5.z2 (bQ (ah rfl (ah (lM rfl rfl rfl P5.at') rfl)) rfl) W6.z2 ?_) (Wp.nil ⟨((((Ov.upd (Ov.upd ⟨f,rfl⟩ rfl) rfl).upd rfl).upd rfl).over rfl),put (aA (c,x):Int) (.d (.int g.length)) kl,Jy,L',?_,?_,?_,?_,DV⟩)
   ·refine Nat.lt_of_le_of_lt (Nat.le_of_eq ?_) (tC (Nat.le_refl _));unfold oL aR;rw[List.length_map,List.length_map,List.length_map,List.length_zipIdx]
   ·rw[ED];exact W6.Pz _
   ·rw[List.length_append];exact Nat.le_trans (jy _ _ _) (Nat.succ_le_succ CF)
   ·rw[List.length_append];exact jk
   ·intro p;rw[iZ,fm,AF];by_cases e:aA (c,x)=p
    ·rw[if_pos e,if_pos (congrArg _ e.symm)];rfl
    ·rw[if_neg e,if_neg λ q=>e (Int.ofNat_inj.1 q).symm]
 ·rintro O U ⟨⟨f,rfl⟩,kl,kq,L,W,_⟩;rw[List.zipIdx_map_fst] at W;exact Wp.ret (aW rfl rfl rfl W.z2 rfl) ⟨_,rfl,kF W.z2 (dG W.z2)⟩
end
end gn
theorem jq(n:Nat)(h:List aQ):gn.P n h:=aU (Q:=λ x:(Nat)×(List aQ)=>gn.P x.1 x.2) gn.core (n,h)
end L1
end Q
end
section
namespace Q
open PySem Classical Mine.Internal.L1
theorem d6(l:List Nat)(j:Nat):(l.map fun(k:Nat)=>(k:Int)).contains (j:Int)=decide (j∈l):=by
 rw[Bool.eq_iff_iff];simp only[List.contains_iff_mem,List.mem_map,decide_eq_true_eq];constructor
 ·rintro⟨a,h1,h2⟩;have:a=j:=by exact Int.ofNat_inj.1 ‹_›
  exact this▸h1
 ·intro h;exact⟨j,h,rfl⟩
theorem Hm{Y:Or}{o a b:Expr}{p q:Pos}{O:ak}{U σ1:ae}{l:Nat}{k:Int}{v:V}{bj:List (Int×V)}{r:V}(h1:ev Y o O U=some (.o l,σ1))(h2:σ1[l]?=some (.fF bj))(h3:ev Y a O σ1=some (.d (.int k),σ1))(h4:ev Y b O σ1=some (v,σ1))(h5:((look k bj).map (dr σ1)).getD v=r):ev Y (.Call (.Attribute o "get" p) [a,b] [] q) O U=some (r,σ1):=by
 subst h5;exact fi h1 (k:=3) (pW h2 rfl) (ah h3 (ah h4 rfl)) (pW h2 rfl) (kI h2 rfl)
theorem z7{Y:Or}{o a:Expr}{p q:Pos}{O:ak}{U σ1:ae}{l:Nat}{k:Int}{xs:List Int}(h1:ev Y o O U=some (.o l,σ1))(h2:σ1[l]?=some (.set xs))(h3:ev Y a O σ1=some (.d (.int k),σ1))(hn:xs.contains k=false)(hl:xs.length<4000):ev Y (.Call (.Attribute o "add" p) [a] [] q) O U=some (.d .none,σ1.set l (.set (xs++[k]))):=by
 exact fi h1 (k:=4) (pW h2 rfl) (ah h3 rfl) (pW h2 rfl) (kI h2 (show(if xs.length<4000 then some (V.d .none,σ1.set l (.set (if xs.contains k then xs else xs++[k]))) else none)=_ from(if_pos hl).trans (by rw[hn];rfl)))
theorem eD{G:Type}{h:List G}{m:Nat}{e:G}(he:h[m]?=some e):h.take (m+1)=h.take m++[e]:=by
 rw[List.take_add_one,he];rfl
theorem kR{G β:Type}{f g:G->Option β}{l:List G}(h:∀x∈l,f x=g x):l.filterMap f=l.filterMap g:=by
 induction l with
 |nil=>rfl
 |cons x r ih=>rw[List.filterMap_cons,List.filterMap_cons,h x (by exact List.mem_cons_self),ih λ y hy=>h y (by exact List.mem_cons_of_mem _ ‹_›)]
namespace L1
noncomputable def bk(g:List aQ)(p:Nat):Nat:=(g.filter λ x=>decide (aA x=p)).length
theorem bW(g:List aQ)(e:aQ)(p:Nat):bk (g++[e]) p=bk g p+if aA e=p then 1 else 0:=by
 unfold bk;rw[List.filter_append,List.length_append];by_cases q:aA e=p<;>simp[q]
noncomputable def isIn(ao:List Nat)(g:List aQ)(e:aQ):Prop:=bk g (aA e)+1<=ao.getD (aA e) 0
noncomputable def splitOf(h:List aQ)(ao:List Nat):List Nat:=h.zipIdx.filterMap λ x=>if isIn ao (h.take x.2) x.1 then some x.2 else none
theorem oO(g:List aQ)(e:aQ)(ao:List Nat):splitOf (g++[e]) ao=splitOf g ao++(if isIn ao g e then [g.length] else []):=by
 unfold splitOf;rw[fU,List.filterMap_append];congr 1
 ·apply kR;intro x hx;have:x.2<g.length:=gI hx;rw[List.take_append_of_le_length (by exact Nat.le_of_lt ‹_›)]
 ·by_cases q:isIn ao g e<;>simp[List.filterMap_cons,q]
theorem i6{h:List aQ}{ao:List Nat}{k:Nat}(hk:k∈splitOf h ao):k<h.length:=by
 unfold splitOf at hk;rw[List.mem_filterMap] at hk;obtain⟨x,h1,h2⟩:=hk;have:=List.mem_zipIdx h1;by_cases q:isIn ao (h.take x.2) x.1
 ·rw[if_pos q] at h2;cases h2;lia
 ·rw[if_neg q] at h2;cases h2
theorem split_le(h:List aQ)(ao:List Nat):(splitOf h ao).length<=h.length:=by
 refine Nat.le_trans (List.length_filterMap_le _ _) ?_;simp
theorem fu(h:List aQ)(m:Nat):(aR h)[m]?=(h[m]?).map λ e=>aX (h.take m) e:=by
 unfold aR;rw[List.getElem?_map,List.getElem?_zipIdx];cases h[m]?<;>(first | rfl | simp)
theorem tP{h:List aQ}{pre post:List ((Nat×List Nat)×Nat)}{y:(Nat×List Nat)×Nat}(e:(aR h).zipIdx=pre++y::post):y.2=pre.length/\∃x,h[pre.length]?=some x/\y.1=aX (h.take pre.length) x:=by
 refine bC λ k9=>?_;obtain⟨h1,h2⟩:=wu e;refine k9 ?_;rw[fu] at h2;refine⟨h1,?_⟩;cases hx:h[pre.length]? with
 |none=>rw[hx] at h2;cases h2
 |some x=>rw[hx] at h2;exact⟨x,rfl,(Option.some.inj h2).symm⟩
theorem c4(h:List aQ):(aR h).length=h.length:=by simp[aR]
noncomputable def Ha(l:List Nat):V:=.fs (l.map fun(k:Nat)=>(k:Int))
noncomputable def DF:Fn:=(bM.fn "_split").getD ⟨[],[]⟩
theorem Dj:bM.fn "_split"=some DF:=rfl
theorem zL{U:ae}{ao:List Nat}{k:Nat}(hk:k<ao.length):dX U (.d (bK ao)) (.d (.int k))=some (.d (.int (ao.getD k 0:Nat))):=by
 show(iC (.list (ao.map fun(n:Nat)=>PyData.int n)) (k:Int)).map V.d=_;rw[item_list (by simpa using hk)];simp[hk]
namespace gv
noncomputable section
def P(n:Nat)(h:List aQ)(ao:List Nat):Prop:=∀(hv:Valid h) (aZ:h.length<=1000) (hc:∀e∈h,aA e<ao.length),(bM.run (n+3)).P "_split" [.d (.list (h.map eH)),.d (bK ao)]=some (some (Ha (splitOf h ao)))
def xe:(Nat)×(List aQ)×(List Nat):=@Classical.epsilon _ ⟨(default,default,default)⟩ λ x=>¬P x.1 x.2.1 x.2.2
def n:Nat:=xe.1
def h:List aQ:=xe.2.1
def ao:List Nat:=xe.2.2
theorem core:P n h ao:=λ hv aZ hc=>by
 refine jX Dj rfl ?_;refine Wp.asg (v:=.o 0) (σ1:=[.fF []]) rfl ?_;refine Wp.asg (v:=.o 1) (σ1:=[.fF [],.set []]) rfl ?_;refine Wp.for (gV iP (ys:=aR h) (fW rfl rfl rfl (jq n h hv aZ))) ?_;refine Wp.forL (fun(x:(Nat×List Nat)×Nat)=>V.d (.tuple [.int x.2,iP x.1])) (λ pre O U=>Ov ["k","own","pred"] _ O/\∃kn,U=[.fF kn,.set ((splitOf (h.take pre.length) ao).map fun(k:Nat)=>(k:Int))]/\kn.length<=pre.length/\∀p:Nat,look (p:Int) kn=if bk (h.take pre.length) p=0 then none else some (.d (.int (bk (h.take pre.length) p:Nat)))) ⟨Ov.refl,[],rfl,Nat.le_refl _,λ p=>rfl⟩ ?_ ?_
 ·rintro pre ⟨y,m⟩ post O U hy ⟨⟨f,rfl⟩,kn,rfl,Vp,Ge⟩;obtain⟨hm,e,he,LH⟩:=tP hy;simp only at hm LH;subst hm;subst LH;have cz:=aJ he;rw[List.length_append,List.length_singleton,eD he];have LC:(h.take pre.length).length=pre.length:=by rw[List.length_take];exact Nat.min_eq_left (Nat.le_of_lt ‹_›)
  refine Wp.bind rfl ?_;have oo:e∈h:=List.mem_of_getElem? he;generalize hg:h.take pre.length=g at *;have yr:((look ((aA e:Nat):Int) kn).map (dr [.fF kn,.set ((splitOf g ao).map fun(k:Nat)=>(k:Int))])).getD (.d (.int 0))=.d (.int (bk g (aA e):Nat)):=by
   rw[Ge];by_cases q:bk g (aA e)=0
   ·rw[if_pos q,q];rfl
   ·rw[if_neg q];rfl
  refine Wp.sE (v:=.d (.int (bk g (aA e)+1:Nat))) (bf (Hm (aW rfl rfl rfl rfl rfl) rfl rfl rfl yr) rfl rfl) (aW rfl rfl rfl rfl rfl) rfl (BE rfl (by simp only[cW];exact Nat.lt_of_le_of_lt ‹_› (Nat.lt_of_lt_of_le ‹_› (Nat.le_trans ‹_› (by decide))))) ?_;have HU:∀p:Nat,look (p:Int) (put ((aA e:Nat):Int) (.d (.int (bk g (aA e)+1:Nat))) kn)=if bk (g++[e]) p=0 then none else some (.d (.int (bk (g++[e]) p:Nat))):=by
   intro p;rw[iZ,bW];by_cases q:p=aA e
   ·subst q;simp
   ·have e1:¬((p:Nat):Int)=(aA e:Nat):=λ r=>q (Int.ofNat_inj.1 r);have e2:¬aA e=p:=λ r=>q r.symm;rw[if_neg e1,if_neg e2,Nat.add_zero,Ge]
  have Gh:look ((aA e:Nat):Int) (put ((aA e:Nat):Int) (.d (.int (bk g (aA e)+1:Nat))) kn)=some (.d (.int (bk g (aA e)+1:Nat))):=by rw[iZ,if_pos rfl]
  have CG:(put ((aA e:Nat):Int) (.d (.int (bk g (aA e)+1:Nat))) kn).length<=pre.length+1:=Nat.le_trans (jy _ _ _) (by exact Nat.lt_succ_of_le ‹_›);show Wp (xs _ _ _ [.fF (put ((aA e:Nat):Int) (.d (.int (bk g (aA e)+1:Nat))) kn),.set ((splitOf g ao).map fun(k:Nat)=>(k:Int))]) _;generalize put ((aA e:Nat):Int) (.d (.int (bk g (aA e)+1:Nat))) kn=Rn at HU Gh CG ⊢;refine Wp.w2 (c:=decide (isIn ao g e)) (aV (au rfl (aW rfl rfl rfl rfl rfl) rfl (BR rfl Gh)) (au rfl rfl rfl (zL (hc e oo))) ?_) ?_ ?_
  ·show some (decide (((bk g (aA e)+1:Nat):Int)<=((ao.getD (aA e) 0:Nat):Int)))=_;congr 1;rw[Bool.eq_iff_iff,decide_eq_true_eq,decide_eq_true_eq,isIn];exact Int.ofNat_le
  ·intro q;have hq:isIn ao g e:=of_decide_eq_true q;have Vr:=split_le g ao;refine Wp.expr (z7 (k:=(pre.length:Nat)) (aW rfl rfl rfl rfl rfl) rfl rfl ?_ (by rw[List.length_map];lia)) (Wp.fin (Wp.nil ⟨by repeat first | exact⟨f,rfl⟩ | refine Ov.upd ?_ rfl,Rn,?_,CG,HU⟩))
   ·rw[d6];apply decide_eq_false;intro r;have:=i6 r;exact absurd ‹_› (Nat.ne_of_gt ‹_›)
   ·rw[oO,if_pos hq,List.map_append,LC];rfl
  ·intro q;have hq:¬isIn ao g e:=of_decide_eq_false q;refine Wp.fin (Wp.nil ⟨by repeat first | exact⟨f,rfl⟩ | refine Ov.upd ?_ rfl,Rn,?_,CG,HU⟩);rw[oO,if_neg hq,List.append_nil]
 ·rintro O U ⟨⟨f,rfl⟩,kn,rfl,_,_⟩;refine Wp.ret (aW rfl rfl rfl rfl rfl) ⟨_,rfl,?_⟩;have:h.take (aR h).zipIdx.length=h:=by rw[List.length_zipIdx,c4,List.take_length]
  rw[this];rfl
end
end gv
theorem ma(n:Nat)(h:List aQ)(ao:List Nat):gv.P n h ao:=aU (Q:=λ x:(Nat)×(List aQ)×(List Nat)=>gv.P x.1 x.2.1 x.2.2) gv.core (n,h,ao)
end L1
end Q
end
section
namespace Q
open PySem Classical Mine.Internal.L1
theorem DI{step:V->ak->ae->Res}{O:ak}{ks:List Int}(b:Int->Bool)(hb:∀k∈ks,Wp (step (.d (.int k)) O []) λ o _ τ=>τ=[]/\o=if b k then .nx else .rt (.d (.bool false))):pM step O ks=some (if ks.all b then none else some false):=by
 induction ks with
 |nil=>rfl
 |cons k r ih=>
  refine bC λ k9=>?_;obtain⟨o,ρ1,τ,e,rfl,ho⟩:=hb k sf;refine k9 ?_;have:=ih λ k' DT=>hb k' (sg DT);cases hk:b k with
  |true=>
   rw[hk] at ho;subst ho;rw[List.all_cons,hk,Bool.true_and];exact bi e (bi this rfl)
  |false=>
   rw[hk] at ho;subst ho;rw[List.all_cons,hk,Bool.false_and];refine bi e (bi this ?_);cases r.all b<;>rfl
theorem Wp.N2{Y:Or}{t it:Expr}{b:List Stmt}{p:Pos}{r:List Stmt}{O:ak}{ks:List Int}{K:Out->ak->ae->Prop}(h:src Y it O []=some (.tm ks,[]))(hs:lp b=true)(c:Int->Bool)
  (hb:∀k∈ks,Wp ((ba t (.d (.int k)) (forget (ay t++bp b) O)).bind λ O=>xs Y b O []) λ o _ τ=>τ=[]/\o=if c k then .nx else .rt (.d (.bool false)))
  (h1:ks.all c=true->Wp (xs Y r (forget (ay t++bp b) O) []) K) (h2:ks.all c=false->K (.rt (.d (.bool false))) (forget (ay t++bp b) O) []):Wp (xs Y (.For t it b [] p::r) O []) K:=by
 apply Wp.cons;have e:x1 Y (.For t it b [] p) O []=(pM (λ x O U=>(ba t x O).bind λ O=>xs Y b O U) (forget (ay t++bp b) O) ks).bind λ q=>match q with
   |none=>some (.nx,forget (ay t++bp b) O,[])
   |some v=>some (.rt (.d (.bool v)),forget (ay t++bp b) O,[]):=by
  refine bi h ?_;show(match([]:ae),lp b with | [],true=>_ | _,_=>none)=_;rw[hs];rfl
 rw[e,DI c hb];cases hc:ks.all c with
 |true=>exact⟨.nx,_,_,rfl,h1 hc⟩
 |false=>exact⟨_,_,_,rfl,h2 hc⟩
theorem Iv{U:ae}{l:List Nat}{j:Nat}:dB U .NotIn (.d (.int j)) (L1.Ha l)=some (!decide (j∈l)):=by
 show(some ((l.map fun(k:Nat)=>(k:Int)).contains (j:Int))).map (!·)=_;rw[d6];rfl
theorem Gl{U:ae}{l:List Nat}{j:Nat}:dB U .In (.d (.int j)) (L1.Ha l)=some (decide (j∈l)):=by
 show some ((l.map fun(k:Nat)=>(k:Int)).contains (j:Int))=_;rw[d6]
namespace L1
noncomputable def eR(h:List aQ)(k:Nat):List Nat:=match(aR h)[k]? with
 |some x=>x.2
 |none=>[]
noncomputable def Cons(h:List aQ)(ao:List Nat):Prop:=∀k∈splitOf h ao,∀j∈eR h k,j∈splitOf h ao
theorem Ea{h:List aQ}{k:Nat}(hk:k<h.length)(U:ae):∃x,(aR h)[k]?=some x/\dX U (.d (.list ((aR h).map iP))) (.d (.int (k:Nat)))=some (.d (iP x))/\x.2=eR h k:=by
 have DT:k<(aR h).length:=by rw[c4];exact hk
 refine⟨(aR h)[k],List.getElem?_eq_getElem DT,?_,?_⟩
 ·show(iC (.list ((aR h).map iP)) (k:Int)).map V.d=_;rw[item_list (by simpa using DT)];simp
 ·simp[eR,DT]
noncomputable def Hr:Fn:=(bM.fn "consistent").getD ⟨[],[]⟩
theorem Hb:bM.fn "consistent"=some Hr:=rfl
namespace g0
noncomputable section
def P(n:Nat)(sz:Int)(h:List aQ)(ao:List Nat):Prop:=∀(hv:Valid h) (aZ:h.length<=1000) (hc:∀e∈h,aA e<ao.length),(bM.run (n+4)).P "consistent" [.d (.int sz),.d (.list (h.map eH)),.d (bK ao)]=some (some (.d (.bool (decide (Cons h ao)))))
def xe:(Nat)×(Int)×(List aQ)×(List Nat):=@Classical.epsilon _ ⟨(default,default,default,default)⟩ λ x=>¬P x.1 x.2.1 x.2.2.1 x.2.2.2
def n:Nat:=xe.1
def sz:Int:=xe.2.1
def h:List aQ:=xe.2.2.1
def ao:List Nat:=xe.2.2.2
theorem core:P n sz h ao:=λ hv aZ hc=>by
 refine jX Hb rfl ?_;refine Wp.asg (fW rfl rfl rfl (ma n h ao hv aZ hc)) ?_;refine Wp.asg (fW rfl rfl rfl (jq (n+1) h hv aZ)) ?_;refine Wp.N2 (ks:=(splitOf h ao).map fun(k:Nat)=>(k:Int)) rfl rfl (λ k=>decide (∀j∈eR h k.toNat,j∈splitOf h ao)) ?_ ?_ ?_
 ·intro k' DT;refine bC λ k9=>?_;obtain⟨k,hk,rfl⟩:=List.mem_map.1 DT;obtain⟨x,Vs,Uj,Q9⟩:=Ea (i6 hk) [];refine k9 ?_;rw[Int.toNat_natCast];refine Wp.bind rfl ?_;refine Wp.for (ys:=(x.2.map fun(n:Nat)=>PyData.int n).map V.d) (σ1:=[]) ?_ ?_
  ·show srcOf (ev _ _ _ _)=_;rw[au rfl (au rfl rfl rfl Uj) rfl (r:=.d (bK x.2)) rfl];rfl
  refine Wp.lS (fun(n:Nat)=>PyData.int n) (λ pre O U=>Ov ["j"] _ O/\U=[]/\∀j∈pre,j∈splitOf h ao) ⟨Ov.refl,rfl,by simp⟩ ?_ ?_
  ·rintro pre j post O U hy ⟨⟨f,rfl⟩,rfl,hp⟩;refine Wp.bind rfl ?_;refine Wp.w2 (c:=!decide (j∈splitOf h ao)) (aV rfl rfl Iv) ?_ ?_
   ·intro q;have hj:j∉splitOf h ao:=by simpa using q
    refine Wp.ret rfl ⟨rfl,?_⟩;rw[if_neg];simp only[decide_eq_true_eq];intro h';exact hj (h' j (by rw[<-Q9,hy];simp))
   ·intro q;have hj:j∈splitOf h ao:=by simpa using q
    refine Wp.fin (Wp.nil ⟨Ov.upd ⟨f,rfl⟩ rfl,rfl,?_⟩);intro j' Ll;rcases List.mem_append.1 Ll with r | r
    ·exact hp j' r
    ·obtain rfl:j'=j:=by simpa using r
     exact hj
  ·rintro O U ⟨⟨f,rfl⟩,rfl,hp⟩;refine Wp.nil ⟨rfl,?_⟩;rw[if_pos];simp only[decide_eq_true_eq];rw[<-Q9];exact hp
 ·intro q;refine Wp.ret rfl ⟨_,rfl,?_⟩;have:Cons h ao:=by
   intro k hk j hj;have:=List.all_eq_true.1 q (k:Int) (List.mem_map.2 ⟨k,hk,rfl⟩);simp only[decide_eq_true_eq,Int.toNat_natCast] at this;exact this j hj
  simp[this];rfl
 ·intro q;refine⟨_,rfl,?_⟩;have:¬Cons h ao:=by
   intro hC;rw[List.all_eq_false] at q;obtain⟨k',DT,hn⟩:=q;obtain⟨k,hk,rfl⟩:=List.mem_map.1 DT;apply hn;simp only[decide_eq_true_eq,Int.toNat_natCast];exact hC k hk
  simp[this];rfl
end
end g0
theorem nT(n:Nat)(sz:Int)(h:List aQ)(ao:List Nat):g0.P n sz h ao:=aU (Q:=λ x:(Nat)×(Int)×(List aQ)×(List Nat)=>g0.P x.1 x.2.1 x.2.2.1 x.2.2.2) g0.core (n,sz,h,ao)
end L1
end Q
end
section
namespace Q
open PySem Classical Mine.Internal.L1
theorem NJ{n:Nat}{f:Str}{g:Fn}{vs:List V}{O:ak}(h:L1.bM.fn f=some g)(hb:binds g.params vs=some O)(hx:Wp (xs (L1.bM.run n) g.body O []) λ o _ _=>o=.ex):(L1.bM.run (n+1)).P f vs=some none:=by
 refine bC λ k9=>?_;obtain⟨o,aC,U,hx,rfl⟩:=hx;refine k9 ?_;exact bi h (bi hb (bi hx rfl))
namespace L1
noncomputable def gO(h:List aQ)(ao:List Nat)(c:Ch):List Int:=h.zipIdx.filterMap λ x=>if x.1.1=c/\isIn ao (h.take x.2) x.1 then x.1.2 else none
noncomputable def ic(h:List aQ)(ao:List Nat)(c:Ch):Nat:=(h.zipIdx.filter λ x=>decide (x.1=(c,none)/\isIn ao (h.take x.2) x.1)).length
theorem dp(g:List aQ)(e:aQ)(ao:List Nat)(c:Ch):gO (g++[e]) ao c=gO g ao c++(if e.1=c/\isIn ao g e then e.2.toList else []):=by
 unfold gO;rw[fU,List.filterMap_append];congr 1
 ·apply kR;intro x hx;have:x.2<g.length:=gI hx;rw[List.take_append_of_le_length (by exact Nat.le_of_lt ‹_›)]
 ·by_cases q:e.1=c/\isIn ao g e
  ·rw[if_pos q];have q':e.1=c/\isIn ao ((g++[e]).take g.length) e:=by simpa using q
   simp only[List.filterMap_cons,List.filterMap_nil,if_pos q'];cases e.2<;>rfl
  ·rw[if_neg q];have q':¬(e.1=c/\isIn ao ((g++[e]).take g.length) e):=by simpa using q
   simp only[List.filterMap_cons,List.filterMap_nil,if_neg q']
theorem pL{G:Type}{f g:G->Bool}{l:List G}(h:∀x∈l,f x=g x):l.filter f=l.filter g:=by
 induction l with
 |nil=>rfl
 |cons x r ih=>rw[List.filter_cons,List.filter_cons,h x (by exact List.mem_cons_self),ih λ y hy=>h y (by exact List.mem_cons_of_mem _ ‹_›)]
theorem dm(g:List aQ)(e:aQ)(ao:List Nat)(c:Ch):ic (g++[e]) ao c=ic g ao c+(if e=(c,none)/\isIn ao g e then 1 else 0):=by
 unfold ic;rw[fU,List.filter_append,List.length_append];congr 1
 ·congr 1;apply pL;intro x hx;have:x.2<g.length:=gI hx;rw[List.take_append_of_le_length (by exact Nat.le_of_lt ‹_›)]
 ·by_cases q:e=(c,none)/\isIn ao g e
  ·have q':e=(c,none)/\isIn ao ((g++[e]).take g.length) e:=by simpa using q
   simp only[List.filter_cons,List.filter_nil,decide_eq_true q',if_pos q,if_true];rfl
  ·have q':¬(e=(c,none)/\isIn ao ((g++[e]).take g.length) e):=by simpa using q
   simp only[List.filter_cons,List.filter_nil,decide_eq_false q',if_neg q];rfl
noncomputable def fq(g:List aQ)(ao:List Nat)(c:Ch):List Int:=(gO g ao c).drop (ic g ao c)
theorem cK(h g post:List aQ)(e:aQ)(ao:List Nat)(hs:h=g++e::post):g.length∈splitOf h ao↔isIn ao g e:=by
 subst hs;unfold splitOf;rw[List.mem_filterMap];constructor
 ·rintro⟨x,h1,h2⟩;have hx:=List.mem_zipIdx h1;by_cases q:isIn ao ((g++e::post).take x.2) x.1
  ·rw[if_pos q] at h2;have e2:=Option.some.inj h2;have e1:x.1=e:=by
    have:=hx.2.2;simp[e2] at this;exact this
   rw[e2,e1] at q;simpa using q
  ·rw[if_neg q] at h2;cases h2
 ·intro q;refine⟨(e,g.length),?_,?_⟩
  ·rw[List.zipIdx_append];simp
  ·rw[if_pos (by simpa using q)]
noncomputable def NZ:Fn:=(bM.fn "under_way").getD ⟨[],[]⟩
theorem KH:bM.fn "under_way"=some NZ:=rfl
theorem yR(n sz:Nat)(ps:List Ch)(h:List aQ)(ao:List Nat)(hv:Valid h)(aZ:h.length<=1000)(hc:∀e∈h,aA e<ao.length)(hn:¬Cons h ao) :
  (bM.run (n+5)).P "under_way" [.d (eA sz ps),.d (.list (h.map eH)),.d (bK ao)]=some none:=by
 refine NJ KH rfl ?_;refine Wp.sN (en (b:=false) (σ1:=[]) ?_) ⟨.ex,_,_,rfl,rfl⟩;rw[fW rfl rfl rfl (nT n sz h ao hv aZ hc)];simp only[hn,decide_false];rfl
theorem snoc_ind{G:Type}{P:List G->Prop}(h0:P [])(h1:∀g e,P g->P (g++[e]))(l:List G):P l:=by
 rw[<-List.reverse_reverse l]
 induction l.reverse with
 |nil=>exact h0
 |cons x r ih=>rw[List.reverse_cons];exact h1 _ _ ih
noncomputable def uN(l:List Int):Nd:=.aI (l.map λ i=>V.d (.int i))
noncomputable def uS(kq:List (List Int×V))(ps:List Ch)(ao:List Nat)(g:List aQ):ae:=.jf kq::ps.map λ c=>uN (fq g ao c)
noncomputable def uK(ps:List Ch)(kq:List (List Int×V)):Prop:=∀(j:Nat) c,ps[j]?=some c->look (kc c) kq=some (.o (j+1))
section
variable{kq:List (List Int×V)}{ps:List Ch}{ao:List Nat}{g:List aQ}{c:Ch}{j:Nat}{e:aQ}
theorem xQ(hj:ps[j]?=some c):(uS kq ps ao g)[j+1]?=some (uN (fq g ao c)):=(List.getElem?_map ..).trans (congrArg (Option.map _) hj)
theorem B4(cE:ps.Nodup)(hj:ps[j]?=some c)(jj:∀d,d≠c->fq (g++[e]) ao d=fq g ao d):(uS kq ps ao g).set (j+1) (uN (fq (g++[e]) ao c))=uS kq ps ao (g++[e]):=by
 refine congrArg (Nd.jf kq::·) (List.ext_getElem? λ i=>?_);rw[List.getElem?_map];by_cases q:j=i
 ·rw[<-q,List.getElem?_set_self (Nat.lt_of_lt_of_eq (aJ hj) (List.length_map _).symm),hj];rfl
 ·rw[List.getElem?_set_ne q,List.getElem?_map];cases hd:ps[i]? with
  |none=>rfl
  |some d=>exact congrArg (λ l=>some (uN l)) (jj d λ r=>q ((List.getElem?_inj (aJ hj) cE).1 (hj.trans (r▸hd.symm)))).symm
theorem Fp(h:uK ps kq)(hc:c∉ps):uK (ps++[c]) (put (kc c) (.o (ps.length+1)) kq):=λ j d hj=>by
 rw[iZ];by_cases e:j<ps.length
 ·rw[List.getElem?_append_left e] at hj;rw[if_neg fun(q:kc d=kc c)=>hc (A0.1 q▸List.mem_of_getElem? hj)];exact h j d hj
 ·rw[List.getElem?_append_right (Nat.not_lt.1 e)] at hj;have e1:=aJ hj;have e2:j=ps.length:=Nat.le_antisymm (Nat.sub_eq_zero_iff_le.1 (Nat.lt_one_iff.1 e1)) (Nat.not_lt.1 e);rw[e2,Nat.sub_self] at hj;rw[if_pos (congrArg kc (Option.some.inj hj).symm),e2]
theorem Jc(h:uK ps kq):ps.filterMap (λ c=>look (kc c) kq)=(List.range ps.length).map λ j=>V.o (j+1):=by
 induction ps using snoc_ind with
 |h0=>rfl
 |h1 p c ih=>
  rw[List.filterMap_append,ih λ j d hj=>h j d ((List.getElem?_append_left (aJ hj)).trans hj),List.length_append,show [c].length=1 from rfl,List.range_succ,List.map_append,show [c].filterMap (λ c=>look (kc c) kq)=[V.o (p.length+1)] from List.filterMap_cons_some (h p.length c List.getElem?_concat_length)];rfl
theorem B3(h:uK ps kq)(hc:c∈ps):∃j:Nat,ps[j]?=some c/\look (kc c) kq=some (.o (j+1)):=(List.mem_iff_getElem?.1 hc).elim λ j hj=>⟨j,hj,h j c hj⟩
theorem GB{x:Option Int}{d:Ch}(hd:d≠c):fq (g++[(c,x)]) ao d=fq g ao d:=by
 unfold fq;rw[dp,dm,if_neg fun(r:(c,x)=(d,none)/\_)=>hd (Prod.mk.inj r.1).1.symm,if_neg fun(r:c=d/\_)=>hd r.1.symm,List.append_nil];rfl
theorem Je(h:¬isIn ao g e)(d:Ch):fq (g++[e]) ao d=fq g ao d:=by
 unfold fq;rw[dp,dm,if_neg λ r=>h r.2,if_neg λ r=>h r.2,List.append_nil];rfl
theorem Fs{v:Int}(hq:isIn ao g (c,some v))(hw:ic g ao c<=(gO g ao c).length):fq (g++[(c,some v)]) ao c=fq g ao c++[v]:=by
 unfold fq;rw[dp,dm,if_neg fun(r:(c,some v)=(c,none)/\_)=>(by cases(Prod.mk.inj r.1).2),if_pos (show(c,some v).1=c/\_ from⟨rfl,hq⟩)];exact List.drop_append_of_le_length hw
theorem Fq(hq:isIn ao g (c,none))(hw:ic (g++[(c,none)]) ao c<=(gO (g++[(c,none)]) ao c).length):∃v,fq g ao c=v::fq (g++[(c,none)]) ao c:=by
 have e:gO (g++[(c,none)]) ao c=gO g ao c:=by rw[dp,if_pos ⟨rfl,hq⟩];exact List.append_nil _
 have e2:ic (g++[(c,none)]) ao c=ic g ao c+1:=by rw[dm,if_pos ⟨rfl,hq⟩]
 unfold fq;rw[e,e2] at hw ⊢;exact⟨_,List.drop_eq_getElem_cons hw⟩
theorem MJ:(fq g ao c).length<=g.length:=Nat.le_trans (List.drop_sublist _ _).length_le (Nat.le_trans (List.length_filterMap_le _ _) (Nat.le_of_eq List.length_zipIdx))
theorem Jd{h:List aQ}:Den 8 (uS kq ps ao h++[.aI ((List.range ps.length).map λ j=>.o (j+1))]) (.o (ps.length+1)) (.list ((ps.map (fq h ao)).map bw)):=by
 have hN:(uS kq ps ao h++[.aI ((List.range ps.length).map λ j=>.o (j+1))])[ps.length+1]?=some (.aI ((List.range ps.length).map λ j=>.o (j+1))):=
  (List.getElem?_append_right (Nat.le_of_eq (congrArg (· + 1) (List.length_map _)))).trans (by rw[uS,List.length_cons,List.length_map,Nat.sub_self];rfl)
 refine kM hN (by rw[List.length_map,List.length_map,List.length_map,List.length_range]) λ i v e h1 h2=>?_;rw[List.map_map,List.getElem?_map] at h2;obtain⟨d,hd,rfl⟩:=Option.map_eq_some_iff.1 h2;rw[List.getElem?_map,List.getElem?_range (aJ hd)] at h1;cases h1;exact dG (ds:=(fq h ao d).map .int) ((List.getElem?_append_left (aJ (xQ hd))).trans ((xQ hd).trans (congrArg (λ l=>some (Nd.aI l)) (List.map_map ..).symm)))
end
namespace lx
noncomputable section
def P(n:Nat)(sz:Nat)(ps:List Ch)(h:List aQ)(ao:List Nat):Prop:=∀(hv:Valid h) (aZ:h.length<=1000) (Gg:ps.length<=1000) (cE:ps.Nodup) (hc:∀e∈h,aA e<ao.length) (pB:∀e∈h,e.1∈ps) (hn:Cons h ao) (hw:∀g post c,h=g++post->ic g ao c<=(gO g ao c).length),(bM.run (n+5)).P "under_way" [.d (eA sz ps),.d (.list (h.map eH)),.d (bK ao)]=some (some (.d (.list ((ps.map (fq h ao)).map bw))))
def xe:(Nat)×(Nat)×(List Ch)×(List aQ)×(List Nat):=@Classical.epsilon _ ⟨(default,default,default,default,default)⟩ λ x=>¬P x.1 x.2.1 x.2.2.1 x.2.2.2.1 x.2.2.2.2
def n:Nat:=xe.1
def sz:Nat:=xe.2.1
def ps:List Ch:=xe.2.2.1
def h:List aQ:=xe.2.2.2.1
def ao:List Nat:=xe.2.2.2.2
theorem core:P n sz ps h ao:=λ hv aZ Gg cE hc pB hn hw=>by
 refine jX KH rfl (Wp.fX (en (b:=true) (σ1:=[]) ?_) ((Wp.asg (fW rfl rfl rfl (ma (n+1) h ao hv aZ hc)) (Wp.asg (v:=.o 0) (σ1:=[.jf []]) rfl (Wp.for (ys:=(ps.map aD).map V.d) rfl ?_)))))
 ·rw[fW rfl rfl rfl (nT n sz h ao hv aZ hc),decide_eq_true hn];rfl
 refine Wp.lS aD (λ pre O U=>Ov ["c"] _ O/\∃kq,U=.jf kq::pre.map (λ _=>uN [])/\kq.length<=pre.length/\uK pre kq) ⟨Ov.refl,[],rfl,Nat.le_refl _,λ j c hj=>by cases hj⟩ ?_ ?_
 ·rintro pre c post O U hy ⟨⟨f,rfl⟩,kq,rfl,hk,hl⟩;have Ti:c∉pre:=λ q=>(List.nodup_append.1 (hy▸cE)).2.2 c q c List.mem_cons_self rfl;refine Wp.bind rfl (Wp.sE (v:=.o (pre.length+1)) (σ1:=(.jf kq::pre.map (λ _=>uN []))++[.aI []]) ?_ (aW rfl rfl rfl rfl rfl) rfl (BF (k:=kc c) rfl dW (Nat.lt_of_le_of_lt hk (nk hy Gg (by decide)))) (Wp.nil ⟨Ov.upd ⟨f,rfl⟩ rfl,put (kc c) (.o (pre.length+1)) kq,?_,?_,Fp hl Ti⟩))
  ·exact congrArg (λ k=>some (V.o (k+1),_)) (List.length_map _)
  ·rw[List.map_append];rfl
  ·rw[List.length_append];exact Nat.le_trans (jy _ _ _) (Nat.succ_le_succ hk)
 rintro O U ⟨⟨f,rfl⟩,kq,rfl,hk,hl⟩;refine Wp.for (gV eH (ys:=h) rfl) (Wp.forL (fun(x:aQ×Nat)=>V.d (.tuple [.int x.2,eH x.1])) (λ pre O U=>Ov ["k","e"] _ O/\U=uS kq ps ao (pre.map Prod.fst)) ⟨Ov.refl,rfl⟩ ?_ ?_)
 ·rintro pre ⟨⟨c,x⟩,m⟩ post O U hy ⟨⟨f',rfl⟩,rfl⟩;obtain⟨hm,vz⟩:=xU hy;obtain⟨j,hj,Gb⟩:=B3 hl (pB (c,x) (vz▸List.mem_append_right _ List.mem_cons_self));have HR:=cK h _ _ _ ao vz;have Ug:=hw (pre.map Prod.fst) ((c,x)::post.map Prod.fst) c vz;have Uh:=hw (pre.map Prod.fst++[(c,x)]) (post.map Prod.fst) c (vz.trans (List.append_cons ..));have hle:=nk vz aZ (by decide);rw[show(pre++[((c,x),m)]).map Prod.fst=pre.map Prod.fst++[(c,x)] from List.map_append];generalize pre.map Prod.fst=g at *;cases(show m=g.length from hm);have qr:=xQ (kq:=kq) (ao:=ao) (g:=g) hj;refine Wp.bind rfl (Wp.w2 (c:=decide (g.length∈splitOf h ao)) (aV rfl rfl Gl) (λ q=>?_) λ q=>?_)
  ·cases x with
   |some v=>
    refine Wp.sN rfl (Wp.expr (dP (l:=j+1) (au rfl (aW rfl rfl rfl rfl rfl) rfl (oP (k:=kc c) rfl dW Gb qr)) qr (v:=.d (.int v)) rfl qr (Nat.lt_of_le_of_lt (Nat.le_trans (Nat.le_of_eq (List.length_map _)) MJ) hle)) (Wp.fin (Wp.fin (Wp.nil ⟨Ov.upd (Ov.upd ⟨f',rfl⟩ rfl) rfl,?_⟩))));rw[<-B4 cE hj λ d hd=>GB hd,Fs (HR.1 (of_decide_eq_true q)) Ug,uN,List.map_append];rfl
   |none=>
    obtain⟨v,hu⟩:=Fq (HR.1 (of_decide_eq_true q)) Uh;rw[hu] at qr;exact Wp.Jw rfl (Wp.expr (vh (l:=j+1) (au rfl (aW rfl rfl rfl rfl rfl) rfl (oP (k:=kc c) rfl dW Gb qr)) qr rfl) (Wp.fin (Wp.fin (Wp.nil ⟨Ov.upd (Ov.upd ⟨f',rfl⟩ rfl) rfl,B4 cE hj λ d hd=>GB hd⟩))))
  ·refine Wp.fin (Wp.nil ⟨Ov.upd (Ov.upd ⟨f',rfl⟩ rfl) rfl,?_⟩);exact congrArg (λ u=>Nd.jf kq::ps.map λ c=>uN (u c)) (funext λ d=>(Je (λ r=>of_decide_eq_false q (HR.2 r)) d).symm)
 ·rintro O U ⟨⟨f',rfl⟩,rfl⟩;rw[List.zipIdx_map_fst];refine Wp.ret (v:=.o (ps.length+1)) (σ1:=uS kq ps ao h++[.aI ((List.range ps.length).map λ j=>.o (j+1))]) (fh (xs:=ps.map λ c=>V.d (aD c)) (σ1:=uS kq ps ao h) ?_ (lI (λ c=>V.d (aD c)) (λ c=>look (kc c) kq) λ c uH=>?_) ?_) ⟨_,rfl,kF (vs:=(List.range ps.length).map λ j=>.o (j+1)) ?_ Jd⟩
  ·exact congrArg (λ l=>some (l,uS kq ps ao h)) (List.map_map ..)
  ·refine(B3 hl uH).elim λ j q=>⟨_,true,rfl,rfl,.o (j+1),q.2,au rfl (aW rfl rfl rfl rfl rfl) rfl (oP (k:=kc c) rfl dW q.2 (xQ q.1))⟩
  ·rw[Jc hl];exact congrArg (λ k=>some (V.o (k+1),_)) (List.length_map _)
  ·exact(List.getElem?_append_right (Nat.le_of_eq (congrArg (· + 1) (List.length_map _)))).trans (by rw[uS,List.length_cons,List.length_map,Nat.sub_self];rfl)
end
end lx
theorem Jf(n:Nat)(sz:Nat)(ps:List Ch)(h:List aQ)(ao:List Nat):lx.P n sz ps h ao:=aU (Q:=λ x:(Nat)×(Nat)×(List Ch)×(List aQ)×(List Nat)=>lx.P x.1 x.2.1 x.2.2.1 x.2.2.2.1 x.2.2.2.2) lx.core (n,sz,ps,h,ao)
end L1
end Q
end
section
namespace Q
open PySem Classical Mine.Internal.L1
theorem Ez{U:ae}{l:Nat}{xs:List Nat}{j:Nat}(h:U[l]?=some (.set (xs.map fun(k:Nat)=>(k:Int)))):dB U .NotIn (.d (.int j)) (.o l)=some (!decide (j∈xs)):=by
 show(match U[l]? with | some (.fF bj)=>_ | some (.jf bj)=>_ | some (.set xs)=>some (xs.contains (j:Int)) | _=>none).map (!·)=_;rw[h];show(some ((xs.map fun(k:Nat)=>(k:Int)).contains (j:Int))).map (!·)=_;rw[d6];rfl
namespace L1
noncomputable def bH(h:List aQ)(ao:List Nat):Nat->List Nat
 |0=>[]
 |m+1=>(h[m]?).elim (bH h ao m) λ e=>if isIn ao (h.take m) e/\∀j∈(aX (h.take m) e).2,j∈bH h ao m then bH h ao m++[m] else bH h ao m
noncomputable def cQ(h:List aQ)(ao:List Nat)(m p:Nat):Nat:=((bH h ao m).filter λ k=>decide ((h[k]?).map aA=some p)).length
theorem good_none{h:List aQ}{ao:List Nat}{m:Nat}(he:h[m]?=none):bH h ao (m+1)=bH h ao m:=by
 show(h[m]?).elim _ _=_;rw[he];rfl
theorem dU{h:List aQ}{ao:List Nat}{m:Nat}{e:aQ}(he:h[m]?=some e):bH h ao (m+1)=if isIn ao (h.take m) e/\∀j∈(aX (h.take m) e).2,j∈bH h ao m then bH h ao m++[m] else bH h ao m:=by
 show(h[m]?).elim _ _=_;rw[he];rfl
theorem wW{h:List aQ}{ao:List Nat}{m k:Nat}(hk:k∈bH h ao (m+1)):k∈bH h ao m\/k=m:=by
 cases he:h[m]? with
 |none=>exact .inl (good_none he▸hk)
 |some e=>
  rw[dU he] at hk;by_cases q:isIn ao (h.take m) e/\∀j∈(aX (h.take m) e).2,j∈bH h ao m
  ·rw[if_pos q] at hk;exact(List.mem_append.1 hk).imp id List.mem_singleton.1
  ·rw[if_neg q] at hk;exact .inl hk
theorem mY{h:List aQ}{ao:List Nat}{m k:Nat}(hk:k∈bH h ao m):k<m:=by
 induction m with
 |zero=>cases hk
 |succ m ih=>exact(wW hk).elim (λ q=>Nat.lt_succ_of_lt (ih q)) λ q=>q▸Nat.lt_succ_self _
theorem Au(h:List aQ)(ao:List Nat)(m:Nat):(bH h ao m).length<=m:=by
 induction m with
 |zero=>exact Nat.le_refl _
 |succ m ih=>
  cases he:h[m]? with
  |none=>rw[good_none he];exact Nat.le_succ_of_le ih
  |some e=>
   rw[dU he];by_cases q:isIn ao (h.take m) e/\∀j∈(aX (h.take m) e).2,j∈bH h ao m
   ·rw[if_pos q,List.length_append];exact Nat.succ_le_succ ih
   ·rw[if_neg q];exact Nat.le_succ_of_le ih
noncomputable def DD:Fn:=(bM.fn "greatest").getD ⟨[],[]⟩
theorem Dh:bM.fn "greatest"=some DD:=rfl
namespace gi
noncomputable section
def P(n:Nat)(sz:Nat)(h:List aQ)(ao:List Nat):Prop:=∀(hv:Valid h) (aZ:h.length<=1000) (hsz:sz<=1000) (hc:∀e∈h,aA e<ao.length) (ho:∀e∈h,aA e<sz),(bM.run (n+4)).P "greatest" [.d (.int sz),.d (.list (h.map eH)),.d (bK ao)]=some (some (.d (bK ((List.range sz).map (cQ h ao h.length)))))
def xe:(Nat)×(Nat)×(List aQ)×(List Nat):=@Classical.epsilon _ ⟨(default,default,default,default)⟩ λ x=>¬P x.1 x.2.1 x.2.2.1 x.2.2.2
def n:Nat:=xe.1
def sz:Nat:=xe.2.1
def h:List aQ:=xe.2.2.1
def ao:List Nat:=xe.2.2.2
theorem core:P n sz h ao:=λ hv aZ hsz hc ho=>by
 refine jX Dh rfl ?_;refine Wp.asg (fW rfl rfl rfl (ma n h ao hv aZ hc)) ?_;refine Wp.asg (fW rfl rfl rfl (jq (n+1) h hv aZ)) ?_;refine Wp.asg (v:=.o 0) (σ1:=[.aI ((List.range sz).map λ p=>V.d (.int (cQ h ao 0 p:Nat)))]) (bf rfl rfl ((nf (by exact Nat.le_trans ‹_› (by decide))).trans ?_)) ?_
 ·refine congrArg (λ l=>some (V.o 0,[Nd.aI l])) ?_;rw[List.map_replicate,show(λ p=>V.d (.int (cQ h ao 0 p:Nat)))=λ _=>V.d (.int 0) from rfl,List.map_const',List.length_range]
 refine Wp.asg (v:=.o 1) (σ1:=[.aI ((List.range sz).map λ p=>V.d (.int (cQ h ao 0 p:Nat))),.set []]) rfl ?_;refine Wp.for (gV iP (ys:=aR h) rfl) ?_;refine Wp.forL (fun(x:(Nat×List Nat)×Nat)=>V.d (.tuple [.int x.2,iP x.1])) (λ pre O U=>Ov ["k","own","pred","ok","j"] _ O/\U=[.aI ((List.range sz).map λ p=>V.d (.int (cQ h ao pre.length p:Nat))),.set ((bH h ao pre.length).map fun(k:Nat)=>(k:Int))]) ⟨Ov.refl,rfl⟩ ?_ ?_
 ·rintro pre ⟨y,m⟩ post O U hy ⟨⟨f,rfl⟩,rfl⟩;obtain⟨hm,e,he,LH⟩:=tP hy;simp only at hm LH;subst hm;subst LH;have cz:=aJ he;rw[List.length_append,List.length_singleton];have LC:(h.take pre.length).length=pre.length:=by rw[List.length_take];exact Nat.min_eq_left (Nat.le_of_lt ‹_›)
  have oo:e∈h:=List.mem_of_getElem? he;have vz:h=h.take pre.length++e::h.drop (pre.length+1):=by
   conv=>lhs;rw[<-List.take_append_drop pre.length h]
   rw[List.drop_eq_getElem_cons cz];congr 2;rw[List.getElem?_eq_getElem cz] at he;exact Option.some.inj he
  have HR:=cK h _ _ e ao vz;rw[LC] at HR;have oi:bH h ao (pre.length+1)=if isIn ao (h.take pre.length) e/\∀j∈(aX (h.take pre.length) e).2,j∈bH h ao pre.length then bH h ao pre.length++[pre.length] else bH h ao pre.length:=by
   exact dU he
  refine Wp.bind rfl ?_;refine Wp.w2 (c:=decide (pre.length∈splitOf h ao)) (aV rfl rfl Gl) ?_ ?_
  ·intro q;have hq:isIn ao (h.take pre.length) e:=HR.1 (of_decide_eq_true q);refine Wp.asg rfl ?_;refine Wp.for (ys:=((aX (h.take pre.length) e).2.map fun(n:Nat)=>PyData.int n).map V.d) rfl ?_;refine Wp.lS (fun(n:Nat)=>PyData.int n) (λ IG O U=>Ov ["j"] _ O/\U=[.aI ((List.range sz).map λ p=>V.d (.int (cQ h ao pre.length p:Nat))),.set ((bH h ao pre.length).map fun(k:Nat)=>(k:Int))]/\∀j∈IG,j∈bH h ao pre.length) ⟨Ov.refl,rfl,by simp⟩ ?_ ?_
   ·rintro IG j Mn O U OS ⟨⟨f',rfl⟩,rfl,hp⟩;refine Wp.bind rfl ?_;refine Wp.w2 (c:=!decide (j∈bH h ao pre.length)) (aV rfl (aW rfl rfl rfl rfl rfl) (Ez rfl)) ?_ ?_
    ·intro q';have hj:j∉bH h ao pre.length:=by simpa using q'
     refine Wp.asg rfl ⟨.br,_,_,rfl,?_⟩;refine Wp.fX rfl ((Wp.fin (Wp.nil ⟨by repeat first | exact⟨f,rfl⟩ | refine Ov.upd ?_ rfl | refine Ov.over ?_ rfl,?_⟩)));have fk:¬(isIn ao (h.take pre.length) e/\∀j∈(aX (h.take pre.length) e).2,j∈bH h ao pre.length):=λ r=>hj (r.2 j (by rw[OS];simp));rw[if_neg fk] at oi;unfold cQ;rw[oi]
    ·intro q';have hj:j∈bH h ao pre.length:=by simpa using q'
     refine Wp.fin (Wp.nil ⟨Ov.upd ⟨f',rfl⟩ rfl,rfl,?_⟩);intro j' Ll;rcases List.mem_append.1 Ll with r | r
     ·exact hp j' r
     ·obtain rfl:j'=j:=by simpa using r
      exact hj
   ·rintro O U ⟨⟨f',rfl⟩,rfl,hp⟩;rw[if_pos ⟨hq,hp⟩] at oi;refine Wp.sN rfl ?_;have QJ:=Au h ao pre.length;refine Wp.expr (z7 (k:=(pre.length:Nat)) (aW rfl rfl rfl rfl rfl) rfl rfl ?_ (by rw[List.length_map];exact Nat.lt_of_le_of_lt ‹_› (Nat.lt_of_lt_of_le ‹_› (Nat.le_trans ‹_› (by decide))))) ?_
    ·rw[d6];apply decide_eq_false;intro r;have:=mY r;exact absurd ‹_› (Nat.lt_irrefl _)
    have Lx:=ho e oo;refine Wp.aug (aW rfl rfl rfl rfl rfl) rfl (gK (k:=aA e) (i:=(cQ h ao pre.length (aA e):Nat)) rfl (by simp[Lx])) (m:=1) rfl rfl (de (k:=aA e) rfl (by simpa using Lx)) (Wp.fin (Wp.fin (Wp.nil ⟨by repeat first | exact⟨f,rfl⟩ | refine Ov.upd ?_ rfl | refine Ov.over ?_ rfl,?_⟩)));have mP:∀p,cQ h ao (pre.length+1) p=cQ h ao pre.length p+if aA e=p then 1 else 0:=by
     intro p;unfold cQ;rw[oi,List.filter_append,List.length_append];have hd:(decide ((h[pre.length]?).map aA=some p))=decide (aA e=p):=by rw[he];simp only[Option.map_some,Option.some.injEq]
     simp only[List.filter_cons,List.filter_nil,hd];by_cases r:aA e=p
     ·simp only[r,decide_true,if_true];rfl
     ·simp only[r,decide_false,if_false];rfl
    show [Nd.aI (List.set _ _ _),Nd.set (_++[_])]=_;rw[fy,oi,List.map_append];congr 2;apply List.map_congr_left;intro p _;rw[mP];by_cases r:p=aA e
    ·subst r;simp
    ·have r':¬aA e=p:=λ z=>r z.symm;simp[r,r']
  ·intro q;have hq:¬isIn ao (h.take pre.length) e:=λ r=>of_decide_eq_false q (HR.2 r);rw[if_neg (λ r=>hq r.1)] at oi;refine Wp.fin (Wp.nil ⟨by repeat first | exact⟨f,rfl⟩ | refine Ov.upd ?_ rfl,?_⟩);unfold cQ;rw[oi]
 ·rintro O U ⟨⟨f,rfl⟩,rfl⟩;refine Wp.ret (aW rfl rfl rfl rfl rfl) ⟨_,rfl,?_⟩;rw[List.length_zipIdx,c4];refine kF (l:=0) rfl ?_;refine dG ?_;show some (Nd.aI _)=some (Nd.aI _);congr 2;simp[Function.comp_def]
end
end gi
theorem yp(n:Nat)(sz:Nat)(h:List aQ)(ao:List Nat):gi.P n sz h ao:=aU (Q:=λ x:(Nat)×(Nat)×(List aQ)×(List Nat)=>gi.P x.1 x.2.1 x.2.2.1 x.2.2.2) gi.core (n,sz,h,ao)
noncomputable def DB:Fn:=(bM.fn "begin").getD ⟨[],[]⟩
theorem C9:bM.fn "begin"=some DB:=rfl
theorem Bi{U:ae}{n:Nat}{x:PyData}(h:n<=50000):mS false .Mult (.d (.list [x])) (.d (.int n)) U=some (.d (.list (List.replicate n x)),U):=by
 show((if [x].length*(n:Int).toNat<=cW/\0<=(n:Int)/\(n:Int)<=(cW:Int) then some (PyData.list (times [x] (n:Int).toNat)) else none).bind λ r=>some (V.d r,U))=_;rw[if_pos ⟨by simp[cW];exact Nat.le_trans ‹_› (by decide),by exact Int.natCast_nonneg _,by simp[cW];exact Int.ofNat_le.2 (Nat.le_trans ‹_› (by decide))⟩,Int.toNat_natCast,qU];rfl
theorem ya(n sz:Nat)(ps:List Ch)(aa:List Int)(hs:aa.length<=1000) :
  (bM.run (n+2)).P "begin" [.d (eA sz ps),.d (bw aa)]=some (some (.d (fV (bz ps aa [])))):=by
 refine jX C9 rfl ?_;refine Wp.ret (bQ (ah (bA rfl (r:=some (.d (bw aa),[])) ?_) (ah (bh aD (ys:=ps) (λ _=>.list []) rfl rfl λ c hc=>⟨_,rfl,rfl⟩) (ah (bf rfl rfl (Bi (n:=(aa.map PyData.int).length) (by rw[List.length_map];exact Nat.le_trans ‹_› (by decide)))) rfl))) rfl) ⟨_,rfl,?_⟩
 ·show(mu ((aa.map PyData.int).map V.d)).map _=_;have:=nW (λ x:PyData=>x) (aa.map PyData.int);simp only[List.map_id'] at this;rw[this];rfl
 ·have e1:aa=aa.zipIdx.map λ x=>bF [] x.2 x.1:=by simp[bF,jG,fQ]
  have e2:(List.replicate (aa.map PyData.int).length (PyData.int 0))=((aa.zipIdx.map λ x=>bS [] x.2).map fun(n:Nat)=>PyData.int n):=by
   simp[bS,jG,fQ,List.map_const']
  have e3:(ps.map λ _=>PyData.list [])=(ps.map (aq [])).map eQ:=by
   simp[aq,outs,eQ,Function.comp_def]
  show some (V.d (.tuple [bw aa,.list (ps.map λ _=>PyData.list []),.list (List.replicate (aa.map PyData.int).length (PyData.int 0)),.list []]))=_;rw[e2,e3];simp only[fV,bz,bK];rw[<-e1];rfl
end L1
end Q
end
section
namespace Q.L1
open PySem Classical Mine.Internal.L1
theorem j4{G:Type}{x:G}{l r:List G}(h:x∈l):before x (l++r)=before x l:=by
 obtain⟨a,b,rfl,qq⟩:=List.eq_append_cons_of_mem h;rw[b6 qq,List.append_assoc];exact b6 qq
theorem qQ{G:Type}{x:G}{l r:List G}(h:x∈l):since x (l++r)=since x l++r:=by
 obtain⟨a,b,rfl,qq⟩:=List.eq_append_cons_of_mem h;rw[jB qq,List.append_assoc];exact jB qq
theorem cY(c:Ch)(l r:List ax):outs c (l++r)=outs c l++outs c r:=by exact List.filterMap_append
theorem dI(c:Ch)(l r:List ax):bN c (l++r)=bN c l++bN c r:=by exact List.filterMap_append
theorem i4(l r:List cB):du (l++r)=du l++du r:=by exact List.filterMap_append
theorem a7(l r:List ax):names (l++r)=names l++names r:=by exact List.filterMap_append
theorem tp(p:Nat)(l r:List ax):jG p (l++r)=jG p l++jG p r:=by exact List.filterMap_append
theorem qK(p:Nat)(l r:List ax):fQ p (l++r)=fQ p l++fQ p r:=by exact List.filterMap_append
theorem rj(p:Nat)(s:Int)(l r:List ax):bF (l++r) p s=bF l p s+(jG p r).sum-(fQ p r).sum:=by
 simp only[bF,tp,qK,List.sum_append];lia
theorem kK(p:Nat)(l r:List ax):bS (l++r) p=bS l p+((jG p r).length+(fQ p r).length):=by
 simp only[bS,tp,qK,List.length_append];lia
theorem EA{x:Nat}(r:x=1):¬x=2:=λ e=>by cases r.symm.trans e
theorem Pa{x:Nat}(r:x=2):¬x=1:=λ e=>by cases r.symm.trans e
theorem dN{G:Type}{x:G}{l r:List G}(h:x∉l)(h':x∉r):x∉l++r:=λ q=>(List.mem_append.1 q).elim h h'
theorem gU{ai ext:List ax}{n:Str}{x:Int×Nat}(h:ax.aF x.2 n∈ai\/ax.aF x.2 n∉ext):cH (ai++ext) n x=cH ai n x:=by
 unfold cH;by_cases q:ax.aF x.2 n∈ai
 ·rw[if_pos q,if_pos (List.mem_append_left _ q),j4 q]
 ·rw[if_neg q,if_neg (dN q (h.resolve_left q))]
theorem kL{ai ext:List ax}{n:Str}{x:Int×Nat}(h:ax.aF x.2 n∈ai\/ax.aF x.2 n∉ext):fb (ai++ext) n x=fb ai n x:=by
 unfold fb;by_cases q:ax.aF x.2 n∈ai
 ·rw[if_pos q,if_pos (List.mem_append_left _ q),j4 q]
 ·rw[if_neg q,if_neg (dN q (h.resolve_left q))]
theorem qN{ai ext:List ax}{n:Str}{x:Int×Nat}(h:ax.aF x.2 n∉ai):cH (ai++ax.aF x.2 n::ext) n x=some (bF ai x.2 x.1):=by
 unfold cH;rw[if_pos (List.mem_append_right _ List.mem_cons_self),b6 h]
theorem wG{ai ext:List ax}{n:Str}{x:Int×Nat}(h:ax.aF x.2 n∉ai):fb (ai++ax.aF x.2 n::ext) n x=some (bS ai x.2):=by
 unfold fb;rw[if_pos (List.mem_append_right _ List.mem_cons_self),b6 h]
theorem oV{ai ext:List ax}{c:Ch}{n:Str}(h:ax.aF c.2 n∈ai):aP (ai++ext) c n=
  if(aP ai c n).1=2 then aP ai c n else if ax.b5 c (.mark n)∈ext then(2,(aP ai c n).2++du (bN c (before (ax.b5 c (.mark n)) ext))) else(1,(aP ai c n).2++du (bN c ext)):=by
 unfold aP;rw[if_pos h,if_pos (List.mem_append_left _ h),qQ h];generalize since (ax.aF c.2 n) ai=R;by_cases q:ax.b5 c (.mark n)∈R
 ·rw[if_pos q,if_pos (List.mem_append_left _ q),if_pos rfl,j4 q]
 ·rw[if_neg q,if_neg (EA rfl)];by_cases r:ax.b5 c (.mark n)∈ext
  ·rw[if_pos r,if_pos (List.mem_append_right _ r)];obtain⟨a,b,rfl,qq⟩:=List.eq_append_cons_of_mem r;rw[b6 qq,<-List.append_assoc,b6 (dN q qq),dI,i4]
  ·rw[if_neg r,if_neg (dN q r),dI,i4]
theorem dv{ai:List ax}{c:Ch}{n:Str}(h:ax.aF c.2 n∉ai):aP ai c n=(0,[]):=if_neg h
theorem uq{ai ext:List ax}{c:Ch}{n:Str}(h:ax.aF c.2 n∉ai)(hi:ax.b5 c (.mark n)∉ext)(he:bN c ext=[]):aP (ai++ax.aF c.2 n::ext) c n=(1,[]):=by
 unfold aP;rw[if_pos (List.mem_append_right _ List.mem_cons_self),jB h];have hx:ax.b5 c (.mark n)∉ax.aF c.2 n::ext:=λ q=>(List.mem_cons.1 q).elim (λ q=>by cases q) hi;exact(if_neg hx).trans (congrArg (λ l=>(1,du l)) he)
theorem jC{ai:List ax}{c:Ch}{n:Str}(h:ax.aF c.2 n∈ai):(aP ai c n).1=2\/(aP ai c n).1=1:=by
 unfold aP;rw[if_pos h];split
 ·exact .inl rfl
 ·exact .inr rfl
theorem gW{ai ext:List ax}{d:Ch}{n:Str}(h1:ax.aF d.2 n∈ai\/ax.aF d.2 n∉ext)(h2:ax.b5 d (.mark n)∉ext)(h3:du (bN d ext)=[]):aP (ai++ext) d n=aP ai d n:=by
 by_cases q:ax.aF d.2 n∈ai
 ·rw[oV q,if_neg h2,h3,List.append_nil];cases jC q with
  |inl r=>exact if_pos r
  |inr r=>rw[if_neg (EA r)];exact Prod.ext r.symm rfl
 ·rw[dv q,dv (dN q (h1.resolve_left q))]
noncomputable def l8(ps:List Ch)(aa:List Int)(ai:List ax)(n:Str):cf:=
 ⟨n,λ p=>cH ai n (aa.getD p 0,p),λ p=>fb ai n (aa.getD p 0,p),λ j=>ps[j]?.elim (0,[]) λ c=>aP ai c n⟩
noncomputable def F(ps:List Ch)(aa:List Int)(ai:List ax):A:=
 ⟨λ p=>bF ai p (aa.getD p 0),λ j=>ps[j]?.elim [] (aq ai),λ p=>bS ai p,(names ai).map (l8 ps aa ai)⟩
theorem gS{G β:Type}(l:List G)(d:G)(f:G×Nat->β):((List.range l.length).map λ p=>f (l.getD p d,p))=l.zipIdx.map f:=by
 apply List.ext_getElem?;intro i;by_cases hi:i<l.length<;>simp[hi]
theorem ua{β:Type}(ps:List Ch)(f:Ch->β)(d:β):((List.range ps.length).map λ j=>ps[j]?.elim d f)=ps.map f:=by
 apply List.ext_getElem?;intro i;by_cases hi:i<ps.length<;>simp[hi]
theorem BW(ps:List Ch)(aa:List Int)(ai:List ax):ur aa.length ps.length (F ps aa ai)=bz ps aa ai:=by
 delta ur bz F;simp only;rw[gS aa 0 (λ x=>bF ai x.2 x.1),gS aa 0 (λ x=>bS ai x.2),ua ps (aq ai) [],List.map_map];congr 1;apply List.map_congr_left;intro n _;simp only[Function.comp,pV,l8,dE];rw[gS aa 0 (cH ai n),gS aa 0 (fb ai n),ua ps (λ c=>aP ai c n) (0,[])]
end Q.L1
end
section
namespace Q.L1
open PySem Classical Mine.Internal.L1
variable{ps:List Ch}{aa:List Int}{ai ext:List ax}
theorem fc{x y:ax}(h:x≠y):x∉[y]:=λ q=>h (List.mem_singleton.1 q)
theorem Bm{l:List Str}{n:Str}(h:l.Nodup)(hn:n∉l):(l++[n]).Nodup:=List.nodup_append.2 ⟨h,List.pairwise_singleton ..,λ a ha b hb e=>hn (List.mem_singleton.1 hb▸e▸ha)⟩
theorem jz{c:Ch}(h:(bN c ai).length<=(outs c ai).length):aq (ai++ext) c=(aq ai c++outs c ext).drop (bN c ext).length:=by
 unfold aq;rw[cY,dI,List.length_append,<-List.drop_drop,List.drop_append_of_le_length h]
theorem c5{c:Ch}(h:(bN c ai).length<=(outs c ai).length)(he:bN c ext=[]):aq (ai++ext) c=aq ai c++outs c ext:=by
 rw[jz h,he];rfl
noncomputable def marks(ps:List Ch)(p:Nat)(n:Str):List ax:=(ps.filter λ c=>decide (c.1=p)).map λ c=>.out c (.mark n)
theorem jt{p:Nat}{n:Str}{e:ax}(h:e∈marks ps p n):∃c,c∈ps/\c.1=p/\e=.out c (.mark n):=by
 obtain⟨d,hd,e⟩:=List.mem_map.1 h;obtain⟨h1,h2⟩:=List.mem_filter.1 hd;exact⟨d,h1,of_decide_eq_true h2,e.symm⟩
theorem dc(cE:ps.Nodup)(p:Nat)(n:Str)(c:Ch):outs c (aK ps p n)=if c∈ps/\c.1=p then [.mark n] else []:=by
 show outs c (marks ps p n)=_;unfold marks outs;rw[List.filterMap_map]
 induction ps with
 |nil=>exact(if_neg λ h=>by cases h.1).symm
 |cons d r ih=>
  have hn:=List.nodup_cons.1 cE;have ih:=ih hn.2;by_cases h1:d.1=p
  ·rw[List.filter_cons_of_pos (p:=λ c:Ch=>decide (c.1=p)) (decide_eq_true h1)];by_cases h2:d=c
   ·subst h2;rw[List.filterMap_cons_some (show(tK d ∘ λ c=>ax.out c (.mark n)) d=some (.mark n) from if_pos rfl),ih,if_neg λ h=>hn.1 h.1,if_pos ⟨List.mem_cons_self,h1⟩]
   ·rw[List.filterMap_cons_none (show(tK c ∘ λ c=>ax.out c (.mark n)) d=none from if_neg h2),ih];exact fK (and_congr ⟨List.mem_cons_of_mem _,λ h=>(List.mem_cons.1 h).resolve_left λ e=>h2 e.symm⟩ Iff.rfl)
  ·rw[List.filter_cons_of_neg (p:=λ c:Ch=>decide (c.1=p)) λ h=>h1 (of_decide_eq_true h),ih];exact fK ⟨λ h=>⟨List.mem_cons_of_mem _ h.1,h.2⟩,λ h=>⟨(List.mem_cons.1 h.1).resolve_left λ e=>h1 (e▸h.2),h.2⟩⟩
theorem ey{β:Type}{f:ax->Option β}{p:Nat}{n:Str}(h1:f (.aF p n)=none)(h2:∀c,f (.out c (.mark n))=none):(aK ps p n).filterMap f=[]:=
 List.filterMap_eq_nil_iff.2 λ e he=>(List.mem_cons.1 he).elim (λ q=>q▸h1) λ q=>(jt q).elim λ c hc=>hc.2.2▸h2 c
theorem bI(p:Nat)(n:Str)(c:Ch):bN c (aK ps p n)=[]:=ey rfl λ _=>rfl
theorem ia(p:Nat)(n:Str)(x:Nat):jG x (aK ps p n)=[]:=ey rfl λ _=>rfl
theorem gr(p:Nat)(n:Str)(x:Nat):fQ x (aK ps p n)=[]:=ey rfl λ c=>ite_self _
theorem cg(p:Nat)(n:Str):names (aK ps p n)=[]:=ey rfl λ _=>rfl
theorem bP{p p':Nat}{n n':Str}:ax.aF p' n'∈aK ps p n↔p'=p/\n'=n:=
 ⟨λ h=>(List.mem_cons.1 h).elim (λ q=>ax.aF.inj q) λ q=>(jt q).elim λ _ h=>(by cases h.2.2),λ h=>h.1▸h.2▸List.mem_cons_self⟩
theorem lY{p:Nat}{n:Str}{c:Ch}{m:cB}:ax.b5 c m∉marks ps p n:=λ q=>(jt q).elim λ _ h=>by cases h.2.2
theorem kg{p:Nat}{n:Str}{c:Ch}{m:cB}:ax.b5 c m∉aK ps p n:=
 λ h=>(List.mem_cons.1 h).elim (λ q=>by cases q) lY
theorem cf.zY{s t:cf}(h1:s.name=t.name)(h2:s.a=t.a)(h3:s.c=t.c)(h4:s.t=t.t):s=t:=by
 cases s;cases t;cases h1;cases h2;cases h3;cases h4;rfl
theorem wV{j:Nat}{c d:Ch}(h:ps[j]?=some c):ps.getD j d=c:=by
 rw[List.getD_eq_getElem?_getD,h];rfl
theorem fC{x:Nat}{s:Int}(h1:jG x ext=[])(h2:fQ x ext=[]):bF (ai++ext) x s=bF ai x s:=by
 rw[rj,h1,h2];exact(Int.sub_zero _).trans (Int.add_zero _)
theorem fE{x:Nat}(h1:jG x ext=[])(h2:fQ x ext=[]):bS (ai++ext) x=bS ai x:=by
 rw[kK,h1,h2];rfl
theorem rE{β:Type}(cE:ps.Nodup){j x:Nat}{c:Ch}{f g:Ch->β}{z v:β}(hj:ps[j]?=some c)(hv:f c=v)(h:∀d,d≠c->f d=g d):(if x=j then v else ps[x]?.elim z g)=ps[x]?.elim z f:=by
 by_cases e:x=j
 ·rw[if_pos e,e,hj];exact hv.symm
 ·rw[if_neg e];cases hx:ps[x]? with
  |none=>rfl
  |some d=>exact(h d λ q=>e ((List.getElem?_inj (aJ hx) cE).1 (hx.trans (q▸hj.symm)))).symm
theorem zX{β:Type}{x:Nat}{f g:Ch->β}{z:β}{P:Ch->Prop}[DecidablePred P]{u:β->β}(h:∀c∈ps,f c=if P c then u (g c) else g c):(if x<ps.length/\P (ps.getD x (0,0)) then u (ps[x]?.elim z g) else ps[x]?.elim z g)=ps[x]?.elim z f:=by
 cases hx:ps[x]? with
 |none=>exact if_neg λ q=>Nat.not_lt.2 (List.getElem?_eq_none_iff.1 hx) q.1
 |some c=>
  rw[wV hx];refine Eq.trans ?_ (h c (List.mem_of_getElem? hx)).symm;exact fK (and_iff_right (aJ hx))
theorem nu{n:Str}(h1:∀p,ax.aF p n∈ai\/ax.aF p n∉ext)(h2:∀c,ax.b5 c (.mark n)∉ext/\du (bN c ext)=[]):l8 ps aa (ai++ext) n=l8 ps aa ai n:=
 cf.zY rfl (funext λ p=>gU (h1 p)) (funext λ p=>kL (h1 p)) (funext λ j=>congrArg (ps[j]?.elim (0,[])) (funext λ c=>gW (h1 c.2) (h2 c).1 (h2 c).2))
theorem qE(hD:(names ai).Nodup){i:Nat}{nm:Str}{Ik:List ax}(hi:(names ai)[i]?=some nm)(f:cf->cf)(h1:∀n,n≠nm->l8 ps aa Ik n=l8 ps aa ai n)(h2:f (l8 ps aa ai nm)=l8 ps aa Ik nm) :
  ((names ai).map (l8 ps aa ai)).modify i f=(names ai).map (l8 ps aa Ik):=by
 apply List.ext_getElem?;intro x;by_cases e:i=x
 ·rw[<-e,List.getElem?_modify_eq,List.getElem?_map,List.getElem?_map,hi];exact congrArg some h2
 ·rw[List.getElem?_modify_ne _ _ e,List.getElem?_map,List.getElem?_map];cases hx:(names ai)[x]? with
  |none=>rfl
  |some n=>exact congrArg some (h1 n λ q=>e ((List.getElem?_inj (aJ hi) hD).1 (hi.trans (q▸hx.symm)))).symm
theorem ta(cE:ps.Nodup)(hA:∀c,(bN c ai).length<=(outs c ai).length)(hD:(names ai).Nodup){p i:Nat}{n:Str}(hi:(names ai)[i]?=some n)(fk:ax.aF p n∉ai):jT ps p i n (F ps aa ai)=F ps aa (ai++aK ps p n):=by
 refine A.ext (funext λ x=>(fC (ia ..) (gr ..)).symm) (funext λ j=>?_) (funext λ x=>(fE (ia ..) (gr ..)).symm) ?_
 ·refine zX (x:=j) (f:=aq (ai++aK ps p n)) (g:=aq ai) (P:=λ c=>c.1=p) (u:=(·++[cB.mark n])) λ c hc=>?_;rw[c5 (hA c) (bI ..),dc cE];by_cases h:c.1=p
  ·rw[if_pos h,if_pos ⟨hc,h⟩]
  ·rw[if_neg h,if_neg λ q=>h q.2,List.append_nil]
 ·show((((names ai).map (l8 ps aa ai)).modify _ _).modify _ _).modify _ _=(names (ai++aK ps p n)).map _;rw[a7,cg,List.append_nil,mod_mod,mod_mod];refine qE hD hi _ (λ m hm=>nu (λ x=>.inr λ q=>hm (bP.1 q).2) λ c=>⟨kg,congrArg du (bI ..)⟩) (cf.zY rfl (funext λ x=>?_) (funext λ x=>?_) (funext λ j=>?_))
  ·show(if x=p then some (bF ai p _) else cH ai n (_,x))=cH _ n (_,x);by_cases e:x=p
   ·rw[if_pos e,e];exact(qN (x:=(aa.getD p 0,p)) fk).symm
   ·rw[if_neg e];exact(gU (.inr λ q=>e (bP.1 q).1)).symm
  ·show(if x=p then some (bS ai p) else fb ai n (_,x))=fb _ n (_,x);by_cases e:x=p
   ·rw[if_pos e,e];exact(wG (x:=(aa.getD p 0,p)) fk).symm
   ·rw[if_neg e];exact(kL (.inr λ q=>e (bP.1 q).1)).symm
  ·refine zX (x:=j) (f:=λ c=>aP (ai++aK ps p n) c n) (g:=λ c=>aP ai c n) (P:=λ c=>c.2=p) (u:=λ t=>(1,t.2)) λ c hc=>?_;by_cases e:c.2=p
   ·subst e;rw[if_pos rfl,dv fk];exact uq fk lY (bI (ps:=ps) c.2 n c)
   ·rw[if_neg e];exact gW (.inr λ q=>e (bP.1 q).1) kg (congrArg du (bI ..))
theorem zW(cE:ps.Nodup)(hA:∀c,(bN c ai).length<=(outs c ai).length)(hD:(names ai).Nodup)(hB:∀p n,ax.aF p n∈ai->n∈names ai)(p:Nat)(n:Str)(hn:n∉names ai) :
  jT ps p (F ps aa ai).s.length n { F ps aa ai with s:=(F ps aa ai).s++[iF n] }=F ps aa (ai++[.aL p n]++aK ps p n):=by
 have fk:∀x,ax.aF x n∉ai++[.aL p n]:=λ x=>dN (λ q=>hn (hB x n q)) (fc λ h=>by cases h);have e:({ F ps aa ai with s:=(F ps aa ai).s++[iF n] }:A)=F ps aa (ai++[.aL p n]):=by
  refine A.ext (funext λ x=>(fC rfl rfl).symm) (funext λ j=>congrArg (ps[j]?.elim []) (funext λ c=>((c5 (hA c) rfl).trans (List.append_nil _)).symm)) (funext λ x=>(fE rfl rfl).symm) ?_;show(names ai).map _++[iF n]=(names (ai++[.aL p n])).map _;rw[a7,List.map_append,show(names ai).map (l8 ps aa (ai++[.aL p n]))=(names ai).map (l8 ps aa ai) from List.map_congr_left λ m _=>nu (ext:=[.aL p n]) (λ x=>.inr (fc λ h=>by cases h)) λ c=>⟨fc λ h=>(by cases h),rfl⟩];refine congrArg (λ s=>(names ai).map (l8 ps aa ai)++[s]) (cf.zY rfl (funext λ x=>(if_neg (fk x)).symm) (funext λ x=>(if_neg (fk x)).symm) (funext λ j=>?_));show(0,[])=ps[j]?.elim (0,[]) _;cases ps[j]? with
  |none=>rfl
  |some c=>exact(dv (fk c.2)).symm
 rw[e,show(F ps aa ai).s.length=(names ai).length from List.length_map _];refine ta cE (λ c=>?_) ?_ ?_ (fk p)
 ·rw[dI,cY];exact(List.append_nil (bN c ai)).symm▸(List.append_nil (outs c ai)).symm▸hA c
 ·rw[a7];exact Bm hD hn
 ·rw[a7];exact List.getElem?_concat_length
end Q.L1
end
section
namespace Q.L1
open PySem Classical Mine.Internal.L1
variable{ps:List Ch}{aa:List Int}{ai:List ax}
theorem i0{β:Type}{f:ax->Option β}{e:ax}{P:Prop}[Decidable P]{b:β}(h:f e=if P then some b else none):[e].filterMap f=if P then [b] else []:=by
 by_cases q:P
 ·rw[if_pos q,List.filterMap_cons_some (h.trans (if_pos q))];rfl
 ·rw[if_neg q,List.filterMap_cons_none (h.trans (if_neg q))];rfl
theorem jm(c d:Ch)(m:cB):bN d [ax.b5 c m]=if c=d then [m] else []:=i0 rfl
theorem Aw(c:Ch)(n:Str)(x:Nat):jG x [ax.b5 c (.mark n)]=[]:=List.filterMap_cons_none (ite_self _)
theorem eG{c:Ch}{m:cB}{p:Nat}{n:Str}:ax.aF p n∉[ax.b5 c m]:=fc λ h=>by cases h
theorem xj{c d:Ch}{v:Int}{n:Str}:ax.b5 d (.mark n)∉[ax.b5 c (.cO v)]:=fc λ h=>by cases h
theorem rT{c d:Ch}(m:cB)(h:d≠c):bN d [ax.b5 c m]=[]:=(jm c d m).trans (if_neg λ q=>h q.symm)
theorem Gx(cE:ps.Nodup)(hA:∀c,(bN c ai).length<=(outs c ai).length){c:Ch}{j:Nat}(hj:ps[j]?=some c){m:cB}{r:List cB}(hq:aq ai c=m::r):(eS j r (F ps aa ai)).q=(F ps aa (ai++[.b5 c m])).q:=funext λ x=>by
 have hc:aq (ai++[.b5 c m]) c=r:=by
  rw[jz (hA c),jm,if_pos rfl,hq];exact List.append_nil r
 exact rE cE hj hc λ d hd=>(jz (hA d)).trans (by rw[rT m hd];exact List.append_nil _)
theorem zV(cE:ps.Nodup)(hA:∀c,(bN c ai).length<=(outs c ai).length){c:Ch}{j:Nat}(hj:ps[j]?=some c)(v:Int) :
  BC c j v (F ps aa ai)=F ps aa (ai++[.out c (.cO v)]):=by
 have h2:∀x,fQ x [ax.out c (.cO v)]=if c.1=x then [v] else []:=λ x=>i0 rfl
 have h3:∀d,outs d [ax.out c (.cO v)]=if c=d then [.cO v] else []:=λ d=>i0 rfl
 refine A.ext (funext λ x=>?_) (funext λ i=>?_) (funext λ x=>?_) ?_
 ·show(if x=c.1 then bF ai c.1 _-v else bF ai x _)=bF _ x _;by_cases e:x=c.1
  ·rw[if_pos e,e,rj,h2,if_pos rfl];simp[show jG c.1 [ax.out c (.cO v)]=[] from rfl]
  ·rw[if_neg e];exact(fC rfl ((h2 x).trans (if_neg λ q=>e q.symm))).symm
 ·have hc:aq (ai++[.out c (.cO v)]) c=(F ps aa ai).q j++[.cO v]:=by
   rw[c5 (hA c) rfl,h3,if_pos rfl];exact congrArg (·++_) (congrArg (Option.elim · [] (aq ai)) hj).symm
  exact rE cE hj hc λ d hd=>(c5 (hA d) rfl).trans (by rw[h3,if_neg λ q=>hd q.symm,List.append_nil])
 ·show(if x=c.1 then bS ai c.1+1 else bS ai x)=bS _ x;by_cases e:x=c.1
  ·rw[if_pos e,e,kK,h2,if_pos rfl];rfl
  ·rw[if_neg e];exact(fE rfl ((h2 x).trans (if_neg λ q=>e q.symm))).symm
 ·show(names ai).map _=(names (ai++_)).map _;rw[a7,show names [ax.out c (.cO v)]=[] from rfl,List.append_nil];have hs:∀n,l8 ps aa (ai++[.out c (.cO v)]) n=l8 ps aa ai n:=λ n=>nu (λ x=>.inr (fc λ h=>by cases h)) λ d=>⟨fc λ h=>(by cases h),rfl⟩;exact List.map_congr_left λ n _=>(hs n).symm
theorem C6(cE:ps.Nodup)(hA:∀c,(bN c ai).length<=(outs c ai).length){c:Ch}{j:Nat}(hj:ps[j]?=some c)(v:Int)(r:List cB)(hq:aq ai c=.cO v::r) :
  IE c j v r (F ps aa ai)=F ps aa (ai++[.b5 c (.cO v)]):=by
 have h2:∀x,jG x [ax.b5 c (.cO v)]=if c.2=x then [v] else []:=λ x=>i0 rfl
 refine A.ext (funext λ x=>?_) (Gx cE hA hj hq) (funext λ x=>?_) ?_
 ·show(if x=c.2 then bF ai c.2 _+v else bF ai x _)=bF _ x _;by_cases e:x=c.2
  ·rw[if_pos e,e,rj,h2,if_pos rfl];simp[show fQ c.2 [ax.b5 c (.cO v)]=[] from rfl]
  ·rw[if_neg e];exact(fC ((h2 x).trans (if_neg λ q=>e q.symm)) rfl).symm
 ·show(if x=c.2 then bS ai c.2+1 else bS ai x)=bS _ x;by_cases e:x=c.2
  ·rw[if_pos e,e,kK,h2,if_pos rfl];rfl
  ·rw[if_neg e];exact(fE ((h2 x).trans (if_neg λ q=>e q.symm)) rfl).symm
 ·show((names ai).map (l8 ps aa ai)).mapIdx (λ i s=>if i<((names ai).map (l8 ps aa ai)).length then vR j v s else s)=(names (ai++_)).map _;rw[a7,show names [ax.b5 c (.cO v)]=[] from rfl,List.append_nil];apply List.ext_getElem?;intro i;rw[List.getElem?_mapIdx,List.getElem?_map,List.getElem?_map,List.length_map];cases hi:(names ai)[i]? with
  |none=>rfl
  |some n=>
   refine congrArg some ((if_pos (aJ hi)).trans ?_);have T9:(l8 ps aa ai n).t j=aP ai c n:=congrArg (Option.elim · (0,[]) _) hj;have ne:∀d,d≠c->aP (ai++[.b5 c (.cO v)]) d n=aP ai d n:=λ d hd=>gW (.inr eG) xj (congrArg du (rT _ hd));have base:∀{t:Nat->Nat×List Int},t=(l8 ps aa (ai++[.b5 c (.cO v)]) n).t->({ (l8 ps aa ai n) with t:=t }:cf)=l8 ps aa (ai++[.b5 c (.cO v)]) n:=λ ht=>
    cf.zY rfl (funext λ p=>(gU (.inr eG)).symm) (funext λ p=>(kL (.inr eG)).symm) ht
   have here:aP (ai++[.b5 c (.cO v)]) c n=if(aP ai c n).1=1 then((aP ai c n).1,(aP ai c n).2++[v]) else aP ai c n:=by
    by_cases q:ax.aF c.2 n∈ai
    ·rw[oV q,if_neg xj,jm,if_pos rfl];cases jC q with
     |inl z=>rw[if_pos z,if_neg (Pa z)]
     |inr z=>rw[if_neg (EA z),if_pos z,z];rfl
    ·rw[dv q,dv (dN q eG)];rfl
   unfold vR;rw[T9];by_cases z:(aP ai c n).1=1
   ·rw[if_pos z];rw[if_pos z] at here;exact base (funext λ x=>rE cE hj here ne)
   ·rw[if_neg z];rw[if_neg z] at here;exact base (funext λ x=>congrArg (ps[x]?.elim (0,[])) (funext λ d=>(em (d=c)).elim (λ e=>e▸here.symm) λ e=>(ne d e).symm))
end Q.L1
end
section
namespace Q.L1
open PySem Classical Mine.Internal.L1
variable{ps:List Ch}{aa:List Int}{ai:List ax}
theorem tc(cE:ps.Nodup)(hA:∀c,(bN c ai).length<=(outs c ai).length)(hD:(names ai).Nodup){c:Ch}{i j:Nat}(hj:ps[j]?=some c){nm:Str}(hi:(names ai)[i]?=some nm){r:List cB}(hq:aq ai c=.mark nm::r)(DY:ax.aF c.2 nm∈ai) :
  dD i (qP j) (eS j r (F ps aa ai))=F ps aa (ai++[.b5 c (.mark nm)]):=by
 refine A.ext (funext λ x=>(fC (Aw ..) rfl).symm) (Gx cE hA hj hq) (funext λ x=>(fE (Aw ..) rfl).symm) ?_;show((names ai).map (l8 ps aa ai)).modify i (qP j)=(names (ai++[ax.b5 c (.mark nm)])).map _;rw[a7,show names [ax.b5 c (.mark nm)]=[] from rfl,List.append_nil];refine qE hD hi _ (λ n hn=>nu (λ p=>.inr eG) λ d=>⟨fc λ q=>hn (cB.mark.inj (ax.b5.inj q).2),?_⟩) (cf.zY rfl (funext λ p=>(gU (.inr eG)).symm) (funext λ p=>(kL (.inr eG)).symm) (funext λ x=>?_))
 ·rw[jm];split<;>rfl
 ·have here:aP (ai++[.b5 c (.mark nm)]) c nm=(2,((l8 ps aa ai nm).t j).2):=by
   rw[oV DY,if_pos List.mem_cons_self,show(l8 ps aa ai nm).t j=aP ai c nm from congrArg (Option.elim · (0,[]) _) hj,show before (ax.b5 c (.mark nm)) [.b5 c (.mark nm)]=[] from b6 (l:=[]) (λ h=>by cases h)];cases jC DY with
   |inl z=>exact(if_pos z).trans (Prod.ext z rfl)
   |inr z=>exact(if_neg (EA z)).trans (congrArg (Prod.mk 2) (List.append_nil _))
  exact rE cE hj here λ d hd=>gW (.inr eG) (fc λ q=>hd (ax.b5.inj q).1) (congrArg du (rT _ hd))
theorem zU(cE:ps.Nodup)(hA:∀c,(bN c ai).length<=(outs c ai).length)(hD:(names ai).Nodup){c:Ch}{j:Nat}(hj:ps[j]?=some c)(nm:Str)(r:List cB)(hq:aq ai c=.mark nm::r){i:Nat}{s:cf}(hs:(F ps aa ai).s[i]?=some s)(oq:s.name=nm) :
  xd ps c j i nm r s (F ps aa ai)=F ps aa ((if ax.aF c.2 nm∈ai then ai else ai++aK ps c.2 nm)++[.b5 c (.mark nm)]):=by
 obtain⟨n,hi,rfl⟩:=Option.map_eq_some_iff.1 ((List.getElem?_map ..).symm.trans hs);cases(show n=nm from oq);unfold xd;by_cases DY:ax.aF c.2 nm∈ai
 ·have ha:(l8 ps aa ai nm).a c.2≠none:=λ e=>by cases(if_pos DY).symm.trans e
  rw[if_pos DY,if_neg ha];exact tc cE hA hD hj hi hq DY
 ·rw[if_neg DY,if_pos (show(l8 ps aa ai nm).a c.2=none from if_neg DY)];have DR:∀d,(bN d (ai++aK ps c.2 nm)).length<=(outs d (ai++aK ps c.2 nm)).length:=λ d=>by
   rw[dI,bI,List.append_nil,cY,List.length_append];exact Nat.le_trans (hA d) (Nat.le_add_right ..)
  have hn:names (ai++aK ps c.2 nm)=names ai:=by rw[a7,cg,List.append_nil]
  have jk:aq (ai++aK ps c.2 nm) c=.mark nm::(r++outs c (aK ps c.2 nm)):=by
   rw[c5 (hA c) (bI ..),hq];rfl
  rw[<-tc cE DR (hn▸hD) hj (hn.symm▸hi) jk (List.mem_append_right _ List.mem_cons_self),<-ta cE hA hD hi DY];refine congrArg (dD i (qP j)) (A.ext rfl (funext λ x=>?_) rfl rfl);show(if x<ps.length/\(ps.getD x (0,0)).1=c.2 then(if x=j then r else _)++[.mark nm] else(if x=j then r else _))=if x=j then _ else if x<ps.length/\(ps.getD x (0,0)).1=c.2 then _ else _
  by_cases e:x=j
  ·rw[if_pos e,if_pos e,e,wV hj,dc cE];by_cases h:c.1=c.2
   ·rw[if_pos ⟨aJ hj,h⟩,if_pos ⟨List.mem_of_getElem? hj,h⟩]
   ·rw[if_neg λ q=>h q.2,if_neg λ q=>h q.2,List.append_nil]
  ·rw[if_neg e,if_neg e];rfl
end Q.L1
end
section
namespace Q.L1
open PySem Classical Mine.Internal.L1
noncomputable def Fits(sz:Nat)(ps:List Ch)(nm:List Str)(a b:List ax):ax->Prop
 |.out c m=>c∈ps/\∀n,m=.mark n->n∈nm/\ax.aF c.1 n∈a
 |.b5 c m=>(c∈ps/\∃r,outs c a=bN c a++m::r)/\∀n,m=.mark n->ax.aF c.2 n∈a
 |.aF p n=>(n∈nm/\p<sz)/\(ax.aF p n∉a->∀c∈ps,c.1=p->∃r,outs c b=.mark n::r)
 |.aL p n=>(n="a"\/n="b")/\ax.aF p n∈b
structure Inv(sz:Nat)(ps:List Ch)(ai:List ax):Prop where
 Ab:∀c,bN c ai <+: outs c ai
 tV:(names ai).Nodup
 fits:∀a e b,ai=a++e::b->Fits sz ps (names ai) a b e
variable{sz:Nat}{ps:List Ch}{aa:List Int}{ai ext:List ax}
theorem Inv.at(I:Inv sz ps ai){e:ax}(h:e∈ai):∃a b,ai=a++e::b/\Fits sz ps (names ai) a b e:=(List.append_of_mem h).elim λ a h=>h.elim λ b h=>⟨a,b,h,I.fits a e b h⟩
theorem Inv.JG(I:Inv sz ps ai)(p:Nat)(n:Str)(h:ax.aF p n∈ai):n∈names ai/\p<sz:=(I.at h).elim λ _ h=>h.elim λ _ h=>h.2.1
theorem Inv.O7(I:Inv sz ps ai)(c:Ch)(n:Str)(h:ax.out c (.mark n)∈ai):n∈names ai:=(I.at h).elim λ _ h=>h.elim λ _ h=>(h.2.2 n rfl).1
theorem Inv.RF(I:Inv sz ps ai)(c:Ch)(m:cB)(h:ax.out c m∈ai):c∈ps:=(I.at h).elim λ _ h=>h.elim λ _ h=>h.2.1
theorem Inv.Ri(I:Inv sz ps ai)(c:Ch)(m:cB)(h:ax.b5 c m∈ai):c∈ps:=(I.at h).elim λ _ h=>h.elim λ _ h=>h.2.1.1
theorem qC{n:Str}(h:n∈names ai):∃p,ax.aL p n∈ai:=by
 obtain⟨e,h1,h2⟩:=List.mem_filterMap.1 h;cases e with
 |aL p m=>cases h2;exact⟨p,h1⟩
 |_=>cases h2
theorem Inv.two(I:Inv sz ps ai)(n:Str)(h:n∈names ai):n="a"\/n="b":=(qC h).elim λ _ h=>(I.at h).elim λ _ h=>h.elim λ _ h=>h.2.1
theorem Inv.LK(I:Inv sz ps ai){p:Nat}{n:Str}(h:ax.aL p n∈ai):ax.aF p n∈ai:=(I.at h).elim λ _ h=>h.elim λ _ h=>h.1▸List.mem_append_right _ (List.mem_cons_of_mem _ h.2.2)
theorem Inv.Rh(I:Inv sz ps ai)(a b:List ax)(c:Ch)(n:Str)(h:ai=a++ax.b5 c (.mark n)::b):ax.aF c.2 n∈a:=(I.fits a _ b h).2 n rfl
theorem Inv.Nk(I:Inv sz ps ai)(a b:List ax)(c:Ch)(n:Str)(h:ai=a++ax.out c (.mark n)::b):ax.aF c.1 n∈a:=((I.fits a _ b h).2 n rfl).2
theorem Inv.Nm(I:Inv sz ps ai)(a b:List ax)(i:Nat)(n:Str)(h:ai=a++ax.aF i n::b):ax.aF i n∉a->∀c∈ps,c.1=i->∃r,outs c b=.mark n::r:=(I.fits a _ b h).2
theorem l9{G:Type}{l r a b:List G}{x:G}(h:l++r=a++x::b):(∃b0,l=a++x::b0/\b=b0++r)\/(∃a0,a=l++a0/\r=a0++x::b):=by
 rcases List.append_eq_append_iff.1 h with h1 | ⟨c0,h1,h2⟩
 ·exact .inr h1
 ·cases c0 with
  |nil=>exact .inr ⟨[],by rw[h1,List.append_nil,List.append_nil],h2.symm⟩
  |cons y t=>cases h2;exact .inl ⟨t,h1,rfl⟩
theorem Inv.le(I:Inv sz ps ai)(c:Ch):(bN c ai).length<=(outs c ai).length:=(I.Ab c).length_le
theorem Inv.eB(I:Inv sz ps ai)(c:Ch):outs c ai=bN c ai++aq ai c:=by
 obtain⟨t,ht⟩:=I.Ab c;unfold aq;rw[<-ht,List.drop_left]
theorem nv{G β:Type}{c d:G}[Decidable (d=c)]{m m':β}(h:(if d=c then some m' else none)=some m):d=c/\m'=m:=by
 by_cases q:d=c
 ·exact⟨q,Option.some.inj ((if_pos q).symm.trans h)⟩
 ·cases(if_neg q).symm.trans h
theorem fM{c:Ch}{m:cB}{l:List ax}:m∈outs c l↔ax.out c m∈l:=by
 refine List.mem_filterMap.trans ⟨fun⟨e,h1,h2⟩=>?_,λ h=>⟨_,h,if_pos rfl⟩⟩;cases e with
 |out d m'=>cases(nv h2).1;cases(nv h2).2;exact h1
 |_=>cases h2
theorem oz{c:Ch}{m:cB}{l:List ax}:m∈bN c l↔ax.b5 c m∈l:=by
 refine List.mem_filterMap.trans ⟨fun⟨e,h1,h2⟩=>?_,λ h=>⟨_,h,if_pos rfl⟩⟩;cases e with
 |b5 d m'=>cases(nv h2).1;cases(nv h2).2;exact h1
 |_=>cases h2
theorem Fits.mono{nm Rv:List Str}{a b x:List ax}{e:ax}(h:Fits sz ps nm a b e)(hn:∀n,n∈nm->n∈Rv):Fits sz ps Rv a (b++x) e:=by
 cases e with
 |out c m=>exact⟨h.1,λ n q=>⟨hn n (h.2 n q).1,(h.2 n q).2⟩⟩
 |b5 c m=>exact h
 |aF p n=>exact⟨⟨hn n h.1.1,h.1.2⟩,λ q c hc hp=>(h.2 q c hc hp).elim λ r hr=>⟨r++outs c x,by rw[cY,hr];rfl⟩⟩
 |aL p n=>exact⟨h.1,List.mem_append_left _ h.2⟩
theorem Inv.step(I:Inv sz ps ai)(hf:∀c,bN c (ai++ext) <+: outs c (ai++ext))(hn:(names (ai++ext)).Nodup)(h:∀a e b,ext=a++e::b->Fits sz ps (names (ai++ext)) (ai++a) b e):Inv sz ps (ai++ext):=by
 refine⟨hf,hn,λ a e b q=>?_⟩;rcases l9 q with ⟨b0,q1,rfl⟩ | ⟨a0,rfl,q2⟩
 ·exact(I.fits a e b0 q1).mono λ n hn=>by rw[a7];exact List.mem_append_left _ hn
 ·exact h a0 e b q2
theorem qJ{x e:ax}{a b:List ax}(h:[x]=a++e::b):a=[]/\x=e:=by
 cases a with
 |nil=>cases h;exact⟨rfl,rfl⟩
 |cons y t=>cases t<;>cases h
theorem n5(I:Inv sz ps ai)(c:Ch)(h:bN c ext=[]):bN c (ai++ext) <+: outs c (ai++ext):=by
 rw[dI,h,List.append_nil,cY];exact(I.Ab c).trans (List.prefix_append _ _)
theorem Inv.one(I:Inv sz ps ai){e:ax}(hf:∀c,bN c (ai++[e]) <+: outs c (ai++[e]))(hn:names [e]=[])(h:Fits sz ps (names ai) ai [] e):Inv sz ps (ai++[e]):=by
 have hn:names (ai++[e])=names ai:=by rw[a7,hn,List.append_nil]
 refine I.step hf (hn.symm▸I.tV) λ a e' b q=>?_;obtain⟨rfl,rfl⟩:=qJ q;cases q;rw[hn,List.append_nil];exact h
theorem mH(cE:ps.Nodup){p:Nat}{n:Str}{nm:List Str}{a b l:List ax}{e:ax}(hp:p<sz)(hn:n∈nm)(h:aK ps p n=a++e::b):Fits sz ps nm (l++a) b e:=by
 cases a with
 |nil=>
  cases h;exact⟨⟨hn,hp⟩,λ _ c hc Tf=>⟨[],(dc cE p n c).trans (if_pos ⟨hc,Tf⟩)⟩⟩
 |cons y t=>
  have h0:=List.cons.inj h;have hm:e∈marks ps p n:=(show marks ps p n=t++e::b from h0.2)▸List.mem_append_right t List.mem_cons_self;obtain⟨c,h1,h2,rfl⟩:=jt hm;exact⟨h1,λ n' q=>cB.mark.inj q▸⟨hn,h0.1▸h2▸List.mem_append_right _ List.mem_cons_self⟩⟩
theorem AV(cE:ps.Nodup)(I:Inv sz ps ai)(p:Nat)(n:Str)(hp:p<sz)(hn:n∉names ai)(h2:n="a"\/n="b"):Inv sz ps (ai++[.aL p n]++aK ps p n):=by
 rw[List.append_assoc];have oq:names (ai++([ax.aL p n]++aK ps p n))=names ai++[n]:=by
  rw[a7,a7,cg];rfl
 refine I.step (λ c=>n5 I c (bI p n c)) ?_ λ a e b h=>?_
 ·rw[oq];exact Bm I.tV hn
 ·cases a with
  |nil=>cases h;exact⟨h2,List.mem_cons_self⟩
  |cons y t=>
   rw[oq,List.append_cons ai y t];exact mH cE hp (List.mem_append_right _ List.mem_cons_self) (List.cons.inj h).2
theorem AU(I:Inv sz ps ai){c:Ch}{v:Int}(hc:c∈ps):Inv sz ps (ai++[.out c (.cO v)]):=I.one (λ d=>n5 I d rfl) rfl ⟨hc,λ _ h=>by cases h⟩
theorem w3(I:Inv sz ps ai){c:Ch}{m:cB}{r:List cB}(hc:c∈ps)(hq:aq ai c=m::r)(h:∀n,m=.mark n->ax.aF c.2 n∈ai):Inv sz ps (ai++[.b5 c m]):=by
 refine I.one (λ d=>?_) rfl ⟨⟨hc,r,hq▸I.eB c⟩,h⟩;rw[dI,jm,cY,show outs d [ax.b5 c m]=[] from rfl,List.append_nil];by_cases e:c=d
 ·rw[if_pos e,<-e,I.eB c,hq];exact⟨r,List.append_assoc ..⟩
 ·rw[if_neg e,List.append_nil];exact I.Ab d
theorem tJ(cE:ps.Nodup)(I:Inv sz ps ai){c:Ch}{n:Str}(hc:c∈ps)(hz:c.2<sz){r:List cB}(hq:aq ai c=.mark n::r):Inv sz ps (ai++aK ps c.2 n):=by
 have pB:n∈names ai:=I.O7 c n (fM.1 (by rw[I.eB c,hq];exact List.mem_append_right _ List.mem_cons_self));have oq:names (ai++aK ps c.2 n)=names ai:=by rw[a7,cg,List.append_nil]
 exact I.step (λ d=>n5 I d (bI ..)) (oq.symm▸I.tV) λ a e b h=>mH cE hz (oq.symm▸pB) h
theorem k8(I:Inv sz ps ai){c:Ch}{p:Nat}{n:Str}{m:cB}{r:List cB}(hq:aq ai c=m::r):aq (ai++aK ps p n) c=m::(r++outs c (aK ps p n)):=by
 rw[c5 (I.le c) (bI ..),hq];rfl
end Q.L1
end
section
namespace Q.L1
open PySem Classical Mine.Internal.L1
variable{ps places:List Ch}{aa:List Int}{ai:List ax}
theorem w4(sz:Nat)(ps:List Ch):Inv sz ps []:=⟨λ c=>List.prefix_refl _,List.nodup_nil,λ a e b h=>absurd h.symm (List.append_ne_nil_of_right_ne_nil _ (List.cons_ne_nil _ _))⟩
inductive Nx(ps:List Ch)(ai:List ax):jI->List ax->Prop
 |same {e:jI} (h:∀c,e=.recv c->c∈ps->aq ai c=[]):Nx ps ai e ai
 |aL {p:Nat} {n:Str} (h:n∉names ai):Nx ps ai (.aL p n) (ai++[.aL p n]++aK ps p n)
 |send {c:Ch} {v:Int} (hc:c∈ps):Nx ps ai (.send c v) (ai++[.out c (.cO v)])
 |b5 {c:Ch} {m:cB} {r:List cB} (hc:c∈ps) (hq:aq ai c=m::r) (h:∀n,m=.mark n->ax.aF c.2 n∈ai):Nx ps ai (.recv c) (ai++[.b5 c m])
 |Gs {c:Ch} {n:Str} {r:List cB} (hc:c∈ps) (hq:aq ai c=.mark n::r) (h:ax.aF c.2 n∉ai):Nx ps ai (.recv c) (ai++aK ps c.2 n++[.b5 c (.mark n)])
theorem rC(e:jI):Nx ps ai e (bU ps aa ai e).2:=by
 cases e with
 |aL p n=>
  by_cases h:n∈names ai
  ·rw[show bU ps aa ai (.aL p n)=_ from if_pos h];exact .same (by intro _ h;cases h)
  ·rw[show bU ps aa ai (.aL p n)=_ from if_neg h];exact .aL h
 |send c v=>
  by_cases h:c∈ps
  ·rw[show bU ps aa ai (.send c v)=_ from if_pos h];by_cases h':bF ai c.1 (aa.getD c.1 0)<v
   ·rw[if_pos h'];exact .same (by intro _ h;cases h)
   ·rw[if_neg h'];exact .send h
  ·rw[show bU ps aa ai (.send c v)=_ from if_neg h];exact .same (by intro _ h;cases h)
 |recv c=>
  by_cases h:c∈ps
  ·rw[show bU ps aa ai (.recv c)=_ from if_pos h];cases hq:aq ai c with
   |nil=>exact .same λ d e _=>jI.recv.inj e▸hq
   |cons m r=>
    cases m with
    |cO v=>exact .b5 h hq (by intro _ h;cases h)
    |mark n=>
     show Nx ps ai _ ((if ax.aF c.2 n∈ai then ai else ai++aK ps c.2 n)++_);by_cases hs:ax.aF c.2 n∈ai
     ·rw[if_pos hs];exact .b5 h hq λ n' q=>cB.mark.inj q▸hs
     ·rw[if_neg hs];exact .Gs h hq hs
  ·rw[show bU ps aa ai (.recv c)=_ from if_neg h];exact .same λ d e hd=>absurd (jI.recv.inj e▸hd) h
theorem IA(cE:ps.Nodup)(hz:∀c∈ps,c.1<aa.length/\c.2<aa.length)(I:Inv aa.length ps ai){e:jI}{l:List ax}(h:Nx ps ai e l)(hE:pY aa.length places e):Inv aa.length ps l:=by
 cases h with
 |same=>exact I
 |aL h=>exact AV cE I _ _ hE.1 h hE.2
 |send h=>exact AU I h
 |b5 hc hq h=>exact w3 I hc hq h
 |Gs hc hq h=>exact w3 (tJ cE I hc (hz _ hc).2 hq) hc (k8 I hq) λ n' q=>cB.mark.inj q▸List.mem_append_right _ List.mem_cons_self
theorem wI(cE:ps.Nodup)(hz:∀c∈ps,c.1<aa.length/\c.2<aa.length)(I:Inv aa.length ps ai){e:jI}(hE:pY aa.length places e):Inv aa.length ps (bU ps aa ai e).2:=IA cE hz I (rC e) hE
theorem xO{l:List Str}(h:l.Nodup)(h2:∀n∈l,n="a"\/n="b"):l.length<=2:=by
 cases l with
 |nil=>exact Nat.zero_le _
 |cons a l=>
  cases l with
  |nil=>exact Nat.le_succ 1
  |cons b l=>
   cases l with
   |nil=>exact Nat.le_refl 2
   |cons c l=>
    have na:=(List.nodup_cons.1 h).1;have nb:=(List.nodup_cons.1 (List.nodup_cons.1 h).2).1;have ab:a≠b:=λ e=>na (e▸List.mem_cons_self);have ac:a≠c:=λ e=>na (e▸List.mem_cons_of_mem _ List.mem_cons_self);have bc:b≠c:=λ e=>nb (e▸List.mem_cons_self);have hb:=h2 b (List.mem_cons_of_mem _ List.mem_cons_self);have hc:=h2 c (List.mem_cons_of_mem _ (List.mem_cons_of_mem _ List.mem_cons_self));exact(h2 a List.mem_cons_self).elim (λ e=>absurd ((hb.resolve_left λ q=>ab (e.trans q.symm)).trans (hc.resolve_left λ q=>ac (e.trans q.symm)).symm) bc) λ e=>absurd ((hb.resolve_right λ q=>ab (e.trans q.symm)).trans (hc.resolve_right λ q=>ac (e.trans q.symm)).symm) bc
theorem BU(ai:List ax)(c:Ch)(n:Str):(aP ai c n).2.length<=ai.length:=by
 have key:∀l:List ax,l.length<=ai.length->(du (bN c l)).length<=ai.length:=λ l h=>Nat.le_trans (Nat.le_trans (List.length_filterMap_le _ _) (List.length_filterMap_le _ _)) h;have s1:(since (ax.aF c.2 n) ai).length<=ai.length:=(List.dropWhile_sublist _).length_le;unfold aP;by_cases h:ax.aF c.2 n∈ai
 ·rw[if_pos h];by_cases h':ax.b5 c (.mark n)∈since (ax.aF c.2 n) ai
  ·rw[if_pos h'];exact key _ (Nat.le_trans (List.takeWhile_sublist _).length_le s1)
  ·rw[if_neg h'];exact key _ s1
 ·rw[if_neg h];exact Nat.zero_le _
theorem Mr(ai:List ax)(j:Nat):((F ps aa ai).q j).length<=ai.length:=by
 show(ps[j]?.elim [] (aq ai)).length<=_;cases ps[j]? with
 |none=>exact Nat.zero_le _
 |some c=>exact Nat.le_trans (List.drop_sublist _ _).length_le (List.length_filterMap_le _ _)
theorem E6(n:Nat)(cE:ps.Nodup)(hz:∀c∈ps,c.1<aa.length/\c.2<aa.length)(I:Inv aa.length ps ai)(hsz:aa.length<=1000)(hl:ai.length<=50000){e:jI}(hE:pY aa.length places e) :
  (bM.run (n+5)).P "step" [.d (eA aa.length ps),.d (fV (bz ps aa ai)),.d (d7 e)]=some (some (.d (.tuple [fV (bz ps aa (bU ps aa ai e).2),.str (bU ps aa ai e).1]))):=by
 have s2:∀{l},Inv aa.length ps l->(F ps aa l).s.length<=2:=λ I=>Nat.le_trans (Nat.le_of_eq (List.length_map _)) (xO I.tV I.two);have s3:∀{k},2<k->(F ps aa ai).s.length<k:=λ h=>Nat.lt_of_le_of_lt (s2 I) h;have R:=w8 aa.length ps (F ps aa ai);have lim:∀{k},k<=ai.length->k<cW:=λ h=>Nat.lt_of_le_of_lt (Nat.le_trans h hl) (by decide);have hq:∀j,j<ps.length->((F ps aa ai).q j).length<cW:=λ j _=>lim (Mr ai j);have I':=s2 (wI cE hz I hE);rw[<-BW,<-BW];refine BP n (F ps aa ai) (F ps aa (bU ps aa ai e).2) e _ (Nat.le_trans (s2 I) (by decide)) (Nat.le_trans I' (by decide)) ?_;have oo:∀nm,(∃s∈(F ps aa ai).s,s.name=nm)↔nm∈names ai:=λ nm=>
  ⟨(by rintro⟨s,h1,h2⟩;exact(List.mem_map.1 h1).elim λ m h=>h2▸h.2▸h.1),λ h=>⟨_,List.mem_map.2 ⟨nm,h,rfl⟩,rfl⟩⟩
 cases e with
 |aL p nm=>
  refine bC λ k9=>?_;obtain⟨v,aj,h1,h2⟩:=uQ (n+1) p nm R (s3 (by decide)) (Nat.le_trans hsz (by decide)) hE.1 hq;refine k9 ⟨v,aj,h1,?_⟩;by_cases h:nm∈names ai
  ·rw[if_pos ((oo nm).2 h)] at h2;rw[show bU ps aa ai (.aL p nm)=_ from if_pos h];exact h2
  ·rw[if_neg (λ q=>h ((oo nm).1 q)),zW cE I.le I.tV (λ p n q=>(I.JG p n q).1) p nm h] at h2;rw[show bU ps aa ai (.aL p nm)=_ from if_neg h];exact h2
 |send c v=>
  by_cases h:c∈ps
  ·rw[show bU ps aa ai (.send c v)=_ from if_pos h];refine bC λ k9=>?_;obtain⟨w,aj,h1,h2⟩:=uP (n+1) c v R h (hz c h).1 hq;refine k9 ⟨w,aj,h1,?_⟩;by_cases h':bF ai c.1 (aa.getD c.1 0)<v
   ·rw[if_pos h'];exact(if_pos (show(F ps aa ai).b c.1<v from h')).mp h2
   ·rw[if_neg h'];exact zV cE I.le (cS h) v▸(if_neg (show ¬(F ps aa ai).b c.1<v from h')).mp h2
  ·rw[show bU ps aa ai (.send c v)=_ from if_neg h];exact kD (n+1) c v R h
 |recv c=>
  by_cases h:c∈ps
  ·rw[show bU ps aa ai (.recv c)=_ from if_pos h];have OJ:(F ps aa ai).q (before c ps).length=aq ai c:=congrArg (Option.elim · [] (aq ai)) (cS h);cases Jt:aq ai c with
   |nil=>exact pF (n+1) c R h (OJ.trans Jt)
   |cons m r=>
    refine bC λ k9=>?_;cases m with
    |cO v=>
     obtain⟨w,aj,h1,h2⟩:=x6 (n+1) c v r R h (hz c h).2 (s3 (by decide)) (λ s hs j=>by
      obtain⟨m,_,rfl⟩:=List.mem_map.1 hs;show(ps[j]?.elim (0,[]) _).2.length<_;cases ps[j]? with
      |none=>exact lim (Nat.zero_le _)
      |some d=>exact lim (BU ai d m)) (OJ.trans Jt)
     exact k9 ⟨w,aj,h1,C6 cE I.le (cS h) v r Jt▸h2⟩
    |mark nm=>
     have pB:nm∈names ai:=I.O7 c nm (fM.1 (by rw[I.eB c,Jt];exact List.mem_append_right _ List.mem_cons_self));obtain⟨w,aj,h1,i,s,hs,oq,h2⟩:=uO n c nm r R h (hz c h).2 (s3 (by decide)) hq ((oo nm).2 pB) (OJ.trans Jt);exact k9 ⟨w,aj,h1,zU cE I.le I.tV (cS h) nm r Jt hs oq▸h2⟩
  ·rw[show bU ps aa ai (.recv c)=_ from if_neg h];exact kC (n+1) c R h
theorem C5(e:jI):(bU ps aa ai e).2.length<=ai.length+(ps.length+2):=by
 have sl:∀p n,(aK ps p n).length<=ps.length+1:=λ p n=>Nat.succ_le_succ (Nat.le_trans (Nat.le_of_eq (List.length_map _)) (List.length_filter_le ..));have h:=rC (ps:=ps) (aa:=aa) (ai:=ai) e;generalize (bU ps aa ai e).2=l at h;cases h with
 |same=>exact Nat.le_add_right ..
 |aL h=>rw[List.append_assoc,List.length_append];exact Nat.add_le_add_left (Nat.succ_le_succ (sl ..)) _
 |send h=>rw[List.length_append];exact Nat.add_le_add_left (Nat.succ_le_succ (Nat.zero_le _)) _
 |b5 hc hq h=>rw[List.length_append];exact Nat.add_le_add_left (Nat.succ_le_succ (Nat.zero_le _)) _
 |Gs hc hq h=>rw[List.append_assoc,List.length_append,List.length_append];exact Nat.add_le_add_left (Nat.succ_le_succ (sl ..)) _
end Q.L1
end
section
namespace Q.L1
open PySem Classical Mine.Internal.L1
variable{ao:List Nat}
theorem qD(g:List aQ)(e:aQ)(p k:Nat):gD (g++[e]) p k=gD g p k++(if aA e=p/\bk g p+1<=k then [e] else []):=by
 delta gD bk;rw[List.filter_append,List.take_append];refine congrArg _ ?_;by_cases h:aA e=p
 ·rw[show List.filter (λ x=>decide (aA x=p)) [e]=[e] from List.filter_cons_of_pos (decide_eq_true h)];by_cases q:(g.filter λ x=>decide (aA x=p)).length+1<=k
  ·rw[if_pos ⟨h,q⟩];exact List.take_of_length_le (Nat.le_sub_of_add_le (Nat.add_comm 1 _▸q))
  ·rw[if_neg (λ z=>q z.2),Nat.sub_eq_zero_of_le (Nat.le_of_lt_succ (Nat.not_le.mp q))];rfl
 ·rw[if_neg (λ z=>h z.1),show List.filter (λ x=>decide (aA x=p)) [e]=[] from List.filter_cons_of_neg (λ z=>h (of_decide_eq_true z))];exact List.take_nil
theorem rW(h:List aQ)(ao:List Nat)(c:Ch):gO h ao c=cq h ao c:=by
 induction h using snoc_ind with
 |h0=>simp[gO,cq,gD]
 |h1 g e ih=>
  rw[dp,ih];unfold cq;rw[qD,List.filterMap_append];congr 1;obtain⟨d,x⟩:=e;cases x with
  |none=>
   by_cases q:aA (d,none)=c.1/\bk g c.1+1<=ao.getD c.1 0
   ·rw[if_pos q];have:ie c.2 (d,none)=none:=by simp[ie]
    simp[List.filterMap_cons,this]
   ·rw[if_neg q];simp
  |some v=>
   by_cases e1:d.1=c.1
   ·by_cases q:bk g c.1+1<=ao.getD c.1 0
    ·have q':aA (d,some v)=c.1/\bk g c.1+1<=ao.getD c.1 0:=⟨e1,q⟩;rw[if_pos q'];by_cases e2:d.2=c.2
     ·have hd:d=c:=Prod.ext e1 e2;subst hd;have n1:((d,some v).1=d/\isIn ao g (d,some v)):=⟨rfl,q⟩;rw[if_pos n1];simp[List.filterMap_cons,ie]
     ·have n1:¬((d,some v).1=c/\isIn ao g (d,some v)):=λ z=>e2 (by rw[<-z.1]);rw[if_neg n1];simp[List.filterMap_cons,ie,e2]
    ·have n2:¬(aA (d,some v)=c.1/\bk g c.1+1<=ao.getD c.1 0):=λ z=>q z.2;rw[if_neg n2];have n1:¬((d,some v).1=c/\isIn ao g (d,some v)):=λ z=>q (by have:=z.2;unfold isIn at this;rw[show aA (d,some v)=c.1 from e1] at this;exact this);rw[if_neg n1];rfl
   ·have n1:¬((d,some v).1=c/\isIn ao g (d,some v)):=λ z=>e1 (by rw[<-z.1]);rw[if_neg n1,if_neg (λ z=>e1 z.1)];rfl
theorem rU(h:List aQ)(ao:List Nat)(c:Ch):ic h ao c=(b8 h ao c).length:=by
 induction h using snoc_ind with
 |h0=>simp[ic,b8,gD]
 |h1 g e ih=>
  rw[dm,ih];unfold b8;rw[qD,List.filterMap_append,List.length_append];congr 1;obtain⟨d,x⟩:=e;cases x with
  |some v=>
   have n1:¬((d,some v)=(c,none)/\isIn ao g (d,some v)):=λ z=>by have:=(Prod.mk.inj z.1).2;cases this
   rw[if_neg n1];by_cases q:aA (d,some v)=c.2/\bk g c.2+1<=ao.getD c.2 0
   ·rw[if_pos q];have:gm c.1 (d,some v)=none:=by rfl
    rfl
   ·rw[if_neg q];rfl
  |none=>
   by_cases e1:d.2=c.2
   ·by_cases q:bk g c.2+1<=ao.getD c.2 0
    ·have q':aA (d,none)=c.2/\bk g c.2+1<=ao.getD c.2 0:=⟨e1,q⟩;rw[if_pos q'];by_cases e2:d.1=c.1
     ·have hd:d=c:=Prod.ext e2 e1;subst hd;have n1:((d,(none:Option Int))=(d,none)/\isIn ao g (d,none)):=⟨rfl,q⟩;rw[if_pos n1];simp[List.filterMap_cons,gm]
     ·have n1:¬((d,(none:Option Int))=(c,none)/\isIn ao g (d,none)):=λ z=>e2 (by rw[(Prod.mk.inj z.1).1]);rw[if_neg n1];simp[List.filterMap_cons,gm,e2]
    ·have n2:¬(aA (d,none)=c.2/\bk g c.2+1<=ao.getD c.2 0):=λ z=>q z.2;rw[if_neg n2];have n1:¬((d,(none:Option Int))=(c,none)/\isIn ao g (d,none)):=λ z=>q (by have:=z.2;unfold isIn at this;rw[show aA (d,none)=c.2 from e1] at this;exact this);rw[if_neg n1];rfl
   ·have n1:¬((d,(none:Option Int))=(c,none)/\isIn ao g (d,none)):=λ z=>e1 (by rw[(Prod.mk.inj z.1).1]);rw[if_neg n1,if_neg (λ z=>e1 z.1)];rfl
theorem p0(g:List aQ)(c:Ch)(h:bk g c.1<=ao.getD c.1 0):(gO g ao c).length=(aM g c).length:=by
 induction g using snoc_ind with
 |h0=>rfl
 |h1 g e ih=>
  rw[bW] at h;rw[dp,bV,List.length_append,List.length_append,ih (Nat.le_trans (Nat.le_add_right _ _) h)];refine congrArg _ ?_;obtain⟨d,x⟩:=e;by_cases e1:d=c
  ·subst e1;cases x with
   |none=>
    rw[if_neg (c:=(d,none).1=d/\(d,(none:Option Int)).2≠none) (λ z=>z.2 rfl)];split<;>rfl
   |some v=>
    rw[show(if aA (d,some v)=d.1 then 1 else 0)=1 from if_pos rfl] at h;rw[if_pos ⟨rfl,h⟩,if_pos ⟨rfl,λ z=>by cases z⟩];rfl
  ·rw[if_neg (λ z=>e1 z.1),if_neg (λ z=>e1 z.1)];rfl
theorem x3(g:List aQ)(c:Ch)(h:bk g c.2<=ao.getD c.2 0):ic g ao c=cA g c:=by
 induction g using snoc_ind with
 |h0=>rfl
 |h1 g e ih=>
  rw[bW] at h;rw[dm,eC,ih (Nat.le_trans (Nat.le_add_right _ _) h)];by_cases e1:e=(c,none)
  ·subst e1;rw[show(if aA (c,none)=c.2 then 1 else 0)=1 from if_pos rfl] at h;rw[if_pos ⟨rfl,h⟩,if_pos rfl]
  ·rw[if_neg (λ z=>e1 z.1),if_neg e1]
theorem lG(g post:List aQ)(p:Nat):bk g p<=bk (g++post) p:=by
 unfold bk;rw[List.filter_append,List.length_append];exact Nat.le_add_right _ _
theorem tU(g post:List aQ)(c:Ch)(h:ao.getD c.1 0<=bk g c.1):gO (g++post) ao c=gO g ao c:=by
 induction post using snoc_ind with
 |h0=>simp
 |h1 r e ih=>
  rw[<-List.append_assoc,dp,ih];have hm:=lG g r c.1;obtain⟨d,x⟩:=e;cases x with
  |none=>split<;>exact List.append_nil _
  |some v=>
   have n1:¬((d,some v).1=c/\isIn ao (g++r) (d,some v)):=fun⟨z1,z⟩=>by
    have z1:d=c:=z1;subst z1;exact Nat.not_succ_le_self _ (Nat.le_trans z (Nat.le_trans h hm))
   rw[if_neg n1,List.append_nil]
theorem qu(g post:List aQ)(c:Ch):(gO g ao c).length<=(gO (g++post) ao c).length:=by
 induction post using snoc_ind with
 |h0=>simp
 |h1 r e ih=>
  rw[<-List.append_assoc,dp,List.length_append];exact Nat.le_trans ih (Nat.le_add_right _ _)
theorem qt(g post:List aQ)(c:Ch):ic g ao c<=ic (g++post) ao c:=by
 induction post using snoc_ind with
 |h0=>simp
 |h1 r e ih=>
  rw[<-List.append_assoc,dm];exact Nat.le_trans ih (Nat.le_add_right _ _)
theorem rV(g:List aQ)(c:Ch):ic g ao c<=cA g c:=by
 induction g using snoc_ind with
 |h0=>exact Nat.le_refl _
 |h1 g e ih=>
  rw[dm,eC];by_cases e1:e=(c,none)
  ·rw[if_pos e1];split<;>(first | exact Nat.le_succ_of_le ‹_› | exact Nat.lt_succ_of_le ‹_›)
  ·rw[if_neg e1,if_neg (λ z=>e1 z.1)];assumption
theorem B8{h g post:List aQ}(hv:Valid h)(hs:h=g++post)(c:Ch):cA g c<=(aM g c).length:=by
 subst hs
 induction g using snoc_ind generalizing post with
 |h0=>exact Nat.le_refl _
 |h1 g e ih=>
  have ih:=ih (post:=e::post) (by simpa using hv);rw[eC,bV,List.length_append];by_cases e1:e=(c,none)
  ·subst e1;have:=hv g c post (by exact List.append_assoc _ _ _);rw[if_pos rfl];lia
  ·rw[if_neg e1];lia
theorem xF(g:List aQ)(c:Ch)(i:Nat)(hi:i<(aM g c).length):∃gj v post,g=gj++(c,some v)::post/\gj.length=(aM g c)[i]/\(aM gj c).length=i:=by
 induction g using snoc_ind with
 |h0=>simp[aM] at hi
 |h1 g e ih=>
  by_cases h:i<(aM g c).length
  ·obtain⟨gj,v,post,h1,h2,h3⟩:=ih h;refine⟨gj,v,post++[e],by rw[h1];simp,?_,h3⟩;rw[h2];have:(aM (g++[e]) c)[i]?=(aM g c)[i]?:=by rw[bV,List.getElem?_append_left h]
   rw[List.getElem?_eq_getElem h,List.getElem?_eq_getElem hi] at this;exact(Option.some.inj this).symm
  ·have hs:=bV g e c;by_cases q:e.1=c/\e.2≠none
   ·rw[if_pos q] at hs;have hl:(aM (g++[e]) c).length=(aM g c).length+1:=by rw[hs];simp
    have QL:i=(aM g c).length:=by lia
    obtain⟨d,x⟩:=e;cases x with
    |none=>exact absurd rfl q.2
    |some v=>
     obtain rfl:d=c:=q.1;refine⟨g,v,[],rfl,?_,QL.symm⟩;have:(aM (g++[(d,some v)]) d)[i]?=some g.length:=by
      rw[hs,QL];simp
     rw[List.getElem?_eq_getElem hi] at this;exact(Option.some.inj this).symm
   ·rw[if_neg q,List.append_nil] at hs;exfalso;rw[hs] at hi;exact h hi
theorem D2(g:List aQ)(c:Ch):(gO g ao c).length<=(aM g c).length:=by
 induction g using snoc_ind with
 |h0=>exact Nat.le_refl _
 |h1 g e ih=>
  rw[dp,bV,List.length_append,List.length_append];refine Nat.add_le_add ih ?_;obtain⟨d,x⟩:=e;by_cases q:(d,x).1=c/\isIn ao g (d,x)
  ·rw[if_pos q];cases x with
   |none=>exact Nat.zero_le _
   |some w=>rw[if_pos ⟨q.1,λ z=>by cases z⟩];exact Nat.le_refl _
  ·rw[if_neg q];exact Nat.zero_le _
theorem s6{h:List aQ}(hv:Valid h)(ao:List Nat):Cons h ao↔∀c,ic h ao c<=(gO h ao c).length:=by
 constructor
 ·intro hC c;have gen:∀(g post:List aQ),h=g++post->ic g ao c<=(gO g ao c).length:=by
   intro g
   induction g using snoc_ind with
   |h0=>intro post _;exact Nat.le_refl _
   |h1 g e ih=>
    intro post hs;have kX:h=g++e::post:=by rw[hs];simp
    have ih:=ih (e::post) kX;rw[dm];by_cases q:e=(c,none)/\isIn ao g e
    ·rw[if_pos q];obtain⟨rfl,qi⟩:=q;have cz:=hv g c post kX;obtain⟨gj,v,pj,h1,h2,h3⟩:=xF g c (cA g c) cz;have hk:g.length∈splitOf h ao:=(cK h g post (c,none) ao kX).2 qi;have Ly:(aM g c)[cA g c]∈eR h g.length:=by
      unfold eR;have:(aR h)[g.length]?=some (aX g (c,none)):=by
       rw[fu,kX];simp
      rw[this];simp[aX,cz]
     have hj:=hC _ hk _ Ly;rw[<-h2,cK h gj (pj++(c,none)::post) (c,some v) ao (by rw[kX,h1];simp)] at hj;have oh:=p0 (ao:=ao) (gj++[(c,some v)]) c (by
      rw[bW];unfold isIn at hj;rw[show aA (c,some v)=c.1 from rfl] at hj ⊢;simpa using hj)
     rw[bV,if_pos ⟨rfl,by simp⟩,List.length_append,h3] at oh;have hm:=qu (ao:=ao) (gj++[(c,some v)]) (pj++[(c,none)]) c;have e2:gj++[(c,some v)]++(pj++[(c,none)])=g++[(c,none)]:=by rw[h1];simp
     rw[e2] at hm;have:=rV (ao:=ao) g c;simp only[List.length_singleton] at oh;lia
    ·rw[if_neg q];have:=qu (ao:=ao) g [e] c;exact Nat.le_trans ‹_› ‹_›
  exact gen h [] (by simp)
 ·intro hI k hk j hj;have CF:=i6 hk;obtain⟨e,he⟩:∃e,h[k]?=some e:=⟨_,List.getElem?_eq_getElem CF⟩;have hs:h=h.take k++e::h.drop (k+1):=by
   conv=>lhs;rw[<-List.take_append_drop k h]
   rw[List.drop_eq_getElem_cons CF];congr 2;rw[List.getElem?_eq_getElem CF] at he;exact Option.some.inj he
  have QJ:(h.take k).length=k:=by rw[List.length_take];lia
  have Lm:=(cK h _ _ e ao hs);rw[QJ] at Lm;have qi:=Lm.1 hk;have Gb:eR h k=(aX (h.take k) e).2:=by
   unfold eR;rw[fu,he];rfl
  rw[Gb] at hj;generalize h.take k=g at *;generalize h.drop (k+1)=post at *;simp only[aX,List.mem_append] at hj;rcases hj with hj | hj
  ·-- UT event before,of UT same process
   rw[Option.mem_toList] at hj;have last:∀(g:List aQ) (p j:Nat),cF g p=some j->∃gj x pj,g=gj++x::pj/\gj.length=j/\aA x=p:=by
    intro g p
    induction g using snoc_ind with
    |h0=>intro j hj;simp[cF] at hj
    |h1 g x ih=>
     intro j hj;rw[fm] at hj;by_cases q:aA x=p
     ·rw[if_pos q] at hj;exact⟨g,x,[],rfl,Option.some.inj hj,q⟩
     ·rw[if_neg q] at hj;obtain⟨gj,y,pj,h1,h2,h3⟩:=ih j hj;exact⟨gj,y,pj++[x],by rw[h1];simp,h2,h3⟩
   obtain⟨gj,x,pj,h1,h2,h3⟩:=last g _ j hj;rw[<-h2,cK h gj (pj++e::post) x ao (by rw[hs,h1];simp)];unfold isIn at qi ⊢;rw[h3];have:=lG gj (x::pj) (aA e);rw[<-h1] at this;exact Nat.lt_of_le_of_lt ‹_› ‹_›
  ·obtain⟨c,x⟩:=e;cases x with
   |some v=>simp at hj
   |none=>
    simp only[List.mem_singleton] at hj;have cz:=hv g c post hs;obtain⟨gj,v,pj,h1,h2,h3⟩:=xF g c (cA g c) cz;have Ll:j=gj.length:=by rw[h2,hj];simp[cz]
    rw[Ll,cK h gj (pj++(c,none)::post) (c,some v) ao (by rw[hs,h1];simp)];by_cases pB:isIn ao gj (c,some v)
    ·exact pB
    ·exfalso;have fk:=tU (ao:=ao) gj ((c,some v)::(pj++(c,none)::post)) c (by
      unfold isIn at pB;rw[show aA (c,some v)=c.1 from rfl] at pB;exact Nat.not_lt.mp ‹_›)
     have e1:gj++(c,some v)::(pj++(c,none)::post)=h:=by rw[hs,h1];simp
     rw[e1] at fk;have a1:=hI c;rw[fk] at a1;have a2:=D2 (ao:=ao) gj c;have a3:=x3 (ao:=ao) (g++[(c,none)]) c (by
      rw[bW];unfold isIn at qi;rw[show aA (c,none)=c.2 from rfl] at qi ⊢;simpa using qi)
     rw[eC,if_pos rfl] at a3;have a4:=qt (ao:=ao) (g++[(c,none)]) post c;have e2:g++[(c,none)]++post=h:=by rw[hs];simp
     rw[e2] at a4;lia
theorem s7{h:List aQ}(hv:Valid h){ao:List Nat}(hC:Cons h ao)(g post:List aQ)(c:Ch)(hs:h=g++post):ic g ao c<=(gO g ao c).length:=by
 by_cases q:bk g c.1<=ao.getD c.1 0
 ·rw[p0 g c q];exact Nat.le_trans (rV g c) (B8 hv hs c)
 ·have:=tU (ao:=ao) g post c (by lia);rw[<-hs] at this;rw[<-this];have h1:=(s6 hv ao).1 hC c;have h2:=qt (ao:=ao) g post c;rw[<-hs] at h2;exact Nat.le_trans ‹_› ‹_›
end Q.L1
end
section
namespace Q.L1
open PySem Classical Mine.Internal.L1
variable{h:List aQ}{ao:List Nat}
theorem cJ{m:Nat}{e:aQ}(he:h[m]?=some e):h=h.take m++e::h.drop (m+1)/\(h.take m).length=m:=by
 have cz:=aJ he;refine⟨?_,by rw[List.length_take];exact Nat.min_eq_left (Nat.le_of_lt ‹_›)⟩
 conv=>lhs;rw[<-List.take_append_drop m h]
 rw[List.drop_eq_getElem_cons cz];congr 2;rw[List.getElem?_eq_getElem cz] at he;exact Option.some.inj he
theorem good_mono{k m m':Nat}(hm:m<=m')(hk:k∈bH h ao m):k∈bH h ao m':=by
 induction m' with
 |zero=>cases Nat.le_zero.1 hm;exact hk
 |succ m' ih=>
  by_cases e:m=m'+1
  ·rw[<-e];exact hk
  ·have:=ih (by exact Nat.le_of_lt_succ (Nat.lt_of_le_of_ne ‹_› ‹_›));cases he:h[m']? with
   |none=>exact good_none he▸this
   |some x=>
    rw[dU he];by_cases q:isIn ao (h.take m') x/\∀j∈(aX (h.take m') x).2,j∈bH h ao m'
    ·rw[if_pos q];exact List.mem_append_left _ this
    ·rw[if_neg q];exact this
theorem lV{k m:Nat}(hk:k∈bH h ao m):k∈bH h ao (k+1):=by
 induction m with
 |zero=>cases hk
 |succ m ih=>exact(wW hk).elim ih λ q=>q▸hk
noncomputable def Gd(h:List aQ)(ao:List Nat)(k:Nat):Prop:=k∈bH h ao h.length
theorem K0{k:Nat}(hk:Gd h ao k):k<h.length:=mY hk
theorem tL{G:Type}{P:Prop}{D:Decidable P}{a b:G}(h:(@ite _ P D (some a) none)=some b):a=b:=by
 by_cases q:P
 ·exact Option.some.inj ((if_pos q).symm.trans h)
 ·cases(if_neg q).symm.trans h
theorem pred_lt(hv:Valid h){g post:List aQ}{e:aQ}(hs:h=g++e::post){j:Nat}(hj:j∈(aX g e).2):j<g.length:=by
 have sl:∀c,∀j∈aM g c,j<g.length:=λ c j hj=>by
  obtain⟨x,h1,h2⟩:=List.mem_filterMap.1 hj;exact tL h2▸gI h1
 have ll:∀p j,cF g p=some j->j<g.length:=λ p j hj=>by
  obtain⟨x,h1,h2⟩:=List.mem_filterMap.1 (List.mem_of_getLast? hj);exact tL h2▸gI h1
 simp only[aX,List.mem_append] at hj;rcases hj with hj | hj
 ·rw[Option.mem_toList] at hj;exact ll _ _ hj
 ·obtain⟨c,x⟩:=e;cases x with
  |some v=>simp at hj
  |none=>
   simp only[List.mem_singleton] at hj;have cz:=hv g c post hs;rw[hj];have:(aM g c).getD (cA g c) 0=(aM g c)[cA g c]:=by simp[cz]
   rw[this];exact sl c _ (List.getElem_mem _)
theorem oc(hv:Valid h){g post:List aQ}{e:aQ}(hs:h=g++e::post):Gd h ao g.length↔isIn ao g e/\∀j∈(aX g e).2,Gd h ao j:=by
 have he:h[g.length]?=some e:=by rw[hs];simp
 have Nb:h.take g.length=g:=by rw[hs];simp
 have cz:=aJ he;have AM:=dU (ao:=ao) he;rw[Nb] at AM;have dn:∀j,j<g.length->(Gd h ao j↔j∈bH h ao g.length):=λ j hj=>
  ⟨λ q=>good_mono (by assumption) (lV q),λ q=>good_mono (by exact Nat.le_of_lt ‹_›) q⟩
 constructor
 ·intro q;have q:=lV q;rw[AM] at q;by_cases c:isIn ao g e/\∀j∈(aX g e).2,j∈bH h ao g.length
  ·exact⟨c.1,λ j hj=>(dn j (pred_lt hv hs hj)).2 (c.2 j hj)⟩
  ·rw[if_neg c] at q;have:=mY q;exact absurd ‹_› (Nat.lt_irrefl _)
 ·rintro⟨c1,c2⟩;have:g.length∈bH h ao (g.length+1):=by
   rw[AM,if_pos ⟨c1,λ j hj=>(dn j (pred_lt hv hs hj)).1 (c2 j hj)⟩];exact List.mem_append_right _ List.mem_cons_self
  exact good_mono (by assumption) this
theorem fL{m p:Nat}{e:aQ}(he:h[m]?=some e):cQ h ao (m+1) p=cQ h ao m p+if Gd h ao m/\aA e=p then 1 else 0:=by
 have cz:=aJ he;have hd:(decide ((h[m]?).map aA=some p))=decide (aA e=p):=by rw[he];simp only[Option.map_some,Option.some.injEq]
 have hG:Gd h ao m↔(isIn ao (h.take m) e/\∀j∈(aX (h.take m) e).2,j∈bH h ao m):=by
  constructor
  ·intro q;have q:=lV q;rw[dU he] at q;by_cases c:isIn ao (h.take m) e/\∀j∈(aX (h.take m) e).2,j∈bH h ao m
   ·exact c
   ·rw[if_neg c] at q;have:=mY q;exact absurd ‹_› (Nat.lt_irrefl _)
  ·intro c;have:m∈bH h ao (m+1):=by rw[dU he,if_pos c];exact List.mem_append_right _ List.mem_cons_self
   exact good_mono (by assumption) this
 unfold cQ;rw[dU he];by_cases c:isIn ao (h.take m) e/\∀j∈(aX (h.take m) e).2,j∈bH h ao m
 ·rw[if_pos c,List.filter_append,List.length_append];congr 1;simp only[List.filter_cons,List.filter_nil,hd];by_cases r:aA e=p
  ·have n:Gd h ao m/\aA e=p:=⟨hG.2 c,r⟩;rw[if_pos n];simp only[r,decide_true,if_true];rfl
  ·have n:¬(Gd h ao m/\aA e=p):=λ q=>r q.2;rw[if_neg n];simp only[r,decide_false];rfl
 ·rw[if_neg c,if_neg (λ q=>c (hG.1 q.1))];rfl
theorem A8(m p:Nat)(hm:m<=h.length):cQ h ao m p<=bk (h.take m) p:=by
 induction m with
 |zero=>exact Nat.zero_le _
 |succ m ih=>
  have he:h[m]?=some (h[m]'(by assumption)):=List.getElem?_eq_getElem (by assumption);rw[fL he,eD he,bW];have:=ih (by exact Nat.le_of_lt ‹_›);by_cases r:aA (h[m]'(by assumption))=p
  ·rw[if_pos r];split<;>(first | exact Nat.le_succ_of_le ‹_› | exact Nat.lt_succ_of_le ‹_›)
  ·rw[if_neg r,if_neg (λ q=>r q.2)];assumption
theorem A9{m m':Nat}(hm:m<=m')(hl:m'<=h.length)(p:Nat):cQ h ao m p<=cQ h ao m' p:=by
 induction m' with
 |zero=>cases Nat.le_zero.1 hm;exact Nat.le_refl _
 |succ m' ih=>
  by_cases e:m=m'+1
  ·rw[e];exact Nat.le_refl _
  ·have he:h[m']?=some (h[m']'(by assumption)):=List.getElem?_eq_getElem (by assumption);have:=ih (by exact Nat.le_of_lt_succ (Nat.lt_of_le_of_ne ‹_› ‹_›)) (by exact Nat.le_of_lt ‹_›);rw[fL he];exact Nat.le_trans ‹_› (Nat.le_add_right _ _)
theorem tN(g:List aQ)(p:Nat)(h0:0<bk g p):∃j gj x pj,cF g p=some j/\g=gj++x::pj/\gj.length=j/\aA x=p/\bk pj p=0:=by
 induction g using snoc_ind with
 |h0=>simp[bk] at h0
 |h1 g x ih=>
  by_cases q:aA x=p
  ·exact⟨g.length,g,x,[],by rw[fm,if_pos q],rfl,rfl,q,rfl⟩
  ·rw[bW,if_neg q] at h0;refine bC λ k9=>?_;obtain⟨j,gj,y,pj,h1,h2,h3,h4,h5⟩:=ih h0;refine k9 ?_;exact⟨j,gj,y,pj++[x],by rw[fm,if_neg q];exact h1,by rw[h2];simp,h3,h4,by rw[bW,if_neg q];exact h5⟩
theorem tW(hv:Valid h){m p:Nat}{e:aQ}(he:h[m]?=some e)(ho:aA e=p)(hn:¬Gd h ao m):∀k x,h[k]?=some x->aA x=p->m<=k->¬Gd h ao k:=by
 intro k
 induction k using Nat.strongRecOn with
 |ind k ih=>
  intro x hx LG QX hg;by_cases ek:k=m
  ·rw[ek] at hg;exact hn hg
  obtain⟨hs,hl⟩:=cJ hx;obtain⟨kX,F9⟩:=cJ he;have Tu:=(oc (ao:=ao) hv hs).1 (by rw[hl];exact hg);have AI:0<bk (h.take k) p:=by
   have:h.take k=h.take m++e::(h.take k).drop (m+1):=by
    have a:(h.take k)[m]?=some e:=by rw[List.getElem?_take_of_lt (Nat.lt_of_le_of_ne QX λ q=>ek q.symm)];exact he
    have:=(cJ a).1;rw[List.take_take,Nat.min_eq_left (by assumption)] at this;exact this
   rw[this];unfold bk;rw[List.filter_append,List.filter_cons];simp[ho];exact Nat.le_add_left _ _
  obtain⟨j,gj,y,pj,h1,h2,h3,h4,h5⟩:=tN (h.take k) p AI;have M6:j<k:=by
   rw[<-h3,<-hl,h2,List.length_append];exact Nat.lt_add_of_pos_right (Nat.succ_pos _)
  have M5:Gd h ao j:=Tu.2 j (by
   simp only[aX,LG,List.mem_append];left;rw[h1];simp)
  have TA:h[j]?=some y:=by
   have:(h.take k)[j]?=some y:=by rw[h2,<-h3];simp
   rw[List.getElem?_take_of_lt M6] at this;exact this
  have Tz:m<=j:=by
   apply Classical.byContradiction;intro cz;have cz:j<m:=by exact Nat.not_le.mp ‹_›
   have a:(h.take k)[m]?=some e:=by rw[List.getElem?_take_of_lt (Nat.lt_of_le_of_ne QX λ q=>ek q.symm)];exact he
   rw[h2,List.getElem?_append_right (h3▸Nat.le_of_lt cz)] at a;have e2:m-gj.length=(m-gj.length-1)+1:=(Nat.succ_pred_eq_of_pos (Nat.sub_pos_of_lt (h3▸cz))).symm;rw[e2,List.getElem?_cons_succ] at a;have:e∈pj:=List.mem_of_getElem? a;have:0<bk pj p:=by
    unfold bk;apply List.length_pos_of_mem (a:=e);rw[List.mem_filter];exact⟨this,decide_eq_true ho⟩
   exact Nat.ne_of_gt this h5
  exact ih j M6 y TA h4 Tz M5
theorem A7(hv:Valid h){m p:Nat}(hm:m<=h.length):cQ h ao m p=bk (h.take m) p\/∀k x,h[k]?=some x->aA x=p->m<=k->¬Gd h ao k:=by
 induction m with
 |zero=>left;rfl
 |succ m ih=>
  have he:h[m]?=some (h[m]'(by assumption)):=List.getElem?_eq_getElem (by assumption);generalize h[m]'(by assumption)=e at he;rcases ih (by exact Nat.le_of_lt ‹_›) with q | q
  ·by_cases r:aA e=p
   ·by_cases g:Gd h ao m
    ·left;rw[fL he,eD he,bW,if_pos ⟨g,r⟩,if_pos r,q]
    ·right;intro k x hx LG hk;exact tW hv he r g k x hx LG (by exact Nat.le_of_lt ‹_›)
   ·left;rw[fL he,eD he,bW,if_neg (λ z=>r z.2),if_neg r,q]
  ·right;intro k x hx LG hk;exact q k x hx LG (by exact Nat.le_of_lt ‹_›)
theorem Ba{m p:Nat}(hm:m<=h.length)(hn:∀k x,h[k]?=some x->aA x=p->m<=k->¬Gd h ao k):cQ h ao h.length p=cQ h ao m p:=by
 have gen:∀d,m+d<=h.length->cQ h ao (m+d) p=cQ h ao m p:=by
  intro d
  induction d with
  |zero=>intro _;rfl
  |succ d ih=>
   intro hd;have he:h[m+d]?=some (h[m+d]'(by assumption)):=List.getElem?_eq_getElem (by assumption);rw[show m+(d+1)=(m+d)+1 by rfl,fL he,ih (by exact Nat.le_of_lt ‹_›),if_neg,Nat.add_zero];rintro⟨g,r⟩;exact hn _ _ he r (by exact Nat.le_add_right _ _) g
 have:=gen (h.length-m) (Nat.le_of_eq (Nat.add_sub_of_le hm));rwa [show m+(h.length-m)=h.length by exact Nat.add_sub_of_le ‹_›] at this
theorem rS(hv:Valid h){low:List Nat}{g post:List aQ}{e:aQ}(hs:h=g++e::post)(mP:low.getD (aA e) 0=cQ h ao h.length (aA e)):isIn low g e↔Gd h ao g.length:=by
 have he:h[g.length]?=some e:=by rw[hs];simp
 have Nb:h.take g.length=g:=by rw[hs];simp
 have cz:=aJ he;unfold isIn;rw[mP];constructor
 ·intro q;apply Classical.byContradiction;intro hn;have h1:=Ba (ao:=ao) (m:=g.length) (p:=aA e) (by exact Nat.le_of_lt ‹_›) (tW hv he rfl hn);have h2:=A8 (h:=h) (ao:=ao) g.length (aA e) (by exact Nat.le_of_lt ‹_›);rw[Nb] at h2;exact Nat.not_succ_le_self _ (Nat.le_trans q (h1▸h2))
 ·intro q;rcases A7 (ao:=ao) hv (m:=g.length) (p:=aA e) (by exact Nat.le_of_lt ‹_›) with r | r
  ·have h1:=fL (ao:=ao) (p:=aA e) he;rw[if_pos ⟨q,rfl⟩,r,Nb] at h1;have h2:=A9 (h:=h) (ao:=ao) (m:=g.length+1) (m':=h.length) (by assumption) (Nat.le_refl _) (aA e);exact h1▸h2
  ·exact absurd q (r _ _ he rfl (Nat.le_refl _))
theorem xk(h:List aQ)(p i:Nat)(hi:i<bk h p):∃g e post,h=g++e::post/\aA e=p/\bk g p=i:=by
 induction h using snoc_ind with
 |h0=>simp[bk] at hi
 |h1 g e ih=>
  by_cases q:i<bk g p
  ·obtain⟨g',e',post,h1,h2,h3⟩:=ih q;exact⟨g',e',post++[e],by rw[h1];simp,h2,h3⟩
  ·rw[bW] at hi;by_cases r:aA e=p
   ·rw[if_pos r] at hi;exact⟨g,e,[],rfl,r,Nat.le_antisymm (Nat.not_lt.1 q) (Nat.le_of_lt_succ hi)⟩
   ·rw[if_neg r] at hi;exact absurd hi q
variable{low:List Nat}
theorem A6(hv:Valid h)(mP:∀e∈h,low.getD (aA e) 0=cQ h ao h.length (aA e)):Cons h low:=by
 intro k hk j hj;have CF:=i6 hk;have he:h[k]?=some h[k]:=List.getElem?_eq_getElem CF;obtain⟨hs,hl⟩:=cJ he;have TC:=(rS (ao:=ao) hv hs (mP _ (List.mem_of_getElem? he))).1 ((cK h _ _ _ low hs).1 (by rw[hl];exact hk));have Gb:eR h k=(aX (h.take k) h[k]).2:=by
  unfold eR;rw[fu,he];rfl
 rw[Gb] at hj;have M5:=((oc (ao:=ao) hv hs).1 TC).2 j hj;have Ot:=K0 M5;have QH:h[j]?=some h[j]:=List.getElem?_eq_getElem Ot;obtain⟨Q6,Lp⟩:=cJ QH;have:=(cK h _ _ _ low Q6).2 ((rS (ao:=ao) hv Q6 (mP _ (List.mem_of_getElem? QH))).2 (by rw[Lp];exact M5));rw[Lp] at this;exact this
theorem yw(hv:Valid h)(p:Nat):cQ h ao h.length p<=ao.getD p 0:=by
 apply Classical.byContradiction;intro hc;have h1:=A8 (h:=h) (ao:=ao) h.length p (Nat.le_refl _);rw[List.take_length] at h1;obtain⟨g,e,post,hs,ho,hg⟩:=xk h p (ao.getD p 0) (Nat.lt_of_lt_of_le (Nat.not_le.1 hc) h1);have mP:((List.range (p+1)).map (cQ h ao h.length)).getD (aA e) 0=cQ h ao h.length (aA e):=by
  rw[ho];simp
 have:=(rS (ao:=ao) hv hs mP).1 (by unfold isIn;rw[mP,ho,hg];exact Nat.not_le.1 hc);have:=((oc (ao:=ao) hv hs).1 this).1;unfold isIn at this;rw[ho,hg] at this;exact Nat.not_succ_le_self _ this
theorem r0(hv:Valid h){VE:List Nat}(hC:Cons h VE)(hle:∀p,VE.getD p 0<=ao.getD p 0)(p:Nat)(hp:VE.getD p 0<=bk h p):VE.getD p 0<=cQ h ao h.length p:=by
 have key:∀k,k∈splitOf h VE->Gd h ao k:=by
  intro k
  induction k using Nat.strongRecOn with
  |ind k ih=>
   intro hk;have CF:=i6 hk;have he:h[k]?=some h[k]:=List.getElem?_eq_getElem CF;obtain⟨hs,hl⟩:=cJ he;have pB:=(cK h _ _ _ VE hs).1 (by rw[hl];exact hk);have Gb:eR h k=(aX (h.take k) h[k]).2:=by
    unfold eR;rw[fu,he];rfl
   have:=(oc (ao:=ao) hv hs).2 ⟨?_,?_⟩
   ·rw[hl] at this;exact this
   ·unfold isIn at pB ⊢;exact Nat.le_trans pB (hle _)
   ·intro j hj;have M6:j<k:=by have:=pred_lt hv hs hj;exact Nat.lt_of_lt_of_eq ‹_› ‹_›
    exact ih j M6 (hC k hk j (by rw[Gb];exact hj))
 apply Classical.byContradiction;intro hc;obtain⟨g,e,post,hs,ho,hg⟩:=xk h p (cQ h ao h.length p) (Nat.lt_of_lt_of_le (Nat.not_le.1 hc) hp);have pB:isIn VE g e:=by unfold isIn;rw[ho,hg];exact Nat.not_le.1 hc
 have Tv:=key _ ((cK h _ _ _ VE hs).2 pB);have mP:((List.range (p+1)).map (cQ h ao h.length)).getD (aA e) 0=cQ h ao h.length (aA e):=by
  rw[ho];simp
 have:=(rS (ao:=ao) hv hs mP).2 Tv;unfold isIn at this;rw[mP,ho,hg] at this;exact Nat.not_succ_le_self _ this
end Q.L1
end
section
namespace Q.L1
open PySem Classical Mine.Internal.L1
variable{ps places:List Ch}{aa:List Int}{ai:List ax}
noncomputable def RO:ax->Option aQ
 |.out c (.cO v)=>some (c,some v)
 |.b5 c (.cO _)=>some (c,none)
 |_=>none
noncomputable def aO(ai:List ax):List aQ:=ai.filterMap RO
theorem dH(l r:List ax):aO (l++r)=aO l++aO r:=List.filterMap_append
theorem Ag{G β γ:Type}{f:G->Option β}{g:G->Option γ}(l:List G)(h:∀x,(f x).isSome=(g x).isSome):(l.filterMap f).length=(l.filterMap g).length:=by
 induction l with
 |nil=>rfl
 |cons x r ih=>
  have hx:=h x;cases hf:f x with
  |none=>
   cases hg:g x with
   |none=>rw[List.filterMap_cons_none hf,List.filterMap_cons_none hg,ih]
   |some b=>rw[hf,hg] at hx;cases hx
  |some a=>
   cases hg:g x with
   |none=>rw[hf,hg] at hx;cases hx
   |some b=>rw[List.filterMap_cons_some hf,List.filterMap_cons_some hg,List.length_cons,List.length_cons,ih]
theorem Af{G β γ:Type}{f:G->Option β}{g:G->Option γ}{p:β->Bool}(l:List G)(h:∀x,((f x).filter p).isSome=(g x).isSome):((l.filterMap f).filter p).length=(l.filterMap g).length:=by
 rw[List.filter_filterMap];exact Ag l h
theorem oN{G β:Type}{P Q:Prop}[Decidable P][Decidable Q](a:G)(b:β)(h:P↔Q):(if P then some a else none).isSome=(if Q then some b else none).isSome:=by
 by_cases q:Q
 ·rw[if_pos q,if_pos (h.2 q)];rfl
 ·rw[if_neg q,if_neg λ p=>q (h.1 p)];rfl
theorem si{n:Str}(P:Prop)[Decidable P]:false=(if P then iB (.mark n) else none).isSome:=(congrArg Option.isSome (ite_self none)).symm
theorem vK{G:Type}{a:G}{P:Prop}[Decidable P](h:¬P):(if P then some a else none).isSome=false:=by rw[if_neg h];rfl
theorem l7(c:Ch)(l:List ax):du (outs c l)=l.filterMap λ e=>(tK c e).bind iB:=List.filterMap_filterMap
theorem l6(c:Ch)(l:List ax):du (bN c l)=l.filterMap λ e=>(w6 c e).bind iB:=List.filterMap_filterMap
theorem Bs(l:List ax)(c:Ch):((aO l).filter λ x=>decide (aA x=c.1)).filterMap (ie c.2)=du (outs c l):=by
 rw[l7,aO,List.filter_filterMap,List.filterMap_filterMap];refine congrArg (List.filterMap · l) (funext λ x=>?_);cases x with
 |out d m=>
  refine Eq.trans ?_ (gM (d=c) m).symm;cases m with
  |cO v=>
   show(if decide (d.1=c.1) then some (d,some v) else none).bind (ie c.2)=if d=c then some v else none
   by_cases e1:d.1=c.1
   ·rw[if_pos (decide_eq_true e1)];exact fK ⟨λ e=>Prod.ext e1 e,λ e=>e▸rfl⟩
   ·rw[if_neg λ q=>e1 (of_decide_eq_true q),if_neg fun(e:d=c)=>e1 (e▸rfl)];rfl
  |mark n=>exact(ite_self none).symm
 |b5 d m=>
  cases m with
  |cO v=>
   show(if decide (d.2=c.1) then some (d,none) else none).bind (ie c.2)=none;by_cases e1:d.2=c.1
   ·rw[if_pos (decide_eq_true e1)];exact ite_self none
   ·rw[if_neg λ q=>e1 (of_decide_eq_true q)];rfl
  |mark n=>rfl
 |aF p n=>rfl
 |aL p n=>rfl
theorem yE(l:List ax)(c:Ch):(((aO l).filter λ x=>decide (aA x=c.2)).filterMap (gm c.1)).length=(du (bN c l)).length:=by
 rw[l6,aO,List.filter_filterMap,List.filterMap_filterMap];refine Ag l λ x=>?_;cases x with
 |b5 d m=>
  rw[show(w6 c (.b5 d m)).bind iB=_ from gM (d=c) m];cases m with
  |cO v=>
   show((if decide (d.2=c.2) then some (d,none) else none).bind (gm c.1)).isSome=(if d=c then some v else none).isSome;by_cases e1:d.2=c.2
   ·rw[if_pos (decide_eq_true e1)];exact oN d v ⟨λ e=>Prod.ext e.2 e1,λ e=>e▸⟨rfl,rfl⟩⟩
   ·rw[if_neg λ q=>e1 (of_decide_eq_true q),if_neg fun(e:d=c)=>e1 (e▸rfl)];rfl
  |mark n=>exact si (d=c)
 |out d m=>
  cases m with
  |cO v=>
   show((if decide (d.1=c.2) then some (d,some v) else none).bind (gm c.1)).isSome=false;by_cases e1:d.1=c.2
   ·rw[if_pos (decide_eq_true e1)];exact vK (a:=d) (P:=(some v:Option Int)=none/\d.1=c.1) λ e=>by cases e.1
   ·rw[if_neg λ q=>e1 (of_decide_eq_true q)];rfl
  |mark n=>rfl
 |aF p n=>rfl
 |aL p n=>rfl
theorem oj(l:List ax)(p:Nat):bk (aO l) p=bS l p:=by
 induction l with
 |nil=>rfl
 |cons x r ih=>
  rw[show x::r=[x]++r from rfl,dH,kK,show bk (aO [x]++aO r) p=bk (aO [x]) p+bk (aO r) p by unfold bk;rw[List.filter_append,List.length_append],ih];have h2:bk (aO [x]) p=bS [x] p:=by
   cases x with
   |out d m=>
    cases m with
    |cO v=>
     rw[bk,aO,List.filter_filterMap,i0 (P:=d.1=p) (b:=(d,some v)) (fK decide_eq_true_iff)];show _=0+([ax.out d (.cO v)].filterMap (AW p)).length;rw[i0 (P:=d.1=p) (b:=v) rfl];by_cases e1:d.1=p
     ·rw[if_pos e1,if_pos e1];rfl
     ·rw[if_neg e1,if_neg e1];rfl
    |mark n=>exact(congrArg (λ l:List Int=>0+l.length) (List.filterMap_cons_none (l:=[]) (ite_self none))).symm
   |b5 d m=>
    cases m with
    |cO v=>
     rw[bk,aO,List.filter_filterMap,i0 (P:=d.2=p) (b:=(d,none)) (fK decide_eq_true_iff)];show _=([ax.b5 d (.cO v)].filterMap (Gm p)).length+0;rw[i0 (P:=d.2=p) (b:=v) rfl];by_cases e1:d.2=p
     ·rw[if_pos e1,if_pos e1];rfl
     ·rw[if_neg e1,if_neg e1];rfl
    |mark n=>exact(congrArg (λ l:List Int=>l.length+0) (List.filterMap_cons_none (l:=[]) (ite_self none))).symm
   |aF q n=>rfl
   |aL q n=>rfl
  rw[h2];rfl
theorem uf(h:List aQ)(c:Ch):(aM h c).length=(h.filter λ x=>decide (x.1=c/\x.2≠none)).length:=by
 induction h using snoc_ind with
 |h0=>rfl
 |h1 g e ih=>
  rw[bV,List.length_append,ih,List.filter_append,List.length_append];refine congrArg (_ + ·) ?_;by_cases q:e.1=c/\e.2≠none
  ·rw[if_pos q,List.filter_cons,decide_eq_true q];rfl
  ·rw[if_neg q,List.filter_cons,decide_eq_false q];rfl
theorem vw(l:List ax)(c:Ch):(aM (aO l) c).length=(du (outs c l)).length:=by
 rw[uf,l7];refine Af l λ x=>?_;cases x with
 |out d m=>
  rw[show(tK c (.out d m)).bind iB=_ from gM (d=c) m];cases m with
  |cO v=>exact oN _ _ (decide_eq_true_iff.trans (and_iff_left (λ h=>by cases h)))
  |mark n=>exact si (d=c)
 |b5 d m=>
  cases m with
  |cO v=>exact vK (a:=((d,none):aQ)) (P:=decide (d=c/\(none:Option Int)≠none)=true) λ q=>(of_decide_eq_true q).2 rfl
  |mark n=>rfl
 |aF p n=>rfl
 |aL p n=>rfl
theorem vv(l:List ax)(c:Ch):cA (aO l) c=(du (bN c l)).length:=by
 rw[l6];refine Af l λ x=>?_;cases x with
 |b5 d m=>
  rw[show(w6 c (.b5 d m)).bind iB=_ from gM (d=c) m];cases m with
  |cO v=>exact oN _ _ (decide_eq_true_iff.trans ⟨λ e=>(Prod.mk.inj e).1,λ e=>e▸rfl⟩)
  |mark n=>exact si (d=c)
 |out d m=>
  cases m with
  |cO v=>exact vK (a:=(d,some v)) (P:=decide ((d,some v)=((c,none):aQ))=true) λ q=>by cases(Prod.mk.inj (of_decide_eq_true q)).2
  |mark n=>rfl
 |aF p n=>rfl
 |aL p n=>rfl
theorem Ah{G β:Type}{f:G->Option β}{l:List G}{pre post:List β}{y:β}(h:l.filterMap f=pre++y::post):∃a x b,l=a++x::b/\f x=some y/\a.filterMap f=pre:=by
 refine bC λ k9=>?_;obtain⟨a,b,rfl,rfl,hb⟩:=List.filterMap_eq_append_iff.1 h;obtain⟨b1,x,b2,rfl,hn,hx,_⟩:=List.filterMap_eq_cons_iff.1 hb;exact k9 ⟨a++b1,x,b2,(List.append_assoc ..).symm,hx,by rw[List.filterMap_append,List.filterMap_eq_nil_iff.2 hn,List.append_nil]⟩
theorem BV{x:ax}{e:aQ}(h:RO x=some e):(∃v,x=.out e.1 (.cO v)/\e.2≠none)\/∃v,x=.b5 e.1 (.cO v):=by
 cases x with
 |b5 d m=>
  cases m with
  |cO v=>cases h;exact .inr ⟨v,rfl⟩
  |mark n=>cases h
 |out d m=>
  cases m with
  |cO v=>cases h;exact .inl ⟨v,rfl,(λ h=>by cases h)⟩
  |mark n=>cases h
 |aF p n=>cases h
 |aL p n=>cases h
theorem kA{sz:Nat}(I:Inv sz ps ai):Valid (aO ai):=by
 intro pre c post e;refine bC λ k9=>?_;obtain⟨a,x,b,h1,h2,h3⟩:=Ah e;obtain⟨v,rfl⟩:=(BV h2).resolve_left (by rintro⟨_,_,h⟩;exact h rfl);obtain⟨r,hr⟩:=(I.fits a _ b h1).1.2;refine k9 ?_;rw[<-show aO a=pre from h3,vv,vw,hr,i4,List.length_append];exact Nat.lt_add_of_pos_right (Nat.succ_pos _)
theorem m4{sz:Nat}(I:Inv sz ps ai):∀e∈aO ai,e.1∈ps:=λ e he=>
 (List.mem_filterMap.1 he).elim λ x h=>(BV h.2).elim ((by rintro⟨_,q,_⟩;exact I.RF _ _ (q▸h.1))) (by rintro⟨_,q⟩;exact I.Ri _ _ (q▸h.1))
theorem AD(hz:∀c∈ps,c.1<aa.length/\c.2<aa.length)(I:Inv aa.length ps ai):∀e∈aO ai,aA e<aa.length:=by
 intro e he;have:=hz _ (m4 I e he);obtain⟨c,x⟩:=e;cases x with
 |none=>exact this.2
 |some v=>exact this.1
theorem tR{a b:List ax}(h:ai=a++b)(p:Nat):gD (aO ai) p (bS a p)=(aO a).filter λ x=>decide (aA x=p):=by
 unfold gD;rw[h,dH,List.filter_append,<-oj];exact List.take_left
end Q.L1
end
section
namespace Q.L1
open PySem Classical Mine.Internal.L1
variable{ps places:List Ch}{aa:List Int}{ai:List ax}{sz:Nat}
theorem dZ{G:Type}{x:G}{l:List G}(h:x∈l):∃r,l=before x l++x::r/\since x l=x::r/\x∉before x l:=by
 obtain⟨a,b,rfl,qq⟩:=List.eq_append_cons_of_mem h;rw[b6 qq,jB qq];exact⟨b,rfl,rfl,qq⟩
theorem II{G:Type}{x:G}{a a' b b':List G}(h:a++x::b <+: a'++x::b')(h1:x∉a)(h2:x∉a'):a=a':=by
 obtain⟨t,ht⟩:=h;rw[List.append_assoc] at ht;exact(b6 h1).symm.trans ((congrArg (before x) ht).trans (b6 h2))
theorem cl(I:Inv sz ps ai){c:Ch}(hc:c∈ps){n:Str}(h1:ax.aF c.1 n∈ai)(h2:ax.aF c.2 n∈ai)(h3:ax.b5 c (.mark n)∈since (ax.aF c.2 n) ai) :
  outs c (before (ax.aF c.1 n) ai)=bN c (before (ax.aF c.2 n) ai)++bN c (before (ax.b5 c (.mark n)) (since (ax.aF c.2 n) ai)):=by
 refine bC λ k9=>?_;obtain⟨d,a1,_,a3⟩:=dZ h1;obtain⟨r,b1,b2,b3⟩:=dZ h2;obtain⟨r2,c1,_,c3⟩:=dZ h3;refine k9 ?_;generalize before (ax.aF c.1 n) ai=pi at *;generalize before (ax.aF c.2 n) ai=pj at *;generalize before (ax.b5 c (.mark n)) (since (ax.aF c.2 n) ai)=r1 at *;rw[b2] at c1;have OA:ai=(pj++r1)++ax.b5 c (.mark n)::r2:=by rw[b1,c1,List.append_assoc]
 have TQ:ax.b5 c (.mark n)∉pj:=λ q=>by
  obtain⟨x,y,rfl⟩:=List.append_of_mem q;exact b3 (List.mem_append_left _ (I.Rh x (y++ax.aF c.2 n::r) c n (b1.trans (List.append_assoc ..))))
 have fk:ax.out c (.mark n)∉pi:=λ q=>by
  obtain⟨x,y,rfl⟩:=List.append_of_mem q;exact a3 (List.mem_append_left _ (I.Nk x (y++ax.aF c.1 n::d) c n (a1.trans (List.append_assoc ..))))
 obtain⟨w,hw⟩:=I.Nm pi d c.1 n a1 a3 c hc rfl;have e1:outs c ai=outs c pi++.mark n::w:=by
  rw[a1,cY];exact congrArg (_++·) hw
 have e2:bN c ai=bN c (pj++r1)++.mark n::bN c r2:=by
  rw[OA,dI c (pj++r1)];exact congrArg (_++·) (List.filterMap_cons_some (if_pos rfl))
 have hf:=I.Ab c;rw[e1,e2] at hf;exact(II hf (λ q=>dN TQ c3 (oz.1 q)) λ q=>fk (fM.1 q)).symm.trans (dI ..)
theorem tH(I:Inv sz ps ai){c:Ch}{n:Str}(h:ax.b5 c (.mark n)∈ai):ax.aF c.2 n∈ai/\ax.b5 c (.mark n)∈since (ax.aF c.2 n) ai:=by
 obtain⟨a,b,rfl⟩:=List.append_of_mem h;have hs:=I.Rh a b c n rfl;exact⟨List.mem_append_left _ hs,qQ hs▸List.mem_append_right _ List.mem_cons_self⟩
theorem qT{c:Ch}{n:Str}(h2:ax.aF c.2 n∈ai)(h3:ax.b5 c (.mark n)∈since (ax.aF c.2 n) ai):aP ai c n=(2,du (bN c (before (ax.b5 c (.mark n)) (since (ax.aF c.2 n) ai)))):=(if_pos h2).trans (if_pos h3)
theorem xH{c:Ch}{n:Str}(h:(aP ai c n).1=2):ax.aF c.2 n∈ai/\ax.b5 c (.mark n)∈since (ax.aF c.2 n) ai:=by
 by_cases q:ax.aF c.2 n∈ai
 ·refine⟨q,Classical.byContradiction λ r=>?_⟩;cases(congrArg Prod.fst ((if_pos q).trans (if_neg r))).symm.trans h
 ·cases(congrArg Prod.fst (dv q)).symm.trans h
theorem EV{h:List aQ}(AH:∀e∈h,e.1∈ps)(ao:List Nat){c:Ch}(hc:c∉ps):ic h ao c=0:=
 Nat.le_zero.1 (Nat.le_trans (rV _ _) (Nat.le_of_eq (List.length_eq_zero_iff.2 (List.filter_eq_nil_iff.2 λ x hx q=>hc ((show x.1=c from congrArg Prod.fst (of_decide_eq_true q))▸AH x hx)))))
theorem wk(hz:∀c∈ps,c.1<aa.length/\c.2<aa.length)(I:Inv aa.length ps ai){n:Str}(hs:∀p,p<aa.length->ax.aF p n∈ai)(ht:∀c∈ps,(aP ai c n).1=2){c:Ch}(hc:c∈ps) :
  du (outs c (before (ax.aF c.1 n) ai))=du (bN c (before (ax.aF c.2 n) ai))++(aP ai c n).2:=by
 have h1:=xH (ht c hc);rw[cl I hc (hs c.1 (hz c hc).1) h1.1 h1.2,i4,qT h1.1 h1.2]
end Q.L1
end
section
set_option tactic.hygienic true
namespace Q.L1
open PySem Classical Mine.Internal.L1
variable{ps places:List Ch}{aa:List Int}{ai ext:List ax}{sz:Nat}
noncomputable def pend(ai:List ax)(c:Ch):Nat:=((names ai).filter λ n=>decide (ax.aF c.1 n∉ai)).length
noncomputable def wt(ai:List ax)(c:Ch):Nat:=(aq ai c).length+pend ai c
noncomputable def W(ps:List Ch)(ai:List ax):Nat:=(ps.map (wt ai)).sum
theorem rI{G:Type}{f:G->Prop}[DecidablePred f]{x:G}{r:List G}(h:f x):((x::r).filter λ x=>decide (f x))=x::r.filter λ x=>decide (f x):=List.filter_cons_of_pos (p:=λ x=>decide (f x)) (decide_eq_true h)
theorem vj{G:Type}{f:G->Prop}[DecidablePred f]{x:G}{r:List G}(h:¬f x):((x::r).filter λ x=>decide (f x))=r.filter λ x=>decide (f x):=List.filter_cons_of_neg (p:=λ x=>decide (f x)) λ q=>h (of_decide_eq_true q)
theorem hV{G:Type}{f g:G->Prop}[DecidablePred f][DecidablePred g]{l:List G}(h:∀x∈l,(f x↔g x)):(l.filter λ x=>decide (f x))=l.filter λ x=>decide (g x):=List.filter_congr λ x hx=>decide_eq_decide.2 (h x hx)
theorem Ad{G:Type}{f g:G->Prop}[DecidablePred f][DecidablePred g]{l:List G}(hD:l.Nodup){a:G}(ha:a∈l)(h1:f a)(h2:¬g a)(h3:∀x,x≠a->(g x↔f x)):(l.filter λ x=>decide (g x)).length+1=(l.filter λ x=>decide (f x)).length:=by
 induction l with
 |nil=>cases ha
 |cons x r ih=>
  have hn:=List.nodup_cons.1 hD;by_cases e:x=a
  ·subst e;rw[rI h1,vj h2,hV λ y hy=>h3 y λ q=>hn.1 (q▸hy)];rfl
  ·have ih:=ih hn.2 ((List.mem_cons.1 ha).resolve_left λ q=>e q.symm);by_cases q:f x
   ·rw[rI q,rI ((h3 x e).2 q),List.length_cons,List.length_cons,ih]
   ·rw[vj q,vj λ z=>q ((h3 x e).1 z),ih]
theorem t8{c:Ch}(hn:names ext=[])(h:∀p n,ax.aF p n∉ext):pend (ai++ext) c=pend ai c:=by
 unfold pend;rw[a7,hn,List.append_nil];exact congrArg List.length (hV (f:=λ n=>ax.aF c.1 n∉ai++ext) (g:=λ n=>ax.aF c.1 n∉ai) λ n _=>not_congr ⟨λ q=>(List.mem_append.1 q).resolve_right (h _ n),List.mem_append_left _⟩)
theorem t9(hD:(names ai).Nodup){p:Nat}{n:Str}(hn:n∈names ai)(hs:ax.aF p n∉ai)(c:Ch):pend (ai++aK ps p n) c+(if c.1=p then 1 else 0)=pend ai c:=by
 unfold pend;rw[a7,cg,List.append_nil];by_cases e:c.1=p
 ·rw[if_pos e,e];exact Ad (f:=λ m=>ax.aF p m∉ai) (g:=λ m=>ax.aF p m∉ai++aK ps p n) hD hn hs (λ q=>q (List.mem_append_right _ List.mem_cons_self)) λ m hm=>not_congr ⟨λ q=>(List.mem_append.1 q).resolve_right λ z=>hm (bP.1 z).2,List.mem_append_left _⟩
 ·rw[if_neg e];exact congrArg List.length (hV (f:=λ m=>ax.aF c.1 m∉ai++aK ps p n) (g:=λ m=>ax.aF c.1 m∉ai) λ m _=>not_congr ⟨λ q=>(List.mem_append.1 q).resolve_right λ z=>e (bP.1 z).1,List.mem_append_left _⟩)
theorem Ms(cE:ps.Nodup)(hA:∀c,(bN c ai).length<=(outs c ai).length)(p:Nat)(n:Str){c:Ch}(hc:c∈ps):(aq (ai++aK ps p n) c).length=(aq ai c).length+(if c.1=p then 1 else 0):=by
 rw[c5 (hA c) (bI ..),List.length_append,dc cE];by_cases e:c.1=p
 ·rw[if_pos e,if_pos ⟨hc,e⟩];rfl
 ·rw[if_neg e,if_neg λ q=>e q.2];rfl
theorem qX(cE:ps.Nodup)(hA:∀c,(bN c ai).length<=(outs c ai).length)(hD:(names ai).Nodup){p:Nat}{n:Str}(hn:n∈names ai)(hs:ax.aF p n∉ai){c:Ch}(hc:c∈ps):wt (ai++aK ps p n) c=wt ai c:=by
 unfold wt;rw[Ms cE hA p n hc,<-t9 (ps:=ps) hD hn hs c,Nat.add_assoc,Nat.add_comm (if c.1=p then 1 else 0)]
theorem IJ(hA:∀c,(bN c ai).length<=(outs c ai).length){c:Ch}{m:cB}{r:List cB}(hq:aq ai c=m::r)(d:Ch):(aq (ai++[.b5 c m]) d).length+(if c=d then 1 else 0)=(aq ai d).length:=by
 rw[jz (hA d),jm];by_cases e:c=d
 ·rw[if_pos e,if_pos e,<-e,hq];exact congrArg (λ l:List cB=>l.length+1) (List.append_nil r)
 ·rw[if_neg e,if_neg e];exact congrArg List.length (List.append_nil _)
theorem Ce(hA:∀c,(bN c ai).length<=(outs c ai).length){c:Ch}{m:cB}{r:List cB}(hq:aq ai c=m::r)(d:Ch):wt (ai++[.b5 c m]) d+(if c=d then 1 else 0)=wt ai d:=by
 unfold wt;rw[t8 rfl λ _ _=>eG,<-IJ hA hq d,Nat.add_right_comm]
theorem we{l:List Ch}(hD:l.Nodup){a:Ch}(ha:a∈l){f g:Ch->Nat}(h:∀d∈l,f d+(if a=d then 1 else 0)=g d):(l.map f).sum+1=(l.map g).sum:=by
 induction l with
 |nil=>cases ha
 |cons x r ih=>
  have hn:=List.nodup_cons.1 hD;have hr:∀d∈r,f d+(if a=d then 1 else 0)=g d:=λ d hd=>h d (List.mem_cons_of_mem _ hd);rw[List.map_cons,List.map_cons,List.sum_cons,List.sum_cons,<-h x List.mem_cons_self];by_cases e:a=x
  ·rw[if_pos e,List.map_congr_left λ d hd=>(hr d hd).symm.trans (congrArg (f d + ·) (if_neg λ q:a=d=>hn.1 (e▸q▸hd))),Nat.add_right_comm];rfl
  ·rw[if_neg e,<-ih hn.2 ((List.mem_cons.1 ha).resolve_left e) hr];rfl
theorem I1{G:Type}(l:List G){f g:G->Nat}(h:∀d∈l,g d=f d+1):(l.map g).sum=(l.map f).sum+l.length:=by
 induction l with
 |nil=>rfl
 |cons x r ih=>
  rw[List.map_cons,List.map_cons,List.sum_cons,List.sum_cons,h x List.mem_cons_self,ih λ d hd=>h d (List.mem_cons_of_mem _ hd),List.length_cons,Nat.add_add_add_comm,Nat.add_comm 1]
theorem Bv(cE:ps.Nodup)(I:Inv sz ps ai)(hz:∀c∈ps,c.2<sz){c:Ch}{l:List ax}(h:Nx ps ai (.recv c) l)(hc:c∈ps)(hq:aq ai c≠[]):W ps l+1=W ps ai:=by
 cases h with
 |same h=>exact absurd (h c rfl hc) hq
 |b5 _ jk h=>exact we cE hc λ d _=>Ce I.le jk d
 |Gs _ jk h=>
  have pB:=I.O7 c _ (fM.1 (by rw[I.eB c,jk];exact List.mem_append_right _ List.mem_cons_self));exact(we cE hc λ d _=>Ce (tJ cE I hc (hz c hc) jk).le (k8 I jk) d).trans (congrArg List.sum (List.map_congr_left λ d hd=>qX cE I.le I.tV pB h hd))
theorem IX(cE:ps.Nodup)(I:Inv sz ps ai)(hz:∀c∈ps,c.2<sz)(h4:ps.length<=4){e:jI}{l:List ax}(hx:Nx ps ai e l){k:Nat}(h:W ps ai<=k+3*(names ai).length):W ps l<=k+1+3*(names l).length:=by
 have dn:∀{c l},Nx ps ai (.recv c) l->c∈ps->aq ai c≠[]->names l=names ai->W ps l<=k+1+3*(names l).length:=λ h1 h2 h3 h4=>by
  exact h4▸Nat.le_trans (Nat.le_of_lt (Nat.lt_of_lt_of_eq (Nat.lt_succ_self _) (Bv cE I hz h1 h2 h3))) (Nat.le_trans h (Nat.add_le_add_right (Nat.le_succ _) _))
 cases hx with
 |same=>exact Nat.le_trans h (Nat.add_le_add_right (Nat.le_succ _) _)
 |send hc=>
  rename_i c v;have e:W ps ai+1=W ps (ai++[.out c (.cO v)]):=we cE hc λ d _=>by
   unfold wt;rw[t8 rfl λ _ _=>fc λ h=>(by cases h),c5 (I.le d) rfl,List.length_append,Nat.add_right_comm];refine congrArg (_ + · + _) ?_;by_cases q:c=d
   ·rw[if_pos q,q];exact(congrArg List.length (show outs d [ax.out d (.cO v)]=_ from List.filterMap_cons_some (if_pos rfl))).symm
   ·rw[if_neg q];exact(congrArg List.length (show outs d [ax.out c (.cO v)]=_ from List.filterMap_cons_none (if_neg q))).symm
  rw[<-e,a7,show names [ax.out c (.cO v)]=[] from rfl,List.append_nil,Nat.add_right_comm];exact Nat.succ_le_succ h
 |aL hn=>
  rename_i p n;have fk:∀x,ax.aF x n∉ai++[.aL p n]:=λ x=>dN (λ q=>hn (I.JG x n q).1) (fc λ h=>by cases h);have oq:names (ai++[ax.aL p n])=names ai++[n]:=a7 ..;have hA:∀c,(bN c (ai++[ax.aL p n])).length<=(outs c (ai++[ax.aL p n])).length:=λ c=>by
   rw[dI,cY];exact(List.append_nil (bN c ai)).symm▸(List.append_nil (outs c ai)).symm▸I.le c
  have hD:(names (ai++[ax.aL p n])).Nodup:=oq.symm▸Bm I.tV hn;have e:W ps (ai++[.aL p n]++aK ps p n)=W ps ai+ps.length:=I1 ps λ c hc=>by
   rw[qX cE hA hD (oq.symm▸List.mem_append_right _ List.mem_cons_self) (fk p) hc];unfold wt pend;rw[show aq (ai++[ax.aL p n]) c=aq ai c from(c5 (I.le c) rfl).trans (List.append_nil _),oq,List.filter_append,List.length_append,hV (f:=λ m=>ax.aF c.1 m∉ai++[ax.aL p n]) (g:=λ m=>ax.aF c.1 m∉ai) λ m _=>not_congr ⟨λ q=>(List.mem_append.1 q).resolve_right (fc λ h=>by cases h),List.mem_append_left _⟩,rI (f:=λ m=>ax.aF c.1 m∉ai++[ax.aL p n]) (fk c.1)];rfl
  rw[e,a7,cg,List.append_nil,oq,List.length_append,List.length_singleton,Nat.mul_add,Nat.add_add_add_comm];exact Nat.add_le_add h h4
 |b5 hc hq hm=>exact dn (.b5 hc hq hm) hc (hq▸List.cons_ne_nil _ _) (by rw[a7];exact List.append_nil _)
 |Gs hc hq hm=>exact dn (.Gs hc hq hm) hc (hq▸List.cons_ne_nil _ _) (by rw[a7,a7,cg];exact(List.append_nil _).trans (List.append_nil _))
theorem Ih{l:List Ch}{f:Ch->Nat}{c:Ch}(h:c∈l):f c<=(l.map f).sum:=by
 induction l with
 |nil=>cases h
 |cons x r ih=>
  rw[List.map_cons,List.sum_cons];rcases List.mem_cons.1 h with e | h
  ·exact e▸Nat.le_add_right ..
  ·exact Nat.le_trans (ih h) (Nat.le_add_left ..)
theorem GP(h:W ps ai=0):∀c∈ps,aq ai c=[]:=λ c hc=>
 List.eq_nil_of_length_eq_zero (Nat.le_zero.1 (Nat.le_trans (Nat.le_add_right _ _) (Nat.le_trans (Ih (f:=wt ai) hc) (Nat.le_of_eq h))))
noncomputable def LQ:cB->Option Str
 |.mark n=>some n
 |.cO _=>none
inductive Reach(ps:List Ch)(i:Nat):Nat->Prop
 |refl:Reach ps i i
 |step {c:Ch}:Reach ps i c.1->c∈ps->Reach ps i c.2
structure K(ps:List Ch)(ai:List ax):Prop where
 tV:∀c,((outs c ai).filterMap LQ).Nodup
 Mt:∀p n,ax.aF p n∈ai->∃i,ax.aL i n∈ai/\Reach ps i p
theorem LX:K ps []:=⟨λ _=>List.nodup_nil,λ _ _ h=>by cases h⟩
theorem K.more(k:K ps ai)(h1:∀c,(outs c ext).filterMap LQ=[])(h2:∀p n,ax.aF p n∉ext):K ps (ai++ext):=
 ⟨λ c=>by rw[cY,List.filterMap_append,h1,List.append_nil];exact k.tV c,λ p n h=>(k.Mt p n ((List.mem_append.1 h).resolve_right (h2 p n))).elim λ i q=>⟨i,List.mem_append_left _ q.1,q.2⟩⟩
theorem K.Nm(k:K ps ai)(cE:ps.Nodup)(I:Inv sz ps ai){p:Nat}{n:Str}(hs:ax.aF p n∉ai)(hr:∃i,ax.aL i n∈ai/\Reach ps i p):K ps (ai++aK ps p n):=by
 refine⟨λ c=>?_,λ q m h=>?_⟩
 ·rw[cY,List.filterMap_append,dc cE];by_cases e:c∈ps/\c.1=p
  ·rw[if_pos e];refine Bm (k.tV c) λ q=>?_;obtain⟨m,h1,h2⟩:=List.mem_filterMap.1 q;cases m with
   |cO v=>cases h2
   |mark z=>
    cases h2;obtain⟨a,b,h3⟩:=List.append_of_mem (fM.1 h1);exact hs (h3▸List.mem_append_left _ (e.2▸I.Nk a b c n h3))
  ·rw[if_neg e];exact(List.append_nil _).symm▸k.tV c
 ·refine Exists.elim ?_ λ i (q:ax.aL i m∈ai/\Reach ps i _)=>⟨i,List.mem_append_left _ q.1,q.2⟩;exact(List.mem_append.1 h).elim (k.Mt q m) λ z=>(bP.1 z).1▸(bP.1 z).2▸hr
theorem K.nx(k:K ps ai)(cE:ps.Nodup)(I:Inv sz ps ai){e:jI}{l:List ax}(h:Nx ps ai e l):K ps l:=by
 have b5:∀{l:List ax} {c:Ch} {m:cB},K ps l->K ps (l++[.b5 c m]):=λ k=>k.more (λ _=>rfl) λ _ _=>eG;cases h with
 |same=>exact k
 |send hc=>
  rename_i c v;refine k.more (λ d=>?_) λ _ _=>fc λ h=>by cases h
  by_cases q:c=d
  ·rw[show outs d [ax.out c (.cO v)]=[.cO v] from List.filterMap_cons_some (if_pos q)];rfl
  ·rw[show outs d [ax.out c (.cO v)]=[] from List.filterMap_cons_none (if_neg q)];rfl
 |aL hn=>
  rename_i p n;have I':∀a b c m,ai++[ax.aL p n]=a++ax.out c (.mark m)::b->ax.aF c.1 m∈a:=λ a b c m h=>by
   rcases l9 h with ⟨b0,h1,_⟩ | ⟨a0,_,h2⟩
   ·exact I.Nk a b0 c m h1
   ·cases(qJ h2).2
  have k':K ps (ai++[.aL p n]):=k.more (λ _=>rfl) λ _ _=>fc λ h=>by cases h
  have hs:ax.aF p n∉ai++[.aL p n]:=dN (λ q=>hn (I.JG p n q).1) (fc λ h=>by cases h);refine⟨λ c=>?_,λ q m h=>?_⟩
  ·rw[cY,List.filterMap_append,dc cE];by_cases e:c∈ps/\c.1=p
   ·rw[if_pos e];refine Bm (k'.tV c) λ q=>?_;obtain⟨m,h1,h2⟩:=List.mem_filterMap.1 q;cases m with
    |cO v=>cases h2
    |mark z=>
     cases h2;obtain⟨a,b,h3⟩:=List.append_of_mem (fM.1 h1);exact hs (h3▸List.mem_append_left _ (e.2▸I' a b c n h3))
   ·rw[if_neg e];exact(List.append_nil _).symm▸k'.tV c
  ·rcases List.mem_append.1 h with z | z
   ·exact(k'.Mt q m z).elim λ i q=>⟨i,List.mem_append_left _ q.1,q.2⟩
   ·exact⟨p,(bP.1 z).2▸List.mem_append_left _ (List.mem_append_right _ List.mem_cons_self),(bP.1 z).1▸.refl⟩
 |b5 hc hq hm=>exact b5 k
 |Gs hc hq hm=>
  rename_i c n r;have ho:ax.out c (.mark n)∈ai:=fM.1 (by rw[I.eB c,hq];exact List.mem_append_right _ List.mem_cons_self);obtain⟨a,b,h3⟩:=List.append_of_mem ho;obtain⟨i,h4,h5⟩:=k.Mt c.1 n (h3▸List.mem_append_left _ (I.Nk a b c n h3));exact b5 (k.Nm cE I hm ⟨i,h4,h5.step hc⟩)
theorem BJ(hD:(names ai).Nodup){i j:Nat}{n:Str}(h1:ax.aL i n∈ai)(h2:ax.aL j n∈ai):i=j:=by
 obtain⟨a,b,rfl⟩:=List.append_of_mem h1;rw[a7,show names (ax.aL i n::b)=n::names b from rfl] at hD;have nm:∀{l:List ax},ax.aL j n∈l->n∈names l:=λ h=>List.mem_filterMap.2 ⟨_,h,rfl⟩;rcases List.mem_append.1 h2 with q | q
 ·exact absurd rfl ((List.nodup_append.1 hD).2.2 n (nm q) n List.mem_cons_self)
 ·rcases List.mem_cons.1 q with q | q
  ·exact(ax.aL.inj q).1.symm
  ·exact absurd (nm q) (List.nodup_cons.1 (List.nodup_append.1 hD).2.1).1
theorem qV{n:Str}:isWhole (dE ps aa ai n)=true↔(∀p,p<aa.length->ax.aF p n∈ai)/\∀c∈ps,(aP ai c n).1=2:=by
 delta isWhole dE;rw[Bool.and_eq_true,Bool.not_eq_true',decide_eq_false_iff_not,List.all_eq_true];refine and_congr ⟨λ h p hp=>?_,λ h q=>?_⟩ ⟨λ h c hc=>?_,λ h t ht=>?_⟩
 ·refine Classical.byContradiction λ hc=>h (List.mem_map.2 ⟨(aa[p],p),List.mem_iff_getElem?.2 ⟨p,by simp[hp]⟩,if_neg hc⟩)
 ·obtain⟨x,hx,he⟩:=List.mem_map.1 q;cases(if_pos (h x.2 (gI hx))).symm.trans he
 ·have h3:2<=(aP ai c n).1:=of_decide_eq_true (h _ (List.mem_map.2 ⟨c,hc,rfl⟩));by_cases q:ax.aF c.2 n∈ai
  ·exact(jC q).resolve_right λ z=>by rw[z] at h3;exact absurd h3 (by decide)
  ·rw[dv q] at h3;exact absurd h3 (by decide)
 ·obtain⟨c,hc,rfl⟩:=List.mem_map.1 ht;exact decide_eq_true (Nat.le_of_eq (h c hc).symm)
noncomputable def xY(ps:List Ch)(bO:List Nat)(ai:List ax)(n:Str):Prop:=(∀c∈ps,cB.mark n∉aq ai c)/\∃p,ax.aL p n∈ai/\p∈bO
theorem uc(hz:∀c∈ps,c.1<aa.length/\c.2<aa.length)(I:Inv aa.length ps ai)(k:K ps ai){bO:List Nat}(hr:∀i,i<aa.length->(i∈bO↔∀p,p<aa.length->Reach ps i p))(h0:0<aa.length){n:Str} :
  xY ps bO ai n↔n∈names ai/\isWhole (dE ps aa ai n)=true:=by
 rw[qV];constructor
 ·rintro⟨h1,i,h2,h3⟩;have hi:=(I.JG i n (I.LK h2)).2;have go:∀{c:Ch},c∈ps->ax.aF c.1 n∈ai->ax.b5 c (.mark n)∈ai:=λ {c} hc hs=>by
   obtain⟨d,a1,_,a3⟩:=dZ hs;obtain⟨w,hw⟩:=I.Nm _ d c.1 n a1 a3 c hc rfl;have hm:cB.mark n∈outs c ai:=by
    rw[a1,cY];exact List.mem_append_right _ (hw.symm▸List.mem_cons_self:cB.mark n∈outs c d)
   rw[I.eB c] at hm;exact oz.1 ((List.mem_append.1 hm).resolve_right (h1 c hc))
  have all:∀p,Reach ps i p->ax.aF p n∈ai:=λ p q=>by
   induction q with
   |refl=>exact I.LK h2
   |step _ hc ih=>exact(tH I (go hc ih)).1
  have hs:∀p,p<aa.length->ax.aF p n∈ai:=λ p hp=>all p ((hr i hi).1 h3 p hp);refine⟨List.mem_filterMap.2 ⟨_,h2,rfl⟩,hs,λ c hc=>?_⟩;have h:=tH I (go hc (hs c.1 (hz c hc).1));rw[qT h.1 h.2]
 ·rintro⟨hn,h1,h2⟩;refine⟨λ c hc hq=>?_,?_⟩
  ·have h3:=xH (h2 c hc);have h4:cB.mark n∈bN c ai:=oz.2 ((List.dropWhile_sublist _).subset h3.2);have h5:=k.tV c;rw[I.eB c,List.filterMap_append] at h5;exact(List.nodup_append.1 h5).2.2 n (List.mem_filterMap.2 ⟨_,h4,rfl⟩) n (List.mem_filterMap.2 ⟨_,hq,rfl⟩) rfl
  ·obtain⟨i,h3⟩:=qC hn;have hi:=(I.JG i n (I.LK h3)).2;refine⟨i,h3,(hr i hi).2 λ p hp=>?_⟩;obtain⟨j,h4,h5⟩:=k.Mt p n (h1 p hp);exact BJ I.tV h4 h3▸h5
end Q.L1
end
section
namespace Q.L1
open PySem Classical Mine.Internal.L1
variable{ps places:List Ch}{aa:List Int}{ai:List ax}{sz:Nat}
theorem sum_add{G:Type}(l:List G)(f g:G->Int):(l.map λ x=>f x+g x).sum=(l.map f).sum+(l.map g).sum:=by
 induction l with
 |nil=>rfl
 |cons x r ih=>rw[List.map_cons,List.map_cons,List.map_cons,List.sum_cons,List.sum_cons,List.sum_cons,ih,Int.add_assoc,Int.add_assoc,Int.add_left_comm (g x)]
theorem oR{G:Type}(l:List G)(f:G->Int)(h:∀x∈l,f x=0):(l.map f).sum=0:=by
 induction l with
 |nil=>rfl
 |cons x r ih=>rw[List.map_cons,List.sum_cons,h x List.mem_cons_self,ih λ y hy=>h y (List.mem_cons_of_mem _ hy)];rfl
theorem oQ{G:Type}(l:List G)(hn:l.Nodup)(f:G->Int)(d:G){D:∀c,Decidable (d=c)}(hd:d∈l):(l.map λ c=>@ite Int (d=c) (D c) (f c) 0).sum=f d:=by
 induction l with
 |nil=>cases hd
 |cons x r ih=>
  have hn:=List.nodup_cons.1 hn;rw[List.map_cons,List.sum_cons];by_cases e:d=x
  ·subst e;rw[if_pos rfl,oR _ _ λ y hy=>if_neg fun(q:d=y)=>hn.1 (q▸hy),Int.add_zero]
  ·rw[if_neg e,ih hn.2 ((List.mem_cons.1 hd).resolve_left e),Int.zero_add]
theorem uo{G β:Type}(l:List G)(m:List β)(f:G->β->Int):(l.map λ x=>(m.map λ y=>f x y).sum).sum=(m.map λ y=>(l.map λ x=>f x y).sum).sum:=by
 induction l with
 |nil=>exact(oR m _ λ _ _=>rfl).symm
 |cons x r ih=>
  rw[List.map_cons,List.sum_cons,ih];exact(sum_add m _ _).symm
theorem qY{β:Type}(l:List Int)(f:Nat->β):(l.zipIdx.map λ x=>f x.2)=(List.range l.length).map f:=by
 apply List.ext_getElem?;intro i;by_cases hi:i<l.length<;>simp[hi]
theorem Ai{G:Type}(l:List G)(P:G->Prop)[DecidablePred P](f:G->Int):(l.filterMap λ x=>if P x then some (f x) else none).sum=(l.map λ x=>if P x then f x else 0).sum:=by
 induction l with
 |nil=>rfl
 |cons x r ih=>
  rw[List.map_cons,List.sum_cons,<-ih,List.filterMap_cons];by_cases q:P x
  ·rw[if_pos q,if_pos q];rfl
  ·rw[if_neg q,if_neg q,Int.zero_add]
noncomputable def pI:ax->Option (Ch×Int)
 |.b5 c (.cO v)=>some (c,v)
 |_=>none
noncomputable def pO:ax->Option (Ch×Int)
 |.out c (.cO v)=>some (c,v)
 |_=>none
noncomputable def CR(side:Ch->Nat)(p:Nat)(L:List (Ch×Int)):Int:=(L.filterMap λ x=>if side x.1=p then some x.2 else none).sum
noncomputable def xt(c:Ch)(L:List (Ch×Int)):Int:=(L.filterMap λ x=>if x.1=c then some x.2 else none).sum
theorem Av(p:Nat)(l:List ax):(jG p l).sum=CR Prod.snd p (l.filterMap pI):=by
 unfold CR;rw[List.filterMap_filterMap];refine congrArg (λ f=>(List.filterMap f l).sum) (funext λ e=>?_);cases e with
 |b5 c m=>cases m with
  |cO v=>rfl
  |mark n=>exact ite_self none
 |_=>rfl
theorem xA(p:Nat)(l:List ax):(fQ p l).sum=CR Prod.fst p (l.filterMap pO):=by
 unfold CR;rw[List.filterMap_filterMap];refine congrArg (λ f=>(List.filterMap f l).sum) (funext λ e=>?_);cases e with
 |out c m=>cases m with
  |cO v=>rfl
  |mark n=>exact ite_self none
 |_=>rfl
theorem AR(c:Ch)(l:List ax):(du (bN c l)).sum=xt c (l.filterMap pI):=by
 unfold xt;rw[List.filterMap_filterMap,l6];refine congrArg (λ f=>(List.filterMap f l).sum) (funext λ e=>?_);cases e with
 |b5 d m=>
  refine(gM (d=c) m).trans ?_;cases m with
  |cO v=>exact fK Iff.rfl
  |mark n=>exact ite_self none
 |_=>rfl
theorem eB(c:Ch)(l:List ax):(du (outs c l)).sum=xt c (l.filterMap pO):=by
 unfold xt;rw[List.filterMap_filterMap,l7];refine congrArg (λ f=>(List.filterMap f l).sum) (funext λ e=>?_);cases e with
 |out d m=>
  refine(gM (d=c) m).trans ?_;cases m with
  |cO v=>exact fK Iff.rfl
  |mark n=>exact ite_self none
 |_=>rfl
theorem oC(cE:ps.Nodup)(L:List (Ch×Int))(side:Ch->Nat)(p:Nat)(h:∀x∈L,x.1∈ps):CR side p L=(ps.map λ c=>if side c=p then xt c L else 0).sum:=by
 have e:∀c,(if side c=p then xt c L else 0)=(L.map λ x=>if x.1=c then(if side c=p then x.2 else 0) else 0).sum:=λ c=>by
  by_cases q:side c=p
  ·rw[if_pos q];refine(Ai L (λ x=>x.1=c) Prod.snd).trans (congrArg (λ f=>(List.map f L).sum) (funext λ x=>?_));rw[if_pos q]
  ·rw[if_neg q,oR];exact λ x _=>by rw[if_neg q];exact ite_self 0
 rw[funext e,uo];refine(Ai L (λ x=>side x.1=p) Prod.snd).trans (congrArg List.sum (List.map_congr_left λ x hx=>?_));exact(oQ ps cE (λ c=>if side c=p then x.2 else 0) x.1 (h x hx)).symm
theorem sR(cE:ps.Nodup)(side:Ch->Nat)(hs:∀c∈ps,side c<aa.length)(L:Nat->List (Ch×Int))(h:∀p,∀x∈L p,x.1∈ps):(aa.zipIdx.map λ x=>CR side x.2 (L x.2)).sum=(ps.map λ c=>xt c (L (side c))).sum:=by
 rw[qY aa (λ p=>CR side p (L p)),List.map_congr_left λ p _=>oC cE (L p) side p (h p),uo];exact congrArg List.sum (List.map_congr_left λ c hc=>oQ _ List.nodup_range (λ p=>xt c (L p)) (side c) (List.mem_range.2 (hs c hc)))
end Q.L1
end
section
namespace Q.L1
open PySem Classical Mine.Internal.L1
variable{ps:List Ch}{aa:List Int}{ai:List ax}{sz:Nat}
structure Cut(ps:List Ch)(ai:List ax)(π:Nat->List ax)(ao:List Nat)(mf:Ch->List Int):Prop where
 pre:∀p,p<ao.length->∃r,ai=π p++r
 at':∀p,p<ao.length->ao.getD p 0=bS (π p) p
 on:∀c∈ps,c.1<ao.length/\c.2<ao.length
 DH:∀c∈ps,du (outs c (π c.1))=du (bN c (π c.2))++mf c
variable{π:Nat->List ax}{ao:List Nat}{mf:Ch->List Int}
theorem Cut.IT(X:Cut ps ai π ao mf){c:Ch}(hc:c∈ps):cq (aO ai) ao c=du (bN c (π c.2))++mf c:=by
 obtain⟨r,h1⟩:=X.pre c.1 (X.on c hc).1;unfold cq;rw[X.at' c.1 (X.on c hc).1,tR h1,Bs,X.DH c hc]
theorem Cut.taken(X:Cut ps ai π ao mf){c:Ch}(hc:c∈ps):(b8 (aO ai) ao c).length=(du (bN c (π c.2))).length:=by
 obtain⟨r,h1⟩:=X.pre c.2 (X.on c hc).2;unfold b8;rw[X.at' c.2 (X.on c hc).2,tR h1,yE]
theorem rH{h:List aQ}{F:List Nat}(hv:Valid h)(AH:∀e∈h,e.1∈ps):Cons h F↔∀c∈ps,(b8 h F c).length<=(cq h F c).length:=by
 rw[s6 hv];refine⟨λ q c _=>by rw[<-rU,<-rW];exact q c,λ q c=>?_⟩;by_cases hc:c∈ps
 ·rw[rU,rW];exact q c hc
 ·rw[EV AH _ hc];exact Nat.zero_le _
theorem Cut.cons(X:Cut ps ai π ao mf)(I:Inv sz ps ai):Cons (aO ai) ao:=(rH (kA I) (m4 I)).2 λ c hc=>by
 rw[X.taken hc,X.IT hc,List.length_append];exact Nat.le_add_right ..
theorem Cut.under(X:Cut ps ai π ao mf){c:Ch}(hc:c∈ps):(cq (aO ai) ao c).drop (b8 (aO ai) ao c).length=mf c:=by
 rw[X.taken hc,X.IT hc];exact List.drop_left
noncomputable def shift(h:List aQ)(ao:List Nat)(p:Nat)(c:Ch):Int:=
 (if c.1=p then -(cq h ao c).sum else 0)+(if c.2=p then((cq h ao c).take (b8 h ao c).length).sum else 0)
theorem Bp(I:Inv sz ps ai){l r:List ax}(h:ai=l++r):∀x∈l.filterMap pI,x.1∈ps:=λ x hx=>by
 obtain⟨e,h1,h2⟩:=List.mem_filterMap.1 hx;cases e with
 |b5 c m=>cases m with
  |cO v=>cases h2;exact I.Ri _ _ (h▸List.mem_append_left _ h1)
  |mark n=>cases h2
 |_=>cases h2
theorem Bq(I:Inv sz ps ai){l r:List ax}(h:ai=l++r):∀x∈l.filterMap pO,x.1∈ps:=λ x hx=>by
 obtain⟨e,h1,h2⟩:=List.mem_filterMap.1 hx;cases e with
 |out c m=>cases m with
  |cO v=>cases h2;exact I.RF _ _ (h▸List.mem_append_left _ h1)
  |mark n=>cases h2
 |_=>cases h2
theorem Cut.L7(X:Cut ps ai π ao mf)(cE:ps.Nodup)(I:Inv sz ps ai){p:Nat}(hp:p<ao.length)(s:Int):s+(ps.map (shift (aO ai) ao p)).sum=bF (π p) p s:=by
 obtain⟨r,h1⟩:=X.pre p hp;have e:∀c∈ps,shift (aO ai) ao p c=(if c.1=p then -xt c ((π p).filterMap pO) else 0)+(if c.2=p then xt c ((π p).filterMap pI) else 0):=λ c hc=>by
  unfold shift;rw[X.taken hc,X.IT hc,List.take_left,<-X.DH c hc];refine congr (congrArg _ ?_) ?_
  ·by_cases q:c.1=p
   ·rw[if_pos q,if_pos q,q,eB]
   ·rw[if_neg q,if_neg q]
  ·by_cases q:c.2=p
   ·rw[if_pos q,if_pos q,q,AR]
   ·rw[if_neg q,if_neg q]
 rw[List.map_congr_left e,sum_add];unfold bF;rw[Av,xA,oC cE _ Prod.snd p (Bp I h1),oC cE _ Prod.fst p (Bq I h1)];have ng:∀l:List Ch,(l.map λ c=>if c.1=p then -xt c ((π p).filterMap pO) else 0).sum=-(l.map λ c=>if c.1=p then xt c ((π p).filterMap pO) else 0).sum:=λ l=>by
  induction l with
  |nil=>rfl
  |cons x r ih=>
   rw[List.map_cons,List.map_cons,List.sum_cons,List.sum_cons,ih];by_cases q:x.1=p
   ·rw[if_pos q,if_pos q,Int.neg_add]
   ·rw[if_neg q,if_neg q,Int.neg_add];rfl
 rw[ng,Int.add_comm (-_),<-Int.add_assoc,<-Int.sub_eq_add_neg]
theorem x4(cE:ps.Nodup)(hz:∀c∈ps,c.1<aa.length/\c.2<aa.length)(I:Inv aa.length ps ai)(hq:∀c∈ps,aq ai c=[]):(aa.zipIdx.map λ x=>bF ai x.2 x.1).sum=aa.sum:=by
 have e2:=sR cE Prod.snd (λ c hc=>(hz c hc).2) (λ _=>ai.filterMap pI) λ _=>Bp I (List.append_nil ai).symm;have e3:=sR cE Prod.fst (λ c hc=>(hz c hc).1) (λ _=>ai.filterMap pO) λ _=>Bq I (List.append_nil ai).symm;have e4:(ps.map λ c=>xt c (ai.filterMap pO)).sum=(ps.map λ c=>xt c (ai.filterMap pI)).sum:=
  congrArg List.sum (List.map_congr_left λ c hc=>by rw[<-eB,<-AR,I.eB c,hq c hc,List.append_nil])
 have e1:(aa.zipIdx.map λ x=>bF ai x.2 x.1).sum+(aa.zipIdx.map λ x=>CR Prod.fst x.2 (ai.filterMap pO)).sum=aa.sum+(aa.zipIdx.map λ x=>CR Prod.snd x.2 (ai.filterMap pI)).sum:=by
  refine Eq.trans (sum_add _ _ _).symm (Eq.trans ?_ (congrArg (λ l=>List.sum l+_) (List.zipIdx_map_fst 0 aa)));rw[<-sum_add];exact congrArg (λ f=>(List.map f aa.zipIdx).sum) (funext λ x=>by rw[<-Av,<-xA];exact Int.sub_add_cancel ..)
 rw[e2,e3,e4] at e1;exact(Int.add_left_inj _).1 e1
theorem C1{L M:List ax}(hM:∃r,L=M++r)(J:Inv aa.length ps M)(hz:∀c∈ps,c.1<aa.length/\c.2<aa.length):Cut ps L (λ _=>M) (aa.zipIdx.map λ x=>bS M x.2) λ c=>du (aq M c) where
 pre:=λ _ _=>hM
 at':=λ p hp=>by
  rw[List.length_map,List.length_zipIdx] at hp;rw[List.getD_eq_getElem?_getD,List.getElem?_map,List.getElem?_eq_getElem (by rw[List.length_zipIdx];exact hp),List.getElem_zipIdx];exact congrArg (bS M) (Nat.zero_add p)
 on:=by rw[List.length_map,List.length_zipIdx];exact hz
 DH:=λ c _=>by rw[J.eB c,i4]
theorem yg{n:Str}(I:Inv aa.length ps ai)(hz:∀c∈ps,c.1<aa.length/\c.2<aa.length)(hs:∀p,p<aa.length->ax.aF p n∈ai)(ht:∀c∈ps,(aP ai c n).1=2) :
  Cut ps ai (λ p=>before (ax.aF p n) ai) (aa.zipIdx.map λ x=>bS (before (ax.aF x.2 n) ai) x.2) λ c=>(aP ai c n).2 where
 pre:=λ p hp=>by
  rw[List.length_map,List.length_zipIdx] at hp;obtain⟨r,h1,_,_⟩:=dZ (hs p hp);exact⟨_,h1⟩
 at':=λ p hp=>by
  rw[List.length_map,List.length_zipIdx] at hp;rw[List.getD_eq_getElem?_getD,List.getElem?_map,List.getElem?_eq_getElem (by rw[List.length_zipIdx];exact hp),List.getElem_zipIdx];exact congrArg (λ q=>bS (before (ax.aF q n) ai) q) (Nat.zero_add p)
 on:=by rw[List.length_map,List.length_zipIdx];exact hz
 DH:=λ c hc=>wk hz I hs ht hc
end Q.L1
end
section
namespace Q.L1
open PySem Classical Mine.Internal.L1
noncomputable abbrev Vc:=Nat->Nat
noncomputable def mx(vs:List Vc)(js:List Nat)(p:Nat):Nat:=js.foldl (λ a j=>max a ((vs.getD j λ _=>0) p)) 0
noncomputable def yA(vs:List Vc)(x:Nat×List Nat):Vc:=λ p=>mx vs x.2 p+if x.1=p then 1 else 0
noncomputable def vl(ls:List (Nat×List Nat)):List Vc:=ls.foldl (λ vs x=>vs++[yA vs x]) []
theorem nB(ls:List (Nat×List Nat))(x:Nat×List Nat):vl (ls++[x])=vl ls++[yA (vl ls) x]:=List.foldl_append
theorem ja(ls:List (Nat×List Nat)):(vl ls).length=ls.length:=by
 induction ls using snoc_ind with
 |h0=>rfl
 |h1 g e ih=>rw[nB,List.length_append,List.length_append,ih];rfl
theorem fold_max{f:Nat->Nat}(js:List Nat)(b:Nat):b<=js.foldl (λ a j=>max a (f j)) b/\(∀j∈js,f j<=js.foldl (λ a j=>max a (f j)) b)/\∀u,b<=u->(∀j∈js,f j<=u)->js.foldl (λ a j=>max a (f j)) b<=u:=by
 induction js generalizing b with
 |nil=>exact⟨Nat.le_refl _,λ _ h=>(by cases h),λ _ h _=>h⟩
 |cons x r ih=>
  obtain⟨h1,h2,h3⟩:=ih (max b (f x));refine⟨Nat.le_trans (Nat.le_max_left ..) h1,λ j hj=>?_,λ u hb hu=>h3 u (Nat.max_le.2 ⟨hb,hu x List.mem_cons_self⟩) λ j hj=>hu j (List.mem_cons_of_mem _ hj)⟩;rcases List.mem_cons.1 hj with e | hj
  ·rw[e];exact Nat.le_trans (Nat.le_max_right ..) h1
  ·exact h2 j hj
theorem xa{vs:List Vc}{js:List Nat}{j:Nat}(h:j∈js)(p:Nat):(vs.getD j λ _=>0) p<=mx vs js p:=(fold_max (f:=λ j=>(vs.getD j λ _=>0) p) js 0).2.1 j h
theorem xh{vs:List Vc}{js:List Nat}{p u:Nat}(h:∀j∈js,(vs.getD j λ _=>0) p<=u):mx vs js p<=u:=(fold_max (f:=λ j=>(vs.getD j λ _=>0) p) js 0).2.2 u (Nat.zero_le _) h
noncomputable def vec(h:List aQ)(k:Nat):Vc:=(vl (aR h)).getD k λ _=>0
theorem ny{g:List aQ}{e:aQ}{k:Nat}(hk:k<g.length):vec (g++[e]) k=vec g k:=by
 unfold vec;rw[ij,nB,List.getD_eq_getElem?_getD,List.getElem?_append_left (by rw[ja,c4];exact hk),<-List.getD_eq_getElem?_getD]
theorem Ft(g:List aQ)(e:aQ):vec (g++[e]) g.length=yA (vl (aR g)) (aX g e):=by
 unfold vec;rw[ij,nB,List.getD_eq_getElem?_getD,List.getElem?_append_right (by rw[ja,c4];exact Nat.le_refl _),ja,c4,Nat.sub_self];rfl
theorem Valid.pre{g r:List aQ}(hv:Valid (g++r)):Valid g:=λ pre c post e=>hv pre c (post++r) (by rw[e,List.append_assoc];rfl)
structure VI(h:List aQ):Prop where
 own:∀g e post,h=g++e::post->vec h g.length (aA e)=bk g (aA e)+1
 le:∀g e post,h=g++e::post->∀p,vec h g.length p<=bk (g++[e]) p
 eq:∀g e post,h=g++e::post->∀p,vec h g.length p=mx (vl (aR h)) (aX g e).2 p+if aA e=p then 1 else 0
theorem B9{h:List aQ}(hv:Valid h):VI h:=by
 induction h using snoc_ind with
 |h0=>
  have no:∀{g:List aQ} {e:aQ} {post:List aQ} {P:Prop},[]=g++e::post->P:=λ {g e post P} q=>absurd q.symm (List.append_ne_nil_of_right_ne_nil _ (List.cons_ne_nil _ _));exact⟨λ g e post q=>no q,λ g e post q=>no q,λ g e post q=>no q⟩
 |h1 h x ih=>
  have ih:=ih hv.pre;have lt:=@pred_lt (h++[x]) hv h [] x rfl;have same:∀(j:Nat),j<h.length->(vl (aR (h++[x]))).getD j (λ _=>0)=(vl (aR h)).getD j λ _=>0:=λ j hj=>ny hj;have Rt:∀(js:List Nat) p,(∀j∈js,j<h.length)->mx (vl (aR (h++[x]))) js p=mx (vl (aR h)) js p:=λ js p hj=>Nat.le_antisymm (xh λ j q=>by rw[same j (hj j q)];exact xa q p) (xh λ j q=>by rw[<-same j (hj j q)];exact xa q p);have U6:∀j,j<h.length->∀p,vec h j p<=bk h p:=λ j hj p=>by
   obtain⟨hs,hl⟩:=cJ (List.getElem?_eq_getElem hj);have q:=ih.le _ _ _ hs p;rw[hl] at q;refine Nat.le_trans q ?_;have m:=lG (h.take j++[h[j]]) (h.drop (j+1)) p;rw[List.append_assoc,List.singleton_append,<-hs] at m;exact m
  have Rr:∀p,mx (vl (aR h)) (aX h x).2 p<=bk h p:=λ p=>xh λ j hj=>U6 j (lt hj) p;have old:∀{g e post},h++[x]=g++e::post->(∃b,h=g++e::b)\/(g=h/\e=x):=λ {g e post} q=>by
   rcases l9 q with ⟨b,q1,_⟩ | ⟨a0,q1,q2⟩
   ·exact .inl ⟨b,q1⟩
   ·cases a0 with
    |nil=>cases q2;exact .inr ⟨by rw[q1,List.append_nil],rfl⟩
    |cons y t=>cases t<;>cases q2
  have hn:∀p,vec (h++[x]) h.length p=mx (vl (aR h)) (aX h x).2 p+if aA x=p then 1 else 0:=λ p=>congrFun (Ft h x) p
  have gl:∀{g e b},h=g++e::b->g.length<h.length:=λ {g e b} q=>by rw[q,List.length_append,List.length_cons];exact Nat.lt_add_of_pos_right (Nat.succ_pos _)
  refine⟨λ g e post q=>?_,λ g e post q p=>?_,λ g e post q p=>?_⟩
  ·rcases old q with ⟨b,q⟩ | ⟨rfl,rfl⟩
   ·rw[ny (gl q)];exact ih.own g e b q
   ·rw[hn,if_pos rfl];refine congrArg (· + 1) (Nat.le_antisymm (Rr _) ?_);by_cases h0:0<bk g (aA e)
    ·obtain⟨j,gj,y,pj,h1,h2,h3,h4,h5⟩:=tN g (aA e) h0;have hj:j∈(aX g e).2:=List.mem_append_left _ (by rw[h1];exact List.mem_cons_self);refine Nat.le_trans ?_ (xa hj (aA e));have:=ih.own gj y pj h2;rw[h3,h4] at this;show _<=vec g j (aA e);rw[this,h2];unfold bk;rw[List.filter_append,List.filter_cons_of_pos (p:=λ x:aQ=>decide (aA x=aA e)) (decide_eq_true h4),List.length_append,List.length_cons,show(pj.filter λ x=>decide (aA x=aA e)).length=0 from h5];exact Nat.le_refl _
    ·exact Nat.le_trans (Nat.le_of_not_lt h0) (Nat.zero_le _)
  ·rcases old q with ⟨b,q⟩ | ⟨rfl,rfl⟩
   ·rw[ny (gl q)];exact ih.le g e b q p
   ·rw[hn,bW];exact Nat.add_le_add_right (Rr p) _
  ·rcases old q with ⟨b,q⟩ | ⟨rfl,rfl⟩
   ·rw[ny (gl q),Rt _ _ λ j hj=>Nat.lt_trans (pred_lt hv.pre q hj) (gl q)];exact ih.eq g e b q p
   ·rw[hn,Rt _ _ λ j hj=>lt hj]
variable{h:List aQ}{ao:List Nat}
theorem HE(hv:Valid h):∀k,k<h.length->(Gd h ao k↔∀p,vec h k p<=ao.getD p 0):=by
 have V:=B9 hv;intro k
 induction k using Nat.strongRecOn with
 |ind k ih=>
  intro hk;obtain⟨hs,hl⟩:=cJ (List.getElem?_eq_getElem hk);generalize h.take k=g at hs hl;generalize h[k]=e at hs;generalize h.drop (k+1)=post at hs;subst hl;rw[oc hv hs];have lt:=@pred_lt h hv g post e hs;refine⟨fun⟨h1,h2⟩ p=>?_,λ q=>⟨?_,λ j hj=>(ih j (lt hj) (Nat.lt_trans (lt hj) hk)).2 λ p=>Nat.le_trans ?_ (q p)⟩⟩
  ·by_cases e1:aA e=p
   ·rw[<-e1,V.own g e post hs];exact h1
   ·rw[V.eq g e post hs,if_neg e1];exact xh λ j hj=>(ih j (lt hj) (Nat.lt_trans (lt hj) hk)).1 (h2 j hj) p
  ·have:=q (aA e);rw[V.own g e post hs] at this;exact this
  ·rw[V.eq g e post hs];exact Nat.le_trans (xa (vs:=vl (aR h)) hj p) (Nat.le_add_right ..)
theorem Ee(hv:Valid h)(p m:Nat)(hm:m<=h.length):cQ h ao m p=(((h.take m).zipIdx.filter λ x=>decide (∀q,vec h x.2 q<=ao.getD q 0)).map λ x=>aA x.1).count p:=by
 induction m with
 |zero=>rfl
 |succ m ih=>
  have he:=List.getElem?_eq_getElem hm;have hl:(h.take m).length=m:=by rw[List.length_take];exact Nat.min_eq_left (Nat.le_of_lt hm)
  rw[fL he,ih (Nat.le_of_lt hm),eD he,fU,List.filter_append,List.map_append,List.count_append,hl];refine congrArg (HAdd.hAdd _) ?_;have g:=HE (ao:=ao) hv m hm;by_cases q:∀q,vec h m q<=ao.getD q 0
  ·rw[List.filter_cons_of_pos (p:=λ x:aQ×Nat=>decide (∀q,vec h x.2 q<=ao.getD q 0)) (decide_eq_true q)];show _=List.count p [aA h[m]];rw[List.count_singleton];by_cases e:aA h[m]=p
   ·rw[if_pos ⟨g.2 q,e⟩,if_pos (beq_iff_eq.2 e)]
   ·rw[if_neg λ z=>e z.2,if_neg λ z=>e (beq_iff_eq.1 z)]
  ·rw[List.filter_cons_of_neg (p:=λ x:aQ×Nat=>decide (∀q,vec h x.2 q<=ao.getD q 0)) λ z=>q (of_decide_eq_true z),if_neg λ z=>q (g.1 z.1)];rfl
theorem Ed(hv:Valid h)(ho:∀e∈h,aA e<ao.length)(hc:∀p,p<ao.length->ao.getD p 0<=bk h p):((List.range ao.length).map (cQ h ao h.length))=ao↔Cons h ao:=by
 have at':∀p,p<ao.length->((List.range ao.length).map (cQ h ao h.length)).getD p 0=cQ h ao h.length p:=λ p hp=>by
  rw[List.getD_eq_getElem?_getD,List.getElem?_map,List.getElem?_range hp];rfl
 refine⟨λ q=>?_,λ hC=>List.ext_getElem? λ i=>?_⟩
 ·have:=A6 (ao:=ao) (low:=(List.range ao.length).map (cQ h ao h.length)) hv λ e he=>at' _ (ho e he);rwa [q] at this
 ·by_cases hi:i<ao.length
  ·have e:=Nat.le_antisymm (yw hv i) (r0 hv hC (λ _=>Nat.le_refl _) i (hc i hi));rw[List.getElem?_map,List.getElem?_range hi,List.getElem?_eq_getElem hi];show some (cQ h ao h.length i)=_;rw[e,List.getD_eq_getElem?_getD,List.getElem?_eq_getElem hi];rfl
  ·rw[List.getElem?_eq_none (Nat.not_lt.1 hi),List.getElem?_eq_none (by rw[List.length_map,List.length_range];exact Nat.not_lt.1 hi)]
end Q.L1
end
section
namespace Q
open PySem Classical Mine.Internal.L1
noncomputable def Ok(k:Nat)(x:PyData):Prop:=x.depth<=k/\PyData.eqv x x=true
theorem sq{k:Nat}{l:List PyData}(h:∀x∈l,Ok k x):PyData.depthAll l<=k/\PyData.eqvAll l l=true:=by
 induction l with
 |nil=>exact⟨Nat.zero_le _,rfl⟩
 |cons x r ih=>
  have h1:=h x (by exact List.mem_cons_self);have h2:=ih λ y hy=>h y (by exact List.mem_cons_of_mem _ ‹_›);refine⟨Nat.max_le.2 ⟨h1.1,h2.1⟩,?_⟩;show(PyData.eqv x x && PyData.eqvAll r r)=true;rw[h1.2,h2.2];rfl
theorem xo{k:Nat}{l:List PyData}(h:∀x∈l,Ok k x):Ok (k+1) (.list l):=⟨Nat.succ_le_succ (sq h).1,(sq h).2⟩
theorem gG{k:Nat}{l:List PyData}(h:∀x∈l,Ok k x):Ok (k+1) (.tuple l):=⟨Nat.succ_le_succ (sq h).1,(sq h).2⟩
theorem ee(k:Nat)(i:Int):Ok k (.int i):=⟨Nat.zero_le _,by rw[fg];exact if_pos rfl⟩
theorem gF(k:Nat)(i:Str):Ok k (.str i):=⟨Nat.zero_le _,by rw[ji];exact if_pos rfl⟩
theorem xq(k:Nat):Ok k .none:=⟨Nat.zero_le _,rfl⟩
theorem ef{G:Type}{k:Nat}{f:G->PyData}(l:List G)(h:∀x,Ok k (f x)):Ok (k+1) (.list (l.map f)):=
 xo λ x hx=>by obtain⟨y,_,rfl⟩:=List.mem_map.1 hx;exact h y
theorem Ok.up{k k':Nat}{x:PyData}(h:Ok k x)(hk:k<=k'):Ok k' x:=⟨Nat.le_trans h.1 hk,h.2⟩
theorem ne_self{k:Nat}{x:PyData}{U:ae}(h:Ok k x)(hk:k<=64):dB U .NotEq (.d x) (.d x)=some false:=
 lF (by rw[Nat.min_self];exact Nat.le_trans h.1 hk) (by rw[h.2];rfl)
theorem cI{Y:Or}{x:PyData}{xs:List PyData}{U:ae}(h:items? x=some xs):f7 Y false "list" [.d x] U=some (.d (.list xs),U):=by
 show((items? x).bind λ xs=>dC false (xs.map .d) U)=_;rw[h];show(mu (xs.map V.d)).map _=_;have:=nW (λ x:PyData=>x) xs;simp only[List.map_id'] at this;rw[this];rfl
theorem wB{xs ys:List PyData}{U:ae}(h:xs.length+ys.length<=cW)(h1:xs≠[])(h2:ys≠[]):mS false .Add (.d (.tuple xs)) (.d (.tuple ys)) U=some (.d (.tuple (xs++ys)),U):=by
 show((if xs.length+ys.length<=cW/\xs≠[]/\ys≠[] then some (PyData.tuple (xs++ys)) else none).bind λ r=>some (V.d r,U))=_;rw[if_pos ⟨h,h1,h2⟩];rfl
noncomputable def px(O:ak):List (Str×V)->Prop
 |[]=>True
 |(x,v)::r=>O x=some v/\px O r
noncomputable def pR(O:ak):List (Str×V)->ak
 |[]=>O
 |(x,v)::r=>Mine.Internal.upd (pR O r) x v
theorem pins{O:ak}{l:List (Str×V)}(h:px O l):O=pR O l:=by
 induction l with
 |nil=>rfl
 |cons p r ih=>
  obtain⟨x,v⟩:=p;have:=ih h.2;funext y;show O y=if y=x then some v else pR O r y
  by_cases e:y=x
  ·rw[if_pos e,e];exact h.1
  ·rw[if_neg e,<-this]
theorem yd{G:Type}{Y:Or}{own:Bool}{l:List G}{f:G->Int}{U:ae}:f7 Y own "sum" [.d (.list (l.map λ x=>.int (f x)))] U=some (.d (.int (l.map f).sum),U):=by
 have:(l.map λ x=>PyData.int (f x))=(l.map f).map PyData.int:=by simp[Function.comp_def]
 rw[this];exact iO
namespace L1
theorem ni(l:List Int):Ok 1 (bw l):=ef l (ee 0)
theorem jv(l:List Nat):Ok 1 (bK l):=ef l λ n=>ee 0 _
theorem eg(k:Nat):∀x∈([]:List PyData),Ok k x:=λ x hx=>by cases hx
theorem a8{k:Nat}{a:PyData}{l:List PyData}(h:Ok k a)(hl:∀x∈l,Ok k x):∀x∈a::l,Ok k x:=λ x hx=>by
 rcases List.mem_cons.1 hx with rfl | hx
 ·exact h
 ·exact hl x hx
theorem IC(m:cB):Ok 1 (c6 m):=by
 cases m with
 |cO v=>exact gG (a8 (gF 0 _) (a8 (ee 0 _) (eg 0)))
 |mark v=>exact gG (a8 (gF 0 _) (a8 (gF 0 _) (eg 0)))
theorem Pg(l:List cB):Ok 2 (eQ l):=ef l IC
theorem EJ(t:Nat×List Int):Ok 2 (eJ t):=gG (a8 (gF 1 _) (a8 (ni _) (eg 1)))
theorem Mj(o:Option Int):Ok 0 (pA o):=by cases o with
 |none=>exact xq 0
 |some i=>exact ee 0 i
theorem Ml(o:Option Nat):Ok 0 (rD o):=by cases o with
 |none=>exact xq 0
 |some i=>exact ee 0 _
theorem EI(s:Snap):Ok 4 (fG s):=
 gG (a8 (gF 3 _) (a8 ((ef _ Mj).up (by decide)) (a8 ((ef _ Ml).up (by decide)) (a8 (ef _ EJ) (eg 3)))))
theorem xr(S:St):Ok 6 (fV S):=
 gG (a8 ((ni _).up (by decide)) (a8 ((ef _ Pg).up (by decide)) (a8 ((jv _).up (by decide)) (a8 (ef _ EI) (eg 5)))))
theorem EH(c:Ch):Ok 1 (aD c):=gG (a8 (ee 0 _) (a8 (ee 0 _) (eg 0)))
theorem Mi(x:aQ):Ok 1 (eH x):=by
 obtain⟨c,v⟩:=x;cases v with
 |none=>exact gG (a8 (gF 0 _) (a8 (ee 0 _) (a8 (ee 0 _) (eg 0))))
 |some v=>exact gG (a8 (gF 0 _) (a8 (ee 0 _) (a8 (ee 0 _) (a8 (ee 0 _) (eg 0)))))
theorem EG(h:List aQ):Ok 2 (.list (h.map eH)):=ef h Mi
theorem ID(sz:Nat)(ps:List Ch):Ok 3 (eA sz ps):=gG (a8 (ee 2 _) (a8 (ef ps EH) (eg 2)))
theorem tA{ps:List Ch}{p:Nat}{n:Str}:aO (aK ps p n)=[]:=ey rfl λ _=>rfl
noncomputable def tO:List Stmt:=(oy body).body
theorem sc{zs:List Int}{i:Nat}{U:ae}(h:i<zs.length):dX U (.d (.list (zs.map .int))) (.d (.int (i:Nat)))=some (.d (.int (zs.getD i 0))):=by
 show(iC (.list (zs.map .int)) (i:Int)).map V.d=_;rw[item_list (by simpa using h)];simp[h]
theorem km{ns:List Nat}{i:Nat}{U:ae}(h:i<ns.length):dX U (.d (bK ns)) (.d (.int (i:Nat)))=some (.d (.int (ns.getD i 0:Nat))):=zL h
theorem Mq{ps:List Ch}{aa:List Int}{L:List ax}{c:Ch}(hc:c∈ps){U:ae}:dX U (.d (.list ((bz ps aa L).q.map eQ))) (.d (.int ((0+(before c ps).length:Nat):Int)))=some (.d (eQ (aq L c))):=by
 have hg:=cS hc;have cz:=aJ hg;rw[Nat.zero_add];show(iC (.list ((bz ps aa L).q.map eQ)) (((before c ps).length:Nat):Int)).map V.d=_;rw[item_list (by simpa[bz] using cz)];simp only[bz,List.getElem_map,Option.map_some];rw[List.getElem?_eq_getElem cz] at hg;rw[Option.some.inj hg]
end L1
end Q
end
section
namespace Q
open PySem Classical Mine.Internal.L1
theorem Co{G:Type}(f g:G->PyData)(ys:List G)(k:PyData×PyData->V):((ys.map f).zip (ys.map g)).map k=ys.map λ y=>k (f y,g y):=by
 induction ys with
 |nil=>rfl
 |cons y r ih=>exact congrArg (k (f y,g y)::·) ih
theorem jg{G:Type}(f g:G->PyData){ys:List G}{Y:Or}{es:List Expr}{p q:Pos}{O:ak}{U σ1:ae}{r:Option (V×ae)}(h:gJ Y es O U=some ([.d (.list (ys.map f)),.d (.list (ys.map g))],σ1)):uC Y (.Call (.Name "zip" p) es [] q) O U r=some ((ys.map λ y=>PyData.tuple [f y,g y]).map .d,σ1):=by
 show nY "zip" (gJ Y es O U) r=_;refine Eq.trans (if_pos (c:=gB "zip"=true) rfl) (bi h ?_);show some (((ys.map f).zip (ys.map g)).map (fun(p:PyData×PyData)=>V.d (.tuple [p.1,p.2])),σ1)=_;rw[Co,List.map_map];rfl
theorem j7{Y:Or}{e:Expr}{p q:Pos}{O:ak}{U σ1:ae}{r:Option (V×ae)}(h:ev Y e O U=some (.d (.int 3),σ1)):uC Y (.Call (.Name "range" p) [e] [] q) O U r=some (((List.range 3).map fun(n:Nat)=>PyData.int n).map .d,σ1):=by
 show nY "range" (gJ Y [e] O U) r=_;exact Eq.trans (if_pos (c:=gB "range"=true) rfl) (bi (ah h rfl) rfl)
theorem vG{U:ae}{a b:Nat}{D:Decidable (a<b)}:dB U .Lt (.d (.int a)) (.d (.int b))=some (@decide (a<b) D):=congrArg some (decide_eq_decide.2 Int.ofNat_lt)
theorem lP{Y:Or}{t b o:Expr}{p:Pos}{O:ak}{U σ1:ae}{P:Prop}[D:Decidable P]{r:Option (V×ae)}(h:i9 Y t O U (ev Y t O U)=some (@decide P D,σ1))(hT:P->ev Y b O σ1=r)(hF:¬P->ev Y o O σ1=r):ev Y (.IfExp t b o p) O U=r:=by
 refine bi h ?_;by_cases q:P
 ·rw[decide_eq_true q];exact hT q
 ·rw[decide_eq_false q];exact hF q
theorem pb{Y:Or}{e:Expr}{O:ak}{U σ1:ae}{xs:List PyData}(hg:kU e=none)(hp:∀r,i9 Y e O U r=B0 Y O U r (kU e))(h:ev Y e O U=some (.d (.list xs),σ1)):i9 Y e O U (ev Y e O U)=some (decide (xs≠[]),σ1):=by
 rw[hp,hg,h];cases xs with
 |nil=>rfl
 |cons x r=>exact congrArg (λ b=>some (b,σ1)) (decide_eq_true (List.cons_ne_nil x r)).symm
theorem ne_nil{U:ae}{xs:List PyData}:dB U .NotEq (.d (.list xs)) (.d (.list []))=some (decide (xs≠[])):=by
 cases xs with
 |nil=>rfl
 |cons x r=>
  refine lF (Nat.le_trans (Nat.min_le_right _ _) (by decide)) ?_;exact(decide_eq_true (List.cons_ne_nil x r)).symm
theorem L9{P Q:Prop}[Decidable P][Decidable Q](h:Q↔¬P):(!decide P && true)=decide Q:=by
 by_cases q:P
 ·rw[decide_eq_true q,decide_eq_false λ z=>h.1 z q];rfl
 ·rw[decide_eq_false q,decide_eq_true (h.2 q)];rfl
namespace L1
noncomputable def Hs:Fn:=(bM.fn "_law_copy").getD ⟨[],[]⟩
theorem Hc:bM.fn "_law_copy"=some Hs:=rfl
theorem zI(n:Nat)(S:St):(bM.run (n+2)).P "_law_copy" [.d (fV S)]=some (some (.d (fV S))):=by
 refine jX Hc rfl (Wp.asg (v:=.d (.list (S.s.map fG))) (bh fG (ys:=S.s) fG rfl rfl λ s hs=>⟨_,rfl,bQ (ah rfl (ah (bA rfl (cI rfl)) (ah (bA rfl (cI rfl)) (ah (bh eJ (ys:=s.t) eJ rfl rfl λ t ht=>⟨_,rfl,bQ (ah rfl (ah (bA rfl (cI rfl)) rfl)) rfl⟩) rfl)))) rfl⟩) ?_);exact Wp.ret (bQ (ah (bA rfl (cI rfl)) (ah (bh eQ (ys:=S.q) eQ rfl rfl λ q hq=>⟨_,rfl,bA rfl (cI rfl)⟩) (ah (bA rfl (cI rfl)) (ah rfl rfl)))) rfl) ⟨_,rfl,rfl⟩
noncomputable def LL:ax->Option (Str×Nat)
 |.aL p n=>some (n,p)
 |_=>none
noncomputable def b9(ai:List ax):List (Str×Nat):=ai.filterMap LL
noncomputable def uD(x:Str×Nat):PyData:=.tuple [.str x.1,.int x.2]
theorem p8(ai:List ax):(b9 ai).map Prod.fst=names ai:=by
 unfold b9 names;rw[List.map_filterMap];refine congrArg (List.filterMap · ai) (funext λ e=>?_);cases e<;>rfl
theorem se{ai:List ax}{p:Nat}{n:Str}:(n,p)∈b9 ai↔ax.aL p n∈ai:=by
 refine List.mem_filterMap.trans ⟨fun⟨e,h1,h2⟩=>?_,λ h=>⟨_,h,rfl⟩⟩;cases e with
 |aL q m=>cases h2;exact h1
 |_=>cases h2
noncomputable def KN:Fn:=(bM.fn "_law_due").getD ⟨[],[]⟩
theorem KD:bM.fn "_law_due"=some KN:=rfl
theorem MD{ps:List Ch}{aa:List Int}{ai:List ax}{p:Nat}{U:ae}(hp:p<aa.length):dX U (.d (bw (bz ps aa ai).b)) (.d (.int p))=some (.d (.int (bF ai p (aa.getD p 0)))):=by
 show(iC (.list ((bz ps aa ai).b.map .int)) (p:Int)).map V.d=_;rw[item_list (by simpa[bz] using hp)];simp[bz,hp]
namespace jh
noncomputable section
def P(n:Nat)(ps:List Ch)(aa:List Int)(ai:List ax)(e:jI):Prop:=∀(hs:∀c∈ps,c.1<aa.length),(bM.run (n+2)).P "_law_due" [.d (.list (ps.map aD)),.d (fV (bz ps aa ai)),.d (d7 e),.d (.list ((b9 ai).map uD))]=some (some (.d (.str (bU ps aa ai e).1)))
def xe:(Nat)×(List Ch)×(List Int)×(List ax)×(jI):=@Classical.epsilon _ ⟨(default,default,default,default,.recv (0,0))⟩ λ x=>¬P x.1 x.2.1 x.2.2.1 x.2.2.2.1 x.2.2.2.2
def n:Nat:=xe.1
def ps:List Ch:=xe.2.1
def aa:List Int:=xe.2.2.1
def ai:List ax:=xe.2.2.2.1
def e:jI:=xe.2.2.2.2
theorem core:P n ps aa ai e:=λ hs=>by
 have pB:∀(c:Ch) (U:ae),dB U .NotIn (.d (aD c)) (.d (.list (ps.map aD)))=some (decide (¬c∈ps)):=λ c U=>(rr rfl (mem_map ff c ps (d:=propDecidable _))).trans (congrArg some (by by_cases q:c∈ps<;>simp[q]));refine jX KD rfl ?_;cases e with
 |aL p nm=>
  refine Wp.sN rfl (Wp.ret (v:=.d (.str (bU ps aa ai (.aL p nm)).1)) (σ1:=[]) (lP (P:=nm∈names ai) (aV rfl (bh uD (ys:=b9 ai) (λ x=>.str x.1) rfl rfl λ x hx=>⟨_,rfl,rfl⟩) (nQ rfl ?_)) (λ q=>?_) λ q=>?_) ⟨_,rfl,rfl⟩)
  ·rw[show((b9 ai).map λ x=>PyData.str x.1)=(names ai).map .str by rw[<-p8,List.map_map];rfl];exact mem_map eq_str nm (names ai)
  ·rw[show bU ps aa ai (.aL p nm)=_ from if_pos q];rfl
  ·rw[show bU ps aa ai (.aL p nm)=_ from if_neg q];rfl
 |send c v=>
  refine Wp.fX rfl ((Wp.CH (P:=¬c∈ps) (aV rfl rfl (pB c _)) (λ q=>?_) λ q=>Wp.fin ?_))
  ·rw[show bU ps aa ai (.send c v)=_ from if_neg q];exact Wp.ret rfl ⟨_,rfl,rfl⟩
  ·replace q:=Classical.not_not.1 q
   rw[show bU ps aa ai (.send c v)=_ from if_pos q];refine Wp.CH (P:=bF ai c.1 (aa.getD c.1 0)<v) (cj (a:=true) rfl λ _=>(bY (b:=true) (aV rfl (au rfl rfl rfl (MD (hs c q))) rfl) λ _=>rfl).trans (congrArg (λ b=>some (b,_)) (Bool.and_true _))) (λ z=>?_) λ z=>Wp.fin (Wp.fX rfl ?_)
   ·rw[if_pos z];exact Wp.ret rfl ⟨_,rfl,rfl⟩
   ·rw[if_neg z];exact Wp.ret rfl ⟨_,rfl,rfl⟩
 |recv c=>
  refine Wp.fX rfl ((Wp.CH (P:=¬c∈ps) (aV rfl rfl (pB c _)) (λ q=>?_) λ q=>Wp.fin (Wp.fX rfl ?_)))
  ·rw[show bU ps aa ai (.recv c)=_ from if_neg q];exact Wp.ret rfl ⟨_,rfl,rfl⟩
  ·replace q:=Classical.not_not.1 q
   rw[show bU ps aa ai (.recv c)=_ from if_pos q];refine Wp.w2 (c:=decide (aq ai c=[])) (cj (a:=true) rfl λ _=>(bY (b:=true) (en (pb rfl (λ _=>rfl) (au rfl rfl (lN rfl rfl (idx_map ff c ps q 0)) (Mq q)))) λ _=>rfl).trans (congrArg (λ b=>some (b,_)) ?_)) (λ z=>?_) λ z=>Wp.fin ?_
   ·exact L9 ⟨λ z y=>y (List.map_eq_nil_iff.2 z),λ z=>List.map_eq_nil_iff.1 (Classical.not_not.1 z)⟩
   ·rw[of_decide_eq_true z];exact Wp.ret rfl ⟨_,rfl,rfl⟩
   ·have z:=of_decide_eq_false z;cases hq:aq ai c with
    |nil=>exact absurd hq z
    |cons m r=>cases m<;>exact Wp.ret rfl ⟨_,rfl,rfl⟩
end
end jh
theorem C7(n:Nat)(ps:List Ch)(aa:List Int)(ai:List ax)(e:jI):jh.P n ps aa ai e:=aU (Q:=λ x:(Nat)×(List Ch)×(List Int)×(List ax)×(jI)=>jh.P x.1 x.2.1 x.2.2.1 x.2.2.2.1 x.2.2.2.2) jh.core (n,ps,aa,ai,e)
end L1
end Q
end
section
namespace Q
open PySem Classical Mine.Internal.L1
theorem m8{a b:Nat}{U:ae}(h:b≠0):mS false .Mod (.d (.int a)) (.d (.int b)) U=some (.d (.int ((a % b:Nat):Int)),U):=(gE (Int.ofNat_ne_zero.2 h)).trans (by rw[Int.ofNat_fmod])
theorem item_at{G:Type}{f:G->PyData}{l:List G}{k:Nat}{a:G}{U:ae}(h:l[k]?=some a):dX U (.d (.list (l.map f))) (.d (.int k))=some (.d (f a)):=by
 have hk:=aJ h;show(iC (.list (l.map f)) (k:Int)).map V.d=_;rw[item_list (by rw[List.length_map];exact hk),List.getElem_map];exact congrArg (λ z=>some (V.d (f z))) (Option.some.inj ((List.getElem?_eq_getElem hk).symm.trans h))
theorem L4{U:ae}{a b:Nat}(h:a<b):dB U .Lt (.d (.int a)) (.d (.int b))=some true:=vG.trans (congrArg some (decide_eq_true h))
theorem Be{U:ae}{a b:Nat}(h:¬a<b):dB U .Lt (.d (.int a)) (.d (.int b))=some false:=vG.trans (congrArg some (decide_eq_false h))
theorem xf(a b:Nat):max (a:Int) (b:Int)=((max a b:Nat):Int):=by
 rcases Nat.le_total a b with h | h
 ·rw[Nat.max_eq_right h];exact Int.max_eq_right (Int.ofNat_le.2 h)
 ·rw[Nat.max_eq_left h];exact Int.max_eq_left (Int.ofNat_le.2 h)
theorem Rw{x a:Nat}(h:¬x<a)(h1:¬x=a)(h2:x<a+2):x=a+1:=Nat.le_antisymm (Nat.le_of_lt_succ h2) (Nat.lt_of_le_of_ne (Nat.not_lt.1 h) λ q=>h1 q.symm)
namespace L1
variable{ps:List Ch}{bad:Ch}{aa:List Int}{ai:List ax}
noncomputable def wQ:Fn:=(bM.fn "_law_event").getD ⟨[],[]⟩
theorem Dd:bM.fn "_law_event"=some wQ:=rfl
end L1
namespace L1
namespace iR
noncomputable section
def P(ps:List Ch)(bad:Ch)(ai:List ax)(n:Nat)(x:Nat)(y:Nat):Prop:=∀(hp:ps≠[]) (hl:ps.length<=1000) (hx:x<=12),∃e,pY 3 (bad::ps) e/\(x=12->∃c,e=.recv c/\c∈ps/\(aq ai c≠[]\/∀d∈ps,aq ai d=[]))/\
   (bM.run (n+2)).P "_law_event" [.d (.list (ps.map aD)),.d (aD bad),.d (.list ((ps.map (aq ai)).map eQ)),.d (.int x),.d (.int y)]=some (some (.d (d7 e)))
def xe:(List Ch)×(Ch)×(List ax)×(Nat)×(Nat)×(Nat):=@Classical.epsilon _ ⟨(default,default,default,default,default,default)⟩ λ x=>¬P x.1 x.2.1 x.2.2.1 x.2.2.2.1 x.2.2.2.2.1 x.2.2.2.2.2
def ps:List Ch:=xe.1
def bad:Ch:=xe.2.1
def ai:List ax:=xe.2.2.1
def n:Nat:=xe.2.2.2.1
def x:Nat:=xe.2.2.2.2.1
def y:Nat:=xe.2.2.2.2.2
theorem core:P ps bad ai n x y:=λ hp hl hx=>by
 let rd:=ps.filter λ c=>decide (aq ai c≠[])
 have aZ:(ps.map aD).length≠0:=λ q=>hp (List.map_eq_nil_iff.1 (List.eq_nil_of_length_eq_zero q));have hm:y % (ps.map aD).length<ps.length:=Nat.lt_of_lt_of_eq (Nat.mod_lt _ (Nat.pos_of_ne_zero aZ)) (List.length_map _);obtain⟨c,hc⟩:∃c,ps[y % (ps.map aD).length]?=some c:=⟨_,List.getElem?_eq_getElem hm⟩;have MZ:=List.mem_of_getElem? hc;have go:∀(e:jI),(∀O,O=upd (upd (upd (upd (upd (upd (λ _=>none) "y" (.d (.int y))) "x" (.d (.int x))) "queues" (.d (.list ((ps.map (aq ai)).map eQ)))) "bad" (.d (aD bad))) "chans" (.d (.list (ps.map aD)))) "ready" (.d (.list (rd.map aD)))->Wp (xs (bM.run (n+1)) wQ.body.tail O []) (P0 (.d (d7 e))))->
   (bM.run (n+2)).P "_law_event" [.d (.list (ps.map aD)),.d (aD bad),.d (.list ((ps.map (aq ai)).map eQ)),.d (.int x),.d (.int y)]=some (some (.d (d7 e))):=λ e k=>by
  refine jX Dd rfl (Wp.asg (v:=.d (.list (rd.map aD))) (fH (λ c=>PyData.tuple [aD c,eQ (aq ai c)]) (λ c=>decide (aq ai c≠[])) aD (ys:=ps) (jg aD (λ c=>eQ (aq ai c)) (ys:=ps) ?_) rfl λ d hd=>⟨_,rfl,eo ((pb (xs:=(aq ai d).map c6) rfl (λ _=>rfl) rfl).trans (congrArg (λ b=>some (b,_)) (decide_eq_decide.2 (not_congr List.map_eq_nil_iff)))),λ _=>rfl⟩) (k _ rfl));rw[List.map_map];rfl
 have at':∀{U:ae},dX U (.d (.list (ps.map aD))) (.d (.int ((y % (ps.map aD).length:Nat):Int)))=some (.d (aD c)):=item_at hc;have two:∀{a:PyData} {d:Ch} {U:ae},mS false .Add (.d (.tuple [a])) (.d (aD d)) U=some (.d (.tuple [a,.int d.1,.int d.2]),U):=wB (Nat.le_of_ble_eq_true rfl) (List.cons_ne_nil _ _) (List.cons_ne_nil _ _);have three:∀{a b c d:PyData} {U:ae},mS false .Add (.d (.tuple [a,b,c])) (.d (.tuple [d])) U=some (.d (.tuple [a,b,c,d]),U):=wB (Nat.le_of_ble_eq_true rfl) (List.cons_ne_nil _ _) (List.cons_ne_nil _ _);by_cases h5:x<5
 ·refine⟨.send c x,List.mem_cons_of_mem _ MZ,λ q=>absurd (q▸h5) (by decide),go _ λ O kf=>?_⟩;subst kf;exact Wp.sN (aV rfl rfl (L4 h5)) (Wp.ret (bf (bf rfl (au rfl rfl (bf rfl rfl (m8 aZ)) at') two) rfl three) ⟨_,rfl,rfl⟩)
 by_cases h8:x<8
 ·refine⟨.recv c,List.mem_cons_of_mem _ MZ,λ q=>absurd (q▸h8) (by decide),go _ λ O kf=>?_⟩;subst kf;exact Wp.fX (aV rfl rfl (Be h5)) ((Wp.sN (aV rfl rfl (L4 h8)) (Wp.ret (bf rfl (au rfl rfl (bf rfl rfl (m8 aZ)) at') two) ⟨_,rfl,rfl⟩)))
 by_cases HI:x<10
 ·have sn:∀(s:Str),((x:Int)-8=0/\s="a")\/((x:Int)-8=1/\s="b")->(bM.run (n+2)).P "_law_event" [.d (.list (ps.map aD)),.d (aD bad),.d (.list ((ps.map (aq ai)).map eQ)),.d (.int x),.d (.int y)]=some (some (.d (d7 (.aL (y % 3) s)))):=λ s hs=>go _ λ O kf=>by
   subst kf;refine Wp.fX (aV rfl rfl (Be h5)) ((Wp.fX (aV rfl rfl (Be h8)) ((Wp.sN (aV rfl rfl (L4 HI)) (Wp.ret (v:=.d (d7 (.aL (y % 3) s))) (bQ (ah rfl (ah (bf rfl rfl (m8 (b:=3) (by decide))) (ah (v:=.d (.str s)) (au (b:=.d (.int ((x:Int)-8))) rfl rfl rfl ?_) rfl))) rfl) ⟨_,rfl,rfl⟩)))));rcases hs with ⟨h1,rfl⟩ | ⟨h1,rfl⟩<;>(rw[h1];rfl)
  by_cases h9:x=8
  ·exact⟨.aL (y % 3) "a",⟨Nat.mod_lt _ (by decide),.inl rfl⟩,λ q=>absurd (q▸HI) (by decide),sn _ (.inl ⟨by rw[h9];rfl,rfl⟩)⟩
  ·exact⟨.aL (y % 3) "b",⟨Nat.mod_lt _ (by decide),.inr rfl⟩,λ q=>absurd (q▸HI) (by decide),sn _ (.inr ⟨by rw[Rw h8 h9 HI];rfl,rfl⟩)⟩
 by_cases K3:x<12
 ·have bd:∀(e:jI),((x:Int)-10=0/\e=.send bad y)\/((x:Int)-10=1/\e=.recv bad)->(bM.run (n+2)).P "_law_event" [.d (.list (ps.map aD)),.d (aD bad),.d (.list ((ps.map (aq ai)).map eQ)),.d (.int x),.d (.int y)]=some (some (.d (d7 e))):=λ e hs=>go _ λ O kf=>by
   subst kf;refine Wp.fX (aV rfl rfl (Be h5)) ((Wp.fX (aV rfl rfl (Be h8)) ((Wp.fX (aV rfl rfl (Be HI)) ((Wp.sN (aV rfl rfl (L4 K3)) (Wp.ret (v:=.d (d7 e)) (au (b:=.d (.int ((x:Int)-10))) rfl (j9 (ah (bf (bf rfl rfl two) rfl three) (ah (bf rfl rfl two) rfl)) rfl) rfl ?_) ⟨_,rfl,rfl⟩)))))));rcases hs with ⟨h1,rfl⟩ | ⟨h1,rfl⟩<;>(rw[h1];rfl)
  by_cases h9:x=10
  ·exact⟨.send bad y,List.mem_cons_self,λ q=>absurd (q▸K3) (by decide),bd _ (.inl ⟨by rw[h9];rfl,rfl⟩)⟩
  ·exact⟨.recv bad,List.mem_cons_self,λ q=>absurd (q▸K3) (by decide),bd _ (.inr ⟨by rw[Rw HI h9 K3];rfl,rfl⟩)⟩
 have hk:∃d,(rd++ps)[y % max 1 (rd.map aD).length]?=some d/\d∈ps/\(aq ai d≠[]\/∀z∈ps,aq ai z=[]):=by
  rw[List.length_map];by_cases q:rd=[]
  ·rw[q,show y % max 1 ([]:List Ch).length=0 from Nat.mod_one y];cases Gg:ps with
   |nil=>exact absurd Gg hp
   |cons d r=>exact⟨d,rfl,List.mem_cons_self,.inr λ z hz=>Classical.byContradiction λ w=>by
     have:z∈rd:=List.mem_filter.2 ⟨Gg▸hz,decide_eq_true w⟩;rw[q] at this;cases this⟩
  ·have hl:0<rd.length:=List.length_pos_iff.2 q;have cz:y % max 1 rd.length<rd.length:=Nat.lt_of_lt_of_eq (Nat.mod_lt _ (Nat.lt_of_lt_of_le Nat.one_pos (Nat.le_max_left ..))) (Nat.max_eq_right hl);have hd:=List.mem_filter.1 (List.getElem_mem cz);exact⟨rd[y % max 1 rd.length],(List.getElem?_append_left cz).trans (List.getElem?_eq_getElem cz),hd.1,.inl (of_decide_eq_true hd.2)⟩
 obtain⟨d,h1,h2,h3⟩:=hk;refine⟨.recv d,List.mem_cons_of_mem _ h2,λ _=>⟨d,rfl,h2,h3⟩,go _ λ O kf=>?_⟩;subst kf;refine Wp.fX (aV rfl rfl (Be h5)) ((Wp.fX (aV rfl rfl (Be h8)) ((Wp.fX (aV rfl rfl (Be HI)) ((Wp.fX (aV rfl rfl (Be K3)) ((Wp.ret (σ1:=[]) (bf rfl (au (σ1:=[]) (a:=.d (.list ((rd++ps).map aD))) (b:=.d (.int ((y % max 1 (rd.map aD).length:Nat):Int))) rfl ((bf rfl rfl (add_list ?_)).trans ?_) ((bf (σ1:=[]) (σ2:=[]) (a:=.d (.int (y:Nat))) (b:=.d (.int ((max 1 (rd.map aD).length:Nat):Int))) rfl ((bA rfl rfl).trans ?_) (m8 ?_))) (item_at h1)) two) ⟨_,rfl,rfl⟩))))))))
 ·rw[List.length_map,List.length_map];exact Nat.le_trans (Nat.add_le_add (Nat.le_trans (List.length_filter_le ..) hl) hl) (by decide)
 ·rw[List.map_append]
 ·show some (V.d (.int (max (1:Int) ((rd.map aD).length:Nat))),_)=_;rw[show max (1:Int) ((rd.map aD).length:Nat)=((max 1 (rd.map aD).length:Nat):Int) from xf 1 _]
 ·exact Nat.ne_of_gt (Nat.lt_of_lt_of_le Nat.one_pos (Nat.le_max_left ..))
end
end iR
variable{ps:List Ch}{bad:Ch}{aa:List Int}{ai:List ax}
theorem yl(n:Nat)(hp:ps≠[])(hl:ps.length<=1000)(x y:Nat)(hx:x<=12):∃e,pY 3 (bad::ps) e/\(x=12->∃c,e=.recv c/\c∈ps/\(aq ai c≠[]\/∀d∈ps,aq ai d=[]))/\
   (bM.run (n+2)).P "_law_event" [.d (.list (ps.map aD)),.d (aD bad),.d (.list ((ps.map (aq ai)).map eQ)),.d (.int x),.d (.int y)]=some (some (.d (d7 e))):=aU (Q:=λ x:(List Ch)×(Ch)×(List ax)×(Nat)×(Nat)×(Nat)=>iR.P x.1 x.2.1 x.2.2.1 x.2.2.2.1 x.2.2.2.2.1 x.2.2.2.2.2) iR.core (ps,bad,ai,n,x,y) hp hl hx
theorem Hj(c d:cB):eq? (c6 c) (c6 d)=some (decide (c=d)):=(qf (Nat.le_trans (Nat.min_le_left ..) (Nat.le_trans (C2 c) (by decide)))).trans (congrArg some (Dp c d))
theorem zZ(a b:Nat):eq? (.int a) (.int b)=some (decide (a=b)):=(eq_int ..).trans (congrArg some dk.symm)
noncomputable def Ht:Fn:=(bM.fn "_law_ripe").getD ⟨[],[]⟩
theorem Hf:bM.fn "_law_ripe"=some Ht:=rfl
theorem Ac{G β:Type}{f:G->Bool}{g:G->β}{l:List G}:(l.filter f).map g≠[]↔∃x,x∈l/\f x=true:=
 ⟨λ h=>Classical.byContradiction λ k=>h (List.map_eq_nil_iff.2 (List.filter_eq_nil_iff.2 λ x hx e=>k ⟨x,hx,e⟩)),fun⟨x,hx,e⟩ h=>List.filter_eq_nil_iff.1 (List.map_eq_nil_iff.1 h) x hx e⟩
end L1
namespace L1
namespace ir
noncomputable section
def P(n:Nat)(ps:List Ch)(bO:List Nat)(ai:List ax)(nm:Str):Prop:=(bM.run (n+2)).P "_law_ripe" [.d (.list ((ps.map (aq ai)).map eQ)),.d (.list ((b9 ai).map uD)),.d (.tuple (bO.map fun(k:Nat)=>.int k)),.d (.str nm)]=some (some (.d (.bool (decide (xY ps bO ai nm)))))
def xe:(Nat)×(List Ch)×(List Nat)×(List ax)×(Str):=@Classical.epsilon _ ⟨(default,default,default,default,default)⟩ λ x=>¬P x.1 x.2.1 x.2.2.1 x.2.2.2.1 x.2.2.2.2
def n:Nat:=xe.1
def ps:List Ch:=xe.2.1
def bO:List Nat:=xe.2.2.1
def ai:List ax:=xe.2.2.2.1
def nm:Str:=xe.2.2.2.2
theorem core:P n ps bO ai nm:=by
 have h1:∀(q:List cB) (U:ae),dB U .In (.d (c6 (.mark nm))) (.d (eQ q))=some (decide (cB.mark nm∈q)):=λ q U=>nQ rfl (mem_map Hj _ q);have h2:∀(p:Nat) (U:ae),dB U .In (.d (.int p)) (.d (.tuple (bO.map fun(k:Nat)=>.int k)))=some (decide (p∈bO)):=λ p U=>nQ rfl (mem_map zZ p bO);refine jX Hf rfl (Wp.CH (P:=¬∀c∈ps,cB.mark nm∉aq ai c) (σ1:=[]) ((pb (xs:=((ps.map (aq ai)).filter λ q=>decide (cB.mark nm∈q)).map eQ) rfl (λ _=>rfl) (fH eQ (λ q=>decide (cB.mark nm∈q)) eQ (ys:=ps.map (aq ai)) rfl rfl λ q hq=>⟨_,rfl,eo (aV rfl rfl (h1 q _)),λ _=>rfl⟩)).trans (congrArg (λ b=>some (b,_)) (decide_eq_decide.2 (Ac.trans ⟨fun⟨x,hx,e⟩ k=>?_,λ k=>?_⟩)))) (λ q=>Wp.ret (v:=.d (.bool false)) rfl ⟨_,rfl,?_⟩) λ q=>Wp.fin (Wp.ret (v:=.d (.bool (decide (xY ps bO ai nm)))) (σ1:=[]) (lL (fH uD (λ x=>decide (x.1=nm) && (decide (x.2∈bO) && true)) (λ x=>.int x.2) (ys:=b9 ai) rfl rfl λ x hx=>⟨_,rfl,eo (cj (aV rfl rfl (f9 rfl)) λ _=>bY (aV rfl rfl (h2 x.2 _)) λ _=>rfl),λ _=>rfl⟩) rfl (ne_nil.trans (congrArg some (decide_eq_decide.2 (Ac.trans ⟨fun⟨x,hx,e⟩=>?_,fun⟨_,p,h4,h5⟩=>⟨(nm,p),se.2 h4,?_⟩⟩))))) ⟨_,rfl,rfl⟩))
 ·obtain⟨c,hc,rfl⟩:=List.mem_map.1 hx;exact k c hc (of_decide_eq_true e)
 ·exact Classical.byContradiction λ z=>k λ c hc hm=>z ⟨_,List.mem_map_of_mem hc,decide_eq_true hm⟩
 ·rw[decide_eq_false fun(z:xY ps bO ai nm)=>q z.1];rfl
 ·rw[Bool.and_true,Bool.and_eq_true,decide_eq_true_eq,decide_eq_true_eq] at e;exact⟨Classical.not_not.1 q,x.2,se.1 (e.1▸hx),e.2⟩
 ·rw[decide_eq_true h5,decide_eq_true rfl];rfl
end
end ir
variable{ps:List Ch}{bad:Ch}{aa:List Int}{ai:List ax}
theorem By(n:Nat)(ps:List Ch)(bO:List Nat)(ai:List ax)(nm:Str):ir.P n ps bO ai nm:=aU (Q:=λ x:(Nat)×(List Ch)×(List Nat)×(List ax)×(Str)=>ir.P x.1 x.2.1 x.2.2.1 x.2.2.2.1 x.2.2.2.2) ir.core (n,ps,bO,ai,nm)
noncomputable def ym:Fn:=(bM.fn "_law_snapped").getD ⟨[],[]⟩
theorem yj:bM.fn "_law_snapped"=some ym:=rfl
theorem PF{p:Nat}{U:ae}(hp:p<aa.length):dX U (.d (bK (bz ps aa ai).c)) (.d (.int p))=some (.d (.int (bS ai p:Nat))):=by
 refine(km (by simpa[bz] using hp)).trans ?_;simp[bz,hp]
theorem Pn(ai:List ax)(c:Ch):(aq ai c).length<=ai.length:=Nat.le_trans (List.drop_sublist _ _).length_le (List.length_filterMap_le _ _)
theorem vT{β:Type}(h3:aa.length=3)(f:Int×Nat->β)(g:β->PyData):((List.range 3).map λ q=>g (f (aa.getD q 0,q)))=(aa.zipIdx.map f).map g:=by
 rw[List.map_map,<-gS aa 0,h3];rfl
theorem vL{p x:Nat}{n:Str}(fk:∀x,ax.aF x n∉ai++[.aL p n])(hx:x≠p):ax.aF x n∉ai++[.aL p n]++aK ps p n:=dN (fk x) λ z=>hx (bP.1 z).1
theorem I2{p:Nat}{n:Str}(fk:∀x,ax.aF x n∉ai++[.aL p n])(x:Int×Nat):cH (ai++[.aL p n]++aK ps p n) n x=if x.2=p then some (bF ai x.2 x.1) else none:=by
 by_cases q:x.2=p
 ·subst q;rw[if_pos rfl];exact(qN (fk x.2)).trans (congrArg some (fC rfl rfl))
 ·rw[if_neg q];exact if_neg (vL fk q)
theorem G4{p:Nat}{n:Str}(fk:∀x,ax.aF x n∉ai++[.aL p n])(x:Int×Nat):fb (ai++[.aL p n]++aK ps p n) n x=if x.2=p then some (bS ai x.2) else none:=by
 by_cases q:x.2=p
 ·subst q;rw[if_pos rfl];exact(wG (fk x.2)).trans (congrArg some (fE rfl rfl))
 ·rw[if_neg q];exact if_neg (vL fk q)
theorem Jb{p:Nat}{n:Str}(fk:∀x,ax.aF x n∉ai++[.aL p n])(c:Ch):aP (ai++[.aL p n]++aK ps p n) c n=if c.2=p then(1,[]) else(0,[]):=by
 by_cases q:c.2=p
 ·subst q;rw[if_pos rfl];exact uq (fk c.2) lY (bI c.2 n c)
 ·rw[if_neg q];exact dv (vL fk q)
end L1
namespace L1
namespace eI
noncomputable section
def P(ps:List Ch)(aa:List Int)(ai:List ax)(k:Nat)(p:Nat)(n:Str)(L:List ax):Prop:=∀(cE:ps.Nodup) (I:Inv aa.length ps ai) (h3:aa.length=3) (hl:ai.length<=50000) (hn:n∉names ai) (hL:L=ai++[.aL p n]++aK ps p n),(bM.run (k+2)).P "_law_snapped" [.d (.list (ps.map aD)),.d (fV (bz ps aa ai)),.d (.int p),.d (.str n)]=some (some (.d (fV (bz ps aa L))))
def xe:(List Ch)×(List Int)×(List ax)×(Nat)×(Nat)×(Str)×(List ax):=@Classical.epsilon _ ⟨(default,default,default,default,default,default,default)⟩ λ x=>¬P x.1 x.2.1 x.2.2.1 x.2.2.2.1 x.2.2.2.2.1 x.2.2.2.2.2.1 x.2.2.2.2.2.2
def ps:List Ch:=xe.1
def aa:List Int:=xe.2.1
def ai:List ax:=xe.2.2.1
def k:Nat:=xe.2.2.2.1
def p:Nat:=xe.2.2.2.2.1
def n:Str:=xe.2.2.2.2.2.1
def L:List ax:=xe.2.2.2.2.2.2
theorem core:P ps aa ai k p n L:=λ cE I h3 hl hn hL=>by
 have eL:L=ai++.aL p n::aK ps p n:=hL.trans (List.append_assoc ..);have fk:∀x,ax.aF x n∉ai++[.aL p n]:=λ x=>dN (λ q=>hn (I.JG x n q).1) (fc λ h=>by cases h);have sv:=λ x=>hL▸I2 (ps:=ps) fk x;have cv:=λ x=>hL▸G4 (ps:=ps) fk x;have tv:=λ c=>hL▸Jb (ps:=ps) fk c;have qv:∀c∈ps,aq L c=if c.1=p then aq ai c++[.mark n] else aq ai c:=λ c hc=>by
  rw[eL,c5 (ext:=.aL p n::aK ps p n) (I.le c) (bI p n c),show outs c (.aL p n::aK ps p n)=_ from dc cE p n c];by_cases q:c.1=p
  ·rw[if_pos q,if_pos ⟨hc,q⟩]
  ·rw[if_neg q,if_neg λ z=>q z.2,List.append_nil]
 refine jX yj rfl (Wp.asg (v:=.d (.list ((aa.zipIdx.map (cH L n)).map pA))) (σ1:=[]) (Eq.trans (bh (fun(k:Nat)=>PyData.int k) (ys:=List.range 3) (λ q=>pA (cH L n (aa.getD q 0,q))) (j7 rfl) rfl λ q hq=>⟨_,rfl,lP (P:=q=p) (aV rfl rfl (d5 dk)) (λ z=>?_) λ z=>?_⟩) (congrArg (λ l=>some (V.d (.list l),_)) (vT h3 _ _)))
  (Wp.asg (v:=.d (.list ((aa.zipIdx.map (fb L n)).map rD))) (σ1:=[]) (Eq.trans (bh (fun(k:Nat)=>PyData.int k) (ys:=List.range 3) (λ q=>rD (fb L n (aa.getD q 0,q))) (j7 rfl) rfl λ q hq=>⟨_,rfl,lP (P:=q=p) (aV rfl rfl (d5 dk)) (λ z=>?_) λ z=>?_⟩) (congrArg (λ l=>some (V.d (.list l),_)) (vT h3 _ _)))
  (Wp.asg (v:=.d (.list (ps.map λ c=>eJ (aP L c n)))) (σ1:=[]) (bh aD (ys:=ps) (λ c=>eJ (aP L c n)) rfl rfl λ c hc=>⟨_,rfl,?_⟩)
  (Wp.asg (v:=.d (.list (ps.map λ c=>eQ (aq L c)))) (σ1:=[]) (bh (λ c=>PyData.tuple [aD c,eQ (aq ai c)]) (ys:=ps) (λ c=>eQ (aq L c)) (jg aD (λ c=>eQ (aq ai c)) (ys:=ps) ?_) rfl λ c hc=>⟨_,rfl,lP (P:=c.1=p) (aV rfl rfl (d5 dk)) (λ z=>?_) λ z=>?_⟩)
  (Wp.ret (v:=.d (fV (bz ps aa L))) (σ1:=[]) ((bQ (ah rfl (ah rfl (ah rfl (ah (bf rfl rfl (add_list ?_)) rfl)))) rfl).trans ?_) ⟨_,rfl,rfl⟩)))))
 ·rw[sv,if_pos z];exact au rfl rfl rfl (MD (h3▸List.mem_range.1 hq))
 ·rw[sv,if_neg z];rfl
 ·rw[cv,if_pos z];exact au rfl rfl rfl (PF (h3▸List.mem_range.1 hq))
 ·rw[cv,if_neg z];rfl
 ·rw[tv];by_cases z:c.2=p
  ·rw[if_pos z];exact bQ (ah (lP (P:=c.2=p) (aV rfl rfl (d5 dk)) (λ _=>rfl) λ w=>absurd z w) rfl) rfl
  ·rw[if_neg z];exact bQ (ah (lP (P:=c.2=p) (aV rfl rfl (d5 dk)) (λ w=>absurd w z) λ _=>rfl) rfl) rfl
 ·refine Eq.trans (b:=some ([.d (.list (ps.map aD)),.d (.list ((ps.map (aq ai)).map eQ))],[])) rfl ?_;rw[show(ps.map (aq ai)).map eQ=ps.map λ c=>eQ (aq ai c) from List.map_map ..]
 ·rw[qv c hc,if_pos z];refine(bf rfl rfl (add_list ?_)).trans ?_
  ·rw[List.length_map];exact Nat.le_trans (Nat.add_le_add_right (Nat.le_trans (Pn ai c) hl) 1) (by decide)
  ·show some (V.d (.list ((aq ai c).map c6++[c6 (.mark n)])),_)=_;rw[show eQ (aq ai c++[.mark n])=_ from congrArg PyData.list List.map_append];rfl
 ·rw[qv c hc,if_neg z];rfl
 ·rw[List.length_map];exact Nat.le_trans (Nat.add_le_add_right (Nat.le_trans (Nat.le_of_eq (List.length_map _)) (Nat.le_trans (Bj ai) hl)) 1) (by decide)
 ·have old:∀m∈names ai,dE ps aa L m=dE ps aa ai m:=λ m hm=>by
   have jj:∀x,ax.aF x m∉ax.aL p n::aK ps p n:=λ x z=>by
    rcases List.mem_cons.1 z with z | z
    ·cases z
    ·exact hn ((bP.1 z).2▸hm)
   have pB:∀c:Ch,ax.b5 c (.mark m)∉ax.aL p n::aK ps p n:=λ c z=>by
    rcases List.mem_cons.1 z with z | z
    ·cases z
    ·exact kg z
   unfold dE;rw[eL,List.map_congr_left λ x _=>gU (.inr (jj x.2)),List.map_congr_left λ x _=>kL (.inr (jj x.2)),List.map_congr_left λ c _=>gW (.inr (jj c.2)) (pB c) (congrArg du (bI p n c))]
  have hb:∀x s,bF L x s=bF ai x s:=λ x s=>by
   rw[eL];exact fC (ia p n x) (gr p n x)
  have Th:∀x,bS L x=bS ai x:=λ x=>by
   rw[eL];exact fE (ia p n x) (gr p n x)
  have oq:names L=names ai++[n]:=by
   rw[eL,a7];exact congrArg (names ai++n::·) (cg p n)
  have hs:(bz ps aa L).s=(bz ps aa ai).s++[dE ps aa L n]:=by
   show(names L).map _=(names ai).map _++_;rw[oq,List.map_append,List.map_congr_left old];rfl
  unfold fV;rw[hs,List.map_append];show some (V.d (.tuple [bw (aa.zipIdx.map λ x=>bF ai x.2 x.1),_,bK (aa.zipIdx.map λ x=>bS ai x.2),_]),_)=some (V.d (.tuple [bw (aa.zipIdx.map λ x=>bF L x.2 x.1),.list ((ps.map (aq L)).map eQ),bK (aa.zipIdx.map λ x=>bS L x.2),_]),_);simp only[hb,Th];rw[show(ps.map (aq L)).map eQ=ps.map λ c=>eQ (aq L c) from List.map_map ..];show _=some (V.d (.tuple [_,_,_,.list (_++[.tuple [_,_,_,.list ((ps.map λ c=>aP L c n).map eJ)]])]),_);rw[show(ps.map λ c=>aP L c n).map eJ=ps.map λ c=>eJ (aP L c n) from List.map_map ..];rfl
end
end eI
variable{ps:List Ch}{bad:Ch}{aa:List Int}{ai:List ax}
theorem uh{ps:List Ch}{aa:List Int}{ai:List ax}(k:Nat){p:Nat}{n:Str}{L:List ax}:eI.P ps aa ai k p n L:=aU (Q:=λ x:(List Ch)×(List Int)×(List ax)×(Nat)×(Nat)×(Str)×(List ax)=>eI.P x.1 x.2.1 x.2.2.1 x.2.2.2.1 x.2.2.2.2.1 x.2.2.2.2.2.1 x.2.2.2.2.2.2) eI.core (ps,aa,ai,k,p,n,L)
end L1
end Q
end
section
namespace Q
open PySem Classical Mine.Internal.L1
theorem mW{Y:Or}{a b:Expr}{p:Pos}{O:ak}{U σ1:ae}{ds:List PyData}(h:ev Y (.Subscript a b p) O U=some (.d (.list ds),σ1)):uC Y (.Subscript a b p) O U (ev Y (.Subscript a b p) O U)=some (ds.map .d,σ1):=by
 rw[h];rfl
theorem B6{O:ak}{x:Str}{v:V}(h:O x=some v):O=upd O x v:=pins (l:=[(x,v)]) ⟨h,trivial⟩
theorem Wp.Gq{Y:Or}{s:Stmt}{r:List Stmt}{O:ak}{U:ae}{K:Out->ak->ae->Prop}(x:Str)(v:V)(h1:Wp (x1 Y s O U) λ o aC τ=>o=.nx/\τ=U/\aC=upd O x v)(h2:Wp (xs Y r (upd O x v) U) K):Wp (xs Y (s::r) O U) K:=by
 refine Wp.cons (h1.mono ?_);rintro o aC τ ⟨rfl,rfl,rfl⟩;exact h2
namespace L1
variable{ps:List Ch}{aa:List Int}{h:List aQ}{ao:List Nat}
noncomputable def jQ(h:List aQ):PyData:=.list (h.map λ e=>.int (aA e:Nat))
noncomputable def wz(ps:List Ch)(h:List aQ)(ao:List Nat):Prop:=∀c∈ps,(b8 h ao c).length<=(cq h ao c).length
noncomputable def fo(aa:List Int)(ps:List Ch)(h:List aQ)(ao:List Nat):List Int:=aa.zipIdx.map λ x=>x.1+(ps.map (shift h ao x.2)).sum
noncomputable def restOf(h:List aQ)(ao:List Nat)(c:Ch):PyData:=bw ((cq h ao c).drop (b8 h ao c).length)
noncomputable def dw(ps:List Ch)(h:List aQ)(ao:List Nat):PyData:=if wz ps h ao then .list (ps.map (restOf h ao)) else .str "refused"
noncomputable def DC:Fn:=(bM.fn "_law_facts").getD ⟨[],[]⟩
theorem Dg:bM.fn "_law_facts"=some DC:=rfl
theorem th{pre:List Ch}{c:Ch}:wz (pre++[c]) h ao↔wz pre h ao/\¬(cq h ao c).length<(b8 h ao c).length:=
 ⟨λ q=>⟨λ d hd=>q d (List.mem_append_left _ hd),Nat.not_lt.2 (q c (List.mem_append_right _ List.mem_cons_self))⟩,λ q d hd=>(List.mem_append.1 hd).elim (q.1 d) λ z=>List.mem_singleton.1 z▸Nat.not_lt.1 q.2⟩
theorem yM(l:List Int)(k:Nat):slice? (bw l) none (some (k:Int))=some (bw (l.take k)):=by
 show some (PyData.list (cutAt none (some (k:Int)) (l.map .int)))=_;rw[nU,<-List.map_take];rfl
theorem xC{F:Nat->PyData}{k:Nat}{U:ae}(hk:k<3):dX U (.d (.list ((List.range 3).map F))) (.d (.int k))=some (.d (F k)):=item_at (List.getElem?_range hk)
theorem qF(h3:aa.length=3)(ps:List Ch):bw (fo aa ps h ao)=.list ((List.range 3).map λ p=>.int (aa.getD p 0+(ps.map (shift h ao p)).sum)):=congrArg PyData.list (vT h3 (λ x=>x.1+(ps.map (shift h ao x.2)).sum) PyData.int).symm
end L1
namespace L1
namespace gh
noncomputable section
def P(n:Nat)(ps:List Ch)(aa:List Int)(h:List aQ)(ao:List Nat):Prop:=∀(h3:aa.length=3) (HL:ao.length=3) (hz:∀c∈ps,c.1<3/\c.2<3) (hp:ps.length<=1000),(bM.run (n+2)).P "_law_facts" [.d (.list (ps.map aD)),.d (bw aa),.d (.list (h.map eH)),.d (jQ h),.d (bK ao)]=some (some (.d (.tuple [.bool (decide (wz ps h ao)),bw (fo aa ps h ao),dw ps h ao])))
def xe:(Nat)×(List Ch)×(List Int)×(List aQ)×(List Nat):=@Classical.epsilon _ ⟨(default,default,default,default,default)⟩ λ x=>¬P x.1 x.2.1 x.2.2.1 x.2.2.2.1 x.2.2.2.2
def n:Nat:=xe.1
def ps:List Ch:=xe.2.1
def aa:List Int:=xe.2.2.1
def h:List aQ:=xe.2.2.2.1
def ao:List Nat:=xe.2.2.2.2
theorem core:P n ps aa h ao:=λ h3 HL hz hp=>by
 refine jX Dg rfl (Wp.asg (v:=.d (.list ((List.range 3).map λ p=>.list ((gD h p (ao.getD p 0)).map eH)))) (σ1:=[]) (bh (fun(k:Nat)=>PyData.int k) (ys:=List.range 3) (λ p=>.list ((gD h p (ao.getD p 0)).map eH)) (j7 rfl) rfl λ p hp=>⟨_,rfl,lR (fH (λ e=>.tuple [eH e,.int (aA e:Nat)]) (λ e=>decide (aA e=p)) eH (ys:=h) (jg eH (λ e=>.int (aA e:Nat)) (ys:=h) rfl) rfl λ e he=>⟨_,rfl,eo (aV rfl rfl (d5 dk)),λ _=>rfl⟩) rfl (kQ (au rfl rfl rfl (AY (HL▸List.mem_range.1 hp) _))) (BH _ _)⟩)
  (Wp.asg rfl (Wp.asg (bA rfl (cI rfl)) (Wp.asg rfl (Wp.for rfl (Wp.lS aD (λ pre O U=>Ov ["one","other","sent","taken","fit","shift","money"] _ O/\px O [("fit",.d (.bool (decide (wz pre h ao)))),("money",.d (bw (fo aa pre h ao)))]/\U=[.aI (pre.map λ c=>V.d (restOf h ao c))]) ⟨Ov.refl,⟨?_,?_,trivial⟩,rfl⟩ ?_ ?_))))))
 ·rw[decide_eq_true (show wz [] h ao from λ _ hc=>by cases hc)];rfl
 ·rw[show fo aa [] h ao=aa from by simp[fo]];rfl
 ·rintro pre c post O U hy ⟨⟨f,rfl⟩,hH,rfl⟩;rw[pins hH];clear hH;have MY:=hz c (hy▸List.mem_append_right _ List.mem_cons_self);refine Wp.bind rfl (Wp.asg (v:=.d (bw (cq h ao c))) (n4 eH (ys:=gD h c.1 (ao.getD c.1 0)) (ie c.2) .int (mW (au rfl rfl rfl (xC MY.1))) rfl ?_) (Wp.asg (v:=.d (.list ((b8 h ao c).map λ d=>eH (d,none)))) (n4 eH (ys:=gD h c.2 (ao.getD c.2 0)) (gm c.1) (λ d=>eH (d,none)) (mW (au rfl rfl rfl (xC MY.2))) rfl ?_) ?_))
  ·rintro⟨d,_ | v⟩ hx
   ·exact⟨_,false,rfl,rfl,ite_self none⟩
   ·refine⟨_,true && (decide (d.2=c.2) && true),rfl,eo (cj rfl λ _=>bY (aV rfl rfl (d5 dk)) λ _=>rfl),?_⟩;by_cases q:d.2=c.2
    ·rw[decide_eq_true q];exact⟨v,if_pos q,rfl⟩
    ·rw[decide_eq_false q];exact if_neg q
  ·rintro⟨d,_ | v⟩ hx
   ·refine⟨_,true && (decide (d.1=c.1) && true),rfl,eo (cj rfl λ _=>bY (aV rfl rfl (d5 dk)) λ _=>rfl),?_⟩;by_cases q:d.1=c.1
    ·rw[decide_eq_true q];exact⟨d,if_pos ⟨rfl,q⟩,rfl⟩
    ·rw[decide_eq_false q];exact if_neg λ z=>q z.2
   ·exact⟨_,false,rfl,rfl,if_neg λ z=>Option.some_ne_none _ z.1⟩
  refine Wp.Gq "fit" (.d (.bool (decide (wz (pre++[c]) h ao)))) (Wp.PS (P:=(cq h ao c).length<(b8 h ao c).length) (aV rfl rfl ?_) (λ q=>Wp.asg rfl (Wp.nil ⟨rfl,rfl,?_⟩)) λ q=>Wp.nil ⟨rfl,rfl,B6 ?_⟩) (Wp.expr (dP rfl rfl (lR rfl rfl rfl rfl) rfl (Nat.lt_of_le_of_lt (Nat.le_of_eq (List.length_map _)) (nk hy hp (by decide))))
   (Wp.asg (v:=.d (.list ([(c.1,-(cq h ao c).sum),(c.2,((cq h ao c).take (b8 h ao c).length).sum)].map fun(x:Nat×Int)=>.tuple [.int x.1,.int x.2]))) (j9 (ah (bQ (ah rfl (ah (bi (bA rfl iO) rfl) rfl)) rfl) (ah (bQ (ah rfl (ah (bA (ah (lR rfl rfl (kQ rfl) ?_) rfl) iO) rfl)) rfl) rfl)) rfl)
   (Wp.asg (v:=.d (bw (fo aa (pre++[c]) h ao))) ((bh (fun(k:Nat)=>PyData.int k) (ys:=List.range 3) (λ p=>.int (aa.getD p 0+((pre++[c]).map (shift h ao p)).sum)) (j7 rfl) rfl λ p hp=>⟨_,rfl,(bf (a:=.d (.int (aa.getD p 0+(pre.map (shift h ao p)).sum))) (au rfl rfl rfl ?_) (bA (ah (fH (fun(x:Nat×Int)=>.tuple [.int x.1,.int x.2]) (λ x=>decide (x.1=p)) (λ x=>.int x.2) (ys:=[(c.1,-(cq h ao c).sum),(c.2,((cq h ao c).take (b8 h ao c).length).sum)]) rfl rfl λ x hx=>⟨_,rfl,eo (aV rfl rfl (d5 dk)),λ _=>rfl⟩) rfl) yd) rfl).trans ?_⟩).trans (congrArg (λ d=>some (V.d d,_)) (qF h3 _).symm))
   (Wp.nil ⟨by repeat first | exact⟨f,rfl⟩ | refine Ov.upd ?_ rfl | refine Ov.over ?_ rfl,⟨rfl,rfl,trivial⟩,?_⟩))))
  ·show some (decide ((((cq h ao c).map PyData.int).length:Int)<(((b8 h ao c).map λ d=>eH (d,none)).length:Int)))=_;rw[List.length_map,List.length_map];exact congrArg some (decide_eq_decide.2 Int.ofNat_lt)
  ·rw[decide_eq_false λ z=>(th.1 z).2 q]
  ·rw[show decide (wz (pre++[c]) h ao)=decide (wz pre h ao) from decide_eq_decide.2 (th.trans ⟨λ z=>z.1,λ z=>⟨z,q⟩⟩)];rfl
  ·rw[List.length_map];exact yM _ _
  ·show dX _ (.d (bw (fo aa pre h ao))) _=some (.d (.int (aa.getD p 0+(pre.map (shift h ao p)).sum)));rw[qF h3];exact xC (List.mem_range.1 hp)
  ·refine congrArg (λ i=>some (V.d (.int i),_)) ?_;rw[List.map_append,List.sum_append,<-Int.add_assoc];refine congrArg (fun(z:Int)=>(aa.getD p 0+(pre.map (shift h ao p)).sum)+z) ?_;by_cases q:c.1=p<;>by_cases w:c.2=p<;>simp[shift,q,w]
  ·refine congrArg (λ l=>[Nd.aI l]) (BK (f:=λ c=>V.d (restOf h ao c)) ?_);show V.d (PyData.list (cutAt (some ((((b8 h ao c).map λ d=>eH (d,none)).length:Nat):Int)) none ((cq h ao c).map PyData.int)))=_;rw[zM,List.length_map,<-List.map_drop];rfl
 ·rintro O U ⟨⟨f,rfl⟩,hH,rfl⟩;rw[pins hH];clear hH;rw[L6 (restOf h ao)];refine Wp.w2 (c:=!decide (wz ps h ao)) (en rfl) (λ q=>Wp.asg rfl (Wp.fin (Wp.ret rfl ⟨_,rfl,?_⟩))) λ q=>Wp.fin (Wp.ret (bQ (ah rfl (ah rfl (ah (lM rfl rfl rfl rfl) rfl))) rfl) ⟨_,rfl,?_⟩)
  ·rw[dw,if_neg (by simpa using q)];rfl
  ·rw[dw,if_pos (by simpa using q)];rfl
end
end gh
variable{ps:List Ch}{aa:List Int}{h:List aQ}{ao:List Nat}
theorem yn(n:Nat)(ps:List Ch)(aa:List Int)(h:List aQ)(ao:List Nat):gh.P n ps aa h ao:=aU (Q:=λ x:(Nat)×(List Ch)×(List Int)×(List aQ)×(List Nat)=>gh.P x.1 x.2.1 x.2.2.1 x.2.2.2.1 x.2.2.2.2) gh.core (n,ps,aa,h,ao)
end L1
end Q
end
section
namespace Q
open PySem Classical Mine.Internal.L1
theorem kE{A n:Nd}{r:List Nd}:(A::(r++[n]))[r.length+1]?=some n:=(List.getElem?_cons_succ ..).trans List.getElem?_concat_length
theorem oK{A n m:Nd}{r:List Nd}:(A::(r++[n])).set (r.length+1) m=A::(r++[m]):=congrArg (A::·) L1.xG
theorem E7{U:ae}{l k:Nat}{xs:List V}{d:PyData}(h:U[l]?=some (.aI xs))(hk:xs[k]?=some (.d d)):dX U (.o l) (.d (.int k))=some (.d d):=by
 show um U (.d (.int k)) U[l]?=_;rw[h];show(seqIndex? (k:Int) xs.length).bind (λ k=>(xs[k]?).map (dr U))=_;exact bi (iw (aJ hk)) (congrArg (Option.map (dr U)) hk)
theorem MC{Y:Or}{f:Str}{p q:Pos}{as:List Expr}{O:ak}{U σ1:ae}{ds:List PyData}(hf:gB f=false)(h:ev Y (.Call (.Name f p) as [] q) O U=some (.d (.list ds),σ1)):src Y (.Call (.Name f p) as [] q) O U=some (.items (ds.map .d),σ1):=by
 show(if gB f=true then _ else srcOf (ev Y (.Call (.Name f p) as [] q) O U))=_;rw[hf,h];rfl
namespace L1
noncomputable def nZ(v:Vc):PyData:=bK ((List.range 3).map v)
theorem vc(v:Vc):nZ v=.list ((List.range 3).map fun(p:Nat)=>PyData.int (v p:Nat)):=congrArg PyData.list (List.map_map ..)
noncomputable def KO:Fn:=(bM.fn "vectors").getD ⟨[],[]⟩
theorem KI:bM.fn "vectors"=some KO:=rfl
noncomputable def nV(v:Vc):Nd:=.aI (((List.range 3).map fun(p:Nat)=>PyData.int (v p:Nat)).map .d)
theorem Ep(vs:List Vc)(js:List Nat)(j p:Nat):mx vs (js++[j]) p=max (mx vs js p) ((vs.getD j λ _=>0) p):=List.foldl_append
namespace jD
noncomputable section
def P(n:Nat)(h:List aQ):Prop:=∀(hv:Valid h) (hl:h.length<=1000) (ho:∀e∈h,aA e<3),(bM.run (n+4)).P "vectors" [.d (.int 3),.d (.list (h.map eH))]=some (some (.d (.list ((vl (aR h)).map nZ))))
def xe:(Nat)×(List aQ):=@Classical.epsilon _ ⟨(default,default)⟩ λ x=>¬P x.1 x.2
def n:Nat:=xe.1
def h:List aQ:=xe.2
theorem core:P n h:=λ hv hl ho=>by
 refine jX KI rfl (Wp.asg rfl (Wp.for (MC rfl (fW rfl rfl rfl (jq (n+1) h hv hl))) (Wp.lS iP (λ pre O U=>Ov ["own","pred","v","j"] _ O/\∃r,U=.aI ((vl pre).map λ v=>V.d (nZ v))::r) ⟨Ov.refl,[],rfl⟩ ?_ ?_)))
 ·rintro pre x post O U hy ⟨⟨f,rfl⟩,r,rfl⟩;have hx:(aR h)[pre.length]?=some x:=by rw[hy];exact(List.getElem?_append_right (Nat.le_refl _)).trans (by rw[Nat.sub_self];rfl)
  obtain⟨e,he,rfl⟩:∃e,h[pre.length]?=some e/\aX (h.take pre.length) e=x:=by
   rw[fu] at hx;cases hh:h[pre.length]? with
   |none=>rw[hh] at hx;cases hx
   |some e=>rw[hh] at hx;exact⟨e,rfl,Option.some.inj hx⟩
  have vz:=cJ he;have OG:(aX (h.take pre.length) e).1<3:=ho e (List.mem_of_getElem? he);have hj:∀j∈(aX (h.take pre.length) e).2,j<(vl pre).length:=λ j hj=>by
   rw[ja];exact Nat.lt_of_lt_of_eq (pred_lt hv vz.1 hj) vz.2
  generalize aX (h.take pre.length) e=x at hj hx hy OG ⊢;refine Wp.bind rfl (Wp.asg (v:=.o (r.length+1)) (σ1:=.aI ((vl pre).map λ v=>V.d (nZ v))::(r++[nV (mx (vl pre) [])])) (bf rfl rfl (nf (n:=3) (by decide))) (Wp.for rfl (Wp.lS (fun(k:Nat)=>PyData.int k) (λ js O U=>∃r,Ov ["v","j"] _ O/\px O [("v",.o (r.length+1))]/\U=.aI ((vl pre).map λ v=>V.d (nZ v))::(r++[nV (mx (vl pre) js)])) ⟨r,Ov.refl,⟨rfl,trivial⟩,rfl⟩ ?_ ?_)))
  ·rintro js j jr O U Ul ⟨r,⟨f',rfl⟩,hH,rfl⟩;rw[pins hH];clear hH;have Ot:=hj j (Ul▸List.mem_append_right _ List.mem_cons_self);have hg:((vl pre).map λ v=>V.d (nZ v))[j]?=some (.d (.list ((List.range 3).map fun(p:Nat)=>PyData.int (((vl pre).getD j λ _=>0) p:Nat)))):=by
    rw[List.getElem?_map,List.getD_eq_getElem?_getD,List.getElem?_eq_getElem Ot,<-vc];rfl
   refine Wp.bind rfl (Wp.asg (v:=.o ((r++[Nd.cn (.list ((List.range 3).map fun(p:Nat)=>PyData.int (mx (vl pre) js p:Nat)))]).length+1)) (σ1:=.aI ((vl pre).map λ v=>V.d (nZ v))::((r++[.cn (.list ((List.range 3).map fun(p:Nat)=>PyData.int (mx (vl pre) js p:Nat)))])++[nV (mx (vl pre) (js++[j]))]))
    (fh (xs:=((List.range 3).map λ p=>PyData.tuple [.int (mx (vl pre) js p:Nat),.int (((vl pre).getD j λ _=>0) p:Nat)]).map .d) (σ1:=.aI ((vl pre).map λ v=>V.d (nZ v))::(r++[.cn (.list ((List.range 3).map fun(p:Nat)=>PyData.int (mx (vl pre) js p:Nat)))])) (jg _ _ (ys:=List.range 3) (ah ((lM rfl rfl rfl kE).trans (by rw[oK])) (ah (au rfl (aW rfl rfl rfl rfl rfl) rfl (E7 rfl hg)) rfl)))
     ((congrArg (λ l=>eZ _ _ _ l _) (List.map_map ..)).trans (lI (λ p=>V.d (PyData.tuple [.int (mx (vl pre) js p:Nat),.int (((vl pre).getD j λ _=>0) p:Nat)])) (λ p=>some (.d (.int (mx (vl pre) (js++[j]) p:Nat)))) (ys:=List.range 3) λ p hp=>⟨_,true,rfl,rfl,_,rfl,(bA rfl rfl).trans ?_⟩)) ?_) (Wp.nil ⟨_,?_,⟨rfl,trivial⟩,rfl⟩))
   ·show some (V.d (.int (max ((mx (vl pre) js p:Nat):Int) _)),_)=_;rw[xf,Ep]
   ·rfl
   ·repeat first | exact⟨f',rfl⟩ | refine Ov.upd ?_ rfl | refine Ov.over ?_ rfl
  ·rintro O U ⟨r,⟨f',rfl⟩,hH,rfl⟩;rw[pins hH];clear hH;have aZ:((vl pre).map λ v=>V.d (nZ v)).length<cW:=by
    rw[List.length_map,ja];exact nk hy (Nat.le_trans (Nat.le_of_eq (c4 h)) hl) (by decide)
   refine Wp.aug (σ4:=.aI ((vl pre).map λ v=>V.d (nZ v))::(r++[nV (yA (vl pre) x)])) (aW rfl rfl rfl kE rfl) rfl (gK (k:=x.1) (i:=(mx (vl pre) x.2 x.1:Nat)) kE ?_) (m:=1) rfl rfl ((de (k:=x.1) kE ?_).trans ?_) (Wp.expr (v:=.d .none) (σ1:=.aI ((vl (pre++[x])).map λ v=>V.d (nZ v))::(r++[.cn (.list ((List.range 3).map fun(p:Nat)=>PyData.int (yA (vl pre) x p:Nat)))])) ((dP (l:=0) (σ2:=.aI ((vl pre).map λ v=>V.d (nZ v))::(r++[.cn (.list ((List.range 3).map fun(p:Nat)=>PyData.int (yA (vl pre) x p:Nat)))])) (aW rfl rfl rfl rfl rfl) rfl ((lM rfl rfl rfl kE).trans (by rw[oK])) rfl aZ).trans ?_) (Wp.nil ⟨?_,_,rfl⟩))
   ·rw[List.getElem?_map,List.getElem?_map,List.getElem?_range OG];rfl
   ·rw[List.length_map,List.length_map,List.length_range];exact OG
   ·rw[oK];refine congrArg (λ l=>some (Nd.aI _::(r++[Nd.aI l]))) ?_;rw[List.map_map,fy,List.map_map];refine List.map_congr_left λ p _=>?_;by_cases q:p=x.1
    ·subst q;rw[if_pos rfl];show V.d (.int ((mx (vl pre) x.2 x.1+1:Nat):Int))=V.d (.int ((mx (vl pre) x.2 x.1+(if x.1=x.1 then 1 else 0):Nat):Int));rw[if_pos rfl]
    ·rw[if_neg q];show _=V.d (.int ((mx (vl pre) x.2 p+(if x.1=p then 1 else 0):Nat):Int));rw[if_neg λ z:x.1=p=>q z.symm];rfl
   ·rw[nB,List.map_append,<-vc];rfl
   ·repeat first | exact⟨f,rfl⟩ | refine Ov.upd ?_ rfl | refine Ov.over ?_ rfl
 ·rintro O U ⟨⟨f,rfl⟩,r,rfl⟩;refine Wp.ret (aW rfl rfl rfl rfl rfl) ⟨_,rfl,kF (l:=0) rfl (dG ?_)⟩;rw[<-L6 nZ];rfl
end
end jD
theorem Fu(n:Nat)(h:List aQ):jD.P n h:=aU (Q:=λ x:(Nat)×(List aQ)=>jD.P x.1 x.2) jD.core (n,h)
end L1
end Q
end
section
namespace Q
open PySem Classical Mine.Internal.L1
theorem IW{Y:Or}{it:Expr}{O:ak}{U σ1:ae}{ds:List PyData}(hi:src Y it O U=srcOf (ev Y it O U))(h:ev Y it O U=some (.d (.list ds),σ1)):src Y it O U=some (.items (ds.map .d),σ1):=hi.trans (bi h rfl)
theorem Ci{Y:Or}{x f:Str}{args:List Expr}{hb:List Stmt}{p1 p2 p3 p4 p5 p6 p7:Pos}{O:ak}{U σ1:ae}{vs:List V}{v:V}(h1:gJ Y args O U=some (vs,σ1))(hs:vs.all eT=true)(h2:Y.P f vs=some (some v)) :
  x1 Y (.Try [.Assign [.Name x p1] (.Call (.Name f p2) args [] p3) p4] [.ExceptHandler (some (.Name "ValueError" p5)) none hb p6] [] [] p7) O U=some (.nx,upd O x v,σ1):=by
 show(if("ValueError":Str)="ValueError" then(gJ Y args O U).bind (λ x1=>if x1.1.all eT=true then(Y.P f x1.1).bind (λ w=>match w with
  |some v=>some (Out.nx,upd O x v,x1.2)
  |none=>xs Y hb O x1.2) else none) else none)=_
 rw[if_pos rfl,h1];show(if vs.all eT=true then(Y.P f vs).bind _ else none)=_;rw[if_pos hs,h2];rfl
theorem Cg{Y:Or}{x f:Str}{args:List Expr}{hb:List Stmt}{p1 p2 p3 p4 p5 p6 p7:Pos}{O:ak}{U σ1:ae}{vs:List V}(h1:gJ Y args O U=some (vs,σ1))(hs:vs.all eT=true)(h2:Y.P f vs=some none) :
  x1 Y (.Try [.Assign [.Name x p1] (.Call (.Name f p2) args [] p3) p4] [.ExceptHandler (some (.Name "ValueError" p5)) none hb p6] [] [] p7) O U=xs Y hb O σ1:=by
 show(if("ValueError":Str)="ValueError" then(gJ Y args O U).bind (λ x1=>if x1.1.all eT=true then(Y.P f x1.1).bind (λ w=>match w with
  |some v=>some (Out.nx,upd O x v,x1.2)
  |none=>xs Y hb O x1.2) else none) else none)=_
 rw[if_pos rfl,h1];show(if vs.all eT=true then(Y.P f vs).bind _ else none)=_;rw[if_pos hs,h2];rfl
theorem xN{Y:Or}{e:Expr}{g:Gn}{O:ak}{U:ae}{xs:List PyData}{t:String}(hg:kU e=some g)(hp:∀r,i9 Y e O U r=B0 Y O U r (kU e))(h1:Mc Y g.py U (O g.y) (Y.gl g.y)=some (.d (.list xs),U))(h2:(Y.gl g.T).bind RQ=some t)(h3:pQ U[0]?=true)(h4:∀d∈xs,mK (.d d)=some t):i9 Y e O U (ev Y e O U)=some (true,U):=by
 rw[hp,hg];show Kf Y g O U=_;exact bi h1 (bi (a:=xs) rfl (bi h2 (if_pos ⟨h3,List.all_eq_true.2 λ d hd=>by rw[h4 d hd];exact beq_self_eq_true _⟩)))
theorem vC{U:ae}{a b:Nat}{D:Decidable (a<=b)}:dB U .LtE (.d (.int a)) (.d (.int b))=some (@decide (a<=b) D):=congrArg some (decide_eq_decide.2 Int.ofNat_le)
theorem xm(k:Nat)(b:Bool):Ok k (.bool b):=by cases b<;>exact⟨Nat.zero_le _,rfl⟩
theorem z5(a b:List Nat):PyData.eqvAll (a.map fun(n:Nat)=>.int n) (b.map fun(n:Nat)=>.int n)=decide (a=b):=by
 induction a generalizing b with
 |nil=>cases b with
  |nil=>rfl
  |cons y r=>rfl
 |cons x l ih=>cases b with
  |nil=>rfl
  |cons y r=>
   show(PyData.eqv (.int x) (.int y) && PyData.eqvAll (l.map fun(n:Nat)=>.int n) (r.map fun(n:Nat)=>.int n))=_;rw[ih,Dq,<-Bool.decide_and];exact decide_eq_decide.2 ⟨λ q=>by rw[q.1,q.2],λ q=>by cases q;exact⟨rfl,rfl⟩⟩
theorem rF{Y:Or}{o e:Expr}{p q:Pos}{O:ak}{U σ1 σ2:ae}{x:PyData}{xs:List PyData}{k:Nat}(h1:ev Y o O U=some (.d (.list xs),σ1))(h2:ev Y e O σ1=some (.d x,σ2))(h3:u7 x (.list xs)=some k):ev Y (.Call (.Attribute o "count" p) [e] [] q) O U=some (.d (.int k),σ2):=by
 refine fi h1 (k:=1) rfl (ah h2 rfl) rfl ?_;show((u7 x (.list xs)).bind λ k=>some (V.d (.int k),σ2))=_;rw[h3];rfl
theorem sZ(l:List Nat)(p:Nat):u7 (.int p) (.list (l.map fun(n:Nat)=>.int n))=some (l.count p):=by
 have h1:(l.map fun(n:Nat)=>PyData.int n)=(l.map fun(n:Nat)=>(n:Int)).map .int:=(List.map_map ..).symm;show(kY (l.map fun(n:Nat)=>PyData.int n)).map (λ is=>is.count (p:Int))=_;rw[h1,ints_map];refine congrArg some ?_;show(l.map fun(n:Nat)=>(n:Int)).count (p:Int)=_;clear h1
 induction l with
 |nil=>rfl
 |cons x r ih=>
  rw[List.map_cons,List.count_cons,List.count_cons,ih];refine congrArg (fun(k:Nat)=>r.count p+k) ?_;by_cases q:x=p
  ·rw[q,if_pos (beq_self_eq_true _),if_pos (beq_self_eq_true _)]
  ·rw[if_neg (λ z=>q (Int.ofNat_inj.1 (eq_of_beq z))),if_neg λ z=>q (eq_of_beq z)]
theorem yi{G:Type}(f:G->PyData){ys:List G}{Y:Or}{e:Expr}{p q:Pos}{O:ak}{U σ1:ae}{r:Option (V×ae)}(h:ev Y e O U=some (.d (.list (ys.map f)),σ1)):uC Y (.Call (.Name "enumerate" p) [e] [] q) O U r=some ((ys.zipIdx.map λ x=>PyData.tuple [.int x.2,f x.1]).map .d,σ1):=by
 show nY "enumerate" (gJ Y [e] O U) r=_;refine Eq.trans (if_pos (c:=gB "enumerate"=true) rfl) (bi (ah h rfl) ?_);show some ((ys.map f).zipIdx.map (fun(p:PyData×Nat)=>V.d (.tuple [.int p.2,p.1])),σ1)=_;rw[zip_map,List.map_map];rfl
namespace L1
variable{ps:List Ch}{aa:List Int}{h:List aQ}{ao:List Nat}
theorem Dm{U:ae}(a b:List Nat):dB U .Eq (.d (bK a)) (.d (bK b))=some (decide (a=b)):=u6 (Nat.le_trans (Nat.min_le_left ..) (Nat.le_trans (jv a).1 (by decide))) (z5 a b)
theorem EM(h:List aQ):jQ h=bK (h.map aA):=by
 rw[bK,List.map_map];rfl
theorem CY(h:List aQ)(p:Nat):(h.map aA).count p=bk h p:=by
 rw[bk,List.count_eq_length_filter,List.filter_map,List.length_map];exact congrArg List.length (List.filter_congr λ x _=>by by_cases q:aA x=p<;>rfl)
theorem su(h:List aQ)(p:Nat):u7 (.int p) (jQ h)=some (bk h p):=by
 rw[EM];exact(sZ _ p).trans (congrArg some (CY h p))
theorem xy(h:List aQ):jQ h=.list (h.zipIdx.map λ x=>.int (aA x.1:Nat)):=by
 refine congrArg PyData.list ?_;have:=congrArg (List.map λ e=>PyData.int (aA e:Nat)) (List.zipIdx_map_fst 0 h);rw[List.map_map] at this;exact this.symm
theorem Cb(h:List aQ):(vl (aR h)).map nZ=h.zipIdx.map λ x=>nZ (vec h x.2):=by
 refine List.ext_getElem? λ i=>?_;rw[List.getElem?_map,List.getElem?_map,List.getElem?_zipIdx,Nat.zero_add];by_cases q:i<h.length
 ·have q':i<(vl (aR h)).length:=by rw[ja,c4];exact q
  rw[List.getElem?_eq_getElem q,List.getElem?_eq_getElem q'];show some (nZ _)=some (nZ (vec h i));rw[vec,List.getD_eq_getElem?_getD,List.getElem?_eq_getElem q'];rfl
 ·rw[List.getElem?_eq_none (Nat.not_lt.1 q),List.getElem?_eq_none (by rw[ja,c4];exact Nat.not_lt.1 q)];rfl
theorem xS{v:Vc}{k:Nat}{U:ae}(hk:k<3):dX U (.d (nZ v)) (.d (.int k))=some (.d (.int (v k:Nat))):=by
 rw[vc];exact xC hk
theorem GS(hv:Valid h)(ho:∀e∈h,aA e<3){x:aQ×Nat}(hx:x∈h.zipIdx):(∀q,vec h x.2 q<=ao.getD q 0)↔vec h x.2 0<=ao.getD 0 0/\vec h x.2 1<=ao.getD 1 0/\vec h x.2 2<=ao.getD 2 0:=by
 refine⟨λ q=>⟨q 0,q 1,q 2⟩,fun⟨h0,h1,h2⟩ q=>?_⟩
 match q with
 |0=>exact h0
 |1=>exact h1
 |2=>exact h2
 |q+3=>
  have hs:=cJ (List.mem_zipIdx_iff_getElem?.1 hx);have hle:=(B9 hv).le _ _ _ hs.1 (q+3);rw[hs.2] at hle;refine Nat.le_trans (Nat.le_trans hle (Nat.le_of_eq ?_)) (Nat.zero_le _);rw[bk,List.length_eq_zero_iff,List.filter_eq_nil_iff];intro e he q';have:e∈h:=by
   rw[hs.1];rcases List.mem_append.1 he with z | z
   ·exact List.mem_append_left _ z
   ·exact List.mem_append_right _ (List.mem_singleton.1 z▸List.mem_cons_self)
  exact absurd (of_decide_eq_true q'▸ho e this) (Nat.not_lt.2 (Nat.le_add_left 3 q))
theorem pf(hF:wz ps h ao):dw ps h ao=.list ((ps.map (fq h ao)).map bw):=by
 rw[dw,if_pos hF,List.map_map];refine congrArg PyData.list (List.map_congr_left λ c _=>?_);show bw ((cq h ao c).drop (b8 h ao c).length)=bw (fq h ao c);rw[fq,rW,rU]
theorem tZ:Ok 2 (dw ps h ao):=by
 by_cases q:wz ps h ao
 ·rw[pf q];exact ef _ ni
 ·rw[dw,if_neg q];exact gF 2 _
end L1
end Q
end
section
namespace Q
open PySem Classical Mine.Internal.L1
theorem Wp.eq{r r':Res}{K:Out->ak->ae->Prop}(h:r=r')(k:Wp r' K):Wp r K:=h▸k
namespace L1
structure jK(N:Net):Prop where
 nd:N.aw.Nodup
 on:∀c∈N.aw,c.1<3/\c.2<3
 ne:N.aw≠[]
 le:N.aw.length<=4
 rt:∀i,i<3->(i∈N.bO↔∀p,p<3->Reach N.aw i p)
set_option genInjectivity false in
structure Cu where
 s:PyData
 c:List Nat
 t:PyData
noncomputable def FL(x:Cu):PyData:=.tuple [x.s,bK x.c,x.t]
structure y4(ps:List Ch)(aa:List Int)(h:List aQ)(x:Cu):Prop where
 len:x.c.length=3
 le:∀p,p<3->x.c.getD p 0<=bk h p
 is:x.s=.none\/(x.s=bw (fo aa ps h x.c)/\x.t=dw ps h x.c)
noncomputable abbrev GO:Out->ak->ae->Prop:=λ o _ U=>o=.rt (.d (.bool true))/\pQ U[0]?=true
noncomputable def Hi(N:Net)(aa:List Int)(h:List aQ):List (Str×V):=
 [("net",.d (eA 3 N.aw)),("chans",.d (.list (N.aw.map aD))),("start",.d (bw aa)),("hist",.o 1),("past",.d (.list (h.map eH))),("owns",.d (jQ h)),("vs",.d (.list ((vl (aR h)).map nZ)))]
namespace oT
noncomputable section
def P(N:Net)(aa:List Int)(h:List aQ)(m:Cu)(ws:List Cu)(lo:List Nat)(q:PyData)(s':PyData)(O:ak):Prop:=∀(hN:jK N) (h3:aa.length=3) (hv:Valid h) (hl:h.length<=1000) (AH:∀e∈h,e.1∈N.aw) (how:∀e∈h,aA e<3) (LF:ws.length<=1000) (hg:∀x∈m::ws++[⟨.none,lo,.none⟩],y4 N.aw aa h x) (kf:px O (Hi N aa h++([("mid",.d (.tuple [m.s,q,bK m.c,s'])),("pays",.d m.t),("wholes",.d (.list (ws.map FL))),("loose",.d (bK lo))]:List (Str×V)))),Wp (xs (bM.run 12) (tO.drop 21) O [.eM,.cn (.list (h.map eH))]) GO
def xe:(Net)×(List Int)×(List aQ)×(Cu)×(List Cu)×(List Nat)×(PyData)×(PyData)×(ak):=@Classical.epsilon _ ⟨(⟨[],(0,0),[]⟩,default,default,⟨.none,[],.none⟩,default,default,.none,.none,default)⟩ λ x=>¬P x.1 x.2.1 x.2.2.1 x.2.2.2.1 x.2.2.2.2.1 x.2.2.2.2.2.1 x.2.2.2.2.2.2.1 x.2.2.2.2.2.2.2.1 x.2.2.2.2.2.2.2.2
def N:Net:=xe.1
def aa:List Int:=xe.2.1
def h:List aQ:=xe.2.2.1
def m:Cu:=xe.2.2.2.1
def ws:List Cu:=xe.2.2.2.2.1
def lo:List Nat:=xe.2.2.2.2.2.1
def q:PyData:=xe.2.2.2.2.2.2.1
def s':PyData:=xe.2.2.2.2.2.2.2.1
def O:ak:=xe.2.2.2.2.2.2.2.2
theorem core:P N aa h m ws lo q s' O:=λ hN h3 hv hl AH how LF hg kf=>by
 rw[pins kf];clear kf;generalize Gk:[Nd.eM,Nd.cn (.list (h.map eH))]=U;have FV:U[1]?=some (.cn (.list (h.map eH))):=by rw[<-Gk];rfl
 have Oc:pQ U[0]?=true:=by rw[<-Gk];rfl
 clear Gk;have CG:N.aw.length<=1000:=Nat.le_trans hN.le (by decide);refine Wp.for (IW (ds:=(m::ws++[(⟨.none,lo,.none⟩:Cu)]).map FL) (σ1:=U) rfl ((bf (bf rfl rfl (add_list ?_)) rfl (add_list ?_)).trans ?_)) (Wp.lS FL (λ pre O τ=>Ov ["saved","cut","tapes","fit","money","under","asked","told","way","low","inside"] _ O/\τ=U) ⟨Ov.refl,rfl⟩ ?_ ?_)
 ·rw[List.length_map];exact Nat.le_trans (Nat.add_le_add_left LF 1) (by decide)
 ·rw[List.length_append,List.length_map];exact Nat.le_trans (Nat.add_le_add_right (Nat.add_le_add_left LF 1) 1) (by decide)
 ·rw[List.map_append];rfl
 ·rintro pre ⟨s,ao,t⟩ post O τ hy ⟨⟨f,rfl⟩,rfl⟩;obtain⟨wY,hle,QO⟩:=hg ⟨s,ao,t⟩ (hy▸List.mem_append_right _ List.mem_cons_self);simp only at wY hle QO;clear hy hg;have Ls:∀e∈h,aA e<ao.length:=λ e he=>Nat.lt_of_lt_of_eq (how e he) wY.symm;have Oj:wz N.aw h ao↔Cons h ao:=(rH hv AH).symm;refine Wp.bind rfl (Wp.MI (v:=.d (.tuple [.bool (decide (Cons h ao)),bw (fo aa N.aw h ao),dw N.aw h ao])) rfl (fW rfl rfl rfl ((yn 10 N.aw aa h ao h3 wY hN.on CG).trans (by rw[decide_eq_decide.2 Oj]))) rfl rfl ?_);refine Wp.fX (σ1:=τ) ?_ ((Wp.asg (bA rfl (cI rfl)) (Wp.asg (fW (ah rfl (ah (g8 rfl rfl rfl FV) (ah rfl rfl))) rfl rfl (nT 8 3 h ao hv hl Ls)) (Wp.Gq "way" (.d (dw N.aw h ao)) ?_ ?_))))
  rotate_left 2
  refine Wp.asg (fW (ah rfl (ah (g8 rfl rfl rfl FV) (ah rfl rfl))) rfl rfl (yp 8 3 h ao hv hl (by decide) Ls how)) ?_;refine Wp.asg (v:=.d (bK ((h.zipIdx.filter λ x=>decide (∀q,vec h x.2 q<=ao.getD q 0)).map λ x=>aA x.1))) (σ1:=τ) ((fH (fun(x:aQ×Nat)=>PyData.tuple [.int (aA x.1:Nat),nZ (vec h x.2)]) (λ x=>decide (∀q,vec h x.2 q<=ao.getD q 0)) (λ x=>.int (aA x.1:Nat)) (ys:=h.zipIdx) (jg _ _ (ys:=h.zipIdx) (Eq.trans (b:=some ([.d (jQ h),.d (.list ((vl (aR h)).map nZ))],τ)) rfl (by rw[xy,Cb]))) rfl λ x hx=>⟨_,rfl,eo ?_,λ _=>rfl⟩).trans (by rw[bK,List.map_map];rfl)) ?_
  rotate_left
  refine Wp.fX (iy (aV rfl rfl rfl) <| ku (aV rfl rfl (ne_self (xm 0 _) (by decide))) <| ku (aV rfl rfl (ne_self tZ (by decide))) <| ky (aV rfl rfl (ne_self (jv ao) (by decide)))) ?_;refine Wp.fX (iy (aV rfl (b:=.d (bK ((List.range 3).map (cQ h ao h.length)))) (σ2:=τ) ((bh (fun(k:Nat)=>PyData.int k) (ys:=List.range 3) (λ p=>.int (cQ h ao h.length p:Nat)) (j7 rfl) rfl λ p hp=>⟨_,rfl,rF rfl rfl ((sZ _ p).trans ?_)⟩).trans rfl) (ne_self (jv _) (by decide))) <| ku (aV (lL rfl rfl ((Dm _ _).trans (congrArg some (decide_eq_decide.2 ?_)))) rfl (ne_self (xm 0 _) (by decide))) <| ky (en (b:=true) (xN rfl (λ _=>rfl) rfl rfl Oc ?_))) ((Wp.nil ⟨by repeat first | exact⟨f,rfl⟩ | refine Ov.upd ?_ rfl,rfl⟩))
  rotate_right 3
  ·rcases QO with rfl | ⟨rfl,rfl⟩
   ·exact cj (a:=false) (b:=false) (aV rfl rfl rfl) λ q=>by cases q
   ·exact cj (a:=true) (b:=false && true) (aV rfl rfl rfl) λ _=>bY (a:=false) (aV rfl rfl (ne_self (k:=3) (gG (a8 ((ni _).up (by decide)) (a8 tZ (eg 2)))) (by decide))) λ q=>by cases q
  ·by_cases hC:Cons h ao
   ·refine Wp.eq (Ci (ah rfl (ah (g8 rfl rfl rfl FV) (ah rfl rfl))) rfl (Jf 7 3 N.aw h ao hv hl CG hN.nd Ls AH hC λ g post c hs=>s7 hv hC g post c hs)) ⟨.nx,_,_,rfl,rfl,rfl,?_⟩;rw[pf (Oj.2 hC)]
   ·refine Wp.eq (Cg (ah rfl (ah (g8 rfl rfl rfl FV) (ah rfl rfl))) rfl (yR 7 3 N.aw h ao hv hl Ls hC)) (Wp.asg rfl (Wp.nil ⟨rfl,rfl,?_⟩));rw[dw,if_neg λ z=>hC (Oj.1 z)]
  ·refine(cj (a:=decide (vec h x.2 0<=ao.getD 0 0)) (b:=decide (vec h x.2 1<=ao.getD 1 0) && (decide (vec h x.2 2<=ao.getD 2 0) && true)) (aV (au rfl rfl rfl (xS (k:=0) (by decide))) (au rfl rfl rfl (km (i:=0) (by rw[wY];decide))) vC) λ _=>bY (aV (au rfl rfl rfl (xS (k:=1) (by decide))) (au rfl rfl rfl (km (i:=1) (by rw[wY];decide))) vC) λ _=>bY (aV (au rfl rfl rfl (xS (k:=2) (by decide))) (au rfl rfl rfl (km (i:=2) (by rw[wY];decide))) vC) λ _=>rfl).trans (congrArg (λ b=>some (b,_)) ?_);rw[Bool.and_true,<-Bool.decide_and,<-Bool.decide_and];exact decide_eq_decide.2 (GS hv how hx).symm
  ·rw[Ee hv p h.length (Nat.le_refl _),List.take_length]
  ·have:=Ed hv Ls λ p hp=>hle p (Nat.lt_of_lt_of_eq hp wY);rw[wY] at this;exact this
  ·intro d hd;obtain⟨k,_,rfl⟩:=List.mem_map.1 hd;rfl
 ·rintro O τ ⟨⟨f,rfl⟩,rfl⟩;refine Wp.fX (iy (aV rfl rfl (ne_self (ID 3 N.aw) (by decide))) <| ku (aV (g8 rfl rfl rfl FV) rfl (ne_self (EG h) (by decide))) <| ky (en (b:=true) (xN rfl (λ _=>rfl) rfl rfl Oc ?_))) ((Wp.ret rfl ⟨rfl,Oc⟩));intro d hd;obtain⟨k,_,rfl⟩:=List.mem_map.1 hd;rfl
end
end oT
theorem I6(N:Net)(hN:jK N)(aa:List Int)(h3:aa.length=3)(h:List aQ)(hv:Valid h)(hl:h.length<=1000)(AH:∀e∈h,e.1∈N.aw)(how:∀e∈h,aA e<3)(m:Cu)(ws:List Cu)(lo:List Nat)(q s':PyData)(LF:ws.length<=1000)(hg:∀x∈m::ws++[⟨.none,lo,.none⟩],y4 N.aw aa h x)(O:ak)
  (kf:px O (Hi N aa h++([("mid",.d (.tuple [m.s,q,bK m.c,s'])),("pays",.d m.t),("wholes",.d (.list (ws.map FL))),("loose",.d (bK lo))]:List (Str×V)))):Wp (xs (bM.run 12) (tO.drop 21) O [.eM,.cn (.list (h.map eH))]) GO:=aU (Q:=λ x:(Net)×(List Int)×(List aQ)×(Cu)×(List Cu)×(List Nat)×(PyData)×(PyData)×(ak)=>oT.P x.1 x.2.1 x.2.2.1 x.2.2.2.1 x.2.2.2.2.1 x.2.2.2.2.2.1 x.2.2.2.2.2.2.1 x.2.2.2.2.2.2.2.1 x.2.2.2.2.2.2.2.2) oT.core (N,aa,h,m,ws,lo,q,s',O) hN h3 hv hl AH how LF hg kf
end L1
end Q
end
section
namespace Q.L1
open PySem Classical Mine.Internal.L1
variable{ps:List Ch}{aa:List Int}{L M:List ax}{sz:Nat}
theorem FJ{π:Nat->List ax}{ao:List Nat}{mf:Ch->List Int}(X:Cut ps L π ao mf)(cE:ps.Nodup)(I:Inv sz ps L)(h3:aa.length=3)(HL:ao.length=3) :
  y4 ps aa (aO L) ⟨bw (aa.zipIdx.map λ x=>bF (π x.2) x.2 x.1),ao,.list (ps.map λ c=>bw (mf c))⟩:=by
 refine⟨HL,λ p hp=>?_,.inr ⟨congrArg bw (List.map_congr_left λ x hx=>?_),?_⟩⟩
 ·obtain⟨r,hr⟩:=X.pre p (Nat.lt_of_lt_of_eq hp HL.symm);show ao.getD p 0<=_;rw[X.at' p (Nat.lt_of_lt_of_eq hp HL.symm),oj,hr,kK];exact Nat.le_add_right ..
 ·exact(X.L7 cE I (Nat.lt_of_lt_of_eq (gI hx) (h3.trans HL.symm)) x.1).symm
 ·show PyData.list (ps.map λ c=>bw (mf c))=dw ps (aO L) ao;rw[dw,if_pos (show wz ps (aO L) ao from(rH (kA I) (m4 I)).1 (X.cons I))];refine congrArg PyData.list (List.map_congr_left λ c hc=>congrArg bw ?_);exact(X.under hc).symm
theorem uy{n:Str}(hn:n∈names L)(hw:isWhole (dE ps aa L n)=true):wholeOf (bz ps aa L).s n=some (dE ps aa L n):=by
 show((names L).map (dE ps aa L)).find? _=_;rw[List.find?_map];cases h:(names L).find? ((λ s=>decide (s.name=n) && isWhole s) ∘ dE ps aa L) with
 |none=>exact absurd ((congrArg (λ b=>b && isWhole (dE ps aa L n)) (decide_eq_true rfl)).trans hw) (List.find?_eq_none.1 h n hn)
 |some m=>
  have:=List.find?_some h;have:m=n:=of_decide_eq_true (Bool.and_eq_true_iff.1 this).1;rw[this];rfl
noncomputable def MT(ps:List Ch)(aa:List Int)(L:List ax)(n:Str):Cu:=
 ⟨bw (aa.zipIdx.map λ x=>bF (before (ax.aF x.2 n) L) x.2 x.1),aa.zipIdx.map λ x=>bS (before (ax.aF x.2 n) L) x.2,.list (ps.map λ c=>bw (aP L c n).2)⟩
theorem KC{n:Str}(hs:∀p,p<aa.length->ax.aF p n∈L):eW (some (dE ps aa L n))=FL (MT ps aa L n):=by
 show PyData.tuple [.list ((aa.zipIdx.map (cH L n)).map pA),.list ((aa.zipIdx.map (fb L n)).map rD),.list ((ps.map λ c=>aP L c n).map λ t=>bw t.2)]=.tuple [.list ((aa.zipIdx.map λ x=>bF (before (ax.aF x.2 n) L) x.2 x.1).map .int),.list ((aa.zipIdx.map λ x=>bS (before (ax.aF x.2 n) L) x.2).map fun(k:Nat)=>.int k),.list (ps.map λ c=>bw (aP L c n).2)];rw[List.map_map,List.map_map,List.map_map,List.map_map,List.map_map];rw[List.map_congr_left (f:=pA ∘ cH L n) λ x hx=>show pA (cH L n x)=_ from congrArg pA (if_pos (hs x.2 (gI hx))),List.map_congr_left (f:=rD ∘ fb L n) λ x hx=>show rD (fb L n x)=_ from congrArg rD (if_pos (hs x.2 (gI hx)))];rfl
theorem t5(h:List aQ)(k:Nat):slice? (jQ h) none (some (k:Int))=some (jQ (h.take k)):=by
 show some (PyData.list (cutAt none (some (k:Int)) (h.map λ e=>.int (aA e:Nat))))=_;rw[nU,<-List.map_take];rfl
theorem BN(h3:aa.length=3):(bz ps aa L).c=(List.range 3).map (bk (aO L)):=by
 show(aa.zipIdx.map λ x=>bS L x.2)=_;rw[qY,h3];exact List.map_congr_left λ p _=>(oj L p).symm
noncomputable def FN(zs:List Int)(N:Net)(aa:List Int)(L M:List ax):List (Str×V):=
 [("script",.d (.list (zs.map .int))),("chans",.d (.list (N.aw.map aD))),("starts",.d (.tuple (N.bO.map fun(k:Nat)=>.int k))),("net",.d (eA 3 N.aw)),("start",.d (bw aa)),("hist",.o 1),("begun",.d (.list ((b9 L).map uD))),("state",.d (fV (bz N.aw aa L))),("mid",.d (fV (bz N.aw aa M))),("done",.d (.int ((aO M).length:Nat)))]
end Q.L1
namespace Q.L1
open PySem Classical Mine.Internal.L1
namespace oS
noncomputable section
def P(zs:List Int)(N:Net)(aa:List Int)(L:List ax)(M:List ax)(O:ak):Prop:=∀(CB:22<=zs.length) (hN:jK N) (h3:aa.length=3) (I:Inv aa.length N.aw L) (J:Inv aa.length N.aw M) (k:K N.aw L) (hM:∃r,L=M++r) (hq:∀c∈N.aw,aq L c=[]) (yY:L.length<=1000) (kf:px O (FN zs N aa L M)),Wp (xs (bM.run 12) (tO.drop 11) O [.eM,.aI (((aO L).map eH).map .d)]) GO
def xe:(List Int)×(Net)×(List Int)×(List ax)×(List ax)×(ak):=@Classical.epsilon _ ⟨(default,⟨[],(0,0),[]⟩,default,default,default,default)⟩ λ x=>¬P x.1 x.2.1 x.2.2.1 x.2.2.2.1 x.2.2.2.2.1 x.2.2.2.2.2
def zs:List Int:=xe.1
def N:Net:=xe.2.1
def aa:List Int:=xe.2.2.1
def L:List ax:=xe.2.2.2.1
def M:List ax:=xe.2.2.2.2.1
def O:ak:=xe.2.2.2.2.2
theorem core:P zs N aa L M O:=λ CB hN h3 I J k hM hq yY kf=>by
 rw[pins kf];clear kf;have hz:∀c∈N.aw,c.1<aa.length/\c.2<aa.length:=by rw[h3];exact hN.on
 have hv:=kA I;have AH:=m4 I;have how:∀e∈aO L,aA e<3:=h3▸AD hz I;have hl:(aO L).length<=1000:=Nat.le_trans (List.length_filterMap_le _ _) yY;have SP:(aO L).take (aO M).length=aO M:=by
  refine bC λ k9=>?_;obtain⟨r,hr⟩:=hM;refine k9 ?_;rw[hr,dH];exact List.take_left
 have ON:=x4 hN.nd hz I hq;have MZ:=FJ (aa:=aa) (C1 hM J hz) hN.nd I h3 (by rw[List.length_map,List.length_zipIdx];exact h3);refine Wp.asg (v:=.d (jQ (aO L))) (σ1:=[.eM,.cn (.list ((aO L).map eH))]) (bh eH (ys:=aO L) (λ e=>.int (aA e:Nat)) (zR (lM (l:=1) rfl rfl rfl rfl)) rfl λ e he=>⟨_,rfl,?_⟩) ?_
 ·obtain⟨c,_ | v⟩:=e<;>rfl
 have last:∀(ws:List Cu) (lo:List Nat) (py:PyData),ws.length<=1000->(∀x∈(⟨bw (bz N.aw aa M).b,(bz N.aw aa M).c,py⟩:Cu)::ws++[⟨.none,lo,.none⟩],y4 N.aw aa (aO L) x)->∀aC,px aC (Hi N aa (aO L)++([("mid",.d (fV (bz N.aw aa M))),("pays",.d py),("wholes",.d (.list (ws.map FL))),("loose",.d (bK lo))]:List (Str×V)))->Wp (xs (bM.run 12) (tO.drop 21) aC [.eM,.cn (.list ((aO L).map eH))]) GO:=
  λ ws lo py h1 h2 aC h'=>I6 N hN aa h3 (aO L) hv hl AH how ⟨bw (bz N.aw aa M).b,(bz N.aw aa M).c,py⟩ ws lo _ _ h1 h2 aC h'
 generalize Gk:[Nd.eM,Nd.cn (.list ((aO L).map eH))]=U at last ⊢;have FV:U[1]?=some (.cn (.list ((aO L).map eH))):=by rw[<-Gk];rfl
 clear Gk;refine Wp.asg (v:=.d (bK ((List.range 3).map (bk (aO L))))) (σ1:=U) ((bh (fun(k:Nat)=>PyData.int k) (ys:=List.range 3) (λ p=>.int (bk (aO L) p:Nat)) (j7 rfl) rfl λ p hp=>⟨_,rfl,rF rfl rfl (su (aO L) p)⟩).trans rfl) ?_;have T4:(bz N.aw aa L).q.map eQ=N.aw.map λ _=>PyData.list []:=(List.map_map ..).trans (List.map_congr_left λ c hc=>congrArg eQ (hq c hc));refine Wp.fX (iy (aV (a:=.d (.list (N.aw.map λ _=>PyData.list []))) (σ1:=U) (Eq.trans (b:=some (.d (.list ((bz N.aw aa L).q.map eQ)),U)) rfl (by rw[T4])) (bh aD (ys:=N.aw) (λ _=>.list []) rfl rfl λ c hc=>⟨_,rfl,rfl⟩) (ne_self (ef (k:=1) N.aw λ _=>xo (k:=0) (eg 0)) (by decide))) <| ku (aV (a:=.d (bK ((List.range 3).map (bk (aO L))))) (σ1:=U) (Eq.trans (b:=some (.d (bK (bz N.aw aa L).c),U)) rfl (by rw[BN h3])) rfl (ne_self (jv _) (by decide))) <| ky (aV (bA rfl iO) (bA rfl iO) (lF (Nat.le_of_ble_eq_true rfl) ?_))) ?_
 ·rw[fg,decide_eq_true (show(bz N.aw aa L).b.sum=aa.sum from ON)];rfl
 have oq:((bz N.aw aa L).s.map λ s=>PyData.str s.name)=(names L).map .str:=List.map_map ..;have Ta:((b9 L).map λ x=>PyData.str x.1)=(names L).map .str:=by rw[<-p8,List.map_map];rfl
 refine Wp.fX (iy (aV (a:=.d (.list ((names L).map .str))) (b:=.d (.list ((names L).map .str))) (σ1:=U) (σ2:=U) ((bh fG (ys:=(bz N.aw aa L).s) (λ s=>.str s.name) (mW rfl) rfl λ s hs=>⟨_,rfl,rfl⟩).trans (by rw[oq])) ((bh uD (ys:=b9 L) (λ x=>.str x.1) rfl rfl λ x hx=>⟨_,rfl,rfl⟩).trans (by rw[Ta])) (ne_self (ef _ (gF 0)) (by decide))) <| ky (aV (a:=.d (bK ((List.range 3).map (bk (aO M))))) (σ1:=U) (Eq.trans (b:=some (.d (bK (bz N.aw aa M).c),U)) rfl (by rw[BN h3])) ((bh (fun(k:Nat)=>PyData.int k) (ys:=List.range 3) (λ p=>.int (bk (aO M) p:Nat)) (j7 rfl) rfl λ p hp=>⟨_,rfl,rF (lR rfl rfl (kQ rfl) ((t5 _ _).trans (by rw[SP];rfl))) rfl (su (aO M) p)⟩).trans rfl) (ne_self (jv _) (by decide)))) ?_;refine Wp.asg (bA (ah (g8 rfl rfl rfl FV) rfl) (cI rfl)) (Wp.asg (fW (ah rfl (ah (g8 rfl rfl rfl FV) rfl)) rfl rfl (Fu 8 (aO L) hv hl how)) ?_);refine Wp.fX (iy (aV rfl rfl (lF (Nat.le_of_ble_eq_true rfl) ?_)) <| ky (aV (bh (fun(x:aQ×Nat)=>PyData.tuple [.int (aA x.1:Nat),nZ (vec (aO L) x.2)]) (ys:=(aO L).zipIdx) (λ x=>.int (vec (aO L) x.2 (aA x.1):Nat)) (jg _ _ (ys:=(aO L).zipIdx) (Eq.trans (b:=some ([.d (jQ (aO L)),.d (.list ((vl (aR (aO L))).map nZ))],U)) rfl (by rw[xy,Cb]))) rfl λ x hx=>⟨_,rfl,au rfl rfl rfl (xS (how _ (List.fst_mem_of_mem_zipIdx hx)))⟩) (bh (fun(x:aQ×Nat)=>PyData.tuple [.int (x.2:Nat),.int (aA x.1:Nat)]) (ys:=(aO L).zipIdx) (λ x=>.int (vec (aO L) x.2 (aA x.1):Nat)) (yi (λ e=>.int (aA e:Nat)) (ys:=aO L) rfl) rfl λ x hx=>⟨_,rfl,rF (xs:=((aO L).take (x.2+1)).map λ e=>.int (aA e:Nat)) (lR rfl rfl (kQ (bf rfl rfl rfl)) (t5 _ (x.2+1))) rfl ((su _ _).trans (congrArg some ?_))⟩) (ne_self (ef _ λ _=>ee 0 _) (by decide)))) ?_
 ·rw[List.length_map,List.length_map,ja,c4,fg,decide_eq_true rfl];rfl
 ·have hs:=cJ (List.mem_zipIdx_iff_getElem?.1 hx);have:=(B9 hv).own _ _ _ hs.1;rw[hs.2] at this;rw[this,eD (List.mem_zipIdx_iff_getElem?.1 hx),bW,if_pos rfl]
 refine Wp.asg (v:=.d (.list (N.aw.map λ c=>bw (du (aq M c))))) (σ1:=U) ((bh eQ (ys:=N.aw.map (aq M)) (λ q=>bw (du q)) (mW rfl) rfl λ q hq=>⟨_,rfl,n4 c6 (ys:=q) iB .int rfl rfl λ m hm=>?_⟩).trans (by rw[List.map_map];rfl)) ?_
 ·cases m with
  |cO v=>exact⟨_,true,rfl,rfl,v,rfl,rfl⟩
  |mark n=>exact⟨_,false,rfl,rfl,rfl⟩
 have Q8:∀x∈(b9 L).filter (λ x=>decide (x.2∈N.bO)),eW (wholeOf (bz N.aw aa L).s x.1)=FL (MT N.aw aa L x.1)/\y4 N.aw aa (aO L) (MT N.aw aa L x.1):=λ x hx=>by
  refine bC λ k9=>?_;obtain⟨h1,h2⟩:=List.mem_filter.1 hx;obtain⟨h4,h5⟩:=(uc hz I k (n:=x.1) (bO:=N.bO) (λ i hi=>by rw[h3] at hi ⊢;exact hN.rt i hi) (by rw[h3];decide)).1 ⟨λ c hc=>by rw[hq c hc];exact List.not_mem_nil,x.2,se.1 h1,of_decide_eq_true h2⟩;obtain⟨h6,h7⟩:=qV.1 h5;refine k9 ?_;exact⟨(congrArg eW (uy h4 h5)).trans (KC h6),FJ (yg I hz h6 h7) hN.nd I h3 (by rw[List.length_map,List.length_zipIdx];exact h3)⟩
 refine Wp.asg (v:=.d (.list ((((b9 L).filter λ x=>decide (x.2∈N.bO)).map λ x=>MT N.aw aa L x.1).map FL))) (σ1:=U) ((fH uD (λ x=>decide (x.2∈N.bO)) (λ x=>eW (wholeOf (bz N.aw aa L).s x.1)) (ys:=b9 L) rfl rfl λ x hx=>⟨_,rfl,eo (aV rfl rfl (nQ rfl (mem_map zZ x.2 N.bO))),λ _=>fW rfl rfl rfl (whole_run 10 (bz N.aw aa L) x.1)⟩).trans (by rw[List.map_map,List.map_congr_left λ x hx=>(Q8 x hx).1];rfl)) ?_;have hs:∀i,i<22->i<zs.length:=λ i hi=>Nat.lt_of_lt_of_le hi CB;refine bC λ k9=>?_;obtain⟨k0,a0,b0⟩:=kS (zs.getD 4 0) (bk (aO L) 0+1) (Nat.succ_pos _);obtain⟨k1,a1,b1⟩:=kS (zs.getD 5 0) (bk (aO L) 1+1) (Nat.succ_pos _);obtain⟨k2,a2,b2⟩:=kS (zs.getD 6 0) (bk (aO L) 2+1) (Nat.succ_pos _);refine k9 ?_;have nz:∀p:Nat,((bk (aO L) p:Nat):Int)+1≠0:=λ p=>Int.ofNat_ne_zero.2 (Nat.succ_ne_zero _);refine Wp.asg (v:=.d (bK [k0,k1,k2])) (σ1:=U) (j9 (ah (v:=.d (.int k0)) (σ1:=U) (bf (au rfl rfl rfl (sc (hs 4 (by decide)))) (bf (au rfl rfl rfl (km (i:=0) (by rw[List.length_map];decide))) rfl rfl) ((gE (nz 0)).trans ?_)) (ah (v:=.d (.int k1)) (σ1:=U) (bf (au rfl rfl rfl (sc (hs 5 (by decide)))) (bf (au rfl rfl rfl (km (i:=1) (by rw[List.length_map];decide))) rfl rfl) ((gE (nz 1)).trans ?_)) (ah (v:=.d (.int k2)) (σ1:=U) (bf (au rfl rfl rfl (sc (hs 6 (by decide)))) (bf (au rfl rfl rfl (km (i:=2) (by rw[List.length_map];decide))) rfl rfl) ((gE (nz 2)).trans ?_)) rfl))) rfl) (last _ _ _ ?_ ?_ _ ⟨rfl,rfl,rfl,rfl,rfl,rfl,rfl,rfl,rfl,rfl,rfl,trivial⟩)
 ·rw[<-b0];rfl
 ·rw[<-b1];rfl
 ·rw[<-b2];rfl
 ·rw[List.length_map];exact Nat.le_trans (List.length_filter_le ..) (Nat.le_trans (List.length_filterMap_le _ _) yY)
 ·intro x hx;rcases List.mem_append.1 hx with hx | hx
  ·rcases List.mem_cons.1 hx with rfl | hx
   ·exact MZ
   ·obtain⟨y,hy,rfl⟩:=List.mem_map.1 hx;exact(Q8 y hy).2
  ·cases List.mem_singleton.1 hx;refine⟨rfl,λ p hp=>?_,.inl rfl⟩
   match p,hp with
   |0,_=>exact Nat.le_of_lt_succ a0
   |1,_=>exact Nat.le_of_lt_succ a1
   |2,_=>exact Nat.le_of_lt_succ a2
end
end oS
variable{ps:List Ch}{aa:List Int}{L M:List ax}{sz:Nat}
theorem I5(zs:List Int)(CB:22<=zs.length)(N:Net)(hN:jK N)(aa:List Int)(h3:aa.length=3)(L M:List ax)(I:Inv aa.length N.aw L)(J:Inv aa.length N.aw M)(k:K N.aw L)(hM:∃r,L=M++r)(hq:∀c∈N.aw,aq L c=[])(yY:L.length<=1000)(O:ak)(kf:px O (FN zs N aa L M)):Wp (xs (bM.run 12) (tO.drop 11) O [.eM,.aI (((aO L).map eH).map .d)]) GO:=aU (Q:=λ x:(List Int)×(Net)×(List Int)×(List ax)×(List ax)×(ak)=>oS.P x.1 x.2.1 x.2.2.1 x.2.2.2.1 x.2.2.2.2.1 x.2.2.2.2.2) oS.core (zs,N,aa,L,M,O) CB hN h3 I J k hM hq yY kf
end Q.L1
end
section
namespace Q
open PySem Classical Mine.Internal.L1
namespace L1
variable{ps:List Ch}{aa:List Int}{L:List ax}
inductive Kind(ps:List Ch)(L:List ax):jI->Str×List ax->Prop
 |no {e:jI} {a:Str} (h:a≠"done"):Kind ps L e (a,L)
 |aL {p:Nat} {n:Str} (h:n∉names L):Kind ps L (.aL p n) ("done",L++[.aL p n]++aK ps p n)
 |send {c:Ch} {v:Int}:Kind ps L (.send c v) ("done",L++[.out c (.cO v)])
 |recv {c:Ch} {m:cB} {r:List cB} {l:List ax} (hc:c∈ps) (hq:aq L c=m::r) (hh:aO l=aO L++(match m with | .cO _=>[(c,none)] | .mark _=>[])) (hb:b9 l=b9 L) (hp:∃x,l=L++x):Kind ps L (.recv c) ("done",l)
theorem zT(e:jI):Kind ps L e (bU ps aa L e):=by
 cases e with
 |aL p n=>
  by_cases h:n∈names L
  ·rw[show bU ps aa L (.aL p n)=_ from if_pos h];exact .no (by decide)
  ·rw[show bU ps aa L (.aL p n)=_ from if_neg h];exact .aL h
 |send c v=>
  by_cases h:c∈ps
  ·rw[show bU ps aa L (.send c v)=_ from if_pos h];by_cases h2:bF L c.1 (aa.getD c.1 0)<v
   ·rw[if_pos h2];exact .no (by decide)
   ·rw[if_neg h2];exact .send
  ·rw[show bU ps aa L (.send c v)=_ from if_neg h];exact .no (by decide)
 |recv c=>
  by_cases h:c∈ps
  ·rw[show bU ps aa L (.recv c)=_ from if_pos h];cases hq:aq L c with
   |nil=>exact .no (by decide)
   |cons m r=>
    cases m with
    |cO v=>exact .recv h hq (dH ..) ((List.filterMap_append).trans (List.append_nil _)) ⟨_,rfl⟩
    |mark n=>
     by_cases hs:ax.aF c.2 n∈L
     ·refine .recv h hq ?_ ?_ ?_
      ·rw[if_pos hs];exact dH ..
      ·rw[if_pos hs];exact(List.filterMap_append).trans (List.append_nil _)
      ·rw[if_pos hs];exact⟨_,rfl⟩
     ·refine .recv h hq ?_ ?_ ?_
      ·rw[if_neg hs,dH,dH,tA];exact(congrArg (·++[]) (List.append_nil _))
      ·rw[if_neg hs];exact(List.filterMap_append).trans ((List.append_nil _).trans ((List.filterMap_append).trans ((congrArg (b9 L++·) (ey rfl λ _=>rfl)).trans (List.append_nil _))))
      ·rw[if_neg hs];exact⟨_,List.append_assoc ..⟩
  ·rw[show bU ps aa L (.recv c)=_ from if_neg h];exact .no (by decide)
theorem Kind.same{e:jI}{r:Str×List ax}(h:Kind ps L e r)(hd:r.1≠"done"):r.2=L:=by
 cases h with
 |no=>rfl
 |aL=>exact absurd rfl hd
 |send=>exact absurd rfl hd
 |recv=>exact absurd rfl hd
theorem Kind.pre{e:jI}{r:Str×List ax}(h:Kind ps L e r):∃x,r.2=L++x:=by
 cases h with
 |no=>exact⟨[],(List.append_nil _).symm⟩
 |aL=>exact⟨_,List.append_assoc ..⟩
 |send=>exact⟨_,rfl⟩
 |recv _ _ _ _ hp=>exact hp
theorem wm{n:Str}(h:¬(n∈names L/\isWhole (dE ps aa L n)=true)):wholeOf (bz ps aa L).s n=none:=by
 refine List.find?_eq_none.2 λ s hs q=>?_;obtain⟨m,hm,rfl⟩:=List.mem_map.1 hs;have q:=Bool.and_eq_true_iff.1 q;have e:m=n:=of_decide_eq_true q.1;exact h ⟨e▸hm,e▸q.2⟩
theorem wo{bO:List Nat}(hz:∀c∈ps,c.1<aa.length/\c.2<aa.length)(I:Inv aa.length ps L)(k:K ps L)(hr:∀i,i<aa.length->(i∈bO↔∀p,p<aa.length->Reach ps i p))(h0:0<aa.length)(n:Str){U:ae} :
  ∃b,dB U .Is (.d (eW (wholeOf (bz ps aa L).s n))) (.d .none)=some b/\dB U .Eq (.d (.bool b)) (.d (.bool (decide (xY ps bO L n))))=some false:=by
 have h:=uc hz I k (n:=n) (bO:=bO) hr h0;by_cases q:xY ps bO L n
 ·refine⟨false,?_,?_⟩
  ·rw[uy (h.1 q).1 (h.1 q).2];rfl
  ·rw[decide_eq_true q];rfl
 ·refine⟨true,?_,?_⟩
  ·rw[wm λ z=>q (h.2 z)];rfl
  ·rw[decide_eq_false q];rfl
noncomputable def Dr(ps:List Ch)(L:List ax)(i:Nat):Prop:=(i<=7/\W ps L<=i+3*(names L).length)\/(7<=i/\(W ps L+i<=20\/∀c∈ps,aq L c=[]))
theorem G7:Dr ps [] 0:=by
 refine .inl ⟨Nat.zero_le _,Nat.le_of_eq ?_⟩;show(ps.map (wt [])).sum=0;rw[show ps.map (wt [])=ps.map (λ _=>0) from rfl]
 induction ps with
 |nil=>rfl
 |cons c r ih=>exact(Nat.zero_add _).trans ih
theorem Dr.step{sz:Nat}(cE:ps.Nodup)(h4:ps.length<=4)(hz:∀c∈ps,c.2<sz)(I:Inv sz ps L){e:jI}{i:Nat}(d:Dr ps L i){l:List ax}(hx:Nx ps L e l)(h:7<=i->∃c,e=.recv c/\c∈ps/\(aq L c≠[]\/∀d∈ps,aq L d=[])):Dr ps l (i+1):=by
 by_cases q:i<7
 ·rcases d with d | d
  ·exact .inl ⟨q,IX cE I hz h4 hx d.2⟩
  ·exact absurd d.1 (Nat.not_le.2 q)
 ·have q:=Nat.not_lt.1 q;refine .inr ⟨Nat.le_succ_of_le q,?_⟩;have hd:W ps L+i<=20\/∀c∈ps,aq L c=[]:=by
   rcases d with d | d
   ·exact .inl (Nat.le_trans (Nat.add_le_add (Nat.le_trans d.2 (Nat.add_le_add d.1 (Nat.mul_le_mul_left 3 (xO I.tV I.two)))) d.1) (by decide))
   ·exact d.2
  obtain⟨c,rfl,hc,hq⟩:=h q;by_cases he:aq L c=[]
  ·have ha:∀d∈ps,aq L d=[]:=hq.elim (λ z=>absurd he z) id;cases hx with
   |same=>exact .inr ha
   |b5 _ hq=>exact absurd (he.symm.trans hq) (List.cons_ne_nil _ _ ·.symm)
   |Gs _ hq=>exact absurd (he.symm.trans hq) (List.cons_ne_nil _ _ ·.symm)
  ·have:=Bv cE I hz hx hc he;rcases hd with hd | hd
   ·exact .inl (by rw[Nat.add_comm i,<-Nat.add_assoc,this];exact hd)
   ·exact absurd (hd c hc) he
theorem Dr.empty(d:Dr ps L 20):∀c∈ps,aq L c=[]:=by
 rcases d with d | d
 ·exact absurd d.1 (by decide)
 ·rcases d.2 with z | z
  ·exact GP (Nat.le_zero.1 (Nat.le_of_add_le_add_right (Nat.le_trans z (Nat.le_of_eq (Nat.zero_add 20).symm))))
  ·exact z
end L1
end Q
end
section
namespace Q.L1
open PySem Classical Mine.Internal.L1
noncomputable def G9(x:Nat×Nat):PyData:=.tuple [.int x.1,.int x.2]
noncomputable def N1:Option Stmt->List Stmt
 |some (.For _ _ b _ _)=>b
 |_=>[]
noncomputable def Bb:List Stmt:=N1 tO[10]?
noncomputable abbrev Mh:List Str:=["x","y","event","kept","due","after","told","begun","state","name","mid","done"]
noncomputable def my(zs:List Int)(N:Net)(aa:List Int)(mv:List (Nat×Nat)):List (Str×V):=
 [("script",.d (.list (zs.map .int))),("chans",.d (.list (N.aw.map aD))),("bad",.d (aD N.ui)),("starts",.d (.tuple (N.bO.map fun(k:Nat)=>.int k))),("net",.d (eA 3 N.aw)),("start",.d (bw aa)),("hist",.o 1),("moves",.d (.list (mv.map G9))),("begun",.d (.list [])),("state",.d (fV (bz N.aw aa []))),("mid",.d (fV (bz N.aw aa []))),("done",.d (.int 0))]
noncomputable def NC(N:Net)(aa:List Int)(Cp:ak)(pre:List (Nat×Nat))(O:ak)(U:ae):Prop:=
 ∃L M,Ov Mh Cp O/\px O [("begun",.d (.list ((b9 L).map uD))),("state",.d (fV (bz N.aw aa L))),("mid",.d (fV (bz N.aw aa M))),("done",.d (.int ((aO M).length:Nat)))]/\U=[.eM,.aI (((aO L).map eH).map .d)]/\
  Inv aa.length N.aw L/\Inv aa.length N.aw M/\K N.aw L/\(∃r,L=M++r)/\L.length<=6*pre.length/\Dr N.aw L pre.length
variable{zs:List Int}{N:Net}{aa:List Int}{mv pre:List (Nat×Nat)}
noncomputable def J3(zs:List Int)(N:Net)(aa:List Int)(mv:List (Nat×Nat))(O:ak)(x:Nat)(S md dn:PyData)(bg:List PyData)(hs:List V)(K':Out->ak->ae->Prop):Prop:=
 ∀aC,Ov Mh (pR O (my zs N aa mv)) aC->px aC [("x",.d (.int x)),("after",.d S),("begun",.d (.list bg)),("mid",.d md),("done",.d dn)]->Wp (xs (bM.run 12) (Bb.drop 6) aC [.eM,.aI hs]) K'
noncomputable def ve(x:Nat)(e:jI)(a:Str)(S S' md dn:PyData)(bg:List PyData):List (Str×V):=
 [("x",.d (.int x)),("event",.d (d7 e)),("due",.d (.str a)),("after",.d S'),("begun",.d (.list bg)),("state",.d S),("mid",.d md),("done",.d dn)]
noncomputable abbrev E0(zs:List Int)(N:Net)(aa:List Int)(mv:List (Nat×Nat))(O f:ak):ak:=over Mh f (pR O (my zs N aa mv))
theorem Eh(hN:jK N)(h3:aa.length=3){L M:List ax}(I:Inv aa.length N.aw L)(J:Inv aa.length N.aw M)(k:K N.aw L)(hM:∃r,L=M++r)(hl:L.length<=6*pre.length)(d:Dr N.aw L pre.length){x:Nat}(O f:ak){KK:Out->ak->ae->Prop}
  (hH:px (E0 zs N aa mv O f) [("x",.d (.int x)),("after",.d (fV (bz N.aw aa L))),("begun",.d (.list ((b9 L).map uD))),("mid",.d (fV (bz N.aw aa M))),("done",.d (.int ((aO M).length:Nat)))]) :
  Wp (xs (bM.run 12) (Bb.drop 6) (E0 zs N aa mv O f) [.eM,.aI (((aO L).map eH).map .d)]) (JU (NC N aa (pR O (my zs N aa mv)) pre) KK):=by
 have hz:∀c∈N.aw,c.1<aa.length/\c.2<aa.length:=by rw[h3];exact hN.on
 rw[pins hH];clear hH;refine Wp.asg rfl (Wp.for (ys:=((["a","b"]:List Str).map PyData.str).map V.d) rfl (Wp.lS PyData.str (λ _ aC τ=>Ov ["name"] _ aC/\τ=[.eM,.aI (((aO L).map eH).map .d)]) ⟨Ov.refl,rfl⟩ ?_ ?_))
 ·rintro pn nm post aC τ _ ⟨⟨f',rfl⟩,rfl⟩;obtain⟨b,S5,S7⟩:=wo (bO:=N.bO) hz I k (λ i hi=>by rw[h3] at hi ⊢;exact hN.rt i hi) (by rw[h3];decide) nm (U:=[.eM,.aI (((aO L).map eH).map .d)]);exact Wp.bind rfl (Wp.fX (aV (lL (fW rfl rfl rfl (whole_run 10 (bz N.aw aa L) nm)) rfl S5) (fW rfl rfl rfl (By 10 N.aw N.bO L nm)) S7) ((Wp.nil ⟨Ov.upd ⟨f',rfl⟩ rfl,rfl⟩)))
 ·rintro aC τ ⟨⟨f',rfl⟩,rfl⟩;refine Wp.CH (P:=x<12) (aV rfl rfl vG) (λ q=>Wp.PR (ah rfl (ah (v:=.d (.int ((aO L).length:Nat))) (σ1:=[.eM,.aI (((aO L).map eH).map .d)]) ((bA (ah (aW rfl rfl rfl rfl rfl) rfl) rfl).trans ?_) rfl)) rfl (Wp.fin (Wp.nil ⟨L,L,?_,⟨rfl,rfl,rfl,rfl,trivial⟩,rfl,I,I,k,⟨[],(List.append_nil _).symm⟩,hl,d⟩))) λ q=>Wp.fin (Wp.nil ⟨L,M,?_,⟨rfl,rfl,rfl,rfl,trivial⟩,rfl,I,J,k,hM,hl,d⟩)
  ·show some (V.d (.int ((((aO L).map eH).map V.d).length:Nat)),_)=_;rw[List.length_map,List.length_map]
  ·repeat first | exact⟨f,rfl⟩ | refine Ov.upd ?_ rfl | refine Ov.over ?_ rfl
  ·repeat first | exact⟨f,rfl⟩ | refine Ov.upd ?_ rfl | refine Ov.over ?_ rfl
theorem L3{O f:ak}{x:Nat}{e:jI}{a:Str}{S md dn:PyData}{bg:List PyData}{hs:List V}{K':Out->ak->ae->Prop}(h:a≠"done")(hR:J3 zs N aa mv O x S md dn bg hs K')(hH:px (E0 zs N aa mv O f) (ve x e a S S md dn bg)):Wp (xs (bM.run 12) (Bb.drop 5) (E0 zs N aa mv O f) [.eM,.aI hs]) K':=by
 rw[pins hH];clear hH;exact Wp.Jw (cj (a:=false) (b:=false) (aV rfl rfl (f9 (decide_eq_false h).symm)) λ q=>by cases q) (Wp.fX (cj (a:=false) (b:=false) (aV rfl rfl (f9 (decide_eq_false h).symm)) λ q=>by cases q) ((Wp.fin (hR _ (by repeat first | exact⟨f,rfl⟩ | refine Ov.upd ?_ rfl | refine Ov.over ?_ rfl) ⟨rfl,rfl,rfl,rfl,rfl,trivial⟩))))
theorem Ej{O f:ak}{x p:Nat}{n:Str}{S S' md dn:PyData}{bg:List PyData}{hs:List V}{K':Out->ak->ae->Prop}(hP:(bM.run 12).P "_law_snapped" [.d (.list (N.aw.map aD)),.d S,.d (.int p),.d (.str n)]=some (some (.d S')))(hO:Ok 6 S')(hl:bg.length<=1000)(hR:J3 zs N aa mv O x S' md dn (bg++[.tuple [.str n,.int p]]) hs K')(hH:px (E0 zs N aa mv O f) (ve x (.aL p n) "done" S S' md dn bg)):Wp (xs (bM.run 12) (Bb.drop 5) (E0 zs N aa mv O f) [.eM,.aI hs]) K':=by
 rw[pins hH];clear hH;exact Wp.sN (cj (a:=true) (b:=true && true) rfl λ _=>rfl) (Wp.fX (aV rfl (fW rfl rfl rfl hP) (ne_self hO (by decide))) ((Wp.asg (bf rfl rfl (add_list (Nat.le_trans (Nat.add_le_add_right hl 1) (by decide)))) (Wp.fin (hR _ (by repeat first | exact⟨f,rfl⟩ | refine Ov.upd ?_ rfl | refine Ov.over ?_ rfl) ⟨rfl,rfl,rfl,rfl,rfl,trivial⟩)))))
theorem Ei{O f:ak}{x:Nat}{c:Ch}{v:Int}{S S' md dn:PyData}{bg:List PyData}{hs:List V}{K':Out->ak->ae->Prop}(lim:hs.length<cW)(hR:J3 zs N aa mv O x S' md dn bg (hs++[.d (d7 (.send c v))]) K')(hH:px (E0 zs N aa mv O f) (ve x (.send c v) "done" S S' md dn bg)):Wp (xs (bM.run 12) (Bb.drop 5) (E0 zs N aa mv O f) [.eM,.aI hs]) K':=by
 rw[pins hH];clear hH;exact Wp.Jw (cj (a:=true) (b:=false && true) rfl λ _=>bY (a:=false) rfl λ q=>by cases q) (Wp.sN (cj (a:=true) (b:=(true || true) && true) rfl λ _=>bY (wg (a:=true) rfl λ q=>by cases q) λ _=>rfl) (Wp.expr (dP (l:=1) (aW rfl rfl rfl rfl rfl) rfl rfl rfl lim) (Wp.fin (Wp.fin (hR _ (by repeat first | exact⟨f,rfl⟩ | refine Ov.upd ?_ rfl | refine Ov.over ?_ rfl) ⟨rfl,rfl,rfl,rfl,rfl,trivial⟩)))))
theorem Eg{O f:ak}{x:Nat}{c:Ch}{m:cB}{q r:List PyData}{b0 b2 b3 S' md dn:PyData}{bg:List PyData}{hs:List V}{K':Out->ak->ae->Prop}(hc:c∈N.aw)(hq:∀U:ae,dX U (.d (.list q)) (.d (.int ((0+(before c N.aw).length:Nat):Int)))=some (.d (.list (c6 m::r))))(lim:hs.length<cW)(hR:J3 zs N aa mv O x S' md dn bg (hs++(match m with | .cO _=>[.d (d7 (.recv c))] | .mark _=>[])) K')(hH:px (E0 zs N aa mv O f) (ve x (.recv c) "done" (.tuple [b0,.list q,b2,b3]) S' md dn bg)):Wp (xs (bM.run 12) (Bb.drop 5) (E0 zs N aa mv O f) [.eM,.aI hs]) K':=by
 rw[pins hH];clear hH;refine Wp.Jw (cj (a:=true) (b:=false && true) rfl λ _=>bY (a:=false) rfl λ q=>by cases q) (Wp.w2 (c:=true && ((false || ((match m with | .cO _=>true | .mark _=>false) || false)) && true)) (cj (a:=true) rfl λ _=>bY (wg (a:=false) rfl λ _=>uw (aV (a:=.d (.str (match m with | .cO _=>"pay" | .mark _=>"mark"))) (au rfl (au rfl (au rfl rfl (lN rfl (lR rfl rfl rfl rfl) (idx_map ff c N.aw hc 0)) (hq _)) rfl IY) rfl ?_) rfl ?_) λ _=>rfl) λ _=>rfl) (λ z=>?_) λ z=>?_)
 ·cases m<;>rfl
 ·cases m<;>rfl
 ·cases m with
  |cO v=>exact Wp.expr (dP (l:=1) (aW rfl rfl rfl rfl rfl) rfl rfl rfl lim) (Wp.fin (Wp.fin (hR _ (by repeat first | exact⟨f,rfl⟩ | refine Ov.upd ?_ rfl | refine Ov.over ?_ rfl) ⟨rfl,rfl,rfl,rfl,rfl,trivial⟩)))
  |mark n=>cases z
 ·cases m with
  |cO v=>cases z
  |mark n=>exact Wp.fin (Wp.fin (List.append_nil hs▸hR _ (by repeat first | exact⟨f,rfl⟩ | refine Ov.upd ?_ rfl | refine Ov.over ?_ rfl) ⟨rfl,rfl,rfl,rfl,rfl,trivial⟩))
theorem Ek{O f:ak}{x y:Nat}{e:jI}{a:Str}{L M L':List ax}{K':Out->ak->ae->Prop}
  (Ld:(bM.run 12).P "_law_event" [.d (.list (N.aw.map aD)),.d (aD N.ui),.d (.list ((N.aw.map (aq L)).map eQ)),.d (.int x),.d (.int y)]=some (some (.d (d7 e))))
  (Og:(bM.run 12).P "_law_due" [.d (.list (N.aw.map aD)),.d (fV (bz N.aw aa L)),.d (d7 e),.d (.list ((b9 L).map uD))]=some (some (.d (.str a))))
  (ot:(bM.run 12).P "step" [.d (eA 3 N.aw),.d (fV (bz N.aw aa L)),.d (d7 e)]=some (some (.d (.tuple [fV (bz N.aw aa L'),.str a]))))
  (hs:a≠"done"->L'=L)
  (hR:∀f,px (E0 zs N aa mv O f) (ve x e a (fV (bz N.aw aa L)) (fV (bz N.aw aa L')) (fV (bz N.aw aa M)) (.int ((aO M).length:Nat)) ((b9 L).map uD))->Wp (xs (bM.run 12) (Bb.drop 5) (E0 zs N aa mv O f) [.eM,.aI (((aO L).map eH).map .d)]) K')
  (hH:px (E0 zs N aa mv O f) [("x",.d (.int x)),("y",.d (.int y)),("begun",.d (.list ((b9 L).map uD))),("state",.d (fV (bz N.aw aa L))),("mid",.d (fV (bz N.aw aa M))),("done",.d (.int ((aO M).length:Nat)))]):Wp (xs (bM.run 12) Bb (E0 zs N aa mv O f) [.eM,.aI (((aO L).map eH).map .d)]) K':=by
 rw[pins hH];clear hH;refine Wp.asg (v:=.d (d7 e)) (fW rfl rfl rfl Ld) (Wp.asg (fW rfl rfl rfl (zI 10 (bz N.aw aa L))) (Wp.asg (fW rfl rfl rfl Og) (Wp.MI (v:=.d (.tuple [fV (bz N.aw aa L'),.str a])) rfl (fW rfl rfl rfl ot) rfl rfl (Wp.fX (iy (aV rfl rfl (ne_self (gF 0 a) (by decide))) <| ku (aV rfl rfl (ne_self (xr _) (by decide))) <| ky ?_) ?_))))
 ·by_cases Of:a="done"
  ·exact cj (a:=false) (b:=false) (aV rfl rfl (lF (Nat.le_of_ble_eq_true rfl) (by rw[ji,decide_eq_true Of];rfl))) λ q=>by cases q
  ·rw[hs Of];exact cj (a:=true) (b:=false && true) (aV rfl rfl (lF (Nat.le_of_ble_eq_true rfl) (by rw[ji,decide_eq_false Of];rfl))) λ _=>bY (a:=false) (aV rfl rfl (ne_self (xr _) (by decide))) λ q=>by cases q
 ·have go:∀aC,Ov Mh (pR O (my zs N aa mv)) aC->px aC (ve x e a (fV (bz N.aw aa L)) (fV (bz N.aw aa L')) (fV (bz N.aw aa M)) (.int ((aO M).length:Nat)) ((b9 L).map uD))->Wp (xs (bM.run 12) (Bb.drop 5) aC [.eM,.aI (((aO L).map eH).map .d)]) K':=λ aC hO h=>by
   obtain⟨f,rfl⟩:=hO;exact hR f h
  exact go _ (by repeat first | exact⟨f,rfl⟩ | refine Ov.upd ?_ rfl | refine Ov.over ?_ rfl) ⟨rfl,rfl,rfl,rfl,rfl,rfl,rfl,rfl,trivial⟩
theorem Ef{O f:ak}{x:Nat}{e:jI}{r:Str×List ax}{L:List ax}{md dn:PyData}{K':Out->ak->ae->Prop}(hN:jK N)(h3:aa.length=3)(I:Inv aa.length N.aw L)(yY:L.length<=120)(hk:Kind N.aw L e r)
  (rest:J3 zs N aa mv O x (fV (bz N.aw aa r.2)) md dn ((b9 r.2).map uD) (((aO r.2).map eH).map .d) K') (h:px (E0 zs N aa mv O f) (ve x e r.1 (fV (bz N.aw aa L)) (fV (bz N.aw aa r.2)) md dn ((b9 L).map uD))) :
  Wp (xs (bM.run 12) (Bb.drop 5) (E0 zs N aa mv O f) [.eM,.aI (((aO L).map eH).map .d)]) K':=by
 have lim:(((aO L).map eH).map V.d).length<cW:=by
  rw[List.length_map,List.length_map];exact Nat.lt_of_le_of_lt (Nat.le_trans (List.length_filterMap_le _ _) yY) (by decide)
 cases hk with
 |no h'=>exact L3 h' rest h
 |@aL p n h'=>
  have hb:b9 (L++[.aL p n]++aK N.aw p n)=b9 L++[(n,p)]:=(List.filterMap_append).trans ((congrArg (_++·) (ey rfl λ _=>rfl)).trans ((List.append_nil _).trans List.filterMap_append));have hh:aO (L++[.aL p n]++aK N.aw p n)=aO L:=by rw[dH,dH,tA];exact(List.append_nil _).trans (List.append_nil _)
  rw[hh,hb,List.map_append] at rest;exact Ej (uh 10 hN.nd I h3 (Nat.le_trans yY (by decide)) h' rfl) (xr _) (by rw[List.length_map];exact Nat.le_trans (List.length_filterMap_le _ _) (Nat.le_trans yY (by decide))) rest h
 |@send c v=>
  have hb:b9 (L++[.out c (.cO v)])=b9 L:=(List.filterMap_append).trans (List.append_nil _);rw[dH,hb,List.map_append,List.map_append] at rest;exact Ei lim rest h
 |@recv c m r _ hc hq hh hb hp=>
  rw[hb,hh,List.map_append,List.map_append] at rest;exact Eg hc (λ U=>(Mq hc).trans (by rw[hq];rfl)) lim (by cases m<;>exact rest) h
theorem Bc(hN:jK N)(h3:aa.length=3){O aC:ak}{x y:Nat}{L M:List ax}{KK:Out->ak->ae->Prop}(I:Inv aa.length N.aw L)(J:Inv aa.length N.aw M)(k:K N.aw L)(hM:∃r,L=M++r)(hl:L.length<=6*pre.length)(hd:Dr N.aw L pre.length)(CG:pre.length<20)(hx:x<=12)(h7:7<=pre.length->x=12)(hO:Ov Mh (pR O (my zs N aa mv)) aC)
  (hH:px aC [("x",.d (.int x)),("y",.d (.int y)),("begun",.d (.list ((b9 L).map uD))),("state",.d (fV (bz N.aw aa L))),("mid",.d (fV (bz N.aw aa M))),("done",.d (.int ((aO M).length:Nat)))]) :
  Wp (xs (bM.run 12) Bb aC [.eM,.aI (((aO L).map eH).map .d)]) (JU (NC N aa (pR O (my zs N aa mv)) (pre++[(x,y)])) KK):=by
 have hz:∀c∈N.aw,c.1<aa.length/\c.2<aa.length:=by rw[h3];exact hN.on
 have yY:L.length<=120:=Nat.le_trans hl (Nat.mul_le_mul_left 6 (Nat.le_of_lt CG));obtain⟨e,hE,Oh,Ld⟩:=yl 10 (ps:=N.aw) (bad:=N.ui) (ai:=L) hN.ne (Nat.le_trans hN.le (by decide)) x y hx;have CC:pY aa.length (N.ui::N.aw) e:=h3.symm▸hE;have hk:=zT (ps:=N.aw) (aa:=aa) (L:=L) e;have ot:=E6 7 hN.nd hz I (by rw[h3];decide) (Nat.le_trans yY (by decide)) CC;rw[show eA aa.length N.aw=eA 3 N.aw from congrArg (eA · N.aw) h3] at ot;obtain⟨f,rfl⟩:=hO;refine Ek Ld (C7 10 N.aw aa L e λ c hc=>(hz c hc).1) ot (λ q=>hk.same q) (λ f h=>Ef hN h3 I yY hk (λ aC hO h=>?_) h) hH;obtain⟨f,rfl⟩:=hO;refine Eh hN h3 (wI hN.nd hz I CC) J (k.nx hN.nd I (rC (aa:=aa) e)) ?_ ?_ ?_ O f h
 ·obtain⟨r,hr⟩:=hM;obtain⟨z,Nc⟩:=hk.pre;exact⟨r++z,Nc.trans (hr▸List.append_assoc ..)⟩
 ·have h4:=hN.le;have aZ:=C5 (ps:=N.aw) (aa:=aa) (ai:=L) e;rw[List.length_append,List.length_singleton,Nat.mul_add];exact Nat.le_trans aZ (Nat.add_le_add hl (Nat.add_le_add_right h4 2))
 ·rw[List.length_append];exact hd.step hN.nd hN.le (λ c hc=>(hz c hc).2) I (rC (aa:=aa) e) λ z=>Oh (h7 z)
theorem I4(CB:22<=zs.length)(hN:jK N)(h3:aa.length=3)(hm:mv.length=20)(hx:∀x∈mv,x.1<=12)(h7:∀(i:Nat) x,mv[i]?=some x->7<=i->x.1=12)(O:ak)(kf:px O (my zs N aa mv)) :
  Wp (xs (bM.run 12) (tO.drop 10) O [.eM,.aI []]) GO:=by
 rw[pins kf];clear kf;refine Wp.for rfl (Wp.lS G9 (NC N aa (pR O (my zs N aa mv))) ⟨[],[],Ov.refl,⟨rfl,rfl,rfl,rfl,trivial⟩,rfl,w4 _ _,w4 _ _,LX,⟨[],rfl⟩,Nat.zero_le _,G7⟩ ?_ ?_)
 ·rintro pre ⟨x,y⟩ post aC U hy ⟨L,M,⟨f,rfl⟩,hH,rfl,I,J,k,hM,hl,hd⟩;have HP:mv[pre.length]?=some (x,y):=by rw[hy];exact(List.getElem?_append_right (Nat.le_refl _)).trans (by rw[Nat.sub_self];rfl)
  exact Wp.bind rfl (Bc hN h3 I J k hM hl hd (hm▸aJ HP) (hx _ (List.mem_of_getElem? HP)) (h7 _ _ HP) (Ov.upd (Ov.upd ⟨f,rfl⟩ rfl) rfl) ⟨rfl,rfl,hH.1,hH.2.1,hH.2.2.1,hH.2.2.2.1,trivial⟩)
 ·rintro aC U ⟨L,M,⟨f,rfl⟩,hH,rfl,I,J,k,hM,hl,hd⟩;rw[hm] at hl hd;rw[pins hH];exact I5 zs CB N hN aa h3 L M I J k hM hd.empty (Nat.le_trans hl (by decide)) _ ⟨rfl,rfl,rfl,rfl,rfl,rfl,rfl,rfl,rfl,rfl,trivial⟩
end Q.L1
end
section
namespace Q
open PySem Classical Mine.Internal.L1
theorem C4{Y:Or}{es:List Expr}{p q:Pos}{O:ak}{U σ1:ae}{r:Option (V×ae)}{t:Nat}(ht:t<12)(h:gJ Y es O U=some ([.d (.int t),.d (.int ((t:Int)+13))],σ1)):uC Y (.Call (.Name "range" p) es [] q) O U r=some (((List.range 13).map fun(i:Nat)=>PyData.int ((t+i:Nat):Int)).map .d,σ1):=by
 show nY "range" (gJ Y es O U) r=_;refine Eq.trans (if_pos (c:=gB "range"=true) rfl) (bi h ?_);show(Nl (t:Int) ((t:Int)+13)).bind _=_;have Qn:(t:Int)+13-t=13:=by rw[Int.add_comm];exact Int.add_sub_cancel ..
 have h0:=Int.natCast_nonneg t;refine bi (if_pos ⟨by rw[Qn];decide,Int.le_trans (by decide) h0,Int.le_trans (Int.add_le_add_right (Int.ofNat_le.2 (Nat.le_of_lt ht)) 13) (by decide),Int.le_add_of_nonneg_right (by decide)⟩) ?_;rw[Qn];rfl
namespace L1
theorem Bu{ps:List Ch}{S:List Nat}(hc:∀c∈ps,c.1∈S->c.2∈S){i p:Nat}(hi:i∈S)(h:Reach ps i p):p∈S:=by
 induction h with
 |refl=>exact hi
 |step _ hm ih=>exact hc _ hm ih
theorem Eu(N:Net)(h:N∈Et):jK N:=by
 have st:∀{ps:List Ch} {i a b:Nat},Reach ps i a->(a,b)∈ps->Reach ps i b:=λ h hm=>Reach.step (c:=(_,_)) h hm;have zc:∀{P:Nat->Prop},P 0->P 1->P 2->∀p,p<3->P p:=λ {P} h0 h1 h2 p hp=>by
  match p,hp with
  |0,_=>exact h0
  |1,_=>exact h1
  |2,_=>exact h2
 have yes:∀{ps:List Ch} {R:List Nat} {i:Nat},i∈R->Reach ps i 0->Reach ps i 1->Reach ps i 2->(i∈R↔∀p,p<3->Reach ps i p):=λ hi h0 h1 h2=>⟨λ _=>zc h0 h1 h2,λ _=>hi⟩;have no:∀{ps:List Ch} {R S:List Nat} {i j:Nat},i∉R->(∀c∈ps,c.1∈S->c.2∈S)->i∈S->j∉S->j<3->(i∈R↔∀p,p<3->Reach ps i p):=λ hi hc hS hj h3=>⟨λ z=>absurd z hi,λ z=>absurd (Bu hc hS (z _ h3)) hj⟩;rcases List.mem_cons.1 h with rfl | h
 ·exact⟨by decide,by decide,by decide,by decide,zc (yes (by decide) .refl (st .refl (by decide)) (st (st .refl (b:=1) (by decide)) (by decide))) (yes (by decide) (st (st .refl (b:=2) (by decide)) (by decide)) .refl (st .refl (by decide))) (yes (by decide) (st .refl (by decide)) (st (st .refl (b:=0) (by decide)) (by decide)) .refl)⟩
 rcases List.mem_cons.1 h with rfl | h
 ·exact⟨by decide,by decide,by decide,by decide,zc (yes (by decide) .refl (st .refl (by decide)) (st (st .refl (b:=1) (by decide)) (by decide))) (yes (by decide) (st .refl (by decide)) .refl (st .refl (by decide))) (yes (by decide) (st (st .refl (b:=1) (by decide)) (by decide)) (st .refl (by decide)) .refl)⟩
 rcases List.mem_cons.1 h with rfl | h
 ·exact⟨by decide,by decide,by decide,by decide,zc (yes (by decide) .refl (st .refl (by decide)) (st .refl (by decide))) (no (S:=[1,2]) (j:=0) (by decide) (by decide) (by decide) (by decide) (by decide)) (no (S:=[1,2]) (j:=0) (by decide) (by decide) (by decide) (by decide) (by decide))⟩
 rcases List.mem_cons.1 h with rfl | h
 ·exact⟨by decide,by decide,by decide,by decide,zc (no (S:=[0,1]) (j:=2) (by decide) (by decide) (by decide) (by decide) (by decide)) (no (S:=[0,1]) (j:=2) (by decide) (by decide) (by decide) (by decide) (by decide)) (no (S:=[2]) (j:=0) (by decide) (by decide) (by decide) (by decide) (by decide))⟩
 ·cases h
noncomputable def vH(z:Int):Nat:=(z.fmod 12).toNat
theorem sa(z:Int):((vH z:Nat):Int)=z.fmod 12:=Int.toNat_of_nonneg (Int.fmod_nonneg_of_pos z (by decide))
theorem Bf(z:Int):vH z<12:=Int.ofNat_lt.1 (sa z▸Int.fmod_lt_of_pos z (by decide))
noncomputable abbrev cells:List Nat:=[8,10,12,14,16,18,20]
noncomputable def m9(zs:List Int):List (Nat×Nat):=(cells.map λ i=>(vH (zs.getD i 0),vH (zs.getD (i+1) 0)))++(List.range 13).map λ i=>(12,vH (zs.getD 7 0)+i)
namespace ig
noncomputable section
def P(zs:List Int):Prop:=Wp (xs (bM.run 12) tO (upd (λ _=>none) "script" (.d (.list (zs.map .int)))) [.eM]) GO
def xe:(List Int):=@Classical.epsilon _ ⟨(default)⟩ λ x=>¬P x
def zs:List Int:=xe
theorem core:P zs:=by
 by_cases CB:zs.length<22
 ·exact Wp.sN (aV rfl rfl (L4 (a:=(zs.map PyData.int).length) (b:=22) (Nat.lt_of_le_of_lt (Nat.le_of_eq (List.length_map _)) CB))) (Wp.ret rfl ⟨rfl,rfl⟩)
 have M4:=Nat.not_lt.1 CB;have hs:∀i,i<22->i<zs.length:=λ i hi=>Nat.lt_of_lt_of_le hi M4;refine Wp.fX (aV rfl rfl (Be (a:=(zs.map PyData.int).length) (b:=22) λ z=>CB (Nat.lt_of_le_of_lt (Nat.le_of_eq (List.length_map _).symm) z))) ?_;obtain⟨k,hk,om⟩:=kS (zs.getD 0 0) 4 (by decide);obtain⟨N,MW⟩:∃N,Et[k]?=some N:=⟨_,List.getElem?_eq_getElem hk⟩;have hN:jK N:=Eu N (List.mem_of_getElem? MW);refine Wp.MI (v:=.d (C8 N)) rfl (au rfl rfl (bf (au rfl rfl rfl (sc (hs 0 (by decide)))) rfl (gE (by decide))) ?_) rfl rfl ?_
 ·rw[show((zs.getD 0 0).fmod 4)=((k:Nat):Int) from om];show(iC (.tuple (Et.map C8)) (k:Int)).map V.d=_;rw[item_tup (by rw[List.length_map];exact hk),List.getElem_map];rw[List.getElem?_eq_getElem hk] at MW;exact congrArg (λ N=>some (V.d (C8 N))) (Option.some.inj MW)
 clear MW om hk;refine Wp.asg (v:=.d (eA 3 N.aw)) (σ1:=[.eM]) (bQ (ah rfl (ah (bA rfl (cI rfl)) rfl)) rfl) ?_;refine Wp.asg (v:=.d (bw [(zs.getD 1 0).fmod 6,(zs.getD 2 0).fmod 9,zs.getD 3 0])) (σ1:=[.eM]) (j9 (ah (bf (au rfl rfl rfl (sc (hs 1 (by decide)))) rfl (gE (by decide))) (ah (bf (au rfl rfl rfl (sc (hs 2 (by decide)))) rfl (gE (by decide))) (ah (au rfl rfl rfl (sc (hs 3 (by decide)))) rfl))) rfl) ?_;have e0:∀s0 s1 s2:Int,fV (bz N.aw [s0,s1,s2] [])=.tuple [bw [s0,s1,s2],.list (N.aw.map λ _=>.list []),.list [.int 0,.int 0,.int 0],.list []]:=λ s0 s1 s2=>by
  have hb:∀(p:Nat) (s:Int),bF [] p s=s:=λ p s=>(Int.sub_zero _).trans (Int.add_zero _);show PyData.tuple [bw [bF [] 0 s0,bF [] 1 s1,bF [] 2 s2],.list ((N.aw.map (aq [])).map eQ),_,_]=_;rw[hb,hb,hb,List.map_map];rfl
 generalize (zs.getD 1 0).fmod 6=s0;generalize (zs.getD 2 0).fmod 9=s1;generalize zs.getD 3 0=s2;refine Wp.asg (v:=.d (.int (vH (zs.getD 7 0):Nat))) (σ1:=[.eM]) ((bf (au rfl rfl rfl (sc (hs 7 (by decide)))) rfl (gE (by decide))).trans (by rw[sa])) ?_;refine Wp.asg (v:=.d (.list (cells.map λ i=>.tuple [.int (zs.getD i 0),.int (zs.getD (i+1) 0)]))) (σ1:=[.eM]) (j9 (ah (bQ (ah (au rfl rfl rfl (sc (hs 8 (by decide)))) (ah (au rfl rfl rfl (sc (hs 9 (by decide)))) rfl)) rfl) (ah (bQ (ah (au rfl rfl rfl (sc (hs 10 (by decide)))) (ah (au rfl rfl rfl (sc (hs 11 (by decide)))) rfl)) rfl) (ah (bQ (ah (au rfl rfl rfl (sc (hs 12 (by decide)))) (ah (au rfl rfl rfl (sc (hs 13 (by decide)))) rfl)) rfl) (ah (bQ (ah (au rfl rfl rfl (sc (hs 14 (by decide)))) (ah (au rfl rfl rfl (sc (hs 15 (by decide)))) rfl)) rfl) (ah (bQ (ah (au rfl rfl rfl (sc (hs 16 (by decide)))) (ah (au rfl rfl rfl (sc (hs 17 (by decide)))) rfl)) rfl) (ah (bQ (ah (au rfl rfl rfl (sc (hs 18 (by decide)))) (ah (au rfl rfl rfl (sc (hs 19 (by decide)))) rfl)) rfl) (ah (bQ (ah (au rfl rfl rfl (sc (hs 20 (by decide)))) (ah (au rfl rfl rfl (sc (hs 21 (by decide)))) rfl)) rfl) rfl))))))) rfl) ?_;refine Wp.asg (v:=.d (.list ((m9 zs).map G9))) (σ1:=[.eM]) ((bf (a:=.d (.list (cells.map λ i=>G9 (vH (zs.getD i 0),vH (zs.getD (i+1) 0))))) (b:=.d (.list ((List.range 13).map λ i=>G9 (12,vH (zs.getD 7 0)+i)))) (σ1:=[.eM]) (σ2:=[.eM]) (bh (fun(i:Nat)=>PyData.tuple [.int (zs.getD i 0),.int (zs.getD (i+1) 0)]) (ys:=cells) (λ i=>G9 (vH (zs.getD i 0),vH (zs.getD (i+1) 0))) rfl rfl λ i hi=>⟨_,rfl,(bQ (ah (bf rfl rfl (gE (by decide))) (ah (bf rfl rfl (gE (by decide))) rfl)) rfl).trans ?_⟩) (bh (fun(i:Nat)=>PyData.int ((vH (zs.getD 7 0)+i:Nat):Int)) (ys:=List.range 13) (λ i=>G9 (12,vH (zs.getD 7 0)+i)) (C4 (Bf _) rfl) rfl λ i hi=>⟨_,rfl,rfl⟩) (add_list (by rw[List.length_map,List.length_map];decide))).trans ?_) ?_
 ·show _=some (V.d (.tuple [.int (vH (zs.getD i 0):Nat),.int (vH (zs.getD (i+1) 0):Nat)]),_);rw[sa,sa]
 ·rw[m9,List.map_append,List.map_map,List.map_map];rfl
 refine Wp.asg (fW (ah rfl (ah (bA rfl (cI rfl)) rfl)) rfl rfl (ya 10 3 N.aw [s0,s1,s2] (by show 3<=1000;decide))) ?_;refine Wp.fX (aV rfl ((bQ (ah rfl (ah (bh aD (ys:=N.aw) (λ _=>.list []) rfl rfl λ c hc=>⟨_,rfl,rfl⟩) rfl)) rfl).trans (by rw[<-e0])) (ne_self (xr (bz N.aw [s0,s1,s2] [])) (by decide))) ?_;refine Wp.nx (ρ1:=_) (σ1:=[.eM,.aI []]) rfl ?_;refine I4 M4 hN rfl (mv:=m9 zs) rfl ?_ ?_ _ ⟨rfl,rfl,rfl,rfl,rfl,rfl,rfl,rfl,rfl,rfl,rfl,rfl,trivial⟩
 ·intro x hx;rcases List.mem_append.1 hx with z | z
  ·obtain⟨i,_,rfl⟩:=List.mem_map.1 z;exact Nat.le_of_lt (Bf _)
  ·obtain⟨i,_,rfl⟩:=List.mem_map.1 z;exact Nat.le_refl _
 ·intro i x hx hi;rw[m9,List.getElem?_append_right hi] at hx;obtain⟨j,_,rfl⟩:=List.mem_map.1 (List.mem_of_getElem? hx);rfl
end
end ig
theorem A4(zs:List Int):ig.P zs:=aU (Q:=λ x:(List Int)=>ig.P x) ig.core (zs)
theorem good:∀zs:List Int,zs.length<=63->∃aC aj,xs (bM.run 12) (oy body).body (upd (λ _=>none) "script" (.d (.list (zs.map .int)))) [.eM]=some (.rt (.d (.bool true)),aC,aj)/\pQ aj[0]?=true:=λ zs _=>by
 obtain⟨o,aC,aj,h1,rfl,h2⟩:=A4 zs;exact⟨aC,aj,h1,h2⟩
end L1
end Q
end
end Mine.Internal
theorem PySem.Challenge.cw_sx_r140_1_holds : PySem.Challenge.rw_sx_r140_1.Holds :=
  Mine.Internal.L1.fin Mine.Internal.Q.L1.good
