import PyProof.Rows.All
import PyProof.P3Statements
import PyProof.SliceMore
import KE.KItem
import Wide.All
import OpenK.AllK
import Wide.FinOn
import Lean
import PySem.Challenge.RW_sx_r140_3
set_option autoImplicit false
set_option backward.match.sparseCases false
set_option genSizeOf false
set_option bootstrap.genMatcherCode false
set_option compiler.extract_closed false
set_option linter.all false
set_option Elab.async false
set_option tactic.hygienic false
set_option maxRecDepth 100000
set_option maxHeartbeats 8000000
namespace Mine.Internal
theorem aw{α:Type}{ne:Nonempty α}{Q:α->Prop}(h:Q (@Classical.epsilon α ne λ x=>¬Q x))(x:α):Q x:=Classical.byContradiction λ q=>@Classical.epsilon_spec α (λ x=>¬Q x) ⟨x,q⟩ h
theorem bC{p:Prop}(h:¬¬p):p:=Classical.byContradiction h
end Mine.Internal
section
namespace Mine.Internal
open PySem
inductive V where
 |d (x:PyData)
 |fs (xs:List Int)
 |ty (n:String)
 |o (l:Nat)
inductive Nd where
 |lst (xs:List V)
 |dcI (kvs:List (Int×V))
 |dcT (kvs:List (List Int×V))
 |set (xs:List Int)
 |ins (fs:List (Str×V))
 |frz (x:PyData)
noncomputable abbrev aa:=List Nd
noncomputable abbrev ah:=Str->Option V
noncomputable def upd(ρ:ah)(x:Str)(v:V):ah:=λ y=>if y=x then some v else ρ y
inductive Out where
 |nx | br | ct | ex
 |rt (v:V)
set_option genInjectivity false in
structure Or where
 P:Str->List V->Option (Option V)
 M:Str->List V->aa->Option (V×aa)
 gl:Str->Option V
 own:Pos->Bool
 frz:Pos->Bool
 cls:Str
 fuel:Nat
noncomputable def LIM:Nat:=100000
noncomputable def B2:PyData->Option Nat
 |.list xs=>some xs.length
 |.tuple xs=>some xs.length
 |_=>none
noncomputable def items?:PyData->Option (List PyData)
 |.list xs=>some xs
 |.tuple xs=>some xs
 |_=>none
noncomputable def int?:PyData->Option Int
 |.int i=>some i
 |_=>none
noncomputable def lM:List PyData->Option (List Int)
 |[]=>some []
 |x::r=>do let i<-int? x;let js<-lM r;some (i::js)
noncomputable def iQ:List PyData->Option (List Bool)
 |[]=>some []
 |.bool b::r=>do let bs<-iQ r;some (b::bs)
 |_::_=>none
noncomputable def eq?(a b:PyData):Option Bool:=if min a.depth b.depth<=64 then some (PyData.eqv a b) else none
noncomputable def kO(x:PyData):List PyData->Option Bool
 |[]=>some false
 |y::r=>do let b<-eq? y x;let c<-kO x r;some (b || c)
noncomputable def pE(x:PyData):Nat->List PyData->Option Nat
 |_,[]=>none
 |k,y::r=>do if<-eq? y x then some k else pE x (k+1) r
noncomputable def strs?:List PyData->Option (List Str)
 |[]=>some []
 |.str x::r=>do let ys<-strs? r;some (x::ys)
 |_::_=>none
noncomputable def Ad(x c:PyData):Option Nat:=
 match x,c with
 |.str z,.list xs=>(strs? xs).map λ ss=>ss.count z
 |_,_=>none
noncomputable def fi(c:PyData)(i:Int):Option PyData:=
 match c with
 |.list xs=>(seqIndex? i xs.length).bind λ j=>xs[j]?
 |.tuple xs=>(seqIndex? i xs.length).bind λ j=>xs[j]?
 |.str x=>if x.length<=LIM then(seqIndex? i x.length).bind λ j=>(x.cps[j]?).map λ c=>.str ⟨#[c]⟩ else none
 |_=>none
noncomputable def cutAt{α:Type}(lo hi:Option Int)(xs:List α):List α:=
 (xs.drop (lo.elim 0 (clipAt xs.length))).take (hi.elim xs.length (clipAt xs.length)-lo.elim 0 (clipAt xs.length))
noncomputable def slice?(c:PyData)(lo hi:Option Int):Option PyData:=
 match c with
 |.list xs=>some (.list (cutAt lo hi xs))
 |.tuple xs=>some (.tuple (cutAt lo hi xs))
 |_=>none
noncomputable def truth?:PyData->Option Bool
 |.bool b=>some b
 |.list xs=>some (!xs.isEmpty)
 |_=>none
noncomputable def times{α:Type}(xs:List α):Nat->List α
 |0=>[]
 |n+1=>xs++times xs n
noncomputable def zc:PyData->Option (List PyData)
 |.list xs=>some xs
 |_=>none
noncomputable def BU:PyData->Option (List PyData)
 |.tuple xs=>some xs
 |_=>none
noncomputable def Cn(a b:PyData):Option PyData:=
 match a with
 |.int i=>do let j<-int? b;some (.int (i+j))
 |.list xs=>do let ys<-zc b;if xs.length+ys.length<=LIM then some (.list (xs++ys)) else none
 |.tuple xs=>do let ys<-BU b;if xs.length+ys.length<=LIM/\xs≠[]/\ys≠[] then some (.tuple (xs++ys)) else none
 |_=>none
noncomputable def C5(op:Operator)(a b:PyData):Option PyData:=
 match op with
 |.Add=>Cn a b
 |.Sub=>do let i<-int? a;let j<-int? b;some (.int (i-j))
 |.Mod=>do let i<-int? a;let j<-int? b;if j=0 then none else some (.int (i.fmod j))
 |.Mult=>do let xs<-zc a;let j<-int? b;if xs.length*j.toNat<=LIM/\0<=j/\j<=(LIM:Int) then some (.list (times xs j.toNat)) else none
 |_=>none
noncomputable def lt?(a b:PyData):Option Bool:=
 match a,b with
 |.int i,.int j=>some (decide (i<j))
 |_,_=>none
noncomputable def le?(a b:PyData):Option Bool:=
 match a,b with
 |.int i,.int j=>some (decide (i<=j))
 |_,_=>none
noncomputable def drN(l:Nat):Option Nd->V
 |some (.frz x)=>.d x
 |_=>.o l
noncomputable def dr(σ:aa):V->V
 |.o l=>drN l σ[l]?
 |v=>v
noncomputable def AP(f:aa->V->Option (PyData×aa)):aa->List V->Option (List PyData×aa)
 |σ,[]=>some ([],σ)
 |σ,v::r=>do
  let (d,σ)<-f σ v
  let (ds,σ)<-AP f σ r
  some (d::ds,σ)
noncomputable def vz(f:aa->V->Option (PyData×aa))(l:Nat)(σ:aa):Option Nd->Option (PyData×aa)
 |some (.frz x)=>some (x,σ)
 |some (.lst xs)=>do
  let (ds,σ)<-AP f σ xs
  some (.list ds,σ.set l (.frz (.list ds)))
 |_=>none
noncomputable def frz:Nat->aa->V->Option (PyData×aa)
 |0,σ,v=>match v with
  |.d x=>some (x,σ)
  |_=>none
 |n+1,σ,v=>match v with
  |.d x=>some (x,σ)
  |.o l=>vz (frz n) l σ σ[l]?
  |_=>none
noncomputable def B7(n:Nat):aa->List V->Option (List PyData×aa):=AP (frz n)
noncomputable def f6:V->Option PyData
 |.d x=>some x
 |_=>none
noncomputable def l0:List V->Option (List PyData)
 |[]=>some []
 |v::r=>do let x<-f6 v;let xs<-l0 r;some (x::xs)
noncomputable def c5:V->Option Int
 |.d (.int i)=>some i
 |_=>none
noncomputable def ie:V->Bool
 |.d _=>true
 |.fs _=>true
 |_=>false
set_option genCtorIdx false in
set_option genInjectivity false in
inductive Tg where
 |ty (n:String) | non | bl (b:Bool) | oth
noncomputable def tag:V->Tg
 |.ty n=>.ty n
 |.d .none=>.non
 |.d (.bool b)=>.bl b
 |_=>.oth
noncomputable def yK:Tg->Tg->Option Bool
 |.ty a,.ty b=>some (a == b)
 |.bl a,.bl b=>some (a == b)
 |.non,.non=>some true
 |.non,_=>some false
 |_,.non=>some false
 |.bl _,_=>some false
 |_,.bl _=>some false
 |_,_=>none
noncomputable def j9(x y:V):Option Bool:=yK (tag x) (tag y)
noncomputable def yv:V->Option String
 |.d (.int _)=>some "int"
 |_=>none
noncomputable def kU:PyData->Option (List Int)
 |.tuple xs=>lM xs
 |_=>none
noncomputable def look{K:Type}[DecidableEq K](k:K):List (K×V)->Option V
 |[]=>none
 |(q,v)::r=>if q=k then some v else look k r
noncomputable def put{K:Type}[DecidableEq K](k:K)(v:V)(kvs:List (K×V)):List (K×V):=
 if(look k kvs).isSome then kvs.map λ q=>if q.1=k then(q.1,v) else q else kvs++[(k,v)]
noncomputable def dG(n:Str):List (Str×V)->Option V
 |[]=>none
 |(m,v)::r=>if m=n then some v else dG n r
noncomputable def bt(n:Str)(v:V):List (Str×V)->List (Str×V)
 |[]=>[(n,v)]
 |(m,u)::r=>if m=n then(n,v)::r else(m,u)::bt n v r
noncomputable def cF(own:Bool)(vs:List V)(σ:aa):Option (V×aa):=
 if own then some (.o σ.length,σ++[.lst vs]) else(l0 vs).map λ ds=>(.d (.list ds),σ)
noncomputable def fresh(n:Nd)(σ:aa):V×aa:=(.o σ.length,σ++[n])
noncomputable def BS:Option Nd->Option Bool
 |some (.lst xs)=>some (!xs.isEmpty)
 |_=>none
noncomputable def dH(σ:aa):V->Option Bool
 |.d x=>truth? x
 |.o l=>BS σ[l]?
 |_=>none
noncomputable def inN(a:V):Option Nd->Option Bool
 |some (.dcI kvs)=>do let k<-c5 a;some (look k kvs).isSome
 |some (.dcT kvs)=>do let k<-kU (<-f6 a);some (look k kvs).isSome
 |some (.set xs)=>do let i<-c5 a;some (xs.contains i)
 |_=>none
noncomputable def i3(σ:aa)(op:CmpOp)(a b:V):Option Bool:=
 match op with
 |.Is=>j9 a b
 |.IsNot=>(j9 a b).map (!·)
 |.Eq=>do eq? (<-f6 a) (<-f6 b)
 |.NotEq=>do let r<-eq? (<-f6 a) (<-f6 b);some (!r)
 |.Lt=>do lt? (<-f6 a) (<-f6 b)
 |.Gt=>do lt? (<-f6 b) (<-f6 a)
 |.LtE=>do le? (<-f6 a) (<-f6 b)
 |.GtE=>none
 |.In=>isIn σ a b
 |.NotIn=>(isIn σ a b).map (!·)
where
 isIn (σ:aa) (a b:V):Option Bool:=
  match b with
  |.d c=>do kO (<-f6 a) (<-items? c)
  |.fs xs=>do let i<-c5 a;some (xs.contains i)
  |.o l=>inN a σ[l]?
  |.ty _=>none
noncomputable def wa(σ:aa)(i:V):Option Nd->Option V
 |some (.lst xs)=>do let j<-c5 i;let k<-seqIndex? j xs.length;(xs[k]?).map (dr σ)
 |some (.dcI kvs)=>do let k<-c5 i;(look k kvs).map (dr σ)
 |some (.dcT kvs)=>do let k<-kU (<-f6 i);(look k kvs).map (dr σ)
 |_=>none
noncomputable def gF(σ:aa)(c i:V):Option V:=
 match c with
 |.d c=>do let j<-c5 i;(fi c j).map .d
 |.o l=>wa σ i σ[l]?
 |_=>none
noncomputable def sV(l:Nat)(i v:V)(σ:aa):Option Nd->Option aa
 |some (.lst xs)=>do let j<-c5 i;let k<-seqIndex? j xs.length;if k<xs.length then some (σ.set l (.lst (xs.set k v))) else none
 |some (.dcI kvs)=>do let k<-c5 i;if kvs.length<LIM then some (σ.set l (.dcI (put k v kvs))) else none
 |some (.dcT kvs)=>do let k<-kU (<-f6 i);if kvs.length<LIM then some (σ.set l (.dcT (put k v kvs))) else none
 |_=>none
noncomputable def dI(c i v:V)(σ:aa):Option aa:=
 match c with
 |.o l=>sV l i v σ σ[l]?
 |_=>none
noncomputable def sS(own:Bool)(op:Operator)(a b:V)(σ:aa):Option (V×aa):=do
 let r<-C5 op (<-f6 a) (<-f6 b)
 match own,r with
 |true,.list xs=>some (fresh (.lst (xs.map .d)) σ)
 |true,_=>none
 |false,r=>some (.d r,σ)
noncomputable def Ck{γ:Type}(r:Option γ):List V->Option γ
 |[]=>r
 |_=>none
noncomputable def qg{γ:Type}(f:V->Option γ):List V->Option γ
 |[v]=>f v
 |_=>none
noncomputable def Cj{γ:Type}(f:V->V->Option γ):List V->Option γ
 |[a,b]=>f a b
 |_=>none
noncomputable def CW:V->Option Unit
 |.d .none=>some ()
 |_=>none
noncomputable def C0(σ:aa):Option Nd->Option (V×aa)
 |some (.lst xs)=>some (.d (.int xs.length),σ)
 |_=>none
noncomputable def CZ(σ:aa):V->Option (V×aa)
 |.d x=>(B2 x).map fun(n:Nat)=>(.d (.int n),σ)
 |.o l=>C0 σ σ[l]?
 |_=>none
noncomputable def dZ(Φ:Or)(own:Bool)(f:Str)(vs:List V)(σ:aa):Option (V×aa):=
 if f="len" then qg (CZ σ) vs
 else if f="list" then qg (λ v=>do let x<-f6 v;let xs<-items? x;cF own (xs.map .d) σ) vs
 else if f="sum" then qg (λ v=>do let x<-f6 v;let xs<-zc x;let is<-lM xs;some (.d (.int is.sum),σ)) vs
 else if f="abs" then qg (λ v=>do let i<-c5 v;some (.d (.int i.natAbs),σ)) vs
 else if f="all" then qg (λ v=>do let x<-f6 v;let xs<-zc x;let bs<-iQ xs;some (.d (.bool (bs.all id)),σ)) vs
 else if f="set" then Ck (some (fresh (.set []) σ)) vs
 else if f="type" then qg (λ v=>do let t<-yv v;some (.ty t,σ)) vs
 else if f=Φ.cls then do
  let (u,σ')<-Φ.M "__init__" (.o σ.length::vs) (σ++[.ins []])
  let _<-CW u
  some (.o σ.length,σ')
 else if vs.all ie then do
  let r<-Φ.P f vs
  r.map λ v=>(v,σ)
 else none
noncomputable def CS(σ:aa)(l:Nat):List V->Option (V×aa)
 |x::r=>some (dr σ x,σ.set l (.lst r))
 |[]=>none
noncomputable def l9(Φ:Or)(m:Str)(l:Nat)(vs:List V)(σ:aa):Option Nd->Option (V×aa)
 |some (.lst xs)=>
   if m="append" then qg (λ v=>if xs.length<LIM then some (.d .none,σ.set l (.lst (xs++[v]))) else none) vs
   else if m="pop" then qg (λ v=>do let i<-c5 v;if i=0 then CS σ l xs else none) vs
   else none
 |some (.set xs)=>
   if m="add" then qg (λ v=>do let i<-c5 v;if xs.length<4000 then some (.d .none,σ.set l (.set (if xs.contains i then xs else xs++[i]))) else none) vs
   else none
 |some (.dcI kvs)=>
   if m="get" then Cj (λ a v=>do let k<-c5 a;some (((look k kvs).map (dr σ)).getD v,σ)) vs
   else none
 |some (.ins _)=>Φ.M m (.o l::vs) σ
 |_=>none
noncomputable def gM(Φ:Or)(m:Str)(ov:V)(vs:List V)(σ:aa):Option (V×aa):=
 match ov with
 |.d c=>
  if m="index" then qg (λ v=>do let x<-f6 v;let xs<-items? c;let k<-pE x 0 xs;some (.d (.int k),σ)) vs
  else if m="count" then qg (λ v=>do let x<-f6 v;let k<-Ad x c;some (.d (.int k),σ)) vs
  else none
 |.o l=>l9 Φ m l vs σ σ[l]?
 |_=>none
noncomputable def vkN(m:Str):Option Nd->Option Nat
 |some (.lst _)=>some 1
 |some (.dcI _)=>some 3
 |some (.set _)=>some 4
 |some (.ins fs)=>if(dG m fs).isSome then none else some 5
 |_=>none
noncomputable def vk(σ:aa)(m:Str):V->Option Nat
 |.d (.list _)=>some 1
 |.d (.tuple _)=>some 2
 |.o l=>vkN m σ[l]?
 |_=>none
noncomputable def draws(f:Str)(vs:List V):Option (List V):=
 if f="enumerate" then
  match vs with
  |[.d (.list xs)]=>some (xs.zipIdx.map fun(p:PyData×Nat)=>.d (.tuple [.int p.2,p.1]))
  |_=>none
 else none
noncomputable def oc(f:Str):Bool:=f == "enumerate"
noncomputable def hV:V->Option (List V)
 |.d x=>(items? x).map λ xs=>xs.map .d
 |_=>none
noncomputable def iK(r:Option (V×aa)):Option (List V×aa):=do
 let (v,σ)<-r
 let xs<-hV v
 some (xs,σ)
noncomputable def z9(f:Str)(as:Option (List V×aa))(r:Option (V×aa)):Option (List V×aa):=
 if oc f then do
  let (vs,σ)<-as
  let xs<-draws f vs
  some (xs,σ)
 else iK r
mutual
noncomputable def aQ:Expr->V->ah->Option ah
 |.Name x _,v,ρ=>some (upd ρ x v)
 |.Tuple ts _ _,v,ρ=>do let vs<-hV v;cW ts vs ρ
 |_,_,_=>none
noncomputable def cW:List Expr->List V->ah->Option ah
 |[],[],ρ=>some ρ
 |t::ts,v::vs,ρ=>do let ρ<-aQ t v ρ;cW ts vs ρ
 |_,_,_=>none
end
noncomputable def eU(bind:V->Option ah)(cond:ah->aa->Option (Bool×aa))(elt:ah->aa->Option (V×aa)):List V->aa->Option (List V×aa)
 |[],σ=>some ([],σ)
 |x::r,σ=>do
  let ρ<-bind x
  let (b,σ)<-cond ρ σ
  if b then
   let (v,σ)<-elt ρ σ
   let (vs,σ)<-eU bind cond elt r σ
   some (v::vs,σ)
  else eU bind cond elt r σ
noncomputable def rdV(Φ:Or)(p:Pos)(σ:aa)(v:V):Option (V×aa):=if Φ.frz p then(frz 8 σ v).map λ x=>(.d x.1,x.2) else some (dr σ v,σ)
noncomputable def nmN(Φ:Or)(p:Pos)(σ:aa)(r:Option V):Option V->Option (V×aa)
 |some v=>some (v,σ)
 |none=>r.bind (rdV Φ p σ)
noncomputable def atN(Φ:Or)(n:Str)(p:Pos)(σ:aa):Option Nd->Option (V×aa)
 |some (.ins fs)=>(dG n fs).bind (rdV Φ p σ)
 |_=>none
mutual
noncomputable def ev(Φ:Or):Expr->ah->aa->Option (V×aa)
 |.Constant c _ _,_,σ=>match c with
  |.none=>some (.d .none,σ)
  |.bool b=>some (.d (.bool b),σ)
  |.int i=>some (.d (.int i),σ)
  |.str s=>some (.d (.str s),σ)
  |_=>none
 |.Name x p,ρ,σ=>nmN Φ p σ (ρ x) (Φ.gl x)
 |.BinOp l op r p,ρ,σ=>do
  let (a,σ)<-ev Φ l ρ σ
  let (b,σ)<-ev Φ r ρ σ
  sS (Φ.own p) op a b σ
 |.UnaryOp op x _,ρ,σ=>match op with
  |.USub=>do
   let (a,σ)<-ev Φ x ρ σ
   let i<-c5 a
   some (.d (.int (-i)),σ)
  |.Not=>do
   let (a,σ)<-ev Φ x ρ σ
   let b<-dH σ a
   some (.d (.bool (!b)),σ)
  |_=>none
 |.Compare l [op] [r] _,ρ,σ=>do
  let (a,σ)<-ev Φ l ρ σ
  let (b,σ)<-ev Φ r ρ σ
  let c<-i3 σ op a b
  some (.d (.bool c),σ)
 |.Subscript c (.Slice lo hi none _) _,ρ,σ=>do
  let (a,σ)<-ev Φ c ρ σ
  let (l,σ)<-evo Φ lo ρ σ
  let (u,σ)<-evo Φ hi ρ σ
  let x<-f6 a
  let r<-slice? x l u
  some (.d r,σ)
 |.Subscript c i _,ρ,σ=>do
  let (a,σ)<-ev Φ c ρ σ
  let (b,σ)<-ev Φ i ρ σ
  let r<-gF σ a b
  some (r,σ)
 |.Tuple es _ _,ρ,σ=>do
  let (vs,σ)<-evs Φ es ρ σ
  let ds<-l0 vs
  some (.d (.tuple ds),σ)
 |.List es p,ρ,σ=>do
  let (vs,σ)<-evs Φ es ρ σ
  cF (Φ.own p) vs σ
 |.Dict [] [] p,_,σ=>some (fresh (if Φ.own p then .dcT [] else .dcI []) σ)
 |.ListComp elt [⟨t,it,ifs,0⟩] _ p,ρ,σ=>do
  let (xs,σ)<-drw Φ it ρ σ (ev Φ it ρ σ)
  let (vs,σ)<-eU (λ x=>aQ t x ρ) (λ ρ σ=>i6 Φ ifs ρ σ) (λ ρ σ=>ev Φ elt ρ σ) xs σ
  cF (Φ.own p) vs σ
 |.Attribute o n p,ρ,σ=>do
  let (a,σ)<-ev Φ o ρ σ
  match a with
  |.o l=>atN Φ n p σ σ[l]?
  |_=>none
 |.Call (.Attribute o m _) args [] _,ρ,σ=>do
  let (a,σ)<-ev Φ o ρ σ
  let q<-vk σ m a
  let (vs,σ)<-evs Φ args ρ σ
  if vk σ m a=some q then gM Φ m a vs σ else none
 |.Call (.Name f _) args [] p,ρ,σ=>do
  let (vs,σ)<-evs Φ args ρ σ
  dZ Φ (Φ.own p) f vs σ
 |_,_,_=>none
noncomputable def evs(Φ:Or):List Expr->ah->aa->Option (List V×aa)
 |[],_,σ=>some ([],σ)
 |e::r,ρ,σ=>do
  let (v,σ)<-ev Φ e ρ σ
  let (vs,σ)<-evs Φ r ρ σ
  some (v::vs,σ)
noncomputable def evo(Φ:Or):Option Expr->ah->aa->Option (Option Int×aa)
 |none,_,σ=>some (none,σ)
 |some e,ρ,σ=>do
  let (v,σ)<-ev Φ e ρ σ
  let i<-c5 v
  some (some i,σ)
noncomputable def drw(Φ:Or):Expr->ah->aa->Option (V×aa)->Option (List V×aa)
 |.Call (.Name f _) args [] _,ρ,σ,r=>z9 f (evs Φ args ρ σ) r
 |_,_,_,r=>iK r
noncomputable def tst(Φ:Or):Expr->ah->aa->Option (V×aa)->Option (Bool×aa)
 |.UnaryOp .Not x _,ρ,σ,_=>do
  let (b,σ)<-tst Φ x ρ σ (ev Φ x ρ σ)
  some (!b,σ)
 |.BoolOp op es _,ρ,σ,_=>qw Φ op es ρ σ
 |.IfExp ..,_,_,_=>none
 |_,_,_,r=>do
  let (v,σ)<-r
  let b<-dH σ v
  some (b,σ)
noncomputable def qw(Φ:Or):BoolOp->List Expr->ah->aa->Option (Bool×aa)
 |op,[],_,σ=>some (op == .And,σ)
 |op,e::r,ρ,σ=>do
  let (b,σ)<-tst Φ e ρ σ (ev Φ e ρ σ)
  match op,b with
  |.And,false=>some (false,σ)
  |.Or,true=>some (true,σ)
  |_,_=>qw Φ op r ρ σ
noncomputable def i6(Φ:Or):List Expr->ah->aa->Option (Bool×aa)
 |[],_,σ=>some (true,σ)
 |e::r,ρ,σ=>do
  let (b,σ)<-tst Φ e ρ σ (ev Φ e ρ σ)
  if b then i6 Φ r ρ σ else some (false,σ)
end
noncomputable def stN(l:Nat)(n:Str)(v:V)(ρ:ah)(σ:aa):Option Nd->Option (ah×aa)
 |some (.ins fs)=>if fs.length<1000 then some (ρ,σ.set l (.ins (bt n v fs))) else none
 |_=>none
noncomputable def store(Φ:Or)(t:Expr)(v:V)(ρ:ah)(σ:aa):Option (ah×aa):=
 match t with
 |.Attribute o n _=>do
  let (a,σ)<-ev Φ o ρ σ
  match a with
  |.o l=>stN l n v ρ σ σ[l]?
  |_=>none
 |.Subscript o i _=>do
  let (a,σ)<-ev Φ o ρ σ
  let (b,σ)<-ev Φ i ρ σ
  let σ<-dI a b v σ
  some (ρ,σ)
 |t=>do let ρ<-aQ t v ρ;some (ρ,σ)
noncomputable def Ci(b:V):Option Nd->Option Int
 |some (.lst xs)=>do let j<-c5 b;let k<-seqIndex? j xs.length;let v<-xs[k]?;c5 v
 |_=>none
noncomputable def mj(σ:aa)(a b:V):Option Int:=
 match a with
 |.o l=>Ci b σ[l]?
 |_=>none
noncomputable def x7(op:Operator)(c m:Int):Option Int:=
 match op with
 |.Add=>some (c+m)
 |.Sub=>some (c-m)
 |_=>none
noncomputable abbrev Res:=Option (Out×ah×aa)
noncomputable def cont(k:ah->aa->Res):Out->ah->aa->Res
 |.nx,ρ,σ=>k ρ σ
 |.ct,ρ,σ=>k ρ σ
 |.br,ρ,σ=>some (.nx,ρ,σ)
 |.ex,_,_=>none
 |.rt v,ρ,σ=>some (.rt v,ρ,σ)
noncomputable def forL(step:V->ah->aa->Res):List V->ah->aa->Res
 |[],ρ,σ=>some (.nx,ρ,σ)
 |x::r,ρ,σ=>(step x ρ σ).bind λ y=>cont (forL step r) y.1 y.2.1 y.2.2
noncomputable def AH(f:V->Res)(e:Res):Option V->Res
 |none=>e
 |some x=>f x
noncomputable def B8(f:V->Res)(i:Nat)(e:Res):Option Nd->Res
 |some (.lst xs)=>AH f e xs[i]?
 |_=>none
noncomputable def jc(step:V->ah->aa->Res)(l:Nat):Nat->Nat->ah->aa->Res
 |0,_,_,_=>none
 |n+1,i,ρ,σ=>B8 (λ x=>(step (dr σ x) ρ σ).bind λ y=>cont (jc step l n (i+1)) y.1 y.2.1 y.2.2) i (some (.nx,ρ,σ)) σ[l]?
noncomputable def xj(step:ah->aa->Res):Nat->ah->aa->Res
 |0,_,_=>none
 |n+1,ρ,σ=>(step ρ σ).bind λ y=>cont (xj step n) y.1 y.2.1 y.2.2
mutual
noncomputable def ak:Expr->List Str
 |.Name x _=>[x]
 |.Tuple ts _ _=>bf ts
 |_=>[]
noncomputable def bf:List Expr->List Str
 |[]=>[]
 |t::r=>ak t++bf r
end
mutual
noncomputable def stored:Stmt->List Str
 |.Assign ts _ _=>bf ts
 |.For t _ b o _=>ak t++(aF b++aF o)
 |.If _ b o _=>aF b++aF o
 |.While _ b o _=>aF b++aF o
 |.Try b hs o f _=>aF b++(storedH hs++(aF o++aF f))
 |_=>[]
noncomputable def aF:List Stmt->List Str
 |[]=>[]
 |s::r=>stored s++aF r
noncomputable def storedH:List ExceptHandler->List Str
 |[]=>[]
 |.ExceptHandler _ _ b _::r=>aF b++storedH r
end
noncomputable def mB:Nat->Stmt->Bool
 |0,_=>false
 |n+1,s=>match s with
  |.If _ b o _=>b.all (mB n) && o.all (mB n)
  |.For _ _ b _ _=>b.all (mB n)
  |.Return (some _) _=>true
  |_=>false
noncomputable def jU(b:List Stmt):Bool:=b.all (mB 6)
noncomputable def forget(xs:List Str)(ρ:ah):ah:=λ y=>if xs.contains y then none else ρ y
set_option genCtorIdx false in
set_option genInjectivity false in
inductive Src where
 |items (ys:List V)
 |obj (l:Nat)
 |fset (ks:List Int)
noncomputable def CJ:V->Option Src
 |.o l=>some (.obj l)
 |.fs ks=>some (.fset ks)
 |v=>(hV v).map .items
noncomputable def srcOf(r:Option (V×aa)):Option (Src×aa):=do
 let (v,σ)<-r
 let s<-CJ v
 some (s,σ)
noncomputable def src(Φ:Or)(it:Expr)(ρ:ah)(σ:aa):Option (Src×aa):=
 match it with
 |.Call (.Name f p) args [] q=>
  if oc f then do
   let (vs,σ)<-evs Φ args ρ σ
   let xs<-draws f vs
   some (.items xs,σ)
  else srcOf (ev Φ (.Call (.Name f p) args [] q) ρ σ)
 |it=>srcOf (ev Φ it ρ σ)
noncomputable def fsB(q:Option Bool):V->Option (Option Bool)
 |.d (.bool b)=>if q=none\/q=some b then some (some b) else none
 |_=>none
noncomputable def fsJ(o:Out)(σ:aa)(q:Option Bool):Option (Option Bool):=if σ.isEmpty then match o with
 |.nx=>some q
 |.rt v=>fsB q v
 |_=>none else none
noncomputable def sZ(step:V->ah->aa->Res)(ρ:ah):List Int->Option (Option Bool)
 |[]=>some none
 |x::r=>(step (.d (.int x)) ρ []).bind λ y=>(sZ step ρ r).bind λ q=>fsJ y.1 y.2.2 q
mutual
noncomputable def x1(Φ:Or):Stmt->ah->aa->Res
 |.Assign [.Tuple ts _ _] (.Tuple es _ _) _,ρ,σ=>do
  let (vs,σ)<-evs Φ es ρ σ
  let ρ<-cW ts vs ρ
  some (.nx,ρ,σ)
 |.Assign [t] e _,ρ,σ=>do
  let (v,σ)<-ev Φ e ρ σ
  let (ρ,σ)<-store Φ t v ρ σ
  some (.nx,ρ,σ)
 |.AugAssign (.Subscript o i _) op e _,ρ,σ=>do
  let (a,σ)<-ev Φ o ρ σ
  let (b,σ)<-ev Φ i ρ σ
  let c<-mj σ a b
  let (d,σ)<-ev Φ e ρ σ
  let m<-c5 d
  let r<-x7 op c m
  let σ<-dI a b (.d (.int r)) σ
  some (.nx,ρ,σ)
 |.Expr e _,ρ,σ=>do
  let (_,σ)<-ev Φ e ρ σ
  some (.nx,ρ,σ)
 |.Return (some e) _,ρ,σ=>do
  let (v,σ)<-ev Φ e ρ σ
  some (.rt v,ρ,σ)
 |.If t b o _,ρ,σ=>do
  let (c,σ)<-tst Φ t ρ σ (ev Φ t ρ σ)
  if c then xs Φ b ρ σ else xs Φ o ρ σ
 |.For t it body [] _,ρ,σ=>do
  let (sr,σ)<-src Φ it ρ σ
  match sr with
  |.items ys=>forL (λ x ρ σ=>do let ρ<-aQ t x ρ;xs Φ body ρ σ) ys ρ σ
  |.obj l=>jc (λ x ρ σ=>do let ρ<-aQ t x ρ;xs Φ body ρ σ) l Φ.fuel 0 ρ σ
  |.fset ks=>do
   let ρ₀:=forget (ak t++aF body) ρ
   match σ,jU body with
   |[],true=>match<-sZ (λ x ρ σ=>do let ρ<-aQ t x ρ;xs Φ body ρ σ) ρ₀ ks with
    |none=>some (.nx,ρ₀,[])
    |some b=>some (.rt (.d (.bool b)),ρ₀,[])
   |_,_=>none
 |.While (.Constant (.bool true) _ _) body [] _,ρ,σ=>xj (λ ρ σ=>xs Φ body ρ σ) Φ.fuel ρ σ
 |.Break _,ρ,σ=>some (.br,ρ,σ)
 |.Continue _,ρ,σ=>some (.ct,ρ,σ)
 |.Raise (some (.Call (.Name f _) [.Constant (.str _) _ _] [] _)) none _,ρ,σ=>if f="ValueError" then some (.ex,ρ,σ) else none
 |.Try [.Expr (.Call (.Name f _) args [] _) _] [.ExceptHandler (some (.Name c _)) none hb _] [] [] _,ρ,σ=>
  if c="ValueError" then do
   let (vs,σ)<-evs Φ args ρ σ
   if vs.all ie then do
    match<-Φ.P f vs with
    |some _=>some (.nx,ρ,σ)
    |none=>xs Φ hb ρ σ
   else none
  else none
 |_,_,_=>none
noncomputable def xs(Φ:Or):List Stmt->ah->aa->Res
 |[],ρ,σ=>some (.nx,ρ,σ)
 |s::r,ρ,σ=>do
  let (o,ρ,σ)<-x1 Φ s ρ σ
  match o with
  |.nx=>xs Φ r ρ σ
  |o=>some (o,ρ,σ)
end
set_option genInjectivity false in
structure Fn where
 params:List Str
 body:List Stmt
noncomputable def binds:List Str->List V->Option ah
 |[],[]=>some λ _=>none
 |x::r,v::vs=>do let ρ<-binds r vs;some (upd ρ x v)
 |_,_=>none
noncomputable def bkN(l:Nat)(σ:aa):Option Nd->Option V
 |some (.set xs)=>some (.fs xs)
 |_=>(frz 8 σ (.o l)).map λ x=>.d x.1
noncomputable def back(σ:aa):V->Option V
 |.fs xs=>some (.fs xs)
 |.o l=>bkN l σ σ[l]?
 |.d x=>some (.d x)
 |.ty _=>none
set_option genInjectivity false in
structure Prg where
 fn:Str->Option Fn
 mt:Str->Option Fn
 gl:Str->Option V
 own:Pos->Bool
 frz:Pos->Bool
 cls:Str
 fuel:Nat
noncomputable def Prg.run(p:Prg):Nat->Or
 |0=>{ P:=λ _ _=>none,M:=λ _ _ _=>none,gl:=p.gl,own:=p.own,frz:=p.frz,cls:=p.cls,fuel:=p.fuel }
 |n+1=>
  {
   P:=λ f vs=>do
    let g<-p.fn f
    let ρ<-binds g.params vs
    let (o,_,σ)<-xs (p.run n) g.body ρ []
    match o with
    |.rt v=>(back σ v).map some
    |.nx=>some (some (.d .none))
    |.ex=>some none
    |_=>none
   M:=λ f vs σ=>do
    let g<-p.mt f
    let ρ<-binds g.params vs
    let (o,_,σ)<-xs (p.run n) g.body ρ σ
    match o with
    |.rt v=>some (v,σ)
    |.nx=>some (.d .none,σ)
    |_=>none
   gl:=p.gl,own:=p.own,frz:=p.frz,cls:=p.cls,fuel:=p.fuel }
end Mine.Internal
end
section
namespace Mine.Internal
open PySem
set_option genInjectivity false in
structure Df where
 nm:Str
 a:Arguments
 b:List Stmt
 sc:Scope
noncomputable def dfs(l:List Stmt):List Df:=l.filterMap λ s=>match s with
 |.FunctionDef n a b _ _ _ sc _ _ _=>some ⟨n,a,b,sc⟩
 |_=>none
noncomputable def Df.fn(d:Df):Fn:=⟨d.a.args.map (·.arg),d.b⟩
noncomputable def fnL(b:List Stmt):List (Str×Fn):=(dfs b).filterMap λ d=>if d.nm=("law":Str) then none else some (d.nm,d.fn)
noncomputable def mQ(b:List Stmt):Fn:=(((dfs b).find? λ d=>d.nm == ("law":Str)).map (·.fn)).getD ⟨[],[]⟩
noncomputable def uL(b:List Stmt):List Stmt:=(b.findSome? λ s=>match s with
 |.ClassDef _ _ _ body _ _ _ _ _ _ _=>some body
 |_=>none).getD []
namespace L3
noncomputable def CT:List (Nat×Nat×Nat):=[(6,17,28),(7,17,41),(7,18,25),(8,17,28),(9,16,18),(11,21,49),(11,22,34),(11,26,33),(12,25,54),(12,29,36),(12,38,45),(16,16,18),(44,21,56),(44,22,34),(44,31,33),(45,26,64),(45,33,43),(45,45,55),(75,8,10),(76,10,12),(82,15,17),(88,25,32),(88,26,28),(118,8,10),(120,15,17),(127,11,33),(131,10,20),(208,20,22),(208,24,26),(223,28,30),(223,32,34),(223,36,38),(238,11,13),(255,28,30),(255,36,38)]
noncomputable def C2:List (Nat×Nat×Nat):=[(17,26,32),(19,16,22),(19,24,30),(19,32,38),(19,40,45),(96,25,29),(221,33,38),(221,56,61),(221,64,69),(230,27,32),(230,35,41),(230,58,63),(230,66,71),(247,18,22),(262,33,39),(277,16,23),(291,28,35),(291,72,79),(299,23,30),(302,28,35),(312,25,32),(315,24,31),(315,68,75),(317,58,65)]
set_option genInjectivity false in
structure Net where
 size:Nat
 pairs:List (Nat×Nat)
 spare:Nat×Nat
 strong:Bool
noncomputable def yi:List Net:=[⟨2,[(0,1),(1,0)],(1,1),true⟩,⟨3,[(0,1),(1,2),(2,0)],(1,0),true⟩,⟨3,[(1,0),(0,2),(2,1),(0,1)],(1,2),true⟩,
 ⟨3,[(0,1),(1,0)],(2,1),false⟩,⟨3,[(0,2),(1,2),(0,1)],(2,0),false⟩]
noncomputable def ax(c:Nat×Nat):PyData:=.tuple [.int c.1,.int c.2]
noncomputable def Bx(n:Net):PyData:=.tuple [.int n.size,.tuple (n.pairs.map ax),ax n.spare,.str (match n.strong with | true=>"strong" | false=>"weak")]
noncomputable def wY:PyData:=.tuple (yi.map Bx)
noncomputable def body:List Stmt:=PySem.Challenge.pw_sx_r140_3.main.body
noncomputable def prg:Prg where
 fn:=λ f=>(fnL body).lookup f
 mt:=λ f=>(fnL (uL body)).lookup f
 gl:=λ x=>if x="_law_nets" then some (.d wY) else if x="int" then some (.ty "int") else none
 own:=λ p=>CT.contains (p.line,p.col,p.endCol)
 frz:=λ p=>C2.contains (p.line,p.col,p.endCol)
 cls:="_St"
 fuel:=300
end L3
end Mine.Internal
end
section
namespace Mine.Internal
open PySem PySem.W PyProof.Rows
noncomputable abbrev BIG:Nat:=2 ^ 20
noncomputable abbrev aP(vs:List Value)(n:Nat):Obj:={ cls:=.type "list",data:=.seq vs.toArray n }
noncomputable abbrev c6(vs:List Value)(n:Nat):Obj:={ cls:=.type "tuple",data:=.seq vs.toArray n }
noncomputable def GX(g g':Array GenState):Prop:=∃ex:Array GenState,g'=g++ex/\∀x∈ex,(match x with | .finished=>True | _=>False)
noncomputable def Shr(s s':Shared):Prop:=s'.os=s.os/\GX s.gens s'.gens
noncomputable def biL:List (Str×Value):=[("len",.builtin "len"),("list",.type "list"),("sum",.builtin "sum"),("abs",.builtin "abs"),("all",.builtin "all"),("set",.type "set"),("type",.type "type"),
 ("enumerate",.type "enumerate"),("int",.type "int"),("ValueError",.type "ValueError")]
noncomputable def B3:Value->Bool
 |.none=>true
 |_=>false
noncomputable def Az:Value->Option String
 |.type n=>some n
 |_=>none
noncomputable def A6:Value->Option Addr
 |.ref a=>some a
 |_=>none
noncomputable def yI:Value->Option Str
 |.str q _=>some q
 |_=>none
noncomputable def zH:Data->Option (Array Value)
 |.fields vs=>some vs
 |_=>none
noncomputable def zB:Data->Option FuncData
 |.func fd=>some fd
 |_=>none
noncomputable def codeB(h:Heap)(fd:FuncData):Option Str:=(A6 fd.code).bind λ c=>(h.get? c).bind λ o=>(zH o.data).bind λ vs=>(vs[1]?).bind yI
noncomputable def fdB(h:Heap)(o:Obj)(fd:FuncData):Bool:=(Az o.cls == some "function") && (fd.closure.isEmpty && ((fd.globals == mainGlobals) && ((fd.builtins == builtinsNs) && (B3 fd.defaults && (codeB h fd == some fd.qualname)))))
noncomputable def A0(h:Heap)(v:Option Value):Option (Arguments×FuncBody×Scope):=v.bind λ v=>(A6 v).bind λ a=>(h.get? a).bind λ o=>(zB o.data).bind λ fd=>if fdB h o fd then some (fd.params,fd.body,fd.scope) else none
noncomputable def Df.see(d:Df):Option (Arguments×FuncBody×Scope):=some (d.a,.stmts d.b,d.sc)
noncomputable def seq?:Data->Option (Array Value)
 |.seq vs 0=>some vs
 |_=>none
noncomputable def BR(o:Obj):Option (List Value):=(seq? o.data).bind λ vs=>if Az o.cls=some "tuple"/\o.dict.isNone=true/\o.slots.size=0/\vs.toList.length<=BIG then some vs.toList else none
noncomputable def rdv(h:Heap):Nat->Value->Option PyData
 |0,_=>none
 |n+1,v=>match v with
  |.int i _=>some (.int i)
  |.str x _=>if PyData.strOk x then some (.str x) else none
  |.ref a=>((h.get? a).bind BR).bind λ vs=>(vs.mapM (rdv h n)).map .tuple
  |_=>none
namespace L3
noncomputable def hkL:List Str:=["__getattribute__","__getattr__","__setattr__","net","b","q","c","s"]
noncomputable def obs(h:Heap):=((dfs body).map (λ d=>A0 h (h.nsMap mainGlobals d.nm)),(dfs (uL body)).map (λ d=>A0 h (h.nsMap 52 d.nm)),hkL.map (h.nsMap 52),biL.map (λ q=>h.nsMap mainGlobals q.1),
 h.get? 53,(h.nsMap mainGlobals "_law_nets").bind (rdv h 9),h.nsMap mainGlobals prg.cls,h.isNs mainGlobals && h.isNs 52)
noncomputable def due:=((dfs body).map Df.see,(dfs (uL body)).map Df.see,hkL.map (λ _=>(none:Option Value)),biL.map (λ _=>(none:Option Value)),
 some (excClassObj "_St" "_St" 53 52 [.type "object"] [.type "object"] true [] [] false none none none none (some (.str "_St" 189)) (some (.str "_St" 197)) (some (.bool true)) "object.__new__"),some wY,some (Value.ref 53),true)
noncomputable def Was(h:Heap):Prop:=∃h₀:Heap,obs h₀=due/\∀b o,h₀.get? b=some o->h.get? b=some o
end L3
set_option genInjectivity false in
structure Cx where
 w:World
 hB:Heap
 mg:Str->Option Value
 mb:Str->Option Value
noncomputable def prog:Program:=PySem.Challenge.pw_sx_r140_3
noncomputable def C:Addr:=53
noncomputable def N:Addr:=52
noncomputable def p:Prg:=L3.prg
noncomputable def Cx.ok(x:Cx):Prop:=L3.Was x.hB->(∃q loose mean,Top q loose mean x.mg x.mb x.hB)->∀(s:Shared) (a la:Addr) (ws:List Value) (zs:List Int),s.heap=x.hB->x.mg "law"=some (.ref a)->x.hB.get? la=some (aP ws 0)->IntsAre ws zs->zs.length<=63->
 wpAny (model prog x.w) callerA (call (.ref a) [.ref la]) (λ v s'=>v=.bool true/\(∀b o,x.hB.get? b=some o->s'.heap.get? b=some o)/\Shr s s') (λ _ _=>False) s
noncomputable def cx:Cx:=@Classical.epsilon Cx ⟨⟨⟨λ _ _=>0,{ strHash:=λ _=>0,shareClass:=λ _=>0,mergeTok:=id,idOf:=λ _=>0,idOfShared:=λ _ _=>0,followText:=λ _=>false,idOfImm:=λ _=>0 }⟩,default,λ _=>none,λ _=>none⟩⟩ λ x=>¬x.ok
theorem Ab(h:cx.ok)(x:Cx):x.ok:=Classical.byContradiction λ q=>@Classical.epsilon_spec Cx (λ x=>¬x.ok) ⟨x,q⟩ h
noncomputable def w:World:=cx.w
noncomputable def hB:Heap:=cx.hB
noncomputable def mg:Str->Option Value:=cx.mg
noncomputable def mb:Str->Option Value:=cx.mb
noncomputable def mN:Str->Option Value:=hB.nsMap 52
end Mine.Internal
end
section
set_option tactic.hygienic true
namespace Mine.Internal
open PySem
inductive Kd where
 |loc | cel | glo | oth
 deriving DecidableEq
noncomputable def kdOf:Option NameKind->Kd
 |some .local=>.loc
 |some .cell=>.cel
 |some .free=>.cel
 |some .globalImplicit=>.glo
 |_=>.oth
noncomputable def kds(names:List (Str×NameKind))(x:Str):Kd:=kdOf (names.lookup x)
noncomputable def lD(x:Str):Bool:=!(x == ("__classdict__":Str)) && !(x == ("__debug__":Str)) && !(x == (".0":Str))
noncomputable def own?(κ:Str->Kd)(x:Str):Bool:=(κ x == .loc || κ x == .cel) && lD x
mutual
noncomputable def okT(κ:Str->Kd):Expr->Bool
 |.Name x _=>own? κ x
 |.Tuple ts _ _=>yY κ ts
 |_=>false
noncomputable def yY(κ:Str->Kd):List Expr->Bool
 |[]=>true
 |t::r=>okT κ t && yY κ r
end
noncomputable def gU:Expr->Bool
 |.Slice ..=>false
 |_=>true
noncomputable def dM:Expr->Bool
 |.UnaryOp .Not _ _=>false
 |.BoolOp ..=>false
 |.Compare ..=>false
 |.IfExp ..=>false
 |_=>true
noncomputable def uY:List Str:=["net","b","q","c","s"]
noncomputable def isNm:Expr->Bool
 |.Name ..=>true
 |_=>false
noncomputable def isTup:Expr->Bool
 |.Tuple ..=>true
 |_=>false
noncomputable def rp(t:Expr):Expr->Bool
 |.Call (.Name f _) _ _ _=>!(f == ("enumerate":Str)) || isTup t
 |_=>true
noncomputable def lx:Expr->Bool
 |.Call ..=>false
 |_=>true
noncomputable def rn(κ:Str->Kd)(t:Expr)(scope:Scope):Bool:=
 scope.kind == .function && decide ((scope.names.map (·.1)).Nodup) && scope.names.all λ q=>match q.2 with
  |.local=>q.1 == (".0":Str) || (ak t).contains q.1
  |.cell=>(ak t).contains q.1
  |.free=>κ q.1 == .cel && !(ak t).contains q.1
  |.globalImplicit=>true
  |_=>false
noncomputable def okC:Const->Bool
 |.str x=>PyData.strOk x
 |_=>true
noncomputable def okI(f:Expr->Bool):Expr->Bool
 |.Slice lo hi none _=>lo.all f && hi.all f
 |.Slice _ _ (some _) _=>false
 |i=>f i
noncomputable def okF(κ:Str->Kd)(f:Expr->Bool)(args:List Expr)(p:Pos):Expr->Bool
 |.Attribute o _ ap=>lx o && ((ap.endLine == p.line) && (decide (args.length<20) && f o))
 |.Name g _=>(κ g == .glo) && (lD g && (decide (args.length<20) && (!args.isEmpty || g == ("set":Str))))
 |_=>false
noncomputable def okE(gl:Str->Bool):Nat->(Str->Kd)->Expr->Bool
 |0,_,_=>false
 |n+1,κ,e=>match e with
  |.Constant c _ _=>okC c
  |.Name x _=>if gl x then κ x == .glo && lD x else own? κ x
  |.BinOp l _ r _=>okE gl n κ l && okE gl n κ r
  |.UnaryOp _ x _=>okE gl n κ x
  |.BoolOp _ es _=>es.all (okE gl n κ)
  |.Compare l _ rs _=>okE gl n κ l && rs.all (okE gl n κ)
  |.Subscript c i _=>okE gl n κ c && okI (okE gl n κ) i
  |.Tuple es _ _=>decide (es.length<=1000) && es.all (okE gl n κ)
  |.List es _=>decide (es.length<=1000) && es.all (okE gl n κ)
  |.Dict _ _ _=>true
  |.ListComp elt [⟨t,it,ifs,0⟩] scope _=>okE gl n κ it && (rp t it && (rn κ t scope && (okT (kds scope.names) t && (okE gl n (kds scope.names) elt && ifs.all (okE gl n (kds scope.names))))))
  |.Attribute o m _=>isNm o && (uY.contains m && okE gl n κ o)
  |.Call fn args [] p=>okF κ (okE gl n κ) args p fn && args.all (okE gl n κ)
  |_=>false
section
variable{α β γ:Type}
inductive Bd1(x:Option α)(f:α->Option γ)(c:γ):Prop
 |mk (a:α) (h1:x=some a) (h2:f a=some c)
inductive Bd2(x:Option (α×β))(f:α×β->Option γ)(c:γ):Prop
 |mk (a:α) (b:β) (h1:x=some (a,b)) (h2:f (a,b)=some c)
inductive Bd3{δ:Type}(x:Option (α×β×δ))(f:α×β×δ->Option γ)(c:γ):Prop
 |mk (a:α) (b:β) (d:δ) (h1:x=some (a,b,d)) (h2:f (a,b,d)=some c)
theorem bd1{x:Option α}{f:α->Option γ}{c:γ}(h:x.bind f=some c):Bd1 x f c:=by
 cases x with
 |none=>cases h
 |some a=>exact⟨a,rfl,h⟩
theorem bd2{x:Option (α×β)}{f:α×β->Option γ}{c:γ}(h:x.bind f=some c):Bd2 x f c:=by
 cases x with
 |none=>cases h
 |some p=>exact⟨p.1,p.2,rfl,h⟩
theorem bd3{δ:Type}{x:Option (α×β×δ)}{f:α×β×δ->Option γ}{c:γ}(h:x.bind f=some c):Bd3 x f c:=by
 cases x with
 |none=>cases h
 |some p=>exact⟨p.1,p.2.1,p.2.2,rfl,h⟩
theorem no{x:α}{P:Prop}(h:(none:Option α)=some x):P:=by cases h
theorem nob{P:Prop}(h:false=true):P:=by cases h
theorem uV{b:Bool}(h:(!b)=true):b=false:=by cases b<;>first | rfl | exact no h | exact nob h | cases h
theorem aB{a b:Bool}(h:(a && b)=true):a=true/\b=true:=Bool.and_eq_true_iff.mp h
theorem Dv{a a':α}{b b':β}(h:some (a,b)=some (a',b')):a=a'/\b=b':=Prod.mk.inj (Option.some.inj h)
end
inductive Du(it:Expr):Prop
 |call (f:Str) (np:Pos) (args:List Expr) (q:Pos) (e:it=.Call (.Name f np) args [] q)
 |plain (h1:∀Φ ρ σ r,drw Φ it ρ σ r=iK r) (h2:∀Φ ρ σ,src Φ it ρ σ=srcOf (ev Φ it ρ σ))
theorem Ca(it:Expr):Du it:=by
 cases it with
 |Call fn args kws q=>
  cases fn with
  |Name f np=>
   cases kws with
   |nil=>exact .call f np args q rfl
   |cons a b=>exact .plain (λ _ _ _ _=>rfl) (λ _ _ _=>rfl)
  |_=>exact .plain (λ _ _ _ _=>rfl) (λ _ _ _=>rfl)
 |_=>exact .plain (λ _ _ _ _=>rfl) (λ _ _ _=>rfl)
theorem qu{Φ:Or}{e:Expr}{ρ:ah}{σ:aa}{r:Option (V×aa)}(hp:dM e=true):tst Φ e ρ σ r=r.bind λ x=>(dH x.2 x.1).bind λ b=>some (b,x.2):=by
 cases e<;>first | rfl | exact nob hp | (rename_i op _ _;cases op<;>first | rfl | exact nob hp)
theorem xA{Φ:Or}{c i:Expr}{q:Pos}{ρ:ah}{σ:aa}(hs:gU i=true):ev Φ (.Subscript c i q) ρ σ=(ev Φ c ρ σ).bind λ x=>(ev Φ i ρ x.2).bind λ y=>(gF y.2 x.1 y.1).bind λ r=>some (r,y.2):=by
 cases i<;>first | rfl | exact nob hs
theorem lst_inv{γ:Type}{σ:aa}{l:Nat}{f:List V->Option γ}{r:γ}(h:(match σ[l]? with | some (.lst xs)=>f xs | _=>none)=some r):∃xs,σ[l]?=some (.lst xs)/\f xs=some r:=by
 cases hl:σ[l]? with
 |none=>rw[hl] at h;first | exact no h | exact nob h | cases h
 |some nd=>
  rw[hl] at h;cases nd with
  |lst xs=>exact⟨xs,rfl,h⟩
  |_=>first | exact no h | exact nob h | cases h
theorem km{step:V->ah->aa->Res}{l n i:Nat}{ρ:ah}{σ:aa}{r:Out×ah×aa}(h:jc step l (n+1) i ρ σ=some r):∃xs,σ[l]?=some (.lst xs)/\AH (λ x=>(step (dr σ x) ρ σ).bind λ y=>cont (jc step l n (i+1)) y.1 y.2.1 y.2.2) (some (.nx,ρ,σ)) xs[i]?=some r:=
 lst_inv (f:=λ xs=>AH (λ x=>(step (dr σ x) ρ σ).bind λ y=>cont (jc step l n (i+1)) y.1 y.2.1 y.2.2) (some (.nx,ρ,σ)) xs[i]?) h
noncomputable def mY(ρ:ah):Option Bool->Out×ah×aa
 |none=>(.nx,ρ,[])
 |some b=>(.rt (.d (.bool b)),ρ,[])
theorem ou{t:Expr}{body:List Stmt}{Φ:Or}{ρ:ah}{ks:List Int}{r:Out×ah×aa}(h:(do
   let ρ₀:=forget (ak t++aF body) ρ
   match([]:aa),jU body with
   |[],true=>match<-sZ (λ x ρ σ=>do let ρ<-aQ t x ρ;xs Φ body ρ σ) ρ₀ ks with
    |none=>some (.nx,ρ₀,[])
    |some b=>some (.rt (.d (.bool b)),ρ₀,[])
   |_,_=>none)=some r):jU body=true/\∃q,sZ (λ x ρ σ=>(aQ t x ρ).bind λ ρ=>xs Φ body ρ σ) (forget (ak t++aF body) ρ) ks=some q/\mY (forget (ak t++aF body) ρ) q=r:=by
 revert h
 cases jU body with
 |false=>exact λ h=>no h
 |true=>
  intro h;obtain⟨q,h1,h2⟩:=bd1 h;cases q with
  |none=>exact⟨rfl,none,h1,Option.some.inj h2⟩
  |some b=>exact⟨rfl,some b,h1,Option.some.inj h2⟩
noncomputable def nm?:Expr->Option Str
 |.Name f _=>some f
 |_=>none
inductive NmC(f:Str):Expr->Prop
 |mk (p:Pos):NmC f (.Name f p)
theorem nmC{f:Str}{e:Expr}(h:nm? e=some f):NmC f e:=by
 cases e with
 |Name z p=>cases h;exact .mk p
 |_=>exact no h
structure NoT(t:Expr):Prop where
 b:∀v ρ,aQ t v ρ=none
 k:∀κ,okT κ t=false
mutual
theorem qz{P:Expr->Prop}{Ps:List Expr->Prop}(hN:∀x p,P (.Name x p))(hT:∀ts k p,Ps ts->P (.Tuple ts k p))(hO:∀t,NoT t->P t)(h0:Ps [])(h1:∀t ts,P t->Ps ts->Ps (t::ts)):∀t,P t
 |.Name x p=>hN x p
 |.Tuple ts k p=>hT ts k p (jK hN hT hO h0 h1 ts)
 |.BoolOp ..=>hO _ ⟨λ _ _=>rfl,λ _=>rfl⟩
 |.NamedExpr ..=>hO _ ⟨λ _ _=>rfl,λ _=>rfl⟩
 |.BinOp ..=>hO _ ⟨λ _ _=>rfl,λ _=>rfl⟩
 |.UnaryOp ..=>hO _ ⟨λ _ _=>rfl,λ _=>rfl⟩
 |.Lambda ..=>hO _ ⟨λ _ _=>rfl,λ _=>rfl⟩
 |.IfExp ..=>hO _ ⟨λ _ _=>rfl,λ _=>rfl⟩
 |.Dict ..=>hO _ ⟨λ _ _=>rfl,λ _=>rfl⟩
 |.Set ..=>hO _ ⟨λ _ _=>rfl,λ _=>rfl⟩
 |.ListComp ..=>hO _ ⟨λ _ _=>rfl,λ _=>rfl⟩
 |.SetComp ..=>hO _ ⟨λ _ _=>rfl,λ _=>rfl⟩
 |.DictComp ..=>hO _ ⟨λ _ _=>rfl,λ _=>rfl⟩
 |.GeneratorExp ..=>hO _ ⟨λ _ _=>rfl,λ _=>rfl⟩
 |.Await ..=>hO _ ⟨λ _ _=>rfl,λ _=>rfl⟩
 |.Yield ..=>hO _ ⟨λ _ _=>rfl,λ _=>rfl⟩
 |.YieldFrom ..=>hO _ ⟨λ _ _=>rfl,λ _=>rfl⟩
 |.Compare ..=>hO _ ⟨λ _ _=>rfl,λ _=>rfl⟩
 |.Call ..=>hO _ ⟨λ _ _=>rfl,λ _=>rfl⟩
 |.FormattedValue ..=>hO _ ⟨λ _ _=>rfl,λ _=>rfl⟩
 |.JoinedStr ..=>hO _ ⟨λ _ _=>rfl,λ _=>rfl⟩
 |.Constant ..=>hO _ ⟨λ _ _=>rfl,λ _=>rfl⟩
 |.Attribute ..=>hO _ ⟨λ _ _=>rfl,λ _=>rfl⟩
 |.Subscript ..=>hO _ ⟨λ _ _=>rfl,λ _=>rfl⟩
 |.Starred ..=>hO _ ⟨λ _ _=>rfl,λ _=>rfl⟩
 |.List ..=>hO _ ⟨λ _ _=>rfl,λ _=>rfl⟩
 |.Slice ..=>hO _ ⟨λ _ _=>rfl,λ _=>rfl⟩
theorem jK{P:Expr->Prop}{Ps:List Expr->Prop}(hN:∀x p,P (.Name x p))(hT:∀ts k p,Ps ts->P (.Tuple ts k p))(hO:∀t,NoT t->P t)(h0:Ps [])(h1:∀t ts,P t->Ps ts->Ps (t::ts)):∀ts,Ps ts
 |[]=>h0
 |t::ts=>h1 t ts (qz hN hT hO h0 h1 t) (jK hN hT hO h0 h1 ts)
end
theorem jM{P:Expr->Prop}{Ps:List Expr->Prop}(hN:∀x p,P (.Name x p))(hT:∀ts k p,Ps ts->P (.Tuple ts k p))(hO:∀t,NoT t->P t)(h0:Ps [])(h1:∀t ts,P t->Ps ts->Ps (t::ts)):(∀t,P t)/\∀ts,Ps ts:=
 ⟨qz hN hT hO h0 h1,jK hN hT hO h0 h1⟩
theorem nR{κ:Str->Kd}:(∀t:Expr,okT κ t=true->∀z∈ak t,own? κ z=true)/\∀ts:List Expr,yY κ ts=true->∀z∈bf ts,own? κ z=true:=
 jM (λ x p h z hz=>List.mem_singleton.mp hz▸h) (λ ts k p ih h z hz=>ih h z hz) (λ t q h=>nob ((q.k κ).symm.trans h)) (λ h z hz=>by cases hz)
  λ t ts i1 i2 h z hz=>(List.mem_append.mp hz).elim (i1 (aB h).1 z) (i2 (aB h).2 z)
theorem lz{κ:Str->Kd}{t:Expr}(h:okT κ t=true):∀z∈ak t,own? κ z=true:=nR.1 t h
theorem pq{κ:Str->Kd}{ts:List Expr}(h:yY κ ts=true):∀z∈bf ts,own? κ z=true:=nR.2 ts h
theorem gN(ρ:ah)(x:Str)(v:V):upd ρ x v x=some v:=if_pos rfl
theorem kR{ρ:ah}{x y:Str}{v:V}(h:y≠x):upd ρ x v y=ρ y:=if_neg h
noncomputable def BP(xs:List Str)(ρ₁ ρ₁' ρ₂ ρ₂':ah)(y:Str):Prop:=(y∈xs/\ρ₂' y=ρ₁' y)\/(y∉xs/\ρ₁' y=ρ₁ y/\ρ₂' y=ρ₂ y)
theorem uW:(∀(t:Expr) (x:V) (ρ₁ ρ₁' ρ₂:ah),aQ t x ρ₁=some ρ₁'->∃ρ₂',aQ t x ρ₂=some ρ₂'/\∀y,BP (ak t) ρ₁ ρ₁' ρ₂ ρ₂' y)/\
  ∀(ts:List Expr) (xs:List V) (ρ₁ ρ₁' ρ₂:ah),cW ts xs ρ₁=some ρ₁'->∃ρ₂',cW ts xs ρ₂=some ρ₂'/\∀y,BP (bf ts) ρ₁ ρ₁' ρ₂ ρ₂' y:=by
 refine jM (λ n p x ρ₁ ρ₁' ρ₂ e=>?_) (λ ts k p ih x ρ₁ ρ₁' ρ₂ e=>?_) (λ t q x ρ₁ ρ₁' ρ₂ e=>no ((q.b x ρ₁).symm.trans e)) (λ xs ρ₁ ρ₁' ρ₂ e=>?_) λ t ts i1 i2 xs ρ₁ ρ₁' ρ₂ e=>?_
 ·cases e;refine⟨_,rfl,λ y=>?_⟩;refine Classical.byCases (p:=y=n) (λ hy=>?_) (λ hy=>?_)
  ·exact .inl ⟨hy▸.head _,by rw[hy,gN,gN]⟩
  ·exact .inr ⟨λ q=>hy (List.mem_singleton.mp q),kR hy,kR hy⟩
 ·obtain⟨vs,e1,e2⟩:=bd1 e;refine bC λ k9=>?_;obtain⟨ρ₂',h1,h2⟩:=ih vs ρ₁ ρ₁' ρ₂ e2;refine k9 ?_;exact⟨ρ₂',(congrArg (Option.bind · λ vs=>cW ts vs ρ₂) e1).trans h1,h2⟩
 ·cases xs with
  |cons x xs=>exact no e
  |nil=>cases e;exact⟨ρ₂,rfl,λ y=>.inr ⟨(λ h=>by cases h),rfl,rfl⟩⟩
 ·cases xs with
  |nil=>exact no e
  |cons x xs=>
   refine bC λ k9=>?_;obtain⟨ρ,e1,e2⟩:=bd1 e;obtain⟨ρa,h1,h2⟩:=i1 x ρ₁ ρ ρ₂ e1;obtain⟨ρb,h3,h4⟩:=i2 xs ρ ρ₁' ρa e2;refine k9 ?_;refine⟨ρb,(congrArg (Option.bind · λ ρ=>cW ts xs ρ) h1).trans h3,λ y=>?_⟩;rcases h4 y with ⟨q1,q2⟩ | ⟨q1,q2,q3⟩
   ·exact .inl ⟨List.mem_append_right _ q1,q2⟩
   ·rcases h2 y with ⟨p1,p2⟩ | ⟨p1,p2,p3⟩
    ·exact .inl ⟨List.mem_append_left _ p1,q3.trans (p2.trans q2.symm)⟩
    ·exact .inr ⟨λ q=>(List.mem_append.mp q).elim p1 q1,q2.trans p2,q3.trans p3⟩
theorem iU(t:Expr)(x:V)(ρ₁ ρ₁' ρ₂:ah)(e:aQ t x ρ₁=some ρ₁'):∃ρ₂',aQ t x ρ₂=some ρ₂'/\∀y,BP (ak t) ρ₁ ρ₁' ρ₂ ρ₂' y:=uW.1 t x ρ₁ ρ₁' ρ₂ e
theorem mh{t:Expr}{x:V}{ρ ρ':ah}(e:aQ t x ρ=some ρ'):aQ t x (forget (ak t) ρ)=some ρ':=by
 obtain⟨ρ₂',h1,h2⟩:=iU t x ρ ρ' (forget (ak t) ρ) e;refine h1.trans (congrArg some (funext λ y=>?_));rcases h2 y with ⟨_,q⟩ | ⟨q0,q1,q2⟩
 ·exact q
 ·exact q2.trans (Eq.trans (if_neg λ q=>q0 (List.contains_iff_mem.mp q)) q1.symm)
inductive CD{γ:Type}(f:V->Option γ)(r:γ):List V->Prop
 |mk (v:V) (h:f v=some r):CD f r [v]
theorem iX{γ:Type}{f:V->Option γ}{r:γ}{vs:List V}(h:qg f vs=some r):CD f r vs:=by
 cases vs with
 |nil=>first | exact no h | exact nob h | cases h
 |cons v t=>
  cases t with
  |nil=>exact .mk v h
  |cons a b=>first | exact no h | exact nob h | cases h
inductive CC{γ:Type}(f:V->V->Option γ)(r:γ):List V->Prop
 |mk (a b:V) (h:f a b=some r):CC f r [a,b]
theorem BH{γ:Type}{f:V->V->Option γ}{r:γ}{vs:List V}(h:Cj f vs=some r):CC f r vs:=by
 cases vs with
 |nil=>first | exact no h | exact nob h | cases h
 |cons a t=>
  cases t with
  |nil=>first | exact no h | exact nob h | cases h
  |cons b t=>
   cases t with
   |nil=>exact .mk a b h
   |cons c d=>cases h
theorem BI{γ:Type}{x:Option γ}{r:γ}{vs:List V}(h:Ck x vs=some r):vs=[]/\x=some r:=by
 cases vs with
 |nil=>exact⟨rfl,h⟩
 |cons v t=>cases h
theorem gW{x:PyData}{xs:List PyData}(h:zc x=some xs):x=.list xs:=by
 cases x with
 |list ys=>cases h;rfl
 |_=>first | exact no h | exact nob h | cases h
inductive MdC(c:PyData)(m:Str)(σ:aa)(r:V)(σ':aa)(y:V):Prop
 |index (x:PyData) (xs:List PyData) (k:Nat) (hm:m="index") (hy:f6 y=some x) (e1:items? c=some xs) (e2:pE x 0 xs=some k) (e3:some (V.d (.int k),σ)=some (r,σ'))
 |count (x:PyData) (k:Nat) (hm:m="count") (hy:f6 y=some x) (e1:Ad x c=some k) (e3:some (V.d (.int k),σ)=some (r,σ'))
inductive Cv(c:PyData)(m:Str)(σ:aa)(r:V)(σ':aa):List V->Prop
 |mk (y:V) (h:MdC c m σ r σ' y):Cv c m σ r σ' [y]
theorem mdC{Φ:Or}{m:Str}{c:PyData}{vs:List V}{σ σ':aa}{r:V}(e:gM Φ m (.d c) vs σ=some (r,σ')):Cv c m σ r σ' vs:=by
 by_cases hm:m="index"
 ·replace e:=iX ((if_pos hm).symm.trans e)
  cases e with
  |mk v e=>
   obtain⟨x,e0,e⟩:=bd1 e;obtain⟨xs,e1,e⟩:=bd1 e;obtain⟨k,e2,e⟩:=bd1 e;exact .mk v (.index x xs k hm e0 e1 e2 e)
 ·replace e:=(if_neg hm).symm.trans e
  by_cases hm:m="count"
  ·replace e:=iX ((if_pos hm).symm.trans e)
   cases e with
   |mk v e=>
    refine bC λ k9=>?_;obtain⟨x,e0,e⟩:=bd1 e;obtain⟨k,e1,e⟩:=bd1 e;refine k9 ?_;exact .mk v (.count x k hm e0 e1 e)
  ·exact no ((if_neg hm).symm.trans e)
theorem g8{Φ:Or}{m:Str}{l:Nat}{vs:List V}{σ:aa}{nd:Nd}(h:σ[l]?=some nd):gM Φ m (.o l) vs σ=l9 Φ m l vs σ (some nd):=congrArg (l9 Φ m l vs σ) h
end Mine.Internal
end
section
namespace Mine.Internal
open PySem PyProof.Rows
inductive RD(X:Addr->Prop)(h:Heap):Value->PyData->Prop
 |none:RD X h .none .none
 |bool (b:Bool):RD X h (.bool b) (.bool b)
 |int (i:Int) (t:Tok):RD X h (.int i t) (.int i)
 |str (x:Str) (t:Tok):PyData.strOk x=true->RD X h (.str x t) (.str x)
 |list {a:Addr} {vs:List Value} {n:Nat} {xs:List PyData}:h.get? a=some (aP vs n)->¬X a->vs.length<=BIG->vs.length=xs.length->
   (∀(i:Nat) (v:Value) (x:PyData),vs[i]?=some v->xs[i]?=some x->RD X h v x)->RD X h (.ref a) (.list xs)
 |tuple {a:Addr} {vs:List Value} {n:Nat} {xs:List PyData}:h.get? a=some (c6 vs n)->¬X a->vs.length<=BIG->vs.length=xs.length->
   (∀(i:Nat) (v:Value) (x:PyData),vs[i]?=some v->xs[i]?=some x->RD X h v x)->RD X h (.ref a) (.tuple xs)
noncomputable def aA{α β:Type}(R:α->β->Prop)(vs:List α)(xs:List β):Prop:=vs.length=xs.length/\∀(i:Nat) (v:α) (x:β),vs[i]?=some v->xs[i]?=some x->R v x
section
variable{α β:Type}{R R':α->β->Prop}{vs ws:List α}{xs ys:List β}{v:α}{x:β}
theorem aA.nil:aA R [] []:=⟨rfl,λ i v x h=>by cases(show(none:Option α)=some v from h)⟩
theorem aA.cons(h:R v x)(r:aA R vs xs):aA R (v::vs) (x::xs):=by
 refine⟨congrArg Nat.succ r.1,λ i u y hu hy=>?_⟩;cases i with
 |zero=>cases hu;cases hy;exact h
 |succ i=>exact r.2 i u y hu hy
theorem aA.head(h:aA R (v::vs) (x::xs)):R v x:=h.2 0 v x rfl rfl
theorem aA.tail(h:aA R (v::vs) (x::xs)):aA R vs xs:=⟨Nat.succ.inj h.1,λ i u y hu hy=>h.2 (i+1) u y hu hy⟩
theorem aA.mono(h:aA R vs xs)(hR:∀v x,R v x->R' v x):aA R' vs xs:=⟨h.1,λ i v x a b=>hR v x (h.2 i v x a b)⟩
theorem aA.tY(h:aA R vs xs)(hR:∀v x,v∈vs->x∈xs->R v x->R' v x):aA R' vs xs:=
 ⟨h.1,λ i v x a b=>hR v x (List.mem_of_getElem? a) (List.mem_of_getElem? b) (h.2 i v x a b)⟩
theorem aA.append(h:aA R vs xs)(k:aA R ws ys):aA R (vs++ws) (xs++ys):=by
 refine⟨by rw[List.length_append,List.length_append,h.1,k.1],λ i v x a b=>?_⟩;by_cases hi:i<vs.length
 ·rw[List.getElem?_append_left hi] at a;rw[List.getElem?_append_left (h.1▸hi)] at b;exact h.2 i v x a b
 ·rw[List.getElem?_append_right (Nat.le_of_not_lt hi)] at a;rw[List.getElem?_append_right (h.1▸Nat.le_of_not_lt hi),<-h.1] at b;exact k.2 _ v x a b
theorem aA.get(h:aA R vs xs){i:Nat}(hx:xs[i]?=some x):∃v,vs[i]?=some v/\R v x:=by
 have hi:i<xs.length:=(List.getElem?_eq_some_iff.mp hx).1;have hv:vs[i]?=some (vs[i]'(by rw[h.1];exact hi)):=List.getElem?_eq_getElem _;exact⟨_,hv,h.2 i _ _ hv hx⟩
theorem aA.B6(h:aA R vs xs){i:Nat}(hv:vs[i]?=some v):∃x,xs[i]?=some x/\R v x:=by
 have hi:i<vs.length:=(List.getElem?_eq_some_iff.mp hv).1;have hx:xs[i]?=some (xs[i]'(by rw[<-h.1];exact hi)):=List.getElem?_eq_getElem _;exact⟨_,hx,h.2 i _ _ hv hx⟩
theorem aA.one(h:R v x):aA R [v] [x]:=aA.cons h aA.nil
theorem aA.set(h:aA R vs xs)(k:Nat)(hv:R v x):aA R (vs.set k v) (xs.set k x):=by
 refine⟨by rw[List.length_set,List.length_set,h.1],λ i u y a b=>?_⟩;rw[List.getElem?_set] at a b;by_cases hk:k=i
 ·subst hk;rw[if_pos rfl] at a b;by_cases hl:k<vs.length
  ·rw[if_pos hl] at a;rw[if_pos (h.1▸hl)] at b;cases a;cases b;exact hv
  ·rw[if_neg hl] at a;cases a
 ·rw[if_neg hk] at a b;exact h.2 i u y a b
theorem aA.drop(h:aA R vs xs)(k:Nat):aA R (vs.drop k) (xs.drop k):=
 ⟨by rw[List.length_drop,List.length_drop,h.1],λ i v x a b=>h.2 (k+i) v x (List.getElem?_drop.symm.trans a) (List.getElem?_drop.symm.trans b)⟩
theorem aA.take(h:aA R vs xs)(k:Nat):aA R (vs.take k) (xs.take k):=by
 refine⟨by rw[List.length_take,List.length_take,h.1],λ i v x a b=>?_⟩;rw[List.getElem?_take] at a b;by_cases hk:i<k
 ·exact h.2 i v x ((if_pos hk).symm.trans a) ((if_pos hk).symm.trans b)
 ·exact no ((if_neg hk).symm.trans a)
theorem aA.nW(h:aA R [] xs):xs=[]:=List.eq_nil_of_length_eq_zero h.1.symm
theorem aA.bu(h:aA R vs []):vs=[]:=List.eq_nil_of_length_eq_zero h.1
inductive BL(R:α->β->Prop)(vs:List α)(x:β)(xs:List β):Prop
 |mk (v:α) (ws:List α) (e:vs=v::ws) (h:R v x) (r:aA R ws xs)
theorem aA.cons_right(h:aA R vs (x::xs)):BL R vs x xs:=by
 cases vs with
 |nil=>exact by cases h.1
 |cons v ws=>exact⟨v,ws,rfl,h.head,h.tail⟩
theorem aA.rG{γ:Type}{g:γ->β}{zs:List γ}(h:aA R vs (zs.map g)):aA (λ v z=>R v (g z)) vs zs:=
 ⟨h.1.trans (List.length_map _),λ i v z a b=>h.2 i v (g z) a (by rw[List.getElem?_map,b];rfl)⟩
theorem aA.lB{γ:Type}{g:γ->β}{zs:List γ}(h:aA (λ v z=>R v (g z)) vs zs):aA R vs (zs.map g):=
 ⟨h.1.trans (List.length_map _).symm,λ i v x a b=>by
  rw[List.getElem?_map] at b;obtain⟨z,hz,rfl⟩:=Option.map_eq_some_iff.mp b;exact h.2 i v z a hz⟩
end
section
variable{X X':Addr->Prop}{h h':Heap}{v:Value}{x:PyData}{vs:List Value}{xs:List PyData}{a:Addr}
theorem RD.rM{n:Nat}(ho:h.get? a=some (aP vs n))(hx:¬X a)(hl:vs.length<=BIG)(hr:aA (RD X h) vs xs):RD X h (.ref a) (.list xs):=.list ho hx hl hr.1 hr.2
theorem RD.nv{n:Nat}(ho:h.get? a=some (c6 vs n))(hx:¬X a)(hl:vs.length<=BIG)(hr:aA (RD X h) vs xs):RD X h (.ref a) (.tuple xs):=.tuple ho hx hl hr.1 hr.2
inductive Cq(mk:List Value->Nat->Obj)(X:Addr->Prop)(h:Heap)(v:Value)(xs:List PyData):Prop
 |intro(a:Addr) (vs:List Value) (n:Nat) (e:v=.ref a) (q1:h.get? a=some (mk vs n)) (q2:¬X a) (q3:vs.length<=BIG) (q4:aA (RD X h) vs xs)
theorem RD.aZ(r:RD X h v (.list xs)):Cq aP X h v xs:=by
 cases r with | list h1 h2 h3 h4 h5=>exact⟨_,_,_,rfl,h1,h2,h3,h4,h5⟩
theorem RD.aX(r:RD X h v (.tuple xs)):Cq c6 X h v xs:=by
 cases r with | tuple h1 h2 h3 h4 h5=>exact⟨_,_,_,rfl,h1,h2,h3,h4,h5⟩
theorem RD.keeps(hk:∀b o,¬X b->h.get? b=some o->h'.get? b=some o)(hX:∀b o,¬X b->h.get? b=some o->¬X' b):∀{v:Value} {x:PyData},RD X h v x->RD X' h' v x:=by
 intro v x r
 induction r with
 |none=>exact .none
 |bool b=>exact .bool b
 |int i t=>exact .int i t
 |str y t hy=>exact .str y t hy
 |list h1 h2 h3 h4 _ ih=>exact .list (hk _ _ h2 h1) (hX _ _ h2 h1) h3 h4 ih
 |tuple h1 h2 h3 h4 _ ih=>exact .tuple (hk _ _ h2 h1) (hX _ _ h2 h1) h3 h4 ih
theorem ik{xs:List PyData}:∀{vs:List Value},vs.length=xs.length->(∀(i:Nat) (v:Value) (x:PyData),vs[i]?=some v->xs[i]?=some x->∃as,Reads h v x as)->∃as,ReadsAll h vs xs as:=by
 induction xs with
 |nil=>
  intro vs hl _;cases vs with
  |nil=>exact⟨[],.nil⟩
  |cons v vs=>exact by cases hl
 |cons x xs ih=>
  intro vs hl hr;cases vs with
  |nil=>exact by cases hl
  |cons v vs=>
   obtain⟨as,ha⟩:=hr 0 v x rfl rfl;obtain⟨bs,hb⟩:=ih (vs:=vs) (Nat.succ.inj hl) λ i u y hu hy=>hr (i+1) u y hu hy;exact⟨as++bs,.cons ha hb⟩
theorem RD.reads(r:RD X h v x):∃as,Reads h v x as:=by
 induction r with
 |none=>exact⟨[],.none⟩
 |bool b=>exact⟨[],.bool b⟩
 |int i t=>exact⟨[],.int i t⟩
 |str y t _=>exact⟨[],.str y t⟩
 |list h1 _ _ h4 _ ih=>
  obtain⟨as,ha⟩:=ik h4 ih;exact⟨_,.list h1 rfl rfl ha⟩
 |tuple h1 _ _ h4 _ ih=>
  obtain⟨as,ha⟩:=ik h4 ih;exact⟨_,.tuple h1 rfl rfl ha⟩
theorem fB:∀{xs:List PyData},(∀x∈xs,x.canLay0=true)->PyData.canLayAll0 xs=true:=by
 intro xs
 induction xs with
 |nil=>
  intro _;rw[PyData.canLayAll0]
 |cons x xs ih=>
  intro h;rw[PyData.canLayAll0,h x List.mem_cons_self,ih λ y hy=>h y (List.mem_cons_of_mem _ hy)];rfl
theorem l7{vs:List Value}{xs:List PyData}(h4:vs.length=xs.length)(ih:∀(i:Nat) (v:Value) (x:PyData),vs[i]?=some v->xs[i]?=some x->x.canLay0=true):PyData.canLayAll0 xs=true:=fB λ y hy=>by
 obtain⟨i,hi⟩:=List.mem_iff_getElem?.mp hy;exact ih i _ _ (List.getElem?_eq_getElem (h4▸(List.getElem?_eq_some_iff.mp hi).1)) hi
theorem RD.canLay(r:RD X h v x):x.canLay0=true:=by
 induction r with
 |none=>rw[PyData.canLay0]
 |bool b=>rw[PyData.canLay0]
 |int i t=>rw[PyData.canLay0]
 |str y t hy=>rw[PyData.canLay0];exact hy
 |list h1 _ _ h4 _ ih=>rw[PyData.canLay0];exact l7 h4 ih
 |tuple h1 _ _ h4 _ ih=>rw[PyData.canLay0];exact l7 h4 ih
end
noncomputable abbrev Loc:=Nat->Addr×Addr
noncomputable def Nd.live:Nd->Bool
 |.frz _=>false
 |_=>true
noncomputable def Nd.mR:Nd->Bool
 |.ins _=>true
 |_=>false
inductive Own(ι:Loc)(σ:aa)(b:Addr):Prop
 |mk (l:Nat) (n:Nd) (e1:σ[l]?=some n) (e2:n.live=true) (e3:b=(ι l).1\/b=(ι l).2)
noncomputable def Ex(J:Addr->Prop)(ι:Loc)(σ:aa)(b:Addr):Prop:=J b\/Own ι σ b
section
variable{J:Addr->Prop}{ι ι' ι'':Loc}{σ σ' σ'':aa}{h h' h'':Heap}{v:Value}
structure Evo(ι:Loc)(σ:aa)(h:Heap)(ι':Loc)(σ':aa)(h':Heap):Prop where
 len:σ.length<=σ'.length
 ag:∀l,l<σ.length->ι' l=ι l
 own:∀b,Own ι' σ' b->Own ι σ b\/h.get? b=none
 kp:∀b o,¬Own ι σ b->h.get? b=some o->h'.get? b=some o
theorem Evo.refl:Evo ι σ h ι σ h:=⟨Nat.le_refl _,λ _ _=>rfl,λ _ x=>.inl x,λ _ _ _ e=>e⟩
theorem Evo.trans(a:Evo ι σ h ι' σ' h')(b:Evo ι' σ' h' ι'' σ'' h''):Evo ι σ h ι'' σ'' h'' where
 len:=Nat.le_trans a.len b.len
 ag:=λ l hl=>(b.ag l (Nat.lt_of_lt_of_le hl a.len)).trans (a.ag l hl)
 own:=λ c x=>by
  rcases b.own c x with y | y
  ·exact a.own c y
  ·by_cases hc:Own ι σ c
   ·exact .inl hc
   ·cases e:h.get? c with
    |none=>exact .inr rfl
    |some o=>rw[a.kp c o hc e] at y;cases y
 kp:=λ c o hc e=>b.kp c o (λ y=>by
  rcases a.own c y with y | y
  ·exact hc y
  ·rw[e] at y;cases y) (a.kp c o hc e)
theorem Evo.off{b:Addr}{o:Obj}(a:Evo ι σ h ι' σ' h')(hb:¬Own ι σ b)(e:h.get? b=some o):¬Own ι' σ' b:=λ y=>by
 rcases a.own b y with y | y
 ·exact hb y
 ·rw[e] at y;first | exact no y | exact nob y | cases y
theorem Evo.ex{b:Addr}{o:Obj}(a:Evo ι σ h ι' σ' h')(hb:¬Ex J ι σ b)(e:h.get? b=some o):¬Ex J ι' σ' b:=λ y=>by
 rcases y with y | y
 ·exact hb (.inl y)
 ·exact a.off (λ q=>hb (.inr q)) e y
theorem Evo.kpx{b:Addr}{o:Obj}(a:Evo ι σ h ι' σ' h')(hb:¬Ex J ι σ b)(e:h.get? b=some o):h'.get? b=some o:=a.kp b o (λ q=>hb (.inr q)) e
structure Mv(J:Addr->Prop)(ι:Loc)(σ:aa)(h:Heap)(J':Addr->Prop)(ι':Loc)(σ':aa)(h':Heap):Prop where
 kp:∀b o,¬Ex J ι σ b->h.get? b=some o->h'.get? b=some o
 ex:∀b o,¬Ex J ι σ b->h.get? b=some o->¬Ex J' ι' σ' b
 at':∀l,l<σ.length->ι' l=ι l/\l<σ'.length
theorem Evo.mv(e:Evo ι σ h ι' σ' h'):Mv J ι σ h J ι' σ' h':=⟨λ b o hb ho=>e.kpx hb ho,λ _ _ hb ho=>e.ex hb ho,λ l hl=>⟨e.ag l hl,Nat.lt_of_lt_of_le hl e.len⟩⟩
theorem RD.mv{J':Addr->Prop}{x:PyData}(r:RD (Ex J ι σ) h v x)(m:Mv J ι σ h J' ι' σ' h'):RD (Ex J' ι' σ') h' v x:=r.keeps m.kp m.ex
theorem RD.evo{x:PyData}(r:RD (Ex J ι σ) h v x)(e:Evo ι σ h ι' σ' h'):RD (Ex J ι' σ') h' v x:=r.mv e.mv
end
end Mine.Internal
namespace Mine.Internal
open PySem PyProof.Rows
noncomputable abbrev Ris(xs:Array Nat):Prop:=xs.toList.Pairwise (·<·)
noncomputable def FT:Bool:=w.params.followText "set-order"
structure TB(t:SetTable):Prop where
 ris:Ris t.place
 led:t.led=!FT
structure EL(es:Array (Int×Value))(xs:List Int):Prop where
 el:∀e∈es.toList,∃i tk,e=(hashInt i,.int i tk)
 mem:∀i,i∈xs↔∃e∈es.toList,∃tk,e.2=.int i tk
 le:es.size<=xs.length
inductive eD(w:World)(h:Heap)(a:Addr)(xs:List Int):Prop
 |mk (o:Obj) (es:Array (Int×Value)) (ep:Nat) (t:SetTable) (q1:h.get? a=some o) (q2:o.ExactSet) (q3:o.data=.set es ep t) (q4:EL es xs) (q7:xs.length<=4000) (q8:t.fits es.size=true) (q9:TB t)
theorem eD.got{h:Heap}{a:Addr}{xs:List Int}(x:eD w h a xs):∃o,h.get? a=some o/\o.cls=.type "set":=by
 obtain⟨o,_,_,_,ho,hx⟩:=x;exact⟨o,ho,hx.1⟩
theorem eD.keeps{h h':Heap}{a:Addr}{xs:List Int}(x:eD w h a xs)(e:∀o,h.get? a=some o->h'.get? a=some o):eD w h' a xs:=by
 obtain⟨o,es,ep,t,ho,q2,q3,q4,q7,q8,q9⟩:=x;exact⟨o,es,ep,t,e o ho,q2,q3,q4,q7,q8,q9⟩
noncomputable def s7{α β:Type}(R:α->β->Prop):Option α->Option β->Prop
 |none,none=>True
 |some v,some x=>R v x
 |_,_=>False
theorem s7.mono{α β:Type}{R R':α->β->Prop}{a:Option α}{b:Option β}(h:s7 R a b)(k:∀v x,R v x->R' v x):s7 R' a b:=by
 cases a<;>cases b<;>first | exact h | exact k _ _ h
theorem s7.fL{α β:Type}{R:α->β->Prop}{a:Option α}{x:β}(h:s7 R a (some x)):∃v,a=some v/\R v x:=by
 cases a with
 |none=>exact False.elim h
 |some v=>exact⟨v,rfl,h⟩
theorem s7.isSome{α β:Type}{R:α->β->Prop}{a:Option α}{b:Option β}(h:s7 R a b):a.isSome=b.isSome:=by
 cases a<;>cases b<;>first | rfl | exact False.elim h
inductive FsR(w:World)(J:Addr->Prop)(ι:Loc)(σ:aa)(h:Heap)(v:Value)(xs:List Int):Prop
 |mk (a:Addr) (h1:v=.ref a) (h2:¬Ex J ι σ a) (h3:eD w h a xs)
noncomputable def VR(w:World)(J:Addr->Prop)(ι:Loc)(σ:aa)(h:Heap)(v:Value):V->Prop
 |.d x=>RD (Ex J ι σ) h v x
 |.fs xs=>FsR w J ι σ h v xs
 |.ty n=>v=.type n
 |.o l=>v=.ref (ι l).1/\l<σ.length
section
variable{J:Addr->Prop}{ι ι':Loc}{σ σ':aa}{h h':Heap}{v:Value}{x:V}
theorem VR.mv{J':Addr->Prop}(r:VR w J ι σ h v x)(e:Mv J ι σ h J' ι' σ' h'):VR w J' ι' σ' h' v x:=by
 cases x with
 |d x=>exact RD.mv r e
 |ty n=>exact r
 |o l=>exact⟨by rw[(e.at' l r.2).1];exact r.1,(e.at' l r.2).2⟩
 |fs xs=>
  obtain⟨a,h1,h2,h3⟩:=r;obtain⟨o,ho,_⟩:=h3.got;exact⟨a,h1,e.ex a o h2 ho,h3.keeps λ o ho=>e.kp a o h2 ho⟩
theorem VR.evo(r:VR w J ι σ h v x)(e:Evo ι σ h ι' σ' h'):VR w J ι' σ' h' v x:=r.mv e.mv
end
section
variable(prog:Program)(w:World)(hB:Heap)(C:Addr)
inductive Dl(J:Addr->Prop)(ι:Loc)(σ:aa)(h:Heap)(a:Addr)(xs:List V):Prop
 |mk (vs:List Value) (n:Nat) (q1:h.get? a=some (aP vs n)) (q2:vs.length<=BIG) (q3:aA (VR w J ι σ h) vs xs)
inductive DiR(J:Addr->Prop)(ι:Loc)(σ:aa)(h:Heap)(a:Addr)(kvs:List (Int×V)):Prop
 |mk (q0:kvs.length<=LIM/\a≠sysModules) (ps:List (Int×Value)) (q1:h.DictOf (intKind prog w) a ps) (q2:aA (λ p q=>p.1=q.1/\VR w J ι σ h p.2 q.2) ps kvs)
inductive DtR(J:Addr->Prop)(ι:Loc)(σ:aa)(h:Heap)(a:Addr)(kvs:List (List Int×V)):Prop
 |mk (q0:kvs.length<=LIM/\a≠sysModules) (ps:List (List Int×Addr×Value)) (q1:h.DictOfH (tupleKind (intKind prog w)) a ps) (q3:∀x∈ps,¬Ex J ι σ x.2.1) (q2:aA (λ p q=>p.1=q.1/\VR w J ι σ h p.2.2 q.2) ps kvs)
inductive Dm(J:Addr->Prop)(ι:Loc)(σ:aa)(h:Heap)(a da:Addr)(fs:List (Str×V)):Prop
 |mk (q0:fs.length<=1000) (mA:Str->Option Value) (q1:h.Inst a C mA) (q2:∀o,h.get? a=some o->o.dict=some da) (q3:∀n v,mA n=some v->n∈fs.map (·.1)) (q4:∀n,s7 (VR w J ι σ h) (mA n) (dG n fs))
noncomputable def NR(J:Addr->Prop)(ι:Loc)(σ:aa)(h:Heap)(a da:Addr):Nd->Prop
 |.lst xs=>Dl w J ι σ h a xs
 |.dcI kvs=>DiR prog w J ι σ h a kvs
 |.dcT kvs=>DtR prog w J ι σ h a kvs
 |.set xs=>eD w h a xs
 |.ins fs=>Dm w C J ι σ h a da fs
 |.frz x=>RD (Ex J ι σ) h (.ref a) x
structure SR(J:Addr->Prop)(ι:Loc)(σ:aa)(h:Heap):Prop where
 keep:∀b o,hB.get? b=some o->h.get? b=some o
 node:∀l n,σ[l]?=some n->NR prog w C J ι σ h (ι l).1 (ι l).2 n
 inj:∀l l' n n',σ[l]?=some n->n.live=true->σ[l']?=some n'->n'.live=true->
  ((ι l).1=(ι l').1\/(ι l).1=(ι l').2\/(ι l).2=(ι l').2)->l=l'
 off:∀l n,σ[l]?=some n->n.live=true->hB.get? (ι l).1=none/\hB.get? (ι l).2=none
 two:∀l n,σ[l]?=some n->n.mR=false->(ι l).2=(ι l).1
 jo:∀b,J b->¬Own ι σ b/\hB.get? b=none/\∃o,h.get? b=some o
end
end Mine.Internal
end
section
namespace Mine.Internal
open PySem PyProof.Rows
section
variable{J:Addr->Prop}{ι ι':Loc}{σ σ':aa}{h h':Heap}{v:Value}{x:V}{n n':Nd}{a da:Addr}{l:Nat}
theorem Own.of(hn:σ[l]?=some n)(hl:n.live=true):Own ι σ (ι l).1/\Own ι σ (ι l).2:=⟨⟨l,n,hn,hl,.inl rfl⟩,⟨l,n,hn,hl,.inr rfl⟩⟩
theorem w3{K:Type}[DecidableEq K]{knd:KeyKind prog w K}{f:K->Option Value}(x:h.MapOf knd a f)(e:∀o,h.get? a=some o->h'.get? a=some o):h'.MapOf knd a f:=
 (by obtain⟨o,es,ep,ho,r⟩:=x;exact⟨o,es,ep,e o ho,r⟩)
theorem lZ{K:Type}[DecidableEq K]{knd:KeyKind prog w K}{ps:List (K×Value)}(x:h.DictOf knd a ps)(e:∀o,h.get? a=some o->h'.get? a=some o):h'.DictOf knd a ps:=
 (by obtain⟨o,es,ep,ho,r⟩:=x;exact⟨o,es,ep,e o ho,r⟩)
theorem kA{xs:List (List Int×Addr×Value)}(x:h.DictOfH (tupleKind (intKind prog w)) a xs)(e:∀o,h.get? a=some o->h'.get? a=some o)
  (ek:∀y∈xs,∀o,h.get? y.2.1=some o->h'.get? y.2.1=some o):h'.DictOfH (tupleKind (intKind prog w)) a xs:=by
 refine bC λ k9=>?_;obtain⟨o,es,ep,ho,h1,h2,h3,h4,h5⟩:=x;refine k9 ?_;refine⟨o,es,ep,e o ho,h1,h2,h3,λ y hy=>?_,h5⟩;refine bC λ k9=>?_;obtain⟨ob,items,m,q,r⟩:=h4 y hy;refine k9 ?_;exact⟨ob,items,m,ek y hy ob q,r⟩
theorem rr{m:Str->Option Value}(x:h.Ns1 a m)(e:∀o,h.get? a=some o->h'.get? a=some o):h'.Ns1 a m:=by
 obtain⟨o,es,ep,ho,r⟩:=x;exact⟨o,es,ep,e o ho,r⟩
theorem pD{mA:Str->Option Value}(x:h.Inst a C mA)(hd:∀o,h.get? a=some o->o.dict=some da)(e:∀o,h.get? a=some o->h'.get? a=some o)
  (e2:∀o,h.get? da=some o->h'.get? da=some o):h'.Inst a C mA:=by
 refine bC λ k9=>?_;obtain⟨o,ho,h1,h2,h3⟩:=x;refine k9 ?_;refine⟨o,e o ho,h1,h2,?_⟩;rcases h3 with ⟨q,_⟩ | ⟨d,q,q2,q3⟩
 ·rw[hd o ho] at q;cases q
 ·obtain rfl:da=d:=Option.some.inj ((hd o ho).symm.trans q);exact .inr ⟨da,q,q2,rr q3 e2⟩
theorem NR.mv{J':Addr->Prop}(r:NR prog w C J ι σ h a da n)(e:Mv J ι σ h J' ι' σ' h')(h1:n.live=true->∀o,h.get? a=some o->h'.get? a=some o)(h2:n.live=true->∀o,h.get? da=some o->h'.get? da=some o):NR prog w C J' ι' σ' h' a da n:=by
 cases n with
 |lst xs=>
  obtain⟨vs,m,q1,q2,q3⟩:=r;exact⟨vs,m,h1 rfl _ q1,q2,q3.mono λ v x r=>r.mv e⟩
 |dcI kvs=>
  obtain⟨q0,ps,q1,q2⟩:=r;exact⟨q0,ps,lZ q1 (h1 rfl),q2.mono λ p q r=>⟨r.1,r.2.mv e⟩⟩
 |dcT kvs=>
  obtain⟨q0,ps,q1,q3,q2⟩:=r;refine⟨q0,ps,kA q1 (h1 rfl) (λ y hy o ho=>e.kp _ o (q3 y hy) ho),λ y hy=>?_,q2.mono λ p q r=>⟨r.1,r.2.mv e⟩⟩;refine bC λ k9=>?_;obtain⟨o,es,ep,ho,k1,k2,k3,k4,k5⟩:=q1;obtain⟨ob,items,m,q,r⟩:=k4 y hy;refine k9 ?_;exact e.ex _ ob (q3 y hy) q
 |set xs=>exact eD.keeps r (h1 rfl)
 |ins fs=>
  obtain⟨q0,mA,q1,q2,q3,q4⟩:=r;refine⟨q0,mA,pD q1 q2 (h1 rfl) (h2 rfl),λ o ho=>?_,q3,λ m=>(q4 m).mono λ v x r=>r.mv e⟩;obtain⟨o',ho',_⟩:=q1;obtain rfl:o'=o:=Option.some.inj ((h1 rfl o' ho').symm.trans ho);exact q2 o' ho'
 |frz x=>exact RD.mv r e
theorem NR.evo(r:NR prog w C J ι σ h a da n)(e:Evo ι σ h ι' σ' h')(h1:∀o,h.get? a=some o->h'.get? a=some o)(h2:∀o,h.get? da=some o->h'.get? da=some o):NR prog w C J ι' σ' h' a da n:=r.mv e.mv (λ _=>h1) (λ _=>h2)
theorem RD.mH{X:Addr->Prop}{x:PyData}(r:RD X h (.ref a) x):∃o,h.get? a=some o/\¬X a:=by
 cases r with
 |list h1 h2=>exact⟨_,h1,h2⟩
 |tuple h1 h2=>exact⟨_,h1,h2⟩
theorem NR.got(r:NR prog w C J ι σ h a da n):∃o,h.get? a=some o:=by
 cases n with
 |lst xs=>obtain⟨vs,m,q1,_⟩:=r;exact⟨_,q1⟩
 |dcI kvs=>
  refine bC λ k9=>?_;obtain⟨_,ps,⟨o,_,_,q,_⟩,_⟩:=r;refine k9 ?_;exact⟨o,q⟩
 |dcT kvs=>
  obtain⟨_,ps,⟨o,_,_,q,_⟩,_⟩:=r;exact⟨o,q⟩
 |set xs=>obtain⟨o,q,_⟩:=eD.got r;exact⟨o,q⟩
 |ins fs=>obtain⟨_,mA,⟨o,q,_⟩,_⟩:=r;exact⟨o,q⟩
 |frz x=>obtain⟨o,q,_⟩:=RD.mH r;exact⟨o,q⟩
theorem NR.AO(r:NR prog w C J ι σ h a da n)(hl:n.mR=false->da=a):∃o,h.get? da=some o:=by
 cases n with
 |ins fs=>
  refine bC λ k9=>?_;obtain⟨_,mA,⟨o,q,_,_,hd⟩,q2⟩:=r;refine k9 ?_;rcases hd with ⟨e,_⟩ | ⟨d,e,_,⟨o',_,_,ho',_⟩⟩
  ·cases(q2 o q).symm.trans e
  ·obtain rfl:da=d:=Option.some.inj ((q2 o q).symm.trans e);exact⟨o',ho'⟩
 |_=>rw[hl rfl];exact NR.got r
end
section
variable{J:Addr->Prop}{ι ι':Loc}{σ σ':aa}{h h':Heap}{v:Value}{x:V}{n n':Nd}{a da:Addr}{l:Nat}
noncomputable def Loc.add(ι:Loc)(σ:aa)(a da:Addr):Loc:=λ l=>if l=σ.length then(a,da) else ι l
theorem Evo.aM(hk:∀b o,h.get? b=some o->h'.get? b=some o):Evo ι σ h ι σ h':=⟨Nat.le_refl _,λ _ _=>rfl,λ _ x=>.inl x,λ b o _ e=>hk b o e⟩
theorem SR.aM(S:SR prog w hB C J ι σ h)(hk:∀b o,h.get? b=some o->h'.get? b=some o):SR prog w hB C J ι σ h':=
 ⟨λ b o e=>hk b o (S.keep b o e),λ l n e=>(S.node l n e).evo (Evo.aM hk) (λ o ho=>hk _ o ho) (λ o ho=>hk _ o ho),S.inj,S.off,S.two,λ b hb=>(by obtain⟨h1,h2,o,h3⟩:=S.jo b hb;exact⟨h1,h2,o,hk b o h3⟩)⟩
theorem top_lt(h:l<(σ++[n]).length):l<σ.length+1:=by rw[List.length_append] at h;exact h
theorem j4{b:Addr}(o:Own (ι.add σ a da) (σ++[n]) b):Own ι σ b\/(n.live=true/\(b=a\/b=da)):=by
 refine bC λ k9=>?_;obtain⟨l,m,e,hl,hb⟩:=o;refine k9 ?_;refine Classical.byCases (p:=l<σ.length) (λ q=>?_) (λ q=>?_)
 ·rw[List.getElem?_append_left q] at e;rw[show(ι.add σ a da) l=ι l from if_neg (Nat.ne_of_lt q)] at hb;exact .inl ⟨l,m,e,hl,hb⟩
 ·have q2:l=σ.length:=by
   exact Nat.le_antisymm (Nat.le_of_lt_succ (top_lt (List.getElem?_eq_some_iff.mp e).1)) (Nat.le_of_not_lt q)
  subst q2;cases(List.getElem?_concat_length).symm.trans e;rw[show(ι.add σ a da) σ.length=(a,da) from if_pos rfl] at hb;exact .inr ⟨hl,hb⟩
theorem Evo.grow(ha:h.get? a=none)(hd:h.get? da=none)(hk:∀b o,h.get? b=some o->h'.get? b=some o):Evo ι σ h (ι.add σ a da) (σ++[n]) h' where
 len:=List.length_append (as:=σ) (bs:=[n])▸Nat.le_succ _
 ag:=λ l hl=>if_neg (Nat.ne_of_lt hl)
 own:=λ b o=>by
  rcases j4 o with o | ⟨_,rfl | rfl⟩
  ·exact .inl o
  ·exact .inr ha
  ·exact .inr hd
 kp:=λ b o _ e=>hk b o e
end
section
namespace SR_grow_e
noncomputable section
def P(J:Addr->Prop)(ι:Loc)(σ:aa)(h:Heap)(h':Heap)(n:Nd)(a:Addr)(da:Addr):Prop:=∀(S:SR prog w hB C J ι σ h) (ha:h.get? a=none) (hd:h.get? da=none) (hk:∀b o,h.get? b=some o->h'.get? b=some o) (hn:NR prog w C J (ι.add σ a da) (σ++[n]) h' a da n) (h2:n.mR=false->da=a),SR prog w hB C J (ι.add σ a da) (σ++[n]) h'
def x:(Addr->Prop)×(Loc)×(aa)×(Heap)×(Heap)×(Nd)×(Addr)×(Addr):=@Classical.epsilon _ ⟨(default,default,default,default,default,.set [],default,default)⟩ λ x=>¬P x.1 x.2.1 x.2.2.1 x.2.2.2.1 x.2.2.2.2.1 x.2.2.2.2.2.1 x.2.2.2.2.2.2.1 x.2.2.2.2.2.2.2
def J:Addr->Prop:=x.1
def ι:Loc:=x.2.1
def σ:aa:=x.2.2.1
def h:Heap:=x.2.2.2.1
def h':Heap:=x.2.2.2.2.1
def n:Nd:=x.2.2.2.2.2.1
def a:Addr:=x.2.2.2.2.2.2.1
def da:Addr:=x.2.2.2.2.2.2.2
theorem core:P J ι σ h h' n a da:=λ S ha hd hk hn h2=>by
 have e:Evo ι σ h (ι.add σ a da) (σ++[n]) h':=Evo.grow ha hd hk;have hg:∀l m,σ[l]?=some m->m.live=true->(∃o,h.get? (ι l).1=some o)/\(∃o,h.get? (ι l).2=some o):=λ l m q1 q2=>⟨(S.node l m q1).got,(S.node l m q1).AO (S.two l m q1)⟩;have hi:∀l,l<σ.length->(ι.add σ a da) l=ι l:=λ l hl=>e.ag l hl;have ht:(ι.add σ a da) σ.length=(a,da):=if_pos rfl;have cs:∀l m,(σ++[n])[l]?=some m->(l<σ.length/\σ[l]?=some m)\/(l=σ.length/\m=n):=λ l m q=>by
  refine Classical.byCases (p:=l<σ.length) (λ k=>?_) (λ k=>?_)
  ·rw[List.getElem?_append_left k] at q;exact .inl ⟨k,q⟩
  ·have q2:l=σ.length:=Nat.le_antisymm (Nat.le_of_lt_succ (top_lt (List.getElem?_eq_some_iff.mp q).1)) (Nat.le_of_not_lt k);subst q2;cases(List.getElem?_concat_length).symm.trans q;exact .inr ⟨rfl,rfl⟩
 refine⟨λ b o q=>hk b o (S.keep b o q),λ l m q=>?_,λ l l' m m' q1 q2 q3 q4 q5=>?_,λ l m q1 q2=>?_,λ l m q1 q2=>?_,λ b hb=>?_⟩
 ·rcases cs l m q with ⟨k,q⟩ | ⟨rfl,rfl⟩
  ·rw[hi l k];exact(S.node l m q).evo e (λ o ho=>hk _ o ho) (λ o ho=>hk _ o ho)
  ·rw[ht];exact hn
 ·rcases cs l m q1 with ⟨k,q1'⟩ | ⟨rfl,rfl⟩<;>rcases cs l' m' q3 with ⟨k',q3'⟩ | ⟨rfl,rfl⟩
  ·rw[hi l k,hi l' k'] at q5;exact S.inj l l' m m' q1' q2 q3' q4 q5
  ·exfalso;rw[hi l k,ht] at q5;obtain⟨⟨o1,g1⟩,⟨o2,g2⟩⟩:=hg l m q1' q2;rcases q5 with q | q | q<;>dsimp only at q
   ·rw[q,ha] at g1;cases g1
   ·rw[q,hd] at g1;cases g1
   ·rw[q,hd] at g2;cases g2
  ·exfalso;rw[ht,hi l' k'] at q5;obtain⟨⟨o1,g1⟩,⟨o2,g2⟩⟩:=hg l' m' q3' q4;rcases q5 with q | q | q<;>dsimp only at q
   ·rw[<-q,ha] at g1;cases g1
   ·rw[<-q,ha] at g2;cases g2
   ·rw[<-q,hd] at g2;cases g2
  ·rfl
 ·rcases cs l m q1 with ⟨k,q1⟩ | ⟨rfl,rfl⟩
  ·rw[hi l k];exact S.off l m q1 q2
  ·rw[ht];refine⟨?_,?_⟩
   ·cases e:hB.get? a with
    |none=>rfl
    |some o=>rw[S.keep _ _ e] at ha;cases ha
   ·cases e:hB.get? da with
    |none=>rfl
    |some o=>rw[S.keep _ _ e] at hd;cases hd
 ·rcases cs l m q1 with ⟨k,q1⟩ | ⟨rfl,rfl⟩
  ·rw[hi l k];exact S.two l m q1 q2
  ·rw[ht];exact h2 q2
 ·obtain⟨h1,h2,o,h3⟩:=S.jo b hb;refine⟨λ q=>?_,h2,o,hk b o h3⟩;rcases e.own b q with q | q
  ·exact h1 q
  ·rw[h3] at q;first | exact no q | exact nob q | cases q
end
end SR_grow_e
variable{J:Addr->Prop}{ι ι':Loc}{σ σ':aa}{h h':Heap}{v:Value}{x:V}{n n':Nd}{a da:Addr}{l:Nat}
theorem SR.grow(S:SR prog w hB C J ι σ h)(ha:h.get? a=none)(hd:h.get? da=none)(hk:∀b o,h.get? b=some o->h'.get? b=some o)
  (hn:NR prog w C J (ι.add σ a da) (σ++[n]) h' a da n) (h2:n.mR=false->da=a):SR prog w hB C J (ι.add σ a da) (σ++[n]) h':=aw (Q:=λ x:(Addr->Prop)×(Loc)×(aa)×(Heap)×(Heap)×(Nd)×(Addr)×(Addr)=>SR_grow_e.P x.1 x.2.1 x.2.2.1 x.2.2.2.1 x.2.2.2.2.1 x.2.2.2.2.2.1 x.2.2.2.2.2.2.1 x.2.2.2.2.2.2.2) SR_grow_e.core (J,ι,σ,h,h',n,a,da) S ha hd hk hn h2
theorem rf{b:Addr}(hl:σ[l]?=some n)(hv:n.live=true)(o:Own ι (σ.set l n') b):Own ι σ b:=by
 obtain⟨k,m,e,q,hb⟩:=o;refine Classical.byCases (p:=l=k) (λ hk=>?_) (λ hk=>?_)
 ·subst hk;exact⟨l,n,hl,hv,hb⟩
 ·exact⟨k,m,(List.getElem?_set_ne hk).symm.trans e,q,hb⟩
theorem Evo.set(hl:σ[l]?=some n)(hv:n.live=true)(hk:∀b o,b≠(ι l).1->b≠(ι l).2->h.get? b=some o->h'.get? b=some o):Evo ι σ h ι (σ.set l n') h' where
 len:=Nat.le_of_eq List.length_set.symm
 ag:=λ _ _=>rfl
 own:=λ b o=>.inl (rf hl hv o)
 kp:=λ b o hb e=>hk b o (λ q=>hb (q▸(Own.of hl hv).1)) (λ q=>hb (q▸(Own.of hl hv).2)) e
end
section
namespace SR_set_e
noncomputable section
def P(J:Addr->Prop)(ι:Loc)(σ:aa)(h:Heap)(h':Heap)(n:Nd)(n':Nd)(l:Nat):Prop:=∀(S:SR prog w hB C J ι σ h) (hl:σ[l]?=some n) (hv:n.live=true) (hk:∀b o,b≠(ι l).1->b≠(ι l).2->h.get? b=some o->h'.get? b=some o) (hn:NR prog w C J ι (σ.set l n') h' (ι l).1 (ι l).2 n') (h2:n'.mR=false->(ι l).2=(ι l).1),SR prog w hB C J ι (σ.set l n') h'
def x:(Addr->Prop)×(Loc)×(aa)×(Heap)×(Heap)×(Nd)×(Nd)×(Nat):=@Classical.epsilon _ ⟨(default,default,default,default,default,.set [],.set [],default)⟩ λ x=>¬P x.1 x.2.1 x.2.2.1 x.2.2.2.1 x.2.2.2.2.1 x.2.2.2.2.2.1 x.2.2.2.2.2.2.1 x.2.2.2.2.2.2.2
def J:Addr->Prop:=x.1
def ι:Loc:=x.2.1
def σ:aa:=x.2.2.1
def h:Heap:=x.2.2.2.1
def h':Heap:=x.2.2.2.2.1
def n:Nd:=x.2.2.2.2.2.1
def n':Nd:=x.2.2.2.2.2.2.1
def l:Nat:=x.2.2.2.2.2.2.2
theorem core:P J ι σ h h' n n' l:=λ S hl hv hk hn h2=>by
 have e:Evo ι σ h ι (σ.set l n') h':=Evo.set hl hv hk;have lt:l<σ.length:=(List.getElem?_eq_some_iff.mp hl).1;have cs:∀k m,(σ.set l n')[k]?=some m->(k=l/\m=n')\/(k≠l/\σ[k]?=some m):=λ k m q=>by
  refine Classical.byCases (p:=l=k) (λ hk=>?_) (λ hk=>?_)
  ·subst hk;cases(List.getElem?_set_self lt).symm.trans q;exact .inl ⟨rfl,rfl⟩
  ·exact .inr ⟨λ x=>hk x.symm,(List.getElem?_set_ne hk).symm.trans q⟩
 have lv:∀(k:Nat) (m:Nd),(σ.set l n')[k]?=some m->m.live=true->∃m₀:Nd,σ[k]?=some m₀/\m₀.live=true:=λ k m q1 q2=>by
  rcases cs k m q1 with ⟨rfl,rfl⟩ | ⟨_,q⟩
  ·exact⟨n,hl,hv⟩
  ·exact⟨m,q,q2⟩
 refine⟨λ b o q=>?_,λ k m q=>?_,λ k k' m m' q1 q2 q3 q4 q5=>?_,λ k m q1 q2=>?_,λ k m q1 q2=>?_,λ b hb=>?_⟩
 ·obtain⟨h1,h2⟩:=S.off l n hl hv;refine hk b o (λ x=>?_) (λ x=>?_) (S.keep b o q)
  ·rw[x,h1] at q;cases q
  ·rw[x,h2] at q;cases q
 ·rcases cs k m q with ⟨rfl,rfl⟩ | ⟨kne,q⟩
  ·exact hn
  ·refine Classical.byCases (p:=m.live=true) (λ hm=>?_) (λ hm=>?_)
   ·have ne:(ι k).1≠(ι l).1/\(ι k).1≠(ι l).2/\(ι k).2≠(ι l).1/\(ι k).2≠(ι l).2:=
     ⟨λ x=>kne (S.inj k l m n q hm hl hv (.inl x)),λ x=>kne (S.inj k l m n q hm hl hv (.inr (.inl x))),λ x=>kne (S.inj l k n m hl hv q hm (.inr (.inl x.symm))).symm,λ x=>kne (S.inj k l m n q hm hl hv (.inr (.inr x)))⟩
    exact(S.node k m q).evo e (λ o ho=>hk _ o ne.1 ne.2.1 ho) (λ o ho=>hk _ o ne.2.2.1 ne.2.2.2 ho)
   ·have:=S.node k m q;cases m with
    |frz d=>exact RD.evo this e
    |_=>exact absurd rfl hm
 ·obtain⟨m₀,a1,a2⟩:=lv k m q1 q2;obtain⟨m₁,b1,b2⟩:=lv k' m' q3 q4;exact S.inj k k' m₀ m₁ a1 a2 b1 b2 q5
 ·obtain⟨m₀,a1,a2⟩:=lv k m q1 q2;exact S.off k m₀ a1 a2
 ·rcases cs k m q1 with ⟨rfl,rfl⟩ | ⟨_,q⟩
  ·exact h2 q2
  ·exact S.two k m q q2
 ·obtain⟨h1,h2,o,h3⟩:=S.jo b hb;exact⟨λ q=>h1 (rf hl hv q),h2,o,e.kp b o h1 h3⟩
end
end SR_set_e
variable{J:Addr->Prop}{ι ι':Loc}{σ σ':aa}{h h':Heap}{v:Value}{x:V}{n n':Nd}{a da:Addr}{l:Nat}
theorem SR.set(S:SR prog w hB C J ι σ h)(hl:σ[l]?=some n)(hv:n.live=true)(hk:∀b o,b≠(ι l).1->b≠(ι l).2->h.get? b=some o->h'.get? b=some o)
  (hn:NR prog w C J ι (σ.set l n') h' (ι l).1 (ι l).2 n') (h2:n'.mR=false->(ι l).2=(ι l).1):SR prog w hB C J ι (σ.set l n') h':=aw (Q:=λ x:(Addr->Prop)×(Loc)×(aa)×(Heap)×(Heap)×(Nd)×(Nd)×(Nat)=>SR_set_e.P x.1 x.2.1 x.2.2.1 x.2.2.2.1 x.2.2.2.2.1 x.2.2.2.2.2.1 x.2.2.2.2.2.2.1 x.2.2.2.2.2.2.2) SR_set_e.core (J,ι,σ,h,h',n,n',l) S hl hv hk hn h2
end
end Mine.Internal
end
section
namespace Mine.Internal
open PySem PyProof.Rows
section
variable{J:Addr->Prop}{ι ι':Loc}{σ σ':aa}{h h':Heap}{v:Value}{x:V}{n n':Nd}{a da:Addr}{l:Nat}
theorem fM{d:PyData}{k:Nat}{m:Nd}(e:(σ.set l (.frz d))[k]?=some m)(q:m.live=true):k≠l/\σ[k]?=some m:=by
 refine Classical.byCases (p:=l=k) (λ hk=>?_) (λ hk=>?_)
 ·subst hk;refine Classical.byCases (p:=l<σ.length) (λ hl=>?_) (λ hl=>?_)
  ·cases(List.getElem?_set_self hl).symm.trans e;exact nob q
  ·rw[List.set_eq_of_length_le (Nat.le_of_not_lt hl)] at e;exact absurd (List.getElem?_eq_some_iff.mp e).1 hl
 ·exact⟨λ x=>hk x.symm,(List.getElem?_set_ne hk).symm.trans e⟩
inductive Dj(ι:Loc)(σ:aa)(l:Nat)(b:Addr):Prop
 |mk (k:Nat) (n:Nd) (hk:k≠l) (e:σ[k]?=some n) (q:n.live=true) (hb:b=(ι k).1\/b=(ι k).2)
theorem rj{b:Addr}{d:PyData}(o:Own ι (σ.set l (.frz d)) b):Dj ι σ l b:=by
 obtain⟨k,m,e,q,hb⟩:=o;exact⟨k,m,(fM e q).1,(fM e q).2,q,hb⟩
theorem nO{b:Addr}{d:PyData}(o:Own ι (σ.set l (.frz d)) b):Own ι σ b:=by
 obtain⟨k,m,_,e,q,hb⟩:=rj o;exact⟨k,m,e,q,hb⟩
theorem Evo.frz{d:PyData}:Evo ι σ h ι (σ.set l (.frz d)) h:=⟨Nat.le_of_eq List.length_set.symm,λ _ _=>rfl,λ b o=>.inl (nO o),λ _ _ _ e=>e⟩
theorem SR.frz{d:PyData}(S:SR prog w hB C J ι σ h)(hl:l<σ.length)(r:RD (Ex J ι (σ.set l (.frz d))) h (.ref (ι l).1) d)(h2:(ι l).2=(ι l).1):SR prog w hB C J ι (σ.set l (.frz d)) h:=by
 have cs:∀(k:Nat) (m:Nd),(σ.set l (.frz d))[k]?=some m->(k=l/\m=.frz d)\/σ[k]?=some m:=λ k m q=>by
  refine Classical.byCases (p:=l=k) (λ hk=>?_) (λ hk=>?_)
  ·subst hk;cases(List.getElem?_set_self hl).symm.trans q;exact .inl ⟨rfl,rfl⟩
  ·exact .inr ((List.getElem?_set_ne hk).symm.trans q)
 refine⟨S.keep,λ k m q=>?_,λ k k' m m' q1 q2 q3 q4 q5=>S.inj k k' m m' (fM q1 q2).2 q2 (fM q3 q4).2 q4 q5,λ k m q1 q2=>S.off k m (fM q1 q2).2 q2,λ k m q1 q2=>?_,λ b hb=>?_⟩
 ·rcases cs k m q with ⟨rfl,rfl⟩ | q
  ·exact r
  ·exact(S.node k m q).evo Evo.frz (λ _ ho=>ho) (λ _ ho=>ho)
 ·rcases cs k m q1 with ⟨rfl,rfl⟩ | q1
  ·exact h2
  ·exact S.two k m q1 q2
 ·obtain⟨h1,h2,o,h3⟩:=S.jo b hb;exact⟨λ q=>h1 (nO q),h2,o,h3⟩
noncomputable def Shp(σ σ':aa):Prop:=∀(k:Nat) (m:Nd),σ'[k]?=some m->m.live=true->σ[k]?=some m
inductive FzR(ι:Loc)(J:Addr->Prop)(h:Heap)(σ:aa)(v:Value)(d:PyData)(σ':aa):Prop
 |mk (S:SR prog w hB C J ι σ' h) (E:Evo ι σ h ι σ' h) (R:RD (Ex J ι σ') h v d)
noncomputable def FzO(n:Nat)(J:Addr->Prop)(ι:Loc)(h:Heap):Prop:=∀(σ:aa) (x:V) (d:PyData) (σ':aa),Mine.Internal.frz n σ x=some (d,σ')->Shp σ σ'/\∀v,SR prog w hB C J ι σ h->VR w J ι σ h v x->FzR ι J h σ v d σ'
noncomputable def FzL(n:Nat)(J:Addr->Prop)(ι:Loc)(h:Heap):Prop:=∀(xs:List V) (σ:aa) (ds:List PyData) (σ':aa),Mine.Internal.B7 n σ xs=some (ds,σ')->Shp σ σ'/\∀vs,SR prog w hB C J ι σ h->aA (VR w J ι σ h) vs xs->SR prog w hB C J ι σ' h/\Evo ι σ h ι σ' h/\aA (RD (Ex J ι σ') h) vs ds
theorem um{n:Nat}(one:FzO n J ι h):FzL n J ι h:=by
 intro xs
 induction xs with
 |nil=>
  intro σ ds σ' e;cases e;exact⟨λ _ _ q _=>q,λ vs S r=>⟨S,Evo.refl,by rw[r.bu];exact aA.nil⟩⟩
 |cons x xs ih=>
  intro σ ds σ' e;refine bC λ k9=>?_;obtain⟨d,σ₁,e1,e⟩:=bd2 e;obtain⟨ds',σ₂,e2,e⟩:=bd2 e;cases e;obtain⟨a1,b1⟩:=one σ x d σ₁ e1;obtain⟨a2,b2⟩:=ih σ₁ ds' _ e2;refine k9 ?_;refine⟨λ k m q r=>a1 k m (a2 k m q r) r,λ vs S r=>?_⟩;refine bC λ k9=>?_;obtain⟨v,ws,rfl,rv,rs⟩:=r.cons_right;obtain⟨S1,E1,R1⟩:=b1 v S rv;obtain⟨S2,E2,R2⟩:=b2 ws S1 (rs.mono λ v x r=>r.evo E1);refine k9 ?_;exact⟨S2,E1.trans E2,aA.cons (R1.evo E2) R2⟩
end
section
namespace fz_ok_e
noncomputable section
def P(J:Addr->Prop)(ι:Loc)(h:Heap)(n:Nat):Prop:=FzO n J ι h
def x:(Addr->Prop)×(Loc)×(Heap)×(Nat):=@Classical.epsilon _ ⟨(default,default,default,default)⟩ λ x=>¬P x.1 x.2.1 x.2.2.1 x.2.2.2
def J:Addr->Prop:=x.1
def ι:Loc:=x.2.1
def h:Heap:=x.2.2.1
def n:Nat:=x.2.2.2
theorem core:P J ι h n:=by
 induction n with
 |zero=>
  intro σ x d σ' e;cases x with
  |d y=>cases e;exact⟨λ _ _ q _=>q,λ v S r=>⟨S,Evo.refl,r⟩⟩
  |_=>first | exact no e | exact nob e | cases e
 |succ n ih=>
  intro σ x d σ' e;cases x with
  |d y=>cases e;exact⟨λ _ _ q _=>q,λ v S r=>⟨S,Evo.refl,r⟩⟩
  |o l=>
   have e:vz (Mine.Internal.frz n) l σ σ[l]?=some (d,σ'):=e;cases hy:σ[l]? with
   |none=>rw[hy] at e;first | exact no e | exact nob e | cases e
   |some nd=>
    rw[hy] at e;cases nd with
    |frz y=>cases e;exact⟨λ _ _ q _=>q,λ v S r=>⟨S,Evo.refl,r.1▸S.node l _ hy⟩⟩
    |lst xs=>
     obtain⟨ds,σ₁,e1,e⟩:=bd2 e;cases e;obtain⟨a1,b1⟩:=um ih xs σ ds σ₁ e1;refine⟨λ k m q r=>a1 k m (fM q r).2 r,λ v S r=>?_⟩;refine bC λ k9=>?_;obtain⟨rfl,hlt⟩:=r;obtain⟨vs,m,q1,q2,q3⟩:=S.node l _ hy;obtain⟨S1,E1,R1⟩:=b1 vs S q3;refine k9 ?_;have R2:RD (Ex J ι (σ₁.set l (.frz (.list ds)))) h (.ref (ι l).1) (.list ds):=RD.rM q1 (λ x=>x.elim (λ hj=>(S.jo _ hj).1 (Own.of hy rfl).1) λ o=>by
      obtain⟨k,m',hk,hm,hlv,hb⟩:=rj o;exact hk (S.inj l k _ _ hy rfl (a1 k m' hm hlv) hlv (hb.elim .inl λ q=>.inr (.inl q))).symm) q2 (R1.mono λ v x r=>r.evo Evo.frz)
     exact⟨S1.frz (Nat.lt_of_lt_of_le hlt E1.len) R2 (S.two l _ hy rfl),E1.trans Evo.frz,R2⟩
    |_=>first | exact no e | exact nob e | cases e
  |_=>first | exact no e | exact nob e | cases e
end
end fz_ok_e
variable{J:Addr->Prop}{ι ι':Loc}{σ σ':aa}{h h':Heap}{v:Value}{x:V}{n n':Nd}{a da:Addr}{l:Nat}
theorem Bm(n:Nat):FzO n J ι h:=aw (Q:=λ x:(Addr->Prop)×(Loc)×(Heap)×(Nat)=>fz_ok_e.P x.1 x.2.1 x.2.2.1 x.2.2.2) fz_ok_e.core (J,ι,h,n)
theorem fo(n:Nat){x:V}{d:PyData}(S:SR prog w hB C J ι σ h)(r:VR w J ι σ h v x)(e:Mine.Internal.frz n σ x=some (d,σ')):FzR ι J h σ v d σ':=(Bm n σ x d σ' e).2 v S r
end
end Mine.Internal
end
section
namespace Mine.Internal
open PySem PyProof.Rows
theorem GX.refl(g:Array GenState):GX g g:=⟨#[],Array.append_empty.symm,λ _ h=>absurd h (Array.not_mem_empty _)⟩
theorem GX.trans{g g' g'':Array GenState}(a:GX g g')(b:GX g' g''):GX g g'':=by
 obtain⟨e1,rfl,h1⟩:=a;obtain⟨e2,rfl,h2⟩:=b;refine⟨e1++e2,Array.append_assoc,λ x hx=>?_⟩;rcases Array.mem_append.mp hx with h | h
 ·exact h1 x h
 ·exact h2 x h
theorem Shr.refl(s:Shared):Shr s s:=⟨rfl,GX.refl _⟩
theorem Shr.trans{s s' s'':Shared}(a:Shr s s')(b:Shr s' s''):Shr s s'':=⟨b.1.trans a.1,a.2.trans b.2⟩
structure AOK(A:Around)(k:Nat):Prop where
 handled:A.handled=none
 depth:A.depth+2*k+10<recursionLimit
 units:A.units+40*k+400<cLine
structure aI(env:Env):Prop where
 kind:env.scope.kind=.function
 globals:env.globals=mainGlobals
 builtins:env.builtins=builtinsNs
noncomputable def kd(env:Env)(x:Str):Kd:=kdOf (env.kindOf x)
inductive KdI(env:Env)(x:Str):Kd->Prop
 |loc (h:env.kindOf x=some .local):KdI env x .loc
 |cel (h:env.kindOf x=some .cell):KdI env x .cel
 |fre (h:env.kindOf x=some .free):KdI env x .cel
 |glo (h:env.kindOf x=some .globalImplicit):KdI env x .glo
 |oth:KdI env x .oth
theorem kdI(env:Env)(x:Str):KdI env x (kd env x):=by
 unfold kd;cases q:env.kindOf x with
 |none=>exact .oth
 |some u=>cases u<;>first | exact .loc q | exact .cel q | exact .fre q | exact .glo q | exact .oth
noncomputable def kdM:Kd->Bool
 |.loc=>true
 |.cel=>true
 |_=>false
noncomputable def yh(a b:Option Value):Kd->Option Value
 |.loc=>a
 |.cel=>b
 |_=>none
noncomputable def iZ(env:Env)(x:Str):Bool:=!(x == (".0":Str)) && kdM (kd env x)
noncomputable def val(env:Env)(m cm:Str->Option Value)(x:Str):Option Value:=yh (m x) (cm x) (kd env x)
structure FR(J:Addr->Prop)(env:Env)(m cm:Str->Option Value)(h:Heap):Prop where
 ns:h.Ns env.locals m
 jL:J env.locals
 cell:∀n c,env.cells.lookup n=some c->h.IsCell c (cm n)/\J c/\c≠env.locals
 apart:∀n n' c,env.cells.lookup n=some c->env.cells.lookup n'=some c->n=n'
 has:∀n,(env.kindOf n=some .cell\/env.kindOf n=some .free)->(env.cells.lookup n).isSome=true
inductive Ds(w:World)(J:Addr->Prop)(ι:Loc)(σ:aa)(h:Heap)(u:Option Value)(x:V):Prop
 |mk (v:Value) (h1:u=some v) (h2:VR w J ι σ h v x)
noncomputable def ER(w:World)(J:Addr->Prop)(ι:Loc)(σ:aa)(env:Env)(m cm:Str->Option Value)(h:Heap)(ρ:ah):Prop:=
 ∀x v',ρ x=some v'->iZ env x=true->Ds w J ι σ h (val env m cm x) v'
section
variable{J:Addr->Prop}{ι ι':Loc}{σ σ':aa}{h h':Heap}{env:Env}{m cm:Str->Option Value}{ρ:ah}
theorem FR.evo(F:FR J env m cm h)(S:SR prog w hB C J ι σ h)(e:Evo ι σ h ι' σ' h'):FR J env m cm h' where
 ns:=(by obtain⟨o,es,ep,ho,r⟩:=F.ns;exact⟨o,es,ep,e.kp _ _ (S.jo _ F.jL).1 ho,r⟩)
 jL:=F.jL
 cell:=λ n c hc=>by
  refine bC λ k9=>?_;obtain⟨⟨o,ho,hd⟩,h2,h3⟩:=F.cell n c hc;refine k9 ?_;exact⟨⟨o,e.kp _ _ (S.jo _ h2).1 ho,hd⟩,h2,h3⟩
 apart:=F.apart
 has:=F.has
theorem ER.evo(R:ER w J ι σ env m cm h ρ)(e:Evo ι σ h ι' σ' h'):ER w J ι' σ' env m cm h' ρ:=λ x v' hx hm=>by
 obtain⟨v,h1,h2⟩:=R x v' hx hm;exact⟨v,h1,h2.evo e⟩
end
section
variable(prog:Program)(w:World)(hB:Heap)(C:Addr)(J:Addr->Prop)
structure Goes(s:Shared)(ι:Loc)(σ:aa)(s':Shared)(ι':Loc)(σ':aa):Prop where
 same:Shr s s'
 evo:Evo ι σ s.heap ι' σ' s'.heap
 sr:SR prog w hB C J ι' σ' s'.heap
end
section
variable{s s' s'':Shared}{J:Addr->Prop}{ι ι' ι'':Loc}{σ σ' σ'':aa}{x':V}{v:Value}
theorem Goes.refl(S:SR prog w hB C J ι σ s.heap):Goes prog w hB C J s ι σ s ι σ:=⟨⟨rfl,GX.refl _⟩,Evo.refl,S⟩
theorem Goes.trans(a:Goes prog w hB C J s ι σ s' ι' σ')(b:Goes prog w hB C J s' ι' σ' s'' ι'' σ''):Goes prog w hB C J s ι σ s'' ι'' σ'':=⟨a.same.trans b.same,a.evo.trans b.evo,b.sr⟩
theorem Goes.tok(S:SR prog w hB C J ι σ s.heap)(t:Nat):Goes prog w hB C J s ι σ { s with toks:=t } ι σ:=⟨⟨rfl,GX.refl _⟩,Evo.refl,S⟩
theorem Goes.more{h':Heap}{t:Nat}(S:SR prog w hB C J ι σ s.heap)(hk:∀b o,s.heap.get? b=some o->h'.get? b=some o):Goes prog w hB C J s ι σ { s with heap:=h',toks:=t } ι σ:=
 ⟨⟨rfl,GX.refl _⟩,Evo.aM hk,S.aM hk⟩
end
section
variable(prog:Program)(w:World)(hB:Heap)(C:Addr)(J:Addr->Prop)(A:Around)(env:Env)
noncomputable def EvS(e:Expr)(ρ:ah)(σ:aa)(x':V)(σ':aa):Prop:=
 ∀(ι:Loc) (s:Shared) (m cm:Str->Option Value) (Q:Value->Shared->Prop) (E:Value->Shared->Prop),FR J env m cm s.heap->ER w J ι σ env m cm s.heap ρ->SR prog w hB C J ι σ s.heap->
  (∀v s' ι',Goes prog w hB C J s ι σ s' ι' σ'->VR w J ι' σ' s'.heap v x'->Q v s')->wpAny (model prog w) A (eval e env) Q E s
noncomputable def TsS(e:Expr)(ρ:ah)(σ:aa)(b:Bool)(σ':aa):Prop:=
 ∀(ι:Loc) (s:Shared) (m cm:Str->Option Value) (Q:Bool->Shared->Prop) (E:Value->Shared->Prop),FR J env m cm s.heap->ER w J ι σ env m cm s.heap ρ->SR prog w hB C J ι σ s.heap->
  (∀s' ι',Goes prog w hB C J s ι σ s' ι' σ'->Q b s')->wpAny (model prog w) A (isTrue e env (eval e env)) Q E s
end
section
variable{J:Addr->Prop}{A:Around}{env:Env}
variable{ρ:ah}{σ σ₁ σ₂ σ':aa}{x':V}{pos:Pos}{k:Nat}
theorem xB:EvS prog w hB C J A env (.Constant .none k pos) ρ σ (.d .none) σ:=λ ι s m cm Q E F R S h=>λ _ _ _=>h .none s ι (Goes.refl S) RD.none
theorem mZ(b:Bool):EvS prog w hB C J A env (.Constant (.bool b) k pos) ρ σ (.d (.bool b)) σ:=λ ι s m cm Q E F R S h=>λ _ _ _=>h (.bool b) s ι (Goes.refl S) (RD.bool b)
theorem zP(i:Int):EvS prog w hB C J A env (.Constant (.int i) k pos) ρ σ (.d (.int i)) σ:=λ ι s m cm Q E F R S h=>λ _ _ _=>h (.int i s.toks) _ ι (Goes.tok S _) (RD.int i _)
theorem vD(x:Str)(hx:PyData.strOk x=true):EvS prog w hB C J A env (.Constant (.str x) k pos) ρ σ (.d (.str x)) σ:=
 λ ι s m cm Q E F R S h=>λ _ _ _=>h (.str x s.toks) _ ι (Goes.tok S _) (RD.str x _ hx)
theorem lY{ι:Loc}{s:Shared}{v:Value}{x:V}(S:SR prog w hB C J ι σ s.heap)(r:VR w J ι σ s.heap v x):VR w J ι σ s.heap v (dr σ x):=by
 cases x with
 |o l=>
  show VR w J ι σ s.heap v (drN l σ[l]?);cases hl:σ[l]? with
  |none=>exact r
  |some nd=>
   cases nd with
   |frz y=>rw[r.1];exact S.node l _ hl
   |_=>exact r
 |_=>exact r
theorem rN{s:Shared}{m cm:Str->Option Value}{x:Str}{v:Value}{Q:Value->Shared->Prop}{E:Value->Shared->Prop}(hE:aI env)(F:FR J env m cm s.heap)
  (hm:iZ env x=true) (hv:val env m cm x=some v) (hx:(x == ("__classdict__":Str))=false) (h:Q v s):wpAny (model prog w) A (loadName env x) Q E s:=by
 unfold val at hv;have K:=kdI env x;generalize kd env x=κ at K hv;cases K with
 |loc hl=>exact wpAny_loadName_local hE.kind hl F.ns hv h
 |cel hl=>
  obtain⟨c,hc⟩:=Option.isSome_iff_exists.mp (F.has x (.inl hl));exact wpAny_loadName_cell hE.kind hl hc (hv▸(F.cell x c hc).1) h
 |fre hl=>
  obtain⟨c,hc⟩:=Option.isSome_iff_exists.mp (F.has x (.inr hl));exact wpAny_loadName_free hE.kind hl hc (hv▸(F.cell x c hc).1) h hx
 |_=>exact no hv
theorem zM{x:Str}{v':V}(hE:aI env)(hm:iZ env x=true)(hx:(x == ("__classdict__":Str))=false)(hd:(x == ("__debug__":Str))=false)(hρ:ρ x=some v') :
  EvS prog w hB C J A env (.Name x pos) ρ σ (dr σ v') σ:=λ ι s m cm Q E F R S h=>by
 obtain⟨v,h1,h2⟩:=R x v' hρ hm;exact wpAny_Name (rN hE F hm h1 hx (h v s ι (Goes.refl S) (lY S h2))) hd
theorem pN{x:Str}{v':V}{d:PyData}{n:Nat}(hE:aI env)(hm:iZ env x=true)(hx:(x == ("__classdict__":Str))=false)(hd:(x == ("__debug__":Str))=false)(hρ:ρ x=some v')
  (hf:frz n σ v'=some (d,σ')):EvS prog w hB C J A env (.Name x pos) ρ σ (.d d) σ':=λ ι s m cm Q E F R S h=>by
 obtain⟨v,h1,h2⟩:=R x v' hρ hm;obtain⟨S',E',R'⟩:=fo n S h2 hf;exact wpAny_Name (rN hE F hm h1 hx (h v s ι ⟨⟨rfl,GX.refl _⟩,E',S'⟩ R')) hd
end
end Mine.Internal
end
section
namespace Mine.Internal
open PySem PyProof.Rows
section
variable{A:Around}{env:Env}
variable{J:Addr->Prop}{ι ι':Loc}{σ σ':aa}{s:Shared}{h h':Heap}{a b v:Value}{x y r:V}{k:Nat}
theorem aE:BIG<=sizeLine:=by decide
theorem cQ:LIM<=BIG:=by decide
theorem nc{vs:List Value}(h:vs.length<=BIG):(vs.toArray.size:Int)<2 ^ 63:=Int.lt_of_le_of_lt (Int.ofNat_le.mpr h) (by decide)
theorem SR.rh(S:SR prog w hB C J ι σ h){b:Addr}(o:Own ι σ b):∃ob,h.get? b=some ob:=by
 obtain⟨l,n,e,hl,rfl | rfl⟩:=o
 ·exact(S.node l n e).got
 ·exact(S.node l n e).AO (S.two l n e)
theorem SR.fresh(S:SR prog w hB C J ι σ h){b:Addr}(hb:h.get? b=none):¬Ex J ι σ b:=λ o=>by
 rcases o with o | o
 ·obtain⟨_,_,ob,q⟩:=S.jo b o;rw[hb] at q;first | exact no q | exact nob q | cases q
 ·obtain⟨ob,q⟩:=S.rh o;rw[hb] at q;first | exact no q | exact nob q | cases q
theorem aD(h:Heap):h.get? h.objs.size=none:=Heap.get?_none_of_le (Nat.le_refl _)
section
variable{s':Shared}
theorem Goes.got{b:Addr}{ob:Obj}(g:Goes prog w hB C J s ι σ s' ι' σ')(S:SR prog w hB C J ι σ s.heap)(h:s.heap.get? b=some ob):∃ob',s'.heap.get? b=some ob':=by
 refine Classical.byCases (p:=Own ι σ b) (λ ho=>?_) (λ ho=>?_)
 ·obtain⟨l,n,e1,e2,e3⟩:=ho;have hl:l<σ.length:=(List.getElem?_eq_some_iff.mp e1).1;have e4:σ'[l]?=some (σ'[l]'(Nat.lt_of_lt_of_le hl g.evo.len)):=List.getElem?_eq_getElem _;rw[<-g.evo.ag l hl] at e3;rcases e3 with rfl | rfl
  ·exact(g.sr.node l _ e4).got
  ·exact(g.sr.node l _ e4).AO (g.sr.two l _ e4)
 ·exact⟨ob,g.evo.kp b ob ho h⟩
theorem Goes.fresh{b:Addr}(g:Goes prog w hB C J s ι σ s' ι' σ')(S:SR prog w hB C J ι σ s.heap)(h:s'.heap.get? b=none):s.heap.get? b=none:=by
 cases q:s.heap.get? b with
 |none=>rfl
 |some ob=>obtain⟨o',ho'⟩:=g.got S q;exact by cases h.symm.trans ho'
end
theorem VR.data{d:PyData}(r:VR w J ι σ h v (.d d)):RD (Ex J ι σ) h v d:=r
theorem oV{vs:List Value}{ds:List PyData}(r:aA (VR w J ι σ h) vs (ds.map V.d)):aA (RD (Ex J ι σ) h) vs ds:=r.rG
theorem fF{vs:List Value}{ds:List PyData}(r:aA (RD (Ex J ι σ) h) vs ds):aA (VR w J ι σ h) vs (ds.map V.d):=aA.lB r
theorem fq:∀{xs:List V} {ds:List PyData},l0 xs=some ds->xs=ds.map V.d:=by
 intro xs
 induction xs with
 |nil=>
  intro ds e;cases e;rfl
 |cons x xs ih=>
  intro ds e;obtain⟨d,h1,e⟩:=bd1 e;obtain⟨ds',h2,e⟩:=bd1 e;cases e;rw[ih h2];cases x with
  |d y=>cases h1;rfl
  |_=>first | exact no h1 | exact nob h1 | cases h1
theorem bN{x:V}{d:PyData}(e:f6 x=some d):x=.d d:=by
 cases x with
 |d y=>cases e;rfl
 |_=>first | exact no e | exact nob e | cases e
theorem aS{x:V}{i:Int}(e:c5 x=some i):x=.d (.int i):=by
 cases x with
 |d y=>
  cases y with
  |int j=>cases e;rfl
  |_=>first | exact no e | exact nob e | cases e
 |_=>first | exact no e | exact nob e | cases e
theorem VR.dat{d:PyData}(r:VR w J ι σ h v x)(e:f6 x=some d):RD (Ex J ι σ) h v d:=by
 rw[bN e] at r;exact r
theorem aH{i:Int}(r:VR w J ι σ h v (.d (.int i))):∃t,v=.int i t:=by
 cases r with | int i t=>exact⟨t,rfl⟩
theorem VR.top{a da:Addr}{n:Nd}:VR w J (ι.add σ a da) (σ++[n]) h (.ref a) (.o σ.length):=
 ⟨congrArg Value.ref (congrArg Prod.fst (show(ι.add σ a da) σ.length=(a,da) from if_pos rfl).symm),List.length_append (as:=σ) (bs:=[n])▸Nat.lt_succ_self _⟩
theorem c9{vs:List Value}{ds:List PyData}{n:Nat}(S:SR prog w hB C J ι σ s.heap)(hr:aA (RD (Ex J ι σ) s.heap) vs ds)(hl:vs.length<=BIG) :
  Goes prog w hB C J s ι σ { s with heap:=s.heap.push (aP vs n) } ι σ/\VR w J ι σ (s.heap.push (aP vs n)) (.ref s.heap.objs.size) (.d (.list ds)):=by
 have e:Evo ι σ s.heap ι σ (s.heap.push (aP vs n)):=Evo.aM (λ b o q=>Heap.get?_push_of_some _ q);exact⟨⟨⟨rfl,GX.refl _⟩,e,S.aM (λ b o q=>Heap.get?_push_of_some _ q)⟩,RD.rM (Heap.get?_push_size _ rfl) (S.fresh (aD _)) hl (hr.mono λ v x r=>r.evo e)⟩
theorem ed{vs:List Value}{ds:List PyData}{n:Nat}(S:SR prog w hB C J ι σ s.heap)(hr:aA (RD (Ex J ι σ) s.heap) vs ds)(hl:vs.length<=BIG) :
  Goes prog w hB C J s ι σ { s with heap:=s.heap.push (c6 vs n) } ι σ/\VR w J ι σ (s.heap.push (c6 vs n)) (.ref s.heap.objs.size) (.d (.tuple ds)):=by
 have e:Evo ι σ s.heap ι σ (s.heap.push (c6 vs n)):=Evo.aM (λ b o q=>Heap.get?_push_of_some _ q);exact⟨⟨⟨rfl,GX.refl _⟩,e,S.aM (λ b o q=>Heap.get?_push_of_some _ q)⟩,RD.nv (Heap.get?_push_size _ rfl) (S.fresh (aD _)) hl (hr.mono λ v x r=>r.evo e)⟩
theorem fg{vs:List Value}{xs:List V}{n:Nat}(S:SR prog w hB C J ι σ s.heap)(hr:aA (VR w J ι σ s.heap) vs xs)(hl:vs.length<=BIG) :
  Goes prog w hB C J s ι σ { s with heap:=s.heap.push (aP vs n) } (ι.add σ s.heap.objs.size s.heap.objs.size) (σ++[.lst xs])/\
   VR w J (ι.add σ s.heap.objs.size s.heap.objs.size) (σ++[.lst xs]) (s.heap.push (aP vs n)) (.ref s.heap.objs.size) (.o σ.length):=by
 have e:Evo ι σ s.heap (ι.add σ s.heap.objs.size s.heap.objs.size) (σ++[.lst xs]) (s.heap.push (aP vs n)):=Evo.grow (aD _) (aD _) (λ b o q=>Heap.get?_push_of_some _ q);refine⟨⟨⟨rfl,GX.refl _⟩,e,S.grow (aD _) (aD _) (λ b o q=>Heap.get?_push_of_some _ q) ⟨vs,n,Heap.get?_push_size _ rfl,hl,hr.mono λ v x r=>r.evo e⟩ (λ _=>rfl)⟩,VR.top⟩
theorem rC{vs:List Value}{xs:List V}{own:Bool}{Q:Value->Shared->Prop}{E:Value->Shared->Prop}(S:SR prog w hB C J ι σ s.heap)(hr:aA (VR w J ι σ s.heap) vs xs)(hl:vs.length<=BIG)
  (e:cF own xs σ=some (r,σ')) (h:∀v s' ι',Goes prog w hB C J s ι σ s' ι' σ'->VR w J ι' σ' s'.heap v r->Q v s') :
  Q (.ref s.heap.objs.size) { s with heap:=s.heap.push { cls:=.type "list",data:=.seq vs.toArray } }:=by
 cases own with
 |true=>
  refine bC λ k9=>?_;cases e;refine k9 ?_;exact h _ _ _ (fg (n:=0) S hr hl).1 (fg (n:=0) S hr hl).2
 |false=>
  refine bC λ k9=>?_;obtain⟨ds,e1,e2⟩:=Option.map_eq_some_iff.mp e;cases e2;rw[fq e1] at hr;refine k9 ?_;exact h _ _ _ (c9 (n:=0) S (oV hr) hl).1 (c9 (n:=0) S (oV hr) hl).2
theorem IsList.of{l:Addr}{vs:List Value}{n:Nat}(e:h.get? l=some (aP vs n)):h.IsList l vs.toArray:=⟨_,e,rfl,n,rfl⟩
theorem IsTup.of{l:Addr}{vs:List Value}{n:Nat}(e:h.get? l=some (c6 vs n)):IsTup h l vs.toArray:=⟨_,e,rfl,n,rfl⟩
theorem tq{α:Type}(xs:List α):∀n,times xs n=(List.replicate n xs).flatten
 |0=>rfl
 |n+1=>by rw[times,tq xs n,List.replicate_succ,List.flatten_cons]
theorem kX{α:Type}(xs:List α)(n:Nat):(times xs n).length=n*xs.length:=by
 induction n with
 |zero=>rw[Nat.zero_mul];rfl
 |succ n ih=>rw[times,List.length_append,ih,Nat.succ_mul,Nat.add_comm]
theorem aA.times{α β:Type}{R:α->β->Prop}{vs:List α}{xs:List β}(h:aA R vs xs):∀n,aA R (Mine.Internal.times vs n) (Mine.Internal.times xs n)
 |0=>aA.nil
 |n+1=>h.append (aA.times h n)
theorem iF(vs:Array Value):∀(n:Nat) (acc:Array Value),List.foldl (λ x1 x2=>x1++x2) acc (List.replicate n vs)=acc++(times vs.toList n).toArray:=by
 intro n
 induction n with
 |zero=>
  intro acc;rfl
 |succ n ih=>
  intro acc;rw[List.replicate_succ,List.foldl_cons,ih];obtain⟨l⟩:=vs;simp[times,Array.append_assoc]
end
end Mine.Internal
end
section
namespace Mine.Internal
open PySem PyProof.Rows
section
variable{A:Around}{env:Env}
variable{J:Addr->Prop}{ι ι':Loc}{σ σ':aa}{s:Shared}{h h':Heap}{a b v:Value}{x y r:V}{k:Nat}
variable{Q:Value->Shared->Prop}{E:Value->Shared->Prop}
noncomputable def yg(own:Bool)(σ:aa)(r:PyData):Option (V×aa):=match own,r with
 |true,.list xs=>some (fresh (.lst (xs.map .d)) σ)
 |true,_=>none
 |false,r=>some (.d r,σ)
theorem jr{own:Bool}{vs:List Value}{ds:List PyData}(S:SR prog w hB C J ι σ s.heap)(hr:aA (RD (Ex J ι σ) s.heap) vs ds)(hl:vs.length<=BIG)
  (e:yg own σ (.list ds)=some (r,σ'))
  (h:∀v s' ι',Goes prog w hB C J s ι σ s' ι' σ'->VR w J ι' σ' s'.heap v r->Q v s') :
  Q (.ref s.heap.objs.size) { s with heap:=s.heap.push { cls:=.type "list",data:=.seq vs.toArray } }:=by
 cases own with
 |true=>
  refine bC λ k9=>?_;cases e;refine k9 ?_;exact h _ _ _ (fg (n:=0) S (fF hr) hl).1 (fg (n:=0) S (fF hr) hl).2
 |false=>
  refine bC λ k9=>?_;cases e;refine k9 ?_;exact h _ _ _ (c9 (n:=0) S hr hl).1 (c9 (n:=0) S hr hl).2
theorem ef{x:PyData}{i:Int}(h:int? x=some i):x=.int i:=by
 cases x with
 |int j=>cases h;rfl
 |_=>exact no h
theorem tp{x:PyData}{xs:List PyData}(h:BU x=some xs):x=.tuple xs:=by
 cases x with
 |tuple ys=>cases h;rfl
 |_=>exact no h
theorem jG{own:Bool}{i:Int}(e:yg own σ (.int i)=some (r,σ')):r=.d (.int i)/\σ'=σ:=by
 cases own with
 |true=>exact no e
 |false=>cases e;exact⟨rfl,rfl⟩
theorem th{own:Bool}{xs:List PyData}(e:yg own σ (.tuple xs)=some (r,σ')):r=.d (.tuple xs)/\σ'=σ:=by
 cases own with
 |true=>exact no e
 |false=>cases e;exact⟨rfl,rfl⟩
theorem tV{j:Int}(h:0<=j/\j<=(LIM:Int)):¬(!Builtin.List.listFitsIndex j)=true:=by
 have e:(LIM:Int)=100000:=rfl;have:Builtin.List.listFitsIndex j=true:=Bool.and_eq_true_iff.mpr ⟨decide_eq_true (by omega),decide_eq_true (by omega)⟩;rw[this];exact λ q=>nob q
theorem nY{m:Nat}{vs:List Value}(hs:vs.length*m<=LIM):¬vs.toArray.size*m > (2 ^ 63-1) / 8/\¬Builtin.List.listTooLong (vs.toArray.size*m)=true:=by
 rw[List.size_toArray];exact⟨Nat.not_lt.mpr (Nat.le_trans hs (by decide)),λ q=>absurd (of_decide_eq_true q) (Nat.not_lt.mpr (Nat.le_trans hs (Nat.le_trans cQ aE)))⟩
theorem y6{own:Bool}{xs:List PyData}{j:Int}(S:SR prog w hB C J ι σ s.heap)(ra:RD (Ex J ι σ) s.heap a (.list xs))(rb:VR w J ι σ s.heap b (.d (.int j)))(hl:xs.length*j.toNat<=LIM/\0<=j/\j<=(LIM:Int))
  (e:yg own σ (.list (times xs j.toNat))=some (r,σ'))
  (h:∀v s' ι',Goes prog w hB C J s ι σ s' ι' σ'->VR w J ι' σ' s'.heap v r->Q v s'):wpAny (model prog w) A (binaryOp .Mult a b) Q E s:=by
 obtain⟨la,vs,n,rfl,q1,q2,q3,q4⟩:=ra.aZ;obtain⟨u,rfl⟩:=aH rb;have hsz:vs.length*j.toNat<=LIM:=q4.1▸hl.1;have hz:Q (.ref s.heap.objs.size) { s with heap:=s.heap.push { cls:=.type "list",data:=.seq (times vs j.toNat).toArray } }:=
  jr (Q:=Q) S (q4.times j.toNat) (by rw[kX,Nat.mul_comm];exact Nat.le_trans hsz cQ) e h
 refine wpAny_binaryOp_repeat_ref (T:="list") (U:="int") (by decide) ⟨_,q1,rfl⟩ (λ s'=>typeIs_int s' j u) noFill_list_mul F.fills_int_mul F.slot_int_rmul repeat_list F.slot_int_index.lookup
  (call_meets F.slot_int_rmul (typeIs_int s j u) F.entry_int_rmul (F.args_int_rmul_2 _ _) (int___rmul___int_list j u la vs.toArray n)
   ⟨q1,rfl,⟨_,q1,rfl⟩,call_meets F.slot_list_mul ⟨_,q1,rfl⟩ F.entry_list_mul (F.args_list_mul_2 _ _)
    (AutoListH.list___mul___list_int_3 la vs.toArray n j u (tV hl.2) (nY hsz).1 (nY hsz).2)
    ⟨q1,?_⟩⟩)
 rw[iF];rw[List.isEmpty_toArray];cases vs with
 |nil=>
  have ht:∀n,times ([]:List Value) n=[]:=λ n=>by
   induction n with
   |zero=>rfl
   |succ n ih=>rw[times,ih];rfl
  rw[ht] at hz;exact hz
 |cons v vs=>
  rw[Array.empty_append];exact hz
theorem Aq{own:Bool}{da db z:PyData}(S:SR prog w hB C J ι σ s.heap)(ra:RD (Ex J ι σ) s.heap a da)(rb:RD (Ex J ι σ) s.heap b db)(ez:Cn da db=some z)(e:yg own σ z=some (r,σ'))
  (h:∀v s' ι',Goes prog w hB C J s ι σ s' ι' σ'->VR w J ι' σ' s'.heap v r->Q v s'):wpAny (model prog w) A (binaryOp .Add a b) Q E s:=by
 cases da with
 |int i=>
  obtain⟨j,ej,ez⟩:=bd1 ez;obtain rfl:=ef ej;cases ez;obtain⟨rfl,rfl⟩:=jG e;obtain⟨t,rfl⟩:=aH ra;obtain⟨u,rfl⟩:=aH rb;exact add_int (h _ _ ι (Goes.tok S _) (RD.int _ _))
 |list xs=>
  obtain⟨ys,ej,ez⟩:=bd1 ez;obtain rfl:=gW ej;obtain⟨la,vs,n,rfl,q1,q2,q3,q4⟩:=ra.aZ;obtain⟨lb,ws,n',rfl,p1,p2,p3,p4⟩:=rb.aZ;refine Classical.byCases (p:=xs.length+ys.length<=LIM) (λ hl=>?_) (λ hl=>?_)
  ·cases(if_pos hl).symm.trans ez;have hsz:(vs++ws).length<=LIM:=by rw[List.length_append,q4.1,p4.1];exact hl
   refine PySem.P.add_list (hsz:=by rw[List.size_toArray,List.size_toArray,<-List.length_append];exact Nat.le_trans hsz (Nat.le_trans cQ aE)) q1 p1 ?_;rw[List.append_toArray];exact jr (Q:=Q) (vs:=vs++ws) S (q4.append p4) (Nat.le_trans hsz cQ) e h
  ·exact no ((if_neg hl).symm.trans ez)
 |tuple xs=>
  obtain⟨ys,ej,ez⟩:=bd1 ez;obtain rfl:=tp ej;obtain⟨la,vs,n,rfl,q1,q2,q3,q4⟩:=ra.aX;obtain⟨lb,ws,n',rfl,p1,p2,p3,p4⟩:=rb.aX;refine Classical.byCases (p:=xs.length+ys.length<=LIM/\xs≠[]/\ys≠[]) (λ hl=>?_) (λ hl=>?_)
  ·cases(if_pos hl).symm.trans ez;obtain⟨rfl,rfl⟩:=th e;have hsz:(vs++ws).length<=LIM:=by rw[List.length_append,q4.1,p4.1];exact hl.1
   have n1:vs≠[]:=λ q=>by subst q;exact hl.2.1 q4.nW
   have n2:ws≠[]:=λ q=>by subst q;exact hl.2.2 p4.nW
   refine PySem.P.add_tuple (hsz:=by rw[List.size_toArray,List.size_toArray,<-List.length_append];exact Nat.le_trans hsz (Nat.le_trans cQ aE)) q1 p1 (by simpa using n1) (by simpa using n2) ?_;rw[List.append_toArray];exact h _ _ _ (ed (n:=0) (vs:=vs++ws) S (q4.append p4) (Nat.le_trans hsz cQ)).1 (ed (n:=0) (vs:=vs++ws) S (q4.append p4) (Nat.le_trans hsz cQ)).2
  ·exact no ((if_neg hl).symm.trans ez)
 |_=>exact no ez
theorem Ao{own:Bool}{op:Operator}(S:SR prog w hB C J ι σ s.heap)(ra:VR w J ι σ s.heap a x)(rb:VR w J ι σ s.heap b y)(e:sS own op x y σ=some (r,σ'))
  (h:∀v s' ι',Goes prog w hB C J s ι σ s' ι' σ'->VR w J ι' σ' s'.heap v r->Q v s'):wpAny (model prog w) A (binaryOp op a b) Q E s:=by
 obtain⟨da,ea,e⟩:=bd1 e;obtain⟨db,eb,e⟩:=bd1 e;obtain⟨z,ez,e2⟩:=bd1 e;have er:yg own σ z=some (r,σ'):=e2;have ra:=VR.dat ra ea;have rb:=VR.dat rb eb;clear e ea eb;cases op with
 |Add=>exact Aq S ra rb ez er h
 |Sub=>
  refine bC λ k9=>?_;obtain⟨i,ei,ez⟩:=bd1 ez;obtain⟨j,ej,ez⟩:=bd1 ez;cases ez;obtain⟨rfl,rfl⟩:=jG er;obtain⟨t,rfl⟩:=aH (ef ei▸ra);obtain⟨u,rfl⟩:=aH (ef ej▸rb);refine k9 ?_;exact sub_int (h _ _ ι (Goes.tok S _) (RD.int _ _))
 |Mod=>
  obtain⟨i,ei,ez⟩:=bd1 ez;obtain⟨j,ej,ez⟩:=bd1 ez;refine Classical.byCases (p:=j=0) (λ hj=>?_) (λ hj=>?_)
  ·exact no ((if_pos hj).symm.trans ez)
  ·cases(if_neg hj).symm.trans ez;obtain⟨rfl,rfl⟩:=jG er;obtain⟨t,rfl⟩:=aH (ef ei▸ra);obtain⟨u,rfl⟩:=aH (ef ej▸rb);exact mod_int hj (h _ _ ι (Goes.tok S _) (RD.int _ _))
 |Mult=>
  obtain⟨xs,ei,ez⟩:=bd1 ez;obtain⟨j,ej,ez⟩:=bd1 ez;refine Classical.byCases (p:=xs.length*j.toNat<=LIM/\0<=j/\j<=(LIM:Int)) (λ hl=>?_) (λ hl=>?_)
  ·cases(if_pos hl).symm.trans ez;exact y6 S (gW ei▸ra) (ef ej▸rb) hl er h
  ·exact no ((if_neg hl).symm.trans ez)
 |_=>exact no ez
end
end Mine.Internal
end
section
namespace Mine.Internal
open PySem PyProof.Rows
section
variable{A:Around}{env:Env}
variable{J:Addr->Prop}{ι ι':Loc}{σ σ':aa}{s:Shared}{h h':Heap}{a b v:Value}{x y r:V}{k:Nat}
variable{Q:Value->Shared->Prop}{E:Value->Shared->Prop}
theorem eD.setOf{l:Addr}{xs:List Int}(q:eD w h l xs):∃n,n<=4000/\n<=xs.length/\h.SetOf (intKind prog w) l (λ k=>xs.contains k) n:=by
 refine bC λ k9=>?_;obtain⟨o,es,ep,t,ho,hx,hd,el,hs2,hf,_⟩:=q;refine k9 ?_;refine⟨es.size,Nat.le_trans el.le hs2,el.le,o,es,ep,t,ho,hx,hd,λ e h1=>?_,λ k=>?_,?_,hf,rfl⟩
 ·obtain⟨i,tk,rfl⟩:=el.el e h1;exact⟨⟨i,intKind_is prog w i tk,rfl⟩,rfl⟩
 ·rw[List.contains_iff_mem,el.mem];exact⟨(by rintro⟨e,h1,tk,h2⟩;exact⟨e,h1,h2▸intKind_is prog w k tk⟩),(by rintro⟨e,h1,h2⟩;exact(by obtain⟨t,h3⟩:=Value.isInt_shape h2;exact⟨e,h1,t,h3⟩))⟩
 ·exact Nat.lt_of_le_of_lt (Nat.le_trans el.le hs2) (by decide)
theorem m5{d:Nat}:∀{xs:List PyData},(∀x∈xs,x.depth<=d)->PyData.depthAll xs<=d:=by
 intro xs
 induction xs with
 |nil=>
  intro _;rw[PyData.depthAll];exact Nat.zero_le _
 |cons x xs ih=>
  intro hx;rw[PyData.depthAll];exact Nat.max_le.mpr ⟨hx x List.mem_cons_self,ih λ y hy=>hx y (List.mem_cons_of_mem _ hy)⟩
theorem kx{da db:PyData}{c:Bool}(e:eq? da db=some c):min da.depth db.depth<=64/\c=PyData.eqv da db:=by
 by_cases hd:min da.depth db.depth<=64
 ·exact⟨hd,(Option.some.inj ((if_pos hd).symm.trans e)).symm⟩
 ·exact no ((if_neg hd).symm.trans e)
theorem mem_some{d:PyData}:∀{xs:List PyData} {c:Bool},kO d xs=some c->c=(xs.any λ y=>PyData.eqv y d)/\∀x∈xs,min x.depth d.depth<=64:=by
 intro xs
 induction xs with
 |nil=>
  intro c e;cases e;exact⟨rfl,λ _ h=>by cases h⟩
 |cons x xs ih=>
  intro c e;obtain⟨b,h1,e⟩:=bd1 e;obtain⟨b',h2,e⟩:=bd1 e;cases e;obtain⟨q1,q2⟩:=kx h1;obtain⟨q3,q4⟩:=ih h2;subst q2;subst q3;refine⟨rfl,λ y hy=>?_⟩;rcases List.mem_cons.mp hy with rfl | hy
  ·exact q1
  ·exact q4 y hy
theorem tM{d:PyData}{xs:List PyData}(h:∀x∈xs,min x.depth d.depth<=64):min (PyData.depthAll xs) d.depth<=64:=by
 by_cases hd:d.depth<=64
 ·exact Nat.le_trans (Nat.min_le_right _ _) hd
 ·exact Nat.le_trans (Nat.min_le_left _ _) (m5 λ x hx=>by
   have q:=h x hx;by_cases q2:x.depth<=d.depth
   ·rw[Nat.min_eq_left q2] at q;exact q
   ·rw[Nat.min_eq_right (Nat.le_of_not_le q2)] at q;exact absurd q hd)
theorem RD.canLayAll{X:Addr->Prop}{vs:List Value}{xs:List PyData}(r:aA (RD X h) vs xs):PyData.canLayAll0 xs=true:=fB λ x hx=>by
 obtain⟨i,hi⟩:=List.mem_iff_getElem?.mp hx;obtain⟨v,_,hr⟩:=r.get hi;exact hr.canLay
theorem en{K W:Type}[DecidableEq K]{q k:K}{u:W}{ps:List (K×W)}:((q,u)::ps).find? (λ kv=>decide (kv.1=k))=if q=k then some (q,u) else ps.find? λ kv=>decide (kv.1=k):=by
 by_cases h:q=k
 ·rw[if_pos h];exact List.find?_cons_of_pos (decide_eq_true h)
 ·rw[if_neg h];exact List.find?_cons_of_neg λ e=>h (of_decide_eq_true e)
theorem cR{ps:List (Int×Value)}{kvs:List (Int×V)}{R:Value->V->Prop}(hr:aA (λ p q=>p.1=q.1/\R p.2 q.2) ps kvs)(k:Int):s7 R (valueAt ps k) (look k kvs):=by
 induction kvs generalizing ps with
 |nil=>rw[hr.bu];exact trivial
 |cons q kvs ih=>
  obtain⟨p,ps',rfl,⟨h1,h2⟩,h3⟩:=hr.cons_right;obtain⟨pk,pv⟩:=p;obtain⟨qk,qv⟩:=q;cases h1;by_cases hk:pk=k
  ·rw[valueAt,en,if_pos hk,show look k ((pk,qv)::kvs)=some qv from if_pos hk];exact h2
  ·rw[valueAt,en,if_neg hk,show look k ((pk,qv)::kvs)=look k kvs from if_neg hk];exact ih h3
theorem gf{ps:List (List Int×Addr×Value)}{kvs:List (List Int×V)}{R:Value->V->Prop}(hr:aA (λ p q=>p.1=q.1/\R p.2.2 q.2) ps kvs)(k:List Int):s7 R ((atKey ps k).map (·.2)) (look k kvs):=by
 induction kvs generalizing ps with
 |nil=>rw[hr.bu];exact trivial
 |cons q kvs ih=>
  obtain⟨p,ps',rfl,⟨h1,h2⟩,h3⟩:=hr.cons_right;obtain⟨pk,pa,pv⟩:=p;obtain⟨qk,qv⟩:=q;cases h1;by_cases hk:pk=k
  ·rw[atKey,en,if_pos hk,show look k ((pk,qv)::kvs)=some qv from if_pos hk];exact h2
  ·rw[atKey,en,if_neg hk,show look k ((pk,qv)::kvs)=look k kvs from if_neg hk];exact ih h3
theorem lL:∀{xs:List PyData} {is:List Int},lM xs=some is->xs=is.map .int:=by
 intro xs
 induction xs with
 |nil=>
  intro is e;cases e;rfl
 |cons x xs ih=>
  intro is e;obtain⟨i,h1,e⟩:=bd1 e;obtain⟨js,h2,e⟩:=bd1 e;cases e;rw[ih h2];cases x with
  |int j=>cases h1;rfl
  |_=>first | exact no h1 | exact nob h1 | cases h1
theorem hW{d:PyData}{ks:List Int}(e:kU d=some ks):d=.tuple (ks.map .int):=by
 cases d with
 |tuple xs=>exact congrArg PyData.tuple (lL e)
 |_=>first | exact no e | exact nob e | cases e
theorem itemsAre{X:Addr->Prop}:∀{ks:List Int} {vs:List Value},aA (RD X h) vs (ks.map .int)->PySem.ItemsAre (intKind prog w) ks vs:=by
 intro ks
 induction ks with
 |nil=>
  intro vs r;rw[r.bu];exact .nil
 |cons k ks ih=>
  intro vs r;obtain⟨v,ws,rfl,h1,h2⟩:=r.cons_right;cases h1;exact .cons (intKind_is prog w k _) (ih h2)
theorem ny{l:Addr}{X:Addr->Prop}{ks:List Int}(r:RD X h (.ref l) (.tuple (ks.map .int))):(tupleKind (intKind prog w)).is h ks l:=by
 refine bC λ k9=>?_;obtain⟨l',vs,n,e,q1,q2,q3,q4⟩:=RD.aX r;cases e;refine k9 ?_;exact⟨_,_,_,q1,rfl,rfl,itemsAre q4⟩
noncomputable def Ct(u a:Value):Prop:=(plainIs u a=true/\(u == a)=false)/\plainIs a u=true/\(a == u)=false
noncomputable def TgR(a:Value):Tg->Prop
 |.ty n=>a=.type n
 |.non=>a=.none
 |.bl b=>a=.bool b
 |.oth=>Ct .none a/\∀c,Ct (.bool c) a
theorem BV(ra:VR w J ι σ s.heap a x):TgR a (tag x):=by
 have q:∀a:Addr,TgR (.ref a) .oth:=λ a=>⟨⟨⟨rfl,rfl⟩,rfl,rfl⟩,λ c=>⟨⟨rfl,rfl⟩,rfl,rfl⟩⟩;cases x with
 |d y=>cases ra<;>first | rfl | exact q _ | exact⟨⟨⟨rfl,rfl⟩,rfl,rfl⟩,λ c=>⟨⟨rfl,rfl⟩,rfl,rfl⟩⟩
 |fs _=>obtain⟨z,rfl,_⟩:=ra;exact q _
 |ty _=>exact ra
 |o l=>obtain⟨rfl,_⟩:=ra;exact q _
theorem wo{c:Bool}{u v:Tg}(ra:TgR a u)(rb:TgR b v)(e:yK u v=some c):plainIs a b=true/\(a == b)=c:=by
 cases u with
 |ty p=>
  obtain rfl:=ra;cases v with
  |ty q=>
   obtain rfl:=rb;cases e;refine⟨rfl,?_⟩;by_cases h:p=q
   ·subst h;rw[beq_self_eq_true,beq_self_eq_true]
   ·rw[beq_eq_false_iff_ne.mpr h,beq_eq_false_iff_ne.mpr (λ e=>h (Value.type.inj e))]
  |non=>obtain rfl:=rb;cases e;exact⟨rfl,rfl⟩
  |bl q=>obtain rfl:=rb;cases e;exact⟨rfl,rfl⟩
  |oth=>exact no e
 |non=>
  obtain rfl:=ra;cases v with
  |oth=>cases e;exact rb.1.1
  |_=>obtain rfl:=rb;cases e;exact⟨rfl,rfl⟩
 |bl p=>
  obtain rfl:=ra;cases v with
  |oth=>cases e;exact(rb.2 p).1
  |bl q=>obtain rfl:=rb;cases e;exact⟨rfl,by cases p<;>cases q<;>rfl⟩
  |_=>obtain rfl:=rb;cases e;exact⟨rfl,rfl⟩
 |oth=>
  cases v with
  |non=>obtain rfl:=rb;cases e;exact ra.1.2
  |bl q=>obtain rfl:=rb;cases e;exact(ra.2 q).2
  |_=>exact no e
theorem zl{c:Bool}(ra:VR w J ι σ s.heap a x)(rb:VR w J ι σ s.heap b y)(e:j9 x y=some c):plainIs a b=true/\(a == b)=c:=wo (BV ra) (BV rb) e
inductive Cp(da db:PyData)(c:Bool)(f:Int->Int->Bool):Prop
 |mk (i j:Int) (e1:da=.int i) (e2:db=.int j) (e3:c=f i j)
theorem rI{da db:PyData}{c:Bool}(e:lt? da db=some c):Cp da db c λ i j=>decide (i<j):=by
 cases da with
 |int i=>
  cases db with
  |int j=>cases e;exact⟨i,j,rfl,rfl,rfl⟩
  |_=>first | exact no e | exact nob e | cases e
 |_=>first | exact no e | exact nob e | cases e
theorem w8{da db:PyData}{c:Bool}(e:le? da db=some c):Cp da db c λ i j=>decide (i<=j):=by
 cases da with
 |int i=>
  cases db with
  |int j=>cases e;exact⟨i,j,rfl,rfl,rfl⟩
  |_=>first | exact no e | exact nob e | cases e
 |_=>first | exact no e | exact nob e | cases e
inductive InC(σ:aa)(c:Bool)(x:V):V->Prop
 |d (da d:PyData) (xs:List PyData) (e1:x=.d da) (e2:items? d=some xs) (e:kO da xs=some c):InC σ c x (.d d)
 |fs (i:Int) (xs:List Int) (e1:x=.d (.int i)) (e:xs.contains i=c):InC σ c x (.fs xs)
 |st (l:Nat) (i:Int) (xs:List Int) (hn:σ[l]?=some (.set xs)) (e1:x=.d (.int i)) (e:xs.contains i=c):InC σ c x (.o l)
 |di (l:Nat) (i:Int) (kvs:List (Int×V)) (hn:σ[l]?=some (.dcI kvs)) (e1:x=.d (.int i)) (e:(look i kvs).isSome=c):InC σ c x (.o l)
 |dt (l:Nat) (ks:List Int) (kvs:List (List Int×V)) (hn:σ[l]?=some (.dcT kvs)) (e1:x=.d (.tuple (ks.map .int))) (e:(look ks kvs).isSome=c):InC σ c x (.o l)
theorem inC{c:Bool}(e:i3.isIn σ x y=some c):InC σ c x y:=by
 cases y with
 |d d=>
  obtain⟨da,ea,e⟩:=bd1 e;obtain⟨xs,ex,e⟩:=bd1 e;exact .d da d xs (bN ea) ex e
 |fs xs=>
  obtain⟨i,ei,e⟩:=bd1 e;exact .fs i xs (aS ei) (Option.some.inj e)
 |o l=>
  have e:inN x σ[l]?=some c:=e;cases hn:σ[l]? with
  |none=>rw[hn] at e;first | exact no e | exact nob e | cases e
  |some nd=>
   rw[hn] at e;cases nd with
   |dcI kvs=>
    obtain⟨i,ei,e⟩:=bd1 e;exact .di l i kvs hn (aS ei) (Option.some.inj e)
   |dcT kvs=>
    obtain⟨da,ea,e⟩:=bd1 e;obtain⟨ks,ek,e⟩:=bd1 e;exact .dt l ks kvs hn (by rw[bN ea,hW ek]) (Option.some.inj e)
   |set xs=>
    obtain⟨i,ei,e⟩:=bd1 e;exact .st l i xs hn (aS ei) (Option.some.inj e)
   |_=>first | exact no e | exact nob e | cases e
 |_=>first | exact no e | exact nob e | cases e
theorem AOK.room(hA:AOK A k):A.units+2+64<cLine:=Nat.lt_of_le_of_lt (show A.units+(2+64)<=_ from Nat.add_le_add (Nat.le_add_right A.units (40*k)) (by decide)) hA.units
theorem AOK.qQ(hA:AOK A k){n m:Nat}(h:n<=64)(hm:m<=2):A.units+m+n<cLine:=Nat.lt_of_le_of_lt (Nat.add_le_add (Nat.add_le_add_left hm _) h) hA.room
noncomputable def Dp(A:Around)(a b:Value)(s:Shared)(c:Bool)(E:Value->Shared->Prop):Prop:=
  (∀Q:Value->Shared->Prop,(∀t,Q (.bool c) { s with toks:=t })->wpAny (model prog w) A (compareOp .In a b) Q E s)/\
  (∀Q:Value->Shared->Prop,(∀t,Q (.bool !c) { s with toks:=t })->wpAny (model prog w) A (compareOp .NotIn a b) Q E s)
theorem rR{c:Bool}(hA:AOK A k)(S:SR prog w hB C J ι σ s.heap)(ra:VR w J ι σ s.heap a x)(rb:VR w J ι σ s.heap b y)(e:i3.isIn σ x y=some c):Dp A a b s c E:=by
 have hu:=hA.room
 replace e:=inC e
 cases e with
 |d da d xs e1 ex e=>
  subst e1;obtain⟨rfl,hd⟩:=mem_some e;have hroom:=tM hd;obtain⟨as,ra'⟩:=RD.reads ra;obtain⟨bs,rb'⟩:=RD.reads rb;cases d with
  |list ys=>
   cases ex;obtain⟨l,vs,n,rfl,q1,q2,q3,q4⟩:=RD.aZ rb;exact⟨λ Q h=>SeqAt.in_list_reads rb' ra' (RD.canLayAll q4) (RD.canLay ra) (by omega) (h s.toks),λ Q h=>SeqAt.notIn_list_reads rb' ra' (RD.canLayAll q4) (RD.canLay ra) (by omega) (h s.toks)⟩
  |tuple ys=>
   cases ex;obtain⟨l,vs,n,rfl,q1,q2,q3,q4⟩:=RD.aX rb;exact⟨λ Q h=>SeqAt.in_tuple_reads rb' ra' (RD.canLayAll q4) (RD.canLay ra) (by omega) (h s.toks),λ Q h=>SeqAt.notIn_tuple_reads rb' ra' (RD.canLayAll q4) (RD.canLay ra) (by omega) (h s.toks)⟩
  |_=>first | exact no ex | exact nob ex | cases ex
 |fs i xs e1 e=>
  subst e1;subst e;obtain⟨t,rfl⟩:=aH ra;obtain⟨l,rfl,hl,hS⟩:=rb;obtain⟨n,_,_,hS⟩:=eD.setOf hS;exact⟨λ Q h=>wpAny_inSet_of (intKind_is prog w i t) rfl hS (h _),λ Q h=>wpAny_notInSet_of (intKind_is prog w i t) rfl hS (h _)⟩
 |st l i xs hn e1 e=>
  subst e1;subst e;obtain⟨t,rfl⟩:=aH ra;obtain⟨rfl,hlt⟩:=rb;obtain⟨n,_,_,hS⟩:=eD.setOf (S.node l _ hn);exact⟨λ Q h=>wpAny_inSet_of (intKind_is prog w i t) rfl hS (h _),λ Q h=>wpAny_notInSet_of (intKind_is prog w i t) rfl hS (h _)⟩
 |di l i kvs hn e1 e=>
  subst e1;subst e;obtain⟨t,rfl⟩:=aH ra;obtain⟨rfl,hlt⟩:=rb;obtain⟨q0,ps,q1,q2⟩:=S.node l _ hn;have hne:=beq_eq_false_iff_ne.mpr q0.2;rw[<-(cR q2 i).isSome];exact⟨λ Q h=>wpAny_in_of (intKind_is prog w i t) hne q1.mapOf (h _),λ Q h=>wpAny_notIn_of (intKind_is prog w i t) hne q1.mapOf (h _)⟩
 |dt l ks kvs hn e1 e=>
  subst e1;subst e;obtain⟨rfl,hlt⟩:=rb;obtain⟨q0,ps,q1,q3,q2⟩:=S.node l _ hn;have hne:=beq_eq_false_iff_ne.mpr q0.2;obtain⟨la,vs,n,rfl,_⟩:=RD.aX ra;rw[<-(gf q2 ks).isSome,Option.isSome_map];exact⟨λ Q h=>wpAny_in_heap (tupleKind_room_in1 (by omega)) (ny ra) hne q1 (h _),λ Q h=>wpAny_notIn_heap (tupleKind_room_in1 (by omega)) (ny ra) hne q1 (h _)⟩
theorem vJ{op:CmpOp}{c:Bool}(hA:AOK A k)(S:SR prog w hB C J ι σ s.heap)(ra:VR w J ι σ s.heap a x)(rb:VR w J ι σ s.heap b y)(e:i3 σ op x y=some c)
  (h:∀t,Q (.bool c) { s with toks:=t }):wpAny (model prog w) A (compareOp op a b) Q E s:=by
 have hu:=hA.room;cases op with
 |Is=>
  refine bC λ k9=>?_;obtain⟨h1,h2⟩:=zl ra rb e;refine k9 ?_;exact wpAny_is_plain h1 (h2▸h s.toks)
 |IsNot=>
  refine bC λ k9=>?_;obtain⟨c',e',rfl⟩:=Option.map_eq_some_iff.mp e;obtain⟨h1,h2⟩:=zl ra rb e';refine k9 ?_;exact wpAny_isNot_plain h1 (h2▸h s.toks)
 |Eq=>
  refine bC λ k9=>?_;obtain⟨da,ea,e⟩:=bd1 e;obtain⟨db,eb,e⟩:=bd1 e;have ra:=VR.dat ra ea;have rb:=VR.dat rb eb;obtain⟨hd,rfl⟩:=kx e;obtain⟨as,ra'⟩:=RD.reads ra;obtain⟨bs,rb'⟩:=RD.reads rb;refine k9 ?_;exact SeqAt.compareEq_reads ra' rb' (RD.canLay ra) (RD.canLay rb) (by omega) (h s.toks)
 |NotEq=>
  refine bC λ k9=>?_;obtain⟨da,ea,e⟩:=bd1 e;obtain⟨db,eb,e⟩:=bd1 e;obtain⟨c',e',e⟩:=bd1 e;cases e;have ra:=VR.dat ra ea;have rb:=VR.dat rb eb;obtain⟨hd,rfl⟩:=kx e';obtain⟨as,ra'⟩:=RD.reads ra;obtain⟨bs,rb'⟩:=RD.reads rb;refine k9 ?_;exact SeqAt.compareNe_reads ra' rb' (RD.canLay ra) (RD.canLay rb) (by omega) (h s.toks)
 |Lt=>
  refine bC λ k9=>?_;obtain⟨da,ea,e⟩:=bd1 e;obtain⟨db,eb,e⟩:=bd1 e;have ra:=VR.dat ra ea;have rb:=VR.dat rb eb;obtain⟨i,j,rfl,rfl,rfl⟩:=rI e;obtain⟨t,rfl⟩:=aH ra;obtain⟨u,rfl⟩:=aH rb;refine k9 ?_;exact lt_int (h s.toks)
 |Gt=>
  refine bC λ k9=>?_;obtain⟨db,eb,e⟩:=bd1 e;obtain⟨da,ea,e⟩:=bd1 e;have ra:=VR.dat ra ea;have rb:=VR.dat rb eb;obtain⟨i,j,rfl,rfl,rfl⟩:=rI e;obtain⟨t,rfl⟩:=aH ra;obtain⟨u,rfl⟩:=aH rb;refine k9 ?_;exact gt_int (h s.toks)
 |LtE=>
  refine bC λ k9=>?_;obtain⟨da,ea,e⟩:=bd1 e;obtain⟨db,eb,e⟩:=bd1 e;have ra:=VR.dat ra ea;have rb:=VR.dat rb eb;obtain⟨i,j,rfl,rfl,rfl⟩:=w8 e;obtain⟨t,rfl⟩:=aH ra;obtain⟨u,rfl⟩:=aH rb;refine k9 ?_;exact le_int (h s.toks)
 |GtE=>cases e
 |In=>exact(rR (E:=E) hA S ra rb e).1 Q h
 |NotIn=>
  refine bC λ k9=>?_;obtain⟨c',e',rfl⟩:=Option.map_eq_some_iff.mp e;refine k9 ?_;exact(rR (E:=E) hA S ra rb e').2 Q h
theorem aA.isEmpty{α β:Type}{R:α->β->Prop}{vs:List α}{xs:List β}(r:aA R vs xs):vs.toArray.isEmpty=xs.isEmpty:=by
 rw[List.isEmpty_toArray];cases xs with
 |nil=>rw[r.bu];rfl
 |cons x xs=>obtain⟨v,ws,rfl,_⟩:=r.cons_right;rfl
theorem jh{l:Addr}{vs:List Value}{n:Nat}{c:Bool}{Q:Bool->Shared->Prop}(q1:s.heap.get? l=some (aP vs n))(q3:vs.length<=BIG)(e:(!vs.toArray.isEmpty)=c)(h:∀t,Q c { s with toks:=t }):wpAny (model prog w) A (truthy (.ref l)) Q E s:=by
 subst e;exact wpAny_truthy_list (IsList.of q1) (nc q3) (h (s.toks+1+1))
theorem nz{c:Bool}{Q:Bool->Shared->Prop}(S:SR prog w hB C J ι σ s.heap)(ra:VR w J ι σ s.heap a x)(e:dH σ x=some c)(h:∀t,Q c { s with toks:=t }) :
  wpAny (model prog w) A (truthy a) Q E s:=by
 cases x with
 |d d=>
  cases d with
  |bool b=>cases e;cases ra;exact wpAny_truthy_bool (h s.toks)
  |list xs=>
   cases e;obtain⟨l,vs,n,rfl,q1,q2,q3,q4⟩:=RD.aZ ra;exact jh q1 q3 (by rw[q4.isEmpty]) h
  |_=>first | exact no e | exact nob e | cases e
 |o l=>
  obtain⟨xs,hn,e⟩:=lst_inv (f:=λ xs=>some (!xs.isEmpty)) e;cases e;obtain⟨rfl,_⟩:=ra;obtain⟨vs,n,q1,q3,q4⟩:=S.node _ _ hn;exact jh q1 q3 (by rw[q4.isEmpty]) h
 |_=>first | exact no e | exact nob e | cases e
end
end Mine.Internal
end
section
namespace Mine.Internal
open PySem PyProof.Rows
section
variable{A:Around}{env:Env}
variable{J:Addr->Prop}{ι ι':Loc}{σ σ':aa}{s:Shared}{h h':Heap}{a b v:Value}{x y r:V}{k:Nat}
variable{Q:Value->Shared->Prop}{E:Value->Shared->Prop}
theorem eE(slice:Expr)(o i:Value):∃ops,subscripted slice false o i=operate ops (getItem o i):=by
 cases slice with
 |Slice lo hi st p=>cases st<;>exact⟨_,rfl⟩
 |_=>exact⟨_,rfl⟩
theorem eR{j:Int}{n k:Nat}(e:seqIndex? j n=some k):k<n/\((0<=j/\j.toNat=k/\j<n)\/(j<0/\-(n:Int)<=j/\(j+n).toNat=k)):=by
 have e:(if(decide (0<=(if j<0 then j+n else j)) && decide ((if j<0 then j+n else j)<n))=true then some (if j<0 then j+n else j).toNat else none)=some k:=e;generalize hm:(if j<0 then j+n else j)=m at e;by_cases hc:(decide (0<=m) && decide (m<n))=true
 ·obtain rfl:=Option.some.inj ((if_pos hc).symm.trans e);have h0:=of_decide_eq_true (aB hc).1;have h1:=of_decide_eq_true (aB hc).2;refine⟨(Int.toNat_lt h0).mpr h1,?_⟩;by_cases hj:j<0
  ·obtain rfl:=(if_pos hj).symm.trans hm;exact .inr ⟨hj,Int.le_of_sub_nonneg (by rw[Int.sub_neg];exact h0),rfl⟩
  ·obtain rfl:=(if_neg hj).symm.trans hm;exact .inl ⟨h0,rfl,h1⟩
 ·exact no ((if_neg hc).symm.trans e)
theorem b7{j:Int}{n k:Nat}(e:seqIndex? j n=some k)(hz:n<=BIG):-(2 ^ 63)<=j/\j<2 ^ 63:=by
 have hn:(n:Int)<2 ^ 63:=Int.lt_of_le_of_lt (Int.ofNat_le.mpr hz) (by decide);rcases(eR e).2 with ⟨h0,_,h2⟩ | ⟨h0,h1,_⟩
 ·exact⟨Int.le_trans (by decide) h0,Int.lt_trans h2 hn⟩
 ·exact⟨Int.le_trans (Int.neg_le_neg (Int.le_of_lt hn)) h1,Int.lt_trans h0 (by decide)⟩
theorem fX{l:Addr}{vs:List Value}{n:Nat}{j:Int}{t:Tok}{k:Nat}{u:Value}(hl:s.heap.get? l=some (aP vs n))(hz:vs.length<=BIG)(e:seqIndex? j vs.length=some k)(hu:vs[k]?=some u)
  (h:Q u s):wpAny (model prog w) A (getItem (.ref l) (.int j t)) Q E s:=by
 obtain⟨hk,⟨h0,h1,h2⟩ | ⟨h0,h1,h2⟩⟩:=eR e
 ·exact wpAny_getItem_list (IsList.of hl) h0 (b7 e hz).2 (by rw[h1];exact List.getElem?_toArray.trans hu) h
 ·exact wpAny_getItem_list_neg (IsList.of hl) h0 (by rw[List.size_toArray];exact h1) (b7 e hz).1 (by rw[List.size_toArray,h2];exact List.getElem?_toArray.trans hu) h
inductive ye(σ:aa)(r:V):V->V->Prop
 |li (xs:List PyData) (j:Int) (kk:Nat) (d:PyData) (e2:seqIndex? j xs.length=some kk) (e3:xs[kk]?=some d) (e:r=.d d):ye σ r (.d (.list xs)) (.d (.int j))
 |tu (xs:List PyData) (j:Int) (kk:Nat) (d:PyData) (e2:seqIndex? j xs.length=some kk) (e3:xs[kk]?=some d) (e:r=.d d):ye σ r (.d (.tuple xs)) (.d (.int j))
 |st (z:Str) (j:Int) (kk:Nat) (c:Nat) (hz:z.length<=LIM) (e2:seqIndex? j z.length=some kk) (e3:z.cps[kk]?=some c) (e:r=.d (.str ⟨#[c]⟩)):ye σ r (.d (.str z)) (.d (.int j))
 |lo (l:Nat) (xs:List V) (j:Int) (kk:Nat) (d:V) (hn:σ[l]?=some (.lst xs)) (e2:seqIndex? j xs.length=some kk) (e3:xs[kk]?=some d) (e:r=dr σ d):ye σ r (.o l) (.d (.int j))
 |di (l:Nat) (kvs:List (Int×V)) (j:Int) (d:V) (hn:σ[l]?=some (.dcI kvs)) (e3:look j kvs=some d) (e:r=dr σ d):ye σ r (.o l) (.d (.int j))
 |dt (l:Nat) (kvs:List (List Int×V)) (ks:List Int) (d:V) (hn:σ[l]?=some (.dcT kvs)) (e3:look ks kvs=some d) (e:r=dr σ d):ye σ r (.o l) (.d (.tuple (ks.map .int)))
theorem CG(e:gF σ x y=some r):ye σ r x y:=by
 cases x with
 |d c=>
  obtain⟨j,ej,e⟩:=bd1 e;obtain rfl:=aS ej;obtain⟨d,e1,rfl⟩:=Option.map_eq_some_iff.mp e;cases c with
  |list xs=>
   obtain⟨kk,e2,e3⟩:=bd1 e1;exact .li xs j kk d e2 e3 rfl
  |tuple xs=>
   obtain⟨kk,e2,e3⟩:=bd1 e1;exact .tu xs j kk d e2 e3 rfl
  |str z=>
   refine Classical.byCases (p:=z.length<=LIM) (λ hz=>?_) (λ hz=>?_)
   ·obtain⟨kk,e2,e3⟩:=bd1 ((if_pos hz).symm.trans e1);obtain⟨c,e4,rfl⟩:=Option.map_eq_some_iff.mp e3;exact .st z j kk c hz e2 e4 rfl
   ·exact no ((if_neg hz).symm.trans e1)
  |_=>first | exact no e1 | exact nob e1 | cases e1
 |o l=>
  have e:wa σ y σ[l]?=some r:=e;cases hn:σ[l]? with
  |none=>rw[hn] at e;first | exact no e | exact nob e | cases e
  |some nd=>
   rw[hn] at e;cases nd with
   |lst xs=>
    obtain⟨j,ej,e⟩:=bd1 e;obtain⟨kk,e2,e⟩:=bd1 e;obtain⟨d,e3,rfl⟩:=Option.map_eq_some_iff.mp e;obtain rfl:=aS ej;exact .lo l xs j kk d hn e2 e3 rfl
   |dcI kvs=>
    obtain⟨j,ej,e⟩:=bd1 e;obtain⟨d,e3,rfl⟩:=Option.map_eq_some_iff.mp e;obtain rfl:=aS ej;exact .di l kvs j d hn e3 rfl
   |dcT kvs=>
    obtain⟨da,ea,e⟩:=bd1 e;obtain⟨ks,ek,e⟩:=bd1 e;obtain⟨d,e3,rfl⟩:=Option.map_eq_some_iff.mp e;obtain rfl:=bN ea;obtain rfl:=hW ek;exact .dt l kvs ks d hn e3 rfl
   |_=>first | exact no e | exact nob e | cases e
 |_=>first | exact no e | exact nob e | cases e
theorem yH{value slice:Expr}(hA:AOK A k)(S:SR prog w hB C J ι σ s.heap)(ra:VR w J ι σ s.heap a x)(rb:VR w J ι σ s.heap b y)(e:gF σ x y=some r)
  (h:∀v t,VR w J ι σ s.heap v r->Q v { s with toks:=t }):wpAny (model prog w) A (subscriptTail value slice a b) Q E s:=by
 obtain⟨ops,hops⟩:=eE slice a b
 replace e:=CG e
 cases e with
 |li xs j kk d e2 e3 e=>
  subst e;obtain⟨t,rfl⟩:=aH rb;obtain⟨l,vs,n,rfl,q1,q2,q3,q4⟩:=RD.aZ ra;obtain⟨u,hu,hr⟩:=q4.get e3;exact tail_any (IsList.of q1).typeIs slot_list_getitem.lookup (fX q1 q3 (q4.1▸e2) hu (h u s.toks hr)) hops
 |tu xs j kk d e2 e3 e=>
  subst e;obtain⟨t,rfl⟩:=aH rb;obtain⟨l,vs,n,rfl,q1,q2,q3,q4⟩:=RD.aX ra;obtain⟨u,hu,hr⟩:=q4.get e3;rw[<-q4.1] at e2;exact tail_any ⟨_,q1,rfl⟩ PyProof.Rows.slot_tuple_getitem.lookup (PyProof.Rows.getItem_tuple (IsTup.of q1) (b7 e2 q3).1 (b7 e2 q3).2 (j:=kk) (by rw[List.size_toArray];exact e2) (List.getElem?_toArray.trans hu) (h u s.toks hr)) hops
 |st z j kk c hz0 e2 e4 e=>
  subst e;obtain⟨t,rfl⟩:=aH rb;cases ra with
  |str _ tz hz=>
   have hok:PyData.strOk ⟨#[c]⟩=true:=by
    unfold PyData.strOk at hz ⊢;have:=Array.all_eq_true_iff_forall_mem.mp hz c (Array.mem_of_getElem? e4);simpa using this
   have f:=b7 e2 (Nat.le_trans hz0 cQ);refine tail_any (typeIs_str s z tz) PyProof.Rows.slot_str_getitem.lookup (PyProof.Rows.getItem_str (c:=c) ?_ (by rw[e2];exact e4) (h _ _ (RD.str _ _ hok))) hops;exact Bool.or_eq_false_iff.mpr ⟨decide_eq_false (Int.not_lt.mpr f.1),decide_eq_false (Int.not_le.mpr f.2)⟩
 |lo l xs j kk d hn e2 e3 e=>
  subst e;obtain⟨rfl,hlt⟩:=ra;obtain⟨t,rfl⟩:=aH rb;obtain⟨vs,n,q1,q3,q4⟩:=S.node l _ hn;obtain⟨u,hu,hr⟩:=q4.get e3;exact tail_any (IsList.of q1).typeIs slot_list_getitem.lookup (fX q1 q3 (q4.1▸e2) hu (h u s.toks (lY S hr))) hops
 |di l kvs j d hn e3 e=>
  refine bC λ k9=>?_;subst e;obtain⟨rfl,hlt⟩:=ra;obtain⟨t,rfl⟩:=aH rb;obtain⟨q0,ps,q1,q2⟩:=S.node l _ hn;obtain⟨u,hu,hr⟩:=(e3▸cR q2 j).fL;refine k9 ?_;exact tail_any q1.mapOf.typeIs slot_dict_getitem.lookup (wpAny_getItem_of (intKind_is prog w j t) q1.mapOf hu (h u _ (lY S hr))) hops
 |dt l kvs ks d hn e3 e=>
  refine bC λ k9=>?_;subst e;obtain⟨rfl,hlt⟩:=ra;obtain⟨lb,vs,n,rfl,_⟩:=RD.aX rb;obtain⟨q0,ps,q1,q3,q2⟩:=S.node l _ hn;obtain⟨u,hu,hr⟩:=(e3▸gf q2 ks).fL;obtain⟨p,hp,rfl⟩:=Option.map_eq_some_iff.mp hu;refine k9 ?_;exact tail_any q1.typeIs slot_dict_getitem.lookup (wpAny_getItem_heap (tupleKind_room_in1 (hA.qQ (n:=0) (m:=1) (by decide) (by decide))) (ny rb) q1 hp (h _ _ (lY S hr))) hops
end
end Mine.Internal
end
section
set_option tactic.hygienic true
namespace Mine.Internal
open PySem PyProof.Rows
section
variable{A:Around}{env:Env}
variable{J:Addr->Prop}{ι ι':Loc}{σ σ':aa}{s:Shared}{h h':Heap}{a b v:Value}{x y r:V}{k:Nat}
variable{Q:Value->Shared->Prop}{E:Value->Shared->Prop}
theorem gq{v:Value}{p:Option Int}{Q:Option Int->Shared->Prop}(hp:IsPart v p)(h:Q p s):wpAny (model prog w) A (Builtin.Slice.slicePartIndex v) Q E s:=by
 cases hp with
 |none=>exact PyProof.Rows.slicePart_none h
 |int i t=>exact PyProof.Rows.slicePart_int h
theorem uQ(n:Nat)(v:Int):(if v<0 then max (v+n) 0 else min v n)=((clipAt n v:Nat):Int):=by
 rw[clipAt_cast];by_cases h:v<0
 ·rw[if_pos h,if_pos h,Int.min_eq_left (by have:=Int.add_le_add_right (Int.le_of_lt h) n;rwa [Int.zero_add] at this),Int.max_comm]
 ·rw[if_neg h,if_neg h,Int.max_eq_right (Int.le_min.mpr ⟨Int.not_lt.mp h,Int.natCast_nonneg n⟩)]
theorem nk(lo hi:Option Int)(n:Nat):Builtin.Slice.sliceAdjust lo hi 1 (n:Int)=(((lo.elim 0 (clipAt n):Nat):Int),((hi.elim n (clipAt n):Nat):Int)):=by
 cases lo<;>cases hi
 ·rfl
 ·exact congrArg (Prod.mk _) (uQ n _)
 ·exact congrArg (Prod.mk · _) (uQ n _)
 ·exact(congrArg (Prod.mk · _) (uQ n _)).trans (congrArg (Prod.mk _) (uQ n _))
theorem ic{sl:Addr}{vl vu:Value}{lo hi:Option Int}{n:Nat}{Q:Int×Int×Nat->Shared->Prop}(hs:s.heap.IsSliceOf sl vl vu .none)(pl:IsPart vl lo)(pu:IsPart vu hi)
  (h:Q (((lo.elim 0 (clipAt n):Nat):Int),1,hi.elim n (clipAt n)-lo.elim 0 (clipAt n)) s):wpAny (model prog w) A (Builtin.Slice.sliceApplied (.ref sl) (pure (n:Int))) Q E s:=by
 refine bC λ k9=>?_;obtain⟨os,hos,hcs,hds⟩:=id hs;refine k9 ?_;delta Builtin.Slice.sliceApplied Builtin.Slice.sliceFields;refine wpAny_bind (wpAny_bind (wpAny_field hos hds (x:=vl) rfl (wpAny_bind (wpAny_field hos hds (x:=vu) rfl (wpAny_bind (wpAny_field hos hds (x:=.none) rfl (wpAny_pure ?_)))))));refine wpAny_bind (PyProof.Rows.slicePart_none ?_);rw[if_neg (by decide)];refine wpAny_bind (gq pl (wpAny_bind (gq pu (wpAny_bind (wpAny_pure ?_)))));show wpAny _ _ (match Builtin.Slice.sliceAdjust lo hi 1 (n:Int) with | (lo,hi)=>pure (lo,(1:Int),Builtin.Slice.slicePlaces lo hi 1)) _ _ s;rw[nk lo hi n];show wpAny _ _ (pure (((lo.elim 0 (clipAt n):Nat):Int),(1:Int),Builtin.Slice.slicePlaces ((lo.elim 0 (clipAt n):Nat):Int) ((hi.elim n (clipAt n):Nat):Int) 1)) _ _ s;have e:Builtin.Slice.slicePlaces ((lo.elim 0 (clipAt n):Nat):Int) ((hi.elim n (clipAt n):Nat):Int) 1=hi.elim n (clipAt n)-lo.elim 0 (clipAt n):=by
  delta Builtin.Slice.slicePlaces;rw[if_pos (by decide)];generalize hi.elim n (clipAt n)=b;generalize lo.elim 0 (clipAt n)=a;by_cases q:a<b
  ·rw[if_pos (Int.ofNat_lt.mpr q),Int.ediv_one,Int.sub_add_cancel,Int.toNat_sub]
  ·rw[if_neg λ z=>q (Int.ofNat_lt.mp z),Nat.sub_eq_zero_of_le (Nat.not_lt.mp q)];rfl
 rw[e];exact wpAny_pure h
theorem tO(xs:Array Value)(a k:Nat):((List.range k).filterMap fun(j:Nat)=>xs[((a:Int)+(j:Int)*1).toNat]?).toArray=((xs.toList.drop a).take k).toArray:=by
 have e:(fun(k:Nat)=>xs[((a:Int)+(k:Int)*1).toNat]?)=λ k=>xs[a+k]?:=by
  funext k;have:((a:Int)+(k:Int)*1).toNat=a+k:=by lia
  rw[this]
 rw[e];have:=pick_run xs a k;rw[List.filterMap_map] at this;have e2:((λ x=>xs[x]?) ∘ λ x=>a+x)=λ k=>xs[a+k]?:=rfl;rw[e2] at this;rw[this]
theorem eu{α:Type}(lo hi:Option Int)(xs:List α):(cutAt lo hi xs).length<=xs.length:=by
 exact((List.take_sublist _ _).trans (List.drop_sublist _ _)).length_le
theorem aA.cut{α β:Type}{R:α->β->Prop}{vs:List α}{xs:List β}(r:aA R vs xs)(lo hi:Option Int):aA R (cutAt lo hi vs) (cutAt lo hi xs):=by
 unfold cutAt;rw[r.1];exact(r.drop _).take _
end
section
namespace getItem_tuple_cut_e
noncomputable section
def P(A:Around)(s:Shared)(Q:Value->Shared->Prop)(E:Value->Shared->Prop)(t:Addr)(sl:Addr)(vs:List Value)(n:Nat)(vl:Value)(vu:Value)(lo:Option Int)(hi:Option Int):Prop:=∀(ht:s.heap.get? t=some (c6 vs n)) (hs:s.heap.IsSliceOf sl vl vu .none) (pl:IsPart vl lo) (pu:IsPart vu hi) (hz:vs.length<=BIG) (h:Q (.ref s.heap.objs.size) { s with heap:=s.heap.push { cls:=.type "tuple",data:=.seq (cutAt lo hi vs).toArray } }) (h':cutAt lo hi vs=vs->Q (.ref t) s),wpAny (model prog w) A (getItem (.ref t) (.ref sl)) Q E s
def x:(Around)×(Shared)×(Value->Shared->Prop)×(Value->Shared->Prop)×(Addr)×(Addr)×(List Value)×(Nat)×(Value)×(Value)×(Option Int)×(Option Int):=@Classical.epsilon _ ⟨({},{},default,default,default,default,default,default,default,default,default,default)⟩ λ x=>¬P x.1 x.2.1 x.2.2.1 x.2.2.2.1 x.2.2.2.2.1 x.2.2.2.2.2.1 x.2.2.2.2.2.2.1 x.2.2.2.2.2.2.2.1 x.2.2.2.2.2.2.2.2.1 x.2.2.2.2.2.2.2.2.2.1 x.2.2.2.2.2.2.2.2.2.2.1 x.2.2.2.2.2.2.2.2.2.2.2
def A:Around:=x.1
def s:Shared:=x.2.1
def Q:Value->Shared->Prop:=x.2.2.1
def E:Value->Shared->Prop:=x.2.2.2.1
def t:Addr:=x.2.2.2.2.1
def sl:Addr:=x.2.2.2.2.2.1
def vs:List Value:=x.2.2.2.2.2.2.1
def n:Nat:=x.2.2.2.2.2.2.2.1
def vl:Value:=x.2.2.2.2.2.2.2.2.1
def vu:Value:=x.2.2.2.2.2.2.2.2.2.1
def lo:Option Int:=x.2.2.2.2.2.2.2.2.2.2.1
def hi:Option Int:=x.2.2.2.2.2.2.2.2.2.2.2
theorem core:P A s Q E t sl vs n vl vu lo hi:=λ ht hs pl pu hz h h'=>by
 have hT:IsTup s.heap t vs.toArray:=IsTup.of ht;have hdrop:sizeOk (.seq (cutAt lo hi vs).toArray):=by
  show(cutAt lo hi vs).toArray.size<=sizeLine;rw[List.size_toArray];exact Nat.le_trans (eu lo hi vs) (Nat.le_trans hz aE)
 refine bC λ k9=>?_;obtain⟨os,hos,hcs,hds⟩:=id hs;have hTs:s.TypeIs (.ref sl) "slice":=⟨os,hos,hcs⟩;refine k9 ?_;unfold getItem
 try with_reducible refine wpAny_holding ?_
 first | refine wpAny_bind (wpAny_pure ?_) | skip
 refine wpAny_bind (wpAny_sequenceKey hT.typeIs (by decide) ?_);refine wpAny_bind (wpAny_callSpecial?_slot (name:=Str.ofString "__getitem__") hT.typeIs PyProof.Rows.slot_tuple_getitem
  (wpAny_call_entry PyProof.Rows.slot_tuple_getitem hT.typeIs PyProof.Rows.entry_tuple_getitem ?_ (PyProof.Rows.args_tuple_getitem _ _)))
 show wpAny _ _ (Builtin.Tuple.tupleItemsOf (.ref t) >>= _) _ _ s;refine wpAny_bind (tupleItemsOf_ hT ?_);refine wpAny_bind (wpAny_typeOf hTs ?_);rw[if_pos (by decide)];refine wpAny_bind (ic hs pl pu ?_);rw[List.size_toArray];generalize hlo:lo.elim 0 (clipAt vs.length)=p at *;generalize hhi:hi.elim vs.length (clipAt vs.length)=q at *;have hcut:cutAt lo hi vs=(vs.drop p).take (q-p):=by unfold cutAt;rw[hlo,hhi]
 show wpAny _ _ (if((p:Int) == 0 && (1:Int) == 1 && (q-p) == vs.length)=true then _ else _) _ _ s;split
 ·rename_i hc;simp only[Bool.and_eq_true,beq_iff_eq] at hc;have hp:p=0:=by lia
  have hw:cutAt lo hi vs=vs:=by rw[hcut,hp,List.drop_zero,List.take_of_length_le (by lia)]
  unfold Builtin.Tuple.tupleIsExact;refine wpAny_bind (wpAny_bind (wpAny_typeOf hT.typeIs (wpAny_pure ?_)));rw[if_pos (by decide)]
  first
   |exact wpAny_bind (wpAny_rule (wpAny_pure ⟨_,rfl,wpAny_pure (h' hw)⟩))
   |exact wpAny_bind (wpAny_rule (wpAny_bind (m:=ret _) (wpAny_pure (wpAny_pure ⟨_,rfl,wpAny_pure (h' hw)⟩))))
   |exact wpAny_bind (wpAny_bind (wpAny_rule (wpAny_pure (wpAny_pure ⟨_,rfl,wpAny_pure (h' hw)⟩))))
 ·rw[tO,<-hcut]
  first
   |exact wpAny_bind (m:=Builtin.Tuple.tupleExact _) (wpAny_newObj_type (wpAny_pure ⟨_,rfl,wpAny_pure h⟩) hdrop)
   |exact wpAny_bind (m:=Builtin.Tuple.tupleExact _) (wpAny_newObj_type (wpAny_bind (wpAny_pure (wpAny_pure ⟨_,rfl,wpAny_pure h⟩))) hdrop)
   |exact wpAny_bind (wpAny_bind (m:=Builtin.Tuple.tupleExact _) (wpAny_newObj_type (wpAny_pure (wpAny_pure ⟨_,rfl,wpAny_pure h⟩)) hdrop))
   |exact wpAny_bind (wpAny_bind (m:=Builtin.Tuple.tupleExact _) (wpAny_newObj_type (wpAny_pure ⟨_,rfl,wpAny_pure h⟩) hdrop))
end
end getItem_tuple_cut_e
variable{A:Around}{env:Env}
variable{J:Addr->Prop}{ι ι':Loc}{σ σ':aa}{s:Shared}{h h':Heap}{a b v:Value}{x y r:V}{k:Nat}
variable{Q:Value->Shared->Prop}{E:Value->Shared->Prop}
theorem fY{t sl:Addr}{vs:List Value}{n:Nat}{vl vu:Value}{lo hi:Option Int}(ht:s.heap.get? t=some (c6 vs n))(hs:s.heap.IsSliceOf sl vl vu .none)(pl:IsPart vl lo)(pu:IsPart vu hi)
  (hz:vs.length<=BIG) (h:Q (.ref s.heap.objs.size) { s with heap:=s.heap.push { cls:=.type "tuple",data:=.seq (cutAt lo hi vs).toArray } }) (h':cutAt lo hi vs=vs->Q (.ref t) s):wpAny (model prog w) A (getItem (.ref t) (.ref sl)) Q E s:=aw (Q:=λ x:(Around)×(Shared)×(Value->Shared->Prop)×(Value->Shared->Prop)×(Addr)×(Addr)×(List Value)×(Nat)×(Value)×(Value)×(Option Int)×(Option Int)=>getItem_tuple_cut_e.P x.1 x.2.1 x.2.2.1 x.2.2.2.1 x.2.2.2.2.1 x.2.2.2.2.2.1 x.2.2.2.2.2.2.1 x.2.2.2.2.2.2.2.1 x.2.2.2.2.2.2.2.2.1 x.2.2.2.2.2.2.2.2.2.1 x.2.2.2.2.2.2.2.2.2.2.1 x.2.2.2.2.2.2.2.2.2.2.2) getItem_tuple_cut_e.core (A,s,Q,E,t,sl,vs,n,vl,vu,lo,hi) ht hs pl pu hz h h'
theorem tI{value slice:Expr}{d r:PyData}{sl:Addr}{vl vu:Value}{lo hi:Option Int}(S:SR prog w hB C J ι σ s.heap)(ra:VR w J ι σ s.heap a (.d d))(hs:s.heap.IsSliceOf sl vl vu .none)(pl:IsPart vl lo)(pu:IsPart vu hi)
  (e:slice? d lo hi=some r) (h:∀v s' ι',Goes prog w hB C J s ι σ s' ι' σ->VR w J ι' σ s'.heap v (.d r)->Q v s'):wpAny (model prog w) A (subscriptTail value slice a (.ref sl)) Q E s:=by
 obtain⟨ops,hops⟩:=eE slice a (.ref sl);cases d with
 |list xs=>
  cases e;obtain⟨l,vs,n,rfl,q1,q2,q3,q4⟩:=RD.aZ ra;refine tail_any (IsList.of q1).typeIs slot_list_getitem.lookup (wpAny_getItem_list_slice (IsList.of q1) hs pl pu .none (by simp) ?_ (by rw[List.size_toArray];exact Nat.le_trans q3 aE)) hops;rw[slicePick_plain];exact h _ _ _ (c9 (n:=0) S (q4.cut lo hi) (Nat.le_trans (eu lo hi vs) q3)).1 (c9 (n:=0) S (q4.cut lo hi) (Nat.le_trans (eu lo hi vs) q3)).2
 |tuple xs=>
  cases e;obtain⟨l,vs,n,rfl,q1,q2,q3,q4⟩:=RD.aX ra;refine tail_any (IsTup.of q1).typeIs PyProof.Rows.slot_tuple_getitem.lookup (fY q1 hs pl pu q3 ?_ ?_) hops
  ·obtain⟨g,q⟩:=ed (n:=0) S (q4.cut lo hi) (Nat.le_trans (eu lo hi vs) q3);exact h _ _ _ g q
  ·intro hw;refine h _ _ ι (Goes.refl S) ?_;exact RD.nv q1 q2 q3 (hw▸q4.cut lo hi)
 |_=>first | exact no e | exact nob e | cases e
theorem pz{l:Addr}{vs:List Value}{n kk:Nat}{u:Value}(ho:h.get? l=some (aP vs n))(hk:kk<vs.length) :
  ∃n',(h.update l (Obj.mapSeq (·.setIfInBounds kk u))).get? l=some (aP (vs.set kk u) n'):=by
 refine⟨n,(Heap.get?_update_self (Obj.mapSeq (·.setIfInBounds kk u)) ho rfl).trans ?_⟩;simp[Obj.mapSeq]
theorem ni{j:Int}:∀(ps:List (Int×Value)),ps.any (λ kv=>kv.1=j)=(valueAt ps j).isSome:=by
 intro ps
 induction ps with
 |nil=>
  exact rfl
 |cons p ps ih=>
  refine Classical.byCases (p:=p.1=j) (λ hp=>?_) (λ hp=>?_)
  ·rw[List.any_cons,decide_eq_true hp,valueAt,en,if_pos hp];rfl
  ·rw[List.any_cons,decide_eq_false hp,valueAt,en,if_neg hp];exact ih
theorem o7{R:Value->V->Prop}{ps:List (Int×Value)}{kvs:List (Int×V)}{j:Int}(r:aA (λ p q=>p.1=q.1/\R p.2 q.2) ps kvs)(rv:R v x) :
  aA (λ p q=>p.1=q.1/\R p.2 q.2) (PySem.stored ps j v) (put j x kvs):=by
 delta PySem.stored put;rw[ni,(cR r j).isSome];cases(look j kvs).isSome with
 |true=>
  refine⟨by rw[if_pos rfl,if_pos rfl,List.length_map,List.length_map];exact r.1,λ i p q hp hq=>?_⟩;rw[if_pos rfl,List.getElem?_map] at hp hq;obtain⟨p',hp',rfl⟩:=Option.map_eq_some_iff.mp hp;obtain⟨q',hq',rfl⟩:=Option.map_eq_some_iff.mp hq;obtain⟨z1,z2⟩:=r.2 i p' q' hp' hq';rw[z1];by_cases hj:q'.1=j
  ·rw[if_pos hj,if_pos hj];exact⟨rfl,rv⟩
  ·rw[if_neg hj,if_neg hj];exact⟨z1,z2⟩
 |false=>exact r.append (aA.one (v:=(j,v)) (x:=(j,x)) ⟨rfl,rv⟩)
theorem my{R:Value->V->Prop}{ps:List (List Int×Addr×Value)}{kvs:List (List Int×V)}{j:List Int}{l:Addr}(r:aA (λ p q=>p.1=q.1/\R p.2.2 q.2) ps kvs)(rv:R v x) :
  aA (λ p q=>p.1=q.1/\R p.2.2 q.2) (PySem.storedH ps j l v) (put j x kvs):=by
 have e1:=(gf r j).isSome;rw[Option.isSome_map] at e1;delta PySem.storedH put;rw[e1];cases(look j kvs).isSome with
 |true=>
  refine⟨by rw[if_pos rfl,if_pos rfl,List.length_map,List.length_map];exact r.1,λ i p q hp hq=>?_⟩;rw[if_pos rfl,List.getElem?_map] at hp hq;obtain⟨p',hp',rfl⟩:=Option.map_eq_some_iff.mp hp;obtain⟨q',hq',rfl⟩:=Option.map_eq_some_iff.mp hq;obtain⟨z1,z2⟩:=r.2 i p' q' hp' hq';delta putAt;rw[z1];refine Classical.byCases (p:=q'.1=j) (λ hj=>?_) (λ hj=>?_)
  ·rw[if_pos hj,if_pos hj];exact⟨rfl,rv⟩
  ·rw[if_neg hj,if_neg hj];exact⟨z1,z2⟩
 |false=>exact r.append (aA.one (v:=(j,l,v)) (x:=(j,x)) ⟨rfl,rv⟩)
theorem oH{K:Type}[DecidableEq K]{k:K}{kvs:List (K×V)}(h:kvs.length<LIM):(put k x kvs).length<=LIM:=by
 unfold put;by_cases q:(look k kvs).isSome=true
 ·rw[if_pos q,List.length_map];exact Nat.le_of_lt h
 ·rw[if_neg q,List.length_append];exact h
inductive StC(σ:aa)(x:V)(σ':aa):V->V->Prop
 |lo (l:Nat) (xs:List V) (j:Int) (kk:Nat) (hn:σ[l]?=some (.lst xs)) (e2:seqIndex? j xs.length=some kk) (hk:kk<xs.length) (e:σ'=σ.set l (.lst (xs.set kk x))):StC σ x σ' (.o l) (.d (.int j))
 |di (l:Nat) (kvs:List (Int×V)) (j:Int) (hn:σ[l]?=some (.dcI kvs)) (hl:kvs.length<LIM) (e:σ'=σ.set l (.dcI (put j x kvs))):StC σ x σ' (.o l) (.d (.int j))
 |dt (l:Nat) (kvs:List (List Int×V)) (ks:List Int) (hn:σ[l]?=some (.dcT kvs)) (hl:kvs.length<LIM) (e:σ'=σ.set l (.dcT (put ks x kvs))):StC σ x σ' (.o l) (.d (.tuple (ks.map .int)))
theorem stC{c i:V}(e:dI c i x σ=some σ'):StC σ x σ' c i:=by
 cases c with
 |o l=>
  have e:sV l i x σ σ[l]?=some σ':=e;cases hn:σ[l]? with
  |none=>rw[hn] at e;first | exact no e | exact nob e | cases e
  |some nd=>
   rw[hn] at e;cases nd with
   |lst xs=>
    obtain⟨j,ej,e1⟩:=bd1 e;obtain rfl:=aS ej;obtain⟨kk,e2,e1⟩:=bd1 e1;by_cases hk:kk<xs.length
    ·cases(if_pos hk).symm.trans e1;exact .lo l xs j kk hn e2 hk rfl
    ·exact no ((if_neg hk).symm.trans e1)
   |dcI kvs=>
    obtain⟨j,ej,e1⟩:=bd1 e;obtain rfl:=aS ej;by_cases hk:kvs.length<LIM
    ·cases(if_pos hk).symm.trans e1;exact .di l kvs j hn hk rfl
    ·exact no ((if_neg hk).symm.trans e1)
   |dcT kvs=>
    obtain⟨da,ea,e1⟩:=bd1 e;obtain rfl:=bN ea;obtain⟨ks,ek,e2⟩:=bd1 e1;obtain rfl:=hW ek;by_cases hk:kvs.length<LIM
    ·cases(if_pos hk).symm.trans e2;exact .dt l kvs ks hn hk rfl
    ·exact no ((if_neg hk).symm.trans e2)
   |_=>first | exact no e | exact nob e | cases e
 |_=>first | exact no e | exact nob e | cases e
theorem lp{c:Value}{xc:V}{Q:Unit->Shared->Prop}(hA:AOK A k)(S:SR prog w hB C J ι σ s.heap)(rc:VR w J ι σ s.heap c xc)(ri:VR w J ι σ s.heap b y)(rv:VR w J ι σ s.heap v x)(e:dI xc y x σ=some σ')
  (h:∀s' ι',Goes prog w hB C J s ι σ s' ι' σ'->Q () s'):wpAny (model prog w) A (setItem c b v) Q E s:=by
 replace e:=stC e
 cases e with
 |lo l xs j kk hn ek hkk e=>
  subst e;obtain⟨rfl,hlt⟩:=rc;obtain⟨t,rfl⟩:=aH ri;obtain⟨vs,n,q1,q3,q4⟩:=S.node l _ hn;obtain⟨n',hn'⟩:=pz (u:=v) q1 (q4.1▸hkk);have fin:Q () { s with heap:=s.heap.update (ι l).1 (Obj.mapSeq (·.setIfInBounds kk v)) }:=by
   have hk2:∀b o,b≠(ι l).1->b≠(ι l).2->s.heap.get? b=some o->(s.heap.update (ι l).1 (Obj.mapSeq (·.setIfInBounds kk v))).get? b=some o:=λ b o h1 _ ho=>(Heap.get?_update_other _ _ (Ne.symm h1)).trans ho;have ev:Evo ι σ s.heap ι (σ.set l (.lst (xs.set kk x))) _:=Evo.set hn rfl hk2;exact h _ ι ⟨⟨rfl,GX.refl _⟩,ev,S.set hn rfl hk2 ⟨vs.set kk v,n',hn',by rw[List.length_set];exact q3,(q4.set kk rv).mono λ v x r=>r.evo ev⟩ (λ _=>S.two l _ hn rfl)⟩
  rw[<-q4.1] at ek;obtain⟨_,⟨h0,h1,h2⟩ | ⟨h0,h1,h2⟩⟩:=eR ek
  ·exact W.ki_setAt q1 h0 (b7 ek q3).2 (by rw[List.size_toArray];exact h2) (by rw[h1];exact fin)
  ·exact W.ki_setBack q1 h0 (by rw[List.size_toArray];exact h1) (b7 ek q3).1 (by rw[List.size_toArray,h2];exact fin)
 |di l kvs j hn hlen e=>
  subst e;obtain⟨rfl,hlt⟩:=rc;obtain⟨t,rfl⟩:=aH ri;obtain⟨q0,ps,q1,q2⟩:=S.node l _ hn;refine wpAny_setItem_pairs (intKind_is prog w j t) q1 (λ h' hm hsb=>?_) (by rw[q2.1];exact Nat.le_trans q0.1 (Nat.le_trans cQ aE));have hk2:∀b o,b≠(ι l).1->b≠(ι l).2->s.heap.get? b=some o->h'.get? b=some o:=λ b o h1 _ ho=>(hsb.2 b h1).trans ho;have ev:Evo ι σ s.heap ι (σ.set l (.dcI (put j x kvs))) h':=Evo.set hn rfl hk2;exact h _ ι ⟨⟨rfl,GX.refl _⟩,ev,S.set hn rfl hk2 ⟨⟨oH hlen,q0.2⟩,_,hm,o7 (R:=VR w J ι (σ.set l (.dcI (put j x kvs))) h') (q2.mono λ p q r=>⟨r.1,r.2.evo ev⟩) (rv.evo ev)⟩ (λ _=>S.two l _ hn rfl)⟩
 |dt l kvs ks hn hlen e=>
  subst e;obtain⟨rfl,hlt⟩:=rc;obtain⟨lb,vsb,nb,rfl,gb1,gb2,_⟩:=RD.aX ri;obtain⟨q0,ps,q1,q3,q2⟩:=S.node l _ hn;refine wpAny_setItem_heap (tupleKind_room_in1 (hA.qQ (n:=0) (m:=1) (by decide) (by decide))) (ny ri) q1 (λ h' hm hsb=>?_) (by rw[q2.1];exact Nat.le_trans q0.1 (Nat.le_trans cQ aE));have hk2:∀b o,b≠(ι l).1->b≠(ι l).2->s.heap.get? b=some o->h'.get? b=some o:=λ b o h1 _ ho=>(hsb.2 b h1).trans ho;have ev:Evo ι σ s.heap ι (σ.set l (.dcT (put ks x kvs))) h':=Evo.set hn rfl hk2;refine h _ ι ⟨⟨rfl,GX.refl _⟩,ev,S.set hn rfl hk2 ⟨⟨oH hlen,q0.2⟩,_,hm,λ z hz=>?_,my (R:=VR w J ι (σ.set l (.dcT (put ks x kvs))) h') (q2.mono λ p q r=>⟨r.1,r.2.evo ev⟩) (rv.evo ev)⟩ (λ _=>S.two l _ hn rfl)⟩;rcases mem_storedH hz with ⟨y,hy,_,e2⟩ | ⟨_,e2⟩
  ·rw[e2];refine bC λ k9=>?_;obtain⟨o,es,ep,ho,k1,k2,k3,k4,k5⟩:=q1;obtain⟨ob,items,m,q,r⟩:=k4 y hy;refine k9 ?_;exact ev.ex (q3 y hy) q
  ·rw[e2];exact ev.ex gb2 gb1
end
end Mine.Internal
end
section
namespace Mine.Internal
open PySem PyProof.Rows
section
variable{A:Around}{env:Env}
variable{J:Addr->Prop}{ι ι':Loc}{σ σ':aa}{s:Shared}{h h':Heap}{a b v:Value}{x y r:V}{k:Nat}
variable{Q:Value->Shared->Prop}{E:Value->Shared->Prop}
theorem iA{l:Addr}{vs:List Value}{n:Nat}(q:s.heap.get? l=some (aP vs n))(hz:vs.length<=BIG)(h:∀t u,Q (.int vs.length u) { s with toks:=t }) :
  wpAny (model prog w) A (call (.builtin "len") [.ref l]) Q E s:=by
 exact PySem.Calls.call_len_list (IsList.of q) (nc hz) (h _ _)
theorem zd(S:SR prog w hB C J ι σ s.heap){d:PyData}{n:Nat}(ra:VR w J ι σ s.heap a (.d d))(e:B2 d=some n)(h:∀v t,VR w J ι σ s.heap v (.d (.int n))->Q v { s with toks:=t }) :
  wpAny (model prog w) A (call (.builtin "len") [a]) Q E s:=by
 cases d with
 |list xs=>
  cases e;obtain⟨l,vs,m,rfl,q1,q2,q3,q4⟩:=RD.aZ ra;exact iA q1 q3 λ t u=>by rw[q4.1];exact h _ _ (RD.int _ _)
 |tuple xs=>
  cases e;obtain⟨l,vs,m,rfl,q1,q2,q3,q4⟩:=RD.aX ra;exact PySem.P.len_tuple q1 (Int.not_le.mpr (nc q3)) (by rw[List.size_toArray,q4.1];exact h _ _ (RD.int _ _))
 |_=>first | exact no e | exact nob e | cases e
theorem w6{own:Bool}{d:PyData}{xs:List PyData}(S:SR prog w hB C J ι σ s.heap)(ra:VR w J ι σ s.heap a (.d d))(ei:items? d=some xs)(e:cF own (xs.map .d) σ=some (r,σ'))
  (h:∀v s' ι',Goes prog w hB C J s ι σ s' ι' σ'->VR w J ι' σ' s'.heap v r->Q v s'):wpAny (model prog w) A (call (.type "list") [a]) Q E s:=by
 have key:∀(l:Addr) (vs:List Value) (o:Obj) (T:String) (n:Nat),(T="list"\/T="tuple")->s.heap.get? l=some o->o.cls=.type T->o.data=.seq vs.toArray n->vs.length<=BIG->aA (RD (Ex J ι σ) s.heap) vs xs->wpAny (model prog w) A (call (.type "list") [.ref l]) Q E s:=by
  intro l vs o T n hT ho hc hd hl hr;refine call_list_seq (hsz:=by rw[List.size_toArray];exact Nat.le_trans hl aE) l hT ho hc hd λ h' c' hk hD=>?_;cases own with
  |true=>
   refine bC λ k9=>?_;cases e;have ev:Evo ι σ s.heap (ι.add σ s.heap.objs.size s.heap.objs.size) (σ++[.lst (xs.map .d)]) h':=Evo.grow (aD _) (aD _) hk;refine k9 ?_;exact h _ _ _ ⟨⟨rfl,GX.refl _⟩,ev,S.grow (aD _) (aD _) hk ⟨vs,c',hD,hl,(fF hr).mono λ v x r=>r.evo ev⟩ (λ _=>rfl)⟩ VR.top
  |false=>
   refine bC λ k9=>?_;obtain⟨ds,e1,e2⟩:=Option.map_eq_some_iff.mp e;cases e2;obtain rfl:ds=xs:=(List.map_inj_right (λ a b e=>V.d.inj e)).mp (fq e1).symm;refine k9 ?_;exact h _ _ _ (Goes.more S hk) (RD.rM hD (S.fresh (aD _)) hl (hr.mono λ v x r=>r.evo (Evo.aM hk)))
 cases d with
 |list ys=>
  cases ei;obtain⟨l,vs,m,rfl,q1,q2,q3,q4⟩:=RD.aZ ra;exact key l vs _ "list" m (.inl rfl) q1 rfl rfl q3 q4
 |tuple ys=>
  cases ei;obtain⟨l,vs,m,rfl,q1,q2,q3,q4⟩:=RD.aX ra;exact key l vs _ "tuple" m (.inr rfl) q1 rfl rfl q3 q4
 |_=>first | exact no ei | exact nob ei | cases ei
theorem xg{X:Addr->Prop}:∀{is:List Int} {vs:List Value},aA (RD X h) vs (is.map .int)->∃ps:List (Int×Tok),vs=ps.map (λ p=>Value.int p.1 p.2)/\ps.map (·.1)=is:=by
 intro is
 induction is with
 |nil=>
  intro vs r;exact⟨[],by rw[r.bu];rfl,rfl⟩
 |cons i is ih=>
  intro vs r;obtain⟨v,ws,rfl,h1,h2⟩:=r.cons_right;obtain⟨ps,rfl,e⟩:=ih h2;cases h1 with
  |int i t=>exact⟨(i,t)::ps,rfl,congrArg (i::·) e⟩
theorem yG{xs:List PyData}{is:List Int}(hA:AOK A k)(S:SR prog w hB C J ι σ s.heap)(ra:VR w J ι σ s.heap a (.d (.list xs)))(e:lM xs=some is)
  (h:∀v s',Goes prog w hB C J s ι σ s' ι σ->VR w J ι σ s'.heap v (.d (.int is.sum))->Q v s'):wpAny (model prog w) A (call (.builtin "sum") [a]) Q E s:=by
 refine bC λ k9=>?_;obtain⟨l,vs,m,rfl,q1,q2,q3,q4⟩:=RD.aZ ra;rw[lL e] at q4;obtain⟨ps,rfl,hp⟩:=xg q4;refine k9 ?_;have hl:s.heap.IsList l (intItems ps.toArray):=by
  have:=IsList.of q1;simpa[intItems] using this
 refine sum_intListG hA.handled hl λ h' tk t' hk=>?_;have hs:preSum (numAt ps.toArray) ps.toArray.size=is.sum:=by
  rw[preSum_eq,List.take_of_length_le (by simp)];simp[hp]
 rw[hs];exact h _ _ (Goes.more S hk) (RD.int _ _)
theorem Ar{i:Int}(S:SR prog w hB C J ι σ s.heap)(ra:VR w J ι σ s.heap a (.d (.int i)))(h:∀v t,VR w J ι σ s.heap v (.d (.int i.natAbs))->Q v { s with toks:=t }) :
  wpAny (model prog w) A (call (.builtin "abs") [a]) Q E s:=by
 obtain⟨t,rfl⟩:=aH ra;refine call_abs_int λ u tk=>h _ _ ?_;rw[show(if i<0 then -i else i)=(i.natAbs:Int) from by split<;>omega];exact RD.int _ _
theorem pW:∀{xs:List PyData} {bs:List Bool},iQ xs=some bs->xs=bs.map .bool:=by
 intro xs
 induction xs with
 |nil=>
  intro bs e;cases e;rfl
 |cons x xs ih=>
  intro bs e;cases x with
  |bool b=>
   obtain⟨cs,h2,e⟩:=bd1 e;cases e;rw[ih h2];rfl
  |_=>first | exact no e | exact nob e | cases e
theorem nj{xs:List PyData}{bs:List Bool}(hA:AOK A k)(S:SR prog w hB C J ι σ s.heap)(ra:VR w J ι σ s.heap a (.d (.list xs)))(e:iQ xs=some bs)
  (h:∀v s',Goes prog w hB C J s ι σ s' ι σ->VR w J ι σ s'.heap v (.d (.bool (bs.all id)))->Q v s'):wpAny (model prog w) A (call (.builtin "all") [a]) Q E s:=by
 obtain⟨l,vs,m,rfl,q1,q2,q3,q4⟩:=RD.aZ ra;rw[pW e] at q4;refine call_all_walk (wpAny_pyIter_list (IsList.of q1) ?_);have hne:l≠s.heap.objs.size:=Nat.ne_of_lt (Heap.lt_size q1);refine⟨_,_,_,_,_,_,λ i=>bs.getD i true,rfl,Walks.list (A:=A.in1) hA.handled _ l hne vs.toArray,⟨⟨_,Heap.get?_push_size _ rfl,rfl,rfl⟩,(IsList.of q1).push _⟩,?_,λ h' tk hk=>?_⟩
 ·intro i v s' Q' E' hv hQ;have hv':vs[i]?=some v:=by simpa using hv
  obtain⟨d,hd,hr⟩:=q4.B6 hv';rw[List.getElem?_map] at hd;obtain⟨b,hb,rfl⟩:=Option.map_eq_some_iff.mp hd;cases hr;refine wpAny_truthy_bool ?_;have:bs.getD i true=b:=by simp[List.getD,hb]
  rw[<-this];exact hQ
 ·have hk2:∀b o,s.heap.get? b=some o->h'.get? b=some o:=λ b o ho=>hk b o (by simp only[List.mem_singleton];exact Nat.ne_of_lt (Heap.lt_size ho)) (Heap.get?_push_of_some _ ho);have hall:(List.range vs.toArray.size).all (λ i=>bs.getD i true)=bs.all id:=by
   rw[List.size_toArray,q4.1,List.length_map];rw[Bool.eq_iff_iff,List.all_eq_true,List.all_eq_true];constructor
   ·intro hh b hb;obtain⟨i,hi⟩:=List.mem_iff_getElem?.mp hb;have:=hh i (List.mem_range.mpr (List.getElem?_eq_some_iff.mp hi).1);simpa[List.getD,hi] using this
   ·intro hh i hi;have hi':=List.mem_range.mp hi;have:=hh bs[i] (List.getElem_mem hi');simpa[List.getD,List.getElem?_eq_getElem hi'] using this
  rw[hall];exact h _ _ ⟨⟨rfl,GX.refl _⟩,Evo.aM hk2,S.aM hk2⟩ (RD.bool _)
theorem vT{t:String}(S:SR prog w hB C J ι σ s.heap)(ra:VR w J ι σ s.heap a x)(e:yv x=some t)(h:Q (.type t) s):wpAny (model prog w) A (call (.type "type") [a]) Q E s:=by
 cases x with
 |d x=>
  cases x with
  |int i=>cases e;cases ra;exact call_type_of (Tx:="int") (typeIs_int s _ _) (by decide) h
  |_=>first | exact no e | exact nob e | cases e
 |_=>first | exact no e | exact nob e | cases e
end
end Mine.Internal
end
section
namespace Mine.Internal
open PySem PyProof.Rows
section
variable{J:Addr->Prop}{A:Around}{env:Env}
variable{ι ι':Loc}{σ σ':aa}{s:Shared}{h h':Heap}{a b v:Value}{x y r:V}{k:Nat}
variable{Q:Value->Shared->Prop}{E:Value->Shared->Prop}
theorem iw{l:Addr}{vs:List Value}{n:Nat}{u:Value}(ho:h.get? l=some (aP vs n)) :
  ∃n',(h.update l (Obj.mapSeq λ xs=>xs.push u)).get? l=some (aP (vs++[u]) n'):=by
 rw[Heap.get?_update_self (Obj.mapSeq λ xs=>xs.push u) ho rfl];simp only[Obj.mapSeq,List.push_toArray];exact⟨_,rfl⟩
theorem pA{l:Addr}{u:Value}{vs:List Value}{n:Nat}(ho:h.get? l=some (aP (u::vs) n)) :
  ∃n',(h.update l (Obj.mapSeq λ xs=>xs.eraseIdxIfInBounds 0)).get? l=some (aP vs n'):=by
 rw[Heap.get?_update_self (Obj.mapSeq λ xs=>xs.eraseIdxIfInBounds 0) ho rfl];simp only[Obj.mapSeq,show(u::vs).toArray.eraseIdxIfInBounds 0=vs.toArray by simp[Array.eraseIdxIfInBounds]];exact⟨_,rfl⟩
theorem sL{l:Nat}{xs:List V}(S:SR prog w hB C J ι σ s.heap)(hn:σ[l]?=some (.lst xs))(hz:xs.length<LIM)(rv:VR w J ι σ s.heap v x)
  (h:∀v s' ι',Goes prog w hB C J s ι σ s' ι' (σ.set l (.lst (xs++[x])))->VR w J ι' (σ.set l (.lst (xs++[x]))) s'.heap v (.d .none)->Q v s') :
  wpAny (model prog w) A (call (.builtin "list.append") [.ref (ι l).1,v]) Q E s:=by
 refine bC λ k9=>?_;obtain⟨vs,n,q1,q3,q4⟩:=S.node l _ hn;have hvl:vs.length<LIM:=q4.1▸hz;obtain⟨n',hn'⟩:=iw (u:=v) q1;refine k9 ?_;refine call_meets F.slot_list_append ⟨_,q1,rfl⟩ F.entry_list_append (F.args_list_append_2 _ _) (list_append (ι l).1 vs.toArray n v (by rw[List.size_toArray];exact Nat.le_trans q3 aE)) ⟨q1,?_⟩;have hk2:∀b o,b≠(ι l).1->b≠(ι l).2->s.heap.get? b=some o->(s.heap.update (ι l).1 (Obj.mapSeq λ xs=>xs.push v)).get? b=some o:=λ b o h1 _ ho=>(Heap.get?_update_other _ _ (Ne.symm h1)).trans ho;have ev:Evo ι σ s.heap ι (σ.set l (.lst (xs++[x]))) _:=Evo.set hn rfl hk2;exact h _ _ ι ⟨⟨rfl,GX.refl _⟩,ev,S.set hn rfl hk2 ⟨vs++[v],n',hn',by rw[List.length_append];exact Nat.le_trans hvl cQ,(q4.mono λ v x r=>r.evo ev).append (aA.one (rv.evo ev))⟩ (λ _=>S.two l _ hn rfl)⟩ RD.none
theorem yT{l:Nat}{xs:List V}{u:Tok}(S:SR prog w hB C J ι σ s.heap)(hn:σ[l]?=some (.lst (x::xs)))
  (h:∀v s' ι',Goes prog w hB C J s ι σ s' ι' (σ.set l (.lst xs))->VR w J ι' (σ.set l (.lst xs)) s'.heap v (dr σ x)->Q v s') :
  wpAny (model prog w) A (call (.builtin "list.pop") [.ref (ι l).1,.int 0 u]) Q E s:=by
 refine bC λ k9=>?_;obtain⟨vs,n,q1,q3,q4⟩:=S.node l _ hn;obtain⟨v,ws,rfl,rv,rs⟩:=q4.cons_right;obtain⟨n',hn'⟩:=pA q1;refine k9 ?_;refine call_meets F.slot_list_pop ⟨_,q1,rfl⟩ F.entry_list_pop (F.args_list_pop_2 _ _) (MeetsSeq.list_pop_at (ι l).1 (v::ws).toArray n 0 u 0 v (by decide) (by simp[seqIndex?]) rfl (by rw[List.size_toArray];exact Nat.le_trans q3 aE)) ⟨q1,?_⟩;have hk2:∀b o,b≠(ι l).1->b≠(ι l).2->s.heap.get? b=some o->(s.heap.update (ι l).1 (Obj.mapSeq λ xs=>xs.eraseIdxIfInBounds 0)).get? b=some o:=λ b o h1 _ ho=>(Heap.get?_update_other _ _ (Ne.symm h1)).trans ho;have ev:Evo ι σ s.heap ι (σ.set l (.lst xs)) _:=Evo.set hn rfl hk2;exact h _ _ ι ⟨⟨rfl,GX.refl _⟩,ev,S.set hn rfl hk2 ⟨ws,n',hn',Nat.le_of_succ_le q3,rs.mono λ v x r=>r.evo ev⟩ (λ _=>S.two l _ hn rfl)⟩ ((lY S rv).evo ev)
theorem zv{l:Nat}{kvs:List (Int×V)}{j:Int}{t:Tok}(S:SR prog w hB C J ι σ s.heap)(hn:σ[l]?=some (.dcI kvs))(rv:VR w J ι σ s.heap v x)
  (h:∀v t,VR w J ι σ s.heap v (((look j kvs).map (dr σ)).getD x)->Q v { s with toks:=t }) :
  wpAny (model prog w) A (call (.builtin "dict.get") [.ref (ι l).1,.int j t,v]) Q E s:=by
 refine bC λ k9=>?_;obtain⟨q0,ps,q1,q2⟩:=S.node l _ hn;have hne:=beq_eq_false_iff_ne.mpr q0.2;refine k9 ?_;refine call_meetsIn F.slot_dict_get q1.mapOf.typeIs F.entry_dict_get (F.args_dict_get_3 _ _ _) (meets_dict_get_default (intKind prog w) _ (intKind_is prog w j t) hne v) ⟨_,q1.mapOf,h _ _ ?_⟩;have hv:=cR q2 j
 revert hv
 cases valueAt ps j<;>cases look j kvs<;>intro hv
 ·exact rv
 ·exact hv.elim
 ·exact hv.elim
 ·exact lY S hv
inductive Dq(d:PyData)(xs:List PyData)(i j:Nat):Prop
 |mk (k:Nat) (x:PyData) (e:j=i+k) (hx:xs[k]?=some x) (h1:PyData.eqv x d=true) (h2:∀m y,xs[m]?=some y->m<=k->min y.depth d.depth<=64) (h3:∀m y,xs[m]?=some y->m<k->PyData.eqv y d=false)
theorem ui{d:PyData}:∀{xs:List PyData} {i j:Nat},pE d i xs=some j->Dq d xs i j:=by
 intro xs
 induction xs with
 |nil=>
  intro i j e;exact no e
 |cons y xs ih=>
  intro i j e;obtain⟨b,e1,e⟩:=bd1 e;obtain⟨hd,rfl⟩:=kx e1;refine Classical.byCases (p:=PyData.eqv y d=true) (λ hb=>?_) (λ hb=>?_)
  ·cases(if_pos hb).symm.trans e;refine⟨0,y,rfl,rfl,hb,λ m z hm hle=>?_,λ m z _ hlt=>absurd hlt (Nat.not_lt_zero m)⟩;obtain rfl:=Nat.le_zero.mp hle;cases hm;exact hd
  ·obtain⟨k,x,rfl,hx,h1,h2,h3⟩:=ih ((if_neg hb).symm.trans e);refine⟨k+1,x,Nat.add_right_comm i 1 k,hx,h1,λ m z hm hle=>?_,λ m z hm hlt=>?_⟩
   ·cases m with
    |zero=>cases hm;exact hd
    |succ m=>exact h2 m z hm (Nat.le_of_succ_le_succ hle)
   ·cases m with
    |zero=>cases hm;exact Bool.eq_false_iff.mpr hb
    |succ m=>exact h3 m z hm (Nat.lt_of_succ_lt_succ hlt)
open SeqAt in
theorem index_loopAt(l:Addr)(items:Array Value)(n:Nat)(x:Value)(e:Nat->Bool)(upto:Int)(j:Nat)(hj:j<items.size)(hupto:(j:Int)<upto)(hit:e j=true)(k:Nat) :
  ∀i:Nat,j-i=k->i<=j->(∀m,i<=m->m<j->e m=false)->Meets (Builtin.«list.index.loop» ⟨[.ref l,x,rawInt i,rawInt upto],[]⟩)
   (λ A R s=>s.heap.get? l=some { cls:=.type "list",dict:=none,data:=.seq items n,slots:=#[] }/\(∀m (hm:m<items.size),m<=j->EqAt A.in1 s items[m] x (e m))/\R (.ok (.ret (.int j s.toks))) { s with toks:=s.toks+1 }):=by
 induction k with
 |zero=>
  intro i hk hij hno prog w A R s h;obtain⟨hp,g,d,tk,os⟩:=s;obtain⟨hl,he,h⟩:=h;obtain rfl:=Nat.le_antisymm hij (Nat.sub_eq_zero_iff_le.mp hk)
  wp_walk using wpAny_loadPart' hl
  have hi:(if(i:Int)<upto then items[((i:Nat):Int).toNat]? else none)=some items[i]:=(if_pos hupto).trans (Array.getElem?_eq_getElem hj);rw[hi];refine wpAny_bind (he i hj (Nat.le_refl _) prog w _ _ ?_);rw[hit]
  wp_walk
  exact h
 |succ k ih=>
  intro i hk hij hno prog w A R s h;obtain⟨hp,g,d,tk,os⟩:=s;obtain⟨hl,he,h⟩:=h;have hlt:i<items.size:=by exact Nat.lt_of_le_of_lt ‹_› ‹_›
  have hst:(i:Int)<upto:=Int.lt_of_le_of_lt (Int.ofNat_le.mpr hij) hupto;have hlj:i<j:=Nat.lt_of_sub_eq_succ hk
  wp_walk using wpAny_loadPart' hl
  have hi:(if(i:Int)<upto then items[((i:Nat):Int).toNat]? else none)=some items[i]:=(if_pos hst).trans (Array.getElem?_eq_getElem hlt);have hc:((i:Int)+1)=((i+1:Nat):Int):=rfl;rw[hi];refine wpAny_bind (he i hlt hij prog w _ _ ?_);rw[hno i (Nat.le_refl _) hlj]
  wp_walk
  rw[hc];exact⟨plainId_quiet MeetsSeq.plain_index_loop _,codeAny_builtin MeetsSeq.entry_index_loop (by
   rw[Around.under_plainId MeetsSeq.plain_index_loop _];exact ih (i+1) (congrArg Nat.pred hk) hlj (λ m h1 h2=>hno m (by exact Nat.le_of_lt ‹_›) h2) prog w A R _ ⟨hl,he,h⟩)⟩
open SeqAt in
theorem list_indexAt(l:Addr)(items:Array Value)(n:Nat)(x:Value)(e:Nat->Bool)(j:Nat)(hj:j<items.size)(hsmall:(j:Int)<2 ^ 63-1)(hit:e j=true)(hno:∀m,m<j->e m=false) :
  Meets (Builtin.«list.index» ⟨[.ref l,x],[]⟩)
   (λ A R s=>s.heap.get? l=some { cls:=.type "list",dict:=none,data:=.seq items n,slots:=#[] }/\(∀m (hm:m<items.size),m<=j->EqAt A.in1 s items[m] x (e m))/\R (.ok (.ret (.int j s.toks))) { s with toks:=s.toks+1 }):=by
 intro prog w A R s h;obtain⟨hp,g,d,tk,os⟩:=s;obtain⟨hl,he,h⟩:=h
 wp_walk using wpAny_loadPart' hl
 have a1:((λ i:Int=>if i<0 then max 0 (i+(items.size:Int)) else i) ((none:Option Int).getD 0))=((0:Nat):Int):=by rfl
 have a2:((λ i:Int=>if i<0 then max 0 (i+(items.size:Int)) else i) ((none:Option Int).getD (2 ^ 63-1)))=2 ^ 63-1:=by rfl
 rw[a1,a2];exact⟨plainId_quiet MeetsSeq.plain_index_loop _,codeAny_builtin MeetsSeq.entry_index_loop (by
  rw[Around.under_plainId MeetsSeq.plain_index_loop _];exact index_loopAt l items n x e (2 ^ 63-1) j hj hsmall hit _ 0 rfl (Nat.zero_le _) (λ m _ h2=>hno m h2) prog w A R _ ⟨hl,he,h⟩)⟩
theorem sk{d1 d2:PyData}{v1 v2:Value}{X:Addr->Prop}{A':Around}(r1:RD X s.heap v1 d1)(r2:RD X s.heap v2 d2)(hu:A'.units+min d1.depth d2.depth<cLine):SeqAt.EqAt A' s v1 v2 (PyData.eqv d1 d2):=by
 refine bC λ k9=>?_;obtain⟨as,q1⟩:=r1.reads;obtain⟨bs,q2⟩:=r2.reads;have k1:ReadsAll s.heap [v1] [d1] (as++[]):=.cons q1 .nil;have k2:ReadsAll s.heap [v2] [d2] (bs++[]):=.cons q2 .nil;refine k9 ?_;have:=SeqAt.eqAt_readsAll [d1] [d2] A' s [v1] [v2] _ _ k1 k2 (by simp[PyData.canLayAll0,r1.canLay]) (by simp[PyData.canLayAll0,r2.canLay]) (by simpa[PyData.depthAll] using hu) 0 (by simp) (by simp);exact this
inductive Dr(A:Around)(s:Shared)(vs:List Value)(b:Value)(j:Nat):Prop
 |mk (f:Nat->Bool) (hj:j<vs.toArray.size) (h1:f j=true) (h2:∀m,m<j->f m=false) (h3:∀m (hm:m<vs.toArray.size),m<=j->SeqAt.EqAt A.in1 s vs.toArray[m] b (f m))
theorem rU{X:Addr->Prop}{d:PyData}{xs:List PyData}{vs:List Value}{j:Nat}(hA:AOK A k)(q4:aA (RD X s.heap) vs xs)(rb:RD X s.heap b d)(e:pE d 0 xs=some j):Dr A s vs b j:=by
 obtain⟨k,x,rfl,hx,h1,h2,h3⟩:=ui e;rw[Nat.zero_add];have hv:∀m,m<vs.length->∃y,xs[m]?=some y:=λ m hm=>⟨_,List.getElem?_eq_getElem (q4.1▸hm)⟩;have hk:k<vs.length:=q4.1▸(List.getElem?_eq_some_iff.mp hx).1;refine⟨λ m=>(xs[m]?).elim false λ y=>PyData.eqv y d,by rw[List.size_toArray];exact hk,by rw[hx];exact h1,λ m hm=>?_,λ m hm hle=>?_⟩
 ·obtain⟨y,hy⟩:=hv m (Nat.lt_trans hm hk);rw[hy];exact h3 m y hy hm
 ·rw[List.size_toArray] at hm;obtain⟨y,hy⟩:=hv m hm;rw[hy];exact sk (q4.2 m _ y (List.getElem?_eq_getElem hm) hy) rb (by rw[Around.in1_units];exact hA.qQ (m:=1) (h2 m y hy hle) (by decide))
theorem rT{j:Nat}{vs:List Value}(hj:j<vs.toArray.size)(q3:vs.length<=BIG):(j:Int)<2 ^ 63-1:=by
 rw[List.size_toArray] at hj;exact Int.lt_of_lt_of_le (Int.ofNat_lt.mpr (Nat.lt_of_lt_of_le hj q3)) (by decide)
theorem uh{d:PyData}{xs:List PyData}{j:Nat}(hA:AOK A k)(S:SR prog w hB C J ι σ s.heap)(ra:VR w J ι σ s.heap a (.d (.list xs)))(rb:VR w J ι σ s.heap b (.d d))(e:pE d 0 xs=some j)
  (h:∀v t,VR w J ι σ s.heap v (.d (.int j))->Q v { s with toks:=t }):wpAny (model prog w) A (call (.builtin "list.index") [a,b]) Q E s:=by
 obtain⟨l,vs,n,rfl,q1,q2,q3,q4⟩:=RD.aZ ra;obtain⟨f,hj,h1,h2,h3⟩:=rU hA q4 rb e;exact call_meets F.slot_list_index ⟨_,q1,rfl⟩ F.entry_list_index (F.args_list_index_2 _ _) (list_indexAt l vs.toArray n b f j hj (rT hj q3) h1 h2) ⟨q1,h3,h _ _ (RD.int _ _)⟩
theorem qC:∀{xs:List PyData} {ss:List Str},strs? xs=some ss->xs=ss.map .str:=by
 intro xs
 induction xs with
 |nil=>
  intro ss e;cases e;rfl
 |cons x xs ih=>
  intro ss e;cases x with
  |str b=>
   obtain⟨cs,h2,e⟩:=bd1 e;cases e;rw[ih h2];rfl
  |_=>first | exact no e | exact nob e | cases e
theorem pT{z:Str}:∀{ss:List Str} {vs:List Value} {X:Addr->Prop},aA (RD X h) vs (ss.map .str)->vs.countP (Value.isStrOf z)=ss.count z:=by
 intro ss
 induction ss with
 |nil=>
  intro vs X r;rw[r.bu];rfl
 |cons j ss ih=>
  intro vs X r;obtain⟨v,ws,rfl,h1,h2⟩:=r.cons_right;cases h1;rw[List.countP_cons,List.count_cons,ih h2];rfl
theorem uF{d c:PyData}{n:Nat}(S:SR prog w hB C J ι σ s.heap)(ra:VR w J ι σ s.heap a (.d c))(rb:VR w J ι σ s.heap b (.d d))(e:Ad d c=some n)
  (h:∀v t,VR w J ι σ s.heap v (.d (.int n))->Q v { s with toks:=t }):wpAny (model prog w) A (call (.builtin "list.count") [a,b]) Q E s:=by
 cases d with
 |str z=>
  cases c with
  |list xs=>
   obtain⟨ss,e1,rfl⟩:=Option.map_eq_some_iff.mp e;obtain⟨l,vs,m,rfl,q1,q2,q3,q4⟩:=RD.aZ ra;cases rb with
   |str _ t _=>
    rw[qC e1] at q4;refine call_meets F.slot_list_count ⟨_,q1,rfl⟩ F.entry_list_count (F.args_list_count_2 _ _) (MeetsSeq.list_count l vs.toArray m (.str z t) (Value.isStrOf z) (λ y hy=>?_)) ⟨q1,?_⟩
    ·obtain⟨k,hk⟩:=List.mem_iff_getElem?.mp (List.mem_toArray.mp hy);obtain⟨d,hd,hr⟩:=q4.B6 hk;rw[List.getElem?_map] at hd;obtain⟨j,_,rfl⟩:=Option.map_eq_some_iff.mp hd;cases hr;exact eqGives_str _ _ _ _
    ·rw[show vs.toArray.toList=vs from rfl,pT q4];exact h _ _ (RD.int _ _)
  |_=>first | exact no e | exact nob e | cases e
 |_=>first | exact no e | exact nob e | cases e
end
end Mine.Internal
end
section
namespace Mine.Internal
open PySem PyProof.Rows
section
variable{J J':Addr->Prop}{A:Around}{env:Env}
variable{ι ι':Loc}{σ σ':aa}{s:Shared}{h h':Heap}{a b v:Value}{x y r:V}{k:Nat}
theorem Mv.fG(hJ:∀b,J' b->J b\/h.get? b=Option.none)(hk:∀b o,¬J b->h.get? b=some o->h'.get? b=some o):Mv J ι σ h J' ι σ h':=
 ⟨λ b o hb ho=>hk b o (λ q=>hb (.inl q)) ho,λ b o hb ho q=>q.elim (λ q=>(hJ b q).elim (λ q=>hb (.inl q)) λ q=>by cases ho.symm.trans q) λ q=>hb (.inr q),λ l hl=>⟨rfl,hl⟩⟩
theorem Mv.bE(hk:∀b o,¬J b->h.get? b=some o->h'.get? b=some o):Mv J ι σ h J ι σ h':=.fG (λ _ q=>.inl q) hk
theorem RD.bE{d:PyData}(r:RD (Ex J ι σ) h v d)(hk:∀b o,¬J b->h.get? b=some o->h'.get? b=some o):RD (Ex J ι σ) h' v d:=r.mv (.bE hk)
theorem VR.bE(r:VR w J ι σ h v x)(hk:∀b o,¬J b->h.get? b=some o->h'.get? b=some o):VR w J ι σ h' v x:=r.mv (.bE hk)
theorem RD.fG{d:PyData}(r:RD (Ex J ι σ) h v d)(hJ:∀b,J' b->J b\/h.get? b=Option.none)(hk:∀b o,¬J b->h.get? b=some o->h'.get? b=some o):RD (Ex J' ι σ) h' v d:=r.mv (.fG hJ hk)
theorem VR.fG(r:VR w J ι σ h v x)(hJ:∀b,J' b->J b\/h.get? b=Option.none)(hk:∀b o,¬J b->h.get? b=some o->h'.get? b=some o):VR w J' ι σ h' v x:=r.mv (.fG hJ hk)
theorem SR.fG(S:SR prog w hB C J ι σ h)(hJ:∀b,J' b->J b\/h.get? b=Option.none)(hk:∀b o,¬J b->h.get? b=some o->h'.get? b=some o)(hj:∀b,J' b->∃o,h'.get? b=some o):SR prog w hB C J' ι σ h':=by
 refine⟨λ b o q=>hk b o (λ x=>by cases(S.jo b x).2.1.symm.trans q) (S.keep b o q),λ l n q=>(S.node l n q).mv (.fG hJ hk) (λ hl o ho=>hk _ o (λ x=>(S.jo _ x).1 (Own.of q hl).1) ho) (λ hl o ho=>hk _ o (λ x=>(S.jo _ x).1 (Own.of q hl).2) ho),S.inj,S.off,S.two,λ b hb=>⟨λ q=>?_,?_,hj b hb⟩⟩
 ·exact(hJ b hb).elim (λ x=>(S.jo b x).1 q) λ x=>(S.fresh x) (.inr q)
 ·rcases hJ b hb with x | x
  ·exact(S.jo b x).2.1
  ·cases e:hB.get? b with
   |none=>rfl
   |some o=>exact by cases(S.keep b o e).symm.trans x
theorem SR.bE(S:SR prog w hB C J ι σ h)(hk:∀b o,¬J b->h.get? b=some o->h'.get? b=some o)(hj:∀b,J b->∃o,h'.get? b=some o):SR prog w hB C J ι σ h':=S.fG (λ _ q=>.inl q) hk hj
structure mu(prog:Program)(w:World)(hB:Heap)(C:Addr)(A:Around)(t:Expr)(I:Addr)(wr fp:List Addr)(rs:List (Value×PyData))(ds:List PyData)(St:Nat->Heap->Prop):Prop where
 sub:∀b∈wr,b∈fp
 fpok:∀b∈fp,b∈wr\/∃d,(Value.ref b,d)∈rs
 frame:∀i h h',St i h->(∀b∈fp,∀o,h.get? b=some o->h'.get? b=some o)->St i h'
 step:∀(J:Addr->Prop) (ι:Loc) (σ:aa) (s:Shared) (i:Nat) (d:PyData),SR prog w hB C J ι σ s.heap->(∀p∈rs,RD (Ex J ι σ) s.heap p.1 p.2)->(∀b∈wr,J b)->ds[i]?=some d->St i s.heap->
  ∀(Q:Value->Shared->Prop) (E:Value->Shared->Prop),
   (∀v h' tk,(∀b o,b∉wr->s.heap.get? b=some o->h'.get? b=some o)->(∀b∈wr,∃o,h'.get? b=some o)->St (i+1) h'->RD (Ex J ι σ) h' v d->Q v { s with heap:=h',toks:=tk })->
   wpAny (model prog w) A (pyNext (.ref I)) (λ r s₁=>∃v,r=some v/\wpAny (model prog w) A (letOwnedTupleGo t (.ref I) v) (λ _ s₂=>Q v s₂) E s₁) E s
 done:∀(s:Shared),St ds.length s.heap->∀(Q:Option Value->Shared->Prop) (E:Value->Shared->Prop),
   (∀h' tk,(∀b o,b∉wr->s.heap.get? b=some o->h'.get? b=some o)->Q none { s with heap:=h',toks:=tk })->wpAny (model prog w) A (pyNext (.ref I)) Q E s
 self:∀(s:Shared) i (Q:Value->Shared->Prop) (E:Value->Shared->Prop),St i s.heap->Q (.ref I) s->wpAny (model prog w) A (pyIter (.ref I)) Q E s
inductive gk:Expr->Prop
 |name (x:Str) (p:Pos):gk (.Name x p)
 |tup (ts:List Expr) (k:Nat) (p:Pos):gk (.Tuple ts k p)
theorem AI{t:Expr}{I:Addr}{v:Value}{o:Obj}{T:String}{vs:Array Value}{Q:Unit->Shared->Prop}{E:Value->Shared->Prop}(ht:gk t)(ho:s.heap.get? I=some o)(hc:o.cls=.type T)(hd:o.data=.fields vs)
  (hT:["enumerate","zip","dict_itemiterator","dict_reverseitemiterator","odict_iterator","itertools.zip_longest","itertools.pairwise"].contains T=false) (h:Q () s) :
  wpAny (model prog w) A (letOwnedTupleGo t (.ref I) v) Q E s:=by
 cases ht with
 |name x p=>exact wpAny_pure h
 |tup ts k p=>
  unfold letOwnedTupleGo;cases v with
  |ref a=>
   refine wpAny_bind (wpAny_load ho ?_);rw[hc,hd];show wpAny _ A (if(["enumerate","zip","dict_itemiterator","dict_reverseitemiterator","odict_iterator","itertools.zip_longest","itertools.pairwise"].contains T && vs[0]? == some (rawInt a))=true then _ else _) Q E s;rw[hT];exact wpAny_pure h
  |_=>exact wpAny_pure h
theorem mu.list{t:Expr}(ht:gk t)(hh:A.handled=none)(I l:Addr)(hne:l≠I)(vs:List Value)(ds:List PyData) :
  mu prog w hB C A t I [I] [I,l] [(.ref l,.list ds)] ds (λ i h=>h.IsListIter I l i/\∃n,h.get? l=some (aP vs n)/\vs.length=ds.length) where
 sub:=λ b hb=>List.mem_singleton.mp hb▸.head _
 fpok:=λ b hb=>by
  cases hb with
  |head=>exact .inl (.head _)
  |tail _ hb=>obtain rfl:=List.mem_singleton.mp hb;exact .inr ⟨_,.head _⟩
 frame:=λ i h h' st hk=>⟨st.1.at λ o e=>hk I (.head _) o e,st.2.elim λ n q=>⟨n,hk l (.tail _ (.head _)) _ q.1,q.2⟩⟩
 step:=λ J ι σ s i d S hr hw hd st Q E hQ=>by
  refine bC λ k9=>?_;obtain⟨hit,n,hl,hlen⟩:=st;obtain⟨l',vs',n',e,q1,q2,q3,q4⟩:=RD.aZ (hr (.ref l,.list ds) (.head _));cases e;refine k9 ?_;cases hl.symm.trans q1;obtain⟨v,hv,rv⟩:=q4.get hd;refine wpAny_pyNext_list_item hit (IsList.of hl) (x:=v) (List.getElem?_toArray.trans hv) λ h' hit' hs'=>⟨v,rfl,?_⟩;refine bC λ k9=>?_;obtain⟨o,ho,hc,hdat⟩:=id hit';refine k9 ?_;refine AI ht ho hc hdat (by decide) (hQ v h' s.toks (λ b o hb e=>hs'.extBut b o (λ q=>hb (q▸.head _)) e) (λ b hb=>?_) ⟨hit',n,hs'.extBut l _ hne hl,hlen⟩ ?_)
  ·exact⟨o,List.mem_singleton.mp hb▸ho⟩
  ·exact RD.bE rv λ b o hb e=>hs'.extBut b o (λ q=>hb (q▸hw I (.head _))) e
 done:=λ s st Q E hQ=>by
  obtain⟨hit,n,hl,hlen⟩:=st;exact wpAny_pyNext_list_end hh hit (IsList.of hl) (by simp[hlen]) λ h' he'=>hQ h' s.toks λ b o hb e=>he' b o (λ q=>hb (q▸.head _)) e
 self:=λ s i Q E st hQ=>wpAny_pyIter_listiter st.1 hQ
theorem mu.tuple{t:Expr}(ht:gk t)(hh:A.handled=none)(I l:Addr)(hne:l≠I)(vs:List Value)(ds:List PyData) :
  mu prog w hB C A t I [I] [I,l] [(.ref l,.tuple ds)] ds (λ i h=>h.IsTupleIter I l i/\∃n,h.get? l=some (c6 vs n)/\vs.length=ds.length) where
 sub:=λ b hb=>List.mem_singleton.mp hb▸.head _
 fpok:=λ b hb=>by
  cases hb with
  |head=>exact .inl (.head _)
  |tail _ hb=>obtain rfl:=List.mem_singleton.mp hb;exact .inr ⟨_,.head _⟩
 frame:=λ i h h' st hk=>⟨st.1.at λ o e=>hk I (.head _) o e,st.2.elim λ n q=>⟨n,hk l (.tail _ (.head _)) _ q.1,q.2⟩⟩
 step:=λ J ι σ s i d S hr hw hd st Q E hQ=>by
  refine bC λ k9=>?_;obtain⟨hit,n,hl,hlen⟩:=st;obtain⟨l',vs',n',e,q1,q2,q3,q4⟩:=RD.aX (hr (.ref l,.tuple ds) (.head _));cases e;refine k9 ?_;cases hl.symm.trans q1;obtain⟨v,hv,rv⟩:=q4.get hd;refine wpAny_pyNext_tuple_item hit (IsTup.of hl) (x:=v) (List.getElem?_toArray.trans hv) λ h' hit' hs'=>⟨v,rfl,?_⟩;refine bC λ k9=>?_;obtain⟨o,ho,hc,hdat⟩:=id hit';refine k9 ?_;refine AI ht ho hc hdat (by decide) (hQ v h' s.toks (λ b o hb e=>hs'.extBut b o (λ q=>hb (q▸.head _)) e) (λ b hb=>?_) ⟨hit',n,hs'.extBut l _ hne hl,hlen⟩ ?_)
  ·exact⟨o,List.mem_singleton.mp hb▸ho⟩
  ·exact RD.bE rv λ b o hb e=>hs'.extBut b o (λ q=>hb (q▸hw I (.head _))) e
 done:=λ s st Q E hQ=>by
  obtain⟨hit,n,hl,hlen⟩:=st;exact wpAny_pyNext_tuple_end hh hit (IsTup.of hl) (by simp[hlen]) λ h' he'=>hQ h' s.toks λ b o hb e=>he' b o (λ q=>hb (q▸.head _)) e
 self:=λ s i Q E st hQ=>wpAny_pyIter_tupleiter st.1 hQ
inductive Dt(e it l:Addr)(vs:List Value)(ds:List PyData)(i:Nat)(h:Heap):Prop
 |mk (old:Value) (n:Nat) (h1:IsEnum h e it i old) (h2:h.IsListIter it l i) (h3:h.get? l=some (aP vs n)) (h4:vs.length=ds.length)
theorem mu.enum{ts:List Expr}{kk:Nat}{p:Pos}(hh:A.handled=none)(e it l:Addr)(hei:e≠it)(hle:l≠e)(hli:l≠it)(vs:List Value)(ds:List PyData) :
  mu prog w hB C A (.Tuple ts kk p) e [e,it] [e,it,l] [(.ref l,.list ds)] (ds.zipIdx.map fun(p:PyData×Nat)=>PyData.tuple [.int p.2,p.1])
   (Dt e it l vs ds) where
 sub:=λ b hb=>by
  cases hb with
  |head=>exact .head _
  |tail _ hb=>exact List.mem_singleton.mp hb▸.tail _ (.head _)
 fpok:=λ b hb=>by
  cases hb with
  |head=>exact .inl (.head _)
  |tail _ hb=>
   cases hb with
   |head=>exact .inl (.tail _ (.head _))
   |tail _ hb=>obtain rfl:=List.mem_singleton.mp hb;exact .inr ⟨_,.head _⟩
 frame:=λ i h h' ⟨old,n,h1,h2,h3,h4⟩ hk=>⟨old,n,hk e (.head _) _ h1,h2.at λ o q=>hk it (.tail _ (.head _)) o q,hk l (.tail _ (.tail _ (.head _))) _ h3,h4⟩
 step:=λ J ι σ s i d S hr hw hd st Q E hQ=>by
  refine bC λ k9=>?_;obtain⟨old,n,he,hit,hl,hlen⟩:=st;rw[List.getElem?_map] at hd;obtain⟨⟨d0,i0⟩,hd0,rfl⟩:=Option.map_eq_some_iff.mp hd;have hz:=List.getElem?_zipIdx (l:=ds) (i:=0) (j:=i);rw[hd0] at hz;obtain⟨d1,hd1,hz⟩:=Option.map_eq_some_iff.mp hz.symm;rw[Nat.zero_add] at hz;obtain⟨rfl,rfl⟩:=Prod.mk.inj hz;obtain⟨l',vs',n',e',q1,q2,q3,q4⟩:=RD.aZ (hr (.ref l,.list ds) (.head _));cases e';refine k9 ?_;cases hl.symm.trans q1;obtain⟨v,hv,rv⟩:=q4.get hd1;have helt:e<s.heap.objs.size:=Heap.lt_size he;refine wpAny_pyNext_enum_item he hit (IsList.of hl) (x:=v) (List.getElem?_toArray.trans hv) hei λ h' ho hit' hT hsz hk=>⟨_,rfl,?_⟩;refine wpAny_letOwnedTupleGo_enum ho λ h'' he' hs'=>?_;have kk:∀b o,b∉[e,it]->s.heap.get? b=some o->h''.get? b=some o:=λ b o hb q=>by
   have h1:b≠e:=λ q=>hb (q▸.head _);exact(hs'.2 b h1).trans (hk b o h1 (λ q=>hb (q▸.tail _ (.head _))) q)
  have hitE:h''.IsListIter it l (i+1):=hit'.at λ o y=>(hs'.2 it hei.symm).trans y;refine hQ _ h'' _ kk (λ b hb=>?_) ⟨_,n,he',hitE,kk l _ (λ q=>(List.mem_cons.mp q).elim hle λ q=>hli (List.mem_singleton.mp q)) hl,hlen⟩ ?_
  ·rcases List.mem_cons.mp hb with rfl | hb
   ·exact⟨_,he'⟩
   ·obtain rfl:=List.mem_singleton.mp hb;obtain⟨o,ho,_⟩:=hitE;exact⟨o,ho⟩
  ·have hT2:h''.get? s.heap.objs.size=some (c6 [.int (i:Int) s.toks,v] 0):=(hs'.2 _ (Nat.ne_of_gt helt)).trans hT;have rv':RD (Ex J ι σ) h'' v d1:=RD.bE rv λ b o hb q=>kk b o (λ x=>hb (hw b x)) q;exact RD.nv hT2 (S.fresh (aD _)) (by show 2<=BIG;decide) (aA.cons (RD.int _ _) (aA.cons rv' aA.nil))
 done:=λ s st Q E hQ=>by
  refine bC λ k9=>?_;obtain⟨old,n,he,hit,hl,hlen⟩:=st;refine k9 ?_;refine wpAny_pyNext_enum_end hh he hit (IsList.of hl) (by simp[hlen]) λ h' hx=>hQ h' s.toks λ b o hb y=>hx b o (λ q=>hb (q▸.tail _ (.head _))) y
 self:=λ s i Q E st hQ=>by
  obtain⟨old,n,he,_⟩:=st;exact wpAny_pyIter_enum he hQ
end
end Mine.Internal
end
section
namespace Mine.Internal
open PySem PyProof.Rows
section
variable{J J':Addr->Prop}{A:Around}{env:Env}
variable{ι ι':Loc}{σ σ':aa}{s:Shared}{h h':Heap}{a b v:Value}{x y r:V}{k:Nat}
variable{m cm:Str->Option Value}{ρ ρ':ah}
theorem sq{it l:Addr}{items:Array Value}{E:Value->Shared->Prop}(hne:l≠it):∀(n i:Nat) (s:Shared) (Q:List Value->Shared->Prop),s.heap.IsListIter it l i->s.heap.IsList l items->i+n<=items.size->
  (∀h',h'.IsListIter it l (i+n)->Heap.SameBut it s.heap h'->Q ((items.toList.drop i).take n) { s with heap:=h' })->wpAny (model prog w) A (draw (.ref it) n) Q E s:=by
 intro n
 induction n with
 |zero=>
  intro i s Q hit _ _ hQ;exact wpAny_pure (by simpa using hQ s.heap hit (Heap.SameBut.refl ..))
 |succ n ih=>
  intro i s Q hit ht hle hQ;have hlt:i<items.size:=by lia
  refine wpAny_bind (wpAny_pyNext_list_item hit ht (x:=items[i]) (by simp[hlt]) λ h₁ hit₁ hs₁=>?_);refine wpAny_bind (wpAny_holding (ih (i+1) _ _ hit₁ (ht.extBut hs₁.extBut hne) (by lia) λ h₂ hit₂ hs₂=>wpAny_pure ?_));have hd:items.toList.drop i=items[i]::items.toList.drop (i+1):=by simp[List.drop_eq_getElem_cons,hlt]
  have:=hQ h₂ (by rw[show i+(n+1)=i+1+n by lia];exact hit₂) (hs₁.trans hs₂);rw[hd,List.take_succ_cons] at this;exact this
end
section
namespace unpackItems_list_e
noncomputable section
def P(A:Around)(s:Shared)(l:Addr)(items:Array Value)(Q:List Value->Shared->Prop)(E:Value->Shared->Prop):Prop:=∀(hh:A.handled=none) (ht:s.heap.IsList l items) (hQ:∀h',Heap.ExtBut s.heap.objs.size s.heap h'->Q items.toList { s with heap:=h' }),wpAny (model prog w) A (unpackItems (.ref l) items.size none) Q E s
def x:(Around)×(Shared)×(Addr)×(Array Value)×(List Value->Shared->Prop)×(Value->Shared->Prop):=@Classical.epsilon _ ⟨({},{},default,default,default,default)⟩ λ x=>¬P x.1 x.2.1 x.2.2.1 x.2.2.2.1 x.2.2.2.2.1 x.2.2.2.2.2
def A:Around:=x.1
def s:Shared:=x.2.1
def l:Addr:=x.2.2.1
def items:Array Value:=x.2.2.2.1
def Q:List Value->Shared->Prop:=x.2.2.2.2.1
def E:Value->Shared->Prop:=x.2.2.2.2.2
theorem core:P A s l items Q E:=λ hh ht hQ=>by
 have hlt:l≠s.heap.objs.size:=by obtain⟨o,ho,_⟩:=ht;exact Nat.ne_of_lt (Heap.lt_size ho)
 unfold unpackItems;refine wpAny_bind ?_;unfold notIterableAtAll;refine wpAny_bind (wpAny_specialOf ht.typeIs slot_list_iter.lookup ?_);refine wpAny_pure ?_;refine wpAny_bind (wpAny_holding (wpAny_pyIter_list ht ?_));refine wpAny_bind (wpAny_holding (sq hlt items.size 0 _ _ ⟨_,Heap.get?_push_size _ rfl,rfl,rfl⟩ (ht.push _) (by lia) λ h₁ hit₁ hs₁=>?_));have hall:List.take items.size (List.drop 0 items.toList)=items.toList:=by
  rw[List.drop_zero];exact List.take_of_length_le (by simp)
 rw[hall];rw[if_neg (by simp)];have ht₁:h₁.IsList l items:=(ht.push _).extBut hs₁.extBut hlt;refine wpAny_bind (wpAny_holding (wpAny_pyNext_list_end hh hit₁ ht₁ (by simp) λ h₂ he₂=>?_));exact wpAny_pure (hQ h₂ λ b o hb e=>he₂ b o hb (hs₁.extBut b o hb (Heap.get?_push_of_some _ e)))
end
end unpackItems_list_e
variable{J J':Addr->Prop}{A:Around}{env:Env}
variable{ι ι':Loc}{σ σ':aa}{s:Shared}{h h':Heap}{a b v:Value}{x y r:V}{k:Nat}
variable{m cm:Str->Option Value}{ρ ρ':ah}
theorem gE{l:Addr}{items:Array Value}{Q:List Value->Shared->Prop}{E:Value->Shared->Prop}(hh:A.handled=none)(ht:s.heap.IsList l items)
  (hQ:∀h',Heap.ExtBut s.heap.objs.size s.heap h'->Q items.toList { s with heap:=h' }):wpAny (model prog w) A (unpackItems (.ref l) items.size none) Q E s:=aw (Q:=λ x:(Around)×(Shared)×(Addr)×(Array Value)×(List Value->Shared->Prop)×(Value->Shared->Prop)=>unpackItems_list_e.P x.1 x.2.1 x.2.2.1 x.2.2.2.1 x.2.2.2.2.1 x.2.2.2.2.2) unpackItems_list_e.core (A,s,l,items,Q,E) hh ht hQ
theorem i5{d:PyData}{xs:List PyData}{Q:List Value->Shared->Prop}{E:Value->Shared->Prop}(hA:AOK A k)(rv:RD (Ex J ι σ) s.heap v d)(e:items? d=some xs)
  (hQ:∀vs h',(∀b o,s.heap.get? b=some o->h'.get? b=some o)->aA (RD (Ex J ι σ) h') vs xs->Q vs { s with heap:=h' }):wpAny (model prog w) A (unpackItems v xs.length none) Q E s:=by
 have fin:∀(vs:List Value) (h':Heap),Heap.ExtBut s.heap.objs.size s.heap h'->aA (RD (Ex J ι σ) s.heap) vs xs->Q vs { s with heap:=h' }:=λ vs h' hx q4=>
  hQ vs h' (λ b o ho=>hx b o (Nat.ne_of_lt (Heap.lt_size ho)) ho) (q4.mono λ v x r=>r.keeps (λ b o _ ho=>hx b o (Nat.ne_of_lt (Heap.lt_size ho)) ho) λ _ _ hb _=>hb)
 cases d with
 |list ys=>
  cases e;obtain⟨l,vs,n,rfl,q1,q2,q3,q4⟩:=RD.aZ rv;rw[<-q4.1];exact gE (Q:=Q) (E:=E) hA.handled (IsList.of q1) λ h' hx=>fin vs h' hx q4
 |tuple ys=>
  cases e;obtain⟨l,vs,n,rfl,q1,q2,q3,q4⟩:=RD.aX rv;rw[<-q4.1];exact wpAny_unpackItems_tuple (prog:=prog) (w:=w) (Q:=Q) (E:=E) hA.handled (IsTup.of q1) λ h' hx=>fin vs h' hx q4
 |_=>first | exact no e | exact nob e | cases e
noncomputable def aN(env:Env)(x:Str):Prop:=env.kindOf x=some .local\/env.kindOf x=some .cell
noncomputable def WN(env:Env)(x:Str)(b:Addr):Prop:=b=env.locals\/(env.kindOf x=some .cell/\env.cells.lookup x=some b)
theorem FR.aM(F:FR J env m cm h)(hk:∀b o,h.get? b=some o->h'.get? b=some o):FR J env m cm h':=
 ⟨F.ns.keeps hk,F.jL,λ n c hc=>⟨(F.cell n c hc).1.keeps hk,(F.cell n c hc).2⟩,F.apart,F.has⟩
theorem ER.aM(R:ER w J ι σ env m cm h ρ)(hk:∀b o,h.get? b=some o->h'.get? b=some o):ER w J ι σ env m cm h' ρ:=R.evo (Evo.aM hk)
theorem ER.store{xn:Str}{m' cm':Str->Option Value}(R:ER w J ι σ env m cm h ρ)(hv:∀y,y≠xn->val env m' cm' y=val env m cm y)(hx:val env m' cm' xn=some v)(rv:VR w J ι σ h v x)
  (hk:∀b o,¬J b->h.get? b=some o->h'.get? b=some o):ER w J ι σ env m' cm' h' (upd ρ xn x):=λ y v' hy hm=>by
 refine Classical.byCases (p:=y=xn) (λ e=>?_) (λ e=>?_)
 ·subst e;cases(gN ρ y x).symm.trans hy;exact⟨v,hx,rv.bE hk⟩
 ·obtain⟨u,h1,h2⟩:=R y v' ((kR e).symm.trans hy) hm;exact⟨u,(hv y e).trans h1,h2.bE hk⟩
theorem gO{xn:Str}{Q:Unit->Shared->Prop}{E:Value->Shared->Prop}(hE:aI env)(hk:aN env xn)(F:FR J env m cm s.heap)(R:ER w J ι σ env m cm s.heap ρ)(S:SR prog w hB C J ι σ s.heap)(rv:VR w J ι σ s.heap v x)
  (h:∀h' tk m' cm',FR J env m' cm' h'->ER w J ι σ env m' cm' h' (upd ρ xn x)->SR prog w hB C J ι σ h'->(∀b o,¬WN env xn b->s.heap.get? b=some o->h'.get? b=some o)->(∀z,m' z=m z\/z=xn)->(∀z,cm' z=cm z\/(z=xn/\env.kindOf xn=some .cell))->Q () { s with heap:=h',toks:=tk }) :
  wpAny (model prog w) A (storeName env xn v) Q E s:=by
 rcases hk with hl | hl
 ·refine wpAny_storeName_local hl F.ns (λ h' hn hs=>?_) (by rw[hE.kind];rfl);have kp:∀b o,b≠env.locals->s.heap.get? b=some o->h'.get? b=some o:=λ b o hb ho=>hs.extBut b o hb ho;have kj:∀b o,¬J b->s.heap.get? b=some o->h'.get? b=some o:=λ b o hb ho=>kp b o (λ q=>hb (q▸F.jL)) ho;have gL:∃o,h'.get? env.locals=some o:=by obtain⟨o,_,_,ho,_⟩:=hn;exact⟨o,ho⟩
  refine h h' _ _ cm ⟨hn,F.jL,λ n c hc=>?_,F.apart,F.has⟩ (R.store (λ y hy=>?_) ?_ rv kj) (S.bE kj λ b hb=>?_) (λ b o hb ho=>kp b o (λ q=>hb (.inl q)) ho) (λ z=>?_) (λ z=>.inl rfl)
  ·obtain⟨h1,h2,h3⟩:=F.cell n c hc;exact⟨h1.sameBut hs h3,h2,h3⟩
  ·exact congrArg (λ a=>yh a (cm y) (kd env y)) (if_neg hy)
  ·show yh _ _ (kdOf (env.kindOf xn))=_;rw[hl];exact if_pos rfl
  ·by_cases q:b=env.locals
   ·rw[q];exact gL
   ·obtain⟨_,_,o,ho⟩:=S.jo b hb;exact⟨o,kp b o q ho⟩
  ·by_cases q:z=xn
   ·exact .inr q
   ·exact .inl (by exact if_neg ‹_›)
 ·obtain⟨c,hc⟩:=Option.isSome_iff_exists.mp (F.has xn (.inl hl));obtain⟨c1,c2,c3⟩:=F.cell xn c hc;refine wpAny_storeName_cell hE.kind hl hc c1 λ h' hv hs=>?_;have kp:∀b o,b≠c->s.heap.get? b=some o->h'.get? b=some o:=λ b o hb ho=>hs.extBut b o hb ho;have kj:∀b o,¬J b->s.heap.get? b=some o->h'.get? b=some o:=λ b o hb ho=>kp b o (λ q=>hb (q▸c2)) ho;refine h h' s.toks m (λ y=>if y=xn then some v else cm y) ⟨F.ns.sameBut hs (Ne.symm c3),F.jL,λ n c' hc'=>?_,F.apart,F.has⟩ (R.store (λ y hy=>?_) ?_ rv kj) (S.bE kj λ b hb=>?_) (λ b o hb ho=>kp b o (λ q=>hb (.inr ⟨hl,q▸hc⟩)) ho) (λ z=>.inl rfl) (λ z=>?_)
  ·obtain⟨h1,h2,h3⟩:=F.cell n c' hc';refine⟨?_,h2,h3⟩;by_cases hn:n=xn
   ·subst hn;rw[hc] at hc';cases hc';simpa using hv
   ·have hcc:c'≠c:=λ q=>hn (F.apart n xn c (q▸hc') hc);simpa[hn] using h1.sameBut hs hcc
  ·exact congrArg (λ a=>yh (m y) a (kd env y)) (if_neg hy)
  ·show yh _ _ (kdOf (env.kindOf xn))=_;rw[hl];exact if_pos rfl
  ·by_cases q:b=c
   ·rw[q];obtain⟨o,ho,_⟩:=hv;exact⟨o,ho⟩
   ·obtain⟨_,_,o,ho⟩:=S.jo b hb;exact⟨o,kp b o q ho⟩
  ·by_cases q:z=xn
   ·exact .inr ⟨q,hl⟩
   ·exact .inl (by exact if_neg ‹_›)
noncomputable def WT(env:Env)(xs:List Str)(b:Addr):Prop:=b=env.locals\/∃x∈xs,env.kindOf x=some .cell/\env.cells.lookup x=some b
noncomputable def sN(prog:Program)(w:World)(hB:Heap)(C:Addr)(J:Addr->Prop)(ι:Loc)(σ:aa)(env:Env)(xs:List Str)(ρ':ah)(s:Shared)(Q:Unit->Shared->Prop):Prop:=
 ∀h' tk m' cm',FR J env m' cm' h'->ER w J ι σ env m' cm' h' ρ'->SR prog w hB C J ι σ h'->(∀b o,¬WT env xs b->s.heap.get? b=some o->h'.get? b=some o)->Q () { s with heap:=h',toks:=tk }
theorem jB(ts:List Expr):∀(xs:List V) (ρ ρ':ah),cW ts xs ρ=some ρ'->ts.length=xs.length:=by
 induction ts with
 |nil=>
  intro xs ρ ρ' e;cases xs with
  |nil=>rfl
  |cons x xs=>exact no e
 |cons t ts ih=>
  intro xs ρ ρ' e;cases xs with
  |nil=>exact no e
  |cons x xs=>
   obtain⟨ρ₁,_,e2⟩:=bd1 e;exact congrArg Nat.succ (ih xs ρ₁ ρ' e2)
theorem eM{t:Expr}{ts:List Expr}(e1:aQ t x ρ=some ρ'):assignEach (t::ts) env=(false,assign t env)::assignEach ts env:=by
 cases t<;>first | rfl | exact no e1 | exact nob e1 | cases e1
theorem bO(ts:List Expr):∀(xs:List V) (ρ ρ':ah),cW ts xs ρ=some ρ'->(assignEach ts env).length=ts.length/\(assignEach ts env).findIdx? (·.1)=none:=by
 induction ts with
 |nil=>exact λ _ _ _ _=>⟨rfl,rfl⟩
 |cons t ts ih=>
  intro xs ρ ρ' e;cases xs with
  |nil=>exact no e
  |cons x xs=>
   refine bC λ k9=>?_;obtain⟨ρ₁,e1,e2⟩:=bd1 e;obtain⟨h1,h2⟩:=ih xs ρ₁ ρ' e2;refine k9 ?_;rw[eM e1];exact⟨congrArg Nat.succ h1,by rw[List.findIdx?_cons,h2];rfl⟩
theorem WT.mono{xs ys:List Str}{b:Addr}(h:∀x∈xs,x∈ys)(q:WT env xs b):WT env ys b:=q.imp id (by rintro⟨z,h1,h2⟩;exact⟨z,h z h1,h2⟩)
noncomputable def Ax(J:Addr->Prop)(ι:Loc)(σ:aa)(A:Around)(env:Env)(t:Expr):Prop:=∀(ρ ρ':ah) (x:V) (v:Value) (s:Shared) (m cm:Str->Option Value) (Q:Unit->Shared->Prop) (E:Value->Shared->Prop),
  aQ t x ρ=some ρ'->(∀z∈ak t,aN env z)->FR J env m cm s.heap->ER w J ι σ env m cm s.heap ρ->SR prog w hB C J ι σ s.heap->VR w J ι σ s.heap v x->
  sN prog w hB C J ι σ env (ak t) ρ' s Q->wpAny (model prog w) A (assign t env v) Q E s
noncomputable def yk(J:Addr->Prop)(ι:Loc)(σ:aa)(A:Around)(env:Env)(ts:List Expr):Prop:=∀(ρ ρ':ah) (xs:List V) (vs:List Value) (s:Shared) (m cm:Str->Option Value) (Q:Unit->Shared->Prop) (E:Value->Shared->Prop),
  cW ts xs ρ=some ρ'->(∀z∈bf ts,aN env z)->FR J env m cm s.heap->ER w J ι σ env m cm s.heap ρ->SR prog w hB C J ι σ s.heap->aA (VR w J ι σ s.heap) vs xs->
  sN prog w hB C J ι σ env (bf ts) ρ' s Q->wpAny (model prog w) A (assignInOrder ((assignEach ts env).map (·.2)) vs) Q E s
theorem uZ(hE:aI env)(n:Str)(p:Pos):Ax J ι σ A env (.Name n p):=λ ρ ρ' x v s m cm Q E e hs F R S rv hQ=>by
 refine bC λ k9=>?_;cases e;refine k9 ?_;exact wpAny_assign_Name (gO hE (hs n (.head _)) F R S rv λ h' tk m' cm' F' R' S' kp _ _=>hQ h' tk m' cm' F' R' S' λ b o hb ho=>kp b o (λ q=>hb (q.imp id λ q=>⟨n,.head _,q⟩)) ho)
theorem sI(hA:AOK A k)(ts:List Expr)(kk:Nat)(p:Pos)(ih:yk J ι σ A env ts):Ax J ι σ A env (.Tuple ts kk p):=λ ρ ρ' x v s m cm Q E e hs F R S rv hQ=>by
 obtain⟨vs',e1,e2⟩:=bd1 e;cases x with
 |d d=>
  refine bC λ k9=>?_;obtain⟨xs,e3,rfl⟩:=Option.map_eq_some_iff.mp e1;refine k9 ?_;rw[arm_assign_Tuple];refine wpAny_bind (wpAny_standAt ?_);unfold unpack;rw[(bO ts _ ρ ρ' e2).1,(bO ts _ ρ ρ' e2).2,jB ts _ ρ ρ' e2,List.length_map];exact wpAny_bind (wpAny_holding (i5 hA rv e3 λ vs h' kp rs=>ih ρ ρ' (xs.map .d) vs _ m cm Q E e2 hs (F.aM kp) (R.aM kp) (S.aM kp) (fF rs)
   λ h'' tk m' cm' F' R' S' kp'=>hQ h'' tk m' cm' F' R' S' λ b o hb ho=>kp' b o hb (kp b o ho)))
 |_=>first | exact no e1 | exact nob e1 | cases e1
theorem x8:yk J ι σ A env []:=λ ρ ρ' xs vs s m cm Q E e hs F R S rv hQ=>by
 cases xs with
 |cons x xs=>exact no e
 |nil=>
  cases e;rw[rv.bu];exact wpAny_pure (hQ s.heap s.toks m cm F R S λ _ _ _ e=>e)
theorem u0(t:Expr)(ts:List Expr)(i1:Ax J ι σ A env t)(i2:yk J ι σ A env ts):yk J ι σ A env (t::ts):=λ ρ ρ' xs vs s m cm Q E e hs F R S rv hQ=>by
 cases xs with
 |nil=>exact no e
 |cons x xs=>
  obtain⟨ρ₁,e1,e2⟩:=bd1 e;obtain⟨v,ws,rfl,r1,r2⟩:=rv.cons_right;rw[eM e1];refine wpAny_bind (wpAny_holding (i1 ρ ρ₁ x v s m cm _ E e1 (λ z hz=>hs z (List.mem_append_left _ hz)) F R S r1 λ h' tk m' cm' F' R' S' kp=>?_));refine i2 ρ₁ ρ' xs ws _ m' cm' Q E e2 (λ z hz=>hs z (List.mem_append_right _ hz)) F' R' S' (r2.mono λ v x r=>r.bE λ b o hb ho=>kp b o (λ q=>hb ?_) ho)
   λ h'' tk m'' cm'' F'' R'' S'' kp'=>hQ h'' tk m'' cm'' F'' R'' S'' λ b o hb ho=>kp' b o (λ q=>hb (q.mono λ z hz=>List.mem_append_right _ hz)) (kp b o (λ q=>hb (q.mono λ z hz=>List.mem_append_left _ hz)) ho)
  rcases q with q | ⟨z,_,_,hz⟩
  ·exact q▸F.jL
  ·exact(F.cell z b hz).2.1
theorem oR(hE:aI env)(hA:AOK A k):(∀t,Ax J ι σ A env t)/\∀ts,yk J ι σ A env ts:=
 jM (uZ hE) (sI hA) (λ t q ρ ρ' x v s m cm Q E e=>no ((q.b x ρ).symm.trans e)) x8 u0
theorem iV(hE:aI env)(hA:AOK A k)(t:Expr):Ax J ι σ A env t:=(oR hE hA).1 t
theorem p9(hE:aI env)(hA:AOK A k)(ts:List Expr):yk J ι σ A env ts:=(oR hE hA).2 ts
end
end Mine.Internal
end
section
set_option tactic.hygienic true
namespace Mine.Internal
open PySem PyProof.Rows
section
variable(prog:Program)(w:World)(hB:Heap)(C:Addr)(J:Addr->Prop)(A:Around)(env:Env)
noncomputable def EsS(es:List Expr)(pos:Pos)(ρ:ah)(σ:aa)(xs':List V)(σ':aa):Prop:=
 ∀(ι:Loc) (s:Shared) (m cm:Str->Option Value) (Q:List Value->Shared->Prop) (E:Value->Shared->Prop),FR J env m cm s.heap->ER w J ι σ env m cm s.heap ρ->SR prog w hB C J ι σ s.heap->
  (∀vs s' ι',Goes prog w hB C J s ι σ s' ι' σ'->aA (VR w J ι' σ' s'.heap) vs xs'->Q vs s')->wpAny (model prog w) A (spliced (backTo pos (starEach es env))) Q E s
noncomputable def TbS(op:BoolOp)(es:List Expr)(ρ:ah)(σ:aa)(b:Bool)(σ':aa):Prop:=
 ∀(ι:Loc) (s:Shared) (m cm:Str->Option Value) (Q:Bool->Shared->Prop) (E:Value->Shared->Prop),FR J env m cm s.heap->ER w J ι σ env m cm s.heap ρ->SR prog w hB C J ι σ s.heap->
  (∀s' ι',Goes prog w hB C J s ι σ s' ι' σ'->Q b s')->wpAny (model prog w) A (allTrue op es env) Q E s
end
section
variable{J:Addr->Prop}{A:Around}{env:Env}
variable{ρ:ah}{σ σ₁ σ₂ σ₃ σ':aa}{a b r:V}{pos:Pos}{k:Nat}{e f:Expr}
noncomputable def isStar:Expr->Bool
 |.Starred ..=>true
 |_=>false
theorem dB(e:Expr)(es:List Expr)(h:isStar e=false):backTo pos (starEach (e::es) env)=(false,eval e env)::backTo pos (starEach es env):=by
 cases e<;>first | rfl | exact no h | exact nob h | cases h
theorem sa{Φ:Or}{x:V×aa}(h:ev Φ e ρ σ=some x):isStar e=false:=by
 cases e<;>first | rfl | exact no h | exact nob h | cases h
theorem zS:EsS prog w hB C J A env [] pos ρ σ [] σ:=λ ι s m cm Q E F R S h=>PySem.Calls.spliced_nil (h [] s ι (Goes.refl S) aA.nil)
theorem xG{es:List Expr}{xs':List V}(hs:isStar e=false)(L:EvS prog w hB C J A env e ρ σ a σ₁)(R:EsS prog w hB C J A env es pos ρ σ₁ xs' σ₂):EsS prog w hB C J A env (e::es) pos ρ σ (a::xs') σ₂:=
 λ ι s m cm Q E F Re S h=>by
  rw[dB e es hs];refine PySem.Calls.spliced_cons (L ι s m cm _ _ F Re S λ v s₁ ι₁ g₁ r₁=>?_);refine R ι₁ s₁ m cm _ _ (F.evo S g₁.evo) (Re.evo g₁.evo) g₁.sr λ vs s₂ ι₂ g₂ r₂=>h (v::vs) s₂ ι₂ (g₁.trans g₂) (aA.cons (r₁.evo g₂.evo) r₂)
theorem EvS.two{ι:Loc}{s:Shared}{m cm:Str->Option Value}{K:Value->Value->Shared->Prop}{E:Value->Shared->Prop}(L:EvS prog w hB C J A env e ρ σ a σ₁)(R:EvS prog w hB C J A env f ρ σ₁ b σ₂)
  (F:FR J env m cm s.heap) (Re:ER w J ι σ env m cm s.heap ρ) (S:SR prog w hB C J ι σ s.heap)
  (h:∀va vb s' ι',Goes prog w hB C J s ι σ s' ι' σ₂->VR w J ι' σ₂ s'.heap va a->VR w J ι' σ₂ s'.heap vb b->K va vb s') :
  wpAny (model prog w) A (eval e env) (λ va s₁=>wpAny (model prog w) A (eval f env) (λ vb s₂=>K va vb s₂) E s₁) E s:=
 L ι s m cm _ _ F Re S λ va s₁ ι₁ g₁ r₁=>R ι₁ s₁ m cm _ _ (F.evo S g₁.evo) (Re.evo g₁.evo) g₁.sr λ vb s₂ ι₂ g₂ r₂=>h va vb s₂ ι₂ (g₁.trans g₂) (r₁.evo g₂.evo) r₂
theorem aK{op:Operator}{own:Bool}(L:EvS prog w hB C J A env e ρ σ a σ₁)(R:EvS prog w hB C J A env f ρ σ₁ b σ₂)(hv:sS own op a b σ₂=some (r,σ')) :
  EvS prog w hB C J A env (.BinOp e op f pos) ρ σ r σ':=λ ι s m cm Q E F Re S h=>by
 refine wpAny_BinOp (L.two R F Re S λ va vb s' ι' g ra rb=>?_);exact Ao g.sr ra rb hv λ v s'' ι'' g' r'=>h v s'' ι'' (g.trans g') r'
theorem ao{op:CmpOp}{c:Bool}(hA:AOK A k)(hm:behindInMarks op f=false)(L:EvS prog w hB C J A env e ρ σ a σ₁)(R:EvS prog w hB C J A env f ρ σ₁ b σ₂)(hc:i3 σ₂ op a b=some c) :
  EvS prog w hB C J A env (.Compare e [op] [f] pos) ρ σ (.d (.bool c)) σ₂:=λ ι s m cm Q E F Re S h=>by
 refine wpAny_Compare1 (L.two R F Re S λ va vb s' ι' g ra rb=>?_) hm;exact vJ hA g.sr ra rb hc λ t=>h _ _ ι' (g.trans (Goes.tok g.sr t)) (RD.bool c)
theorem yz{op:CmpOp}{c:Bool}(hA:AOK A k)(hm:behindInMarks op f=false)(L:EvS prog w hB C J A env e ρ σ a σ₁)(R:EvS prog w hB C J A env f ρ σ₁ b σ₂)(hc:i3 σ₂ op a b=some c) :
  TsS prog w hB C J A env (.Compare e [op] [f] pos) ρ σ c σ₂:=λ ι s m cm Q E F Re S h=>by
 refine wpAny_isTrue_Compare1 (L.two R F Re S λ va vb s' ι' g ra rb=>?_) hm;exact vJ hA g.sr ra rb hc λ t=>wpAny_truthy_bool (h _ ι' (g.trans (Goes.tok g.sr t)))
theorem zO{i:Int}(L:EvS prog w hB C J A env e ρ σ (.d (.int i)) σ₁):EvS prog w hB C J A env (.UnaryOp .USub e pos) ρ σ (.d (.int (-i))) σ₁:=λ ι s m cm Q E F Re S h=>by
 refine wpAny_UnaryOp (L ι s m cm _ _ F Re S λ v s₁ ι₁ g r=>?_);obtain⟨t,rfl⟩:=aH r;exact PyProof.Rows.neg_int (h _ _ ι₁ (g.trans (Goes.tok g.sr _)) (RD.int _ _))
theorem zN{c:Bool}(L:EvS prog w hB C J A env e ρ σ a σ₁)(hc:dH σ₁ a=some c):EvS prog w hB C J A env (.UnaryOp .Not e pos) ρ σ (.d (.bool !c)) σ₁:=λ ι s m cm Q E F Re S h=>by
 refine wpAny_UnaryOp (L ι s m cm _ _ F Re S λ v s₁ ι₁ g r=>PySem.not_value ?_);exact nz g.sr r hc λ t=>h _ _ ι₁ (g.trans (Goes.tok g.sr _)) (RD.bool _)
theorem yy{c:Bool}(L:TsS prog w hB C J A env e ρ σ c σ₁):TsS prog w hB C J A env (.UnaryOp .Not e pos) ρ σ (!c) σ₁:=λ ι s m cm Q E F Re S h=>
 isTrue_not (L ι s m cm _ _ F Re S λ s' ι' g=>h s' ι' g)
theorem tn{c:Bool}(hp:dM e=true)(L:EvS prog w hB C J A env e ρ σ a σ₁)(hc:dH σ₁ a=some c):TsS prog w hB C J A env e ρ σ c σ₁:=λ ι s m cm Q E F Re S h=>by
 have he:isTrue e env (eval e env)=(do let v<-eval e env;standAt e.pos;holding [v] (truthy v)):=by
  cases e<;>first | rfl | exact nob hp | (rename_i op x p;cases op<;>first | rfl | exact nob hp)
 refine isTrue_plain (L ι s m cm _ _ F Re S λ v s₁ ι₁ g r=>?_) he;exact nz g.sr r hc λ t=>h _ ι₁ (g.trans (Goes.tok g.sr _))
theorem yB{op:BoolOp}:TbS prog w hB C J A env op [] ρ σ (op == .And) σ:=λ ι s m cm Q E F Re S h=>wpAny_pure (h s ι (Goes.refl S))
theorem v7{op:BoolOp}{es:List Expr}{c c':Bool}(T:TsS prog w hB C J A env e ρ σ c σ₁)
  (R:(match op,c with | .And,false=>c'=false/\σ₂=σ₁ | .Or,true=>c'=true/\σ₂=σ₁ | _,_=>TbS prog w hB C J A env op es ρ σ₁ c' σ₂)):TbS prog w hB C J A env op (e::es) ρ σ c' σ₂:=λ ι s m cm Q E F Re S h=>by
 rw[arm_allTrue_cons];refine wpAny_bind (T ι s m cm _ _ F Re S λ s₁ ι₁ g=>?_);cases op<;>cases c
 ·obtain⟨rfl,rfl⟩:=R;exact wpAny_pure (h s₁ ι₁ g)
 ·exact R ι₁ s₁ m cm _ _ (F.evo S g.evo) (Re.evo g.evo) g.sr λ s₂ ι₂ g₂=>h s₂ ι₂ (g.trans g₂)
 ·exact R ι₁ s₁ m cm _ _ (F.evo S g.evo) (Re.evo g.evo) g.sr λ s₂ ι₂ g₂=>h s₂ ι₂ (g.trans g₂)
 ·obtain⟨rfl,rfl⟩:=R;exact wpAny_pure (h s₁ ι₁ g)
theorem vY{op:BoolOp}{es:List Expr}{c:Bool}(T:TbS prog w hB C J A env op es ρ σ c σ₁):TsS prog w hB C J A env (.BoolOp op es pos) ρ σ c σ₁:=λ ι s m cm Q E F Re S h=>by
 rw[arm_isTrue_BoolOp];exact T ι s m cm _ _ F Re S h
theorem aj(hA:AOK A k)(L:EvS prog w hB C J A env e ρ σ a σ₁)(R:EvS prog w hB C J A env f ρ σ₁ b σ₂)(hv:gF σ₂ a b=some r):EvS prog w hB C J A env (.Subscript e f pos) ρ σ r σ₂:=λ ι s m cm Q E F Re S h=>by
 refine Subscript_ (L.two R F Re S λ va vb s' ι' g ra rb=>?_);exact yH hA g.sr ra rb hv λ v t r'=>h v _ ι' (g.trans (Goes.tok g.sr t)) r'
noncomputable def PtS(prog:Program)(w:World)(hB:Heap)(C:Addr)(J:Addr->Prop)(A:Around)(env:Env)(e:Option Expr)(ρ:ah)(σ:aa)(i:Option Int)(σ':aa):Prop:=
 ∀(ι:Loc) (s:Shared) (m cm:Str->Option Value) (Q:Value->Shared->Prop) (E:Value->Shared->Prop),FR J env m cm s.heap->ER w J ι σ env m cm s.heap ρ->SR prog w hB C J ι σ s.heap->
  (∀v s' ι',Goes prog w hB C J s ι σ s' ι' σ'->IsPart v i->Q v s')->wpAny (model prog w) A (evalPart e env) Q E s
theorem wD:PtS prog w hB C J A env none ρ σ none σ:=λ ι s m cm Q E F Re S h=>wpAny_pure (h _ s ι (Goes.refl S) .none)
theorem wC{i:Int}(L:EvS prog w hB C J A env e ρ σ (.d (.int i)) σ₁):PtS prog w hB C J A env (some e) ρ σ (some i) σ₁:=λ ι s m cm Q E F Re S h=>by
 rw[evalPart_some];refine L ι s m cm _ _ F Re S λ v s₁ ι₁ g r=>?_;obtain⟨t,rfl⟩:=aH r;exact h _ s₁ ι₁ g (.int i t)
theorem uy{lo hi:Option Expr}{i j:Option Int}{d d':PyData}{p:Pos}(L:EvS prog w hB C J A env e ρ σ (.d d) σ₁)(R:PtS prog w hB C J A env lo ρ σ₁ i σ₂)(T:PtS prog w hB C J A env hi ρ σ₂ j σ₃)(hv:slice? d i j=some d') :
  EvS prog w hB C J A env (.Subscript e (.Slice lo hi none p) pos) ρ σ (.d d') σ₃:=λ ι s m cm Q E F Re S h=>by
 refine Subscript_ (L ι s m cm _ _ F Re S λ va s₁ ι₁ g₁ ra=>wpAny_Slice ?_);refine R ι₁ s₁ m cm _ _ (F.evo S g₁.evo) (Re.evo g₁.evo) g₁.sr λ vl s₂ ι₂ g₂ pl=>?_;have g12:=g₁.trans g₂;refine T ι₂ s₂ m cm _ _ (F.evo S g12.evo) (Re.evo g12.evo) g₂.sr λ vu s₃ ι₃ g₃ pu=>?_;rw[evalPart_none];refine wpAny_pure ?_;have g123:=g12.trans g₃;have hk:∀b o,s₃.heap.get? b=some o->(s₃.heap.push { cls:=.type "slice",data:=.fields #[vl,vu,.none] }).get? b=some o:=λ b o q=>Heap.get?_push_of_some _ q;have g4:Goes prog w hB C J s₃ ι₃ σ₃ { s₃ with heap:=s₃.heap.push { cls:=.type "slice",data:=.fields #[vl,vu,.none] } } ι₃ σ₃:=Goes.more g₃.sr hk;refine tI g4.sr (((VR.evo (x:=.d d) ra g₂.evo).evo g₃.evo).evo g4.evo) ⟨_,Heap.get?_push_size _ rfl,rfl,rfl⟩ pl pu hv λ v s' ι' g r'=>h v s' ι' ((g123.trans g4).trans g) r'
theorem aA.B1{α β:Type}{R:α->β->Prop}{vs:List α}{xs:List β}(r:aA R vs xs):vs.length=xs.length:=r.1
theorem sg{Φ:Or}:∀(es:List Expr) (σ:aa) (xs':List V) (σ':aa),evs Φ es ρ σ=some (xs',σ')->xs'.length=es.length:=by
 intro es
 induction es with
 |nil=>
  intro σ xs' σ' h;cases h;rfl
 |cons e es ih=>
  intro σ xs' σ' h;refine bC λ k9=>?_;obtain⟨v,σ₁,h1,h⟩:=bd2 h;obtain⟨vs,σ₂,h2,h⟩:=bd2 h;cases h;refine k9 ?_;exact congrArg Nat.succ (ih σ₁ vs _ h2)
theorem xC{es:List Expr}{xs':List V}{own:Bool}(hl:es.length<=1000)(hx:xs'.length=es.length)(L:EsS prog w hB C J A env es pos ρ σ xs' σ₁)(hv:cF own xs' σ₁=some (r,σ')):EvS prog w hB C J A env (.List es pos) ρ σ r σ':=
 λ ι s m cm Q E F Re S h=>by
  have hB2:BIG=1048576:=rfl;refine List_ (L ι s m cm _ _ F Re S λ vs s₁ ι₁ g rs=>?_);have hvl:vs.length<=BIG:=by rw[rs.1,hx];omega
  refine wpAny_newList ?_ (Nat.le_trans hvl aE);exact rC (E:=E) g.sr rs hvl hv λ v s' ι' g' r'=>h v s' ι' (g.trans g') r'
theorem ux{es:List Expr}{ds:List PyData}{kk:Nat}(hl:es.length<=1000)(hx:ds.length=es.length)(L:EsS prog w hB C J A env es pos ρ σ (ds.map .d) σ₁):EvS prog w hB C J A env (.Tuple es kk pos) ρ σ (.d (.tuple ds)) σ₁:=
 λ ι s m cm Q E F Re S h=>by
  have hB2:BIG=1048576:=rfl;refine Tuple_ (L ι s m cm _ _ F Re S λ vs s₁ ι₁ g rs=>?_);have hvl:vs.length<=BIG:=by rw[rs.1,List.length_map,hx];omega
  refine wpAny_newTuple ?_ (Nat.le_trans hvl aE);obtain⟨g',r'⟩:=ed (n:=0) g.sr (oV rs) hvl;exact h _ _ ι₁ (g.trans g') r'
end
end Mine.Internal
end
section
namespace Mine.Internal
open PySem PyProof.Rows
section
variable{J:Addr->Prop}{A:Around}{env:Env}
variable{ρ:ah}{σ σ₁ σ₂ σ₃ σ':aa}{a b r:V}{pos:Pos}{k:Nat}{e f:Expr}
noncomputable def noStar:List Expr->Bool
 |[]=>true
 |e::r=>!isStar e && noStar r
theorem c8:∀{es:List Expr},noStar es=true->(backTo pos (starEach es env)).any (·.1)=false:=by
 intro es
 induction es with
 |nil=>
  intro _;exact rfl
 |cons e es ih=>
  intro h;rw[dB e es (uV (aB h).1)];exact ih (aB h).2
theorem px:∀{es:List Expr},noStar es=true->(backTo pos (starEach es env)).all (λ x=>!x.1)=true:=by
 intro es
 induction es with
 |nil=>
  intro _;exact rfl
 |cons e es ih=>
  intro h;rw[dB e es (uV (aB h).1)];exact ih (aB h).2
theorem eo{Φ:Or}:∀{es:List Expr} {σ:aa} {x:List V×aa},evs Φ es ρ σ=some x->noStar es=true:=by
 intro es
 induction es with
 |nil=>
  intro _ _ _;exact rfl
 |cons e es ih=>
  intro σ x h;obtain⟨v,σ₁,h1,h⟩:=bd2 h;obtain⟨vs,σ₂,h2,_⟩:=bd2 h;rw[noStar,sa h1,ih h2];rfl
theorem eX{Φ:Or}{es:List Expr}{xs':List V}{fv:Value}{ι:Loc}{s:Shared}{m cm:Str->Option Value}{Q:Args->Shared->Prop}{E:Value->Shared->Prop}(he:evs Φ es ρ σ=some (xs',σ'))
  (L:EsS prog w hB C J A env es pos ρ σ xs' σ') (F:FR J env m cm s.heap) (R:ER w J ι σ env m cm s.heap ρ) (S:SR prog w hB C J ι σ s.heap)
  (h:∀vs s' ι',Goes prog w hB C J s ι σ s' ι' σ'->aA (VR w J ι' σ' s'.heap) vs xs'->Q ⟨vs,[]⟩ s'):wpAny (model prog w) A (evalArgs fv true (backTo pos (starEach es env)) []) Q E s:=by
 cases es with
 |nil=>
  refine bC λ k9=>?_;cases he;refine k9 ?_;exact evalArgs_nil3 (h [] s ι (Goes.refl S) aA.nil)
 |cons e es=>
  have:=L ι s m cm (λ vs s'=>Q ⟨vs,[]⟩ s') E F R S h;rw[dB e es (uV (aB (eo he)).1)] at this ⊢;exact PySem.Calls.evalArgs_plain this
theorem mM{h h':Heap}{x:Addr}{mm:Str->Option Value}(n:h.Ns x mm)(hk:∀b o,h.get? b=some o->h'.get? b=some o):h'.Ns x mm:=n.keeps hk
theorem RD.base{ι:Loc}{h:Heap}{v:Value}{d:PyData}(S:SR prog w hB C J ι σ h)(r:RD (λ _=>False) hB v d):RD (Ex J ι σ) h v d:=
 r.keeps (λ b o _ q=>S.keep b o q) λ b o _ q x=>by
  rcases x with x | ⟨l,n,e,hl,rfl | rfl⟩
  ·rw[(S.jo b x).2.1] at q;cases q
  ·rw[(S.off l n e hl).1] at q;cases q
  ·rw[(S.off l n e hl).2] at q;cases q
theorem lS{x:Str}{u:Value}{ι:Loc}{s:Shared}{Q:Value->Shared->Prop}{E:Value->Shared->Prop}(hE:aI env)(hk:env.kindOf x=some .globalImplicit)(hd:(x == ("__debug__":Str))=false)
  (ng:hB.Ns mainGlobals mg) (hx:mg x=some u) (S:SR prog w hB C J ι σ s.heap) (h:Q u s):wpAny (model prog w) A (eval (.Name x pos) env) Q E s:=
 PySem.Calls.Name_function_global hE.kind hk (PySem.Calls.loadGlobal_global (mg:=mg) (by rw[hE.globals];exact mM ng S.keep) hx h) hd
theorem kK{x:Str}{u:Value}{ι:Loc}{s:Shared}{Q:Value->Shared->Prop}{E:Value->Shared->Prop}(hE:aI env)(hk:env.kindOf x=some .globalImplicit)(hd:(x == ("__debug__":Str))=false)
  (ng:hB.Ns mainGlobals mg) (hx:mg x=none) (nb:hB.Ns builtinsNs mb) (hb:mb x=some u) (S:SR prog w hB C J ι σ s.heap) (h:Q u s):wpAny (model prog w) A (eval (.Name x pos) env) Q E s:=
 PySem.Calls.Name_function_global hE.kind hk (PySem.Calls.loadGlobal_builtin (mg:=mg) (mb:=mb) (by rw[hE.globals];exact mM ng S.keep) hx (by rw[hE.builtins];exact mM nb S.keep) hb h) hd
structure FnAt(hB:Heap)(a:Addr)(g:Fn)(fd:FuncData):Prop where
 obj:∃o,hB.get? a=some o/\o.data=.func fd/\o.cls=.type "function"
 code:hB.CodeRec fd.code fd.qualname
 body:fd.body=.stmts g.body
 args:∀vals:List Value,vals.length=g.params.length->bindArgs fd ⟨vals,[]⟩=pure (g.params.zip vals)
 clo:fd.closure=[]
 globals:fd.globals=mainGlobals
 builtins:fd.builtins=builtinsNs
 co:fd.scope.isCoroutine=false
 gen:fd.scope.isGenerator=false
 kind:fd.scope.kind=.function
 nodup:g.params.Nodup
 names:(fd.scope.names.map (·.1)).Nodup
 noFree:∀x,fd.scope.names.lookup x≠some .free
 pk:∀x∈g.params,fd.scope.names.lookup x=some .local\/fd.scope.names.lookup x=some .cell
theorem jC:∀n∈uY,typeLookup (.type "object") n=pure none:=by
 intro n hn;simp only[uY,List.mem_cons,List.not_mem_nil,or_false] at hn;rcases hn with rfl | rfl | rfl | rfl | rfl<;>(rw[typeLookup_type,builtinLookup_eq_fast];kernel_rfl)
structure Base(hB:Heap)(C N:Addr)(p:Prg)(mg mb mN:Str->Option Value):Prop where
 lim:hB.NoLimit
 ng:hB.Ns mainGlobals mg
 nb:hB.Ns builtinsNs mb
 glD:∀x d,p.gl x=some (.d d)->∃u,mg x=some u/\RD (λ _=>False) hB u d
 glT:∀x t,p.gl x=some (.ty t)->mg x=none/\mb x=some (.type t)
 glO:∀x v,p.gl x=some v->(∃d,v=.d d)\/∃t,v=.ty t
 bi:∀n v,(n,v)∈biL->mg n=none/\mb n=some v
 cls:mg p.cls=some (.ref C)
 at':ClsAt hB C N mN
 hook:mN "__getattribute__"=none/\mN "__getattr__"=none/\mN "__setattr__"=none
 att:∀n∈uY,mN n=none
 mt:∀m g,p.mt m=some g->∃a fd,mN m=some (.ref a)/\FnAt hB a g fd/\∃y,typeLookup (.type "object") m=pure y
 fn:∀f g,p.fn f=some g->∃a fd,mg f=some (.ref a)/\FnAt hB a g fd
theorem xD{x:Str}{v:V}(B:Base hB C N p mg mb mN)(hE:aI env)(hk:env.kindOf x=some .globalImplicit)(hd:(x == ("__debug__":Str))=false)(hv:p.gl x=some v) :
  EvS prog w hB C J A env (.Name x pos) ρ σ v σ:=λ ι s m cm Q E F R S h=>by
 rcases B.glO x v hv with ⟨d,rfl⟩ | ⟨t,rfl⟩
 ·obtain⟨u,h1,h2⟩:=B.glD x d hv;exact lS hE hk hd B.ng h1 S (h u s ι (Goes.refl S) (RD.base S h2))
 ·obtain⟨h1,h2⟩:=B.glT x t hv;exact kK hE hk hd B.ng h1 B.nb h2 S (h _ s ι (Goes.refl S) rfl)
noncomputable def ClS(prog:Program)(w:World)(hB:Heap)(C:Addr)(A:Around)(fv:Value)(vs:List V)(σ:aa)(r:V)(σ':aa):Prop:=
 ∀(J:Addr->Prop) (ι:Loc) (s:Shared) (vals:List Value) (Q:Value->Shared->Prop) (E:Value->Shared->Prop),SR prog w hB C J ι σ s.heap->aA (VR w J ι σ s.heap) vals vs->
  (∀v s' ι',Goes prog w hB C J s ι σ s' ι' σ'->VR w J ι' σ' s'.heap v r->Q v s')->wpAny (model prog w) A (call fv vals) Q E s
inductive Dk{α β:Type}(R:α->β->Prop)(vs:List α)(x:β):Prop
 |mk (v:α) (e:vs=[v]) (h:R v x)
inductive Dd{α β:Type}(R:α->β->Prop)(vs:List α)(x y:β):Prop
 |mk (u v:α) (e:vs=[u,v]) (h1:R u x) (h2:R v y)
theorem aA.inv1{α β:Type}{R:α->β->Prop}{vs:List α}{x:β}(r:aA R vs [x]):Dk R vs x:=by
 obtain⟨v,ws,rfl,h1,h2⟩:=r.cons_right;rw[h2.bu];exact⟨v,rfl,h1⟩
theorem aA.inv2{α β:Type}{R:α->β->Prop}{vs:List α}{x y:β}(r:aA R vs [x,y]):Dd R vs x y:=by
 obtain⟨v,ws,rfl,h1,h2⟩:=r.cons_right;obtain⟨u,rfl,h3⟩:=h2.inv1;exact⟨v,u,rfl,h1,h3⟩
end
end Mine.Internal
end
section
namespace Mine.Internal
open PySem PyProof.Rows
structure AOC(A:Around)(k:Nat):Prop where
 handled:A.handled=none
 depth:A.depth+2*k+9<recursionLimit
 units:A.units+40*k+380<cLine
theorem AOK.call{A:Around}{k:Nat}(h:AOK A k):AOC A k:=⟨h.handled,Nat.lt_of_le_of_lt (Nat.add_le_add_left (by decide) _) h.depth,Nat.lt_of_le_of_lt (Nat.add_le_add_left (by decide) _) h.units⟩
theorem jX{a c k n m L:Nat}(hc:c+n<=m)(h:a+k+m<L):a+c+k+n<L:=by
 rw[Nat.add_right_comm a c k,Nat.add_assoc];exact Nat.lt_of_le_of_lt (Nat.add_le_add_left hc _) h
theorem AOK.make{A:Around}{k:Nat}{vals:List Value}(h:AOK A k):AOC (A.under (.builtin "type.__call__" ⟨.ref C::vals,[]⟩)) k:=by
 refine⟨h.handled,?_,jX (c:=1) (by decide) h.units⟩;rw[depth_under_make];exact jX (c:=1) (by decide) h.depth
theorem AOC.deeper{A:Around}{k:Nat}{env:Env}(h:AOC A (k+1)):AOK (A.deeper env) k:=
 ⟨h.handled,jX (c:=1) (m:=2+9) (by decide) (by rw[<-Nat.add_assoc,Nat.add_assoc A.depth];exact h.depth),jX (c:=3) (m:=40+380) (by decide) (by rw[<-Nat.add_assoc,Nat.add_assoc A.units];exact h.units)⟩
section
variable{J:Addr->Prop}{A:Around}{env:Env}
variable{ρ:ah}{σ σ₁ σ₂ σ₃ σ':aa}{a b r:V}{pos:Pos}{k:Nat}{e f:Expr}
structure Au(prog:Program)(w:World)(hB:Heap)(C:Addr)(mg mN:Str->Option Value)(Φ:Or)(k:Nat):Prop where
 P:∀f vs v,Φ.P f vs=some (some v)->vs.all ie=true->∃a fd,mg f=some (.ref a)/\(∃o,hB.get? a=some o/\o.data=.func fd/\o.cls=.type "function")/\
  ∀A σ,AOC A k->ClS prog w hB C A (.ref a) vs σ v σ
 M:∀m vs σ v σ',Φ.M m vs σ=some (v,σ')->∃a fd,mN m=some (.ref a)/\(∃o,hB.get? a=some o/\o.data=.func fd/\o.cls=.type "function")/\(∃y,typeLookup (.type "object") m=pure y)/\
  ∀A,AOC A k->ClS prog w hB C A (.ref a) vs σ v σ'
noncomputable def GN(mg mb:Str->Option Value)(f:Str)(fv:Value):Prop:=mg f=some fv\/(mg f=none/\mb f=some fv)
theorem mX{x:Str}{u:Value}{ι:Loc}{s:Shared}{Q:Value->Shared->Prop}{E:Value->Shared->Prop}(hE:aI env)(hk:env.kindOf x=some .globalImplicit)(hd:(x == ("__debug__":Str))=false)
  (ng:hB.Ns mainGlobals mg) (nb:hB.Ns builtinsNs mb) (hx:GN mg mb x u) (S:SR prog w hB C J ι σ s.heap) (h:Q u s):wpAny (model prog w) A (eval (.Name x pos) env) Q E s:=by
 rcases hx with hx | ⟨h1,h2⟩
 ·exact lS hE hk hd ng hx S h
 ·exact kK hE hk hd ng h1 nb h2 S h
inductive Callee(hB:Heap)(C:Addr)(N:Addr)(mN:Str->Option Value):Value->Prop
 |builtin (id:String):Callee hB C N mN (.builtin id)
 |type (T:String):Callee hB C N mN (.type T)
 |func (a:Addr) (fd:FuncData):(∃o,hB.get? a=some o/\o.data=.func fd/\o.cls=.type "function")->Callee hB C N mN (.ref a)
 |cls:ClsAt hB C N mN->Callee hB C N mN (.ref C)
theorem m8{Φ:Or}{es:List Expr}{xs':List V}{fv:Value}{ι:Loc}{s:Shared}{m cm:Str->Option Value}{Q:Value->Shared->Prop}{E:Value->Shared->Prop}(he:evs Φ es ρ σ=some (xs',σ₁))
  (hc:Callee hB C N mN fv) (hne:fv=.ref C->es≠[]) (L:EsS prog w hB C J A env es pos ρ σ xs' σ₁) (K:ClS prog w hB C A fv xs' σ₁ r σ') (F:FR J env m cm s.heap) (R:ER w J ι σ env m cm s.heap ρ) (S:SR prog w hB C J ι σ s.heap)
  (h:∀v s' ι',Goes prog w hB C J s ι σ s' ι' σ'->VR w J ι' σ' s'.heap v r->Q v s'):wpAny (model prog w) A (callWith pos fv [] (backTo pos (starEach es env)) []) Q E s:=by
 have hn:=eo he;have go:∀vs s' ι',Goes prog w hB C J s ι σ s' ι' σ₁->aA (VR w J ι' σ₁ s'.heap) vs xs'->wpAny (model prog w) A (call fv vs) Q E s':=λ vs s' ι' g rs=>
  K J ι' s' vs _ _ g.sr rs λ v s'' ι'' g' r'=>h v s'' ι'' (g.trans g') r'
 cases hc with
 |builtin id=>exact PySem.Calls.callWith_builtin (c8 hn) (eX he L F R S go)
 |type T=>exact PyProof.Rows.callWith_type (c8 hn) (eX he L F R S go)
 |func a fd ho=>
  obtain⟨o,h1,h2,h3⟩:=ho;exact PySem.Calls.callWith_function (o:=o) (fd:=fd) (eX he L F R S λ vs s' ι' g rs=>⟨⟨g.sr.keep _ _ h1,h2⟩,go vs s' ι' g rs⟩)
 |cls X=>
  cases es with
  |nil=>exact absurd rfl (hne rfl)
  |cons e es=>
   have h1:starEach (e::es) env=(false,eval e env)::starEach es env:=by
    have:=(aB hn).1;cases e<;>first | rfl | exact no this | exact nob this | cases this
   exact callWith_cls X (L ι s m cm _ _ F R S λ vs s' ι' g rs=>⟨g.sr.keep,go vs s' ι' g rs⟩) h1 (c8 (aB hn).2)
theorem aq{Φ:Or}{x:Str}{np:Pos}{es:List Expr}{xs':List V}{fv:Value}(hE:aI env)(hk:env.kindOf x=some .globalImplicit)(hd:(x == ("__debug__":Str))=false)
  (ng:hB.Ns mainGlobals mg) (nb:hB.Ns builtinsNs mb) (hx:GN mg mb x fv) (he:evs Φ es ρ σ=some (xs',σ₁)) (hc:Callee hB C N mN fv) (hne:fv=.ref C->es≠[]) (L:EsS prog w hB C J A env es pos ρ σ xs' σ₁)
  (K:ClS prog w hB C A fv xs' σ₁ r σ'):EvS prog w hB C J A env (.Call (.Name x np) es [] pos) ρ σ r σ':=λ ι s m cm Q E F R S h=>
 Call_Name rfl (mX hE hk hd ng nb hx S (m8 he hc hne L K F R S h))
theorem Aj{vs:List V}{Φ:Or}{own:Bool}(e:dZ Φ own "len" vs σ=some (r,σ')):ClS prog w hB C A (.builtin "len") vs σ r σ':=λ J ι s vals Q E S R h=>by
 replace e:=iX ((if_pos rfl).symm.trans e)
 cases e with
 |mk x e=>
  obtain⟨v,rfl,rv⟩:=R.inv1;cases x with
  |d x=>
   refine bC λ k9=>?_;obtain⟨n,e3,e⟩:=Option.map_eq_some_iff.mp e;cases e;refine k9 ?_;exact zd S rv e3 λ v t r'=>h v _ ι (Goes.tok S t) r'
  |o l=>
   obtain⟨xs,hn,e⟩:=lst_inv (f:=λ xs=>some (V.d (.int xs.length),σ)) e;cases e;obtain⟨vs',n,q1,q2,q3⟩:=S.node l _ hn;obtain⟨rfl,_⟩:=rv;exact iA q1 q2 λ t u=>h _ _ ι (Goes.tok S t) (by rw[q3.1];exact RD.int _ _)
  |_=>first | exact no e | exact nob e | cases e
theorem x5{vs:List V}{Φ:Or}{own:Bool}(e:dZ Φ own "list" vs σ=some (r,σ')):ClS prog w hB C A (.type "list") vs σ r σ':=λ J ι s vals Q E S R h=>by
 replace e:=iX ((if_pos rfl).symm.trans ((if_neg (by decide)).symm.trans e))
 cases e with
 |mk x e=>
  obtain⟨v,rfl,rv⟩:=R.inv1;obtain⟨d,e0,e⟩:=bd1 e;obtain⟨xs,e1,e2⟩:=bd1 e;obtain rfl:=bN e0;exact w6 S rv e1 e2 h
theorem Ah{vs:List V}{Φ:Or}{own:Bool}(hA:AOK A k)(e:dZ Φ own "sum" vs σ=some (r,σ')):ClS prog w hB C A (.builtin "sum") vs σ r σ':=λ J ι s vals Q E S R h=>by
 replace e:=iX ((if_pos rfl).symm.trans ((if_neg (by decide)).symm.trans ((if_neg (by decide)).symm.trans e)))
 cases e with
 |mk x e=>
  refine bC λ k9=>?_;obtain⟨v,rfl,rv⟩:=R.inv1;obtain⟨d,e0,e⟩:=bd1 e;obtain⟨xs,e1,e⟩:=bd1 e;obtain⟨is,e2,e⟩:=bd1 e;cases e;obtain rfl:=bN e0;obtain rfl:=gW e1;refine k9 ?_;exact yG hA S rv e2 λ v s' g r'=>h v s' ι g r'
theorem Al{vs:List V}{Φ:Or}{own:Bool}(e:dZ Φ own "abs" vs σ=some (r,σ')):ClS prog w hB C A (.builtin "abs") vs σ r σ':=λ J ι s vals Q E S R h=>by
 replace e:=iX ((if_pos rfl).symm.trans ((if_neg (by decide)).symm.trans ((if_neg (by decide)).symm.trans ((if_neg (by decide)).symm.trans e))))
 cases e with
 |mk x e=>
  refine bC λ k9=>?_;obtain⟨v,rfl,rv⟩:=R.inv1;obtain⟨i,e0,e⟩:=bd1 e;cases e;obtain rfl:=aS e0;refine k9 ?_;exact Ar S rv λ v t r'=>h v _ ι (Goes.tok S t) r'
theorem Ak{vs:List V}{Φ:Or}{own:Bool}(hA:AOK A k)(e:dZ Φ own "all" vs σ=some (r,σ')):ClS prog w hB C A (.builtin "all") vs σ r σ':=λ J ι s vals Q E S R h=>by
 replace e:=iX ((if_pos rfl).symm.trans ((if_neg (by decide)).symm.trans ((if_neg (by decide)).symm.trans ((if_neg (by decide)).symm.trans ((if_neg (by decide)).symm.trans e)))))
 cases e with
 |mk x e=>
  refine bC λ k9=>?_;obtain⟨v,rfl,rv⟩:=R.inv1;obtain⟨d,e0,e⟩:=bd1 e;obtain⟨xs,e1,e⟩:=bd1 e;obtain⟨bs,e2,e⟩:=bd1 e;cases e;obtain rfl:=bN e0;obtain rfl:=gW e1;refine k9 ?_;exact nj hA S rv e2 λ v s' g r'=>h v s' ι g r'
theorem x3{vs:List V}{Φ:Or}{own:Bool}(e:dZ Φ own "type" vs σ=some (r,σ')):ClS prog w hB C A (.type "type") vs σ r σ':=λ J ι s vals Q E S R h=>by
 replace e:=iX ((if_pos rfl).symm.trans ((if_neg (by decide)).symm.trans ((if_neg (by decide)).symm.trans ((if_neg (by decide)).symm.trans ((if_neg (by decide)).symm.trans ((if_neg (by decide)).symm.trans ((if_neg (by decide)).symm.trans e)))))))
 cases e with
 |mk x e=>
  refine bC λ k9=>?_;obtain⟨v,rfl,rv⟩:=R.inv1;obtain⟨t,e1,e⟩:=bd1 e;cases e;refine k9 ?_;exact vT S rv e1 (h _ s ι (Goes.refl S) rfl)
theorem x4{vs:List V}{Φ:Or}(hA:AOK A k)(X:ClsAt hB C N mN)(O:Au prog w hB C mg mN Φ k)(e:Φ.M "__init__" (.o σ.length::vs) (σ++[.ins []])=some (.d .none,σ')) :
  ClS prog w hB C A (.ref C) vs σ (.o σ.length) σ':=λ J ι s vals Q E S R h=>by
 refine bC λ k9=>?_;obtain⟨fI,fd,hi,⟨oI,h1,h2,h3⟩,_,K⟩:=O.M _ _ _ _ _ e;obtain⟨hh,g,d,t,os⟩:=s;obtain⟨nm,q,bs,sn,sub,col,dd,k0,k1,k2,k3,k5,hC⟩:=(X.keeps S.keep).obj;refine k9 ?_;refine wpAny_call_obj_init PySem.F.objNew hC (X.keeps S.keep).ns hi (S.keep _ _ h1) h3 λ h' x dx Mk=>?_;have ev1:Evo ι σ hh (ι.add σ x dx) (σ++[.ins []]) h':=Evo.grow Mk.newX Mk.newD Mk.keeps;have nr:NR prog w C J (ι.add σ x dx) (σ++[.ins []]) h' x dx (.ins []):=⟨Nat.zero_le _,λ _=>none,Mk.inst,Mk.dict,(λ n v q=>by cases q),λ n=>trivial⟩;have S1:SR prog w hB C J (ι.add σ x dx) (σ++[.ins []]) h':=S.grow Mk.newX Mk.newD Mk.keeps nr (λ q=>nob q.symm);have rme:VR w J (ι.add σ x dx) (σ++[.ins []]) h' (.ref x) (.o σ.length):=VR.top;refine K _ hA.make J (ι.add σ x dx) ⟨h',g,d,t,os⟩ (.ref x::vals) _ E S1 (aA.cons rme (R.mono λ v y r=>r.evo ev1)) λ v s' ι' g' r'=>⟨?_,?_⟩
 ·cases r';rfl
 ·refine h _ s' ι' ?_ (rme.evo g'.evo);exact⟨g'.same,ev1.trans g'.evo,g'.sr⟩
inductive BN(A:Around)(f:Str)(vs:List V)(σ:aa)(r:V)(σ':aa):Prop
 |mk (fv:Value) (h1:GN mg mb f fv) (h2:Callee hB C N mN fv) (h3:ClS prog w hB C A fv vs σ r σ')
theorem uT{vs:List V}{Φ:Or}{own:Bool}{f:Str}(B:Base hB C N p mg mb mN)(O:Au prog w hB C mg mN Φ k)(hcls:Φ.cls=p.cls)(hA:AOK A k)(hns:f≠"set")
  (e:dZ Φ own f vs σ=some (r,σ')):BN A f vs σ r σ':=by
 have bi:∀n v,(n,v)∈biL->GN mg mb n v:=λ n v hm=>.inr (B.bi n v hm);by_cases h1:f="len"
 ·subst h1;exact⟨_,bi _ _ (.head _),.builtin _,Aj e⟩
 by_cases h2:f="list"
 ·subst h2;exact⟨_,bi _ (.type "list") (by decide),.type _,x5 e⟩
 by_cases h3:f="sum"
 ·subst h3;exact⟨_,bi _ (.builtin "sum") (by decide),.builtin _,Ah hA e⟩
 by_cases h5:f="abs"
 ·subst h5;exact⟨_,bi _ (.builtin "abs") (by decide),.builtin _,Al e⟩
 by_cases h6:f="all"
 ·subst h6;exact⟨_,bi _ (.builtin "all") (by decide),.builtin _,Ak hA e⟩
 by_cases h8:f="type"
 ·subst h8;exact⟨_,bi _ (.type "type") (by decide),.type _,x3 e⟩
 replace e:=(if_neg h8).symm.trans ((if_neg hns).symm.trans ((if_neg h6).symm.trans ((if_neg h5).symm.trans ((if_neg h3).symm.trans ((if_neg h2).symm.trans ((if_neg h1).symm.trans e))))))
 by_cases hf:f=Φ.cls
 ·obtain⟨u,σ₂,e1,e2⟩:=bd2 ((if_pos hf).symm.trans e);refine bC λ k9=>?_;obtain⟨_,e3,e2⟩:=bd1 e2;cases e2;refine k9 ?_;cases u with
  |d y=>
   cases y with
   |none=>exact⟨_,.inl (by rw[hf,hcls];exact B.cls),.cls B.at',x4 hA B.at' O e1⟩
   |_=>first | exact no e3 | exact nob e3 | cases e3
  |_=>first | exact no e3 | exact nob e3 | cases e3
 ·replace e:=(if_neg hf).symm.trans e
  by_cases hs:vs.all ie=true
  ·obtain⟨r',e1,e2⟩:=bd1 ((if_pos hs).symm.trans e);refine bC λ k9=>?_;obtain⟨v,rfl,e2⟩:=Option.map_eq_some_iff.mp e2;cases e2;obtain⟨a,fd,q1,q2,K⟩:=O.P f vs _ e1 hs;refine k9 ?_;exact⟨_,.inl q1,.func a fd q2,K A σ hA.call⟩
  ·exact no ((if_neg hs).symm.trans e)
end
end Mine.Internal
end
section
namespace Mine.Internal
open PySem PyProof.Rows
section
variable{J:Addr->Prop}{A:Around}{env:Env}
variable{ρ:ah}{σ σ₁ σ₂ σ₃ σ':aa}{a b r:V}{pos:Pos}{k:Nat}{e f:Expr}
theorem rX{ι:Loc}{h:Heap}{v:Value}{x:V}(rv:VR w J ι σ h v x):handedOut v=pure v:=by
 cases x with
 |d d=>cases rv<;>rfl
 |fs xs=>obtain⟨a,rfl,_⟩:=rv;rfl
 |ty n=>obtain rfl:=rv;rfl
 |o l=>obtain⟨rfl,_⟩:=rv;rfl
noncomputable def MtS(prog:Program)(w:World)(hB:Heap)(C:Addr)(A:Around)(m:Str)(ov:Value)(a:V)(vs:List V)(s₁:Shared)(σ₂:aa)(r:V)(σ':aa):Prop:=
 ∃fv,(∀(pl:Sem Bool) (Q:Value×List Value->Shared->Prop) (E:Value->Shared->Prop),Q (fv,[ov]) s₁->wpAny (model prog w) A (getMethod ov m pl) Q E s₁)/\
  ((∃id,fv=.builtin id)\/∃f fd o,fv=.ref f/\hB.get? f=some o/\o.data=.func fd)/\ClS prog w hB C A fv (a::vs) σ₂ r σ'
theorem tZ{h:Heap}{l:Addr}{vs:List Value}{n:Nat}(e:h.get? l=some (aP vs n)):∀a,Value.ref l=.ref a->∃o,h.get? a=some o/\o.dict=none:=λ a q=>by cases q;exact⟨_,e,rfl⟩
theorem j6{m:Str}{id:String}{ov:Value}{l:Addr}{vs:List V}{ws:List Value}{n:Nat}{s₁:Shared}(ho:s₁.heap.get? l=some (aP ws n))(hov:ov=.ref l)(slot:Slot "list" m id)(ty:typeOf (.builtin id)=pure (.type "method_descriptor"))
  (K:ClS prog w hB C A (.builtin id) (a::vs) σ₂ r σ'):MtS prog w hB C A m ov a vs s₁ σ₂ r σ':=by
 subst hov;exact⟨_,λ pl Q E h=>getMethod_builtin (IsList.of ho).typeIs F.plainAttrs_list slot ty (tZ ho) h,.inl ⟨_,rfl⟩,K⟩
theorem w0{Φ:Or}{m:Str}{xs:List PyData}{vs:List V}{ι₁:Loc}{ov:Value}{s₁:Shared}(hA:AOK A k)(S:SR prog w hB C J ι₁ σ₁ s₁.heap)(rv:VR w J ι₁ σ₁ s₁.heap ov (.d (.list xs)))
  (e:gM Φ m (.d (.list xs)) vs σ₂=some (r,σ')):MtS prog w hB C A m ov (.d (.list xs)) vs s₁ σ₂ r σ':=by
 obtain⟨l,ws,n,rfl,q1,q2,q3,q4⟩:=RD.aZ rv;cases mdC e with
 |mk y q=>
  cases q with
  |index x ys j hm hy e1 e2 e3=>
   subst hm;cases e1;cases e3;obtain rfl:=bN hy;refine j6 q1 rfl F.slot_list_index F.type_list_index λ J' ι s vals Q E S' R h=>?_;obtain⟨u,v,rfl,ru,rv'⟩:=R.inv2;exact uh hA S' ru rv' e2 λ v t r'=>h v _ ι (Goes.tok S' t) r'
  |count x j hm hy e1 e3=>
   subst hm;cases e3;obtain rfl:=bN hy;refine j6 q1 rfl F.slot_list_count F.type_list_count λ J' ι s vals Q E S' R h=>?_;obtain⟨u,v,rfl,ru,rv'⟩:=R.inv2;exact uF S' ru rv' e1 λ v t r'=>h v _ ι (Goes.tok S' t) r'
theorem y8{Φ:Or}{m:Str}{l:Nat}{xs xs₂:List V}{vs:List V}{ι₁:Loc}{ov:Value}{s₁:Shared}(S:SR prog w hB C J ι₁ σ₁ s₁.heap)(rv:VR w J ι₁ σ₁ s₁.heap ov (.o l))(hn:σ₁[l]?=some (.lst xs))(hn₂:σ₂[l]?=some (.lst xs₂))
  (e:gM Φ m (.o l) vs σ₂=some (r,σ')):MtS prog w hB C A m ov (.o l) vs s₁ σ₂ r σ':=by
 obtain⟨rfl,hl⟩:=rv;obtain⟨ws,n,q1,q2,q3⟩:=S.node l _ hn
 replace e:=(g8 hn₂).symm.trans e
 by_cases hm:m="append"
 ·replace e:=iX ((if_pos hm).symm.trans e)
  cases e with
  |mk y e=>
   by_cases hz:xs₂.length<LIM
   ·cases(if_pos hz).symm.trans e;subst hm;refine j6 q1 rfl F.slot_list_append F.type_list_append λ J' ι s vals Q E S' R h=>?_;obtain⟨u,v,rfl,⟨rfl,_⟩,rv'⟩:=R.inv2;exact sL S' hn₂ hz rv' h
   ·exact no ((if_neg hz).symm.trans e)
 ·replace e:=(if_neg hm).symm.trans e
  by_cases hm:m="pop"
  ·replace e:=iX ((if_pos hm).symm.trans e)
   cases e with
   |mk y e=>
    obtain⟨i,ei,e⟩:=bd1 e;by_cases hi:i=0
    ·replace e:=(if_pos hi).symm.trans e
     cases xs₂ with
     |nil=>first | exact no e | exact nob e | cases e
     |cons x r'=>
      cases e;subst hm;subst hi;obtain rfl:=aS ei;refine j6 q1 rfl F.slot_list_pop F.type_list_pop λ J' ι s vals Q E S' R h=>?_;obtain⟨u,v,rfl,⟨rfl,_⟩,rv'⟩:=R.inv2;obtain⟨t,rfl⟩:=aH rv';exact yT S' hn₂ h
    ·exact no ((if_neg hi).symm.trans e)
  ·exact no ((if_neg hm).symm.trans e)
theorem Bb{Φ:Or}{m:Str}{l:Nat}{kvs kvs₂:List (Int×V)}{vs:List V}{ι₁:Loc}{ov:Value}{s₁:Shared}(S:SR prog w hB C J ι₁ σ₁ s₁.heap)(rv:VR w J ι₁ σ₁ s₁.heap ov (.o l))(hn:σ₁[l]?=some (.dcI kvs))(hn₂:σ₂[l]?=some (.dcI kvs₂))
  (e:gM Φ m (.o l) vs σ₂=some (r,σ')):MtS prog w hB C A m ov (.o l) vs s₁ σ₂ r σ':=by
 obtain⟨rfl,hl⟩:=rv;obtain⟨q0,ps,q1,q2⟩:=S.node l _ hn
 replace e:=(g8 hn₂).symm.trans e
 refine Classical.byCases (p:=m="get") (λ hm=>?_) (λ hm=>?_)
 ·replace e:=BH ((if_pos hm).symm.trans e)
  cases e with
  |mk a y e=>
   obtain⟨j,ej,e⟩:=bd1 e;cases e;subst hm;obtain rfl:=aS ej;refine⟨_,λ pl Q E h=>getMethod_builtin q1.typeIs F.plainAttrs_dict F.slot_dict_get F.type_dict_get q1.mapOf.noDict h,.inl ⟨_,rfl⟩,λ J' ι s vals Q E S' R h=>?_⟩;obtain⟨u,ws,rfl,⟨rfl,_⟩,R'⟩:=R.cons_right;obtain⟨v,v',rfl,rv1,rv2⟩:=R'.inv2;obtain⟨t,rfl⟩:=aH rv1;exact zv S' hn₂ rv2 λ v t r'=>h v _ ι (Goes.tok S' t) r'
 ·exact no ((if_neg hm).symm.trans e)
theorem y9{Φ:Or}{m:Str}{l:Nat}{fs fs₂:List (Str×V)}{vs:List V}{ι₁:Loc}{ov:Value}{s₁:Shared}(B:Base hB C N p mg mb mN)(O:Au prog w hB C mg mN Φ k)(hA:AOK A k)
  (S:SR prog w hB C J ι₁ σ₁ s₁.heap) (rv:VR w J ι₁ σ₁ s₁.heap ov (.o l)) (hn:σ₁[l]?=some (.ins fs)) (ha:dG m fs=none) (hn₂:σ₂[l]?=some (.ins fs₂))
  (e:gM Φ m (.o l) vs σ₂=some (r,σ')):MtS prog w hB C A m ov (.o l) vs s₁ σ₂ r σ':=by
 obtain⟨rfl,hl⟩:=rv;obtain⟨q0,mA,q1,q2,q3,q4⟩:=S.node l _ hn;have hma:mA m=none:=by
  have:=q4 m;rw[ha] at this;cases hm:mA m with
  |none=>rfl
  |some v=>rw[hm] at this;exact this.elim
 refine bC λ k9=>?_;obtain⟨f,fd,h1,⟨o,h2,h3,h4⟩,⟨y,h5⟩,K⟩:=O.M _ _ _ _ _ ((g8 hn₂).symm.trans e);obtain⟨hh,g,d,t,os⟩:=s₁;obtain⟨nm,q,bs,sn,sub,col,dd,k0,k1,k2,k3,k5,hC⟩:=(B.at'.keeps S.keep).obj;refine k9 ?_;exact⟨_,λ pl Q E h=>method_of hC (B.at'.keeps S.keep).ns B.hook.1 B.hook.2.1 h1 (S.keep _ _ h2) h4 h5 q1 hma h,.inr ⟨f,fd,o,rfl,h2,h3⟩,K A hA.call⟩
theorem cZ{Φ:Or}{m:Str}{apos:Pos}{es:List Expr}{vs:List V}(hb:lx e=true)(hl:(apos.endLine == pos.line)=true)(hf:es.length<20)(L:EvS prog w hB C J A env e ρ σ a σ₁)
  (he:evs Φ es ρ σ₁=some (vs,σ₂)) (Es:EsS prog w hB C J A env es pos ρ σ₁ vs σ₂)
  (K:∀ov s₁ ι₁,SR prog w hB C J ι₁ σ₁ s₁.heap->VR w J ι₁ σ₁ s₁.heap ov a->MtS prog w hB C A m ov a vs s₁ σ₂ r σ'):EvS prog w hB C J A env (.Call (.Attribute e m apos) es [] pos) ρ σ r σ':=λ ι s mm cm Q E F R S h=>by
 have hn:=eo he;have hbase:attributeBase e m env (eval e env)=eval e env:=by cases e<;>first | rfl | exact nob hb
 rw[arm_eval_Call,hbase];refine wpAny_bind (L ι s mm cm _ _ F R S λ ov s₁ ι₁ g₁ r₁=>wpAny_bind (wpAny_standAt ?_));refine bC λ k9=>?_;obtain⟨fv,hget,hfv,hcl⟩:=K ov s₁ ι₁ g₁.sr r₁;refine k9 ?_;have hform:methodCallForm (es.length+([]:List Keyword).length) (backTo pos (starEach es env)) (backToKw pos (keywordEach [] env))=true:=by
  have:decide (es.length+0+0<30)=true:=decide_eq_true (Nat.lt_trans hf (by decide));exact Bool.and_eq_true_iff.mpr ⟨Bool.and_eq_true_iff.mpr ⟨px hn,rfl⟩,this⟩
 have hpos:methodCallPos true e env apos pos=pure pos:=by unfold methodCallPos;exact if_pos ‹_›
 unfold methodCall;rw[hform];refine wpAny_bind (wpAny_holding (hget _ _ _ ?_));refine wpAny_bind (wpAny_of_eq hpos ?_);have go:∀vals s' ι',Goes prog w hB C J s₁ ι₁ σ₁ s' ι' σ₂->aA (VR w J ι' σ₂ s'.heap) vals vs->wpAny (model prog w) A (call fv (ov::vals)) Q E s':=λ vals s' ι' g rs=>
  hcl J ι' s' (ov::vals) _ _ g.sr (aA.cons (r₁.evo g.evo) rs) λ v s'' ι'' g' r'=>h v s'' ι'' ((g₁.trans g).trans g') r'
 rcases hfv with ⟨id,rfl⟩ | ⟨f,fd,o,rfl,h1,h2⟩
 ·exact PySem.Calls.callWith_builtin (c8 hn) (eX he Es (F.evo S g₁.evo) (R.evo g₁.evo) g₁.sr go)
 ·exact PySem.Calls.callWith_function (o:=o) (fd:=fd) (eX he Es (F.evo S g₁.evo) (R.evo g₁.evo) g₁.sr λ vs s' ι' g rs=>⟨⟨g.sr.keep _ _ h1,h2⟩,go vs s' ι' g rs⟩)
noncomputable def isName:Expr->Bool
 |.Name ..=>true
 |_=>false
theorem xF{n:Str}{l:Nat}{fs:List (Str×V)}{v:V}(B:Base hB C N p mg mb mN)(hb:isName e=true)(hn:n∈uY)(L:EvS prog w hB C J A env e ρ σ (.o l) σ₁)
  (hl:σ₁[l]?=some (.ins fs)) (ha:dG n fs=some v) (hr:(r=dr σ₁ v/\σ'=σ₁)\/∃d,frz 8 σ₁ v=some (d,σ')/\r=.d d):EvS prog w hB C J A env (.Attribute e n pos) ρ σ r σ':=λ ι s mm cm Q E F R S h=>by
 refine Attribute_any_ (L ι s mm cm _ _ F R S λ ov s₁ ι₁ g₁ r₁=>?_) (by cases e<;>first | rfl | exact nob hb);obtain⟨rfl,_⟩:=r₁;obtain⟨q0,mA,q1,q2,q3,q4⟩:=g₁.sr.node l _ hl;have hv:=q4 n;rw[ha] at hv;obtain⟨u,hu,ru⟩:=hv.fL;have hg:∀(Q:Value->Shared->Prop) (E:Value->Shared->Prop),Q u { s₁ with toks:=s₁.toks+1 }->wpAny (model prog w) A (getAttr (.ref (ι₁ l).1) n true) Q E s₁:=λ Q E hq=>by
  refine bC λ k9=>?_;obtain⟨hh,g,d,t,os⟩:=s₁;obtain⟨nm,q,bs,sn,sub,col,dd,k0,k1,k2,k3,k5,hC⟩:=(B.at'.keeps g₁.sr.keep).obj;refine k9 ?_;exact load_attr hC (B.at'.keeps g₁.sr.keep).ns B.hook.1 (B.att n hn) (jC n hn) q1 hu (rX ru) hq
 refine hg _ _ ?_;have g2:Goes prog w hB C J s₁ ι₁ σ₁ { s₁ with toks:=s₁.toks+1 } ι₁ σ₁:=Goes.tok g₁.sr _;rcases hr with ⟨rfl,rfl⟩ | ⟨d,hd,rfl⟩
 ·exact h u _ ι₁ (g₁.trans g2) (lY (s:={ s₁ with toks:=s₁.toks+1 }) g₁.sr ru)
 ·obtain⟨S',E',R'⟩:=fo 8 g₁.sr ru hd;exact h u _ ι₁ (g₁.trans ⟨⟨rfl,GX.refl _⟩,E',S'⟩) R'
end
end Mine.Internal
end
section
set_option tactic.hygienic true
namespace Mine.Internal
open PySem PyProof.Rows
noncomputable def qf(env:Env):List (Str×NameKind)->List (Str×Addr)->List (Str×Addr)
 |[],acc=>acc
 |(n,k)::r,acc=>if k == .free then qf env r ((n,(env.cells.lookup n).getD 0)::acc) else qf env r acc
section
variable{env:Env}
theorem iN{n:Str}{k:NameKind}{r:List (Str×NameKind)}{acc:List (Str×Addr)}(h:¬k=.free):qf env ((n,k)::r) acc=qf env r acc:=if_neg λ q=>h (eq_of_beq q)
theorem Ag(f:Str×NameKind->List (Str×Addr)->Sem (ForInStep (List (Str×Addr))))
  (hf:∀name kind cs,f (name,kind) cs=if kind == .free then(do let a<-cellOf env name;pure (.yield ((name,a)::cs))) else pure (.yield cs)) :
  ∀(names:List (Str×NameKind)) (acc:List (Str×Addr)),(∀x∈names,x.2=.free->(env.cells.lookup x.1).isSome=true)->forIn names acc f=pure (qf env names acc):=by
 intro names
 induction names with
 |nil=>exact λ acc _=>rfl
 |cons x9 r ih=>
  intro acc h;obtain⟨n,k⟩:=x9;have hr:∀x∈r,x.2=.free->(env.cells.lookup x.1).isSome=true:=λ x hx=>h x (List.mem_cons_of_mem _ hx);rw[List.forIn_cons,hf];by_cases hk:k=.free
  ·subst hk;obtain⟨c,hc⟩:=Option.isSome_iff_exists.mp (h (n,.free) List.mem_cons_self rfl);have hc:env.cells.lookup n=some c:=hc;have h1:cellOf env n=pure c:=by unfold cellOf;rw[hc]
   refine .trans ?_ (ih _ hr);rw[h1,hc];rfl
  ·rw[if_neg λ q=>hk (eq_of_beq q),iN hk];exact ih acc hr
theorem kF{scope:Scope}(h:∀x∈scope.names,x.2=.free->(env.cells.lookup x.1).isSome=true):closureFor scope env=pure (qf env scope.names []):=by
 simp only[closureFor];rw[Ag (env:=env) _ (λ name kind cs=>?_) scope.names [] h]
 ·rfl
 ·by_cases hk:kind == NameKind.free<;>rfl
theorem uM:∀(names:List (Str×NameKind)) (acc:List (Str×Addr)),(∀x∈names,x.2=.free->(env.cells.lookup x.1).isSome=true)->
  ∀n c,(n,c)∈qf env names acc->((n,.free)∈names/\env.cells.lookup n=some c)\/(n,c)∈acc:=by
 intro names
 induction names with
 |nil=>exact λ acc _ n c h=>.inr h
 |cons x9 r ih=>
  intro acc hs n c h;obtain⟨k,kd⟩:=x9;have hr:∀x∈r,x.2=.free->(env.cells.lookup x.1).isSome=true:=λ x hx=>hs x (List.mem_cons_of_mem _ hx);by_cases hk:kd=.free
  ·subst hk;rcases ih _ hr n c h with ⟨h1,h2⟩ | h1
   ·exact .inl ⟨List.mem_cons_of_mem _ h1,h2⟩
   ·rcases List.mem_cons.mp h1 with e | h1
    ·obtain⟨rfl,rfl⟩:=Prod.mk.inj e;obtain⟨c',hc⟩:=Option.isSome_iff_exists.mp (hs (n,.free) List.mem_cons_self rfl);have hc:env.cells.lookup n=some c':=hc;exact .inl ⟨List.mem_cons_self,by rw[hc];rfl⟩
    ·exact .inr h1
  ·rw[iN hk] at h;exact(ih _ hr n c h).imp_left λ q=>⟨List.mem_cons_of_mem _ q.1,q.2⟩
theorem uP:∀(names:List (Str×NameKind)) (acc:List (Str×Addr)) (x:Str×Addr),x∈acc->x∈qf env names acc:=by
 intro names
 induction names with
 |nil=>exact λ acc x h=>h
 |cons x9 r ih=>
  intro acc x h;obtain⟨k,kd⟩:=x9;by_cases hk:kd=.free
  ·subst hk;exact ih _ x (List.mem_cons_of_mem _ h)
  ·rw[iN hk];exact ih _ x h
theorem uO:∀(names:List (Str×NameKind)) (acc:List (Str×Addr)) (n:Str),(n,NameKind.free)∈names->∃c,(n,c)∈qf env names acc:=by
 intro names
 induction names with
 |nil=>exact λ acc n h=>by cases h
 |cons x9 r ih=>
  intro acc n h;obtain⟨k,kd⟩:=x9;by_cases hk:kd=.free
  ·subst hk;rcases List.mem_cons.mp h with e | h
   ·cases e;exact⟨_,uP r _ _ List.mem_cons_self⟩
   ·exact ih _ n h
  ·rw[iN hk];exact ih _ n ((List.mem_cons.mp h).resolve_left λ e=>hk (Prod.mk.inj e).2.symm)
theorem pU(hap:∀n n' c,env.cells.lookup n=some c->env.cells.lookup n'=some c->n=n'):∀(names:List (Str×NameKind)) (acc:List (Str×Addr)),(∀x∈names,x.2=.free->(env.cells.lookup x.1).isSome=true)->
  (names.map (·.1)).Nodup->(acc.Pairwise λ x y=>x.2≠y.2)->(∀n c,(n,c)∈acc->env.cells.lookup n=some c/\n∉names.map (·.1))->(qf env names acc).Pairwise λ x y=>x.2≠y.2:=by
 intro names
 induction names with
 |nil=>exact λ acc _ _ h _=>h
 |cons x9 r ih=>
  intro acc hs hn h ha;obtain⟨k,kd⟩:=x9;have hr:∀x∈r,x.2=.free->(env.cells.lookup x.1).isSome=true:=λ x hx=>hs x (List.mem_cons_of_mem _ hx);have hn:=List.nodup_cons.mp hn;have ha':∀n c,(n,c)∈acc->env.cells.lookup n=some c/\n∉r.map (·.1):=λ n c hm=>⟨(ha n c hm).1,λ q=>(ha n c hm).2 (List.mem_cons_of_mem _ q)⟩;by_cases hk:kd=.free
  ·subst hk;obtain⟨c',hc⟩:=Option.isSome_iff_exists.mp (hs (k,.free) List.mem_cons_self rfl);have hc:env.cells.lookup k=some c':=hc;refine ih _ hr hn.2 (List.pairwise_cons.mpr ⟨λ y hy e=>?_,h⟩) λ n c hm=>?_
   ·rw[hc] at e;have e:c'=y.2:=e;exact(ha y.1 y.2 hy).2 (hap _ _ _ (ha y.1 y.2 hy).1 (e▸hc)▸List.mem_cons_self)
   ·rcases List.mem_cons.mp hm with e | hm
    ·cases e;exact⟨by rw[hc];rfl,hn.1⟩
    ·exact ha' n c hm
  ·rw[iN hk];exact ih acc hr hn.2 h ha'
end
theorem g7{n:Nat}{x:Str}{k:NameKind}{r:List (Str×NameKind)}{acc:List (Str×Addr)}(h:¬k=.cell):cellsFrom n ((x,k)::r) acc=cellsFrom n r acc:=if_neg λ q=>h (eq_of_beq q)
theorem wB{h:Heap}{x:Str}{k:NameKind}{r:List (Str×NameKind)}(q:¬k=.cell):pushCells h ((x,k)::r)=pushCells h r:=if_neg λ z=>q (eq_of_beq z)
theorem kG:∀(names:List (Str×NameKind)) (h:Heap) (acc:List (Str×Addr)) (n:Str) (c:Addr),(n,c)∈cellsFrom h.objs.size names acc->
  ((n,NameKind.cell)∈names/\h.objs.size<=c/\(pushCells h names).IsCell c none)\/(n,c)∈acc:=by
 intro names
 induction names with
 |nil=>exact λ h acc n c hm=>.inr hm
 |cons x9 r ih=>
  intro h acc n c hm;obtain⟨k,kd⟩:=x9;by_cases hk:kd=.cell
  ·subst hk;have hz:=Heap.size_push h { cls:=.type "cell",data:=.cell none };rcases ih (h.push { cls:=.type "cell",data:=.cell none }) ((k,h.objs.size)::acc) n c (by rw[hz];exact hm) with ⟨h1,h2,h3⟩ | h1
   ·exact .inl ⟨List.mem_cons_of_mem _ h1,Nat.le_of_lt (Nat.lt_of_lt_of_le (Nat.lt_succ_self _) (Nat.le_trans (Nat.le_of_eq hz.symm) h2)),h3⟩
   ·rcases List.mem_cons.mp h1 with e | h1
    ·cases e;exact .inl ⟨List.mem_cons_self,Nat.le_refl _,⟨_,pushCells_keeps r _ _ _ (Heap.get?_push_size _ rfl),rfl⟩⟩
    ·exact .inr h1
  ·rw[g7 hk] at hm;rw[wB hk];exact(ih h acc n c hm).imp_left λ q=>⟨List.mem_cons_of_mem _ q.1,q.2⟩
theorem fy:∀(names:List (Str×NameKind)) (n:Nat) (acc:List (Str×Addr)) (x:Str×Addr),x∈acc->x∈cellsFrom n names acc:=by
 intro names
 induction names with
 |nil=>exact λ n acc x h=>h
 |cons x9 r ih=>
  intro n acc x h;obtain⟨k,kd⟩:=x9;by_cases hk:kd=.cell
  ·subst hk;exact ih _ _ x (List.mem_cons_of_mem _ h)
  ·rw[g7 hk];exact ih _ _ x h
theorem cL:∀(names:List (Str×NameKind)) (n:Nat) (acc:List (Str×Addr)) (x:Str),(x,NameKind.cell)∈names->∃c,(x,c)∈cellsFrom n names acc:=by
 intro names
 induction names with
 |nil=>exact λ n acc x h=>by cases h
 |cons x9 r ih=>
  intro n acc x h;obtain⟨k,kd⟩:=x9;by_cases hk:kd=.cell
  ·subst hk;rcases List.mem_cons.mp h with e | h
   ·cases e;exact⟨_,fy r _ _ _ List.mem_cons_self⟩
   ·exact ih _ _ x h
  ·rw[g7 hk];exact ih _ _ x ((List.mem_cons.mp h).resolve_left λ e=>hk (Prod.mk.inj e).2.symm)
theorem iO:∀(names:List (Str×NameKind)) (n:Nat) (acc:List (Str×Addr)),(acc.Pairwise λ x y=>x.2≠y.2)->(∀x∈acc,x.2<n)->(cellsFrom n names acc).Pairwise λ x y=>x.2≠y.2:=by
 intro names
 induction names with
 |nil=>exact λ n acc h _=>h
 |cons x9 r ih=>
  intro n acc h hl;obtain⟨k,kd⟩:=x9;by_cases hk:kd=.cell
  ·subst hk;exact ih _ _ (List.pairwise_cons.mpr ⟨λ y hy e=>Nat.lt_irrefl _ ((show n=y.2 from e)▸hl y hy),h⟩) λ x hx=>(List.mem_cons.mp hx).elim (λ e=>e▸Nat.lt_succ_self _) λ hx=>Nat.lt_succ_of_lt (hl x hx)
  ·rw[g7 hk];exact ih n acc h hl
theorem bW{α:Type}:∀{l:List (Str×α)} {n:Str} {c:α},(n,c)∈l->∃c',l.lookup n=some c':=by
 intro l
 induction l with
 |nil=>exact λ h=>by cases h
 |cons x9 r ih=>
  intro n c h;obtain⟨k,v⟩:=x9;rw[List.lookup_cons];cases hb:n == k with
  |true=>exact⟨v,rfl⟩
  |false=>exact ih ((List.mem_cons.mp h).resolve_left λ e=>ne_of_beq_false hb (Prod.mk.inj e).1)
theorem cy{α:Type}:∀{l:List (Str×α)} {n:Str} {c:α},(l.map (·.1)).Nodup->(n,c)∈l->l.lookup n=some c:=by
 intro l
 induction l with
 |nil=>exact λ _ h=>by cases h
 |cons x9 r ih=>
  intro n c hn h;obtain⟨k,v⟩:=x9;have hn:=List.nodup_cons.mp hn;rw[List.lookup_cons];rcases List.mem_cons.mp h with e | h
  ·cases e;rw[beq_self_eq_true]
  ·rw[beq_false_of_ne λ e:n=k=>hn.1 (e▸List.mem_map_of_mem (f:=(·.1)) h)];exact ih hn.2 h
theorem i9{env:Env}:∀(names:List (Str×NameKind)) (x:Str),
  (names.map fun(n,k)=>if(k == NameKind.free && env.scope.kind == .function && env.kindOf n == some .cell) then(n,NameKind.cell) else(n,k)).lookup x=
   (names.lookup x).map λ k=>if(k == NameKind.free && env.scope.kind == .function && env.kindOf x == some .cell) then NameKind.cell else k:=by
 intro names
 induction names with
 |nil=>exact λ x=>rfl
 |cons x9 r ih=>
  intro x;obtain⟨n,k⟩:=x9;rw[List.map_cons,List.lookup_cons (as:=r)];show((if(k == NameKind.free && env.scope.kind == .function && env.kindOf n == some .cell)=true then(n,NameKind.cell) else(n,k))::_).lookup x=_;rw[<-apply_ite (Prod.mk n),List.lookup_cons];cases hb:x == n with
  |true=>rw[eq_of_beq hb];rfl
  |false=>exact ih x
theorem gs{env:Env}{scope:Scope}{x:Str}(ce:Env)(hce:ce.scope=relabel scope env):ce.kindOf x=(scope.names.lookup x).map λ k=>if(k == NameKind.free && env.scope.kind == .function && env.kindOf x == some .cell) then NameKind.cell else k:=by
 unfold Env.kindOf;rw[hce];exact i9 scope.names x
theorem ph{env:Env}{scope:Scope}(ce:Env)(hce:ce.scope=relabel scope env)(x:Str):kdOf (ce.kindOf x)=kds scope.names x:=by
 rw[gs ce hce];unfold kds;cases h:scope.names.lookup x with
 |none=>rfl
 |some k=>
  simp only[Option.map_some];split
  ·rename_i hc;have:k=.free:=by
    simp only[Bool.and_eq_true,beq_iff_eq] at hc;exact hc.1.1
   subst this;rfl
  ·rfl
end Mine.Internal
end
section
set_option tactic.hygienic true
namespace Mine.Internal
open PySem PyProof.Rows
section
variable(prog:Program)(w:World)(hB:Heap)(C:Addr)(J:Addr->Prop)(A:Around)(env:Env)
structure BK(t:Expr)(ι₁:Loc)(σ':aa)(h₁ h₂:Heap)(I:Addr)(wr:List Addr)(ds:List PyData)(fp:List Addr)(rs:List (Value×PyData))(St:Nat->Heap->Prop):Prop where
 ok:mu prog w hB C A t I wr fp rs ds St
 kp:∀b o,h₁.get? b=some o->h₂.get? b=some o
 st:St 0 h₂
 rd:∀p∈rs,RD (Ex J ι₁ σ') h₁ p.1 p.2
 new:∀b∈wr,h₁.get? b=none/\∃o,h₂.get? b=some o
 len:ds.length<=BIG
noncomputable def ItS(t it:Expr)(ρ:ah)(σ:aa)(xs:List V)(σ':aa):Prop:=
 ∀(ι:Loc) (s:Shared) (m cm:Str->Option Value) (Q:Value->Shared->Prop) (E:Value->Shared->Prop),FR J env m cm s.heap->ER w J ι σ env m cm s.heap ρ->SR prog w hB C J ι σ s.heap->
  (∀s₁ ι₁ h₂ tk I wr ds fp rs St,Goes prog w hB C J s ι σ s₁ ι₁ σ'->xs=ds.map V.d->BK prog w hB C J A t ι₁ σ' s₁.heap h₂ I wr ds fp rs St->Q (.ref I) { s₁ with heap:=h₂,toks:=tk })->
  wpAny (model prog w) A (eval it env) (λ x s₁=>wpAny (model prog w) A (pyIter x) Q E s₁) E s
end
section
variable{J:Addr->Prop}{A:Around}{env:Env}
variable{ρ:ah}{σ σ₁ σ₂ σ₃ σ':aa}{a b r:V}{pos:Pos}{k:Nat}{e f t it:Expr}
theorem ud{x:PyData}{ds:List PyData}(ht:gk t)(hA:AOK A k)(L:EvS prog w hB C J A env it ρ σ (.d x) σ')(hi:items? x=some ds):ItS prog w hB C J A env t it ρ σ (ds.map V.d) σ':=
 λ ι s m cm Q E F R S h=>by
  refine L ι s m cm _ _ F R S λ v s₁ ι₁ g r=>?_;cases x<;>simp only[items?,Option.some.injEq,reduceCtorEq] at hi
  ·subst hi;obtain⟨l,vs,n,rfl,q1,q2,q3,q4⟩:=RD.aZ r;have hne:l≠s₁.heap.objs.size:=Nat.ne_of_lt (Heap.lt_size q1);refine wpAny_pyIter_list (IsList.of q1) ?_;refine h s₁ ι₁ _ s₁.toks _ _ _ _ _ _ g rfl ⟨mu.list ht hA.handled s₁.heap.objs.size l hne vs _,λ b o q=>Heap.get?_push_of_some _ q,⟨⟨_,Heap.get?_push_size _ rfl,rfl,rfl⟩,n,Heap.get?_push_of_some _ q1,q4.1⟩,λ p hp=>?_,λ b hb=>?_,by rw[<-q4.1];exact q3⟩
   ·simp only[List.mem_singleton] at hp;subst hp;exact r
   ·simp only[List.mem_singleton] at hb;subst hb;exact⟨aD _,_,Heap.get?_push_size _ rfl⟩
  ·subst hi;obtain⟨l,vs,n,rfl,q1,q2,q3,q4⟩:=RD.aX r;have hne:l≠s₁.heap.objs.size:=Nat.ne_of_lt (Heap.lt_size q1);refine wpAny_pyIter_tuple (IsTup.of q1) ?_;refine h s₁ ι₁ _ s₁.toks _ _ _ _ _ _ g rfl ⟨mu.tuple ht hA.handled s₁.heap.objs.size l hne vs _,λ b o q=>Heap.get?_push_of_some _ q,⟨⟨_,Heap.get?_push_size _ rfl,rfl,rfl⟩,n,Heap.get?_push_of_some _ q1,q4.1⟩,λ p hp=>?_,λ b hb=>?_,by rw[<-q4.1];exact q3⟩
   ·simp only[List.mem_singleton] at hp;subst hp;exact r
   ·simp only[List.mem_singleton] at hb;subst hb;exact⟨aD _,_,Heap.get?_push_size _ rfl⟩
noncomputable def DrS(prog:Program)(w:World)(hB:Heap)(C:Addr)(A:Around)(t:Expr)(T:String)(vs:List V)(σ:aa)(xs:List V):Prop:=
 ∀(J:Addr->Prop) (ι:Loc) (s:Shared) (vals:List Value) (Q:Value->Shared->Prop) (E:Value->Shared->Prop),SR prog w hB C J ι σ s.heap->aA (VR w J ι σ s.heap) vals vs->
  (∀h₂ tk I wr ds fp rs St,xs=ds.map V.d->BK prog w hB C J A t ι σ s.heap h₂ I wr ds fp rs St->Q (.ref I) { s with heap:=h₂,toks:=tk })->wpAny (model prog w) A (call (.type T) vals) (λ x s₁=>wpAny (model prog w) A (pyIter x) Q E s₁) E s
theorem xe{Φ:Or}{x:Str}{T:String}{np:Pos}{es:List Expr}{vs xs:List V}(hE:aI env)(hk:env.kindOf x=some .globalImplicit)(hd:(x == ("__debug__":Str))=false)
  (ng:hB.Ns mainGlobals mg) (nb:hB.Ns builtinsNs mb) (hx:GN mg mb x (.type T)) (he:evs Φ es ρ σ=some (vs,σ')) (L:EsS prog w hB C J A env es pos ρ σ vs σ') (D:DrS prog w hB C A t T vs σ' xs) :
  ItS prog w hB C J A env t (.Call (.Name x np) es [] pos) ρ σ xs σ':=λ ι s m cm Q E F R S h=>
 Call_Name rfl (mX hE hk hd ng nb hx S (PyProof.Rows.callWith_type (c8 (eo he)) (eX he L F R S λ vals s₁ ι₁ g rs=>
  D J ι₁ s₁ vals _ _ g.sr rs λ h₂ tk I wr ds fp rs St e at'=>h s₁ ι₁ h₂ tk I wr ds fp rs St g e at')))
theorem xU{ts:List Expr}{kk:Nat}{p:Pos}{vs xs:List V}(hA:AOK A k)(e:draws "enumerate" vs=some xs):DrS prog w hB C A (.Tuple ts kk p) "enumerate" vs σ xs:=λ J ι s vals Q E S R h=>by
 unfold draws at e;rw[if_pos rfl] at e;split at e
 ·rename_i ds;cases e;obtain⟨v,rfl,rv⟩:=R.inv1;obtain⟨l,ws,n,rfl,q1,q2,q3,q4⟩:=RD.aZ rv;have hl:@LT.lt Nat _ l s.heap.objs.size:=Heap.lt_size q1;refine call_enumerate_list (IsList.of q1) λ h' he hit hz hk=>wpAny_pyIter_enum he ?_;refine h h' _ _ _ (ds.zipIdx.map fun(p:PyData×Nat)=>PyData.tuple [.int p.2,p.1]) _ _ _ ?_ ⟨mu.enum hA.handled (s.heap.objs.size+1) s.heap.objs.size l (Nat.succ_ne_self _) (Nat.ne_of_lt (Nat.lt_succ_of_lt hl)) (Nat.ne_of_lt hl) ws ds,hk,⟨_,n,he,hit,hk _ _ q1,q4.1⟩,λ p hp=>?_,λ b hb=>?_,?_⟩
  ·exact List.map_map.symm
  ·obtain rfl:=List.mem_singleton.mp hp;exact rv
  ·rcases List.mem_cons.mp hb with rfl | hb
   ·exact⟨Heap.get?_none_of_le (Nat.le_add_right _ _),_,he⟩
   ·obtain rfl:=List.mem_singleton.mp hb;obtain⟨o,ho,_⟩:=hit;exact⟨aD _,o,ho⟩
  ·rw[List.length_map,List.length_zipIdx,<-q4.1];exact q3
 ·cases e
end
end Mine.Internal
end
section
namespace Mine.Internal
open PySem PyProof.Rows
section
variable{J J':Addr->Prop}{A:Around}{env:Env}
variable{ι ι':Loc}{σ σ':aa}{h h':Heap}{v:Value}{x:V}{a:Addr}
structure Sub(J:Addr->Prop)(ι:Loc)(σ:aa)(J':Addr->Prop)(ι':Loc)(σ':aa):Prop where
 ex:∀b,Ex J' ι' σ' b->Ex J ι σ b
 len:σ.length<=σ'.length
 ag:∀l,l<σ.length->ι' l=ι l
theorem RD.sub{d:PyData}(r:RD (Ex J ι σ) h v d)(s:Sub J ι σ J' ι' σ'):RD (Ex J' ι' σ') h v d:=r.keeps (λ _ _ _ e=>e) λ b _ hb _ q=>hb (s.ex b q)
theorem VR.sub(r:VR w J ι σ h v x)(s:Sub J ι σ J' ι' σ'):VR w J' ι' σ' h v x:=by
 cases x with
 |d x=>exact RD.sub r s
 |ty n=>exact r
 |o l=>exact⟨by rw[s.ag l r.2];exact r.1,Nat.lt_of_lt_of_le r.2 s.len⟩
 |fs xs=>
  obtain⟨a,h1,h2,h3⟩:=r;exact⟨a,h1,λ q=>h2 (s.ex a q),h3⟩
theorem NR.sub{n:Nd}{a da:Addr}(r:NR prog w C J ι σ h a da n)(s:Sub J ι σ J' ι' σ'):NR prog w C J' ι' σ' h a da n:=by
 cases n with
 |lst xs=>
  obtain⟨vs,m,q1,q2,q3⟩:=r;exact⟨vs,m,q1,q2,q3.mono λ v x r=>r.sub s⟩
 |dcI kvs=>
  obtain⟨q0,ps,q1,q2⟩:=r;exact⟨q0,ps,q1,q2.mono λ p q r=>⟨r.1,r.2.sub s⟩⟩
 |dcT kvs=>
  obtain⟨q0,ps,q1,q3,q2⟩:=r;exact⟨q0,ps,q1,λ y hy q=>q3 y hy (s.ex _ q),q2.mono λ p q r=>⟨r.1,r.2.sub s⟩⟩
 |set xs=>exact r
 |ins fs=>
  obtain⟨q0,mA,q1,q2,q3,q4⟩:=r;exact⟨q0,mA,q1,q2,q3,λ m=>(q4 m).mono λ v x r=>r.sub s⟩
 |frz x=>exact RD.sub r s
theorem Sub.pB(hJ:∀b,J' b->J b):Sub J ι σ J' ι σ:=⟨λ b q=>q.elim (λ q=>.inl (hJ b q)) .inr,Nat.le_refl _,λ _ _=>rfl⟩
theorem SR.pB(S:SR prog w hB C J ι σ h)(hJ:∀b,J' b->J b):SR prog w hB C J' ι σ h:=
 ⟨S.keep,λ l n e=>(S.node l n e).sub (Sub.pB hJ),S.inj,S.off,S.two,λ b hb=>S.jo b (hJ b hb)⟩
theorem Sub.adopt{n:Nd}(ha:J a)(hJ:∀b,J' b->J b):Sub J ι σ J' (ι.add σ a a) (σ++[n]) where
 ex:=λ b q=>by
  rcases q with q | q
  ·exact .inl (hJ b q)
  ·rcases j4 q with q | ⟨_,rfl | rfl⟩
   ·exact .inr q
   ·exact .inl ha
   ·exact .inl ha
 len:=by simp
 ag:=λ l hl=>by unfold Loc.add;rw[if_neg (Nat.ne_of_lt hl)]
end
section
namespace SR_adopt_e
noncomputable section
def P(J:Addr->Prop)(J':Addr->Prop)(ι:Loc)(σ:aa)(h:Heap)(a:Addr)(n:Nd):Prop:=∀(S:SR prog w hB C J ι σ h) (ha:J a) (hJ:∀b,J' b->J b) (hna:¬J' a) (hn:NR prog w C J' (ι.add σ a a) (σ++[n]) h a a n),SR prog w hB C J' (ι.add σ a a) (σ++[n]) h
def x:(Addr->Prop)×(Addr->Prop)×(Loc)×(aa)×(Heap)×(Addr)×(Nd):=@Classical.epsilon _ ⟨(default,default,default,default,default,default,.set [])⟩ λ x=>¬P x.1 x.2.1 x.2.2.1 x.2.2.2.1 x.2.2.2.2.1 x.2.2.2.2.2.1 x.2.2.2.2.2.2
def J:Addr->Prop:=x.1
def J':Addr->Prop:=x.2.1
def ι:Loc:=x.2.2.1
def σ:aa:=x.2.2.2.1
def h:Heap:=x.2.2.2.2.1
def a:Addr:=x.2.2.2.2.2.1
def n:Nd:=x.2.2.2.2.2.2
theorem core:P J J' ι σ h a n:=λ S ha hJ hna hn=>by
 have sb:Sub J ι σ J' (ι.add σ a a) (σ++[n]):=Sub.adopt ha hJ;have hi:∀l,l<σ.length->(ι.add σ a a) l=ι l:=sb.ag;have ht:(ι.add σ a a) σ.length=(a,a):=by unfold Loc.add;rw[if_pos rfl]
 have cs:∀l m,(σ++[n])[l]?=some m->(l<σ.length/\σ[l]?=some m)\/(l=σ.length/\m=n):=λ l m q=>by
  refine Classical.byCases (p:=l<σ.length) (λ k=>?_) (λ k=>?_)
  ·rw[List.getElem?_append_left k] at q;exact .inl ⟨k,q⟩
  ·have h1:=(List.getElem?_eq_some_iff.mp q).1;have q2:l=σ.length:=by simp at h1;lia
   subst q2;simp at q;exact .inr ⟨rfl,q.symm⟩
 have hno:=(S.jo a ha).1;refine⟨S.keep,λ l m q=>?_,λ l l' m m' q1 q2 q3 q4 q5=>?_,λ l m q1 q2=>?_,λ l m q1 q2=>?_,λ b hb=>?_⟩
 ·rcases cs l m q with ⟨k,q⟩ | ⟨rfl,rfl⟩
  ·rw[hi l k];exact(S.node l m q).sub sb
  ·rw[ht];exact hn
 ·rcases cs l m q1 with ⟨k,q1'⟩ | ⟨rfl,rfl⟩<;>rcases cs l' m' q3 with ⟨k',q3'⟩ | ⟨rfl,rfl⟩
  ·rw[hi l k,hi l' k'] at q5;exact S.inj l l' m m' q1' q2 q3' q4 q5
  ·exfalso;rw[hi l k,ht] at q5;have g:=Own.of (ι:=ι) q1' q2;rcases q5 with q | q | q<;>dsimp only at q
   ·exact hno (q▸g.1)
   ·exact hno (q▸g.1)
   ·exact hno (q▸g.2)
  ·exfalso;rw[ht,hi l' k'] at q5;have g:=Own.of (ι:=ι) q3' q4;rcases q5 with q | q | q<;>dsimp only at q
   ·exact hno (q▸g.1)
   ·exact hno (q▸g.2)
   ·exact hno (q▸g.2)
  ·rfl
 ·rcases cs l m q1 with ⟨k,q1⟩ | ⟨rfl,rfl⟩
  ·rw[hi l k];exact S.off l m q1 q2
  ·rw[ht];exact⟨(S.jo a ha).2.1,(S.jo a ha).2.1⟩
 ·rcases cs l m q1 with ⟨k,q1⟩ | ⟨rfl,rfl⟩
  ·rw[hi l k];exact S.two l m q1 q2
  ·rw[ht]
 ·obtain⟨h1,h2,h3⟩:=S.jo b (hJ b hb);refine⟨λ q=>?_,h2,h3⟩;rcases j4 q with q | ⟨_,rfl | rfl⟩
  ·exact h1 q
  ·exact hna hb
  ·exact hna hb
end
end SR_adopt_e
variable{J J':Addr->Prop}{A:Around}{env:Env}
variable{ι ι':Loc}{σ σ':aa}{h h':Heap}{v:Value}{x:V}{a:Addr}
theorem SR.adopt{n:Nd}(S:SR prog w hB C J ι σ h)(ha:J a)(hJ:∀b,J' b->J b)(hna:¬J' a)(hn:NR prog w C J' (ι.add σ a a) (σ++[n]) h a a n):SR prog w hB C J' (ι.add σ a a) (σ++[n]) h:=aw (Q:=λ x:(Addr->Prop)×(Addr->Prop)×(Loc)×(aa)×(Heap)×(Addr)×(Nd)=>SR_adopt_e.P x.1 x.2.1 x.2.2.1 x.2.2.2.1 x.2.2.2.2.1 x.2.2.2.2.2.1 x.2.2.2.2.2.2) SR_adopt_e.core (J,J',ι,σ,h,a,n) S ha hJ hna hn
theorem Evo.turn{h₀:Heap}{Y:Addr->Prop}(e:Evo ι σ h₀ ι' σ' h)(hk:∀b o,¬Y b->h.get? b=some o->h'.get? b=some o)(hY:∀b,Y b->h₀.get? b=none):Evo ι σ h₀ ι' σ' h':=
 ⟨e.len,e.ag,e.own,λ b o hb q=>hk b o (λ y=>by rw[hY b y] at q;cases q) (e.kp b o hb q)⟩
theorem uI{ι₀:Loc}{σ₀:aa}{h₀:Heap}{D:Addr}{ws:List Value}{nn:Nat}{own:Bool}{vs:List V}{r:V}(S:SR prog w hB C J ι σ h)(ev:Evo ι₀ σ₀ h₀ ι σ h)(hD:J D)(hJ:∀b,J' b->J b)(hnD:¬J' D)(hDn:h₀.get? D=none)
  (ho:h.get? D=some (aP ws nn)) (hl:ws.length<=BIG) (rs:aA (VR w J ι σ h) ws vs) (e:cF own vs σ=some (r,σ')) :
  ∃ι',SR prog w hB C J' ι' σ' h/\Evo ι₀ σ₀ h₀ ι' σ' h/\VR w J' ι' σ' h (.ref D) r:=by
 cases own with
 |true=>
  cases e;have sb:Sub J ι σ J' (ι.add σ D D) (σ++[.lst vs]):=Sub.adopt hD hJ;refine⟨ι.add σ D D,S.adopt hD hJ hnD ⟨ws,nn,ho,hl,rs.mono λ v x r=>r.sub sb⟩,⟨Nat.le_trans ev.len sb.len,λ l hl=>?_,λ b q=>?_,ev.kp⟩,VR.top⟩
  ·rw[sb.ag l (Nat.lt_of_lt_of_le hl ev.len)];exact ev.ag l hl
  ·rcases j4 q with q | ⟨_,rfl | rfl⟩
   ·exact ev.own b q
   ·exact .inr hDn
   ·exact .inr hDn
 |false=>
  obtain⟨ds,e1,e2⟩:=Option.map_eq_some_iff.mp e;cases e2;rw[fq e1] at rs;refine⟨ι,S.pB hJ,ev,RD.rM ho (λ q=>?_) hl ((oV rs).mono λ v x r=>r.sub (Sub.pB hJ))⟩;rcases q with q | q
  ·exact hnD q
  ·exact(S.jo D hD).1 q
theorem sO{t:Expr}{I:Addr}{wr fp:List Addr}{rs:List (Value×PyData)}{ds:List PyData}{St:Nat->Heap->Prop}{i:Nat}(ok:mu prog w hB C A t I wr fp rs ds St)(st:St i h)(rd:∀p∈rs,RD (Ex J ι σ) h p.1 p.2)
  (hk:∀b o,(b∈wr\/¬Ex J ι σ b)->h.get? b=some o->h'.get? b=some o):St i h':=by
 refine ok.frame i h h' st λ b hb o ho=>hk b o ?_ ho;rcases ok.fpok b hb with q | ⟨d,q⟩
 ·exact .inl q
 ·obtain⟨_,_,hx⟩:=RD.mH (rd _ q);exact .inr hx
theorem An{t:Expr}{x:V}{ρ ρ':ah}(e:aQ t x ρ=some ρ'):gk t:=by
 cases t<;>first | exact .name _ _ | exact .tup _ _ _ | cases e
end
end Mine.Internal
end
section
namespace Mine.Internal
open PySem PyProof.Rows
section
variable(prog:Program)(w:World)(hB:Heap)(C:Addr)(J:Addr->Prop)(A:Around)(env:Env)
noncomputable def TtS(ifs:List Expr)(ρ:ah)(σ:aa)(b:Bool)(σ':aa):Prop:=
 ∀(ι:Loc) (s:Shared) (m cm:Str->Option Value) (Q:Bool->Shared->Prop) (E:Value->Shared->Prop),FR J env m cm s.heap->ER w J ι σ env m cm s.heap ρ->SR prog w hB C J ι σ s.heap->
  (∀s' ι',Goes prog w hB C J s ι σ s' ι' σ'->Q b s')->
  wpAny (model prog w) A (forIn ifs true λ c r=>if r=true then do let ok<-isTrue c env (eval c env);pure (ForInStep.yield ok) else pure (ForInStep.yield r)) Q E s
end
section
variable{J:Addr->Prop}{A:Around}{env ce:Env}
variable{ρ:ah}{σ σ₁ σ₂ σ₃ σ':aa}{a b r:V}{pos:Pos}{k:Nat}{e f t it:Expr}
theorem qA:∀(ifs:List Expr),(forIn ifs false λ c r=>if r=true then do let ok<-isTrue c env (eval c env);pure (ForInStep.yield ok) else pure (ForInStep.yield r):Sem Bool)=pure false:=by
 intro ifs
 induction ifs with
 |nil=>
  exact rfl
 |cons c r ih=>
  rw[List.forIn_cons];exact ih
theorem yx:TtS prog w hB C J A env [] ρ σ true σ:=λ ι s m cm Q E F R S h=>wpAny_pure (h s ι (Goes.refl S))
theorem vU{ifs:List Expr}{c c':Bool}(T:TsS prog w hB C J A env e ρ σ c σ₁)(R:if c then TtS prog w hB C J A env ifs ρ σ₁ c' σ₂ else(c'=false/\σ₂=σ₁)):TtS prog w hB C J A env (e::ifs) ρ σ c' σ₂:=λ ι s m cm Q E F Re S h=>by
 rw[List.forIn_cons];refine wpAny_bind (wpAny_bind (T ι s m cm _ _ F Re S λ s₁ ι₁ g=>wpAny_pure ?_));cases c with
 |true=>exact R ι₁ s₁ m cm _ _ (F.evo S g.evo) (Re.evo g.evo) g.sr λ s₂ ι₂ g₂=>h s₂ ι₂ (g.trans g₂)
 |false=>
  obtain⟨rfl,rfl⟩:=R;show wpAny _ _ (forIn ifs false _) _ _ _;rw[qA];exact wpAny_pure (h s₁ ι₁ g)
theorem FR.AD{m cm:Str->Option Value}{h h':Heap}(F:FR J env m cm h)(hL:∀o,h.get? env.locals=some o->h'.get? env.locals=some o)(hc:∀n c,env.cells.lookup n=some c->∀o,h.get? c=some o->h'.get? c=some o):FR J env m cm h' where
 ns:=(by obtain⟨o,es,ep,ho,r⟩:=F.ns;exact⟨o,es,ep,hL o ho,r⟩)
 jL:=F.jL
 cell:=λ n c hn=>(by obtain⟨⟨o,ho,hd⟩,h2,h3⟩:=F.cell n c hn;exact⟨⟨o,hc n c hn o ho,hd⟩,h2,h3⟩)
 apart:=F.apart
 has:=F.has
theorem ER.bE{m cm:Str->Option Value}{ι:Loc}{h h':Heap}(R:ER w J ι σ env m cm h ρ)(hk:∀b o,¬J b->h.get? b=some o->h'.get? b=some o):ER w J ι σ env m cm h' ρ:=λ x v' hx hm=>by
 obtain⟨v,h1,h2⟩:=R x v' hx hm;exact⟨v,h1,h2.bE hk⟩
theorem ER.less{m cm:Str->Option Value}{ι:Loc}{h:Heap}{ρ':ah}(R:ER w J ι σ env m cm h ρ)(hl:∀x v,ρ' x=some v->ρ x=some v):ER w J ι σ env m cm h ρ':=λ x v' hx hm=>R x v' (hl x v' hx) hm
theorem qe{s:Shared}{D:Addr}{ws:List Value}{nn:Nat}{u:Value}{Q:Value->Shared->Prop}{E:Value->Shared->Prop}(ho:s.heap.get? D=some (aP ws nn))(hl:ws.length<=BIG)
  (h:∀h' n',h'.get? D=some (aP (ws++[u]) n')->(∀b o,b≠D->s.heap.get? b=some o->h'.get? b=some o)->Q .none { s with heap:=h' }):wpAny (model prog w) A (call (.builtin "list.append") [.ref D,u]) Q E s:=by
 obtain⟨n',hn'⟩:=iw (u:=u) ho;refine call_meets F.slot_list_append ⟨_,ho,rfl⟩ F.entry_list_append (F.args_list_append_2 _ _) (list_append D ws.toArray nn u (by rw[List.size_toArray];exact Nat.le_trans hl aE)) ⟨ho,?_⟩;exact h _ n' hn' λ b o h1 ho=>(Heap.get?_update_other _ _ (Ne.symm h1)).trans ho
structure CK(J:Addr->Prop)(D:Addr)(rs:List (Value×PyData))(St:Nat->Heap->Prop)(j:Nat)(ws:List Value)(nn:Nat)(done:List V)(ι:Loc)(σ:aa)(h:Heap):Prop where
 acc:h.get? D=some (aP ws nn)
 all:aA (VR w J ι σ h) ws done
 st:St j h
 rd:∀p∈rs,RD (Ex J ι σ) h p.1 p.2
theorem CK.mv{D I:Addr}{wr fp:List Addr}{rs:List (Value×PyData)}{ds:List PyData}{St:Nat->Heap->Prop}{j nn:Nat}{ws:List Value}{done:List V}{ι ι':Loc}{σ σ':aa}{h h':Heap}(ok:mu prog w hB C A t I wr fp rs ds St)(K:CK J D rs St j ws nn done ι σ h)(m:Mv J ι σ h J ι' σ' h')
  (kw:∀b o,(b=D\/b∈wr)->h.get? b=some o->h'.get? b=some o):CK J D rs St j ws nn done ι' σ' h':=
 ⟨kw D _ (.inl rfl) K.acc,K.all.mono λ v x r=>r.mv m,sO ok K.st K.rd λ b o hb ho=>hb.elim (λ q=>kw b o (.inr q) ho) λ q=>m.kp b o q ho,λ p hp=>(K.rd p hp).mv m⟩
structure CA(J:Addr->Prop)(ce:Env)(t:Expr)(D:Addr)(wr:List Addr)(h₀:Heap):Prop where
 wJ:∀b∈wr,J b
 DJ:J D
 Dw:D∉wr
 Lw:ce.locals∉wr
 cw:∀n c,ce.cells.lookup n=some c->c∉wr
 DL:D≠ce.locals
 Dc:∀n c,ce.cells.lookup n=some c->c≠D
 wn:∀b∈wr,h₀.get? b=none
 Dn:h₀.get? D=none
 Wn:∀b,WT ce (ak t) b->h₀.get? b=none
inductive BO(J:Addr->Prop)(Φ:Or)(ce:Env)(t elt:Expr)(ifs:List Expr)(ρ:ah)(s₀:Shared)(ι₀:Loc)(σ₀ σ₂:aa)(D:Addr)(rs:List (Value×PyData))(ds:List PyData)(St:Nat->Heap->Prop)(vs:List V)(n:Nat)(s:Shared):Prop
 |mk (i:Nat) (σi:aa) (done rest:List V) (ι':Loc) (m cm:Str->Option Value) (ws:List Value) (nn:Nat) (hn:n=ds.length-i) (le:i<=ds.length) (same:Shr s₀ s) (evo:Evo ι₀ σ₀ s₀.heap ι' σi s.heap) (sr:SR prog w hB C J ι' σi s.heap) (fr:FR J ce m cm s.heap)
  (er:ER w J ι' σi ce m cm s.heap (forget (ak t) ρ)) (K:CK J D rs St i ws nn done ι' σi s.heap) (dn:done.length<=i) (cl:eU (λ x=>aQ t x ρ) (λ ρ σ=>i6 Φ ifs ρ σ) (λ ρ σ=>ev Φ elt ρ σ) ((ds.drop i).map V.d) σi=some (rest,σ₂)) (ap:done++rest=vs)
theorem mu.next{β:Type}{N:Sem β}{K:Value->Sem β}{G:β->Shared->Prop}{E:Value->Shared->Prop}{I:Addr}{wr fp:List Addr}{rs:List (Value×PyData)}{ds:List PyData}{St:Nat->Heap->Prop}{ι:Loc}{s:Shared}{i:Nat}{d:PyData}
  (ok:mu prog w hB C A t I wr fp rs ds St) (S:SR prog w hB C J ι σ s.heap) (rd:∀p∈rs,RD (Ex J ι σ) s.heap p.1 p.2) (hw:∀b∈wr,J b) (hd:ds[i]?=some d) (st:St i s.heap)
  (h:∀v h' tk,(∀b o,b∉wr->s.heap.get? b=some o->h'.get? b=some o)->(∀b∈wr,∃o,h'.get? b=some o)->St (i+1) h'->RD (Ex J ι σ) h' v d->wpAny (model prog w) A (K v) G E { s with heap:=h',toks:=tk }) :
  wpAny (model prog w) A (pyNext (.ref I) >>= λ r=>match r with | none=>N | some v=>letOwnedTupleGo t (.ref I) v >>= λ _=>K v) G E s:=
 wpAny_bind (wpAny_mono (ok.step J ι σ s i d S rd hw hd st (λ v s₂=>wpAny (model prog w) A (K v) G E s₂) E h) (λ r s₁ hr=>by obtain⟨v,rfl,hv⟩:=hr;exact wpAny_bind hv) λ _ _ q=>q)
theorem ma{x:V}{ρ':ah}(hb:aQ t x ρ=some ρ')(y:Str)(v:V)(q:forget (ak t) ρ y=some v):ρ' y=some v:=by
 refine Classical.byCases (p:=(ak t).contains y=true) (λ c=>?_) (λ c=>?_)
 ·exact no ((if_pos c).symm.trans q)
 ·obtain⟨_,_,e⟩:=iU t x ρ ρ' ρ hb;rcases e y with ⟨p1,_⟩ | ⟨_,p2,_⟩
  ·exact absurd (List.contains_iff_mem.mpr p1) c
  ·exact p2.trans ((if_neg c).symm.trans q)
end
section
namespace comp_loop_e
noncomputable section
def P(J:Addr->Prop)(A:Around)(ce:Env)(ρ:ah)(σ₂:aa)(pos:Pos)(k:Nat)(t:Expr)(Φ:Or)(elt:Expr)(iter:Expr)(ifs:List Expr)(scope:Scope)(I:Addr)(D:Addr)(wr:List Addr)(fp:List Addr)(rs:List (Value×PyData))(ds:List PyData)(St:Nat->Heap->Prop)(s₀:Shared)(ι₀:Loc)(σ₀:aa)(vs:List V)(RR:Result->Shared->Prop):Prop:=∀(hE:aI ce) (hA:AOK A k) (hst:∀z∈ak t,aN ce z) (ok:mu prog w hB C A t I wr fp rs ds St) (hEl:∀ρ' σa v σb,ev Φ elt ρ' σa=some (v,σb)->EvS prog w hB C J A ce elt ρ' σa v σb) (hTs:∀ρ' σa b σb,i6 Φ ifs ρ' σa=some (b,σb)->TtS prog w hB C J A ce ifs ρ' σa b σb) (Z:CA J ce t D wr s₀.heap) (hlen:ds.length<=BIG) (hRR:∀s' ι' ws nn m',Shr s₀ s'->Evo ι₀ σ₀ s₀.heap ι' σ₂ s'.heap->SR prog w hB C (λ b=>J b/\b∉wr) ι' σ₂ s'.heap->s'.heap.get? D=some (aP ws nn)->
   aA (VR w (λ b=>J b/\b∉wr) ι' σ₂ s'.heap) ws vs->ws.length<=BIG->s'.heap.Ns ce.locals m'->RR (.ok .next) s') (n:Nat) (s:Shared) (hI:BO J Φ ce t elt ifs ρ s₀ ι₀ σ₀ σ₂ D rs ds St vs n s),codeAny (model prog w) A (.compLoop (.ListComp elt [⟨t,iter,ifs,0⟩] scope pos) 0 (.ref I) (.ref D) ce) RR s
def x:(Addr->Prop)×(Around)×(Env)×(ah)×(aa)×(Pos)×(Nat)×(Expr)×(Or)×(Expr)×(Expr)×(List Expr)×(Scope)×(Addr)×(Addr)×(List Addr)×(List Addr)×(List (Value×PyData))×(List PyData)×(Nat->Heap->Prop)×(Shared)×(Loc)×(aa)×(List V)×(Result->Shared->Prop):=@Classical.epsilon _ ⟨(default,{},default,default,default,default,default,default,⟨λ _ _=>none,λ _ _ _=>none,λ _=>none,λ _=>false,λ _=>false,default,0⟩,default,default,default,default,default,default,default,default,default,default,default,{},default,default,default,default)⟩ λ x=>¬P x.1 x.2.1 x.2.2.1 x.2.2.2.1 x.2.2.2.2.1 x.2.2.2.2.2.1 x.2.2.2.2.2.2.1 x.2.2.2.2.2.2.2.1 x.2.2.2.2.2.2.2.2.1 x.2.2.2.2.2.2.2.2.2.1 x.2.2.2.2.2.2.2.2.2.2.1 x.2.2.2.2.2.2.2.2.2.2.2.1 x.2.2.2.2.2.2.2.2.2.2.2.2.1 x.2.2.2.2.2.2.2.2.2.2.2.2.2.1 x.2.2.2.2.2.2.2.2.2.2.2.2.2.2.1 x.2.2.2.2.2.2.2.2.2.2.2.2.2.2.2.1 x.2.2.2.2.2.2.2.2.2.2.2.2.2.2.2.2.1 x.2.2.2.2.2.2.2.2.2.2.2.2.2.2.2.2.2.1 x.2.2.2.2.2.2.2.2.2.2.2.2.2.2.2.2.2.2.1 x.2.2.2.2.2.2.2.2.2.2.2.2.2.2.2.2.2.2.2.1 x.2.2.2.2.2.2.2.2.2.2.2.2.2.2.2.2.2.2.2.2.1 x.2.2.2.2.2.2.2.2.2.2.2.2.2.2.2.2.2.2.2.2.2.1 x.2.2.2.2.2.2.2.2.2.2.2.2.2.2.2.2.2.2.2.2.2.2.1 x.2.2.2.2.2.2.2.2.2.2.2.2.2.2.2.2.2.2.2.2.2.2.2.1 x.2.2.2.2.2.2.2.2.2.2.2.2.2.2.2.2.2.2.2.2.2.2.2.2
def J:Addr->Prop:=x.1
def A:Around:=x.2.1
def ce:Env:=x.2.2.1
def ρ:ah:=x.2.2.2.1
def σ₂:aa:=x.2.2.2.2.1
def pos:Pos:=x.2.2.2.2.2.1
def k:Nat:=x.2.2.2.2.2.2.1
def t:Expr:=x.2.2.2.2.2.2.2.1
def Φ:Or:=x.2.2.2.2.2.2.2.2.1
def elt:Expr:=x.2.2.2.2.2.2.2.2.2.1
def iter:Expr:=x.2.2.2.2.2.2.2.2.2.2.1
def ifs:List Expr:=x.2.2.2.2.2.2.2.2.2.2.2.1
def scope:Scope:=x.2.2.2.2.2.2.2.2.2.2.2.2.1
def I:Addr:=x.2.2.2.2.2.2.2.2.2.2.2.2.2.1
def D:Addr:=x.2.2.2.2.2.2.2.2.2.2.2.2.2.2.1
def wr:List Addr:=x.2.2.2.2.2.2.2.2.2.2.2.2.2.2.2.1
def fp:List Addr:=x.2.2.2.2.2.2.2.2.2.2.2.2.2.2.2.2.1
def rs:List (Value×PyData):=x.2.2.2.2.2.2.2.2.2.2.2.2.2.2.2.2.2.1
def ds:List PyData:=x.2.2.2.2.2.2.2.2.2.2.2.2.2.2.2.2.2.2.1
def St:Nat->Heap->Prop:=x.2.2.2.2.2.2.2.2.2.2.2.2.2.2.2.2.2.2.2.1
def s₀:Shared:=x.2.2.2.2.2.2.2.2.2.2.2.2.2.2.2.2.2.2.2.2.1
def ι₀:Loc:=x.2.2.2.2.2.2.2.2.2.2.2.2.2.2.2.2.2.2.2.2.2.1
def σ₀:aa:=x.2.2.2.2.2.2.2.2.2.2.2.2.2.2.2.2.2.2.2.2.2.2.1
def vs:List V:=x.2.2.2.2.2.2.2.2.2.2.2.2.2.2.2.2.2.2.2.2.2.2.2.1
def RR:Result->Shared->Prop:=x.2.2.2.2.2.2.2.2.2.2.2.2.2.2.2.2.2.2.2.2.2.2.2.2
theorem core:P J A ce ρ σ₂ pos k t Φ elt iter ifs scope I D wr fp rs ds St s₀ ι₀ σ₀ vs RR:=λ hE hA hst ok hEl hTs Z hlen hRR n s hI=>by
 refine codeAny_loop rfl (BO J Φ ce t elt ifs ρ s₀ ι₀ σ₀ σ₂ D rs ds St vs) (λ n s hI=>?_) n hI;obtain⟨i,σi,done,rest,ι',m,cm,ws,nn,rfl,le,same,evo,sr,fr,er,K,dn,cl,ap⟩:=hI;refine wpAny_noted ?_;rw[compTurn_list];refine wpAny_bind (wpAny_standAt ?_);refine Classical.byCases (p:=i<ds.length) (λ hi=>?_) (λ hi=>?_)
 ·rw[List.drop_eq_getElem_cons hi,List.map_cons] at cl;refine bC λ k9=>?_;obtain⟨ρ',hb,cl⟩:=bd1 cl;obtain⟨tb,σa,ht,hrest⟩:=bd2 cl;refine k9 ?_;refine ok.next sr K.rd Z.wJ (List.getElem?_eq_getElem hi) K.st λ v ha tka kpa gwa sta rva=>?_;have kja:∀b o,¬J b->s.heap.get? b=some o->ha.get? b=some o:=λ b o hb ho=>kpa b o (λ q=>hb (Z.wJ b q)) ho;have Fa:FR J ce m cm ha:=fr.AD (λ o ho=>kpa _ o Z.Lw ho) λ n c hc o ho=>kpa c o (Z.cw n c hc) ho;have Ka:CK J D rs St (i+1) ws nn done ι' σi ha:=⟨kpa _ _ Z.Dw K.acc,K.all.mono λ v x r=>r.bE kja,sta,λ p hp=>(K.rd p hp).bE kja⟩;have wj:∀b,WT ce (ak t) b->J b:=λ b q=>q.elim (λ q=>q▸Fa.jL) (by rintro⟨z,_,_,hz⟩;exact(Fa.cell z b hz).2.1);refine wpAny_bind (iV hE hA t (forget (ak t) ρ) ρ' (.d ds[i]) v _ m cm _ _ (mh hb) hst Fa (er.bE kja) (sr.bE kja λ b hb=>?_) rva λ hb' tkb m' cm' Fb Rb Sb kpb=>?_)
  ·refine Classical.byCases (p:=b∈wr) (λ q=>?_) (λ q=>?_)
   ·exact gwa b q
   ·obtain⟨_,_,o,ho⟩:=sr.jo b hb;exact⟨o,kpa b o q ho⟩
  have Kb:CK J D rs St (i+1) ws nn done ι' σi hb':=Ka.mv ok (.bE λ b o hb ho=>kpb b o (λ q=>hb (wj b q)) ho) λ b o hb ho=>kpb b o (λ q=>hb.elim (λ e=>q.elim (λ q=>Z.DL (e▸q)) (by rintro⟨z,_,_,hz⟩;exact Z.Dc z b hz e)) λ e=>q.elim (λ q=>Z.Lw (q▸e)) (by rintro⟨z,_,_,hz⟩;exact Z.cw z b hz e)) ho;have Eb:Evo ι₀ σ₀ s₀.heap ι' σi hb':=(evo.turn kpa Z.wn).turn kpb Z.Wn;have dwJ:∀b,(b=D\/b∈wr)->J b:=λ b q=>q.elim (λ e=>e▸Z.DJ) (Z.wJ b);refine wpAny_bind (hTs ρ' σi tb σa ht ι' _ m' cm' _ _ Fb Rb Sb λ sc ιc gc=>?_);have Kc:CK J D rs St (i+1) ws nn done ιc σa sc.heap:=Kb.mv ok gc.evo.mv λ b o hb ho=>gc.evo.kp b o (Sb.jo b (dwJ b hb)).1 ho;have Fc:FR J ce m' cm' sc.heap:=Fb.evo Sb gc.evo;have Rc:ER w J ιc σa ce m' cm' sc.heap ρ':=Rb.evo gc.evo;cases tb with
  |false=>exact wpAny_pure ⟨rfl,ds.length-(i+1),Nat.sub_lt_sub_left hi (Nat.lt_succ_self i),i+1,σa,done,rest,ιc,m',cm',ws,nn,rfl,hi,same.trans gc.same,Eb.trans gc.evo,gc.sr,Fc,Rc.less (ma hb),Kc,Nat.le_succ_of_le dn,hrest,ap⟩
  |true=>
   refine bC λ k9=>?_;obtain⟨v',σb,hel,hrest⟩:=bd2 hrest;obtain⟨vs',σ₃,hcl,hrest⟩:=bd2 hrest;cases hrest;refine k9 ?_;refine wpAny_bind (wpAny_bind (hEl ρ' σa v' σb hel ιc sc m' cm' _ _ Fc Rc gc.sr λ u sd ιd gd ru=>?_));have Kd:CK J D rs St (i+1) ws nn done ιd σb sd.heap:=Kc.mv ok gd.evo.mv λ b o hb ho=>gd.evo.kp b o (gc.sr.jo b (dwJ b hb)).1 ho;have Fd:FR J ce m' cm' sd.heap:=Fc.evo gc.sr gd.evo;refine wpAny_bind (qe Kd.acc (by rw[Kd.all.1];exact Nat.le_trans dn (Nat.le_trans le hlen)) λ he n' De kpe=>?_);have kje:∀b o,¬J b->sd.heap.get? b=some o->he.get? b=some o:=λ b o hb ho=>kpe b o (λ q=>hb (q▸Z.DJ)) ho;refine wpAny_pure (wpAny_pure ⟨rfl,ds.length-(i+1),Nat.sub_lt_sub_left hi (Nat.lt_succ_self i),i+1,σb,done++[v'],vs',ιd,m',cm',ws++[u],n',rfl,hi,(same.trans gc.same).trans gd.same,((Eb.trans gc.evo).trans gd.evo).turn (Y:=λ b=>b=D) kpe (λ b hb=>hb▸Z.Dn),
    gd.sr.bE kje λ b hb=>?_,Fd.AD (λ o ho=>kpe _ o (Ne.symm Z.DL) ho) λ n c hc o ho=>kpe c o (Z.Dc n c hc) ho,((Rc.evo gd.evo).less (ma hb)).bE kje,
    ⟨De,(Kd.all.mono λ v x r=>r.bE kje).append (aA.one (ru.bE kje)),sO ok Kd.st Kd.rd λ b o hb ho=>kpe b o (λ q=>?_) ho,λ p hp=>(Kd.rd p hp).bE kje⟩,by rw[List.length_append];exact Nat.succ_le_succ dn,hcl,by rw[List.append_assoc];exact ap⟩)
   ·refine Classical.byCases (p:=b=D) (λ q=>?_) (λ q=>?_)
    ·exact q▸⟨_,De⟩
    ·obtain⟨_,_,o,ho⟩:=gd.sr.jo b hb;exact⟨o,kpe b o q ho⟩
   ·exact hb.elim (λ hb=>Z.Dw (q▸hb)) λ hb=>hb (.inl (q▸Z.DJ))
 ·obtain rfl:i=ds.length:=Nat.le_antisymm le (Nat.le_of_not_lt hi);rw[List.drop_length] at cl;refine bC λ k9=>?_;cases cl;refine k9 ?_;refine wpAny_bind (ok.done s K.st _ _ λ h' tk kp=>wpAny_pure ?_);have hJ':∀b,(J b/\b∉wr)->J b\/s.heap.get? b=none:=λ b hb=>.inl hb.1;have kj:∀b o,¬J b->s.heap.get? b=some o->h'.get? b=some o:=λ b o hb ho=>kp b o (λ q=>hb (Z.wJ b q)) ho;refine hRR _ ι' ws nn m same (evo.turn (Y:=λ b=>b∈wr) kp Z.wn) (sr.fG hJ' kj λ b hb=>?_) (kp _ _ Z.Dw K.acc) ?_ (by rw[K.all.1];exact Nat.le_trans dn hlen) ?_
  ·obtain⟨_,_,o,ho⟩:=sr.jo b hb.1;exact⟨o,kp b o hb.2 ho⟩
  ·rw[<-ap,List.append_nil];exact K.all.mono λ v x r=>r.fG hJ' kj
  ·obtain⟨o,es,ep,ho,r⟩:=fr.ns;exact⟨o,es,ep,kp _ _ Z.Lw ho,r⟩
end
end comp_loop_e
variable{J:Addr->Prop}{A:Around}{env ce:Env}
variable{ρ:ah}{σ σ₁ σ₂ σ₃ σ':aa}{a b r:V}{pos:Pos}{k:Nat}{e f t it:Expr}
theorem sy{Φ:Or}{elt iter:Expr}{ifs:List Expr}{scope:Scope}{I D:Addr}{wr fp:List Addr}{rs:List (Value×PyData)}{ds:List PyData}{St:Nat->Heap->Prop}{s₀:Shared}{ι₀:Loc}{σ₀:aa}{vs:List V}
  {RR:Result->Shared->Prop} (hE:aI ce) (hA:AOK A k) (hst:∀z∈ak t,aN ce z) (ok:mu prog w hB C A t I wr fp rs ds St)
  (hEl:∀ρ' σa v σb,ev Φ elt ρ' σa=some (v,σb)->EvS prog w hB C J A ce elt ρ' σa v σb) (hTs:∀ρ' σa b σb,i6 Φ ifs ρ' σa=some (b,σb)->TtS prog w hB C J A ce ifs ρ' σa b σb)
  (Z:CA J ce t D wr s₀.heap) (hlen:ds.length<=BIG)
  (hRR:∀s' ι' ws nn m',Shr s₀ s'->Evo ι₀ σ₀ s₀.heap ι' σ₂ s'.heap->SR prog w hB C (λ b=>J b/\b∉wr) ι' σ₂ s'.heap->s'.heap.get? D=some (aP ws nn)->
   aA (VR w (λ b=>J b/\b∉wr) ι' σ₂ s'.heap) ws vs->ws.length<=BIG->s'.heap.Ns ce.locals m'->RR (.ok .next) s') (n:Nat) (s:Shared) (hI:BO J Φ ce t elt ifs ρ s₀ ι₀ σ₀ σ₂ D rs ds St vs n s):codeAny (model prog w) A (.compLoop (.ListComp elt [⟨t,iter,ifs,0⟩] scope pos) 0 (.ref I) (.ref D) ce) RR s:=aw (Q:=λ x:(Addr->Prop)×(Around)×(Env)×(ah)×(aa)×(Pos)×(Nat)×(Expr)×(Or)×(Expr)×(Expr)×(List Expr)×(Scope)×(Addr)×(Addr)×(List Addr)×(List Addr)×(List (Value×PyData))×(List PyData)×(Nat->Heap->Prop)×(Shared)×(Loc)×(aa)×(List V)×(Result->Shared->Prop)=>comp_loop_e.P x.1 x.2.1 x.2.2.1 x.2.2.2.1 x.2.2.2.2.1 x.2.2.2.2.2.1 x.2.2.2.2.2.2.1 x.2.2.2.2.2.2.2.1 x.2.2.2.2.2.2.2.2.1 x.2.2.2.2.2.2.2.2.2.1 x.2.2.2.2.2.2.2.2.2.2.1 x.2.2.2.2.2.2.2.2.2.2.2.1 x.2.2.2.2.2.2.2.2.2.2.2.2.1 x.2.2.2.2.2.2.2.2.2.2.2.2.2.1 x.2.2.2.2.2.2.2.2.2.2.2.2.2.2.1 x.2.2.2.2.2.2.2.2.2.2.2.2.2.2.2.1 x.2.2.2.2.2.2.2.2.2.2.2.2.2.2.2.2.1 x.2.2.2.2.2.2.2.2.2.2.2.2.2.2.2.2.2.1 x.2.2.2.2.2.2.2.2.2.2.2.2.2.2.2.2.2.2.1 x.2.2.2.2.2.2.2.2.2.2.2.2.2.2.2.2.2.2.2.1 x.2.2.2.2.2.2.2.2.2.2.2.2.2.2.2.2.2.2.2.2.1 x.2.2.2.2.2.2.2.2.2.2.2.2.2.2.2.2.2.2.2.2.2.1 x.2.2.2.2.2.2.2.2.2.2.2.2.2.2.2.2.2.2.2.2.2.2.1 x.2.2.2.2.2.2.2.2.2.2.2.2.2.2.2.2.2.2.2.2.2.2.2.1 x.2.2.2.2.2.2.2.2.2.2.2.2.2.2.2.2.2.2.2.2.2.2.2.2) comp_loop_e.core (J,A,ce,ρ,σ₂,pos,k,t,Φ,elt,iter,ifs,scope,I,D,wr,fp,rs,ds,St,s₀,ι₀,σ₀,vs,RR) hE hA hst ok hEl hTs Z hlen hRR n s hI
end
end Mine.Internal
end
section
namespace Mine.Internal
open PySem PyProof.Rows
section
variable{J:Addr->Prop}{A:Around}{env ce:Env}
variable{ρ:ah}{σ σ₁ σ₂ σ₃ σ':aa}{a b r:V}{pos:Pos}{k:Nat}{e f t it:Expr}
theorem wW{M:Model}{E:Value->Shared->Prop}{s:Shared}{scope:Scope}{globals:Addr}{cl:List (Str×Addr)}{qual:Str}{Q:Env->Shared->Prop}
  (h:Q (newEnv scope s.heap.objs.size globals (cellsFrom (s.heap.objs.size+1) scope.names cl) qual none .none (some env) builtinsNs)
   { s with heap:=pushCells (s.heap.push { cls:=.type "dict",data:=.dict #[] }) scope.names }) :
  wpAny M A (newFunctionEnv scope globals cl [] qual none .none (some env)) Q E s:=by
 simp only[newFunctionEnv,Option.isSome_some,if_true];refine wpAny_bind (wpAny_alloc ?_);refine wpAny_bind (wpAny_layCells _ (λ name kind cells=>by cases hkc:kind == NameKind.cell<;>rfl) _ _ _ _ ?_);rw[show({ s with heap:=s.heap.push { cls:=.type "dict",data:=.dict #[] } }:Shared).heap.objs.size=s.heap.objs.size+1 from Heap.size_push ..];rw[List.forIn_nil];exact wpAny_bind (wpAny_pure (wpAny_pure h))
theorem sX:∀(names:List (Str×NameKind)) (h:Heap),h.objs.size<=(pushCells h names).objs.size:=by
 intro names
 induction names with
 |nil=>
  intro h;exact Nat.le_refl _
 |cons x9 r ih=>
  intro h;obtain⟨_,kind⟩:=x9;unfold pushCells;split
  ·exact Nat.le_trans (by rw[Heap.size_push];exact Nat.le_succ _) (ih _)
  ·exact ih h
structure u6(κ:Str->Kd)(t:Expr)(scope:Scope):Prop where
 kind:scope.kind=.function
 nodup:(scope.names.map (·.1)).Nodup
 loc:∀x,(x,NameKind.local)∈scope.names->x=(".0":Str)\/x∈ak t
 cel:∀x,(x,NameKind.cell)∈scope.names->x∈ak t
 fre:∀x,(x,NameKind.free)∈scope.names->κ x=.cel/\x∉ak t
 oth:∀x k,(x,k)∈scope.names->k=.local\/k=.cell\/k=.free\/k=.globalImplicit
theorem u6.of{κ:Str->Kd}{scope:Scope}(h:rn κ t scope=true):u6 κ t scope:=by
 obtain⟨h,h3⟩:=aB h;have h3:=List.all_eq_true.mp h3;refine⟨eq_of_beq (aB h).1,of_decide_eq_true (aB h).2,λ x hx=>(Bool.or_eq_true_iff.mp (h3 _ hx)).imp eq_of_beq List.contains_iff_mem.mp,λ x hx=>List.contains_iff_mem.mp (h3 _ hx),λ x hx=>⟨eq_of_beq (aB (h3 _ hx)).1,λ q=>?_⟩,λ x k hx=>?_⟩
 ·have:=(aB (h3 _ hx)).2;rw[List.contains_iff_mem.mpr q] at this;exact nob this
 ·have:=h3 _ hx;cases k with
  |«local»=>exact .inl rfl
  |cell=>exact .inr (.inl rfl)
  |free=>exact .inr (.inr (.inl rfl))
  |globalImplicit=>exact .inr (.inr (.inr rfl))
  |_=>exact nob this
theorem mz{κ:Str->Kd}{scope:Scope}(X:u6 κ t scope)(hT:okT (kds scope.names) t=true)(hce:ce.scope=relabel scope env):∀z∈ak t,aN ce z:=by
 have own:∀z∈ak t,own? (kds scope.names) z=true:=lz hT;intro z hz;have hk:=own z hz;unfold own? kds at hk;have hkd:=gs (x:=z) ce hce;unfold aN;rw[hkd];cases hl:scope.names.lookup z with
 |none=>rw[hl] at hk;exact by cases hk
 |some q=>
  have hm:=mem_of_lookup hl;rw[hl] at hk;rcases X.oth z q hm with rfl | rfl | rfl | rfl
  ·left;rfl
  ·right;rfl
  ·exact absurd hz (X.fre z hm).2
  ·exact by cases hk
end
end Mine.Internal
end
section
namespace Mine.Internal
open PySem PyProof.Rows
section
variable{J:Addr->Prop}{A:Around}{env:Env}
variable{ρ:ah}{σ σ₁ σ₂ σ₃ σ':aa}{a b r:V}{pos cp:Pos}{k:Nat}{e f t it:Expr}
theorem zi{x:Str}(h:kd env x=.cel):env.kindOf x=some .cell\/env.kindOf x=some .free:=by
 have K:=kdI env x;rw[h] at K;cases K with
 |cel q=>exact .inl q
 |fre q=>exact .inr q
theorem vv{names:List (Str×NameKind)}{x:Str}(h:kdM (kds names x)=true):(x,NameKind.local)∈names\/(x,NameKind.cell)∈names\/(x,NameKind.free)∈names:=by
 unfold kds at h;cases q:names.lookup x with
 |none=>rw[q] at h;cases h
 |some u=>
  rw[q] at h;have m:=mem_of_lookup q;cases u<;>first | exact .inl m | exact .inr (.inl m) | exact .inr (.inr m) | cases h
theorem xb{names:List (Str×NameKind)}{x:Str}(hn:(names.map (·.1)).Nodup)(h:(x,NameKind.free)∈names):kds names x=.cel:=by
 unfold kds;rw[cy hn h];rfl
noncomputable def dO:Expr->Bool
 |.Set ..=>false
 |_=>true
theorem none_of{h h':Heap}{b:Addr}(hk:∀b o,h.get? b=some o->h'.get? b=some o)(q:h'.get? b=none):h.get? b=none:=by
 cases e:h.get? b with
 |none=>rfl
 |some o=>rw[hk b o e] at q;cases q
set_option maxHeartbeats 1000000 in
theorem xZ{Φ:Or}{elt:Expr}{ifs:List Expr}{scope:Scope}{own:Bool}{xs vs:List V}{ι:Loc}{s:Shared}{m cm:Str->Option Value}{use:Option (Value->Sem Unit)}{Q:Value->Shared->Prop}{E:Value->Shared->Prop}{s₁:Shared}{ι₁:Loc}{h₂:Heap}{tk:Nat}{I:Addr}{wr:List Addr}{ds:List PyData}{fp:List Addr}{rs:List (Value×PyData)}{St:Nat->Heap->Prop}
  (hfree:∀x∈scope.names,x.2=.free->(env.cells.lookup x.1).isSome=true) (hE:aI env) (hA:AOK A k) (X:u6 (kd env) t scope) (hT:okT (kds scope.names) t=true)
  (hc:eU (λ x=>aQ t x ρ) (λ ρ σ=>i6 Φ ifs ρ σ) (λ ρ σ=>ev Φ elt ρ σ) xs σ₁=some (vs,σ₂)) (hm:cF own vs σ₂=some (r,σ'))
  (hEl:∀J' ce,aI ce->(∀x,kd ce x=kds scope.names x)->∀ρ' σa v σb,ev Φ elt ρ' σa=some (v,σb)->EvS prog w hB C J' A ce elt ρ' σa v σb)
  (hTs:∀J' ce,aI ce->(∀x,kd ce x=kds scope.names x)->∀ρ' σa b σb,i6 Φ ifs ρ' σa=some (b,σb)->TtS prog w hB C J' A ce ifs ρ' σa b σb)
  (F:FR J env m cm s.heap) (R:ER w J ι σ env m cm s.heap ρ) (S:SR prog w hB C J ι σ s.heap)
  (hQ:∀s' ι' Cf D mC,Shr s s'->Evo ι σ s.heap ι' σ' s'.heap->SR prog w hB C (λ b=>J b\/b=Cf) ι' σ' s'.heap->VR w (λ b=>J b\/b=Cf) ι' σ' s'.heap (.ref D) r->
   s'.heap.Ns Cf mC->s.heap.get? Cf=none->compPost (model prog w) A E use Q (.ref D) Cf (.ok .next) s')
  (g:Goes prog w hB C J s ι σ s₁ ι₁ σ₁) (hx:xs=ds.map V.d) (at':BK prog w hB C J A t ι₁ σ₁ s₁.heap h₂ I wr ds fp rs St) :
  codeAny (model prog w) A (.compStart (.ListComp elt [⟨t,it,ifs,0⟩] scope pos) 0 (.ref I) (.ref h₂.objs.size) { newEnv scope (h₂.push (aP [] 0)).objs.size env.globals (cellsFrom ((h₂.push (aP [] 0)).objs.size+1) scope.names (qf env scope.names [])) env.qual none .none (some env) builtinsNs with scope:=relabel scope env }) (compPost (model prog w) A E use Q (.ref h₂.objs.size) (h₂.push (aP [] 0)).objs.size) { s₁ with heap:=pushCells ((h₂.push (aP [] 0)).push { cls:=.type "dict",data:=.dict #[] }) scope.names,toks:=tk }:=by
 let h₃:Heap:=h₂.push { cls:=.type "list",data:=.seq ([]:List Value).toArray }
 let D:Addr:=h₂.objs.size
 let Cf:Addr:=h₃.objs.size
 let h₃':Heap:=h₃.push { cls:=.type "dict",data:=.dict #[] }
 let h₄:Heap:=pushCells h₃' scope.names
 let cl:List (Str×Addr):=qf env scope.names []
 let cs:List (Str×Addr):=cellsFrom (Cf+1) scope.names cl
 let ce:Env:={ newEnv scope Cf env.globals cs env.qual none .none (some env) builtinsNs with scope:=relabel scope env }
 let J':Addr->Prop:=λ b=>J b\/b∈wr\/b=D\/b=Cf\/(@LE.le Nat _ (Cf+1) b/\∃n,(n,b)∈cs)
 let cm':Str->Option Value:=λ n=>if(n,NameKind.cell)∈scope.names then none else cm n
 have hCD:@Eq Nat Cf (D+1):=Heap.size_push ..;have hC1:@Eq Nat h₃'.objs.size (Cf+1):=Heap.size_push ..;show codeAny (model prog w) A (.compStart (.ListComp elt [⟨t,it,ifs,0⟩] scope pos) 0 (.ref I) (.ref D) ce) (compPost (model prog w) A E use Q (.ref D) Cf) { s₁ with heap:=h₄,toks:=tk };have hces:ce.scope=relabel scope env:=rfl;have hE':aI ce:=⟨by rw[hces];exact X.kind,hE.globals,hE.builtins⟩;have hkd:∀x,kd ce x=kds scope.names x:=λ x=>ph ce hces x;have k34:∀b o,h₃.get? b=some o->h₄.get? b=some o:=λ b o q=>pushCells_keeps _ _ _ _ (Heap.get?_push_of_some _ q);have k24:∀b o,h₂.get? b=some o->h₄.get? b=some o:=λ b o q=>k34 b o (Heap.get?_push_of_some _ q);have k14:∀b o,s₁.heap.get? b=some o->h₄.get? b=some o:=λ b o q=>k24 b o (at'.kp b o q);have n14:∀b:Addr,D<=b->s₁.heap.get? b=none:=λ b hb=>none_of at'.kp (Heap.get?_none_of_le hb);have below:∀b o,s₁.heap.get? b=some o->@LT.lt Nat _ b D:=λ b o q=>Heap.lt_size (at'.kp b o q);have hwrlt:∀b∈wr,@LT.lt Nat _ b D:=λ b hb=>by obtain⟨_,o,ho⟩:=at'.new b hb;exact Heap.lt_size ho
 have cmem:∀n c,(n,c)∈cs->((n,NameKind.cell)∈scope.names/\@LE.le Nat _ (Cf+1) c/\h₄.IsCell c none)\/(n,c)∈cl:=λ n c hm=>by
  have:=kG scope.names h₃' cl n c (by rw[hC1];exact hm);rw[hC1] at this;exact this
 have clmem:∀n c,(n,c)∈cl->(n,NameKind.free)∈scope.names/\env.cells.lookup n=some c:=λ n c hm=>by
  rcases uM scope.names [] hfree n c hm with q | q
  ·exact q
  ·cases q
 have one:∀n q q',(n,q)∈scope.names->(n,q')∈scope.names->q=q':=λ n q q' h1 h2=>by
  have:=(cy X.nodup h1).symm.trans (cy X.nodup h2);exact Option.some.inj this
 have F1:FR J env m cm s₁.heap:=F.evo S g.evo;have clJ:∀n c,(n,c)∈cl->J c/\s₁.heap.IsCell c (cm n):=λ n c hm=>by
  refine bC λ k9=>?_;obtain⟨_,h2⟩:=clmem n c hm;refine k9 ?_;exact⟨(F1.cell n c h2).2.1,(F1.cell n c h2).1⟩
 have hJ':∀b,J' b->J b\/s₁.heap.get? b=none:=λ b hb=>by
  rcases hb with q | q | q | q | q
  ·exact .inl q
  ·exact .inr (at'.new b q).1
  ·exact .inr (n14 b (Nat.le_of_eq q.symm))
  ·exact .inr (n14 b (by rw[q,hCD];exact Nat.le_succ _))
  ·exact .inr (n14 b (by have:=q.1;rw[hCD] at this;exact Nat.le_trans (by lia) this))
 have S4:SR prog w hB C J' ι₁ σ₁ h₄:=g.sr.fG hJ' (λ b o _ q=>k14 b o q) λ b hb=>by
  rcases hb with q | q | q | q | q
  ·obtain⟨_,_,o,ho⟩:=g.sr.jo b q;exact⟨o,k14 b o ho⟩
  ·obtain⟨_,o,ho⟩:=at'.new b q;exact⟨o,k24 b o ho⟩
  ·rw[q];exact⟨_,k34 _ _ (Heap.get?_push_size _ rfl)⟩
  ·rw[q];exact⟨_,pushCells_keeps _ _ _ _ (Heap.get?_push_size _ rfl)⟩
  ·obtain⟨q1,n,q2⟩:=q;rcases cmem n b q2 with ⟨_,_,o,ho,_⟩ | q3
   ·exact⟨o,ho⟩
   ·obtain⟨o,ho,_⟩:=(clJ n b q3).2;exact⟨o,k14 b o ho⟩
 have F4:FR J' ce (λ _=>none) cm' h₄:=by
  refine⟨(Heap.Ns.new h₃ (.type "dict")).keeps (pushCells_keeps _ _),.inr (.inr (.inr (.inl rfl))),λ n c hc=>?_,λ n n' c h1 h2=>?_,λ n hn=>?_⟩
  ·have hm:=mem_of_lookup hc;rcases cmem n c hm with ⟨h1,h2,h3⟩ | h1
   ·refine⟨by show h₄.IsCell c (if _ then none else cm n);rw[if_pos h1];exact h3,.inr (.inr (.inr (.inr ⟨h2,n,hm⟩))),λ q=>?_⟩;have:@Eq Nat c Cf:=q;lia
   ·obtain⟨q1,q2⟩:=clJ n c h1;have hnc:¬(n,NameKind.cell)∈scope.names:=λ q=>by have:=one n _ _ q (clmem n c h1).1;cases this
    refine⟨by show h₄.IsCell c (if _ then none else cm n);rw[if_neg hnc];exact q2.keeps k14,.inl q1,λ q=>?_⟩;have q':@Eq Nat c Cf:=q;obtain⟨o,ho,_⟩:=q2;have:=below c o ho;lia
  ·have hap:cs.Pairwise λ x y=>x.2≠y.2:=by
    refine iO _ _ _ ?_ λ x hx=>?_
    ·exact pU F.apart scope.names [] hfree X.nodup List.Pairwise.nil λ _ _ q=>by cases q
    ·obtain⟨o,ho,_⟩:=(clJ x.1 x.2 hx).2;have:=below _ o ho;lia
   exact name_of_addr hap (mem_of_lookup h1) (mem_of_lookup h2)
  ·have hk:kdM (kds scope.names n)=true:=by
    rw[<-hkd];unfold kd;rcases hn with q | q<;>(rw[q];rfl)
   have hl:¬(n,NameKind.local)∈scope.names:=λ q=>by
    have:=hkd n;unfold kds kd at this;rw[cy X.nodup q] at this;rcases hn with q | q<;>(rw[q] at this;cases this)
   have:(n,NameKind.cell)∈scope.names\/(n,NameKind.free)∈scope.names:=(vv hk).resolve_left hl;rcases this with q | q
   ·obtain⟨c,hc⟩:=cL scope.names (Cf+1) cl n q;obtain⟨c',hc'⟩:=bW hc;exact congrArg Option.isSome hc'
   ·obtain⟨c,hc⟩:=uO (env:=env) scope.names [] n q;have hc:(n,c)∈cl:=hc;obtain⟨c',hc'⟩:=bW (fy scope.names (Cf+1) cl _ hc);exact congrArg Option.isSome hc'
 have R4:ER w J' ι₁ σ₁ ce (λ _=>none) cm' h₄ (forget (ak t) ρ):=λ x v' hx hm=>by
  obtain⟨hxt,hx⟩:x∉ak t/\ρ x=some v':=by
   by_cases q:(ak t).contains x=true
   ·exact no ((if_pos q).symm.trans hx)
   ·exact⟨λ z=>q (List.contains_iff_mem.mpr z),(if_neg q).symm.trans hx⟩
  obtain⟨hm1,hm2⟩:=aB hm;rw[hkd] at hm2;rcases vv hm2 with q | q | hmem
  ·rcases X.loc x q with rfl | q
   ·cases hm1
   ·exact absurd q hxt
  ·exact absurd (X.cel x q) hxt
  ·have hk:=(X.fre x hmem).1;have hnc:¬(x,NameKind.cell)∈scope.names:=λ q=>by cases one x _ _ q hmem
   obtain⟨v,h1,h2⟩:=R x v' hx (by unfold iZ;rw[hk,hm1];rfl);refine⟨v,?_,(h2.evo g.evo).fG hJ' λ b o _ q=>k14 b o q⟩;unfold val at h1 ⊢;rw[hk] at h1;rw[hkd,xb X.nodup hmem];exact(if_neg hnc).trans h1
 have E4:Evo ι σ s.heap ι₁ σ₁ h₄:=g.evo.trans (Evo.aM k14);have nJ:∀b,J' b->(¬J b)->s.heap.get? b=none:=λ b hb hnb=>g.fresh S ((hJ' b hb).resolve_left hnb);have nd:∀b,J b->@LT.lt Nat _ b D:=λ b hb=>by obtain⟨_,_,o,ho⟩:=g.sr.jo b hb;exact below b o ho
 have sm:Shr s { s₁ with heap:=h₄,toks:=tk }:=g.same;have rd4:∀p∈rs,RD (Ex J' ι₁ σ₁) h₄ p.1 p.2:=λ p hp=>(at'.rd p hp).fG hJ' λ b o _ q=>k14 b o q;have st4:St 0 h₄:=at'.ok.frame 0 h₂ h₄ at'.st λ b _ o q=>k24 b o q;have acc4:h₄.get? D=some (aP [] 0):=k34 _ _ (Heap.get?_push_size _ rfl);have cwr:∀n c,ce.cells.lookup n=some c->c∉wr/\c≠D:=λ n c hc=>by
  rcases cmem n c (mem_of_lookup hc) with ⟨_,h2,_⟩ | h1
  ·refine⟨λ q=>?_,λ q=>?_⟩
   ·have:=hwrlt c q;lia
   ·have q':@Eq Nat c D:=q;lia
  ·have hJc:=(clJ n c h1).1;refine⟨λ q=>?_,λ q=>?_⟩
   ·obtain⟨o,ho,_⟩:=(clJ n c h1).2;rw[(at'.new c q).1] at ho;cases ho
   ·have:=nd c hJc;lia
 have loop:codeAny (model prog w) A (.compLoop (.ListComp elt [⟨t,it,ifs,0⟩] scope pos) 0 (.ref I) (.ref D) ce) (compPost (model prog w) A E use Q (.ref D) Cf) { s₁ with heap:=h₄,toks:=tk }:=by
  refine sy (J:=J') (s₀:=s) (ι₀:=ι) (σ₀:=σ) (σ₂:=σ₂) (ρ:=ρ) (vs:=vs) hE' hA (mz X hT hces) at'.ok (hEl J' ce hE' hkd) (hTs J' ce hE' hkd) ⟨λ b hb=>.inr (.inl hb),.inr (.inr (.inl rfl)),
   λ q=>by have:=hwrlt D q;lia,λ q=>?_,λ n c hc=>(cwr n c hc).1,λ q=>?_,λ n c hc=>(cwr n c hc).2,λ b hb=>?_,?_,λ b hb=>?_⟩ at'.len ?_ _ _
   ⟨0,σ₁,[],vs,ι₁,λ _=>none,cm',[],0,rfl,Nat.zero_le _,sm,E4,S4,F4,R4,⟨acc4,aA.nil,st4,rd4⟩,Nat.le_refl _,by rw[List.drop_zero,<-hx];exact hc,rfl⟩
  ·have:=hwrlt Cf q;lia
  ·have q':@Eq Nat D Cf:=q;lia
  ·refine nJ b (.inr (.inl hb)) λ q=>?_;obtain⟨_,_,o,ho⟩:=g.sr.jo b q;rw[(at'.new b hb).1] at ho;cases ho
  ·refine nJ D (.inr (.inr (.inl rfl))) λ q=>?_;have:=nd D q;lia
  ·have hbJ:J' b/\¬J b:=by
    rcases hb with q | ⟨z,h1,h2,h3⟩
    ·have q':@Eq Nat b Cf:=q;refine⟨.inr (.inr (.inr (.inl q))),λ q2=>?_⟩;have:=nd b q2;lia
    ·rcases cmem z b (mem_of_lookup h3) with ⟨_,p2,_⟩ | p1
     ·refine⟨.inr (.inr (.inr (.inr ⟨p2,z,mem_of_lookup h3⟩))),λ q2=>?_⟩;have:=nd b q2;lia
     ·exact absurd h1 (X.fre z (clmem z b p1).1).2
   exact nJ b hbJ.1 hbJ.2
  ·intro s' ι' ws nn m' sm' ev' S' ho' rs' hl' ns';have hJJ:∀b,(J b\/b=Cf)->(J' b/\b∉wr):=λ b hb=>by
    rcases hb with q | q
    ·refine⟨.inl q,λ q2=>?_⟩;obtain⟨_,_,o,ho⟩:=g.sr.jo b q;rw[(at'.new b q2).1] at ho;cases ho
    ·refine⟨.inr (.inr (.inr (.inl q))),λ q2=>?_⟩;have:=hwrlt b q2;lia
   obtain⟨ι'',Sx,Ex',Vx⟩:=uI (J':=λ b=>J b\/b=Cf) S' ev' (D:=D) ⟨.inr (.inr (.inl rfl)),λ q=>by have:=hwrlt D q;lia⟩ hJJ (λ q=>by
    rcases q with q | q
    ·have:=nd D q;lia
    ·have q':@Eq Nat D Cf:=q;lia) (nJ D (.inr (.inr (.inl rfl))) λ q=>by have:=nd D q;lia) ho' hl' rs' hm
   refine hQ s' ι'' Cf D m' sm' Ex' Sx Vx ns' (nJ Cf (.inr (.inr (.inr (.inl rfl)))) λ q=>?_);have:=nd Cf q;lia
 exact codeAny_compStart_list loop (at'.ok.self _ 0 _ _ st4 loop)
set_option maxHeartbeats 1000000 in
theorem sx{Φ:Or}{elt:Expr}{ifs:List Expr}{scope:Scope}{own:Bool}{xs vs:List V}{ι:Loc}{s:Shared}{m cm:Str->Option Value}{use:Option (Value->Sem Unit)}{Q:Value->Shared->Prop}{E:Value->Shared->Prop}
  (hE:aI env) (hA:AOK A k) (X:u6 (kd env) t scope) (hT:okT (kds scope.names) t=true) (hset:dO it=true)
  (hIt:ItS prog w hB C J A env t it ρ σ xs σ₁) (hc:eU (λ x=>aQ t x ρ) (λ ρ σ=>i6 Φ ifs ρ σ) (λ ρ σ=>ev Φ elt ρ σ) xs σ₁=some (vs,σ₂)) (hm:cF own vs σ₂=some (r,σ'))
  (hEl:∀J' ce,aI ce->(∀x,kd ce x=kds scope.names x)->∀ρ' σa v σb,ev Φ elt ρ' σa=some (v,σb)->EvS prog w hB C J' A ce elt ρ' σa v σb)
  (hTs:∀J' ce,aI ce->(∀x,kd ce x=kds scope.names x)->∀ρ' σa b σb,i6 Φ ifs ρ' σa=some (b,σb)->TtS prog w hB C J' A ce ifs ρ' σa b σb)
  (F:FR J env m cm s.heap) (R:ER w J ι σ env m cm s.heap ρ) (S:SR prog w hB C J ι σ s.heap)
  (hQ:∀s' ι' Cf D mC,Shr s s'->Evo ι σ s.heap ι' σ' s'.heap->SR prog w hB C (λ b=>J b\/b=Cf) ι' σ' s'.heap->VR w (λ b=>J b\/b=Cf) ι' σ' s'.heap (.ref D) r->
   s'.heap.Ns Cf mC->s.heap.get? Cf=none->compPost (model prog w) A E use Q (.ref D) Cf (.ok .next) s') :
  wpAny (model prog w) A (comprehension (.ListComp elt [⟨t,it,ifs,0⟩] scope pos) scope env cp (newList []) false (eval it env) use) Q E s:=by
 have hfree:∀x∈scope.names,x.2=.free->(env.cells.lookup x.1).isSome=true:=λ x hx hf=>by
  obtain⟨n,q⟩:=x;subst hf;exact F.has n (zi (X.fre n hx).1)
 have hset':∀x,foldedSetIterable it env x=pure x:=λ x=>by
  cases it<;>first | rfl | exact nob hset
 refine wpAny_comprehension_free (use:=use) rfl hset' (kF hfree) X.kind (λ x hx hl=>?_) (hIt ι s m cm _ _ F R S λ s₁ ι₁ h₂ tk I wr ds fp rs St g hx at'=>?_)
 ·obtain⟨n,q⟩:=x;dsimp only at hl ⊢;subst hl;exact cy X.nodup hx
 refine wpAny_newList ?_ (by decide);refine wW ?_;exact xZ (s₁:=s₁) (h₂:=h₂) hfree hE hA X hT hc hm hEl hTs F R S hQ g hx at'
theorem dY{Φ:Or}{elt:Expr}{ifs:List Expr}{scope:Scope}{own:Bool}{xs vs:List V}
  (hE:aI env) (hA:AOK A k) (X:u6 (kd env) t scope) (hT:okT (kds scope.names) t=true) (hset:dO it=true)
  (hIt:ItS prog w hB C J A env t it ρ σ xs σ₁) (hc:eU (λ x=>aQ t x ρ) (λ ρ σ=>i6 Φ ifs ρ σ) (λ ρ σ=>ev Φ elt ρ σ) xs σ₁=some (vs,σ₂)) (hm:cF own vs σ₂=some (r,σ'))
  (hEl:∀J' ce,aI ce->(∀x,kd ce x=kds scope.names x)->∀ρ' σa v σb,ev Φ elt ρ' σa=some (v,σb)->EvS prog w hB C J' A ce elt ρ' σa v σb)
  (hTs:∀J' ce,aI ce->(∀x,kd ce x=kds scope.names x)->∀ρ' σa b σb,i6 Φ ifs ρ' σa=some (b,σb)->TtS prog w hB C J' A ce ifs ρ' σa b σb) :
  EvS prog w hB C J A env (.ListComp elt [⟨t,it,ifs,0⟩] scope pos) ρ σ r σ':=λ ι s m cm Q E F R S h=>by
 rw[eval_ListComp];refine sx (use:=none) hE hA X hT hset hIt hc hm hEl hTs F R S λ s' ι' Cf D mC sm ev' S' V' ns' hC=>⟨mC,ns',λ h' hs=>?_⟩;have hk:∀b o,¬(J b\/b=Cf)->s'.heap.get? b=some o->h'.get? b=some o:=λ b o hb ho=>hs.extBut b o (λ q=>hb (.inr q)) ho;refine h _ _ ι' ⟨sm,ev'.turn (Y:=λ b=>b=Cf) (λ b o hb ho=>hs.extBut b o hb ho) (λ b hb=>hb▸hC),S'.fG (λ b hb=>.inl (.inl hb)) hk λ b hb=>?_⟩ (V'.fG (λ b hb=>.inl (.inl hb)) hk);refine bC λ k9=>?_;obtain⟨_,_,o,ho⟩:=S'.jo b (.inl hb);refine k9 ?_;refine⟨o,hs.extBut b o (λ q=>?_) ho⟩;obtain⟨_,_,o',ho'⟩:=S.jo b hb;rw[q,hC] at ho';cases ho'
end
end Mine.Internal
end
section
set_option tactic.hygienic true
namespace Mine.Internal
open PySem PyProof.Rows
theorem nH{xs:Array Nat}(h:Ris xs){i j:Nat}(hj:j<xs.size)(hij:i<j):xs[i]'(Nat.lt_trans hij hj)<xs[j]:=List.pairwise_iff_getElem.mp h i j (Nat.lt_trans hij hj) hj hij
theorem jt{lo hi:Nat}(h:lo<hi):lo<=(lo+hi) / 2/\(lo+hi) / 2<hi:=
 ⟨(Nat.le_div_iff_mul_le (by decide)).mpr (Nat.mul_two lo▸Nat.add_le_add_left (Nat.le_of_lt h) lo),Nat.div_lt_of_lt_mul (Nat.two_mul hi▸Nat.add_lt_add_right h hi)⟩
theorem n0{lo hi n:Nat}(h:lo<hi)(f:hi-lo<=n+1):hi-((lo+hi) / 2+1)<=n/\(lo+hi) / 2-lo<=n:=
 ⟨Nat.le_trans (Nat.sub_le_sub_left (Nat.succ_le_succ (jt h).1) hi) (Nat.pred_le_pred f),Nat.le_of_lt_succ (Nat.lt_of_lt_of_le (Nat.sub_lt_sub_right (jt h).1 (jt h).2) f)⟩
structure BZ(xs:Array Nat)(j lo hi:Nat):Prop where
 hs:hi<=xs.size
 le:lo<=hi
 lo:∀i (hq:i<xs.size),i<lo->xs[i]<j
 up:∀i (hq:i<xs.size),hi<=i->j<=xs[i]
theorem uX{xs:Array Nat}{j:Nat}(h:Ris xs)(fuel:Nat):∀(lo hi:Nat),BZ xs j lo hi->hi-lo<=fuel->BZ xs j (SetTable.below.go xs j fuel lo hi) (SetTable.below.go xs j fuel lo hi):=by
 induction fuel with
 |zero=>
  intro lo hi B f;obtain rfl:=Nat.le_antisymm B.le (Nat.sub_eq_zero_iff_le.mp (Nat.le_zero.mp f));exact B
 |succ fuel ih=>
  intro lo hi B f;have e:SetTable.below.go xs j (fuel+1) lo hi=if lo<hi then(if xs.getD ((lo+hi) / 2) j<j then SetTable.below.go xs j fuel ((lo+hi) / 2+1) hi else SetTable.below.go xs j fuel lo ((lo+hi) / 2)) else lo:=rfl
  by_cases hlt:lo<hi
  ·have hm:(lo+hi) / 2<xs.size:=Nat.lt_of_lt_of_le (jt hlt).2 B.hs;rw[if_pos hlt,show xs.getD ((lo+hi) / 2) j=xs[(lo+hi) / 2] from dif_pos hm] at e;by_cases hc:xs[(lo+hi) / 2]<j
   ·rw[e,if_pos hc];refine ih _ _ ⟨B.hs,(jt hlt).2,λ i hq hl=>?_,B.up⟩ (n0 hlt f).1;rcases Nat.lt_or_eq_of_le (Nat.le_of_lt_succ hl) with q | rfl
    ·exact Nat.lt_trans (nH h hm q) hc
    ·exact hc
   ·rw[e,if_neg hc];refine ih _ _ ⟨Nat.le_of_lt hm,(jt hlt).1,B.lo,λ i hq hl=>?_⟩ (n0 hlt f).2;rcases Nat.lt_or_eq_of_le hl with q | rfl
    ·exact Nat.le_of_lt (Nat.lt_of_le_of_lt (Nat.not_lt.mp hc) (nH h hq q))
    ·exact Nat.not_lt.mp hc
  ·rw[e,if_neg hlt];obtain rfl:=Nat.le_antisymm B.le (Nat.not_lt.mp hlt);exact B
theorem f9{xs:Array Nat}(h:Ris xs)(j:Nat):BZ xs j (SetTable.below xs j) (SetTable.below xs j):=
 uX h xs.size 0 xs.size ⟨Nat.le_refl _,Nat.zero_le _,λ _ _ q=>absurd q (Nat.not_lt_zero _),λ i hi q=>absurd hi (Nat.not_lt.mpr q)⟩ (Nat.le_refl _)
theorem p8{xs:Array Nat}(h:Ris xs){i:Nat}(hi:i<xs.size):SetTable.below xs (xs[i]+1)=i+1:=by
 have B:=f9 h (xs[i]+1);refine Nat.le_antisymm (Nat.not_lt.mp λ q=>?_) (Nat.not_lt.mp λ q=>Nat.lt_irrefl _ (B.up i hi (Nat.le_of_lt_succ q)));have hs:=Nat.lt_of_lt_of_le q B.hs;exact Nat.lt_irrefl _ (Nat.lt_of_lt_of_le (nH h hs (Nat.lt_succ_self i)) (Nat.le_of_lt_succ (B.lo _ hs q)))
theorem pZ{xs:Array Nat}(h:Ris xs):SetTable.below xs 0=0:=by
 have B:=f9 h 0;exact Nat.le_zero.mp (Nat.not_lt.mp λ q=>Nat.not_lt_zero _ (B.lo 0 (Nat.lt_of_lt_of_le q B.hs) q))
theorem kb{α:Type}(xs:Array α)(p:Nat)(x:α)(hp:p<=xs.size):(SetTable.insertAt xs p x).toList=xs.toList.take p++x::xs.toList.drop p:=by
 delta SetTable.insertAt;rw[Array.toList_append,Array.toList_push,Array.toList_extract,Array.toList_extract,List.append_assoc];show(xs.toList.drop 0).take (p-0)++([x]++(xs.toList.drop p).take (xs.size-p))=_;rw[List.take_of_length_le (l:=xs.toList.drop p) (by rw[List.length_drop];exact Nat.le_refl _)];rfl
theorem wA{t:SetTable}{j:Nat}(h:Ris t.place)(hn:t.place[SetTable.below t.place j]?≠some j):Ris (t.put j).1.place:=by
 have B:=f9 h j;have up:∀y∈t.place.toList.drop (SetTable.below t.place j),j<y:=λ y hy=>by
  obtain⟨i,hi⟩:=List.mem_iff_getElem?.mp hy;rw[List.getElem?_drop] at hi;obtain⟨hs,e⟩:=List.getElem?_eq_some_iff.mp hi;refine Nat.lt_of_le_of_ne (e▸B.up _ hs (Nat.le_add_right _ _)) λ q=>?_;cases i with
  |zero=>exact hn ((Array.getElem?_eq_getElem hs).trans (congrArg some (e.trans q.symm)))
  |succ i=>exact Nat.lt_irrefl _ (Nat.lt_of_le_of_lt (B.up _ (Nat.lt_of_le_of_lt (Nat.le_add_right _ _) hs) (Nat.le_refl _)) (Nat.lt_of_lt_of_eq (nH h hs (Nat.lt_add_of_pos_right (Nat.succ_pos i))) (e.trans q.symm)))
 show((SetTable.insertAt t.place (SetTable.below t.place j) j).toList).Pairwise (·<·);rw[kb _ _ _ B.hs];refine List.pairwise_append.mpr ⟨List.Pairwise.sublist (List.take_sublist _ _) h,List.pairwise_cons.mpr ⟨up,List.Pairwise.sublist (List.drop_sublist _ _) h⟩,λ a ha b hb=>?_⟩;obtain⟨i,hi,rfl⟩:=List.mem_iff_getElem.mp ha;rw[List.getElem_take];rw[List.length_take] at hi;have haj:=B.lo i (Nat.lt_of_lt_of_le hi (Nat.min_le_right _ _)) (Nat.lt_of_lt_of_le hi (Nat.min_le_left _ _));rcases List.mem_cons.mp hb with rfl | hb
 ·exact haj
 ·exact Nat.lt_trans haj (up b hb)
theorem lj{t:SetTable}{j:Nat}(h:∀i,t.slot j≠.live i):t.place[SetTable.below t.place j]?≠some j:=λ q=>by
 unfold SetTable.slot at h;dsimp only at h;rw[if_pos (by rw[q];simp)] at h;exact h _ rfl
theorem mn{t:SetTable}{p:SetTable.Probe}:(t.advance p).dummy=p.dummy:=by
 unfold SetTable.advance;split<;>rfl
theorem pn{t:SetTable}{f:Nat->Int}{h:Int}:∀(n:Nat) (p:SetTable.Probe) (j:Nat) (d:Option Nat),(∀d',p.dummy=some d'->∀i,t.slot d'≠.live i)->SetTable.probe.go t f h n p=some (.empty j d)->
  (∀i,t.slot j≠.live i)/\∀d',d=some d'->∀i,t.slot d'≠.live i:=by
 intro n
 induction n with
 |zero=>exact λ p j d _ e=>no e
 |succ n ih=>
  intro p j d hd e;have e:(match t.slot p.j with | .empty=>some (.empty p.j p.dummy) | .dummy=>SetTable.probe.go t f h n (t.advance { p with dummy:=some p.j }) | .live i=>if f i == h then some (.candidate p.j i (t.advance p)) else SetTable.probe.go t f h n (t.advance p))=some (SetTable.Met.empty j d):=e;refine bC λ k9=>?_;cases hs:t.slot p.j with
  |empty=>
   rw[hs] at e;cases e;exact k9 ⟨λ i q=>(by cases hs.symm.trans q),hd⟩
  |dummy=>
   rw[hs] at e;refine k9 (ih _ j d (λ d' q i q2=>?_) e);rw[mn] at q;cases q;exact by cases hs.symm.trans q2
  |live i=>
   rw[hs] at e;by_cases hc:(f i == h)=true
   ·exact by cases(if_pos hc).symm.trans e
   ·exact k9 (ih _ j d (λ d' q=>hd d' (mn.symm.trans q)) ((if_neg hc).symm.trans e))
set_option backward.match.sparseCases true in
theorem kg{t:SetTable}{h:Int}{j:Nat}{b:Bool}(e:t.freeSlot h=some (j,b)):t.place[SetTable.below t.place j]?≠some j:=by
 have e:(match t.probe (λ _=>h+1) h (t.probeStart h) with | some (.empty j dummy)=>some (dummy.getD j,dummy.isSome) | _=>none)=some (j,b):=e;cases hp:t.probe (λ _=>h+1) h (t.probeStart h) with
 |none=>rw[hp] at e;exact no e
 |some m=>
  rw[hp] at e;cases m with
  |candidate _ _ _=>exact no e
  |empty j' d=>
   cases e;obtain⟨h1,h2⟩:=pn _ _ _ _ (λ d' q=>no q) hp;cases d with
   |none=>exact lj h1
   |some d'=>exact lj (h2 d' rfl)
theorem lr(n:Nat):Ris (Array.range n):=by
 show(Array.range n).toList.Pairwise (·<·);rw[Array.toList_range];exact List.pairwise_lt_range
theorem TB.wh{t:SetTable}(T:TB t)(n:Nat):TB (t.standIn n):=⟨lr _,T.led⟩
theorem rP{t:SetTable}{es:Array (Int×Value)}{h:Int}{x:Value}(T:TB t):TB (layNew t es h x).2.1:=by
 unfold layNew;split
 ·rename_i slot wd hf;show TB (if _ then _ else _);split
  ·exact⟨wA T.ris (kg hf),T.led⟩
  ·exact⟨lr _,T.led⟩
 ·exact T.wh _
theorem kr{f:Nat->Option Nat}:∀(l:List Nat),l.Pairwise (·<·)->(((l.filterMap λ j=>(f j).map λ k=>(j,k)).map (·.1))).Pairwise (·<·):=by
 intro l
 induction l with
 |nil=>
  intro _;assumption
 |cons a l ih=>
  intro h;rw[List.pairwise_cons] at h;have ih:=ih h.2;rw[List.filterMap_cons];cases hf:f a with
  |none=>exact ih
  |some k=>
   simp only[Option.map_some,List.map_cons,List.pairwise_cons];refine⟨λ b hb=>?_,ih⟩;simp only[List.mem_map,List.mem_filterMap] at hb;obtain⟨p,⟨c,hc,hp⟩,rfl⟩:=hb;obtain⟨k',_,rfl⟩:=Option.map_eq_some_iff.mp hp;exact h.1 c hc
theorem xa{mask finger moves:Nat}{led plain:Bool}{hs:Array Int}{t:SetTable}{o:Array Nat}(e:SetTable.laid mask finger moves led plain hs=some (t,o))(hl:led=!FT):TB t:=by
 obtain⟨owner,_,e⟩:=bd1 e;cases e;exact⟨kr (f:=λ j=>owner.getD j none) (List.range (mask+1)) List.pairwise_lt_range,hl⟩
theorem mG{t:SetTable}{es:Array (Int×Value)}{n:Nat}(T:TB t):TB (relayAll t es n).2.1:=by
 unfold relayAll;split
 ·rename_i t' order he;dsimp only;split
  ·exact xa he T.led
  ·exact T.wh _
 ·exact T.wh _
end Mine.Internal
end
section
namespace Mine.Internal
open PySem PyProof.Rows
section
variable{J:Addr->Prop}{A:Around}{env:Env}
variable{ρ:ah}{σ σ₁ σ₂ σ₃ σ':aa}{r:V}{k:Nat}{ι:Loc}{s:Shared}{E:Value->Shared->Prop}
theorem AN(k:Int):(intKind prog w).hash k=hashInt k:=rfl
theorem EL.elems{es:Array (Int×Value)}{xs:List Int}(h:EL es xs):ElemsOf (intKind prog w) es.toList:=λ e h1=>by
 obtain⟨i,tk,rfl⟩:=h.el e h1;exact⟨⟨i,intKind_is prog w i tk,rfl⟩,rfl⟩
theorem EL.perm{es es':Array (Int×Value)}{xs:List Int}(h:EL es xs)(p:es'.toList.Perm es.toList):EL es' xs:=
 ⟨λ e he=>h.el e (p.mem_iff.mp he),λ i=>(h.mem i).trans ⟨(by rintro⟨e,he,q⟩;exact⟨e,p.mem_iff.mpr he,q⟩),(by rintro⟨e,he,q⟩;exact⟨e,p.mem_iff.mp he,q⟩)⟩,Nat.le_trans (Nat.le_of_eq (show es'.size=es.size from p.length_eq)) h.le⟩
theorem EL.push{es:Array (Int×Value)}{xs:List Int}{i:Int}{t:Tok}(h:EL es xs):EL (es.push (hashInt i,.int i t)) (xs++[i]):=by
 have tl:∀e,e∈(es.push (hashInt i,.int i t)).toList↔e∈es.toList\/e=(hashInt i,.int i t):=λ e=>by rw[Array.toList_push,List.mem_append,List.mem_singleton]
 refine⟨λ e he=>((tl e).mp he).elim (h.el e) λ q=>⟨i,t,q⟩,λ j=>⟨λ hj=>?_,fun⟨e,he,tk,q⟩=>?_⟩,?_⟩
 ·rcases List.mem_append.mp hj with hj | hj
  ·obtain⟨e,he,q⟩:=(h.mem j).mp hj;exact⟨e,(tl e).mpr (.inl he),q⟩
  ·exact⟨_,(tl _).mpr (.inr rfl),t,List.mem_singleton.mp hj▸rfl⟩
 ·rcases(tl e).mp he with he | rfl
  ·exact List.mem_append_left _ ((h.mem j).mpr ⟨e,he,tk,q⟩)
  ·cases q;exact List.mem_append_right _ (List.mem_singleton.mpr rfl)
 ·rw[Array.size_push,List.length_append];exact Nat.succ_le_succ h.le
theorem eD.put{h:Heap}{a:Addr}{o:Obj}{es es':Array (Int×Value)}{ep:Nat}{t t':SetTable}{xs:List Int}(ho:h.get? a=some o)(hx:o.ExactSet)(hd:o.data=.set es ep t)(el:EL es' xs)(hl:xs.length<=4000)(hf:t'.fits es'.size=true)(T:TB t') :
  (h.update a (Obj.putSet es' t')).get? a=some { o with data:=.set es' (ep+1) t' }/\eD w (h.update a (Obj.putSet es' t')) a xs:=by
 have hg:(h.update a (Obj.putSet es' t')).get? a=some { o with data:=.set es' (ep+1) t' }:=by
  have:=Heap.get?_update_self (Obj.putSet es' t') ho (by rw[putSet_of es' t' hd];rfl);rwa [putSet_of es' t' hd] at this
 exact⟨hg,_,es',ep+1,t',hg,hx,rfl,el,hl,hf,T⟩
end
section
namespace setAdd_ok_e
noncomputable section
def P(A:Around)(s:Shared)(E:Value->Shared->Prop)(a:Addr)(xs:List Int)(i:Int)(t:Tok)(Q:Bool->Shared->Prop):Prop:=∀(X:eD w s.heap a xs) (hroom:xs.length<4000) (h:∀b h',Heap.SameBut a s.heap h'->eD w h' a (if xs.contains i then xs else xs++[i])->Q b { s with heap:=h' }),wpAny (model prog w) A (setAddHashed a (.int i t) (hashInt i)) Q E s
def x:(Around)×(Shared)×(Value->Shared->Prop)×(Addr)×(List Int)×(Int)×(Tok)×(Bool->Shared->Prop):=@Classical.epsilon _ ⟨({},{},default,default,default,default,default,default)⟩ λ x=>¬P x.1 x.2.1 x.2.2.1 x.2.2.2.1 x.2.2.2.2.1 x.2.2.2.2.2.1 x.2.2.2.2.2.2.1 x.2.2.2.2.2.2.2
def A:Around:=x.1
def s:Shared:=x.2.1
def E:Value->Shared->Prop:=x.2.2.1
def a:Addr:=x.2.2.2.1
def xs:List Int:=x.2.2.2.2.1
def i:Int:=x.2.2.2.2.2.1
def t:Tok:=x.2.2.2.2.2.2.1
def Q:Bool->Shared->Prop:=x.2.2.2.2.2.2.2
set_option maxHeartbeats 1000000 in
theorem core:P A s E a xs i t Q:=λ X hroom h=>by
 refine bC λ k9=>?_;obtain⟨o,es,ep,tb,ho,hex,hd,el,hx4,hf,T⟩:=id X;refine k9 ?_;have hb:es.size<scanBound:=Nat.lt_of_le_of_lt el.le (Nat.lt_trans hroom (by decide));have hkey:=intKind_is prog w i t;unfold setAddHashed setAddHashedIn;refine wpAny_holding (wpAny_bind (wpAny_setState_of ho hd hf ?_));dsimp only;rw[byScan_of (knd:=intKind prog w) (x:=.int i t) rfl hb el.elems];simp only[↓reduceIte];unfold setAddByScan;refine wpAny_bind (wpAny_bind (wpAny_rule (wpAny_bind (wpAny_setScan_of hkey ho hd hf el.elems ?_))));cases hr:List.findIdx? (λ e=>(intKind prog w).is i e.2) es.toList with
 |some j=>
  obtain⟨hj,hpj,_⟩:=List.findIdx?_eq_some_iff_getElem.mp hr;obtain⟨tk,q⟩:=Value.isInt_shape hpj;refine wpAny_pure (wpAny_pure (h false s.heap (Heap.SameBut.refl a s.heap) ?_));rw[if_pos (List.contains_iff_mem.mpr ((el.mem i).mpr ⟨_,List.getElem_mem hj,tk,q⟩))];exact X
 |none=>
  have hnot:¬xs.contains i=true:=λ hi=>by
   obtain⟨e,he,tk,q⟩:=(el.mem i).mp (List.contains_iff_mem.mp hi);have:=List.findIdx?_eq_none_iff.mp hr e he;rw[q,intKind_is] at this;exact Bool.noConfusion this
  have hQ:∀h',Heap.SameBut a s.heap h'->eD w h' a (xs++[i])->Q true { s with heap:=h' }:=λ h' hsb hS=>h true h' hsb (by rw[if_neg hnot];exact hS);have el1:=(el.push (i:=i) (t:=t)).perm (layNew_perm tb es (hashInt i) (.int i t));have hfits:=layNew_fits tb es (hashInt i) (.int i t);have T1:=rP (t:=tb) (es:=es) (h:=hashInt i) (x:=.int i t) T;dsimp only;generalize layNew tb es (hashInt i) (.int i t)=L at el1 hfits T1 ⊢;obtain⟨es1,t1,wasDummy,gave⟩:=L;dsimp only at el1 hfits T1 ⊢;have hl1:(xs++[i]).length<=4000:=by rw[List.length_append];exact hroom
  have hgw:∀(b:Bool) {s₁:Shared} {Q':Unit->Shared->Prop},Q' () s₁->wpAny (model prog w) A (match b with | true=>rule "set.scan.the-table-gave-way" | false=>pure ()) Q' E s₁:=
   λ b s₁ Q' hq=>by cases b<;>first | exact wpAny_pure hq | exact wpAny_rule hq
  refine wpAny_bind (hgw _ ?_);have tail:wpAny (model prog w) A (do
     storeSet a es1 t1
     if(!wasDummy && t1.tooFull)=true then do
       (match(relayAll t1 es1 (SetTable.grown es1.size)).2.2 with | true=>rule "set.scan.the-table-gave-way" | false=>pure ())
       storeSet a (relayAll t1 es1 (SetTable.grown es1.size)).1 (relayAll t1 es1 (SetTable.grown es1.size)).2.1
       pure (some true)
      else pure (some true)) (λ r s'=>r=some true/\Q true s') E s:=by
   obtain⟨g1,S1⟩:=eD.put ho hex hd el1 hl1 hfits T1;have lim:∀{e':Array (Int×Value)},EL e' (xs++[i])->e'.size<scanBound:=λ h=>Nat.lt_of_le_of_lt (Nat.le_trans h.le hl1) (by decide);have hsb1:=Heap.SameBut.update s.heap a (Obj.putSet es1 t1);refine wpAny_bind (wpAny_storeSet_of ho hd ?_ (fits_of_scanBound (lim el1)));split
   ·have el2:=el1.perm (relayAll_perm t1 es1 (SetTable.grown es1.size));have hfr:=relayAll_fits t1 es1 (SetTable.grown es1.size);have T2:=mG (t:=t1) (es:=es1) (n:=SetTable.grown es1.size) T1;generalize relayAll t1 es1 (SetTable.grown es1.size)=Rl at el2 hfr T2 ⊢;obtain⟨es2,t3,gave2⟩:=Rl;refine wpAny_bind (hgw _ ?_);refine wpAny_bind (wpAny_storeSet_of g1 rfl ?_ (fits_of_scanBound (lim el2)));exact wpAny_pure ⟨rfl,hQ _ (hsb1.trans (Heap.SameBut.update _ a _)) (eD.put g1 hex rfl el2 hl1 hfr T2).2⟩
   ·exact wpAny_pure ⟨rfl,hQ _ hsb1 S1⟩
  split
  ·refine wpAny_bind ?_;rw[hashByValue_scannable 8 (x:=.int i t) rfl];exact wpAny_pure (wpAny_mono tail (λ r s' hr=>by obtain⟨rfl,hr⟩:=hr;exact wpAny_pure hr) λ _ _ q=>q)
  ·exact wpAny_bind (wpAny_pure (wpAny_mono tail (λ r s' hr=>by obtain⟨rfl,hr⟩:=hr;exact wpAny_pure hr) λ _ _ q=>q))
end
end setAdd_ok_e
variable{J:Addr->Prop}{A:Around}{env:Env}
variable{ρ:ah}{σ σ₁ σ₂ σ₃ σ':aa}{r:V}{k:Nat}{ι:Loc}{s:Shared}{E:Value->Shared->Prop}
theorem qI{a:Addr}{xs:List Int}{i:Int}{t:Tok}{Q:Bool->Shared->Prop}(X:eD w s.heap a xs)(hroom:xs.length<4000)
  (h:∀b h',Heap.SameBut a s.heap h'->eD w h' a (if xs.contains i then xs else xs++[i])->Q b { s with heap:=h' }):wpAny (model prog w) A (setAddHashed a (.int i t) (hashInt i)) Q E s:=aw (Q:=λ x:(Around)×(Shared)×(Value->Shared->Prop)×(Addr)×(List Int)×(Int)×(Tok)×(Bool->Shared->Prop)=>setAdd_ok_e.P x.1 x.2.1 x.2.2.1 x.2.2.2.1 x.2.2.2.2.1 x.2.2.2.2.2.1 x.2.2.2.2.2.2.1 x.2.2.2.2.2.2.2) setAdd_ok_e.core (A,s,E,a,xs,i,t,Q) X hroom h
theorem eD.typeIs{a:Addr}{xs:List Int}(X:eD w s.heap a xs):s.TypeIs (.ref a) "set":=by
 obtain⟨o,es,ep,tb,ho,hex⟩:=X;exact⟨o,ho,hex.1⟩
theorem eD.noDict{a:Addr}{xs:List Int}(X:eD w s.heap a xs):∀b,Value.ref a=.ref b->∃ob,s.heap.get? b=some ob/\ob.dict=none:=λ b e=>by
 refine bC λ k9=>?_;obtain⟨o,es,ep,tb,ho,hex⟩:=X;cases e;refine k9 ?_;exact⟨o,ho,hex.2.1⟩
theorem pV{a:Addr}{xs:List Int}{i:Int}{t:Tok}{Q:Value->Shared->Prop}(X:eD w s.heap a xs)(hroom:xs.length<4000)
  (h:∀h',Heap.SameBut a s.heap h'->eD w h' a (if xs.contains i then xs else xs++[i])->Q .none { s with heap:=h',toks:=s.toks+1 }):wpAny (model prog w) A (call (.builtin "set.add") [.ref a,.int i t]) Q E s:=by
 refine wpAny_call_entry F.slot_set_add X.typeIs F.entry_set_add ?_ (F.args_set_add_2 _ _);delta Builtin.«set.add» Builtin.Frozenset.oneOther;simp only[List.isEmpty_nil,bind_assoc];delta Builtin.Frozenset.addrOf setAdd;refine wpAny_bind (wpAny_pure ?_)
 try dsimp only
 refine wpAny_bind (wpAny_pure ?_)
 try dsimp only
 refine wpAny_bind (wpAny_holding (wpAny_bind ((intKind prog w).pyHash (k:=i) (by simp[intKind,Value.isInt]) ?_)));refine qI (s:={ s with toks:=s.toks+1 }) X hroom λ b h' hsb hS=>?_;show wpAny _ _ (ret Value.none) _ _ _;exact wpAny_pure ⟨_,rfl,h h' hsb hS⟩
theorem y7{Φ:Or}{m:Str}{l:Nat}{xs xs₂:List Int}{vs:List V}{ι₁:Loc}{ov:Value}{s₁:Shared}(S:SR prog w hB C J ι₁ σ₁ s₁.heap)(rv:VR w J ι₁ σ₁ s₁.heap ov (.o l))(hn:σ₁[l]?=some (.set xs))(hn₂:σ₂[l]?=some (.set xs₂))
  (e:gM Φ m (.o l) vs σ₂=some (r,σ')):MtS prog w hB C A m ov (.o l) vs s₁ σ₂ r σ':=by
 obtain⟨rfl,hl⟩:=rv;have q1:eD w s₁.heap (ι₁ l).1 xs:=S.node l _ hn
 replace e:=(g8 hn₂).symm.trans e
 by_cases hm:m="add"
 ·replace e:=iX ((if_pos hm).symm.trans e)
  cases e with
  |mk y e=>
   obtain⟨i,ei,e⟩:=bd1 e;by_cases hz:xs₂.length<4000
   ·cases(if_pos hz).symm.trans e;subst hm;obtain rfl:=aS ei;refine⟨_,λ pl Q E h=>getMethod_builtin q1.typeIs F.plainAttrs_set F.slot_set_add F.type_set_add q1.noDict h,.inl ⟨_,rfl⟩,λ J' ι s vals Q E S' R h=>?_⟩;obtain⟨u,v,rfl,⟨rfl,_⟩,rv'⟩:=R.inv2;obtain⟨t,rfl⟩:=aH rv';refine pV (S'.node l _ hn₂) hz λ h' hsb hS=>?_;have hk2:∀b o,b≠(ι l).1->b≠(ι l).2->s.heap.get? b=some o->h'.get? b=some o:=λ b o h1 _ ho=>hsb.extBut b o h1 ho;exact h _ _ ι ⟨⟨rfl,GX.refl _⟩,Evo.set hn₂ rfl hk2,S'.set hn₂ rfl hk2 hS (λ _=>S'.two l _ hn₂ rfl)⟩ RD.none
   ·exact no ((if_neg hz).symm.trans e)
 ·exact no ((if_neg hm).symm.trans e)
end
end Mine.Internal
end
section
namespace Mine.Internal
open PySem PyProof.Rows
section
variable{J:Addr->Prop}{A:Around}{env:Env}
variable{ρ:ah}{σ σ₁ σ₂ σ₃ σ':aa}{r:V}{k:Nat}{ι:Loc}{s:Shared}{E:Value->Shared->Prop}
noncomputable abbrev bK(w:World):Obj:={ cls:=.type "set",dict:=none,data:=.set #[] 0 (.fresh 0 0 (!(w.params.followText "set-order"))) }
theorem mE{Q₁:Value->Shared->Prop}(h:Q₁ (.ref s.heap.objs.size) { s with heap:=s.heap.push (bK w) }) :
  codeAny (model prog w) A (.call (.builtin "set.__new__") ⟨[.type "set"],[]⟩) (wants Q₁ E) s:=by
 refine codeAny_of_tree ?_;show wpAny _ A.in1 (do checkBuiltinCall "set.__new__" ⟨[.type "set"],[]⟩;again (.builtin "set.__new__" ⟨[.type "set"],[]⟩)) _ _ s;refine wpAny_bind (wpAny_of_eq F.newCall_set_0 (wpAny_pure ⟨plainId_quiet F.plain_set_new _,codeAny_builtin F.entry_set_new ?_⟩));rw[Around.under_plainId F.plain_set_new _];delta Builtin.«set.__new__» Builtin.Frozenset.newClass;have hsub:=sub_set_self;obtain⟨hp,g,d,tk,os⟩:=s;dsimp only
 wp_walk
 refine wpAny_askSetting (wpAny_pure ?_);dsimp only;simp only[newObj];refine wpAny_bind (wpAny_alloc (wpAny_pure ?_));exact wpAny_pure h
end
section
namespace call_set_led_e
noncomputable section
def P(A:Around)(s:Shared)(E:Value->Shared->Prop)(Q:Value->Shared->Prop):Prop:=∀(h:Q (.ref s.heap.objs.size) { s with heap:=s.heap.push (bK w) }),wpAny (model prog w) A (call (.type "set") []) Q E s
def x:(Around)×(Shared)×(Value->Shared->Prop)×(Value->Shared->Prop):=@Classical.epsilon _ ⟨({},{},default,default)⟩ λ x=>¬P x.1 x.2.1 x.2.2.1 x.2.2.2
def A:Around:=x.1
def s:Shared:=x.2.1
def E:Value->Shared->Prop:=x.2.2.1
def Q:Value->Shared->Prop:=x.2.2.2
set_option maxHeartbeats 1000000 in
set_option maxRecDepth 100000 in
theorem core:P A s E Q:=λ h=>by
 obtain⟨c,tl,hmro⟩:=F.called_set.mro;have hmade:=F.called_set.made;have hsub:=F.called_set.sub;refine wpAny_call (codeAny_of_tree ?_);show wpAny _ _ (callAny (.type "set") _) _ _ _;refine wpAny_pure ⟨Code.quiet_builtin _ (by decide +kernel),codeAny_builtin F.entry_type_call ?_⟩;rw[Around.under_plain (weight_type_call_type "set" [] []) rfl];have h1:=F.called_set.notType;have h2:=F.called_set.canCreate;have hct:=F.typeCall_set_0
 repeat (any_goals (first | assumption | wp_step))
 refine codeAny_mono (mE (E:=E) (Q₁:=λ obj s₁=>obj=.ref s.heap.objs.size/\s₁={ s with heap:=s.heap.push (bK w) }) ⟨rfl,rfl⟩) λ r s₁ hr=>?_;cases r with
 |error e=>exact hr
 |ok fl=>
  cases fl with
  |ret obj=>
   obtain⟨rfl,rfl⟩:=hr;have hS:(s.heap.push (bK w)).get? s.heap.objs.size=some (bK w):=Heap.get?_push_size _ rfl;have hT:Shared.TypeIs { s with heap:=s.heap.push (bK w) } (.ref s.heap.objs.size) "set":=⟨_,hS,rfl⟩;have hli:=F.called_set.init.lookup;have hbi:=F.called_set.init.bind (.ref s.heap.objs.size)
   repeat (any_goals (first | assumption | wp_step))
   refine codeAny_mono (codeAny_call_builtin (R:=wants (λ r s₂=>r=.none/\Q (.ref s.heap.objs.size) s₂) E) F.called_set.init.plain F.entry_set_init (check_set_init hT ?_)) λ r₂ s₂ hr₂=>?_
   ·delta Builtin.«set.__init__» noKeywords
    wp_walk
    exact⟨rfl,h⟩
   ·cases r₂ with
    |error e=>exact hr₂
    |ok fl₂=>
     cases fl₂ with
     |ret r=>
      obtain⟨rfl,hq⟩:=hr₂
      repeat (any_goals (first | assumption | wp_step))
     |_=>exact hr₂.elim
  |_=>exact hr.elim
end
end call_set_led_e
variable{J:Addr->Prop}{A:Around}{env:Env}
variable{ρ:ah}{σ σ₁ σ₂ σ₃ σ':aa}{r:V}{k:Nat}{ι:Loc}{s:Shared}{E:Value->Shared->Prop}
theorem l8{Q:Value->Shared->Prop}(h:Q (.ref s.heap.objs.size) { s with heap:=s.heap.push (bK w) }):wpAny (model prog w) A (call (.type "set") []) Q E s:=aw (Q:=λ x:(Around)×(Shared)×(Value->Shared->Prop)×(Value->Shared->Prop)=>call_set_led_e.P x.1 x.2.1 x.2.2.1 x.2.2.2) call_set_led_e.core (A,s,E,Q) h
theorem eD.new:eD w (s.heap.push (bK w)) s.heap.objs.size []:=
 ⟨bK w,#[],0,_,Heap.get?_push_size _ rfl,⟨rfl,rfl,rfl⟩,rfl,⟨λ e he=>(by cases he),λ i=>⟨λ h=>(by cases h),(by rintro⟨_,h,_⟩;exact(by cases h))⟩,Nat.zero_le _⟩,Nat.zero_le _,rfl,List.Pairwise.nil,rfl⟩
theorem Ai{vs:List V}{Φ:Or}{own:Bool}(e:dZ Φ own "set" vs σ=some (r,σ')):ClS prog w hB C A (.type "set") vs σ r σ':=λ J ι s vals Q E S R h=>by
 refine bC λ k9=>?_;obtain⟨rfl,e⟩:=BI ((if_pos rfl).symm.trans ((if_neg (by decide)).symm.trans ((if_neg (by decide)).symm.trans ((if_neg (by decide)).symm.trans ((if_neg (by decide)).symm.trans ((if_neg (by decide)).symm.trans e))))));cases e;refine k9 ?_;rw[R.bu];have kp:∀b o,s.heap.get? b=some o->(s.heap.push (bK w)).get? b=some o:=λ b o q=>Heap.get?_push_of_some _ q;exact l8 (h _ _ _ ⟨⟨rfl,GX.refl _⟩,Evo.grow (aD _) (aD _) kp,S.grow (aD _) (aD _) kp eD.new (λ _=>rfl)⟩ VR.top)
end
end Mine.Internal
end
section
namespace Mine.Internal
open PySem PyProof.Rows PySem.SeqAt
theorem jJ(l:Addr)(items:Array Value)(n:Nat)(x:Value)(e:Nat->Bool)(j:Nat)(hj:j<items.size)(hit:e j=true)(hno:∀m,m<j->e m=false) :
  Meets (Builtin.«tuple.index» ⟨[.ref l,x],[]⟩)
   (λ A R s=>s.heap.get? l=some { cls:=.type "tuple",dict:=none,data:=.seq items n,slots:=#[] }/\(∀m (hm:m<items.size),m<=j->EqAt A.in1 s items[m] x (e m))/\R (.ok (.ret (.int j s.toks))) { s with toks:=s.toks+1 }):=
 .of_wp λ prog w A R s h=>by
  obtain⟨hp,g,d,tk,os⟩:=s;obtain⟨hl,he,h⟩:=h;unfold Builtin.«tuple.index»;simp only[Std.Legacy.Range.forIn_eq_forIn_range']
  wp_walk using wpAny_loadPart' hl,wpAny_forIn_list _ (λ rest b s'=>b.1=none/\s'=⟨hp,g,d,tk,os⟩/\∃i,i<=j/\rest=List.range' i (items.size-i)) _
  ·rintro y rest b s' ⟨hb,rfl,i,hij,hr⟩;have hlt:i<items.size:=by exact Nat.lt_of_le_of_lt ‹_› ‹_›
   have hc:items.size-i=(items.size-(i+1))+1:=(Nat.succ_pred_eq_of_pos (Nat.sub_pos_of_lt hlt)).symm;rw[hc,List.range'_succ] at hr;obtain⟨rfl,rfl⟩:=List.cons.inj hr;rw[Array.getElem?_eq_getElem hlt];dsimp only;refine wpAny_bind (he y hlt hij prog w _ _ ?_);refine Classical.byCases (p:=y=j) (λ hy=>?_) (λ hy=>?_)
   ·subst hy;rw[hit]
    wp_walk
    exact⟨_,rfl,h⟩
   ·have hl:=Nat.lt_of_le_of_ne hij hy;rw[hno y hl]
    wp_walk
    exact⟨rfl,rfl,y+1,hl,rfl⟩
  ·rintro⟨b1,b2⟩ s' ⟨hb,rfl,i,hij,hr⟩;exfalso;have:(List.range' i (items.size-i)).length=0:=by rw[<-hr];rfl
   rw[List.length_range'] at this;exact Nat.sub_ne_zero_of_lt (Nat.lt_of_le_of_lt hij hj) this
  ·refine⟨rfl,rfl,0,Nat.zero_le _,?_⟩;simp
end Mine.Internal
end
section
namespace Mine.Internal
open PySem PyProof.Rows
section
variable{J:Addr->Prop}{A:Around}{env:Env}
variable{ρ:ah}{σ σ₁ σ₂ σ₃ σ':aa}{a b r:V}{pos:Pos}{k:Nat}{e f:Expr}
theorem qx{d:PyData}{xs:List PyData}{j:Nat}{va vb:Value}{ι:Loc}{s:Shared}{Q:Value->Shared->Prop}{E:Value->Shared->Prop}(hA:AOK A k)(S:SR prog w hB C J ι σ s.heap)(ra:VR w J ι σ s.heap va (.d (.tuple xs)))(rb:VR w J ι σ s.heap vb (.d d))(e:pE d 0 xs=some j)
  (h:∀v t,VR w J ι σ s.heap v (.d (.int j))->Q v { s with toks:=t }):wpAny (model prog w) A (call (.builtin "tuple.index") [va,vb]) Q E s:=by
 obtain⟨l,vs,n,rfl,q1,q2,q3,q4⟩:=RD.aX ra;obtain⟨f,hj,h1,h2,h3⟩:=rU hA q4 rb e;exact call_meets F.slot_tuple_index ⟨_,q1,rfl⟩ F.entry_tuple_index (F.args_tuple_index_2 _ _) (jJ l vs.toArray n vb f j hj h1 h2) ⟨q1,h3,h _ _ (RD.int _ _)⟩
theorem tX{Φ:Or}{m:Str}{xs:List PyData}{vs:List V}{ι₁:Loc}{ov:Value}{s₁:Shared}(hA:AOK A k)(S:SR prog w hB C J ι₁ σ₁ s₁.heap)(rv:VR w J ι₁ σ₁ s₁.heap ov (.d (.tuple xs)))
  (e:gM Φ m (.d (.tuple xs)) vs σ₂=some (r,σ')):MtS prog w hB C A m ov (.d (.tuple xs)) vs s₁ σ₂ r σ':=by
 obtain⟨l,ws,n,rfl,q1,q2,q3,q4⟩:=RD.aX rv;cases mdC e with
 |mk y q=>
  cases q with
  |index x ys j hm hy e1 e2 e3=>
   subst hm;cases e1;cases e3;obtain rfl:=bN hy;refine⟨_,λ pl Q E h=>getMethod_builtin (IsTup.of q1).typeIs F.plainAttrs_tuple F.slot_tuple_index F.type_tuple_index (λ a q=>by cases q;exact⟨_,q1,rfl⟩) h,.inl ⟨_,rfl⟩,λ J' ι s vals Q E S' R h=>?_⟩;obtain⟨u,v,rfl,ru,rv'⟩:=R.inv2;exact qx hA S' ru rv' e2 λ v t r'=>h v _ ι (Goes.tok S' t) r'
  |count x j hm hy e1 e3=>cases x<;>cases e1
end
end Mine.Internal
end
section
namespace Mine.Internal
open PySem PyProof.Rows
structure Wd(prog:Program)(w:World)(hB:Heap)(C N:Addr)(p:Prg)(mg mb mN:Str->Option Value)(Φ:Or)(k:Nat):Prop where
 base:Base hB C N p mg mb mN
 or:Au prog w hB C mg mN Φ k
 gl:Φ.gl=p.gl
 cls:Φ.cls=p.cls
noncomputable def glB(p:Prg)(x:Str):Bool:=(p.gl x).isSome
section
variable{Φ:Or}{k n:Nat}
noncomputable def Good(Φ:Or)(k n:Nat)(e:Expr):Prop:=
 ∀J A env ρ σ x σ',aI env->AOK A k->okE (glB p) n (kd env) e=true->ev Φ e ρ σ=some (x,σ')->EvS prog w hB C J A env e ρ σ x σ'
noncomputable def gm(Φ:Or)(k n:Nat)(e:Expr):Prop:=
 ∀J A env ρ σ b σ',aI env->AOK A k->okE (glB p) n (kd env) e=true->tst Φ e ρ σ (ev Φ e ρ σ)=some (b,σ')->TsS prog w hB C J A env e ρ σ b σ'
variable{J:Addr->Prop}{A:Around}{env:Env}{ρ:ah}{σ σ' σ₁:aa}{e:Expr}
theorem EvS.of{x y:V}(h:some (x,σ₁)=some (y,σ'))(L:EvS prog w hB C J A env e ρ σ x σ₁):EvS prog w hB C J A env e ρ σ y σ':=by cases h;exact L
theorem TsS.of{x y:Bool}(h:some (x,σ₁)=some (y,σ'))(L:TsS prog w hB C J A env e ρ σ x σ₁):TsS prog w hB C J A env e ρ σ y σ':=by cases h;exact L
theorem gA{pos:Pos}(hE:aI env)(hA:AOK A k)(G:∀e,Good Φ k n e):∀(es:List Expr) (σ:aa) (xs:List V) (σ':aa),es.all (okE (glB p) n (kd env))=true->evs Φ es ρ σ=some (xs,σ')->EsS prog w hB C J A env es pos ρ σ xs σ':=by
 intro es
 induction es with
 |nil=>
  intro σ xs σ' _ h;cases h;exact zS
 |cons e es ih=>
  intro σ xs σ' ok h;refine bC λ k9=>?_;obtain⟨v,σ₁,h1,h⟩:=bd2 h;obtain⟨vs,σ₂,h2,h⟩:=bd2 h;cases h;refine k9 ?_;exact xG (sa h1) (G e J A env ρ σ v σ₁ hE hA (aB ok).1 h1) (ih σ₁ vs _ (aB ok).2 h2)
theorem vW{op:BoolOp}(hE:aI env)(hA:AOK A k)(G:∀e,gm Φ k n e):∀(es:List Expr) (σ:aa) (b:Bool) (σ':aa),es.all (okE (glB p) n (kd env))=true->qw Φ op es ρ σ=some (b,σ')->TbS prog w hB C J A env op es ρ σ b σ':=by
 intro es
 induction es with
 |nil=>
  intro σ b σ' _ h;cases h;exact yB
 |cons e es ih=>
  intro σ b σ' ok h;obtain⟨c,σ₁,h1,h⟩:=bd2 h;refine v7 (G e J A env ρ σ c σ₁ hE hA (aB ok).1 h1) ?_;cases op<;>cases c
  ·cases h;exact⟨rfl,rfl⟩
  ·exact ih σ₁ b σ' (aB ok).2 h
  ·exact ih σ₁ b σ' (aB ok).2 h
  ·cases h;exact⟨rfl,rfl⟩
theorem vV(hE:aI env)(hA:AOK A k)(G:∀e,gm Φ k n e):∀(es:List Expr) (σ:aa) (b:Bool) (σ':aa),es.all (okE (glB p) n (kd env))=true->i6 Φ es ρ σ=some (b,σ')->TtS prog w hB C J A env es ρ σ b σ':=by
 intro es
 induction es with
 |nil=>
  intro σ b σ' _ h;cases h;exact yx
 |cons e es ih=>
  intro σ b σ' ok h;obtain⟨c,σ₁,h1,h⟩:=bd2 h;refine vU (G e J A env ρ σ c σ₁ hE hA (aB ok).1 h1) ?_;cases c with
  |true=>exact ih σ₁ b σ' (aB ok).2 h
  |false=>cases h;exact⟨rfl,rfl⟩
theorem zh{x:Str}(h:kd env x=.glo):env.kindOf x=some .globalImplicit:=by
 have K:=kdI env x;rw[h] at K;cases K with | glo q=>exact q
theorem dq{x:Str}(h:lD x=true):(x == ("__debug__":Str))=false:=uV (aB (aB h).1).2
theorem zf{x:Str}(h:own? (kd env) x=true):(env.kindOf x=some .local\/env.kindOf x=some .cell\/env.kindOf x=some .free)/\lD x=true:=by
 refine⟨?_,(aB h).2⟩;have h:(kd env x == .loc || kd env x == .cel)=true:=(aB h).1;have K:=kdI env x;generalize kd env x=κ at K h;cases K with
 |loc q=>exact .inl q
 |cel q=>exact .inr (.inl q)
 |fre q=>exact .inr (.inr q)
 |_=>exact nob h
theorem tQ{x:Str}(h:own? (kd env) x=true):iZ env x=true/\(x == ("__classdict__":Str))=false/\(x == ("__debug__":Str))=false:=by
 refine⟨?_,uV (aB (aB (aB h).2).1).1,dq (aB h).2⟩;unfold iZ;rw[uV (aB (aB h).2).2];have h:(kd env x == .loc || kd env x == .cel)=true:=(aB h).1;show kdM (kd env x)=true;generalize kd env x=κ at h ⊢;cases κ<;>first | rfl | exact nob h
theorem gy{x:Str}(h:(kd env x == Kd.glo)=true):env.kindOf x=some .globalImplicit:=zh (eq_of_beq h)
theorem vG(W:Wd prog w hB C N p mg mb mN Φ k){t it:Expr}{xs:List V}(G:∀m e,m<n->Good Φ k m e)(IH:Good Φ k n it)(hE:aI env)(hA:AOK A k)(ok:okE (glB p) n (kd env) it=true)(hd:rp t it=true)(ht:gk t)
  (h:drw Φ it ρ σ (ev Φ it ρ σ)=some (xs,σ')):ItS prog w hB C J A env t it ρ σ xs σ':=by
 have plain:iK (ev Φ it ρ σ)=some (xs,σ')->ItS prog w hB C J A env t it ρ σ xs σ':=λ h=>by
  refine bC λ k9=>?_;obtain⟨v,σ₁,h1,h⟩:=bd2 h;obtain⟨ys,h2,h⟩:=bd1 h;cases h;refine k9 ?_;cases v with
  |d x=>
   obtain⟨ds,h3,rfl⟩:=Option.map_eq_some_iff.mp h2;exact ud ht hA (IH J A env ρ σ _ _ hE hA ok h1) h3
  |_=>first | exact no h2 | exact nob h2 | cases h2
 cases Ca it with
 |plain q _=>exact plain ((q _ _ _ _).symm.trans h)
 |call f np args q e=>
  subst e;cases n with
  |zero=>exact nob ok
  |succ n=>
   refine Classical.byCases (p:=oc f=true) (λ hf=>?_) (λ hf=>?_)
   ·obtain⟨vs,σ₁,h1,h⟩:=bd2 ((if_pos hf).symm.trans h);refine bC λ k9=>?_;obtain⟨ys,h2,h⟩:=bd1 h;cases h;obtain⟨o,o4⟩:=aB ok;obtain⟨o1,o⟩:=aB o;obtain rfl:=eq_of_beq hf;refine k9 ?_;cases ht with
    |name x p=>exact nob hd
    |tup ts kk p=>exact xe hE (gy o1) (dq (aB o).1) W.base.ng W.base.nb (.inr (W.base.bi _ (.type "enumerate") (by decide))) h1 (gA hE hA (λ e=>G n e (Nat.lt_succ_self n)) args σ vs _ o4 h1) (xU hA h2)
   ·exact plain ((if_neg hf).symm.trans h)
end
end Mine.Internal
end
section
namespace Mine.Internal
open PySem PyProof.Rows
section
variable{Φ:Or}{k n:Nat}
variable{J:Addr->Prop}{A:Around}{env:Env}{ρ:ah}{σ σ':aa}{e:Expr}{pos:Pos}
theorem xE{n:Nd}(hg:∃o,hB.get? mainGlobals=some o)(hn:n=.dcI []\/n=.dcT []):EvS prog w hB C J A env (.Dict [] [] pos) ρ σ (.o σ.length) (σ++[n]):=λ ι s m cm Q E F R S h=>by
 refine wpAny_Dict_empty ?_;have kp:∀b o,s.heap.get? b=some o->(s.heap.push { cls:=.type "dict",data:=.dict #[] }).get? b=some o:=λ b o q=>Heap.get?_push_of_some _ q;have ev:Evo ι σ s.heap (ι.add σ s.heap.objs.size s.heap.objs.size) (σ++[n]) (s.heap.push { cls:=.type "dict",data:=.dict #[] }):=Evo.grow (aD _) (aD _) kp;refine h _ _ _ ⟨⟨rfl,GX.refl _⟩,ev,S.grow (aD _) (aD _) kp ?_ (λ _=>rfl)⟩ VR.top;have hsz:s.heap.objs.size≠sysModules:=λ q=>by
  obtain⟨o,ho⟩:=hg;have:=Heap.lt_size (S.keep _ o ho);rw[q] at this;exact absurd this (by decide)
 rcases hn with rfl | rfl
 ·exact⟨⟨Nat.zero_le _,hsz⟩,[],Heap.DictOf.new s.heap,aA.nil⟩
 ·exact⟨⟨Nat.zero_le _,hsz⟩,[],Heap.DictOfH.new s.heap,(λ x hx=>by cases hx),aA.nil⟩
inductive VkC(σ:aa)(m:Str)(l:Nat)(q:Nat):Prop
 |lst (xs:List V) (hn:σ[l]?=some (.lst xs)) (e:q=1)
 |dcI (kvs:List (Int×V)) (hn:σ[l]?=some (.dcI kvs)) (e:q=3)
 |set (xs:List Int) (hn:σ[l]?=some (.set xs)) (e:q=4)
 |ins (fs:List (Str×V)) (hn:σ[l]?=some (.ins fs)) (ha:dG m fs=none) (e:q=5)
theorem vkC{m:Str}{l q:Nat}(h:vk σ m (.o l)=some q):VkC σ m l q:=by
 have h:vkN m σ[l]?=some q:=h;cases hn:σ[l]? with
 |none=>rw[hn] at h;first | exact no h | exact nob h | cases h
 |some nd=>
  rw[hn] at h;cases nd with
  |lst xs=>cases h;exact .lst xs hn rfl
  |dcI kvs=>cases h;exact .dcI kvs hn rfl
  |set xs=>cases h;exact .set xs hn rfl
  |ins fs=>
   refine Classical.byCases (p:=(dG m fs).isSome=true) (λ ha=>?_) (λ ha=>?_)
   ·exact no ((if_pos ha).symm.trans h)
   ·cases(if_neg ha).symm.trans h;exact .ins fs hn (Option.not_isSome_iff_eq_none.mp ha) rfl
  |_=>first | exact no h | exact nob h | cases h
theorem AV{a r:V}{vs:List V}{m:Str}{q:Nat}{σ₁ σ₂ σ':aa}(W:Wd prog w hB C N p mg mb mN Φ k)(hA:AOK A k)(h1:vk σ₁ m a=some q)(h2:vk σ₂ m a=some q)(e:gM Φ m a vs σ₂=some (r,σ')) :
  ∀ov s₁ ι₁,SR prog w hB C J ι₁ σ₁ s₁.heap->VR w J ι₁ σ₁ s₁.heap ov a->MtS prog w hB C A m ov a vs s₁ σ₂ r σ':=λ ov s₁ ι₁ S rv=>by
 cases a with
 |d x=>
  cases x with
  |list xs=>exact w0 hA S rv e
  |tuple xs=>exact tX hA S rv e
  |_=>first | exact no h1 | exact nob h1 | cases h1
 |o l=>
  cases vkC h1 with
  |lst xs hn e1=>
   subst e1;cases vkC h2 with
   |lst xs₂ hn₂ e2=>exact y8 S rv hn hn₂ e
   |_=>contradiction
  |dcI xs hn e1=>
   subst e1;cases vkC h2 with
   |dcI xs₂ hn₂ e2=>exact Bb S rv hn hn₂ e
   |_=>contradiction
  |set xs hn e1=>
   subst e1;cases vkC h2 with
   |set xs₂ hn₂ e2=>exact y7 S rv hn hn₂ e
   |_=>contradiction
  |ins fs hn ha e1=>
   subst e1;cases vkC h2 with
   |ins fs₂ hn₂ ha₂ e2=>exact y9 W.base W.or hA S rv hn ha hn₂ e
   |_=>contradiction
 |_=>first | exact no h1 | exact nob h1 | cases h1
theorem d9{gl:Str->Bool}{κ:Str->Kd}(h:okE gl n κ e=true):dO e=true:=by
 cases n<;>first | exact nob h | (cases e<;>first | rfl | exact nob h)
theorem lA{gl:Str->Bool}{κ:Str->Kd}{op:CmpOp}(h:okE gl n κ e=true):behindInMarks op e=false:=by
 cases n<;>first | exact nob h | (cases e<;>first | rfl | exact nob h)
theorem j5{κ:Str->Kd}{t:Expr}(h:okT κ t=true):gk t:=by
 cases t<;>first | exact .name _ _ | exact .tup _ _ _ | exact nob h
theorem mW(hp:dM e=true)(G:Good Φ k n e):gm Φ k n e:=λ J A env ρ σ b σ' hE hA ok h=>by
 obtain⟨v,σ₁,h1,h⟩:=bd2 ((qu hp).symm.trans h);obtain⟨c,h2,h⟩:=bd1 h;exact .of h (tn hp (G J A env ρ σ v σ₁ hE hA ok h1) h2)
theorem dD(hp:dM e=true)(G:Good Φ k n e):Good Φ k n e/\gm Φ k n e:=⟨G,mW hp G⟩
theorem vy(hp:dM e=true)(G:∀ρ σ,ev Φ e ρ σ=none):Good Φ k n e/\gm Φ k n e:=dD hp λ J A env ρ σ x σ' _ _ _ h=>no ((G ρ σ).symm.trans h)
theorem xi{c:Const}{kk:Nat}:Good Φ k (n+1) (.Constant c kk pos):=λ J A env ρ σ x σ' hE hA ok h=>by
 cases c with
 |none=>exact .of h xB
 |bool b=>exact .of h (mZ _)
 |int i=>exact .of h (zP _)
 |str z=>exact .of h (vD _ ok)
 |_=>exact no h
inductive RdC(σ:aa)(v x:V)(σ':aa):Prop
 |dr (e1:x=dr σ v) (e2:σ'=σ)
 |fz (d:PyData) (h:frz 8 σ v=some (d,σ')) (e:x=.d d)
theorem rdC{v x:V}(h:rdV Φ pos σ v=some (x,σ')):RdC σ v x σ':=by
 refine Classical.byCases (p:=Φ.frz pos=true) (λ hf=>?_) (λ hf=>?_)
 ·obtain⟨⟨d,σ₁⟩,h1,h2⟩:=Option.map_eq_some_iff.mp ((if_pos hf).symm.trans h);cases h2;exact .fz d h1 rfl
 ·cases(if_neg hf).symm.trans h;exact .dr rfl rfl
theorem zx(W:Wd prog w hB C N p mg mb mN Φ k){y:Str}:Good Φ k (n+1) (.Name y pos):=λ J A env ρ σ x σ' hE hA ok h=>by
 have h:nmN Φ pos σ (ρ y) (Φ.gl y)=some (x,σ'):=h;rw[W.gl] at h;cases hg:p.gl y with
 |some v=>
  obtain⟨o1,o2⟩:=aB ((if_pos (congrArg Option.isSome hg:glB p y=true)).symm.trans ok);rw[hg] at h;exact .of h (xD W.base hE (gy o1) (dq o2) hg)
 |none=>
  have hgb:¬glB p y=true:=λ q=>by rw[glB,hg] at q;cases q
  obtain⟨m1,m2,m3⟩:=tQ ((if_neg hgb).symm.trans ok);rw[hg] at h;obtain⟨v,hρ,h⟩:=bd1 h;cases rdC h with
  |dr e1 e2=>subst e1;subst e2;exact zM hE m1 m2 m3 hρ
  |fz d h1 e=>subst e;exact pN hE m1 m2 m3 hρ h1
theorem yR(G:∀e,Good Φ k n e)(hE:aI env)(hA:AOK A k){o:Option Expr}{i:Option Int}(ho:o.all (okE (glB p) n (kd env))=true)(hv:evo Φ o ρ σ=some (i,σ')):PtS prog w hB C J A env o ρ σ i σ':=by
 cases o with
 |none=>cases hv;exact wD
 |some e'=>
  refine bC λ k9=>?_;obtain⟨v,σc,g1,hv⟩:=bd2 hv;obtain⟨j,g2,hv⟩:=bd1 hv;cases hv;obtain rfl:=aS g2;refine k9 ?_;exact wC (G e' J A env ρ σ _ _ hE hA ho g1)
theorem Bk(G:∀e,Good Φ k n e){c i:Expr}:Good Φ k (n+1) (.Subscript c i pos):=λ J A env ρ σ x σ' hE hA ok h=>by
 obtain⟨o1,o2⟩:=aB ok;refine Classical.byCases (p:=gU i=true) (λ hs=>?_) (λ hs=>?_)
 ·obtain⟨a,σ₁,h1,h⟩:=bd2 ((xA hs).symm.trans h);obtain⟨b,σ₂,h2,h⟩:=bd2 h;obtain⟨r,h3,h⟩:=bd1 h;have o2:okE (glB p) n (kd env) i=true:=by cases i<;>first | exact o2 | exact nob hs
  exact .of h (aj hA (G c J A env ρ σ a σ₁ hE hA o1 h1) (G i J A env ρ σ₁ b σ₂ hE hA o2 h2) h3)
 ·cases i with
  |Slice lo hi st q=>
   cases st with
   |some z=>exact nob o2
   |none=>
    refine bC λ k9=>?_;obtain⟨a,σ₁,h1,h⟩:=bd2 h;obtain⟨l,σ₂,h2,h⟩:=bd2 h;obtain⟨u,σ₃,h3,h⟩:=bd2 h;obtain⟨d,h4,h⟩:=bd1 h;obtain⟨d',h5,h6⟩:=bd1 h;obtain rfl:=bN h4;refine k9 ?_;exact .of h6 (uy (G c J A env ρ σ _ σ₁ hE hA o1 h1) (yR G hE hA (aB o2).1 h2) (yR G hE hA (aB o2).2 h3) h5)
  |_=>exact absurd rfl hs
inductive BM(Φ:Or)(J:Addr->Prop)(A:Around)(env:Env)(elt:Expr)(gens:List Comprehension)(scope:Scope)(ρ:ah)(σ:aa)(r:V)(σ':aa):Prop
 |mk (t it:Expr) (ifs:List Expr) (xs vs:List V) (own:Bool) (σ₁ σ₂:aa) (e:gens=[⟨t,it,ifs,0⟩]) (X:u6 (kd env) t scope) (hT:okT (kds scope.names) t=true) (hset:dO it=true) (hIt:ItS prog w hB C J A env t it ρ σ xs σ₁)
  (hc:eU (λ x=>aQ t x ρ) (λ ρ σ=>i6 Φ ifs ρ σ) (λ ρ σ=>ev Φ elt ρ σ) xs σ₁=some (vs,σ₂)) (hm:cF own vs σ₂=some (r,σ'))
  (hEl:∀J' ce,aI ce->(∀x,kd ce x=kds scope.names x)->∀ρ' σa v σb,ev Φ elt ρ' σa=some (v,σb)->EvS prog w hB C J' A ce elt ρ' σa v σb)
  (hTs:∀J' ce,aI ce->(∀x,kd ce x=kds scope.names x)->∀ρ' σa b σb,i6 Φ ifs ρ' σa=some (b,σb)->TtS prog w hB C J' A ce ifs ρ' σa b σb)
theorem jA(W:Wd prog w hB C N p mg mb mN Φ k)(G:∀m e,m<=n->Good Φ k m e/\gm Φ k m e){elt:Expr}{gens:List Comprehension}{scope:Scope}{r:V}(hE:aI env)(hA:AOK A k)(ok:okE (glB p) (n+1) (kd env) (.ListComp elt gens scope pos)=true)(h:ev Φ (.ListComp elt gens scope pos) ρ σ=some (r,σ')) :
  BM Φ J A env elt gens scope ρ σ r σ':=match gens,ok,h with
 |[⟨t,it,ifs,0⟩],ok,h=>by
  refine bC λ k9=>?_;obtain⟨xs,σ₁,h1,h⟩:=bd2 h;obtain⟨vs,σ₂,h2,h3⟩:=bd2 h;obtain⟨o1,ok⟩:=aB ok;obtain⟨o2,ok⟩:=aB ok;obtain⟨o3,ok⟩:=aB ok;obtain⟨o4,ok⟩:=aB ok;refine k9 ?_;refine⟨t,it,ifs,xs,vs,_,σ₁,σ₂,rfl,u6.of o3,o4,d9 o1,vG W (λ m e hm=>(G m e (Nat.le_of_lt hm)).1) (G n it (Nat.le_refl n)).1 hE hA o1 o2 (j5 o4) h1,h2,h3,λ J' ce hE' hk ρ' σa v σb hv=>?_,λ J' ce hE' hk ρ' σa b σb hv=>?_⟩
  ·exact(G n elt (Nat.le_refl n)).1 J' A ce ρ' σa v σb hE' hA (funext hk▸(aB ok).1) hv
  ·exact vV hE' hA (λ e=>(G n e (Nat.le_refl n)).2) ifs σa b σb (funext hk▸(aB ok).2) hv
theorem zy(W:Wd prog w hB C N p mg mb mN Φ k)(G:∀m e,m<=n->Good Φ k m e/\gm Φ k m e){elt:Expr}{gens:List Comprehension}{scope:Scope}:Good Φ k (n+1) (.ListComp elt gens scope pos):=λ J A env ρ σ x σ' hE hA ok h=>by
 obtain⟨t,it,ifs,xs,vs,own,σ₁,σ₂,rfl,X,hT,hset,hIt,hc,hm,hEl,hTs⟩:=jA (J:=J) W G hE hA ok h;exact dY hE hA X hT hset hIt hc hm hEl hTs
theorem zA(W:Wd prog w hB C N p mg mb mN Φ k)(G:∀e,Good Φ k n e){o:Expr}{m:Str}:Good Φ k (n+1) (.Attribute o m pos):=λ J A env ρ σ x σ' hE hA ok h=>by
 obtain⟨a,σ₁,h1,h⟩:=bd2 h;obtain⟨o1,ok⟩:=aB ok;have hnm:isName o=true:=by cases o<;>first | rfl | exact nob o1
 cases a with
 |o l=>
  have h:atN Φ m pos σ₁ σ₁[l]?=some (x,σ'):=h;cases hl:σ₁[l]? with
  |none=>rw[hl] at h;first | exact no h | exact nob h | cases h
  |some nd=>
   rw[hl] at h;cases nd with
   |ins fs=>
    obtain⟨v,h3,h⟩:=bd1 h;refine xF W.base hnm (List.contains_iff_mem.mp (aB ok).1) (G o J A env ρ σ _ σ₁ hE hA (aB ok).2 h1) hl h3 ?_;cases rdC h with
    |dr e1 e2=>exact .inl ⟨e1,e2⟩
    |fz d g1 e=>exact .inr ⟨d,g1,e⟩
   |_=>first | exact no h | exact nob h | cases h
 |_=>exact no h
theorem zz(W:Wd prog w hB C N p mg mb mN Φ k)(G:∀e,Good Φ k n e){fn:Expr}{args:List Expr}{kws:List Keyword}:Good Φ k (n+1) (.Call fn args kws pos):=λ J A env ρ σ x σ' hE hA ok h=>by
 cases kws with
 |cons a b=>exact nob ok
 |nil=>
  obtain⟨ok,o5⟩:=aB ok;cases fn with
  |Attribute o m ap=>
   refine bC λ k9=>?_;obtain⟨a,σ₁,h1,h⟩:=bd2 h;obtain⟨kq,h2,h⟩:=bd1 h;obtain⟨vs,σ₂,h3,h⟩:=bd2 h;obtain⟨o1,ok⟩:=aB ok;obtain⟨o2,ok⟩:=aB ok;refine k9 ?_;by_cases h5:vk σ₂ m a=some kq
   ·exact cZ o1 o2 (of_decide_eq_true (aB ok).1) (G o J A env ρ σ a σ₁ hE hA (aB ok).2 h1) h3 (gA hE hA G args σ₁ vs σ₂ o5 h3) (AV W hA h2 h5 ((if_pos h5).symm.trans h))
   ·exact no ((if_neg h5).symm.trans h)
  |Name f np=>
   obtain⟨vs,σ₁,h1,h2⟩:=bd2 h;obtain⟨o1,ok⟩:=aB ok;obtain⟨o2,ok⟩:=aB ok;have Es:EsS prog w hB C J A env args pos ρ σ vs σ₁:=gA hE hA G args σ vs σ₁ o5 h1;by_cases hset:f="set"
   ·subst hset;exact aq hE (gy o1) (dq o2) W.base.ng W.base.nb (.inr (W.base.bi _ (.type "set") (by decide))) h1 (.type _) (λ q=>by cases q) Es (Ai h2)
   ·obtain⟨fv,g1,g2,g3⟩:=uT W.base W.or W.cls hA hset h2;refine aq hE (gy o1) (dq o2) W.base.ng W.base.nb g1 h1 g2 (λ _ q=>?_) Es g3;subst q;exact hset (eq_of_beq (aB ok).2)
  |_=>exact nob ok
theorem Bl(G:∀e,Good Φ k n e){l:Expr}{ops:List CmpOp}{rs:List Expr}:Good Φ k (n+1) (.Compare l ops rs pos)/\gm Φ k (n+1) (.Compare l ops rs pos):=match ops,rs with
 |[op],[r]=>by
  refine⟨λ J A env ρ σ x σ' hE hA ok h=>?_,λ J A env ρ σ c σ' hE hA ok h=>?_⟩
  ·obtain⟨a,σ₁,h1,h⟩:=bd2 h;refine bC λ k9=>?_;obtain⟨b,σ₂,h2,h⟩:=bd2 h;obtain⟨c,h3,h⟩:=bd1 h;obtain⟨o1,o2⟩:=aB ok;have o2:=(aB o2).1;refine k9 ?_;exact .of h (ao hA (lA o2) (G l J A env ρ σ a σ₁ hE hA o1 h1) (G r J A env ρ σ₁ b _ hE hA o2 h2) h3)
  ·obtain⟨v,σ₃,h0,h⟩:=bd2 h;refine bC λ k9=>?_;obtain⟨a,σ₁,h1,h0⟩:=bd2 h0;obtain⟨b,σ₂,h2,h0⟩:=bd2 h0;obtain⟨c',h3,h0⟩:=bd1 h0;cases h0;obtain⟨o1,o2⟩:=aB ok;have o2:=(aB o2).1;refine k9 ?_;exact .of h (yz hA (lA o2) (G l J A env ρ σ a σ₁ hE hA o1 h1) (G r J A env ρ σ₁ b _ hE hA o2 h2) h3)
 |[],_=>⟨λ _ _ _ _ _ _ _ _ _ _ h=>no h,λ _ _ _ _ _ _ _ _ _ _ h=>no h⟩
 |_::_::_,_=>⟨λ _ _ _ _ _ _ _ _ _ _ h=>no h,λ _ _ _ _ _ _ _ _ _ _ h=>no h⟩
 |[_],[]=>⟨λ _ _ _ _ _ _ _ _ _ _ h=>no h,λ _ _ _ _ _ _ _ _ _ _ h=>no h⟩
 |[_],_::_::_=>⟨λ _ _ _ _ _ _ _ _ _ _ h=>no h,λ _ _ _ _ _ _ _ _ _ _ h=>no h⟩
theorem zw(G:∀e,Good Φ k n e/\gm Φ k n e){op:UnaryOp}{x:Expr}:Good Φ k (n+1) (.UnaryOp op x pos)/\gm Φ k (n+1) (.UnaryOp op x pos):=by
 cases op with
 |USub=>
  refine dD rfl λ J A env ρ σ r σ' hE hA ok h=>?_;obtain⟨a,σ₁,h1,h⟩:=bd2 h;obtain⟨i,h2,h⟩:=bd1 h;obtain rfl:=aS h2;exact .of h (zO ((G x).1 J A env ρ σ _ _ hE hA ok h1))
 |Not=>
  refine⟨λ J A env ρ σ r σ' hE hA ok h=>?_,λ J A env ρ σ r σ' hE hA ok h=>?_⟩
  ·obtain⟨a,σ₁,h1,h⟩:=bd2 h;obtain⟨b,h2,h⟩:=bd1 h;exact .of h (zN ((G x).1 J A env ρ σ a _ hE hA ok h1) h2)
  ·obtain⟨c,σ₁,h1,h⟩:=bd2 h;exact .of h (yy ((G x).2 J A env ρ σ c _ hE hA ok h1))
 |_=>exact vy rfl λ _ _=>rfl
theorem pP(W:Wd prog w hB C N p mg mb mN Φ k)(n:Nat)(e:Expr):Good Φ k n e/\gm Φ k n e:=by
 induction n using Nat.strongRecOn generalizing e with
 |ind n ih=>
  cases n with
  |zero=>exact⟨λ J A env ρ σ x σ' hE hA ok h=>nob ok,λ J A env ρ σ x σ' hE hA ok h=>nob ok⟩
  |succ n=>
   have G:∀e,Good Φ k n e/\gm Φ k n e:=ih n (Nat.lt_succ_self n);have G1:∀e,Good Φ k n e:=λ e=>(G e).1;cases e with
   |Constant c kk q=>exact dD rfl xi
   |Name y q=>exact dD rfl (zx W)
   |BinOp l op r q=>
    refine dD rfl λ J A env ρ σ x σ' hE hA ok h=>?_;refine bC λ k9=>?_;obtain⟨a,σ₁,h1,h⟩:=bd2 h;obtain⟨b,σ₂,h2,h3⟩:=bd2 h;refine k9 ?_;exact aK (G1 l J A env ρ σ a σ₁ hE hA (aB ok).1 h1) (G1 r J A env ρ σ₁ b σ₂ hE hA (aB ok).2 h2) h3
   |UnaryOp op x q=>exact zw G
   |BoolOp op es q=>exact⟨λ J A env ρ σ x σ' hE hA ok h=>no h,λ J A env ρ σ b σ' hE hA ok h=>vY (vW hE hA (λ e=>(G e).2) es σ b σ' ok h)⟩
   |IfExp t b o q=>exact⟨λ J A env ρ σ x σ' hE hA ok h=>no h,λ J A env ρ σ b' σ' hE hA ok h=>no h⟩
   |Compare l ops rs q=>exact Bl G1
   |Subscript c i q=>exact dD rfl (Bk G1)
   |Tuple es kk q=>
    refine dD rfl λ J A env ρ σ x σ' hE hA ok h=>?_;refine bC λ k9=>?_;obtain⟨vs,σ₁,h1,h⟩:=bd2 h;obtain⟨ds,h2,h3⟩:=bd1 h;have hl:=sg es σ vs _ h1;obtain rfl:=fq h2;refine k9 ?_;exact .of h3 (ux (of_decide_eq_true (aB ok).1) (List.length_map (f:=V.d)▸hl) (gA hE hA G1 es σ _ _ (aB ok).2 h1))
   |List es q=>
    refine dD rfl λ J A env ρ σ x σ' hE hA ok h=>?_;obtain⟨vs,σ₁,h1,h2⟩:=bd2 h;exact xC (of_decide_eq_true (aB ok).1) (sg es σ vs _ h1) (gA hE hA G1 es σ _ _ (aB ok).2 h1) h2
   |Dict ks vs q=>
    refine dD rfl λ J A env ρ σ x σ' hE hA ok h=>?_;cases ks with
    |cons a b=>exact no h
    |nil=>
     cases vs with
     |cons a b=>exact no h
     |nil=>
      refine .of h (xE ((by obtain⟨o,_,_,h,_⟩:=W.base.ng;exact⟨o,h⟩)) ?_);by_cases hw:Φ.own q=true
      ·exact .inr (if_pos hw)
      ·exact .inl (if_neg hw)
   |ListComp elt gens scope q=>exact dD rfl (zy W λ m e hm=>ih m (Nat.lt_succ_of_le hm) e)
   |Attribute o m q=>exact dD rfl (zA W G1)
   |Call fn args kws q=>exact dD rfl (zz W G1)
   |_=>exact vy rfl λ _ _=>rfl
end
end Mine.Internal
end
section
namespace Mine.Internal
open PySem PyProof.Rows
noncomputable def FA(env:Env)(b:Addr):Prop:=b=env.locals\/∃n,env.cells.lookup n=some b
structure iY(Y:Addr->Prop)(ι:Loc)(σ:aa)(h:Heap)(ι':Loc)(σ':aa)(h':Heap):Prop where
 len:σ.length<=σ'.length
 ag:∀l,l<σ.length->ι' l=ι l
 own:∀b,¬Y b->Own ι' σ' b->Own ι σ b\/h.get? b=none
 kp:∀b o,¬Own ι σ b->¬Y b->h.get? b=some o->h'.get? b=some o
section
variable{J Y:Addr->Prop}{A:Around}{env:Env}
variable{ι ι' ι'':Loc}{σ σ' σ'':aa}{h h' h'':Heap}{v:Value}{x:V}
theorem Evo.toF(e:Evo ι σ h ι' σ' h'):iY Y ι σ h ι' σ' h':=⟨e.len,e.ag,λ b _ q=>e.own b q,λ b o h1 _ q=>e.kp b o h1 q⟩
theorem iY.refl:iY Y ι σ h ι σ h:=Evo.refl.toF
theorem iY.trans(a:iY Y ι σ h ι' σ' h')(b:iY Y ι' σ' h' ι'' σ'' h''):iY Y ι σ h ι'' σ'' h'' where
 len:=Nat.le_trans a.len b.len
 ag:=λ l hl=>(b.ag l (Nat.lt_of_lt_of_le hl a.len)).trans (a.ag l hl)
 own:=λ c hY x=>by
  rcases b.own c hY x with y | y
  ·exact a.own c hY y
  ·refine Classical.byCases (p:=Own ι σ c) (λ hc=>?_) (λ hc=>?_)
   ·exact .inl hc
   ·cases e:h.get? c with
    |none=>exact .inr rfl
    |some o=>rw[a.kp c o hc hY e] at y;cases y
 kp:=λ c o hc hY e=>b.kp c o (λ y=>by
  rcases a.own c hY y with y | y
  ·exact hc y
  ·rw[e] at y;cases y) hY (a.kp c o hc hY e)
theorem iY.ex{b:Addr}{o:Obj}(e:iY Y ι σ h ι' σ' h')(hY:∀b,Y b->J b)(hb:¬Ex J ι σ b)(q:h.get? b=some o):¬Ex J ι' σ' b:=λ y=>by
 rcases y with y | y
 ·exact hb (.inl y)
 ·rcases e.own b (λ z=>hb (.inl (hY b z))) y with z | z
  ·exact hb (.inr z)
  ·rw[q] at z;first | exact no z | exact nob z | cases z
theorem iY.kpx{b:Addr}{o:Obj}(e:iY Y ι σ h ι' σ' h')(hY:∀b,Y b->J b)(hb:¬Ex J ι σ b)(q:h.get? b=some o):h'.get? b=some o:=
 e.kp b o (λ z=>hb (.inr z)) (λ z=>hb (.inl (hY b z))) q
theorem iY.mv(e:iY Y ι σ h ι' σ' h')(hY:∀b,Y b->J b):Mv J ι σ h J ι' σ' h':=⟨λ b o hb q=>e.kpx hY hb q,λ b o hb q=>e.ex hY hb q,λ l hl=>⟨e.ag l hl,Nat.lt_of_lt_of_le hl e.len⟩⟩
theorem RD.Bt{d:PyData}(r:RD (Ex J ι σ) h v d)(e:iY Y ι σ h ι' σ' h')(hY:∀b,Y b->J b):RD (Ex J ι' σ') h' v d:=r.mv (e.mv hY)
theorem VR.Bt(r:VR w J ι σ h v x)(e:iY Y ι σ h ι' σ' h')(hY:∀b,Y b->J b):VR w J ι' σ' h' v x:=r.mv (e.mv hY)
theorem FR.fa{m cm:Str->Option Value}(F:FR J env m cm h):∀b,FA env b->J b:=λ b hb=>by
 rcases hb with q | ⟨n,q⟩
 ·rw[q];exact F.jL
 ·exact(F.cell n b q).2.1
end
section
variable(prog:Program)(w:World)(hB:Heap)(C:Addr)(J:Addr->Prop)
structure dk(Y:Addr->Prop)(s:Shared)(ι:Loc)(σ:aa)(s':Shared)(ι':Loc)(σ':aa):Prop where
 same:Shr s s'
 evo:iY Y ι σ s.heap ι' σ' s'.heap
 sr:SR prog w hB C J ι' σ' s'.heap
noncomputable def FlR(ι:Loc)(σ:aa)(h:Heap)(fl:Flow):Out->Prop
 |.nx=>fl=.next
 |.br=>fl=.brk
 |.ct=>fl=.cont
 |.rt v=>∃u,fl=.ret u/\VR w J ι σ h u v
 |.ex=>False
structure Rz(s s':Shared)(ι':Loc)(σ':aa)(ea:Addr):Prop where
 obj:∃oe vs a0,s'.heap.get? ea=some oe/\oe.cls=.type "ValueError"/\oe.data=.fields vs/\vs[0]?=some a0/\vs[1]?=some .none
 new:s.heap.get? ea=none
 out:¬Ex J ι' σ' ea
noncomputable def XS(A:Around)(env:Env)(run:Sem Flow)(ρ:ah)(σ:aa)(o:Out)(ρ':ah)(σ':aa):Prop:=
 ∀(ι:Loc) (s:Shared) (m cm:Str->Option Value) (Q:Flow->Shared->Prop) (E:Value->Shared->Prop),FR J env m cm s.heap->ER w J ι σ env m cm s.heap ρ->SR prog w hB C J ι σ s.heap->
  (∀fl s' ι' m' cm',dk prog w hB C J (FA env) s ι σ s' ι' σ'->FR J env m' cm' s'.heap->ER w J ι' σ' env m' cm' s'.heap ρ'->FlR w J ι' σ' s'.heap fl o->Q fl s')->
  (∀ea s' ι',o=.ex->dk prog w hB C J (FA env) s ι σ s' ι' σ'->Rz J s s' ι' σ' ea->(∃m',s'.heap.Ns env.locals m')->E (.ref ea) s')->wpAny (model prog w) A run Q E s
end
section
variable{J Y:Addr->Prop}{A:Around}{env:Env}
variable{ρ ρ' ρ₁:ah}{σ σ' σ₁ σ₂:aa}{s s' s'':Shared}{ι ι' ι'':Loc}{e f:Expr}{pos:Pos}{k:Nat}{o:Out}
theorem Goes.toF(g:Goes prog w hB C J s ι σ s' ι' σ'):dk prog w hB C J Y s ι σ s' ι' σ':=⟨g.same,g.evo.toF,g.sr⟩
theorem dk.trans{σ'':aa}(a:dk prog w hB C J Y s ι σ s' ι' σ')(b:dk prog w hB C J Y s' ι' σ' s'' ι'' σ''):dk prog w hB C J Y s ι σ s'' ι'' σ'':=⟨a.same.trans b.same,a.evo.trans b.evo,b.sr⟩
theorem dk.refl(S:SR prog w hB C J ι σ s.heap):dk prog w hB C J Y s ι σ s ι σ:=(Goes.refl S).toF
theorem Rz.from{ea:Addr}{σ'':aa}{m cm:Str->Option Value}(hY:∀b,Y b->J b)(a:dk prog w hB C J Y s ι σ s' ι' σ')(S:SR prog w hB C J ι σ s.heap)(r:Rz J s' s'' ι'' σ'' ea):Rz J s s'' ι'' σ'' ea:=by
 refine⟨r.obj,?_,r.out⟩;cases q:s.heap.get? ea with
 |none=>rfl
 |some ob=>
  exfalso;have hn:=r.new;by_cases ho:Own ι σ ea
  ·obtain⟨l,n,e1,e2,e3⟩:=ho;have hl:l<σ.length:=(List.getElem?_eq_some_iff.mp e1).1;have hl':l<σ'.length:=Nat.lt_of_lt_of_le hl a.evo.len;have e4:σ'[l]?=some σ'[l]:=List.getElem?_eq_getElem hl';have hι:=a.evo.ag l hl;have N':=a.sr.node l _ e4;rcases e3 with e3 | e3
   ·obtain⟨o',ho'⟩:=N'.got;rw[hι,<-e3,hn] at ho';cases ho'
   ·obtain⟨o',ho'⟩:=N'.AO (a.sr.two l _ e4);rw[hι,<-e3,hn] at ho';cases ho'
  ·by_cases hy:Y ea
   ·exact r.out (.inl (hY ea hy))
   ·rw[a.evo.kp ea ob ho hy q] at hn;cases hn
theorem ER.Bt{m cm:Str->Option Value}{h h':Heap}(R:ER w J ι σ env m cm h ρ)(e:iY Y ι σ h ι' σ' h')(hY:∀b,Y b->J b):ER w J ι' σ' env m cm h' ρ:=λ x v' hx hm=>by
 obtain⟨v,h1,h2⟩:=R x v' hx hm;exact⟨v,h1,h2.Bt e hY⟩
theorem u9:XS prog w hB C J A env (execs [] env) ρ σ .nx ρ σ:=λ ι s m cm Q E F R S h _=>wpAny_execs_nil (h .next s ι m cm (dk.refl S) F R rfl)
theorem qn{st:Stmt}{rest:List Stmt}(L:XS prog w hB C J A env (exec st env) ρ σ .nx ρ₁ σ₁)(R:XS prog w hB C J A env (execs rest env) ρ₁ σ₁ o ρ' σ'):XS prog w hB C J A env (execs (st::rest) env) ρ σ o ρ' σ':=
 λ ι s m cm Q E F Re S h he=>by
  refine wpAny_execs_cons (L ι s m cm _ _ F Re S (λ fl s₁ ι₁ m₁ cm₁ g F₁ R₁ hf=>?_) (λ ea s' ι' q=>by cases q));have hf':fl=.next:=hf;subst hf';exact R ι₁ s₁ m₁ cm₁ _ _ F₁ R₁ g.sr (λ fl s₂ ι₂ m₂ cm₂ g₂ F₂ R₂ hf₂=>h fl s₂ ι₂ m₂ cm₂ (g.trans g₂) F₂ R₂ hf₂) (λ ea s' ι' q g₂ rz ns=>he ea s' ι' q (g.trans g₂) (Rz.from (m:=m) (cm:=cm) F.fa g S rz) ns)
theorem vM{st:Stmt}{rest:List Stmt}(hn:o≠.nx)(L:XS prog w hB C J A env (exec st env) ρ σ o ρ' σ'):XS prog w hB C J A env (execs (st::rest) env) ρ σ o ρ' σ':=
 λ ι s m cm Q E F Re S h he=>by
  refine wpAny_execs_cons (L ι s m cm _ _ F Re S (λ fl s₁ ι₁ m₁ cm₁ g F₁ R₁ hf=>?_) he);have hfl:fl≠.next:=λ q=>by
   refine bC λ k9=>?_;subst q;refine k9 ?_;cases o with
   |nx=>exact hn rfl
   |br=>simp[FlR] at hf
   |ct=>simp[FlR] at hf
   |ex=>simp[FlR] at hf
   |rt v=>obtain⟨u,q,_⟩:=hf;cases q
  cases fl with
  |next=>exact absurd rfl hfl
  |_=>exact h _ s₁ ι₁ m₁ cm₁ g F₁ R₁ hf
theorem AR{t:Expr}{b els:List Stmt}{c:Bool}(T:TsS prog w hB C J A env t ρ σ c σ₁)(L:c=true->XS prog w hB C J A env (execs b env) ρ σ₁ o ρ' σ')(R:c=false->XS prog w hB C J A env (execs els env) ρ σ₁ o ρ' σ') :
  XS prog w hB C J A env (exec (.If t b els pos) env) ρ σ o ρ' σ':=λ ι s m cm Q E F Re S h he=>by
 refine wpAny_If (T ι s m cm _ _ F Re S λ s₁ ι₁ g=>?_);have hh:=λ fl s₂ ι₂ m₂ cm₂ (g₂:dk prog w hB C J (FA env) s₁ ι₁ σ₁ s₂ ι₂ σ') F₂ R₂ hf=>h fl s₂ ι₂ m₂ cm₂ (g.toF.trans g₂) F₂ R₂ hf;have hx:=λ ea s' ι' q (g₂:dk prog w hB C J (FA env) s₁ ι₁ σ₁ s' ι' σ') rz ns=>he ea s' ι' q (g.toF.trans g₂) (Rz.from (m:=m) (cm:=cm) F.fa g.toF S rz) ns;cases c with
 |true=>exact L rfl ι₁ s₁ m cm _ _ (F.evo S g.evo) (Re.evo g.evo) g.sr hh hx
 |false=>exact R rfl ι₁ s₁ m cm _ _ (F.evo S g.evo) (Re.evo g.evo) g.sr hh hx
theorem tc:XS prog w hB C J A env (exec (.Break pos) env) ρ σ .br ρ σ:=λ ι s m cm Q E F R S h _=>by
 rw[arm_exec_Break];exact wpAny_bind (wpAny_standAt (wpAny_pure (h _ s ι m cm (dk.refl S) F R rfl)))
theorem mx:XS prog w hB C J A env (exec (.Continue pos) env) ρ σ .ct ρ σ:=λ ι s m cm Q E F R S h _=>by
 rw[arm_exec_Continue];exact wpAny_bind (wpAny_standAt (wpAny_pure (h _ s ι m cm (dk.refl S) F R rfl)))
theorem ql{v:V}(L:EvS prog w hB C J A env e ρ σ v σ'):XS prog w hB C J A env (exec (.Return (some e) pos) env) ρ σ (.rt v) ρ σ':=λ ι s m cm Q E F R S h _=>by
 rw[exec_Return_some];exact wpAny_bind (wpAny_standAt (wpAny_bind (L ι s m cm _ _ F R S λ u s₁ ι₁ g r=>wpAny_pure (h _ s₁ ι₁ m cm g.toF (F.evo S g.evo) (R.evo g.evo) ⟨u,rfl,r⟩))))
noncomputable def iu:Expr->Bool
 |.ListComp ..=>false
 |.SetComp ..=>false
 |.DictComp ..=>false
 |_=>true
theorem dm{t:Option Expr}{n:Nat}(h:iu e=true):swapsWith e t n env=pure false:=by
 cases e<;>first | rfl | exact nob h
theorem qm{v:V}(hE:aI env)(hn:iu e=true)(L:EvS prog w hB C J A env e ρ σ v σ'):XS prog w hB C J A env (exec (.Expr e pos) env) ρ σ .nx ρ σ':=λ ι s m cm Q E F R S h _=>by
 refine wpAny_Expr_any (L ι s m cm _ _ F R S λ u s₁ ι₁ g r=>h _ s₁ ι₁ m cm g.toF (F.evo S g.evo) (R.evo g.evo) rfl) ?_ (dm hn);unfold interactive;rw[hE.kind];rfl
theorem eP{xs:List Str}{m cm m' cm':Str->Option Value}{h':Heap}{tk:Nat}(F:FR J env m cm s.heap)(S':SR prog w hB C J ι σ h')(kp:∀b o,¬WT env xs b->s.heap.get? b=some o->h'.get? b=some o) :
  dk prog w hB C J (FA env) s ι σ { s with heap:=h',toks:=tk } ι σ:=by
 refine⟨⟨rfl,GX.refl _⟩,⟨Nat.le_refl _,λ _ _=>rfl,λ b _ q=>.inl q,λ b o _ hb ho=>kp b o (λ q=>hb ?_) ho⟩,S'⟩;rcases q with q | ⟨z,_,_,q⟩
 ·exact .inl q
 ·exact .inr ⟨z,q⟩
end
end Mine.Internal
end
section
namespace Mine.Internal
open PySem PyProof.Rows
section
variable{J Y:Addr->Prop}{A:Around}{env:Env}
variable{ρ ρ' ρ₁:ah}{σ σ' σ₁ σ₂ σ₃:aa}{s s' s'':Shared}{ι ι' ι'':Loc}{e f t:Expr}{pos:Pos}{k:Nat}{o:Out}
theorem gz{Q:Flow->Shared->Prop}{E:Value->Shared->Prop}(h1:swapsWith e (some t) pos.line env=pure false)(h2:swappedStores [t] e env=pure none)(h3:isStar t=false)
  (h:wpAny (model prog w) A (eval e env) (λ v s₁=>wpAny (model prog w) A (assign t env v) (λ _ s₂=>Q .next s₂) E s₁) E s):wpAny (model prog w) A (exec (.Assign [t] e pos) env) Q E s:=by
 have h4:assignEach [t] env=[(false,assign t env)]:=by
  cases t<;>first | rfl | exact no h3 | exact nob h3 | cases h3
 rw[arm_exec_Assign];refine wpAny_bind (wpAny_standAt ?_);show wpAny _ _ (swapsWith e (some t) pos.line env >>= _) _ _ _;rw[h1];refine wpAny_bind (wpAny_pure ?_);refine wpAny_bind (wpAny_mono h (λ v s₁ h₁=>?_) λ _ _ q=>q);rw[h2,h4];refine wpAny_bind (wpAny_pure ?_);exact wpAny_bind (wpAny_mono h₁ (λ _ s₂ q=>wpAny_pure q) λ _ _ q=>q)
noncomputable def f7:Expr->Expr->Bool
 |.Tuple ..,.Tuple ..=>true
 |.List ..,.Tuple ..=>true
 |_,_=>false
theorem ji(h:f7 t e=false):swappedStores [t] e env=pure none:=by
 cases t<;>first | rfl | (cases e<;>first | rfl | cases h)
theorem pY{x:V}(h:aQ t x ρ=some ρ'):isStar t=false:=by
 cases t<;>first | rfl | exact no h | exact nob h | cases h
theorem g9{x:V}(hE:aI env)(hA:AOK A k)(hsw:swapsWith e (some t) pos.line env=pure false)(hb:f7 t e=false)(hst:∀z∈ak t,aN env z)(L:EvS prog w hB C J A env e ρ σ x σ')(hx:aQ t x ρ=some ρ') :
  XS prog w hB C J A env (exec (.Assign [t] e pos) env) ρ σ .nx ρ' σ':=λ ι s m cm Q E F R S h _=>by
 refine gz hsw (ji hb) (pY hx) (L ι s m cm _ _ F R S λ v s₁ ι₁ g r=>?_);refine iV hE hA t ρ ρ' x v s₁ m cm _ _ hx hst (F.evo S g.evo) (R.evo g.evo) g.sr r λ h' tk m' cm' F' R' S' kp=>?_;exact h _ _ ι₁ m' cm' (g.toF.trans (eP (m':=m') (cm':=cm') (F.evo S g.evo) S' kp)) F' R' rfl
theorem i4{Φ:Or}{elt it ct:Expr}{ifs:List Expr}{scope:Scope}{own:Bool}{xs vs:List V}{y:Str}{py cpos:Pos}{r:V}
  (hE:aI env) (hA:AOK A k) (hk:aN env y) (X:u6 (kd env) ct scope) (hT:okT (kds scope.names) ct=true) (hset:dO it=true)
  (hIt:ItS prog w hB C J A env ct it ρ σ xs σ₁) (hc:eU (λ x=>aQ ct x ρ) (λ ρ σ=>i6 Φ ifs ρ σ) (λ ρ σ=>ev Φ elt ρ σ) xs σ₁=some (vs,σ₂)) (hm:cF own vs σ₂=some (r,σ'))
  (hEl:∀J' ce,aI ce->(∀x,kd ce x=kds scope.names x)->∀ρ' σa v σb,ev Φ elt ρ' σa=some (v,σb)->EvS prog w hB C J' A ce elt ρ' σa v σb)
  (hTs:∀J' ce,aI ce->(∀x,kd ce x=kds scope.names x)->∀ρ' σa b σb,i6 Φ ifs ρ' σa=some (b,σb)->TtS prog w hB C J' A ce ifs ρ' σa b σb) :
  XS prog w hB C J A env (exec (.Assign [.Name y py] (.ListComp elt [⟨ct,it,ifs,0⟩] scope cpos) pos) env) ρ σ .nx (upd ρ y r) σ':=by
 have plain:swapsWith (.ListComp elt [⟨ct,it,ifs,0⟩] scope cpos) (some (.Name y py)) pos.line env=pure false->XS prog w hB C J A env (exec (.Assign [.Name y py] (.ListComp elt [⟨ct,it,ifs,0⟩] scope cpos) pos) env) ρ σ .nx (upd ρ y r) σ':=λ hq=>
  g9 hE hA hq rfl (λ z hz=>List.mem_singleton.mp (show z∈[y] from hz)▸hk) (dY hE hA X hT hset hIt hc hm hEl hTs) rfl
 have hb:∃b,swapsWith (.ListComp elt [⟨ct,it,ifs,0⟩] scope cpos) (some (.Name y py)) pos.line env=pure b:=⟨_,rfl⟩;obtain⟨b,hb⟩:=hb;cases b with
 |false=>exact plain hb
 |true=>
  intro ι s m cm Q E F R S h _;rw[exec_Assign_Name_used _ _ _ _ hb];refine wpAny_bind (wpAny_standAt (wpAny_bind ?_));refine wpAny_bind (sx (use:=some (assign (.Name y py) env)) hE hA X hT hset hIt hc hm hEl hTs F R S λ s' ι' Cf D mC sm ev' S' V' ns' hC=>?_);have JC:∀b,J b->s.heap.get? b≠none:=λ b hb q=>by obtain⟨_,_,o',ho'⟩:=S.jo b hb;rw[q] at ho';cases ho'
  have hJ':∀b,(J b\/b=Cf)->J b\/s.heap.get? b=none:=λ b hb=>hb.elim .inl λ q=>.inr (q▸hC);have F1:FR (λ b=>J b\/b=Cf) env m cm s'.heap:=by
   have F0:=F.evo S ev';exact⟨F0.ns,.inl F0.jL,λ n c hc=>⟨(F0.cell n c hc).1,.inl (F0.cell n c hc).2.1,(F0.cell n c hc).2.2⟩,F0.apart,F0.has⟩
  have R1:ER w (λ b=>J b\/b=Cf) ι' σ' env m cm s'.heap ρ:=λ x v' hx hmx=>by
   obtain⟨v,h1,h2⟩:=R x v' hx hmx;exact⟨v,h1,VR.evo (h2.fG hJ' λ b o _ q=>q) ev'⟩
  refine wpAny_assign_Name (gO hE hk F1 R1 S' V' λ h' tk m' cm' F' R' S'' kp _ _=>?_);have hCL:Cf≠env.locals:=λ q=>JC _ F.jL (q▸hC);have hCw:¬WN env y Cf:=λ q=>by
   rcases q with q | ⟨_,q⟩
   ·exact hCL q
   ·exact JC _ (F.cell y Cf q).2.1 hC
  have ns'':h'.Ns Cf mC:=(by obtain⟨ob,es,ep,ho,r⟩:=ns';exact⟨ob,es,ep,kp _ _ hCw ho,r⟩);refine⟨mC,ns'',λ h3 hs3=>wpAny_pure (wpAny_pure ?_)⟩;have hk3:∀b o,¬(J b\/b=Cf)->h'.get? b=some o->h3.get? b=some o:=λ b o hb ho=>hs3.extBut b o (λ q=>hb (.inr q)) ho;have S3:SR prog w hB C J ι' σ' h3:=S''.fG (λ b hb=>.inl (.inl hb)) hk3 λ b hb=>by
   refine bC λ k9=>?_;obtain⟨_,_,o',ho'⟩:=S''.jo b (.inl hb);refine k9 ?_;exact⟨o',hs3.extBut b o' (λ q=>JC b hb (q▸hC)) ho'⟩
  refine h _ _ ι' m' cm' ⟨sm,⟨ev'.len,ev'.ag,λ b _ q=>ev'.own b q,λ b o' h1 h2 ho=>?_⟩,S3⟩ ?_ ?_ rfl
  ·have e1:=ev'.kp b o' h1 ho;have e2:=kp b o' (λ q=>h2 (by
    rcases q with q | ⟨_,q⟩
    ·exact .inl q
    ·exact .inr ⟨y,q⟩)) e1
   exact hs3.extBut b o' (λ q=>by rw[q,hC] at ho;cases ho) e2
  ·refine⟨?_,F.jL,λ n c hc=>?_,F'.apart,F'.has⟩
   ·obtain⟨ob,es,ep,ho,r⟩:=F'.ns;exact⟨ob,es,ep,hs3.extBut _ _ (Ne.symm hCL) ho,r⟩
   ·obtain⟨⟨ob,ho,hd⟩,q2,q3⟩:=F'.cell n c hc;have hcJ:=(F.cell n c hc).2.1;exact⟨⟨ob,hs3.extBut _ _ (λ q=>JC c hcJ (q▸hC)) ho,hd⟩,hcJ,q3⟩
  ·intro x v' hx hmx;obtain⟨v,h1,h2⟩:=R' x v' hx hmx;exact⟨v,h1,h2.fG (λ b hb=>.inl (.inl hb)) hk3⟩
theorem jF{c i:Expr}{ps:Pos}{x a b:V}(hA:AOK A k)(hn:iu e=true)(L:EvS prog w hB C J A env e ρ σ x σ₁)(La:EvS prog w hB C J A env c ρ σ₁ a σ₂)(Lb:EvS prog w hB C J A env i ρ σ₂ b σ₃)(hv:dI a b x σ₃=some σ') :
  XS prog w hB C J A env (exec (.Assign [.Subscript c i ps] e pos) env) ρ σ .nx ρ σ':=λ ι s m cm Q E F R S h _=>by
 refine wpAny_Assign_Subscript (L ι s m cm _ _ F R S λ v s₁ ι₁ g₁ r₁=>?_) (dm hn);refine La.two Lb (F.evo S g₁.evo) (R.evo g₁.evo) g₁.sr λ va vb s₂ ι₂ g₂ ra rb=>?_;refine lp hA g₂.sr ra rb (r₁.evo g₂.evo) hv λ s₃ ι₃ g₃=>?_;have g:=(g₁.trans g₂).trans g₃;exact h _ s₃ ι₃ m cm g.toF (F.evo S g.evo) (R.evo g.evo) rfl
end
end Mine.Internal
end
section
set_option tactic.hygienic true
namespace Mine.Internal
open PySem PyProof.Rows
theorem oQ{n y:Str}{v:V}:∀(fs:List (Str×V)),dG y (bt n v fs)=if y=n then some v else dG y fs
 |[]=>by
  simp only[bt,dG];by_cases h:n=y
  ·subst h;rfl
  ·rw[if_neg h,if_neg (λ q=>h q.symm)]
 |(m,u)::r=>by
  have ih:=oQ (n:=n) (y:=y) (v:=v) r;unfold bt;by_cases hm:m=n
  ·subst hm;rw[if_pos rfl];simp only[dG];by_cases hy:m=y
   ·subst hy;simp
   ·rw[if_neg hy,if_neg (λ q=>hy q.symm),if_neg hy]
  ·rw[if_neg hm];simp only[dG];by_cases hy:m=y
   ·subst hy;rw[if_pos rfl,if_pos rfl,if_neg hm]
   ·rw[if_neg hy,if_neg hy];exact ih
theorem qT{n y:Str}{v:V}:∀(fs:List (Str×V)),(y=n\/y∈fs.map (·.1))->y∈(bt n v fs).map (·.1):=by
 intro fs
 induction fs with
 |nil=>
  intro h;rcases h with h | h
  ·simp[bt,h]
  ·simp at h
 |cons x9 r ih=>
  intro h;obtain⟨m,u⟩:=x9;unfold bt;by_cases hm:m=n
  ·subst hm;rw[if_pos rfl];rcases h with h | h
   ·simp[h]
   ·exact h
  ·rw[if_neg hm];simp only[List.map_cons,List.mem_cons] at h ⊢;rcases h with h | h | h
   ·exact .inr (ih (.inl h))
   ·exact .inl h
   ·exact .inr (ih (.inr h))
theorem fO{n:Str}{v:V}:∀(fs:List (Str×V)),(bt n v fs).length<=fs.length+1:=by
 intro fs
 induction fs with
 |nil=>
  simp[bt]
 |cons x9 r ih=>
  obtain⟨m,u⟩:=x9;unfold bt;split
  ·simp
  ·have:=ih;simp only[List.length_cons];exact Nat.lt_succ_of_le ‹_›
section
variable{J Y:Addr->Prop}{A:Around}{env:Env}
variable{ρ ρ' ρ₁:ah}{σ σ' σ₁ σ₂ σ₃:aa}{s s' s'':Shared}{ι ι' ι'':Loc}{e f t:Expr}{pos:Pos}{k:Nat}{o:Out}
theorem jm{n:Str}{l:Nat}{fs:List (Str×V)}{x:V}{v:Value}{Q:Unit->Shared->Prop}{E:Value->Shared->Prop}(B:Base hB C N p mg mb mN)(hn:n∈uY)(S:SR prog w hB C J ι σ s.heap)
  (hl:σ[l]?=some (.ins fs)) (hz:fs.length<1000) (rv:VR w J ι σ s.heap v x) (h:∀s' ι',Goes prog w hB C J s ι σ s' ι' (σ.set l (.ins (bt n x fs)))->Q () s'):wpAny (model prog w) A (setAttr (.ref (ι l).1) n v) Q E s:=by
 refine bC λ k9=>?_;obtain⟨q0,mA,q1,q2,q3,q4⟩:=S.node l _ hl;obtain⟨hh,g,d,tk,os⟩:=s;obtain⟨nm,q,bs,sn,sub,col,dd,k0,k1,k2,k3,k5,hC0⟩:=B.at'.obj;have hC:=S.keep _ _ hC0;refine k9 ?_;have hxC:(ι l).1≠C:=λ q=>by
  have:=(S.off l _ hl rfl).1;rw[q,hC0] at this;cases this
 have hw:Within mA (fs.map (·.1)):=λ y hy=>by
  cases hm:mA y with
  |none=>exact absurd hm hy
  |some u=>exact q3 y u hm
 refine store_attr PySem.F.store_object hC (B.at'.keeps S.keep).ns B.hook.2.2 (B.att n hn) (jC n hn) hxC q1 (λ h' tk' I' hk hsame=>?_) hw (by rw[List.length_map];exact Nat.le_trans q0 (by decide));refine bC λ k9=>?_;obtain⟨o0,ho0,hc0,hnc0,hd0⟩:=q1;have hdict:=q2 o0 ho0;refine k9 ?_;have hk2:∀b o,b≠(ι l).1->b≠(ι l).2->hh.get? b=some o->h'.get? b=some o:=λ b o h1 h2 ho=>hk b o h1 (λ o₀ dx e1 e2=>by
  obtain rfl:o0=o₀:=Option.some.inj (ho0.symm.trans e1);obtain rfl:(ι l).2=dx:=Option.some.inj (hdict.symm.trans e2);exact h2) ho
 have ev:Evo ι σ hh ι (σ.set l (.ins (bt n x fs))) h':=Evo.set hl rfl hk2;have rv':VR w J ι (σ.set l (.ins (bt n x fs))) h' v x:=rv.evo ev;refine h _ ι ⟨⟨rfl,GX.refl _⟩,ev,S.set hl rfl hk2 ⟨?_,_,I',λ o1 ho1=>?_,λ y u hy=>?_,λ y=>?_⟩ (λ q=>by simp[Nd.mR] at q)⟩
 ·have:=fO (n:=n) (v:=x) fs;exact Nat.le_trans ‹_› ‹_›
 ·obtain⟨o₁,e1,_,_,_,e5⟩:=hsame o0 ho0;obtain rfl:o₁=o1:=Option.some.inj (e1.symm.trans ho1);exact e5 _ hdict
 ·refine qT fs ?_
  try dsimp only at hy
  split at hy
  ·rename_i q;exact .inl q
  ·exact .inr (q3 y u hy)
 ·rw[oQ]
  try dsimp only
  split
  ·exact rv'
  ·exact(q4 y).mono λ u z r=>r.evo ev
theorem sQ{c:Expr}{n:Str}{ps:Pos}{x:V}{l:Nat}{fs:List (Str×V)}(B:Base hB C N p mg mb mN)(hn:iu e=true)(ha:n∈uY)(L:EvS prog w hB C J A env e ρ σ x σ₁)(La:EvS prog w hB C J A env c ρ σ₁ (.o l) σ₂)
  (hl:σ₂[l]?=some (.ins fs)) (hz:fs.length<1000):XS prog w hB C J A env (exec (.Assign [.Attribute c n ps] e pos) env) ρ σ .nx ρ (σ₂.set l (.ins (bt n x fs))):=λ ι s m cm Q E F R S h _=>by
 refine plainObj_wpAny_Assign_Attribute (L ι s m cm _ _ F R S λ v s₁ ι₁ g₁ r₁=>?_) (dm hn);refine La ι₁ s₁ m cm _ _ (F.evo S g₁.evo) (R.evo g₁.evo) g₁.sr λ ov s₂ ι₂ g₂ r₂=>?_;obtain⟨rfl,_⟩:=r₂;refine jm B ha g₂.sr hl hz (r₁.evo g₂.evo) λ s₃ ι₃ g₃=>?_;have g:=(g₁.trans g₂).trans g₃;exact h _ s₃ ι₃ m cm g.toF (F.evo S g.evo) (R.evo g.evo) rfl
theorem eO{c:Expr}{n:Str}{ps:Pos}{x:V}{l:Nat}{fs:List (Str×V)}(B:Base hB C N p mg mb mN)(ha:n∈uY)(L:EvS prog w hB C J A env e ρ σ x σ₁)(La:EvS prog w hB C J A env c ρ σ₁ (.o l) σ₂)
  (hsw:swapsWith e (some (.Attribute c n ps)) pos.line env=pure false)
  (hl:σ₂[l]?=some (.ins fs)) (hz:fs.length<1000):XS prog w hB C J A env (exec (.Assign [.Attribute c n ps] e pos) env) ρ σ .nx ρ (σ₂.set l (.ins (bt n x fs))):=λ ι s m cm Q E F R S h _=>by
 refine plainObj_wpAny_Assign_Attribute (L ι s m cm _ _ F R S λ v s₁ ι₁ g₁ r₁=>?_) hsw;refine La ι₁ s₁ m cm _ _ (F.evo S g₁.evo) (R.evo g₁.evo) g₁.sr λ ov s₂ ι₂ g₂ r₂=>?_;obtain⟨rfl,_⟩:=r₂;refine jm B ha g₂.sr hl hz (r₁.evo g₂.evo) λ s₃ ι₃ g₃=>?_;have g:=(g₁.trans g₂).trans g₃;exact h _ s₃ ι₃ m cm g.toF (F.evo S g.evo) (R.evo g.evo) rfl
inductive Cz(σ:aa)(c:Int):V->V->Prop
 |mk (l:Nat) (xs:List V) (j:Int) (kk:Nat) (hn:σ[l]?=some (.lst xs)) (e2:seqIndex? j xs.length=some kk) (e3:xs[kk]?=some (.d (.int c))):Cz σ c (.o l) (.d (.int j))
theorem C6{c:Int}{a b:V}(h:mj σ a b=some c):Cz σ c a b:=by
 cases a with
 |o l=>
  obtain⟨xs,hn,h⟩:=lst_inv (f:=λ xs=>(c5 b).bind λ j=>(seqIndex? j xs.length).bind λ k=>(xs[k]?).bind c5) h;obtain⟨j,ej,h⟩:=bd1 h;obtain⟨kk,ek,h⟩:=bd1 h;obtain⟨v,ev',ec⟩:=bd1 h;obtain rfl:=aS ec;obtain rfl:=aS ej;exact .mk l xs j kk hn ek ev'
 |_=>first | exact no h | exact nob h | cases h
theorem yo{c i:Expr}{ps:Pos}{op:Operator}{a b:V}{cc m' r':Int}{σ₃ σ₄:aa}(hA:AOK A k)(hs:gU i=true)(La:EvS prog w hB C J A env c ρ σ a σ₁)(Lb:EvS prog w hB C J A env i ρ σ₁ b σ₂)(hg:mj σ₂ a b=some cc)
  (L:EvS prog w hB C J A env e ρ σ₂ (.d (.int m')) σ₃) (ho:x7 op cc m'=some r') (hv:dI a b (.d (.int r')) σ₃=some σ₄):XS prog w hB C J A env (exec (.AugAssign (.Subscript c i ps) op e pos) env) ρ σ .nx ρ σ₄:=λ ι s m cm Q E F R S h _=>by
 rw[arm_exec_AugAssign_3];refine wpAny_bind (wpAny_standAt (wpAny_bind (La ι s m cm _ _ F R S λ va s₁ ι₁ g₁ ra=>wpAny_bind (wpAny_holding (Lb ι₁ s₁ m cm _ _ (F.evo S g₁.evo) (R.evo g₁.evo) g₁.sr λ vb s₂ ι₂ g₂ rb=>?_)))));refine wpAny_bind (wpAny_holding (wpAny_bind (wpAny_standAt (wpAny_bind ?_))));cases C6 hg with
 |mk l xs j kk hn ek ev'=>
   obtain⟨t,rfl⟩:=aH rb;have ra2:=ra.evo g₂.evo;obtain⟨rfl,hlt⟩:=ra2;obtain⟨vs,n,q1,q3,q4⟩:=g₂.sr.node l _ hn;obtain⟨u,hu,hr⟩:=q4.get ev';obtain⟨tu,rfl⟩:=aH hr;refine fX q1 q3 (q4.1▸ek) hu ?_;have g12:=g₁.trans g₂;refine wpAny_bind (wpAny_holding (L ι₂ s₂ m cm _ _ (F.evo S g12.evo) (R.evo g12.evo) g₂.sr λ vd s₃ ι₃ g₃ rd=>?_));obtain⟨td,rfl⟩:=aH rd;refine wpAny_bind (wpAny_standAt (wpAny_operating ?_));have hop:∀(Q':Value->Shared->Prop),(∀tt,Q' (.int r' tt) { s₃ with toks:=s₃.toks+1 })->wpAny (model prog w) A (inplaceOp op (.int cc tu) (.int m' td)) Q' E s₃:=λ Q' hq=>by
    cases op with
    |Add=>cases ho;exact PyProof.Rows.iadd_int (hq _)
    |Sub=>cases ho;exact PyProof.Rows.isub_int (hq _)
    |_=>first | exact no ho | exact nob ho | cases ho
   refine hop _ λ tt=>?_;refine wpAny_bind (wpAny_standAt ?_);have hst:augStore i (.ref (ι₂ l).1) (.int j t) (.int r' tt)=(do
     holding [.int r' tt,.ref (ι₂ l).1,.int j t] (setItem (.ref (ι₂ l).1) (.int j t) (.int r' tt))
     release [.int r' tt,.ref (ι₂ l).1,.int j t] []
     pure .next):=by
    cases i<;>first | rfl | exact nob hs
   rw[hst];have g4:Goes prog w hB C J s₃ ι₃ σ₃ { s₃ with toks:=s₃.toks+1 } ι₃ σ₃:=Goes.tok g₃.sr _;have rl:VR w J ι₃ σ₃ s₃.heap (.ref (ι₂ l).1) (.o l):=VR.evo (x:=.o l) ⟨rfl,hlt⟩ g₃.evo;refine wpAny_bind (wpAny_holding (lp hA g4.sr rl (y:=.d (.int j)) (RD.int j t) (x:=.d (.int r')) (RD.int r' tt) hv λ s₅ ι₅ g₅=>?_));refine wpAny_bind (wpAny_release ?_);have gg:=((g12.trans g₃).trans g4).trans g₅;exact wpAny_pure (h _ s₅ ι₅ m cm gg.toF (F.evo S gg.evo) (R.evo gg.evo) rfl)
end
end Mine.Internal
end
section
set_option tactic.hygienic true
namespace Mine.Internal
open PySem PyProof.Rows
noncomputable def vR:ah->List Str->List V->ah
 |ρ,n::ns,x::xs=>vR (upd ρ n x) ns xs
 |ρ,_,_=>ρ
theorem jH(ns:List Str):∀(xs:List V) (ρ:ah) (y:Str),y∉ns->vR ρ ns xs y=ρ y:=by
 induction ns with
 |nil=>intro xs ρ y h;rfl
 |cons n ns ih=>
  intro xs ρ y h;cases xs with
  |nil=>rfl
  |cons x xs=>exact(ih xs _ y λ q=>h (.tail _ q)).trans (kR λ q=>h (q▸.head _))
theorem qs(ns:List Str):∀(xs:List V) (ρ:ah) (i:Nat) (y:Str) (v:V),ns.Nodup->ns[i]?=some y->xs[i]?=some v->vR ρ ns xs y=some v:=by
 induction ns with
 |nil=>intro xs ρ i y v hn h;exact no h
 |cons n ns ih=>
  intro xs ρ i y v hn h1 h2;cases xs with
  |nil=>exact no h2
  |cons x xs=>
   have hn:=List.nodup_cons.1 hn;cases i with
   |zero=>
    cases h1;cases h2;exact(jH ns xs _ _ hn.1).trans (gN ρ _ _)
   |succ i=>exact ih xs _ i y v hn.2 h1 h2
theorem yO{i n:Nat}(h:i<n):n-1-i<n/\n-1-(n-1-i)=i:=by omega
theorem tj{ns:List Str}{xs:List V}{ρ:ah}(hn:ns.Nodup)(hl:ns.length=xs.length):vR ρ ns.reverse xs.reverse=vR ρ ns xs:=by
 funext y;refine Classical.byCases (p:=y∈ns) (λ hy=>?_) (λ hy=>?_)
 ·obtain⟨i,hi⟩:=List.mem_iff_getElem?.mp hy;have hlt:i<ns.length:=(List.getElem?_eq_some_iff.mp hi).1;have hx:xs[i]?=some xs[i]:=List.getElem?_eq_getElem (hl▸hlt);have r:=yO hlt;rw[qs ns xs ρ i y xs[i] hn hi hx];refine qs _ _ ρ (ns.length-1-i) y xs[i] (by unfold List.Nodup;rw[List.pairwise_reverse];exact hn.imp λ h=>Ne.symm h) ?_ ?_
  ·rw[List.getElem?_reverse r.1,r.2];exact hi
  ·rw[hl] at r ⊢;rw[List.getElem?_reverse r.1,r.2];exact hx
 ·rw[jH ns xs ρ y hy,jH _ _ ρ y (by simpa using hy)]
theorem mf(ts:List Expr):∀(ns:List Str) (xs:List V) (ρ ρ':ah),ts.map nm?=ns.map some->cW ts xs ρ=some ρ'->ρ'=vR ρ ns xs/\ns.length=xs.length/\bf ts=ns:=by
 induction ts with
 |nil=>
  intro ns xs ρ ρ' hn h;cases ns with
  |nil=>
   cases xs with
   |nil=>exact⟨(Option.some.inj h).symm,rfl,rfl⟩
   |cons a b=>exact no h
  |cons a b=>cases hn
 |cons t ts ih=>
  intro ns xs ρ ρ' hn h;cases ns with
  |nil=>cases hn
  |cons n ns=>
   cases xs with
   |nil=>exact no h
   |cons x xs=>
    obtain⟨h0,h9⟩:=List.cons.inj hn;cases nmC h0;refine bC λ k9=>?_;obtain⟨h1,h2,h3⟩:=ih ns xs _ ρ' h9 h;refine k9 ?_;exact⟨h1,congrArg Nat.succ h2,congrArg (n::·) h3⟩
section
variable{J Y:Addr->Prop}{A:Around}{env:Env}
variable{ρ ρ' ρ₁:ah}{σ σ' σ₁ σ₂ σ₃:aa}{s s' s'':Shared}{ι ι' ι'':Loc}{e f t:Expr}{pos:Pos}{k:Nat}{o:Out}
theorem mi(hE:aI env):∀(ns:List Str) (ρ:ah) (xs:List V) (vs:List Value) (s:Shared) (m cm:Str->Option Value) (Q:Unit->Shared->Prop) (E:Value->Shared->Prop),ns.length=xs.length->
  (∀z∈ns,aN env z)->FR J env m cm s.heap->ER w J ι σ env m cm s.heap ρ->SR prog w hB C J ι σ s.heap->aA (VR w J ι σ s.heap) vs xs->
  sN prog w hB C J ι σ env ns (vR ρ ns xs) s Q->wpAny (model prog w) A (assignInOrder (ns.map λ n=>bindName env n) vs) Q E s:=by
 intro ns
 induction ns with
 |nil=>
  intro ρ xs vs s m cm Q E hl hs F R S rv hQ;cases xs with
  |cons a b=>exact by cases hl
  |nil=>
   rw[rv.bu];exact wpAny_pure (hQ s.heap s.toks m cm F R S λ _ _ _ e=>e)
 |cons n ns ih=>
  intro ρ xs vs s m cm Q E hl hs F R S rv hQ;cases xs with
  |nil=>exact by cases hl
  |cons x xs=>
   obtain⟨v,ws,rfl,r1,r2⟩:=rv.cons_right;refine wpAny_bind (wpAny_holding (wpAny_bindName (gO hE (hs n (.head _)) F R S r1 λ h' tk m' cm' F' R' S' kp _ _=>?_)));have kj:∀b o,¬J b->s.heap.get? b=some o->h'.get? b=some o:=λ b o hb ho=>kp b o (λ q=>hb (by
    rcases q with q | ⟨_,hz⟩
    ·rw[q];exact F.jL
    ·exact(F.cell n b hz).2.1)) ho
   exact ih (upd ρ n x) xs ws _ m' cm' Q E (Nat.succ.inj hl) (λ z hz=>hs z (.tail _ hz)) F' R' S' (r2.mono λ v x r=>r.bE kj)
    λ h'' tk m'' cm'' F'' R'' S'' kp'=>hQ h'' tk m'' cm'' F'' R'' S'' λ b o hb ho=>kp' b o (λ q=>hb (by
     exact q.imp id (by rintro⟨z,h1,h2⟩;exact⟨z,.tail _ h1,h2⟩))) (kp b o (λ q=>hb (q.imp id λ q=>⟨n,.head _,q⟩)) ho)
theorem lV{f:Expr->Option Str}(hf:∀t n,f t=some n->nm? t=some n/\env.kindOf n=some .local):∀(ts:List Expr),(ts.filterMap f).length=ts.length->ts.map nm?=(ts.filterMap f).map some/\∀n∈ts.filterMap f,env.kindOf n=some .local:=by
 intro ts
 induction ts with
 |nil=>
  intro _;exact⟨rfl,λ n h=>by cases h⟩
 |cons t ts ih=>
  intro h;rw[List.filterMap_cons] at h ⊢;cases hft:f t with
  |none=>
   rw[hft] at h;exact absurd (List.length_filterMap_le f ts) (Nat.not_le.mpr (h▸Nat.lt_succ_self _))
  |some n=>
   rw[hft] at h;obtain⟨h1,h2⟩:=ih (Nat.succ.inj h);obtain⟨q1,q2⟩:=hf t n hft;refine⟨by rw[List.map_cons,q1,h1];rfl,λ y hy=>?_⟩;rcases List.mem_cons.mp hy with rfl | hy
   ·exact q2
   ·exact h2 y hy
theorem jP{ts es:List Expr}{k1 k2:Nat}{p1 p2:Pos}(hc:es.all (constantsAlone 8)=false) :
  swappedStores [.Tuple ts k1 p1] (.Tuple es k2 p2) env=pure none\/∃ns,swappedStores [.Tuple ts k1 p1] (.Tuple es k2 p2) env=pure (some ns)/\ts.map nm?=ns.map some/\∀n∈ns,env.kindOf n=some .local:=by
 unfold swappedStores;dsimp only;split
 ·exact .inl rfl
 ·split
  ·exact .inl rfl
  ·split
   ·exact .inl rfl
   ·rename_i hl;split
    ·exact .inl rfl
    ·rw[if_neg (by rw[hc];simp)];refine .inr ⟨_,rfl,?_⟩;refine lV (λ t n hq=>?_) ts ?_
     ·split at hq
      ·rename_i id ps;split at hq
       ·rename_i hcond;simp only[Option.some.injEq] at hq;subst hq;simp only[Bool.and_eq_true,beq_iff_eq] at hcond;exact⟨rfl,hcond.1⟩
       ·cases hq
      ·cases hq
     ·simp only[Bool.or_eq_true,bne_iff_ne,ne_eq,not_or,Decidable.not_not] at hl;exact hl.1
theorem kQ{Φ:Or}{ts es:List Expr}{k1 k2:Nat}{p1 p2:Pos}{vs:List V}(hE:aI env)(hA:AOK A k)(hc:es.all (constantsAlone 8)=false)(hes:es.length<=1000)(hnd:(bf ts).Nodup)(hst:∀z∈bf ts,aN env z)
  (he:evs Φ es ρ σ=some (vs,σ')) (L:EsS prog w hB C J A env es p2 ρ σ vs σ') (hb:cW ts vs ρ=some ρ'):XS prog w hB C J A env (exec (.Assign [.Tuple ts k1 p1] (.Tuple es k2 p2) pos) env) ρ σ .nx ρ' σ':=λ ι s m cm Q E F R S h _=>by
 have hlen:=sg es σ vs σ' he;rw[arm_exec_Assign];refine wpAny_bind (wpAny_standAt ?_);show wpAny _ _ (swapsWith (.Tuple es k2 p2) (some (.Tuple ts k1 p1)) pos.line env >>= _) _ _ _;rw[dm rfl];refine wpAny_bind (wpAny_pure ?_);refine wpAny_bind (Tuple_ (L ι s m cm _ _ F R S λ us s₁ ι₁ g rs=>?_));have hul:us.length<=BIG:=by rw[rs.1,hlen];exact Nat.le_trans hes (by decide)
 refine wpAny_newTuple ?_ (Nat.le_trans hul aE);have kp1:∀b o,s₁.heap.get? b=some o->(s₁.heap.push { cls:=.type "tuple",data:=.seq us.toArray }).get? b=some o:=λ b o q=>Heap.get?_push_of_some _ q;have g1:Goes prog w hB C J s₁ ι₁ σ' { s₁ with heap:=s₁.heap.push { cls:=.type "tuple",data:=.seq us.toArray } } ι₁ σ':=⟨⟨rfl,GX.refl _⟩,Evo.aM kp1,g.sr.aM kp1⟩;have hT:IsTup (s₁.heap.push { cls:=.type "tuple",data:=.seq us.toArray }) s₁.heap.objs.size us.toArray:=⟨_,Heap.get?_push_size _ rfl,rfl,0,rfl⟩;have un:∀(n:Nat) (Q':List Value->Shared->Prop),n=us.length->(∀h',(∀b o,(s₁.heap.push { cls:=.type "tuple",data:=.seq us.toArray }).get? b=some o->h'.get? b=some o)->Q' us { s₁ with heap:=h' })->
   wpAny (model prog w) A (unpackItems (.ref s₁.heap.objs.size) n none) Q' E { s₁ with heap:=s₁.heap.push { cls:=.type "tuple",data:=.seq us.toArray } }:=λ n Q' hn hQ=>by
  subst hn;exact wpAny_unpackItems_tuple (prog:=prog) (w:=w) (Q:=Q') (E:=E) (s:={ s₁ with heap:=s₁.heap.push { cls:=.type "tuple",data:=.seq us.toArray } }) hA.handled hT λ h' hx=>hQ h' λ b o ho=>hx b o (Nat.ne_of_lt (Heap.lt_size ho)) ho
 have g01:=g.trans g1;have fin:∀h' (kp:∀b o,(s₁.heap.push { cls:=.type "tuple",data:=.seq us.toArray }).get? b=some o->h'.get? b=some o),Goes prog w hB C J s ι σ { s₁ with heap:=h' } ι₁ σ':=λ h' kp=>
  g01.trans ⟨⟨rfl,GX.refl _⟩,Evo.aM kp,g1.sr.aM kp⟩
 have hbl:=jB ts vs ρ ρ' hb;rcases jP (env:=env) (ts:=ts) (es:=es) (k1:=k1) (k2:=k2) (p1:=p1) (p2:=p2) hc with hsw | ⟨ns,hsw,hns,hloc⟩
 ·rw[hsw];refine wpAny_bind (wpAny_pure ?_);show wpAny _ _ (assign (.Tuple ts k1 p1) env (.ref s₁.heap.objs.size) >>= λ _=>(pure Flow.next:Sem Flow)) _ _ _;rw[arm_assign_Tuple];refine wpAny_bind (wpAny_bind (wpAny_standAt ?_));unfold unpack;rw[(bO ts _ ρ ρ' hb).1,(bO ts _ ρ ρ' hb).2];refine wpAny_bind (wpAny_holding (un ts.length _ (by rw[hbl,rs.1]) λ h' kp=>?_));have gg:=fin h' kp;refine p9 hE hA ts ρ ρ' vs us _ m cm _ _ hb hst (F.evo S gg.evo) (R.evo gg.evo) gg.sr (rs.mono λ v x r=>(r.evo g1.evo).evo (Evo.aM kp)) λ h'' tk m' cm' F' R' S' kp'=>wpAny_pure ?_;exact h _ _ ι₁ m' cm' (gg.toF.trans (eP (m':=m') (cm':=cm') (F.evo S gg.evo) S' kp')) F' R' rfl
 ·obtain⟨e1,e2,e3⟩:=mf ts ns vs ρ ρ' hns hb;rw[hsw];refine wpAny_bind (wpAny_pure ?_);refine wpAny_bind (wpAny_rule (wpAny_bind (un ns.length _ (by rw[e2,rs.1]) λ h' kp=>?_)));have gg:=fin h' kp;have rs':aA (VR w J ι₁ σ' h') us vs:=rs.mono λ v x r=>(r.evo g1.evo).evo (Evo.aM kp);have rsr:aA (VR w J ι₁ σ' h') us.reverse vs.reverse:=by
   refine⟨by rw[List.length_reverse,List.length_reverse,rs'.1],λ i v x hv hx=>?_⟩;have hi:i<us.length:=List.length_reverse (as:=us)▸(List.getElem?_eq_some_iff.mp hv).1;rw[List.getElem?_reverse hi] at hv;rw[List.getElem?_reverse (by rw[<-rs'.1];exact hi),<-rs'.1] at hx;exact rs'.2 _ v x hv hx
  refine wpAny_bind (mi hE ns.reverse ρ vs.reverse us.reverse _ m cm _ _ (by rw[List.length_reverse,List.length_reverse,e2]) (λ z hz=>.inl (hloc z (List.mem_reverse.mp hz))) (F.evo S gg.evo) (R.evo gg.evo) gg.sr rsr λ h'' tk m' cm' F' R' S' kp'=>wpAny_pure ?_);rw[tj (by rw[<-e3];exact hnd) e2,<-e1] at R';exact h _ _ ι₁ m' cm' (gg.toF.trans (eP (m':=m') (cm':=cm') (F.evo S gg.evo) S' kp')) F' R' rfl
end
end Mine.Internal
end
section
namespace Mine.Internal
open PySem PyProof.Rows
section
variable{J Y W:Addr->Prop}{A:Around}{env:Env}
variable{ρ ρ' ρ₁ ρa ρb ρi:ah}{σ σ' σ₁ σ₂ σi σb:aa}{s s' s'' s₁:Shared}{ι ι' ι'' ι₁:Loc}{e f t it:Expr}{pos:Pos}{k:Nat}{o oa:Out}{m cm m' cm':Str->Option Value}{h₂ h' ha:Heap}
theorem iY.turn{h₀ h h':Heap}{Z:Addr->Prop}(e:iY Y ι σ h₀ ι' σ' h)(hk:∀b o,¬Z b->h.get? b=some o->h'.get? b=some o)(hZ:∀b,Z b->h₀.get? b=none\/Y b):iY Y ι σ h₀ ι' σ' h':=
 ⟨e.len,e.ag,e.own,λ b o hb hY q=>hk b o (λ z=>(hZ b z).elim (λ z=>by cases z.symm.trans q) hY) (e.kp b o hb hY q)⟩
noncomputable def JW(J W:Addr->Prop)(b:Addr):Prop:=J b\/W b
structure LpA(J W:Addr->Prop)(env:Env)(h₀:Heap):Prop where
 jw:∀b,J b->¬W b
 wn:∀b,W b->h₀.get? b=none
 fj:∀b,FA env b->J b
structure jE(J W:Addr->Prop)(env:Env)(s₀:Shared)(ι₀:Loc)(σ₀:aa)(s:Shared)(ρi:ah)(σi:aa)(ι':Loc)(m cm:Str->Option Value):Prop where
 same:Shr s₀ s
 evo:iY (FA env) ι₀ σ₀ s₀.heap ι' σi s.heap
 sr:SR prog w hB C (JW J W) ι' σi s.heap
 fr:FR (JW J W) env m cm s.heap
 er:ER w (JW J W) ι' σi env m cm s.heap ρi
theorem ER.fG{J':Addr->Prop}{h:Heap}(R:ER w J ι σ env m cm h ρ)(hJ:∀b,J' b->J b\/h.get? b=Option.none)(hk:∀b o,¬J b->h.get? b=some o->h'.get? b=some o):ER w J' ι σ env m cm h' ρ:=λ x v' hx hm=>by
 obtain⟨v,h1,h2⟩:=R x v' hx hm;exact⟨v,h1,h2.fG hJ hk⟩
theorem FR.toJ{J':Addr->Prop}{h:Heap}(F:FR J env m cm h)(hJ:∀b,FA env b->J' b):FR J' env m cm h:=⟨F.ns,hJ _ (.inl rfl),λ n c hc=>⟨(F.cell n c hc).1,hJ _ (.inr ⟨n,hc⟩),(F.cell n c hc).2.2⟩,F.apart,F.has⟩
theorem jE.start{s₂:Shared}(F:FR J env m cm s.heap)(R:ER w J ι σ env m cm s.heap ρ)(S:SR prog w hB C J ι σ s.heap)(g:Goes prog w hB C J s ι σ s₁ ι₁ σ₁)(sh:Shr s₁ s₂)(kp:∀b o,s₁.heap.get? b=some o->s₂.heap.get? b=some o)(new:∀b,W b->s₁.heap.get? b=none/\∃o,s₂.heap.get? b=some o) :
  LpA J W env s.heap/\jE J W env s ι σ s₂ ρ σ₁ ι₁ m cm:=by
 have hJ:∀b,JW J W b->J b\/s₁.heap.get? b=none:=λ b hb=>hb.imp id λ q=>(new b q).1;refine⟨⟨λ b hb q=>?_,λ b hb=>g.fresh S (new b hb).1,F.fa⟩,g.same.trans sh,(g.evo.trans (Evo.aM kp)).toF,g.sr.fG hJ (λ b o _ q=>kp b o q) λ b hb=>?_,((F.evo S g.evo).aM kp).toJ λ b q=>.inl (F.fa b q),(R.evo g.evo).fG hJ λ b o _ q=>kp b o q⟩
 ·obtain⟨_,_,ob,ho⟩:=g.sr.jo b hb;exact by cases(new b q).1.symm.trans ho
 ·rcases hb with q | q
  ·obtain⟨_,_,ob,ho⟩:=g.sr.jo b q;exact⟨ob,kp b ob ho⟩
  ·exact(new b q).2
theorem jE.out{s₂:Shared}{fl:Flow}{Q:Flow->Shared->Prop}(Z:LpA J W env s.heap)(L:jE J W env s ι σ s' ρi σi ι' m' cm')(hfl:FlR w (JW J W) ι' σi s'.heap fl o)(sh:Shr s' s₂)(kp:∀b o,¬W b->s'.heap.get? b=some o->s₂.heap.get? b=some o)
  (h:∀fl s' ι' m' cm',dk prog w hB C J (FA env) s ι σ s' ι' σi->FR J env m' cm' s'.heap->ER w J ι' σi env m' cm' s'.heap ρi->FlR w J ι' σi s'.heap fl o->Q fl s'):Q fl s₂:=by
 have kj:∀b o,¬JW J W b->s'.heap.get? b=some o->s₂.heap.get? b=some o:=λ b o hb ho=>kp b o (λ q=>hb (.inr q)) ho;have jl:∀b,J b->JW J W b\/s'.heap.get? b=none:=λ b hb=>.inl (.inl hb);have fw:∀b,FA env b->¬W b:=λ b q=>Z.jw b (Z.fj b q);refine h fl _ ι' m' cm' ⟨L.same.trans sh,L.evo.turn (Z:=W) kp λ b hb=>.inl (Z.wn b hb),L.sr.fG jl kj λ b hb=>?_⟩ ((L.fr.toJ Z.fj).AD (λ o ho=>kp _ o (fw _ (.inl rfl)) ho) λ n c hc o ho=>kp _ o (fw _ (.inr ⟨n,hc⟩)) ho) (L.er.fG jl kj) ?_
 ·obtain⟨_,_,ob,ho⟩:=L.sr.jo b (.inl hb);exact⟨ob,kp b ob (Z.jw b hb) ho⟩
 ·cases o with
  |rt v=>
   obtain⟨u,hu,ru⟩:=hfl;exact⟨u,hu,ru.fG jl kj⟩
  |_=>exact hfl
theorem jE.turn{x:V}{v:Value}{s₂:Shared}{body:List Stmt}{Q:Flow->Shared->Prop}{E:Value->Shared->Prop}(hE:aI env)(hA:AOK A k)(hst:∀z∈ak t,aN env z)(Z:LpA J W env s.heap)(L:jE J W env s ι σ s' ρi σi ι' m' cm')
  (sh:Shr s' s₂) (kpa:∀b o,¬W b->s'.heap.get? b=some o->s₂.heap.get? b=some o) (gwa:∀b,W b->∃o,s₂.heap.get? b=some o) (rva:VR w (JW J W) ι' σi s₂.heap v x)
  (hbi:aQ t x ρi=some ρa) (hx:oa≠.ex) (hB:XS prog w hB C (JW J W) A env (execs body env) ρa σi oa ρb σb)
  (hQ:∀fl sc ιc mc cmc,jE J W env s ι σ sc ρb σb ιc mc cmc->FlR w (JW J W) ιc σb sc.heap fl oa->(∀b o,W b->s₂.heap.get? b=some o->sc.heap.get? b=some o)->Mv (JW J W) ι' σi s₂.heap (JW J W) ιc σb sc.heap->Q fl sc) :
  wpAny (model prog w) A (assign t env v) (λ _ s₂=>wpAny (model prog w) A (execs body env) Q E s₂) E s₂:=by
 have fw:∀b,FA env b->¬W b:=λ b q=>Z.jw b (Z.fj b q);have kja:∀b o,¬JW J W b->s'.heap.get? b=some o->s₂.heap.get? b=some o:=λ b o hb ho=>kpa b o (λ q=>hb (.inr q)) ho;have wf:∀b,WT env (ak t) b->FA env b:=λ b q=>q.imp id (by rintro⟨z,_,_,hz⟩;exact⟨z,hz⟩);refine iV hE hA t ρi ρa x v _ m' cm' _ _ hbi hst (L.fr.AD (λ o ho=>kpa _ o (fw _ (.inl rfl)) ho) λ n c hc o ho=>kpa _ o (fw _ (.inr ⟨n,hc⟩)) ho) (L.er.bE kja) (L.sr.bE kja λ b hb=>?_) rva λ hb' tkb mb cmb Fb Rb Sb kpb=>?_
 ·refine Classical.byCases (p:=W b) (λ q=>?_) (λ q=>?_)
  ·exact gwa b q
  ·obtain⟨_,_,ob,ho⟩:=L.sr.jo b hb;exact⟨ob,kpa b ob q ho⟩
 ·have kjb:∀b o,¬JW J W b->s₂.heap.get? b=some o->hb'.get? b=some o:=λ b o hb ho=>kpb b o (λ q=>hb (.inl (Z.fj b (wf b q)))) ho;have fj:∀b,FA env b->JW J W b:=λ b q=>.inl (Z.fj b q);refine hB ι' _ mb cmb _ _ Fb Rb Sb (λ fl sc ιc mc cmc gc Fc Rc hfl=>hQ fl sc ιc mc cmc ⟨(L.same.trans sh).trans gc.same,?_,gc.sr,Fc,Rc⟩ hfl (λ b o hb ho=>?_) ?_) λ ea s' ι' q=>absurd q hx
  ·exact((L.evo.turn (Z:=W) kpa λ b hb=>.inl (Z.wn b hb)).turn (Z:=WT env (ak t)) kpb λ b hb=>.inr (wf b hb)).trans gc.evo
  ·exact gc.evo.kp b o (Sb.jo b (.inr hb)).1 (λ q=>fw b q hb) (kpb b o (λ q=>fw b (wf b q) hb) ho)
  ·have m1:=gc.evo.mv (J:=JW J W) fj;have m2:Mv (JW J W) ι' σi s₂.heap (JW J W) ι' σi hb':=.bE kjb;exact⟨λ b o hb ho=>m1.kp b o hb (m2.kp b o hb ho),λ b o hb ho=>m1.ex b o hb (m2.kp b o hb ho),m1.at'⟩
noncomputable def u7(Nx:Prop)(Q:Flow->Shared->Prop)(s:Shared):Flow->Prop
 |.next=>Nx
 |.cont=>Nx
 |.brk=>Q .next s
 |.ret v=>Q (.ret v) s
theorem ix{fl:Flow}{Nx:Prop}{Q:Flow->Shared->Prop}{kk:ah->aa->Res}(Z:LpA J W env s.heap)(L:jE J W env s ι σ s' ρb σb ι' m' cm')(hfl:FlR w (JW J W) ι' σb s'.heap fl oa)(hr:cont kk oa ρb σb=some (o,ρ',σ'))
  (h:∀fl s' ι' m' cm',dk prog w hB C J (FA env) s ι σ s' ι' σ'->FR J env m' cm' s'.heap->ER w J ι' σ' env m' cm' s'.heap ρ'->FlR w J ι' σ' s'.heap fl o->Q fl s') (again:kk ρb σb=some (o,ρ',σ')->Nx):u7 Nx Q s' fl:=by
 cases oa with
 |nx=>obtain rfl:fl=.next:=hfl;exact again hr
 |ct=>obtain rfl:fl=.cont:=hfl;exact again hr
 |br=>obtain rfl:fl=.brk:=hfl;cases hr;exact jE.out (o:=.nx) (fl:=.next) Z L rfl (Shr.refl _) (λ _ _ _ q=>q) h
 |ex=>cases hr
 |rt v=>obtain⟨u,rfl,ru⟩:=hfl;cases hr;exact jE.out (o:=.rt v) (fl:=.ret u) Z L ⟨u,rfl,ru⟩ (Shr.refl _) (λ _ _ _ q=>q) h
theorem kh{body:List Stmt}{Q:Flow->Shared->Prop}{E:Value->Shared->Prop}(hset:dO it=true)(h:wpAny (model prog w) A (eval it env) (λ x s₁=>wpAny (model prog w) A (pyIter x) (λ itv s₂=>wpAny (model prog w) A (runOwn (.forLoop t itv body [] env) env) Q E s₂) E s₁) E s) :
  wpAny (model prog w) A (exec (.For t it body [] pos) env) Q E s:=by
 have hset':∀x,foldedSetIterable it env x=pure x:=λ x=>by cases it<;>first | rfl | exact nob hset
 rw[arm_exec_For];exact wpAny_bind (wpAny_standAt (wpAny_bind (wpAny_mono h (λ x s₁ hq=>wpAny_bind (wpAny_of_eq (hset' x) (wpAny_bind (wpAny_standAt (wpAny_bind (wpAny_holding hq)))))) λ _ _ q=>q)))
end
end Mine.Internal
end
section
namespace Mine.Internal
open PySem PyProof.Rows
section
variable{J Y:Addr->Prop}{A:Around}{env:Env}
variable{ρ ρ' ρ₁:ah}{σ σ' σ₁ σ₂ σ₃:aa}{s s' s'':Shared}{ι ι' ι'':Loc}{e f t it:Expr}{pos:Pos}{k:Nat}{o:Out}
inductive Cw(J:Addr->Prop)(wr:List Addr)(env:Env)(step:V->ah->aa->Res)(s₀:Shared)(ι₀:Loc)(σ₀:aa)(rs:List (Value×PyData))(ds:List PyData)(St:Nat->Heap->Prop)(o:Out)(ρ':ah)(σ':aa)(n:Nat)(s:Shared):Prop
 |mk (i:Nat) (ρi:ah) (σi:aa) (ι':Loc) (m cm:Str->Option Value) (le:i<=ds.length) (hn:n=ds.length-i) (L:jE J (·∈wr) env s₀ ι₀ σ₀ s ρi σi ι' m cm) (st:St i s.heap) (rd:∀p∈rs,RD (Ex (JW J (·∈wr)) ι' σi) s.heap p.1 p.2)
  (go:forL step ((ds.drop i).map V.d) ρi σi=some (o,ρ',σ'))
theorem yn{body:List Stmt}{xsb:ah->aa->Res}{xs:List V}(hE:aI env)(hA:AOK A k)(hset:dO it=true)(hst:∀z∈ak t,aN env z)
  (hIt:ItS prog w hB C J A env t it ρ σ xs σ₁) (hf:forL (λ x ρ σ=>(aQ t x ρ).bind λ ρ=>xsb ρ σ) xs ρ σ₁=some (o,ρ',σ'))
  (hBody:∀J',∀ρa σa oa ρb σb,xsb ρa σa=some (oa,ρb,σb)->XS prog w hB C J' A env (execs body env) ρa σa oa ρb σb) :
  XS prog w hB C J A env (exec (.For t it body [] pos) env) ρ σ o ρ' σ':=λ ι s m cm Q E F R S h _=>by
 refine kh hset (hIt ι s m cm _ E F R S λ s₁ ι₁ h₂ tk I wr ds fp rs St g hx at'=>?_);obtain⟨Z,L0⟩:=jE.start (W:=(·∈wr)) (s₂:={ s₁ with heap:=h₂,toks:=tk }) F R S g ⟨rfl,GX.refl _⟩ at'.kp at'.new;have hJ':∀b,JW J (·∈wr) b->J b\/s₁.heap.get? b=none:=λ b hb=>hb.imp id λ q=>(at'.new b q).1;refine wpAny_runOwn (codeAny_forLoop_any (Cw J wr env (λ x ρ σ=>(aQ t x ρ).bind λ ρ=>xsb ρ σ) s ι σ rs ds St o ρ' σ') (λ n s' hI=>?_) (ds.length-0)
  ⟨0,ρ,σ₁,ι₁,m,cm,Nat.zero_le _,rfl,L0,at'.st,λ p hp=>(at'.rd p hp).fG hJ' λ b o _ q=>at'.kp b o q,by rw[List.drop_zero,<-hx];exact hf⟩)
 obtain⟨i,ρi,σi,ι',m',cm',le,rfl,L,st,rd,go⟩:=hI;refine Classical.byCases (p:=i<ds.length) (λ hi=>?_) (λ hi=>?_)
 ·rw[List.drop_eq_getElem_cons hi,List.map_cons] at go;refine bC λ k9=>?_;obtain⟨oa,ρb,σb,h1,hrest⟩:=bd3 go;obtain⟨ρa,hbi,hxs⟩:=bd1 h1;refine k9 ?_;refine wpAny_mono (at'.ok.step (JW J (·∈wr)) ι' σi s' i _ L.sr rd (λ b hb=>.inr hb) (List.getElem?_eq_getElem hi) st _ _ λ v ha tka q1 q2 q3 q4=>?_) (λ r s₁' hr=>hr.elim λ v hv=>by rw[hv.1];exact hv.2) λ _ _ q=>q;refine L.turn (x:=.d ds[i]) hE hA hst Z ⟨rfl,GX.refl _⟩ q1 q2 q4 hbi (λ q=>by rw[q] at hrest;cases hrest) (hBody _ ρa σi oa ρb σb hxs) λ fl sc ιc mc cmc Lc hfl kw mv=>?_;have stc:St (i+1) sc.heap:=at'.ok.frame _ _ _ q3 λ b hb o ho=>(at'.ok.fpok b hb).elim (λ q=>kw b o q ho) fun⟨d,q⟩=>by
   obtain⟨_,_,hx⟩:=RD.mH ((rd _ q).bE λ b o hb ho=>q1 b o (λ q=>hb (.inr q)) ho);exact mv.kp b o hx ho
  have X:u7 (∃m,m<ds.length-i/\Cw J wr env (λ x ρ σ=>(aQ t x ρ).bind λ ρ=>xsb ρ σ) s ι σ rs ds St o ρ' σ' m sc) Q sc fl:=ix Z Lc hfl hrest h λ hgo=>⟨ds.length-(i+1),Nat.sub_lt_sub_left hi (Nat.lt_succ_self i),i+1,ρb,σb,ιc,mc,cmc,hi,rfl,Lc,stc,λ p hp=>((rd p hp).bE λ b o hb ho=>q1 b o (λ q=>hb (.inr q)) ho).mv mv,hgo⟩;cases fl<;>exact X
 ·obtain rfl:i=ds.length:=Nat.le_antisymm le (Nat.le_of_not_lt hi);rw[List.drop_length] at go;refine bC λ k9=>?_;cases go;refine k9 ?_;exact at'.ok.done s' st _ _ λ h' tk' kp=>wpAny_execs_nil (L.out (o:=.nx) (fl:=.next) Z rfl ⟨rfl,GX.refl _⟩ kp h)
end
end Mine.Internal
end
section
namespace Mine.Internal
open PySem PyProof.Rows
section
variable{J Y:Addr->Prop}{A:Around}{env:Env}
variable{ρ ρ' ρ₁:ah}{σ σ' σ₁ σ₂ σ₃:aa}{s s' s'':Shared}{ι ι' ι'':Loc}{e f t it:Expr}{pos:Pos}{k:Nat}{o:Out}
inductive Cs(J:Addr->Prop)(env:Env)(step:V->ah->aa->Res)(s₀:Shared)(ι₀:Loc)(σ₀:aa)(l:Nat)(a I:Addr)(o:Out)(ρ':ah)(σ':aa)(n:Nat)(s:Shared):Prop
 |mk (i:Nat) (ρi:ah) (σi:aa) (ι':Loc) (m cm:Str->Option Value) (L:jE J (·=I) env s₀ ι₀ σ₀ s ρi σi ι' m cm) (it:s.heap.IsListIter I a i) (at':(ι' l).1=a/\l<σi.length) (go:jc step l n i ρi σi=some (o,ρ',σ'))
end
section
namespace xs_forO_e
noncomputable section
def P(J:Addr->Prop)(A:Around)(env:Env)(ρ:ah)(ρ':ah)(σ:aa)(σ':aa)(σ₁:aa)(t:Expr)(it:Expr)(pos:Pos)(k:Nat)(body:List Stmt)(xsb:ah->aa->Res)(l:Nat):Prop:=∀(o:Out) (fuel:Nat) (hE:aI env) (hA:AOK A k) (hset:dO it=true) (htg:gk t) (hst:∀z∈ak t,aN env z) (hIt:EvS prog w hB C J A env it ρ σ (.o l) σ₁) (hf:jc (λ x ρ σ=>(aQ t x ρ).bind λ ρ=>xsb ρ σ) l fuel 0 ρ σ₁=some (o,ρ',σ')) (hBody:∀J',∀ρa σa oa ρb σb,xsb ρa σa=some (oa,ρb,σb)->XS prog w hB C J' A env (execs body env) ρa σa oa ρb σb),XS prog w hB C J A env (exec (.For t it body [] pos) env) ρ σ o ρ' σ'
def x:(Addr->Prop)×(Around)×(Env)×(ah)×(ah)×(aa)×(aa)×(aa)×(Expr)×(Expr)×(Pos)×(Nat)×(List Stmt)×(ah->aa->Res)×(Nat):=@Classical.epsilon _ ⟨(default,{},default,default,default,default,default,default,default,default,default,default,default,default,default)⟩ λ x=>¬P x.1 x.2.1 x.2.2.1 x.2.2.2.1 x.2.2.2.2.1 x.2.2.2.2.2.1 x.2.2.2.2.2.2.1 x.2.2.2.2.2.2.2.1 x.2.2.2.2.2.2.2.2.1 x.2.2.2.2.2.2.2.2.2.1 x.2.2.2.2.2.2.2.2.2.2.1 x.2.2.2.2.2.2.2.2.2.2.2.1 x.2.2.2.2.2.2.2.2.2.2.2.2.1 x.2.2.2.2.2.2.2.2.2.2.2.2.2.1 x.2.2.2.2.2.2.2.2.2.2.2.2.2.2
def J:Addr->Prop:=x.1
def A:Around:=x.2.1
def env:Env:=x.2.2.1
def ρ:ah:=x.2.2.2.1
def ρ':ah:=x.2.2.2.2.1
def σ:aa:=x.2.2.2.2.2.1
def σ':aa:=x.2.2.2.2.2.2.1
def σ₁:aa:=x.2.2.2.2.2.2.2.1
def t:Expr:=x.2.2.2.2.2.2.2.2.1
def it:Expr:=x.2.2.2.2.2.2.2.2.2.1
def pos:Pos:=x.2.2.2.2.2.2.2.2.2.2.1
def k:Nat:=x.2.2.2.2.2.2.2.2.2.2.2.1
def body:List Stmt:=x.2.2.2.2.2.2.2.2.2.2.2.2.1
def xsb:ah->aa->Res:=x.2.2.2.2.2.2.2.2.2.2.2.2.2.1
def l:Nat:=x.2.2.2.2.2.2.2.2.2.2.2.2.2.2
theorem core:P J A env ρ ρ' σ σ' σ₁ t it pos k body xsb l:=λ o fuel hE hA hset htg hst hIt hf hBody=>λ ι s m cm Q E F R S h _=>by
 refine kh hset (hIt ι s m cm _ E F R S λ x s₁ ι₁ g rx=>?_);obtain⟨rfl,hlt⟩:=rx;cases fuel with
 |zero=>first | exact no hf | exact nob hf | cases hf
 |succ fuel=>
  refine bC λ k9=>?_;obtain⟨xs₀,hxs₀,_⟩:=km hf;obtain⟨vs₀,n₀,q1,q2,q3⟩:=g.sr.node l _ hxs₀;refine k9 ?_;refine wpAny_pyIter_list (IsList.of q1) ?_;have kp2:∀b o,s₁.heap.get? b=some o->(s₁.heap.push { cls:=.type "list_iterator",data:=.fields #[.ref (ι₁ l).1,.int 0 0] }).get? b=some o:=λ b o q=>Heap.get?_push_of_some _ q;obtain⟨Z,L0⟩:=jE.start (W:=(·=s₁.heap.objs.size)) (s₂:={ s₁ with heap:=s₁.heap.push { cls:=.type "list_iterator",data:=.fields #[.ref (ι₁ l).1,.int 0 0] } }) F R S g ⟨rfl,GX.refl _⟩ kp2 λ b hb=>⟨hb▸aD _,_,hb▸Heap.get?_push_size _ rfl⟩;refine wpAny_runOwn (codeAny_forLoop_any (Cs J env (λ x ρ σ=>(aQ t x ρ).bind λ ρ=>xsb ρ σ) s ι σ l (ι₁ l).1 s₁.heap.objs.size o ρ' σ') (λ n s' hI=>?_) (fuel+1)
   ⟨0,ρ,σ₁,ι₁,m,cm,L0,⟨_,Heap.get?_push_size _ rfl,rfl,rfl⟩,⟨rfl,hlt⟩,hf⟩)
  obtain⟨i,ρi,σi,ι',m',cm',L,it',at',go⟩:=hI;cases n with
  |zero=>first | exact no go | exact nob go | cases go
  |succ n=>
   refine bC λ k9=>?_;obtain⟨xs,hn,go⟩:=km go;obtain⟨vs,nn,p1,p2,p3⟩:=L.sr.node l _ hn;refine k9 ?_;rw[at'.1] at p1;cases hx:xs[i]? with
   |none=>
    rw[hx] at go;refine bC λ k9=>?_;cases go;refine k9 ?_;refine wpAny_pyNext_list_end hA.handled it' (IsList.of p1) ?_ λ h' he'=>wpAny_execs_nil (L.out (o:=.nx) (fl:=.next) Z rfl ⟨rfl,GX.refl _⟩ he' h);rw[List.getElem?_toArray];exact List.getElem?_eq_none (p3.1▸List.getElem?_eq_none_iff.mp hx)
   |some x=>
    rw[hx] at go;refine bC λ k9=>?_;obtain⟨oa,ρb,σb,h1,hrest⟩:=bd3 go;obtain⟨ρa,hbi,hxs⟩:=bd1 h1;obtain⟨v,hv,rv⟩:=p3.get hx;refine k9 ?_;refine wpAny_pyNext_list_item it' (IsList.of p1) (x:=v) (List.getElem?_toArray.trans hv) λ ha hit' hs'=>?_;refine bC λ k9=>?_;obtain⟨oI,hoI,hcI,hdI⟩:=id hit';refine k9 ?_;have kpa:∀b o,¬b=s₁.heap.objs.size->s'.heap.get? b=some o->ha.get? b=some o:=λ b o hb ho=>hs'.extBut b o hb ho;refine AI htg hoI hcI hdI (by decide) (L.turn hE hA hst Z ⟨rfl,GX.refl _⟩ kpa (λ b hb=>⟨oI,hb▸hoI⟩) ((lY (s:=s') L.sr rv).bE λ b o hb ho=>kpa b o (λ q=>hb (.inr q)) ho) hbi (λ q=>by rw[q] at hrest;cases hrest) (hBody _ ρa σi oa ρb σb hxs) λ fl sc ιc mc cmc Lc hfl kw mv=>?_);have X:u7 (∃m,m<n+1/\Cs J env (λ x ρ σ=>(aQ t x ρ).bind λ ρ=>xsb ρ σ) s ι σ l (ι₁ l).1 s₁.heap.objs.size o ρ' σ' m sc) Q sc fl:=ix Z Lc hfl hrest h λ hgo=>
     ⟨n,Nat.lt_succ_self _,i+1,ρb,σb,ιc,mc,cmc,Lc,hit'.at λ o ho=>kw _ o rfl ho,⟨(congrArg Prod.fst (mv.at' l at'.2).1).trans at'.1,(mv.at' l at'.2).2⟩,hgo⟩
    cases fl<;>exact X
end
end xs_forO_e
variable{J Y:Addr->Prop}{A:Around}{env:Env}
variable{ρ ρ' ρ₁:ah}{σ σ' σ₁ σ₂ σ₃:aa}{s s' s'':Shared}{ι ι' ι'':Loc}{e f t it:Expr}{pos:Pos}{k:Nat}{o:Out}
theorem vO{body:List Stmt}{xsb:ah->aa->Res}{l fuel:Nat}(hE:aI env)(hA:AOK A k)(hset:dO it=true)(htg:gk t)(hst:∀z∈ak t,aN env z)
  (hIt:EvS prog w hB C J A env it ρ σ (.o l) σ₁) (hf:jc (λ x ρ σ=>(aQ t x ρ).bind λ ρ=>xsb ρ σ) l fuel 0 ρ σ₁=some (o,ρ',σ'))
  (hBody:∀J',∀ρa σa oa ρb σb,xsb ρa σa=some (oa,ρb,σb)->XS prog w hB C J' A env (execs body env) ρa σa oa ρb σb):XS prog w hB C J A env (exec (.For t it body [] pos) env) ρ σ o ρ' σ':=aw (Q:=λ x:(Addr->Prop)×(Around)×(Env)×(ah)×(ah)×(aa)×(aa)×(aa)×(Expr)×(Expr)×(Pos)×(Nat)×(List Stmt)×(ah->aa->Res)×(Nat)=>xs_forO_e.P x.1 x.2.1 x.2.2.1 x.2.2.2.1 x.2.2.2.2.1 x.2.2.2.2.2.1 x.2.2.2.2.2.2.1 x.2.2.2.2.2.2.2.1 x.2.2.2.2.2.2.2.2.1 x.2.2.2.2.2.2.2.2.2.1 x.2.2.2.2.2.2.2.2.2.2.1 x.2.2.2.2.2.2.2.2.2.2.2.1 x.2.2.2.2.2.2.2.2.2.2.2.2.1 x.2.2.2.2.2.2.2.2.2.2.2.2.2.1 x.2.2.2.2.2.2.2.2.2.2.2.2.2.2) xs_forO_e.core (J,A,env,ρ,ρ',σ,σ',σ₁,t,it,pos,k,body,xsb,l) o fuel hE hA hset htg hst hIt hf hBody
inductive Co(J:Addr->Prop)(env:Env)(step:ah->aa->Res)(s₀:Shared)(ι₀:Loc)(σ₀:aa)(o:Out)(ρ':ah)(σ':aa)(n:Nat)(s:Shared):Prop
 |mk (ρi:ah) (σi:aa) (ι':Loc) (m cm:Str->Option Value) (L:jE J (λ _=>False) env s₀ ι₀ σ₀ s ρi σi ι' m cm) (go:xj step n ρi σi=some (o,ρ',σ'))
theorem s9{body:List Stmt}{xsb:ah->aa->Res}{fuel kk:Nat}{cp:Pos}(hf:xj xsb fuel ρ σ=some (o,ρ',σ'))
  (hBody:∀J',∀ρa σa oa ρb σb,xsb ρa σa=some (oa,ρb,σb)->XS prog w hB C J' A env (execs body env) ρa σa oa ρb σb) :
  XS prog w hB C J A env (exec (.While (.Constant (.bool true) kk cp) body [] pos) env) ρ σ o ρ' σ':=λ ι s m cm Q E F R S h _=>by
 obtain⟨Z,L0⟩:=jE.start (W:=λ _=>False) F R S (Goes.refl S) (Shr.refl _) (λ _ _ q=>q) λ b hb=>hb.elim;refine wpAny_While (codeAny_whileLoop (Co J env xsb s ι σ o ρ' σ') (λ n s' hI=>?_) fuel ⟨ρ,σ,ι,m,cm,L0,hf⟩);obtain⟨ρi,σi,ι',m',cm',L,go⟩:=hI;refine isTrue_plain ((mZ true:EvS prog w hB C (JW J λ _=>False) A env (.Constant (.bool true) kk cp) ρi σi (.d (.bool true)) σi) ι' s' m' cm' _ _ L.fr L.er L.sr λ v s₁ ι₁ g₁ r₁=>?_);cases r₁;refine wpAny_truthy_bool ?_;cases n with
 |zero=>first | exact no go | exact nob go | cases go
 |succ n=>
  obtain⟨oa,ρb,σb,hxs,hrest⟩:=bd3 go;refine hBody _ ρi σi oa ρb σb hxs ι₁ s₁ m' cm' _ _ (L.fr.evo L.sr g₁.evo) (L.er.evo g₁.evo) g₁.sr (λ fl sc ιc mc cmc gc Fc Rc hfl=>?_) (λ ea s' ι' q=>by rw[q] at hrest;cases hrest);have Lc:jE J (λ _=>False) env s ι σ sc ρb σb ιc mc cmc:=⟨(L.same.trans g₁.same).trans gc.same,(L.evo.trans g₁.evo.toF).trans gc.evo,gc.sr,Fc,Rc⟩;have X:u7 (∃m,m<n+1/\Co J env xsb s ι σ o ρ' σ' m sc) Q sc fl:=ix Z Lc hfl hrest h λ hgo=>⟨n,Nat.lt_succ_self _,ρb,σb,ιc,mc,cmc,Lc,hgo⟩;cases fl<;>exact X
end
end Mine.Internal
end
section
namespace Mine.Internal
open PySem PyProof.Rows
theorem dw{α:Type}:∀(xs:List α) (i:Nat) (x:α),xs[i]?=some x->xs.Perm (x::xs.eraseIdx i)
 |[],i,x,h=>by simp at h
 |y::ys,0,x,h=>by simp at h;subst h;simp
 |y::ys,i+1,x,h=>by
  simp at h;have:=dw ys i x h;rw[List.eraseIdx_cons_succ];exact(List.Perm.cons y this).trans (List.Perm.swap x y _)
theorem wF{α:Type}(next:Nat->Nat):∀(fuel k:Nat) (left:List α) (out:Array α),left.length<=fuel->(pickOrder.go next fuel k left out).toList.Perm (out.toList++left):=by
 intro fuel
 induction fuel with
 |zero=>
  intro k left out h;have:left=[]:=List.length_eq_zero_iff.mp (by omega);subst this;rw[List.append_nil];exact List.Perm.refl _
 |succ fuel ih=>
  intro k left out h;show(match left[next k % left.length]? with | some x=>pickOrder.go next fuel (k+1) (left.eraseIdx (next k % left.length)) (out.push x) | none=>out).toList.Perm _;by_cases hl:left=[]
  ·subst hl;simp
  ·have hpos:0<left.length:=List.length_pos_iff.mpr hl;have hi:next k % left.length<left.length:=Nat.mod_lt _ hpos
   have hx:left[next k % left.length]?=some left[next k % left.length]:=List.getElem?_eq_getElem hi;rw[hx];dsimp only;refine(ih (k+1) _ _ ?_).trans ?_
   ·rw[List.length_eraseIdx,if_pos hi];omega
   ·rw[Array.toList_push,List.append_assoc];exact List.Perm.append_left _ (dw left _ _ hx).symm
theorem qU{α:Type}(next:Nat->Nat)(xs:Array α):(pickOrder next xs).toList.Perm xs.toList:=by
 have:=wF next xs.size 0 xs.toList #[] (by simp)
 exact this
section
variable{A:Around}{E:Value->Shared->Prop}
theorem gD{α:Type}:∀(n:Nat) (xs:List α) (s:Shared) (Q:List α->Shared->Prop),n=xs.length->(∀ys d,ys.Perm xs->Q ys { s with drawn:=d })->wpAny (model prog w) A (drawOrder n xs) Q E s
 |0,xs,s,Q,hn,h=>by
  have:xs=[]:=List.length_eq_zero_iff.mp hn.symm;subst this;exact wpAny_pure (h [] s.drawn (List.Perm.refl _))
 |n+1,[],s,Q,hn,h=>by simp at hn
 |n+1,x::xs,s,Q,hn,h=>by
  have step:∀(K:Nat->Sem (List α)),(∀i d,i<(x::xs).length->wpAny (model prog w) A (K i) Q E { s with drawn:=d })->wpAny (model prog w) A (choose .order (x::xs).length >>= K) Q E s:=λ K hK=>by
   refine wpAny_bind λ Γ p hΓ=>?_;refine⟨by simp,?_⟩;exact hK _ _ (Nat.mod_lt _ (by simp))
  show wpAny _ _ (choose .order (x::xs).length >>= _) _ _ _;refine step _ λ i d hi=>?_;have hx:(x::xs)[i]?=some (x::xs)[i]:=List.getElem?_eq_getElem hi;rw[hx];dsimp only;refine wpAny_bind (gD n _ _ _ ?_ λ ys d' hp=>wpAny_pure (h _ d' ?_))
  ·rw[List.length_eraseIdx,if_pos hi];simp at hn ⊢;exact hn
  ·exact(List.Perm.cons _ hp).trans (dw _ _ _ hx).symm
end
theorem mJ:Manifest.owners.lookup (String.ofList ['r','o','t','a','r','e','t','i','_','t','e','s'].reverse)=some Manifest.sig_set_iterator:=by kernel_rfl
theorem cP:Slot "set_iterator" "__next__" "set_iterator.__next__":=
 .of (owner:="set_iterator") (n:="__next__") (by rw[typeLookup_type,builtinLookup_eq_fast];kernel_rfl) (by decide +kernel) (by decide +kernel) (by decide +kernel)
  (by first | exact .inl (by decide +kernel) | exact .inr (by decide +kernel)) (by rw[isSubtype_type];kernel_rfl)
theorem gK:entryFor table "set_iterator.__next__"=some Builtin.«set_iterator.__next__»:=entryFor_of_tree (by kernel_rfl)
theorem jd:entryFor table "set.__iter__"=some Builtin.«frozenset.__iter__»:=
 entryFor_alias (id':="frozenset.__iter__") (by kernel_rfl) rfl (by decide +kernel) (by kernel_rfl)
theorem iW(a:Value):argsOk "set_iterator.__next__" ⟨[a],[]⟩:=by
 unfold argsOk;rw[signature?_of (id:="set_iterator.__next__") (n:=['_','_','t','x','e','n','_','_']) (o:=['r','o','t','a','r','e','t','i','_','t','e','s']) (by kernel_rfl) mJ];kernel_rfl
noncomputable abbrev Md:=Option (Addr×List Nat)
noncomputable def ja(a:Addr)(es:Array (Int×Value))(ep:Nat):Md->List (Int×Value)
 |none=>bif FT then(pickOrder (w.params.setOrder a ep) es).toList else es.toList
 |some x=>x.2.filterMap (es[·]?)
noncomputable abbrev yj(h:Heap)(I:Addr)(first:Value)(i:Nat)(a:Addr)(n ep:Nat):Prop:=
 h.get? I=some { cls:=.type "set_iterator",dict:=none,data:=.fields #[first,rawInt (i:Int),.ref a,rawInt (n:Int),rawInt (ep:Int)],slots:=#[] }
noncomputable def slotAt(t:SetTable):Nat->Nat
 |0=>0
 |i+1=>t.place.getD i 0+1
noncomputable def zC(t:SetTable)(i:Nat):Nat:=bif FT then 0 else slotAt t i
noncomputable def Bn(t:SetTable)(i:Nat):Md->Value
 |none=>rawInt (zC t i)
 |some x=>.ref x.1
noncomputable def Cu(h:Heap)(I:Addr)(es:Array (Int×Value))(t:SetTable):Md->Prop
 |none=>FT=false->(!t.plain && decide (es.size > 1))=false
 |some x=>x.1≠I/\h.get? x.1=some (c6 (x.2.map fun(p:Nat)=>rawInt (p:Int)) 0)/\x.2.Perm (List.range es.size)
structure SIt(h:Heap)(I a:Addr)(es:Array (Int×Value))(ep:Nat)(t:SetTable)(md:Md)(i:Nat):Prop where
 set:∃o,h.get? a=some o/\o.data=.set es ep t
 fits:t.fits es.size=true
 ne:a≠I
 tb:TB t
 obj:yj h I (Bn t i md) i a es.size ep
 mode:Cu h I es t md
theorem SIt.keep{h h':Heap}{I a:Addr}{es:Array (Int×Value)}{ep:Nat}{t:SetTable}{md:Md}{i:Nat}(x:SIt h I a es ep t md i)(hI:∀o,h.get? I=some o->h'.get? I=some o)(ha:∀o,h.get? a=some o->h'.get? a=some o)
  (hT:∀T pl,md=some (T,pl)->∀o,h.get? T=some o->h'.get? T=some o):SIt h' I a es ep t md i:=by
 refine⟨(by obtain⟨o,h1,h2⟩:=x.set;exact⟨o,ha o h1,h2⟩),x.fits,x.ne,x.tb,hI _ x.obj,?_⟩;have m:=x.mode;cases md with
 |none=>exact m
 |some d=>exact⟨m.1,hT _ _ rfl _ m.2.1,m.2.2⟩
theorem SIt.perm{h:Heap}{I a:Addr}{es:Array (Int×Value)}{ep:Nat}{t:SetTable}{md:Md}{i:Nat}(x:SIt h I a es ep t md i):(ja a es ep md).Perm es.toList:=by
 have m:=x.mode;cases md with
 |none=>
  show List.Perm (bif FT then _ else _) _;cases FT with
  |true=>exact qU _ _
  |false=>exact List.Perm.refl _
 |some d=>exact(m.2.2.filterMap _).trans (filterMap_getElem?_range es▸List.Perm.refl _)
end Mine.Internal
end
section
namespace Mine.Internal
open PySem PyProof.Rows
section
variable{A:Around}{E:Value->Shared->Prop}{s:Shared}
theorem f5{a:Addr}{o:Obj}{es:Array (Int×Value)}{ep:Nat}{t:SetTable}{Q:Array (Int×Value)->Shared->Prop}(ho:s.heap.get? a=some o)(hd:o.data=.set es ep t)(hf:t.fits es.size=true)(h:Q es s):wpAny (model prog w) A (setEntries a) Q E s:=by
 unfold setEntries;exact wpAny_bind (wpAny_setState_of ho hd hf (wpAny_pure h))
set_option maxHeartbeats 1000000 in
theorem pb{a:Addr}{xs:List Int}{Q:Value->Shared->Prop}(X:eD w s.heap a xs)
  (hQ:∀h' d I es ep t md,(∀b o,s.heap.get? b=some o->h'.get? b=some o)->s.heap.get? I=none->(∀T pl,md=some (T,pl)->s.heap.get? T=none)->SIt h' I a es ep t md 0->EL es xs->Q (.ref I) { s with heap:=h',drawn:=d }):wpAny (model prog w) A (pyIter (.ref a)) Q E s:=by
 refine bC λ k9=>?_;have hT:=X.typeIs;obtain⟨o,es,ep,tb,ho,hex,hd,el,hx4,hf,TBt⟩:=X;refine k9 ?_;have hal:=Heap.lt_size ho;refine wpAny_pyIter_slot hT F.slot_set_iter (wpAny_call_entry F.slot_set_iter hT jd ?_ (F.args_set_iter_1 _));delta Builtin.«frozenset.__iter__» Builtin.Frozenset.slot0 Builtin.Frozenset.sizeOf;refine wpAny_bind (wpAny_bind (m:=slotArgs _ _ _) (wpAny_pure ?_));show wpAny _ _ (pure a) _ _ _;refine wpAny_pure ?_;refine wpAny_bind (wpAny_bind (f5 ho hd hf (wpAny_pure ?_)));refine wpAny_bind ?_;delta setDrawn;refine wpAny_bind (wpAny_setState_of ho hd hf ?_);delta setsByText;refine wpAny_bind (wpAny_bind (wpAny_askSetting (wpAny_pure ?_)));show wpAny _ _ (pure (!FT && (!tb.plain && decide (es.size > 1)))) _ _ _;refine wpAny_pure ?_;have tail:∀(first:Value) (s₁:Shared) (d:Drawn) (md:Md),s₁.drawn=d->s₁.gens=s.gens->s₁.toks=s.toks->s₁.os=s.os->s.heap.objs.size<=s₁.heap.objs.size->(∀b ob,s.heap.get? b=some ob->s₁.heap.get? b=some ob)->first=Bn tb 0 md->(∀T pl,md=some (T,pl)->s.heap.get? T=none/\T<s₁.heap.objs.size)->Cu s₁.heap s₁.heap.objs.size es tb md->
   wpAny (model prog w) A.in1 (do ret (<-newFields "set_iterator" [first,rawInt 0,.ref a,rawInt (es.size:Int),rawInt (<-setEpoch a)])) (λ r s'=>∃v,r=.done (.ret v)/\∃T nid,s'.TypeIs v T/\typeLookup (.type T) "__next__"=pure (some nid)/\Q v s') E s₁:=λ first s₁ d md q1 q2 q3 q4 q5 kp q6 q7 q8=>by
  have ho₁:=kp _ _ ho;refine wpAny_bind (wpAny_setEpoch_of ho₁ hd hf (wpAny_bind (wpAny_newObj_type ?_ (by size_fits))));have kp':∀b ob,s₁.heap.get? b=some ob->(s₁.heap.push { cls:=.type "set_iterator",dict:=none,data:=.fields #[first,rawInt 0,.ref a,rawInt (es.size:Int),rawInt (ep:Int)],slots:=#[] }).get? b=some ob:=λ b ob q=>Heap.get?_push_of_some _ q;refine wpAny_pure ⟨_,rfl,"set_iterator",_,⟨_,Heap.get?_push_size _ rfl,rfl⟩,cP.lookup,?_⟩;cases s₁;cases q1;cases q2;cases q3;cases q4;refine hQ _ _ _ es ep tb md (λ b ob q=>kp' b ob (kp b ob q)) (Heap.get?_none_of_le q5) (λ T pl q=>(q7 T pl q).1) ⟨⟨o,kp' _ _ ho₁,hd⟩,hf,Nat.ne_of_lt (Nat.lt_of_lt_of_le hal q5),TBt,q6▸Heap.get?_push_size _ rfl,?_⟩ el;cases md with
  |none=>exact q8
  |some x=>exact⟨q8.1,kp' _ _ q8.2.1,q8.2.2⟩
 cases hb:(!FT && (!tb.plain && decide (es.size > 1))) with
 |true=>
  simp only[if_true];refine wpAny_bind (gD es.size (List.range es.size) s _ (List.length_range).symm λ pl d hp=>?_);have hpl:(pl.map fun(i:Nat)=>rawInt (i:Int)).length<=sizeLine:=by
   rw[List.length_map,hp.length_eq,List.length_range];exact Nat.le_trans (Nat.le_trans el.le hx4) (by decide)
  refine wpAny_bind (wpAny_newTuple ?_ hpl);have hsz1:(s.heap.push { cls:=.type "tuple",data:=.seq (pl.map fun(i:Nat)=>rawInt (i:Int)).toArray }).objs.size=s.heap.objs.size+1:=Heap.size_push ..;exact tail _ { s with heap:=s.heap.push { cls:=.type "tuple",data:=.seq (pl.map fun(i:Nat)=>rawInt (i:Int)).toArray },drawn:=d } d (some (s.heap.objs.size,pl)) rfl rfl rfl rfl (hsz1▸Nat.le_succ _) (λ b ob q=>Heap.get?_push_of_some _ q) rfl (λ T pl' q=>by cases q;exact⟨aD _,hsz1▸Nat.lt_succ_self _⟩) ⟨Nat.ne_of_lt (hsz1▸Nat.lt_succ_self _),Heap.get?_push_size _ rfl,hp⟩
 |false=>
  simp only[Bool.false_eq_true,if_false];refine wpAny_bind (wpAny_pure (tail _ s s.drawn none rfl rfl rfl rfl (Nat.le_refl _) (λ _ _ q=>q) ?_ (λ _ _ q=>by cases q) λ q=>?_))
  ·show _=rawInt ((bif FT then 0 else slotAt tb 0:Nat):Int);cases FT<;>rfl
  ·rw[q] at hb;exact hb
end
end Mine.Internal
end
section
namespace Mine.Internal
open PySem PyProof.Rows
section
variable{A:Around}{E:Value->Shared->Prop}{s:Shared}
variable{I a:Addr}{es:Array (Int×Value)}{ep:Nat}{t:SetTable}{md:Md}{i:Nat}
theorem jg{β:Type}{c:Prop}[Decidable c]{M:Model}{x y:Sem β}{Q:β->Shared->Prop}(h:¬c)(k:wpAny M A y Q E s):wpAny M A (if c then x else y) Q E s:=by rw[if_neg h];exact k
theorem vc{β:Type}{c:Prop}[Decidable c]{M:Model}{x y:Sem β}{Q:β->Shared->Prop}(h:c)(k:wpAny M A x Q E s):wpAny M A (if c then x else y) Q E s:=by rw[if_pos h];exact k
theorem p7(T:TB t)(hf:t.fits es.size=true)(hi:i<=es.size):SetTable.below t.place (slotAt t i)=i/\t.place.size=es.size:=by
 have hps:t.place.size=es.size:=eq_of_beq (aB hf).1;refine⟨?_,hps⟩;cases i with
 |zero=>exact pZ T.ris
 |succ j=>
  have hj:j<t.place.size:=hps▸hi;have:=p8 T.ris hj;show SetTable.below t.place (t.place.getD j 0+1)=j+1;rwa [show t.place.getD j 0=t.place[j] from dif_pos hj]
theorem o9{o:Obj}{Q:Option (Value×Nat)->Shared->Prop}(ho:s.heap.get? a=some o)(hd:o.data=.set es ep t)(hf:t.fits es.size=true)(T:TB t)(hp:FT=false->(!t.plain && decide (es.size > 1))=false)(hi:i<=es.size)
  (h:Q ((ja a es ep none)[i]?.map λ e=>(e.2,zC t (i+1))) s):wpAny (model prog w) A (setNext a (zC t i) i ep) Q E s:=by
 delta setNext;refine wpAny_bind (wpAny_setState_of ho hd hf ?_);dsimp only;delta setsByText;refine wpAny_bind (wpAny_bind (wpAny_askSetting (wpAny_pure ?_)));unfold ja zC at *;have h0:=T.led;show wpAny _ _ (if FT=true then _ else _) _ _ _;cases hft:FT with
 |true=>
  rw[hft] at h;refine vc rfl (jg (by simp) ?_);delta setWalk setsByText;refine wpAny_bind (wpAny_bind (wpAny_setState_of ho hd hf ?_));refine wpAny_bind (wpAny_bind (wpAny_askSetting (wpAny_pure ?_)));refine vc hft ?_;refine wpAny_bind (wpAny_askSetting (wpAny_pure (wpAny_pure ?_)));have h:Q (Option.map (λ e=>(e.2,0)) ((pickOrder (w.params.setOrder a ep) es).toList[i]?)) s:=h;rw[Array.getElem?_toList] at h;exact h
 |false=>
  rw[hft] at h h0;refine jg (by simp) (jg (λ q=>by cases(hp hft).symm.trans q) ?_);show wpAny _ _ ((if(!t.led && !es.isEmpty)=true then unsupported "set:maker-not-led" else pure ()) >>= _) _ _ _;rw[h0];refine wpAny_bind (wpAny_pure ?_);obtain⟨q1,q2⟩:=p7 T hf hi;rw[show SetTable.below t.place (bif false then 0 else slotAt t i)=i from q1];refine wpAny_pure ?_;have h:Q (Option.map (λ e=>(e.2,t.place.getD i 0+1)) (es.toList[i]?)) s:=h;rw[Array.getElem?_toList] at h;refine Classical.byCases (p:=i<es.size) (λ hl=>?_) λ hl=>?_
  ·rw[Array.getElem?_eq_getElem hl,Option.map_some,show t.place.getD i 0=t.place[i]'(q2▸hl) from dif_pos (q2▸hl)] at h;rw[Array.getElem?_eq_getElem hl,Array.getElem?_eq_getElem (q2▸hl:i<t.place.size)];exact h
  ·rw[Array.getElem?_eq_none (Nat.le_of_not_lt hl)] at h ⊢;exact h
theorem zG{α β:Type}{f:α->Option β}{l:List α}(h:∀x∈l,∃y,f x=some y)(i:Nat):(l.filterMap f)[i]?=(l[i]?).bind f:=by
 induction l generalizing i with
 |nil=>rfl
 |cons x l ih=>
  obtain⟨y,hy⟩:=h x List.mem_cons_self;rw[List.filterMap_cons_some hy];cases i with
  |zero=>exact hy.symm
  |succ i=>exact ih (λ z hz=>h z (List.mem_cons_of_mem _ hz)) i
theorem vj{h:Heap}{x:Value}{n:Nat}(hI:yj h I x i a n ep)(f:Value):yj (h.update I (Obj.mapFields (·.setIfInBounds 0 f))) I f i a n ep:=
 Heap.get?_update_self (Obj.mapFields (·.setIfInBounds 0 f)) hI rfl
theorem qH{h:Heap}{x:Value}{n:Nat}(hI:yj h I x i a n ep):yj (h.update I (Obj.mapFields (·.setIfInBounds 1 (rawInt ((i:Int)+1))))) I x (i+1) a n ep:=
 Heap.get?_update_self (Obj.mapFields (·.setIfInBounds 1 (rawInt ((i:Int)+1)))) hI rfl
theorem qE{β:Type}{Q:β->Shared->Prop}{Q':Option Value->Shared->Prop}(hh:A.handled=none)(h:∀h',(∀b o,s.heap.get? b=some o->h'.get? b=some o)->Q' none { s with heap:=h' }) :
  wpAny (model prog w) A.in1 (do raiseNew (<-newExc (.type "StopIteration") []):Sem β) Q (λ e s'=>wpAny (model prog w) A (do if<-isInstance e (.type "StopIteration") then pure none else throw e) Q' E s') s:=by
 refine wpAny_bind ?_;simp only[newExc,newTuple];refine wpAny_bind (wpAny_newObj_type ?_ (by size_fits));refine wpAny_bind (m:=firstArgMember _ _) (wpAny_of_eq (a:=Value.none) (by first | rfl | (simp only[firstArgMember];rfl)) ?_);refine wpAny_newObj_type ?_ (by size_fits);simp only[raiseNew];refine wpAny_bind (wpAny_handled ?_);rw[show A.in1.handled=none from hh];refine wpAny_bind (wpAny_pure (wpAny_throw ?_));refine wpAny_bind (wpAny_isInstance (T:="StopIteration") (b:=true) ⟨_,Heap.get?_push_size _ rfl,rfl⟩ isSubtype_stop ?_);exact wpAny_pure (h _ λ b o q=>Heap.get?_push_of_some _ (Heap.get?_push_of_some _ q))
theorem cH{h:Heap}{b:Addr}{o:Obj}{f:Obj->Obj}(hb:b≠I)(q:h.get? b=some o):(h.update I f).get? b=some o:=(Heap.get?_update_other _ _ (Ne.symm hb)).trans q
theorem SIt.next{h h':Heap}(X:SIt h I a es ep t md i)(kp:∀b o,b≠I->h.get? b=some o->h'.get? b=some o)(q:yj h' I (Bn t (i+1) md) (i+1) a es.size ep):SIt h' I a es ep t md (i+1):=by
 refine⟨(by obtain⟨o,h1,h2⟩:=X.set;exact⟨o,kp _ o X.ne h1,h2⟩),X.fits,X.ne,X.tb,q,?_⟩;have m:=X.mode;cases md with
 |none=>exact m
 |some d=>exact⟨m.1,kp _ _ m.1 m.2.1,m.2.2⟩
end
section
namespace next_ok_e
noncomputable section
def P(A:Around)(E:Value->Shared->Prop)(s:Shared)(I:Addr)(t:SetTable)(Q:Option Value->Shared->Prop):Prop:=∀(a:Addr) (es:Array (Int×Value)) (ep:Nat) (md:Md) (i:Nat) (hh:A.handled=none) (X:SIt s.heap I a es ep t md i) (hi:i<=es.size) (hS:∀e h',(ja a es ep md)[i]?=some e->(∀b o,b≠I->s.heap.get? b=some o->h'.get? b=some o)->SIt h' I a es ep t md (i+1)->Q (some e.2) { s with heap:=h' }) (hN:∀h',(ja a es ep md)[i]?=none->(∀b o,b≠I->s.heap.get? b=some o->h'.get? b=some o)->Q none { s with heap:=h' }),wpAny (model prog w) A (pyNext (.ref I)) Q E s
def x:(Around)×(Value->Shared->Prop)×(Shared)×(Addr)×(SetTable)×(Option Value->Shared->Prop):=@Classical.epsilon _ ⟨({},default,{},default,default,default)⟩ λ x=>¬P x.1 x.2.1 x.2.2.1 x.2.2.2.1 x.2.2.2.2.1 x.2.2.2.2.2
def A:Around:=x.1
def E:Value->Shared->Prop:=x.2.1
def s:Shared:=x.2.2.1
def I:Addr:=x.2.2.2.1
def t:SetTable:=x.2.2.2.2.1
def Q:Option Value->Shared->Prop:=x.2.2.2.2.2
set_option maxHeartbeats 1000000 in
theorem core:P A E s I t Q:=λ a es ep md i hh X hi hS hN=>by
 refine bC λ k9=>?_;have hT:s.TypeIs (.ref I) "set_iterator":=⟨_,X.obj,rfl⟩;obtain⟨o,ho,hd⟩:=X.set;refine k9 ?_;unfold pyNext;refine wpAny_bind (wpAny_attempt (wpAny_callSpecial?_slot (name:=Str.ofString "__next__") hT cP (wpAny_call_entry cP hT gK ?_ (iW _))));unfold Builtin.«set_iterator.__next__»;refine wpAny_bind (m:=slotArgs _ _ _) (wpAny_pure ?_);refine wpAny_bind (wpAny_fieldsOf X.obj rfl ?_);cases md with
 |none=>
  refine wpAny_bind (f5 ho hd X.fits (jg (by simp) ?_));refine wpAny_bind (o9 (ep:=ep) ho hd X.fits X.tb X.mode hi ?_);cases hq:(ja a es ep none)[i]? with
  |some e=>
   refine wpAny_bind (wpAny_setField (i:=0) X.obj rfl (Nat.le_of_ble_eq_true rfl) ?_);have h1:=vj X.obj (rawInt (zC t (i+1):Int));refine wpAny_bind (wpAny_setField (i:=1) h1 rfl (Nat.le_of_ble_eq_true rfl) ?_);exact wpAny_pure ⟨_,rfl,wpAny_pure (hS e _ hq (λ b o hb q=>cH hb (cH hb q)) (X.next (λ b o hb q=>cH hb (cH hb q)) (qH h1)))⟩
  |none=>
   refine wpAny_bind (wpAny_setField (i:=2) X.obj rfl (Nat.le_of_ble_eq_true rfl) ?_);exact qE hh λ h' hk=>hN h' hq λ b ob hb q=>hk b ob (cH hb q)
 |some d=>
  obtain⟨m1,m2,m3⟩:=X.mode;refine wpAny_bind (f5 ho hd X.fits (jg (by simp) ?_));refine wpAny_bind (wpAny_seqItems m2 rfl ?_);have hall:∀p∈d.2,∃e,es[p]?=some e:=λ p hp=>⟨_,Array.getElem?_eq_getElem (List.mem_range.mp (m3.mem_iff.mp hp))⟩;have hg:(ja a es ep (some d))[i]?=d.2[i]?.bind (es[·]?):=zG hall i;dsimp only;rw[List.getElem?_toArray,Int.toNat_natCast,List.getElem?_map];cases hp:d.2[i]? with
  |some p=>
   obtain⟨e,he⟩:=hall p (List.mem_of_getElem? hp);rw[hp] at hg;unfold setNextDrawn;refine wpAny_bind (wpAny_bind (wpAny_setState_of ho hd X.fits (jg (by simp) ?_)));dsimp only;rw[show es[((p:Int)).toNat]?=some e from he];refine wpAny_pure (wpAny_bind (wpAny_setField (i:=1) X.obj rfl (Nat.le_of_ble_eq_true rfl) ?_));exact wpAny_pure ⟨_,rfl,wpAny_pure (hS e _ (hg.trans he) (λ b o hb q=>cH hb q) (X.next (λ b o hb q=>cH hb q) (qH X.obj)))⟩
  |none=>
   rw[hp] at hg;refine wpAny_bind (wpAny_setField (i:=0) X.obj rfl (Nat.le_of_ble_eq_true rfl) ?_);refine wpAny_bind (wpAny_setField (i:=2) (vj X.obj _) rfl (Nat.le_of_ble_eq_true rfl) ?_);exact qE hh λ h' hk=>hN h' hg λ b ob hb q=>hk b ob (cH hb (cH hb q))
end
end next_ok_e
variable{A:Around}{E:Value->Shared->Prop}{s:Shared}
variable{I a:Addr}{es:Array (Int×Value)}{ep:Nat}{t:SetTable}{md:Md}{i:Nat}
theorem wV{Q:Option Value->Shared->Prop}(hh:A.handled=none)(X:SIt s.heap I a es ep t md i)(hi:i<=es.size)
  (hS:∀e h',(ja a es ep md)[i]?=some e->(∀b o,b≠I->s.heap.get? b=some o->h'.get? b=some o)->SIt h' I a es ep t md (i+1)->Q (some e.2) { s with heap:=h' })
  (hN:∀h',(ja a es ep md)[i]?=none->(∀b o,b≠I->s.heap.get? b=some o->h'.get? b=some o)->Q none { s with heap:=h' }):wpAny (model prog w) A (pyNext (.ref I)) Q E s:=aw (Q:=λ x:(Around)×(Value->Shared->Prop)×(Shared)×(Addr)×(SetTable)×(Option Value->Shared->Prop)=>next_ok_e.P x.1 x.2.1 x.2.2.1 x.2.2.2.1 x.2.2.2.2.1 x.2.2.2.2.2) next_ok_e.core (A,E,s,I,t,Q) a es ep md i hh X hi hS hN
end
end Mine.Internal
end
section
namespace Mine.Internal
open PySem PyProof.Rows
section
variable{Φ:Or}
theorem pL{step:V->ah->aa->Res}{y:Str}(hs:∀x ρ σ o ρ' σ',step x ρ σ=some (o,ρ',σ')->ρ' y=ρ y):∀(xs:List V) (ρ:ah) (σ:aa) (o:Out) (ρ':ah) (σ':aa),forL step xs ρ σ=some (o,ρ',σ')->ρ' y=ρ y:=by
 intro xs
 induction xs with
 |nil=>
  intro ρ σ o ρ' σ' h;cases h;rfl
 |cons x xs ih=>
  intro ρ σ o ρ' σ' h;obtain⟨oa,ρa,σa,h1,h2⟩:=bd3 h;refine Eq.trans ?_ (hs x ρ σ oa ρa σa h1);cases oa with
  |nx=>exact ih ρa σa o ρ' σ' h2
  |ct=>exact ih ρa σa o ρ' σ' h2
  |_=>cases h2<;>rfl
theorem pK{step:V->ah->aa->Res}{y:Str}{l:Nat}(hs:∀x ρ σ o ρ' σ',step x ρ σ=some (o,ρ',σ')->ρ' y=ρ y):∀(n i:Nat) (ρ:ah) (σ:aa) (o:Out) (ρ':ah) (σ':aa),jc step l n i ρ σ=some (o,ρ',σ')->ρ' y=ρ y:=by
 intro n
 induction n with
 |zero=>
  intro i ρ σ o ρ' σ' h;exact no h
 |succ n ih=>
  intro i ρ σ o ρ' σ' h;obtain⟨ys,_,h⟩:=km h;cases hx:ys[i]? with
  |none=>rw[hx] at h;cases h;rfl
  |some x=>
   rw[hx] at h;obtain⟨oa,ρa,σa,h1,h2⟩:=bd3 h;refine Eq.trans ?_ (hs _ ρ σ oa ρa σa h1);cases oa with
   |nx=>exact ih (i+1) ρa σa o ρ' σ' h2
   |ct=>exact ih (i+1) ρa σa o ρ' σ' h2
   |_=>cases h2<;>rfl
theorem iT{t:Expr}{x:V}{ρ ρ':ah}{y:Str}(h:aQ t x ρ=some ρ')(hy:y∉ak t):ρ' y=ρ y:=by
 obtain⟨_,_,h2⟩:=iU t x ρ ρ' ρ h;rcases h2 y with ⟨q,_⟩ | ⟨_,q,_⟩
 ·exact absurd q hy
 ·exact q
noncomputable def Fr1(Φ:Or)(st:Stmt):Prop:=∀ρ σ o ρ' σ',x1 Φ st ρ σ=some (o,ρ',σ')->∀y,y∉stored st->ρ' y=ρ y
noncomputable def Frs(Φ:Or)(b:List Stmt):Prop:=∀ρ σ o ρ' σ',xs Φ b ρ σ=some (o,ρ',σ')->∀y,y∉aF b->ρ' y=ρ y
theorem wO{α:Type}{a b:List α}{y:α}(h:y∉a++b):y∉a:=λ q=>h (List.mem_append_left _ q)
theorem y0{α:Type}{a b:List α}{y:α}(h:y∉a++b):y∉b:=λ q=>h (List.mem_append_right _ q)
end
section
namespace fr_for_e
noncomputable section
def P(Φ:Or)(t:Expr)(it:Expr)(body:List Stmt)(p:Pos):Prop:=∀(els:List Stmt) (B:Frs Φ body),Fr1 Φ (.For t it body els p)
def x:(Or)×(Expr)×(Expr)×(List Stmt)×(Pos):=@Classical.epsilon _ ⟨(⟨λ _ _=>none,λ _ _ _=>none,λ _=>none,λ _=>false,λ _=>false,default,0⟩,default,default,default,default)⟩ λ x=>¬P x.1 x.2.1 x.2.2.1 x.2.2.2.1 x.2.2.2.2
def Φ:Or:=x.1
def t:Expr:=x.2.1
def it:Expr:=x.2.2.1
def body:List Stmt:=x.2.2.2.1
def p:Pos:=x.2.2.2.2
theorem core:P Φ t it body p:=λ els B=>λ ρ σ o ρ' σ' h y hy=>by
 cases els with
 |cons a b=>exact no h
 |nil=>
  obtain⟨sr,σ₁,h1,h2⟩:=bd2 h;have hstep:∀x ρ σ o ρ' σ',((aQ t x ρ).bind λ ρ=>xs Φ body ρ σ)=some (o,ρ',σ')->ρ' y=ρ y:=λ x ρ σ o ρ' σ' hq=>by
   obtain⟨ρa,g1,g2⟩:=bd1 hq;exact(B ρa σ o ρ' σ' g2 y (wO (y0 hy))).trans (iT g1 (wO hy))
  cases sr with
  |items ys=>exact pL hstep ys ρ σ₁ o ρ' σ' h2
  |obj l=>exact pK hstep _ 0 ρ σ₁ o ρ' σ' h2
  |fset ks=>
   have hfor:forget (ak t++aF body) ρ y=ρ y:=if_neg λ q=>(List.mem_append.mp (List.contains_iff_mem.mp q)).elim (wO hy) (wO (y0 hy));cases σ₁ with
   |cons a b=>exact no h2
   |nil=>
    obtain⟨_,r,_,h3⟩:=ou h2;cases r with
    |none=>cases h3;exact hfor
    |some b=>cases h3;exact hfor
end
end fr_for_e
variable{Φ:Or}
theorem zF{t it:Expr}{body els:List Stmt}{p:Pos}(B:Frs Φ body):Fr1 Φ (.For t it body els p):=aw (Q:=λ x:(Or)×(Expr)×(Expr)×(List Stmt)×(Pos)=>fr_for_e.P x.1 x.2.1 x.2.2.1 x.2.2.2.1 x.2.2.2.2) fr_for_e.core (Φ,t,it,body,p) els B
theorem ow{n:Nat}(H:∀st,mB n st=true->Fr1 Φ st):∀(b:List Stmt),b.all (mB n)=true->Frs Φ b:=by
 intro b
 induction b with
 |nil=>
  intro _;exact λ ρ σ o ρ' σ' h y hy=>by cases h;rfl
 |cons st b ih=>
  intro hs;exact λ ρ σ o ρ' σ' h y hy=>by
   obtain⟨oa,ρa,σa,h1,h2⟩:=bd3 h;refine Eq.trans ?_ (H st (aB hs).1 ρ σ oa ρa σa h1 y (wO hy));cases oa with
   |nx=>exact ih (aB hs).2 ρa σa o ρ' σ' h2 y (y0 hy)
   |_=>cases h2;rfl
theorem Bp(n:Nat)(st:Stmt)(hs:mB n st=true):Fr1 Φ st:=by
 induction n generalizing st with
 |zero=>exact nob hs
 |succ n ih=>
  cases st with
  |If t b els p=>
   intro ρ σ o ρ' σ' h y hy;obtain⟨c,σ₁,h1,h2⟩:=bd2 h;cases c with
   |true=>exact ow ih b (aB hs).1 ρ σ₁ o ρ' σ' h2 y (wO hy)
   |false=>exact ow ih els (aB hs).2 ρ σ₁ o ρ' σ' h2 y (y0 hy)
  |For t it body els p=>exact zF (ow ih body hs)
  |Return v p=>
   cases v with
   |none=>exact nob hs
   |some e=>
    intro ρ σ o ρ' σ' h y hy;obtain⟨v,σ₁,h1,h⟩:=bd2 h;cases h;rfl
  |_=>exact nob hs
theorem zE(b:List Stmt)(h:jU b=true):Frs Φ b:=ow (Bp 6) b h
inductive FsC(o:Out)(σ:aa)(q r:Option Bool):Prop
 |nx (e1:o=.nx) (e2:σ=[]) (e:r=q)
 |rt (b:Bool) (e1:o=.rt (.d (.bool b))) (e2:σ=[]) (e:r=some b) (h:q=none\/q=some b)
theorem fsC{o:Out}{σ:aa}{q r:Option Bool}(h:fsJ o σ q=some r):FsC o σ q r:=by
 by_cases hs:σ.isEmpty=true
 ·have h:=(if_pos hs).symm.trans h;have hs:=List.isEmpty_iff.mp hs;cases o with
  |nx=>exact .nx rfl hs (Option.some.inj h).symm
  |rt v=>
   cases v with
   |d x=>
    cases x with
    |bool b=>
     refine Classical.byCases (p:=q=none\/q=some b) (λ hq=>?_) (λ hq=>?_)
     ·exact .rt b rfl hs (Option.some.inj ((if_pos hq).symm.trans h)).symm hq
     ·exact no ((if_neg hq).symm.trans h)
    |_=>exact no h
   |_=>exact no h
  |_=>exact no h
 ·exact no ((if_neg hs).symm.trans h)
theorem uq{step:V->ah->aa->Res}{ρ:ah}:∀(ks:List Int) (r:Option Bool),sZ step ρ ks=some r->∀x∈ks,∃o ρ1,step (.d (.int x)) ρ []=some (o,ρ1,[])/\(o=.nx\/∃b,o=.rt (.d (.bool b))/\r=some b):=by
 intro ks
 induction ks with
 |nil=>
  intro r h x hx;exact by cases hx
 |cons k ks ih=>
  intro r h x hx;obtain⟨o,ρ1,σ1,h1,h⟩:=bd3 h;obtain⟨q,h2,h3⟩:=bd1 h;have ih:=ih q h2;cases fsC h3 with
  |nx e1 e2 e=>
   subst e1;subst e2;subst e;rcases List.mem_cons.mp hx with rfl | hx
   ·exact⟨_,ρ1,h1,.inl rfl⟩
   ·exact ih x hx
  |rt b e1 e2 e hq=>
   subst e1;subst e2;subst e;rcases List.mem_cons.mp hx with rfl | hx
   ·exact⟨_,ρ1,h1,.inr ⟨b,rfl,rfl⟩⟩
   ·obtain⟨o',ρ',q1,q2⟩:=ih x hx;refine⟨o',ρ',q1,q2.imp id fun⟨c,q2,q3⟩=>⟨c,q2,?_⟩⟩;rcases hq with e | e
    ·exact by cases e.symm.trans q3
    ·exact e.symm.trans q3
theorem uo{step:V->ah->aa->Res}{ρ:ah}:∀(ks:List Int) (b:Bool),sZ step ρ ks=some (some b)->∃x∈ks,∃ρ1,step (.d (.int x)) ρ []=some (.rt (.d (.bool b)),ρ1,[]):=by
 intro ks
 induction ks with
 |nil=>
  intro b h;exact by cases Option.some.inj h
 |cons k ks ih=>
  intro b h;refine bC λ k9=>?_;obtain⟨o,ρ1,σ1,h1,h⟩:=bd3 h;obtain⟨q,h2,h3⟩:=bd1 h;refine k9 ?_;cases fsC h3 with
  |nx e1 e2 e=>
   refine bC λ k9=>?_;subst e;obtain⟨x,hx,q⟩:=ih b h2;refine k9 ?_;exact⟨x,List.mem_cons_of_mem _ hx,q⟩
  |rt c e1 e2 e hq=>
   subst e1;subst e2;cases e;exact⟨k,List.mem_cons_self,ρ1,h1⟩
end
end Mine.Internal
end
section
namespace Mine.Internal
open PySem PyProof.Rows
section
variable{J Y:Addr->Prop}{A:Around}{env:Env}
variable{ρ ρ' ρ₁:ah}{σ σ' σ₁ σ₂ σ₃:aa}{s s' s'':Shared}{ι ι' ι'':Loc}{e f t it:Expr}{pos:Pos}{k:Nat}{o:Out}
noncomputable def SW(I:Addr)(md:Md)(b:Addr):Prop:=b=I\/∃pl,md=some (b,pl)
inductive Dh(J:Addr->Prop)(env:Env)(step:V->ah->aa->Res)(s₀:Shared)(ι₀:Loc)(σ₀:aa)(a I:Addr)(es:Array (Int×Value))(ep:Nat)(tb:SetTable)(md:Md)(ρ₀:ah)(n:Nat)(s:Shared):Prop
 |mk (i:Nat) (ι':Loc) (m cm:Str->Option Value) (le:i<=es.size) (hn:n=es.size-i) (L:jE J (SW I md) env s₀ ι₀ σ₀ s ρ₀ [] ι' m cm) (it:SIt s.heap I a es ep tb md i)
  (seen:∀j x e tk,j<i->(ja a es ep md)[j]?=some e->e.2=.int x tk->∃ρ1,step (.d (.int x)) ρ₀ []=some (.nx,ρ1,[]))
theorem iE{xs:List Str}{x:Str}{v:V}(h:forget xs ρ x=some v):x∉xs/\ρ x=some v:=by
 by_cases q:xs.contains x=true
 ·exact no ((if_pos q).symm.trans h)
 ·exact⟨λ z=>q (List.contains_iff_mem.mpr z),(if_neg q).symm.trans h⟩
end
section
namespace xs_forS_e
noncomputable section
def P(J:Addr->Prop)(A:Around)(env:Env)(ρ:ah)(σ:aa)(t:Expr)(it:Expr)(pos:Pos)(k:Nat)(Φ:Or)(body:List Stmt)(ks:List Int):Prop:=∀(r:Option Bool) (hE:aI env) (hA:AOK A k) (hset:dO it=true) (htg:gk t) (hst:∀z∈ak t,aN env z) (hsm:jU body=true) (hIt:EvS prog w hB C J A env it ρ σ (.fs ks) []) (hf:sZ (λ x ρ σ=>(aQ t x ρ).bind λ ρ=>xs Φ body ρ σ) (forget (ak t++aF body) ρ) ks=some r) (hBody:∀J',∀ρa σa oa ρb σb,xs Φ body ρa σa=some (oa,ρb,σb)->XS prog w hB C J' A env (execs body env) ρa σa oa ρb σb),XS prog w hB C J A env (exec (.For t it body [] pos) env) ρ σ (mY (forget (ak t++aF body) ρ) r).1 (forget (ak t++aF body) ρ) []
def x:(Addr->Prop)×(Around)×(Env)×(ah)×(aa)×(Expr)×(Expr)×(Pos)×(Nat)×(Or)×(List Stmt)×(List Int):=@Classical.epsilon _ ⟨(default,{},default,default,default,default,default,default,default,⟨λ _ _=>none,λ _ _ _=>none,λ _=>none,λ _=>false,λ _=>false,default,0⟩,default,default)⟩ λ x=>¬P x.1 x.2.1 x.2.2.1 x.2.2.2.1 x.2.2.2.2.1 x.2.2.2.2.2.1 x.2.2.2.2.2.2.1 x.2.2.2.2.2.2.2.1 x.2.2.2.2.2.2.2.2.1 x.2.2.2.2.2.2.2.2.2.1 x.2.2.2.2.2.2.2.2.2.2.1 x.2.2.2.2.2.2.2.2.2.2.2
def J:Addr->Prop:=x.1
def A:Around:=x.2.1
def env:Env:=x.2.2.1
def ρ:ah:=x.2.2.2.1
def σ:aa:=x.2.2.2.2.1
def t:Expr:=x.2.2.2.2.2.1
def it:Expr:=x.2.2.2.2.2.2.1
def pos:Pos:=x.2.2.2.2.2.2.2.1
def k:Nat:=x.2.2.2.2.2.2.2.2.1
def Φ:Or:=x.2.2.2.2.2.2.2.2.2.1
def body:List Stmt:=x.2.2.2.2.2.2.2.2.2.2.1
def ks:List Int:=x.2.2.2.2.2.2.2.2.2.2.2
theorem core:P J A env ρ σ t it pos k Φ body ks:=λ r hE hA hset htg hst hsm hIt hf hBody=>λ ι s m cm Q E F R S h _=>by
 refine kh hset (hIt ι s m cm _ E F R S λ x s₁ ι₁ g rx=>?_);obtain⟨a,rfl,hax,SI⟩:=rx;refine pb SI λ h₂ dd I es ep tb md kp2 hIn hTn X0 el=>?_;have new:∀b,SW I md b->s₁.heap.get? b=none/\∃o,h₂.get? b=some o:=λ b hb=>by
  rcases hb with rfl | ⟨pl,rfl⟩
  ·exact⟨hIn,_,X0.obj⟩
  ·exact⟨hTn b pl rfl,_,X0.mode.2.1⟩
 have haW:¬SW I md a:=λ q=>by
  obtain⟨ob,ho,_⟩:=SI.got;exact by cases(new a q).1.symm.trans ho
 have haJ:¬JW J (SW I md) a:=λ q=>q.elim (λ q=>hax (.inl q)) haW;obtain⟨Z,L0⟩:=jE.start (W:=SW I md) (s₂:={ s₁ with heap:=h₂,drawn:=dd }) (ρ:=forget (ak t++aF body) ρ) F (R.less λ x v q=>(iE q).2) S g ⟨rfl,GX.refl _⟩ kp2 new;refine wpAny_runOwn (codeAny_forLoop_any (Dh J env (λ x ρ σ=>(aQ t x ρ).bind λ ρ=>xs Φ body ρ σ) s ι σ a I es ep tb md (forget (ak t++aF body) ρ)) (λ n s' hI=>?_) (es.size-0)
  ⟨0,ι₁,m,cm,Nat.zero_le _,rfl,L0,X0,λ j x e tk hj=>absurd hj (Nat.not_lt_zero _)⟩)
 refine bC λ k9=>?_;obtain⟨i,ι',m',cm',le,rfl,L,it',seen⟩:=hI;refine k9 ?_;have pm:=it'.perm;refine wV hA.handled it' le (λ e0 ha hv kpa Xa=>?_) λ h' hv kp=>?_
 ·have hi:i<es.size:=Nat.lt_of_lt_of_le (List.getElem?_eq_some_iff.mp hv).1 (Nat.le_of_eq pm.length_eq);refine bC λ k9=>?_;have he0:=pm.mem_iff.mp (List.mem_of_getElem? hv);obtain⟨x,tk,rfl⟩:=el.el e0 he0;obtain⟨oa,ρb,hstp,hoa⟩:=uq ks r hf x ((el.mem x).mpr ⟨_,he0,tk,rfl⟩);obtain⟨ρa,hbi,hxs⟩:=bd1 hstp;refine k9 ?_;have ki:∀b,¬SW I md b->b≠I:=λ b q e=>q (.inl e);refine AI htg Xa.obj rfl rfl (by decide) (L.turn (x:=.d (.int x)) hE hA hst Z ⟨rfl,GX.refl _⟩ (λ b o hb ho=>kpa b o (ki b hb) ho) (λ b hb=>?_) (RD.int x tk) hbi (λ q=>by subst q;rcases hoa with q | ⟨b,q,_⟩<;>cases q) (hBody _ ρa [] oa ρb [] hxs) λ fl sc ιc mc cmc Lc hfl kw mv=>?_)
  ·refine Classical.byCases (p:=b=I) (λ q=>q▸⟨_,Xa.obj⟩) λ q=>?_;obtain⟨_,_,ob,ho⟩:=L.sr.jo b (.inr hb);exact⟨ob,kpa b ob q ho⟩
  have Xc:SIt sc.heap I a es ep tb md (i+1):=Xa.keep (λ o ho=>kw I o (.inl rfl) ho) (λ o ho=>mv.kp a o (λ q=>q.elim haJ fun⟨_,_,q,_,_⟩=>by cases q) ho) λ T pl q o ho=>kw T o (.inr ⟨pl,q⟩) ho;have Lc':jE J (SW I md) env s ι σ sc (forget (ak t++aF body) ρ) [] ιc mc cmc:=⟨Lc.same,Lc.evo,Lc.sr,Lc.fr,Lc.er.less λ y v q=>by
   have hny:=(iE q).1;rw[zE body hsm ρa [] oa ρb [] hxs y (y0 hny),iT hbi (wO hny)];exact q⟩
  rcases hoa with rfl | ⟨b,rfl,rfl⟩
  ·obtain rfl:fl=.next:=hfl;refine⟨es.size-(i+1),Nat.sub_lt_sub_left hi (Nat.lt_succ_self i),i+1,ιc,mc,cmc,hi,rfl,Lc',Xc,λ j z e tz hj hz hz2=>?_⟩;rcases Nat.lt_succ_iff_lt_or_eq.mp hj with hj | rfl
   ·exact seen j z e tz hj hz hz2
   ·cases hv.symm.trans hz;cases hz2;exact⟨ρb,hstp⟩
  ·obtain⟨u,rfl,ru⟩:=hfl;exact Lc'.out (o:=.rt (.d (.bool b))) (fl:=.ret u) Z ⟨u,rfl,ru⟩ (Shr.refl _) (λ _ _ _ q=>q) h
 ·cases r with
  |none=>exact wpAny_execs_nil (L.out (o:=.nx) (fl:=.next) Z rfl ⟨rfl,GX.refl _⟩ (λ b o hb ho=>kp b o (λ q=>hb (.inl q)) ho) h)
  |some b=>
   exfalso;obtain⟨x,hx,ρ1,hstp⟩:=uo ks b hf;obtain⟨e0,he0,tk,hev⟩:=(el.mem x).mp hx;obtain⟨j,hj⟩:=List.mem_iff_getElem?.mp (pm.mem_iff.mpr he0);obtain⟨ρ2,hq⟩:=seen j x e0 tk (Nat.lt_of_lt_of_le (List.getElem?_eq_some_iff.mp hj).1 (List.getElem?_eq_none_iff.mp hv)) hj hev;cases hq.symm.trans hstp
end
end xs_forS_e
variable{J Y:Addr->Prop}{A:Around}{env:Env}
variable{ρ ρ' ρ₁:ah}{σ σ' σ₁ σ₂ σ₃:aa}{s s' s'':Shared}{ι ι' ι'':Loc}{e f t it:Expr}{pos:Pos}{k:Nat}{o:Out}
theorem vN{Φ:Or}{body:List Stmt}{ks:List Int}{r:Option Bool}(hE:aI env)(hA:AOK A k)(hset:dO it=true)(htg:gk t)(hst:∀z∈ak t,aN env z)(hsm:jU body=true)
  (hIt:EvS prog w hB C J A env it ρ σ (.fs ks) []) (hf:sZ (λ x ρ σ=>(aQ t x ρ).bind λ ρ=>xs Φ body ρ σ) (forget (ak t++aF body) ρ) ks=some r)
  (hBody:∀J',∀ρa σa oa ρb σb,xs Φ body ρa σa=some (oa,ρb,σb)->XS prog w hB C J' A env (execs body env) ρa σa oa ρb σb):XS prog w hB C J A env (exec (.For t it body [] pos) env) ρ σ (mY (forget (ak t++aF body) ρ) r).1 (forget (ak t++aF body) ρ) []:=aw (Q:=λ x:(Addr->Prop)×(Around)×(Env)×(ah)×(aa)×(Expr)×(Expr)×(Pos)×(Nat)×(Or)×(List Stmt)×(List Int)=>xs_forS_e.P x.1 x.2.1 x.2.2.1 x.2.2.2.1 x.2.2.2.2.1 x.2.2.2.2.2.1 x.2.2.2.2.2.2.1 x.2.2.2.2.2.2.2.1 x.2.2.2.2.2.2.2.2.1 x.2.2.2.2.2.2.2.2.2.1 x.2.2.2.2.2.2.2.2.2.2.1 x.2.2.2.2.2.2.2.2.2.2.2) xs_forS_e.core (J,A,env,ρ,σ,t,it,pos,k,Φ,body,ks) r hE hA hset htg hst hsm hIt hf hBody
end
end Mine.Internal
end
section
namespace Mine.Internal
open PySem PyProof.Rows
theorem kJ:∀(ps:List Str) (vs:List V) (ρ:ah),ps.Nodup->binds ps vs=some ρ->ps.length=vs.length/\∀x v',ρ x=some v'->∃i:Nat,ps[i]?=some x/\vs[i]?=some v':=by
 intro ps
 induction ps with
 |nil=>
  intro vs ρ _ h;cases vs with
  |nil=>cases h;exact⟨rfl,λ x v' q=>no q⟩
  |cons _ _=>exact no h
 |cons p ps ih=>
  intro vs ρ hn h;cases vs with
  |nil=>exact no h
  |cons v vs=>
   refine bC λ k9=>?_;obtain⟨ρ₁,h1,h⟩:=bd1 h;cases h;obtain⟨h2,h3⟩:=ih vs ρ₁ (List.nodup_cons.mp hn).2 h1;refine k9 ?_;refine⟨congrArg Nat.succ h2,λ x v' q=>?_⟩;by_cases hx:x=p
   ·cases(if_pos hx).symm.trans q;exact⟨0,congrArg some hx.symm,rfl⟩
   ·obtain⟨i,q1,q2⟩:=h3 x v' ((if_neg hx).symm.trans q);exact⟨i+1,q1,q2⟩
theorem sF{κ:Str->Option NameKind}{x:Str}:∀(bs:List (Str×Value)) (m:Str->Option Value),x∉bs.map (·.1)->bindL κ bs m x=m x:=by
 intro bs
 induction bs with
 |nil=>
  intro m _;exact rfl
 |cons x9 bs ih=>
  intro m h;obtain⟨n,v⟩:=x9;simp only[List.map_cons,List.mem_cons,not_or] at h;unfold bindL;rw[ih _ h.2];split
  ·simp[h.1]
  ·rfl
theorem sG{κ:Str->Option NameKind}{x:Str}:∀(bs:List (Str×Value)) (m:Str->Option Value),x∉bs.map (·.1)->bindC κ bs m x=m x:=by
 intro bs
 induction bs with
 |nil=>
  intro m _;exact rfl
 |cons x9 bs ih=>
  intro m h;obtain⟨n,v⟩:=x9;simp only[List.map_cons,List.mem_cons,not_or] at h;unfold bindC;rw[ih _ h.2];split
  ·rfl
  ·simp[h.1]
theorem m9{κ:Str->Option NameKind}{x:Str}{v:Value}:∀(ps:List Str) (vals:List Value) (m:Str->Option Value) (i:Nat),ps.Nodup->ps.length=vals.length->ps[i]?=some x->vals[i]?=some v->
  (κ x=some .local->bindL κ (ps.zip vals) m x=some v)/\(κ x≠some .local->bindC κ (ps.zip vals) m x=some v)
 |[],_,_,i,_,_,h,_=>by simp at h
 |p::ps,[],_,i,_,h,_,_=>by simp at h
 |p::ps,u::vals,m,i,hn,hl,h1,h2=>by
  rw[List.nodup_cons] at hn;cases i with
  |zero=>
   simp at h1 h2;subst h1;subst h2;have hoff:p∉(ps.zip vals).map (·.1):=λ q=>by
    obtain⟨y,hy,rfl⟩:=List.mem_map.mp q;exact hn.1 (List.of_mem_zip hy).1
   refine⟨λ hk=>?_,λ hk=>?_⟩
   ·show bindL κ (ps.zip vals) (if κ p=some .local then λ y=>if y=p then some u else m y else m) p=some u;rw[sF _ _ hoff,if_pos hk];simp
   ·show bindC κ (ps.zip vals) (if κ p=some .local then m else λ y=>if y=p then some u else m y) p=some u;rw[sG _ _ hoff,if_neg hk];simp
  |succ i=>
   simp at h1 h2;refine⟨λ hk=>?_,λ hk=>?_⟩
   ·show bindL κ (ps.zip vals) _ x=some v;exact(m9 ps vals _ i hn.2 (by simpa using hl) h1 h2).1 hk
   ·show bindC κ (ps.zip vals) _ x=some v;exact(m9 ps vals _ i hn.2 (by simpa using hl) h1 h2).2 hk
section
variable{J Y:Addr->Prop}{A:Around}{env:Env}
variable{ρ ρ' ρ₁:ah}{σ σ' σ₁ σ₂ σ₃:aa}{s s' s'':Shared}{ι ι' ι'':Loc}{e f t it:Expr}{pos:Pos}{k:Nat}{o:Out}
theorem enter{a:Addr}{g:Fn}{fd:FuncData}{vals:List Value}{vs:List V}(X:FnAt hB a g fd)(S:SR prog w hB C J ι σ s.heap)(R:aA (VR w J ι σ s.heap) vals vs)(hb:binds g.params vs=some ρ){s₁:Shared}
  (Z:InCallC s (callEnvC fd s.heap.objs.size a).locals (bindL (callEnvC fd s.heap.objs.size a).kindOf (g.params.zip vals) λ _=>none) (callEnvC fd s.heap.objs.size a).cells (bindC (callEnvC fd s.heap.objs.size a).kindOf (g.params.zip vals) λ _=>none) s₁) :
  (∀b,FA (callEnvC fd s.heap.objs.size a) b->s.heap.get? b=none)/\SR prog w hB C (λ b=>J b\/FA (callEnvC fd s.heap.objs.size a) b) ι σ s₁.heap/\
  FR (λ b=>J b\/FA (callEnvC fd s.heap.objs.size a) b) (callEnvC fd s.heap.objs.size a) (bindL (callEnvC fd s.heap.objs.size a).kindOf (g.params.zip vals) λ _=>none) (bindC (callEnvC fd s.heap.objs.size a).kindOf (g.params.zip vals) λ _=>none) s₁.heap/\
  ER w (λ b=>J b\/FA (callEnvC fd s.heap.objs.size a) b) ι σ (callEnvC fd s.heap.objs.size a) (bindL (callEnvC fd s.heap.objs.size a).kindOf (g.params.zip vals) λ _=>none) (bindC (callEnvC fd s.heap.objs.size a).kindOf (g.params.zip vals) λ _=>none) s₁.heap ρ:=by
 generalize hE:callEnvC fd s.heap.objs.size a=env at Z ⊢;have hloc:env.locals=s.heap.objs.size:=by rw[<-hE];rfl
 have hcells:env.cells=cellsFrom (s.heap.objs.size+1) fd.scope.names []:=by rw[<-hE];rfl
 have hkind:∀x,env.kindOf x=fd.scope.names.lookup x:=λ x=>by rw[<-hE];rfl
 have hk:∀b o,s.heap.get? b=some o->s₁.heap.get? b=some o:=Z.toInCall.keep;have hnew:∀b,FA env b->s.heap.get? b=none:=λ b hb'=>by
  rcases hb' with q | ⟨n,q⟩
  ·rw[q,hloc];exact aD _
  ·have:=Z.above n b (mem_of_lookup q);rw[hloc] at this;exact Heap.get?_none_of_le (Nat.le_of_lt this)
 have hgot:∀b,FA env b->∃ob,s₁.heap.get? b=some ob:=λ b hb'=>by
  rcases hb' with q | ⟨n,q⟩
  ·obtain⟨ob,_,_,ho,_⟩:=Z.toInCall.ns;rw[q];exact⟨ob,ho⟩
  ·obtain⟨ob,ho,_⟩:=Z.cell n b q;exact⟨ob,ho⟩
 have hJ':∀b,(J b\/FA env b)->J b\/s.heap.get? b=none:=λ b hb'=>hb'.elim .inl λ q=>.inr (hnew b q);refine⟨hnew,S.fG hJ' (λ b o _ q=>hk b o q) λ b hb'=>?_,⟨Z.toInCall.ns,.inr (.inl rfl),λ n c hc=>⟨Z.cell n c hc,.inr (.inr ⟨n,hc⟩),?_⟩,λ n n' c h1 h2=>name_of_addr Z.apart (mem_of_lookup h1) (mem_of_lookup h2),λ n hn=>?_⟩,λ x v' hx hm=>?_⟩
 ·rcases hb' with q | q
  ·obtain⟨_,_,ob,ho⟩:=S.jo b q;exact⟨ob,hk b ob ho⟩
  ·exact hgot b q
 ·exact Nat.ne_of_gt (Z.above n c (mem_of_lookup hc))
 ·rw[hkind] at hn;rcases hn with q | q
  ·obtain⟨c,hc⟩:=cL fd.scope.names (s.heap.objs.size+1) [] n (mem_of_lookup q);obtain⟨c',hc'⟩:=bW hc;rw[hcells,hc'];rfl
  ·exact absurd q (X.noFree n)
 ·obtain⟨hl,hat⟩:=kJ g.params vs ρ X.nodup hb;refine bC λ k9=>?_;obtain⟨i,q1,q2⟩:=hat x v' hx;obtain⟨v,hv,rv⟩:=R.get q2;have hlen:g.params.length=vals.length:=by rw[hl,R.1]
  have hba:=m9 (κ:=env.kindOf) (x:=x) (v:=v) g.params vals (λ _=>none) i X.nodup hlen q1 hv;refine k9 ?_;refine⟨v,?_,rv.fG hJ' λ b o _ q=>hk b o q⟩;have hpk:=X.pk x (List.mem_of_getElem? q1);rw[<-hkind] at hpk;show yh _ _ (kdOf (env.kindOf x))=_;rcases hpk with q | q
  ·rw[q];exact hba.1 q
  ·rw[q];exact hba.2 (by rw[q];simp)
theorem xm{a:Addr}{g:Fn}{fd:FuncData}{vals:List Value}{vs:List V}{Q:Value->Shared->Prop}{E:Value->Shared->Prop}(hlim:hB.NoLimit)(X:FnAt hB a g fd)(hA:AOC A (k+1))(S:SR prog w hB C J ι σ s.heap)(R:aA (VR w J ι σ s.heap) vals vs)
  (hb:binds g.params vs=some ρ) (hx:o≠.ex)
  (hX:∀J' env,aI env->AOK (A.deeper env) k->env.frame=some env.locals->(∀x,kd env x=kds fd.scope.names x)->(∀x,env.kindOf x≠some .free)->XS prog w hB C J' (A.deeper env) env (execs g.body env) ρ σ o ρ' σ')
  (h:∀u s' ι',Goes prog w hB C J s ι σ s' ι' σ'->(match o with | .rt v=>VR w J ι' σ' s'.heap u v | _=>u=.none)->Q u s'):wpAny (model prog w) A (call (.ref a) vals) Q E s:=by
 refine bC λ k9=>?_;obtain⟨ob,ho,hd,hc⟩:=X.obj;obtain⟨hl,_⟩:=kJ g.params vs ρ X.nodup hb;have hlen:vals.length=g.params.length:=by rw[hl,R.1]
 have hk:=S.keep;refine k9 ?_;refine wpAny_call (codeAny_call_cells (binds:=g.params.zip vals) (by have:=hA.depth;omega) (hk _ _ ho) hd (hlim.keeps hk) (X.code.keeps hk) X.body (X.args vals hlen) X.clo (λ x hxm=>?_) (λ s₁ Z=>?_) X.co X.gen X.kind)
 ·have hp:x.1∈g.params:=(List.of_mem_zip (show(x.1,x.2)∈g.params.zip vals from hxm)).1;rcases X.pk x.1 hp with q | q
  ·exact .inl q
  ·refine .inr ⟨q,?_⟩;obtain⟨c,hc⟩:=cL fd.scope.names (s.heap.objs.size+1) [] x.1 (mem_of_lookup q);obtain⟨c',hc'⟩:=bW hc;rw[hc'];rfl
 ·obtain⟨hnew,S1,F1,R1⟩:=enter X S R hb Z;have hframe:(callEnvC fd s.heap.objs.size a).frame=some (callEnvC fd s.heap.objs.size a).locals:=rfl;generalize hE:callEnvC fd s.heap.objs.size a=env at Z hnew S1 F1 R1 hframe ⊢;have hEnv:aI env:=by rw[<-hE];exact⟨X.kind,X.globals,X.builtins⟩
  have hkind:∀x,env.kindOf x=fd.scope.names.lookup x:=λ x=>by rw[<-hE];rfl
  refine hX _ env hEnv hA.deeper hframe (λ x=>by delta kd kds;rw[hkind]) (λ x=>by rw[hkind];exact X.noFree x) ι s₁ _ _ _ _ F1 R1 S1 (λ fl s' ι' m' cm' gg F' R' hfl=>?_) (λ ea s' ι' q=>absurd q hx);obtain⟨h1,tk1,rfl⟩:=Z.toInCall.same;have hkeep:∀b o,s.heap.get? b=some o->h1.get? b=some o:=Z.toInCall.keep;have ev:Evo ι σ s.heap ι' σ' s'.heap:=by
   refine⟨gg.evo.len,gg.evo.ag,λ b q=>?_,λ b ob hb' hq=>gg.evo.kp b ob hb' (λ q=>by rw[hnew b q] at hq;cases hq) (hkeep b ob hq)⟩;have hnF:¬FA env b:=λ q2=>(gg.sr.jo b (.inr q2)).1 q;rcases gg.evo.own b hnF q with q | q
   ·exact .inl q
   ·exact .inr (none_of hkeep q)
  have sb:Sub (λ b=>J b\/FA env b) ι' σ' J ι' σ':=Sub.pB λ b hb'=>.inl hb';refine h _ s' ι' ⟨gg.same,ev,gg.sr.pB λ b hb'=>.inl hb'⟩ ?_;cases o with
  |rt v=>
   obtain⟨u,rfl,ru⟩:=hfl;exact ru.sub sb
  |nx=>obtain rfl:fl=.next:=hfl;rfl
  |br=>obtain rfl:fl=.brk:=hfl;rfl
  |ct=>obtain rfl:fl=.cont:=hfl;rfl
  |ex=>exact absurd rfl hx
end
end Mine.Internal
end
section
namespace Mine.Internal
open PySem PyProof.Rows
noncomputable def minus(h:Heap)(L:Addr):Heap:=h.update L λ o=>{ o with data:=.freed }
theorem du{h:Heap}{L b:Addr}(hb:b≠L):(minus h L).get? b=h.get? b:=Heap.get?_update_other _ _ (Ne.symm hb)
theorem fQ{h:Heap}{L:Addr}:(minus h L).get? L=none:=by
 cases e:(minus h L).get? L with
 |none=>rfl
 |some o'=>
  exfalso;obtain⟨h1,h2⟩:=Heap.get?_some_iff.mp e;cases h;simp only[minus,Heap.update,Array.getElem?_modify,if_true] at h1;obtain⟨o0,_,rfl⟩:=Option.map_eq_some_iff.mp h1;simp[Obj.isFreed] at h2
section
variable{J Y:Addr->Prop}{A:Around}{env:Env}
variable{ρ ρ' ρ₁:ah}{σ σ' σ₁ σ₂ σ₃:aa}{s s' s'':Shared}{ι ι' ι'':Loc}{e f t it:Expr}{pos:Pos}{k:Nat}{o:Out}
theorem ta{f:Str}{z:Str}{np cp zp:Pos}{zk:Nat}(B:Base hB C N p mg mb mN)(hE:aI env)(hA:AOK A k)(hk:env.kindOf f=some .globalImplicit)(hf:f="ValueError") :
  XS prog w hB C J A env (exec (.Raise (some (.Call (.Name f np) [.Constant (.str z) zk zp] [] cp)) none pos) env) ρ σ .ex ρ σ:=λ ι s m cm Q E F R S _ he=>by
 subst hf;refine Raise_new hA.handled (Call_Name rfl (kK hE hk (by decide) B.ng (B.bi _ (.type "ValueError") (by decide)).1 B.nb (B.bi _ (.type "ValueError") (by decide)).2 S ?_));refine PyProof.Rows.callWith_type rfl (PySem.Calls.evalArgs_plain (PySem.Calls.spliced_cons (PySem.Calls.Constant_str (k:=zk) (pos:=zp) (PySem.Calls.spliced_nil ?_))));refine call_exc_raise excClass_ValueError (λ h' ea hx=>?_) (by show 1<=sizeLine;decide);have kp:∀b o,s.heap.get? b=some o->h'.get? b=some o:=hx.keeps;refine bC λ k9=>?_;obtain⟨ob,t0,h1,h2,h3⟩:=hx.there;refine k9 ?_;refine he ea _ ι rfl ⟨⟨rfl,GX.refl _⟩,(Evo.aM kp).toF,S.aM kp⟩ ⟨⟨ob,_,t0,h1,h2,h3,rfl,rfl⟩,hx.new,S.fresh hx.new⟩ ?_;exact⟨m,F.ns.keeps kp⟩
structure Flew(s s':Shared)(L ea:Addr)(eL:Env):Prop where
 same:Shr s s'
 new:s.heap.get? ea=none
 fly:∃a0,Heap.FlyingW (minus s.heap L) [eL] ea (.type "ValueError") a0 s'.heap
 up:s.heap.UpToSlots s'.heap
theorem Br{a:Addr}{g:Fn}{fd:FuncData}{vals:List Value}{vs:List V}{Q:Value->Shared->Prop}{E:Value->Shared->Prop}{eL:Env}{L:Addr}{oL:Obj}(hlim:hB.NoLimit)(X:FnAt hB a g fd)(hA:AOC A (k+1))(S:SR prog w hB C J ι σ s.heap)(R:aA (VR w J ι σ s.heap) vals vs)
  (hb:binds g.params vs=some ρ) (hfr:A.frames=some [eL]) (hLf:eL.frame=some L) (hLk:eL.scope.kind=.function) (hLo:s.heap.get? L=some oL) (hLd:∀vs,oL.data≠.fields vs) (hLn:hB.get? L=none) (hLO:¬Own ι σ L)
  (hX:∀J' A' env,aI env->AOK A' k->(∀x,kd env x=kds fd.scope.names x)->(∀x,env.kindOf x≠some .free)->XS prog w hB C J' A' env (execs g.body env) ρ σ .ex ρ' σ')
  (hkp:∀(env:Env) (s₁ s':Shared) (ι':Loc),(∀b o,s.heap.get? b=some o->s₁.heap.get? b=some o)->(∀b,FA env b->s.heap.get? b=none)->iY (FA env) ι σ s₁.heap ι' σ' s'.heap->∀b o,s.heap.get? b=some o->s'.heap.get? b=some o)
  (h:∀ea s',Flew s s' L ea eL->E (.ref ea) s'):wpAny (model prog w) A (call (.ref a) vals) Q E s:=by
 refine bC λ k9=>?_;obtain⟨ob,ho,hd,hc⟩:=X.obj;obtain⟨hl,_⟩:=kJ g.params vs ρ X.nodup hb;have hlen:vals.length=g.params.length:=by rw[hl,R.1]
 have hk:=S.keep;refine k9 ?_;refine wpAny_call (codeAny_call_cells (binds:=g.params.zip vals) (by have:=hA.depth;omega) (hk _ _ ho) hd (hlim.keeps hk) (X.code.keeps hk) X.body (X.args vals hlen) X.clo (λ x hxm=>?_) (λ s₁ Z=>?_) X.co X.gen X.kind)
 ·have hp:x.1∈g.params:=(List.of_mem_zip (show(x.1,x.2)∈g.params.zip vals from hxm)).1;rcases X.pk x.1 hp with q | q
  ·exact .inl q
  ·refine .inr ⟨q,?_⟩;obtain⟨c,hc⟩:=cL fd.scope.names (s.heap.objs.size+1) [] x.1 (mem_of_lookup q);obtain⟨c',hc'⟩:=bW hc;rw[hc'];rfl
 ·obtain⟨hnew,S1,F1,R1⟩:=enter X S R hb Z;have hframe:(callEnvC fd s.heap.objs.size a).frame=some (callEnvC fd s.heap.objs.size a).locals:=rfl;have hek:(callEnvC fd s.heap.objs.size a).scope.kind=.function:=X.kind;generalize hE:callEnvC fd s.heap.objs.size a=env at Z hnew S1 F1 R1 hframe hek ⊢;have hEnv:aI env:=by rw[<-hE];exact⟨X.kind,X.globals,X.builtins⟩
  have hkind:∀x,env.kindOf x=fd.scope.names.lookup x:=λ x=>by rw[<-hE];rfl
  refine hX _ _ env hEnv hA.deeper (λ x=>by delta kd kds;rw[hkind]) (λ x=>by rw[hkind];exact X.noFree x) ι s₁ _ _ _ _ F1 R1 S1 (λ fl s' ι' m' cm' gg F' R' hfl=>hfl.elim) (λ ea s' ι' _ gg rz ns=>?_);refine bC λ k9=>?_;obtain⟨h1,tk1,rfl⟩:=Z.toInCall.same;have hkeep:∀b o,s.heap.get? b=some o->h1.get? b=some o:=Z.toInCall.keep;have hall:=hkp env _ s' ι' hkeep hnew gg.evo;obtain⟨oe,evs,a0,e1,e2,e3,e4,e5⟩:=rz.obj;have henew:s.heap.get? ea=none:=none_of hkeep rz.new;obtain⟨mN',hns⟩:=ns;obtain⟨oU,esU,epU,hoU,hdU,_⟩:=hns;refine k9 ?_;have hbE:(minus s.heap L).get? ea=none:=by
   refine Classical.byCases (p:=ea=L) (λ q=>?_) (λ q=>?_)
   ·rw[q];exact fQ
   ·rw[du q];exact henew
  have hbU:(minus s.heap L).get? env.locals=none:=by
   have hn:=hnew env.locals (.inl rfl);have q:env.locals≠L:=λ q=>by rw[q,hLo] at hn;cases hn
   rw[du q];exact hn
  have hst:(minus s.heap L).StaysIn s'.heap:=λ b ob' hq=>by
   have hne:b≠L:=λ q=>by rw[q,fQ] at hq;cases hq
   rw[du hne] at hq;exact hall b ob' hq
  have hFF:s'.heap.FunFrames (minus s.heap L) [env,eL]:=⟨by rw[hek];simp,⟨env.locals,oU,hframe,hbU,hoU,λ vs q=>by rw[hdU] at q;cases q⟩,by rw[hLk];simp,⟨L,oL,hLf,fQ,hall L oL hLo,hLd⟩,trivial⟩;have hfr2:(A.deeper env).frames=some (env::[eL]):=by show A.frames.map _=_;rw[hfr];rfl
  refine wpAny_leaving_firstW (a0:=a0) hfr2 hFF hframe e1 hst hbE e3 e5 e4 λ h' hL=>?_;refine bC λ k9=>?_;obtain⟨k1,k2,k3,k4⟩:=hL;rw[e2] at k3;refine k9 ?_;refine h ea _ ⟨gg.same,henew,⟨a0,k1,hbE,k2.2.2,k3⟩,λ b ob' hq hnf=>?_⟩;exact k4 b ob' (hall b ob' hq) hnf
end
end Mine.Internal
end
section
namespace Mine.Internal
open PySem PyProof.Rows
section
variable{J Y:Addr->Prop}{A:Around}{env:Env}
variable{ρ ρ' ρ₁:ah}{σ σ' σ₁ σ₂ σ₃:aa}{s s' s'':Shared}{ι ι' ι'':Loc}{e f t it:Expr}{pos:Pos}{k:Nat}{o:Out}
noncomputable def ClX(prog:Program)(w:World)(hB:Heap)(C:Addr)(A:Around)(fv:Value)(vs:List V):Prop:=
 ∀(J:Addr->Prop) (ι:Loc) (σ:aa) (s:Shared) (vals:List Value) (Q:Value->Shared->Prop) (E:Value->Shared->Prop) (eL:Env) (L:Addr) (oL:Obj),SR prog w hB C J ι σ s.heap->aA (VR w J ι σ s.heap) vals vs->
  A.frames=some [eL]->eL.frame=some L->eL.scope.kind=.function->s.heap.get? L=some oL->(∀vs,oL.data≠.fields vs)->J L->
  (∀ea s',Flew s s' L ea eL->E (.ref ea) s')->wpAny (model prog w) A (call fv vals) Q E s
theorem lU{L ea:Addr}{h4:Heap}{m cm:Str->Option Value}(hL:env.locals=L)(F:FR J env m cm s.heap)(R:ER w J ι σ env m cm s.heap ρ)(S:SR prog w hB C J ι σ s.heap)(hst:(minus s.heap L).StaysIn h4)(hup:s.heap.UpToSlots h4) :
  FR J env m cm h4/\ER w J ι σ env m cm h4 ρ/\SR prog w hB C J ι σ h4/\∀b o,b≠env.locals->s.heap.get? b=some o->h4.get? b=some o:=by
 have kp:∀b o,b≠L->s.heap.get? b=some o->h4.get? b=some o:=λ b o hb q=>hst b o (by rw[du hb];exact q);have kj:∀b o,¬J b->s.heap.get? b=some o->h4.get? b=some o:=λ b o hb q=>kp b o (λ z=>hb (by rw[z,<-hL];exact F.jL)) q;have gL:∃o,h4.get? L=some o:=by
  refine bC λ k9=>?_;obtain⟨ob,_,_,ho,_⟩:=hup.ns F.ns;refine k9 ?_;rw[<-hL];exact⟨ob,ho⟩
 refine⟨⟨hup.ns F.ns,F.jL,λ n c hc=>?_,F.apart,F.has⟩,R.bE kj,S.bE kj λ b hb=>?_,λ b o hb q=>kp b o (by rw[<-hL];exact hb) q⟩
 ·obtain⟨⟨ob,ho,hd⟩,q2,q3⟩:=F.cell n c hc;exact⟨⟨ob,kp c ob (by rw[<-hL];exact q3) ho,hd⟩,q2,q3⟩
 ·refine Classical.byCases (p:=b=L) (λ q=>?_) (λ q=>?_)
  ·rw[q];exact gL
  ·obtain⟨_,_,ob,ho⟩:=S.jo b hb;exact⟨ob,kp b ob q ho⟩
noncomputable def isConst:Const->Bool
 |.bool _=>true
 |.str z=>PyData.strOk z
 |_=>false
noncomputable def oN:Const->V
 |.bool b=>.d (.bool b)
 |.str z=>.d (.str z)
 |_=>.d .none
theorem uH{c:Const}{kk:Nat}{cp:Pos}(hc:isConst c=true):EvS prog w hB C J A env (.Constant c kk cp) ρ σ (oN c) σ:=by
 cases c<;>first | exact nob hc | skip
 ·exact mZ _
 ·exact vD _ hc
theorem kP{body:List Stmt}{cN z:Str}{c:Const}{kk:Nat}{p1 p2 p3 p4 p5:Pos}(B:Base hB C N p mg mb mN)(hE:aI env)(hkc:env.kindOf cN=some .globalImplicit)(hcN:cN="ValueError")
  (hz:aN env z) (hc:isConst c=true) (hfr:A.frames=some [env]) (hfm:env.frame=some env.locals)
  (hbody:∀ι s m cm (Q:Flow->Shared->Prop) (E:Value->Shared->Prop),FR J env m cm s.heap->ER w J ι σ env m cm s.heap ρ->SR prog w hB C J ι σ s.heap->
   (∀s₁ ι₁ ea s',Goes prog w hB C J s ι σ s₁ ι₁ σ'->Flew s₁ s' env.locals ea env->E (.ref ea) s')->wpAny (model prog w) A (execs body env) Q E s) :
  XS prog w hB C J A env (exec (.Try body [.ExceptHandler (some (.Name cN p1)) none [.Assign [.Name z p2] (.Constant c kk p3) p4] p5] [] [] pos) env) ρ σ .nx (upd ρ z (oN c)) σ':=λ ι s m cm Q E F R S h _=>by
 subst hcN;refine wpAny_Try_except (hbody ι s m cm _ _ F R S λ s₁ ι₁ ea s' g fl=>?_);have F1:=F.evo S g.evo;have R1:=R.evo g.evo;obtain⟨a0,hfly⟩:=fl.fly;refine wpAny_looks_onW hfr hfm hfly λ h2 hheld up2=>?_;refine wpAny_landsW (s:={ s' with heap:=h2 }) hheld λ h3 hfly3 up3=>?_;have hst3:(minus s₁.heap env.locals).StaysIn h3:=hfly3.1;have u3:s₁.heap.UpToSlots h3:=(fl.up.trans up2).trans up3;refine bC λ k9=>?_;obtain⟨F3,R3,S3,kp3⟩:=lU (ea:=ea) rfl F1 R1 g.sr hst3 u3;obtain⟨oe,evs,q1,q2,q3,q4⟩:=hfly3.first;refine k9 ?_;refine wpAny_handleBy_builtin (X:="ValueError") (T:="ValueError") (b:=true) excClass_ValueError.base (by kernel_rfl) excClass_ValueError.self ?_;refine kK (s:={ s' with heap:=h3 }) hE hkc (by decide) B.ng (B.bi _ (.type "ValueError") (by decide)).1 B.nb (B.bi _ (.type "ValueError") (by decide)).2 S3 ⟨rfl,⟨oe,q1,q2⟩,?_⟩;refine wpAny_setFlight_noneW (s:={ s' with heap:=h3 }) hfly3.1 hfly3.2.2.1 hfly3.2.2.2.at λ h4 k1 k2 k3 k4=>?_;have u4:s₁.heap.UpToSlots h4:=u3.trans λ b ob hb hn=>⟨ob.slots,k4 b ob hb hn⟩;refine bC λ k9=>?_;obtain⟨F4,R4,S4,kp4⟩:=lU (ea:=ea) rfl F1 R1 g.sr k1 u4;refine k9 ?_;refine wpAny_execs_cons (gz (dm rfl) (ji rfl) rfl ?_);refine(uH (A:=A.mark (some (.ref ea))) hc:EvS prog w hB C J _ env (.Constant c kk p3) ρ σ' (oN c) σ') ι₁ { s' with heap:=h4 } m cm _ _ F4 R4 S4 λ v s5 ι5 g5 r5=>?_;refine wpAny_assign_Name (gO hE hz (F4.evo S4 g5.evo) (R4.evo g5.evo) g5.sr r5 λ h6 tk6 m6 cm6 F6 R6 S6 kp6 _ _=>wpAny_execs_nil ?_);have ev0:iY (FA env) ι₁ σ' s₁.heap ι₁ σ' h4:=⟨Nat.le_refl _,λ _ _=>rfl,λ b _ q=>.inl q,λ b ob _ hb q=>kp4 b ob (λ z=>hb (.inl z)) q⟩;have g04:dk prog w hB C J (FA env) s₁ ι₁ σ' { s' with heap:=h4 } ι₁ σ':=⟨fl.same,ev0,S4⟩;have g56:dk prog w hB C J (FA env) s5 ι5 σ' { s5 with heap:=h6,toks:=tk6 } ι5 σ':=by
  refine⟨⟨rfl,GX.refl _⟩,⟨Nat.le_refl _,λ _ _=>rfl,λ b _ q=>.inl q,λ b ob _ hb q=>kp6 b ob (λ z=>hb ?_) q⟩,S6⟩;rcases z with z | ⟨_,z⟩
  ·exact .inl z
  ·exact .inr ⟨_,z⟩
 exact h _ _ ι5 m6 cm6 (((g.toF.trans g04).trans g5.toF).trans g56) F6 R6 rfl
end
end Mine.Internal
end
section
namespace Mine.Internal
open PySem PyProof.Rows
noncomputable def pw(κ:Str->Kd)(f:Expr->Bool)(e:Expr):Expr->Bool
 |.Tuple ts _ _=>yY κ ts && match e with
  |.Tuple es _ _=>decide ((bf ts).Nodup) && (decide (es.length<=1000) && (!(es.all (constantsAlone 8)) && es.all f))
  |_=>true
 |.Name x _=>own? κ x
 |.Attribute o n _=>f o && uY.contains n
 |.Subscript o i _=>f o && (f i && iu e)
 |_=>false
noncomputable def okX(gl:Str->Bool)(κ:Str->Kd)(e:Expr):Bool:=okE gl 16 κ e
noncomputable def Am:Expr->Option (Expr×List Expr×List Keyword)
 |.Call fn args kws _=>some (fn,args,kws)
 |_=>none
inductive Aw(fn:Expr)(args:List Expr)(kws:List Keyword):Expr->Prop
 |mk (q:Pos):Aw fn args kws (.Call fn args kws q)
theorem callC{fn:Expr}{args:List Expr}{kws:List Keyword}{e:Expr}(h:Am e=some (fn,args,kws)):Aw fn args kws e:=by
 cases e with
 |Call a b c q=>cases h;exact .mk q
 |_=>exact no h
noncomputable def Ac:Expr->Option Const
 |.Constant c _ _=>some c
 |_=>none
inductive Cy(c:Const):Expr->Prop
 |mk (k:Nat) (p:Pos):Cy c (.Constant c k p)
theorem Cg{c:Const}{e:Expr}(h:Ac e=some c):Cy c e:=by
 cases e with
 |Constant c k p=>cases h;exact .mk k p
 |_=>exact no h
noncomputable def cn?(e:Expr):Option (Str×List Expr):=(Am e).bind λ x=>(nm? x.1).bind λ f=>if x.2.2.isEmpty then some (f,x.2.1) else none
inductive CnC(f:Str)(args:List Expr):Expr->Prop
 |mk (np q:Pos):CnC f args (.Call (.Name f np) args [] q)
theorem cnC{f:Str}{args:List Expr}{e:Expr}(h:cn? e=some (f,args)):CnC f args e:=by
 obtain⟨⟨fn,as,kws⟩,h1,h⟩:=bd1 h;obtain⟨g,h2,h⟩:=bd1 h;cases callC h1;cases nmC h2;cases kws with
 |nil=>cases h;exact .mk _ _
 |cons a b=>exact no h
noncomputable def one{α:Type}(f:α->Bool):List α->Bool
 |[a]=>f a
 |_=>false
inductive Cr{α:Type}(f:α->Bool):List α->Prop
 |mk (a:α) (h:f a=true):Cr f [a]
theorem AF{α:Type}{f:α->Bool}{xs:List α}(h:one f xs=true):Cr f xs:=by
 cases xs with
 |nil=>exact nob h
 |cons a r=>
  cases r with
  |nil=>exact .mk a h
  |cons b c=>exact nob h
noncomputable def zm:Const->Bool
 |.str _=>true
 |_=>false
noncomputable def st?:List Expr->Bool:=one λ e=>(Ac e).any zm
inductive BJ:List Expr->Prop
 |mk (z:Str) (k:Nat) (p:Pos):BJ [.Constant (.str z) k p]
theorem CH{es:List Expr}(h:st? es=true):BJ es:=by
 cases AF h with
 |mk e k1=>
  cases k2:Ac e with
  |none=>rw[k2] at k1;exact nob k1
  |some c=>
   rw[k2] at k1;cases Cg k2;cases c with
   |str z=>exact .mk z _ _
   |_=>exact nob k1
noncomputable def BG:Stmt->Option (List Expr×Expr)
 |.Assign ts e _=>some (ts,e)
 |_=>none
inductive CB(ts:List Expr)(e:Expr):Stmt->Prop
 |mk (p:Pos):CB ts e (.Assign ts e p)
theorem C7{ts:List Expr}{e:Expr}{st:Stmt}(h:BG st=some (ts,e)):CB ts e st:=by
 cases st with
 |Assign a b p=>cases h;exact .mk p
 |_=>exact no h
noncomputable def AG(κ:Str->Kd)(st:Stmt):Bool:=(BG st).any λ x=>one (λ t=>(nm? t).any (own? κ)) x.1 && (Ac x.2).any isConst
noncomputable def CV(κ:Str->Kd):ExceptHandler->Bool
 |.ExceptHandler (some t) none b _=>(nm? t).any (λ c=>κ c == .glo) && one (AG κ) b
 |_=>false
noncomputable def ro(κ:Str->Kd)(hs:List ExceptHandler):Bool:=one (CV κ) hs
inductive AsC(κ:Str->Kd):Stmt->Prop
 |mk (z:Str) (q:Const) (kk:Nat) (p2 p3 p4:Pos) (h2:own? κ z=true) (h3:isConst q=true):AsC κ (.Assign [.Name z p2] (.Constant q kk p3) p4)
theorem asC{κ:Str->Kd}{st:Stmt}(h:AG κ st=true):AsC κ st:=by
 cases h1:BG st with
 |none=>rw[AG,h1] at h;exact nob h
 |some x=>
  rw[AG,h1] at h;obtain⟨ts,e⟩:=x;obtain⟨h2,h3⟩:=aB h;clear h;cases C7 h1;cases AF h2 with
  |mk t k2=>
   cases k4:nm? t with
   |none=>rw[k4] at k2;exact nob k2
   |some z=>
    cases k5:Ac e with
    |none=>rw[k5] at h3;exact nob h3
    |some q=>
     rw[k4] at k2;rw[k5] at h3;cases nmC k4;cases Cg k5;exact .mk z q _ _ _ _ k2 h3
inductive Av(κ:Str->Kd):List ExceptHandler->Prop
 |mk (c z:Str) (q:Const) (kk:Nat) (p1 p2 p3 p4 p5:Pos) (h1:(κ c == .glo)=true) (h2:own? κ z=true) (h3:isConst q=true):Av κ [.ExceptHandler (some (.Name c p1)) none [.Assign [.Name z p2] (.Constant q kk p3) p4] p5]
theorem Bi{κ:Str->Kd}{hs:List ExceptHandler}(h:ro κ hs=true):Av κ hs:=by
 cases AF h with
 |mk x h=>
  cases x with
  |ExceptHandler ty nm b p5=>
   cases ty with
   |none=>exact nob h
   |some t=>
    cases nm with
    |some _=>exact nob h
    |none=>
     obtain⟨h1,h2⟩:=aB h;clear h;cases k4:nm? t with
     |none=>rw[k4] at h1;exact nob h1
     |some c=>
      rw[k4] at h1;cases nmC k4;cases AF h2 with
      |mk st k2=>
       cases asC k2 with
       |mk z q kk p2 p3 p4 j2 j3=>exact .mk c z q kk _ p2 p3 p4 p5 h1 j2 j3
noncomputable def yZ(gl:Str->Bool)(κ:Str->Kd):List Stmt->Bool
 |[.Expr e _]=>(cn? e).isSome && okX gl κ e
 |_=>false
noncomputable def okS(gl:Str->Bool)(κ:Str->Kd)(tr:Bool):Nat->Stmt->Bool
 |0,_=>false
 |n+1,s=>match s with
  |.Assign [t] e _=>okX gl κ e && pw κ (okX gl κ) e t
  |.AugAssign (.Subscript o i _) _ e _=>okX gl κ o && (okX gl κ i && (gU i && okX gl κ e))
  |.Expr e _=>okX gl κ e && iu e
  |.Return (some e) _=>okX gl κ e
  |.If t b o _=>okX gl κ t && (b.all (okS gl κ tr n) && o.all (okS gl κ tr n))
  |.For t it b [] _=>okX gl κ it && (rp t it && (okT κ t && b.all (okS gl κ tr n)))
  |.While (.Constant (.bool true) _ _) b [] _=>b.all (okS gl κ tr n)
  |.Break _=>true
  |.Continue _=>true
  |.Raise (some e) none _=>(cn? e).any λ q=>(κ q.1 == .glo) && st? q.2
  |.Try body hs [] [] _=>tr && (yZ gl κ body && ro κ hs)
  |_=>false
noncomputable def vr(gl:Str->Bool)(κ:Str->Kd)(tr:Bool)(b:List Stmt):Bool:=b.all (okS gl κ tr 12)
noncomputable def OrX(prog:Program)(w:World)(hB:Heap)(C:Addr)(mg:Str->Option Value)(Φ:Or)(k:Nat):Prop:=
 ∀f vs,Φ.P f vs=some none->vs.all ie=true->∃a fd,mg f=some (.ref a)/\(∃o,hB.get? a=some o/\o.data=.func fd/\o.cls=.type "function")/\∀A,AOC A k->ClX prog w hB C A (.ref a) vs
section
variable{Φ:Or}{k n:Nat}
variable{J:Addr->Prop}{A:Around}{env:Env}{ρ ρ' ρ₁:ah}{σ σ' σ₁ σ₂:aa}{e t:Expr}{pos:Pos}{o:Out}
theorem XS.of{run:Sem Flow}{o':Out}(h:some (o',ρ₁,σ₁)=some (o,ρ',σ'))(L:XS prog w hB C J A env run ρ σ o' ρ₁ σ₁):XS prog w hB C J A env run ρ σ o ρ' σ':=by cases h;exact L
theorem bH(W:Wd prog w hB C N p mg mb mN Φ k)(e:Expr):Good Φ k 16 e:=(pP W 16 e).1
theorem vX(W:Wd prog w hB C N p mg mb mN Φ k)(e:Expr):gm Φ k 16 e:=(pP W 16 e).2
theorem cT(hf:∀x,env.kindOf x≠some .free){z:Str}(h:own? (kd env) z=true):aN env z:=by
 rcases(zf h).1 with h | h | h
 ·exact .inl h
 ·exact .inr h
 ·exact absurd h (hf z)
structure yf(A:Around)(env:Env)(k:Nat)(tr:Bool):Prop where
 e:aI env
 a:AOK A k
 f:∀x,env.kindOf x≠some .free
 t:tr=true->A.frames=some [env]/\env.frame=some env.locals
noncomputable def gn(Φ:Or)(k n:Nat)(st:Stmt):Prop:=
 ∀J A env tr ρ σ o ρ' σ',yf A env k tr->okS (glB p) (kd env) tr n st=true->x1 Φ st ρ σ=some (o,ρ',σ')->XS prog w hB C J A env (exec st env) ρ σ o ρ' σ'
noncomputable def mr(Φ:Or)(k n:Nat)(b:List Stmt):Prop:=
 ∀J A env tr ρ σ o ρ' σ',yf A env k tr->b.all (okS (glB p) (kd env) tr n)=true->xs Φ b ρ σ=some (o,ρ',σ')->XS prog w hB C J A env (execs b env) ρ σ o ρ' σ'
theorem iD(H:∀st,gn Φ k n st):∀(b:List Stmt),mr Φ k n b:=by
 intro b
 induction b with
 |nil=>
  intro J A env tr ρ σ o ρ' σ' hF ok h;exact .of h u9
 |cons st b ih=>
  intro J A env tr ρ σ o ρ' σ' hF ok h;obtain⟨oa,ρa,σa,h1,h2⟩:=bd3 h;have L:=H st J A env tr ρ σ oa ρa σa hF (aB ok).1 h1;cases oa with
  |nx=>exact qn L (ih J A env tr ρa σa o ρ' σ' hF (aB ok).2 h2)
  |_=>exact .of h2 (vM (λ q=>by cases q) L)
theorem ya(W:Wd prog w hB C N p mg mb mN Φ k)(hE:aI env)(hA:AOK A k){y:Str}{py:Pos}{v:V}(hk:aN env y)(ok:okX (glB p) (kd env) e=true)(h1:ev Φ e ρ σ=some (v,σ₁)) :
  XS prog w hB C J A env (exec (.Assign [.Name y py] e pos) env) ρ σ .nx (upd ρ y v) σ₁:=by
 refine Classical.byCases (p:=iu e=true) (λ hc=>?_) (λ hc=>?_)
 ·exact g9 hE hA (dm hc) rfl (λ z hz=>by obtain rfl:=List.mem_singleton.mp hz;exact hk) (bH W e J A env ρ σ v σ₁ hE hA ok h1) rfl
 ·cases e with
  |ListComp elt gens scope q=>
   obtain⟨ct,it,ifs,xs',vs,own,σa,σb,rfl,X,hT,hset,hIt,hcl,hm,hEl,hTs⟩:=jA (J:=J) (n:=15) W (λ m e _=>pP W m e) hE hA ok h1;exact i4 hE hA hk X hT hset hIt hcl hm hEl hTs
  |SetComp=>exact nob ok
  |DictComp=>exact nob ok
  |_=>exact absurd rfl hc
theorem BF{ts:List Expr}{k1:Nat}{p1:Pos}(h:f7 (.Tuple ts k1 p1) e=true):∃es k2 p2,e=.Tuple es k2 p2:=by
 cases e with
 |Tuple es k2 p2=>exact⟨es,k2,p2,rfl⟩
 |_=>exact nob h
theorem qo{ts:List Expr}{k1:Nat}{p1:Pos}(hb:f7 (.Tuple ts k1 p1) e=false):x1 Φ (.Assign [.Tuple ts k1 p1] e pos) ρ σ=(ev Φ e ρ σ).bind λ x=>((aQ (.Tuple ts k1 p1) x.1 ρ).bind λ ρ=>some (ρ,x.2)).bind λ y=>some (Out.nx,y.1,y.2):=by
 cases e<;>first | rfl | exact nob hb.symm
theorem yF{ts:List Expr}{k1 n:Nat}{p1:Pos}:swapsWith e (some (.Tuple ts k1 p1)) n env=pure false:=by cases e<;>rfl
theorem v8{c:Expr}{m:Str}{ps:Pos}{n:Nat}:swapsWith e (some (.Attribute c m ps)) n env=pure false:=by cases e<;>rfl
theorem u5(W:Wd prog w hB C N p mg mb mN Φ k)(hE:aI env)(hA:AOK A k)(hf:∀x,env.kindOf x≠some .free){ts:List Expr}{k1:Nat}{p1:Pos}(ok:okX (glB p) (kd env) e=true)(okt:pw (kd env) (okX (glB p) (kd env)) e (.Tuple ts k1 p1)=true)(h:x1 Φ (.Assign [.Tuple ts k1 p1] e pos) ρ σ=some (o,ρ',σ')) :
  XS prog w hB C J A env (exec (.Assign [.Tuple ts k1 p1] e pos) env) ρ σ o ρ' σ':=by
 obtain⟨a1,okt⟩:=aB okt;have hst:∀z∈bf ts,aN env z:=λ z hz=>cT hf (pq a1 z hz);refine Classical.byCases (p:=f7 (.Tuple ts k1 p1) e=true) (λ hb=>?_) (λ hb=>?_)
 ·obtain⟨es,k2,p2,rfl⟩:=BF hb;refine bC λ k9=>?_;obtain⟨vs,σ₁,h1,h⟩:=bd2 h;obtain⟨ρ₁,h2,h⟩:=bd1 h;obtain⟨a2,okt⟩:=aB okt;obtain⟨a3,okt⟩:=aB okt;refine k9 ?_;exact .of h (kQ hE hA (uV (aB okt).1) (of_decide_eq_true a3) (of_decide_eq_true a2) hst h1 (gA hE hA (bH W) es σ vs _ (aB okt).2 h1) h2)
 ·have hb:f7 (.Tuple ts k1 p1) e=false:=Bool.eq_false_iff.mpr hb;refine bC λ k9=>?_;obtain⟨v,σ₁,h1,h⟩:=bd2 ((qo hb).symm.trans h);obtain⟨ρ₁,σ₂,h2,h⟩:=bd2 h;obtain⟨ρ₂,h3,h2⟩:=bd1 h2;cases h2;refine k9 ?_;exact .of h (g9 hE hA yF hb hst (bH W e J A env ρ σ v _ hE hA ok h1) h3)
inductive Dg(l:Nat)(m:Str)(v:V)(ρ:ah)(σ:aa)(ρ₁:ah)(σ₂:aa):Prop
 |mk (fs:List (Str×V)) (hl:σ[l]?=some (.ins fs)) (hz:fs.length<1000) (e1:ρ₁=ρ) (e2:σ₂=σ.set l (.ins (bt m v fs)))
theorem CI{l:Nat}{m:Str}{v:V}(h:stN l m v ρ σ σ[l]?=some (ρ₁,σ₂)):Dg l m v ρ σ ρ₁ σ₂:=by
 cases hl:σ[l]? with
 |none=>rw[hl] at h;exact no h
 |some nd=>
  rw[hl] at h;cases nd with
  |ins fs=>
   refine Classical.byCases (p:=fs.length<1000) (λ hz=>?_) (λ hz=>?_)
   ·cases(if_pos hz).symm.trans h;exact⟨fs,hl,hz,rfl,rfl⟩
   ·exact no ((if_neg hz).symm.trans h)
  |_=>exact no h
theorem yb(W:Wd prog w hB C N p mg mb mN Φ k)(hE:aI env)(hA:AOK A k){c:Expr}{m:Str}{ps:Pos}(ok:okX (glB p) (kd env) e=true)(okt:pw (kd env) (okX (glB p) (kd env)) e (.Attribute c m ps)=true)(h:x1 Φ (.Assign [.Attribute c m ps] e pos) ρ σ=some (o,ρ',σ')) :
  XS prog w hB C J A env (exec (.Assign [.Attribute c m ps] e pos) env) ρ σ o ρ' σ':=by
 refine bC λ k9=>?_;refine bC λ k9=>?_;obtain⟨v,σ₁,h1,h⟩:=bd2 h;obtain⟨ρ₁,σ₂,h2,h⟩:=bd2 h;obtain⟨a,σa,h3,h4⟩:=bd2 h2;refine k9 ?_;refine k9 ?_;cases a with
 |o l=>
  refine bC λ k9=>?_;obtain⟨fs,hl,hz,rfl,rfl⟩:=CI h4;refine k9 ?_;exact .of h (eO W.base (List.contains_iff_mem.mp (aB okt).2) (bH W e J A env _ σ v _ hE hA ok h1) (bH W c J A env _ σ₁ _ σa hE hA (aB okt).1 h3) v8 hl hz)
 |_=>exact no h4
theorem Ap(W:Wd prog w hB C N p mg mb mN Φ k)(hE:aI env)(hA:AOK A k){c i:Expr}{ps:Pos}(ok:okX (glB p) (kd env) e=true)(okt:pw (kd env) (okX (glB p) (kd env)) e (.Subscript c i ps)=true)(h:x1 Φ (.Assign [.Subscript c i ps] e pos) ρ σ=some (o,ρ',σ')) :
  XS prog w hB C J A env (exec (.Assign [.Subscript c i ps] e pos) env) ρ σ o ρ' σ':=by
 refine bC λ k9=>?_;obtain⟨v,σ₁,h1,h⟩:=bd2 h;obtain⟨ρ₁,σ₂,h2,h⟩:=bd2 h;obtain⟨a,σa,h3,h2⟩:=bd2 h2;obtain⟨b,σb,h4,h2⟩:=bd2 h2;obtain⟨σc,h5,h2⟩:=bd1 h2;cases h2;obtain⟨a1,okt⟩:=aB okt;refine k9 ?_;exact .of h (jF hA (aB okt).2 (bH W e J A env ρ σ v _ hE hA ok h1) (bH W c J A env ρ σ₁ a σa hE hA a1 h3) (bH W i J A env ρ σa b σb hE hA (aB okt).1 h4) h5)
inductive TgC:Expr->Prop
 |name (y:Str) (p:Pos):TgC (.Name y p)
 |tup (ts:List Expr) (k:Nat) (p:Pos):TgC (.Tuple ts k p)
 |attr (c:Expr) (m:Str) (p:Pos):TgC (.Attribute c m p)
 |sub (c i:Expr) (p:Pos):TgC (.Subscript c i p)
theorem tgC{κ:Str->Kd}{f:Expr->Bool}(h:pw κ f e t=true):TgC t:=by
 cases t with
 |Name y p=>exact .name y p
 |Tuple ts k p=>exact .tup ts k p
 |Attribute c m p=>exact .attr c m p
 |Subscript c i p=>exact .sub c i p
 |_=>exact nob h
theorem nh(W:Wd prog w hB C N p mg mb mN Φ k)(hE:aI env)(hA:AOK A k)(hf:∀x,env.kindOf x≠some .free)(ok:okX (glB p) (kd env) e=true)(okt:pw (kd env) (okX (glB p) (kd env)) e t=true)(h:x1 Φ (.Assign [t] e pos) ρ σ=some (o,ρ',σ')) :
  XS prog w hB C J A env (exec (.Assign [t] e pos) env) ρ σ o ρ' σ':=by
 cases tgC okt with
 |name y py=>
  obtain⟨v,σ₁,h1,h⟩:=bd2 h;exact .of h (ya W hE hA (cT hf okt) ok h1)
 |tup ts k1 p1=>exact u5 W hE hA hf ok okt h
 |attr c m ps=>exact yb W hE hA ok okt h
 |sub c i ps=>exact Ap W hE hA ok okt h
end
end Mine.Internal
end
section
namespace Mine.Internal
open PySem PyProof.Rows
section
variable{Φ:Or}{k n:Nat}
variable{J:Addr->Prop}{A:Around}{env:Env}{ρ ρ':ah}{σ σ' σ₁ σ₂:aa}{e t:Expr}{pos:Pos}{o:Out}
inductive As(Φ:Or)(it:Expr)(ρ:ah)(σ σ₁:aa):Src->Prop
 |items (ys:List V) (h:drw Φ it ρ σ (ev Φ it ρ σ)=some (ys,σ₁)):As Φ it ρ σ σ₁ (.items ys)
 |obj (l:Nat) (h:ev Φ it ρ σ=some (.o l,σ₁)):As Φ it ρ σ σ₁ (.obj l)
 |fset (ks:List Int) (h:ev Φ it ρ σ=some (.fs ks,σ₁)):As Φ it ρ σ σ₁ (.fset ks)
theorem ia{it:Expr}{sr:Src}(h:srcOf (ev Φ it ρ σ)=some (sr,σ₁))(hd:drw Φ it ρ σ (ev Φ it ρ σ)=iK (ev Φ it ρ σ)):As Φ it ρ σ σ₁ sr:=by
 obtain⟨v,σa,h1,h⟩:=bd2 h;obtain⟨s',h2,h⟩:=bd1 h;cases h;cases v with
 |o l=>cases h2;exact .obj l h1
 |fs ks=>cases h2;exact .fset ks h1
 |d x=>
  obtain⟨ys,h3,h2⟩:=bd1 (Option.map_eq_bind.symm.trans h2);cases h2;refine .items ys (hd.trans ?_);rw[h1];show(hV (.d x)).bind _=_;rw[h3];rfl
 |ty m=>cases h2
theorem qF{it:Expr}{sr:Src}(h:src Φ it ρ σ=some (sr,σ₁)):As Φ it ρ σ σ₁ sr:=by
 cases Ca it with
 |plain h1 h2=>exact ia ((h2 _ _ _).symm.trans h) (h1 _ _ _ _)
 |call f np args q e=>
  subst e;refine Classical.byCases (p:=oc f=true) (λ hf=>?_) (λ hf=>?_)
  ·obtain⟨vs,σa,h1,h⟩:=bd2 ((if_pos hf).symm.trans h);refine bC λ k9=>?_;obtain⟨ys,h2,h⟩:=bd1 h;cases h;refine k9 ?_;refine .items ys ((if_pos hf).trans ?_);rw[h1];show(draws f vs).bind _=_;rw[h2];rfl
  ·exact ia ((if_neg hf).symm.trans h) (if_neg hf)
theorem uR{f:Str}{a:Addr}(B:Base hB C N p mg mb mN)(q1:mg f=some (.ref a))(o:(f == ("set":Str))=true):False:=by
 obtain rfl:=eq_of_beq o;rw[(B.bi _ (.type "set") (by decide)).1] at q1;cases q1
theorem vZ(W:Wd prog w hB C N p mg mb mN Φ k)(hE:aI env)(hA:AOK A k){f:Str}{np q:Pos}{args:List Expr}{vs:List V}(ok:okX (glB p) (kd env) (.Call (.Name f np) args [] q)=true)(h1:evs Φ args ρ σ=some (vs,σ₁))(hsh:vs.all ie=true)
  {v:V} (hv:Φ.P f vs=some (some v)):EvS prog w hB C J A env (.Call (.Name f np) args [] q) ρ σ v σ₁:=by
 refine bC λ k9=>?_;obtain⟨ok,o5⟩:=aB ok;obtain⟨o1,ok⟩:=aB ok;obtain⟨o2,ok⟩:=aB ok;obtain⟨a,fd,q1,q2,K⟩:=W.or.P f vs v hv hsh;refine k9 ?_;refine aq hE (gy o1) (dq o2) W.base.ng W.base.nb (.inl q1) h1 (.func a fd q2) (λ _ q3=>?_) (gA hE hA (λ e=>(pP W 15 e).1) args σ vs σ₁ o5 h1) (K A σ₁ hA.call);subst q3;exact uR W.base q1 (aB ok).2
theorem v3(W:Wd prog w hB C N p mg mb mN Φ k)(OX:OrX prog w hB C mg Φ k)(hE:aI env)(hA:AOK A k){f:Str}{np q:Pos}{args:List Expr}{vs:List V}(ok:okX (glB p) (kd env) (.Call (.Name f np) args [] q)=true)(h1:evs Φ args ρ σ=some (vs,σ₁))(hsh:vs.all ie=true)
  (hv:Φ.P f vs=some none) (hfr:A.frames=some [env]) (hfm:env.frame=some env.locals) (ι:Loc) (s:Shared) (m cm:Str->Option Value) (Q:Value->Shared->Prop) (E:Value->Shared->Prop) (F:FR J env m cm s.heap) (R:ER w J ι σ env m cm s.heap ρ) (S:SR prog w hB C J ι σ s.heap)
  (he:∀s₁ ι₁ ea s',Goes prog w hB C J s ι σ s₁ ι₁ σ₁->Flew s₁ s' env.locals ea env->E (.ref ea) s'):wpAny (model prog w) A (eval (.Call (.Name f np) args [] q) env) Q E s:=by
 refine bC λ k9=>?_;obtain⟨ok,o5⟩:=aB ok;obtain⟨o1,ok⟩:=aB ok;obtain⟨a,fd,q1,⟨ob,q2,q3,q4⟩,K⟩:=OX f vs hv hsh;refine k9 ?_;refine Call_Name rfl (mX hE (gy o1) (dq (aB ok).1) W.base.ng W.base.nb (.inl q1) S ?_);refine PySem.Calls.callWith_function (o:=ob) (fd:=fd) (eX h1 (gA hE hA (λ e=>(pP W 15 e).1) args σ vs σ₁ o5 h1) F R S λ vals s₁ ι₁ g rs=>⟨⟨g.sr.keep _ _ q2,q3⟩,?_⟩);have F1:=F.evo S g.evo;refine bC λ k9=>?_;obtain⟨oL,es,ep,hoL,hdL,_⟩:=F1.ns;refine k9 ?_;exact K A hA.call J ι₁ σ₁ s₁ vals Q E env env.locals oL g.sr rs hfr hfm hE.kind hoL (λ vs q=>by rw[hdL] at q;cases q) F1.jL λ ea s' fl=>he s₁ ι₁ ea s' g fl
theorem uG{z:Str}{p2 p3 p4:Pos}{c:Const}{kk:Nat}(hc:isConst c=true)(h:xs Φ [.Assign [.Name z p2] (.Constant c kk p3) p4] ρ σ=some (o,ρ',σ')):some (Out.nx,upd ρ z (oN c),σ)=some (o,ρ',σ'):=by
 cases c<;>first | exact h | exact nob hc
theorem A2(W:Wd prog w hB C N p mg mb mN Φ k)(OX:OrX prog w hB C mg Φ k){tr:Bool}(hF:yf A env k tr){f:Str}{np q ap:Pos}{args:List Expr}{hs:List ExceptHandler}(htr:tr=true)(okc:okX (glB p) (kd env) (.Call (.Name f np) args [] q)=true)(okh:ro (kd env) hs=true)
  (h:x1 Φ (.Try [.Expr (.Call (.Name f np) args [] q) ap] hs [] [] pos) ρ σ=some (o,ρ',σ')):XS prog w hB C J A env (exec (.Try [.Expr (.Call (.Name f np) args [] q) ap] hs [] [] pos) env) ρ σ o ρ' σ':=by
 cases Bi okh with
 |mk c z qc kk p1 p2 p3 p4 p5 c1 c2 c3=>
  by_cases hce:c="ValueError"
  ·obtain⟨vs,σ₁,h1,h⟩:=bd2 ((if_pos hce).symm.trans h);by_cases hsh:vs.all ie=true
   ·obtain⟨r,h3,h4⟩:=bd1 ((if_pos hsh).symm.trans h);refine bC λ k9=>?_;obtain⟨hfr,hfm⟩:=hF.t htr;refine k9 ?_;cases r with
    |some v=>
     refine .of h4 λ ι s m cm Q E F R S hq hx=>?_;refine wpAny_Try_except (qn (qm hF.e rfl (vZ W hF.e hF.a okc h1 hsh h3)) u9 ι s m cm _ _ F R S (λ fl s' ι' m' cm' g F' R' hfl=>?_) (λ ea s' ι' q=>by cases q));obtain rfl:fl=.next:=hfl;exact wpAny_execs_nil (hq _ s' ι' m' cm' g F' R' rfl)
    |none=>
     refine .of (uG c3 h4) (kP W.base hF.e (gy c1) hce (cT hF.f c2) c3 hfr hfm λ ι s m cm Q E F R S he=>?_);refine wpAny_execs_cons (wpAny_Expr_any (v3 W OX hF.e hF.a okc h1 hsh h3 hfr hfm ι s m cm _ _ F R S he) ?_ (dm rfl));unfold interactive;rw[hF.e.kind];rfl
   ·exact no ((if_neg hsh).symm.trans h)
  ·exact no ((if_neg hce).symm.trans h)
theorem wt(W:Wd prog w hB C N p mg mb mN Φ k)(hE:aI env)(hA:AOK A k){f:Str}{args:List Expr}(c:CnC f args e)(c2:BJ args)(hg:env.kindOf f=some .globalImplicit)(h:x1 Φ (.Raise (some e) none pos) ρ σ=some (o,ρ',σ')) :
  XS prog w hB C J A env (exec (.Raise (some e) none pos) env) ρ σ o ρ' σ':=by
 cases c;cases c2;refine Classical.byCases (p:=f="ValueError") (λ hfe=>?_) (λ hfe=>?_)
 ·exact .of ((if_pos hfe).symm.trans h) (ta W.base hE hA hg hfe)
 ·exact no ((if_neg hfe).symm.trans h)
theorem A4(W:Wd prog w hB C N p mg mb mN Φ k)(G:∀b,mr Φ k n b){it:Expr}{body:List Stmt}:gn Φ k (n+1) (.For t it body [] pos):=λ J A env tr ρ σ o ρ' σ' hF ok h=>by
 refine bC λ k9=>?_;obtain⟨a1,ok⟩:=aB ok;obtain⟨a2,ok⟩:=aB ok;obtain⟨a3,a4⟩:=aB ok;obtain⟨sr,σ₁,h1,h2⟩:=bd2 h;have hst:∀z∈ak t,aN env z:=λ z hz=>cT hF.f (lz a3 z hz);have hB':∀J',∀ρa σa oa ρb σb,xs Φ body ρa σa=some (oa,ρb,σb)->XS prog w hB C J' A env (execs body env) ρa σa oa ρb σb:=λ J' ρa σa oa ρb σb hx=>G body J' A env tr ρa σa oa ρb σb hF a4 hx;refine k9 ?_;cases qF h1 with
 |items ys hsrc=>exact yn (xsb:=λ ρ σ=>xs Φ body ρ σ) hF.e hF.a (d9 a1) hst (vG W (λ m e _=>(pP W m e).1) (bH W it) hF.e hF.a a1 a2 (j5 a3) hsrc) h2 hB'
 |obj l hsrc=>exact vO (xsb:=λ ρ σ=>xs Φ body ρ σ) hF.e hF.a (d9 a1) (j5 a3) hst (bH W it J A env ρ σ _ σ₁ hF.e hF.a a1 hsrc) h2 hB'
 |fset ks hsrc=>
  cases σ₁ with
  |cons a b=>exact no h2
  |nil=>
   obtain⟨hsm,r,h3,h4⟩:=ou h2;have X:=vN (Φ:=Φ) (pos:=pos) hF.e hF.a (d9 a1) (j5 a3) hst hsm (bH W it J A env ρ σ _ _ hF.e hF.a a1 hsrc) h3 hB';cases r with
   |none=>exact .of (congrArg some h4) X
   |some b=>exact .of (congrArg some h4) X
theorem i8{st:Stmt}(q:∀κ tr,okS (glB p) κ tr (n+1) st=false):gn Φ k (n+1) st:=λ J A env tr ρ σ o ρ' σ' hF ok h=>nob ((q _ _).symm.trans ok)
theorem tL{st:Stmt}(q:∀ρ σ,x1 Φ st ρ σ=none):gn Φ k n st:=λ J A env tr ρ σ o ρ' σ' hF ok h=>no ((q _ _).symm.trans h)
theorem A5(W:Wd prog w hB C N p mg mb mN Φ k){tg:Expr}{op:Operator}:gn Φ k (n+1) (.AugAssign tg op e pos):=by
 cases tg with
 |Subscript c i ps=>
  intro J A env tr ρ σ o ρ' σ' hF ok h;refine bC λ k9=>?_;obtain⟨a1,ok⟩:=aB ok;obtain⟨a2,ok⟩:=aB ok;obtain⟨a,σ₁,h1,h⟩:=bd2 h;obtain⟨b,σ₂,h2,h⟩:=bd2 h;obtain⟨cc,h3,h⟩:=bd1 h;obtain⟨d,σ₃,h4,h⟩:=bd2 h;obtain⟨m',h5,h⟩:=bd1 h;obtain⟨r',h6,h⟩:=bd1 h;obtain⟨σ₄,h7,h8⟩:=bd1 h;obtain rfl:=aS h5;exact k9 (.of h8 (yo hF.a (aB ok).1 (bH W c J A env ρ σ a σ₁ hF.e hF.a a1 h1) (bH W i J A env ρ σ₁ b σ₂ hF.e hF.a a2 h2) h3 (bH W e J A env ρ σ₂ _ σ₃ hF.e hF.a (aB ok).2 h4) h6 h7))
 |_=>exact i8 λ _ _=>rfl
theorem yM(W:Wd prog w hB C N p mg mb mN Φ k):gn Φ k (n+1) (.Expr e pos):=λ J A env tr ρ σ o ρ' σ' hF ok h=>by
 obtain⟨v,σ₁,h1,h⟩:=bd2 h;exact .of h (qm hF.e (aB ok).2 (bH W e J A env ρ σ v _ hF.e hF.a (aB ok).1 h1))
theorem A3(W:Wd prog w hB C N p mg mb mN Φ k){v:Option Expr}:gn Φ k (n+1) (.Return v pos):=by
 cases v with
 |none=>exact i8 λ _ _=>rfl
 |some e=>
  intro J A env tr ρ σ o ρ' σ' hF ok h;obtain⟨v,σ₁,h1,h⟩:=bd2 h;exact .of h (ql (bH W e J A env ρ σ v _ hF.e hF.a ok h1))
theorem CR(W:Wd prog w hB C N p mg mb mN Φ k)(G:∀b,mr Φ k n b){b els:List Stmt}:gn Φ k (n+1) (.If t b els pos):=λ J A env tr ρ σ o ρ' σ' hF ok h=>by
 obtain⟨c,σ₁,h1,h2⟩:=bd2 h;refine AR (vX W t J A env ρ σ c σ₁ hF.e hF.a (aB ok).1 h1) (λ hc=>?_) (λ hc=>?_)
 ·exact G b J A env tr ρ σ₁ o ρ' σ' hF (aB (aB ok).2).1 ((if_pos hc).symm.trans h2)
 ·exact G els J A env tr ρ σ₁ o ρ' σ' hF (aB (aB ok).2).2 ((if_neg (by rw[hc];decide)).symm.trans h2)
theorem wq(G:∀b,mr Φ k n b){body els:List Stmt}:gn Φ k (n+1) (.While t body els pos):=by
 cases t with
 |Constant c kk cp=>
  cases c with
  |bool b=>
   cases b with
   |false=>exact tL λ _ _=>rfl
   |true=>
    cases els with
    |cons a b=>exact tL λ _ _=>rfl
    |nil=>exact λ J A env tr ρ σ o ρ' σ' hF ok h=>s9 (xsb:=λ ρ σ=>xs Φ body ρ σ) h λ J' ρa σa oa ρb σb hx=>G body J' A env tr ρa σa oa ρb σb hF ok hx
  |_=>exact tL λ _ _=>rfl
 |_=>exact tL λ _ _=>rfl
theorem tK(W:Wd prog w hB C N p mg mb mN Φ k){ex cause:Option Expr}:gn Φ k (n+1) (.Raise ex cause pos):=by
 cases ex with
 |none=>exact i8 λ _ _=>rfl
 |some e=>
  cases cause with
  |some c=>exact i8 λ _ _=>rfl
  |none=>
   intro J A env tr ρ σ o ρ' σ' hF ok h;have ok:(cn? e).any (λ q=>(kd env q.1 == .glo) && st? q.2)=true:=ok;refine bC λ k9=>?_;cases hc:cn? e with
   |none=>rw[hc] at ok;exact nob ok
   |some q=>
    rw[hc] at ok;exact k9 (wt W hF.e hF.a (cnC hc) (CH (aB ok).2) (gy (aB ok).1) h)
theorem wu{body:List Stmt}{hs:List ExceptHandler}(q:∀κ,yZ (glB p) κ body=false):gn Φ k (n+1) (.Try body hs [] [] pos):=λ J A env tr ρ σ o ρ' σ' hF ok h=>nob ((q _).symm.trans (aB (aB ok).2).1)
theorem yL(W:Wd prog w hB C N p mg mb mN Φ k)(OX:OrX prog w hB C mg Φ k){body els fin:List Stmt}{hs:List ExceptHandler}:gn Φ k (n+1) (.Try body hs els fin pos):=by
 cases els with
 |cons a b=>exact i8 λ _ _=>rfl
 |nil=>
  cases fin with
  |cons a b=>exact i8 λ _ _=>rfl
  |nil=>
   cases body with
   |nil=>exact wu λ _=>rfl
   |cons st r=>
    cases st with
    |Expr e ap=>
     cases r with
     |cons _ _=>exact wu λ _=>rfl
     |nil=>
      intro J A env tr ρ σ o ρ' σ' hF ok h;obtain⟨a1,ok⟩:=aB ok;obtain⟨a4,a5⟩:=aB (aB ok).1;obtain⟨⟨f,args⟩,hc⟩:=Option.isSome_iff_exists.mp a4;cases cnC hc;exact A2 W OX hF a1 a5 (aB ok).2 h
    |_=>exact wu λ _=>rfl
theorem ym(W:Wd prog w hB C N p mg mb mN Φ k)(OX:OrX prog w hB C mg Φ k)(n:Nat)(st:Stmt):gn Φ k n st:=by
 induction n generalizing st with
 |zero=>exact λ J A env tr ρ σ o ρ' σ' hF ok h=>nob ok
 |succ n ih=>
  have G:∀b,mr Φ k n b:=iD ih;cases st with
  |Assign ts e q=>exact match ts with
   |[]=>i8 λ _ _=>rfl
   |_::_::_=>i8 λ _ _=>rfl
   |[t]=>λ J A env tr ρ σ o ρ' σ' hF ok h=>nh W hF.e hF.a hF.f (aB ok).1 (aB ok).2 h
  |AugAssign tg op e q=>exact A5 W
  |Expr e q=>exact yM W
  |Return v q=>exact A3 W
  |If t b els q=>exact CR W G
  |For t it body els q=>
   cases els with
   |cons a b=>exact i8 λ _ _=>rfl
   |nil=>exact A4 W G
  |While t body els q=>exact wq G
  |Break q=>exact λ J A env tr ρ σ o ρ' σ' hF ok h=>.of h tc
  |Continue q=>exact λ J A env tr ρ σ o ρ' σ' hF ok h=>.of h mx
  |Raise ex cause q=>exact tK W
  |Try body hs els fin q=>exact yL W OX
  |_=>exact i8 λ _ _=>rfl
end
end Mine.Internal
end
section
namespace Mine.Internal
open PySem PyProof.Rows
section
variable{Φ:Or}{k:Nat}
variable{J:Addr->Prop}{A:Around}{env:Env}{ρ ρ':ah}{σ σ' σ₁ σ₂:aa}{e t:Expr}{pos:Pos}{o:Out}{ι ι':Loc}{s s':Shared}
theorem SR.ie(S:SR prog w hB C J ι σ s.heap):SR prog w hB C (Ex J ι σ) ι [] s.heap:=by
 refine⟨S.keep,λ l n q=>by simp at q,λ l l' n n' q=>by simp at q,λ l n q=>by simp at q,λ l n q=>by simp at q,λ b hb=>⟨λ q=>?_,?_,?_⟩⟩
 ·obtain⟨l,n,e1,_⟩:=q;simp at e1
 ·rcases hb with q | ⟨l,n,e1,e2,rfl | rfl⟩
  ·exact(S.jo b q).2.1
  ·exact(S.off l n e1 e2).1
  ·exact(S.off l n e1 e2).2
 ·rcases hb with q | q
  ·exact(S.jo b q).2.2
  ·exact S.rh q
theorem noOwn(ι:Loc)(b:Addr):¬Own ι [] b:=λ q=>by obtain⟨l,n,e1,_⟩:=q;cases e1
theorem VR.ie{h:Heap}{v:Value}{x:V}(r:VR w J ι σ h v x)(hx:Mine.Internal.ie x=true):VR w (Ex J ι σ) ι [] h v x:=by
 have hX:∀b,Ex (Ex J ι σ) ι [] b->Ex J ι σ b:=λ b q=>q.elim id λ q=>absurd q (noOwn ι b);cases x with
 |d x=>exact RD.keeps (λ _ _ _ q=>q) (λ b _ hb _ q=>hb (hX b q)) r
 |fs xs=>
  obtain⟨a,h1,h2,h3⟩:=r;exact⟨a,h1,λ q=>h2 (hX a q),h3⟩
 |_=>first | exact no hx | exact nob hx | cases hx
theorem x6{u:Value}{v v0:V}(S:SR prog w hB C (Ex J ι σ) ι' σ' s'.heap)(r:VR w (Ex J ι σ) ι' σ' s'.heap u v0)(hb:back σ' v0=some v):VR w J ι σ s'.heap u v:=by
 have hX:∀{σ'':aa} b,Ex J ι σ b->Ex (Ex J ι σ) ι' σ'' b:=λ b q=>.inl q;cases v0 with
 |d x=>cases hb;exact RD.keeps (λ _ _ _ q=>q) (λ b _ h1 _ q=>h1 (hX b q)) r
 |fs xs=>
  cases hb;obtain⟨a,h1,h2,h3⟩:=r;exact⟨a,h1,λ q=>h2 (hX a q),h3⟩
 |ty n=>first | exact no hb | exact nob hb | cases hb
 |o l=>
  have fz:(Mine.Internal.frz 8 σ' (.o l)).map (λ x=>V.d x.1)=some v->VR w J ι σ s'.heap u v:=λ hb=>by
   obtain⟨⟨d,σ''⟩,h1,h2⟩:=Option.map_eq_some_iff.mp hb;subst h2;obtain⟨_,_,R'⟩:=fo 8 S r h1;exact RD.keeps (λ _ _ _ q=>q) (λ b _ h1 _ q=>h1 (hX b q)) R'
  have hb:bkN l σ' σ'[l]?=some v:=hb;cases hl:σ'[l]? with
  |none=>rw[hl] at hb;exact fz hb
  |some nd=>
   rw[hl] at hb;cases nd with
   |set xs=>
    cases hb;obtain⟨rfl,_⟩:=r;exact⟨_,rfl,λ q=>(S.jo _ q).1 (Own.of (ι:=ι') hl rfl).1,S.node l _ hl⟩
   |_=>exact fz hb
structure oX(hB:Heap)(p:Prg)(mg mN:Str->Option Value):Prop where
 fn:∀f g,p.fn f=some g->∃a fd,mg f=some (.ref a)/\FnAt hB a g fd/\vr (glB p) (kds fd.scope.names) false g.body=true
 mt:∀m g,p.mt m=some g->∃a fd,mN m=some (.ref a)/\FnAt hB a g fd/\vr (glB p) (kds fd.scope.names) false g.body=true/\∃y,typeLookup (.type "object") m=pure y
theorem nG(n:Nat):(p.run n).gl=p.gl/\(p.run n).cls=p.cls:=by cases n<;>exact⟨rfl,rfl⟩
theorem oT{vals:List Value}{vs:List V}{h:Heap}(R:aA (VR w J ι σ h) vals vs)(hs:vs.all Mine.Internal.ie=true):aA (VR w (Ex J ι σ) ι [] h) vals vs:=
 R.tY λ v x _ hx r=>r.ie (List.all_eq_true.mp hs x hx)
theorem yN(B:Base hB C N p mg mb mN)(T:oX hB p mg mN):∀n,Au prog w hB C mg mN (p.run n) n/\OrX prog w hB C mg (p.run n) n:=by
 intro n
 induction n with
 |zero=>
  refine⟨⟨λ f vs v h=>?_,λ m vs σ v σ' h=>?_⟩,λ f vs h=>?_⟩
  ·exact by cases(show(none:Option (Option V))=some (some v) from h)
  ·exact by cases(show(none:Option (V×aa))=some (v,σ') from h)
  ·exact by cases(show(none:Option (Option V))=some none from h)
 |succ n ih=>
  have W:Wd prog w hB C N p mg mb mN (p.run n) n:=⟨B,ih.1,(nG n).1,(nG n).2⟩;have body:∀(g:Fn) (fd:FuncData) (ρ ρ':ah) (σ σ':aa) (o:Out),vr (glB p) (kds fd.scope.names) false g.body=true->xs (p.run n) g.body ρ σ=some (o,ρ',σ')->
    ∀J' A' env,aI env->AOK A' n->(∀x,kd env x=kds fd.scope.names x)->(∀x,env.kindOf x≠some .free)->XS prog w hB C J' A' env (execs g.body env) ρ σ o ρ' σ':=λ g fd ρ ρ' σ σ' o hok hx J' A' env hE hA hk hf=>
   iD (ym W ih.2 12) g.body J' A' env false ρ σ o ρ' σ' ⟨hE,hA,hf,λ q=>by cases q⟩ (funext hk▸hok) hx
  refine⟨⟨λ f vs v h hsh=>?_,λ m vs σ v σ' h=>?_⟩,λ f vs h hsh=>?_⟩
  ·have h':(do let g<-p.fn f;let ρ<-binds g.params vs;let (o,_,σ)<-xs (p.run n) g.body ρ [];match o with | .rt v=>(back σ v).map some | .nx=>some (some (.d .none)) | .ex=>some none | _=>none)=some (some v):=h;refine bC λ k9=>?_;obtain⟨g,hg,h'⟩:=bd1 h';obtain⟨ρ,hb,h'⟩:=bd1 h';obtain⟨o,ρ',σ',hx,ho⟩:=bd3 h';obtain⟨a,fd,q1,X,hok⟩:=T.fn f g hg;refine k9 ?_;refine⟨a,fd,q1,X.obj,λ A σ hA J ι s vals Q E S R hQ=>?_⟩;refine xm (J:=Ex J ι σ) (σ:=[]) B.lim X hA S.ie (oT R hsh) hb (λ q=>?_) (λ J' env hE hA' _ hk hf=>body g fd ρ ρ' [] σ' o hok hx J' _ env hE hA' hk hf) λ u s' ι' g' hr=>?_
   ·subst q;cases ho
   ·have kp:∀b ob,s.heap.get? b=some ob->s'.heap.get? b=some ob:=λ b ob q=>g'.evo.kp b ob (noOwn ι b) q;have gg:Goes prog w hB C J s ι σ s' ι σ:=⟨g'.same,Evo.aM kp,S.aM kp⟩;refine hQ u s' ι gg ?_;cases o with
    |rt v0=>
     refine bC λ k9=>?_;obtain⟨v1,h1,h2⟩:=Option.map_eq_some_iff.mp ho;cases h2;refine k9 ?_;exact x6 g'.sr hr h1
    |nx=>
     cases ho;obtain rfl:u=.none:=hr;exact RD.none
    |_=>first | exact no ho | exact nob ho | cases ho
  ·have h':(do let g<-p.mt m;let ρ<-binds g.params vs;let (o,_,σ)<-xs (p.run n) g.body ρ σ;match o with | .rt v=>some (v,σ) | .nx=>some (.d .none,σ) | _=>none)=some (v,σ'):=h;refine bC λ k9=>?_;obtain⟨g,hg,h'⟩:=bd1 h';obtain⟨ρ,hb,h'⟩:=bd1 h';obtain⟨o,ρ',σ'',hx,ho⟩:=bd3 h';obtain⟨a,fd,q1,X,hok,hty⟩:=T.mt m g hg;refine k9 ?_;refine⟨a,fd,q1,X.obj,hty,λ A hA J ι s vals Q E S R hQ=>?_⟩;refine xm B.lim X hA S R hb (λ q=>?_) (λ J' env hE hA' _ hk hf=>body g fd ρ ρ' σ σ'' o hok hx J' _ env hE hA' hk hf) λ u s' ι' g' hr=>?_
   ·subst q;cases ho
   ·cases o with
    |rt v0=>
     refine bC λ k9=>?_;cases ho;refine k9 ?_;exact hQ u s' ι' g' hr
    |nx=>
     refine bC λ k9=>?_;cases ho;obtain rfl:u=.none:=hr;refine k9 ?_;exact hQ _ s' ι' g' RD.none
    |_=>first | exact no ho | exact nob ho | cases ho
  ·have h':(do let g<-p.fn f;let ρ<-binds g.params vs;let (o,_,σ)<-xs (p.run n) g.body ρ [];match o with | .rt v=>(back σ v).map some | .nx=>some (some (.d .none)) | .ex=>some none | _=>none)=some none:=h;refine bC λ k9=>?_;obtain⟨g,hg,h'⟩:=bd1 h';obtain⟨ρ,hb,h'⟩:=bd1 h';obtain⟨o,ρ',σ',hx,ho⟩:=bd3 h';obtain⟨a,fd,q1,X,hok⟩:=T.fn f g hg;refine k9 ?_;have hoe:o=.ex:=by
    cases o with
    |rt v0=>obtain⟨v1,h1,h2⟩:=Option.map_eq_some_iff.mp ho;cases h2
    |ex=>rfl
    |_=>first | exact no ho | exact nob ho | cases ho
   subst hoe;refine⟨a,fd,q1,X.obj,λ A hA J ι σ s vals Q E eL L oL S R hfr hLf hLk hLo hLd hLJ hE=>?_⟩;refine Br (J:=Ex J ι σ) (σ:=[]) B.lim X hA S.ie (oT R hsh) hb hfr hLf hLk hLo hLd (S.jo L hLJ).2.1 (noOwn ι L) (body g fd ρ ρ' [] σ' .ex hok hx) (λ env s₁ s' ι' k1 k2 ev b ob q=>?_) hE;exact ev.kp b ob (noOwn ι b) (λ z=>by rw[k2 b z] at q;cases q) (k1 b ob q)
theorem ze{a:Addr}{g:Fn}{fd:FuncData}{n:Nat}{vals:List Value}{vs:List V}{v:V}{Q:Value->Shared->Prop}{E:Value->Shared->Prop}(B:Base hB C N p mg mb mN)(T:oX hB p mg mN)(X:FnAt hB a g fd)(hok:vr (glB p) (kds fd.scope.names) true g.body=true)
  (hA:AOC A (n+1)) (hfr:A.frames=some []) (S:SR prog w hB C J ι [] s.heap) (R:aA (VR w J ι [] s.heap) vals vs) (hb:binds g.params vs=some ρ) (hx:xs (p.run n) g.body ρ []=some (.rt v,ρ',σ'))
  (h:∀u s' ι',Goes prog w hB C J s ι [] s' ι' σ'->VR w J ι' σ' s'.heap u v->Q u s'):wpAny (model prog w) A (call (.ref a) vals) Q E s:=by
 have ih:=yN B T n;have W:Wd prog w hB C N p mg mb mN (p.run n) n:=⟨B,ih.1,(nG n).1,(nG n).2⟩;refine xm (o:=.rt v) (ρ':=ρ') (σ':=σ') B.lim X hA S R hb (λ q=>by cases q) (λ J' env hE hA' hfm hk hf=>?_) h;exact iD (ym W ih.2 12) g.body J' _ env true ρ [] _ ρ' σ' ⟨hE,hA',hf,λ _=>⟨by show A.frames.map _=_;rw[hfr];rfl,hfm⟩⟩ (funext hk▸hok) hx
end
end Mine.Internal
end
section
namespace Mine.Internal
open PySem
theorem s8{x:Str}{ns:List Str}{vs:List Value}(h:vs.length=ns.length)(hx:x∈ns):((ns.zip vs).lookup x).isSome=true:=by
 induction ns generalizing vs with
 |nil=>cases hx
 |cons n ns ih=>
  cases vs with
  |nil=>cases h
  |cons v vs=>
   rw[List.zip_cons_cons,List.lookup_cons];cases q:(x == n) with
   |true=>rfl
   |false=>exact ih (Nat.succ.inj h) ((List.mem_cons.mp hx).resolve_left λ e=>ne_of_beq_false q e)
theorem gX{α β:Type}{f g:α->Option β}{l:List α}(h:∀x∈l,f x=g x):l.filterMap f=l.filterMap g:=by
 induction l with
 |nil=>rfl
 |cons a l ih=>rw[List.filterMap_cons,List.filterMap_cons,h a List.mem_cons_self,ih λ x hx=>h x (List.mem_cons_of_mem _ hx)]
theorem yl{ns:List Str}{vs:List Value}(h:vs.length=ns.length)(hn:ns.Nodup):(ns.filterMap λ n=>((ns.zip vs).lookup n).map (n,·))=ns.zip vs:=by
 induction ns generalizing vs with
 |nil=>rfl
 |cons n ns ih=>
  cases vs with
  |nil=>cases h
  |cons v vs=>
   have hn:=List.nodup_cons.mp hn;rw[List.zip_cons_cons,List.filterMap_cons_some (b:=(n,v)) (by rw[List.lookup_cons,beq_self_eq_true];rfl)];refine congrArg _ (.trans (gX λ x hx=>?_) (ih (Nat.succ.inj h) hn.2));rw[List.lookup_cons,beq_false_of_ne (λ q:x=n=>hn.1 (q▸hx))]
theorem pX{fd:FuncData}{a:Arguments}(hp:fd.params=a)(h1:a.posonlyargs=[])(h2:a.vararg=none)(h3:a.kwonlyargs=[])(h4:a.kwarg=none)(hd:fd.defaults=.none)(hn:(a.args.map (·.arg)).Nodup)(vals:List Value)(hl:vals.length=(a.args.map (·.arg)).length) :
  bindArgs fd ⟨vals,[]⟩=pure ((a.args.map (·.arg)).zip vals):=by
 obtain⟨_,_,p,_,_,_,_,d,_⟩:=fd;obtain⟨_,as,_,_,_,_,_⟩:=a;cases h1;cases h2;cases h3;cases h4;cases hp;cases hd;have e1:((as.map (·.arg)).filter λ n=>(((as.map (·.arg)).zip vals).lookup n).isNone)=[]:=List.filter_eq_nil_iff.mpr λ x hx=>by
  rw[<-Option.not_isSome,s8 hl hx];decide
 have e3:¬(decide (vals.length > (as.map (·.arg)).length) && true)=true:=λ q=>Nat.ne_of_gt (of_decide_eq_true (Bool.and_eq_true_iff.mp q).1) hl;have e5:List.drop (([]:List Value).length-(as.map (·.arg)).length) ([]:List Value)=[]:=List.drop_nil;have e4:¬(!(List.filter (λ n=>(((as.map (·.arg)).zip vals).lookup n).isNone) ((as.map (·.arg)).take ((as.map (·.arg)).length-(List.drop (([]:List Value).length-(as.map (·.arg)).length) ([]:List Value)).length))).isEmpty)=true:=by
  rw[e5,show(as.map (·.arg)).take ((as.map (·.arg)).length-([]:List Value).length)=as.map (·.arg) from List.take_length,e1];decide
 refine(if_neg e3).trans ((if_neg e4).trans ?_);show(forIn (((as.map (·.arg)).drop ((as.map (·.arg)).length-(List.drop (([]:List Value).length-(as.map (·.arg)).length) ([]:List Value)).length)).zip (List.drop (([]:List Value).length-(as.map (·.arg)).length) ([]:List Value))) _ _ >>= _)=_;rw[e5,List.zip_nil_right];refine congrArg (pure (f:=Sem)) ((?_:List.filterMap _ (as.map (·.arg)++[])=_).trans (yl hl hn));rw[List.append_nil];rfl
end Mine.Internal
end
section
namespace Mine.Internal
open PySem PySem.W PyProof.Rows
noncomputable def rQ:Option NameKind->Bool
 |some .local=>true
 |some .cell=>true
 |_=>false
noncomputable def uc:NameKind->Bool
 |.free=>true
 |_=>false
noncomputable def qM:ScopeKind->Bool
 |.function=>true
 |_=>false
noncomputable def By(d:Df):Bool:=
 d.a.posonlyargs.isEmpty && (d.a.vararg.isNone && (d.a.kwonlyargs.isEmpty && (d.a.kwarg.isNone && (!d.sc.isCoroutine && (!d.sc.isGenerator && (qM d.sc.kind &&
 (decide d.fn.params.Nodup && (decide (d.sc.names.map (·.1)).Nodup && (d.sc.names.all (λ x=>!uc x.2) && d.fn.params.all λ x=>rQ (d.sc.names.lookup x))))))))))
theorem nI{v:Value}{a:Addr}(h:A6 v=some a):v=.ref a:=by
 cases v with
 |ref b=>cases h;rfl
 |_=>exact no h
theorem nu{v:Value}{n:String}(h:Az v=some n):v=.type n:=by
 cases v with
 |type m=>cases h;rfl
 |_=>exact no h
theorem xf{v:Value}(h:B3 v=true):v=.none:=by
 cases v with
 |none=>rfl
 |_=>exact nob h
theorem qD{v:Value}{q:Str}(h:yI v=some q):∃t,v=.str q t:=by
 cases v with
 |str m t=>cases h;exact⟨t,rfl⟩
 |_=>exact no h
theorem r8{d:Data}{vs:Array Value}(h:zH d=some vs):d=.fields vs:=by
 cases d with
 |fields ws=>cases h;rfl
 |_=>exact no h
theorem r4{d:Data}{fd:FuncData}(h:zB d=some fd):d=.func fd:=by
 cases d with
 |func f=>cases h;rfl
 |_=>exact no h
theorem uJ{h:Heap}{fd:FuncData}{q:Str}(e:codeB h fd=some q):h.CodeRec fd.code q:=by
 refine bC λ k9=>?_;obtain⟨c,e1,e⟩:=bd1 e;obtain⟨o,e2,e⟩:=bd1 e;obtain⟨vs,e3,e⟩:=bd1 e;obtain⟨v,e4,e⟩:=bd1 e;obtain⟨t,rfl⟩:=qD e;refine k9 ?_;exact⟨c,o,vs,t,nI e1,e2,r8 e3,e4⟩
theorem mem_lookup{α β:Type}[BEq α][LawfulBEq α]{k:α}{v:β}{l:List (α×β)}:l.lookup k=some v->(k,v)∈l:=by
 induction l with
 |nil=>intro h;cases h
 |cons x l ih=>
  intro h;rw[show x=(x.1,x.2) from rfl,List.lookup_cons] at h;cases q:(k == x.1) with
  |true=>rw[q] at h;cases h;rw[eq_of_beq q];exact List.mem_cons_self
  |false=>rw[q] at h;exact List.mem_cons_of_mem _ (ih h)
theorem A1{k:ScopeKind}(h:qM k=true):k=.function:=by cases k<;>first | rfl | exact nob h
theorem zg{k:Option NameKind}(h:rQ k=true):k=some .local\/k=some .cell:=by
 cases k with
 |none=>exact nob h
 |some y=>cases y<;>first | exact .inl rfl | exact .inr rfl | exact nob h
theorem qL{h h':Heap}{v:Option Value}{d:Df}(e:A0 h v=d.see)(k:∀b o,h.get? b=some o->h'.get? b=some o)(c:By d=true):∃a fd,v=some (.ref a)/\FnAt h' a d.fn fd/\fd.scope=d.sc:=by
 refine bC λ k9=>?_;obtain⟨v',q0,e⟩:=bd1 e;obtain⟨a,q1,e⟩:=bd1 e;obtain⟨o,q2,e⟩:=bd1 e;obtain⟨fd,q3,e⟩:=bd1 e;refine k9 ?_;refine Classical.byCases (p:=fdB h o fd=true) (λ q4=>?_) (λ q4=>?_)
 ·obtain⟨e1,e2⟩:=Prod.mk.inj (Option.some.inj ((if_pos q4).symm.trans e));refine bC λ k9=>?_;obtain⟨e2,e3⟩:=Prod.mk.inj e2;obtain⟨u1,q4⟩:=aB q4;obtain⟨u2,q4⟩:=aB q4;obtain⟨u3,q4⟩:=aB q4;obtain⟨u4,q4⟩:=aB q4;obtain⟨a1,c⟩:=aB c;obtain⟨a2,c⟩:=aB c;obtain⟨a3,c⟩:=aB c;obtain⟨a4,c⟩:=aB c;obtain⟨s1,c⟩:=aB c;obtain⟨s2,c⟩:=aB c;obtain⟨s3,c⟩:=aB c;obtain⟨n1,c⟩:=aB c;obtain⟨n2,c⟩:=aB c;refine k9 ?_;exact⟨a,fd,q0.trans (congrArg some (nI q1)),⟨⟨o,k a o q2,r4 q3,nu (eq_of_beq u1)⟩,(uJ (eq_of_beq (aB q4).2)).keeps k,e2,
   pX e1 (List.isEmpty_iff.mp a1) (Option.isNone_iff_eq_none.mp a2) (List.isEmpty_iff.mp a3) (Option.isNone_iff_eq_none.mp a4) (xf (aB q4).1) (of_decide_eq_true n1),List.isEmpty_iff.mp u2,eq_of_beq u3,eq_of_beq u4,
   e3▸uV s1,e3▸uV s2,e3▸A1 s3,of_decide_eq_true n1,e3▸of_decide_eq_true n2,e3▸(λ x q=>nob (List.all_eq_true.mp (aB c).1 _ (mem_lookup q))),e3▸λ x hx=>zg (List.all_eq_true.mp (aB c).2 x hx)⟩,e3⟩
 ·exact no ((if_neg q4).symm.trans e)
theorem gQ{d:Data}{vs:Array Value}(h:seq? d=some vs):d=.seq vs 0:=by
 cases d with
 |seq ws n=>
  cases n with
  |zero=>cases h;rfl
  |succ n=>exact no h
 |_=>exact no h
theorem yw{o:Obj}{vs:List Value}(h:BR o=some vs):o=c6 vs 0/\vs.length<=BIG:=by
 obtain⟨ws,h1,h⟩:=bd1 h;refine Classical.byCases (p:=Az o.cls=some "tuple"/\o.dict.isNone=true/\o.slots.size=0/\ws.toList.length<=BIG) (λ q=>?_) (λ q=>?_)
 ·cases(if_pos q).symm.trans h;obtain⟨a,b,c,d⟩:=o;refine⟨?_,q.2.2.2⟩;rw[show a=.type "tuple" from nu q.1,show b=none from Option.isNone_iff_eq_none.mp q.2.1,show c=.seq ws 0 from gQ h1,show d=#[] from Array.eq_empty_of_size_eq_zero q.2.2.1]
 ·exact no ((if_neg q).symm.trans h)
theorem rH{α β:Type}{f:α->Option β}{R:α->β->Prop}(H:∀a b,f a=some b->R a b):∀{l:List α} {r:List β},l.mapM f=some r->aA R l r:=by
 intro l
 induction l with
 |nil=>
  intro r h;cases h;exact aA.nil
 |cons a l ih=>
  intro r h;rw[List.mapM_cons] at h;obtain⟨b,h1,h⟩:=bd1 h;obtain⟨bs,h2,h⟩:=bd1 h;cases h;exact aA.cons (H a b h1) (ih h2)
theorem vo{h:Heap}:∀n v d,rdv h n v=some d->RD (λ _=>False) h v d
 |0,_,_,e=>by cases e
 |n+1,v,d,e=>by
  cases v with
  |int i t=>cases e;exact .int i t
  |str x t=>
   cases q:PyData.strOk x with
   |true=>cases(if_pos q).symm.trans e;exact .str x t q
   |false=>cases(if_neg (by rw[q];decide)).symm.trans e
  |ref a=>
   obtain⟨vs,q1,q2⟩:=bd1 e;obtain⟨o,q3,q4⟩:=bd1 q1;obtain⟨ds,q5,rfl⟩:=Option.map_eq_some_iff.mp q2;obtain⟨rfl,q6⟩:=yw q4;exact RD.nv q3 (λ q=>q) q6 (rH (vo n) q5)
  |_=>exact no e
theorem y2{h:Heap}{a:Addr}{m m':Str->Option Value}(n:h.Ns a m)(n':h.Ns a m'):m=m':=by
 refine bC λ k9=>?_;obtain⟨o,es,ep,h1,h2,h3,h4⟩:=n;obtain⟨o',es',ep',g1,g2,g3,g4⟩:=n';refine k9 ?_;rw[h1] at g1;cases g1;rw[h2] at g2;cases g2;exact funext λ x=>(h4 x).symm.trans (g4 x)
theorem wQ{n:Str}(h:(fastLookup "object" n).isSome=true):∃y,typeLookup (.type "object") n=pure y:=by
 obtain⟨y,h⟩:=Option.isSome_iff_exists.mp h;exact⟨y,by rw[typeLookup_type,builtinLookup_eq_fast,h]⟩
theorem map_one{α β:Type}{f g:α->β}:∀{l:List α},l.map f=l.map g->∀x∈l,f x=g x:=by
 intro l
 induction l with
 |nil=>
  intro _ x h;exact by cases h
 |cons a l ih=>
  intro e x h;obtain⟨e1,e2⟩:=List.cons.inj e;rcases List.mem_cons.mp h with rfl | h
  ·exact e1
  ·exact ih e2 x h
end Mine.Internal
end
section
namespace Mine.Internal
open PySem PySem.W PyProof.Rows
namespace L3
theorem left:LeftO PySem.Challenge.pw_sx_r140_3 PySem.Challenge.pw_sx_r140_3 [] (λ s=>xlAt PySem.Challenge.pw_sx_r140_3 [] s && recOk (RowW.records PySem.Challenge.rw_sx_r140_3.row.toRowW) s) (λ s=>obs s.heap) (λ _=>due) 2150:=by
 intro w
 kernel_rfl
theorem CF:((dfs body).all λ d=>By d && vr (glB prg) (kds d.sc.names) (d.nm == ("law":Str)) d.b)=true:=by kernel_rfl
theorem CE:((dfs (uL body)).all λ d=>By d && vr (glB prg) (kds d.sc.names) false d.b && (fastLookup "object" d.nm).isSome)=true:=by kernel_rfl
theorem biB:biL.map (λ q=>bootBuiltins q.1)=biL.map (λ q=>some q.2):=by kernel_rfl
theorem biN:(biL.all λ q=>!(q.1 == ("__name__":Str)))=true:=by kernel_rfl
theorem rD{l:List Stmt}{f:Str}{g:Fn}(h:(f,g)∈fnL l):∃d∈dfs l,f=d.nm/\g=d.fn/\(d.nm == ("law":Str))=false:=by
 obtain⟨d,h1,h2⟩:=List.mem_filterMap.mp h;by_cases q:d.nm=("law":Str)
 ·rw[if_pos q] at h2;cases h2
 ·rw[if_neg q] at h2;cases h2;exact⟨d,h1,rfl,rfl,beq_false_of_ne q⟩
theorem rZ{x:Str}{v:V}(q:prg.gl x=some v):(x="_law_nets"/\v=.d wY)\/(x="int"/\v=.ty "int"):=by
 by_cases h1:x=("_law_nets":Str)
 ·exact .inl ⟨h1,(Option.some.inj ((if_pos h1).symm.trans q)).symm⟩
 ·have q:=(if_neg h1).symm.trans q;by_cases h2:x=("int":Str)
  ·exact .inr ⟨h2,(Option.some.inj ((if_pos h2).symm.trans q)).symm⟩
  ·exact no ((if_neg h2).symm.trans q)
theorem base{q:Program}{loose:List Str}{mean:ExcName->Option Value}{mg mb:Str->Option Value}{h:Heap}(KX:Was h)(T:Top q loose mean mg mb h) :
  Base h 53 52 prg mg mb (h.nsMap 52)/\oX h prg mg (h.nsMap 52)/\∃a fd,mg "law"=some (.ref a)/\FnAt h a (mQ body) fd/\vr (glB prg) (kds fd.scope.names) true (mQ body).body=true:=by
 refine bC λ k9=>?_;obtain⟨h₀,e,k⟩:=KX;obtain⟨e1,e⟩:=Prod.mk.inj e;obtain⟨e2,e⟩:=Prod.mk.inj e;obtain⟨e3,e⟩:=Prod.mk.inj e;obtain⟨e4,e⟩:=Prod.mk.inj e;obtain⟨e5,e⟩:=Prod.mk.inj e;obtain⟨e6,e⟩:=Prod.mk.inj e;obtain⟨e7,e8⟩:=Prod.mk.inj e;refine k9 ?_;have e8:=Bool.and_eq_true_iff.mp e8;obtain rfl:mg=h₀.nsMap mainGlobals:=y2 T.g ((Heap.Ns.of_isNs e8.1).keeps k);have n52:=(Heap.Ns.of_isNs e8.2).keeps k;have eN:h.nsMap 52=h₀.nsMap 52:=by
  refine bC λ k9=>?_;obtain⟨o,es,ep,h1,h2,h3,h4⟩:=n52;refine k9 ?_;refine funext λ x=>?_;rw[<-h4 x];unfold Heap.nsMap;rw[h1];dsimp only;rw[h2]
 rw[eN];have F:∀d∈dfs body,∃a fd,h₀.nsMap mainGlobals d.nm=some (.ref a)/\FnAt h a d.fn fd/\vr (glB prg) (kds fd.scope.names) (d.nm == ("law":Str)) d.b=true:=λ d hd=>by
  refine bC λ k9=>?_;obtain⟨c1,c2⟩:=Bool.and_eq_true_iff.mp (List.all_eq_true.mp CF d hd);obtain⟨a,fd,q1,q2,q3⟩:=qL (map_one e1 d hd) k c1;refine k9 ?_;exact⟨a,fd,q1,q2,q3▸c2⟩
 have tx:oX h prg (h₀.nsMap mainGlobals) (h₀.nsMap 52):=by
  refine⟨λ f g q=>?_,λ m g q=>?_⟩
  ·obtain⟨d,hd,rfl,rfl,hl⟩:=rD (mem_lookup q);have:=F d hd;rw[hl] at this;exact this
  ·obtain⟨d,hd,rfl,rfl,hl⟩:=rD (mem_lookup q);refine bC λ k9=>?_;obtain⟨c,c3⟩:=Bool.and_eq_true_iff.mp (List.all_eq_true.mp CE d hd);obtain⟨c1,c2⟩:=Bool.and_eq_true_iff.mp c;obtain⟨a,fd,q1,q2,q3⟩:=qL (map_one e2 d hd) k c1;refine k9 ?_;exact⟨a,fd,q1,q2,q3▸c2,wQ c3⟩
 have hbi:∀n v,(n,v)∈biL->h₀.nsMap mainGlobals n=none/\mb n=some v:=λ n v hn=>
  ⟨map_one e4 _ hn,(T.builtins n (λ q=>by have:=List.all_eq_true.mp biN _ hn;rw[q] at this;cases this)).trans (map_one biB _ hn)⟩
 have hk:=map_one e3;refine⟨⟨T.nolimit,T.g,T.b,λ x d q=>?_,λ x t q=>?_,λ x v q=>?_,hbi,e7,⟨⟨_,_,_,_,_,_,_,_,_,_,_,_,k _ _ e5⟩,n52⟩,⟨hk _ (by decide),hk _ (by decide),hk _ (by decide)⟩,λ n hn=>hk n ?_,?_,?_⟩,tx,?_⟩
 ·rcases rZ q with ⟨rfl,e⟩ | ⟨_,e⟩
  ·cases e;refine bC λ k9=>?_;obtain⟨u,q1,q2⟩:=bd1 e6;refine k9 ?_;exact⟨u,q1,(vo _ _ _ q2).keeps (λ b o _ q=>k b o q) (λ _ _ _ _ q=>q)⟩
  ·cases e
 ·rcases rZ q with ⟨_,e⟩ | ⟨rfl,e⟩
  ·cases e
  ·cases e;exact hbi _ _ (by decide)
 ·rcases rZ q with ⟨_,e⟩ | ⟨_,e⟩
  ·exact .inl ⟨_,e⟩
  ·exact .inr ⟨_,e⟩
 ·exact List.mem_cons_of_mem _ (List.mem_cons_of_mem _ (List.mem_cons_of_mem _ hn))
 ·exact λ m g q=>(by obtain⟨a,fd,h1,h2,_,h4⟩:=tx.mt m g q;exact⟨a,fd,h1,h2,h4⟩)
 ·exact λ f g q=>(by obtain⟨a,fd,h1,h2,_⟩:=tx.fn f g q;exact⟨a,fd,h1,h2⟩)
 ·cases hf:(dfs body).find? λ d=>d.nm == ("law":Str) with
  |none=>exact absurd hf (by decide +kernel)
  |some d=>
   have hn:=List.find?_some hf;refine bC λ k9=>?_;obtain⟨a,fd,h1,h2,h3⟩:=F d (List.mem_of_find?_eq_some hf);refine k9 ?_;have:mQ body=d.fn:=by unfold mQ;rw[hf];rfl
   rw[this];rw[hn] at h3;exact⟨a,fd,eq_of_beq hn▸h1,h2,h3⟩
end L3
end Mine.Internal
end
section
set_option tactic.hygienic true
namespace Mine.Internal
open PySem PySem.W PyProof.Rows
theorem mT{X:Addr->Prop}{h:Heap}{vs:List Value}{ns:List Int}(r:IntsAre vs ns):aA (RD X h) vs (ns.map .int):=by
 induction r with
 |nil=>exact aA.nil
 |cons n t _ ih=>exact aA.cons (RD.int n t) ih
theorem oY{P:Prop}{h:Heap}{a:Addr}{o o':Obj}(q:h.get? a=some o')(ho:h.get? a=some o)(hc:o.cls=.type "list")(hn:o'.cls≠.type "list"):P:=
 absurd ((congrArg Obj.cls (Option.some.inj (q.symm.trans ho))).trans hc) hn
theorem qp{P:Params}{h:Heap}{a:Addr}{d:WData}{vs:List Value}(W:Well P h (.ref a) d)(L:h.IsList a vs.toArray):h.get? a=some (aP vs 0):=by
 refine bC λ k9=>?_;obtain⟨o,ho,hc,n,hd⟩:=L;cases W with
 |list q _=>
  obtain rfl:=Option.some.inj (q.symm.trans ho);refine k9 ?_;rw[q,(Data.seq.inj hd).1]
 |tuple q _=>exact oY q ho hc (λ e=>nomatch Value.type.inj e)
 |bytearray q=>exact oY q ho hc (λ e=>nomatch Value.type.inj e)
 |dict q _=>exact oY q ho hc (λ e=>nomatch Value.type.inj e)
 |set q=>exact oY q ho hc (λ e=>nomatch Value.type.inj e)
 |frozenset q=>exact oY q ho hc (λ e=>nomatch Value.type.inj e)
 |obj q=>exact oY q ho hc (λ e=>nomatch e)
theorem ua(l:OpenLaw)(args ds:List WData):l.row.toRowW.claim.post args (.bool true) ds=true:=by kernel_rfl
theorem tG{ι:Loc}:SR prog w hB C (λ _=>False) ι [] hB:=
 ⟨λ _ _ q=>q,λ l n q=>no q,λ l l' n n' q=>no q,λ l n q=>no q,λ l n q=>no q,λ b hb=>hb.elim⟩
namespace L3
noncomputable def Good:Prop:=∀zs:List Int,zs.length<=63->∃ρ' σ',xs (prg.run 12) (mQ body).body (upd (λ _=>none) "script" (.d (.list (zs.map .int)))) []=some (.rt (.d (.bool true)),ρ',σ')
noncomputable def Ce:DefRec×List (Str×Expr):=(defOf PySem.Challenge.pw_sx_r140_3 "law").get (by decide +kernel)
theorem BE(H:Good):cx.ok:=by
 intro KX ⟨q,loose,mean,T⟩ s a la ws zs hs hl ho hI hz;obtain⟨B,T,a',fd,h1,h2,h3⟩:=base KX T;obtain rfl:a=a':=Value.ref.inj (Option.some.inj (hl.symm.trans h1));obtain⟨ρ',σ',hx⟩:=H zs hz;have hI':=mT (X:=Ex (λ _=>False) (λ _=>(0,0)) []) (h:=s.heap) hI;refine ze (A:=callerA) (J:=λ _=>False) (ι:=λ _=>(0,0)) (n:=12) (s:=s) B T h2 h3 ⟨rfl,by decide,by decide⟩ rfl (show SR prog w hB C (λ _=>False) _ [] s.heap from hs▸tG) (vs:=[.d (.list (zs.map .int))]) (aA.one ?_) rfl hx λ u s' ι' g r=>?_
 ·refine RD.rM (show s.heap.get? la=_ from hs▸ho) (λ q=>q.elim id (noOwn _ _)) ?_ hI';rw[hI'.1,List.length_map];exact Nat.le_trans hz (by decide)
 ·obtain rfl:u=.bool true:=by cases r;rfl
  exact⟨rfl,λ b ob q=>g.evo.kp b ob (noOwn _ b) (hs▸q),g.same⟩
theorem fin(H:Good):PySem.Challenge.rw_sx_r140_3.Holds:=by
 refine holds_law (by kernel_rfl) λ said=>?_;refine holds_open (q:=PySem.Challenge.pw_sx_r140_3) (XP:=XL PySem.Challenge.pw_sx_r140_3 []) (YP:=λ _ h=>Was h) (d:=Ce.1) (kwd:=Ce.2) left (λ _ s e=>⟨s.heap,e,λ _ _ q=>q⟩) (λ _ h h' ⟨h₀,e,k⟩ k'=>⟨h₀,e,λ b o q=>k' b o (k b o q)⟩)
  (λ s e=>xl_of s (Bool.and_eq_true_iff.mp e).1) XL.keeps (by kernel_rfl) (by kernel_rfl) (by kernel_rfl) (λ s e=>recFacts_of (Bool.and_eq_true_iff.mp e).2) (by kernel_rfl) said (by kernel_rfl) ⟨rfl,rfl,rfl,rfl,rfl,by decide +kernel⟩ ⟨[.list []],by decide +kernel,by decide +kernel⟩ ?_
 intro w s₀ s₁ mg mb G Y fa o pm cd doc dV kV ho hd hcd hD hmg hg args vals as hpre hlay hrd hwl hlo
 wrow_args hpre hlay hrd hwl hlo
 rename_i zs _ _ _ _ _ _ _ la ws _ hL _ w1 _ hI _ hlen _;refine wpAny_mono (Ab (BE H) ⟨w,s₁.heap,mg,mb⟩ Y ⟨_,_,_,G.T⟩ s₁ fa la ws zs rfl hmg (qp w1 hL) hI (by omega)) (λ v s' g=>?_) (λ _ _ g=>g.elim);obtain⟨rfl,g1,g2,g3⟩:=g;refine⟨.inl ⟨_,.bool true,[],rfl,λ _=>rfl,.bool true,?_,λ _=>⟨List.nodup_nil,λ a q=>by cases q⟩⟩,.of_keep g1,g2,?_⟩
 ·exact ua _ _ _
 ·obtain⟨ex,q1,q2⟩:=g3;rw[hg] at q1;intro y hy;rw[q1] at hy;have:=q2 y (by simpa using hy);cases y<;>first | rfl | exact this.elim
end L3
end Mine.Internal
end
section
namespace Mine.Internal.Q.L3
open PySem Classical Mine.Internal.L3
noncomputable section
inductive Msg where
 |pay (v:Int)
 |mark (n:Str)
noncomputable abbrev Ch:=Nat×Nat
inductive Ent where
 |out (c:Ch) (m:Msg)
 |inn (c:Ch) (m:Msg)
 |save (p:Nat) (n:Str)
 |snap (p:Nat) (n:Str)
inductive Evt where
 |snap (p:Nat) (n:Str)
 |recv (c:Ch)
 |send (c:Ch) (v:Int)
noncomputable def c4:Msg->PyData
 |.pay v=>.tuple [.str "pay",.int v]
 |.mark n=>.tuple [.str "mark",.str n]
noncomputable def cf:Ent->PyData
 |.out c m=>.tuple [.str "out",ax c,c4 m]
 |.inn c m=>.tuple [.str "in",ax c,c4 m]
 |.save p n=>.tuple [.str "save",.int p,.str n]
 |.snap p n=>.tuple [.str "snap",.int p,.str n]
noncomputable def eB:Evt->PyData
 |.snap p n=>.tuple [.str "snap",.int p,.str n]
 |.recv c=>.tuple [.str "receive",.int c.1,.int c.2]
 |.send c v=>.tuple [.str "send",.int c.1,.int c.2,.int v]
noncomputable def ka(c:Ch):Ent->Option Msg
 |.out d m=>if d=c then some m else none
 |_=>none
noncomputable def gI(c:Ch):Ent->Option Msg
 |.inn d m=>if d=c then some m else none
 |_=>none
noncomputable def outs(c:Ch)(log:List Ent):List Msg:=log.filterMap (ka c)
noncomputable def bZ(c:Ch)(log:List Ent):List Msg:=log.filterMap (gI c)
noncomputable def ai(log:List Ent)(c:Ch):List Msg:=(outs c log).drop (bZ c log).length
noncomputable def bT:Msg->Option Int
 |.pay v=>some v
 |.mark _=>none
noncomputable def eG(ms:List Msg):List Int:=ms.filterMap bT
noncomputable def jv(p:Nat):Ent->Option Int
 |.out c m=>if c.1=p then bT m else none
 |_=>none
noncomputable def pC(p:Nat):Ent->Option Int
 |.inn c m=>if c.2=p then bT m else none
 |_=>none
noncomputable def dE(p:Nat)(log:List Ent):List Int:=log.filterMap (jv p)
noncomputable def kf(p:Nat)(log:List Ent):List Int:=log.filterMap (pC p)
noncomputable def bp(log:List Ent)(p:Nat)(start:Int):Int:=start+(kf p log).sum-(dE p log).sum
noncomputable def bA(log:List Ent)(p:Nat):Nat:=(kf p log).length+(dE p log).length
noncomputable def aJ(ps:List Ch)(p:Nat)(n:Str):List Ent:=.save p n::(ps.filter λ c=>decide (c.1=p)).map λ c=>.out c (.mark n)
noncomputable def n9:Ent->Option Str
 |.snap _ n=>some n
 |_=>none
noncomputable def names(log:List Ent):List Str:=log.filterMap n9
set_option genInjectivity false in
structure Snap where
 name:Str
 a:List (Option Int)
 c:List (Option Nat)
 t:List (Nat×List Int)
set_option genInjectivity false in
structure St where
 b:List Int
 q:List (List Msg)
 c:List Nat
 s:List Snap
noncomputable def cD:Nat->Str
 |0=>"idle"
 |1=>"open"
 |_=>"shut"
noncomputable def bb(l:List Int):PyData:=.list (l.map .int)
noncomputable def bo(l:List Nat):PyData:=.list (l.map fun(n:Nat)=>.int n)
noncomputable def eOI:Option Int->PyData
 |none=>.none
 |some i=>.int i
noncomputable def eON:Option Nat->PyData
 |none=>.none
 |some (i:Nat)=>.int i
noncomputable def dy(t:Nat×List Int):PyData:=.tuple [.str (cD t.1),bb t.2]
noncomputable def df(s:Snap):PyData:=.tuple [.str s.name,.list (s.a.map eOI),.list (s.c.map eON),.list (s.t.map dy)]
noncomputable def eQ(q:List Msg):PyData:=.list (q.map c4)
noncomputable def eSt(S:St):PyData:=.tuple [bb S.b,.list (S.q.map eQ),bo S.c,.list (S.s.map df)]
noncomputable def before{α:Type}(x:α)(l:List α):List α:=l.takeWhile λ y=>!decide (y=x)
noncomputable def since{α:Type}(x:α)(l:List α):List α:=l.dropWhile λ y=>!decide (y=x)
noncomputable def au(log:List Ent)(c:Ch)(n:Str):Nat×List Int:=
 if Ent.save c.2 n∈log then
  if Ent.inn c (.mark n)∈since (Ent.save c.2 n) log then(2,eG (bZ c (before (Ent.inn c (.mark n)) (since (Ent.save c.2 n) log))))
  else(1,eG (bZ c (since (Ent.save c.2 n) log)))
 else(0,[])
noncomputable def bq(log:List Ent)(n:Str)(x:Int×Nat):Option Int:=
 if Ent.save x.2 n∈log then some (bp (before (Ent.save x.2 n) log) x.2 x.1) else none
noncomputable def eC(log:List Ent)(n:Str)(x:Int×Nat):Option Nat:=
 if Ent.save x.2 n∈log then some (bA (before (Ent.save x.2 n) log) x.2) else none
noncomputable def bJ(ps:List Ch)(starts:List Int)(log:List Ent)(n:Str):Snap:=
 ⟨n,starts.zipIdx.map (bq log n),starts.zipIdx.map (eC log n),ps.map λ c=>au log c n⟩
noncomputable def cu(ps:List Ch)(starts:List Int)(log:List Ent):St:=
 ⟨starts.zipIdx.map λ x=>bp log x.2 x.1,ps.map (ai log),starts.zipIdx.map λ x=>bA log x.2,(names log).map (bJ ps starts log)⟩
noncomputable def aR(ps:List Ch)(starts:List Int)(log:List Ent):Evt->Str×List Ent
 |.snap p n=>if n∈names log then("known",log) else("done",log++[.snap p n]++aJ ps p n)
 |.send c v=>if c∈ps then if bp log c.1 (starts.getD c.1 0)<v then("too much",log) else("done",log++[.out c (.pay v)]) else("no channel",log)
 |.recv c=>if c∈ps then match ai log c with
   |[]=>("nothing",log)
   |.pay v::_=>("done",log++[.inn c (.pay v)])
   |.mark n::_=>("done",(if Ent.save c.2 n∈log then log else log++aJ ps c.2 n)++[.inn c (.mark n)])
  else("no channel",log)
end
end Mine.Internal.Q.L3
end
section
namespace Mine.Internal.Q
open PySem Mine.Internal.L3
theorem BQ(ρ:ah)(x:Str)(v:V):upd ρ x v x=some v:=if_pos rfl
theorem kR(ρ:ah)(x y:Str)(v:V)(h:decide (y=x)=false):upd ρ x v y=ρ y:=if_neg (of_decide_eq_false h)
theorem bi{α β:Type}{x:Option α}{a:α}{f:α->Option β}{r:Option β}(h:x=some a)(k:f a=r):x.bind f=r:=by rw[h];exact k
theorem n6{α:Type}{y:α}{r:List α}:y∈y::r:=.head _
theorem n3{α:Type}{y z:α}{r:List α}(h:z∈r):z∈y::r:=.tail _ h
theorem l5{α:Type}{bind:V->Option ah}{cond:ah->aa->Option (Bool×aa)}{elt:ah->aa->Option (V×aa)}(f:α->V)(h:α->Option V){ys:List α}{σ:aa}
  (H:∀y,y∈ys->∃ρ b,bind (f y)=some ρ/\cond ρ σ=some (b,σ)/\(if b then ∃v,h y=some v/\elt ρ σ=some (v,σ) else h y=none)) :
  eU bind cond elt (ys.map f) σ=some (ys.filterMap h,σ):=by
 induction ys with
 |nil=>rfl
 |cons y r ih=>
  refine bC λ k9=>?_;obtain⟨ρ,b,h1,h2,h3⟩:=H y n6;refine k9 ?_;have:=ih λ z hz=>H z (n3 hz);cases b with
  |true=>
   obtain⟨v,h4,h5⟩:=h3;exact bi h1 (bi h2 (bi h5 (bi this (by rw[List.filterMap_cons,h4]))))
  |false=>exact bi h1 (bi h2 (this.trans (by rw[List.filterMap_cons,show h y=none from h3])))
theorem kC{α:Type}(f:α->PyData)(ys:List α):l0 (ys.map λ y=>V.d (f y))=some (ys.map f):=by
 induction ys with
 |nil=>rfl
 |cons y r ih=>exact bi ih rfl
noncomputable def isTup:Expr->Bool
 |.Tuple ..=>true
 |_=>false
inductive Wp(r:Res)(K:Out->ah->aa->Prop):Prop
 |intro(o:Out) (ρ:ah) (σ:aa) (e:r=some (o,ρ,σ)) (k:K o ρ σ)
noncomputable def Thn(Φ:Or)(r:List Stmt)(K:Out->ah->aa->Prop):Out->ah->aa->Prop
 |.nx,ρ,σ=>Wp (xs Φ r ρ σ) K
 |o,ρ,σ=>K o ρ σ
theorem Wp.mono{r:Res}{K K':Out->ah->aa->Prop}(h:Wp r K)(h':∀o ρ σ,K o ρ σ->K' o ρ σ):Wp r K':=by
 obtain⟨o,ρ,σ,e,k⟩:=h;exact⟨o,ρ,σ,e,h' _ _ _ k⟩
theorem Wp.nil{Φ:Or}{ρ:ah}{σ:aa}{K:Out->ah->aa->Prop}(h:K .nx ρ σ):Wp (xs Φ [] ρ σ) K:=⟨_,_,_,rfl,h⟩
theorem Wp.cons{Φ:Or}{s:Stmt}{r:List Stmt}{ρ:ah}{σ:aa}{K:Out->ah->aa->Prop}(h:Wp (x1 Φ s ρ σ) (Thn Φ r K)):Wp (xs Φ (s::r) ρ σ) K:=by
 obtain⟨o,ρ1,σ1,e,k⟩:=h;cases o with
 |nx=>
  obtain⟨o,ρ2,σ2,e2,k2⟩:=k;exact⟨o,ρ2,σ2,bi e e2,k2⟩
 |_=>exact⟨_,ρ1,σ1,bi e rfl,k⟩
theorem Wp.nx{Φ:Or}{s:Stmt}{r:List Stmt}{ρ ρ1:ah}{σ σ1:aa}{K:Out->ah->aa->Prop}(h1:x1 Φ s ρ σ=some (.nx,ρ1,σ1))(h:Wp (xs Φ r ρ1 σ1) K):Wp (xs Φ (s::r) ρ σ) K:=
 Wp.cons ⟨_,_,_,h1,h⟩
theorem Wp.asg{Φ:Or}{x:Str}{e:Expr}{p q:Pos}{r:List Stmt}{ρ:ah}{σ σ1:aa}{v:V}{K:Out->ah->aa->Prop}(h:ev Φ e ρ σ=some (v,σ1))(h2:Wp (xs Φ r (upd ρ x v) σ1) K):Wp (xs Φ (.Assign [.Name x p] e q::r) ρ σ) K:=
 Wp.nx (bi h rfl) h2
theorem qo{Φ:Or}{ts:List Expr}{c:Nat}{e:Expr}{p q:Pos}{ρ:ah}{σ:aa}(ht:isTup e=false):x1 Φ (.Assign [.Tuple ts c p] e q) ρ σ=(ev Φ e ρ σ).bind λ x=>((aQ (.Tuple ts c p) x.1 ρ).bind λ ρ=>some (ρ,x.2)).bind λ y=>some (.nx,y.1,y.2):=by
 cases e<;>first | rfl | cases ht
theorem Wp.unp{Φ:Or}{ts:List Expr}{c:Nat}{e:Expr}{p q:Pos}{r:List Stmt}{ρ ρ1:ah}{σ σ1:aa}{v:V}{vs:List V}{K:Out->ah->aa->Prop}(ht:isTup e=false)(h:ev Φ e ρ σ=some (v,σ1))(h2:hV v=some vs)(h3:cW ts vs ρ=some ρ1)(h4:Wp (xs Φ r ρ1 σ1) K):Wp (xs Φ (.Assign [.Tuple ts c p] e q::r) ρ σ) K:=
 Wp.nx ((qo ht).trans (bi h (bi (bi (bi h2 h3) rfl) rfl))) h4
theorem Wp.ret{Φ:Or}{e:Expr}{p:Pos}{r:List Stmt}{ρ:ah}{σ σ1:aa}{v:V}{K:Out->ah->aa->Prop}(h:ev Φ e ρ σ=some (v,σ1))(k:K (.rt v) ρ σ1):Wp (xs Φ (.Return (some e) p::r) ρ σ) K:=
 Wp.cons ⟨.rt v,ρ,σ1,bi h rfl,k⟩
theorem Wp.expr{Φ:Or}{e:Expr}{p:Pos}{r:List Stmt}{ρ:ah}{σ σ1:aa}{v:V}{K:Out->ah->aa->Prop}(h:ev Φ e ρ σ=some (v,σ1))(k:Wp (xs Φ r ρ σ1) K):Wp (xs Φ (.Expr e p::r) ρ σ) K:=
 Wp.nx (bi h rfl) k
theorem Wp.ifc{Φ:Or}{t:Expr}{b o:List Stmt}{p:Pos}{r:List Stmt}{ρ:ah}{σ σ1:aa}{c:Bool}{K:Out->ah->aa->Prop}(h:tst Φ t ρ σ (ev Φ t ρ σ)=some (c,σ1))(hT:c=true->Wp (xs Φ b ρ σ1) (Thn Φ r K))(hF:c=false->Wp (xs Φ o ρ σ1) (Thn Φ r K)):Wp (xs Φ (.If t b o p::r) ρ σ) K:=by
 apply Wp.cons;have e:x1 Φ (.If t b o p) ρ σ=if c then xs Φ b ρ σ1 else xs Φ o ρ σ1:=bi h rfl
 rw[e];cases c with
 |true=>exact hT rfl
 |false=>exact hF rfl
theorem Wp.ifD{Φ:Or}{t:Expr}{b o:List Stmt}{p:Pos}{r:List Stmt}{ρ:ah}{σ σ1:aa}{P:Prop}[D:Decidable P]{K:Out->ah->aa->Prop}(h:tst Φ t ρ σ (ev Φ t ρ σ)=some (@decide P D,σ1))(hT:P->Wp (xs Φ b ρ σ1) (Thn Φ r K))(hF:¬P->Wp (xs Φ o ρ σ1) (Thn Φ r K)):Wp (xs Φ (.If t b o p::r) ρ σ) K:=
 Wp.ifc h (λ q=>hT (of_decide_eq_true q)) λ q=>hF (of_decide_eq_false q)
theorem de{α:Type}{P Q:Prop}[Decidable P][Decidable Q](h:P↔Q){a b:α}:(if P then a else b)=if Q then a else b:=ite_congr (propext h) (λ _=>rfl) λ _=>rfl
theorem gP{α β:Type}{f:α->β}{pre:List α}{y:α}{v:β}(h:v=f y):pre.map f++[v]=(pre++[y]).map f:=h▸(List.map_append (l₂:=[y])).symm
theorem il{α:Type}{k:Nat}{xs pre post:List α}{c:α}(hy:xs=pre++c::post)(h:xs.length<=k)(hk:k<LIM):pre.length<LIM:=
 Nat.lt_of_le_of_lt (Nat.le_trans (Nat.le_add_right ..) (Nat.le_of_eq (congrArg List.length hy |>.trans List.length_append).symm)) (Nat.lt_of_le_of_lt h hk)
theorem nN{α:Type}{k:Nat}{xs:List α}{pre post:List (α×Nat)}{c:α×Nat}(hy:xs.zipIdx=pre++c::post)(h:xs.length<=k)(hk:k<LIM):pre.length<LIM:=il hy (Nat.le_trans (Nat.le_of_eq List.length_zipIdx) h) hk
theorem Wp.ifT{Φ:Or}{t:Expr}{b o:List Stmt}{p:Pos}{r:List Stmt}{ρ:ah}{σ σ1:aa}{K:Out->ah->aa->Prop}(h:tst Φ t ρ σ (ev Φ t ρ σ)=some (true,σ1))(hT:Wp (xs Φ b ρ σ1) (Thn Φ r K)):Wp (xs Φ (.If t b o p::r) ρ σ) K:=
 Wp.ifc h (λ _=>hT) (λ q=>by cases q)
theorem Wp.ifF{Φ:Or}{t:Expr}{b o:List Stmt}{p:Pos}{r:List Stmt}{ρ:ah}{σ σ1:aa}{K:Out->ah->aa->Prop}(h:tst Φ t ρ σ (ev Φ t ρ σ)=some (false,σ1))(hF:Wp (xs Φ o ρ σ1) (Thn Φ r K)):Wp (xs Φ (.If t b o p::r) ρ σ) K:=
 Wp.ifc h (λ q=>by cases q) (λ _=>hF)
theorem Wp.fin{Φ:Or}{r:List Stmt}{ρ:ah}{σ:aa}{K:Out->ah->aa->Prop}(h:Wp (xs Φ r ρ σ) K):Wp (xs Φ [] ρ σ) (Thn Φ r K):=⟨.nx,ρ,σ,rfl,h⟩
theorem Wp.for{Φ:Or}{t it:Expr}{b:List Stmt}{p:Pos}{r:List Stmt}{ρ:ah}{σ σ1:aa}{ys:List V}{K:Out->ah->aa->Prop}(h:src Φ it ρ σ=some (.items ys,σ1))(h2:Wp (forL (λ x ρ σ=>(aQ t x ρ).bind λ ρ=>xs Φ b ρ σ) ys ρ σ1) (Thn Φ r K)):Wp (xs Φ (.For t it b [] p::r) ρ σ) K:=by
 apply Wp.cons;have e:x1 Φ (.For t it b [] p) ρ σ=forL (λ x ρ σ=>(aQ t x ρ).bind λ ρ=>xs Φ b ρ σ) ys ρ σ1:=bi h rfl;rw[e];exact h2
theorem Wp.jc{Φ:Or}{t it:Expr}{b:List Stmt}{p:Pos}{r:List Stmt}{ρ:ah}{σ σ1:aa}{l:Nat}{K:Out->ah->aa->Prop}(h:src Φ it ρ σ=some (.obj l,σ1))(h2:Wp (Mine.Internal.jc (λ x ρ σ=>(aQ t x ρ).bind λ ρ=>xs Φ b ρ σ) l Φ.fuel 0 ρ σ1) (Thn Φ r K)):Wp (xs Φ (.For t it b [] p::r) ρ σ) K:=by
 apply Wp.cons;have e:x1 Φ (.For t it b [] p) ρ σ=Mine.Internal.jc (λ x ρ σ=>(aQ t x ρ).bind λ ρ=>xs Φ b ρ σ) l Φ.fuel 0 ρ σ1:=bi h rfl;rw[e];exact h2
noncomputable abbrev LpK(J:ah->aa->Prop)(K:Out->ah->aa->Prop):Out->ah->aa->Prop
 |.nx,ρ,σ=>J ρ σ
 |.ct,ρ,σ=>J ρ σ
 |.br,ρ,σ=>K .nx ρ σ
 |.ex,_,_=>False
 |.rt v,ρ,σ=>K (.rt v) ρ σ
noncomputable abbrev RtK(w:V):Out->ah->aa->Prop:=λ o _ σ=>∃v,o=.rt v/\back σ v=some w
theorem Wp.forL{α:Type}{step:V->ah->aa->Res}(f:α->V)(I:List α->ah->aa->Prop){ys:List α}{ρ:ah}{σ:aa}{K:Out->ah->aa->Prop}
  (h0:I [] ρ σ)
  (hs:∀pre y post ρ σ,ys=pre++y::post->I pre ρ σ->Wp (step (f y) ρ σ) (LpK (I (pre++[y])) K))
  (h1:∀ρ σ,I ys ρ σ->K .nx ρ σ):Wp (Mine.Internal.forL step (ys.map f) ρ σ) K:=by
 have gen:∀(post pre:List α) (ρ:ah) (σ:aa),ys=pre++post->I pre ρ σ->Wp (Mine.Internal.forL step (post.map f) ρ σ) K:=by
  intro post
  induction post with
  |nil=>
   intro pre ρ σ e i;rw[List.append_nil] at e;subst e;exact⟨_,_,_,rfl,h1 _ _ i⟩
  |cons y r ih=>
   intro pre ρ σ e i;obtain⟨o,ρ1,σ1,e1,k1⟩:=hs pre y r ρ σ e i;have hr:∀{ρ1 σ1},I (pre++[y]) ρ1 σ1->Wp (Mine.Internal.forL step (r.map f) ρ1 σ1) K:=λ {ρ1 σ1} i=>ih (pre++[y]) ρ1 σ1 (by rw[e,List.append_assoc];rfl) i;cases o with
   |nx=>
    obtain⟨o,ρ2,σ2,e2,k2⟩:=hr k1;exact⟨o,ρ2,σ2,bi e1 e2,k2⟩
   |ct=>
    obtain⟨o,ρ2,σ2,e2,k2⟩:=hr k1;exact⟨o,ρ2,σ2,bi e1 e2,k2⟩
   |br=>exact⟨.nx,ρ1,σ1,bi e1 rfl,k1⟩
   |ex=>exact k1.elim
   |rt v=>exact⟨.rt v,ρ1,σ1,bi e1 rfl,k1⟩
 exact gen ys [] ρ σ rfl h0
noncomputable def over(ns:List Str)(f ρ:ah):ah:=λ x=>if ns.contains x then f x else ρ x
noncomputable def Ov(ns:List Str)(ρ0 ρ:ah):Prop:=∃f,ρ=over ns f ρ0
theorem Ov.refl{ns:List Str}{ρ:ah}:Ov ns ρ ρ:=⟨ρ,funext λ x=>by unfold over;cases ns.contains x<;>rfl⟩
theorem Ov.upd{ns:List Str}{ρ0 ρ:ah}{x:Str}{v:V}(h:Ov ns ρ0 ρ)(hx:ns.contains x=true):Ov ns ρ0 (Mine.Internal.upd ρ x v):=by
 obtain⟨f,rfl⟩:=h;refine⟨Mine.Internal.upd f x v,?_⟩;funext y;show(if y=x then _ else if ns.contains y then _ else _)=if ns.contains y then(if y=x then _ else _) else _
 by_cases e:y=x
 ·rw[if_pos e,if_pos e,e,if_pos hx]
 ·rw[if_neg e,if_neg e]
theorem dY{Φ:Or}{elt t it:Expr}{ifs:List Expr}{c:Scope}{p:Pos}{ρ:ah}{σ σ1 σ2:aa}{xs vs:List V}{r:Option (V×aa)}
  (h1:drw Φ it ρ σ (ev Φ it ρ σ)=some (xs,σ1)) (h2:eU (λ x=>aQ t x ρ) (λ ρ σ=>i6 Φ ifs ρ σ) (λ ρ σ=>ev Φ elt ρ σ) xs σ1=some (vs,σ2)) (h3:cF (Φ.own p) vs σ2=r):ev Φ (.ListComp elt [⟨t,it,ifs,0⟩] c p) ρ σ=r:=bi h1 (bi h2 h3)
theorem w2{σ:aa}(ds:List PyData):cF false (ds.map .d) σ=some (.d (.list ds),σ):=by
 have:=kC (λ x:PyData=>x) ds;rw[List.map_id'] at this;exact congrArg (Option.map λ ds=>(V.d (.list ds),σ)) this
theorem b5{α:Type}{Φ:Or}{elt t it:Expr}{ifs:List Expr}{c:Scope}{p:Pos}{ρ:ah}{σ σ1:aa}{ys:List α}(f:α->PyData)(g:α->Option PyData)
  (h1:drw Φ it ρ σ (ev Φ it ρ σ)=some ((ys.map f).map .d,σ1)) (ho:Φ.own p=false)
  (H:∀y,y∈ys->∃ρ' b,aQ t (.d (f y)) ρ=some ρ'/\i6 Φ ifs ρ' σ1=some (b,σ1)/\(if b then ∃d,g y=some d/\ev Φ elt ρ' σ1=some (.d d,σ1) else g y=none)) :
  ev Φ (.ListComp elt [⟨t,it,ifs,0⟩] c p) ρ σ=some (.d (.list (ys.filterMap g)),σ1):=by
 refine dY h1 (vs:=(ys.filterMap g).map .d) (σ2:=σ1) ?_ ?_
 ·rw[List.map_map,List.map_filterMap];refine l5 _ _ λ y hy=>?_;refine bC λ k9=>?_;obtain⟨ρ',b,h2,h3,h4⟩:=H y hy;refine k9 ?_;refine⟨ρ',b,h2,h3,?_⟩;cases b with
  |true=>
   obtain⟨d,h5,h6⟩:=h4;exact⟨.d d,congrArg (Option.map V.d) h5,h6⟩
  |false=>exact congrArg (Option.map V.d) h4
 ·rw[ho];exact w2 _
theorem aq{Φ:Or}{f:Str}{args:List Expr}{p q:Pos}{ρ:ah}{σ σ1:aa}{vs:List V}{r:Option (V×aa)}(h1:evs Φ args ρ σ=some (vs,σ1))(h2:dZ Φ (Φ.own p) f vs σ1=r):ev Φ (.Call (.Name f q) args [] p) ρ σ=r:=bi h1 h2
theorem ae{Φ:Or}{e:Expr}{es:List Expr}{ρ:ah}{σ σ1 σ2:aa}{v:V}{vs:List V}(h1:ev Φ e ρ σ=some (v,σ1))(h2:evs Φ es ρ σ1=some (vs,σ2)):evs Φ (e::es) ρ σ=some (v::vs,σ2):=bi h1 (bi h2 rfl)
theorem aU{Φ:Or}{es:List Expr}{c:Nat}{p:Pos}{ρ:ah}{σ σ1:aa}{vs:List V}{ds:List PyData}(h1:evs Φ es ρ σ=some (vs,σ1))(h2:l0 vs=some ds):ev Φ (.Tuple es c p) ρ σ=some (.d (.tuple ds),σ1):=bi h1 (bi h2 rfl)
theorem aK{Φ:Or}{l r:Expr}{op:Operator}{p:Pos}{ρ:ah}{σ σ1 σ2:aa}{a b:V}{res:Option (V×aa)}(h1:ev Φ l ρ σ=some (a,σ1))(h2:ev Φ r ρ σ1=some (b,σ2))(h3:sS (Φ.own p) op a b σ2=res):ev Φ (.BinOp l op r p) ρ σ=res:=bi h1 (bi h2 h3)
theorem ao{Φ:Or}{l r:Expr}{op:CmpOp}{p:Pos}{ρ:ah}{σ σ1 σ2:aa}{a b:V}{c:Bool}(h1:ev Φ l ρ σ=some (a,σ1))(h2:ev Φ r ρ σ1=some (b,σ2))(h3:i3 σ2 op a b=some c):ev Φ (.Compare l [op] [r] p) ρ σ=some (.d (.bool c),σ2):=bi h1 (bi h2 (bi h3 rfl))
theorem dX{Φ:Or}{c:Expr}{lo hi:Option Expr}{p q:Pos}{ρ:ah}{σ σ1 σ2 σ3:aa}{x r:PyData}{l u:Option Int}(h1:ev Φ c ρ σ=some (.d x,σ1))(h2:evo Φ lo ρ σ1=some (l,σ2))(h3:evo Φ hi ρ σ2=some (u,σ3))(h4:slice? x l u=some r):ev Φ (.Subscript c (.Slice lo hi none q) p) ρ σ=some (.d r,σ3):=bi h1 (bi h2 (bi h3 (bi (a:=x) rfl (bi h4 rfl))))
theorem af{Φ:Or}{l r:Expr}{op:CmpOp}{p:Pos}{ρ:ah}{σ σ1:aa}{c:Bool}(h:ev Φ (.Compare l [op] [r] p) ρ σ=some (.d (.bool c),σ1)):tst Φ (.Compare l [op] [r] p) ρ σ (ev Φ (.Compare l [op] [r] p) ρ σ)=some (c,σ1):=by
 rw[h];rfl
theorem bL{Φ:Or}{e:Expr}{ρ:ah}{σ σ1:aa}{b:Bool}(h:tst Φ e ρ σ (ev Φ e ρ σ)=some (b,σ1)):i6 Φ [e] ρ σ=some (b,σ1):=by
 cases b<;>exact bi h rfl
namespace L3
theorem jf{n:Nat}{f:Str}{g:Fn}{vs:List V}{ρ:ah}{w:V}(h:prg.fn f=some g)(hb:binds g.params vs=some ρ)(hx:Wp (xs (prg.run n) g.body ρ []) (RtK w)):(prg.run (n+1)).P f vs=some (some w):=by
 refine bC λ k9=>?_;obtain⟨o,ρ',σ,hx,v,rfl,hw⟩:=hx;refine k9 ?_;exact bi h (bi hb (bi hx (congrArg (Option.map some) hw)))
theorem B5(n:Nat):(prg.run n).gl=prg.gl:=by cases n<;>rfl
theorem A8(n:Nat):(prg.run n).own=prg.own:=by cases n<;>rfl
theorem Bo(n:Nat):(prg.run n).frz=prg.frz:=by cases n<;>rfl
end L3
end Mine.Internal.Q
end
section
set_option tactic.hygienic true
namespace Mine.Internal.Q
open PySem Classical Mine.Internal.L3
theorem b9(i j:Int):PyData.eqv (.int i) (.int j)=decide (i=j):=by
 show(i == j)=_;by_cases h:i=j<;>rfl
theorem fZ(i j:Str):PyData.eqv (.str i) (.str j)=decide (i=j):=by
 show(i == j)=_;by_cases h:i=j<;>rfl
theorem lW{a b:PyData}(h:min a.depth b.depth<=64):eq? a b=some (PyData.eqv a b):=by simp[eq?,h]
theorem fx{σ:aa}{a b:PyData}{c:Bool}(h:min a.depth b.depth<=64)(e:PyData.eqv a b=c):i3 σ .Eq (.d a) (.d b)=some c:=by
 show(eq? a b)=_;rw[lW h,e]
theorem vK{σ:aa}{a b:PyData}{c:Bool}(h:min a.depth b.depth<=64)(e:(!PyData.eqv a b)=c):i3 σ .NotEq (.d a) (.d b)=some c:=by
 show((eq? a b).bind λ r=>some (!r))=_;rw[lW h,<-e];rfl
theorem mem_map{α:Type}{f:α->PyData}{D:∀a b:α,Decidable (a=b)}(hE:∀a b,eq? (f a) (f b)=some (@decide (a=b) (D a b)))(a:α)(ys:List α){d:Decidable (a∈ys)}:kO (f a) (ys.map f)=some (@decide (a∈ys) d):=by
 have gen:∃b,kO (f a) (ys.map f)=some b/\(b=true↔a∈ys):=by
  clear d
  induction ys with
  |nil=>exact⟨false,rfl,by simp⟩
  |cons y r ih=>
   obtain⟨b,h1,h2⟩:=ih;refine⟨@decide (y=a) (D y a) || b,?_,?_⟩
   ·simp only[List.map_cons,kO,hE,h1,Option.bind_eq_bind,Option.bind_some]
   ·rw[Bool.or_eq_true,h2,List.mem_cons];exact or_congr ⟨λ q=>(of_decide_eq_true q).symm,λ q=>decide_eq_true q.symm⟩ Iff.rfl
 obtain⟨b,h1,h2⟩:=gen;rw[h1];congr 1;cases b with
 |true=>exact(decide_eq_true (h2.1 rfl)).symm
 |false=>exact(decide_eq_false λ q=>by cases h2.2 q).symm
theorem idx_map{α:Type}{f:α->PyData}{D:∀a b:α,Decidable (a=b)}(hE:∀a b,eq? (f a) (f b)=some (@decide (a=b) (D a b)))(a:α)(ys:List α)(h:a∈ys)(k:Nat):pE (f a) k (ys.map f)=some (k+(L3.before a ys).length):=by
 induction ys generalizing k with
 |nil=>cases h
 |cons y r ih=>
  simp only[List.map_cons,pE,hE,Option.bind_eq_bind,Option.bind_some,L3.before];by_cases e:y=a
  ·simp[e]
  ·have:a∈r:=by
    rcases List.mem_cons.1 h with q | q
    ·exact absurd q.symm e
    ·exact q
   simp only[e,decide_false,Bool.false_eq_true,if_false,ih this (k+1),List.takeWhile_cons,Bool.not_false,if_true,List.length_cons,L3.before];congr 1;exact Nat.add_right_comm _ _ _
theorem oP(n k:Nat):clipAt n (k:Int)=min k n:=by
 unfold clipAt;rw[if_neg (Int.not_lt.mpr (Int.natCast_nonneg k))];rcases Nat.le_total k n with h | h
 ·rw[Int.min_eq_left (Int.ofNat_le.mpr h),Nat.min_eq_left h,Int.max_eq_right (Int.natCast_nonneg _)];rfl
 ·rw[Int.min_eq_right (Int.ofNat_le.mpr h),Nat.min_eq_right h,Int.max_eq_right (Int.natCast_nonneg _)];rfl
theorem gQ{i j:Int}{n:Nat}(e:(if i<0 then i+n else i)=j)(h0:0<=j)(h1:j<n):seqIndex? i n=some j.toNat:=by
 subst e;exact if_pos (Bool.and_eq_true_iff.mpr ⟨decide_eq_true h0,decide_eq_true h1⟩)
theorem fN{k n:Nat}(h:k<n):seqIndex? (k:Int) n=some k:=gQ (j:=k) (if_neg (Int.not_lt.mpr (Int.natCast_nonneg k))) (Int.natCast_nonneg k) (Int.ofNat_lt.mpr h)
theorem nE{α:Type}{xs:List α}{x:α}:seqIndex? (-1) (xs++[x]).length=some xs.length:=by
 rw[List.length_append];exact gQ (j:=xs.length) ((if_pos (by decide)).trans ((congrArg (λ z=>-1+z) ((Int.natCast_add _ _).trans (Int.add_comm _ _))).trans (Int.neg_add_cancel_left 1 _))) (Int.natCast_nonneg _) (Int.ofNat_lt.mpr (Nat.lt_succ_self _))
theorem g0{α:Type}(k:Nat)(xs:List α):cutAt (some (k:Int)) none xs=xs.drop k:=by
 simp only[cutAt,Option.elim,oP];by_cases h:k<=xs.length
 ·rw[Nat.min_eq_left h];exact List.take_of_length_le (by simp)
 ·rw[Nat.min_eq_right (by exact Nat.le_of_not_le ‹_›)];rw[List.drop_of_length_le (Nat.le_refl _),List.drop_of_length_le (by exact Nat.le_of_not_le ‹_›)];simp
theorem ft{α:Type}(k:Nat)(xs:List α):cutAt none (some (k:Int)) xs=xs.take k:=by
 simp only[cutAt,Option.elim,oP,List.drop_zero,Nat.sub_zero];by_cases h:k<=xs.length
 ·rw[Nat.min_eq_left h]
 ·rw[Nat.min_eq_right (by exact Nat.le_of_not_le ‹_›)];rw[List.take_of_length_le (Nat.le_refl _),List.take_of_length_le (by exact Nat.le_of_not_le ‹_›)]
theorem take_takeWhile{α:Type}(p:α->Bool)(l:List α):l.take (l.takeWhile p).length=l.takeWhile p:=by
 induction l with
 |nil=>rfl
 |cons y r ih=>
  by_cases h:p y
  ·simp[List.takeWhile_cons,h,ih]
  ·simp[List.takeWhile_cons,h]
theorem je{α:Type}(p:α->Bool)(l:List α):l.drop (l.takeWhile p).length=l.dropWhile p:=by
 induction l with
 |nil=>rfl
 |cons y r ih=>
  by_cases h:p y
  ·simp[List.takeWhile_cons,List.dropWhile_cons,h,ih]
  ·simp[List.takeWhile_cons,List.dropWhile_cons,h]
theorem ints_map(l:List Int):lM (l.map .int)=some l:=by
 induction l with
 |nil=>rfl
 |cons x r ih=>simp[lM,int?,ih]
namespace L3
theorem et(c d:Ch):PyData.eqv (ax c) (ax d)=decide (c=d):=by
 show(PyData.eqv (.int c.1) (.int d.1) && (PyData.eqv (.int c.2) (.int d.2) && true))=_;rw[b9,b9];obtain⟨a,b⟩:=c;obtain⟨a',b'⟩:=d;by_cases h:a=a'<;>by_cases g:b=b'<;>simp[h,g,Int.ofNat_inj]
theorem cC(c d:Ch):eq? (ax c) (ax d)=some (decide (c=d)):=by
 rw[lW (show min _ _<=64 from Nat.le_of_ble_eq_true rfl),et]
theorem si(c d:Msg):PyData.eqv (c4 c) (c4 d)=decide (c=d):=by
 cases c with
 |pay v=>cases d with
  |pay w=>
   show(true && (PyData.eqv (.int v) (.int w) && true))=_;rw[b9];simp
  |mark w=>simp;rfl
 |mark v=>cases d with
  |pay w=>simp;rfl
  |mark w=>
   show(true && (PyData.eqv (.str v) (.str w) && true))=_;rw[fZ];simp
theorem Bz(m:Msg):(c4 m).depth<=8:=by cases m<;>exact Nat.le_of_ble_eq_true rfl
theorem xV(m:Ent):(cf m).depth<=8:=by
 cases m with
 |out c m=>cases m<;>exact Nat.le_of_ble_eq_true rfl
 |inn c m=>cases m<;>exact Nat.le_of_ble_eq_true rfl
 |save=>exact Nat.le_of_ble_eq_true rfl
 |snap=>exact Nat.le_of_ble_eq_true rfl
theorem xI(c d:Ent):PyData.eqv (cf c) (cf d)=decide (c=d):=by
 cases c<;>cases d
 case out.out c m d k=>
  show(true && (PyData.eqv (ax c) (ax d) && (PyData.eqv (c4 m) (c4 k) && true)))=_;rw[et,si];by_cases h:c=d<;>by_cases g:m=k<;>simp[h,g]
 case inn.inn c m d k=>
  show(true && (PyData.eqv (ax c) (ax d) && (PyData.eqv (c4 m) (c4 k) && true)))=_;rw[et,si];by_cases h:c=d<;>by_cases g:m=k<;>simp[h,g]
 case save.save c m d k=>
  show(true && (PyData.eqv (.int c) (.int d) && (PyData.eqv (.str m) (.str k) && true)))=_;rw[b9,fZ];by_cases h:c=d<;>by_cases g:m=k<;>simp[h,g,Int.ofNat_inj]
 case snap.snap c m d k=>
  show(true && (PyData.eqv (.int c) (.int d) && (PyData.eqv (.str m) (.str k) && true)))=_;rw[b9,fZ];by_cases h:c=d<;>by_cases g:m=k<;>simp[h,g,Int.ofNat_inj]
 all_goals (simp;rfl)
theorem gC(c d:Ent):eq? (cf c) (cf d)=some (decide (c=d)):=by
 rw[lW (Nat.le_trans (Nat.min_le_left _ _) (Nat.le_trans (xV c) (by decide))),xI]
end L3
end Mine.Internal.Q
end
section
namespace Mine.Internal.Q
open PySem Classical Mine.Internal.L3
theorem fW{P Q:Prop}{b:Bool}(hT:b=true->P)(hF:b=false->Q):if b then P else Q:=by
 cases b
 ·exact hF rfl
 ·exact hT rfl
theorem bU{Φ:Or}{e f:Expr}{r:List Expr}{p:Pos}{ρ:ah}{σ:aa}{a b:Bool}{q:Option (V×aa)}(h1:tst Φ e ρ σ (ev Φ e ρ σ)=some (a,σ))(h2:a=true->qw Φ .And (f::r) ρ σ=some (b,σ)):tst Φ (.BoolOp .And (e::f::r) p) ρ σ q=some (a && b,σ):=by
 cases a
 ·exact bi h1 rfl
 ·exact bi h1 (h2 rfl)
theorem a8{Φ:Or}{e:Expr}{r:List Expr}{ρ:ah}{σ:aa}{a b:Bool}(h1:tst Φ e ρ σ (ev Φ e ρ σ)=some (a,σ))(h2:a=true->qw Φ .And r ρ σ=some (b,σ)):qw Φ .And (e::r) ρ σ=some (a && b,σ):=by
 cases a
 ·exact bi h1 rfl
 ·exact bi h1 (h2 rfl)
theorem AB{Φ:Or}{ρ:ah}{σ:aa}:qw Φ .And [] ρ σ=some (true,σ):=rfl
theorem kT{Φ:Or}{e:Expr}{r:List Expr}{p:Pos}{ρ:ah}{σ:aa}{a b:Bool}{q:Option (V×aa)}(h1:tst Φ e ρ σ (ev Φ e ρ σ)=some (a,σ))(h2:a=false->qw Φ .Or r ρ σ=some (b,σ)):tst Φ (.BoolOp .Or (e::r) p) ρ σ q=some (a || b,σ):=by
 cases a
 ·exact bi h1 (h2 rfl)
 ·exact bi h1 rfl
theorem cS{Φ:Or}{e:Expr}{r:List Expr}{ρ:ah}{σ:aa}{a b:Bool}(h1:tst Φ e ρ σ (ev Φ e ρ σ)=some (a,σ))(h2:a=false->qw Φ .Or r ρ σ=some (b,σ)):qw Φ .Or (e::r) ρ σ=some (a || b,σ):=by
 cases a
 ·exact bi h1 (h2 rfl)
 ·exact bi h1 rfl
theorem AA{Φ:Or}{ρ:ah}{σ:aa}:qw Φ .Or [] ρ σ=some (false,σ):=rfl
theorem ey{Φ:Or}{own:Bool}{l:List Int}{σ:aa}:dZ Φ own "sum" [.d (.list (l.map .int))] σ=some (.d (.int l.sum),σ):=by
 show((lM (l.map .int)).bind λ is=>some (V.d (.int is.sum),σ))=_;rw[ints_map];rfl
theorem add_list{xs ys:List PyData}{σ:aa}(h:xs.length+ys.length<=LIM):sS false .Add (.d (.list xs)) (.d (.list ys)) σ=some (.d (.list (xs++ys)),σ):=by
 show((if xs.length+ys.length<=LIM then some (PyData.list (xs++ys)) else none).bind λ r=>some (V.d r,σ))=_;rw[if_pos h];rfl
namespace L3
noncomputable def xt:Fn:=(prg.fn "_law_queue").getD ⟨[],[]⟩
theorem xN:prg.fn "_law_queue"=some xt:=rfl
theorem lu(n:Nat)(log:List Ent)(c:Ch):(prg.run (n+2)).P "_law_queue" [.d (.list (log.map cf)),.d (ax c)]=some (some (.d (eQ (ai log c)))):=by
 refine jf xN rfl ?_;refine Wp.asg (b5 cf (λ e=>(gI c e).map λ _=>cf e) rfl rfl ?_) ?_
 ·rintro(⟨d,m⟩ | ⟨d,m⟩ | ⟨p,n⟩ | ⟨p,n⟩) hy
  ·exact⟨_,false,rfl,rfl,rfl⟩
  ·refine⟨_,decide (d=c),rfl,bL (af (ao rfl rfl (fx (Nat.le_of_ble_eq_true rfl) (c:=decide (d=c)) ?_))),?_⟩
   ·show(true && (PyData.eqv (ax d) (ax c) && true))=_;rw[et];simp
   ·refine fW (λ q=>⟨cf (.inn d m),?_,rfl⟩) (λ q=>?_)
    ·simp[gI,of_decide_eq_true q]
    ·simp[gI,of_decide_eq_false q]
  ·exact⟨_,false,rfl,rfl,rfl⟩
  ·exact⟨_,false,rfl,rfl,rfl⟩
 refine Wp.ret (dX (b5 cf (λ e=>(ka c e).map c4) rfl rfl ?_) rfl rfl rfl) ?_
 ·rintro(⟨d,m⟩ | ⟨d,m⟩ | ⟨p,n⟩ | ⟨p,n⟩) hy
  ·refine⟨_,decide (d=c),rfl,bL (af (ao rfl rfl (fx (Nat.le_of_ble_eq_true rfl) (c:=decide (d=c)) ?_))),?_⟩
   ·show(true && (PyData.eqv (ax d) (ax c) && true))=_;rw[et];simp
   ·refine fW (λ q=>⟨c4 m,?_,rfl⟩) (λ q=>?_)
    ·simp[ka,of_decide_eq_true q]
    ·simp[ka,of_decide_eq_false q]
  ·exact⟨_,false,rfl,rfl,rfl⟩
  ·exact⟨_,false,rfl,rfl,rfl⟩
  ·exact⟨_,false,rfl,rfl,rfl⟩
 refine⟨_,rfl,?_⟩;show some (V.d (PyData.list (cutAt (some ((log.filterMap λ e=>(gI c e).map λ _=>cf e).length:Int)) none (log.filterMap λ e=>(ka c e).map c4))))=_;rw[g0,<-List.map_filterMap,eQ,ai,outs,bZ,List.map_drop];have e:(log.filterMap λ e=>(gI c e).map λ _=>cf e).length=(log.filterMap (gI c)).length:=by
  clear n
  induction log with
  |nil=>rfl
  |cons x r ih=>
   cases h:gI c x<;>simp[List.filterMap_cons,h,ih]
 rw[e]
noncomputable def xx:Fn:=(prg.fn "_law_books").getD ⟨[],[]⟩
theorem xQ:prg.fn "_law_books"=some xx:=rfl
theorem iR(n:Nat)(log:List Ent)(p:Nat)(st:Int):(prg.run (n+2)).P "_law_books" [.d (.list (log.map cf)),.d (.int p),.d (.int st)]=some (some (.d (.tuple [.int (bp log p st),.int (bA log p:Nat)]))):=by
 refine jf xQ rfl ?_;refine Wp.asg (b5 cf (λ e=>(jv p e).map .int) rfl rfl ?_) ?_
 ·rintro(⟨d,m⟩ | ⟨d,m⟩ | ⟨p',n⟩ | ⟨p',n⟩) hy
  ·refine⟨_,true && (decide (d.1=p) && (bT m).isSome),rfl,bL (bU rfl λ _=>a8 (af (ao rfl rfl (fx (Nat.le_of_ble_eq_true rfl) ?_))) λ _=>?_),?_⟩
   ·show PyData.eqv (.int d.1) (.int p)=_;rw[b9];simp[Int.ofNat_inj]
   ·cases m<;>rfl
   ·refine fW (λ q=>?_) (λ q=>?_)
    ·cases m with
     |pay v=>
      refine⟨.int v,?_,rfl⟩;simp[bT] at q;simp[jv,bT,q]
     |mark v=>simp[bT] at q
    ·cases m with
     |pay v=>
      simp[bT] at q;simp[jv,bT,q]
     |mark v=>simp[jv,bT]
  ·exact⟨_,false,rfl,rfl,rfl⟩
  ·exact⟨_,false,rfl,rfl,rfl⟩
  ·exact⟨_,false,rfl,rfl,rfl⟩
 refine Wp.asg (b5 cf (λ e=>(pC p e).map .int) rfl rfl ?_) ?_
 ·rintro(⟨d,m⟩ | ⟨d,m⟩ | ⟨p',n⟩ | ⟨p',n⟩) hy
  ·exact⟨_,false,rfl,rfl,rfl⟩
  ·refine⟨_,true && (decide (d.2=p) && (bT m).isSome),rfl,bL (bU rfl λ _=>a8 (af (ao rfl rfl (fx (Nat.le_of_ble_eq_true rfl) ?_))) λ _=>?_),?_⟩
   ·show PyData.eqv (.int d.2) (.int p)=_;rw[b9];simp[Int.ofNat_inj]
   ·cases m<;>rfl
   ·refine fW (λ q=>?_) (λ q=>?_)
    ·cases m with
     |pay v=>
      refine⟨.int v,?_,rfl⟩;simp[bT] at q;simp[pC,bT,q]
     |mark v=>simp[bT] at q
    ·cases m with
     |pay v=>
      simp[bT] at q;simp[pC,bT,q]
     |mark v=>simp[pC,bT]
  ·exact⟨_,false,rfl,rfl,rfl⟩
  ·exact⟨_,false,rfl,rfl,rfl⟩
 rw[<-List.map_filterMap,<-List.map_filterMap];change Wp (xs _ _ (upd (upd _ _ (.d (.list ((dE p log).map .int)))) _ (.d (.list ((kf p log).map .int)))) _) _;refine Wp.ret (aU (ae (aK (aK rfl (aq rfl ey) rfl) (aq rfl ey) rfl) (ae rfl rfl)) rfl) ⟨_,rfl,?_⟩;show some (V.d (.tuple [.int (st+(kf p log).sum-(dE p log).sum),.int ((((kf p log).map PyData.int).length:Int)+(((dE p log).map PyData.int).length:Int))]))=_;rw[List.length_map,List.length_map];simp[bp,bA]
noncomputable def uv:Fn:=(prg.fn "_law_saving").getD ⟨[],[]⟩
theorem uA:prg.fn "_law_saving"=some uv:=rfl
noncomputable def pJ(p:Nat)(nm:Str)(c:Ch):Option Ent:=if c.1=p then some (.out c (.mark nm)) else none
theorem jq(n:Nat)(ps:List Ch)(p:Nat)(nm:Str)(hl:ps.length<=1000):(prg.run (n+2)).P "_law_saving" [.d (.tuple (ps.map ax)),.d (.int p),.d (.str nm)]=some (some (.d (.list ((aJ ps p nm).map cf)))):=by
 refine jf uA rfl ?_;refine Wp.ret (aK rfl (b5 ax (λ c=>(pJ p nm c).map cf) rfl rfl ?_) (add_list ?_)) ⟨_,rfl,?_⟩
 ·intro c hc;refine⟨_,decide (c.1=p),rfl,bL (af (ao rfl rfl (fx (Nat.le_of_ble_eq_true rfl) (c:=decide (c.1=p)) ?_))),?_⟩
  ·show PyData.eqv (.int c.1) (.int p)=_;rw[b9];simp[Int.ofNat_inj]
  ·refine fW (λ q=>⟨cf (.out c (.mark nm)),?_,rfl⟩) (λ q=>?_)
   ·simp[pJ,of_decide_eq_true q]
   ·simp[pJ,of_decide_eq_false q]
 ·refine Nat.le_trans (Nat.add_le_add_left (List.length_filterMap_le _ _) _) ?_;show 1+ps.length<=100000;lia
 ·show some (V.d (.list (cf (.save p nm)::ps.filterMap (λ c=>(pJ p nm c).map cf))))=some (V.d (.list (cf (.save p nm)::((ps.filter λ c=>decide (c.1=p)).map λ c=>Ent.out c (.mark nm)).map cf)));congr 4;clear hl
  induction ps with
  |nil=>rfl
  |cons c r ih=>
   by_cases h:c.1=p
   ·simp only[List.filterMap_cons,List.filter_cons,pJ,h,if_true,decide_true,Option.map_some,List.map_cons] at ih ⊢;rw[ih]
   ·simp only[List.filterMap_cons,List.filter_cons,pJ,h,if_false,decide_false,Option.map_none] at ih ⊢;rw[ih];rfl
end L3
end Mine.Internal.Q
end
section
namespace Mine.Internal.Q
open PySem Classical Mine.Internal.L3
noncomputable def B4(Φ:Or)(f:Str):Bool:=(["len","list","sum","abs","all","set","type",Φ.cls]:List Str).contains f
theorem aT{Φ:Or}{own:Bool}{f:Str}{vs:List V}{σ:aa}{w:V}(hn:B4 Φ f=false)(hs:vs.all ie=true)(h:Φ.P f vs=some (some w)):dZ Φ own f vs σ=some (w,σ):=by
 simp only[B4,List.contains_cons,List.contains_nil,Bool.or_false,Bool.or_eq_false_iff,beq_eq_false_iff_ne,ne_eq] at hn;refine bC λ k9=>?_;obtain⟨h1,h2,h3,h4,h5,h6,h7,h8⟩:=hn;refine k9 ?_;exact(if_neg h1).trans ((if_neg h2).trans ((if_neg h3).trans ((if_neg h4).trans ((if_neg h5).trans ((if_neg h6).trans ((if_neg h7).trans ((if_neg h8).trans ((if_pos hs).trans (bi h rfl)))))))))
theorem eq_str(a b:Str):eq? (.str a) (.str b)=some (decide (a=b)):=by
 rw[lW (Nat.le_of_ble_eq_true rfl),fZ]
theorem eq_int(a b:Int):eq? (.int a) (.int b)=some (decide (a=b)):=by
 rw[lW (Nat.le_of_ble_eq_true rfl),b9]
theorem eJ{σ:aa}{a c:PyData}{b:Bool}{xs:List PyData}(h:items? c=some xs)(e:kO a xs=some b):i3 σ .In (.d a) (.d c)=some b:=by
 show((items? c).bind λ xs=>kO a xs)=_;rw[h];exact e
theorem dz{σ:aa}{a c:PyData}{b:Bool}{xs:List PyData}(h:items? c=some xs)(e:kO a xs=some b):i3 σ .NotIn (.d a) (.d c)=some (!b):=by
 show((items? c).bind λ xs=>kO a xs).map (!·)=_;rw[h];show(kO a xs).map (!·)=_;rw[e];rfl
theorem item_list{xs:List PyData}{k:Nat}(h:k<xs.length):fi (.list xs) (k:Int)=some xs[k]:=by
 show(seqIndex? k xs.length).bind (λ j=>xs[j]?)=_;rw[fN h];exact List.getElem?_eq_getElem h
theorem cO{Φ:Or}{e:Expr}{p:Pos}{ρ:ah}{σ σ1:aa}{b:Bool}{q:Option (V×aa)}(h:tst Φ e ρ σ (ev Φ e ρ σ)=some (b,σ1)):tst Φ (.UnaryOp .Not e p) ρ σ q=some (!b,σ1):=by
 show((tst Φ e ρ σ (ev Φ e ρ σ)).bind fun(x:Bool×aa)=>some (!x.1,x.2))=_;rw[h];rfl
noncomputable def Bg:Expr->Bool
 |.Slice ..=>true
 |_=>false
theorem aj{Φ:Or}{c i:Expr}{p:Pos}{ρ:ah}{σ σ1 σ2:aa}{a b r:V}(hi:Bg i=false)(h1:ev Φ c ρ σ=some (a,σ1))(h2:ev Φ i ρ σ1=some (b,σ2))(h3:gF σ2 a b=some r):ev Φ (.Subscript c i p) ρ σ=some (r,σ2):=by
 have e:ev Φ (.Subscript c i p) ρ σ=(ev Φ c ρ σ).bind fun(x:V×aa)=>(ev Φ i ρ x.2).bind fun(y:V×aa)=>(gF y.2 x.1 y.1).bind λ r=>some (r,y.2):=by
  cases i<;>first | (cases hi;done) | rfl
 rw[e,h1];show((ev Φ i ρ σ1).bind fun(y:V×aa)=>(gF y.2 a y.1).bind λ r=>some (r,y.2))=_;rw[h2];show(gF σ2 a b).bind _=_;rw[h3];rfl
theorem k6{σ:aa}{x:PyData}{xs:List PyData}:gF σ (.d (.list (x::xs))) (.d (.int 0))=some (.d x):=by
 show((fi (.list (x::xs)) ((0:Nat):Int)).map V.d)=_;rw[item_list (by simp)];rfl
theorem gB{Φ:Or}{es:List Expr}{p:Pos}{ρ:ah}{σ σ1:aa}{vs:List V}{r:Option (V×aa)}(h1:evs Φ es ρ σ=some (vs,σ1))(h2:cF (Φ.own p) vs σ1=r):ev Φ (.List es p) ρ σ=r:=bi h1 h2
namespace L3
theorem lC(log:List Ent):(log.filterMap λ e=>(n9 e).map .str)=(names log).map PyData.str:=by
 rw[<-List.map_filterMap];rfl
noncomputable def Bs:Fn:=(prg.fn "_law_due").getD ⟨[],[]⟩
theorem Bw:prg.fn "_law_due"=some Bs:=rfl
theorem s6{ps:List Ch}{starts:List Int}{log l:List Ent}{e:Evt}{s:Str}{ds:List PyData}(h:aR ps starts log e=(s,l))(hm:l.map cf=ds):some (V.d (.tuple [.str s,.list ds]))=some (V.d (.tuple [.str (aR ps starts log e).1,.list ((aR ps starts log e).2.map cf)])):=by rw[h,<-hm]
theorem AM{k:Nat}{l:List Ent}(h:l.length<=k)(j:Nat)(hk:k+j<=LIM):(l.map cf).length+j<=LIM:=Nat.le_trans (Nat.add_le_add_right (Nat.le_trans (Nat.le_of_eq (List.length_map _)) h) _) hk
theorem wm{ps:List Ch}{p:Nat}{n:Str}:(aJ ps p n).length<=ps.length+1:=Nat.succ_le_succ (Nat.le_trans (Nat.le_of_eq (List.length_map _)) (List.length_filter_le ..))
namespace due_run_e
noncomputable section
def P(n:Nat)(ps:List Ch)(starts:List Int)(log:List Ent)(e:Evt):Prop:=∀(hp:ps.length<=1000) (hl:log.length<=50000) (hs:∀c∈ps,c.1<starts.length),(prg.run (n+3)).P "_law_due" [.d (.tuple (ps.map ax)),.d (bb starts),.d (.list (log.map cf)),.d (eB e)]=some (some (.d (.tuple [.str (aR ps starts log e).1,.list ((aR ps starts log e).2.map cf)])))
def x:(Nat)×(List Ch)×(List Int)×(List Ent)×(Evt):=@Classical.epsilon _ ⟨(default,default,default,default,.recv (0,0))⟩ λ x=>¬P x.1 x.2.1 x.2.2.1 x.2.2.2.1 x.2.2.2.2
def n:Nat:=x.1
def ps:List Ch:=x.2.1
def starts:List Int:=x.2.2.1
def log:List Ent:=x.2.2.2.1
def e:Evt:=x.2.2.2.2
theorem core:P n ps starts log e:=λ hp hl hs=>by
 refine jf Bw rfl ?_;have sv:∀p nm k,k<=2->(log.map cf).length+k+((aJ ps p nm).map cf).length<=LIM:=λ p nm k hk=>Nat.le_trans (Nat.add_le_add (Nat.add_le_add (Nat.le_trans (Nat.le_of_eq (List.length_map _)) hl) hk) (Nat.le_trans (Nat.le_of_eq (List.length_map _)) (Nat.le_trans wm (Nat.succ_le_succ hp)))) (by decide);cases e with
 |snap p nm=>
  refine Wp.ifT rfl (Wp.ifD (P:=nm∈names log) (af (ao rfl (b5 cf (λ e=>(n9 e).map .str) rfl rfl λ e _=>?_) (eJ rfl ?_))) (λ q=>?_) λ q=>?_)
  ·cases e with
   |snap p' n=>exact⟨_,true,rfl,rfl,_,rfl,rfl⟩
   |_=>exact⟨_,false,rfl,rfl,rfl⟩
  ·rw[lC];exact mem_map eq_str nm (names log)
  ·exact Wp.ret rfl ⟨_,rfl,s6 (if_pos q) rfl⟩
  ·refine⟨.nx,_,_,rfl,Wp.ret (aU (ae rfl (ae (aK (aK rfl rfl (add_list (AM hl 1 (by decide)))) (aq rfl (aT rfl rfl (jq n ps p nm hp))) (add_list ?_)) rfl)) rfl) ⟨_,rfl,s6 (if_neg q) ?_⟩⟩
   ·rw[List.length_append];exact sv p nm 1 (by decide)
   ·rw[List.map_append,List.map_append];rfl
 |send c v=>
  refine Wp.ifF rfl (Wp.fin (Wp.asg (v:=.d (ax c)) rfl ?_));by_cases hc:c∈ps
  ·refine Wp.ifF (af (ao rfl rfl ((dz rfl (mem_map cC c ps)).trans (congrArg (λ b=>some (!b)) (decide_eq_true hc))))) (Wp.fin (Wp.ifT rfl (Wp.unp rfl (aq (ae rfl (ae rfl (ae (aj rfl rfl rfl (r:=.d (.int (starts.getD c.1 0))) ?_) rfl))) (aT rfl rfl (iR n log c.1 _))) rfl rfl (Wp.ifD (P:=bp log c.1 (starts.getD c.1 0)<v) rfl (λ q=>?_) λ q=>?_))))
   ·show((fi (bb starts) (c.1:Int)).map V.d)=_;rw[bb,item_list (Nat.lt_of_lt_of_eq (hs c hc) (List.length_map _).symm),List.getElem_map,List.getD_eq_getElem?_getD,List.getElem?_eq_getElem (hs c hc)];rfl
   ·exact Wp.ret rfl ⟨_,rfl,s6 ((if_pos hc).trans (if_pos q)) rfl⟩
   ·exact Wp.fin (Wp.ret (aU (ae rfl (ae (aK rfl rfl (add_list (AM hl 1 (by decide)))) rfl)) rfl) ⟨_,rfl,s6 ((if_pos hc).trans (if_neg q)) List.map_append⟩)
  ·exact Wp.ifT (af (ao rfl rfl ((dz rfl (mem_map cC c ps)).trans (congrArg (λ b=>some (!b)) (decide_eq_false hc))))) (Wp.ret rfl ⟨_,rfl,s6 (if_neg hc) rfl⟩)
 |recv c=>
  refine Wp.ifF rfl (Wp.fin (Wp.asg (v:=.d (ax c)) rfl ?_));by_cases hc:c∈ps
  ·refine Wp.ifF (af (ao rfl rfl ((dz rfl (mem_map cC c ps)).trans (congrArg (λ b=>some (!b)) (decide_eq_true hc))))) (Wp.fin (Wp.ifF rfl (Wp.fin (Wp.asg (aq rfl (aT rfl rfl (lu n log c))) ?_))));have hd:aR ps starts log (.recv c)=_:=if_pos hc;cases hq:ai log c with
   |nil=>rw[hq] at hd;exact Wp.ifT rfl (Wp.ret rfl ⟨_,rfl,s6 hd rfl⟩)
   |cons m r=>
    rw[hq] at hd;refine Wp.ifF rfl (Wp.fin ?_);cases m with
    |pay v=>exact Wp.unp (v:=.d (c4 (.pay v))) (vs:=[.d (.str "pay"),.d (.int v)]) rfl (aj rfl rfl rfl k6) rfl rfl (Wp.ifF rfl (Wp.fin (Wp.ret (aU (ae rfl (ae (aK rfl (gB (ae (aU (ae rfl (ae rfl (ae (aj rfl rfl rfl k6) rfl))) rfl) rfl) rfl) (add_list (AM hl 1 (by decide)))) rfl)) rfl) ⟨_,rfl,s6 hd List.map_append⟩)))
    |mark nm=>
     refine Wp.unp (v:=.d (c4 (.mark nm))) (vs:=[.d (.str "mark"),.d (.str nm)]) rfl (aj rfl rfl rfl k6) rfl rfl ?_;by_cases hn:Ent.save c.2 nm∈log
     ·exact Wp.ifF (bU (a:=true) (b:=false && true) rfl λ _=>a8 (af (ao rfl rfl ((dz rfl (mem_map gC (Ent.save c.2 nm) log)).trans (congrArg (λ b=>some (!b)) (decide_eq_true hn))))) λ _=>rfl) (Wp.fin (Wp.ret (aU (ae rfl (ae (aK rfl (gB (ae (aU (ae rfl (ae rfl (ae (aj rfl rfl rfl k6) rfl))) rfl) rfl) rfl) (add_list (AM hl 1 (by decide)))) rfl)) rfl) ⟨_,rfl,s6 (hd.trans (congrArg (λ l=>(("done":Str),l++[Ent.inn c (.mark nm)])) (if_pos hn))) List.map_append⟩))
     ·refine Wp.ifT (bU (a:=true) (b:=true && true) rfl λ _=>a8 (af (ao rfl rfl ((dz rfl (mem_map gC (Ent.save c.2 nm) log)).trans (congrArg (λ b=>some (!b)) (decide_eq_false hn))))) λ _=>rfl) (Wp.asg (aK rfl (aq rfl (aT rfl rfl (jq n ps c.2 nm hp))) (add_list (sv c.2 nm 0 (by decide)))) (Wp.fin (Wp.ret (aU (ae rfl (ae (aK rfl (gB (ae (aU (ae rfl (ae rfl (ae (aj rfl rfl rfl k6) rfl))) rfl) rfl) rfl) (add_list ?_)) rfl)) rfl) ⟨_,rfl,s6 (hd.trans (congrArg (λ l=>(("done":Str),l++[Ent.inn c (.mark nm)])) (if_neg hn))) ?_⟩)))
      ·rw[List.length_append];exact Nat.le_trans (Nat.le_of_eq (Nat.add_right_comm ..)) (sv c.2 nm 1 (by decide))
      ·rw[List.map_append,List.map_append];rfl
  ·exact Wp.ifT (af (ao rfl rfl ((dz rfl (mem_map cC c ps)).trans (congrArg (λ b=>some (!b)) (decide_eq_false hc))))) (Wp.ret rfl ⟨_,rfl,s6 (if_neg hc) rfl⟩)
end
end due_run_e
theorem xS(n:Nat)(ps:List Ch)(starts:List Int)(log:List Ent)(e:Evt)(hp:ps.length<=1000)(hl:log.length<=50000)(hs:∀c∈ps,c.1<starts.length):(prg.run (n+3)).P "_law_due" [.d (.tuple (ps.map ax)),.d (bb starts),.d (.list (log.map cf)),.d (eB e)]=some (some (.d (.tuple [.str (aR ps starts log e).1,.list ((aR ps starts log e).2.map cf)]))):=aw (Q:=λ x:(Nat)×(List Ch)×(List Int)×(List Ent)×(Evt)=>due_run_e.P x.1 x.2.1 x.2.2.1 x.2.2.2.1 x.2.2.2.2) due_run_e.core (n,ps,starts,log,e) hp hl hs
end L3
end Mine.Internal.Q
end
section
namespace Mine.Internal.Q
open PySem Classical Mine.Internal.L3
theorem Wp.bind{Φ:Or}{t:Expr}{b:List Stmt}{x:V}{ρ ρ1:ah}{σ:aa}{K:Out->ah->aa->Prop}(h:aQ t x ρ=some ρ1)(k:Wp (xs Φ b ρ1 σ) K):Wp ((aQ t x ρ).bind λ ρ=>xs Φ b ρ σ) K:=by
 rw[h];exact k
theorem Wp.ox{α:Type}{step:V->ah->aa->Res}(f:α->PyData)(I:List α->ah->aa->Prop){ys:List α}{ρ:ah}{σ:aa}{K:Out->ah->aa->Prop}
  (h0:I [] ρ σ)
  (hs:∀pre y post ρ σ,ys=pre++y::post->I pre ρ σ->Wp (step (.d (f y)) ρ σ) (LpK (I (pre++[y])) K))
  (h1:∀ρ σ,I ys ρ σ->K .nx ρ σ):Wp (Mine.Internal.forL step ((ys.map f).map .d) ρ σ) K:=by
 rw[List.map_map];exact Wp.forL (V.d ∘ f) I h0 hs h1
theorem Wp.Ay{Φ:Or}{ts es:List Expr}{c c':Nat}{p p' q:Pos}{r:List Stmt}{ρ ρ1:ah}{σ σ1:aa}{vs:List V}{K:Out->ah->aa->Prop}(h:evs Φ es ρ σ=some (vs,σ1))(h3:cW ts vs ρ=some ρ1)(h4:Wp (xs Φ r ρ1 σ1) K):Wp (xs Φ (.Assign [.Tuple ts c p] (.Tuple es c' p') q::r) ρ σ) K:=
 Wp.nx (bi h (bi h3 rfl)) h4
theorem cZ{Φ:Or}{o:Expr}{m:Str}{args:List Expr}{p q:Pos}{ρ:ah}{σ σ1 σ2:aa}{a:V}{vs:List V}{k:Nat}{r:Option (V×aa)}(h1:ev Φ o ρ σ=some (a,σ1))(h2:vk σ1 m a=some k)(h3:evs Φ args ρ σ1=some (vs,σ2))(h4:vk σ2 m a=some k)(h5:gM Φ m a vs σ2=r):ev Φ (.Call (.Attribute o m p) args [] q) ρ σ=r:=bi h1 (bi h2 (bi h3 ((if_pos h4).trans h5)))
theorem sR{σ:aa}{m:Str}{l k:Nat}{nd:Nd}(h:σ[l]?=some nd)(e:vkN m (some nd)=some k):vk σ m (.o l)=some k:=(congrArg (vkN m) h).trans e
theorem iP{Φ:Or}{m:Str}{l:Nat}{vs:List V}{σ:aa}{nd:Nd}{r:Option (V×aa)}(h:σ[l]?=some nd)(e:l9 Φ m l vs σ (some nd)=r):gM Φ m (.o l) vs σ=r:=(congrArg (l9 Φ m l vs σ) h).trans e
theorem bR{Φ:Or}{o e:Expr}{p q:Pos}{ρ:ah}{σ σ1 σ2:aa}{l:Nat}{v:V}{xs xs':List V}(h1:ev Φ o ρ σ=some (.o l,σ1))(h2:σ1[l]?=some (.lst xs'))(h3:ev Φ e ρ σ1=some (v,σ2))(h4:σ2[l]?=some (.lst xs))(hl:xs.length<LIM):ev Φ (.Call (.Attribute o "append" p) [e] [] q) ρ σ=some (.d .none,σ2.set l (.lst (xs++[v]))):=by
 exact cZ h1 (k:=1) (sR h2 rfl) (ae h3 rfl) (sR h4 rfl) (iP h4 (show(if xs.length<LIM then some (V.d .none,σ2.set l (.lst (xs++[v]))) else none)=_ from if_pos hl))
theorem iH{Φ:Or}{o e:Expr}{p q:Pos}{ρ:ah}{σ σ1 σ2:aa}{x:PyData}{xs:List PyData}{k:Nat}(h1:ev Φ o ρ σ=some (.d (.list xs),σ1))(h2:ev Φ e ρ σ1=some (.d x,σ2))(h3:pE x 0 xs=some k):ev Φ (.Call (.Attribute o "index" p) [e] [] q) ρ σ=some (.d (.int k),σ2):=by
 refine cZ h1 (k:=1) rfl (ae h2 rfl) rfl ?_;show((pE x 0 xs).bind λ k=>some (V.d (.int k),σ2))=_;rw[h3];rfl
theorem cJ{Φ:Or}{e:Expr}{ρ:ah}{σ σ1:aa}{i:Int}(h:ev Φ e ρ σ=some (.d (.int i),σ1)):evo Φ (some e) ρ σ=some (some i,σ1):=by
 exact bi h rfl
theorem tE{Φ:Or}{e:Expr}{p q:Pos}{ρ:ah}{σ σ1:aa}{xs:List PyData}(h:ev Φ e ρ σ=some (.d (.list xs),σ1)):src Φ (.Call (.Name "enumerate" p) [e] [] q) ρ σ=some (.items (xs.zipIdx.map fun(p:PyData×Nat)=>.d (.tuple [.int p.2,p.1])),σ1):=by
 show((evs Φ [e] ρ σ).bind fun(x:List V×aa)=>(draws "enumerate" x.1).bind λ ys=>some (Src.items ys,x.2))=_;rw[ae h rfl];rfl
theorem zip_map{α:Type}(f:α->PyData)(xs:List α)(g:PyData×Nat->V):(xs.map f).zipIdx.map g=xs.zipIdx.map λ x=>g (f x.1,x.2):=by
 rw[List.zipIdx_map,List.map_map];rfl
theorem cv{α:Type}(f:α->PyData){ys:List α}{Φ:Or}{e:Expr}{p q:Pos}{ρ:ah}{σ σ1:aa}(h:ev Φ e ρ σ=some (.d (.list (ys.map f)),σ1)):src Φ (.Call (.Name "enumerate" p) [e] [] q) ρ σ=some (.items (ys.zipIdx.map λ x=>.d (.tuple [.int x.2,f x.1])),σ1):=by
 rw[tE h,zip_map]
theorem zD(n:Nat)(ds:List PyData)(σ:aa):AP (frz (n+1)) σ (ds.map V.d)=some (ds,σ):=by
 induction ds with
 |nil=>rfl
 |cons d r ih=>exact bi ih rfl
theorem pQ{Φ:Or}{x:Str}{p:Pos}{ρ:ah}{σ:aa}{v:V}{r:Option (V×aa)}(hg:Φ.gl x=none)(h:ρ x=some v)(e:rdV Φ p σ v=r):ev Φ (.Name x p) ρ σ=r:=by
 show nmN Φ p σ (ρ x) (Φ.gl x)=r;rw[hg,h];exact e
theorem yP{Φ:Or}{p:Pos}{σ:aa}{l:Nat}{nd:Nd}{v:V}(hf:Φ.frz p=false)(hs:σ[l]?=some nd)(e:drN l (some nd)=v):rdV Φ p σ (.o l)=some (v,σ):=by
 show(if Φ.frz p=true then _ else some (drN l σ[l]?,σ))=_;rw[hf,hs,e];rfl
theorem eI{Φ:Or}{x:Str}{p:Pos}{ρ:ah}{σ:aa}{l:Nat}{ds:List PyData}(hg:Φ.gl x=none)(hf:Φ.frz p=true)(h:ρ x=some (.o l))(hs:σ[l]?=some (.lst (ds.map .d))):ev Φ (.Name x p) ρ σ=some (.d (.list ds),σ.set l (.frz (.list ds))):=by
 exact pQ hg h ((if_pos hf).trans (congrArg (Option.map fun(x:PyData×aa)=>(V.d x.1,x.2)) ((congrArg (vz (frz 7) l σ) hs).trans (bi (zD 6 ds σ) rfl))))
theorem Cb{Φ:Or}{x:Str}{p:Pos}{ρ:ah}{σ:aa}{l:Nat}{d:PyData}(hg:Φ.gl x=none)(hf:Φ.frz p=false)(h:ρ x=some (.o l))(hs:σ[l]?=some (.frz d)):ev Φ (.Name x p) ρ σ=some (.d d,σ):=by
 exact pQ hg h (yP hf hs rfl)
theorem cB{Φ:Or}{x:Str}{p:Pos}{ρ:ah}{σ:aa}{l:Nat}{d:PyData}(hg:Φ.gl x=none)(hf:Φ.frz p=true)(h:ρ x=some (.o l))(hs:σ[l]?=some (.frz d)):ev Φ (.Name x p) ρ σ=some (.d d,σ):=by
 exact pQ hg h ((if_pos hf).trans (congrArg (Option.map fun(x:PyData×aa)=>(V.d x.1,x.2)) (congrArg (vz (frz 7) l σ) hs)))
theorem gZ{Φ:Or}{x:Str}{p:Pos}{ρ:ah}{σ σ1:aa}{ds:List PyData}(h:ev Φ (.Name x p) ρ σ=some (.d (.list ds),σ1)):drw Φ (.Name x p) ρ σ (ev Φ (.Name x p) ρ σ)=some (ds.map .d,σ1):=by
 rw[h];rfl
theorem bj{α:Type}{Φ:Or}{elt t it:Expr}{c:Scope}{p:Pos}{ρ:ah}{σ σ1:aa}{ys:List α}(f:α->PyData)(g:α->PyData)
  (h1:drw Φ it ρ σ (ev Φ it ρ σ)=some ((ys.map f).map .d,σ1)) (ho:Φ.own p=false)
  (H:∀y,y∈ys->∃ρ',aQ t (.d (f y)) ρ=some ρ'/\ev Φ elt ρ' σ1=some (.d (g y),σ1)) :
  ev Φ (.ListComp elt [⟨t,it,[],0⟩] c p) ρ σ=some (.d (.list (ys.map g)),σ1):=by
 have:=b5 (elt:=elt) (t:=t) (ifs:=[]) (c:=c) f (λ y=>some (g y)) h1 ho λ y hy=>by
  refine bC λ k9=>?_;obtain⟨ρ',a,b⟩:=H y hy;refine k9 ?_;exact⟨ρ',true,a,rfl,_,rfl,b⟩
 rw[this,List.filterMap_eq_map']
theorem gp{α:Type}(f:α->PyData)(x:α)(ys:List α):slice? (.list (ys.map f)) none (some ((0+(L3.before x ys).length:Nat):Int))=some (.list ((L3.before x ys).map f)):=by
 show some (PyData.list (cutAt none (some ((0+(L3.before x ys).length:Nat):Int)) (ys.map f)))=_;rw[ft,Nat.zero_add,<-List.map_take,L3.before,take_takeWhile]
theorem mD{α:Type}(f:α->PyData)(x:α)(ys:List α):slice? (.list (ys.map f)) (some ((0+(L3.before x ys).length:Nat):Int)) none=some (.list ((L3.since x ys).map f)):=by
 show some (PyData.list (cutAt (some ((0+(L3.before x ys).length:Nat):Int)) none (ys.map f)))=_;rw[g0,Nat.zero_add,<-List.map_drop,L3.before,je];rfl
theorem Wp.xd{Φ:Or}{s:Stmt}{r:List Stmt}{ρ:ah}{σ:aa}{K:Out->ah->aa->Prop}(P:aa->Prop)(h1:Wp (x1 Φ s ρ σ) λ o ρ' τ=>o=.nx/\ρ'=ρ/\P τ)(h2:∀τ,P τ->Wp (xs Φ r ρ τ) K):Wp (xs Φ (s::r) ρ σ) K:=by
 refine Wp.cons (h1.mono ?_);rintro o ρ' τ ⟨rfl,rfl,p⟩;exact h2 _ p
namespace L3
noncomputable def zJ:Fn:=(prg.fn "_law_snap").getD ⟨[],[]⟩
theorem zX:prg.fn "_law_snap"=some zJ:=rfl
noncomputable def iS(log:List Ent)(nm:Str)(x:Int×Nat):PyData:=.tuple [eOI (bq log nm x),eON (eC log nm x)]
theorem sD{log:List Ent}{nm:Str}{y:Int×Nat}(h:Ent.save y.2 nm∈log):PyData.tuple [.int (bp (before (.save y.2 nm) log) y.2 y.1),.int (bA (before (.save y.2 nm) log) y.2)]=iS log nm y:=by
 rw[iS,bq,eC,if_pos h,if_pos h];rfl
theorem sE{log:List Ent}{nm:Str}{y:Int×Nat}(h:Ent.save y.2 nm∉log):PyData.tuple [.none,.none]=iS log nm y:=by
 rw[iS,bq,eC,if_neg h,if_neg h];rfl
theorem dA(P:Prop)[Decidable P](m:Msg):(if P then some m else none).bind bT=if P then bT m else none:=by
 by_cases q:P
 ·rw[if_pos q,if_pos q];rfl
 ·rw[if_neg q,if_neg q];rfl
theorem kS{ρ:ah}{x y:Str}{a b:V}(h1:ρ x=some a)(h2:ρ y=some b):ρ=upd (upd ρ x a) y b:=funext λ z=>by
 show _=if z=y then some b else if z=x then some a else ρ z
 by_cases e:z=y
 ·rw[if_pos e,e,h2]
 ·rw[if_neg e];by_cases e:z=x
  ·rw[if_pos e,e,h1]
  ·rw[if_neg e]
inductive TP(log:List Ent)(c:Ch)(nm:Str):V->V->Prop
 |mk (t:Nat) (r:List Ent) (h:au log c nm=(t,eG (bZ c r))):TP log c nm (.d (.str (cD t))) (.d (.list (r.map cf)))
inductive TP1(log:List Ent)(c:Ch)(nm:Str):V->V->Prop
 |mk (t:Nat) (r:List Ent) (h:au log c nm=if Ent.inn c (.mark nm)∈r then(2,eG (bZ c (before (.inn c (.mark nm)) r))) else(t,eG (bZ c r))):TP1 log c nm (.d (.str (cD t))) (.d (.list (r.map cf)))
theorem Wp.zj{Φ:Or}{s:Stmt}{r:List Stmt}{ρ:ah}{σ:aa}{K:Out->ah->aa->Prop}(x y:Str)(P:V->V->Prop)(h1:Wp (x1 Φ s ρ σ) λ o ρ' τ=>o=.nx/\τ=σ/\∃a b,P a b/\ρ'=upd (upd ρ x a) y b)(h2:∀a b,P a b->Wp (xs Φ r (upd (upd ρ x a) y b) σ) K):Wp (xs Φ (s::r) ρ σ) K:=by
 refine Wp.cons (h1.mono ?_);rintro o ρ' τ ⟨rfl,rfl,a,b,p,rfl⟩;exact h2 _ _ p
theorem Wp.x1D{Φ:Or}{t:Expr}{b o:List Stmt}{p:Pos}{ρ:ah}{σ σ1:aa}{P:Prop}[D:Decidable P]{K:Out->ah->aa->Prop}(h:tst Φ t ρ σ (ev Φ t ρ σ)=some (@decide P D,σ1))(hT:P->Wp (xs Φ b ρ σ1) K)(hF:¬P->Wp (xs Φ o ρ σ1) K):Wp (x1 Φ (.If t b o p) ρ σ) K:=by
 rw[show x1 Φ (.If t b o p) ρ σ=if @decide P D then xs Φ b ρ σ1 else xs Φ o ρ σ1 from bi h rfl];by_cases q:P
 ·rw[decide_eq_true q];exact hT q
 ·rw[decide_eq_false q];exact hF q
namespace snap_run_e
noncomputable section
def P(n:Nat)(ps:List Ch)(starts:List Int)(log:List Ent)(nm:Str):Prop:=∀(hp:ps.length<=1000) (hs:starts.length<=1000),(prg.run (n+3)).P "_law_snap" [.d (.list (log.map cf)),.d (.tuple (ps.map ax)),.d (bb starts),.d (.str nm)]=some (some (.d (df (bJ ps starts log nm))))
def x:(Nat)×(List Ch)×(List Int)×(List Ent)×(Str):=@Classical.epsilon _ ⟨(default,default,default,default,default)⟩ λ x=>¬P x.1 x.2.1 x.2.2.1 x.2.2.2.1 x.2.2.2.2
def n:Nat:=x.1
def ps:List Ch:=x.2.1
def starts:List Int:=x.2.2.1
def log:List Ent:=x.2.2.2.1
def nm:Str:=x.2.2.2.2
theorem core:P n ps starts log nm:=λ hp hs=>by
 refine jf zX rfl (Wp.nx (ρ1:=_) rfl (Wp.for (cv PyData.int (ys:=starts) rfl) ?_));refine Wp.forL (fun(x:Int×Nat)=>V.d (.tuple [.int x.2,.int x.1])) (λ pre ρ σ=>Ov ["p","start"] _ ρ/\σ=[.lst (pre.map λ x=>V.d (iS log nm x)),.lst []]) ⟨Ov.refl,rfl⟩ ?_ ?_
 ·rintro pre y post ρ σ hy ⟨⟨f,rfl⟩,rfl⟩;refine Wp.bind rfl (Wp.ifD (P:=Ent.save y.2 nm∈log) (af (ao rfl rfl (eJ rfl (mem_map gC (Ent.save y.2 nm) log)))) (λ hm=>?_) λ hm=>?_)
  ·exact Wp.expr (bR rfl rfl (aq (ae (dX rfl rfl (cJ (iH rfl rfl (idx_map gC (Ent.save y.2 nm) log hm 0))) (gp cf _ _)) rfl) (aT rfl rfl (iR n _ y.2 y.1))) rfl (Nat.lt_of_le_of_lt (Nat.le_of_eq (List.length_map _)) (nN hy hs (by decide)))) (Wp.fin (Wp.nil ⟨Ov.upd (Ov.upd ⟨f,rfl⟩ rfl) rfl,congrArg (λ l=>[Nd.lst l,Nd.lst []]) (gP (congrArg V.d (sD hm)))⟩))
  ·exact Wp.expr (bR rfl rfl rfl rfl (Nat.lt_of_le_of_lt (Nat.le_of_eq (List.length_map _)) (nN hy hs (by decide)))) (Wp.fin (Wp.nil ⟨Ov.upd (Ov.upd ⟨f,rfl⟩ rfl) rfl,congrArg (λ l=>[Nd.lst l,Nd.lst []]) (gP (congrArg V.d (sE hm)))⟩))
 rintro ρ σ ⟨⟨f,rfl⟩,rfl⟩;refine Wp.for rfl (Wp.ox ax (λ pre ρ σ=>Ov ["pair","begun","ended","mode","rest"] _ ρ/\σ=[.lst (starts.zipIdx.map λ x=>V.d (iS log nm x)),.lst (pre.map λ c=>V.d (dy (au log c nm)))]) ⟨Ov.refl,rfl⟩ ?_ ?_)
 ·rintro pre c post ρ σ hy ⟨⟨f',rfl⟩,rfl⟩;refine Wp.bind rfl (Wp.Ay (vs:=[.d (cf (.save c.2 nm)),.d (cf (.inn c (.mark nm))),.d (.str "idle"),.d (.list [])]) rfl rfl ?_);refine Wp.zj "mode" "rest" (TP1 log c nm) (Wp.x1D (P:=Ent.save c.2 nm∈log) (af (ao rfl rfl (eJ rfl (mem_map gC (Ent.save c.2 nm) log)))) (λ hm=>?_) λ hm=>?_) ?_
  ·exact Wp.Ay (ae rfl (ae (dX rfl (cJ (iH rfl rfl (idx_map gC (Ent.save c.2 nm) log hm 0))) rfl (mD cf _ _)) rfl)) rfl (Wp.nil ⟨rfl,rfl,_,_,.mk 1 _ (if_pos hm),rfl⟩)
  ·exact Wp.nil ⟨rfl,rfl,_,_,.mk 0 [] ((if_neg hm).trans (if_neg List.not_mem_nil).symm),kS rfl rfl⟩
  rintro _ _ ⟨t,r,ht⟩;refine Wp.zj "mode" "rest" (TP log c nm) (Wp.x1D (P:=Ent.inn c (.mark nm)∈r) (af (ao rfl rfl (eJ rfl (mem_map gC (Ent.inn c (.mark nm)) r)))) (λ hm=>?_) λ hm=>?_) ?_
  ·exact Wp.Ay (ae rfl (ae (dX rfl rfl (cJ (iH rfl rfl (idx_map gC (Ent.inn c (.mark nm)) r hm 0))) (gp cf _ _)) rfl)) rfl (Wp.nil ⟨rfl,rfl,_,_,.mk 2 _ (ht.trans (if_pos hm)),rfl⟩)
  ·exact Wp.nil ⟨rfl,rfl,_,_,.mk t r (ht.trans (if_neg hm)),kS rfl rfl⟩
  clear ht
  ·rintro _ _ ⟨t,r,ht⟩;refine Wp.expr (bR rfl rfl (aU (ae rfl (ae (b5 cf (ys:=r) (λ e=>((gI c e).bind bT).map .int) rfl rfl ?_) rfl)) rfl) rfl ?_) (Wp.nil ⟨by repeat first | exact⟨f',rfl⟩ | refine Ov.upd ?_ rfl,?_⟩)
   ·intro e _;cases e with
    |inn d m=>
     refine⟨_,decide (d=c) && (bT m).isSome,rfl,bL (bU (a:=decide (d=c)) (af (ao rfl rfl (fx (Nat.le_of_ble_eq_true rfl) ((congrArg (· && true) (et d c)).trans (Bool.and_true _))))) λ _=>by cases m<;>rfl),?_⟩;show if(decide (d=c) && (bT m).isSome)=true then ∃x,((if d=c then some m else none).bind bT).map PyData.int=some x/\_ else((if d=c then some m else none).bind bT).map PyData.int=none
     rw[dA];by_cases q:d=c
     ·rw[decide_eq_true q,if_pos q];cases m with
      |pay v=>exact⟨.int v,rfl,rfl⟩
      |mark v=>rfl
     ·rw[decide_eq_false q,if_neg q];rfl
    |_=>exact⟨_,false,rfl,rfl,rfl⟩
   ·exact Nat.lt_of_le_of_lt (Nat.le_of_eq (List.length_map _)) (il hy hp (by decide))
   ·refine congrArg (λ l=>[Nd.lst (starts.zipIdx.map λ x=>V.d (iS log nm x)),Nd.lst l]) (gP (f:=λ c=>V.d (dy (au log c nm))) (congrArg V.d ?_));rw[ht,dy,bb,eG,bZ,List.filterMap_filterMap,List.map_filterMap]
 rintro ρ σ ⟨⟨f',rfl⟩,rfl⟩;rw[show(starts.zipIdx.map λ x=>V.d (iS log nm x))=(starts.zipIdx.map (iS log nm)).map V.d from(List.map_map ..).symm,show(ps.map λ c=>V.d (dy (au log c nm)))=(ps.map λ c=>dy (au log c nm)).map V.d from(List.map_map ..).symm];refine Wp.ret (aU (ae rfl (ae (bj (iS log nm) (ys:=starts.zipIdx) (λ x=>eOI (bq log nm x)) (gZ (eI rfl rfl rfl rfl)) rfl λ x hx=>⟨_,rfl,rfl⟩) (ae (bj (iS log nm) (ys:=starts.zipIdx) (λ x=>eON (eC log nm x)) (gZ (cB rfl rfl rfl rfl)) rfl λ x hx=>⟨_,rfl,rfl⟩) (ae (eI (ds:=ps.map λ c=>dy (au log c nm)) rfl rfl rfl rfl) rfl)))) rfl) ⟨_,rfl,?_⟩;show some (V.d (.tuple [_,_,_,_]))=some (V.d (.tuple [.str nm,.list ((starts.zipIdx.map (bq log nm)).map eOI),.list ((starts.zipIdx.map (eC log nm)).map eON),.list ((ps.map λ c=>au log c nm).map dy)]));rw[List.map_map,List.map_map,List.map_map];rfl
end
end snap_run_e
theorem tH(n:Nat)(ps:List Ch)(starts:List Int)(log:List Ent)(nm:Str)(hp:ps.length<=1000)(hs:starts.length<=1000):(prg.run (n+3)).P "_law_snap" [.d (.list (log.map cf)),.d (.tuple (ps.map ax)),.d (bb starts),.d (.str nm)]=some (some (.d (df (bJ ps starts log nm)))):=aw (Q:=λ x:(Nat)×(List Ch)×(List Int)×(List Ent)×(Str)=>snap_run_e.P x.1 x.2.1 x.2.2.1 x.2.2.2.1 x.2.2.2.2) snap_run_e.core (n,ps,starts,log,nm) hp hs
end L3
end Mine.Internal.Q
end
section
namespace Mine.Internal.Q
open PySem Classical Mine.Internal.L3
theorem tF{Φ:Or}{elt:Expr}{g:List Comprehension}{c:Scope}{p:Pos}{ρ:ah}{σ σ1:aa}{ds:List PyData}(h:ev Φ (.ListComp elt g c p) ρ σ=some (.d (.list ds),σ1)):src Φ (.ListComp elt g c p) ρ σ=some (.items (ds.map .d),σ1):=by
 show srcOf (ev Φ (.ListComp elt g c p) ρ σ)=_;rw[h];rfl
theorem AL{α:Type}(f:α->PyData)(l:List α):(l.map λ x=>V.d (f x))=(l.map f).map V.d:=by simp[Function.comp_def]
theorem bP{σ:aa}{i j:Int}{c:Bool}(h:c=decide (i=j)):i3 σ .Eq (.d (.int i)) (.d (.int j))=some c:=by
 rw[h];exact fx (Nat.le_of_ble_eq_true rfl) (b9 i j)
theorem eV{σ:aa}{i j:Str}{c:Bool}(h:c=decide (i=j)):i3 σ .Eq (.d (.str i)) (.d (.str j))=some c:=by
 rw[h];exact fx (Nat.le_of_ble_eq_true rfl) (fZ i j)
namespace L3
noncomputable def xq:Fn:=(prg.fn "_law_state").getD ⟨[],[]⟩
theorem xK:prg.fn "_law_state"=some xq:=rfl
theorem tU(log:List Ent):(names log).length<=log.length:=List.length_filterMap_le _ _
namespace state_run_e
noncomputable section
def P(n:Nat)(ps:List Ch)(starts:List Int)(log:List Ent):Prop:=∀(hp:ps.length<=1000) (hs:starts.length<=1000) (hl:log.length<=50000),(prg.run (n+4)).P "_law_state" [.d (.tuple (ps.map ax)),.d (bb starts),.d (.list (log.map cf))]=some (some (.d (eSt (cu ps starts log))))
def x:(Nat)×(List Ch)×(List Int)×(List Ent):=@Classical.epsilon _ ⟨(default,default,default,default)⟩ λ x=>¬P x.1 x.2.1 x.2.2.1 x.2.2.2
def n:Nat:=x.1
def ps:List Ch:=x.2.1
def starts:List Int:=x.2.2.1
def log:List Ent:=x.2.2.2
theorem core:P n ps starts log:=λ hp hs hl=>by
 refine jf xK rfl ?_;refine Wp.nx (ρ1:=_) rfl ?_;refine Wp.for (cv PyData.int (ys:=starts) rfl) ?_;refine Wp.forL (fun(x:Int×Nat)=>V.d (.tuple [.int x.2,.int x.1])) (λ pre ρ σ=>Ov ["p","start"] _ ρ/\σ=[.lst (pre.map λ x=>V.d (.tuple [.int (bp log x.2 x.1),.int (bA log x.2:Nat)])),.lst [],.lst []]) ⟨Ov.refl,rfl⟩ ?_ ?_
 ·rintro pre y post ρ σ hy ⟨⟨f,rfl⟩,rfl⟩;refine Wp.bind rfl ?_;have hlen:pre.length<LIM:=by
   have:starts.zipIdx.length=starts.length:=by simp
   rw[hy] at this;simp at this;simp only[LIM];exact Nat.lt_of_le_of_lt (Nat.le_add_right _ _) (Nat.lt_of_le_of_lt (Nat.le_of_eq ‹_›) (Nat.lt_of_le_of_lt ‹_› (by decide)))
  refine Wp.expr (bR rfl rfl (aq rfl (aT rfl rfl (iR (n+1) log y.2 y.1))) rfl (by simpa using hlen)) (Wp.nil ⟨by repeat first | exact⟨f,rfl⟩ | refine Ov.upd ?_ rfl,?_⟩);simp only[List.map_append,List.map_cons,List.map_nil];rfl
 rintro ρ σ ⟨⟨f,rfl⟩,rfl⟩;refine Wp.for rfl ?_;refine Wp.ox ax (λ pre ρ σ=>Ov ["pair"] _ ρ/\σ=[.lst (starts.zipIdx.map λ x=>V.d (.tuple [.int (bp log x.2 x.1),.int (bA log x.2:Nat)])),.lst (pre.map λ c=>V.d (eQ (ai log c))),.lst []]) ⟨Ov.refl,rfl⟩ ?_ ?_
 ·rintro pre c post ρ σ hy ⟨⟨f',rfl⟩,rfl⟩;refine Wp.bind rfl ?_;have hlen:pre.length<LIM:=by
   rw[hy] at hp;simp at hp;simp only[LIM];exact Nat.lt_of_le_of_lt (Nat.le_add_right _ _) (Nat.lt_of_le_of_lt ‹_› (by decide))
  refine Wp.expr (bR rfl rfl (aq rfl (aT rfl rfl (lu (n+1) log c))) rfl (by simpa using hlen)) (Wp.nil ⟨by repeat first | exact⟨f',rfl⟩ | refine Ov.upd ?_ rfl,?_⟩);simp only[List.map_append,List.map_cons,List.map_nil];rfl
 rintro ρ σ ⟨⟨f',rfl⟩,rfl⟩;refine Wp.for (tF (b5 cf (λ e=>(n9 e).map .str) rfl rfl ?_)) ?_
 ·rintro(⟨d,m⟩ | ⟨d,m⟩ | ⟨p',n⟩ | ⟨p',n⟩) hy
  ·exact⟨_,false,rfl,rfl,rfl⟩
  ·exact⟨_,false,rfl,rfl,rfl⟩
  ·exact⟨_,false,rfl,rfl,rfl⟩
  ·exact⟨_,true,rfl,rfl,_,rfl,rfl⟩
 rw[lC];refine Wp.ox PyData.str (λ pre ρ σ=>Ov ["name"] _ ρ/\σ=[.lst (starts.zipIdx.map λ x=>V.d (.tuple [.int (bp log x.2 x.1),.int (bA log x.2:Nat)])),.lst (ps.map λ c=>V.d (eQ (ai log c))),.lst (pre.map λ nm=>V.d (df (bJ ps starts log nm)))]) ⟨Ov.refl,rfl⟩ ?_ ?_
 ·rintro pre c post ρ σ hy ⟨⟨f'',rfl⟩,rfl⟩;refine Wp.bind rfl ?_;have hlen:pre.length<LIM:=by
   have:=tU log;rw[hy] at this;simp at this;simp only[LIM];lia
  refine Wp.expr (bR rfl rfl (aq rfl (aT rfl rfl (tH n ps starts log c hp hs))) rfl (by simpa using hlen)) (Wp.nil ⟨by repeat first | exact⟨f'',rfl⟩ | refine Ov.upd ?_ rfl,?_⟩);simp only[List.map_append,List.map_cons,List.map_nil];rfl
 rintro ρ σ ⟨⟨f'',rfl⟩,rfl⟩;have bk:(starts.zipIdx.map λ x=>V.d (.tuple [.int (bp log x.2 x.1),.int (bA log x.2:Nat)]))=(starts.zipIdx.map λ x=>PyData.tuple [.int (bp log x.2 x.1),.int (bA log x.2:Nat)]).map V.d:=AL _ _;rw[bk,AL (λ c=>eQ (ai log c)),AL (λ nm=>df (bJ ps starts log nm))];refine Wp.ret (aU (ae (bj (λ x:Int×Nat=>PyData.tuple [.int (bp log x.2 x.1),.int (bA log x.2:Nat)]) (ys:=starts.zipIdx) (λ x=>.int (bp log x.2 x.1)) (gZ (eI rfl rfl rfl rfl)) rfl λ x hx=>⟨_,rfl,rfl⟩) (ae (eI (ds:=ps.map λ c=>eQ (ai log c)) rfl rfl rfl rfl) (ae (bj (λ x:Int×Nat=>PyData.tuple [.int (bp log x.2 x.1),.int (bA log x.2:Nat)]) (ys:=starts.zipIdx) (λ x=>.int (bA log x.2:Nat)) (gZ (cB rfl rfl rfl rfl)) rfl λ x hx=>⟨_,rfl,rfl⟩) (ae (eI (ds:=(names log).map λ nm=>df (bJ ps starts log nm)) rfl rfl rfl rfl) rfl)))) rfl) ⟨_,rfl,?_⟩;simp only[eSt,cu,bb,bo,List.map_map];rfl
end
end state_run_e
theorem lh(n:Nat)(ps:List Ch)(starts:List Int)(log:List Ent)(hp:ps.length<=1000)(hs:starts.length<=1000)(hl:log.length<=50000):(prg.run (n+4)).P "_law_state" [.d (.tuple (ps.map ax)),.d (bb starts),.d (.list (log.map cf))]=some (some (.d (eSt (cu ps starts log)))):=aw (Q:=λ x:(Nat)×(List Ch)×(List Int)×(List Ent)=>state_run_e.P x.1 x.2.1 x.2.2.1 x.2.2.2) state_run_e.core (n,ps,starts,log) hp hs hl
end L3
end Mine.Internal.Q
end
section
namespace Mine.Internal.Q
open PySem Classical Mine.Internal.L3
theorem zR{Φ:Or}{o e:Expr}{p q:Pos}{ρ:ah}{σ σ1 σ2:aa}{x:PyData}{xs:List PyData}{k:Nat}(h1:ev Φ o ρ σ=some (.d (.list xs),σ1))(h2:ev Φ e ρ σ1=some (.d x,σ2))(h3:Ad x (.list xs)=some k):ev Φ (.Call (.Attribute o "count" p) [e] [] q) ρ σ=some (.d (.int k),σ2):=by
 refine cZ h1 (k:=1) rfl (ae h2 rfl) rfl ?_;show((Ad x (.list xs)).bind λ k=>some (V.d (.int k),σ2))=_;rw[h3];rfl
theorem strs_map(l:List Str):strs? (l.map .str)=some l:=by
 induction l with
 |nil=>rfl
 |cons x r ih=>simp[strs?,ih]
theorem Ov.over{ns ms:List Str}{ρ0 ρ g:ah}(h:Ov ns ρ0 ρ)(hm:(ms.all λ x=>ns.contains x)=true):Ov ns ρ0 (Mine.Internal.Q.over ms g ρ):=by
 obtain⟨f,rfl⟩:=h;refine⟨Mine.Internal.Q.over ms g f,?_⟩;funext y;show(if ms.contains y then g y else if ns.contains y then f y else ρ0 y)=if ns.contains y then(if ms.contains y then g y else f y) else ρ0 y
 by_cases e:ms.contains y=true
 ·have:ns.contains y=true:=List.all_eq_true.1 hm y (by simpa using e);rw[if_pos e,if_pos this,if_pos e]
 ·rw[if_neg e,if_neg e]
namespace L3
noncomputable def isWhole(s:Snap):Bool:=!decide (none∈s.a) && s.t.all λ t=>decide (2<=t.1)
noncomputable def wholeOf(ss:List Snap)(nm:Str):Option Snap:=ss.find? λ s=>decide (s.name=nm) && isWhole s
noncomputable def eW:Option Snap->PyData
 |none=>.none
 |some s=>.tuple [.list (s.a.map eOI),.list (s.c.map eON),.list (s.t.map λ t=>bb t.2)]
theorem ky(k:Nat):(cD k="shut")↔2<=k:=by
 match k with
 |0=>exact⟨λ h=>absurd h (by decide),λ h=>absurd h (by decide)⟩
 |1=>exact⟨λ h=>absurd h (by decide),λ h=>absurd h (by decide)⟩
 |k+2=>exact⟨λ h=>by lia,λ h=>rfl⟩
theorem n4(l:List (Option Int)):kO .none (l.map eOI)=some (decide (none∈l)):=by
 have hE:∀o,eq? (eOI o) .none=some (decide (o=none)):=by
  intro o;cases o<;>rfl
 induction l with
 |nil=>rfl
 |cons o r ih=>
  simp only[List.map_cons,kO,hE,ih,Option.bind_eq_bind,Option.bind_some];congr 1;cases o<;>(first | rfl | simp)
theorem rB(l:List (Nat×List Int)):decide ((((l.map λ t=>cD t.1).count ("shut":Str):Nat):Int)=((l.map λ t=>PyData.str (cD t.1)).length:Nat))=l.all λ t=>decide (2<=t.1):=by
 rw[List.length_map,Bool.eq_iff_iff,decide_eq_true_eq,List.all_eq_true,Int.ofNat_inj];have e:l.length=(l.map λ t=>cD t.1).length:=by simp
 rw[e,List.count_eq_length];constructor
 ·intro h t ht;have:=h (cD t.1) (List.mem_map_of_mem ht);exact decide_eq_true ((ky t.1).1 this.symm)
 ·intro h b hb;obtain⟨t,ht,rfl⟩:=List.mem_map.1 hb;exact((ky t.1).2 (of_decide_eq_true (h t ht))).symm
noncomputable def uw:Fn:=(prg.fn "_law_whole").getD ⟨[],[]⟩
theorem uB:prg.fn "_law_whole"=some uw:=rfl
namespace lwhole_run_e
noncomputable section
def P(n:Nat)(ss:List Snap)(nm:Str):Prop:=(prg.run (n+2)).P "_law_whole" [.d (.list (ss.map df)),.d (.str nm)]=some (some (.d (eW (wholeOf ss nm))))
def x:(Nat)×(List Snap)×(Str):=@Classical.epsilon _ ⟨(default,default,default)⟩ λ x=>¬P x.1 x.2.1 x.2.2
def n:Nat:=x.1
def ss:List Snap:=x.2.1
def nm:Str:=x.2.2
theorem core:P n ss nm:=by
 refine jf uB rfl ?_;refine Wp.for rfl ?_;refine Wp.ox df (λ pre ρ σ=>Ov ["known","saved","cut","tapes","modes"] _ ρ/\σ=[]/\∀s∈pre,(decide (s.name=nm) && isWhole s)=false) ⟨Ov.refl,rfl,by simp⟩ ?_ ?_
 ·rintro pre s post ρ σ hy ⟨⟨f,rfl⟩,rfl,hp⟩;refine Wp.bind rfl ?_;refine Wp.asg (bj dy (ys:=s.t) (λ t=>.str (cD t.1)) rfl rfl λ x hx=>⟨_,rfl,rfl⟩) ?_;refine Wp.ifc (c:=decide (s.name=nm) && (!decide (none∈s.a) && ((s.t.all λ t=>decide (2<=t.1)) && true))) (bU (af (ao rfl rfl (eV rfl))) λ _=>a8 (af (ao rfl rfl (dz rfl (n4 s.a)))) λ _=>a8 (af (ao (zR rfl rfl (k:=(s.t.map λ t=>cD t.1).count ("shut":Str)) ?_) rfl (bP (rB s.t).symm))) λ _=>rfl) ?_ ?_
  ·show(strs? (s.t.map λ t=>PyData.str (cD t.1))).map _=_;rw[show(s.t.map λ t=>PyData.str (cD t.1))=(s.t.map λ t=>cD t.1).map PyData.str by simp[Function.comp_def],strs_map];rfl
  ·intro q;refine Wp.ret (aU (ae rfl (ae rfl (ae (bj dy (ys:=s.t) (λ t=>bb t.2) rfl rfl λ x hx=>⟨_,rfl,rfl⟩) rfl))) rfl) ⟨_,rfl,?_⟩;have h1:wholeOf ss nm=some s:=by
    have h2:(decide (s.name=nm) && isWhole s)=true:=by simpa[isWhole] using q
    rw[wholeOf,hy,List.find?_append];have:pre.find? (λ s=>decide (s.name=nm) && isWhole s)=none:=by
     rw[List.find?_eq_none];intro t ht;simp only[hp t ht];simp
    rw[this,List.find?_cons,h2];rfl
   rw[h1];rfl
  ·intro q;refine Wp.fin (Wp.nil ⟨by repeat first | exact⟨f,rfl⟩ | refine Ov.upd ?_ rfl,rfl,?_⟩);intro t ht;rcases List.mem_append.1 ht with h | h
   ·exact hp t h
   ·obtain rfl:t=s:=by simpa using h
    simpa[isWhole] using q
 ·rintro ρ σ ⟨⟨f,rfl⟩,rfl,hp⟩;refine Wp.ret rfl ⟨_,rfl,?_⟩;have:wholeOf ss nm=none:=by
   rw[wholeOf,List.find?_eq_none];intro t ht;simp only[hp t ht];simp
  rw[this];rfl
end
end lwhole_run_e
theorem ju(n:Nat)(ss:List Snap)(nm:Str):(prg.run (n+2)).P "_law_whole" [.d (.list (ss.map df)),.d (.str nm)]=some (some (.d (eW (wholeOf ss nm)))):=aw (Q:=λ x:(Nat)×(List Snap)×(Str)=>lwhole_run_e.P x.1 x.2.1 x.2.2) lwhole_run_e.core (n,ss,nm)
noncomputable def xp:Fn:=(prg.fn "whole").getD ⟨[],[]⟩
theorem xJ:prg.fn "whole"=some xp:=rfl
namespace whole_run_e
noncomputable section
def P(n:Nat)(nm:Str):Prop:=∀(S:St),(prg.run (n+2)).P "whole" [.d (eSt S),.d (.str nm)]=some (some (.d (eW (wholeOf S.s nm))))
def x:(Nat)×(Str):=@Classical.epsilon _ ⟨(default,default)⟩ λ x=>¬P x.1 x.2
def n:Nat:=x.1
def nm:Str:=x.2
theorem core:P n nm:=λ S=>by
 refine jf xJ rfl ?_;refine Wp.for rfl ?_;refine Wp.ox df (λ pre ρ σ=>Ov ["n","a","c","t","ok","m","l"] _ ρ/\σ=[]/\∀s∈pre,(decide (s.name=nm) && isWhole s)=false) ⟨Ov.refl,rfl,by simp⟩ ?_ ?_
 ·rintro pre s post ρ σ hy ⟨⟨f,rfl⟩,rfl,hp⟩;have goon:(decide (s.name=nm) && isWhole s)=false->∀t∈pre++[s],(decide (t.name=nm) && isWhole t)=false:=by
   intro q t ht;rcases List.mem_append.1 ht with h | h
   ·exact hp t h
   ·obtain rfl:t=s:=by simpa using h
    exact q
  refine Wp.bind rfl ?_;refine Wp.ifc (c:=!decide (s.name=nm)) (cO (af (ao rfl rfl (eV rfl)))) ?_ ?_
  ·intro q;refine⟨.ct,_,_,rfl,⟨by repeat first | exact⟨f,rfl⟩ | refine Ov.upd ?_ rfl,rfl,goon ?_⟩⟩;simp at q;simp[q]
  intro q;have hn:s.name=nm:=by simpa using q
  refine Wp.fin (Wp.ifc (c:=decide (none∈s.a)) (af (ao rfl rfl (eJ rfl (n4 s.a)))) ?_ ?_)
  ·intro q;refine⟨.ct,_,_,rfl,⟨by repeat first | exact⟨f,rfl⟩ | refine Ov.upd ?_ rfl,rfl,goon ?_⟩⟩;have:none∈s.a:=by simpa using q
   simp[isWhole,this]
  intro q;have ha:none∉s.a:=by simpa using q
  refine Wp.fin (Wp.asg rfl ?_);refine Wp.for rfl ?_;refine Wp.ox dy (ys:=s.t) (λ pre ρ σ=>Ov ["m","l"] _ ρ/\σ=[]/\∀t∈pre,2<=t.1) ⟨Ov.refl,rfl,by simp⟩ ?_ ?_
  ·rintro pre' t post' ρ σ hy' ⟨⟨g,rfl⟩,rfl,hp'⟩;refine Wp.bind rfl ?_;refine Wp.ifc (c:=!decide (cD t.1="shut")) (cO (af (ao rfl rfl (eV rfl)))) ?_ ?_
   ·intro q;refine Wp.asg rfl ⟨.br,_,_,rfl,?_⟩;refine Wp.ifF rfl (Wp.fin (Wp.nil ⟨?_,rfl,goon ?_⟩))
    ·repeat first | exact⟨f,rfl⟩ | refine Ov.upd ?_ rfl | refine Ov.over ?_ rfl
    ·have h2:¬2<=t.1:=by
      intro h;rw[(ky t.1).2 h] at q;simp at q
     have:(s.t.all λ t=>decide (2<=t.1))=false:=by
      rw[List.all_eq_false];exact⟨t,by rw[hy'];simp,by simpa using h2⟩
     simp[isWhole,this]
   ·intro q;refine Wp.fin (Wp.nil ⟨by repeat first | exact⟨g,rfl⟩ | refine Ov.upd ?_ rfl,rfl,?_⟩);intro t' ht';rcases List.mem_append.1 ht' with h | h
    ·exact hp' t' h
    ·obtain rfl:t'=t:=by simpa using h
     have:cD t'.1="shut":=by simpa using q
     exact(ky t'.1).1 this
  ·rintro ρ σ ⟨⟨g,rfl⟩,rfl,hp'⟩;refine Wp.ifT rfl ?_;refine Wp.ret (aU (ae rfl (ae rfl (ae (bj dy (ys:=s.t) (λ t=>bb t.2) rfl rfl λ x hx=>⟨_,rfl,rfl⟩) rfl))) rfl) ⟨_,rfl,?_⟩;have h1:wholeOf S.s nm=some s:=by
    have h2:(decide (s.name=nm) && isWhole s)=true:=by
     simp only[isWhole,hn,decide_true,Bool.true_and,Bool.and_eq_true,List.all_eq_true];exact⟨by simpa using ha,λ t ht=>decide_eq_true (hp' t ht)⟩
    rw[wholeOf,hy,List.find?_append];have:pre.find? (λ s=>decide (s.name=nm) && isWhole s)=none:=by
     rw[List.find?_eq_none];intro t ht;simp only[hp t ht];simp
    rw[this,List.find?_cons,h2];rfl
   rw[h1];rfl
 ·rintro ρ σ ⟨⟨f,rfl⟩,rfl,hp⟩;refine Wp.ret rfl ⟨_,rfl,?_⟩;have:wholeOf S.s nm=none:=by
   rw[wholeOf,List.find?_eq_none];intro t ht;simp only[hp t ht];simp
  rw[this];rfl
end
end whole_run_e
theorem whole_run(n:Nat)(S:St)(nm:Str):(prg.run (n+2)).P "whole" [.d (eSt S),.d (.str nm)]=some (some (.d (eW (wholeOf S.s nm)))):=aw (Q:=λ x:(Nat)×(Str)=>whole_run_e.P x.1 x.2) whole_run_e.core (n,nm) S
end L3
end Mine.Internal.Q
end
section
namespace Mine.Internal.Q
open PySem Classical Mine.Internal.L3
theorem dP{i j:Int}{σ:aa}(h:j≠0):sS false .Mod (.d (.int i)) (.d (.int j)) σ=some (.d (.int (i.fmod j)),σ):=by
 show((if j=0 then none else some (PyData.int (i.fmod j))).bind λ r=>some (V.d r,σ))=_;rw[if_neg h];rfl
theorem eg(i:Int)(n:Nat)(h:0<n):∃k:Nat,k<n/\i.fmod n=k:=by
 have h1:=Int.fmod_nonneg_of_pos i (b:=n) (by exact Int.ofNat_lt.mpr ‹_›);have h2:=Int.fmod_lt_of_pos i (b:=n) (by exact Int.ofNat_lt.mpr ‹_›);exact⟨(i.fmod n).toNat,(Int.toNat_lt h1).mpr h2,(Int.toNat_of_nonneg h1).symm⟩
theorem item_tup{xs:List PyData}{k:Nat}(h:k<xs.length):fi (.tuple xs) (k:Int)=some xs[k]:=by
 show(seqIndex? k xs.length).bind (λ j=>xs[j]?)=_;rw[fN h];exact List.getElem?_eq_getElem h
theorem oB{α:Type}{Φ:Or}{elt t it:Expr}{ifs:List Expr}{c:Scope}{p:Pos}{ρ:ah}{σ σ1:aa}{ys:List α}(f:α->PyData)(b:α->Bool)(g:α->PyData)
  (h1:drw Φ it ρ σ (ev Φ it ρ σ)=some ((ys.map f).map .d,σ1)) (ho:Φ.own p=false)
  (H:∀y,y∈ys->∃ρ',aQ t (.d (f y)) ρ=some ρ'/\i6 Φ ifs ρ' σ1=some (b y,σ1)/\(b y=true->ev Φ elt ρ' σ1=some (.d (g y),σ1))) :
  ev Φ (.ListComp elt [⟨t,it,ifs,0⟩] c p) ρ σ=some (.d (.list ((ys.filter b).map g)),σ1):=by
 have:=b5 (elt:=elt) (t:=t) (ifs:=ifs) (c:=c) f (λ y=>if b y then some (g y) else none) h1 ho λ y hy=>by
  refine bC λ k9=>?_;obtain⟨ρ',h2,h3,h4⟩:=H y hy;refine k9 ?_;refine⟨ρ',b y,h2,h3,fW (λ q=>⟨g y,by exact if_pos ‹_›,h4 q⟩) (λ q=>by simp[q])⟩
 rw[this];congr 4;clear this H h1
 induction ys with
 |nil=>rfl
 |cons y r ih=>cases h:b y<;>simp[List.filterMap_cons,List.filter_cons,h,ih]
theorem oA{α β:Type}{Φ:Or}{elt t it:Expr}{ifs:List Expr}{c:Scope}{p:Pos}{ρ:ah}{σ σ1:aa}{ys:List α}(f:α->PyData)(g:α->Option β)(e:β->PyData)
  (h1:drw Φ it ρ σ (ev Φ it ρ σ)=some ((ys.map f).map .d,σ1)) (ho:Φ.own p=false)
  (H:∀y,y∈ys->∃ρ' b,aQ t (.d (f y)) ρ=some ρ'/\i6 Φ ifs ρ' σ1=some (b,σ1)/\(if b then ∃d,g y=some d/\ev Φ elt ρ' σ1=some (.d (e d),σ1) else g y=none)) :
  ev Φ (.ListComp elt [⟨t,it,ifs,0⟩] c p) ρ σ=some (.d (.list ((ys.filterMap g).map e)),σ1):=by
 have:=b5 (elt:=elt) (t:=t) (ifs:=ifs) (c:=c) f (λ y=>(g y).map e) h1 ho λ y hy=>by
  refine bC λ k9=>?_;obtain⟨ρ',b,h2,h3,h4⟩:=H y hy;refine k9 ?_;refine⟨ρ',b,h2,h3,?_⟩;cases b with
  |true=>
   obtain⟨d,h5,h6⟩:=h4;exact⟨e d,by simp[h5],h6⟩
  |false=>
   have h5:g y=none:=h4;show Option.map e (g y)=none;simp[h5]
 rw[this,<-List.map_filterMap]
theorem kB{a b:Nat}{D:Decidable (a=b)}:@decide (a=b) D=decide ((a:Int)=b):=decide_eq_decide.2 Int.ofNat_inj.symm
theorem xH(a b:Nat){D:Decidable (a=b)}:PyData.eqv (.int a) (.int b)=@decide (a=b) D:=(b9 ..).trans kB.symm
theorem aB{a b:Nat}{D:Decidable (a=b)}:(true && (PyData.eqv (.int a) (.int b) && true))=@decide (a=b) D:=(Bool.and_true _).trans (xH ..)
theorem AK{x a b:PyData}{p q:Bool}(ha:min a.depth x.depth<=64)(hb:min b.depth x.depth<=64)(h1:PyData.eqv a x=p)(h2:PyData.eqv b x=q):kO x [a,b]=some (p || (q || false)):=by
 rw[kO,kO,kO,lW ha,lW hb,h1,h2];rfl
namespace L3
noncomputable def d5(size:Nat)(places:List Ch):Evt->Prop
 |.snap p n=>p<size/\(n="red"\/n="blue")
 |.recv c=>c∈places
 |.send c _=>c∈places
noncomputable def xw:Fn:=(prg.fn "_law_event").getD ⟨[],[]⟩
theorem iI:prg.fn "_law_event"=some xw:=rfl
namespace event_run_e
noncomputable section
def P(n:Nat)(size:Nat)(places:List Ch)(a:Int)(b:Int):Prop:=∀(hs:0<size) (hp:0<places.length),∃e,d5 size places e/\(prg.run (n+2)).P "_law_event" [.d (.int size),.d (.tuple (places.map ax)),.d (.int a),.d (.int b)]=some (some (.d (eB e)))
def x:(Nat)×(Nat)×(List Ch)×(Int)×(Int):=@Classical.epsilon _ ⟨(default,default,default,default,default)⟩ λ x=>¬P x.1 x.2.1 x.2.2.1 x.2.2.2.1 x.2.2.2.2
def n:Nat:=x.1
def size:Nat:=x.2.1
def places:List Ch:=x.2.2.1
def a:Int:=x.2.2.2.1
def b:Int:=x.2.2.2.2
theorem core:P n size places a b:=λ hs hp=>by
 refine bC λ k9=>?_;obtain⟨p,hp1,hp2⟩:=eg b size hs;obtain⟨k,hk1,hk2⟩:=eg b places.length hp;refine k9 ?_;by_cases h10:a.fmod 12=10
 ·refine⟨.snap p "red",⟨hp1,.inl rfl⟩,jf iI rfl ?_⟩;refine Wp.asg rfl ?_;refine Wp.ifT (af (ao rfl rfl (bP (by simpa using h10)))) ?_;refine Wp.ret (aU (ae rfl (ae (aK rfl rfl (dP (by exact Int.ofNat_ne_zero.2 (Nat.ne_of_gt ‹_›)))) rfl)) rfl) ⟨_,rfl,?_⟩;rw[hp2];rfl
 by_cases h11:a.fmod 12=11
 ·refine⟨.snap p "blue",⟨hp1,.inr rfl⟩,jf iI rfl ?_⟩;refine Wp.asg rfl ?_;refine Wp.ifF (af (ao rfl rfl (bP (by simpa using h10)))) (Wp.fin ?_);refine Wp.ifT (af (ao rfl rfl (bP (by simpa using h11)))) ?_;refine Wp.ret (aU (ae rfl (ae (aK rfl rfl (dP (by exact Int.ofNat_ne_zero.2 (Nat.ne_of_gt ‹_›)))) rfl)) rfl) ⟨_,rfl,?_⟩;rw[hp2];rfl
 have pl:∀(σ:aa),gF σ (.d (.tuple (places.map ax))) (.d (.int (b.fmod ((places.map ax).length:Nat))))=some (.d (ax places[k])):=by
  intro σ;show(fi (.tuple (places.map ax)) (b.fmod ((places.map ax).length:Nat))).map V.d=_;rw[List.length_map,hk2,item_tup (by simpa using hk1)];simp
 by_cases h5:5<a.fmod 12
 ·refine⟨.recv places[k],List.getElem_mem _,jf iI rfl ?_⟩;refine Wp.asg rfl ?_;refine Wp.ifF (af (ao rfl rfl (bP (by simpa using h10)))) (Wp.fin ?_);refine Wp.ifF (af (ao rfl rfl (bP (by simpa using h11)))) (Wp.fin ?_);refine Wp.unp rfl (aj rfl rfl (aK rfl rfl (dP (by rw[List.length_map];exact Int.ofNat_ne_zero.2 (Nat.ne_of_gt ‹_›)))) (pl _)) rfl rfl ?_;refine Wp.ifT (af (ao rfl rfl (show _=some true from ?_))) ?_
  ·show some (decide ((5:Int)<a.fmod 12))=_;simp[h5]
  exact Wp.ret rfl ⟨_,rfl,rfl⟩
 by_cases h0:a.fmod 12=0
 ·refine⟨.send places[k] b.natAbs,List.getElem_mem _,jf iI rfl ?_⟩;refine Wp.asg rfl ?_;refine Wp.ifF (af (ao rfl rfl (bP (by simpa using h10)))) (Wp.fin ?_);refine Wp.ifF (af (ao rfl rfl (bP (by simpa using h11)))) (Wp.fin ?_);refine Wp.unp rfl (aj rfl rfl (aK rfl rfl (dP (by rw[List.length_map];exact Int.ofNat_ne_zero.2 (Nat.ne_of_gt ‹_›)))) (pl _)) rfl rfl ?_;refine Wp.ifF (af (ao rfl rfl (show _=some false from ?_))) (Wp.fin ?_)
  ·show some (decide ((5:Int)<a.fmod 12))=_;simp[h5]
  refine Wp.ifT (af (ao rfl rfl (bP (by simpa using h0)))) ?_;exact Wp.ret rfl ⟨_,rfl,rfl⟩
 ·refine⟨.send places[k] (b.fmod 7),List.getElem_mem _,jf iI rfl ?_⟩;refine Wp.asg rfl ?_;refine Wp.ifF (af (ao rfl rfl (bP (by simpa using h10)))) (Wp.fin ?_);refine Wp.ifF (af (ao rfl rfl (bP (by simpa using h11)))) (Wp.fin ?_);refine Wp.unp rfl (aj rfl rfl (aK rfl rfl (dP (by rw[List.length_map];exact Int.ofNat_ne_zero.2 (Nat.ne_of_gt ‹_›)))) (pl _)) rfl rfl ?_;refine Wp.ifF (af (ao rfl rfl (show _=some false from ?_))) (Wp.fin ?_)
  ·show some (decide ((5:Int)<a.fmod 12))=_;simp[h5]
  refine Wp.ifF (af (ao rfl rfl (bP (by simpa using h0)))) (Wp.fin ?_);exact Wp.ret rfl ⟨_,rfl,rfl⟩
end
end event_run_e
theorem r9(n:Nat)(size:Nat)(places:List Ch)(a b:Int)(hs:0<size)(hp:0<places.length):∃e,d5 size places e/\(prg.run (n+2)).P "_law_event" [.d (.int size),.d (.tuple (places.map ax)),.d (.int a),.d (.int b)]=some (some (.d (eB e))):=aw (Q:=λ x:(Nat)×(Nat)×(List Ch)×(Int)×(Int)=>event_run_e.P x.1 x.2.1 x.2.2.1 x.2.2.2.1 x.2.2.2.2) event_run_e.core (n,size,places,a,b) hs hp
noncomputable abbrev HEv:=Ch×Option Int
noncomputable def eH:HEv->PyData
 |(c,some v)=>eB (.send c v)
 |(c,none)=>eB (.recv c)
noncomputable def aC(x:HEv):Nat:=match x.2 with
 |some _=>x.1.1
 |none=>x.1.2
noncomputable def iZ(h:List HEv)(p k:Nat):List HEv:=(h.filter λ x=>decide (aC x=p)).take k
noncomputable def fk(q:Nat)(x:HEv):Option Int:=if x.1.2=q then x.2 else none
noncomputable def dU(p:Nat)(x:HEv):Option Ch:=if x.2=none/\x.1.1=p then some x.1 else none
noncomputable def bQ(h:List HEv)(cut:List Nat)(c:Ch):List Int:=(iZ h c.1 (cut.getD c.1 0)).filterMap (fk c.2)
noncomputable def bg(h:List HEv)(cut:List Nat)(c:Ch):List Ch:=(iZ h c.2 (cut.getD c.2 0)).filterMap (dU c.1)
noncomputable def dF(ps:List Ch)(h:List HEv)(cut:List Nat):Option Ch:=ps.find? λ c=>decide ((bQ h cut c).length<(bg h cut c).length)
noncomputable def lT(ps:List Ch)(h:List HEv)(cut:List Nat):List (List Int):=ps.map λ c=>(bQ h cut c).drop (bg h cut c).length
noncomputable def m4(ps:List Ch)(h:List HEv)(cut:List Nat):PyData:=match dF ps h cut with
 |some c=>.tuple [.int c.2,.list []]
 |none=>.tuple [.none,.list ((lT ps h cut).map bb)]
noncomputable def zK:Fn:=(prg.fn "_law_flow").getD ⟨[],[]⟩
theorem z5:prg.fn "_law_flow"=some zK:=rfl
theorem n8{cut:List Nat}{k:Nat}(hk:k<cut.length)(σ:aa):gF σ (.d (bo cut)) (.d (.int k))=some (.d (.int (cut.getD k 0:Nat))):=by
 show(fi (.list (cut.map fun(n:Nat)=>PyData.int n)) (k:Int)).map V.d=_;rw[item_list (Nat.lt_of_lt_of_eq hk (List.length_map _).symm),List.getElem_map,List.getD_eq_getElem?_getD,List.getElem?_eq_getElem hk];rfl
theorem nC(l:List HEv)(k:Nat):slice? (.list (l.map eH)) none (some (k:Int))=some (.list ((l.take k).map eH)):=by
 show some (PyData.list (cutAt none (some (k:Int)) (l.map eH)))=_;rw[ft,<-List.map_take]
namespace flow_run_e
noncomputable section
def P(n:Nat)(ps:List Ch)(h:List HEv)(cut:List Nat):Prop:=∀(hp:ps.length<=1000) (hc:∀c∈ps,c.1<cut.length/\c.2<cut.length),(prg.run (n+2)).P "_law_flow" [.d (.tuple (ps.map ax)),.d (.list (h.map eH)),.d (bo cut)]=some (some (.d (m4 ps h cut)))
def x:(Nat)×(List Ch)×(List HEv)×(List Nat):=@Classical.epsilon _ ⟨(default,default,default,default)⟩ λ x=>¬P x.1 x.2.1 x.2.2.1 x.2.2.2
def n:Nat:=x.1
def ps:List Ch:=x.2.1
def h:List HEv:=x.2.2.1
def cut:List Nat:=x.2.2.2
theorem core:P n ps h cut:=λ hp hc=>by
 refine jf z5 rfl (Wp.asg rfl (Wp.for rfl (Wp.ox ax (λ pre ρ σ=>Ov ["one","other","mine","yours","sent","taken"] _ ρ/\σ=[.lst (pre.map λ c=>V.d (bb ((bQ h cut c).drop (bg h cut c).length)))]/\∀c∈pre,¬(bQ h cut c).length<(bg h cut c).length) ⟨Ov.refl,rfl,λ c hc=>absurd hc List.not_mem_nil⟩ ?_ ?_)))
 ·rintro pre c post ρ σ hy ⟨⟨f,rfl⟩,rfl,hp'⟩;have hcc:=hc c (hy▸List.mem_append_right _ List.mem_cons_self);refine Wp.bind rfl (Wp.asg (v:=.d (.list ((iZ h c.1 (cut.getD c.1 0)).map eH))) (dX (oB eH (λ x=>decide (aC x=c.1)) eH rfl rfl ?_) rfl (cJ (aj rfl rfl rfl (n8 hcc.1 _))) (nC _ _)) ?_)
  ·rintro⟨d,_ | v⟩ hx
   ·refine⟨_,rfl,bL (af (ao rfl rfl (eJ rfl ((AK (p:=false) (Nat.le_of_ble_eq_true rfl) (Nat.le_of_ble_eq_true rfl) rfl ?_).trans (congrArg some (Bool.or_false _)))))),λ _=>rfl⟩;exact aB
   ·refine⟨_,rfl,bL (af (ao rfl rfl (eJ rfl ((AK (q:=false) (Nat.le_of_ble_eq_true rfl) (Nat.le_of_ble_eq_true rfl) ?_ rfl).trans (congrArg some (Bool.or_false _)))))),λ _=>rfl⟩;exact aB
  refine Wp.asg (v:=.d (.list ((iZ h c.2 (cut.getD c.2 0)).map eH))) (dX (oB eH (λ x=>decide (aC x=c.2)) eH rfl rfl ?_) rfl (cJ (aj rfl rfl rfl (n8 hcc.2 _))) (nC _ _)) ?_
  ·rintro⟨d,_ | v⟩ hx
   ·refine⟨_,rfl,bL (af (ao rfl rfl (eJ rfl ((AK (p:=false) (Nat.le_of_ble_eq_true rfl) (Nat.le_of_ble_eq_true rfl) rfl ?_).trans (congrArg some (Bool.or_false _)))))),λ _=>rfl⟩;exact aB
   ·refine⟨_,rfl,bL (af (ao rfl rfl (eJ rfl ((AK (q:=false) (Nat.le_of_ble_eq_true rfl) (Nat.le_of_ble_eq_true rfl) ?_ rfl).trans (congrArg some (Bool.or_false _)))))),λ _=>rfl⟩;exact aB
  refine Wp.asg (v:=.d (bb (bQ h cut c))) (oA eH (ys:=iZ h c.1 (cut.getD c.1 0)) (fk c.2) .int rfl rfl ?_) ?_
  ·rintro⟨d,_ | v⟩ hx
   ·exact⟨_,false,rfl,rfl,ite_self none⟩
   ·refine⟨_,true && (decide (d.2=c.2) && true),rfl,bL (bU rfl λ _=>a8 (af (ao rfl rfl (bP kB))) λ _=>rfl),?_⟩;by_cases q:d.2=c.2
    ·rw[decide_eq_true q];exact⟨v,if_pos q,rfl⟩
    ·rw[decide_eq_false q];exact if_neg q
  refine Wp.asg (v:=.d (.list ((bg h cut c).map λ d=>eH (d,none)))) (oA eH (ys:=iZ h c.2 (cut.getD c.2 0)) (dU c.1) (λ d=>eH (d,none)) rfl rfl ?_) ?_
  ·rintro⟨d,_ | v⟩ hx
   ·refine⟨_,decide (d.1=c.1),rfl,bL (af (ao rfl rfl (fx (Nat.le_of_ble_eq_true rfl) aB))),?_⟩;by_cases q:d.1=c.1
    ·rw[decide_eq_true q];exact⟨d,if_pos ⟨rfl,q⟩,rfl⟩
    ·rw[decide_eq_false q];exact if_neg λ z=>q z.2
   ·exact⟨_,false,rfl,rfl,if_neg λ z=>Option.some_ne_none _ z.1⟩
  refine Wp.ifD (P:=(bQ h cut c).length<(bg h cut c).length) (af (ao rfl rfl ?_)) (λ q=>Wp.ret rfl ⟨_,rfl,?_⟩) λ q=>Wp.fin (Wp.expr (bR rfl rfl (dX rfl rfl rfl rfl) rfl (Nat.lt_of_le_of_lt (Nat.le_of_eq (List.length_map _)) (il hy hp (by decide)))) (Wp.nil ⟨by repeat first | exact⟨f,rfl⟩ | refine Ov.upd ?_ rfl,?_,λ t ht=>(List.mem_append.1 ht).elim (hp' t) λ z=>List.mem_singleton.1 z▸q⟩))
  ·show some (decide ((((bQ h cut c).map PyData.int).length:Int)<(((bg h cut c).map λ d=>eH (d,none)).length:Int)))=_;rw[List.length_map,List.length_map];exact congrArg some (decide_eq_decide.2 Int.ofNat_lt)
  ·have hb:dF ps h cut=some c:=by
    rw[dF,hy,List.find?_append,List.find?_eq_none.2 λ t ht z=>hp' t ht (of_decide_eq_true z),List.find?_cons,decide_eq_true q];rfl
   rw[m4,hb];rfl
  ·refine congrArg (λ l=>[Nd.lst l]) (gP (f:=λ c=>V.d (bb ((bQ h cut c).drop (bg h cut c).length))) ?_);show V.d (PyData.list (cutAt (some ((((bg h cut c).map λ d=>eH (d,none)).length:Nat):Int)) none ((bQ h cut c).map PyData.int)))=_;rw[g0,List.length_map,<-List.map_drop];rfl
 ·rintro ρ σ ⟨⟨f,rfl⟩,rfl,hp'⟩;rw[AL (λ c=>bb ((bQ h cut c).drop (bg h cut c).length))];refine Wp.ret (aU (ae rfl (ae (eI rfl rfl rfl rfl) rfl)) rfl) ⟨_,rfl,?_⟩;have hb:dF ps h cut=none:=List.find?_eq_none.2 λ c hc z=>hp' c hc (of_decide_eq_true z);have e:m4 ps h cut=.tuple [.none,.list ((lT ps h cut).map bb)]:=by rw[m4,hb]
  rw[e,show(lT ps h cut).map bb=ps.map λ c=>bb ((bQ h cut c).drop (bg h cut c).length) from List.map_map ..];rfl
end
end flow_run_e
theorem oy(n:Nat)(ps:List Ch)(h:List HEv)(cut:List Nat)(hp:ps.length<=1000)(hc:∀c∈ps,c.1<cut.length/\c.2<cut.length):(prg.run (n+2)).P "_law_flow" [.d (.tuple (ps.map ax)),.d (.list (h.map eH)),.d (bo cut)]=some (some (.d (m4 ps h cut))):=aw (Q:=λ x:(Nat)×(List Ch)×(List HEv)×(List Nat)=>flow_run_e.P x.1 x.2.1 x.2.2.1 x.2.2.2) flow_run_e.core (n,ps,h,cut) hp hc
end L3
end Mine.Internal.Q
end
section
namespace Mine.Internal.Q
open PySem Classical Mine.Internal.L3
namespace L3
set_option genInjectivity false in
structure SnA where
 name:Str
 a:Nat->Option Int
 c:Nat->Option Nat
 t:Nat->Nat×List Int
set_option genInjectivity false in
structure A where
 b:Nat->Int
 q:Nat->List Msg
 c:Nat->Nat
 s:List SnA
set_option genCtorIdx false in
set_option genInjectivity false in
inductive Key where
 |me | b
 |q (j:Nat)
 |Q | c | S
 |t (i j:Nat)
 |m (i j:Nat)
 |T (i:Nat)
 |a (i:Nat)
 |d (i:Nat)
 |s (i:Nat)
noncomputable def ad(k:Nat):Key->Nat
 |.me=>0
 |.b=>1
 |.q j=>2+j
 |.Q=>2+k
 |.c=>3+k
 |.S=>4+k
 |.t i j=>5+k+i*(2*k+4)+j*2
 |.m i j=>5+k+i*(2*k+4)+(j*2+1)
 |.T i=>5+k+i*(2*k+4)+2*k
 |.a i=>5+k+i*(2*k+4)+(2*k+1)
 |.d i=>5+k+i*(2*k+4)+(2*k+2)
 |.s i=>5+k+i*(2*k+4)+(2*k+3)
noncomputable def kOk(k ns:Nat):Key->Prop
 |.q j=>j<k
 |.t i j=>i<ns/\j<k
 |.m i j=>i<ns/\j<k
 |.T i=>i<ns
 |.a i=>i<ns
 |.d i=>i<ns
 |.s i=>i<ns
 |_=>True
noncomputable def Cc(k n:Nat):Key:=if n=0 then .me else if n=1 then .b else if n<2+k then .q (n-2) else if n=2+k then .Q else if n=3+k then .c else .S
noncomputable def Cd(k i r:Nat):Key:=if r<2*k then(if r % 2=0 then .t i (r / 2) else .m i (r / 2)) else if r=2*k then .T i else if r=2*k+1 then .a i else if r=2*k+2 then .d i else .s i
noncomputable def dec(k n:Nat):Key:=if n<5+k then Cc k n else Cd k ((n-(5+k)) / (2*k+4)) ((n-(5+k)) % (2*k+4))
theorem pS{k i r:Nat}(h:r<2*k+4):dec k (5+k+i*(2*k+4)+r)=Cd k i r:=by
 unfold dec;rw[if_neg (Nat.not_lt.mpr (Nat.le_trans (Nat.le_add_right _ _) (Nat.le_add_right _ r))),Nat.add_assoc (5+k),Nat.add_sub_cancel_left,Nat.add_comm (i*_) r,Nat.add_mul_div_right _ _ (Nat.succ_pos _),Nat.div_eq_of_lt h,Nat.zero_add,
  Nat.add_mul_mod_self_right,Nat.mod_eq_of_lt h]
theorem pR{k n:Nat}(h:n<5+k):dec k n=Cc k n:=if_pos h
theorem C8{k j:Nat}(h:j<k):2+j<5+k/\2+j≠0/\2+j≠1/\2+j<2+k:=
 ⟨Nat.add_lt_add (by decide) h,Nat.ne_of_gt (Nat.lt_of_lt_of_le (by decide) (Nat.le_add_right 2 j)),Nat.ne_of_gt (Nat.lt_of_lt_of_le (by decide) (Nat.le_add_right 2 j)),Nat.add_lt_add_left h 2⟩
theorem C9(k:Nat):(2+k<5+k/\3+k<5+k/\4+k<5+k)/\(2+k≠0/\3+k≠0/\4+k≠0)/\(2+k≠1/\3+k≠1/\4+k≠1)/\(¬3+k<2+k/\¬4+k<2+k)/\3+k≠2+k/\4+k≠2+k/\4+k≠3+k:=by
 have a:∀{m n:Nat},m<n->m+k<n+k:=λ h=>Nat.add_lt_add_right h k;have z:∀{m n:Nat},n<m->m+k≠n:=λ h=>Nat.ne_of_gt (Nat.lt_of_lt_of_le h (Nat.le_add_right _ k));exact⟨⟨a (by decide),a (by decide),a (by decide)⟩,⟨z (by decide),z (by decide),z (by decide)⟩,⟨z (by decide),z (by decide),z (by decide)⟩,⟨Nat.lt_asymm (a (by decide)),Nat.lt_asymm (a (by decide))⟩,Nat.ne_of_gt (a (by decide)),Nat.ne_of_gt (a (by decide)),Nat.ne_of_gt (a (by decide))⟩
theorem Cm{k j:Nat}(h:j<k):j*2<2*k/\j*2+1<2*k/\(j*2+1) % 2≠0/\(j*2+1) / 2=j:=by
 have h2:j*2+1<2*k:=by
  rw[Nat.mul_comm 2 k];exact Nat.le_trans (Nat.le_of_eq (Nat.succ_mul j 2).symm) (Nat.mul_le_mul_right 2 h)
 refine⟨Nat.lt_of_succ_lt h2,h2,?_,?_⟩
 ·rw[Nat.add_comm,Nat.add_mul_mod_self_right];decide
 ·rw[Nat.add_comm,Nat.add_mul_div_right 1 j (by decide)];exact Nat.zero_add j
theorem lt4{k r:Nat}(h:r<2*k):r<2*k+4:=Nat.lt_of_lt_of_le h (Nat.le_add_right _ _)
namespace dec_ad_e
noncomputable section
def P(k:Nat)(ns:Nat):Prop:=∀(x:Key) (h:kOk k ns x),dec k (ad k x)=x
def x:(Nat)×(Nat):=@Classical.epsilon _ ⟨(default,default)⟩ λ x=>¬P x.1 x.2
def k:Nat:=x.1
def ns:Nat:=x.2
theorem core:P k ns:=λ x h=>by
 obtain⟨⟨a1,a2,a3⟩,⟨b1,b2,b3⟩,⟨c1,c2,c3⟩,⟨d2,d3⟩,e2,e3,f3⟩:=C9 k;cases x with
 |me=>exact(pR (n:=0) (Nat.lt_of_lt_of_le (by decide) (Nat.le_add_right 5 k))).trans (if_pos rfl)
 |b=>exact(pR (n:=1) (Nat.lt_of_lt_of_le (by decide) (Nat.le_add_right 5 k))).trans ((if_neg Nat.one_ne_zero).trans (if_pos rfl))
 |q j=>
  obtain⟨g1,g2,g3,g4⟩:=C8 h;exact(pR g1).trans ((if_neg g2).trans ((if_neg g3).trans ((if_pos g4).trans (congrArg Key.q (Nat.add_sub_cancel_left 2 j)))))
 |Q=>exact(pR a1).trans ((if_neg b1).trans ((if_neg c1).trans ((if_neg (Nat.lt_irrefl _)).trans (if_pos rfl))))
 |c=>exact(pR a2).trans ((if_neg b2).trans ((if_neg c2).trans ((if_neg d2).trans ((if_neg e2).trans (if_pos rfl)))))
 |S=>exact(pR a3).trans ((if_neg b3).trans ((if_neg c3).trans ((if_neg d3).trans ((if_neg e3).trans (if_neg f3)))))
 |t i j=>
  obtain⟨g1,_⟩:=Cm h.2;exact(pS (lt4 g1)).trans ((if_pos g1).trans ((if_pos (Nat.mul_mod_left j 2)).trans (congrArg (Key.t i) (Nat.mul_div_cancel j (by decide)))))
 |m i j=>
  obtain⟨_,g1,g2,g3⟩:=Cm h.2;exact(pS (lt4 g1)).trans ((if_pos g1).trans ((if_neg g2).trans (congrArg (Key.m i) g3)))
 |T i=>exact(pS (Nat.lt_add_of_pos_right (by decide))).trans ((if_neg (Nat.lt_irrefl _)).trans (if_pos rfl))
 |a i=>exact(pS (Nat.add_lt_add_left (by decide) _)).trans ((if_neg (Nat.not_lt.mpr (Nat.le_add_right _ 1))).trans ((if_neg (Nat.succ_ne_self _)).trans (if_pos rfl)))
 |d i=>exact(pS (Nat.add_lt_add_left (by decide) _)).trans ((if_neg (Nat.not_lt.mpr (Nat.le_add_right _ 2))).trans ((if_neg (λ q=>by cases Nat.add_left_cancel (m:=2) (k:=0) q)).trans ((if_neg (Nat.succ_ne_self _)).trans (if_pos rfl))))
 |s i=>exact(pS (Nat.add_lt_add_left (by decide) _)).trans ((if_neg (Nat.not_lt.mpr (Nat.le_add_right _ 3))).trans ((if_neg (λ q=>by cases Nat.add_left_cancel (m:=3) (k:=0) q)).trans ((if_neg (λ q=>by cases Nat.add_left_cancel (m:=3) (k:=1) q)).trans (if_neg (Nat.succ_ne_self _)))))
end
end dec_ad_e
theorem vH{k ns:Nat}{x:Key}(h:kOk k ns x):dec k (ad k x)=x:=aw (Q:=λ x:(Nat)×(Nat)=>dec_ad_e.P x.1 x.2) dec_ad_e.core (k,ns) x h
theorem vL{k ns:Nat}{x y:Key}(hx:kOk k ns x)(hy:kOk k ns y)(e:ad k x=ad k y):x=y:=(vH hx).symm.trans ((congrArg (dec k) e).trans (vH hy))
noncomputable def iv(sz:Nat)(ps:List Ch):PyData:=.tuple [.int sz,.list (ps.map ax)]
noncomputable def meN(sz:Nat)(ps:List Ch):Nd:=.ins [("net",.d (iv sz ps)),("b",.o 1),("q",.o (2+ps.length)),("c",.o (3+ps.length)),("s",.o (4+ps.length))]
noncomputable def lO(l:List PyData):Nd:=.lst (l.map .d)
noncomputable def nd(sz:Nat)(ps:List Ch)(S:A):Key->Option Nd
 |.me=>some (meN sz ps)
 |.b=>some (lO (((List.range sz).map S.b).map .int))
 |.q j=>some (lO ((S.q j).map c4))
 |.Q=>some (.lst ((List.range ps.length).map λ j=>.o (2+j)))
 |.c=>some (lO (((List.range sz).map S.c).map fun(n:Nat)=>.int n))
 |.S=>some (.lst ((List.range S.s.length).map λ i=>.o (ad ps.length (.s i))))
 |.t i j=>(S.s[i]?).map λ s=>lO ((s.t j).2.map .int)
 |.m i j=>(S.s[i]?).map λ s=>.lst [.d (.str (cD (s.t j).1)),.o (ad ps.length (.t i j))]
 |.T i=>some (.lst ((List.range ps.length).map λ j=>.o (ad ps.length (.m i j))))
 |.a i=>(S.s[i]?).map λ s=>lO (((List.range sz).map s.a).map eOI)
 |.d i=>(S.s[i]?).map λ s=>lO (((List.range sz).map s.c).map eON)
 |.s i=>(S.s[i]?).map λ s=>.lst [.d (.str s.name),.o (ad ps.length (.a i)),.o (ad ps.length (.d i)),.o (ad ps.length (.T i))]
structure Rep(sz:Nat)(ps:List Ch)(S:A)(σ:aa):Prop where
 len:σ.length=5+ps.length+S.s.length*(2*ps.length+4)
 at':∀x,kOk ps.length S.s.length x->σ[ad ps.length x]?=nd sz ps S x
theorem wZ(sz:Nat)(ps:List Ch)(S:A)(y:Key)(hy:kOk ps.length S.s.length y):∃z,nd sz ps S y=some z:=by
 have g:∀i,i<S.s.length->∀f:SnA->Nd,∃z,(S.s[i]?).map f=some z:=λ i hi f=>⟨_,congrArg (Option.map f) (List.getElem?_eq_getElem hi)⟩;cases y with
 |t i j=>exact g i hy.1 _
 |m i j=>exact g i hy.1 _
 |a i=>exact g i hy _
 |d i=>exact g i hy _
 |s i=>exact g i hy _
 |_=>exact⟨_,rfl⟩
theorem Rep.set{sz:Nat}{ps:List Ch}{S S':A}{σ:aa}{n:Nd}(R:Rep sz ps S σ)(x:Key)(hx:kOk ps.length S.s.length x)(hl:S'.s.length=S.s.length)(hn:nd sz ps S' x=some n)(ho:∀y,y≠x->kOk ps.length S.s.length y->nd sz ps S' y=nd sz ps S y):Rep sz ps S' (σ.set (ad ps.length x) n):=by
 refine⟨by rw[List.length_set,R.len,hl],λ y hy=>?_⟩;rw[hl] at hy;by_cases e:y=x
 ·subst e;have hlt:ad ps.length y<σ.length:=by
   have h:=R.at' y hy;obtain⟨z,hz⟩:=wZ sz ps S y hy;exact(List.getElem?_eq_some_iff.mp (h.trans hz)).1
  rw[List.getElem?_set_self hlt,hn]
 ·have:ad ps.length x≠ad ps.length y:=λ q=>e (vL hx hy q).symm;rw[List.getElem?_set_ne this,R.at' y hy,ho y e hy]
end L3
end Mine.Internal.Q
end
section
namespace Mine.Internal.Q
open PySem Classical Mine.Internal.L3
theorem oz{α β:Type}{f:α->List β}{B:Nat}(l:List α)(hB:∀x∈l,(f x).length=B)(i r:Nat)(hr:r<B):(l.flatMap f)[i*B+r]?=(l[i]?).bind λ x=>(f x)[r]?:=by
 induction l generalizing i with
 |nil=>rfl
 |cons x t ih=>
  have hx:=hB x (by exact List.mem_cons_self);rw[List.flatMap_cons];cases i with
  |zero=>
   rw[Nat.zero_mul,Nat.zero_add,List.getElem?_append_left (by rw[hx];exact hr)];rfl
  |succ i=>
   have e:(i+1)*B+r=B+(i*B+r):=by rw[Nat.succ_mul,Nat.add_comm (i*B),Nat.add_assoc]
   rw[e,List.getElem?_append_right (by rw[hx];exact Nat.le_add_right _ _),hx,Nat.add_sub_cancel_left,ih (λ y hy=>hB y (by exact List.mem_cons_of_mem _ ‹_›)) i];rfl
theorem cI{α β:Type}{f:α->List β}{B:Nat}(l:List α)(hB:∀x∈l,(f x).length=B):(l.flatMap f).length=l.length*B:=by
 induction l with
 |nil=>simp
 |cons x t ih=>
  rw[List.flatMap_cons,List.length_append,hB x (by exact List.mem_cons_self),ih (λ y hy=>hB y (by exact List.mem_cons_of_mem _ ‹_›)),List.length_cons,Nat.succ_mul,Nat.add_comm]
theorem iM{α:Type}{bind:V->Option ah}{cond:ah->aa->Option (Bool×aa)}{elt:ah->aa->Option (V×aa)}(f:α->V)(blk:Nat->α->List Nd)(B r:Nat){ys:List α}{σ:aa}
  (hB:∀L,∀y∈ys,(blk L y).length=B)
  (H:∀y,y∈ys->∀σ,∃ρ,bind (f y)=some ρ/\cond ρ σ=some (true,σ)/\elt ρ σ=some (.o (σ.length+r),σ++blk σ.length y)) :
  eU bind cond elt (ys.map f) σ=some ((List.range ys.length).map λ j=>.o (σ.length+(j*B+r)),σ++ys.zipIdx.flatMap λ x=>blk (σ.length+x.2*B) x.1):=by
 have gen:∀(ys:List α) (σ:aa) (m L:Nat),σ.length=L+m*B->(∀L,∀y∈ys,(blk L y).length=B)->(∀y,y∈ys->∀σ,∃ρ,bind (f y)=some ρ/\cond ρ σ=some (true,σ)/\elt ρ σ=some (.o (σ.length+r),σ++blk σ.length y))->
   eU bind cond elt (ys.map f) σ=some ((List.range' m ys.length).map λ j=>.o (L+(j*B+r)),σ++(ys.zipIdx m).flatMap λ x=>blk (L+x.2*B) x.1):=by
  intro ys
  induction ys with
  |nil=>intro σ m L _ _ _;exact congrArg (λ q=>some (([]:List V),q)) (List.append_nil σ).symm
  |cons y t ih=>
   intro σ m L hL hB H;refine bC λ k9=>?_;obtain⟨ρ,h1,h2,h3⟩:=H y n6 σ;refine k9 ?_;have hl:(σ++blk σ.length y).length=L+(m+1)*B:=by
    rw[List.length_append,hB _ y n6,hL,Nat.succ_mul];exact Nat.add_assoc _ _ _
   have:=ih (σ++blk σ.length y) (m+1) L hl (λ L z hz=>hB L z (n3 hz)) (λ z hz=>H z (n3 hz));rw[show eU bind cond elt ((y::t).map f) σ=_ from bi h1 (bi h2 (bi h3 (bi this rfl)))];rw[hL];simp[List.range'_succ,List.zipIdx_cons,List.append_assoc,Nat.add_assoc]
 have:=gen ys σ 0 σ.length (by omega) hB H;rw[this,List.range_eq_range']
theorem sA{α:Type}{bind:V->Option ah}{cond:ah->aa->Option (Bool×aa)}{elt:ah->aa->Option (V×aa)}(f:α->V)(g:α->Nd){ys:List α}{σ:aa}
  (H:∀y,y∈ys->∀σ,∃ρ,bind (f y)=some ρ/\cond ρ σ=some (true,σ)/\elt ρ σ=some (.o σ.length,σ++[g y])) :
  eU bind cond elt (ys.map f) σ=some ((List.range ys.length).map λ j=>.o (σ.length+j),σ++ys.map g):=by
 rw[iM f (λ _ y=>[g y]) 1 0 (λ _ _ _=>rfl) H];congr 2
 ·simp
 ·congr 1;have:∀(ys:List α) (m:Nat),((ys.zipIdx m).flatMap λ x=>[g x.1])=ys.map g:=by
   intro ys
   induction ys with
   |nil=>intro m;rfl
   |cons y r ih=>intro m;simp[List.zipIdx_cons,ih]
  exact this ys 0
theorem Wp.qP{Φ:Or}{o e:Expr}{n:Str}{p q:Pos}{r:List Stmt}{ρ:ah}{σ σ1 σ2:aa}{v:V}{l:Nat}{fs:List (Str×V)}{K:Out->ah->aa->Prop}(h:ev Φ e ρ σ=some (v,σ1))(h1:ev Φ o ρ σ1=some (.o l,σ2))(h2:σ2[l]?=some (.ins fs))(h3:fs.length<1000)(h4:Wp (xs Φ r ρ (σ2.set l (.ins (bt n v fs)))) K):Wp (xs Φ (.Assign [.Attribute o n p] e q::r) ρ σ) K:=
 Wp.nx (bi h (bi (bi h1 ((congrArg (stN l n v ρ σ2) h2).trans (if_pos h3))) rfl)) h4
namespace L3
noncomputable def sU(sz k:Nat)(s:SnA):Snap:=⟨s.name,(List.range sz).map s.a,(List.range sz).map s.c,(List.range k).map s.t⟩
noncomputable def sT(sz k:Nat)(X:A):St:=⟨(List.range sz).map X.b,(List.range k).map X.q,(List.range sz).map X.c,X.s.map (sU sz k)⟩
noncomputable def trk(L:Nat)(x:(Nat×List Int)×Nat):List Nd:=[lO (x.1.2.map .int),.lst [.d (.str (cD x.1.1)),.o (L+x.2*2)]]
noncomputable def blk(sz k L:Nat)(s:SnA):List Nd:=
 ((List.range k).map s.t).zipIdx.flatMap (trk L)++[.lst ((List.range k).map λ j=>.o (L+(j*2+1))),lO (((List.range sz).map s.a).map eOI),lO (((List.range sz).map s.c).map eON),.lst [.d (.str s.name),.o (L+(2*k+1)),.o (L+(2*k+2)),.o (L+2*k)]]
noncomputable def hdL(sz:Nat)(ps:List Ch)(X:A)(m:Nat):List Nd:=
 [meN sz ps,lO (((List.range sz).map X.b).map .int)]++(List.range ps.length).map (λ j=>lO ((X.q j).map c4))++
 [.lst ((List.range ps.length).map λ j=>.o (2+j)),lO (((List.range sz).map X.c).map fun(n:Nat)=>.int n),.lst ((List.range m).map λ i=>.o (ad ps.length (.s i)))]
noncomputable def lay(sz:Nat)(ps:List Ch)(X:A):aa:=
 hdL sz ps X X.s.length++X.s.zipIdx.flatMap λ x=>blk sz ps.length (5+ps.length+x.2*(2*ps.length+4)) x.1
theorem kI(sz k L:Nat)(s:SnA):(blk sz k L s).length=2*k+4:=by
 rw[blk,List.length_append,cI (B:=2) _ (λ x _=>rfl)];simp;exact Nat.mul_comm _ _
theorem rV(sz:Nat)(ps:List Ch)(X:A):([meN sz ps,lO (((List.range sz).map X.b).map .int)]++(List.range ps.length).map (λ j=>lO ((X.q j).map c4))).length=2+ps.length:=by
 rw[List.length_append,List.length_map,List.length_range];rfl
theorem oo(sz:Nat)(ps:List Ch)(X:A)(m:Nat):(hdL sz ps X m).length=5+ps.length:=by
 rw[hdL,List.length_append,rV];exact Nat.add_right_comm 2 ps.length 3
theorem rW(sz:Nat)(ps:List Ch)(X:A)(m r:Nat):(hdL sz ps X m)[2+ps.length+r]?=([.lst ((List.range ps.length).map λ j=>.o (2+j)),lO (((List.range sz).map X.c).map fun(n:Nat)=>.int n),.lst ((List.range m).map λ i=>.o (ad ps.length (.s i)))]:List Nd)[r]?:=by
 rw[hdL,List.getElem?_append_right (by rw[rV];exact Nat.le_add_right _ _),rV,Nat.add_sub_cancel_left]
theorem Dx{j k:Nat}(h:j<k):j*2<2*k+4/\j*2+1<2*k+4:=by lia
theorem w9(sz:Nat)(ps:List Ch)(X:A):(lay sz ps X).length=5+ps.length+X.s.length*(2*ps.length+4):=by
 rw[lay,List.length_append,oo,cI _ (λ x _=>kI _ _ _ _),List.length_zipIdx]
theorem fR(sz:Nat)(ps:List Ch)(X:A)(i r:Nat)(hr:r<2*ps.length+4)(hi:i<X.s.length) :
  (lay sz ps X)[5+ps.length+i*(2*ps.length+4)+r]?=(blk sz ps.length (5+ps.length+i*(2*ps.length+4)) X.s[i])[r]?:=by
 rw[lay,List.getElem?_append_right (by rw[oo,Nat.add_assoc];exact Nat.le_add_right _ _),oo,Nat.add_assoc (5+ps.length),Nat.add_sub_cancel_left,oz _ (λ x _=>kI _ _ _ _) i r hr];simp[hi]
theorem kH(sz k L:Nat)(s:SnA)(j r:Nat)(hj:j<k)(hr:r<2):(blk sz k L s)[j*2+r]?=(trk L (s.t j,j))[r]?:=by
 rw[blk,List.getElem?_append_left (by rw[cI (B:=2) _ (λ x _=>rfl)];simp;omega),oz (B:=2) _ (λ x _=>rfl) j r hr];simp[hj]
theorem d4(sz k L:Nat)(s:SnA)(r:Nat):(blk sz k L s)[2*k+r]?=([.lst ((List.range k).map λ j=>.o (L+(j*2+1))),lO (((List.range sz).map s.a).map eOI),lO (((List.range sz).map s.c).map eON),.lst [.d (.str s.name),.o (L+(2*k+1)),.o (L+(2*k+2)),.o (L+2*k)]]:List Nd)[r]?:=by
 have:(((List.range k).map s.t).zipIdx.flatMap (trk L)).length=2*k:=by rw[cI (B:=2) _ (λ x _=>rfl)];simp;exact Nat.mul_comm _ _
 rw[blk,List.getElem?_append_right (by omega),this,Nat.add_sub_cancel_left]
namespace lay_rep_e
noncomputable section
def P(sz:Nat)(ps:List Ch)(X:A):Prop:=Rep sz ps X (lay sz ps X)
def x:(Nat)×(List Ch)×(A):=@Classical.epsilon _ ⟨(default,default,⟨λ _=>0,λ _=>[],λ _=>0,[]⟩)⟩ λ x=>¬P x.1 x.2.1 x.2.2
def sz:Nat:=x.1
def ps:List Ch:=x.2.1
def X:A:=x.2.2
theorem core:P sz ps X:=by
 refine⟨w9 _ _ _,λ x hx=>?_⟩;have hd:∀i,i<5+ps.length->(lay sz ps X)[i]?=(hdL sz ps X X.s.length)[i]?:=λ i hi=>by
  rw[lay,List.getElem?_append_left (by rw[oo];exact hi)]
 cases x with
 |me=>exact hd 0 (Nat.lt_of_lt_of_le (by decide) (Nat.le_add_right 5 _))
 |b=>exact hd 1 (Nat.lt_of_lt_of_le (by decide) (Nat.le_add_right 5 _))
 |q j=>
  have hx:j<ps.length:=hx;refine(hd (2+j) (Nat.add_lt_add (by decide) hx)).trans ?_;rw[hdL,List.append_assoc,Nat.add_comm 2 j];show((List.range ps.length).map _++_)[j]?=_;rw[List.getElem?_append_left (by rw[List.length_map,List.length_range];exact hx),List.getElem?_map,List.getElem?_range hx];rfl
 |Q=>exact(hd (2+ps.length) (Nat.add_lt_add_right (by decide) _)).trans (rW sz ps X _ 0)
 |c=>exact(hd (3+ps.length) (Nat.add_lt_add_right (by decide) _)).trans (Nat.add_right_comm 2 1 ps.length▸rW sz ps X _ 1)
 |S=>exact(hd (4+ps.length) (Nat.add_lt_add_right (by decide) _)).trans (Nat.add_right_comm 2 2 ps.length▸rW sz ps X _ 2)
 |t i j=>
  have hx:i<X.s.length/\j<ps.length:=hx;rw[ad,fR _ _ _ _ _ (by omega) hx.1];have:=kH sz ps.length (5+ps.length+i*(2*ps.length+4)) X.s[i] j 0 hx.2 (by exact Nat.le_add_left _ _);refine Eq.trans this ?_;rw[nd,List.getElem?_eq_getElem hx.1];rfl
 |m i j=>
  have hx:i<X.s.length/\j<ps.length:=hx;rw[ad,fR _ _ _ _ _ (by omega) hx.1,kH _ _ _ _ _ _ hx.2 (by exact Nat.le_refl _),nd,List.getElem?_eq_getElem hx.1];rfl
 |T i=>
  have hx:i<X.s.length:=hx;rw[ad,fR _ _ _ _ _ (Nat.lt_add_of_pos_right (by decide)) hx];have:=d4 sz ps.length (5+ps.length+i*(2*ps.length+4)) X.s[i] 0;refine Eq.trans this ?_;rw[nd];rfl
 |a i=>
  have hx:i<X.s.length:=hx;rw[ad,fR _ _ _ _ _ (Nat.add_lt_add_left (by decide) _) hx,d4,nd,List.getElem?_eq_getElem hx];rfl
 |d i=>
  have hx:i<X.s.length:=hx;rw[ad,fR _ _ _ _ _ (by exact Nat.le_succ _) hx,d4,nd,List.getElem?_eq_getElem hx];rfl
 |s i=>
  have hx:i<X.s.length:=hx;rw[ad,fR _ _ _ _ _ (by exact Nat.le_refl _) hx,d4,nd,List.getElem?_eq_getElem hx];rfl
end
end lay_rep_e
theorem rO(sz:Nat)(ps:List Ch)(X:A):Rep sz ps X (lay sz ps X):=aw (Q:=λ x:(Nat)×(List Ch)×(A)=>lay_rep_e.P x.1 x.2.1 x.2.2) lay_rep_e.core (sz,ps,X)
end L3
end Mine.Internal.Q
end
section
namespace Mine.Internal.Q
open PySem Classical Mine.Internal.L3
theorem aO{Φ:Or}{x:Str}{p:Pos}{ρ:ah}{σ:aa}{l:Nat}{xs:List V}(hg:Φ.gl x=none)(hf:Φ.frz p=false)(h:ρ x=some (.o l))(hs:σ[l]?=some (.lst xs)):ev Φ (.Name x p) ρ σ=some (.o l,σ):=by
 exact pQ hg h (yP hf hs rfl)
namespace L3
noncomputable abbrev MtK(Q:V->aa->Prop):Out->ah->aa->Prop:=λ o _ σ'=>∃v,(o=.rt v\/(o=.nx/\v=.d .none))/\Q v σ'
theorem sP{n:Nat}{f:Str}{g:Fn}{vs:List V}{ρ:ah}{σ:aa}{Q:V->aa->Prop}(h:prg.mt f=some g)(hb:binds g.params vs=some ρ)
  (hx:Wp (xs (prg.run n) g.body ρ σ) (MtK Q)):∃v σ',(prg.run (n+1)).M f vs σ=some (v,σ')/\Q v σ':=by
 obtain⟨o,ρ',σ',e,v,h1 | ⟨h1,h2⟩,q⟩:=hx
 ·subst h1;exact⟨v,σ',bi h (bi hb (bi e rfl)),q⟩
 ·subst h1;subst h2;exact⟨_,σ',bi h (bi hb (bi e rfl)),q⟩
noncomputable def zb:Fn:=(prg.mt "__init__").getD ⟨[],[]⟩
theorem zZ:prg.mt "__init__"=some zb:=rfl
theorem zt(sz:Nat)(ps:List Ch)(X:A)(m:Nat)(me nd:Nd)(rest:List Nd) :
  ((me::(hdL sz ps X m).tail)++rest).set (4+ps.length) nd=([me,lO (((List.range sz).map X.b).map .int)]++(List.range ps.length).map (λ j=>lO ((X.q j).map c4))++
 [.lst ((List.range ps.length).map λ j=>.o (2+j)),lO (((List.range sz).map X.c).map fun(n:Nat)=>.int n),nd])++rest:=by
 have e:me::(hdL sz ps X m).tail=([me,lO (((List.range sz).map X.b).map .int)]++(List.range ps.length).map (λ j=>lO ((X.q j).map c4)))++[.lst ((List.range ps.length).map λ j=>.o (2+j)),lO (((List.range sz).map X.c).map fun(n:Nat)=>.int n),.lst ((List.range m).map λ i=>.o (ad ps.length (.s i)))]:=rfl;rw[List.set_append_left (h:=by simp[hdL];lia),e,List.set_append_right (h:=by simp;lia)];have:4+ps.length-([me,lO (((List.range sz).map X.b).map .int)]++(List.range ps.length).map (λ j=>lO ((X.q j).map c4))).length=2:=by simp;lia
 rw[this];rfl
namespace init_run_e
noncomputable section
def P(n:Nat)(sz:Nat)(ps:List Ch)(X:A):Prop:=∀(hs:X.s.length<=50000),(prg.run (n+2)).M "__init__" [.o 0,.d (iv sz ps),.d (eSt (sT sz ps.length X))] [.ins []]=some (.d .none,lay sz ps X)
def x:(Nat)×(Nat)×(List Ch)×(A):=@Classical.epsilon _ ⟨(default,default,default,⟨λ _=>0,λ _=>[],λ _=>0,[]⟩)⟩ λ x=>¬P x.1 x.2.1 x.2.2.1 x.2.2.2
def n:Nat:=x.1
def sz:Nat:=x.2.1
def ps:List Ch:=x.2.2.1
def X:A:=x.2.2.2
theorem core:P n sz ps X:=λ hs=>by
 have key:∃v σ',(prg.run (n+2)).M "__init__" [.o 0,.d (iv sz ps),.d (eSt (sT sz ps.length X))] [.ins []]=some (v,σ')/\(v=.d .none/\σ'=lay sz ps X):=by
  refine sP zZ rfl ?_;refine Wp.qP rfl rfl rfl (Nat.le_of_ble_eq_true rfl) ?_;refine Wp.qP rfl rfl rfl (Nat.le_of_ble_eq_true rfl) ?_;refine Wp.qP (v:=.o (2+ps.length)) (σ1:=[.ins [("net",.d (iv sz ps)),("b",.o 1)],lO (((List.range sz).map X.b).map .int)]++(List.range ps.length).map (λ j=>lO ((X.q j).map c4))++[.lst ((List.range ps.length).map λ j=>.o (2+j))]) (dY (xs:=((List.range ps.length).map X.q).map λ l=>V.d (eQ l)) (σ1:=[.ins [("net",.d (iv sz ps)),("b",.o 1)],lO (((List.range sz).map X.b).map .int)]) ?_ (sA (λ l=>V.d (eQ l)) (λ l=>lO (l.map c4)) ?_) ?_) rfl rfl (Nat.le_of_ble_eq_true rfl) ?_
  ·show some (List.map V.d (List.map eQ _),_)=_;rw[List.map_map];rfl
  ·intro l hl σ;exact⟨_,rfl,rfl,rfl⟩
  ·show some (V.o (_++_:List Nd).length,(_++_:List Nd)++[Nd.lst _])=_;simp[Function.comp_def];lia
  refine Wp.qP (v:=.o (3+ps.length)) (σ1:=[.ins [("net",.d (iv sz ps)),("b",.o 1),("q",.o (2+ps.length))],lO (((List.range sz).map X.b).map .int)]++(List.range ps.length).map (λ j=>lO ((X.q j).map c4))++[.lst ((List.range ps.length).map λ j=>.o (2+j)),lO (((List.range sz).map X.c).map fun(n:Nat)=>.int n)]) ?_ rfl rfl (Nat.le_of_ble_eq_true rfl) ?_
  ·show some (V.o (_:List Nd).length,(_:List Nd)++[lO (((List.range sz).map X.c).map fun(n:Nat)=>.int n)])=_;congr 2
   ·simp;lia
   ·show(_::_:List Nd)=_::_;simp;rfl
  refine Wp.asg (v:=.o (4+ps.length)) (σ1:=[.ins [("net",.d (iv sz ps)),("b",.o 1),("q",.o (2+ps.length)),("c",.o (3+ps.length))],lO (((List.range sz).map X.b).map .int)]++(List.range ps.length).map (λ j=>lO ((X.q j).map c4))++[.lst ((List.range ps.length).map λ j=>.o (2+j)),lO (((List.range sz).map X.c).map fun(n:Nat)=>.int n),.lst []]) ?_ ?_
  ·show some (V.o (_:List Nd).length,(_:List Nd)++[Nd.lst []])=_;congr 2
   ·simp;lia
   ·show(_::_:List Nd)=_::_;simp;rfl
  have hI:∀i,i<=X.s.length->i<LIM:=λ i hi=>by simp only[LIM];exact Nat.lt_of_le_of_lt (Nat.le_trans ‹_› ‹_›) (by decide)
  refine Wp.for (ys:=(X.s.map λ s=>df (sU sz ps.length s)).map V.d) (σ1:=(.ins [("net",.d (iv sz ps)),("b",.o 1),("q",.o (2+ps.length)),("c",.o (3+ps.length))]::(hdL sz ps X 0).tail)++[]) ?_ ?_
  ·have e:List.map df (X.s.map (sU sz ps.length))=X.s.map λ s=>df (sU sz ps.length s):=by rw[List.map_map];rfl
   show some (Src.items (List.map V.d (List.map df (X.s.map (sU sz ps.length)))),_)=_;rw[e,List.append_nil];rfl
  refine Wp.ox (λ s=>df (sU sz ps.length s)) (λ pre ρ σ=>Ov ["n","a","c","t","tracks"] _ ρ/\σ=(.ins [("net",.d (iv sz ps)),("b",.o 1),("q",.o (2+ps.length)),("c",.o (3+ps.length))]::(hdL sz ps X pre.length).tail)++pre.zipIdx.flatMap λ x=>blk sz ps.length (5+ps.length+x.2*(2*ps.length+4)) x.1) ⟨Ov.refl,rfl⟩ ?_ ?_
  ·rintro pre s post ρ σ hy ⟨⟨f,rfl⟩,rfl⟩;have hl:((Nd.ins [("net",.d (iv sz ps)),("b",.o 1),("q",.o (2+ps.length)),("c",.o (3+ps.length))]::(hdL sz ps X pre.length).tail)++pre.zipIdx.flatMap λ x=>blk sz ps.length (5+ps.length+x.2*(2*ps.length+4)) x.1).length=5+ps.length+pre.length*(2*ps.length+4):=by
    rw[List.length_append,cI _ (λ x _=>kI _ _ _ _),List.length_zipIdx];simp[hdL];lia
   have hset:=λ nd rest=>zt sz ps X pre.length (.ins [("net",.d (iv sz ps)),("b",.o 1),("q",.o (2+ps.length)),("c",.o (3+ps.length))]) nd ((pre.zipIdx.flatMap λ x=>blk sz ps.length (5+ps.length+x.2*(2*ps.length+4)) x.1)++rest);have hget:((Nd.ins [("net",.d (iv sz ps)),("b",.o 1),("q",.o (2+ps.length)),("c",.o (3+ps.length))]::(hdL sz ps X pre.length).tail)++pre.zipIdx.flatMap λ x=>blk sz ps.length (5+ps.length+x.2*(2*ps.length+4)) x.1)[4+ps.length]?=some (.lst ((List.range pre.length).map λ i=>.o (ad ps.length (.s i)))):=by
    rw[List.getElem?_append_left (by simp[hdL];lia)];show(([_,_]++(List.range ps.length).map (λ j=>lO ((X.q j).map c4)))++[.lst ((List.range ps.length).map λ j=>.o (2+j)),lO (((List.range sz).map X.c).map fun(n:Nat)=>.int n),.lst ((List.range pre.length).map λ i=>.o (ad ps.length (.s i)))]:List Nd)[4+ps.length]?=_;rw[List.getElem?_append_right (by simp;lia)];have:∀a b:Nd,4+ps.length-([a,b]++(List.range ps.length).map (λ j=>lO ((X.q j).map c4))).length=2:=by intro a b;simp;lia
    rw[this];rfl
   generalize hσ:((Nd.ins [("net",.d (iv sz ps)),("b",.o 1),("q",.o (2+ps.length)),("c",.o (3+ps.length))]::(hdL sz ps X pre.length).tail)++pre.zipIdx.flatMap λ x=>blk sz ps.length (5+ps.length+x.2*(2*ps.length+4)) x.1)=σ at hl hget ⊢;refine Wp.bind rfl ?_;refine Wp.asg (v:=.o (σ.length+ps.length*2)) (σ1:=σ++((List.range ps.length).map s.t).zipIdx.flatMap (trk σ.length)++[.lst ((List.range ps.length).map λ j=>.o (σ.length+(j*2+1)))]) (dY (xs:=((List.range ps.length).map s.t).map λ t=>V.d (dy t)) (σ1:=σ) ?_ (iM (λ t=>V.d (dy t)) (λ L (t:Nat×List Int)=>[lO (t.2.map .int),.lst [.d (.str (cD t.1)),.o L]]) 2 1 (λ _ _ _=>rfl) ?_) ?_) ?_
   ·show some (List.map V.d (List.map dy _),_)=_;rw[List.map_map];rfl
   ·intro t ht σ;refine⟨_,rfl,rfl,?_⟩;show some (V.o (σ++[lO (t.2.map .int)]).length,(σ++[lO (t.2.map .int)])++[.lst [.d (.str (cD t.1)),.o σ.length]])=_;simp
   ·show some (V.o (_++_:List Nd).length,(_++_:List Nd)++[Nd.lst _])=_;rw[List.length_append,cI (B:=2) _ (λ x _=>rfl)];simp;rfl
   have hk:(σ++((List.range ps.length).map s.t).zipIdx.flatMap (trk σ.length)).length=σ.length+ps.length*2:=by
    rw[List.length_append,cI (B:=2) _ (λ x _=>rfl)];simp
   have hget':∀r:List Nd,(σ++r)[4+ps.length]?=some (.lst ((List.range pre.length).map λ i=>.o (ad ps.length (.s i)))):=λ r=>by
    rw[List.getElem?_append_left (by lia)];exact hget
   generalize hτ:((List.range ps.length).map s.t).zipIdx.flatMap (trk σ.length)=τ at hk ⊢;generalize hT:Nd.lst ((List.range ps.length).map λ j=>V.o (σ.length+(j*2+1)))=T at hk ⊢;have l1:(σ++τ++[T]).length=σ.length+(2*ps.length+1):=by rw[List.length_append,hk];simp;lia
   have l2:∀a,((σ++τ++[T])++[a]).length=σ.length+(2*ps.length+2):=λ a=>by rw[List.length_append,l1];simp;rfl
   have l3:∀a b,(((σ++τ++[T])++[a])++[b]).length=ad ps.length (.s pre.length):=λ a b=>by rw[List.length_append,l2,hl,ad];simp;rfl
   refine Wp.expr (bR (l:=4+ps.length) (xs':=(List.range pre.length).map λ i=>.o (ad ps.length (.s i))) (xs:=(List.range pre.length).map λ i=>.o (ad ps.length (.s i))) (σ1:=σ++τ++[T]) (σ2:=σ++blk sz ps.length σ.length s) (v:=.o (ad ps.length (.s pre.length))) (aO rfl rfl rfl (by rw[List.append_assoc];exact hget' _)) (by rw[List.append_assoc];exact hget' _) (gB (ae rfl (ae rfl (ae rfl (ae (aO (xs:=(List.range ps.length).map λ j=>V.o (σ.length+(j*2+1))) rfl rfl rfl ?_) rfl)))) ?_) (hget' _) (by simpa using hI pre.length (by rw[hy];simp))) (Wp.nil ⟨by repeat first | exact⟨f,rfl⟩ | refine Ov.upd ?_ rfl,?_⟩)
   ·rw[List.append_assoc,List.append_assoc,List.getElem?_append_right (by exact Nat.le_of_eq ‹_›),hk,Nat.sub_self,hT];rfl
   ·show some (V.o ((((σ++τ++[T])++[_])++[_]):List Nd).length,(((σ++τ++[T])++[_])++[_])++[Nd.lst [V.d (.str s.name),V.o (σ++τ++[T]).length,V.o ((σ++τ++[T])++[_]).length,V.o (σ.length+ps.length*2)]])=_;rw[l3,l2,l1,blk,<-hτ,<-hT,Nat.mul_comm ps.length 2];simp only[List.append_assoc];rfl
   ·show _=Nd.ins _::_++_;rw[hl,<-hσ,List.append_assoc,hset];have hz:(pre++[s]).zipIdx=pre.zipIdx++[(s,pre.length)]:=by simp[List.zipIdx_append]
    rw[hz,List.flatMap_append,List.length_append];show _=([_,_]++_++[_,_,Nd.lst ((List.range (pre.length+1)).map _)])++(_++(blk _ _ (5+ps.length+pre.length*(2*ps.length+4)) s++[]));rw[List.range_succ,List.map_append,List.append_nil];rfl
  ·rintro ρ σ ⟨⟨f,rfl⟩,rfl⟩;refine Wp.qP (aO (l:=4+ps.length) (xs:=(List.range X.s.length).map λ i=>.o (ad ps.length (.s i))) rfl rfl rfl ?_) rfl rfl (Nat.le_of_ble_eq_true rfl) (Wp.nil ⟨_,.inr ⟨rfl,rfl⟩,rfl,?_⟩)
   ·rw[List.getElem?_append_left (by simp[hdL];lia)];show(([_,_]++(List.range ps.length).map (λ j=>lO ((X.q j).map c4)))++[.lst ((List.range ps.length).map λ j=>.o (2+j)),lO (((List.range sz).map X.c).map fun(n:Nat)=>.int n),.lst ((List.range X.s.length).map λ i=>.o (ad ps.length (.s i)))]:List Nd)[4+ps.length]?=_;rw[List.getElem?_append_right (by simp;lia)];have:∀a b:Nd,4+ps.length-([a,b]++(List.range ps.length).map (λ j=>lO ((X.q j).map c4))).length=2:=by intro a b;simp;lia
    rw[this];rfl
   ·rfl
 obtain⟨v,σ',h1,rfl,rfl⟩:=key;exact h1
end
end init_run_e
theorem ug(n sz:Nat)(ps:List Ch)(X:A)(hs:X.s.length<=50000):(prg.run (n+2)).M "__init__" [.o 0,.d (iv sz ps),.d (eSt (sT sz ps.length X))] [.ins []]=some (.d .none,lay sz ps X):=aw (Q:=λ x:(Nat)×(Nat)×(List Ch)×(A)=>init_run_e.P x.1 x.2.1 x.2.2.1 x.2.2.2) init_run_e.core (n,sz,ps,X) hs
end L3
end Mine.Internal.Q
end
section
namespace Mine.Internal.Q
open PySem Classical Mine.Internal.L3
theorem ar{Φ:Or}{x:Str}{p:Pos}{ρ:ah}{σ:aa}{l:Nat}{fs:List (Str×V)}(hg:Φ.gl x=none)(hf:Φ.frz p=false)(h:ρ x=some (.o l))(hs:σ[l]?=some (.ins fs)):ev Φ (.Name x p) ρ σ=some (.o l,σ):=by
 exact pQ hg h (yP hf hs rfl)
theorem aV{Φ:Or}{o:Expr}{n:Str}{p:Pos}{ρ:ah}{σ σ1:aa}{l l':Nat}{fs:List (Str×V)}{xs:List V}(h1:ev Φ o ρ σ=some (.o l,σ1))(h2:σ1[l]?=some (.ins fs))(h3:dG n fs=some (.o l'))(h4:σ1[l']?=some (.lst xs))(hf:Φ.frz p=false):ev Φ (.Attribute o n p) ρ σ=some (.o l',σ1):=by
 exact bi h1 ((congrArg (atN Φ n p σ1) h2).trans (bi h3 (yP hf h4 rfl)))
theorem bM{Φ:Or}{o:Expr}{n:Str}{p:Pos}{ρ:ah}{σ σ1:aa}{l:Nat}{fs:List (Str×V)}{x:PyData}(h1:ev Φ o ρ σ=some (.o l,σ1))(h2:σ1[l]?=some (.ins fs))(h3:dG n fs=some (.d x))(hf:Φ.frz p=false):ev Φ (.Attribute o n p) ρ σ=some (.d x,σ1):=by
 exact bi h1 ((congrArg (atN Φ n p σ1) h2).trans (bi h3 (if_neg (by rw[hf];exact Bool.false_ne_true))))
theorem az{α:Type}{xs:List α}{j:Nat}{v:α}(h:xs[j]?=some v):j<xs.length:=(List.getElem?_eq_some_iff.mp h).1
theorem bI{σ:aa}{l l' j:Nat}{xs ys:List V}(h:σ[l]?=some (.lst xs))(hj:xs[j]?=some (.o l'))(h':σ[l']?=some (.lst ys)):gF σ (.o l) (.d (.int (j:Nat)))=some (.o l'):=by
 exact(congrArg (wa σ (.d (.int (j:Nat)))) h).trans (bi (fN (az hj)) ((congrArg (Option.map (dr σ)) hj).trans (congrArg (λ q=>some (drN l' q)) h')))
theorem eF{σ:aa}{l j:Nat}{xs:List V}{x:PyData}(h:σ[l]?=some (.lst xs))(hj:xs[j]?=some (.d x)):gF σ (.o l) (.d (.int (j:Nat)))=some (.d x):=by
 exact(congrArg (wa σ (.d (.int (j:Nat)))) h).trans (bi (fN (az hj)) (congrArg (Option.map (dr σ)) hj))
theorem cg{σ:aa}{l k:Nat}{xs:List V}{v:V}(h:σ[l]?=some (.lst xs))(hk:k<xs.length):dI (.o l) (.d (.int (k:Nat))) v σ=some (σ.set l (.lst (xs.set k v))):=by
 exact(congrArg (sV l (.d (.int (k:Nat))) v σ) h).trans (bi (fN hk) (if_pos hk))
theorem fE{σ:aa}{l k:Nat}{xs:List V}{i:Int}(h:σ[l]?=some (.lst xs))(hk:xs[k]?=some (.d (.int i))):mj σ (.o l) (.d (.int (k:Nat)))=some i:=by
 exact(congrArg (Ci (.d (.int (k:Nat)))) h).trans (bi (fN (az hk)) (bi hk rfl))
theorem Wp.tD{Φ:Or}{o i e:Expr}{p q:Pos}{r:List Stmt}{ρ:ah}{σ σ1 σ2 σ3 σ4:aa}{v a b:V}{K:Out->ah->aa->Prop}(h:ev Φ e ρ σ=some (v,σ1))(h1:ev Φ o ρ σ1=some (a,σ2))(h2:ev Φ i ρ σ2=some (b,σ3))(h3:dI a b v σ3=some σ4)(h4:Wp (xs Φ r ρ σ4) K):Wp (xs Φ (.Assign [.Subscript o i p] e q::r) ρ σ) K:=
 Wp.nx (bi h (bi (bi h1 (bi h2 (bi h3 rfl))) rfl)) h4
theorem Wp.aug{Φ:Or}{o i e:Expr}{op:Operator}{p q:Pos}{r:List Stmt}{ρ:ah}{σ σ1 σ2 σ3 σ4:aa}{a b:V}{c m w:Int}{K:Out->ah->aa->Prop}(h1:ev Φ o ρ σ=some (a,σ1))(h2:ev Φ i ρ σ1=some (b,σ2))(h3:mj σ2 a b=some c)(h4:ev Φ e ρ σ2=some (.d (.int m),σ3))(h5:x7 op c m=some w)(h6:dI a b (.d (.int w)) σ3=some σ4)(h7:Wp (xs Φ r ρ σ4) K):Wp (xs Φ (.AugAssign (.Subscript o i p) op e q::r) ρ σ) K:=
 Wp.nx (bi h1 (bi h2 (bi h3 (bi h4 (bi (a:=m) rfl (bi h5 (bi h6 rfl))))))) h7
theorem iG{Φ:Or}{o:Expr}{m:Str}{args:List Expr}{p q:Pos}{ρ:ah}{σ σ1 σ2:aa}{l:Nat}{fs fs':List (Str×V)}{vs:List V}{r:Option (V×aa)}(h1:ev Φ o ρ σ=some (.o l,σ1))(h2:σ1[l]?=some (.ins fs))(h2':(dG m fs).isSome=false)(h3:evs Φ args ρ σ1=some (vs,σ2))(h4:σ2[l]?=some (.ins fs'))(h4':(dG m fs').isSome=false)(h5:Φ.M m (.o l::vs) σ2=r):ev Φ (.Call (.Attribute o m p) args [] q) ρ σ=r:=by
 exact cZ h1 (k:=5) (sR h2 (if_neg (by rw[h2'];exact Bool.false_ne_true))) h3 (sR h4 (if_neg (by rw[h4'];exact Bool.false_ne_true))) (iP h4 h5)
theorem r6{step:V->ah->aa->Res}{l f i:Nat}{ρ:ah}{σ:aa}{xs:List V}(h:σ[l]?=some (.lst xs)):Mine.Internal.jc step l (f+1) i ρ σ=AH (λ x=>(step (dr σ x) ρ σ).bind λ y=>cont (Mine.Internal.jc step l f (i+1)) y.1 y.2.1 y.2.2) (some (.nx,ρ,σ)) xs[i]?:=
 congrArg (B8 (λ x=>(step (dr σ x) ρ σ).bind λ y=>cont (Mine.Internal.jc step l f (i+1)) y.1 y.2.1 y.2.2) i (some (.nx,ρ,σ))) h
theorem Wp.xl{step:V->ah->aa->Res}{l fuel:Nat}{ρ:ah}{σ:aa}{K:Out->ah->aa->Prop}(xs:List V)(I:Nat->ah->aa->Prop)(hlen:xs.length<fuel)
  (h0:I 0 ρ σ) (hl:∀i ρ σ,I i ρ σ->σ[l]?=some (.lst xs))
  (hs:∀i v ρ σ,xs[i]?=some v->I i ρ σ->Wp (step (dr σ v) ρ σ) (LpK (I (i+1)) K))
  (h1:∀ρ σ,I xs.length ρ σ->K .nx ρ σ):Wp (Mine.Internal.jc step l fuel 0 ρ σ) K:=by
 have gen:∀(m fuel i:Nat) (ρ:ah) (σ:aa),i+m=xs.length->m<fuel->I i ρ σ->Wp (Mine.Internal.jc step l fuel i ρ σ) K:=by
  intro m
  induction m with
  |zero=>
   intro fuel i ρ σ e hf hi;obtain rfl:i=xs.length:=e;cases fuel with
   |zero=>exact absurd hf (Nat.lt_irrefl 0)
   |succ f=>exact⟨.nx,ρ,σ,by rw[r6 (hl _ _ _ hi),List.getElem?_eq_none (Nat.le_refl _)];rfl,h1 _ _ hi⟩
  |succ m ih=>
   intro fuel i ρ σ e hf hi;cases fuel with
   |zero=>exact absurd hf (Nat.not_lt_zero _)
   |succ f=>
   have hlt:i<xs.length:=e▸Nat.lt_add_of_pos_right (Nat.succ_pos m);have hx:xs[i]?=some xs[i]:=List.getElem?_eq_getElem hlt;obtain⟨o,ρ1,σ1,e1,k1⟩:=hs i _ ρ σ hx hi;have hgo:∀{ρ1 σ1},I (i+1) ρ1 σ1->Wp (Mine.Internal.jc step l f (i+1) ρ1 σ1) K:=λ {ρ1 σ1} h=>ih f (i+1) ρ1 σ1 ((Nat.add_right_comm i 1 m).trans e) (Nat.lt_of_succ_lt_succ hf) h;rw[r6 (hl _ _ _ hi),hx];show Wp ((step (dr σ xs[i]) ρ σ).bind _) K;rw[e1];cases o with
   |nx=>exact hgo k1
   |ct=>exact hgo k1
   |br=>exact⟨.nx,ρ1,σ1,rfl,k1⟩
   |ex=>exact k1.elim
   |rt v=>exact⟨.rt v,ρ1,σ1,rfl,k1⟩
 exact gen xs.length fuel 0 ρ σ (by exact Nat.add_comm _ _) hlen h0
theorem dJ{α:Type}(n p:Nat)(f:Nat->α)(v:α):((List.range n).map f).set p v=(List.range n).map λ x=>if x=p then v else f x:=by
 apply List.ext_getElem?;intro i;rw[List.getElem?_set];by_cases h:p=i
 ·subst h;by_cases hp:p<n<;>simp[hp]
 ·rw[if_neg h];by_cases hi:i<n
  ·simp[hi,Ne.symm h]
  ·simp[hi]
namespace L3
noncomputable def setB(p:Nat)(v:Int)(S:A):A:={ S with b:=λ x=>if x=p then v else S.b x }
noncomputable def setC(p:Nat)(v:Nat)(S:A):A:={ S with c:=λ x=>if x=p then v else S.c x }
noncomputable def gG(j:Nat)(l:List Msg)(S:A):A:={ S with q:=λ x=>if x=j then l else S.q x }
noncomputable def eA(i:Nat)(f:SnA->SnA)(S:A):A:={ S with s:=S.s.modify i f }
noncomputable def fA(p:Nat)(v:Option Int)(s:SnA):SnA:={ s with a:=λ x=>if x=p then v else s.a x }
noncomputable def fD(p:Nat)(v:Option Nat)(s:SnA):SnA:={ s with c:=λ x=>if x=p then v else s.c x }
noncomputable def fT(j:Nat)(t:Nat×List Int)(s:SnA):SnA:={ s with t:=λ x=>if x=j then t else s.t x }
variable{sz:Nat}{ps:List Ch}{S:A}{σ:aa}
theorem Rep.setB(R:Rep sz ps S σ)(p:Nat)(v:Int):Rep sz ps (setB p v S) (σ.set 1 (.lst (((((List.range sz).map S.b).map PyData.int).map V.d).set p (.d (.int v))))):=by
 refine R.set .b trivial rfl ?_ ?_
 ·simp only[nd,lO,L3.setB];simp only[List.map_map];rw[dJ];congr 2;apply List.map_congr_left;intro x _;by_cases h:x=p<;>simp[h]
 ·intro y hy _;cases y<;>first | rfl | exact absurd rfl hy
theorem Rep.setC(R:Rep sz ps S σ)(p:Nat)(v:Nat):Rep sz ps (setC p v S) (σ.set (3+ps.length) (.lst (((((List.range sz).map S.c).map fun(n:Nat)=>PyData.int n).map V.d).set p (.d (.int (v:Nat)))))):=by
 refine R.set .c trivial rfl ?_ ?_
 ·simp only[nd,lO,L3.setC];simp only[List.map_map];rw[dJ];congr 2;apply List.map_congr_left;intro x _;by_cases h:x=p<;>simp[h]
 ·intro y hy _;cases y<;>first | rfl | exact absurd rfl hy
theorem Rep.gG(R:Rep sz ps S σ)(j:Nat)(hj:j<ps.length)(l:List Msg):Rep sz ps (gG j l S) (σ.set (2+j) (lO (l.map c4))):=by
 refine R.set (.q j) hj rfl ?_ ?_
 ·simp[nd,L3.gG]
 ·intro y hy _;cases y with
  |q j'=>
   have:j'≠j:=λ h=>hy (by rw[h]);simp[nd,L3.gG,this]
  |_=>rfl
theorem cY(S:A)(i i':Nat)(f:SnA->SnA):(eA i f S).s[i']?=if i=i' then(S.s[i']?).map f else S.s[i']?:=by
 by_cases h:i=i'<;>simp[eA,List.getElem?_modify,h]
theorem dQ(S:A)(i:Nat)(f:SnA->SnA):(eA i f S).s.length=S.s.length:=by simp[eA]
theorem bG{β:Type}(S:A)(i i':Nat)(f:SnA->SnA)(g:SnA->β)(h:i=i'->∀s,g (f s)=g s):((eA i f S).s[i']?).map g=(S.s[i']?).map g:=by
 rw[cY];by_cases e:i=i'
 ·rw[if_pos e];cases hs:S.s[i']? with
  |none=>rfl
  |some s=>simp[h e]
 ·rw[if_neg e]
theorem Rep.CN(R:Rep sz ps S σ)(i p:Nat)(v:Option Int){s:SnA}(hs:S.s[i]?=some s):Rep sz ps (eA i (fA p v) S) (σ.set (ad ps.length (.a i)) (.lst (((((List.range sz).map s.a).map eOI).map V.d).set p (.d (eOI v))))):=by
 have hi:i<S.s.length:=by
  by_cases h:i<S.s.length
  ·exact h
  ·rw[List.getElem?_eq_none (by exact Nat.not_lt.mp ‹_›)] at hs;cases hs
 refine R.set (.a i) hi (dQ _ _ _) ?_ ?_
 ·simp only[nd,lO,cY,hs,if_true,Option.map_some];simp only[List.map_map];rw[dJ];congr 2;apply List.map_congr_left;intro x _;by_cases h:x=p<;>simp[h,fA]
 ·intro y hy _;cases y with
  |S=>simp only[nd,dQ]
  |a i'=>
   have:i≠i':=λ h=>hy (by rw[h]);simp only[nd];exact bG _ _ _ _ _ λ h=>absurd h this
  |t i' j=>exact bG _ _ _ _ _ λ _ _=>rfl
  |m i' j=>exact bG _ _ _ _ _ λ _ _=>rfl
  |d i'=>exact bG _ _ _ _ _ λ _ _=>rfl
  |s i'=>exact bG _ _ _ _ _ λ _ _=>rfl
  |_=>rfl
theorem Rep.CM(R:Rep sz ps S σ)(i p:Nat)(v:Option Nat){s:SnA}(hs:S.s[i]?=some s):Rep sz ps (eA i (fD p v) S) (σ.set (ad ps.length (.d i)) (.lst (((((List.range sz).map s.c).map eON).map V.d).set p (.d (eON v))))):=by
 have hi:i<S.s.length:=by
  by_cases h:i<S.s.length
  ·exact h
  ·rw[List.getElem?_eq_none (by exact Nat.not_lt.mp ‹_›)] at hs;cases hs
 refine R.set (.d i) hi (dQ _ _ _) ?_ ?_
 ·simp only[nd,lO,cY,hs,if_true,Option.map_some];simp only[List.map_map];rw[dJ];congr 2;apply List.map_congr_left;intro x _;by_cases h:x=p<;>simp[h,fD]
 ·intro y hy _;cases y with
  |S=>simp only[nd,dQ]
  |d i'=>
   have:i≠i':=λ h=>hy (by rw[h]);simp only[nd];exact bG _ _ _ _ _ λ h=>absurd h this
  |t i' j=>exact bG _ _ _ _ _ λ _ _=>rfl
  |m i' j=>exact bG _ _ _ _ _ λ _ _=>rfl
  |a i'=>exact bG _ _ _ _ _ λ _ _=>rfl
  |s i'=>exact bG _ _ _ _ _ λ _ _=>rfl
  |_=>rfl
theorem Rep.setM(R:Rep sz ps S σ)(i j k:Nat)(hj:j<ps.length){s:SnA}(hs:S.s[i]?=some s):Rep sz ps (eA i (fT j (k,(s.t j).2)) S) (σ.set (ad ps.length (.m i j)) (.lst [.d (.str (cD k)),.o (ad ps.length (.t i j))])):=by
 have hi:i<S.s.length:=by
  by_cases h:i<S.s.length
  ·exact h
  ·rw[List.getElem?_eq_none (by exact Nat.not_lt.mp ‹_›)] at hs;cases hs
 have key:∀{i'},i=i'->∀s',S.s[i']?=some s'->s'=s:=λ e s' h'=>by subst e;rw[hs] at h';exact(Option.some.inj h').symm
 refine R.set (.m i j) ⟨hi,hj⟩ (dQ _ _ _) ?_ ?_
 ·simp only[nd,cY,hs,if_true,Option.map_some,fT]
 ·intro y hy _;cases y with
  |S=>simp only[nd,dQ]
  |d i'=>exact bG _ _ _ _ _ λ _ _=>rfl
  |a i'=>exact bG _ _ _ _ _ λ _ _=>rfl
  |s i'=>exact bG _ _ _ _ _ λ _ _=>rfl
  |t i' j'=>
   simp only[nd,cY];by_cases e:i=i'
   ·subst e;simp only[if_true,hs,Option.map_some,fT];by_cases e':j'=j<;>simp[e']
   ·rw[if_neg e]
  |m i' j'=>
   simp only[nd,cY];by_cases e:i=i'
   ·subst e;have:j'≠j:=λ h=>hy (by rw[h]);simp[hs,fT,this]
   ·rw[if_neg e]
  |_=>rfl
theorem Rep.CL(R:Rep sz ps S σ)(i j:Nat)(l:List Int)(hj:j<ps.length){s:SnA}(hs:S.s[i]?=some s):Rep sz ps (eA i (fT j ((s.t j).1,l)) S) (σ.set (ad ps.length (.t i j)) (lO (l.map .int))):=by
 have hi:i<S.s.length:=by
  by_cases h:i<S.s.length
  ·exact h
  ·rw[List.getElem?_eq_none (by exact Nat.not_lt.mp ‹_›)] at hs;cases hs
 refine R.set (.t i j) ⟨hi,hj⟩ (dQ _ _ _) ?_ ?_
 ·simp only[nd,cY,hs,if_true,Option.map_some,fT]
 ·intro y hy _;cases y with
  |S=>simp only[nd,dQ]
  |d i'=>exact bG _ _ _ _ _ λ _ _=>rfl
  |a i'=>exact bG _ _ _ _ _ λ _ _=>rfl
  |s i'=>exact bG _ _ _ _ _ λ _ _=>rfl
  |m i' j'=>
   simp only[nd,cY];by_cases e:i=i'
   ·subst e;simp only[if_true,hs,Option.map_some,fT];by_cases e':j'=j<;>simp[e']
   ·rw[if_neg e]
  |t i' j'=>
   simp only[nd,cY];by_cases e:i=i'
   ·subst e;have:j'≠j:=λ h=>hy (by rw[h]);simp[hs,fT,this]
   ·rw[if_neg e]
  |_=>rfl
end L3
end Mine.Internal.Q
end
section
namespace Mine.Internal.Q
open PySem Classical Mine.Internal.L3
theorem qj{α:Type}{ps:List α}{pre post:List (α×Nat)}{y:α×Nat}(h:ps.zipIdx=pre++y::post):y.2=pre.length/\ps[pre.length]?=some y.1:=by
 have h1:ps.zipIdx[pre.length]?=some y:=by rw[h,List.getElem?_append_right (Nat.le_refl _),Nat.sub_self];rfl
 rw[List.getElem?_zipIdx] at h1;obtain⟨x,hx,rfl⟩:=Option.map_eq_some_iff.1 h1;exact⟨Nat.zero_add _,hx⟩
theorem rg{β:Type}{n p:Nat}{f:Nat->β}(h:p<n):((List.range n).map f)[p]?=some (f p):=by
 rw[List.getElem?_map,List.getElem?_range h];rfl
theorem rg3{β γ:Type}{n p:Nat}{f:Nat->β}{g:β->PyData}{k:PyData->γ}(h:p<n):((((List.range n).map f).map g).map k)[p]?=some (k (g (f p))):=by
 rw[List.getElem?_map,List.getElem?_map,rg h];rfl
theorem t8{β γ:Type}{n p:Nat}{f:Nat->β}{g:β->PyData}{k:PyData->γ}(h:p<n):p<((((List.range n).map f).map g).map k).length:=az (rg3 h)
theorem qB{β:Type}{P:Nat->Prop}{D:DecidablePred P}{m:Nat}{u v:Nat->β}:(λ j=>if j<m+1/\P j then u j else v j)=if P m then(λ j=>if j=m then u m else if j<m/\P j then u j else v j) else λ j=>if j<m/\P j then u j else v j:=by
 have lt:∀{j},j≠m->(j<m+1/\P j↔j<m/\P j):=λ e=>⟨λ h=>⟨Nat.lt_of_le_of_ne (Nat.le_of_lt_succ h.1) e,h.2⟩,λ h=>⟨Nat.lt_succ_of_lt h.1,h.2⟩⟩;by_cases hP:P m
 ·rw[if_pos hP];funext j;by_cases e:j=m
  ·rw[if_pos e,e,if_pos ⟨Nat.lt_succ_self m,hP⟩]
  ·rw[if_neg e];exact de (lt e)
 ·rw[if_neg hP];funext j;by_cases e:j=m
  ·rw[if_neg fun(h:j<m+1/\P j)=>hP (e▸h.2),if_neg fun(h:j<m/\P j)=>hP (e▸h.2)]
  ·exact de (lt e)
namespace L3
noncomputable def mkQ(ps:List Ch)(p:Nat)(nm:Str)(m:Nat)(q:Nat->List Msg):Nat->List Msg:=λ j=>if j<m/\(ps.getD j (0,0)).1=p then q j++[.mark nm] else q j
noncomputable def mkT(ps:List Ch)(p:Nat)(m:Nat)(t:Nat->Nat×List Int):Nat->Nat×List Int:=λ j=>if j<m/\(ps.getD j (0,0)).2=p then(1,(t j).2) else t j
noncomputable def gT(ps:List Ch)(p m:Nat)(s:SnA):SnA:={ s with t:=mkT ps p m s.t }
noncomputable def i7(ps:List Ch)(p i:Nat)(nm:Str)(m:Nat)(S:A):A:={ (eA i (gT ps p m) S) with q:=mkQ ps p nm m S.q }
noncomputable def ij(ps:List Ch)(p i:Nat)(nm:Str)(S:A):A:=i7 ps p i nm ps.length (eA i (fD p (some (S.c p))) (eA i (fA p (some (S.b p))) S))
variable{sz:Nat}{ps:List Ch}{S:A}{σ:aa}
theorem A.ext{S S':A}(h1:S.b=S'.b)(h2:S.q=S'.q)(h3:S.c=S'.c)(h4:S.s=S'.s):S=S':=by
 cases S;cases S';cases h1;cases h2;cases h3;cases h4;rfl
theorem j7{l m:List SnA}{i:Nat}{f:SnA->SnA}(h1:(l[i]?).map f=m[i]?)(h2:∀n,i≠n->l[n]?=m[n]?):l.modify i f=m:=by
 apply List.ext_getElem?;intro n;by_cases h:i=n
 ·rw[<-h,List.getElem?_modify_eq];exact h1
 ·rw[List.getElem?_modify_ne _ _ h];exact h2 n h
theorem B0{j:Nat}{P:Prop}:¬(j<0/\P):=λ h=>Nat.not_lt_zero _ h.1
theorem BY{j:Nat}{P:Prop}:¬(j<j/\P):=λ h=>Nat.lt_irrefl _ h.1
theorem pf(ps:List Ch)(p i:Nat)(nm:Str)(S:A):i7 ps p i nm 0 S=S:=
 A.ext rfl (funext λ j=>show mkQ ps p nm 0 S.q j=S.q j from if_neg B0) rfl (j7 (by
  cases S.s[i]? with
  |none=>rfl
  |some s=>exact congrArg (λ t=>some { s with t:=t }) (funext λ j=>if_neg B0)) λ _ _=>rfl)
theorem mod_mod{l:List SnA}{i:Nat}{f g:SnA->SnA}:(l.modify i f).modify i g=l.modify i (λ s=>g (f s)):=
 j7 (by rw[List.getElem?_modify_eq,List.getElem?_modify_eq];cases l[i]?<;>rfl) λ n h=>by rw[List.getElem?_modify_ne _ _ h,List.getElem?_modify_ne _ _ h]
theorem mod_congr{l:List SnA}{i:Nat}{f g:SnA->SnA}{s:SnA}(hs:l[i]?=some s)(h:f s=g s):l.modify i f=l.modify i g:=
 j7 (by rw[List.getElem?_modify_eq,hs];exact congrArg some h) λ n h=>(List.getElem?_modify_ne _ _ h).symm
theorem mod_self{i:Nat}{s:SnA}{f:SnA->SnA}(hs:S.s[i]?=some s):(eA i f S).s[i]?=some (f s):=by
 rw[cY,if_pos rfl,hs];rfl
theorem pg(ps:List Ch)(p i:Nat)(nm:Str)(m:Nat)(S:A){c:Ch}{s:SnA}(hc:ps[m]?=some c)(hs:S.s[i]?=some s) :
  i7 ps p i nm (m+1) S=(let T:=if c.2=p then eA i (fT m (1,(s.t m).2)) (i7 ps p i nm m S) else i7 ps p i nm m S
   if c.1=p then gG m (S.q m++[.mark nm]) T else T):=by
 have hg:ps.getD m (0,0)=c:=by rw[List.getD_eq_getElem?_getD,hc];rfl
 have hq:mkQ ps p nm (m+1) S.q=if c.1=p then(λ j=>if j=m then S.q m++[.mark nm] else mkQ ps p nm m S.q j) else mkQ ps p nm m S.q:=hg▸qB (P:=λ j=>(ps.getD j (0,0)).1=p)
 have ht:mkT ps p (m+1) s.t=if c.2=p then(λ j=>if j=m then(1,(s.t m).2) else mkT ps p m s.t j) else mkT ps p m s.t:=hg▸qB (P:=λ j=>(ps.getD j (0,0)).2=p)
 show _=if c.1=p then gG m (S.q m++[.mark nm]) (if c.2=p then _ else _) else(if c.2=p then _ else _)
 have fin:∀T:A,T.b=S.b->T.q=mkQ ps p nm m S.q->T.c=S.c->S.s.modify i (gT ps p (m+1))=T.s->i7 ps p i nm (m+1) S=if c.1=p then gG m (S.q m++[.mark nm]) T else T:=λ T e1 e2 e3 e4=>by
  by_cases h1:c.1=p
  ·rw[if_pos h1] at hq ⊢;exact A.ext e1.symm (hq.trans (by rw[<-e2];rfl)) e3.symm e4
  ·rw[if_neg h1] at hq ⊢;exact A.ext e1.symm (hq.trans e2.symm) e3.symm e4
 by_cases h2:c.2=p
 ·rw[if_pos h2] at ht ⊢;exact fin _ rfl rfl rfl ((mod_congr hs (congrArg (λ t=>({ s with t:=t }:SnA)) ht)).trans mod_mod.symm)
 ·rw[if_neg h2] at ht ⊢;exact fin _ rfl rfl rfl (mod_congr hs (congrArg (λ t=>({ s with t:=t }:SnA)) ht))
theorem Rep.nS{i:Nat}{s:SnA}(R:Rep sz ps S σ)(hs:S.s[i]?=some s):σ[ad ps.length (.s i)]?=some (.lst [.d (.str s.name),.o (ad ps.length (.a i)),.o (ad ps.length (.d i)),.o (ad ps.length (.T i))]):=(R.at' (.s i) (az hs)).trans (congrArg (Option.map _) hs)
theorem Rep.nA{i:Nat}{s:SnA}(R:Rep sz ps S σ)(hs:S.s[i]?=some s):σ[ad ps.length (.a i)]?=some (lO (((List.range sz).map s.a).map eOI)):=(R.at' (.a i) (az hs)).trans (congrArg (Option.map _) hs)
theorem Rep.nD{i:Nat}{s:SnA}(R:Rep sz ps S σ)(hs:S.s[i]?=some s):σ[ad ps.length (.d i)]?=some (lO (((List.range sz).map s.c).map eON)):=(R.at' (.d i) (az hs)).trans (congrArg (Option.map _) hs)
theorem Rep.nM{i j:Nat}{s:SnA}(R:Rep sz ps S σ)(hs:S.s[i]?=some s)(hj:j<ps.length):σ[ad ps.length (.m i j)]?=some (.lst [.d (.str (cD (s.t j).1)),.o (ad ps.length (.t i j))]):=(R.at' (.m i j) ⟨az hs,hj⟩).trans (congrArg (Option.map _) hs)
theorem Rep.nt{i j:Nat}{s:SnA}(R:Rep sz ps S σ)(hs:S.s[i]?=some s)(hj:j<ps.length):σ[ad ps.length (.t i j)]?=some (lO ((s.t j).2.map .int)):=(R.at' (.t i j) ⟨az hs,hj⟩).trans (congrArg (Option.map _) hs)
theorem zr{i:Nat}{s:SnA}{f:SnA->SnA}(P:Prop){D:Decidable P}(hs:S.s[i]?=some s)(hf:(f s).name=s.name):∃s',(@ite A P D (eA i f S) S).s[i]?=some s'/\s'.name=s.name/\(@ite A P D (eA i f S) S).q=S.q:=by
 by_cases h:P
 ·rw[if_pos h];exact⟨_,mod_self hs,hf,rfl⟩
 ·rw[if_neg h];exact⟨_,hs,rfl,rfl⟩
theorem Wp.sW{Φ:Or}{r:List Stmt}{ρ:ah}{S':A}{σ':aa}{K:Out->ah->aa->Prop}(R':Rep sz ps S' σ')(h:∀τ,Rep sz ps S' τ->Wp (xs Φ r ρ τ) K):Wp (xs Φ r ρ σ') K:=h _ R'
noncomputable def za:Fn:=(prg.mt "_save").getD ⟨[],[]⟩
theorem zY:prg.mt "_save"=some za:=rfl
end L3
namespace L3
namespace save_run_e
noncomputable section
def P(sz:Nat)(ps:List Ch)(S:A)(σ:aa)(n:Nat)(i:Nat)(p:Nat)(s:SnA):Prop:=∀(R:Rep sz ps S σ) (hp:p<sz) (hs:S.s[i]?=some s) (hq:∀j,j<ps.length->(S.q j).length<LIM),∃v σ',(prg.run (n+2)).M "_save" [.o 0,.d (.int p),.o (ad ps.length (.s i))] σ=some (v,σ')/\(v=.d .none/\Rep sz ps (ij ps p i s.name S) σ')
def x:(Nat)×(List Ch)×(A)×(aa)×(Nat)×(Nat)×(Nat)×(SnA):=@Classical.epsilon _ ⟨(default,default,⟨λ _=>0,λ _=>[],λ _=>0,[]⟩,default,default,default,default,⟨default,λ _=>none,λ _=>none,λ _=>(0,[])⟩)⟩ λ x=>¬P x.1 x.2.1 x.2.2.1 x.2.2.2.1 x.2.2.2.2.1 x.2.2.2.2.2.1 x.2.2.2.2.2.2.1 x.2.2.2.2.2.2.2
def sz:Nat:=x.1
def ps:List Ch:=x.2.1
def S:A:=x.2.2.1
def σ:aa:=x.2.2.2.1
def n:Nat:=x.2.2.2.2.1
def i:Nat:=x.2.2.2.2.2.1
def p:Nat:=x.2.2.2.2.2.2.1
def s:SnA:=x.2.2.2.2.2.2.2
theorem core:P sz ps S σ n i p s:=λ R hp hs hq=>by
 refine sP zY rfl (Wp.asg (v:=.d (.int (S.b p))) (aj rfl (aV (ar rfl rfl rfl (R.at' .me trivial)) (R.at' .me trivial) rfl (R.at' .b trivial) rfl) rfl (eF (R.at' .b trivial) (rg3 hp))) (Wp.asg (v:=.d (.int (S.c p:Nat))) (aj rfl (aV (ar rfl rfl rfl (R.at' .me trivial)) (R.at' .me trivial) rfl (R.at' .c trivial) rfl) rfl (eF (R.at' .c trivial) (rg3 hp))) ?_));refine Wp.tD rfl (aj rfl (aO rfl rfl rfl (R.nS hs)) rfl (bI (j:=1) (R.nS hs) rfl (R.nA hs))) rfl (cg (R.nA hs) (t8 hp)) (Wp.sW (R.CN i p (some (S.b p)) hs) λ σ1 R1=>?_);have hs1:(eA i (fA p (some (S.b p))) S).s[i]?=some (fA p (some (S.b p)) s):=mod_self hs;refine Wp.tD rfl (aj rfl (aO rfl rfl rfl (R1.nS hs1)) rfl (bI (j:=2) (R1.nS hs1) rfl (R1.nD hs1))) rfl (cg (R1.nD hs1) (t8 hp)) (Wp.sW (R1.CM i p (some (S.c p)) hs1) λ σ2 R2=>?_);have hs2:(eA i (fD p (some (S.c p))) (eA i (fA p (some (S.b p))) S)).s[i]?=some (fD p (some (S.c p)) (fA p (some (S.b p)) s)):=mod_self hs1;have hq2:(eA i (fD p (some (S.c p))) (eA i (fA p (some (S.b p))) S)).q=S.q:=rfl;have hn2:(fD p (some (S.c p)) (fA p (some (S.b p)) s)).name=s.name:=rfl;unfold ij;generalize eA i (fD p (some (S.c p))) (eA i (fA p (some (S.b p))) S)=S2 at R2 hs2 hq2 ⊢;generalize fD p (some (S.c p)) (fA p (some (S.b p)) s)=s2 at hs2 hn2;clear hs1 R1 R;refine Wp.for (cv ax (ys:=ps) (aj rfl (bM (ar rfl rfl rfl (R2.at' .me trivial)) (R2.at' .me trivial) rfl rfl) rfl rfl)) (Wp.forL (fun(x:Ch×Nat)=>V.d (.tuple [.int x.2,ax x.1])) (λ pre ρ σ=>Ov ["k","i","j"] _ ρ/\Rep sz ps (i7 ps p i s.name pre.length S2) σ) ⟨Ov.refl,(pf ps p i s.name S2).symm▸R2⟩ ?_ ?_)
 ·rintro pre ⟨c,m⟩ post ρ σ hy ⟨⟨f,rfl⟩,R3⟩;obtain⟨hm,hc⟩:=qj hy;cases(show m=pre.length from hm);have hlt:=az hc;rw[show(pre++[(c,pre.length)]).length=pre.length+1 from List.length_append,pg ps p i s.name pre.length S2 hc hs2,hq2];have hs3:(i7 ps p i s.name pre.length S2).s[i]?=some (gT ps p pre.length s2):=mod_self (f:=gT ps p pre.length) hs2;have hq3:(i7 ps p i s.name pre.length S2).q pre.length=S.q pre.length:=(if_neg BY).trans (congrFun hq2 _);have ht3:(gT ps p pre.length s2).t pre.length=s2.t pre.length:=if_neg BY;generalize i7 ps p i s.name pre.length S2=S3 at R3 hs3 hq3 ⊢;refine Wp.bind rfl (Wp.xd (Rep sz ps (if c.2=p then eA i (fT pre.length (1,(s2.t pre.length).2)) S3 else S3)) (Wp.x1D (P:=c.2=p) (af (ao rfl rfl (bP kB))) (λ h2=>?_) λ h2=>?_) λ τ R4=>?_)
  ·rw[if_pos h2];exact Wp.tD rfl (aj rfl (aj rfl (aO rfl rfl rfl (R3.nS hs3)) rfl (bI (j:=3) (R3.nS hs3) rfl (R3.at' (.T i) (az hs3)))) rfl (bI (R3.at' (.T i) (az hs3)) (rg hlt) (R3.nM hs3 hlt))) rfl (cg (k:=0) (R3.nM hs3 hlt) (Nat.le_of_ble_eq_true rfl)) (Wp.nil ⟨rfl,rfl,ht3▸R3.setM i pre.length 1 hlt hs3⟩)
  ·rw[if_neg h2];exact Wp.nil ⟨rfl,rfl,R3⟩
  ·obtain⟨s4,hs4,hn4,hq4⟩:=zr (f:=fT pre.length (1,(s2.t pre.length).2)) (c.2=p) hs3 rfl;show Wp _ λ o ρ σ=>_;generalize (if c.2=p then eA i (fT pre.length (1,(s2.t pre.length).2)) S3 else S3)=S4 at R4 hs4 hq4 ⊢;have hq':=R4.at' (.q pre.length) hlt;refine Wp.ifD (P:=c.1=p) (af (ao rfl rfl (bP kB))) (λ h1=>?_) λ h1=>?_
   ·rw[if_pos h1];refine Wp.expr (bR (l:=2+pre.length) (aj rfl (aV (ar rfl rfl rfl (R4.at' .me trivial)) (R4.at' .me trivial) rfl (R4.at' .Q trivial) rfl) rfl (bI (R4.at' .Q trivial) (rg hlt) hq')) hq' (aU (ae rfl (ae (aj rfl (aO rfl rfl rfl (R4.nS hs4)) rfl (eF (j:=0) (R4.nS hs4) rfl)) rfl)) rfl) hq' ?_) (Wp.fin (Wp.nil ⟨by repeat first | exact⟨f,rfl⟩ | refine Ov.upd ?_ rfl,?_⟩))
    ·rw[List.length_map,List.length_map,congrFun hq4,hq3];exact hq pre.length hlt
    ·have:=R4.gG pre.length hlt (S.q pre.length++[.mark s.name]);rw[lO,List.map_append,List.map_append,<-hq3,<-congrFun hq4,<-hn2,<-show s4.name=s2.name from hn4] at this;rw[<-hq3,<-congrFun hq4,<-hn2,<-show s4.name=s2.name from hn4];exact this
   ·rw[if_neg h1];exact Wp.fin (Wp.nil ⟨by repeat first | exact⟨f,rfl⟩ | refine Ov.upd ?_ rfl,R4⟩)
 ·rintro ρ σ ⟨⟨f,rfl⟩,R3⟩;rw[List.length_zipIdx] at R3;exact Wp.nil ⟨_,.inr ⟨rfl,rfl⟩,rfl,R3⟩
end
end save_run_e
variable{sz:Nat}{ps:List Ch}{S:A}{σ:aa}
theorem nF(n i p:Nat){s:SnA}(R:Rep sz ps S σ)(hp:p<sz)(hs:S.s[i]?=some s)(hq:∀j,j<ps.length->(S.q j).length<LIM):∃v σ',(prg.run (n+2)).M "_save" [.o 0,.d (.int p),.o (ad ps.length (.s i))] σ=some (v,σ')/\(v=.d .none/\Rep sz ps (ij ps p i s.name S) σ'):=aw (Q:=λ x:(Nat)×(List Ch)×(A)×(aa)×(Nat)×(Nat)×(Nat)×(SnA)=>save_run_e.P x.1 x.2.1 x.2.2.1 x.2.2.2.1 x.2.2.2.2.1 x.2.2.2.2.2.1 x.2.2.2.2.2.2.1 x.2.2.2.2.2.2.2) save_run_e.core (sz,ps,S,σ,n,i,p,s) R hp hs hq
end L3
end Mine.Internal.Q
end
section
namespace Mine.Internal.Q
open PySem Classical Mine.Internal.L3
namespace L3
variable{sz:Nat}{ps:List Ch}{S:A}{σ:aa}
theorem az{α:Type}{l:List α}{i:Nat}{x:α}(h:l[i]?=some x):i<l.length:=by
 exact(List.getElem?_eq_some_iff.mp h).1
theorem Rep.lt(R:Rep sz ps S σ){x:Key}(hx:kOk ps.length S.s.length x):ad ps.length x<σ.length:=by
 have h:=R.at' x hx;have z:∀{i:Nat} {f:SnA->Nd},i<S.s.length->∃y,(S.s[i]?).map f=some y:=λ {i f} hi=>⟨_,congrArg (Option.map f) (List.getElem?_eq_getElem hi)⟩;have:∃y,nd sz ps S x=some y:=by
  cases x with
  |t i j=>exact z hx.1
  |m i j=>exact z hx.1
  |a i=>exact z hx
  |d i=>exact z hx
  |s i=>exact z hx
  |_=>exact⟨_,rfl⟩
 obtain⟨y,hy⟩:=this;exact az (h.trans hy)
end L3
namespace L3
namespace Rep_grow_e
noncomputable section
def P(sz:Nat)(ps:List Ch)(S:A)(σ:aa)(s0:SnA):Prop:=∀(R:Rep sz ps S σ),Rep sz ps { S with s:=S.s++[s0] } ((σ++blk sz ps.length σ.length s0).set (4+ps.length) (.lst (((List.range S.s.length).map λ i=>.o (ad ps.length (.s i)))++[.o (ad ps.length (.s S.s.length))])))
def x:(Nat)×(List Ch)×(A)×(aa)×(SnA):=@Classical.epsilon _ ⟨(default,default,⟨λ _=>0,λ _=>[],λ _=>0,[]⟩,default,⟨default,λ _=>none,λ _=>none,λ _=>(0,[])⟩)⟩ λ x=>¬P x.1 x.2.1 x.2.2.1 x.2.2.2.1 x.2.2.2.2
def sz:Nat:=x.1
def ps:List Ch:=x.2.1
def S:A:=x.2.2.1
def σ:aa:=x.2.2.2.1
def s0:SnA:=x.2.2.2.2
theorem core:P sz ps S σ s0:=λ R=>by
 have hlen:(S.s++[s0]).length=S.s.length+1:=List.length_append;refine⟨?_,λ x hx=>?_⟩
 ·rw[List.length_set,List.length_append,kI,R.len];show _=5+ps.length+(S.s++[s0]).length*(2*ps.length+4);rw[hlen,show(S.s.length+1)*(2*ps.length+4)=S.s.length*(2*ps.length+4)+(2*ps.length+4) from Nat.succ_mul _ _];exact Nat.add_assoc _ _ _
 ·replace hx:kOk ps.length (S.s.length+1) x:=by rw[<-hlen];exact hx
  by_cases hS:x=.S
  ·subst hS;have:=R.lt (x:=.S) trivial;rw[ad,List.getElem?_set_self (by rw[List.length_append];exact Nat.lt_of_lt_of_le this (Nat.le_add_right _ _))];simp only[nd,hlen,List.range_succ,List.map_append];rfl
  have hne:ad ps.length .S≠ad ps.length x:=λ q=>hS (vL (ns:=S.s.length+1) (x:=.S) trivial hx q).symm;rw[show 4+ps.length=ad ps.length .S from rfl,List.getElem?_set_ne hne];by_cases hold:kOk ps.length S.s.length x
  ·rw[List.getElem?_append_left (R.lt hold),R.at' x hold];have old:∀i,i<S.s.length->(S.s++[s0])[i]?=S.s[i]?:=λ i hi=>List.getElem?_append_left hi;cases x with
   |t i j=>simp only[nd,old i hold.1]
   |m i j=>simp only[nd,old i hold.1]
   |a i=>simp only[nd,old i hold]
   |d i=>simp only[nd,old i hold]
   |s i=>simp only[nd,old i hold]
   |S=>exact absurd rfl hS
   |_=>rfl
  ·have hi:∀i,i<S.s.length+1->¬i<S.s.length->i=S.s.length:=λ i h1 h2=>Nat.le_antisymm (Nat.le_of_lt_succ h1) (Nat.not_lt.mp h2);have new:(S.s++[s0])[S.s.length]?=some s0:=List.getElem?_concat_length;have hL:=R.len;have pos:∀r,(σ++blk sz ps.length σ.length s0)[5+ps.length+S.s.length*(2*ps.length+4)+r]?=(blk sz ps.length σ.length s0)[r]?:=λ r=>by
    rw[<-hL,List.getElem?_append_right (Nat.le_add_right _ _),Nat.add_sub_cancel_left]
   cases x with
   |t i j=>
    obtain rfl:=hi i hx.1 (λ h=>hold ⟨h,hx.2⟩);rw[ad,pos];have:=kH sz ps.length σ.length s0 j 0 hx.2 (by exact Nat.le_add_left _ _);refine Eq.trans this ?_;simp only[nd,new];rfl
   |m i j=>
    obtain rfl:=hi i hx.1 (λ h=>hold ⟨h,hx.2⟩);rw[ad,pos,kH _ _ _ _ _ _ hx.2 (by exact Nat.le_refl _)];simp only[nd,new,Option.map_some,ad,<-hL];rfl
   |T i=>
    obtain rfl:=hi i hx hold;rw[ad,pos];have:=d4 sz ps.length σ.length s0 0;refine Eq.trans this ?_;simp only[nd,ad,<-hL];rfl
   |a i=>
    obtain rfl:=hi i hx hold;rw[ad,pos,d4];simp only[nd,new];rfl
   |d i=>
    obtain rfl:=hi i hx hold;rw[ad,pos,d4];simp only[nd,new];rfl
   |s i=>
    obtain rfl:=hi i hx hold;rw[ad,pos,d4];simp only[nd,new,Option.map_some,ad,<-hL];rfl
   |q j=>exact absurd hx hold
   |_=>exact absurd trivial hold
end
end Rep_grow_e
variable{sz:Nat}{ps:List Ch}{S:A}{σ:aa}
theorem Rep.grow(R:Rep sz ps S σ)(s0:SnA):Rep sz ps { S with s:=S.s++[s0] } ((σ++blk sz ps.length σ.length s0).set (4+ps.length) (.lst (((List.range S.s.length).map λ i=>.o (ad ps.length (.s i)))++[.o (ad ps.length (.s S.s.length))]))):=aw (Q:=λ x:(Nat)×(List Ch)×(A)×(aa)×(SnA)=>Rep_grow_e.P x.1 x.2.1 x.2.2.1 x.2.2.2.1 x.2.2.2.2) Rep_grow_e.core (sz,ps,S,σ,s0) R
noncomputable def m_find:Fn:=(prg.mt "_find").getD ⟨[],[]⟩
theorem z6:prg.mt "_find"=some m_find:=rfl
noncomputable def NoN(l:List SnA)(nm:Str)(i:Nat):Prop:=∀i' s,i'<i->l[i']?=some s->s.name≠nm
theorem NoN.zero{l:List SnA}{nm:Str}:NoN l nm 0:=λ _ _ h=>absurd h (Nat.not_lt_zero _)
theorem NoN.succ{l:List SnA}{nm:Str}{i:Nat}{s:SnA}(h:NoN l nm i)(hs:l[i]?=some s)(hn:s.name≠nm):NoN l nm (i+1):=λ i' s' h1 h2=>by
 by_cases e:i'=i
 ·rw[e,hs] at h2;exact Option.some.inj h2▸hn
 ·exact h i' s' (Nat.lt_of_le_of_ne (Nat.le_of_lt_succ h1) e) h2
theorem NoN.all{β:Type}{f:Nat->β}{l:List SnA}{nm:Str}(h:NoN l nm ((List.range l.length).map f).length):¬∃s∈l,s.name=nm:=fun⟨s,h1,h2⟩=>by
 rw[List.length_map,List.length_range] at h;exact(List.mem_iff_getElem?.1 h1).elim λ i h3=>h i s (az h3) h3 h2
theorem qR{β:Type}{n i:Nat}{f:Nat->β}{v:β}(h:((List.range n).map f)[i]?=some v):i<n/\v=f i:=by
 have hi:i<n:=Nat.lt_of_lt_of_eq (az h) ((List.length_map _).trans List.length_range);exact⟨hi,Option.some.inj (h.symm.trans (rg hi))⟩
end L3
namespace L3
namespace find_run_e
noncomputable section
def P(sz:Nat)(ps:List Ch)(S:A)(n:Nat)(nm:Str):Prop:=∀(σ:aa) (R:Rep sz ps S σ) (hlen:S.s.length<300) (hm:∃s∈S.s,s.name=nm),∃v σ',(prg.run (n+2)).M "_find" [.o 0,.d (.str nm)] σ=some (v,σ')/\(σ'=σ/\∃i s,S.s[i]?=some s/\s.name=nm/\v=.o (ad ps.length (.s i)))
def x:(Nat)×(List Ch)×(A)×(Nat)×(Str):=@Classical.epsilon _ ⟨(default,default,⟨λ _=>0,λ _=>[],λ _=>0,[]⟩,default,default)⟩ λ x=>¬P x.1 x.2.1 x.2.2.1 x.2.2.2.1 x.2.2.2.2
def sz:Nat:=x.1
def ps:List Ch:=x.2.1
def S:A:=x.2.2.1
def n:Nat:=x.2.2.2.1
def nm:Str:=x.2.2.2.2
theorem core:P sz ps S n nm:=λ σ R hlen hm=>by
 refine sP z6 rfl (Wp.jc (l:=4+ps.length) (σ1:=σ) ?_ ?_)
 ·show srcOf (ev _ _ _ _)=_;rw[aV (ar rfl rfl rfl (R.at' .me trivial)) (R.at' .me trivial) rfl (R.at' .S trivial) rfl];rfl
 refine Wp.xl ((List.range S.s.length).map λ i=>.o (ad ps.length (.s i))) (λ i ρ τ=>Ov ["s"] _ ρ/\τ=σ/\NoN S.s nm i) (by rw[List.length_map,List.length_range];exact hlen) ⟨Ov.refl,rfl,NoN.zero⟩ (λ i ρ τ h=>h.2.1▸R.at' .S trivial) ?_ ?_
 ·rintro i v ρ τ hv ⟨⟨f,rfl⟩,rfl,hp⟩;obtain⟨hi,rfl⟩:=qR hv;have hs:=List.getElem?_eq_getElem hi;rw[show dr τ (V.o (ad ps.length (.s i)))=V.o (ad ps.length (.s i)) from congrArg (drN _) (R.nS hs)];exact Wp.bind rfl (Wp.ifD (P:=S.s[i].name=nm) (af (ao (aj rfl (aO rfl rfl rfl (R.nS hs)) rfl (eF (j:=0) (R.nS hs) rfl)) rfl (eV rfl))) (λ q=>Wp.ret (aO rfl rfl rfl (R.nS hs)) ⟨_,.inl rfl,rfl,i,_,hs,q,rfl⟩) λ q=>Wp.fin (Wp.nil ⟨Ov.upd ⟨f,rfl⟩ rfl,rfl,hp.succ hs q⟩))
 ·exact λ ρ τ h=>absurd hm h.2.2.all
end
end find_run_e
variable{sz:Nat}{ps:List Ch}{S:A}{σ:aa}
theorem uu(n:Nat)(nm:Str)(R:Rep sz ps S σ)(hlen:S.s.length<300)(hm:∃s∈S.s,s.name=nm):∃v σ',(prg.run (n+2)).M "_find" [.o 0,.d (.str nm)] σ=some (v,σ')/\(σ'=σ/\∃i s,S.s[i]?=some s/\s.name=nm/\v=.o (ad ps.length (.s i))):=aw (Q:=λ x:(Nat)×(List Ch)×(A)×(Nat)×(Str)=>find_run_e.P x.1 x.2.1 x.2.2.1 x.2.2.2.1 x.2.2.2.2) find_run_e.core (sz,ps,S,n,nm) σ R hlen hm
end L3
end Mine.Internal.Q
end
section
namespace Mine.Internal.Q
open PySem Classical Mine.Internal.L3
namespace L3
theorem nb{α:Type}{x y:α}{l:List α}(h:x∉l)(hy:y∈l):(!decide (y=x))=true:=congrArg not (decide_eq_false fun(e:y=x)=>h (e▸hy))
theorem ns{α:Type}{x:α}:¬(!decide (x=x))=true:=λ h=>by cases(congrArg not (decide_eq_true (rfl:x=x))).symm.trans h
theorem bh{α:Type}{x:α}{l r:List α}(h:x∉l):before x (l++x::r)=l:=
 (List.takeWhile_append_of_pos λ y hy=>nb h hy).trans ((congrArg (l++·) (List.takeWhile_cons_of_neg ns)).trans (List.append_nil l))
theorem fb{α:Type}{x:α}{l r:List α}(h:x∉l):since x (l++x::r)=x::r:=
 (List.dropWhile_append_of_pos λ y hy=>nb h hy).trans (List.dropWhile_cons_of_neg ns)
end L3
theorem bF{α:Type}{ps:List α}{c:α}(h:c∈ps):ps[(L3.before c ps).length]?=some c:=by
 obtain⟨a,b,rfl,hna⟩:=List.eq_append_cons_of_mem h;rw[L3.bh hna,List.getElem?_append_right (Nat.le_refl _),Nat.sub_self];rfl
theorem uU{Φ:Or}{own:Bool}{σ:aa}{l:Nat}{xs:List V}(h:σ[l]?=some (.lst xs)):dZ Φ own "len" [.o l] σ=some (.d (.int xs.length),σ):=by
 show(match σ[l]? with | some (.lst xs)=>some (V.d (.int xs.length),σ) | _=>none)=_;rw[h]
theorem kW{α:Type}(x:α)(n:Nat):times [x] n=List.replicate n x:=by
 induction n with
 |zero=>rfl
 |succ n ih=>rw[times,ih];rfl
theorem mO{σ:aa}{n:Nat}{x:PyData}(h:n<=50000):sS true .Mult (.d (.list [x])) (.d (.int n)) σ=some (.o σ.length,σ++[.lst ((List.replicate n x).map .d)]):=by
 show((if [x].length*(n:Int).toNat<=LIM/\0<=(n:Int)/\(n:Int)<=(LIM:Int) then some (PyData.list (times [x] (n:Int).toNat)) else none).bind λ r=>match true,r with
  |true,.list xs=>some (fresh (.lst (xs.map .d)) σ)
  |true,_=>none
  |false,r=>some (.d r,σ))=_
 rw[if_pos ⟨by simp[LIM];exact Nat.le_trans ‹_› (by decide),by exact Int.natCast_nonneg _,by simp[LIM];exact Int.ofNat_le.2 (Nat.le_trans ‹_› (by decide))⟩,Int.toNat_natCast,kW];rfl
theorem tA{σ:aa}{l l':Nat}{xs ys:List V}(h:σ[l]?=some (.lst (xs++[.o l'])))(h':σ[l']?=some (.lst ys)):gF σ (.o l) (.d (.int (-1)))=some (.o l'):=by
 refine(congrArg (wa σ (.d (.int (-1)))) h).trans (bi nE ?_);rw[List.getElem?_concat_length];exact congrArg (λ q=>some (drN l' q)) h'
namespace L3
theorem v5(ps:List Ch)(L:Nat):(ps.zipIdx.flatMap λ x=>[lO [],Nd.lst [.d (.str "idle"),.o (L+x.2*2)]])=((List.range ps.length).map λ _=>((0:Nat),([]:List Int))).zipIdx.flatMap (trk L):=by
 have:((List.range ps.length).map λ _=>((0:Nat),([]:List Int)))=List.replicate ps.length (0,[]):=by simp[List.map_const']
 rw[this];have gen:∀(ps:List Ch) (m:Nat),((ps.zipIdx m).flatMap λ x=>[lO [],Nd.lst [.d (.str "idle"),.o (L+x.2*2)]])=((List.replicate ps.length ((0:Nat),([]:List Int))).zipIdx m).flatMap (trk L):=by
  intro ps
  induction ps with
  |nil=>intro m;rfl
  |cons c r ih=>
   intro m;rw[List.zipIdx_cons,List.flatMap_cons,ih,List.length_cons,List.replicate_succ,List.zipIdx_cons,List.flatMap_cons];rfl
 exact gen ps 0
variable{sz:Nat}{ps:List Ch}{S:A}{σ:aa}
noncomputable def kN(nm:Str):SnA:=⟨nm,λ _=>none,λ _=>none,λ _=>(0,[])⟩
noncomputable def w4:Fn:=(prg.mt "_apply").getD ⟨[],[]⟩
theorem eS:prg.mt "_apply"=some w4:=rfl
noncomputable def Told(sz:Nat)(ps:List Ch)(t:Str)(S':A)(v:V)(σ':aa):Prop:=v=.d (.str t)/\Rep sz ps S' σ'
end L3
namespace L3
namespace apply_snap_e
noncomputable section
def P(sz:Nat)(ps:List Ch)(S:A)(n:Nat)(p:Nat)(nm:Str):Prop:=∀(σ:aa) (R:Rep sz ps S σ) (hlen:S.s.length<299) (hsz:sz<=50000) (hpz:p<sz) (hq:∀j,j<ps.length->(S.q j).length<LIM),∃v σ',(prg.run (n+3)).M "_apply" [.o 0,.d (eB (.snap p nm))] σ=some (v,σ')/\
   (if ∃s∈S.s,s.name=nm then Told sz ps "known" S v σ' else Told sz ps "done" (ij ps p S.s.length nm { S with s:=S.s++[kN nm] }) v σ')
def x:(Nat)×(List Ch)×(A)×(Nat)×(Nat)×(Str):=@Classical.epsilon _ ⟨(default,default,⟨λ _=>0,λ _=>[],λ _=>0,[]⟩,default,default,default)⟩ λ x=>¬P x.1 x.2.1 x.2.2.1 x.2.2.2.1 x.2.2.2.2.1 x.2.2.2.2.2
def sz:Nat:=x.1
def ps:List Ch:=x.2.1
def S:A:=x.2.2.1
def n:Nat:=x.2.2.2.1
def p:Nat:=x.2.2.2.2.1
def nm:Str:=x.2.2.2.2.2
theorem core:P sz ps S n p nm:=λ σ R hlen hsz hpz hq=>by
 refine sP eS rfl ?_;refine Wp.ifT rfl ?_;refine Wp.jc (l:=4+ps.length) (σ1:=σ) ?_ ?_
 ·show srcOf (ev _ _ _ _)=_;rw[aV (ar rfl rfl rfl (R.at' .me trivial)) (R.at' .me trivial) rfl (R.at' .S trivial) rfl];rfl
 refine Wp.xl ((List.range S.s.length).map λ i=>.o (ad ps.length (.s i))) (λ i ρ τ=>Ov ["s"] _ ρ/\τ=σ/\NoN S.s nm i) (by rw[List.length_map,List.length_range];exact Nat.lt_trans hlen (by decide:299<300)) ⟨Ov.refl,rfl,NoN.zero⟩ (λ i ρ τ h=>h.2.1▸R.at' .S trivial) ?_ ?_
 ·rintro i v ρ τ hv ⟨⟨f,rfl⟩,rfl,hp⟩;obtain⟨hi,rfl⟩:=qR hv;have hs:=List.getElem?_eq_getElem hi;rw[show dr τ (V.o (ad ps.length (.s i)))=V.o (ad ps.length (.s i)) from congrArg (drN _) (R.nS hs)];refine Wp.bind rfl (Wp.ifD (P:=S.s[i].name=nm) (af (ao (aj rfl (aO rfl rfl rfl (R.nS hs)) rfl (eF (j:=0) (R.nS hs) rfl)) rfl (eV rfl))) (λ q=>Wp.ret rfl ⟨_,.inl rfl,?_⟩) λ q=>Wp.fin (Wp.nil ⟨Ov.upd ⟨f,rfl⟩ rfl,rfl,hp.succ hs q⟩));show if _ then _ else _
  rw[if_pos ⟨S.s[i],List.getElem_mem _,q⟩];exact⟨rfl,R⟩
 ·rintro ρ τ ⟨⟨f,rfl⟩,rfl,hp⟩;have hno:=hp.all;refine Wp.asg (aq (ae (aV (ar rfl rfl rfl (R.at' .me trivial)) (R.at' .me trivial) rfl (R.at' .b trivial) rfl) rfl) (uU (R.at' .b trivial))) ?_;rw[show((((List.range sz).map S.b).map PyData.int).map V.d).length=sz by rw[List.length_map,List.length_map,List.length_map,List.length_range]];refine Wp.asg (v:=.o (τ.length+ps.length*2)) (σ1:=τ++((List.range ps.length).map (kN nm).t).zipIdx.flatMap (trk τ.length)++[.lst ((List.range ps.length).map λ j=>.o (τ.length+(j*2+1)))]) (dY (xs:=ps.map λ c=>V.d (ax c)) (σ1:=τ) ?_ (iM (λ c=>V.d (ax c)) (λ L (c:Ch)=>[lO [],.lst [.d (.str "idle"),.o L]]) 2 1 (λ _ _ _=>rfl) ?_) ?_) ?_
  ·show iK (ev _ _ _ _)=_;rw[aj rfl (bM (ar rfl rfl rfl (R.at' .me trivial)) (R.at' .me trivial) rfl rfl) rfl (r:=.d (.list (ps.map ax))) rfl];show some (List.map V.d (List.map ax _),_)=_;rw[List.map_map];rfl
  ·intro t ht σ;refine⟨_,rfl,rfl,?_⟩;show some (V.o (σ++[lO []]).length,(σ++[lO []])++[.lst [.d (.str "idle"),.o σ.length]])=_;simp
  ·show some (V.o (_++_:List Nd).length,(_++_:List Nd)++[Nd.lst _])=_;rw[List.length_append,cI (B:=2) _ (λ x _=>rfl),v5];simp;rfl
  have hk:(τ++((List.range ps.length).map (kN nm).t).zipIdx.flatMap (trk τ.length)).length=τ.length+ps.length*2:=by
   rw[List.length_append,cI (B:=2) _ (λ x _=>rfl)];simp
  have hlS:4+ps.length<τ.length:=R.lt (x:=.S) trivial;have get:∀(x:Key),kOk ps.length S.s.length x->∀r:List Nd,(τ++r)[ad ps.length x]?=nd sz ps S x:=λ x hx r=>by
   rw[List.getElem?_append_left (R.lt hx)];exact R.at' x hx
  generalize hθ:((List.range ps.length).map (kN nm).t).zipIdx.flatMap (trk τ.length)=θ at hk ⊢;generalize hT:Nd.lst ((List.range ps.length).map λ j=>V.o (τ.length+(j*2+1)))=T at hk ⊢;have l1:(τ++θ++[T]).length=τ.length+(2*ps.length+1):=by rw[List.length_append,hk];simp;lia
  have l2:∀a,((τ++θ++[T])++[a]).length=τ.length+(2*ps.length+2):=λ a=>by rw[List.length_append,l1];simp;rfl
  have l3:∀a b,(((τ++θ++[T])++[a])++[b]).length=ad ps.length (.s S.s.length):=λ a b=>by rw[List.length_append,l2,R.len,ad];simp;rfl
  refine Wp.expr (bR (l:=4+ps.length) (xs':=(List.range S.s.length).map λ i=>.o (ad ps.length (.s i))) (xs:=(List.range S.s.length).map λ i=>.o (ad ps.length (.s i))) (σ1:=τ++θ++[T]) (σ2:=τ++blk sz ps.length τ.length (kN nm)) (v:=.o (ad ps.length (.s S.s.length))) (aV (ar rfl rfl rfl (by rw[List.append_assoc];exact get .me trivial _)) (by rw[List.append_assoc];exact get .me trivial _) rfl (by rw[List.append_assoc];exact get .S trivial _) rfl) (by rw[List.append_assoc];exact get .S trivial _) (gB (ae rfl (ae (aK rfl rfl (mO hsz)) (ae (aK rfl rfl (mO hsz)) (ae (aO (xs:=(List.range ps.length).map λ j=>V.o (τ.length+(j*2+1))) rfl rfl rfl ?_) rfl)))) ?_) (get .S trivial _) (by simp[LIM];exact Nat.le_trans ‹_› (by decide))) (Wp.sW (R.grow (kN nm)) λ σ2 R2=>?_)
  ·rw[List.append_assoc,List.append_assoc,List.getElem?_append_right (by exact Nat.le_of_eq ‹_›),hk,Nat.sub_self,hT];rfl
  ·show some (V.o ((((τ++θ++[T])++[_])++[_]):List Nd).length,(((τ++θ++[T])++[_])++[_])++[Nd.lst [V.d (.str nm),V.o (τ++θ++[T]).length,V.o ((τ++θ++[T])++[_]).length,V.o (τ.length+ps.length*2)]])=_;rw[l3,l2,l1,blk,<-hθ,<-hT,Nat.mul_comm ps.length 2];simp only[List.append_assoc];have e1:Nd.lst (List.map V.d (List.replicate sz PyData.none))=lO (((List.range sz).map (kN nm).a).map eOI):=by
    simp[lO,kN,List.map_const',eOI,Function.comp_def]
   have e2:Nd.lst (List.map V.d (List.replicate sz PyData.none))=lO (((List.range sz).map (kN nm).c).map eON):=by
    simp[lO,kN,List.map_const',eON,Function.comp_def]
   rw[<-e1,<-e2];rfl
  have hs2:(S.s++[kN nm])[S.s.length]?=some (kN nm):=List.getElem?_concat_length;have hSS:σ2[4+ps.length]?=some (.lst (((List.range S.s.length).map λ i=>.o (ad ps.length (.s i)))++[.o (ad ps.length (.s S.s.length))])):=(R2.at' .S trivial).trans (by
   show some (Nd.lst ((List.range (S.s++[kN nm]).length).map _))=_;rw[List.length_append,show [kN nm].length=1 from rfl,List.range_succ,List.map_append];rfl)
  refine bC λ k9=>?_;obtain⟨v,σ3,h3,rfl,R3⟩:=nF n S.s.length p R2 hpz hs2 hq;refine k9 ?_;refine Wp.expr (iG (ar rfl rfl rfl (R2.at' .me trivial)) (R2.at' .me trivial) rfl (ae rfl (ae (aj rfl (aV (ar rfl rfl rfl (R2.at' .me trivial)) (R2.at' .me trivial) rfl hSS rfl) rfl (tA hSS (R2.nS hs2))) rfl)) (R2.at' .me trivial) rfl h3) ?_;refine Wp.ret rfl ⟨_,.inl rfl,?_⟩;show if _ then _ else _
  rw[if_neg hno];exact⟨rfl,R3⟩
end
end apply_snap_e
variable{sz:Nat}{ps:List Ch}{S:A}{σ:aa}
theorem qa(n p:Nat)(nm:Str)(R:Rep sz ps S σ)(hlen:S.s.length<299)(hsz:sz<=50000)(hpz:p<sz)(hq:∀j,j<ps.length->(S.q j).length<LIM):∃v σ',(prg.run (n+3)).M "_apply" [.o 0,.d (eB (.snap p nm))] σ=some (v,σ')/\
   (if ∃s∈S.s,s.name=nm then Told sz ps "known" S v σ' else Told sz ps "done" (ij ps p S.s.length nm { S with s:=S.s++[kN nm] }) v σ'):=aw (Q:=λ x:(Nat)×(List Ch)×(A)×(Nat)×(Nat)×(Str)=>apply_snap_e.P x.1 x.2.1 x.2.2.1 x.2.2.2.1 x.2.2.2.2.1 x.2.2.2.2.2) apply_snap_e.core (sz,ps,S,n,p,nm) σ R hlen hsz hpz hq
end L3
end Mine.Internal.Q
end
section
namespace Mine.Internal.Q
open PySem Classical Mine.Internal.L3
theorem jN{σ:aa}{l:Nat}{xs:List V}(h:σ[l]?=some (.lst xs)):dH σ (.o l)=some (!xs.isEmpty):=by
 exact congrArg BS h
theorem se{Φ:Or}{o e:Expr}{p q:Pos}{ρ:ah}{σ σ1:aa}{l:Nat}{x:PyData}{xs:List V}(h1:ev Φ o ρ σ=some (.o l,σ1))(h2:σ1[l]?=some (.lst (.d x::xs)))(h3:ev Φ e ρ σ1=some (.d (.int 0),σ1)):ev Φ (.Call (.Attribute o "pop" p) [e] [] q) ρ σ=some (.d x,σ1.set l (.lst xs)):=by
 exact cZ h1 (k:=1) (sR h2 rfl) (ae h3 rfl) (sR h2 rfl) (iP h2 rfl)
namespace L3
variable{sz:Nat}{ps:List Ch}{S:A}{σ:aa}
theorem y3{c:Ch}(hc:c∉ps):i3 σ .NotIn (.d (ax c)) (.d (.list (ps.map ax)))=some true:=by
 rw[dz (b:=decide (c∈ps)) rfl (mem_map cC c ps)];simp[hc]
theorem tT{c:Ch}(hc:c∈ps):i3 σ .NotIn (.d (ax c)) (.d (.list (ps.map ax)))=some false:=by
 rw[dz (b:=decide (c∈ps)) rfl (mem_map cC c ps)];simp[hc]
theorem gh(n:Nat)(c:Ch)(v:Int)(R:Rep sz ps S σ)(hc:c∉ps) :
  ∃w σ',(prg.run (n+3)).M "_apply" [.o 0,.d (eB (.send c v))] σ=some (w,σ')/\Told sz ps "no channel" S w σ':=by
 refine sP eS rfl ?_;refine Wp.ifF rfl (Wp.fin ?_);refine Wp.ifT (af (ao (a:=.d (ax c)) rfl (aj rfl (bM (ar rfl rfl rfl (R.at' .me trivial)) (R.at' .me trivial) rfl rfl) rfl (r:=.d (.list (ps.map ax))) rfl) (y3 hc))) ?_;exact Wp.ret rfl ⟨_,.inl rfl,rfl,R⟩
theorem gi(n:Nat)(c:Ch)(R:Rep sz ps S σ)(hc:c∉ps) :
  ∃w σ',(prg.run (n+3)).M "_apply" [.o 0,.d (eB (.recv c))] σ=some (w,σ')/\Told sz ps "no channel" S w σ':=by
 refine sP eS rfl ?_;refine Wp.ifF rfl (Wp.fin ?_);refine Wp.ifT (af (ao (a:=.d (ax c)) rfl (aj rfl (bM (ar rfl rfl rfl (R.at' .me trivial)) (R.at' .me trivial) rfl rfl) rfl (r:=.d (.list (ps.map ax))) rfl) (y3 hc))) ?_;exact Wp.ret rfl ⟨_,.inl rfl,rfl,R⟩
noncomputable def tJ(c:Ch)(j:Nat)(v:Int)(S:A):A:=gG j (S.q j++[.pay v]) (setC c.1 (S.c c.1+1) (setB c.1 (S.b c.1-v) S))
end L3
namespace L3
namespace apply_send_e
noncomputable section
def P(sz:Nat)(ps:List Ch)(S:A)(σ:aa)(n:Nat)(c:Ch)(v:Int):Prop:=∀(R:Rep sz ps S σ) (hc:c∈ps) (hz:c.1<sz) (hq:∀j,j<ps.length->(S.q j).length<LIM),∃w σ',(prg.run (n+3)).M "_apply" [.o 0,.d (eB (.send c v))] σ=some (w,σ')/\
   (if S.b c.1<v then Told sz ps "too much" S w σ' else Told sz ps "done" (tJ c (before c ps).length v S) w σ')
def x:(Nat)×(List Ch)×(A)×(aa)×(Nat)×(Ch)×(Int):=@Classical.epsilon _ ⟨(default,default,⟨λ _=>0,λ _=>[],λ _=>0,[]⟩,default,default,default,default)⟩ λ x=>¬P x.1 x.2.1 x.2.2.1 x.2.2.2.1 x.2.2.2.2.1 x.2.2.2.2.2.1 x.2.2.2.2.2.2
def sz:Nat:=x.1
def ps:List Ch:=x.2.1
def S:A:=x.2.2.1
def σ:aa:=x.2.2.2.1
def n:Nat:=x.2.2.2.2.1
def c:Ch:=x.2.2.2.2.2.1
def v:Int:=x.2.2.2.2.2.2
theorem core:P sz ps S σ n c v:=λ R hc hz hq=>by
 refine sP eS rfl ?_;refine Wp.ifF rfl (Wp.fin ?_);refine Wp.ifF (af (ao (a:=.d (ax c)) rfl (aj rfl (bM (ar rfl rfl rfl (R.at' .me trivial)) (R.at' .me trivial) rfl rfl) rfl (r:=.d (.list (ps.map ax))) rfl) (tT hc))) (Wp.fin ?_);refine Wp.asg (iH (aj rfl (bM (ar rfl rfl rfl (R.at' .me trivial)) (R.at' .me trivial) rfl rfl) rfl (r:=.d (.list (ps.map ax))) rfl) (x:=ax c) rfl (idx_map cC c ps hc 0)) ?_;rw[Nat.zero_add];have hj:(before c ps).length<ps.length:=az (bF hc);generalize (before c ps).length=j at hj ⊢;refine Wp.ifT rfl ?_;refine Wp.ifD (P:=S.b c.1<v) (af (ao (a:=.d (.int v)) rfl (aj rfl (aV (ar rfl rfl rfl (R.at' .me trivial)) (R.at' .me trivial) rfl (R.at' .b trivial) rfl) rfl (eF (x:=.int (S.b c.1)) (R.at' .b trivial) (rg3 hz))) rfl)) ?_ ?_
 ·intro q;exact Wp.ret rfl ⟨_,.inl rfl,(if_pos q).mpr ⟨rfl,R⟩⟩
 ·intro q;refine Wp.fin ?_;refine Wp.aug (aV (ar rfl rfl rfl (R.at' .me trivial)) (R.at' .me trivial) rfl (R.at' .b trivial) rfl) rfl (fE (k:=c.1) (i:=S.b c.1) (R.at' .b trivial) (rg3 hz)) (m:=v) rfl rfl (cg (R.at' .b trivial) (t8 hz)) (Wp.sW (R.setB c.1 (S.b c.1-v)) λ σ1 R1=>?_);refine Wp.aug (aV (ar rfl rfl rfl (R1.at' .me trivial)) (R1.at' .me trivial) rfl (R1.at' .c trivial) rfl) rfl (fE (k:=c.1) (i:=(S.c c.1:Nat)) (R1.at' .c trivial) (rg3 hz)) (m:=1) rfl rfl (cg (R1.at' .c trivial) (t8 hz)) (Wp.sW (R1.setC c.1 (S.c c.1+1)) λ σ2 R2=>?_);have hq':=R2.at' (.q j) hj;refine Wp.expr (bR (l:=2+j) (aj rfl (aV (ar rfl rfl rfl (R2.at' .me trivial)) (R2.at' .me trivial) rfl (R2.at' .Q trivial) rfl) rfl (bI (R2.at' .Q trivial) (rg hj) hq')) hq' rfl hq' (by rw[List.length_map,List.length_map];exact hq j hj)) (Wp.sW (S':=tJ c j v S) ?_ λ σ5 R5=>Wp.ret rfl ⟨_,.inl rfl,(if_neg q).mpr ⟨rfl,R5⟩⟩);have:=R2.gG j hj (S.q j++[.pay v]);rw[lO,List.map_append,List.map_append] at this;exact this
end
end apply_send_e
variable{sz:Nat}{ps:List Ch}{S:A}{σ:aa}
theorem qb(n:Nat)(c:Ch)(v:Int)(R:Rep sz ps S σ)(hc:c∈ps)(hz:c.1<sz)(hq:∀j,j<ps.length->(S.q j).length<LIM):∃w σ',(prg.run (n+3)).M "_apply" [.o 0,.d (eB (.send c v))] σ=some (w,σ')/\
   (if S.b c.1<v then Told sz ps "too much" S w σ' else Told sz ps "done" (tJ c (before c ps).length v S) w σ'):=aw (Q:=λ x:(Nat)×(List Ch)×(A)×(aa)×(Nat)×(Ch)×(Int)=>apply_send_e.P x.1 x.2.1 x.2.2.1 x.2.2.2.1 x.2.2.2.2.1 x.2.2.2.2.2.1 x.2.2.2.2.2.2) apply_send_e.core (sz,ps,S,σ,n,c,v) R hc hz hq
theorem kM(n:Nat)(c:Ch)(R:Rep sz ps S σ)(hc:c∈ps)(he:S.q (before c ps).length=[]) :
  ∃w σ',(prg.run (n+3)).M "_apply" [.o 0,.d (eB (.recv c))] σ=some (w,σ')/\Told sz ps "nothing" S w σ':=by
 refine sP eS rfl ?_;refine Wp.ifF rfl (Wp.fin ?_);refine Wp.ifF (af (ao (a:=.d (ax c)) rfl (aj rfl (bM (ar rfl rfl rfl (R.at' .me trivial)) (R.at' .me trivial) rfl rfl) rfl (r:=.d (.list (ps.map ax))) rfl) (tT hc))) (Wp.fin ?_);refine Wp.asg (iH (aj rfl (bM (ar rfl rfl rfl (R.at' .me trivial)) (R.at' .me trivial) rfl rfl) rfl (r:=.d (.list (ps.map ax))) rfl) (x:=ax c) rfl (idx_map cC c ps hc 0)) ?_;rw[Nat.zero_add];have hj:(before c ps).length<ps.length:=az (bF hc);generalize (before c ps).length=j at hj he ⊢;refine Wp.ifF rfl (Wp.fin ?_);have hq':σ[2+j]?=some (.lst []):=(R.at' (.q j) hj).trans (congrArg (fun(l:List Msg)=>some (lO (l.map c4))) he);refine Wp.ifT (cO (b:=false) ?_) (Wp.ret rfl ⟨_,.inl rfl,rfl,R⟩);refine Eq.trans (b:=((ev _ _ _ _).bind fun(x:V×aa)=>(dH x.2 x.1).bind λ b=>some (b,x.2))) rfl ?_;rw[aj rfl (aV (ar rfl rfl rfl (R.at' .me trivial)) (R.at' .me trivial) rfl (R.at' .Q trivial) rfl) rfl (bI (R.at' .Q trivial) (rg hj) hq')];show(dH σ (.o (2+j))).bind _=_;rw[jN hq'];rfl
end L3
end Mine.Internal.Q
end
section
namespace Mine.Internal.Q
open PySem Classical Mine.Internal.L3
namespace L3
variable{sz:Nat}{ps:List Ch}{S:A}{σ:aa}
noncomputable def wG(j:Nat)(v:Int)(s:SnA):SnA:=if(s.t j).1=1 then fT j ((s.t j).1,(s.t j).2++[v]) s else s
noncomputable def qY(j:Nat)(v:Int)(m:Nat)(S:A):A:={ S with s:=S.s.mapIdx λ i s=>if i<m then wG j v s else s }
theorem ff(j:Nat)(v:Int)(m i:Nat)(S:A):(qY j v m S).s[i]?=(S.s[i]?).map λ s=>if i<m then wG j v s else s:=List.getElem?_mapIdx
theorem mI{j m:Nat}{v:Int}{S:A}{s:SnA}(hs:S.s[m]?=some s):(qY j v m S).s[m]?=some s:=by
 rw[ff,hs];exact congrArg some (if_neg (Nat.lt_irrefl _))
theorem qV(j:Nat)(v:Int)(S:A):qY j v 0 S=S:=A.ext rfl rfl rfl (List.ext_getElem? λ i=>by
 rw[ff];cases S.s[i]? with
 |none=>rfl
 |some s=>exact congrArg some (if_neg (Nat.not_lt_zero _)))
theorem qX{j m i:Nat}{v:Int}{S:A}(h:m≠i):(qY j v (m+1) S).s[i]?=(qY j v m S).s[i]?:=by
 rw[ff,ff];exact congrArg (λ f=>Option.map f S.s[i]?) (funext λ s=>de ⟨λ q=>Nat.lt_of_le_of_ne (Nat.le_of_lt_succ q) λ e=>h e.symm,Nat.lt_succ_of_lt⟩)
theorem qW(j:Nat)(v:Int)(m:Nat)(S:A){s:SnA}(hs:S.s[m]?=some s):qY j v (m+1) S=if(s.t j).1=1 then eA m (fT j ((s.t j).1,(s.t j).2++[v])) (qY j v m S) else qY j v m S:=by
 have hm:(qY j v (m+1) S).s[m]?=some (wG j v s):=by
  rw[ff,hs];exact congrArg some (if_pos (Nat.lt_succ_self m))
 by_cases e:(s.t j).1=1
 ·rw[if_pos e];rw[wG,if_pos e] at hm;exact A.ext rfl rfl rfl (j7 (by rw[mI hs];exact hm.symm) λ n h=>(qX h).symm).symm
 ·rw[if_neg e];rw[wG,if_neg e] at hm;refine A.ext rfl rfl rfl (List.ext_getElem? λ i=>?_);by_cases h:m=i
  ·rw[<-h,hm,mI hs]
  ·exact qX h
theorem sj(k:Nat):(cD k="open")↔k=1:=by
 match k with
 |0=>exact⟨λ h=>absurd h (by decide),λ h=>absurd h (by decide)⟩
 |1=>exact⟨λ h=>rfl,λ h=>rfl⟩
 |k+2=>exact⟨λ h=>absurd (show("shut":Str)="open" from h) (by decide),λ h=>by lia⟩
noncomputable def AE(c:Ch)(j:Nat)(v:Int)(r:List Msg)(S:A):A:=qY j v S.s.length (setC c.2 (S.c c.2+1) (setB c.2 (S.b c.2+v) (gG j r S)))
end L3
namespace L3
namespace apply_pay_e
noncomputable section
def P(sz:Nat)(ps:List Ch)(S:A)(σ:aa)(n:Nat)(c:Ch)(v:Int)(r:List Msg):Prop:=∀(R:Rep sz ps S σ) (hc:c∈ps) (hz:c.2<sz) (hlen:S.s.length<300) (ht:∀s∈S.s,∀j,(s.t j).2.length<LIM) (he:S.q (before c ps).length=.pay v::r),∃w σ',(prg.run (n+3)).M "_apply" [.o 0,.d (eB (.recv c))] σ=some (w,σ')/\Told sz ps "done" (AE c (before c ps).length v r S) w σ'
def x:(Nat)×(List Ch)×(A)×(aa)×(Nat)×(Ch)×(Int)×(List Msg):=@Classical.epsilon _ ⟨(default,default,⟨λ _=>0,λ _=>[],λ _=>0,[]⟩,default,default,default,default,default)⟩ λ x=>¬P x.1 x.2.1 x.2.2.1 x.2.2.2.1 x.2.2.2.2.1 x.2.2.2.2.2.1 x.2.2.2.2.2.2.1 x.2.2.2.2.2.2.2
def sz:Nat:=x.1
def ps:List Ch:=x.2.1
def S:A:=x.2.2.1
def σ:aa:=x.2.2.2.1
def n:Nat:=x.2.2.2.2.1
def c:Ch:=x.2.2.2.2.2.1
def v:Int:=x.2.2.2.2.2.2.1
def r:List Msg:=x.2.2.2.2.2.2.2
theorem core:P sz ps S σ n c v r:=λ R hc hz hlen ht he=>by
 refine sP eS rfl ?_;refine Wp.ifF rfl (Wp.fin ?_);refine Wp.ifF (af (ao (a:=.d (ax c)) rfl (aj rfl (bM (ar rfl rfl rfl (R.at' .me trivial)) (R.at' .me trivial) rfl rfl) rfl (r:=.d (.list (ps.map ax))) rfl) (tT hc))) (Wp.fin ?_);refine Wp.asg (iH (aj rfl (bM (ar rfl rfl rfl (R.at' .me trivial)) (R.at' .me trivial) rfl rfl) rfl (r:=.d (.list (ps.map ax))) rfl) (x:=ax c) rfl (idx_map cC c ps hc 0)) ?_;rw[Nat.zero_add];have hj:(before c ps).length<ps.length:=az (bF hc);generalize (before c ps).length=j at hj he ⊢;refine Wp.ifF rfl (Wp.fin ?_);have hq':σ[2+j]?=some (.lst (.d (c4 (.pay v))::(r.map c4).map .d)):=(R.at' (.q j) hj).trans (congrArg (fun(l:List Msg)=>some (lO (l.map c4))) he);refine Wp.ifF (σ1:=σ) (cO (b:=true) ?_) (Wp.fin ?_)
 ·refine Eq.trans (b:=((ev _ _ _ _).bind fun(x:V×aa)=>(dH x.2 x.1).bind λ b=>some (b,x.2))) rfl ?_;rw[aj rfl (aV (ar rfl rfl rfl (R.at' .me trivial)) (R.at' .me trivial) rfl (R.at' .Q trivial) rfl) rfl (bI (R.at' .Q trivial) (rg hj) hq')];show(dH σ (.o (2+j))).bind _=_;rw[jN hq'];rfl
 refine Wp.unp (v:=.d (c4 (.pay v))) (vs:=[.d (.str "pay"),.d (.int v)]) rfl (se (aj rfl (aV (ar rfl rfl rfl (R.at' .me trivial)) (R.at' .me trivial) rfl (R.at' .Q trivial) rfl) rfl (bI (R.at' .Q trivial) (rg hj) hq')) hq' rfl) rfl rfl ?_;refine Wp.sW (R.gG j hj r) λ σ1 R1=>?_;refine Wp.ifT rfl ?_;refine Wp.aug (aV (ar rfl rfl rfl (R1.at' .me trivial)) (R1.at' .me trivial) rfl (R1.at' .b trivial) rfl) rfl (fE (k:=c.2) (i:=S.b c.2) (R1.at' .b trivial) (rg3 hz)) (m:=v) rfl rfl (cg (R1.at' .b trivial) (t8 hz)) (Wp.sW (R1.setB c.2 (S.b c.2+v)) λ σ2 R2=>?_);refine Wp.aug (aV (ar rfl rfl rfl (R2.at' .me trivial)) (R2.at' .me trivial) rfl (R2.at' .c trivial) rfl) rfl (fE (k:=c.2) (i:=(S.c c.2:Nat)) (R2.at' .c trivial) (rg3 hz)) (m:=1) rfl rfl (cg (R2.at' .c trivial) (t8 hz)) (Wp.sW (R2.setC c.2 (S.c c.2+1)) λ σ3 R3=>?_);have hs3:(setC c.2 (S.c c.2+1) (setB c.2 (S.b c.2+v) (gG j r S))).s=S.s:=rfl;unfold AE;generalize (setC c.2 (S.c c.2+1) (setB c.2 (S.b c.2+v) (gG j r S)))=S3 at R3 hs3 ⊢;rw[<-hs3] at hlen ht ⊢;refine Wp.jc (l:=4+ps.length) (σ1:=σ3) ?_ ?_
 ·show srcOf (ev _ _ _ _)=_;rw[aV (ar rfl rfl rfl (R3.at' .me trivial)) (R3.at' .me trivial) rfl (R3.at' .S trivial) rfl];rfl
 refine Wp.xl ((List.range S3.s.length).map λ i=>.o (ad ps.length (.s i))) (λ i ρ τ=>Ov ["s"] _ ρ/\Rep sz ps (qY j v i S3) τ) (by rw[List.length_map,List.length_range];exact hlen) ⟨Ov.refl,by rw[qV];exact R3⟩ ?_ ?_ ?_
 ·rintro i ρ τ ⟨_,R4⟩;exact(R4.at' .S trivial).trans (congrArg (λ k=>some (Nd.lst ((List.range k).map λ i=>.o (ad ps.length (.s i))))) List.length_mapIdx)
 ·rintro i w ρ τ hv ⟨⟨f,rfl⟩,R4⟩;obtain⟨hi,rfl⟩:=qR hv;have hs:=List.getElem?_eq_getElem hi;have htl:=ht S3.s[i] (List.getElem_mem _) j;have hs4:=mI (j:=j) (v:=v) hs;rw[show dr τ (V.o (ad ps.length (.s i)))=V.o (ad ps.length (.s i)) from congrArg (drN _) (R4.nS hs4),qW j v i S3 hs];generalize S3.s[i]=s at *;have hT:=R4.at' (.T i) (az hs4);have hM:=R4.nM hs4 hj;refine Wp.bind rfl (Wp.ifD (P:=cD (s.t j).1="open") (af (ao (aj rfl (aj rfl (aj rfl (aO rfl rfl rfl (R4.nS hs4)) rfl (bI (j:=3) (R4.nS hs4) rfl hT)) rfl (bI hT (rg hj) hM)) rfl (eF (j:=0) hM rfl)) rfl (eV rfl))) (λ q=>?_) λ q=>?_)
  ·rw[if_pos ((sj _).1 q)];refine Wp.expr (bR (l:=ad ps.length (.t i j)) (aj rfl (aj rfl (aj rfl (aO rfl rfl rfl (R4.nS hs4)) rfl (bI (j:=3) (R4.nS hs4) rfl hT)) rfl (bI hT (rg hj) hM)) rfl (bI (j:=1) hM rfl (R4.nt hs4 hj))) (R4.nt hs4 hj) rfl (R4.nt hs4 hj) (by rw[List.length_map,List.length_map];exact htl)) (Wp.fin (Wp.nil ⟨Ov.upd ⟨f,rfl⟩ rfl,?_⟩));have:=R4.CL i j ((s.t j).2++[v]) hj hs4;rw[lO,List.map_append,List.map_append] at this;exact this
  ·rw[if_neg λ h=>q ((sj _).2 h)];exact Wp.fin (Wp.nil ⟨Ov.upd ⟨f,rfl⟩ rfl,R4⟩)
 ·rintro ρ τ ⟨⟨f,rfl⟩,R4⟩;rw[List.length_map,List.length_range] at R4;exact Wp.fin (Wp.ret rfl ⟨_,.inl rfl,rfl,R4⟩)
end
end apply_pay_e
variable{sz:Nat}{ps:List Ch}{S:A}{σ:aa}
theorem sJ(n:Nat)(c:Ch)(v:Int)(r:List Msg)(R:Rep sz ps S σ)(hc:c∈ps)(hz:c.2<sz)(hlen:S.s.length<300)(ht:∀s∈S.s,∀j,(s.t j).2.length<LIM)(he:S.q (before c ps).length=.pay v::r):∃w σ',(prg.run (n+3)).M "_apply" [.o 0,.d (eB (.recv c))] σ=some (w,σ')/\Told sz ps "done" (AE c (before c ps).length v r S) w σ':=aw (Q:=λ x:(Nat)×(List Ch)×(A)×(aa)×(Nat)×(Ch)×(Int)×(List Msg)=>apply_pay_e.P x.1 x.2.1 x.2.2.1 x.2.2.2.1 x.2.2.2.2.1 x.2.2.2.2.2.1 x.2.2.2.2.2.2.1 x.2.2.2.2.2.2.2) apply_pay_e.core (sz,ps,S,σ,n,c,v,r) R hc hz hlen ht he
end L3
end Mine.Internal.Q
end
section
namespace Mine.Internal.Q
open PySem Classical Mine.Internal.L3
namespace L3
variable{sz:Nat}{ps:List Ch}{S:A}{σ:aa}
noncomputable def o8(j:Nat)(s:SnA):SnA:=fT j (2,(s.t j).2) s
theorem Rep.ie(R:Rep sz ps S σ)(i j:Nat)(hj:j<ps.length){s:SnA}(hs:S.s[i]?=some s):Rep sz ps (eA i (o8 j) S) (σ.set (ad ps.length (.m i j)) (.lst [.d (.str "shut"),.o (ad ps.length (.t i j))])):=by
 have:=R.setM i j 2 hj hs;rw[show eA i (o8 j) S=eA i (fT j (2,(s.t j).2)) S from A.ext rfl rfl rfl (mod_congr hs rfl)];exact this
theorem qO(p i:Nat)(nm:Str)(S:A){s:SnA}(hs:S.s[i]?=some s):∃s',(ij ps p i nm S).s[i]?=some s':=by
 refine⟨gT ps p ps.length (fD p (some (S.c p)) (fA p (some (S.b p)) s)),?_⟩;show(eA i _ _).s[i]?=_;exact mod_self (mod_self (mod_self hs))
noncomputable def rF(ps:List Ch)(c:Ch)(j i:Nat)(nm:Str)(r:List Msg)(s:SnA)(S:A):A:=eA i (o8 j) (if s.a c.2=none then ij ps c.2 i nm (gG j r S) else gG j r S)
end L3
namespace L3
namespace apply_mark_e
noncomputable section
def P(sz:Nat)(ps:List Ch)(S:A)(σ:aa)(n:Nat)(c:Ch)(nm:Str)(r:List Msg):Prop:=∀(R:Rep sz ps S σ) (hc:c∈ps) (hz:c.2<sz) (hlen:S.s.length<300) (hq:∀j,j<ps.length->(S.q j).length<LIM) (hm:∃s∈S.s,s.name=nm) (he:S.q (before c ps).length=.mark nm::r),∃w σ',(prg.run (n+4)).M "_apply" [.o 0,.d (eB (.recv c))] σ=some (w,σ')/\∃i s,S.s[i]?=some s/\s.name=nm/\Told sz ps "done" (rF ps c (before c ps).length i nm r s S) w σ'
def x:(Nat)×(List Ch)×(A)×(aa)×(Nat)×(Ch)×(Str)×(List Msg):=@Classical.epsilon _ ⟨(default,default,⟨λ _=>0,λ _=>[],λ _=>0,[]⟩,default,default,default,default,default)⟩ λ x=>¬P x.1 x.2.1 x.2.2.1 x.2.2.2.1 x.2.2.2.2.1 x.2.2.2.2.2.1 x.2.2.2.2.2.2.1 x.2.2.2.2.2.2.2
def sz:Nat:=x.1
def ps:List Ch:=x.2.1
def S:A:=x.2.2.1
def σ:aa:=x.2.2.2.1
def n:Nat:=x.2.2.2.2.1
def c:Ch:=x.2.2.2.2.2.1
def nm:Str:=x.2.2.2.2.2.2.1
def r:List Msg:=x.2.2.2.2.2.2.2
theorem core:P sz ps S σ n c nm r:=λ R hc hz hlen hq hm he=>by
 refine sP eS rfl ?_;refine Wp.ifF rfl (Wp.fin ?_);refine Wp.ifF (af (ao (a:=.d (ax c)) rfl (aj rfl (bM (ar rfl rfl rfl (R.at' .me trivial)) (R.at' .me trivial) rfl rfl) rfl (r:=.d (.list (ps.map ax))) rfl) (tT hc))) (Wp.fin ?_);refine Wp.asg (iH (aj rfl (bM (ar rfl rfl rfl (R.at' .me trivial)) (R.at' .me trivial) rfl rfl) rfl (r:=.d (.list (ps.map ax))) rfl) (x:=ax c) rfl (idx_map cC c ps hc 0)) ?_;rw[Nat.zero_add];have hj:(before c ps).length<ps.length:=az (bF hc);generalize (before c ps).length=j at hj he ⊢;refine Wp.ifF rfl (Wp.fin ?_);have hq':σ[2+j]?=some (.lst (.d (c4 (.mark nm))::(r.map c4).map .d)):=(R.at' (.q j) hj).trans (congrArg (fun(l:List Msg)=>some (lO (l.map c4))) he);refine Wp.ifF (σ1:=σ) (cO (b:=true) ?_) (Wp.fin ?_)
 ·refine Eq.trans (b:=((ev _ _ _ _).bind fun(x:V×aa)=>(dH x.2 x.1).bind λ b=>some (b,x.2))) rfl ?_;rw[aj rfl (aV (ar rfl rfl rfl (R.at' .me trivial)) (R.at' .me trivial) rfl (R.at' .Q trivial) rfl) rfl (bI (R.at' .Q trivial) (rg hj) hq')];show(dH σ (.o (2+j))).bind _=_;rw[jN hq'];rfl
 refine Wp.unp (v:=.d (c4 (.mark nm))) (vs:=[.d (.str "mark"),.d (.str nm)]) rfl (se (aj rfl (aV (ar rfl rfl rfl (R.at' .me trivial)) (R.at' .me trivial) rfl (R.at' .Q trivial) rfl) rfl (bI (R.at' .Q trivial) (rg hj) hq')) hq' rfl) rfl rfl ?_;refine Wp.sW (R.gG j hj r) λ σ1 R1=>?_;refine Wp.ifF rfl ?_;refine bC λ k9=>?_;obtain⟨v,σ1',hf,rfl,i,s,hs,hnm,rfl⟩:=uu (n+1) nm R1 hlen hm;refine k9 ?_;refine Wp.asg (iG (ar rfl rfl rfl (R1.at' .me trivial)) (R1.at' .me trivial) rfl rfl (R1.at' .me trivial) rfl hf) ?_;unfold rF;refine Wp.xd (Rep sz ps (if s.a c.2=none then ij ps c.2 i nm (gG j r S) else gG j r S)) (Wp.x1D (P:=s.a c.2=none) (af (ao (aj rfl (aj rfl (aO rfl rfl rfl (R1.nS hs)) rfl (bI (j:=1) (R1.nS hs) rfl (R1.nA hs))) rfl (eF (x:=eOI (s.a c.2)) (R1.nA hs) (rg3 hz))) rfl ?_)) (λ hn=>?_) λ hn=>?_) λ σ2 R2=>?_
 ·show j9 _ _=some (decide (s.a c.2=none));cases s.a c.2 with
  |none=>rfl
  |some x=>rfl
 ·have hq1:∀j',j'<ps.length->((gG j r S).q j').length<LIM:=λ j' h'=>by
   show(if j'=j then r else S.q j').length<LIM;by_cases e:j'=j
   ·rw[if_pos e];exact Nat.lt_of_succ_lt (Nat.lt_of_le_of_lt (Nat.le_of_eq (congrArg List.length he).symm) (hq j (e▸h')))
   ·rw[if_neg e];exact hq j' h'
  obtain⟨w,σ2,h3,rfl,R2⟩:=nF (n+1) i c.2 R1 hz hs hq1;exact Wp.expr (iG (ar rfl rfl rfl (R1.at' .me trivial)) (R1.at' .me trivial) rfl (ae rfl (ae (aO rfl rfl rfl (R1.nS hs)) rfl)) (R1.at' .me trivial) rfl h3) (Wp.nil ⟨rfl,rfl,by rw[if_pos hn,<-hnm];exact R2⟩)
 ·exact Wp.nil ⟨rfl,rfl,by rw[if_neg hn];exact R1⟩
 ·obtain⟨s2,hs2⟩:∃s2,(if s.a c.2=none then ij ps c.2 i nm (gG j r S) else gG j r S).s[i]?=some s2:=by
   by_cases hn:s.a c.2=none
   ·rw[if_pos hn];exact qO c.2 i nm (gG j r S) hs
   ·rw[if_neg hn];exact⟨s,hs⟩
  have hT:=R2.at' (.T i) (az hs2);exact Wp.tD rfl (aj rfl (aj rfl (aO rfl rfl rfl (R2.nS hs2)) rfl (bI (j:=3) (R2.nS hs2) rfl hT)) rfl (bI hT (rg hj) (R2.nM hs2 hj))) rfl (cg (k:=0) (R2.nM hs2 hj) (Nat.le_of_ble_eq_true rfl)) (Wp.fin (Wp.ret rfl ⟨_,.inl rfl,i,s,hs,hnm,rfl,R2.ie i j hj hs2⟩))
end
end apply_mark_e
variable{sz:Nat}{ps:List Ch}{S:A}{σ:aa}
theorem qd(n:Nat)(c:Ch)(nm:Str)(r:List Msg)(R:Rep sz ps S σ)(hc:c∈ps)(hz:c.2<sz)(hlen:S.s.length<300)(hq:∀j,j<ps.length->(S.q j).length<LIM)(hm:∃s∈S.s,s.name=nm)(he:S.q (before c ps).length=.mark nm::r):∃w σ',(prg.run (n+4)).M "_apply" [.o 0,.d (eB (.recv c))] σ=some (w,σ')/\∃i s,S.s[i]?=some s/\s.name=nm/\Told sz ps "done" (rF ps c (before c ps).length i nm r s S) w σ':=aw (Q:=λ x:(Nat)×(List Ch)×(A)×(aa)×(Nat)×(Ch)×(Str)×(List Msg)=>apply_mark_e.P x.1 x.2.1 x.2.2.1 x.2.2.2.1 x.2.2.2.2.1 x.2.2.2.2.2.1 x.2.2.2.2.2.2.1 x.2.2.2.2.2.2.2) apply_mark_e.core (sz,ps,S,σ,n,c,nm,r) R hc hz hlen hq hm he
end L3
end Mine.Internal.Q
end
section
namespace Mine.Internal.Q
open PySem Classical Mine.Internal.L3
noncomputable def Den:Nat->aa->V->PyData->Prop
 |_,_,.d x,d=>x=d
 |n+1,σ,.o l,d=>σ[l]?=some (.frz d)\/∃vs ds,σ[l]?=some (.lst vs)/\d=.list ds/\vs.length=ds.length/\∀(i:Nat) v e,vs[i]?=some v->ds[i]?=some e->Den n σ v e
 |_,_,_,_=>False
theorem Aa{n:Nat}{σ:aa}{l:Nat}{d:PyData}(h:Den n σ (.o l) d):∃m,n=m+1/\(σ[l]?=some (.frz d)\/∃vs ds,σ[l]?=some (.lst vs)/\d=.list ds/\vs.length=ds.length/\∀(i:Nat) v e,vs[i]?=some v->ds[i]?=some e->Den m σ v e):=by
 cases n with
 |zero=>exact h.elim
 |succ m=>exact⟨m,rfl,h⟩
theorem su:∀(n m:Nat) (σ:aa) (v:V) (d d':PyData),Den n σ v d->Den m σ v d'->d=d':=by
 intro n
 induction n with
 |zero=>
  intro m σ v d d' h1 h2;cases v with
  |d x=>
   cases m<;>exact(show x=d from h1).symm.trans (show x=d' from h2)
  |o l=>exact(show False from h1).elim
  |fs _=>exact(show False from h1).elim
  |ty _=>exact(show False from h1).elim
 |succ n ih=>
  intro m σ v d d' h1 h2;cases v with
  |d x=>
   cases m<;>exact(show x=d from h1).symm.trans (show x=d' from h2)
  |o l=>
   obtain⟨m',_,g⟩:=Aa h2;rcases h1 with h1 | ⟨vs,ds,h1,rfl,h3,h4⟩
   ·rcases g with g | ⟨vs',ds',g,rfl,h5,h6⟩
    ·exact Nd.frz.inj (Option.some.inj (h1.symm.trans g))
    ·have:=Option.some.inj (h1.symm.trans g);cases this
   ·rcases g with g | ⟨vs',ds',g,rfl,h5,h6⟩
    ·have:=Option.some.inj (h1.symm.trans g);cases this
    ·obtain rfl:=Nd.lst.inj (Option.some.inj (h1.symm.trans g));congr 1;apply List.ext_getElem?;intro i;by_cases hi:i<vs.length
     ·have e1:ds[i]?=some (ds[i]'(by exact Nat.lt_of_lt_of_eq ‹_› ‹_›)):=List.getElem?_eq_getElem (by exact Nat.lt_of_lt_of_eq ‹_› ‹_›);have e2:ds'[i]?=some (ds'[i]'(by exact Nat.lt_of_lt_of_eq ‹_› ‹_›)):=List.getElem?_eq_getElem (by exact Nat.lt_of_lt_of_eq ‹_› ‹_›);have e3:vs[i]?=some vs[i]:=List.getElem?_eq_getElem hi;rw[e1,e2,ih _ _ _ _ _ (h4 i _ _ e3 e1) (h6 i _ _ e3 e2)]
     ·rw[List.getElem?_eq_none (by lia),List.getElem?_eq_none (by lia)]
  |fs _=>exact(show False from h1).elim
  |ty _=>exact(show False from h1).elim
structure Fz(σ τ:aa):Prop where
 len:σ.length<=τ.length
 at':∀l,l<σ.length->τ[l]?=σ[l]?\/∃d m,τ[l]?=some (.frz d)/\Den m σ (.o l) d
theorem Fz.refl(σ:aa)(r:List Nd):Fz σ (σ++r):=⟨by simp,λ l hl=>.inl (List.getElem?_append_left hl)⟩
noncomputable def Up(σ τ τ':aa):Prop:=τ'.length=τ.length/\∀l,σ.length<=l->τ'[l]?=τ[l]?
theorem fo:∀(n:Nat) (σ τ:aa) (v:V) (d:PyData),Den n σ v d->Fz σ τ->∃τ',frz n τ v=some (d,τ')/\Fz σ τ'/\Up σ τ τ':=by
 intro n
 induction n with
 |zero=>
  intro σ τ v d h F;cases v with
  |d x=>obtain rfl:x=d:=h;exact⟨τ,rfl,F,rfl,λ _ _=>rfl⟩
  |o l=>exact(show False from h).elim
  |fs _=>exact(show False from h).elim
  |ty _=>exact(show False from h).elim
 |succ n ih=>
  intro σ τ v d h F;have list:∀(vs:List V) (ds:List PyData) (τ:aa),Fz σ τ->vs.length=ds.length->(∀(i:Nat) v e,vs[i]?=some v->ds[i]?=some e->Den n σ v e)->∃τ',B7 n τ vs=some (ds,τ')/\Fz σ τ'/\Up σ τ τ':=by
   intro vs
   induction vs with
   |nil=>
    intro ds τ F hl _;obtain rfl:ds=[]:=by cases ds with
     |nil=>rfl
     |cons=>exact by cases hl
    exact⟨τ,rfl,F,rfl,λ _ _=>rfl⟩
   |cons v r ih2=>
    intro ds τ F hl hd;cases ds with
    |nil=>exact by cases hl
    |cons e es=>
     refine bC λ k9=>?_;obtain⟨τ1,a1,a2,a3,a4⟩:=ih σ τ v e (hd 0 v e rfl rfl) F;obtain⟨τ2,b1,b2,b3,b4⟩:=ih2 es τ1 a2 (by simpa using hl) (λ i v e h1 h2=>hd (i+1) v e (by exact h1) (by exact h2));refine k9 ?_;exact⟨τ2,bi a1 (bi b1 rfl),b2,b3.trans a3,λ l hl=>(b4 l hl).trans (a4 l hl)⟩
  cases v with
  |d x=>obtain rfl:x=d:=h;exact⟨τ,rfl,F,rfl,λ _ _=>rfl⟩
  |o l=>
   have hD:Den (n+1) σ (.o l) d:=h;rcases h with h | ⟨vs,ds,h,rfl,h3,h4⟩
   ·have hl:l<σ.length:=by
     by_cases hc:l<σ.length
     ·exact hc
     ·rw[List.getElem?_eq_none (by exact Nat.not_lt.mp ‹_›)] at h;cases h
    rcases F.at' l hl with q | ⟨d',m,q,q2⟩
    ·exact⟨τ,congrArg (vz (frz n) l τ) (q.trans h),F,rfl,λ _ _=>rfl⟩
    ·obtain rfl:=su _ _ _ _ _ _ q2 hD;exact⟨τ,congrArg (vz (frz n) l τ) q,F,rfl,λ _ _=>rfl⟩
   ·have hl:l<σ.length:=by
     by_cases hc:l<σ.length
     ·exact hc
     ·rw[List.getElem?_eq_none (by exact Nat.not_lt.mp ‹_›)] at h;cases h
    rcases F.at' l hl with q | ⟨d',m,q,q2⟩
    ·obtain⟨τ1,b1,b2,b3,b4⟩:=list vs ds τ F h3 h4;refine⟨τ1.set l (.frz (.list ds)),(congrArg (vz (frz n) l τ) (q.trans h)).trans (bi b1 rfl),⟨by rw[List.length_set];exact b2.len,λ l' hl'=>?_⟩,by rw[List.length_set];exact b3,λ l' hl'=>?_⟩
     ·by_cases e:l=l'
      ·subst e;exact .inr ⟨_,_,List.getElem?_set_self (by have:=b2.len;exact Nat.le_trans ‹_› ‹_›),hD⟩
      ·rw[List.getElem?_set_ne e];exact b2.at' l' hl'
     ·rw[List.getElem?_set_ne (by exact Nat.ne_of_lt (Nat.lt_of_lt_of_le ‹_› ‹_›))];exact b4 l' hl'
    ·obtain rfl:=su _ _ _ _ _ _ q2 hD;exact⟨τ,congrArg (vz (frz n) l τ) q,F,rfl,λ _ _=>rfl⟩
  |fs _=>exact(show False from h).elim
  |ty _=>exact(show False from h).elim
theorem gY{Φ:Or}{o:Expr}{n:Str}{p:Pos}{ρ:ah}{σ σ1 σ2:aa}{l:Nat}{fs:List (Str×V)}{v:V}{d:PyData}(h1:ev Φ o ρ σ=some (.o l,σ1))(h2:σ1[l]?=some (.ins fs))(h3:dG n fs=some v)(hf:Φ.frz p=true)(hz:frz 8 σ1 v=some (d,σ2)):ev Φ (.Attribute o n p) ρ σ=some (.d d,σ2):=by
 exact bi h1 ((congrArg (atN Φ n p σ1) h2).trans (bi h3 ((if_pos hf).trans (congrArg (Option.map fun(x:PyData×aa)=>(V.d x.1,x.2)) hz))))
theorem iL{n:Nat}{σ:aa}{l:Nat}{vs:List V}{ds:List PyData}(h:σ[l]?=some (.lst vs))(hl:vs.length=ds.length)(hi:∀(i:Nat) v e,vs[i]?=some v->ds[i]?=some e->Den n σ v e):Den (n+1) σ (.o l) (.list ds):=.inr ⟨vs,ds,h,rfl,hl,hi⟩
theorem xW{n:Nat}{σ:aa}{x:PyData}:Den n σ (.d x) x:=by cases n<;>exact rfl
theorem cK{n:Nat}{σ:aa}{l:Nat}{ds:List PyData}(h:σ[l]?=some (.lst (ds.map .d))):Den (n+1) σ (.o l) (.list ds):=by
 refine iL h (by exact List.length_map _) λ i v e h1 h2=>?_;rw[List.getElem?_map,h2] at h1;obtain rfl:=Option.some.inj h1;exact xW
theorem m7{n:Nat}{σ:aa}{l m:Nat}{f:Nat->V}{g:Nat->PyData}(h:σ[l]?=some (.lst ((List.range m).map f)))(hi:∀i,i<m->Den n σ (f i) (g i)):Den (n+1) σ (.o l) (.list ((List.range m).map g)):=by
 refine iL h (by simp) λ i v e h1 h2=>?_;have hlt:i<m:=by
  by_cases hc:i<m
  ·exact hc
  ·rw[List.getElem?_eq_none (by simpa using hc)] at h1;cases h1
 simp[hlt] at h1 h2;subst h1;subst h2;exact hi i hlt
namespace L3
variable{sz:Nat}{ps:List Ch}{S:A}{σ:aa}
noncomputable def snD(sz k:Nat)(s:SnA):PyData:=.list [.str s.name,.list (((List.range sz).map s.a).map eOI),.list (((List.range sz).map s.c).map eON),.list ((List.range k).map λ j=>.list [.str (cD (s.t j).1),.list ((s.t j).2.map .int)])]
end L3
namespace L3
namespace Rep_den_s_e
noncomputable section
def P(sz:Nat)(ps:List Ch)(S:A)(σ:aa):Prop:=∀(R:Rep sz ps S σ),Den 8 σ (.o (4+ps.length)) (.list (S.s.map (snD sz ps.length)))
def x:(Nat)×(List Ch)×(A)×(aa):=@Classical.epsilon _ ⟨(default,default,⟨λ _=>0,λ _=>[],λ _=>0,[]⟩,default)⟩ λ x=>¬P x.1 x.2.1 x.2.2.1 x.2.2.2
def sz:Nat:=x.1
def ps:List Ch:=x.2.1
def S:A:=x.2.2.1
def σ:aa:=x.2.2.2
theorem core:P sz ps S σ:=λ R=>by
 have e:S.s.map (snD sz ps.length)=(List.range S.s.length).map λ i=>((S.s[i]?).map (snD sz ps.length)).getD .none:=by
  apply List.ext_getElem?;intro i;by_cases hi:i<S.s.length<;>simp[hi]
 rw[e];refine m7 (R.at' .S trivial) λ i hi=>?_;have hs:S.s[i]?=some S.s[i]:=List.getElem?_eq_getElem hi;have a1:=R.at' (.s i) hi;have a2:=R.at' (.a i) hi;have a3:=R.at' (.d i) hi;have a4:=R.at' (.T i) hi;simp only[nd,hs,Option.map_some] at a1 a2 a3 a4;rw[hs];show Den 7 σ _ (snD sz ps.length S.s[i]);refine iL a1 rfl λ k v e h1 h2=>?_
 match k,h1,h2 with
 |0,h1,h2=>cases h1;cases h2;exact xW
 |1,h1,h2=>cases h1;cases h2;exact cK a2
 |2,h1,h2=>cases h1;cases h2;exact cK a3
 |3,h1,h2=>
  cases h1;cases h2;refine m7 a4 λ j hj=>?_;have b1:=R.at' (.m i j) ⟨hi,hj⟩;have b2:=R.at' (.t i j) ⟨hi,hj⟩;simp only[nd,hs,Option.map_some] at b1 b2;refine iL b1 rfl λ k v e h1 h2=>?_
  match k,h1,h2 with
  |0,h1,h2=>cases h1;cases h2;exact xW
  |1,h1,h2=>cases h1;cases h2;exact cK b2
  |k+2,h1,h2=>simp at h1
 |k+4,h1,h2=>simp at h1
end
end Rep_den_s_e
variable{sz:Nat}{ps:List Ch}{S:A}{σ:aa}
theorem Rep.BA(R:Rep sz ps S σ):Den 8 σ (.o (4+ps.length)) (.list (S.s.map (snD sz ps.length))):=aw (Q:=λ x:(Nat)×(List Ch)×(A)×(aa)=>Rep_den_s_e.P x.1 x.2.1 x.2.2.1 x.2.2.2) Rep_den_s_e.core (sz,ps,S,σ) R
theorem Rep.BD(R:Rep sz ps S σ):Den 8 σ (.o 1) (bb ((List.range sz).map S.b)):=cK (R.at' .b trivial)
theorem Rep.BC(R:Rep sz ps S σ):Den 8 σ (.o (3+ps.length)) (bo ((List.range sz).map S.c)):=cK (R.at' .c trivial)
theorem Rep.BB(R:Rep sz ps S σ):Den 8 σ (.o (2+ps.length)) (.list (((List.range ps.length).map S.q).map eQ)):=by
 rw[List.map_map];exact m7 (R.at' .Q trivial) λ j hj=>cK (R.at' (.q j) hj)
end L3
end Mine.Internal.Q
end
section
namespace Mine.Internal.Q
open PySem Classical Mine.Internal.L3
theorem Fz.set{σ τ:aa}(F:Fz σ τ){l:Nat}(hl:σ.length<=l)(n:Nd):Fz σ (τ.set l n):=
 ⟨by rw[List.length_set];exact F.len,λ l' h'=>by rw[List.getElem?_set_ne (by exact Nat.ne_of_gt (Nat.lt_of_lt_of_le ‹_› ‹_›))];exact F.at' l' h'⟩
theorem Fz.ins{σ τ:aa}(F:Fz σ τ){l:Nat}{fs:List (Str×V)}(h:σ[l]?=some (.ins fs)):τ[l]?=some (.ins fs):=by
 rcases F.at' l (L3.az h) with q | ⟨d,m,q,D⟩
 ·rw[q,h]
 ·obtain⟨m',_,g⟩:=Aa D;rcases g with g | ⟨vs,ds,g,_⟩
  ·have:=Option.some.inj (h.symm.trans g);cases this
  ·have:=Option.some.inj (h.symm.trans g);cases this
namespace L3
variable{sz:Nat}{ps:List Ch}{S:A}{σ:aa}
noncomputable def Bd:Fn:=(prg.mt "_out").getD ⟨[],[]⟩
theorem Bv:prg.mt "_out"=some Bd:=rfl
end L3
namespace L3
namespace out_run_e
noncomputable section
def P(sz:Nat)(ps:List Ch)(S:A)(σ:aa)(n:Nat):Prop:=∀(R:Rep sz ps S σ) (hlen:S.s.length<=50000),∃v σ',(prg.run (n+2)).M "_out" [.o 0] σ=some (v,σ')/\v=.d (eSt (sT sz ps.length S))
def x:(Nat)×(List Ch)×(A)×(aa)×(Nat):=@Classical.epsilon _ ⟨(default,default,⟨λ _=>0,λ _=>[],λ _=>0,[]⟩,default,default)⟩ λ x=>¬P x.1 x.2.1 x.2.2.1 x.2.2.2.1 x.2.2.2.2
def sz:Nat:=x.1
def ps:List Ch:=x.2.1
def S:A:=x.2.2.1
def σ:aa:=x.2.2.2.1
def n:Nat:=x.2.2.2.2
theorem core:P sz ps S σ n:=λ R hlen=>by
 refine sP Bv rfl ?_;refine Wp.asg (v:=.o σ.length) (σ1:=σ++[.lst []]) rfl ?_;have F0:=Fz.refl σ [.lst []];have me0:=R.at' .me trivial;refine bC λ k9=>?_;obtain⟨τ1,z1,F1,U1⟩:=fo 8 σ _ _ _ R.BA F0;refine k9 ?_;refine Wp.for (ys:=(S.s.map (snD sz ps.length)).map V.d) (σ1:=τ1) ?_ ?_
 ·show srcOf (ev _ _ _ _)=_;rw[gY (ar rfl rfl rfl (F0.ins me0)) (F0.ins me0) rfl rfl z1];rfl
 refine Wp.ox (snD sz ps.length) (λ pre ρ τ=>Ov ["n","a","c","t"] _ ρ/\Fz σ τ/\τ[σ.length]?=some (.lst ((pre.map λ s=>df (sU sz ps.length s)).map V.d))) ⟨Ov.refl,F1,by rw[U1.2 _ (Nat.le_refl _)];simp⟩ ?_ ?_
 ·rintro pre s post ρ τ hy ⟨⟨f,rfl⟩,F,hN⟩;refine Wp.bind rfl ?_;have hl:pre.length<LIM:=by
   rw[hy] at hlen;simp at hlen;simp only[LIM];exact Nat.lt_of_le_of_lt (Nat.le_add_right _ _) (Nat.lt_of_le_of_lt ‹_› (by decide))
  refine Wp.expr (bR (l:=σ.length) (aO rfl rfl rfl hN) hN (v:=.d (df (sU sz ps.length s))) (σ2:=τ) (aU (ds:=[.str s.name,.list (((List.range sz).map s.a).map eOI),.list (((List.range sz).map s.c).map eON),.list (((List.range ps.length).map s.t).map dy)]) (ae rfl (ae rfl (ae rfl (ae (v:=.d (.list (((List.range ps.length).map s.t).map dy))) (σ1:=τ) ((bj (λ j=>PyData.list [.str (cD (s.t j).1),.list ((s.t j).2.map .int)]) (ys:=List.range ps.length) (λ j=>dy (s.t j)) rfl rfl λ j hj=>⟨_,rfl,rfl⟩).trans ?_) rfl)))) rfl) hN (by simpa using hl)) (Wp.nil ⟨by repeat first | exact⟨f,rfl⟩ | refine Ov.upd ?_ rfl,F.set (Nat.le_refl _) _,?_⟩)
  ·rw[List.map_map];rfl
  ·rw[List.getElem?_set_self (az hN)];simp
 ·rintro ρ τ ⟨⟨f,rfl⟩,F,hN⟩;refine bC λ k9=>?_;obtain⟨τ2,z2,F2,U2⟩:=fo 8 σ τ _ _ R.BD F;obtain⟨τ3,z3,F3,U3⟩:=fo 8 σ τ2 _ _ R.BB F2;obtain⟨τ4,z4,F4,U4⟩:=fo 8 σ τ3 _ _ R.BC F3;refine k9 ?_;have hN4:τ4[σ.length]?=some (.lst ((S.s.map λ s=>df (sU sz ps.length s)).map V.d)):=by
   rw[U4.2 _ (Nat.le_refl _),U3.2 _ (Nat.le_refl _),U2.2 _ (Nat.le_refl _),hN]
  refine Wp.ret (aU (ae (gY (ar rfl rfl rfl (F.ins me0)) (F.ins me0) rfl rfl z2) (ae (gY (ar rfl rfl rfl (F2.ins me0)) (F2.ins me0) rfl rfl z3) (ae (gY (ar rfl rfl rfl (F3.ins me0)) (F3.ins me0) rfl rfl z4) (ae (eI rfl rfl rfl hN4) rfl)))) rfl) ⟨_,.inl rfl,?_⟩;simp only[eSt,sT,List.map_map];rfl
end
end out_run_e
variable{sz:Nat}{ps:List Ch}{S:A}{σ:aa}
theorem wI(n:Nat)(R:Rep sz ps S σ)(hlen:S.s.length<=50000):∃v σ',(prg.run (n+2)).M "_out" [.o 0] σ=some (v,σ')/\v=.d (eSt (sT sz ps.length S)):=aw (Q:=λ x:(Nat)×(List Ch)×(A)×(aa)×(Nat)=>out_run_e.P x.1 x.2.1 x.2.2.1 x.2.2.2.1 x.2.2.2.2) out_run_e.core (sz,ps,S,σ,n) R hlen
noncomputable def zI:Fn:=(prg.fn "step").getD ⟨[],[]⟩
theorem zW:prg.fn "step"=some zI:=rfl
theorem tB(n:Nat)(X S':A)(e:Evt)(t:Str)(hlen:X.s.length<=50000)(hlen':S'.s.length<=50000)
  (H:∃v σ',(prg.run (n+4)).M "_apply" [.o 0,.d (eB e)] (lay sz ps X)=some (v,σ')/\Told sz ps t S' v σ') :
  (prg.run (n+5)).P "step" [.d (iv sz ps),.d (eSt (sT sz ps.length X)),.d (eB e)]=some (some (.d (.tuple [eSt (sT sz ps.length S'),.str t]))):=by
 refine bC λ k9=>?_;obtain⟨v,σ1,h1,rfl,R1⟩:=H;obtain⟨w,σ2,h2,rfl⟩:=wI (n+2) R1 hlen';refine k9 ?_;refine jf zW rfl ?_;have ini:=ug (n+2) sz ps X hlen;refine Wp.asg (v:=.o 0) (σ1:=lay sz ps X) (aq rfl (bi ini rfl)) ?_;have me0:=(rO sz ps X).at' .me trivial;refine Wp.asg (iG (ar rfl rfl rfl me0) me0 rfl rfl me0 rfl h1) ?_;have me1:=R1.at' .me trivial;refine Wp.ret (aU (ae (iG (ar rfl rfl rfl me1) me1 rfl rfl me1 rfl h2) (ae rfl rfl)) rfl) ⟨_,rfl,rfl⟩
end L3
end Mine.Internal.Q
end
section
namespace Mine.Internal.Q
open PySem Classical Mine.Internal.L3
theorem dS{K:Type}[DecidableEq K]{k a:K}{b:V}{r:List (K×V)}:look k ((a,b)::r)=if a=k then some b else look k r:=rfl
theorem lJ{K:Type}[DecidableEq K](k k':K)(v:V)(kvs:List (K×V)):look k' (kvs.map λ q=>if q.1=k then(q.1,v) else q)=if k'=k then(look k' kvs).map λ _=>v else look k' kvs:=by
 induction kvs with
 |nil=>exact(ite_self none).symm
 |cons q r ih=>
  obtain⟨a,b⟩:=q;rw[List.map_cons,dS];by_cases h:a=k
  ·rw[if_pos h,dS];by_cases h2:a=k'
   ·rw[if_pos h2,if_pos h2,if_pos (h2.symm.trans h)];rfl
   ·rw[if_neg h2,if_neg h2];exact ih
  ·rw[if_neg h,dS];by_cases h2:a=k'
   ·rw[if_pos h2,if_pos h2,if_neg (λ e=>h (h2.trans e))]
   ·rw[if_neg h2,if_neg h2];exact ih
theorem t7{K:Type}[DecidableEq K](k k':K)(v:V)(kvs:List (K×V)):look k' (kvs++[(k,v)])=match look k' kvs with
  |some u=>some u
  |none=>if k=k' then some v else none:=by
 induction kvs with
 |nil=>rfl
 |cons q r ih=>
  obtain⟨a,b⟩:=q;rw[List.cons_append,dS,dS];by_cases h2:a=k'
  ·rw[if_pos h2,if_pos h2]
  ·rw[if_neg h2,if_neg h2];exact ih
theorem fh{K:Type}[DecidableEq K](k k':K)(v:V)(kvs:List (K×V)):look k' (put k v kvs)=if k'=k then some v else look k' kvs:=by
 unfold put;by_cases h:(look k kvs).isSome
 ·rw[if_pos h,lJ];by_cases e:k'=k
  ·subst e;obtain⟨u,hu⟩:=Option.isSome_iff_exists.1 h;rw[if_pos rfl,if_pos rfl,hu];rfl
  ·rw[if_neg e,if_neg e]
 ·rw[if_neg h,t7];by_cases e:k'=k
  ·subst e;rw[Option.not_isSome_iff_eq_none.mp h,if_pos rfl]
  ·rw[if_neg e,if_neg λ q=>e q.symm];cases look k' kvs<;>rfl
theorem fO{K:Type}[DecidableEq K](k:K)(v:V)(kvs:List (K×V)):(put k v kvs).length<=kvs.length+1:=by
 unfold put;split
 ·rw[List.length_map];exact Nat.le_succ _
 ·exact Nat.le_of_eq List.length_append
theorem Bh{σ:aa}{l:Nat}{k:Int}{kvs:List (Int×V)}(h:σ[l]?=some (.dcI kvs)):i3 σ .In (.d (.int k)) (.o l)=some (look k kvs).isSome:=by
 exact congrArg (inN (.d (.int k))) h
theorem y5{σ:aa}{l:Nat}{d:PyData}{k:List Int}{kvs:List (List Int×V)}(h:σ[l]?=some (.dcT kvs))(hk:kU d=some k):i3 σ .NotIn (.d d) (.o l)=some (!(look k kvs).isSome):=by
 exact congrArg (Option.map (!·)) ((congrArg (inN (.d d)) h).trans (bi hk rfl))
theorem vi{σ:aa}{l:Nat}{k:Int}{kvs:List (Int×V)}{x:PyData}(h:σ[l]?=some (.dcI kvs))(hv:look k kvs=some (.d x)):gF σ (.o l) (.d (.int k))=some (.d x):=by
 exact(congrArg (wa σ (.d (.int k))) h).trans (congrArg (Option.map (dr σ)) hv)
theorem k7{σ:aa}{l l':Nat}{d:PyData}{k:List Int}{kvs:List (List Int×V)}{xs:List V}(h:σ[l]?=some (.dcT kvs))(hk:kU d=some k)(hv:look k kvs=some (.o l'))(h':σ[l']?=some (.lst xs)):gF σ (.o l) (.d d)=some (.o l'):=by
 exact(congrArg (wa σ (.d d)) h).trans (bi hk ((congrArg (Option.map (dr σ)) hv).trans (congrArg (λ q=>some (drN l' q)) h')))
theorem vn{σ:aa}{l:Nat}{k:Int}{kvs:List (Int×V)}{v:V}(h:σ[l]?=some (.dcI kvs))(hl:kvs.length<LIM):dI (.o l) (.d (.int k)) v σ=some (σ.set l (.dcI (put k v kvs))):=by
 exact(congrArg (sV l (.d (.int k)) v σ) h).trans (if_pos hl)
theorem vm{σ:aa}{l:Nat}{d:PyData}{k:List Int}{kvs:List (List Int×V)}{v:V}(h:σ[l]?=some (.dcT kvs))(hk:kU d=some k)(hl:kvs.length<LIM):dI (.o l) (.d d) v σ=some (σ.set l (.dcT (put k v kvs))):=by
 exact(congrArg (sV l (.d d) v σ) h).trans (bi hk (if_pos hl))
noncomputable def C1:Nd->Bool
 |.frz _=>true
 |_=>false
theorem aL{Φ:Or}{x:Str}{p:Pos}{ρ:ah}{σ:aa}{l:Nat}{n:Nd}(hg:Φ.gl x=none)(hf:Φ.frz p=false)(h:ρ x=some (.o l))(hs:σ[l]?=some n)(hn:C1 n=false):ev Φ (.Name x p) ρ σ=some (.o l,σ):=
 pQ hg h (yP hf hs (by cases n<;>first | rfl | cases hn))
namespace L3
noncomputable def kc(c:Ch):List Int:=[(c.1:Int),(c.2:Int)]
theorem vw{c d:Ch}:kc c=kc d↔c=d:=by
 obtain⟨a,b⟩:=c;obtain⟨a',b'⟩:=d;simp[kc,Int.ofNat_inj]
noncomputable def av(h:List HEv)(c:Ch):List Nat:=h.zipIdx.filterMap λ x=>if x.1.1=c/\x.1.2≠none then some x.2 else none
noncomputable def b6(h:List HEv)(c:Ch):Nat:=(h.filter λ x=>decide (x=(c,none))).length
noncomputable def bz:List HEv->Nat->Option Nat:=λ h p=>(h.zipIdx.filterMap λ x=>if aC x.1=p then some x.2 else none).getLast?
noncomputable def aW(pre:List HEv)(e:HEv):Nat×List Nat:=(aC e,(bz pre (aC e)).toList++match e.2 with
 |some _=>[]
 |none=>[(av pre e.1).getD (b6 pre e.1) 0])
noncomputable def a7(h:List HEv):List (Nat×List Nat):=h.zipIdx.map λ x=>aW (h.take x.2) x.1
noncomputable def Valid(h:List HEv):Prop:=∀pre c post,h=pre++(c,none)::post->b6 pre c<(av pre c).length
noncomputable def iJ(x:Nat×List Nat):PyData:=.tuple [.int x.1,bo x.2]
theorem nq{α:Type}{h:List α}{x:α×Nat}(hx:x∈h.zipIdx):x.2<h.length:=Nat.lt_of_lt_of_eq (List.mem_zipIdx hx).2.1 (Nat.zero_add _)
theorem d6{α:Type}(h:List α)(e:α):(h++[e]).zipIdx=h.zipIdx++[(e,h.length)]:=by simp[List.zipIdx_append]
theorem a9(h:List HEv)(e:HEv)(c:Ch):av (h++[e]) c=av h c++(if e.1=c/\e.2≠none then [h.length] else []):=by
 unfold av;rw[d6,List.filterMap_append];by_cases q:e.1=c/\e.2≠none
 ·simp only[if_pos q,List.filterMap_cons,List.filterMap_nil]
 ·simp only[if_neg q,List.filterMap_cons,List.filterMap_nil]
theorem cM(h:List HEv)(e:HEv)(c:Ch):b6 (h++[e]) c=b6 h c+(if e=(c,none) then 1 else 0):=by
 unfold b6;rw[List.filter_append,List.length_append];by_cases q:e=(c,none)<;>simp[q]
theorem cU(h:List HEv)(e:HEv)(p:Nat):bz (h++[e]) p=if aC e=p then some h.length else bz h p:=by
 unfold bz;rw[d6,List.filterMap_append];by_cases q:aC e=p
 ·simp[q,List.filterMap_cons]
 ·simp[q,List.filterMap_cons]
theorem lK(h:List HEv)(e:HEv):a7 (h++[e])=a7 h++[aW h e]:=by
 unfold a7;rw[d6,List.map_append];congr 1
 ·apply List.map_congr_left;intro x hx;have:x.2<h.length:=nq hx;rw[List.take_append_of_le_length (by exact Nat.le_of_lt ‹_›)]
 ·simp
end L3
end Mine.Internal.Q
end
section
namespace Mine.Internal.Q
open PySem Classical Mine.Internal.L3
namespace L3
noncomputable def nL(l:List Nat):Nd:=.lst (l.map λ k=>V.d (.int (k:Nat)))
noncomputable def nP(l r:Nat):Nd:=.lst [.o l,.d (.int (r:Nat))]
structure LW(kl:List (Int×V))(kq:List (List Int×V))(out:List V)(K:Ch->Prop)(snd:Ch->List Nat)(rcv L:Ch->Nat)(σ:aa):Prop where
 z0:σ[0]?=some (.dcI kl)
 z1:σ[1]?=some (.dcT kq)
 z2:σ[2]?=some (.lst out)
 lo:∀c,K c->3<=L c
 ca:∀c,K c->σ[L c]?=some (nL (snd c))
 cb:∀c,K c->σ[L c+1]?=some (nP (L c) (rcv c))
 dj:∀c c',K c->K c'->c≠c'->L c+1<L c'\/L c'+1<L c
structure LP(K:Ch->Prop)(L:Ch->Nat)(N:Nat)(n:Nd)(σ:aa):Prop where
 at':σ[N]?=some n
 lo:3<=N
 dj:∀c,K c->L c≠N
 dj':∀c,K c->L c+1≠N
theorem r3{σ r:aa}{l:Nat}{n:Nd}(h:σ[l]?=some n):(σ++r)[l]?=some n:=(List.getElem?_append_left (az h)).trans h
theorem gJ{σ:aa}{a l:Nat}{m n:Nd}(hl:a≠l)(h:σ[l]?=some n):(σ.set a m)[l]?=some n:=(List.getElem?_set_ne hl).trans h
theorem pH{σ:aa}{l:Nat}{m n:Nd}(h:σ[l]?=some n):(σ.set l m)[l]?=some m:=List.getElem?_set_self (az h)
theorem lo3{a l:Nat}(h:3<=l)(ha:a<3):a≠l:=Nat.ne_of_lt (Nat.lt_of_lt_of_le ha h)
theorem lo4{a l:Nat}(h:3<=l)(ha:a<3):l≠a:=λ e=>lo3 h ha e.symm
variable{kl:List (Int×V)}{kq:List (List Int×V)}{out:List V}{K:Ch->Prop}{snd:Ch->List Nat}{rcv L:Ch->Nat}{σ:aa}{N:Nat}{n:Nd}
theorem LW.app(W:LW kl kq out K snd rcv L σ)(r:List Nd):LW kl kq out K snd rcv L (σ++r):=
 ⟨r3 W.z0,r3 W.z1,r3 W.z2,W.lo,λ c hc=>r3 (W.ca c hc),λ c hc=>r3 (W.cb c hc),W.dj⟩
theorem LW.CQ(W:LW kl kq out K snd rcv L σ)(kl':List (Int×V)):LW kl' kq out K snd rcv L (σ.set 0 (.dcI kl')):=
 ⟨pH W.z0,gJ (by decide) W.z1,gJ (by decide) W.z2,W.lo,λ c hc=>gJ (lo3 (W.lo c hc) (by decide)) (W.ca c hc),λ c hc=>gJ (Nat.zero_ne_add_one _) (W.cb c hc),W.dj⟩
theorem LW.CP(W:LW kl kq out K snd rcv L σ)(kq':List (List Int×V)):LW kl kq' out K snd rcv L (σ.set 1 (.dcT kq')):=
 ⟨gJ (by decide) W.z0,pH W.z1,gJ (by decide) W.z2,W.lo,λ c hc=>gJ (lo3 (W.lo c hc) (by decide)) (W.ca c hc),λ c hc=>gJ (lo3 (Nat.le_succ_of_le (W.lo c hc)) (by decide)) (W.cb c hc),W.dj⟩
theorem LW.CO(W:LW kl kq out K snd rcv L σ)(out':List V):LW kl kq out' K snd rcv L (σ.set 2 (.lst out')):=
 ⟨gJ (by decide) W.z0,gJ (by decide) W.z1,pH W.z2,W.lo,λ c hc=>gJ (lo3 (W.lo c hc) (by decide)) (W.ca c hc),λ c hc=>gJ (lo3 (Nat.le_succ_of_le (W.lo c hc)) (by decide)) (W.cb c hc),W.dj⟩
theorem LW.sV(W:LW kl kq out K snd rcv L σ)(P:LP K L N n σ)(n':Nd):LW kl kq out K snd rcv L (σ.set N n'):=
 ⟨gJ (lo4 P.lo (by decide)) W.z0,gJ (lo4 P.lo (by decide)) W.z1,gJ (lo4 P.lo (by decide)) W.z2,W.lo,λ c hc=>gJ (P.dj c hc).symm (W.ca c hc),λ c hc=>gJ (P.dj' c hc).symm (W.cb c hc),W.dj⟩
theorem LP.sV(P:LP K L N n σ)(n':Nd):LP K L N n' (σ.set N n'):=⟨pH P.at',P.lo,P.dj,P.dj'⟩
theorem LP.set(P:LP K L N n σ){l:Nat}(hl:l≠N)(n':Nd):LP K L N n (σ.set l n'):=⟨gJ hl P.at',P.lo,P.dj,P.dj'⟩
theorem LW.t8(W:LW kl kq out K snd rcv L σ):3<=σ.length:=az W.z2
theorem LP.mk'(W:LW kl kq out K snd rcv L σ)(n:Nd):LP K L σ.length n (σ++[n]):=
 ⟨List.getElem?_concat_length,W.t8,λ c hc=>Nat.ne_of_lt (az (W.ca c hc)),λ c hc=>Nat.ne_of_lt (az (W.cb c hc))⟩
theorem lt1{a b:Nat}(h:a+1<b\/b+1<a):a≠b/\a≠b+1/\a+1≠b/\a+1≠b+1:=
 ⟨λ e=>(e▸h).elim (λ h=>Nat.lt_irrefl _ (Nat.lt_of_succ_lt h)) λ h=>Nat.lt_irrefl _ (Nat.lt_of_succ_lt h),
  λ e=>h.elim (λ h=>Nat.lt_irrefl _ (Nat.lt_of_succ_lt (Nat.lt_of_succ_lt (e▸h)))) λ h=>Nat.lt_irrefl _ (e▸h),
  λ e=>h.elim (λ h=>Nat.lt_irrefl _ (e▸h)) λ h=>Nat.lt_irrefl _ (Nat.lt_of_succ_lt (Nat.lt_of_succ_lt (e▸h))),
  λ e=>(Nat.succ.inj e▸h).elim (λ h=>Nat.lt_irrefl _ (Nat.lt_of_succ_lt h)) λ h=>Nat.lt_irrefl _ (Nat.lt_of_succ_lt h)⟩
theorem LW.one(W:LW kl kq out K snd rcv L σ){c:Ch}(hc:K c){snd':Ch->List Nat}{rcv':Ch->Nat}{l:Nat}{nd:Nd}(hl:l=L c\/l=L c+1)(hs:∀d,d≠c->snd' d=snd d)(hr:∀d,d≠c->rcv' d=rcv d)
  (ha:(σ.set l nd)[L c]?=some (nL (snd' c))) (hb:(σ.set l nd)[L c+1]?=some (nP (L c) (rcv' c))):LW kl kq out K snd' rcv' L (σ.set l nd):=by
 have lo:3<=l:=hl.elim (λ e=>e▸W.lo c hc) λ e=>e▸Nat.le_succ_of_le (W.lo c hc);have ne:∀d,K d->d≠c->l≠L d/\l≠L d+1:=λ d hd e=>have q:=lt1 (W.dj c d hc hd λ h=>e h.symm);hl.elim (λ z=>z.symm▸⟨q.1,q.2.1⟩) λ z=>z.symm▸q.2.2;refine⟨gJ (lo4 lo (by decide)) W.z0,gJ (lo4 lo (by decide)) W.z1,gJ (lo4 lo (by decide)) W.z2,W.lo,λ d hd=>?_,λ d hd=>?_,W.dj⟩
 ·by_cases e:d=c
  ·exact e▸ha
  ·exact gJ (ne d hd e).1 (hs d e▸W.ca d hd)
 ·by_cases e:d=c
  ·exact e▸hb
  ·exact gJ (ne d hd e).2 (hr d e▸W.cb d hd)
theorem LW.new(W:LW kl kq out K snd rcv L σ){c:Ch}(hc:¬K c)(hs:snd c=[])(hr:rcv c=0):LW kl kq out (λ d=>K d\/d=c) snd rcv (λ d=>if d=c then σ.length else L d) (σ++[.lst [],nP σ.length 0]):=by
 have ne:∀d,K d->(if d=c then σ.length else L d)=L d:=λ d hd=>if_neg fun(e:d=c)=>hc (e▸hd);have eq:(if c=c then σ.length else L c)=σ.length:=if_pos rfl;refine⟨r3 W.z0,r3 W.z1,r3 W.z2,λ d hd=>?_,λ d hd=>?_,λ d hd=>?_,λ d d' hd hd' hne=>?_⟩
 ·cases hd with
  |inl hd=>rw[ne d hd];exact W.lo d hd
  |inr e=>rw[e,eq];exact W.t8
 ·cases hd with
  |inl hd=>rw[ne d hd];exact r3 (W.ca d hd)
  |inr e=>subst e;rw[eq,hs];rw[List.getElem?_append_right (Nat.le_refl _),Nat.sub_self];rfl
 ·cases hd with
  |inl hd=>rw[ne d hd];exact r3 (W.cb d hd)
  |inr e=>subst e;rw[eq,hr];rw[List.getElem?_append_right (Nat.le_succ _),Nat.succ_sub (Nat.le_refl _),Nat.sub_self];rfl
 ·cases hd with
  |inl hd=>
   rw[ne d hd];cases hd' with
   |inl hd'=>rw[ne d' hd'];exact W.dj d d' hd hd' hne
   |inr e=>rw[e,eq];exact .inl (az (W.cb d hd))
  |inr e=>
   cases hd' with
   |inl hd'=>rw[ne d' hd',e,eq];exact .inr (az (W.cb d' hd'))
   |inr e'=>exact absurd (e.trans e'.symm) hne
theorem LP.new(P:LP K L N n σ)(c:Ch)(r:List Nd):LP (λ d=>K d\/d=c) (λ d=>if d=c then σ.length else L d) N n (σ++r):=by
 have hN:=az P.at';refine⟨r3 P.at',P.lo,λ d hd=>?_,λ d hd=>?_⟩
 ·by_cases e:d=c
  ·rw[if_pos e];exact Nat.ne_of_gt hN
  ·rw[if_neg e];exact P.dj d (hd.resolve_right e)
 ·by_cases e:d=c
  ·rw[if_pos e];exact Nat.ne_of_gt (Nat.lt_succ_of_lt hN)
  ·rw[if_neg e];exact P.dj' d (hd.resolve_right e)
end L3
end Mine.Internal.Q
end
section
namespace Mine.Internal.Q
open PySem Classical Mine.Internal.L3
theorem mw{α:Type}{h:List α}{pre post:List (α×Nat)}{y:α×Nat}(e:h.zipIdx=pre++y::post):y.2=(pre.map Prod.fst).length/\h=pre.map Prod.fst++y.1::post.map Prod.fst:=by
 refine⟨by rw[List.length_map];exact(qj e).1,?_⟩;have:h=h.zipIdx.map Prod.fst:=by simp
 rw[this,e];exact List.map_append
theorem Wp.Bf{Φ:Or}{s:Stmt}{r:List Stmt}{ρ:ah}{σ:aa}{K:Out->ah->aa->Prop}(ns:List Str)(P:aa->Prop)(h1:Wp (x1 Φ s ρ σ) λ o ρ' τ=>o=.nx/\Ov ns ρ ρ'/\P τ)(h2:∀f τ,P τ->Wp (xs Φ r (over ns f ρ) τ) K):Wp (xs Φ (s::r) ρ σ) K:=by
 refine Wp.cons (h1.mono ?_);rintro o ρ' τ ⟨rfl,⟨f,rfl⟩,p⟩;exact h2 _ _ p
theorem Wp.nxA{Φ:Or}{s:Stmt}{r:List Stmt}{ρ:ah}{σ:aa}{K:Out->ah->aa->Prop}(x:Str)(v:V)(h1:x1 Φ s ρ σ=some (.nx,upd ρ x v,σ))(h:Wp (xs Φ r (upd ρ x v) σ) K):Wp (xs Φ (s::r) ρ σ) K:=Wp.nx h1 h
theorem Wp.nxS{Φ:Or}{s:Stmt}{r:List Stmt}{ρ:ah}{σ:aa}{K:Out->ah->aa->Prop}(σ1:aa)(h1:x1 Φ s ρ σ=some (.nx,ρ,σ1))(h:Wp (xs Φ r ρ σ1) K):Wp (xs Φ (s::r) ρ σ) K:=Wp.nx h1 h
theorem kL{σ:aa}{l:Nat}{d:PyData}{vs:List V}(h:σ[l]?=some (.lst vs))(D:Den 8 σ (.o l) d):back σ (.o l)=some (.d d):=by
 refine bC λ k9=>?_;obtain⟨τ,hz,_⟩:=fo 8 σ σ (.o l) d D ⟨Nat.le_refl _,λ l _=>.inl rfl⟩;refine k9 ?_;exact(congrArg (bkN l σ) h).trans (congrArg (Option.map fun(x:PyData×aa)=>V.d x.1) hz)
theorem Wp.AS{Φ:Or}{t:Expr}{b o:List Stmt}{p:Pos}{ρ:ah}{σ σ1:aa}{c:Bool}{K:Out->ah->aa->Prop}(h:tst Φ t ρ σ (ev Φ t ρ σ)=some (c,σ1))(hT:c=true->Wp (xs Φ b ρ σ1) K)(hF:c=false->Wp (xs Φ o ρ σ1) K):Wp (x1 Φ (.If t b o p) ρ σ) K:=by
 have e:x1 Φ (.If t b o p) ρ σ=if c then xs Φ b ρ σ1 else xs Φ o ρ σ1:=bi h rfl
 rw[e];cases c with
 |true=>exact hT rfl
 |false=>exact hF rfl
theorem ck{i j:Int}:kU (.tuple [.int i,.int j])=some [i,j]:=rfl
namespace L3
theorem pd(h:List HEv)(c:Ch):(av h c).length<=h.length:=Nat.le_trans (List.length_filterMap_le _ _) (Nat.le_of_eq List.length_zipIdx)
theorem o6{h g post:List HEv}{e:HEv}(hv:Valid h)(hs:h=g++e::post)(d:Ch)(hd:av g d=[]):b6 g d=0:=by
 refine Classical.byContradiction λ h0=>?_;obtain⟨x,hx⟩:=List.exists_mem_of_length_pos (Nat.pos_of_ne_zero h0);obtain⟨hx,h1⟩:=List.mem_filter.1 hx;obtain⟨a,b,rfl⟩:=List.append_of_mem (of_decide_eq_true h1▸hx);have h1:=hv a d (b++e::post) (hs.trans (List.append_assoc ..));have hd:List.filterMap _ _=[]:=hd;rw[List.zipIdx_append,List.filterMap_append] at hd;exact Nat.not_lt_zero _ (Nat.lt_of_lt_of_eq h1 (congrArg List.length (List.append_eq_nil_iff.1 hd).1))
theorem d8{g:List HEv}{e:HEv}{d:Ch}(h:¬(e.1=d/\e.2≠none)):av (g++[e]) d=av g d:=(a9 ..).trans ((congrArg (_++·) (if_neg h)).trans (List.append_nil _))
theorem jn{g:List HEv}{c:Ch}{v:Int}:av (g++[(c,some v)]) c=av g c++[g.length]:=(a9 ..).trans (congrArg (_++·) (if_pos ⟨rfl,(λ h=>by cases h)⟩))
theorem jY{g:List HEv}{e:HEv}{d:Ch}(h:e≠(d,none)):b6 (g++[e]) d=b6 g d:=(cM ..).trans (congrArg (_ + ·) (if_neg h))
theorem tN{g:List HEv}{c:Ch}:b6 (g++[(c,none)]) c=b6 g c+1:=(cM ..).trans (congrArg (_ + ·) (if_pos rfl))
noncomputable def xu:Fn:=(prg.fn "_links").getD ⟨[],[]⟩
theorem xO:prg.fn "_links"=some xu:=rfl
noncomputable def oL(g:List HEv):List V:=((a7 g).map iJ).map V.d
noncomputable def sK(g:List HEv)(c:Ch):Prop:=av g c≠[]
noncomputable def lQ(K:Ch->Prop)(kq:List (List Int×V))(L:Ch->Nat):Prop:=∀d,look (kc d) kq=if K d then some (.o (L d+1)) else none
theorem wx{g:List HEv}{c:Ch}{v:Int}:sK (g++[(c,some v)])=λ d=>sK g d\/d=c:=funext λ d=>propext ⟨λ q=>(em (d=c)).elim .inr λ e=>.inl λ h=>q ((d8 λ h=>e h.1.symm).trans h),
 λ q=>(em (d=c)).elim (λ e z=>List.concat_ne_nil _ _ (jn.symm.trans (e▸z))) λ e z=>q.resolve_right e ((d8 λ h=>e h.1.symm).symm.trans z)⟩
theorem wR{g:List HEv}{e:HEv}:oL (g++[e])=oL g++[V.d (iJ (aW g e))]:=by
 unfold oL;rw[lK,List.map_append,List.map_append];rfl
noncomputable def nD(l:List Nat):Nd:=.lst ((l.map fun(k:Nat)=>PyData.int k).map .d)
inductive LI(g:List HEv)(σ:aa):Prop
 |mk (kl:List (Int×V)) (kq:List (List Int×V)) (L:Ch->Nat) (W:LW kl kq (oL g) (sK g) (av g) (b6 g) L σ) (hl:kl.length<=g.length) (hq:kq.length<=g.length)
  (last:∀p:Nat,look (p:Int) kl=(bz g p).map fun(k:Nat)=>V.d (.int k)) (lq:lQ (sK g) kq L)
inductive LM(g:List HEv)(K:Ch->Prop)(s:Ch->List Nat)(r:Ch->Nat)(kl:List (Int×V))(N:Nat)(l:List Nat)(σ:aa):Prop
 |mk (kq:List (List Int×V)) (L:Ch->Nat) (W:LW kl kq (oL g) K s r L σ) (P:LP K L N (nD l) σ) (hq:kq.length<=g.length+1) (lq:lQ K kq L)
theorem wk{σ:aa}{a b:Nd}:(σ++[a]).set σ.length b=σ++[b]:=by
 rw[List.set_append_right _ _ (Nat.le_refl _),Nat.sub_self];rfl
theorem CY{a:Nat}(h:a<=1000):a<LIM:=Nat.lt_of_le_of_lt h (by decide)
namespace links_run_e
noncomputable section
def P(n:Nat)(h:List HEv):Prop:=∀(hv:Valid h) (hlen:h.length<=1000),(prg.run (n+2)).P "_links" [.d (.list (h.map eH))]=some (some (.d (.list ((a7 h).map iJ))))
def x:(Nat)×(List HEv):=@Classical.epsilon _ ⟨(default,default)⟩ λ x=>¬P x.1 x.2
def n:Nat:=x.1
def h:List HEv:=x.2
theorem core:P n h:=λ hv hlen=>by
 refine jf xO rfl (Wp.asg (v:=.o 0) (σ1:=[.dcI []]) rfl (Wp.asg (v:=.o 1) (σ1:=[.dcI [],.dcT []]) rfl (Wp.asg (v:=.o 2) (σ1:=[.dcI [],.dcT [],.lst []]) rfl (Wp.for (cv eH (ys:=h) rfl) ?_))));refine Wp.forL (fun(x:HEv×Nat)=>V.d (.tuple [.int x.2,eH x.1])) (λ pre ρ σ=>Ov ["k","e","own","pred","key","pair","h"] _ ρ/\LI (pre.map Prod.fst) σ) ⟨Ov.refl,[],[],λ _=>0,⟨rfl,rfl,rfl,λ c hc=>absurd rfl hc,λ c hc=>absurd rfl hc,λ c hc=>absurd rfl hc,λ c c' hc=>absurd rfl hc⟩,Nat.le_refl _,Nat.le_refl _,λ p=>rfl,λ c=>(if_neg λ hc=>absurd rfl hc).symm⟩ ?_ ?_
 ·rintro pre ⟨⟨c,x⟩,m⟩ post ρ σ hy ⟨⟨f,rfl⟩,kl,kq,L,W,hkl,hkq,hlast,hlq⟩;obtain⟨hm,hsp⟩:=mw hy;have hmap:(pre++[((c,x),m)]).map Prod.fst=pre.map Prod.fst++[(c,x)]:=List.map_append;have hle:(pre.map Prod.fst).length<1000:=Nat.lt_of_lt_of_le (Nat.lt_of_lt_of_eq (Nat.lt_add_of_pos_right (Nat.succ_pos _)) (congrArg List.length hsp |>.trans List.length_append).symm) hlen;have hval:x=none->b6 (pre.map Prod.fst) c<(av (pre.map Prod.fst) c).length:=λ q=>hv _ _ _ (q▸hsp);have hrcv:=o6 hv hsp;rw[hmap];clear hmap hy hsp;generalize pre.map Prod.fst=g at *;cases(show m=g.length from hm);have hlim:∀{a},a<=g.length->a<LIM:=λ q=>CY (Nat.le_of_lt (Nat.lt_of_le_of_lt q hle));refine Wp.bind rfl (Wp.nxA "own" (.d (.int (aC (c,x)))) (by cases x<;>rfl) (Wp.asg (v:=.o σ.length) (σ1:=σ++[.lst []]) rfl ?_));refine Wp.nxS (σ++[nD (bz g (aC (c,x))).toList]) ?_ ?_
  ·have z:=(W.app [.lst []]).z0;refine bi (af (ao rfl (aL rfl rfl rfl z rfl) (Bh z))) ?_;have hl:=hlast (aC (c,x));cases e:bz g (aC (c,x)) with
   |none=>rw[e] at hl;rw[hl];rfl
   |some k=>
    rw[e] at hl;rw[hl];have hN:(σ++[.lst []])[σ.length]?=some (Nd.lst []):=List.getElem?_concat_length;exact bi (bi (bR (l:=σ.length) (aO rfl rfl rfl hN) hN (aj rfl (aL rfl rfl rfl z rfl) rfl (vi z (x:=.int (k:Nat)) hl)) hN (Nat.le_of_ble_eq_true rfl)) rfl) (congrArg (λ s=>some (Out.nx,_,s)) wk)
  have W1:=W.app [nD (bz g (aC (c,x))).toList];have P1:=LP.mk' W (nD (bz g (aC (c,x))).toList);generalize σ++[nD _]=σ1 at W1 P1 ⊢;generalize σ.length=N at P1 ⊢;clear W;refine Wp.Bf ["key","pair","h"] (LM g (sK (g++[(c,x)])) (av (g++[(c,x)])) (b6 (g++[(c,x)])) kl N (aW g (c,x)).2) ?_ ?_
  ·clear hlast;cases x with
   |some v=>
    rw[show(aW g (c,some v)).2=(bz g c.1).toList from List.append_nil _,wx];refine Wp.AS (c:=true) rfl (λ _=>Wp.asg (v:=.d (.tuple [.int c.1,.int c.2])) rfl ?_) (λ h=>by cases h);refine Wp.xd (LM g (λ d=>sK g d\/d=c) (av g) (b6 g) kl N (bz g c.1).toList) (Wp.AS (af (ao rfl (aL rfl rfl rfl W1.z1 rfl) (y5 (k:=kc c) W1.z1 ck))) (λ q=>?_) λ q=>?_) ?_
    ·have hk:¬sK g c:=λ h=>by rw[hlq c,if_pos h] at q;cases q
     have hk0:av g c=[]:=Classical.byContradiction hk;have W3:=W1.new hk hk0 (hrcv c hk0);have P3:=P1.new c [.lst [],nP σ1.length 0];refine Wp.tD (v:=.o (σ1.length+1)) (σ1:=σ1++[.lst [],nP σ1.length 0]) ?_ (aL rfl rfl rfl W3.z1 rfl) rfl (vm (k:=kc c) W3.z1 ck (hlim hkq)) (Wp.nil ⟨rfl,rfl,_,_,W3.CP _,P3.set (lo3 P3.lo (by decide)) _,Nat.le_trans (fO _ _ _) (Nat.succ_le_succ hkq),λ d=>?_⟩)
     ·show some (V.o (σ1++[Nd.lst []]).length,(σ1++[Nd.lst []])++[Nd.lst [V.o σ1.length,V.d (.int 0)]])=_;rw[List.length_append,List.append_assoc];rfl
     ·rw[fh];by_cases e:d=c
      ·rw[e,if_pos rfl,if_pos (.inr rfl),if_pos rfl]
      ·rw[if_neg λ q=>e (vw.1 q),hlq d,if_neg e];by_cases hd:sK g d
       ·rw[if_pos hd,if_pos (.inl hd)]
       ·rw[if_neg hd,if_neg λ q=>q.elim hd e]
    ·have hk:sK g c:=Classical.byContradiction λ h=>by rw[hlq c,if_neg h] at q;cases q
     rw[show(λ d=>sK g d\/d=c)=sK g from funext λ d=>propext (or_iff_left_of_imp λ e=>e▸hk)];exact Wp.nil ⟨rfl,rfl,kq,L,W1,P1,Nat.le_succ_of_le hkq,hlq⟩
    ·rintro σ3 ⟨kq',L',W3,P3,hkq',hlq'⟩;have ca:=W3.ca c (.inr rfl);have cb:=W3.cb c (.inr rfl);refine Wp.expr (bR (l:=L' c) (aj rfl (aj rfl (aL rfl rfl rfl W3.z1 rfl) rfl (k7 (k:=kc c) W3.z1 ck ((hlq' c).trans (if_pos (.inr rfl))) cb)) rfl (bI (j:=0) cb rfl ca)) ca (v:=.d (.int g.length)) rfl ca (by rw[List.length_map];exact hlim (pd g c)))
      (Wp.nil ⟨rfl,Ov.upd Ov.refl rfl,kq',L',W3.one (.inr rfl) (.inl rfl) (λ d e=>d8 λ h=>e h.1.symm) (λ d e=>jY λ q=>by cases q) ?_ ?_,P3.set (P3.dj c (.inr rfl)) _,hkq',hlq'⟩)
     ·rw[jn];exact(pH ca).trans (congrArg (λ l=>some (Nd.lst l)) (List.map_append (l₂:=[g.length])).symm)
     ·rw[show b6 (g++[(c,some v)]) c=_ from jY λ q=>by cases(Prod.mk.inj q).2];exact gJ (Nat.ne_of_lt (Nat.lt_succ_self _)) cb
   |none=>
    have hrv:=hval rfl;have hk:sK g c:=λ q=>Nat.not_lt_zero _ (Nat.lt_of_lt_of_eq hrv (congrArg List.length q));have ca:=W1.ca c hk;have cb:=W1.cb c hk;have eK:av (g++[(c,none)])=av g:=funext λ d=>d8 λ h=>h.2 rfl;rw[show sK (g++[(c,none)])=sK g from funext λ d=>congrArg (·≠[]) (congrFun eK d),eK];refine Wp.AS (c:=false) rfl (λ h=>by cases h) λ _=>Wp.asg (v:=.o (L c+1)) (aj rfl (aL rfl rfl rfl W1.z1 rfl) rfl (k7 (k:=kc c) W1.z1 ck ((hlq c).trans (if_pos hk)) cb)) ?_;refine Wp.asg (v:=.d (.int (b6 g c:Nat))) (aj rfl (aO rfl rfl rfl cb) rfl (eF (j:=1) cb rfl)) ?_;refine Wp.expr (bR (l:=N) (aO rfl rfl rfl P1.at') P1.at' (aj rfl (aj rfl (aO rfl rfl rfl cb) rfl (bI (j:=0) cb rfl ca)) rfl (eF (j:=b6 g c) (x:=.int ((av g c).getD (b6 g c) 0:Nat)) ca (by simp[hrv]))) P1.at' (by cases bz g (aC (c,none))<;>exact Nat.le_of_ble_eq_true rfl)) ?_;rw[show(Nd.lst (_++[_]))=nD (aW g (c,none)).2 from congrArg Nd.lst (by simp[aW,aC])];have W2:=W1.sV P1 (nD (aW g (c,none)).2);have P2:=P1.sV (nD (aW g (c,none)).2);have cb:=W2.cb c hk;exact Wp.tD (v:=.d (.int (b6 g c+1:Nat))) rfl (aO rfl rfl rfl cb) rfl (cg (k:=1) cb (Nat.le_of_ble_eq_true rfl)) (Wp.nil ⟨rfl,Ov.upd (Ov.upd Ov.refl rfl) rfl,kq,L,W2.one hk (.inr rfl) (λ _ _=>rfl) (λ d e=>jY λ q=>e (Prod.mk.inj q).1.symm) (gJ (Nat.ne_of_gt (Nat.lt_succ_self _)) (W2.ca c hk)) (by rw[tN];exact pH cb),P2.set (P2.dj' c hk) _,Nat.le_succ_of_le hkq,hlq⟩)
  ·rintro f2 τ ⟨kq',L',W4,P4,hq',hlq'⟩;refine Wp.tD rfl (aL rfl rfl rfl W4.z0 rfl) rfl (vn W4.z0 (hlim hkl)) ?_;have W5:=W4.CQ (put (aC (c,x):Int) (.d (.int g.length)) kl);have P5:=P4.set (l:=0) (lo3 P4.lo (by decide)) (.dcI (put (aC (c,x):Int) (.d (.int g.length)) kl));have W6:=W5.sV P5 (.frz (bo (aW g (c,x)).2));refine Wp.expr (bR (l:=2) (aL rfl rfl rfl W5.z2 rfl) W5.z2 (aU (ae rfl (ae (eI rfl rfl rfl P5.at') rfl)) rfl) W6.z2 ?_) (Wp.nil ⟨((((Ov.upd (Ov.upd ⟨f,rfl⟩ rfl) rfl).upd rfl).upd rfl).over rfl),put (aC (c,x):Int) (.d (.int g.length)) kl,kq',L',?_,?_,?_,?_,hlq'⟩)
   ·refine Nat.lt_of_le_of_lt (Nat.le_of_eq ?_) (hlim (Nat.le_refl _));unfold oL a7;rw[List.length_map,List.length_map,List.length_map,List.length_zipIdx]
   ·rw[wR];exact W6.CO _
   ·rw[List.length_append];exact Nat.le_trans (fO _ _ _) (Nat.succ_le_succ hkl)
   ·rw[List.length_append];exact hq'
   ·intro p;rw[fh,cU,hlast];by_cases e:aC (c,x)=p
    ·rw[if_pos e,if_pos (congrArg _ e.symm)];rfl
    ·rw[if_neg e,if_neg λ q=>e (Int.ofNat_inj.1 q).symm]
 ·rintro ρ σ ⟨⟨f,rfl⟩,kl,kq,L,W,_⟩;rw[List.zipIdx_map_fst] at W;exact Wp.ret (aL rfl rfl rfl W.z2 rfl) ⟨_,rfl,kL W.z2 (cK W.z2)⟩
end
end links_run_e
theorem iy(n:Nat)(h:List HEv)(hv:Valid h)(hlen:h.length<=1000):(prg.run (n+2)).P "_links" [.d (.list (h.map eH))]=some (some (.d (.list ((a7 h).map iJ)))):=aw (Q:=λ x:(Nat)×(List HEv)=>links_run_e.P x.1 x.2) links_run_e.core (n,h) hv hlen
end L3
end Mine.Internal.Q
end
section
namespace Mine.Internal.Q
open PySem Classical Mine.Internal.L3
theorem cz(l:List Nat)(j:Nat):(l.map fun(k:Nat)=>(k:Int)).contains (j:Int)=decide (j∈l):=by
 rw[Bool.eq_iff_iff];simp only[List.contains_iff_mem,List.mem_map,decide_eq_true_eq];constructor
 ·rintro⟨a,h1,h2⟩;have:a=j:=by exact Int.ofNat_inj.1 ‹_›
  exact this▸h1
 ·intro h;exact⟨j,h,rfl⟩
theorem zQ{Φ:Or}{o a b:Expr}{p q:Pos}{ρ:ah}{σ σ1:aa}{l:Nat}{k:Int}{v:V}{kvs:List (Int×V)}{r:V}(h1:ev Φ o ρ σ=some (.o l,σ1))(h2:σ1[l]?=some (.dcI kvs))(h3:ev Φ a ρ σ1=some (.d (.int k),σ1))(h4:ev Φ b ρ σ1=some (v,σ1))(h5:((look k kvs).map (dr σ1)).getD v=r):ev Φ (.Call (.Attribute o "get" p) [a,b] [] q) ρ σ=some (r,σ1):=by
 subst h5;exact cZ h1 (k:=3) (sR h2 rfl) (ae h3 (ae h4 rfl)) (sR h2 rfl) (iP h2 rfl)
theorem vE{Φ:Or}{o a:Expr}{p q:Pos}{ρ:ah}{σ σ1:aa}{l:Nat}{k:Int}{xs:List Int}(h1:ev Φ o ρ σ=some (.o l,σ1))(h2:σ1[l]?=some (.set xs))(h3:ev Φ a ρ σ1=some (.d (.int k),σ1))(hn:xs.contains k=false)(hl:xs.length<4000):ev Φ (.Call (.Attribute o "add" p) [a] [] q) ρ σ=some (.d .none,σ1.set l (.set (xs++[k]))):=by
 exact cZ h1 (k:=4) (sR h2 rfl) (ae h3 rfl) (sR h2 rfl) (iP h2 (show(if xs.length<4000 then some (V.d .none,σ1.set l (.set (if xs.contains k then xs else xs++[k]))) else none)=_ from(if_pos hl).trans (by rw[hn];rfl)))
theorem d7{α:Type}{h:List α}{m:Nat}{e:α}(he:h[m]?=some e):h.take (m+1)=h.take m++[e]:=by
 rw[List.take_add_one,he];rfl
theorem gX{α β:Type}{f g:α->Option β}{l:List α}(h:∀x∈l,f x=g x):l.filterMap f=l.filterMap g:=by
 induction l with
 |nil=>rfl
 |cons x r ih=>rw[List.filterMap_cons,List.filterMap_cons,h x (by exact List.mem_cons_self),ih λ y hy=>h y (by exact List.mem_cons_of_mem _ ‹_›)]
namespace L3
noncomputable def bD(g:List HEv)(p:Nat):Nat:=(g.filter λ x=>decide (aC x=p)).length
theorem bB(g:List HEv)(e:HEv)(p:Nat):bD (g++[e]) p=bD g p+if aC e=p then 1 else 0:=by
 unfold bD;rw[List.filter_append,List.length_append];by_cases q:aC e=p<;>simp[q]
noncomputable def isIn(cut:List Nat)(g:List HEv)(e:HEv):Prop:=bD g (aC e)+1<=cut.getD (aC e) 0
noncomputable def splitOf(h:List HEv)(cut:List Nat):List Nat:=h.zipIdx.filterMap λ x=>if isIn cut (h.take x.2) x.1 then some x.2 else none
theorem jk(g:List HEv)(e:HEv)(cut:List Nat):splitOf (g++[e]) cut=splitOf g cut++(if isIn cut g e then [g.length] else []):=by
 unfold splitOf;rw[d6,List.filterMap_append];congr 1
 ·apply gX;intro x hx;have:x.2<g.length:=nq hx;rw[List.take_append_of_le_length (by exact Nat.le_of_lt ‹_›)]
 ·by_cases q:isIn cut g e<;>simp[List.filterMap_cons,q]
theorem e9{h:List HEv}{cut:List Nat}{k:Nat}(hk:k∈splitOf h cut):k<h.length:=by
 unfold splitOf at hk;rw[List.mem_filterMap] at hk;obtain⟨x,h1,h2⟩:=hk;have:=List.mem_zipIdx h1;by_cases q:isIn cut (h.take x.2) x.1
 ·rw[if_pos q] at h2;cases h2;lia
 ·rw[if_neg q] at h2;cases h2
theorem split_le(h:List HEv)(cut:List Nat):(splitOf h cut).length<=h.length:=by
 refine Nat.le_trans (List.length_filterMap_le _ _) ?_;simp
theorem dT(h:List HEv)(m:Nat):(a7 h)[m]?=(h[m]?).map λ e=>aW (h.take m) e:=by
 unfold a7;rw[List.getElem?_map,List.getElem?_zipIdx];cases h[m]?<;>(first | rfl | simp)
theorem n7{h:List HEv}{pre post:List ((Nat×List Nat)×Nat)}{y:(Nat×List Nat)×Nat}(e:(a7 h).zipIdx=pre++y::post):y.2=pre.length/\∃x,h[pre.length]?=some x/\y.1=aW (h.take pre.length) x:=by
 refine bC λ k9=>?_;obtain⟨h1,h2⟩:=qj e;refine k9 ?_;rw[dT] at h2;refine⟨h1,?_⟩;cases hx:h[pre.length]? with
 |none=>rw[hx] at h2;cases h2
 |some x=>rw[hx] at h2;exact⟨x,rfl,(Option.some.inj h2).symm⟩
theorem iz(h:List HEv):(a7 h).length=h.length:=by simp[a7]
noncomputable def AQ(l:List Nat):V:=.fs (l.map fun(k:Nat)=>(k:Int))
noncomputable def xr:Fn:=(prg.fn "_split").getD ⟨[],[]⟩
theorem xM:prg.fn "_split"=some xr:=rfl
theorem vI{σ:aa}{cut:List Nat}{k:Nat}(hk:k<cut.length):gF σ (.d (bo cut)) (.d (.int k))=some (.d (.int (cut.getD k 0:Nat))):=by
 show(fi (.list (cut.map fun(n:Nat)=>PyData.int n)) (k:Int)).map V.d=_;rw[item_list (by simpa using hk)];simp[hk]
namespace split_run_e
noncomputable section
def P(n:Nat)(h:List HEv)(cut:List Nat):Prop:=∀(hv:Valid h) (hlen:h.length<=1000) (hc:∀e∈h,aC e<cut.length),(prg.run (n+3)).P "_split" [.d (.list (h.map eH)),.d (bo cut)]=some (some (AQ (splitOf h cut)))
def x:(Nat)×(List HEv)×(List Nat):=@Classical.epsilon _ ⟨(default,default,default)⟩ λ x=>¬P x.1 x.2.1 x.2.2
def n:Nat:=x.1
def h:List HEv:=x.2.1
def cut:List Nat:=x.2.2
theorem core:P n h cut:=λ hv hlen hc=>by
 refine jf xM rfl ?_;refine Wp.asg (v:=.o 0) (σ1:=[.dcI []]) rfl ?_;refine Wp.asg (v:=.o 1) (σ1:=[.dcI [],.set []]) rfl ?_;refine Wp.for (cv iJ (ys:=a7 h) (aq rfl (aT rfl rfl (iy n h hv hlen)))) ?_;refine Wp.forL (fun(x:(Nat×List Nat)×Nat)=>V.d (.tuple [.int x.2,iJ x.1])) (λ pre ρ σ=>Ov ["k","own","pred"] _ ρ/\∃kn,σ=[.dcI kn,.set ((splitOf (h.take pre.length) cut).map fun(k:Nat)=>(k:Int))]/\kn.length<=pre.length/\∀p:Nat,look (p:Int) kn=if bD (h.take pre.length) p=0 then none else some (.d (.int (bD (h.take pre.length) p:Nat)))) ⟨Ov.refl,[],rfl,Nat.le_refl _,λ p=>rfl⟩ ?_ ?_
 ·rintro pre ⟨y,m⟩ post ρ σ hy ⟨⟨f,rfl⟩,kn,rfl,hkn,hlook⟩;obtain⟨hm,e,he,hye⟩:=n7 hy;simp only at hm hye;subst hm;subst hye;have hlt:=az he;rw[List.length_append,List.length_singleton,d7 he];have htl:(h.take pre.length).length=pre.length:=by rw[List.length_take];exact Nat.min_eq_left (Nat.le_of_lt ‹_›)
  refine Wp.bind rfl ?_;have hmem:e∈h:=List.mem_of_getElem? he;generalize hg:h.take pre.length=g at *;have hget:((look ((aC e:Nat):Int) kn).map (dr [.dcI kn,.set ((splitOf g cut).map fun(k:Nat)=>(k:Int))])).getD (.d (.int 0))=.d (.int (bD g (aC e):Nat)):=by
   rw[hlook];by_cases q:bD g (aC e)=0
   ·rw[if_pos q,q];rfl
   ·rw[if_neg q];rfl
  refine Wp.tD (v:=.d (.int (bD g (aC e)+1:Nat))) (aK (zQ (aL rfl rfl rfl rfl rfl) rfl rfl rfl hget) rfl rfl) (aL rfl rfl rfl rfl rfl) rfl (vn rfl (by simp only[LIM];exact Nat.lt_of_le_of_lt ‹_› (Nat.lt_of_lt_of_le ‹_› (Nat.le_trans ‹_› (by decide))))) ?_;have hput:∀p:Nat,look (p:Int) (put ((aC e:Nat):Int) (.d (.int (bD g (aC e)+1:Nat))) kn)=if bD (g++[e]) p=0 then none else some (.d (.int (bD (g++[e]) p:Nat))):=by
   intro p;rw[fh,bB];by_cases q:p=aC e
   ·subst q;simp
   ·have e1:¬((p:Nat):Int)=(aC e:Nat):=λ r=>q (Int.ofNat_inj.1 r);have e2:¬aC e=p:=λ r=>q r.symm;rw[if_neg e1,if_neg e2,Nat.add_zero,hlook]
  have hput1:look ((aC e:Nat):Int) (put ((aC e:Nat):Int) (.d (.int (bD g (aC e)+1:Nat))) kn)=some (.d (.int (bD g (aC e)+1:Nat))):=by rw[fh,if_pos rfl]
  have hpl:(put ((aC e:Nat):Int) (.d (.int (bD g (aC e)+1:Nat))) kn).length<=pre.length+1:=Nat.le_trans (fO _ _ _) (by exact Nat.lt_succ_of_le ‹_›);show Wp (xs _ _ _ [.dcI (put ((aC e:Nat):Int) (.d (.int (bD g (aC e)+1:Nat))) kn),.set ((splitOf g cut).map fun(k:Nat)=>(k:Int))]) _;generalize put ((aC e:Nat):Int) (.d (.int (bD g (aC e)+1:Nat))) kn=kn' at hput hput1 hpl ⊢;refine Wp.ifc (c:=decide (isIn cut g e)) (af (ao (aj rfl (aL rfl rfl rfl rfl rfl) rfl (vi rfl hput1)) (aj rfl rfl rfl (vI (hc e hmem))) ?_)) ?_ ?_
  ·show some (decide (((bD g (aC e)+1:Nat):Int)<=((cut.getD (aC e) 0:Nat):Int)))=_;congr 1;rw[Bool.eq_iff_iff,decide_eq_true_eq,decide_eq_true_eq,isIn];exact Int.ofNat_le
  ·intro q;have hq:isIn cut g e:=of_decide_eq_true q;have hsl:=split_le g cut;refine Wp.expr (vE (k:=(pre.length:Nat)) (aL rfl rfl rfl rfl rfl) rfl rfl ?_ (by rw[List.length_map];lia)) (Wp.fin (Wp.nil ⟨by repeat first | exact⟨f,rfl⟩ | refine Ov.upd ?_ rfl,kn',?_,hpl,hput⟩))
   ·rw[cz];apply decide_eq_false;intro r;have:=e9 r;exact absurd ‹_› (Nat.ne_of_gt ‹_›)
   ·rw[jk,if_pos hq,List.map_append,htl];rfl
  ·intro q;have hq:¬isIn cut g e:=of_decide_eq_false q;refine Wp.fin (Wp.nil ⟨by repeat first | exact⟨f,rfl⟩ | refine Ov.upd ?_ rfl,kn',?_,hpl,hput⟩);rw[jk,if_neg hq,List.append_nil]
 ·rintro ρ σ ⟨⟨f,rfl⟩,kn,rfl,_,_⟩;refine Wp.ret (aL rfl rfl rfl rfl rfl) ⟨_,rfl,?_⟩;have:h.take (a7 h).zipIdx.length=h:=by rw[List.length_zipIdx,iz,List.take_length]
  rw[this];rfl
end
end split_run_e
theorem ib(n:Nat)(h:List HEv)(cut:List Nat)(hv:Valid h)(hlen:h.length<=1000)(hc:∀e∈h,aC e<cut.length):(prg.run (n+3)).P "_split" [.d (.list (h.map eH)),.d (bo cut)]=some (some (AQ (splitOf h cut))):=aw (Q:=λ x:(Nat)×(List HEv)×(List Nat)=>split_run_e.P x.1 x.2.1 x.2.2) split_run_e.core (n,h,cut) hv hlen hc
end L3
end Mine.Internal.Q
end
section
namespace Mine.Internal.Q
open PySem Classical Mine.Internal.L3
theorem xk{step:V->ah->aa->Res}{ρ:ah}{ks:List Int}(b:Int->Bool)(hb:∀k∈ks,Wp (step (.d (.int k)) ρ []) λ o _ τ=>τ=[]/\o=if b k then .nx else .rt (.d (.bool false))):sZ step ρ ks=some (if ks.all b then none else some false):=by
 induction ks with
 |nil=>rfl
 |cons k r ih=>
  refine bC λ k9=>?_;obtain⟨o,ρ1,τ,e,rfl,ho⟩:=hb k n6;refine k9 ?_;have:=ih λ k' hk'=>hb k' (n3 hk');cases hk:b k with
  |true=>
   rw[hk] at ho;subst ho;rw[List.all_cons,hk,Bool.true_and];exact bi e (bi this rfl)
  |false=>
   rw[hk] at ho;subst ho;rw[List.all_cons,hk,Bool.false_and];refine bi e (bi this ?_);cases r.all b<;>rfl
theorem Wp.C3{Φ:Or}{t it:Expr}{b:List Stmt}{p:Pos}{r:List Stmt}{ρ:ah}{ks:List Int}{K:Out->ah->aa->Prop}(h:src Φ it ρ []=some (.fset ks,[]))(hs:jU b=true)(c:Int->Bool)
  (hb:∀k∈ks,Wp ((aQ t (.d (.int k)) (forget (ak t++aF b) ρ)).bind λ ρ=>xs Φ b ρ []) λ o _ τ=>τ=[]/\o=if c k then .nx else .rt (.d (.bool false)))
  (h1:ks.all c=true->Wp (xs Φ r (forget (ak t++aF b) ρ) []) K) (h2:ks.all c=false->K (.rt (.d (.bool false))) (forget (ak t++aF b) ρ) []):Wp (xs Φ (.For t it b [] p::r) ρ []) K:=by
 apply Wp.cons;have e:x1 Φ (.For t it b [] p) ρ []=(sZ (λ x ρ σ=>(aQ t x ρ).bind λ ρ=>xs Φ b ρ σ) (forget (ak t++aF b) ρ) ks).bind λ q=>match q with
   |none=>some (.nx,forget (ak t++aF b) ρ,[])
   |some v=>some (.rt (.d (.bool v)),forget (ak t++aF b) ρ,[]):=by
  refine bi h ?_;show(match([]:aa),jU b with | [],true=>_ | _,_=>none)=_;rw[hs];rfl
 rw[e,xk c hb];cases hc:ks.all c with
 |true=>exact⟨.nx,_,_,rfl,h1 hc⟩
 |false=>exact⟨_,_,_,rfl,h2 hc⟩
theorem y4{σ:aa}{l:List Nat}{j:Nat}:i3 σ .NotIn (.d (.int j)) (L3.AQ l)=some (!decide (j∈l)):=by
 show(some ((l.map fun(k:Nat)=>(k:Int)).contains (j:Int))).map (!·)=_;rw[cz];rfl
theorem zq{σ:aa}{l:List Nat}{j:Nat}:i3 σ .In (.d (.int j)) (L3.AQ l)=some (decide (j∈l)):=by
 show some ((l.map fun(k:Nat)=>(k:Int)).contains (j:Int))=_;rw[cz]
namespace L3
noncomputable def dC(h:List HEv)(k:Nat):List Nat:=match(a7 h)[k]? with
 |some x=>x.2
 |none=>[]
noncomputable def Cons(h:List HEv)(cut:List Nat):Prop:=∀k∈splitOf h cut,∀j∈dC h k,j∈splitOf h cut
theorem w7{h:List HEv}{k:Nat}(hk:k<h.length)(σ:aa):∃x,(a7 h)[k]?=some x/\gF σ (.d (.list ((a7 h).map iJ))) (.d (.int (k:Nat)))=some (.d (iJ x))/\x.2=dC h k:=by
 have hk':k<(a7 h).length:=by rw[iz];exact hk
 refine⟨(a7 h)[k],List.getElem?_eq_getElem hk',?_,?_⟩
 ·show(fi (.list ((a7 h).map iJ)) (k:Int)).map V.d=_;rw[item_list (by simpa using hk')];simp
 ·simp[dC,hk']
noncomputable def zL:Fn:=(prg.fn "consistent").getD ⟨[],[]⟩
theorem z7:prg.fn "consistent"=some zL:=rfl
namespace cons_run_e
noncomputable section
def P(n:Nat)(sz:Int)(h:List HEv)(cut:List Nat):Prop:=∀(hv:Valid h) (hlen:h.length<=1000) (hc:∀e∈h,aC e<cut.length),(prg.run (n+4)).P "consistent" [.d (.int sz),.d (.list (h.map eH)),.d (bo cut)]=some (some (.d (.bool (decide (Cons h cut)))))
def x:(Nat)×(Int)×(List HEv)×(List Nat):=@Classical.epsilon _ ⟨(default,default,default,default)⟩ λ x=>¬P x.1 x.2.1 x.2.2.1 x.2.2.2
def n:Nat:=x.1
def sz:Int:=x.2.1
def h:List HEv:=x.2.2.1
def cut:List Nat:=x.2.2.2
theorem core:P n sz h cut:=λ hv hlen hc=>by
 refine jf z7 rfl ?_;refine Wp.asg (aq rfl (aT rfl rfl (ib n h cut hv hlen hc))) ?_;refine Wp.asg (aq rfl (aT rfl rfl (iy (n+1) h hv hlen))) ?_;refine Wp.C3 (ks:=(splitOf h cut).map fun(k:Nat)=>(k:Int)) rfl rfl (λ k=>decide (∀j∈dC h k.toNat,j∈splitOf h cut)) ?_ ?_ ?_
 ·intro k' hk';refine bC λ k9=>?_;obtain⟨k,hk,rfl⟩:=List.mem_map.1 hk';obtain⟨x,hx1,hx2,hx3⟩:=w7 (e9 hk) [];refine k9 ?_;rw[Int.toNat_natCast];refine Wp.bind rfl ?_;refine Wp.for (ys:=(x.2.map fun(n:Nat)=>PyData.int n).map V.d) (σ1:=[]) ?_ ?_
  ·show srcOf (ev _ _ _ _)=_;rw[aj rfl (aj rfl rfl rfl hx2) rfl (r:=.d (bo x.2)) rfl];rfl
  refine Wp.ox (fun(n:Nat)=>PyData.int n) (λ pre ρ σ=>Ov ["j"] _ ρ/\σ=[]/\∀j∈pre,j∈splitOf h cut) ⟨Ov.refl,rfl,by simp⟩ ?_ ?_
  ·rintro pre j post ρ σ hy ⟨⟨f,rfl⟩,rfl,hp⟩;refine Wp.bind rfl ?_;refine Wp.ifc (c:=!decide (j∈splitOf h cut)) (af (ao rfl rfl y4)) ?_ ?_
   ·intro q;have hj:j∉splitOf h cut:=by simpa using q
    refine Wp.ret rfl ⟨rfl,?_⟩;rw[if_neg];simp only[decide_eq_true_eq];intro h';exact hj (h' j (by rw[<-hx3,hy];simp))
   ·intro q;have hj:j∈splitOf h cut:=by simpa using q
    refine Wp.fin (Wp.nil ⟨Ov.upd ⟨f,rfl⟩ rfl,rfl,?_⟩);intro j' hj';rcases List.mem_append.1 hj' with r | r
    ·exact hp j' r
    ·obtain rfl:j'=j:=by simpa using r
     exact hj
  ·rintro ρ σ ⟨⟨f,rfl⟩,rfl,hp⟩;refine Wp.nil ⟨rfl,?_⟩;rw[if_pos];simp only[decide_eq_true_eq];rw[<-hx3];exact hp
 ·intro q;refine Wp.ret rfl ⟨_,rfl,?_⟩;have:Cons h cut:=by
   intro k hk j hj;have:=List.all_eq_true.1 q (k:Int) (List.mem_map.2 ⟨k,hk,rfl⟩);simp only[decide_eq_true_eq,Int.toNat_natCast] at this;exact this j hj
  simp[this];rfl
 ·intro q;refine⟨_,rfl,?_⟩;have:¬Cons h cut:=by
   intro hC;rw[List.all_eq_false] at q;obtain⟨k',hk',hn⟩:=q;obtain⟨k,hk,rfl⟩:=List.mem_map.1 hk';apply hn;simp only[decide_eq_true_eq,Int.toNat_natCast];exact hC k hk
  simp[this];rfl
end
end cons_run_e
theorem ew(n:Nat)(sz:Int)(h:List HEv)(cut:List Nat)(hv:Valid h)(hlen:h.length<=1000)(hc:∀e∈h,aC e<cut.length):(prg.run (n+4)).P "consistent" [.d (.int sz),.d (.list (h.map eH)),.d (bo cut)]=some (some (.d (.bool (decide (Cons h cut))))):=aw (Q:=λ x:(Nat)×(Int)×(List HEv)×(List Nat)=>cons_run_e.P x.1 x.2.1 x.2.2.1 x.2.2.2) cons_run_e.core (n,sz,h,cut) hv hlen hc
end L3
end Mine.Internal.Q
end
section
namespace Mine.Internal.Q
open PySem Classical Mine.Internal.L3
theorem Di{n:Nat}{f:Str}{g:Fn}{vs:List V}{ρ:ah}(h:L3.prg.fn f=some g)(hb:binds g.params vs=some ρ)(hx:Wp (xs (L3.prg.run n) g.body ρ []) λ o _ _=>o=.ex):(L3.prg.run (n+1)).P f vs=some none:=by
 refine bC λ k9=>?_;obtain⟨o,ρ',σ,hx,rfl⟩:=hx;refine k9 ?_;exact bi h (bi hb (bi hx rfl))
namespace L3
noncomputable def jb(h:List HEv)(cut:List Nat)(c:Ch):List Int:=h.zipIdx.filterMap λ x=>if x.1.1=c/\isIn cut (h.take x.2) x.1 then x.1.2 else none
noncomputable def jx(h:List HEv)(cut:List Nat)(c:Ch):Nat:=(h.zipIdx.filter λ x=>decide (x.1=(c,none)/\isIn cut (h.take x.2) x.1)).length
theorem bX(g:List HEv)(e:HEv)(cut:List Nat)(c:Ch):jb (g++[e]) cut c=jb g cut c++(if e.1=c/\isIn cut g e then e.2.toList else []):=by
 unfold jb;rw[d6,List.filterMap_append];congr 1
 ·apply gX;intro x hx;have:x.2<g.length:=nq hx;rw[List.take_append_of_le_length (by exact Nat.le_of_lt ‹_›)]
 ·by_cases q:e.1=c/\isIn cut g e
  ·rw[if_pos q];have q':e.1=c/\isIn cut ((g++[e]).take g.length) e:=by simpa using q
   simp only[List.filterMap_cons,List.filterMap_nil,if_pos q'];cases e.2<;>rfl
  ·rw[if_neg q];have q':¬(e.1=c/\isIn cut ((g++[e]).take g.length) e):=by simpa using q
   simp only[List.filterMap_cons,List.filterMap_nil,if_neg q']
theorem ko{α:Type}{f g:α->Bool}{l:List α}(h:∀x∈l,f x=g x):l.filter f=l.filter g:=by
 induction l with
 |nil=>rfl
 |cons x r ih=>rw[List.filter_cons,List.filter_cons,h x (by exact List.mem_cons_self),ih λ y hy=>h y (by exact List.mem_cons_of_mem _ ‹_›)]
theorem bY(g:List HEv)(e:HEv)(cut:List Nat)(c:Ch):jx (g++[e]) cut c=jx g cut c+(if e=(c,none)/\isIn cut g e then 1 else 0):=by
 unfold jx;rw[d6,List.filter_append,List.length_append];congr 1
 ·congr 1;apply ko;intro x hx;have:x.2<g.length:=nq hx;rw[List.take_append_of_le_length (by exact Nat.le_of_lt ‹_›)]
 ·by_cases q:e=(c,none)/\isIn cut g e
  ·have q':e=(c,none)/\isIn cut ((g++[e]).take g.length) e:=by simpa using q
   simp only[List.filter_cons,List.filter_nil,decide_eq_true q',if_pos q,if_true];rfl
  ·have q':¬(e=(c,none)/\isIn cut ((g++[e]).take g.length) e):=by simpa using q
   simp only[List.filter_cons,List.filter_nil,decide_eq_false q',if_neg q];rfl
noncomputable def fK(g:List HEv)(cut:List Nat)(c:Ch):List Int:=(jb g cut c).drop (jx g cut c)
theorem bx(h g post:List HEv)(e:HEv)(cut:List Nat)(hs:h=g++e::post):g.length∈splitOf h cut↔isIn cut g e:=by
 subst hs;unfold splitOf;rw[List.mem_filterMap];constructor
 ·rintro⟨x,h1,h2⟩;have hx:=List.mem_zipIdx h1;by_cases q:isIn cut ((g++e::post).take x.2) x.1
  ·rw[if_pos q] at h2;have e2:=Option.some.inj h2;have e1:x.1=e:=by
    have:=hx.2.2;simp[e2] at this;exact this
   rw[e2,e1] at q;simpa using q
  ·rw[if_neg q] at h2;cases h2
 ·intro q;refine⟨(e,g.length),?_,?_⟩
  ·rw[List.zipIdx_append];simp
  ·rw[if_pos (by simpa using q)]
noncomputable def C4:Fn:=(prg.fn "under_way").getD ⟨[],[]⟩
theorem B9:prg.fn "under_way"=some C4:=rfl
theorem qr(n sz:Nat)(ps:List Ch)(h:List HEv)(cut:List Nat)(hv:Valid h)(hlen:h.length<=1000)(hc:∀e∈h,aC e<cut.length)(hn:¬Cons h cut) :
  (prg.run (n+5)).P "under_way" [.d (iv sz ps),.d (.list (h.map eH)),.d (bo cut)]=some none:=by
 refine Di B9 rfl ?_;refine Wp.ifT (cO (b:=false) (σ1:=[]) ?_) ⟨.ex,_,_,rfl,rfl⟩;rw[aq rfl (aT rfl rfl (ew n sz h cut hv hlen hc))];simp only[hn,decide_false];rfl
theorem snoc_ind{α:Type}{P:List α->Prop}(h0:P [])(h1:∀g e,P g->P (g++[e]))(l:List α):P l:=by
 rw[<-List.reverse_reverse l]
 induction l.reverse with
 |nil=>exact h0
 |cons x r ih=>rw[List.reverse_cons];exact h1 _ _ ih
noncomputable def uN(l:List Int):Nd:=.lst (l.map λ i=>V.d (.int i))
noncomputable def uS(kq:List (List Int×V))(ps:List Ch)(cut:List Nat)(g:List HEv):aa:=.dcT kq::ps.map λ c=>uN (fK g cut c)
noncomputable def uK(ps:List Ch)(kq:List (List Int×V)):Prop:=∀(j:Nat) c,ps[j]?=some c->look (kc c) kq=some (.o (j+1))
section
variable{kq:List (List Int×V)}{ps:List Ch}{cut:List Nat}{g:List HEv}{c:Ch}{j:Nat}{e:HEv}
theorem tm(hj:ps[j]?=some c):(uS kq ps cut g)[j+1]?=some (uN (fK g cut c)):=(List.getElem?_map ..).trans (congrArg (Option.map _) hj)
theorem ve(hnd:ps.Nodup)(hj:ps[j]?=some c)(hne:∀d,d≠c->fK (g++[e]) cut d=fK g cut d):(uS kq ps cut g).set (j+1) (uN (fK (g++[e]) cut c))=uS kq ps cut (g++[e]):=by
 refine congrArg (Nd.dcT kq::·) (List.ext_getElem? λ i=>?_);rw[List.getElem?_map];by_cases q:j=i
 ·rw[<-q,List.getElem?_set_self (Nat.lt_of_lt_of_eq (az hj) (List.length_map _).symm),hj];rfl
 ·rw[List.getElem?_set_ne q,List.getElem?_map];cases hd:ps[i]? with
  |none=>rfl
  |some d=>exact congrArg (λ l=>some (uN l)) (hne d λ r=>q ((List.getElem?_inj (az hj) hnd).1 (hj.trans (r▸hd.symm)))).symm
theorem vS(h:uK ps kq)(hc:c∉ps):uK (ps++[c]) (put (kc c) (.o (ps.length+1)) kq):=λ j d hj=>by
 rw[fh];by_cases e:j<ps.length
 ·rw[List.getElem?_append_left e] at hj;rw[if_neg fun(q:kc d=kc c)=>hc (vw.1 q▸List.mem_of_getElem? hj)];exact h j d hj
 ·rw[List.getElem?_append_right (Nat.not_lt.1 e)] at hj;have e1:=az hj;have e2:j=ps.length:=Nat.le_antisymm (Nat.sub_eq_zero_iff_le.1 (Nat.lt_one_iff.1 e1)) (Nat.not_lt.1 e);rw[e2,Nat.sub_self] at hj;rw[if_pos (congrArg kc (Option.some.inj hj).symm),e2]
theorem yu(h:uK ps kq):ps.filterMap (λ c=>look (kc c) kq)=(List.range ps.length).map λ j=>V.o (j+1):=by
 induction ps using snoc_ind with
 |h0=>rfl
 |h1 p c ih=>
  rw[List.filterMap_append,ih λ j d hj=>h j d ((List.getElem?_append_left (az hj)).trans hj),List.length_append,show [c].length=1 from rfl,List.range_succ,List.map_append,show [c].filterMap (λ c=>look (kc c) kq)=[V.o (p.length+1)] from List.filterMap_cons_some (h p.length c List.getElem?_concat_length)];rfl
theorem vf(h:uK ps kq)(hc:c∈ps):∃j:Nat,ps[j]?=some c/\look (kc c) kq=some (.o (j+1)):=(List.mem_iff_getElem?.1 hc).elim λ j hj=>⟨j,hj,h j c hj⟩
theorem yq{x:Option Int}{d:Ch}(hd:d≠c):fK (g++[(c,x)]) cut d=fK g cut d:=by
 unfold fK;rw[bX,bY,if_neg fun(r:(c,x)=(d,none)/\_)=>hd (Prod.mk.inj r.1).1.symm,if_neg fun(r:c=d/\_)=>hd r.1.symm,List.append_nil];rfl
theorem yp(h:¬isIn cut g e)(d:Ch):fK (g++[e]) cut d=fK g cut d:=by
 unfold fK;rw[bX,bY,if_neg λ r=>h r.2,if_neg λ r=>h r.2,List.append_nil];rfl
theorem vP{v:Int}(hq:isIn cut g (c,some v))(hw:jx g cut c<=(jb g cut c).length):fK (g++[(c,some v)]) cut c=fK g cut c++[v]:=by
 unfold fK;rw[bX,bY,if_neg fun(r:(c,some v)=(c,none)/\_)=>(by cases(Prod.mk.inj r.1).2),if_pos (show(c,some v).1=c/\_ from⟨rfl,hq⟩)];exact List.drop_append_of_le_length hw
theorem vQ(hq:isIn cut g (c,none))(hw:jx (g++[(c,none)]) cut c<=(jb (g++[(c,none)]) cut c).length):∃v,fK g cut c=v::fK (g++[(c,none)]) cut c:=by
 have e:jb (g++[(c,none)]) cut c=jb g cut c:=by rw[bX,if_pos ⟨rfl,hq⟩];exact List.append_nil _
 have e2:jx (g++[(c,none)]) cut c=jx g cut c+1:=by rw[bY,if_pos ⟨rfl,hq⟩]
 unfold fK;rw[e,e2] at hw ⊢;exact⟨_,List.drop_eq_getElem_cons hw⟩
theorem AW:(fK g cut c).length<=g.length:=Nat.le_trans (List.drop_sublist _ _).length_le (Nat.le_trans (List.length_filterMap_le _ _) (Nat.le_of_eq List.length_zipIdx))
theorem yt{h:List HEv}:Den 8 (uS kq ps cut h++[.lst ((List.range ps.length).map λ j=>.o (j+1))]) (.o (ps.length+1)) (.list ((ps.map (fK h cut)).map bb)):=by
 have hN:(uS kq ps cut h++[.lst ((List.range ps.length).map λ j=>.o (j+1))])[ps.length+1]?=some (.lst ((List.range ps.length).map λ j=>.o (j+1))):=
  (List.getElem?_append_right (Nat.le_of_eq (congrArg (· + 1) (List.length_map _)))).trans (by rw[uS,List.length_cons,List.length_map,Nat.sub_self];rfl)
 refine iL hN (by rw[List.length_map,List.length_map,List.length_map,List.length_range]) λ i v e h1 h2=>?_;rw[List.map_map,List.getElem?_map] at h2;obtain⟨d,hd,rfl⟩:=Option.map_eq_some_iff.1 h2;rw[List.getElem?_map,List.getElem?_range (az hd)] at h1;cases h1;exact cK (ds:=(fK h cut d).map .int) ((List.getElem?_append_left (az (tm hd))).trans ((tm hd).trans (congrArg (λ l=>some (Nd.lst l)) (List.map_map ..).symm)))
end
namespace uw_run_e
noncomputable section
def P(n:Nat)(sz:Nat)(ps:List Ch)(h:List HEv)(cut:List Nat):Prop:=∀(hv:Valid h) (hlen:h.length<=1000) (hps:ps.length<=1000) (hnd:ps.Nodup) (hc:∀e∈h,aC e<cut.length) (hin:∀e∈h,e.1∈ps) (hn:Cons h cut) (hw:∀g post c,h=g++post->jx g cut c<=(jb g cut c).length),(prg.run (n+5)).P "under_way" [.d (iv sz ps),.d (.list (h.map eH)),.d (bo cut)]=some (some (.d (.list ((ps.map (fK h cut)).map bb))))
def x:(Nat)×(Nat)×(List Ch)×(List HEv)×(List Nat):=@Classical.epsilon _ ⟨(default,default,default,default,default)⟩ λ x=>¬P x.1 x.2.1 x.2.2.1 x.2.2.2.1 x.2.2.2.2
def n:Nat:=x.1
def sz:Nat:=x.2.1
def ps:List Ch:=x.2.2.1
def h:List HEv:=x.2.2.2.1
def cut:List Nat:=x.2.2.2.2
theorem core:P n sz ps h cut:=λ hv hlen hps hnd hc hin hn hw=>by
 refine jf B9 rfl (Wp.ifF (cO (b:=true) (σ1:=[]) ?_) (Wp.fin (Wp.asg (aq rfl (aT rfl rfl (ib (n+1) h cut hv hlen hc))) (Wp.asg (v:=.o 0) (σ1:=[.dcT []]) rfl (Wp.for (ys:=(ps.map ax).map V.d) rfl ?_)))))
 ·rw[aq rfl (aT rfl rfl (ew n sz h cut hv hlen hc)),decide_eq_true hn];rfl
 refine Wp.ox ax (λ pre ρ σ=>Ov ["c"] _ ρ/\∃kq,σ=.dcT kq::pre.map (λ _=>uN [])/\kq.length<=pre.length/\uK pre kq) ⟨Ov.refl,[],rfl,Nat.le_refl _,λ j c hj=>by cases hj⟩ ?_ ?_
 ·rintro pre c post ρ σ hy ⟨⟨f,rfl⟩,kq,rfl,hk,hl⟩;have hcp:c∉pre:=λ q=>(List.nodup_append.1 (hy▸hnd)).2.2 c q c List.mem_cons_self rfl;refine Wp.bind rfl (Wp.tD (v:=.o (pre.length+1)) (σ1:=(.dcT kq::pre.map (λ _=>uN []))++[.lst []]) ?_ (aL rfl rfl rfl rfl rfl) rfl (vm (k:=kc c) rfl ck (Nat.lt_of_le_of_lt hk (il hy hps (by decide)))) (Wp.nil ⟨Ov.upd ⟨f,rfl⟩ rfl,put (kc c) (.o (pre.length+1)) kq,?_,?_,vS hl hcp⟩))
  ·exact congrArg (λ k=>some (V.o (k+1),_)) (List.length_map _)
  ·rw[List.map_append];rfl
  ·rw[List.length_append];exact Nat.le_trans (fO _ _ _) (Nat.succ_le_succ hk)
 rintro ρ σ ⟨⟨f,rfl⟩,kq,rfl,hk,hl⟩;refine Wp.for (cv eH (ys:=h) rfl) (Wp.forL (fun(x:HEv×Nat)=>V.d (.tuple [.int x.2,eH x.1])) (λ pre ρ σ=>Ov ["k","e"] _ ρ/\σ=uS kq ps cut (pre.map Prod.fst)) ⟨Ov.refl,rfl⟩ ?_ ?_)
 ·rintro pre ⟨⟨c,x⟩,m⟩ post ρ σ hy ⟨⟨f',rfl⟩,rfl⟩;obtain⟨hm,hsp⟩:=mw hy;obtain⟨j,hj,hlk⟩:=vf hl (hin (c,x) (hsp▸List.mem_append_right _ List.mem_cons_self));have hms:=bx h _ _ _ cut hsp;have hw1:=hw (pre.map Prod.fst) ((c,x)::post.map Prod.fst) c hsp;have hw2:=hw (pre.map Prod.fst++[(c,x)]) (post.map Prod.fst) c (hsp.trans (List.append_cons ..));have hle:=il hsp hlen (by decide);rw[show(pre++[((c,x),m)]).map Prod.fst=pre.map Prod.fst++[(c,x)] from List.map_append];generalize pre.map Prod.fst=g at *;cases(show m=g.length from hm);have hnode:=tm (kq:=kq) (cut:=cut) (g:=g) hj;refine Wp.bind rfl (Wp.ifc (c:=decide (g.length∈splitOf h cut)) (af (ao rfl rfl zq)) (λ q=>?_) λ q=>?_)
  ·cases x with
   |some v=>
    refine Wp.ifT rfl (Wp.expr (bR (l:=j+1) (aj rfl (aL rfl rfl rfl rfl rfl) rfl (k7 (k:=kc c) rfl ck hlk hnode)) hnode (v:=.d (.int v)) rfl hnode (Nat.lt_of_le_of_lt (Nat.le_trans (Nat.le_of_eq (List.length_map _)) AW) hle)) (Wp.fin (Wp.fin (Wp.nil ⟨Ov.upd (Ov.upd ⟨f',rfl⟩ rfl) rfl,?_⟩))));rw[<-ve hnd hj λ d hd=>yq hd,vP (hms.1 (of_decide_eq_true q)) hw1,uN,List.map_append];rfl
   |none=>
    obtain⟨v,hu⟩:=vQ (hms.1 (of_decide_eq_true q)) hw2;rw[hu] at hnode;exact Wp.ifF rfl (Wp.expr (se (l:=j+1) (aj rfl (aL rfl rfl rfl rfl rfl) rfl (k7 (k:=kc c) rfl ck hlk hnode)) hnode rfl) (Wp.fin (Wp.fin (Wp.nil ⟨Ov.upd (Ov.upd ⟨f',rfl⟩ rfl) rfl,ve hnd hj λ d hd=>yq hd⟩))))
  ·refine Wp.fin (Wp.nil ⟨Ov.upd (Ov.upd ⟨f',rfl⟩ rfl) rfl,?_⟩);exact congrArg (λ u=>Nd.dcT kq::ps.map λ c=>uN (u c)) (funext λ d=>(yp (λ r=>of_decide_eq_false q (hms.2 r)) d).symm)
 ·rintro ρ σ ⟨⟨f',rfl⟩,rfl⟩;rw[List.zipIdx_map_fst];refine Wp.ret (v:=.o (ps.length+1)) (σ1:=uS kq ps cut h++[.lst ((List.range ps.length).map λ j=>.o (j+1))]) (dY (xs:=ps.map λ c=>V.d (ax c)) (σ1:=uS kq ps cut h) ?_ (l5 (λ c=>V.d (ax c)) (λ c=>look (kc c) kq) λ c hc'=>?_) ?_) ⟨_,rfl,kL (vs:=(List.range ps.length).map λ j=>.o (j+1)) ?_ yt⟩
  ·exact congrArg (λ l=>some (l,uS kq ps cut h)) (List.map_map ..)
  ·refine(vf hl hc').elim λ j q=>⟨_,true,rfl,rfl,.o (j+1),q.2,aj rfl (aL rfl rfl rfl rfl rfl) rfl (k7 (k:=kc c) rfl ck q.2 (tm q.1))⟩
  ·rw[yu hl];exact congrArg (λ k=>some (V.o (k+1),_)) (List.length_map _)
  ·exact(List.getElem?_append_right (Nat.le_of_eq (congrArg (· + 1) (List.length_map _)))).trans (by rw[uS,List.length_cons,List.length_map,Nat.sub_self];rfl)
end
end uw_run_e
theorem qq(n sz:Nat)(ps:List Ch)(h:List HEv)(cut:List Nat)(hv:Valid h)(hlen:h.length<=1000)(hps:ps.length<=1000)(hnd:ps.Nodup)(hc:∀e∈h,aC e<cut.length)(hin:∀e∈h,e.1∈ps)(hn:Cons h cut)
  (hw:∀g post c,h=g++post->jx g cut c<=(jb g cut c).length):(prg.run (n+5)).P "under_way" [.d (iv sz ps),.d (.list (h.map eH)),.d (bo cut)]=some (some (.d (.list ((ps.map (fK h cut)).map bb)))):=aw (Q:=λ x:(Nat)×(Nat)×(List Ch)×(List HEv)×(List Nat)=>uw_run_e.P x.1 x.2.1 x.2.2.1 x.2.2.2.1 x.2.2.2.2) uw_run_e.core (n,sz,ps,h,cut) hv hlen hps hnd hc hin hn hw
end L3
end Mine.Internal.Q
end
section
namespace Mine.Internal.Q
open PySem Classical Mine.Internal.L3
theorem wU{σ:aa}{l:Nat}{xs:List Nat}{j:Nat}(h:σ[l]?=some (.set (xs.map fun(k:Nat)=>(k:Int)))):i3 σ .NotIn (.d (.int j)) (.o l)=some (!decide (j∈xs)):=by
 show(match σ[l]? with | some (.dcI kvs)=>_ | some (.dcT kvs)=>_ | some (.set xs)=>some (xs.contains (j:Int)) | _=>none).map (!·)=_;rw[h];show(some ((xs.map fun(k:Nat)=>(k:Int)).contains (j:Int))).map (!·)=_;rw[cz];rfl
namespace L3
noncomputable def a6(h:List HEv)(cut:List Nat):Nat->List Nat
 |0=>[]
 |m+1=>match h[m]? with
  |none=>a6 h cut m
  |some e=>if isIn cut (h.take m) e/\∀j∈(aW (h.take m) e).2,j∈a6 h cut m then a6 h cut m++[m] else a6 h cut m
noncomputable def dc(h:List HEv)(cut:List Nat)(m p:Nat):Nat:=((a6 h cut m).filter λ k=>decide ((h[k]?).map aC=some p)).length
theorem iB{h:List HEv}{cut:List Nat}{m k:Nat}(hk:k∈a6 h cut m):k<m:=by
 induction m with
 |zero=>simp[a6] at hk
 |succ m ih=>
  unfold a6 at hk;cases he:h[m]? with
  |none=>rw[he] at hk;have:=ih hk;exact Nat.le_succ_of_le ‹_›
  |some e=>
   rw[he] at hk;simp only at hk;by_cases q:isIn cut (h.take m) e/\∀j∈(aW (h.take m) e).2,j∈a6 h cut m
   ·rw[if_pos q] at hk;rcases List.mem_append.1 hk with r | r
    ·have:=ih r;exact Nat.le_succ_of_le ‹_›
    ·have:k=m:=by simpa using r
     lia
   ·rw[if_neg q] at hk;have:=ih hk;exact Nat.le_succ_of_le ‹_›
theorem uk(h:List HEv)(cut:List Nat)(m:Nat):(a6 h cut m).length<=m:=by
 induction m with
 |zero=>simp[a6]
 |succ m ih=>
  unfold a6;cases he:h[m]? with
  |none=>simp only;exact Nat.le_succ_of_le ‹_›
  |some e=>
   simp only;by_cases q:isIn cut (h.take m) e/\∀j∈(aW (h.take m) e).2,j∈a6 h cut m
   ·rw[if_pos q];simp;assumption
   ·rw[if_neg q];exact Nat.le_succ_of_le ‹_›
noncomputable def xv:Fn:=(prg.fn "greatest").getD ⟨[],[]⟩
theorem xP:prg.fn "greatest"=some xv:=rfl
namespace great_run_e
noncomputable section
def P(n:Nat)(sz:Nat)(h:List HEv)(cut:List Nat):Prop:=∀(hv:Valid h) (hlen:h.length<=1000) (hsz:sz<=1000) (hc:∀e∈h,aC e<cut.length) (ho:∀e∈h,aC e<sz),(prg.run (n+4)).P "greatest" [.d (.int sz),.d (.list (h.map eH)),.d (bo cut)]=some (some (.d (bo ((List.range sz).map (dc h cut h.length)))))
def x:(Nat)×(Nat)×(List HEv)×(List Nat):=@Classical.epsilon _ ⟨(default,default,default,default)⟩ λ x=>¬P x.1 x.2.1 x.2.2.1 x.2.2.2
def n:Nat:=x.1
def sz:Nat:=x.2.1
def h:List HEv:=x.2.2.1
def cut:List Nat:=x.2.2.2
theorem core:P n sz h cut:=λ hv hlen hsz hc ho=>by
 refine jf xP rfl ?_;refine Wp.asg (aq rfl (aT rfl rfl (ib n h cut hv hlen hc))) ?_;refine Wp.asg (aq rfl (aT rfl rfl (iy (n+1) h hv hlen))) ?_;refine Wp.asg (v:=.o 0) (σ1:=[.lst ((List.range sz).map λ p=>V.d (.int (dc h cut 0 p:Nat)))]) (aK rfl rfl ((mO (by exact Nat.le_trans ‹_› (by decide))).trans ?_)) ?_
 ·simp[dc,a6,List.map_const']
 refine Wp.asg (v:=.o 1) (σ1:=[.lst ((List.range sz).map λ p=>V.d (.int (dc h cut 0 p:Nat))),.set []]) rfl ?_;refine Wp.for (cv iJ (ys:=a7 h) rfl) ?_;refine Wp.forL (fun(x:(Nat×List Nat)×Nat)=>V.d (.tuple [.int x.2,iJ x.1])) (λ pre ρ σ=>Ov ["k","own","pred","ok","j"] _ ρ/\σ=[.lst ((List.range sz).map λ p=>V.d (.int (dc h cut pre.length p:Nat))),.set ((a6 h cut pre.length).map fun(k:Nat)=>(k:Int))]) ⟨Ov.refl,rfl⟩ ?_ ?_
 ·rintro pre ⟨y,m⟩ post ρ σ hy ⟨⟨f,rfl⟩,rfl⟩;obtain⟨hm,e,he,hye⟩:=n7 hy;simp only at hm hye;subst hm;subst hye;have hlt:=az he;rw[List.length_append,List.length_singleton];have htl:(h.take pre.length).length=pre.length:=by rw[List.length_take];exact Nat.min_eq_left (Nat.le_of_lt ‹_›)
  have hmem:e∈h:=List.mem_of_getElem? he;have hsp:h=h.take pre.length++e::h.drop (pre.length+1):=by
   conv=>lhs;rw[<-List.take_append_drop pre.length h]
   rw[List.drop_eq_getElem_cons hlt];congr 2;rw[List.getElem?_eq_getElem hlt] at he;exact Option.some.inj he
  have hms:=bx h _ _ e cut hsp;rw[htl] at hms;have hgood:a6 h cut (pre.length+1)=if isIn cut (h.take pre.length) e/\∀j∈(aW (h.take pre.length) e).2,j∈a6 h cut pre.length then a6 h cut pre.length++[pre.length] else a6 h cut pre.length:=by
   conv=>lhs;unfold a6
   rw[he]
  refine Wp.bind rfl ?_;refine Wp.ifc (c:=decide (pre.length∈splitOf h cut)) (af (ao rfl rfl zq)) ?_ ?_
  ·intro q;have hq:isIn cut (h.take pre.length) e:=hms.1 (of_decide_eq_true q);refine Wp.asg rfl ?_;refine Wp.for (ys:=((aW (h.take pre.length) e).2.map fun(n:Nat)=>PyData.int n).map V.d) rfl ?_;refine Wp.ox (fun(n:Nat)=>PyData.int n) (λ pre' ρ σ=>Ov ["j"] _ ρ/\σ=[.lst ((List.range sz).map λ p=>V.d (.int (dc h cut pre.length p:Nat))),.set ((a6 h cut pre.length).map fun(k:Nat)=>(k:Int))]/\∀j∈pre',j∈a6 h cut pre.length) ⟨Ov.refl,rfl,by simp⟩ ?_ ?_
   ·rintro pre' j post' ρ σ hy' ⟨⟨f',rfl⟩,rfl,hp⟩;refine Wp.bind rfl ?_;refine Wp.ifc (c:=!decide (j∈a6 h cut pre.length)) (af (ao rfl (aL rfl rfl rfl rfl rfl) (wU rfl))) ?_ ?_
    ·intro q';have hj:j∉a6 h cut pre.length:=by simpa using q'
     refine Wp.asg rfl ⟨.br,_,_,rfl,?_⟩;refine Wp.ifF rfl (Wp.fin (Wp.fin (Wp.nil ⟨by repeat first | exact⟨f,rfl⟩ | refine Ov.upd ?_ rfl | refine Ov.over ?_ rfl,?_⟩)));have hno:¬(isIn cut (h.take pre.length) e/\∀j∈(aW (h.take pre.length) e).2,j∈a6 h cut pre.length):=λ r=>hj (r.2 j (by rw[hy'];simp));rw[if_neg hno] at hgood;unfold dc;rw[hgood]
    ·intro q';have hj:j∈a6 h cut pre.length:=by simpa using q'
     refine Wp.fin (Wp.nil ⟨Ov.upd ⟨f',rfl⟩ rfl,rfl,?_⟩);intro j' hj';rcases List.mem_append.1 hj' with r | r
     ·exact hp j' r
     ·obtain rfl:j'=j:=by simpa using r
      exact hj
   ·rintro ρ σ ⟨⟨f',rfl⟩,rfl,hp⟩;rw[if_pos ⟨hq,hp⟩] at hgood;refine Wp.ifT rfl ?_;have hgl:=uk h cut pre.length;refine Wp.expr (vE (k:=(pre.length:Nat)) (aL rfl rfl rfl rfl rfl) rfl rfl ?_ (by rw[List.length_map];exact Nat.lt_of_le_of_lt ‹_› (Nat.lt_of_lt_of_le ‹_› (Nat.le_trans ‹_› (by decide))))) ?_
    ·rw[cz];apply decide_eq_false;intro r;have:=iB r;exact absurd ‹_› (Nat.lt_irrefl _)
    have hown:=ho e hmem;refine Wp.aug (aL rfl rfl rfl rfl rfl) rfl (fE (k:=aC e) (i:=(dc h cut pre.length (aC e):Nat)) rfl (by simp[hown])) (m:=1) rfl rfl (cg (k:=aC e) rfl (by simpa using hown)) (Wp.fin (Wp.fin (Wp.nil ⟨by repeat first | exact⟨f,rfl⟩ | refine Ov.upd ?_ rfl | refine Ov.over ?_ rfl,?_⟩)));have hlow:∀p,dc h cut (pre.length+1) p=dc h cut pre.length p+if aC e=p then 1 else 0:=by
     intro p;unfold dc;rw[hgood,List.filter_append,List.length_append];have hd:(decide ((h[pre.length]?).map aC=some p))=decide (aC e=p):=by rw[he];simp only[Option.map_some,Option.some.injEq]
     simp only[List.filter_cons,List.filter_nil,hd];by_cases r:aC e=p
     ·simp only[r,decide_true,if_true];rfl
     ·simp only[r,decide_false,if_false];rfl
    show [Nd.lst (List.set _ _ _),Nd.set (_++[_])]=_;rw[dJ,hgood,List.map_append];congr 2;apply List.map_congr_left;intro p _;rw[hlow];by_cases r:p=aC e
    ·subst r;simp
    ·have r':¬aC e=p:=λ z=>r z.symm;simp[r,r']
  ·intro q;have hq:¬isIn cut (h.take pre.length) e:=λ r=>of_decide_eq_false q (hms.2 r);rw[if_neg (λ r=>hq r.1)] at hgood;refine Wp.fin (Wp.nil ⟨by repeat first | exact⟨f,rfl⟩ | refine Ov.upd ?_ rfl,?_⟩);unfold dc;rw[hgood]
 ·rintro ρ σ ⟨⟨f,rfl⟩,rfl⟩;refine Wp.ret (aL rfl rfl rfl rfl rfl) ⟨_,rfl,?_⟩;rw[List.length_zipIdx,iz];refine kL (l:=0) rfl ?_;refine cK ?_;show some (Nd.lst _)=some (Nd.lst _);congr 2;simp[Function.comp_def]
end
end great_run_e
theorem rY(n sz:Nat)(h:List HEv)(cut:List Nat)(hv:Valid h)(hlen:h.length<=1000)(hsz:sz<=1000)(hc:∀e∈h,aC e<cut.length)(ho:∀e∈h,aC e<sz):(prg.run (n+4)).P "greatest" [.d (.int sz),.d (.list (h.map eH)),.d (bo cut)]=some (some (.d (bo ((List.range sz).map (dc h cut h.length))))):=aw (Q:=λ x:(Nat)×(Nat)×(List HEv)×(List Nat)=>great_run_e.P x.1 x.2.1 x.2.2.1 x.2.2.2) great_run_e.core (n,sz,h,cut) hv hlen hsz hc ho
noncomputable def xy:Fn:=(prg.fn "begin").getD ⟨[],[]⟩
theorem xR:prg.fn "begin"=some xy:=rfl
theorem tW{σ:aa}{n:Nat}{x:PyData}(h:n<=50000):sS false .Mult (.d (.list [x])) (.d (.int n)) σ=some (.d (.list (List.replicate n x)),σ):=by
 show((if [x].length*(n:Int).toNat<=LIM/\0<=(n:Int)/\(n:Int)<=(LIM:Int) then some (PyData.list (times [x] (n:Int).toNat)) else none).bind λ r=>some (V.d r,σ))=_;rw[if_pos ⟨by simp[LIM];exact Nat.le_trans ‹_› (by decide),by exact Int.natCast_nonneg _,by simp[LIM];exact Int.ofNat_le.2 (Nat.le_trans ‹_› (by decide))⟩,Int.toNat_natCast,kW];rfl
theorem sH(n sz:Nat)(ps:List Ch)(starts:List Int)(hs:starts.length<=1000) :
  (prg.run (n+2)).P "begin" [.d (iv sz ps),.d (bb starts)]=some (some (.d (eSt (cu ps starts [])))):=by
 refine jf xR rfl ?_;refine Wp.ret (aU (ae (aq rfl (r:=some (.d (bb starts),[])) ?_) (ae (bj ax (ys:=ps) (λ _=>.list []) rfl rfl λ c hc=>⟨_,rfl,rfl⟩) (ae (aK rfl rfl (tW (n:=(starts.map PyData.int).length) (by rw[List.length_map];exact Nat.le_trans ‹_› (by decide)))) rfl))) rfl) ⟨_,rfl,?_⟩
 ·show(l0 ((starts.map PyData.int).map V.d)).map _=_;have:=kC (λ x:PyData=>x) (starts.map PyData.int);simp only[List.map_id'] at this;rw[this];rfl
 ·have e1:starts=starts.zipIdx.map λ x=>bp [] x.2 x.1:=by simp[bp,kf,dE]
  have e2:(List.replicate (starts.map PyData.int).length (PyData.int 0))=((starts.zipIdx.map λ x=>bA [] x.2).map fun(n:Nat)=>PyData.int n):=by
   simp[bA,kf,dE,List.map_const']
  have e3:(ps.map λ _=>PyData.list [])=(ps.map (ai [])).map eQ:=by
   simp[ai,outs,eQ,Function.comp_def]
  show some (V.d (.tuple [bb starts,.list (ps.map λ _=>PyData.list []),.list (List.replicate (starts.map PyData.int).length (PyData.int 0)),.list []]))=_;rw[e2,e3];simp only[eSt,cu,bo];rw[<-e1];rfl
end L3
end Mine.Internal.Q
end
section
namespace Mine.Internal.Q.L3
open PySem Classical Mine.Internal.L3
theorem gb{α:Type}{x:α}{l r:List α}(h:x∈l):before x (l++r)=before x l:=by
 obtain⟨a,b,rfl,hna⟩:=List.eq_append_cons_of_mem h;rw[bh hna,List.append_assoc];exact bh hna
theorem lk{α:Type}{x:α}{l r:List α}(h:x∈l):since x (l++r)=since x l++r:=by
 obtain⟨a,b,rfl,hna⟩:=List.eq_append_cons_of_mem h;rw[fb hna,List.append_assoc];exact fb hna
theorem cG(c:Ch)(l r:List Ent):outs c (l++r)=outs c l++outs c r:=by exact List.filterMap_append
theorem cj(c:Ch)(l r:List Ent):bZ c (l++r)=bZ c l++bZ c r:=by exact List.filterMap_append
theorem gS(l r:List Msg):eG (l++r)=eG l++eG r:=by exact List.filterMap_append
theorem aG(l r:List Ent):names (l++r)=names l++names r:=by exact List.filterMap_append
theorem oq(p:Nat)(l r:List Ent):kf p (l++r)=kf p l++kf p r:=by exact List.filterMap_append
theorem ly(p:Nat)(l r:List Ent):dE p (l++r)=dE p l++dE p r:=by exact List.filterMap_append
theorem nf(p:Nat)(s:Int)(l r:List Ent):bp (l++r) p s=bp l p s+(kf p r).sum-(dE p r).sum:=by
 simp only[bp,oq,ly,List.sum_append];lia
theorem kE(p:Nat)(l r:List Ent):bA (l++r) p=bA l p+((kf p r).length+(dE p r).length):=by
 simp only[bA,oq,ly,List.length_append];lia
theorem AJ{x:Nat}(r:x=1):¬x=2:=λ e=>by cases r.symm.trans e
theorem CX{x:Nat}(r:x=2):¬x=1:=λ e=>by cases r.symm.trans e
theorem dv{α:Type}{x:α}{l r:List α}(h:x∉l)(h':x∉r):x∉l++r:=λ q=>(List.mem_append.1 q).elim h h'
theorem fc{log ext:List Ent}{n:Str}{x:Int×Nat}(h:Ent.save x.2 n∈log\/Ent.save x.2 n∉ext):bq (log++ext) n x=bq log n x:=by
 unfold bq;by_cases q:Ent.save x.2 n∈log
 ·rw[if_pos q,if_pos (List.mem_append_left _ q),gb q]
 ·rw[if_neg q,if_neg (dv q (h.resolve_left q))]
theorem kD{log ext:List Ent}{n:Str}{x:Int×Nat}(h:Ent.save x.2 n∈log\/Ent.save x.2 n∉ext):eC (log++ext) n x=eC log n x:=by
 unfold eC;by_cases q:Ent.save x.2 n∈log
 ·rw[if_pos q,if_pos (List.mem_append_left _ q),gb q]
 ·rw[if_neg q,if_neg (dv q (h.resolve_left q))]
theorem qN{log ext:List Ent}{n:Str}{x:Int×Nat}(h:Ent.save x.2 n∉log):bq (log++Ent.save x.2 n::ext) n x=some (bp log x.2 x.1):=by
 unfold bq;rw[if_pos (List.mem_append_right _ List.mem_cons_self),bh h]
theorem xY{log ext:List Ent}{n:Str}{x:Int×Nat}(h:Ent.save x.2 n∉log):eC (log++Ent.save x.2 n::ext) n x=some (bA log x.2):=by
 unfold eC;rw[if_pos (List.mem_append_right _ List.mem_cons_self),bh h]
theorem jO{log ext:List Ent}{c:Ch}{n:Str}(h:Ent.save c.2 n∈log):au (log++ext) c n=
  if(au log c n).1=2 then au log c n else if Ent.inn c (.mark n)∈ext then(2,(au log c n).2++eG (bZ c (before (Ent.inn c (.mark n)) ext))) else(1,(au log c n).2++eG (bZ c ext)):=by
 unfold au;rw[if_pos h,if_pos (List.mem_append_left _ h),lk h];generalize since (Ent.save c.2 n) log=R;by_cases q:Ent.inn c (.mark n)∈R
 ·rw[if_pos q,if_pos (List.mem_append_left _ q),if_pos rfl,gb q]
 ·rw[if_neg q,if_neg (AJ rfl)];by_cases r:Ent.inn c (.mark n)∈ext
  ·rw[if_pos r,if_pos (List.mem_append_right _ r)];obtain⟨a,b,rfl,hna⟩:=List.eq_append_cons_of_mem r;rw[bh hna,<-List.append_assoc,bh (dv q hna),cj,gS]
  ·rw[if_neg r,if_neg (dv q r),cj,gS]
theorem cq{log:List Ent}{c:Ch}{n:Str}(h:Ent.save c.2 n∉log):au log c n=(0,[]):=if_neg h
theorem tv{log ext:List Ent}{c:Ch}{n:Str}(h:Ent.save c.2 n∉log)(hi:Ent.inn c (.mark n)∉ext)(he:bZ c ext=[]):au (log++Ent.save c.2 n::ext) c n=(1,[]):=by
 unfold au;rw[if_pos (List.mem_append_right _ List.mem_cons_self),fb h];have hx:Ent.inn c (.mark n)∉Ent.save c.2 n::ext:=λ q=>(List.mem_cons.1 q).elim (λ q=>by cases q) hi;exact(if_neg hx).trans (congrArg (λ l=>(1,eG l)) he)
theorem eZ{log:List Ent}{c:Ch}{n:Str}(h:Ent.save c.2 n∈log):(au log c n).1=2\/(au log c n).1=1:=by
 unfold au;rw[if_pos h];split
 ·exact .inl rfl
 ·exact .inr rfl
theorem eY{log ext:List Ent}{d:Ch}{n:Str}(h1:Ent.save d.2 n∈log\/Ent.save d.2 n∉ext)(h2:Ent.inn d (.mark n)∉ext)(h3:eG (bZ d ext)=[]):au (log++ext) d n=au log d n:=by
 by_cases q:Ent.save d.2 n∈log
 ·rw[jO q,if_neg h2,h3,List.append_nil];cases eZ q with
  |inl r=>exact if_pos r
  |inr r=>rw[if_neg (AJ r)];exact Prod.ext r.symm rfl
 ·rw[cq q,cq (dv q (h1.resolve_left q))]
noncomputable def snA(ps:List Ch)(starts:List Int)(log:List Ent)(n:Str):SnA:=
 ⟨n,λ p=>bq log n (starts.getD p 0,p),λ p=>eC log n (starts.getD p 0,p),λ j=>ps[j]?.elim (0,[]) λ c=>au log c n⟩
noncomputable def F(ps:List Ch)(starts:List Int)(log:List Ent):A:=
 ⟨λ p=>bp log p (starts.getD p 0),λ j=>ps[j]?.elim [] (ai log),λ p=>bA log p,(names log).map (snA ps starts log)⟩
theorem fe{α β:Type}(l:List α)(d:α)(f:α×Nat->β):((List.range l.length).map λ p=>f (l.getD p d,p))=l.zipIdx.map f:=by
 apply List.ext_getElem?;intro i;by_cases hi:i<l.length<;>simp[hi]
theorem nK{β:Type}(ps:List Ch)(f:Ch->β)(d:β):((List.range ps.length).map λ j=>ps[j]?.elim d f)=ps.map f:=by
 apply List.ext_getElem?;intro i;by_cases hi:i<ps.length<;>simp[hi]
theorem vg(ps:List Ch)(starts:List Int)(log:List Ent):sT starts.length ps.length (F ps starts log)=cu ps starts log:=by
 delta sT cu F;simp only;rw[fe starts 0 (λ x=>bp log x.2 x.1),fe starts 0 (λ x=>bA log x.2),nK ps (ai log) [],List.map_map];congr 1;apply List.map_congr_left;intro n _;simp only[Function.comp,sU,snA,bJ];rw[fe starts 0 (bq log n),fe starts 0 (eC log n),nK ps (λ c=>au log c n) (0,[])]
end Mine.Internal.Q.L3
end
section
namespace Mine.Internal.Q.L3
open PySem Classical Mine.Internal.L3
variable{ps:List Ch}{starts:List Int}{log ext:List Ent}
theorem gH{x y:Ent}(h:x≠y):x∉[y]:=λ q=>h (List.mem_singleton.1 q)
theorem Ba{l:List Str}{n:Str}(h:l.Nodup)(hn:n∉l):(l++[n]).Nodup:=List.nodup_append.2 ⟨h,List.pairwise_singleton ..,λ a ha b hb e=>hn (List.mem_singleton.1 hb▸e▸ha)⟩
theorem dK{c:Ch}(h:(bZ c log).length<=(outs c log).length):ai (log++ext) c=(ai log c++outs c ext).drop (bZ c ext).length:=by
 unfold ai;rw[cG,cj,List.length_append,<-List.drop_drop,List.drop_append_of_le_length h]
theorem bV{c:Ch}(h:(bZ c log).length<=(outs c log).length)(he:bZ c ext=[]):ai (log++ext) c=ai log c++outs c ext:=by
 rw[dK h,he];rfl
noncomputable def marks(ps:List Ch)(p:Nat)(n:Str):List Ent:=(ps.filter λ c=>decide (c.1=p)).map λ c=>.out c (.mark n)
theorem dR{p:Nat}{n:Str}{e:Ent}(h:e∈marks ps p n):∃c,c∈ps/\c.1=p/\e=.out c (.mark n):=by
 obtain⟨d,hd,e⟩:=List.mem_map.1 h;obtain⟨h1,h2⟩:=List.mem_filter.1 hd;exact⟨d,h1,of_decide_eq_true h2,e.symm⟩
theorem dp(hnd:ps.Nodup)(p:Nat)(n:Str)(c:Ch):outs c (aJ ps p n)=if c∈ps/\c.1=p then [.mark n] else []:=by
 show outs c (marks ps p n)=_;unfold marks outs;rw[List.filterMap_map]
 induction ps with
 |nil=>exact(if_neg λ h=>by cases h.1).symm
 |cons d r ih=>
  have hn:=List.nodup_cons.1 hnd;have ih:=ih hn.2;by_cases h1:d.1=p
  ·rw[List.filter_cons_of_pos (p:=λ c:Ch=>decide (c.1=p)) (decide_eq_true h1)];by_cases h2:d=c
   ·subst h2;rw[List.filterMap_cons_some (show(ka d ∘ λ c=>Ent.out c (.mark n)) d=some (.mark n) from if_pos rfl),ih,if_neg λ h=>hn.1 h.1,if_pos ⟨List.mem_cons_self,h1⟩]
   ·rw[List.filterMap_cons_none (show(ka c ∘ λ c=>Ent.out c (.mark n)) d=none from if_neg h2),ih];exact de (and_congr ⟨List.mem_cons_of_mem _,λ h=>(List.mem_cons.1 h).resolve_left λ e=>h2 e.symm⟩ Iff.rfl)
  ·rw[List.filter_cons_of_neg (p:=λ c:Ch=>decide (c.1=p)) λ h=>h1 (of_decide_eq_true h),ih];exact de ⟨λ h=>⟨List.mem_cons_of_mem _ h.1,h.2⟩,λ h=>⟨(List.mem_cons.1 h.1).resolve_left λ e=>h1 (e▸h.2),h.2⟩⟩
theorem dW{β:Type}{f:Ent->Option β}{p:Nat}{n:Str}(h1:f (.save p n)=none)(h2:∀c,f (.out c (.mark n))=none):(aJ ps p n).filterMap f=[]:=
 List.filterMap_eq_nil_iff.2 λ e he=>(List.mem_cons.1 he).elim (λ q=>q▸h1) λ q=>(dR q).elim λ c hc=>hc.2.2▸h2 c
theorem ba(p:Nat)(n:Str)(c:Ch):bZ c (aJ ps p n)=[]:=dW rfl λ _=>rfl
theorem jz(p:Nat)(n:Str)(x:Nat):kf x (aJ ps p n)=[]:=dW rfl λ _=>rfl
theorem ir(p:Nat)(n:Str)(x:Nat):dE x (aJ ps p n)=[]:=dW rfl λ c=>ite_self _
theorem bw(p:Nat)(n:Str):names (aJ ps p n)=[]:=dW rfl λ _=>rfl
theorem b8{p p':Nat}{n n':Str}:Ent.save p' n'∈aJ ps p n↔p'=p/\n'=n:=
 ⟨λ h=>(List.mem_cons.1 h).elim (λ q=>Ent.save.inj q) λ q=>(dR q).elim λ _ h=>(by cases h.2.2),λ h=>h.1▸h.2▸List.mem_cons_self⟩
theorem lR{p:Nat}{n:Str}{c:Ch}{m:Msg}:Ent.inn c m∉marks ps p n:=λ q=>(dR q).elim λ _ h=>by cases h.2.2
theorem jy{p:Nat}{n:Str}{c:Ch}{m:Msg}:Ent.inn c m∉aJ ps p n:=
 λ h=>(List.mem_cons.1 h).elim (λ q=>by cases q) lR
theorem SnA.zT{s t:SnA}(h1:s.name=t.name)(h2:s.a=t.a)(h3:s.c=t.c)(h4:s.t=t.t):s=t:=by
 cases s;cases t;cases h1;cases h2;cases h3;cases h4;rfl
theorem r0{j:Nat}{c d:Ch}(h:ps[j]?=some c):ps.getD j d=c:=by
 rw[List.getD_eq_getElem?_getD,h];rfl
theorem fC{x:Nat}{s:Int}(h1:kf x ext=[])(h2:dE x ext=[]):bp (log++ext) x s=bp log x s:=by
 rw[nf,h1,h2];exact(Int.sub_zero _).trans (Int.add_zero _)
theorem fu{x:Nat}(h1:kf x ext=[])(h2:dE x ext=[]):bA (log++ext) x=bA log x:=by
 rw[kE,h1,h2];rfl
theorem oC{β:Type}(hnd:ps.Nodup){j x:Nat}{c:Ch}{f g:Ch->β}{z v:β}(hj:ps[j]?=some c)(hv:f c=v)(h:∀d,d≠c->f d=g d):(if x=j then v else ps[x]?.elim z g)=ps[x]?.elim z f:=by
 by_cases e:x=j
 ·rw[if_pos e,e,hj];exact hv.symm
 ·rw[if_neg e];cases hx:ps[x]? with
  |none=>rfl
  |some d=>exact(h d λ q=>e ((List.getElem?_inj (az hx) hnd).1 (hx.trans (q▸hj.symm)))).symm
theorem vF{β:Type}{x:Nat}{f g:Ch->β}{z:β}{P:Ch->Prop}[DecidablePred P]{u:β->β}(h:∀c∈ps,f c=if P c then u (g c) else g c):(if x<ps.length/\P (ps.getD x (0,0)) then u (ps[x]?.elim z g) else ps[x]?.elim z g)=ps[x]?.elim z f:=by
 cases hx:ps[x]? with
 |none=>exact if_neg λ q=>Nat.not_lt.2 (List.getElem?_eq_none_iff.1 hx) q.1
 |some c=>
  rw[r0 hx];refine Eq.trans ?_ (h c (List.mem_of_getElem? hx)).symm;exact de (and_iff_right (az hx))
theorem jT{n:Str}(h1:∀p,Ent.save p n∈log\/Ent.save p n∉ext)(h2:∀c,Ent.inn c (.mark n)∉ext/\eG (bZ c ext)=[]):snA ps starts (log++ext) n=snA ps starts log n:=
 SnA.zT rfl (funext λ p=>fc (h1 p)) (funext λ p=>kD (h1 p)) (funext λ j=>congrArg (ps[j]?.elim (0,[])) (funext λ c=>eY (h1 c.2) (h2 c).1 (h2 c).2))
theorem lE(hD:(names log).Nodup){i:Nat}{nm:Str}{log':List Ent}(hi:(names log)[i]?=some nm)(f:SnA->SnA)(h1:∀n,n≠nm->snA ps starts log' n=snA ps starts log n)(h2:f (snA ps starts log nm)=snA ps starts log' nm) :
  ((names log).map (snA ps starts log)).modify i f=(names log).map (snA ps starts log'):=by
 apply List.ext_getElem?;intro x;by_cases e:i=x
 ·rw[<-e,List.getElem?_modify_eq,List.getElem?_map,List.getElem?_map,hi];exact congrArg some h2
 ·rw[List.getElem?_modify_ne _ _ e,List.getElem?_map,List.getElem?_map];cases hx:(names log)[x]? with
  |none=>rfl
  |some n=>exact congrArg some (h1 n λ q=>e ((List.getElem?_inj (az hi) hD).1 (hi.trans (q▸hx.symm)))).symm
theorem oF(hnd:ps.Nodup)(hA:∀c,(bZ c log).length<=(outs c log).length)(hD:(names log).Nodup){p i:Nat}{n:Str}(hi:(names log)[i]?=some n)(hno:Ent.save p n∉log):ij ps p i n (F ps starts log)=F ps starts (log++aJ ps p n):=by
 refine A.ext (funext λ x=>(fC (jz ..) (ir ..)).symm) (funext λ j=>?_) (funext λ x=>(fu (jz ..) (ir ..)).symm) ?_
 ·refine vF (x:=j) (f:=ai (log++aJ ps p n)) (g:=ai log) (P:=λ c=>c.1=p) (u:=(·++[Msg.mark n])) λ c hc=>?_;rw[bV (hA c) (ba ..),dp hnd];by_cases h:c.1=p
  ·rw[if_pos h,if_pos ⟨hc,h⟩]
  ·rw[if_neg h,if_neg λ q=>h q.2,List.append_nil]
 ·show((((names log).map (snA ps starts log)).modify _ _).modify _ _).modify _ _=(names (log++aJ ps p n)).map _;rw[aG,bw,List.append_nil,mod_mod,mod_mod];refine lE hD hi _ (λ m hm=>jT (λ x=>.inr λ q=>hm (b8.1 q).2) λ c=>⟨jy,congrArg eG (ba ..)⟩) (SnA.zT rfl (funext λ x=>?_) (funext λ x=>?_) (funext λ j=>?_))
  ·show(if x=p then some (bp log p _) else bq log n (_,x))=bq _ n (_,x);by_cases e:x=p
   ·rw[if_pos e,e];exact(qN (x:=(starts.getD p 0,p)) hno).symm
   ·rw[if_neg e];exact(fc (.inr λ q=>e (b8.1 q).1)).symm
  ·show(if x=p then some (bA log p) else eC log n (_,x))=eC _ n (_,x);by_cases e:x=p
   ·rw[if_pos e,e];exact(xY (x:=(starts.getD p 0,p)) hno).symm
   ·rw[if_neg e];exact(kD (.inr λ q=>e (b8.1 q).1)).symm
  ·refine vF (x:=j) (f:=λ c=>au (log++aJ ps p n) c n) (g:=λ c=>au log c n) (P:=λ c=>c.2=p) (u:=λ t=>(1,t.2)) λ c hc=>?_;by_cases e:c.2=p
   ·subst e;rw[if_pos rfl,cq hno];exact tv hno lR (ba (ps:=ps) c.2 n c)
   ·rw[if_neg e];exact eY (.inr λ q=>e (b8.1 q).1) jy (congrArg eG (ba ..))
theorem uC(hnd:ps.Nodup)(hA:∀c,(bZ c log).length<=(outs c log).length)(hD:(names log).Nodup)(hB:∀p n,Ent.save p n∈log->n∈names log)(p:Nat)(n:Str)(hn:n∉names log) :
  ij ps p (F ps starts log).s.length n { F ps starts log with s:=(F ps starts log).s++[kN n] }=F ps starts (log++[.snap p n]++aJ ps p n):=by
 have hno:∀x,Ent.save x n∉log++[.snap p n]:=λ x=>dv (λ q=>hn (hB x n q)) (gH λ h=>by cases h);have e:({ F ps starts log with s:=(F ps starts log).s++[kN n] }:A)=F ps starts (log++[.snap p n]):=by
  refine A.ext (funext λ x=>(fC rfl rfl).symm) (funext λ j=>congrArg (ps[j]?.elim []) (funext λ c=>((bV (hA c) rfl).trans (List.append_nil _)).symm)) (funext λ x=>(fu rfl rfl).symm) ?_;show(names log).map _++[kN n]=(names (log++[.snap p n])).map _;rw[aG,List.map_append,show(names log).map (snA ps starts (log++[.snap p n]))=(names log).map (snA ps starts log) from List.map_congr_left λ m _=>jT (ext:=[.snap p n]) (λ x=>.inr (gH λ h=>by cases h)) λ c=>⟨gH λ h=>(by cases h),rfl⟩];refine congrArg (λ s=>(names log).map (snA ps starts log)++[s]) (SnA.zT rfl (funext λ x=>(if_neg (hno x)).symm) (funext λ x=>(if_neg (hno x)).symm) (funext λ j=>?_));show(0,[])=ps[j]?.elim (0,[]) _;cases ps[j]? with
  |none=>rfl
  |some c=>exact(cq (hno c.2)).symm
 rw[e,show(F ps starts log).s.length=(names log).length from List.length_map _];refine oF hnd (λ c=>?_) ?_ ?_ (hno p)
 ·rw[cj,cG];exact(List.append_nil (bZ c log)).symm▸(List.append_nil (outs c log)).symm▸hA c
 ·rw[aG];exact Ba hD hn
 ·rw[aG];exact List.getElem?_concat_length
end Mine.Internal.Q.L3
end
section
namespace Mine.Internal.Q.L3
open PySem Classical Mine.Internal.L3
variable{ps:List Ch}{starts:List Int}{log:List Ent}
theorem gw{β:Type}{f:Ent->Option β}{e:Ent}{P:Prop}[Decidable P]{b:β}(h:f e=if P then some b else none):[e].filterMap f=if P then [b] else []:=by
 by_cases q:P
 ·rw[if_pos q,List.filterMap_cons_some (h.trans (if_pos q))];rfl
 ·rw[if_neg q,List.filterMap_cons_none (h.trans (if_neg q))];rfl
theorem fV(c d:Ch)(m:Msg):bZ d [Ent.inn c m]=if c=d then [m] else []:=gw rfl
theorem vx(c:Ch)(n:Str)(x:Nat):kf x [Ent.inn c (.mark n)]=[]:=List.filterMap_cons_none (ite_self _)
theorem cX{c:Ch}{m:Msg}{p:Nat}{n:Str}:Ent.save p n∉[Ent.inn c m]:=gH λ h=>by cases h
theorem ry{c d:Ch}{v:Int}{n:Str}:Ent.inn d (.mark n)∉[Ent.inn c (.pay v)]:=gH λ h=>by cases h
theorem mV{c d:Ch}(m:Msg)(h:d≠c):bZ d [Ent.inn c m]=[]:=(fV c d m).trans (if_neg λ q=>h q.symm)
theorem yQ(hnd:ps.Nodup)(hA:∀c,(bZ c log).length<=(outs c log).length){c:Ch}{j:Nat}(hj:ps[j]?=some c){m:Msg}{r:List Msg}(hq:ai log c=m::r):(gG j r (F ps starts log)).q=(F ps starts (log++[.inn c m])).q:=funext λ x=>by
 have hc:ai (log++[.inn c m]) c=r:=by
  rw[dK (hA c),fV,if_pos rfl,hq];exact List.append_nil r
 exact oC hnd hj hc λ d hd=>(dK (hA d)).trans (by rw[mV m hd];exact List.append_nil _)
theorem uD(hnd:ps.Nodup)(hA:∀c,(bZ c log).length<=(outs c log).length){c:Ch}{j:Nat}(hj:ps[j]?=some c)(v:Int) :
  tJ c j v (F ps starts log)=F ps starts (log++[.out c (.pay v)]):=by
 have h2:∀x,dE x [Ent.out c (.pay v)]=if c.1=x then [v] else []:=λ x=>gw rfl
 have h3:∀d,outs d [Ent.out c (.pay v)]=if c=d then [.pay v] else []:=λ d=>gw rfl
 refine A.ext (funext λ x=>?_) (funext λ i=>?_) (funext λ x=>?_) ?_
 ·show(if x=c.1 then bp log c.1 _-v else bp log x _)=bp _ x _;by_cases e:x=c.1
  ·rw[if_pos e,e,nf,h2,if_pos rfl];simp[show kf c.1 [Ent.out c (.pay v)]=[] from rfl]
  ·rw[if_neg e];exact(fC rfl ((h2 x).trans (if_neg λ q=>e q.symm))).symm
 ·have hc:ai (log++[.out c (.pay v)]) c=(F ps starts log).q j++[.pay v]:=by
   rw[bV (hA c) rfl,h3,if_pos rfl];exact congrArg (·++_) (congrArg (Option.elim · [] (ai log)) hj).symm
  exact oC hnd hj hc λ d hd=>(bV (hA d) rfl).trans (by rw[h3,if_neg λ q=>hd q.symm,List.append_nil])
 ·show(if x=c.1 then bA log c.1+1 else bA log x)=bA _ x;by_cases e:x=c.1
  ·rw[if_pos e,e,kE,h2,if_pos rfl];rfl
  ·rw[if_neg e];exact(fu rfl ((h2 x).trans (if_neg λ q=>e q.symm))).symm
 ·show(names log).map _=(names (log++_)).map _;rw[aG,show names [Ent.out c (.pay v)]=[] from rfl,List.append_nil];have hs:∀n,snA ps starts (log++[.out c (.pay v)]) n=snA ps starts log n:=λ n=>jT (λ x=>.inr (gH λ h=>by cases h)) λ d=>⟨gH λ h=>(by cases h),rfl⟩;exact List.map_congr_left λ n _=>(hs n).symm
theorem xT(hnd:ps.Nodup)(hA:∀c,(bZ c log).length<=(outs c log).length){c:Ch}{j:Nat}(hj:ps[j]?=some c)(v:Int)(r:List Msg)(hq:ai log c=.pay v::r) :
  AE c j v r (F ps starts log)=F ps starts (log++[.inn c (.pay v)]):=by
 have h2:∀x,kf x [Ent.inn c (.pay v)]=if c.2=x then [v] else []:=λ x=>gw rfl
 refine A.ext (funext λ x=>?_) (yQ hnd hA hj hq) (funext λ x=>?_) ?_
 ·show(if x=c.2 then bp log c.2 _+v else bp log x _)=bp _ x _;by_cases e:x=c.2
  ·rw[if_pos e,e,nf,h2,if_pos rfl];simp[show dE c.2 [Ent.inn c (.pay v)]=[] from rfl]
  ·rw[if_neg e];exact(fC ((h2 x).trans (if_neg λ q=>e q.symm)) rfl).symm
 ·show(if x=c.2 then bA log c.2+1 else bA log x)=bA _ x;by_cases e:x=c.2
  ·rw[if_pos e,e,kE,h2,if_pos rfl];rfl
  ·rw[if_neg e];exact(fu ((h2 x).trans (if_neg λ q=>e q.symm)) rfl).symm
 ·show((names log).map (snA ps starts log)).mapIdx (λ i s=>if i<((names log).map (snA ps starts log)).length then wG j v s else s)=(names (log++_)).map _;rw[aG,show names [Ent.inn c (.pay v)]=[] from rfl,List.append_nil];apply List.ext_getElem?;intro i;rw[List.getElem?_mapIdx,List.getElem?_map,List.getElem?_map,List.length_map];cases hi:(names log)[i]? with
  |none=>rfl
  |some n=>
   refine congrArg some ((if_pos (az hi)).trans ?_);have htj:(snA ps starts log n).t j=au log c n:=congrArg (Option.elim · (0,[]) _) hj;have ne:∀d,d≠c->au (log++[.inn c (.pay v)]) d n=au log d n:=λ d hd=>eY (.inr cX) ry (congrArg eG (mV _ hd));have base:∀{t:Nat->Nat×List Int},t=(snA ps starts (log++[.inn c (.pay v)]) n).t->({ (snA ps starts log n) with t:=t }:SnA)=snA ps starts (log++[.inn c (.pay v)]) n:=λ ht=>
    SnA.zT rfl (funext λ p=>(fc (.inr cX)).symm) (funext λ p=>(kD (.inr cX)).symm) ht
   have here:au (log++[.inn c (.pay v)]) c n=if(au log c n).1=1 then((au log c n).1,(au log c n).2++[v]) else au log c n:=by
    by_cases q:Ent.save c.2 n∈log
    ·rw[jO q,if_neg ry,fV,if_pos rfl];cases eZ q with
     |inl z=>rw[if_pos z,if_neg (CX z)]
     |inr z=>rw[if_neg (AJ z),if_pos z,z];rfl
    ·rw[cq q,cq (dv q cX)];rfl
   unfold wG;rw[htj];by_cases z:(au log c n).1=1
   ·rw[if_pos z];rw[if_pos z] at here;exact base (funext λ x=>oC hnd hj here ne)
   ·rw[if_neg z];rw[if_neg z] at here;exact base (funext λ x=>congrArg (ps[x]?.elim (0,[])) (funext λ d=>(em (d=c)).elim (λ e=>e▸here.symm) λ e=>(ne d e).symm))
end Mine.Internal.Q.L3
end
section
namespace Mine.Internal.Q.L3
open PySem Classical Mine.Internal.L3
variable{ps:List Ch}{starts:List Int}{log:List Ent}
theorem oE(hnd:ps.Nodup)(hA:∀c,(bZ c log).length<=(outs c log).length)(hD:(names log).Nodup){c:Ch}{i j:Nat}(hj:ps[j]?=some c){nm:Str}(hi:(names log)[i]?=some nm){r:List Msg}(hq:ai log c=.mark nm::r)(hsv:Ent.save c.2 nm∈log) :
  eA i (o8 j) (gG j r (F ps starts log))=F ps starts (log++[.inn c (.mark nm)]):=by
 refine A.ext (funext λ x=>(fC (vx ..) rfl).symm) (yQ hnd hA hj hq) (funext λ x=>(fu (vx ..) rfl).symm) ?_;show((names log).map (snA ps starts log)).modify i (o8 j)=(names (log++[Ent.inn c (.mark nm)])).map _;rw[aG,show names [Ent.inn c (.mark nm)]=[] from rfl,List.append_nil];refine lE hD hi _ (λ n hn=>jT (λ p=>.inr cX) λ d=>⟨gH λ q=>hn (Msg.mark.inj (Ent.inn.inj q).2),?_⟩) (SnA.zT rfl (funext λ p=>(fc (.inr cX)).symm) (funext λ p=>(kD (.inr cX)).symm) (funext λ x=>?_))
 ·rw[fV];split<;>rfl
 ·have here:au (log++[.inn c (.mark nm)]) c nm=(2,((snA ps starts log nm).t j).2):=by
   rw[jO hsv,if_pos List.mem_cons_self,show(snA ps starts log nm).t j=au log c nm from congrArg (Option.elim · (0,[]) _) hj,show before (Ent.inn c (.mark nm)) [.inn c (.mark nm)]=[] from bh (l:=[]) (λ h=>by cases h)];cases eZ hsv with
   |inl z=>exact(if_pos z).trans (Prod.ext z rfl)
   |inr z=>exact(if_neg (AJ z)).trans (congrArg (Prod.mk 2) (List.append_nil _))
  exact oC hnd hj here λ d hd=>eY (.inr cX) (gH λ q=>hd (Ent.inn.inj q).1) (congrArg eG (mV _ hd))
theorem uE(hnd:ps.Nodup)(hA:∀c,(bZ c log).length<=(outs c log).length)(hD:(names log).Nodup){c:Ch}{j:Nat}(hj:ps[j]?=some c)(nm:Str)(r:List Msg)(hq:ai log c=.mark nm::r){i:Nat}{s:SnA}(hs:(F ps starts log).s[i]?=some s)(hnm:s.name=nm) :
  rF ps c j i nm r s (F ps starts log)=F ps starts ((if Ent.save c.2 nm∈log then log else log++aJ ps c.2 nm)++[.inn c (.mark nm)]):=by
 obtain⟨n,hi,rfl⟩:=Option.map_eq_some_iff.1 ((List.getElem?_map ..).symm.trans hs);cases(show n=nm from hnm);unfold rF;by_cases hsv:Ent.save c.2 nm∈log
 ·have ha:(snA ps starts log nm).a c.2≠none:=λ e=>by cases(if_pos hsv).symm.trans e
  rw[if_pos hsv,if_neg ha];exact oE hnd hA hD hj hi hq hsv
 ·rw[if_neg hsv,if_pos (show(snA ps starts log nm).a c.2=none from if_neg hsv)];have hA':∀d,(bZ d (log++aJ ps c.2 nm)).length<=(outs d (log++aJ ps c.2 nm)).length:=λ d=>by
   rw[cj,ba,List.append_nil,cG,List.length_append];exact Nat.le_trans (hA d) (Nat.le_add_right ..)
  have hn:names (log++aJ ps c.2 nm)=names log:=by rw[aG,bw,List.append_nil]
  have hq':ai (log++aJ ps c.2 nm) c=.mark nm::(r++outs c (aJ ps c.2 nm)):=by
   rw[bV (hA c) (ba ..),hq];rfl
  rw[<-oE hnd hA' (hn▸hD) hj (hn.symm▸hi) hq' (List.mem_append_right _ List.mem_cons_self),<-oF hnd hA hD hi hsv];refine congrArg (eA i (o8 j)) (A.ext rfl (funext λ x=>?_) rfl rfl);show(if x<ps.length/\(ps.getD x (0,0)).1=c.2 then(if x=j then r else _)++[.mark nm] else(if x=j then r else _))=if x=j then _ else if x<ps.length/\(ps.getD x (0,0)).1=c.2 then _ else _
  by_cases e:x=j
  ·rw[if_pos e,if_pos e,e,r0 hj,dp hnd];by_cases h:c.1=c.2
   ·rw[if_pos ⟨az hj,h⟩,if_pos ⟨List.mem_of_getElem? hj,h⟩]
   ·rw[if_neg λ q=>h q.2,if_neg λ q=>h q.2,List.append_nil]
  ·rw[if_neg e,if_neg e];rfl
end Mine.Internal.Q.L3
end
section
namespace Mine.Internal.Q.L3
open PySem Classical Mine.Internal.L3
noncomputable def Fits(sz:Nat)(ps:List Ch)(nm:List Str)(a b:List Ent):Ent->Prop
 |.out c m=>c∈ps/\∀n,m=.mark n->n∈nm/\Ent.save c.1 n∈a
 |.inn c m=>(c∈ps/\∃r,outs c a=bZ c a++m::r)/\∀n,m=.mark n->Ent.save c.2 n∈a
 |.save p n=>(n∈nm/\p<sz)/\(Ent.save p n∉a->∀c∈ps,c.1=p->∃r,outs c b=.mark n::r)
 |.snap p n=>(n="red"\/n="blue")/\∃p,Ent.save p n∈b
structure Inv(sz:Nat)(ps:List Ch)(log:List Ent):Prop where
 fifo:∀c,bZ c log <+: outs c log
 nod:(names log).Nodup
 fits:∀a e b,log=a++e::b->Fits sz ps (names log) a b e
variable{sz:Nat}{ps:List Ch}{starts:List Int}{log ext:List Ent}
theorem Inv.at(I:Inv sz ps log){e:Ent}(h:e∈log):∃a b,log=a++e::b/\Fits sz ps (names log) a b e:=(List.append_of_mem h).elim λ a h=>h.elim λ b h=>⟨a,b,h,I.fits a e b h⟩
theorem Inv.svn(I:Inv sz ps log)(p:Nat)(n:Str)(h:Ent.save p n∈log):n∈names log/\p<sz:=(I.at h).elim λ _ h=>h.elim λ _ h=>h.2.1
theorem Inv.mkn(I:Inv sz ps log)(c:Ch)(n:Str)(h:Ent.out c (.mark n)∈log):n∈names log:=(I.at h).elim λ _ h=>h.elim λ _ h=>(h.2.2 n rfl).1
theorem Inv.onp(I:Inv sz ps log)(c:Ch)(m:Msg)(h:Ent.out c m∈log):c∈ps:=(I.at h).elim λ _ h=>h.elim λ _ h=>h.2.1
theorem Inv.inp(I:Inv sz ps log)(c:Ch)(m:Msg)(h:Ent.inn c m∈log):c∈ps:=(I.at h).elim λ _ h=>h.elim λ _ h=>h.2.1.1
theorem lH{n:Str}(h:n∈names log):∃p,Ent.snap p n∈log:=by
 obtain⟨e,h1,h2⟩:=List.mem_filterMap.1 h;cases e with
 |snap p m=>cases h2;exact⟨p,h1⟩
 |_=>cases h2
theorem Inv.two(I:Inv sz ps log)(n:Str)(h:n∈names log):n="red"\/n="blue":=(lH h).elim λ _ h=>(I.at h).elim λ _ h=>h.elim λ _ h=>h.2.1
theorem Inv.ini(I:Inv sz ps log)(n:Str)(h:n∈names log):∃p,Ent.save p n∈log:=(lH h).elim λ _ h=>(I.at h).elim λ _ h=>h.elim λ _ h=>h.2.2.elim λ p q=>⟨p,h.1▸List.mem_append_right _ (List.mem_cons_of_mem _ q)⟩
theorem Inv.inm(I:Inv sz ps log)(a b:List Ent)(c:Ch)(n:Str)(h:log=a++Ent.inn c (.mark n)::b):Ent.save c.2 n∈a:=(I.fits a _ b h).2 n rfl
theorem Inv.oum(I:Inv sz ps log)(a b:List Ent)(c:Ch)(n:Str)(h:log=a++Ent.out c (.mark n)::b):Ent.save c.1 n∈a:=((I.fits a _ b h).2 n rfl).2
theorem Inv.sav(I:Inv sz ps log)(a b:List Ent)(i:Nat)(n:Str)(h:log=a++Ent.save i n::b):Ent.save i n∉a->∀c∈ps,c.1=i->∃r,outs c b=.mark n::r:=(I.fits a _ b h).2
theorem qG{α:Type}{l r a b:List α}{x:α}(h:l++r=a++x::b):(∃b0,l=a++x::b0/\b=b0++r)\/(∃a0,a=l++a0/\r=a0++x::b):=by
 rcases List.append_eq_append_iff.1 h with h1 | ⟨c0,h1,h2⟩
 ·exact .inr h1
 ·cases c0 with
  |nil=>exact .inr ⟨[],by rw[h1,List.append_nil,List.append_nil],h2.symm⟩
  |cons y t=>cases h2;exact .inl ⟨t,h1,rfl⟩
theorem Inv.le(I:Inv sz ps log)(c:Ch):(bZ c log).length<=(outs c log).length:=(I.fifo c).length_le
theorem Inv.gv(I:Inv sz ps log)(c:Ch):outs c log=bZ c log++ai log c:=by
 obtain⟨t,ht⟩:=I.fifo c;unfold ai;rw[<-ht,List.drop_left]
theorem jS{α β:Type}{c d:α}[Decidable (d=c)]{m m':β}(h:(if d=c then some m' else none)=some m):d=c/\m'=m:=by
 by_cases q:d=c
 ·exact⟨q,Option.some.inj ((if_pos q).symm.trans h)⟩
 ·cases(if_neg q).symm.trans h
theorem gV{c:Ch}{m:Msg}{l:List Ent}:m∈outs c l↔Ent.out c m∈l:=by
 refine List.mem_filterMap.trans ⟨fun⟨e,h1,h2⟩=>?_,λ h=>⟨_,h,if_pos rfl⟩⟩;cases e with
 |out d m'=>cases(jS h2).1;cases(jS h2).2;exact h1
 |_=>cases h2
theorem n5{c:Ch}{m:Msg}{l:List Ent}:m∈bZ c l↔Ent.inn c m∈l:=by
 refine List.mem_filterMap.trans ⟨fun⟨e,h1,h2⟩=>?_,λ h=>⟨_,h,if_pos rfl⟩⟩;cases e with
 |inn d m'=>cases(jS h2).1;cases(jS h2).2;exact h1
 |_=>cases h2
theorem Fits.mono{nm nm':List Str}{a b x:List Ent}{e:Ent}(h:Fits sz ps nm a b e)(hn:∀n,n∈nm->n∈nm'):Fits sz ps nm' a (b++x) e:=by
 cases e with
 |out c m=>exact⟨h.1,λ n q=>⟨hn n (h.2 n q).1,(h.2 n q).2⟩⟩
 |inn c m=>exact h
 |save p n=>exact⟨⟨hn n h.1.1,h.1.2⟩,λ q c hc hp=>(h.2 q c hc hp).elim λ r hr=>⟨r++outs c x,by rw[cG,hr];rfl⟩⟩
 |snap p n=>exact⟨h.1,h.2.elim λ p q=>⟨p,List.mem_append_left _ q⟩⟩
theorem Inv.step(I:Inv sz ps log)(hf:∀c,bZ c (log++ext) <+: outs c (log++ext))(hn:(names (log++ext)).Nodup)(h:∀a e b,ext=a++e::b->Fits sz ps (names (log++ext)) (log++a) b e):Inv sz ps (log++ext):=by
 refine⟨hf,hn,λ a e b q=>?_⟩;rcases qG q with ⟨b0,q1,rfl⟩ | ⟨a0,rfl,q2⟩
 ·exact(I.fits a e b0 q1).mono λ n hn=>by rw[aG];exact List.mem_append_left _ hn
 ·exact h a0 e b q2
theorem rk{x e:Ent}{a b:List Ent}(h:[x]=a++e::b):a=[]/\x=e:=by
 cases a with
 |nil=>cases h;exact⟨rfl,rfl⟩
 |cons y t=>cases t<;>cases h
theorem ku(I:Inv sz ps log)(c:Ch)(h:bZ c ext=[]):bZ c (log++ext) <+: outs c (log++ext):=by
 rw[cj,h,List.append_nil,cG];exact(I.fifo c).trans (List.prefix_append _ _)
theorem Inv.one(I:Inv sz ps log){e:Ent}(hf:∀c,bZ c (log++[e]) <+: outs c (log++[e]))(hn:names [e]=[])(h:Fits sz ps (names log) log [] e):Inv sz ps (log++[e]):=by
 have hn:names (log++[e])=names log:=by rw[aG,hn,List.append_nil]
 refine I.step hf (hn.symm▸I.nod) λ a e' b q=>?_;obtain⟨rfl,rfl⟩:=rk q;cases q;rw[hn,List.append_nil];exact h
theorem ig(hnd:ps.Nodup){p:Nat}{n:Str}{nm:List Str}{a b l:List Ent}{e:Ent}(hp:p<sz)(hn:n∈nm)(h:aJ ps p n=a++e::b):Fits sz ps nm (l++a) b e:=by
 cases a with
 |nil=>
  cases h;exact⟨⟨hn,hp⟩,λ _ c hc hci=>⟨[],(dp hnd p n c).trans (if_pos ⟨hc,hci⟩)⟩⟩
 |cons y t=>
  have h0:=List.cons.inj h;have hm:e∈marks ps p n:=(show marks ps p n=t++e::b from h0.2)▸List.mem_append_right t List.mem_cons_self;obtain⟨c,h1,h2,rfl⟩:=dR hm;exact⟨h1,λ n' q=>Msg.mark.inj q▸⟨hn,h0.1▸h2▸List.mem_append_right _ List.mem_cons_self⟩⟩
theorem ue(hnd:ps.Nodup)(I:Inv sz ps log)(p:Nat)(n:Str)(hp:p<sz)(hn:n∉names log)(h2:n="red"\/n="blue"):Inv sz ps (log++[.snap p n]++aJ ps p n):=by
 rw[List.append_assoc];have hnm:names (log++([Ent.snap p n]++aJ ps p n))=names log++[n]:=by
  rw[aG,aG,bw];rfl
 refine I.step (λ c=>ku I c (ba p n c)) ?_ λ a e b h=>?_
 ·rw[hnm];exact Ba I.nod hn
 ·cases a with
  |nil=>cases h;exact⟨h2,p,List.mem_cons_self⟩
  |cons y t=>
   rw[hnm,List.append_cons log y t];exact ig hnd hp (List.mem_append_right _ List.mem_cons_self) (List.cons.inj h).2
theorem uf(I:Inv sz ps log){c:Ch}{v:Int}(hc:c∈ps):Inv sz ps (log++[.out c (.pay v)]):=I.one (λ d=>ku I d rfl) rfl ⟨hc,λ _ h=>by cases h⟩
theorem rS(I:Inv sz ps log){c:Ch}{m:Msg}{r:List Msg}(hc:c∈ps)(hq:ai log c=m::r)(h:∀n,m=.mark n->Ent.save c.2 n∈log):Inv sz ps (log++[.inn c m]):=by
 refine I.one (λ d=>?_) rfl ⟨⟨hc,r,hq▸I.gv c⟩,h⟩;rw[cj,fV,cG,show outs d [Ent.inn c m]=[] from rfl,List.append_nil];by_cases e:c=d
 ·rw[if_pos e,<-e,I.gv c,hq];exact⟨r,List.append_assoc ..⟩
 ·rw[if_neg e,List.append_nil];exact I.fifo d
theorem od(hnd:ps.Nodup)(I:Inv sz ps log){c:Ch}{n:Str}(hc:c∈ps)(hz:c.2<sz){r:List Msg}(hq:ai log c=.mark n::r):Inv sz ps (log++aJ ps c.2 n):=by
 have hin:n∈names log:=I.mkn c n (gV.1 (by rw[I.gv c,hq];exact List.mem_append_right _ List.mem_cons_self));have hnm:names (log++aJ ps c.2 n)=names log:=by rw[aG,bw,List.append_nil]
 exact I.step (λ d=>ku I d (ba ..)) (hnm.symm▸I.nod) λ a e b h=>ig hnd hz (hnm.symm▸hin) h
theorem gu(I:Inv sz ps log){c:Ch}{p:Nat}{n:Str}{m:Msg}{r:List Msg}(hq:ai log c=m::r):ai (log++aJ ps p n) c=m::(r++outs c (aJ ps p n)):=by
 rw[bV (I.le c) (ba ..),hq];rfl
end Mine.Internal.Q.L3
end
section
namespace Mine.Internal.Q.L3
open PySem Classical Mine.Internal.L3
variable{ps places:List Ch}{starts:List Int}{log:List Ent}
theorem mS(sz:Nat)(ps:List Ch):Inv sz ps []:=⟨λ c=>List.prefix_refl _,List.nodup_nil,λ a e b h=>absurd h.symm (List.append_ne_nil_of_right_ne_nil _ (List.cons_ne_nil _ _))⟩
inductive Nx(ps:List Ch)(log:List Ent):Evt->List Ent->Prop
 |same {e:Evt} (h:∀c,e=.recv c->c∈ps->ai log c=[]):Nx ps log e log
 |snap {p:Nat} {n:Str} (h:n∉names log):Nx ps log (.snap p n) (log++[.snap p n]++aJ ps p n)
 |send {c:Ch} {v:Int} (hc:c∈ps):Nx ps log (.send c v) (log++[.out c (.pay v)])
 |inn {c:Ch} {m:Msg} {r:List Msg} (hc:c∈ps) (hq:ai log c=m::r) (h:∀n,m=.mark n->Ent.save c.2 n∈log):Nx ps log (.recv c) (log++[.inn c m])
 |mrk {c:Ch} {n:Str} {r:List Msg} (hc:c∈ps) (hq:ai log c=.mark n::r) (h:Ent.save c.2 n∉log):Nx ps log (.recv c) (log++aJ ps c.2 n++[.inn c (.mark n)])
theorem lX(e:Evt):Nx ps log e (aR ps starts log e).2:=by
 cases e with
 |snap p n=>
  by_cases h:n∈names log
  ·rw[show aR ps starts log (.snap p n)=_ from if_pos h];exact .same (by intro _ h;cases h)
  ·rw[show aR ps starts log (.snap p n)=_ from if_neg h];exact .snap h
 |send c v=>
  by_cases h:c∈ps
  ·rw[show aR ps starts log (.send c v)=_ from if_pos h];by_cases h':bp log c.1 (starts.getD c.1 0)<v
   ·rw[if_pos h'];exact .same (by intro _ h;cases h)
   ·rw[if_neg h'];exact .send h
  ·rw[show aR ps starts log (.send c v)=_ from if_neg h];exact .same (by intro _ h;cases h)
 |recv c=>
  by_cases h:c∈ps
  ·rw[show aR ps starts log (.recv c)=_ from if_pos h];cases hq:ai log c with
   |nil=>exact .same λ d e _=>Evt.recv.inj e▸hq
   |cons m r=>
    cases m with
    |pay v=>exact .inn h hq (by intro _ h;cases h)
    |mark n=>
     show Nx ps log _ ((if Ent.save c.2 n∈log then log else log++aJ ps c.2 n)++_);by_cases hs:Ent.save c.2 n∈log
     ·rw[if_pos hs];exact .inn h hq λ n' q=>Msg.mark.inj q▸hs
     ·rw[if_neg hs];exact .mrk h hq hs
  ·rw[show aR ps starts log (.recv c)=_ from if_neg h];exact .same λ d e hd=>absurd (Evt.recv.inj e▸hd) h
theorem y1(hnd:ps.Nodup)(hz:∀c∈ps,c.1<starts.length/\c.2<starts.length)(I:Inv starts.length ps log){e:Evt}{l:List Ent}(h:Nx ps log e l)(hE:d5 starts.length places e):Inv starts.length ps l:=by
 cases h with
 |same=>exact I
 |snap h=>exact ue hnd I _ _ hE.1 h hE.2
 |send h=>exact uf I h
 |inn hc hq h=>exact rS I hc hq h
 |mrk hc hq h=>exact rS (od hnd I hc (hz _ hc).2 hq) hc (gu I hq) λ n' q=>Msg.mark.inj q▸List.mem_append_right _ List.mem_cons_self
theorem kz(hnd:ps.Nodup)(hz:∀c∈ps,c.1<starts.length/\c.2<starts.length)(I:Inv starts.length ps log){e:Evt}(hE:d5 starts.length places e):Inv starts.length ps (aR ps starts log e).2:=y1 hnd hz I (lX e) hE
theorem qt{l:List Str}(h:l.Nodup)(h2:∀n∈l,n="red"\/n="blue"):l.length<=2:=by
 cases l with
 |nil=>exact Nat.zero_le _
 |cons a l=>
  cases l with
  |nil=>exact Nat.le_succ 1
  |cons b l=>
   cases l with
   |nil=>exact Nat.le_refl 2
   |cons c l=>
    have na:=(List.nodup_cons.1 h).1;have nb:=(List.nodup_cons.1 (List.nodup_cons.1 h).2).1;have ab:a≠b:=λ e=>na (e▸List.mem_cons_self);have ac:a≠c:=λ e=>na (e▸List.mem_cons_of_mem _ List.mem_cons_self);have bc:b≠c:=λ e=>nb (e▸List.mem_cons_self);have hb:=h2 b (List.mem_cons_of_mem _ List.mem_cons_self);have hc:=h2 c (List.mem_cons_of_mem _ (List.mem_cons_of_mem _ List.mem_cons_self));exact(h2 a List.mem_cons_self).elim (λ e=>absurd ((hb.resolve_left λ q=>ab (e.trans q.symm)).trans (hc.resolve_left λ q=>ac (e.trans q.symm)).symm) bc) λ e=>absurd ((hb.resolve_right λ q=>ab (e.trans q.symm)).trans (hc.resolve_right λ q=>ac (e.trans q.symm)).symm) bc
theorem tw(log:List Ent)(c:Ch)(n:Str):(au log c n).2.length<=log.length:=by
 have key:∀l:List Ent,l.length<=log.length->(eG (bZ c l)).length<=log.length:=λ l h=>Nat.le_trans (Nat.le_trans (List.length_filterMap_le _ _) (List.length_filterMap_le _ _)) h;have s1:(since (Ent.save c.2 n) log).length<=log.length:=(List.dropWhile_sublist _).length_le;unfold au;by_cases h:Ent.save c.2 n∈log
 ·rw[if_pos h];by_cases h':Ent.inn c (.mark n)∈since (Ent.save c.2 n) log
  ·rw[if_pos h'];exact key _ (Nat.le_trans (List.takeWhile_sublist _).length_le s1)
  ·rw[if_neg h'];exact key _ s1
 ·rw[if_neg h];exact Nat.zero_le _
theorem A7(log:List Ent)(j:Nat):((F ps starts log).q j).length<=log.length:=by
 show(ps[j]?.elim [] (ai log)).length<=_;cases ps[j]? with
 |none=>exact Nat.zero_le _
 |some c=>exact Nat.le_trans (List.drop_sublist _ _).length_le (List.length_filterMap_le _ _)
theorem wg(n:Nat)(hnd:ps.Nodup)(hz:∀c∈ps,c.1<starts.length/\c.2<starts.length)(I:Inv starts.length ps log)(hsz:starts.length<=1000)(hl:log.length<=50000){e:Evt}(hE:d5 starts.length places e) :
  (prg.run (n+5)).P "step" [.d (iv starts.length ps),.d (eSt (cu ps starts log)),.d (eB e)]=some (some (.d (.tuple [eSt (cu ps starts (aR ps starts log e).2),.str (aR ps starts log e).1]))):=by
 have s2:∀{l},Inv starts.length ps l->(F ps starts l).s.length<=2:=λ I=>Nat.le_trans (Nat.le_of_eq (List.length_map _)) (qt I.nod I.two);have s3:∀{k},2<k->(F ps starts log).s.length<k:=λ h=>Nat.lt_of_le_of_lt (s2 I) h;have R:=rO starts.length ps (F ps starts log);have lim:∀{k},k<=log.length->k<LIM:=λ h=>Nat.lt_of_le_of_lt (Nat.le_trans h hl) (by decide);have hq:∀j,j<ps.length->((F ps starts log).q j).length<LIM:=λ j _=>lim (A7 log j);have I':=s2 (kz hnd hz I hE);rw[<-vg,<-vg];refine tB n (F ps starts log) (F ps starts (aR ps starts log e).2) e _ (Nat.le_trans (s2 I) (by decide)) (Nat.le_trans I' (by decide)) ?_;have hmem:∀nm,(∃s∈(F ps starts log).s,s.name=nm)↔nm∈names log:=λ nm=>
  ⟨(by rintro⟨s,h1,h2⟩;exact(List.mem_map.1 h1).elim λ m h=>h2▸h.2▸h.1),λ h=>⟨_,List.mem_map.2 ⟨nm,h,rfl⟩,rfl⟩⟩
 cases e with
 |snap p nm=>
  refine bC λ k9=>?_;obtain⟨v,σ',h1,h2⟩:=qa (n+1) p nm R (s3 (by decide)) (Nat.le_trans hsz (by decide)) hE.1 hq;refine k9 ⟨v,σ',h1,?_⟩;by_cases h:nm∈names log
  ·rw[if_pos ((hmem nm).2 h)] at h2;rw[show aR ps starts log (.snap p nm)=_ from if_pos h];exact h2
  ·rw[if_neg (λ q=>h ((hmem nm).1 q)),uC hnd I.le I.nod (λ p n q=>(I.svn p n q).1) p nm h] at h2;rw[show aR ps starts log (.snap p nm)=_ from if_neg h];exact h2
 |send c v=>
  by_cases h:c∈ps
  ·rw[show aR ps starts log (.send c v)=_ from if_pos h];refine bC λ k9=>?_;obtain⟨w,σ',h1,h2⟩:=qb (n+1) c v R h (hz c h).1 hq;refine k9 ⟨w,σ',h1,?_⟩;by_cases h':bp log c.1 (starts.getD c.1 0)<v
   ·rw[if_pos h'];exact(if_pos (show(F ps starts log).b c.1<v from h')).mp h2
   ·rw[if_neg h'];exact uD hnd I.le (bF h) v▸(if_neg (show ¬(F ps starts log).b c.1<v from h')).mp h2
  ·rw[show aR ps starts log (.send c v)=_ from if_neg h];exact gh (n+1) c v R h
 |recv c=>
  by_cases h:c∈ps
  ·rw[show aR ps starts log (.recv c)=_ from if_pos h];have hqc:(F ps starts log).q (before c ps).length=ai log c:=congrArg (Option.elim · [] (ai log)) (bF h);cases hqq:ai log c with
   |nil=>exact kM (n+1) c R h (hqc.trans hqq)
   |cons m r=>
    refine bC λ k9=>?_;cases m with
    |pay v=>
     obtain⟨w,σ',h1,h2⟩:=sJ (n+1) c v r R h (hz c h).2 (s3 (by decide)) (λ s hs j=>by
      obtain⟨m,_,rfl⟩:=List.mem_map.1 hs;show(ps[j]?.elim (0,[]) _).2.length<_;cases ps[j]? with
      |none=>exact lim (Nat.zero_le _)
      |some d=>exact lim (tw log d m)) (hqc.trans hqq)
     exact k9 ⟨w,σ',h1,xT hnd I.le (bF h) v r hqq▸h2⟩
    |mark nm=>
     have hin:nm∈names log:=I.mkn c nm (gV.1 (by rw[I.gv c,hqq];exact List.mem_append_right _ List.mem_cons_self));obtain⟨w,σ',h1,i,s,hs,hnm,h2⟩:=qd n c nm r R h (hz c h).2 (s3 (by decide)) hq ((hmem nm).2 hin) (hqc.trans hqq);exact k9 ⟨w,σ',h1,uE hnd I.le I.nod (bF h) nm r hqq hs hnm▸h2⟩
  ·rw[show aR ps starts log (.recv c)=_ from if_neg h];exact gi (n+1) c R h
theorem so(e:Evt):(aR ps starts log e).2.length<=log.length+(ps.length+2):=by
 have sl:∀p n,(aJ ps p n).length<=ps.length+1:=λ p n=>Nat.succ_le_succ (Nat.le_trans (Nat.le_of_eq (List.length_map _)) (List.length_filter_le ..));have h:=lX (ps:=ps) (starts:=starts) (log:=log) e;generalize (aR ps starts log e).2=l at h;cases h with
 |same=>exact Nat.le_add_right ..
 |snap h=>rw[List.append_assoc,List.length_append];exact Nat.add_le_add_left (Nat.succ_le_succ (sl ..)) _
 |send h=>rw[List.length_append];exact Nat.add_le_add_left (Nat.succ_le_succ (Nat.zero_le _)) _
 |inn hc hq h=>rw[List.length_append];exact Nat.add_le_add_left (Nat.succ_le_succ (Nat.zero_le _)) _
 |mrk hc hq h=>rw[List.append_assoc,List.length_append,List.length_append];exact Nat.add_le_add_left (Nat.succ_le_succ (sl ..)) _
end Mine.Internal.Q.L3
end
section
set_option tactic.hygienic true
namespace Mine.Internal.Q.L3
open PySem Classical Mine.Internal.L3
variable{ps places:List Ch}{starts:List Int}{log ext:List Ent}{sz:Nat}
noncomputable def cn(f:Nat->Prop):Nat->Nat
 |0=>0
 |k+1=>cn f k+if f k then 1 else 0
theorem oO{f g:Nat->Prop}{k:Nat}(h:∀x,x<k->(f x↔g x)):cn f k=cn g k:=by
 induction k with
 |zero=>rfl
 |succ k ih=>
  show cn f k+(if f k then 1 else 0)=cn g k+(if g k then 1 else 0);rw[ih λ x hx=>h x (Nat.lt_succ_of_lt hx),de (h k (Nat.lt_succ_self k))]
theorem Ae{f g:Nat->Prop}{p k:Nat}(hp:p<k)(h1:f p)(h2:¬g p)(h3:∀x,x≠p->(g x↔f x)):cn g k+1=cn f k:=by
 induction k with
 |zero=>exact absurd hp (Nat.not_lt_zero p)
 |succ k ih=>
  by_cases e:p=k
  ·subst e;show cn g p+(if g p then 1 else 0)+1=cn f p+(if f p then 1 else 0);rw[if_pos h1,if_neg h2,oO λ x hx=>h3 x (Nat.ne_of_lt hx)]
  ·show cn g k+(if g k then 1 else 0)+1=cn f k+(if f k then 1 else 0);rw[<-ih (Nat.lt_of_le_of_ne (Nat.le_of_lt_succ hp) e),de (h3 k λ q=>e q.symm),Nat.add_right_comm]
theorem Af{f:Nat->Prop}{k:Nat}(h:∀x,f x):cn f k=k:=by
 induction k with
 |zero=>rfl
 |succ k ih=>exact(congrArg (_ + ·) (if_pos (h k))).trans (congrArg (· + 1) ih)
noncomputable def yr(sz:Nat)(log:List Ent)(n:Str):Nat:=cn (λ p=>Ent.save p n∉log) sz
noncomputable def U(sz:Nat)(log:List Ent):Nat:=((names log).map (yr sz log)).sum
theorem jI{n:Str}(h:∀p,Ent.save p n∉ext):yr sz (log++ext) n=yr sz log n:=oO λ p _=>not_congr ⟨λ q=>(List.mem_append.1 q).resolve_right (h p),List.mem_append_left _⟩
theorem v9{l:List Str}(hD:l.Nodup){nm:Str}(hm:nm∈l){f g:Str->Nat}(h1:f nm+1=g nm)(h2:∀n,n≠nm->f n=g n):(l.map f).sum+1=(l.map g).sum:=by
 induction l with
 |nil=>cases hm
 |cons x r ih=>
  have hn:=List.nodup_cons.1 hD;rw[List.map_cons,List.map_cons,List.sum_cons,List.sum_cons];by_cases e:x=nm
  ·subst e;rw[<-h1,List.map_congr_left λ n hn'=>h2 n λ q=>hn.1 (q▸hn'),Nat.add_right_comm]
  ·rw[<-ih hn.2 ((List.mem_cons.1 hm).resolve_left λ q=>e q.symm),h2 x e];rfl
theorem yd(hn:names ext=[])(h:∀p n,Ent.save p n∉ext):U sz (log++ext)=U sz log:=by
 unfold U;rw[aG,hn,List.append_nil];exact congrArg List.sum (List.map_congr_left λ n _=>jI λ p=>h p n)
theorem oW(hD:(names log).Nodup){p:Nat}{n:Str}(hp:p<sz)(hn:n∈names log)(hs:Ent.save p n∉log):U sz (log++aJ ps p n)+1=U sz log:=by
 unfold U;rw[aG,bw,List.append_nil];exact v9 hD hn (Ae hp hs (λ q=>q (List.mem_append_right _ List.mem_cons_self)) λ x hx=>not_congr ⟨λ q=>(List.mem_append.1 q).resolve_right λ z=>hx (b8.1 z).1,List.mem_append_left _⟩) λ m hm=>jI λ p' q=>hm (b8.1 q).2
theorem j1(hnd:ps.Nodup)(hA:∀c,(bZ c log).length<=(outs c log).length)(p:Nat)(n:Str)(d:Ch):(ai (log++aJ ps p n) d).length<=(ai log d).length+1:=by
 rw[bV (hA d) (ba ..),List.length_append,dp hnd];refine Nat.add_le_add_left ?_ _;split
 ·exact Nat.le_refl _
 ·exact Nat.zero_le _
theorem vp(hA:∀c,(bZ c log).length<=(outs c log).length)(c d:Ch)(m:Msg):(ai (log++[.inn c m]) d).length<=(ai log d).length:=by
 rw[dK (hA d)];exact Nat.le_trans (List.drop_sublist _ _).length_le (Nat.le_of_eq (congrArg List.length (List.append_nil _)))
theorem vq(hA:∀c,(bZ c log).length<=(outs c log).length){c:Ch}{m:Msg}{r:List Msg}(hq:ai log c=m::r):(ai (log++[.inn c m]) c).length+1=(ai log c).length:=by
 rw[dK (hA c),fV,if_pos rfl,hq];exact congrArg (λ l:List Msg=>l.length+1) (List.append_nil r)
theorem jZ(hnd:ps.Nodup)(hz:∀c∈ps,c.1<sz/\c.2<sz)(I:Inv sz ps log){c:Ch}{l:List Ent}(h:Nx ps log (.recv c) l)(hc:c∈ps)(hq:ai log c≠[]) :
  U sz l<=U sz log/\(ai l c).length+U sz l+1<=(ai log c).length+U sz log/\(∀d,(ai l d).length+U sz l<=(ai log d).length+U sz log)/\names l=names log:=by
 cases h with
 |same h=>exact absurd (h c rfl hc) hq
 |inn hc hq h=>
  rw[yd rfl λ _ _=>cX];exact⟨Nat.le_refl _,Nat.le_of_eq ((Nat.add_right_comm ..).trans (congrArg (· + _) (vq I.le hq))),λ d=>Nat.add_le_add_right (vp I.le c d _) _,(aG ..).trans (List.append_nil _)⟩
 |mrk hc hq h=>
  have J:=od hnd I hc (hz c hc).2 hq;have hin:=I.mkn c _ (gV.1 (by rw[I.gv c,hq];exact List.mem_append_right _ List.mem_cons_self));rw[yd rfl λ _ _=>cX,<-oW (ps:=ps) I.nod (hz c hc).2 hin h];refine⟨Nat.le_succ _,Nat.succ_le_succ (Nat.add_le_add_right (Nat.le_of_succ_le_succ (Nat.le_trans (Nat.le_of_eq (vq J.le (gu I hq))) (j1 hnd I.le _ _ c))) _),λ d=>?_,by rw[aG,aG,bw];exact(List.append_nil _).trans (List.append_nil _)⟩;exact Nat.le_trans (Nat.add_le_add_right (Nat.le_trans (vp J.le c d _) (j1 hnd I.le _ _ d)) _) (Nat.le_of_eq (Nat.succ_add ..))
theorem tC(hnd:ps.Nodup)(hz:∀c∈ps,c.1<sz/\c.2<sz)(h3:sz<=3)(I:Inv sz ps log){e:Evt}{l:List Ent}(hE:d5 sz places e)(hx:Nx ps log e l){N:Nat}(h:∀c∈ps,(ai log c).length+U sz log<=N+2*(names log).length) :
  ∀c∈ps,(ai l c).length+U sz l<=N+1+2*(names l).length:=by
 have up:∀{a b},a<=b+2*(names log).length->a<=b+1+2*(names log).length:=λ h=>Nat.le_trans h (Nat.add_le_add_right (Nat.le_succ _) _);intro d hd;cases hx with
 |same=>exact up (h d hd)
 |snap hn=>
  rename_i p n;have hno:∀x,Ent.save x n∉log++[.snap p n]:=λ x=>dv (λ q=>hn (I.svn x n q).1) (gH λ h=>by cases h);have hnm:names (log++[Ent.snap p n])=names log++[n]:=aG ..;have hA:∀c,(bZ c (log++[Ent.snap p n])).length<=(outs c (log++[Ent.snap p n])).length:=λ c=>by
   rw[cj,cG];exact(List.append_nil (bZ c log)).symm▸(List.append_nil (outs c log)).symm▸I.le c
  have hD:(names (log++[Ent.snap p n])).Nodup:=hnm.symm▸Ba I.nod hn;have hU:=oW (ps:=ps) hD hE.1 (hnm.symm▸List.mem_append_right _ List.mem_cons_self) (hno p);have hU2:U sz (log++[Ent.snap p n])=U sz log+sz:=by
   unfold U;rw[hnm,List.map_append,List.sum_append,show(names log).map (yr sz (log++[.snap p n]))=(names log).map (yr sz log) from List.map_congr_left λ m _=>jI λ p=>gH λ h=>by cases h];exact congrArg (_ + ·) (Af hno)
  have hq:=j1 hnd hA p n d;rw[show ai (log++[Ent.snap p n]) d=ai log d from(bV (I.le d) rfl).trans (List.append_nil _)] at hq;have:=h d hd;rw[aG,bw,List.append_nil,hnm,List.length_append];simp only[List.length_singleton];omega
 |send hc=>
  rename_i c v;rw[aG,show names [Ent.out c (.pay v)]=[] from rfl,List.append_nil,show U sz (log++[.out c (.pay v)])=U sz log from yd rfl λ _ _=>gH λ h=>(by cases h),bV (I.le d) rfl,List.length_append,Nat.add_right_comm,Nat.add_right_comm N];exact Nat.add_le_add (h d hd) (List.length_filterMap_le _ _)
 |inn hc hq hm=>
  have z:=jZ hnd hz I (.inn hc hq hm) hc (hq▸List.cons_ne_nil _ _);rw[z.2.2.2];exact up (Nat.le_trans (z.2.2.1 d) (h d hd))
 |mrk hc hq hm=>
  have z:=jZ hnd hz I (.mrk hc hq hm) hc (hq▸List.cons_ne_nil _ _);rw[z.2.2.2];exact up (Nat.le_trans (z.2.2.1 d) (h d hd))
end Mine.Internal.Q.L3
end
section
namespace Mine.Internal.Q.L3
open PySem Classical Mine.Internal.L3
variable{ps places:List Ch}{starts:List Int}{log:List Ent}
noncomputable def gr(ps:List Ch)(starts:List Int)(log:List Ent)(es:List Evt):List Ent:=es.foldl (λ l e=>(aR ps starts l e).2) log
theorem wy:gr ps starts log []=log:=rfl
theorem gR(e:Evt)(es:List Evt):gr ps starts log (e::es)=gr ps starts (aR ps starts log e).2 es:=rfl
theorem jW(es es':List Evt):gr ps starts log (es++es')=gr ps starts (gr ps starts log es) es':=List.foldl_append
theorem jV(hnd:ps.Nodup)(hz:∀c∈ps,c.1<starts.length/\c.2<starts.length)(I:Inv starts.length ps log)(es:List Evt)(hE:∀e∈es,d5 starts.length places e):Inv starts.length ps (gr ps starts log es):=by
 induction es generalizing log with
 |nil=>exact I
 |cons e r ih=>exact ih (kz hnd hz I (hE e List.mem_cons_self)) λ e' h'=>hE e' (List.mem_cons_of_mem _ h')
theorem wz(es:List Evt):(gr ps starts log es).length<=log.length+es.length*(ps.length+2):=by
 induction es generalizing log with
 |nil=>exact Nat.le_add_right ..
 |cons e r ih=>
  refine Nat.le_trans ih (Nat.le_trans (Nat.add_le_add_right (so (ps:=ps) (starts:=starts) (log:=log) e) _) (Nat.le_of_eq ?_));rw[List.length_cons,Nat.succ_mul,Nat.add_assoc,Nat.add_comm (ps.length+2)]
theorem j0{c:Ch}(h:ai log c=[]):(aR ps starts log (.recv c)).2=log:=by
 have q:=lX (ps:=ps) (starts:=starts) (log:=log) (.recv c);generalize (aR ps starts log (.recv c)).2=l at q;cases q with
 |same=>rfl
 |inn _ hq=>cases h.symm.trans hq
 |mrk _ hq=>cases h.symm.trans hq
theorem yJ(h:∀c∈ps,ai log c=[])(rest:List Ch)(hr:∀c∈rest,c∈ps):gr ps starts log (rest.map .recv)=log:=by
 induction rest with
 |nil=>rfl
 |cons c r ih=>
  rw[List.map_cons,gR,j0 (h c (hr c List.mem_cons_self))];exact ih λ d hd=>hr d (List.mem_cons_of_mem _ hd)
theorem round(hnd:ps.Nodup)(hz:∀c∈ps,c.1<starts.length/\c.2<starts.length)(N:Nat)(rest:List Ch):∀(done:List Ch) (log:List Ent),(∀d∈ps,d∈done\/d∈rest)->(∀d∈rest,d∈ps)->Inv starts.length ps log->U starts.length log<N->
  (∀d∈ps,(ai log d).length+U starts.length log<=N)->(∀d∈done,(ai log d).length+U starts.length log+1<=N)->∀d∈ps,(ai (gr ps starts log (rest.map .recv)) d).length+U starts.length (gr ps starts log (rest.map .recv))+1<=N:=by
 induction rest with
 |nil=>exact λ done log h1 _ _ _ _ h6 d hd=>h6 d ((h1 d hd).resolve_right List.not_mem_nil)
 |cons c r ih=>
  intro done log h1 h2 I hU h5 h6;rw[List.map_cons,gR];have hc:c∈ps:=h2 c List.mem_cons_self;have J:=kz (places:=ps) hnd hz I (show d5 starts.length ps (.recv c) from hc);have hD:∀d∈ps,d∈c::done\/d∈r:=λ d hd=>(h1 d hd).elim (λ q=>.inl (List.mem_cons_of_mem _ q)) λ q=>(List.mem_cons.1 q).elim (λ z=>.inl (z▸List.mem_cons_self)) .inr;have hr:∀d∈r,d∈ps:=λ d hd=>h2 d (List.mem_cons_of_mem _ hd);by_cases hq:ai log c=[]
  ·rw[j0 hq] at J ⊢;exact ih (c::done) _ hD hr J hU h5 λ d hd=>(List.mem_cons.1 hd).elim (λ e=>by rw[e,hq];exact(Nat.zero_add (U starts.length log)).symm▸hU) (h6 d)
  ·have z:=jZ hnd hz I (lX (starts:=starts) (.recv c)) hc hq;exact ih (c::done) _ hD hr J (Nat.lt_of_le_of_lt z.1 hU) (λ d hd=>Nat.le_trans (z.2.2.1 d) (h5 d hd)) λ d hd=>(List.mem_cons.1 hd).elim (λ e=>by rw[e];exact Nat.le_trans z.2.1 (h5 c hc)) λ q=>Nat.le_trans (Nat.succ_le_succ (z.2.2.1 d)) (h6 d q)
theorem rounds(hnd:ps.Nodup)(hz:∀c∈ps,c.1<starts.length/\c.2<starts.length)(k:Nat):∀(N:Nat) (log:List Ent),Inv starts.length ps log->(∀c∈ps,(ai log c).length+U starts.length log<=N)->N<=k->
  ∀c∈ps,ai (gr ps starts log (times (ps.map Evt.recv) k)) c=[]:=by
 induction k with
 |zero=>exact λ N log I h hN c hc=>List.eq_nil_of_length_eq_zero (Nat.le_zero.1 (Nat.le_trans (Nat.le_add_right ..) (Nat.le_trans (h c hc) hN)))
 |succ k ih=>
  intro N log I h hN;rw[times,jW];have J:Inv starts.length ps (gr ps starts log (ps.map .recv)):=jV (places:=ps) hnd hz I _ λ e he=>(List.mem_map.1 he).elim λ c hc=>hc.2▸hc.1;by_cases hU:U starts.length log<N
  ·cases N with
   |zero=>exact absurd hU (Nat.not_lt_zero _)
   |succ N=>exact ih N _ J (λ c hc=>Nat.le_of_succ_le_succ (round hnd hz (N+1) ps [] log (λ d hd=>.inr hd) (λ d hd=>hd) I hU h (λ _ h=>by cases h) c hc)) (Nat.le_of_succ_le_succ hN)
  ·have he:∀c∈ps,ai log c=[]:=λ c hc=>List.eq_nil_of_length_eq_zero (Nat.le_zero.1 (Nat.le_of_add_le_add_right (Nat.le_trans (h c hc) (Nat.le_trans (Nat.le_of_not_lt hU) (Nat.le_of_eq (Nat.zero_add _).symm)))));have es:∀k,gr ps starts log (times (ps.map Evt.recv) k)=log:=λ k=>by
    induction k with
    |zero=>rfl
    |succ k ih=>rw[times,jW,yJ he ps λ _ h=>h];exact ih
   rw[yJ he ps λ _ h=>h,es];exact he
theorem pe(hnd:ps.Nodup)(hz:∀c∈ps,c.1<starts.length/\c.2<starts.length)(h3:starts.length<=3)(es:List Evt):∀(N:Nat) (log:List Ent),Inv starts.length ps log->(∀e∈es,d5 starts.length places e)->(∀c∈ps,(ai log c).length+U starts.length log<=N+2*(names log).length)->
  ∀c∈ps,(ai (gr ps starts log es) c).length+U starts.length (gr ps starts log es)<=N+es.length+2*(names (gr ps starts log es)).length:=by
 induction es with
 |nil=>exact λ N log _ _ h=>h
 |cons e r ih=>
  intro N log I hE h c hc;rw[List.length_cons,Nat.add_comm r.length,<-Nat.add_assoc];exact ih (N+1) _ (kz hnd hz I (hE e List.mem_cons_self)) (λ e' h'=>hE e' (List.mem_cons_of_mem _ h')) (tC hnd hz h3 I (hE e List.mem_cons_self) (lX e) h) c hc
theorem drained(hnd:ps.Nodup)(hz:∀c∈ps,c.1<starts.length/\c.2<starts.length)(h3:starts.length<=3)(es:List Evt)(hE:∀e∈es,d5 starts.length places e)(h8:es.length<=8) :
  ∀c∈ps,ai (gr ps starts [] (es++times (ps.map .recv) 12)) c=[]:=by
 rw[jW];have I0:=mS starts.length ps;have I:=jV hnd hz I0 es hE;exact rounds hnd hz 12 12 _ I (λ c hc=>Nat.le_trans (pe hnd hz h3 es 0 [] I0 hE (λ c hc=>Nat.le_refl 0) c hc) (Nat.add_le_add (Nat.le_trans (Nat.le_of_eq (Nat.zero_add _)) h8) (Nat.mul_le_mul_left 2 (qt I.nod I.two)))) (Nat.le_refl _)
end Mine.Internal.Q.L3
end
section
namespace Mine.Internal.Q.L3
open PySem Classical Mine.Internal.L3
variable{cut:List Nat}
theorem lF(g:List HEv)(e:HEv)(p k:Nat):iZ (g++[e]) p k=iZ g p k++(if aC e=p/\bD g p+1<=k then [e] else []):=by
 delta iZ bD;rw[List.filter_append,List.take_append];refine congrArg _ ?_;by_cases h:aC e=p
 ·rw[show List.filter (λ x=>decide (aC x=p)) [e]=[e] from List.filter_cons_of_pos (decide_eq_true h)];by_cases q:(g.filter λ x=>decide (aC x=p)).length+1<=k
  ·rw[if_pos ⟨h,q⟩];exact List.take_of_length_le (Nat.le_sub_of_add_le (Nat.add_comm 1 _▸q))
  ·rw[if_neg (λ z=>q z.2),Nat.sub_eq_zero_of_le (Nat.le_of_lt_succ (Nat.not_le.mp q))];rfl
 ·rw[if_neg (λ z=>h z.1),show List.filter (λ x=>decide (aC x=p)) [e]=[] from List.filter_cons_of_neg (λ z=>h (of_decide_eq_true z))];exact List.take_nil
theorem fS(h:List HEv)(cut:List Nat)(c:Ch):jb h cut c=bQ h cut c:=by
 induction h using snoc_ind with
 |h0=>simp[jb,bQ,iZ]
 |h1 g e ih=>
  rw[bX,ih];unfold bQ;rw[lF,List.filterMap_append];congr 1;obtain⟨d,x⟩:=e;cases x with
  |none=>
   by_cases q:aC (d,none)=c.1/\bD g c.1+1<=cut.getD c.1 0
   ·rw[if_pos q];have:fk c.2 (d,none)=none:=by simp[fk]
    simp[List.filterMap_cons,this]
   ·rw[if_neg q];simp
  |some v=>
   by_cases e1:d.1=c.1
   ·by_cases q:bD g c.1+1<=cut.getD c.1 0
    ·have q':aC (d,some v)=c.1/\bD g c.1+1<=cut.getD c.1 0:=⟨e1,q⟩;rw[if_pos q'];by_cases e2:d.2=c.2
     ·have hd:d=c:=Prod.ext e1 e2;subst hd;have n1:((d,some v).1=d/\isIn cut g (d,some v)):=⟨rfl,q⟩;rw[if_pos n1];simp[List.filterMap_cons,fk]
     ·have n1:¬((d,some v).1=c/\isIn cut g (d,some v)):=λ z=>e2 (by rw[<-z.1]);rw[if_neg n1];simp[List.filterMap_cons,fk,e2]
    ·have n2:¬(aC (d,some v)=c.1/\bD g c.1+1<=cut.getD c.1 0):=λ z=>q z.2;rw[if_neg n2];have n1:¬((d,some v).1=c/\isIn cut g (d,some v)):=λ z=>q (by have:=z.2;unfold isIn at this;rw[show aC (d,some v)=c.1 from e1] at this;exact this);rw[if_neg n1];rfl
   ·have n1:¬((d,some v).1=c/\isIn cut g (d,some v)):=λ z=>e1 (by rw[<-z.1]);rw[if_neg n1,if_neg (λ z=>e1 z.1)];rfl
theorem fU(h:List HEv)(cut:List Nat)(c:Ch):jx h cut c=(bg h cut c).length:=by
 induction h using snoc_ind with
 |h0=>simp[jx,bg,iZ]
 |h1 g e ih=>
  rw[bY,ih];unfold bg;rw[lF,List.filterMap_append,List.length_append];congr 1;obtain⟨d,x⟩:=e;cases x with
  |some v=>
   have n1:¬((d,some v)=(c,none)/\isIn cut g (d,some v)):=λ z=>by have:=(Prod.mk.inj z.1).2;cases this
   rw[if_neg n1];by_cases q:aC (d,some v)=c.2/\bD g c.2+1<=cut.getD c.2 0
   ·rw[if_pos q];have:dU c.1 (d,some v)=none:=by rfl
    rfl
   ·rw[if_neg q];rfl
  |none=>
   by_cases e1:d.2=c.2
   ·by_cases q:bD g c.2+1<=cut.getD c.2 0
    ·have q':aC (d,none)=c.2/\bD g c.2+1<=cut.getD c.2 0:=⟨e1,q⟩;rw[if_pos q'];by_cases e2:d.1=c.1
     ·have hd:d=c:=Prod.ext e2 e1;subst hd;have n1:((d,(none:Option Int))=(d,none)/\isIn cut g (d,none)):=⟨rfl,q⟩;rw[if_pos n1];simp[List.filterMap_cons,dU]
     ·have n1:¬((d,(none:Option Int))=(c,none)/\isIn cut g (d,none)):=λ z=>e2 (by rw[(Prod.mk.inj z.1).1]);rw[if_neg n1];simp[List.filterMap_cons,dU,e2]
    ·have n2:¬(aC (d,none)=c.2/\bD g c.2+1<=cut.getD c.2 0):=λ z=>q z.2;rw[if_neg n2];have n1:¬((d,(none:Option Int))=(c,none)/\isIn cut g (d,none)):=λ z=>q (by have:=z.2;unfold isIn at this;rw[show aC (d,none)=c.2 from e1] at this;exact this);rw[if_neg n1];rfl
   ·have n1:¬((d,(none:Option Int))=(c,none)/\isIn cut g (d,none)):=λ z=>e1 (by rw[(Prod.mk.inj z.1).1]);rw[if_neg n1,if_neg (λ z=>e1 z.1)];rfl
theorem ml(g:List HEv)(c:Ch)(h:bD g c.1<=cut.getD c.1 0):(jb g cut c).length=(av g c).length:=by
 induction g using snoc_ind with
 |h0=>rfl
 |h1 g e ih=>
  rw[bB] at h;rw[bX,a9,List.length_append,List.length_append,ih (Nat.le_trans (Nat.le_add_right _ _) h)];refine congrArg _ ?_;obtain⟨d,x⟩:=e;by_cases e1:d=c
  ·subst e1;cases x with
   |none=>
    rw[if_neg (c:=(d,none).1=d/\(d,(none:Option Int)).2≠none) (λ z=>z.2 rfl)];split<;>rfl
   |some v=>
    rw[show(if aC (d,some v)=d.1 then 1 else 0)=1 from if_pos rfl] at h;rw[if_pos ⟨rfl,h⟩,if_pos ⟨rfl,λ z=>by cases z⟩];rfl
  ·rw[if_neg (λ z=>e1 z.1),if_neg (λ z=>e1 z.1)];rfl
theorem sM(g:List HEv)(c:Ch)(h:bD g c.2<=cut.getD c.2 0):jx g cut c=b6 g c:=by
 induction g using snoc_ind with
 |h0=>rfl
 |h1 g e ih=>
  rw[bB] at h;rw[bY,cM,ih (Nat.le_trans (Nat.le_add_right _ _) h)];by_cases e1:e=(c,none)
  ·subst e1;rw[show(if aC (c,none)=c.2 then 1 else 0)=1 from if_pos rfl] at h;rw[if_pos ⟨rfl,h⟩,if_pos rfl]
  ·rw[if_neg (λ z=>e1 z.1),if_neg e1]
theorem l6(g post:List HEv)(p:Nat):bD g p<=bD (g++post) p:=by
 unfold bD;rw[List.filter_append,List.length_append];exact Nat.le_add_right _ _
theorem nU(g post:List HEv)(c:Ch)(h:cut.getD c.1 0<=bD g c.1):jb (g++post) cut c=jb g cut c:=by
 induction post using snoc_ind with
 |h0=>simp
 |h1 r e ih=>
  rw[<-List.append_assoc,bX,ih];have hm:=l6 g r c.1;obtain⟨d,x⟩:=e;cases x with
  |none=>split<;>exact List.append_nil _
  |some v=>
   have n1:¬((d,some v).1=c/\isIn cut (g++r) (d,some v)):=fun⟨z1,z⟩=>by
    have z1:d=c:=z1;subst z1;exact Nat.not_succ_le_self _ (Nat.le_trans z (Nat.le_trans h hm))
   rw[if_neg n1,List.append_nil]
theorem lN(g post:List HEv)(c:Ch):(jb g cut c).length<=(jb (g++post) cut c).length:=by
 induction post using snoc_ind with
 |h0=>simp
 |h1 r e ih=>
  rw[<-List.append_assoc,bX,List.length_append];exact Nat.le_trans ih (Nat.le_add_right _ _)
theorem lP(g post:List HEv)(c:Ch):jx g cut c<=jx (g++post) cut c:=by
 induction post using snoc_ind with
 |h0=>simp
 |h1 r e ih=>
  rw[<-List.append_assoc,bY];exact Nat.le_trans ih (Nat.le_add_right _ _)
theorem mU(g:List HEv)(c:Ch):jx g cut c<=b6 g c:=by
 induction g using snoc_ind with
 |h0=>exact Nat.le_refl _
 |h1 g e ih=>
  rw[bY,cM];by_cases e1:e=(c,none)
  ·rw[if_pos e1];split<;>(first | exact Nat.le_succ_of_le ‹_› | exact Nat.lt_succ_of_le ‹_›)
  ·rw[if_neg e1,if_neg (λ z=>e1 z.1)];assumption
theorem ti{h g post:List HEv}(hv:Valid h)(hs:h=g++post)(c:Ch):b6 g c<=(av g c).length:=by
 subst hs
 induction g using snoc_ind generalizing post with
 |h0=>exact Nat.le_refl _
 |h1 g e ih=>
  have ih:=ih (post:=e::post) (by simpa using hv);rw[cM,a9,List.length_append];by_cases e1:e=(c,none)
  ·subst e1;have:=hv g c post (by exact List.append_assoc _ _ _);rw[if_pos rfl];lia
  ·rw[if_neg e1];lia
theorem qK(g:List HEv)(c:Ch)(i:Nat)(hi:i<(av g c).length):∃gj v post,g=gj++(c,some v)::post/\gj.length=(av g c)[i]/\(av gj c).length=i:=by
 induction g using snoc_ind with
 |h0=>simp[av] at hi
 |h1 g e ih=>
  by_cases h:i<(av g c).length
  ·obtain⟨gj,v,post,h1,h2,h3⟩:=ih h;refine⟨gj,v,post++[e],by rw[h1];simp,?_,h3⟩;rw[h2];have:(av (g++[e]) c)[i]?=(av g c)[i]?:=by rw[a9,List.getElem?_append_left h]
   rw[List.getElem?_eq_getElem h,List.getElem?_eq_getElem hi] at this;exact(Option.some.inj this).symm
  ·have hs:=a9 g e c;by_cases q:e.1=c/\e.2≠none
   ·rw[if_pos q] at hs;have hl:(av (g++[e]) c).length=(av g c).length+1:=by rw[hs];simp
    have hi':i=(av g c).length:=by lia
    obtain⟨d,x⟩:=e;cases x with
    |none=>exact absurd rfl q.2
    |some v=>
     obtain rfl:d=c:=q.1;refine⟨g,v,[],rfl,?_,hi'.symm⟩;have:(av (g++[(d,some v)]) d)[i]?=some g.length:=by
      rw[hs,hi'];simp
     rw[List.getElem?_eq_getElem hi] at this;exact(Option.some.inj this).symm
   ·rw[if_neg q,List.append_nil] at hs;exfalso;rw[hs] at hi;exact h hi
theorem xh(g:List HEv)(c:Ch):(jb g cut c).length<=(av g c).length:=by
 induction g using snoc_ind with
 |h0=>exact Nat.le_refl _
 |h1 g e ih=>
  rw[bX,a9,List.length_append,List.length_append];refine Nat.add_le_add ih ?_;obtain⟨d,x⟩:=e;by_cases q:(d,x).1=c/\isIn cut g (d,x)
  ·rw[if_pos q];cases x with
   |none=>exact Nat.zero_le _
   |some w=>rw[if_pos ⟨q.1,λ z=>by cases z⟩];exact Nat.le_refl _
  ·rw[if_neg q];exact Nat.zero_le _
theorem g6{h:List HEv}(hv:Valid h)(cut:List Nat):Cons h cut↔∀c,jx h cut c<=(jb h cut c).length:=by
 constructor
 ·intro hC c;have gen:∀(g post:List HEv),h=g++post->jx g cut c<=(jb g cut c).length:=by
   intro g
   induction g using snoc_ind with
   |h0=>intro post _;exact Nat.le_refl _
   |h1 g e ih=>
    intro post hs;have hs':h=g++e::post:=by rw[hs];simp
    have ih:=ih (e::post) hs';rw[bY];by_cases q:e=(c,none)/\isIn cut g e
    ·rw[if_pos q];obtain⟨rfl,qi⟩:=q;have hlt:=hv g c post hs';obtain⟨gj,v,pj,h1,h2,h3⟩:=qK g c (b6 g c) hlt;have hk:g.length∈splitOf h cut:=(bx h g post (c,none) cut hs').2 qi;have hpred:(av g c)[b6 g c]∈dC h g.length:=by
      unfold dC;have:(a7 h)[g.length]?=some (aW g (c,none)):=by
       rw[dT,hs'];simp
      rw[this];simp[aW,hlt]
     have hj:=hC _ hk _ hpred;rw[<-h2,bx h gj (pj++(c,none)::post) (c,some v) cut (by rw[hs',h1];simp)] at hj;have hall:=ml (cut:=cut) (gj++[(c,some v)]) c (by
      rw[bB];unfold isIn at hj;rw[show aC (c,some v)=c.1 from rfl] at hj ⊢;simpa using hj)
     rw[a9,if_pos ⟨rfl,by simp⟩,List.length_append,h3] at hall;have hm:=lN (cut:=cut) (gj++[(c,some v)]) (pj++[(c,none)]) c;have e2:gj++[(c,some v)]++(pj++[(c,none)])=g++[(c,none)]:=by rw[h1];simp
     rw[e2] at hm;have:=mU (cut:=cut) g c;simp only[List.length_singleton] at hall;lia
    ·rw[if_neg q];have:=lN (cut:=cut) g [e] c;exact Nat.le_trans ‹_› ‹_›
  exact gen h [] (by simp)
 ·intro hI k hk j hj;have hkl:=e9 hk;obtain⟨e,he⟩:∃e,h[k]?=some e:=⟨_,List.getElem?_eq_getElem hkl⟩;have hs:h=h.take k++e::h.drop (k+1):=by
   conv=>lhs;rw[<-List.take_append_drop k h]
   rw[List.drop_eq_getElem_cons hkl];congr 2;rw[List.getElem?_eq_getElem hkl] at he;exact Option.some.inj he
  have hgl:(h.take k).length=k:=by rw[List.length_take];lia
  have hkin:=(bx h _ _ e cut hs);rw[hgl] at hkin;have qi:=hkin.1 hk;have hlk:dC h k=(aW (h.take k) e).2:=by
   unfold dC;rw[dT,he];rfl
  rw[hlk] at hj;generalize h.take k=g at *;generalize h.drop (k+1)=post at *;simp only[aW,List.mem_append] at hj;rcases hj with hj | hj
  ·-- the event before,of the same process
   rw[Option.mem_toList] at hj;have last:∀(g:List HEv) (p j:Nat),bz g p=some j->∃gj x pj,g=gj++x::pj/\gj.length=j/\aC x=p:=by
    intro g p
    induction g using snoc_ind with
    |h0=>intro j hj;simp[bz] at hj
    |h1 g x ih=>
     intro j hj;rw[cU] at hj;by_cases q:aC x=p
     ·rw[if_pos q] at hj;exact⟨g,x,[],rfl,Option.some.inj hj,q⟩
     ·rw[if_neg q] at hj;obtain⟨gj,y,pj,h1,h2,h3⟩:=ih j hj;exact⟨gj,y,pj++[x],by rw[h1];simp,h2,h3⟩
   obtain⟨gj,x,pj,h1,h2,h3⟩:=last g _ j hj;rw[<-h2,bx h gj (pj++e::post) x cut (by rw[hs,h1];simp)];unfold isIn at qi ⊢;rw[h3];have:=l6 gj (x::pj) (aC e);rw[<-h1] at this;exact Nat.lt_of_le_of_lt ‹_› ‹_›
  ·obtain⟨c,x⟩:=e;cases x with
   |some v=>simp at hj
   |none=>
    simp only[List.mem_singleton] at hj;have hlt:=hv g c post hs;obtain⟨gj,v,pj,h1,h2,h3⟩:=qK g c (b6 g c) hlt;have hj':j=gj.length:=by rw[h2,hj];simp[hlt]
    rw[hj',bx h gj (pj++(c,none)::post) (c,some v) cut (by rw[hs,h1];simp)];by_cases hin:isIn cut gj (c,some v)
    ·exact hin
    ·exfalso;have hno:=nU (cut:=cut) gj ((c,some v)::(pj++(c,none)::post)) c (by
      unfold isIn at hin;rw[show aC (c,some v)=c.1 from rfl] at hin;exact Nat.not_lt.mp ‹_›)
     have e1:gj++(c,some v)::(pj++(c,none)::post)=h:=by rw[hs,h1];simp
     rw[e1] at hno;have a1:=hI c;rw[hno] at a1;have a2:=xh (cut:=cut) gj c;have a3:=sM (cut:=cut) (g++[(c,none)]) c (by
      rw[bB];unfold isIn at qi;rw[show aC (c,none)=c.2 from rfl] at qi ⊢;simpa using qi)
     rw[cM,if_pos rfl] at a3;have a4:=lP (cut:=cut) (g++[(c,none)]) post c;have e2:g++[(c,none)]++post=h:=by rw[hs];simp
     rw[e2] at a4;lia
theorem eT{h:List HEv}(hv:Valid h){cut:List Nat}(hC:Cons h cut)(g post:List HEv)(c:Ch)(hs:h=g++post):jx g cut c<=(jb g cut c).length:=by
 by_cases q:bD g c.1<=cut.getD c.1 0
 ·rw[ml g c q];exact Nat.le_trans (mU g c) (ti hv hs c)
 ·have:=nU (cut:=cut) g post c (by lia);rw[<-hs] at this;rw[<-this];have h1:=(g6 hv cut).1 hC c;have h2:=lP (cut:=cut) g post c;rw[<-hs] at h2;exact Nat.le_trans ‹_› ‹_›
end Mine.Internal.Q.L3
end
section
namespace Mine.Internal.Q.L3
open PySem Classical Mine.Internal.L3
variable{h:List HEv}{cut:List Nat}
theorem dg{m:Nat}{e:HEv}(he:h[m]?=some e):h=h.take m++e::h.drop (m+1)/\(h.take m).length=m:=by
 have hlt:=az he;refine⟨?_,by rw[List.length_take];exact Nat.min_eq_left (Nat.le_of_lt ‹_›)⟩
 conv=>lhs;rw[<-List.take_append_drop m h]
 rw[List.drop_eq_getElem_cons hlt];congr 2;rw[List.getElem?_eq_getElem hlt] at he;exact Option.some.inj he
theorem fm{m:Nat}{e:HEv}(he:h[m]?=some e):a6 h cut (m+1)=if isIn cut (h.take m) e/\∀j∈(aW (h.take m) e).2,j∈a6 h cut m then a6 h cut m++[m] else a6 h cut m:=by
 conv=>lhs;unfold a6
 rw[he]
theorem good_mono{k m m':Nat}(hm:m<=m')(hk:k∈a6 h cut m):k∈a6 h cut m':=by
 induction m' with
 |zero=>cases Nat.le_zero.1 hm;exact hk
 |succ m' ih=>
  by_cases e:m=m'+1
  ·rw[<-e];exact hk
  ·have:=ih (by exact Nat.le_of_lt_succ (Nat.lt_of_le_of_ne ‹_› ‹_›));unfold a6;cases he:h[m']? with
   |none=>exact this
   |some x=>
    simp only;split
    ·exact List.mem_append_left _ ‹_›
    ·exact this
theorem iC{k m:Nat}(hk:k∈a6 h cut m):k∈a6 h cut (k+1):=by
 induction m with
 |zero=>simp[a6] at hk
 |succ m ih=>
  have hlt:=iB hk;by_cases e:k=m
  ·rw[e] at hk ⊢;exact hk
  ·apply ih;unfold a6 at hk;cases he:h[m]? with
   |none=>rw[he] at hk;exact hk
   |some x=>
    rw[he] at hk;simp only at hk;split at hk
    ·rcases List.mem_append.1 hk with q | q
     ·exact q
     ·exact absurd (by simpa using q) e
    ·exact hk
noncomputable def Gd(h:List HEv)(cut:List Nat)(k:Nat):Prop:=k∈a6 h cut h.length
theorem Bj{k:Nat}(hk:Gd h cut k):k<h.length:=iB hk
theorem pred_lt(hv:Valid h){g post:List HEv}{e:HEv}(hs:h=g++e::post){j:Nat}(hj:j∈(aW g e).2):j<g.length:=by
 have sl:∀c,∀j∈av g c,j<g.length:=by
  intro c j hj;unfold av at hj;rw[List.mem_filterMap] at hj;obtain⟨x,h1,h2⟩:=hj;have:=List.mem_zipIdx h1;split at h2
  ·cases h2;lia
  ·cases h2
 have ll:∀p j,bz g p=some j->j<g.length:=by
  intro p j hj;unfold bz at hj;have:=List.mem_of_getLast? hj;rw[List.mem_filterMap] at this;obtain⟨x,h1,h2⟩:=this;have:=List.mem_zipIdx h1;split at h2
  ·cases h2;lia
  ·cases h2
 simp only[aW,List.mem_append] at hj;rcases hj with hj | hj
 ·rw[Option.mem_toList] at hj;exact ll _ _ hj
 ·obtain⟨c,x⟩:=e;cases x with
  |some v=>simp at hj
  |none=>
   simp only[List.mem_singleton] at hj;have hlt:=hv g c post hs;rw[hj];have:(av g c).getD (b6 g c) 0=(av g c)[b6 g c]:=by simp[hlt]
   rw[this];exact sl c _ (List.getElem_mem _)
theorem ot(hv:Valid h){g post:List HEv}{e:HEv}(hs:h=g++e::post):Gd h cut g.length↔isIn cut g e/\∀j∈(aW g e).2,Gd h cut j:=by
 have he:h[g.length]?=some e:=by rw[hs];simp
 have htk:h.take g.length=g:=by rw[hs];simp
 have hlt:=az he;have hsucc:=fm (cut:=cut) he;rw[htk] at hsucc;have dn:∀j,j<g.length->(Gd h cut j↔j∈a6 h cut g.length):=λ j hj=>
  ⟨λ q=>good_mono (by assumption) (iC q),λ q=>good_mono (by exact Nat.le_of_lt ‹_›) q⟩
 constructor
 ·intro q;have q:=iC q;rw[hsucc] at q;by_cases c:isIn cut g e/\∀j∈(aW g e).2,j∈a6 h cut g.length
  ·exact⟨c.1,λ j hj=>(dn j (pred_lt hv hs hj)).2 (c.2 j hj)⟩
  ·rw[if_neg c] at q;have:=iB q;exact absurd ‹_› (Nat.lt_irrefl _)
 ·rintro⟨c1,c2⟩;have:g.length∈a6 h cut (g.length+1):=by
   rw[hsucc,if_pos ⟨c1,λ j hj=>(dn j (pred_lt hv hs hj)).1 (c2 j hj)⟩];exact List.mem_append_right _ List.mem_cons_self
  exact good_mono (by assumption) this
theorem ee{m p:Nat}{e:HEv}(he:h[m]?=some e):dc h cut (m+1) p=dc h cut m p+if Gd h cut m/\aC e=p then 1 else 0:=by
 have hlt:=az he;have hd:(decide ((h[m]?).map aC=some p))=decide (aC e=p):=by rw[he];simp only[Option.map_some,Option.some.injEq]
 have hG:Gd h cut m↔(isIn cut (h.take m) e/\∀j∈(aW (h.take m) e).2,j∈a6 h cut m):=by
  constructor
  ·intro q;have q:=iC q;rw[fm he] at q;by_cases c:isIn cut (h.take m) e/\∀j∈(aW (h.take m) e).2,j∈a6 h cut m
   ·exact c
   ·rw[if_neg c] at q;have:=iB q;exact absurd ‹_› (Nat.lt_irrefl _)
  ·intro c;have:m∈a6 h cut (m+1):=by rw[fm he,if_pos c];exact List.mem_append_right _ List.mem_cons_self
   exact good_mono (by assumption) this
 unfold dc;rw[fm he];by_cases c:isIn cut (h.take m) e/\∀j∈(aW (h.take m) e).2,j∈a6 h cut m
 ·rw[if_pos c,List.filter_append,List.length_append];congr 1;simp only[List.filter_cons,List.filter_nil,hd];by_cases r:aC e=p
  ·have n:Gd h cut m/\aC e=p:=⟨hG.2 c,r⟩;rw[if_pos n];simp only[r,decide_true,if_true];rfl
  ·have n:¬(Gd h cut m/\aC e=p):=λ q=>r q.2;rw[if_neg n];simp only[r,decide_false];rfl
 ·rw[if_neg c,if_neg (λ q=>c (hG.1 q.1))];rfl
theorem vt(m p:Nat)(hm:m<=h.length):dc h cut m p<=bD (h.take m) p:=by
 induction m with
 |zero=>simp[dc,a6]
 |succ m ih=>
  have he:h[m]?=some (h[m]'(by assumption)):=List.getElem?_eq_getElem (by assumption);rw[ee he,d7 he,bB];have:=ih (by exact Nat.le_of_lt ‹_›);by_cases r:aC (h[m]'(by assumption))=p
  ·rw[if_pos r];split<;>(first | exact Nat.le_succ_of_le ‹_› | exact Nat.lt_succ_of_le ‹_›)
  ·rw[if_neg r,if_neg (λ q=>r q.2)];assumption
theorem t4{m m':Nat}(hm:m<=m')(hl:m'<=h.length)(p:Nat):dc h cut m p<=dc h cut m' p:=by
 induction m' with
 |zero=>cases Nat.le_zero.1 hm;exact Nat.le_refl _
 |succ m' ih=>
  by_cases e:m=m'+1
  ·rw[e];exact Nat.le_refl _
  ·have he:h[m']?=some (h[m']'(by assumption)):=List.getElem?_eq_getElem (by assumption);have:=ih (by exact Nat.le_of_lt_succ (Nat.lt_of_le_of_ne ‹_› ‹_›)) (by exact Nat.le_of_lt ‹_›);rw[ee he];exact Nat.le_trans ‹_› (Nat.le_add_right _ _)
theorem ub(g:List HEv)(p:Nat)(h0:0<bD g p):∃j gj x pj,bz g p=some j/\g=gj++x::pj/\gj.length=j/\aC x=p/\bD pj p=0:=by
 induction g using snoc_ind with
 |h0=>simp[bD] at h0
 |h1 g x ih=>
  by_cases q:aC x=p
  ·exact⟨g.length,g,x,[],by rw[cU,if_pos q],rfl,rfl,q,rfl⟩
  ·rw[bB,if_neg q] at h0;refine bC λ k9=>?_;obtain⟨j,gj,y,pj,h1,h2,h3,h4,h5⟩:=ih h0;refine k9 ?_;exact⟨j,gj,y,pj++[x],by rw[cU,if_neg q];exact h1,by rw[h2];simp,h3,h4,by rw[bB,if_neg q];exact h5⟩
theorem nT(hv:Valid h){m p:Nat}{e:HEv}(he:h[m]?=some e)(ho:aC e=p)(hn:¬Gd h cut m):∀k x,h[k]?=some x->aC x=p->m<=k->¬Gd h cut k:=by
 intro k
 induction k using Nat.strongRecOn with
 |ind k ih=>
  intro x hx hxo hmk hg;by_cases ek:k=m
  ·rw[ek] at hg;exact hn hg
  obtain⟨hs,hl⟩:=dg hx;obtain⟨hs',hl'⟩:=dg he;have hg':=(ot (cut:=cut) hv hs).1 (by rw[hl];exact hg);have hpos:0<bD (h.take k) p:=by
   have:h.take k=h.take m++e::(h.take k).drop (m+1):=by
    have a:(h.take k)[m]?=some e:=by rw[List.getElem?_take_of_lt (by lia)];exact he
    have:=(dg a).1;rw[List.take_take,Nat.min_eq_left (by assumption)] at this;exact this
   rw[this];unfold bD;rw[List.filter_append,List.filter_cons];simp[ho];exact Nat.le_add_left _ _
  obtain⟨j,gj,y,pj,h1,h2,h3,h4,h5⟩:=ub (h.take k) p hpos;have hjk:j<k:=by
   have:=congrArg List.length h2;rw[hl] at this;simp at this;lia
  have hjG:Gd h cut j:=hg'.2 j (by
   simp only[aW,hxo,List.mem_append];left;rw[h1];simp)
  have hjx:h[j]?=some y:=by
   have:(h.take k)[j]?=some y:=by rw[h2,<-h3];simp
   rw[List.getElem?_take_of_lt hjk] at this;exact this
  have hjm:m<=j:=by
   apply Classical.byContradiction;intro hlt;have hlt:j<m:=by exact Nat.not_le.mp ‹_›
   have a:(h.take k)[m]?=some e:=by rw[List.getElem?_take_of_lt (by lia)];exact he
   rw[h2,List.getElem?_append_right (by lia)] at a;have e2:m-gj.length=(m-gj.length-1)+1:=by lia
   rw[e2,List.getElem?_cons_succ] at a;have:e∈pj:=List.mem_of_getElem? a;have:0<bD pj p:=by
    unfold bD;apply List.length_pos_of_mem (a:=e);rw[List.mem_filter];exact⟨this,by simp[ho]⟩
   lia
  exact ih j hjk y hjx h4 hjm hjG
theorem t5(hv:Valid h){m p:Nat}(hm:m<=h.length):dc h cut m p=bD (h.take m) p\/∀k x,h[k]?=some x->aC x=p->m<=k->¬Gd h cut k:=by
 induction m with
 |zero=>left;rfl
 |succ m ih=>
  have he:h[m]?=some (h[m]'(by assumption)):=List.getElem?_eq_getElem (by assumption);generalize h[m]'(by assumption)=e at he;rcases ih (by exact Nat.le_of_lt ‹_›) with q | q
  ·by_cases r:aC e=p
   ·by_cases g:Gd h cut m
    ·left;rw[ee he,d7 he,bB,if_pos ⟨g,r⟩,if_pos r,q]
    ·right;intro k x hx hxo hk;exact nT hv he r g k x hx hxo (by exact Nat.le_of_lt ‹_›)
   ·left;rw[ee he,d7 he,bB,if_neg (λ z=>r z.2),if_neg r,q]
  ·right;intro k x hx hxo hk;exact q k x hx hxo (by exact Nat.le_of_lt ‹_›)
theorem t2{m p:Nat}(hm:m<=h.length)(hn:∀k x,h[k]?=some x->aC x=p->m<=k->¬Gd h cut k):dc h cut h.length p=dc h cut m p:=by
 have gen:∀d,m+d<=h.length->dc h cut (m+d) p=dc h cut m p:=by
  intro d
  induction d with
  |zero=>intro _;rfl
  |succ d ih=>
   intro hd;have he:h[m+d]?=some (h[m+d]'(by assumption)):=List.getElem?_eq_getElem (by assumption);rw[show m+(d+1)=(m+d)+1 by rfl,ee he,ih (by exact Nat.le_of_lt ‹_›),if_neg,Nat.add_zero];rintro⟨g,r⟩;exact hn _ _ he r (by exact Nat.le_add_right _ _) g
 have:=gen (h.length-m) (by lia);rwa [show m+(h.length-m)=h.length by exact Nat.add_sub_of_le ‹_›] at this
theorem oh(hv:Valid h){low:List Nat}{g post:List HEv}{e:HEv}(hs:h=g++e::post)(hlow:low.getD (aC e) 0=dc h cut h.length (aC e)):isIn low g e↔Gd h cut g.length:=by
 have he:h[g.length]?=some e:=by rw[hs];simp
 have htk:h.take g.length=g:=by rw[hs];simp
 have hlt:=az he;unfold isIn;rw[hlow];constructor
 ·intro q;apply Classical.byContradiction;intro hn;have h1:=t2 (cut:=cut) (m:=g.length) (p:=aC e) (by exact Nat.le_of_lt ‹_›) (nT hv he rfl hn);have h2:=vt (h:=h) (cut:=cut) g.length (aC e) (by exact Nat.le_of_lt ‹_›);rw[htk] at h2;lia
 ·intro q;rcases t5 (cut:=cut) hv (m:=g.length) (p:=aC e) (by exact Nat.le_of_lt ‹_›) with r | r
  ·have h1:=ee (cut:=cut) (p:=aC e) he;rw[if_pos ⟨q,rfl⟩,r,htk] at h1;have h2:=t4 (h:=h) (cut:=cut) (m:=g.length+1) (m':=h.length) (by assumption) (Nat.le_refl _) (aC e);lia
  ·exact absurd q (r _ _ he rfl (Nat.le_refl _))
theorem rq(h:List HEv)(p i:Nat)(hi:i<bD h p):∃g e post,h=g++e::post/\aC e=p/\bD g p=i:=by
 induction h using snoc_ind with
 |h0=>simp[bD] at hi
 |h1 g e ih=>
  by_cases q:i<bD g p
  ·obtain⟨g',e',post,h1,h2,h3⟩:=ih q;exact⟨g',e',post++[e],by rw[h1];simp,h2,h3⟩
  ·rw[bB] at hi;by_cases r:aC e=p
   ·rw[if_pos r] at hi;exact⟨g,e,[],rfl,r,by lia⟩
   ·rw[if_neg r] at hi;lia
variable{low:List Nat}
theorem t6(hv:Valid h)(hlow:∀e∈h,low.getD (aC e) 0=dc h cut h.length (aC e)):Cons h low:=by
 intro k hk j hj;have hkl:=e9 hk;have he:h[k]?=some h[k]:=List.getElem?_eq_getElem hkl;obtain⟨hs,hl⟩:=dg he;have hkG:=(oh (cut:=cut) hv hs (hlow _ (List.mem_of_getElem? he))).1 ((bx h _ _ _ low hs).1 (by rw[hl];exact hk));have hlk:dC h k=(aW (h.take k) h[k]).2:=by
  unfold dC;rw[dT,he];rfl
 rw[hlk] at hj;have hjG:=((ot (cut:=cut) hv hs).1 hkG).2 j hj;have hjl:=Bj hjG;have hej:h[j]?=some h[j]:=List.getElem?_eq_getElem hjl;obtain⟨hsj,hlj⟩:=dg hej;have:=(bx h _ _ _ low hsj).2 ((oh (cut:=cut) hv hsj (hlow _ (List.mem_of_getElem? hej))).2 (by rw[hlj];exact hjG));rw[hlj] at this;exact this
theorem rJ(hv:Valid h)(p:Nat):dc h cut h.length p<=cut.getD p 0:=by
 apply Classical.byContradiction;intro hc;have h1:=vt (h:=h) (cut:=cut) h.length p (Nat.le_refl _);rw[List.take_length] at h1;obtain⟨g,e,post,hs,ho,hg⟩:=rq h p (cut.getD p 0) (by lia);have hlow:((List.range (p+1)).map (dc h cut h.length)).getD (aC e) 0=dc h cut h.length (aC e):=by
  rw[ho];simp
 have:=(oh (cut:=cut) hv hs hlow).1 (by unfold isIn;rw[hlow,ho];lia);have:=((ot (cut:=cut) hv hs).1 this).1;unfold isIn at this;rw[ho] at this;lia
theorem lI(hv:Valid h){G:List Nat}(hC:Cons h G)(hle:∀p,G.getD p 0<=cut.getD p 0)(p:Nat)(hp:G.getD p 0<=bD h p):G.getD p 0<=dc h cut h.length p:=by
 have key:∀k,k∈splitOf h G->Gd h cut k:=by
  intro k
  induction k using Nat.strongRecOn with
  |ind k ih=>
   intro hk;have hkl:=e9 hk;have he:h[k]?=some h[k]:=List.getElem?_eq_getElem hkl;obtain⟨hs,hl⟩:=dg he;have hin:=(bx h _ _ _ G hs).1 (by rw[hl];exact hk);have hlk:dC h k=(aW (h.take k) h[k]).2:=by
    unfold dC;rw[dT,he];rfl
   have:=(ot (cut:=cut) hv hs).2 ⟨?_,?_⟩
   ·rw[hl] at this;exact this
   ·unfold isIn at hin ⊢;exact Nat.le_trans hin (hle _)
   ·intro j hj;have hjk:j<k:=by have:=pred_lt hv hs hj;exact Nat.lt_of_lt_of_eq ‹_› ‹_›
    exact ih j hjk (hC k hk j (by rw[hlk];exact hj))
 apply Classical.byContradiction;intro hc;obtain⟨g,e,post,hs,ho,hg⟩:=rq h p (dc h cut h.length p) (by lia);have hin:isIn G g e:=by unfold isIn;rw[ho];lia
 have hgd:=key _ ((bx h _ _ _ G hs).2 hin);have hlow:((List.range (p+1)).map (dc h cut h.length)).getD (aC e) 0=dc h cut h.length (aC e):=by
  rw[ho];simp
 have:=(oh (cut:=cut) hv hs hlow).2 hgd;unfold isIn at this;rw[hlow,ho] at this;lia
end Mine.Internal.Q.L3
end
section
namespace Mine.Internal.Q.L3
open PySem Classical Mine.Internal.L3
variable{ps places:List Ch}{starts:List Int}{log:List Ent}
noncomputable def toH:Ent->Option HEv
 |.out c (.pay v)=>some (c,some v)
 |.inn c (.pay _)=>some (c,none)
 |_=>none
noncomputable def aY(log:List Ent):List HEv:=log.filterMap toH
theorem cV(l r:List Ent):aY (l++r)=aY l++aY r:=List.filterMap_append
theorem vB{α β γ:Type}{f:α->Option β}{g:α->Option γ}(l:List α)(h:∀x,(f x).isSome=(g x).isSome):(l.filterMap f).length=(l.filterMap g).length:=by
 induction l with
 |nil=>rfl
 |cons x r ih=>
  have hx:=h x;cases hf:f x with
  |none=>
   cases hg:g x with
   |none=>rw[List.filterMap_cons_none hf,List.filterMap_cons_none hg,ih]
   |some b=>rw[hf,hg] at hx;cases hx
  |some a=>
   cases hg:g x with
   |none=>rw[hf,hg] at hx;cases hx
   |some b=>rw[List.filterMap_cons_some hf,List.filterMap_cons_some hg,List.length_cons,List.length_cons,ih]
theorem vC{α β γ:Type}{f:α->Option β}{g:α->Option γ}{p:β->Bool}(l:List α)(h:∀x,((f x).filter p).isSome=(g x).isSome):((l.filterMap f).filter p).length=(l.filterMap g).length:=by
 rw[List.filter_filterMap];exact vB l h
theorem jR{α β:Type}{P Q:Prop}[Decidable P][Decidable Q](a:α)(b:β)(h:P↔Q):(if P then some a else none).isSome=(if Q then some b else none).isSome:=by
 by_cases q:Q
 ·rw[if_pos q,if_pos (h.2 q)];rfl
 ·rw[if_neg q,if_neg λ p=>q (h.1 p)];rfl
theorem mP{n:Str}(P:Prop)[Decidable P]:false=(if P then bT (.mark n) else none).isSome:=(congrArg Option.isSome (ite_self none)).symm
theorem rA{α:Type}{a:α}{P:Prop}[Decidable P](h:¬P):(if P then some a else none).isSome=false:=by rw[if_neg h];rfl
theorem ip(c:Ch)(l:List Ent):eG (outs c l)=l.filterMap λ e=>(ka c e).bind bT:=List.filterMap_filterMap
theorem iq(c:Ch)(l:List Ent):eG (bZ c l)=l.filterMap λ e=>(gI c e).bind bT:=List.filterMap_filterMap
theorem tP(l:List Ent)(c:Ch):((aY l).filter λ x=>decide (aC x=c.1)).filterMap (fk c.2)=eG (outs c l):=by
 rw[ip,aY,List.filter_filterMap,List.filterMap_filterMap];refine congrArg (List.filterMap · l) (funext λ x=>?_);cases x with
 |out d m=>
  refine Eq.trans ?_ (dA (d=c) m).symm;cases m with
  |pay v=>
   show(if decide (d.1=c.1) then some (d,some v) else none).bind (fk c.2)=if d=c then some v else none
   by_cases e1:d.1=c.1
   ·rw[if_pos (decide_eq_true e1)];exact de ⟨λ e=>Prod.ext e1 e,λ e=>e▸rfl⟩
   ·rw[if_neg λ q=>e1 (of_decide_eq_true q),if_neg fun(e:d=c)=>e1 (e▸rfl)];rfl
  |mark n=>exact(ite_self none).symm
 |inn d m=>
  cases m with
  |pay v=>
   show(if decide (d.2=c.1) then some (d,none) else none).bind (fk c.2)=none;by_cases e1:d.2=c.1
   ·rw[if_pos (decide_eq_true e1)];exact ite_self none
   ·rw[if_neg λ q=>e1 (of_decide_eq_true q)];rfl
  |mark n=>rfl
 |save p n=>rfl
 |snap p n=>rfl
theorem qZ(l:List Ent)(c:Ch):(((aY l).filter λ x=>decide (aC x=c.2)).filterMap (dU c.1)).length=(eG (bZ c l)).length:=by
 rw[iq,aY,List.filter_filterMap,List.filterMap_filterMap];refine vB l λ x=>?_;cases x with
 |inn d m=>
  rw[show(gI c (.inn d m)).bind bT=_ from dA (d=c) m];cases m with
  |pay v=>
   show((if decide (d.2=c.2) then some (d,none) else none).bind (dU c.1)).isSome=(if d=c then some v else none).isSome;by_cases e1:d.2=c.2
   ·rw[if_pos (decide_eq_true e1)];exact jR d v ⟨λ e=>Prod.ext e.2 e1,λ e=>e▸⟨rfl,rfl⟩⟩
   ·rw[if_neg λ q=>e1 (of_decide_eq_true q),if_neg fun(e:d=c)=>e1 (e▸rfl)];rfl
  |mark n=>exact mP (d=c)
 |out d m=>
  cases m with
  |pay v=>
   show((if decide (d.1=c.2) then some (d,some v) else none).bind (dU c.1)).isSome=false;by_cases e1:d.1=c.2
   ·rw[if_pos (decide_eq_true e1)];exact rA (a:=d) (P:=(some v:Option Int)=none/\d.1=c.1) λ e=>by cases e.1
   ·rw[if_neg λ q=>e1 (of_decide_eq_true q)];rfl
  |mark n=>rfl
 |save p n=>rfl
 |snap p n=>rfl
theorem om(l:List Ent)(p:Nat):bD (aY l) p=bA l p:=by
 induction l with
 |nil=>rfl
 |cons x r ih=>
  rw[show x::r=[x]++r from rfl,cV,kE,show bD (aY [x]++aY r) p=bD (aY [x]) p+bD (aY r) p by unfold bD;rw[List.filter_append,List.length_append],ih];have h2:bD (aY [x]) p=bA [x] p:=by
   cases x with
   |out d m=>
    cases m with
    |pay v=>
     rw[bD,aY,List.filter_filterMap,gw (P:=d.1=p) (b:=(d,some v)) (de decide_eq_true_iff)];show _=0+([Ent.out d (.pay v)].filterMap (jv p)).length;rw[gw (P:=d.1=p) (b:=v) rfl];by_cases e1:d.1=p
     ·rw[if_pos e1,if_pos e1];rfl
     ·rw[if_neg e1,if_neg e1];rfl
    |mark n=>exact(congrArg (λ l:List Int=>0+l.length) (List.filterMap_cons_none (l:=[]) (ite_self none))).symm
   |inn d m=>
    cases m with
    |pay v=>
     rw[bD,aY,List.filter_filterMap,gw (P:=d.2=p) (b:=(d,none)) (de decide_eq_true_iff)];show _=([Ent.inn d (.pay v)].filterMap (pC p)).length+0;rw[gw (P:=d.2=p) (b:=v) rfl];by_cases e1:d.2=p
     ·rw[if_pos e1,if_pos e1];rfl
     ·rw[if_neg e1,if_neg e1];rfl
    |mark n=>exact(congrArg (λ l:List Int=>l.length+0) (List.filterMap_cons_none (l:=[]) (ite_self none))).symm
   |save q n=>rfl
   |snap q n=>rfl
  rw[h2];rfl
theorem mF(h:List HEv)(c:Ch):(av h c).length=(h.filter λ x=>decide (x.1=c/\x.2≠none)).length:=by
 induction h using snoc_ind with
 |h0=>rfl
 |h1 g e ih=>
  rw[a9,List.length_append,ih,List.filter_append,List.length_append];refine congrArg (_ + ·) ?_;by_cases q:e.1=c/\e.2≠none
  ·rw[if_pos q,List.filter_cons,decide_eq_true q];rfl
  ·rw[if_neg q,List.filter_cons,decide_eq_false q];rfl
theorem pF(l:List Ent)(c:Ch):(av (aY l) c).length=(eG (outs c l)).length:=by
 rw[mF,ip];refine vC l λ x=>?_;cases x with
 |out d m=>
  rw[show(ka c (.out d m)).bind bT=_ from dA (d=c) m];cases m with
  |pay v=>exact jR _ _ (decide_eq_true_iff.trans (and_iff_left (λ h=>by cases h)))
  |mark n=>exact mP (d=c)
 |inn d m=>
  cases m with
  |pay v=>exact rA (a:=((d,none):HEv)) (P:=decide (d=c/\(none:Option Int)≠none)=true) λ q=>(of_decide_eq_true q).2 rfl
  |mark n=>rfl
 |save p n=>rfl
 |snap p n=>rfl
theorem pG(l:List Ent)(c:Ch):b6 (aY l) c=(eG (bZ c l)).length:=by
 rw[iq];refine vC l λ x=>?_;cases x with
 |inn d m=>
  rw[show(gI c (.inn d m)).bind bT=_ from dA (d=c) m];cases m with
  |pay v=>exact jR _ _ (decide_eq_true_iff.trans ⟨λ e=>(Prod.mk.inj e).1,λ e=>e▸rfl⟩)
  |mark n=>exact mP (d=c)
 |out d m=>
  cases m with
  |pay v=>exact rA (a:=(d,some v)) (P:=decide ((d,some v)=((c,none):HEv))=true) λ q=>by cases(Prod.mk.inj (of_decide_eq_true q)).2
  |mark n=>rfl
 |save p n=>rfl
 |snap p n=>rfl
theorem ur{α β:Type}{f:α->Option β}{l:List α}{pre post:List β}{y:β}(h:l.filterMap f=pre++y::post):∃a x b,l=a++x::b/\f x=some y/\a.filterMap f=pre:=by
 refine bC λ k9=>?_;obtain⟨a,b,rfl,rfl,hb⟩:=List.filterMap_eq_append_iff.1 h;obtain⟨b1,x,b2,rfl,hn,hx,_⟩:=List.filterMap_eq_cons_iff.1 hb;exact k9 ⟨a++b1,x,b2,(List.append_assoc ..).symm,hx,by rw[List.filterMap_append,List.filterMap_eq_nil_iff.2 hn,List.append_nil]⟩
theorem vh{x:Ent}{e:HEv}(h:toH x=some e):(∃v,x=.out e.1 (.pay v)/\e.2≠none)\/∃v,x=.inn e.1 (.pay v):=by
 cases x with
 |inn d m=>
  cases m with
  |pay v=>cases h;exact .inr ⟨v,rfl⟩
  |mark n=>cases h
 |out d m=>
  cases m with
  |pay v=>cases h;exact .inl ⟨v,rfl,(λ h=>by cases h)⟩
  |mark n=>cases h
 |save p n=>cases h
 |snap p n=>cases h
theorem fJ{sz:Nat}(I:Inv sz ps log):Valid (aY log):=by
 intro pre c post e;refine bC λ k9=>?_;obtain⟨a,x,b,h1,h2,h3⟩:=ur e;obtain⟨v,rfl⟩:=(vh h2).resolve_left (by rintro⟨_,_,h⟩;exact h rfl);obtain⟨r,hr⟩:=(I.fits a _ b h1).1.2;refine k9 ?_;rw[<-show aY a=pre from h3,pG,pF,hr,gS,List.length_append];exact Nat.lt_add_of_pos_right (Nat.succ_pos _)
theorem ke{sz:Nat}(I:Inv sz ps log):∀e∈aY log,e.1∈ps:=λ e he=>
 (List.mem_filterMap.1 he).elim λ x h=>(vh h.2).elim ((by rintro⟨_,q,_⟩;exact I.onp _ _ (q▸h.1))) (by rintro⟨_,q⟩;exact I.inp _ _ (q▸h.1))
theorem oj(hz:∀c∈ps,c.1<starts.length/\c.2<starts.length)(I:Inv starts.length ps log):∀e∈aY log,aC e<starts.length:=by
 intro e he;have:=hz _ (ke I e he);obtain⟨c,x⟩:=e;cases x with
 |none=>exact this.2
 |some v=>exact this.1
theorem nZ{a b:List Ent}(h:log=a++b)(p:Nat):iZ (aY log) p (bA a p)=(aY a).filter λ x=>decide (aC x=p):=by
 unfold iZ;rw[h,cV,List.filter_append,<-om];exact List.take_left
end Mine.Internal.Q.L3
end
section
namespace Mine.Internal.Q.L3
open PySem Classical Mine.Internal.L3
variable{ps places:List Ch}{starts:List Int}{log:List Ent}{sz:Nat}
theorem bS{α:Type}{x:α}{l:List α}(h:x∈l):∃r,l=before x l++x::r/\since x l=x::r/\x∉before x l:=by
 obtain⟨a,b,rfl,hna⟩:=List.eq_append_cons_of_mem h;rw[bh hna,fb hna];exact⟨b,rfl,rfl,hna⟩
theorem yS{α:Type}{x:α}{a a' b b':List α}(h:a++x::b <+: a'++x::b')(h1:x∉a)(h2:x∉a'):a=a':=by
 obtain⟨t,ht⟩:=h;rw[List.append_assoc] at ht;exact(bh h1).symm.trans ((congrArg (before x) ht).trans (bh h2))
theorem cl(I:Inv sz ps log){c:Ch}(hc:c∈ps){n:Str}(h1:Ent.save c.1 n∈log)(h2:Ent.save c.2 n∈log)(h3:Ent.inn c (.mark n)∈since (Ent.save c.2 n) log) :
  outs c (before (Ent.save c.1 n) log)=bZ c (before (Ent.save c.2 n) log)++bZ c (before (Ent.inn c (.mark n)) (since (Ent.save c.2 n) log)):=by
 refine bC λ k9=>?_;obtain⟨d,a1,_,a3⟩:=bS h1;obtain⟨r,b1,b2,b3⟩:=bS h2;obtain⟨r2,c1,_,c3⟩:=bS h3;refine k9 ?_;generalize before (Ent.save c.1 n) log=pi at *;generalize before (Ent.save c.2 n) log=pj at *;generalize before (Ent.inn c (.mark n)) (since (Ent.save c.2 n) log)=r1 at *;rw[b2] at c1;have hlog:log=(pj++r1)++Ent.inn c (.mark n)::r2:=by rw[b1,c1,List.append_assoc]
 have hnj:Ent.inn c (.mark n)∉pj:=λ q=>by
  obtain⟨x,y,rfl⟩:=List.append_of_mem q;exact b3 (List.mem_append_left _ (I.inm x (y++Ent.save c.2 n::r) c n (b1.trans (List.append_assoc ..))))
 have hno:Ent.out c (.mark n)∉pi:=λ q=>by
  obtain⟨x,y,rfl⟩:=List.append_of_mem q;exact a3 (List.mem_append_left _ (I.oum x (y++Ent.save c.1 n::d) c n (a1.trans (List.append_assoc ..))))
 obtain⟨w,hw⟩:=I.sav pi d c.1 n a1 a3 c hc rfl;have e1:outs c log=outs c pi++.mark n::w:=by
  rw[a1,cG];exact congrArg (_++·) hw
 have e2:bZ c log=bZ c (pj++r1)++.mark n::bZ c r2:=by
  rw[hlog,cj c (pj++r1)];exact congrArg (_++·) (List.filterMap_cons_some (if_pos rfl))
 have hf:=I.fifo c;rw[e1,e2] at hf;exact(yS hf (λ q=>dv hnj c3 (n5.1 q)) λ q=>hno (gV.1 q)).symm.trans (cj ..)
noncomputable def jD(sz:Nat)(ps:List Ch):Prop:=∀(S:Nat->Prop),(∃p,p<sz/\S p)->(∀c∈ps,S c.1->S c.2)->∀q,q<sz->S q
theorem rE(I:Inv sz ps log)(hq:∀c∈ps,ai log c=[]){c:Ch}(hc:c∈ps){n:Str}(h:Ent.save c.1 n∈log):Ent.inn c (.mark n)∈log:=by
 refine bC λ k9=>?_;obtain⟨d,a1,_,a3⟩:=bS h;obtain⟨w,hw⟩:=I.sav _ d c.1 n a1 a3 c hc rfl;have:Msg.mark n∈outs c log:=by
  rw[a1,cG];exact List.mem_append_right _ (hw.symm▸List.mem_cons_self:Msg.mark n∈outs c d)
 rw[I.gv c,hq c hc,List.append_nil] at this;exact k9 (n5.1 this)
theorem og(I:Inv sz ps log){c:Ch}{n:Str}(h:Ent.inn c (.mark n)∈log):Ent.save c.2 n∈log/\Ent.inn c (.mark n)∈since (Ent.save c.2 n) log:=by
 obtain⟨a,b,rfl⟩:=List.append_of_mem h;have hs:=I.inm a b c n rfl;exact⟨List.mem_append_left _ hs,lk hs▸List.mem_append_right _ List.mem_cons_self⟩
theorem lg(hst:jD sz ps)(I:Inv sz ps log)(hq:∀c∈ps,ai log c=[]){n:Str}(hn:n∈names log):∀p,p<sz->Ent.save p n∈log:=by
 obtain⟨p0,h0⟩:=I.ini n hn;exact hst (λ p=>Ent.save p n∈log) ⟨p0,(I.svn p0 n h0).2,h0⟩ λ c hc hs=>(og I (rE I hq hc hs)).1
theorem kZ{c:Ch}{n:Str}(h2:Ent.save c.2 n∈log)(h3:Ent.inn c (.mark n)∈since (Ent.save c.2 n) log):au log c n=(2,eG (bZ c (before (Ent.inn c (.mark n)) (since (Ent.save c.2 n) log)))):=(if_pos h2).trans (if_pos h3)
theorem k8(hz:∀c∈ps,c.1<starts.length/\c.2<starts.length)(hst:jD starts.length ps)(I:Inv starts.length ps log)(hq:∀c∈ps,ai log c=[]){n:Str}(hn:n∈names log):isWhole (bJ ps starts log n)=true:=by
 have hs:=lg hst I hq hn;delta isWhole bJ;simp only[Bool.and_eq_true,Bool.not_eq_true',decide_eq_false_iff_not,List.all_eq_true];constructor
 ·intro q;obtain⟨x,hx,he⟩:=List.mem_map.1 q;have:=List.mem_zipIdx hx;have:=hs x.2 (by lia);delta bq at he;rw[if_pos this] at he;cases he
 ·intro t ht;obtain⟨c,hc,rfl⟩:=List.mem_map.1 ht;have h1:=og I (rE I hq hc (hs c.1 (hz c hc).1));rw[kZ h1.1 h1.2];rfl
theorem tf{nm:Str}{s:Snap}(h:wholeOf ((names log).map (bJ ps starts log)) nm=some s):nm∈names log/\s=bJ ps starts log nm/\(∀p,p<starts.length->Ent.save p nm∈log)/\∀c∈ps,(au log c nm).1=2:=by
 unfold wholeOf at h;have h1:=List.mem_of_find?_eq_some h;have h2:=List.find?_some h;obtain⟨n,hn,rfl⟩:=List.mem_map.1 h1;simp only[Bool.and_eq_true,decide_eq_true_eq] at h2;obtain⟨e,hw⟩:=h2;have e:n=nm:=e;subst e;refine⟨hn,rfl,?_,?_⟩
 ·intro p hp;unfold isWhole bJ at hw;simp only[Bool.and_eq_true,Bool.not_eq_true',decide_eq_false_iff_not] at hw;apply Classical.byContradiction;intro hc;apply hw.1;rw[List.mem_map];refine⟨(starts[p],p),?_,?_⟩
  ·rw[List.mem_iff_getElem?];exact⟨p,by simp[hp]⟩
  ·unfold bq;rw[if_neg hc]
 ·intro c hc;unfold isWhole bJ at hw;simp only[Bool.and_eq_true,List.all_eq_true] at hw;have h3:2<=(au log c n).1:=of_decide_eq_true (hw.2 _ (List.mem_map.2 ⟨c,hc,rfl⟩));by_cases q:Ent.save c.2 n∈log
  ·rcases eZ q with z | z
   ·exact z
   ·lia
  ·rw[cq q] at h3;simp at h3
theorem wi{c:Ch}{n:Str}(h:(au log c n).1=2):Ent.save c.2 n∈log/\Ent.inn c (.mark n)∈since (Ent.save c.2 n) log:=by
 by_cases q:Ent.save c.2 n∈log
 ·refine⟨q,Classical.byContradiction λ r=>?_⟩;cases(congrArg Prod.fst ((if_pos q).trans (if_neg r))).symm.trans h
 ·cases(congrArg Prod.fst (cq q)).symm.trans h
noncomputable def oM(starts:List Int)(log:List Ent)(n:Str):List Nat:=starts.zipIdx.map λ x=>bA (before (Ent.save x.2 n) log) x.2
theorem oK{p:Nat}(hp:p<starts.length)(n:Str):(oM starts log n).getD p 0=bA (before (Ent.save p n) log) p:=by
 simp[oM,hp]
theorem oJ(hz:∀c∈ps,c.1<starts.length/\c.2<starts.length){c:Ch}(hc:c∈ps){n:Str}(h:Ent.save c.1 n∈log):bQ (aY log) (oM starts log n) c=eG (outs c (before (Ent.save c.1 n) log)):=by
 refine bC λ k9=>?_;obtain⟨r,h1,_,_⟩:=bS h;refine k9 ?_;unfold bQ;rw[oK (hz c hc).1,nZ h1,tP]
theorem l4(hz:∀c∈ps,c.1<starts.length/\c.2<starts.length){c:Ch}(hc:c∈ps){n:Str}(h:Ent.save c.2 n∈log):(bg (aY log) (oM starts log n) c).length=(eG (bZ c (before (Ent.save c.2 n) log))).length:=by
 refine bC λ k9=>?_;obtain⟨r,h1,_,_⟩:=bS h;refine k9 ?_;unfold bg;rw[oK (hz c hc).2,nZ h1,qZ]
theorem qS{h:List HEv}(hon:∀e∈h,e.1∈ps)(cut:List Nat){c:Ch}(hc:c∉ps):jx h cut c=0:=
 Nat.le_zero.1 (Nat.le_trans (mU _ _) (Nat.le_of_eq (List.length_eq_zero_iff.2 (List.filter_eq_nil_iff.2 λ x hx q=>hc ((show x.1=c from congrArg Prod.fst (of_decide_eq_true q))▸hon x hx)))))
theorem fH(hz:∀c∈ps,c.1<starts.length/\c.2<starts.length)(I:Inv starts.length ps log){n:Str}(hs:∀p,p<starts.length->Ent.save p n∈log)(ht:∀c∈ps,(au log c n).1=2){c:Ch}(hc:c∈ps) :
  eG (outs c (before (Ent.save c.1 n) log))=eG (bZ c (before (Ent.save c.2 n) log))++(au log c n).2:=by
 have h1:=wi (ht c hc);rw[cl I hc (hs c.1 (hz c hc).1) h1.1 h1.2,gS,kZ h1.1 h1.2]
theorem oZ(hz:∀c∈ps,c.1<starts.length/\c.2<starts.length)(I:Inv starts.length ps log){n:Str}(hs:∀p,p<starts.length->Ent.save p n∈log)(ht:∀c∈ps,(au log c n).1=2):Cons (aY log) (oM starts log n):=by
 rw[g6 (fJ I)];intro c;by_cases hc:c∈ps
 ·rw[fU,fS,oJ hz hc (hs c.1 (hz c hc).1),l4 hz hc (hs c.2 (hz c hc).2),fH hz I hs ht hc,List.length_append];exact Nat.le_add_right _ _
 ·rw[qS (ke I) _ hc];exact Nat.zero_le _
theorem te(hz:∀c∈ps,c.1<starts.length/\c.2<starts.length)(I:Inv starts.length ps log){n:Str}(hs:∀p,p<starts.length->Ent.save p n∈log)(ht:∀c∈ps,(au log c n).1=2):ps.map (fK (aY log) (oM starts log n))=ps.map λ c=>(au log c n).2:=by
 apply List.map_congr_left;intro c hc;unfold fK;rw[fU,fS,oJ hz hc (hs c.1 (hz c hc).1),l4 hz hc (hs c.2 (hz c hc).2),fH hz I hs ht hc];exact List.drop_left
end Mine.Internal.Q.L3
end
section
namespace Mine.Internal.Q.L3
open PySem Classical Mine.Internal.L3
variable{ps places:List Ch}{starts:List Int}{log:List Ent}{sz:Nat}
theorem sum_add{α:Type}(l:List α)(f g:α->Int):(l.map λ x=>f x+g x).sum=(l.map f).sum+(l.map g).sum:=by
 induction l with
 |nil=>rfl
 |cons x r ih=>rw[List.map_cons,List.map_cons,List.map_cons,List.sum_cons,List.sum_cons,List.sum_cons,ih,Int.add_assoc,Int.add_assoc,Int.add_left_comm (g x)]
theorem jQ{α:Type}(l:List α)(f:α->Int)(h:∀x∈l,f x=0):(l.map f).sum=0:=by
 induction l with
 |nil=>rfl
 |cons x r ih=>rw[List.map_cons,List.sum_cons,h x List.mem_cons_self,ih λ y hy=>h y (List.mem_cons_of_mem _ hy)];rfl
theorem jj{α:Type}(l:List α)(hn:l.Nodup)(f:α->Int)(d:α){D:∀c,Decidable (d=c)}(hd:d∈l):(l.map λ c=>@ite Int (d=c) (D c) (f c) 0).sum=f d:=by
 induction l with
 |nil=>cases hd
 |cons x r ih=>
  have hn:=List.nodup_cons.1 hn;rw[List.map_cons,List.sum_cons];by_cases e:d=x
  ·subst e;rw[if_pos rfl,jQ _ _ λ y hy=>if_neg fun(q:d=y)=>hn.1 (q▸hy),Int.add_zero]
  ·rw[if_neg e,ih hn.2 ((List.mem_cons.1 hd).resolve_left e),Int.zero_add]
theorem nB{α β:Type}(l:List α)(m:List β)(f:α->β->Int):(l.map λ x=>(m.map λ y=>f x y).sum).sum=(m.map λ y=>(l.map λ x=>f x y).sum).sum:=by
 induction l with
 |nil=>exact(jQ m _ λ _ _=>rfl).symm
 |cons x r ih=>
  rw[List.map_cons,List.sum_cons,ih];exact(sum_add m _ _).symm
theorem qh{β:Type}(l:List Int)(f:Nat->β):(l.zipIdx.map λ x=>f x.2)=(List.range l.length).map f:=by
 apply List.ext_getElem?;intro i;by_cases hi:i<l.length<;>simp[hi]
theorem vA{α:Type}(l:List α)(P:α->Prop)[DecidablePred P](f:α->Int):(l.filterMap λ x=>if P x then some (f x) else none).sum=(l.map λ x=>if P x then f x else 0).sum:=by
 induction l with
 |nil=>rfl
 |cons x r ih=>
  rw[List.map_cons,List.sum_cons,<-ih,List.filterMap_cons];by_cases q:P x
  ·rw[if_pos q,if_pos q];rfl
  ·rw[if_neg q,if_neg q,Int.zero_add]
noncomputable def pI:Ent->Option (Ch×Int)
 |.inn c (.pay v)=>some (c,v)
 |_=>none
noncomputable def pO:Ent->Option (Ch×Int)
 |.out c (.pay v)=>some (c,v)
 |_=>none
noncomputable def at1(side:Ch->Nat)(p:Nat)(L:List (Ch×Int)):Int:=(L.filterMap λ x=>if side x.1=p then some x.2 else none).sum
noncomputable def on1(c:Ch)(L:List (Ch×Int)):Int:=(L.filterMap λ x=>if x.1=c then some x.2 else none).sum
theorem zu(p:Nat)(l:List Ent):(kf p l).sum=at1 Prod.snd p (l.filterMap pI):=by
 unfold at1;rw[List.filterMap_filterMap];refine congrArg (λ f=>(List.filterMap f l).sum) (funext λ e=>?_);cases e with
 |inn c m=>cases m with
  |pay v=>rfl
  |mark n=>exact ite_self none
 |_=>rfl
theorem wH(p:Nat)(l:List Ent):(dE p l).sum=at1 Prod.fst p (l.filterMap pO):=by
 unfold at1;rw[List.filterMap_filterMap];refine congrArg (λ f=>(List.filterMap f l).sum) (funext λ e=>?_);cases e with
 |out c m=>cases m with
  |pay v=>rfl
  |mark n=>exact ite_self none
 |_=>rfl
theorem zo(c:Ch)(l:List Ent):(eG (bZ c l)).sum=on1 c (l.filterMap pI):=by
 unfold on1;rw[List.filterMap_filterMap,iq];refine congrArg (λ f=>(List.filterMap f l).sum) (funext λ e=>?_);cases e with
 |inn d m=>
  refine(dA (d=c) m).trans ?_;cases m with
  |pay v=>exact de Iff.rfl
  |mark n=>exact ite_self none
 |_=>rfl
theorem gv(c:Ch)(l:List Ent):(eG (outs c l)).sum=on1 c (l.filterMap pO):=by
 unfold on1;rw[List.filterMap_filterMap,ip];refine congrArg (λ f=>(List.filterMap f l).sum) (funext λ e=>?_);cases e with
 |out d m=>
  refine(dA (d=c) m).trans ?_;cases m with
  |pay v=>exact de Iff.rfl
  |mark n=>exact ite_self none
 |_=>rfl
theorem tR(hnd:ps.Nodup)(L:List (Ch×Int))(side:Ch->Nat)(p:Nat)(h:∀x∈L,x.1∈ps):at1 side p L=(ps.map λ c=>if side c=p then on1 c L else 0).sum:=by
 have e:∀c,(if side c=p then on1 c L else 0)=(L.map λ x=>if x.1=c then(if side c=p then x.2 else 0) else 0).sum:=λ c=>by
  by_cases q:side c=p
  ·rw[if_pos q];refine(vA L (λ x=>x.1=c) Prod.snd).trans (congrArg (λ f=>(List.map f L).sum) (funext λ x=>?_));rw[if_pos q]
  ·rw[if_neg q,jQ];exact λ x _=>by rw[if_neg q];exact ite_self 0
 rw[funext e,nB];refine(vA L (λ x=>side x.1=p) Prod.snd).trans (congrArg List.sum (List.map_congr_left λ x hx=>?_));exact(jj ps hnd (λ c=>if side c=p then x.2 else 0) x.1 (h x hx)).symm
theorem oS(hnd:ps.Nodup)(side:Ch->Nat)(hs:∀c∈ps,side c<starts.length)(L:Nat->List (Ch×Int))(h:∀p,∀x∈L p,x.1∈ps):(starts.zipIdx.map λ x=>at1 side x.2 (L x.2)).sum=(ps.map λ c=>on1 c (L (side c))).sum:=by
 rw[qh starts (λ p=>at1 side p (L p)),List.map_congr_left λ p _=>tR hnd (L p) side p (h p),nB];exact congrArg List.sum (List.map_congr_left λ c hc=>jj _ List.nodup_range (λ p=>on1 c (L p)) (side c) (List.mem_range.2 (hs c hc)))
theorem Bc(hnd:ps.Nodup)(hz:∀c∈ps,c.1<starts.length/\c.2<starts.length)(I:Inv starts.length ps log){n:Str}(hs:∀p,p<starts.length->Ent.save p n∈log)(ht:∀c∈ps,(au log c n).1=2) :
  (starts.zipIdx.map λ x=>bp (before (Ent.save x.2 n) log) x.2 x.1).sum+(ps.map λ c=>(au log c n).2.sum).sum=starts.sum:=by
 have sub:∀{x e},e∈before x log->e∈log:=λ he=>(List.takeWhile_sublist _).subset he;have hI:∀p,∀x∈(before (Ent.save p n) log).filterMap pI,x.1∈ps:=λ p x hx=>by
  obtain⟨e,h1,h2⟩:=List.mem_filterMap.1 hx;cases e with
  |inn c m=>cases m with
   |pay v=>cases h2;exact I.inp _ _ (sub h1)
   |mark n=>cases h2
  |_=>cases h2
 have hO:∀p,∀x∈(before (Ent.save p n) log).filterMap pO,x.1∈ps:=λ p x hx=>by
  obtain⟨e,h1,h2⟩:=List.mem_filterMap.1 hx;cases e with
  |out c m=>cases m with
   |pay v=>cases h2;exact I.onp _ _ (sub h1)
   |mark n=>cases h2
  |_=>cases h2
 have e2:=oS hnd Prod.snd (λ c hc=>(hz c hc).2) (λ p=>(before (Ent.save p n) log).filterMap pI) hI;have e3:=oS hnd Prod.fst (λ c hc=>(hz c hc).1) (λ p=>(before (Ent.save p n) log).filterMap pO) hO;have e4:(ps.map λ c=>on1 c ((before (Ent.save c.1 n) log).filterMap pO)).sum=(ps.map λ c=>on1 c ((before (Ent.save c.2 n) log).filterMap pI)).sum+(ps.map λ c=>(au log c n).2.sum).sum:=by
  rw[<-sum_add];exact congrArg List.sum (List.map_congr_left λ c hc=>by rw[<-gv,<-zo,fH hz I hs ht hc,List.sum_append])
 have e1:(starts.zipIdx.map λ x=>bp (before (Ent.save x.2 n) log) x.2 x.1).sum+(starts.zipIdx.map λ x=>at1 Prod.fst x.2 ((before (Ent.save x.2 n) log).filterMap pO)).sum=starts.sum+(starts.zipIdx.map λ x=>at1 Prod.snd x.2 ((before (Ent.save x.2 n) log).filterMap pI)).sum:=by
  refine Eq.trans (sum_add _ _ _).symm (Eq.trans ?_ (congrArg (λ l=>List.sum l+_) (List.zipIdx_map_fst 0 starts)));rw[<-sum_add];exact congrArg (λ f=>(List.map f starts.zipIdx).sum) (funext λ x=>by rw[<-zu,<-wH];exact Int.sub_add_cancel ..)
 rw[e2,e3,e4] at e1;refine(Int.add_left_inj _).1 (Eq.trans ?_ e1);rw[Int.add_assoc,Int.add_comm (List.sum _) (List.sum _)]
theorem qJ(h:List HEv){F G:List Nat}{c:Ch}(hle:G.getD c.1 0<=F.getD c.1 0):(bQ h G c).length<=(bQ h F c).length:=by
 delta bQ iZ;rw[show ∀l:List HEv,l.take (G.getD c.1 0)=(l.take (F.getD c.1 0)).take (G.getD c.1 0) from λ l=>by rw[List.take_take,Nat.min_eq_left hle]];exact((List.take_sublist _ _).filterMap _).length_le
noncomputable def w5(h:List HEv)(cut:List Nat)(sz:Nat):List Nat:=(List.range sz).map (dc h cut h.length)
theorem rL{h:List HEv}{cut:List Nat}{sz p:Nat}(hp:p<sz):(w5 h cut sz)[p]?=some (dc h cut h.length p):=by
 rw[w5,List.getElem?_map,List.getElem?_range hp];rfl
theorem j8{h:List HEv}{cut:List Nat}{sz p:Nat}(hp:p<sz):(w5 h cut sz).getD p 0=dc h cut h.length p:=by
 rw[List.getD_eq_getElem?_getD,rL hp];rfl
theorem rK{h:List HEv}{cut:List Nat}(hv:Valid h)(ho:∀e∈h,aC e<sz):Cons h (w5 h cut sz):=
 t6 (cut:=cut) hv λ e he=>j8 (ho e he)
theorem pM{h:List HEv}{cut F:List Nat}(hv:Valid h)(ho:∀e∈h,aC e<sz)(hF:∀p,p<sz->dc h cut h.length p<=F.getD p 0){c:Ch}(h1:c.1<sz)(h2:c.2<sz)(hb:(bQ h F c).length<(bg h F c).length):dc h cut h.length c.2+1<=F.getD c.2 0:=by
 have hC:=(g6 hv _).1 (rK (cut:=cut) hv ho) c;rw[fU,fS] at hC;refine Nat.lt_of_le_of_ne (hF c.2 h2) λ e=>?_;rw[show bg h (w5 h cut sz) c=bg h F c by unfold bg;rw[j8 h2,e]] at hC;exact Nat.lt_irrefl _ (Nat.lt_of_lt_of_le hb (Nat.le_trans hC (qJ h (by rw[j8 h1];exact hF c.1 h1))))
theorem nV{h:List HEv}{F:List Nat}(hv:Valid h)(hon:∀e∈h,e.1∈ps):dF ps h F=none↔Cons h F:=by
 rw[g6 hv,dF,List.find?_eq_none];constructor
 ·intro q c;by_cases hc:c∈ps
  ·rw[fU,fS];exact Nat.not_lt.1 λ z=>q c hc (decide_eq_true z)
  ·rw[qS hon _ hc];exact Nat.zero_le _
 ·intro q c _ z;have:=q c;rw[fU,fS] at this;exact Nat.not_lt.2 this (of_decide_eq_true z)
theorem r7{h:List HEv}{cut F:List Nat}(hv:Valid h)(hon:∀e∈h,e.1∈ps)(hl:F.length=sz)(hF:∀p,p<sz->dc h cut h.length p<=F.getD p 0)(hFc:∀p,F.getD p 0<=cut.getD p 0)(hct:∀p,p<sz->cut.getD p 0<=bD h p)(hb:dF ps h F=none):F=w5 h cut sz:=by
 have hC:=(nV hv hon).1 hb;apply List.ext_getElem?;intro i;by_cases hi:i<sz
 ·have e:F.getD i 0=_:=Nat.le_antisymm (lI hv hC hFc i (Nat.le_trans (hFc i) (hct i hi))) (hF i hi);rw[rL hi,<-e,List.getElem?_eq_getElem (hl▸hi),List.getD_eq_getElem?_getD,List.getElem?_eq_getElem (hl▸hi)];rfl
 ·rw[List.getElem?_eq_none (hl▸Nat.not_lt.1 hi),List.getElem?_eq_none (by rw[w5,List.length_map,List.length_range];exact Nat.not_lt.1 hi)]
theorem xo(ps:List Ch)(h:List HEv)(F:List Nat):ps.map (fK h F)=lT ps h F:=
 List.map_congr_left λ c _=>by unfold fK;rw[fS,fU]
end Mine.Internal.Q.L3
end
section
namespace Mine.Internal.Q
open PySem Classical Mine.Internal.L3
noncomputable def Ok(k:Nat)(x:PyData):Prop:=x.depth<=k/\PyData.eqv x x=true
theorem nQ{k:Nat}{l:List PyData}(h:∀x∈l,Ok k x):PyData.depthAll l<=k/\PyData.eqvAll l l=true:=by
 induction l with
 |nil=>exact⟨Nat.zero_le _,rfl⟩
 |cons x r ih=>
  have h1:=h x (by exact List.mem_cons_self);have h2:=ih λ y hy=>h y (by exact List.mem_cons_of_mem _ ‹_›);refine⟨Nat.max_le.2 ⟨h1.1,h2.1⟩,?_⟩;show(PyData.eqv x x && PyData.eqvAll r r)=true;rw[h1.2,h2.2];rfl
theorem rm{k:Nat}{l:List PyData}(h:∀x∈l,Ok k x):Ok (k+1) (.list l):=⟨Nat.succ_le_succ (nQ h).1,(nQ h).2⟩
theorem dN{k:Nat}{l:List PyData}(h:∀x∈l,Ok k x):Ok (k+1) (.tuple l):=⟨Nat.succ_le_succ (nQ h).1,(nQ h).2⟩
theorem c7(k:Nat)(i:Int):Ok k (.int i):=⟨Nat.zero_le _,by rw[b9];exact if_pos rfl⟩
theorem gx(k:Nat)(i:Str):Ok k (.str i):=⟨Nat.zero_le _,by rw[fZ];exact if_pos rfl⟩
theorem mK(k:Nat):Ok k .none:=⟨Nat.zero_le _,rfl⟩
theorem cE{α:Type}{k:Nat}{f:α->PyData}(l:List α)(h:∀x,Ok k (f x)):Ok (k+1) (.list (l.map f)):=
 rm λ x hx=>by obtain⟨y,_,rfl⟩:=List.mem_map.1 hx;exact h y
theorem Ok.up{k k':Nat}{x:PyData}(h:Ok k x)(hk:k<=k'):Ok k' x:=⟨Nat.le_trans h.1 hk,h.2⟩
theorem ne_self{k:Nat}{x:PyData}{σ:aa}(h:Ok k x)(hk:k<=64):i3 σ .NotEq (.d x) (.d x)=some false:=
 vK (by rw[Nat.min_self];exact Nat.le_trans h.1 hk) (by rw[h.2];rfl)
theorem item_last{xs:List PyData}{x:PyData}{σ:aa}:gF σ (.d (.list (xs++[x]))) (.d (.int (-1)))=some (.d x):=by
 show(fi (.list (xs++[x])) (-1)).map V.d=_;have e:fi (.list (xs++[x])) (-1)=some x:=by
  show(seqIndex? (-1) (xs++[x]).length).bind (λ j=>(xs++[x])[j]?)=_;rw[nE];exact List.getElem?_concat_length
 rw[e];rfl
theorem sf{Φ:Or}{o e:Expr}{p q:Pos}{ρ:ah}{σ σ1 σ2:aa}{x:PyData}{xs:List PyData}{k:Nat}(h1:ev Φ o ρ σ=some (.d (.tuple xs),σ1))(h2:ev Φ e ρ σ1=some (.d x,σ2))(h3:pE x 0 xs=some k):ev Φ (.Call (.Attribute o "index" p) [e] [] q) ρ σ=some (.d (.int k),σ2):=by
 refine cZ h1 (k:=2) rfl (ae h2 rfl) rfl ?_;show((pE x 0 xs).bind λ k=>some (V.d (.int k),σ2))=_;rw[h3];rfl
theorem dh{Φ:Or}{x:PyData}{xs:List PyData}{σ:aa}(h:items? x=some xs):dZ Φ false "list" [.d x] σ=some (.d (.list xs),σ):=by
 show((items? x).bind λ xs=>cF false (xs.map .d) σ)=_;rw[h];show(l0 (xs.map V.d)).map _=_;have:=kC (λ x:PyData=>x) xs;simp only[List.map_id'] at this;rw[this];rfl
theorem mul_list{xs:List PyData}{σ:aa}{n:Nat}(h:xs.length*n<=50000)(h2:n<=50000):sS false .Mult (.d (.list xs)) (.d (.int (n:Nat))) σ=some (.d (.list (times xs n)),σ):=by
 show((if xs.length*(n:Int).toNat<=LIM/\0<=(n:Int)/\(n:Int)<=(LIM:Int) then some (PyData.list (times xs (n:Int).toNat)) else none).bind λ r=>some (V.d r,σ))=_;rw[if_pos ⟨by simp only[Int.toNat_natCast,LIM];exact Nat.le_trans ‹_› (by decide),by exact Int.natCast_nonneg _,by simp[LIM];exact Int.ofNat_le.2 (Nat.le_trans ‹_› (by decide))⟩,Int.toNat_natCast];rfl
theorem qy{α β:Type}(f:α->β)(l:List α)(n:Nat):times (l.map f) n=(times l n).map f:=by
 induction n with
 |zero=>rfl
 |succ n ih=>rw[times,times,ih,List.map_append]
theorem kY{α:Type}(l:List α)(n:Nat):(times l n).length=l.length*n:=by
 induction n with
 |zero=>rfl
 |succ n ih=>rw[times,List.length_append,ih,Nat.mul_succ];exact Nat.add_comm _ _
theorem yc{xs ys:List PyData}{σ:aa}(h:xs.length+ys.length<=LIM)(h1:xs≠[])(h2:ys≠[]):sS false .Add (.d (.tuple xs)) (.d (.tuple ys)) σ=some (.d (.tuple (xs++ys)),σ):=by
 show((if xs.length+ys.length<=LIM/\xs≠[]/\ys≠[] then some (PyData.tuple (xs++ys)) else none).bind λ r=>some (V.d r,σ))=_;rw[if_pos ⟨h,h1,h2⟩];rfl
theorem Ov.pin{ns:List Str}{ρ0 ρ:ah}(h:Ov ns ρ0 ρ){x:Str}{v:V}(hx:ρ x=some v):∃f,Ov ns ρ0 f/\ρ=Mine.Internal.upd f x v:=
 ⟨ρ,h,by funext y;by_cases e:y=x<;>simp[Mine.Internal.upd,e,hx]⟩
theorem all_true{Φ:Or}{own:Bool}{σ:aa}{n:Nat}:dZ Φ own "all" [.d (.list (List.replicate n (.bool true)))] σ=some (.d (.bool true),σ):=by
 have:∀n,iQ (List.replicate n (.bool true))=some (List.replicate n true):=by
  intro n
  induction n with
  |zero=>rfl
  |succ n ih=>rw[List.replicate_succ,iQ,ih];rfl
 show((iQ (List.replicate n (.bool true))).bind λ bs=>some (V.d (.bool (bs.all id)),σ))=_;rw[this];show some (V.d (.bool ((List.replicate n true).all id)),σ)=_;congr 4;simp
namespace L3
theorem fP(l:List Int):Ok 1 (bb l):=cE l (c7 0)
theorem mL(l:List Nat):Ok 1 (bo l):=cE l λ n=>c7 0 _
theorem cA(k:Nat):∀x∈([]:List PyData),Ok k x:=λ x hx=>by cases hx
theorem ay{k:Nat}{a:PyData}{l:List PyData}(h:Ok k a)(hl:∀x∈l,Ok k x):∀x∈a::l,Ok k x:=λ x hx=>by
 rcases List.mem_cons.1 hx with rfl | hx
 ·exact h
 ·exact hl x hx
theorem yX(m:Msg):Ok 1 (c4 m):=by
 cases m with
 |pay v=>exact dN (ay (gx 0 _) (ay (c7 0 _) (cA 0)))
 |mark v=>exact dN (ay (gx 0 _) (ay (gx 0 _) (cA 0)))
theorem CU(l:List Msg):Ok 2 (eQ l):=cE l yX
theorem wK(t:Nat×List Int):Ok 2 (dy t):=dN (ay (gx 1 _) (ay (fP _) (cA 1)))
theorem yV(o:Option Int):Ok 0 (eOI o):=by cases o with
 |none=>exact mK 0
 |some i=>exact c7 0 i
theorem yU(o:Option Nat):Ok 0 (eON o):=by cases o with
 |none=>exact mK 0
 |some i=>exact c7 0 _
theorem wL(s:Snap):Ok 4 (df s):=
 dN (ay (gx 3 _) (ay ((cE _ yV).up (by decide)) (ay ((cE _ yU).up (by decide)) (ay (cE _ wK) (cA 3)))))
theorem tS(S:St):Ok 6 (eSt S):=
 dN (ay ((fP _).up (by decide)) (ay ((cE _ CU).up (by decide)) (ay ((mL _).up (by decide)) (ay (cE _ wL) (cA 5)))))
theorem BX(o:Option Snap):Ok 3 (eW o):=by
 cases o with
 |none=>exact mK 3
 |some s=>exact dN (ay ((cE _ yV).up (by decide)) (ay ((cE _ yU).up (by decide)) (ay (cE _ λ t=>fP _) (cA 2))))
theorem wM(c:Ch):Ok 1 (ax c):=dN (ay (c7 0 _) (ay (c7 0 _) (cA 0)))
theorem A9(x:HEv):Ok 1 (eH x):=by
 obtain⟨c,v⟩:=x;cases v with
 |none=>exact dN (ay (gx 0 _) (ay (c7 0 _) (ay (c7 0 _) (cA 0))))
 |some v=>exact dN (ay (gx 0 _) (ay (c7 0 _) (ay (c7 0 _) (ay (c7 0 _) (cA 0)))))
theorem wN(h:List HEv):Ok 2 (.list (h.map eH)):=cE h A9
theorem yW(sz:Nat)(ps:List Ch):Ok 3 (iv sz ps):=dN (ay (c7 2 _) (ay (cE ps wM) (cA 2)))
structure mq(N:Net):Prop where
 nd:N.pairs.Nodup
 on:∀c∈N.pairs,c.1<N.size/\c.2<N.size
 two:N.size=2\/N.size=3
 ne:N.pairs≠[]
 le:N.pairs.length<=4
 st:N.strong=true->jD N.size N.pairs
theorem we:jD 2 [(0,1),(1,0)]:=by
 intro S ⟨p,hp,hS⟩ hc q hq;have a:=hc (0,1) (by exact List.mem_cons_self);have b:=hc (1,0) (by decide);simp only at a b;have hp':p=0\/p=1:=by lia
 have hq':q=0\/q=1:=by lia
 rcases hp' with rfl | rfl<;>rcases hq' with rfl | rfl<;>simp_all
theorem wc:jD 3 [(0,1),(1,2),(2,0)]:=by
 intro S ⟨p,hp,hS⟩ hc q hq;have a:=hc (0,1) (by exact List.mem_cons_self);have b:=hc (1,2) (by decide);have d:=hc (2,0) (by decide);simp only at a b d;have hp':p=0\/p=1\/p=2:=by lia
 have hq':q=0\/q=1\/q=2:=by lia
 rcases hp' with rfl | rfl | rfl<;>rcases hq' with rfl | rfl | rfl<;>simp_all
theorem wb:jD 3 [(1,0),(0,2),(2,1),(0,1)]:=by
 intro S ⟨p,hp,hS⟩ hc q hq;have a:=hc (1,0) (by exact List.mem_cons_self);have b:=hc (0,2) (by decide);have d:=hc (2,1) (by decide);simp only at a b d;have hp':p=0\/p=1\/p=2:=by lia
 have hq':q=0\/q=1\/q=2:=by lia
 rcases hp' with rfl | rfl | rfl<;>rcases hq' with rfl | rfl | rfl<;>simp_all
theorem wX:∀N∈yi,mq N:=by
 intro N hN;simp only[yi,List.mem_cons,List.mem_nil_iff,or_false] at hN;rcases hN with rfl | rfl | rfl | rfl | rfl
 ·exact⟨by decide,by decide,.inl rfl,by decide,by decide,λ _=>we⟩
 ·exact⟨by decide,by decide,.inr rfl,by decide,by decide,λ _=>wc⟩
 ·exact⟨by decide,by decide,.inr rfl,by decide,by decide,λ _=>wb⟩
 ·exact⟨by decide,by decide,.inr rfl,by decide,by decide,λ h=>by cases h⟩
 ·exact⟨by decide,by decide,.inr rfl,by decide,by decide,λ h=>by cases h⟩
theorem oi{ps:List Ch}{p:Nat}{n:Str}:aY (aJ ps p n)=[]:=dW rfl λ _=>rfl
theorem oG{ps places:List Ch}{starts:List Int}{log:List Ent}{e:Evt}(hE:d5 starts.length places e) :
  ((aR ps starts log e).1≠"done"/\(aR ps starts log e).2=log)\/
  ((aR ps starts log e).1="done"/\∃l x,(aR ps starts log e).2=l++[x]/\
   ((∃y,eH y=eB e/\aY (aR ps starts log e).2=aY log++[y]/\((∃c v,x=Ent.out c (.pay v))\/∃c v,x=Ent.inn c (.pay v)))\/
    (aY (aR ps starts log e).2=aY log/\((∃c n,x=Ent.out c (.mark n))\/(∃c n,x=Ent.inn c (.mark n))\/∃p n,x=Ent.save p n/\(n="red"\/n="blue"))))):=by
 cases e with
 |snap p n=>
  by_cases h:n∈names log
  ·rw[show aR ps starts log (.snap p n)=_ from if_pos h];exact .inl ⟨(by decide:("known":Str)≠"done"),rfl⟩
  ·rw[show aR ps starts log (.snap p n)=_ from if_neg h];obtain⟨l,x,hx⟩:=(List.eq_nil_or_concat (aJ ps p n)).resolve_left (List.cons_ne_nil _ _);rw[List.concat_eq_append] at hx;have hm:x∈aJ ps p n:=hx▸List.mem_append_right _ List.mem_cons_self;refine .inr ⟨rfl,log++[.snap p n]++l,x,(congrArg (_++·) hx).trans (List.append_assoc ..).symm,.inr ⟨?_,(List.mem_cons.1 hm).elim (λ e=>.inr (.inr ⟨p,n,e,hE.2⟩)) λ q=>(dR q).elim λ c h=>.inl ⟨c,n,h.2.2⟩⟩⟩;show aY (log++[Ent.snap p n]++aJ ps p n)=aY log;rw[cV,cV,oi];exact(List.append_nil _).trans (List.append_nil _)
 |send c v=>
  by_cases h:c∈ps
  ·rw[show aR ps starts log (.send c v)=_ from if_pos h];by_cases h':bp log c.1 (starts.getD c.1 0)<v
   ·rw[if_pos h'];exact .inl ⟨(by decide:("too much":Str)≠"done"),rfl⟩
   ·rw[if_neg h'];exact .inr ⟨rfl,log,_,rfl,.inl ⟨(c,some v),rfl,cV ..,.inl ⟨_,_,rfl⟩⟩⟩
  ·rw[show aR ps starts log (.send c v)=_ from if_neg h];exact .inl ⟨(by decide:("no channel":Str)≠"done"),rfl⟩
 |recv c=>
  by_cases h:c∈ps
  ·rw[show aR ps starts log (.recv c)=_ from if_pos h];cases hq:ai log c with
   |nil=>exact .inl ⟨(by decide:("nothing":Str)≠"done"),rfl⟩
   |cons m r=>
    cases m with
    |pay v=>exact .inr ⟨rfl,log,_,rfl,.inl ⟨(c,none),rfl,cV ..,.inr ⟨_,_,rfl⟩⟩⟩
    |mark n=>
     refine .inr ⟨rfl,_,_,rfl,.inr ⟨?_,.inr (.inl ⟨_,_,rfl⟩)⟩⟩;show aY ((if Ent.save c.2 n∈log then log else log++aJ ps c.2 n)++[.inn c (.mark n)])=aY log;rw[cV];by_cases hs:Ent.save c.2 n∈log
     ·rw[if_pos hs];exact List.append_nil _
     ·rw[if_neg hs,cV,oi];exact(List.append_nil _).trans (List.append_nil _)
  ·rw[show aR ps starts log (.recv c)=_ from if_neg h];exact .inl ⟨(by decide:("no channel":Str)≠"done"),rfl⟩
end L3
end Mine.Internal.Q
end
section
namespace Mine.Internal.Q
open PySem Classical Mine.Internal.L3
noncomputable def Has(ρ:ah):List (Str×V)->Prop
 |[]=>True
 |(x,v)::r=>ρ x=some v/\Has ρ r
noncomputable def Be(ρ:ah):List (Str×V)->ah
 |[]=>ρ
 |(x,v)::r=>Mine.Internal.upd (Be ρ r) x v
theorem pins{ρ:ah}{l:List (Str×V)}(h:Has ρ l):ρ=Be ρ l:=by
 induction l with
 |nil=>rfl
 |cons p r ih=>
  obtain⟨x,v⟩:=p;have:=ih h.2;funext y;show ρ y=if y=x then some v else Be ρ r y
  by_cases e:y=x
  ·rw[if_pos e,e];exact h.1
  ·rw[if_neg e,<-this]
theorem Wp.AU{Φ:Or}{k:Nat}{b:List Stmt}{p p':Pos}{r:List Stmt}{ρ:ah}{σ:aa}{K:Out->ah->aa->Prop}(h:Wp (xj (λ ρ σ=>xs Φ b ρ σ) Φ.fuel ρ σ) (Thn Φ r K)):Wp (xs Φ (.While (.Constant (.bool true) k p') b [] p::r) ρ σ) K:=by
 apply Wp.cons;have e:x1 Φ (.While (.Constant (.bool true) k p') b [] p) ρ σ=xj (λ ρ σ=>xs Φ b ρ σ) Φ.fuel ρ σ:=rfl;rw[e];exact h
theorem Wp.Bq{step:ah->aa->Res}{fuel:Nat}{K:Out->ah->aa->Prop}(I:Nat->ah->aa->Prop)
  (hs:∀n ρ σ,I n ρ σ->Wp (step ρ σ) (LpK (λ ρ σ=>∃m,m<n/\I m ρ σ) K)):∀(n:Nat) (ρ:ah) (σ:aa),n<fuel->I n ρ σ->Wp (xj step fuel ρ σ) K:=by
 induction fuel with
 |zero=>intro n ρ σ hn;exact absurd ‹_› (Nat.not_lt_zero _)
 |succ f ih=>
  intro n ρ σ hn hI;obtain⟨o,ρ1,σ1,e1,k1⟩:=hs n ρ σ hI;show Wp ((step ρ σ).bind _) K;rw[e1];cases o with
  |nx=>obtain⟨m,hm,hI'⟩:=k1;exact ih m ρ1 σ1 (by lia) hI'
  |ct=>obtain⟨m,hm,hI'⟩:=k1;exact ih m ρ1 σ1 (by lia) hI'
  |br=>exact⟨.nx,ρ1,σ1,rfl,k1⟩
  |ex=>exact k1.elim
  |rt v=>exact⟨.rt v,ρ1,σ1,rfl,k1⟩
theorem yA{Φ:Or}{f:Str}{args:List Expr}{hb:List Stmt}{p1 p2 p3 p4 p5 p6:Pos}{ρ:ah}{σ:aa}:x1 Φ (.Try [.Expr (.Call (.Name f p1) args [] p2) p3] [.ExceptHandler (some (.Name "ValueError" p4)) none hb p5] [] [] p6) ρ σ=(evs Φ args ρ σ).bind λ x=>if x.1.all ie=true then(Φ.P f x.1).bind λ r=>match r with
  |some _=>some (.nx,ρ,x.2)
  |none=>xs Φ hb ρ x.2 else none:=by
 show(if("ValueError":Str)="ValueError" then _ else none)=_;rw[if_pos rfl];rfl
theorem Wp.AX{Φ:Or}{f:Str}{args:List Expr}{hb r:List Stmt}{p1 p2 p3 p4 p5 p6:Pos}{ρ:ah}{σ σ1:aa}{vs:List V}{v:V}{K:Out->ah->aa->Prop}(h:evs Φ args ρ σ=some (vs,σ1))(hs:vs.all ie=true)(hP:Φ.P f vs=some (some v))(hk:Wp (xs Φ r ρ σ1) K):Wp (xs Φ (.Try [.Expr (.Call (.Name f p1) args [] p2) p3] [.ExceptHandler (some (.Name "ValueError" p4)) none hb p5] [] [] p6::r) ρ σ) K:=by
 refine Wp.nx (ρ1:=ρ) (σ1:=σ1) ?_ hk;rw[yA,h];show(if vs.all ie=true then(Φ.P f vs).bind _ else none)=_;rw[if_pos hs,hP];rfl
theorem Wp.AY{Φ:Or}{f:Str}{args:List Expr}{hb r:List Stmt}{p1 p2 p3 p4 p5 p6:Pos}{ρ:ah}{σ σ1:aa}{vs:List V}{K:Out->ah->aa->Prop}(h:evs Φ args ρ σ=some (vs,σ1))(hs:vs.all ie=true)(hP:Φ.P f vs=some none)(hk:Wp (xs Φ hb ρ σ1) (Thn Φ r K)):Wp (xs Φ (.Try [.Expr (.Call (.Name f p1) args [] p2) p3] [.ExceptHandler (some (.Name "ValueError" p4)) none hb p5] [] [] p6::r) ρ σ) K:=by
 apply Wp.cons;have e:x1 Φ (.Try [.Expr (.Call (.Name f p1) args [] p2) p3] [.ExceptHandler (some (.Name "ValueError" p4)) none hb p5] [] [] p6) ρ σ=xs Φ hb ρ σ1:=by
  rw[yA,h];show(if vs.all ie=true then(Φ.P f vs).bind _ else none)=_;rw[if_pos hs,hP];rfl
 rw[e];exact hk
theorem all_map{α:Type}{Φ:Or}{own:Bool}{σ:aa}{l:List α}:dZ Φ own "all" [.d (.list (l.map λ _=>.bool true))] σ=some (.d (.bool true),σ):=by
 rw[List.map_const'];exact all_true
theorem sum_set{F:List Nat}{k:Nat}(h:k<F.length)(h1:1<=F.getD k 0):(F.set k (F.getD k 0-1)).sum+1=F.sum:=by
 induction F generalizing k with
 |nil=>simp at h
 |cons x r ih=>
  cases k with
  |zero=>simp at h1 ⊢;lia
  |succ k=>
   have:=ih (k:=k) (by simpa using h) (by exact h1);simp at this ⊢;lia
namespace L3
noncomputable def sY:List Stmt:=(mQ body).body
theorem sc{zs:List Int}{i:Nat}{σ:aa}(h:i<zs.length):gF σ (.d (.list (zs.map .int))) (.d (.int (i:Nat)))=some (.d (.int (zs.getD i 0))):=by
 show(fi (.list (zs.map .int)) (i:Int)).map V.d=_;rw[item_list (by simpa using h)];simp[h]
theorem nX{ns:List Nat}{i:Nat}{σ:aa}(h:i<ns.length):gF σ (.d (bo ns)) (.d (.int (i:Nat)))=some (.d (.int (ns.getD i 0:Nat))):=vI h
theorem xX{h:List HEv}{cut:List Nat}{sz:Nat}(hl:cut.length=sz)(hc:∀p,p<sz->cut.getD p 0<=bD h p)(ho:∀e∈h,aC e<sz):cut.sum<=h.length:=by
 have e1:cut=(List.range sz).map λ p=>cut.getD p 0:=by
  apply List.ext_getElem?;intro i;refine Classical.byCases (p:=i<sz) (λ hi=>?_) (λ hi=>?_)
  ·rw[List.getElem?_eq_getElem (by lia)];simp[hi,hl]
  ·rw[List.getElem?_eq_none (by lia),List.getElem?_eq_none (by simp;exact Nat.not_lt.mp ‹_›)]
 have e2:((List.range sz).map λ p=>cut.getD p 0).sum<=((List.range sz).map λ p=>bD h p).sum:=by
  have:∀(l:List Nat),(∀p∈l,p<sz)->(l.map λ p=>cut.getD p 0).sum<=(l.map λ p=>bD h p).sum:=by
   intro l
   induction l with
   |nil=>intro _;exact Nat.le_refl _
   |cons x r ih=>
    intro hx;have:=ih λ p hp=>hx p (by simp[hp]);have:=hc x (hx x (by exact List.mem_cons_self));simp only[List.map_cons,List.sum_cons];exact Nat.add_le_add ‹_› ‹_›
  exact this _ λ p hp=>by simpa using hp
 have e3:((List.range sz).map λ p=>bD h p).sum=h.length:=by
  clear hc e1 e2
  induction h with
  |nil=>
   have:(λ p=>bD [] p)=λ _:Nat=>0:=by funext p;rfl
   rw[this];have z:∀l:List Nat,(l.map λ _=>0).sum=0:=by
    intro l
    induction l with
    |nil=>rfl
    |cons x r ih=>simpa using ih
   exact z _
  |cons e r ih=>
   have ih:=ih λ x hx=>ho x (by simp[hx]);have h1:∀p,bD (e::r) p=(if aC e=p then 1 else 0)+bD r p:=by
    intro p;unfold bD;rw[List.filter_cons];by_cases q:aC e=p
    ·simp[q];exact Nat.add_comm _ _
    ·simp[q]
   have h2:∀(l:List Nat),l.Nodup->(l.map λ p=>(if aC e=p then 1 else 0)+bD r p).sum=(if aC e∈l then 1 else 0)+(l.map λ p=>bD r p).sum:=by
    intro l
    induction l with
    |nil=>intro _;rfl
    |cons x t ih2=>
     intro hn;have hn':=List.nodup_cons.1 hn;have:=ih2 hn'.2;simp only[List.map_cons,List.sum_cons,this,List.mem_cons];by_cases q:aC e=x
     ·have:¬aC e∈t:=λ z=>hn'.1 (q▸z);simp[q] at this ⊢;rw[if_neg this];lia
     ·by_cases q2:aC e∈t<;>simp[q,q2]<;>exact Nat.add_left_comm _ _ _
   simp only[h1];rw[h2 _ List.nodup_range,if_pos (by simpa using ho e (by exact List.mem_cons_self)),ih];simp;exact Nat.add_comm _ _
 rw[e1];lia
noncomputable def z8:Option Ch->PyData
 |some c=>.int c.2
 |none=>.none
noncomputable def eFl(ps:List Ch)(h:List HEv)(F:List Nat):PyData:=match dF ps h F with
 |some _=>.list []
 |none=>.list ((lT ps h F).map bb)
theorem oD(ps:List Ch)(h:List HEv)(F:List Nat):m4 ps h F=.tuple [z8 (dF ps h F),eFl ps h F]:=by
 delta m4 eFl;cases dF ps h F<;>rfl
noncomputable def Bu(zs:List Int)(N:Net)(starts:List Int):List (Str×V):=
 [("script",.d (.list (zs.map .int))),("size",.d (.int N.size)),("pairs",.d (.tuple (N.pairs.map ax))),("links",.d (.str (match N.strong with | true=>"strong" | false=>"weak"))),("net",.d (iv N.size N.pairs)),("starts",.d (bb starts)),("opening",.d (bb starts)),("history",.o 1)]
noncomputable def uz(zs:List Int)(N:Net)(starts:List Int)(L:List Ent):List (Str×V):=
 Bu zs N starts++([("state",.d (eSt (cu N.pairs starts L))),("due",.d (eSt (cu N.pairs starts L))),("kept",.d (.list ((aY L).map eH)))]:List (Str×V))
namespace tail14_e
noncomputable section
def P(zs:List Int)(N:Net)(starts:List Int)(L:List Ent)(d0:PyData)(ρ:ah):Prop:=∀(h23:23<=zs.length) (hN:mq N) (hst:starts.length=N.size) (I:Inv starts.length N.pairs L) (hlen:(aY L).length<=250) (hρ:Has ρ (uz zs N starts L)),Wp (xs (prg.run 12) (sY.drop 14) ρ [.frz d0,.frz (.list ((aY L).map eH))]) λ o _ _=>o=.rt (.d (.bool true))
def x:(List Int)×(Net)×(List Int)×(List Ent)×(PyData)×(ah):=@Classical.epsilon _ ⟨(default,⟨0,[],(0,0),false⟩,default,default,.none,default)⟩ λ x=>¬P x.1 x.2.1 x.2.2.1 x.2.2.2.1 x.2.2.2.2.1 x.2.2.2.2.2
def zs:List Int:=x.1
def N:Net:=x.2.1
def starts:List Int:=x.2.2.1
def L:List Ent:=x.2.2.2.1
def d0:PyData:=x.2.2.2.2.1
def ρ:ah:=x.2.2.2.2.2
theorem core:P zs N starts L d0 ρ:=λ h23 hN hst I hlen hρ=>by
 rw[pins hρ];clear hρ;generalize hσ:[Nd.frz d0,Nd.frz (.list ((aY L).map eH))]=σ;have hN1:σ[1]?=some (.frz (.list ((aY L).map eH))):=by rw[<-hσ];rfl
 have hz:∀c∈N.pairs,c.1<starts.length/\c.2<starts.length:=by rw[hst];exact hN.on
 have hv:=fJ I;have hon:=ke I;have how:=oj hz I;rw[hst] at how;have hsz3:N.size<=3:=by rcases hN.two with q | q<;>(first | exact Nat.le_of_eq ‹_› | lia)
 have hsz2:2<=N.size:=by rcases hN.two with q | q<;>lia
 refine Wp.asg (v:=.d (bo ((cu N.pairs starts L).c++[0]))) (σ1:=σ) (aK rfl rfl ((add_list ?_).trans ?_)) ?_
 ·simp[cu,LIM,hst];exact Nat.le_trans ‹_› (by decide)
 ·simp[bo]
 have hroom:((cu N.pairs starts L).c++[0]).length=N.size+1:=by simp[cu,hst]
 have hr:∀p,p<N.size->((cu N.pairs starts L).c++[0]).getD p 0=bD (aY L) p:=by
  intro p hp;rw[om,List.getD_eq_getElem?_getD,List.getElem?_append_left (by simp[cu,hst,hp])];simp[cu,hst,hp]
 generalize (cu N.pairs starts L).c++[0]=room at hroom hr ⊢;refine bC λ k9=>?_;obtain⟨k0,a0,b0⟩:=eg (zs.getD 20 0) (room.getD 0 0+1) (by exact Nat.le_add_left _ _);obtain⟨k1,a1,b1⟩:=eg (zs.getD 21 0) (room.getD 1 0+1) (by exact Nat.le_add_left _ _);obtain⟨k2,a2,b2⟩:=eg (zs.getD 22 0) (room.getD 2 0+1) (by exact Nat.le_add_left _ _);have hcl:(([k0,k1,k2].take N.size)).length=N.size:=by rw[List.length_take];simp;lia
 refine k9 ?_;have hct:∀p,p<N.size->([k0,k1,k2].take N.size).getD p 0<=bD (aY L) p:=by
  intro p hp;rw[List.getD_eq_getElem?_getD,List.getElem?_take_of_lt hp,<-hr p hp];have:p=0\/p=1\/p=2:=by lia
  rcases this with rfl | rfl | rfl
  ·exact Nat.le_of_lt_succ a0
  ·exact Nat.le_of_lt_succ a1
  ·exact Nat.le_of_lt_succ a2
 refine Wp.asg (v:=.d (bo ([k0,k1,k2].take N.size))) (dX (gB (ae (v:=.d (.int k0)) (σ1:=σ) (aK (aj rfl rfl rfl (sc (i:=20) (by lia))) (aK (aj rfl rfl rfl (nX (i:=0) (by lia))) rfl rfl) ((dP (by lia)).trans ?_)) (ae (v:=.d (.int k1)) (σ1:=σ) (aK (aj rfl rfl rfl (sc (i:=21) (by exact Nat.le_of_lt ‹_›))) (aK (aj rfl rfl rfl (nX (i:=1) (by lia))) rfl rfl) ((dP (by lia)).trans ?_)) (ae (v:=.d (.int k2)) (σ1:=σ) (aK (aj rfl rfl rfl (sc (i:=22) (by assumption))) (aK (aj rfl rfl rfl (nX (i:=2) (by lia))) rfl rfl) ((dP (by lia)).trans ?_)) rfl))) rfl) rfl (cJ rfl) ?_) ?_
 ·rw[show((room.getD 0 0:Nat):Int)+1=((room.getD 0 0+1:Nat):Int) by rfl,b0]
 ·rw[show((room.getD 1 0:Nat):Int)+1=((room.getD 1 0+1:Nat):Int) by rfl,b1]
 ·rw[show((room.getD 2 0:Nat):Int)+1=((room.getD 2 0+1:Nat):Int) by rfl,b2]
 ·show some (PyData.list (cutAt none (some ((N.size:Nat):Int)) [.int k0,.int k1,.int k2]))=_;rw[ft,bo,List.map_take];rfl
 clear a0 a1 a2 b0 b1 b2 hr hroom;generalize [k0,k1,k2].take N.size=cut at hcl hct ⊢;refine Wp.Ay (ae (aq rfl (dh rfl)) (ae (aq rfl (dh rfl)) rfl)) rfl ?_;have hcc:∀c∈N.pairs,c.1<cut.length/\c.2<cut.length:=by rw[hcl];exact hN.on
 have hoc:∀e∈aY L,aC e<cut.length:=by rw[hcl];exact how
 have hpl:N.pairs.length<=1000:=Nat.le_trans hN.le (by decide);have hl1:(aY L).length<=1000:=by exact Nat.le_trans ‹_› (by decide)
 refine Wp.unp (v:=.d (.tuple [z8 (dF N.pairs (aY L) cut),eFl N.pairs (aY L) cut])) rfl (aq rfl (aT rfl rfl ((oy 10 N.pairs (aY L) cut hpl hcc).trans (by rw[oD])))) rfl rfl ?_;refine Wp.asg rfl ?_;have rest:∀(ρ1:ah),Has ρ1 (uz zs N starts L++([("cut",.d (bo cut)),("first",.d (bo cut)),("floor",.d (bo cut)),("bad",.d (z8 (dF N.pairs (aY L) cut))),("flow",.d (eFl N.pairs (aY L) cut))]:List (Str×V)))->Wp (xs (prg.run 12) (sY.drop 23) ρ1 σ) λ o _ _=>o=.rt (.d (.bool true)):=by
  intro ρ1 h1;rw[pins h1];clear h1;have hsum:cut.sum<300:=by
   have:cut.sum<=(aY L).length:=xX hcl hct how;lia
  refine Wp.AU (Wp.Bq (λ n ρ τ=>∃F:List Nat,F.sum=n/\F.length=N.size/\(∀p,p<N.size->dc (aY L) cut (aY L).length p<=F.getD p 0)/\(∀p,F.getD p 0<=cut.getD p 0)/\τ=σ/\Ov ["floor","bad","flow"] _ ρ/\Has ρ [("floor",.d (bo F)),("bad",.d (z8 (dF N.pairs (aY L) F))),("flow",.d (eFl N.pairs (aY L) F))]) ?_ cut.sum _ _ hsum ⟨cut,rfl,hcl,λ p _=>rJ hv p,λ p=>Nat.le_refl _,rfl,Ov.refl,rfl,rfl,rfl,trivial⟩);rintro n ρ τ ⟨F,rfl,hFl,hlo,hhi,rfl,⟨f,rfl⟩,hF⟩;rw[pins hF];clear hF;cases hb:dF N.pairs (aY L) F with
  |none=>
   refine Wp.ifT rfl ⟨.br,_,_,rfl,?_⟩;have hFl':=r7 (sz:=N.size) hv hon hFl hlo hhi hct hb;have hCl:Cons (aY L) F:=(nV hv hon).1 hb;have hoF:∀e∈aY L,aC e<F.length:=by rw[hFl];exact how
   have hflow:eFl N.pairs (aY L) F=.list ((N.pairs.map (fK (aY L) F)).map bb):=by rw[xo];simp only[eFl,hb]
   rw[hflow];refine Wp.asg (v:=.d (bo F)) (aq (ae rfl (ae (cB rfl rfl rfl hN1) (ae rfl rfl))) (aT rfl rfl ((rY 8 N.size (aY L) cut hv hl1 (by exact Nat.le_trans ‹_› (by decide)) hoc how).trans (by rw[hFl'];rfl)))) ?_;refine Wp.ifF (kT (a:=false) (b:=false) (af (ao rfl rfl (ne_self (mL F) (by decide)))) λ _=>cS (a:=false) (b:=false) (cO (b:=true) ?_) λ _=>rfl) (Wp.fin ?_)
   ·show((ev _ _ _ _).bind fun(x:V×aa)=>(dH x.2 x.1).bind λ b=>some (b,x.2))=_;rw[aq (ae (bj (fun(n:Nat)=>PyData.int n) (ys:=F) (λ _=>.bool true) rfl rfl λ y hy=>⟨_,rfl,rfl⟩) rfl) all_map];rfl
   refine Wp.ifF (kT (a:=false) (b:=false) (af (ao (aq (ae rfl (ae (cB rfl rfl rfl hN1) (ae rfl rfl))) (aT rfl rfl ((ew 8 N.size (aY L) F hv hl1 hoF).trans (by rw[decide_eq_true hCl])))) rfl rfl)) λ _=>cS (a:=false) (b:=false) (af (ao (aq (ae rfl (ae (cB rfl rfl rfl hN1) (ae rfl rfl))) (aT rfl rfl (qq 7 N.size N.pairs (aY L) F hv hl1 hpl hN.nd hoF hon hCl (λ g post c hs=>eT hv hCl g post c hs)))) rfl (ne_self (cE _ fP) (by decide)))) λ _=>rfl) (Wp.fin ?_);refine Wp.ifF (kT (a:=false) (b:=false) (af (ao rfl (aU (ae rfl (ae (aq rfl (dh rfl)) rfl)) rfl) (ne_self (yW N.size N.pairs) (by decide)))) λ _=>cS (a:=false) (b:=false) (af (ao rfl rfl (ne_self (fP starts) (by decide)))) λ _=>cS (a:=false) (b:=false) (af (ao (cB rfl rfl rfl hN1) rfl (ne_self (wN (aY L)) (by decide)))) λ _=>cS (a:=false) (b:=false) (af (ao rfl rfl (ne_self (mL cut) (by decide)))) λ _=>cS (a:=false) (b:=false) (af (ao rfl rfl (ne_self (tS (cu N.pairs starts L)) (by decide)))) λ _=>rfl) (Wp.fin ?_);exact Wp.ret rfl rfl
  |some c=>
   have hcm:c∈N.pairs:=List.mem_of_find?_eq_some hb;have hcb:=List.find?_some hb;simp only[decide_eq_true_eq] at hcb;have hst':=pM (sz:=N.size) (cut:=cut) hv how hlo (hN.on c hcm).1 (hN.on c hcm).2 hcb;have hc2:c.2<F.length:=by rw[hFl];exact(hN.on c hcm).2
   refine Wp.ifF rfl (Wp.fin ?_);have sl1:slice? (bo F) none (some ((c.2:Nat):Int))=some (.list ((F.take c.2).map fun(n:Nat)=>PyData.int n)):=by
    show some (PyData.list (cutAt none (some ((c.2:Nat):Int)) (F.map fun(n:Nat)=>PyData.int n)))=_;rw[ft,List.map_take]
   have sl2:slice? (bo F) (some ((c.2:Nat)+1:Int)) none=some (.list ((F.drop (c.2+1)).map fun(n:Nat)=>PyData.int n)):=by
    show some (PyData.list (cutAt (some ((c.2:Nat)+1:Int)) none (F.map fun(n:Nat)=>PyData.int n)))=_;rw[show((c.2:Nat)+1:Int)=((c.2+1:Nat):Int) by rfl,g0,List.map_drop]
   refine Wp.asg (v:=.d (bo (F.set c.2 (F.getD c.2 0-1)))) (σ1:=τ) ((aK (aK (dX rfl rfl (cJ rfl) sl1) (gB (ae (aK (aj rfl rfl rfl (nX hc2)) rfl rfl) rfl) rfl) (add_list ?_)) (dX rfl (cJ (aK rfl rfl rfl)) rfl sl2) (add_list ?_)).trans ?_) ?_
   ·rw[List.length_map,List.length_take];show _+1<=100000;lia
   ·rw[List.length_append,List.length_map,List.length_map,List.length_take,List.length_drop];show _+1+_<=100000;lia
   ·show some (V.d (.list (((F.take c.2).map fun(n:Nat)=>PyData.int n)++[.int (((F.getD c.2 0:Nat):Int)-1)]++((F.drop (c.2+1)).map fun(n:Nat)=>PyData.int n))),τ)=_;rw[show(((F.getD c.2 0:Nat):Int)-1)=((F.getD c.2 0-1:Nat):Int) by lia,bo,List.set_eq_take_append_cons_drop,if_pos hc2];simp
   have hFl':(F.set c.2 (F.getD c.2 0-1)).length=N.size:=by rw[List.length_set];exact hFl
   have hcc':∀d∈N.pairs,d.1<(F.set c.2 (F.getD c.2 0-1)).length/\d.2<(F.set c.2 (F.getD c.2 0-1)).length:=by rw[hFl'];exact hN.on
   have hget:∀p,(F.set c.2 (F.getD c.2 0-1)).getD p 0=if p=c.2 then F.getD c.2 0-1 else F.getD p 0:=by
    intro p;by_cases q:p=c.2
    ·subst q;simp[hc2]
    ·have q':¬c.2=p:=λ z=>q z.symm;simp[q,q']
   have hsm:=sum_set hc2 (by lia);generalize F.set c.2 (F.getD c.2 0-1)=F' at hFl' hcc' hget hsm ⊢;refine Wp.unp (v:=.d (.tuple [z8 (dF N.pairs (aY L) F'),eFl N.pairs (aY L) F'])) rfl (aq rfl (aT rfl rfl ((oy 10 N.pairs (aY L) F' hpl hcc').trans (by rw[oD])))) rfl rfl (Wp.nil ⟨F'.sum,by exact Nat.le_of_eq ‹_›,F',rfl,hFl',?_,?_,rfl,by repeat first | exact⟨f,rfl⟩ | refine Ov.upd ?_ rfl,rfl,rfl,rfl,trivial⟩)
   ·intro p hp;rw[hget];by_cases q:p=c.2
    ·rw[if_pos q,q];lia
    ·rw[if_neg q];exact hlo p hp
   ·intro p;rw[hget];by_cases q:p=c.2
    ·rw[if_pos q,q];have:=hhi c.2;lia
    ·rw[if_neg q];exact hhi p
 by_cases hC:Cons (aY L) cut
 ·have hb:dF N.pairs (aY L) cut=none:=(nV hv hon).2 hC;refine Wp.AX (ae rfl (ae (cB rfl rfl rfl hN1) (ae rfl rfl))) rfl (qq 7 N.size N.pairs (aY L) cut hv hl1 hpl hN.nd hoc hon hC (λ g post c hs=>eT hv hC g post c hs)) ?_;refine Wp.asg (v:=.d (.bool true)) (aq (ae rfl (ae (cB rfl rfl rfl hN1) (ae rfl rfl))) (aT rfl rfl ((ew 8 N.size (aY L) cut hv hl1 hoc).trans (by simp[hC])))) ?_;rw[hb] at rest ⊢;refine Wp.ifF rfl (Wp.fin ?_);refine Wp.ifF rfl (Wp.fin ?_);exact rest _ ⟨rfl,rfl,rfl,rfl,rfl,rfl,rfl,rfl,rfl,rfl,rfl,rfl,rfl,rfl,rfl,rfl,trivial⟩
 ·obtain⟨c,hb⟩:∃c,dF N.pairs (aY L) cut=some c:=by
   cases hq:dF N.pairs (aY L) cut with
   |none=>exact absurd ((nV hv hon).1 hq) hC
   |some c=>exact⟨c,rfl⟩
  refine Wp.AY (ae rfl (ae (cB rfl rfl rfl hN1) (ae rfl rfl))) rfl (qr 7 N.size N.pairs (aY L) cut hv hl1 hoc hC) (Wp.asg rfl (Wp.fin ?_));refine Wp.asg (v:=.d (.bool false)) (aq (ae rfl (ae (cB rfl rfl rfl hN1) (ae rfl rfl))) (aT rfl rfl ((ew 8 N.size (aY L) cut hv hl1 hoc).trans (by simp[hC])))) ?_;rw[hb] at rest ⊢;refine Wp.ifF rfl (Wp.fin ?_);refine Wp.ifF rfl (Wp.fin ?_);exact rest _ ⟨rfl,rfl,rfl,rfl,rfl,rfl,rfl,rfl,rfl,rfl,rfl,rfl,rfl,rfl,rfl,rfl,trivial⟩
end
end tail14_e
theorem yC(zs:List Int)(h23:23<=zs.length)(N:Net)(hN:mq N)(starts:List Int)(hst:starts.length=N.size)(L:List Ent)(I:Inv starts.length N.pairs L)(hlen:(aY L).length<=250)(d0:PyData)(ρ:ah)(hρ:Has ρ (uz zs N starts L)):Wp (xs (prg.run 12) (sY.drop 14) ρ [.frz d0,.frz (.list ((aY L).map eH))]) λ o _ _=>o=.rt (.d (.bool true)):=aw (Q:=λ x:(List Int)×(Net)×(List Int)×(List Ent)×(PyData)×(ah)=>tail14_e.P x.1 x.2.1 x.2.2.1 x.2.2.2.1 x.2.2.2.2.1 x.2.2.2.2.2) tail14_e.core (zs,N,starts,L,d0,ρ) h23 hN hst I hlen hρ
end L3
end Mine.Internal.Q
end
section
namespace Mine.Internal.Q
open PySem Classical Mine.Internal.L3
theorem sC{α:Type}{Φ:Or}{own:Bool}{l:List α}{f:α->Int}{σ:aa}:dZ Φ own "sum" [.d (.list (l.map λ x=>.int (f x)))] σ=some (.d (.int (l.map f).sum),σ):=by
 have:(l.map λ x=>PyData.int (f x))=(l.map f).map PyData.int:=by simp[Function.comp_def]
 rw[this];exact ey
namespace L3
noncomputable def zU(zs:List Int)(N:Net)(starts:List Int)(L:List Ent):List (Str×V):=
 Bu zs N starts++([("state",.d (eSt (cu N.pairs starts L))),("due",.d (eSt (cu N.pairs starts L)))]:List (Str×V))
namespace tail11_e
noncomputable section
def P(zs:List Int)(N:Net)(starts:List Int)(L:List Ent)(d0:PyData)(ρ:ah):Prop:=∀(h23:23<=zs.length) (hN:mq N) (hst:starts.length=N.size) (I:Inv starts.length N.pairs L) (hlen:(aY L).length<=250) (hq:∀c∈N.pairs,ai L c=[]) (hρ:Has ρ (zU zs N starts L)),Wp (xs (prg.run 12) (sY.drop 11) ρ [.frz d0,.lst (((aY L).map eH).map .d)]) λ o _ _=>o=.rt (.d (.bool true))
def x:(List Int)×(Net)×(List Int)×(List Ent)×(PyData)×(ah):=@Classical.epsilon _ ⟨(default,⟨0,[],(0,0),false⟩,default,default,.none,default)⟩ λ x=>¬P x.1 x.2.1 x.2.2.1 x.2.2.2.1 x.2.2.2.2.1 x.2.2.2.2.2
def zs:List Int:=x.1
def N:Net:=x.2.1
def starts:List Int:=x.2.2.1
def L:List Ent:=x.2.2.2.1
def d0:PyData:=x.2.2.2.2.1
def ρ:ah:=x.2.2.2.2.2
theorem core:P zs N starts L d0 ρ:=λ h23 hN hst I hlen hq hρ=>by
 rw[pins hρ];clear hρ;have hz:∀c∈N.pairs,c.1<starts.length/\c.2<starts.length:=by rw[hst];exact hN.on
 have hv:=fJ I;have hon:=ke I;have how:=oj hz I;have hsz3:N.size<=3:=by rcases hN.two with q | q<;>(first | exact Nat.le_of_eq ‹_› | lia)
 have hpl:N.pairs.length<=1000:=Nat.le_trans hN.le (by decide);have hl1:(aY L).length<=1000:=by exact Nat.le_trans ‹_› (by decide)
 refine Wp.asg (v:=.d (.list ((aY L).map eH))) (σ1:=[.frz d0,.frz (.list ((aY L).map eH))]) (aq (ae (eI rfl rfl rfl rfl) rfl) (dh rfl)) ?_;have keep:∀ρ',Has ρ' (uz zs N starts L)->Wp (xs (prg.run 12) (sY.drop 14) ρ' [.frz d0,.frz (.list ((aY L).map eH))]) λ o _ _=>o=.rt (.d (.bool true)):=λ ρ' h'=>yC zs h23 N hN starts hst L I hlen d0 ρ' h';generalize hσ:[Nd.frz d0,Nd.frz (.list ((aY L).map eH))]=σ at keep ⊢;have hN1:σ[1]?=some (.frz (.list ((aY L).map eH))):=by rw[<-hσ];rfl
 have hq':((cu N.pairs starts L).q.map eQ)=N.pairs.map λ _=>PyData.list []:=by
  simp only[cu,List.map_map];apply List.map_congr_left;intro c hc;simp only[Function.comp,hq c hc];rfl
 have hqd:PyData.list ((cu N.pairs starts L).q.map eQ)=PyData.list (N.pairs.map λ _=>PyData.list []):=by rw[hq']
 refine Wp.ifF (kT (a:=false) (b:=false) (af (ao (a:=.d (.list (N.pairs.map λ _=>PyData.list []))) (σ1:=σ) ?_ (bj ax (ys:=N.pairs) (λ _=>.list []) rfl rfl λ c hc=>⟨_,rfl,rfl⟩) (ne_self (cE (k:=1) N.pairs λ _=>rm (k:=0) (cA 0)) (by decide)))) λ _=>cS (a:=false) (b:=false) (cO (b:=true) ?_) λ _=>rfl) (Wp.fin ?_)
 ·rw[<-hqd];rfl
 ·show((ev _ _ _ _).bind fun(x:V×aa)=>(dH x.2 x.1).bind λ b=>some (b,x.2))=_;rw[aq (ae (bj PyData.int (ys:=(cu N.pairs starts L).b++(cu N.pairs starts L).c.map fun(n:Nat)=>(n:Int)) (λ _=>.bool true) (σ1:=σ) ?_ rfl λ y hy=>⟨_,rfl,rfl⟩) rfl) all_map]
  ·rfl
  ·show iK (ev _ _ _ _)=_;have hb:((cu N.pairs starts L).b.map PyData.int).length+((cu N.pairs starts L).c.map fun(n:Nat)=>PyData.int n).length<=LIM:=by
    simp[cu,LIM,hst];lia
   rw[aK rfl rfl (add_list hb)]
   ·show some (List.map V.d (((cu N.pairs starts L).b.map PyData.int)++((cu N.pairs starts L).c.map fun(n:Nat)=>PyData.int n)),σ)=_;simp[Function.comp_def]
 refine Wp.for (ys:=((["red","blue","gone"]:List Str).map PyData.str).map V.d) rfl ?_;refine Wp.ox PyData.str (λ pre ρ τ=>Ov ["name","got","saved","cut","tapes"] _ ρ/\τ=σ) ⟨Ov.refl,rfl⟩ ?_ ?_
 ·rintro pre nm post ρ τ _ ⟨⟨f,rfl⟩,rfl⟩;refine Wp.bind rfl ?_;refine Wp.asg (aq rfl (aT rfl rfl (whole_run 10 (cu N.pairs starts L) nm))) ?_;refine Wp.ifF (af (ao rfl (aq rfl (aT rfl rfl (ju 10 (cu N.pairs starts L).s nm))) (ne_self (BX (wholeOf (cu N.pairs starts L).s nm)) (by decide)))) (Wp.fin ?_);cases hw:wholeOf (cu N.pairs starts L).s nm with
  |none=>
   refine Wp.ifF (bU (a:=true) (b:=false) rfl λ _=>?_) (Wp.fin ?_)
   ·by_cases hs:N.strong=true
    ·have hnn:nm∉names L:=by
      intro hn;have hw2:=k8 hz (by rw[hst];exact hN.st hs) I hq hn;unfold wholeOf at hw;rw[List.find?_eq_none] at hw;have:=hw (bJ N.pairs starts L nm) (List.mem_map.2 ⟨nm,hn,rfl⟩);rw[hw2] at this;simp[bJ] at this
     refine(a8 (a:=true) (b:=false && true) (af (ao rfl rfl ?_)) λ _=>a8 (a:=false) (af (ao rfl (bj df (ys:=(cu N.pairs starts L).s) (λ s=>.str s.name) rfl rfl λ s hs=>⟨_,rfl,rfl⟩) (eJ rfl ?_))) λ q=>by cases q)
     ·rw[hs];rfl
     ·have e:((cu N.pairs starts L).s.map λ s=>PyData.str s.name)=(names L).map PyData.str:=by simp[cu,Function.comp_def,bJ]
      rw[e,mem_map eq_str nm (names L) (d:=propDecidable _)];simp[hnn]
    ·have hs':N.strong=false:=by simpa using hs
     refine a8 (a:=false) (b:=false) (af (ao rfl rfl ?_)) λ q=>by cases q
     rw[hs'];rfl
   ·exact Wp.ifT rfl ⟨.ct,_,_,rfl,by repeat first | exact⟨f,rfl⟩ | refine Ov.upd ?_ rfl,rfl⟩
  |some s=>
   refine bC λ k9=>?_;obtain⟨hn,hs,hsv,htp⟩:=tf hw;refine k9 ?_;have ea:eW (some s)=.tuple [bb (starts.zipIdx.map λ x=>bp (before (Ent.save x.2 nm) L) x.2 x.1),bo (oM starts L nm),.list ((N.pairs.map λ c=>(au L c nm).2).map bb)]:=by
    subst hs;have e1:(bJ N.pairs starts L nm).a.map eOI=(starts.zipIdx.map λ x=>bp (before (Ent.save x.2 nm) L) x.2 x.1).map PyData.int:=by
     simp only[bJ,List.map_map];apply List.map_congr_left;intro x hx;have:=List.mem_zipIdx hx;simp only[Function.comp,bq,if_pos (hsv x.2 (by lia)),eOI]
    have e2:(bJ N.pairs starts L nm).c.map eON=(oM starts L nm).map fun(n:Nat)=>PyData.int n:=by
     simp only[bJ,oM,List.map_map];apply List.map_congr_left;intro x hx;have:=List.mem_zipIdx hx;simp only[Function.comp,eC,if_pos (hsv x.2 (by lia)),eON]
    simp only[eW,e1,e2,bb,bo];simp[bJ,Function.comp_def,bb]
   rw[ea];have hmon:=Bc hN.nd hz I hsv htp;have hCw:=oZ hz I hsv htp;have huw:=te hz I hsv htp;have hcl:(oM starts L nm).length=starts.length:=by simp[oM]
   have hoc:∀e∈aY L,aC e<(oM starts L nm).length:=by rw[hcl];exact how
   refine Wp.ifF rfl (Wp.fin ?_);refine Wp.ifF rfl (Wp.fin ?_);refine Wp.unp rfl rfl rfl rfl ?_;refine Wp.ifF (af (ao (aK (aq rfl ey) (aq (ae (bj bb (ys:=N.pairs.map λ c=>(au L c nm).2) (λ l=>.int l.sum) rfl rfl λ l hl=>⟨_,rfl,aq rfl ey⟩) rfl) sC) rfl) (aq rfl ey) (vK (Nat.le_of_ble_eq_true rfl) ?_))) (Wp.fin ?_)
   ·rw[b9,List.map_map];have:(List.map (List.sum ∘ λ c=>(au L c nm).2) N.pairs)=N.pairs.map λ c=>(au L c nm).2.sum:=rfl;rw[this,decide_eq_true hmon];rfl
   refine Wp.ifF (kT (a:=false) (b:=false) (af (ao (aq (ae rfl (ae (cB rfl rfl rfl hN1) (ae rfl rfl))) (aT rfl rfl ((ew 8 N.size (aY L) (oM starts L nm) hv hl1 hoc).trans (by rw[decide_eq_true hCw])))) rfl rfl)) λ _=>cS (a:=false) (b:=false) (af (ao (aq (ae rfl (ae (cB rfl rfl rfl hN1) (ae rfl rfl))) (aT rfl rfl ((qq 7 N.size N.pairs (aY L) (oM starts L nm) hv hl1 hpl hN.nd hoc hon hCw (λ g post c hs=>eT hv hCw g post c hs)).trans (by rw[huw])))) rfl (ne_self (cE _ fP) (by decide)))) λ _=>rfl) (Wp.fin ?_);exact Wp.nil ⟨by repeat first | exact⟨f,rfl⟩ | refine Ov.upd ?_ rfl,rfl⟩
 ·rintro ρ τ ⟨⟨f,rfl⟩,rfl⟩;exact keep _ ⟨rfl,rfl,rfl,rfl,rfl,rfl,rfl,rfl,rfl,rfl,rfl,trivial⟩
end
end tail11_e
theorem yD(zs:List Int)(h23:23<=zs.length)(N:Net)(hN:mq N)(starts:List Int)(hst:starts.length=N.size)(L:List Ent)(I:Inv starts.length N.pairs L)(hlen:(aY L).length<=250)(hq:∀c∈N.pairs,ai L c=[])(d0:PyData)(ρ:ah)(hρ:Has ρ (zU zs N starts L)):Wp (xs (prg.run 12) (sY.drop 11) ρ [.frz d0,.lst (((aY L).map eH).map .d)]) λ o _ _=>o=.rt (.d (.bool true)):=aw (Q:=λ x:(List Int)×(Net)×(List Int)×(List Ent)×(PyData)×(ah)=>tail11_e.P x.1 x.2.1 x.2.2.1 x.2.2.2.1 x.2.2.2.2.1 x.2.2.2.2.2) tail11_e.core (zs,N,starts,L,d0,ρ) h23 hN hst I hlen hq hρ
end L3
end Mine.Internal.Q
end
section
namespace Mine.Internal.Q
open PySem Classical Mine.Internal.L3
theorem lG{α:Type}{l:List α}{n:Nat}{x:α}(h:x∈times l n):x∈l:=by
 induction n with
 |zero=>cases h
 |succ n ih=>
  rcases List.mem_append.1 h with q | q
  ·exact q
  ·exact ih q
namespace L3
theorem uj{ps places:List Ch}{starts:List Int}(es:List Evt):∀log,(∀e∈es,d5 starts.length places e)->(aY (gr ps starts log es)).length<=(aY log).length+es.length:=by
 induction es with
 |nil=>intro log _;exact Nat.le_refl _
 |cons e r ih=>
  intro log hE;rw[gR];have h1:=ih (aR ps starts log e).2 (λ e' h'=>hE e' (by exact List.mem_cons_of_mem _ ‹_›));have h2:(aY (aR ps starts log e).2).length<=(aY log).length+1:=by
   rcases oG (ps:=ps) (log:=log) (hE e (by exact List.mem_cons_self)) with q | ⟨_,l,x,_,q | q⟩
   ·rw[q.2];exact Nat.le_add_right _ _
   ·obtain⟨y,_,hy,_⟩:=q;rw[hy];simp
   ·rw[q.1];exact Nat.le_add_right _ _
  simp only[List.length_cons];lia
noncomputable def zV(zs:List Int)(N:Net)(starts:List Int):List (Str×V):=
 Bu zs N starts++([("events",.o 0),("log",.d (.list [])),("state",.d (eSt (cu N.pairs starts []))),("due",.d (eSt (cu N.pairs starts [])))]:List (Str×V))
noncomputable def AZ:Ent->PyData
 |.out _ m=>c4 m
 |.inn _ m=>c4 m
 |.save _ n=>.str n
 |.snap _ n=>.str n
theorem BW{ps:List Ch}{starts:List Int}{L:List Ent}{c:Ch}(hc:c∈ps){σ:aa}:gF σ (.d (.list ((cu ps starts L).q.map eQ))) (.d (.int ((0+(before c ps).length:Nat):Int)))=some (.d (eQ (ai L c))):=by
 have hg:=bF hc;have hlt:=az hg;rw[Nat.zero_add];show(fi (.list ((cu ps starts L).q.map eQ)) (((before c ps).length:Nat):Int)).map V.d=_;rw[item_list (by simpa[cu] using hlt)];simp only[cu,List.getElem_map,Option.map_some];rw[List.getElem?_eq_getElem hlt] at hg;rw[Option.some.inj hg]
namespace tail10_e
noncomputable section
def P(zs:List Int)(N:Net)(starts:List Int)(es:List Evt)(ρ:ah):Prop:=∀(h23:23<=zs.length) (hN:mq N) (hst:starts.length=N.size) (h8:es.length=8) (hE:∀e∈es,d5 starts.length (N.pairs++[N.spare]) e) (hρ:Has ρ (zV zs N starts)),Wp (xs (prg.run 12) (sY.drop 10) ρ [.lst ((es.map eB).map .d),.lst []]) λ o _ _=>o=.rt (.d (.bool true))
def x:(List Int)×(Net)×(List Int)×(List Evt)×(ah):=@Classical.epsilon _ ⟨(default,⟨0,[],(0,0),false⟩,default,default,default)⟩ λ x=>¬P x.1 x.2.1 x.2.2.1 x.2.2.2.1 x.2.2.2.2
def zs:List Int:=x.1
def N:Net:=x.2.1
def starts:List Int:=x.2.2.1
def es:List Evt:=x.2.2.2.1
def ρ:ah:=x.2.2.2.2
theorem core:P zs N starts es ρ:=λ h23 hN hst h8 hE hρ=>by
 rw[pins hρ];clear hρ;have hz:∀c∈N.pairs,c.1<starts.length/\c.2<starts.length:=by rw[hst];exact hN.on
 have hsz3:N.size<=3:=by rcases hN.two with q | q<;>(first | exact Nat.le_of_eq ‹_› | lia)
 have hpl:N.pairs.length<=1000:=Nat.le_trans hN.le (by decide);have hp4:=hN.le;have hEa:∀e∈es++times (N.pairs.map Evt.recv) 12,d5 starts.length (N.pairs++[N.spare]) e:=by
  intro e he;rcases List.mem_append.1 he with q | q
  ·exact hE e q
  ·obtain⟨c,hc,rfl⟩:=List.mem_map.1 (lG q);exact List.mem_append_left _ ‹_›
 have hal:(es++times (N.pairs.map Evt.recv) 12).length<=56:=by
  rw[List.length_append,kY,List.length_map,h8];lia
 have hidx:∀(m:Nat) e,(es++times (N.pairs.map Evt.recv) 12)[m]?=some e->7<m->∃c∈N.pairs,e=.recv c:=by
  intro m e he hm;rw[List.getElem?_append_right (by lia)] at he;obtain⟨c,hc,rfl⟩:=List.mem_map.1 (lG (List.mem_of_getElem? he));exact⟨c,hc,rfl⟩
 have hdr:=drained hN.nd hz (by lia) es hE (by exact Nat.le_of_eq ‹_›);refine Wp.for (cv eB (ys:=es++times (N.pairs.map Evt.recv) 12) (σ1:=[.frz (.list (es.map eB)),.lst []]) ((aK (eI rfl rfl rfl rfl) (aK (bj ax (ys:=N.pairs) (λ c=>eB (.recv c)) rfl rfl λ c hc=>⟨_,rfl,rfl⟩) rfl (mul_list (n:=12) ?_ (by decide))) (add_list ?_)).trans ?_)) ?_
 ·rw[List.length_map];lia
 ·rw[kY,List.length_map,List.length_map,h8];simp only[LIM];lia
 ·have e1:N.pairs.map (λ c=>eB (.recv c))=(N.pairs.map Evt.recv).map eB:=by rw[List.map_map];rfl
  rw[e1,qy,<-List.map_append];rfl
 generalize hall:es++times (N.pairs.map Evt.recv) 12=al at hEa hal hidx hdr ⊢;refine Wp.forL (fun(x:Evt×Nat)=>V.d (.tuple [.int x.2,eB x.1])) (λ pre ρ σ=>Ov ["turn","event","answer","log","got","due","state"] _ ρ/\Has ρ [("log",.d (.list ((gr N.pairs starts [] (pre.map Prod.fst)).map cf))),("state",.d (eSt (cu N.pairs starts (gr N.pairs starts [] (pre.map Prod.fst))))),("due",.d (eSt (cu N.pairs starts (gr N.pairs starts [] (pre.map Prod.fst)))))]/\σ=[.frz (.list (es.map eB)),.lst (((aY (gr N.pairs starts [] (pre.map Prod.fst))).map eH).map .d)]) ⟨Ov.refl,⟨rfl,rfl,rfl,trivial⟩,rfl⟩ ?_ ?_
 ·rintro pre ⟨e,m⟩ post ρ σ hy ⟨⟨f,rfl⟩,hH,rfl⟩;obtain⟨hm,hsp⟩:=mw hy;simp only at hm hsp;have hmap:(pre++[(e,m)]).map Prod.fst=pre.map Prod.fst++[e]:=by simp
  have hpe:∀x∈pre.map Prod.fst,d5 starts.length (N.pairs++[N.spare]) x:=λ x hx=>hEa x (by rw[hsp];simp at hx ⊢;exact .inl hx);have hEe:=hEa e (by rw[hsp];simp);have hmem:al[m]?=some e:=by rw[hsp,hm];simp
  have hml:(pre.map Prod.fst).length<=56:=by rw[hsp] at hal;simp at hal ⊢;lia
  have I:=jV hN.nd hz (mS starts.length N.pairs) (pre.map Prod.fst) hpe;have hll:=wz (ps:=N.pairs) (starts:=starts) (log:=[]) (pre.map Prod.fst);have hll':(gr N.pairs starts [] (pre.map Prod.fst)).length<=400:=by
   have:(pre.map Prod.fst).length*(N.pairs.length+2)<=56*6:=Nat.mul_le_mul hml (by exact Nat.add_le_add_right ‹_› _);simp only[List.length_nil,Nat.zero_add] at hll;lia
  rw[hmap,jW,gR,wy];generalize gr N.pairs starts [] (pre.map Prod.fst)=L at *;rw[pins hH];clear hH hll hmap hy hsp;have hdl:=so (ps:=N.pairs) (starts:=starts) (log:=L) e;refine Wp.bind rfl ?_;refine Classical.byCases (p:=7<m/\∃c,e=.recv c/\ai L c=[]) (λ hskip=>?_) (λ hskip=>?_)
  ·obtain⟨h7,c,rfl,hq⟩:=hskip;refine bC λ k9=>?_;obtain⟨c',hc,hcc⟩:=hidx m _ hmem h7;cases hcc;refine k9 ?_;rw[j0 hq];refine Wp.ifT (bU (a:=true) (b:=true && true) (af (ao rfl rfl ?_)) λ _=>a8 (a:=true) (b:=true) (cO (b:=false) ?_) λ _=>rfl) ⟨.ct,_,_,rfl,by repeat first | exact⟨f,rfl⟩ | refine Ov.upd ?_ rfl,⟨rfl,rfl,rfl,trivial⟩,rfl⟩
   ·show some (decide ((7:Int)<(m:Int)))=_;rw[decide_eq_true (by exact Int.ofNat_lt.mpr ‹_›)]
   ·refine Eq.trans (b:=((ev _ _ _ _).bind fun(x:V×aa)=>(dH x.2 x.1).bind λ b=>some (b,x.2))) rfl ?_;rw[aj rfl rfl (sf rfl (x:=ax c) rfl (idx_map cC c N.pairs hc 0)) (BW hc),hq];rfl
  ·refine Wp.ifF (σ1:=[.frz (.list (es.map eB)),.lst (((aY L).map eH).map .d)]) ?_ (Wp.fin ?_)
   ·refine Classical.byCases (p:=7<m) (λ h7=>?_) (λ h7=>?_)
    ·obtain⟨c,hc,rfl⟩:=hidx m _ hmem h7;have hq:ai L c≠[]:=λ q=>hskip ⟨h7,c,rfl,q⟩;refine bU (a:=true) (b:=false && true) (af (ao rfl rfl ?_)) λ _=>a8 (a:=false) (b:=true) (cO (b:=true) ?_) λ q=>by cases q
     ·show some (decide ((7:Int)<(m:Int)))=_;rw[decide_eq_true (by exact Int.ofNat_lt.mpr ‹_›)]
     ·refine Eq.trans (b:=((ev _ _ _ _).bind fun(x:V×aa)=>(dH x.2 x.1).bind λ b=>some (b,x.2))) rfl ?_;rw[aj rfl rfl (sf rfl (x:=ax c) rfl (idx_map cC c N.pairs hc 0)) (BW hc)];cases hqq:ai L c with
      |nil=>exact absurd hqq hq
      |cons x r=>rfl
    ·refine bU (a:=false) (b:=false) (af (ao rfl rfl ?_)) λ q=>by cases q
     show some (decide ((7:Int)<(m:Int)))=_;rw[decide_eq_false (by lia)]
   refine Wp.unp (v:=.d (.tuple [.str (aR N.pairs starts L e).1,.list ((aR N.pairs starts L e).2.map cf)])) rfl (aq rfl (aT rfl rfl (xS 9 N.pairs starts L e hpl (by exact Nat.le_trans ‹_› (by decide)) (λ c hc=>(hz c hc).1)))) rfl rfl ?_;refine Wp.asg (v:=.d (.tuple [eSt (cu N.pairs starts (aR N.pairs starts L e).2),.str (aR N.pairs starts L e).1])) (aq rfl (aT rfl rfl (by have:=wg 7 hN.nd hz I (by lia) (by exact Nat.le_trans ‹_› (by decide)) hEe;rw[hst] at this;exact this))) ?_;refine Wp.ifF (af (ao rfl rfl (ne_self (tS (cu N.pairs starts L)) (by decide)))) (Wp.fin ?_);refine Wp.asg (aq rfl (aT rfl rfl (lh 8 N.pairs starts (aR N.pairs starts L e).2 hpl (by lia) (by lia)))) ?_;refine Wp.ifF (af (ao rfl rfl (ne_self (k:=7) (dN (ay (tS _) (ay (gx 6 _) (cA 6)))) (by decide)))) (Wp.fin ?_);refine Wp.asg (v:=.d (eSt (cu N.pairs starts (aR N.pairs starts L e).2))) rfl ?_;refine Wp.ifF (af (ao (aq rfl (aT rfl rfl (whole_run 10 (cu N.pairs starts (aR N.pairs starts L e).2) "red"))) (aq rfl (aT rfl rfl (ju 10 (cu N.pairs starts (aR N.pairs starts L e).2).s "red"))) (ne_self (BX _) (by decide)))) (Wp.fin ?_);have hdl2:=oG (ps:=N.pairs) (log:=L) hEe;generalize aR N.pairs starts L e=r at hdl hdl2 ⊢;obtain⟨ans,L'⟩:=r;simp only at hdl hdl2 ⊢;rcases hdl2 with ⟨ha,hL⟩ | ⟨ha,l,x,hL,hx⟩
   ·subst hL;refine Wp.ifF (bU (a:=false) (b:=false) (af (ao rfl rfl (eV (by simp[ha])))) λ q=>by cases q) (Wp.fin (Wp.nil ⟨by repeat first | exact⟨f,rfl⟩ | refine Ov.upd ?_ rfl,⟨rfl,rfl,rfl,trivial⟩,rfl⟩))
   ·have hLm:L'.map cf=l.map cf++[cf x]:=by rw[hL];simp
    subst ha;rcases hx with ⟨y,hye,hyh,hxx⟩ | ⟨hyh,hxx⟩
    ·refine Wp.ifT (bU (a:=true) (b:=true && true) rfl λ _=>a8 (a:=true) (b:=true) (af (ao (aj rfl (aj rfl (aj rfl (a:=.d (.list (l.map cf++[cf x]))) (by rw[<-hLm];rfl) rfl item_last) rfl (r:=.d (AZ x)) ?_) rfl (r:=.d (.str "pay")) ?_) rfl rfl)) λ _=>rfl) ?_
     ·rcases hxx with ⟨c,v,rfl⟩ | ⟨c,v,rfl⟩<;>rfl
     ·rcases hxx with ⟨c,v,rfl⟩ | ⟨c,v,rfl⟩<;>rfl
     ·have hhl:(aY L).length<=L.length:=List.length_filterMap_le _ _;refine Wp.expr (bR (l:=1) (aL rfl rfl rfl rfl rfl) rfl rfl rfl (by rw[List.length_map,List.length_map];simp only[LIM];lia)) (Wp.fin (Wp.nil ⟨by repeat first | exact⟨f,rfl⟩ | refine Ov.upd ?_ rfl,⟨rfl,rfl,rfl,trivial⟩,?_⟩));rw[hyh,List.map_append,List.map_append,List.map_cons,List.map_nil,hye];rfl
    ·have hst0:∃w:Str,(∀σ,gF σ (.d (AZ x)) (.d (.int 0))=some (.d (.str w)))/\i3 ([.frz (.list (es.map eB)),.lst (((aY L).map eH).map .d)]:aa) .Eq (.d (.str w)) (.d (.str "pay"))=some false/\∀σ,gF σ (.d (cf x)) (.d (.int 2))=some (.d (AZ x)):=by
      rcases hxx with ⟨c,n,rfl⟩ | ⟨c,n,rfl⟩ | ⟨p,n,rfl,rfl | rfl⟩
      ·exact⟨"mark",λ σ=>rfl,rfl,λ σ=>rfl⟩
      ·exact⟨"mark",λ σ=>rfl,rfl,λ σ=>rfl⟩
      ·exact⟨"r",λ σ=>rfl,rfl,λ σ=>rfl⟩
      ·exact⟨"b",λ σ=>rfl,rfl,λ σ=>rfl⟩
     refine bC λ k9=>?_;obtain⟨w,hw1,hw2,hw3⟩:=hst0;refine k9 ?_;refine Wp.ifF (bU (a:=true) (b:=false && true) rfl λ _=>a8 (a:=false) (b:=true) (af (ao (aj rfl (aj rfl (aj rfl (a:=.d (.list (l.map cf++[cf x]))) (by rw[<-hLm];rfl) rfl item_last) rfl (hw3 _)) rfl (hw1 _)) rfl hw2)) λ q=>by cases q) (Wp.fin (Wp.nil ⟨by repeat first | exact⟨f,rfl⟩ | refine Ov.upd ?_ rfl,⟨rfl,rfl,rfl,trivial⟩,?_⟩));rw[hyh]
 ·rintro ρ σ ⟨⟨f,rfl⟩,hH,rfl⟩;have eh:al.zipIdx.map Prod.fst=al:=by simp
  rw[eh] at hH ⊢;have I:=jV hN.nd hz (mS starts.length N.pairs) al hEa;have hhl:(aY (gr N.pairs starts [] al)).length<=250:=by
   have:=uj (ps:=N.pairs) (starts:=starts) al [] hEa;simp[aY] at this;simp only[aY];lia
  rw[pins hH];exact yD zs h23 N hN starts hst _ I hhl hdr _ _ ⟨rfl,rfl,rfl,rfl,rfl,rfl,rfl,rfl,rfl,rfl,trivial⟩
end
end tail10_e
theorem yE(zs:List Int)(h23:23<=zs.length)(N:Net)(hN:mq N)(starts:List Int)(hst:starts.length=N.size)(es:List Evt)(h8:es.length=8)(hE:∀e∈es,d5 starts.length (N.pairs++[N.spare]) e)(ρ:ah)(hρ:Has ρ (zV zs N starts)):Wp (xs (prg.run 12) (sY.drop 10) ρ [.lst ((es.map eB).map .d),.lst []]) λ o _ _=>o=.rt (.d (.bool true)):=aw (Q:=λ x:(List Int)×(Net)×(List Int)×(List Evt)×(ah)=>tail10_e.P x.1 x.2.1 x.2.2.1 x.2.2.2.1 x.2.2.2.2) tail10_e.core (zs,N,starts,es,ρ) h23 hN hst h8 hE hρ
end L3
end Mine.Internal.Q
end
section
namespace Mine.Internal.Q
open PySem Classical Mine.Internal.L3
namespace L3
namespace law_true_e
noncomputable section
def P(zs:List Int):Prop:=∀(hz63:zs.length<=63),Wp (xs (prg.run 12) sY (upd (λ _=>none) "script" (.d (.list (zs.map .int)))) []) λ o _ _=>o=.rt (.d (.bool true))
def x:(List Int):=@Classical.epsilon _ ⟨(default)⟩ λ x=>¬P x
def zs:List Int:=x
theorem core:P zs:=λ hz63=>by
 by_cases h23:zs.length<23
 ·refine Wp.ifT (af (ao rfl rfl ?_)) (Wp.ret rfl rfl);show some (decide ((((zs.map PyData.int).length:Nat):Int)<23))=_;rw[List.length_map,decide_eq_true (by exact Int.ofNat_lt.mpr ‹_›)]
 replace h23:23<=zs.length:=by exact Nat.not_lt.mp ‹_›
 refine Wp.ifF (af (ao rfl rfl ?_)) (Wp.fin ?_)
 ·show some (decide ((((zs.map PyData.int).length:Nat):Int)<23))=_;rw[List.length_map,decide_eq_false (by lia)]
 refine bC λ k9=>?_;obtain⟨k,hk,hk2⟩:=eg (zs.getD 0 0) 5 (by decide);have hk5:k<yi.length:=hk;obtain⟨N,hNe⟩:∃N,yi[k]?=some N:=⟨_,List.getElem?_eq_getElem hk5⟩;refine k9 ?_;have hN:mq N:=wX N (List.mem_of_getElem? hNe);refine Wp.unp (v:=.d (Bx N)) rfl (aj rfl rfl (aK (aj rfl rfl rfl (sc (i:=0) (by lia))) rfl (dP (by decide))) ?_) rfl rfl ?_
 ·have:((zs.getD 0 0).fmod 5)=((k:Nat):Int):=hk2;rw[this];show(fi (.tuple (yi.map Bx)) (k:Int)).map V.d=_;rw[item_tup (by simpa using hk5)];rw[List.getElem?_eq_getElem hk5] at hNe;simp only[List.getElem_map,Option.map_some,Option.some.inj hNe]
 clear hNe hk5 hk2 hk;refine Wp.asg (v:=.d (iv N.size N.pairs)) (σ1:=[]) (aU (ae rfl (ae (aq rfl (dh rfl)) rfl)) rfl) ?_;have hsz3:N.size<=3:=by rcases hN.two with q | q<;>(first | exact Nat.le_of_eq ‹_› | lia)
 have hsz2:2<=N.size:=by rcases hN.two with q | q<;>lia
 refine Wp.asg (v:=.d (bb ([(zs.getD 1 0).fmod 10,(zs.getD 2 0).fmod 10,zs.getD 3 0].take N.size))) (σ1:=[]) (dX (gB (ae (aK (aj rfl rfl rfl (sc (i:=1) (by lia))) rfl (dP (by decide))) (ae (aK (aj rfl rfl rfl (sc (i:=2) (by lia))) rfl (dP (by decide))) (ae (aj rfl rfl rfl (sc (i:=3) (by lia))) rfl))) rfl) rfl (cJ rfl) ?_) ?_
 ·show some (PyData.list (cutAt none (some ((N.size:Nat):Int)) [.int ((zs.getD 1 0).fmod 10),.int ((zs.getD 2 0).fmod 10),.int (zs.getD 3 0)]))=_;rw[ft,bb,List.map_take];rfl
 have hst:([(zs.getD 1 0).fmod 10,(zs.getD 2 0).fmod 10,zs.getD 3 0].take N.size).length=N.size:=by rw[List.length_take];simp;exact Nat.min_eq_left ‹_›
 generalize [(zs.getD 1 0).fmod 10,(zs.getD 2 0).fmod 10,zs.getD 3 0].take N.size=starts at hst ⊢;refine Wp.asg (v:=.d (bb starts)) (σ1:=[]) (aq rfl (dh rfl)) ?_;refine Wp.nx (ρ1:=_) (σ1:=[.lst [],.lst []]) rfl ?_;have pr:∀(Φ:Or) (i j:Nat) (ρ:ah) (σ:aa),True:=λ _ _ _ _ _=>trivial;refine Wp.for (ys:=(([4,6,8,10,12,14,16,18]:List Nat).map λ i=>PyData.tuple [.int (zs.getD i 0),.int (zs.getD (i+1) 0)]).map V.d) (σ1:=[.lst [],.lst []]) ?_ ?_
 ·show srcOf (ev _ _ _ _)=_;rw[aU (ae (aU (ae (aj rfl rfl rfl (sc (i:=4) (by lia))) (ae (aj rfl rfl rfl (sc (i:=5) (by lia))) rfl)) rfl) (ae (aU (ae (aj rfl rfl rfl (sc (i:=6) (by lia))) (ae (aj rfl rfl rfl (sc (i:=7) (by lia))) rfl)) rfl) (ae (aU (ae (aj rfl rfl rfl (sc (i:=8) (by lia))) (ae (aj rfl rfl rfl (sc (i:=9) (by lia))) rfl)) rfl) (ae (aU (ae (aj rfl rfl rfl (sc (i:=10) (by lia))) (ae (aj rfl rfl rfl (sc (i:=11) (by lia))) rfl)) rfl) (ae (aU (ae (aj rfl rfl rfl (sc (i:=12) (by lia))) (ae (aj rfl rfl rfl (sc (i:=13) (by lia))) rfl)) rfl) (ae (aU (ae (aj rfl rfl rfl (sc (i:=14) (by lia))) (ae (aj rfl rfl rfl (sc (i:=15) (by lia))) rfl)) rfl) (ae (aU (ae (aj rfl rfl rfl (sc (i:=16) (by lia))) (ae (aj rfl rfl rfl (sc (i:=17) (by lia))) rfl)) rfl) (ae (aU (ae (aj rfl rfl rfl (sc (i:=18) (by lia))) (ae (aj rfl rfl rfl (sc (i:=19) (by lia))) rfl)) rfl) rfl)))))))) rfl];rfl
 refine Wp.ox (λ i=>PyData.tuple [.int (zs.getD i 0),.int (zs.getD (i+1) 0)]) (λ pre ρ σ=>Ov ["a","b"] _ ρ/\∃es:List Evt,es.length=pre.length/\(∀e∈es,d5 starts.length (N.pairs++[N.spare]) e)/\σ=[.lst ((es.map eB).map .d),.lst []]) ⟨Ov.refl,[],rfl,by simp,rfl⟩ ?_ ?_
 ·rintro pre i post ρ σ hy ⟨⟨f,rfl⟩,es,hel,hE,rfl⟩;have hpl:pre.length<=8:=by
   have:=congrArg List.length hy;simp at this;lia
  refine Wp.bind rfl ?_;refine bC λ k9=>?_;obtain⟨e,hGe,hPe⟩:=r9 10 N.size (N.pairs++[N.spare]) (zs.getD i 0) (zs.getD (i+1) 0) (by exact Nat.le_of_lt ‹_›) (by simp);refine k9 ?_;rw[List.map_append] at hPe;refine Wp.expr (bR (l:=0) (aL rfl rfl rfl rfl rfl) rfl (aq (ae rfl (ae (aK rfl rfl (yc ?_ ?_ (by simp))) (ae rfl (ae rfl rfl)))) (aT rfl rfl hPe)) rfl ?_) (Wp.nil ⟨by repeat first | exact⟨f,rfl⟩ | refine Ov.upd ?_ rfl,es++[e],by simp[hel],?_,?_⟩)
  ·have:=hN.le;simp[LIM];exact Nat.le_trans ‹_› (by decide)
  ·simpa using hN.ne
  ·rw[List.length_map,List.length_map,hel];simp only[LIM];exact Nat.lt_of_le_of_lt ‹_› (by decide)
  ·intro x hx;rcases List.mem_append.1 hx with q | q
   ·exact hE x q
   ·obtain rfl:x=e:=by simpa using q
    rw[hst];exact hGe
  ·simp
 rintro ρ σ ⟨⟨f,rfl⟩,es,hel,hE,rfl⟩;refine Wp.asg (aq rfl (aT rfl rfl (sH 10 N.size N.pairs starts (by lia)))) ?_;refine Wp.asg (aq rfl (aT rfl rfl (lh 8 N.pairs starts [] (Nat.le_trans hN.le (by decide)) (by lia) (by simp)))) ?_;refine Wp.ifF (af (ao rfl rfl (ne_self (tS (cu N.pairs starts [])) (by decide)))) (Wp.fin ?_);exact yE zs h23 N hN starts hst es hel hE _ ⟨rfl,rfl,rfl,rfl,rfl,rfl,rfl,rfl,rfl,rfl,rfl,rfl,trivial⟩
end
end law_true_e
theorem t9(zs:List Int)(hz63:zs.length<=63):Wp (xs (prg.run 12) sY (upd (λ _=>none) "script" (.d (.list (zs.map .int)))) []) λ o _ _=>o=.rt (.d (.bool true)):=aw (Q:=λ x:(List Int)=>law_true_e.P x) law_true_e.core (zs) hz63
theorem good:∀zs:List Int,zs.length<=63->∃ρ' σ',xs (prg.run 12) (mQ body).body (upd (λ _=>none) "script" (.d (.list (zs.map .int)))) []=some (.rt (.d (.bool true)),ρ',σ'):=by
 intro zs hz;refine bC λ k9=>?_;obtain⟨o,ρ',σ',h1,rfl⟩:=t9 zs hz;refine k9 ?_;exact⟨ρ',σ',h1⟩
end L3
end Mine.Internal.Q
end
theorem PySem.Challenge.cw_sx_r140_3_holds : PySem.Challenge.rw_sx_r140_3.Holds :=
  Mine.Internal.L3.fin Mine.Internal.Q.L3.good
