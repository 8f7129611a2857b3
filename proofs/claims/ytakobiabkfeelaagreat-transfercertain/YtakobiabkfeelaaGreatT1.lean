/- A part of a proof: an abstract machine, proved sound, or contracts of functions. No condition. -/
import Derived.Orders
import Derived.Laws.Cells
set_option linter.unusedVariables false
set_option linter.unusedSimpArgs false
set_option linter.defProp false
set_option maxRecDepth 100000
set_option maxHeartbeats 4000000
namespace Abs
open Go
variable{G:Prop}
def b_:=@List.mem_cons
def bK(h:G:=by cases e):=h
inductive au where
 |any
 |bool (b:Bool)
 |int (k:IntKind) (n:Int)
 |str (s:List UInt8)
 |sl (sz:Nat) (es:List au) (isNil:Bool)
 |ref (k n:Nat)
 |agg (cs:List au)
 |bS (cs:List au)
 |ptr (l off:Nat)
 |jw (l off:Nat)
 |iS (k n:Nat) (i:Int) (off:Nat)
 |mA (d:au) (off:Nat)
 |gD (fn:Fn) (first cap:List au)
 |tT (d:au)
 |Ix (l:Nat)
 |jG
 |m_
 |jH
 |m9
 |dQ (k:Nat)
 |me (k v:au)
 |md
 |cQ (k n:Nat)
 |own (es:List au)
 |shr (es:List au)
 |j8 (k n:Nat) (i:Int)
 |sub (k j n:Nat)
 |fT (k j:Nat) (i:Int)
 |lit (q n:Nat)
structure Row where
 sz:Nat
 own:Bool
 es:List au
structure Ct where
 H:List au
 R:List Row
def nth{α:Type}:List α->Nat->Option α|[],_=>none|x::_,0=>some x|_::xs,n+1=>nth xs n
def setAt{α:Type}:List α->Nat->α->List α|[],_,_=>[]|_::xs,0,y=>y::xs|x::xs,n+1,y=>x::setAt xs n y
def aI{α:Type}:List α->Nat->List α->List α
 |[],_,_=>[]|c::cs,0,ds=>match ds with|[]=>c::cs|d::ds=>d::aI cs 0 ds
 |c::cs,n+1,ds=>c::aI cs n ds
def abm{α:Type}(c d:α)(cs ds:List α):aI (c::cs) 0 (d::ds)=d::aI cs 0 ds:=rfl
def O9{α:Type}(c:α)(cs:List α)(n:Nat)(ds:List α):aI (c::cs) (n+1) ds=c::aI cs n ds:=rfl
theorem iA{α:Type}:∀(l:List α) (n:Nat),aI l n []=l|[],_=>rfl|c::cs,0=>rfl|c::cs,n+1=>by rw[O9,iA cs n]
theorem jP{α:Type}:∀(l:List α) (n:Nat) (d:α) (ds:List α),aI l n (d::ds)=aI (setAt l n d) (n+1) ds|[],_,_,_=>rfl|c::cs,0,d,ds=>by rw[abm];rfl|c::cs,n+1,d,ds=>by rw[O9,jP cs n d ds];rfl
inductive YS where
 |off
 |run (k:Nat)
 |stop
structure St where
 env:Nat->Option au
 H:Nat->Option au
 hn:List Nat
 R:Nat->Option Row
 rn:List Nat
 y:YS
def aW{α:Type}(e:Nat->Option α)(t:Nat)(d:Option α):Nat->Option α:=λu=>bif Nat.beq u t then d else e u
def cells:au->List au| .agg cs=>cs| .me _ _=>[]| .md=>[]| .own _=>[]| .shr _=>[]|d=>[d]
def ti(P:Program)(t:TypeId):Option TypeInfo:=nth P.types.toList t
def mH(P:Program)(t:TypeId):TypeDesc:=
 match ti P t with
 |some {desc:= .named _ u,..}=>match ti P u with|some i=>i.desc|none=> .invalid
 |some i=>i.desc|none=> .invalid
def bg(P:Program)(t:TypeId):Nat:=match ti P t with|some i=>i.size|none=>0
def fU(P:Program)(t:TypeId):Bool:=match mH P t with| .struct _=>true| .array _ _=>true|_=>false
def xt(P:Program)(t:TypeId):TypeId:=match mH P t with| .slice e=>e| .array _ e=>e| .pointer e=>e|_=>0
def fieldAt(P:Program)(t:TypeId)(f:Nat):Nat×TypeId:=
 match mH P t with
 | .struct fs=>match nth fs.toList f with|some x=>(x.offset,x.type)|none=>(0,0)
 | .array _ e=>(f*bg P e,e)|_=>(0,0)
def rD(P:Program)(n:Nat):TypeId->au:=
 Nat.rec (motive:=λ_=>TypeId->au) (λ_=> .any) (λ_ ih t=>match mH P t with
  | .bool=> .bool false| .int k=> .int k 0| .string=> .str []| .slice e=> .sl (bg P e) [] true| .pointer _=> .jG| .func _ _ _=> .m_| .map _ _=> .jH| .interface _=> .m9| .struct fs=> .agg (fs.toList.flatMap λf=>cells (ih f.type))| .array m e=> .agg ((List.replicate m (cells (ih e))).flatten)|_=> .any) n
def RH(P:Program)(t:TypeId):rD P 0 t= .any:=rfl
def RI(P:Program)(n:Nat)(t:TypeId):rD P (n+1) t=match mH P t with| .bool=> .bool false| .int k=> .int k 0| .string=> .str []| .slice e=> .sl (bg P e) [] true| .pointer _=> .jG| .func _ _ _=> .m_| .map _ _=> .jH| .interface _=> .m9| .struct fs=> .agg (fs.toList.flatMap λf=>cells (rD P n f.type))| .array m e=> .agg ((List.replicate m (cells (rD P n e))).flatten)|_=> .any:=rfl
def ag1(P:Program)(t:TypeId):Value->Option au| .bool b=>some (.bool b)| .int k n=>some (.int k n)| .string s=>some (.str s.data.toList)| .slice none 0 0=>some (.sl (bg P (xt P t)) [] true)| .pointer none=>some .jG| .nilFunc=>some .m_| .map none=>some .jH| .nilIface=>some .m9|_=>none
def cY(P:Program)(s:St)(t:TypeId):Operand->Option au| .tmp n=>s.env n| .const v=>ag1 P t v| .func f=>some (.gD (.func f) [] [])| .global _=>none
inductive DD where
 |val (d:au)
 |BU (p:Prop) (d:au)
 |arith (k:IntKind) (x:Int)
 |load (a:au) (n:Nat) (agg:Bool)
 |store (a d:au) (n:Nat)
 |alloc (d:au)
 |row (sz:Nat) (es:List au)
 |idx (sz:Nat) (a:au) (i:Int)
 |akd (l off m sz:Nat) (i:Int)
 |part (cs:List au) (i:Int)
 |ahv (s:List UInt8) (i:Int)
 |app (sz:Nat) (a b:au)
 |sub (sz:Nat) (a:au) (lo hi:Option Int)
 |sel (b:Bool) (x y:Option au)
 |bytes (e:TypeId) (s:List UInt8)
 |text (a:au)
 |call (f:FuncId) (args:List au)
 |yield (l:Nat) (args:List au)
 |yS (f:FuncId) (args:List au)
 |adk
 |X5 (k:Nat) (q:IntKind) (n:Int) (v:au)
 |ado (k:Nat) (q:IntKind) (n:Int) (z:au) (ok:Bool)
 |adr (k:Nat) (q:IntKind) (n:Int)
 |adl (k:Nat)
 |Ek (es:List au) (nl ne:Bool)
 |make (sz:Nat) (z:au) (n m:Int)
 |bad
def asj(op:BinOp)(a b:Int):Option Bool:=match op with| .eql=>some (a==b)| .neq=>some (a !=b)| .lss=>some (decide (a<b))| .leq=>some (decide (a<=b))| .gtr=>some (decide (a>b))| .geq=>some (decide (a>=b))|_=>none
def QU(op:BinOp)(k:IntKind)(x y:Int):Option Int:=let a:=BitVec.ofInt k.bits x;let b:=BitVec.ofInt k.bits y;match op with| .and=>some (a&&&b).toNat| .or=>some (a|||b).toNat| .xor=>some (a^^^b).toNat| .andNot=>some (a&&& ~~~b).toNat|_=>none
def B7:IntKind->IntKind->Bool| .i8,.i8=>true| .i16,.i16=>true| .i32,.i32=>true| .i64,.i64=>true| .u8,.u8=>true| .u16,.u16=>true| .u32,.u32=>true| .u64,.u64=>true|_,_=>false
def eqA(rec:List au->List au->Option Bool):List au->List au->Option Bool
 |[],[]=>some true
 |x::xs,y::ys=>match rec [x] [y]with
  |some a=>match eqA rec xs ys with|some b=>some (a&&b)|none=>none
  |none=>none
 |_,_=>none
def YB(P:Program):Nat->TypeId->List au->List au->Option Bool
 |0,_,_,_=>none
 |d+1,t,xs,ys=>match mH P t with
  | .int _=>match xs,ys with
    |[.int k a],[.int k' b]=>match B7 k k' with|true=>some (a==b)|false=>none
    |_,_=>none
  | .bool=>match xs,ys with|[.bool a],[.bool b]=>some (a==b)|_,_=>none
  | .string=>match xs,ys with|[.str a],[.str b]=>some (a==b)|_,_=>none
  | .struct fs=>go (λt xs ys=>YB P d t xs ys) P xs ys fs.toList| .array _ e=>eqA (λxs ys=>YB P d e xs ys) xs ys|_=>none
 where go (rec:TypeId->List au->List au->Option Bool) (P:Program) (xs ys:List au):List Field->Option Bool
  |[]=>some true
  |f::fs=>match rec f.type ((xs.drop f.offset).take (bg P f.type)) ((ys.drop f.offset).take (bg P f.type))with
   |some a=>match go rec P xs ys fs with|some b=>some (a&&b)|none=>none
   |none=>none
def FT(op:BinOp)(k:IntKind)(a b:Int):DD:=
 match op with
 | .add=> .arith k (a+b)| .sub=> .arith k (a - b)| .mul=> .arith k (a*b)| .quo=> .BU (b≠0) (.int k (k.wrap (a.tdiv b)))| .rem=> .BU (b≠0) (.int k (a.tmod b))| .and=>match QU .and k a b with|some r=> .arith k r|none=> .bad
 | .or=>match QU .or k a b with|some r=> .arith k r|none=> .bad
 | .xor=>match QU .xor k a b with|some r=> .arith k r|none=> .bad
 | .andNot=>match QU .andNot k a b with|some r=> .arith k r|none=> .bad
 | .shl=> .bad| .shr=> .bad|op=>match asj op a b with|some r=> .val (.bool r)|none=> .bad
def OH(P:Program)(t:TypeId)(op:BinOp)(x y:au):DD:=
 match x,y with
 | .int k a,.int k' b=>
   match op with
   | .shl=> .BU (0<=b) (.int k (k.wrap (a*2^(min b.toNat k.bits))))
   | .shr=> .BU (0<=b) (.int k (a.fdiv (2^(min b.toNat k.bits))))
   |op=>match B7 k k' with
    |true=>FT op k a b
    |false=> .bad
 | .str a,.str b=>
   match op with
   | .eql=> .val (.bool (a==b))
   | .neq=> .val (.bool (!(a==b)))
   | .add=> .BU (a.length+b.length<=2^40) (.str (a++b))
   |_=> .bad
 | .bool a,.bool b=>
   match op with
   | .eql=>match mH P t with| .bool=> .val (.bool (a==b))|_=> .bad
   | .neq=>match mH P t with| .bool=> .val (.bool (!(a==b)))|_=> .bad
   |_=> .bad
 | .agg xs,.agg ys=>match Nat.beq xs.length (bg P t)&&Nat.beq ys.length (bg P t)&&(match mH P t with| .struct _=>true| .array _ _=>true|_=>false)with
   |false=> .bad
   |true=>match op with
    | .eql=>match YB P 8 t xs ys with|some r=> .val (.bool r)|none=> .bad
    | .neq=>match YB P 8 t xs ys with|some r=> .val (.bool (!r))|none=> .bad
    |_=> .bad
 | .sl _ es b,.sl _ [] true=>match mH P t with
   | .slice _=>match op with
     | .eql=> .Ek es b false
     | .neq=> .Ek es b true
     |_=> .bad
   |_=> .bad
 |_,_=> .bad
def partOf(d:au)(off n:Nat)(agg:Bool):Option au:=
 match agg with
 |true=>match d with
  | .agg cs=>match Nat.beq off 0&&Nat.beq cs.length n with
    |true=>some d
    |false=>match Nat.ble (off+n) cs.length with
     |true=>some (.agg ((cs.drop off).take n))
     |false=>none
  |_=>none
 |false=>nth (cells d) off
def FH(d:au)(off n:Nat)(v:au):Option au:=
 match Nat.ble (off+n) (cells d).length with
 |false=>none
 |true=>match d with
  | .agg cs=>match v with
    | .agg xs=>match Nat.beq cs.length n with
      |true=>some (.agg xs)
      |false=>some (.agg (aI cs off xs))
    | .bS _=>none
    | .me _ _=>none
    | .md=>none
    | .own _=>none
    | .shr _=>none
    |v=>some (.agg (aI cs off [v]))
  | .me _ _=>none| .md=>none| .own _=>none| .shr _=>none|_=>match v with| .agg _=>none| .bS _=>none| .me _ _=>none| .md=>none| .own _=>none| .shr _=>none|v=>some v
def P5:au->Bool| .bS _=>true|_=>false
def build{α:Type}(l:List α):(List α->Prop)->Prop:=List.rec (motive:=λ_=>(List α->Prop)->Prop) (λK=>K []) (λx _ ih K=>ih λys=>K (x::ys)) l
def YU{α:Type}(K:List α->Prop):build [] K=K []:=rfl
def Th{α:Type}(x:α)(xs:List α)(K:List α->Prop):build (x::xs) K=build xs λys=>K (x::ys):=rfl
def OD{α:Type}{β:Type}:List α->(List α->β)->β|[],K=>K []|x::xs,K=>OD xs λys=>K (x::ys)
theorem J6{α:Type}{β:Type}:∀(l:List α) (K:List α->β),OD l K=K l|[],K=>rfl|x::l,K=>by simp only[OD];exact J6 l _
def q_(P:Program)(t:TypeId)(cs:List au):List (Nat×Option au)->Option (List au)
 |[]=>some cs|(f,some d)::rest=>match Nat.beq (cells d).length (bg P (fieldAt P t f).2)&& !P5 d with|true=>OD (aI cs (fieldAt P t f).1 (cells d)) λcs=>q_ P t cs rest|false=>none
 |(_,none)::_=>none
def jj{α:Type}:List (Option α)->Option (List α)
 |[]=>some []|some x::xs=>match jj xs with|some ys=>some (x::ys)|none=>none
 |none::_=>none
def ue(sz:Nat):Nat->List (Nat×Option au)->Option (List au)
 |_,[]=>some []
 |i,(j,some d)::rest=>match Nat.beq i j&&Nat.beq (cells d).length sz&& !P5 d with
  |true=>match ue sz (i+1) rest with|some l=>some (d::l)|none=>none
  |false=>none
 |_,(_,none)::_=>none
def iu(ρ:TypeId->Operand->Option au):List Operand->List TypeId->List (Option au)|x::xs,t::ts=>ρ t x::iu ρ xs ts|x::xs,[]=>ρ 0 x::iu ρ xs []|[],_=>[]
def X8:Int->List au->Option Int|a,[]=>some a|a,.int _ b::rest=>X8 (if b<a then b else a) rest|_,_=>none
def Yc:Int->List au->Option Int|a,[]=>some a|a,.int _ b::rest=>Yc (if b>a then b else a) rest|_,_=>none
def arq:List au->Bool|[]=>false| .Ix _::_=>true|_::r=>arq r
def Aa(P:Program)(t:TypeId):Option IntKind:=
 match mH P t with
 | .map k _=>match mH P k with| .int q=>some q|_=>none
 |_=>none
def mapElem(P:Program)(t:TypeId):TypeId:=match mH P t with| .map _ e=>e|_=>0
def B3(P:Program)(t:TypeId):TypeId:=match mH P t with| .map k _=>k|_=>0
def mF(P:Program)(c:Call)(ρ:TypeId->Operand->Option au):DD:=
 match jj (iu ρ c.args.toList c.argTypes.toList)with
 |none=> .bad
 |some args=>
  match c.callee with
  | .builtin b=>match b with
    | .len=>match mH P (c.argTypes.toList.headD 0),args with
      | .slice _,[.sl _ es _]=> .val (.int .i64 es.length)
      | .slice _,[.ref _ n]=> .val (.int .i64 n)
      | .slice _,[.cQ _ n]=> .val (.int .i64 n)
      | .slice _,[.sub _ _ n]=> .val (.int .i64 n)
      | .string,[.str s]=> .val (.int .i64 s.length)
      | .map _ _,[.dQ k]=> .adl k
      |_,_=> .bad
    | .delete=>match Aa P (c.argTypes.toList.headD 0),args with
      |some q,[.dQ k,.int q' n]=>match B7 q' q with|true=> .adr k q n|false=> .bad
      |_,_=> .bad
    | .append=>match args with
      |[x,y]=> .app (bg P (xt P (c.argTypes.toList.headD 0))) x y
      |_=> .bad
    | .min=>match args with
      | .int k a::rest=>match X8 a rest with|some r=> .val (.int k r)|none=> .bad
      |_=> .bad
    | .max=>match args with
      | .int k a::rest=>match Yc a rest with|some r=> .val (.int k r)|none=> .bad
      |_=> .bad
    |_=> .bad
  | .value f=>match ρ 0 f with
    |some (.gD (.func f) first cap)=>match arq args with
     |true=> .yS f (first++args++cap)
     |false=> .call f (first++args++cap)
    |some (.Ix l)=> .yield l args
    |_=> .bad
  |_=> .bad
def Yk(P:Program)(t:TypeId):Bool:=match mH P t with| .int .u8=>true|_=>false
def HX(P:Program)(src dst:TypeId)(x:au):DD:=
 match mH P dst,x with
 | .int k,.int _ n=> .arith k n| .string,.str s=> .val (.str s)
 | .string,.sl z es b=>match mH P src with
   | .slice e=>match Yk P e with|true=> .text (.sl z es b)|false=> .bad
   |_=> .bad
 | .string,.ref k n=>match mH P src with
   | .slice e=>match Yk P e with|true=> .text (.ref k n)|false=> .bad
   |_=> .bad
 | .slice e,.str s=>match mH P src with
   | .string=>match Yk P e with|true=> .bytes e s|false=> .bad
   |_=> .bad
 |_,_=> .bad
def zU(ρ:TypeId->Operand->Option au):Option Operand->Option (Option Int)|none=>some none|some x=>match ρ 0 x with|some (.int _ n)=>some (some n)|_=>none
def cu(P:Program)(o:Oper)(ρ:TypeId->Operand->Option au):DD:=
 match o.op with
 | .move x=>match ρ o.type x with|some d=> .val d|none=> .bad
 | .assign x=>match ρ o.type x with|some d=> .val d|none=> .bad
 | .pick c a b=>match ρ 0 c with
   |some (.bool b')=> .sel b' (ρ o.type a) (ρ o.type b)
   |_=> .bad
 | .box t x=>match ρ t x with
   |some d=>match Nat.beq (cells d).length (bg P t)&& !P5 d with|true=> .alloc d|false=> .bad
   |none=> .bad
 | .alloc t=> .alloc (rD P 8 t)| .load t a=>match ρ 0 a with|some d=> .load d (bg P t) (fU P t)|none=> .bad
 | .store t a x=>match ρ 0 a with
   |some p=>match ρ t x with|some d=> .store p d (bg P t)|none=> .bad
   |none=> .bad
 | .fieldAddr t a f=>match ρ 0 a with
   |some (.ptr l off)=> .val (.ptr l (off+(fieldAt P t f).1))
   |some (.mA d off)=> .val (.mA d (off+(fieldAt P t f).1))
   |some (.iS k n i off)=> .val (.iS k n i (off+(fieldAt P t f).1))
   |_=> .bad
 | .indexAddr t a i=>match ρ 0 a with
   |some d=>match ρ 0 i with
    |some (.int _ n)=>match d with
     | .ptr l off=>match mH P t with| .array m e=> .akd l off m (bg P e) n|_=> .bad
     |d=>match mH P t with| .slice e=> .idx (bg P e) d n|_=> .bad
    |_=> .bad
   |none=> .bad
 | .index t a i=>match ρ t a with
   |some (.agg cs)=>match ρ 0 i with
    |some (.int _ n)=>match mH P t with
     | .array m e=>match Nat.beq cs.length m&&Nat.beq (bg P e) 1&& !fU P e with|true=> .part cs n|false=> .bad
     |_=> .bad
    |_=> .bad
   |some (.str s)=>match ρ 0 i with
    |some (.int _ n)=>match mH P t with| .string=> .ahv s n|_=> .bad
    |_=> .bad
   |_=> .bad
 | .field t a f=>match ρ t a with
   |some (.agg cs)=>match partOf (.agg cs) (fieldAt P t f).1 (bg P (fieldAt P t f).2) (fU P (fieldAt P t f).2)with
    |some d=> .val d
    |none=> .bad
   |_=> .bad
 | .binOp op t x y t' =>match ρ t x with
   |some a=>match ρ t' y with|some b=>OH P t op a b|none=> .bad
   |none=> .bad
 | .unOp op t x=>match op,ρ t x with
   | .not,some (.bool b)=> .val (.bool (!b))
   | .neg,some (.int k n)=> .arith k (0 - n)
   |_,_=> .bad
 | .extract t i=>match ρ 0 t with
   |some (.bS cs)=>match nth cs i with|some d=> .val d|none=> .bad
   |_=> .bad
 | .build t parts=>match fU P t with
   |true=>match rD P 8 t with
    | .agg cs=>match q_ P t cs (parts.toList.map λp=>(p.1,ρ (fieldAt P t p.1).2 p.2))with
      |some cs=> .val (.agg cs)
      |none=> .bad
    |_=> .bad
   |false=> .bad
 | .buildSlice t n parts=>match Nat.beq parts.toList.length n with
   |true=>match ue (bg P (xt P t)) 0 (parts.toList.map λp=>(p.1,ρ (xt P t) p.2))with
    |some es=> .row (bg P (xt P t)) es
    |none=> .bad
   |false=> .bad
 | .makeFunc fn first cap=>match jj (first.toList.map (ρ 0)),jj (cap.toList.map (ρ 0))with
   |some a,some b=> .val (.gD fn a b)
   |_,_=> .bad
 | .nilCheck x=>match ρ 0 x with
   |some (.ptr l off)=> .val (.ptr l off)
   |some (.mA d off)=> .val (.mA d off)
   |some (.iS k n i off)=> .val (.iS k n i off)
   |some (.gD (.func f) a b)=> .val (.gD (.func f) a b)
   |_=> .bad
 | .convert src dst x=>match ρ src x with|some d=>HX P src dst d|none=> .bad
 | .slice t x lo hi none=>match ρ t x with
   |some a=>match zU ρ lo with
    |some lo=>match zU ρ hi with
     |some hi=>match mH P t,a with
      | .string,.str s=> .sub 0 (.str s) lo hi
      | .slice _,.str _=> .bad
      | .slice e,a=> .sub (bg P e) a lo hi
      |_,_=> .bad
     |none=> .bad
    |none=> .bad
   |none=> .bad
 | .makeSlice t l m=>match mH P t,ρ 0 l,ρ 0 m with
   | .slice e,some (.int .i64 n),some (.int .i64 k)=> .make (bg P e) (rD P 8 e) n k
   |_,_,_=> .bad
 | .makeMap t none=>match Aa P t with|some _=> .adk|none=> .bad
 | .mapUpdate t m k v=>match Aa P t,ρ t m,ρ (B3 P t) k,ρ (mapElem P t) v with
   |some q,some (.dQ r),some (.int q' n),some d=>match B7 q' q with|true=> .X5 r q n d|false=> .bad
   |_,_,_,_=> .bad
 | .insert t m k v=>match Aa P t,ρ t m,ρ (B3 P t) k,ρ (mapElem P t) v with
   |some q,some (.dQ r),some (.int q' n),some d=>match B7 q' q with|true=> .X5 r q n d|false=> .bad
   |_,_,_,_=> .bad
 | .lookup t x i ok=>match Aa P t,ρ t x,ρ (B3 P t) i with
   |some q,some (.dQ r),some (.int q' n)=>match B7 q' q with|true=> .ado r q n (rD P 8 (mapElem P t)) ok|false=> .bad
   |_,_,_=> .bad
 | .call c=>mF P c ρ|_=> .bad
def uh(q:IntKind)(n:Int):List au->Nat->Option (Option Nat)
 |[],_=>some none
 | .me (.int q' m) _::r,i=>match B7 q' q with
   |true=>match n==m with
    |true=>some (some i)
    |false=>uh q n r (i+1)
   |false=>none
 | .md::r,i=>uh q n r (i+1)|_::_,_=>none
def NQ:List au->Nat|[]=>0| .md::r=>NQ r|_::r=>NQ r+1
structure oB(q:IntKind)(n:Int)(es:List au)(K:Option Nat->Prop):Prop where
 out:∃r,uh q n es 0=some r∧K r
structure atl(es:List au)(i:Nat)(K:au->Prop):Prop where
 out:∃k v,nth es i=some (.me k v)∧K v
structure Arith(k:IntKind)(x:Int)(K:Int->Prop):Prop where
 out:K (k.wrap x)
structure kQ(p K:Prop):Prop where
 h:p
 k:K
structure bt(n:Nat)(es:List au)(i:Int)(K:au->Prop):Prop where
 out:∃d,n=es.length∧0<=i∧nth es i.toNat=some d∧K d
structure ave(s:List UInt8)(i:Int)(K:Int->Prop):Prop where
 out:∃b,0<=i∧nth s i.toNat=some b∧K b.toNat
structure atj(o:Option (List UInt8))(K:List UInt8->Prop):Prop where
 out:∃b,o=some b∧K b
structure agy(es:List au)(K:Bool->Prop):Prop where
 t:es=[]->K true
 f:K false
structure Br(b:Bool)(X Y:Prop):Prop where
 t:b=true->X
 f:b=false->Y
structure ah5(P:Program)(C:FuncId->List au->Ct->au->Ct->Prop)(f:FuncId)(args:List au)(m:Ct)(K:au->Ct->Prop):Prop where
 out:∃r m',C f args m r m' ∧K r m'
structure Rh(b:Bool)(K:Prop):Prop where
 h:b=true
 k:K
structure Tw(X Y:Prop):Prop where
 a:X
 b:Y
def St.put(s:St)(t:Option Nat)(d:au):St:=match t with|some t=>{s with env:=aW s.env t (some d)}|none=>s
def ew:au->Bool
 | .bool _=>true| .int _ _=>true| .str _=>true| .sl _ _ b=> !b| .agg cs=>go cs| .mA _ _=>true| .gD _ first cap=>go first&&go cap
 | .Ix _=>true| .jG=>true| .m_=>true| .jH=>true| .m9=>true|_=>false
 where go:List au->Bool|[]=>true| .bool _::r=>go r| .int _ _::r=>go r| .str _::r=>go r| .sl _ _ b::r=> !b&&go r| .mA _ _::r=>go r| .jG::r=>go r| .m_::r=>go r| .jH::r=>go r| .m9::r=>go r|_::_=>false
def St.freeze(s:St)(k:Nat)(r:Row):St:={s with R:=aW s.R k (some {r with own:=false})}
def dZ(s:St)(d:au)(K:St->au->Prop):Prop:=
 match d with
 | .ref k n=>match s.R k with
   |some r=>match Nat.beq r.sz 0 with
    |true=>False
    |false=>kQ (n=r.es.length) (K (s.freeze k r) (.sl r.sz r.es false))
   |none=>False
 | .sl z es _=>K s (.sl z es false)|d=>match ew d with|true=>K s d|false=>False
def jI(s:St)(l:List au):(St->List au->Prop)->Prop:=List.rec (motive:=λ_=>St->(St->List au->Prop)->Prop) (λs K=>K s []) (λd _ ih s K=>dZ s d λs' d' =>ih s' λs'' ds' =>K s'' (d' ::ds')) l s
def IM(s:St)(K:St->List au->Prop):jI s [] K=K s []:=rfl
def lx(s:St)(d:au)(ds:List au)(K:St->List au->Prop):jI s (d::ds) K=dZ s d λs' d' =>jI s' ds λs'' ds' =>K s'' (d' ::ds'):=rfl
def nY(s:St)(d:au)(K:St->au->Prop):Prop:=match ew d with|true=>K s d|false=>match d with| .agg cs=>jI s cs λs' cs' =>K s' (.agg cs')| .ref k n=>dZ s (.ref k n) K| .sl z es b=>dZ s (.sl z es b) K|_=>False
def lS(s:St)(l:List au):(St->List au->Prop)->Prop:=List.rec (motive:=λ_=>St->(St->List au->Prop)->Prop) (λs K=>K s []) (λd _ ih s K=>nY s d λs' d' =>ih s' λs'' ds' =>K s'' (d' ::ds')) l s
def P0(s:St)(K:St->List au->Prop):lS s [] K=K s []:=rfl
def nX(s:St)(d:au)(ds:List au)(K:St->List au->Prop):lS s (d::ds) K=nY s d λs' d' =>lS s' ds λs'' ds' =>K s'' (d' ::ds'):=rfl
def place:List Nat->Nat->Nat->Option Nat|[],_,_=>none|x::xs,i,l=>bif Nat.beq x l then some i else place xs (i+1) l
def ia(ls:List Nat)(l:List au):(List Nat->List au->Prop)->Prop:=
 List.rec (motive:=λ_=>List Nat->(List Nat->List au->Prop)->Prop) (λls K=>K ls [])
  (λd _ ih ls K=>match d with
   | .ptr l off=>match place ls 0 l with
     |some i=>ih ls λls ds=>K ls (.ptr (1000+i) off::ds)
     |none=>ih (ls++[l]) λls' ds=>K ls' (.ptr (1000+ls.length) off::ds)
   |d=>match ew d with|true=>ih ls λls ds=>K ls (d::ds)|false=>False) l ls
theorem pC(ls:List Nat)(d:au)(ds:List au)(K:List Nat->List au->Prop):ia ls (d::ds) K=match d with
 | .ptr l off=>match place ls 0 l with
   |some i=>ia ls ds λls ds=>K ls (.ptr (1000+i) off::ds)
   |none=>ia (ls++[l]) ds λls' ds=>K ls' (.ptr (1000+ls.length) off::ds)
 |d=>match ew d with|true=>ia ls ds λls ds=>K ls (d::ds)|false=>False:=rfl
def pD(ls:List Nat)(d:au)(K:List Nat->au->Prop):Prop:=match d with| .gD f a b=>ia ls a λls a=>ia ls b λls b=>K ls (.tT (.gD f a b))|_=>False
def fI(s:St)(ls ks:List Nat)(l:List au):(St->List Nat->List Nat->List au->Prop)->Prop:=
 List.rec (motive:=λ_=>St->List Nat->List Nat->(St->List Nat->List Nat->List au->Prop)->Prop) (λs ls ks K=>K s ls ks [])
  (λd _ ih s ls ks K=>match d with
   | .ptr l off=>match place ls 0 l with
     |some i=>ih s ls ks λs ls ks ds=>K s ls ks (.ptr (1000+i) off::ds)
     |none=>ih s (ls++[l]) ks λs ls' ks ds=>K s ls' ks (.ptr (1000+ls.length) off::ds)
   | .tT x=>pD ls x λls d=>ih s ls ks λs ls ks ds=>K s ls ks (d::ds)|d=>nY s d λs d=>ih s ls ks λs ls ks ds=>K s ls ks (d::ds)) l s ls ks
def n_(s:St)(ls ks:List Nat)(K:St->List Nat->List Nat->List au->Prop):fI s ls ks [] K=K s ls ks []:=rfl
theorem js(s:St)(ls ks:List Nat)(d:au)(ds:List au)(K:St->List Nat->List Nat->List au->Prop):fI s ls ks (d::ds) K=match d with
 | .ptr l off=>match place ls 0 l with
   |some i=>fI s ls ks ds λs ls ks ds=>K s ls ks (.ptr (1000+i) off::ds)
   |none=>fI s (ls++[l]) ks ds λs ls' ks ds=>K s ls' ks (.ptr (1000+ls.length) off::ds)
 | .tT x=>pD ls x λls d=>fI s ls ks ds λs ls ks ds=>K s ls ks (d::ds)|d=>nY s d λs d=>fI s ls ks ds λs ls ks ds=>K s ls ks (d::ds):=rfl
def fH(s:St)(ls ks:List Nat)(d:au)(K:St->List Nat->List Nat->au->Prop):Prop:=
 match d with
 | .ptr l off=>match place ls 0 l with
   |some i=>K s ls ks (.ptr (1000+i) off)
   |none=>K s (ls++[l]) ks (.ptr (1000+ls.length) off)
 | .gD fn first cap=>fI s ls ks first λs ls ks first=>fI s ls ks cap λs ls ks cap=>K s ls ks (.gD fn first cap)
 | .tT x=>pD ls x λls d=>K s ls ks d|d=>nY s d λs d=>K s ls ks d
def named(ks:List Nat)(k:Nat)(K:List Nat->Nat->Prop):Prop:=match place ks 0 k with|some i=>K ks (1000+i)|none=>K (ks++[k]) (1000+ks.length)
def jz(s:St)(ks:List Nat)(k n:Nat)(K:List Nat->au->Prop):Prop:=
 match s.R k with
 |some r=>kQ (n=r.es.length) (match r.own with
  |true=>named ks k λks k' =>K ks (.ref k' r.es.length)|false=>match Nat.beq r.sz 0 with|true=>False|false=>K ks (.sl r.sz r.es false))
 |none=>False
def j_(s:St)(ks:List Nat)(k:Nat)(K:List Nat->au->Prop):Prop:=match s.R k with|some _=>named ks k λks k' =>K ks (.dQ k')|none=>False
def iI(s:St)(ks:List Nat)(k n:Nat)(K:List Nat->au->Prop):Prop:=match s.R k with|some _=>named ks k λks k' =>K ks (.cQ k' n)|none=>False
def eY(f_:Bool)(s:St)(ls ks:List Nat)(l:List au):(St->List Nat->List Nat->List au->Prop)->Prop:=
 List.rec (motive:=λ_=>St->List Nat->List Nat->(St->List Nat->List Nat->List au->Prop)->Prop) (λs ls ks K=>K s ls ks [])
  (λd _ ih s ls ks K=>match d,f_ with
   | .ref k n,true=>jz s ks k n λks d=>ih s ls ks λs ls ks ds=>K s ls ks (d::ds)| .dQ k,_=>j_ s ks k λks d=>ih s ls ks λs ls ks ds=>K s ls ks (d::ds)| .cQ k n,_=>iI s ks k n λks d=>ih s ls ks λs ls ks ds=>K s ls ks (d::ds)|d,_=>fH s ls ks d λs ls ks d=>ih s ls ks λs ls ks ds=>K s ls ks (d::ds)) l s ls ks
def lT(f_:Bool)(s:St)(ls ks:List Nat)(K:St->List Nat->List Nat->List au->Prop):eY f_ s ls ks [] K=K s ls ks []:=rfl
def kE(f_:Bool)(s:St)(ls ks:List Nat)(d:au)(ds:List au)(K:St->List Nat->List Nat->List au->Prop):eY f_ s ls ks (d::ds) K=match d,f_ with| .ref k n,true=>jz s ks k n λks d=>eY f_ s ls ks ds λs ls ks ds=>K s ls ks (d::ds)| .dQ k,_=>j_ s ks k λks d=>eY f_ s ls ks ds λs ls ks ds=>K s ls ks (d::ds)| .cQ k n,_=>iI s ks k n λks d=>eY f_ s ls ks ds λs ls ks ds=>K s ls ks (d::ds)|d,_=>fH s ls ks d λs ls ks d=>eY f_ s ls ks ds λs ls ks ds=>K s ls ks (d::ds):=rfl
def gG(s:St)(ks:List Nat)(l:List au):(List Nat->List au->Prop)->Prop:=
 List.rec (motive:=λ_=>List Nat->(List Nat->List au->Prop)->Prop) (λks K=>K ks [])
  (λd _ ih ks K=>match d with
   | .ref k n=>jz s ks k n λks d=>ih ks λks ds=>K ks (d::ds)| .dQ k=>j_ s ks k λks d=>ih ks λks ds=>K ks (d::ds)| .cQ k n=>iI s ks k n λks d=>ih ks λks ds=>K ks (d::ds)| .me _ _=>False| .md=>False| .ptr _ _=>False| .jw _ _=>False| .iS _ _ _ _=>False| .gD _ _ _=>False| .tT _=>False| .bS _=>False| .agg _=>False| .any=>False| .mA _ _=>False| .own _=>False| .shr _=>False| .j8 _ _ _=>False| .sub _ _ _=>False| .fT _ _ _=>False| .lit _ _=>False|d=>ih ks λks ds=>K ks (d::ds)) l ks
def dW(s:St)(ks:List Nat)(K:List Nat->List au->Prop):gG s ks [] K=K ks []:=rfl
def dF(s:St)(ks:List Nat)(d:au)(ds:List au)(K:List Nat->List au->Prop):gG s ks (d::ds) K=match d with| .ref k n=>jz s ks k n λks d=>gG s ks ds λks ds=>K ks (d::ds)| .dQ k=>j_ s ks k λks d=>gG s ks ds λks ds=>K ks (d::ds)| .cQ k n=>iI s ks k n λks d=>gG s ks ds λks ds=>K ks (d::ds)| .me _ _=>False| .md=>False| .ptr _ _=>False| .jw _ _=>False| .iS _ _ _ _=>False| .gD _ _ _=>False| .tT _=>False| .bS _=>False| .agg _=>False| .any=>False| .mA _ _=>False| .own _=>False| .shr _=>False| .j8 _ _ _=>False| .sub _ _ _=>False| .fT _ _ _=>False| .lit _ _=>False|d=>gG s ks ds λks ds=>K ks (d::ds):=rfl
def kW(s:St)(ks:List Nat)(d:au)(K:List Nat->au->Prop):Prop:=match ew d with|true=>K ks d|false=>match d with| .agg cs=>gG s ks cs λks cs=>K ks (.agg cs)|d=>gG s ks [d] λks ds=>match ds with|[d]=>K ks d|_=>False
def gS(s:St)(ks:List Nat)(l:List Nat):(List Nat->List au->Prop)->Prop:=
 List.rec (motive:=λ_=>List Nat->(List Nat->List au->Prop)->Prop) (λks K=>K ks [])
  (λl _ ih ks K=>match s.H l with
   |some d=>kW s ks d λks d=>ih ks λks ds=>K ks (d::ds)|none=>False) l ks
def mB(s:St)(ks:List Nat)(K:List Nat->List au->Prop):gS s ks [] K=K ks []:=rfl
def lA(s:St)(ks:List Nat)(l:Nat)(ls:List Nat)(K:List Nat->List au->Prop):gS s ks (l::ls) K=match s.H l with|some d=>kW s ks d λks d=>gS s ks ls λks ds=>K ks (d::ds)|none=>False:=rfl
def rowsOf(s:St):List Nat->Option (List Row)
 |[]=>some []
 |k::ks=>match s.R k with
  |some r=>match rowsOf s ks with|some l=>some (r::l)|none=>none
  |none=>none
def lN(ks:List Nat)(dst:Nat)(i:Nat):Nat:=match nth ks i with|some k=>k|none=>5000+10*dst+(i - ks.length)
def sg(ks:List Nat)(dst:Nat):au->au| .ref k n=> .ref (lN ks dst (k - 1000)) n| .dQ k=> .dQ (lN ks dst (k - 1000))| .cQ k n=> .cQ (lN ks dst (k - 1000)) n|d=>d
def back(ks:List Nat)(dst:Nat)(d:au):au:=match ew d with|true=>d|false=>match d with| .agg cs=> .agg (cs.map (sg ks dst))| .bS cs=> .bS (cs.map λd=>match ew d with|true=>d|false=>sg ks dst d)|d=>sg ks dst d
def Dx:au->Bool| .ref k _=>Nat.ble 1000 k| .dQ k=>Nat.ble 1000 k| .cQ k _=>Nat.ble 1000 k|d=>ew d
def vZ(d:au):Bool:=match ew d with|true=>true|false=>match d with| .agg cs=>cs.all Dx| .bS cs=>cs.all Dx| .ref k _=>Nat.ble 1000 k| .dQ k=>Nat.ble 1000 k| .cQ k _=>Nat.ble 1000 k|_=>false
def fC(ks:List Nat)(dst:Nat)(H:Nat->Option au):List Nat->List au->(Nat->Option au)|l::ls,d::ds=>fC ks dst (aW H l (some (back ks dst d))) ls ds|_,_=>H
def dC(ks:List Nat)(dst:Nat)(R:Nat->Option Row)(rn:List Nat):Nat->List Row->(Nat->Option Row)×List Nat|_,[]=>(R,rn)|i,r::rs=>match nth ks i with|some k=>dC ks dst (aW R k (some r)) rn (i+1) rs|none=>dC ks dst (aW R (5000+10*dst+(i - ks.length)) (some r)) ((5000+10*dst+(i - ks.length))::rn) (i+1) rs
def fF(ks:List Nat)(dst:Nat)(R:Nat->Option Row):Nat->List Row->Bool|_,[]=>true|i,_::rs=>match nth ks i with|some _=>fF ks dst R (i+1) rs|none=>match R (5000+10*dst+(i - ks.length))with|some _=>false|none=>fF ks dst R (i+1) rs
inductive Ad where
 |tmp (t k:Nat)
 |cell (l j k:Nat)
 |lay (t:Nat)
 |aS (l j:Nat)
 |nest (t k:Nat)
 |Hr (t:Nat)
 |uj (l j:Nat)
def fixC(l:Nat)(d:au):au->au
 | .ptr k off=>bif Nat.beq k l then .mA d off else .ptr k off| .jw k off=>bif Nat.beq k l then .any else .jw k off| .gD f a b=>match ew (.gD f a b)with|true=> .gD f a b|false=> .any
 | .tT _=> .any|x=>x
def aj0(l:Nat)(d:au):au->au| .agg cs=> .agg (cs.map (fixC l d))|x=>fixC l d x
def okC:au->Bool| .ptr _ _=>true| .ref _ _=>true| .agg _=>false|x=>ew x
def aj1(l:Nat)(d:au):au->Option au
 | .gD f a b=>match a.all okC&&b.all okC with|true=>some (.gD f (a.map (fixC l d)) (b.map (fixC l d)))|false=>none
 | .agg cs=>match ew (.agg cs)with|true=>some (.agg cs)|false=>none
 | .bS _=>none|x=>some (fixC l d x)
def aj2(s:St)(l:Nat)(d:au)(K:St->Prop):Prop:=match ew d&&Nat.blt l 1000 with|true=>K {env:=λt=>match s.env t with|some x=>aj1 l d x|none=>none,H:=λu=>bif Nat.beq u l then none else(match s.H u with|some x=>some (aj0 l d x)|none=>none),hn:=s.hn,R:=s.R,rn:=s.rn,y:=s.y}|false=>False
def JN(ls:List Nat):St->(St->Prop)->Prop:=
 List.rec (motive:=λ_=>St->(St->Prop)->Prop) (λs K=>K s) (λl _ ih s K=>match s.H l with
  |some d=>aj2 s l d λs=>ih s K|none=>False) ls
def S5(l:Nat)(ls:List Nat)(s:St)(K:St->Prop):JN (l::ls) s K=match s.H l with|some d=>aj2 s l d λs=>JN ls s K|none=>False:=rfl
structure mN where
 f_:FuncId->Bool
 C:FuncId->List au->Ct->au->Ct->Prop
 hint:Nat->List Ad
 fix:List Nat
 l:Nat
 xs:List (List au)
 CY:FuncId->List au->Nat->List (au×YS)->Prop
 It:au->List (List au)->Prop
def WL{α:Type}:Option α->Bool|none=>true|some _=>false
def lq(s:St)(d:au)(K:List au->Prop):Prop:=
 match d with
 | .sl _ es _=>K es
 | .ref k n=>match s.R k with
   |some r=>kQ (n=r.es.length) (K r.es)
   |none=>False
 | .str b=>K (b.map λc=> .int .u8 c.toNat)|_=>False
structure Ij(es:List au)(j:Nat)(K:List au->Prop):Prop where
 out:∃xs,nth es j=some (.own xs)∧K xs
def fW:au->au| .own es=> .sl 1 es false| .shr es=> .sl 1 es false|d=>d
def wG:au->au| .sl _ es _=> .shr es|d=>d
def qd(r:Row):Row:=⟨r.sz,false,.any::List.replicate r.es.length .any⟩
def gO(s:St)(sz:Nat)(d:au):Bool:=
 match d with
 | .sl z _ _=>Nat.beq z sz| .ref k _=>match s.R k with|some r=>Nat.beq r.sz sz&& !Nat.beq sz 0|none=>false
 | .cQ k _=>match s.R k with|some r=>Nat.beq r.sz 0&&(r.own&&Nat.beq 1 sz)|none=>false
 | .sub k _ _=>match s.R k with|some r=>Nat.beq r.sz 0&&(r.own&&Nat.beq 1 sz)|none=>false
 | .lit _ _=>Nat.beq 1 sz| .str _=>Nat.beq 1 sz|_=>false
def CX:List au->Option (List UInt8)
 |[]=>some []| .int .u8 n::r=>match CX r with|some l=>some (UInt8.ofNat n.toNat::l)|none=>none
 |_=>none
def cut{α:Type}(es:List α)(lo hi:Option Int):List α:=match lo,hi with|none,none=>es|some l,none=>es.drop l.toNat|none,some h=>es.take h.toNat|some l,some h=>(es.drop l.toNat).take (h - l).toNat
def wR(s:St)(t:Nat)(d:au)(K:St->Prop):Prop:=match ew d with|true=>K {env:=aW s.env t (some (.mA d 0)),H:=s.H,hn:=s.hn,R:=s.R,rn:=s.rn,y:=s.y}|false=>match d with| .gD f a b=>K {env:=aW s.env t (some (.tT (.gD f a b))),H:=s.H,hn:=s.hn,R:=s.R,rn:=s.rn,y:=s.y}|_=>False
def aC(P:Program)(c:mN)(dst:Option Nat)(s:St)(K:St->Prop):DD->Prop
 | .val d=>K (s.put dst d)| .BU p d=>kQ p (K (s.put dst d))| .arith k x=>Arith k x λn=>K (s.put dst (.int k n))
 | .load a n agg=>match a with
   | .ptr l off=>match s.H l with
     |some d=>match partOf d off n agg with|some c=>K (s.put dst c)|none=>False
     |none=>False
   | .jw l off=>match s.H l,agg with
     |some d,false=>bt (cells d).length (cells d) off λc=>K (s.put dst c)
     |_,_=>False
   | .mA d off=>match partOf d off n agg with|some c=>K (s.put dst c)|none=>False
   | .tT d=>match d,Nat.beq n 1&& !agg with
     | .gD f a b,true=>K (s.put dst (.gD f a b))
     |_,_=>False
   | .iS k m i off=>match s.R k with
     |some r=>bt m r.es i λd=>match partOf d off n agg with|some c=>K (s.put dst c)|none=>False
     |none=>False
   | .j8 k m i=>match s.R k,Nat.beq n 1&& !agg with
     |some r,true=>match r.own&&Nat.beq r.sz 0 with
      |true=>bt m r.es i λd=>match d with
       | .own xs=>K (s.put dst (.sub k i.toNat xs.length))
       | .shr xs=>K (s.put dst (.sl 1 xs false))
       |_=>False
      |false=>False
     |_,_=>False
   | .fT k j i=>match s.R k,Nat.beq n 1&& !agg with
     |some r,true=>match r.own&&Nat.beq r.sz 0 with
      |true=>Ij r.es j λxs=>bt xs.length xs i λd=>match d with
       | .int q x=>K (s.put dst (.int q x))
       |_=>False
      |false=>False
     |_,_=>False
   |_=>False
 | .store a v n=>match Nat.beq (cells v).length n with
   |false=>False
   |true=>match a with
    | .ptr l off=>match s.H l with
      |some d=>match FH d off n v with
       |some d' =>K {s with H:=aW s.H l (some d')}
       |none=>False
      |none=>False
    | .jw l off=>match s.H l with
      |some (.agg cs)=>match v with
       | .agg _=>False
       | .bS _=>False
       |v=>kQ (off<cs.length) (K {s with H:=aW s.H l (some (.agg (cs.set off v)))})
      |_=>False
    | .iS k m i off=>nY s v λs v=>match s.R k with
      |some r=>match r.own&& !Nat.beq r.sz 0 with
       |true=>bt m r.es i λd=>match FH d off n v with
        |some d' =>K {s with R:=aW s.R k (some {r with es:=r.es.set i.toNat d' })}
        |none=>False
       |false=>False
      |none=>False
    | .j8 k m i=>match v with
      | .ref q n' =>match s.R k,s.R q with
        |some r,some rq=>match (r.own&&Nat.beq r.sz 0)&&((rq.own&&Nat.beq rq.sz 1)&& !Nat.beq q k)with
         |true=>kQ (n' =rq.es.length) (bt m r.es i λd=>match d with
          | .shr _=>K {s with R:=aW (aW s.R q (some (qd rq))) k (some {r with es:=r.es.set i.toNat (.own rq.es)})}
          |_=>False)
         |false=>False
        |_,_=>False
      | .sl _ [] _=>match s.R k with
        |some r=>match r.own&&Nat.beq r.sz 0 with
         |true=>bt m r.es i λd=>match d with
          | .shr _=>K {s with R:=aW s.R k (some {r with es:=r.es.set i.toNat (.own [])})}
          |_=>False
         |false=>False
        |none=>False
      |_=>False
    | .fT k j i=>match v,s.R k with
      | .int q x,some r=>match r.own&&Nat.beq r.sz 0 with
        |true=>Ij r.es j λxs=>kQ (0<=i∧i.toNat<xs.length) (K {s with R:=aW s.R k (some {r with es:=r.es.set j (.own (xs.set i.toNat (.int q x)))})})
        |false=>False
      |_,_=>False
    |_=>False
 | .alloc d=>match dst with
   |some t=>match c.hint (30000+t)with
    |[]=>match s.H t with
     |none=>K {env:=aW s.env t (some (.ptr t 0)),H:=aW s.H t (some d),hn:=t::s.hn,R:=s.R,rn:=s.rn,y:=s.y}
     |some _=>False
    |_::_=>wR s t d K
   |none=>False
 | .row sz es=>match dst with
   |some t=>match c.hint (40000+t)with
    |_::_=>match es,Nat.beq sz 1 with
     |[.ref q n],true=>K (s.put dst (.lit q n))
     |_,_=>False
    |[]=>lS s es λs es=>match (match Nat.beq sz 0 with|true=>some (⟨0,true,[]⟩:Row)|false=>s.R t)with
     |none=>K {env:=aW s.env t (some (.ref t es.length)),H:=s.H,hn:=s.hn,R:=aW s.R t (some ⟨sz,true,es⟩),rn:=t::s.rn,y:=s.y}
     |some _=>False
   |none=>False
 | .idx sz a i=>match gO s sz a with
   |false=>False
   |true=>match a with
    | .sl _ es _=>bt es.length es i λd=>K (s.put dst (.mA d 0))
    | .ref k n=>match s.R k with
      |some r=>match r.own with
       |true=>bt n r.es i λ_=>K (s.put dst (.iS k n i 0))
       |false=>bt n r.es i λd=>K (s.put dst (.mA d 0))
      |none=>False
    | .cQ k n=>match s.R k with
      |some r=>bt n r.es i λ_=>K (s.put dst (.j8 k n i))
      |none=>False
    | .sub k j n=>match s.R k with
      |some r=>Ij r.es j λxs=>kQ (n=xs.length∧0<=i∧i.toNat<n) (K (s.put dst (.fT k j i)))
      |none=>False
    |_=>False
 | .akd l off m sz i=>kQ (0<=i∧i<m) (K (s.put dst (.jw l (off+i.toNat*sz))))| .part cs i=>bt cs.length cs i λd=>K (s.put dst d)| .ahv b i=>ave b i λn=>K (s.put dst (.int .u8 n))
 | .app sz a b=>match gO s sz a&&gO s sz b with
   |false=>False
   |true=>match a,dst with
    | .sl _ _ true,some t=>lq s b λxs=>kQ (xs.length<=2^32) (match (match Nat.beq sz 0 with|true=>some (⟨0,true,[]⟩:Row)|false=>s.R t)with
      |none=>K {env:=aW s.env t (some (.ref t xs.length)),H:=s.H,hn:=s.hn,R:=aW s.R t (some ⟨sz,true,xs⟩),rn:=t::s.rn,y:=s.y}
      |some _=>False)
    | .ref k n,some t=>match s.R k with
      |some r=>lq s b λxs=>kQ (n=r.es.length∧(r.es++xs).length<=2^32)
       (K {s with env:=aW s.env t (some (.ref k (r.es++xs).length)),R:=aW s.R k (some {r with es:=r.es++xs})})
      |none=>False
    | .cQ k n,some t=>match b with
      | .lit q n' =>match s.R k,s.R q with
        |some r,some rq=>match (rq.own&&Nat.beq rq.sz 1)&& !Nat.beq q k with
         |true=>kQ (n' =rq.es.length∧n=r.es.length∧r.es.length+1<=2^32)
          (K {s with env:=aW s.env t (some (.cQ k (r.es.length+1))),R:=aW (aW s.R q (some (qd rq))) k (some {r with es:=r.es++[.own rq.es]})})
         |false=>False
        |_,_=>False
      |_=>False
    |_,_=>False
 | .sub sz a lo hi=>match a with
   | .str b=>kQ (0<=lo.getD 0∧lo.getD 0<=hi.getD b.length∧hi.getD b.length<=b.length) (K (s.put dst (.str (cut b lo hi))))
   |a=>match gO s sz a with
    |false=>False
    |true=>nY s a λs a=>match a with
     | .sl z es _=>match Nat.beq z sz with
       |true=>kQ (0<=lo.getD 0∧lo.getD 0<=hi.getD es.length∧hi.getD es.length<=es.length) (K (s.put dst (.sl sz (cut es lo hi) false)))
       |false=>False
     |_=>False
 | .sel b x y=>Br b (match x with|some d=>K (s.put dst d)|none=>False) (match y with|some d=>K (s.put dst d)|none=>False)
 | .bytes _ b=>match dst with
   |some t=>match s.R t with
    |none=>K {env:=aW s.env t (some (.ref t b.length)),H:=s.H,hn:=s.hn,R:=aW s.R t (some ⟨1,false,b.map λc=> .int .u8 c.toNat⟩),rn:=t::s.rn,y:=s.y}
    |some _=>False
   |none=>False
 | .text a=>match gO s 1 a with
   |false=>False
   |true=>lq s a λes=>atj (CX es) λb=>K (s.put dst (.str b))
 | .call f args=>match dst with
   |some t=>eY (c.f_ f) s [] [] args λs ls ks args=>gS s ks ls λks H=>match rowsOf s ks with
    |some R=>ah5 P c.C f args ⟨H,R⟩ λr m=>match fF ks t s.R 0 m.R&&(vZ r&&m.H.all vZ&&Nat.ble m.R.length (ks.length+4))with
     |true=>K {env:=aW s.env t (some (back ks t r)),H:=fC ks t s.H ls m.H,hn:=s.hn,R:=(dC ks t s.R s.rn 0 m.R).1,rn:=(dC ks t s.R s.rn 0 m.R).2,y:=s.y}
     |false=>False
    |none=>False
   |none=>False
 | .adk=>match dst with
   |some t=>match s.R t with
    |none=>K {env:=aW s.env t (some (.dQ t)),H:=s.H,hn:=s.hn,R:=aW s.R t (some ⟨0,true,[]⟩),rn:=t::s.rn,y:=s.y}
    |some _=>False
   |none=>False
 | .X5 k q n v=>match dst with
   |some _=>False
   |none=>match ew v with
    |false=>False
    |true=>match s.R k with
     |some r=>match Nat.beq r.sz 0 with
      |true=>oB q n r.es λi=>match i with
       |some i=>K {s with R:=aW s.R k (some ⟨0,true,r.es.set i (.me (.int q n) v)⟩)}
       |none=>K {s with R:=aW s.R k (some ⟨0,true,r.es++[.me (.int q n) v]⟩)}
      |false=>False
     |none=>False
 | .ado k q n z ok=>match s.R k with
   |some r=>match Nat.beq r.sz 0 with
    |true=>oB q n r.es λi=>match i with
     |some i=>atl r.es i λv=>K (s.put dst (match ok with|true=> .bS [v,.bool true]|false=>v))
     |none=>K (s.put dst (match ok with|true=> .bS [z,.bool false]|false=>z))
    |false=>False
   |none=>False
 | .adr k q n=>match dst with
   |some _=>False
   |none=>match s.R k with
    |some r=>match Nat.beq r.sz 0 with
     |true=>oB q n r.es λi=>match i with
      |some i=>K {s with R:=aW s.R k (some ⟨0,true,r.es.set i .md⟩)}
      |none=>K s
     |false=>False
    |none=>False
 | .adl k=>match s.R k with
   |some r=>match Nat.beq r.sz 0 with
    |true=>K (s.put dst (.int .i64 (NQ r.es)))
    |false=>False
   |none=>False
 | .Ek es nl ne=>match nl with
   |true=>K (s.put dst (.bool (!ne)))
   |false=>kQ (es≠[]) (K (s.put dst (.bool (false !=ne))))
 | .make sz z n m=>match dst with
   |some t=>match (match Nat.beq sz 0 with|true=>some (⟨0,true,[]⟩:Row)|false=>s.R t)with
    |none=>match z with
     | .sl y [] _=>kQ (n=m∧0<=n∧n<=2^20) (K {env:=aW s.env t (some (.ref t n.toNat)),H:=s.H,hn:=s.hn,R:=aW s.R t (some ⟨sz,true,List.replicate n.toNat (.sl y [] false)⟩),rn:=t::s.rn,y:=s.y})
     |z=>kQ (n=m∧0<=n∧n<=2^20) (K {env:=aW s.env t (some (.ref t n.toNat)),H:=s.H,hn:=s.hn,R:=aW s.R t (some ⟨sz,true,List.replicate n.toNat z⟩),rn:=t::s.rn,y:=s.y})
    |some _=>False
   |none=>False
 | .yield _ _=>False| .yS _ _=>False| .bad=>False
structure Rec where
 rh:List Nat
 wh:List Nat
 rr:List Nat
 wr:List Nat
 ld:List (Nat×Nat×Nat×Bool)
 wv:List (Nat×Option au×Option au)
def Rec.nil:Rec:=⟨[],[],[],[],[],[]⟩
def Rec.seen(r:Rec)(s s' :St):Rec:=⟨r.rh,r.wh,r.rr,r.wr,r.ld,r.wh.map λl=>(l,s.H l,s'.H l)⟩
def pr(d:Option au)(q:Nat×Nat×Nat×Bool):Option au:=match d with|some d=>partOf d q.2.1 q.2.2.1 q.2.2.2|none=>none
def ig:au->List Nat
 | .ref k _=>[k]| .dQ k=>[k]| .cQ k _=>[k]| .sub k _ _=>[k]| .lit q _=>[q]| .agg cs=>go cs|_=>[]
 where go:List au->List Nat|[]=>[]| .ref k _::r=>k::go r| .dQ k::r=>k::go r| .cQ k _::r=>k::go r| .sub k _ _::r=>k::go r| .lit q _::r=>q::go r|_::r=>go r
def vS:List au->List Nat|[]=>[]| .ptr l _::r=>l::vS r|_::r=>vS r
def an3:au->List Nat| .gD _ a b=>vS a++vS b|_=>[]
def oN:au->List Nat
 | .ptr l _=>[l]| .gD _ first cap=>go first++go cap
 | .tT d=>an3 d|_=>[]
 where go:List au->List Nat|[]=>[]| .ptr l _::r=>l::go r| .tT d::r=>an3 d++go r|_::r=>go r
def refsOf:List au->List Nat
 |[]=>[]| .gD _ first cap::r=>(refsOf.IW first++refsOf.IW cap)++refsOf r
 |d::r=>(match ew d with|true=>[]|false=>ig d)++refsOf r
 where IW:List au->List Nat|[]=>[]|d::r=>(match ew d with|true=>[]|false=>ig d)++IW r
def zS:List au->List Nat|[]=>[]|d::r=>oN d++zS r
def tM(H:Nat->Option au):List Nat->List Nat|[]=>[]|l::ls=>(match H l with|some d=>(match ew d with|true=>[]|false=>ig d)|none=>[])++tM H ls
def dg:Option Nat->List Nat|some t=>[t]|none=>[]
def fX(dst:Option Nat)(s:St):DD->Rec| .load (.ptr l off) n agg=>⟨[],[],[],[],[(l,off,n,agg)],[]⟩| .load (.jw l _) _ _=>⟨[l],[],[],[],[],[]⟩| .load (.iS k _ _ _) _ _=>⟨[],[],[k],[],[],[]⟩| .load (.j8 k _ _) _ _=>⟨[],[],[k],[],[],[]⟩| .load (.fT k _ _) _ _=>⟨[],[],[k],[],[],[]⟩| .store (.ptr l _) _ _=>⟨[],[l],[],[],[],[]⟩| .store (.jw l _) _ _=>⟨[],[l],[],[],[],[]⟩| .store (.iS k _ _ _) v _=>⟨[],[],[],k::refsOf [v],[],[]⟩| .store (.j8 k _ _) v _=>⟨[],[],[],k::refsOf [v],[],[]⟩| .store (.fT k _ _) _ _=>⟨[],[],[],[k],[],[]⟩| .alloc _=>⟨[],dg dst,[],[],[],[]⟩| .row _ es=>⟨[],[],[],dg dst++refsOf es,[],[]⟩| .idx _ (.ref k _) _=>⟨[],[],[k],[],[],[]⟩| .idx _ (.cQ k _) _=>⟨[],[],[k],[],[],[]⟩| .idx _ (.sub k _ _) _=>⟨[],[],[k],[],[],[]⟩| .app _ (.cQ k _) (.lit q _)=>⟨[],[],[],[k,q],[],[]⟩| .app _ (.ref k _) b=>⟨[],[],refsOf [b],[k],[],[]⟩| .app _ _ b=>⟨[],[],refsOf [b],dg dst,[],[]⟩| .sub _ a _ _=>⟨[],[],[],refsOf [a],[],[]⟩| .bytes _ _=>⟨[],[],[],dg dst,[],[]⟩| .text a=>⟨[],[],refsOf [a],[],[],[]⟩| .adk=>⟨[],[],[],dg dst,[],[]⟩| .make _ _ _ _=>⟨[],[],[],dg dst,[],[]⟩| .X5 k _ _ _=>⟨[],[],[],[k],[],[]⟩| .ado k _ _ _ _=>⟨[],[],[k],[],[],[]⟩| .adr k _ _=>⟨[],[],[],[k],[],[]⟩| .adl k=>⟨[],[],[k],[],[],[]⟩| .call _ args=>⟨[],zS args,[],(dg dst).flatMap (λt=>[5000+10*t,5001+10*t,5002+10*t,5003+10*t])++(refsOf args++tM s.H (zS args)),[],[]⟩|_=>⟨[],[],[],[],[],[]⟩
def BrW(want b:Bool)(X Y:Prop):Prop:=match want with|true=>Br b X Y|false=>Br b Y X
def DE{want b:Bool}{X Y:Prop}(h:BrW want b X Y):Br (b==want) X Y:=by cases want<;>cases b;exact⟨λ_=>h.f rfl,λe=>bK⟩;exact⟨λe=>bK,λ_=>h.t rfl⟩;exact⟨λe=>bK,λ_=>h.f rfl⟩;exact⟨λ_=>h.t rfl,λe=>bK⟩
def Tu{want b:Bool}{X Y:Prop}(h:Br (b==want) X Y):BrW want b X Y:=by cases want<;>cases b;exact⟨λe=>bK,λ_=>h.t rfl⟩;exact⟨λ_=>h.f rfl,λe=>bK⟩;exact⟨λe=>bK,λ_=>h.f rfl⟩;exact⟨λ_=>h.t rfl,λe=>bK⟩
def guardOf(ops:List Oper)(s:St)(o:Oper)(X Y:Prop):Prop:=
 match o.guard with
 |none=>X
 |some (j,want)=>match nth ops j with
  |some oj=>match oj.dst with
   |some t=>match s.env t with|some (.bool b)=>BrW want b X Y|some (.bS [])=>Y|_=>False
   |none=>False
  |none=>False
def St.forget(s:St)(t:Option Nat):St:=match t with|some t=>{s with env:=aW s.env t (some (.bS []))}|none=>s
def uu(P:Program)(c:mN)(all:List Oper):List Oper->List Rec->St->(List Rec->St->Prop)->Prop
 |[],rs,s,K=>K rs s
 |o::rest,rs,s,K=>guardOf all s o
  (aC P c o.dst s (λs' =>uu P c all rest ((fX o.dst s (cu P o (cY P s))).seen s s' ::rs) s' K) (cu P o (cY P s)))
  (uu P c all rest (.nil::rs) (s.forget o.dst) K)
def norm(dst:Option Nat)(p:DD)(s:St)(K:St->Prop):Prop:=
 match s with
 |⟨env,H,hn,R,rn,y⟩=>match dst with
  |some t=>match env t with
   |some d=>match d with| .agg cs=>build cs λcs=>K ⟨aW env t (some (.agg cs)),H,hn,R,rn,y⟩| .bS cs=>build cs λcs=>K ⟨aW env t (some (.bS cs)),H,hn,R,rn,y⟩|d=>K ⟨aW env t (some d),H,hn,R,rn,y⟩
   |none=>K ⟨env,H,hn,R,rn,y⟩
  |none=>match p with
   | .store (.ptr l _) _ _=>match H l with
     |some d=>match d with
      | .agg cs=>build cs λcs=>K ⟨env,aW H l (some (.agg cs)),hn,R,rn,y⟩
      |d=>K ⟨env,aW H l (some d),hn,R,rn,y⟩
     |none=>K ⟨env,H,hn,R,rn,y⟩
   |_=>K ⟨env,H,hn,R,rn,y⟩
def xq(P:Program)(c:mN)(all l:List Oper):List Rec->St->(List Rec->St->Prop)->Prop:=
 List.rec (motive:=λ_=>List Rec->St->(List Rec->St->Prop)->Prop)
  (λrs s K=>K rs s)
  (λo _ ih rs s K=>guardOf all s o
   (aC P c o.dst s (λs1=>norm o.dst (cu P o (cY P s)) s1 λs' =>ih ((fX o.dst s (cu P o (cY P s))).seen s s1::rs) s' K) (cu P o (cY P s)))
   (ih (.nil::rs) (s.forget o.dst) K)) l
def Qx(P:Program)(c:mN)(all:List Oper)(o:Oper)(rest:List Oper)(rs:List Rec)(s:St)(K:List Rec->St->Prop):xq P c all (o::rest) rs s K=guardOf all s o (aC P c o.dst s (λs1=>norm o.dst (cu P o (cY P s)) s1 λs' =>xq P c all rest ((fX o.dst s (cu P o (cY P s))).seen s s1::rs) s' K) (cu P o (cY P s))) (xq P c all rest (.nil::rs) (s.forget o.dst) K):=rfl
inductive Out where
 |normal
 |exit (id:Nat)
 |ret
 |Ej (q:Nat)
def vw(q:Nat):au:= .bS [.md,.int .i64 q]
def rT:au->Option Nat
 | .bS cs=>match cs with
   | .md::r=>match r with
     |[.int _ n]=>some n.toNat
     |_=>none
   |_=>none
 |_=>none
def ags(K:au->YS->Prop):List (au×YS)->Prop|[]=>True|(r,y)::l=>Tw (K r y) (ags K l)
theorem QZ{K:au->YS->Prop}:∀{l:List (au×YS)},ags K l->∀{r y},(r,y)∈l->K r y|(r',y')::l,h,r,y,hm=>by rcases b_.1 hm with e|e;cases e;exact h.a;exact QZ h.b e
theorem DC{K K' :au->YS->Prop}(h:∀r y,K r y->K' r y):∀{l:List (au×YS)},ags K l->ags K' l|[],_=>trivial|(r,y)::l,k=>⟨h r y k.a,DC h k.b⟩
structure ath(C:FuncId->List au->Nat->List (au×YS)->Prop)(f:FuncId)(args:List au)(k:Nat)(K:au->YS->Prop):Prop where
 out:∃outs,C f args k outs∧ags K outs
def St.IE(s:St)(dst:Option Nat)(d:au)(y:YS):St:=match dst with|some t=>{env:=aW s.env t (some d),H:=s.H,hn:=s.hn,R:=s.R,rn:=s.rn,y:=y}|none=>{env:=s.env,H:=s.H,hn:=s.hn,R:=s.R,rn:=s.rn,y:=y}
def lD(o:Oper):Bool:=match o.op with
 | .call c=>match c.callee with| .value _=>true|_=>false
 |_=>false
def OM(P:Program)(c:mN)(b:Bool)(dst:Option Nat)(s:St)(K:St->Prop)(KP:Nat->St->Prop)(p:DD):Prop:=
 match b,p with
 |false,.Ek es false ne=>agy es λr=>K (s.put dst (.bool (r !=ne)))|true,.yield l args=>match s.y with| .run k=>lS s args λs args=>kQ (l=c.l∧nth c.xs k=some args) (Tw (K (s.IE dst (.bool true) (.run (k+1)))) (K (s.IE dst (.bool false) .stop)))|_=>False
 |true,.yS f args=>match s.y with| .run k=>lS s args λs args=>ath c.CY f args k λr y=>K (s.IE dst r y)|_=>False
 |true,.call f args=>match dst with
  |some t=>eY (c.f_ f) s [] [] args λs ls ks args=>gS s ks ls λks H=>match rowsOf s ks with
   |some R=>ah5 P c.C f args ⟨H,R⟩ λr m=>match rT r with
    |none=>match fF ks t s.R 0 m.R&&(vZ r&&m.H.all vZ&&Nat.ble m.R.length (ks.length+4))with|true=>K {env:=aW s.env t (some (back ks t r)),H:=fC ks t s.H ls m.H,hn:=s.hn,R:=(dC ks t s.R s.rn 0 m.R).1,rn:=(dC ks t s.R s.rn 0 m.R).2,y:=s.y}|false=>False
    |some q=>match fF ks t s.R 0 m.R&&(m.H.all vZ&&Nat.ble m.R.length (ks.length+4))with|true=>KP q {env:=s.env,H:=fC ks t s.H ls m.H,hn:=s.hn,R:=(dC ks t s.R s.rn 0 m.R).1,rn:=(dC ks t s.R s.rn 0 m.R).2,y:=s.y}|false=>False
   |none=>False
  |none=>False
 |_,p=>aC P c dst s K p
def eM(P:Program)(c:mN)(all l:List Oper):St->(Out->St->Prop)->Prop:=
 List.rec (motive:=λ_=>St->(Out->St->Prop)->Prop)
  (λs K=>K .normal s)
  (λo _ ih s K=>guardOf all s o
   (OM P c (lD o) o.dst s (λs1=>norm o.dst (cu P o (cY P s)) s1 λs' =>ih s' K) (λq s' =>K (.Ej q) s') (cu P o (cY P s)))
   (ih (s.forget o.dst) K)) l
def tu(P:Program)(c:mN)(all:List Oper)(o:Oper)(rest:List Oper)(s:St)(K:Out->St->Prop):eM P c all (o::rest) s K=guardOf all s o (OM P c (lD o) o.dst s (λs1=>norm o.dst (cu P o (cY P s)) s1 λs' =>eM P c all rest s' K) (λq s' =>K (.Ej q) s') (cu P o (cY P s))) (eM P c all rest (s.forget o.dst) K):=rfl
def qM(b i:Nat):Bool:=Nat.beq (Nat.land (Nat.shiftRight b i) 1) 1
def jA(ops:List Oper):List Nat->List Nat|acc=>ops.foldl (λacc o=>acc++[o.after.toList.foldl (λm e=>bif Region.binds .any e then Nat.lor m (Nat.lor (Nat.pow 2 e.on) ((nth acc e.on).getD 0))else m) 0]) acc
def je:List Nat->Nat->Bool|[],_=>false|x::xs,y=>Nat.beq x y||je xs y
def meets(a b:List Nat):Bool:=a.any (je b)
def jc(ops:List Oper)(o:Oper):List Nat:=o.looksAt ops.toArray
def Am(ops:List Oper)(x y:Oper)(rx ry:Rec):Bool:=
 !(meets (dg x.dst) (jc ops y)||meets (dg x.dst) (dg y.dst)||meets (dg y.dst) (jc ops x)||
   meets rx.wh ry.rh||meets rx.wh ry.wh||meets rx.rh ry.wh||meets rx.wr ry.rr||meets rx.wr ry.wr||meets rx.rr ry.wr)
def yK(ops:List Oper):Nat->Bool|i=>match nth ops i with|some o=>o.after.toList.all λe=> !Region.binds .any e||Nat.blt e.on i|none=>true
def oV(ops:List Oper)(rs:List Rec):Bool:=
 let bs:=jA ops [];(List.range ops.length).all λj=>yK ops j&&match nth ops j,nth rs j,nth bs j with
  |some oj,some rj,some bj=>(List.range j).all λi=>qM bj i||match nth ops i,nth rs i with|some oi,some ri=>Am ops oi oj ri rj|_,_=>false
  |_,_,_=>false
structure Tt(A B:Prop):Prop where
 out:A∨B
def an9(o:Oper):Oper:={dst:=none,op:= .move (.const (.bool true)),type:=0,pos:=o.pos,after:=o.after,guard:=none}
def cN(sk:Nat):List Oper->Nat->List Oper|[],_=>[]|o::r,i=>(bif qM sk i then an9 o else o)::cN sk r (i+1)
def wL(j:Nat):List Nat->Nat->Nat|[],_=>Nat.pow 2 j|b::r,i=>bif qM b j then Nat.lor (Nat.pow 2 i) (wL j r (i+1))else wL j r (i+1)
def Oe(t:Nat):List Oper->Nat->Option Nat|[],_=>none|o::r,i=>match o.dst with|some u=>bif Nat.beq u t then some i else Oe t r (i+1)|none=>Oe t r (i+1)
def oz(o:Oper):Bool:=match o.op with| .alloc _=>true| .box _ _=>true|_=>false
def lE:List Oper->List Nat|[]=>[]|o::r=>match oz o,o.dst with|true,some t=>t::lE r|_,_=>lE r
def Ji:List Nat->List Nat->Bool|[],[]=>true|x::xs,y::ys=>Nat.beq x y&&Ji xs ys|_,_=>false
def NM:List Nat->Bool|[]=>true|x::xs=> !je xs x&&NM xs
def aqb(ops:List Oper)(j sk:Nat)(ops' :List Oper)(rs:List Rec):Bool:=
 match nth ops j,nth (jA ops []) j with
 |some o,some bj=>lD o&&(ops.all λo=>match o.guard with|none=>true|some _=>false)&&NM (lE ops')&&(List.range ops.length).all λi=>yK ops i&&match nth ops' i,nth rs i with|some oi,some ri=>Ji ri.wr []&&(Ji ri.wh []||(oz oi&&Ji ri.wh (dg oi.dst)))&&(qM sk i||qM bj i|| !meets (dg oi.dst) (jc ops o))|_,_=>false
 |_,_=>false
def Q1(s' :St)(l:List Nat):St->(St->Prop)->Prop:=
 List.rec (motive:=λ_=>St->(St->Prop)->Prop) (λs K=>K s) (λt _ ih s K=>Tw (ih s K) (match s'.H t with
  |some d=>ih {env:=s.env,H:=aW s.H t (some d),hn:=t::s.hn,R:=s.R,rn:=s.rn,y:=s.y} K|none=>False)) l
theorem Tp(s' :St)(t:Nat)(r:List Nat)(s:St)(K:St->Prop):Q1 s' (t::r) s K=Tw (Q1 s' r s K) (match s'.H t with
 |some d=>Q1 s' r {env:=s.env,H:=aW s.H t (some d),hn:=t::s.hn,R:=s.R,rn:=s.rn,y:=s.y} K|none=>False):=rfl
def D3(q:Nat×Nat×Nat×Bool)(l:List (Nat×Option au×Option au)):Prop->Prop:=
 List.rec (motive:=λ_=>Prop->Prop) (λK=>K) (λx _ ih K=>match x with
  |(l,a,b)=>match Nat.beq q.1 l with|true=>kQ (pr a q=pr b q) (ih K)|false=>ih K) l
def JC(q:Nat×Nat×Nat×Bool)(K:Prop):D3 q [] K=K:=rfl
def Hp(q:Nat×Nat×Nat×Bool)(l:Nat)(a b:Option au)(r:List (Nat×Option au×Option au))(K:Prop):D3 q ((l,a,b)::r) K=match Nat.beq q.1 l with|true=>kQ (pr a q=pr b q) (D3 q r K)|false=>D3 q r K:=rfl
def Hq(l:List (Nat×Nat×Nat×Bool))(wv:List (Nat×Option au×Option au)):Prop->Prop:=List.rec (motive:=λ_=>Prop->Prop) (λK=>K) (λq _ ih K=>D3 q wv (ih K)) l
def Cn(bj:Nat)(rj:Rec)(i:Nat)(l:List Rec):Prop->Prop:=
 List.rec (motive:=λ_=>Nat->Prop->Prop) (λ_ K=>K) (λri _ ih i K=>match qM bj i with
  |true=>ih (i+1) K|false=>Hq ri.ld rj.wv (Hq rj.ld ri.wv (ih (i+1) K))) l i
def JU(bj:Nat)(rj:Rec)(i:Nat)(K:Prop):Cn bj rj i [] K=K:=rfl
def HT(bj:Nat)(rj:Rec)(i:Nat)(ri:Rec)(rs:List Rec)(K:Prop):Cn bj rj i (ri::rs) K=match qM bj i with|true=>Cn bj rj (i+1) rs K|false=>Hq ri.ld rj.wv (Hq rj.ld ri.wv (Cn bj rj (i+1) rs K)):=rfl
def S'(all:List Rec)(bs:List Nat)(j:Nat)(l:List Rec):Prop->Prop:=
 List.rec (motive:=λ_=>Nat->Prop->Prop) (λ_ K=>K) (λrj _ ih j K=>match nth bs j with
  |some bj=>Cn bj rj 0 (all.take j) (ih (j+1) K)|none=>False) l j
def Qz(all:List Rec)(bs:List Nat)(j:Nat)(K:Prop):S' all bs j [] K=K:=rfl
def JW(all:List Rec)(bs:List Nat)(j:Nat)(rj:Rec)(rest:List Rec)(K:Prop):S' all bs j (rj::rest) K=match nth bs j with|some bj=>Cn bj rj 0 (all.take j) (S' all bs (j+1) rest K)|none=>False:=rfl
def Xh(ls:List Nat):List Rec->Bool|[]=>false|r::rs=>r.ld.any (λq=>je ls q.1)||Xh ls rs
def eqP(ops:List Oper)(rs:List Rec)(K:Prop):Prop:=match Xh (rs.flatMap (·.wh)) rs with|false=>K|true=>S' rs (jA ops []) 0 rs K
def Over{α:Type}(ms:List (Nat×α))(e:Nat->Option α):Nat->Option α|t=>match ms with|[]=>e t|(u,d)::rest=>bif Nat.beq t u then some d else Over rest e t
def xF{α:Type}(W:List Nat)(e:Nat->Option α):Nat->Option α:=λt=>bif je W t then none else e t
structure we where
 env:List (Nat×au)
 H:List (Nat×au)
 R:List (Nat×Row)
def St.with(s:St)(W:List Nat)(m:we):St:={env:=Over m.env (xF W s.env),H:=Over m.H s.H,hn:=s.hn,R:=Over m.R s.R,rn:=s.rn,y:=s.y}
def St.at(s:St)(y:YS):St:={env:=s.env,H:=s.H,hn:=s.hn,R:=s.R,rn:=s.rn,y:=y}
def HG(s:St):List (Nat×au)->Prop|[]=>True|(t,d)::r=>s.env t=some d∧HG s r
def abx(s s' :St):List Nat->Prop|[]=>True|l::r=>s.H l=s'.H l∧abx s s' r
def abw(s s' :St):List Nat->Prop|[]=>True|k::r=>s.R k=s'.R k∧abw s s' r
structure Holds(s t:St)(m:we):Prop where
 env:HG s m.env
 H:abx s t t.hn
 R:abw s t t.rn
def yX(drop:List Nat)(iV:List Nat):au->Bool
 | .ptr l _=> !je drop l| .jw l _=> !je drop l| .ref k _=> !je iV k| .dQ k=> !je iV k| .cQ k _=> !je iV k| .j8 k _ _=> !je iV k| .sub k _ _=> !je iV k| .fT k _ _=> !je iV k| .lit q _=> !je iV q| .iS k _ _ _=> !je iV k| .gD _ first cap=>go drop iV first&&go drop iV cap
 | .tT _=>false| .agg cs=>go drop iV cs| .bS cs=>go drop iV cs| .any=>true|_=>true
 where go (drop iV:List Nat):List au->Bool|[]=>true| .ptr l _::r=> !je drop l&&go drop iV r| .jw l _::r=> !je drop l&&go drop iV r| .ref k _::r=> !je iV k&&go drop iV r| .dQ k::r=> !je iV k&&go drop iV r| .cQ k _::r=> !je iV k&&go drop iV r| .j8 _ _ _::_=>false| .sub _ _ _::_=>false| .fT _ _ _::_=>false| .lit _ _::_=>false| .iS k _ _ _::r=> !je iV k&&go drop iV r| .gD _ _ _::_=>false| .tT _::_=>false| .bS _::_=>false| .agg _::_=>false|_::r=>go drop iV r
def O0(drop iV:List Nat):List (Nat×au)->Bool|[]=>true|(_,d)::r=>yX drop iV d&&O0 drop iV r
def Ht(W:List Nat):List (Nat×au)->Bool|[]=>true|(t,_)::r=>je W t&&Ht W r
def tidy(drop iV:List Nat)(m:we):Bool:=O0 drop iV m.env&&O0 drop iV m.H&&Ht drop m.env
def zj(s:St):List Nat->Bool|[]=>true|l::r=>match s.H l with|none=>zj s r|some _=>false
def zi(s:St):List Nat->Bool|[]=>true|l::r=>match s.R l with|none=>zi s r|some _=>false
def kl(s:St):List (Nat×au)->Bool|[]=>true|(l,_)::r=>match s.H l with|some _=>kl s r|none=>false
def kj(s:St):List (Nat×Row)->Bool|[]=>true|(l,_)::r=>match s.R l with|some _=>kj s r|none=>false
def mC:Code->Nat| .region id _ _=>id| .seq a _=>mC a| .block _ b=>mC b| .loop b=>mC b| .scope b=>mC b|_=>0
def qZ:List Ad->List Nat|[]=>[]| .tmp t _::r=>t::qZ r| .lay t::r=>t::qZ r| .nest t _::r=>t::qZ r| .Hr t::r=>t::qZ r|_::r=>qZ r
def gH(h:Nat->List Ad):Code->List Nat| .region id ops _=>qZ (h id)++ops.toList.flatMap λo=>dg o.dst| .seq a b=>gH h a++gH h b| .cond _ a b=>gH h a++gH h b| .block _ b=>gH h b| .loop b=>(20000+mC b)::gH h b| .scope b=>gH h b| .rangeFunc _ ps a b=>(20000+mC b)::(ps.toList++(gH h a++gH h b))|_=>[]
def dm(ds:List Nat):List Nat:=ds.flatMap λt=>[t,5000+10*t,5001+10*t,5002+10*t,5003+10*t]
def setCell(d:au)(j:Nat)(x:au):au:=match d with| .agg cs=> .agg (setAt cs j x)|_=>x
def kr(V W:List Nat)(ads:List Ad):St->(St->Prop)->Prop:=
 List.rec (motive:=λ_=>St->(St->Prop)->Prop) (λs K=>K s) (λad _ ih s K=>match ad with
  | .tmp t k=>match s.env t with
    |some (.sl sz [] true)=>match (je V k&&je W t)&& !Nat.beq sz 0,s.R k with
     |true,none=>ih {env:=aW s.env t (some (.ref k 0)),H:=s.H,hn:=s.hn,R:=aW s.R k (some ⟨sz,true,[]⟩),rn:=k::s.rn,y:=s.y} K
     |_,_=>False
    |_=>False
  | .cell l j k=>match s.H l with
    |some d=>match nth (cells d) j with
     |some (.sl sz [] true)=>match je V k&& !Nat.beq sz 0,s.R k with
      |true,none=>ih {env:=s.env,H:=aW s.H l (some (setCell d j (.ref k 0))),hn:=s.hn,R:=aW s.R k (some ⟨sz,true,[]⟩),rn:=k::s.rn,y:=s.y} K
      |_,_=>False
     |_=>False
    |none=>False
  | .lay t=>match s.env t with
    |some d=>match je W t with
     |true=>nY s d λs d=>ih {env:=aW s.env t (some d),H:=s.H,hn:=s.hn,R:=s.R,rn:=s.rn,y:=s.y} K
     |false=>False
    |none=>False
  | .aS l j=>match s.H l with
    |some d=>match nth (cells d) j with
     |some x=>dZ s x λs x=>match x with
      | .agg _=>False
      |x=>ih {env:=s.env,H:=aW s.H l (some (setCell d j x)),hn:=s.hn,R:=s.R,rn:=s.rn,y:=s.y} K
     |none=>False
    |none=>False
  | .nest t k=>match s.env t with
    |some (.ref q n)=>match s.R q,s.R k with
     |some r,none=>match (je V k&&je W t)&&((r.own&&Nat.beq r.sz 1)&& !Nat.beq q k)with
      |true=>kQ (n=r.es.length∧∀e∈r.es,∃xs,e= .sl 1 xs false) (ih {env:=aW s.env t (some (.cQ k n)),H:=s.H,hn:=s.hn,R:=aW (aW s.R q (some (qd r))) k (some ⟨0,true,r.es.map wG⟩),rn:=k::s.rn,y:=s.y} K)
      |false=>False
     |_,_=>False
    |_=>False
  | .Hr t=>match s.env t with
    |some (.cQ k n)=>match s.R k with
     |some r=>match je W t&&(Nat.beq r.sz 0&&r.own)with
      |true=>kQ (n=r.es.length) (ih {env:=aW s.env t (some (.sl 1 (r.es.map fW) false)),H:=s.H,hn:=s.hn,R:=aW s.R k (some ⟨0,false,r.es⟩),rn:=s.rn,y:=s.y} K)
      |false=>False
     |none=>False
    |_=>False
  | .uj l j=>match s.H l with
    |some d=>match nth (cells d) j with
     |some (.cQ k n)=>match s.R k with
      |some r=>match Nat.beq r.sz 0&&r.own with
       |true=>kQ (n=r.es.length) (ih {env:=s.env,H:=aW s.H l (some (setCell d j (.sl 1 (r.es.map fW) false))),hn:=s.hn,R:=aW s.R k (some ⟨0,false,r.es⟩),rn:=s.rn,y:=s.y} K)
       |false=>False
      |none=>False
     |_=>False
    |none=>False) ads
def pd(V W:List Nat)(s:St)(K:St->Prop):kr V W [] s K=K s:=rfl
theorem ng(V W:List Nat)(t k:Nat)(r:List Ad)(s:St)(K:St->Prop):kr V W (.tmp t k::r) s K=match s.env t with
 |some (.sl sz [] true)=>match (je V k&&je W t)&& !Nat.beq sz 0,s.R k with|true,none=>kr V W r {env:=aW s.env t (some (.ref k 0)),H:=s.H,hn:=s.hn,R:=aW s.R k (some ⟨sz,true,[]⟩),rn:=k::s.rn,y:=s.y} K|_,_=>False
 |_=>False:=rfl
theorem lI(V W:List Nat)(l j k:Nat)(r:List Ad)(s:St)(K:St->Prop):kr V W (.cell l j k::r) s K=match s.H l with
 |some d=>match nth (cells d) j with
  |some (.sl sz [] true)=>match je V k&& !Nat.beq sz 0,s.R k with|true,none=>kr V W r {env:=s.env,H:=aW s.H l (some (setCell d j (.ref k 0))),hn:=s.hn,R:=aW s.R k (some ⟨sz,true,[]⟩),rn:=k::s.rn,y:=s.y} K|_,_=>False
  |_=>False
 |none=>False:=rfl
theorem ni(V W:List Nat)(t:Nat)(r:List Ad)(s:St)(K:St->Prop):kr V W (.lay t::r) s K=match s.env t with
 |some d=>match je W t with|true=>nY s d λs d=>kr V W r {env:=aW s.env t (some d),H:=s.H,hn:=s.hn,R:=s.R,rn:=s.rn,y:=s.y} K|false=>False
 |none=>False:=rfl
theorem ir(V W:List Nat)(l j:Nat)(r:List Ad)(s:St)(K:St->Prop):kr V W (.aS l j::r) s K=match s.H l with
 |some d=>match nth (cells d) j with
  |some x=>dZ s x λs x=>match x with| .agg _=>False|x=>kr V W r {env:=s.env,H:=aW s.H l (some (setCell d j x)),hn:=s.hn,R:=s.R,rn:=s.rn,y:=s.y} K
  |none=>False
 |none=>False:=rfl
theorem lF(V W:List Nat)(t k:Nat)(rest:List Ad)(s:St)(K:St->Prop):kr V W (.nest t k::rest) s K=match s.env t with
 |some (.ref q n)=>match s.R q,s.R k with
  |some r,none=>match (je V k&&je W t)&&((r.own&&Nat.beq r.sz 1)&& !Nat.beq q k)with|true=>kQ (n=r.es.length∧∀e∈r.es,∃xs,e= .sl 1 xs false) (kr V W rest {env:=aW s.env t (some (.cQ k n)),H:=s.H,hn:=s.hn,R:=aW (aW s.R q (some (qd r))) k (some ⟨0,true,r.es.map wG⟩),rn:=k::s.rn,y:=s.y} K)|false=>False
  |_,_=>False
 |_=>False:=rfl
theorem lG(V W:List Nat)(t:Nat)(rest:List Ad)(s:St)(K:St->Prop):kr V W (.Hr t::rest) s K=match s.env t with
 |some (.cQ k n)=>match s.R k with
  |some r=>match je W t&&(Nat.beq r.sz 0&&r.own)with|true=>kQ (n=r.es.length) (kr V W rest {env:=aW s.env t (some (.sl 1 (r.es.map fW) false)),H:=s.H,hn:=s.hn,R:=aW s.R k (some ⟨0,false,r.es⟩),rn:=s.rn,y:=s.y} K)|false=>False
  |none=>False
 |_=>False:=rfl
theorem gJ(V W:List Nat)(l j:Nat)(rest:List Ad)(s:St)(K:St->Prop):kr V W (.uj l j::rest) s K=match s.H l with
 |some d=>match nth (cells d) j with
  |some (.cQ k n)=>match s.R k with
   |some r=>match Nat.beq r.sz 0&&r.own with|true=>kQ (n=r.es.length) (kr V W rest {env:=s.env,H:=aW s.H l (some (setCell d j (.sl 1 (r.es.map fW) false))),hn:=s.hn,R:=aW s.R k (some ⟨0,false,r.es⟩),rn:=s.rn,y:=s.y} K)|false=>False
   |none=>False
  |_=>False
 |none=>False:=rfl
def WY(P:Program)(c:mN)(ops:List Oper)(W:List Nat)(t:Nat)(s:St)(K:Nat->St->Prop):Prop:=
 match Oe t ops 0 with
 |none=>False
 |some j=>match nth ops j with
  |none=>False
  |some o=>xq P c (cN (wL j (jA ops []) 0) ops 0) (cN (wL j (jA ops []) 0) ops 0) [] s λrs s' =>
   Rh (oV (cN (wL j (jA ops []) 0) ops 0) rs.reverse) (Rh (aqb ops j (wL j (jA ops []) 0) (cN (wL j (jA ops []) 0) ops 0) rs.reverse)
    (eqP (cN (wL j (jA ops []) 0) ops 0) rs.reverse (match cu P o (cY P s')with
     | .call f args=>Q1 s' (lE (cN (wL j (jA ops []) 0) ops 0)) {env:=xF W s.env,H:=s.H,hn:=s.hn,R:=s.R,rn:=s.rn,y:=s.y} λs1=>OM P c true o.dst s1 (λ_=>False) K (.call f args)|_=>False)))
def S_(P:Program)(c:mN)(id:Nat)(ops:List Oper)(W:List Nat)(s:St)(K:Out->St->Prop):Prop:=match c.hint (50000+id)with|[]=>xq P c ops ops [] s λrs s' =>Rh (oV ops rs.reverse) (eqP ops rs.reverse (K .normal s'))| .tmp t _::_=>Tt (xq P c ops ops [] s λrs s' =>Rh (oV ops rs.reverse) (eqP ops rs.reverse (K .normal s'))) (WY P c ops W t s λq s' =>K (.Ej q) s')|_=>False
structure aY(W:List Nat)(body:St->(Out->St->Prop)->Prop)(K:Out->St->Prop)(s:St):Prop where
 out:∃(ι:Type) (i0:ι) (m:ι->we) (ys:ι->YS) (μ:ι->Nat),(ys i0=s.y∧Holds s (s.with W (m i0)) (m i0))∧zj s W=true∧zi s (dm W)=true∧∀i,(tidy W (dm W) (m i)=true∧kl s (m i).H=true∧kj s (m i).R=true)∧body ((s.with W (m i)).at (ys i)) λe s' =>match e with| .normal=>∃j,μ j<μ i∧s'.y=ys j∧Holds s' (s.with W (m j)) (m j)|e=>K e s'
structure bF(V W:List Nat)(s:St)(body:St->(Out->St->Prop)->Prop)(K:Out->St->Prop):Prop where
 out:∃ad,kr V W ad s (aY W body K)
def params:List Nat->List au->(Nat->Option au)->(Nat->Option au)|t::ts,d::ds,e=>params ts ds (aW e t (some d))|_,_,e=>e
def St.params(s:St)(ps:List Nat)(ds:List au):St:={env:=Abs.params ps ds s.env,H:=s.H,hn:=s.hn,R:=s.R,rn:=s.rn,y:=s.y}
def St.back(s:St)(env:Nat->Option au):St:={env:=env,H:=s.H,hn:=s.hn,R:=s.R,rn:=s.rn,y:=s.y}
structure agw(It:au->List (List au)->Prop)(W ps:List Nat)(f:au)(Is body:St->(Out->St->Prop)->Prop)(K:Out->St->Prop)(s:St):Prop where
 out:∃(xs:List (List au)) (ι:Type) (i0:ι) (m:ι->we) (pos:ι->Nat),It f xs∧(∀x∈xs,x.length=ps.length)∧pos i0=0∧Holds s (s.with W (m i0)) (m i0)∧zj s W=true∧zi s (dm W)=true∧
  ∀i,(tidy W (dm W) (m i)=true∧kl s (m i).H=true∧kj s (m i).R=true∧(m i).env=[])∧
   (∀x,nth xs (pos i)=some x->Is ((s.with W (m i)).params ps x) λe s1=>match e with
    | .normal=>body s1 λe s' =>match e with
      | .normal=>∃j,pos j=pos i+1∧Holds s' (s.with W (m j)) (m j)
      | .Ej _=>False
      |e=>K e (s'.back (xF W s.env))
    |_=>False)∧
   (pos i=xs.length->K .normal (s.with W (m i)))
structure agx(It:au->List (List au)->Prop)(V W ps:List Nat)(s:St)(f:St->Option au)(Is body:St->(Out->St->Prop)->Prop)(K:Out->St->Prop):Prop where
 out:∃ad,kr V W ad s λs=>∃d,f s=some d∧agw It W ps d Is body K s
def al9:YS->Bool| .off=>true|_=>false
def ex(P:Program)(c:mN)(code:Code):St->(Out->St->Prop)->Prop:=
 Code.rec (motive:=λ_=>St->(Out->St->Prop)->Prop)
  (λs K=>K .normal s)
  (λid ops d s K=>kr (dm (gH c.hint (.region id ops d))) (gH c.hint (.region id ops d)) (c.hint id) s λs=>match d with
   |true=>S_ P c id ops.toList (gH c.hint (.region id ops d)) s K|false=>eM P c ops.toList ops.toList s K)
  (λ_ _ xa xb s K=>xa s λe s' =>match e with
   | .normal=>xb s' K|e=>K e s')
  (λx _ _ xa xb s K=>match cY P s 0 x with
   |some (.bool t)=>Br t (xa s K) (xb s K)|_=>False)
  (λid _ xb s K=>xb s λe s' =>match e with
   | .exit i=>match Nat.beq i id with
     |true=>K .normal s'
     |false=>K (.exit i) s'
   |e=>K e s')
  (λb xb s K=>bF (dm [20000+mC b]) (gH c.hint b) s (λs K=>xb s K) K)
  (λf ps a b xa xb s K=>match al9 s.y with
   |true=>agx c.It (dm [20000+mC b]) (ps.toList++(gH c.hint a++gH c.hint b)) ps.toList s (λs=>cY P s 0 f) (λs K=>xa s K) (λs K=>xb s K) K|false=>False)
  (λid s K=>K (.exit id) s)
  (λ_ _ _ _=>False)
  (λ_ s K=>K .normal s)
  (λ_ _ _=>False)
  (λs K=>K .ret s)
  (λ_ _ _=>False) code
section
variable(P:Program)(c:mN)(s:St)(K:Out->St->Prop)
def YA(id:Nat)(ops:Array Oper)(d:Bool):ex P c (.region id ops d) s K=kr (dm (gH c.hint (.region id ops d))) (gH c.hint (.region id ops d)) (c.hint id) s λs=>match d with|true=>S_ P c id ops.toList (gH c.hint (.region id ops d)) s K|false=>eM P c ops.toList ops.toList s K:=rfl
def aoi(a b:Code):ex P c (.seq a b) s K=ex P c a s λe s' =>match e with| .normal=>ex P c b s' K|e=>K e s' :=rfl
def aj9(x:Operand)(a b:Code):ex P c (.cond x a b) s K=match cY P s 0 x with|some (.bool t)=>Br t (ex P c a s K) (ex P c b s K)|_=>False:=rfl
theorem af8(id:Nat)(b:Code):ex P c (.block id b) s K=ex P c b s λe s' =>match e with
 | .exit i=>match Nat.beq i id with
   |true=>K .normal s'
   |false=>K (.exit i) s'
 |e=>K e s' :=rfl
def aj8(b:Code):ex P c (.loop b) s K=bF (dm [20000+mC b]) (gH c.hint b) s (λs K=>ex P c b s K) K:=rfl
def Oj(f:Operand)(ps:Array Tmp)(a b:Code):ex P c (.rangeFunc f ps a b) s K=match al9 s.y with|true=>agx c.It (dm [20000+mC b]) (ps.toList++(gH c.hint a++gH c.hint b)) ps.toList s (λs=>cY P s 0 f) (λs K=>ex P c a s K) (λs K=>ex P c b s K) K|false=>False:=rfl
end
def DA:List au->Nat->(Nat->Option au)->(Nat->Option au)|[],_,e=>e|d::ds,n,e=>DA ds (n+1) (aW e n (some d))
def lV:List au->Nat->(Nat->Option au)->(Nat->Option au)|[],_,e=>e|d::ds,n,e=>lV ds (n+1) (aW e n (some d))
def mJ:List Row->Nat->(Nat->Option Row)->(Nat->Option Row)|[],_,e=>e|d::ds,n,e=>mJ ds (n+1) (aW e n (some d))
def mi(b:Nat):Nat->List Nat|0=>[]|n+1=>mi b n++[b+n]
def init(args:List au)(m:Ct):St:={env:=DA args 0 (λ_=>none),H:=lV m.H 1000 (λ_=>none),hn:=mi 1000 m.H.length,R:=mJ m.R 1000 (λ_=>none),rn:=mi 1000 m.R.length,y:= .off}
def sV(P:Program)(s:St):List ResultVar->Option (List au)
 |[]=>some []
 | .tmp t::r=>match s.env t with
   |some d=>match sV P s r with|some l=>some (d::l)|none=>none
   |none=>none
 | .cell a t::r=>match s.env a with
   |some (.ptr l off)=>match s.H l with
    |some d=>match partOf d off (bg P t) (fU P t)with
     |some c=>match sV P s r with|some l=>some (c::l)|none=>none
     |none=>none
    |none=>none
   |_=>none
def qI(s:St)(ks:List Nat)(fs:List Bool)(l:List au):(St->List Nat->List au->Prop)->Prop:=
 List.rec (motive:=λ_=>St->List Nat->List Bool->(St->List Nat->List au->Prop)->Prop) (λs ks _ K=>K s ks [])
  (λd _ ih s ks fs K=>match fs.headD false,d with
   |true,.ref k n=>jz s ks k n λks d=>ih s ks fs.tail λs ks ds=>K s ks (d::ds)|_,.dQ k=>j_ s ks k λks d=>ih s ks fs.tail λs ks ds=>K s ks (d::ds)|_,.cQ k n=>iI s ks k n λks d=>ih s ks fs.tail λs ks ds=>K s ks (d::ds)|_,d=>nY s d λs d=>ih s ks fs.tail λs ks ds=>K s ks (d::ds)) l s ks fs
def Pw(s:St)(ks:List Nat)(fs:List Bool)(K:St->List Nat->List au->Prop):qI s ks fs [] K=K s ks []:=rfl
def NB(s:St)(ks:List Nat)(fs:List Bool)(d:au)(ds:List au)(K:St->List Nat->List au->Prop):qI s ks fs (d::ds) K=match fs.headD false,d with|true,.ref k n=>jz s ks k n λks d=>qI s ks fs.tail ds λs ks ds=>K s ks (d::ds)|_,.dQ k=>j_ s ks k λks d=>qI s ks fs.tail ds λs ks ds=>K s ks (d::ds)|_,.cQ k n=>iI s ks k n λks d=>qI s ks fs.tail ds λs ks ds=>K s ks (d::ds)|_,d=>nY s d λs d=>qI s ks fs.tail ds λs ks ds=>K s ks (d::ds):=rfl
structure fP(r r' :au)(m m' :Ct):Prop where
 r:r=r'
 m:m=m'
def WJ:List au->au|[d]=>d|ds=> .bS ds
def fin(P:Program)(fs:List Bool)(s:St)(rs:List ResultVar)(nH nR:Nat)(r:au)(m' :Ct):Prop:=match sV P s rs with|none=>False|some ds=>qI s (mi 1000 nR) fs ds λs ks ds=>gS s ks (mi 1000 nH) λks H=>match rowsOf s ks with|some R=>fP (WJ ds) r ⟨H,R⟩ m'|none=>False
def aoa(s:St)(q nH nR:Nat)(r:au)(m' :Ct):Prop:=gS s (mi 1000 nR) (mi 1000 nH) λks H=>match rowsOf s ks with|some R=>fP (vw q) r ⟨H,R⟩ m'|none=>False
def qJ:Code->Bool| .seq a b=>qJ a&&qJ b| .cond _ a b=>qJ a&&qJ b| .block _ b=>qJ b| .loop b=>qJ b| .rangeFunc _ _ _ _=>false| .scope b=>qJ b|_=>true
def exF(P:Program)(c:mN)(fs:List Bool)(fn:Func)(args:List au)(m:Ct)(r:au)(m' :Ct):Prop:=
 match fn.body with
 |some b=>ex P c b (init args m) λe s=>match e with| .exit _=>False| .Ej q=>Rh (qJ b) (JN c.fix s λs=>aoa s q m.H.length m.R.length r m')|_=>kr [] [] (c.hint 60000) s λs=>JN c.fix s λs=>fin P fs s fn.results.toList m.H.length m.R.length r m'
 |none=>False
def cJ:=@Nat.le_refl
def jm:=@Nat.lt_of_lt_of_le
def eW:=@Nat.le_trans
def Z6(h:G:=by cases v<;>first|rfl|simp[leaf]at h1):=h
def ja(h:G:=by intro ds h;cases h):=h
def E6(h:G:=by intro _ e;cases e):=h
def LU(h:G:=by intro e;cases e):=h
def LS(h:G:=by rw[hc.sz,hz.1]):=h
def E(h:G:=by omega):=h
def Uu(h:G:=by rw[(hc.same (by omega)).2.1];exact hb (by have:=hc.X4;omega)):=h
def Ur(h:G:=by exact⟨hl,λi x y hx hy=>⟨hr i x y hx hy,h1 i x hx⟩⟩):=h
def T3(h:G:=by rw[hc.value (by omega)];exact hv (by have:=hc.X4;omega)):=h
theorem aJ{α:Type}:∀(l:List α) (i:Nat),nth l i=l[i]? |[],_=>rfl|_::_,0=>rfl|_::l,i+1=>by simpa[nth]using aJ l i
def leaf:Value->Bool| .agg _=>false| .tuple _=>false|_=>true
inductive bM(I:Nat->Nat->Option Value):Value->au->Prop where
 |any (v:Value) (h:leaf v=true):bM I v .any
 |bool (b:Bool):bM I (.bool b) (.bool b)
 |int (k:IntKind) (n:Int):bM I (.int k n) (.int k n)
 |str (l:List UInt8):bM I (.string ⟨⟨l⟩⟩) (.str l)
 |slnil (sz:Nat) (b:Bool):bM I (.slice none 0 0) (.sl sz [] b)
 |sl0 (a:Option Addr) (cap sz:Nat):bM I (.slice a 0 cap) (.sl sz [] false)
 |sl (b o cap sz:Nat) (es:List au) (f:Nat->Value) (hc:es.length<=cap) (hs:∀e∈es,(cells e).length=sz)
  (hi:∀j d,nth (es.flatMap cells) j=some d->I b (o+j)=some (f j))
  (hr:∀j d,nth (es.flatMap cells) j=some d->bM I (f j) d):bM I (.slice (some ⟨b,o,none⟩) es.length cap) (.sl sz es false)
 |agg (vs:Array Value) (ds:List au) (hl:vs.size=ds.length) (h1:∀(i:Nat) v,vs[i]? =some v->leaf v=true) (hr:∀(i:Nat) v d,vs[i]? =some v->nth ds i=some d->bM I v d):bM I (.agg vs) (.agg ds)
 |mA (b o off:Nat) (d:au) (f:Nat->Value)
  (hi:∀j x,nth (cells d) j=some x->I b (o+j)=some (f j))
  (h1:∀j x,nth (cells d) j=some x->leaf (f j)=true)
  (hr:∀j x,nth (cells d) j=some x->bM I (f j) x):bM I (.pointer (some ⟨b,o+off,none⟩)) (.mA d off)
 |gD {fn:Fn} {vf vc:Array Value} {df dc:List au} (hf:vf.size=df.length) (hc:vc.size=dc.length)
  (rf:∀(i:Nat) v d,vf[i]? =some v->nth df i=some d->bM I v d)
  (rc:∀(i:Nat) v d,vc[i]? =some v->nth dc i=some d->bM I v d):bM I (.func fn vf vc) (.gD fn df dc)
 |Ix (l:Nat):bM I (.func (.yield l) #[] #[]) (.Ix l)
 |jG:bM I (.pointer none) .jG
 |m_:bM I .nilFunc .m_
 |jH:bM I (.map none) .jH
 |m9:bM I .nilIface .m9
def ku(I J:Nat->Nat->Option Value):Prop:=∀b o v,I b o=some v->J b o=some v
def bM.mono{I J:Nat->Nat->Option Value}(h:ku I J){v:Value}{d:au}(r:bM I v d):bM J v d:=by induction r with|any v hv=>exact .any v hv|bool b=>exact .bool b|int k n=>exact .int k n|str l=>exact .str l|slnil sz b=>exact .slnil sz b|sl0 a cap sz=>exact .sl0 a cap sz|sl b o cap sz es f hc hs hi _ ih=>exact .sl b o cap sz es f hc hs (λj d hj=>h _ _ _ (hi j d hj)) ih|agg vs ds hl h1 _ ih=>exact .agg vs ds hl h1 ih|mA b o off d f hi h1 _ ih=>exact .mA b o off d f (λj d hj=>h _ _ _ (hi j d hj)) h1 ih|gD hf hc _ _ ihf ihc=>exact .gD hf hc ihf ihc|Ix l=>exact .Ix l|jG=>exact .jG|m_=>exact .m_|jH=>exact .jH|m9=>exact .m9
structure Tv where
 sz:Nat
 n:Nat
 base:Option Nat
 cap:Nat
 nest:Bool:=false
 ow:Nat->Option Nat:=λ_=>none
abbrev Tv.pl(sz n:Nat)(base:Option Nat)(cap:Nat):Tv:={sz:=sz,n:=n,base:=base,cap:=cap}
structure Tv.Le(t t' :Tv):Prop where
 sz:t'.sz=t.sz
 m:t.sz=0->t'.nest=t.nest∧(t.nest=false->t'.base=t.base)∧∀j b,t.ow j=some b->t'.ow j=some b
 g:t.n<t'.n∨(t'.n=t.n∧t'.base=t.base∧t'.cap=t.cap)
def Tv.Le.refl(t:Tv):t.Le t:=⟨rfl,λ_=>⟨rfl,λ_=>rfl,λ_ _ h=>h⟩,.inr ⟨rfl,rfl,rfl⟩⟩
theorem Tv.Le.trans{a b c:Tv}(h:a.Le b)(k:b.Le c):a.Le c:=by refine⟨k.sz.trans h.sz,λe=> ?_,?_⟩;obtain⟨h1,h2,h3⟩:=h.m e;obtain⟨k1,k2,k3⟩:=k.m (h.sz.trans e);exact⟨k1.trans h1,λe=>(k2 (h1.trans e)).trans (h2 e),λj x hx=>k3 j x (h3 j x hx)⟩;rcases h.g with h1|⟨h1,h2,h3⟩<;>rcases k.g with k1|⟨k1,k2,k3⟩;exact .inl E;exact .inl E;exact .inl E;exact .inr ⟨k1.trans h1,k2.trans h2,k3.trans h3⟩
def Tv.Le.X4{t t' :Tv}(h:t.Le t'):t.n<=t'.n:=by rcases h.g with h|h<;>omega
def Tv.Le.same{t t' :Tv}(h:t.Le t')(e:t'.n<=t.n):t'.n=t.n∧t'.base=t.base∧t'.cap=t.cap:=by rcases h.g with h|h;omega;exact h
def Tv.value(t:Tv):Value:=match t.base with|some b=> .slice (some ⟨b,0,none⟩) t.n t.cap|none=> .slice none 0 0
structure Gh where
 I:Nat->Nat->Option Value
 mu:Nat->Option Nat
 tv:Nat->Option Tv
inductive bD(g:Gh):Value->au->Prop where
 |pure {v:Value} {d:au} (r:bM g.I v d):bD g v d
 |ref {k n:Nat} {v:Value} (t:Tv) (ht:g.tv k=some t) (hn:n<=t.n) (hv:n=t.n->v=t.value) (h1:∃a c,v= .slice a n c):bD g v (.ref k n)
 |ptr {l off b:Nat} (hb:g.mu l=some b):bD g (.pointer (some ⟨b,off,none⟩)) (.ptr l off)
 |jw {l off b:Nat} (hb:g.mu l=some b):bD g (.pointer (some ⟨b,off,none⟩)) (.jw l off)
 |iS {k n off b p:Nat} {i:Int} (t:Tv) (ht:g.tv k=some t) (hn:n<=t.n) (hi:0<=i) (hb:n=t.n->t.base=some b) (hp:p=i.toNat*t.sz+off):bD g (.pointer (some ⟨b,p,none⟩)) (.iS k n i off)
 |dQ {k b:Nat} (t:Tv) (ht:g.tv k=some t) (hz:t.sz=0∧t.nest=false) (hb:t.base=some b):bD g (.map (some b)) (.dQ k)
 |cQ {k n:Nat} {v:Value} (t:Tv) (ht:g.tv k=some t) (hz:t.sz=0∧t.nest=true) (hn:n<=t.n) (hv:n=t.n->v=t.value) (h1:∃a c,v= .slice a n c):bD g v (.cQ k n)
 |j8 {k n b:Nat} {i:Int} (t:Tv) (ht:g.tv k=some t) (hz:t.sz=0∧t.nest=true) (hn:n<=t.n) (hi:0<=i) (hb:n=t.n->t.base=some b):bD g (.pointer (some ⟨b,i.toNat,none⟩)) (.j8 k n i)
 |sub {k j n:Nat} {v:Value} (t:Tv) (ht:g.tv k=some t) (hz:t.sz=0) (h1:∃a c,v= .slice a n c) (hb:n≠0->∃b c,t.ow j=some b∧v= .slice (some ⟨b,0,none⟩) n c):bD g v (.sub k j n)
 |fT {k j b:Nat} {i:Int} (t:Tv) (ht:g.tv k=some t) (hz:t.sz=0) (hi:0<=i) (hb:t.ow j=some b):bD g (.pointer (some ⟨b,i.toNat,none⟩)) (.fT k j i)
 |lit {q n b c:Nat} (v:Value) (hi:g.I b 0=some v) (h1:leaf v=true) (hr:bD g v (.ref q n)):bD g (.slice (some ⟨b,0,none⟩) 1 c) (.lit q n)
 |agg {vs:Array Value} {ds:List au} (hl:vs.size=ds.length) (h1:∀(i:Nat) v,vs[i]? =some v->leaf v=true) (hr:∀(i:Nat) v d,vs[i]? =some v->nth ds i=some d->bD g v d):bD g (.agg vs) (.agg ds)
 |bS {vs:Array Value} {ds:List au} (hl:vs.size=ds.length) (hr:∀(i:Nat) v d,vs[i]? =some v->nth ds i=some d->bD g v d):bD g (.tuple vs) (.bS ds)
 |gD {fn:Fn} {vf vc:Array Value} {df dc:List au} (hf:vf.size=df.length) (hc:vc.size=dc.length)
  (rf:∀(i:Nat) v d,vf[i]? =some v->nth df i=some d->bD g v d)
  (rc:∀(i:Nat) v d,vc[i]? =some v->nth dc i=some d->bD g v d):bD g (.func fn vf vc) (.gD fn df dc)
 |tT {b:Nat} {d:au} (v:Value) (hi:g.I b 0=some v) (h1:leaf v=true) (hr:bD g v d):bD g (.pointer (some ⟨b,0,none⟩)) (.tT d)
structure Ext(g h:Gh):Prop where
 I:ku g.I h.I
 mu:∀l b,g.mu l=some b->h.mu l=some b
 tv:∀k t,g.tv k=some t->∃t',h.tv k=some t' ∧t.Le t'
theorem Ext.refl(g:Gh):Ext g g:=⟨λ_ _ _ h=>h,λ_ _ h=>h,λ_ t h=>⟨t,h,.refl t⟩⟩
theorem Ext.trans{a b c:Gh}(h:Ext a b)(k:Ext b c):Ext a c:=⟨λx y v e=>k.I _ _ _ (h.I _ _ _ e),λl x e=>k.mu _ _ (h.mu _ _ e),λx t e=>by obtain⟨t1,e1,o1⟩:=h.tv x t e;obtain⟨t2,e2,o2⟩:=k.tv x t1 e1;exact⟨t2,e2,o1.trans o2⟩⟩
theorem Tv.Le.value{t t' :Tv}(h:t.Le t')(e:t'.n<=t.n):t'.value=t.value:=by obtain⟨h1,h2,h3⟩:=h.same e;unfold Tv.value;rw[h1,h2,h3]
theorem bD.mono{g h:Gh}(e:Ext g h){v:Value}{d:au}(r:bD g v d):bD h v d:=by
 induction r with
 |pure r=>exact .pure (r.mono e.I)|ref t ht hn hv h1=>obtain⟨t',ht',hc⟩:=e.tv _ _ ht;exact .ref t' ht' (eW hn hc.X4) (λx=>T3) h1
 |ptr hb=>exact .ptr (e.mu _ _ hb)|jw hb=>exact .jw (e.mu _ _ hb)|dQ t ht hz hb=>obtain⟨t',ht',hc⟩:=e.tv _ _ ht;obtain⟨h1,h2,_⟩:=hc.m hz.1;exact .dQ t' ht' ⟨LS,by rw[h1,hz.2]⟩ (by rw[h2 hz.2];exact hb)
 |cQ t ht hz hn hv h1=>obtain⟨t',ht',hc⟩:=e.tv _ _ ht;exact .cQ t' ht' ⟨LS,by rw[(hc.m hz.1).1,hz.2]⟩ (eW hn hc.X4) (λx=>T3) h1
 |j8 t ht hz hn hi hb=>obtain⟨t',ht',hc⟩:=e.tv _ _ ht;exact .j8 t' ht' ⟨LS,by rw[(hc.m hz.1).1,hz.2]⟩ (eW hn hc.X4) hi (λx=>Uu)
 |sub t ht hz h1 hb=>obtain⟨t',ht',hc⟩:=e.tv _ _ ht;refine .sub t' ht' (by rw[hc.sz,hz]) h1 λx=> ?_;obtain⟨b,c,h2,h3⟩:=hb x;exact⟨b,c,(hc.m hz).2.2 _ _ h2,h3⟩
 |fT t ht hz hi hb=>obtain⟨t',ht',hc⟩:=e.tv _ _ ht;exact .fT t' ht' (by rw[hc.sz,hz]) hi ((hc.m hz).2.2 _ _ hb)
 |lit v hi h1 _ ih=>exact .lit v (e.I _ _ _ hi) h1 ih|iS t ht hn hi hb hp=>obtain⟨t',ht',hc⟩:=e.tv _ _ ht;exact .iS t' ht' (eW hn hc.X4) hi (λx=>Uu) (by rw[hc.sz];exact hp)
 |agg hl h1 _ ih=>exact .agg hl h1 ih|bS hl _ ih=>exact .bS hl ih|gD hf hc _ _ ihf ihc=>exact .gD hf hc ihf ihc|tT v hi h1 _ ih=>exact .tT v (e.I _ _ _ hi) h1 ih
def bM.aec{I:Nat->Nat->Option Value}{v:Value}{d:au}(r:bM I v d)(h:∀ds,d≠.agg ds):leaf v=true:=by cases r<;>first|rfl|assumption|exact absurd rfl (h _)
theorem mX{I:Nat->Nat->Option Value}{v:Value}{d:au}(r:bM I v d):v.cells.size=(cells d).length∧∀(i:Nat) x y,v.cells[i]? =some x->nth (cells d) i=some y->bM I x y∧leaf x=true:=by
 cases d with
 |agg ds=>cases r with|agg vs _ hl h1 hr=>exact Ur
 |me _ _=>cases r|md=>cases r|own _=>cases r|shr _=>cases r
 |_=>
  have h1:leaf v=true:=r.aec ja;have hv:v.cells= #[v]:=Z6
  rw[hv];refine⟨rfl,λi x y hx hy=> ?_⟩;cases i with|zero=>simp at hx;simp[nth,cells]at hy;subst hx hy;exact⟨r,h1⟩|succ i=>simp[nth,cells]at hy
theorem jE{g:Gh}{v:Value}{d:au}(r:bD g v d)(ht:∀ds,d≠.bS ds):v.cells.size=(cells d).length∧∀(i:Nat) x y,v.cells[i]? =some x->nth (cells d) i=some y->bD g x y∧leaf x=true:=by
 have one:∀{v:Value} {d:au},bD g v d->leaf v=true->(∀ds,d≠.agg ds)->
  v.cells.size=(cells d).length∧∀(i:Nat) x y,v.cells[i]? =some x->nth (cells d) i=some y->bD g x y∧leaf x=true:=by
  intro v d r h1 hd;have hv:v.cells= #[v]:=Z6
  have hc:cells d=[d]:=by cases d<;>first|rfl|exact absurd rfl (hd _)|(exfalso;cases r with|pure r=>cases r)
  rw[hv,hc];refine⟨rfl,λi x y hx hy=> ?_⟩;cases i with|zero=>simp at hx;simp[nth]at hy;subst hx hy;exact⟨r,h1⟩|succ i=>simp[nth]at hy
 cases r with
 |pure r=>
  cases d with
  |agg ds=>cases r with|agg vs _ hl h1 hr=>exact⟨hl,λi x y hx hy=>⟨.pure (hr i x y hx hy),h1 i x hx⟩⟩
  |_=>exact one (.pure r) (r.aec ja) ja
 |ref t h hn hv h1=>obtain⟨a,c,rfl⟩:=h1;exact one (.ref t h hn hv ⟨a,c,rfl⟩) rfl ja
 |dQ t h hz hb=>exact one (.dQ t h hz hb) rfl ja|cQ t h hz hn hv h1=>obtain⟨a,c,rfl⟩:=h1;exact one (.cQ t h hz hn hv ⟨a,c,rfl⟩) rfl ja
 |j8 t h hz hn hi hb=>exact one (.j8 t h hz hn hi hb) rfl ja|sub t h hz h1 hb=>obtain⟨a,c,rfl⟩:=h1;exact one (.sub t h hz ⟨a,c,rfl⟩ hb) rfl ja
 |fT t h hz hi hb=>exact one (.fT t h hz hi hb) rfl ja|lit v hi h1 hr=>exact one (.lit v hi h1 hr) rfl ja|ptr hb=>exact one (.ptr hb) rfl ja|jw hb=>exact one (.jw hb) rfl ja|iS t h hn hi hb hp=>exact one (.iS t h hn hi hb hp) rfl ja|agg hl h1 hr=>exact Ur|bS hl hr=>exact absurd rfl (ht _)|gD hf hc rf rc=>exact one (.gD hf hc rf rc) rfl ja|tT x hi h1 hr=>exact one (.tT x hi h1 hr) rfl ja
def bD.uf{g:Gh}{v:Value}{d:au}(r:bD g v d):(∀k x,d≠.me k x)∧d≠.md:=by cases r with|pure r=>cases r<;>exact⟨(by intro _ _ e;cases e),LU⟩|_=>exact⟨(by intro _ _ e;cases e),LU⟩
def bD.G_{g:Gh}{v:Value}{d:au}(r:bD g v d):(∀x,d≠.own x)∧∀x,d≠.shr x:=by cases r with|pure r=>cases r<;>exact⟨E6,E6⟩|_=>exact⟨E6,E6⟩
def qT(fz:Nat×Nat)(n:Nat):Prop:=∀o,o<n->¬(fz.1<=o∧o<fz.2)
def Im(fz:Nat×Nat)(n:Nat)(own:Bool):Prop:=qT fz n∧(own=true->qT fz (n+1))
structure Frame(w0 w:World)(X:Nat->Prop):Prop where
 os:w.os=w0.os
 tape:w.tape=w0.tape
 output:w.output=w0.output
 size:w0.heap.size<=w.heap.size
 block:∀b,b<w0.heap.size->¬X b->w.heap[b]? =w0.heap[b]?
def Frame.refl(w:World)(X:Nat->Prop):Frame w w X:=⟨rfl,rfl,rfl,cJ _,λ_ _ _=>rfl⟩
theorem Frame.trans{a b c:World}{X:Nat->Prop}(h:Frame a b X)(k:Frame b c X):Frame a c X:=⟨k.os.trans h.os,k.tape.trans h.tape,k.output.trans h.output,eW h.size k.size,λi hi hx=>(k.block i (jm hi h.size) hx).trans (h.block i hi hx)⟩
def Frame.sub{a b:World}{X Y:Nat->Prop}(h:Frame a b X)(k:∀i,i<a.heap.size->X i->Y i):Frame a b Y:=⟨h.os,h.tape,h.output,h.size,λi hi hx=>h.block i hi λe=>hx (k i hi e)⟩
def Cells(I:Nat->Nat->Option Value)(w:World):Prop:=∀b o v,I b o=some v->w.cell? ⟨b,o,none⟩=some v∧leaf v=true
structure Cx where
 n:Nat
 dX:Nat->Prop
 I0:Nat->Nat->Option Value
 D:List Deferred
 Fr:(Nat->Nat->Option Value)->World->Prop
 st:∀I I' w w',Fr I w->ku I I' ->Frame w w' dX->Cells I' w' ->(∀b,w.heap.size<=b->dX b)->Fr I' w'
def Cx.of(n:Nat)(X:Nat->Prop)(w0:World)(I0:Nat->Nat->Option Value):Cx where
 n:=n
 dX b:=w0.heap.size<=b∨X b
 I0:=I0
 D:=[]
 Fr _ w:=Frame w0 w X
 st _ _ w w' h _ k _ _:=⟨k.os.trans h.os,k.tape.trans h.tape,k.output.trans h.output,eW h.size k.size,λb hb hx=>(k.block b (jm hb h.size) (λe=>by rcases e with e|e;omega;exact hx e)).trans (h.block b hb hx)⟩
def qn(g:Gh)(w:World)(b:Nat)(d:au):Prop:=∃c e fz,w.heap[b]? =some (.cells c e fz)∧qT fz c.size∧c.size=(cells d).length∧∀(i:Nat) v x,c[i]? =some v->nth (cells d) i=some x->bD g v x∧leaf v=true
inductive ik(I:Nat->Nat->Option Value):List MapEntry->List au->Prop where
 |nil:ik I [] []
 |del {es:List MapEntry} {ds:List au} (h:ik I es ds):ik I es (.md::ds)
 |cons {e:MapEntry} {es:List MapEntry} {q:IntKind} {n:Int} {v:au} {ds:List au} (hk:e.key= .int q n) (hv:bM I e.val v) (h:ik I es ds):ik I (e::es) (.me (.int q n) v::ds)
structure Q7(I:Nat->Nat->Option Value)(es:List MapEntry)(clock:Nat)(ds:List au):Prop where
 rep:ik I es ds
 lt:∀x∈es,x.born<clock
 nd:(es.map (·.born)).Nodup
def aln(cx:Cx)(g:Gh)(w:World)(t:Tv)(r:Row):Prop:=r.own=true∧∃b es clock,t.base=some b∧cx.dX b∧(∀l,g.mu l≠some b)∧(∀j,g.I b j=none)∧w.heap[b]? =some (.map es clock)∧Q7 g.I es.toList clock r.es
def jv(cx:Cx)(g:Gh)(w:World)(t:Tv)(r:Row):Prop:=
 match t.base with
 |none=>r.es=[]∧t.cap=0
 |some b=>t.n<=t.cap∧cx.dX b∧(∀l,g.mu l≠some b)∧
  ∃c e fz,w.heap[b]? =some (.cells c e fz)∧Im fz c.size r.own∧t.cap*r.sz<=c.size∧
   (∀j,t.n*r.sz<=j->g.I b j=none)∧(r.own=true->∀j,g.I b j=none)∧
   ∀(j:Nat) d,nth (r.es.flatMap cells) j=some d->∃v,c[j]? =some v∧bM g.I v d∧leaf v=true∧(r.own=false->g.I b j=some v)
def qS(g:Gh)(w:World)(b:Nat)(es:List au):Prop:=∃c e fz,w.heap[b]? =some (.cells c e fz)∧qT fz c.size∧es.length<=c.size∧(∀e∈es,(cells e).length=1)∧(∀j,g.I b j=none)∧∀(j:Nat) d,nth (es.flatMap cells) j=some d->∃v,c[j]? =some v∧bM g.I v d∧leaf v=true
structure Ip(g:Gh)(w:World)(t:Tv)(j:Nat)(v:Value)(d:au):Prop where
 own:∀xs,d= .own xs->∃a c,v= .slice a xs.length c∧xs.length<=c∧(xs≠[]->∃b,t.ow j=some b∧a=some ⟨b,0,none⟩∧qS g w b xs)
 shr:∀xs,d= .shr xs->bM g.I v (.sl 1 xs false)∧leaf v=true
structure Ap(cx:Cx)(g:Gh)(w:World)(t:Tv)(r:Row):Prop where
 ow:∀j b,t.ow j=some b->b<w.heap.size∧cx.dX b∧(∀l,g.mu l≠some b)∧t.base≠some b∧∀j',t.ow j' =some b->j' =j
 base:∀b,t.base=some b->b<w.heap.size∧cx.dX b∧∀l,g.mu l≠some b
 live:r.own=true->(∀e∈r.es,(∃xs,e= .own xs)∨∃xs,e= .shr xs)∧(∀j b,t.ow j=some b->∃xs,nth r.es j=some (.own xs)∧xs≠[])∧match t.base with|none=>r.es=[]∧t.cap=0|some b=>t.n<=t.cap∧(∀j,g.I b j=none)∧∃c e fz,w.heap[b]? =some (.cells c e fz)∧qT fz c.size∧t.cap<=c.size∧∀(j:Nat) d,nth r.es j=some d->∃v,c[j]? =some v∧Ip g w t j v d
def Tv.wj(t:Tv)(b:Nat):Prop:=t.base=some b∨(t.sz=0∧t.nest=true∧∃j,t.ow j=some b)
structure jk(cx:Cx)(g:Gh)(w:World)(t:Tv)(r:Row):Prop where
 z:t.sz=r.sz
 o:r.sz≠0->t.nest=false->jv cx g w t r
 h:r.sz≠0->t.nest=true->t.base=none∧0<t.n
 m:r.sz=0->t.nest=false->aln cx g w t r
 q:r.sz=0->t.nest=true->Ap cx g w t r
structure Mem(cx:Cx)(g:Gh)(s:St)(w:World):Prop where
 iw:∀b o v,g.I b o=some v->w.cell? ⟨b,o,none⟩=some v∧leaf v=true
 box:∀l d,s.H l=some d->∃b,g.mu l=some b∧qn g w b d∧cx.dX b
 gx:∀l b,g.mu l=some b->∃d,s.H l=some d
 inj:∀l m b,g.mu l=some b->g.mu m=some b->l=m
 F3:∀l b,g.mu l=some b->∀o,g.I b o=none
 row:∀k r,s.R k=some r->∃t,g.tv k=some t∧t.sz=r.sz∧t.n=r.es.length∧(∀e∈r.es,(cells e).length=r.sz)∧jk cx g w t r
 gE:∀k t,g.tv k=some t->∃r,s.R k=some r
 k_:∀k j t u b,g.tv k=some t->g.tv j=some u->t.wj b->u.wj b->k=j
 kN:∀b o v,g.I b o=some v->cx.I0 b o=some v∨cx.dX b
 frame:cx.Fr g.I w
 new:∀b,w.heap.size<=b->cx.dX b
structure Rel(cx:Cx)(g:Gh)(s:St)(a:Act)(w:World):Prop where
 env:∀t d,s.env t=some d->bD g (a.tmps.getD t undef) d
 size:a.tmps.size=cx.n
 defers:a.defers=cx.D
 mem:Mem cx g s w
def Z:=@if_neg
def aX:=@Bool.and_eq_true
def dw:=@Nat.eq_of_beq_eq_true
def iX:=@Array.getElem?_eq_some_iff
def kJ:=@Array.getElem?_eq_getElem
def fQ:=@Nat.lt_irrefl
def jl:=@Nat.lt_or_ge
def Gm:=@Array.getElem?_setIfInBounds_ne
def CT:=@Array.getElem?_eq_none
def gB:=@Ne.symm
def aad(h:G:=by rcases h with h|⟨_,h,_⟩;exact h;rw[hn]at h;cases h):=h
def aac(h:G:=by intro e;subst e;rw[m.F3 l b' hb p]at h;cases h):=h
def qD(h:G:=by simp[Gh.row,bw]):=h
def E3(h:G:=by rw[yG,bw]):=h
def x_(h:G:=by simp[dN]):=h
def xW(h:G:=by rw[hg']):=h
def mO(h:G:=by simpa using this):=h
def dj(h:G:=by exact this):=h
def TC(h:G:=by rw[fJ (dL w _ b b' hne)];exact dj):=h
def ui(v:Value):v.oneCell' =leaf v:=by cases v<;>rfl
def dA(w:World)(b:Nat)(o:Obj):World:={w with heap:=w.heap.setIfInBounds b o}
def dN(w:World)(o:Obj):World:={w with heap:=w.heap.push o}
def ep{w:World}{b o:Nat}{c:Array Value}{e:TypeId}{fz:Nat×Nat}(h:w.heap[b]? =some (.cells c e fz)):w.cell? ⟨b,o,none⟩=c[o]? :=by simp[World.cell?,h]
def mM{w:World}{b o:Nat}{v:Value}(h:w.cell? ⟨b,o,none⟩=some v):b<w.heap.size:=by rcases jl b w.heap.size with h' |h';exact h';simp[World.cell?,CT h']at h
def fJ{w w' :World}{b o:Nat}(h:w'.heap[b]? =w.heap[b]?):w'.cell? ⟨b,o,none⟩=w.cell? ⟨b,o,none⟩:=by simp[World.cell?,h]
def D8{w:World}{b o:Nat}{c:Array Value}{e:TypeId}{fz:Nat×Nat}(h:w.heap[b]? =some (.cells c e fz))(hf:qT fz c.size)(ho:o<c.size):w.frozen? ⟨b,o,none⟩=false:=by have:=hf o ho;simp only[World.frozen?,h];exact mO
def bN(w:World)(o:Obj)(b:Nat)(h:b<w.heap.size):(dN w o).heap[b]? =w.heap[b]? :=by show(w.heap.push o)[b]? =_;rw[Array.getElem?_push,Z E]
def dd(w:World)(o:Obj):(dN w o).heap[w.heap.size]? =some o:=by show(w.heap.push o)[_]? =_;simp
def dL(w:World)(o:Obj)(b k:Nat)(h:k≠b):(dA w b o).heap[k]? =w.heap[k]? :=by show(w.heap.setIfInBounds b o)[k]? =_;rw[Gm (gB h)]
def dt(w:World)(o:Obj)(b:Nat)(h:b<w.heap.size):(dA w b o).heap[b]? =some o:=by show(w.heap.setIfInBounds b o)[b]? =_;simp[h]
def cI{w:World}{b:Nat}{o:Obj}(h:w.heap[b]? =some o):b<w.heap.size:=(iX.1 h).1
def qW{s:St}{sz k n:Nat}{r:Row}(hr:s.R k=some r)(h:gO s sz (.ref k n)=true):r.sz=sz∧r.sz≠0:=by have h2:(match s.R k with|some r=>Nat.beq r.sz sz&& !Nat.beq sz 0|none=>false)=true:=h;rw[hr]at h2;dsimp only at h2;rw[aX]at h2;have e:=dw h2.1;refine⟨e,λe0=> ?_⟩;have:=h2.2;rw[<-e,e0]at this;cases this
theorem qn.mono{g h:Gh}{w w' :World}{b:Nat}{d:au}(e:Ext g h)(hb:w'.heap[b]? =w.heap[b]?)(r:qn g w b d):qn h w' b d:=by obtain⟨c,t,fz,h1,h2,h3,h4⟩:=r;exact⟨c,t,fz,hb.trans h1,h2,h3,λi v x hv hx=>⟨(h4 i v x hv hx).1.mono e,(h4 i v x hv hx).2⟩⟩
theorem jv.mono{cx:Cx}{g h:Gh}{w w' :World}{t:Tv}{r:Row}(e:ku g.I h.I)(hb:∀b,t.base=some b->w'.heap[b]? =w.heap[b]?∧(∀l,h.mu l≠some b)∧∀j,h.I b j=g.I b j)(k:jv cx g w t r):jv cx h w' t r:=by unfold jv at*;cases hbase:t.base with|none=>rw[hbase]at k;exact k|some b=>rw[hbase]at k;obtain⟨hh,hm,hI⟩:=hb b hbase;obtain⟨k1,k2,k3,c,et,fz,k4,k5,k6,k7,k8,k9⟩:=k;refine⟨k1,k2,hm,c,et,fz,hh.trans k4,k5,k6,λj hj=>by rw[hI];exact k7 j hj,λho j=>by rw[hI];exact k8 ho j,λj d hd=> ?_⟩;obtain⟨v,v1,v2,v3,v4⟩:=k9 j d hd;exact⟨v,v1,v2.mono e,v3,λho=>by rw[hI];exact v4 ho⟩
def jv.wc{cx:Cx}{g:Gh}{w:World}{t:Tv}{r:Row}{b:Nat}(k:jv cx g w t r)(h:t.base=some b):b<w.heap.size∧cx.dX b∧∀l,g.mu l≠some b:=by unfold jv at k;rw[h]at k;obtain⟨_,k2,k3,c,et,fz,k4,_⟩:=k;exact⟨cI k4,k2,k3⟩
theorem ik.mono{I J:Nat->Nat->Option Value}(h:ku I J){ds:List au}{es:List MapEntry}(k:ik I es ds):ik J es ds:=by induction k with|nil=>exact .nil|del _ ih=>exact .del ih|cons hk hv _ ih=>exact .cons hk (hv.mono h) ih
theorem qS.mono{g h:Gh}{w w' :World}{b:Nat}{es:List au}(e:ku g.I h.I)(hw:w'.heap[b]? =w.heap[b]?)(hI:∀j,h.I b j=g.I b j)(k:qS g w b es):qS h w' b es:=by obtain⟨c,et,fz,h1,h2,h3,h4,h5,h6⟩:=k;refine⟨c,et,fz,hw.trans h1,h2,h3,h4,λj=>by rw[hI];exact h5 j,λj d hd=> ?_⟩;obtain⟨v,v1,v2,v3⟩:=h6 j d hd;exact⟨v,v1,v2.mono e,v3⟩
theorem Ip.mono{g h:Gh}{w w' :World}{t:Tv}{j:Nat}{v:Value}{d:au}(e:ku g.I h.I)(hb:∀b,t.ow j=some b->w'.heap[b]? =w.heap[b]?∧∀j,h.I b j=g.I b j)(k:Ip g w t j v d):Ip h w' t j v d:=by refine⟨λxs hx=> ?_,λxs hx=>⟨(k.shr xs hx).1.mono e,(k.shr xs hx).2⟩⟩;obtain⟨a,c,h1,h2,h3⟩:=k.own xs hx;refine⟨a,c,h1,h2,λhn=> ?_⟩;obtain⟨b,h4,h5,h6⟩:=h3 hn;exact⟨b,h4,h5,h6.mono e (hb b h4).1 (hb b h4).2⟩
def Hi{w w' :World}{b:Nat}(h:w'.heap[b]? =w.heap[b]?)(hb:b<w.heap.size):b<w'.heap.size:=by rw[kJ hb]at h;exact(iX.1 h).1
theorem Ap.mono{cx:Cx}{g h:Gh}{w w' :World}{t:Tv}{r:Row}(e:ku g.I h.I)(hb:∀b,(t.base=some b∨∃j,t.ow j=some b)->w'.heap[b]? =w.heap[b]?∧(∀l,h.mu l≠some b)∧∀j,h.I b j=g.I b j)(k:Ap cx g w t r):Ap cx h w' t r:=by refine⟨λj b hj=> ?_,λb h1=> ?_,λho=> ?_⟩;obtain⟨k1,k2,_,k4,k5⟩:=k.ow j b hj;exact⟨Hi (hb b (.inr ⟨j,hj⟩)).1 k1,k2,(hb b (.inr ⟨j,hj⟩)).2.1,k4,k5⟩;obtain⟨k1,k2,_⟩:=k.base b h1;exact⟨Hi (hb b (.inl h1)).1 k1,k2,(hb b (.inl h1)).2.1⟩;obtain⟨k1,k2,k3⟩:=k.live ho;refine⟨k1,k2,?_⟩;cases hbase:t.base with|none=>rw[hbase]at k3;exact k3|some b=>rw[hbase]at k3;obtain⟨q1,q2,c,et,fz,q3,q4,q5,q6⟩:=k3;obtain⟨b1,b2,b3⟩:=hb b (.inl hbase);refine⟨q1,λj=>by rw[b3];exact q2 j,c,et,fz,b1.trans q3,q4,q5,λj d hd=> ?_⟩;obtain⟨v,v1,v2⟩:=q6 j d hd;exact⟨v,v1,v2.mono e λb' hj=>⟨(hb b' (.inr ⟨j,hj⟩)).1,(hb b' (.inr ⟨j,hj⟩)).2.2⟩⟩
def Tv.wj.plain{t:Tv}{b:Nat}(h:t.wj b)(hn:t.nest=false):t.base=some b:=aad
theorem jk.wc{cx:Cx}{g:Gh}{w:World}{t:Tv}{r:Row}{b:Nat}(k:jk cx g w t r)(h:t.wj b):b<w.heap.size∧cx.dX b∧∀l,g.mu l≠some b:=by
 by_cases hz:r.sz=0
 ·cases hn:t.nest with
  |false=>have h:t.base=some b:=aad;obtain⟨h1,b',es,clock,h2,h3,h4,h5,h6,h7⟩:=k.m hz hn;rw[h]at h2;cases h2;exact⟨cI h6,h3,h4⟩
  |true=>rcases h with h|⟨_,_,j,h⟩;exact(k.q hz hn).base b h;obtain⟨h1,h2,h3,_⟩:=(k.q hz hn).ow j b h;exact⟨h1,h2,h3⟩
 have h:t.base=some b:=by rcases h with h|⟨h,_⟩;exact h;exact absurd (k.z.symm.trans h) hz
 cases hn:t.nest with|false=>exact(k.o hz hn).wc h|true=>rw[(k.h hz hn).1]at h;cases h
def jk.adj{cx:Cx}{g h:Gh}{w w' :World}{t:Tv}{r:Row}(e:ku g.I h.I)(hb:∀b,t.wj b->w'.heap[b]? =w.heap[b]?∧(∀l,h.mu l≠some b)∧∀j,h.I b j=g.I b j)(k:jk cx g w t r):jk cx h w' t r:=by refine⟨k.z,λhz hn=>(k.o hz hn).mono e λb hbb=>hb b (.inl hbb),k.h,λhz hn=> ?_,λhz hn=>(k.q hz hn).mono e λb hbb=>hb b ?_⟩;obtain⟨h1,b,es,clock,h2,h3,h4,h5,h6,h7⟩:=k.m hz hn;obtain⟨b1,b2,b3⟩:=hb b (.inl h2);exact⟨h1,b,es,clock,h2,h3,b2,λj=>by rw[b3];exact h5 j,b1.trans h6,⟨h7.rep.mono e,h7.lt,h7.nd⟩⟩;rcases hbb with hbb|⟨j,hbb⟩;exact .inl hbb;exact .inr ⟨k.z.trans hz,hn,j,hbb⟩
def jk.mono{cx:Cx}{g h:Gh}{w w' :World}{t:Tv}{r:Row}(e:Ext g h)(hb:∀b,t.wj b->w'.heap[b]? =w.heap[b]?∧(∀l,h.mu l≠some b)∧∀j,h.I b j=g.I b j)(k:jk cx g w t r):jk cx h w' t r:=k.adj e.I hb
structure agv(cx:Cx)(g:Gh)(w:World)(t:Tv)(r:Row):Prop where
 nest:r.sz≠0->t.nest=false
 Y3 :jk cx g w t r
theorem agv.o{cx:Cx}{g:Gh}{w:World}{t:Tv}{r:Row}(k:agv cx g w t r)(hz:r.sz≠0):jv cx g w t r:=k.Y3.o hz (k.nest hz)
def jk.same{cx:Cx}{g:Gh}{w w' :World}{t:Tv}{r:Row}(k:jk cx g w t r)(h:w'.heap=w.heap):jk cx g w' t r:=k.mono (Ext.refl g) λb hb=>⟨by rw[h],(k.wc hb).2.2,λ_=>rfl⟩
def qn.lt{g:Gh}{w:World}{b:Nat}{d:au}(r:qn g w b d):b<w.heap.size:=by obtain⟨c,t,fz,h1,_⟩:=r;exact cI h1
section
variable{cx:Cx}{g:Gh}{s:St}{w:World}
def Mem.Il(m:Mem cx g s w){b o:Nat}{v:Value}(h:g.I b o=some v):b<w.heap.size:=mM (m.iw b o v h).1
def Mem.vU(m:Mem cx g s w){l b:Nat}(h:g.mu l=some b):b<w.heap.size:=by obtain⟨d,hd⟩:=m.gx l b h;obtain⟨b',hb',hbox,_⟩:=m.box l d hd;rw[h]at hb';cases hb';exact hbox.lt
def Mem.kK(m:Mem cx g s w){k b:Nat}{t:Tv}(h:g.tv k=some t)(hb:t.wj b):b<w.heap.size∧cx.dX b∧∀l,g.mu l≠some b:=by obtain⟨r,hr⟩:=m.gE k t h;obtain⟨t',ht',_,_,_,hrow⟩:=m.row k r hr;rw[h]at ht';cases ht';exact hrow.wc hb
def Mem.names(m:Mem cx g s w){s' :St}(hH:s'.H=s.H)(hR:s'.R=s.R):Mem cx g s' w:=by obtain⟨a1,a2,a3,a4,a5,a6,a7,a8,a9,a10,a11⟩:=m;exact⟨a1,by rw[hH];exact a2,by rw[hH];exact a3,a4,a5,by rw[hR];exact a6,by rw[hR];exact a7,a8,a9,a10,a11⟩
def Gh.box(g:Gh)(l b:Nat):Gh:={g with mu:=aW g.mu l (some b)}
def Gh.row(g:Gh)(k:Nat)(t:Tv):Gh:={g with tv:=aW g.tv k (some t)}
def bw{α:Type}(e:Nat->Option α)(t:Nat)(d:Option α):aW e t d t=d:=by simp[aW]
def H4{a b:Nat}(h:a≠b):Nat.beq a b=false:=by cases hb:Nat.beq a b with|false=>rfl|true=>exact absurd (dw hb) h
def aO{α:Type}(e:Nat->Option α)(t u:Nat)(d:Option α)(h:u≠t):aW e t d u=e u:=by simp[aW,H4 h]
def Gh.ak1(g:Gh){l b:Nat}(h:g.mu l=none):Ext g (g.box l b):=⟨λ_ _ _ e=>e,λl' b' e=>by by_cases hl:l' =l;subst hl;rw[h]at e;cases e;simpa[Gh.box,aO _ _ _ _ hl]using e,λk t e=>⟨t,e,.refl t⟩⟩
def Gh.pz(g:Gh){k:Nat}{t:Tv}(h:g.tv k=none∨∃u,g.tv k=some u∧u.Le t):Ext g (g.row k t):=⟨λ_ _ _ e=>e,λ_ _ e=>e,λk' t' e=>by by_cases hk:k' =k;subst hk;rcases h with h|⟨u,hu,ho⟩;rw[h]at e;cases e;rw[hu]at e;cases e;exact⟨t,qD,ho⟩;exact⟨t',by simpa[Gh.row,aO _ _ _ _ hk]using e,.refl _⟩⟩
def Frame.push{w0:World}{X:Nat->Prop}(f:Frame w0 w X)(o:Obj):Frame w0 (dN w o) X:=⟨f.os,f.tape,f.output,by simpa[dN]using Nat.le_succ_of_le f.size,λb hb hx=>by rw[bN w o b (jm hb f.size)];exact f.block b hb hx⟩
theorem Frame.dA{w0:World}{X:Nat->Prop}(f:Frame w0 w X)(b:Nat)(o:Obj)(h:w0.heap.size<=b∨X b):Frame w0 (dA w b o) X:=⟨f.os,f.tape,f.output,by simpa[Abs.dA]using f.size,λk hk hx=>by rw[dL w o b k (by rcases h with h|h;omega;intro e;subst e;exact hx h)];exact f.block k hk hx⟩
def Frame.drew{w0:World}{X:Nat->Prop}(f:Frame w0 w X)(n:Nat):Frame w0 {w with drawn:=n} X:=⟨f.os,f.tape,f.output,f.size,f.block⟩
theorem Mem.drew(m:Mem cx g s w)(n:Nat):Mem cx g s {w with drawn:=n}:=by obtain⟨a1,a2,a3,a4,a5,a6,a7,a8,a9,a10,a11⟩:=m;exact⟨a1,a2,a3,a4,a5,λk r h=>(by obtain⟨t,h1,h2,h3,h4,h5⟩:=a6 k r h;exact⟨t,h1,h2,h3,h4,h5.same rfl⟩),a7,a8,a9,cx.st _ _ _ _ a10 (λ_ _ _ h=>h) ((Frame.refl w _).drew n) a1 a11,a11⟩
def Mem.Wn(m:Mem cx g s w)(o:Obj):Cells g.I (dN w o):=λb p v h=>by have:=m.iw b p v h;rw[fJ (bN w o b (m.Il h))];exact dj
theorem Mem.push(m:Mem cx g s w)(o:Obj):Mem cx g s (dN w o) where
 iw:=m.Wn o
 box l d h:=by obtain⟨b,h1,h2,h3⟩:=m.box l d h;exact⟨b,h1,h2.mono (Ext.refl g) (bN w o b h2.lt),h3⟩
 gx:=m.gx
 inj:=m.inj
 F3:=m.F3
 row k r h:=by obtain⟨t,h1,h2,h3,h4,h5⟩:=m.row k r h;refine⟨t,h1,h2,h3,h4,h5.mono (Ext.refl g) λb hb=> ?_⟩;exact⟨bN w o b (h5.wc hb).1,(h5.wc hb).2.2,λ_=>rfl⟩
 gE:=m.gE
 k_:=m.k_
 kN:=m.kN
 frame:=cx.st _ _ _ _ m.frame (λ_ _ _ h=>h) ((Frame.refl w _).push o) (m.Wn o) m.new
 new b hb:=m.new b (eW x_ hb)
def Mem.anc(m:Mem cx g s w){l:Nat}(hl:s.H l=none){v:Value}{d:au}{e:TypeId}(r:bD g v d)(ht:∀ds,d≠.bS ds){s' :St}(hH:s'.H=aW s.H l (some d))(hR:s'.R=s.R):Ext g (g.box l w.heap.size)∧Mem cx (g.box l w.heap.size) s' (dN w (.cells v.cells e (0,0))):=by
 have hmu:g.mu l=none:=by cases h:g.mu l with|none=>rfl|some b=>obtain⟨d,hd⟩:=m.gx l b h;rw[hl]at hd;cases hd
 have he:Ext g (g.box l w.heap.size):=g.ak1 hmu;refine⟨he,?_⟩;have mp:=m.push (.cells v.cells e (0,0));refine⟨mp.iw,?_,?_,?_,?_,?_,?_,?_,mp.kN,mp.frame,mp.new⟩;intro l' d' h';rw[hH]at h';by_cases hll:l' =l;subst hll;rw[bw]at h';cases h';refine⟨w.heap.size,by simp[Gh.box,bw],⟨v.cells,e,(0,0),dd _ _,?_,(jE r ht).1,λi x y hx hy=> ?_⟩,m.new _ (cJ _)⟩;intro o _;simp;exact⟨((jE r ht).2 i x y hx hy).1.mono he,((jE r ht).2 i x y hx hy).2⟩;rw[aO _ _ _ _ hll]at h';obtain⟨b,h1,h2,h3⟩:=mp.box l' d' h';exact⟨b,he.mu _ _ h1,h2.mono he rfl,h3⟩;intro l' b h';rw[hH];by_cases hll:l' =l;subst hll;exact⟨d,bw _ _ _⟩;rw[aO _ _ _ _ hll];exact m.gx l' b (by simpa[Gh.box,aO _ _ _ _ hll]using h');intro l1 l2 b h1 h2;simp only[Gh.box]at h1 h2;by_cases e1:l1=l;by_cases e2:l2=l;rw[e1,e2];subst e1;rw[bw]at h1;cases h1;rw[aO _ _ _ _ e2]at h2;exact absurd (m.vU h2) (fQ _);rw[aO _ _ _ _ e1]at h1;by_cases e2:l2=l;subst e2;rw[bw]at h2;cases h2;exact absurd (m.vU h1) (fQ _);rw[aO _ _ _ _ e2]at h2;exact m.inj l1 l2 b h1 h2;intro l' b h' o;by_cases hll:l' =l;subst hll;simp only[Gh.box,bw]at h';cases h';cases h:g.I w.heap.size o with|none=>exact h|some x=>exact absurd (m.Il h) (fQ _)
 simp only[Gh.box,aO _ _ _ _ hll]at h';exact m.F3 l' b h' o;intro k r' h';rw[hR]at h';obtain⟨t,h1,h2,h3,h4,h5⟩:=mp.row k r' h';refine⟨t,h1,h2,h3,h4,h5.mono he λb hb=>⟨rfl,λl' hl' => ?_,λ_=>rfl⟩⟩;have hb' :=m.kK h1 hb;by_cases hll:l' =l;subst hll;simp only[Gh.box,bw]at hl';cases hl';exact absurd hb'.1 (fQ _);simp only[Gh.box,aO _ _ _ _ hll]at hl';exact hb'.2.2 l' hl';intro k t h';rw[hR];exact m.gE k t h';exact m.k_
def Mem.ada(m:Mem cx g s w){v:Value}{d:au}{e:TypeId}(r:bD g v d)(hl:∀(i:Nat) x,v.cells[i]? =some x->leaf x=true):∃g' :Gh,Ext g g' ∧Mem cx g' s (dN w (.cells v.cells e (0,0)))∧∀j,g'.I w.heap.size j=v.cells[j]? :=by
 obtain⟨g',hg'⟩:∃g' :Gh,g' ={I:=λx o=>if x=w.heap.size then v.cells[o]? else g.I x o,mu:=g.mu,tv:=g.tv}:=⟨_,rfl⟩;have mp:=m.push (.cells v.cells e (0,0));have I1:∀o,g'.I w.heap.size o=v.cells[o]? :=λo=>by rw[hg'];simp
 have I2:∀x o,x≠w.heap.size->g'.I x o=g.I x o:=λx o h=>by rw[hg'];simp[h]
 have hmu:g'.mu=g.mu:=xW
 have yG:g'.tv=g.tv:=xW
 have hs:ku g.I g'.I:=λx o y h=>by rw[I2 x o (λe=>by subst e;exact absurd (m.Il h) (fQ _))];exact h
 have he:Ext g g' :=⟨hs,λl b h=>by rw[hmu];exact h,λk t h=>⟨t,by rw[yG];exact h,.refl t⟩⟩;have hc:Cells g'.I (dN w (.cells v.cells e (0,0))):=λx o y h=>by by_cases hx:x=w.heap.size;subst hx;rw[I1]at h;exact⟨(ep (dd _ _)).trans h,hl o y h⟩;rw[I2 x o hx]at h;exact mp.iw x o y h
 have nb:∀l b,g.mu l=some b->b≠w.heap.size:=λl b h e=>by subst e;exact absurd (m.vU h) (fQ _)
 refine⟨g',he,⟨hc,?_,?_,?_,?_,?_,?_,?_,?_,?_,mp.new⟩,I1⟩;intro l x h;obtain⟨b,h1,h2,h3⟩:=mp.box l x h;exact⟨b,by rw[hmu];exact h1,h2.mono he rfl,h3⟩;intro l b h;rw[hmu]at h;exact m.gx l b h;rw[hmu];exact m.inj;intro l b h o;rw[hmu]at h;rw[I2 b o (nb l b h)];exact m.F3 l b h o;intro k r' h;obtain⟨t,h1,h2,h3,h4,h5⟩:=mp.row k r' h;refine⟨t,by rw[yG];exact h1,h2,h3,h4,h5.mono he λb hb=>⟨rfl,λl=> ?_,λj=> ?_⟩⟩;rw[hmu];exact(m.kK h1 hb).2.2 l;exact I2 b j (λe=>by subst e;exact absurd (m.kK h1 hb).1 (fQ _));intro k t h;rw[yG]at h;exact m.gE k t h;rw[yG];exact m.k_;intro x o y h;by_cases hx:x=w.heap.size;subst hx;exact .inr (m.new _ (cJ _));rw[I2 x o hx]at h;exact m.kN x o y h;exact cx.st _ _ _ _ mp.frame hs (Frame.refl _ _) hc mp.new
def Mem.Sr(m:Mem cx g s w){l b:Nat}{d d' :au}(hl:s.H l=some d)(hb:g.mu l=some b){c' :Array Value}{e:TypeId}{fz:Nat×Nat}(hf:qT fz c'.size)(hs:c'.size=(cells d').length)(hr:∀(i:Nat) v x,c'[i]? =some v->nth (cells d') i=some x->bD g v x∧leaf v=true){s' :St}(hH:s'.H=aW s.H l (some d'))(hR:s'.R=s.R):Mem cx g s' (dA w b (.cells c' e fz)) where
 iw b' p v h:=by
  have:=m.iw b' p v h;have hne:b' ≠b:=aac
  exact TC
 box l' d1 h:=by rw[hH]at h;by_cases hll:l' =l;subst hll;rw[bw]at h;cases h;obtain⟨b',h1,h2,h3⟩:=m.box l' d hl;rw[hb]at h1;cases h1;exact⟨b,hb,⟨c',e,fz,dt w _ b h2.lt,hf,hs,hr⟩,h3⟩;rw[aO _ _ _ _ hll]at h;obtain⟨b',h1,h2,h3⟩:=m.box l' d1 h;refine⟨b',h1,h2.mono (Ext.refl g) (dL w _ b b' ?_),h3⟩;intro e;subst e;exact hll (m.inj l' l b' h1 hb)
 gx l' b' h:=by rw[hH];by_cases hll:l' =l;subst hll;exact⟨d',bw _ _ _⟩;rw[aO _ _ _ _ hll];exact m.gx l' b' h
 inj:=m.inj
 F3:=m.F3
 row k r h:=by rw[hR]at h;obtain⟨t,h1,h2,h3,h4,h5⟩:=m.row k r h;refine⟨t,h1,h2,h3,h4,h5.mono (Ext.refl g) λb' hb' =>⟨dL w _ b b' ?_,(h5.wc hb').2.2,λ_=>rfl⟩⟩;intro e;subst e;exact(h5.wc hb').2.2 l hb
 gE k t h:=by rw[hR];exact m.gE k t h
 k_:=m.k_
 kN:=m.kN
 frame:=by
  obtain⟨b',h1,h2,h3⟩:=m.box l d hl;rw[hb]at h1;cases h1;refine cx.st _ _ _ _ m.frame (λ_ _ _ h=>h) ((Frame.refl w _).dA b _ (.inr h3)) (λb' p v h=> ?_) m.new;have:=m.iw b' p v h;have hne:b' ≠b:=aac
  exact TC
 new k hk:=m.new k (by simpa[dA]using hk)
def Mem.Jh(m:Mem cx g s w){k:Nat}{t:Tv}{g' :Gh}{w' :World}(hI:∀b,¬t.wj b->g'.I b=g.I b)(hw:Frame w w' (λb=>t.wj b))(hb:∀b,t.wj b->(∀j u,j≠k->g.tv j=some u->¬u.wj b)∧∀o v,g'.I b o=some v->w'.cell? ⟨b,o,none⟩=some v∧leaf v=true):Cells g'.I w' :=λb o v h=>by by_cases hbb:t.wj b;exact(hb b hbb).2 o v h;rw[hI b hbb]at h;have:=m.iw b o v h;rw[fJ (hw.block b (m.Il h) hbb)];exact dj
def Mem.setRow(m:Mem cx g s w){k:Nat}{r:Row}{t:Tv}{g' :Gh}{w' :World}(he:Ext g g')(hmu:g'.mu=g.mu)(yG:g'.tv=aW g.tv k (some t))(hI:∀b,¬t.wj b->g'.I b=g.I b)(hw:Frame w w' (λb=>t.wj b))(hz:t.sz=r.sz)(hn:t.n=r.es.length)(hs:∀e∈r.es,(cells e).length=r.sz)(hr:jk cx g' w' t r)(hb:∀b,t.wj b->(∀j u,j≠k->g.tv j=some u->¬u.wj b)∧∀o v,g'.I b o=some v->w'.cell? ⟨b,o,none⟩=some v∧leaf v=true){s' :St}(hH:s'.H=s.H)(hR:s'.R=aW s.R k (some r)):Mem cx g' s' w' where
 iw:=m.Jh hI hw hb
 box l d h:=by rw[hH]at h;obtain⟨b,h1,h2,h3⟩:=m.box l d h;refine⟨b,by rw[hmu];exact h1,h2.mono he (hw.block b h2.lt ?_),h3⟩;intro e;have:=(hr.wc e).2.2 l;rw[hmu]at this;exact this h1
 gx l b h:=by rw[hmu]at h;rw[hH];exact m.gx l b h
 inj:=by rw[hmu];exact m.inj
 F3 l b h o:=by rw[hmu]at h;rw[hI b (by intro e;have:=(hr.wc e).2.2 l;rw[hmu]at this;exact this h)];exact m.F3 l b h o
 row j r1 h:=by rw[hR]at h;by_cases hjk:j=k;subst hjk;rw[bw]at h;cases h;exact⟨t,E3,hz,hn,hs,hr⟩;rw[aO _ _ _ _ hjk]at h;obtain⟨u,h1,h2,h3,h4,h5⟩:=m.row j r1 h;refine⟨u,by rw[yG,aO _ _ _ _ hjk];exact h1,h2,h3,h4,h5.mono he λb hu=> ?_⟩;have hne:¬t.wj b:=λe=>(hb b e).1 j u hjk h1 hu;exact⟨hw.block b (h5.wc hu).1 hne,by rw[hmu];exact(h5.wc hu).2.2,λo=>by rw[hI b hne]⟩
 gE j u h:=by rw[hR];by_cases hjk:j=k;subst hjk;exact⟨r,bw _ _ _⟩;rw[yG,aO _ _ _ _ hjk]at h;rw[aO _ _ _ _ hjk];exact m.gE j u h
 k_ i j u v b h1 h2 h3 h4:=by rw[yG]at h1 h2;by_cases hik:i=k;by_cases hjk:j=k;rw[hik,hjk];subst hik;rw[bw]at h1;cases h1;rw[aO _ _ _ _ hjk]at h2;exact absurd h4 ((hb b h3).1 j v hjk h2);rw[aO _ _ _ _ hik]at h1;by_cases hjk:j=k;subst hjk;rw[bw]at h2;cases h2;exact absurd h3 ((hb b h4).1 i u hik h1);rw[aO _ _ _ _ hjk]at h2;exact m.k_ i j u v b h1 h2 h3 h4
 kN b o v h:=by by_cases hbb:t.wj b;exact .inr (hr.wc hbb).2.1;rw[hI b hbb]at h;exact m.kN b o v h
 frame:=cx.st _ _ _ _ m.frame he.I (hw.sub λi _ e=>(hr.wc e).2.1) (m.Jh hI hw hb) m.new
 new b h:=m.new b (eW hw.size h)
end
def ak:=@if_pos
def fw:=@List.length_cons
def eI:=@Nat.zero_add
def lg:=@List.getElem?_take
def pX:=@Nat.le_of_ble_eq_true
def uV:=@Bool.false_eq_true
def uU:=@List.ext_getElem?
def Gj:=@Array.toList_setIfInBounds
def wq:=@Option.map_some
def sL:=@Nat.add_assoc
def nI:=@Array.ext'
def jZ:=@if_false
def Fq:=@List.getElem?_set
def akn(h:G:=by intro l;induction l with|nil=>intro k x;rfl|cons y l ih=>intro k x;cases k with|zero=>rfl|succ k=>simp[setAt,ih]):=h
def VU(h:G:=by unfold Addr.add;split<;>simp_all):=h
def uI(h:G:=by simp[h1]):=h
def sH(h:G:=by simp[hj]):=h
def xY(h:G:=by simp[hx]):=h
def O(h:G:=by simp):=h
def az(h:G:=by simp;omega):=h
def xU(h:G:=by exact aH hx):=h
def nw(h:G:=by rw[this];rfl):=h
def Kt(h:G:=by have:=aH h;exact mO):=h
def qv(h:G:=by simpa using h3):=h
def dO(b o n:Nat):(⟨b,o,none⟩:Addr).add n=⟨b,o+n,none⟩:=VU
theorem vl{α:Type}:∀(l:List α) (i:Nat) (x:α),(setAt l i x).length=l.length|[],_,_=>rfl|_::_,0,_=>rfl|_::l,i+1,x=>by simp[setAt,vl l i x]
theorem Jq{α:Type}:∀(l:List α) (i:Nat) (x:α) (j:Nat),nth (setAt l i x) j=if j=i∧j<l.length then some x else nth l j|[],i,x,j=>by simp[setAt,nth]|y::l,0,x,0=>by simp[setAt,nth]|y::l,0,x,j+1=>by simp[setAt,nth]|y::l,i+1,x,0=>by simp[setAt,nth]|y::l,i+1,x,j+1=>by simp[setAt,nth,Jq l i x j]
theorem aV{α:Type}:∀(ds l:List α) (i:Nat),(aI l i ds).length=l.length|[],l,i=>by rw[iA]|d::ds,l,i=>by simp[iA,jP,aV ds,vl]
def rV{α:Type}(l:List α)(i:Nat)(h:l.length<=i):nth l i=none:=by simp[aJ,h]
theorem fA{α:Type}:∀(ds l:List α) (i j:Nat),nth (aI l i ds) j=if i<=j∧j<i+ds.length∧j<l.length then nth ds (j - i)else nth l j
 |[],l,i,j=>by simp only[iA,jP];rw[Z az]
 |d::ds,l,i,j=>by
  simp only[iA,jP,fA ds,vl,Jq,fw];by_cases h1:i+1<=j∧j<i+1+ds.length∧j<l.length;rw[ak h1,ak E];have:j - i=(j - (i+1))+1:=E
  exact nw;rw[Z h1];by_cases h2:j=i∧j<l.length;rw[ak h2,ak E];have:j - i=0:=E
  exact nw;rw[Z h2,Z E]
def c_{α β:Type}(f:α->β)(l:List α)(i:Nat):nth (l.map f) i=(nth l i).map f:=by simp[aJ]
def G9{α:Type}(l:List α)(i j:Nat):nth (l.drop i) j=nth l (i+j):=by simp[aJ]
def G7{α:Type}(l:List α)(n j:Nat):nth (l.take n) j=if j<n then nth l j else none:=by simp only[aJ,lg]
def bO{α:Type}{l:List α}{i:Nat}(h:i<l.length):∃x,nth l i=some x:=⟨l[i],by simp[aJ,h]⟩
def aH{α:Type}{l:List α}{i:Nat}{x:α}(h:nth l i=some x):i<l.length:=by rcases jl i l.length with h' |h';exact h';rw[rV _ _ h']at h;cases h
def oI(P:Program)(t:TypeId):Bool:=match ti P t with|some i=>Nat.ble 1 i.size&&(match mH P t with| .invalid=>false|_=>true)&&(fU P t||Nat.beq i.size 1)|none=>false
def ve{P:Program}{t:TypeId}{i:TypeInfo}(h:ti P t=some i):P.info? t=some i:=by
 have hlt:t<P.types.size:=Kt
 unfold Tables.info?;rw[ak hlt];have:nth P.types.toList t=some i:=h;rw[aJ]at this;exact mO
def bG{P:Program}{t:TypeId}{d:TypeDesc}(h:mH P t=d)(hd:d≠.invalid):P.underlying t=some d:=by
 unfold mH at h;split at h;rename_i u hu;split at h;rename_i j hj;simp only[Program.underlying,ve hu,ve hj,wq];rw[h];exact absurd h.symm hd;rename_i i hi hn;have hi' :=ve hn;unfold Program.underlying;rw[hi'];cases hdesc:i.desc with|named nm u=>exact(hi nm u i.str i.size i.bytes i.hasPointers i.align i.fieldAlign i.zero i.comparable i.methods (by cases i;simp_all)).elim|_=>cases i;simp_all
 exact absurd h.symm hd
section
variable{P:Program}{t:TypeId}
def wF(h:oI P t=true):∃i,P.info? t=some i∧bg P t=i.size∧1<=i.size∧(fU P t=false->i.size=1)∧P.underlying t=some (mH P t):=by unfold oI at h;split at h;rename_i i hi;simp only[aX]at h;obtain⟨⟨h1,h2⟩,h3⟩:=h;refine⟨i,ve hi,by simp[bg,hi],pX h1,λha=> ?_,bG rfl ?_⟩;rw[ha]at h3;exact qv;intro e;rw[e]at h2;cases h2;cases h
def run_typeInfo{i:TypeInfo}(h:P.info? t=some i)(w:World):(typeInfo t).run P w= .ok i w:=by simp[typeInfo,h]
def C6{d:TypeDesc}(h:P.underlying t=some d)(w:World):(underlying t).run P w= .ok d w:=by simp[underlying,h]
def iB(h:oI P t=true)(w:World):(Go.sizeOf t).run P w= .ok (bg P t) w:=by obtain⟨i,h1,h2,_⟩:=wF h;simp[Go.sizeOf,run_typeInfo h1,h2]
def Wf(h:oI P t=true)(w:World):(isAgg t).run P w= .ok (fU P t) w:=by obtain⟨i,_,_,_,_,hu⟩:=wF h;unfold isAgg fU;simp only[Sem.run_bind,C6 hu,Result.andThen_ok];cases mH P t<;>rfl
def wJ(h:oI P t=true)(ha:fU P t=false):bg P t=1:=by obtain⟨i,_,h2,_,h4,_⟩:=wF h;rw[h2,h4 ha]
end
def qU(g:Gh)(w:World)(b o:Nat)(ds:List au):Prop:=∃f:Nat->Value,∀j d,nth ds j=some d->w.cell? ⟨b,o+j,none⟩=some (f j)∧bD g (f j) d∧leaf (f j)=true
theorem qU.drop{g:Gh}{w:World}{b o:Nat}{ds:List au}(h:qU g w b o ds)(n:Nat):qU g w b (o+n) (ds.drop n):=by obtain⟨f,hf⟩:=h;refine⟨λj=>f (n+j),λj d hd=> ?_⟩;rw[G9]at hd;have:=hf (n+j) d hd;rwa[<-sL]at this
def qn.OC{g:Gh}{w:World}{b:Nat}{d:au}(h:qn g w b d):qU g w b 0 (cells d):=by
 obtain⟨c,e,fz,h1,h2,h3,h4⟩:=h;refine⟨λj=>c.getD j undef,λj x hx=> ?_⟩;have hj:j<c.size:=by rw[h3];exact xU
 have hc:c[j]? =some (c.getD j undef):=sH
 refine⟨by rw[ep h1,eI];exact hc,h4 j _ x hc hx⟩
def XI{P:Program}{g:Gh}{w:World}{b o n:Nat}{ds:List au}(h:qU g w b o ds)(hn:n<=ds.length):∃vs:Array Value,(loadCells ⟨b,o,none⟩ n).run P w= .ok vs w∧vs.size=n∧∀(i:Nat) v d,vs[i]? =some v->nth ds i=some d->bD g v d∧leaf v=true:=by
 obtain⟨f,hf⟩:=h;refine⟨((List.range n).map f).toArray,run_loadCells w ⟨b,o,none⟩ n f (λj hj=> ?_),O,λi v d hv hd=> ?_⟩;rw[dO];obtain⟨x,hx⟩:=bO (l:=ds) (i:=j) E;exact(hf j x hx).1;have hi:i<n:=by rcases jl i n with h' |h';exact h';simp[h']at hv
 simp[hi]at hv;subst hv;exact(hf i d hd).2
theorem lP{P:Program}{g:Gh}{w:World}{t:TypeId}{b o off:Nat}{d c:au}(ht:oI P t=true)(h:qU g w b o (cells d))(hp:partOf d off (bg P t) (fU P t)=some c):∃v,(loadVar t ⟨b,o+off,none⟩).run P w= .ok v w∧bD g v c:=by
 unfold loadVar;simp only[Sem.run_bind,Wf ht,Result.andThen_ok];cases ha:fU P t with
 |true=>
  rw[ha]at hp;cases d with
  |agg cs=>have hl:off+bg P t<=cs.length∧c= .agg ((cs.drop off).take (bg P t)):=(by simp only[partOf]at hp;split at hp;rename_i hb;simp only[aX]at hb;have h1:=dw hb.1;have h2:=dw hb.2;subst h1;cases hp;refine⟨E,?_⟩;rw[<-h2];simp;split at hp;rename_i hb;cases hp;exact⟨pX hb,rfl⟩;cases hp);obtain⟨hl,rfl⟩:=hl;obtain⟨vs,h1,h2,h3⟩:=XI (P:=P) (n:=bg P t) (h.drop off) (by simp[cells];omega);refine⟨.agg vs,by simp[iB ht,h1],.agg (by simp[h2];omega) (λi v hv=> ?_) (λi v d hv hd=> ?_)⟩;have hi:i<bg P t:=(by rw[<-h2];exact(iX.1 hv).1);obtain⟨x,hx⟩:=bO (l:=(cells (.agg cs)).drop off) (i:=i) (by simp[cells];omega);exact(h3 i v x hv hx).2;rw[G7]at hd;split at hd;exact(h3 i v d hv hd).1;cases hd
  |_=>simp[partOf]at hp
 |false=>rw[ha]at hp;simp only[partOf]at hp;obtain⟨f,hf⟩:=h;obtain⟨h1,h2,h3⟩:=hf off c hp;exact⟨f off,uI,h2⟩
theorem i6{P:Program}{b o:Nat}{e:TypeId}{fz:Nat×Nat}:∀(vs:List Value) (i:Nat) (c:Array Value) (w:World),w.heap[b]? =some (.cells c e fz)->qT fz c.size->o+i+vs.length<=c.size->(∀v∈vs,leaf v=true)->(storeCells ⟨b,o,none⟩ vs i).run P w= .ok () (dA w b (.cells (aI c.toList (o+i) vs).toArray e fz))
 |[],i,c,w,hb,_,_,_=>by
  simp only[storeCells,iA,jP,Sem.run_pure,Array.toArray_toList];congr 1;unfold dA;have:w.heap.setIfInBounds b (.cells c e fz)=w.heap:=by apply nI;have hlt:=cI hb;simp only[Gj];exact uU λj=>by rw[Fq];split;rename_i hj;subst hj;have h9:=(iX.1 hb).2;simp[hlt,h9];rfl
  rw[this]
 |v::rest,i,c,w,hb,hf,hl,h1=>by
  simp at hl;have hi:o+i<c.size:=E
  have hst:(store ((⟨b,o,none⟩:Addr).add i) v).run P w= .ok () (dA w b (.cells (c.setIfInBounds (o+i) v) e fz)):=by
   rw[dO,run_store P w _ v _ (by rw[ui];exact h1 v O),ep hb];simp only[kJ hi,D8 hb hf hi];simp only[uV,jZ];congr 1;unfold World.setCell dA;congr 1;apply nI;simp only[Array.toList_modify,Gj];refine uU λj=> ?_;simp only[List.getElem?_modify,Fq];have hb' :w.heap[b]? =some (.cells c e fz):=hb;by_cases hj:b=j;subst hj;have hlt:=cI hb;have hb2:w.heap[b]= .cells c e fz:=by simpa[hlt]using hb'
   simp[hlt,hb2];simp[hj]
  have ih:=i6 (P:=P) (o:=o) rest (i+1) (c.setIfInBounds (o+i) v) (dA w b (.cells (c.setIfInBounds (o+i) v) e fz)) (dt _ _ _ (cI hb)) (by simpa using hf) az (λx hx=>h1 x xY);simp only[storeCells,Sem.run_bind,hst,Result.andThen_ok,ih];congr 1;unfold dA;simp only[Array.setIfInBounds_setIfInBounds];congr 3;simp only[iA,jP,Gj,<-sL];congr 2;have:∀(l:List Value) (k:Nat) (x:Value),l.set k x=setAt l k x:=akn
  rw[this]
def jn:=@List.getElem?_append_right
def lj:=@List.getElem?_append_left
def mS:=@List.flatMap_cons
def oF:=@Int.toNat_natCast
def kH:=@Nat.add_zero
def wx:=@List.mem_of_getElem?
def nG:=@Nat.mul_one
def rF:=@Nat.succ_mul
def aaf(h:G:=by cases r with|pure r=>cases r|ptr hb=>exact⟨_,hb,rfl⟩):=h
def aaa(h:G:=by rw[aX]at hsz;simpa using hsz.2):=h
def CL(h:G:=by cases r with|pure r=>cases r;rfl):=h
def VK(h:G:=by unfold Oper.wp;rw[hr];exact h):=h
def Mt(h:G:=by simp[Act.put,h.size]):=h
def qC(h:G:=by simp[nth]at hd):=h
def EV(h:G:=by rw[ha];rfl):=h
def uJ(h:G:=by simp at hv):=h
def pk(h:G:=by simp[hy]):=h
def aq(h:G:=by exact hk.elim):=h
def gK(h:G:=by simpa using h1):=h
def lK(h:G:=by simpa using hv):=h
def K6(h:G:=by rw[aJ]at h;exact wx h):=h
def AJ(h:G:=by exact .pure (.slnil _ _)):=h
def pj(h:G:=by simpa using hx):=h
def nB(h:G:=by rw[hr]at hk;exact aq):=h
def Ey(h:G:=by rw[hx]at hk;exact aq):=h
def Er(h:G:=by exact .pure (.int _ _)):=h
def Ep(h:G:=by exact go e1 hv1 hv2 k4):=h
section
variable{P:Program}{cx:Cx}{g:Gh}{s:St}{a:Act}{w:World}
theorem Rel.get(h:Rel cx g s a w){t:TypeId}{x:Operand}{d:au}(hx:cY P s t x=some d):bD g (a.eval x) d:=by
 cases x with
 |tmp n=>exact h.env n d hx|const v=>simp only[cY]at hx;unfold ag1 at hx;simp only[Act.eval];split at hx<;>first|(cases hx;exact .pure (.bool _))|(cases hx;exact Er)|(cases hx;exact .pure (.str _))|(cases hx;exact AJ)|(cases hx;exact .pure .jG)|(cases hx;exact .pure .m_)|(cases hx;exact .pure .jH)|(cases hx;exact .pure .m9)|cases hx
 |func f=>simp only[cY]at hx;cases hx;exact .gD rfl rfl (λi v d hv=>uJ) (λi v d hv=>uJ)|global g=>simp[cY]at hx
def ji(n:Nat):Option Nat->Bool|some t=>Nat.blt t n|none=>true
theorem Rel.put(h:Rel cx g s a w){dst:Option Nat}(hd:ji cx.n dst=true){v:Value}{d:au}(r:bD g v d):Rel cx g (s.put dst d) (a.put dst v) w:=by
 cases dst with
 |none=>exact h
 |some t=>
  have ht:t<a.tmps.size:=by have h1:=h.size;simp[ji,Nat.blt]at hd;omega
  refine⟨λu x hx=> ?_,Mt,h.defers,h.mem.names rfl rfl⟩;simp only[St.put]at hx;by_cases hu:u=t;subst hu;rw[bw]at hx;cases hx;simpa[Act.put,ht]using r;rw[aO _ _ _ _ hu]at hx;have:=h.env u x hx;have e:((a.tmps.setIfInBounds t v).getD u undef)=a.tmps.getD u undef:=by simp[Gm (gB hu)]
  simpa only[Act.put,e]using this
theorem Rel.forget(h:Rel cx g s a w)(dst:Option Nat):Rel cx g (s.forget dst) (a.put dst undef) w:=by
 cases dst with
 |none=>exact h
 |some t=>
  refine⟨λu x hx=> ?_,Mt,h.defers,h.mem.names rfl rfl⟩;simp only[St.forget]at hx;by_cases hu:u=t;subst hu;rw[bw]at hx;cases hx;have:(a.put (some u) undef).tmps.getD u undef=undef:=by rcases jl u a.tmps.size with hlt|hge;simp[Act.put,hlt];simp[Act.put,CT hge]
  rw[this];exact .bS rfl λi v d hv hd=>qC
  rw[aO _ _ _ _ hu]at hx;have:=h.env u x hx;have e:((a.tmps.setIfInBounds t undef).getD u undef)=a.tmps.getD u undef:=by simp[Gm (gB hu)]
  simpa only[Act.put,e]using this
def fK(cx:Cx)(g:Gh)(K:St->Prop):Act->World->Prop:=λa' w' =>∃s' g',K s' ∧Ext g g' ∧Rel cx g' s' a' w'
def bJ{o:Oper}{v:Value}{w' :World}{K:Act->World->Prop}{Q:Exit->Act->World->Prop}(hr:(execOp a.eval o).run P w= .ok (.value v) w')(h:K (a.put o.dst v) w'):o.wp P a w K Q:=VK
def OQ{o:Oper}{w' :World}{K:Act->World->Prop}{Q:Exit->Act->World->Prop}(hr:(execOp a.eval o).run P w= .ok .skip w')(h:K (a.put o.dst undef) w'):o.wp P a w K Q:=VK
def dK(h:Rel cx g s a w){dst:Option Nat}(hd:ji cx.n dst=true){v:Value}{d:au}(r:bD g v d){K:St->Prop}(hk:K (s.put dst d)):fK cx g K (a.put dst v) w:=⟨_,g,hk,Ext.refl g,h.put hd r⟩
def bD.gC{k:IntKind}{n:Int}{v:Value}(r:bD g v (.int k n)):v= .int k n:=CL
def bD.ot{b:Bool}{v:Value}(r:bD g v (.bool b)):v= .bool b:=CL
def bD.pw{l:List UInt8}{v:Value}(r:bD g v (.str l)):v= .string ⟨⟨l⟩⟩:=CL
def bD.vu{l off:Nat}{v:Value}(r:bD g v (.ptr l off)):∃b,g.mu l=some b∧v= .pointer (some ⟨b,off,none⟩):=aaf
def bD.Gn{l off:Nat}{v:Value}(r:bD g v (.jw l off)):∃b,g.mu l=some b∧v= .pointer (some ⟨b,off,none⟩):=by cases r with|pure r=>cases r|jw hb=>exact⟨_,hb,rfl⟩
def bD.N9{d:au}{off:Nat}{v:Value}(r:bD g v (.mA d off)):∃b o,v= .pointer (some ⟨b,o+off,none⟩)∧∃f:Nat->Value,∀j x,nth (cells d) j=some x->g.I b (o+j)=some (f j)∧leaf (f j)=true∧bM g.I (f j) x:=by cases r with|pure r=>cases r with|mA b o off d f hi h1 hr=>exact⟨b,o,rfl,f,λj x hx=>⟨hi j x hx,h1 j x hx,hr j x hx⟩⟩
def bD.NA{d:au}{v:Value}(r:bD g v (.tT d)):∃b x,v= .pointer (some ⟨b,0,none⟩)∧g.I b 0=some x∧leaf x=true∧bD g x d:=by cases r with|pure r=>cases r|tT x hi h1 hr=>exact⟨_,x,rfl,hi,h1,hr⟩
def Qe(m:Mem cx g s w){b o:Nat}{d:au}{f:Nat->Value}(h:∀j x,nth (cells d) j=some x->g.I b (o+j)=some (f j)∧leaf (f j)=true∧bM g.I (f j) x):qU g w b o (cells d):=⟨f,λj x hx=>⟨(m.iw b (o+j) (f j) (h j x hx).1).1,.pure (h j x hx).2.2,(h j x hx).2.1⟩⟩
variable{o:Oper}{K:St->Prop}{Q:Exit->Act->World->Prop}
def Gt(h:Rel cx g s a w)(hd:ji cx.n o.dst=true){x:Operand}(ho:o.op= .move x∨o.op= .assign x){d:au}(hx:cY P s o.type x=some d)(hk:K (s.put o.dst d)):o.wp P a w (fK cx g K) Q:=by refine bJ (v:=a.eval x) (w' :=w) ?_ (dK h hd (h.get hx) hk);rcases ho with ho|ho<;>simp[execOp,ho]
theorem Si(h:Rel cx g s a w)(hd:ji cx.n o.dst=true){c x y:Operand}(ho:o.op= .pick c x y){b:Bool}(hc:cY P s 0 c=some (.bool b))(hk:Br b (match cY P s o.type x with|some d=>K (s.put o.dst d)|none=>False) (match cY P s o.type y with|some d=>K (s.put o.dst d)|none=>False)):o.wp P a w (fK cx g K) Q:=by
 have hc' :=(h.get hc).ot;cases b with
 |true=>have hk:=hk.t rfl;cases hx:cY P s o.type x with|none=>exact Ey|some d=>rw[hx]at hk;refine bJ (v:=a.eval x) (w' :=w) ?_ (dK h hd (h.get hx) hk);simp[execOp,ho,hc',asBool]
 |false=>have hk:=hk.f rfl;cases hx:cY P s o.type y with|none=>exact Ey|some d=>rw[hx]at hk;refine bJ (v:=a.eval y) (w' :=w) ?_ (dK h hd (h.get hx) hk);simp[execOp,ho,hc',asBool]
def DS(h:Rel cx g s a w){t:Nat}(hd:ji cx.n (some t)=true){v:Value}{d:au}{e:TypeId}(r:bD g v d)(ht:∀ds,d≠.bS ds)(hn:s.H t=none)(hk:K {env:=aW s.env t (some (.ptr t 0)),H:=aW s.H t (some d),hn:=t::s.hn,R:=s.R,rn:=s.rn,y:=s.y}):fK cx g K (a.put (some t) (.pointer (some ⟨w.heap.size,0,none⟩))) (dN w (.cells v.cells e (0,0))):=by obtain⟨he,hm⟩:=h.mem.anc hn (e:=e) r ht (s' :={env:=s.env,H:=aW s.H t (some d),hn:=t::s.hn,R:=s.R,rn:=s.rn,y:=s.y}) rfl rfl;refine⟨_,_,hk,he,?_⟩;have h' :Rel cx (g.box t w.heap.size) {env:=s.env,H:=aW s.H t (some d),hn:=t::s.hn,R:=s.R,rn:=s.rn,y:=s.y} a (dN w (.cells v.cells e (0,0))):=⟨λu x hx=>(h.env u x hx).mono he,h.size,h.defers,hm⟩;exact h'.put hd (.ptr (by simp[Gh.box,bw]))
def vp(t:TypeId)(v:Value)(w:World):(newVar t v).run P w= .ok ⟨w.heap.size,0,none⟩ (dN w (.cells v.cells t (0,0))):=by simp[newVar,newRow,dN]
def Xy(h:Rel cx g s a w)(hd:ji cx.n o.dst=true){t:TypeId}{x:Operand}(ho:o.op= .box t x){d:au}(hx:cY P s t x=some d)(Ac:∀ds,d≠.bS ds){u:Nat}(hu:o.dst=some u)(hn:s.H u=none)(hk:K {env:=aW s.env u (some (.ptr u 0)),H:=aW s.H u (some d),hn:=u::s.hn,R:=s.R,rn:=s.rn,y:=s.y}):o.wp P a w (fK cx g K) Q:=by refine bJ (v:= .pointer (some ⟨w.heap.size,0,none⟩)) (w' :=dN w (.cells (a.eval x).cells t (0,0))) ?_ ?_;simp[execOp,ho,Instr.box,vp];rw[hu]at hd ⊢;exact DS h hd (h.get hx) Ac hn hk
def Vs:Value->au->Bool|v,.any=>leaf v| .bool b,.bool c=>b==c| .int k n,.int k' n' =>decide (k=k')&&n==n'| .string s,.str l=>s.data.toList==l| .slice none 0 0,.sl _ [] _=>true| .pointer none,.jG=>true| .nilFunc,.m_=>true| .map none,.jH=>true| .nilIface,.m9=>true|_,_=>false
def CK:List Value->List au->Bool|[],[]=>true|v::vs,d::ds=>Vs v d&&CK vs ds|_,_=>false
def RF:Value->au->Bool| .agg vs,.agg ds=>CK vs.toList ds| .agg _,_=>false|v,.agg _=>false|v,d=>Vs v d
def I5{I:Nat->Nat->Option Value}{v:Value}{d:au}(h:Vs v d=true):bM I v d∧leaf v=true:=by
 unfold Vs at h;split at h;case h_1=>exact⟨.any _ h,h⟩
 case h_2=>simp at h;subst h;exact⟨.bool _,rfl⟩
 case h_3=>simp at h;obtain⟨rfl,rfl⟩:=h;exact⟨.int _ _,rfl⟩
 case h_4 x l=>simp at h;subst h;exact⟨.str x.data.toList,rfl⟩
 case h_5=>exact⟨.slnil _ _,rfl⟩
 case h_6=>exact⟨.jG,rfl⟩
 case h_7=>exact⟨.m_,rfl⟩
 case h_8=>exact⟨.jH,rfl⟩
 case h_9=>exact⟨.m9,rfl⟩
 case h_10=>cases h
theorem Ge{I:Nat->Nat->Option Value}:∀{vs:List Value} {ds:List au},CK vs ds=true->vs.length=ds.length∧∀(i:Nat) v d,vs[i]? =some v->nth ds i=some d->bM I v d∧leaf v=true
 |[],[],_=>⟨rfl,λi v d hv=>uJ⟩|v::vs,d::ds,h=>by simp only[CK,aX]at h;obtain⟨h1,h2⟩:=Ge (I:=I) h.2;refine⟨uI,λi x y hx hy=> ?_⟩;cases i with|zero=>simp at hx;simp[nth]at hy;subst hx hy;exact I5 h.1|succ i=>exact h2 i x y pj (by simpa[nth]using hy)
 |[],_::_,h=>by simp[CK]at h|_::_,[],h=>by simp[CK]at h
def Gc{I:Nat->Nat->Option Value}{v:Value}{d:au}(h:RF v d=true):bM I v d:=by
 unfold RF at h;split at h;rename_i vs ds;obtain⟨h1,h2⟩:=Ge (I:=I) h;refine .agg vs ds gK (λi v hv=> ?_) (λi v d hv hd=>(h2 i v d lK hd).1);have hi:i<ds.length:=by rw[<-h1];simpa using(iX.1 hv).1
 obtain⟨x,hx⟩:=bO hi;exact(h2 i v x lK hx).2;cases h;cases h;exact(I5 h).1
def sF(P:Program)(t:TypeId):Bool:=
 match ti P t with
 |some i=>match i.zero with|some v=>RF v (rD P 8 t)&&Nat.beq (cells (rD P 8 t)).length i.size|none=>false
 |none=>false
def DF(P:Program)(n:Nat)(t:TypeId):∀ds,rD P n t≠.bS ds:=by intro ds h;cases n with|zero=>simp[RH]at h|succ n=>simp only[RI]at h;split at h<;>simp at h
def rP{t:TypeId}(h:sF P t=true)(w:World):∃v,(zeroValue t).run P w= .ok v w∧(∀I,bM I v (rD P 8 t))∧(cells (rD P 8 t)).length=bg P t:=by unfold sF at h;split at h;rename_i i hi;split at h;rename_i v hv;simp only[aX]at h;refine⟨v,by simp[zeroValue,run_typeInfo (ve hi),hv],λI=>Gc h.1,?_⟩;rw[dw h.2];simp[bg,hi];cases h;cases h
def Ph(h:Rel cx g s a w)(hd:ji cx.n o.dst=true){t:TypeId}(ho:o.op= .alloc t)(hz:sF P t=true){u:Nat}(hu:o.dst=some u)(hn:s.H u=none)(hk:K {env:=aW s.env u (some (.ptr u 0)),H:=aW s.H u (some (rD P 8 t)),hn:=u::s.hn,R:=s.R,rn:=s.rn,y:=s.y}):o.wp P a w (fK cx g K) Q:=by obtain⟨v,hv,hr,_⟩:=rP hz w;refine bJ (v:= .pointer (some ⟨w.heap.size,0,none⟩)) (w' :=dN w (.cells v.cells t (0,0))) ?_ ?_;simp[execOp,ho,Instr.alloc,hv,vp];rw[hu]at hd ⊢;exact DS h hd (.pure (hr _)) (DF _ _ _) hn hk
theorem gZ:∀(es:List au) (sz i j:Nat) (e:au),(∀e∈es,(cells e).length=sz)->nth es i=some e->j<sz->nth (es.flatMap cells) (i*sz+j)=nth (cells e) j|[],_,_,_,_,_,h,_=>by simp[nth]at h|x::es,sz,0,j,e,hs,h,hj=>by simp[nth]at h;subst h;simp only[mS,aJ,Nat.zero_mul,eI];rw[lj (by rw[hs x O];exact hj)]|x::es,sz,i+1,j,e,hs,h,hj=>by have ih:=gZ es sz i j e (λy hy=>hs y pk) (by simpa[nth]using h) hj;simp only[mS,aJ]at ih ⊢;have hx:=hs x O;rw[jn (by rw[hx,rF];omega)];rw[<-ih,hx];congr 1;rw[rF];omega
def gu{es:List au}{i:Nat}{e:au}(h:nth es i=some e):e∈es:=K6
def jk.o'{t:Tv}{r:Row}{b:Nat}(k:jk cx g w t r)(hz:r.sz≠0)(hb:t.base=some b):jv cx g w t r:=k.o hz (by cases hn:t.nest with|false=>rfl|true=>rw[(k.h hz hn).1]at hb;cases hb)
def Pm(m:Mem cx g s w){k:Nat}{r:Row}(hr:s.R k=some r){t:Tv}(ht:g.tv k=some t){b:Nat}(hb:t.base=some b){i:Nat}{d:au}(hd:nth r.es i=some d):qU g w b (i*t.sz) (cells d):=by
 obtain⟨t',h1,h2,h3,h4,h5⟩:=m.row k r hr;rw[ht]at h1;cases h1;by_cases hz0:r.sz=0;refine⟨λ_=>undef,λj x hx=> ?_⟩;have:=aH hx;rw[h4 d (gu hd),hz0]at this;omega;have h5:=h5.o' hz0 hb;unfold jv at h5;rw[hb]at h5;obtain⟨_,_,_,c,e,fz,k4,k5,k6,k7,k8,k9⟩:=h5;refine⟨λj=>c.getD (i*t.sz+j) undef,λj x hx=> ?_⟩;have hsz:=h4 d (gu hd);have hj:j<r.sz:=by rw[<-hsz];exact xU
 have hfl:=gZ r.es r.sz i j d h4 hd hj;rw[hx,<-h2]at hfl;obtain⟨v,hv,hv2,hv3,_⟩:=k9 _ x hfl;have e1:c.getD (i*t.sz+j) undef=v:=by simp[hv]
 show _=some (c.getD (i*t.sz+j) undef)∧bD g (c.getD (i*t.sz+j) undef) x∧leaf (c.getD (i*t.sz+j) undef)=true;rw[e1];exact⟨by rw[ep k4];exact hv,.pure hv2,hv3⟩
def bD.Cp{k n off:Nat}{i:Int}{v:Value}(r:bD g v (.iS k n i off)):∃t b,g.tv k=some t∧n<=t.n∧0<=i∧(n=t.n->t.base=some b)∧v= .pointer (some ⟨b,i.toNat*t.sz+off,none⟩):=by cases r with|pure r=>cases r|iS t ht hn hi hb hp=>exact⟨t,_,ht,hn,hi,hb,by rw[hp]⟩
def bD.nS{k n:Nat}{v:Value}(r:bD g v (.ref k n)):∃t,g.tv k=some t∧n<=t.n∧(n=t.n->v=t.value)∧∃a c,v= .slice a n c:=by cases r with|pure r=>cases r|ref t ht hn hv h1=>exact⟨t,ht,hn,hv,h1⟩
def Mem.pA(m:Mem cx g s w){k n:Nat}{v:Value}(r:bD g v (.ref k n)){row:Row}(hr:s.R k=some row)(hn:n=row.es.length):∃t,g.tv k=some t∧t.sz=row.sz∧t.n=row.es.length∧v=t.value∧(∀e∈row.es,(cells e).length=row.sz)∧agv cx g w t row:=by obtain⟨t,h1,h2,h3,h4⟩:=r.nS;obtain⟨t',k1,k2,k3,k4,k5⟩:=m.row k row hr;rw[h1]at k1;cases k1;refine⟨t,h1,k2,k3,h3 E,k4,⟨λhz=> ?_,k5⟩⟩;cases hn:t.nest with|false=>rfl|true=>obtain⟨q1,q2⟩:=k5.h hz hn;obtain⟨a,c,e⟩:=h4;have e2:=h3 E;unfold Tv.value at e2;rw[q1]at e2;dsimp only at e2;rw[e]at e2;injection e2 with _ e3 _;omega
def mW{w:World}{r:Nat}{es:Array MapEntry}{clock:Nat}(hb:w.heap[r]? =some (.map es clock)):(getObj r).run P w= .ok (.map es clock) w:=by simp[getObj,Sem.run,hb]
def vn{w:World}{r:Nat}{es:Array MapEntry}{clock:Nat}(o:Obj)(hb:w.heap[r]? =some (.map es clock)):(setObj r o).run P w= .ok () (dA w r o):=by have:r<w.heap.size:=cI hb;simp[setObj,Sem.run,hb,dA]
def ik.len{I:Nat->Nat->Option Value}{es:List MapEntry}{ds:List au}(k:ik I es ds):es.length=NQ ds:=by induction k with|nil=>rfl|del _ ih=>exact ih|cons _ _ _ ih=>rw[fw,ih];rfl
def bD.PG{k:Nat}{v:Value}(r:bD g v (.dQ k)):∃t b,g.tv k=some t∧(t.sz=0∧t.nest=false)∧t.base=some b∧v= .map (some b):=by cases r with|pure r=>cases r|dQ t ht hz hb=>exact⟨t,_,ht,hz,hb,rfl⟩
def Mem.NS(m:Mem cx g s w){k:Nat}{v:Value}(r:bD g v (.dQ k)){row:Row}(hr:s.R k=some row):row.sz=0∧∃t b es clock,g.tv k=some t∧(t.sz=0∧t.nest=false)∧t.n=row.es.length∧t.base=some b∧v= .map (some b)∧row.own=true∧cx.dX b∧(∀l,g.mu l≠some b)∧(∀j,g.I b j=none)∧w.heap[b]? =some (.map es clock)∧Q7 g.I es.toList clock row.es:=by
 obtain⟨t,b,h1,h2,h3,h4⟩:=r.PG;obtain⟨t',k1,k2,k3,k4,k5⟩:=m.row k row hr;rw[h1]at k1;cases k1;have hz:row.sz=0:=by rw[<-k2,h2.1]
 obtain⟨o1,b',es,clock,q1,q2,q3,q4,q5,q6⟩:=k5.m hz h2.2;rw[h3]at q1;cases q1;exact⟨hz,t,b,es,clock,h1,h2,k3,h3,h4,o1,q2,q3,q4,q5,q6⟩
def bD.wV{k n:Nat}{v:Value}(r:bD g v (.cQ k n)):∃t,g.tv k=some t∧(t.sz=0∧t.nest=true)∧n<=t.n∧(n=t.n->v=t.value)∧∃a c,v= .slice a n c:=by cases r with|pure r=>cases r|cQ t ht hz hn hv h1=>exact⟨t,ht,hz,hn,hv,h1⟩
def bD.PB{k n:Nat}{i:Int}{v:Value}(r:bD g v (.j8 k n i)):∃t b,g.tv k=some t∧(t.sz=0∧t.nest=true)∧n<=t.n∧0<=i∧(n=t.n->t.base=some b)∧v= .pointer (some ⟨b,i.toNat,none⟩):=by cases r with|pure r=>cases r|j8 t ht hz hn hi hb=>exact⟨t,_,ht,hz,hn,hi,hb,rfl⟩
def bD.V_{k j n:Nat}{v:Value}(r:bD g v (.sub k j n)):∃t,g.tv k=some t∧t.sz=0∧(∃a c,v= .slice a n c)∧(n≠0->∃b c,t.ow j=some b∧v= .slice (some ⟨b,0,none⟩) n c):=by cases r with|pure r=>cases r|sub t ht hz h1 hb=>exact⟨t,ht,hz,h1,hb⟩
def bD.JX{k j:Nat}{i:Int}{v:Value}(r:bD g v (.fT k j i)):∃t b,g.tv k=some t∧t.sz=0∧0<=i∧t.ow j=some b∧v= .pointer (some ⟨b,i.toNat,none⟩):=by cases r with|pure r=>cases r|fT t ht hz hi hb=>exact⟨t,_,ht,hz,hi,hb,rfl⟩
theorem ik.ad2{I:Nat->Nat->Option Value}{es:List MapEntry}{ds:List au}(k:ik I es ds)(xs:List au):au.own xs∉ds:=by
 induction k with
 |nil=>intro h;cases h|del _ ih=>intro h;cases h with|tail _ h=>exact ih h
 |cons _ _ _ ih=>intro h;cases h with|tail _ h=>exact ih h
def Mem.sZ(m:Mem cx g s w){k:Nat}{t:Tv}(ht:g.tv k=some t)(hs:t.sz=0∧t.nest=true){row:Row}(hr:s.R k=some row):row.sz=0∧t.n=row.es.length∧Ap cx g w t row:=by obtain⟨t',k1,k2,k3,k4,k5⟩:=m.row k row hr;rw[ht]at k1;cases k1;exact⟨k2.symm.trans hs.1,k3,k5.q (k2.symm.trans hs.1) hs.2⟩
def Ap.inner{t:Tv}{r:Row}(h:Ap cx g w t r)(ho:r.own=true){j:Nat}{xs:List au}(hj:nth r.es j=some (.own xs))(hne:xs≠[]):∃b,t.ow j=some b∧qS g w b xs:=by obtain⟨_,_,h3⟩:=h.live ho;cases hb:t.base with|none=>rw[hb]at h3;dsimp only at h3;rw[h3.1]at hj;simp[nth]at hj|some b0=>rw[hb]at h3;obtain⟨_,_,c,e,fz,_,_,_,h4⟩:=h3;obtain⟨v,_,h5⟩:=h4 j _ hj;obtain⟨a,cap,_,_,h6⟩:=h5.own xs rfl;obtain⟨b,h7,_,h8⟩:=h6 hne;exact⟨b,h7,h8⟩
def ag7{b o:Nat}{x:au}{v:Value}(hv:w.cell? ⟨b,o,none⟩=some v)(h1:leaf v=true)(r:bD g v x):qU g w b o [x]:=⟨λ_=>v,λj y hy=>by cases j with|zero=>cases hy;exact⟨hv,r,h1⟩|succ j=>cases hy⟩
def Su{t:TypeId}{b o:Nat}(w:World):(Instr.loadAt t (.pointer (some ⟨b,o,none⟩))).run P w=(loadVar t ⟨b,o,none⟩).run P w:=by simp[Instr.loadAt,Instr.sureAddr]
theorem Sj(h:Rel cx g s a w)(hd:ji cx.n o.dst=true){t:TypeId}{x:Operand}(ho:o.op= .load t x)(ht:oI P t=true){d:au}(hx:cY P s 0 x=some d){c:mN}(hk:aC P c o.dst s K (.load d (bg P t) (fU P t))):o.wp P a w (fK cx g K) Q:=by
 have hv:=h.get hx;have go:∀{b off:Nat} {y:au} {v:Value},a.eval x= .pointer (some ⟨b,off,none⟩)->(loadVar t ⟨b,off,none⟩).run P w= .ok v w->bD g v y->K (s.put o.dst y)->o.wp P a w (fK cx g K) Q:=by intro b off y v e1 e2 e3 e4;refine bJ (v:=v) (w' :=w) ?_ (dK h hd e3 e4);simp[execOp,ho,e1,Su,e2]
 cases d with
 |ptr l off=>simp only[aC]at hk;obtain⟨b,hb,e1⟩:=hv.vu;cases hl:s.H l with|none=>rw[hl]at hk;exact aq|some y=>rw[hl]at hk;dsimp only at hk;obtain⟨b',hb',hbox,_⟩:=h.mem.box l y hl;rw[hb]at hb';cases hb';split at hk;rename_i z hz;obtain⟨v,hv1,hv2⟩:=lP (P:=P) ht hbox.OC hz;rw[eI]at hv1;exact go e1 hv1 hv2 hk;exact aq
 |jw l off=>simp only[aC]at hk;obtain⟨b,hb,e1⟩:=hv.Gn;cases hl:s.H l with|none=>rw[hl]at hk;exact aq|some y=>obtain⟨b',hb',hbox,_⟩:=h.mem.box l y hl;rw[hb]at hb';cases hb';cases ha:fU P t with|true=>rw[hl,ha]at hk;exact aq|false=>rw[hl,ha]at hk;dsimp only at hk;obtain⟨z,_,_,hz,hkz⟩:=hk.out;simp only[oF]at hz;obtain⟨v,hv1,hv2⟩:=lP (P:=P) (off:=off) (c:=z) ht hbox.OC (by rw[ha];exact hz);rw[eI]at hv1;exact go e1 hv1 hv2 hkz
 |mA y off=>simp only[aC]at hk;obtain⟨b,ob,e1,f,hf⟩:=hv.N9;split at hk;rename_i z hz;obtain⟨v,hv1,hv2⟩:=lP (P:=P) ht (Qe h.mem hf) hz;exact go e1 hv1 hv2 hk;exact aq
 |tT y=>
  simp only[aC]at hk;obtain⟨b,x,e1,i1,l1,r1⟩:=hv.NA;split at hk;rename_i f p q hz;have ha:fU P t=false:=by rw[aX]at hz;simpa using hz.2
  obtain⟨v,hv1,hv2⟩:=lP (P:=P) (o:=0) (off:=0) (c:= .gD f p q) ht (d:= .gD f p q) (g:=g) (w:=w) (b:=b) ⟨λ_=>x,λj y hj=>by cases j with|zero=>cases hj;exact⟨(h.mem.iw b 0 x i1).1,r1,l1⟩|succ j=>cases hj⟩ EV;exact go e1 hv1 hv2 hk;exact aq
 |iS k m i off=>simp only[aC]at hk;obtain⟨tv,b,h1,h2,h3,h4,e1⟩:=hv.Cp;cases hr:s.R k with|none=>exact nB|some r=>rw[hr]at hk;dsimp only at hk;obtain⟨y,k1,k2,k3,k4⟩:=hk.out;obtain⟨t',j1,j2,j3,_⟩:=h.mem.row k r hr;rw[h1]at j1;cases j1;have hb:=h4 E;split at k4;rename_i z hz;obtain⟨v,hv1,hv2⟩:=lP (P:=P) ht (Pm h.mem hr h1 hb k3) hz;exact Ep;exact k4.elim
 |j8 k m i=>
  simp only[aC]at hk;obtain⟨tv,b,h1,h2,h3,h4,h5,e1⟩:=hv.PB;split at hk;rename_i r hr hsz;have ha:fU P t=false:=aaa
  have h1' :bg P t=1:=(by rw[aX]at hsz;exact dw hsz.1);split at hk;rename_i ho;rw[aX]at ho;obtain⟨d,k1,k2,k3,k4⟩:=hk.out;obtain⟨q1,q2,q3⟩:=h.mem.sZ h1 h2 hr;have hb:=h5 E;obtain⟨_,_,q4⟩:=q3.live ho.1;rw[hb]at q4;obtain⟨_,_,c,e,fz,c1,c2,c3,c4⟩:=q4;obtain⟨v,v1,v2⟩:=c4 i.toNat d k3;have hcell:w.cell? ⟨b,i.toNat,none⟩=some v:=(ep c1).trans v1;split at k4;rename_i xs;obtain⟨a',cap,u1,u2,u3⟩:=v2.own xs rfl;have rp:bD g v (.sub k i.toNat xs.length):= .sub tv h1 h2.1 ⟨a',cap,u1⟩ λhne=>by obtain⟨b',u4,u5,_⟩:=u3 (by intro e;subst e;exact hne rfl);exact⟨b',cap,u4,by rw[u1,u5]⟩
  obtain⟨v',hv1,hv2⟩:=lP (P:=P) (o:=i.toNat) (off:=0) (c:= .sub k i.toNat xs.length) ht (d:= .sub k i.toNat xs.length) (ag7 hcell (by rw[u1];rfl) rp) EV;exact Ep;rename_i xs;obtain⟨u1,u2⟩:=v2.shr xs rfl;obtain⟨v',hv1,hv2⟩:=lP (P:=P) (o:=i.toNat) (off:=0) (c:= .sl 1 xs false) ht (d:= .sl 1 xs false) (ag7 hcell u2 (.pure u1)) EV;exact Ep;exact k4.elim;exact aq;exact aq
 |fT k j i=>
  simp only[aC]at hk;obtain⟨tv,b,h1,h2,h3,h4,e1⟩:=hv.JX;split at hk;rename_i r hr hsz;have ha:fU P t=false:=aaa
  split at hk;rename_i ho;rw[aX]at ho;obtain⟨xs,j1,j2⟩:=hk.out;obtain⟨d,k1,k2,k3,k4⟩:=j2.out;have hz0:r.sz=0:=dw ho.2;obtain⟨t',q1,q2,q3,q4,q5⟩:=h.mem.row k r hr;rw[h1]at q1;cases q1;have hn:tv.nest=true:=by cases hn:tv.nest with|true=>rfl|false=>obtain⟨_,b',es,clock,_,_,_,_,_,hm⟩:=q5.m hz0 hn;exact absurd (gu j1) (hm.rep.ad2 _)
  have q6:=q5.q hz0 hn;obtain⟨b',u1,c,e,fz,c1,c2,c3,c4,c5,c6⟩:=q6.inner ho.1 j1 (by intro e;subst e;simp[nth]at k3);rw[h4]at u1;cases u1;split at k4;rename_i q x;have hfl:=gZ xs 1 i.toNat 0 _ c4 k3 E;obtain⟨v,v1,v2,v3⟩:=c6 _ _ hfl;rw[nG,kH]at v1;obtain⟨v',hv1,hv2⟩:=lP (P:=P) (o:=i.toNat) (off:=0) (c:= .int q x) ht (d:= .int q x) (ag7 ((ep c1).trans v1) v3 (.pure v2)) EV;exact Ep;exact k4.elim;exact aq;exact aq
 |_=>exact aq
end
def fx:=@List.length_append
def jX:=@if_true
def RZ(h:G:=by intro l;induction l with|nil=>intro _;simp|cons x l ih=>exact als):=h
def jT(h:G:=by intro ds e;cases e):=h
def LQ(h:G:=by simp[nth]at h):=h
def sG(h:G:=by simp[n2]):=h
def als(h:G:=by intro hl;simp only[mS,fx,fw,ih (λe he=>hl e (by simp[he])),hl x (by simp),rF];omega):=h
def nF(h:G:=by exact⟨_,rfl⟩):=h
def Vb(h:G:=by exact⟨s,d,g,hk,Laid.refl h,rfl,by intro ds e;subst e;simp[ew]at hp,λv hv=>jF hp hv⟩):=h
def Ut(h:G:=by exact .sl b o cap _ _ f hc hs hi hr):=h
def uC(h:G:=by simpa[nth]using hx):=h
def Ay(h:G:=by exact .sl0 _ _ _):=h
def Ax(h:G:=by exact .slnil _ _):=h
section
variable{P:Program}{cx:Cx}{g:Gh}{s:St}{a:Act}{w:World}
def Gh.lay(g:Gh)(w:World)(t:Tv):Gh:={g with I:=λb j=>if t.base=some b then(if j<t.n*t.sz then w.cell? ⟨b,j,none⟩else none)else g.I b j}
theorem abz(m:Mem cx g s w){k:Nat}{r:Row}(hr:s.R k=some r)(hz:r.sz≠0)(D7:∀t,g.tv k=some t->t.nest=false):∃g',Ext g g' ∧Mem cx g' (s.freeze k r) w∧g'.mu=g.mu∧g'.tv=g.tv∧∀n v,bD g v (.ref k n)->n=r.es.length->bM g'.I v (.sl r.sz r.es false):=by
 obtain⟨t,h1,h2,h3,h4,h5⟩:=m.row k r hr;have hnn:=D7 t h1;have h5' :=h5.o hz hnn;have hval:∀g' :Gh,(∀b,t.base=some b->∀j d,nth (r.es.flatMap cells) j=some d->∃v,g'.I b j=some v∧bM g'.I v d)->
  ∀n v,bD g v (.ref k n)->n=r.es.length->bM g'.I v (.sl r.sz r.es false):=by
  intro g' hg n v hv hn;obtain⟨t',k1,k2,k3,k4⟩:=hv.nS;rw[h1]at k1;cases k1;have hv' :=k3 E;subst hv';unfold Tv.value;cases hb:t.base with
  |none=>have h5' :=h5.o hz hnn;unfold jv at h5';rw[hb]at h5';dsimp only at h5' ⊢;rw[h5'.1];exact Ax
  |some b=>
   dsimp only;rw[h3];have hcap:r.es.length<=t.cap:=by have h5' :=h5.o hz hnn;unfold jv at h5';rw[hb]at h5';rw[<-h3];exact h5'.1
   refine .sl b 0 t.cap r.sz r.es (λj=>(g'.I b j).getD undef) hcap h4 (λj d hd=> ?_) (λj d hd=> ?_);obtain⟨v,e1,_⟩:=hg b hb j d hd;rw[eI,e1];rfl;obtain⟨v,e1,e2⟩:=hg b hb j d hd;rw[e1];exact e2
 cases hown:r.own with
 |false=>
  refine⟨g,Ext.refl g,?_,rfl,rfl,hval g ?_⟩;have:Mem cx g {s with R:=aW s.R k (some r)} w:=(by refine m.names rfl ?_;funext x;by_cases hx:x=k;subst hx;show aW s.R x (some r) x=s.R x;rw[bw,hr];show aW s.R k (some r) x=s.R x;rw[aO _ _ _ _ hx]);unfold St.freeze;have e:({r with own:=false}:Row)=r:=by cases r;simp_all
  rw[e];exact dj;intro b hb j d hd;have h5' :=h5.o hz hnn;unfold jv at h5';rw[hb]at h5';obtain⟨_,_,_,c,e,fz,k4,k5,k6,k7,k8,k9⟩:=h5';obtain⟨v,v1,v2,v3,v4⟩:=k9 j d hd;exact⟨v,v4 hown,v2⟩
 |true=>
  have hI0:∀b,t.base=some b->∀j,g.I b j=none:=by intro b hb j;have h5' :=h5.o hz hnn;unfold jv at h5';rw[hb]at h5';obtain⟨_,_,_,c,e,fz,k4,k5,k6,k7,k8,k9⟩:=h5';exact k8 hown j
  have hsub:ku g.I (g.lay w t).I:=by intro b o v hv;simp only[Gh.lay];split;rename_i hb;rw[hI0 b hb]at hv;cases hv;exact hv
  have he:Ext g (g.lay w t):=⟨hsub,λ_ _ e=>e,λk t e=>⟨t,e,.refl t⟩⟩;have hnew:∀b,t.base=some b->∀j d,nth (r.es.flatMap cells) j=some d->∃v,(g.lay w t).I b j=some v∧bM (g.lay w t).I v d∧leaf v=true∧w.cell? ⟨b,j,none⟩=some v:=by
   intro b hb j d hd;have h5' :=h5.o hz hnn;unfold jv at h5';rw[hb]at h5';obtain⟨_,_,_,c,e,fz,k4,k5,k6,k7,k8,k9⟩:=h5';obtain⟨v,v1,v2,v3,v4⟩:=k9 j d hd;have hc:w.cell? ⟨b,j,none⟩=some v:=by rw[ep k4];exact v1
   have hj:j<t.n*t.sz:=by
    have h6:=aH hd;have h7:(r.es.flatMap cells).length=r.es.length*r.sz:=by
     have:∀l:List au,(∀e∈l,(cells e).length=r.sz)->(l.flatMap cells).length=l.length*r.sz:=RZ
     exact this r.es h4
    rw[h7]at h6;rw[h3,h2];exact h6
   exact⟨v,by simp[Gh.lay,hb,hj,hc],v2.mono hsub,v3,hc⟩
  refine⟨g.lay w t,he,?_,rfl,rfl,hval _ (λb hb j d hd=> ?_)⟩;refine m.setRow (k:=k) (r:={r with own:=false}) (t:=t) he rfl ?_ ?_ ?_ h2 h3 h4 ?_ ?_ rfl rfl;funext x;by_cases hx:x=k;subst hx;rw[bw];exact h1;rw[aO _ _ _ _ hx];rfl;intro b hb;have hb:t.base≠some b:=λe=>hb (.inl e);funext j;simp[Gh.lay,hb];exact Frame.refl _ _
  ·refine⟨h2,λ_ _=> ?_,λ_ e=>by(rw[hnn]at e;cases e),λe=>absurd e hz,λe=>absurd e hz⟩;unfold jv;cases hb:t.base with
   |none=>have h5' :=h5.o hz hnn;unfold jv at h5';rw[hb]at h5';exact h5'
   |some b=>
    have h5' :=h5.o hz hnn;unfold jv at h5';rw[hb]at h5';obtain⟨k1,k2,k3,c,e,fz,k4,k5,k6,k7,k8,k9⟩:=h5';refine⟨k1,k2,k3,c,e,fz,k4,⟨k5.1,λe=>bK⟩,k6,λj hj=> ?_,λhf=>absurd hf O,λj d hd=> ?_⟩;have hj' :t.n*r.sz<=j:=hj;have:¬j<t.n*t.sz:=by rw[h2];omega
    simp[Gh.lay,hb,this];obtain⟨v,v1,v2,v3,v4⟩:=hnew b hb j d hd;rw[ep k4]at v4;exact⟨v,v4,v2,v3,λ_=>v1⟩
  intro b hb0;have hb:t.base=some b:=by rcases hb0 with hb|⟨_,hb,_⟩;exact hb;rw[hnn]at hb;cases hb
  refine⟨λj u hj hu hub=>hj (m.k_ j k u t b hu h1 hub hb0),λo v hv=> ?_⟩;simp only[Gh.lay,hb,jX]at hv;split at hv;refine⟨hv,?_⟩;rename_i hlt;have hfl:∃d,nth (r.es.flatMap cells) o=some d:=by
   have:(r.es.flatMap cells).length=r.es.length*r.sz:=by
    have:∀l:List au,(∀e∈l,(cells e).length=r.sz)->(l.flatMap cells).length=l.length*r.sz:=RZ
    exact this r.es h4
   exact bO (by rw[this,<-h3,<-h2];exact hlt)
  obtain⟨d,hd⟩:=hfl;obtain⟨v',_,_,e3,e4⟩:=hnew b hb o d hd;rw[hv]at e4;cases e4;exact e3;cases hv;obtain⟨v,v1,v2,_⟩:=hnew b hb j d hd;exact⟨v,v1,v2⟩
theorem ahz(m:Mem cx g s w){k:Nat}{r:Row}(hr:s.R k=some r)(hz:r.sz≠0):∃g',Ext g g' ∧Mem cx g' (s.freeze k r) w∧g'.mu=g.mu∧g'.tv=g.tv∧∀n v,bD g v (.ref k n)->n=r.es.length->bM g'.I v (.sl r.sz r.es false):=by
 obtain⟨t,h1,h2,h3,h4,h5⟩:=m.row k r hr;cases hn:t.nest with
 |false=>exact abz m hr hz λt' ht=>by rw[h1]at ht;cases ht;exact hn
 |true=>
  refine⟨g,Ext.refl g,?_,rfl,rfl,λn v hv e=> ?_⟩;refine m.setRow (k:=k) (r:={r with own:=false}) (t:=t) (Ext.refl g) rfl ?_ (λ_ _=>rfl) (Frame.refl _ _) h2 h3 h4 ⟨h2,λ_ e=>by(rw[hn]at e;cases e),h5.h,λe=>absurd e hz,λe=>absurd e hz⟩ (λb hb=> ?_) rfl rfl;funext x;by_cases hx:x=k;subst hx;rw[bw];exact h1;rw[aO _ _ _ _ hx];rcases hb with hb|⟨hb,_⟩;rw[(h5.h hz hn).1]at hb;cases hb;exact absurd (h2.symm.trans hb) hz
  obtain⟨t',q1,_,_,_,_,q2⟩:=m.pA hv hr e;rw[h1]at q1;cases q1;rw[q2.nest hz]at hn;cases hn
def Fz(s:St)(g:Gh):Prop:=∀k r,s.R k=some r->(r.sz≠0∧r.own=false)->∀n v,bD g v (.ref k n)->n=r.es.length->bM g.I v (.sl r.sz r.es false)
theorem Mem.fz(m:Mem cx g s w):Fz s g:=by
 intro k r hr ⟨hz,hown⟩ n v hv hn;obtain⟨t,h1,h2,h3,hv',h4,h5⟩:=m.pA hv hr hn;subst hv';have h5:=h5.o hz;unfold Tv.value;unfold jv at h5;cases hb:t.base with
 |none=>rw[hb]at h5;dsimp only at h5 ⊢;rw[h5.1];exact Ax
 |some b=>
  rw[hb]at h5;obtain⟨hcap,_,_,c,e,fz,k4,k5,k6,k7,k8,k9⟩:=h5;dsimp only;rw[h3];have hcap:r.es.length<=t.cap:=by rw[<-h3];exact hcap
  refine .sl b 0 t.cap r.sz r.es (λj=>(g.I b j).getD undef) hcap h4 (λj d hd=> ?_) (λj d hd=> ?_);obtain⟨v,_,_,_,e4⟩:=k9 j d hd;rw[eI,e4 hown];rfl;obtain⟨v,_,e2,_,e4⟩:=k9 j d hd;rw[e4 hown];exact e2
theorem j7 :∀(cs:List au),ew.go cs=true->∀(i:Nat) d,nth cs i=some d->ew d=true∧(∀ds,d≠.agg ds)∧∀f x y,d≠.gD f x y
 |[],_,i,d,h=>LQ
 |c::cs,h,i,d,hd=>by
  have hc:ew.go cs=true∧ew c=true∧(∀ds,c≠.agg ds)∧∀f x y,c≠.gD f x y:=by cases c<;>simp only[ew.go,aX]at h<;>first|exact⟨h,rfl,jT,(by intro f x y e;cases e)⟩|(refine⟨h.2,by simp only[ew];exact h.1,jT,(by intro f x y e;cases e)⟩)|cases h
  cases i with|zero=>simp[nth]at hd;subst hd;exact hc.2|succ i=>exact j7 cs hc.1 i d (by simpa[nth]using hd)
def DP(cs:List au)(h:ew.go cs=true)(i:Nat)(d:au)(hd:nth cs i=some d):ew d=true∧∀ds,d≠.agg ds:=⟨(j7 cs h i d hd).1,(j7 cs h i d hd).2.1⟩
def yw{v:Value}{d:au}(h:ew d=true)(ha:∀ds,d≠.agg ds)(hc:∀f x y,d≠.gD f x y)(r:bD g v d):bM g.I v d:=by cases r with|pure r=>exact r|agg=>exact absurd rfl (ha _)|gD=>exact absurd rfl (hc _ _ _)|_=>simp[ew]at h
def Jk{v:Value}{d:au}(h:ew d=true)(ha:∀ds,d≠.agg ds)(r:bD g v d):bM g.I v d:=by cases r with|pure r=>exact r|agg=>exact absurd rfl (ha _)|gD hf hc rf rc=>simp only[ew,aX]at h;exact .gD hf hc (λi v d hv hd=>by obtain⟨p1,p2,p3⟩:=j7 _ h.1 i d hd;exact yw p1 p2 p3 (rf i v d hv hd)) (λi v d hv hd=>by obtain⟨p1,p2,p3⟩:=j7 _ h.2 i d hd;exact yw p1 p2 p3 (rc i v d hv hd))|_=>simp[ew]at h
theorem jF{v:Value}{d:au}(h:ew d=true)(r:bD g v d):bM g.I v d:=by
 cases d with
 |agg ds=>have hg:ew.go ds=true:=h;cases r with|pure r=>exact r|agg hl h1 hr=>refine .agg _ _ hl h1 λi v d hv hd=> ?_;obtain⟨p1,p2⟩:=DP ds hg i d hd;exact Jk p1 p2 (hr i v d hv hd)
 |_=>exact Jk h jT r
def Rel.ext(h:Rel cx g s a w){g' :Gh}{s' :St}(he:Ext g g')(hm:Mem cx g' s' w)(hs:s'.env=s.env):Rel cx g' s' a w:=⟨λt d hd=>(h.env t d (by rw[<-hs];exact hd)).mono he,h.size,h.defers,hm⟩
structure Laid(cx:Cx)(g:Gh)(s:St)(a:Act)(w:World)(s' :St)(g' :Gh):Prop where
 ext:Ext g g'
 rel:Rel cx g' s' a w
 env:s'.env=s.env
 H:s'.H=s.H
 mu:g'.mu=g.mu
 tv:g'.tv=g.tv
 dead:∀k,s.R k=none↔s'.R k=none
theorem Laid.refl(h:Rel cx g s a w):Laid cx g s a w s g:=⟨Ext.refl g,h,rfl,rfl,rfl,rfl,λ_=>Iff.rfl⟩
theorem Laid.trans{s1 s2:St}{g1 g2:Gh}(h:Laid cx g s a w s1 g1)(k:Laid cx g1 s1 a w s2 g2):Laid cx g s a w s2 g2:=⟨h.ext.trans k.ext,k.rel,k.env.trans h.env,k.H.trans h.H,k.mu.trans h.mu,k.tv.trans h.tv,λx=>(h.dead x).trans (k.dead x)⟩
def Od(h:Rel cx g s a w){k:Nat}{r:Row}(hr:s.R k=some r)(hz:r.sz≠0):∃g',Laid cx g s a w (s.freeze k r) g' ∧∀n v,bD g v (.ref k n)->n=r.es.length->bM g'.I v (.sl r.sz r.es false):=by obtain⟨g',h1,h2,h3,h4,h5⟩:=ahz h.mem hr hz;refine⟨g',⟨h1,h.ext h1 h2 rfl,rfl,rfl,h3,h4,λx=> ?_⟩,h5⟩;simp only[St.freeze];by_cases hx:x=k;subst hx;rw[bw,hr];simp;rw[aO _ _ _ _ hx]
theorem nW(h:Rel cx g s a w){d:au}{K:St->au->Prop}(hk:dZ s d K):∃s' d' g',K s' d' ∧Laid cx g s a w s' g' ∧(cells d').length=(cells d).length∧(∀ds,d' ≠.bS ds)∧∀v,bD g v d->bM g'.I v d' :=by
 have aq8:∀d,ew d=true->(match ew d with|true=>K s d|false=>False)->
  ∃s' d' g',K s' d' ∧Laid cx g s a w s' g' ∧(cells d').length=(cells d).length∧(∀ds,d' ≠.bS ds)∧∀v,bD g v d->bM g'.I v d' :=by
  intro d hp hk;rw[hp]at hk;exact Vb
 cases d with
 |ref k n=>simp only[dZ]at hk;cases hr:s.R k with|none=>exact nB|some r=>rw[hr]at hk;dsimp only at hk;cases hz:Nat.beq r.sz 0 with|true=>rw[hz]at hk;exact aq|false=>rw[hz]at hk;obtain⟨g',h1,h2⟩:=Od h hr (λe=>by rw[e]at hz;cases hz);exact⟨_,_,g',hk.k,h1,rfl,jT,λv hv=>h2 n v hv hk.h⟩
 |sl z es b=>simp only[dZ]at hk;refine⟨s,_,g,hk,Laid.refl h,rfl,jT,λv hv=> ?_⟩;cases hv with|pure r=>cases r with|slnil=>exact Ax|sl0=>exact Ay|sl b o cap _ _ f hc hs hi hr=>exact Ut
 |_=>simp only[dZ]at hk;split at hk;rename_i hp;refine aq8 _ hp ?_;rw[hp];exact hk;exact aq
theorem vX:∀(ds:List au) {g:Gh} {s:St} (_:Rel cx g s a w) {K:St->List au->Prop},jI s ds K->∃s' ds' g',K s' ds' ∧Laid cx g s a w s' g' ∧ds'.length=ds.length∧∀(i:Nat) v d,bD g v d->nth ds i=some d->∃d',nth ds' i=some d' ∧bM g'.I v d' |[],g,s,h,K,hk=>⟨s,[],g,hk,Laid.refl h,rfl,λi v d _ hd=>qC⟩|d::ds,g,s,h,K,hk=>by rw[lx]at hk;obtain⟨s1,d1,g1,k1,l1,_,_,r1⟩:=nW h hk;obtain⟨s2,ds2,g2,k2,l2,n2,r2⟩:=vX ds l1.rel k1;refine⟨s2,d1::ds2,g2,k2,l1.trans l2,sG,λi v x hv hx=> ?_⟩;cases i with|zero=>simp[nth]at hx;subst hx;exact⟨d1,rfl,(r1 v hv).mono l2.ext.I⟩|succ i=>exact r2 i v x (hv.mono l1.ext) uC
theorem oS(h:Rel cx g s a w){d:au}{K:St->au->Prop}(hk:nY s d K):∃s' d' g',K s' d' ∧Laid cx g s a w s' g' ∧(cells d').length=(cells d).length∧(∀ds,d' ≠.bS ds)∧∀v,bD g v d->bM g'.I v d' :=by
 unfold nY at hk;split at hk;rename_i hp;exact Vb;split at hk;rename_i cs _;obtain⟨s',cs',g',k1,l1,n1,r1⟩:=vX cs h hk;refine⟨s',_,g',k1,l1,n1,jT,λv hv=> ?_⟩;have hv2:=jE hv jT;have hvs:∃vs,v= .agg vs:=by
  cases hv with
  |pure r=>cases r with|agg vs _=>exact⟨vs,rfl⟩
  |agg=>exact nF
 obtain⟨vs,rfl⟩:=hvs;have e1:vs.size=cs.length:=hv2.1;refine .agg vs cs' E (λi x hx=> ?_) (λi x y hx hy=> ?_);have hi:i<cs.length:=(by rw[<-e1];exact(iX.1 hx).1);obtain⟨z,hz⟩:=bO hi;exact(hv2.2 i x z hx hz).2;have hi:i<cs.length:=(by rw[<-e1];exact(iX.1 hx).1);obtain⟨z,hz⟩:=bO hi;obtain⟨d',e2,e3⟩:=r1 i x z (hv2.2 i x z hx hz).1 hz;rw[hy]at e2;cases e2;exact e3;exact nW h hk;exact nW h hk;exact aq
theorem pB:∀(ds:List au) {g:Gh} {s:St} (_:Rel cx g s a w) {K:St->List au->Prop},lS s ds K->∃s' ds' g',K s' ds' ∧Laid cx g s a w s' g' ∧ds'.length=ds.length∧∀(i:Nat) d,nth ds i=some d->∃d',nth ds' i=some d' ∧(cells d').length=(cells d).length∧∀v,bD g v d->bM g'.I v d' |[],g,s,h,K,hk=>⟨s,[],g,hk,Laid.refl h,rfl,λi d hd=>qC⟩|d::ds,g,s,h,K,hk=>by rw[nX]at hk;obtain⟨s1,d1,g1,k1,l1,c1,_,r1⟩:=oS h hk;obtain⟨s2,ds2,g2,k2,l2,n2,r2⟩:=pB ds l1.rel k1;refine⟨s2,d1::ds2,g2,k2,l1.trans l2,sG,λi x hx=> ?_⟩;cases i with|zero=>simp[nth]at hx;subst hx;exact⟨d1,rfl,c1,λv hv=>(r1 v hv).mono l2.ext.I⟩|succ i=>obtain⟨d',e1,e2,e3⟩:=r2 i x uC;exact⟨d',e1,e2,λv hv=>e3 v (hv.mono l1.ext)⟩
end
def aL:=@congrArg
def gb:=@Nat.lt_succ_self
def dM:=@Nat.zero_le
def kI:=@List.length_nil
def pW:=@List.mem_iff_getElem?
def mR:=@Bool.not_eq_true'
def tI:=@List.length_singleton
def rJ:=@Array.length_toList
def wy:=@List.mem_or_eq_of_mem_set
def uW:=@List.getElem?_set_ne
def lZ:=@Nat.sub_self
def Gg:=@List.eq_of_mem_replicate
def CP:=@Nat.mul_le_mul_right
def Bk:=@Nat.eq_zero_or_pos
def M5:=@Nat.div_lt_of_lt_mul
def Bc:=@Nat.mul_comm
def A':=@Nat.mod_lt
def Ls(h:G:=by intro l;induction l with|nil=>intro _;rfl|cons x l ih=>exact alu):=h
def aa3(h:G:=by rw[aJ]at hd;simpa[hlt]using hd.symm):=h
def RN(h:G:=by rw[e,Nat.beq_refl]at hqk;cases hqk):=h
def ZZ(h:G:=by rw[j1,(h.mem.sZ t1 t2 hr).2.1]):=h
def MD(h:G:=by(rw[hown]at ho;cases ho)):=h
def Vz(h:G:=by rw[Bc];exact hj):=h
def Vx(h:G:=by rw[aJ];simpa using hu):=h
def MB(h:G:=by rw[aJ];simpa using v1):=h
def L8(h:G:=by rw[<-hz];exact t5):=h
def uP(h:G:=by rw[aJ];simp):=h
def LJ(h:G:=by simpa using c4):=h
def uN(h:G:=by simpa using hi):=h
def LD(h:G:=by simpa using q2):=h
def Lx(h:G:=by rw[<-hn];rfl):=h
def uG(h:G:=by cases hx):=h
def AO(h:G:=by rw[ht']):=h
def alu(h:G:=by intro hl;simp only[mS,fx,fw,ih (λe he=>hl e (by simp[he])),hl x (by simp)];omega):=h
def xT(h:G:=by simpa[aV]using c2):=h
def Vi(h:G:=by rw[hcs,fA];simp only[rJ,tI];rw[ak (by omega),lZ];rfl):=h
def Lg(h:G:=by exact⟨by simpa[dA]using z1,z2⟩):=h
def iN(h:G:=by exact k1.elim):=h
def EI(h:G:=by simpa[aV]using c3):=h
def KT(h:G:=by rw[aJ]at hu';simpa using hu'):=h
def EA(h:G:=by rw[sv]at hk;exact aq):=h
def T5(h:G:=by rw[<-rF];exact CP _ (by omega)):=h
def Az(h:G:=by exact⟨_,_,rfl⟩):=h
def TI(h:G:=by obtain⟨z1,z2⟩:=q3.base b' hb';exact Lg):=h
theorem yY{d v d' :au}{off n:Nat}(h:FH d off n v=some d')(hn:(cells v).length=n):off+n<=(cells d).length∧cells d' =aI (cells d) off (cells v)∧(∀ds,v≠.bS ds):=by
 unfold FH at h;split at h;cases h
 ·rename_i hb;have hl:=pX hb;refine⟨hl,?_⟩;cases d with
  |agg cs=>
   dsimp only at h;cases v with
   |agg xs=>
    dsimp only at h;split at h;rename_i hb2;have:=dw hb2;cases h;simp only[cells]at hl hn ⊢;have h0:off=0:=E
    subst h0;refine⟨?_,jT⟩;apply uU;intro j;rw[<-aJ,<-aJ,fA];by_cases hj:j<xs.length;rw[ak E];simp;rw[Z E,rV _ _ E,rV _ _ E];cases h;exact⟨rfl,jT⟩
   |bS=>cases h|me=>cases h|md=>cases h|own=>cases h|shr=>cases h|_=>cases h;exact⟨rfl,jT⟩
  |me=>cases h|md=>cases h|own=>cases h|shr=>cases h
  |_=>
   dsimp only at h;have h0:off=0∧n=1∨n=0:=by simp only[cells,fw,kI]at hl;omega
   cases v with
   |agg=>cases h|bS=>cases h|me=>cases h|md=>cases h|own=>cases h|shr=>cases h
   |_=>
    cases h;simp only[cells,fw,kI]at hl hn ⊢;have:off=0:=E
    subst this;exact⟨rfl,jT⟩
section
variable{P:Program}{cx:Cx}{g:Gh}{s:St}{a:Act}{w:World}{o:Oper}{K:St->Prop}{Q:Go.Exit->Act->World->Prop}
def ln{t:TypeId}{b off:Nat}{v:Value}{d:au}{c:Array Value}{e:TypeId}{fz:Nat×Nat}(ht:oI P t=true)(r:bD g v d)(Ac:∀ds,d≠.bS ds)(hn:(cells d).length=bg P t)(hb:w.heap[b]? =some (.cells c e fz))(hf:qT fz c.size)(hl:off+bg P t<=c.size):(Instr.storeAt t (.pointer (some ⟨b,off,none⟩)) v).run P w= .ok () (dA w b (.cells (aI c.toList off v.cells.toList).toArray e fz)):=by
 have h1:=jE r Ac;have h2:=i6 (P:=P) (o:=off) v.cells.toList 0 c w hb hf (by have:=h1.1;exact az) (λx hx=>by
  obtain⟨i,hi⟩:=pW.1 hx;have hi2:v.cells[i]? =some x:=uN
  have hlt:i<(cells d).length:=by rw[<-h1.1];exact(iX.1 hi2).1
  obtain⟨y,hy⟩:=bO hlt;exact(h1.2 i x y hi2 hy).2)
 simp only[Instr.storeAt,Instr.sureAddr,storeVar,Sem.run_bind,Sem.run_pure,Result.andThen_ok,iB ht];rw[Z (by have:=h1.1;omega),h2,kH]
def zK{c:Array Value}{ds xs:List au}{v:Value}{off:Nat}(hs:c.size=ds.length)(hc:∀(i:Nat) v x,c[i]? =some v->nth ds i=some x->bD g v x∧leaf v=true)(hv1:v.cells.size=xs.length)(hv2:∀(i:Nat) u x,v.cells[i]? =some u->nth xs i=some x->bD g u x∧leaf u=true):∀(i:Nat) u x,((aI c.toList off v.cells.toList).toArray)[i]? =some u->nth (aI ds off xs) i=some x->bD g u x∧leaf u=true:=by
 intro i u x hu hx;have hu' :nth (aI c.toList off v.cells.toList) i=some u:=Vx
 rw[fA]at hu' hx;simp only[rJ]at hu';by_cases hi:off<=i∧i<off+xs.length∧i<ds.length;rw[ak E]at hu';rw[ak hi]at hx;exact hv2 (i - off) u x KT hx;rw[Z E]at hu';rw[Z hi]at hx;exact hc i u x KT hx
def Mem.WM(m:Mem cx g s w){q:Nat}{rq:Row}(hq:s.R q=some rq)(hz:rq.sz=1):∃g1:Gh,Ext g g1∧Mem cx g1 {s with R:=aW s.R q (some (qd rq))} w∧g1.I=g.I∧g1.mu=g.mu∧(∀j,j≠q->g1.tv j=g.tv j)∧∃u,g1.tv q=some u∧∀b,¬u.wj b:=by
 obtain⟨t,h1,h2,h3,h4,h5⟩:=m.row q rq hq;obtain⟨u,hu⟩:∃u:Tv,u={sz:=t.sz,n:=t.n+1,base:=none,cap:=0,nest:=true}:=⟨_,rfl⟩;have ub:∀b,¬u.wj b:=by intro b hb;rw[hu]at hb;rcases hb with hb|⟨hb,_⟩;cases hb;have:t.sz=0:=hb;omega
 have he:Ext g (g.row q u):=g.pz (.inr ⟨t,h1,by rw[hu];exact⟨rfl,λe=>E,.inl (gb _)⟩⟩);refine⟨g.row q u,he,?_,rfl,rfl,λj hj=>by simp[Gh.row,aO _ _ _ _ hj],u,qD,ub⟩;refine m.setRow (k:=q) (r:=qd rq) (t:=u) he rfl rfl (λ_ _=>rfl) (Frame.refl _ _) (by rw[hu];exact h2) (by rw[hu];simp[qd,h3]) ?_ ?_ (λb hb=>absurd hb (ub b)) rfl rfl;intro e he;rcases b_.1 he with rfl|he;rw[show(qd rq).sz=rq.sz from rfl,hz];rfl;rw[Gg he,show(qd rq).sz=rq.sz from rfl,hz];rfl;refine⟨by rw[hu];exact h2,λ_ e=>by(rw[hu]at e;cases e),λ_ _=>by rw[hu];exact⟨rfl,Nat.succ_pos _⟩,λe=> ?_,λe=> ?_⟩;rw[show(qd rq).sz=rq.sz from rfl,hz]at e;cases e;rw[show(qd rq).sz=rq.sz from rfl,hz]at e;cases e
structure ah0(cx:Cx)(g:Gh)(w:World)(q:Nat)(v:Value)(xs:List au)(bq:Option Nat):Prop where
 v:∃c,v= .slice (bq.map λb=>⟨b,0,none⟩) xs.length c∧xs.length<=c
 b:xs≠[]->∃b,bq=some b
 i:∀b,bq=some b->b<w.heap.size∧cx.dX b∧(∀l,g.mu l≠some b)∧qS g w b xs∧∃t,g.tv q=some t∧t.wj b
def Mem.loose(m:Mem cx g s w){q n:Nat}{rq:Row}(hq:s.R q=some rq)(hz:rq.sz=1)(ho:rq.own=true){v:Value}(hv:bD g v (.ref q n))(hn:n=rq.es.length):∃bq,ah0 cx g w q v rq.es bq:=by
 obtain⟨t,t1,t2,t3,t4,t5,t6⟩:=m.pA hv hq hn;have hz0:rq.sz≠0:=E
 have t7:=t6.o hz0;refine⟨t.base,?_⟩;unfold jv at t7;cases hb:t.base with|none=>rw[hb]at t7;dsimp only at t7;rw[t7.1];refine⟨⟨0,by rw[t4];unfold Tv.value;rw[hb];rfl,cJ _⟩,λh=>absurd rfl h,λb hbb=>by cases hbb⟩|some b=>rw[hb]at t7;dsimp only at t7;obtain⟨k1,k2,k3,c,e,fz,k4,k5,k6,k7,k8,k9⟩:=t7;refine⟨⟨t.cap,by rw[t4];unfold Tv.value;rw[hb,t3];rfl,E⟩,λ_=>⟨b,rfl⟩,λb' hbb=> ?_⟩;cases hbb;refine⟨cI k4,k2,k3,⟨c,e,fz,k4,k5.1,by rw[hz]at k6;omega,L8,k8 ho,λj d hd=> ?_⟩,t,t1,.inl hb⟩;obtain⟨v,v1,v2,v3,_⟩:=k9 j d hd;exact⟨v,v1,v2,v3⟩
def C9(h:Rel cx g s a w){k q:Nat}{r rq:Row}(hr:s.R k=some r)(hq:s.R q=some rq)(ho:r.own=true)(hz:r.sz=0)(hqz:rq.sz=1)(hqk:q≠k){tv:Tv}(t1:g.tv k=some tv)(t2:tv.sz=0∧tv.nest=true){v:Value}{bq:Option Nat}(L:ah0 cx g w q v rq.es bq){p:Nat}{es' :List au}(hp:nth es' p=some (.own rq.es))(hp0:∀xs,nth r.es p≠some (.own xs))(hes:∀j,j≠p->nth es' j=nth r.es j){b cap' :Nat}(hgrow:tv.n<es'.length∨(tv.n=es'.length∧tv.base=some b∧tv.cap=cap'))(hb:tv.base=some b∨b=w.heap.size){w' :World}{c' :Array Value}{e:TypeId}{fz:Nat×Nat}(hw:Frame w w' (λx=>x=b))(hc:w'.heap[b]? =some (.cells c' e fz))(hf:qT fz c'.size)(hcap:es'.length<=cap')(hcs:cap' <=c'.size)(hv:c'[p]? =some v)(hold:∀j x,j≠p->nth r.es j=some x->∀b0 c et ff,tv.base=some b0->w.heap[b0]? =some (.cells c et ff)->c'[j]? =c[j]?):∃g',Ext g g' ∧Rel cx g' {s with R:=aW (aW s.R q (some (qd rq))) k (some {r with es:=es' })} a w' ∧∃t',g'.tv k=some t' ∧(t'.sz=0∧t'.nest=true)∧t'.n=es'.length∧t'.base=some b∧t'.cap=cap' :=by
 obtain⟨g1,e1,m1,i1,u1,tvs,uq,tq,nb⟩:=h.mem.WM hq hqz;have hr1:({s with R:=aW s.R q (some (qd rq))}:St).R k=some r:=by show aW s.R q (some (qd rq)) k=some r;rw[aO _ _ _ _ (gB hqk)];exact hr
 have t1' :g1.tv k=some tv:=by rw[tvs k (gB hqk)];exact t1
 obtain⟨q1,q2,q3⟩:=m1.sZ t1' t2 hr1;obtain⟨l1,l2,l3⟩:=q3.live ho;have hown0:tv.ow p=none:=by cases ho:tv.ow p with|none=>rfl|some b' =>obtain⟨xs,y1,_⟩:=l2 _ _ ho;exact absurd y1 (hp0 xs)
 have far:∀b',bq=some b' ->∀j u,g1.tv j=some u->¬u.wj b' :=by intro b' hb' j u hu hbl;obtain⟨_,_,_,_,t0,y1,y2⟩:=L.i b' hb';by_cases hj:j=q;subst hj;rw[tq]at hu;cases hu;exact nb b' hbl;rw[tvs j hj]at hu;exact hj (h.mem.k_ j q u t0 b' hu y1 hbl y2)
 obtain⟨t',ht'⟩:∃t' :Tv,t' ={sz:=tv.sz,n:=es'.length,base:=some b,cap:=cap',nest:=tv.nest,ow:=λj=>if j=p∧rq.es≠[]then bq else tv.ow j}:=⟨_,rfl⟩;have tb:t'.base=some b:=AO
 have tow:∀j b',t'.ow j=some b' ->(j=p∧rq.es≠[]∧bq=some b')∨(j≠p∧tv.ow j=some b'):=by intro j b' hj;rw[ht']at hj;dsimp only at hj;split at hj;rename_i hc;exact .inl ⟨hc.1,hc.2,hj⟩;refine .inr ⟨λe=> ?_,hj⟩;rw[e,hown0]at hj;cases hj
 have apw :∀j b',tv.ow j=some b' ->t'.ow j=some b' :=by intro j b' hj;rw[ht'];dsimp only;rw[Z (by rintro ⟨e,_⟩;rw[e,hown0]at hj;cases hj)];exact hj
 have tle:tv.Le t' :=by rw[ht'];refine⟨rfl,λ_=>⟨rfl,λe=> ?_,λj b' hj=>by have:=apw j b' hj;rw[ht']at this;exact dj⟩,?_⟩;rw[t2.2]at e;cases e;rcases hgrow with h1|⟨h1,h2,h3⟩;exact .inl h1;exact .inr ⟨h1.symm,h2.symm,h3.symm⟩
 have he2:Ext g1 (g1.row k t'):=g1.pz (.inr ⟨tv,t1',tle⟩);have bI:∀o,g1.I b o=none:=by intro o;rcases hb with h1|h1;rw[h1]at l3;exact l3.2.1 o;rw[i1];cases hi:g.I b o with|none=>rfl|some x=>exact absurd (h1▸h.mem.Il hi) (fQ _)
 have at0:cx.dX b∧∀l,g1.mu l≠some b:=by rcases hb with h1|h1;exact(q3.base b h1).2;refine⟨h1▸h.mem.new _ (cJ _),λl hl=> ?_⟩;rw[u1]at hl;exact absurd (h1▸h.mem.vU hl) (fQ _)
 have av9:∀j u,j≠k->g1.tv j=some u->¬u.wj b:=by intro j u hj hu hbl;rcases hb with h1|h1;exact hj (m1.k_ j k u tv b hu t1' hbl (.inl h1));exact absurd (h1▸(m1.kK hu hbl).1) (fQ _)
 have bow:∀j b',tv.ow j=some b' ->b' ≠b:=by intro j b' hj e;rcases hb with h1|h1;exact(q3.ow j b' hj).2.2.2.1 (by rw[h1,e]);exact absurd (by have:=(q3.ow j b' hj).1;rw[e,h1]at this;exact dj) (fQ _)
 have hbq:∀b',bq=some b' ->b' ≠b:=λb' hb' e=>by rcases hb with h1|h1;exact far b' hb' k tv t1' (.inl (by rw[h1,e]));exact absurd (by have:=(L.i b' hb').1;rw[e,h1]at this;exact dj) (fQ _)
 have hsame:∀b',b' <w.heap.size->b' ≠b->w'.heap[b']? =w.heap[b']? :=λb' h1 h2=>hw.block b' h1 h2;refine⟨g1.row k t',e1.trans he2,⟨(λx d hd=>(h.env x d hd).mono (e1.trans he2)),h.size,h.defers,?_⟩,t',qD,by rw[ht'];exact t2,AO,tb,AO⟩;refine m1.setRow (k:=k) (r:={r with es:=es' }) (t:=t') he2 rfl rfl (λ_ _=>rfl) (hw.sub λb' _ e=> .inl (by rw[tb,e])) ?_ ?_ ?_ ?_ ?_ rfl rfl;rw[ht'];exact t2.1.trans hz.symm;rw[ht'];intro y hy;obtain⟨j,hj⟩:=pW.1 hy;rw[<-aJ]at hj;by_cases hjp:j=p;subst hjp;rw[hp]at hj;cases hj;rw[hz];rfl;rw[hes j hjp]at hj;rcases l1 y (gu hj)with⟨_,rfl⟩|⟨_,rfl⟩<;>rw[hz]<;>rfl
 have D7:t'.nest=true:=by rw[ht'];exact t2.2
 refine⟨by rw[ht'];exact t2.1.trans hz.symm,λe=>absurd hz e,λe=>absurd hz e,λ_ e=>by(rw[D7]at e;cases e),λ_ _=> ?_⟩;refine⟨λj b' hj=> ?_,λb' hb' => ?_,λ_=>⟨λy hy=> ?_,λj b' hj=> ?_,?_⟩⟩;rcases tow j b' hj with⟨rfl,y1,y2⟩|⟨y0,y1⟩;obtain⟨z1,z2,z3,_,_⟩:=L.i b' y2;refine⟨jm z1 hw.size,z2,by simp only[Gh.row];rw[u1];exact z3,λe=> ?_,λj' hj' => ?_⟩;rw[tb]at e;cases e;exact hbq _ y2 rfl;rcases tow j' b' hj' with⟨h1,_,_⟩|⟨_,h2⟩;exact h1;exact absurd (.inr ⟨t2.1,t2.2,j',h2⟩) (far b' y2 k tv t1');obtain⟨z1,z2,z3,z4,z5⟩:=q3.ow j b' y1;refine⟨jm z1 hw.size,z2,z3,λe=>bow j b' y1 (by rw[tb]at e;cases e;rfl),λj' hj' => ?_⟩;rcases tow j' b' hj' with⟨_,_,h1⟩|⟨_,h2⟩;exact absurd (.inr ⟨t2.1,t2.2,j,y1⟩) (far b' h1 k tv t1');exact z5 j' h2;rw[tb]at hb';cases hb';exact⟨cI hc,at0⟩;obtain⟨j,hj⟩:=pW.1 hy;rw[<-aJ]at hj;by_cases hjp:j=p;subst hjp;have hj:nth es' j=some y:=hj;rw[hp]at hj;cases hj;exact .inl ⟨_,rfl⟩;have hj:nth es' j=some y:=hj;rw[hes j hjp]at hj;exact l1 y (gu hj);rcases tow j b' hj with⟨rfl,y1,y2⟩|⟨y0,y1⟩;exact⟨rq.es,hp,y1⟩;obtain⟨xs,z1,z2⟩:=l2 j b' y1;exact⟨xs,(hes j y0).trans z1,z2⟩;rw[tb];refine⟨by rw[ht'];exact hcap,bI,_,e,fz,hc,hf,by rw[ht'];exact hcs,λj d hd=> ?_⟩;have hin:∀b',b' <w.heap.size->b' ≠b->∀d',qS g1 w b' d' ->qS (g1.row k t') w' b' d' :=λb' h1 h2 d' hi=>hi.mono (λ_ _ _ e=>e) (hsame b' h1 h2) (λ_=>rfl);have hd:nth es' j=some d:=hd;by_cases hj:j=p;subst hj;rw[hp]at hd;cases hd;obtain⟨cc,y1,y2⟩:=L.v;refine⟨v,hv,⟨λxs hx=> ?_,λxs hx=>uG⟩⟩;cases hx;refine⟨_,cc,y1,y2,λhne=> ?_⟩;obtain⟨b',hb'⟩:=L.b hne;have ho' :t'.ow j=some b' :=by rw[ht'];dsimp only;rw[ak ⟨rfl,hne⟩];exact hb'
 refine⟨b',ho',by rw[hb'];rfl,hin b' (L.i b' hb').1 (hbq b' hb') _ ?_⟩;exact((L.i b' hb').2.2.2.1).mono e1.I rfl (λj=>by rw[i1]);rw[hes j hj]at hd;cases hb0:tv.base with|none=>rw[hb0]at l3;dsimp only at l3;rw[l3.1]at hd;simp[nth]at hd|some b0=>rw[hb0]at l3;obtain⟨_,_,c,et,ff,k1,_,_,k2⟩:=l3;obtain⟨u,z1,z2⟩:=k2 j d hd;refine⟨u,(hold j d hj hd b0 c et ff hb0 k1).trans z1,⟨λxs hx=> ?_,λxs hx=>z2.shr xs hx⟩⟩;obtain⟨a',cc,y1,y2,y3⟩:=z2.own xs hx;refine⟨a',cc,y1,y2,λhne=> ?_⟩;obtain⟨b',y4,y5,y6⟩:=y3 hne;exact⟨b',apw j b' y4,y5,hin b' (q3.ow j b' y4).1 (bow j b' y4) _ y6⟩
 intro b' hb';rcases hb' with hb' |⟨_,_,j,hj⟩;rw[tb]at hb';cases hb';exact⟨av9,λo x hx=>by have hx' :g1.I b o=some x:=hx;rw[bI o]at hx';cases hx'⟩;rcases tow j b' hj with⟨_,_,y2⟩|⟨_,y1⟩;refine⟨λj u _ hu=>far b' y2 j u hu,λo x hx=> ?_⟩;obtain⟨_,_,_,z4,_⟩:=L.i b' y2;obtain⟨_,_,_,_,_,_,_,z5,_⟩:=z4;have hx' :g1.I b' o=some x:=hx;rw[i1,z5 o]at hx';cases hx';refine⟨λj' u hj' hu hbl=>hj' (m1.k_ j' k u tv b' hu t1' hbl (.inr ⟨t2.1,t2.2,j,y1⟩)),λo x hx=> ?_⟩;obtain⟨xs,z1,z2⟩:=l2 j b' y1;obtain⟨b'',z3,z4⟩:=q3.inner ho z1 z2;rw[y1]at z3;cases z3;obtain⟨_,_,_,_,_,_,_,z5,_⟩:=z4;have hx' :g1.I b' o=some x:=hx;rw[z5 o]at hx';cases hx'
def Xq(h:Rel cx g s a w){k q n' :Nat}{r rq:Row}(hr:s.R k=some r)(hq:s.R q=some rq)(sv:((r.own&&Nat.beq r.sz 0)&&((rq.own&&Nat.beq rq.sz 1)&& !Nat.beq q k))=true){tv:Tv}{b:Nat}(t1:g.tv k=some tv)(t2:tv.sz=0∧tv.nest=true)(hb:tv.base=some b){v:Value}(hv:bD g v (.ref q n'))(hn' :n' =rq.es.length){i:Int}(j2:0<=i){x:List au}(j3:nth r.es i.toNat=some (.shr x)){t:TypeId}(ht:oI P t=true)(hs1:1=bg P t)(hk:K {s with R:=aW (aW s.R q (some (qd rq))) k (some {r with es:=r.es.set i.toNat (.own rq.es)})}):∃w',(Instr.storeAt t (.pointer (some ⟨b,i.toNat,none⟩)) v).run P w= .ok () w' ∧fK cx g K a w' :=by
 simp only[aX,mR]at sv;obtain⟨⟨ho,hz⟩,⟨hqo,hqz⟩,hqk⟩:=sv;have hz:r.sz=0:=dw hz;have hqz:rq.sz=1:=dw hqz;have hqk:q≠k:=λe=>RN
 obtain⟨bq,L⟩:=h.mem.loose hq hqz hqo hv hn';obtain⟨q1,q2,q3⟩:=h.mem.sZ t1 t2 hr;obtain⟨l1,l2,l3⟩:=q3.live ho;rw[hb]at l3;obtain⟨c0,c1,c,e,fz,c2,c3,c4,c5⟩:=l3;have hlt:i.toNat<r.es.length:=aH j3;have hcsz:i.toNat+1<=c.size:=E
 have hst:=ln (P:=P) (off:=i.toNat) (d:= .ref q n') ht hv jT (show 1=bg P t from hs1) c2 c3 E;refine⟨_,hst,?_⟩;have hvl:v.cells.toList=[v]:=by obtain⟨cc,y1,_⟩:=L.v;rw[y1];rfl
 rw[hvl];have hcs:∀j,((aI c.toList i.toNat [v]).toArray)[j]? =nth (aI c.toList i.toNat [v]) j:=λj=>uP
 obtain⟨g',x1,x2,_⟩:=C9 h hr hq ho hz hqz hqk t1 t2 L (p:=i.toNat) (es' :=r.es.set i.toNat (.own rq.es)) (by rw[aJ];simp[hlt]) (λxs e=>by rw[j3]at e;cases e)
  (λj hj=>by rw[aJ,aJ,uW (gB hj)]) (b:=b) (cap' :=tv.cap) (.inr ⟨LD,hb,rfl⟩) (.inl hb)
  ((Frame.refl w _).dA b (.cells (aI c.toList i.toNat [v]).toArray e fz) (.inr rfl)) (dt _ _ _ (cI c2)) EI az (by simpa[aV]using c4)
  Vi
  (λj x hj hx b0 c' et ff hb0 hc' =>by rw[hb]at hb0;cases hb0;rw[c2]at hc';cases hc';rw[hcs,fA];simp only[rJ,tI];rw[Z E,aJ];simp)
 exact⟨_,g',hk,x1,x2⟩
def Xr(h:Rel cx g s a w){k:Nat}{r:Row}(hr:s.R k=some r)(sv:(r.own&&Nat.beq r.sz 0)=true){tv:Tv}{b:Nat}(t1:g.tv k=some tv)(t2:tv.sz=0∧tv.nest=true)(hb:tv.base=some b){v:Value}{z:Nat}{bb:Bool}(hv:bD g v (.sl z [] bb)){i:Int}{x:List au}(j3:nth r.es i.toNat=some (.shr x)){t:TypeId}(ht:oI P t=true)(hs1:1=bg P t)(hk:K {s with R:=aW s.R k (some {r with es:=r.es.set i.toNat (.own [])})}):∃w',(Instr.storeAt t (.pointer (some ⟨b,i.toNat,none⟩)) v).run P w= .ok () w' ∧fK cx g K a w' :=by
 simp only[aX]at sv;obtain⟨ho,hz⟩:=sv;have hz:r.sz=0:=dw hz;obtain⟨q1,q2,q3⟩:=h.mem.sZ t1 t2 hr;obtain⟨l1,l2,l3⟩:=q3.live ho;rw[hb]at l3;obtain⟨d0,d1,c,e,fz,c1,c2,c3,c4⟩:=l3;have hlt:i.toNat<r.es.length:=aH j3;obtain⟨p,cap,hp⟩:∃p cap,v= .slice p 0 cap:=by cases hv with|pure q=>cases q<;>exact Az
 have hst:=ln (P:=P) (off:=i.toNat) (d:= .sl z [] bb) ht hv jT (show 1=bg P t from hs1) c1 c2 E;refine⟨_,hst,?_⟩;rw[show v.cells.toList=[v] by rw[hp];rfl];refine⟨_,g,hk,Ext.refl g,h.env,h.size,h.defers,?_⟩;have far:∀b' j,tv.ow j=some b' ->b' ≠b:=λb' j hj e=>(q3.ow j b' hj).2.2.2.1 (by rw[hb,e]);refine h.mem.setRow (k:=k) (r:={r with es:=r.es.set i.toNat (.own [])}) (t:=tv) (Ext.refl g) rfl ?_ (λ_ _=>rfl) ((Frame.refl w _).dA b _ (.inr (.inl hb))) (t2.1.trans hz.symm) LD ?_ ?_ ?_ rfl rfl;funext y;by_cases hy:y=k;subst hy;rw[bw];exact t1;rw[aO _ _ _ _ hy];intro y hy;rcases wy hy with hy|rfl;rcases l1 y hy with⟨_,rfl⟩|⟨_,rfl⟩<;>rw[hz]<;>rfl;rw[hz];rfl
 refine⟨t2.1.trans hz.symm,λe=>absurd hz e,λe=>absurd hz e,λ_ e=>by(rw[t2.2]at e;cases e),λ_ _=> ?_⟩;refine⟨λj b' hj=> ?_,λb' hb' => ?_,λ_=>⟨λy hy=> ?_,λj' b' hj=> ?_,?_⟩⟩;obtain⟨z1,z2⟩:=q3.ow j b' hj;exact Lg;exact TI;rcases wy hy with hy|rfl;exact l1 y hy;exact .inl ⟨_,rfl⟩;obtain⟨ys,z1,z2⟩:=l2 j' b' hj;have hne:j' ≠i.toNat:=λe=>by rw[e,j3]at z1;cases z1
 exact⟨ys,by rw[aJ]at z1 ⊢;rw[uW (gB hne)];exact z1,z2⟩;rw[hb];refine⟨d0,d1,_,e,fz,dt _ _ _ (cI c1),xT,EI,λj d hd=> ?_⟩;have hcs:((aI c.toList i.toNat [v]).toArray)[j]? =nth (aI c.toList i.toNat [v]) j:=uP
 rw[hcs,fA];simp only[rJ,tI];by_cases hj:j=i.toNat;subst hj;rw[ak E,lZ];have hd' :d= .own []:=aa3
 subst hd';exact⟨v,rfl,λxs hx=>by cases hx;exact⟨p,cap,hp,dM _,λh=>absurd rfl h⟩,λxs hx=>uG⟩;rw[Z E];have hd' :nth r.es j=some d:=by rw[aJ]at hd ⊢;rw[uW (gB hj)]at hd;exact hd
 obtain⟨u,z1,z2⟩:=c4 j d hd';exact⟨u,by rw[aJ];simpa using z1,z2.mono (λ_ _ _ e=>e) λb' hj=>⟨dL _ _ _ _ (far b' j hj),λ_=>rfl⟩⟩;intro b' hb';refine⟨λj' u hj' hu hbl=>hj' (h.mem.k_ j' k u tv b' hu t1 hbl hb'),λo y hy=> ?_⟩;exfalso;rcases hb' with h1|⟨_,_,j',h1⟩;rw[hb]at h1;cases h1;rw[d1 o]at hy;cases hy;obtain⟨ys,z1,z2⟩:=l2 j' b' h1;obtain⟨b'',z3,z4⟩:=q3.inner ho z1 z2;rw[h1]at z3;cases z3;obtain⟨_,_,_,_,_,_,_,z5,_⟩:=z4;rw[z5 o]at hy;cases hy
theorem O7(h:Rel cx g s a w){k j:Nat}{i:Int}{r:Row}(hr:s.R k=some r)(sv:(r.own&&Nat.beq r.sz 0)=true){tv:Tv}{b:Nat}(t1:g.tv k=some tv)(t2:tv.sz=0)(t4:tv.ow j=some b){v:Value}{q:IntKind}{x:Int}(hv:bD g v (.int q x)){xs:List au}(j1:nth r.es j=some (.own xs))(j2:0<=i∧i.toNat<xs.length){t:TypeId}(ht:oI P t=true)(hs1:1=bg P t)(hk:K {s with R:=aW s.R k (some {r with es:=r.es.set j (.own (xs.set i.toNat (.int q x)))})}):∃w',(Instr.storeAt t (.pointer (some ⟨b,i.toNat,none⟩)) v).run P w= .ok () w' ∧fK cx g K a w' :=by
 simp only[aX]at sv;obtain⟨ho,hz⟩:=sv;have hz:r.sz=0:=dw hz;obtain⟨t',k1,k2,k3,k4,k5⟩:=h.mem.row k r hr;rw[t1]at k1;cases k1;have hn:tv.nest=true:=by cases hn:tv.nest with|true=>rfl|false=>obtain⟨_,b',es,clock,_,_,_,_,_,hm⟩:=k5.m hz hn;exact absurd (gu j1) (hm.rep.ad2 _)
 have q3:=k5.q hz hn;have hne:xs≠[]:=by intro e;subst e;simp at j2
 obtain⟨b',u1,c,e,fz,c1,c2,c3,c4,c5,c6⟩:=q3.inner ho j1 hne;rw[t4]at u1;cases u1;obtain⟨l1,l2,l3⟩:=q3.live ho;have hlt:j<r.es.length:=aH j1;obtain⟨o1,o2,o3,o4,o5⟩:=q3.ow j b t4;have hst:=ln (P:=P) (off:=i.toNat) (d:= .int q x) ht hv jT (show 1=bg P t from hs1) c1 c2 E;refine⟨_,hst,?_⟩;have hve:=hv.gC;subst hve;rw[show(Value.int q x).cells.toList=[Value.int q x] from rfl];have hs' :∀e∈xs.set i.toNat (.int q x),(cells e).length=1:=by intro y hy;rcases wy hy with hy|rfl;exact c4 y hy;rfl
 refine⟨_,g,hk,Ext.refl g,h.env,h.size,h.defers,?_⟩;refine h.mem.setRow (k:=k) (r:={r with es:=r.es.set j (.own (xs.set i.toNat (.int q x)))}) (t:=tv) (Ext.refl g) rfl ?_ (λ_ _=>rfl) ((Frame.refl w _).dA b _ (.inr (.inr ⟨t2,hn,j,t4⟩))) k2 (by simpa using k3) ?_ ?_ ?_ rfl rfl;funext y;by_cases hy:y=k;subst hy;rw[bw];exact t1;rw[aO _ _ _ _ hy];intro y hy;rcases wy hy with hy|rfl;exact k4 y hy;rw[hz];rfl
 refine⟨k2,λe=>absurd hz e,λe=>absurd hz e,λ_ e=>by(rw[hn]at e;cases e),λ_ _=> ?_⟩;refine⟨λj b' hj=> ?_,λb' hb' => ?_,λ_=>⟨λy hy=> ?_,λj' b' hj=> ?_,?_⟩⟩;obtain⟨z1,z2⟩:=q3.ow j b' hj;exact Lg;exact TI;rcases wy hy with hy|rfl;exact l1 y hy;exact .inl ⟨_,rfl⟩;obtain⟨ys,z1,z2⟩:=l2 j' b' hj;by_cases hjj:j' =j;subst hjj;exact⟨xs.set i.toNat (.int q x),by rw[aJ];simp[hlt],by intro e;apply hne;have:=aL List.length e;exact mO⟩;exact⟨ys,by rw[aJ]at z1 ⊢;rw[uW (gB hjj)];exact z1,z2⟩
 ·cases hb:tv.base with
  |none=>rw[hb]at l3;dsimp only at l3;rw[l3.1]at j1;simp[nth]at j1
  |some b0=>
   rw[hb]at l3;obtain⟨d0,d1,cc,ee,ff,d2,d3,d4,d5⟩:=l3;have hbb:b0≠b:=λe=>o4 (by rw[hb,e]);refine⟨d0,d1,cc,ee,ff,(dL _ _ _ _ hbb).trans d2,d3,d4,λj' d hd=> ?_⟩;by_cases hjj:j' =j;subst hjj;have hd' :d= .own (xs.set i.toNat (.int q x)):=aa3
   subst hd';obtain⟨u,z1,z2⟩:=d5 j' _ j1;refine⟨u,z1,⟨λys hy=> ?_,λys hy=>by cases hy⟩⟩;cases hy;obtain⟨a',cap,y1,y2,y3⟩:=z2.own xs rfl;refine⟨a',cap,by simpa using y1,by simpa using y2,λ_=> ?_⟩;obtain⟨b'',y4,y5,_⟩:=y3 hne;rw[t4]at y4;cases y4;refine⟨b,t4,y5,_,e,fz,dt _ _ _ (cI c1),xT,EI,hs',c5,λp d hd=> ?_⟩;have hp:p<xs.length:=by
    have h1:=aH hd;have:∀l:List au,(∀e∈l,(cells e).length=1)->(l.flatMap cells).length=l.length:=Ls
    rw[this _ hs']at h1;exact gK
   have hcs:((aI c.toList i.toNat [Value.int q x]).toArray)[p]? =nth (aI c.toList i.toNat [Value.int q x]) p:=uP;rw[hcs,fA];simp only[rJ,tI];by_cases hpi:p=i.toNat;subst hpi;rw[ak E,lZ];have:=gZ (xs.set i.toNat (.int q x)) 1 i.toNat 0 (.int q x) hs' (by rw[aJ];simp[j2.2]) E;rw[nG,kH,hd]at this;cases this;exact⟨_,rfl,.int _ _,rfl⟩;rw[Z E];obtain⟨y0,hy0⟩:=bO hp;have h1:=gZ (xs.set i.toNat (.int q x)) 1 p 0 y0 hs' (by rw[aJ,uW (gB hpi),<-aJ];exact hy0) E;have h2:=gZ xs 1 p 0 y0 c4 hy0 E;rw[nG,kH]at h1 h2;rw[h1,<-h2]at hd;obtain⟨v,v1,v2,v3⟩:=c6 p d hd;exact⟨v,MB,v2,v3⟩;have hd' :nth r.es j' =some d:=(by rw[aJ]at hd ⊢;rw[uW (gB hjj)]at hd;exact hd);obtain⟨u,z1,z2⟩:=d5 j' d hd';refine⟨u,z1,z2.mono (λ_ _ _ e=>e) λb' hj=>⟨dL _ _ _ _ ?_,λ_=>rfl⟩⟩;intro e;subst e;exact hjj (o5 j' hj)
 intro b' hb';refine⟨λj' u hj hu hbl=>hj (h.mem.k_ j' k u tv b' hu t1 hbl hb'),λo y hy=> ?_⟩;exfalso;rcases hb' with h1|⟨_,_,j',h1⟩;rw[h1]at l3;rw[l3.2.1 o]at hy;cases hy;obtain⟨ys,z1,z2⟩:=l2 j' b' h1;obtain⟨b'',z3,z4⟩:=q3.inner ho z1 z2;rw[h1]at z3;cases z3;obtain⟨_,_,_,_,_,_,_,z5,_⟩:=z4;rw[z5 o]at hy;cases hy
theorem O_(h:Rel cx g s a w){t:TypeId}{x y:Operand}(ho:o.op= .store t x y)(hdst:o.dst=none)(ht:oI P t=true){p d:au}(hx:cY P s 0 x=some p)(hy:cY P s t y=some d){c:mN}(hk:aC P c o.dst s K (.store p d (bg P t))):o.wp P a w (fK cx g K) Q:=by
 have hp:=h.get hx;have hv:=h.get hy;simp only[aC]at hk;split at hk;exact aq;rename_i hbeq;have hn:=dw hbeq;have fin:∀{b off:Nat} {w' :World},a.eval x= .pointer (some ⟨b,off,none⟩)->(Instr.storeAt t (.pointer (some ⟨b,off,none⟩)) (a.eval y)).run P w= .ok () w' ->
  fK cx g K a w' ->o.wp P a w (fK cx g K) Q:=by
  intro b off w' e1 e2 e3;refine OQ (w' :=w') ?_ ?_;simp[execOp,ho,e1,e2];rw[hdst];exact e3
 cases p with
 |ptr l off=>dsimp only at hk;obtain⟨b,hb,e1⟩:=hp.vu;cases hl:s.H l with|none=>rw[hl]at hk;exact aq|some z=>rw[hl]at hk;dsimp only at hk;obtain⟨b',hb',hbox,te⟩:=h.mem.box l z hl;rw[hb]at hb';cases hb';split at hk;rename_i d' hd';obtain⟨p1,p2,p3⟩:=yY hd' hn;obtain⟨cc,e,fz,c1,c2,c3,c4⟩:=hbox;refine fin e1 (ln ht hv p3 hn c1 c2 E) ⟨_,g,hk,Ext.refl g,h.env,h.size,h.defers,?_⟩;have FV:=jE hv p3;refine h.mem.Sr hl hb (d' :=d') xT (by rw[p2];simp[aV,c3]) ?_ rfl rfl;rw[p2];exact zK c3 c4 FV.1 FV.2;exact aq
 |jw l off=>
  dsimp only at hk;obtain⟨b,hb,e1⟩:=hp.Gn;split at hk;rename_i cs hl;obtain⟨b',hb',hbox,te⟩:=h.mem.box l _ hl;rw[hb]at hb';cases hb';obtain⟨cc,e,fz,c1,c2,c3,c4⟩:=hbox;have one:∀(Qh:∀ds,d≠.agg ds) (Ac:∀ds,d≠.bS ds) (hoff:off<cs.length),K {s with H:=aW s.H l (some (.agg (cs.set off d)))}->
   o.wp P a w (fK cx g K) Q:=by
   intro Qh Ac hoff hkk;have hcells:cells d=[d]:=by cases d<;>first|rfl|exact absurd rfl (Qh _)|exact absurd rfl (hv.uf.1 _ _)|exact absurd rfl hv.uf.2|exact absurd rfl (hv.G_.1 _)|exact absurd rfl (hv.G_.2 _)
   have FV:=jE hv Ac;have hs1:bg P t=1:=by rw[<-hn,hcells];rfl
   have c3' :cc.size=cs.length:=c3;refine fin e1 (ln ht hv Ac hn c1 c2 E) ⟨_,g,hkk,Ext.refl g,h.env,h.size,h.defers,?_⟩;have hset:cs.set off d=aI cs off (cells d):=by rw[hcells];apply uU;intro j;rw[<-aJ (aI cs off [d]),fA,Fq];by_cases hj:off=j;subst hj;simp[hoff,nth];rw[Z hj,Z az,aJ]
   refine h.mem.Sr hl hb (d' := .agg (cs.set off d)) xT (by simp[aV,cells,c3']) ?_ rfl rfl;show ∀(i:Nat) u x,_->nth (cs.set off d) i=some x->_;rw[hset];exact zK c3 c4 FV.1 FV.2
  split at hk;exact aq;exact aq;rename_i h1 h2;exact one (λds e=>h1 ds e) (λds e=>h2 ds e) hk.h hk.k;exact aq
 |iS k m i off=>
  dsimp only at hk;obtain⟨s1,d1,g1,k1,l1,hlen,Ac,r1⟩:=oS h hk;obtain⟨tv,b,t1,t2,t3,t4,e1⟩:=hp.Cp;cases hr:s1.R k with
  |none=>rw[hr]at k1;exact iN
  |some r=>
   rw[hr]at k1;dsimp only at k1;cases hoz:r.own&& !Nat.beq r.sz 0 with
   |false=>rw[hoz]at k1;exact iN
   |true=>
    rw[hoz]at k1;dsimp only at k1;have hown:r.own=true:=(aX _ _▸hoz).1;have hz0:r.sz≠0:=λe=>by rw[e]at hoz;simp at hoz
    obtain⟨y0,j1,j2,j3,j4⟩:=k1.out;obtain⟨t',i1,i2,i3,i4,i5⟩:=l1.rel.mem.row k r hr;rw[l1.tv,t1]at i1;cases i1;have hb:=t4 E;have i5' :=i5.o' hz0 hb;unfold jv at i5';rw[hb]at i5';have hnn:tv.nest=false:=by cases hn:tv.nest with|false=>rfl|true=>rw[(i5.h hz0 hn).1]at hb;cases hb
    obtain⟨q1,q2,q3,cc,e,fz,c1,c2,c3,c4,c5,c6⟩:=i5';split at j4;rename_i d' hd';obtain⟨p1,p2,p3⟩:=yY hd' (hlen.trans hn);have hv1:bM g1.I (a.eval y) d1:=r1 _ hv;have FV:=mX hv1;have hsz:=i4 y0 (gu j3);have hi:i.toNat<r.es.length:=aH j3;have hsp:i.toNat*tv.sz+off+bg P t<=cc.size:=by have h1:i.toNat*r.sz+r.sz<=tv.cap*r.sz:=T5;rw[i2];rw[hsz]at p1;omega
    refine fin e1 (ln (g:=g1) ht (.pure hv1) p3 (hlen.trans hn) c1 c2.1 hsp) ⟨_,g1,j4,l1.ext,(λu z hz=>l1.rel.env u z hz),l1.rel.size,l1.rel.defers,?_⟩;have hlen' :(cells d').length=r.sz:=by rw[p2,aV,hsz]
    have hs' :∀e∈r.es.set i.toNat d',(cells e).length=r.sz:=(by intro z hz;rcases wy hz with hz|rfl;exact i4 z hz;exact hlen');refine l1.rel.mem.setRow (k:=k) (r:={sz:=r.sz,own:=r.own,es:=r.es.set i.toNat d' }) (t:=tv) (Ext.refl g1) rfl ?_ (λ_ _=>rfl) ?_ i2 (by simpa using i3) hs' ?_ ?_ rfl rfl;funext z;by_cases hz:z=k;subst hz;rw[bw,l1.tv];exact t1;rw[aO _ _ _ _ hz];refine(Frame.refl w _).dA b _ (.inr (.inl hb));refine⟨i2,λ_ _=> ?_,λ_ e=>by(rw[hnn]at e;cases e),λe=>absurd e hz0,λe=>absurd e hz0⟩;unfold jv;rw[hb];refine⟨q1,q2,q3,_,e,fz,dt _ _ _ (cI c1),xT,EI,LJ,λ_=>c5 hown,λj z hz=> ?_⟩;have hj:j<r.es.length*r.sz:=by
     have h1:=aH hz;have:∀l:List au,(∀e∈l,(cells e).length=r.sz)->(l.flatMap cells).length=l.length*r.sz:=RZ
     have h2:=this _ hs';rw[h2]at h1;exact gK
    have hsz0:0<r.sz:=(by rcases Bk r.sz with h0|h0;rw[h0]at hj;simp at hj;exact h0);have avt:j<cc.size:=jm hj (eW (CP _ E) c3);have hqj:j / r.sz<r.es.length:=M5 Vz;have hmj:j%r.sz<r.sz:=A' _ hsz0;have hdj:j / r.sz*r.sz+j%r.sz=j:=by rw[Bc];exact Nat.div_add_mod j r.sz
    have hcs:((aI cc.toList (i.toNat*tv.sz+off) (a.eval y).cells.toList).toArray)[j]? =nth (aI cc.toList (i.toNat*tv.sz+off) (a.eval y).cells.toList) j:=uP;rw[hcs,fA];simp only[rJ];by_cases hq:j / r.sz=i.toNat;have hz' :nth (cells d') (j%r.sz)=some z:=(by have:=gZ (r.es.set i.toNat d') r.sz (j / r.sz) (j%r.sz) d' hs' (by rw[aJ,hq];simp[hi]) hmj;rw[hdj]at this;rw[<-this];exact hz);rw[p2,fA]at hz';have hjo:j=i.toNat*r.sz+j%r.sz:=by rw[<-hq];exact hdj.symm
    by_cases hin:off<=j%r.sz∧j%r.sz<off+(cells d1).length∧j%r.sz<(cells y0).length;rw[ak hin]at hz';have hc1:=FV.1;rw[ak (by rw[i2];omega)];have hidx:j - (i.toNat*tv.sz+off)=j%r.sz - off:=by rw[i2];omega
    rw[hidx];have hlt2:j%r.sz - off<(a.eval y).cells.size:=E
    refine⟨(a.eval y).cells[j%r.sz - off],by rw[aJ];simp[hlt2],?_⟩;have hg2:(a.eval y).cells[j%r.sz - off]? =some ((a.eval y).cells[j%r.sz - off]):=kJ hlt2;exact⟨(FV.2 _ _ _ hg2 hz').1,(FV.2 _ _ _ hg2 hz').2,λho=>MD⟩;rw[Z hin]at hz';have hc1:=FV.1;rw[Z (by rw[i2];have:=aH hz';omega)];have hfl:=gZ r.es r.sz i.toNat (j%r.sz) y0 i4 j3 hmj;rw[<-hjo,hz']at hfl;obtain⟨v,v1,v2,v3,_⟩:=c6 j z hfl;exact⟨v,MB,v2,v3,λho=>MD⟩;have hne:¬(i.toNat*tv.sz+off<=j∧j<i.toNat*tv.sz+off+(a.eval y).cells.size∧j<cc.size):=by
     rintro ⟨x1,x2,_⟩
     have hc1:=FV.1;rw[i2]at x1 x2;have x3:j<i.toNat*r.sz+r.sz:=by simp only[hc1]at x2;rw[hsz]at p1;rw[hlen,hn]at x2;omega
     apply hq;refine Nat.div_eq_of_lt_le ?_ ?_;omega;rw[rF];exact x3
    rw[Z hne];have:∃e,nth r.es (j / r.sz)=some e:=bO hqj;obtain⟨e0,he0⟩:=this;have hz2:=gZ (r.es.set i.toNat d') r.sz (j / r.sz) (j%r.sz) e0 hs' (by rw[aJ,uW (gB hq),<-aJ];exact he0) hmj;rw[hdj]at hz2;have hz3:nth ((r.es.set i.toNat d').flatMap cells) j=some z:=hz;rw[hz3]at hz2;have hfl:=gZ r.es r.sz (j / r.sz) (j%r.sz) e0 i4 he0 hmj;rw[hdj,<-hz2]at hfl;obtain⟨v,v1,v2,v3,_⟩:=c6 j z hfl;exact⟨v,MB,v2,v3,λho=>MD⟩;intro b' aul;have hb' :tv.base=some b' :=by rcases aul with h1|⟨_,h1,_⟩;exact h1;rw[hnn]at h1;cases h1
    rw[hb]at hb';cases hb';refine⟨λj u hj hu hub=>hj (l1.rel.mem.k_ j k u tv b hu (by rw[l1.tv];exact t1) hub (.inl hb)),λo v hv=> ?_⟩;rw[c5 hown o]at hv;cases hv;exact j4.elim
 |j8 k m i=>
  dsimp only at hk;obtain⟨tv,b,t1,t2,t3,t4,t5,e1⟩:=hp.PB;split at hk
  rotate_left
  ·split at hk
   rotate_left
   exact aq;rename_i r hr;cases sv:r.own&&Nat.beq r.sz 0 with|false=>exact EA|true=>rw[sv]at hk;dsimp only at hk;obtain⟨y0,j1,j2,j3,j4⟩:=hk.out;split at j4;have hb:tv.base=some b:=t5 ZZ;obtain⟨w',w1,w2⟩:=Xr h hr sv t1 t2 hb hv j3 (K:=K) ht Lx j4;exact fin e1 w1 w2;exact j4.elim
  exact aq;rename_i q n';split at hk
  rotate_left
  exact aq;rename_i r rq hr hq;cases sv:(r.own&&Nat.beq r.sz 0)&&((rq.own&&Nat.beq rq.sz 1)&& !Nat.beq q k)with|false=>exact EA|true=>rw[sv]at hk;dsimp only at hk;obtain⟨y0,j1,j2,j3,j4⟩:=hk.k.out;split at j4;have hb:tv.base=some b:=t5 ZZ;obtain⟨w',w1,w2⟩:=Xq h hr hq sv t1 t2 hb hv hk.h j2 j3 (K:=K) ht Lx j4;exact fin e1 w1 w2;exact j4.elim
 |fT k j i=>
  dsimp only at hk;obtain⟨tv,b,t1,t2,t3,t4,e1⟩:=hp.JX;split at hk
  rotate_left
  exact aq;rename_i q x r hr;cases sv:r.own&&Nat.beq r.sz 0 with|false=>exact EA|true=>rw[sv]at hk;dsimp only at hk;obtain⟨xs,j1,j2⟩:=hk.out;obtain⟨w',w1,w2⟩:=O7 h hr sv t1 t2 t4 hv j1 j2.h (K:=K) ht Lx j2.k;exact fin e1 w1 w2
 |_=>exact aq
end
end Abs
