/- the machine: values, runs, what stands for what. Part of the proof of girandolelaw12.SplitHanded. -/
import GoSem.Step
import GoSem.ClaimSeven
import Derived.Calls
import Derived.Below
import Derived.Laws.Cells
import Derived.Laws.CopyRow
import Derived.Orders
import Derived.Laws.Strings
import Derived.Laws.StructEq
import Derived.Laws.BytesString
set_option linter.unusedVariables false
set_option linter.unusedSimpArgs false
namespace Go.Abs
theorem SJ {α:Type _}{a b:α}:(some a=some b)=(a=b):=Option.some.injEq a b
theorem PJ {α:Type _}{β:Type _}{a c:α}{b d:β}:((a,b)=(c,d))=(a=c/\b=d):=Prod.mk.injEq a b c d
theorem tv:True:=True.intro
inductive Lin where
 | lit
 | full
 | live (id gen:Nat)
 | dead
 | frz
 deriving DecidableEq,Repr,Inhabited
inductive AV where
 | bool (b:Bool)
 | int (k:IntKind) (n:Int)
 | str (s:List Nat)
 | nilp
 | ptr (n off:Nat)
 | iptr (xs:List AV)
 | nils
 | sl (sz:Nat) (es:List AV) (lin:Lin)
 | rsl (n off len cap sz:Nat)
 | nilmap
 | map (n:Nat)
 | func (fn:Fn) (first captured:List AV)
 | nilfunc
 | iface (t:TypeId) (v:AV)
 | nilif
 | agg (cs:List AV)
 | tuple (vs:List AV)
 | top
 deriving Inhabited,Repr
abbrev undef:AV:=.tuple []
inductive AObj where
 | cells (cs:List AV)
 | map (es:List (AV×AV))
 | lin (gen:Nat)
 | gone
 deriving Inhabited,Repr
abbrev Heap:=List AObj
def AV.cells:AV->List AV
 | .agg cs=>cs
 | v=>[v]
def AV.one:AV->Bool
 | .agg _ | .tuple _ | .top=>false
 | _=>true
def Lin.low (b:Nat):Lin->Bool
 | .live id _=>decide (id<b)
 | _=>true
mutual
def AV.low (b:Nat):AV->Bool
 | .ptr n _=>decide (n<b)
 | .iptr xs=>aG b xs
 | .sl _ es lin=>aG b es&&lin.low b
 | .rsl n _ _ _ _=>decide (n<b)
 | .map n=>decide (n<b)
 | .func _ f c=>aG b f&&aG b c
 | .iface _ v=>v.low b
 | .agg cs=>aG b cs
 | .tuple vs=>aG b vs
 | _=>true
def aG (b:Nat):List AV->Bool
 | []=>true
 | v::r=>v.low b&&aG b r
end
def gW (b:Nat):List (AV×AV)->Bool
 | []=>true
 | (k,v)::r=>k.low b&&v.low b&&gW b r
def AObj.low (b:Nat):AObj->Bool
 | .cells cs=>aG b cs
 | .map es=>gW b es
 | _=>true
mutual
def AV.same:AV->AV->Bool
 | .bool a,.bool b=>a == b
 | .int j a,.int k b=>decide (j=k)&&decide (a=b)
 | .str a,.str b=>decide (a=b)
 | .nilp,.nilp=>true
 | .ptr a b,.ptr c d=>decide (a=c)&&decide (b=d)
 | .iptr a,.iptr b=>sameL a b
 | .nils,.nils=>true
 | .sl a b c,.sl a' b' c'=>decide (a=a')&&sameL b b'&&decide (c=c')
 | .rsl a b c d e,.rsl a' b' c' d' e'=>decide (a=a')&&decide (b=b')&&decide (c=c')&&decide (d=d')&&decide (e=e')
 | .nilmap,.nilmap=>true
 | .map a,.map b=>decide (a=b)
 | .func a b c,.func a' b' c'=>decide (a=a')&&sameL b b'&&sameL c c'
 | .nilfunc,.nilfunc=>true
 | .iface a b,.iface a' b'=>decide (a=a')&&b.same b'
 | .nilif,.nilif=>true
 | .agg a,.agg b=>sameL a b
 | .tuple a,.tuple b=>sameL a b
 | .top,.top=>true
 | _,_=>false
def sameL:List AV->List AV->Bool
 | [],[]=>true
 | a::r,b::s=>a.same b&&sameL r s
 | _,_=>false
end
mutual
def ofConst:Value->Option AV
 | .bool b=>some (.bool b)
 | .int k n=>some (.int k n)
 | .string s=>some (.str (s.data.toList.map (·.toNat)))
 | .pointer none=>some .nilp
 | .slice none 0 0=>some .nils
 | .map none=>some .nilmap
 | .nilFunc=>some .nilfunc
 | .nilIface=>some .nilif
 | .agg cs=>match ofConstA cs with
   | some l=>some (.agg l)
   | none=>none
 | .tuple cs=>match ofConstA cs with
   | some l=>some (.tuple l)
   | none=>none
 | _=>none
def ofConstA:Array Value->Option (List AV)
 | ⟨l⟩=>ofConstL l
def ofConstL:List Value->Option (List AV)
 | []=>some []
 | v::r=>match ofConst v,ofConstL r with
   | some a,some l=>some (a::l)
   | _,_=>none
end
def bQ (sz:Nat):Nat->List AV->List AV
 | 0,_=>[]
 | n+1,cs=>(if sz=1 then cs.headD undef else .agg (cs.take sz))::bQ sz n (cs.drop sz)
mutual
def AV.settle (b:Nat)(h:Heap):AV->AV
 | .sl sz es lin=>.sl sz (bH b h es) (if lin.low b then lin else .dead)
 | .rsl n off len cap sz=>if n<b then .rsl n off len cap sz else
   match h[n]? with
   | some (.cells cs)=>if 0<sz/\off+len*sz<=cs.length/\cs.all AV.one=true then .sl sz (bQ sz len (cs.drop off)) .dead else .rsl n off len cap sz
   | _=>.rsl n off len cap sz
 | .agg cs=>.agg (bH b h cs)
 | .tuple vs=>.tuple (bH b h vs)
 | v=>v
def bH (b:Nat)(h:Heap):List AV->List AV
 | []=>[]
 | v::r=>v.settle b h::bH b h r
end
def ak (es:List AV):List AV:=es.flatMap AV.cells
def a9 (cs:List AV)(off:Nat)(vs:List AV):List AV:=cs.take off++vs++cs.drop (off+vs.length)
structure Cfg where
 P:Program
 glob:Nat->Option (List AV)
 mutT:FuncId->TypeId->Bool
 keep:FuncId->Bool
 catcher:FuncId->Option TypeId
 mask:FuncId->Nat->Option (List Bool)
 fine:FuncId->Bool
structure St where
 heap:Heap
 esc:Nat
 deriving Inhabited
def aggD:TypeDesc->Bool
 | .struct _ | .array _ _=>true
 | _=>false
section ops
variable (C:Cfg)
def cM (tmps:List AV):Operand->Option AV
 | .tmp t=>some (tmps.getD t undef)
 | .const v=>ofConst v
 | .global i=>match C.glob i with
   | some xs=>some (.iptr xs)
   | none=>none
 | .func f=>some (.func (.func f) [] [])
def eV (tmps:List AV):List Operand->Option (List AV)
 | []=>some []
 | o::r=>match cM C tmps o,eV tmps r with
   | some a,some l=>some (a::l)
   | _,_=>none
def dO (tmps:List AV):List (Nat×Operand)->Option (List (Nat×AV))
 | []=>some []
 | (i,o)::r=>match cM C tmps o,dO tmps r with
   | some a,some l=>some ((i,a)::l)
   | _,_=>none
def iy (tmps:List AV):Option Operand->Option (Option AV)
 | none=>some none
 | some o=>match cM C tmps o with
   | some a=>some (some a)
   | none=>none
def cU (t:TypeId):Option Nat:=match C.P.info? t with
 | some i=>some i.size
 | none=>none
def cj (t:TypeId):Option AV:=match C.P.info? t with
 | some i=>match i.zero with
   | some z=>match ofConst z with
     | some a=>if a.cells.all AV.one=true/\a.low 0=true then some a else none
     | none=>none
   | none=>none
 | none=>none
def eo (t:TypeId)(cs:List AV)(off:Nat):Option AV :=
 match C.P.underlying t with
 | none=>none
 | some d =>
   if aggD d then
    match cU C t with
    | some n=>if off+n<=cs.length then some (.agg ((cs.drop off).take n)) else none
    | none=>none
   else cs[off]?
def fV (t:TypeId)(a:AV)(h:Heap):Option AV :=
 match a with
 | .ptr n off=>match h[n]? with
   | some (.cells cs)=>eo C t cs off
   | _=>none
 | .iptr xs=>eo C t xs 0
 | _=>none
def dl (v:AV)(r:Nat)(s:St):Nat:=if v.low (r+1) then s.esc else min s.esc r
def cB (t:TypeId)(a v:AV)(s:St):Option St :=
 match cU C t,a with
 | some n,.ptr r off=>match s.heap[r]? with
   | some (.cells cs) =>
     if v.cells.length=n/\off+n<=cs.length/\v.cells.all AV.one=true/\v.low s.heap.length=true then
      some { heap:=s.heap.set r (.cells (a9 cs off v.cells)),esc:=dl v r s }
     else none
   | _=>none
 | _,_=>none
def hY (place:Nat->Option (Nat×Nat))(cells:List AV):List (Nat×AV)->Option (List AV)
 | []=>some cells
 | (i,v)::rest=>match place i with
   | none=>none
   | some (off,size) =>
     if v.cells.length=size/\off+v.cells.length<=cells.length/\v.cells.all AV.one=true
     then hY place (a9 cells off v.cells) rest
     else none
def placesAV:List Field->Option (List (Nat×Nat))
 | []=>some []
 | f::r=>match cU C f.type,placesAV r with
   | some n,some l=>some ((f.offset,n)::l)
   | _,_=>none
def ao (t:TypeId)(parts:List (Nat×AV)):Option AV :=
 match cj C t,C.P.underlying t with
 | some z,some (.struct fields)=>match placesAV C fields.toList with
   | some pl=>match hY (pl[·]?) z.cells parts with
     | some cs=>some (.agg cs)
     | none=>none
   | none=>none
 | some z,some (.array _ elem)=>match cU C elem with
   | some n=>match hY (λi=>some (i*n,n)) z.cells parts with
     | some cs=>some (.agg cs)
     | none=>none
   | none=>none
 | _,_=>none
def eN (sz:Nat)(es:List AV):List (Nat×AV)->Option (List AV)
 | []=>some es
 | (i,v)::r =>
   if v.cells.length=sz/\i<es.length/\v.cells.all AV.one=true then eN sz (es.set i v) r else none
def bK (t:TypeId):Option TypeId:=match C.P.underlying t with
 | some (.slice e)=>some e
 | _=>none
def fZ (t:TypeId)(len:Nat)(parts:List (Nat×AV)):Option (Nat×List AV) :=
 match bK C t with
 | none=>none
 | some e=>match cU C e,cj C e with
   | some sz,some z =>
     if 0<sz/\len*sz<=2 ^ 24/\z.cells.length=sz then
      match eN sz (List.replicate len z) parts with
      | some es=>some (sz,es)
      | none=>none
     else none
   | _,_=>none
def cC (v:AV):Option Nat:=match v with
 | .int _ n=>if 0<=n then some n.toNat else none
 | _=>none
def eJ (t:TypeId)(x ix:AV):Option AV :=
 match cC ix,C.P.underlying t,x with
 | some i,some (.slice e),.sl sz es _=>match es[i]? with
   | some v=>match cU C e with
     | some n=>if n=sz then some (.iptr v.cells) else none
     | none=>none
   | none=>none
 | some i,some (.slice e),.rsl n off len _ sz=>match cU C e with
   | some m=>if i<len/\m=sz then some (.ptr n (off+i*sz)) else none
   | none=>none
 | some i,some (.array len e),.ptr n off=>match cU C e with
   | some sz=>if i<len then some (.ptr n (off+i*sz)) else none
   | none=>none
 | some i,some (.array len e),.iptr xs=>match cU C e with
   | some sz=>if i<len/\i*sz<=xs.length then some (.iptr (xs.drop (i*sz))) else none
   | none=>none
 | _,_,_=>none
def cL (t:TypeId)(x ix:AV):Option AV :=
 match cC ix,C.P.underlying t,x with
 | some i,some .string,.str s=>match s[i]? with
   | some b=>some (.int .u8 b)
   | none=>none
 | some i,some (.array len e),.agg cs=>match cU C e with
   | some sz=>if i<len then eo C e cs (i*sz) else none
   | none=>none
 | _,_,_=>none
def jg (t:TypeId)(f:Nat):Option Field:=match C.P.underlying t with
 | some (.struct fs)=>fs[f]?
 | _=>none
def fJ (t:TypeId)(x:AV)(f:Nat):Option AV :=
 match jg C t f with
 | none=>none
 | some fd=>match cU C fd.type with
   | none=>none
   | some sz =>
     if sz=0 then none else
     match x with
     | .ptr n off=>some (.ptr n (off+fd.offset))
     | .iptr xs=>if fd.offset<=xs.length then some (.iptr (xs.drop fd.offset)) else none
     | _=>none
def mG (t:TypeId)(x:AV)(f:Nat):Option AV :=
 match jg C t f,x with
 | some fd,.agg cs=>eo C fd.type cs fd.offset
 | _,_=>none
def cK (d:Nat):Option AV->Option Nat
 | none=>some d
 | some v=>cC v
def bt (t:TypeId)(x:AV)(lo hi mx:Option AV):Option AV :=
 match cK 0 lo,C.P.underlying t,x with
 | some l,some .string,.str s=>match cK s.length hi with
   | some h=>if mx.isNone=true/\l<=h/\h<=s.length then some (.str ((s.take h).drop l)) else none
   | none=>none
 | some l,some (.slice e),.nils=>match cK 0 hi,cU C e with
   | some h,some _=>if l=0/\h=0 then (match mx with
     | none=>some .nils
     | some mv=>match cC mv with
       | some j=>if j=0/\hi.isSome=true then some .nils else none
       | none=>none) else none
   | _,_=>none
 | some l,some (.slice e),.sl sz es lin=>match cK es.length hi,cU C e with
   | some h,some n =>
     if l<=h/\h<=es.length/\n=sz then
      match mx with
      | none=>some (.sl sz ((es.take h).drop l) (if h=es.length then (if l=0 then lin else if lin=.lit then .full else lin) else if lin=.frz then .frz else .dead))
      | some mv=>match cC mv with
        | some m=>if m=h/\lin ≠ .frz/\hi.isSome=true then some (.sl sz ((es.take h).drop l) .full) else none
        | none=>none
     else none
   | _,_=>none
 | some l,some (.slice e),.rsl n off len cap sz=>match cK len hi,cU C e with
   | some h,some m=>if mx.isNone=true/\l<=h/\h<=len/\l<cap/\m=sz then some (.rsl n (off+l*sz) (h-l) (cap-l) sz) else none
   | _,_=>none
 | _,_,_=>none
def keyEq:AV->AV->Bool
 | .int j a,.int k b=>decide (j=k)&&decide (a=b)
 | .str a,.str b=>decide (a=b)
 | .bool a,.bool b=>a == b
 | _,_=>false
def cD (k:AV):List (AV×AV)->Nat->Option (Nat×AV)
 | [],_=>none
 | (a,v)::r,i=>if keyEq k a then some (i,v) else cD k r (i+1)
def fh (t:TypeId)(k:AV):Option TypeId:=match C.P.underlying t with
 | some (.map kt e)=>match C.P.underlying kt,k with
   | some (.int j),.int j' _=>if j=j' then some e else none
   | some .string,.str _=>some e
   | some .bool,.bool _=>some e
   | _,_=>none
 | _=>none
def fj (k:AV):List (AV×AV)->Bool
 | []=>true
 | (a,_)::r=>(match k,a with
   | .int j _,.int j' _=>decide (j=j')
   | .str _,.str _=>true
   | .bool _,.bool _=>true
   | _,_=>false)&&fj k r
def d6 (m:AV)(h:Heap):Option (List (AV×AV)):=match m with
 | .nilmap=>some []
 | .map n=>match h[n]? with
   | some (.map es)=>some es
   | _=>none
 | _=>none
def aV (t:TypeId)(x k:AV)(ok:Bool)(h:Heap):Option AV :=
 match fh C t k,d6 x h with
 | some e,some es =>
   if fj k es then
    match cD k es 0 with
    | some (_,v)=>some (if ok then .tuple [v,.bool true] else v)
    | none=>match cj C e with
      | some z=>some (if ok then .tuple [z,.bool false] else z)
      | none=>none
   else none
 | _,_=>none
def bf (t:TypeId)(m k v:AV)(s:St):Option St:=match fh C t k,m with
 | some _,.map n=>match s.heap[n]? with
   | some (.map es) =>
     if fj k es=true/\v.low s.heap.length=true then
      match cD k es 0 with
      | some (i,_)=>some { heap:=s.heap.set n (.map (es.set i (k,v))),esc:=dl v n s }
      | none=>some { heap:=s.heap.set n (.map (es++[(k,v)])),esc:=dl v n s }
     else none
   | _=>none
 | _,_=>none
def cQ (t:TypeId)(m k:AV)(s:St):Option (AV×St):=match fh C t k,m with
 | some e,.map n=>match s.heap[n]? with
   | some (.map es) =>
     if fj k es then
      match cD k es 0 with
      | some (i,v)=>some (.tuple [v,.int .i64 i],s)
      | none=>match cj C e with
        | some z=>some (.tuple [z,.int .i64 es.length],{ s with heap:=s.heap.set n (.map (es++[(k,z)])) })
        | none=>none
     else none
   | _=>none
 | _,_=>none
def ce (m st v:AV)(s:St):Option St:=match cC st,m with
 | some i,.map n=>match s.heap[n]? with
   | some (.map es)=>match es[i]? with
     | some (k,_)=>if v.low s.heap.length then some { heap:=s.heap.set n (.map (es.set i (k,v))),esc:=dl v n s } else none
     | none=>none
   | _=>none
 | _,_=>none
def fC (d:TypeDesc)(x y:AV):Option Bool :=
 match d,x,y with
 | .bool,.bool a,.bool b=>some (a == b)
 | .int _,.int j a,.int k b=>if j=k then some (decide (a=b)) else none
 | .string,.str a,.str b=>some (decide (a=b))
 | .pointer _,.nilp,.nilp=>some true
 | .pointer _,.nilp,.ptr _ _ | .pointer _,.ptr _ _,.nilp | .pointer _,.nilp,.iptr _ | .pointer _,.iptr _,.nilp=>some false
 | .interface _,.nilif,.nilif=>some true
 | .interface _,.nilif,.iface _ _ | .interface _,.iface _ _,.nilif=>some false
 | .slice _,.nils,.nils=>some true
 | .slice _,.nils,.sl _ _ _ | .slice _,.sl _ _ _,.nils | .slice _,.nils,.rsl .. | .slice _,.rsl ..,.nils=>some false
 | .map _ _,.nilmap,.nilmap=>some true
 | .map _ _,.nilmap,.map _ | .map _ _,.map _,.nilmap=>some false
 | .func _ _ _,.nilfunc,.nilfunc=>some true
 | .func _ _ _,.nilfunc,.func .. | .func _ _ _,.func ..,.nilfunc=>some false
 | _,_,_=>none
def eC (eq:TypeId->AV->AV->Option Bool)(xs ys:List AV):List Field->Option Bool
 | []=>some true
 | f :: r => if f.name = "_" then eC eq xs ys r else
   match eo C f.type xs f.offset,eo C f.type ys f.offset with
   | some a,some b=>match eq f.type a b with
     | some true=>eC eq xs ys r
     | some false=>some false
     | none=>none
   | _,_=>none
def eqAV:Nat->TypeId->AV->AV->Option Bool
 | 0,_,_,_=>none
 | d+1,t,x,y=>match C.P.underlying t,x,y with
   | some (.struct fields),.agg xs,.agg ys=>if C.P.stoodInHeld t then none else eC C (eqAV d) xs ys fields.toList
   | some d,x,y=>fC d x y
   | none,_,_=>none
def bytesLess:List Nat->List Nat->Bool
 | _,[]=>false
 | [],_::_=>true
 | a::x,b::y=>decide (a<b)||(decide (a=b)&&bytesLess x y)
def fH (op:BinOp)(k:IntKind)(a b:Int):Option AV :=
 match op with
 | .add=>some (.int k (k.wrap (a+b)))
 | .sub=>some (.int k (k.wrap (a-b)))
 | .mul=>some (.int k (k.wrap (a*b)))
 | .quo=>if b=0 then none else some (.int k (k.wrap (a.tdiv b)))
 | .rem=>if b=0 then none else some (.int k (a.tmod b))
 | .and=>some (.int k (k.wrap (BitVec.ofInt k.bits a &&& BitVec.ofInt k.bits b).toNat))
 | .or=>some (.int k (k.wrap (BitVec.ofInt k.bits a ||| BitVec.ofInt k.bits b).toNat))
 | .xor=>some (.int k (k.wrap (BitVec.ofInt k.bits a ^^^ BitVec.ofInt k.bits b).toNat))
 | .andNot=>some (.int k (k.wrap (BitVec.ofInt k.bits a &&& ~~~ BitVec.ofInt k.bits b).toNat))
 | .eql=>some (.bool (decide (a=b)))
 | .neq=>some (.bool (!decide (a=b)))
 | .lss=>some (.bool (decide (a<b)))
 | .leq=>some (.bool (decide (a<=b)))
 | .gtr=>some (.bool (decide (a > b)))
 | .geq=>some (.bool (decide (a >= b)))
 | _=>none
def kz (op:BinOp)(a b:List Nat):Option AV :=
 match op with
 | .add=>if a.length+b.length<2 ^ 62 then some (.str (a++b)) else none
 | .eql=>some (.bool (decide (a=b)))
 | .neq=>some (.bool (!decide (a=b)))
 | .lss=>some (.bool (bytesLess a b))
 | .leq=>some (.bool (bytesLess a b||decide (a=b)))
 | .gtr=>some (.bool (!(bytesLess a b||decide (a=b))))
 | .geq=>some (.bool (!bytesLess a b))
 | _=>none
def eqDepth:Nat:=12
def bF (op:BinOp)(t:TypeId)(x y:AV):Option AV :=
 match op,x,y with
 | .shl,.int k a,.int _ b=>if b<0 then none else some (.int k (k.wrap (a*2 ^ (min b.toNat k.bits))))
 | .shr,.int k a,.int _ b=>if b<0 then none else some (.int k (a.fdiv (2 ^ (min b.toNat k.bits))))
 | op,.int k a,.int k' b=>if k=k' then fH op k a b else none
 | op,.str a,.str b=>kz op a b
 | .eql,x,y=>match eqAV C eqDepth t x y with
   | some b=>some (.bool b)
   | none=>none
 | .neq,x,y=>match eqAV C eqDepth t x y with
   | some b=>some (.bool (!b))
   | none=>none
 | _,_,_=>none
def isConst:Operand->Bool
 | .const _=>true
 | _=>false
def bI (op:BinOp)(t:TypeId)(x y:Operand)(a b:AV):Bool :=
 match op with
 | .eql | .neq=>match a,b with
   | .nilif,.nilif=>isConst x||isConst y
   | .agg _,.agg _=>!C.P.eqGuardType C.P.depth t
   | _,_=>true
 | _=>true
def bM (op:UnOp)(x:AV):Option AV :=
 match op,x with
 | .neg,.int k n=>some (.int k (k.wrap (0-n)))
 | .xor,.int k n=>some (.int k (k.wrap (BitVec.ofInt k.bits (if k.signed then -1 else k.max) ^^^ BitVec.ofInt k.bits n).toNat))
 | .not,.bool b=>some (.bool !b)
 | _,_=>none
def bytesAV:List AV->Option (List Nat)
 | []=>some []
 | .int .u8 n::r=>if 0<=n/\n<256 then (match bytesAV r with
   | some l=>some (n.toNat::l)
   | none=>none) else none
 | _=>none
def Bo (e:TypeId):Bool:=match C.P.underlying e with
 | some (.int .u8)=>true
 | _=>false
def bp (src dst:TypeId)(x:AV):Option AV :=
 match C.P.underlying src,C.P.underlying dst,x with
 | some _,some (.int k),.int _ n=>some (.int k (k.wrap n))
 | some _,some .string,.str s=>some (.str s)
 | some _,some (.slice e),.str s =>
   if Bo C e=true/\s.length<=2 ^ 40 then some (.sl 1 (s.map λ(b:Nat)=>.int .u8 b) .frz) else none
 | some (.slice e),some .string,.nils=>if Bo C e then some (.str []) else none
 | some (.slice e),some .string,.sl sz es _=>if Bo C e=true/\sz=1 then (match bytesAV es with
   | some l=>some (.str l)
   | none=>none) else none
 | _,_,_=>none
def dh (t:TypeId)(x:AV):Option AV :=
 match C.P.underlying t,x with
 | some .string,.str s=>some (.int .i64 s.length)
 | some (.array n _),.ptr _ _|some (.array n _),.iptr _|some (.array n _),.agg _=>some (.int .i64 n)
 | some (.slice _),.nils=>some (.int .i64 0)
 | some (.slice _),.sl _ es _=>some (.int .i64 es.length)
 | some (.slice _),.rsl _ _ len _ _=>some (.int .i64 len)
 | _,_=>none
def dk (mx:Bool):AV->List AV->Option AV
 | x,[]=>some x
 | .int k a,.int _ b::r=>dk mx (.int k (if mx then (if b > a then b else a) else (if b<a then b else a))) r
 | _,_=>none
def bE (f:FuncId)(tmps:List AV)(o:Oper):Option AV :=
 match o.op with
 | .move x | .assign x=>cM C tmps x
 | .pick c a b=>match cM C tmps c with
   | some (.bool true)=>cM C tmps a
   | some (.bool false)=>cM C tmps b
   | _=>none
 | .build t ps=>match dO C tmps ps.toList with
   | some l=>ao C t l
   | none=>none
 | .buildSlice t n ps =>
   if C.mutT f t then none else
   match dO C tmps ps.toList with
   | some l=>match fZ C t n l with
     | some (sz,es)=>some (.sl sz es .lit)
     | none=>none
   | none=>none
 | .nilCheck x=>match cM C tmps x with
   | some (.ptr n off)=>some (.ptr n off)
   | some (.iptr xs)=>some (.iptr xs)
   | _=>none
 | .binOp op t x y _=>match cM C tmps x,cM C tmps y with
   | some a,some b=>if bI C op t x y a b then bF C op t a b else none
   | _,_=>none
 | .unOp op _ x=>match cM C tmps x with
   | some a=>bM op a
   | none=>none
 | .convert a b x=>match cM C tmps x with
   | some v=>bp C a b v
   | none=>none
 | .makeInterface t x=>match C.P.underlying t,cM C tmps x with
   | some (.interface _),_=>none
   | some _,some a=>some (.iface t a)
   | _,_=>none
 | .makeFunc fn first capt=>match eV C tmps first.toList,eV C tmps capt.toList with
   | some l,some m=>some (.func fn l m)
   | _,_=>none
 | .slice t x l h m=>match cM C tmps x,iy C tmps l,iy C tmps h,iy C tmps m with
   | some a,some l,some h,some m=>bt C t a l h m
   | _,_,_,_=>none
 | .fieldAddr t x i=>match cM C tmps x with
   | some a=>fJ C t a i
   | none=>none
 | .field t x i=>match cM C tmps x with
   | some a=>mG C t a i
   | none=>none
 | .indexAddr t x i=>match cM C tmps x,cM C tmps i with
   | some a,some b=>eJ C t a b
   | _,_=>none
 | .index t x i=>match cM C tmps x,cM C tmps i with
   | some a,some b=>cL C t a b
   | _,_=>none
 | .typeAssert x _ t ok=>match C.P.underlying t,cM C tmps x with
   | some (.interface _),_=>none
   | some _,some (.iface t' a) =>
     if t'=t then some (if ok then .tuple [a,.bool true] else a)
     else if ok then (match cj C t with
      | some z=>some (.tuple [z,.bool false])
      | none=>none) else none
   | some _,some .nilif=>if ok then (match cj C t with
    | some z=>some (.tuple [z,.bool false])
    | none=>none) else none
   | _,_=>none
 | .extract x i=>match cM C tmps x with
   | some (.tuple l)=>l[i]?
   | _=>none
 | .call c=>match c.callee,eV C tmps c.args.toList with
   | .builtin .len,some [x]=>(match c.argTypes[0]? with
     | some t=>dh C t x
     | none=>none)
   | .builtin .min,some (x::r)=>dk false x r
   | .builtin .max,some (x::r)=>dk true x r
   | _,_=>none
 | _=>none
def dg (tmps:List AV)(o:Oper)(h:Heap):Option AV :=
 match o.op with
 | .load t a=>match cM C tmps a with
   | some p=>fV C t p h
   | none=>none
 | .lookup t x i ok=>match cM C tmps x,cM C tmps i with
   | some m,some k=>aV C t m k ok h
   | _,_=>none
 | _=>none
def bS (f:FuncId)(tmps:List AV)(o:Oper)(L:Nat):Option (AObj×(Nat->AV)) :=
 match o.op with
 | .alloc t=>match cj C t with
   | some z=>some (.cells z.cells,(.ptr · 0))
   | none=>none
 | .box _ x=>match cM C tmps x with
   | some a=>if a.cells.all AV.one=true/\a.low L=true then some (.cells a.cells,(.ptr · 0)) else none
   | none=>none
 | .makeMap t r=>match C.P.underlying t,iy C tmps r with
   | some (.map _ _),some none=>some (.map [],.map)
   | some (.map _ _),some (some (.int _ _))=>some (.map [],.map)
   | _,_=>none
 | .makeSlice t l c=>match bK C t,cM C tmps l,cM C tmps c with
   | some e,some lv,some cv=>match C.P.info? e,cj C e,cC lv,cC cv with
     | some i,some z,some l,some c =>
       if 0<i.size/\l<=c/\i.bytes*c<=2 ^ 40/\c<=2 ^ 40/\z.cells.length=i.size then
        some (.cells (ak (List.replicate c z)),λn=>.rsl n 0 l c i.size)
       else none
     | _,_,_,_=>none
   | _,_,_=>none
 | .buildSlice t n ps =>
   if C.mutT f t then
    match dO C tmps ps.toList with
    | some l=>match fZ C t n l with
      | some (sz,es)=>if aG L es then some (.cells (ak es),λr=>.rsl r 0 n n sz) else none
      | none=>none
    | none=>none
   else none
 | _=>none
def aY (sz:Nat)(x:AV)(h:Heap):Option (List AV):=match x with
 | .nils=>some []
 | .sl n es _=>if n=sz then some es else none
 | .rsl n off len _ m=>match h[n]? with
   | some (.cells cs)=>if off+len*sz<=cs.length/\m=sz/\cs.all AV.one=true then some (bQ sz len (cs.drop off)) else none
   | _=>none
 | .str s=>if sz=1 then some (s.map λ(b:Nat)=>.int .u8 b) else none
 | _=>none
def bi (sz:Nat)(y:AV):Bool:=decide (y.cells.length=sz)&&y.cells.all AV.one
def jn (t:TypeId):Bool:=match C.P.underlying t with
 | none|some (.int _)=>false
 | _=>true
def aq (f:FuncId)(t:TypeId)(base x:AV)(s:St):Option (AV×St) :=
 match bK C t with
 | none=>none
 | some e=>match C.P.info? e,cj C e with
   | none,_|_,none=>none
   | some i,some z=>match aY i.size base s.heap,aY i.size x s.heap with
     | some xs,some ys =>
       if i.size=0\/i.bytes=0\/z.cells.length≠i.size\/ys.all (bi i.size)=false\/2 ^ 16<i.bytes then none else
       if !decide (xs.length+ys.length<=2 ^ 24) then none else
       if ys.isEmpty then (match base with
        | .nils | .sl _ _ _ | .rsl ..=>some (base,s)
        | _=>none) else
       match base with
       | .nils | .sl _ _ .lit | .sl _ _ .full =>
         if C.mutT f t then
          if aG s.heap.length xs=true/\aG s.heap.length ys=true/\xs.all (bi i.size)=true then
           some (.rsl s.heap.length 0 (xs.length+ys.length) (xs.length+ys.length) i.size,{ s with heap:=s.heap++[.cells (ak (xs++ys))] })
          else none
         else some (.sl i.size (xs++ys) (.live s.heap.length 0),{ s with heap:=s.heap++[.lin 0] })
       | .sl _ _ (.live id g)=>match s.heap[id]? with
         | some (.lin g') =>
           if g=g' then
            some (.sl i.size (xs++ys) (.live id (g+1)),{ s with heap:=s.heap.set id (.lin (g+1)) })
           else none
         | _=>none
       | .rsl n off len _ _ =>
         if off=0/\aG s.heap.length ys=true/\aG s.heap.length xs=true then
          some (.rsl s.heap.length 0 (len+ys.length) (len+ys.length) i.size,{ s with heap:=s.heap.set n .gone++[.cells (ak (xs++ys))] })
         else none
       | _=>none
     | _,_=>none
inductive OR where
 | val (v:AV) (s:St)
 | skip (s:St)
 | call (f:FuncId) (args:List AV)
 | defer (f:FuncId) (args:List AV)
 | panic (v:AV)
def indexByte (c:Nat):List Nat->Nat->Int
 | [],_=>-1
 | b::r,i=>if b=c then i else indexByte c r (i+1)
def dN (f:FuncId)(args:List AV)(s:St):Option OR :=
 match C.P.funcs[f]? with
 | none=>none
 | some fn =>
   if fn.name = "runtime.NumGoroutine" then none else
   if fn.body.isNone then
    if fn.name = "internal/bytealg.IndexByteString" then
     match args with
     | [.str t,.int .u8 c]=>if 0<=c/\c<256 then some (.val (.int .i64 (indexByte c.toNat t 0)) s) else none
     | _=>none
    else none
   else some (.call f args)
def dy (tmps:List AV)(c:Call)(s:St):Option OR :=
 match eV C tmps c.args.toList with
 | none=>none
 | some args=>match c.callee with
   | .value f=>match cM C tmps f with
     | some (.func (.func f) first capt)=>dN C f (first++args++capt) s
     | _=>none
   | .invoke r name=>match cM C tmps r with
     | some (.iface t v)=>match C.P.info? t,C.P.underlying t with
       | some i,some (.pointer _)=>match i.methods.find? (·.name == name) with
         | some m=>match m.path.isEmpty,m.func with
           | true,some (f,true)=>dN C f (v::args) s
           | _,_=>none
         | none=>none
       | _,_=>none
     | _=>none
   | .builtin _=>none
def dB (f:FuncId)(tmps:List AV)(o:Oper)(s:St):Option OR :=
 match o.op with
 | .store t a x=>match cM C tmps a,cM C tmps x with
   | some p,some v=>match cB C t p v s with
     | some s=>some (.skip s)
     | none=>none
   | _,_=>none
 | .mapUpdate t m k x | .insert t m k x=>match cM C tmps m,cM C tmps k,cM C tmps x with
   | some a,some b,some v=>match bf C t a b v s with
     | some s=>some (.skip s)
     | none=>none
   | _,_,_=>none
 | .mapEntry t m k=>match cM C tmps m,cM C tmps k with
   | some a,some b=>match cQ C t a b s with
     | some (v,s)=>some (.val v s)
     | none=>none
   | _,_=>none
 | .entryStore _ m k x=>match cM C tmps m,cM C tmps k,cM C tmps x with
   | some a,some b,some v=>match ce a b v s with
     | some s=>some (.skip s)
     | none=>none
   | _,_,_=>none
 | .panic x=>match cM C tmps x with
   | some (.iface t a)=>some (.panic (.iface t a))
   | _=>none
 | .call c=>match c.callee with
   | .builtin .append=>match eV C tmps c.args.toList with
     | some [x,y]=>(match c.argTypes.toList with
       | [t,tx]=>if jn C tx then (match aq C f t x y s with
         | some (v,s)=>some (.val v s)
         | none=>none) else none
       | _=>none)
     | _=>none
   | .builtin _=>none
   | _=>dy C tmps c s
 | .defer c=>match c.callee,eV C tmps c.args.toList with
   | .value (.func g),some args=>some (.defer g args)
   | _,_=>none
 | _=>none
inductive Kind where
 | pure|read|alloc|eff
 deriving DecidableEq,Repr
def aD (f:FuncId)(o:Oper):Kind:=match o.op with
 | .load .. | .lookup ..=>.read
 | .alloc _ | .box .. | .makeMap .. | .makeSlice ..=>.alloc
 | .buildSlice t _ _=>if C.mutT f t then .alloc else .pure
 | .move _ | .assign _ | .pick .. | .build .. | .nilCheck _ | .binOp .. | .unOp .. | .convert .. | .makeInterface .. | .makeFunc .. | .slice ..
 | .fieldAddr .. | .field .. | .indexAddr .. | .index .. | .typeAssert .. | .extract ..=>.pure
 | .call c=>match c.callee with
   | .builtin .len | .builtin .min | .builtin .max=>.pure
   | _=>.eff
 | _=>.eff
end ops
inductive CRes where
 | ret (v:AV) (h:Heap) (esc:Nat)
 | panic (v:AV) (h:Heap) (esc:Nat)
 deriving Inhabited
inductive AExit where
 | normal
 | exit (id:Nat)
 | ret
 | panic (v:AV)
 deriving Inhabited
structure AAct where
 tmps:List AV
 defers:List (FuncId×List AV)
 deriving Inhabited
abbrev ARes:=Option (AExit×AAct×St)
def cR (tmps:List AV):Option Tmp->AV->List AV
 | some d,v=>tmps.set d v
 | none,_=>tmps
def aI (ops:List Oper)(tmps:List AV)(o:Oper):Option Bool :=
 match o.guard with
 | none=>some true
 | some (j,want)=>match ops[j]? with
   | some g=>match g.dst with
     | some d=>match tmps.getD d undef with
       | .bool b=>some (b == want)
       | .top=>none
       | _=>some false
     | none=>some false
   | none=>some false
def ie (acc:List Nat):List Edge->Nat
 | []=>0
 | e::r=>if Region.binds .any e then ie acc r ||| 2 ^ e.on ||| acc.getD e.on 0 else ie acc r
def befL:List Oper->List Nat->List Nat
 | [],acc=>acc
 | o::r,acc=>befL r (acc++[ie acc o.after.toList])
section run
variable (C:Cfg)
variable (recCall:FuncId->List AV->Heap->Option CRes)
variable (recLoop:FuncId->Nat->Code->AAct->St->ARes)
def bC (f:FuncId)(tmps:List AV)(defers:List (FuncId×List AV))(o:Oper)(s:St):Option (Except (AV×St) (AV×List (FuncId×List AV)×St)) :=
 match aD C f o with
 | .pure=>match bE C f tmps o with
   | some v=>some (.ok (v,defers,s))
   | none=>none
 | .read=>match dg C tmps o s.heap with
   | some v=>some (.ok (v,defers,s))
   | none=>none
 | .alloc=>match bS C f tmps o s.heap.length with
   | some (obj,mk)=>some (.ok (mk s.heap.length,defers,{ s with heap:=s.heap++[obj] }))
   | none=>none
 | .eff=>match dB C f tmps o s with
   | some (.val v s')=>some (.ok (v,defers,s'))
   | some (.skip s')=>some (.ok (undef,defers,s'))
   | some (.panic v)=>some (.error (v,s))
   | some (.defer g args)=>some (.ok (undef,(g,args)::defers,s))
   | some (.call g args)=>match recCall g args s.heap with
     | some (.ret v h esc)=>some (.ok (v,defers,{ heap:=h,esc:=min s.esc esc }))
     | some (.panic v h esc)=>some (.error (v,{ heap:=h,esc:=min s.esc esc }))
     | none=>none
   | none=>none
def gh (f:FuncId)(ops:List Oper):List Oper->AAct->St->ARes
 | [],a,s=>some (.normal,a,s)
 | o::rest,a,s=>match aI ops a.tmps o with
   | none=>none
   | some false=>gh f ops rest { a with tmps:=cR a.tmps o.dst undef } s
   | some true=>match bC C recCall f a.tmps a.defers o s with
     | none=>none
     | some (.error (v,s))=>some (.panic v,a,s)
     | some (.ok (v,ds,s))=>gh f ops rest { tmps:=cR a.tmps o.dst v,defers:=ds } s
structure DS where
 tmps:List AV
 st:St
 slot:Nat
 hist:List (Nat×Heap)
 reads:List (Nat×List AV×AV)
def dS (tmps:List AV)(o:Oper)(v:AV)(h:Heap):Bool :=
 match dg C tmps o h with
 | some w=>w.same v
 | none=>false
def ed (f:FuncId)(ops:List Oper)(bef:List Nat)(i:Nat)(o:Oper)(d:DS):Option (Except (AV×St) DS) :=
 match aI ops d.tmps o with
 | none=>none
 | some false=>some (.ok { d with tmps:=cR d.tmps o.dst undef,slot:=if aD C f o=.alloc then d.slot+1 else d.slot })
 | some true=>match aD C f o with
   | .pure=>match bE C f d.tmps o with
     | some v=>some (.ok { d with tmps:=cR d.tmps o.dst v })
     | none=>none
   | .read=>match dg C d.tmps o d.st.heap with
     | some v =>
       if d.hist.all (λ(e,h)=>(bef.getD i 0).testBit e||dS C d.tmps o v h)
       then some (.ok { d with tmps:=cR d.tmps o.dst v,reads:=(i,d.tmps,v)::d.reads })
       else none
     | none=>none
   | .alloc=>match bS C f d.tmps o d.st.heap.length with
     | some (obj,mk)=>some (.ok { d with tmps:=cR d.tmps o.dst (mk d.slot),st:={ d.st with heap:=d.st.heap.set d.slot obj },slot:=d.slot+1 })
     | none=>none
   | .eff=>match bC C recCall f d.tmps [] o d.st with
     | some (.ok (v,[],s)) =>
       if d.reads.all (λ(j,tm,w)=>(bef.getD i 0).testBit j||(match ops[j]? with
        | some oj=>dS C tm oj w s.heap
        | none=>false))
       then some (.ok { d with tmps:=cR d.tmps o.dst v,st:=s,hist:=(i,d.st.heap)::d.hist })
       else none
     | some (.error (v,s)) =>
       if (List.range ops.length).all (λj=>decide (j<=i)||(bef.getD j 0).testBit i) then some (.error (v,s)) else none
     | _=>none
def kj (f:FuncId)(ops:List Oper)(bef:List Nat):Nat->List Oper->DS->Option (Except (AV×St) DS)
 | _,[],d=>some (.ok d)
 | i,o::rest,d=>match ed C recCall f ops bef i o d with
   | some (.ok d)=>kj f ops bef (i+1) rest d
   | r=>r
def bV (f:FuncId):List Oper->Nat
 | []=>0
 | o::r=>(if aD C f o=.alloc then 1 else 0)+bV f r
def l5 (f:FuncId)(ops:List Oper)(a:AAct)(s:St):ARes :=
 match kj C recCall f ops (befL ops []) 0 ops
  { tmps:=a.tmps,st:={ s with heap:=s.heap++List.replicate (bV C f ops) .gone },slot:=s.heap.length,hist:=[],reads:=[] } with
 | some (.ok d)=>some (.normal,{ a with tmps:=d.tmps },d.st)
 | some (.error (v,s))=>some (.panic v,a,s)
 | none=>none
def clr:List Bool->List AV->List AV
 | false::m,_::l=>.top::clr m l
 | true::m,x::l=>x::clr m l
 | [],l=>l
 | _,[]=>[]
def jZ (f:FuncId)(id:Nat)(a:AAct):AAct:=match C.mask f id with
 | some m=>{ a with tmps:=clr m a.tmps }
 | none=>a
def bm (f:FuncId)(cur:Nat):Code->AAct->St->ARes
 | .skip,a,s=>some (.normal,a,s)
 | .region _ ops draw,a,s=>if draw then l5 C recCall f ops.toList a s else gh C recCall f ops.toList ops.toList a s
 | .seq x y,a,s=>match bm f cur x a s with
   | some (.normal,a,s)=>bm f cur y a s
   | r=>r
 | .cond c x y,a,s=>match cM C a.tmps c with
   | some (.bool true)=>bm f cur x a s
   | some (.bool false)=>bm f cur y a s
   | _=>none
 | .block id b,a,s=>match bm f id b a s with
   | some (.exit id',a,s)=>if id'=id then some (.normal,a,s) else some (.exit id',a,s)
   | r=>r
 | .loop b,a,s=>match bm f cur b (jZ C f cur a) s with
   | some (.normal,a,s)=>recLoop f cur b a s
   | r=>r
 | .exit id,a,s=>some (.exit id,a,s)
 | .label _,a,s=>some (.normal,a,s)
 | .ret,a,s=>some (.ret,a,s)
 | _,_,_=>none
def dm (keep:Bool)(base:Nat)(v:AV)(s:St):AV×Heap×Nat :=
 if s.esc=base then
  let v':=if keep then v else v.settle base s.heap
  if v'.low base then (v',s.heap.take base,base) else (v,s.heap,base)
 else (v,s.heap,s.esc)
def iP (tmps:List AV)(h:Heap):ResultVar->Option AV
 | .tmp t=>some (tmps.getD t undef)
 | .cell a t=>fV C t (tmps.getD a undef) h
def cE (tmps:List AV)(h:Heap):List ResultVar->Option (List AV)
 | []=>some []
 | r::l=>match iP C tmps h r,cE tmps h l with
   | some a,some l=>some (a::l)
   | _,_=>none
def tupleAV:List AV->AV
 | [v]=>v
 | l=>.tuple l
def d7 (f:FuncId)(args:List AV)(h:Heap):Option CRes :=
 match C.P.funcs[f]? with
 | none=>none
 | some fn=>match fn.body,C.fine f with
   | none,_|_,false=>none
   | some c,true =>
     match bm C recCall recLoop f 0 c { tmps:=args++List.replicate (fn.ntmps-args.length) undef,defers:=[] } { heap:=h,esc:=h.length } with
     | some (.normal,a,s)|some (.ret,a,s) =>
       if a.defers.all (λ(g,_)=>(C.catcher g).isSome)=true/\a.defers.length<=1 then
        match cE C a.tmps s.heap fn.results.toList with
        | some l=>match dm (C.keep f) h.length (tupleAV l) s with
          | (v,h,esc)=>some (.ret v h esc)
        | none=>none
       else none
     | some (.panic p,a,s)=>match a.defers with
       | []=>match dm false h.length p s with
         | (v,h,esc)=>some (.panic v h esc)
       | [(g,[q])]=>match C.catcher g,p with
         | some t,.iface t' x=>if t'=t/\fn.results.size=0 then
          match cB C t q x s with
          | some s=>match dm (C.keep f) h.length undef s with
            | (v,h,esc)=>some (.ret v h esc)
          | none=>none
           else none
         | _,_=>none
       | _=>none
     | _=>none
end run
section knot
variable (C:Cfg)
end knot
theorem AV.one_cells {e:AV}(h:e.one=true):e.cells=[e]:=by cases e<;>simp_all [AV.one,AV.cells]
structure Gh where
 rho:Nat->Option (Option Nat)
 lam:Nat->Option Nat
 imm:Nat->Option Nat
 gen:Nat->Nat
abbrev cellAt (w:World)(b i:Nat):Option Value:=w.cell? ⟨b,i,none⟩
section
variable (G:Gh)(w:World)
def ImmTo (b n:Nat):Prop:=∃ u,G.imm b=some u/\n<=u
def cN (b n:Nat):Prop:=∃ c el,w.heap[b]?=some (.cells c el (0,0))/\c.size=n
def LinOk (b off len cap sz:Nat):Lin->Prop
 | .lit=>off=0/\cap=len/\cN w b (len*sz)
 | .full=>cap=len/\∃ n,cN w b n/\off+cap*sz<=n
 | .dead=>∃ n,cN w b n
 | .frz=>True
 | .live id g=>g<=G.gen id/\(∃ b',G.lam id=some b')/\(∃ n,cN w b n) /\
  (g=G.gen id->∃ n,cN w b n/\off+cap*sz<=n/\(cap=len\/G.lam id=some b/\G.imm b=some (off+len*sz)))
mutual
def VR:AV->Value->Prop
 | .bool b,v=>v=.bool b
 | .int k n,v=>v=.int k n
 | .str s,v=>∃ t:ByteArray,v=.string t/\t.data.toList.map (·.toNat)=s
 | .nilp,v=>v=.pointer none
 | .ptr n off,v=>∃ r b,G.rho n=some r/\v=.pointer (some ⟨b,off,none⟩)/\∀ b',r=some b'->b'=b
 | .iptr xs,v=>∃ b off,v=.pointer (some ⟨b,off,none⟩)/\ImmTo G b (off+xs.length)/\VRow b off xs
 | .nils,v=>v=.slice none 0 0
 | .sl sz es lin,v=>∃ b off cap,v=.slice (some ⟨b,off,none⟩) es.length cap/\es.length<=cap/\ImmTo G b (off+es.length*sz) /\
  LinOk G w b off es.length cap sz lin/\VElems b sz off es
 | .rsl n off len cap sz,v=>∃ r b cap',G.rho n=some r/\v=.slice (some ⟨b,off,none⟩) len cap'/\cap<=cap'/\len<=cap /\
  ∀ b',r=some b'->b'=b/\∃ m,cN w b m/\off+cap'*sz<=m
 | .nilmap,v=>v=.map none
 | .map n,v=>∃ r b,G.rho n=some r/\v=.map (some b)/\∀ b',r=some b'->b'=b
 | .func fn f c,v=>∃ f' c' : Array Value,v=.func fn f' c'/\VList f f'.toList/\VList c c'.toList
 | .nilfunc,v=>v=.nilFunc
 | .iface t a,v=>∃ x,v=.iface t x/\VR a x
 | .nilif,v=>v=.nilIface
 | .agg cs,v=>∃ c:Array Value,v=.agg c/\VList cs c.toList
 | .tuple vs,v=>∃ c:Array Value,v=.tuple c/\VList vs c.toList
 | .top,_=>True
def VList:List AV->List Value->Prop
 | [],l=>l=[]
 | a::r,l=>∃ x y,l=x::y/\VR a x/\VList r y
def VRow (b:Nat):Nat->List AV->Prop
 | _,[]=>True
 | off,a::r=>(∃ x,cellAt w b off=some x/\VR a x)/\VRow b (off+1) r
def VElems (b sz:Nat):Nat->List AV->Prop
 | _,[]=>True
 | off,e::r=>e.cells.length=sz/\((e.one=true/\∃ x,cellAt w b off=some x/\VR e x)\/VAgg b off e)/\VElems b sz (off+sz) r
def VAgg (b off:Nat):AV->Prop
 | .agg cs=>VRow b off cs
 | _=>False
end
end
structure Ext (G:Gh)(w:World)(G' : Gh)(w' : World):Prop where
 rho:∀ n r,G.rho n=some r->G'.rho n=some r\/G'.rho n=some none
 lam:∀ id b,G.lam id=some b->(∃ b',G'.lam id=some b')/\G.gen id<=G'.gen id /\
  (G'.gen id=G.gen id->G'.lam id=some b/\∀ u,G.imm b=some u->G'.imm b=some u)
 imm:∀ b u,G.imm b=some u->∃ u',G'.imm b=some u'/\u<=u'
 cells:∀ b u c el fz,G.imm b=some u->w.heap[b]?=some (.cells c el fz) ->
  ∃ c',w'.heap[b]?=some (.cells c' el fz)/\c'.size=c.size/\∀ i,i<u->c'[i]?=c[i]?
 plain:∀ b n,cN w b n->cN w' b n
 foreign:∀ b,b<w.heap.size->G.imm b=none->(∀ n,G.rho n≠some (some b)) ->
  w'.heap[b]?=w.heap[b]?/\G'.imm b=none/\∀ n,G'.rho n≠some (some b)
 size:w.heap.size<=w'.heap.size
 tape:w'.tape=w.tape
 os:w'.os=w.os
 output:w'.output=w.output
theorem Ext.refl (G:Gh)(w:World):Ext G w G w where
 rho n r h:=.inl h
 lam id b h:=⟨⟨b,h⟩,Nat.le_refl _,λ_=>⟨h,λ_ h=>h⟩⟩
 imm b u h:=⟨u,h,Nat.le_refl _⟩
 cells b u c el fz _ h:=⟨c,h,rfl,λ_ _=>rfl⟩
 plain b n h:=h
 foreign b _ h1 h2:=⟨rfl,h1,h2⟩
 size:=Nat.le_refl _
 tape:=rfl
 os:=rfl
 output:=rfl
theorem Ext.trans {G1 G2 G3:Gh}{w1 w2 w3:World}(h:Ext G1 w1 G2 w2)(k:Ext G2 w2 G3 w3):Ext G1 w1 G3 w3 where
 rho n r hr:=by
  rcases h.rho n r hr with h1|h1
  ·exact k.rho n r h1
  ·rcases k.rho n none h1 with h2|h2<;>exact .inr h2
 lam id b hb:=by
  obtain ⟨⟨b',h1⟩,h2,h3⟩:=h.lam id b hb;obtain ⟨⟨b'',k1⟩,k2,k3⟩:=k.lam id b' h1;refine ⟨⟨b'',k1⟩,Nat.le_trans h2 k2,λe=>?_⟩
  obtain ⟨h4,h5⟩:=h3 (by omega)
  rw[h1] at h4;obtain rfl:b'=b:=by simpa using h4
  obtain ⟨k4,k5⟩:=k3 (by omega)
  exact ⟨k4,λu hu=>k5 u (h5 u hu)⟩
 imm b u hu:=by
  obtain ⟨u',h1,h2⟩:=h.imm b u hu;obtain ⟨u'',k1,k2⟩:=k.imm b u' h1;exact ⟨u'',k1,by omega⟩
 cells b u c el fz hu hc:=by
  obtain ⟨c',h1,h2,h3⟩:=h.cells b u c el fz hu hc;obtain ⟨u',h4,h5⟩:=h.imm b u hu;obtain ⟨c'',k1,k2,k3⟩:=k.cells b u' c' el fz h4 h1;exact ⟨c'',k1,by omega,λi hi=>(k3 i (by omega)).trans (h3 i hi)⟩
 plain b n hp:=k.plain b n (h.plain b n hp)
 foreign b hb h1 h2:=by
  obtain ⟨a1,a2,a3⟩:=h.foreign b hb h1 h2;obtain ⟨b1,b2,b3⟩:=k.foreign b (Nat.lt_of_lt_of_le hb h.size) a2 a3;exact ⟨b1.trans a1,b2,b3⟩
 size:=Nat.le_trans h.size k.size
 tape:=k.tape.trans h.tape
 os:=k.os.trans h.os
 output:=k.output.trans h.output
theorem cW {w:World}{b i:Nat}{c:Array Value}{el:TypeId}{fz:Nat×Nat}(h:w.heap[b]?=some (.cells c el fz)) :
 cellAt w b i=c[i]?:=by simp[cellAt,World.cell?,h]
theorem tr {w:World}{b i:Nat}{v:Value}(h:cellAt w b i=some v):∃ c el fz,w.heap[b]?=some (.cells c el fz)/\c[i]?=some v:=by
 unfold cellAt World.cell? at h
 split at h
 ·rename_i c el fz hc;exact ⟨c,el,fz,hc,by simpa using h⟩
 ·cases h
theorem Ext.cellAt {G G' : Gh}{w w' : World}(h:Ext G w G' w'){b u i:Nat}{v:Value}(hu:G.imm b=some u)(hi:i<u)
  (hv:cellAt w b i=some v):cellAt w' b i=some v:=by
 obtain ⟨c,el,fz,hc,hv'⟩:=tr hv;obtain ⟨c',h1,_,h3⟩:=h.cells b u c el fz hu hc;rw[cW h1,h3 i hi,hv']
theorem ImmTo.mono {G G' : Gh}{w w' : World}(h:Ext G w G' w'){b n:Nat}(hi:ImmTo G b n):ImmTo G' b n:=by
 obtain ⟨u,h1,h2⟩:=hi;obtain ⟨u',h3,h4⟩:=h.imm b u h1;exact ⟨u',h3,by omega⟩
theorem LinOk.mono {G G' : Gh}{w w' : World}(h:Ext G w G' w'){b off len cap sz:Nat}{l:Lin}(hl:LinOk G w b off len cap sz l) :
  LinOk G' w' b off len cap sz l:=by
 cases l with
 | lit=>exact ⟨hl.1,hl.2.1,h.plain _ _ hl.2.2⟩
 | full=>obtain ⟨h1,n,h2,h3⟩:=hl;exact ⟨h1,n,h.plain _ _ h2,h3⟩
 | dead=>obtain ⟨n,h2⟩:=hl;exact ⟨n,h.plain _ _ h2⟩
 | frz=>trivial
 | live id g =>
   obtain ⟨h1,⟨b',h2⟩,⟨n,h3⟩,h4⟩:=hl;obtain ⟨k1,k2,k3⟩:=h.lam id b' h2;refine ⟨Nat.le_trans h1 k2,k1,⟨n,h.plain _ _ h3⟩,λe=>?_⟩
   have hg:g=G.gen id:=by omega
   obtain ⟨m,a3,a4,a5⟩:=h4 hg;refine ⟨m,h.plain _ _ a3,a4,?_⟩
   rcases a5 with a5|⟨a1,a2⟩
   ·exact .inl a5
   ·rw[h2] at a1;obtain rfl:b'=b:=by simpa using a1
    obtain ⟨k4,k5⟩:=k3 (by omega)
    exact .inr ⟨k4,k5 _ a2⟩
section
variable {G G' : Gh}{w w' : World}
mutual
theorem VR.mono (h:Ext G w G' w'):(a:AV)->(v:Value)->VR G w a v->VR G' w' a v
 | .bool b,v,hv=>by simpa [VR] using hv
 | .int k n,v,hv=>by simpa [VR] using hv
 | .str s,v,hv=>by simpa [VR] using hv
 | .nilp,v,hv=>by simpa [VR] using hv
 | .ptr n off,v,hv=>by
   simp only[VR] at hv ⊢;obtain ⟨r,b,h1,e,h2⟩:=hv
   rcases h.rho n r h1 with h3|h3
   ·exact ⟨r,b,h3,e,h2⟩
   ·exact ⟨none,b,h3,e,λb e=>by cases e⟩
 | .iptr xs,v,hv=>by
   simp only[VR] at hv ⊢;obtain ⟨b,off,rfl,h1,h2⟩:=hv;obtain ⟨u,h3,h4⟩:=h1;exact ⟨b,off,rfl,ImmTo.mono h ⟨u,h3,h4⟩,VRow.mono h b xs off u h3 h4 h2⟩
 | .nils,v,hv=>by simpa [VR] using hv
 | .sl sz es lin,v,hv=>by
   simp only[VR] at hv ⊢;obtain ⟨b,off,cap,rfl,h0,⟨u,h3,h4⟩,h5,h6⟩:=hv;exact ⟨b,off,cap,rfl,h0,ImmTo.mono h ⟨u,h3,h4⟩,LinOk.mono h h5,VElems.mono h b sz es off u h3 h4 h6⟩
 | .rsl n off len cap sz,v,hv=>by
   simp only[VR] at hv ⊢;obtain ⟨r,b,cap',h1,e,g1,g2,h2⟩:=hv
   rcases h.rho n r h1 with h3|h3
   ·refine ⟨r,b,cap',h3,e,g1,g2,λb' e'=>?_⟩
    obtain ⟨e1,m,e4,e5⟩:=h2 b' e';exact ⟨e1,m,h.plain _ _ e4,e5⟩
   ·exact ⟨none,b,cap',h3,e,g1,g2,λb e=>by cases e⟩
 | .nilmap,v,hv=>by simpa [VR] using hv
 | .map n,v,hv=>by
   simp only[VR] at hv ⊢;obtain ⟨r,b,h1,e,h2⟩:=hv
   rcases h.rho n r h1 with h3|h3
   ·exact ⟨r,b,h3,e,h2⟩
   ·exact ⟨none,b,h3,e,λb e=>by cases e⟩
 | .func fn f c,v,hv=>by
   simp only[VR] at hv ⊢;obtain ⟨f',c',h1,h2,h3⟩:=hv;exact ⟨f',c',h1,VList.mono h f _ h2,VList.mono h c _ h3⟩
 | .nilfunc,v,hv=>by simpa [VR] using hv
 | .iface t a,v,hv=>by
   simp only[VR] at hv ⊢;obtain ⟨x,h1,h2⟩:=hv;exact ⟨x,h1,VR.mono h a x h2⟩
 | .nilif,v,hv=>by simpa [VR] using hv
 | .agg cs,v,hv=>by
   simp only[VR] at hv ⊢;obtain ⟨c,h1,h2⟩:=hv;exact ⟨c,h1,VList.mono h cs _ h2⟩
 | .tuple vs,v,hv=>by
   simp only[VR] at hv ⊢;obtain ⟨c,h1,h2⟩:=hv;exact ⟨c,h1,VList.mono h vs _ h2⟩
 | .top,v,hv=>by simp[VR]
theorem VList.mono (h:Ext G w G' w'):(l:List AV)->(m:List Value)->VList G w l m->VList G' w' l m
 | [],m,hm=>by simpa [VList] using hm
 | a::r,m,hm=>by
   simp only[VList] at hm ⊢;obtain ⟨x,y,h1,h2,h3⟩:=hm;exact ⟨x,y,h1,VR.mono h a x h2,VList.mono h r y h3⟩
theorem VRow.mono (h:Ext G w G' w')(b:Nat):(l:List AV)->(off u:Nat)->G.imm b=some u->off+l.length<=u->VRow G w b off l->VRow G' w' b off l
 | [],off,u,_,_,_=>by simp[VRow]
 | a::r,off,u,hu,hl,hm=>by
   simp only[VRow] at hm ⊢;simp only[List.length_cons] at hl;obtain ⟨⟨x,h1,h2⟩,h3⟩:=hm;exact ⟨⟨x,h.cellAt hu (by omega) h1,VR.mono h a x h2⟩,VRow.mono h b r (off+1) u hu (by omega) h3⟩
theorem VElems.mono (h:Ext G w G' w')(b sz:Nat):(l:List AV)->(off u:Nat)->G.imm b=some u->off+l.length*sz<=u ->
  VElems G w b sz off l->VElems G' w' b sz off l
 | [],off,u,_,_,_=>by simp[VElems]
 | e::r,off,u,hu,hl,hm=>by
   simp only[VElems] at hm ⊢;simp only[List.length_cons,Nat.succ_mul] at hl;obtain ⟨h1,h2,h3⟩:=hm;refine ⟨h1,?_,VElems.mono h b sz r (off+sz) u hu (by omega) h3⟩
   rcases h2 with ⟨ho,x,h4,h5⟩|h2
   ·have:0<sz:=by rw[<-h1,AV.one_cells ho];simp
    exact .inl ⟨ho,x,h.cellAt hu (by omega) h4,VR.mono h e x h5⟩
   ·exact .inr (VAgg.mono h b e off u hu (by omega) h2)
theorem VAgg.mono (h:Ext G w G' w')(b:Nat):(e:AV)->(off u:Nat)->G.imm b=some u->off+e.cells.length<=u->VAgg G w b off e->VAgg G' w' b off e
 | .agg cs,off,u,hu,hl,hm=>by
   simp only[VAgg] at hm ⊢;exact VRow.mono h b cs off u hu (by simpa [AV.cells] using hl) hm
 | .bool _,_,_,_,_,hm=>by simp[VAgg] at hm
 | .int _ _,_,_,_,_,hm=>by simp[VAgg] at hm
 | .str _,_,_,_,_,hm=>by simp[VAgg] at hm
 | .nilp,_,_,_,_,hm=>by simp[VAgg] at hm
 | .ptr _ _,_,_,_,_,hm=>by simp[VAgg] at hm
 | .iptr _,_,_,_,_,hm=>by simp[VAgg] at hm
 | .nils,_,_,_,_,hm=>by simp[VAgg] at hm
 | .sl _ _ _,_,_,_,_,hm=>by simp[VAgg] at hm
 | .rsl _ _ _ _ _,_,_,_,_,hm=>by simp[VAgg] at hm
 | .nilmap,_,_,_,_,hm=>by simp[VAgg] at hm
 | .map _,_,_,_,_,hm=>by simp[VAgg] at hm
 | .func _ _ _,_,_,_,_,hm=>by simp[VAgg] at hm
 | .nilfunc,_,_,_,_,hm=>by simp[VAgg] at hm
 | .iface _ _,_,_,_,_,hm=>by simp[VAgg] at hm
 | .nilif,_,_,_,_,hm=>by simp[VAgg] at hm
 | .tuple _,_,_,_,_,hm=>by simp[VAgg] at hm
 | .top,_,_,_,_,hm=>by simp[VAgg] at hm
end
end
theorem Lin.low_mono {b b' : Nat}(h:b<=b'):(l:Lin)->l.low b=true->l.low b'=true
 | .live id g,hl=>by simp[Lin.low] at hl ⊢;omega
 | .lit,_=>rfl
 | .full,_=>rfl
 | .dead,_=>rfl
 | .frz,_=>rfl
mutual
theorem AV.low_mono {b b' : Nat}(h:b<=b'):(a:AV)->a.low b=true->a.low b'=true
 | .ptr n _,hl=>by simp[AV.low] at hl ⊢;omega
 | .iptr xs,hl=>by simp[AV.low] at hl ⊢;exact bO h xs hl
 | .sl sz es lin,hl=>by simp[AV.low] at hl ⊢;exact ⟨bO h es hl.1,Lin.low_mono h lin hl.2⟩
 | .rsl n _ _ _ _,hl=>by simp[AV.low] at hl ⊢;omega
 | .map n,hl=>by simp[AV.low] at hl ⊢;omega
 | .func _ f c,hl=>by simp[AV.low] at hl ⊢;exact ⟨bO h f hl.1,bO h c hl.2⟩
 | .iface _ v,hl=>by simp[AV.low] at hl ⊢;exact AV.low_mono h v hl
 | .agg cs,hl=>by simp[AV.low] at hl ⊢;exact bO h cs hl
 | .tuple vs,hl=>by simp[AV.low] at hl ⊢;exact bO h vs hl
 | .bool _,_=>by simp[AV.low]
 | .int _ _,_=>by simp[AV.low]
 | .str _,_=>by simp[AV.low]
 | .nilp,_=>by simp[AV.low]
 | .nils,_=>by simp[AV.low]
 | .nilmap,_=>by simp[AV.low]
 | .nilfunc,_=>by simp[AV.low]
 | .nilif,_=>by simp[AV.low]
 | .top,_=>by simp[AV.low]
theorem bO {b b' : Nat}(h:b<=b'):(l:List AV)->aG b l=true->aG b' l=true
 | [],_=>by simp[aG]
 | a::r,hl=>by simp[aG] at hl ⊢;exact ⟨AV.low_mono h a hl.1,bO h r hl.2⟩
end
theorem pt {b b' : Nat}(h:b<=b'):(l:List (AV×AV))->gW b l=true->gW b' l=true
 | [],_=>by simp[gW]
 | (k,v)::r,hl=>by
   simp[gW] at hl ⊢;exact ⟨⟨AV.low_mono h k hl.1.1,AV.low_mono h v hl.1.2⟩,pt h r hl.2⟩
theorem AObj.low_mono {b b' : Nat}(h:b<=b')(o:AObj)(hl:o.low b=true):o.low b'=true:=by
 cases o<;>simp[AObj.low] at hl ⊢
 ·exact bO h _ hl
 ·exact pt h _ hl
theorem sG {b:Nat}:{l:List AV}->(aG b l=true ↔ ∀ a∈l,a.low b=true)
 | []=>by simp[aG]
 | a::r=>by simp[aG,sG (l:=r)]
theorem fO {b:Nat}{l m:List AV}:aG b (l++m)=(aG b l&&aG b m):=by
 induction l with
 | nil=>simp[aG]
 | cons a r ih=>simp[aG,ih,Bool.and_assoc]
theorem AV.low_cells {b:Nat}{a:AV}(h:a.low b=true):aG b a.cells=true:=by
 cases a<;>simp_all [AV.cells,AV.low,aG]
theorem dX {b:Nat}{l:List AV}(h:aG b l=true):aG b (ak l)=true:=by
 induction l with
 | nil=>simp[ak,aG]
 | cons a r ih =>
   simp[aG] at h;have:ak (a::r)=a.cells++ak r:=by simp[ak]
   rw[this,fO,AV.low_cells h.1,ih h.2];rfl
def MapR (G:Gh)(w:World):Nat->List (AV×AV)->List MapEntry->Prop
 | _,[],l=>l=[]
 | i,(k,v)::r,l=>∃ e m,l=e::m/\VR G w k e.key/\VR G w v e.val/\e.born=i/\MapR G w (i+1) r m
def ObjR (G:Gh)(w:World)(b:Nat):AObj->Prop
 | .cells cs=>∃ m,cN w b m/\cs.length<=m/\VRow G w b 0 cs
 | .map es=>∃ l:Array MapEntry,w.heap[b]?=some (.map l l.size)/\MapR G w 0 es l.toList
 | .lin _=>False
 | .gone=>True
def TabS (C:Cfg)(w:World):Prop:=∀ i xs,C.glob i=some xs->∃ c el fz,w.heap[i]?=some (.cells c el fz)/\c.size=xs.length
structure Rel (C:Cfg)(G:Gh)(H:Heap)(w:World):Prop where
 obj:∀ (n:Nat) (o:AObj),H[n]?=some o->∀ b,G.rho n=some (some b)->ObjR G w b o
 dead:∀ (n:Nat) (o:AObj),H[n]?=some o->G.rho n=some none->o=.gone
 out:∀ n,H.length<=n->G.rho n=none/\G.lam n=none
 lin:∀ (n g:Nat),H[n]?=some (.lin g)->G.gen n=g/\G.rho n=none/\∃ b u m,G.lam n=some b/\G.imm b=some u/\cN w b m/\u<=m
 lamE:∀ (n b:Nat),G.lam n=some b->∃ g:Nat,H[n]?=some (.lin g)
 rinj:∀ n m b,G.rho n=some (some b)->G.rho m=some (some b)->n=m
 linj:∀ n m b,G.lam n=some b->G.lam m=some b->n=m
 rimm:∀ n b,G.rho n=some (some b)->G.imm b=none/\b<w.heap.size
 immE:∀ b u,G.imm b=some u->∃ c el fz,w.heap[b]?=some (.cells c el fz)/\u<=c.size
 low:∀ (n:Nat) (o:AObj),H[n]?=some o->o.low H.length=true
 glob:∀ i xs,C.glob i=some xs->ImmTo G i xs.length/\VRow G w i 0 xs
 globS:TabS C w
theorem TabS.mono {C:Cfg}{G G' : Gh}{H:Heap}{w w' : World}(r:Rel C G H w)(h:Ext G w G' w'):TabS C w':=by
 intro i xs hg;obtain ⟨⟨u,hu,_⟩,_⟩:=r.glob i xs hg;obtain ⟨c,el,fz,hc,hs⟩:=r.globS i xs hg;obtain ⟨c',h1,h2,_⟩:=h.cells i u c el fz hu hc;exact ⟨c',el,fz,h1,by omega⟩
theorem VRow.mono' {G G' : Gh}{w w' : World}(h:Ext G w G' w'){b:Nat}(hc:∀ i,Abs.cellAt w' b i=Abs.cellAt w b i) :
  ∀ (l:List AV)(off:Nat),VRow G w b off l->VRow G' w' b off l
 | [],off,_=>by simp[VRow]
 | a::r,off,hm=>by
   simp only[VRow] at hm ⊢;obtain ⟨⟨x,h1,h2⟩,h3⟩:=hm;exact ⟨⟨x,by rw[hc];exact h1,VR.mono h a x h2⟩,VRow.mono' h hc r (off+1) h3⟩
theorem MapR.mono {G G' : Gh}{w w' : World}(h:Ext G w G' w'):∀ (l:List (AV×AV)) (i:Nat) (m:List MapEntry),MapR G w i l m->MapR G' w' i l m
 | [],i,m,hm=>hm
 | (k,v)::r,i,m,hm=>by
   obtain ⟨e,m',h1,h2,h3,h4,h5⟩:=hm;exact ⟨e,m',h1,VR.mono h _ _ h2,VR.mono h _ _ h3,h4,MapR.mono h r (i+1) m' h5⟩
theorem kr {w w' : World}{b:Nat}(h:w'.heap[b]?=w.heap[b]?)(i:Nat):Abs.cellAt w' b i=Abs.cellAt w b i:=by
 simp[Abs.cellAt,World.cell?,h]
theorem ObjR.mono {G G' : Gh}{w w' : World}(h:Ext G w G' w'){b:Nat}(hb:w'.heap[b]?=w.heap[b]?){o:AObj}(ho:ObjR G w b o):ObjR G' w' b o:=by
 cases o with
 | cells cs =>
   obtain ⟨m,h1,h2,h3⟩:=ho;exact ⟨m,h.plain _ _ h1,h2,VRow.mono' h (kr hb) _ _ h3⟩
 | map es =>
   obtain ⟨l,h1,h2⟩:=ho;exact ⟨l,by rw[hb];exact h1,MapR.mono h _ _ _ h2⟩
 | lin g=>exact ho
 | gone=>trivial
def SameHeap (w w' : World):Prop:=w'.heap=w.heap/\w'.tape=w.tape/\w'.os=w.os/\w'.output=w.output
theorem SameHeap.ext {w w' : World}(h:SameHeap w w')(G:Gh):Ext G w G w':=by
 obtain ⟨h1,h2,h3,h4⟩:=h
 exact {
  rho:=λn r h=>.inl h
  lam:=λid b h=>⟨⟨b,h⟩,Nat.le_refl _,λ_=>⟨h,λ_ h=>h⟩⟩
  imm:=λb u h=>⟨u,h,Nat.le_refl _⟩
  cells:=λb u c el fz _ h=>⟨c,by rw[h1];exact h,rfl,λ_ _=>rfl⟩
  plain:=λb n ⟨c,el,h,hn⟩=>⟨c,el,by rw[h1];exact h,hn⟩
  foreign:=λb _ a1 a2=>⟨by rw[h1],a1,a2⟩
  size:=by rw[h1];exact Nat.le_refl _
  tape:=h2
  os:=h3
  output:=h4 }
theorem Rel.same {C:Cfg}{G:Gh}{H:Heap}{w w' : World}(h:SameHeap w w')(r:Rel C G H w):Rel C G H w':=by
 have hx:=h.ext G;have h1:=h.1
 exact {
  obj:=λn o ho b hb=>ObjR.mono hx (by rw[h1]) (r.obj n o ho b hb)
  dead:=r.dead
  out:=r.out
  lin:=λn g hg=>by
   obtain ⟨a1,a2,b,u,m,a3,a4,a5,a6⟩:=r.lin n g hg;exact ⟨a1,a2,b,u,m,a3,a4,hx.plain _ _ a5,a6⟩
  lamE:=r.lamE
  rinj:=r.rinj
  linj:=r.linj
  rimm:=λn b hb=>by rw[h1];exact r.rimm n b hb
  immE:=λb u hu=>by rw[h1];exact r.immE b u hu
  low:=r.low
  glob:=λi xs hg=>⟨(r.glob i xs hg).1,VRow.mono' hx (kr (by rw[h1])) _ _ (r.glob i xs hg).2⟩
  globS:=TabS.mono r hx }
def Pushed (w w' : World)(o:Obj):Prop:=w'.heap=w.heap.push o/\w'.tape=w.tape/\w'.os=w.os/\w'.output=w.output
theorem Pushed.old {w w' : World}{o:Obj}(h:Pushed w w' o){b:Nat}(hb:b<w.heap.size):w'.heap[b]?=w.heap[b]?:=by
 rw[h.1,Array.getElem?_push];simp[Nat.ne_of_lt hb]
theorem Pushed.new {w w' : World}{o:Obj}(h:Pushed w w' o):w'.heap[w.heap.size]?=some o:=by
 rw[h.1];simp
theorem ia {w:World}{b:Nat}{o:Obj}(h:w.heap[b]?=some o):b<w.heap.size:=by
 rcases Nat.lt_or_ge b w.heap.size with h1|h1
 ·exact h1
 ·simp[Array.getElem?_eq_none h1] at h
theorem Pushed.at {w w' : World}{o p:Obj}(h:Pushed w w' o){b:Nat}(hb:w.heap[b]?=some p):w'.heap[b]?=some p:=by
 rw[h.old (ia hb)];exact hb
theorem Pushed.ext {w w' : World}{o:Obj}(h:Pushed w w' o){G G' : Gh}(hr:∀ n r,G.rho n=some r->G'.rho n=some r)
  (hr' : ∀ n b,G'.rho n=some (some b)->G.rho n=some (some b)\/b=w.heap.size)
  (hl:∀ n b,G.lam n=some b->G'.lam n=some b/\G'.gen n=G.gen n)
  (hi:∀ b,b≠w.heap.size->G'.imm b=G.imm b) (hn:G.imm w.heap.size=none):Ext G w G' w' where
 rho n r hh:=.inl (hr n r hh)
 lam id b hb:=⟨⟨b,(hl id b hb).1⟩,by rw[(hl id b hb).2];exact Nat.le_refl _,λ_=>⟨(hl id b hb).1,λu hu=>by
  by_cases e:b=w.heap.size
  ·subst e;rw[hn] at hu;cases hu
  ·rw[hi b e];exact hu⟩⟩
 imm b u hu:=by
  by_cases e:b=w.heap.size
  ·subst e;rw[hn] at hu;cases hu
  ·exact ⟨u,by rw[hi b e];exact hu,Nat.le_refl _⟩
 cells b u c el fz _ hc:=⟨c,h.at hc,rfl,λ_ _=>rfl⟩
 plain b n:=λ⟨c,el,hc,hs⟩=>⟨c,el,h.at hc,hs⟩
 foreign b hb h1 h2:=by
  have hne:b≠w.heap.size:=Nat.ne_of_lt hb;refine ⟨h.old hb,by rw[hi b hne];exact h1,λn hc=>?_⟩
  rcases hr' n b hc with h3|h3
  ·exact h2 n h3
  ·exact hne h3
 size:=by rw[h.1];simp
 tape:=h.2.1
 os:=h.2.2.1
 output:=h.2.2.2
theorem Rel.imm_new {C:Cfg}{G:Gh}{H:Heap}{w:World}(r:Rel C G H w):G.imm w.heap.size=none:=by
 cases hi:G.imm w.heap.size with
 | none=>rfl
 | some u =>
   obtain ⟨c,el,fz,h1,_⟩:=r.immE _ _ hi;have:=ia h1;omega
theorem Rel.push {C:Cfg}{G:Gh}{H:Heap}{w w' : World}{o:Obj}(r:Rel C G H w)(h:Pushed w w' o):Rel C G H w'/\Ext G w G w':=by
 have hx:Ext G w G w':=h.ext (λ_ _ h=>h) (λ_ _ h=>.inl h) (λ_ _ h=>⟨h,rfl⟩) (λ_ _=>rfl) r.imm_new
 refine ⟨?_,hx⟩
 exact {
  obj:=λn o ho b hb=>ObjR.mono hx (h.old (r.rimm n b hb).2) (r.obj n o ho b hb)
  dead:=r.dead
  out:=r.out
  lin:=λn g hg=>by
   obtain ⟨a1,a2,b,u,m,a3,a4,a5,a6⟩:=r.lin n g hg;exact ⟨a1,a2,b,u,m,a3,a4,hx.plain _ _ a5,a6⟩
  lamE:=r.lamE
  rinj:=r.rinj
  linj:=r.linj
  rimm:=λn b hb=>⟨(r.rimm n b hb).1,Nat.lt_of_lt_of_le (r.rimm n b hb).2 hx.size⟩
  immE:=λb u hu=>by
   obtain ⟨c,el,fz,h1,h2⟩:=r.immE b u hu;exact ⟨c,el,fz,h.at h1,h2⟩
  low:=r.low
  glob:=λi xs hg=>by
   obtain ⟨⟨u,h1,h2⟩,h3⟩:=r.glob i xs hg;exact ⟨⟨u,h1,h2⟩,VRow.mono hx i xs 0 u h1 (by omega) h3⟩
  globS:=TabS.mono r hx }
def b9 {α:Type}(f:Nat->α)(n:Nat)(v:α):Nat->α:=λm=>if m=n then v else f m
theorem aN {α:Type}{f:Nat->α}{n:Nat}{v:α}:b9 f n v n=v:=by simp[b9]
theorem aX {α:Type}{f:Nat->α}{n m:Nat}{v:α}(h:m≠n):b9 f n v m=f m:=by simp[b9,h]
def Gh.addImm (G:Gh)(b u:Nat):Gh:={ G with imm:=b9 G.imm b (some u) }
theorem Rel.addImm {C:Cfg}{G:Gh}{H:Heap}{w w' : World}{c:Array Value}{el:TypeId}{fz:Nat×Nat}(r:Rel C G H w)
  (h:Pushed w w' (.cells c el fz)) {u:Nat} (hu:u<=c.size) :
  Rel C (G.addImm w.heap.size u) H w'/\Ext G w (G.addImm w.heap.size u) w':=by
 have hx:Ext G w (G.addImm w.heap.size u) w':=h.ext (λ_ _ h=>h) (λ_ _ h=>.inl h) (λ_ _ h=>⟨h,rfl⟩) (λb hb=>aX hb) r.imm_new
 refine ⟨?_,hx⟩
 exact {
  obj:=λn o ho b hb=>ObjR.mono hx (h.old (r.rimm n b hb).2) (r.obj n o ho b hb)
  dead:=r.dead
  out:=r.out
  lin:=λn g hg=>by
   obtain ⟨a1,a2,b,u',m,a3,a4,a5,a6⟩:=r.lin n g hg;have hne:b≠w.heap.size:=λe=>by rw[e,r.imm_new] at a4;cases a4
   exact ⟨a1,a2,b,u',m,a3,by rw[<-a4];exact aX hne,hx.plain _ _ a5,a6⟩
  lamE:=r.lamE
  rinj:=r.rinj
  linj:=r.linj
  rimm:=λn b hb=>by
   have h1:=r.rimm n b hb;exact ⟨by rw[<-h1.1];exact aX (Nat.ne_of_lt h1.2),Nat.lt_of_lt_of_le h1.2 hx.size⟩
  immE:=λb v hv=>by
   by_cases e:b=w.heap.size
   ·subst e;have hv' : b9 G.imm w.heap.size (some u) w.heap.size=some v:=hv;rw[aN] at hv';obtain rfl:u=v:=by simpa using hv'
    exact ⟨c,el,fz,h.new,hu⟩
   ·have hv' : b9 G.imm w.heap.size (some u) b=some v:=hv;rw[aX e] at hv';obtain ⟨c,el,fz,h1,h2⟩:=r.immE b v hv';exact ⟨c,el,fz,h.at h1,h2⟩
  low:=r.low
  glob:=λi xs hg=>by
   obtain ⟨⟨u,h1,h2⟩,h3⟩:=r.glob i xs hg;exact ⟨ImmTo.mono hx ⟨u,h1,h2⟩,VRow.mono hx i xs 0 u h1 (by omega) h3⟩
  globS:=TabS.mono r hx }
def Gh.addObj (G:Gh)(n b:Nat):Gh:={ G with rho:=b9 G.rho n (some (some b)) }
theorem Rel.addObj {C:Cfg}{G:Gh}{H:Heap}{w w' : World}{o:Obj}(r:Rel C G H w)(h:Pushed w w' o){n:Nat}(hn:G.rho n=none)(hl:G.lam n=none)
  (hlt:n<H.length) (ho:∀ a,H[n]?=some a->∀ G',Ext G w G' w'->ObjR G' w' w.heap.size a) :
  Rel C (G.addObj n w.heap.size) H w'/\Ext G w (G.addObj n w.heap.size) w':=by
 have hx:Ext G w (G.addObj n w.heap.size) w':=h.ext
  (λm r hm=>by
   have:m≠n:=λe=>by rw[e,hn] at hm;cases hm
   show b9 G.rho n _ m=_;rw[aX this];exact hm)
  (λm b hm=>by
   have hm' : b9 G.rho n (some (some w.heap.size)) m=some (some b):=hm
   by_cases e:m=n
   ·subst e;rw[aN] at hm';right;simpa using hm'.symm
   ·rw[aX e] at hm';exact .inl hm')
  (λ_ _ h=>⟨h,rfl⟩) (λ_ _=>rfl) r.imm_new
 refine ⟨?_,hx⟩
 have hrho:∀ m b,(G.addObj n w.heap.size).rho m=some (some b)->(m=n/\b=w.heap.size)\/(m≠n/\G.rho m=some (some b)):=by
  intro m b hm;have hm' : b9 G.rho n (some (some w.heap.size)) m=some (some b):=hm
  by_cases e:m=n
  ·subst e;rw[aN] at hm';left;exact ⟨rfl,by simpa using hm'.symm⟩
  ·rw[aX e] at hm';exact .inr ⟨e,hm'⟩
 exact {
  obj:=λm a ha b hb=>by
   rcases hrho m b hb with ⟨rfl,rfl⟩|⟨_,h1⟩
   ·exact ho a ha _ hx
   ·exact ObjR.mono hx (h.old (r.rimm m b h1).2) (r.obj m a ha b h1)
  dead:=λm a ha hd=>by
   have hd' : b9 G.rho n (some (some w.heap.size)) m=some none:=hd
   by_cases e:m=n
   ·subst e;rw[aN] at hd';simp at hd'
   ·rw[aX e] at hd';exact r.dead m a ha hd'
  out:=λm hm=>by
   have e:m≠n:=by omega
   exact ⟨by show b9 G.rho n _ m=none;rw[aX e];exact (r.out m hm).1,(r.out m hm).2⟩
  lin:=λm g hg=>by
   obtain ⟨a1,a2,b,u,k,a3,a4,a5,a6⟩:=r.lin m g hg;have e:m≠n:=λe=>by rw[e,hl] at a3;cases a3
   exact ⟨a1,by show b9 G.rho n _ m=none;rw[aX e];exact a2,b,u,k,a3,a4,hx.plain _ _ a5,a6⟩
  lamE:=r.lamE
  rinj:=λm m' b h1 h2=>by
   rcases hrho m b h1 with ⟨e1,e2⟩|⟨e1,e2⟩<;>rcases hrho m' b h2 with ⟨f1,f2⟩|⟨f1,f2⟩
   ·rw[e1,f1]
   ·have:=(r.rimm m' b f2).2;omega
   ·have:=(r.rimm m b e2).2;omega
   ·exact r.rinj m m' b e2 f2
  linj:=r.linj
  rimm:=λm b hb=>by
   rcases hrho m b hb with ⟨e1,e2⟩|⟨e1,e2⟩
   ·subst e2;exact ⟨r.imm_new,by rw[h.1];simp⟩
   ·exact ⟨(r.rimm m b e2).1,Nat.lt_of_lt_of_le (r.rimm m b e2).2 hx.size⟩
  immE:=λb u hu=>by
   obtain ⟨c,el,fz,h1,h2⟩:=r.immE b u hu;exact ⟨c,el,fz,h.at h1,h2⟩
  low:=r.low
  glob:=λi xs hg=>by
   obtain ⟨⟨u,h1,h2⟩,h3⟩:=r.glob i xs hg;exact ⟨⟨u,h1,h2⟩,VRow.mono hx i xs 0 u h1 (by omega) h3⟩
  globS:=TabS.mono r hx }
theorem Rel.grow {C:Cfg}{G:Gh}{H:Heap}{w:World}(r:Rel C G H w){o:AObj}(hl:o.low (H.length+1)=true)(hk:∀ g,o ≠ .lin g) :
  Rel C G (H++[o]) w:=by
 have hget:∀ n a,(H++[o])[n]?=some a->H[n]?=some a\/(n=H.length/\a=o):=by
  intro n a ha
  rcases Nat.lt_or_ge n H.length with h1|h1
  ·left;rwa [List.getElem?_append_left h1] at ha
  ·right
   rw[List.getElem?_append_right h1] at ha
   rcases Nat.eq_or_lt_of_le h1 with h2|h2
   ·rw[<-h2] at ha;simp at ha;exact ⟨h2.symm,ha.symm⟩
   ·rw[List.getElem?_eq_none (by simp;omega)] at ha;cases ha
 exact {
  obj:=λn a ha b hb=>by
   rcases hget n a ha with h1|⟨h1,h2⟩
   ·exact r.obj n a h1 b hb
   ·rw[h1,(r.out H.length (Nat.le_refl _)).1] at hb;cases hb
  dead:=λn a ha hd=>by
   rcases hget n a ha with h1|⟨h1,h2⟩
   ·exact r.dead n a h1 hd
   ·rw[h1,(r.out H.length (Nat.le_refl _)).1] at hd;cases hd
  out:=λn hn=>r.out n (by simp at hn;omega)
  lin:=λn g hg=>by
   rcases hget n _ hg with h1|⟨h1,h2⟩
   ·exact r.lin n g h1
   ·exact absurd h2.symm (hk g)
  lamE:=λn b hb=>by
   obtain ⟨g,hg⟩:=r.lamE n b hb
   have:n<H.length:=by
    rcases Nat.lt_or_ge n H.length with h1|h1
    ·exact h1
    ·rw[List.getElem?_eq_none h1] at hg;cases hg
   exact ⟨g,by rw[List.getElem?_append_left this];exact hg⟩
  rinj:=r.rinj
  linj:=r.linj
  rimm:=r.rimm
  immE:=r.immE
  low:=λn a ha=>by
   rw[List.length_append]
   rcases hget n a ha with h1|⟨h1,h2⟩
   ·exact AObj.low_mono (by simp) a (r.low n a h1)
   ·rw[h2];exact hl
  glob:=r.glob
  globS:=r.globS }
structure Step (G:Gh)(H:Heap)(w:World)(G' : Gh)(H' : Heap)(w' : World):Prop where
 ext:Ext G w G' w'
 pend:∀ n:Nat,n<H.length->G.rho n=none->G.lam n=none->G'.rho n=none/\G'.lam n=none/\H'[n]?=H[n]?
 gone:∀ (n b:Nat),H[n]?=some .gone->G.rho n=some (some b)->G'.rho n=some (some b)/\H'[n]?=some .gone/\w'.heap[b]?=w.heap[b]?
 len:H.length<=H'.length
theorem Step.refl (G:Gh)(H:Heap)(w:World):Step G H w G H w where
 ext:=Ext.refl G w
 pend n _ h1 h2:=⟨h1,h2,rfl⟩
 gone n b h1 h2:=⟨h2,h1,rfl⟩
 len:=Nat.le_refl _
theorem Step.trans {G1 G2 G3:Gh}{H1 H2 H3:Heap}{w1 w2 w3:World}(h:Step G1 H1 w1 G2 H2 w2)(k:Step G2 H2 w2 G3 H3 w3):Step G1 H1 w1 G3 H3 w3 where
 ext:=h.ext.trans k.ext
 pend n hn h1 h2:=by
  obtain ⟨a1,a2,a3⟩:=h.pend n hn h1 h2;obtain ⟨b1,b2,b3⟩:=k.pend n (Nat.lt_of_lt_of_le hn h.len) a1 a2;exact ⟨b1,b2,b3.trans a3⟩
 gone n b h1 h2:=by
  obtain ⟨a1,a2,a3⟩:=h.gone n b h1 h2;obtain ⟨b1,b2,b3⟩:=k.gone n b a2 a1;exact ⟨b1,b2,b3.trans a3⟩
 len:=Nat.le_trans h.len k.len
theorem Rel.same' {C:Cfg}{G:Gh}{H:Heap}{w w' : World}(h:SameHeap w w')(r:Rel C G H w):Rel C G H w'/\Step G H w G H w' :=
 ⟨Rel.same h r,h.ext G,λn _ h1 h2=>⟨h1,h2,rfl⟩,λn b h1 h2=>⟨h2,h1,by rw[h.1]⟩,Nat.le_refl _⟩
theorem Rel.addImm' {C:Cfg}{G:Gh}{H:Heap}{w w' : World}{c:Array Value}{el:TypeId}{fz:Nat×Nat}(r:Rel C G H w)
  (h:Pushed w w' (.cells c el fz)) {u:Nat} (hu:u<=c.size) :
  Rel C (G.addImm w.heap.size u) H w'/\Step G H w (G.addImm w.heap.size u) H w' :=
 ⟨(r.addImm h hu).1,(r.addImm h hu).2,λn _ h1 h2=>⟨h1,h2,rfl⟩,λn b h1 h2=>⟨h2,h1,h.old (r.rimm n b h2).2⟩,Nat.le_refl _⟩
theorem Rel.newObj {C:Cfg}{G:Gh}{H:Heap}{w w' : World}{o:Obj}{a:AObj}(r:Rel C G H w)(h:Pushed w w' o)
  (hl:a.low (H.length+1)=true) (hk:∀ g,a ≠ .lin g) (ho:∀ G',Ext G w G' w'->ObjR G' w' w.heap.size a) :
  Rel C (G.addObj H.length w.heap.size) (H++[a]) w'/\Step G H w (G.addObj H.length w.heap.size) (H++[a]) w':=by
 have hout:=r.out H.length (Nat.le_refl _)
 have h1:=(r.grow hl hk).addObj h hout.1 hout.2 (by simp) (λb hb G' hx=>by
  simp at hb;subst hb;exact ho G' hx)
 refine ⟨h1.1,h1.2,λn hn h2 h3=>⟨?_,h3,?_⟩,λn b h2 h3=>?_,by simp⟩
 ·show b9 G.rho H.length _ n=none;rw[aX (by omega)];exact h2
 ·rw[List.getElem?_append_left hn]
 ·have hn:n<H.length:=by
   rcases Nat.lt_or_ge n H.length with h4|h4
   ·exact h4
   ·rw[List.getElem?_eq_none h4] at h2;cases h2
  refine ⟨?_,by rw[List.getElem?_append_left hn];exact h2,h.old (r.rimm n b h3).2⟩
  show b9 G.rho H.length _ n=_;rw[aX (by omega)];exact h3
section
variable {G:Gh}{w:World}
theorem VList.length:∀ {l:List AV} {m:List Value},VList G w l m->l.length=m.length
 | [],m,h=>by simp[VList] at h;simp[h]
 | a::r,m,h=>by
   simp only[VList] at h;obtain ⟨x,y,rfl,_,h2⟩:=h;simp[VList.length h2]
theorem VList.get:∀ {l:List AV} {m:List Value} {i:Nat} {a:AV},VList G w l m->l[i]?=some a->∃ x,m[i]?=some x/\VR G w a x
 | [],m,i,a,h,ha=>by simp at ha
 | b::r,m,i,a,h,ha=>by
   simp only[VList] at h;obtain ⟨x,y,rfl,h1,h2⟩:=h;cases i with
   | zero=>simp at ha;subst ha;exact ⟨x,by simp,h1⟩
   | succ i=>simp at ha;obtain ⟨z,h3,h4⟩:=VList.get h2 ha;exact ⟨z,by simpa using h3,h4⟩
theorem VList.set:∀ {l:List AV} {m:List Value} (i:Nat) {a:AV} {x:Value},VList G w l m->VR G w a x->VList G w (l.set i a) (m.set i x)
 | [],m,i,a,x,h,ha=>by simp[VList] at h ⊢;simp[h]
 | b::r,m,i,a,x,h,ha=>by
   simp only[VList] at h;obtain ⟨y,z,rfl,h1,h2⟩:=h;cases i with
   | zero=>simp only[List.set_cons_zero,VList];exact ⟨x,z,rfl,ha,h2⟩
   | succ i=>simp only[List.set_cons_succ,VList];exact ⟨y,_,rfl,h1,VList.set i h2 ha⟩
theorem VList.append:∀ {l l' : List AV} {m m' : List Value},VList G w l m->VList G w l' m'->VList G w (l++l') (m++m')
 | [],l',m,m',h,h'=>by simp[VList] at h;subst h;simpa using h'
 | a::r,l',m,m',h,h'=>by
   simp only[VList] at h;obtain ⟨x,y,rfl,h1,h2⟩:=h;simp only[List.cons_append,VList];exact ⟨x,_,rfl,h1,VList.append h2 h'⟩
theorem VList.take:∀ {l:List AV} {m:List Value} (n:Nat),VList G w l m->VList G w (l.take n) (m.take n)
 | l,m,0,h=>by simp[VList]
 | [],m,n+1,h=>by simp[VList] at h;subst h;simp[VList]
 | a::r,m,n+1,h=>by
   simp only[VList] at h;obtain ⟨x,y,rfl,h1,h2⟩:=h;simp only[List.take_succ_cons,VList];exact ⟨x,_,rfl,h1,VList.take n h2⟩
theorem VList.drop:∀ {l:List AV} {m:List Value} (n:Nat),VList G w l m->VList G w (l.drop n) (m.drop n)
 | l,m,0,h=>by simpa using h
 | [],m,n+1,h=>by simp[VList] at h;subst h;simp[VList]
 | a::r,m,n+1,h=>by
   simp only[VList] at h;obtain ⟨x,y,rfl,h1,h2⟩:=h;simpa using VList.drop n h2
theorem VList.replicate {a:AV}{x:Value}(h:VR G w a x):∀ n,VList G w (List.replicate n a) (List.replicate n x)
 | 0=>by simp[VList]
 | n+1=>by simp only[List.replicate_succ,VList];exact ⟨x,_,rfl,h,VList.replicate h n⟩
theorem VR.one {a:AV}{v:Value}(ha:a.one=true)(h:VR G w a v):v.cells=#[v]/\v.oneCell'=true:=by
 cases a<;>simp only[VR] at h<;>simp only[AV.one,Bool.false_eq_true] at ha
 case bool b=>subst h;simp[Value.cells,Value.oneCell']
 case int k n=>subst h;simp[Value.cells,Value.oneCell']
 case str s=>obtain ⟨t,rfl,h1⟩:=h;simp[Value.cells,Value.oneCell']
 case nilp=>subst h;simp[Value.cells,Value.oneCell']
 case ptr n off=>obtain ⟨r,b,h1,rfl,h2⟩:=h;simp[Value.cells,Value.oneCell']
 case iptr xs=>obtain ⟨b,off,rfl,h2⟩:=h;simp[Value.cells,Value.oneCell']
 case nils=>subst h;simp[Value.cells,Value.oneCell']
 case sl sz es lin=>obtain ⟨b,off,cap,rfl,h2⟩:=h;simp[Value.cells,Value.oneCell']
 case rsl=>obtain ⟨r,b,cap',h1,rfl,h2⟩:=h;simp[Value.cells,Value.oneCell']
 case nilmap=>subst h;simp[Value.cells,Value.oneCell']
 case map=>obtain ⟨r,b,h1,rfl,h2⟩:=h;simp[Value.cells,Value.oneCell']
 case func=>obtain ⟨f',c',rfl,h2⟩:=h;simp[Value.cells,Value.oneCell']
 case nilfunc=>subst h;simp[Value.cells,Value.oneCell']
 case iface=>obtain ⟨x,rfl,h2⟩:=h;simp[Value.cells,Value.oneCell']
 case nilif=>subst h;simp[Value.cells,Value.oneCell']
theorem VR.cells {a:AV}{v:Value}(ha:a.cells.all AV.one=true)(h:VR G w a v):VList G w a.cells v.cells.toList:=by
 cases a
 case agg cs=>simp only[VR] at h;obtain ⟨c,rfl,h1⟩:=h;simpa [AV.cells,Value.cells] using h1
 all_goals
  simp only[AV.cells,List.all_cons,List.all_nil,Bool.and_true] at ha;rw[(VR.one ha h).1];simp only[AV.cells,VList];exact ⟨_,_,rfl,h,rfl⟩
theorem VList.oneCells:∀ {l:List AV} {m:List Value},l.all AV.one=true->VList G w l m->∀ x∈m,x.oneCell'=true
 | [],m,_,h=>by simp[VList] at h;simp[h]
 | a::r,m,ha,h=>by
   simp only[VList] at h;obtain ⟨x,y,rfl,h1,h2⟩:=h;simp only[List.all_cons,Bool.and_eq_true] at ha;intro z hz;simp only[List.mem_cons] at hz
   rcases hz with rfl|hz
   ·exact (VR.one ha.1 h1).2
   ·exact VList.oneCells ha.2 h2 z hz
theorem VRow.list:∀ {l:List AV} {b off:Nat},VRow G w b off l->∃ m,VList G w l m/\∀ i x,m[i]?=some x->cellAt w b (off+i)=some x
 | [],b,off,_=>⟨[],by simp[VList],by simp⟩
 | a::r,b,off,h=>by
   simp only[VRow] at h;obtain ⟨⟨x,h1,h2⟩,h3⟩:=h;obtain ⟨m,h4,h5⟩:=VRow.list h3;refine ⟨x::m,by simp only[VList];exact ⟨x,m,rfl,h2,h4⟩,λi z hz=>?_⟩
   cases i with
   | zero=>simp at hz;subst hz;exact h1
   | succ i=>simp at hz;have:=h5 i z hz;rwa [show off+(i+1)=off+1+i by omega]
theorem VRow.of_list:∀ {l:List AV} {m:List Value} {b off:Nat},VList G w l m->(∀ i x,m[i]?=some x->cellAt w b (off+i)=some x)->VRow G w b off l
 | [],m,b,off,_,_=>by simp[VRow]
 | a::r,m,b,off,h,hm=>by
   simp only[VList] at h;obtain ⟨x,y,rfl,h1,h2⟩:=h;simp only[VRow]
   exact ⟨⟨x,by simpa using hm 0 x (by simp),h1⟩,VRow.of_list h2 (λi z hz=>by
    have:=hm (i+1) z (by simpa using hz)
    rwa [show off+1+i=off+(i+1) by omega])⟩
theorem VRow.drop:∀ {l:List AV} {b off:Nat} (n:Nat),VRow G w b off l->VRow G w b (off+n) (l.drop n)
 | l,b,off,0,h=>by simpa using h
 | [],b,off,n+1,h=>by simp[VRow]
 | a::r,b,off,n+1,h=>by
   simp only[VRow] at h;have:=VRow.drop n h.2;rw[show off+(n+1)=off+1+n by omega]
   simpa using this
theorem VRow.take:∀ {l:List AV} {b off:Nat} (n:Nat),VRow G w b off l->VRow G w b off (l.take n)
 | l,b,off,0,h=>by simp[VRow]
 | [],b,off,n+1,h=>by simp[VRow]
 | a::r,b,off,n+1,h=>by
   simp only[VRow] at h;simp only[List.take_succ_cons,VRow];exact ⟨h.1,VRow.take n h.2⟩
theorem VRow.append:∀ {l l' : List AV} {b off:Nat},VRow G w b off l->VRow G w b (off+l.length) l'->VRow G w b off (l++l')
 | [],l',b,off,h,h'=>by simpa using h'
 | a::r,l',b,off,h,h'=>by
   simp only[VRow] at h;simp only[List.cons_append,VRow];exact ⟨h.1,VRow.append h.2 (by simpa [Nat.add_assoc,Nat.add_comm 1] using h')⟩
theorem VRow.get {l:List AV}{b off i:Nat}{a:AV}(h:VRow G w b off l)(ha:l[i]?=some a):∃ x,cellAt w b (off+i)=some x/\VR G w a x:=by
 obtain ⟨m,h1,h2⟩:=VRow.list h;obtain ⟨x,h3,h4⟩:=VList.get h1 ha;exact ⟨x,h2 i x h3,h4⟩
theorem VElems.row:∀ {l:List AV} {b sz off:Nat},VElems G w b sz off l->VRow G w b off (ak l)
 | [],b,sz,off,_=>by simp[ak,VRow]
 | e::r,b,sz,off,h=>by
   simp only[VElems] at h;obtain ⟨h1,h2,h3⟩:=h;have he:ak (e::r)=e.cells++ak r:=by simp[ak]
   rw[he];refine VRow.append ?_ (by rw[h1];exact VElems.row h3)
   rcases h2 with ⟨ho,x,h4,h5⟩|h2
   ·rw[AV.one_cells ho];simp only[VRow];exact ⟨⟨x,h4,h5⟩,trivial⟩
   ·cases e<;>simp only[VAgg] at h2
    exact h2
theorem bD {sz:Nat}:∀ {l:List AV},(∀ e∈l,e.cells.length=sz)->(ak l).length=l.length*sz
 | [],_=>by simp[ak]
 | e::r,h=>by
   have he:ak (e::r)=e.cells++ak r:=by simp[ak]
   rw[he,List.length_append,bD (λx hx=>h x (by simp[hx])),h e (by simp)]
   simp[Nat.succ_mul];omega
theorem VElems.sizes:∀ {l:List AV} {b sz off:Nat},VElems G w b sz off l->∀ e∈l,e.cells.length=sz
 | [],b,sz,off,_=>by simp
 | e::r,b,sz,off,h=>by
   simp only[VElems] at h;intro x hx;simp only[List.mem_cons] at hx
   rcases hx with rfl|hx
   ·exact h.1
   ·exact VElems.sizes h.2.2 x hx
theorem VElems.of_row:∀ {l:List AV} {b sz off:Nat},(∀ e∈l,e.cells.length=sz/\e.cells.all AV.one=true)->VRow G w b off (ak l)->VElems G w b sz off l
 | [],b,sz,off,_,_=>by simp[VElems]
 | e::r,b,sz,off,hs,h=>by
   have he:ak (e::r)=e.cells++ak r:=by simp[ak]
   rw[he] at h;obtain ⟨h1,h2⟩:=hs e (by simp)
   simp only[VElems];refine ⟨h1,?_,VElems.of_row (λx hx=>hs x (by simp[hx])) ?_⟩
   ·have h3:=VRow.take e.cells.length h;rw[List.take_left'] at h3
    ·cases e
     case agg cs=>right;simpa [VAgg,AV.cells] using h3
     all_goals
      left
      simp only[AV.cells,List.all_cons,List.all_nil,Bool.and_true] at h2;simp only[AV.cells,VRow] at h3;exact ⟨h2,h3.1⟩
    ·rfl
   ·have h3:=VRow.drop e.cells.length h;rw[List.drop_left'] at h3
    ·rwa [h1] at h3
    ·rfl
theorem VElems.ones:∀ {l:List AV} {b sz off:Nat},VElems G w b sz off l->∀ e∈l,e.one=true\/∃ cs,e=.agg cs
 | [],b,sz,off,_=>by simp
 | e::r,b,sz,off,h=>by
   simp only[VElems] at h;intro x hx;simp only[List.mem_cons] at hx
   rcases hx with rfl|hx
   ·rcases h.2.1 with ⟨ho,_⟩|h2
    ·exact .inl ho
    ·cases x<;>simp only[VAgg] at h2
     exact .inr ⟨_,rfl⟩
   ·exact VElems.ones h.2.2 x hx
end
section
variable {G:Gh}{w:World}
mutual
theorem ofConst_ok:(v:Value)->(a:AV)->ofConst v=some a->VR G w a v
 | .bool b,a,h=>by simp only[ofConst,SJ] at h;subst h;simp[VR]
 | .int k n,a,h=>by simp only[ofConst,SJ] at h;subst h;simp[VR]
 | .float _ _,a,h=>by simp[ofConst] at h
 | .complex _ _ _,a,h=>by simp[ofConst] at h
 | .string s,a,h=>by simp only[ofConst,SJ] at h;subst h;simp[VR]
 | .pointer none,a,h=>by simp only[ofConst,SJ] at h;subst h;simp[VR]
 | .pointer (some _),a,h=>by simp[ofConst] at h
 | .slice none 0 0,a,h=>by simp only[ofConst,SJ] at h;subst h;simp[VR]
 | .slice none (n+1) _,a,h=>by simp[ofConst] at h
 | .slice none 0 (n+1),a,h=>by simp[ofConst] at h
 | .slice (some _) _ _,a,h=>by simp[ofConst] at h
 | .map none,a,h=>by simp only[ofConst,SJ] at h;subst h;simp[VR]
 | .map (some _),a,h=>by simp[ofConst] at h
 | .chan _,a,h=>by simp[ofConst] at h
 | .func _ _ _,a,h=>by simp[ofConst] at h
 | .nilFunc,a,h=>by simp only[ofConst,SJ] at h;subst h;simp[VR]
 | .iface _ _,a,h=>by simp[ofConst] at h
 | .nilIface,a,h=>by simp only[ofConst,SJ] at h;subst h;simp[VR]
 | .agg cs,a,h=>by
   simp only[ofConst] at h
   split at h
   ·rename_i l hl;simp only[SJ] at h;subst h;simp only[VR];exact ⟨cs,rfl,ofConstA_ok cs l hl⟩
   ·cases h
 | .tuple cs,a,h=>by
   simp only[ofConst] at h
   split at h
   ·rename_i l hl;simp only[SJ] at h;subst h;simp only[VR];exact ⟨cs,rfl,ofConstA_ok cs l hl⟩
   ·cases h
theorem ofConstA_ok:(c:Array Value)->(l:List AV)->ofConstA c=some l->VList G w l c.toList
 | ⟨m⟩,l,h=>by simp only[ofConstA] at h;exact ofConstL_ok m l h
theorem ofConstL_ok:(m:List Value)->(l:List AV)->ofConstL m=some l->VList G w l m
 | [],l,h=>by simp only[ofConstL,SJ] at h;subst h;simp[VList]
 | v::r,l,h=>by
   simp only[ofConstL] at h
   split at h
   ·rename_i a l' h1 h2;simp only[SJ] at h;subst h;simp only[VList];exact ⟨v,r,rfl,ofConst_ok v a h1,ofConstL_ok r l' h2⟩
   ·cases h
end
end
section
variable {C:Cfg}{G:Gh}{H:Heap}{w:World}{tmps:List AV}{ca:Go.Act}
theorem VList.getD {l:List AV}{m:Array Value}(h:VList G w l m.toList)(i:Nat):VR G w (l.getD i undef) (m.getD i Go.undef):=by
 by_cases hi:i<l.length
 ·obtain ⟨x,h1,h2⟩:=VList.get (i:=i) (a:=l[i]) h (List.getElem?_eq_getElem hi);have hm:m[i]?=some x:=by simpa using h1
  simp only[List.getD_eq_getElem?_getD,List.getElem?_eq_getElem hi,Option.getD_some]
  have hlt:i<m.size:=by
   rcases Nat.lt_or_ge i m.size with h3|h3
   ·exact h3
   ·simp[Array.getElem?_eq_none h3] at hm
  have hx:m.getD i Go.undef=x:=by
   rw[Array.getElem?_eq_getElem hlt] at hm;simp only[Array.getD,dif_pos hlt];exact Option.some.inj hm
  rw[hx];exact h2
 ·have hl:l.length=m.size:=VList.length h;have:¬ i<m.size:=by omega
  simp only[List.getD_eq_getElem?_getD];rw[List.getElem?_eq_none (by omega)]
  simp[Array.getD,this,VR,VList,Go.undef]
theorem bd (r:Rel C G H w)(ht:VList G w tmps ca.tmps.toList){o:Operand}{a:AV}(h:cM C tmps o=some a):VR G w a (ca.eval o):=by
 cases o with
 | tmp t =>
   simp only[cM,SJ] at h;subst h;exact VList.getD ht t
 | const v=>exact ofConst_ok v a h
 | global i =>
   simp only[cM] at h
   split at h
   ·rename_i xs hg;simp only[SJ] at h;subst h;obtain ⟨h1,h2⟩:=r.glob i xs hg;simp only[VR,Act.eval];exact ⟨i,0,rfl,by simpa using h1,h2⟩
   ·cases h
 | func f =>
   simp only[cM,SJ] at h;subst h;simp[VR,Act.eval,VList]
theorem fM (r:Rel C G H w)(ht:VList G w tmps ca.tmps.toList):∀ {l:List Operand} {as:List AV},eV C tmps l=some as->VList G w as (l.map ca.eval)
 | [],as,h=>by simp only[eV,SJ] at h;subst h;simp[VList]
 | o::l,as,h=>by
   simp only[eV] at h
   split at h
   ·rename_i a m h1 h2;simp only[SJ] at h;subst h;simp only[List.map_cons,VList];exact ⟨_,_,rfl,bd r ht h1,fM r ht h2⟩
   ·cases h
def lC (G:Gh)(w:World):List (Nat×AV)->List (Nat×Value)->Prop
 | [],m=>m=[]
 | (i,a)::l,m=>∃ v m',m=(i,v)::m'/\VR G w a v/\lC G w l m'
theorem kX (r:Rel C G H w)(ht:VList G w tmps ca.tmps.toList):∀ {l:List (Nat×Operand)} {as:List (Nat×AV)},dO C tmps l=some as ->
  lC G w as (l.map λ(i,x)=>(i,ca.eval x))
 | [],as,h=>by simp only[dO,SJ] at h;subst h;simp[lC]
 | (i,o)::l,as,h=>by
   simp only[dO] at h
   split at h
   ·rename_i a m h1 h2;simp only[SJ] at h;subst h;simp only[List.map_cons,lC];exact ⟨_,_,rfl,bd r ht h1,kX r ht h2⟩
   ·cases h
variable {P:Program}
theorem fG {t:TypeId}{i:TypeInfo}(h:P.info? t=some i)(w:World):(typeInfo t).run P w=.ok i w:=by
 simp[typeInfo,h]
theorem aE {t:TypeId}{d:TypeDesc}(h:P.underlying t=some d)(w:World):(underlying t).run P w=.ok d w:=by
 simp[underlying,h]
theorem bZ {t:TypeId}{n:Nat}(h:cU C t=some n)(w:World):(sizeOf t).run C.P w=.ok n w:=by
 unfold cU at h
 split at h
 ·rename_i i hi;simp only[SJ] at h;subst h;simp[sizeOf,fG hi]
 ·cases h
theorem jl {t:TypeId}{d:TypeDesc}(h:P.underlying t=some d)(w:World):(isAgg t).run P w=.ok (aggD d) w:=by
 cases d<;>simp[isAgg,aE h,aggD]
theorem ej {t:TypeId}{a:AV}(h:cj C t=some a)(w:World):∃ z,(zeroValue t).run C.P w=.ok z w/\ofConst z=some a:=by
 unfold cj at h
 split at h
 ·rename_i i hi
  split at h
  ·rename_i z hz
   split at h
   ·rename_i b hb
    split at h
    ·simp only[SJ] at h;subst h;exact ⟨z,by simp[zeroValue,fG hi,hz],hb⟩
    ·cases h
   ·cases h
  ·cases h
 ·cases h
theorem eh {t:TypeId}{a:AV}(h:cj C t=some a):a.cells.all AV.one=true/\a.low 0=true:=by
 unfold cj at h
 split at h
 ·split at h
  ·split at h
   ·split at h
    ·rename_i hc;simp only[SJ] at h;subst h;exact hc
    ·cases h
   ·cases h
  ·cases h
 ·cases h
theorem kw {t:TypeId}{cs:List AV}{c:Array Value}{off:Nat}{a:AV}(hc:VList G w cs c.toList)(h:eo C t cs off=some a)(w' : World) :
  ∃ v,(part t c off).run C.P w'=.ok v w'/\VR G w a v:=by
 unfold eo at h
 split at h
 ·cases h
 ·rename_i d hd
  split at h
  ·rename_i hg
   split at h
   ·rename_i n hn
    split at h
    ·simp only[SJ] at h;subst h;refine ⟨.agg (c.extract off (off+n)),by simp[part,jl hd,hg,bZ hn],?_⟩
     simp only[VR];refine ⟨_,rfl,?_⟩;have:(c.extract off (off+n)).toList=(c.toList.drop off).take n:=by simp[Array.toList_extract,List.extract]
     rw[this];exact VList.take n (VList.drop off hc)
    ·cases h
   ·cases h
  ·rename_i hg;obtain ⟨x,h1,h2⟩:=VList.get hc h;refine ⟨x,?_,h2⟩;have h1' : c[off]?=some x:=by simpa using h1
   simp only[Bool.not_eq_true] at hg;simp[part,jl hd,hg,h1']
end
def PureOk (C:Cfg)(G:Gh)(H:Heap)(w:World)(o:Oper)(ca:Go.Act)(a:AV):Prop :=
 ∃ v w' G',(execOp ca.eval o).run C.P w=.ok (.value v) w'/\Rel C G' H w'/\Step G H w G' H w'/\VR G' w' a v
section
variable {C:Cfg}{G:Gh}{H:Heap}{w:World}{tmps:List AV}{ca:Go.Act}{o:Oper}{a:AV}
theorem PureOk.same (r:Rel C G H w){v:Value}(h:(execOp ca.eval o).run C.P w=.ok (.value v) w)(hv:VR G w a v):PureOk C G H w o ca a :=
 ⟨v,w,G,h,r,Step.refl G H w,hv⟩
theorem dR {x:AV}{v:Value}{n:Nat}(h:cC x=some n)(hv:VR G w x v):∃ k,v=.int k n:=by
 unfold cC at h
 split at h
 ·rename_i k m
  split at h
  ·simp only[SJ] at h;simp only[VR] at hv;refine ⟨k,?_⟩;rw[hv]
   congr 1;omega
  ·cases h
 ·cases h
theorem VR.bool_inv {b:Bool}{v:Value}(h:VR G w (.bool b) v):v=.bool b:=by simpa [VR] using h
theorem Aa (r:Rel C G H w)(ht:VList G w tmps ca.tmps.toList){x:Operand}(ho:o.op=.move x\/o.op=.assign x)(h:cM C tmps x=some a):PureOk C G H w o ca a:=by
 refine PureOk.same r ?_ (bd r ht h)
 rcases ho with ho|ho<;>simp[execOp,ho]
theorem AA (r:Rel C G H w)(ht:VList G w tmps ca.tmps.toList){c x y:Operand}{b:Bool}(ho:o.op=.pick c x y)(hc:cM C tmps c=some (.bool b))
  (h:(if b then cM C tmps x else cM C tmps y)=some a):PureOk C G H w o ca a:=by
 have hc':=VR.bool_inv (bd r ht hc);cases b with
 | true=>exact PureOk.same r (by simp[execOp,ho,hc',asBool]) (bd r ht h)
 | false=>exact PureOk.same r (by simp[execOp,ho,hc',asBool]) (bd r ht h)
theorem lY (r:Rel C G H w)(ht:VList G w tmps ca.tmps.toList){x:Operand}(ho:o.op=.nilCheck x)(hx:cM C tmps x=some a)
  (ha:(∃ n off,a=.ptr n off)\/∃ xs,a=.iptr xs):PureOk C G H w o ca a:=by
 have hv:=bd r ht hx
 rcases ha with ⟨n,off,rfl⟩|⟨xs,rfl⟩
 ·have hv':=hv;simp only[VR] at hv';obtain ⟨q,b,h1,h2,h3⟩:=hv';exact PureOk.same r (by simp[execOp,ho,h2]) (h2 ▸ hv)
 ·have hv':=hv;simp only[VR] at hv';obtain ⟨b,off,h2,h3⟩:=hv';exact PureOk.same r (by simp[execOp,ho,h2]) (h2 ▸ hv)
theorem vz (r:Rel C G H w)(ht:VList G w tmps ca.tmps.toList){x:Operand}{i:Nat}{l:List AV}(ho:o.op=.extract x i)(hx:cM C tmps x=some (.tuple l))
  (h:l[i]?=some a):PureOk C G H w o ca a:=by
 have hv:=bd r ht hx;simp only[VR] at hv;obtain ⟨c,h1,h2⟩:=hv;obtain ⟨y,h3,h4⟩:=VList.get h2 h;have h3' : c[i]?=some y:=by simpa using h3
 exact PureOk.same r (by simp[execOp,ho,h1,Instr.extract,h3']) h4
theorem lu (r:Rel C G H w)(ht:VList G w tmps ca.tmps.toList){x:Operand}{t:TypeId}{d:TypeDesc}{b:AV}(ho:o.op=.makeInterface t x)
  (hd:C.P.underlying t=some d) (hn:∀ ms,d ≠ .interface ms) (hx:cM C tmps x=some b):PureOk C G H w o ca (.iface t b):=by
 have hv:=bd r ht hx;refine PureOk.same (v:=.iface t (ca.eval x)) r ?_ (by simp only[VR];exact ⟨_,rfl,hv⟩)
 simp only[execOp,ho,Instr.makeInterface,Sem.run_bind,aE hd,Result.andThen_ok];cases d<;>first|(simp;done)|exact absurd rfl (hn _)
theorem si (r:Rel C G H w)(ht:VList G w tmps ca.tmps.toList){fn:Fn}{f c:Array Operand}{l m:List AV}(ho:o.op=.makeFunc fn f c)
  (hf:eV C tmps f.toList=some l) (hc:eV C tmps c.toList=some m):PureOk C G H w o ca (.func fn l m):=by
 have h1:=fM r ht hf;have h2:=fM r ht hc;refine PureOk.same (v:=.func fn (f.map ca.eval) (c.map ca.eval)) r (by simp[execOp,ho,Instr.makeFunc]) ?_
 simp only[VR];exact ⟨_,_,rfl,by simpa using h1,by simpa using h2⟩
theorem BV (r:Rel C G H w)(ht:VList G w tmps ca.tmps.toList){x:Operand}{t:TypeId}{i:Nat}{b:AV}(ho:o.op=.field t x i)(hx:cM C tmps x=some b)
  (h:mG C t b i=some a):PureOk C G H w o ca a:=by
 have hv:=bd r ht hx;unfold mG at h
 split at h
 ·rename_i fd cs hf;unfold jg at hf
  split at hf
  ·rename_i fs hu;simp only[VR] at hv;obtain ⟨c,h1,h2⟩:=hv;obtain ⟨v,h3,h4⟩:=kw h2 h w;exact PureOk.same r (by simp[execOp,ho,Instr.field,aE hu,hf,h1,asAgg,h3]) h4
  ·cases hf
 ·cases h
theorem Addr.add_mk (b off n:Nat):(⟨b,off,none⟩ : Addr).add n=⟨b,off+n,none⟩:=by
 unfold Addr.add;split<;>simp_all
theorem rm (r:Rel C G H w)(ht:VList G w tmps ca.tmps.toList){x:Operand}{t:TypeId}{i:Nat}{b:AV}(ho:o.op=.fieldAddr t x i)(hx:cM C tmps x=some b)
  (h:fJ C t b i=some a):PureOk C G H w o ca a:=by
 have hv:=bd r ht hx;unfold fJ at h
 split at h
 ·cases h
 ·rename_i fd hf;unfold jg at hf
  split at hf
  ·rename_i fs hu
   split at h
   ·cases h
   ·rename_i sz hsz
    split at h
    ·cases h
    ·rename_i hz
     split at h
     ·rename_i n off;simp only[SJ] at h;subst h;simp only[VR] at hv;obtain ⟨q,bl,h1,h2,h3⟩:=hv;refine PureOk.same (v:=.pointer (some ⟨bl,off+fd.offset,none⟩)) r ?_ (by simp only[VR];exact ⟨q,bl,h1,rfl,h3⟩)
      simp[execOp,ho,Instr.fieldAt,aE hu,hf,h2,Instr.sureAddr,fieldPlace,bZ hsz,hz,Addr.add_mk]
     ·rename_i xs
      split at h
      ·rename_i hle;simp only[SJ] at h;subst h;simp only[VR] at hv;obtain ⟨bl,off,h2,⟨u,hu1,hu2⟩,h4⟩:=hv
       refine PureOk.same (v:=.pointer (some ⟨bl,off+fd.offset,none⟩)) r ?_ (by
        simp only[VR];exact ⟨bl,off+fd.offset,rfl,⟨u,hu1,by simp;omega⟩,VRow.drop _ h4⟩)
       simp[execOp,ho,Instr.fieldAt,aE hu,hf,h2,Instr.sureAddr,fieldPlace,bZ hsz,hz,Addr.add_mk]
      ·cases h
     ·cases h
  ·cases hf
theorem VR.str_inv {s:List Nat}{v:Value}(h:VR G w (.str s) v):∃ t:ByteArray,v=.string t/\t.data.toList.map (·.toNat)=s:=by
 simpa [VR] using h
theorem Kd {t:ByteArray}{s:List Nat}(h:t.data.toList.map (·.toNat)=s){i b:Nat}(hb:s[i]?=some b):∃ c:UInt8,t[i]?=some c/\c.toNat=b:=by
 subst h;simp only[List.getElem?_map,Option.map_eq_some_iff] at hb;obtain ⟨c,h1,h2⟩:=hb;refine ⟨c,?_,h2⟩;rw[<-h1];simp[getElem?_def,ByteArray.getElem_eq_getElem_data]
theorem Dw (r:Rel C G H w)(ht:VList G w tmps ca.tmps.toList){x i:Operand}{t:TypeId}{b c:AV}(ho:o.op=.index t x i)(hx:cM C tmps x=some b)
  (hi:cM C tmps i=some c) (h:cL C t b c=some a):PureOk C G H w o ca a:=by
 have hv:=bd r ht hx;have hvi:=bd r ht hi;unfold cL at h
 split at h
 ·rename_i n s hn hu;obtain ⟨k,hk⟩:=dR hn hvi;obtain ⟨t',h1,h2⟩:=VR.str_inv hv
  split at h
  ·rename_i q hq;simp only[SJ] at h;subst h;obtain ⟨u,h3,h4⟩:=Kd h2 hq;refine PureOk.same (v:=.int .u8 q) r ?_ (by simp[VR])
   simp[execOp,ho,Instr.index,hk,asIntOf,aE hu,h1,h3,h4]
  ·cases h
 ·rename_i n len e cs hn hu;obtain ⟨k,hk⟩:=dR hn hvi
  split at h
  ·rename_i sz hsz
   split at h
   ·rename_i hlt;simp only[VR] at hv;obtain ⟨c',h1,h2⟩:=hv;obtain ⟨v,h3,h4⟩:=kw h2 h w;refine PureOk.same r ?_ h4;simp[execOp,ho,Instr.index,hk,asIntOf,aE hu,h1,bZ hsz,h3,hlt]
   ·cases h
  ·cases h
 ·cases h
theorem VElems.get:∀ {l:List AV} {b sz off i:Nat} {e:AV},VElems G w b sz off l->l[i]?=some e->VRow G w b (off+i*sz) e.cells/\e.cells.length=sz
 | [],b,sz,off,i,e,h,he=>by simp at he
 | x::r,b,sz,off,i,e,h,he=>by
   simp only[VElems] at h;obtain ⟨h1,h2,h3⟩:=h;cases i with
   | zero =>
     simp at he;subst he;refine ⟨?_,h1⟩;simp only[Nat.zero_mul,Nat.add_zero]
     rcases h2 with ⟨ho,y,h4,h5⟩|h2
     ·rw[AV.one_cells ho];simp only[VRow];exact ⟨⟨y,h4,h5⟩,trivial⟩
     ·cases x<;>simp only[VAgg] at h2
      exact h2
   | succ i =>
     simp at he;have:=VElems.get h3 he
     rwa [show off+(i+1)*sz=off+sz+i*sz by rw[Nat.succ_mul];omega]
theorem qQ (r:Rel C G H w)(ht:VList G w tmps ca.tmps.toList){x i:Operand}{t:TypeId}{b c:AV}(ho:o.op=.indexAddr t x i)(hx:cM C tmps x=some b)
  (hi:cM C tmps i=some c) (h:eJ C t b c=some a):PureOk C G H w o ca a:=by
 have hv:=bd r ht hx;have hvi:=bd r ht hi;unfold eJ at h
 split at h
 ·rename_i n e sz es lin hn hu;obtain ⟨k,hk⟩:=dR hn hvi
  split at h
  ·rename_i y hy
   split at h
   ·rename_i m hm
    split at h
    ·rename_i hmz;simp only[SJ] at h;subst h;subst hmz;simp only[VR] at hv;obtain ⟨bl,off,cap,h1,h2,⟨u,h3,h4⟩,h5,h6⟩:=hv;obtain ⟨g1,g2⟩:=VElems.get h6 hy
     have hlt:n<es.length:=by
      rcases Nat.lt_or_ge n es.length with hq|hq
      ·exact hq
      ·rw[List.getElem?_eq_none hq] at hy;cases hy
     have hle:n*m+m<=es.length*m:=by
      have:=Nat.mul_le_mul_right m (Nat.succ_le_of_lt hlt)
      rwa [Nat.succ_mul] at this
     refine PureOk.same (v:=.pointer (some ⟨bl,off+n*m,none⟩)) r ?_ (by
      simp only[VR];exact ⟨bl,off+n*m,rfl,⟨u,h3,by rw[g2];omega⟩,g1⟩)
     simp[execOp,ho,Instr.indexAt,hk,asIntOf,aE hu,h1,bZ hm,hlt,Addr.add_mk]
    ·cases h
   ·cases h
  ·cases h
 ·rename_i n e q off len cap sz hn hu;obtain ⟨k,hk⟩:=dR hn hvi
  split at h
  ·rename_i m hm
   split at h
   ·rename_i hc;obtain ⟨hlt,rfl⟩:=hc;simp only[SJ] at h;subst h;simp only[VR] at hv;obtain ⟨p,bl,cap',h1,h2,g1,g2,h3⟩:=hv
    refine PureOk.same (v:=.pointer (some ⟨bl,off+n*m,none⟩)) r ?_ (by
     simp only[VR];exact ⟨p,bl,h1,rfl,λb' e=>(h3 b' e).1⟩)
    simp[execOp,ho,Instr.indexAt,hk,asIntOf,aE hu,h2,bZ hm,hlt,Addr.add_mk]
   ·cases h
  ·cases h
 ·rename_i n len e q off hn hu;obtain ⟨k,hk⟩:=dR hn hvi
  split at h
  ·rename_i m hm
   split at h
   ·rename_i hlt;simp only[SJ] at h;subst h;simp only[VR] at hv;obtain ⟨p,bl,h1,h2,h3⟩:=hv;refine PureOk.same (v:=.pointer (some ⟨bl,off+n*m,none⟩)) r ?_ (by simp only[VR];exact ⟨p,bl,h1,rfl,h3⟩)
    simp[execOp,ho,Instr.indexAt,hk,asIntOf,aE hu,h2,bZ hm,hlt,Addr.add_mk,Instr.sureAddr]
   ·cases h
  ·cases h
 ·rename_i n len e xs hn hu;obtain ⟨k,hk⟩:=dR hn hvi
  split at h
  ·rename_i m hm
   split at h
   ·rename_i hlt;obtain ⟨hlt,hle⟩:=hlt;simp only[SJ] at h;subst h;simp only[VR] at hv;obtain ⟨bl,off,h2,⟨u,hu1,hu2⟩,h4⟩:=hv
    refine PureOk.same (v:=.pointer (some ⟨bl,off+n*m,none⟩)) r ?_ (by
     simp only[VR];exact ⟨bl,off+n*m,rfl,⟨u,hu1,by simp;omega⟩,VRow.drop _ h4⟩)
    simp[execOp,ho,Instr.indexAt,hk,asIntOf,aE hu,h2,bZ hm,hlt,Addr.add_mk,Instr.sureAddr]
   ·cases h
  ·cases h
 ·cases h
theorem jz (r:Rel C G H w)(ht:VList G w tmps ca.tmps.toList){x:Operand}{t xt t' : TypeId}{d:TypeDesc}{ok:Bool}{b:AV}(ho:o.op=.typeAssert x xt t ok)
  (hd:C.P.underlying t=some d) (hn:∀ ms,d ≠ .interface ms) (hx:cM C tmps x=some (.iface t' b))
  (h:t'=t/\a=(if ok then .tuple [b,.bool true] else b)\/t'≠t/\ok=true/\∃ z,cj C t=some z/\a=.tuple [z,.bool false]):PureOk C G H w o ca a:=by
 have hv:=bd r ht hx;simp only[VR] at hv;obtain ⟨y,h1,h2⟩:=hv
 rcases h with ⟨rfl,rfl⟩|⟨hne,rfl,z,hz,rfl⟩
 ·cases ok with
  | true =>
    refine PureOk.same (v:=.tuple #[y,.bool true]) r ?_ (by simp[VR,VList];exact h2)
    simp only[execOp,ho,Instr.typeAssert,Sem.run_bind,aE hd,Result.andThen_ok,h1];cases d<;>first|(simp;done)|exact absurd rfl (hn _)
  | false =>
    refine PureOk.same (v:=y) r ?_ h2;simp only[execOp,ho,Instr.typeAssert,Sem.run_bind,aE hd,Result.andThen_ok,h1];cases d<;>first|(simp;done)|exact absurd rfl (hn _)
 ·obtain ⟨zv,h3,h4⟩:=ej hz w;refine PureOk.same (v:=.tuple #[zv,.bool false]) r ?_ (by simp[VR,VList];exact ofConst_ok _ _ h4)
  simp only[execOp,ho,Instr.typeAssert,Sem.run_bind,aE hd,Result.andThen_ok,h1];cases d<;>first|(simp[hne,h3];done)|exact absurd rfl (hn _)
theorem kC (r:Rel C G H w)(ht:VList G w tmps ca.tmps.toList){x:Operand}{t xt:TypeId}{d:TypeDesc}{z:AV}(ho:o.op=.typeAssert x xt t true)
  (hd:C.P.underlying t=some d) (hn:∀ ms,d ≠ .interface ms) (hx:cM C tmps x=some .nilif) (hz:cj C t=some z):PureOk C G H w o ca (.tuple [z,.bool false]):=by
 have hv:=bd r ht hx;simp only[VR] at hv;obtain ⟨zv,h3,h4⟩:=ej hz w;refine PureOk.same (v:=.tuple #[zv,.bool false]) r ?_ (by simp[VR,VList];exact ofConst_ok _ _ h4)
 simp only[execOp,ho,Instr.typeAssert,Sem.run_bind,aE hd,Result.andThen_ok,hv];cases d<;>first|(simp[h3];done)|exact absurd rfl (hn _)
theorem IT (r:Rel C G H w)(ht:VList G w tmps ca.tmps.toList){x:Operand}{t:TypeId}{op:UnOp}{b:AV}(ho:o.op=.unOp op t x)
  (hx:cM C tmps x=some b) (h:bM op b=some a):PureOk C G H w o ca a:=by
 have hv:=bd r ht hx;unfold bM at h
 split at h
 ·simp only[VR] at hv;simp only[SJ] at h;subst h;exact PureOk.same r (by simp[execOp,ho,hv,Op.unary,Op.intArith];rfl) (by simp[VR])
 ·simp only[VR] at hv;simp only[SJ] at h;subst h;exact PureOk.same r (by simp[execOp,ho,hv,Op.unary,Op.intBits];rfl) (by simp[VR])
 ·simp only[VR] at hv;simp only[SJ] at h;subst h;exact PureOk.same r (by simp[execOp,ho,hv,Op.unary];rfl) (by simp[VR])
 ·cases h
theorem Te (r:Rel C G H w)(ht:VList G w tmps ca.tmps.toList){c:Call}{x:AV}{t:TypeId}(ho:o.op=.call c)(hc:c.callee=.builtin .len)
  (hx:eV C tmps c.args.toList=some [x]) (ht0:c.argTypes[0]?=some t) (h:dh C t x=some a):PureOk C G H w o ca a:=by
 have hv:=fM r ht hx;simp only[VList] at hv;obtain ⟨v,l,h1,h2,rfl⟩:=hv
 have hargs:c.args.map ca.eval=#[v]:=by
  apply Array.ext';simpa using h1
 have key:∀ n:Nat,(Builtin.len_ c.argTypes o.type #[v]).run C.P w=.ok (goInt n) w->PureOk C G H w o ca (.int .i64 n):=λn hn=>by
  refine PureOk.same (v:=goInt n) r ?_ (by simp[VR,goInt])
  simp only[execOp,ho,resolve,hc,Sem.run_bind,Sem.run_pure,Result.andThen_ok,invoke,hargs,builtin,hn]
 unfold dh at h
 split at h
 ·rename_i s hu;simp only[SJ] at h;subst h;obtain ⟨t',rfl,h3⟩:=VR.str_inv h2;refine key s.length ?_;have:s.length=t'.size:=by rw[<-h3,List.length_map];rfl
  simp[Builtin.len_,ht0,aE hu,this]
 ·rename_i n q p off hu;simp only[SJ] at h;subst h;exact key n (by simp[Builtin.len_,ht0,aE hu])
 ·rename_i n q p hu;simp only[SJ] at h;subst h;exact key n (by simp[Builtin.len_,ht0,aE hu])
 ·rename_i n q p hu;simp only[SJ] at h;subst h;exact key n (by simp[Builtin.len_,ht0,aE hu])
 ·rename_i e hu;simp only[SJ] at h;subst h;simp only[VR] at h2;subst h2;exact key 0 (by simp[Builtin.len_,ht0,aE hu])
 ·rename_i e sz es lin hu;simp only[SJ] at h;subst h;simp only[VR] at h2;obtain ⟨b,off,cap,rfl,_⟩:=h2;exact key es.length (by simp[Builtin.len_,ht0,aE hu])
 ·rename_i e n off len cap sz hu;simp only[SJ] at h;subst h;simp only[VR] at h2;obtain ⟨q,b,cap',h3,rfl,_⟩:=h2;exact key len (by simp[Builtin.len_,ht0,aE hu])
 ·cases h
theorem n7 (mx:Bool)(P:Program):∀ (l:List AV) (x a:AV) (vl:List Value) (v:Value),dk mx x l=some a->VR G w x v->VList G w l vl ->
  ∃ u,(vl.foldlM (if mx then Builtin.max2 else Builtin.min2) v).run P w=.ok u w/\VR G w a u
 | [],x,a,vl,v,h,hx,hl=>by
   simp only[dk,SJ] at h;subst h;simp only[VList] at hl;subst hl;exact ⟨v,by simp,hx⟩
 | y::l,x,a,vl,v,h,hx,hl=>by
   simp only[VList] at hl;obtain ⟨vy,vl',rfl,hy,hl'⟩:=hl;unfold dk at h
   split at h
   ·rename_i heq;cases heq
   ·rename_i k p k' q r' heq;cases heq
    simp only[VR] at hx hy;subst hx;subst hy;obtain ⟨u,h1,h2⟩:=n7 mx P l _ a vl' (.int k (if mx then (if q > p then q else p) else (if q<p then q else p))) h (by simp[VR]) hl'
    refine ⟨u,?_,h2⟩;rw[List.foldlM_cons,Sem.run_bind];cases mx
    ·have e1:(Builtin.min2 (.int k p) (.int k' q)).run P w=.ok (.int k (if q<p then q else p)) w:=rfl
     simp only[Bool.false_eq_true,if_false] at h1 ⊢;rw[e1];exact h1
    ·have e1:(Builtin.max2 (.int k p) (.int k' q)).run P w=.ok (.int k (if q > p then q else p)) w:=rfl
     simp only[if_true] at h1 ⊢;rw[e1];exact h1
   ·cases h
theorem qj (r:Rel C G H w)(ht:VList G w tmps ca.tmps.toList){c:Call}{x:AV}{l:List AV}{mx:Bool}(ho:o.op=.call c)
  (hc:c.callee=.builtin (if mx then .max else .min))
  (hx:eV C tmps c.args.toList=some (x::l)) (h:dk mx x l=some a):PureOk C G H w o ca a:=by
 have hv:=fM r ht hx;simp only[VList] at hv;obtain ⟨v,vl,h1,h2,h3⟩:=hv;have hargs:(c.args.map ca.eval).toList=v::vl:=by simpa using h1
 obtain ⟨u,h4,h5⟩:=n7 mx C.P l x a vl v h h2 h3;refine PureOk.same (v:=u) r ?_ h5;cases mx
 ·simp only[if_false,Bool.false_eq_true] at hc h4;simp only[execOp,ho,resolve,hc,Sem.run_bind,Sem.run_pure,Result.andThen_ok,invoke,builtin,Builtin.min_,hargs,h4]
 ·simp only[if_true] at hc h4;simp only[execOp,ho,resolve,hc,Sem.run_bind,Sem.run_pure,Result.andThen_ok,invoke,builtin,Builtin.max_,hargs,h4]
end
theorem list_eq_iff:∀ {a b:List UInt8},a=b ↔ a.map (·.toNat)=b.map (·.toNat)
 | [],[]=>by simp
 | [],_::_=>by simp
 | _::_,[]=>by simp
 | x::a,y::b=>by
   simp only[List.cons.injEq,List.map_cons];rw[list_eq_iff (a:=a) (b:=b),UInt8.toNat_inj]
theorem bytesLess_eq:∀ (a b:List UInt8),Op.bytesLess a b=Abs.bytesLess (a.map (·.toNat)) (b.map (·.toNat))
 | _,[]=>by simp[Op.bytesLess,Abs.bytesLess]
 | [],_::_=>by simp[Op.bytesLess,Abs.bytesLess]
 | x::a,y::b=>by
   simp only[Op.bytesLess,Abs.bytesLess,List.map_cons,bytesLess_eq a b]
   congr 2
   rw[Bool.eq_iff_iff];simp[UInt8.toNat_inj]
section
variable {C:Cfg}{G:Gh}{H:Heap}{w:World}{tmps:List AV}{ca:Go.Act}{o:Oper}{a:AV}
set_option maxHeartbeats 1000000 in
theorem AU {P:Program}{d:TypeDesc}{t:TypeId}{x y:AV}{vx vy:Value}{b:Bool}(D:Nat)(hu:P.underlying t=some d)(h:fC d x y=some b)(hx:VR G w x vx)(hy:VR G w y vy)
  (w' : World):(Op.equalIn (D+1) t vx vy).run P w'=.ok b w':=by
 unfold fC at h
 split at h
 case h_1=>simp only[VR] at hx hy;subst hx;subst hy;simp only[SJ] at h;subst h;simp[Op.equalIn,aE hu]
 case h_2 =>
  simp only[VR] at hx hy;subst hx;subst hy
  split at h
  ·rename_i e;subst e;simp only[SJ] at h;subst h;simp only[Op.equalIn,Sem.run_bind,aE hu,Result.andThen_ok,if_true,Sem.run_pure]
   congr 1
  ·cases h
 case h_3 =>
  obtain ⟨t1,rfl,e1⟩:=VR.str_inv hx;obtain ⟨t2,rfl,e2⟩:=VR.str_inv hy;simp only[SJ] at h;subst h;simp only[Op.equalIn,Sem.run_bind,aE hu,Result.andThen_ok,Sem.run_pure]
  congr 1
  rw[beq_toListBytes,ByteArray.toList_eq,ByteArray.toList_eq,Bool.eq_iff_iff];simp only[beq_iff_eq,decide_eq_true_eq,<-e1,<-e2];exact list_eq_iff
 case h_23=>cases h
 all_goals
  simp only[SJ] at h;subst h;simp only[VR] at hx hy
  first
   | (subst hx;subst hy;simp[Op.equalIn,aE hu];done)
   | (subst hx;obtain ⟨_,_,_,rfl,_⟩:=hy;simp[Op.equalIn,aE hu];done)
   | (subst hy;obtain ⟨_,_,_,rfl,_⟩:=hx;simp[Op.equalIn,aE hu];done)
   | (subst hx;obtain ⟨_,_,rfl,_⟩:=hy;simp[Op.equalIn,aE hu];done)
   | (subst hy;obtain ⟨_,_,rfl,_⟩:=hx;simp[Op.equalIn,aE hu];done)
   | (subst hx;obtain ⟨_,rfl,_⟩:=hy;simp[Op.equalIn,aE hu];done)
   | (subst hy;obtain ⟨_,rfl,_⟩:=hx;simp[Op.equalIn,aE hu];done)
   | (subst hx;obtain ⟨_,_,_,_,rfl,_⟩:=hy;simp[Op.equalIn,aE hu];done)
   | (subst hy;obtain ⟨_,_,_,_,rfl,_⟩:=hx;simp[Op.equalIn,aE hu];done)
   | (subst hx;obtain ⟨_,_,_,rfl,_⟩:=hy;simp[Op.equalIn,aE hu];done)
   | (subst hy;obtain ⟨_,_,_,rfl,_⟩:=hx;simp[Op.equalIn,aE hu];done)
theorem iB {D:Nat}{eq:TypeId->AV->AV->Option Bool}(heq:∀ t x y b vx vy,eq t x y=some b->VR G w x vx->VR G w y vy->∀ w',(Op.equalIn D t vx vy).run C.P w'=.ok b w')
  {xs ys:List AV} {cx cy:Array Value} (hx:VList G w xs cx.toList) (hy:VList G w ys cy.toList) (w' : World) :
  ∀ (fs:List Field)(b:Bool),eC C eq xs ys fs=some b->(Op.eqFields D cx cy fs).run C.P w'=.ok b w'
 | [],b,h=>by simp only[eC,SJ] at h;subst h;simp[Op.eqFields]
 | f::r,b,h=>by
   unfold eC at h
   split at h
   ·rename_i hn;simp only[Op.eqFields,hn,ne_eq,not_true_eq_false,if_false];exact iB heq hx hy w' r b h
   ·rename_i hn
    split at h
    ·rename_i p q hp hq;obtain ⟨v1,h1,h2⟩:=kw hx hp w';obtain ⟨v2,h3,h4⟩:=kw hy hq w'
     split at h
     ·rename_i he;have h5:=heq _ _ _ _ _ _ he h2 h4 w';simp only[Op.eqFields,ne_eq,hn,not_false_eq_true,if_true,Sem.run_bind,h1,h3,h5,Result.andThen_ok,Bool.not_true,Bool.false_eq_true,if_false];exact iB heq hx hy w' r b h
     ·rename_i he;have h5:=heq _ _ _ _ _ _ he h2 h4 w';simp only[SJ] at h;subst h;simp only[Op.eqFields,ne_eq,hn,not_false_eq_true,if_true,Sem.run_bind,h1,h3,h5,Result.andThen_ok,Bool.not_false,if_true,Sem.run_pure]
     ·cases h
    ·cases h
theorem eqAV_ok:∀ (d:Nat) {t:TypeId} {x y:AV} {b:Bool} {vx vy:Value} (D:Nat),d<=D->eqAV C d t x y=some b->VR G w x vx->VR G w y vy ->
  ∀ w',(Op.equalIn D t vx vy).run C.P w'=.ok b w'
 | 0,t,x,y,b,vx,vy,D,hD,h,hx,hy,w'=>by simp[eqAV] at h
 | d+1,t,x,y,b,vx,vy,0,hD,h,hx,hy,w'=>by omega
 | d+1,t,x,y,b,vx,vy,D+1,hD,h,hx,hy,w'=>by
   unfold eqAV at h
   split at h
   ·rename_i fields xs ys hu
    split at h
    ·cases h
    ·rename_i hs;simp only[VR] at hx hy;obtain ⟨cx,rfl,hx⟩:=hx;obtain ⟨cy,rfl,hy⟩:=hy;have hf:C.P.fieldsOf t=fields:=by simp[Program.fieldsOf,hu]
     rw[run_equalIn_struct w' D t cx cy (by rw[hf];exact hu) (by simpa using hs),hf]
     exact iB (λt x y b vx vy h1 h2 h3=>eqAV_ok d D (by omega) h1 h2 h3) hx hy w' _ _ h
   ·exact AU D (by assumption) h hx hy w'
   ·cases h
end
section
variable {C:Cfg}{G:Gh}{H:Heap}{w:World}{tmps:List AV}{ca:Go.Act}{o:Oper}{a:AV}
theorem Dp {op:BinOp}{k:IntKind}{p q:Int}(h:fH op k p q=some a){t:TypeId}(P:Program)(w' : World) :
  ∃ v,(binOp op t (.int k p) (.int k q)).run P w'=.ok v w'/\VR G w a v:=by
 cases op<;>simp only[fH] at h<;>first
  | (cases h;done)
  | (simp only[SJ] at h;subst h
     refine ⟨_,by simp[binOp,Op.intArith,Op.intBits,Op.intCmp];rfl,?_⟩
     first|(simp[VR];done)|(simp only[VR];congr 1))
  | (split at h
     ·cases h
     ·rename_i h0;simp only[SJ] at h;subst h;exact ⟨_,by simp[binOp,Op.intDiv,h0];rfl,by simp[VR]⟩)
theorem Hu {op:BinOp}{p q:List Nat}{x y:ByteArray}(h:kz op p q=some a){t:TypeId}(P:Program)(w' : World)
  (hx:x.data.toList.map (·.toNat)=p) (hy:y.data.toList.map (·.toNat)=q) :
  ∃ v,(binOp op t (.string x) (.string y)).run P w'=.ok v w'/\VR G w a v:=by
 have heq:(x.toList == y.toList)=decide (p=q):=by
  rw[ByteArray.toList_eq,ByteArray.toList_eq,Bool.eq_iff_iff];simp only[beq_iff_eq,decide_eq_true_eq,<-hx,<-hy];exact list_eq_iff
 have hlt:Op.bytesLess x.toList y.toList=Abs.bytesLess p q:=by
  rw[ByteArray.toList_eq,ByteArray.toList_eq,bytesLess_eq,hx,hy]
 have hl:∀ z:ByteArray,z.size=(z.data.toList.map (·.toNat)).length:=λz=>by rw[List.length_map];rfl
 cases op<;>simp only[kz] at h<;>first
  | (cases h;done)
  | (simp only[SJ] at h;subst h
     exact ⟨_,by simp[binOp,Op.stringOp,heq,hlt];rfl,by simp[VR]⟩)
  | (split at h
     ·rename_i h0;simp only[SJ] at h;subst h
      have h1:¬ (((x.size+y.size:Nat):Int) > IntKind.i64.max):=by
       rw[hl x,hl y,hx,hy];have:IntKind.i64.max=9223372036854775807:=by decide
       omega
      refine ⟨.string (x++y),?_,?_⟩
      ·simp only[binOp,Op.stringOp];rw[if_neg h1];rfl
      ·simp only[VR];refine ⟨_,rfl,?_⟩;simp[<-hx,<-hy]
     ·cases h)
def _root_.Go.Value.eqPlain:Value->Bool
 | .int _ _ | .float _ _ | .complex _ _ _ | .string _=>false
 | _=>true
theorem Bn {t:TypeId}{x y:Value}(h:x.eqPlain=true):binOp .eql t x y=(do pure (.bool (<-Op.equal t x y))):=by
 cases x<;>simp[Value.eqPlain] at h<;>cases y<;>rfl
theorem AH {t:TypeId}{x y:Value}(h:x.eqPlain=true):binOp .neq t x y=(do pure (.bool (!(<-Op.equal t x y)))):=by
 cases x<;>simp[Value.eqPlain] at h<;>cases y<;>rfl
theorem q6 {dd:TypeDesc}{x y:AV}{b:Bool}(h:fC dd x y=some b) :
  (∃ k n k' n',x=.int k n/\y=.int k' n')\/(∃ s s',x=.str s/\y=.str s')\/((∀ k n,x ≠ .int k n)/\(∀ s,x ≠ .str s)/\x ≠ .top/\y ≠ .top):=by
 cases x with
 | int k n=>cases y<;>cases dd<;>simp[fC] at h<;>exact .inl ⟨_,_,_,_,rfl,rfl⟩
 | str s=>cases y<;>cases dd<;>simp[fC] at h<;>exact .inr (.inl ⟨_,_,rfl,rfl⟩)
 | top=>cases y<;>cases dd<;>simp[fC] at h
 | _ =>
   right;right;refine ⟨by simp,by simp,by simp,?_⟩
   rintro rfl
   cases dd<;>simp[fC] at h
theorem gT {d:Nat}{t:TypeId}{x y:AV}{b:Bool}(h:eqAV C d t x y=some b) :
  (∃ k n k' n',x=.int k n/\y=.int k' n')\/(∃ s s',x=.str s/\y=.str s')\/((∀ k n,x ≠ .int k n)/\(∀ s,x ≠ .str s)/\x ≠ .top/\y ≠ .top):=by
 cases d with
 | zero=>simp[eqAV] at h
 | succ d =>
   unfold eqAV at h
   split at h
   ·right;right;exact ⟨by simp,by simp,by simp,by simp⟩
   ·exact q6 h
   ·cases h
theorem HK {d:Nat}{t:TypeId}{y:AV}:eqAV C d t .top y=none:=by
 cases h:eqAV C d t .top y with
 | none=>rfl
 | some b=>rcases gT h with ⟨_,_,_,_,h1,_⟩|⟨_,_,h1,_⟩|⟨_,_,h1,_⟩<;>simp at h1
theorem AJ {d:Nat}{t:TypeId}{x:AV}:eqAV C d t x .top=none:=by
 cases h:eqAV C d t x .top with
 | none=>rfl
 | some b=>rcases gT h with ⟨_,_,_,_,_,h1⟩|⟨_,_,_,h1⟩|⟨_,_,_,h1⟩<;>simp at h1
theorem VR.eqPlain {x:AV}{v:Value}(h:VR G w x v)(h1:∀ k n,x ≠ .int k n)(h2:∀ s,x ≠ .str s)(h3:x ≠ .top):v.eqPlain=true:=by
 cases x<;>simp only[VR] at h
 case int k n=>exact absurd rfl (h1 k n)
 case str s=>exact absurd rfl (h2 s)
 case top=>exact absurd rfl h3
 all_goals first
  | (subst h;rfl)
  | (obtain ⟨_,_,_,rfl,_⟩:=h;rfl)
  | (obtain ⟨_,_,rfl,_⟩:=h;rfl)
  | (obtain ⟨_,rfl,_⟩:=h;rfl)
  | (obtain ⟨_,_,_,_,rfl,_⟩:=h;rfl)
theorem GD {op:BinOp}{t:TypeId}{x y:AV}{vx vy:Value}(h:bF C op t x y=some a)(hx:VR G w x vx)(hy:VR G w y vy)(w' : World) :
  ∃ v,(binOp op t vx vy).run C.P w'=.ok v w'/\VR G w a v:=by
 unfold bF at h
 split at h
 ·simp only[VR] at hx hy;subst hx;subst hy
  split at h
  ·cases h
  ·rename_i h0;simp only[SJ] at h;subst h;exact ⟨_,by simp[binOp,Op.shift,h0];rfl,by simp[VR]⟩
 ·simp only[VR] at hx hy;subst hx;subst hy
  split at h
  ·cases h
  ·rename_i h0;simp only[SJ] at h;subst h;exact ⟨_,by simp[binOp,Op.shift,h0];rfl,by simp[VR]⟩
 ·simp only[VR] at hx hy;subst hx;subst hy
  split at h
  ·rename_i e;subst e;exact Dp h C.P w'
  ·cases h
 ·obtain ⟨t1,rfl,e1⟩:=VR.str_inv hx;obtain ⟨t2,rfl,e2⟩:=VR.str_inv hy;exact Hu h C.P w' e1 e2
 ·rename_i hi hs
  split at h
  ·rename_i b hb;simp only[SJ] at h;subst h
   rcases gT hb with ⟨k,n,k',n',rfl,rfl⟩|⟨s,s',rfl,rfl⟩|⟨g1,g2,g3,g4⟩
   ·exact absurd rfl (hi _ _ _ _ rfl)
   ·exact absurd rfl (hs _ _ rfl)
   ·refine ⟨.bool b,?_,by simp[VR]⟩
    rw[Bn (hx.eqPlain g1 g2 g3)];simp[Op.equal,eqAV_ok eqDepth Op.maxDepth (by decide) hb hx hy w']
  ·cases h
 ·rename_i hi hs
  split at h
  ·rename_i b hb;simp only[SJ] at h;subst h
   rcases gT hb with ⟨k,n,k',n',rfl,rfl⟩|⟨s,s',rfl,rfl⟩|⟨g1,g2,g3,g4⟩
   ·exact absurd rfl (hi _ _ _ _ rfl)
   ·exact absurd rfl (hs _ _ rfl)
   ·refine ⟨.bool (!b),?_,by simp[VR]⟩
    rw[AH (hx.eqPlain g1 g2 g3)];simp[Op.equal,eqAV_ok eqDepth Op.maxDepth (by decide) hb hx hy w']
  ·cases h
 ·cases h
theorem nF {op:BinOp}(hop:op=.eql\/op=.neq){t:TypeId}{x y:Operand}{vx vy:Value}(h1:¬ (vx=.nilIface/\vy=.nilIface))(h2:¬ ((∃ c,vx=.agg c)/\∃ c,vy=.agg c))(P:Program)(w' : World) :
  (eqGuard op t x y vx vy).run P w'=.ok () w':=by
 rcases hop with rfl|rfl
 all_goals
  cases vx<;>try rfl
  ·cases vy<;>first|rfl|exact absurd ⟨rfl,rfl⟩ h1
  ·cases vy<;>first|rfl|exact absurd ⟨⟨_,rfl⟩,⟨_,rfl⟩⟩ h2
theorem VR.not_nilif {x:AV}(h:VR G w x .nilIface):x=.nilif\/x=.top:=by
 cases x<;>simp[VR] at h ⊢
theorem VR.not_agg {x:AV}{c:Array Value}(h:VR G w x (.agg c)):(∃ l,x=.agg l)\/x=.top:=by
 cases x<;>simp[VR] at h ⊢
theorem wO {op:BinOp}{t:TypeId}{x y:Operand}{p q:AV}(h:bI C op t x y p q=true)(h2:bF C op t p q=some a){vx vy:Value}
  (hx:VR G w p vx) (hy:VR G w q vy) (w' : World):(eqGuard op t x y vx vy).run C.P w'=.ok () w':=by
 by_cases hop:op=.eql\/op=.neq
 ·have htop:p ≠ .top/\q ≠ .top:=by
   constructor
   ·rintro rfl;rcases hop with rfl|rfl<;>cases q<;>simp[bF,HK] at h2
   ·rintro rfl;rcases hop with rfl|rfl<;>cases p<;>simp[bF,AJ] at h2
  by_cases hn:vx=.nilIface/\vy=.nilIface
  ·obtain ⟨rfl,rfl⟩:=hn;obtain rfl:p=.nilif:=(VR.not_nilif hx).resolve_right htop.1;obtain rfl:q=.nilif:=(VR.not_nilif hy).resolve_right htop.2;have hc:(Abs.isConst x||Abs.isConst y)=true:=by rcases hop with rfl|rfl<;>simpa [bI] using h
   rcases hop with rfl|rfl
   ·cases x<;>cases y<;>simp[Abs.isConst] at hc<;>rfl
   ·cases x<;>cases y<;>simp[Abs.isConst] at hc<;>rfl
  ·by_cases ha:(∃ c,vx=.agg c)/\∃ c,vy=.agg c
   ·obtain ⟨⟨c,rfl⟩,⟨c',rfl⟩⟩:=ha;obtain ⟨l,rfl⟩:=(VR.not_agg hx).resolve_right htop.1;obtain ⟨l',rfl⟩:=(VR.not_agg hy).resolve_right htop.2;have hg:C.P.eqGuardType C.P.depth t=false:=by rcases hop with rfl|rfl<;>simpa [bI] using h
    rcases hop with rfl|rfl<;>simp[eqGuard,hg]
   ·exact nF hop hn ha C.P w'
 ·have:op ≠ .eql/\op ≠ .neq:=⟨λe=>hop (.inl e),λe=>hop (.inr e)⟩
  cases op<;>first|(exact absurd rfl this.1)|(exact absurd rfl this.2)|rfl
theorem FX (r:Rel C G H w)(ht:VList G w tmps ca.tmps.toList){x y:Operand}{op:BinOp}{t yt:TypeId}{p q:AV}(ho:o.op=.binOp op t x y yt)
  (hx:cM C tmps x=some p) (hy:cM C tmps y=some q) (hg:bI C op t x y p q=true) (h:bF C op t p q=some a):PureOk C G H w o ca a:=by
 have h1:=bd r ht hx;have h2:=bd r ht hy;obtain ⟨v,h3,h4⟩:=GD h h1 h2 w;exact PureOk.same r (by simp[execOp,ho,wO hg h h1 h2 w,h3]) h4
end
section
variable {C:Cfg}{G:Gh}{H:Heap}{w:World}{tmps:List AV}{ca:Go.Act}{o:Oper}{a:AV}
def VOpt (G:Gh)(w:World):Option AV->Option Value->Prop
 | none,none=>True
 | some a,some v=>VR G w a v
 | _,_=>False
theorem jR (r:Rel C G H w)(ht:VList G w tmps ca.tmps.toList){x:Option Operand}{l:Option AV}(h:iy C tmps x=some l):VOpt G w l (x.map ca.eval):=by
 cases x with
 | none=>simp only[iy,SJ] at h;subst h;trivial
 | some x =>
   simp only[iy] at h
   split at h
   ·rename_i b hb;simp only[SJ] at h;subst h;exact bd r ht hb
   ·cases h
theorem gm {d n y:Nat}{l:Option AV}{v:Option Value}(hb:cK d l=some n)(hv:VOpt G w l v)(hle:n<=y)(code:BoundsCode)(P:Program)(w' : World) :
  (match v with|some v=>Instr.sliceBound v y code|none=>pure d:Sem Nat).run P w'=.ok n w':=by
 cases l with
 | none =>
   cases v with
   | none=>simp only[cK,SJ] at hb;subst hb;rfl
   | some _=>exact hv.elim
 | some x =>
   cases v with
   | none=>exact hv.elim
   | some v =>
     obtain ⟨k,hk⟩:=dR (show cC x=some n from hb) hv
     simp only[hk,Instr.sliceBound,asIntOf,Sem.run_bind,Sem.run_pure,Result.andThen_ok];rw[if_pos ⟨by omega,by omega⟩];simp
theorem gQ {isS:Bool}{len cap l h:Nat}{lo hi:Option AV}{vl vh:Option Value}(hl:cK 0 lo=some l)(hh:cK len hi=some h)(hvl:VOpt G w lo vl)(hvh:VOpt G w hi vh)
  (h1:l<=h) (h2:h<=cap) (P:Program) (w' : World):(Instr.sliceBounds isS len cap vl vh none).run P w'=.ok (l,h,cap) w':=by
 have e1:=gm hl hvl h1 (if (none:Option Value).isSome then .slice3C else .sliceB) P w'
 have e2:=gm hh hvh h2 (if isS then .sliceAcap else .sliceAlen) P w'
 cases vh<;>cases vl<;>simp at e1 e2<;>simp[Instr.sliceBounds,e1,e2]
theorem mc {isS:Bool}{len cap l h m:Nat}{lo hi:Option AV}{vl vh:Option Value}{vm:Value}{mx:AV}(hl:cK 0 lo=some l)(hh:cK len hi=some h)(hm:cC mx=some m)
  (hvl:VOpt G w lo vl) (hvh:VOpt G w hi vh) (hvm:VR G w mx vm) (hs:vh.isSome=true)
  (h1:l<=h) (h2:h<=m) (h3:m<=cap) (P:Program) (w' : World):(Instr.sliceBounds isS len cap vl vh (some vm)).run P w'=.ok (l,h,m) w':=by
 have e3:=gm (d:=0) (l:=some mx) (v:=some vm) hm hvm h3 (if isS then .slice3Acap else .slice3Alen) P w'
 have e1:=gm hl hvl h1 (if (some vm:Option Value).isSome then .slice3C else .sliceB) P w'
 have e2:=gm hh hvh h2 .slice3B P w';cases vh<;>cases vl<;>simp at e1 e2 e3 hs<;>simp[Instr.sliceBounds,e1,e2,e3]
theorem VElems.drop:∀ {l:List AV} {b sz off:Nat} (n:Nat),VElems G w b sz off l->n<=l.length->VElems G w b sz (off+n*sz) (l.drop n)
 | l,b,sz,off,0,h,_=>by simpa using h
 | [],b,sz,off,n+1,h,hn=>by simp at hn
 | e::r,b,sz,off,n+1,h,hn=>by
   simp only[VElems] at h;have:=VElems.drop n h.2.2 (by simpa using hn)
   rw[show off+(n+1)*sz=off+sz+n*sz by rw[Nat.succ_mul];omega]
   simpa using this
theorem VElems.take:∀ {l:List AV} {b sz off:Nat} (n:Nat),VElems G w b sz off l->VElems G w b sz off (l.take n)
 | l,b,sz,off,0,h=>by simp[VElems]
 | [],b,sz,off,n+1,h=>by simp[VElems]
 | e::r,b,sz,off,n+1,h=>by
   simp only[VElems] at h;simp only[List.take_succ_cons,VElems];exact ⟨h.1,h.2.1,VElems.take n h.2.2⟩
theorem fc {b off len cap sz:Nat}{l:Lin}(h:LinOk G w b off len cap sz l)(hl:l ≠ .frz):∃ n,cN w b n:=by
 cases l with
 | lit=>exact ⟨_,h.2.2⟩
 | full=>obtain ⟨_,n,h1,_⟩:=h;exact ⟨n,h1⟩
 | live id g=>exact h.2.2.1
 | dead=>exact h
 | frz=>exact absurd rfl hl
theorem It {b off len cap sz l h:Nat}{lin:Lin}(hlin:LinOk G w b off len cap sz lin)(h1:l<=h)(h2:h<=len)(hlc:len<=cap) :
  LinOk G w b (if cap=l then off else off+l*sz) (h-l) (cap-l) sz
   (if h=len then (if l=0 then lin else if lin=.lit then .full else lin) else if lin=.frz then .frz else .dead):=by
 by_cases e:h=len
 ·subst e;rw[if_pos rfl]
  by_cases e0:l=0
  ·subst e0;simp only[if_true,Nat.sub_zero,Nat.zero_mul,Nat.add_zero,ite_self];exact hlin
  ·rw[if_neg e0];cases lin with
   | lit =>
     simp only[if_true];obtain ⟨a1,a2,a3⟩:=hlin;refine ⟨by omega,_,a3,?_⟩
     subst a1;subst a2
     by_cases e1:cap=l
     ·simp[e1]
     ·rw[if_neg e1,Nat.zero_add,<-Nat.add_mul];exact Nat.mul_le_mul_right sz (by omega)
   | full =>
     simp only[reduceCtorEq,if_false];obtain ⟨a2,n,a3,a4⟩:=hlin;refine ⟨by omega,n,a3,?_⟩
     by_cases e1:cap=l
     ·rw[if_pos e1,e1];simp;omega
     ·rw[if_neg e1];have:l*sz+(cap-l)*sz=cap*sz:=by rw[<-Nat.add_mul];congr 1;omega
      omega
   | dead=>simp only[reduceCtorEq,if_false];exact hlin
   | frz=>simp only[reduceCtorEq,if_false];trivial
   | live id g =>
     simp only[reduceCtorEq,if_false];obtain ⟨a1,a2,a3,a4⟩:=hlin;refine ⟨a1,a2,a3,λeg=>?_⟩
     obtain ⟨m,b3,b4,b5⟩:=a4 eg;refine ⟨m,b3,?_,?_⟩
     ·by_cases e1:cap=l
      ·rw[if_pos e1,e1];simp;omega
      ·rw[if_neg e1];have:l*sz+(cap-l)*sz=cap*sz:=by rw[<-Nat.add_mul];congr 1;omega
       omega
     ·rcases b5 with b5|⟨b1,b2⟩
      ·left;omega
      ·by_cases e1:cap=l
       ·left;omega
       ·right
        rw[if_neg e1];refine ⟨b1,?_⟩;rw[b2];congr 1;have:l*sz+(h-l)*sz=h*sz:=by rw[<-Nat.add_mul];congr 1;omega
        omega
 ·rw[if_neg e]
  by_cases ef:lin=.frz
  ·rw[if_pos ef];trivial
  ·rw[if_neg ef];exact fc hlin ef
theorem tX {b off cap sz l h:Nat}{es:List AV}(h1:l<=h)(h2:h<=es.length)(hlc:es.length<=cap)(hi:ImmTo G b (off+es.length*sz))(he:VElems G w b sz off es) :
  ImmTo G b ((if cap=l then off else off+l*sz)+((es.take h).drop l).length*sz)/\VElems G w b sz (if cap=l then off else off+l*sz) ((es.take h).drop l):=by
 have hlen:((es.take h).drop l).length=h-l:=by simp;omega
 obtain ⟨u,hu1,hu2⟩:=hi
 have hle:l*sz+(h-l)*sz<=es.length*sz:=by
  rw[<-Nat.add_mul];exact Nat.mul_le_mul_right sz (by omega)
 by_cases e1:cap=l
 ·have:h-l=0:=by omega
  rw[if_pos e1,hlen,this];refine ⟨⟨u,hu1,by omega⟩,?_⟩
  have:(es.take h).drop l=[]:=List.length_eq_zero_iff.1 (by omega)
  rw[this];simp[VElems]
 ·rw[if_neg e1,hlen];exact ⟨⟨u,hu1,by omega⟩,VElems.drop l (VElems.take h he) (by simp;omega)⟩
theorem Bc {t:ByteArray}{s:List Nat}(h:t.data.toList.map (·.toNat)=s)(l k:Nat):(t.extract l k).data.toList.map (·.toNat)=(s.take k).drop l:=by
 subst h;simp[ByteArray.data_extract,Array.toList_extract,List.drop_take,List.map_take,List.map_drop]
theorem VOpt.none {x:Option Value}(h:VOpt G w none x):x=.none:=by
 cases x with
 | none=>rfl
 | some v=>exact h.elim
theorem VOpt.some {b:AV}{x:Option Value}(h:VOpt G w (some b) x):∃ v,x=.some v/\VR G w b v:=by
 cases x with
 | none=>exact h.elim
 | some v=>exact ⟨v,rfl,h⟩
theorem Gx (r:Rel C G H w)(ht:VList G w tmps ca.tmps.toList){x:Operand}{lo hi mx:Option Operand}{t:TypeId}{b:AV}{l h m:Option AV}(ho:o.op=.slice t x lo hi mx)
  (hx:cM C tmps x=some b) (hl:iy C tmps lo=some l) (hh:iy C tmps hi=some h) (hm:iy C tmps mx=some m) (hs:bt C t b l h m=some a):PureOk C G H w o ca a:=by
 have hv:=bd r ht hx;have hvl:=jR r ht hl;have hvh:=jR r ht hh;have hvm:=jR r ht hm;unfold bt at hs
 split at hs
 ·rename_i n s hn hu
  split at hs
  ·rename_i k hk
   split at hs
   ·rename_i hc;obtain ⟨c1,c2,c3⟩:=hc;simp only[SJ] at hs;subst hs;obtain ⟨t',h1,h2⟩:=VR.str_inv hv;have hsz:t'.size=s.length:=by rw[<-h2,List.length_map];rfl
    have hm0:m=none:=by simpa using c1
    subst hm0;have hmx:=hvm.none
    refine PureOk.same (v:=.string (t'.extract n k)) r ?_ (by
     simp only[VR];exact ⟨_,rfl,Bc h2 n k⟩)
    have hb:=gQ (isS:=false) (len:=t'.size) (cap:=t'.size) hn (by rw[hsz];exact hk) hvl hvh c2 (by omega) C.P w
    simp[execOp,ho,Instr.sliceAt,Instr.slice,aE hu,h1,hmx,hb]
   ·cases hs
  ·cases hs
 ·rename_i n e hn hu
  split at hs
  ·rename_i k q hk hq
   split at hs
   ·rename_i hc;obtain ⟨c1,c2⟩:=hc;subst c1;subst c2;simp only[VR] at hv
    split at hs
    ·simp only[SJ] at hs;subst hs;have hmx:=hvm.none;have hb:=gQ (isS:=true) (len:=0) (cap:=0) hn hk hvl hvh (Nat.le_refl _) (Nat.le_refl _) C.P w;refine PureOk.same (v:=.slice none 0 0) r ?_ (by simp[VR])
     simp[execOp,ho,Instr.sliceAt,Instr.slice,aE hu,hv,hmx,hb,bZ hq]
    ·rename_i mv
     split at hs
     ·rename_i j hj
      split at hs
      ·rename_i hc2;obtain ⟨rfl,hsome⟩:=hc2;simp only[SJ] at hs;subst hs;obtain ⟨vm,hmv,hvm'⟩:=hvm.some;obtain ⟨hh1,rfl⟩:=Option.isSome_iff_exists.1 hsome;obtain ⟨vh,hvs,hvh'⟩:=hvh.some;have hb:=mc (isS:=true) (len:=0) (cap:=0) hn hk hj hvl hvh hvm' (by rw[hvs];rfl) (Nat.le_refl _) (Nat.le_refl _) (Nat.le_refl _) C.P w
       refine PureOk.same (v:=.slice none 0 0) r ?_ (by simp[VR])
       simp[execOp,ho,Instr.sliceAt,Instr.slice,aE hu,hv,hmv,hb,bZ hq]
      ·cases hs
     ·cases hs
   ·cases hs
  ·cases hs
 ·rename_i n e sz es lin hn hu
  split at hs
  ·rename_i k q hk hq
   split at hs
   ·rename_i hc;obtain ⟨c1,c2,rfl⟩:=hc;simp only[VR] at hv;obtain ⟨bl,off,cap,h1,h2,h3,h4,h5⟩:=hv
    split at hs
    ·simp only[SJ] at hs;subst hs;have hmx:=hvm.none;have hb:=gQ (isS:=true) (len:=es.length) (cap:=cap) hn hk hvl hvh c1 (by omega) C.P w
     obtain ⟨e1,e2⟩:=tX c1 c2 h2 h3 h5;have hlen:((es.take k).drop n).length=k-n:=by simp;omega
     refine PureOk.same (v:=.slice (some ⟨bl,if cap=n then off else off+n*q,none⟩) (k-n) (cap-n)) r ?_ (by
      simp only[VR];refine ⟨bl,_,cap-n,by rw[hlen],by omega,e1,?_,e2⟩
      rw[hlen];exact It h4 c1 c2 h2)
     simp only[execOp,ho,Instr.sliceAt,Instr.slice,aE hu,h1,hmx,hb,bZ hq,Sem.run_bind,Result.andThen_ok,Sem.run_pure]
     by_cases e1:cap=n
     ·simp[e1]
     ·simp[e1,Addr.add_mk]
    ·rename_i mv
     split at hs
     ·rename_i j hj
      split at hs
      ·rename_i hc2;obtain ⟨rfl,hnf,hsome⟩:=hc2;simp only[SJ] at hs;subst hs;obtain ⟨vm,hmv,hvm'⟩:=hvm.some;have hlen:((es.take j).drop n).length=j-n:=by simp;omega
       obtain ⟨hh1,rfl⟩:=Option.isSome_iff_exists.1 hsome;obtain ⟨vh,hvs,hvh'⟩:=hvh.some;have hb:=mc (isS:=true) (len:=es.length) (cap:=cap) hn hk hj hvl hvh hvm' (by rw[hvs];rfl) c1 (Nat.le_refl _) (by omega) C.P w
       obtain ⟨e1,e2⟩:=tX (cap:=j) (es:=es.take j) (h:=j) c1 (by simp;omega) (by simp;omega) (by
        obtain ⟨u,g1,g2⟩:=h3
        exact ⟨u,g1,by
         have:(es.take j).length*q<=es.length*q:=Nat.mul_le_mul_right q (by simp;omega)
         omega⟩) (VElems.take j h5)
       rw[List.take_take,Nat.min_self] at e1 e2
       refine PureOk.same (v:=.slice (some ⟨bl,if j=n then off else off+n*q,none⟩) (j-n) (j-n)) r ?_ (by
        simp only[VR];refine ⟨bl,_,j-n,by rw[hlen],by omega,e1,?_,e2⟩
        rw[hlen];obtain ⟨p,hp⟩:=fc h4 hnf;refine ⟨rfl,p,hp,?_⟩;obtain ⟨c,el,hc1,hc2⟩:=hp;obtain ⟨u,g1,g2⟩:=e1;obtain ⟨c',el',fz',g3,g4⟩:=r.immE _ _ g1;rw[hc1] at g3;simp only[SJ,Obj.cells.injEq] at g3;obtain ⟨rfl,_,_⟩:=g3;rw[hlen] at g2;omega)
       simp only[execOp,ho,Instr.sliceAt,Instr.slice,aE hu,h1,hmv,hb,bZ hq,Sem.run_bind,Result.andThen_ok,Sem.run_pure]
       by_cases e1:j=n
       ·simp[e1]
       ·simp[e1,Addr.add_mk]
      ·cases hs
     ·cases hs
   ·cases hs
  ·cases hs
 ·rename_i n e q off len cap sz hn hu
  split at hs
  ·rename_i k p hk hp
   split at hs
   ·rename_i hc;obtain ⟨c0,c1,c2,c3,rfl⟩:=hc;simp only[SJ] at hs;subst hs;have hm0:m=none:=by simpa using c0
    subst hm0;have hmx:=hvm.none;simp only[VR] at hv;obtain ⟨g,bl,cap',h1,h2,h3,h4,h5⟩:=hv;have hb:=gQ (isS:=true) (len:=len) (cap:=cap') hn hk hvl hvh c1 (by omega) C.P w
    have hne:¬ cap'=n:=by omega
    refine PureOk.same (v:=.slice (some ⟨bl,off+n*p,none⟩) (k-n) (cap'-n)) r ?_ (by
     simp only[VR];refine ⟨g,bl,cap'-n,h1,rfl,by omega,by omega,λb' e=>?_⟩
     obtain ⟨a1,m,a2,a3⟩:=h5 b' e;refine ⟨a1,m,a2,?_⟩;have:n*p+(cap'-n)*p=cap'*p:=by rw[<-Nat.add_mul];congr 1;omega
     omega)
    simp[execOp,ho,Instr.sliceAt,Instr.slice,aE hu,h2,hmx,hb,bZ hp,hne,Addr.add_mk]
   ·cases hs
  ·cases hs
 ·cases hs
theorem oX {b:Nat}:∀ {es:List AV} {l:List Nat} {off:Nat},bytesAV es=some l->VElems G w b 1 off es ->
  ∃ bs:List UInt8,bs.map (·.toNat)=l/\bs.length=es.length/\∀ i c,bs[i]?=some c->cellAt w b (off+i)=some (.int .u8 c.toNat)
 | [],l,off,h,_=>by
   simp only[bytesAV,SJ] at h;subst h;exact ⟨[],rfl,rfl,by simp⟩
 | e::r,l,off,h,hv=>by
   unfold bytesAV at h
   split at h
   ·rename_i heq;cases heq
   ·rename_i n r' heq;cases heq
    split at h
    ·rename_i hn
     split at h
     ·rename_i l' hl';simp only[SJ] at h;subst h;simp only[VElems] at hv;obtain ⟨h1,h2,h3⟩:=hv;obtain ⟨bs,g1,g2,g3⟩:=oX hl' h3;refine ⟨UInt8.ofNat n.toNat::bs,?_,by simp[g2],λi c hc=>?_⟩
      ·simp only[List.map_cons,g1]
       congr 1
       simp;omega
      ·cases i with
       | zero =>
         simp at hc;subst hc
         rcases h2 with ⟨_,x,h4,h5⟩|h2
         ·simp only[VR] at h5;subst h5;simp only[Nat.add_zero,h4]
          congr 2
          simp;omega
         ·simp[VAgg] at h2
       | succ i =>
         simp at hc;have:=g3 i c hc
         rwa [show off+(i+1)=off+1+i by omega]
     ·cases h
    ·cases h
   ·cases h
theorem nr (P:List UInt8->Prop:=λ_=>True):∀ (bs:List UInt8) (r:ByteArray),((bs.map λc=>(c.toNat:Int)).foldl (λr n=>r.push (UInt8.ofNat n.toNat)) r).data.toList=r.data.toList++bs
 | [],r=>by simp
 | c::bs,r=>by
   simp only[List.map_cons,List.foldl_cons];rw[nr P bs];simp[ByteArray.push]
theorem flat_ones:∀ {l:List AV},(∀ x∈l,x.one=true)->ak l=l
 | [],_=>by simp[ak]
 | e::r,h=>by
   have he:ak (e::r)=e.cells++ak r:=by simp[ak]
   rw[he,flat_ones (λx hx=>h x (by simp[hx])),AV.one_cells (h e (by simp))];rfl
theorem rC {e:TypeId}(h:Bo C e=true):C.P.underlying e=some (.int .u8):=by
 unfold Bo at h
 split at h
 ·assumption
 ·cases h
theorem pg (w:World)(c:Array Value)(el:TypeId)(d:Nat) :
  Pushed w (({ w with drawn:=d,heap:=w.heap.push (.cells c el) }:World).freeze ⟨w.heap.size,c.size,none⟩ 1) (.cells c el (c.size,c.size+1)):=by
 refine ⟨?_,rfl,rfl,rfl⟩;simp only[World.freeze,Nat.one_ne_zero,if_false];apply Array.ext_getElem?;intro i;rw[Array.getElem?_modify,Array.getElem?_push,Array.getElem?_push]
 by_cases hi:i=w.heap.size
 ·subst hi;simp
 ·rw[if_neg (λe=>hi e.symm),if_neg hi,if_neg hi]
def lO (w:World)(e:TypeId)(n:Nat):Nat:=(Question.appendCap n 0 e).cut (w.tape w.drawn (.appendCap n 0 e))
def ot (t:ByteArray)(cap:Nat):Array Value:=(t.data.map λb=>Value.int .u8 b.toNat)++Array.replicate (cap-t.size) (.int .u8 0)
theorem IY (P:Program)(w:World)(e:TypeId)(t:ByteArray):(Conv.stringToBytes e t).run P w=.ok (.slice (some ⟨w.heap.size,0,none⟩) t.size (lO w e t.size))
  (({ w with drawn:=w.drawn+1,heap:=w.heap.push (.cells (ot t (lO w e t.size)) e) }:World).freeze ⟨w.heap.size,(ot t (lO w e t.size)).size,none⟩ 1):=by
 have hch:(choose (Question.appendCap t.size 0 e)).run P w=.ok (lO w e t.size) { w with drawn:=w.drawn+1 }:=by rw[run_choose];rfl
 have hsh:∀ (c:Array Value) (d:Nat),({ heap:=w.heap.push (.cells c e),tape:=w.tape,drawn:=d,os:=w.os,output:=w.output }:World).shape? w.heap.size=some (e,c.size):=by
  intro c d;simp[World.shape?]
 simp only[Conv.stringToBytes,Sem.run_bind,hch,Result.andThen_ok,newRow,run_newObj,Sem.run_pure,markStringish,run_shape];rw[hsh];rfl
theorem wx (r:Rel C G H w)(ht:VList G w tmps ca.tmps.toList){x:Operand}{s d:TypeId}{b:AV}(ho:o.op=.convert s d x)
  (hx:cM C tmps x=some b) (h:bp C s d b=some a):PureOk C G H w o ca a:=by
 have hv:=bd r ht hx;unfold bp at h
 split at h
 ·rename_i ds k j n hs hd;simp only[SJ] at h;subst h;simp only[VR] at hv;refine PureOk.same (v:=.int k (k.wrap n)) r ?_ (by simp[VR])
  simp only[execOp,ho,convert,Sem.run_bind,aE hs,aE hd,Result.andThen_ok,hv];cases ds<;>rfl
 ·rename_i ds t hs hd;simp only[SJ] at h;subst h;obtain ⟨t',h1,h2⟩:=VR.str_inv hv;refine PureOk.same (v:=.string t') r ?_ (by simp only[VR];exact ⟨t',rfl,h2⟩)
  simp only[execOp,ho,convert,Sem.run_bind,aE hs,aE hd,Result.andThen_ok,h1];cases ds<;>rfl
 ·rename_i ds e t hs hd
  split at h
  ·rename_i hc;simp only[SJ] at h;subst h;obtain ⟨t',h1,h2⟩:=VR.str_inv hv;have hu:=rC hc.1;generalize hcapd:lO w e t'.size=cap;have hcap:t'.size<=cap:=by rw[<-hcapd];simp[lO,Question.cut]
   generalize hcd:ot t' cap=c
   have hcs:c.size=cap:=by
    rw[<-hcd];simp only[ot,Array.size_append,Array.size_map,Array.size_replicate];have:t'.data.size=t'.size:=rfl;omega
   let w' : World:=({ w with drawn:=w.drawn+1,heap:=w.heap.push (.cells c e) }:World).freeze ⟨w.heap.size,c.size,none⟩ 1
   have hp:Pushed w w' (.cells c e (c.size,c.size+1)):=pg w c e (w.drawn+1)
   have e2:(Conv.stringToBytes e t').run C.P w=.ok (.slice (some ⟨w.heap.size,0,none⟩) t'.size cap) w':=by
    rw[IY,hcapd,hcd]
   have hrun:(execOp ca.eval o).run C.P w=.ok (.value (.slice (some ⟨w.heap.size,0,none⟩) t'.size cap)) w':=by
    simp only[execOp,ho,convert,Sem.run_bind,aE hs,aE hd,Result.andThen_ok,h1];cases ds<;>simp[aE hu,e2]
   obtain ⟨r',st⟩:=r.addImm' hp (u:=t'.size) (by omega)
   refine ⟨_,w',_,hrun,r',st,?_⟩;simp only[VR];have hl:(t.map λ(b:Nat)=>AV.int .u8 b).length=t'.size:=by rw[List.length_map,<-h2,List.length_map];rfl
   refine ⟨w.heap.size,0,cap,by rw[hl],by rw[hl];exact hcap,⟨t'.size,by show b9 _ _ _ _=_;rw[aN],by rw[hl];omega⟩,trivial,?_⟩
   refine VElems.of_row (λx hx=>?_) ?_
   ·simp only[List.mem_map] at hx;obtain ⟨y,_,rfl⟩:=hx;simp[AV.cells,AV.one]
   ·have hfl:ak (t.map λ(b:Nat)=>AV.int .u8 b)=t.map λ(b:Nat)=>AV.int .u8 b:=by
     exact flat_ones (λx hx=>by
      simp only[List.mem_map] at hx;obtain ⟨y,_,rfl⟩:=hx;rfl)
    rw[hfl];refine VRow.of_list (m:=t'.data.toList.map λb=>Value.int .u8 b.toNat) ?_ ?_
    ·subst h2
     clear hl hfl hc hv
     induction t'.data.toList with
     | nil=>simp[VList]
     | cons y l ih=>simp only[List.map_cons,VList];exact ⟨_,_,rfl,by simp[VR],ih⟩
    ·intro i z hz
     have hi:i<t'.data.size:=by
      rcases Nat.lt_or_ge i t'.data.size with g|g
      ·exact g
      ·rw[List.getElem?_eq_none (by simpa using g)] at hz;cases hz
     rw[cW hp.new,Nat.zero_add];rw[<-hcd,ot,Array.getElem?_append_left (by simpa using hi)]
     simpa using hz
  ·cases h
 ·rename_i e hs hd
  split at h
  ·rename_i hc;have hu:=rC hc;simp only[SJ] at h;subst h;simp only[VR] at hv;refine PureOk.same (v:=.string .empty) r ?_ (by simp only[VR];exact ⟨_,rfl,rfl⟩)
   simp[execOp,ho,convert,aE hs,aE hd,aE hu,hv,Conv.bytesToString]
  ·cases h
 ·rename_i e sz es lin hs hd
  split at h
  ·rename_i hc;obtain ⟨hc,rfl⟩:=hc;have hu:=rC hc
   split at h
   ·rename_i l hl;simp only[SJ] at h;subst h;simp only[VR] at hv;obtain ⟨bl,off,cap,h1,h2,h3,h4,h5⟩:=hv;obtain ⟨bs,g1,g2,g3⟩:=oX hl h5
    have hload:(loadCells ⟨bl,off,none⟩ es.length).run C.P w=.ok (((bs.map λc=>(c.toNat:Int)).map (Value.int .u8))).toArray w:=by
     have hlen:es.length=((bs.map λc=>(c.toNat:Int)).map (Value.int .u8)).length:=by simp[g2]
     rw[hlen];refine run_loadCells_list (P:=C.P) w ⟨bl,off,none⟩ _ (λj v hj=>?_)
     simp only[List.map_map,List.getElem?_map,Option.map_eq_some_iff] at hj;obtain ⟨y,hy1,rfl⟩:=hj;rw[Addr.add_mk];exact g3 j y hy1
    refine PureOk.same (v:=.string ((bs.map λc=>(c.toNat:Int)).foldl (λr n=>r.push (UInt8.ofNat n.toNat)) ByteArray.empty)) r ?_ (by
     simp only[VR];refine ⟨_,rfl,?_⟩;rw[nr (λ_=>True),<-g1];rfl)
    simp only[execOp,ho,convert,aE hs,aE hd,aE hu,h1,Sem.run_bind,Result.andThen_ok,run_bytesToString w _ _ _ _ hload,Sem.run_pure]
   ·cases h
  ·cases h
 ·cases h
end
theorem pB (off:Nat):∀ (l:List Value) (k:Nat) (c:Array Value),off+k+l.length<=c.size ->
  ((l.zipIdx k).foldl (λcs p=>cs.setIfInBounds (off+p.2) p.1) c).toList=c.toList.take (off+k)++l++c.toList.drop (off+k+l.length)
 | [],k,c,h=>by simp
 | v::l,k,c,h=>by
   simp only[List.length_cons] at h;simp only[List.zipIdx_cons,List.foldl_cons];rw[pB off l (k+1) _ (by simp;omega)]
   simp only[Array.toList_setIfInBounds,List.length_cons];have:=list_seg_step c.toList (off+k) v l (by simp;omega)
   rw[<-this,show off+(k+1)=off+k+1 by omega]
section
variable {C:Cfg}{G:Gh}{H:Heap}{w:World}{tmps:List AV}{ca:Go.Act}{o:Oper}{a:AV}
theorem VList.put {l vs:List AV}{m ms:List Value}(h:VList G w l m)(h' : VList G w vs ms)(off:Nat) :
  VList G w (a9 l off vs) (m.take off++ms++m.drop (off+ms.length)):=by
 unfold a9;rw[VList.length h'];exact VList.append (VList.append (VList.take off h) h') (VList.drop _ h)
theorem mJ {place:Nat->Option (Nat×Nat)}:∀ {parts:List (Nat×AV)} {cs cs' : List AV} {c:Array Value} {cp:List (Nat×Value)},
  hY place cs parts=some cs'->VList G w cs c.toList->lC G w parts cp->∃ c',Instr.fill place c cp=some c'/\VList G w cs' c'.toList
 | [],cs,cs',c,cp,h,hc,hp=>by
   simp only[hY,SJ] at h;subst h;simp only[lC] at hp;subst hp;exact ⟨c,rfl,hc⟩
 | (i,v)::parts,cs,cs',c,cp,h,hc,hp=>by
   obtain ⟨x,cp',rfl,h1,h2⟩:=hp;unfold hY at h
   split at h
   ·cases h
   ·rename_i off size hpl
    split at h
    ·rename_i hcond;obtain ⟨c1,c2,c3⟩:=hcond;have hx:=VR.cells c3 h1;have hxl:x.cells.size=v.cells.length:=(VList.length hx).symm;have hcl:c.size=cs.length:=(VList.length hc).symm;have hput:=VList.put hc hx off
     have e1:(x.cells.zipIdx.foldl (λcs (c,j)=>cs.setIfInBounds (off+j) c) c).toList=c.toList.take off++x.cells.toList++c.toList.drop (off+x.cells.toList.length):=by
      rw[<-Array.foldl_toList,Array.toList_zipIdx];have:=pB off x.cells.toList 0 c (by simp;omega)
      simpa using this
     rw[<-e1] at hput;obtain ⟨c',g1,g2⟩:=mJ h hput h2;refine ⟨c',?_,g2⟩;simp only[Instr.fill,hpl];rw[if_neg (by simp;omega)]
     exact g1
    ·cases h
theorem run_places:∀ {fs:List Field} {pl:List (Nat×Nat)},placesAV C fs=some pl->∀ w',(fs.mapM λf=>(do pure (f.offset,<-sizeOf f.type):Sem (Nat×Nat))).run C.P w'=.ok pl w'
 | [],pl,h,w'=>by simp only[placesAV,SJ] at h;subst h;simp
 | f::r,pl,h,w'=>by
   simp only[placesAV] at h
   split at h
   ·rename_i n l h1 h2;simp only[SJ] at h;subst h;have:=run_places h2 w';simp only[List.mapM_cons,Sem.run_bind,bZ h1,Result.andThen_ok,Sem.run_pure,this]
   ·cases h
theorem Ds (r:Rel C G H w)(ht:VList G w tmps ca.tmps.toList){t:TypeId}{ps:Array (Nat×Operand)}{l:List (Nat×AV)}(ho:o.op=.build t ps)
  (hl:dO C tmps ps.toList=some l) (h:ao C t l=some a):PureOk C G H w o ca a:=by
 have hp:=kX r ht hl;unfold ao at h
 split at h
 ·rename_i z fields hz hu;obtain ⟨zv,hz1,hz2⟩:=ej hz w;have hzv:VR G w z zv:=ofConst_ok _ _ hz2
  split at h
  ·rename_i pl hpl
   split at h
   ·rename_i cs hcs;simp only[SJ] at h;subst h
    have hzc:VList G w z.cells zv.cells.toList:=by
     exact VR.cells (eh hz).1 hzv
    obtain ⟨c',g1,g2⟩:=mJ hcs hzc hp;refine PureOk.same (v:=.agg c') r ?_ (by simp only[VR];exact ⟨_,rfl,g2⟩)
    simp only[execOp,ho,Instr.build,Sem.run_bind,hz1,aE hu,Result.andThen_ok,Array.mapM_eq_mapM_toList,Sem.run_map,run_places hpl];simp[g1]
   ·cases h
  ·cases h
 ·rename_i z len elem hz hu;obtain ⟨zv,hz1,hz2⟩:=ej hz w;have hzv:VR G w z zv:=ofConst_ok _ _ hz2
  split at h
  ·rename_i n hn
   split at h
   ·rename_i cs hcs;simp only[SJ] at h;subst h;have hzc:VList G w z.cells zv.cells.toList:=VR.cells (eh hz).1 hzv;obtain ⟨c',g1,g2⟩:=mJ hcs hzc hp;refine PureOk.same (v:=.agg c') r ?_ (by simp only[VR];exact ⟨_,rfl,g2⟩)
    simp only[execOp,ho,Instr.build,Sem.run_bind,hz1,aE hu,Result.andThen_ok,bZ hn];simp[g1]
   ·cases h
  ·cases h
 ·cases h
theorem sK {sz:Nat}:∀ {es:List AV} {i:Nat} {v:AV},(∀ e∈es,e.cells.length=sz)->v.cells.length=sz->i<es.length ->
  ak (es.set i v)=a9 (ak es) (i*sz) v.cells
 | [],i,v,hs,hv,hi=>by simp at hi
 | e::r,i,v,hs,hv,hi=>by
   have he:ak (e::r)=e.cells++ak r:=by simp[ak]
   have hel:e.cells.length=sz:=hs e (by simp)
   cases i with
   | zero =>
     have h1:ak ((e::r).set 0 v)=v.cells++ak r:=by simp[ak]
     rw[h1,he];simp only[a9,Nat.zero_mul,List.take_zero,List.nil_append,Nat.zero_add,hv];rw[List.drop_left' hel]
   | succ i =>
     have h1:ak ((e::r).set (i+1) v)=e.cells++ak (r.set i v):=by simp[ak]
     rw[h1,he,sK (λx hx=>hs x (by simp[hx])) hv (by simpa using hi)]
     unfold a9;rw[List.take_append,List.drop_append,hel];have h2:(i+1)*sz-sz=i*sz:=by rw[Nat.succ_mul];omega
     have h3:(i+1)*sz+v.cells.length-sz=i*sz+v.cells.length:=by rw[Nat.succ_mul];omega
     rw[h2,h3,List.take_of_length_le (l:=e.cells) (by rw[hel,Nat.succ_mul];omega),List.drop_of_length_le (l:=e.cells) (by rw[hel,Nat.succ_mul];omega)]
     simp
theorem iw {sz:Nat}:∀ {parts:List (Nat×AV)} {es es' : List AV},eN sz es parts=some es'->(∀ e∈es,e.cells.length=sz/\e.cells.all AV.one=true) ->
  (∀ e∈es',e.cells.length=sz/\e.cells.all AV.one=true)/\es'.length=es.length
 | [],es,es',h,hs=>by simp only[eN,SJ] at h;subst h;exact ⟨hs,rfl⟩
 | (i,v)::parts,es,es',h,hs=>by
   unfold eN at h
   split at h
   ·rename_i hc;obtain ⟨c1,c2,c3⟩:=hc
    have:=iw h (λe he=>by
     rcases List.mem_or_eq_of_mem_set he with h1|h1
     ·exact hs e h1
     ·subst h1;exact ⟨c1,c3⟩)
    exact ⟨this.1,by simpa using this.2⟩
   ·cases h
theorem jA {sz:Nat}:∀ {parts:List (Nat×AV)} {es es' : List AV},eN sz es parts=some es'->(∀ e∈es,e.cells.length=sz/\e.cells.all AV.one=true) ->
  hY (λi=>some (i*sz,sz)) (ak es) parts=some (ak es')
 | [],es,es',h,hs=>by simp only[eN,SJ] at h;subst h;rfl
 | (i,v)::parts,es,es',h,hs=>by
   unfold eN at h
   split at h
   ·rename_i hc;obtain ⟨c1,c2,c3⟩:=hc
    have ih:=jA h (λe he=>by
     rcases List.mem_or_eq_of_mem_set he with h1|h1
     ·exact hs e h1
     ·subst h1;exact ⟨c1,c3⟩)
    unfold hY;have hlen:=bD (l:=es) (λe he=>(hs e he).1)
    have hle:i*sz+sz<=es.length*sz:=by
     have:=Nat.mul_le_mul_right sz (Nat.succ_le_of_lt c2)
     rwa [Nat.succ_mul] at this
    show (if v.cells.length=sz/\i*sz+v.cells.length<=(ak es).length/\v.cells.all AV.one=true then hY (λi=>some (i*sz,sz)) (a9 (ak es) (i*sz) v.cells) parts else none)=_
    rw[if_pos ⟨c1,by rw[hlen,c1];exact hle,c3⟩,<-sK (λe he=>(hs e he).1) c1 c2]
    exact ih
   ·cases h
theorem pP {sz n:Nat}{z:AV}{zc:Array Value}(hz:VList G w z.cells zc.toList)(hl:z.cells.length=sz)(hs:0<sz) :
  VList G w (ak (List.replicate n z)) ((Array.range (n*sz)).map (zc[· % zc.size]!)).toList:=by
 have hzs:zc.size=sz:=by rw[<-hl];exact (VList.length hz).symm
 induction n with
 | zero=>simp[ak,VList]
 | succ n ih =>
   have h1:ak (List.replicate (n+1) z)=ak (List.replicate n z)++z.cells:=by
    rw[List.replicate_succ'];simp[ak]
   have h2:((Array.range ((n+1)*sz)).map (zc[· % zc.size]!)).toList=((Array.range (n*sz)).map (zc[· % zc.size]!)).toList++zc.toList:=by
    apply List.ext_getElem?;intro i;simp only[Array.toList_map,Array.toList_range,List.getElem?_map,List.getElem?_append,List.length_map,List.length_range]
    by_cases h3:i<n*sz
    ·rw[if_pos h3,List.getElem?_range (by rw[Nat.succ_mul];omega),List.getElem?_range h3]
    ·rw[if_neg h3]
     by_cases h4:i<(n+1)*sz
     ·rw[List.getElem?_range h4];have h5:i-n*sz<zc.size:=by rw[Nat.succ_mul] at h4;omega
      have h6:i % zc.size=i-n*sz:=by
       have:i=(i-n*sz)+n*zc.size:=by rw[hzs];omega
       conv=>lhs;rw[this]
       rw[Nat.add_mul_mod_self_right,Nat.mod_eq_of_lt h5]
      simp only[Option.map_some,h6];rw[getElem!_pos zc _ h5];simp[h5]
     ·rw[List.getElem?_eq_none (by simp;omega),List.getElem?_eq_none (by simp;rw[Nat.succ_mul] at h4;omega)]
      rfl
   rw[h1,h2];exact VList.append ih hz
theorem yw (r:Rel C G H w)(ht:VList G w tmps ca.tmps.toList){t:TypeId}{n:Nat}{ps:Array (Nat×Operand)}{l:List (Nat×AV)}{sz:Nat}{es:List AV}(ho:o.op=.buildSlice t n ps)
  (hl:dO C tmps ps.toList=some l) (h:fZ C t n l=some (sz,es)) :
  ∃ (c:Array Value) (e:TypeId) (w' : World),Pushed w w' (.cells c e (0,0))/\(execOp ca.eval o).run C.P w=.ok (.value (.slice (some ⟨w.heap.size,0,none⟩) n n)) w' /\
    VList G w (ak es) c.toList/\es.length=n/\0<sz/\(∀ e∈es,e.cells.length=sz/\e.cells.all AV.one=true):=by
 have hp:=kX r ht hl;unfold fZ at h
 split at h
 ·cases h
 ·rename_i e he;unfold bK at he
  split at he
  ·rename_i e' hu;simp only[SJ] at he;subst he
   split at h
   ·rename_i sz' z hsz hz
    split at h
    ·rename_i hc;obtain ⟨c1,c2,c3⟩:=hc
     split at h
     ·rename_i es' hes;simp only[SJ,PJ] at h;obtain ⟨rfl,rfl⟩:=h;obtain ⟨zv,hz1,hz2⟩:=ej hz w;have hzv:VR G w z zv:=ofConst_ok _ _ hz2;have hzc:VList G w z.cells zv.cells.toList:=VR.cells (eh hz).1 hzv
      have hs0:∀ e∈List.replicate n z,e.cells.length=sz'/\e.cells.all AV.one=true:=λe he=>by
       rw[List.eq_of_mem_replicate he];exact ⟨c3,(eh hz).1⟩
      have hfill:=jA hes hs0;have hsizes:=iw hes hs0;have hrow:=pP (n:=n) hzc c3 c1;obtain ⟨c',g1,g2⟩:=mJ hfill hrow hp;refine ⟨c',e',{ w with heap:=w.heap.push (.cells c' e') },⟨rfl,rfl,rfl,rfl⟩,?_,g2,by simpa using hsizes.2,c1,hsizes.1⟩
      simp only[execOp,ho,Instr.buildSlice,Sem.run_bind,aE hu,bZ hsz,Result.andThen_ok];rw[if_neg (by omega)]
      by_cases h0:n*sz'=0
      ·simp only[h0,if_true,Sem.run_pure,Result.andThen_ok]
       have hn:n=0:=by
        rcases Nat.mul_eq_zero.1 h0 with h|h
        ·exact h
        ·omega
       subst hn;have e0:∀ f:Nat->Value,Array.map f (Array.range (0*sz'))=#[]:=by intro f;rw[Nat.zero_mul];apply Array.ext';simp
       have e1:∀ f:Nat->Value,Array.map f (Array.range 0)=#[]:=by intro f;apply Array.ext';simp
       rw[e0] at g1;simp[g1,newRow,e1]
      ·simp only[h0,if_false,Sem.run_bind,hz1,Result.andThen_ok,Sem.run_pure];simp[g1,newRow]
     ·cases h
    ·cases h
   ·cases h
  ·cases he
end
section
variable {C:Cfg}{G:Gh}{H:Heap}{w:World}{tmps:List AV}{ca:Go.Act}{o:Oper}{a:AV}
theorem jY {G:Gh}{w:World}{b:Nat}{c:Array Value}{el:TypeId}{fz:Nat×Nat}(h:w.heap[b]?=some (.cells c el fz)){l:List AV}(hl:VList G w l c.toList) :
  VRow G w b 0 l:=by
 refine VRow.of_list hl (λi x hx=>?_)
 rw[cW h];simpa using hx
theorem SM (r:Rel C G H w)(ht:VList G w tmps ca.tmps.toList){t:TypeId}{n:Nat}{ps:Array (Nat×Operand)}{l:List (Nat×AV)}{sz:Nat}{es:List AV}(ho:o.op=.buildSlice t n ps)
  (hl:dO C tmps ps.toList=some l) (h:fZ C t n l=some (sz,es)):PureOk C G H w o ca (.sl sz es .lit):=by
 obtain ⟨c,e,w',hp,hrun,hv,hn,hsz,hes⟩:=yw r ht ho hl h;have hlen:=bD (l:=es) (λe he=>(hes e he).1)
 have hcs:c.size=n*sz:=by
  have:=VList.length hv;rw[hlen,hn] at this;simpa using this.symm
 have hr:=r.addImm' hp (u:=n*sz) (by omega)
 refine ⟨_,w',_,hrun,hr.1,hr.2,?_⟩;have hv':=VList.mono hr.2.ext _ _ hv;have hrow:=jY hp.new hv';simp only[VR];have himm:(G.addImm w.heap.size (n*sz)).imm w.heap.size=some (n*sz):=aN;refine ⟨w.heap.size,0,n,by rw[hn],by omega,⟨n*sz,himm,by rw[hn];omega⟩,⟨rfl,by omega,?_⟩,VElems.of_row hes hrow⟩
 exact ⟨c,e,hp.new,by rw[hcs,hn]⟩
theorem Ay (r:Rel C G H w)(ht:VList G w tmps ca.tmps.toList){f:FuncId}(h:bE C f tmps o=some a):PureOk C G H w o ca a:=by
 unfold bE at h
 split at h
 ·rename_i x ho;exact Aa r ht (.inl ho) h
 ·rename_i x ho;exact Aa r ht (.inr ho) h
 ·rename_i c x y ho
  split at h
  ·rename_i hc;exact AA r ht ho hc (by simpa using h)
  ·rename_i hc;exact AA r ht ho hc (by simpa using h)
  ·cases h
 ·rename_i t ps ho
  split at h
  ·rename_i l hl;exact Ds r ht ho hl h
  ·cases h
 ·rename_i t n ps ho
  split at h
  ·cases h
  ·split at h
   ·rename_i l hl
    split at h
    ·rename_i sz es hlit;simp only[SJ] at h;subst h;exact SM r ht ho hl hlit
    ·cases h
   ·cases h
 ·rename_i x ho
  split at h
  ·rename_i n off hx;simp only[SJ] at h;subst h;exact lY r ht ho hx (.inl ⟨_,_,rfl⟩)
  ·rename_i xs hx;simp only[SJ] at h;subst h;exact lY r ht ho hx (.inr ⟨_,rfl⟩)
  ·cases h
 ·rename_i op t x y yt ho
  split at h
  ·rename_i p q hx hy
   split at h
   ·rename_i hg;exact FX r ht ho hx hy hg h
   ·cases h
  ·cases h
 ·rename_i op t x ho
  split at h
  ·rename_i b hx;exact IT r ht ho hx h
  ·cases h
 ·rename_i s d x ho
  split at h
  ·rename_i b hx;exact wx r ht ho hx h
  ·cases h
 ·rename_i t x ho
  split at h
  ·cases h
  ·rename_i d b hn hd hx;simp only[SJ] at h;subst h;exact lu r ht ho hd hn hx
  ·cases h
 ·rename_i fn f c ho
  split at h
  ·rename_i l m hf hc;simp only[SJ] at h;subst h;exact si r ht ho hf hc
  ·cases h
 ·rename_i t x l hh m ho
  split at h
  ·rename_i b l' h' m' hx hl hhi hm;exact Gx r ht ho hx hl hhi hm h
  ·cases h
 ·rename_i t x i ho
  split at h
  ·rename_i b hx;exact rm r ht ho hx h
  ·cases h
 ·rename_i t x i ho
  split at h
  ·rename_i b hx;exact BV r ht ho hx h
  ·cases h
 ·rename_i t x i ho
  split at h
  ·rename_i b c hx hi;exact qQ r ht ho hx hi h
  ·cases h
 ·rename_i t x i ho
  split at h
  ·rename_i b c hx hi;exact Dw r ht ho hx hi h
  ·cases h
 ·rename_i x xt t ok ho
  split at h
  ·cases h
  ·rename_i d t' b hni hd hx
   split at h
   ·rename_i e;simp only[SJ] at h;exact jz r ht ho hd hni hx (.inl ⟨e,h.symm⟩)
   ·rename_i e
    split at h
    ·rename_i hok
     split at h
     ·rename_i z hz;simp only[SJ] at h;exact jz r ht ho hd hni hx (.inr ⟨e,hok,z,hz,h.symm⟩)
     ·cases h
    ·cases h
  ·rename_i d hni hd hx
   split at h
   ·rename_i hok;subst hok
    split at h
    ·rename_i z hz;simp only[SJ] at h;subst h;exact kC r ht ho hd hni hx hz
    ·cases h
   ·cases h
  ·cases h
 ·rename_i x i ho
  split at h
  ·rename_i l hx;exact vz r ht ho hx h
  ·cases h
 ·rename_i c ho
  split at h
  ·rename_i x hc hx
   split at h
   ·rename_i t ht0;exact Te r ht ho hc hx ht0 h
   ·cases h
  ·rename_i x l hc hx;exact qj r ht ho (mx:=false) (by simpa using hc) hx h
  ·rename_i x l hc hx;exact qj r ht ho (mx:=true) (by simpa using hc) hx h
  ·cases h
 ·cases h
end
end Go.Abs
