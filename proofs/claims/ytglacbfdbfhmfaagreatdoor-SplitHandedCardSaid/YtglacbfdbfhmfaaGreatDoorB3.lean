/- words that run the printed code. Part of the proof of girandolelaw12.SplitHanded. -/
import Derived.Test.YtglacbfdbfhmfaaGreatDoorB2
import Derived.Test.YtglacbfdbfhmfaaGreatDoorB1
set_option linter.unusedVariables false
set_option linter.unusedSimpArgs false
namespace Go.Abs
theorem Wp (r:RG):gt r 2=r.a.a.c:=rfl
theorem VN (r:RG):gt r 3=r.a.a.d:=rfl
theorem XH {α β:Type}(a:α)(k:α->Option β):oB (some a) k=k a:=rfl
theorem bk (b:CZ)(r:RG)(ds:Dfs)(s:St):dI b (some (.normal,r,ds,s))=b r ds s:=rfl
theorem Eo (b:CZ)(i:Nat)(r:RG)(ds:Dfs)(s:St):dI b (some (.exit i,r,ds,s))=some (.exit i,r,ds,s):=rfl
theorem GI (b:CZ)(r:RG)(ds:Dfs)(s:St):dI b (some (.ret,r,ds,s))=some (.ret,r,ds,s):=rfl
theorem Gg (b:CZ)(p:AV)(r:RG)(ds:Dfs)(s:St):dI b (some (.panic p,r,ds,s))=some (.panic p,r,ds,s):=rfl
theorem x4 (a b:IRes):eW (.bool true) a b=a:=rfl
theorem Ar (a b:IRes):eW (.bool false) a b=b:=rfl
theorem v8 (i:Nat)(r:RG)(ds:Dfs)(s:St):c9 i (some (.normal,r,ds,s))=some (.normal,r,ds,s):=rfl
theorem uN (i:Nat)(r:RG)(ds:Dfs)(s:St):c9 i (some (.ret,r,ds,s))=some (.ret,r,ds,s):=rfl
theorem Fr (i:Nat)(p:AV)(r:RG)(ds:Dfs)(s:St):c9 i (some (.panic p,r,ds,s))=some (.panic p,r,ds,s):=rfl
theorem ck (i:Nat)(r:RG)(ds:Dfs)(s:St):c9 i (some (.exit i,r,ds,s))=some (.normal,r,ds,s):=by simp[c9]
theorem CD (i j:Nat)(r:RG)(ds:Dfs)(s:St)(h:Nat.beq j i=false):c9 i (some (.exit j,r,ds,s))=some (.exit j,r,ds,s):=by simp[c9,h]
theorem XC {α:Type}(v:AV)(h:Heap)(e e0:Nat)(k kp:AV->St->Option α):cZ (some (.ret v h e)) e0 k kp=k v { heap:=h,esc:=min e0 e }:=rfl
theorem XY {α:Type}(v:AV)(h:Heap)(e e0:Nat)(k kp:AV->St->Option α):cZ (some (.panic v h e)) e0 k kp=kp v { heap:=h,esc:=min e0 e }:=rfl
theorem Nk (m n:Int):bn (.int .i64 m) (.int .i64 n)=some (.bool (decide (m<n))):=by rw[<-fY];rfl
theorem Mx (m n:Int):ip (.int .i64 m) (.int .i64 n)=some (.bool (decide (n<m))):=by rw[<-fY];rfl
theorem M8 (m n:Int):pj (.int .i64 m) (.int .i64 n)=some (.bool (decide (n<=m))):=by rw[<-gG,<-fY];rfl
theorem KX (m n:Int):KN (.int .i64 m) (.int .i64 n)=some (.bool (decide (m<=n))):=by rw[<-gG,<-fY];rfl
theorem Ln (m n:Int):cH (.int .i64 m) (.int .i64 n)=some (.bool (decide (m=n))):=by rw[<-iE];rfl
theorem K9 (m n:Int):eO (.int .i64 m) (.int .i64 n)=some (.bool (!decide (m=n))):=by rw[<-iE];rfl
theorem Er (m n:Int):Ws (.int .u8 m) (.int .u8 n)=some (.bool (decide (m<n))):=by rw[<-fY];rfl
theorem GS (m n:Int):XJ (.int .u8 m) (.int .u8 n)=some (.bool (decide (n<m))):=by rw[<-fY];rfl
theorem Fy (m n:Int):sR (.int .u8 m) (.int .u8 n)=some (.bool (decide (n<=m))):=by rw[<-gG,<-fY];rfl
theorem HZ (m n:Int):yf (.int .u8 m) (.int .u8 n)=some (.bool (decide (m<=n))):=by rw[<-gG,<-fY];rfl
theorem GM (m n:Int):yk (.int .u8 m) (.int .u8 n)=some (.bool (decide (m=n))):=by rw[<-iE];rfl
theorem FV (m n:Int):Ev (.int .u8 m) (.int .u8 n)=some (.bool (!decide (m=n))):=by rw[<-iE];rfl
theorem DZ (m n:List Nat):iK (.str m) (.str n)=some (.bool (strEq m n)):=rfl
theorem FQ (m n:List Nat):Lz (.str m) (.str n)=some (.bool (!strEq m n)):=rfl
theorem GJ (m n:Bool):Wf (.bool m) (.bool n)=some (.bool (m == n)):=rfl
theorem HF (m n:Bool):TT (.bool m) (.bool n)=some (.bool (!(m == n))):=rfl
theorem Mu (m n:Int):aQ (.int .i64 m) (.int .i64 n)=some (.int .i64 (bR m n)):=rfl
theorem KU (m n:Int):dP (.int .i64 m) (.int .i64 n)=some (.int .i64 (fR m n)):=rfl
theorem KO (b:Bool):bM .not (.bool b)=some (.bool (!b)):=rfl
theorem UZ {α:Type}(ds:Dfs)(s:St)(k:AV->Dfs->St->Option α)(y:(AV->Dfs->St->Option α)->Option α):gJ (.bool true) true ds s k y=y k:=rfl
theorem VS {α:Type}(ds:Dfs)(s:St)(k:AV->Dfs->St->Option α)(y:(AV->Dfs->St->Option α)->Option α):gJ (.bool false) true ds s k y=k Abs.undef ds s:=rfl
theorem K6 {α:Type}(ds:Dfs)(s:St)(k:AV->Dfs->St->Option α)(y:(AV->Dfs->St->Option α)->Option α):gJ (.bool true) false ds s k y=k Abs.undef ds s:=rfl
theorem LX {α:Type}(ds:Dfs)(s:St)(k:AV->Dfs->St->Option α)(y:(AV->Dfs->St->Option α)->Option α):gJ (.bool false) false ds s k y=y k:=rfl
theorem Ec (a b:AV):cG (.bool true) a b=some a:=rfl
theorem Gw (a b:AV):cG (.bool false) a b=some b:=rfl
theorem DB (n o:Nat):aj (.ptr n o)=some (.ptr n o):=rfl
theorem Ca (l:List AV):aj (.iptr l)=some (.iptr l):=rfl
theorem WD (k n o:Nat):aC k (.ptr n o)=some (.ptr n (Nat.add o k)):=rfl
theorem Xq (a:AV)(l:List AV):aS (.tuple (a::l)) 0=some a:=rfl
theorem WB (a b:AV)(l:List AV):aS (.tuple (a::b::l)) 1=some b:=rfl
theorem TV (a b c:AV)(l:List AV):aS (.tuple (a::b::c::l)) 2=some c:=rfl
theorem kI (cs:List AV)(off:Nat):eP none cs off=ae cs off:=rfl
theorem wv {α:Type}(a:α)(l:List α):ae (a::l) 0=some a:=rfl
theorem qB {α:Type}(a b:α)(l:List α):ae (a::b::l) 1=some b:=rfl
theorem BO {α:Type}(a b c:α)(l:List α):ae (a::b::c::l) 2=some c:=rfl
theorem BP {α:Type}(a b c d:α)(l:List α):ae (a::b::c::d::l) 3=some d:=rfl
theorem EG {α:Type}(a b c d e:α)(l:List α):ae (a::b::c::d::e::l) 4=some e:=rfl
theorem CI {α:Type}(a b c d e f:α)(l:List α):ae (a::b::c::d::e::f::l) 5=some f:=rfl
theorem G9 {α:Type}(a v:α)(l:List α):am (a::l) 0 v=v::l:=rfl
theorem El {α:Type}(a b v:α)(l:List α):am (a::b::l) 1 v=a::v::l:=rfl
theorem BM {α:Type}(a b c v:α)(l:List α):am (a::b::c::l) 2 v=a::b::v::l:=rfl
theorem CH {α:Type}(a b c d v:α)(l:List α):am (a::b::c::d::l) 3 v=a::b::c::v::l:=rfl
theorem FE {α:Type}(a b c d e v:α)(l:List α):am (a::b::c::d::e::l) 4 v=a::b::c::d::v::l:=rfl
theorem HD {α:Type}(a b c d e f v:α)(l:List α):am (a::b::c::d::e::f::l) 5 v=a::b::c::d::e::v::l:=rfl
theorem tG {α:Type}(h l:List α):aa (h++l)=aa h+aa l:=by simp[ai]
theorem sE {α:Type}:aa ([]:List α)=0:=rfl
theorem pD {α:Type}(a:α)(l:List α):aa (a::l)=aa l+1:=rfl
theorem ay {α:Type}(l:List α)(n:Nat)(v:α):aa (am l n v)=aa l:=by simp[ai,aR]
theorem an {α:Type}(h l:List α):ae (h++l) (aa h)=ae l 0:=by rw[aB,ai,aB,List.getElem?_append_right (Nat.le_refl _),Nat.sub_self]
theorem aW {α:Type}(h l:List α)(j:Nat):ae (h++l) (aa h+j)=ae l j:=by rw[aB,ai,aB,List.getElem?_append_right (Nat.le_add_right _ _),Nat.add_sub_cancel_left]
theorem bJ {α:Type}(h l:List α)(v:α):am (h++l) (aa h) v=h++am l 0 v:=by simp[aR,ai]
theorem dT {α:Type}(h l:List α)(j:Nat)(v:α):am (h++l) (aa h+j) v=h++am l j v:=by simp[aR,ai]
theorem bP {α:Type}(h l:List α):bg (aa h) (h++l)=h:=by simp[bU,ai]
theorem qd {α:Type}(h l:List α)(v:α):ow (h++l) v=h++(l++[v]):=by simp[mU]
theorem bj {α:Type}{l:List α}{n:Nat}{a:α}(h:ae l n=some a):n<l.length:=by rw[aB] at h;exact (List.getElem?_eq_some_iff.1 h).1
theorem au {α:Type}{h:List α}{n:Nat}{o:α}(hn:ae h n=some o)(l:List α):ae (h++l) n=some o:=by
 have:=bj hn;rw[aB] at hn ⊢;rw[List.getElem?_append_left this];exact hn
theorem cm {α:Type}{h:List α}{n:Nat}{o:α}(hn:ae h n=some o)(l:List α)(v:α):am (h++l) n v=am h n v++l:=by
 rw[aR,aR,List.set_append_left _ _ (bj hn)]
theorem aF {α:Type}{h:List α}{n:Nat}{o:α}(hn:ae h n=some o)(v:α):ae (am h n v) n=some v:=by
 rw[aB,aR];simp[bj hn]
theorem iU (b:Bool):gK (.bool b)=true:=Eq.trans rfl rfl
theorem ig (k:IntKind)(n:Int):gK (.int k n)=true:=Eq.trans rfl rfl
theorem il (s:List Nat):gK (.str s)=true:=Eq.trans rfl rfl
theorem noN_nils:gK .nils=true:=Eq.trans rfl rfl
theorem noN_nilp:gK .nilp=true:=Eq.trans rfl rfl
theorem fg (l:List AV):gK (.agg l)=dp l:=Eq.trans rfl rfl
theorem pi (l:List AV):gK (.tuple l)=dp l:=Eq.trans rfl rfl
theorem qf (t:TypeId)(v:AV):gK (.iface t v)=gK v:=Eq.trans rfl rfl
theorem iC (k:Nat)(l:List AV)(n:Lin):gK (.sl k l n)=cond (mS n) (dp l) false:=Eq.trans rfl rfl
theorem linN_dead:mS .dead=true:=Eq.trans rfl rfl
theorem linN_lit:mS .lit=true:=Eq.trans rfl rfl
theorem linN_full:mS .full=true:=Eq.trans rfl rfl
theorem linN_frz:mS .frz=true:=Eq.trans rfl rfl
theorem noNL_nil:dp []=true:=Eq.trans rfl rfl
theorem br (v:AV)(l:List AV):dp (v::l)=cond (gK v) (dp l) false:=Eq.trans rfl rfl
theorem Ea {n off r:Nat}{v:AV}{hp:Heap}{e:Nat}{cs:List AV}(hg:ae hp r=some (.cells cs))(hl:aa v.cells=n)(ho:off+n<=aa cs)(hv:v.cells.all AV.one=true)(hnn:gK v=true) :
  ar n (.ptr r off) v ⟨hp,e⟩=some ⟨am hp r (.cells (db cs off v.cells)),e⟩:=by
 have h1:eK (aa hp) v=true:=by simp[eK,hnn]
 have h2:gV v r ⟨hp,e⟩=e:=by simp[gV,eK,hnn]
 have h3:Nat.beq (aa v.cells) n=true:=by rw[hl];exact Nat.beq_refl n
 have h4:Nat.ble (Nat.add off n) (aa cs)=true:=Nat.ble_eq_true_of_le ho;simp only[ar,hg,eM,h1,h2,h3,h4,hv,Bool.and_self,cond_true]
theorem BL {keep:Bool}{base:Nat}{v:AV}{hp:Heap}(h:gK v=true):lH keep base v ⟨hp,base⟩=.ret v (bg base hp) base:=by
 simp[lH,h]
theorem aZ (i j:Nat)(h:i+j<=natMax):bR (i:Int) (j:Int)=((i+j:Nat):Int):=by
 rw[yi];have:=fF h;simpa using this
theorem bv (a b:CZ)(r:RG)(ds:Dfs)(s:St):ac a b r ds s=dI b (a r ds s):=rfl
theorem y6 (c:X)(a b:CZ)(r:RG)(ds:Dfs)(s:St):aA c a b r ds s=eW (gx ⟨r,[]⟩ c) (a r ds s) (b r ds s):=rfl
theorem wK (i:Nat)(b:CZ)(r:RG)(ds:Dfs)(s:St):aH i b r ds s=c9 i (b r ds s):=rfl
theorem xV (r:RG)(ds:Dfs)(s:St):skipZ r ds s=some (.normal,r,ds,s):=rfl
theorem xK (i:Nat)(r:RG)(ds:Dfs)(s:St):ba i r ds s=some (.exit i,r,ds,s):=rfl
theorem FS (r:RG)(ds:Dfs)(s:St):retZ r ds s=some (.ret,r,ds,s):=rfl
theorem zq (b:CZ)(r:RG)(ds:Dfs)(s:St):aK b r ds s=ax b 100000 r ds s:=rfl
theorem KM (cs:List AV)(s:St)(k:AV->St->IRes):bL cs s k=k (.ptr (aa s.heap) 0) ⟨ow s.heap (.cells cs),s.esc⟩:=rfl
theorem Am {α:Type}(l:List α)(v:α):ow l v=l++[v]:=mU l v
theorem sO {α:Type}(h l:List α)(a:α):(h++l)++[a]=h++(l++[a]):=by simp
theorem tZ {α:Type}(a b:α)(l:List α):(a::l)++[b]=a::(l++[b]):=rfl
theorem yC {α:Type}(l:List α):[]++l=l:=rfl
theorem yJ {α:Type}(l:List α):l++[]=l:=by simp
theorem dW (a b:Nat):Nat.ble a b=decide (a<=b):=by
 rw[Bool.eq_iff_iff];simp[Nat.ble_eq]
theorem f9 (a b:Nat):Nat.beq a b=decide (a=b):=by
 rw[Bool.eq_iff_iff];simp[Nat.beq_eq]
theorem V0 (a b:Nat):Nat.add a b=a+b:=rfl
theorem pX (a:Nat):min a a=a:=Nat.min_self a
theorem KI (a b:Nat):min a (a+b)=a:=by omega
theorem Xy (a:Nat):0+a=a:=Nat.zero_add a
theorem Wt (a:Nat):a+0=a:=Nat.add_zero a
theorem dect:decide True=true:=rfl
theorem decf:decide False=false:=rfl
theorem TQ (a:Nat):(a<=a)=True:=by simp
theorem VW {α:Type}(a:α):(a=a)=True:=by simp
theorem notT:(!true)=false:=rfl
theorem notF:(!false)=true:=rfl
theorem Uk (b:Bool):(true&&b)=b:=by simp
theorem XQ (b:Bool):(false&&b)=false:=by simp
theorem Lx (b:Bool):(b&&true)=b:=by simp
theorem Of {α:Type}(a b:α):cond true a b=a:=rfl
theorem Mm {α:Type}(a b:α):cond false a b=b:=rfl
theorem Lv (p:AV->Bool):([]:List AV).all p=true:=rfl
theorem LF (p:AV->Bool)(a:AV)(l:List AV):(a::l).all p=(p a&&l.all p):=rfl
theorem j3 (b:Bool):AV.one (.bool b)=true:=rfl
theorem gI (k:IntKind)(n:Int):AV.one (.int k n)=true:=rfl
theorem g9 (s:List Nat):AV.one (.str s)=true:=rfl
theorem one_nils:AV.one .nils=true:=rfl
theorem one_nilp:AV.one .nilp=true:=rfl
theorem zp (n o:Nat):AV.one (.ptr n o)=true:=rfl
theorem lz (k:Nat)(l:List AV)(n:Lin):AV.one (.sl k l n)=true:=rfl
theorem pO (l:List AV):AV.cells (.agg l)=l:=rfl
theorem nh (b:Bool):AV.cells (.bool b)=[.bool b]:=rfl
theorem pN (k:IntKind)(n:Int):AV.cells (.int k n)=[.int k n]:=rfl
theorem qa (s:List Nat):AV.cells (.str s)=[.str s]:=rfl
theorem cells_nils:AV.cells .nils=[.nils]:=rfl
theorem pE (n o:Nat):AV.cells (.ptr n o)=[.ptr n o]:=rfl
theorem sw (k:Nat)(l:List AV)(n:Lin):AV.cells (.sl k l n)=[.sl k l n]:=rfl
theorem lN (n r off:Nat)(v:AV)(s:St):ar n (.ptr r off) v s=match ae s.heap r with
 | some (.cells cs)=>eM n off r v v.cells cs s
 | _=>none:=rfl
theorem FD (n off r:Nat)(v:AV)(vc cs:List AV)(hp:Heap)(e:Nat)(h:gK v=true):eM n off r v vc cs ⟨hp,e⟩=cond (Nat.beq (aa vc) n&&(Nat.ble (Nat.add off n) (aa cs)&&vc.all AV.one)) (some ⟨am hp r (.cells (db cs off vc)),e⟩) none:=by
 simp[eM,eK,gV,h]
theorem ua (ag:Option Nat)(n off:Nat)(h:Heap):aw ag (.ptr n off) h=match ae h n with
 | some (.cells cs)=>eP ag cs off
 | _=>none:=rfl
theorem Lq (ag:Option Nat)(xs:List AV)(h:Heap):aw ag (.iptr xs) h=eP ag xs 0:=rfl
theorem zG (k:Nat)(cs:List AV)(off:Nat):eP (some k) cs off=cond (Nat.ble (Nat.add off k) (aa cs)) (some (.agg (bg k (fb off cs)))) none:=rfl
theorem x6 {α:Type}(l:List α):bg 0 l=[]:=by cases l<;>rfl
theorem Ab {α:Type}(a:α)(l:List α):bg 1 (a::l)=a::bg 0 l:=rfl
theorem zm {α:Type}(a:α)(l:List α):bg 2 (a::l)=a::bg 1 l:=rfl
theorem x3 {α:Type}(a:α)(l:List α):bg 3 (a::l)=a::bg 2 l:=rfl
theorem Ah {α:Type}(a:α)(l:List α):bg 4 (a::l)=a::bg 3 l:=rfl
theorem zb {α:Type}(a:α)(l:List α):bg 5 (a::l)=a::bg 4 l:=rfl
theorem x5 {α:Type}(a:α)(l:List α):bg 6 (a::l)=a::bg 5 l:=rfl
theorem yx {α:Type}(a:α)(l:List α):bg 7 (a::l)=a::bg 6 l:=rfl
theorem zV {α:Type}(a:α)(l:List α):bg 8 (a::l)=a::bg 7 l:=rfl
theorem xG {α:Type}(l:List α):fb 0 l=l:=by cases l<;>rfl
theorem Au {α:Type}(a:α)(l:List α):fb 1 (a::l)=fb 0 l:=rfl
theorem zl {α:Type}(a:α)(l:List α):fb 2 (a::l)=fb 1 l:=rfl
theorem y4 {α:Type}(a:α)(l:List α):fb 3 (a::l)=fb 2 l:=rfl
theorem zz {α:Type}(a:α)(l:List α):fb 4 (a::l)=fb 3 l:=rfl
theorem EC (cs:List AV)(o:Nat)(v:AV):db cs o [v]=am cs o v:=rfl
theorem EL (cs:List AV)(o:Nat)(a b:AV)(l:List AV):db cs o (a::b::l)=a9 cs o (a::b::l):=rfl
theorem CN (a0 a1 b0 b1:AV):a9 [a0,a1] 0 [b0,b1]=[b0,b1]:=rfl
theorem GZ (a0 a1 a2 b0 b1 b2:AV):a9 [a0,a1,a2] 0 [b0,b1,b2]=[b0,b1,b2]:=rfl
theorem Fh (a0 a1 a2 a3 b0 b1 b2 b3:AV):a9 [a0,a1,a2,a3] 0 [b0,b1,b2,b3]=[b0,b1,b2,b3]:=rfl
theorem DU (a0 a1 a2 a3 a4 b0 b1 b2 b3 b4:AV):a9 [a0,a1,a2,a3,a4] 0 [b0,b1,b2,b3,b4]=[b0,b1,b2,b3,b4]:=rfl
theorem Gk (a0 a1 a2 a3 a4 a5 b0 b1 b2 b3 b4 b5:AV):a9 [a0,a1,a2,a3,a4,a5] 0 [b0,b1,b2,b3,b4,b5]=[b0,b1,b2,b3,b4,b5]:=rfl
theorem Cn (a0 a1 a2 a3 a4 a5 a6 b0 b1 b2 b3 b4 b5 b6:AV):a9 [a0,a1,a2,a3,a4,a5,a6] 0 [b0,b1,b2,b3,b4,b5,b6]=[b0,b1,b2,b3,b4,b5,b6]:=rfl
theorem EA (a0 a1 a2 a3 a4 a5 a6 a7 b0 b1 b2 b3 b4 b5 b6 b7:AV):a9 [a0,a1,a2,a3,a4,a5,a6,a7] 0 [b0,b1,b2,b3,b4,b5,b6,b7]=[b0,b1,b2,b3,b4,b5,b6,b7]:=rfl
theorem B1 (a0 a1 a2 a3 a4 a5 a6 a7 a8 b0 b1 b2 b3 b4 b5 b6 b7 b8:AV):a9 [a0,a1,a2,a3,a4,a5,a6,a7,a8] 0 [b0,b1,b2,b3,b4,b5,b6,b7,b8]=[b0,b1,b2,b3,b4,b5,b6,b7,b8]:=rfl
theorem bN {sz:Nat}{es:List AV}{lin:Lin}{i:Nat}{v:AV}(h:ae es i=some v):aL sz (.sl sz es lin) (.int .i64 (i:Int))=some (.iptr v.cells):=by
 simp[aL,cC,h,f9]
theorem Uu (a:AV):tupleAV [a]=a:=rfl
theorem VT (a b:AV)(l:List AV):tupleAV (a::b::l)=.tuple (a::b::l):=rfl
theorem tup0:tupleAV []=Abs.undef:=rfl
theorem jI (e:RG)(h:Heap):fx e h []=some []:=rfl
theorem iN (e:RG)(h:Heap)(n:Nat)(l:List RI):fx e h (.t n::l)=match fx e h l with
 | some l=>some (gt e n::l)
 | none=>none:=rfl
theorem xf (e:RG)(h:Heap)(n:Nat)(ag:Option Nat)(l:List RI):fx e h (.cell n ag::l)=match aw ag (gt e n) h,fx e h l with
 | some a,some l=>some (a::l)
 | _,_=>none:=rfl
theorem jG (C:Cfg)(f:FuncId)(b:Nat)(z:FZ)(r:RG)(s:St):lw C f b z (some (.ret,r,[],s))=match fx r s.heap z.res with
 | some l=>some (lH (C.keep f) b (tupleAV l) s)
 | none=>none:=rfl
theorem HQ (C:Cfg)(f:FuncId)(b:Nat)(z:FZ)(r:RG)(s:St):lw C f b z (some (.normal,r,[],s))=match fx r s.heap z.res with
 | some l=>some (lH (C.keep f) b (tupleAV l) s)
 | none=>none:=rfl
theorem B4 (C:Cfg)(f:FuncId)(b:Nat)(z:FZ)(p:AV)(r:RG)(s:St):lw C f b z (some (.panic p,r,[],s))=some (YT false b p s):=rfl
theorem XK {α:Type}(w:Bool)(ds:Dfs)(s:St)(k:AV->Dfs->St->Option α)(y:(AV->Dfs->St->Option α)->Option α):gJ Abs.undef w ds s k y=k Abs.undef ds s:=rfl
theorem MW {α:Type}(s:St)(sl:Nat)(hi:List (Nat×Heap))(rd:List (Nat×(Heap->Option AV)×AV))(k:AV->St->Nat->List (Nat×Heap)->List (Nat×(Heap->Option AV)×AV)->Option α)
 (y:(AV->St->Nat->List (Nat×Heap)->List (Nat×(Heap->Option AV)×AV)->Option α)->Option α):eX (.bool true) true s sl hi rd k y=y k:=rfl
theorem MS {α:Type}(s:St)(sl:Nat)(hi:List (Nat×Heap))(rd:List (Nat×(Heap->Option AV)×AV))(k:AV->St->Nat->List (Nat×Heap)->List (Nat×(Heap->Option AV)×AV)->Option α)
 (y:(AV->St->Nat->List (Nat×Heap)->List (Nat×(Heap->Option AV)×AV)->Option α)->Option α):eX (.bool false) true s sl hi rd k y=k Abs.undef s sl hi rd:=rfl
theorem tN (b:Nat)(x:Heap->Option AV)(v:AV):ei b x v []=true:=rfl
theorem pJ (b:Nat)(h:Heap):dK b h []=true:=rfl
theorem pA (b j:Nat)(h:Heap)(x:Heap->Option AV)(w:AV)(r:List (Nat×(Heap->Option AV)×AV)):dK b h ((j,x,w)::r)=((b.testBit j||aP x w h)&&dK b h r):=rfl
theorem z6 (x:Heap->Option AV)(v:AV)(h:Heap):aP x v h=match x h with
 | some w=>w.same v
 | none=>false:=rfl
theorem t7 (k:IntKind)(n:Int):AV.same (.int k n) (.int k n)=true:=by simp[AV.same]
theorem tJ (l:List Nat):AV.same (.str l) (.str l)=true:=by simp[AV.same]
theorem qm (b:Bool):AV.same (.bool b) (.bool b)=true:=by simp[AV.same]
theorem same_nils:AV.same .nils .nils=true:=by simp[AV.same]
theorem D2 {α:Type}(x:Option α):dz [] x=x:=rfl
theorem YH (b:Bool):(b||true)=true:=by simp
theorem Xp (b:Bool):(true||b)=true:=by simp
theorem YJ (b:Bool):(false||b)=b:=by simp
theorem XS {α:Type}(rec:RecT)(v:AV)(s s' : St)(ds:Dfs)(k:AV->Dfs->St->Option α)(kp:AV->St->Option α):oE rec (some (.val v s')) ds s k kp=k v ds s':=rfl
theorem Vd {α:Type}(rec:RecT)(g:FuncId)(args:List AV)(s:St)(ds:Dfs)(k:AV->Dfs->St->Option α)(kp:AV->St->Option α):oE rec (some (.call g args)) ds s k kp=cZ (rec g args s.heap) s.esc (λv s=>k v ds s) kp:=rfl
theorem VG {α:Type}(rec:RecT)(v:AV)(s:St)(ds:Dfs)(k:AV->Dfs->St->Option α)(kp:AV->St->Option α):oE rec (some (.panic v)) ds s k kp=kp v s:=rfl
theorem z4 (C:Cfg)(f:FuncId)(first capt args:List AV)(s:St):cu C (.func (.func f) first capt) args s=dN C f (first++args++capt) s:=rfl
theorem yX (v:AV)(s:St):orVal (some (v,s))=some (.val v s):=rfl
theorem XT {b:Nat}(h:b<256)(t:List Nat)(s:St):Ii (.str t) (.int .u8 (b:Int)) s=some (.val (.int .i64 (indexByte b t 0)) s):=by
 have h1:(0:Int)<=(b:Int)/\(b:Int)<256:=by omega
 simp only[Ii,h1,and_self,if_true,Int.toNat_natCast]
theorem Nj (t:TypeId)(a:AV):uv (.iface t a)=some (.panic (.iface t a)):=rfl
theorem XA (o:AObj)(mk:Nat->AV)(s:St)(k:AV->St->IRes):oA (some (o,mk)) s k=k (mk (aa s.heap)) ⟨ow s.heap o,s.esc⟩:=rfl
theorem yz {α:Type}(h l:List α)(n:Nat)(v:α):ae (am h n v++l) (aa h)=ae l 0:=by rw[<-ay h n v,an]
theorem Ht {α:Type}(h l:List α)(n j:Nat)(v:α):ae (am h n v++l) (aa h+j)=ae l j:=by rw[<-ay h n v,aW]
theorem yH {α:Type}(h l:List α)(n:Nat)(v w:α):am (am h n v++l) (aa h) w=am h n v++am l 0 w:=by rw[<-ay h n v,bJ]
theorem FB {α:Type}(h l:List α)(n j:Nat)(v w:α):am (am h n v++l) (aa h+j) w=am h n v++am l j w:=by rw[<-ay h n v,dT]
theorem Af {α:Type}(h l:List α)(n:Nat)(v:α):bg (aa h) (am h n v++l)=am h n v:=by rw[<-ay h n v,bP]
theorem fK {α:Type}(h:List α)(n:Nat)(v w:α):am (am h n v) n w=am h n w:=by simp[aR]
theorem sc {α:Type}(h:List α):bg (aa h) h=h:=by simp[bU,ai]
theorem tS {α:Type}(h:List α)(n:Nat)(v:α):bg (aa h) (am h n v)=am h n v:=by rw[<-ay h n v,sc]
theorem sk {P:RG->Prop}{Q:RG->RG->Prop}(h:∀ r,P r->∃ r',Q r r'):∃ f:RG->RG,∀ r,P r->Q r (f r):=by
 classical
 exact ⟨λr=>if hp:P r then (h r hp).choose else r,λr hp=>by simp only[hp,dite_true];exact (h r hp).choose_spec⟩
def wa {α:Type}(r:V8 α)(x:α):V8 α:=⟨x,r.b,r.c,r.d,r.e,r.f,r.g,r.h⟩
theorem UK {α:Type}(r:V8 α)(x:α):wa r x=⟨x,r.b,r.c,r.d,r.e,r.f,r.g,r.h⟩:=rfl
def wb {α:Type}(r:V8 α)(x:α):V8 α:=⟨r.a,x,r.c,r.d,r.e,r.f,r.g,r.h⟩
theorem Wi {α:Type}(r:V8 α)(x:α):wb r x=⟨r.a,x,r.c,r.d,r.e,r.f,r.g,r.h⟩:=rfl
def wc {α:Type}(r:V8 α)(x:α):V8 α:=⟨r.a,r.b,x,r.d,r.e,r.f,r.g,r.h⟩
theorem UM {α:Type}(r:V8 α)(x:α):wc r x=⟨r.a,r.b,x,r.d,r.e,r.f,r.g,r.h⟩:=rfl
def wd {α:Type}(r:V8 α)(x:α):V8 α:=⟨r.a,r.b,r.c,x,r.e,r.f,r.g,r.h⟩
theorem WJ {α:Type}(r:V8 α)(x:α):wd r x=⟨r.a,r.b,r.c,x,r.e,r.f,r.g,r.h⟩:=rfl
def we {α:Type}(r:V8 α)(x:α):V8 α:=⟨r.a,r.b,r.c,r.d,x,r.f,r.g,r.h⟩
theorem Vx {α:Type}(r:V8 α)(x:α):we r x=⟨r.a,r.b,r.c,r.d,x,r.f,r.g,r.h⟩:=rfl
def wf {α:Type}(r:V8 α)(x:α):V8 α:=⟨r.a,r.b,r.c,r.d,r.e,x,r.g,r.h⟩
theorem UW {α:Type}(r:V8 α)(x:α):wf r x=⟨r.a,r.b,r.c,r.d,r.e,x,r.g,r.h⟩:=rfl
def wg {α:Type}(r:V8 α)(x:α):V8 α:=⟨r.a,r.b,r.c,r.d,r.e,r.f,x,r.h⟩
theorem VI {α:Type}(r:V8 α)(x:α):wg r x=⟨r.a,r.b,r.c,r.d,r.e,r.f,x,r.h⟩:=rfl
def wh {α:Type}(r:V8 α)(x:α):V8 α:=⟨r.a,r.b,r.c,r.d,r.e,r.f,r.g,x⟩
theorem Us {α:Type}(r:V8 α)(x:α):wh r x=⟨r.a,r.b,r.c,r.d,r.e,r.f,r.g,x⟩:=rfl
theorem XU (d:Dfs)(s:St)(r:RG):rt d s r=some (.normal,r,d,s):=rfl
theorem VZ (r:RG)(d:Dfs)(p:AV)(s:St):pK r d p s=some (.panic p,r,d,s):=rfl
theorem T3 (r:RG)(l:List AV)(k:Nat):gx ⟨r,l⟩ (.t k)=gt r k:=rfl
theorem SIM:type_of% (And.intro @T3 (And.intro @XU (And.intro @VZ (And.intro @XH (And.intro @bk (And.intro @Eo (And.intro @GI (And.intro @Gg (And.intro @x4 (And.intro @Ar (And.intro @v8 (And.intro @uN (And.intro @Fr (And.intro @ck (And.intro @CD (And.intro @XC (And.intro @XY (And.intro @Nk (And.intro @Mx (And.intro @M8 (And.intro @KX (And.intro @Ln (And.intro @K9 (And.intro @Er (And.intro @GS (And.intro @Fy (And.intro @HZ (And.intro @GM (And.intro @FV (And.intro @DZ (And.intro @FQ (And.intro @GJ (And.intro @HF (And.intro @Mu (And.intro @KU (And.intro @KO (And.intro @UZ (And.intro @VS (And.intro @K6 (And.intro @LX (And.intro @Ec (And.intro @Gw (And.intro @DB (And.intro @Ca (And.intro @WD (And.intro @Xq (And.intro @WB (And.intro @TV (And.intro @kI (And.intro @wv (And.intro @qB (And.intro @BO (And.intro @BP (And.intro @EG (And.intro @CI (And.intro @G9 (And.intro @El (And.intro @BM (And.intro @CH (And.intro @FE (And.intro @HD (And.intro @tG (And.intro @sE (And.intro @pD (And.intro @ay (And.intro @an (And.intro @aW (And.intro @bJ (And.intro @dT (And.intro @bP (And.intro @qd (And.intro @iU (And.intro @ig (And.intro @il (And.intro @noN_nils (And.intro @noN_nilp (And.intro @fg (And.intro @pi (And.intro @qf (And.intro @iC (And.intro @linN_dead (And.intro @linN_lit (And.intro @linN_full (And.intro @linN_frz (And.intro @noNL_nil (And.intro @br (And.intro @BL (And.intro @bv (And.intro @y6 (And.intro @wK (And.intro @xV (And.intro @xK (And.intro @FS (And.intro @zq (And.intro @KM (And.intro @Am (And.intro @sO (And.intro @tZ (And.intro @yC (And.intro @yJ (And.intro @dW (And.intro @f9 (And.intro @V0 (And.intro @pX (And.intro @KI (And.intro @Xy (And.intro @Wt (And.intro @dect (And.intro @decf (And.intro @TQ (And.intro @VW (And.intro @notT (And.intro @notF (And.intro @Uk (And.intro @XQ (And.intro @Lx (And.intro @Of (And.intro @Mm (And.intro @Lv (And.intro @LF (And.intro @j3 (And.intro @gI (And.intro @g9 (And.intro @one_nils (And.intro @one_nilp (And.intro @zp (And.intro @lz (And.intro @pO (And.intro @nh (And.intro @pN (And.intro @qa (And.intro @cells_nils (And.intro @pE (And.intro @sw (And.intro @lN (And.intro @FD (And.intro @ua (And.intro @Lq (And.intro @zG (And.intro @x6 (And.intro @Ab (And.intro @zm (And.intro @x3 (And.intro @Ah (And.intro @zb (And.intro @x5 (And.intro @yx (And.intro @zV (And.intro @xG (And.intro @Au (And.intro @zl (And.intro @y4 (And.intro @zz (And.intro @EC (And.intro @EL (And.intro @CN (And.intro @GZ (And.intro @Fh (And.intro @DU (And.intro @Gk (And.intro @Cn (And.intro @EA (And.intro @B1 (And.intro @Uu (And.intro @VT (And.intro @tup0 (And.intro @jI (And.intro @iN (And.intro @xf (And.intro @jG (And.intro @HQ (And.intro @B4 (And.intro @XK (And.intro @MW (And.intro @MS (And.intro @tN (And.intro @pJ (And.intro @pA (And.intro @z6 (And.intro @t7 (And.intro @tJ (And.intro @qm (And.intro @same_nils (And.intro @D2 (And.intro @YH (And.intro @Xp (And.intro @YJ (And.intro @XS (And.intro @Vd (And.intro @VG (And.intro @z4 (And.intro @yX (And.intro @Nj (And.intro @XA (And.intro @yz (And.intro @Ht (And.intro @yH (And.intro @FB (And.intro @Af (And.intro @fK (And.intro @sc (And.intro @tS (And.intro @UK (And.intro @Wi (And.intro @UM (And.intro @WJ (And.intro @Vx (And.intro @UW (And.intro @VI @Us))))))))))))))))))))))))))))))))))))))))))))))))))))))))))))))))))))))))))))))))))))))))))))))))))))))))))))))))))))))))))))))))))))))))))))))))))))))))))))))))))))))))))))))))))))))))))))))))))))))))))))))))):=And.intro @T3 (And.intro @XU (And.intro @VZ (And.intro @XH (And.intro @bk (And.intro @Eo (And.intro @GI (And.intro @Gg (And.intro @x4 (And.intro @Ar (And.intro @v8 (And.intro @uN (And.intro @Fr (And.intro @ck (And.intro @CD (And.intro @XC (And.intro @XY (And.intro @Nk (And.intro @Mx (And.intro @M8 (And.intro @KX (And.intro @Ln (And.intro @K9 (And.intro @Er (And.intro @GS (And.intro @Fy (And.intro @HZ (And.intro @GM (And.intro @FV (And.intro @DZ (And.intro @FQ (And.intro @GJ (And.intro @HF (And.intro @Mu (And.intro @KU (And.intro @KO (And.intro @UZ (And.intro @VS (And.intro @K6 (And.intro @LX (And.intro @Ec (And.intro @Gw (And.intro @DB (And.intro @Ca (And.intro @WD (And.intro @Xq (And.intro @WB (And.intro @TV (And.intro @kI (And.intro @wv (And.intro @qB (And.intro @BO (And.intro @BP (And.intro @EG (And.intro @CI (And.intro @G9 (And.intro @El (And.intro @BM (And.intro @CH (And.intro @FE (And.intro @HD (And.intro @tG (And.intro @sE (And.intro @pD (And.intro @ay (And.intro @an (And.intro @aW (And.intro @bJ (And.intro @dT (And.intro @bP (And.intro @qd (And.intro @iU (And.intro @ig (And.intro @il (And.intro @noN_nils (And.intro @noN_nilp (And.intro @fg (And.intro @pi (And.intro @qf (And.intro @iC (And.intro @linN_dead (And.intro @linN_lit (And.intro @linN_full (And.intro @linN_frz (And.intro @noNL_nil (And.intro @br (And.intro @BL (And.intro @bv (And.intro @y6 (And.intro @wK (And.intro @xV (And.intro @xK (And.intro @FS (And.intro @zq (And.intro @KM (And.intro @Am (And.intro @sO (And.intro @tZ (And.intro @yC (And.intro @yJ (And.intro @dW (And.intro @f9 (And.intro @V0 (And.intro @pX (And.intro @KI (And.intro @Xy (And.intro @Wt (And.intro @dect (And.intro @decf (And.intro @TQ (And.intro @VW (And.intro @notT (And.intro @notF (And.intro @Uk (And.intro @XQ (And.intro @Lx (And.intro @Of (And.intro @Mm (And.intro @Lv (And.intro @LF (And.intro @j3 (And.intro @gI (And.intro @g9 (And.intro @one_nils (And.intro @one_nilp (And.intro @zp (And.intro @lz (And.intro @pO (And.intro @nh (And.intro @pN (And.intro @qa (And.intro @cells_nils (And.intro @pE (And.intro @sw (And.intro @lN (And.intro @FD (And.intro @ua (And.intro @Lq (And.intro @zG (And.intro @x6 (And.intro @Ab (And.intro @zm (And.intro @x3 (And.intro @Ah (And.intro @zb (And.intro @x5 (And.intro @yx (And.intro @zV (And.intro @xG (And.intro @Au (And.intro @zl (And.intro @y4 (And.intro @zz (And.intro @EC (And.intro @EL (And.intro @CN (And.intro @GZ (And.intro @Fh (And.intro @DU (And.intro @Gk (And.intro @Cn (And.intro @EA (And.intro @B1 (And.intro @Uu (And.intro @VT (And.intro @tup0 (And.intro @jI (And.intro @iN (And.intro @xf (And.intro @jG (And.intro @HQ (And.intro @B4 (And.intro @XK (And.intro @MW (And.intro @MS (And.intro @tN (And.intro @pJ (And.intro @pA (And.intro @z6 (And.intro @t7 (And.intro @tJ (And.intro @qm (And.intro @same_nils (And.intro @D2 (And.intro @YH (And.intro @Xp (And.intro @YJ (And.intro @XS (And.intro @Vd (And.intro @VG (And.intro @z4 (And.intro @yX (And.intro @Nj (And.intro @XA (And.intro @yz (And.intro @Ht (And.intro @yH (And.intro @FB (And.intro @Af (And.intro @fK (And.intro @sc (And.intro @tS (And.intro @UK (And.intro @Wi (And.intro @UM (And.intro @WJ (And.intro @Vx (And.intro @UW (And.intro @VI @Us))))))))))))))))))))))))))))))))))))))))))))))))))))))))))))))))))))))))))))))))))))))))))))))))))))))))))))))))))))))))))))))))))))))))))))))))))))))))))))))))))))))))))))))))))))))))))))))))))))))))))))))))
theorem ST0:(∀ r v,st r 0 v=wa r (wa r.a (wa r.a.a v)))/\(∀ (r:RG),gt r 0=r.a.a.a)/\(∀ r v,st r 1 v=wa r (wa r.a (wb r.a.a v)))/\(∀ (r:RG),gt r 1=r.a.a.b)/\(∀ r v,st r 2 v=wa r (wa r.a (wc r.a.a v)))/\(∀ (r:RG),gt r 2=r.a.a.c)/\(∀ r v,st r 3 v=wa r (wa r.a (wd r.a.a v)))/\(∀ (r:RG),gt r 3=r.a.a.d)/\(∀ r v,st r 4 v=wa r (wa r.a (we r.a.a v)))/\(∀ (r:RG),gt r 4=r.a.a.e)/\(∀ r v,st r 5 v=wa r (wa r.a (wf r.a.a v)))/\(∀ (r:RG),gt r 5=r.a.a.f)/\(∀ r v,st r 6 v=wa r (wa r.a (wg r.a.a v)))/\(∀ (r:RG),gt r 6=r.a.a.g)/\(∀ r v,st r 7 v=wa r (wa r.a (wh r.a.a v)))/\(∀ (r:RG),gt r 7=r.a.a.h)/\(∀ r v,st r 8 v=wa r (wb r.a (wa r.a.b v)))/\(∀ (r:RG),gt r 8=r.a.b.a)/\(∀ r v,st r 9 v=wa r (wb r.a (wb r.a.b v)))/\(∀ (r:RG),gt r 9=r.a.b.b)/\(∀ r v,st r 10 v=wa r (wb r.a (wc r.a.b v)))/\(∀ (r:RG),gt r 10=r.a.b.c)/\(∀ r v,st r 11 v=wa r (wb r.a (wd r.a.b v)))/\(∀ (r:RG),gt r 11=r.a.b.d)/\(∀ r v,st r 12 v=wa r (wb r.a (we r.a.b v)))/\(∀ (r:RG),gt r 12=r.a.b.e)/\(∀ r v,st r 13 v=wa r (wb r.a (wf r.a.b v)))/\(∀ (r:RG),gt r 13=r.a.b.f)/\(∀ r v,st r 14 v=wa r (wb r.a (wg r.a.b v)))/\(∀ (r:RG),gt r 14=r.a.b.g)/\(∀ r v,st r 15 v=wa r (wb r.a (wh r.a.b v)))/\(∀ (r:RG),gt r 15=r.a.b.h)/\(∀ r v,st r 16 v=wa r (wc r.a (wa r.a.c v)))/\(∀ (r:RG),gt r 16=r.a.c.a)/\(∀ r v,st r 17 v=wa r (wc r.a (wb r.a.c v)))/\(∀ (r:RG),gt r 17=r.a.c.b)/\(∀ r v,st r 18 v=wa r (wc r.a (wc r.a.c v)))/\(∀ (r:RG),gt r 18=r.a.c.c)/\(∀ r v,st r 19 v=wa r (wc r.a (wd r.a.c v)))/\(∀ (r:RG),gt r 19=r.a.c.d)/\(∀ r v,st r 20 v=wa r (wc r.a (we r.a.c v)))/\(∀ (r:RG),gt r 20=r.a.c.e)/\(∀ r v,st r 21 v=wa r (wc r.a (wf r.a.c v)))/\(∀ (r:RG),gt r 21=r.a.c.f)/\(∀ r v,st r 22 v=wa r (wc r.a (wg r.a.c v)))/\(∀ (r:RG),gt r 22=r.a.c.g)/\(∀ r v,st r 23 v=wa r (wc r.a (wh r.a.c v)))/\(∀ (r:RG),gt r 23=r.a.c.h)/\(∀ r v,st r 24 v=wa r (wd r.a (wa r.a.d v)))/\(∀ (r:RG),gt r 24=r.a.d.a)/\(∀ r v,st r 25 v=wa r (wd r.a (wb r.a.d v)))/\(∀ (r:RG),gt r 25=r.a.d.b)/\(∀ r v,st r 26 v=wa r (wd r.a (wc r.a.d v)))/\(∀ (r:RG),gt r 26=r.a.d.c)/\(∀ r v,st r 27 v=wa r (wd r.a (wd r.a.d v)))/\(∀ (r:RG),gt r 27=r.a.d.d)/\(∀ r v,st r 28 v=wa r (wd r.a (we r.a.d v)))/\(∀ (r:RG),gt r 28=r.a.d.e)/\(∀ r v,st r 29 v=wa r (wd r.a (wf r.a.d v)))/\(∀ (r:RG),gt r 29=r.a.d.f)/\(∀ r v,st r 30 v=wa r (wd r.a (wg r.a.d v)))/\(∀ (r:RG),gt r 30=r.a.d.g)/\(∀ r v,st r 31 v=wa r (wd r.a (wh r.a.d v)))/\(∀ (r:RG),gt r 31=r.a.d.h):=by
 repeat first|apply And.intro|(intros;rfl)
theorem ST1:(∀ r v,st r 32 v=wa r (we r.a (wa r.a.e v)))/\(∀ (r:RG),gt r 32=r.a.e.a)/\(∀ r v,st r 33 v=wa r (we r.a (wb r.a.e v)))/\(∀ (r:RG),gt r 33=r.a.e.b)/\(∀ r v,st r 34 v=wa r (we r.a (wc r.a.e v)))/\(∀ (r:RG),gt r 34=r.a.e.c)/\(∀ r v,st r 35 v=wa r (we r.a (wd r.a.e v)))/\(∀ (r:RG),gt r 35=r.a.e.d)/\(∀ r v,st r 36 v=wa r (we r.a (we r.a.e v)))/\(∀ (r:RG),gt r 36=r.a.e.e)/\(∀ r v,st r 37 v=wa r (we r.a (wf r.a.e v)))/\(∀ (r:RG),gt r 37=r.a.e.f)/\(∀ r v,st r 38 v=wa r (we r.a (wg r.a.e v)))/\(∀ (r:RG),gt r 38=r.a.e.g)/\(∀ r v,st r 39 v=wa r (we r.a (wh r.a.e v)))/\(∀ (r:RG),gt r 39=r.a.e.h)/\(∀ r v,st r 40 v=wa r (wf r.a (wa r.a.f v)))/\(∀ (r:RG),gt r 40=r.a.f.a)/\(∀ r v,st r 41 v=wa r (wf r.a (wb r.a.f v)))/\(∀ (r:RG),gt r 41=r.a.f.b)/\(∀ r v,st r 42 v=wa r (wf r.a (wc r.a.f v)))/\(∀ (r:RG),gt r 42=r.a.f.c)/\(∀ r v,st r 43 v=wa r (wf r.a (wd r.a.f v)))/\(∀ (r:RG),gt r 43=r.a.f.d)/\(∀ r v,st r 44 v=wa r (wf r.a (we r.a.f v)))/\(∀ (r:RG),gt r 44=r.a.f.e)/\(∀ r v,st r 45 v=wa r (wf r.a (wf r.a.f v)))/\(∀ (r:RG),gt r 45=r.a.f.f)/\(∀ r v,st r 46 v=wa r (wf r.a (wg r.a.f v)))/\(∀ (r:RG),gt r 46=r.a.f.g)/\(∀ r v,st r 47 v=wa r (wf r.a (wh r.a.f v)))/\(∀ (r:RG),gt r 47=r.a.f.h)/\(∀ r v,st r 48 v=wa r (wg r.a (wa r.a.g v)))/\(∀ (r:RG),gt r 48=r.a.g.a)/\(∀ r v,st r 49 v=wa r (wg r.a (wb r.a.g v)))/\(∀ (r:RG),gt r 49=r.a.g.b)/\(∀ r v,st r 50 v=wa r (wg r.a (wc r.a.g v)))/\(∀ (r:RG),gt r 50=r.a.g.c)/\(∀ r v,st r 51 v=wa r (wg r.a (wd r.a.g v)))/\(∀ (r:RG),gt r 51=r.a.g.d)/\(∀ r v,st r 52 v=wa r (wg r.a (we r.a.g v)))/\(∀ (r:RG),gt r 52=r.a.g.e)/\(∀ r v,st r 53 v=wa r (wg r.a (wf r.a.g v)))/\(∀ (r:RG),gt r 53=r.a.g.f)/\(∀ r v,st r 54 v=wa r (wg r.a (wg r.a.g v)))/\(∀ (r:RG),gt r 54=r.a.g.g)/\(∀ r v,st r 55 v=wa r (wg r.a (wh r.a.g v)))/\(∀ (r:RG),gt r 55=r.a.g.h)/\(∀ r v,st r 56 v=wa r (wh r.a (wa r.a.h v)))/\(∀ (r:RG),gt r 56=r.a.h.a)/\(∀ r v,st r 57 v=wa r (wh r.a (wb r.a.h v)))/\(∀ (r:RG),gt r 57=r.a.h.b)/\(∀ r v,st r 58 v=wa r (wh r.a (wc r.a.h v)))/\(∀ (r:RG),gt r 58=r.a.h.c)/\(∀ r v,st r 59 v=wa r (wh r.a (wd r.a.h v)))/\(∀ (r:RG),gt r 59=r.a.h.d)/\(∀ r v,st r 60 v=wa r (wh r.a (we r.a.h v)))/\(∀ (r:RG),gt r 60=r.a.h.e)/\(∀ r v,st r 61 v=wa r (wh r.a (wf r.a.h v)))/\(∀ (r:RG),gt r 61=r.a.h.f)/\(∀ r v,st r 62 v=wa r (wh r.a (wg r.a.h v)))/\(∀ (r:RG),gt r 62=r.a.h.g)/\(∀ r v,st r 63 v=wa r (wh r.a (wh r.a.h v)))/\(∀ (r:RG),gt r 63=r.a.h.h):=by
 repeat first|apply And.intro|(intros;rfl)
theorem ST2:(∀ r v,st r 64 v=wb r (wa r.b (wa r.b.a v)))/\(∀ (r:RG),gt r 64=r.b.a.a)/\(∀ r v,st r 65 v=wb r (wa r.b (wb r.b.a v)))/\(∀ (r:RG),gt r 65=r.b.a.b)/\(∀ r v,st r 66 v=wb r (wa r.b (wc r.b.a v)))/\(∀ (r:RG),gt r 66=r.b.a.c)/\(∀ r v,st r 67 v=wb r (wa r.b (wd r.b.a v)))/\(∀ (r:RG),gt r 67=r.b.a.d)/\(∀ r v,st r 68 v=wb r (wa r.b (we r.b.a v)))/\(∀ (r:RG),gt r 68=r.b.a.e)/\(∀ r v,st r 69 v=wb r (wa r.b (wf r.b.a v)))/\(∀ (r:RG),gt r 69=r.b.a.f)/\(∀ r v,st r 70 v=wb r (wa r.b (wg r.b.a v)))/\(∀ (r:RG),gt r 70=r.b.a.g)/\(∀ r v,st r 71 v=wb r (wa r.b (wh r.b.a v)))/\(∀ (r:RG),gt r 71=r.b.a.h)/\(∀ r v,st r 72 v=wb r (wb r.b (wa r.b.b v)))/\(∀ (r:RG),gt r 72=r.b.b.a)/\(∀ r v,st r 73 v=wb r (wb r.b (wb r.b.b v)))/\(∀ (r:RG),gt r 73=r.b.b.b)/\(∀ r v,st r 74 v=wb r (wb r.b (wc r.b.b v)))/\(∀ (r:RG),gt r 74=r.b.b.c)/\(∀ r v,st r 75 v=wb r (wb r.b (wd r.b.b v)))/\(∀ (r:RG),gt r 75=r.b.b.d)/\(∀ r v,st r 76 v=wb r (wb r.b (we r.b.b v)))/\(∀ (r:RG),gt r 76=r.b.b.e)/\(∀ r v,st r 77 v=wb r (wb r.b (wf r.b.b v)))/\(∀ (r:RG),gt r 77=r.b.b.f)/\(∀ r v,st r 78 v=wb r (wb r.b (wg r.b.b v)))/\(∀ (r:RG),gt r 78=r.b.b.g)/\(∀ r v,st r 79 v=wb r (wb r.b (wh r.b.b v)))/\(∀ (r:RG),gt r 79=r.b.b.h)/\(∀ r v,st r 80 v=wb r (wc r.b (wa r.b.c v)))/\(∀ (r:RG),gt r 80=r.b.c.a)/\(∀ r v,st r 81 v=wb r (wc r.b (wb r.b.c v)))/\(∀ (r:RG),gt r 81=r.b.c.b)/\(∀ r v,st r 82 v=wb r (wc r.b (wc r.b.c v)))/\(∀ (r:RG),gt r 82=r.b.c.c)/\(∀ r v,st r 83 v=wb r (wc r.b (wd r.b.c v)))/\(∀ (r:RG),gt r 83=r.b.c.d)/\(∀ r v,st r 84 v=wb r (wc r.b (we r.b.c v)))/\(∀ (r:RG),gt r 84=r.b.c.e)/\(∀ r v,st r 85 v=wb r (wc r.b (wf r.b.c v)))/\(∀ (r:RG),gt r 85=r.b.c.f)/\(∀ r v,st r 86 v=wb r (wc r.b (wg r.b.c v)))/\(∀ (r:RG),gt r 86=r.b.c.g)/\(∀ r v,st r 87 v=wb r (wc r.b (wh r.b.c v)))/\(∀ (r:RG),gt r 87=r.b.c.h)/\(∀ r v,st r 88 v=wb r (wd r.b (wa r.b.d v)))/\(∀ (r:RG),gt r 88=r.b.d.a)/\(∀ r v,st r 89 v=wb r (wd r.b (wb r.b.d v)))/\(∀ (r:RG),gt r 89=r.b.d.b)/\(∀ r v,st r 90 v=wb r (wd r.b (wc r.b.d v)))/\(∀ (r:RG),gt r 90=r.b.d.c)/\(∀ r v,st r 91 v=wb r (wd r.b (wd r.b.d v)))/\(∀ (r:RG),gt r 91=r.b.d.d)/\(∀ r v,st r 92 v=wb r (wd r.b (we r.b.d v)))/\(∀ (r:RG),gt r 92=r.b.d.e)/\(∀ r v,st r 93 v=wb r (wd r.b (wf r.b.d v)))/\(∀ (r:RG),gt r 93=r.b.d.f)/\(∀ r v,st r 94 v=wb r (wd r.b (wg r.b.d v)))/\(∀ (r:RG),gt r 94=r.b.d.g)/\(∀ r v,st r 95 v=wb r (wd r.b (wh r.b.d v)))/\(∀ (r:RG),gt r 95=r.b.d.h):=by
 repeat first|apply And.intro|(intros;rfl)
theorem ST3:(∀ r v,st r 96 v=wb r (we r.b (wa r.b.e v)))/\(∀ (r:RG),gt r 96=r.b.e.a)/\(∀ r v,st r 97 v=wb r (we r.b (wb r.b.e v)))/\(∀ (r:RG),gt r 97=r.b.e.b)/\(∀ r v,st r 98 v=wb r (we r.b (wc r.b.e v)))/\(∀ (r:RG),gt r 98=r.b.e.c)/\(∀ r v,st r 99 v=wb r (we r.b (wd r.b.e v)))/\(∀ (r:RG),gt r 99=r.b.e.d)/\(∀ r v,st r 100 v=wb r (we r.b (we r.b.e v)))/\(∀ (r:RG),gt r 100=r.b.e.e)/\(∀ r v,st r 101 v=wb r (we r.b (wf r.b.e v)))/\(∀ (r:RG),gt r 101=r.b.e.f)/\(∀ r v,st r 102 v=wb r (we r.b (wg r.b.e v)))/\(∀ (r:RG),gt r 102=r.b.e.g)/\(∀ r v,st r 103 v=wb r (we r.b (wh r.b.e v)))/\(∀ (r:RG),gt r 103=r.b.e.h)/\(∀ r v,st r 104 v=wb r (wf r.b (wa r.b.f v)))/\(∀ (r:RG),gt r 104=r.b.f.a)/\(∀ r v,st r 105 v=wb r (wf r.b (wb r.b.f v)))/\(∀ (r:RG),gt r 105=r.b.f.b)/\(∀ r v,st r 106 v=wb r (wf r.b (wc r.b.f v)))/\(∀ (r:RG),gt r 106=r.b.f.c)/\(∀ r v,st r 107 v=wb r (wf r.b (wd r.b.f v)))/\(∀ (r:RG),gt r 107=r.b.f.d)/\(∀ r v,st r 108 v=wb r (wf r.b (we r.b.f v)))/\(∀ (r:RG),gt r 108=r.b.f.e)/\(∀ r v,st r 109 v=wb r (wf r.b (wf r.b.f v)))/\(∀ (r:RG),gt r 109=r.b.f.f)/\(∀ r v,st r 110 v=wb r (wf r.b (wg r.b.f v)))/\(∀ (r:RG),gt r 110=r.b.f.g)/\(∀ r v,st r 111 v=wb r (wf r.b (wh r.b.f v)))/\(∀ (r:RG),gt r 111=r.b.f.h)/\(∀ r v,st r 112 v=wb r (wg r.b (wa r.b.g v)))/\(∀ (r:RG),gt r 112=r.b.g.a)/\(∀ r v,st r 113 v=wb r (wg r.b (wb r.b.g v)))/\(∀ (r:RG),gt r 113=r.b.g.b)/\(∀ r v,st r 114 v=wb r (wg r.b (wc r.b.g v)))/\(∀ (r:RG),gt r 114=r.b.g.c)/\(∀ r v,st r 115 v=wb r (wg r.b (wd r.b.g v)))/\(∀ (r:RG),gt r 115=r.b.g.d)/\(∀ r v,st r 116 v=wb r (wg r.b (we r.b.g v)))/\(∀ (r:RG),gt r 116=r.b.g.e)/\(∀ r v,st r 117 v=wb r (wg r.b (wf r.b.g v)))/\(∀ (r:RG),gt r 117=r.b.g.f)/\(∀ r v,st r 118 v=wb r (wg r.b (wg r.b.g v)))/\(∀ (r:RG),gt r 118=r.b.g.g)/\(∀ r v,st r 119 v=wb r (wg r.b (wh r.b.g v)))/\(∀ (r:RG),gt r 119=r.b.g.h)/\(∀ r v,st r 120 v=wb r (wh r.b (wa r.b.h v)))/\(∀ (r:RG),gt r 120=r.b.h.a)/\(∀ r v,st r 121 v=wb r (wh r.b (wb r.b.h v)))/\(∀ (r:RG),gt r 121=r.b.h.b)/\(∀ r v,st r 122 v=wb r (wh r.b (wc r.b.h v)))/\(∀ (r:RG),gt r 122=r.b.h.c)/\(∀ r v,st r 123 v=wb r (wh r.b (wd r.b.h v)))/\(∀ (r:RG),gt r 123=r.b.h.d)/\(∀ r v,st r 124 v=wb r (wh r.b (we r.b.h v)))/\(∀ (r:RG),gt r 124=r.b.h.e)/\(∀ r v,st r 125 v=wb r (wh r.b (wf r.b.h v)))/\(∀ (r:RG),gt r 125=r.b.h.f)/\(∀ r v,st r 126 v=wb r (wh r.b (wg r.b.h v)))/\(∀ (r:RG),gt r 126=r.b.h.g)/\(∀ r v,st r 127 v=wb r (wh r.b (wh r.b.h v)))/\(∀ (r:RG),gt r 127=r.b.h.h):=by
 repeat first|apply And.intro|(intros;rfl)
end Go.Abs
