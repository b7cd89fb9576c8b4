/- words that run the printed code. Part of the proof of girandolelaw13.BalanceRings. -/
import Derived.Test.YtglacbfdbfhmfaaGreatDoorB2
import Derived.Test.YtglacbfdbfhmfaaGreatDoorB1
set_option linter.unusedVariables false
set_option linter.unusedSimpArgs false
namespace Go.Abs
theorem WZ (r:RG):gt r 2=r.a.a.c:=rfl
theorem Vb (r:RG):gt r 3=r.a.a.d:=rfl
theorem Uj {α β:Type}(a:α)(k:α->Option β):oB (some a) k=k a:=rfl
theorem bg (b:CZ)(r:RG)(ds:Dfs)(s:St):di b (some (.normal,r,ds,s))=b r ds s:=rfl
theorem CJ (b:CZ)(i:Nat)(r:RG)(ds:Dfs)(s:St):di b (some (.exit i,r,ds,s))=some (.exit i,r,ds,s):=rfl
theorem FO (b:CZ)(r:RG)(ds:Dfs)(s:St):di b (some (.ret,r,ds,s))=some (.ret,r,ds,s):=rfl
theorem HP (b:CZ)(p:AV)(r:RG)(ds:Dfs)(s:St):di b (some (.panic p,r,ds,s))=some (.panic p,r,ds,s):=rfl
theorem yj (a b:IRes):eX (.bool true) a b=a:=rfl
theorem Aj (a b:IRes):eX (.bool false) a b=b:=rfl
theorem wB (i:Nat)(r:RG)(ds:Dfs)(s:St):cM i (some (.normal,r,ds,s))=some (.normal,r,ds,s):=rfl
theorem vA (i:Nat)(r:RG)(ds:Dfs)(s:St):cM i (some (.ret,r,ds,s))=some (.ret,r,ds,s):=rfl
theorem E5 (i:Nat)(p:AV)(r:RG)(ds:Dfs)(s:St):cM i (some (.panic p,r,ds,s))=some (.panic p,r,ds,s):=rfl
theorem bX (i:Nat)(r:RG)(ds:Dfs)(s:St):cM i (some (.exit i,r,ds,s))=some (.normal,r,ds,s):=by simp[cM]
theorem FP (i j:Nat)(r:RG)(ds:Dfs)(s:St)(h:Nat.beq j i=false):cM i (some (.exit j,r,ds,s))=some (.exit j,r,ds,s):=by simp[cM,h]
theorem TW {α:Type}(v:AV)(h:Heap)(e e0:Nat)(k kp:AV->St->Option α):cZ (some (.ret v h e)) e0 k kp=k v { heap:=h,esc:=min e0 e }:=rfl
theorem Uu {α:Type}(v:AV)(h:Heap)(e e0:Nat)(k kp:AV->St->Option α):cZ (some (.panic v h e)) e0 k kp=kp v { heap:=h,esc:=min e0 e }:=rfl
theorem Ll (m n:Int):bt (.int .i64 m) (.int .i64 n)=some (.bool (decide (m<n))):=by rw[<-fX];rfl
theorem NP (m n:Int):iq (.int .i64 m) (.int .i64 n)=some (.bool (decide (n<m))):=by rw[<-fX];rfl
theorem Mm (m n:Int):zy (.int .i64 m) (.int .i64 n)=some (.bool (decide (n<=m))):=by rw[<-gS,<-fX];rfl
theorem Lx (m n:Int):WX (.int .i64 m) (.int .i64 n)=some (.bool (decide (m<=n))):=by rw[<-gS,<-fX];rfl
theorem MG (m n:Int):da (.int .i64 m) (.int .i64 n)=some (.bool (decide (m=n))):=by rw[<-iN];rfl
theorem Mf (m n:Int):fK (.int .i64 m) (.int .i64 n)=some (.bool (!decide (m=n))):=by rw[<-iN];rfl
theorem Ek (m n:Int):Vi (.int .u8 m) (.int .u8 n)=some (.bool (decide (m<n))):=by rw[<-fX];rfl
theorem Eb (m n:Int):Vw (.int .u8 m) (.int .u8 n)=some (.bool (decide (n<m))):=by rw[<-fX];rfl
theorem Cu (m n:Int):td (.int .u8 m) (.int .u8 n)=some (.bool (decide (n<=m))):=by rw[<-gS,<-fX];rfl
theorem CX (m n:Int):yg (.int .u8 m) (.int .u8 n)=some (.bool (decide (m<=n))):=by rw[<-gS,<-fX];rfl
theorem DY (m n:Int):ya (.int .u8 m) (.int .u8 n)=some (.bool (decide (m=n))):=by rw[<-iN];rfl
theorem Gd (m n:Int):Fc (.int .u8 m) (.int .u8 n)=some (.bool (!decide (m=n))):=by rw[<-iN];rfl
theorem GK (m n:List Nat):iy (.str m) (.str n)=some (.bool (strEq m n)):=rfl
theorem EF (m n:List Nat):MS (.str m) (.str n)=some (.bool (!strEq m n)):=rfl
theorem Gj (m n:Bool):Wh (.bool m) (.bool n)=some (.bool (m == n)):=rfl
theorem Em (m n:Bool):TZ (.bool m) (.bool n)=some (.bool (!(m == n))):=rfl
theorem Li (m n:Int):aV (.int .i64 m) (.int .i64 n)=some (.int .i64 (bP m n)):=rfl
theorem Ln (m n:Int):km (.int .i64 m) (.int .i64 n)=some (.int .i64 (f5 m n)):=rfl
theorem Mq (b:Bool):bY .not (.bool b)=some (.bool (!b)):=rfl
theorem Xg {α:Type}(ds:Dfs)(s:St)(k:AV->Dfs->St->Option α)(y:(AV->Dfs->St->Option α)->Option α):gJ (.bool true) true ds s k y=y k:=rfl
theorem Xm {α:Type}(ds:Dfs)(s:St)(k:AV->Dfs->St->Option α)(y:(AV->Dfs->St->Option α)->Option α):gJ (.bool false) true ds s k y=k Abs.undef ds s:=rfl
theorem Lq {α:Type}(ds:Dfs)(s:St)(k:AV->Dfs->St->Option α)(y:(AV->Dfs->St->Option α)->Option α):gJ (.bool true) false ds s k y=k Abs.undef ds s:=rfl
theorem Mr {α:Type}(ds:Dfs)(s:St)(k:AV->Dfs->St->Option α)(y:(AV->Dfs->St->Option α)->Option α):gJ (.bool false) false ds s k y=y k:=rfl
theorem DT (a b:AV):dX (.bool true) a b=some a:=rfl
theorem Fq (a b:AV):dX (.bool false) a b=some b:=rfl
theorem En (n o:Nat):aj (.ptr n o)=some (.ptr n o):=rfl
theorem Hh (l:List AV):aj (.iptr l)=some (.iptr l):=rfl
theorem Wu (k n o:Nat):aC k (.ptr n o)=some (.ptr n (Nat.add o k)):=rfl
theorem W7 (a:AV)(l:List AV):ba (.tuple (a::l)) 0=some a:=rfl
theorem Vs (a b:AV)(l:List AV):ba (.tuple (a::b::l)) 1=some b:=rfl
theorem Xj (a b c:AV)(l:List AV):ba (.tuple (a::b::c::l)) 2=some c:=rfl
theorem kF (cs:List AV)(off:Nat):eK none cs off=ae cs off:=rfl
theorem vL {α:Type}(a:α)(l:List α):ae (a::l) 0=some a:=rfl
theorem qJ {α:Type}(a b:α)(l:List α):ae (a::b::l) 1=some b:=rfl
theorem CB {α:Type}(a b c:α)(l:List α):ae (a::b::c::l) 2=some c:=rfl
theorem EX {α:Type}(a b c d:α)(l:List α):ae (a::b::c::d::l) 3=some d:=rfl
theorem Dw {α:Type}(a b c d e:α)(l:List α):ae (a::b::c::d::e::l) 4=some e:=rfl
theorem EH {α:Type}(a b c d e f:α)(l:List α):ae (a::b::c::d::e::f::l) 5=some f:=rfl
theorem FN {α:Type}(a v:α)(l:List α):ak (a::l) 0 v=v::l:=rfl
theorem Ie {α:Type}(a b v:α)(l:List α):ak (a::b::l) 1 v=a::v::l:=rfl
theorem EE {α:Type}(a b c v:α)(l:List α):ak (a::b::c::l) 2 v=a::b::v::l:=rfl
theorem DW {α:Type}(a b c d v:α)(l:List α):ak (a::b::c::d::l) 3 v=a::b::c::v::l:=rfl
theorem D9 {α:Type}(a b c d e v:α)(l:List α):ak (a::b::c::d::e::l) 4 v=a::b::c::d::v::l:=rfl
theorem D2 {α:Type}(a b c d e f v:α)(l:List α):ak (a::b::c::d::e::f::l) 5 v=a::b::c::d::e::v::l:=rfl
theorem ti {α:Type}(h l:List α):aa (h++l)=aa h+aa l:=by simp[ai]
theorem tJ {α:Type}:aa ([]:List α)=0:=rfl
theorem py {α:Type}(a:α)(l:List α):aa (a::l)=aa l+1:=rfl
theorem ar {α:Type}(l:List α)(n:Nat)(v:α):aa (ak l n v)=aa l:=by simp[ai,aR]
theorem au {α:Type}(h l:List α):ae (h++l) (aa h)=ae l 0:=by rw[az,ai,az,List.getElem?_append_right (Nat.le_refl _),Nat.sub_self]
theorem aU {α:Type}(h l:List α)(j:Nat):ae (h++l) (aa h+j)=ae l j:=by rw[az,ai,az,List.getElem?_append_right (Nat.le_add_right _ _),Nat.add_sub_cancel_left]
theorem bN {α:Type}(h l:List α)(v:α):ak (h++l) (aa h) v=h++ak l 0 v:=by simp[aR,ai]
theorem dz {α:Type}(h l:List α)(j:Nat)(v:α):ak (h++l) (aa h+j) v=h++ak l j v:=by simp[aR,ai]
theorem bS {α:Type}(h l:List α):bw (aa h) (h++l)=h:=by simp[cW,ai]
theorem pf {α:Type}(h l:List α)(v:α):mP (h++l) v=h++(l++[v]):=by simp[mX]
theorem bj {α:Type}{l:List α}{n:Nat}{a:α}(h:ae l n=some a):n<l.length:=by rw[az] at h;exact (List.getElem?_eq_some_iff.1 h).1
theorem ay {α:Type}{h:List α}{n:Nat}{o:α}(hn:ae h n=some o)(l:List α):ae (h++l) n=some o:=by
 have:=bj hn;rw[az] at hn ⊢;rw[List.getElem?_append_left this];exact hn
theorem ck {α:Type}{h:List α}{n:Nat}{o:α}(hn:ae h n=some o)(l:List α)(v:α):ak (h++l) n v=ak h n v++l:=by
 rw[aR,aR,List.set_append_left _ _ (bj hn)]
theorem aF {α:Type}{h:List α}{n:Nat}{o:α}(hn:ae h n=some o)(v:α):ae (ak h n v) n=some v:=by
 rw[az,aR];simp[bj hn]
theorem iw (b:Bool):im (.bool b)=true:=Eq.trans rfl rfl
theorem fR (k:IntKind)(n:Int):im (.int k n)=true:=Eq.trans rfl rfl
theorem fL (s:List Nat):im (.str s)=true:=Eq.trans rfl rfl
theorem noN_nils:im .nils=true:=Eq.trans rfl rfl
theorem noN_nilp:im .nilp=true:=Eq.trans rfl rfl
theorem eE (l:List AV):im (.agg l)=cS l:=Eq.trans rfl rfl
theorem pE (l:List AV):im (.tuple l)=cS l:=Eq.trans rfl rfl
theorem pW (t:TypeId)(v:AV):im (.iface t v)=im v:=Eq.trans rfl rfl
theorem iT (k:Nat)(l:List AV)(n:Lin):im (.sl k l n)=cond (mY n) (cS l) false:=Eq.trans rfl rfl
theorem linN_dead:mY .dead=true:=Eq.trans rfl rfl
theorem linN_lit:mY .lit=true:=Eq.trans rfl rfl
theorem linN_full:mY .full=true:=Eq.trans rfl rfl
theorem linN_frz:mY .frz=true:=Eq.trans rfl rfl
theorem noNL_nil:cS []=true:=Eq.trans rfl rfl
theorem bq (v:AV)(l:List AV):cS (v::l)=cond (im v) (cS l) false:=Eq.trans rfl rfl
theorem wz {n off r:Nat}{v:AV}{hp:Heap}{e:Nat}{cs:List AV}(hg:ae hp r=some (.cells cs))(hl:aa v.cells=n)(ho:off+n<=aa cs)(hv:v.cells.all AV.one=true)(hnn:im v=true) :
  aq n (.ptr r off) v ⟨hp,e⟩=some ⟨ak hp r (.cells (cJ cs off v.cells)),e⟩:=by
 have h1:dY (aa hp) v=true:=by simp[dY,hnn]
 have h2:fZ v r ⟨hp,e⟩=e:=by simp[fZ,dY,hnn]
 have h3:Nat.beq (aa v.cells) n=true:=by rw[hl];exact Nat.beq_refl n
 have h4:Nat.ble (Nat.add off n) (aa cs)=true:=Nat.ble_eq_true_of_le ho;simp only[aq,hg,dL,h1,h2,h3,h4,hv,Bool.and_self,cond_true]
theorem G5 {keep:Bool}{base:Nat}{v:AV}{hp:Heap}(h:im v=true):ml keep base v ⟨hp,base⟩=.ret v (bw base hp) base:=by
 simp[ml,h]
theorem aW (i j:Nat)(h:i+j<=natMax):bP (i:Int) (j:Int)=((i+j:Nat):Int):=by
 rw[AI];have:=fy h;simpa using this
theorem bm (a b:CZ)(r:RG)(ds:Dfs)(s:St):ac a b r ds s=di b (a r ds s):=rfl
theorem zF (c:X)(a b:CZ)(r:RG)(ds:Dfs)(s:St):aA c a b r ds s=eX (gx ⟨r,[]⟩ c) (a r ds s) (b r ds s):=rfl
theorem uJ (i:Nat)(b:CZ)(r:RG)(ds:Dfs)(s:St):aG i b r ds s=cM i (b r ds s):=rfl
theorem ym (r:RG)(ds:Dfs)(s:St):skipZ r ds s=some (.normal,r,ds,s):=rfl
theorem yW (i:Nat)(r:RG)(ds:Dfs)(s:St):bf i r ds s=some (.exit i,r,ds,s):=rfl
theorem CM (r:RG)(ds:Dfs)(s:St):retZ r ds s=some (.ret,r,ds,s):=rfl
theorem zC (b:CZ)(r:RG)(ds:Dfs)(s:St):aK b r ds s=am b 100000 r ds s:=rfl
theorem LC (cs:List AV)(s:St)(k:AV->St->IRes):bL cs s k=k (.ptr (aa s.heap) 0) ⟨mP s.heap (.cells cs),s.esc⟩:=rfl
theorem yc {α:Type}(l:List α)(v:α):mP l v=l++[v]:=mX l v
theorem tn {α:Type}(h l:List α)(a:α):(h++l)++[a]=h++(l++[a]):=by simp
theorem sI {α:Type}(a b:α)(l:List α):(a::l)++[b]=a::(l++[b]):=rfl
theorem Aw {α:Type}(l:List α):[]++l=l:=rfl
theorem yX {α:Type}(l:List α):l++[]=l:=by simp
theorem dt (a b:Nat):Nat.ble a b=decide (a<=b):=by
 rw[Bool.eq_iff_iff];simp[Nat.ble_eq]
theorem gY (a b:Nat):Nat.beq a b=decide (a=b):=by
 rw[Bool.eq_iff_iff];simp[Nat.beq_eq]
theorem Ut (a b:Nat):Nat.add a b=a+b:=rfl
theorem pp (a:Nat):min a a=a:=Nat.min_self a
theorem Nf (a b:Nat):min a (a+b)=a:=by omega
theorem V7 (a:Nat):0+a=a:=Nat.zero_add a
theorem Ug (a:Nat):a+0=a:=Nat.add_zero a
theorem dect:decide True=true:=rfl
theorem decf:decide False=false:=rfl
theorem Wa (a:Nat):(a<=a)=True:=by simp
theorem VA {α:Type}(a:α):(a=a)=True:=by simp
theorem notT:(!true)=false:=rfl
theorem notF:(!false)=true:=rfl
theorem Ue (b:Bool):(true&&b)=b:=by simp
theorem WC (b:Bool):(false&&b)=false:=by simp
theorem Lp (b:Bool):(b&&true)=b:=by simp
theorem Mt {α:Type}(a b:α):cond true a b=a:=rfl
theorem NN {α:Type}(a b:α):cond false a b=b:=rfl
theorem MJ (p:AV->Bool):([]:List AV).all p=true:=rfl
theorem LW (p:AV->Bool)(a:AV)(l:List AV):(a::l).all p=(p a&&l.all p):=rfl
theorem jZ (b:Bool):AV.one (.bool b)=true:=rfl
theorem fW (k:IntKind)(n:Int):AV.one (.int k n)=true:=rfl
theorem fQ (s:List Nat):AV.one (.str s)=true:=rfl
theorem one_nils:AV.one .nils=true:=rfl
theorem one_nilp:AV.one .nilp=true:=rfl
theorem z5 (n o:Nat):AV.one (.ptr n o)=true:=rfl
theorem jH (k:Nat)(l:List AV)(n:Lin):AV.one (.sl k l n)=true:=rfl
theorem pX (l:List AV):AV.cells (.agg l)=l:=rfl
theorem nP (b:Bool):AV.cells (.bool b)=[.bool b]:=rfl
theorem pT (k:IntKind)(n:Int):AV.cells (.int k n)=[.int k n]:=rfl
theorem qg (s:List Nat):AV.cells (.str s)=[.str s]:=rfl
theorem cells_nils:AV.cells .nils=[.nils]:=rfl
theorem pq (n o:Nat):AV.cells (.ptr n o)=[.ptr n o]:=rfl
theorem tp (k:Nat)(l:List AV)(n:Lin):AV.cells (.sl k l n)=[.sl k l n]:=rfl
theorem lR (n r off:Nat)(v:AV)(s:St):aq n (.ptr r off) v s=match ae s.heap r with
 | some (.cells cs)=>dL n off r v v.cells cs s
 | _=>none:=rfl
theorem B0 (n off r:Nat)(v:AV)(vc cs:List AV)(hp:Heap)(e:Nat)(h:im v=true):dL n off r v vc cs ⟨hp,e⟩=cond (Nat.beq (aa vc) n&&(Nat.ble (Nat.add off n) (aa cs)&&vc.all AV.one)) (some ⟨ak hp r (.cells (cJ cs off vc)),e⟩) none:=by
 simp[dL,dY,fZ,h]
theorem sX (ag:Option Nat)(n off:Nat)(h:Heap):ax ag (.ptr n off) h=match ae h n with
 | some (.cells cs)=>eK ag cs off
 | _=>none:=rfl
theorem LY (ag:Option Nat)(xs:List AV)(h:Heap):ax ag (.iptr xs) h=eK ag xs 0:=rfl
theorem xZ (k:Nat)(cs:List AV)(off:Nat):eK (some k) cs off=cond (Nat.ble (Nat.add off k) (aa cs)) (some (.agg (bw k (eY off cs)))) none:=rfl
theorem z6 {α:Type}(l:List α):bw 0 l=[]:=by cases l<;>rfl
theorem yP {α:Type}(a:α)(l:List α):bw 1 (a::l)=a::bw 0 l:=rfl
theorem AH {α:Type}(a:α)(l:List α):bw 2 (a::l)=a::bw 1 l:=rfl
theorem yF {α:Type}(a:α)(l:List α):bw 3 (a::l)=a::bw 2 l:=rfl
theorem yf {α:Type}(a:α)(l:List α):bw 4 (a::l)=a::bw 3 l:=rfl
theorem yp {α:Type}(a:α)(l:List α):bw 5 (a::l)=a::bw 4 l:=rfl
theorem Ah {α:Type}(a:α)(l:List α):bw 6 (a::l)=a::bw 5 l:=rfl
theorem ye {α:Type}(a:α)(l:List α):bw 7 (a::l)=a::bw 6 l:=rfl
theorem AP {α:Type}(a:α)(l:List α):bw 8 (a::l)=a::bw 7 l:=rfl
theorem y2 {α:Type}(l:List α):eY 0 l=l:=by cases l<;>rfl
theorem Ak {α:Type}(a:α)(l:List α):eY 1 (a::l)=eY 0 l:=rfl
theorem Ax {α:Type}(a:α)(l:List α):eY 2 (a::l)=eY 1 l:=rfl
theorem Al {α:Type}(a:α)(l:List α):eY 3 (a::l)=eY 2 l:=rfl
theorem zV {α:Type}(a:α)(l:List α):eY 4 (a::l)=eY 3 l:=rfl
theorem DK (cs:List AV)(o:Nat)(v:AV):cJ cs o [v]=ak cs o v:=rfl
theorem EZ (cs:List AV)(o:Nat)(a b:AV)(l:List AV):cJ cs o (a::b::l)=bd cs o (a::b::l):=rfl
theorem Ct (a0 a1 b0 b1:AV):bd [a0,a1] 0 [b0,b1]=[b0,b1]:=rfl
theorem Fd (a0 a1 a2 b0 b1 b2:AV):bd [a0,a1,a2] 0 [b0,b1,b2]=[b0,b1,b2]:=rfl
theorem CE (a0 a1 a2 a3 b0 b1 b2 b3:AV):bd [a0,a1,a2,a3] 0 [b0,b1,b2,b3]=[b0,b1,b2,b3]:=rfl
theorem B7 (a0 a1 a2 a3 a4 b0 b1 b2 b3 b4:AV):bd [a0,a1,a2,a3,a4] 0 [b0,b1,b2,b3,b4]=[b0,b1,b2,b3,b4]:=rfl
theorem Cz (a0 a1 a2 a3 a4 a5 b0 b1 b2 b3 b4 b5:AV):bd [a0,a1,a2,a3,a4,a5] 0 [b0,b1,b2,b3,b4,b5]=[b0,b1,b2,b3,b4,b5]:=rfl
theorem Fz (a0 a1 a2 a3 a4 a5 a6 b0 b1 b2 b3 b4 b5 b6:AV):bd [a0,a1,a2,a3,a4,a5,a6] 0 [b0,b1,b2,b3,b4,b5,b6]=[b0,b1,b2,b3,b4,b5,b6]:=rfl
theorem F5 (a0 a1 a2 a3 a4 a5 a6 a7 b0 b1 b2 b3 b4 b5 b6 b7:AV):bd [a0,a1,a2,a3,a4,a5,a6,a7] 0 [b0,b1,b2,b3,b4,b5,b6,b7]=[b0,b1,b2,b3,b4,b5,b6,b7]:=rfl
theorem Du (a0 a1 a2 a3 a4 a5 a6 a7 a8 b0 b1 b2 b3 b4 b5 b6 b7 b8:AV):bd [a0,a1,a2,a3,a4,a5,a6,a7,a8] 0 [b0,b1,b2,b3,b4,b5,b6,b7,b8]=[b0,b1,b2,b3,b4,b5,b6,b7,b8]:=rfl
theorem bO {sz:Nat}{es:List AV}{lin:Lin}{i:Nat}{v:AV}(h:ae es i=some v):aO sz (.sl sz es lin) (.int .i64 (i:Int))=some (.iptr v.cells):=by
 simp[aO,cG,h,gY]
theorem VK (a:AV):tupleAV [a]=a:=rfl
theorem Wq (a b:AV)(l:List AV):tupleAV (a::b::l)=.tuple (a::b::l):=rfl
theorem tup0:tupleAV []=Abs.undef:=rfl
theorem jC (e:RG)(h:Heap):fG e h []=some []:=rfl
theorem iL (e:RG)(h:Heap)(n:Nat)(l:List RI):fG e h (.t n::l)=match fG e h l with
 | some l=>some (gt e n::l)
 | none=>none:=rfl
theorem u4 (e:RG)(h:Heap)(n:Nat)(ag:Option Nat)(l:List RI):fG e h (.cell n ag::l)=match ax ag (gt e n) h,fG e h l with
 | some a,some l=>some (a::l)
 | _,_=>none:=rfl
theorem jK (C:Cfg)(f:FuncId)(b:Nat)(z:FZ)(r:RG)(s:St):kP C f b z (some (.ret,r,[],s))=match fG r s.heap z.res with
 | some l=>some (ml (C.keep f) b (tupleAV l) s)
 | none=>none:=rfl
theorem FS (C:Cfg)(f:FuncId)(b:Nat)(z:FZ)(r:RG)(s:St):kP C f b z (some (.normal,r,[],s))=match fG r s.heap z.res with
 | some l=>some (ml (C.keep f) b (tupleAV l) s)
 | none=>none:=rfl
theorem FA (C:Cfg)(f:FuncId)(b:Nat)(z:FZ)(p:AV)(r:RG)(s:St):kP C f b z (some (.panic p,r,[],s))=some (Ya false b p s):=rfl
theorem VI {α:Type}(w:Bool)(ds:Dfs)(s:St)(k:AV->Dfs->St->Option α)(y:(AV->Dfs->St->Option α)->Option α):gJ Abs.undef w ds s k y=k Abs.undef ds s:=rfl
theorem Nr {α:Type}(s:St)(sl:Nat)(hi:List (Nat×Heap))(rd:List (Nat×(Heap->Option AV)×AV))(k:AV->St->Nat->List (Nat×Heap)->List (Nat×(Heap->Option AV)×AV)->Option α)
 (y:(AV->St->Nat->List (Nat×Heap)->List (Nat×(Heap->Option AV)×AV)->Option α)->Option α):kG (.bool true) true s sl hi rd k y=y k:=rfl
theorem Nv {α:Type}(s:St)(sl:Nat)(hi:List (Nat×Heap))(rd:List (Nat×(Heap->Option AV)×AV))(k:AV->St->Nat->List (Nat×Heap)->List (Nat×(Heap->Option AV)×AV)->Option α)
 (y:(AV->St->Nat->List (Nat×Heap)->List (Nat×(Heap->Option AV)×AV)->Option α)->Option α):kG (.bool false) true s sl hi rd k y=k Abs.undef s sl hi rd:=rfl
theorem sF (b:Nat)(x:Heap->Option AV)(v:AV):ge b x v []=true:=rfl
theorem pj (b:Nat)(h:Heap):ej b h []=true:=rfl
theorem pR (b j:Nat)(h:Heap)(x:Heap->Option AV)(w:AV)(r:List (Nat×(Heap->Option AV)×AV)):ej b h ((j,x,w)::r)=((b.testBit j||aP x w h)&&ej b h r):=rfl
theorem zU (x:Heap->Option AV)(v:AV)(h:Heap):aP x v h=match x h with
 | some w=>w.same v
 | none=>false:=rfl
theorem tN (k:IntKind)(n:Int):AV.same (.int k n) (.int k n)=true:=by simp[AV.same]
theorem sj (l:List Nat):AV.same (.str l) (.str l)=true:=by simp[AV.same]
theorem qe (b:Bool):AV.same (.bool b) (.bool b)=true:=by simp[AV.same]
theorem same_nils:AV.same .nils .nils=true:=by simp[AV.same]
theorem GM {α:Type}(x:Option α):dl [] x=x:=rfl
theorem X3 (b:Bool):(b||true)=true:=by simp
theorem Vc (b:Bool):(true||b)=true:=by simp
theorem X4 (b:Bool):(false||b)=b:=by simp
theorem Uh {α:Type}(rec:RecT)(v:AV)(s s' : St)(ds:Dfs)(k:AV->Dfs->St->Option α)(kp:AV->St->Option α):oE rec (some (.val v s')) ds s k kp=k v ds s':=rfl
theorem Vn {α:Type}(rec:RecT)(g:FuncId)(args:List AV)(s:St)(ds:Dfs)(k:AV->Dfs->St->Option α)(kp:AV->St->Option α):oE rec (some (.call g args)) ds s k kp=cZ (rec g args s.heap) s.esc (λv s=>k v ds s) kp:=rfl
theorem Xi {α:Type}(rec:RecT)(v:AV)(s:St)(ds:Dfs)(k:AV->Dfs->St->Option α)(kp:AV->St->Option α):oE rec (some (.panic v)) ds s k kp=kp v s:=rfl
theorem yu (C:Cfg)(f:FuncId)(first capt args:List AV)(s:St):cq C (.func (.func f) first capt) args s=dE C f (first++args++capt) s:=rfl
theorem yR (v:AV)(s:St):orVal (some (v,s))=some (.val v s):=rfl
theorem VV {b:Nat}(h:b<256)(t:List Nat)(s:St):JK (.str t) (.int .u8 (b:Int)) s=some (.val (.int .i64 (indexByte b t 0)) s):=by
 have h1:(0:Int)<=(b:Int)/\(b:Int)<256:=by omega
 simp only[JK,h1,and_self,if_true,Int.toNat_natCast]
theorem MD (t:TypeId)(a:AV):vw (.iface t a)=some (.panic (.iface t a)):=rfl
theorem TI (o:AObj)(mk:Nat->AV)(s:St)(k:AV->St->IRes):oA (some (o,mk)) s k=k (mk (aa s.heap)) ⟨mP s.heap o,s.esc⟩:=rfl
theorem zq {α:Type}(h l:List α)(n:Nat)(v:α):ae (ak h n v++l) (aa h)=ae l 0:=by rw[<-ar h n v,au]
theorem FF {α:Type}(h l:List α)(n j:Nat)(v:α):ae (ak h n v++l) (aa h+j)=ae l j:=by rw[<-ar h n v,aU]
theorem Ac {α:Type}(h l:List α)(n:Nat)(v w:α):ak (ak h n v++l) (aa h) w=ak h n v++ak l 0 w:=by rw[<-ar h n v,bN]
theorem FB {α:Type}(h l:List α)(n j:Nat)(v w:α):ak (ak h n v++l) (aa h+j) w=ak h n v++ak l j w:=by rw[<-ar h n v,dz]
theorem AJ {α:Type}(h l:List α)(n:Nat)(v:α):bw (aa h) (ak h n v++l)=ak h n v:=by rw[<-ar h n v,bS]
theorem fV {α:Type}(h:List α)(n:Nat)(v w:α):ak (ak h n v) n w=ak h n w:=by simp[aR]
theorem rq {α:Type}(h:List α):bw (aa h) h=h:=by simp[cW,ai]
theorem tQ {α:Type}(h:List α)(n:Nat)(v:α):bw (aa h) (ak h n v)=ak h n v:=by rw[<-ar h n v,rq]
theorem sk {P:RG->Prop}{Q:RG->RG->Prop}(h:∀ r,P r->∃ r',Q r r'):∃ f:RG->RG,∀ r,P r->Q r (f r):=by
 classical
 exact ⟨λr=>if hp:P r then (h r hp).choose else r,λr hp=>by simp only[hp,dite_true];exact (h r hp).choose_spec⟩
def wa {α:Type}(r:V8 α)(x:α):V8 α:=⟨x,r.b,r.c,r.d,r.e,r.f,r.g,r.h⟩
theorem UR {α:Type}(r:V8 α)(x:α):wa r x=⟨x,r.b,r.c,r.d,r.e,r.f,r.g,r.h⟩:=rfl
def wb {α:Type}(r:V8 α)(x:α):V8 α:=⟨r.a,x,r.c,r.d,r.e,r.f,r.g,r.h⟩
theorem TU {α:Type}(r:V8 α)(x:α):wb r x=⟨r.a,x,r.c,r.d,r.e,r.f,r.g,r.h⟩:=rfl
def wc {α:Type}(r:V8 α)(x:α):V8 α:=⟨r.a,r.b,x,r.d,r.e,r.f,r.g,r.h⟩
theorem Xp {α:Type}(r:V8 α)(x:α):wc r x=⟨r.a,r.b,x,r.d,r.e,r.f,r.g,r.h⟩:=rfl
def wd {α:Type}(r:V8 α)(x:α):V8 α:=⟨r.a,r.b,r.c,x,r.e,r.f,r.g,r.h⟩
theorem Wz {α:Type}(r:V8 α)(x:α):wd r x=⟨r.a,r.b,r.c,x,r.e,r.f,r.g,r.h⟩:=rfl
def we {α:Type}(r:V8 α)(x:α):V8 α:=⟨r.a,r.b,r.c,r.d,x,r.f,r.g,r.h⟩
theorem UC {α:Type}(r:V8 α)(x:α):we r x=⟨r.a,r.b,r.c,r.d,x,r.f,r.g,r.h⟩:=rfl
def wf {α:Type}(r:V8 α)(x:α):V8 α:=⟨r.a,r.b,r.c,r.d,r.e,x,r.g,r.h⟩
theorem UP {α:Type}(r:V8 α)(x:α):wf r x=⟨r.a,r.b,r.c,r.d,r.e,x,r.g,r.h⟩:=rfl
def wg {α:Type}(r:V8 α)(x:α):V8 α:=⟨r.a,r.b,r.c,r.d,r.e,r.f,x,r.h⟩
theorem UM {α:Type}(r:V8 α)(x:α):wg r x=⟨r.a,r.b,r.c,r.d,r.e,r.f,x,r.h⟩:=rfl
def wh {α:Type}(r:V8 α)(x:α):V8 α:=⟨r.a,r.b,r.c,r.d,r.e,r.f,r.g,x⟩
theorem UZ {α:Type}(r:V8 α)(x:α):wh r x=⟨r.a,r.b,r.c,r.d,r.e,r.f,r.g,x⟩:=rfl
theorem WK (d:Dfs)(s:St)(r:RG):rt d s r=some (.normal,r,d,s):=rfl
theorem Vk (r:RG)(d:Dfs)(p:AV)(s:St):pK r d p s=some (.panic p,r,d,s):=rfl
theorem V3 (r:RG)(l:List AV)(k:Nat):gx ⟨r,l⟩ (.t k)=gt r k:=rfl
theorem SIM:type_of% (And.intro @V3 (And.intro @WK (And.intro @Vk (And.intro @Uj (And.intro @bg (And.intro @CJ (And.intro @FO (And.intro @HP (And.intro @yj (And.intro @Aj (And.intro @wB (And.intro @vA (And.intro @E5 (And.intro @bX (And.intro @FP (And.intro @TW (And.intro @Uu (And.intro @Ll (And.intro @NP (And.intro @Mm (And.intro @Lx (And.intro @MG (And.intro @Mf (And.intro @Ek (And.intro @Eb (And.intro @Cu (And.intro @CX (And.intro @DY (And.intro @Gd (And.intro @GK (And.intro @EF (And.intro @Gj (And.intro @Em (And.intro @Li (And.intro @Ln (And.intro @Mq (And.intro @Xg (And.intro @Xm (And.intro @Lq (And.intro @Mr (And.intro @DT (And.intro @Fq (And.intro @En (And.intro @Hh (And.intro @Wu (And.intro @W7 (And.intro @Vs (And.intro @Xj (And.intro @kF (And.intro @vL (And.intro @qJ (And.intro @CB (And.intro @EX (And.intro @Dw (And.intro @EH (And.intro @FN (And.intro @Ie (And.intro @EE (And.intro @DW (And.intro @D9 (And.intro @D2 (And.intro @ti (And.intro @tJ (And.intro @py (And.intro @ar (And.intro @au (And.intro @aU (And.intro @bN (And.intro @dz (And.intro @bS (And.intro @pf (And.intro @iw (And.intro @fR (And.intro @fL (And.intro @noN_nils (And.intro @noN_nilp (And.intro @eE (And.intro @pE (And.intro @pW (And.intro @iT (And.intro @linN_dead (And.intro @linN_lit (And.intro @linN_full (And.intro @linN_frz (And.intro @noNL_nil (And.intro @bq (And.intro @G5 (And.intro @bm (And.intro @zF (And.intro @uJ (And.intro @ym (And.intro @yW (And.intro @CM (And.intro @zC (And.intro @LC (And.intro @yc (And.intro @tn (And.intro @sI (And.intro @Aw (And.intro @yX (And.intro @dt (And.intro @gY (And.intro @Ut (And.intro @pp (And.intro @Nf (And.intro @V7 (And.intro @Ug (And.intro @dect (And.intro @decf (And.intro @Wa (And.intro @VA (And.intro @notT (And.intro @notF (And.intro @Ue (And.intro @WC (And.intro @Lp (And.intro @Mt (And.intro @NN (And.intro @MJ (And.intro @LW (And.intro @jZ (And.intro @fW (And.intro @fQ (And.intro @one_nils (And.intro @one_nilp (And.intro @z5 (And.intro @jH (And.intro @pX (And.intro @nP (And.intro @pT (And.intro @qg (And.intro @cells_nils (And.intro @pq (And.intro @tp (And.intro @lR (And.intro @B0 (And.intro @sX (And.intro @LY (And.intro @xZ (And.intro @z6 (And.intro @yP (And.intro @AH (And.intro @yF (And.intro @yf (And.intro @yp (And.intro @Ah (And.intro @ye (And.intro @AP (And.intro @y2 (And.intro @Ak (And.intro @Ax (And.intro @Al (And.intro @zV (And.intro @DK (And.intro @EZ (And.intro @Ct (And.intro @Fd (And.intro @CE (And.intro @B7 (And.intro @Cz (And.intro @Fz (And.intro @F5 (And.intro @Du (And.intro @VK (And.intro @Wq (And.intro @tup0 (And.intro @jC (And.intro @iL (And.intro @u4 (And.intro @jK (And.intro @FS (And.intro @FA (And.intro @VI (And.intro @Nr (And.intro @Nv (And.intro @sF (And.intro @pj (And.intro @pR (And.intro @zU (And.intro @tN (And.intro @sj (And.intro @qe (And.intro @same_nils (And.intro @GM (And.intro @X3 (And.intro @Vc (And.intro @X4 (And.intro @Uh (And.intro @Vn (And.intro @Xi (And.intro @yu (And.intro @yR (And.intro @MD (And.intro @TI (And.intro @zq (And.intro @FF (And.intro @Ac (And.intro @FB (And.intro @AJ (And.intro @fV (And.intro @rq (And.intro @tQ (And.intro @UR (And.intro @TU (And.intro @Xp (And.intro @Wz (And.intro @UC (And.intro @UP (And.intro @UM @UZ))))))))))))))))))))))))))))))))))))))))))))))))))))))))))))))))))))))))))))))))))))))))))))))))))))))))))))))))))))))))))))))))))))))))))))))))))))))))))))))))))))))))))))))))))))))))))))))))))))))))))))))))):=And.intro @V3 (And.intro @WK (And.intro @Vk (And.intro @Uj (And.intro @bg (And.intro @CJ (And.intro @FO (And.intro @HP (And.intro @yj (And.intro @Aj (And.intro @wB (And.intro @vA (And.intro @E5 (And.intro @bX (And.intro @FP (And.intro @TW (And.intro @Uu (And.intro @Ll (And.intro @NP (And.intro @Mm (And.intro @Lx (And.intro @MG (And.intro @Mf (And.intro @Ek (And.intro @Eb (And.intro @Cu (And.intro @CX (And.intro @DY (And.intro @Gd (And.intro @GK (And.intro @EF (And.intro @Gj (And.intro @Em (And.intro @Li (And.intro @Ln (And.intro @Mq (And.intro @Xg (And.intro @Xm (And.intro @Lq (And.intro @Mr (And.intro @DT (And.intro @Fq (And.intro @En (And.intro @Hh (And.intro @Wu (And.intro @W7 (And.intro @Vs (And.intro @Xj (And.intro @kF (And.intro @vL (And.intro @qJ (And.intro @CB (And.intro @EX (And.intro @Dw (And.intro @EH (And.intro @FN (And.intro @Ie (And.intro @EE (And.intro @DW (And.intro @D9 (And.intro @D2 (And.intro @ti (And.intro @tJ (And.intro @py (And.intro @ar (And.intro @au (And.intro @aU (And.intro @bN (And.intro @dz (And.intro @bS (And.intro @pf (And.intro @iw (And.intro @fR (And.intro @fL (And.intro @noN_nils (And.intro @noN_nilp (And.intro @eE (And.intro @pE (And.intro @pW (And.intro @iT (And.intro @linN_dead (And.intro @linN_lit (And.intro @linN_full (And.intro @linN_frz (And.intro @noNL_nil (And.intro @bq (And.intro @G5 (And.intro @bm (And.intro @zF (And.intro @uJ (And.intro @ym (And.intro @yW (And.intro @CM (And.intro @zC (And.intro @LC (And.intro @yc (And.intro @tn (And.intro @sI (And.intro @Aw (And.intro @yX (And.intro @dt (And.intro @gY (And.intro @Ut (And.intro @pp (And.intro @Nf (And.intro @V7 (And.intro @Ug (And.intro @dect (And.intro @decf (And.intro @Wa (And.intro @VA (And.intro @notT (And.intro @notF (And.intro @Ue (And.intro @WC (And.intro @Lp (And.intro @Mt (And.intro @NN (And.intro @MJ (And.intro @LW (And.intro @jZ (And.intro @fW (And.intro @fQ (And.intro @one_nils (And.intro @one_nilp (And.intro @z5 (And.intro @jH (And.intro @pX (And.intro @nP (And.intro @pT (And.intro @qg (And.intro @cells_nils (And.intro @pq (And.intro @tp (And.intro @lR (And.intro @B0 (And.intro @sX (And.intro @LY (And.intro @xZ (And.intro @z6 (And.intro @yP (And.intro @AH (And.intro @yF (And.intro @yf (And.intro @yp (And.intro @Ah (And.intro @ye (And.intro @AP (And.intro @y2 (And.intro @Ak (And.intro @Ax (And.intro @Al (And.intro @zV (And.intro @DK (And.intro @EZ (And.intro @Ct (And.intro @Fd (And.intro @CE (And.intro @B7 (And.intro @Cz (And.intro @Fz (And.intro @F5 (And.intro @Du (And.intro @VK (And.intro @Wq (And.intro @tup0 (And.intro @jC (And.intro @iL (And.intro @u4 (And.intro @jK (And.intro @FS (And.intro @FA (And.intro @VI (And.intro @Nr (And.intro @Nv (And.intro @sF (And.intro @pj (And.intro @pR (And.intro @zU (And.intro @tN (And.intro @sj (And.intro @qe (And.intro @same_nils (And.intro @GM (And.intro @X3 (And.intro @Vc (And.intro @X4 (And.intro @Uh (And.intro @Vn (And.intro @Xi (And.intro @yu (And.intro @yR (And.intro @MD (And.intro @TI (And.intro @zq (And.intro @FF (And.intro @Ac (And.intro @FB (And.intro @AJ (And.intro @fV (And.intro @rq (And.intro @tQ (And.intro @UR (And.intro @TU (And.intro @Xp (And.intro @Wz (And.intro @UC (And.intro @UP (And.intro @UM @UZ))))))))))))))))))))))))))))))))))))))))))))))))))))))))))))))))))))))))))))))))))))))))))))))))))))))))))))))))))))))))))))))))))))))))))))))))))))))))))))))))))))))))))))))))))))))))))))))))))))))))))))))))
theorem ST0:(∀ r v,st r 0 v=wa r (wa r.a (wa r.a.a v)))/\(∀ (r:RG),gt r 0=r.a.a.a)/\(∀ r v,st r 1 v=wa r (wa r.a (wb r.a.a v)))/\(∀ (r:RG),gt r 1=r.a.a.b)/\(∀ r v,st r 2 v=wa r (wa r.a (wc r.a.a v)))/\(∀ (r:RG),gt r 2=r.a.a.c)/\(∀ r v,st r 3 v=wa r (wa r.a (wd r.a.a v)))/\(∀ (r:RG),gt r 3=r.a.a.d)/\(∀ r v,st r 4 v=wa r (wa r.a (we r.a.a v)))/\(∀ (r:RG),gt r 4=r.a.a.e)/\(∀ r v,st r 5 v=wa r (wa r.a (wf r.a.a v)))/\(∀ (r:RG),gt r 5=r.a.a.f)/\(∀ r v,st r 6 v=wa r (wa r.a (wg r.a.a v)))/\(∀ (r:RG),gt r 6=r.a.a.g)/\(∀ r v,st r 7 v=wa r (wa r.a (wh r.a.a v)))/\(∀ (r:RG),gt r 7=r.a.a.h)/\(∀ r v,st r 8 v=wa r (wb r.a (wa r.a.b v)))/\(∀ (r:RG),gt r 8=r.a.b.a)/\(∀ r v,st r 9 v=wa r (wb r.a (wb r.a.b v)))/\(∀ (r:RG),gt r 9=r.a.b.b)/\(∀ r v,st r 10 v=wa r (wb r.a (wc r.a.b v)))/\(∀ (r:RG),gt r 10=r.a.b.c)/\(∀ r v,st r 11 v=wa r (wb r.a (wd r.a.b v)))/\(∀ (r:RG),gt r 11=r.a.b.d)/\(∀ r v,st r 12 v=wa r (wb r.a (we r.a.b v)))/\(∀ (r:RG),gt r 12=r.a.b.e)/\(∀ r v,st r 13 v=wa r (wb r.a (wf r.a.b v)))/\(∀ (r:RG),gt r 13=r.a.b.f)/\(∀ r v,st r 14 v=wa r (wb r.a (wg r.a.b v)))/\(∀ (r:RG),gt r 14=r.a.b.g)/\(∀ r v,st r 15 v=wa r (wb r.a (wh r.a.b v)))/\(∀ (r:RG),gt r 15=r.a.b.h)/\(∀ r v,st r 16 v=wa r (wc r.a (wa r.a.c v)))/\(∀ (r:RG),gt r 16=r.a.c.a)/\(∀ r v,st r 17 v=wa r (wc r.a (wb r.a.c v)))/\(∀ (r:RG),gt r 17=r.a.c.b)/\(∀ r v,st r 18 v=wa r (wc r.a (wc r.a.c v)))/\(∀ (r:RG),gt r 18=r.a.c.c)/\(∀ r v,st r 19 v=wa r (wc r.a (wd r.a.c v)))/\(∀ (r:RG),gt r 19=r.a.c.d)/\(∀ r v,st r 20 v=wa r (wc r.a (we r.a.c v)))/\(∀ (r:RG),gt r 20=r.a.c.e)/\(∀ r v,st r 21 v=wa r (wc r.a (wf r.a.c v)))/\(∀ (r:RG),gt r 21=r.a.c.f)/\(∀ r v,st r 22 v=wa r (wc r.a (wg r.a.c v)))/\(∀ (r:RG),gt r 22=r.a.c.g)/\(∀ r v,st r 23 v=wa r (wc r.a (wh r.a.c v)))/\(∀ (r:RG),gt r 23=r.a.c.h)/\(∀ r v,st r 24 v=wa r (wd r.a (wa r.a.d v)))/\(∀ (r:RG),gt r 24=r.a.d.a)/\(∀ r v,st r 25 v=wa r (wd r.a (wb r.a.d v)))/\(∀ (r:RG),gt r 25=r.a.d.b)/\(∀ r v,st r 26 v=wa r (wd r.a (wc r.a.d v)))/\(∀ (r:RG),gt r 26=r.a.d.c)/\(∀ r v,st r 27 v=wa r (wd r.a (wd r.a.d v)))/\(∀ (r:RG),gt r 27=r.a.d.d)/\(∀ r v,st r 28 v=wa r (wd r.a (we r.a.d v)))/\(∀ (r:RG),gt r 28=r.a.d.e)/\(∀ r v,st r 29 v=wa r (wd r.a (wf r.a.d v)))/\(∀ (r:RG),gt r 29=r.a.d.f)/\(∀ r v,st r 30 v=wa r (wd r.a (wg r.a.d v)))/\(∀ (r:RG),gt r 30=r.a.d.g)/\(∀ r v,st r 31 v=wa r (wd r.a (wh r.a.d v)))/\(∀ (r:RG),gt r 31=r.a.d.h):=by
 repeat first|apply And.intro|(intros;rfl)
theorem ST1:(∀ r v,st r 32 v=wa r (we r.a (wa r.a.e v)))/\(∀ (r:RG),gt r 32=r.a.e.a)/\(∀ r v,st r 33 v=wa r (we r.a (wb r.a.e v)))/\(∀ (r:RG),gt r 33=r.a.e.b)/\(∀ r v,st r 34 v=wa r (we r.a (wc r.a.e v)))/\(∀ (r:RG),gt r 34=r.a.e.c)/\(∀ r v,st r 35 v=wa r (we r.a (wd r.a.e v)))/\(∀ (r:RG),gt r 35=r.a.e.d)/\(∀ r v,st r 36 v=wa r (we r.a (we r.a.e v)))/\(∀ (r:RG),gt r 36=r.a.e.e)/\(∀ r v,st r 37 v=wa r (we r.a (wf r.a.e v)))/\(∀ (r:RG),gt r 37=r.a.e.f)/\(∀ r v,st r 38 v=wa r (we r.a (wg r.a.e v)))/\(∀ (r:RG),gt r 38=r.a.e.g)/\(∀ r v,st r 39 v=wa r (we r.a (wh r.a.e v)))/\(∀ (r:RG),gt r 39=r.a.e.h)/\(∀ r v,st r 40 v=wa r (wf r.a (wa r.a.f v)))/\(∀ (r:RG),gt r 40=r.a.f.a)/\(∀ r v,st r 41 v=wa r (wf r.a (wb r.a.f v)))/\(∀ (r:RG),gt r 41=r.a.f.b)/\(∀ r v,st r 42 v=wa r (wf r.a (wc r.a.f v)))/\(∀ (r:RG),gt r 42=r.a.f.c)/\(∀ r v,st r 43 v=wa r (wf r.a (wd r.a.f v)))/\(∀ (r:RG),gt r 43=r.a.f.d)/\(∀ r v,st r 44 v=wa r (wf r.a (we r.a.f v)))/\(∀ (r:RG),gt r 44=r.a.f.e)/\(∀ r v,st r 45 v=wa r (wf r.a (wf r.a.f v)))/\(∀ (r:RG),gt r 45=r.a.f.f)/\(∀ r v,st r 46 v=wa r (wf r.a (wg r.a.f v)))/\(∀ (r:RG),gt r 46=r.a.f.g)/\(∀ r v,st r 47 v=wa r (wf r.a (wh r.a.f v)))/\(∀ (r:RG),gt r 47=r.a.f.h)/\(∀ r v,st r 48 v=wa r (wg r.a (wa r.a.g v)))/\(∀ (r:RG),gt r 48=r.a.g.a)/\(∀ r v,st r 49 v=wa r (wg r.a (wb r.a.g v)))/\(∀ (r:RG),gt r 49=r.a.g.b)/\(∀ r v,st r 50 v=wa r (wg r.a (wc r.a.g v)))/\(∀ (r:RG),gt r 50=r.a.g.c)/\(∀ r v,st r 51 v=wa r (wg r.a (wd r.a.g v)))/\(∀ (r:RG),gt r 51=r.a.g.d)/\(∀ r v,st r 52 v=wa r (wg r.a (we r.a.g v)))/\(∀ (r:RG),gt r 52=r.a.g.e)/\(∀ r v,st r 53 v=wa r (wg r.a (wf r.a.g v)))/\(∀ (r:RG),gt r 53=r.a.g.f)/\(∀ r v,st r 54 v=wa r (wg r.a (wg r.a.g v)))/\(∀ (r:RG),gt r 54=r.a.g.g)/\(∀ r v,st r 55 v=wa r (wg r.a (wh r.a.g v)))/\(∀ (r:RG),gt r 55=r.a.g.h)/\(∀ r v,st r 56 v=wa r (wh r.a (wa r.a.h v)))/\(∀ (r:RG),gt r 56=r.a.h.a)/\(∀ r v,st r 57 v=wa r (wh r.a (wb r.a.h v)))/\(∀ (r:RG),gt r 57=r.a.h.b)/\(∀ r v,st r 58 v=wa r (wh r.a (wc r.a.h v)))/\(∀ (r:RG),gt r 58=r.a.h.c)/\(∀ r v,st r 59 v=wa r (wh r.a (wd r.a.h v)))/\(∀ (r:RG),gt r 59=r.a.h.d)/\(∀ r v,st r 60 v=wa r (wh r.a (we r.a.h v)))/\(∀ (r:RG),gt r 60=r.a.h.e)/\(∀ r v,st r 61 v=wa r (wh r.a (wf r.a.h v)))/\(∀ (r:RG),gt r 61=r.a.h.f)/\(∀ r v,st r 62 v=wa r (wh r.a (wg r.a.h v)))/\(∀ (r:RG),gt r 62=r.a.h.g)/\(∀ r v,st r 63 v=wa r (wh r.a (wh r.a.h v)))/\(∀ (r:RG),gt r 63=r.a.h.h):=by
 repeat first|apply And.intro|(intros;rfl)
theorem ST2:(∀ r v,st r 64 v=wb r (wa r.b (wa r.b.a v)))/\(∀ (r:RG),gt r 64=r.b.a.a)/\(∀ r v,st r 65 v=wb r (wa r.b (wb r.b.a v)))/\(∀ (r:RG),gt r 65=r.b.a.b)/\(∀ r v,st r 66 v=wb r (wa r.b (wc r.b.a v)))/\(∀ (r:RG),gt r 66=r.b.a.c)/\(∀ r v,st r 67 v=wb r (wa r.b (wd r.b.a v)))/\(∀ (r:RG),gt r 67=r.b.a.d)/\(∀ r v,st r 68 v=wb r (wa r.b (we r.b.a v)))/\(∀ (r:RG),gt r 68=r.b.a.e)/\(∀ r v,st r 69 v=wb r (wa r.b (wf r.b.a v)))/\(∀ (r:RG),gt r 69=r.b.a.f)/\(∀ r v,st r 70 v=wb r (wa r.b (wg r.b.a v)))/\(∀ (r:RG),gt r 70=r.b.a.g)/\(∀ r v,st r 71 v=wb r (wa r.b (wh r.b.a v)))/\(∀ (r:RG),gt r 71=r.b.a.h)/\(∀ r v,st r 72 v=wb r (wb r.b (wa r.b.b v)))/\(∀ (r:RG),gt r 72=r.b.b.a)/\(∀ r v,st r 73 v=wb r (wb r.b (wb r.b.b v)))/\(∀ (r:RG),gt r 73=r.b.b.b)/\(∀ r v,st r 74 v=wb r (wb r.b (wc r.b.b v)))/\(∀ (r:RG),gt r 74=r.b.b.c)/\(∀ r v,st r 75 v=wb r (wb r.b (wd r.b.b v)))/\(∀ (r:RG),gt r 75=r.b.b.d)/\(∀ r v,st r 76 v=wb r (wb r.b (we r.b.b v)))/\(∀ (r:RG),gt r 76=r.b.b.e)/\(∀ r v,st r 77 v=wb r (wb r.b (wf r.b.b v)))/\(∀ (r:RG),gt r 77=r.b.b.f)/\(∀ r v,st r 78 v=wb r (wb r.b (wg r.b.b v)))/\(∀ (r:RG),gt r 78=r.b.b.g)/\(∀ r v,st r 79 v=wb r (wb r.b (wh r.b.b v)))/\(∀ (r:RG),gt r 79=r.b.b.h)/\(∀ r v,st r 80 v=wb r (wc r.b (wa r.b.c v)))/\(∀ (r:RG),gt r 80=r.b.c.a)/\(∀ r v,st r 81 v=wb r (wc r.b (wb r.b.c v)))/\(∀ (r:RG),gt r 81=r.b.c.b)/\(∀ r v,st r 82 v=wb r (wc r.b (wc r.b.c v)))/\(∀ (r:RG),gt r 82=r.b.c.c)/\(∀ r v,st r 83 v=wb r (wc r.b (wd r.b.c v)))/\(∀ (r:RG),gt r 83=r.b.c.d)/\(∀ r v,st r 84 v=wb r (wc r.b (we r.b.c v)))/\(∀ (r:RG),gt r 84=r.b.c.e)/\(∀ r v,st r 85 v=wb r (wc r.b (wf r.b.c v)))/\(∀ (r:RG),gt r 85=r.b.c.f)/\(∀ r v,st r 86 v=wb r (wc r.b (wg r.b.c v)))/\(∀ (r:RG),gt r 86=r.b.c.g)/\(∀ r v,st r 87 v=wb r (wc r.b (wh r.b.c v)))/\(∀ (r:RG),gt r 87=r.b.c.h)/\(∀ r v,st r 88 v=wb r (wd r.b (wa r.b.d v)))/\(∀ (r:RG),gt r 88=r.b.d.a)/\(∀ r v,st r 89 v=wb r (wd r.b (wb r.b.d v)))/\(∀ (r:RG),gt r 89=r.b.d.b)/\(∀ r v,st r 90 v=wb r (wd r.b (wc r.b.d v)))/\(∀ (r:RG),gt r 90=r.b.d.c)/\(∀ r v,st r 91 v=wb r (wd r.b (wd r.b.d v)))/\(∀ (r:RG),gt r 91=r.b.d.d)/\(∀ r v,st r 92 v=wb r (wd r.b (we r.b.d v)))/\(∀ (r:RG),gt r 92=r.b.d.e)/\(∀ r v,st r 93 v=wb r (wd r.b (wf r.b.d v)))/\(∀ (r:RG),gt r 93=r.b.d.f)/\(∀ r v,st r 94 v=wb r (wd r.b (wg r.b.d v)))/\(∀ (r:RG),gt r 94=r.b.d.g)/\(∀ r v,st r 95 v=wb r (wd r.b (wh r.b.d v)))/\(∀ (r:RG),gt r 95=r.b.d.h):=by
 repeat first|apply And.intro|(intros;rfl)
theorem ST3:(∀ r v,st r 96 v=wb r (we r.b (wa r.b.e v)))/\(∀ (r:RG),gt r 96=r.b.e.a)/\(∀ r v,st r 97 v=wb r (we r.b (wb r.b.e v)))/\(∀ (r:RG),gt r 97=r.b.e.b)/\(∀ r v,st r 98 v=wb r (we r.b (wc r.b.e v)))/\(∀ (r:RG),gt r 98=r.b.e.c)/\(∀ r v,st r 99 v=wb r (we r.b (wd r.b.e v)))/\(∀ (r:RG),gt r 99=r.b.e.d)/\(∀ r v,st r 100 v=wb r (we r.b (we r.b.e v)))/\(∀ (r:RG),gt r 100=r.b.e.e)/\(∀ r v,st r 101 v=wb r (we r.b (wf r.b.e v)))/\(∀ (r:RG),gt r 101=r.b.e.f)/\(∀ r v,st r 102 v=wb r (we r.b (wg r.b.e v)))/\(∀ (r:RG),gt r 102=r.b.e.g)/\(∀ r v,st r 103 v=wb r (we r.b (wh r.b.e v)))/\(∀ (r:RG),gt r 103=r.b.e.h)/\(∀ r v,st r 104 v=wb r (wf r.b (wa r.b.f v)))/\(∀ (r:RG),gt r 104=r.b.f.a)/\(∀ r v,st r 105 v=wb r (wf r.b (wb r.b.f v)))/\(∀ (r:RG),gt r 105=r.b.f.b)/\(∀ r v,st r 106 v=wb r (wf r.b (wc r.b.f v)))/\(∀ (r:RG),gt r 106=r.b.f.c)/\(∀ r v,st r 107 v=wb r (wf r.b (wd r.b.f v)))/\(∀ (r:RG),gt r 107=r.b.f.d)/\(∀ r v,st r 108 v=wb r (wf r.b (we r.b.f v)))/\(∀ (r:RG),gt r 108=r.b.f.e)/\(∀ r v,st r 109 v=wb r (wf r.b (wf r.b.f v)))/\(∀ (r:RG),gt r 109=r.b.f.f)/\(∀ r v,st r 110 v=wb r (wf r.b (wg r.b.f v)))/\(∀ (r:RG),gt r 110=r.b.f.g)/\(∀ r v,st r 111 v=wb r (wf r.b (wh r.b.f v)))/\(∀ (r:RG),gt r 111=r.b.f.h)/\(∀ r v,st r 112 v=wb r (wg r.b (wa r.b.g v)))/\(∀ (r:RG),gt r 112=r.b.g.a)/\(∀ r v,st r 113 v=wb r (wg r.b (wb r.b.g v)))/\(∀ (r:RG),gt r 113=r.b.g.b)/\(∀ r v,st r 114 v=wb r (wg r.b (wc r.b.g v)))/\(∀ (r:RG),gt r 114=r.b.g.c)/\(∀ r v,st r 115 v=wb r (wg r.b (wd r.b.g v)))/\(∀ (r:RG),gt r 115=r.b.g.d)/\(∀ r v,st r 116 v=wb r (wg r.b (we r.b.g v)))/\(∀ (r:RG),gt r 116=r.b.g.e)/\(∀ r v,st r 117 v=wb r (wg r.b (wf r.b.g v)))/\(∀ (r:RG),gt r 117=r.b.g.f)/\(∀ r v,st r 118 v=wb r (wg r.b (wg r.b.g v)))/\(∀ (r:RG),gt r 118=r.b.g.g)/\(∀ r v,st r 119 v=wb r (wg r.b (wh r.b.g v)))/\(∀ (r:RG),gt r 119=r.b.g.h)/\(∀ r v,st r 120 v=wb r (wh r.b (wa r.b.h v)))/\(∀ (r:RG),gt r 120=r.b.h.a)/\(∀ r v,st r 121 v=wb r (wh r.b (wb r.b.h v)))/\(∀ (r:RG),gt r 121=r.b.h.b)/\(∀ r v,st r 122 v=wb r (wh r.b (wc r.b.h v)))/\(∀ (r:RG),gt r 122=r.b.h.c)/\(∀ r v,st r 123 v=wb r (wh r.b (wd r.b.h v)))/\(∀ (r:RG),gt r 123=r.b.h.d)/\(∀ r v,st r 124 v=wb r (wh r.b (we r.b.h v)))/\(∀ (r:RG),gt r 124=r.b.h.e)/\(∀ r v,st r 125 v=wb r (wh r.b (wf r.b.h v)))/\(∀ (r:RG),gt r 125=r.b.h.f)/\(∀ r v,st r 126 v=wb r (wh r.b (wg r.b.h v)))/\(∀ (r:RG),gt r 126=r.b.h.g)/\(∀ r v,st r 127 v=wb r (wh r.b (wh r.b.h v)))/\(∀ (r:RG),gt r 127=r.b.h.h):=by
 repeat first|apply And.intro|(intros;rfl)
end Go.Abs
