/- words that run the printed code. Part of the proof of girandolelaw09.OrderChains. -/
import Derived.Test.YtglacbfdbfhmfaaDoorB2
import Derived.Test.YtglacbfdbfhmfaaDoorB1
set_option linter.unusedVariables false
set_option linter.unusedSimpArgs false
namespace Go.Abs
theorem TZ (r:RG):gt r 2=r.a.a.c:=rfl
theorem Ul (r:RG):gt r 3=r.a.a.d:=rfl
theorem VI {α β:Type}(a:α)(k:α→Option β):oB (some a) k=k a:=rfl
theorem bJ (b:CZ)(r:RG)(ds:Dfs)(s:St):dQ b (some (.normal,r,ds,s))=b r ds s:=rfl
theorem DV (b:CZ)(i:Nat)(r:RG)(ds:Dfs)(s:St):dQ b (some (.exit i,r,ds,s))=some (.exit i,r,ds,s):=rfl
theorem Gu (b:CZ)(r:RG)(ds:Dfs)(s:St):dQ b (some (.ret,r,ds,s))=some (.ret,r,ds,s):=rfl
theorem ED (b:CZ)(p:AV)(r:RG)(ds:Dfs)(s:St):dQ b (some (.panic p,r,ds,s))=some (.panic p,r,ds,s):=rfl
theorem yb (a b:IRes):gW (.bool true) a b=a:=rfl
theorem xV (a b:IRes):gW (.bool false) a b=b:=rfl
theorem Fd (i:Nat)(r:RG)(ds:Dfs)(s:St):du i (some (.normal,r,ds,s))=some (.normal,r,ds,s):=rfl
theorem uG (i:Nat)(r:RG)(ds:Dfs)(s:St):du i (some (.ret,r,ds,s))=some (.ret,r,ds,s):=rfl
theorem GX (i:Nat)(p:AV)(r:RG)(ds:Dfs)(s:St):du i (some (.panic p,r,ds,s))=some (.panic p,r,ds,s):=rfl
theorem dJ (i:Nat)(r:RG)(ds:Dfs)(s:St):du i (some (.exit i,r,ds,s))=some (.normal,r,ds,s):=by simp[du]
theorem DH (i j:Nat)(r:RG)(ds:Dfs)(s:St)(h:Nat.beq j i=false):du i (some (.exit j,r,ds,s))=some (.exit j,r,ds,s):=by simp[du,h]
theorem VK {α:Type}(v:AV)(h:Heap)(e e0:Nat)(k kp:AV→St→Option α):cZ (some (.ret v h e)) e0 k kp=k v { heap:=h,esc:=min e0 e }:=rfl
theorem Vf {α:Type}(v:AV)(h:Heap)(e e0:Nat)(k kp:AV→St→Option α):cZ (some (.panic v h e)) e0 k kp=kp v { heap:=h,esc:=min e0 e }:=rfl
theorem Nw (m n:Int):bQ (.int .i64 m) (.int .i64 n)=some (.bool (decide (m < n))):=by rw[← fS];rfl
theorem MP (m n:Int):m7 (.int .i64 m) (.int .i64 n)=some (.bool (decide (n < m))):=by rw[← fS];rfl
theorem L9 (m n:Int):yX (.int .i64 m) (.int .i64 n)=some (.bool (decide (n≤m))):=by rw[← gA,← fS];rfl
theorem Nn (m n:Int):TB (.int .i64 m) (.int .i64 n)=some (.bool (decide (m≤n))):=by rw[← gA,← fS];rfl
theorem Nt (m n:Int):cV (.int .i64 m) (.int .i64 n)=some (.bool (decide (m=n))):=by rw[← jz];rfl
theorem Lq (m n:Int):iB (.int .i64 m) (.int .i64 n)=some (.bool (!decide (m=n))):=by rw[← jz];rfl
theorem F1 (m n:Int):VD (.int .u8 m) (.int .u8 n)=some (.bool (decide (m < n))):=by rw[← fS];rfl
theorem AE (m n:Int):Ve (.int .u8 m) (.int .u8 n)=some (.bool (decide (n < m))):=by rw[← fS];rfl
theorem CO (m n:Int):ti (.int .u8 m) (.int .u8 n)=some (.bool (decide (n≤m))):=by rw[← gA,← fS];rfl
theorem GU (m n:Int):yU (.int .u8 m) (.int .u8 n)=some (.bool (decide (m≤n))):=by rw[← gA,← fS];rfl
theorem CS (m n:Int):wF (.int .u8 m) (.int .u8 n)=some (.bool (decide (m=n))):=by rw[← jz];rfl
theorem Ca (m n:Int):BR (.int .u8 m) (.int .u8 n)=some (.bool (!decide (m=n))):=by rw[← jz];rfl
theorem GZ (m n:List Nat):gV (.str m) (.str n)=some (.bool (strEq m n)):=rfl
theorem BA (m n:List Nat):Pj (.str m) (.str n)=some (.bool (!strEq m n)):=rfl
theorem Fm (m n:Bool):VE (.bool m) (.bool n)=some (.bool (m == n)):=rfl
theorem C8 (m n:Bool):VY (.bool m) (.bool n)=some (.bool (!(m == n))):=rfl
theorem No (m n:Int):bm (.int .i64 m) (.int .i64 n)=some (.int .i64 (cA m n)):=rfl
theorem N4 (m n:Int):jk (.int .i64 m) (.int .i64 n)=some (.int .i64 (eO m n)):=rfl
theorem LS (b:Bool):bY .not (.bool b)=some (.bool (!b)):=rfl
theorem Wd {α:Type}(ds:Dfs)(s:St)(k:AV→Dfs→St→Option α)(y:(AV→Dfs→St→Option α)→Option α):gJ (.bool true) true ds s k y=y k:=rfl
theorem TM {α:Type}(ds:Dfs)(s:St)(k:AV→Dfs→St→Option α)(y:(AV→Dfs→St→Option α)→Option α):gJ (.bool false) true ds s k y=k Abs.undef ds s:=rfl
theorem LG {α:Type}(ds:Dfs)(s:St)(k:AV→Dfs→St→Option α)(y:(AV→Dfs→St→Option α)→Option α):gJ (.bool true) false ds s k y=k Abs.undef ds s:=rfl
theorem NJ {α:Type}(ds:Dfs)(s:St)(k:AV→Dfs→St→Option α)(y:(AV→Dfs→St→Option α)→Option α):gJ (.bool false) false ds s k y=y k:=rfl
theorem EC (a b:AV):ec (.bool true) a b=some a:=rfl
theorem Dr (a b:AV):ec (.bool false) a b=some b:=rfl
theorem FN (n o:Nat):ao (.ptr n o)=some (.ptr n o):=rfl
theorem Da (l:List AV):ao (.iptr l)=some (.iptr l):=rfl
theorem Wf (k n o:Nat):aG k (.ptr n o)=some (.ptr n (Nat.add o k)):=rfl
theorem Wc (a:AV)(l:List AV):bk (.tuple (a :: l)) 0=some a:=rfl
theorem Vn (a b:AV)(l:List AV):bk (.tuple (a :: b :: l)) 1=some b:=rfl
theorem Wl (a b c:AV)(l:List AV):bk (.tuple (a :: b :: c :: l)) 2=some c:=rfl
theorem jW (cs:List AV)(off:Nat):ex none cs off=ae cs off:=rfl
theorem uL {α:Type}(a:α)(l:List α):ae (a :: l) 0=some a:=rfl
theorem rn {α:Type}(a b:α)(l:List α):ae (a :: b :: l) 1=some b:=rfl
theorem Cr {α:Type}(a b c:α)(l:List α):ae (a :: b :: c :: l) 2=some c:=rfl
theorem D3 {α:Type}(a b c d:α)(l:List α):ae (a :: b :: c :: d :: l) 3=some d:=rfl
theorem CG {α:Type}(a b c d e:α)(l:List α):ae (a :: b :: c :: d :: e :: l) 4=some e:=rfl
theorem Ge {α:Type}(a b c d e f:α)(l:List α):ae (a :: b :: c :: d :: e :: f :: l) 5=some f:=rfl
theorem Eh {α:Type}(a v:α)(l:List α):aj (a :: l) 0 v=v :: l:=rfl
theorem BL {α:Type}(a b v:α)(l:List α):aj (a :: b :: l) 1 v=a :: v :: l:=rfl
theorem Aq {α:Type}(a b c v:α)(l:List α):aj (a :: b :: c :: l) 2 v=a :: b :: v :: l:=rfl
theorem EQ {α:Type}(a b c d v:α)(l:List α):aj (a :: b :: c :: d :: l) 3 v=a :: b :: c :: v :: l:=rfl
theorem BH {α:Type}(a b c d e v:α)(l:List α):aj (a :: b :: c :: d :: e :: l) 4 v=a :: b :: c :: d :: v :: l:=rfl
theorem BT {α:Type}(a b c d e f v:α)(l:List α):aj (a :: b :: c :: d :: e :: f :: l) 5 v=a :: b :: c :: d :: e :: v :: l:=rfl
theorem td {α:Type}(h l:List α):aa (h ++ l)=aa h + aa l:=by simp[ai]
theorem rA {α:Type}:aa ([]:List α)=0:=rfl
theorem pe {α:Type}(a:α)(l:List α):aa (a :: l)=aa l + 1:=rfl
theorem an {α:Type}(l:List α)(n:Nat)(v:α):aa (aj l n v)=aa l:=by simp[ai,aM]
theorem aD {α:Type}(h l:List α):ae (h ++ l) (aa h)=ae l 0:=by rw[az,ai,az,List.getElem?_append_right (Nat.le_refl _),Nat.sub_self]
theorem bj {α:Type}(h l:List α)(j:Nat):ae (h ++ l) (aa h + j)=ae l j:=by rw[az,ai,az,List.getElem?_append_right (Nat.le_add_right _ _),Nat.add_sub_cancel_left]
theorem dq {α:Type}(h l:List α)(v:α):aj (h ++ l) (aa h) v=h ++ aj l 0 v:=by simp[aM,ai]
theorem fF {α:Type}(h l:List α)(j:Nat)(v:α):aj (h ++ l) (aa h + j) v=h ++ aj l j v:=by simp[aM,ai]
theorem cn {α:Type}(h l:List α):bG (aa h) (h ++ l)=h:=by simp[dB,ai]
theorem oN {α:Type}(h l:List α)(v:α):n6 (h ++ l) v=h ++ (l ++ [v]):=by simp[np]
theorem aT {α:Type}{l:List α}{n:Nat}{a:α}(h:ae l n=some a):n < l.length:=by rw[az] at h;exact (List.getElem?_eq_some_iff.1 h).1
theorem aw {α:Type}{h:List α}{n:Nat}{o:α}(hn:ae h n=some o)(l:List α):ae (h ++ l) n=some o:=by
 have:=aT hn;rw[az] at hn ⊢;rw[List.getElem?_append_left this];exact hn
theorem bP {α:Type}{h:List α}{n:Nat}{o:α}(hn:ae h n=some o)(l:List α)(v:α):aj (h ++ l) n v=aj h n v ++ l:=by
 rw[aM,aM,List.set_append_left _ _ (aT hn)]
theorem aO {α:Type}{h:List α}{n:Nat}{o:α}(hn:ae h n=some o)(v:α):ae (aj h n v) n=some v:=by
 rw[az,aM];simp[aT hn]
theorem f8 (b:Bool):fZ (.bool b)=true:=Eq.trans rfl rfl
theorem fg (k:IntKind)(n:Int):fZ (.int k n)=true:=Eq.trans rfl rfl
theorem eX (s:List Nat):fZ (.str s)=true:=Eq.trans rfl rfl
theorem noN_nils:fZ .nils=true:=Eq.trans rfl rfl
theorem noN_nilp:fZ .nilp=true:=Eq.trans rfl rfl
theorem dT (l:List AV):fZ (.agg l)=dt l:=Eq.trans rfl rfl
theorem po (l:List AV):fZ (.tuple l)=dt l:=Eq.trans rfl rfl
theorem oJ (t:TypeId)(v:AV):fZ (.iface t v)=fZ v:=Eq.trans rfl rfl
theorem gG (k:Nat)(l:List AV)(n:Lin):fZ (.sl k l n)=cond (nR n) (dt l) false:=Eq.trans rfl rfl
theorem linN_dead:nR .dead=true:=Eq.trans rfl rfl
theorem linN_lit:nR .lit=true:=Eq.trans rfl rfl
theorem linN_full:nR .full=true:=Eq.trans rfl rfl
theorem linN_frz:nR .frz=true:=Eq.trans rfl rfl
theorem noNL_nil:dt []=true:=Eq.trans rfl rfl
theorem bH (v:AV)(l:List AV):dt (v :: l)=cond (fZ v) (dt l) false:=Eq.trans rfl rfl
theorem Gx {n off r:Nat}{v:AV}{hp:Heap}{e:Nat}{cs:List AV}(hg:ae hp r=some (.cells cs))(hl:aa v.cells=n)(ho:off + n≤aa cs)(hv:v.cells.all AV.one=true)(hnn:fZ v=true) :
  ay n (.ptr r off) v ⟨hp,e⟩=some ⟨aj hp r (.cells (cu cs off v.cells)),e⟩:=by
 have h1:eH (aa hp) v=true:=by simp[eH,hnn]
 have h2:ib v r ⟨hp,e⟩=e:=by simp[ib,eH,hnn]
 have h3:Nat.beq (aa v.cells) n=true:=by rw[hl];exact Nat.beq_refl n
 have h4:Nat.ble (Nat.add off n) (aa cs)=true:=Nat.ble_eq_true_of_le ho;simp only[ay,hg,dP,h1,h2,h3,h4,hv,Bool.and_self,cond_true]
theorem GL {keep:Bool}{base:Nat}{v:AV}{hp:Heap}(h:fZ v=true):lU keep base v ⟨hp,base⟩=.ret v (bG base hp) base:=by
 simp[lU,h]
theorem bp (i j:Nat)(h:i + j≤natMax):cA (i:Int) (j:Int)=((i + j:Nat):Int):=by
 rw[yl];have:=fj h;simpa using this
theorem bK (a b:CZ)(r:RG)(ds:Dfs)(s:St):ac a b r ds s=dQ b (a r ds s):=rfl
theorem ml (c:X)(a b:CZ)(r:RG)(ds:Dfs)(s:St):aA c a b r ds s=gW (gx ⟨r,[]⟩ c) (a r ds s) (b r ds s):=rfl
theorem uy (i:Nat)(b:CZ)(r:RG)(ds:Dfs)(s:St):aS i b r ds s=du i (b r ds s):=rfl
theorem xd (r:RG)(ds:Dfs)(s:St):skipZ r ds s=some (.normal,r,ds,s):=rfl
theorem xi (i:Nat)(r:RG)(ds:Dfs)(s:St):bI i r ds s=some (.exit i,r,ds,s):=rfl
theorem uV (r:RG)(ds:Dfs)(s:St):retZ r ds s=some (.ret,r,ds,s):=rfl
theorem xZ (b:CZ)(r:RG)(ds:Dfs)(s:St):aY b r ds s=au b 100000 r ds s:=rfl
theorem Mi (cs:List AV)(s:St)(k:AV→St→IRes):bU cs s k=k (.ptr (aa s.heap) 0) ⟨n6 s.heap (.cells cs),s.esc⟩:=rfl
theorem yL {α:Type}(l:List α)(v:α):n6 l v=l ++ [v]:=np l v
theorem rx {α:Type}(h l:List α)(a:α):(h ++ l) ++ [a]=h ++ (l ++ [a]):=by simp
theorem rI {α:Type}(a b:α)(l:List α):(a :: l) ++ [b]=a :: (l ++ [b]):=rfl
theorem w9 {α:Type}(l:List α):[] ++ l=l:=rfl
theorem xD {α:Type}(l:List α):l ++ []=l:=by simp
theorem dk (a b:Nat):Nat.ble a b=decide (a≤b):=by
 rw[Bool.eq_iff_iff];simp[Nat.ble_eq]
theorem gY (a b:Nat):Nat.beq a b=decide (a=b):=by
 rw[Bool.eq_iff_iff];simp[Nat.beq_eq]
theorem Wh (a b:Nat):Nat.add a b=a + b:=rfl
theorem oM (a:Nat):min a a=a:=Nat.min_self a
theorem Qk (a b:Nat):min a (a + b)=a:=by omega
theorem UT (a:Nat):0 + a=a:=Nat.zero_add a
theorem UD (a:Nat):a + 0=a:=Nat.add_zero a
theorem dect:decide True=true:=rfl
theorem decf:decide False=false:=rfl
theorem TK (a:Nat):(a≤a)=True:=by simp
theorem TP {α:Type}(a:α):(a=a)=True:=by simp
theorem notT:(!true)=false:=rfl
theorem notF:(!false)=true:=rfl
theorem Wq (b:Bool):(true && b)=b:=by simp
theorem Ug (b:Bool):(false && b)=false:=by simp
theorem Pw (b:Bool):(b && true)=b:=by simp
theorem LU {α:Type}(a b:α):cond true a b=a:=rfl
theorem Mw {α:Type}(a b:α):cond false a b=b:=rfl
theorem MA (p:AV→Bool):([]:List AV).all p=true:=rfl
theorem Lv (p:AV→Bool)(a:AV)(l:List AV):(a :: l).all p=(p a && l.all p):=rfl
theorem fH (b:Bool):AV.one (.bool b)=true:=rfl
theorem ev (k:IntKind)(n:Int):AV.one (.int k n)=true:=rfl
theorem eA (s:List Nat):AV.one (.str s)=true:=rfl
theorem one_nils:AV.one .nils=true:=rfl
theorem one_nilp:AV.one .nilp=true:=rfl
theorem xA (n o:Nat):AV.one (.ptr n o)=true:=rfl
theorem ip (k:Nat)(l:List AV)(n:Lin):AV.one (.sl k l n)=true:=rfl
theorem pj (l:List AV):AV.cells (.agg l)=l:=rfl
theorem mA (b:Bool):AV.cells (.bool b)=[.bool b]:=rfl
theorem oI (k:IntKind)(n:Int):AV.cells (.int k n)=[.int k n]:=rfl
theorem pJ (s:List Nat):AV.cells (.str s)=[.str s]:=rfl
theorem cells_nils:AV.cells .nils=[.nils]:=rfl
theorem oZ (n o:Nat):AV.cells (.ptr n o)=[.ptr n o]:=rfl
theorem tQ (k:Nat)(l:List AV)(n:Lin):AV.cells (.sl k l n)=[.sl k l n]:=rfl
theorem k0 (n r off:Nat)(v:AV)(s:St):ay n (.ptr r off) v s=match ae s.heap r with
 | some (.cells cs)=>dP n off r v v.cells cs s
 | _=>none:=rfl
theorem Gs (n off r:Nat)(v:AV)(vc cs:List AV)(hp:Heap)(e:Nat)(h:fZ v=true):dP n off r v vc cs ⟨hp,e⟩=cond (Nat.beq (aa vc) n && (Nat.ble (Nat.add off n) (aa cs) && vc.all AV.one)) (some ⟨aj hp r (.cells (cu cs off vc)),e⟩) none:=by
 simp[dP,eH,ib,h]
theorem ox (ag:Option Nat)(n off:Nat)(h:Heap):ax ag (.ptr n off) h=match ae h n with
 | some (.cells cs)=>ex ag cs off
 | _=>none:=rfl
theorem O6 (ag:Option Nat)(xs:List AV)(h:Heap):ax ag (.iptr xs) h=ex ag xs 0:=rfl
theorem q6 (k:Nat)(cs:List AV)(off:Nat):ex (some k) cs off=cond (Nat.ble (Nat.add off k) (aa cs)) (some (.agg (bG k (fE off cs)))) none:=rfl
theorem pO {α:Type}(l:List α):bG 0 l=[]:=by cases l <;> rfl
theorem rj {α:Type}(a:α)(l:List α):bG 1 (a :: l)=a :: bG 0 l:=rfl
theorem qQ {α:Type}(a:α)(l:List α):bG 2 (a :: l)=a :: bG 1 l:=rfl
theorem qJ {α:Type}(a:α)(l:List α):bG 3 (a :: l)=a :: bG 2 l:=rfl
theorem pZ {α:Type}(a:α)(l:List α):bG 4 (a :: l)=a :: bG 3 l:=rfl
theorem pQ {α:Type}(a:α)(l:List α):bG 5 (a :: l)=a :: bG 4 l:=rfl
theorem ro {α:Type}(a:α)(l:List α):bG 6 (a :: l)=a :: bG 5 l:=rfl
theorem rb {α:Type}(a:α)(l:List α):bG 7 (a :: l)=a :: bG 6 l:=rfl
theorem qq {α:Type}(a:α)(l:List α):bG 8 (a :: l)=a :: bG 7 l:=rfl
theorem pW {α:Type}(l:List α):fE 0 l=l:=by cases l <;> rfl
theorem xH {α:Type}(a:α)(l:List α):fE 1 (a :: l)=fE 0 l:=rfl
theorem wO {α:Type}(a:α)(l:List α):fE 2 (a :: l)=fE 1 l:=rfl
theorem xF {α:Type}(a:α)(l:List α):fE 3 (a :: l)=fE 2 l:=rfl
theorem wS {α:Type}(a:α)(l:List α):fE 4 (a :: l)=fE 3 l:=rfl
theorem Eg (cs:List AV)(o:Nat)(v:AV):cu cs o [v]=aj cs o v:=rfl
theorem uP (cs:List AV)(o:Nat)(a b:AV)(l:List AV):cu cs o (a :: b :: l)=aZ cs o (a :: b :: l):=rfl
theorem Ec (a0 a1 b0 b1:AV):aZ [a0,a1] 0 [b0,b1]=[b0,b1]:=rfl
theorem Df (a0 a1 a2 b0 b1 b2:AV):aZ [a0,a1,a2] 0 [b0,b1,b2]=[b0,b1,b2]:=rfl
theorem Dk (a0 a1 a2 a3 b0 b1 b2 b3:AV):aZ [a0,a1,a2,a3] 0 [b0,b1,b2,b3]=[b0,b1,b2,b3]:=rfl
theorem Aw (a0 a1 a2 a3 a4 b0 b1 b2 b3 b4:AV):aZ [a0,a1,a2,a3,a4] 0 [b0,b1,b2,b3,b4]=[b0,b1,b2,b3,b4]:=rfl
theorem Hj (a0 a1 a2 a3 a4 a5 b0 b1 b2 b3 b4 b5:AV):aZ [a0,a1,a2,a3,a4,a5] 0 [b0,b1,b2,b3,b4,b5]=[b0,b1,b2,b3,b4,b5]:=rfl
theorem HN (a0 a1 a2 a3 a4 a5 a6 b0 b1 b2 b3 b4 b5 b6:AV):aZ [a0,a1,a2,a3,a4,a5,a6] 0 [b0,b1,b2,b3,b4,b5,b6]=[b0,b1,b2,b3,b4,b5,b6]:=rfl
theorem C5 (a0 a1 a2 a3 a4 a5 a6 a7 b0 b1 b2 b3 b4 b5 b6 b7:AV):aZ [a0,a1,a2,a3,a4,a5,a6,a7] 0 [b0,b1,b2,b3,b4,b5,b6,b7]=[b0,b1,b2,b3,b4,b5,b6,b7]:=rfl
theorem Dv (a0 a1 a2 a3 a4 a5 a6 a7 a8 b0 b1 b2 b3 b4 b5 b6 b7 b8:AV):aZ [a0,a1,a2,a3,a4,a5,a6,a7,a8] 0 [b0,b1,b2,b3,b4,b5,b6,b7,b8]=[b0,b1,b2,b3,b4,b5,b6,b7,b8]:=rfl
theorem cq {sz:Nat}{es:List AV}{lin:Lin}{i:Nat}{v:AV}(h:ae es i=some v):bb sz (.sl sz es lin) (.int .i64 (i:Int))=some (.iptr v.cells):=by
 simp[bb,cR,h,gY]
theorem TC (a:AV):tupleAV [a]=a:=rfl
theorem Tw (a b:AV)(l:List AV):tupleAV (a :: b :: l)=.tuple (a :: b :: l):=rfl
theorem tup0:tupleAV []=Abs.undef:=rfl
theorem jD (e:RG)(h:Heap):fG e h []=some []:=rfl
theorem kU (e:RG)(h:Heap)(n:Nat)(l:List RI):fG e h (.t n :: l)=match fG e h l with
 | some l=>some (gt e n :: l)
 | none=>none:=rfl
theorem qw (e:RG)(h:Heap)(n:Nat)(ag:Option Nat)(l:List RI):fG e h (.cell n ag :: l)=match ax ag (gt e n) h,fG e h l with
 | some a,some l=>some (a :: l)
 | _,_=>none:=rfl
theorem ju (C:Cfg)(f:FuncId)(b:Nat)(z:FZ)(r:RG)(s:St):lS C f b z (some (.ret,r,[],s))=match fG r s.heap z.res with
 | some l=>some (lU (C.keep f) b (tupleAV l) s)
 | none=>none:=rfl
theorem Eo (C:Cfg)(f:FuncId)(b:Nat)(z:FZ)(r:RG)(s:St):lS C f b z (some (.normal,r,[],s))=match fG r s.heap z.res with
 | some l=>some (lU (C.keep f) b (tupleAV l) s)
 | none=>none:=rfl
theorem DB (C:Cfg)(f:FuncId)(b:Nat)(z:FZ)(p:AV)(r:RG)(s:St):lS C f b z (some (.panic p,r,[],s))=some (Xn false b p s):=rfl
theorem TO {α:Type}(w:Bool)(ds:Dfs)(s:St)(k:AV→Dfs→St→Option α)(y:(AV→Dfs→St→Option α)→Option α):gJ Abs.undef w ds s k y=k Abs.undef ds s:=rfl
theorem P9 {α:Type}(s:St)(sl:Nat)(hi:List (Nat × Heap))(rd:List (Nat × (Heap→Option AV) × AV))(k:AV→St→Nat→List (Nat × Heap)→List (Nat × (Heap→Option AV) × AV)→Option α)
 (y:(AV→St→Nat→List (Nat × Heap)→List (Nat × (Heap→Option AV) × AV)→Option α)→Option α):ky (.bool true) true s sl hi rd k y=y k:=rfl
theorem MH {α:Type}(s:St)(sl:Nat)(hi:List (Nat × Heap))(rd:List (Nat × (Heap→Option AV) × AV))(k:AV→St→Nat→List (Nat × Heap)→List (Nat × (Heap→Option AV) × AV)→Option α)
 (y:(AV→St→Nat→List (Nat × Heap)→List (Nat × (Heap→Option AV) × AV)→Option α)→Option α):ky (.bool false) true s sl hi rd k y=k Abs.undef s sl hi rd:=rfl
theorem tK (b:Nat)(x:Heap→Option AV)(v:AV):fR b x v []=true:=rfl
theorem pn (b:Nat)(h:Heap):ey b h []=true:=rfl
theorem pL (b j:Nat)(h:Heap)(x:Heap→Option AV)(w:AV)(r:List (Nat × (Heap→Option AV) × AV)):ey b h ((j,x,w) :: r)=((b.testBit j || aV x w h) && ey b h r):=rfl
theorem wI (x:Heap→Option AV)(v:AV)(h:Heap):aV x v h=match x h with
 | some w=>w.same v
 | none=>false:=rfl
theorem rz (k:IntKind)(n:Int):AV.same (.int k n) (.int k n)=true:=by simp[AV.same]
theorem sx (l:List Nat):AV.same (.str l) (.str l)=true:=by simp[AV.same]
theorem oH (b:Bool):AV.same (.bool b) (.bool b)=true:=by simp[AV.same]
theorem same_nils:AV.same .nils .nils=true:=by simp[AV.same]
theorem EN {α:Type}(x:Option α):eL [] x=x:=rfl
theorem Xh (b:Bool):(b || true)=true:=by simp
theorem Us (b:Bool):(true || b)=true:=by simp
theorem Xo (b:Bool):(false || b)=b:=by simp
theorem Uw {α:Type}(rec:RecT)(v:AV)(s s' : St)(ds:Dfs)(k:AV→Dfs→St→Option α)(kp:AV→St→Option α):oE rec (some (.val v s')) ds s k kp=k v ds s':=rfl
theorem TG {α:Type}(rec:RecT)(g:FuncId)(args:List AV)(s:St)(ds:Dfs)(k:AV→Dfs→St→Option α)(kp:AV→St→Option α):oE rec (some (.call g args)) ds s k kp=cZ (rec g args s.heap) s.esc (fun v s=>k v ds s) kp:=rfl
theorem Vi {α:Type}(rec:RecT)(v:AV)(s:St)(ds:Dfs)(k:AV→Dfs→St→Option α)(kp:AV→St→Option α):oE rec (some (.panic v)) ds s k kp=kp v s:=rfl
theorem yn (C:Cfg)(f:FuncId)(first capt args:List AV)(s:St):bT C (.func (.func f) first capt) args s=dC C f (first ++ args ++ capt) s:=rfl
theorem yh (v:AV)(s:St):orVal (some (v,s))=some (.val v s):=rfl
theorem Wg {b:Nat}(h:b < 256)(t:List Nat)(s:St):I5 (.str t) (.int .u8 (b:Int)) s=some (.val (.int .i64 (indexByte b t 0)) s):=by
 have h1:(0:Int)≤(b:Int)∧(b:Int) < 256:=by omega
 simp only[I5,h1,and_self,if_true,Int.toNat_natCast]
theorem PM (t:TypeId)(a:AV):Fr (.iface t a)=some (.panic (.iface t a)):=rfl
theorem UR (o:AObj)(mk:Nat→AV)(s:St)(k:AV→St→IRes):oA (some (o,mk)) s k=k (mk (aa s.heap)) ⟨n6 s.heap o,s.esc⟩:=rfl
theorem yp {α:Type}(h l:List α)(n:Nat)(v:α):ae (aj h n v ++ l) (aa h)=ae l 0:=by rw[← an h n v,aD]
theorem rf {α:Type}(h l:List α)(n j:Nat)(v:α):ae (aj h n v ++ l) (aa h + j)=ae l j:=by rw[← an h n v,bj]
theorem yk {α:Type}(h l:List α)(n:Nat)(v w:α):aj (aj h n v ++ l) (aa h) w=aj h n v ++ aj l 0 w:=by rw[← an h n v,dq]
theorem vG {α:Type}(h l:List α)(n j:Nat)(v w:α):aj (aj h n v ++ l) (aa h + j) w=aj h n v ++ aj l j w:=by rw[← an h n v,fF]
theorem x5 {α:Type}(h l:List α)(n:Nat)(v:α):bG (aa h) (aj h n v ++ l)=aj h n v:=by rw[← an h n v,cn]
theorem ei {α:Type}(h:List α)(n:Nat)(v w:α):aj (aj h n v) n w=aj h n w:=by simp[aM]
theorem qm {α:Type}(h:List α):bG (aa h) h=h:=by simp[dB,ai]
theorem tI {α:Type}(h:List α)(n:Nat)(v:α):bG (aa h) (aj h n v)=aj h n v:=by rw[← an h n v,qm]
theorem sk {P:RG→Prop}{Q:RG→RG→Prop}(h:∀ r,P r→∃ r',Q r r'):∃ f:RG→RG,∀ r,P r→Q r (f r):=by
 classical
 exact ⟨fun r=>if hp:P r then (h r hp).choose else r,fun r hp=>by simp only[hp,dite_true];exact (h r hp).choose_spec⟩
theorem Vw (r:RG)(l:List AV)(k:Nat):gx ⟨r,l⟩ (.t k)=gt r k:=rfl
theorem SIM:type_of% (And.intro @Vw (And.intro @VI (And.intro @bJ (And.intro @DV (And.intro @Gu (And.intro @ED (And.intro @yb (And.intro @xV (And.intro @Fd (And.intro @uG (And.intro @GX (And.intro @dJ (And.intro @DH (And.intro @VK (And.intro @Vf (And.intro @Nw (And.intro @MP (And.intro @L9 (And.intro @Nn (And.intro @Nt (And.intro @Lq (And.intro @F1 (And.intro @AE (And.intro @CO (And.intro @GU (And.intro @CS (And.intro @Ca (And.intro @GZ (And.intro @BA (And.intro @Fm (And.intro @C8 (And.intro @No (And.intro @N4 (And.intro @LS (And.intro @Wd (And.intro @TM (And.intro @LG (And.intro @NJ (And.intro @EC (And.intro @Dr (And.intro @FN (And.intro @Da (And.intro @Wf (And.intro @Wc (And.intro @Vn (And.intro @Wl (And.intro @jW (And.intro @uL (And.intro @rn (And.intro @Cr (And.intro @D3 (And.intro @CG (And.intro @Ge (And.intro @Eh (And.intro @BL (And.intro @Aq (And.intro @EQ (And.intro @BH (And.intro @BT (And.intro @td (And.intro @rA (And.intro @pe (And.intro @an (And.intro @aD (And.intro @bj (And.intro @dq (And.intro @fF (And.intro @cn (And.intro @oN (And.intro @f8 (And.intro @fg (And.intro @eX (And.intro @noN_nils (And.intro @noN_nilp (And.intro @dT (And.intro @po (And.intro @oJ (And.intro @gG (And.intro @linN_dead (And.intro @linN_lit (And.intro @linN_full (And.intro @linN_frz (And.intro @noNL_nil (And.intro @bH (And.intro @GL (And.intro @bK (And.intro @ml (And.intro @uy (And.intro @xd (And.intro @xi (And.intro @uV (And.intro @xZ (And.intro @Mi (And.intro @yL (And.intro @rx (And.intro @rI (And.intro @w9 (And.intro @xD (And.intro @dk (And.intro @gY (And.intro @Wh (And.intro @oM (And.intro @Qk (And.intro @UT (And.intro @UD (And.intro @dect (And.intro @decf (And.intro @TK (And.intro @TP (And.intro @notT (And.intro @notF (And.intro @Wq (And.intro @Ug (And.intro @Pw (And.intro @LU (And.intro @Mw (And.intro @MA (And.intro @Lv (And.intro @fH (And.intro @ev (And.intro @eA (And.intro @one_nils (And.intro @one_nilp (And.intro @xA (And.intro @ip (And.intro @pj (And.intro @mA (And.intro @oI (And.intro @pJ (And.intro @cells_nils (And.intro @oZ (And.intro @tQ (And.intro @k0 (And.intro @Gs (And.intro @ox (And.intro @O6 (And.intro @q6 (And.intro @pO (And.intro @rj (And.intro @qQ (And.intro @qJ (And.intro @pZ (And.intro @pQ (And.intro @ro (And.intro @rb (And.intro @qq (And.intro @pW (And.intro @xH (And.intro @wO (And.intro @xF (And.intro @wS (And.intro @Eg (And.intro @uP (And.intro @Ec (And.intro @Df (And.intro @Dk (And.intro @Aw (And.intro @Hj (And.intro @HN (And.intro @C5 (And.intro @Dv (And.intro @TC (And.intro @Tw (And.intro @tup0 (And.intro @jD (And.intro @kU (And.intro @qw (And.intro @ju (And.intro @Eo (And.intro @DB (And.intro @TO (And.intro @P9 (And.intro @MH (And.intro @tK (And.intro @pn (And.intro @pL (And.intro @wI (And.intro @rz (And.intro @sx (And.intro @oH (And.intro @same_nils (And.intro @EN (And.intro @Xh (And.intro @Us (And.intro @Xo (And.intro @Uw (And.intro @TG (And.intro @Vi (And.intro @yn (And.intro @yh (And.intro @PM (And.intro @UR (And.intro @yp (And.intro @rf (And.intro @yk (And.intro @vG (And.intro @x5 (And.intro @ei (And.intro @qm @tI))))))))))))))))))))))))))))))))))))))))))))))))))))))))))))))))))))))))))))))))))))))))))))))))))))))))))))))))))))))))))))))))))))))))))))))))))))))))))))))))))))))))))))))))))))))))))))))))))))))):=And.intro @Vw (And.intro @VI (And.intro @bJ (And.intro @DV (And.intro @Gu (And.intro @ED (And.intro @yb (And.intro @xV (And.intro @Fd (And.intro @uG (And.intro @GX (And.intro @dJ (And.intro @DH (And.intro @VK (And.intro @Vf (And.intro @Nw (And.intro @MP (And.intro @L9 (And.intro @Nn (And.intro @Nt (And.intro @Lq (And.intro @F1 (And.intro @AE (And.intro @CO (And.intro @GU (And.intro @CS (And.intro @Ca (And.intro @GZ (And.intro @BA (And.intro @Fm (And.intro @C8 (And.intro @No (And.intro @N4 (And.intro @LS (And.intro @Wd (And.intro @TM (And.intro @LG (And.intro @NJ (And.intro @EC (And.intro @Dr (And.intro @FN (And.intro @Da (And.intro @Wf (And.intro @Wc (And.intro @Vn (And.intro @Wl (And.intro @jW (And.intro @uL (And.intro @rn (And.intro @Cr (And.intro @D3 (And.intro @CG (And.intro @Ge (And.intro @Eh (And.intro @BL (And.intro @Aq (And.intro @EQ (And.intro @BH (And.intro @BT (And.intro @td (And.intro @rA (And.intro @pe (And.intro @an (And.intro @aD (And.intro @bj (And.intro @dq (And.intro @fF (And.intro @cn (And.intro @oN (And.intro @f8 (And.intro @fg (And.intro @eX (And.intro @noN_nils (And.intro @noN_nilp (And.intro @dT (And.intro @po (And.intro @oJ (And.intro @gG (And.intro @linN_dead (And.intro @linN_lit (And.intro @linN_full (And.intro @linN_frz (And.intro @noNL_nil (And.intro @bH (And.intro @GL (And.intro @bK (And.intro @ml (And.intro @uy (And.intro @xd (And.intro @xi (And.intro @uV (And.intro @xZ (And.intro @Mi (And.intro @yL (And.intro @rx (And.intro @rI (And.intro @w9 (And.intro @xD (And.intro @dk (And.intro @gY (And.intro @Wh (And.intro @oM (And.intro @Qk (And.intro @UT (And.intro @UD (And.intro @dect (And.intro @decf (And.intro @TK (And.intro @TP (And.intro @notT (And.intro @notF (And.intro @Wq (And.intro @Ug (And.intro @Pw (And.intro @LU (And.intro @Mw (And.intro @MA (And.intro @Lv (And.intro @fH (And.intro @ev (And.intro @eA (And.intro @one_nils (And.intro @one_nilp (And.intro @xA (And.intro @ip (And.intro @pj (And.intro @mA (And.intro @oI (And.intro @pJ (And.intro @cells_nils (And.intro @oZ (And.intro @tQ (And.intro @k0 (And.intro @Gs (And.intro @ox (And.intro @O6 (And.intro @q6 (And.intro @pO (And.intro @rj (And.intro @qQ (And.intro @qJ (And.intro @pZ (And.intro @pQ (And.intro @ro (And.intro @rb (And.intro @qq (And.intro @pW (And.intro @xH (And.intro @wO (And.intro @xF (And.intro @wS (And.intro @Eg (And.intro @uP (And.intro @Ec (And.intro @Df (And.intro @Dk (And.intro @Aw (And.intro @Hj (And.intro @HN (And.intro @C5 (And.intro @Dv (And.intro @TC (And.intro @Tw (And.intro @tup0 (And.intro @jD (And.intro @kU (And.intro @qw (And.intro @ju (And.intro @Eo (And.intro @DB (And.intro @TO (And.intro @P9 (And.intro @MH (And.intro @tK (And.intro @pn (And.intro @pL (And.intro @wI (And.intro @rz (And.intro @sx (And.intro @oH (And.intro @same_nils (And.intro @EN (And.intro @Xh (And.intro @Us (And.intro @Xo (And.intro @Uw (And.intro @TG (And.intro @Vi (And.intro @yn (And.intro @yh (And.intro @PM (And.intro @UR (And.intro @yp (And.intro @rf (And.intro @yk (And.intro @vG (And.intro @x5 (And.intro @ei (And.intro @qm @tI))))))))))))))))))))))))))))))))))))))))))))))))))))))))))))))))))))))))))))))))))))))))))))))))))))))))))))))))))))))))))))))))))))))))))))))))))))))))))))))))))))))))))))))))))))))))))))))))))))))
theorem ST0:(∀ (r:RG) (v:AV),st r 0 v=⟨⟨⟨v,r.a.a.b,r.a.a.c,r.a.a.d,r.a.a.e,r.a.a.f,r.a.a.g,r.a.a.h⟩,r.a.b,r.a.c,r.a.d,r.a.e,r.a.f,r.a.g,r.a.h⟩,r.b,r.c,r.d,r.e,r.f,r.g,r.h⟩)∧(∀ (r:RG),gt r 0=r.a.a.a)∧(∀ (r:RG) (v:AV),st r 1 v=⟨⟨⟨r.a.a.a,v,r.a.a.c,r.a.a.d,r.a.a.e,r.a.a.f,r.a.a.g,r.a.a.h⟩,r.a.b,r.a.c,r.a.d,r.a.e,r.a.f,r.a.g,r.a.h⟩,r.b,r.c,r.d,r.e,r.f,r.g,r.h⟩)∧(∀ (r:RG),gt r 1=r.a.a.b)∧(∀ (r:RG) (v:AV),st r 2 v=⟨⟨⟨r.a.a.a,r.a.a.b,v,r.a.a.d,r.a.a.e,r.a.a.f,r.a.a.g,r.a.a.h⟩,r.a.b,r.a.c,r.a.d,r.a.e,r.a.f,r.a.g,r.a.h⟩,r.b,r.c,r.d,r.e,r.f,r.g,r.h⟩)∧(∀ (r:RG),gt r 2=r.a.a.c)∧(∀ (r:RG) (v:AV),st r 3 v=⟨⟨⟨r.a.a.a,r.a.a.b,r.a.a.c,v,r.a.a.e,r.a.a.f,r.a.a.g,r.a.a.h⟩,r.a.b,r.a.c,r.a.d,r.a.e,r.a.f,r.a.g,r.a.h⟩,r.b,r.c,r.d,r.e,r.f,r.g,r.h⟩)∧(∀ (r:RG),gt r 3=r.a.a.d)∧(∀ (r:RG) (v:AV),st r 4 v=⟨⟨⟨r.a.a.a,r.a.a.b,r.a.a.c,r.a.a.d,v,r.a.a.f,r.a.a.g,r.a.a.h⟩,r.a.b,r.a.c,r.a.d,r.a.e,r.a.f,r.a.g,r.a.h⟩,r.b,r.c,r.d,r.e,r.f,r.g,r.h⟩)∧(∀ (r:RG),gt r 4=r.a.a.e)∧(∀ (r:RG) (v:AV),st r 5 v=⟨⟨⟨r.a.a.a,r.a.a.b,r.a.a.c,r.a.a.d,r.a.a.e,v,r.a.a.g,r.a.a.h⟩,r.a.b,r.a.c,r.a.d,r.a.e,r.a.f,r.a.g,r.a.h⟩,r.b,r.c,r.d,r.e,r.f,r.g,r.h⟩)∧(∀ (r:RG),gt r 5=r.a.a.f)∧(∀ (r:RG) (v:AV),st r 6 v=⟨⟨⟨r.a.a.a,r.a.a.b,r.a.a.c,r.a.a.d,r.a.a.e,r.a.a.f,v,r.a.a.h⟩,r.a.b,r.a.c,r.a.d,r.a.e,r.a.f,r.a.g,r.a.h⟩,r.b,r.c,r.d,r.e,r.f,r.g,r.h⟩)∧(∀ (r:RG),gt r 6=r.a.a.g)∧(∀ (r:RG) (v:AV),st r 7 v=⟨⟨⟨r.a.a.a,r.a.a.b,r.a.a.c,r.a.a.d,r.a.a.e,r.a.a.f,r.a.a.g,v⟩,r.a.b,r.a.c,r.a.d,r.a.e,r.a.f,r.a.g,r.a.h⟩,r.b,r.c,r.d,r.e,r.f,r.g,r.h⟩)∧(∀ (r:RG),gt r 7=r.a.a.h)∧(∀ (r:RG) (v:AV),st r 8 v=⟨⟨r.a.a,⟨v,r.a.b.b,r.a.b.c,r.a.b.d,r.a.b.e,r.a.b.f,r.a.b.g,r.a.b.h⟩,r.a.c,r.a.d,r.a.e,r.a.f,r.a.g,r.a.h⟩,r.b,r.c,r.d,r.e,r.f,r.g,r.h⟩)∧(∀ (r:RG),gt r 8=r.a.b.a)∧(∀ (r:RG) (v:AV),st r 9 v=⟨⟨r.a.a,⟨r.a.b.a,v,r.a.b.c,r.a.b.d,r.a.b.e,r.a.b.f,r.a.b.g,r.a.b.h⟩,r.a.c,r.a.d,r.a.e,r.a.f,r.a.g,r.a.h⟩,r.b,r.c,r.d,r.e,r.f,r.g,r.h⟩)∧(∀ (r:RG),gt r 9=r.a.b.b)∧(∀ (r:RG) (v:AV),st r 10 v=⟨⟨r.a.a,⟨r.a.b.a,r.a.b.b,v,r.a.b.d,r.a.b.e,r.a.b.f,r.a.b.g,r.a.b.h⟩,r.a.c,r.a.d,r.a.e,r.a.f,r.a.g,r.a.h⟩,r.b,r.c,r.d,r.e,r.f,r.g,r.h⟩)∧(∀ (r:RG),gt r 10=r.a.b.c)∧(∀ (r:RG) (v:AV),st r 11 v=⟨⟨r.a.a,⟨r.a.b.a,r.a.b.b,r.a.b.c,v,r.a.b.e,r.a.b.f,r.a.b.g,r.a.b.h⟩,r.a.c,r.a.d,r.a.e,r.a.f,r.a.g,r.a.h⟩,r.b,r.c,r.d,r.e,r.f,r.g,r.h⟩)∧(∀ (r:RG),gt r 11=r.a.b.d)∧(∀ (r:RG) (v:AV),st r 12 v=⟨⟨r.a.a,⟨r.a.b.a,r.a.b.b,r.a.b.c,r.a.b.d,v,r.a.b.f,r.a.b.g,r.a.b.h⟩,r.a.c,r.a.d,r.a.e,r.a.f,r.a.g,r.a.h⟩,r.b,r.c,r.d,r.e,r.f,r.g,r.h⟩)∧(∀ (r:RG),gt r 12=r.a.b.e)∧(∀ (r:RG) (v:AV),st r 13 v=⟨⟨r.a.a,⟨r.a.b.a,r.a.b.b,r.a.b.c,r.a.b.d,r.a.b.e,v,r.a.b.g,r.a.b.h⟩,r.a.c,r.a.d,r.a.e,r.a.f,r.a.g,r.a.h⟩,r.b,r.c,r.d,r.e,r.f,r.g,r.h⟩)∧(∀ (r:RG),gt r 13=r.a.b.f)∧(∀ (r:RG) (v:AV),st r 14 v=⟨⟨r.a.a,⟨r.a.b.a,r.a.b.b,r.a.b.c,r.a.b.d,r.a.b.e,r.a.b.f,v,r.a.b.h⟩,r.a.c,r.a.d,r.a.e,r.a.f,r.a.g,r.a.h⟩,r.b,r.c,r.d,r.e,r.f,r.g,r.h⟩)∧(∀ (r:RG),gt r 14=r.a.b.g)∧(∀ (r:RG) (v:AV),st r 15 v=⟨⟨r.a.a,⟨r.a.b.a,r.a.b.b,r.a.b.c,r.a.b.d,r.a.b.e,r.a.b.f,r.a.b.g,v⟩,r.a.c,r.a.d,r.a.e,r.a.f,r.a.g,r.a.h⟩,r.b,r.c,r.d,r.e,r.f,r.g,r.h⟩)∧(∀ (r:RG),gt r 15=r.a.b.h)∧(∀ (r:RG) (v:AV),st r 16 v=⟨⟨r.a.a,r.a.b,⟨v,r.a.c.b,r.a.c.c,r.a.c.d,r.a.c.e,r.a.c.f,r.a.c.g,r.a.c.h⟩,r.a.d,r.a.e,r.a.f,r.a.g,r.a.h⟩,r.b,r.c,r.d,r.e,r.f,r.g,r.h⟩)∧(∀ (r:RG),gt r 16=r.a.c.a)∧(∀ (r:RG) (v:AV),st r 17 v=⟨⟨r.a.a,r.a.b,⟨r.a.c.a,v,r.a.c.c,r.a.c.d,r.a.c.e,r.a.c.f,r.a.c.g,r.a.c.h⟩,r.a.d,r.a.e,r.a.f,r.a.g,r.a.h⟩,r.b,r.c,r.d,r.e,r.f,r.g,r.h⟩)∧(∀ (r:RG),gt r 17=r.a.c.b)∧(∀ (r:RG) (v:AV),st r 18 v=⟨⟨r.a.a,r.a.b,⟨r.a.c.a,r.a.c.b,v,r.a.c.d,r.a.c.e,r.a.c.f,r.a.c.g,r.a.c.h⟩,r.a.d,r.a.e,r.a.f,r.a.g,r.a.h⟩,r.b,r.c,r.d,r.e,r.f,r.g,r.h⟩)∧(∀ (r:RG),gt r 18=r.a.c.c)∧(∀ (r:RG) (v:AV),st r 19 v=⟨⟨r.a.a,r.a.b,⟨r.a.c.a,r.a.c.b,r.a.c.c,v,r.a.c.e,r.a.c.f,r.a.c.g,r.a.c.h⟩,r.a.d,r.a.e,r.a.f,r.a.g,r.a.h⟩,r.b,r.c,r.d,r.e,r.f,r.g,r.h⟩)∧(∀ (r:RG),gt r 19=r.a.c.d)∧(∀ (r:RG) (v:AV),st r 20 v=⟨⟨r.a.a,r.a.b,⟨r.a.c.a,r.a.c.b,r.a.c.c,r.a.c.d,v,r.a.c.f,r.a.c.g,r.a.c.h⟩,r.a.d,r.a.e,r.a.f,r.a.g,r.a.h⟩,r.b,r.c,r.d,r.e,r.f,r.g,r.h⟩)∧(∀ (r:RG),gt r 20=r.a.c.e)∧(∀ (r:RG) (v:AV),st r 21 v=⟨⟨r.a.a,r.a.b,⟨r.a.c.a,r.a.c.b,r.a.c.c,r.a.c.d,r.a.c.e,v,r.a.c.g,r.a.c.h⟩,r.a.d,r.a.e,r.a.f,r.a.g,r.a.h⟩,r.b,r.c,r.d,r.e,r.f,r.g,r.h⟩)∧(∀ (r:RG),gt r 21=r.a.c.f)∧(∀ (r:RG) (v:AV),st r 22 v=⟨⟨r.a.a,r.a.b,⟨r.a.c.a,r.a.c.b,r.a.c.c,r.a.c.d,r.a.c.e,r.a.c.f,v,r.a.c.h⟩,r.a.d,r.a.e,r.a.f,r.a.g,r.a.h⟩,r.b,r.c,r.d,r.e,r.f,r.g,r.h⟩)∧(∀ (r:RG),gt r 22=r.a.c.g)∧(∀ (r:RG) (v:AV),st r 23 v=⟨⟨r.a.a,r.a.b,⟨r.a.c.a,r.a.c.b,r.a.c.c,r.a.c.d,r.a.c.e,r.a.c.f,r.a.c.g,v⟩,r.a.d,r.a.e,r.a.f,r.a.g,r.a.h⟩,r.b,r.c,r.d,r.e,r.f,r.g,r.h⟩)∧(∀ (r:RG),gt r 23=r.a.c.h)∧(∀ (r:RG) (v:AV),st r 24 v=⟨⟨r.a.a,r.a.b,r.a.c,⟨v,r.a.d.b,r.a.d.c,r.a.d.d,r.a.d.e,r.a.d.f,r.a.d.g,r.a.d.h⟩,r.a.e,r.a.f,r.a.g,r.a.h⟩,r.b,r.c,r.d,r.e,r.f,r.g,r.h⟩)∧(∀ (r:RG),gt r 24=r.a.d.a)∧(∀ (r:RG) (v:AV),st r 25 v=⟨⟨r.a.a,r.a.b,r.a.c,⟨r.a.d.a,v,r.a.d.c,r.a.d.d,r.a.d.e,r.a.d.f,r.a.d.g,r.a.d.h⟩,r.a.e,r.a.f,r.a.g,r.a.h⟩,r.b,r.c,r.d,r.e,r.f,r.g,r.h⟩)∧(∀ (r:RG),gt r 25=r.a.d.b)∧(∀ (r:RG) (v:AV),st r 26 v=⟨⟨r.a.a,r.a.b,r.a.c,⟨r.a.d.a,r.a.d.b,v,r.a.d.d,r.a.d.e,r.a.d.f,r.a.d.g,r.a.d.h⟩,r.a.e,r.a.f,r.a.g,r.a.h⟩,r.b,r.c,r.d,r.e,r.f,r.g,r.h⟩)∧(∀ (r:RG),gt r 26=r.a.d.c)∧(∀ (r:RG) (v:AV),st r 27 v=⟨⟨r.a.a,r.a.b,r.a.c,⟨r.a.d.a,r.a.d.b,r.a.d.c,v,r.a.d.e,r.a.d.f,r.a.d.g,r.a.d.h⟩,r.a.e,r.a.f,r.a.g,r.a.h⟩,r.b,r.c,r.d,r.e,r.f,r.g,r.h⟩)∧(∀ (r:RG),gt r 27=r.a.d.d)∧(∀ (r:RG) (v:AV),st r 28 v=⟨⟨r.a.a,r.a.b,r.a.c,⟨r.a.d.a,r.a.d.b,r.a.d.c,r.a.d.d,v,r.a.d.f,r.a.d.g,r.a.d.h⟩,r.a.e,r.a.f,r.a.g,r.a.h⟩,r.b,r.c,r.d,r.e,r.f,r.g,r.h⟩)∧(∀ (r:RG),gt r 28=r.a.d.e)∧(∀ (r:RG) (v:AV),st r 29 v=⟨⟨r.a.a,r.a.b,r.a.c,⟨r.a.d.a,r.a.d.b,r.a.d.c,r.a.d.d,r.a.d.e,v,r.a.d.g,r.a.d.h⟩,r.a.e,r.a.f,r.a.g,r.a.h⟩,r.b,r.c,r.d,r.e,r.f,r.g,r.h⟩)∧(∀ (r:RG),gt r 29=r.a.d.f)∧(∀ (r:RG) (v:AV),st r 30 v=⟨⟨r.a.a,r.a.b,r.a.c,⟨r.a.d.a,r.a.d.b,r.a.d.c,r.a.d.d,r.a.d.e,r.a.d.f,v,r.a.d.h⟩,r.a.e,r.a.f,r.a.g,r.a.h⟩,r.b,r.c,r.d,r.e,r.f,r.g,r.h⟩)∧(∀ (r:RG),gt r 30=r.a.d.g)∧(∀ (r:RG) (v:AV),st r 31 v=⟨⟨r.a.a,r.a.b,r.a.c,⟨r.a.d.a,r.a.d.b,r.a.d.c,r.a.d.d,r.a.d.e,r.a.d.f,r.a.d.g,v⟩,r.a.e,r.a.f,r.a.g,r.a.h⟩,r.b,r.c,r.d,r.e,r.f,r.g,r.h⟩)∧(∀ (r:RG),gt r 31=r.a.d.h):=by
 repeat first | apply And.intro | (intros;rfl)
theorem ST1:(∀ (r:RG) (v:AV),st r 32 v=⟨⟨r.a.a,r.a.b,r.a.c,r.a.d,⟨v,r.a.e.b,r.a.e.c,r.a.e.d,r.a.e.e,r.a.e.f,r.a.e.g,r.a.e.h⟩,r.a.f,r.a.g,r.a.h⟩,r.b,r.c,r.d,r.e,r.f,r.g,r.h⟩)∧(∀ (r:RG),gt r 32=r.a.e.a)∧(∀ (r:RG) (v:AV),st r 33 v=⟨⟨r.a.a,r.a.b,r.a.c,r.a.d,⟨r.a.e.a,v,r.a.e.c,r.a.e.d,r.a.e.e,r.a.e.f,r.a.e.g,r.a.e.h⟩,r.a.f,r.a.g,r.a.h⟩,r.b,r.c,r.d,r.e,r.f,r.g,r.h⟩)∧(∀ (r:RG),gt r 33=r.a.e.b)∧(∀ (r:RG) (v:AV),st r 34 v=⟨⟨r.a.a,r.a.b,r.a.c,r.a.d,⟨r.a.e.a,r.a.e.b,v,r.a.e.d,r.a.e.e,r.a.e.f,r.a.e.g,r.a.e.h⟩,r.a.f,r.a.g,r.a.h⟩,r.b,r.c,r.d,r.e,r.f,r.g,r.h⟩)∧(∀ (r:RG),gt r 34=r.a.e.c)∧(∀ (r:RG) (v:AV),st r 35 v=⟨⟨r.a.a,r.a.b,r.a.c,r.a.d,⟨r.a.e.a,r.a.e.b,r.a.e.c,v,r.a.e.e,r.a.e.f,r.a.e.g,r.a.e.h⟩,r.a.f,r.a.g,r.a.h⟩,r.b,r.c,r.d,r.e,r.f,r.g,r.h⟩)∧(∀ (r:RG),gt r 35=r.a.e.d)∧(∀ (r:RG) (v:AV),st r 36 v=⟨⟨r.a.a,r.a.b,r.a.c,r.a.d,⟨r.a.e.a,r.a.e.b,r.a.e.c,r.a.e.d,v,r.a.e.f,r.a.e.g,r.a.e.h⟩,r.a.f,r.a.g,r.a.h⟩,r.b,r.c,r.d,r.e,r.f,r.g,r.h⟩)∧(∀ (r:RG),gt r 36=r.a.e.e)∧(∀ (r:RG) (v:AV),st r 37 v=⟨⟨r.a.a,r.a.b,r.a.c,r.a.d,⟨r.a.e.a,r.a.e.b,r.a.e.c,r.a.e.d,r.a.e.e,v,r.a.e.g,r.a.e.h⟩,r.a.f,r.a.g,r.a.h⟩,r.b,r.c,r.d,r.e,r.f,r.g,r.h⟩)∧(∀ (r:RG),gt r 37=r.a.e.f)∧(∀ (r:RG) (v:AV),st r 38 v=⟨⟨r.a.a,r.a.b,r.a.c,r.a.d,⟨r.a.e.a,r.a.e.b,r.a.e.c,r.a.e.d,r.a.e.e,r.a.e.f,v,r.a.e.h⟩,r.a.f,r.a.g,r.a.h⟩,r.b,r.c,r.d,r.e,r.f,r.g,r.h⟩)∧(∀ (r:RG),gt r 38=r.a.e.g)∧(∀ (r:RG) (v:AV),st r 39 v=⟨⟨r.a.a,r.a.b,r.a.c,r.a.d,⟨r.a.e.a,r.a.e.b,r.a.e.c,r.a.e.d,r.a.e.e,r.a.e.f,r.a.e.g,v⟩,r.a.f,r.a.g,r.a.h⟩,r.b,r.c,r.d,r.e,r.f,r.g,r.h⟩)∧(∀ (r:RG),gt r 39=r.a.e.h)∧(∀ (r:RG) (v:AV),st r 40 v=⟨⟨r.a.a,r.a.b,r.a.c,r.a.d,r.a.e,⟨v,r.a.f.b,r.a.f.c,r.a.f.d,r.a.f.e,r.a.f.f,r.a.f.g,r.a.f.h⟩,r.a.g,r.a.h⟩,r.b,r.c,r.d,r.e,r.f,r.g,r.h⟩)∧(∀ (r:RG),gt r 40=r.a.f.a)∧(∀ (r:RG) (v:AV),st r 41 v=⟨⟨r.a.a,r.a.b,r.a.c,r.a.d,r.a.e,⟨r.a.f.a,v,r.a.f.c,r.a.f.d,r.a.f.e,r.a.f.f,r.a.f.g,r.a.f.h⟩,r.a.g,r.a.h⟩,r.b,r.c,r.d,r.e,r.f,r.g,r.h⟩)∧(∀ (r:RG),gt r 41=r.a.f.b)∧(∀ (r:RG) (v:AV),st r 42 v=⟨⟨r.a.a,r.a.b,r.a.c,r.a.d,r.a.e,⟨r.a.f.a,r.a.f.b,v,r.a.f.d,r.a.f.e,r.a.f.f,r.a.f.g,r.a.f.h⟩,r.a.g,r.a.h⟩,r.b,r.c,r.d,r.e,r.f,r.g,r.h⟩)∧(∀ (r:RG),gt r 42=r.a.f.c)∧(∀ (r:RG) (v:AV),st r 43 v=⟨⟨r.a.a,r.a.b,r.a.c,r.a.d,r.a.e,⟨r.a.f.a,r.a.f.b,r.a.f.c,v,r.a.f.e,r.a.f.f,r.a.f.g,r.a.f.h⟩,r.a.g,r.a.h⟩,r.b,r.c,r.d,r.e,r.f,r.g,r.h⟩)∧(∀ (r:RG),gt r 43=r.a.f.d)∧(∀ (r:RG) (v:AV),st r 44 v=⟨⟨r.a.a,r.a.b,r.a.c,r.a.d,r.a.e,⟨r.a.f.a,r.a.f.b,r.a.f.c,r.a.f.d,v,r.a.f.f,r.a.f.g,r.a.f.h⟩,r.a.g,r.a.h⟩,r.b,r.c,r.d,r.e,r.f,r.g,r.h⟩)∧(∀ (r:RG),gt r 44=r.a.f.e)∧(∀ (r:RG) (v:AV),st r 45 v=⟨⟨r.a.a,r.a.b,r.a.c,r.a.d,r.a.e,⟨r.a.f.a,r.a.f.b,r.a.f.c,r.a.f.d,r.a.f.e,v,r.a.f.g,r.a.f.h⟩,r.a.g,r.a.h⟩,r.b,r.c,r.d,r.e,r.f,r.g,r.h⟩)∧(∀ (r:RG),gt r 45=r.a.f.f)∧(∀ (r:RG) (v:AV),st r 46 v=⟨⟨r.a.a,r.a.b,r.a.c,r.a.d,r.a.e,⟨r.a.f.a,r.a.f.b,r.a.f.c,r.a.f.d,r.a.f.e,r.a.f.f,v,r.a.f.h⟩,r.a.g,r.a.h⟩,r.b,r.c,r.d,r.e,r.f,r.g,r.h⟩)∧(∀ (r:RG),gt r 46=r.a.f.g)∧(∀ (r:RG) (v:AV),st r 47 v=⟨⟨r.a.a,r.a.b,r.a.c,r.a.d,r.a.e,⟨r.a.f.a,r.a.f.b,r.a.f.c,r.a.f.d,r.a.f.e,r.a.f.f,r.a.f.g,v⟩,r.a.g,r.a.h⟩,r.b,r.c,r.d,r.e,r.f,r.g,r.h⟩)∧(∀ (r:RG),gt r 47=r.a.f.h)∧(∀ (r:RG) (v:AV),st r 48 v=⟨⟨r.a.a,r.a.b,r.a.c,r.a.d,r.a.e,r.a.f,⟨v,r.a.g.b,r.a.g.c,r.a.g.d,r.a.g.e,r.a.g.f,r.a.g.g,r.a.g.h⟩,r.a.h⟩,r.b,r.c,r.d,r.e,r.f,r.g,r.h⟩)∧(∀ (r:RG),gt r 48=r.a.g.a)∧(∀ (r:RG) (v:AV),st r 49 v=⟨⟨r.a.a,r.a.b,r.a.c,r.a.d,r.a.e,r.a.f,⟨r.a.g.a,v,r.a.g.c,r.a.g.d,r.a.g.e,r.a.g.f,r.a.g.g,r.a.g.h⟩,r.a.h⟩,r.b,r.c,r.d,r.e,r.f,r.g,r.h⟩)∧(∀ (r:RG),gt r 49=r.a.g.b)∧(∀ (r:RG) (v:AV),st r 50 v=⟨⟨r.a.a,r.a.b,r.a.c,r.a.d,r.a.e,r.a.f,⟨r.a.g.a,r.a.g.b,v,r.a.g.d,r.a.g.e,r.a.g.f,r.a.g.g,r.a.g.h⟩,r.a.h⟩,r.b,r.c,r.d,r.e,r.f,r.g,r.h⟩)∧(∀ (r:RG),gt r 50=r.a.g.c)∧(∀ (r:RG) (v:AV),st r 51 v=⟨⟨r.a.a,r.a.b,r.a.c,r.a.d,r.a.e,r.a.f,⟨r.a.g.a,r.a.g.b,r.a.g.c,v,r.a.g.e,r.a.g.f,r.a.g.g,r.a.g.h⟩,r.a.h⟩,r.b,r.c,r.d,r.e,r.f,r.g,r.h⟩)∧(∀ (r:RG),gt r 51=r.a.g.d)∧(∀ (r:RG) (v:AV),st r 52 v=⟨⟨r.a.a,r.a.b,r.a.c,r.a.d,r.a.e,r.a.f,⟨r.a.g.a,r.a.g.b,r.a.g.c,r.a.g.d,v,r.a.g.f,r.a.g.g,r.a.g.h⟩,r.a.h⟩,r.b,r.c,r.d,r.e,r.f,r.g,r.h⟩)∧(∀ (r:RG),gt r 52=r.a.g.e)∧(∀ (r:RG) (v:AV),st r 53 v=⟨⟨r.a.a,r.a.b,r.a.c,r.a.d,r.a.e,r.a.f,⟨r.a.g.a,r.a.g.b,r.a.g.c,r.a.g.d,r.a.g.e,v,r.a.g.g,r.a.g.h⟩,r.a.h⟩,r.b,r.c,r.d,r.e,r.f,r.g,r.h⟩)∧(∀ (r:RG),gt r 53=r.a.g.f)∧(∀ (r:RG) (v:AV),st r 54 v=⟨⟨r.a.a,r.a.b,r.a.c,r.a.d,r.a.e,r.a.f,⟨r.a.g.a,r.a.g.b,r.a.g.c,r.a.g.d,r.a.g.e,r.a.g.f,v,r.a.g.h⟩,r.a.h⟩,r.b,r.c,r.d,r.e,r.f,r.g,r.h⟩)∧(∀ (r:RG),gt r 54=r.a.g.g)∧(∀ (r:RG) (v:AV),st r 55 v=⟨⟨r.a.a,r.a.b,r.a.c,r.a.d,r.a.e,r.a.f,⟨r.a.g.a,r.a.g.b,r.a.g.c,r.a.g.d,r.a.g.e,r.a.g.f,r.a.g.g,v⟩,r.a.h⟩,r.b,r.c,r.d,r.e,r.f,r.g,r.h⟩)∧(∀ (r:RG),gt r 55=r.a.g.h)∧(∀ (r:RG) (v:AV),st r 56 v=⟨⟨r.a.a,r.a.b,r.a.c,r.a.d,r.a.e,r.a.f,r.a.g,⟨v,r.a.h.b,r.a.h.c,r.a.h.d,r.a.h.e,r.a.h.f,r.a.h.g,r.a.h.h⟩⟩,r.b,r.c,r.d,r.e,r.f,r.g,r.h⟩)∧(∀ (r:RG),gt r 56=r.a.h.a)∧(∀ (r:RG) (v:AV),st r 57 v=⟨⟨r.a.a,r.a.b,r.a.c,r.a.d,r.a.e,r.a.f,r.a.g,⟨r.a.h.a,v,r.a.h.c,r.a.h.d,r.a.h.e,r.a.h.f,r.a.h.g,r.a.h.h⟩⟩,r.b,r.c,r.d,r.e,r.f,r.g,r.h⟩)∧(∀ (r:RG),gt r 57=r.a.h.b)∧(∀ (r:RG) (v:AV),st r 58 v=⟨⟨r.a.a,r.a.b,r.a.c,r.a.d,r.a.e,r.a.f,r.a.g,⟨r.a.h.a,r.a.h.b,v,r.a.h.d,r.a.h.e,r.a.h.f,r.a.h.g,r.a.h.h⟩⟩,r.b,r.c,r.d,r.e,r.f,r.g,r.h⟩)∧(∀ (r:RG),gt r 58=r.a.h.c)∧(∀ (r:RG) (v:AV),st r 59 v=⟨⟨r.a.a,r.a.b,r.a.c,r.a.d,r.a.e,r.a.f,r.a.g,⟨r.a.h.a,r.a.h.b,r.a.h.c,v,r.a.h.e,r.a.h.f,r.a.h.g,r.a.h.h⟩⟩,r.b,r.c,r.d,r.e,r.f,r.g,r.h⟩)∧(∀ (r:RG),gt r 59=r.a.h.d)∧(∀ (r:RG) (v:AV),st r 60 v=⟨⟨r.a.a,r.a.b,r.a.c,r.a.d,r.a.e,r.a.f,r.a.g,⟨r.a.h.a,r.a.h.b,r.a.h.c,r.a.h.d,v,r.a.h.f,r.a.h.g,r.a.h.h⟩⟩,r.b,r.c,r.d,r.e,r.f,r.g,r.h⟩)∧(∀ (r:RG),gt r 60=r.a.h.e)∧(∀ (r:RG) (v:AV),st r 61 v=⟨⟨r.a.a,r.a.b,r.a.c,r.a.d,r.a.e,r.a.f,r.a.g,⟨r.a.h.a,r.a.h.b,r.a.h.c,r.a.h.d,r.a.h.e,v,r.a.h.g,r.a.h.h⟩⟩,r.b,r.c,r.d,r.e,r.f,r.g,r.h⟩)∧(∀ (r:RG),gt r 61=r.a.h.f)∧(∀ (r:RG) (v:AV),st r 62 v=⟨⟨r.a.a,r.a.b,r.a.c,r.a.d,r.a.e,r.a.f,r.a.g,⟨r.a.h.a,r.a.h.b,r.a.h.c,r.a.h.d,r.a.h.e,r.a.h.f,v,r.a.h.h⟩⟩,r.b,r.c,r.d,r.e,r.f,r.g,r.h⟩)∧(∀ (r:RG),gt r 62=r.a.h.g)∧(∀ (r:RG) (v:AV),st r 63 v=⟨⟨r.a.a,r.a.b,r.a.c,r.a.d,r.a.e,r.a.f,r.a.g,⟨r.a.h.a,r.a.h.b,r.a.h.c,r.a.h.d,r.a.h.e,r.a.h.f,r.a.h.g,v⟩⟩,r.b,r.c,r.d,r.e,r.f,r.g,r.h⟩)∧(∀ (r:RG),gt r 63=r.a.h.h):=by
 repeat first | apply And.intro | (intros;rfl)
theorem ST2:(∀ (r:RG) (v:AV),st r 64 v=⟨r.a,⟨⟨v,r.b.a.b,r.b.a.c,r.b.a.d,r.b.a.e,r.b.a.f,r.b.a.g,r.b.a.h⟩,r.b.b,r.b.c,r.b.d,r.b.e,r.b.f,r.b.g,r.b.h⟩,r.c,r.d,r.e,r.f,r.g,r.h⟩)∧(∀ (r:RG),gt r 64=r.b.a.a)∧(∀ (r:RG) (v:AV),st r 65 v=⟨r.a,⟨⟨r.b.a.a,v,r.b.a.c,r.b.a.d,r.b.a.e,r.b.a.f,r.b.a.g,r.b.a.h⟩,r.b.b,r.b.c,r.b.d,r.b.e,r.b.f,r.b.g,r.b.h⟩,r.c,r.d,r.e,r.f,r.g,r.h⟩)∧(∀ (r:RG),gt r 65=r.b.a.b)∧(∀ (r:RG) (v:AV),st r 66 v=⟨r.a,⟨⟨r.b.a.a,r.b.a.b,v,r.b.a.d,r.b.a.e,r.b.a.f,r.b.a.g,r.b.a.h⟩,r.b.b,r.b.c,r.b.d,r.b.e,r.b.f,r.b.g,r.b.h⟩,r.c,r.d,r.e,r.f,r.g,r.h⟩)∧(∀ (r:RG),gt r 66=r.b.a.c)∧(∀ (r:RG) (v:AV),st r 67 v=⟨r.a,⟨⟨r.b.a.a,r.b.a.b,r.b.a.c,v,r.b.a.e,r.b.a.f,r.b.a.g,r.b.a.h⟩,r.b.b,r.b.c,r.b.d,r.b.e,r.b.f,r.b.g,r.b.h⟩,r.c,r.d,r.e,r.f,r.g,r.h⟩)∧(∀ (r:RG),gt r 67=r.b.a.d)∧(∀ (r:RG) (v:AV),st r 68 v=⟨r.a,⟨⟨r.b.a.a,r.b.a.b,r.b.a.c,r.b.a.d,v,r.b.a.f,r.b.a.g,r.b.a.h⟩,r.b.b,r.b.c,r.b.d,r.b.e,r.b.f,r.b.g,r.b.h⟩,r.c,r.d,r.e,r.f,r.g,r.h⟩)∧(∀ (r:RG),gt r 68=r.b.a.e)∧(∀ (r:RG) (v:AV),st r 69 v=⟨r.a,⟨⟨r.b.a.a,r.b.a.b,r.b.a.c,r.b.a.d,r.b.a.e,v,r.b.a.g,r.b.a.h⟩,r.b.b,r.b.c,r.b.d,r.b.e,r.b.f,r.b.g,r.b.h⟩,r.c,r.d,r.e,r.f,r.g,r.h⟩)∧(∀ (r:RG),gt r 69=r.b.a.f)∧(∀ (r:RG) (v:AV),st r 70 v=⟨r.a,⟨⟨r.b.a.a,r.b.a.b,r.b.a.c,r.b.a.d,r.b.a.e,r.b.a.f,v,r.b.a.h⟩,r.b.b,r.b.c,r.b.d,r.b.e,r.b.f,r.b.g,r.b.h⟩,r.c,r.d,r.e,r.f,r.g,r.h⟩)∧(∀ (r:RG),gt r 70=r.b.a.g)∧(∀ (r:RG) (v:AV),st r 71 v=⟨r.a,⟨⟨r.b.a.a,r.b.a.b,r.b.a.c,r.b.a.d,r.b.a.e,r.b.a.f,r.b.a.g,v⟩,r.b.b,r.b.c,r.b.d,r.b.e,r.b.f,r.b.g,r.b.h⟩,r.c,r.d,r.e,r.f,r.g,r.h⟩)∧(∀ (r:RG),gt r 71=r.b.a.h)∧(∀ (r:RG) (v:AV),st r 72 v=⟨r.a,⟨r.b.a,⟨v,r.b.b.b,r.b.b.c,r.b.b.d,r.b.b.e,r.b.b.f,r.b.b.g,r.b.b.h⟩,r.b.c,r.b.d,r.b.e,r.b.f,r.b.g,r.b.h⟩,r.c,r.d,r.e,r.f,r.g,r.h⟩)∧(∀ (r:RG),gt r 72=r.b.b.a)∧(∀ (r:RG) (v:AV),st r 73 v=⟨r.a,⟨r.b.a,⟨r.b.b.a,v,r.b.b.c,r.b.b.d,r.b.b.e,r.b.b.f,r.b.b.g,r.b.b.h⟩,r.b.c,r.b.d,r.b.e,r.b.f,r.b.g,r.b.h⟩,r.c,r.d,r.e,r.f,r.g,r.h⟩)∧(∀ (r:RG),gt r 73=r.b.b.b)∧(∀ (r:RG) (v:AV),st r 74 v=⟨r.a,⟨r.b.a,⟨r.b.b.a,r.b.b.b,v,r.b.b.d,r.b.b.e,r.b.b.f,r.b.b.g,r.b.b.h⟩,r.b.c,r.b.d,r.b.e,r.b.f,r.b.g,r.b.h⟩,r.c,r.d,r.e,r.f,r.g,r.h⟩)∧(∀ (r:RG),gt r 74=r.b.b.c)∧(∀ (r:RG) (v:AV),st r 75 v=⟨r.a,⟨r.b.a,⟨r.b.b.a,r.b.b.b,r.b.b.c,v,r.b.b.e,r.b.b.f,r.b.b.g,r.b.b.h⟩,r.b.c,r.b.d,r.b.e,r.b.f,r.b.g,r.b.h⟩,r.c,r.d,r.e,r.f,r.g,r.h⟩)∧(∀ (r:RG),gt r 75=r.b.b.d)∧(∀ (r:RG) (v:AV),st r 76 v=⟨r.a,⟨r.b.a,⟨r.b.b.a,r.b.b.b,r.b.b.c,r.b.b.d,v,r.b.b.f,r.b.b.g,r.b.b.h⟩,r.b.c,r.b.d,r.b.e,r.b.f,r.b.g,r.b.h⟩,r.c,r.d,r.e,r.f,r.g,r.h⟩)∧(∀ (r:RG),gt r 76=r.b.b.e)∧(∀ (r:RG) (v:AV),st r 77 v=⟨r.a,⟨r.b.a,⟨r.b.b.a,r.b.b.b,r.b.b.c,r.b.b.d,r.b.b.e,v,r.b.b.g,r.b.b.h⟩,r.b.c,r.b.d,r.b.e,r.b.f,r.b.g,r.b.h⟩,r.c,r.d,r.e,r.f,r.g,r.h⟩)∧(∀ (r:RG),gt r 77=r.b.b.f)∧(∀ (r:RG) (v:AV),st r 78 v=⟨r.a,⟨r.b.a,⟨r.b.b.a,r.b.b.b,r.b.b.c,r.b.b.d,r.b.b.e,r.b.b.f,v,r.b.b.h⟩,r.b.c,r.b.d,r.b.e,r.b.f,r.b.g,r.b.h⟩,r.c,r.d,r.e,r.f,r.g,r.h⟩)∧(∀ (r:RG),gt r 78=r.b.b.g)∧(∀ (r:RG) (v:AV),st r 79 v=⟨r.a,⟨r.b.a,⟨r.b.b.a,r.b.b.b,r.b.b.c,r.b.b.d,r.b.b.e,r.b.b.f,r.b.b.g,v⟩,r.b.c,r.b.d,r.b.e,r.b.f,r.b.g,r.b.h⟩,r.c,r.d,r.e,r.f,r.g,r.h⟩)∧(∀ (r:RG),gt r 79=r.b.b.h)∧(∀ (r:RG) (v:AV),st r 80 v=⟨r.a,⟨r.b.a,r.b.b,⟨v,r.b.c.b,r.b.c.c,r.b.c.d,r.b.c.e,r.b.c.f,r.b.c.g,r.b.c.h⟩,r.b.d,r.b.e,r.b.f,r.b.g,r.b.h⟩,r.c,r.d,r.e,r.f,r.g,r.h⟩)∧(∀ (r:RG),gt r 80=r.b.c.a)∧(∀ (r:RG) (v:AV),st r 81 v=⟨r.a,⟨r.b.a,r.b.b,⟨r.b.c.a,v,r.b.c.c,r.b.c.d,r.b.c.e,r.b.c.f,r.b.c.g,r.b.c.h⟩,r.b.d,r.b.e,r.b.f,r.b.g,r.b.h⟩,r.c,r.d,r.e,r.f,r.g,r.h⟩)∧(∀ (r:RG),gt r 81=r.b.c.b)∧(∀ (r:RG) (v:AV),st r 82 v=⟨r.a,⟨r.b.a,r.b.b,⟨r.b.c.a,r.b.c.b,v,r.b.c.d,r.b.c.e,r.b.c.f,r.b.c.g,r.b.c.h⟩,r.b.d,r.b.e,r.b.f,r.b.g,r.b.h⟩,r.c,r.d,r.e,r.f,r.g,r.h⟩)∧(∀ (r:RG),gt r 82=r.b.c.c)∧(∀ (r:RG) (v:AV),st r 83 v=⟨r.a,⟨r.b.a,r.b.b,⟨r.b.c.a,r.b.c.b,r.b.c.c,v,r.b.c.e,r.b.c.f,r.b.c.g,r.b.c.h⟩,r.b.d,r.b.e,r.b.f,r.b.g,r.b.h⟩,r.c,r.d,r.e,r.f,r.g,r.h⟩)∧(∀ (r:RG),gt r 83=r.b.c.d)∧(∀ (r:RG) (v:AV),st r 84 v=⟨r.a,⟨r.b.a,r.b.b,⟨r.b.c.a,r.b.c.b,r.b.c.c,r.b.c.d,v,r.b.c.f,r.b.c.g,r.b.c.h⟩,r.b.d,r.b.e,r.b.f,r.b.g,r.b.h⟩,r.c,r.d,r.e,r.f,r.g,r.h⟩)∧(∀ (r:RG),gt r 84=r.b.c.e)∧(∀ (r:RG) (v:AV),st r 85 v=⟨r.a,⟨r.b.a,r.b.b,⟨r.b.c.a,r.b.c.b,r.b.c.c,r.b.c.d,r.b.c.e,v,r.b.c.g,r.b.c.h⟩,r.b.d,r.b.e,r.b.f,r.b.g,r.b.h⟩,r.c,r.d,r.e,r.f,r.g,r.h⟩)∧(∀ (r:RG),gt r 85=r.b.c.f)∧(∀ (r:RG) (v:AV),st r 86 v=⟨r.a,⟨r.b.a,r.b.b,⟨r.b.c.a,r.b.c.b,r.b.c.c,r.b.c.d,r.b.c.e,r.b.c.f,v,r.b.c.h⟩,r.b.d,r.b.e,r.b.f,r.b.g,r.b.h⟩,r.c,r.d,r.e,r.f,r.g,r.h⟩)∧(∀ (r:RG),gt r 86=r.b.c.g)∧(∀ (r:RG) (v:AV),st r 87 v=⟨r.a,⟨r.b.a,r.b.b,⟨r.b.c.a,r.b.c.b,r.b.c.c,r.b.c.d,r.b.c.e,r.b.c.f,r.b.c.g,v⟩,r.b.d,r.b.e,r.b.f,r.b.g,r.b.h⟩,r.c,r.d,r.e,r.f,r.g,r.h⟩)∧(∀ (r:RG),gt r 87=r.b.c.h)∧(∀ (r:RG) (v:AV),st r 88 v=⟨r.a,⟨r.b.a,r.b.b,r.b.c,⟨v,r.b.d.b,r.b.d.c,r.b.d.d,r.b.d.e,r.b.d.f,r.b.d.g,r.b.d.h⟩,r.b.e,r.b.f,r.b.g,r.b.h⟩,r.c,r.d,r.e,r.f,r.g,r.h⟩)∧(∀ (r:RG),gt r 88=r.b.d.a)∧(∀ (r:RG) (v:AV),st r 89 v=⟨r.a,⟨r.b.a,r.b.b,r.b.c,⟨r.b.d.a,v,r.b.d.c,r.b.d.d,r.b.d.e,r.b.d.f,r.b.d.g,r.b.d.h⟩,r.b.e,r.b.f,r.b.g,r.b.h⟩,r.c,r.d,r.e,r.f,r.g,r.h⟩)∧(∀ (r:RG),gt r 89=r.b.d.b)∧(∀ (r:RG) (v:AV),st r 90 v=⟨r.a,⟨r.b.a,r.b.b,r.b.c,⟨r.b.d.a,r.b.d.b,v,r.b.d.d,r.b.d.e,r.b.d.f,r.b.d.g,r.b.d.h⟩,r.b.e,r.b.f,r.b.g,r.b.h⟩,r.c,r.d,r.e,r.f,r.g,r.h⟩)∧(∀ (r:RG),gt r 90=r.b.d.c)∧(∀ (r:RG) (v:AV),st r 91 v=⟨r.a,⟨r.b.a,r.b.b,r.b.c,⟨r.b.d.a,r.b.d.b,r.b.d.c,v,r.b.d.e,r.b.d.f,r.b.d.g,r.b.d.h⟩,r.b.e,r.b.f,r.b.g,r.b.h⟩,r.c,r.d,r.e,r.f,r.g,r.h⟩)∧(∀ (r:RG),gt r 91=r.b.d.d)∧(∀ (r:RG) (v:AV),st r 92 v=⟨r.a,⟨r.b.a,r.b.b,r.b.c,⟨r.b.d.a,r.b.d.b,r.b.d.c,r.b.d.d,v,r.b.d.f,r.b.d.g,r.b.d.h⟩,r.b.e,r.b.f,r.b.g,r.b.h⟩,r.c,r.d,r.e,r.f,r.g,r.h⟩)∧(∀ (r:RG),gt r 92=r.b.d.e)∧(∀ (r:RG) (v:AV),st r 93 v=⟨r.a,⟨r.b.a,r.b.b,r.b.c,⟨r.b.d.a,r.b.d.b,r.b.d.c,r.b.d.d,r.b.d.e,v,r.b.d.g,r.b.d.h⟩,r.b.e,r.b.f,r.b.g,r.b.h⟩,r.c,r.d,r.e,r.f,r.g,r.h⟩)∧(∀ (r:RG),gt r 93=r.b.d.f)∧(∀ (r:RG) (v:AV),st r 94 v=⟨r.a,⟨r.b.a,r.b.b,r.b.c,⟨r.b.d.a,r.b.d.b,r.b.d.c,r.b.d.d,r.b.d.e,r.b.d.f,v,r.b.d.h⟩,r.b.e,r.b.f,r.b.g,r.b.h⟩,r.c,r.d,r.e,r.f,r.g,r.h⟩)∧(∀ (r:RG),gt r 94=r.b.d.g)∧(∀ (r:RG) (v:AV),st r 95 v=⟨r.a,⟨r.b.a,r.b.b,r.b.c,⟨r.b.d.a,r.b.d.b,r.b.d.c,r.b.d.d,r.b.d.e,r.b.d.f,r.b.d.g,v⟩,r.b.e,r.b.f,r.b.g,r.b.h⟩,r.c,r.d,r.e,r.f,r.g,r.h⟩)∧(∀ (r:RG),gt r 95=r.b.d.h):=by
 repeat first | apply And.intro | (intros;rfl)
theorem ST3:(∀ (r:RG) (v:AV),st r 96 v=⟨r.a,⟨r.b.a,r.b.b,r.b.c,r.b.d,⟨v,r.b.e.b,r.b.e.c,r.b.e.d,r.b.e.e,r.b.e.f,r.b.e.g,r.b.e.h⟩,r.b.f,r.b.g,r.b.h⟩,r.c,r.d,r.e,r.f,r.g,r.h⟩)∧(∀ (r:RG),gt r 96=r.b.e.a)∧(∀ (r:RG) (v:AV),st r 97 v=⟨r.a,⟨r.b.a,r.b.b,r.b.c,r.b.d,⟨r.b.e.a,v,r.b.e.c,r.b.e.d,r.b.e.e,r.b.e.f,r.b.e.g,r.b.e.h⟩,r.b.f,r.b.g,r.b.h⟩,r.c,r.d,r.e,r.f,r.g,r.h⟩)∧(∀ (r:RG),gt r 97=r.b.e.b)∧(∀ (r:RG) (v:AV),st r 98 v=⟨r.a,⟨r.b.a,r.b.b,r.b.c,r.b.d,⟨r.b.e.a,r.b.e.b,v,r.b.e.d,r.b.e.e,r.b.e.f,r.b.e.g,r.b.e.h⟩,r.b.f,r.b.g,r.b.h⟩,r.c,r.d,r.e,r.f,r.g,r.h⟩)∧(∀ (r:RG),gt r 98=r.b.e.c)∧(∀ (r:RG) (v:AV),st r 99 v=⟨r.a,⟨r.b.a,r.b.b,r.b.c,r.b.d,⟨r.b.e.a,r.b.e.b,r.b.e.c,v,r.b.e.e,r.b.e.f,r.b.e.g,r.b.e.h⟩,r.b.f,r.b.g,r.b.h⟩,r.c,r.d,r.e,r.f,r.g,r.h⟩)∧(∀ (r:RG),gt r 99=r.b.e.d)∧(∀ (r:RG) (v:AV),st r 100 v=⟨r.a,⟨r.b.a,r.b.b,r.b.c,r.b.d,⟨r.b.e.a,r.b.e.b,r.b.e.c,r.b.e.d,v,r.b.e.f,r.b.e.g,r.b.e.h⟩,r.b.f,r.b.g,r.b.h⟩,r.c,r.d,r.e,r.f,r.g,r.h⟩)∧(∀ (r:RG),gt r 100=r.b.e.e)∧(∀ (r:RG) (v:AV),st r 101 v=⟨r.a,⟨r.b.a,r.b.b,r.b.c,r.b.d,⟨r.b.e.a,r.b.e.b,r.b.e.c,r.b.e.d,r.b.e.e,v,r.b.e.g,r.b.e.h⟩,r.b.f,r.b.g,r.b.h⟩,r.c,r.d,r.e,r.f,r.g,r.h⟩)∧(∀ (r:RG),gt r 101=r.b.e.f)∧(∀ (r:RG) (v:AV),st r 102 v=⟨r.a,⟨r.b.a,r.b.b,r.b.c,r.b.d,⟨r.b.e.a,r.b.e.b,r.b.e.c,r.b.e.d,r.b.e.e,r.b.e.f,v,r.b.e.h⟩,r.b.f,r.b.g,r.b.h⟩,r.c,r.d,r.e,r.f,r.g,r.h⟩)∧(∀ (r:RG),gt r 102=r.b.e.g)∧(∀ (r:RG) (v:AV),st r 103 v=⟨r.a,⟨r.b.a,r.b.b,r.b.c,r.b.d,⟨r.b.e.a,r.b.e.b,r.b.e.c,r.b.e.d,r.b.e.e,r.b.e.f,r.b.e.g,v⟩,r.b.f,r.b.g,r.b.h⟩,r.c,r.d,r.e,r.f,r.g,r.h⟩)∧(∀ (r:RG),gt r 103=r.b.e.h)∧(∀ (r:RG) (v:AV),st r 104 v=⟨r.a,⟨r.b.a,r.b.b,r.b.c,r.b.d,r.b.e,⟨v,r.b.f.b,r.b.f.c,r.b.f.d,r.b.f.e,r.b.f.f,r.b.f.g,r.b.f.h⟩,r.b.g,r.b.h⟩,r.c,r.d,r.e,r.f,r.g,r.h⟩)∧(∀ (r:RG),gt r 104=r.b.f.a)∧(∀ (r:RG) (v:AV),st r 105 v=⟨r.a,⟨r.b.a,r.b.b,r.b.c,r.b.d,r.b.e,⟨r.b.f.a,v,r.b.f.c,r.b.f.d,r.b.f.e,r.b.f.f,r.b.f.g,r.b.f.h⟩,r.b.g,r.b.h⟩,r.c,r.d,r.e,r.f,r.g,r.h⟩)∧(∀ (r:RG),gt r 105=r.b.f.b)∧(∀ (r:RG) (v:AV),st r 106 v=⟨r.a,⟨r.b.a,r.b.b,r.b.c,r.b.d,r.b.e,⟨r.b.f.a,r.b.f.b,v,r.b.f.d,r.b.f.e,r.b.f.f,r.b.f.g,r.b.f.h⟩,r.b.g,r.b.h⟩,r.c,r.d,r.e,r.f,r.g,r.h⟩)∧(∀ (r:RG),gt r 106=r.b.f.c)∧(∀ (r:RG) (v:AV),st r 107 v=⟨r.a,⟨r.b.a,r.b.b,r.b.c,r.b.d,r.b.e,⟨r.b.f.a,r.b.f.b,r.b.f.c,v,r.b.f.e,r.b.f.f,r.b.f.g,r.b.f.h⟩,r.b.g,r.b.h⟩,r.c,r.d,r.e,r.f,r.g,r.h⟩)∧(∀ (r:RG),gt r 107=r.b.f.d)∧(∀ (r:RG) (v:AV),st r 108 v=⟨r.a,⟨r.b.a,r.b.b,r.b.c,r.b.d,r.b.e,⟨r.b.f.a,r.b.f.b,r.b.f.c,r.b.f.d,v,r.b.f.f,r.b.f.g,r.b.f.h⟩,r.b.g,r.b.h⟩,r.c,r.d,r.e,r.f,r.g,r.h⟩)∧(∀ (r:RG),gt r 108=r.b.f.e)∧(∀ (r:RG) (v:AV),st r 109 v=⟨r.a,⟨r.b.a,r.b.b,r.b.c,r.b.d,r.b.e,⟨r.b.f.a,r.b.f.b,r.b.f.c,r.b.f.d,r.b.f.e,v,r.b.f.g,r.b.f.h⟩,r.b.g,r.b.h⟩,r.c,r.d,r.e,r.f,r.g,r.h⟩)∧(∀ (r:RG),gt r 109=r.b.f.f)∧(∀ (r:RG) (v:AV),st r 110 v=⟨r.a,⟨r.b.a,r.b.b,r.b.c,r.b.d,r.b.e,⟨r.b.f.a,r.b.f.b,r.b.f.c,r.b.f.d,r.b.f.e,r.b.f.f,v,r.b.f.h⟩,r.b.g,r.b.h⟩,r.c,r.d,r.e,r.f,r.g,r.h⟩)∧(∀ (r:RG),gt r 110=r.b.f.g)∧(∀ (r:RG) (v:AV),st r 111 v=⟨r.a,⟨r.b.a,r.b.b,r.b.c,r.b.d,r.b.e,⟨r.b.f.a,r.b.f.b,r.b.f.c,r.b.f.d,r.b.f.e,r.b.f.f,r.b.f.g,v⟩,r.b.g,r.b.h⟩,r.c,r.d,r.e,r.f,r.g,r.h⟩)∧(∀ (r:RG),gt r 111=r.b.f.h)∧(∀ (r:RG) (v:AV),st r 112 v=⟨r.a,⟨r.b.a,r.b.b,r.b.c,r.b.d,r.b.e,r.b.f,⟨v,r.b.g.b,r.b.g.c,r.b.g.d,r.b.g.e,r.b.g.f,r.b.g.g,r.b.g.h⟩,r.b.h⟩,r.c,r.d,r.e,r.f,r.g,r.h⟩)∧(∀ (r:RG),gt r 112=r.b.g.a)∧(∀ (r:RG) (v:AV),st r 113 v=⟨r.a,⟨r.b.a,r.b.b,r.b.c,r.b.d,r.b.e,r.b.f,⟨r.b.g.a,v,r.b.g.c,r.b.g.d,r.b.g.e,r.b.g.f,r.b.g.g,r.b.g.h⟩,r.b.h⟩,r.c,r.d,r.e,r.f,r.g,r.h⟩)∧(∀ (r:RG),gt r 113=r.b.g.b)∧(∀ (r:RG) (v:AV),st r 114 v=⟨r.a,⟨r.b.a,r.b.b,r.b.c,r.b.d,r.b.e,r.b.f,⟨r.b.g.a,r.b.g.b,v,r.b.g.d,r.b.g.e,r.b.g.f,r.b.g.g,r.b.g.h⟩,r.b.h⟩,r.c,r.d,r.e,r.f,r.g,r.h⟩)∧(∀ (r:RG),gt r 114=r.b.g.c)∧(∀ (r:RG) (v:AV),st r 115 v=⟨r.a,⟨r.b.a,r.b.b,r.b.c,r.b.d,r.b.e,r.b.f,⟨r.b.g.a,r.b.g.b,r.b.g.c,v,r.b.g.e,r.b.g.f,r.b.g.g,r.b.g.h⟩,r.b.h⟩,r.c,r.d,r.e,r.f,r.g,r.h⟩)∧(∀ (r:RG),gt r 115=r.b.g.d)∧(∀ (r:RG) (v:AV),st r 116 v=⟨r.a,⟨r.b.a,r.b.b,r.b.c,r.b.d,r.b.e,r.b.f,⟨r.b.g.a,r.b.g.b,r.b.g.c,r.b.g.d,v,r.b.g.f,r.b.g.g,r.b.g.h⟩,r.b.h⟩,r.c,r.d,r.e,r.f,r.g,r.h⟩)∧(∀ (r:RG),gt r 116=r.b.g.e)∧(∀ (r:RG) (v:AV),st r 117 v=⟨r.a,⟨r.b.a,r.b.b,r.b.c,r.b.d,r.b.e,r.b.f,⟨r.b.g.a,r.b.g.b,r.b.g.c,r.b.g.d,r.b.g.e,v,r.b.g.g,r.b.g.h⟩,r.b.h⟩,r.c,r.d,r.e,r.f,r.g,r.h⟩)∧(∀ (r:RG),gt r 117=r.b.g.f)∧(∀ (r:RG) (v:AV),st r 118 v=⟨r.a,⟨r.b.a,r.b.b,r.b.c,r.b.d,r.b.e,r.b.f,⟨r.b.g.a,r.b.g.b,r.b.g.c,r.b.g.d,r.b.g.e,r.b.g.f,v,r.b.g.h⟩,r.b.h⟩,r.c,r.d,r.e,r.f,r.g,r.h⟩)∧(∀ (r:RG),gt r 118=r.b.g.g)∧(∀ (r:RG) (v:AV),st r 119 v=⟨r.a,⟨r.b.a,r.b.b,r.b.c,r.b.d,r.b.e,r.b.f,⟨r.b.g.a,r.b.g.b,r.b.g.c,r.b.g.d,r.b.g.e,r.b.g.f,r.b.g.g,v⟩,r.b.h⟩,r.c,r.d,r.e,r.f,r.g,r.h⟩)∧(∀ (r:RG),gt r 119=r.b.g.h)∧(∀ (r:RG) (v:AV),st r 120 v=⟨r.a,⟨r.b.a,r.b.b,r.b.c,r.b.d,r.b.e,r.b.f,r.b.g,⟨v,r.b.h.b,r.b.h.c,r.b.h.d,r.b.h.e,r.b.h.f,r.b.h.g,r.b.h.h⟩⟩,r.c,r.d,r.e,r.f,r.g,r.h⟩)∧(∀ (r:RG),gt r 120=r.b.h.a)∧(∀ (r:RG) (v:AV),st r 121 v=⟨r.a,⟨r.b.a,r.b.b,r.b.c,r.b.d,r.b.e,r.b.f,r.b.g,⟨r.b.h.a,v,r.b.h.c,r.b.h.d,r.b.h.e,r.b.h.f,r.b.h.g,r.b.h.h⟩⟩,r.c,r.d,r.e,r.f,r.g,r.h⟩)∧(∀ (r:RG),gt r 121=r.b.h.b)∧(∀ (r:RG) (v:AV),st r 122 v=⟨r.a,⟨r.b.a,r.b.b,r.b.c,r.b.d,r.b.e,r.b.f,r.b.g,⟨r.b.h.a,r.b.h.b,v,r.b.h.d,r.b.h.e,r.b.h.f,r.b.h.g,r.b.h.h⟩⟩,r.c,r.d,r.e,r.f,r.g,r.h⟩)∧(∀ (r:RG),gt r 122=r.b.h.c)∧(∀ (r:RG) (v:AV),st r 123 v=⟨r.a,⟨r.b.a,r.b.b,r.b.c,r.b.d,r.b.e,r.b.f,r.b.g,⟨r.b.h.a,r.b.h.b,r.b.h.c,v,r.b.h.e,r.b.h.f,r.b.h.g,r.b.h.h⟩⟩,r.c,r.d,r.e,r.f,r.g,r.h⟩)∧(∀ (r:RG),gt r 123=r.b.h.d)∧(∀ (r:RG) (v:AV),st r 124 v=⟨r.a,⟨r.b.a,r.b.b,r.b.c,r.b.d,r.b.e,r.b.f,r.b.g,⟨r.b.h.a,r.b.h.b,r.b.h.c,r.b.h.d,v,r.b.h.f,r.b.h.g,r.b.h.h⟩⟩,r.c,r.d,r.e,r.f,r.g,r.h⟩)∧(∀ (r:RG),gt r 124=r.b.h.e)∧(∀ (r:RG) (v:AV),st r 125 v=⟨r.a,⟨r.b.a,r.b.b,r.b.c,r.b.d,r.b.e,r.b.f,r.b.g,⟨r.b.h.a,r.b.h.b,r.b.h.c,r.b.h.d,r.b.h.e,v,r.b.h.g,r.b.h.h⟩⟩,r.c,r.d,r.e,r.f,r.g,r.h⟩)∧(∀ (r:RG),gt r 125=r.b.h.f)∧(∀ (r:RG) (v:AV),st r 126 v=⟨r.a,⟨r.b.a,r.b.b,r.b.c,r.b.d,r.b.e,r.b.f,r.b.g,⟨r.b.h.a,r.b.h.b,r.b.h.c,r.b.h.d,r.b.h.e,r.b.h.f,v,r.b.h.h⟩⟩,r.c,r.d,r.e,r.f,r.g,r.h⟩)∧(∀ (r:RG),gt r 126=r.b.h.g)∧(∀ (r:RG) (v:AV),st r 127 v=⟨r.a,⟨r.b.a,r.b.b,r.b.c,r.b.d,r.b.e,r.b.f,r.b.g,⟨r.b.h.a,r.b.h.b,r.b.h.c,r.b.h.d,r.b.h.e,r.b.h.f,r.b.h.g,v⟩⟩,r.c,r.d,r.e,r.f,r.g,r.h⟩)∧(∀ (r:RG),gt r 127=r.b.h.h):=by
 repeat first | apply And.intro | (intros;rfl)
end Go.Abs
