/- words that run the printed code. Part of the proof of girandolelaw08.FlatDoubles. -/
import Derived.Test.YtglacbfdbfhmfaaDoorB2
import Derived.Test.YtglacbfdbfhmfaaDoorB1
set_option linter.unusedVariables false
set_option linter.unusedSimpArgs false
namespace Go.Abs
theorem Rv (r:RG):gt r 2=r.a.a.c:=rfl
theorem RM (r:RG):gt r 3=r.a.a.d:=rfl
theorem RY {α β:Type}(a:α)(k:α→Option β):oB (some a) k=k a:=rfl
theorem bn (b:CZ)(r:RG)(ds:Dfs)(s:St):dZ b (some (.normal,r,ds,s))=b r ds s:=rfl
theorem FK (b:CZ)(i:Nat)(r:RG)(ds:Dfs)(s:St):dZ b (some (.exit i,r,ds,s))=some (.exit i,r,ds,s):=rfl
theorem Gl (b:CZ)(r:RG)(ds:Dfs)(s:St):dZ b (some (.ret,r,ds,s))=some (.ret,r,ds,s):=rfl
theorem lZ (b:CZ)(p:AV)(r:RG)(ds:Dfs)(s:St):dZ b (some (.panic p,r,ds,s))=some (.panic p,r,ds,s):=rfl
theorem yp (a b:IRes):eX (.bool true) a b=a:=rfl
theorem zH (a b:IRes):eX (.bool false) a b=b:=rfl
theorem Ft (i:Nat)(r:RG)(ds:Dfs)(s:St):dD i (some (.normal,r,ds,s))=some (.normal,r,ds,s):=rfl
theorem vB (i:Nat)(r:RG)(ds:Dfs)(s:St):dD i (some (.ret,r,ds,s))=some (.ret,r,ds,s):=rfl
theorem lS (i:Nat)(p:AV)(r:RG)(ds:Dfs)(s:St):dD i (some (.panic p,r,ds,s))=some (.panic p,r,ds,s):=rfl
theorem dS (i:Nat)(r:RG)(ds:Dfs)(s:St):dD i (some (.exit i,r,ds,s))=some (.normal,r,ds,s):=by simp[dD]
theorem Fo (i j:Nat)(r:RG)(ds:Dfs)(s:St)(h:Nat.beq j i=false):dD i (some (.exit j,r,ds,s))=some (.exit j,r,ds,s):=by simp[dD,h]
theorem RS {α:Type}(v:AV)(h:Heap)(e e0:Nat)(k kp:AV→St→Option α):cZ (some (.ret v h e)) e0 k kp=k v { heap:=h,esc:=min e0 e }:=rfl
theorem Qs {α:Type}(v:AV)(h:Heap)(e e0:Nat)(k kp:AV→St→Option α):cZ (some (.panic v h e)) e0 k kp=kp v { heap:=h,esc:=min e0 e }:=rfl
theorem Jp (m n:Int):cJ (.int .i64 m) (.int .i64 n)=some (.bool (decide (m < n))):=by rw[← gA];rfl
theorem Lk (m n:Int):kJ (.int .i64 m) (.int .i64 n)=some (.bool (decide (n < m))):=by rw[← gA];rfl
theorem ML (m n:Int):DT (.int .i64 m) (.int .i64 n)=some (.bool (decide (n≤m))):=by rw[← io,← gA];rfl
theorem Kh (m n:Int):QH (.int .i64 m) (.int .i64 n)=some (.bool (decide (m≤n))):=by rw[← io,← gA];rfl
theorem K9 (m n:Int):dy (.int .i64 m) (.int .i64 n)=some (.bool (decide (m=n))):=by rw[← j8];rfl
theorem LB (m n:Int):iO (.int .i64 m) (.int .i64 n)=some (.bool (!decide (m=n))):=by rw[← j8];rfl
theorem Bq (m n:Int):Rr (.int .u8 m) (.int .u8 n)=some (.bool (decide (m < n))):=by rw[← gA];rfl
theorem D6 (m n:Int):RE (.int .u8 m) (.int .u8 n)=some (.bool (decide (n < m))):=by rw[← gA];rfl
theorem D7 (m n:Int):ur (.int .u8 m) (.int .u8 n)=some (.bool (decide (n≤m))):=by rw[← io,← gA];rfl
theorem FW (m n:Int):zx (.int .u8 m) (.int .u8 n)=some (.bool (decide (m≤n))):=by rw[← io,← gA];rfl
theorem B8 (m n:Int):yr (.int .u8 m) (.int .u8 n)=some (.bool (decide (m=n))):=by rw[← j8];rfl
theorem Cq (m n:Int):FP (.int .u8 m) (.int .u8 n)=some (.bool (!decide (m=n))):=by rw[← j8];rfl
theorem CD (m n:List Nat):ir (.str m) (.str n)=some (.bool (strEq m n)):=rfl
theorem AU (m n:List Nat):KH (.str m) (.str n)=some (.bool (!strEq m n)):=rfl
theorem Fl (m n:Bool):RQ (.bool m) (.bool n)=some (.bool (m == n)):=rfl
theorem AP (m n:Bool):QQ (.bool m) (.bool n)=some (.bool (!(m == n))):=rfl
theorem J0 (m n:Int):bz (.int .i64 m) (.int .i64 n)=some (.int .i64 (cQ m n)):=rfl
theorem Jk (m n:Int):kK (.int .i64 m) (.int .i64 n)=some (.int .i64 (gG m n)):=rfl
theorem Ja (b:Bool):ce .not (.bool b)=some (.bool (!b)):=rfl
theorem Sr {α:Type}(ds:Dfs)(s:St)(k:AV→Dfs→St→Option α)(y:(AV→Dfs→St→Option α)→Option α):gJ (.bool true) true ds s k y=y k:=rfl
theorem Qk {α:Type}(ds:Dfs)(s:St)(k:AV→Dfs→St→Option α)(y:(AV→Dfs→St→Option α)→Option α):gJ (.bool false) true ds s k y=k Abs.undef ds s:=rfl
theorem JB {α:Type}(ds:Dfs)(s:St)(k:AV→Dfs→St→Option α)(y:(AV→Dfs→St→Option α)→Option α):gJ (.bool true) false ds s k y=k Abs.undef ds s:=rfl
theorem My {α:Type}(ds:Dfs)(s:St)(k:AV→Dfs→St→Option α)(y:(AV→Dfs→St→Option α)→Option α):gJ (.bool false) false ds s k y=y k:=rfl
theorem EM (a b:AV):dx (.bool true) a b=some a:=rfl
theorem CR (a b:AV):dx (.bool false) a b=some b:=rfl
theorem E6 (n o:Nat):an (.ptr n o)=some (.ptr n o):=rfl
theorem F6 (l:List AV):an (.iptr l)=some (.iptr l):=rfl
theorem PQ (k n o:Nat):aE k (.ptr n o)=some (.ptr n (Nat.add o k)):=rfl
theorem Qo (a:AV)(l:List AV):aZ (.tuple (a :: l)) 0=some a:=rfl
theorem R3 (a b:AV)(l:List AV):aZ (.tuple (a :: b :: l)) 1=some b:=rfl
theorem P2 (a b c:AV)(l:List AV):aZ (.tuple (a :: b :: c :: l)) 2=some c:=rfl
theorem y0 (cs:List AV)(off:Nat):eK none cs off=af cs off:=rfl
theorem wV {α:Type}(a:α)(l:List α):af (a :: l) 0=some a:=rfl
theorem rp {α:Type}(a b:α)(l:List α):af (a :: b :: l) 1=some b:=rfl
theorem Ge {α:Type}(a b c:α)(l:List α):af (a :: b :: c :: l) 2=some c:=rfl
theorem D3 {α:Type}(a b c d:α)(l:List α):af (a :: b :: c :: d :: l) 3=some d:=rfl
theorem Bs {α:Type}(a b c d e:α)(l:List α):af (a :: b :: c :: d :: e :: l) 4=some e:=rfl
theorem El {α:Type}(a b c d e f:α)(l:List α):af (a :: b :: c :: d :: e :: f :: l) 5=some f:=rfl
theorem D0 {α:Type}(a v:α)(l:List α):ai (a :: l) 0 v=v :: l:=rfl
theorem GD {α:Type}(a b v:α)(l:List α):ai (a :: b :: l) 1 v=a :: v :: l:=rfl
theorem Bw {α:Type}(a b c v:α)(l:List α):ai (a :: b :: c :: l) 2 v=a :: b :: v :: l:=rfl
theorem GN {α:Type}(a b c d v:α)(l:List α):ai (a :: b :: c :: d :: l) 3 v=a :: b :: c :: v :: l:=rfl
theorem EV {α:Type}(a b c d e v:α)(l:List α):ai (a :: b :: c :: d :: e :: l) 4 v=a :: b :: c :: d :: v :: l:=rfl
theorem B3 {α:Type}(a b c d e f v:α)(l:List α):ai (a :: b :: c :: d :: e :: f :: l) 5 v=a :: b :: c :: d :: e :: v :: l:=rfl
theorem uL {α:Type}(h l:List α):aa (h ++ l)=aa h + aa l:=by simp[aj]
theorem uU {α:Type}:aa ([]:List α)=0:=rfl
theorem qk {α:Type}(a:α)(l:List α):aa (a :: l)=aa l + 1:=rfl
theorem ak {α:Type}(l:List α)(n:Nat)(v:α):aa (ai l n v)=aa l:=by simp[aj,aN]
theorem au {α:Type}(h l:List α):af (h ++ l) (aa h)=af l 0:=by rw[aD,aj,aD,List.getElem?_append_right (Nat.le_refl _),Nat.sub_self]
theorem aR {α:Type}(h l:List α)(j:Nat):af (h ++ l) (aa h + j)=af l j:=by rw[aD,aj,aD,List.getElem?_append_right (Nat.le_add_right _ _),Nat.add_sub_cancel_left]
theorem dp {α:Type}(h l:List α)(v:α):ai (h ++ l) (aa h) v=h ++ ai l 0 v:=by simp[aN,aj]
theorem eN {α:Type}(h l:List α)(j:Nat)(v:α):ai (h ++ l) (aa h + j) v=h ++ ai l j v:=by simp[aN,aj]
theorem cb {α:Type}(h l:List α):bB (aa h) (h ++ l)=h:=by simp[dw,aj]
theorem qG {α:Type}(h l:List α)(v:α):nH (h ++ l) v=h ++ (l ++ [v]):=by simp[o8]
theorem bm {α:Type}{l:List α}{n:Nat}{a:α}(h:af l n=some a):n < l.length:=by rw[aD] at h;exact (List.getElem?_eq_some_iff.1 h).1
theorem ar {α:Type}{h:List α}{n:Nat}{o:α}(hn:af h n=some o)(l:List α):af (h ++ l) n=some o:=by
 have:=bm hn;rw[aD] at hn ⊢;rw[List.getElem?_append_left this];exact hn
theorem bR {α:Type}{h:List α}{n:Nat}{o:α}(hn:af h n=some o)(l:List α)(v:α):ai (h ++ l) n v=ai h n v ++ l:=by
 rw[aN,aN,List.set_append_left _ _ (bm hn)]
theorem aK {α:Type}{h:List α}{n:Nat}{o:α}(hn:af h n=some o)(v:α):af (ai h n v) n=some v:=by
 rw[aD,aN];simp[bm hn]
theorem gH (b:Bool):gF (.bool b)=true:=Eq.trans rfl rfl
theorem fQ (k:IntKind)(n:Int):gF (.int k n)=true:=Eq.trans rfl rfl
theorem fJ (s:List Nat):gF (.str s)=true:=Eq.trans rfl rfl
theorem noN_nils:gF .nils=true:=Eq.trans rfl rfl
theorem noN_nilp:gF .nilp=true:=Eq.trans rfl rfl
theorem en (l:List AV):gF (.agg l)=dK l:=Eq.trans rfl rfl
theorem qB (l:List AV):gF (.tuple l)=dK l:=Eq.trans rfl rfl
theorem qp (t:TypeId)(v:AV):gF (.iface t v)=gF v:=Eq.trans rfl rfl
theorem gW (k:Nat)(l:List AV)(n:Lin):gF (.sl k l n)=cond (oV n) (dK l) false:=Eq.trans rfl rfl
theorem linN_dead:oV .dead=true:=Eq.trans rfl rfl
theorem linN_lit:oV .lit=true:=Eq.trans rfl rfl
theorem linN_full:oV .full=true:=Eq.trans rfl rfl
theorem linN_frz:oV .frz=true:=Eq.trans rfl rfl
theorem noNL_nil:dK []=true:=Eq.trans rfl rfl
theorem bJ (v:AV)(l:List AV):dK (v :: l)=cond (gF v) (dK l) false:=Eq.trans rfl rfl
theorem Fb {n off r:Nat}{v:AV}{hp:Heap}{e:Nat}{cs:List AV}(hg:af hp r=some (.cells cs))(hl:aa v.cells=n)(ho:off + n≤aa cs)(hv:v.cells.all AV.one=true)(hnn:gF v=true) :
  ay n (.ptr r off) v ⟨hp,e⟩=some ⟨ai hp r (.cells (cm cs off v.cells)),e⟩:=by
 have h1:eV (aa hp) v=true:=by simp[eV,hnn]
 have h2:i8 v r ⟨hp,e⟩=e:=by simp[i8,eV,hnn]
 have h3:Nat.beq (aa v.cells) n=true:=by rw[hl];exact Nat.beq_refl n
 have h4:Nat.ble (Nat.add off n) (aa cs)=true:=Nat.ble_eq_true_of_le ho;simp only[ay,hg,eF,h1,h2,h3,h4,hv,Bool.and_self,cond_true]
theorem DV {keep:Bool}{base:Nat}{v:AV}{hp:Heap}(h:gF v=true):kf keep base v ⟨hp,base⟩=.ret v (bB base hp) base:=by
 simp[kf,h]
theorem bA (i j:Nat)(h:i + j≤natMax):cQ (i:Int) (j:Int)=((i + j:Nat):Int):=by
 rw[ym];have:=f7 h;simpa using this
theorem bt (a b:CZ)(r:RG)(ds:Dfs)(s:St):ac a b r ds s=dZ b (a r ds s):=rfl
theorem mS (c:X)(a b:CZ)(r:RG)(ds:Dfs)(s:St):aB c a b r ds s=eX (gx ⟨r,[]⟩ c) (a r ds s) (b r ds s):=rfl
theorem wM (i:Nat)(b:CZ)(r:RG)(ds:Dfs)(s:St):aX i b r ds s=dD i (b r ds s):=rfl
theorem y7 (r:RG)(ds:Dfs)(s:St):skipZ r ds s=some (.normal,r,ds,s):=rfl
theorem zu (i:Nat)(r:RG)(ds:Dfs)(s:St):bU i r ds s=some (.exit i,r,ds,s):=rfl
theorem wR (r:RG)(ds:Dfs)(s:St):retZ r ds s=some (.ret,r,ds,s):=rfl
theorem yN (b:CZ)(r:RG)(ds:Dfs)(s:St):bi b r ds s=aw b 100000 r ds s:=rfl
theorem MQ (cs:List AV)(s:St)(k:AV→St→IRes):bV cs s k=k (.ptr (aa s.heap) 0) ⟨nH s.heap (.cells cs),s.esc⟩:=rfl
theorem yU {α:Type}(l:List α)(v:α):nH l v=l ++ [v]:=o8 l v
theorem tn {α:Type}(h l:List α)(a:α):(h ++ l) ++ [a]=h ++ (l ++ [a]):=by simp
theorem vq {α:Type}(a b:α)(l:List α):(a :: l) ++ [b]=a :: (l ++ [b]):=rfl
theorem yj {α:Type}(l:List α):[] ++ l=l:=rfl
theorem yP {α:Type}(l:List α):l ++ []=l:=by simp
theorem dE (a b:Nat):Nat.ble a b=decide (a≤b):=by
 rw[Bool.eq_iff_iff];simp[Nat.ble_eq]
theorem kj (a b:Nat):Nat.beq a b=decide (a=b):=by
 rw[Bool.eq_iff_iff];simp[Nat.beq_eq]
theorem Se (a b:Nat):Nat.add a b=a + b:=rfl
theorem pQ (a:Nat):min a a=a:=Nat.min_self a
theorem Mh (a b:Nat):min a (a + b)=a:=by omega
theorem PV (a:Nat):0 + a=a:=Nat.zero_add a
theorem RB (a:Nat):a + 0=a:=Nat.add_zero a
theorem dect:decide True=true:=rfl
theorem decf:decide False=false:=rfl
theorem Qx (a:Nat):(a≤a)=True:=by simp
theorem RH {α:Type}(a:α):(a=a)=True:=by simp
theorem notT:(!true)=false:=rfl
theorem notF:(!false)=true:=rfl
theorem Q1 (b:Bool):(true && b)=b:=by simp
theorem QA (b:Bool):(false && b)=false:=by simp
theorem KQ (b:Bool):(b && true)=b:=by simp
theorem L0 {α:Type}(a b:α):cond true a b=a:=rfl
theorem Mu {α:Type}(a b:α):cond false a b=b:=rfl
theorem JO (p:AV→Bool):([]:List AV).all p=true:=rfl
theorem Ls (p:AV→Bool)(a:AV)(l:List AV):(a :: l).all p=(p a && l.all p):=rfl
theorem gb (b:Bool):AV.one (.bool b)=true:=rfl
theorem eO (k:IntKind)(n:Int):AV.one (.int k n)=true:=rfl
theorem eL (s:List Nat):AV.one (.str s)=true:=rfl
theorem one_nils:AV.one .nils=true:=rfl
theorem one_nilp:AV.one .nilp=true:=rfl
theorem yn (n o:Nat):AV.one (.ptr n o)=true:=rfl
theorem iU (k:Nat)(l:List AV)(n:Lin):AV.one (.sl k l n)=true:=rfl
theorem pP (l:List AV):AV.cells (.agg l)=l:=rfl
theorem oK (b:Bool):AV.cells (.bool b)=[.bool b]:=rfl
theorem pZ (k:IntKind)(n:Int):AV.cells (.int k n)=[.int k n]:=rfl
theorem qr (s:List Nat):AV.cells (.str s)=[.str s]:=rfl
theorem cells_nils:AV.cells .nils=[.nils]:=rfl
theorem pF (n o:Nat):AV.cells (.ptr n o)=[.ptr n o]:=rfl
theorem uk (k:Nat)(l:List AV)(n:Lin):AV.cells (.sl k l n)=[.sl k l n]:=rfl
theorem Gn (n r off:Nat)(v:AV)(s:St):ay n (.ptr r off) v s=match af s.heap r with
 | some (.cells cs)=>eF n off r v v.cells cs s
 | _=>none:=rfl
theorem Ce (n off r:Nat)(v:AV)(vc cs:List AV)(hp:Heap)(e:Nat)(h:gF v=true):eF n off r v vc cs ⟨hp,e⟩=cond (Nat.beq (aa vc) n && (Nat.ble (Nat.add off n) (aa cs) && vc.all AV.one)) (some ⟨ai hp r (.cells (cm cs off vc)),e⟩) none:=by
 simp[eF,eV,i8,h]
theorem B5 (ag:Option Nat)(n off:Nat)(h:Heap):ax ag (.ptr n off) h=match af h n with
 | some (.cells cs)=>eK ag cs off
 | _=>none:=rfl
theorem L6 (ag:Option Nat)(xs:List AV)(h:Heap):ax ag (.iptr xs) h=eK ag xs 0:=rfl
theorem rB (k:Nat)(cs:List AV)(off:Nat):eK (some k) cs off=cond (Nat.ble (Nat.add off k) (aa cs)) (some (.agg (bB k (fV off cs)))) none:=rfl
theorem sm {α:Type}(l:List α):bB 0 l=[]:=by cases l <;> rfl
theorem rN {α:Type}(a:α)(l:List α):bB 1 (a :: l)=a :: bB 0 l:=rfl
theorem ri {α:Type}(a:α)(l:List α):bB 2 (a :: l)=a :: bB 1 l:=rfl
theorem rF {α:Type}(a:α)(l:List α):bB 3 (a :: l)=a :: bB 2 l:=rfl
theorem ra {α:Type}(a:α)(l:List α):bB 4 (a :: l)=a :: bB 3 l:=rfl
theorem rS {α:Type}(a:α)(l:List α):bB 5 (a :: l)=a :: bB 4 l:=rfl
theorem qW {α:Type}(a:α)(l:List α):bB 6 (a :: l)=a :: bB 5 l:=rfl
theorem sw {α:Type}(a:α)(l:List α):bB 7 (a :: l)=a :: bB 6 l:=rfl
theorem rc {α:Type}(a:α)(l:List α):bB 8 (a :: l)=a :: bB 7 l:=rfl
theorem rZ {α:Type}(l:List α):fV 0 l=l:=by cases l <;> rfl
theorem zE {α:Type}(a:α)(l:List α):fV 1 (a :: l)=fV 0 l:=rfl
theorem y2 {α:Type}(a:α)(l:List α):fV 2 (a :: l)=fV 1 l:=rfl
theorem yy {α:Type}(a:α)(l:List α):fV 3 (a :: l)=fV 2 l:=rfl
theorem yC {α:Type}(a:α)(l:List α):fV 4 (a :: l)=fV 3 l:=rfl
theorem GU (cs:List AV)(o:Nat)(v:AV):cm cs o [v]=ai cs o v:=rfl
theorem xA (cs:List AV)(o:Nat)(a b:AV)(l:List AV):cm cs o (a :: b :: l)=aV cs o (a :: b :: l):=rfl
theorem GI (a0 a1 b0 b1:AV):aV [a0,a1] 0 [b0,b1]=[b0,b1]:=rfl
theorem EH (a0 a1 a2 b0 b1 b2:AV):aV [a0,a1,a2] 0 [b0,b1,b2]=[b0,b1,b2]:=rfl
theorem EK (a0 a1 a2 a3 b0 b1 b2 b3:AV):aV [a0,a1,a2,a3] 0 [b0,b1,b2,b3]=[b0,b1,b2,b3]:=rfl
theorem GY (a0 a1 a2 a3 a4 b0 b1 b2 b3 b4:AV):aV [a0,a1,a2,a3,a4] 0 [b0,b1,b2,b3,b4]=[b0,b1,b2,b3,b4]:=rfl
theorem Et (a0 a1 a2 a3 a4 a5 b0 b1 b2 b3 b4 b5:AV):aV [a0,a1,a2,a3,a4,a5] 0 [b0,b1,b2,b3,b4,b5]=[b0,b1,b2,b3,b4,b5]:=rfl
theorem FE (a0 a1 a2 a3 a4 a5 a6 b0 b1 b2 b3 b4 b5 b6:AV):aV [a0,a1,a2,a3,a4,a5,a6] 0 [b0,b1,b2,b3,b4,b5,b6]=[b0,b1,b2,b3,b4,b5,b6]:=rfl
theorem E1 (a0 a1 a2 a3 a4 a5 a6 a7 b0 b1 b2 b3 b4 b5 b6 b7:AV):aV [a0,a1,a2,a3,a4,a5,a6,a7] 0 [b0,b1,b2,b3,b4,b5,b6,b7]=[b0,b1,b2,b3,b4,b5,b6,b7]:=rfl
theorem EQ (a0 a1 a2 a3 a4 a5 a6 a7 a8 b0 b1 b2 b3 b4 b5 b6 b7 b8:AV):aV [a0,a1,a2,a3,a4,a5,a6,a7,a8] 0 [b0,b1,b2,b3,b4,b5,b6,b7,b8]=[b0,b1,b2,b3,b4,b5,b6,b7,b8]:=rfl
theorem da {sz:Nat}{es:List AV}{lin:Lin}{i:Nat}{v:AV}(h:af es i=some v):bw sz (.sl sz es lin) (.int .i64 (i:Int))=some (.iptr v.cells):=by
 simp[bw,cT,h,kj]
theorem Rn (a:AV):tupleAV [a]=a:=rfl
theorem P8 (a b:AV)(l:List AV):tupleAV (a :: b :: l)=.tuple (a :: b :: l):=rfl
theorem tup0:tupleAV []=Abs.undef:=rfl
theorem iT (e:RG)(h:Heap):fy e h []=some []:=rfl
theorem iE (e:RG)(h:Heap)(n:Nat)(l:List RI):fy e h (.t n :: l)=match fy e h l with
 | some l=>some (gt e n :: l)
 | none=>none:=rfl
theorem rz (e:RG)(h:Heap)(n:Nat)(ag:Option Nat)(l:List RI):fy e h (.cell n ag :: l)=match ax ag (gt e n) h,fy e h l with
 | some a,some l=>some (a :: l)
 | _,_=>none:=rfl
theorem iM (C:Cfg)(f:FuncId)(b:Nat)(z:FZ)(r:RG)(s:St):j0 C f b z (some (.ret,r,[],s))=match fy r s.heap z.res with
 | some l=>some (kf (C.keep f) b (tupleAV l) s)
 | none=>none:=rfl
theorem E7 (C:Cfg)(f:FuncId)(b:Nat)(z:FZ)(r:RG)(s:St):j0 C f b z (some (.normal,r,[],s))=match fy r s.heap z.res with
 | some l=>some (kf (C.keep f) b (tupleAV l) s)
 | none=>none:=rfl
theorem n6 (C:Cfg)(f:FuncId)(b:Nat)(z:FZ)(p:AV)(r:RG)(s:St):j0 C f b z (some (.panic p,r,[],s))=some (PC false b p s):=rfl
theorem Rx {α:Type}(w:Bool)(ds:Dfs)(s:St)(k:AV→Dfs→St→Option α)(y:(AV→Dfs→St→Option α)→Option α):gJ Abs.undef w ds s k y=k Abs.undef ds s:=rfl
theorem LI {α:Type}(s:St)(sl:Nat)(hi:List (Nat × Heap))(rd:List (Nat × (Heap→Option AV) × AV))(k:AV→St→Nat→List (Nat × Heap)→List (Nat × (Heap→Option AV) × AV)→Option α)
 (y:(AV→St→Nat→List (Nat × Heap)→List (Nat × (Heap→Option AV) × AV)→Option α)→Option α):kG (.bool true) true s sl hi rd k y=y k:=rfl
theorem Lf {α:Type}(s:St)(sl:Nat)(hi:List (Nat × Heap))(rd:List (Nat × (Heap→Option AV) × AV))(k:AV→St→Nat→List (Nat × Heap)→List (Nat × (Heap→Option AV) × AV)→Option α)
 (y:(AV→St→Nat→List (Nat × Heap)→List (Nat × (Heap→Option AV) × AV)→Option α)→Option α):kG (.bool false) true s sl hi rd k y=k Abs.undef s sl hi rd:=rfl
theorem uq (b:Nat)(x:Heap→Option AV)(v:AV):gE b x v []=true:=rfl
theorem qf (b:Nat)(h:Heap):eQ b h []=true:=rfl
theorem qn (b j:Nat)(h:Heap)(x:Heap→Option AV)(w:AV)(r:List (Nat × (Heap→Option AV) × AV)):eQ b h ((j,x,w) :: r)=((b.testBit j || aT x w h) && eQ b h r):=rfl
theorem zf (x:Heap→Option AV)(v:AV)(h:Heap):aT x v h=match x h with
 | some w=>w.same v
 | none=>false:=rfl
theorem tE (k:IntKind)(n:Int):AV.same (.int k n) (.int k n)=true:=by simp[AV.same]
theorem uQ (l:List Nat):AV.same (.str l) (.str l)=true:=by simp[AV.same]
theorem pD (b:Bool):AV.same (.bool b) (.bool b)=true:=by simp[AV.same]
theorem same_nils:AV.same .nils .nils=true:=by simp[AV.same]
theorem BZ {α:Type}(x:Option α):eG [] x=x:=rfl
theorem Tm (b:Bool):(b || true)=true:=by simp
theorem Sa (b:Bool):(true || b)=true:=by simp
theorem Tp (b:Bool):(false || b)=b:=by simp
theorem Sk {α:Type}(rec:RecT)(v:AV)(s s' : St)(ds:Dfs)(k:AV→Dfs→St→Option α)(kp:AV→St→Option α):oE rec (some (.val v s')) ds s k kp=k v ds s':=rfl
theorem QK {α:Type}(rec:RecT)(g:FuncId)(args:List AV)(s:St)(ds:Dfs)(k:AV→Dfs→St→Option α)(kp:AV→St→Option α):oE rec (some (.call g args)) ds s k kp=cZ (rec g args s.heap) s.esc (fun v s=>k v ds s) kp:=rfl
theorem QC {α:Type}(rec:RecT)(v:AV)(s:St)(ds:Dfs)(k:AV→Dfs→St→Option α)(kp:AV→St→Option α):oE rec (some (.panic v)) ds s k kp=kp v s:=rfl
theorem yJ (C:Cfg)(f:FuncId)(first capt args:List AV)(s:St):cM C (.func (.func f) first capt) args s=ea C f (first ++ args ++ capt) s:=rfl
theorem zt (v:AV)(s:St):orVal (some (v,s))=some (.val v s):=rfl
theorem R9 {b:Nat}(h:b < 256)(t:List Nat)(s:St):HG (.str t) (.int .u8 (b:Int)) s=some (.val (.int .i64 (indexByte b t 0)) s):=by
 have h1:(0:Int)≤(b:Int)∧(b:Int) < 256:=by omega
 simp only[HG,h1,and_self,if_true,Int.toNat_natCast]
theorem Kc (t:TypeId)(a:AV):ti (.iface t a)=some (.panic (.iface t a)):=rfl
theorem RL (o:AObj)(mk:Nat→AV)(s:St)(k:AV→St→IRes):oA (some (o,mk)) s k=k (mk (aa s.heap)) ⟨nH s.heap o,s.esc⟩:=rfl
theorem yh {α:Type}(h l:List α)(n:Nat)(v:α):af (ai h n v ++ l) (aa h)=af l 0:=by rw[← ak h n v,au]
theorem si {α:Type}(h l:List α)(n j:Nat)(v:α):af (ai h n v ++ l) (aa h + j)=af l j:=by rw[← ak h n v,aR]
theorem xN {α:Type}(h l:List α)(n:Nat)(v w:α):ai (ai h n v ++ l) (aa h) w=ai h n v ++ ai l 0 w:=by rw[← ak h n v,dp]
theorem wH {α:Type}(h l:List α)(n j:Nat)(v w:α):ai (ai h n v ++ l) (aa h + j) w=ai h n v ++ ai l j w:=by rw[← ak h n v,eN]
theorem zo {α:Type}(h l:List α)(n:Nat)(v:α):bB (aa h) (ai h n v ++ l)=ai h n v:=by rw[← ak h n v,cb]
theorem dX {α:Type}(h:List α)(n:Nat)(v w:α):ai (ai h n v) n w=ai h n w:=by simp[aN]
theorem rT {α:Type}(h:List α):bB (aa h) h=h:=by simp[dw,aj]
theorem uG {α:Type}(h:List α)(n:Nat)(v:α):bB (aa h) (ai h n v)=ai h n v:=by rw[← ak h n v,rT]
theorem sk {P:RG→Prop}{Q:RG→RG→Prop}(h:∀ r,P r→∃ r',Q r r'):∃ f:RG→RG,∀ r,P r→Q r (f r):=by
 classical
 exact ⟨fun r=>if hp:P r then (h r hp).choose else r,fun r hp=>by simp only[hp,dite_true];exact (h r hp).choose_spec⟩
theorem Rz (r:RG)(l:List AV)(k:Nat):gx ⟨r,l⟩ (.t k)=gt r k:=rfl
theorem SIM:type_of% (And.intro @Rz (And.intro @RY (And.intro @bn (And.intro @FK (And.intro @Gl (And.intro @lZ (And.intro @yp (And.intro @zH (And.intro @Ft (And.intro @vB (And.intro @lS (And.intro @dS (And.intro @Fo (And.intro @RS (And.intro @Qs (And.intro @Jp (And.intro @Lk (And.intro @ML (And.intro @Kh (And.intro @K9 (And.intro @LB (And.intro @Bq (And.intro @D6 (And.intro @D7 (And.intro @FW (And.intro @B8 (And.intro @Cq (And.intro @CD (And.intro @AU (And.intro @Fl (And.intro @AP (And.intro @J0 (And.intro @Jk (And.intro @Ja (And.intro @Sr (And.intro @Qk (And.intro @JB (And.intro @My (And.intro @EM (And.intro @CR (And.intro @E6 (And.intro @F6 (And.intro @PQ (And.intro @Qo (And.intro @R3 (And.intro @P2 (And.intro @y0 (And.intro @wV (And.intro @rp (And.intro @Ge (And.intro @D3 (And.intro @Bs (And.intro @El (And.intro @D0 (And.intro @GD (And.intro @Bw (And.intro @GN (And.intro @EV (And.intro @B3 (And.intro @uL (And.intro @uU (And.intro @qk (And.intro @ak (And.intro @au (And.intro @aR (And.intro @dp (And.intro @eN (And.intro @cb (And.intro @qG (And.intro @gH (And.intro @fQ (And.intro @fJ (And.intro @noN_nils (And.intro @noN_nilp (And.intro @en (And.intro @qB (And.intro @qp (And.intro @gW (And.intro @linN_dead (And.intro @linN_lit (And.intro @linN_full (And.intro @linN_frz (And.intro @noNL_nil (And.intro @bJ (And.intro @DV (And.intro @bt (And.intro @mS (And.intro @wM (And.intro @y7 (And.intro @zu (And.intro @wR (And.intro @yN (And.intro @MQ (And.intro @yU (And.intro @tn (And.intro @vq (And.intro @yj (And.intro @yP (And.intro @dE (And.intro @kj (And.intro @Se (And.intro @pQ (And.intro @Mh (And.intro @PV (And.intro @RB (And.intro @dect (And.intro @decf (And.intro @Qx (And.intro @RH (And.intro @notT (And.intro @notF (And.intro @Q1 (And.intro @QA (And.intro @KQ (And.intro @L0 (And.intro @Mu (And.intro @JO (And.intro @Ls (And.intro @gb (And.intro @eO (And.intro @eL (And.intro @one_nils (And.intro @one_nilp (And.intro @yn (And.intro @iU (And.intro @pP (And.intro @oK (And.intro @pZ (And.intro @qr (And.intro @cells_nils (And.intro @pF (And.intro @uk (And.intro @Gn (And.intro @Ce (And.intro @B5 (And.intro @L6 (And.intro @rB (And.intro @sm (And.intro @rN (And.intro @ri (And.intro @rF (And.intro @ra (And.intro @rS (And.intro @qW (And.intro @sw (And.intro @rc (And.intro @rZ (And.intro @zE (And.intro @y2 (And.intro @yy (And.intro @yC (And.intro @GU (And.intro @xA (And.intro @GI (And.intro @EH (And.intro @EK (And.intro @GY (And.intro @Et (And.intro @FE (And.intro @E1 (And.intro @EQ (And.intro @Rn (And.intro @P8 (And.intro @tup0 (And.intro @iT (And.intro @iE (And.intro @rz (And.intro @iM (And.intro @E7 (And.intro @n6 (And.intro @Rx (And.intro @LI (And.intro @Lf (And.intro @uq (And.intro @qf (And.intro @qn (And.intro @zf (And.intro @tE (And.intro @uQ (And.intro @pD (And.intro @same_nils (And.intro @BZ (And.intro @Tm (And.intro @Sa (And.intro @Tp (And.intro @Sk (And.intro @QK (And.intro @QC (And.intro @yJ (And.intro @zt (And.intro @Kc (And.intro @RL (And.intro @yh (And.intro @si (And.intro @xN (And.intro @wH (And.intro @zo (And.intro @dX (And.intro @rT @uG))))))))))))))))))))))))))))))))))))))))))))))))))))))))))))))))))))))))))))))))))))))))))))))))))))))))))))))))))))))))))))))))))))))))))))))))))))))))))))))))))))))))))))))))))))))))))))))))))))))):=And.intro @Rz (And.intro @RY (And.intro @bn (And.intro @FK (And.intro @Gl (And.intro @lZ (And.intro @yp (And.intro @zH (And.intro @Ft (And.intro @vB (And.intro @lS (And.intro @dS (And.intro @Fo (And.intro @RS (And.intro @Qs (And.intro @Jp (And.intro @Lk (And.intro @ML (And.intro @Kh (And.intro @K9 (And.intro @LB (And.intro @Bq (And.intro @D6 (And.intro @D7 (And.intro @FW (And.intro @B8 (And.intro @Cq (And.intro @CD (And.intro @AU (And.intro @Fl (And.intro @AP (And.intro @J0 (And.intro @Jk (And.intro @Ja (And.intro @Sr (And.intro @Qk (And.intro @JB (And.intro @My (And.intro @EM (And.intro @CR (And.intro @E6 (And.intro @F6 (And.intro @PQ (And.intro @Qo (And.intro @R3 (And.intro @P2 (And.intro @y0 (And.intro @wV (And.intro @rp (And.intro @Ge (And.intro @D3 (And.intro @Bs (And.intro @El (And.intro @D0 (And.intro @GD (And.intro @Bw (And.intro @GN (And.intro @EV (And.intro @B3 (And.intro @uL (And.intro @uU (And.intro @qk (And.intro @ak (And.intro @au (And.intro @aR (And.intro @dp (And.intro @eN (And.intro @cb (And.intro @qG (And.intro @gH (And.intro @fQ (And.intro @fJ (And.intro @noN_nils (And.intro @noN_nilp (And.intro @en (And.intro @qB (And.intro @qp (And.intro @gW (And.intro @linN_dead (And.intro @linN_lit (And.intro @linN_full (And.intro @linN_frz (And.intro @noNL_nil (And.intro @bJ (And.intro @DV (And.intro @bt (And.intro @mS (And.intro @wM (And.intro @y7 (And.intro @zu (And.intro @wR (And.intro @yN (And.intro @MQ (And.intro @yU (And.intro @tn (And.intro @vq (And.intro @yj (And.intro @yP (And.intro @dE (And.intro @kj (And.intro @Se (And.intro @pQ (And.intro @Mh (And.intro @PV (And.intro @RB (And.intro @dect (And.intro @decf (And.intro @Qx (And.intro @RH (And.intro @notT (And.intro @notF (And.intro @Q1 (And.intro @QA (And.intro @KQ (And.intro @L0 (And.intro @Mu (And.intro @JO (And.intro @Ls (And.intro @gb (And.intro @eO (And.intro @eL (And.intro @one_nils (And.intro @one_nilp (And.intro @yn (And.intro @iU (And.intro @pP (And.intro @oK (And.intro @pZ (And.intro @qr (And.intro @cells_nils (And.intro @pF (And.intro @uk (And.intro @Gn (And.intro @Ce (And.intro @B5 (And.intro @L6 (And.intro @rB (And.intro @sm (And.intro @rN (And.intro @ri (And.intro @rF (And.intro @ra (And.intro @rS (And.intro @qW (And.intro @sw (And.intro @rc (And.intro @rZ (And.intro @zE (And.intro @y2 (And.intro @yy (And.intro @yC (And.intro @GU (And.intro @xA (And.intro @GI (And.intro @EH (And.intro @EK (And.intro @GY (And.intro @Et (And.intro @FE (And.intro @E1 (And.intro @EQ (And.intro @Rn (And.intro @P8 (And.intro @tup0 (And.intro @iT (And.intro @iE (And.intro @rz (And.intro @iM (And.intro @E7 (And.intro @n6 (And.intro @Rx (And.intro @LI (And.intro @Lf (And.intro @uq (And.intro @qf (And.intro @qn (And.intro @zf (And.intro @tE (And.intro @uQ (And.intro @pD (And.intro @same_nils (And.intro @BZ (And.intro @Tm (And.intro @Sa (And.intro @Tp (And.intro @Sk (And.intro @QK (And.intro @QC (And.intro @yJ (And.intro @zt (And.intro @Kc (And.intro @RL (And.intro @yh (And.intro @si (And.intro @xN (And.intro @wH (And.intro @zo (And.intro @dX (And.intro @rT @uG))))))))))))))))))))))))))))))))))))))))))))))))))))))))))))))))))))))))))))))))))))))))))))))))))))))))))))))))))))))))))))))))))))))))))))))))))))))))))))))))))))))))))))))))))))))))))))))))))))))
theorem ST0:(∀ (r:RG) (v:AV),st r 0 v=⟨⟨⟨v,r.a.a.b,r.a.a.c,r.a.a.d,r.a.a.e,r.a.a.f,r.a.a.g,r.a.a.h⟩,r.a.b,r.a.c,r.a.d,r.a.e,r.a.f,r.a.g,r.a.h⟩,r.b,r.c,r.d,r.e,r.f,r.g,r.h⟩)∧(∀ (r:RG),gt r 0=r.a.a.a)∧(∀ (r:RG) (v:AV),st r 1 v=⟨⟨⟨r.a.a.a,v,r.a.a.c,r.a.a.d,r.a.a.e,r.a.a.f,r.a.a.g,r.a.a.h⟩,r.a.b,r.a.c,r.a.d,r.a.e,r.a.f,r.a.g,r.a.h⟩,r.b,r.c,r.d,r.e,r.f,r.g,r.h⟩)∧(∀ (r:RG),gt r 1=r.a.a.b)∧(∀ (r:RG) (v:AV),st r 2 v=⟨⟨⟨r.a.a.a,r.a.a.b,v,r.a.a.d,r.a.a.e,r.a.a.f,r.a.a.g,r.a.a.h⟩,r.a.b,r.a.c,r.a.d,r.a.e,r.a.f,r.a.g,r.a.h⟩,r.b,r.c,r.d,r.e,r.f,r.g,r.h⟩)∧(∀ (r:RG),gt r 2=r.a.a.c)∧(∀ (r:RG) (v:AV),st r 3 v=⟨⟨⟨r.a.a.a,r.a.a.b,r.a.a.c,v,r.a.a.e,r.a.a.f,r.a.a.g,r.a.a.h⟩,r.a.b,r.a.c,r.a.d,r.a.e,r.a.f,r.a.g,r.a.h⟩,r.b,r.c,r.d,r.e,r.f,r.g,r.h⟩)∧(∀ (r:RG),gt r 3=r.a.a.d)∧(∀ (r:RG) (v:AV),st r 4 v=⟨⟨⟨r.a.a.a,r.a.a.b,r.a.a.c,r.a.a.d,v,r.a.a.f,r.a.a.g,r.a.a.h⟩,r.a.b,r.a.c,r.a.d,r.a.e,r.a.f,r.a.g,r.a.h⟩,r.b,r.c,r.d,r.e,r.f,r.g,r.h⟩)∧(∀ (r:RG),gt r 4=r.a.a.e)∧(∀ (r:RG) (v:AV),st r 5 v=⟨⟨⟨r.a.a.a,r.a.a.b,r.a.a.c,r.a.a.d,r.a.a.e,v,r.a.a.g,r.a.a.h⟩,r.a.b,r.a.c,r.a.d,r.a.e,r.a.f,r.a.g,r.a.h⟩,r.b,r.c,r.d,r.e,r.f,r.g,r.h⟩)∧(∀ (r:RG),gt r 5=r.a.a.f)∧(∀ (r:RG) (v:AV),st r 6 v=⟨⟨⟨r.a.a.a,r.a.a.b,r.a.a.c,r.a.a.d,r.a.a.e,r.a.a.f,v,r.a.a.h⟩,r.a.b,r.a.c,r.a.d,r.a.e,r.a.f,r.a.g,r.a.h⟩,r.b,r.c,r.d,r.e,r.f,r.g,r.h⟩)∧(∀ (r:RG),gt r 6=r.a.a.g)∧(∀ (r:RG) (v:AV),st r 7 v=⟨⟨⟨r.a.a.a,r.a.a.b,r.a.a.c,r.a.a.d,r.a.a.e,r.a.a.f,r.a.a.g,v⟩,r.a.b,r.a.c,r.a.d,r.a.e,r.a.f,r.a.g,r.a.h⟩,r.b,r.c,r.d,r.e,r.f,r.g,r.h⟩)∧(∀ (r:RG),gt r 7=r.a.a.h)∧(∀ (r:RG) (v:AV),st r 8 v=⟨⟨r.a.a,⟨v,r.a.b.b,r.a.b.c,r.a.b.d,r.a.b.e,r.a.b.f,r.a.b.g,r.a.b.h⟩,r.a.c,r.a.d,r.a.e,r.a.f,r.a.g,r.a.h⟩,r.b,r.c,r.d,r.e,r.f,r.g,r.h⟩)∧(∀ (r:RG),gt r 8=r.a.b.a)∧(∀ (r:RG) (v:AV),st r 9 v=⟨⟨r.a.a,⟨r.a.b.a,v,r.a.b.c,r.a.b.d,r.a.b.e,r.a.b.f,r.a.b.g,r.a.b.h⟩,r.a.c,r.a.d,r.a.e,r.a.f,r.a.g,r.a.h⟩,r.b,r.c,r.d,r.e,r.f,r.g,r.h⟩)∧(∀ (r:RG),gt r 9=r.a.b.b)∧(∀ (r:RG) (v:AV),st r 10 v=⟨⟨r.a.a,⟨r.a.b.a,r.a.b.b,v,r.a.b.d,r.a.b.e,r.a.b.f,r.a.b.g,r.a.b.h⟩,r.a.c,r.a.d,r.a.e,r.a.f,r.a.g,r.a.h⟩,r.b,r.c,r.d,r.e,r.f,r.g,r.h⟩)∧(∀ (r:RG),gt r 10=r.a.b.c)∧(∀ (r:RG) (v:AV),st r 11 v=⟨⟨r.a.a,⟨r.a.b.a,r.a.b.b,r.a.b.c,v,r.a.b.e,r.a.b.f,r.a.b.g,r.a.b.h⟩,r.a.c,r.a.d,r.a.e,r.a.f,r.a.g,r.a.h⟩,r.b,r.c,r.d,r.e,r.f,r.g,r.h⟩)∧(∀ (r:RG),gt r 11=r.a.b.d)∧(∀ (r:RG) (v:AV),st r 12 v=⟨⟨r.a.a,⟨r.a.b.a,r.a.b.b,r.a.b.c,r.a.b.d,v,r.a.b.f,r.a.b.g,r.a.b.h⟩,r.a.c,r.a.d,r.a.e,r.a.f,r.a.g,r.a.h⟩,r.b,r.c,r.d,r.e,r.f,r.g,r.h⟩)∧(∀ (r:RG),gt r 12=r.a.b.e)∧(∀ (r:RG) (v:AV),st r 13 v=⟨⟨r.a.a,⟨r.a.b.a,r.a.b.b,r.a.b.c,r.a.b.d,r.a.b.e,v,r.a.b.g,r.a.b.h⟩,r.a.c,r.a.d,r.a.e,r.a.f,r.a.g,r.a.h⟩,r.b,r.c,r.d,r.e,r.f,r.g,r.h⟩)∧(∀ (r:RG),gt r 13=r.a.b.f)∧(∀ (r:RG) (v:AV),st r 14 v=⟨⟨r.a.a,⟨r.a.b.a,r.a.b.b,r.a.b.c,r.a.b.d,r.a.b.e,r.a.b.f,v,r.a.b.h⟩,r.a.c,r.a.d,r.a.e,r.a.f,r.a.g,r.a.h⟩,r.b,r.c,r.d,r.e,r.f,r.g,r.h⟩)∧(∀ (r:RG),gt r 14=r.a.b.g)∧(∀ (r:RG) (v:AV),st r 15 v=⟨⟨r.a.a,⟨r.a.b.a,r.a.b.b,r.a.b.c,r.a.b.d,r.a.b.e,r.a.b.f,r.a.b.g,v⟩,r.a.c,r.a.d,r.a.e,r.a.f,r.a.g,r.a.h⟩,r.b,r.c,r.d,r.e,r.f,r.g,r.h⟩)∧(∀ (r:RG),gt r 15=r.a.b.h)∧(∀ (r:RG) (v:AV),st r 16 v=⟨⟨r.a.a,r.a.b,⟨v,r.a.c.b,r.a.c.c,r.a.c.d,r.a.c.e,r.a.c.f,r.a.c.g,r.a.c.h⟩,r.a.d,r.a.e,r.a.f,r.a.g,r.a.h⟩,r.b,r.c,r.d,r.e,r.f,r.g,r.h⟩)∧(∀ (r:RG),gt r 16=r.a.c.a)∧(∀ (r:RG) (v:AV),st r 17 v=⟨⟨r.a.a,r.a.b,⟨r.a.c.a,v,r.a.c.c,r.a.c.d,r.a.c.e,r.a.c.f,r.a.c.g,r.a.c.h⟩,r.a.d,r.a.e,r.a.f,r.a.g,r.a.h⟩,r.b,r.c,r.d,r.e,r.f,r.g,r.h⟩)∧(∀ (r:RG),gt r 17=r.a.c.b)∧(∀ (r:RG) (v:AV),st r 18 v=⟨⟨r.a.a,r.a.b,⟨r.a.c.a,r.a.c.b,v,r.a.c.d,r.a.c.e,r.a.c.f,r.a.c.g,r.a.c.h⟩,r.a.d,r.a.e,r.a.f,r.a.g,r.a.h⟩,r.b,r.c,r.d,r.e,r.f,r.g,r.h⟩)∧(∀ (r:RG),gt r 18=r.a.c.c)∧(∀ (r:RG) (v:AV),st r 19 v=⟨⟨r.a.a,r.a.b,⟨r.a.c.a,r.a.c.b,r.a.c.c,v,r.a.c.e,r.a.c.f,r.a.c.g,r.a.c.h⟩,r.a.d,r.a.e,r.a.f,r.a.g,r.a.h⟩,r.b,r.c,r.d,r.e,r.f,r.g,r.h⟩)∧(∀ (r:RG),gt r 19=r.a.c.d)∧(∀ (r:RG) (v:AV),st r 20 v=⟨⟨r.a.a,r.a.b,⟨r.a.c.a,r.a.c.b,r.a.c.c,r.a.c.d,v,r.a.c.f,r.a.c.g,r.a.c.h⟩,r.a.d,r.a.e,r.a.f,r.a.g,r.a.h⟩,r.b,r.c,r.d,r.e,r.f,r.g,r.h⟩)∧(∀ (r:RG),gt r 20=r.a.c.e)∧(∀ (r:RG) (v:AV),st r 21 v=⟨⟨r.a.a,r.a.b,⟨r.a.c.a,r.a.c.b,r.a.c.c,r.a.c.d,r.a.c.e,v,r.a.c.g,r.a.c.h⟩,r.a.d,r.a.e,r.a.f,r.a.g,r.a.h⟩,r.b,r.c,r.d,r.e,r.f,r.g,r.h⟩)∧(∀ (r:RG),gt r 21=r.a.c.f)∧(∀ (r:RG) (v:AV),st r 22 v=⟨⟨r.a.a,r.a.b,⟨r.a.c.a,r.a.c.b,r.a.c.c,r.a.c.d,r.a.c.e,r.a.c.f,v,r.a.c.h⟩,r.a.d,r.a.e,r.a.f,r.a.g,r.a.h⟩,r.b,r.c,r.d,r.e,r.f,r.g,r.h⟩)∧(∀ (r:RG),gt r 22=r.a.c.g)∧(∀ (r:RG) (v:AV),st r 23 v=⟨⟨r.a.a,r.a.b,⟨r.a.c.a,r.a.c.b,r.a.c.c,r.a.c.d,r.a.c.e,r.a.c.f,r.a.c.g,v⟩,r.a.d,r.a.e,r.a.f,r.a.g,r.a.h⟩,r.b,r.c,r.d,r.e,r.f,r.g,r.h⟩)∧(∀ (r:RG),gt r 23=r.a.c.h)∧(∀ (r:RG) (v:AV),st r 24 v=⟨⟨r.a.a,r.a.b,r.a.c,⟨v,r.a.d.b,r.a.d.c,r.a.d.d,r.a.d.e,r.a.d.f,r.a.d.g,r.a.d.h⟩,r.a.e,r.a.f,r.a.g,r.a.h⟩,r.b,r.c,r.d,r.e,r.f,r.g,r.h⟩)∧(∀ (r:RG),gt r 24=r.a.d.a)∧(∀ (r:RG) (v:AV),st r 25 v=⟨⟨r.a.a,r.a.b,r.a.c,⟨r.a.d.a,v,r.a.d.c,r.a.d.d,r.a.d.e,r.a.d.f,r.a.d.g,r.a.d.h⟩,r.a.e,r.a.f,r.a.g,r.a.h⟩,r.b,r.c,r.d,r.e,r.f,r.g,r.h⟩)∧(∀ (r:RG),gt r 25=r.a.d.b)∧(∀ (r:RG) (v:AV),st r 26 v=⟨⟨r.a.a,r.a.b,r.a.c,⟨r.a.d.a,r.a.d.b,v,r.a.d.d,r.a.d.e,r.a.d.f,r.a.d.g,r.a.d.h⟩,r.a.e,r.a.f,r.a.g,r.a.h⟩,r.b,r.c,r.d,r.e,r.f,r.g,r.h⟩)∧(∀ (r:RG),gt r 26=r.a.d.c)∧(∀ (r:RG) (v:AV),st r 27 v=⟨⟨r.a.a,r.a.b,r.a.c,⟨r.a.d.a,r.a.d.b,r.a.d.c,v,r.a.d.e,r.a.d.f,r.a.d.g,r.a.d.h⟩,r.a.e,r.a.f,r.a.g,r.a.h⟩,r.b,r.c,r.d,r.e,r.f,r.g,r.h⟩)∧(∀ (r:RG),gt r 27=r.a.d.d)∧(∀ (r:RG) (v:AV),st r 28 v=⟨⟨r.a.a,r.a.b,r.a.c,⟨r.a.d.a,r.a.d.b,r.a.d.c,r.a.d.d,v,r.a.d.f,r.a.d.g,r.a.d.h⟩,r.a.e,r.a.f,r.a.g,r.a.h⟩,r.b,r.c,r.d,r.e,r.f,r.g,r.h⟩)∧(∀ (r:RG),gt r 28=r.a.d.e)∧(∀ (r:RG) (v:AV),st r 29 v=⟨⟨r.a.a,r.a.b,r.a.c,⟨r.a.d.a,r.a.d.b,r.a.d.c,r.a.d.d,r.a.d.e,v,r.a.d.g,r.a.d.h⟩,r.a.e,r.a.f,r.a.g,r.a.h⟩,r.b,r.c,r.d,r.e,r.f,r.g,r.h⟩)∧(∀ (r:RG),gt r 29=r.a.d.f)∧(∀ (r:RG) (v:AV),st r 30 v=⟨⟨r.a.a,r.a.b,r.a.c,⟨r.a.d.a,r.a.d.b,r.a.d.c,r.a.d.d,r.a.d.e,r.a.d.f,v,r.a.d.h⟩,r.a.e,r.a.f,r.a.g,r.a.h⟩,r.b,r.c,r.d,r.e,r.f,r.g,r.h⟩)∧(∀ (r:RG),gt r 30=r.a.d.g)∧(∀ (r:RG) (v:AV),st r 31 v=⟨⟨r.a.a,r.a.b,r.a.c,⟨r.a.d.a,r.a.d.b,r.a.d.c,r.a.d.d,r.a.d.e,r.a.d.f,r.a.d.g,v⟩,r.a.e,r.a.f,r.a.g,r.a.h⟩,r.b,r.c,r.d,r.e,r.f,r.g,r.h⟩)∧(∀ (r:RG),gt r 31=r.a.d.h):=by
 repeat first | apply And.intro | (intros;rfl)
theorem ST1:(∀ (r:RG) (v:AV),st r 32 v=⟨⟨r.a.a,r.a.b,r.a.c,r.a.d,⟨v,r.a.e.b,r.a.e.c,r.a.e.d,r.a.e.e,r.a.e.f,r.a.e.g,r.a.e.h⟩,r.a.f,r.a.g,r.a.h⟩,r.b,r.c,r.d,r.e,r.f,r.g,r.h⟩)∧(∀ (r:RG),gt r 32=r.a.e.a)∧(∀ (r:RG) (v:AV),st r 33 v=⟨⟨r.a.a,r.a.b,r.a.c,r.a.d,⟨r.a.e.a,v,r.a.e.c,r.a.e.d,r.a.e.e,r.a.e.f,r.a.e.g,r.a.e.h⟩,r.a.f,r.a.g,r.a.h⟩,r.b,r.c,r.d,r.e,r.f,r.g,r.h⟩)∧(∀ (r:RG),gt r 33=r.a.e.b)∧(∀ (r:RG) (v:AV),st r 34 v=⟨⟨r.a.a,r.a.b,r.a.c,r.a.d,⟨r.a.e.a,r.a.e.b,v,r.a.e.d,r.a.e.e,r.a.e.f,r.a.e.g,r.a.e.h⟩,r.a.f,r.a.g,r.a.h⟩,r.b,r.c,r.d,r.e,r.f,r.g,r.h⟩)∧(∀ (r:RG),gt r 34=r.a.e.c)∧(∀ (r:RG) (v:AV),st r 35 v=⟨⟨r.a.a,r.a.b,r.a.c,r.a.d,⟨r.a.e.a,r.a.e.b,r.a.e.c,v,r.a.e.e,r.a.e.f,r.a.e.g,r.a.e.h⟩,r.a.f,r.a.g,r.a.h⟩,r.b,r.c,r.d,r.e,r.f,r.g,r.h⟩)∧(∀ (r:RG),gt r 35=r.a.e.d)∧(∀ (r:RG) (v:AV),st r 36 v=⟨⟨r.a.a,r.a.b,r.a.c,r.a.d,⟨r.a.e.a,r.a.e.b,r.a.e.c,r.a.e.d,v,r.a.e.f,r.a.e.g,r.a.e.h⟩,r.a.f,r.a.g,r.a.h⟩,r.b,r.c,r.d,r.e,r.f,r.g,r.h⟩)∧(∀ (r:RG),gt r 36=r.a.e.e)∧(∀ (r:RG) (v:AV),st r 37 v=⟨⟨r.a.a,r.a.b,r.a.c,r.a.d,⟨r.a.e.a,r.a.e.b,r.a.e.c,r.a.e.d,r.a.e.e,v,r.a.e.g,r.a.e.h⟩,r.a.f,r.a.g,r.a.h⟩,r.b,r.c,r.d,r.e,r.f,r.g,r.h⟩)∧(∀ (r:RG),gt r 37=r.a.e.f)∧(∀ (r:RG) (v:AV),st r 38 v=⟨⟨r.a.a,r.a.b,r.a.c,r.a.d,⟨r.a.e.a,r.a.e.b,r.a.e.c,r.a.e.d,r.a.e.e,r.a.e.f,v,r.a.e.h⟩,r.a.f,r.a.g,r.a.h⟩,r.b,r.c,r.d,r.e,r.f,r.g,r.h⟩)∧(∀ (r:RG),gt r 38=r.a.e.g)∧(∀ (r:RG) (v:AV),st r 39 v=⟨⟨r.a.a,r.a.b,r.a.c,r.a.d,⟨r.a.e.a,r.a.e.b,r.a.e.c,r.a.e.d,r.a.e.e,r.a.e.f,r.a.e.g,v⟩,r.a.f,r.a.g,r.a.h⟩,r.b,r.c,r.d,r.e,r.f,r.g,r.h⟩)∧(∀ (r:RG),gt r 39=r.a.e.h)∧(∀ (r:RG) (v:AV),st r 40 v=⟨⟨r.a.a,r.a.b,r.a.c,r.a.d,r.a.e,⟨v,r.a.f.b,r.a.f.c,r.a.f.d,r.a.f.e,r.a.f.f,r.a.f.g,r.a.f.h⟩,r.a.g,r.a.h⟩,r.b,r.c,r.d,r.e,r.f,r.g,r.h⟩)∧(∀ (r:RG),gt r 40=r.a.f.a)∧(∀ (r:RG) (v:AV),st r 41 v=⟨⟨r.a.a,r.a.b,r.a.c,r.a.d,r.a.e,⟨r.a.f.a,v,r.a.f.c,r.a.f.d,r.a.f.e,r.a.f.f,r.a.f.g,r.a.f.h⟩,r.a.g,r.a.h⟩,r.b,r.c,r.d,r.e,r.f,r.g,r.h⟩)∧(∀ (r:RG),gt r 41=r.a.f.b)∧(∀ (r:RG) (v:AV),st r 42 v=⟨⟨r.a.a,r.a.b,r.a.c,r.a.d,r.a.e,⟨r.a.f.a,r.a.f.b,v,r.a.f.d,r.a.f.e,r.a.f.f,r.a.f.g,r.a.f.h⟩,r.a.g,r.a.h⟩,r.b,r.c,r.d,r.e,r.f,r.g,r.h⟩)∧(∀ (r:RG),gt r 42=r.a.f.c)∧(∀ (r:RG) (v:AV),st r 43 v=⟨⟨r.a.a,r.a.b,r.a.c,r.a.d,r.a.e,⟨r.a.f.a,r.a.f.b,r.a.f.c,v,r.a.f.e,r.a.f.f,r.a.f.g,r.a.f.h⟩,r.a.g,r.a.h⟩,r.b,r.c,r.d,r.e,r.f,r.g,r.h⟩)∧(∀ (r:RG),gt r 43=r.a.f.d)∧(∀ (r:RG) (v:AV),st r 44 v=⟨⟨r.a.a,r.a.b,r.a.c,r.a.d,r.a.e,⟨r.a.f.a,r.a.f.b,r.a.f.c,r.a.f.d,v,r.a.f.f,r.a.f.g,r.a.f.h⟩,r.a.g,r.a.h⟩,r.b,r.c,r.d,r.e,r.f,r.g,r.h⟩)∧(∀ (r:RG),gt r 44=r.a.f.e)∧(∀ (r:RG) (v:AV),st r 45 v=⟨⟨r.a.a,r.a.b,r.a.c,r.a.d,r.a.e,⟨r.a.f.a,r.a.f.b,r.a.f.c,r.a.f.d,r.a.f.e,v,r.a.f.g,r.a.f.h⟩,r.a.g,r.a.h⟩,r.b,r.c,r.d,r.e,r.f,r.g,r.h⟩)∧(∀ (r:RG),gt r 45=r.a.f.f)∧(∀ (r:RG) (v:AV),st r 46 v=⟨⟨r.a.a,r.a.b,r.a.c,r.a.d,r.a.e,⟨r.a.f.a,r.a.f.b,r.a.f.c,r.a.f.d,r.a.f.e,r.a.f.f,v,r.a.f.h⟩,r.a.g,r.a.h⟩,r.b,r.c,r.d,r.e,r.f,r.g,r.h⟩)∧(∀ (r:RG),gt r 46=r.a.f.g)∧(∀ (r:RG) (v:AV),st r 47 v=⟨⟨r.a.a,r.a.b,r.a.c,r.a.d,r.a.e,⟨r.a.f.a,r.a.f.b,r.a.f.c,r.a.f.d,r.a.f.e,r.a.f.f,r.a.f.g,v⟩,r.a.g,r.a.h⟩,r.b,r.c,r.d,r.e,r.f,r.g,r.h⟩)∧(∀ (r:RG),gt r 47=r.a.f.h)∧(∀ (r:RG) (v:AV),st r 48 v=⟨⟨r.a.a,r.a.b,r.a.c,r.a.d,r.a.e,r.a.f,⟨v,r.a.g.b,r.a.g.c,r.a.g.d,r.a.g.e,r.a.g.f,r.a.g.g,r.a.g.h⟩,r.a.h⟩,r.b,r.c,r.d,r.e,r.f,r.g,r.h⟩)∧(∀ (r:RG),gt r 48=r.a.g.a)∧(∀ (r:RG) (v:AV),st r 49 v=⟨⟨r.a.a,r.a.b,r.a.c,r.a.d,r.a.e,r.a.f,⟨r.a.g.a,v,r.a.g.c,r.a.g.d,r.a.g.e,r.a.g.f,r.a.g.g,r.a.g.h⟩,r.a.h⟩,r.b,r.c,r.d,r.e,r.f,r.g,r.h⟩)∧(∀ (r:RG),gt r 49=r.a.g.b)∧(∀ (r:RG) (v:AV),st r 50 v=⟨⟨r.a.a,r.a.b,r.a.c,r.a.d,r.a.e,r.a.f,⟨r.a.g.a,r.a.g.b,v,r.a.g.d,r.a.g.e,r.a.g.f,r.a.g.g,r.a.g.h⟩,r.a.h⟩,r.b,r.c,r.d,r.e,r.f,r.g,r.h⟩)∧(∀ (r:RG),gt r 50=r.a.g.c)∧(∀ (r:RG) (v:AV),st r 51 v=⟨⟨r.a.a,r.a.b,r.a.c,r.a.d,r.a.e,r.a.f,⟨r.a.g.a,r.a.g.b,r.a.g.c,v,r.a.g.e,r.a.g.f,r.a.g.g,r.a.g.h⟩,r.a.h⟩,r.b,r.c,r.d,r.e,r.f,r.g,r.h⟩)∧(∀ (r:RG),gt r 51=r.a.g.d)∧(∀ (r:RG) (v:AV),st r 52 v=⟨⟨r.a.a,r.a.b,r.a.c,r.a.d,r.a.e,r.a.f,⟨r.a.g.a,r.a.g.b,r.a.g.c,r.a.g.d,v,r.a.g.f,r.a.g.g,r.a.g.h⟩,r.a.h⟩,r.b,r.c,r.d,r.e,r.f,r.g,r.h⟩)∧(∀ (r:RG),gt r 52=r.a.g.e)∧(∀ (r:RG) (v:AV),st r 53 v=⟨⟨r.a.a,r.a.b,r.a.c,r.a.d,r.a.e,r.a.f,⟨r.a.g.a,r.a.g.b,r.a.g.c,r.a.g.d,r.a.g.e,v,r.a.g.g,r.a.g.h⟩,r.a.h⟩,r.b,r.c,r.d,r.e,r.f,r.g,r.h⟩)∧(∀ (r:RG),gt r 53=r.a.g.f)∧(∀ (r:RG) (v:AV),st r 54 v=⟨⟨r.a.a,r.a.b,r.a.c,r.a.d,r.a.e,r.a.f,⟨r.a.g.a,r.a.g.b,r.a.g.c,r.a.g.d,r.a.g.e,r.a.g.f,v,r.a.g.h⟩,r.a.h⟩,r.b,r.c,r.d,r.e,r.f,r.g,r.h⟩)∧(∀ (r:RG),gt r 54=r.a.g.g)∧(∀ (r:RG) (v:AV),st r 55 v=⟨⟨r.a.a,r.a.b,r.a.c,r.a.d,r.a.e,r.a.f,⟨r.a.g.a,r.a.g.b,r.a.g.c,r.a.g.d,r.a.g.e,r.a.g.f,r.a.g.g,v⟩,r.a.h⟩,r.b,r.c,r.d,r.e,r.f,r.g,r.h⟩)∧(∀ (r:RG),gt r 55=r.a.g.h)∧(∀ (r:RG) (v:AV),st r 56 v=⟨⟨r.a.a,r.a.b,r.a.c,r.a.d,r.a.e,r.a.f,r.a.g,⟨v,r.a.h.b,r.a.h.c,r.a.h.d,r.a.h.e,r.a.h.f,r.a.h.g,r.a.h.h⟩⟩,r.b,r.c,r.d,r.e,r.f,r.g,r.h⟩)∧(∀ (r:RG),gt r 56=r.a.h.a)∧(∀ (r:RG) (v:AV),st r 57 v=⟨⟨r.a.a,r.a.b,r.a.c,r.a.d,r.a.e,r.a.f,r.a.g,⟨r.a.h.a,v,r.a.h.c,r.a.h.d,r.a.h.e,r.a.h.f,r.a.h.g,r.a.h.h⟩⟩,r.b,r.c,r.d,r.e,r.f,r.g,r.h⟩)∧(∀ (r:RG),gt r 57=r.a.h.b)∧(∀ (r:RG) (v:AV),st r 58 v=⟨⟨r.a.a,r.a.b,r.a.c,r.a.d,r.a.e,r.a.f,r.a.g,⟨r.a.h.a,r.a.h.b,v,r.a.h.d,r.a.h.e,r.a.h.f,r.a.h.g,r.a.h.h⟩⟩,r.b,r.c,r.d,r.e,r.f,r.g,r.h⟩)∧(∀ (r:RG),gt r 58=r.a.h.c)∧(∀ (r:RG) (v:AV),st r 59 v=⟨⟨r.a.a,r.a.b,r.a.c,r.a.d,r.a.e,r.a.f,r.a.g,⟨r.a.h.a,r.a.h.b,r.a.h.c,v,r.a.h.e,r.a.h.f,r.a.h.g,r.a.h.h⟩⟩,r.b,r.c,r.d,r.e,r.f,r.g,r.h⟩)∧(∀ (r:RG),gt r 59=r.a.h.d)∧(∀ (r:RG) (v:AV),st r 60 v=⟨⟨r.a.a,r.a.b,r.a.c,r.a.d,r.a.e,r.a.f,r.a.g,⟨r.a.h.a,r.a.h.b,r.a.h.c,r.a.h.d,v,r.a.h.f,r.a.h.g,r.a.h.h⟩⟩,r.b,r.c,r.d,r.e,r.f,r.g,r.h⟩)∧(∀ (r:RG),gt r 60=r.a.h.e)∧(∀ (r:RG) (v:AV),st r 61 v=⟨⟨r.a.a,r.a.b,r.a.c,r.a.d,r.a.e,r.a.f,r.a.g,⟨r.a.h.a,r.a.h.b,r.a.h.c,r.a.h.d,r.a.h.e,v,r.a.h.g,r.a.h.h⟩⟩,r.b,r.c,r.d,r.e,r.f,r.g,r.h⟩)∧(∀ (r:RG),gt r 61=r.a.h.f)∧(∀ (r:RG) (v:AV),st r 62 v=⟨⟨r.a.a,r.a.b,r.a.c,r.a.d,r.a.e,r.a.f,r.a.g,⟨r.a.h.a,r.a.h.b,r.a.h.c,r.a.h.d,r.a.h.e,r.a.h.f,v,r.a.h.h⟩⟩,r.b,r.c,r.d,r.e,r.f,r.g,r.h⟩)∧(∀ (r:RG),gt r 62=r.a.h.g)∧(∀ (r:RG) (v:AV),st r 63 v=⟨⟨r.a.a,r.a.b,r.a.c,r.a.d,r.a.e,r.a.f,r.a.g,⟨r.a.h.a,r.a.h.b,r.a.h.c,r.a.h.d,r.a.h.e,r.a.h.f,r.a.h.g,v⟩⟩,r.b,r.c,r.d,r.e,r.f,r.g,r.h⟩)∧(∀ (r:RG),gt r 63=r.a.h.h):=by
 repeat first | apply And.intro | (intros;rfl)
theorem ST2:(∀ (r:RG) (v:AV),st r 64 v=⟨r.a,⟨⟨v,r.b.a.b,r.b.a.c,r.b.a.d,r.b.a.e,r.b.a.f,r.b.a.g,r.b.a.h⟩,r.b.b,r.b.c,r.b.d,r.b.e,r.b.f,r.b.g,r.b.h⟩,r.c,r.d,r.e,r.f,r.g,r.h⟩)∧(∀ (r:RG),gt r 64=r.b.a.a)∧(∀ (r:RG) (v:AV),st r 65 v=⟨r.a,⟨⟨r.b.a.a,v,r.b.a.c,r.b.a.d,r.b.a.e,r.b.a.f,r.b.a.g,r.b.a.h⟩,r.b.b,r.b.c,r.b.d,r.b.e,r.b.f,r.b.g,r.b.h⟩,r.c,r.d,r.e,r.f,r.g,r.h⟩)∧(∀ (r:RG),gt r 65=r.b.a.b)∧(∀ (r:RG) (v:AV),st r 66 v=⟨r.a,⟨⟨r.b.a.a,r.b.a.b,v,r.b.a.d,r.b.a.e,r.b.a.f,r.b.a.g,r.b.a.h⟩,r.b.b,r.b.c,r.b.d,r.b.e,r.b.f,r.b.g,r.b.h⟩,r.c,r.d,r.e,r.f,r.g,r.h⟩)∧(∀ (r:RG),gt r 66=r.b.a.c)∧(∀ (r:RG) (v:AV),st r 67 v=⟨r.a,⟨⟨r.b.a.a,r.b.a.b,r.b.a.c,v,r.b.a.e,r.b.a.f,r.b.a.g,r.b.a.h⟩,r.b.b,r.b.c,r.b.d,r.b.e,r.b.f,r.b.g,r.b.h⟩,r.c,r.d,r.e,r.f,r.g,r.h⟩)∧(∀ (r:RG),gt r 67=r.b.a.d)∧(∀ (r:RG) (v:AV),st r 68 v=⟨r.a,⟨⟨r.b.a.a,r.b.a.b,r.b.a.c,r.b.a.d,v,r.b.a.f,r.b.a.g,r.b.a.h⟩,r.b.b,r.b.c,r.b.d,r.b.e,r.b.f,r.b.g,r.b.h⟩,r.c,r.d,r.e,r.f,r.g,r.h⟩)∧(∀ (r:RG),gt r 68=r.b.a.e)∧(∀ (r:RG) (v:AV),st r 69 v=⟨r.a,⟨⟨r.b.a.a,r.b.a.b,r.b.a.c,r.b.a.d,r.b.a.e,v,r.b.a.g,r.b.a.h⟩,r.b.b,r.b.c,r.b.d,r.b.e,r.b.f,r.b.g,r.b.h⟩,r.c,r.d,r.e,r.f,r.g,r.h⟩)∧(∀ (r:RG),gt r 69=r.b.a.f)∧(∀ (r:RG) (v:AV),st r 70 v=⟨r.a,⟨⟨r.b.a.a,r.b.a.b,r.b.a.c,r.b.a.d,r.b.a.e,r.b.a.f,v,r.b.a.h⟩,r.b.b,r.b.c,r.b.d,r.b.e,r.b.f,r.b.g,r.b.h⟩,r.c,r.d,r.e,r.f,r.g,r.h⟩)∧(∀ (r:RG),gt r 70=r.b.a.g)∧(∀ (r:RG) (v:AV),st r 71 v=⟨r.a,⟨⟨r.b.a.a,r.b.a.b,r.b.a.c,r.b.a.d,r.b.a.e,r.b.a.f,r.b.a.g,v⟩,r.b.b,r.b.c,r.b.d,r.b.e,r.b.f,r.b.g,r.b.h⟩,r.c,r.d,r.e,r.f,r.g,r.h⟩)∧(∀ (r:RG),gt r 71=r.b.a.h)∧(∀ (r:RG) (v:AV),st r 72 v=⟨r.a,⟨r.b.a,⟨v,r.b.b.b,r.b.b.c,r.b.b.d,r.b.b.e,r.b.b.f,r.b.b.g,r.b.b.h⟩,r.b.c,r.b.d,r.b.e,r.b.f,r.b.g,r.b.h⟩,r.c,r.d,r.e,r.f,r.g,r.h⟩)∧(∀ (r:RG),gt r 72=r.b.b.a)∧(∀ (r:RG) (v:AV),st r 73 v=⟨r.a,⟨r.b.a,⟨r.b.b.a,v,r.b.b.c,r.b.b.d,r.b.b.e,r.b.b.f,r.b.b.g,r.b.b.h⟩,r.b.c,r.b.d,r.b.e,r.b.f,r.b.g,r.b.h⟩,r.c,r.d,r.e,r.f,r.g,r.h⟩)∧(∀ (r:RG),gt r 73=r.b.b.b)∧(∀ (r:RG) (v:AV),st r 74 v=⟨r.a,⟨r.b.a,⟨r.b.b.a,r.b.b.b,v,r.b.b.d,r.b.b.e,r.b.b.f,r.b.b.g,r.b.b.h⟩,r.b.c,r.b.d,r.b.e,r.b.f,r.b.g,r.b.h⟩,r.c,r.d,r.e,r.f,r.g,r.h⟩)∧(∀ (r:RG),gt r 74=r.b.b.c)∧(∀ (r:RG) (v:AV),st r 75 v=⟨r.a,⟨r.b.a,⟨r.b.b.a,r.b.b.b,r.b.b.c,v,r.b.b.e,r.b.b.f,r.b.b.g,r.b.b.h⟩,r.b.c,r.b.d,r.b.e,r.b.f,r.b.g,r.b.h⟩,r.c,r.d,r.e,r.f,r.g,r.h⟩)∧(∀ (r:RG),gt r 75=r.b.b.d)∧(∀ (r:RG) (v:AV),st r 76 v=⟨r.a,⟨r.b.a,⟨r.b.b.a,r.b.b.b,r.b.b.c,r.b.b.d,v,r.b.b.f,r.b.b.g,r.b.b.h⟩,r.b.c,r.b.d,r.b.e,r.b.f,r.b.g,r.b.h⟩,r.c,r.d,r.e,r.f,r.g,r.h⟩)∧(∀ (r:RG),gt r 76=r.b.b.e)∧(∀ (r:RG) (v:AV),st r 77 v=⟨r.a,⟨r.b.a,⟨r.b.b.a,r.b.b.b,r.b.b.c,r.b.b.d,r.b.b.e,v,r.b.b.g,r.b.b.h⟩,r.b.c,r.b.d,r.b.e,r.b.f,r.b.g,r.b.h⟩,r.c,r.d,r.e,r.f,r.g,r.h⟩)∧(∀ (r:RG),gt r 77=r.b.b.f)∧(∀ (r:RG) (v:AV),st r 78 v=⟨r.a,⟨r.b.a,⟨r.b.b.a,r.b.b.b,r.b.b.c,r.b.b.d,r.b.b.e,r.b.b.f,v,r.b.b.h⟩,r.b.c,r.b.d,r.b.e,r.b.f,r.b.g,r.b.h⟩,r.c,r.d,r.e,r.f,r.g,r.h⟩)∧(∀ (r:RG),gt r 78=r.b.b.g)∧(∀ (r:RG) (v:AV),st r 79 v=⟨r.a,⟨r.b.a,⟨r.b.b.a,r.b.b.b,r.b.b.c,r.b.b.d,r.b.b.e,r.b.b.f,r.b.b.g,v⟩,r.b.c,r.b.d,r.b.e,r.b.f,r.b.g,r.b.h⟩,r.c,r.d,r.e,r.f,r.g,r.h⟩)∧(∀ (r:RG),gt r 79=r.b.b.h)∧(∀ (r:RG) (v:AV),st r 80 v=⟨r.a,⟨r.b.a,r.b.b,⟨v,r.b.c.b,r.b.c.c,r.b.c.d,r.b.c.e,r.b.c.f,r.b.c.g,r.b.c.h⟩,r.b.d,r.b.e,r.b.f,r.b.g,r.b.h⟩,r.c,r.d,r.e,r.f,r.g,r.h⟩)∧(∀ (r:RG),gt r 80=r.b.c.a)∧(∀ (r:RG) (v:AV),st r 81 v=⟨r.a,⟨r.b.a,r.b.b,⟨r.b.c.a,v,r.b.c.c,r.b.c.d,r.b.c.e,r.b.c.f,r.b.c.g,r.b.c.h⟩,r.b.d,r.b.e,r.b.f,r.b.g,r.b.h⟩,r.c,r.d,r.e,r.f,r.g,r.h⟩)∧(∀ (r:RG),gt r 81=r.b.c.b)∧(∀ (r:RG) (v:AV),st r 82 v=⟨r.a,⟨r.b.a,r.b.b,⟨r.b.c.a,r.b.c.b,v,r.b.c.d,r.b.c.e,r.b.c.f,r.b.c.g,r.b.c.h⟩,r.b.d,r.b.e,r.b.f,r.b.g,r.b.h⟩,r.c,r.d,r.e,r.f,r.g,r.h⟩)∧(∀ (r:RG),gt r 82=r.b.c.c)∧(∀ (r:RG) (v:AV),st r 83 v=⟨r.a,⟨r.b.a,r.b.b,⟨r.b.c.a,r.b.c.b,r.b.c.c,v,r.b.c.e,r.b.c.f,r.b.c.g,r.b.c.h⟩,r.b.d,r.b.e,r.b.f,r.b.g,r.b.h⟩,r.c,r.d,r.e,r.f,r.g,r.h⟩)∧(∀ (r:RG),gt r 83=r.b.c.d)∧(∀ (r:RG) (v:AV),st r 84 v=⟨r.a,⟨r.b.a,r.b.b,⟨r.b.c.a,r.b.c.b,r.b.c.c,r.b.c.d,v,r.b.c.f,r.b.c.g,r.b.c.h⟩,r.b.d,r.b.e,r.b.f,r.b.g,r.b.h⟩,r.c,r.d,r.e,r.f,r.g,r.h⟩)∧(∀ (r:RG),gt r 84=r.b.c.e)∧(∀ (r:RG) (v:AV),st r 85 v=⟨r.a,⟨r.b.a,r.b.b,⟨r.b.c.a,r.b.c.b,r.b.c.c,r.b.c.d,r.b.c.e,v,r.b.c.g,r.b.c.h⟩,r.b.d,r.b.e,r.b.f,r.b.g,r.b.h⟩,r.c,r.d,r.e,r.f,r.g,r.h⟩)∧(∀ (r:RG),gt r 85=r.b.c.f)∧(∀ (r:RG) (v:AV),st r 86 v=⟨r.a,⟨r.b.a,r.b.b,⟨r.b.c.a,r.b.c.b,r.b.c.c,r.b.c.d,r.b.c.e,r.b.c.f,v,r.b.c.h⟩,r.b.d,r.b.e,r.b.f,r.b.g,r.b.h⟩,r.c,r.d,r.e,r.f,r.g,r.h⟩)∧(∀ (r:RG),gt r 86=r.b.c.g)∧(∀ (r:RG) (v:AV),st r 87 v=⟨r.a,⟨r.b.a,r.b.b,⟨r.b.c.a,r.b.c.b,r.b.c.c,r.b.c.d,r.b.c.e,r.b.c.f,r.b.c.g,v⟩,r.b.d,r.b.e,r.b.f,r.b.g,r.b.h⟩,r.c,r.d,r.e,r.f,r.g,r.h⟩)∧(∀ (r:RG),gt r 87=r.b.c.h)∧(∀ (r:RG) (v:AV),st r 88 v=⟨r.a,⟨r.b.a,r.b.b,r.b.c,⟨v,r.b.d.b,r.b.d.c,r.b.d.d,r.b.d.e,r.b.d.f,r.b.d.g,r.b.d.h⟩,r.b.e,r.b.f,r.b.g,r.b.h⟩,r.c,r.d,r.e,r.f,r.g,r.h⟩)∧(∀ (r:RG),gt r 88=r.b.d.a)∧(∀ (r:RG) (v:AV),st r 89 v=⟨r.a,⟨r.b.a,r.b.b,r.b.c,⟨r.b.d.a,v,r.b.d.c,r.b.d.d,r.b.d.e,r.b.d.f,r.b.d.g,r.b.d.h⟩,r.b.e,r.b.f,r.b.g,r.b.h⟩,r.c,r.d,r.e,r.f,r.g,r.h⟩)∧(∀ (r:RG),gt r 89=r.b.d.b)∧(∀ (r:RG) (v:AV),st r 90 v=⟨r.a,⟨r.b.a,r.b.b,r.b.c,⟨r.b.d.a,r.b.d.b,v,r.b.d.d,r.b.d.e,r.b.d.f,r.b.d.g,r.b.d.h⟩,r.b.e,r.b.f,r.b.g,r.b.h⟩,r.c,r.d,r.e,r.f,r.g,r.h⟩)∧(∀ (r:RG),gt r 90=r.b.d.c)∧(∀ (r:RG) (v:AV),st r 91 v=⟨r.a,⟨r.b.a,r.b.b,r.b.c,⟨r.b.d.a,r.b.d.b,r.b.d.c,v,r.b.d.e,r.b.d.f,r.b.d.g,r.b.d.h⟩,r.b.e,r.b.f,r.b.g,r.b.h⟩,r.c,r.d,r.e,r.f,r.g,r.h⟩)∧(∀ (r:RG),gt r 91=r.b.d.d)∧(∀ (r:RG) (v:AV),st r 92 v=⟨r.a,⟨r.b.a,r.b.b,r.b.c,⟨r.b.d.a,r.b.d.b,r.b.d.c,r.b.d.d,v,r.b.d.f,r.b.d.g,r.b.d.h⟩,r.b.e,r.b.f,r.b.g,r.b.h⟩,r.c,r.d,r.e,r.f,r.g,r.h⟩)∧(∀ (r:RG),gt r 92=r.b.d.e)∧(∀ (r:RG) (v:AV),st r 93 v=⟨r.a,⟨r.b.a,r.b.b,r.b.c,⟨r.b.d.a,r.b.d.b,r.b.d.c,r.b.d.d,r.b.d.e,v,r.b.d.g,r.b.d.h⟩,r.b.e,r.b.f,r.b.g,r.b.h⟩,r.c,r.d,r.e,r.f,r.g,r.h⟩)∧(∀ (r:RG),gt r 93=r.b.d.f)∧(∀ (r:RG) (v:AV),st r 94 v=⟨r.a,⟨r.b.a,r.b.b,r.b.c,⟨r.b.d.a,r.b.d.b,r.b.d.c,r.b.d.d,r.b.d.e,r.b.d.f,v,r.b.d.h⟩,r.b.e,r.b.f,r.b.g,r.b.h⟩,r.c,r.d,r.e,r.f,r.g,r.h⟩)∧(∀ (r:RG),gt r 94=r.b.d.g)∧(∀ (r:RG) (v:AV),st r 95 v=⟨r.a,⟨r.b.a,r.b.b,r.b.c,⟨r.b.d.a,r.b.d.b,r.b.d.c,r.b.d.d,r.b.d.e,r.b.d.f,r.b.d.g,v⟩,r.b.e,r.b.f,r.b.g,r.b.h⟩,r.c,r.d,r.e,r.f,r.g,r.h⟩)∧(∀ (r:RG),gt r 95=r.b.d.h):=by
 repeat first | apply And.intro | (intros;rfl)
theorem ST3:(∀ (r:RG) (v:AV),st r 96 v=⟨r.a,⟨r.b.a,r.b.b,r.b.c,r.b.d,⟨v,r.b.e.b,r.b.e.c,r.b.e.d,r.b.e.e,r.b.e.f,r.b.e.g,r.b.e.h⟩,r.b.f,r.b.g,r.b.h⟩,r.c,r.d,r.e,r.f,r.g,r.h⟩)∧(∀ (r:RG),gt r 96=r.b.e.a)∧(∀ (r:RG) (v:AV),st r 97 v=⟨r.a,⟨r.b.a,r.b.b,r.b.c,r.b.d,⟨r.b.e.a,v,r.b.e.c,r.b.e.d,r.b.e.e,r.b.e.f,r.b.e.g,r.b.e.h⟩,r.b.f,r.b.g,r.b.h⟩,r.c,r.d,r.e,r.f,r.g,r.h⟩)∧(∀ (r:RG),gt r 97=r.b.e.b)∧(∀ (r:RG) (v:AV),st r 98 v=⟨r.a,⟨r.b.a,r.b.b,r.b.c,r.b.d,⟨r.b.e.a,r.b.e.b,v,r.b.e.d,r.b.e.e,r.b.e.f,r.b.e.g,r.b.e.h⟩,r.b.f,r.b.g,r.b.h⟩,r.c,r.d,r.e,r.f,r.g,r.h⟩)∧(∀ (r:RG),gt r 98=r.b.e.c)∧(∀ (r:RG) (v:AV),st r 99 v=⟨r.a,⟨r.b.a,r.b.b,r.b.c,r.b.d,⟨r.b.e.a,r.b.e.b,r.b.e.c,v,r.b.e.e,r.b.e.f,r.b.e.g,r.b.e.h⟩,r.b.f,r.b.g,r.b.h⟩,r.c,r.d,r.e,r.f,r.g,r.h⟩)∧(∀ (r:RG),gt r 99=r.b.e.d)∧(∀ (r:RG) (v:AV),st r 100 v=⟨r.a,⟨r.b.a,r.b.b,r.b.c,r.b.d,⟨r.b.e.a,r.b.e.b,r.b.e.c,r.b.e.d,v,r.b.e.f,r.b.e.g,r.b.e.h⟩,r.b.f,r.b.g,r.b.h⟩,r.c,r.d,r.e,r.f,r.g,r.h⟩)∧(∀ (r:RG),gt r 100=r.b.e.e)∧(∀ (r:RG) (v:AV),st r 101 v=⟨r.a,⟨r.b.a,r.b.b,r.b.c,r.b.d,⟨r.b.e.a,r.b.e.b,r.b.e.c,r.b.e.d,r.b.e.e,v,r.b.e.g,r.b.e.h⟩,r.b.f,r.b.g,r.b.h⟩,r.c,r.d,r.e,r.f,r.g,r.h⟩)∧(∀ (r:RG),gt r 101=r.b.e.f)∧(∀ (r:RG) (v:AV),st r 102 v=⟨r.a,⟨r.b.a,r.b.b,r.b.c,r.b.d,⟨r.b.e.a,r.b.e.b,r.b.e.c,r.b.e.d,r.b.e.e,r.b.e.f,v,r.b.e.h⟩,r.b.f,r.b.g,r.b.h⟩,r.c,r.d,r.e,r.f,r.g,r.h⟩)∧(∀ (r:RG),gt r 102=r.b.e.g)∧(∀ (r:RG) (v:AV),st r 103 v=⟨r.a,⟨r.b.a,r.b.b,r.b.c,r.b.d,⟨r.b.e.a,r.b.e.b,r.b.e.c,r.b.e.d,r.b.e.e,r.b.e.f,r.b.e.g,v⟩,r.b.f,r.b.g,r.b.h⟩,r.c,r.d,r.e,r.f,r.g,r.h⟩)∧(∀ (r:RG),gt r 103=r.b.e.h)∧(∀ (r:RG) (v:AV),st r 104 v=⟨r.a,⟨r.b.a,r.b.b,r.b.c,r.b.d,r.b.e,⟨v,r.b.f.b,r.b.f.c,r.b.f.d,r.b.f.e,r.b.f.f,r.b.f.g,r.b.f.h⟩,r.b.g,r.b.h⟩,r.c,r.d,r.e,r.f,r.g,r.h⟩)∧(∀ (r:RG),gt r 104=r.b.f.a)∧(∀ (r:RG) (v:AV),st r 105 v=⟨r.a,⟨r.b.a,r.b.b,r.b.c,r.b.d,r.b.e,⟨r.b.f.a,v,r.b.f.c,r.b.f.d,r.b.f.e,r.b.f.f,r.b.f.g,r.b.f.h⟩,r.b.g,r.b.h⟩,r.c,r.d,r.e,r.f,r.g,r.h⟩)∧(∀ (r:RG),gt r 105=r.b.f.b)∧(∀ (r:RG) (v:AV),st r 106 v=⟨r.a,⟨r.b.a,r.b.b,r.b.c,r.b.d,r.b.e,⟨r.b.f.a,r.b.f.b,v,r.b.f.d,r.b.f.e,r.b.f.f,r.b.f.g,r.b.f.h⟩,r.b.g,r.b.h⟩,r.c,r.d,r.e,r.f,r.g,r.h⟩)∧(∀ (r:RG),gt r 106=r.b.f.c)∧(∀ (r:RG) (v:AV),st r 107 v=⟨r.a,⟨r.b.a,r.b.b,r.b.c,r.b.d,r.b.e,⟨r.b.f.a,r.b.f.b,r.b.f.c,v,r.b.f.e,r.b.f.f,r.b.f.g,r.b.f.h⟩,r.b.g,r.b.h⟩,r.c,r.d,r.e,r.f,r.g,r.h⟩)∧(∀ (r:RG),gt r 107=r.b.f.d)∧(∀ (r:RG) (v:AV),st r 108 v=⟨r.a,⟨r.b.a,r.b.b,r.b.c,r.b.d,r.b.e,⟨r.b.f.a,r.b.f.b,r.b.f.c,r.b.f.d,v,r.b.f.f,r.b.f.g,r.b.f.h⟩,r.b.g,r.b.h⟩,r.c,r.d,r.e,r.f,r.g,r.h⟩)∧(∀ (r:RG),gt r 108=r.b.f.e)∧(∀ (r:RG) (v:AV),st r 109 v=⟨r.a,⟨r.b.a,r.b.b,r.b.c,r.b.d,r.b.e,⟨r.b.f.a,r.b.f.b,r.b.f.c,r.b.f.d,r.b.f.e,v,r.b.f.g,r.b.f.h⟩,r.b.g,r.b.h⟩,r.c,r.d,r.e,r.f,r.g,r.h⟩)∧(∀ (r:RG),gt r 109=r.b.f.f)∧(∀ (r:RG) (v:AV),st r 110 v=⟨r.a,⟨r.b.a,r.b.b,r.b.c,r.b.d,r.b.e,⟨r.b.f.a,r.b.f.b,r.b.f.c,r.b.f.d,r.b.f.e,r.b.f.f,v,r.b.f.h⟩,r.b.g,r.b.h⟩,r.c,r.d,r.e,r.f,r.g,r.h⟩)∧(∀ (r:RG),gt r 110=r.b.f.g)∧(∀ (r:RG) (v:AV),st r 111 v=⟨r.a,⟨r.b.a,r.b.b,r.b.c,r.b.d,r.b.e,⟨r.b.f.a,r.b.f.b,r.b.f.c,r.b.f.d,r.b.f.e,r.b.f.f,r.b.f.g,v⟩,r.b.g,r.b.h⟩,r.c,r.d,r.e,r.f,r.g,r.h⟩)∧(∀ (r:RG),gt r 111=r.b.f.h)∧(∀ (r:RG) (v:AV),st r 112 v=⟨r.a,⟨r.b.a,r.b.b,r.b.c,r.b.d,r.b.e,r.b.f,⟨v,r.b.g.b,r.b.g.c,r.b.g.d,r.b.g.e,r.b.g.f,r.b.g.g,r.b.g.h⟩,r.b.h⟩,r.c,r.d,r.e,r.f,r.g,r.h⟩)∧(∀ (r:RG),gt r 112=r.b.g.a)∧(∀ (r:RG) (v:AV),st r 113 v=⟨r.a,⟨r.b.a,r.b.b,r.b.c,r.b.d,r.b.e,r.b.f,⟨r.b.g.a,v,r.b.g.c,r.b.g.d,r.b.g.e,r.b.g.f,r.b.g.g,r.b.g.h⟩,r.b.h⟩,r.c,r.d,r.e,r.f,r.g,r.h⟩)∧(∀ (r:RG),gt r 113=r.b.g.b)∧(∀ (r:RG) (v:AV),st r 114 v=⟨r.a,⟨r.b.a,r.b.b,r.b.c,r.b.d,r.b.e,r.b.f,⟨r.b.g.a,r.b.g.b,v,r.b.g.d,r.b.g.e,r.b.g.f,r.b.g.g,r.b.g.h⟩,r.b.h⟩,r.c,r.d,r.e,r.f,r.g,r.h⟩)∧(∀ (r:RG),gt r 114=r.b.g.c)∧(∀ (r:RG) (v:AV),st r 115 v=⟨r.a,⟨r.b.a,r.b.b,r.b.c,r.b.d,r.b.e,r.b.f,⟨r.b.g.a,r.b.g.b,r.b.g.c,v,r.b.g.e,r.b.g.f,r.b.g.g,r.b.g.h⟩,r.b.h⟩,r.c,r.d,r.e,r.f,r.g,r.h⟩)∧(∀ (r:RG),gt r 115=r.b.g.d)∧(∀ (r:RG) (v:AV),st r 116 v=⟨r.a,⟨r.b.a,r.b.b,r.b.c,r.b.d,r.b.e,r.b.f,⟨r.b.g.a,r.b.g.b,r.b.g.c,r.b.g.d,v,r.b.g.f,r.b.g.g,r.b.g.h⟩,r.b.h⟩,r.c,r.d,r.e,r.f,r.g,r.h⟩)∧(∀ (r:RG),gt r 116=r.b.g.e)∧(∀ (r:RG) (v:AV),st r 117 v=⟨r.a,⟨r.b.a,r.b.b,r.b.c,r.b.d,r.b.e,r.b.f,⟨r.b.g.a,r.b.g.b,r.b.g.c,r.b.g.d,r.b.g.e,v,r.b.g.g,r.b.g.h⟩,r.b.h⟩,r.c,r.d,r.e,r.f,r.g,r.h⟩)∧(∀ (r:RG),gt r 117=r.b.g.f)∧(∀ (r:RG) (v:AV),st r 118 v=⟨r.a,⟨r.b.a,r.b.b,r.b.c,r.b.d,r.b.e,r.b.f,⟨r.b.g.a,r.b.g.b,r.b.g.c,r.b.g.d,r.b.g.e,r.b.g.f,v,r.b.g.h⟩,r.b.h⟩,r.c,r.d,r.e,r.f,r.g,r.h⟩)∧(∀ (r:RG),gt r 118=r.b.g.g)∧(∀ (r:RG) (v:AV),st r 119 v=⟨r.a,⟨r.b.a,r.b.b,r.b.c,r.b.d,r.b.e,r.b.f,⟨r.b.g.a,r.b.g.b,r.b.g.c,r.b.g.d,r.b.g.e,r.b.g.f,r.b.g.g,v⟩,r.b.h⟩,r.c,r.d,r.e,r.f,r.g,r.h⟩)∧(∀ (r:RG),gt r 119=r.b.g.h)∧(∀ (r:RG) (v:AV),st r 120 v=⟨r.a,⟨r.b.a,r.b.b,r.b.c,r.b.d,r.b.e,r.b.f,r.b.g,⟨v,r.b.h.b,r.b.h.c,r.b.h.d,r.b.h.e,r.b.h.f,r.b.h.g,r.b.h.h⟩⟩,r.c,r.d,r.e,r.f,r.g,r.h⟩)∧(∀ (r:RG),gt r 120=r.b.h.a)∧(∀ (r:RG) (v:AV),st r 121 v=⟨r.a,⟨r.b.a,r.b.b,r.b.c,r.b.d,r.b.e,r.b.f,r.b.g,⟨r.b.h.a,v,r.b.h.c,r.b.h.d,r.b.h.e,r.b.h.f,r.b.h.g,r.b.h.h⟩⟩,r.c,r.d,r.e,r.f,r.g,r.h⟩)∧(∀ (r:RG),gt r 121=r.b.h.b)∧(∀ (r:RG) (v:AV),st r 122 v=⟨r.a,⟨r.b.a,r.b.b,r.b.c,r.b.d,r.b.e,r.b.f,r.b.g,⟨r.b.h.a,r.b.h.b,v,r.b.h.d,r.b.h.e,r.b.h.f,r.b.h.g,r.b.h.h⟩⟩,r.c,r.d,r.e,r.f,r.g,r.h⟩)∧(∀ (r:RG),gt r 122=r.b.h.c)∧(∀ (r:RG) (v:AV),st r 123 v=⟨r.a,⟨r.b.a,r.b.b,r.b.c,r.b.d,r.b.e,r.b.f,r.b.g,⟨r.b.h.a,r.b.h.b,r.b.h.c,v,r.b.h.e,r.b.h.f,r.b.h.g,r.b.h.h⟩⟩,r.c,r.d,r.e,r.f,r.g,r.h⟩)∧(∀ (r:RG),gt r 123=r.b.h.d)∧(∀ (r:RG) (v:AV),st r 124 v=⟨r.a,⟨r.b.a,r.b.b,r.b.c,r.b.d,r.b.e,r.b.f,r.b.g,⟨r.b.h.a,r.b.h.b,r.b.h.c,r.b.h.d,v,r.b.h.f,r.b.h.g,r.b.h.h⟩⟩,r.c,r.d,r.e,r.f,r.g,r.h⟩)∧(∀ (r:RG),gt r 124=r.b.h.e)∧(∀ (r:RG) (v:AV),st r 125 v=⟨r.a,⟨r.b.a,r.b.b,r.b.c,r.b.d,r.b.e,r.b.f,r.b.g,⟨r.b.h.a,r.b.h.b,r.b.h.c,r.b.h.d,r.b.h.e,v,r.b.h.g,r.b.h.h⟩⟩,r.c,r.d,r.e,r.f,r.g,r.h⟩)∧(∀ (r:RG),gt r 125=r.b.h.f)∧(∀ (r:RG) (v:AV),st r 126 v=⟨r.a,⟨r.b.a,r.b.b,r.b.c,r.b.d,r.b.e,r.b.f,r.b.g,⟨r.b.h.a,r.b.h.b,r.b.h.c,r.b.h.d,r.b.h.e,r.b.h.f,v,r.b.h.h⟩⟩,r.c,r.d,r.e,r.f,r.g,r.h⟩)∧(∀ (r:RG),gt r 126=r.b.h.g)∧(∀ (r:RG) (v:AV),st r 127 v=⟨r.a,⟨r.b.a,r.b.b,r.b.c,r.b.d,r.b.e,r.b.f,r.b.g,⟨r.b.h.a,r.b.h.b,r.b.h.c,r.b.h.d,r.b.h.e,r.b.h.f,r.b.h.g,v⟩⟩,r.c,r.d,r.e,r.f,r.g,r.h⟩)∧(∀ (r:RG),gt r 127=r.b.h.h):=by
 repeat first | apply And.intro | (intros;rfl)
end Go.Abs
