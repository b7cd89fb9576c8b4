/- split: workers, waits, spawns. Part of the proof of girandolelaw12.SplitHanded. -/
import Derived.Test.YtglacbfdbfhmfaaGreatDoorFl3
import Derived.Test.YtglacbfdbfhmfaaGreatDoorOrd
set_option linter.unusedVariables false
set_option linter.unusedSimpArgs false
set_option maxRecDepth 1000000
namespace Go.Proofs
open Go Go.Abs
structure WkF where
 uo:Nat
 u:UN
 ord:AV
 fut:List Nat
 fl:Lin
 first:Nat
abbrev yp (uo:Nat)(ord fut:AV)(first:Int):List AV:=[.ptr uo 0,ord,fut,.int .i64 first]
abbrev WkF.cs (w:WkF):List AV:=yp w.uo w.ord (lV 1 w.fl (w.fut.map inV)) (w.first:Int)
structure EgF where
 fr:Nat
 to:Nat
 arg:Bool
 what:AtF
 port:Nat
 ah:List Int
 lin:Lin
abbrev o4 (q:EgF):List AV:=[.int .i64 (q.fr:Int),.int .i64 (q.to:Int),.bool q.arg,.bool q.what.c,.int .i64 q.what.n,.int .i64 (q.what.v:Int),.int .i64 (q.port:Int),lV 1 q.lin (q.ah.map gA)]
abbrev EgF.av (q:EgF):AV:=.agg (o4 q)
structure Pl (po:Nat)(H:Heap)(ws:List WkF)(W:AV)(es:List EgF)(E:AV)(at_:Int):Prop where
 ob:ae H po=some (.cells [W,E,.int .i64 at_])
 w:RsI po H 4 W (ws.flatMap WkF.cs)
 e:LvI po H 8 E (es.map EgF.av)
 dj:∀ q∈nmA E,q∉nmA W
theorem Pl.po {po:Nat}{H:Heap}{ws:List WkF}{W:AV}{es:List EgF}{E:AV}{a:Int}(h:Pl po H ws W es E a):po<aa H:=bG h.ob
theorem Pl.to {po:Nat}{H H' : Heap}{ws:List WkF}{W:AV}{es:List EgF}{E:AV}{a:Int}(h:Pl po H ws W es E a)(hl:aa H<=aa H')(hf:∀ q,q<aa H->q=po\/q∈nmA W\/q∈nmA E->ae H' q=ae H q):Pl po H' ws W es E a :=
 ⟨by rw[hf po h.po (.inl rfl),h.ob],h.w.mono hl (λq hq hlt=>hf q hlt (.inr (.inl hq))),h.e.mono hl (λq hq hlt=>hf q hlt (.inr (.inr hq))),h.dj⟩
theorem Pl.ap {po:Nat}{H K:Heap}{ws:List WkF}{W:AV}{es:List EgF}{E:AV}{a:Int}(h:Pl po H ws W es E a):Pl po (H++K) ws W es E a :=
 h.to (by rw[az];omega) (λq hq _=>aU hq)
structure Un (B:Nat)(H:Heap)(uo:Nat)(u:UN):Prop where
 U:UI uo H u
 lt:uo<B
 nl:∀ q∈u.ns,q<B
theorem Un.to {B uo:Nat}{H H' : Heap}{u:UN}(h:Un B H uo u)(hl:aa H<=aa H')(hf:∀ q,q<B->ae H' q=ae H q):Un B H' uo u :=
 ⟨h.U.to hl (λq _ hq=>hf q (by rcases hq with rfl|hq;exact h.lt;exact h.nl q hq)),h.lt,h.nl⟩
theorem ny (l:List WkF):(l.flatMap WkF.cs).length=4*l.length:=by
 induction l with
 | nil=>rfl
 | cons a l ih=>simp only[List.flatMap_cons,List.length_append,ih,List.length_cons];simp;omega
theorem X9 (a b c d:AV):ae [a,b,c,d] 2=some c:=rfl
theorem g4_3 (a b c d:AV):ae [a,b,c,d] 3=some d:=rfl
theorem Wr (a b:AV):ae [a,b] 0=some a:=rfl
theorem UX (a b:AV):ae [a,b] 1=some b:=rfl
def jD (v:AV):Prop:=v=.nils\/∃ l:List Nat,v=.sl 1 (l.map inV) .dead
theorem ym (l:List Nat):dp (l.map inV)=true:=by
 induction l with
 | nil=>rfl
 | cons a l ih=>rw[List.map_cons,br,ih];rfl
theorem eI {v:AV}(h:jD v)(L:Nat):v.low L=true:=by
 rcases h with rfl|⟨l,rfl⟩
 ·rfl
 ·have:=de (ym l) L;simp[AV.low,Lin.low,this]
theorem gu {v:AV}(h:jD v):v.one=true:=by
 rcases h with rfl|⟨l,rfl⟩<;>rfl
theorem qn {l:List Nat}{fl:Lin}{L:Nat}(h:fl.low L=true):(lV 1 fl (l.map inV)).low L=true:=jC h (ym l)
def jB (first:Nat)(fut:List Nat)(o:Int×Int):Option Nat:=cond (decide (o.1<0)) (cond (decide (0<=o.2)) fut[o.2.toNat]? none) (cond (Nat.ble (first+o.1.toNat) 100000) (some (first+o.1.toNat)) none)
theorem VM {uo L:Nat}{ord fut:AV}{f:Int}(h:uo<L)(ho:ord.low L=true)(hf:fut.low L=true)(h1:ord.one=true)(h2:fut.one=true):dV (.agg (yp uo ord fut f)) L=some (.cells (yp uo ord fut f),(.ptr · 0)):=by
 have hl:AV.low L (.agg (yp uo ord fut f))=true:=by simp[AV.low,aG,h,ho,hf]
 have ho' : (AV.agg (yp uo ord fut f)).cells.all AV.one=true:=by
  show (yp uo ord fut f).all AV.one=true;simp only[List.all_cons,List.all_nil,h1,h2,Bool.and_true];rfl
 unfold dV;rw[if_pos ⟨ho',hl⟩];rfl
theorem WN (o:Int×Int)(L:Nat):dV (eb o) L=some (.cells [.int .i64 o.1,.int .i64 o.2],(.ptr · 0)):=by
 have hl:AV.low L (eb o)=true:=by simp[AV.low,aG]
 have ho' : (eb o).cells.all AV.one=true:=rfl;unfold dV;rw[if_pos ⟨ho',hl⟩];rfl
theorem Pp {l:List Nat}{fl:Lin}{i v:Nat}(h:l[i]?=some v):aL 1 (lV 1 fl (l.map inV)) (.int .i64 (i:Int))=some (.iptr [inV v]):=by
 cases l with
 | nil=>simp at h
 | cons a l =>
   have:ae ((a::l).map inV) i=some (inV v):=by rw[aB,List.getElem?_map,h];rfl
   exact bN this
section
variable {M:Memo}
theorem pL (h63:∀ a,M 63 a=none){uo first v:Nat}{ord:AV}{fut:List Nat}{fl:Lin}{o:Int×Int}(hm:jB first fut o=some v){H:Heap}(h:uo<aa H)(ho:jD ord)(hf:fl.low (aa H)=true)(hfi:first<=100000) :
  orc CC M 63 [.agg (yp uo ord (lV 1 fl (fut.map inV)) (first:Int)),eb o] H=some (.ret (.int .i64 (v:Int)) H (aa H)):=by
 refine aJ (z:=z63) (h63 _) (by kernel_rfl) rfl ?_
 have e0:(envOf [.agg (yp uo ord (lV 1 fl (fut.map inV)) (first:Int)),eb o] 0 env0).a.a.a=.agg (yp uo ord (lV 1 fl (fut.map inV)) (first:Int)):=rfl
 have e1:(envOf [.agg (yp uo ord (lV 1 fl (fut.map inV)) (first:Int)),eb o] 0 env0).a.a.b=eb o:=rfl
 generalize envOf [.agg (yp uo ord (lV 1 fl (fut.map inV)) (first:Int)),eb o] 0 env0=R at e0 e1
 have hb:=VM (f:=(first:Int)) h (eI ho _) (qn (l:=fut) hf) (gu ho) fQ
 have ho':=WN o;rw[ai] at hb;have hl1:aa (H++[AObj.cells (yp uo ord (lV 1 fl (fut.map inV)) (first:Int))])=aa H+1:=by rw[az];rfl
 have hg0:∀ o1,ae (H++[AObj.cells (yp uo ord (lV 1 fl (fut.map inV)) (first:Int)),o1]) (aa H)=some (AObj.cells (yp uo ord (lV 1 fl (fut.map inV)) (first:Int))):=λo1=>by rw[an];rfl
 have hg1:∀ o1 o2,ae (H++[o1,o2]) (aa H+1)=some o2:=λo1 o2=>by rw[aW];rfl
 have hgc:=λ(x:Int) (hp:Heap)=>dC (k:=CC.keep 63) (b:=aa H) (v:=.int .i64 x) (hp:=hp) rfl
 have htk:∀ K:Heap,bg (aa H) (H++K)=H:=λK=>bP H K
 unfold jB at hm;cases hd:decide (o.1<0) with
 | true =>
   rw[hd] at hm;simp only[cond_true] at hm;cases h2:decide (0<=o.2) with
   | false=>rw[h2] at hm;cases hm
   | true =>
     rw[h2] at hm;simp only[cond_true] at hm;have hk:(o.2.toNat:Int)=o.2:=Int.toNat_of_nonneg (by simpa using h2)
     have hi:=Pp (fl:=fl) hm;rw[hk] at hi;have hld:∀ (x:AV) (hp:Heap),aw none (.iptr [x]) hp=some x:=λ_ _=>rfl
     simp only[z63,GQ,Dg,Ll,SIM,ST0,e0,e1,hb,ho',hl1,hg0,hg1,hd,hi,hld,hgc,htk,X9,Wr,UX,List.length_append,List.append_assoc,List.cons_append,List.nil_append,Nat.reduceAdd,Nat.reduceLeDiff]
 | false =>
   rw[hd] at hm;simp only[cond_false] at hm;obtain ⟨hle,hm⟩:=aT hm;simp only[SJ] at hm;rw[dW,decide_eq_true_eq] at hle
   have ha:bR (first:Int) o.1=(v:Int):=by
    have hk:(o.1.toNat:Int)=o.1:=Int.toNat_of_nonneg (by have:¬ o.1<0:=by simpa using hd
                                                         omega)
    rw[<-hk,aZ first o.1.toNat (by unfold natMax;omega),hm]
   simp only[z63,GQ,Dg,Lw,SIM,ST0,e0,e1,hb,ho',hl1,hg0,hg1,hd,ha,hgc,htk,g4_3,Wr,UX,List.length_append,List.append_assoc,List.cons_append,List.nil_append,Nat.reduceAdd,Nat.reduceLeDiff]
end
theorem sl102:o9 102 8:=gH (by kernel_rfl) (by decide) (λf=>xj f 102 rfl)
theorem Sx (q:EgF):[q.av].all (bi 8)=true:=by
 cases h:q.ah.map gA with
 | nil=>simp[bi,AV.cells,AV.one,lV,h]
 | cons a l=>simp[bi,AV.cells,AV.one,lV,h]
theorem Sf {q:EgF}{L:Nat}(h:q.lin.low L=true):q.av.low L=true:=by
 have h1:(lV 1 q.lin (q.ah.map gA)).low L=true:=jC h (by
  have:∀ l:List Int,dp (l.map gA)=true:=λl=>by
   induction l with
   | nil=>rfl
   | cons a l ih=>rw[List.map_cons,br,ih];rfl
  exact this _)
 simp[AV.low,aG,h1]
theorem Pl.addE {po:Nat}{H:Heap}{ws:List WkF}{W:AV}{es:List EgF}{E:AV}{a:Int}(P:Pl po H ws W es E a)(f:Nat)(q:EgF)(hq:q.lin.low (aa H)=true)(hl:es.length<=100000) :
  ∃ E' H2,(∀ e lin,aq CC f 102 E (.sl 8 [q.av] lin) ⟨H,e⟩=some (E',⟨H2,e⟩))/\ae H2 po=some (.cells [W,E,.int .i64 a]) /\
    (∀ b,po<=b->ar 1 (.ptr po 1) E' ⟨H2,b⟩=some ⟨am H2 po (.cells [W,E',.int .i64 a]),po⟩)/\Pl po (am H2 po (.cells [W,E',.int .i64 a])) ws W (es++[q]) E' a /\
    aa H<=aa (am H2 po (.cells [W,E',.int .i64 a]))/\(∀ r,r<aa H->r≠po->r∉nmA E->ae (am H2 po (.cells [W,E',.int .i64 a])) r=ae H r)/\(∀ r∈nmA E',r∈nmA E\/aa H<=r):=by
 obtain ⟨E',H2,a1,a2,a3,a4,a5⟩:=jF sl102 f P.e (Sx q) (Sf hq) (by rw[List.length_map];omega) P.po
 have hu2:ae H2 po=some (.cells [W,E,.int .i64 a]):=by rw[a4 po P.po (λhm=>by have:=(P.e.lt _ hm).1;omega),P.ob]
 have st:=λb hb=>m6 (b:=b) (off:=1) a2 (by simp) hu2 (by rw[ai];simp) hb
 have hl2:aa H<=aa (am H2 po (.cells [W,E',.int .i64 a])):=by rw[ay];exact a3
 have hf:∀ r,r<aa H->r≠po->r∉nmA E->ae (am H2 po (.cells [W,E',.int .i64 a])) r=ae H r:=λr hr hne hn=>by rw[af hne,a4 r hr hn]
 refine ⟨E',H2,a1,hu2,λb hb=>st b hb,⟨aF hu2 _,P.w.mono hl2 (λr hr hlt=>hf r hlt (by have:=(P.w.lt r hr).1;omega) (λhm=>P.dj r hm hr)),?_,λr hr hm=>?_⟩,hl2,hf,a5⟩
 ·rw[List.map_append];exact a2.mono (by rw[ay];exact Nat.le_refl _) (λr hr _=>af (by have:=(a2.lt r hr).1;omega) _)
 ·rcases a5 r hr with h1|h1
  ·exact P.dj r h1 hm
  ·have:=(P.w.lt r hm).2;omega
theorem wk_split:∀ {l:List WkF} {k:Nat} {s:WkF},l[k]?=some s->∃ P R,l.flatMap WkF.cs=P++s.cs++R/\P.length=k*4/\∀ s' : WkF,(l.set k s').flatMap WkF.cs=P++s'.cs++R
 | [],k,s,h=>by simp at h
 | a::l,0,s,h=>by
   simp only[List.getElem?_cons_zero,SJ] at h;subst h;exact ⟨[],l.flatMap WkF.cs,by simp,rfl,λs'=>by simp⟩
 | a::l,k+1,s,h=>by
   simp only[List.getElem?_cons_succ] at h;obtain ⟨P,R,h1,h2,h3⟩:=wk_split h;refine ⟨a.cs++P,R,by simp only[List.flatMap_cons,h1,List.append_assoc],by simp only[List.length_append,h2,List.length_cons,List.length_nil];omega,λs'=>?_⟩
   simp only[List.set_cons_succ,List.flatMap_cons,h3 s',List.append_assoc]
theorem xu {ws:List WkF}{i:Nat}{w:WkF}(h:ws[i]?=some w):bg 4 (fb (i*4) (ws.flatMap WkF.cs))=w.cs/\decide (i*4+4<=aa (ws.flatMap WkF.cs))=true/\ae (ws.flatMap WkF.cs) (i*4)=some (.ptr w.uo 0):=by
 obtain ⟨P,R,e1,e2,e3⟩:=wk_split h;rw[e1];refine ⟨?_,?_,?_⟩
 ·rw[bU,kQ,<-e2,List.append_assoc,List.drop_left];rfl
 ·rw[ai];simp only[List.length_append,e2,List.length_cons,List.length_nil];simp
 ·rw[aB,<-e2,List.append_assoc,List.getElem?_append_right (Nat.le_refl _),Nat.sub_self];rfl
theorem vI {uo i:Nat}{H:Heap}{W:AV}{ws:List WkF}{w:WkF}(h:RsI uo H 4 W (ws.flatMap WkF.cs))(hi:ws[i]?=some w):∃ id n,W=.rsl id 0 n n 4/\n=ws.length/\i<n/\ae H id=some (.cells (ws.flatMap WkF.cs)):=by
 have hlt:i<ws.length:=by
  rcases Nat.lt_or_ge i ws.length with h|h
  ·exact h
  ·rw[List.getElem?_eq_none h] at hi;cases hi
 have hl:=ny ws
 rcases h with ⟨h0,_⟩|⟨id,n,h0,_,h2,hln,_⟩
 ·rw[h0] at hl;simp only[List.length_nil] at hl;omega
 ·rw[hl] at hln;exact ⟨id,n,h0,by omega,by omega,h2⟩
def WtF.ln (x:WtF):Lin:=match x.ah with
 | []=>.lit
 | _::_=>x.lin
theorem WtF.ln_e (x:WtF):lV 1 x.ln (x.ah.map gA)=lV 1 x.lin (x.ah.map gA):=by
 unfold WtF.ln;cases h:x.ah<;>rfl
def sD (u:UN)(l:List Nat):Prop:=∃ lin,u.O=.sl 1 (l.map inV) lin
def NB (u:UN):List Nat:=match u.O with
 | .sl _ xs _=>xs.filterMap λv=>match v with
   | .int _ z=>some z.toNat
   | _=>none
 | _=>[]
theorem HP {u:UN}{l:List Nat}(h:sD u l):NB u=l:=by
 obtain ⟨lin,h⟩:=h;unfold NB;rw[h];simp only[]
 have:∀ l:List Nat,(l.map inV).filterMap (λv=>match v with
  | .int _ z=>some z.toNat
  | _=>none)=l:=λl=>by
  induction l with
  | nil=>rfl
  | cons a l ih=>simp only[List.map_cons,List.filterMap_cons,ih];rfl
 exact this l
def eU (ws:List WkF)(first:Nat)(fut:List Nat)(i:Nat):List WtF->Nat->List EgF->Option (List EgF)
 | [],_,es=>some es
 | x::l,k,es=>match jB first fut (x.sp,x.pa) with
   | none=>none
   | some fr=>match ws[fr]? with
     | none=>none
     | some wf=>match (NB wf.u)[0]? with
       | none=>none
       | some ov=>eU ws first fut i l (k+1) (es++[⟨fr,i,false,⟨false,0,ov⟩,k,x.ah,x.ln⟩])
theorem Rk {uo:Nat}{H:Heap}{V:AV}{l:List WtF}(h:LvI uo H 5 V (l.map WtF.av)){i:Nat}{q:WtF}(hq:l[i]?=some q):aL 5 V (.int .i64 (i:Int))=some (.iptr [.int .i64 (q.dst:Int),.int .i64 q.sp,.int .i64 q.pa,lV 1 q.ln (q.ah.map gA),.int .i64 q.at_])/\q.ln.low (aa H)=true:=by
 rcases h with ⟨h0,_⟩|⟨h0,id,g,rfl,hg,hu,hw⟩
 ·simp at h0;rw[h0] at hq;simp at hq
 ·have hgq:(l.map WtF.av)[i]?=some q.av:=by rw[List.getElem?_map,hq];rfl
  refine ⟨by rw[WtF.ln_e];exact bN (by rw[aB,hgq]),?_⟩
  have hm:q.av∈l.map WtF.av:=List.mem_of_getElem? hgq
  have key:∀ xs:List AV,aG (aa H) xs=true->∀ x∈xs,x.low (aa H)=true:=by
   intro xs
   induction xs with
   | nil=>intro _ x hx;cases hx
   | cons a l ih =>
     intro h x hx;simp only[aG,Bool.and_eq_true] at h
     rcases List.mem_cons.1 hx with rfl|hx
     ·exact h.1
     ·exact ih h.2 x hx
  have:=key _ hw _ hm;simp only[AV.low,aG,Bool.and_eq_true] at this;obtain ⟨_,_,_,h4,_⟩:=this;unfold WtF.ln;cases ha:q.ah with
  | nil=>rfl
  | cons a r =>
    rw[ha] at h4;simp only[List.map_cons,lV,AV.low,Bool.and_eq_true] at h4;exact h4.2
theorem QU (fr to k ov:Nat)(ah:AV)(h:ah=.nils\/∃ k l q,ah=.sl k l q):ao CC 109 [(0,.int .i64 (fr:Int)),(1,.int .i64 (to:Int)),(3,.agg [.bool false,.int .i64 0,.int .i64 (ov:Int)]),(4,.int .i64 (k:Int)),(5,ah)]=some (.agg [.int .i64 (fr:Int),.int .i64 (to:Int),.bool false,.bool false,.int .i64 0,.int .i64 (ov:Int),.int .i64 (k:Int),ah]):=by
 have h1:∀ a b c d:Int,ao CC 109 [(0,.int .i64 a),(1,.int .i64 b),(3,.agg [.bool false,.int .i64 0,.int .i64 c]),(4,.int .i64 d),(5,.nils)]=some (.agg [.int .i64 a,.int .i64 b,.bool false,.bool false,.int .i64 0,.int .i64 c,.int .i64 d,.nils]):=λ_ _ _ _=>by kernel_rfl
 have h2:∀ (a b c d:Int) (k:Nat) (l:List AV) (q:Lin),ao CC 109 [(0,.int .i64 a),(1,.int .i64 b),(3,.agg [.bool false,.int .i64 0,.int .i64 c]),(4,.int .i64 d),(5,.sl k l q)]=some (.agg [.int .i64 a,.int .i64 b,.bool false,.bool false,.int .i64 0,.int .i64 c,.int .i64 d,.sl k l q]):=λ_ _ _ _ _ _ _=>by kernel_rfl
 rcases h with rfl|⟨k,l,q,rfl⟩
 ·exact h1 _ _ _ _
 ·exact h2 _ _ _ _ _ _ _
theorem Hk (a b n v p:Int)(x c:Bool)(ah:AV)(h:ah=.nils\/∃ k l q,ah=.sl k l q):aM CC 102 1 [(0,.agg [.int .i64 a,.int .i64 b,.bool x,.bool c,.int .i64 n,.int .i64 v,.int .i64 p,ah])]=some (.sl 8 [.agg [.int .i64 a,.int .i64 b,.bool x,.bool c,.int .i64 n,.int .i64 v,.int .i64 p,ah]] .lit):=by
 have h1:∀ (a b n v p:Int) (x c:Bool),aM CC 102 1 [(0,.agg [.int .i64 a,.int .i64 b,.bool x,.bool c,.int .i64 n,.int .i64 v,.int .i64 p,.nils])]=some (.sl 8 [.agg [.int .i64 a,.int .i64 b,.bool x,.bool c,.int .i64 n,.int .i64 v,.int .i64 p,.nils]] .lit):=λ_ _ _ _ _ _ _=>by kernel_rfl
 have h2:∀ (a b n v p:Int) (x c:Bool) (k:Nat) (l:List AV) (q:Lin),aM CC 102 1 [(0,.agg [.int .i64 a,.int .i64 b,.bool x,.bool c,.int .i64 n,.int .i64 v,.int .i64 p,.sl k l q])]=some (.sl 8 [.agg [.int .i64 a,.int .i64 b,.bool x,.bool c,.int .i64 n,.int .i64 v,.int .i64 p,.sl k l q]] .lit):=λ_ _ _ _ _ _ _ _ _ _=>by kernel_rfl
 rcases h with rfl|⟨k,l,q,rfl⟩
 ·exact h1 a b n v p x c
 ·exact h2 a b n v p x c k l q
noncomputable def Ip (T:Nat):Bool:=match CC.P.underlying T with
 | some (.slice _)=>true
 | _=>false
theorem oc {T:Nat}(h:Ip T=true):(∀ k l q,aO CC T (.sl k l q)=some (.int .i64 (l.length:Int)))/\aO CC T .nils=some (.int .i64 ((0:Nat):Int))/\∀ id c n k,aO CC T (.rsl id 0 n c k)=some (.int .i64 (n:Int)):=by
 unfold Ip at h
 split at h
 ·rename_i e he;exact ⟨λk l q=>by rw[cA];simp[dh,he],by rw[cA];simp[dh,he],λid c n k=>by rw[cA];simp[dh,he]⟩
 ·cases h
theorem Cz {T uo k:Nat}{H:Heap}{V:AV}{xs:List AV}(hT:Ip T=true)(h:LvI uo H k V xs):aO CC T V=some (.int .i64 (xs.length:Int)):=by
 obtain ⟨h1,h2,h3⟩:=oc hT
 rcases h with ⟨rfl,rfl⟩|⟨_,id,g,rfl,_⟩
 ·exact h2
 ·exact h1 _ _ _
theorem jJ {n r b:Nat}{v:AV}{hp:Heap}{e:Nat}{cs:List AV}(hg:ae hp r=some (.cells cs))(hl:aa v.cells=n)(hn:n<=aa cs)(ha:v.cells.all AV.one=true)(hlow:v.low b=true)(hb:b<=r) :
  ar n (.ptr r 0) v ⟨hp,e⟩=some ⟨am hp r (.cells (db cs 0 v.cells)),e⟩:=by
 have hlen:=bj hg;have h1:eK (aa hp) v=true:=by rw[bY];exact AV.low_mono (by rw[ai];omega) v hlow
 have h2:gV v r ⟨hp,e⟩=e:=by unfold gV;rw[bY,AV.low_mono (by omega:b<=r+1) v hlow];rfl
 have h3:Nat.beq (aa v.cells) n=true:=by rw[hl];exact Nat.beq_refl n
 have h4:Nat.ble (Nat.add 0 n) (aa cs)=true:=Nat.ble_eq_true_of_le (by simpa using hn)
 simp only[ar,hg,eM,h1,h2,h3,h4,ha,Bool.and_self,cond_true]
section
variable {M:Memo}{B po i:Nat}{ws:List WkF}{at_:Int}
structure WsI (B po i:Nat)(ws:List WkF)(W:AV)(at_:Int)(w:WkF)(H:Heap)(E0:AV)(Hc:Heap)(es:List EgF)(E:AV):Prop where
 P:Pl po Hc ws W es E at_
 U:∀ w∈ws,Un B Hc w.uo w.u
 g:ae Hc (aa H)=some (.cells w.cs)
 fr:∀ q,q<aa H->q≠po->q∉nmA E0->ae Hc q=ae H q
 nm:∀ q∈nmA E,q∈nmA E0\/aa H<q
 w0:∀ q∈nmA W,q<aa H
def Zf (B po i:Nat)(ws:List WkF)(W:AV)(at_:Int)(w:WkF)(H:Heap)(E0:AV)(es:List EgF)(e:Nat)(X:IRes):Prop :=
 ∃ r' Hc E,X=some (.exit 0,r',[],⟨Hc,e⟩)/\WsI B po i ws W at_ w H E0 Hc es E
theorem xx (h63:∀ a,M 63 a=none){W:AV}{w:WkF}{H:Heap}{E0:AV}(hB:B<=po)(hpo:po<aa H)(hE0:∀ q∈nmA E0,q<aa H/\B<=q)(hwi:ws[i]?=some w)(hot:∀ w∈ws,sD w.u (NB w.u))(hord:∀ w∈ws,jD w.ord)(hfl:w.fl.low (aa H)=true)(hfi:w.first<=100000)(hwl:w.u.ws.length<=90000){es' : List EgF}(hl' : es'.length<=100000) :
  ∀ (k j:Nat),k+j=w.u.ws.length->∀ (fu:Nat),k<fu->∀ (Hc:Heap) (es:List EgF) (E:AV),WsI B po i ws W at_ w H E0 Hc es E->eU ws w.first w.fut i (w.u.ws.drop j) j es=some es'->∀ (e:Nat),po<=e->e<=aa H->∀ (r:RG),(r.a.a.a=.ptr po 0/\r.a.a.b=.int .i64 (i:Int)/\r.a.a.e=.ptr (aa H) 0)->(r.a.c.d=w.u.W/\r.a.c.e=.int .i64 (w.u.ws.length:Int)/\r.a.c.f=.int .i64 (j:Int)) ->
  Zf B po i ws W at_ w H E0 es' (cond (Nat.beq k 0) e po) (ax (og (orc CC M)) fu r [] ⟨Hc,e⟩):=by
 intro k
 induction k with
 | zero =>
   intro j hj fu hfu Hc es E I hm e he he2 r ⟨h0,h1,h4⟩ ⟨h19,h20,h21⟩;obtain ⟨fu',rfl⟩ : ∃ f,fu=f+1:=⟨fu-1,by omega⟩
   have:j=w.u.ws.length:=by omega
   subst this;have hc:decide ((w.u.ws.length:Int)<(w.u.ws.length:Int))=false:=by simp
   rw[List.drop_length] at hm;simp only[eU,SJ] at hm;subst hm;simp only[ax,og,yQ,SIM,ST0,h20,h21,hc];exact ⟨_,Hc,E,rfl,I⟩
 | succ k ih =>
   intro j hj fu hfu Hc es E I hm e he he2 r ⟨h0,h1,h4⟩ ⟨h19,h20,h21⟩;obtain ⟨fu',rfl⟩ : ∃ f,fu=f+1:=⟨fu-1,by omega⟩
   have hlt:j<w.u.ws.length:=by omega
   have hc:decide ((j:Int)<(w.u.ws.length:Int))=true:=by simp;omega
   have hd:w.u.ws.drop j=w.u.ws[j]::w.u.ws.drop (j+1):=List.drop_eq_getElem_cons hlt;have hg:w.u.ws[j]?=some w.u.ws[j]:=by simp[hlt]
   generalize w.u.ws[j]=x at hd hg;rw[hd] at hm;simp only[eU] at hm
   split at hm
   ·cases hm
   rename_i fr hfr
   split at hm
   ·cases hm
   rename_i wf hwf
   split at hm
   ·cases hm
   rename_i ov hov;have hwm:w∈ws:=List.mem_of_getElem? hwi;have hfm:wf∈ws:=List.mem_of_getElem? hwf;have Uw:=I.U w hwm;have Uf:=I.U wf hfm;obtain ⟨hias,hlow⟩:=Rk Uw.U.w hg;have ha:bR (j:Int) 1=((j+1:Nat):Int):=aZ j 1 (by unfold natMax;omega)
   obtain ⟨olin,hO⟩:=hot wf hfm
   have hoi:aL 1 (.sl 1 ((NB wf.u).map inV) olin) (.int .i64 (0:Int))=some (.iptr [inV ov]):=by
    have:ae ((NB wf.u).map inV) 0=some (inV ov):=by rw[aB,List.getElem?_map,hov];rfl
    exact bN (i:=0) this
   rw[<-hO] at hoi;have hlenc:aa H<aa Hc:=bG I.g;have P1:=I.P.ap (K:=[.cells [.int .i64 (x.dst:Int),.int .i64 x.sp,.int .i64 x.pa,lV 1 x.ln (x.ah.map gA),.int .i64 x.at_]]);have hl1:aa (Hc++[.cells [.int .i64 (x.dst:Int),.int .i64 x.sp,.int .i64 x.pa,lV 1 x.ln (x.ah.map gA),.int .i64 x.at_]])=aa Hc+1:=by rw[az];rfl
   have hesl:es.length<=100000:=by
    have:∀ (l:List WtF) (k:Nat) (a b:List EgF),eU ws w.first w.fut i l k a=some b->a.length<=b.length:=by
     intro l
     induction l with
     | nil=>intro k a b h;simp only[eU,SJ] at h;rw[h];exact Nat.le_refl _
     | cons y l ih =>
       intro k a b h;simp only[eU] at h
       split at h
       ·cases h
       split at h
       ·cases h
       split at h
       ·cases h
       have:=ih _ _ _ h;simp only[List.length_append,List.length_cons,List.length_nil] at this;omega
    have:=this _ _ _ _ hm;simp only[List.length_append,List.length_cons,List.length_nil] at this;omega
   obtain ⟨E',H2,hap,hg2,hst,P2,hl2,hf2,hn2⟩:=P1.addE 41 ⟨fr,i,false,⟨false,0,ov⟩,j,x.ah,x.ln⟩ (Lin.low_mono (b:=aa Hc) (by rw[hl1];omega) _ hlow) hesl
   have hnE:aa H∉nmA E:=λhm'=>by
    rcases I.nm _ hm' with h|h
    ·have:=(hE0 _ h).1;omega
    ·omega
   have I2:WsI B po i ws W at_ w H E0 (am H2 po (.cells [W,E',.int .i64 at_])) (es++[⟨fr,i,false,⟨false,0,ov⟩,j,x.ah,x.ln⟩]) E':=by
    refine ⟨P2,λw' hw'=>(I.U w' hw').to (by omega) (λq hq=>?_),?_,λq hq hne hn=>?_,λq hq=>?_,I.w0⟩
    ·have hq1:q<aa Hc:=by omega
     rw[hf2 q (by omega) (by omega) (λhm'=>?_),aU hq1]
     rcases I.nm _ hm' with h|h
     ·have:=(hE0 _ h).2;omega
     ·omega
    ·rw[hf2 _ (by omega) (by omega) hnE,aU hlenc,I.g]
    ·rw[hf2 q (by omega) hne (λhm'=>?_),aU (by omega),I.fr q hq hne hn]
     rcases I.nm _ hm' with h|h
     ·exact hn h
     ·omega
    ·rcases hn2 q hq with h|h
     ·exact I.nm q h
     ·exact .inr (by omega)
   have key:=ih (j+1) (by omega) fu' (by omega) _ _ _ I2 hm po (Nat.le_refl _) (by omega)
   have hk0:cond (Nat.beq k 0) po po=po:=by cases Nat.beq k 0<;>rfl
   rw[hk0] at key;have hk1:cond (Nat.beq (k+1) 0) e po=po:=rfl;rw[hk1];obtain ⟨id,n,hW,hn,hin,hgW⟩:=vI P1.w hwf;obtain ⟨_,_,hgu⟩:=xu hwf;have hi4:=lc (q:=id) hin;have horg:=pL (M:=M) h63 (uo:=w.uo) (ord:=w.ord) hfr (H:=Hc++[.cells [.int .i64 (x.dst:Int),.int .i64 x.sp,.int .i64 x.pa,lV 1 x.ln (x.ah.map gA),.int .i64 x.at_]]) (by rw[hl1];have:=bG Uw.U.ob;omega) (hord w hwm) (Lin.low_mono (b:=aa H) (by rw[hl1];omega) _ hfl) hfi
   rw[hl1] at horg;have hg1:=P1.ob;have hgw:=au I.g [.cells [.int .i64 (x.dst:Int),.int .i64 x.sp,.int .i64 x.pa,lV 1 x.ln (x.ah.map gA),.int .i64 x.at_]];have hgx:ae (Hc++[.cells [.int .i64 (x.dst:Int),.int .i64 x.sp,.int .i64 x.pa,lV 1 x.ln (x.ah.map gA),.int .i64 x.at_]]) (aa Hc)=some (.cells [.int .i64 (x.dst:Int),.int .i64 x.sp,.int .i64 x.pa,lV 1 x.ln (x.ah.map gA),.int .i64 x.at_]):=by rw[an];rfl
   have hguf:=au Uf.U.ob [.cells [.int .i64 (x.dst:Int),.int .i64 x.sp,.int .i64 x.pa,lV 1 x.ln (x.ah.map gA),.int .i64 x.at_]]
   have hst5:∀ ee,ar 5 (.ptr (aa Hc) 0) (.agg [.int .i64 (x.dst:Int),.int .i64 x.sp,.int .i64 x.pa,lV 1 x.ln (x.ah.map gA),.int .i64 x.at_]) ⟨Hc++[.cells [.int .i64 0,.int .i64 0,.int .i64 0,.nils,.int .i64 0]],ee⟩=some ⟨Hc++[.cells [.int .i64 (x.dst:Int),.int .i64 x.sp,.int .i64 x.pa,lV 1 x.ln (x.ah.map gA),.int .i64 x.at_]],ee⟩:=λee=>by
    have hlw:(lV 1 x.ln (x.ah.map gA)).low (aa Hc)=true:=jC hlow (by
     have:∀ l:List Int,dp (l.map gA)=true:=λl=>by
      induction l with
      | nil=>rfl
      | cons a l ih=>rw[List.map_cons,br,ih];rfl
     exact this _)
    refine (jJ (n:=5) (e:=ee) (cs:=[.int .i64 0,.int .i64 0,.int .i64 0,.nils,.int .i64 0]) (b:=aa Hc) (r:=aa Hc) (v:=.agg [.int .i64 (x.dst:Int),.int .i64 x.sp,.int .i64 x.pa,lV 1 x.ln (x.ah.map gA),.int .i64 x.at_]) (by rw[an];rfl) rfl (by rw[ai];simp) (by simp only[AV.cells,List.all_cons,List.all_nil,fQ,Bool.and_true];rfl) (by simp[AV.low,aG,hlw]) (Nat.le_refl _)).trans ?_
    rw[bJ];rfl
   have hgz:ae (Hc++[AObj.cells [.int .i64 0,.int .i64 0,.int .i64 0,.nils,.int .i64 0]]) (aa Hc)=some (.cells [.int .i64 0,.int .i64 0,.int .i64 0,.nils,.int .i64 0]):=by rw[an];rfl
   have hst5c:=hst5;unfold ar at hst5c;simp only[hgz,AV.cells] at hst5c;have h109:=QU fr i j ov (lV 1 x.ln (x.ah.map gA)) jQ;have h93:=Bd ov;have hbs:=λa b n v p y c=>Hk a b n v p y c (lV 1 x.ln (x.ah.map gA)) jQ
   have hst':=hst e he;have hm1:min e (aa Hc+1)=e:=by omega
   have hld:∀ (x:AV) (hp:Heap),aw none (.iptr [x]) hp=some x:=λ_ _=>rfl
   subst hW;have hst3:=hst';unfold ar at hst3;simp only[hg2,AV.cells] at hst3;simp only[ax,og,yQ,Kz,ML,LD,LL,SIM,ST0,h0,h1,h4,h19,h20,h21,hc,hias,hst5,hst5c,AV.cells,hgw,hgx,horg,hm1,hg1,hi4,hgW,hgu,hguf,hoi,hld,h93,h109,hbs,hap,orVal,EXS,hg2,hst',hst3,ha,Nat.reduceAdd,Nat.reduceLeDiff];exact key _ ⟨by first|rfl|exact h0,by first|rfl|exact h1,by first|rfl|exact h4⟩ ⟨by first|rfl|exact h19,by first|rfl|exact h20,rfl⟩
theorem HO (h41:∀ a,M 41 a=none)(h63:∀ a,M 63 a=none){W E:AV}{w:WkF}{H:Heap}(hB:B<=po){es es' : List EgF}(P:Pl po H ws W es E at_)(U:∀ w∈ws,Un B H w.uo w.u)(hE0:∀ q∈nmA E,B<=q)(hwi:ws[i]?=some w)(hot:∀ w∈ws,sD w.u (NB w.u))(hord:∀ w∈ws,jD w.ord)(hfl:w.fl.low (aa H)=true)(hfi:w.first<=100000)(hwl:w.u.ws.length<=90000)(hl' : es'.length<=100000)(hm:eU ws w.first w.fut i w.u.ws 0 es=some es') :
  ∃ H' E' e,orc CC M 41 [.ptr po 0,.int .i64 (i:Int)] H=some (.ret Abs.undef H' e)/\po<=e/\Pl po H' ws W es' E' at_/\aa H<=aa H'/\(∀ q,q<aa H->q≠po->q∉nmA E->ae H' q=ae H q)/\(∀ q∈nmA E',q∈nmA E\/aa H<=q):=by
 have hpo:=P.po;have hwm:w∈ws:=List.mem_of_getElem? hwi;have Uw:=U w hwm;obtain ⟨id,n,hW,hn,hin,hgW⟩:=vI P.w hwi;obtain ⟨htd,hle,hgu⟩:=xu hwi;have hi4:=lc (q:=id) hin;have hEl:∀ q∈nmA E,q<aa H/\B<=q:=λq hq=>⟨(P.e.lt q hq).2,hE0 q hq⟩
 have hfl':=qn (l:=w.fut) hfl;have hord':=hord w hwm
 have hst4:∀ ee,ar 4 (.ptr (aa H) 0) (.agg w.cs) ⟨H++[.cells [.nilp,.nils,.nils,.int .i64 0]],ee⟩=some ⟨H++[.cells w.cs],ee⟩:=λee=>by
  refine (jJ (n:=4) (e:=ee) (cs:=[.nilp,.nils,.nils,.int .i64 0]) (b:=aa H) (r:=aa H) (v:=.agg w.cs) (by rw[an];rfl) rfl (by rw[ai];simp) (by simp only[AV.cells,List.all_cons,List.all_nil,fQ,gu hord',Bool.and_true];rfl) (by have:=bG Uw.U.ob;simp[AV.low,aG,hfl',eI hord',this]) (Nat.le_refl _)).trans ?_
  rw[bJ];rfl
 have hgz:ae (H++[AObj.cells [.nilp,.nils,.nils,.int .i64 0]]) (aa H)=some (.cells [.nilp,.nils,.nils,.int .i64 0]):=by rw[an];rfl
 have hst4c:=hst4;unfold ar at hst4c;simp only[hgz,AV.cells] at hst4c
 have I0:WsI B po i ws W at_ w H E (H++[.cells w.cs]) es E:=by
  refine ⟨P.ap,λw' hw'=>(U w' hw').to (by rw[az];omega) (λq hq=>aU (by omega)),by rw[an];rfl,λq hq _ _=>aU hq,λq hq=>.inl hq,λq hq=>(P.w.lt q hq).2⟩
 have hg1:=P.ob;have hgw:ae (H++[.cells w.cs]) (aa H)=some (.cells w.cs):=I0.g;have hguw:=au Uw.U.ob [.cells w.cs];have hln:=Cz (T:=85) (by kernel_rfl) Uw.U.w
 rw[List.length_map] at hln;have key:=xx (M:=M) h63 hB hpo hEl hwi hot hord hfl hfi hwl hl' w.u.ws.length 0 (by omega) 100000 (by omega) _ es E I0 (by simpa using hm) (aa H) (by omega) (Nat.le_refl _)
 obtain ⟨r1,hr1,hk1,s1⟩ : ∃ r:RG,(r.a.a.a=.ptr po 0/\r.a.a.b=.int .i64 (i:Int)/\r.a.a.e=.ptr (aa H) 0)/\(r.a.c.d=w.u.W/\r.a.c.e=.int .i64 (w.u.ws.length:Int)/\r.a.c.f=.int .i64 ((0:Nat):Int)) /\
   ac (ya (orc CC M)) (yy (orc CC M)) (envOf [.ptr po 0,.int .i64 (i:Int)] 0 env0) [] ⟨H,aa H⟩=some (.normal,r,[],⟨H++[.cells w.cs],aa H⟩):=by
  have e0:(envOf [.ptr po 0,.int .i64 (i:Int)] 0 env0).a.a.a=.ptr po 0:=rfl;have e1:(envOf [.ptr po 0,.int .i64 (i:Int)] 0 env0).a.a.b=.int .i64 (i:Int):=rfl;generalize envOf [.ptr po 0,.int .i64 (i:Int)] 0 env0=R at e0 e1;rw[hW] at hg1;simp only[ya,yy,SIM,ST0,e0,e1,hg1,hi4,hgW,htd,hle,hst4,hst4c,AV.cells,hgw,hguw,MV,hln,Nat.reduceAdd,Nat.reduceLeDiff];exact ⟨_,⟨rfl,rfl,rfl⟩,⟨rfl,rfl,rfl⟩,rfl⟩
 have b0:∀ (i:Nat) (b:CZ) (r:RG) (s:St),aH i (aK b) r [] s=c9 i (ax b 100000 r [] s):=λ_ _ _ _=>rfl
 have hze:∀ x d s,z41.sh (orc CC M) x d s=ac (ac (ya (orc CC M)) (yy (orc CC M))) (aH 0 (aK (og (orc CC M)))) x d s:=λx d s=>by
  simp only[z41,eH]
 cases hws:w.u.ws.length with
 | zero =>
   have hnil:w.u.ws=[]:=List.eq_nil_of_length_eq_zero hws;rw[hnil] at hm;simp only[eU,SJ] at hm;subst hm;obtain ⟨_,h20,h21⟩:=hk1
   obtain ⟨r2,s2⟩ : ∃ r2,∀ fu,ax (og (orc CC M)) (fu+1) r1 [] ⟨H++[.cells w.cs],aa H⟩=some (.exit 0,r2,[],⟨H++[.cells w.cs],aa H⟩):=by
    have hc:decide (((0:Nat):Int)<((0:Nat):Int))=false:=by simp
    rw[hws] at h20;simp only[ax,og,yQ,SIM,ST0,h20,h21,hc];exact ⟨_,λ_=>rfl⟩
   have hz:z41.sh (orc CC M) (envOf [.ptr po 0,.int .i64 (i:Int)] 0 env0) [] ⟨H,aa H⟩=some (.normal,r2,[],⟨H++[.cells w.cs],aa H⟩):=by
    rw[hze,bv,s1,bk,b0,s2 99999,ck]
   have hgc:=dC (k:=CC.keep 41) (b:=aa H) (v:=Abs.undef) (hp:=H++[.cells w.cs]) rfl;refine ⟨H,E,aa H,aJ (z:=z41) (h41 _) (by kernel_rfl) rfl ?_,by omega,P,Nat.le_refl _,λ_ _ _ _=>rfl,λq hq=>.inl hq⟩
   rw[hz];simp only[SIM,z41,hgc,bP]
 | succ k =>
   obtain ⟨r2,Hc,E',s2,I⟩:=key r1 hr1 hk1;rw[hws] at s2;have hk:cond (Nat.beq (k+1) 0) (aa H) po=po:=rfl;rw[hk] at s2
   have hz:z41.sh (orc CC M) (envOf [.ptr po 0,.int .i64 (i:Int)] 0 env0) [] ⟨H,aa H⟩=some (.normal,r2,[],⟨Hc,po⟩):=by
    rw[hze,bv,s1,bk,b0,s2,ck]
   have hgc:=dL (keep:=CC.keep 41) (base:=aa H) (e:=po) (v:=Abs.undef) (hp:=Hc) (by omega)
   have hlc:aa H<aa Hc:=bG I.g;refine ⟨Hc,E',po,aJ (z:=z41) (h41 _) (by kernel_rfl) rfl ?_,Nat.le_refl _,I.P,by omega,I.fr,λq hq=>(I.nm q hq).imp (λh=>h) (λh=>by omega)⟩
   rw[hz];simp only[SIM,z41,hgc]
end
theorem IW (nm:List Nat):∃ e,fh CC 95 (.str nm)=some e/\e=73:=⟨_,by kernel_rfl,rfl⟩
theorem UV (nm:List Nat):∃ e,fh CC 96 (.str nm)=some e/\e=22:=⟨_,by kernel_rfl,rfl⟩
theorem HA {nm:List Nat}{v:AV}{es:List (List Nat×AV)}{vo:Nat}{H:Heap}(h:cr nm es=some v)(hg:ae H vo=some (.map (kE es))):aV CC 95 (.map vo) (.str nm) false H=some v:=by
 obtain ⟨e,he,_⟩:=IW nm;obtain ⟨j,hj⟩:=jc 0 h;rw[aB] at hg;simp only[aV,he,d6,hg,mt,if_true,hj,Bool.false_eq_true,if_false]
theorem Gj {nm:List Nat}{v:AV}{es:List (List Nat×AV)}{vo:Nat}{H:Heap}(h:cr nm es=some v)(hg:ae H vo=some (.map (kE es))):aV CC 96 (.map vo) (.str nm) false H=some v:=by
 obtain ⟨e,he,_⟩:=UV nm;obtain ⟨j,hj⟩:=jc 0 h;rw[aB] at hg;simp only[aV,he,d6,hg,mt,if_true,hj,Bool.false_eq_true,if_false]
structure TE where
 nm:List Nat
 uo:Nat
 u:UN
 ord:AV
 outs:List Nat
def fI (nm:List Nat):List TE->Option TE
 | []=>none
 | t::l=>cond (strEq t.nm nm) (some t) (fI nm l)
abbrev BG (T:List TE):List (List Nat×AV):=T.map λt=>(t.nm,.ptr t.uo 0)
abbrev BI (T:List TE):List (List Nat×AV):=T.map λt=>(t.nm,t.ord)
theorem gM {nm:List Nat}{t:TE}:∀ {T:List TE},fI nm T=some t->cr nm (BG T)=some (.ptr t.uo 0)/\cr nm (BI T)=some t.ord/\t∈T
 | [],h=>by cases h
 | x::l,h=>by
   simp only[fI] at h;simp only[BG,BI,List.map_cons,cr];cases hs:strEq x.nm nm with
   | true =>
     rw[hs] at h;simp only[cond_true,SJ] at h;subst h;exact ⟨rfl,rfl,List.mem_cons_self ..⟩
   | false =>
     rw[hs] at h;simp only[cond_false] at h;obtain ⟨h1,h2,h3⟩:=gM h;exact ⟨h1,h2,List.mem_cons_of_mem _ h3⟩
theorem ou {nm:List Nat}:∀ {T:List TE},fI nm T=none->cr nm (BG T)=none/\cr nm (BI T)=none
 | [],h=>⟨rfl,rfl⟩
 | x::l,h=>by
   simp only[fI] at h;simp only[BG,BI,List.map_cons,cr];cases hs:strEq x.nm nm with
   | true=>rw[hs] at h;cases h
   | false =>
     rw[hs] at h;simp only[cond_false] at h;exact ou h
structure UT (B us um om:Nat)(L:List NdR)(H:Heap)(T:List TE):Prop where
 gus:ae H us=some (.cells [.sl 6 (L.map NdR.v) .dead,.map um,.map om])
 gum:ae H um=some (.map (kE (BG T)))
 gom:ae H om=some (.map (kE (BI T)))
 lt:us<B/\um<B/\om<B
 un:∀ t∈T,Un B H t.uo t.u/\jD t.ord/\sD t.u t.outs
theorem UT.to {B us um om:Nat}{L:List NdR}{H H' : Heap}{T:List TE}(h:UT B us um om L H T)(hl:aa H<=aa H')(hf:∀ q,q<B->ae H' q=ae H q):UT B us um om L H' T :=
 ⟨by rw[hf _ h.lt.1,h.gus],by rw[hf _ h.lt.2.1,h.gum],by rw[hf _ h.lt.2.2,h.gom],h.lt,λt ht=>⟨(h.un t ht).1.to hl hf,(h.un t ht).2⟩⟩
theorem rs101:Ug 101 4:=wZ (by kernel_rfl) (by decide) (λf=>rfl)
theorem Pl.addW {po:Nat}{H:Heap}{ws:List WkF}{W:AV}{es:List EgF}{E:AV}{a:Int}(P:Pl po H ws W es E a)(f:Nat)(w:WkF){b:Nat}(hb:ae H b=some (.cells w.cs))(ho:w.cs.all AV.one=true)(hw:aG (aa H) w.cs=true)(hbn:b∉nmA W)(hl:ws.length<=100000) :
  ∃ n H2,(∀ e,aq CC f 101 W (.rsl b 0 1 1 4) ⟨H,e⟩=some (.rsl (aa H) 0 n n 4,⟨H2,e⟩))/\ae H2 po=some (.cells [W,E,.int .i64 a]) /\
    (∀ b,po<=b->ar 1 (.ptr po 0) (.rsl (aa H) 0 n n 4) ⟨H2,b⟩=some ⟨am H2 po (.cells [.rsl (aa H) 0 n n 4,E,.int .i64 a]),po⟩)/\Pl po (am H2 po (.cells [.rsl (aa H) 0 n n 4,E,.int .i64 a])) (ws++[w]) (.rsl (aa H) 0 n n 4) es E a /\
    aa (am H2 po (.cells [.rsl (aa H) 0 n n 4,E,.int .i64 a]))=aa H+1/\(∀ r,r<aa H->r≠po->r∉nmA W->ae (am H2 po (.cells [.rsl (aa H) 0 n n 4,E,.int .i64 a])) r=ae H r):=by
 obtain ⟨V',H2,a1,a2,⟨n,rfl,hn⟩,a3,a4,a5⟩:=xr rs101 f P.w hb rfl ho hw (by rw[ny];omega) P.po hbn
 have hu2:ae H2 po=some (.cells [W,E,.int .i64 a]):=by rw[a4 po P.po (λhm=>by have:=(P.w.lt _ hm).1;omega),P.ob]
 have st:=λb hb=>lP (k:=4) (r:=aa H) (n:=n) (b:=b) (off:=0) (H:=H2) (by omega) P.po hu2 (by rw[ai];simp) hb
 have hl2:aa (am H2 po (.cells [.rsl (aa H) 0 n n 4,E,.int .i64 a]))=aa H+1:=by rw[ay];exact a3
 have hf:∀ r,r<aa H->r≠po->r∉nmA W->ae (am H2 po (.cells [.rsl (aa H) 0 n n 4,E,.int .i64 a])) r=ae H r:=λr hr hne hn=>by rw[af hne,a4 r hr hn]
 refine ⟨n,H2,a1,hu2,λb hb=>st b hb,⟨aF hu2 _,?_,P.e.mono (by omega) (λr hr hlt=>hf r hlt (by have:=(P.e.lt r hr).1;omega) (λhm=>P.dj r hr hm)),λr hr hm=>?_⟩,hl2,hf⟩
 ·rw[List.flatMap_append];simp only[List.flatMap_cons,List.flatMap_nil,List.append_nil];exact a2.mono (by rw[ay];exact Nat.le_refl _) (λr hr _=>af (by have:=(a2.lt r hr).1;omega) _)
 ·simp only[nmA,List.mem_singleton] at hm;have:=(P.e.lt r hr).2;omega
theorem Pl.setW {po:Nat}{H:Heap}{ws:List WkF}{es:List EgF}{E:AV}{a:Int}{id n i:Nat}{w:WkF}(P:Pl po H ws (.rsl id 0 n n 4) es E a)(hi:ws[i]?=some w)(w' : WkF)(ho:w'.cs.all AV.one=true)(hw:aG (aa H) w'.cs=true):Pl po (am H id (.cells ((ws.set i w').flatMap WkF.cs))) (ws.set i w') (.rsl id 0 n n 4) es E a:=by
 have hpi:=(P.w.lt id (by simp[nmA])).1
 have hm:=P.w;obtain ⟨_,hn⟩|⟨id',n',he,hn0,hg,hln,hone,hlow,hui⟩:=hm
 ·cases hn
 ·simp only[AV.rsl.injEq] at he;obtain ⟨rfl,_,rfl,_,_⟩:=he;obtain ⟨P',R,e1,e2,e3⟩:=wk_split hi;rw[e1] at hone hlow hln;rw[List.all_append,List.all_append,Bool.and_eq_true,Bool.and_eq_true] at hone;rw[dE,dE,Bool.and_eq_true,Bool.and_eq_true] at hlow;refine ⟨by rw[af (by omega)];exact P.ob,.inr ⟨id,n,rfl,hn0,aF hg _,?_,?_,?_,hui⟩,P.e.mono (by rw[ay];exact Nat.le_refl _) (λq hq _=>af (λhe=>P.dj q hq (by rw[he];simp[nmA])) _),P.dj⟩
  ·rw[e3];simp only[List.length_append,List.length_cons,List.length_nil] at hln ⊢;exact hln
  ·rw[e3,List.all_append,List.all_append,ho,hone.1.1,hone.2];rfl
  ·rw[e3,dE,dE,ay,hw,hlow.1.1,hlow.2];rfl
def iD (first:Nat)(fut:List Nat):List (Int×Int)->Option (List Nat)
 | []=>some []
 | o::l=>match jB first fut o with
   | none=>none
   | some v=>match iD first fut l with
     | none=>none
     | some r=>some (v::r)
theorem Tp {l:List (Int×Int)}{fl:Lin}{i:Nat}{o:Int×Int}(h:l[i]?=some o):aL 2 (lV 2 fl (l.map eb)) (.int .i64 (i:Int))=some (.iptr [.int .i64 o.1,.int .i64 o.2]):=by
 cases l with
 | nil=>simp at h
 | cons a l =>
   have:ae ((a::l).map eb) i=some (eb o):=by rw[aB,List.getElem?_map,h];rfl
   exact bN this
theorem Ql {l:List AtF}{fl:Lin}{i:Nat}{a:AtF}(h:l[i]?=some a):aL 3 (lV 3 fl (l.map AtF.av)) (.int .i64 (i:Int))=some (.iptr [.bool a.c,.int .i64 a.n,.int .i64 (a.v:Int)]):=by
 cases l with
 | nil=>simp at h
 | cons b l =>
   have:ae ((b::l).map AtF.av) i=some a.av:=by rw[aB,List.getElem?_map,h];rfl
   exact bN this
theorem qu {T k:Nat}(hT:Ip T=true)(lin:Lin)(xs:List AV):aO CC T (lV k lin xs)=some (.int .i64 (xs.length:Int)):=by
 obtain ⟨h1,h2,h3⟩:=oc hT;cases xs with
 | nil=>exact h2
 | cons a l=>exact h1 _ _ _
section
variable {M:Memo}
structure FuI (wo xo uo:Nat)(ord:AV)(w:WkF)(H Hc:Heap)(V:AV)(acc:List Nat):Prop where
 gw:ae Hc wo=some (.cells w.cs)
 gx:ae Hc xo=some (.cells [.ptr uo 0,ord,V,.int .i64 0])
 lv:LvI xo Hc 1 V (acc.map inV)
 len:aa H<=aa Hc
 fr:∀ q,q<aa H->q≠xo->ae Hc q=ae H q
 nm:∀ q∈nmA V,aa H<=q
def TI (a b c g h s x f1 f2 f3:AV)(r:RG):Prop:=r.a.a.a=a/\r.a.a.b=b/\r.a.a.c=c/\r.a.a.g=g/\r.a.a.h=h/\r.a.b.a=s/\r.a.b.b=x/\r.a.e.f=f1/\r.a.e.g=f2/\r.a.e.h=f3
def Y9 (wo xo uo:Nat)(ord:AV)(w:WkF)(H:Heap)(acc:List Nat)(e:Nat)(R:RG->Prop)(X:IRes):Prop :=
 ∃ r' Hc V,X=some (.exit 2,r',[],⟨Hc,e⟩)/\FuI wo xo uo ord w H Hc V acc/\R r'
theorem in_same:∀ l:List Nat,sameL (l.map inV) (l.map inV)=true
 | []=>by simp[sameL]
 | a::l=>by rw[List.map_cons];simp[sameL,AV.same,in_same l]
theorem Dc {uo:Nat}{H:Heap}{V:AV}{l:List Nat}(h:LvI uo H 1 V (l.map inV)):AV.same V V=true:=by
 rcases h with ⟨_,h1⟩|⟨_,id,g,h1,_⟩
 ·rw[h1];simp[AV.same]
 ·rw[h1];simp[AV.same,in_same l]
theorem Bu (h63:∀ a,M 63 a=none){wo xo uo:Nat}{ord:AV}{w:WkF}{H:Heap}(hwo:wo<xo)(hxo:xo<aa H)(hwu:w.uo<aa H)(hord:jD w.ord)(hfl:w.fl.low (aa H)=true)(hfi:w.first<=100000){F:List (Int×Int)}{fl:Lin}(hF:F.length<=90000){e:Nat}(he:e<=xo){a b c h s f1 f2 f3:AV} :
  ∀ (k j:Nat),k+j=F.length->∀ (fu:Nat),k<fu->∀ (Hc:Heap) (V:AV) (acc:List Nat),acc.length<=j->FuI wo xo uo ord w H Hc V acc->∀ (out:List Nat),iD w.first w.fut (F.drop j)=some out->∀ (r:RG),TI a b c (.ptr wo 0) h s (.ptr xo 0) f1 f2 f3 r->(r.a.h.e=lV 2 fl (F.map eb)/\r.a.h.f=.int .i64 (F.length:Int)/\r.a.h.g=.int .i64 (j:Int)) ->
  Y9 wo xo uo ord w H (acc++out) e (TI a b c (.ptr wo 0) h s (.ptr xo 0) f1 f2 f3) (ax (nK (orc CC M)) fu r [] ⟨Hc,e⟩):=by
 intro k
 induction k with
 | zero =>
   intro j hj fu hfu Hc V acc hacc I out ho r hR ⟨h60,h61,h62⟩;obtain ⟨fu',rfl⟩ : ∃ f,fu=f+1:=⟨fu-1,by omega⟩
   have:j=F.length:=by omega
   subst this;have hc:decide ((F.length:Int)<(F.length:Int))=false:=by simp
   rw[List.drop_length] at ho;simp only[iD,SJ] at ho;subst ho;rw[List.append_nil];simp only[ax,nK,B6,SIM,ST1,h61,h62,hc];exact ⟨_,Hc,V,rfl,I,hR⟩
 | succ k ih =>
   intro j hj fu hfu Hc V acc hacc I out ho r hR ⟨h60,h61,h62⟩;obtain ⟨fu',rfl⟩ : ∃ f,fu=f+1:=⟨fu-1,by omega⟩
   have hlt:j<F.length:=by omega
   have hc:decide ((j:Int)<(F.length:Int))=true:=by simp;omega
   have hd:F.drop j=F[j]::F.drop (j+1):=List.drop_eq_getElem_cons hlt;have hg:F[j]?=some F[j]:=by simp[hlt]
   generalize F[j]=o at hd hg;rw[hd] at ho;simp only[iD] at ho
   split at ho
   ·cases ho
   rename_i v hv
   split at ho
   ·cases ho
   rename_i r0 hr0;simp only[SJ] at ho;subst ho;have hias:=Tp (fl:=fl) hg;have ha:bR (j:Int) 1=((j+1:Nat):Int):=aZ j 1 (by unfold natMax;omega)
   have hlen:=I.len;have hl1:aa (Hc++[.cells [.int .i64 o.1,.int .i64 o.2]])=aa Hc+1:=by rw[az];rfl
   have gx1:=au I.gx [.cells [.int .i64 o.1,.int .i64 o.2]];have gw1:=au I.gw [.cells [.int .i64 o.1,.int .i64 o.2]];have L1:LvI xo (Hc++[.cells [.int .i64 o.1,.int .i64 o.2]]) 1 V (acc.map inV):=I.lv.mono (by omega) (λq _ hq=>aU hq)
   have go1:ae (Hc++[.cells [.int .i64 o.1,.int .i64 o.2]]) (aa Hc)=some (.cells [.int .i64 o.1,.int .i64 o.2]):=by rw[an];rfl
   have horg:=pL (M:=M) h63 (uo:=w.uo) (ord:=w.ord) hv (H:=Hc++[.cells [.int .i64 o.1,.int .i64 o.2]]) (by omega) hord (Lin.low_mono (b:=aa H) (by omega) _ hfl) hfi
   rw[hl1] at horg;obtain ⟨V',H2,hap,L2,l2,f2,n2⟩:=oP (f:=40) (by kernel_rfl) L1 v (by omega) (by omega)
   have hxn:xo∉nmA V:=λhm=>by have:=(I.lv.lt _ hm).1;omega
   have gx2:ae H2 xo=some (.cells [.ptr uo 0,ord,V,.int .i64 0]):=by rw[f2 xo (by omega) hxn,gx1]
   have st:=λb hb=>xM (b:=b) (off:=2) L2 (by simp) gx2 (by rw[ai];simp) hb
   have st':=st e he;have st'c:=st';unfold ar at st'c;simp only[gx2,AV.cells] at st'c;have hp4:∀ a b c d v:AV,db [a,b,c,d] 2 [v]=[a,b,v,d]:=λ_ _ _ _ _=>rfl
   rw[hp4] at st' st'c
   have hne:∀ q,q<aa H->q≠xo->ae (am H2 xo (.cells [.ptr uo 0,ord,V',.int .i64 0])) q=ae Hc q:=λq hq hq2=>by
    rw[af hq2,f2 q (by omega) (λhm=>by have:=I.nm _ hm;omega),aU (by omega)]
   have I2:FuI wo xo uo ord w H (am H2 xo (.cells [.ptr uo 0,ord,V',.int .i64 0])) V' (acc++[v]):=by
    refine ⟨by rw[hne wo (by omega) (by omega),I.gw],aF gx2 _,L2.mono (by rw[ay];exact Nat.le_refl _) (λq hq _=>af (by have:=(L2.lt q hq).1;omega) _),by rw[ay];omega,λq hq hq2=>by rw[hne q hq hq2,I.fr q hq hq2],λq hq=>?_⟩
    rcases n2 q hq with h1|h1
    ·exact I.nm q h1
    ·omega
   have key:=ih (j+1) (by omega) fu' (by omega) _ V' (acc++[v]) (by simp;omega) I2 r0 hr0
   rw[List.append_assoc,List.singleton_append] at key;have hbs:=mj v;have hsame:=Dc I.lv;have hm1:min e (aa Hc+1)=e:=by omega
   obtain ⟨h0,h1,h2,h6,h7,h8,h9,h37,h38,h39⟩:=hR;simp only[ax,nK,B6,KA,ND,Ho,SIM,ST0,ST1,h6,h9,h60,h61,h62,hc,hias,gx1,gw1,go1,horg,hm1,hsame,hbs,hap,orVal,EXS,gx2,st',st'c,AV.cells,ha,Nat.reduceAdd,Nat.reduceLeDiff];exact key _ ⟨by first|rfl|exact h0,by first|rfl|exact h1,by first|rfl|exact h2,by first|rfl|exact h6,by first|rfl|exact h7,by first|rfl|exact h8,by first|rfl|exact h9,by first|rfl|exact h37,by first|rfl|exact h38,by first|rfl|exact h39⟩ ⟨by first|rfl|exact h60,by first|rfl|exact h61,rfl⟩
def im (i to:Nat):List AtF->Nat->List EgF->List EgF
 | [],_,es=>es
 | x::l,k,es=>im i to l (k+1) (es++[⟨i,to,true,x,k,[],.lit⟩])
theorem RZ (a b c n v k:Int)(x:Bool):ao CC 109 [(0,.int .i64 a),(1,.int .i64 b),(2,.bool true),(3,.agg [.bool x,.int .i64 n,.int .i64 v]),(4,.int .i64 k)]=some (.agg [.int .i64 a,.int .i64 b,.bool true,.bool x,.int .i64 n,.int .i64 v,.int .i64 k,.nils]):=by kernel_rfl
structure ArI (po:Nat)(ws:List WkF)(W:AV)(at_:Int)(H:Heap)(E0:AV)(Hc:Heap)(es:List EgF)(E:AV):Prop where
 P:Pl po Hc ws W es E at_
 len:aa H<=aa Hc
 fr:∀ q,q<aa H->q≠po->q∉nmA E0->ae Hc q=ae H q
 nm:∀ q∈nmA E,q∈nmA E0\/aa H<=q
def Y2 (po:Nat)(ws:List WkF)(W:AV)(at_:Int)(H:Heap)(E0:AV)(es:List EgF)(e:Nat)(R:RG->Prop)(X:IRes):Prop :=
 ∃ r' Hc E,X=some (.exit 4,r',[],⟨Hc,e⟩)/\ArI po ws W at_ H E0 Hc es E/\R r'
theorem gi (i to:Nat):∀ (l:List AtF) (k:Nat) (es:List EgF),(im i to l k es).length=es.length+l.length
 | [],k,es=>rfl
 | x::l,k,es=>by
   simp only[im,gi i to l,List.length_append,List.length_cons,List.length_nil];omega
theorem Bh {po:Nat}{ws:List WkF}{W:AV}{at_:Int}{H:Heap}{E0:AV}{A:List AtF}{al:Lin}(hA:A.length<=90000){i kk fst wo:Nat}(hfk:fst+kk<=200000){w:WkF}(hwf:w.first=fst)(hwo:wo<aa H)(hwp:wo≠po)(hwE:wo∉nmA E0)(gw:ae H wo=some (.cells w.cs)){es' : List EgF}(hl' : es'.length<=100000){b s x f1 f2 f3:AV} :
  ∀ (k j:Nat),k+j=A.length->∀ (fu:Nat),k<fu->∀ (Hc:Heap) (es:List EgF) (E:AV),ArI po ws W at_ H E0 Hc es E->im i (fst+kk) (A.drop j) j es=es'->∀ (e:Nat),po<=e->∀ (r:RG),TI (.ptr po 0) b (.int .i64 (i:Int)) (.ptr wo 0) (.int .i64 (kk:Int)) s x f1 f2 f3 r->(r.b.b.e=lV 3 al (A.map AtF.av)/\r.b.b.f=.int .i64 (A.length:Int)/\r.b.b.g=.int .i64 (j:Int)) ->
  Y2 po ws W at_ H E0 es' (cond (Nat.beq k 0) e po) (TI (.ptr po 0) b (.int .i64 (i:Int)) (.ptr wo 0) (.int .i64 (kk:Int)) s x f1 f2 f3) (ax (nU (orc CC M)) fu r [] ⟨Hc,e⟩):=by
 intro k
 induction k with
 | zero =>
   intro j hj fu hfu Hc es E I hm e he r hR ⟨h76,h77,h78⟩;obtain ⟨fu',rfl⟩ : ∃ f,fu=f+1:=⟨fu-1,by omega⟩
   have:j=A.length:=by omega
   subst this;have hc:decide ((A.length:Int)<(A.length:Int))=false:=by simp
   rw[List.drop_length] at hm;simp only[im] at hm;subst hm;simp only[ax,nU,xi,SIM,ST2,h77,h78,hc];exact ⟨_,Hc,E,rfl,I,hR⟩
 | succ k ih =>
   intro j hj fu hfu Hc es E I hm e he r hR ⟨h76,h77,h78⟩;obtain ⟨fu',rfl⟩ : ∃ f,fu=f+1:=⟨fu-1,by omega⟩
   have hlt:j<A.length:=by omega
   have hc:decide ((j:Int)<(A.length:Int))=true:=by simp;omega
   have hd:A.drop j=A[j]::A.drop (j+1):=List.drop_eq_getElem_cons hlt;have hg:A[j]?=some A[j]:=by simp[hlt]
   generalize A[j]=y at hd hg;rw[hd] at hm;simp only[im] at hm;have hias:=Ql (fl:=al) hg;have ha:bR (j:Int) 1=((j+1:Nat):Int):=aZ j 1 (by unfold natMax;omega)
   have hfk' : bR (fst:Int) (kk:Int)=((fst+kk:Nat):Int):=aZ fst kk (by unfold natMax;omega)
   have hlen:=I.len;have P1:=I.P.ap (K:=[.cells [.bool y.c,.int .i64 y.n,.int .i64 (y.v:Int)]]);have hl1:aa (Hc++[.cells [.bool y.c,.int .i64 y.n,.int .i64 (y.v:Int)]])=aa Hc+1:=by rw[az];rfl
   have hesl:es.length<=100000:=by
    have:=gi i (fst+kk) (A.drop (j+1)) (j+1) (es++[⟨i,fst+kk,true,y,j,[],.lit⟩]);rw[hm] at this;simp only[List.length_append,List.length_cons,List.length_nil] at this;omega
   obtain ⟨E',H2,hap,hg2,hst,P2,hl2,hf2,hn2⟩:=P1.addE 40 ⟨i,fst+kk,true,y,j,[],.lit⟩ rfl hesl
   have I2:ArI po ws W at_ H E0 (am H2 po (.cells [W,E',.int .i64 at_])) (es++[⟨i,fst+kk,true,y,j,[],.lit⟩]) E':=by
    refine ⟨P2,by omega,λq hq hne hn=>?_,λq hq=>?_⟩
    ·rw[hf2 q (by omega) hne (λhm'=>?_),aU (by omega),I.fr q hq hne hn]
     rcases I.nm _ hm' with h|h
     ·exact hn h
     ·omega
    ·rcases hn2 q hq with h|h
     ·exact I.nm q h
     ·exact .inr (by omega)
   have key:=ih (j+1) (by omega) fu' (by omega) _ _ _ I2 hm po (Nat.le_refl _)
   have hk0:cond (Nat.beq k 0) po po=po:=by cases Nat.beq k 0<;>rfl
   rw[hk0] at key;have hk1:cond (Nat.beq (k+1) 0) e po=po:=rfl;rw[hk1];have hg1:=P1.ob;have gwc:ae Hc wo=some (.cells w.cs):=by rw[I.fr wo hwo hwp hwE,gw]
   have gw1:=au gwc [.cells [.bool y.c,.int .i64 y.n,.int .i64 (y.v:Int)]];have go1:ae (Hc++[.cells [.bool y.c,.int .i64 y.n,.int .i64 (y.v:Int)]]) (aa Hc)=some (.cells [.bool y.c,.int .i64 y.n,.int .i64 (y.v:Int)]):=by rw[an];rfl
   have hst':=hst e he;have hst3:=hst';unfold ar at hst3;simp only[hg2,AV.cells] at hst3;have h109:=RZ (i:Int) ((fst+kk:Nat):Int) 0 y.n (y.v:Int) (j:Int) y.c;have hbs:=λa b n v p x c=>Hk a b n v p x c .nils (.inl rfl)
   have hap' : ∀ ee lin,aq CC 40 102 E (.sl 8 [.agg [.int .i64 (i:Int),.int .i64 ((fst+kk:Nat):Int),.bool true,.bool y.c,.int .i64 y.n,.int .i64 (y.v:Int),.int .i64 (j:Int),.nils]] lin) ⟨Hc++[.cells [.bool y.c,.int .i64 y.n,.int .i64 (y.v:Int)]],ee⟩=some (E',⟨H2,ee⟩):=hap;have hfc:(w.first:Int)=(fst:Int):=by rw[hwf]
   rw[WkF.cs,hfc] at gw1;obtain ⟨h0,h1,h2,h6,h7,h8,h9,h37,h38,h39⟩:=hR;simp only[ax,nU,xi,C9,HS,ET,SIM,ST0,ST2,h0,h2,h6,h7,h76,h77,h78,hc,hias,gw1,go1,hg1,hfk',h109,hbs,hap',orVal,EXS,hg2,hst',hst3,AV.cells,ha,Nat.reduceAdd,Nat.reduceLeDiff];exact key _ ⟨by first|rfl|exact h0,by first|rfl|exact h1,by first|rfl|exact h2,by first|rfl|exact h6,by first|rfl|exact h7,by first|rfl|exact h8,by first|rfl|exact h9,by first|rfl|exact h37,by first|rfl|exact h38,by first|rfl|exact h39⟩ ⟨by first|rfl|exact h76,by first|rfl|exact h77,rfl⟩
end
structure WkM where
 t:TE
 fut:List Nat
 first:Nat
abbrev WkM.k (m:WkM):Nat×UN×AV×List Nat×Nat:=(m.t.uo,m.t.u,m.t.ord,m.fut,m.first)
abbrev WkF.k (w:WkF):Nat×UN×AV×List Nat×Nat:=(w.uo,w.u,w.ord,w.fut,w.first)
def cP (T:List TE)(i first:Nat)(fut:List Nat):List SpF->Nat->List WkM->List EgF->Option (List WkM×List EgF)
 | [],_,ms,es=>some (ms,es)
 | s::l,k,ms,es=>match fI s.nd T with
   | none=>none
   | some t=>match iD first fut s.futs with
     | none=>none
     | some out=>cP T i first fut l (k+1) (ms++[⟨t,out,0⟩]) (im i (first+k) s.args 0 es)
theorem ib {T:List TE}{i first:Nat}{fut:List Nat}:∀ {l:List SpF} {k:Nat} {ms ms' : List WkM} {es es' : List EgF},cP T i first fut l k ms es=some (ms',es')->ms.length<=ms'.length/\es.length<=es'.length
 | [],k,ms,ms',es,es',h=>by
   simp only[cP,SJ,PJ] at h;rw[h.1,h.2];exact ⟨Nat.le_refl _,Nat.le_refl _⟩
 | s::l,k,ms,ms',es,es',h=>by
   simp only[cP] at h
   split at h
   ·cases h
   split at h
   ·cases h
   have:=ib h;rw[gi] at this;simp only[List.length_append,List.length_cons,List.length_nil] at this;omega
theorem Lc {uo:Nat}{H:Heap}{S:AV}{l:List SpF}{k:Nat}{s:SpF}(h:RsI uo H 4 S (l.flatMap SpF.cs))(hk:l[k]?=some s) :
  ∃ id n,S=.rsl id 0 n n 4/\k<n/\ae H id=some (.cells (l.flatMap SpF.cs))/\bg 4 (fb (k*4) (l.flatMap SpF.cs))=s.cs/\decide (k*4+4<=aa (l.flatMap SpF.cs))=true/\aG (aa H) s.cs=true:=by
 obtain ⟨P,R,e1,e2,e3⟩:=sp_split hk
 have hlt:k<l.length:=by
  rcases Nat.lt_or_ge k l.length with h|h
  ·exact h
  ·rw[List.getElem?_eq_none h] at hk;cases hk
 have hl:=nI l
 rcases h with ⟨h0,_⟩|⟨id,n,h0,_,h2,hln,_,hlow,_⟩
 ·rw[h0] at hl;simp only[List.length_nil] at hl;omega
 ·rw[hl] at hln;rw[e1] at hlow;rw[dE,dE,Bool.and_eq_true,Bool.and_eq_true] at hlow;refine ⟨id,n,h0,by omega,h2,?_,?_,hlow.1.2⟩
  ·rw[e1,bU,kQ,<-e2,List.append_assoc,List.drop_left];rfl
  ·rw[ai,hl];simp;omega
theorem Na (p:Nat)(o:AV)(h:jD o):ao CC 106 [(0,.ptr p 0),(1,o)]=some (.agg [.ptr p 0,o,.nils,.int .i64 0]):=by
 rcases h with rfl|⟨l,rfl⟩
 ·have:∀ p:Nat,ao CC 106 [(0,.ptr p 0),(1,.nils)]=some (.agg [.ptr p 0,.nils,.nils,.int .i64 0]):=λ_=>by kernel_rfl
  exact this _
 ·have:∀ (p:Nat) (l:List AV),ao CC 106 [(0,.ptr p 0),(1,.sl 1 l .dead)]=some (.agg [.ptr p 0,.sl 1 l .dead,.nils,.int .i64 0]):=λ_ _=>by kernel_rfl
  exact this _ _
theorem Q0 (p:Nat)(o V:AV)(z:Int)(h:jD o)(hV:V=.nils\/∃ k l q,V=.sl k l q):fZ CC 101 1 [(0,.agg [.ptr p 0,o,V,.int .i64 z])]=some (4,[.agg [.ptr p 0,o,V,.int .i64 z]]):=by
 have h1:∀ (p:Nat) (z:Int),fZ CC 101 1 [(0,.agg [.ptr p 0,.nils,.nils,.int .i64 z])]=some (4,[.agg [.ptr p 0,.nils,.nils,.int .i64 z]]):=λ_ _=>by kernel_rfl
 have h2:∀ (p:Nat) (z:Int) (l:List AV),fZ CC 101 1 [(0,.agg [.ptr p 0,.sl 1 l .dead,.nils,.int .i64 z])]=some (4,[.agg [.ptr p 0,.sl 1 l .dead,.nils,.int .i64 z]]):=λ_ _ _=>by kernel_rfl
 have h3:∀ (p:Nat) (z:Int) (k:Nat) (m:List AV) (q:Lin),fZ CC 101 1 [(0,.agg [.ptr p 0,.nils,.sl k m q,.int .i64 z])]=some (4,[.agg [.ptr p 0,.nils,.sl k m q,.int .i64 z]]):=λ_ _ _ _ _=>by kernel_rfl
 have h4:∀ (p:Nat) (z:Int) (l:List AV) (k:Nat) (m:List AV) (q:Lin),fZ CC 101 1 [(0,.agg [.ptr p 0,.sl 1 l .dead,.sl k m q,.int .i64 z])]=some (4,[.agg [.ptr p 0,.sl 1 l .dead,.sl k m q,.int .i64 z]]):=λ_ _ _ _ _ _=>by kernel_rfl
 rcases h with rfl|⟨l,rfl⟩<;>rcases hV with rfl|⟨k,m,q,rfl⟩
 ·exact h1 _ _
 ·exact h3 _ _ _ _ _
 ·exact h2 _ _ _
 ·exact h4 _ _ _ _ _ _
theorem EH (p:Nat)(o V:AV)(h:jD o)(hV:V=.nils\/∃ k l q,V=.sl k l q)(z:Int)(L:Nat)(hp:p<L)(hl:V.low L=true):iz CC 101 1 [(0,.agg [.ptr p 0,o,V,.int .i64 z])] L=some (.cells [.ptr p 0,o,V,.int .i64 z],λr=>.rsl r 0 1 1 4):=by
 have hlow:aG L [.agg [.ptr p 0,o,V,.int .i64 z]]=true:=by simp[aG,AV.low,hp,hl,eI h L]
 unfold iz;rw[Q0 p o V z h hV];simp only[hlow,if_true];rfl
section
variable {M:Memo}{B po us um om i:Nat}{L:List NdR}{T:List TE}{at_:Int}
structure SpI (B po us um om:Nat)(L:List NdR)(T:List TE)(at_:Int)(H:Heap)(w:WkF)(W0 E0:AV)(Hc:Heap)(ms:List WkM)(ws:List WkF)(W:AV)(es:List EgF)(E:AV):Prop where
 P:Pl po Hc ws W es E at_
 T:UT B us um om L Hc T
 gw:ae Hc (aa H)=some (.cells w.cs)
 R:ws.map WkF.k=ms.map WkM.k
 fl:∀ x∈ws,x.fl.low (aa Hc)=true
 fr:∀ q,q<aa H->q≠po->q∉nmA W0->q∉nmA E0->ae Hc q=ae H q
 nW:∀ q∈nmA W,q∈nmA W0\/aa H<q
 nE:∀ q∈nmA E,q∈nmA E0\/aa H<q
def YY (B po us um om:Nat)(L:List NdR)(T:List TE)(at_:Int)(H:Heap)(w:WkF)(W0 E0:AV)(ms:List WkM)(es:List EgF)(e:Nat)(X:IRes):Prop :=
 ∃ r' Hc ws W E,X=some (.exit 0,r',[],⟨Hc,e⟩)/\SpI B po us um om L T at_ H w W0 E0 Hc ms ws W es E
theorem xh (h63:∀ a,M 63 a=none)(hB:B<=po){H:Heap}(hpo:po<aa H){w:WkF}{W0 E0:AV}(hW0:∀ q∈nmA W0,q<aa H/\B<=q)(hE0:∀ q∈nmA E0,q<aa H/\B<=q)(hwU:Un B H w.uo w.u)(hord:jD w.ord)(hfl:w.fl.low (aa H)=true)(hfi:w.first<=100000)(hsl:w.u.sp.length<=90000)(hsa:∀ s∈w.u.sp,s.args.length<=90000/\s.futs.length<=90000){ms' : List WkM}{es' : List EgF}(hlm:ms'.length<=100000)(hle:es'.length<=100000) :
  ∀ (k j:Nat),k+j=w.u.sp.length->∀ (fu:Nat),k<fu->∀ (Hc:Heap) (ms:List WkM) (ws:List WkF) (W:AV) (es:List EgF) (E:AV),SpI B po us um om L T at_ H w W0 E0 Hc ms ws W es E->cP T i w.first w.fut (w.u.sp.drop j) j ms es=some (ms',es')->∀ (e:Nat),po<=e->e<=aa H->∀ (r:RG),(r.a.a.a=.ptr po 0/\r.a.a.b=.ptr us 0/\r.a.a.c=.int .i64 (i:Int)/\r.a.a.g=.ptr (aa H) 0)->(r.a.e.f=w.u.S/\r.a.e.g=.int .i64 (w.u.sp.length:Int)/\r.a.e.h=.int .i64 (j:Int)) ->
  YY B po us um om L T at_ H w W0 E0 ms' es' (cond (Nat.beq k 0) e po) (ax (eQ (orc CC M)) fu r [] ⟨Hc,e⟩):=by
 intro k
 induction k with
 | zero =>
   intro j hj fu hfu Hc ms ws W es E I hm e he he2 r ⟨h0,h1,h2,h6⟩ ⟨h37,h38,h39⟩;obtain ⟨fu',rfl⟩ : ∃ f,fu=f+1:=⟨fu-1,by omega⟩
   have:j=w.u.sp.length:=by omega
   subst this;have hc:decide ((w.u.sp.length:Int)<(w.u.sp.length:Int))=false:=by simp
   rw[List.drop_length] at hm;simp only[cP,SJ,PJ] at hm;obtain ⟨rfl,rfl⟩:=hm;simp only[ax,eQ,pu,SIM,ST1,h38,h39,hc];exact ⟨_,Hc,ws,W,E,rfl,I⟩
 | succ k ih =>
   intro j hj fu hfu Hc ms ws W es E I hm e he he2 r ⟨h0,h1,h2,h6⟩ ⟨h37,h38,h39⟩;obtain ⟨fu',rfl⟩ : ∃ f,fu=f+1:=⟨fu-1,by omega⟩
   have hlt:j<w.u.sp.length:=by omega
   have hc:decide ((j:Int)<(w.u.sp.length:Int))=true:=by simp;omega
   have hd:w.u.sp.drop j=w.u.sp[j]::w.u.sp.drop (j+1):=List.drop_eq_getElem_cons hlt;have hg:w.u.sp[j]?=some w.u.sp[j]:=by simp[hlt]
   generalize w.u.sp[j]=s at hd hg;rw[hd] at hm;simp only[cP] at hm
   split at hm
   ·cases hm
   rename_i t ht
   split at hm
   ·cases hm
   rename_i out hout;have hsm:s∈w.u.sp:=List.mem_of_getElem? hg;obtain ⟨hsa1,hsf1⟩:=hsa s hsm;have ha:bR (j:Int) 1=((j+1:Nat):Int):=aZ j 1 (by unfold natMax;omega)
   have hHc:aa H<aa Hc:=bG I.gw;have hfB:∀ q,q<B->q≠po/\q∉nmA W0/\q∉nmA E0:=λq hq=>⟨by omega,λhm=>by have:=(hW0 _ hm).2;omega,λhm=>by have:=(hE0 _ hm).2;omega⟩
   have hwUc:Un B Hc w.uo w.u:=hwU.to (by omega) (λq hq=>I.fr q (by omega) (hfB q hq).1 (hfB q hq).2.1 (hfB q hq).2.2)
   obtain ⟨sid,sn,hS,hsn,hgS,htd,hlS,hlow⟩:=Lc hwUc.U.s hg;have hi4:=lc (q:=sid) hsn;obtain ⟨hu1,hu2,htm⟩:=gM ht;obtain ⟨hun,hto,_⟩:=I.T.un t htm
   let so:AObj:=.cells s.cs
   let xo:AObj:=.cells [.ptr t.uo 0,t.ord,.nils,.int .i64 0]
   have hl2:aa (Hc++[so,xo])=aa Hc+2:=by rw[az];rfl
   have F0:FuI (aa H) (aa Hc+1) t.uo t.ord w (Hc++[so,xo]) (Hc++[so,xo]) .nils [] :=
    ⟨au I.gw _,by rw[aW];rfl,.inl ⟨rfl,rfl⟩,Nat.le_refl _,λ_ _ _=>rfl,λq hq=>by cases hq⟩
   have hl0:aa (Hc++[so])=aa Hc+1:=by rw[az];rfl
   obtain ⟨r1,hR1,hk1,s1⟩ : ∃ r1:RG,TI (.ptr po 0) (.ptr us 0) (.int .i64 (i:Int)) (.ptr (aa H) 0) (.int .i64 (j:Int)) (.ptr (aa Hc) 0) (.ptr (aa Hc+1) 0) w.u.S (.int .i64 (w.u.sp.length:Int)) (.int .i64 (j:Int)) r1/\(r1.a.h.e=lV 2 s.fl (s.futs.map eb)/\r1.a.h.f=.int .i64 (s.futs.length:Int)/\r1.a.h.g=.int .i64 ((0:Nat):Int)) /\
     ac (zu (orc CC M)) (ac (Ao (orc CC M)) (xE (orc CC M))) (st r 40 (.bool true)) [] ⟨Hc,e⟩=some (.normal,r1,[],⟨Hc++[so,xo],e⟩):=by
    have hst4:∀ ee,ar 4 (.ptr (aa Hc) 0) (.agg s.cs) ⟨Hc++[.cells [.str [],.nils,.nils,.int .i64 0]],ee⟩=some ⟨Hc++[so],ee⟩:=λee=>by
     refine (jJ (n:=4) (e:=ee) (cs:=[.str [],.nils,.nils,.int .i64 0]) (b:=aa Hc) (r:=aa Hc) (v:=.agg s.cs) (by rw[an];rfl) rfl (by rw[ai];simp) (by simp only[AV.cells,SpF.cs,List.all_cons,List.all_nil,fQ,Bool.and_true];rfl) (by simpa [AV.low] using hlow) (Nat.le_refl _)).trans ?_
     rw[bJ];rfl
    have hgz:ae (Hc++[AObj.cells [.str [],.nils,.nils,.int .i64 0]]) (aa Hc)=some (.cells [.str [],.nils,.nils,.int .i64 0]):=by rw[an];rfl
    have hst4c:=hst4;unfold ar at hst4c;simp only[hgz,AV.cells] at hst4c;have gso:ae (Hc++[so]) (aa Hc)=some (.cells s.cs):=by rw[an];rfl
    have gus:=au I.T.gus [so,.gone];have hlk1:=HA hu1 (au I.T.gum [so,.gone]);have hlk2:=Gj hu2 (au I.T.gom [so,.gone]);have h106:=Na t.uo t.ord hto;have hset:∀ c:AObj,am (Hc++[so,.gone]) (aa Hc+1) c=Hc++[so,c]:=λc=>by rw[dT];rfl
    have hgx0:∀ c:AObj,ae (Hc++[so,c]) (aa Hc+1)=some c:=λc=>by rw[aW];rfl
    have hgx1:∀ c:AObj,ae (Hc++[so,c]) (aa Hc)=some (.cells s.cs):=λc=>by rw[an];rfl
    have hstx:∀ ee,ar 4 (.ptr (aa Hc+1) 0) (.agg [.ptr t.uo 0,t.ord,.nils,.int .i64 0]) ⟨Hc++[so,.cells [.nilp,.nils,.nils,.int .i64 0]],ee⟩=some ⟨Hc++[so,xo],ee⟩:=λee=>by
     have hB':=hun.lt;have htl:t.uo<aa Hc:=by omega
     have hxlow:AV.low (aa Hc) (.agg [.ptr t.uo 0,t.ord,.nils,.int .i64 0])=true:=by simp[AV.low,aG,eI hto,htl]
     refine (jJ (n:=4) (e:=ee) (cs:=[.nilp,.nils,.nils,.int .i64 0]) (b:=aa Hc) (r:=aa Hc+1) (v:=.agg [.ptr t.uo 0,t.ord,.nils,.int .i64 0]) (hgx0 _) rfl (by rw[ai];simp) (by simp only[AV.cells,List.all_cons,List.all_nil,gu hto,Bool.and_true];rfl) hxlow (by omega)).trans ?_
     rw[dT];rfl
    have hstxc:=hstx;unfold ar at hstxc;simp only[hgx0,AV.cells] at hstxc;have hln:=qu (T:=148) (k:=2) (by kernel_rfl) s.fl (s.futs.map eb)
    rw[List.length_map] at hln;simp only[zu,Ao,xE,SIM,ST0,ST1,h0,h1,h2,h6,h37,h38,h39,hS,hi4,hgS,htd,hlS,hst4,hst4c,AV.cells,gso,gus,hlk1,hlk2,h106,hset,hgx0,hgx1,hstx,hstxc,ff,List.append_assoc,List.cons_append,List.nil_append,hl0,hln,Nat.reduceAdd,Nat.reduceLeDiff];exact ⟨_,⟨by first|rfl|exact h0,by first|rfl|exact h1,by first|rfl|exact h2,by first|rfl|exact h6,rfl,rfl,rfl,by first|rfl|exact h37.trans hS|exact h37,by first|rfl|exact h38,by first|rfl|exact h39⟩,⟨rfl,rfl,rfl⟩,rfl⟩
   have b0:∀ (i:Nat) (b:CZ) (r:RG) (s:St),aH i (aK b) r [] s=c9 i (ax b 100000 r [] s):=λ_ _ _ _=>rfl
   obtain ⟨r2,Hc3,V,s2,I3,hR2⟩:=Bu (M:=M) h63 (w:=w) (F:=s.futs) (fl:=s.fl) (e:=e) (by omega:aa H<aa Hc+1) (by rw[hl2];omega) (by rw[hl2];have:=hwU.lt;omega) hord (Lin.low_mono (b:=aa H) (by rw[hl2];omega) _ hfl) hfi hsf1 (by omega) s.futs.length 0 (by omega) 100000 (by omega) _ .nils [] (by simp) F0 out (by simpa using hout) r1 hR1 hk1
   rw[List.nil_append] at I3;have hl3:=I3.len;rw[hl2] at hl3
   have f3:∀ q,q<aa Hc->ae Hc3 q=ae Hc q:=λq hq=>by
    rw[I3.fr q (by rw[hl2];omega) (by omega),aU hq]
   have P3:Pl po Hc3 ws W es E at_:=I.P.to (by omega) (λq hq _=>f3 q hq)
   have gs3:ae Hc3 (aa Hc)=some so:=by rw[I3.fr _ (by rw[hl2];omega) (by omega),an];rfl
   obtain ⟨r3,hR3,hk3,s3⟩ : ∃ r3:RG,TI (.ptr po 0) (.ptr us 0) (.int .i64 (i:Int)) (.ptr (aa H) 0) (.int .i64 (j:Int)) (.ptr (aa Hc) 0) (.ptr (aa Hc+1) 0) w.u.S (.int .i64 (w.u.sp.length:Int)) (.int .i64 (j:Int)) r3/\(r3.b.b.e=lV 3 s.al (s.args.map AtF.av)/\r3.b.b.f=.int .i64 (s.args.length:Int)/\r3.b.b.g=.int .i64 ((0:Nat):Int)) /\
     qY (orc CC M) r2 [] ⟨Hc3,e⟩=some (.normal,r3,[],⟨Hc3,e⟩):=by
    obtain ⟨h0',h1',h2',h6',h7',h8',h9',h37',h38',h39'⟩:=hR2;have hln:=qu (T:=139) (k:=3) (by kernel_rfl) s.al (s.args.map AtF.av)
    rw[List.length_map] at hln;have gs3' : ae Hc3 (aa Hc)=some (.cells s.cs):=gs3;simp only[qY,SIM,ST2,h8',gs3',hln,Nat.reduceAdd,Nat.reduceLeDiff];exact ⟨_,⟨by first|rfl|exact h0',by first|rfl|exact h1',by first|rfl|exact h2',by first|rfl|exact h6',by first|rfl|exact h7',by first|rfl|exact h8',by first|rfl|exact h9',by first|rfl|exact h37',by first|rfl|exact h38',by first|rfl|exact h39'⟩,⟨rfl,rfl,rfl⟩,rfl⟩
   have hwoE:aa H∉nmA E:=λhm'=>by
    rcases I.nE _ hm' with h|h
    ·have:=(hE0 _ h).1;omega
    ·omega
   have hwoW:aa H∉nmA W:=λhm'=>by
    rcases I.nW _ hm' with h|h
    ·have:=(hW0 _ h).1;omega
    ·omega
   have A0:ArI po ws W at_ Hc3 E Hc3 es E:=⟨P3,Nat.le_refl _,λ_ _ _ _=>rfl,λq hq=>.inl hq⟩
   have hml:=ib hm;rw[gi] at hml;obtain ⟨r4,Hc4,E4,s4,A4,hR4⟩:=Bh (al:=s.al) (i:=i) (kk:=j) (fst:=w.first) (wo:=aa H) hsa1 (by omega) (w:=w) rfl (by omega) (by omega) hwoE (by rw[f3 _ hHc];exact I.gw) (es':=im i (w.first+j) s.args 0 es) (by rw[gi];omega) s.args.length 0 (by omega) 100000 (by omega) Hc3 es E A0 (by simp) e he r3 hR3 hk3
   have he4:po<=cond (Nat.beq s.args.length 0) e po/\cond (Nat.beq s.args.length 0) e po<=aa H:=by
    cases Nat.beq s.args.length 0 with
    | true=>exact ⟨he,he2⟩
    | false=>exact ⟨Nat.le_refl _,by show po<=aa H;omega⟩
   generalize cond (Nat.beq s.args.length 0) e po=e4 at s4 he4;have hxp:aa Hc+1≠po:=by omega
   have hxE:aa Hc+1∉nmA E:=λhm'=>by have:=(I.P.e.lt _ hm').2;omega
   have hl4:=A4.len;have gx4:ae Hc4 (aa Hc+1)=some (.cells [.ptr t.uo 0,t.ord,V,.int .i64 0]):=by rw[A4.fr _ (by omega) hxp hxE];exact I3.gx
   have hVs:V=.nils\/∃ k l q,V=.sl k l q:=by
    rcases I3.lv with ⟨_,h⟩|⟨_,id,g,h,_⟩
    ·exact .inl h
    ·exact .inr ⟨_,_,_,h⟩
   obtain ⟨vl,hVe,hvl⟩ : ∃ vl:Lin,V=lV 1 vl (out.map inV)/\vl.low (aa Hc3)=true:=by
    rcases I3.lv with ⟨h,h'⟩|⟨h,id,g,h',hg',_⟩
    ·exact ⟨.lit,by rw[h,h'];rfl,rfl⟩
    ·refine ⟨.live id g,?_,by have:=bG hg';simp[Lin.low,this]⟩
     rw[h'];cases ho' : out.map inV with
     | nil=>exact absurd ho' h
     | cons a l=>rfl
   let wn:WkF:=⟨t.uo,t.u,t.ord,out,vl,0⟩
   have hwnc:wn.cs=[.ptr t.uo 0,t.ord,V,.int .i64 0]:=by rw[hVe];rfl
   have hVlow:V.low (aa Hc4)=true:=by rw[hVe];exact qn (Lin.low_mono hl4 _ hvl)
   have htl4:t.uo<aa Hc4:=by have:=hun.lt;omega
   have hwlow:aG (aa Hc4) wn.cs=true:=by rw[hwnc];simp[aG,AV.low,htl4,hVlow,eI hto]
   have hwone:wn.cs.all AV.one=true:=by
    simp only[wn,List.all_cons,List.all_nil,fQ,gu hto,Bool.and_true];rfl
   have P5:=A4.P.ap (K:=[.cells wn.cs]);have hl5:aa (Hc4++[.cells wn.cs])=aa Hc4+1:=by rw[az];rfl
   have hwsl:ws.length<=100000:=by
    have:=congrArg List.length I.R;simp only[List.length_map] at this;simp only[List.length_append,List.length_cons,List.length_nil] at hml;omega
   obtain ⟨n,H6,hap,hg6,hst,P6,hl6,hf6⟩:=P5.addW 40 wn (b:=aa Hc4) (by rw[an];rfl) hwone (bO (by rw[hl5];omega) _ hwlow) (λhm'=>by have:=(A4.P.w.lt _ hm').2;omega) hwsl
   rw[hl5] at hap hst P6 hl6 hf6
   have hW6:∀ q,q<aa Hc->q≠po->q∉nmA W->q∉nmA E->ae (am H6 po (.cells [.rsl (aa Hc4+1) 0 n n 4,E4,.int .i64 at_])) q=ae Hc q:=λq hq h1 h2 h3=>by
    rw[hf6 q (by omega) h1 h2,aU (by omega),A4.fr q (by omega) h1 h3,f3 q hq]
   have hfr:∀ q,q<aa H->q≠po->q∉nmA W0->q∉nmA E0->ae (am H6 po (.cells [.rsl (aa Hc4+1) 0 n n 4,E4,.int .i64 at_])) q=ae H q:=λq hq h1 h2 h3=>by
    rw[hW6 q (by omega) h1 (λhm'=>?_) (λhm'=>?_),I.fr q hq h1 h2 h3]
    ·rcases I.nW _ hm' with h|h
     ·exact h2 h
     ·omega
    ·rcases I.nE _ hm' with h|h
     ·exact h3 h
     ·omega
   have hBW:∀ q,q<B->q∉nmA W/\q∉nmA E:=λq hq=>⟨λhm'=>by
    rcases I.nW _ hm' with h|h
    ·have:=(hW0 _ h).2;omega
    ·omega,λhm'=>by
    rcases I.nE _ hm' with h|h
    ·have:=(hE0 _ h).2;omega
    ·omega⟩
   have I6:SpI B po us um om L T at_ H w W0 E0 (am H6 po (.cells [.rsl (aa Hc4+1) 0 n n 4,E4,.int .i64 at_])) (ms++[⟨t,out,0⟩]) (ws++[wn]) (.rsl (aa Hc4+1) 0 n n 4) (im i (w.first+j) s.args 0 es) E4:=by
    refine ⟨P6,I.T.to (by omega) (λq hq=>hW6 q (by omega) (by omega) (hBW q hq).1 (hBW q hq).2),by rw[hW6 _ hHc (by omega) hwoW hwoE,I.gw],by rw[List.map_append,List.map_append,I.R];rfl,λx hx=>?_,hfr,λq hq=>?_,λq hq=>?_⟩
    ·rcases List.mem_append.1 hx with hx|hx
     ·exact Lin.low_mono (by omega) _ (I.fl x hx)
     ·simp only[List.mem_singleton] at hx;rw[hx];exact Lin.low_mono (by omega) _ hvl
    ·simp only[nmA,List.mem_singleton] at hq;exact .inr (by omega)
    ·rcases A4.nm q hq with h|h
     ·exact I.nE q h
     ·exact .inr (by omega)
   obtain ⟨r5,hk5,s5⟩ : ∃ r5:RG,((r5.a.a.a=.ptr po 0/\r5.a.a.b=.ptr us 0/\r5.a.a.c=.int .i64 (i:Int)/\r5.a.a.g=.ptr (aa H) 0)/\(r5.a.e.f=w.u.S/\r5.a.e.g=.int .i64 (w.u.sp.length:Int)/\r5.a.e.h=.int .i64 (j:Int))) /\
     qU (orc CC M) r4 [] ⟨Hc4,e4⟩=some (.normal,r5,[],⟨am H6 po (.cells [.rsl (aa Hc4+1) 0 n n 4,E4,.int .i64 at_]),po⟩):=by
    obtain ⟨h0',h1',h2',h6',h7',h8',h9',h37',h38',h39'⟩:=hR4;have hb4:=A4.P.ob;have hb4g:=au hb4 [.gone];have gx4g:=au gx4 [.gone];have hlm101:=λL' (h:aa Hc4<=L')=>EH t.uo t.ord V hto hVs 0 L' (by omega) (AV.low_mono h _ hVlow)
    have hset:∀ c:AObj,am (Hc4++[.gone]) (aa Hc4) c=Hc4++[c]:=λc=>by rw[bJ];rfl
    have hlm1:=hlm101 (Hc4).length (by rw[ai];exact Nat.le_refl _)
    have hlm2:=hlm101 (Hc4++[AObj.gone]).length (by rw[ai];simp)
    have hlm3:=hlm101 (aa Hc4) (Nat.le_refl _);rw[hwnc] at hap;have hst':=hst e4 he4.1;have hst3:=hst';unfold ar at hst3;simp only[hg6,AV.cells] at hst3;simp only[qU,SIM,ST0,ST1,h0',h9',hb4,hb4g,gx4,gx4g,hlm1,hlm2,hlm3,dA,hset,hap,orVal,EXS,hg6,hst',hst3,AV.cells,ff,List.append_assoc,List.cons_append,List.nil_append,Nat.reduceAdd,Nat.reduceLeDiff];exact ⟨_,⟨⟨by first|rfl|exact h0',by first|rfl|exact h1',by first|rfl|exact h2',by first|rfl|exact h6'⟩,⟨by first|rfl|exact h37',by first|rfl|exact h38',by first|rfl|exact h39'⟩⟩,rfl⟩
   obtain ⟨⟨k0,k1,k2,k6⟩,k37,k38,k39⟩:=hk5
   have hbody:eQ (orc CC M) r [] ⟨Hc,e⟩=some (.normal,st r5 39 (.int .i64 ((j+1:Nat):Int)),[],⟨am H6 po (.cells [.rsl (aa Hc4+1) 0 n n 4,E4,.int .i64 at_]),po⟩):=by
    have hX:∀ X:CZ,ac (pu (orc CC M)) (ac (aA (.t 40) skipZ (ba 0)) X) r [] ⟨Hc,e⟩=X (st r 40 (.bool true)) [] ⟨Hc,e⟩:=λX=>by
     simp only[pu,SIM,ST1,h38,h39,hc]
    have hq:eQ (orc CC M)=ac (pu (orc CC M)) (ac (aA (.t 40) skipZ (ba 0)) (ac (aH 1 (ac (ac (zu (orc CC M)) (ac (Ao (orc CC M)) (xE (orc CC M)))) (ac (aH 2 (aK (nK (orc CC M)))) (ac (qY (orc CC M)) (ac (aH 4 (aK (nU (orc CC M)))) (qU (orc CC M))))))) (vn (orc CC M)))):=by
     funext x d s
     simp only[eQ,eH]
    rw[hq,hX,bv,wK,bv,s1,bk,bv,b0,s2,ck,bk,bv,s3,bk,bv,b0,s4,ck,bk,s5,v8,bk];simp only[vn,SIM,k39,ha]
   have key:=ih (j+1) (by omega) fu' (by omega) _ _ _ _ _ _ I6 hm po (Nat.le_refl _) (by omega) (st r5 39 (.int .i64 ((j+1:Nat):Int))) ⟨k0,k1,k2,k6⟩ ⟨k37,k38,rfl⟩
   have hk0:cond (Nat.beq k 0) po po=po:=by cases Nat.beq k 0<;>rfl
   rw[hk0] at key;have hk1:cond (Nat.beq (k+1) 0) e po=po:=rfl;rw[hk1];have hlp:ax (eQ (orc CC M)) (fu'+1) r [] ⟨Hc,e⟩=dI (ax (eQ (orc CC M)) fu') (eQ (orc CC M) r [] ⟨Hc,e⟩):=rfl;rw[hlp,hbody,bk];exact key
end
section
variable {M:Memo}{B po us um om i:Nat}{L:List NdR}{T:List TE}{at_:Int}
theorem KW {ws:List WkF}{ms:List WkM}(R:ws.map WkF.k=ms.map WkM.k){i f:Nat}{w:WkF}{m:WkM}(hk:w.k=m.k):(ws.set i { w with first:=f }).map WkF.k=(ms.set i { m with first:=f }).map WkM.k:=by
 rw[List.map_set,List.map_set,R];simp only[WkF.k,WkM.k,PJ] at hk;obtain ⟨h1,h2,h3,h4,h5⟩:=hk;simp only[WkF.k,WkM.k,h1,h2,h3,h4]
theorem Nq {ws:List WkF}{ms:List WkM}(R:ws.map WkF.k=ms.map WkM.k){i:Nat}{m:WkM}(h:ms[i]?=some m):∃ w,ws[i]?=some w/\w.k=m.k:=by
 have h1:(ws.map WkF.k)[i]?=some m.k:=by rw[R,List.getElem?_map,h];rfl
 rw[List.getElem?_map] at h1;cases hw:ws[i]? with
 | none=>rw[hw] at h1;cases h1
 | some w=>rw[hw] at h1;exact ⟨w,rfl,by simpa using h1⟩
theorem QX {ws:List WkF}{i f:Nat}{w:WkF}(h:ws[i]?=some w):db (ws.flatMap WkF.cs) (i*4+3) [.int .i64 (f:Int)]=(ws.set i { w with first:=f }).flatMap WkF.cs:=by
 obtain ⟨P,R,e1,e2,e3⟩:=wk_split h;rw[e1,e3];show am (P++w.cs++R) (i*4+3) (.int .i64 (f:Int))=_;rw[<-e2,List.append_assoc,aR,List.set_append_right _ _ (by omega),Nat.add_sub_cancel_left,List.append_assoc]
 rfl
theorem u4 (h40:∀ a,M 40 a=none)(h63:∀ a,M 63 a=none)(hB:B<=po){H:Heap}{ms ms' : List WkM}{ws:List WkF}{W:AV}{es es' : List EgF}{E:AV}(P:Pl po H ws W es E at_)(U:UT B us um om L H T)(R:ws.map WkF.k=ms.map WkM.k)(hfl:∀ x∈ws,x.fl.low (aa H)=true)(hW0:∀ q∈nmA W,B<=q)(hE0:∀ q∈nmA E,B<=q){m:WkM}(hmi:ms[i]?=some m)(hmT:m.t∈T)(hsl:m.t.u.sp.length<=90000)(hsa:∀ s∈m.t.u.sp,s.args.length<=90000/\s.futs.length<=90000)(hlm:ms'.length<=100000)(hle:es'.length<=100000)
  (hm:cP T i ms.length m.fut m.t.u.sp 0 (ms.set i { m with first:=ms.length }) es=some (ms',es')) :
  ∃ H' ws' W' E' e,orc CC M 40 [.ptr po 0,.ptr us 0,.int .i64 (i:Int)] H=some (.ret Abs.undef H' e)/\po<=e/\Pl po H' ws' W' es' E' at_/\ws'.map WkF.k=ms'.map WkM.k/\(∀ x∈ws',x.fl.low (aa H')=true)/\aa H<=aa H'/\(∀ q,q<aa H->q≠po->q∉nmA W->q∉nmA E->ae H' q=ae H q)/\(∀ q∈nmA W',q∈nmA W\/aa H<=q)/\(∀ q∈nmA E',q∈nmA E\/aa H<=q):=by
 have hpo:=P.po;obtain ⟨w,hwi,hwk⟩:=Nq R hmi;have hwk':=hwk;simp only[WkF.k,WkM.k,PJ] at hwk';obtain ⟨k1,k2,k3,k4,k5⟩:=hwk';obtain ⟨hun,hto,_⟩:=U.un m.t hmT;have hlen:ws.length=ms.length:=by have:=congrArg List.length R;simpa using this
 obtain ⟨id,n,hW,hn,hin,hgW⟩:=vI P.w hwi;have hwm:w∈ws:=List.mem_of_getElem? hwi
 let w1:WkF:={ w with first:=ms.length }
 have hfl1:=hfl w hwm;have hord:jD w.ord:=by rw[k3];exact hto
 have hun' : Un B H w.uo w.u:=by rw[k1,k2];exact hun
 have hwl:=bG hun'.U.ob
 have hlow1:aG (aa H) w1.cs=true:=by
  have:=qn (l:=w.fut) hfl1;simp[w1,aG,AV.low,this,eI hord,hwl]
 have hone1:w1.cs.all AV.one=true:=by
  simp only[w1,List.all_cons,List.all_nil,fQ,gu hord,Bool.and_true];rfl
 subst hW;have P1:=P.setW hwi w1 hone1 hlow1;have hi4:=lc (q:=id) hin;have hln:aO CC 101 (.rsl id 0 n n 4)=some (.int .i64 (n:Int)):=(oc (T:=101) (by kernel_rfl)).2.2 _ _ _ _
 have hmlen:=(ib hm).1;rw[List.length_set] at hmlen;have hg0:=P.ob;have hput:=QX (f:=ms.length) hwi;have hwl4:=ny ws
 have hsto:∀ e,ar 1 (.ptr id (i*4+3)) (.int .i64 (n:Int)) ⟨H,e⟩=some ⟨am H id (.cells ((ws.set i w1).flatMap WkF.cs)),e⟩:=λe=>by
  refine (Ea (n:=1) (off:=i*4+3) (v:=.int .i64 (n:Int)) hgW rfl (by rw[ai,hwl4];omega) rfl rfl).trans ?_
  have hnl:(n:Int)=(ms.length:Int):=by omega
  show some (⟨am H id (.cells (db (ws.flatMap WkF.cs) (i*4+3) [.int .i64 (n:Int)])),e⟩ : St)=_;rw[hnl,hput]
 have hstoc:=hsto;unfold ar at hstoc;simp only[hgW,AV.cells] at hstoc
 have hwi1:(ws.set i w1)[i]?=some w1:=by
  rw[List.getElem?_set_self]
  rcases Nat.lt_or_ge i ws.length with h|h
  ·exact h
  ·rw[List.getElem?_eq_none h] at hwi;cases hwi
 obtain ⟨htd,hle4,_⟩:=xu hwi1;have hl1:aa (am H id (.cells ((ws.set i w1).flatMap WkF.cs)))=aa H:=ay _ _ _;have hf1:∀ q,q≠id->ae (am H id (.cells ((ws.set i w1).flatMap WkF.cs))) q=ae H q:=λq hq=>af hq _
 have hidB:B<=id:=hW0 id (by simp[nmA])
 have U1:UT B us um om L (am H id (.cells ((ws.set i w1).flatMap WkF.cs))) T:=U.to (by omega) (λq hq=>hf1 q (by omega))
 have hun1:Un B (am H id (.cells ((ws.set i w1).flatMap WkF.cs))) w.uo w.u:=hun'.to (by omega) (λq hq=>hf1 q (by omega))
 have hgW1:=aF hgW (.cells ((ws.set i w1).flatMap WkF.cs));have hf2:∀ q,q≠id->q<aa H->ae (am H id (.cells ((ws.set i w1).flatMap WkF.cs))) q=ae H q:=λq hq _=>hf1 q hq
 generalize hH1:am H id (.cells ((ws.set i w1).flatMap WkF.cs))=H1 at *;have hg1:=P1.ob
 have hst4:∀ ee,ar 4 (.ptr (aa H1) 0) (.agg w1.cs) ⟨H1++[.cells [.nilp,.nils,.nils,.int .i64 0]],ee⟩=some ⟨H1++[.cells w1.cs],ee⟩:=λee=>by
  refine (jJ (n:=4) (e:=ee) (cs:=[.nilp,.nils,.nils,.int .i64 0]) (b:=aa H1) (r:=aa H1) (v:=.agg w1.cs) (by rw[an];rfl) rfl (by rw[ai];simp) (by simpa [AV.cells] using hone1) (by rw[hl1];simpa [AV.low] using hlow1) (Nat.le_refl _)).trans ?_
  rw[bJ];rfl
 have hgz:ae (H1++[AObj.cells [.nilp,.nils,.nils,.int .i64 0]]) (aa H1)=some (.cells [.nilp,.nils,.nils,.int .i64 0]):=by rw[an];rfl
 have hst4c:=hst4;unfold ar at hst4c;simp only[hgz,AV.cells] at hst4c;have gw1:ae (H1++[.cells w1.cs]) (aa H1)=some (.cells w1.cs):=by rw[an];rfl
 have guw:ae (H1++[.cells w1.cs]) w1.uo=some (.cells w.u.c):=au hun1.U.ob [.cells w1.cs];have hslen:=hun1.U.slen
 obtain ⟨r1,hr1,hk1,s1⟩ : ∃ r1:RG,(r1.a.a.a=.ptr po 0/\r1.a.a.b=.ptr us 0/\r1.a.a.c=.int .i64 (i:Int)/\r1.a.a.g=.ptr (aa H1) 0)/\(r1.a.e.f=w1.u.S/\r1.a.e.g=.int .i64 (w1.u.sp.length:Int)/\r1.a.e.h=.int .i64 ((0:Nat):Int)) /\
   ac (yG (orc CC M)) (ac (xZ (orc CC M)) (x8 (orc CC M))) (envOf [.ptr po 0,.ptr us 0,.int .i64 (i:Int)] 0 env0) [] ⟨H,aa H⟩=some (.normal,r1,[],⟨H1++[.cells w1.cs],aa H⟩):=by
  have e0:(envOf [.ptr po 0,.ptr us 0,.int .i64 (i:Int)] 0 env0).a.a.a=.ptr po 0:=rfl;have e1:(envOf [.ptr po 0,.ptr us 0,.int .i64 (i:Int)] 0 env0).a.a.b=.ptr us 0:=rfl;have e2:(envOf [.ptr po 0,.ptr us 0,.int .i64 (i:Int)] 0 env0).a.a.c=.int .i64 (i:Int):=rfl;generalize envOf [.ptr po 0,.ptr us 0,.int .i64 (i:Int)] 0 env0=R' at e0 e1 e2;simp only[yG,xZ,x8,SIM,ST0,ST1,e0,e1,e2,hg0,hln,hi4,hsto,hstoc,hg1,hgW1,htd,hle4,hst4,hst4c,AV.cells,gw1,guw,yq,hslen,Nat.reduceAdd,Nat.reduceLeDiff];exact ⟨_,⟨by first|rfl|exact e0,by first|rfl|exact e1,by first|rfl|exact e2,rfl⟩,⟨rfl,rfl,rfl⟩,rfl⟩
 have I0:SpI B po us um om L T at_ H1 w1 (.rsl id 0 n n 4) E (H1++[.cells w1.cs]) (ms.set i { m with first:=ms.length }) (ws.set i w1) (.rsl id 0 n n 4) es E:=by
  refine ⟨P1.ap,U1.to (by rw[az];omega) (λq hq=>aU (by omega)),gw1,KW R hwk,λx hx=>?_,λq hq _ _ _=>aU hq,λq hq=>.inl hq,λq hq=>.inl hq⟩
  rcases List.mem_or_eq_of_mem_set hx with h|h
  ·exact Lin.low_mono (by rw[az];omega) _ (hfl x h)
  ·rw[h];exact Lin.low_mono (b:=aa H) (by rw[az];omega) _ hfl1
 have hEl:∀ q∈nmA E,q<aa H1/\B<=q:=λq hq=>⟨(P1.e.lt q hq).2,hE0 q hq⟩
 have hWl:∀ q∈nmA (.rsl id 0 n n 4),q<aa H1/\B<=q:=λq hq=>⟨(P1.w.lt q hq).2,hW0 q hq⟩
 have hk2' : w.u=m.t.u:=k2;have hfi:w1.first<=100000:=by show ms.length<=100000;omega
 have hsl1:w1.u.sp.length<=90000:=by show w.u.sp.length<=90000;rw[hk2'];exact hsl
 have hsa1:∀ s∈w1.u.sp,s.args.length<=90000/\s.futs.length<=90000:=by show ∀ s∈w.u.sp,_;rw[hk2'];exact hsa
 have hm1:cP T i w1.first w1.fut (w1.u.sp.drop 0) 0 (ms.set i { m with first:=ms.length }) es=some (ms',es'):=by
  show cP T i ms.length w.fut (w.u.sp.drop 0) 0 _ es=_;rw[List.drop_zero,hk2',k4];exact hm
 have b0:∀ (i:Nat) (b:CZ) (r:RG) (s:St),aH i (aK b) r [] s=c9 i (ax b 100000 r [] s):=λ_ _ _ _=>rfl
 have hze:∀ x d s,z40.sh (orc CC M) x d s=ac (ac (yG (orc CC M)) (ac (xZ (orc CC M)) (x8 (orc CC M)))) (aH 0 (aK (eQ (orc CC M)))) x d s:=λx d s=>by
  simp only[z40,eH]
 cases hws:w1.u.sp.length with
 | zero =>
   have hnil:w1.u.sp=[]:=List.eq_nil_of_length_eq_zero hws;rw[hnil] at hm1;simp only[List.drop_nil,cP,SJ,PJ] at hm1;obtain ⟨rfl,rfl⟩:=hm1;obtain ⟨_,h20,h21⟩:=hk1
   obtain ⟨r2,s2⟩ : ∃ r2,∀ fu,ax (eQ (orc CC M)) (fu+1) r1 [] ⟨H1++[.cells w1.cs],aa H⟩=some (.exit 0,r2,[],⟨H1++[.cells w1.cs],aa H⟩):=by
    have hc:decide (((0:Nat):Int)<((0:Nat):Int))=false:=by simp
    rw[hws] at h20;simp only[ax,eQ,pu,SIM,ST1,h20,h21,hc];exact ⟨_,λ_=>rfl⟩
   have hz:z40.sh (orc CC M) (envOf [.ptr po 0,.ptr us 0,.int .i64 (i:Int)] 0 env0) [] ⟨H,aa H⟩=some (.normal,r2,[],⟨H1++[.cells w1.cs],aa H⟩):=by
    rw[hze,bv,s1,bk,b0,s2 99999,ck]
   have hgc:=dC (k:=CC.keep 40) (b:=aa H) (v:=Abs.undef) (hp:=H1++[.cells w1.cs]) rfl;have htk:bg (aa H) (H1++[.cells w1.cs])=H1:=by rw[<-hl1];exact bP _ _
   refine ⟨H1,_,_,_,aa H,aJ (z:=z40) (h40 _) (by kernel_rfl) rfl ?_,by omega,P1,KW R hwk,λx hx=>?_,by omega,λq hq hq1 hq2 hq3=>hf1 q (λhe=>hq2 (by rw[he];simp[nmA])),λq hq=>.inl hq,λq hq=>.inl hq⟩
   ·rw[hz];simp only[SIM,z40,hgc,htk]
   ·rcases List.mem_or_eq_of_mem_set hx with h|h
    ·rw[hl1];exact hfl x h
    ·rw[h,hl1];exact hfl1
 | succ k =>
   obtain ⟨r2,Hc,ws',W',E',s2,I⟩:=xh (M:=M) (i:=i) h63 hB (H:=H1) (by omega) hWl hEl (w:=w1) hun1 hord (by rw[hl1];exact hfl1) hfi hsl1 hsa1 hlm hle w1.u.sp.length 0 (by omega) 100000 (by omega) _ _ _ _ _ _ I0 hm1 (aa H) (by omega) (by omega) r1 hr1 hk1
   rw[hws] at s2;have hk:cond (Nat.beq (k+1) 0) (aa H) po=po:=rfl;rw[hk] at s2
   have hz:z40.sh (orc CC M) (envOf [.ptr po 0,.ptr us 0,.int .i64 (i:Int)] 0 env0) [] ⟨H,aa H⟩=some (.normal,r2,[],⟨Hc,po⟩):=by
    rw[hze,bv,s1,bk,b0,s2,ck]
   have hgc:=dL (keep:=CC.keep 40) (base:=aa H) (e:=po) (v:=Abs.undef) (hp:=Hc) (by omega)
   have hlc:aa H1<aa Hc:=bG I.gw;refine ⟨Hc,ws',W',E',po,aJ (z:=z40) (h40 _) (by kernel_rfl) rfl ?_,Nat.le_refl _,I.P,I.R,I.fl,by omega,λq hq h1 h2 h3=>?_,λq hq=>(I.nW q hq).imp (λh=>h) (λh=>by omega),λq hq=>(I.nE q hq).imp (λh=>h) (λh=>by omega)⟩
   ·rw[hz];simp only[SIM,z40,hgc]
   ·rw[I.fr q (by omega) h1 h2 h3]
    exact hf1 q (λhe=>h2 (by rw[he];simp[nmA]))
end
end Go.Proofs
