/- balance.Check. Part of the proof of girandolelaw13.BalanceRings. -/
import Derived.Test.YtglacbfdbfhmfaaGreatDoorSp2
import Derived.Test.YtglacbfdbfhmfaaGreatDoorDec
set_option linter.unusedVariables false
set_option linter.unusedSimpArgs false
set_option maxRecDepth 1000000
namespace Go.Proofs
open Go Go.Abs
def tC (q:EgN):Bool:=match q.ah with
 | []=>true
 | _::_=>false
noncomputable def lfA:List EgN->List Nat->Option (List Nat)
 | [],L=>some L
 | q::l,L=>cond (tC q) (match ae L q.to with
   | none=>none
   | some a=>cond (Nat.blt a 90000) (lfA l (ak L q.to (a+1))) none) (lfA l L)
noncomputable def lE (w:Nat):List EgN->List Nat->List Nat->Option (List Nat×List Nat)
 | [],L,R=>some (L,R)
 | q::l,L,R=>cond (Nat.beq q.fr w&&tC q) (match ae L q.to with
   | none=>none
   | some a=>cond (Nat.beq a 0||Nat.ble 90000 a||Nat.ble 90000 R.length) none (lE w l (ak L q.to (Nat.pred a)) (cond (Nat.beq a 1) (R++[q.to]) R))) (lE w l L R)
noncomputable def lU (es:List EgN):Nat->List Nat->List Nat->Nat->Option Nat
 | 0,_,_,_=>none
 | fu+1,L,R,n=>match R with
   | []=>some n
   | k::r=>match lE k es L r with
     | none=>none
     | some (L',r')=>lU es fu L' r' (n+1)
theorem lfA_len:∀ (l:List EgN) (L L' : List Nat),lfA l L=some L'->L'.length=L.length
 | [],L,L',h=>by simp only[lfA,SJ] at h;rw[h]
 | q::l,L,L',h=>by
   simp only[lfA] at h;cases hz:tC q with
   | false=>rw[hz] at h;exact lfA_len l _ _ h
   | true =>
     rw[hz] at h;simp only[cond_true] at h
     split at h
     ·cases h
     ·obtain ⟨_,h⟩:=aS h;rw[lfA_len l _ _ h,<-ai,ar,ai]
theorem ot (w:Nat):∀ (l:List EgN) (L R L' R' : List Nat),lE w l L R=some (L',R')->L'.length=L.length
 | [],L,R,L',R',h=>by simp only[lE,SJ,PJ] at h;rw[h.1]
 | q::l,L,R,L',R',h=>by
   simp only[lE] at h;cases hz:(Nat.beq q.fr w&&tC q) with
   | false=>rw[hz] at h;exact ot w l _ _ _ _ h
   | true =>
     rw[hz] at h;simp only[cond_true] at h
     split at h
     ·cases h
     ·rename_i a _;cases hcd:(Nat.beq a 0||Nat.ble 90000 a||Nat.ble 90000 R.length) with
      | true=>rw[hcd] at h;cases h
      | false =>
        rw[hcd] at h;rw[ot w l _ _ _ _ h,<-ai,ar,ai]
theorem Fw {uo:Nat}{H:Heap}{V:AV}{l:List EgF}(h:LvI uo H 8 V (l.map EgF.av)){i:Nat}{q:EgF}(hq:l[i]?=some q):aO 8 V (.int .i64 (i:Int))=some (.iptr (w9 q))/\(lV 1 q.lin (q.ah.map il)).low (aa H)=true:=by
 rcases h with ⟨h0,_⟩|⟨h0,id,g,rfl,hg,hu,hw⟩
 ·simp at h0;rw[h0] at hq;simp at hq
 ·have hgq:(l.map EgF.av)[i]?=some q.av:=by rw[List.getElem?_map,hq];rfl
  refine ⟨bO (by rw[az,hgq]),?_⟩
  have hm:q.av∈l.map EgF.av:=List.mem_of_getElem? hgq
  have key:∀ xs:List AV,aH (aa H) xs=true->∀ x∈xs,x.low (aa H)=true:=by
   intro xs
   induction xs with
   | nil=>intro _ x hx;cases hx
   | cons a l ih =>
     intro h x hx;simp only[aH,Bool.and_eq_true] at h
     rcases List.mem_cons.1 hx with rfl|hx
     ·exact h.1
     ·exact ih h.2 x hx
  have:=key _ hw _ hm;simp only[AV.low,aH,Bool.and_eq_true] at this;exact this.2.2.2.2.2.2.2.1
theorem Sr.ap {H2 Hc K:Heap}{l:Nat}{L:List Nat}{V O:AV}{R out:List Nat}(S:Sr H2 l Hc L V O R out)(hl2:l<aa H2):Sr H2 l (Hc++K) L V O R out :=
 ⟨λq hq hql=>by rw[aZ (by have:=S.len;omega)];exact S.fr q hq hql,ay S.gl K,by rw[aB];have:=S.len;omega,S.oR.mono (λq hq=>aZ (S.oR.lt q hq).2),S.oO.mono (λq hq=>aZ (S.oO.lt q hq).2),S.dj⟩
abbrev egZ:AObj:=.cells [.int .i64 0,.int .i64 0,.bool false,.bool false,.int .i64 0,.int .i64 0,.int .i64 0,.nils]
theorem CY {Hc:Heap}{q:EgF}(h:(lV 1 q.lin (q.ah.map il)).low (aa Hc)=true)(ee:Nat):aq 8 (.ptr (aa Hc) 0) (.agg (w9 q)) ⟨Hc++[egZ],ee⟩=some ⟨Hc++[.cells (w9 q)],ee⟩:=by
 refine (jF (n:=8) (e:=ee) (cs:=[.int .i64 0,.int .i64 0,.bool false,.bool false,.int .i64 0,.int .i64 0,.int .i64 0,.nils]) (b:=aa Hc) (r:=aa Hc) (v:=.agg (w9 q)) (by rw[au];rfl) rfl (by rw[ai];simp) (by simp only[AV.cells,List.all_cons,List.all_nil,f7,Bool.and_true];rfl) (by simp[AV.low,aH,h]) (Nat.le_refl _)).trans ?_
 rw[bN];rfl
theorem LB (lin:Lin)(l:List Int):aQ CC 32 (lV 1 lin (l.map il))=some (.int .i64 (l.length:Int)):=by
 have:=qz (T:=32) (k:=1) (by kernel_rfl) lin (l.map il)
 rwa [List.length_map] at this
theorem MK {q:EgF}:decide (((q.ah.length:Nat):Int)=0)=tC q.n:=by
 have:∀ l:List Int,decide (((l.length:Nat):Int)=0)=(match l with
  | []=>true
  | _::_=>false):=λl=>by
  cases l with
  | nil=>rfl
  | cons a l=>simp only[List.length_cons,decide_eq_false_iff_not];omega
 exact this q.ah
section
variable {M:Memo}{po l m c0 e:Nat}{H H2:Heap}
theorem EK (hl2:l<aa H2){es:List EgF}{E:AV}(hE:LvI po H 8 E (es.map EgF.av))(hH:aa H<=aa H2)(hes:es.length<=100000){L' : List Nat}:∀ (k i:Nat),k+i=es.length->∀ (fu:Nat),k<fu->∀ (Hc:Heap) (L:List Nat),L.length=m->lfA ((es.map EgF.n).drop i) L=some L'->Sr H2 l Hc L .nils .nils [] []->∀ (r:RG),(r.a.a.a=.ptr po 0/\r.a.a.c=.ptr c0 0/\r.a.a.d=.rsl l 0 m m 1) ->
  (r.a.c.d=E/\r.a.c.e=.int .i64 (es.length:Int)/\r.a.c.f=.int .i64 (i:Int)) ->
  ∃ r' Hd,am (pS (orc CC M)) fu r [] ⟨Hc,e⟩=some (.exit 0,r',[],⟨Hd,e⟩)/\Sr H2 l Hd L' .nils .nils [] []/\(r'.a.a.a=.ptr po 0/\r'.a.a.c=.ptr c0 0/\r'.a.a.d=.rsl l 0 m m 1):=by
 intro k
 induction k with
 | zero =>
   intro i hi fu hfu Hc L hm hs S r ⟨h0,h2,h3⟩ ⟨h19,h20,h21⟩;obtain ⟨fu',rfl⟩ : ∃ f,fu=f+1:=⟨fu-1,by omega⟩
   have:i=es.length:=by omega
   subst this;have hc:decide ((es.length:Int)<(es.length:Int))=false:=by simp
   have hdl:(es.map EgF.n).drop es.length=[]:=by rw[<-List.length_map (f:=EgF.n),List.drop_length]
   rw[hdl] at hs;simp only[lfA,SJ] at hs;subst hs;simp only[am,pS,y9,SIM,ST0,h20,h21,hc];exact ⟨_,Hc,rfl,S,by first|exact h0,by first|exact h2,by first|exact h3⟩
 | succ k ih =>
   intro i hi fu hfu Hc L hm hs S r ⟨h0,h2,h3⟩ ⟨h19,h20,h21⟩;obtain ⟨fu',rfl⟩ : ∃ f,fu=f+1:=⟨fu-1,by omega⟩
   have hlt:i<es.length:=by omega
   have hc:decide ((i:Int)<(es.length:Int))=true:=by simp;omega
   have ha:bP (i:Int) 1=((i+1:Nat):Int):=aW i 1 (by unfold natMax;omega)
   have hd:(es.map EgF.n).drop i=(es[i]).n::(es.map EgF.n).drop (i+1):=by
    rw[List.drop_eq_getElem_cons (by rw[List.length_map];exact hlt),List.getElem_map]
   have hg:es[i]?=some es[i]:=by simp[hlt]
   generalize es[i]=q at hd hg;obtain ⟨hias,hlow⟩:=Fw hE hg;rw[hd] at hs;simp only[lfA] at hs;have hlen:=S.len;have hst:=λee=>CY (Hc:=Hc) (q:=q) (AV.low_mono (by omega) _ hlow) ee
   have hgz:ae (Hc++[egZ]) (aa Hc)=some egZ:=by rw[au];rfl
   have hstc:=hst;unfold aq at hstc;simp only[hgz,AV.cells] at hstc;have hge:ae (Hc++[.cells (w9 q)]) (aa Hc)=some (.cells (w9 q)):=by rw[au];rfl
   have h32:=LB q.lin q.ah;have hz0:=MK (q:=q);have g7:∀ a b c d e f g h:AV,ae [a,b,c,d,e,f,g,h] 7=some h:=λ_ _ _ _ _ _ _ _=>rfl
   have S1:=S.ap (K:=[.cells (w9 q)]) hl2;cases hz:tC q.n with
   | false =>
     rw[hz] at hs hz0;simp only[cond_false] at hs;have key:=ih (i+1) (by omega) fu' (by omega) _ L hm hs S1
     simp only[am,pS,y9,Gw,Ds,HQ,SIM,ST0,h0,h2,h3,h19,h20,h21,hc,hias,hst,hstc,AV.cells,hge,g7,h32,hz0,ha,Nat.reduceAdd,Nat.reduceLeDiff];exact key _ ⟨by first|rfl|exact h0,by first|rfl|exact h2,by first|rfl|exact h3⟩ ⟨by first|rfl|exact h19,by first|rfl|exact h20,rfl⟩
   | true =>
     rw[hz] at hs hz0;simp only[cond_true] at hs
     split at hs
     ·cases hs
     rename_i a hLa;obtain ⟨hla,hs⟩:=aS hs;have hla' : a<90000:=by simpa using hla
     have hLa' : ae L q.to=some a:=hLa;have hil:q.to<m:=by rw[<-hm];exact bj hLa'
     have hri:=eO (N:=l) (n:=m) (v:=q.to) hil;have hld:=tb S1.gl hLa';have hadd:bP (a:Int) 1=((a+1:Nat):Int):=aW a 1 (by unfold natMax;omega)
     have hsl2:cJ (L.map inV) q.to [inV (a+1)]=(ak L q.to (a+1)).map inV:=by
      show ak (L.map inV) q.to (inV (a+1))=_;simp only[aR,List.map_set]
     have hso:∀ ee,aq 1 (.ptr l q.to) (inV (a+1)) ⟨Hc++[.cells (w9 q)],ee⟩=some ⟨ak (Hc++[.cells (w9 q)]) l (.cells ((ak L q.to (a+1)).map inV)),ee⟩:=λee=>by
      refine (wz (n:=1) (off:=q.to) (v:=inV (a+1)) S1.gl rfl (by rw[ai,List.length_map,hm];omega) rfl rfl).trans ?_
      have:cJ (L.map inV) q.to (AV.cells (inV (a+1)))=(ak L q.to (a+1)).map inV:=hsl2;rw[this]
     have hsoc:=hso;unfold aq at hsoc;simp only[S1.gl,AV.cells] at hsoc;have S2:=S1.setL (L':=ak L q.to (a+1)) hl2;have hS1g:=S1.gl;have hle:decide (q.to+1<=aa (L.map inV))=true:=by rw[ai,List.length_map,hm];simp;omega
     have hsl3:ak (L.map inV) q.to (.int .i64 ((a+1:Nat):Int))=(ak L q.to (a+1)).map inV:=hsl2;have key:=ih (i+1) (by omega) fu' (by omega) _ (ak L q.to (a+1)) (by rw[<-ai,ar,ai];exact hm) hs S2
     simp only[am,pS,y9,Gw,Ds,No,HQ,SIM,ST0,h0,h2,h3,h19,h20,h21,hc,hias,hst,hstc,AV.cells,hge,g7,h32,hz0,hri,hld,hadd,hso,hsoc,hS1g,hle,hsl3,ha,Nat.reduceAdd,Nat.reduceLeDiff];exact key _ ⟨by first|rfl|exact h0,by first|rfl|exact h2,by first|rfl|exact h3⟩ ⟨by first|rfl|exact h19,by first|rfl|exact h20,rfl⟩
end
section
variable {M:Memo}{po l m c0 e:Nat}{H H2:Heap}
def CR (po l m c0:Nat)(V:AV)(r:RG):Prop:=r.a.a.a=.ptr po 0/\r.a.a.c=.ptr c0 0/\r.a.a.d=.rsl l 0 m m 1/\r.a.a.g=V
theorem DD (hl2:l<aa H2){L:List Nat}(hm:L.length=m)(hmm:m<=90000):∀ (k i:Nat),k+i=m->∀ (fu:Nat),k<fu->∀ (Hc:Heap) (V:AV) (R:List Nat),R.length<=i->Sr H2 l Hc L V .nils R []->∀ (r:RG),CR po l m c0 V r ->
  (r.a.e.f=.rsl l 0 m m 1/\r.a.e.g=.int .i64 (m:Int)/\r.a.e.h=.int .i64 (i:Int)) ->
  ∃ r' Hd V',am (lM (orc CC M)) fu r [] ⟨Hc,e⟩=some (.exit 2,r',[],⟨Hd,e⟩)/\Sr H2 l Hd L V' .nils (R++rdS (L.drop i) i) []/\CR po l m c0 V' r':=by
 intro k
 induction k with
 | zero =>
   intro i hi fu hfu Hc V R hRl S r hr ⟨h20,h21,h22⟩;obtain ⟨fu',rfl⟩ : ∃ f,fu=f+1:=⟨fu-1,by omega⟩
   have:i=m:=by omega
   subst this;have hc:decide ((i:Int)<(i:Int))=false:=by simp
   rw[<-hm,List.drop_length,hm];simp only[rdS,List.append_nil];simp only[am,lM,qX,SIM,ST0,ST1,h21,h22,hc];exact ⟨_,Hc,V,rfl,S,by first|exact hr⟩
 | succ k ih =>
   intro i hi fu hfu Hc V R hRl S r hr ⟨h20,h21,h22⟩;obtain ⟨h0,h2,h3,h6⟩:=hr;obtain ⟨fu',rfl⟩ : ∃ f,fu=f+1:=⟨fu-1,by omega⟩
   have hlt:i<L.length:=by omega
   have hc:decide ((i:Int)<(m:Int))=true:=by simp;omega
   have ha:bP (i:Int) 1=((i+1:Nat):Int):=aW i 1 (by unfold natMax;omega)
   have hd:L.drop i=L[i]::L.drop (i+1):=List.drop_eq_getElem_cons hlt;have hg:ae L i=some L[i]:=by rw[az];simp[hlt]
   generalize L[i]=a at hd hg;have hias:=eO (N:=l) (n:=m) (v:=i) (by omega)
   have hld:=tb S.gl hg;rw[hd];simp only[rdS];cases hz:Nat.beq a 0 with
   | false =>
     have hcn:decide ((a:Int)=0)=false:=by
      have:decide ((a:Int)=0)=Nat.beq a 0:=pi a 0;rw[this,hz]
     have key:=ih (i+1) (by omega) fu' (by omega) Hc V R (by omega) S
     simp only[am,lM,qX,wN,xh,wI,SIM,ST0,ST1,h20,h21,h22,hc,hias,hld,hcn,ha,Nat.reduceAdd,Nat.reduceLeDiff];exact key _ ⟨by first|rfl|exact h0,by first|rfl|exact h2,by first|rfl|exact h3,by first|rfl|exact h6⟩ ⟨by first|rfl|exact h20,by first|rfl|exact h21,rfl⟩
   | true =>
     have hcn:decide ((a:Int)=0)=true:=by
      have:decide ((a:Int)=0)=Nat.beq a 0:=pi a 0;rw[this,hz]
     obtain ⟨V',H',ap,S'⟩:=S.appR hl2 i 26 (by kernel_rfl) (by omega)
     have hb22:=ju i;have key:=ih (i+1) (by omega) fu' (by omega) H' V' (R++[i]) (by simp;omega) S'
     rw[List.append_assoc] at key;simp only[am,lM,qX,wN,xh,D0,wI,SIM,ST0,ST1,h6,h20,h21,h22,hc,hias,hld,hcn,hb22,ap,orVal,ha,Nat.reduceAdd,Nat.reduceLeDiff];exact key _ ⟨by first|rfl|exact h0,by first|rfl|exact h2,by first|rfl|exact h3,rfl⟩ ⟨by first|rfl|exact h20,by first|rfl|exact h21,rfl⟩
theorem HV (hl2:l<aa H2){es:List EgF}{E:AV}(hE:LvI po H 8 E (es.map EgF.av))(hH:aa H<=aa H2)(hes:es.length<=100000){w:Nat}{D:AV}{L' R' : List Nat}:∀ (k i:Nat),k+i=es.length->∀ (fu:Nat),k<fu->∀ (Hc:Heap) (V:AV) (L R:List Nat),L.length=m->lE w ((es.map EgF.n).drop i) L R=some (L',R')->Sr H2 l Hc L V .nils R []->∀ (r:RG),CR po l m c0 V r->(r.a.b.b=D/\r.a.b.c=.int .i64 (w:Int)) ->
  (r.b.a.a=E/\r.b.a.b=.int .i64 (es.length:Int)/\r.b.a.c=.int .i64 (i:Int)) ->
  ∃ r' Hd V',am (iM (orc CC M)) fu r [] ⟨Hc,e⟩=some (.exit 6,r',[],⟨Hd,e⟩)/\Sr H2 l Hd L' V' .nils R' []/\CR po l m c0 V' r'/\r'.a.b.b=D:=by
 intro k
 induction k with
 | zero =>
   intro i hi fu hfu Hc V L R hm hs S r hr ⟨h9,h10⟩ ⟨h64,h65,h66⟩;obtain ⟨fu',rfl⟩ : ∃ f,fu=f+1:=⟨fu-1,by omega⟩
   have:i=es.length:=by omega
   subst this;have hc:decide ((es.length:Int)<(es.length:Int))=false:=by simp
   have hdl:(es.map EgF.n).drop es.length=[]:=by rw[<-List.length_map (f:=EgF.n),List.drop_length]
   rw[hdl] at hs;simp only[lE,SJ,PJ] at hs;obtain ⟨rfl,rfl⟩:=hs;simp only[am,iM,lH,SIM,ST0,ST2,h65,h66,hc];exact ⟨_,Hc,V,rfl,S,by first|exact hr,by first|exact h9⟩
 | succ k ih =>
   intro i hi fu hfu Hc V L R hm hs S r hr ⟨h9,h10⟩ ⟨h64,h65,h66⟩;obtain ⟨h0,h2,h3,h6⟩:=hr;obtain ⟨fu',rfl⟩ : ∃ f,fu=f+1:=⟨fu-1,by omega⟩
   have hlt:i<es.length:=by omega
   have hc:decide ((i:Int)<(es.length:Int))=true:=by simp;omega
   have ha:bP (i:Int) 1=((i+1:Nat):Int):=aW i 1 (by unfold natMax;omega)
   have hd:(es.map EgF.n).drop i=(es[i]).n::(es.map EgF.n).drop (i+1):=by
    rw[List.drop_eq_getElem_cons (by rw[List.length_map];exact hlt),List.getElem_map]
   have hg:es[i]?=some es[i]:=by simp[hlt]
   generalize es[i]=q at hd hg;obtain ⟨hias,hlow⟩:=Fw hE hg;rw[hd] at hs;simp only[lE] at hs;have hlen:=S.len;have hst:=λee=>CY (Hc:=Hc) (q:=q) (AV.low_mono (by omega) _ hlow) ee
   have hgz:ae (Hc++[egZ]) (aa Hc)=some egZ:=by rw[au];rfl
   have hstc:=hst;unfold aq at hstc;simp only[hgz,AV.cells] at hstc;have hge:ae (Hc++[.cells (w9 q)]) (aa Hc)=some (.cells (w9 q)):=by rw[au];rfl
   have h32:=LB q.lin q.ah;have hz0:=MK (q:=q);have g7:∀ a b c d e f g h:AV,ae [a,b,c,d,e,f,g,h] 7=some h:=λ_ _ _ _ _ _ _ _=>rfl
   have S1:=S.ap (K:=[.cells (w9 q)]) hl2
   have hgt:decide ((0:Int)<((q.ah.length:Nat):Int))=!tC q.n:=by
    rw[<-hz0];cases q.ah.length with
    | zero=>rfl
    | succ n=>simp;omega
   have hne:decide ((q.fr:Int)=(w:Int))=Nat.beq q.fr w:=pi q.fr w;cases hw:Nat.beq q.fr w with
   | false =>
     rw[show (Nat.beq q.n.fr w&&tC q.n)=false from by rw[show q.n.fr=q.fr from rfl,hw];rfl] at hs
     rw[hw] at hne;simp only[cond_false] at hs;have key:=ih (i+1) (by omega) fu' (by omega) _ V L R hm hs S1
     simp only[am,iM,lH,nx,nt,mU,SIM,ST0,ST1,ST2,h0,h2,h3,h6,h9,h10,h64,h65,h66,hc,hias,hst,hstc,AV.cells,hge,hne,Bool.not_false,ha,Nat.reduceAdd,Nat.reduceLeDiff];exact key _ ⟨by first|rfl|exact h0,by first|rfl|exact h2,by first|rfl|exact h3,by first|rfl|exact h6⟩ ⟨by first|rfl|exact h9,by first|rfl|exact h10⟩ ⟨by first|rfl|exact h64,by first|rfl|exact h65,rfl⟩
   | true =>
     rw[hw] at hne;cases hz:tC q.n with
     | false =>
       rw[show (Nat.beq q.n.fr w&&tC q.n)=false from by rw[hz,Bool.and_false]] at hs
       rw[hz] at hgt;simp only[cond_false] at hs;have key:=ih (i+1) (by omega) fu' (by omega) _ V L R hm hs S1
       simp only[am,iM,lH,nx,nt,mU,SIM,ST0,ST1,ST2,h0,h2,h3,h6,h9,h10,h64,h65,h66,hc,hias,hst,hstc,AV.cells,hge,hne,g7,h32,hgt,Bool.not_false,Bool.not_true,ha,Nat.reduceAdd,Nat.reduceLeDiff];exact key _ ⟨by first|rfl|exact h0,by first|rfl|exact h2,by first|rfl|exact h3,by first|rfl|exact h6⟩ ⟨by first|rfl|exact h9,by first|rfl|exact h10⟩ ⟨by first|rfl|exact h64,by first|rfl|exact h65,rfl⟩
     | true =>
       rw[show (Nat.beq q.n.fr w&&tC q.n)=true from by rw[hz,show q.n.fr=q.fr from rfl,hw];rfl] at hs
       rw[hz] at hgt;simp only[cond_true] at hs
       split at hs
       ·cases hs
       rename_i a hLa;cases hcd:(Nat.beq a 0||Nat.ble 90000 a||Nat.ble 90000 R.length) with
       | true=>rw[hcd] at hs;cases hs
       | false =>
         rw[hcd] at hs;simp only[cond_false] at hs;simp only[Bool.or_eq_false_iff] at hcd;obtain ⟨⟨hc1,hc2⟩,hc3⟩:=hcd;have ha1:a≠0:=λh=>by rw[h] at hc1;cases hc1
         have ha2:a<90000:=by
          have:¬ (90000<=a):=λh=>by rw[Nat.ble_eq_true_of_le h] at hc2;cases hc2
          omega
         have ha3:R.length<90000:=by
          have:¬ (90000<=R.length):=λh=>by rw[Nat.ble_eq_true_of_le h] at hc3;cases hc3
          omega
         obtain ⟨b,rfl⟩ : ∃ b,a=b+1:=⟨a-1,by omega⟩
         have hsub:f5 ((b+1:Nat):Int) 1=(b:Int):=by
          show f5 (.ofNat (b+1)) (.ofNat 1)=_;have h1:Nat.ble 1 (b+1)=true:=by rw[dt];simp
          have h2:Nat.ble (b+1) natMax=true:=by rw[dt,decide_eq_true_eq];unfold natMax;omega
          simp only[f5,h1,h2,Bool.and_self,cond_true];rfl
         have hLa' : ae L q.to=some (b+1):=hLa;have hil:q.to<m:=by rw[<-hm];exact bj hLa'
         have hri:=eO (N:=l) (n:=m) (v:=q.to) hil;have hld:=tb S1.gl hLa';have hS1g:=S1.gl;have hle:decide (q.to+1<=aa (L.map inV))=true:=by rw[ai,List.length_map,hm];simp;omega
         have hsl3:ak (L.map inV) q.to (.int .i64 ((b:Nat):Int))=(ak L q.to b).map inV:=by
          show ak (L.map inV) q.to (inV b)=_;simp only[aR,List.map_set]
         have S2:=S1.setL (L':=ak L q.to b) hl2;have hm2:(ak L q.to b).length=m:=by rw[<-ai,ar,ai];exact hm
         have hLb:ae (ak L q.to b) q.to=some b:=fh (bj hLa') _;have hld2:=tb S2.gl hLb;have hge2:ae (ak (Hc++[.cells (w9 q)]) l (.cells ((ak L q.to b).map inV))) (aa Hc)=some (.cells (w9 q)):=by rw[af (by omega),hge]
         have hS2g:=S2.gl
         have hLbV:ae ((ak L q.to b).map inV) q.to=some (inV b):=by
          rw[az] at hLb ⊢;rw[List.getElem?_map,hLb];rfl
         have hpr:Nat.pred (b+1)=b:=rfl;rw[hpr] at hs;cases hz1:Nat.beq (b+1) 1 with
         | false =>
           rw[hz1] at hs;simp only[cond_false] at hs
           have hcn:decide ((b:Int)=0)=false:=by
            have:decide ((b:Int)=0)=Nat.beq b 0:=pi b 0;rw[this];exact hz1
           have key:=ih (i+1) (by omega) fu' (by omega) _ V (ak L q.to b) R hm2 hs S2
           simp only[am,iM,lH,nx,nt,vB,uV,mU,SIM,ST0,ST1,ST2,h0,h2,h3,h6,h9,h10,h64,h65,h66,hc,hias,hst,hstc,AV.cells,hge,hne,g7,h32,hgt,Bool.not_false,Bool.not_true,hri,hld,hsub,hS1g,hle,hsl3,hge2,hld2,hS2g,hLbV,hcn,ha,Nat.reduceAdd,Nat.reduceLeDiff];exact key _ ⟨by first|rfl|exact h0,by first|rfl|exact h2,by first|rfl|exact h3,by first|rfl|exact h6⟩ ⟨by first|rfl|exact h9,by first|rfl|exact h10⟩ ⟨by first|rfl|exact h64,by first|rfl|exact h65,rfl⟩
         | true =>
           rw[hz1] at hs;simp only[cond_true] at hs
           have hcn:decide ((b:Int)=0)=true:=by
            have:decide ((b:Int)=0)=Nat.beq b 0:=pi b 0;rw[this];exact hz1
           obtain ⟨V',H',ap,S3⟩:=S2.appR hl2 q.to 26 (by kernel_rfl) (by omega)
           have hb22:=ju q.to;have key:=ih (i+1) (by omega) fu' (by omega) H' V' (ak L q.to b) (R++[q.to]) hm2 hs S3
           simp only[am,iM,lH,nx,nt,vB,uV,Cr,mU,SIM,ST0,ST1,ST2,h0,h2,h3,h6,h9,h10,h64,h65,h66,hc,hias,hst,hstc,AV.cells,hge,hne,g7,h32,hgt,Bool.not_false,Bool.not_true,hri,hld,hsub,hS1g,hle,hsl3,hge2,hld2,hS2g,hLbV,hcn,hb22,ap,orVal,EXS,ha,Nat.reduceAdd,Nat.reduceLeDiff];exact key _ ⟨by first|rfl|exact h0,by first|rfl|exact h2,by first|rfl|exact h3,rfl⟩ ⟨by first|rfl|exact h9,by first|rfl|exact h10⟩ ⟨by first|rfl|exact h64,by first|rfl|exact h65,rfl⟩
end
section
variable {M:Memo}{po l m c0 e:Nat}{H H2:Heap}
theorem DB (hl2:l<aa H2){es:List EgF}{W E:AV}{at_:Int}(hE:LvI po H 8 E (es.map EgF.av))(hH:aa H<=aa H2)(hes:es.length<=90000)(hpo:po<aa H2)(hpl:po≠l)(hob:ae H2 po=some (.cells [W,E,.int .i64 at_])){c:Nat}:∀ (k:Nat) (fu:Nat),k<=fu->∀ (Hc:Heap) (V:AV) (L R:List Nat) (n:Nat),n+k<=1000000->L.length=m->lU (es.map EgF.n) k L R n=some c->Sr H2 l Hc L V .nils R []->∀ (r:RG),CR po l m c0 V r->r.a.b.b=.int .i64 (n:Int) ->
  ∃ r' Hd V' L',am (ev (orc CC M)) fu r [] ⟨Hc,e⟩=some (.exit 4,r',[],⟨Hd,e⟩)/\Sr H2 l Hd L' V' .nils [] []/\CR po l m c0 V' r'/\r'.a.b.b=.int .i64 (c:Int):=by
 intro k
 induction k with
 | zero=>intro fu hfu Hc V L R n hn hm hs;cases hs
 | succ k ih =>
   intro fu hfu Hc V L R n hn hm hs S r hr h9;obtain ⟨h0,h2,h3,h6⟩:=hr;obtain ⟨fu',rfl⟩ : ∃ f,fu=f+1:=⟨fu-1,by omega⟩
   have hln:=S.oR.len;have hl1:am (ev (orc CC M)) (fu'+1) r [] ⟨Hc,e⟩=di (am (ev (orc CC M)) fu') (ev (orc CC M) r [] ⟨Hc,e⟩):=rfl;cases R with
   | nil =>
     simp only[lU,SJ] at hs;subst hs;have hc:decide ((0:Int)<(([]:List Nat).length:Int))=false:=by decide
     rw[hl1];generalize am (ev (orc CC M)) fu'=F;simp only[ev,uE,SIM,ST0,ST1,h6,hln,hc];exact ⟨_,Hc,V,L,rfl,S,⟨by first|rfl|exact h0,by first|rfl|exact h2,by first|rfl|exact h3,by first|rfl|exact h6⟩,by first|rfl|exact h9⟩
   | cons w R =>
     simp only[lU] at hs
     split at hs
     ·cases hs
     ·rename_i L' R' hin;obtain ⟨V1,hi0,hsl,hR1,hnm⟩:=S.oR.hd;have S1:Sr H2 l Hc L V1 .nils R []:=⟨S.fr,S.gl,S.len,hR1,S.oO,by rw[hnm];exact S.dj⟩
      have hobc:ae Hc po=some (.cells [W,E,.int .i64 at_]):=by rw[S.fr po hpo hpl,hob]
      have hlnE:=vU (T:=102) (by kernel_rfl) hE
      rw[List.length_map] at hlnE;have hc:decide ((0:Int)<((w::R).length:Int))=true:=by simp
      obtain ⟨r1,hr1,hD1,hk1,hpre⟩ : ∃ r1,CR po l m c0 V1 r1/\(r1.a.b.b=.int .i64 (n:Int)/\r1.a.b.c=.int .i64 (w:Int))/\(r1.b.a.a=E/\r1.b.a.b=.int .i64 (es.length:Int)/\r1.b.a.c=.int .i64 ((0:Nat):Int)) /\
        am (ev (orc CC M)) (fu'+1) r [] ⟨Hc,e⟩=di (am (ev (orc CC M)) fu') (di (xn (orc CC M)) (cM 5 (cM 6 (am (iM (orc CC M)) 100000 r1 [] ⟨Hc,e⟩)))):=by
       rw[hl1];generalize am (ev (orc CC M)) fu'=F;simp only[ev,uE,HN,D1,Is,SIM,ST0,ST1,ST2,h0,h6,hln,hc,hi0,hsl,hobc,hlnE,Nat.reduceAdd,Nat.reduceLeDiff];exact ⟨_,⟨by first|rfl|exact h0,by first|rfl|exact h2,by first|rfl|exact h3,rfl⟩,⟨by first|rfl|exact h9,rfl⟩,⟨rfl,rfl,rfl⟩,rfl⟩
      obtain ⟨r2,Hd,V2,b1,b2,b3,b4⟩:=HV (M:=M) (e:=e) (c0:=c0) hl2 hE hH (by omega) (w:=w) (D:=.int .i64 (n:Int)) es.length 0 rfl 100000 (by omega) Hc V1 L R hm (by rw[List.drop_zero];exact hin) S1 r1 hr1 hD1 hk1
      rw[hpre,b1];have hm' : L'.length=m:=by rw[ot _ _ _ _ _ _ hin,hm]
      have ha:bP (n:Int) 1=((n+1:Nat):Int):=aW n 1 (by unfold natMax;omega)
      obtain ⟨h0',h2',h3',h6'⟩:=b3;have key:=ih fu' (by omega) Hd V2 L' R' (n+1) (by omega) hm' hs b2
      generalize am (ev (orc CC M)) fu'=F at key ⊢;simp only[xn,SIM,ST0,ST1,b4,ha,Nat.reduceAdd,Nat.reduceLeDiff];exact key _ ⟨by first|rfl|exact h0',by first|rfl|exact h2',by first|rfl|exact h3',by first|rfl|exact h6'⟩ rfl
end
section
variable {M:Memo}
theorem wm (h20:∀ a,M 20 a=none){po:Nat}{H:Heap}{ws:List WkF}{W:AV}{es:List EgF}{E:AV}{at_:Int}(P:Pl po H ws W es E at_):orc CC M 20 [.ptr po 0] H=some (.ret (.int .i64 (ws.length:Int)) H (aa H)):=by
 refine aL (z:=z20) (h20 _) (by kernel_rfl) rfl ?_
 have e0:(envOf [.ptr po 0] 0 env0).a.a.a=.ptr po 0:=rfl;generalize envOf [.ptr po 0] 0 env0=R at e0;have hob:=P.ob;obtain ⟨h1,h2,h3⟩:=nQ (T:=101) (by kernel_rfl)
 have hl:=nV ws
 have hln:aQ CC 101 W=some (.int .i64 (ws.length:Int)):=by
  rcases P.w with ⟨h0,rfl⟩|⟨id,n,rfl,h0,h4,hln,_⟩
  ·rw[h0] at hl;simp only[List.length_nil] at hl;rw[h2]
   congr 3;omega
  ·rw[hl] at hln;rw[h3]
   congr 3;omega
 have hgc:=dH (k:=CC.keep 20) (b:=aa H) (v:=.int .i64 (ws.length:Int)) (hp:=H) rfl;have htk:bw (aa H) H=H:=by have:=bS H [];rwa [List.append_nil] at this
 simp only[z20,NQ,Lz,SIM,ST0,e0,hob,hln,hgc,htk,Nat.reduceAdd,Nat.reduceLeDiff]
noncomputable def eU (k n:Nat)(en:List EgN):Option Bool:=match lfA en (List.replicate n 0) with
 | none=>none
 | some L=>match lU en k L (rdS L 0) 0 with
   | none=>none
   | some c=>some (Nat.blt c n)
theorem Ey (h20:∀ a,M 20 a=none)(h26:∀ a,M 26 a=none){po:Nat}{H:Heap}{ws:List WkF}{W:AV}{es:List EgF}{E:AV}{at_:Int}(P:Pl po H ws W es E at_){k:Nat}(hk:k<=90000)(hws:ws.length<=90000)(hes:es.length<=90000){b:Bool}(hm:eU k ws.length (es.map EgF.n)=some b) :
  orc CC M 26 [.ptr po 0] H=some (.ret (cond b (.agg [.int .i64 at_,.int .i64 13]) (.agg [.int .i64 0,.int .i64 0])) H (aa H)):=by
 unfold eU at hm
 split at hm
 ·cases hm
 rename_i L hL
 split at hm
 ·cases hm
 rename_i c hc;simp only[SJ] at hm;have hpo:=P.po;refine aL (z:=z26) (h26 _) (by kernel_rfl) rfl ?_
 have e0:(envOf [.ptr po 0] 0 env0).a.a.a=.ptr po 0:=rfl;have hob:=P.ob;have hl2:=wm h20 P;have hrep:List.replicate ws.length (mH 0)=(List.replicate ws.length 0).map inV:=by simp
 have hms:=PM ws.length (by omega)
 let H2:Heap:=H++[cz0,.cells ((List.replicate ws.length 0).map inV)]
 have hH2:aa H2=aa H+2:=by show aa (H++_)=_;rw[aB];rfl
 have hgH:∀ q,q<aa H->ae H2 q=ae H q:=λq hq=>aZ hq
 have gl2:ae H2 (aa H+1)=some (.cells ((List.replicate ws.length 0).map inV)):=by show ae (H++_) _=_;rw[aU];rfl
 have gc2:ae H2 (aa H)=some cz0:=by show ae (H++_) _=_;rw[au];rfl
 have S0:Sr H2 (aa H+1) H2 (List.replicate ws.length 0) .nils .nils [] []:=⟨λ_ _ _=>rfl,gl2,Nat.le_refl _,.inl ⟨rfl,rfl⟩,.inl ⟨rfl,rfl⟩,λq hq=>by cases hq⟩
 have hlnE:=vU (T:=102) (by kernel_rfl) P.e
 rw[List.length_map] at hlnE
 obtain ⟨r1,hr1,hk1,s1⟩ : ∃ r1:RG,(r1.a.a.a=.ptr po 0/\r1.a.a.c=.ptr (aa H) 0/\r1.a.a.d=.rsl (aa H+1) 0 ws.length ws.length 1)/\(r1.a.c.d=E/\r1.a.c.e=.int .i64 (es.length:Int)/\r1.a.c.f=.int .i64 ((0:Nat):Int)) /\
   ac (AB (orc CC M)) (ac (AD (orc CC M)) (z9 (orc CC M))) (envOf [.ptr po 0] 0 env0) [] ⟨H,aa H⟩=some (.normal,r1,[],⟨H2,aa H⟩):=by
  generalize envOf [.ptr po 0] 0 env0=R at e0;have hlz:=wm h20 (P.ap (K:=[.cells [.int .i64 0,.int .i64 0]]));have hl1:aa (H++[AObj.cells [.int .i64 0,.int .i64 0]])=aa H+1:=by rw[aB];rfl
  rw[hl1] at hlz;have hm1:min (aa H) (aa H+1)=aa H:=by omega
  have hms' : BV CC 22 (.int .i64 (ws.length:Int)) (.int .i64 (ws.length:Int))=some (.cells ((List.replicate ws.length 0).map inV),λr=>.rsl r 0 ws.length ws.length 1):=by rw[<-hrep];exact hms
  have hobK:ae (H++[AObj.cells [.int .i64 0,.int .i64 0],.cells ((List.replicate ws.length 0).map inV)]) po=some (.cells [W,E,.int .i64 at_]):=ay hob _;simp only[AB,AD,z9,SIM,ST0,e0,hlz,hm1,hms',hobK,hlnE,Nat.reduceAdd,Nat.reduceLeDiff];exact ⟨_,⟨rfl,rfl,rfl⟩,⟨rfl,rfl,rfl⟩,rfl⟩
 have hen:∀ x:Nat,(List.replicate x 0).length=x:=λx=>List.length_replicate ..
 obtain ⟨r2,Hc,s2,S2,hr2⟩:=EK (M:=M) (m:=ws.length) (c0:=aa H) (e:=aa H) (H2:=H2) (l:=aa H+1) (by omega) P.e (by omega) (by omega) es.length 0 rfl 100000 (by omega) H2 (List.replicate ws.length 0) (hen _) (by rw[List.drop_zero];exact hL) S0 r1 hr1 hk1
 have hLm:L.length=ws.length:=by rw[lfA_len _ _ _ hL,hen]
 obtain ⟨g0,g2,g3⟩:=hr2
 obtain ⟨r3,hr3,hk3,s3⟩ : ∃ r3:RG,CR po (aa H+1) ws.length (aa H) .nils r3/\(r3.a.e.f=.rsl (aa H+1) 0 ws.length ws.length 1/\r3.a.e.g=.int .i64 (ws.length:Int)/\r3.a.e.h=.int .i64 ((0:Nat):Int)) /\
   ac (Am (orc CC M)) (rx (orc CC M)) r2 [] ⟨Hc,aa H⟩=some (.normal,r3,[],⟨Hc,aa H⟩):=by
  have hlr:=xq (aa H+1) ws.length;simp only[Am,rx,SIM,ST0,ST1,g3,hlr,Nat.reduceAdd,Nat.reduceLeDiff];exact ⟨_,⟨by first|rfl|exact g0,by first|rfl|exact g2,by first|rfl|exact g3,rfl⟩,⟨rfl,rfl,rfl⟩,rfl⟩
 obtain ⟨r4,Hd,V4,s4,S4,hr4⟩:=DD (M:=M) (e:=aa H) (by omega) hLm hws ws.length 0 rfl 100000 (by omega) Hc .nils [] (by simp) S2 r3 hr3 hk3
 rw[List.nil_append,List.drop_zero] at S4;obtain ⟨k0,k2,k3,k6⟩:=hr4
 obtain ⟨r5,hr5,h59,s5⟩ : ∃ r5:RG,CR po (aa H+1) ws.length (aa H) V4 r5/\r5.a.b.b=.int .i64 ((0:Nat):Int)/\ra (orc CC M) r4 [] ⟨Hd,aa H⟩=some (.normal,r5,[],⟨Hd,aa H⟩):=by
  simp only[ra,SIM,ST0];exact ⟨_,⟨by first|rfl|exact k0,by first|rfl|exact k2,by first|rfl|exact k3,by first|rfl|exact k6⟩,rfl,rfl⟩
 obtain ⟨r6,He,V6,L6,s6,S6,hr6,h69⟩:=DB (M:=M) (e:=aa H) (c0:=aa H) (by omega) (H2:=H2) P.e (by omega) hes (by omega) (by omega) (by rw[hgH po hpo];exact hob) k 100000 (by omega) Hd V4 L (rdS L 0) 0 (by omega) hLm hc S4 r5 hr5 h59
 obtain ⟨j0,j2,j3,j6⟩:=hr6;have hfr:∀ q,q<aa H->ae He q=ae H q:=λq hq=>by rw[S6.fr q (by omega) (by omega),hgH q hq]
 have hlen6:=S6.len;have P6:Pl po He ws W es E at_:=P.to (by omega) (λq hq _=>hfr q hq)
 have hl6:=wm h20 P6;have hob6:=P6.ob;have gc6:ae He (aa H)=some (.cells [.int .i64 0,.int .i64 0]):=by rw[S6.fr _ (by omega) (by omega),gc2]
 have b0:∀ (i:Nat) (b:CZ) (r:RG) (s:St),aG i (aK b) r [] s=cM i (am b 100000 r [] s):=λ_ _ _ _=>rfl
 have hz:z26.sh (orc CC M) (envOf [.ptr po 0] 0 env0) [] ⟨H,aa H⟩=ac (nZ (orc CC M)) (ac (aA (.t 102) (ac (re (orc CC M)) retZ) skipZ) (ac (q9 (orc CC M)) retZ)) r6 [] ⟨He,aa H⟩:=by
  have:∀ x d s,z26.sh (orc CC M) x d s=ac (ac (AB (orc CC M)) (ac (AD (orc CC M)) (z9 (orc CC M)))) (ac (aG 0 (aK (pS (orc CC M)))) (ac (ac (Am (orc CC M)) (rx (orc CC M))) (ac (aG 2 (aK (lM (orc CC M)))) (ac (ra (orc CC M)) (ac (aG 4 (aK (ev (orc CC M)))) (ac (nZ (orc CC M)) (ac (aA (.t 102) (ac (re (orc CC M)) retZ) skipZ) (ac (q9 (orc CC M)) retZ)))))))) x d s:=λx d s=>by
   simp only[z26,ec]
  rw[this,bm,s1,bg,bm,b0,s2,bX,bg,bm,s3,bg,bm,b0,s4,bX,bg,bm,s5,bg,bm,b0,s6,bX,bg]
 rw[hz]
 have hlt:decide ((c:Int)<(ws.length:Int))=b:=by
  rw[<-hm];cases h:Nat.blt c ws.length with
  | true =>
    have:c<ws.length:=by simpa using h
    simp;omega
  | false =>
    have:¬ (c<ws.length):=λhh=>by
     have:=Nat.blt_eq.symm ▸ hh;rw[h] at this;cases this
    simp;omega
 have htk:∀ c,bw (aa H) (ak He (aa H) c)=H:=λc=>vZ (by rw[ar];omega) (λq hq=>by rw[af (by omega),hfr q hq])
 have hm1:min (aa H) (aa He)=aa H:=by omega
 have b1:ao CC 29 [(0,.int .i64 at_),(1,.int .i64 13)]=some (.agg [.int .i64 at_,.int .i64 13]):=by
  have:∀ x:Int,ao CC 29 [(0,.int .i64 x),(1,.int .i64 13)]=some (.agg [.int .i64 x,.int .i64 13]):=λ_=>by kernel_rfl
  exact this _
 have b2:ao CC 29 []=some (.agg [.int .i64 0,.int .i64 0]):=by kernel_rfl
 have gds:=λc=>aF gc6 c
 cases b with
 | true =>
   have hgc:=λhp=>dH (k:=CC.keep 26) (b:=aa H) (v:=.agg [.int .i64 at_,.int .i64 13]) (hp:=hp) rfl
   simp only[nZ,re,z26,SIM,ST0,ST3,j0,j2,h69,hl6,hm1,hlt,hob6,b1,gc6,gds,hgc,htk,cond_true,Nat.reduceAdd,Nat.reduceLeDiff]
 | false =>
   have hgc:=λhp=>dH (k:=CC.keep 26) (b:=aa H) (v:=.agg [.int .i64 0,.int .i64 0]) (hp:=hp) rfl
   simp only[nZ,q9,z26,SIM,ST0,ST3,j0,j2,h69,hl6,hm1,hlt,hob6,b2,gc6,gds,hgc,htk,cond_false,Nat.reduceAdd,Nat.reduceLeDiff]
end
section
variable {M:Memo}
theorem Iq (m:SpM M)(h12:∀ a,M 12 a=none)(h20:∀ a,M 20 a=none)(h26:∀ a,M 26 a=none){s:List Nat}{d:NdR}{L' : List NdR}(h14:M 14 [.str s]=some (pV (d::L'))){kf n k:Nat}(hkf:kf<=90000)(hk:k<=90000)(hL:(d::L').length<=90000)(hK:∀ x∈d::L',NdK x){wn:List WkN}{en:List EgN}(hm:jB kf n (d::L')=some (wn,en)){b:Bool}(hc:eU k wn.length en=some b)(hwn:wn.length<=90000)(hen:en.length<=90000)(H:Heap) :
  orc CC M 12 [.str s] H=some (.ret (cond b (.agg [.int .i64 (d.p:Int),.int .i64 13]) (.agg [.int .i64 0,.int .i64 0])) H (aa H)):=by
 refine aL (z:=z12) (h12 _) (by kernel_rfl) rfl ?_
 have e0:(envOf [.str s] 0 env0).a.a.a=.str s:=rfl;generalize envOf [.str s] 0 env0=R at e0
 let H0:Heap:=H++[cz0,cz0]
 have hl0:aa H0=aa H+2:=by show aa (H++_)=_;rw[aB];rfl
 obtain ⟨H1,po,ws,W,es,E,hS,P,hwl,hes,hpo,hlen,hfr⟩:=C3 m hkf hL hK (L:=d::L') rfl hm H0;have P1:=P.ap (K:=[cz0]);have hc' : eU k ws.length (es.map EgF.n)=some b:=by rw[hwl,hes];exact hc
 have hesl:es.length<=90000:=by rw[<-hes,List.length_map] at hen;exact hen
 have hC:=Ey h20 h26 P1 hk (by omega) hesl hc'
 have hP:orc CC M 14 [.str s] (H++[AObj.cells [.int .i64 0,.int .i64 0]])=some (.ret (pV (d::L')) (H++[AObj.cells [.int .i64 0,.int .i64 0]]) (H++[AObj.cells [.int .i64 0,.int .i64 0]]).length):=gu h14;rw[<-ai,aB] at hP;have hl1:aa [AObj.cells [.int .i64 0,.int .i64 0]]=1:=rfl;rw[hl1] at hP;have hln:=wx (d::L') .dead;have hS' : orc CC M 19 [.sl 6 ((d::L').map NdR.v) .dead] (H++[AObj.cells [.int .i64 0,.int .i64 0],.cells [.int .i64 0,.int .i64 0]])=some (.ret (.tuple [.ptr po 0,.agg [.int .i64 0,.int .i64 0]]) H1 (aa H0)):=hS;rw[hl0] at hS';have hm1:min (aa H) (aa H+1)=aa H:=by omega
 have hm2:min (aa H) (aa H+2)=aa H:=by omega
 have hl1' : aa (H1++[cz0])=aa H1+1:=by rw[aB];rfl
 rw[hl1'] at hC;have hm3:min (aa H) (aa H1+1)=aa H:=by omega
 have hC' : orc CC M 26 [.ptr po 0] (H1++[AObj.cells [.int .i64 0,.int .i64 0]])=_:=hC;have gz1:ae (H++[AObj.cells [.int .i64 0,.int .i64 0],.cells [.int .i64 0,.int .i64 0]]) (aa H+1)=some (.cells [.int .i64 0,.int .i64 0]):=by rw[aU];rfl
 have sz1:∀ c,ak (H++[AObj.cells [.int .i64 0,.int .i64 0],.cells [.int .i64 0,.int .i64 0]]) (aa H+1) c=H++[AObj.cells [.int .i64 0,.int .i64 0],c]:=λc=>by rw[dz];rfl
 have gz2:ae (H1++[AObj.cells [.int .i64 0,.int .i64 0]]) (aa H1)=some (.cells [.int .i64 0,.int .i64 0]):=by rw[au];rfl
 have sz2:∀ c,ak (H1++[AObj.cells [.int .i64 0,.int .i64 0]]) (aa H1) c=H1++[c]:=λc=>by rw[bN];rfl
 have hnl:bK CC .eql 44 true (.ptr po 0) .nilp=some (.bool false):=by
  have:∀ p:Nat,bK CC .eql 44 true (.ptr p 0) .nilp=some (.bool false):=λ_=>by kernel_rfl
  exact this _
 have g0:ae (H1++[cz0]) (aa H)=some (.cells [.int .i64 0,.int .i64 0]):=by
  rw[aZ (by omega),hfr _ (by omega)];show ae (H++_) _=_;rw[au];rfl
 have g0' : ae (H1++[AObj.cells [.int .i64 0,.int .i64 0]]) (aa H)=some (.cells [.int .i64 0,.int .i64 0]):=g0;have gs0:=λc=>aF g0' c
 have htk:∀ c,bw (aa H) (ak (H1++[AObj.cells [.int .i64 0,.int .i64 0]]) (aa H) c)=H:=λc=>vZ (by rw[ar,aB];omega) (λq hq=>by
  rw[af (by omega),aZ (by omega),hfr q (by omega)];show ae (H++_) _=_;exact aZ hq)
 have hcl:decide (((d::L').length:Int)=0)=false:=by simp;omega
 cases b with
 | true =>
   simp only[cond_true] at hC' ⊢;have hgc:=λhp=>dH (k:=CC.keep 12) (b:=aa H) (v:=.agg [.int .i64 (d.p:Int),.int .i64 13]) (hp:=hp) rfl
   simp only[Fo,HA,Cj,Cf,D3,Hy,z12,pV,SIM,ST0,e0,hP,hm1,hm2,hm3,gz1,sz1,hln,hcl,hS',gz2,sz2,hnl,hC',g0',gs0,hgc,htk,Nat.reduceAdd,Nat.reduceLeDiff]
 | false =>
   simp only[cond_false] at hC' ⊢;have hgc:=λhp=>dH (k:=CC.keep 12) (b:=aa H) (v:=.agg [.int .i64 0,.int .i64 0]) (hp:=hp) rfl
   simp only[Fo,HA,Cj,Cf,D3,Hy,z12,pV,SIM,ST0,e0,hP,hm1,hm2,hm3,gz1,sz1,hln,hcl,hS',gz2,sz2,hnl,hC',g0',gs0,hgc,htk,Nat.reduceAdd,Nat.reduceLeDiff]
end
end Go.Proofs
