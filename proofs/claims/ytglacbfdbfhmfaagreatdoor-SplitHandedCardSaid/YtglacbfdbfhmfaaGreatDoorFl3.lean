/- what is not waited for, calls. Part of the proof of girandolelaw12.SplitHanded. -/
import Derived.Test.YtglacbfdbfhmfaaGreatDoorFl2
import Derived.Test.YtglacbfdbfhmfaaGreatDoorFl1
set_option linter.unusedVariables false
set_option linter.unusedSimpArgs false
set_option maxRecDepth 1000000
namespace Go.Proofs
open Go Go.Abs
def orI:AV->Option (Int×Int)
 | .agg [.int .i64 a,.int .i64 b]=>some (a,b)
 | _=>none
theorem UE {v:AV}{o:Int×Int}(h:orI v=some o):v=eb o:=by
 unfold orI at h
 split at h
 ·simp only[SJ] at h;subst h;rfl
 ·cases h
def jv (nm:List Nat)(fm:FmS):Option (Int×Int):=match cr nm fm with
 | some v=>orI v
 | none=>none
theorem mE {nm:List Nat}{fm:FmS}{o:Int×Int}(h:jv nm fm=some o):cr nm fm=some (eb o):=by
 unfold jv at h
 split at h
 ·rename_i v hv;rw[hv,UE h]
 ·cases h
def dc (f:Ex->PS->Option (AtF×PS))(fm:FmS):List DeR->List Ex->PS->Option (List AtF×List (Int×Int)×PS)
 | [],_,p=>some ([],[],p)
 | _::_,[],_=>none
 | x::l,k::ks,p=>cond x.f (match jv k.s fm with
   | none=>none
   | some o=>match dc f fm l ks p with
     | none=>none
     | some (xs,fs,p')=>some (xs,o::fs,p')) (match f k p with
   | none=>none
   | some (a,p1)=>match dc f fm l ks p1 with
     | none=>none
     | some (xs,fs,p')=>some (a::xs,fs,p'))
theorem ep {f:Ex->PS->Option (AtF×PS)}(W:PS->Nat)(hf:∀ e p a p',f e p=some (a,p')->W p<=W p'){fm:FmS}:∀ (l:List DeR) (ks:List Ex) (p:PS) (xs:List AtF) (fs:List (Int×Int)) (p' : PS),dc f fm l ks p=some (xs,fs,p')->W p<=W p'
 | [],ks,p,xs,fs,p',h=>by simp only[dc,SJ,PJ] at h;rw[h.2.2];exact Nat.le_refl _
 | _::_,[],p,xs,fs,p',h=>by cases h
 | x::l,k::ks,p,xs,fs,p',h=>by
   simp only[dc] at h;cases hx:x.f with
   | true =>
     rw[hx] at h;simp only[cond_true] at h
     split at h
     ·cases h
     ·split at h
      ·cases h
      ·rename_i xs1 fs1 p1 h1;simp only[SJ,PJ] at h;rw[<-h.2.2];exact ep W hf l ks _ _ _ _ h1
   | false =>
     rw[hx] at h;simp only[cond_false] at h
     split at h
     ·cases h
     ·rename_i a p1 hk
      split at h
      ·cases h
      ·rename_i xs1 fs1 p2 h1;simp only[SJ,PJ] at h;rw[<-h.2.2];exact Nat.le_trans (hf _ _ _ _ hk) (ep W hf l ks _ _ _ _ h1)
theorem aU {H K:Heap}{q:Nat}(h:q<aa H):ae (H++K) q=ae H q:=by
 rw[ai] at h;rw[aB,aB,List.getElem?_append_left h]
theorem tV {H Hc:Heap}(h1:aa H<=aa Hc)(h2:∀ q,q<aa H->ae Hc q=ae H q):bg (aa H) Hc=H:=by
 rw[bU];apply List.ext_getElem?;intro i;rw[List.getElem?_take]
 split
 ·rename_i hi;have:=h2 i hi;rw[aB,aB] at this;exact this
 ·rename_i hi;rw[List.getElem?_eq_none (by rw[ai] at hi;omega)]
def dedV:AV->AV
 | .sl k l (.live _ _)=>.sl k l .dead
 | v=>v
def A6 (b:Nat)(V:AV):Prop:=V=.nils\/∃ k l id g,V=.sl k l (.live id g)/\dp l=true/\b<=id
theorem nG {b:Nat}{V:AV}{hp:Heap}(h:A6 b V):AV.settle b hp V=dedV V/\AV.low b (dedV V)=true:=by
 rcases h with rfl|⟨k,l,id,g,rfl,hl,hid⟩
 ·exact ⟨by simp[AV.settle,dedV],by simp[AV.low,dedV]⟩
 ·have h2:Lin.low b (.live id g)=false:=by simp[Lin.low];omega
  exact ⟨by simp[AV.settle,ic hl,h2,dedV],by simp[AV.low,dedV,de hl,Lin.low]⟩
theorem xT {b:Nat}{V:AV}(h:A6 b V):∀ L,AV.low L (dedV V)=true:=by
 intro L
 rcases h with rfl|⟨k,l,id,g,rfl,hl,hid⟩
 ·simp[AV.low,dedV]
 ·simp[AV.low,dedV,de hl,Lin.low]
theorem Rq {base:Nat}{A F:AV}{hp:Heap}(hA:A6 base A)(hF:A6 base F):lH false base (.tuple [A,F]) ⟨hp,base⟩=.ret (.tuple [dedV A,dedV F]) (bg base hp) base:=by
 have a:=nG (hp:=hp) hA;have b:=nG (hp:=hp) hF;have h3:AV.settle base hp (.tuple [A,F])=.tuple [dedV A,dedV F]:=by simp[AV.settle,bH,a.1,b.1]
 have h4:AV.low base (.tuple [dedV A,dedV F])=true:=by simp[AV.low,aG,a.2,b.2]
 rw[ux];simp only[Ie,dm,if_true,h3,h4,Bool.false_eq_true,if_false,bU]
theorem uq (l:List (Int×Int)):dp (l.map eb)=true:=by
 induction l with
 | nil=>rfl
 | cons a l ih=>rw[List.map_cons,br,ih];rfl
section
variable {uo bo so vo fo:Nat}{LV:AV}{d:NdR}{vm fm:FmS}{base:AV}
theorem Cx.to {H H' : Heap}{u:UN}(C:Cx uo bo so vo fo LV d vm fm base H u)(hl:aa H<=aa H')(N:List Nat)(hf:∀ q,q<aa H->q∉N->ae H' q=ae H q)(hN:∀ q∈N,q∉u.ns)(h0:uo∉N)(h1:bo∉N)(h2:so∉N)(h3:vo∉N)(h4:fo∉N):Cx uo bo so vo fo LV d vm fm base H' u :=
 ⟨C.U.to hl (λq hq hm=>hf q hq (λhn=>hm.elim (λh=>h0 (h ▸ hn)) (λh=>hN q hn h))),by rw[hf bo (bG C.b) h1];exact C.b,by rw[hf so (bG C.s) h2];exact C.s,by rw[hf vo (bG C.v) h3];exact C.v,by rw[hf fo (bG C.f) h4];exact C.f,C.nb,C.ns,C.nv,C.nf⟩
end
structure HdI (uo bo so vo fo:Nat)(LV:AV)(d:NdR)(vm fm:FmS)(base:AV)(K0:Heap)(H:Heap)(u:UN)(Hc:Heap)(uc:UN)(ee:Nat)(A F:AV)(xs:List AtF)(fs:List (Int×Int)):Prop where
 C:Cx uo bo so vo fo LV d vm fm base Hc uc
 G:Gr uo (H++K0) u.ns Hc uc.ns
 S:Same u uc
 E:(ee=aa H/\uc=u)\/ee=uo
 lA:LvI uo Hc 3 A (xs.map AtF.av)
 lF:LvI uo Hc 2 F (fs.map eb)
 na:∀ q∈nmA A,aa H+aa K0<=q/\q∉uc.ns
 nf:∀ q∈nmA F,aa H+aa K0<=q/\q∉uc.ns
 dj:∀ q∈nmA A,q∉nmA F
 X:ee=aa H->∀ q,q<aa H->ae Hc q=ae H q
 lt:uo<aa H/\bo<aa H/\so<aa H/\vo<aa H/\fo<aa H
 un:∀ q∈u.ns,q<aa H
section
variable {uo bo so vo fo:Nat}{LV:AV}{d:NdR}{vm fm:FmS}{base:AV}{K0 H Hc H1:Heap}{u uc u1:UN}{ee e1:Nat}{A F:AV}{xs:List AtF}{fs:List (Int×Int)}
theorem HdI.len (h:HdI uo bo so vo fo LV d vm fm base K0 H u Hc uc ee A F xs fs):aa H+aa K0<=aa Hc:=by
 have:=h.G.len;rw[az] at this;exact this
theorem HdI.ap (h:HdI uo bo so vo fo LV d vm fm base K0 H u Hc uc ee A F xs fs)(K:Heap):HdI uo bo so vo fo LV d vm fm base K0 H u (Hc++K) uc ee A F xs fs:=by
 have hl:=h.len;exact ⟨h.C.ap K,h.G.trans Gr.ap,h.S,h.E,h.lA.mono (by rw[az];omega) (λq _ hq=>aU hq),h.lF.mono (by rw[az];omega) (λq _ hq=>aU hq),h.na,h.nf,h.dj,λhe q hq=>by rw[aU (by omega),h.X he q hq],h.lt,h.un⟩
theorem HdI.ex (h:HdI uo bo so vo fo LV d vm fm base K0 H u Hc uc ee A F xs fs)(U1:UI uo H1 u1)(G1:Gr uo Hc uc.ns H1 u1.ns)(S1:Same uc u1)(D:DE uo Hc H1 uc u1 e1):HdI uo bo so vo fo LV d vm fm base K0 H u H1 u1 (min ee e1) A F xs fs:=by
 have hl:=h.len;have hlt:=h.lt
 have hE:(min ee e1=aa H/\u1=u/\ee=aa H/\H1=Hc)\/min ee e1=uo:=by
  rcases D with ⟨a,b,c⟩|a
  ·rcases h.E with ⟨x,y⟩|x
   ·exact .inl ⟨by omega,by rw[c,y],x,b⟩
   ·exact .inr (by omega)
  ·rcases h.E with ⟨x,y⟩|x
   ·exact .inr (by omega)
   ·exact .inr (by omega)
 refine ⟨h.C.step U1 G1,h.G.trans G1,h.S.trans S1,hE.imp (λx=>⟨x.1,x.2.1⟩) id,h.lA.mono G1.len (λq hq hlq=>G1.fr q hlq (by have:=(h.na q hq).1;omega) (h.na q hq).2),h.lF.mono G1.len (λq hq hlq=>G1.fr q hlq (by have:=(h.nf q hq).1;omega) (h.nf q hq).2),
  λq hq=>⟨(h.na q hq).1,λhm=>(G1.ns q hm).elim (h.na q hq).2 (λhg=>by have:=(h.lA.lt q hq).2;omega)⟩,λq hq=>⟨(h.nf q hq).1,λhm=>(G1.ns q hm).elim (h.nf q hq).2 (λhg=>by have:=(h.lF.lt q hq).2;omega)⟩,h.dj,λhe q hq=>?_,h.lt,h.un⟩
 rcases hE with ⟨_,_,x,y⟩|x
 ·rw[y];exact h.X x q hq
 ·omega
theorem HdI.appA (h:HdI uo bo so vo fo LV d vm fm base K0 H u Hc uc ee A F xs fs)(f:Nat)(x:AtF)(hx:xs.length<=90000) :
  ∃ A' H',(∀ e lin,aq CC f 139 A (.sl 3 [x.av] lin) ⟨Hc,e⟩=some (A',⟨H',e⟩))/\HdI uo bo so vo fo LV d vm fm base K0 H u H' uc ee A' F (xs++[x]) fs:=by
 have hl:=h.len;obtain ⟨l0,l1,l2,l3,l4⟩:=h.lt;obtain ⟨A',H',a1,a2,a3,a4,a5⟩:=jF sl139 f (x:=x.av) h.lA rfl (by simp[AV.low,aG]) (by rw[List.length_map];omega) h.C.U.uo
 have hge:∀ q∈nmA A,aa H<=q:=λq hq=>by have:=(h.na q hq).1;omega
 have nN:∀ q,q<aa H->q∉nmA A:=λq hq hm=>by have:=hge q hm;omega
 refine ⟨A',H',a1,h.C.to a3 (nmA A) a4 (λq hq=>(h.na q hq).2) (nN _ l0) (nN _ l1) (nN _ l2) (nN _ l3) (nN _ l4),⟨Nat.le_trans h.G.len a3,λq hq hu hn=>?_,h.G.ns⟩,h.S,h.E,by rw[List.map_append];exact a2,h.lF.mono a3 (λq hq hlq=>a4 q hlq (λhm=>h.dj q hm hq)),λq hq=>?_,h.nf,λq hq=>?_,λhe q hq=>?_,h.lt,h.un⟩
 ·rw[a4 q (by have:=h.G.len;omega) (λhm=>by have:=(h.na q hm).1;rw[az] at hq;omega),h.G.fr q hq hu hn]
 ·rcases a5 q hq with hm|hm
  ·exact h.na q hm
  ·exact ⟨by omega,λhn=>by have:=(h.C.U.lt q hn).2;omega⟩
 ·rcases a5 q hq with hm|hm
  ·exact h.dj q hm
  ·intro hn;have:=(h.lF.lt q hn).2;omega
 ·rw[a4 q (by omega) (nN q hq),h.X he q hq]
theorem HdI.appF (h:HdI uo bo so vo fo LV d vm fm base K0 H u Hc uc ee A F xs fs)(f:Nat)(o:Int×Int)(hx:fs.length<=90000) :
  ∃ F' H',(∀ e lin,aq CC f 148 F (.sl 2 [eb o] lin) ⟨Hc,e⟩=some (F',⟨H',e⟩))/\HdI uo bo so vo fo LV d vm fm base K0 H u H' uc ee A F' xs (fs++[o]):=by
 have hl:=h.len;obtain ⟨l0,l1,l2,l3,l4⟩:=h.lt;obtain ⟨F',H',a1,a2,a3,a4,a5⟩:=jF sl148 f (x:=eb o) h.lF rfl (by simp[AV.low,aG]) (by rw[List.length_map];omega) h.C.U.uo
 have hge:∀ q∈nmA F,aa H<=q:=λq hq=>by have:=(h.nf q hq).1;omega
 have nN:∀ q,q<aa H->q∉nmA F:=λq hq hm=>by have:=hge q hm;omega
 refine ⟨F',H',a1,h.C.to a3 (nmA F) a4 (λq hq=>(h.nf q hq).2) (nN _ l0) (nN _ l1) (nN _ l2) (nN _ l3) (nN _ l4),⟨Nat.le_trans h.G.len a3,λq hq hu hn=>?_,h.G.ns⟩,h.S,h.E,h.lA.mono a3 (λq hq hlq=>a4 q hlq (λhm=>h.dj q hq hm)),by rw[List.map_append];exact a2,h.na,λq hq=>?_,λq hq hm=>?_,λhe q hq=>?_,h.lt,h.un⟩
 ·rw[a4 q (by have:=h.G.len;omega) (λhm=>by have:=(h.nf q hm).1;rw[az] at hq;omega),h.G.fr q hq hu hn]
 ·rcases a5 q hq with hm|hm
  ·exact h.nf q hm
  ·exact ⟨by omega,λhn=>by have:=(h.C.U.lt q hn).2;omega⟩
 ·rcases a5 q hm with hn|hn
  ·exact h.dj q hq hn
  ·have:=(h.lA.lt q hq).2;omega
 ·rw[a4 q (by omega) (nN q hq),h.X he q hq]
theorem HdI.loc (h:HdI uo bo so vo fo LV d vm fm base K0 H u Hc uc ee A F xs fs){j:Nat}(hj:j<aa K0):ae Hc (aa H+j)=ae K0 j:=by
 have hlt:=h.lt;rw[h.G.fr _ (by rw[az];omega) (by omega) (λhm=>by have:=h.un _ hm;omega),aW]
theorem HdI.own (h:HdI uo bo so vo fo LV d vm fm base K0 H u Hc uc ee A F xs fs):A6 (aa H) A/\A6 (aa H) F:=by
 constructor
 ·rcases h.lA with ⟨_,h1⟩|⟨_,id,g,h1,_⟩
  ·exact .inl h1
  ·exact .inr ⟨_,_,id,g,h1,lB xs,by have:=(h.na id (by rw[h1];simp[nmA])).1;omega⟩
 ·rcases h.lF with ⟨_,h1⟩|⟨_,id,g,h1,_⟩
  ·exact .inl h1
  ·exact .inr ⟨_,_,id,g,h1,uq fs,by have:=(h.nf id (by rw[h1];simp[nmA])).1;omega⟩
end
def FLw (fs:List (Int×Int))(F:AV)(L:Nat):Prop:=(fs=[]/\F=.nils)\/(fs≠[]/\∃ lin,F=.sl 2 (fs.map eb) lin/\lin.low L=true)
theorem FLw.fl {fs:List (Int×Int)}{F:AV}{L:Nat}(h:FLw fs F L):FL fs F:=h.imp id (λ⟨_,q,h1,_⟩=>⟨q,h1⟩)
theorem Al {uo:Nat}{H:Heap}{A:AV}{xs:List AtF}(h:LvI uo H 3 A (xs.map AtF.av)):TP xs A (aa H)/\TP xs (dedV A) (aa H):=by
 rcases h with ⟨h0,h1⟩|⟨h0,id,g,h1,h2,_⟩
 ·have:xs=[]:=by simpa using h0
  subst h1;exact ⟨.inl ⟨this,rfl⟩,.inl ⟨this,rfl⟩⟩
 ·subst h1;have:xs≠[]:=by simpa using h0
  exact ⟨.inr ⟨this,_,rfl,by simp[Lin.low,bG h2]⟩,.inr ⟨this,.dead,rfl,rfl⟩⟩
theorem za {uo:Nat}{H:Heap}{F:AV}{fs:List (Int×Int)}(h:LvI uo H 2 F (fs.map eb)):FLw fs F (aa H)/\∀ L,FLw fs (dedV F) L:=by
 rcases h with ⟨h0,h1⟩|⟨h0,id,g,h1,h2,_⟩
 ·have:fs=[]:=by simpa using h0
  subst h1;exact ⟨.inl ⟨this,rfl⟩,λ_=>.inl ⟨this,rfl⟩⟩
 ·subst h1;have:fs≠[]:=by simpa using h0
  exact ⟨.inr ⟨this,_,rfl,by simp[Lin.low,bG h2]⟩,λ_=>.inr ⟨this,.dead,rfl,rfl⟩⟩
theorem Em (o:Int×Int):aM CC 148 1 [(0,eb o)]=some (.sl 2 [eb o] .lit):=by
 have:∀ (a b:Int),aM CC 148 1 [(0,.agg [.int .i64 a,.int .i64 b])]=some (.sl 2 [.agg [.int .i64 a,.int .i64 b]] .lit):=λa b=>by kernel_rfl
 exact this _ _
section
variable {M:Memo}{uo bo so vo fo:Nat}{LV:AV}{d:NdR}{vm fm:FmS}{base:AV}
def Y6 (uo bo so vo fo:Nat)(LV:AV)(d:NdR)(vm fm:FmS)(base:AV)(K0 H:Heap)(u:UN)(xs:List AtF)(fs:List (Int×Int))(p' : PS)(X:IRes):Prop :=
 ∃ r' Hc uc ee A F,X=some (.exit 0,r',[],⟨Hc,ee⟩)/\HdI uo bo so vo fo LV d vm fm base K0 H u Hc uc ee A F xs fs/\uc.p=p'/\r'.a.b.e=A/\r'.a.b.f=F
theorem tO (m:ga M){f:Ex->PS->Option (AtF×PS)}(hf:∀ e p a p',f e p=some (a,p')->p.w<=p'.w){e:Ex}{d' : NdR}(hk:d'.ins.length<=90000)(ihk:∀ a∈e.kids,jq M uo bo so vo fo LV d vm fm base f a)
  {H:Heap} {u:UN} {p' : PS} (hw:p'.w+20<1000000) :
  ∀ (k i:Nat),k+i=d'.ins.length->∀ (fu:Nat),k<fu->∀ (Hc:Heap) (uc:UN) (ee:Nat) (A F:AV) (xs xs' : List AtF) (fs fs' : List (Int×Int)),xs.length<=i->fs.length<=i->dc f fm (d'.ins.drop i) (e.kids.drop i) uc.p=some (xs',fs',p')->HdI uo bo so vo fo LV d vm fm base [dv e,dq d'] H u Hc uc ee A F xs fs ->
  ∀ (r:RG),(r.a.a.a=.ptr bo 0/\r.a.a.b=.ptr so 0/\r.a.a.d=.nils/\r.a.a.g=.ptr (aa H) 0/\r.a.b.e=A/\r.a.b.f=F) ->
  (r.a.d.d=deZ d'.ins/\r.a.d.e=.int .i64 (d'.ins.length:Int)/\r.a.d.f=.int .i64 (i:Int)) ->
  Y6 uo bo so vo fo LV d vm fm base [dv e,dq d'] H u (xs++xs') (fs++fs') p' (ax (iZ (orc CC M)) fu r [] ⟨Hc,ee⟩):=by
 intro k
 induction k with
 | zero =>
   intro i hi fu hfu Hc uc ee A F xs xs' fs fs' hx1 hx2 hp I r ⟨h0,h1,h3,h6,h12,h13⟩ ⟨h32,h33,h34⟩;obtain ⟨fu',rfl⟩ : ∃ f,fu=f+1:=⟨fu-1,by omega⟩
   have:i=d'.ins.length:=by omega
   subst this;have hc:decide ((d'.ins.length:Int)<(d'.ins.length:Int))=false:=by simp
   rw[List.drop_length] at hp;simp only[dc,SJ,PJ] at hp;obtain ⟨rfl,rfl,rfl⟩:=hp;simp only[ax,iZ,qD,SIM,ST0,h33,h34,hc];refine ⟨_,Hc,uc,ee,A,F,rfl,by simpa using I,rfl,by first|exact h12,by first|exact h13⟩
 | succ k ih =>
   intro i hi fu hfu Hc uc ee A F xs xs' fs fs' hx1 hx2 hp I r ⟨h0,h1,h3,h6,h12,h13⟩ ⟨h32,h33,h34⟩;obtain ⟨fu',rfl⟩ : ∃ f,fu=f+1:=⟨fu-1,by omega⟩
   have hlt:i<d'.ins.length:=by omega
   have hc:decide ((i:Int)<(d'.ins.length:Int))=true:=by simp;omega
   have hd:d'.ins.drop i=d'.ins[i]::d'.ins.drop (i+1):=List.drop_eq_getElem_cons hlt;have hg:d'.ins[i]?=some d'.ins[i]:=by simp[hlt]
   generalize d'.ins[i]=a at hg hd;have hat:=qP hg;have ha:bR (i:Int) 1=((i+1:Nat):Int):=aZ i 1 (by unfold natMax;omega)
   rw[hd] at hp
   have hkl:i<e.kids.length:=by
    rcases Nat.lt_or_ge i e.kids.length with h|h
    ·exact h
    ·rw[List.drop_eq_nil_of_le h] at hp;cases hp
   have hkd:e.kids.drop i=e.kids[i]::e.kids.drop (i+1):=List.drop_eq_getElem_cons hkl;have hkg:e.kids[i]?=some e.kids[i]:=by simp[hkl]
   have hkm:=ihk _ (List.getElem_mem hkl);generalize e.kids[i]=x at hkd hkg hkm;rw[hkd] at hp;simp only[dc] at hp;have I1:=I.ap [.cells a.l];have hdo:ae (Hc++[AObj.cells a.l]) (aa Hc)=some (.cells a.l):=by rw[an];rfl
   have hlz:aa (Hc++[AObj.cells a.l])=aa Hc+1:=by rw[az];rfl
   have hkias:=xA e i x hkg;have hge:ae (Hc++[AObj.cells a.l]) (aa H)=some (dv e):=by have:=I1.loc (j:=0) (by rw[bq,bq,cd];omega);rw[Nat.add_zero] at this;rw[this];rfl
   have hs:=I1.C.s;cases haf:a.f with
   | true =>
     have hcn:∀ x y:IRes,eW (.bool a.f) x y=x:=λx y=>by rw[haf];rfl
     rw[haf] at hp;simp only[cond_true] at hp
     split at hp
     ·cases hp
     ·rename_i o ho
      split at hp
      ·cases hp
      ·rename_i xs1 fs1 p1 hp1;simp only[SJ,PJ] at hp;obtain ⟨rfl,rfl,rfl⟩:=hp;obtain ⟨F',H',hap,I2⟩:=I1.appF 148 o (by omega)
       have key:=ih (i+1) (by omega) fu' (by omega) H' uc ee A F' xs xs1 (fs++[o]) fs1 (by omega) (by simp;omega) hp1 I2
       rw[List.append_assoc] at key;have hlk:=mH (mE ho) I1.C.f;have h148:=Em o;have hfa3:∀ a b c d e f:AV,aC 3 (.iptr [a,b,c,d,e,f])=some (.iptr [d,e,f]):=λ_ _ _ _ _ _=>rfl
       have hld3:∀ (a b c:AV) (h:Heap),aw none (.iptr [a,b,c]) h=some a:=λ_ _ _ _=>rfl
       have hap' : ∀ e lin,aq CC 148 148 F (.sl 2 [.agg [.int .i64 o.1,.int .i64 o.2]] lin) ⟨Hc++[.cells a.l],e⟩=some (F',⟨H',e⟩):=hap;simp only[ax,iZ,qD,wG,vU,En,rL,SIM,ST0,ST1,h0,h1,h3,h6,h12,h13,h32,h33,h34,hc,hat,ha,hcn,hdo,hs,AY,hge,hkias,hfa3,hld3,hlk,h148,hap,hap',orVal,EXS,DZS,Nat.reduceAdd,Nat.reduceLeDiff];exact key _ ⟨by first|rfl|exact h0,by first|rfl|exact h1,by first|rfl|exact h3,by first|rfl|exact h6,by first|rfl|exact h12,rfl⟩ ⟨by first|rfl|exact h32,by first|rfl|exact h33,rfl⟩
   | false =>
     have hcn:∀ x y:IRes,eW (.bool a.f) x y=y:=λx y=>by rw[haf];rfl
     rw[haf] at hp;simp only[cond_false] at hp
     split at hp
     ·cases hp
     ·rename_i b p1 hxe
      split at hp
      ·cases hp
      ·rename_i xs1 fs1 p2 hp1;simp only[SJ,PJ] at hp;obtain ⟨rfl,rfl,rfl⟩:=hp;have hw1:=ep PS.w hf _ _ _ _ _ _ hp1;obtain ⟨H1,u1,e1,hR,U1,G1,hp2,S1,hD⟩:=hkm (Hc++[.cells a.l]) uc b p1 hxe I1.C (by omega)
       have I2:=I1.ex U1 G1 S1 hD;obtain ⟨A',H',hap,I3⟩:=I2.appA 148 b (by omega)
       have key:=ih (i+1) (by omega) fu' (by omega) H' u1 (min ee e1) A' F (xs++[b]) xs1 fs fs1 (by simp;omega) (by omega) (by rw[hp2];exact hp1) I3
       rw[List.append_assoc] at key;have h139:=nu b;simp only[ax,iZ,qD,wG,vU,GA,rL,SIM,ST0,ST1,h0,h1,h3,h6,h12,h13,h32,h33,h34,hc,hat,ha,hcn,hdo,hs,AY,hge,hkias,hR,h139,hap,orVal,EXS,DZS,Nat.reduceAdd,Nat.reduceLeDiff];exact key _ ⟨by first|rfl|exact h0,by first|rfl|exact h1,by first|rfl|exact h3,by first|rfl|exact h6,rfl,by first|rfl|exact h13⟩ ⟨by first|rfl|exact h32,by first|rfl|exact h33,rfl⟩
theorem keep148:CC.keep 148=false:=by kernel_rfl
theorem pR (m:ga M){f:Ex->PS->Option (AtF×PS)}(hf:∀ e p a p',f e p=some (a,p')->p.w<=p'.w){L:List NdR}(hL:L.length<=90000)(hLV:LV=.sl 6 (L.map NdR.v) .dead){e:Ex}{d' : NdR}(hfd:dt e.s L=some d')(hk:d'.ins.length<=90000)(ihk:∀ a∈e.kids,jq M uo bo so vo fo LV d vm fm base f a)
  {H:Heap} {u:UN} {xs:List AtF} {fs:List (Int×Int)} {p' : PS} (hp:dc f fm d'.ins e.kids u.p=some (xs,fs,p')) (C:Cx uo bo so vo fo LV d vm fm base H u) (hw:p'.w+20<1000000) :
  ∃ H' u' esc A F,orc CC M 148 [.ptr bo 0,.ptr so 0,e.v,.nils] H=some (.ret (.tuple [A,F]) H' esc)/\TP xs A (aa H')/\FLw fs F (aa H')/\UI uo H' u'/\Gr uo H u.ns H' u'.ns/\u'.p=p'/\Same u u'/\DE uo H H' u u' esc/\(esc=uo\/∀ L,AV.low L A=true/\AV.low L F=true):=by
 have I0:HdI uo bo so vo fo LV d vm fm base [dv e,dq d'] H u (H++[dv e,dq d']) u (aa H) .nils .nils [] [] :=
  ⟨C.ap _,Gr.refl,Same.refl,.inl ⟨rfl,rfl⟩,.inl ⟨rfl,rfl⟩,.inl ⟨rfl,rfl⟩,λ_ h=>(by cases h),λ_ h=>(by cases h),λ_ h=>(by cases h),λ_ q hq=>aU hq,⟨C.U.uo,bG C.b,bG C.s,bG C.v,bG C.f⟩,λq hq=>(C.U.lt q hq).2⟩
 have e0:(envOf [.ptr bo 0,.ptr so 0,e.v,.nils] 0 env0).a.a.a=.ptr bo 0:=rfl;have e1:(envOf [.ptr bo 0,.ptr so 0,e.v,.nils] 0 env0).a.a.b=.ptr so 0:=rfl;have e2:(envOf [.ptr bo 0,.ptr so 0,e.v,.nils] 0 env0).a.a.c=e.v:=rfl;have e3:(envOf [.ptr bo 0,.ptr so 0,e.v,.nils] 0 env0).a.a.d=.nils:=rfl
 obtain ⟨r0,hr0,hr1,hpre⟩ : ∃ r,(r.a.a.a=.ptr bo 0/\r.a.a.b=.ptr so 0/\r.a.a.d=.nils/\r.a.a.g=.ptr (aa H) 0/\r.a.b.e=.nils/\r.a.b.f=.nils)/\(r.a.d.d=deZ d'.ins/\r.a.d.e=.int .i64 (d'.ins.length:Int)/\r.a.d.f=.int .i64 ((0:Nat):Int)) /\
   z148.sh (orc CC M) (envOf [.ptr bo 0,.ptr so 0,e.v,.nils] 0 env0) [] ⟨H,aa H⟩=dI (ac (mL (orc CC M)) retZ) (c9 0 (ax (iZ (orc CC M)) 100000 r [] ⟨H++[dv e,dq d'],aa H⟩)):=by
  generalize envOf [.ptr bo 0,.ptr so 0,e.v,.nils] 0 env0=R at e0 e1 e2 e3;have hbx:=kB e;have hb:=au C.b [dv e,.gone];have hfn:=q7 m hL hfd (q:=.dead) (H++[dv e,.gone]);have hln:=mK d'.ins;have hn1:=gR d';have ho1:=kO d';have hge:ae (H++[dv e,.gone]) (aa H)=some (dv e):=by rw[an];rfl
  have hm0:min (aa H) (aa H+2)=aa H:=Nat.min_eq_left (by omega)
  have hl2:aa (H++[dv e,.gone])=aa H+2:=by rw[az];rfl
  rw[hLV] at hb;have hset:∀ x c:AObj,am (H++[dv e,x]) (aa H+1) c=H++[dv e,c]:=λx c=>dT H [dv e,x] 1 c
  have hgl:∀ x:AObj,ae (H++[dv e,x]) (aa H+1)=some x:=λx=>by rw[aW];rfl
  simp only[z148,Hn,Fc,GL,Eu,F8,SIM,ST0,ST1,e0,e1,e2,e3,hbx,hb,hfn,hge,hm0,hl2,hln,hn1,ho1,hset,hgl,ff,List.append_assoc,List.cons_append,List.nil_append,DZS,EXS,Nat.reduceAdd,Nat.reduceLeDiff];exact ⟨_,⟨by first|rfl|exact e0,by first|rfl|exact e1,by first|rfl|exact e3,rfl,rfl,rfl⟩,⟨rfl,rfl,rfl⟩,rfl⟩
 obtain ⟨r',Hc,uc,ee,A,F,hX,I,hpc,g12,g13⟩:=tO m hf (e:=e) (d':=d') hk ihk (H:=H) (u:=u) hw d'.ins.length 0 rfl 100000 (by omega) _ u (aa H) .nils .nils [] xs [] fs (by simp) (by simp) (by rw[List.drop_zero,List.drop_zero];exact hp) I0 r0 hr0 hr1
 rw[List.nil_append,List.nil_append] at I
 obtain ⟨r2,h8,h9,hX2⟩ : ∃ r2,r2.a.b.a=A/\r2.a.b.b=F/\dI (ac (mL (orc CC M)) retZ) (c9 0 (some (.exit 0,r',[],⟨Hc,ee⟩)))=some (.ret,r2,[],⟨Hc,ee⟩):=by
  simp only[mL,SIM,ST0,g12,g13];exact ⟨_,rfl,rfl,rfl⟩
 have hfin:orc CC M 148 [.ptr bo 0,.ptr so 0,e.v,.nils] H=some (lH false (aa H) (.tuple [A,F]) ⟨Hc,ee⟩):=by
  refine aJ (z:=z148) (m _ _ rfl) (by kernel_rfl) rfl ?_
  rw[hpre,hX,hX2]
  have hres:fx r2 Hc z148.res=some [A,F]:=by
   show fx r2 _ [.t 8,.t 9]=_;rw[iN,iN,jI,show gt r2 8=A from h8,show gt r2 9=F from h9]
  rw[jG,hres,<-keep148];rfl
 have huo:=C.U.uo;have hl:=I.len;have hext:Gr uo H u.ns Hc uc.ns:=Gr.ap.trans I.G
 rcases I.E with ⟨rfl,rfl⟩|rfl
 ·have ht:bg (aa H) Hc=H:=tV (by omega) (λq hq=>I.X rfl q hq)
  refine ⟨H,uc,aa H,dedV A,dedV F,?_,?_,(za I.lF).2 _,C.U,Gr.refl,hpc,Same.refl,.inl ⟨rfl,rfl,rfl⟩,.inr λL=>⟨xT I.own.1 L,xT I.own.2 L⟩⟩
  ·rw[hfin,Rq I.own.1 I.own.2,ht]
  ·rcases (Al I.lA).2 with h|⟨h0,lin,h1,_⟩
   ·exact .inl h
   ·rcases I.own.1 with h2|⟨k,l,id,g,h2,_⟩
    ·rw[h2] at h1;cases h1
    ·rw[h2] at h1 ⊢;simp only[dedV,AV.sl.injEq] at h1;exact .inr ⟨h0,.dead,by simp only[dedV];rw[h1.1,h1.2.1],rfl⟩
 ·refine ⟨Hc,uc,ee,A,F,?_,(Al I.lA).1,(za I.lF).1,I.C.U,hext,hpc,I.S,.inr rfl,.inl rfl⟩;rw[hfin,dL (by omega)]
end
theorem Qn {xs:List AtF}{A:AV}{L L' : Nat}(h:TP xs A L)(hl:L<=L'):AL xs A L':=by
 rcases h with h|⟨_,lin,h1,h2⟩
 ·exact .inl h
 ·exact .inr ⟨lin,h1,Lin.low_mono hl _ h2⟩
section
variable {M:Memo}{uo bo so vo fo:Nat}{LV:AV}{d:NdR}{vm fm:FmS}{base:AV}
def Yb (M:Memo)(uo bo:Nat)(LV:AV)(nd:NdR->List AtF->List (Int×Int)->PS->Option (List Nat×PS))(d' : NdR):Prop:=∀ (H:Heap) (u:UN) (xs:List AtF) (fs:List (Int×Int)) (A F:AV) (l:List Nat) (p' : PS),
 UI uo H u->ae H bo=some (.cells [.ptr uo 0,LV])->bo∉u.ns->AL xs A (aa H)->FL fs F->nd d' xs fs u.p=some (l,p')->p'.w+20<1000000 ->
 ∃ H' u' V,orc CC M 81 [.ptr bo 0,d'.v,A,F,gv0] H=some (.ret V H' uo)/\wm (aa H) u'.ns H' V l/\UI uo H' u'/\Gr uo H u.ns H' u'.ns/\u'.p=p'/\Same u u'
theorem rD (m:ga M){f:Ex->PS->Option (AtF×PS)}(hf:∀ e p a p',f e p=some (a,p')->p.w<=p'.w){L:List NdR}(hL:L.length<=90000)(hLV:LV=.sl 6 (L.map NdR.v) .dead){e:Ex}{d' : NdR}(hfd:dt e.s L=some d')(hk:d'.ins.length<=90000)(ihk:∀ a∈e.kids,jq M uo bo so vo fo LV d vm fm base f a)(hb:mo base)
  {nd:NdR->List AtF->List (Int×Int)->PS->Option (List Nat×PS)} (hN:Yb M uo bo LV nd d')
  {H:Heap} {u:UN} {xs:List AtF} {fs:List (Int×Int)} {p1:PS} (hp:dc f fm d'.ins e.kids u.p=some (xs,fs,p1)) {l:List Nat} {p' : PS} (hn:nd d' xs fs p1=some (l,p')) (hwm:p1.w<=p'.w) (C:Cx uo bo so vo fo LV d vm fm base H u) (hw:p'.w+20<1000000) :
  ∃ H' u' V,orc CC M 150 [.ptr bo 0,.ptr so 0,e.v,.nils] H=some (.ret V H' uo)/\wm (aa H) u'.ns H' V l/\UI uo H' u'/\Gr uo H u.ns H' u'.ns/\u'.p=p'/\Same u u':=by
 have C0:=C.ap [dv e];obtain ⟨H1,u1,e1,A,F,hA,hAt,hFl,U1,G1,hp1,S1,hD,_⟩:=pR m hf hL hLV hfd hk ihk hp C0 (by omega)
 have C1:=C0.step U1 G1;have C2:=C1.ap [dq d'];have hl0:aa (H++[dv e])=aa H+1:=by rw[az];rfl
 have hl1:aa (H1++[dq d'])=aa H1+1:=by rw[az];rfl
 obtain ⟨H3,u3,V,hN,hO,U3,G3,hp3,S3⟩:=hN _ _ _ _ _ _ _ _ C2.U C2.b C2.nb (Qn hAt (by omega)) hFl.fl (by rw[hp1];exact hn) hw
 have huo:=C.U.uo;have hg1:=G1.len;rw[hl0] at hg1
 have hO' : wm (aa H) u3.ns H3 V l:=by
  rcases hO with h|⟨h0,id,g,h1,h2,h3,h4⟩
  ·exact .inl h
  ·exact .inr ⟨h0,id,g,h1,h2,by omega,h4⟩
 refine ⟨H3,u3,V,aJ (z:=z150) (m _ _ rfl) (by kernel_rfl) rfl ?_,hO',U3,((Gr.ap.trans G1).trans Gr.ap).trans G3,hp3,S1.trans S3⟩
 have e0:(envOf [.ptr bo 0,.ptr so 0,e.v,.nils] 0 env0).a.a.a=.ptr bo 0:=rfl;have e1' : (envOf [.ptr bo 0,.ptr so 0,e.v,.nils] 0 env0).a.a.b=.ptr so 0:=rfl;have e2:(envOf [.ptr bo 0,.ptr so 0,e.v,.nils] 0 env0).a.a.c=e.v:=rfl;have e3:(envOf [.ptr bo 0,.ptr so 0,e.v,.nils] 0 env0).a.a.d=.nils:=rfl;generalize envOf [.ptr bo 0,.ptr so 0,e.v,.nils] 0 env0=R at e0 e1' e2 e3;have hbx:=kB e;have hge:ae (H++[dv e]) (aa H)=some (dv e):=by rw[an];rfl
 have hge1:ae H1 (aa H)=some (dv e):=by rw[G1.fr (aa H) (by omega) (by omega) (λhm=>by have:=(C.U.lt _ hm).2;omega),hge]
 have hge2:=au hge1 [.gone];have hb1:=au C1.b [.gone];rw[hLV] at hb1;have hfn:=q7 m hL hfd (q:=.dead) (H1++[.gone]);have hl2:aa (H1++[AObj.gone])=aa H1+1:=by rw[az];rfl
 rw[hl2] at hfn;have hset:∀ x c:AObj,am (H1++[x]) (aa H1) c=H1++[c]:=λx c=>bJ H1 [x] c
 have hgl:∀ x:AObj,ae (H1++[x]) (aa H1)=some x:=λx=>by rw[an];rfl
 have hn1:=gR d';have ho1:=kO d';have hgd:=jo m hb C2.s;rw[hl1] at hgd;have hnd:ae (H1++[dq d']) (aa H1)=some (dq d'):=by rw[an];rfl
 have hsd:=tn d'
 have hm1:min (aa H) e1=aa H\/min (aa H) e1=uo:=by
  rcases hD with ⟨h,_,_⟩|h
  ·left;omega
  ·right;omega
 have hm2:min (min (aa H) e1) (aa H1+1)=min (aa H) e1:=by rcases hm1 with h|h<;>omega
 have hm3:min (min (aa H) e1) uo=uo:=by rcases hm1 with h|h<;>omega
 have hgc:=λhp=>dL (keep:=CC.keep 150) (base:=aa H) (e:=uo) (v:=V) (hp:=hp) (by omega)
 simp only[z150,EK,Fl,CQ,Ep,SIM,ST0,ST1,e0,e1',e2,e3,hbx,hge,hA,hge2,hb1,hfn,hl2,hm2,hm3,hn1,ho1,hgd,hnd,hset,hgl,hsd,hN,hgc,ff,DZS,EXS,P6,Nat.reduceAdd,Nat.reduceLeDiff]
end
theorem sl85:o9 85 5:=gH (by kernel_rfl) (by decide) (λf=>xj f 85 rfl)
theorem se32:∃ e i z,bK CC 32=some e/\CC.P.info? e=some i/\cj CC e=some z/\i.size=1/\(0<i.bytes/\i.bytes<=65536)/\z.cells.length=1:=by
 have h:NP 32=some (1,true,1):=by kernel_rfl
 unfold NP at h
 split at h
 ·rename_i e he
  split at h
  ·rename_i i z hi hz;simp only[SJ,PJ,decide_eq_true_eq] at h;exact ⟨e,i,z,he,hi,hz,h.1,h.2.1,h.2.2⟩
  ·cases h
 ·cases h
abbrev gA (n:Int):AV:=.int .i64 n
theorem rK (L:Nat):∀ l:List Int,aG L (l.map gA)=true
 | []=>rfl
 | a::l=>by simp only[List.map_cons,aG,rK L l,Bool.and_true];rfl
theorem Vw (n:Int):aM CC 32 1 [(0,gA n)]=some (.sl 1 [gA n] .lit):=by kernel_rfl
theorem H7 {f:Nat}(hf:CC.mutT f 32=false){uo:Nat}{H:Heap}{V:AV}{xs:List Int}(h:LvI uo H 1 V (xs.map gA))(n:Int)(hl:xs.length+1<=2 ^ 24)(hu:uo<aa H) :
  ∃ V' H',(∀ e lin,aq CC f 32 V (.sl 1 [gA n] lin) ⟨H,e⟩=some (V',⟨H',e⟩))/\LvI uo H' 1 V' ((xs++[n]).map gA)/\aa H<=aa H'/\(∀ q,q<aa H->q∉nmA V->ae H' q=ae H q)/\(∀ q∈nmA V',q∈nmA V\/aa H<=q):=by
 obtain ⟨el,i,z,h1,h2,h3,h4,h6,h7⟩:=se32;have hok:[gA n].all (bi 1)=true:=rfl
 have hne:¬ (i.size=0\/i.bytes=0\/z.cells.length≠i.size\/[gA n].all (bi i.size)=false\/2 ^ 16<i.bytes):=by
  rw[h4,hok,h7];simp;omega
 rcases h with ⟨h0,rfl⟩|⟨h0,id,g,rfl,hg,hu',hw'⟩
 ·have hx0:xs=[]:=by simpa using h0
  subst hx0;refine ⟨.sl 1 [gA n] (.live (aa H) 0),H++[.lin 0],λe lin=>?_,.inr ⟨by simp,aa H,0,rfl,by rw[an];rfl,hu,rK _ _⟩,by rw[az];omega,λq hq _=>?_,λq hq=>?_⟩
  ·simp only[aq,h1,h2,h3,aY,h4,if_true];rw[h4] at hne;rw[if_neg hne];simp[hf,ai]
  ·rw[ai] at hq;rw[aB,aB,List.getElem?_append_left hq]
  ·simp only[nmA,List.mem_singleton] at hq;exact .inr (by omega)
 ·refine ⟨.sl 1 ((xs++[n]).map gA) (.live id (g+1)),am H id (.lin (g+1)),λe lin=>?_,.inr ⟨by simp,id,g+1,rfl,aF hg _,hu',rK _ _⟩,by rw[ay];exact Nat.le_refl _,λq hq hn=>?_,λq hq=>.inl hq⟩
  ·rw[aB] at hg;simp only[aq,h1,h2,h3,aY,h4,if_true];rw[h4] at hne;rw[if_neg hne];simp[hf,hl,hg,aR]
  rw[af (by simp only[nmA,List.mem_singleton] at hn;exact hn)]
theorem QE (w:WtF):[w.av].all (bi 5)=true:=by
 cases h:w.ah.map (λn=>AV.int .i64 n) with
 | nil=>simp[bi,AV.cells,AV.one,lV,h]
 | cons a l=>simp[bi,AV.cells,AV.one,lV,h]
theorem SE {w:WtF}{L:Nat}(h:w.lin.low L=true):w.av.low L=true:=by
 have h2:=rK L w.ah;cases h3:w.ah.map (λn=>AV.int .i64 n) with
 | nil=>simp[AV.low,aG,lV,h3]
 | cons a l =>
   have h4:aG L (a::l)=true:=by rw[<-h3];exact h2
   simp[AV.low,aG,lV,h3] at h4 ⊢;exact ⟨h4,h⟩
theorem UI.addW {uo:Nat}{H:Heap}{u:UN}(h:UI uo H u)(f:Nat)(q:WtF)(hq:q.lin.low (aa H)=true)(hv:u.vars+u.eqs.length+u.ms.length+u.ws.length+u.sp.length+u.size+1<1000000) :
  ∃ V' H2,(∀ e lin,aq CC f 85 u.W (.sl 5 [q.av] lin) ⟨H,e⟩=some (V',⟨H2,e⟩))/\ae H2 uo=some (.cells u.c)/\aa H<=aa H2/\(∀ r,r<aa H->r∉nmA u.W->ae H2 r=ae H r) /\
    (∀ b,uo<=b->ar 1 (.ptr uo 7) V' ⟨H2,b⟩=some ⟨am H2 uo (.cells ({ u with ws:=u.ws++[q],W:=V' }:UN).c),uo⟩) /\
    UI uo (am H2 uo (.cells ({ u with ws:=u.ws++[q],W:=V' }:UN).c)) { u with ws:=u.ws++[q],W:=V' }/\Gr uo H u.ns (am H2 uo (.cells ({ u with ws:=u.ws++[q],W:=V' }:UN).c)) ({ u with ws:=u.ws++[q],W:=V' }:UN).ns:=by
 obtain ⟨V',H2,a1,a2,a3,a4,a5⟩:=jF sl85 f h.w (QE q) (SE hq) (by rw[List.length_map];omega) h.uo
 have hu2:ae H2 uo=some (.cells u.c):=by rw[a4 uo h.uo (λhm=>by have:=(h.w.lt _ hm).1;omega),h.ob]
 have hE' : ({ u with ws:=u.ws++[q],W:=V' }:UN).ws.map WtF.av=u.ws.map WtF.av++[q.av]:=by simp
 have st:=λb hb=>m6 (b:=b) (off:=7) a2 (by simp) hu2 (by rw[ai];simp) hb
 have hl:aa H<=aa (am H2 uo (.cells ({ u with ws:=u.ws++[q],W:=V' }:UN).c)):=by rw[ay];exact a3
 have hf:∀ r,r<aa H->uo<r->r∉nmA u.W->ae (am H2 uo (.cells ({ u with ws:=u.ws++[q],W:=V' }:UN).c)) r=ae H r:=λr hr hu hn=>by rw[af (by omega),a4 r hr hn]
 have dje:∀ r∈nmA u.E,r∉nmA u.W:=λr hr=>(h.dj.1 r hr).2.1
 have djm:∀ r∈nmA u.Ms,r∉nmA u.W:=λr hr=>(h.dj.2.1 r hr).1
 have djs:∀ r∈nmA u.S,r∉nmA u.W:=λr hr hn=>(h.dj.2.2 r hn) hr
 refine ⟨V',H2,a1,hu2,a3,a4,λb hb=>st b hb,⟨aF hu2 _,h.e.mono hl (λr hr hlt=>hf r hlt (h.e.lt r hr).1 (dje r hr)),h.el,h.m.mono hl (λr hr hlt=>hf r hlt (h.m.lt r hr).1 (djm r hr)),?_,h.s.mono hl (λr hr hlt=>hf r hlt (h.s.lt r hr).1 (djs r hr)),⟨λr hr=>⟨(h.dj.1 r hr).1,λhn=>?_,(h.dj.1 r hr).2.2⟩,λr hr=>⟨λhn=>?_,(h.dj.2.1 r hr).2⟩,λr hr hn=>?_⟩,?_⟩,⟨hl,λr hr hne hn=>?_,λr hr=>?_⟩⟩
 ·rw[hE'];exact a2.mono (by rw[ay];exact Nat.le_refl _) (λr hr _=>af (by have:=(a2.lt r hr).1;omega) _)
 ·rcases a5 r hn with h1|h1
  ·exact dje r hr h1
  ·have:=(h.e.lt r hr).2;omega
 ·rcases a5 r hn with h1|h1
  ·exact djm r hr h1
  ·have:=(h.m.lt r hr).2;omega
 ·rcases a5 r hr with h1|h1
  ·exact h.dj.2.2 r h1 hn
  ·have:=(h.s.lt r hn).2;omega
 ·simp only[List.length_append,List.length_singleton];omega
 ·rw[af hne,a4 r hr (λhm=>hn (bT.2 (.inr (.inr (.inl hm)))))]
 ·rcases bT.1 hr with h1|h1|h1|h1
  ·exact .inl (bT.2 (.inl h1))
  ·exact .inl (bT.2 (.inr (.inl h1)))
  ·exact (a5 r h1).imp (λh2=>bT.2 (.inr (.inr (.inl h2)))) id
  ·exact .inl (bT.2 (.inr (.inr (.inr h1))))
theorem UI.addS {uo b:Nat}{H:Heap}{u:UN}(h:UI uo H u)(f:Nat)(q:SpF)(hb:ae H b=some (.cells q.cs))(ho:q.cs.all AV.one=true)(hw:aG (aa H) q.cs=true)(hbn:b∉nmA u.S)(hs:u.sp.length<=100000)(hv:u.vars+u.eqs.length+u.ms.length+u.ws.length+u.sp.length+u.size+1<1000000) :
  ∃ n H2,(∀ e,aq CC f 86 u.S (.rsl b 0 1 1 4) ⟨H,e⟩=some (.rsl (aa H) 0 n n 4,⟨H2,e⟩))/\ae H2 uo=some (.cells u.c)/\aa H2=aa H+1/\(∀ r,r<aa H->r∉nmA u.S->ae H2 r=ae H r) /\
    (∀ b,uo<=b->ar 1 (.ptr uo 8) (.rsl (aa H) 0 n n 4) ⟨H2,b⟩=some ⟨am H2 uo (.cells ({ u with sp:=u.sp++[q],S:=.rsl (aa H) 0 n n 4 }:UN).c),uo⟩) /\
    UI uo (am H2 uo (.cells ({ u with sp:=u.sp++[q],S:=.rsl (aa H) 0 n n 4 }:UN).c)) { u with sp:=u.sp++[q],S:=.rsl (aa H) 0 n n 4 } /\
    Gr uo H u.ns (am H2 uo (.cells ({ u with sp:=u.sp++[q],S:=.rsl (aa H) 0 n n 4 }:UN).c)) ({ u with sp:=u.sp++[q],S:=.rsl (aa H) 0 n n 4 }:UN).ns:=by
 have hcl:∀ l:List SpF,(l.flatMap SpF.cs).length=4*l.length:=λl=>by
  induction l with
  | nil=>rfl
  | cons a l ih=>simp only[List.flatMap_cons,List.length_append,ih,List.length_cons];simp;omega
 obtain ⟨V',H2,a1,a2,⟨n,rfl,hn⟩,a3,a4,a5⟩:=xr rs86 f h.s hb rfl ho hw (by rw[hcl];omega) h.uo hbn
 have hu2:ae H2 uo=some (.cells u.c):=by rw[a4 uo h.uo (λhm=>by have:=(h.s.lt _ hm).1;omega),h.ob]
 have st:=λb hb=>lP (k:=4) (r:=aa H) (n:=n) (b:=b) (off:=8) (H:=H2) (by omega) h.uo hu2 (by rw[ai];simp) hb
 have hl:aa H<=aa (am H2 uo (.cells ({ u with sp:=u.sp++[q],S:=.rsl (aa H) 0 n n 4 }:UN).c)):=by rw[ay];omega
 have hf:∀ r,r<aa H->uo<r->r∉nmA u.S->ae (am H2 uo (.cells ({ u with sp:=u.sp++[q],S:=.rsl (aa H) 0 n n 4 }:UN).c)) r=ae H r:=λr hr hu hn=>by rw[af (by omega),a4 r hr hn]
 have nE:∀ r∈nmA u.E,r∉nmA u.S:=λr hr=>(h.dj.1 r hr).2.2
 have nM:∀ r∈nmA u.Ms,r∉nmA u.S:=λr hr=>(h.dj.2.1 r hr).2
 have nW:∀ r∈nmA u.W,r∉nmA u.S:=λr hr=>h.dj.2.2 r hr
 have hE' : ({ u with sp:=u.sp++[q],S:=.rsl (aa H) 0 n n 4 }:UN).sp.flatMap SpF.cs=u.sp.flatMap SpF.cs++q.cs:=by simp
 refine ⟨n,H2,a1,hu2,a3,a4,λb hb=>st b hb,⟨aF hu2 _,h.e.mono hl (λr hr hlt=>hf r hlt (h.e.lt r hr).1 (nE r hr)),h.el,h.m.mono hl (λr hr hlt=>hf r hlt (h.m.lt r hr).1 (nM r hr)),h.w.mono hl (λr hr hlt=>hf r hlt (h.w.lt r hr).1 (nW r hr)),?_,⟨λr hr=>⟨(h.dj.1 r hr).1,(h.dj.1 r hr).2.1,?_⟩,λr hr=>⟨(h.dj.2.1 r hr).1,?_⟩,λr hr=>?_⟩,?_⟩,⟨hl,λr hr hne hn=>?_,λr hr=>?_⟩⟩
 ·rw[hE'];exact a2.mono (by rw[ay];exact Nat.le_refl _) (λr hr _=>af (by have:=(a2.lt r hr).1;omega) _)
 ·simp only[nmA,List.mem_singleton];have:=(h.e.lt r hr).2;omega
 ·simp only[nmA,List.mem_singleton];have:=(h.m.lt r hr).2;omega
 ·simp only[nmA,List.mem_singleton];have:=(h.w.lt r hr).2;omega
 ·simp only[List.length_append,List.length_singleton];omega
 ·rw[af hne,a4 r hr (λhm=>hn (bT.2 (.inr (.inr (.inr hm)))))]
 ·rcases bT.1 hr with h1|h1|h1|h1
  ·exact .inl (bT.2 (.inl h1))
  ·exact .inl (bT.2 (.inr (.inl h1)))
  ·exact .inl (bT.2 (.inr (.inr (.inl h1))))
  ·simp only[nmA,List.mem_singleton] at h1;exact .inr (by omega)
theorem ru {b:AV}(h:mo b):aO CC 140 b=some (.int .i64 0):=by
 rcases h with rfl|rfl<;>kernel_rfl
theorem Xm (v:Nat)(o:Int×Int)(a:Nat):ao CC 155 [(0,.int .i64 (v:Int)),(1,.agg [.int .i64 o.1,.int .i64 o.2]),(3,.int .i64 (a:Int))]=some (.agg [.int .i64 (v:Int),.int .i64 o.1,.int .i64 o.2,.nils,.int .i64 (a:Int)]):=by
 have:∀ x y z w:Int,ao CC 155 [(0,.int .i64 x),(1,.agg [.int .i64 y,.int .i64 z]),(3,.int .i64 w)]=some (.agg [.int .i64 x,.int .i64 y,.int .i64 z,.nils,.int .i64 w]):=λ_ _ _ _=>by kernel_rfl
 exact this _ _ _ _
abbrev AE (v:Nat)(o:Int×Int)(V:AV)(a:Nat):List AV:=[.int .i64 (v:Int),.int .i64 o.1,.int .i64 o.2,V,.int .i64 (a:Int)]
theorem U5 (v:Nat)(o:Int×Int)(a:Nat){V:AV}(h:V=.nils\/∃ l q,V=.sl 1 l q):aM CC 85 1 [(0,.agg (AE v o V a))]=some (.sl 5 [.agg (AE v o V a)] .lit):=by
 have h1:∀ x y z w:Int,aM CC 85 1 [(0,.agg [.int .i64 x,.int .i64 y,.int .i64 z,.nils,.int .i64 w])]=some (.sl 5 [.agg [.int .i64 x,.int .i64 y,.int .i64 z,.nils,.int .i64 w]] .lit):=λ_ _ _ _=>by kernel_rfl
 have h2:∀ (x y z w:Int) (l:List AV) (q:Lin),aM CC 85 1 [(0,.agg [.int .i64 x,.int .i64 y,.int .i64 z,.sl 1 l q,.int .i64 w])]=some (.sl 5 [.agg [.int .i64 x,.int .i64 y,.int .i64 z,.sl 1 l q,.int .i64 w]] .lit):=λ_ _ _ _ _ _=>by kernel_rfl
 rcases h with rfl|⟨l,q,rfl⟩
 ·exact h1 _ _ _ _
 ·exact h2 _ _ _ _ _ _
theorem Ki {uo off b k:Nat}{H:Heap}{V:AV}{xs cs:List AV}(h:LvI uo H k V xs)(hn:xs≠[])(hcs:ae H uo=some (.cells cs))(ho:off+1<=aa cs) :
  ar 1 (.ptr uo off) V ⟨H,b⟩=some ⟨am H uo (.cells (db cs off [V])),min b uo⟩:=by
 rcases h with ⟨h0,_⟩|⟨h0,id,g,rfl,hg,hu,hw⟩
 ·exact absurd h0 hn
 ·have hid:id<aa H:=by rw[ai];exact bj hg
  have low:∀ L,AV.low L (.sl k xs (.live id g))=(aG L xs&&decide (id<L)):=λL=>by simp[AV.low,Lin.low]
  have e1:eK (aa H) (.sl k xs (.live id g))=true:=by rw[bY,low,hw];simpa using hid
  have e2:eK (uo+1) (.sl k xs (.live id g))=false:=by rw[bY,low];simp;intro _;omega
  have e3:Nat.ble (Nat.add off 1) (aa cs)=true:=by rw[dW];simpa using ho
  have e5:Nat.beq (aa [AV.sl k xs (.live id g)]) 1=true:=rfl;have e6:List.all [AV.sl k xs (.live id g)] AV.one=true:=rfl;have e7:AV.cells (.sl k xs (.live id g))=[.sl k xs (.live id g)]:=rfl;simp only[ar,hcs,eM,e1,e3,e5,e6,e7,Bool.and_self,cond_true,gV,e2,cond_false]
def pW (fm:FmS)(e:Ex)(p:PS):Option (AtF×PS):=match jv e.s fm with
 | none=>none
 | some o=>some (⟨false,0,p.vars⟩,{ p with vars:=p.vars+1,ws:=p.ws++[⟨p.vars,o.1,o.2,e.kids.map Ex.n,e.p⟩] })
theorem ivL_same:∀ l:List Int,sameL (l.map gA) (l.map gA)=true
 | []=>by simp[sameL]
 | a::l=>by rw[List.map_cons];simp[sameL,AV.same,ivL_same l]
theorem FG (u:List WtF):sameL (u.map WtF.av) (u.map WtF.av)=true:=by
 induction u with
 | nil=>simp[sameL]
 | cons w l ih =>
   rw[List.map_cons]
   have h1:AV.same (lV 1 w.lin (w.ah.map λn=>AV.int .i64 n)) (lV 1 w.lin (w.ah.map λn=>AV.int .i64 n))=true:=by
    have:=ivL_same w.ah;cases h:w.ah.map (λn=>AV.int .i64 n) with
    | nil=>simp[lV,AV.same]
    | cons a r =>
      have h2:sameL (a::r) (a::r)=true:=by rw[<-h];exact this
      simp[lV,AV.same,h2]
   simp[sameL,AV.same,ih,h1]
theorem UI.wsame {uo:Nat}{H:Heap}{u:UN}(h:UI uo H u):AV.same u.W u.W=true:=by
 rcases h.w with ⟨_,h1⟩|⟨_,id,g,h1,_⟩
 ·rw[h1];simp[AV.same]
 ·rw[h1];simp[AV.same,FG u.ws]
theorem MV (a b c d e f g h i j:AV):ae [a,b,c,d,e,f,g,h,i,j] 7=some h:=rfl
theorem yq (a b c d e f g h i j:AV):ae [a,b,c,d,e,f,g,h,i,j] 8=some i:=rfl
theorem Yv (a b c d e:AV):ae [a,b,c,d,e] 3=some d:=rfl
theorem Ym (a b c d e:AV):ae [a,b,c,d,e] 0=some a:=rfl
theorem Yp (a b c d e v:AV):db [a,b,c,d,e] 3 [v]=[a,b,c,v,e]:=rfl
section
variable {M:Memo}{uo bo so vo fo:Nat}{LV:AV}{d:NdR}{vm fm:FmS}{base:AV}
structure WtI (uo bo so vo fo:Nat)(LV:AV)(d:NdR)(vm fm:FmS)(base:AV)(H:Heap)(u uc:UN)(w v:Nat)(o:Int×Int)(a:Nat)(Hc:Heap)(V:AV)(xs:List Int):Prop where
 C:Cx uo bo so vo fo LV d vm fm base Hc uc
 G:Gr uo H u.ns Hc uc.ns
 g:ae Hc w=some (.cells (AE v o V a))
 lV:LvI w Hc 1 V (xs.map gA)
 nv:∀ q∈nmA V,q∉uc.ns
 wn:w∉uc.ns
 wl:aa H+1<w
 z:ae Hc (aa H+1)=some zA
 lt:uo<aa H/\bo<aa H/\so<aa H/\vo<aa H/\fo<aa H
theorem WtI.ap {H Hc:Heap}{u uc:UN}{w v:Nat}{o:Int×Int}{a:Nat}{V:AV}{xs:List Int}(h:WtI uo bo so vo fo LV d vm fm base H u uc w v o a Hc V xs)(K:Heap):WtI uo bo so vo fo LV d vm fm base H u uc w v o a (Hc++K) V xs :=
 ⟨h.C.ap K,h.G.trans Gr.ap,au h.g K,h.lV.mono (by rw[az];omega) (λq _ hq=>aU hq),h.nv,h.wn,h.wl,au h.z K,h.lt⟩
theorem WtI.add {H Hc:Heap}{u uc:UN}{w v:Nat}{o:Int×Int}{a:Nat}{V:AV}{xs:List Int}(h:WtI uo bo so vo fo LV d vm fm base H u uc w v o a Hc V xs)(n:Int)(hx:xs.length<=90000) :
  ∃ V' H' H'',(∀ e lin,aq CC 181 32 V (.sl 1 [gA n] lin) ⟨Hc,e⟩=some (V',⟨H',e⟩))/\ae H' w=some (.cells (AE v o V a))/\(∀ b,b<=w->ar 1 (.ptr w 3) V' ⟨H',b⟩=some ⟨H'',b⟩)/\WtI uo bo so vo fo LV d vm fm base H u uc w v o a H'' V' (xs++[n]):=by
 obtain ⟨l0,l1,l2,l3,l4⟩:=h.lt;have hwl:=h.wl;obtain ⟨V',H',a1,a2,a3,a4,a5⟩:=H7 (f:=181) (by kernel_rfl) h.lV n (by omega) (bG h.g)
 have hnw:∀ q,q<=w->q∉nmA V:=λq hq hm=>by have:=(h.lV.lt q hm).1;omega
 have g2:ae H' w=some (.cells (AE v o V a)):=by rw[a4 w (bG h.g) (hnw w (Nat.le_refl _)),h.g]
 have st:=λb=>Ki (b:=b) (off:=3) a2 (by simp) g2 (by rw[ai];simp)
 rw[Yp] at st;refine ⟨V',H',am H' w (.cells (AE v o V' a)),a1,g2,λb hb=>by rw[st b,Nat.min_eq_left hb],?_⟩
 have hlen:aa Hc<=aa (am H' w (.cells (AE v o V' a))):=by rw[ay];exact a3
 have hfr:∀ q,q<aa Hc->q∉w::nmA V->ae (am H' w (.cells (AE v o V' a))) q=ae Hc q:=λq hq hn=>by
  simp only[List.mem_cons,not_or] at hn;rw[af hn.1,a4 q hq hn.2]
 have hN:∀ q∈w::nmA V,q∉uc.ns:=λq hq=>by
  rcases List.mem_cons.1 hq with rfl|hq
  ·exact h.wn
  ·exact h.nv q hq
 have nN:∀ q,q<aa H->q∉w::nmA V:=λq hq hm=>by
  rcases List.mem_cons.1 hm with rfl|hm
  ·omega
  ·exact hnw q (by omega) hm
 refine ⟨h.C.to hlen (w::nmA V) hfr hN (nN _ l0) (nN _ l1) (nN _ l2) (nN _ l3) (nN _ l4),⟨Nat.le_trans h.G.len hlen,λq hq hu hn=>by rw[hfr q (by have:=h.G.len;omega) (nN q hq),h.G.fr q hq hu hn],h.G.ns⟩,aF g2 _,a2.mono (by rw[ay];exact Nat.le_refl _) (λq hq _=>af (by have:=(a2.lt q hq).1;omega) _),λq hq hm=>?_,h.wn,h.wl,by rw[hfr _ (bG h.z) (λhm=>by
  rcases List.mem_cons.1 hm with h9|h9
  ·omega
  ·exact hnw _ (by omega) h9),h.z],h.lt⟩
 rcases a5 q hq with h1|h1
 ·exact h.nv q h1 hm
 ·have:=(h.C.U.lt q hm).2;omega
def Zj (uo bo so vo fo:Nat)(LV:AV)(d:NdR)(vm fm:FmS)(base:AV)(H:Heap)(u uc:UN)(w v:Nat)(o:Int×Int)(a:Nat)(xs:List Int)(b:Nat)(R:RG->Prop)(X:IRes):Prop :=
 ∃ r' Hc V,X=some (.exit 0,r',[],⟨Hc,b⟩)/\WtI uo bo so vo fo LV d vm fm base H u uc w v o a Hc V xs/\R r'
theorem A7 {e:Ex}(hk:e.kids.length<=90000){H:Heap}{u uc:UN}{w v:Nat}{o:Int×Int}{a b:Nat}(hb:b<=w) :
  ∀ (k i:Nat),k+i=e.kids.length->∀ (fu:Nat),k<fu->∀ (Hc:Heap) (V:AV) (xs:List Int),xs.length<=i->WtI uo bo so vo fo LV d vm fm base H u uc w v o a Hc V xs ->
  ∀ (r:RG),(r.a.a.a=.ptr bo 0/\r.a.a.b=.ptr so 0/\r.a.a.g=.ptr (aa H+1) 0/\r.a.a.h=.ptr w 0)->(r.a.e.b=e.kv/\r.a.e.c=.int .i64 (e.kids.length:Int)/\r.a.e.d=.int .i64 (i:Int)) ->
  Zj uo bo so vo fo LV d vm fm base H u uc w v o a (xs++(e.kids.drop i).map Ex.n) b (λr=>r.a.a.a=.ptr bo 0/\r.a.a.b=.ptr so 0/\r.a.a.g=.ptr (aa H+1) 0/\r.a.a.h=.ptr w 0) (ax (nc (orc CC M)) fu r [] ⟨Hc,b⟩):=by
 intro k
 induction k with
 | zero =>
   intro i hi fu hfu Hc V xs hx I r ⟨h0,h1,h6,h7⟩ ⟨h32,h33,h34⟩;obtain ⟨fu',rfl⟩ : ∃ f,fu=f+1:=⟨fu-1,by omega⟩
   have:i=e.kids.length:=by omega
   subst this;have hc:decide ((e.kids.length:Int)<(e.kids.length:Int))=false:=by simp
   rw[List.drop_length];simp only[ax,nc,uV,SIM,ST0,ST1,h33,h34,hc];exact ⟨_,Hc,V,rfl,by simpa using I,by first|exact h0,by first|exact h1,by first|exact h6,by first|exact h7⟩
 | succ k ih =>
   intro i hi fu hfu Hc V xs hx I r ⟨h0,h1,h6,h7⟩ ⟨h32,h33,h34⟩;obtain ⟨fu',rfl⟩ : ∃ f,fu=f+1:=⟨fu-1,by omega⟩
   have hlt:i<e.kids.length:=by omega
   have hc:decide ((i:Int)<(e.kids.length:Int))=true:=by simp;omega
   have hd:e.kids.drop i=e.kids[i]::e.kids.drop (i+1):=List.drop_eq_getElem_cons hlt;have hg:e.kids[i]?=some e.kids[i]:=by simp[hlt]
   generalize e.kids[i]=x at hd hg;have hias:=xA e i x hg;have ha:bR (i:Int) 1=((i+1:Nat):Int):=aZ i 1 (by unfold natMax;omega)
   rw[hd];have I1:=I.ap [dv x];obtain ⟨V',H',H'',hap,hgw,hst,I2⟩:=I1.add x.n (by omega)
   have key:=ih (i+1) (by omega) fu' (by omega) H'' V' (xs++[x.n]) (by simp;omega) I2
   rw[List.append_assoc] at key;have hg1:=I1.g;have hst':=hst b hb;have hst3:=hst';simp only[ar,hgw] at hst3;have h32':=Vw x.n;have hxo:ae (Hc++[dv x]) (aa Hc)=some (dv x):=by rw[an];rfl
   simp only[ax,nc,uV,DT,EX,HV,SIM,ST0,ST1,h0,h1,h6,h7,h32,h33,h34,hc,hias,ha,hg1,Yv,hxo,h32',hap,hgw,hst',hst3,orVal,EXS,Nat.reduceAdd,Nat.reduceLeDiff];exact key _ ⟨by first|rfl|exact h0,by first|rfl|exact h1,by first|rfl|exact h6,by first|rfl|exact h7⟩ ⟨by first|rfl|exact h32,by first|rfl|exact h33,rfl⟩
end
section
variable {M:Memo}{uo bo so vo fo:Nat}{LV:AV}{d:NdR}{vm fm:FmS}{base:AV}
theorem Jk (m:ga M)(hb:mo base){e:Ex}(hk:e.kids.length<=90000){H:Heap}{u:UN}{a:AtF}{p' : PS}(hp:pW fm e u.p=some (a,p'))(C:Cx uo bo so vo fo LV d vm fm base H u)(hw:p'.w+20<1000000) :
  ∃ H' u',orc CC M 181 [.ptr bo 0,.ptr so 0,e.v] H=some (.ret a.av H' uo)/\UI uo H' u'/\Gr uo H u.ns H' u'.ns/\u'.p=p'/\Same u u':=by
 unfold pW at hp
 split at hp
 ·cases hp
 rename_i o ho;simp only[SJ,PJ] at hp;obtain ⟨rfl,rfl⟩:=hp
 have hwv:u.vars+u.eqs.length+u.ms.length+u.ws.length+u.sp.length+u.size+20<1000000:=by
  simp only[PS.w,UN.p,List.length_append,List.length_map,List.length_cons,List.length_nil] at hw;omega
 have huo:=C.U.uo;have hbl:=bG C.b;have C0:=C.ap [dv e,zA,.gone];have hl0:aa (H++[dv e,zA,.gone])=aa H+3:=by rw[az];rfl
 obtain ⟨H1,hP,U1,G1,hl1⟩:=rY m C0.U C0.b (by omega)
 have C1:=C0.step (u':={ u with vars:=u.vars+1 }) U1 G1
 have hnn:∀ q,aa H<=q->q∉u.ns:=λq hq hm=>by have:=(C.U.lt q hm).2;omega
 have f1:∀ j,j<3->ae H1 (aa H+j)=ae [dv e,zA,AObj.gone] j:=λj hj=>by
  rw[G1.fr _ (by omega) (by omega) (hnn _ (by omega)),aW]
 have hge1:ae H1 (aa H)=some (dv e):=by have:=f1 0 (by omega);rw[Nat.add_zero] at this;rw[this];rfl
 have hz1:ae H1 (aa H+1)=some zA:=by rw[f1 1 (by omega)];rfl
 have hg1:ae H1 (aa H+2)=some .gone:=by rw[f1 2 (by omega)];rfl
 have I0:WtI uo bo so vo fo LV d vm fm base H u { u with vars:=u.vars+1 } (aa H+2) u.vars o e.p (am H1 (aa H+2) (.cells (AE u.vars o .nils e.p))) .nils []:=by
  refine ⟨C1.to (by rw[ay];exact Nat.le_refl _) [aa H+2] (λq hq hn=>af (by simpa using hn) _) (λq hq=>?_) ?_ ?_ ?_ ?_ ?_,⟨by rw[ay];omega,λq hq hu hn=>?_,λq hq=>.inl hq⟩,aF hg1 _,.inl ⟨rfl,rfl⟩,λ_ h=>(by cases h),hnn _ (by omega),by omega,by rw[af (by omega),hz1],huo,hbl,bG C.s,bG C.v,bG C.f⟩
  ·rw[List.mem_singleton.1 hq];exact hnn _ (by omega)
  ·simp;omega
  ·simp;omega
  ·simp;have:=bG C.s;omega
  ·simp;have:=bG C.v;omega
  ·simp;have:=bG C.f;omega
  ·rw[af (by omega),G1.fr q (by omega) hu hn,aU hq]
 have e0:(envOf [.ptr bo 0,.ptr so 0,e.v] 0 env0).a.a.a=.ptr bo 0:=rfl;have e1:(envOf [.ptr bo 0,.ptr so 0,e.v] 0 env0).a.a.b=.ptr so 0:=rfl;have e2:(envOf [.ptr bo 0,.ptr so 0,e.v] 0 env0).a.a.c=e.v:=rfl
 obtain ⟨r0,hr0,hr1,hpre⟩ : ∃ r,(r.a.a.a=.ptr bo 0/\r.a.a.b=.ptr so 0/\r.a.a.g=.ptr (aa H+1) 0/\r.a.a.h=.ptr (aa H+2) 0)/\(r.a.e.b=e.kv/\r.a.e.c=.int .i64 (e.kids.length:Int)/\r.a.e.d=.int .i64 ((0:Nat):Int)) /\
   z181.sh (orc CC M) (envOf [.ptr bo 0,.ptr so 0,e.v] 0 env0) [] ⟨H,aa H⟩=dI (ac (qw (orc CC M)) (ac (qM (orc CC M)) retZ)) (c9 0 (ax (nc (orc CC M)) 100000 r [] ⟨am H1 (aa H+2) (.cells (AE u.vars o .nils e.p)),aa H⟩)):=by
  generalize envOf [.ptr bo 0,.ptr so 0,e.v] 0 env0=R at e0 e1 e2;have hbx:=kB e;have hln:=ru hb;have hd0:decide ((0:Int)<0)=false:=rfl;have hs0:=au C.s [dv e,zA];have hs1:=C1.s;have hlk0:=mH (mE ho) C0.f;have hlk:=mH (mE ho) C1.f;have hs0':=C0.s;have hge0:ae (H++[dv e,zA,.gone]) (aa H)=some (dv e):=by rw[an];rfl
  have hm0:min (aa H) (aa H+3)=aa H:=Nat.min_eq_left (by omega)
  have hkl:=FK e;have h155:=Xm u.vars o e.p;have hsf:AV.same (.map fo) (.map fo)=true:=by simp[AV.same]
  have hsn:AV.same (.str e.s) (.str e.s)=true:=by simp[AV.same]
  have hso:AV.same (.agg [.int .i64 o.1,.int .i64 o.2]) (.agg [.int .i64 o.1,.int .i64 o.2])=true:=by simp[AV.same,sameL]
  have hsi:AV.same (.int .i64 (e.p:Int)) (.int .i64 (e.p:Int))=true:=by simp[AV.same]
  have hzg:=λc=>aF hg1 c
  have hss:∀ (h:Heap) (n:Nat) (x y:AObj),am (am h n x) n y=am h n y:=λh n x y=>fK h n x y
  have hzn:ae (am H1 (aa H+2) (.cells (AE u.vars o .nils e.p))) (aa H)=some (dv e):=by rw[af (by omega),hge1]
  simp only[z181,Da,DP,B8,Ew,SIM,ST0,ST1,e0,e1,e2,hbx,hd0,hln,hs0,hs1,hs0',hP,hl0,hm0,hlk,hlk0,hge0,hge1,h155,hsf,hsn,hso,hsi,hzg,hss,hzn,Rb,AY,hkl,orVal,ff,List.append_assoc,List.cons_append,List.nil_append,EXS,Nat.reduceAdd,Nat.reduceLeDiff];exact ⟨_,⟨by first|rfl|exact e0,by first|rfl|exact e1,rfl,rfl⟩,⟨rfl,rfl,rfl⟩,rfl⟩
 obtain ⟨r',Hc,V,hX,I,h0,h1,h6,h7⟩:=A7 (M:=M) hk (b:=aa H) (by omega) e.kids.length 0 rfl 100000 (by omega) _ .nils [] (by simp) I0 r0 hr0 hr1
 rw[List.drop_zero,List.nil_append] at I;have hgw:=I.g
 have hVs:V=.nils\/∃ l q,V=.sl 1 l q:=by
  rcases I.lV with ⟨_,h⟩|⟨_,id,g,h,_⟩
  ·exact .inl h
  ·exact .inr ⟨_,_,h⟩
 obtain ⟨lin,hlin,hVl⟩ : ∃ lin:Lin,lin.low (aa Hc)=true/\V=lV 1 lin ((e.kids.map Ex.n).map λn=>.int .i64 n):=by
  rcases I.lV with ⟨h0,h⟩|⟨h0,id,g,h,hg,_⟩
  ·refine ⟨.lit,rfl,?_⟩;rw[h,show ((e.kids.map Ex.n).map λn=>AV.int .i64 n)=[] from h0];rfl
  ·refine ⟨.live id g,by simp[Lin.low,bG hg],?_⟩
   rw[h];have h0' : ((e.kids.map Ex.n).map λn=>AV.int .i64 n)≠[]:=h0
   show AV.sl 1 ((e.kids.map Ex.n).map λn=>AV.int .i64 n) _=_
   cases hh:((e.kids.map Ex.n).map λn=>AV.int .i64 n) with
   | nil=>exact absurd hh h0'
   | cons x l=>rfl
 obtain ⟨W',H2,ha,hu2,hl2,hf2,hst,U3,G3⟩:=I.C.U.addW 181 ⟨u.vars,o.1,o.2,e.kids.map Ex.n,lin,e.p⟩ hlin (by show u.vars+1+u.eqs.length+u.ms.length+u.ws.length+u.sp.length+u.size+1<1000000;omega)
 have hwl:=I.C.U.w;have hqv:WtF.av ⟨u.vars,o.1,o.2,e.kids.map Ex.n,lin,e.p⟩=.agg (AE u.vars o V e.p):=by rw[hVl]
 rw[hqv] at ha
 have nW:∀ q,q<uo\/q∉({ u with vars:=u.vars+1 }:UN).ns->q∉nmA ({ u with vars:=u.vars+1 }:UN).W:=λq hq hm=>by
  have h9:q∈({ u with vars:=u.vars+1 }:UN).ns:=bT.2 (.inr (.inr (.inl hm)))
  rcases hq with hq|hq
  ·have:=(I.C.U.lt q h9).1;omega
  ·exact hq h9
 have hb2:ae H2 bo=some (.cells [.ptr uo 0,LV]):=by rw[hf2 bo (bG I.C.b) (nW bo (.inr I.C.nb)),I.C.b]
 have hst':=hst (aa H) (by omega)
 have hgl:=I.G.len;have hbu:=I.C.bu;generalize hH3:am H2 uo (.cells ({ ({ u with vars:=u.vars+1 }:UN) with ws:=({ u with vars:=u.vars+1 }:UN).ws++[⟨u.vars,o.1,o.2,e.kids.map Ex.n,lin,e.p⟩],W:=W' }:UN).c)=H3 at hst' U3 G3
 have hz3:ae H3 (aa H+1)=some zA:=by
  rw[<-hH3,af (by omega),hf2 (aa H+1) (bG I.z) (nW _ (.inr (hnn _ (by omega)))),I.z]
 have hw3:ae H3 (aa H+2)=some (.cells (AE u.vars o V e.p)):=by
  rw[<-hH3,af (by omega),hf2 (aa H+2) (bG I.g) (nW _ (.inr (hnn _ (by omega)))),hgw]
 have hz3n:aa H+1∉({ ({ u with vars:=u.vars+1 }:UN) with ws:=({ u with vars:=u.vars+1 }:UN).ws++[⟨u.vars,o.1,o.2,e.kids.map Ex.n,lin,e.p⟩],W:=W' }:UN).ns:=λhm=>by
  rcases G3.ns _ hm with h|h
  ·exact hnn _ (by omega) h
  ·have:=bG I.z;omega
 refine ⟨am H3 (aa H+1) (.cells [.bool false,.int .i64 0,.int .i64 (u.vars:Int)]),_,aJ (z:=z181) (m _ _ rfl) (by kernel_rfl) rfl ?_,U3.to (by rw[ay];exact Nat.le_refl _) (λq hq hn=>af (by rintro rfl;rcases hn with h|h;(omega);exact hz3n h) _),(I.G.trans G3).put2 (by omega),?_,⟨rfl,rfl,rfl,rfl⟩⟩
 ·rw[hpre,hX,ck,bk];have hb1:=I.C.b;have hE1:=I.C.U.ob;have hsW:=I.C.U.wsame;have hpv:u.p.vars=u.vars:=rfl;have h85:=U5 u.vars o e.p hVs;have hsu:AV.same (.ptr uo 0) (.ptr uo 0)=true:=by simp[AV.same]
  have hzs:=λc=>aF hz3 c
  have hgc:=λhp=>dL (keep:=CC.keep 181) (base:=aa H) (e:=uo) (v:=AtF.av ⟨false,0,u.vars⟩) (hp:=hp) (by omega)
  simp only[qw,qM,z181,SIM,ST0,ST1,h0,h1,h6,h7,hb1,hE1,MV,hgw,h85,ha,hb2,hsu,hsW,hst',hw3,Ym,Bd,hz3,hzs,hgc,hpv,orVal,ff,List.append_assoc,List.cons_append,List.nil_append,EXS,Nat.reduceAdd,Nat.reduceLeDiff]
 ·simp[UN.p,WtF.q]
end
def uj (q:EqR)(fm:FmS)(p:PS):Option (FmS×PS):=match q.l with
 | []=>none
 | (nm,_)::_=>match cr nm fm with
   | some _=>none
   | none=>cond (Nat.ble p.sp.length 100000) (some (fm++[(nm,eb ((p.sp.length:Int),0))],{ p with sp:=p.sp++[⟨q.e.s,[],[],(q.e.p:Int)⟩] })) none
theorem GY {q:EqR}{fm fm' : FmS}{p p' : PS}(h:uj q fm p=some (fm',p')):p.w<=p'.w/\p.nm<=p'.nm:=by
 unfold uj at h
 split at h
 ·cases h
 ·split at h
  ·cases h
  ·obtain ⟨_,h⟩:=aT h;simp only[SJ,PJ] at h;rw[<-h.2];exact ⟨by simp only[PS.w,List.length_append,List.length_cons,List.length_nil];omega,Nat.le_refl _⟩
theorem Wv {nm:List Nat}{a:Int}{fm:FmS}{fo:Nat}{H:Heap}{e:Nat}(h:cr nm fm=none)(hg:ae H fo=some (.map (kE fm))) :
  bf CC 233 (.map fo) (.str nm) (.agg [.int .i64 a,.int .i64 0]) ⟨H,e⟩=some ⟨am H fo (.map (kE (fm++[(nm,eb (a,0))]))),e⟩:=by
 obtain ⟨t,ht,_⟩:=EY nm;rw[aB] at hg;have hlow:∀ L,(AV.agg [.int .i64 a,.int .i64 0]).low L=true:=λL=>by simp[AV.low,aG]
 have hesc:dl (.agg [.int .i64 a,.int .i64 0]) fo ⟨H,e⟩=e:=by simp[dl,AV.low,aG]
 simp only[bf,ht,hg,mt,hlow,gX 0 h,hesc,if_true,and_self];simp[kE,aR]
theorem Vv (a:Nat):ao CC 152 [(0,.int .i64 (a:Int))]=some (.agg [.int .i64 (a:Int),.int .i64 0]):=by
 have:∀ x:Int,ao CC 152 [(0,.int .i64 x)]=some (.agg [.int .i64 x,.int .i64 0]):=λ_=>by kernel_rfl
 exact this _
theorem Vq (s:List Nat)(a:Nat):ao CC 150 [(0,.str s),(3,.int .i64 (a:Int))]=some (.agg [.str s,.nils,.nils,.int .i64 (a:Int)]):=by
 have:∀ x:Int,ao CC 150 [(0,.str s),(3,.int .i64 x)]=some (.agg [.str s,.nils,.nils,.int .i64 x]):=λ_=>by kernel_rfl
 exact this _
theorem YD (s:List Nat)(a:Nat)(L:Nat):iz CC 86 1 [(0,.agg [.str s,.nils,.nils,.int .i64 (a:Int)])] L=some (.cells [.str s,.nils,.nils,.int .i64 (a:Int)],λr=>.rsl r 0 1 1 4):=by
 have:∀ x:Int,iz CC 86 1 [(0,.agg [.str s,.nils,.nils,.int .i64 x])] L=some (.cells [.str s,.nils,.nils,.int .i64 x],λr=>.rsl r 0 1 1 4):=λ_=>by kernel_rfl
 exact this _
theorem cc86:∃ e,CC.P.underlying 86=some (.slice e)/\e=150:=⟨_,by kernel_rfl,rfl⟩
theorem nI (l:List SpF):(l.flatMap SpF.cs).length=4*l.length:=by
 induction l with
 | nil=>rfl
 | cons a l ih=>simp only[List.flatMap_cons,List.length_append,ih,List.length_cons];simp;omega
theorem UI.slen {uo:Nat}{H:Heap}{u:UN}(h:UI uo H u):aO CC 86 u.S=some (.int .i64 (u.sp.length:Int)):=by
 obtain ⟨e,hu,_⟩:=cc86
 rcases h.s with ⟨h0,h1⟩|⟨id,n,h1,h2,h3,h4,_⟩
 ·have h5:=nI u.sp;rw[h0] at h5;simp only[List.length_nil] at h5;rw[h1,cA];simp[dh,hu];omega
 ·rw[nI] at h4;have:n=u.sp.length:=by omega
  rw[h1,cA];simp[dh,hu,this]
section
variable {M:Memo}{uo bo:Nat}{LV:AV}{d:NdR}{vm:List (List Nat×Nat)}{base:AV}{H:Heap}{ns0:List Nat}
theorem tj (m:ga M)(hb:mo base)(q:EqR):E7 M uo bo LV d vm base H ns0 uj q:=by
 intro Hc uc fm fm' p' hp N hw;unfold uj at hp
 split at hp
 ·cases hp
 rename_i nm pos lr hql
 split at hp
 ·cases hp
 rename_i hlk;obtain ⟨hsp0,hp⟩:=aT hp;rw[dW,decide_eq_true_eq] at hsp0;simp only[SJ,PJ] at hp;obtain ⟨rfl,rfl⟩:=hp;have hsl:uc.p.sp.length=uc.sp.length:=by simp[UN.p]
 rw[hsl] at hsp0;rw[hsl]
 have hwv:uc.vars+uc.eqs.length+uc.ms.length+uc.ws.length+uc.sp.length+uc.size+20<1000000:=by
  simp only[PS.w,UN.p,List.length_append,List.length_map,List.length_cons,List.length_nil] at hw;omega
 have huo:=N.C.U.uo;have N1:=N.ap [qO q];have N2:=N1.fset (fm':=fm++[(nm,eb ((uc.sp.length:Int),0))]);have N3:=N2.ap [.cells [.str q.e.s,.nils,.nils,.int .i64 (q.e.p:Int)]];have hl1:aa (Hc++[qO q])=aa Hc+1:=by rw[az];rfl
 have hl2:aa (am (Hc++[qO q]) (aa H+3) (.map (kE (fm++[(nm,eb ((uc.sp.length:Int),0))]))))=aa Hc+1:=by rw[ay,hl1]
 generalize hH2:am (Hc++[qO q]) (aa H+3) (.map (kE (fm++[(nm,eb ((uc.sp.length:Int),0))])))=H2 at N2 N3 hl2;have hob:ae (H2++[.cells [.str q.e.s,.nils,.nils,.int .i64 (q.e.p:Int)]]) (aa Hc+1)=some (.cells (SpF.cs ⟨q.e.s,[],.lit,[],.lit,(q.e.p:Int)⟩)):=by rw[<-hl2,an];rfl
 obtain ⟨n,H3,ha,hu3,hl3,hf3,hst,U4,G4⟩:=N3.C.U.addS 116 ⟨q.e.s,[],.lit,[],.lit,(q.e.p:Int)⟩ hob rfl (by simp[aG,AV.low,lV]) (λhm=>by have:=(N2.C.U.lt _ (bT.2 (.inr (.inr (.inr hm))))).2;omega) hsp0 (by omega)
 have hlO:aa (H2++[AObj.cells [.str q.e.s,.nils,.nils,.int .i64 (q.e.p:Int)]])=aa Hc+2:=by rw[az,hl2];rfl
 rw[hlO] at ha hl3 hst U4 G4;have N4:=N3.step U4 G4;have hb3:ae H3 bo=some (.cells [.ptr uo 0,LV]):=by rw[hf3 bo (bG N3.C.b) (λhm=>N3.C.nb (bT.2 (.inr (.inr (.inr hm))))),N3.C.b]
 have hst':=hst (aa Hc) (by omega)
 have hst3:=hst';simp only[ar,hu3] at hst3;refine ⟨_,_,aJ (z:=z116) (m _ _ rfl) (by kernel_rfl) rfl ?_,N4,by simp[UN.p,SpF.q],⟨rfl,rfl,rfl,rfl⟩⟩
 have e0:(envOf [.ptr bo 0,.ptr (aa H+4) 0,q.v] 0 env0).a.a.a=.ptr bo 0:=rfl;have e1:(envOf [.ptr bo 0,.ptr (aa H+4) 0,q.v] 0 env0).a.a.b=.ptr (aa H+4) 0:=rfl;have e2:(envOf [.ptr bo 0,.ptr (aa H+4) 0,q.v] 0 env0).a.a.c=q.v:=rfl;generalize envOf [.ptr bo 0,.ptr (aa H+4) 0,q.v] 0 env0=R at e0 e1 e2;have hbx:=Iu q;have hln:=ru hb;have hd0:decide ((0:Int)<0)=false:=rfl;have hs1:=N1.C.s;have hb1:=N1.C.b;have hE1:=N1.C.U.ob;have hqo:ae (Hc++[qO q]) (aa Hc)=some (qO q):=by rw[an];rfl
 have hqo2:ae H2 (aa Hc)=some (qO q):=by rw[<-hH2,af (by have:=bG N.C.f;omega),hqo]
 have hqo3:=au hqo2 [.gone];have hb2:=au N2.C.b [.gone];have hE2:=au N2.C.U.ob [.gone];have hi0:aL 2 (.sl 2 (q.l.map BJ) .dead) (.int .i64 0)=some (.iptr [.str nm,.int .i64 (pos:Int)]):=by rw[hql];rfl
 have hld:∀ (a b:AV) (h:Heap),aw none (.iptr [a,b]) h=some a:=λ_ _ _=>rfl
 have hfa0:∀ a b:AV,aC 0 (.iptr [a,b])=some (.iptr [a,b]):=λ_ _=>rfl
 have hsl2:=N1.C.U.slen;have h152:=Vv uc.sp.length;have hmu:=λee=>Wv (e:=ee) (a:=(uc.sp.length:Int)) hlk N1.C.f
 rw[hH2] at hmu;have h150:=Vq q.e.s q.e.p;have h86:=λL=>YD q.e.s q.e.p L
 have hl4:aa (H2++[AObj.gone])=aa Hc+2:=by rw[az,hl2];rfl
 have hset:∀ c:AObj,am (H2++[AObj.gone]) (aa Hc+1) c=H2++[c]:=λc=>by rw[<-hl2,bJ];rfl
 have hsu:AV.same (.ptr uo 0) (.ptr uo 0)=true:=by simp[AV.same]
 have hgc:=λhp=>dL (keep:=CC.keep 116) (base:=aa Hc) (e:=uo) (v:=Abs.undef) (hp:=hp) (by omega)
 simp only[z116,GX,HG,Co,DX,SIM,ST0,ST1,e0,e1,e2,hbx,hd0,hln,hs1,hb1,hE1,hqo,hqo2,hqo3,hb2,hE2,hi0,hld,hfa0,hsl2,h152,hmu,h150,h86,hl2,hl4,hset,dA,ha,hb3,hu3,hsu,hst',hst3,hgc,Rb,AY,yq,orSt,sP,orVal,ff,List.append_assoc,List.cons_append,List.nil_append,EXS,Nat.reduceAdd,Nat.reduceLeDiff]
end
theorem sp_split:∀ {l:List SpF} {k:Nat} {s:SpF},l[k]?=some s->∃ P R,l.flatMap SpF.cs=P++s.cs++R/\P.length=k*4/\∀ s' : SpF,(l.set k s').flatMap SpF.cs=P++s'.cs++R
 | [],k,s,h=>by simp at h
 | a::l,0,s,h=>by
   simp only[List.getElem?_cons_zero,SJ] at h;subst h;exact ⟨[],l.flatMap SpF.cs,by simp,rfl,λs'=>by simp⟩
 | a::l,k+1,s,h=>by
   simp only[List.getElem?_cons_succ] at h;obtain ⟨P,R,h1,h2,h3⟩:=sp_split h;refine ⟨a.cs++P,R,by simp only[List.flatMap_cons,h1,List.append_assoc],by simp only[List.length_append,h2,List.length_cons,List.length_nil];omega,λs'=>by simp only[List.set_cons_succ,List.flatMap_cons,h3,List.append_assoc]⟩
theorem Q4 {P R:List AV}{k:Nat}(hP:P.length=k*4)(a b c d x:AV):db (P++[a,b,c,d]++R) (k*4+1) [x]=P++[a,x,c,d]++R:=by
 rw[qs (by simp;omega),a9]
 have e1:P++[a,b,c,d]++R=(P++[a])++(b::([c,d]++R)):=by simp
 have l1:(P++[a]).length=k*4+1:=by simp[hP]
 rw[e1,<-l1,List.take_left];have:(P++[a]).length+[x].length=(P++[a]).length+1:=rfl;rw[this,<-List.drop_drop,List.drop_left];simp
theorem Sl {P R:List AV}{k:Nat}(hP:P.length=k*4)(a b c d x:AV):db (P++[a,b,c,d]++R) (k*4+2) [x]=P++[a,b,x,d]++R:=by
 rw[qs (by simp;omega),a9]
 have e1:P++[a,b,c,d]++R=(P++[a,b])++(c::([d]++R)):=by simp
 have l1:(P++[a,b]).length=k*4+2:=by simp[hP]
 rw[e1,<-l1,List.take_left];have:(P++[a,b]).length+[x].length=(P++[a,b]).length+1:=rfl;rw[this,<-List.drop_drop,List.drop_left];simp
theorem lc {q k i:Nat}(h:i<k):aL 4 (.rsl q 0 k k 4) (.int .i64 (i:Int))=some (.ptr q (i*4)):=by
 simp[aL,cC,h]
theorem zI {r off b:Nat}{H:Heap}{V:AV}{cs:List AV}(hV:V=.nils\/∃ k l q,V=.sl k l q)(hlow:V.low (aa H)=true)(hcs:ae H r=some (.cells cs))(ho:off+1<=aa cs) :
  ar 1 (.ptr r off) V ⟨H,b⟩=some ⟨am H r (.cells (db cs off [V])),cond (V.low (r+1)) b (min b r)⟩:=by
 have e1:eK (aa H) V=true:=by rw[bY];exact hlow
 have e3:Nat.ble (Nat.add off 1) (aa cs)=true:=by rw[dW];simpa using ho
 have e5:Nat.beq (aa [V]) 1=true:=rfl;have e6:List.all [V] AV.one=true:=by rcases hV with rfl|⟨k,l,q,rfl⟩<;>rfl
 have e7:AV.cells V=[V]:=by rcases hV with rfl|⟨k,l,q,rfl⟩<;>rfl
 have e8:eK (r+1) V=V.low (r+1):=bY _ _;have e9:∀ s:St,ar 1 (.ptr r off) V s=ar 1 (.ptr r off) V s:=λ_=>rfl
 rcases hV with rfl|⟨k,l,q,rfl⟩
 ·simp only[ar,hcs,eM,e1,e3,e5,e6,e7,Bool.and_self,cond_true,gV,e8]
 ·simp only[ar,hcs,eM,e1,e3,e5,e6,e7,Bool.and_self,cond_true,gV,e8]
theorem UI.setS {uo id n k:Nat}{H:Heap}{u:UN}{s s' : SpF}(h:UI uo H u)(hS:u.S=.rsl id 0 n n 4)(hk:u.sp[k]?=some s)(h1:s'.cs.all AV.one=true)(h2:aG (aa H) s'.cs=true) :
  UI uo (am H id (.cells ((u.sp.set k s').flatMap SpF.cs))) { u with sp:=u.sp.set k s' }/\Gr uo H u.ns (am H id (.cells ((u.sp.set k s').flatMap SpF.cs))) u.ns:=by
 have hidn:id∈nmA u.S:=by rw[hS];simp[nmA]
 have hm:=h.s;rw[hS] at hm;obtain ⟨_,hn⟩|⟨id',n',he,hn0,hg,hln,hone,hlow,hui⟩:=hm
 ·cases hn
 ·simp only[AV.rsl.injEq] at he;obtain ⟨rfl,_,rfl,_,_⟩:=he;obtain ⟨P,R,e1,e2,e3⟩:=sp_split hk;have hl:aa H<=aa (am H id (.cells ((u.sp.set k s').flatMap SpF.cs))):=by rw[ay];exact Nat.le_refl _
  rw[e1] at hone hlow hln;rw[List.all_append,List.all_append,Bool.and_eq_true,Bool.and_eq_true] at hone;rw[dE,dE,Bool.and_eq_true,Bool.and_eq_true] at hlow;have nE:∀ r∈nmA u.E,r≠id:=λr hr he=>(h.dj.1 r hr).2.2 (he ▸ hidn)
  have nM:∀ r∈nmA u.Ms,r≠id:=λr hr he=>(h.dj.2.1 r hr).2 (he ▸ hidn)
  have nW:∀ r∈nmA u.W,r≠id:=λr hr he=>h.dj.2.2 r hr (he ▸ hidn)
  refine ⟨⟨by rw[af (by omega)];exact h.ob,h.e.mono hl (λq hq _=>af (nE q hq) _),h.el,h.m.mono hl (λq hq _=>af (nM q hq) _),h.w.mono hl (λq hq _=>af (nW q hq) _),?_,h.dj,?_⟩,⟨hl,λq hq hu hn=>af (λhe=>hn (bT.2 (.inr (.inr (.inr (by rw[he];exact hidn)))))) _,λq hq=>.inl hq⟩⟩
  ·refine .inr ⟨id,n,hS,hn0,aF hg _,?_,?_,?_,hui⟩
   ·rw[e3];simp only[List.length_append,List.length_cons,List.length_nil] at hln ⊢;exact hln
   ·rw[e3,List.all_append,List.all_append,hone.1.1,h1,hone.2];rfl
   ·rw[ay,e3,dE,dE,hlow.1.1,h2,hlow.2];rfl
  ·have:=h.vl;simp only[List.length_set];exact this
def oS (f:Ex->PS->Option (AtF×PS))(fm:FmS)(L:List NdR)(q:EqR)(p:PS):Option PS:=match q.l with
 | []=>none
 | (nm,_)::_=>match jv nm fm with
   | none=>none
   | some o=>match dt q.e.s L with
     | none=>none
     | some d'=>match dc f fm d'.ins q.e.kids p with
       | none=>none
       | some (xs,fs,p1)=>match p1.sp[o.1.toNat]? with
         | none=>none
         | some s=>cond (decide (0<=o.1)) (some { p1 with sp:=p1.sp.set o.1.toNat ⟨s.nd,xs,fs,s.at_⟩ }) none
theorem Q7 {xs:List AtF}{A:AV}{L:Nat}(h:TP xs A L):∃ lin:Lin,A=lV 3 lin (xs.map AtF.av)/\lin.low L=true:=by
 rcases h with ⟨rfl,rfl⟩|⟨h0,lin,rfl,h1⟩
 ·exact ⟨.lit,rfl,rfl⟩
 ·cases xs with
  | nil=>exact absurd rfl h0
  | cons a l=>exact ⟨lin,rfl,h1⟩
theorem Qa {fs:List (Int×Int)}{F:AV}{L:Nat}(h:FLw fs F L):∃ lin:Lin,F=lV 2 lin (fs.map eb)/\lin.low L=true:=by
 rcases h with ⟨rfl,rfl⟩|⟨h0,lin,rfl,h1⟩
 ·exact ⟨.lit,rfl,rfl⟩
 ·cases fs with
  | nil=>exact absurd rfl h0
  | cons a l=>exact ⟨lin,rfl,h1⟩
theorem jQ {k:Nat}{lin:Lin}{l:List AV}:lV k lin l=.nils\/∃ k' l' q,lV k lin l=.sl k' l' q:=by
 cases l with
 | nil=>exact .inl rfl
 | cons a l=>exact .inr ⟨_,_,_,rfl⟩
theorem jC {k:Nat}{lin:Lin}{l:List AV}{L:Nat}(h:lin.low L=true)(hl:dp l=true):AV.low L (lV k lin l)=true:=by
 cases l with
 | nil=>simp[lV,AV.low]
 | cons a l =>
   have:=de hl L;simp only[lV,AV.low,this,h,Bool.and_self]
theorem fQ {k:Nat}{lin:Lin}{l:List AV}:AV.one (lV k lin l)=true:=by cases l<;>rfl
theorem B0 {H K:Heap}{n:Nat}{c:AObj}(h:n<aa H):am (H++K) n c=am H n c++K:=by
 rw[ai] at h;rw[aR,aR,List.set_append_left _ _ h]
section
variable {M:Memo}{uo bo:Nat}{LV:AV}{d:NdR}{vm:List (List Nat×Nat)}{fm:FmS}{base:AV}{H:Heap}{ns0:List Nat}
theorem Ct (m:ga M){f:Ex->PS->Option (AtF×PS)}(hf:∀ e p a p',f e p=some (a,p')->p.w<=p'.w){L:List NdR}(hL:L.length<=90000)(hLV:LV=.sl 6 (L.map NdR.v) .dead)(hLi:∀ d'∈L,d'.ins.length<=90000){q:EqR}(hqa:q.a=true)(ihk:∀ a∈q.e.kids,jq M uo bo (aa H+4) (aa H+2) (aa H+3) LV d (nB vm) fm base f a) :
  Br M uo bo LV d vm base H ns0 fm (oS f fm L) q:=by
 intro Hc uc p' hp N hw;unfold oS at hp
 split at hp
 ·cases hp
 rename_i nm pos lr hql
 split at hp
 ·cases hp
 rename_i o ho
 split at hp
 ·cases hp
 rename_i d' hfd
 split at hp
 ·cases hp
 rename_i xs fs p1 hp1
 split at hp
 ·cases hp
 rename_i s hs;obtain ⟨ho0,hp⟩:=aT hp;simp only[SJ] at hp;subst hp;obtain ⟨k,hk⟩ : ∃ k:Nat,o.1=(k:Int):=⟨o.1.toNat,by simp at ho0;omega⟩
 have hkn:o.1.toNat=k:=by omega
 rw[hkn] at hs hw ⊢
 have hwp:p1.w+20<1000000:=by
  simp only[PS.w,List.length_set] at hw ⊢;exact hw
 have hdL:d'∈L:=by
  clear hs hp1 hL hLV hLi ihk
  induction L with
  | nil=>cases hfd
  | cons x l ih =>
    simp only[dt] at hfd;cases hx:strEq x.s q.e.s with
    | true=>rw[hx] at hfd;simp only[cond_true,SJ] at hfd;rw[hfd];exact List.mem_cons_self ..
    | false=>rw[hx] at hfd;exact List.mem_cons_of_mem _ (ih hfd)
 have huo:=N.C.U.uo;have N1:=N.ap [qO q];have hl1:aa (Hc++[qO q])=aa Hc+1:=by rw[az];rfl
 obtain ⟨H1,u1,e1,A,F,hA,hAt,hFl,U1,G1,hpu,S1,hD,hLow⟩:=pR m hf hL hLV hfd (hLi _ hdL) ihk hp1 N1.C hwp;have C1:=N1.C.step U1 G1;obtain ⟨al,hAe,hAl⟩:=Q7 hAt;obtain ⟨fl,hFe,hFw⟩:=Qa hFl;have hsp:u1.sp.map SpF.q=p1.sp:=by rw[<-hpu];rfl
 obtain ⟨s1,hs1,hs1q⟩ : ∃ s1,u1.sp[k]?=some s1/\s1.q=s:=by
  rw[<-hsp,List.getElem?_map] at hs;cases hh:u1.sp[k]? with
  | none=>rw[hh] at hs;cases hs
  | some x=>rw[hh] at hs;exact ⟨x,rfl,by simpa using hs⟩
 have hklt:k<u1.sp.length:=by
  rcases Nat.lt_or_ge k u1.sp.length with h|h
  ·exact h
  ·rw[List.getElem?_eq_none h] at hs1;cases hs1
 obtain ⟨id,n,hS,hn⟩ : ∃ id n,u1.S=.rsl id 0 n n 4/\k<n:=by
  have hsl:=nI u1.sp
  rcases U1.s with ⟨h0,_⟩|⟨id,n,h0,_,_,hln,_⟩
  ·rw[h0] at hsl;simp only[List.length_nil] at hsl;omega
  ·rw[hsl] at hln;exact ⟨id,n,h0,by omega⟩
 let s2:SpF:=⟨s1.nd,xs,al,fs,fl,s1.at_⟩
 have hone2:s2.cs.all AV.one=true:=by
  simp only[s2,SpF.cs,List.all_cons,List.all_nil,fQ,Bool.and_true,Bool.true_and];rfl
 have hlow2:aG (aa H1) s2.cs=true:=by
  have h1:=jC (k:=3) hAl (lB xs);have h2:=jC (k:=2) hFw (uq fs);simp only[s2,SpF.cs,aG,h1,h2,AV.low,Bool.and_true,Bool.true_and]
 obtain ⟨U2,G2⟩:=U1.setS hS hs1 hone2 hlow2
 have hg1:ae H1 id=some (.cells (u1.sp.flatMap SpF.cs)):=by
  rcases U1.s with ⟨_,h1⟩|⟨id',n',h1,_,h2,_⟩
  ·rw[hS] at h1;cases h1
  ·rw[hS] at h1;simp only[AV.rsl.injEq] at h1;rw[h1.1];exact h2
 obtain ⟨P,R,e1',e2',e3'⟩:=sp_split hs1;have hcl:=nI u1.sp;have c1:db (u1.sp.flatMap SpF.cs) (k*4+1) [A]=P++[.str s1.nd,A,lV 2 s1.fl (s1.futs.map eb),.int .i64 s1.at_]++R:=by rw[e1'];exact Q4 e2' _ _ _ _ _
 have c2:db (P++[.str s1.nd,A,lV 2 s1.fl (s1.futs.map eb),.int .i64 s1.at_]++R) (k*4+2) [F]=(u1.sp.set k s2).flatMap SpF.cs:=by
  rw[Sl e2',e3',hAe,hFe]
 have hidu:uo<id:=by have:=(U1.lt id (bT.2 (.inr (.inr (.inr (by rw[hS];simp[nmA])))))).1;exact this
 have hidl:=bG hg1;have st1:=λb=>zI (r:=id) (off:=k*4+1) (b:=b) (V:=A) (by rw[hAe];exact jQ) (by rw[hAe];exact jC hAl (lB xs)) hg1 (by rw[ai];omega)
 have st2:=λb=>zI (r:=id) (off:=k*4+2) (b:=b) (H:=am H1 id (.cells (db (u1.sp.flatMap SpF.cs) (k*4+1) [A]))) (V:=F) (by rw[hFe];exact jQ) (by rw[ay,hFe];exact jC hFw (uq fs)) (aF hg1 _) (by
  rw[c1,ai];have:(P++s1.cs++R).length=4*u1.sp.length:=by rw[<-e1',hcl]
  simp only[List.length_append,List.length_cons,List.length_nil] at this ⊢;omega)
 rw[c1,fK,c2] at st2;rw[c1] at st1
 have key:∀ b2,(∀ b,b=min (aa Hc) e1->cond (AV.low (id+1) F) (cond (AV.low (id+1) A) b (min b id)) (min (cond (AV.low (id+1) A) b (min b id)) id)=b2) ->
   orc CC M 117 [.ptr bo 0,.ptr (aa H+4) 0,q.v] Hc=some (lH (CC.keep 117) (aa Hc) Abs.undef ⟨am H1 id (.cells ((u1.sp.set k s2).flatMap SpF.cs)),b2⟩):=by
  intro b2 hb2;have hb2':=hb2 _ rfl;refine aJ (z:=z117) (m _ _ rfl) (by kernel_rfl) rfl ?_
  have e0:(envOf [.ptr bo 0,.ptr (aa H+4) 0,q.v] 0 env0).a.a.a=.ptr bo 0:=rfl;have e1'' : (envOf [.ptr bo 0,.ptr (aa H+4) 0,q.v] 0 env0).a.a.b=.ptr (aa H+4) 0:=rfl;have e2'' : (envOf [.ptr bo 0,.ptr (aa H+4) 0,q.v] 0 env0).a.a.c=q.v:=rfl;generalize envOf [.ptr bo 0,.ptr (aa H+4) 0,q.v] 0 env0=R at e0 e1'' e2'';have hbx:=Iu q;have hqo:ae (Hc++[qO q]) (aa Hc)=some (qO q):=by rw[an];rfl
  have hcn:∀ x y:IRes,eW (.bool q.a) x y=x:=λx y=>by rw[hqa];rfl
  have hs0:=N1.C.s;have hi0:aL 2 (.sl 2 (q.l.map BJ) .dead) (.int .i64 0)=some (.iptr [.str nm,.int .i64 (pos:Int)]):=by rw[hql];rfl
  have hld:∀ (a b:AV) (h:Heap),aw none (.iptr [a,b]) h=some a:=λ_ _ _=>rfl
  have hfa0:∀ a b:AV,aC 0 (.iptr [a,b])=some (.iptr [a,b]):=λ_ _=>rfl
  have hlk:=mH (mE ho) N1.C.f
  have hfd0:mr none 0 (eb o)=some (.int .i64 (k:Int)):=by
   have:mr none 0 (eb o)=some (.int .i64 o.1):=rfl;rw[this,hk]
  have hb1:=C1.b;have hE1:=C1.U.ob;have hias:=lc (q:=id) hn;have st1':=st1 (min (aa Hc) e1);have st2':=st2 (cond (AV.low (id+1) A) (min (aa Hc) e1) (min (min (aa Hc) e1) id));rw[hb2'] at st2';generalize cond (AV.low (id+1) A) (min (aa Hc) e1) (min (min (aa Hc) e1) id)=bb at st1' st2';have st1'' : ar 1 (.ptr id ((k*4).add 1)) A ⟨H1,min (aa Hc) e1⟩=_:=st1';have st2'' : ar 1 (.ptr id ((k*4).add 2)) F ⟨_,bb⟩=_:=st2';have hgx:=λc=>aF hg1 c
  have st2c:=st2';simp only[ar,hgx] at st2c;simp only[z117,rA,qC,Gz,Ek,ED,SIM,ST0,ST1,ST2,e0,e1'',e2'',hbx,hqo,Qs,hcn,hs0,AY,hi0,hld,hfa0,hlk,hfd0,Jh,hA,hb1,hE1,hS,yq,hias,st1'',hgx,st2'',st2',st2c,orVal,EXS,Nat.reduceAdd,Nat.reduceLeDiff]
 rcases hD with ⟨h1,h2,h3⟩|h1
 ·
  subst h2
  have hlw:∀ L,AV.low L A=true/\AV.low L F=true:=by
   rcases hLow with h|h
   ·omega
   ·exact h
  have hS' : uc.S=.rsl id 0 n n 4:=by rw[<-h3];exact hS
  have hidc:id<aa Hc:=(N.C.U.lt id (bT.2 (.inr (.inr (.inr (by rw[hS'];simp[nmA])))))).2
  have hlow3:aG (aa Hc) s2.cs=true:=by
   have g1:=(hlw (aa Hc)).1;have g2:=(hlw (aa Hc)).2;rw[hAe] at g1;rw[hFe] at g2;simp only[s2,SpF.cs,aG,g1,g2,AV.low,Bool.and_true,Bool.true_and]
  obtain ⟨U3,G3⟩:=N.C.U.setS (s':=s2) hS' (by rw[<-h3];exact hs1) hone2 hlow3
  rw[h3] at key;have kk:=key (aa Hc) (λb hb=>by rw[(hlw (id+1)).1,(hlw (id+1)).2,cond_true,cond_true];omega)
  rw[dC rfl,B0 hidc] at kk;have ht:∀ K:Heap,aa K=aa Hc->bg (aa Hc) (K++[qO q])=K:=λK hK=>by rw[<-hK];exact bP _ _
  rw[ht _ (ay _ _ _)] at kk;refine ⟨_,{ uc with sp:=uc.sp.set k s2 },aa Hc,kk,U3,G3,?_,⟨rfl,rfl,rfl,rfl⟩,by omega,λh=>absurd (hqa.symm.trans h) (by decide)⟩
  rw[<-hpu,h3];simp only[UN.p,List.map_set];rw[<-hs1q];rfl
 ·have kk:=key uo (λb hb=>by
   have:b=uo:=by omega
   rw[this];have hm:min uo id=uo:=Nat.min_eq_left (by omega)
   rw[hm];cases AV.low (id+1) A<;>cases AV.low (id+1) F<;>simp[hm])
  rw[dL (by omega)] at kk
  refine ⟨_,{ u1 with sp:=u1.sp.set k s2 },uo,kk,U2,(Gr.ap.trans G1).trans G2,?_,⟨S1.nd,S1.at_,S1.I,S1.O⟩,Nat.le_refl _,λh=>absurd (hqa.symm.trans h) (by decide)⟩
  rw[<-hpu];simp only[UN.p,List.map_set];rw[<-hs1q];rfl
end
section
variable {M:Memo}{uo bo so vo fo:Nat}{LV:AV}{d:NdR}{vm:List (List Nat×Nat)}{fm:FmS}{base:AV}
theorem Fw (m:ga M)(hb:mo base)(hl:(cS d).length<=90000)(hcl:∀ x∈cS d,x.c=[]){e:Ex}{nm:List Nat}{pos:Nat}(hk:Nat.beq e.k 13=true)
  {H H1:Heap} {u u1:UN} {V:AV} {w v:Nat} (hv:eY nm vm=some v) (C:Cx uo bo so vo fo LV d (nB vm) fm base H u)
  (hA:orc CC M 150 [.ptr bo 0,.ptr so 0,e.v,.nils] (H++[qO ⟨[(nm,pos)],false,e⟩])=some (.ret V H1 uo)) (hO:wm (aa H+1) u1.ns H1 V [w]) (U1:UI uo H1 u1) (G1:Gr uo (H++[qO ⟨[(nm,pos)],false,e⟩]) u.ns H1 u1.ns) (S1:Same u u1) (hw1:u1.p.w+21<1000000) :
  ∃ H' u',orc CC M 117 [.ptr bo 0,.ptr so 0,EqR.v ⟨[(nm,pos)],false,e⟩] H=some (.ret Abs.undef H' uo)/\UI uo H' u'/\Gr uo H u.ns H' u'.ns/\u'.p={ u1.p with eqs:=u1.p.eqs++[⟨[99,111,112,121],v,[⟨false,0,w⟩]⟩] }/\Same u u':=by
 obtain ⟨h0,_⟩|⟨_,id,g,rfl,hg,hid,hidn⟩:=hO
 ·cases h0
 let a:AtF:=⟨false,0,w⟩
 have C0:=C.ap [qO ⟨[(nm,pos)],false,e⟩];have C1:=(C0.step U1 G1).ap [.lin 0];have C2:=C1.ap [.cells [.str nm,.int .i64 (pos:Int)]];have hl1a:aa (H1++[AObj.lin 0])=aa H1+1:=by rw[az];rfl
 obtain ⟨V',H3,ha,hu3,hl3,hf3,hst,U4,G4⟩:=C2.U.addE 117 ⟨[99,111,112,121],v,[a],.live (aa H1) 0,gv0⟩ ⟨.inr rfl,by rw[az,hl1a];simp[Lin.low,bq];omega⟩ (by rw[UN.pw] at hw1;omega)
 have huo:=C.U.uo;have K1:=(G1.trans (Gr.ap (K:=[.lin 0]))).trans (Gr.ap (K:=[.cells [.str nm,.int .i64 (pos:Int)]]));have l0:=K1.loc C.U (j:=0) (by rw[bq,cd];omega)
 have l0' : ae (H1++[AObj.lin 0]++[.cells [.str nm,.int .i64 (pos:Int)]]) (aa H)=some (qO ⟨[(nm,pos)],false,e⟩):=by have:=l0.1;rw[Nat.add_zero] at this;rw[this];rfl
 have l01:ae H1 (aa H)=some (qO ⟨[(nm,pos)],false,e⟩):=by
  have:=(G1.loc C.U (j:=0) (by rw[bq,cd];omega)).1
  rw[Nat.add_zero] at this;rw[this];rfl
 have l02:=au l01 [AObj.lin 0];have m0:ae (H++[qO ⟨[(nm,pos)],false,e⟩]) (aa H)=some (qO ⟨[(nm,pos)],false,e⟩):=by rw[an];rfl
 have hb3:ae H3 bo=some (.cells [.ptr uo 0,LV]):=by rw[hf3 bo (bG C2.b) (λhm=>C2.nb (bT.2 (.inl hm))),C2.b]
 refine ⟨_,_,?_,U4,(Gr.ap.trans K1).trans G4,by simp[UN.p,EqF.q,a],⟨S1.nd,S1.at_,S1.I,S1.O⟩⟩
 refine aJ (z:=z117) (m _ _ rfl) (by kernel_rfl) rfl ?_
 have e0:(envOf [.ptr bo 0,.ptr so 0,EqR.v ⟨[(nm,pos)],false,e⟩] 0 env0).a.a.a=.ptr bo 0:=rfl;have e1' : (envOf [.ptr bo 0,.ptr so 0,EqR.v ⟨[(nm,pos)],false,e⟩] 0 env0).a.a.b=.ptr so 0:=rfl;have e2:(envOf [.ptr bo 0,.ptr so 0,EqR.v ⟨[(nm,pos)],false,e⟩] 0 env0).a.a.c=EqR.v ⟨[(nm,pos)],false,e⟩:=rfl;generalize envOf [.ptr bo 0,.ptr so 0,EqR.v ⟨[(nm,pos)],false,e⟩] 0 env0=R at e0 e1' e2;have hbx:=Iu ⟨[(nm,pos)],false,e⟩;have hof:=C8 m hl hcl nm C0.s;have hlH:aa (H++[qO ⟨[(nm,pos)],false,e⟩])=aa H+1:=by rw[az];rfl
 rw[hlH] at hof;have hgd:=jo m hb C2.s;have hl1:aa (H1++[AObj.lin 0]++[AObj.cells [.str nm,.int .i64 (pos:Int)]])=aa (H1++[AObj.lin 0])+1:=by rw[az];rfl
 rw[hl1] at hgd;have hm1:min (aa H) (aa H+1)=aa H:=Nat.min_eq_left (by omega)
 have hlu:uo<aa H1:=U1.uo;have c13:decide ((e.k:Int)=13)=true:=by rw[show decide ((e.k:Int)=13)=Nat.beq e.k 13 from xX e.k 13];exact hk
 have hi0:aL 2 (.sl 2 ([(nm,pos)].map BJ) .dead) (.int .i64 0)=some (.iptr [.str nm,.int .i64 (pos:Int)]):=rfl;have hfa0:∀ a b:AV,aC 0 (.iptr [a,b])=some (.iptr [a,b]):=λ_ _=>rfl
 have hld:∀ (a b:AV) (h:Heap),aw none (.iptr [a,b]) h=some a:=λ_ _ _=>rfl
 have hld1:∀ (a:AV) (h:Heap),aw none (.iptr [a]) h=some a:=λ_ _=>rfl
 have hln:=EM (BJ (nm,pos)) .dead;have hln' : aO CC 120 (.sl 2 ([(nm,pos)].map BJ) .dead)=some (.int .i64 1):=hln;have hc1:decide ((0:Int)<1)=true:=by decide
 have hc2:decide ((1:Int)<1)=false:=by decide
 have hlk:=kG (i6 hv) C2.v;have ha01:bR 0 1=1:=by decide
 have hsl:=th a.av (.live (aa H1) 0);have h142:=zg [99,111,112,121] (v:Int) [a.av] (.live (aa H1) 0) (on:=gv0) (.inr rfl);have h83:=yZ [99,111,112,121] (v:Int) [a.av] (.live (aa H1) 0) (on:=gv0) (.inr rfl);have hsE:=C2.U.esame;have hE2:=C2.U.ob;have hb2:=C2.b;have hs2:=C2.s;have hsu:AV.same (.ptr uo 0) (.ptr uo 0)=true:=by simp[AV.same]
 have hsv:AV.same (.map vo) (.map vo)=true:=by simp[AV.same]
 have hub:uo<=min (min (aa H) uo) (aa (H1++[AObj.lin 0])+1):=by omega
 have hst':=hst _ hub;have hgc:=λhp=>dL (keep:=CC.keep 117) (base:=aa H) (e:=uo) (v:=Abs.undef) (hp:=hp) (by omega)
 have hlV:aO CC 22 (.sl 1 ([w].map inV) (.live id g))=some (.int .i64 1):=by
  have:CC.P.underlying 22=some (.slice 3):=by kernel_rfl
  rw[cO this];rfl
 have hiV:aL 1 (.sl 1 ([w].map inV) (.live id g)) (.int .i64 0)=some (.iptr [.int .i64 (w:Int)]):=bN (i:=0) (v:=inV w) rfl;have h93:=Bd (w:Int);have h139:aM CC 139 1 [(0,.agg [.bool false,.int .i64 0,.int .i64 (w:Int)])]=some (.sl 3 [.agg [.bool false,.int .i64 0,.int .i64 (w:Int)]] .lit):=nu a;have hap:∀ e,aq CC 117 139 .nils (.sl 3 [.agg [.bool false,.int .i64 0,.int .i64 (w:Int)]] .lit) ⟨H1,e⟩=some (.sl 3 [.agg [.bool false,.int .i64 0,.int .i64 (w:Int)]] (.live (aa H1) 0),⟨H1++[.lin 0],e⟩):=λe=>oK sl139 117 .lit (by simp) rfl (by simp)
 have ha' : ∀ e l,aq CC 117 83 u1.E (.sl 4 [.agg [.str [99,111,112,121],.int .i64 (v:Int),.sl 3 [.agg [.bool false,.int .i64 0,.int .i64 (w:Int)]] (.live (aa H1) 0),gv0]] l) ⟨H1++[.lin 0]++[.cells [.str nm,.int .i64 (pos:Int)]],e⟩=some (V',⟨H3,e⟩):=ha;have hname:ae (H1++[AObj.lin 0]++[AObj.cells [.str nm,.int .i64 (pos:Int)]]) (aa (H1++[AObj.lin 0]))=some (.cells [.str nm,.int .i64 (pos:Int)]):=by rw[an];rfl
 have hsl' : bt CC 139 (.sl 3 [.agg [.bool false,.int .i64 0,.int .i64 (w:Int)]] (.live (aa H1) 0)) (some (.int .i64 0)) (some (.int .i64 1)) none=some (.sl 3 [.agg [.bool false,.int .i64 0,.int .i64 (w:Int)]] (.live (aa H1) 0)):=hsl;have h142' : ao CC 142 [(0,.str [99,111,112,121]),(1,.int .i64 (v:Int)),(2,.sl 3 [.agg [.bool false,.int .i64 0,.int .i64 (w:Int)]] (.live (aa H1) 0)),(3,gv0)]=some (.agg [.str [99,111,112,121],.int .i64 (v:Int),.sl 3 [.agg [.bool false,.int .i64 0,.int .i64 (w:Int)]] (.live (aa H1) 0),gv0]):=h142;have h83' : aM CC 83 1 [(0,.agg [.str [99,111,112,121],.int .i64 (v:Int),.sl 3 [.agg [.bool false,.int .i64 0,.int .i64 (w:Int)]] (.live (aa H1) 0),gv0])]=some (.sl 4 [.agg [.str [99,111,112,121],.int .i64 (v:Int),.sl 3 [.agg [.bool false,.int .i64 0,.int .i64 (w:Int)]] (.live (aa H1) 0),gv0]] .lit):=h83;generalize H1++[AObj.lin 0]=H2 at *;simp only[z117,rA,qC,vQ,wH,uA,F5,Cr,yB,At,xN,yU,rJ,q5,rk,rS,qt,q8,LW,X5,SIM,ST0,ST1,ST2,ST3,e0,e1',e2,hbx,m0,Qs,hi0,hfa0,hld,hld1,hof,hm1,c13,Jh,EXS,hA,hlV,hiV,h93,h139,hap,orVal,l01,l02,l0',hln',hc1,hc2,hname,hb2,hE2,kK,hs2,vL,hlk,ha01,hsl',hgd,hsE,hsu,hsv,h142',h83',ha',hb3,hst',hgc,Nat.reduceAdd,Nat.reduceLeDiff]
end
abbrev NdF:Type:=NdR->List AtF->List (Int×Int)->PS->Option (List Nat×PS)
def my (fm:FmS)(e:Ex)(p:PS):Option (AtF×PS):=cond (Nat.beq e.k 14) (pW fm e p) none
def pk (nd:NdF)(L:List NdR)(vm:List (List Nat×Nat))(fm:FmS)(nm:List Nat)(e:Ex)(p:PS):Option PS:=match eY nm vm with
 | none=>none
 | some v=>match dt e.s L with
   | none=>none
   | some d'=>match dc (dn vm (my fm) 60) fm d'.ins e.kids p with
     | none=>none
     | some (xs,fs,p1)=>match nd d' xs fs p1 with
       | some ([w],p2)=>some { p2 with eqs:=p2.eqs++[⟨[99,111,112,121],v,[⟨false,0,w⟩]⟩] }
       | _=>none
def pd (nd:NdF)(L:List NdR)(vm:List (List Nat×Nat))(fm:FmS)(q:EqR)(p:PS):Option PS :=
 cond q.a (oS (dn vm (my fm) 60) fm L q p) (match q.l with
  | [(nm,_)]=>cond (Nat.beq q.e.k 13) (pk nd L vm fm nm q.e p) (oT (dn vm (my fm) 60) vm nm q.e p)
  | _=>none)
def BF (L:List NdR):Nat->NdF
 | 0=>λ_ _ _ _=>none
 | n+1=>eu (λ_=>uj) (pd (BF L n) L)
def X0 (nd:NdF):Prop:=∀ d xs fs p l p',nd d xs fs p=some (l,p')->p.w<=p'.w
theorem uI {sp:List (List Nat×Nat)->EqR->FmS->PS->Option (FmS×PS)}{gv:List (List Nat×Nat)->FmS->EqR->PS->Option PS}
  (hs:∀ vm q fm p fm' p',sp vm q fm p=some (fm',p')->p.w<=p'.w) (hg:∀ vm fm q p p',gv vm fm q p=some p'->p.w<=p'.w) {d:NdR} {xs:List AtF} {fs:List (Int×Int)} {p p' : PS} {l:List Nat} (h:eu sp gv d xs fs p=some (l,p')):p.w<=p'.w:=by
 unfold eu at h
 split at h
 ·cases h
 rename_i vm p1 h1
 split at h
 ·cases h
 rename_i fm p2 h2
 split at h
 ·cases h
 rename_i p3 h3
 split at h
 ·cases h
 rename_i fm' p4 h4
 split at h
 ·cases h
 rename_i p5 h5
 split at h
 ·cases h
 simp only[SJ,PJ] at h;rw[<-h.2];exact Nat.le_trans (placesP_w _ _ _ _ _ h1) (Nat.le_trans (np _ _ _ _ _ _ _ h2) (Nat.le_trans (sizeP_w _ _ _ h3) (Nat.le_trans (gr (λq fm p fm' p' h=>hs vm q fm p fm' p' h) _ _ _ _ _ h4) (km (λq p p' h=>hg vm fm' q p p' h) _ _ _ h5))))
theorem Js {fm:FmS}{e:Ex}{p p' : PS}{a:AtF}(h:pW fm e p=some (a,p')):p.w<=p'.w:=by
 unfold pW at h
 split at h
 ·cases h
 ·simp only[SJ,PJ] at h;rw[<-h.2];simp only[PS.w,List.length_append,List.length_cons,List.length_nil];omega
theorem jf {fm:FmS}(e:Ex)(p:PS)(a:AtF)(p' : PS)(h:my fm e p=some (a,p')):p.w<=p'.w:=by
 unfold my at h;cases h14:Nat.beq e.k 14 with
 | true=>rw[h14] at h;exact Js h
 | false=>rw[h14] at h;cases h
theorem wF {f:Ex->PS->Option (AtF×PS)}(hf:∀ e p a p',f e p=some (a,p')->p.w<=p'.w){fm:FmS}{L:List NdR}{q:EqR}{p p' : PS}(h:oS f fm L q p=some p'):p.w<=p'.w:=by
 unfold oS at h
 split at h
 ·cases h
 split at h
 ·cases h
 split at h
 ·cases h
 split at h
 ·cases h
 rename_i xs fs p1 h1
 split at h
 ·cases h
 obtain ⟨_,h⟩:=aT h;simp only[SJ] at h;rw[<-h];have e1:=ep PS.w hf _ _ _ _ _ _ h1;simp only[PS.w,List.length_set] at e1 ⊢;exact e1
theorem nA {nd:NdF}(hn:X0 nd){L:List NdR}{vm:List (List Nat×Nat)}{fm:FmS}{nm:List Nat}{e:Ex}{p p' : PS}(h:pk nd L vm fm nm e p=some p'):p.w+1<=p'.w:=by
 unfold pk at h
 split at h
 ·cases h
 split at h
 ·cases h
 split at h
 ·cases h
 rename_i xs fs p1 h1
 split at h
 ·rename_i w p2 h2;simp only[SJ] at h;have e1:=ep PS.w (mN (vm:=vm) (jf (fm:=fm)) 60) _ _ _ _ _ _ h1;have e2:=hn _ _ _ _ _ _ h2;rw[<-h];simp only[PS.w,List.length_append,List.length_cons,List.length_nil] at e1 e2 ⊢;omega
 ·cases h
theorem oU {nd:NdF}(hn:X0 nd){L:List NdR}{vm:List (List Nat×Nat)}{fm:FmS}{q:EqR}{p p' : PS}(h:pd nd L vm fm q p=some p'):p.w<=p'.w:=by
 have hw:=mN (vm:=vm) (jf (fm:=fm)) 60;unfold pd at h;cases hq:q.a with
 | true=>rw[hq] at h;exact wF hw h
 | false =>
   rw[hq] at h;simp only[cond_false] at h
   split at h
   ·cases h13:Nat.beq q.e.k 13 with
    | true=>rw[h13] at h;have:=nA hn h;omega
    | false=>rw[h13] at h;exact Km hw h
   ·cases h
theorem iT (L:List NdR):∀ n,X0 (BF L n)
 | 0=>λ_ _ _ _ _ _ h=>by cases h
 | n+1=>λd xs fs p l p' h=>uI (λvm q fm p fm' p' h=>(GY h).1) (λvm fm q p p' h=>oU (iT L n) h) h
section
variable {M:Memo}{uo bo so vo fo:Nat}{LV:AV}{d:NdR}{vm:List (List Nat×Nat)}{fm:FmS}{base:AV}
theorem Bq (m:ga M){e:Ex}(hk:e.k=14){H:Heap}{u u' : UN}{H1:Heap}{a:AtF}(C:Cx uo bo so vo fo LV d (nB vm) fm base H u)
  (hA:orc CC M 181 [.ptr bo 0,.ptr so 0,e.v] (H++[dv e,zA])=some (.ret a.av H1 uo)) (U1:UI uo H1 u') (G1:Gr uo (H++[dv e,zA]) u.ns H1 u'.ns) :
  ∃ H',orc CC M 169 [.ptr bo 0,.ptr so 0,e.v,.nils] H=some (.ret a.av H' uo)/\UI uo H' u'/\Gr uo H u.ns H' u'.ns:=by
 have l1:=G1.loc C.U (j:=1) (by rw[bq,bq,cd];omega)
 have l1' : ae H1 (aa H+1)=some zA:=by rw[l1.1];rfl
 have m0:ae (H++[dv e,zA]) (aa H)=some (dv e):=by rw[an];rfl
 have huo:=C.U.uo;refine ⟨am H1 (aa H+1) (.cells [.bool a.c,.int .i64 a.n,.int .i64 (a.v:Int)]),?_,U1.to (by rw[ay];exact Nat.le_refl _) (λq hq hn=>af (by rintro rfl;rcases hn with h|h;(omega);exact l1.2.1 h) _),(Gr.ap.trans G1).put2 (by omega)⟩
 refine aJ (z:=z169) (m _ _ rfl) (by kernel_rfl) rfl ?_
 have e0:(envOf [.ptr bo 0,.ptr so 0,e.v,.nils] 0 env0).a.a.a=.ptr bo 0:=rfl;have e1:(envOf [.ptr bo 0,.ptr so 0,e.v,.nils] 0 env0).a.a.b=.ptr so 0:=rfl;have e2:(envOf [.ptr bo 0,.ptr so 0,e.v,.nils] 0 env0).a.a.c=e.v:=rfl;have e3:(envOf [.ptr bo 0,.ptr so 0,e.v,.nils] 0 env0).a.a.d=.nils:=rfl;generalize envOf [.ptr bo 0,.ptr so 0,e.v,.nils] 0 env0=R at e0 e1 e2 e3;have hbx:=kB e;have cc:∀ j:Nat,j≠e.k->decide ((e.k:Int)=(j:Int))=false:=λj hj=>by simp;omega
 have c1:decide ((e.k:Int)=1)=false:=cc 1 (by omega)
 have c2:decide ((e.k:Int)=2)=false:=cc 2 (by omega)
 have c3:decide ((e.k:Int)=3)=false:=cc 3 (by omega)
 have c4:decide ((e.k:Int)=4)=false:=cc 4 (by omega)
 have c5:decide ((e.k:Int)=5)=false:=cc 5 (by omega)
 have c6:decide ((e.k:Int)=6)=false:=cc 6 (by omega)
 have c7:decide ((e.k:Int)=7)=false:=cc 7 (by omega)
 have c11:decide ((e.k:Int)=11)=false:=cc 11 (by omega)
 have c12:decide ((e.k:Int)=12)=false:=cc 12 (by omega)
 have c14:decide ((e.k:Int)=14)=true:=by rw[hk];rfl
 have hm2:min (aa H) uo=uo:=Nat.min_eq_right (by omega)
 have hzs:=λc=>aF l1' c
 have hgc:=λhp=>dL (keep:=CC.keep 169) (base:=aa H) (e:=uo) (v:=a.av) (hp:=hp) (by omega)
 have hA' : orc CC M 181 [.ptr bo 0,.ptr so 0,e.v] (H++[dv e,zA])=some (.ret (.agg [.bool a.c,.int .i64 a.n,.int .i64 (a.v:Int)]) H1 uo):=hA;have hgc' : ∀ hp,lH (CC.keep 169) (aa H) (.agg [.bool a.c,.int .i64 a.n,.int .i64 (a.v:Int)]) ⟨hp,uo⟩=.ret (.agg [.bool a.c,.int .i64 a.n,.int .i64 (a.v:Int)]) hp uo:=hgc;simp only[z169,gE,gO,hC,gF,jK,lK,oM,mD,ry,xJ,xY,z0,zr,SIM,ST0,ST1,ST2,ST3,ST4,e0,e1,e2,e3,hbx,m0,hA',hm2,l1',hzs,hgc',c1,c2,c3,c4,c5,c6,c7,c11,c12,c14,EXS,Nat.reduceAdd,Nat.reduceLeDiff]
end
structure NdK (d:NdR):Prop where
 al:(cS d).length<=90000
 el:d.eqs.length<=90000
 ne:d.eqs≠[]
 cl:∀ x∈cS d,x.c=[]
 eq:∀ q∈d.eqs,sizeE q.e<90000/\q.l.length<=90000
theorem jp {nm:List Nat}:∀ {L:List NdR} {d:NdR},dt nm L=some d->d∈L
 | [],d,h=>by cases h
 | x::l,d,h=>by
   simp only[dt] at h;cases hx:strEq x.s nm with
   | true=>rw[hx] at h;simp only[cond_true,SJ] at h;rw[h];exact List.mem_cons_self ..
   | false=>rw[hx] at h;exact List.mem_cons_of_mem _ (jp h)
theorem NdK.ins {d:NdR}(h:NdK d):d.ins.length<=90000:=by
 have:=h.al;unfold cS at this;simp only[List.length_append] at this;omega
section
variable {M:Memo}{uo bo:Nat}{LV:AV}{L:List NdR}
theorem PZ (m:ga M){so vo fo:Nat}{d:NdR}{vm:List (List Nat×Nat)}{fm:FmS}{base:AV}(hb:mo base)(k:Nat)(e:Ex)(hk:(Nat.beq e.k 13||Nat.beq e.k 14)=true)(he:sizeE e<90000):jq M uo bo so vo fo LV d (nB vm) fm base (dn vm (my fm) (k+1)) e:=by
 intro H u a p' h C hw
 have hk' : e.k=13\/e.k=14:=by
  rw[Bool.or_eq_true] at hk;exact hk.imp Nat.eq_of_beq_eq_true Nat.eq_of_beq_eq_true
 have hx:my fm e u.p=some (a,p'):=by
  rcases hk' with h1|h1<;>(rw[show dn vm (my fm) (k+1) e u.p=my fm e u.p from by simp only[dn,AM,h1];rfl] at h;exact h)
 have hkl:=sizeL_len e.kids;have hsk:=i4 e;unfold my at hx
 rcases hk' with h1|h1
 ·rw[show Nat.beq e.k 14=false by rw[h1];rfl] at hx
  cases hx
 ·rw[show Nat.beq e.k 14=true by rw[h1];rfl] at hx
  simp only[cond_true] at hx;obtain ⟨H',u',hA,U',G',hpp,S'⟩:=Jk m hb (by omega) hx (C.ap [dv e,zA]) hw
  obtain ⟨H2,hR,U2,G2⟩:=Bq m h1 C hA U' G';exact ⟨H2,u',uo,hR,U2,G2,hpp,S',.inr rfl⟩
theorem Hj (m:ga M)(hL:L.length<=90000)(hLV:LV=.sl 6 (L.map NdR.v) .dead)(hK:∀ d∈L,NdK d){nd:NdF}(hn:X0 nd)(hN:∀ d∈L,Yb M uo bo LV nd d)
  {d:NdR} (hd:NdK d) {vm:List (List Nat×Nat)} {fm:FmS} {base:AV} (hb:mo base) {H:Heap} {ns0:List Nat} {q:EqR} (hq:q∈d.eqs):Br M uo bo LV d vm base H ns0 fm (pd nd L vm fm) q:=by
 obtain ⟨hqs,hql⟩:=hd.eq q hq;have hf:=mN (vm:=vm) (jf (fm:=fm)) 60;have hext:=PZ (so:=aa H+4) (vo:=aa H+2) (fo:=aa H+3) (d:=d) (vm:=vm) (fm:=fm) (uo:=uo) (bo:=bo) (LV:=LV) m hb;have hall:=BU (LV:=LV) (d:=d) (vm:=vm) (fm:=fm) (base:=base) (uo:=uo) (bo:=bo) (so:=aa H+4) (vo:=aa H+2) (fo:=aa H+3) m (jf (fm:=fm)) hb hext;have hkl:=sizeL_len q.e.kids;have hsk:=i4 q.e;have ihk:∀ a∈q.e.kids,jq M uo bo (aa H+4) (aa H+2) (aa H+3) LV d (nB vm) fm base (dn vm (my fm) 60) a:=λa ha=>hall 60 a (by have:=jb ha;omega)
 intro Hc uc p' hp N hw;unfold pd at hp;cases hqa:q.a with
 | true =>
   rw[hqa] at hp;obtain ⟨H',u',esc,h1,h2,h3,h4,h5,h6,h7⟩:=Ct m hf hL hLV (λd' h=>(hK d' h).ins) hqa ihk Hc uc p' hp N hw
   exact ⟨H',u',esc,h1,h2,h3,h4,h5,h6,λh=>by cases h⟩
 | false =>
   rw[hqa] at hp;simp only[cond_false] at hp
   split at hp
   ·rename_i nm pos hl
    have hqe:q=⟨[(nm,pos)],false,q.e⟩:=by
     cases q with
     | mk l a e=>simp only at hl hqa;rw[hl,hqa]
    cases h13:Nat.beq q.e.k 13 with
    | true =>
      rw[h13] at hp;simp only[cond_true] at hp;have hpm:=nA hn hp;unfold pk at hp
      split at hp
      ·cases hp
      rename_i v hv
      split at hp
      ·cases hp
      rename_i d' hfd
      split at hp
      ·cases hp
      rename_i xs fs p1 hp1
      split at hp
      ·rename_i w p2 hp2;simp only[SJ] at hp
       have hw2:p2.w+21<1000000:=by
        rw[<-hp] at hw;simp only[PS.w,List.length_append,List.length_cons,List.length_nil] at hw ⊢;omega
       obtain ⟨H',u',V,hA,hO,U',G',hpp,S'⟩:=rD (nd:=nd) m hf hL hLV hfd (hK _ (jp hfd)).ins ihk hb (hN _ (jp hfd)) hp1 hp2 (hn _ _ _ _ _ _ hp2) (N.C.ap [qO ⟨[(nm,pos)],false,q.e⟩]) (by omega)
       have hO' : wm (aa Hc+1) u'.ns H' V [w]:=by
        have:aa (Hc++[qO ⟨[(nm,pos)],false,q.e⟩])=aa Hc+1:=by rw[az];rfl
        rw[<-this];exact hO
       obtain ⟨H2,u2,g1,g2,g3,g4,g5⟩:=Fw (pos:=pos) m hb hd.al hd.cl h13 hv N.C hA hO' U' G' S' (by rw[hpp];exact hw2)
       exact ⟨H2,u2,uo,by rw[hqe];exact g1,g2,g3,by rw[g4,hpp];exact hp,g5,Nat.le_refl _,λ_=>rfl⟩
      ·cases hp
    | false =>
      rw[h13] at hp;simp only[cond_false] at hp;obtain ⟨H',u',h1,h2,h3,h4,h5⟩:=I8 (pos:=pos) m hf hb hd.al hd.cl h13 (hall 60 q.e hqs) hp N.C hw;exact ⟨H',u',uo,by rw[hqe];exact h1,h2,h3,h4,h5,Nat.le_refl _,λ_=>rfl⟩
   ·cases hp
theorem Gm (m:ga M)(hL:L.length<=90000)(hLV:LV=.sl 6 (L.map NdR.v) .dead)(hK:∀ d∈L,NdK d):∀ (n:Nat),∀ d∈L,Yb M uo bo LV (BF L n) d
 | 0=>λd hd H u xs fs A F l p' _ _ _ _ _ h=>by cases h
 | n+1=>λd hd H u xs fs A F l p' hU hbo hbn hA hF h hw=>by
   have hk:=hK d hd;have ih:=Gm m hL hLV hK n
   obtain ⟨H',u',esc,V,h1,h2,h3,h4,h5,h6,h7⟩:=y5 (sp:=λ_=>uj) (gv:=pd (BF L n) L) (base:=gv0) m (λvm q fm p fm' p' h=>(GY h).1) (λvm fm q p p' h=>oU (iT L n) h) (.inr rfl) hk.al hk.el hk.ne
    (λH ns0 vm q _ _=>tj m (.inr rfl) q) (λH ns0 vm fm q hq=>Hj m hL hLV hK (iT L n) ih hk (.inr rfl) hq) hU hbo hbn hA hF h hw
   rw[h7] at h1;exact ⟨H',u',V,h1,h2,h3,h4,h5,h6⟩
end
abbrev Id (j:Nat):Int×Int:=(-1,(j:Int))
structure Rt2 (uo bo:Nat)(LV:AV)(d:NdR)(nd:List Nat)(at_:Int)(H:Heap)(i j:Nat)(Hc:Heap)(I A F:AV):Prop where
 R:Rt uo bo LV d nd at_ H i Hc I A
 hF:LvI uo Hc 2 F ((List.range j).map λk=>eb (Id k))
 iF:∀ q∈nmA F,aa H<q
 dF:∀ q∈nmA F,q∉nmA I/\q∉nmA A
def Yq (uo bo:Nat)(LV:AV)(d:NdR)(nd:List Nat)(at_:Int)(H:Heap)(n j:Nat)(X:IRes):Prop :=
 ∃ r' Hd e' I A F,X=some (.exit 0,r',[],⟨Hd,e'⟩)/\Rt2 uo bo LV d nd at_ H n j Hd I A F/\uo<=e'/\e'<=aa H/\(r'.a.a.a=.ptr bo 0/\r'.a.a.d=.ptr (aa H) 0/\r'.a.a.e=A/\r'.a.a.f=F)
def cI (l:List DeR):Nat:=l.countP λx=>!x.f
def cF (l:List DeR):Nat:=l.countP λx=>x.f
theorem QO (a:Nat):ao CC 152 [(0,.int .i64 (-1)),(1,.int .i64 (a:Int))]=some (.agg [.int .i64 (-1),.int .i64 (a:Int)]):=by
 have:∀ x:Int,ao CC 152 [(0,.int .i64 (-1)),(1,.int .i64 x)]=some (.agg [.int .i64 (-1),.int .i64 x]):=λ_=>by kernel_rfl
 exact this _
theorem cc148:∃ e,CC.P.underlying 148=some (.slice e)/\e=152:=⟨_,by kernel_rfl,rfl⟩
theorem P0 {uo:Nat}{H:Heap}{F:AV}{xs:List AV}(h:LvI uo H 2 F xs):aO CC 148 F=some (.int .i64 (xs.length:Int)):=by
 obtain ⟨e,hu,_⟩:=cc148
 rcases h with ⟨rfl,rfl⟩|⟨_,id,g,rfl,_⟩
 ·rw[cA];simp[dh,hu]
 ·rw[cO hu]
section
variable {M:Memo}{uo bo:Nat}{LV:AV}{d:NdR}{nd:List Nat}{at_:Int}{H:Heap}
theorem vS (m:ga M){L:List DeR}(hL:L.length<=90000) :
  ∀ (k i:Nat),k+i=L.length->∀ (fu:Nat),k<fu->∀ (Hc:Heap) (e:Nat) (I A F:AV),Rt2 uo bo LV d nd at_ H (cI (L.take i)) (cF (L.take i)) Hc I A F->uo<=e->e<=aa H->∀ (r:RG),(r.a.a.a=.ptr bo 0/\r.a.a.d=.ptr (aa H) 0/\r.a.a.e=A/\r.a.a.f=F) ->
  (r.a.b.b=deZ L/\r.a.b.c=.int .i64 (L.length:Int)/\r.a.b.d=.int .i64 (i:Int)) ->
  Yq uo bo LV d nd at_ H (cI L) (cF L) (ax (lx (orc CC M)) fu r [] ⟨Hc,e⟩):=by
 intro k
 induction k with
 | zero =>
   intro i hi fu hfu Hc e I A F R2 he he' r hr ⟨h32,h33,h34⟩;obtain ⟨fu',rfl⟩ : ∃ f,fu=f+1:=⟨fu-1,by omega⟩
   have:i=L.length:=by omega
   subst this;have hc:decide ((L.length:Int)<(L.length:Int))=false:=by simp
   simp only[ax,lx,zX,SIM,ST0,ST1,h33,h34,hc];rw[List.take_length] at R2;exact ⟨_,Hc,e,I,A,F,rfl,R2,he,he',by first|exact hr⟩
 | succ k ih =>
   intro i hi fu hfu Hc e I A F R2 he he' r hr ⟨h32,h33,h34⟩;obtain ⟨hr0,hr3,hr4,hr5⟩:=hr;obtain ⟨fu',rfl⟩ : ∃ f,fu=f+1:=⟨fu-1,by omega⟩
   have hlt:i<L.length:=by omega
   have hc:decide ((i:Int)<(L.length:Int))=true:=by simp;omega
   have hg:L[i]?=some L[i]:=by simp[hlt]
   have htk:L.take (i+1)=L.take i++[L[i]]:=by rw[List.take_add_one,hg];rfl
   have R:=R2.R;have hci:cI (L.take i)<=i:=Nat.le_trans List.countP_le_length (by rw[List.length_take];omega)
   have hcf:cF (L.take i)<=i:=Nat.le_trans List.countP_le_length (by rw[List.length_take];omega)
   generalize L[i]=a at hg htk;have hat:=qP hg;have ha:bR (i:Int) 1=((i+1:Nat):Int):=aZ i 1 (by unfold natMax;omega)
   cases haf:a.f with
   | true =>
     have hcn:∀ x y:IRes,eW (.bool a.f) x y=x:=λx y=>by rw[haf];rfl
     have uh:=R.uh;have hlen:=R.len;have hlz:aa (Hc++[AObj.cells a.l])=aa Hc+1:=by rw[az];rfl
     have hdo:ae (Hc++[AObj.cells a.l]) (aa Hc)=some (.cells a.l):=by rw[an];rfl
     have f0:∀ q,q<aa Hc->ae (Hc++[.cells a.l]) q=ae Hc q:=λq hq=>aU hq
     have F0:=R2.hF.mono (H':=Hc++[.cells a.l]) (by omega) (λq _ hq=>f0 q hq)
     have I0:=R.hI.mono (H':=Hc++[.cells a.l]) (by omega) (λq _ hq=>f0 q hq)
     have A0:=R.hA.mono (H':=Hc++[.cells a.l]) (by omega) (λq _ hq=>f0 q hq)
     have hln:=P0 F0;rw[List.length_map,List.length_range] at hln;obtain ⟨F',H1,ap1,F1,l1,f1,n1⟩:=jF sl148 58 (x:=eb (Id (cF (L.take i)))) F0 rfl (by simp[AV.low,aG]) (by rw[List.length_map,List.length_range];omega) (by omega)
     have hne:∀ q,q<=aa H->q∉nmA F:=λq hq hm=>by have:=R2.iF q hm;omega
     have R5:Rt2 uo bo LV d nd at_ H (cI (L.take i)) (cF (L.take i)+1) H1 I A F':=by
      refine ⟨⟨by rw[f1 uo (by omega) (hne _ (by omega)),f0 uo (by omega),R.u],by rw[f1 bo (by have:=R.bh;omega) (hne _ (by have:=R.bh;omega)),f0 bo (by have:=R.bh;omega),R.b],by rw[f1 _ (by omega) (hne _ (Nat.le_refl _)),f0 _ (by omega),R.n],I0.mono l1 (λq hq hlt=>f1 q hlt (λhm=>(R2.dF q hm).1 hq)),A0.mono l1 (λq hq hlt=>f1 q hlt (λhm=>(R2.dF q hm).2 hq)),R.dj,R.iI,R.iA,λq hq hu=>by rw[f1 q (by omega) (hne _ (by omega)),f0 q (by omega),R.fr q hq hu],by omega,R.uh,R.bh,R.bu⟩,?_,λq hq=>?_,λq hq=>⟨λhm=>?_,λhm=>?_⟩⟩
      ·have:(List.range (cF (L.take i)+1)).map (λk=>eb (Id k))=(List.range (cF (L.take i))).map (λk=>eb (Id k))++[eb (Id (cF (L.take i)))]:=by rw[List.range_succ,List.map_append];rfl
       rw[this];exact F1
      ·rcases n1 q hq with h|h
       ·exact R2.iF q h
       ·omega
      ·rcases n1 q hq with h|h
       ·exact (R2.dF q h).1 hm
       ·have:=(I0.lt q hm).2;omega
      ·rcases n1 q hq with h|h
       ·exact (R2.dF q h).2 hm
       ·have:=(A0.lt q hm).2;omega
     have hc1:cI (L.take (i+1))=cI (L.take i):=by rw[htk];unfold cI;rw[List.countP_append];simp[haf]
     have hc2:cF (L.take (i+1))=cF (L.take i)+1:=by rw[htk];unfold cF;rw[List.countP_append];simp[haf]
     have key:=ih (i+1) (by omega) fu' (by omega) H1 e I A F' (by rw[hc1,hc2];exact R5) he he'
     have h152:=QO (cF (L.take i));have h148:=Em (Id (cF (L.take i)));have h148' : aM CC 148 1 [(0,.agg [.int .i64 (-1),.int .i64 ((cF (L.take i):Nat):Int)])]=some (.sl 2 [.agg [.int .i64 (-1),.int .i64 ((cF (L.take i):Nat):Int)]] .lit):=h148;have ap1' : ∀ e q,aq CC 58 148 F (.sl 2 [.agg [.int .i64 (-1),.int .i64 ((cF (L.take i):Nat):Int)]] q) ⟨Hc++[.cells a.l],e⟩=some (F',⟨H1,e⟩):=ap1;simp only[ax,lx,zX,Gc,EI,NI,xk,SIM,ST0,ST1,h32,h33,h34,hr0,hr3,hr4,hr5,hc,hat,ha,hcn,hdo,hln,h152,h148',ap1',orVal,Nat.reduceAdd,Nat.reduceLeDiff];exact key _ ⟨by first|rfl|exact hr0,by first|rfl|exact hr3,by first|rfl|exact hr4,rfl⟩ ⟨by first|rfl|exact h32,by first|rfl|exact h33,rfl⟩
   | false =>
     obtain ⟨ci,hci'⟩ : ∃ ci,cI (L.take i)=ci:=⟨_,rfl⟩;rw[hci'] at R2 R hci
     have hs1:fR ((ci+1:Nat):Int) 1=(ci:Int):=by
      show fR (.ofNat (ci+1)) (.ofNat 1)=_;have h1:Nat.ble 1 (ci+1)=true:=by rw[dW];simp
      have h2:Nat.ble (ci+1) natMax=true:=by rw[dW,decide_eq_true_eq];unfold natMax;omega
      simp only[fR,h1,h2,Bool.and_self,cond_true];rfl
     have hcn:∀ x y:IRes,eW (.bool a.f) x y=y:=λx y=>by rw[haf];rfl
     have uh:=R.uh;have bh:=R.bh;have bu:=R.bu;have hlen:=R.len;have hlz:aa (Hc++[AObj.cells a.l])=aa Hc+1:=by rw[az];rfl
     have u0:=au R.u [.cells a.l];have b0:=au R.b [.cells a.l];have n0:=au R.n [.cells a.l];have hdo:ae (Hc++[AObj.cells a.l]) (aa Hc)=some (.cells a.l):=by rw[an];rfl
     have f0:∀ q,q<aa Hc->ae (Hc++[.cells a.l]) q=ae Hc q:=λq hq=>by rw[ai] at hq;rw[aB,aB,List.getElem?_append_left hq]
     have I0:=R.hI.mono (H':=Hc++[.cells a.l]) (by omega) (λq _ hq=>f0 q hq)
     have A0:=R.hA.mono (H':=Hc++[.cells a.l]) (by omega) (λq _ hq=>f0 q hq)
     have hP:=sv m (H:=Hc++[.cells a.l]) (by omega) b0 u0
     rw[hlz] at hP;generalize hH1:am (Hc++[.cells a.l]) uo (.cells (tC nd at_ (ci+1) I))=H1 at hP;have l1:aa H1=aa Hc+1:=by rw[<-hH1,ay,hlz]
     have f1:∀ q,q≠uo->ae H1 q=ae (Hc++[.cells a.l]) q:=λq hq=>by rw[<-hH1,af hq]
     have u1:ae H1 uo=some (.cells (tC nd at_ (ci+1) I)):=by rw[<-hH1];exact aF u0 _
     have b1:ae H1 bo=some (.cells [.ptr uo 0,LV]):=by rw[f1 bo bu,b0]
     have I1:=I0.mono (H':=H1) (by omega) (λq hq _=>f1 q (by have:=(I0.lt q hq).1;omega))
     have A1:=A0.mono (H':=H1) (by omega) (λq hq _=>f1 q (by have:=(A0.lt q hq).1;omega))
     have hmt:CC.mutT 58 22=false:=by kernel_rfl
     obtain ⟨I',H2,ap2,I2,l2,f2,n2⟩:=oP hmt I1 ci (by rw[List.length_range];omega) (by omega)
     have hrg:List.range ci++[ci]=List.range (ci+1):=(List.range_succ).symm;rw[hrg] at I2;have u2:ae H2 uo=some (.cells (tC nd at_ (ci+1) I)):=by rw[f2 uo (by omega) (λhm=>by have:=(I1.lt _ hm).1;omega),u1]
     have nlin:∀ q o,ae H1 q=some (.cells o)->q∉nmA I:=λq o hq hm=>by
      rcases I1 with ⟨_,rfl⟩|⟨_,id,g,rfl,hg,_⟩
      ·cases hm
      ·simp only[nmA,List.mem_singleton] at hm;subst hm;rw[hg] at hq;simp at hq
     have b2:ae H2 bo=some (.cells [.ptr uo 0,LV]):=by rw[f2 bo (by omega) (nlin _ _ b1),b1]
     have A2:=A1.mono (H':=H2) l2 (λq hq hlt=>f2 q hlt (λhm=>R.dj q hm hq))
     have st:=λb hb=>m6 (b:=b) (off:=3) I2 (by simp) u2 (by rw[ai];simp) hb
     have st':=st e he;rw[Xv] at st';have hsI:=IV R.hI;generalize hH3:am H2 uo (.cells (tC nd at_ (ci+1) I'))=H3 at st';have l3:aa H3=aa H2:=by rw[<-hH3,ay]
     have f3:∀ q,q≠uo->ae H3 q=ae H2 q:=λq hq=>by rw[<-hH3,af hq]
     have u3:ae H3 uo=some (.cells (tC nd at_ (ci+1) I')):=by rw[<-hH3];exact aF u2 _
     have b3:ae H3 bo=some (.cells [.ptr uo 0,LV]):=by rw[f3 bo bu,b2]
     have I3:=I2.mono (H':=H3) (by omega) (λq hq _=>f3 q (by have:=(I2.lt q hq).1;omega))
     have A3:=A2.mono (H':=H3) (by omega) (λq hq _=>f3 q (by have:=(A2.lt q hq).1;omega))
     obtain ⟨A',H4,ap4,A4,l4,f4,n4⟩:=jF sl139 58 (x:=(BH ci).av) A3 rfl (by simp[AV.low,aG]) (by rw[List.length_map,List.length_range];omega) (by omega)
     have nlA:∀ q∈nmA I',q∉nmA A:=λq hq hm=>by
      rcases n2 q hq with h|h
      ·exact R.dj q h hm
      ·have:=(R.hA.lt q hm).2;omega
     have nlin3:∀ q o,ae H3 q=some (.cells o)->q∉nmA A:=λq o hq hm=>by
      rcases A3 with ⟨_,rfl⟩|⟨_,id,g,rfl,hg,_⟩
      ·cases hm
      ·simp only[nmA,List.mem_singleton] at hm;subst hm;rw[hg] at hq;simp at hq
     have R4:Rt uo bo LV d nd at_ H (ci+1) H4 I' A':=by
      have n1:ae H1 (aa H)=some (dq d):=by rw[f1 _ (by omega),n0]
      have n2' : ae H2 (aa H)=some (dq d):=by rw[f2 _ (by omega) (nlin _ _ n1),n1]
      have n3:ae H3 (aa H)=some (dq d):=by rw[f3 _ (by omega),n2']
      refine ⟨by rw[f4 uo (by omega) (nlin3 _ _ u3),u3],by rw[f4 bo (by omega) (nlin3 _ _ b3),b3],by rw[f4 _ (by omega) (nlin3 _ _ n3),n3],I3.mono l4 (λq hq hlt=>f4 q hlt (nlA q hq)),?_,?_,?_,?_,?_,by omega,uh,bh,bu⟩
      ·have:(List.range (ci+1)).map (λj=>(BH j).av)=(List.range ci).map (λj=>(BH j).av)++[(BH ci).av]:=by rw[List.range_succ,List.map_append];rfl
       rw[this];exact A4
      ·intro q hq hm
       rcases n4 q hm with h|h
       ·exact nlA q hq h
       ·have:=(I3.lt q hq).2;omega
      ·intro q hq
       rcases n2 q hq with h|h
       ·exact R.iI q h
       ·omega
      ·intro q hq
       rcases n4 q hq with h|h
       ·exact R.iA q h
       ·omega
      ·intro q hq hu;rw[f4 q (by omega) (λhm=>by have:=R.iA q hm;omega),f3 q hu,f2 q (by omega) (λhm=>by have:=R.iI q hm;omega),f1 q hu,f0 q (by omega),R.fr q hq hu]
     have F0:=R2.hF.mono (H':=Hc++[.cells a.l]) (by omega) (λq _ hq=>f0 q hq)
     have F1:=F0.mono (H':=H1) (by omega) (λq hq _=>f1 q (by have:=(F0.lt q hq).1;omega))
     have F2:=F1.mono (H':=H2) l2 (λq hq hlt=>f2 q hlt (R2.dF q hq).1)
     have F3:=F2.mono (H':=H3) (by omega) (λq hq _=>f3 q (by have:=(F2.lt q hq).1;omega))
     have F4:=F3.mono (H':=H4) l4 (λq hq hlt=>f4 q hlt (R2.dF q hq).2)
     have R5:Rt2 uo bo LV d nd at_ H (ci+1) (cF (L.take i)) H4 I' A' F:=by
      refine ⟨R4,F4,R2.iF,λq hq=>⟨λhm=>?_,λhm=>?_⟩⟩
      ·rcases n2 q hm with h|h
       ·exact (R2.dF q hq).1 h
       ·have:=(F1.lt q hq).2;omega
      ·rcases n4 q hm with h|h
       ·exact (R2.dF q hq).2 h
       ·have:=(F3.lt q hq).2;omega
     have hc1:cI (L.take (i+1))=ci+1:=by rw[htk];unfold cI at hci' ⊢;rw[List.countP_append,hci'];simp[haf]
     have hc2:cF (L.take (i+1))=cF (L.take i):=by rw[htk];unfold cF;rw[List.countP_append];simp[haf]
     have key:=ih (i+1) (by omega) fu' (by omega) H4 uo I' A' F (by rw[hc1,hc2];exact R5) (Nat.le_refl _) (by omega)
     have hb22:=mj ci;have h139:=nu (BH ci);have hsu:AV.same (.ptr uo 0) (.ptr uo 0)=true:=by simp[AV.same]
     have hmn:min e (aa Hc+1)=e:=Nat.min_eq_left (by omega)
     simp only[ax,lx,zX,Gc,EI,Kw,MM,xk,SIM,ST0,ST1,h32,h33,h34,hr0,hr3,hr4,hr5,hc,hat,ha,hcn,hdo,b0,u0,VJ,Oq,hP,hmn,b1,u1,hsI,hsu,hb22,ap2,b2,st',b3,u3,hs1,Bd,h139,ap4,orVal,Nat.reduceAdd,Nat.reduceLeDiff];exact key _ ⟨by first|rfl|exact hr0,by first|rfl|exact hr3,rfl,by first|rfl|exact hr5⟩ ⟨by first|rfl|exact h32,by first|rfl|exact h33,rfl⟩
end
section
variable {M:Memo}{uo bo:Nat}{LV:AV}{d:NdR}{nd:List Nat}{at_:Int}{H:Heap}
theorem Eg (m:ga M){sp:List (List Nat×Nat)->EqR->FmS->PS->Option (FmS×PS)}{gv:List (List Nat×Nat)->FmS->EqR->PS->Option PS}
  (hsw:∀ vm q fm p fm' p',sp vm q fm p=some (fm',p')->p.w<=p'.w) (hgw:∀ vm fm q p p',gv vm fm q p=some p'->p.w<=p'.w) (hl:(cS d).length<=90000) (hel:d.eqs.length<=90000) (hne:d.eqs≠[])
  (hsp:∀ H ns0 vm q,q∈d.eqs->q.a=true->E7 M uo bo LV d vm .nils H ns0 (sp vm) q) (hgv:∀ H ns0 vm fm q,q∈d.eqs->Br M uo bo LV d vm .nils H ns0 fm (gv vm fm) q)
  (hu:ae H uo=some (.cells (tC nd at_ 0 .nils))) (hbo:ae H bo=some (.cells [.ptr uo 0,LV])) {l:List Nat} {p' : PS} (hp:eu sp gv d ((List.range (cI d.ins)).map BH) ((List.range (cF d.ins)).map Id) ⟨cI d.ins,[],0,[],[],0⟩=some (l,p')) (hl0:l≠[]) (hw:p'.w+20<1000000) :
  ∃ H' u',orc CC M 58 [.ptr bo 0,d.v] H=some (.ret Abs.undef H' uo)/\UI uo H' u'/\u'.p=p'/\u'.nd=nd/\u'.at_=at_/\(∃ lin,u'.O=.sl 1 (l.map inV) lin)/\aa H<=aa H'/\(∀ q,q<aa H->q≠uo->ae H' q=ae H q):=by
 have uh:=bG hu;have bh:=bG hbo;have bu:bo≠uo:=λh=>by rw[h,hu] at hbo;simp at hbo
 have hins:d.ins.length<=90000:=by unfold cS at hl;simp only[List.length_append] at hl;omega
 have hlz:aa (H++[dq d])=aa H+1:=by rw[az];rfl
 have R0:Rt uo bo LV d nd at_ H 0 (H++[dq d]) .nils .nils:=⟨au hu _,au hbo _,by rw[an];rfl,.inl ⟨rfl,rfl⟩,.inl ⟨rfl,rfl⟩,λ_ h=>(by cases h),λ_ h=>(by cases h),λ_ h=>(by cases h),λq hq _=>by rw[ai] at hq;rw[aB,aB,List.getElem?_append_left hq],by omega,uh,bh,bu⟩
 have e0:(envOf [.ptr bo 0,d.v] 0 env0).a.a.a=.ptr bo 0:=rfl;have e1:(envOf [.ptr bo 0,d.v] 0 env0).a.a.b=d.v:=rfl
 obtain ⟨r0,hr0,hq0,hpre⟩ : ∃ r,(r.a.a.a=.ptr bo 0/\r.a.a.d=.ptr (aa H) 0/\r.a.a.e=.nils/\r.a.a.f=.nils)/\(r.a.b.b=deZ d.ins/\r.a.b.c=.int .i64 (d.ins.length:Int)/\r.a.b.d=.int .i64 ((0:Nat):Int)) /\
   z58.sh (orc CC M) (envOf [.ptr bo 0,d.v] 0 env0) [] ⟨H,aa H⟩=dI (vd (orc CC M)) (c9 0 (ax (lx (orc CC M)) 100000 r [] ⟨H++[dq d],aa H⟩)):=by
  generalize envOf [.ptr bo 0,d.v] 0 env0=R at e0 e1;have hbn:=pI d;have hln:=mK d.ins;have hlL:H.length=aa H:=(ai H).symm;simp only[z58,Nn,NF,MT,Ny,SIM,ST0,ST1,e0,e1,hbn,hln,hlL,Nat.reduceAdd,Nat.reduceLeDiff];exact ⟨_,⟨by first|rfl|exact e0,rfl,rfl,rfl⟩,⟨rfl,rfl,rfl⟩,rfl⟩
 obtain ⟨r1,Hd,e',I,A,F,hlp,R2,he1,he2,hr1⟩:=vS m hins d.ins.length 0 rfl 100000 (by omega) _ _ _ _ _ (show Rt2 uo bo LV d nd at_ H (cI (d.ins.take 0)) (cF (d.ins.take 0)) (H++[dq d]) .nils .nils .nils from ⟨R0,.inl ⟨rfl,rfl⟩,λ_ h=>(by cases h),λ_ h=>(by cases h)⟩) (by omega) (Nat.le_refl _) r0 hr0 hq0
 obtain ⟨g0,g3,g4,g5⟩:=hr1;have R1:=R2.R;have hcI:cI d.ins<=d.ins.length:=List.countP_le_length;have U1:=Ul R1.u (by omega)
 have hAL:AL ((List.range (cI d.ins)).map BH) A (aa Hd):=by
  rcases R1.hA with ⟨h1,h2⟩|⟨_,id,g,h1,h2,h3,h4⟩
  ·exact .inl ⟨by simpa using h1,h2⟩
  ·refine .inr ⟨_,by rw[List.map_map];exact h1,?_⟩
   have:=bG h2;simp[Lin.low,this]
 have hFL:FL ((List.range (cF d.ins)).map Id) F:=by
  rcases R2.hF with ⟨h1,h2⟩|⟨_,id,g,h1,_⟩
  ·exact .inl ⟨by simpa using h1,h2⟩
  ·exact .inr ⟨_,by rw[List.map_map];exact h1⟩
 obtain ⟨H2,u2,esc,V,hN,hO,U2,G2,hp2,S2,he3⟩:=y5 (base:=.nils) m hsw hgw (.inl rfl) hl hel hne hsp hgv U1 R1.b (λh=>by cases h) hAL hFL hp hw
 have hn0:(YV nd at_ (cI d.ins) I).ns=[]:=rfl
 have hV:LvI uo H2 1 V (l.map inV):=by
  rcases hO with ⟨h0,_⟩|⟨_,id,g,h1,h2,h3,h4⟩
  ·exact absurd h0 hl0
  ·have hlow:∀ (L:Nat) (l:List Nat),aG L (l.map inV)=true:=λL l=>by
    induction l with
    | nil=>rfl
    | cons a l ih=>simp only[List.map_cons,aG,ih,Bool.and_true];rfl
   exact .inr ⟨by simpa using hl0,id,g,h1,h2,by have:=R1.len;omega,hlow _ _⟩
 have hlm:=R1.len;have st:=m6 (b:=min e' esc) (off:=4) hV (by simpa using hl0) U2.ob (by rw[ai];simp) (by omega)
 rw[Vc] at st;have U3:=U2.setv (v:=u2.vars) (s:=u2.size) (i:=u2.I) (o:=V) U2.vl;have b2:ae H2 bo=some (.cells [.ptr uo 0,LV]):=by rw[G2.fr bo (bG R1.b) bu (λh=>by rw[hn0] at h;cases h),R1.b]
 have hm:min (aa H) uo=uo:=Nat.min_eq_right (by omega)
 have hVl:∃ lin,V=.sl 1 (l.map inV) lin:=by
  rcases hV with ⟨h0,_⟩|⟨_,id,g,h1,_⟩
  ·exact absurd (by simpa using h0) hl0
  ·exact ⟨_,h1⟩
 refine ⟨_,_,aJ (z:=z58) (m _ _ rfl) (by kernel_rfl) rfl ?_,U3,hp2,S2.nd,S2.at_,hVl,?_,?_⟩
 ·rw[hpre,hlp,ck,bk];have hsu:AV.same (.ptr uo 0) (.ptr uo 0)=true:=by simp[AV.same]
  have hgc:=λhp=>dL (keep:=CC.keep 58) (base:=aa H) (e:=uo) (v:=Abs.undef) (hp:=hp) (by omega)
  have n1:=R1.n;have b1:=R1.b;simp only[vd,z58,SIM,ST0,ST1,g0,g3,g4,g5,b1,n1,P6,hN,b2,hsu,st,hgc,Nat.reduceAdd,Nat.reduceLeDiff]
 ·rw[ay];have:=G2.len;omega
 ·intro q hq hu';rw[af hu',G2.fr q (by omega) hu' (λh=>by rw[hn0] at h;cases h),R1.fr q hq hu']
end
section
variable {M:Memo}
theorem BT (m:ga M){sp:List (List Nat×Nat)->EqR->FmS->PS->Option (FmS×PS)}{gv:List (List Nat×Nat)->FmS->EqR->PS->Option PS}{L:List NdR}(hL:L.length<=90000){nm:List Nat}{d:NdR}(hfd:dt nm L=some d)
  (hsw:∀ vm q fm p fm' p',sp vm q fm p=some (fm',p')->p.w<=p'.w) (hgw:∀ vm fm q p p',gv vm fm q p=some p'->p.w<=p'.w) (hl:(cS d).length<=90000) (hel:d.eqs.length<=90000) (hne:d.eqs≠[])
  (hsp:∀ uo bo H ns0 vm q,q∈d.eqs->q.a=true->E7 M uo bo (.sl 6 (L.map NdR.v) .dead) d vm .nils H ns0 (sp vm) q) (hgv:∀ uo bo H ns0 vm fm q,q∈d.eqs->Br M uo bo (.sl 6 (L.map NdR.v) .dead) d vm .nils H ns0 fm (gv vm fm) q)
  {l:List Nat} {p' : PS} (hp:eu sp gv d ((List.range (cI d.ins)).map BH) ((List.range (cF d.ins)).map Id) ⟨cI d.ins,[],0,[],[],0⟩=some (l,p')) (hl0:l≠[]) (hw:p'.w+20<1000000) (H:Heap) :
  ∃ H' u',orc CC M 31 [.sl 6 (L.map NdR.v) .dead,.str nm] H=some (.ret (.tuple [.ptr (aa H+2) 0,.agg [.int .i64 0,.int .i64 0]]) H' (aa H))/\UI (aa H+2) H' u'/\u'.p=p'/\u'.nd=nm/\u'.at_=d.p/\(∃ lin,u'.O=.sl 1 (l.map inV) lin)/\aa H+2<aa H'/\(∀ q,q<aa H->ae H' q=ae H q):=by
 let K:Heap:=[cz0,dq d,.cells (tC nm d.p 0 .nils),.cells [.ptr (aa H+2) 0,.sl 6 (L.map NdR.v) .dead],.cells [.ptr (aa H+3) 0],cz0]
 have hKl:aa (H++K)=aa H+6:=by rw[az];rfl
 obtain ⟨H',u',hR,U,h1,h2,h3,hOu,h4,h5⟩:=Eg (uo:=aa H+2) (bo:=aa H+3) (LV:=.sl 6 (L.map NdR.v) .dead) (nd:=nm) (at_:=d.p) (H:=H++K) m hsw hgw hl hel hne (hsp _ _) (hgv _ _) (by rw[aW];rfl) (by rw[aW];rfl) hp hl0 hw
 have h56:=Rx (fo:=aa H+5) (bc:=aa H+4) (no:=aa H+1) (H:=H++K) (LV:=.nils) m (by rw[aW];rfl) (by rw[aW];rfl) (by rw[hKl];omega) hR
 have hlo:∀ q,q<aa H->ae H' q=ae H q:=λq hq=>by
  rw[h5 q (by omega) (by omega)]
  rw[ai] at hq;rw[aB,aB,List.getElem?_append_left hq]
 have g4:ae H' (aa H+4)=some (.cells [.ptr (aa H+3) 0]):=by rw[h5 _ (by omega) (by omega),aW];rfl
 have g3:ae H' (aa H+3)=some (.cells [.ptr (aa H+2) 0,.sl 6 (L.map NdR.v) .dead]):=by rw[h5 _ (by omega) (by omega),aW];rfl
 have g5:ae H' (aa H+5)=some cz0:=by rw[h5 _ (by omega) (by omega),aW];rfl
 have g0:ae H' (aa H)=some cz0:=by rw[h5 _ (by omega) (by omega),an];rfl
 refine ⟨am H' (aa H) cz0,u',aJ (z:=z31) (m _ _ rfl) (by kernel_rfl) rfl ?_,U.to (by rw[ay];exact Nat.le_refl _) (λq hq hm=>af ?_ _),h1,h2,h3,hOu,by rw[ay];omega,λq hq=>by rw[af (by omega),hlo q hq]⟩
 ·have e0:(envOf [.sl 6 (L.map NdR.v) .dead,.str nm] 0 env0).a.a.a=.sl 6 (L.map NdR.v) .dead:=rfl;have e1:(envOf [.sl 6 (L.map NdR.v) .dead,.str nm] 0 env0).a.a.b=.str nm:=rfl;generalize envOf [.sl 6 (L.map NdR.v) .dead,.str nm] 0 env0=R at e0 e1;have hF:=q7 m hL hfd (q:=.dead) (H++[cz0]);have hl1:aa (H++[cz0])=aa H+1:=by rw[az];rfl
  rw[hl1] at hF;have hn1:=gR d;have ho1:=kO d;have hb1:=λL=>T7 nm d.p L
  have hb2:=W6 (aa H+2) L (H++[cz0,dq d,.cells (tC nm d.p 0 .nils)]).length (by rw[<-ai,az];simp only[bq,cd];omega)
  have hm0:min (aa H) (aa H+1)=aa H:=Nat.min_eq_left (by omega)
  have hm1:min (aa H) (aa H+2)=aa H:=Nat.min_eq_left (by omega)
  have hgc:=λhp=>LJ (keep:=CC.keep 31) (b:=aa H) (n:=aa H+2) (x:=0) (y:=0) (hp:=hp) (by omega)
  have hnz:decide ((0:Int)=0)=true:=rfl;have hst:∀ b,eM 1 0 (aa H+4) (.ptr (aa H+3) 0) [.ptr (aa H+3) 0] [.nilp] ⟨H++[cz0,dq d,.cells (tC nm d.p 0 .nils),.cells [.ptr (aa H+2) 0,.sl 6 (L.map NdR.v) .dead],.cells [.nilp]],b⟩=some ⟨am (H++[cz0,dq d,.cells (tC nm d.p 0 .nils),.cells [.ptr (aa H+2) 0,.sl 6 (L.map NdR.v) .dead],.cells [.nilp]]) (aa H+4) (.cells [.ptr (aa H+3) 0]),b⟩:=λb=>sj (a:=aa H+3) (r:=aa H+4) (b:=b) (cs:=[.nilp]) (by rw[az];simp only[bq,cd];omega) (by omega) (by decide)
  have hz0:=aF g0 cz0;have h56' : orc CC M 56 [AV.ptr (aa H+5) 0,AV.ptr (aa H+4) 0,AV.ptr (aa H+1) 0] (H++[cz0,dq d,.cells (tC nm d.p 0 .nils),.cells [.ptr (aa H+2) 0,.sl 6 (L.map NdR.v) .dead],.cells [.ptr (aa H+3) 0],cz0])=some (CRes.ret Abs.undef H' (aa H+2)):=h56;simp only[z31,NS,NO,Ku,Kt,N8,Ng,MP,Li,SIM,ST0,ST1,ST2,ST3,e0,e1,hF,hm0,hl1,hn1,ho1,DZS,EXS,YE,hb1,VD,hb2,hst,PA,h56',hm1,g0,hz0,g3,g4,g5,hgc,kN,kq,List.append_assoc,List.cons_append,List.nil_append,Nat.reduceAdd,Nat.reduceLeDiff]
 ·rcases hm with rfl|hm
  ·omega
  ·have:=(U.lt q hm).1;omega
def lZ (L:List NdR)(nm:List Nat):Option (List Nat×PS):=match dt nm L with
 | none=>none
 | some d=>eu (λ_=>uj) (pd (BF L 60) L) d ((List.range (cI d.ins)).map BH) ((List.range (cF d.ins)).map Id) ⟨cI d.ins,[],0,[],[],0⟩
theorem GB (m:ga M){L:List NdR}(hL:L.length<=90000)(hK:∀ d∈L,NdK d){nm:List Nat}{d:NdR}(hfd:dt nm L=some d){l:List Nat}{p' : PS}(hp:lZ L nm=some (l,p'))(hl0:l≠[])(hw:p'.w+20<1000000)(H:Heap) :
  ∃ H' u',orc CC M 31 [.sl 6 (L.map NdR.v) .dead,.str nm] H=some (.ret (.tuple [.ptr (aa H+2) 0,.agg [.int .i64 0,.int .i64 0]]) H' (aa H))/\UI (aa H+2) H' u'/\u'.p=p'/\u'.nd=nm/\u'.at_=d.p/\(∃ lin,u'.O=.sl 1 (l.map inV) lin)/\aa H+2<aa H'/\(∀ q,q<aa H->ae H' q=ae H q):=by
 unfold lZ at hp;rw[hfd] at hp;have hk:=hK d (jp hfd);exact BT (sp:=λ_=>uj) (gv:=pd (BF L 60) L) m hL hfd (λvm q fm p fm' p' h=>(GY h).1) (λvm fm q p p' h=>oU (iT L 60) h) hk.al hk.el hk.ne (λuo bo H ns0 vm q _ _=>tj m (.inl rfl) q) (λuo bo H ns0 vm fm q hq=>Hj m hL rfl hK (iT L 60) (Gm m hL rfl hK 60) hk (.inl rfl) hq) hp hl0 hw H
end
end Go.Proofs
