/- calls, what is not waited for. Part of the proof of girandolelaw08.FlatDoubles. -/
import Derived.Test.YtglacbfdbfhmfaaDoorFl2
import Derived.Test.YtglacbfdbfhmfaaDoorFl1
set_option linter.unusedVariables false
set_option linter.unusedSimpArgs false
set_option maxRecDepth 1000000
namespace Go.Proofs
open Go Go.Abs
def orI:AV→Option (Int × Int)
 | .agg [.int .i64 a,.int .i64 b]=>some (a,b)
 | _=>none
theorem RA {v:AV}{o:Int × Int}(h:orI v=some o):v=iw o:=by
 unfold orI at h
 split at h
 ·simp only[SJ] at h;subst h;rfl
 ·cases h
def qm (nm:List Nat)(fm:FmS):Option (Int × Int):=match fc nm fm with
 | some v=>orI v
 | none=>none
theorem kH {nm:List Nat}{fm:FmS}{o:Int × Int}(h:qm nm fm=some o):fc nm fm=some (iw o):=by
 unfold qm at h
 split at h
 ·rename_i v hv;rw[hv,RA h]
 ·cases h
def cL (f:Ex→PS→Option (AtF × PS))(fm:FmS):List DeR→List Ex→PS→Option (List AtF × List (Int × Int) × PS)
 | [],_,p=>some ([],[],p)
 | _ :: _,[],_=>none
 | x :: l,k :: ks,p=>cond x.f (match qm k.s fm with
   | none=>none
   | some o=>match cL f fm l ks p with
     | none=>none
     | some (xs,fs,p')=>some (xs,o :: fs,p')) (match f k p with
   | none=>none
   | some (a,p1)=>match cL f fm l ks p1 with
     | none=>none
     | some (xs,fs,p')=>some (a :: xs,fs,p'))
theorem cN {f:Ex→PS→Option (AtF × PS)}(W:PS→Nat)(hf:∀ e p a p',f e p=some (a,p')→W p≤W p'){fm:FmS}:∀ (l:List DeR) (ks:List Ex) (p:PS) (xs:List AtF) (fs:List (Int × Int)) (p' : PS),cL f fm l ks p=some (xs,fs,p')→W p≤W p'
 | [],ks,p,xs,fs,p',h=>by simp only[cL,SJ,PJ] at h;rw[h.2.2];exact Nat.le_refl _
 | _ :: _,[],p,xs,fs,p',h=>by cases h
 | x :: l,k :: ks,p,xs,fs,p',h=>by
   simp only[cL] at h;cases hx:x.f with
   | true =>
     rw[hx] at h;simp only[cond_true] at h
     split at h
     ·cases h
     ·split at h
      ·cases h
      ·rename_i xs1 fs1 p1 h1;simp only[SJ,PJ] at h;rw[← h.2.2];exact cN W hf l ks _ _ _ _ h1
   | false =>
     rw[hx] at h;simp only[cond_false] at h
     split at h
     ·cases h
     ·rename_i a p1 hk
      split at h
      ·cases h
      ·rename_i xs1 fs1 p2 h1;simp only[SJ,PJ] at h;rw[← h.2.2];exact Nat.le_trans (hf _ _ _ _ hk) (cN W hf l ks _ _ _ _ h1)
theorem eh {H K:Heap}{q:Nat}(h:q < aa H):af (H ++ K) q=af H q:=by
 rw[aj] at h;rw[aD,aD,List.getElem?_append_left h]
theorem uf {H Hc:Heap}(h1:aa H≤aa Hc)(h2:∀ q,q < aa H→af Hc q=af H q):bB (aa H) Hc=H:=by
 rw[dw];apply List.ext_getElem?;intro i;rw[List.getElem?_take]
 split
 ·rename_i hi;have:=h2 i hi;rw[aD,aD] at this;exact this
 ·rename_i hi;rw[List.getElem?_eq_none (by rw[aj] at hi;omega)]
def dedV:AV→AV
 | .sl k l (.live _ _)=>.sl k l .dead
 | v=>v
def zZ (b:Nat)(V:AV):Prop:=V=.nils∨∃ k l id g,V=.sl k l (.live id g)∧dK l=true∧b≤id
theorem oh {b:Nat}{V:AV}{hp:Heap}(h:zZ b V):AV.settle b hp V=dedV V∧AV.low b (dedV V)=true:=by
 rcases h with rfl | ⟨k,l,id,g,rfl,hl,hid⟩
 ·exact ⟨by simp[AV.settle,dedV],by simp[AV.low,dedV]⟩
 ·have h2:Lin.low b (.live id g)=false:=by simp[Lin.low];omega
  exact ⟨by simp[AV.settle,ep hl,h2,dedV],by simp[AV.low,dedV,dG hl,Lin.low]⟩
theorem zy {b:Nat}{V:AV}(h:zZ b V):∀ L,AV.low L (dedV V)=true:=by
 intro L
 rcases h with rfl | ⟨k,l,id,g,rfl,hl,hid⟩
 ·simp[AV.low,dedV]
 ·simp[AV.low,dedV,dG hl,Lin.low]
theorem Oy {base:Nat}{A F:AV}{hp:Heap}(hA:zZ base A)(hF:zZ base F):kf false base (.tuple [A,F]) ⟨hp,base⟩=.ret (.tuple [dedV A,dedV F]) (bB base hp) base:=by
 have a:=oh (hp:=hp) hA;have b:=oh (hp:=hp) hF;have h3:AV.settle base hp (.tuple [A,F])=.tuple [dedV A,dedV F]:=by simp[AV.settle,br,a.1,b.1]
 have h4:AV.low base (.tuple [dedV A,dedV F])=true:=by simp[AV.low,aM,a.2,b.2]
 rw[vC];simp only[xj,cR,if_true,h3,h4,Bool.false_eq_true,if_false,dw]
theorem vA (l:List (Int × Int)):dK (l.map iw)=true:=by
 induction l with
 | nil=>rfl
 | cons a l ih=>rw[List.map_cons,bJ,ih];rfl
section
variable {uo bo so vo fo:Nat}{LV:AV}{d:NdR}{vm fm:FmS}{base:AV}
theorem Cx.to {H H' : Heap}{u:UN}(C:Cx uo bo so vo fo LV d vm fm base H u)(hl:aa H≤aa H')(N:List Nat)(hf:∀ q,q < aa H→q ∉ N→af H' q=af H q)(hN:∀ q ∈ N,q ∉ u.ns)(h0:uo ∉ N)(h1:bo ∉ N)(h2:so ∉ N)(h3:vo ∉ N)(h4:fo ∉ N):Cx uo bo so vo fo LV d vm fm base H' u :=
 ⟨C.U.to hl (fun q hq hm=>hf q hq (fun hn=>hm.elim (fun h=>h0 (h ▸ hn)) (fun h=>hN q hn h))),by rw[hf bo (bL C.b) h1];exact C.b,by rw[hf so (bL C.s) h2];exact C.s,by rw[hf vo (bL C.v) h3];exact C.v,by rw[hf fo (bL C.f) h4];exact C.f,C.nb,C.ns,C.nv,C.nf⟩
end
structure HdI (uo bo so vo fo:Nat)(LV:AV)(d:NdR)(vm fm:FmS)(base:AV)(K0:Heap)(H:Heap)(u:UN)(Hc:Heap)(uc:UN)(ee:Nat)(A F:AV)(xs:List AtF)(fs:List (Int × Int)):Prop where
 C:Cx uo bo so vo fo LV d vm fm base Hc uc
 G:Gr uo (H ++ K0) u.ns Hc uc.ns
 S:Same u uc
 E:(ee=aa H∧uc=u)∨ee=uo
 lA:LvI uo Hc 3 A (xs.map AtF.av)
 lF:LvI uo Hc 2 F (fs.map iw)
 na:∀ q ∈ nmA A,aa H + aa K0≤q∧q ∉ uc.ns
 nf:∀ q ∈ nmA F,aa H + aa K0≤q∧q ∉ uc.ns
 dj:∀ q ∈ nmA A,q ∉ nmA F
 X:ee=aa H→∀ q,q < aa H→af Hc q=af H q
 lt:uo < aa H∧bo < aa H∧so < aa H∧vo < aa H∧fo < aa H
 un:∀ q ∈ u.ns,q < aa H
section
variable {uo bo so vo fo:Nat}{LV:AV}{d:NdR}{vm fm:FmS}{base:AV}{K0 H Hc H1:Heap}{u uc u1:UN}{ee e1:Nat}{A F:AV}{xs:List AtF}{fs:List (Int × Int)}
theorem HdI.len (h:HdI uo bo so vo fo LV d vm fm base K0 H u Hc uc ee A F xs fs):aa H + aa K0≤aa Hc:=by
 have:=h.G.len;rw[az] at this;exact this
theorem HdI.ap (h:HdI uo bo so vo fo LV d vm fm base K0 H u Hc uc ee A F xs fs)(K:Heap):HdI uo bo so vo fo LV d vm fm base K0 H u (Hc ++ K) uc ee A F xs fs:=by
 have hl:=h.len;exact ⟨h.C.ap K,h.G.trans Gr.ap,h.S,h.E,h.lA.mono (by rw[az];omega) (fun q _ hq=>eh hq),h.lF.mono (by rw[az];omega) (fun q _ hq=>eh hq),h.na,h.nf,h.dj,fun he q hq=>by rw[eh (by omega),h.X he q hq],h.lt,h.un⟩
theorem HdI.ex (h:HdI uo bo so vo fo LV d vm fm base K0 H u Hc uc ee A F xs fs)(U1:UI uo H1 u1)(G1:Gr uo Hc uc.ns H1 u1.ns)(S1:Same uc u1)(D:DE uo Hc H1 uc u1 e1):HdI uo bo so vo fo LV d vm fm base K0 H u H1 u1 (min ee e1) A F xs fs:=by
 have hl:=h.len;have hlt:=h.lt
 have hE:(min ee e1=aa H∧u1=u∧ee=aa H∧H1=Hc)∨min ee e1=uo:=by
  rcases D with ⟨a,b,c⟩ | a
  ·rcases h.E with ⟨x,y⟩ | x
   ·exact .inl ⟨by omega,by rw[c,y],x,b⟩
   ·exact .inr (by omega)
  ·rcases h.E with ⟨x,y⟩ | x
   ·exact .inr (by omega)
   ·exact .inr (by omega)
 refine ⟨h.C.step U1 G1,h.G.trans G1,h.S.trans S1,hE.imp (fun x=>⟨x.1,x.2.1⟩) id,h.lA.mono G1.len (fun q hq hlq=>G1.fr q hlq (by have:=(h.na q hq).1;omega) (h.na q hq).2),h.lF.mono G1.len (fun q hq hlq=>G1.fr q hlq (by have:=(h.nf q hq).1;omega) (h.nf q hq).2),
  fun q hq=>⟨(h.na q hq).1,fun hm=>(G1.ns q hm).elim (h.na q hq).2 (fun hg=>by have:=(h.lA.lt q hq).2;omega)⟩,fun q hq=>⟨(h.nf q hq).1,fun hm=>(G1.ns q hm).elim (h.nf q hq).2 (fun hg=>by have:=(h.lF.lt q hq).2;omega)⟩,h.dj,fun he q hq=>?_,h.lt,h.un⟩
 rcases hE with ⟨_,_,x,y⟩ | x
 ·rw[y];exact h.X x q hq
 ·omega
theorem HdI.appA (h:HdI uo bo so vo fo LV d vm fm base K0 H u Hc uc ee A F xs fs)(f:Nat)(x:AtF)(hx:xs.length≤90000) :
  ∃ A' H',(∀ e lin,aq CC f 88 A (.sl 3 [x.av] lin) ⟨Hc,e⟩=some (A',⟨H',e⟩))∧HdI uo bo so vo fo LV d vm fm base K0 H u H' uc ee A' F (xs ++ [x]) fs:=by
 have hl:=h.len;obtain ⟨l0,l1,l2,l3,l4⟩:=h.lt;obtain ⟨A',H',a1,a2,a3,a4,a5⟩:=lH sl139 f (x:=x.av) h.lA rfl (by simp[AV.low,aM]) (by rw[List.length_map];omega) h.C.U.uo
 have hge:∀ q ∈ nmA A,aa H≤q:=fun q hq=>by have:=(h.na q hq).1;omega
 have nN:∀ q,q < aa H→q ∉ nmA A:=fun q hq hm=>by have:=hge q hm;omega
 refine ⟨A',H',a1,h.C.to a3 (nmA A) a4 (fun q hq=>(h.na q hq).2) (nN _ l0) (nN _ l1) (nN _ l2) (nN _ l3) (nN _ l4),⟨Nat.le_trans h.G.len a3,fun q hq hu hn=>?_,h.G.ns⟩,h.S,h.E,by rw[List.map_append];exact a2,h.lF.mono a3 (fun q hq hlq=>a4 q hlq (fun hm=>h.dj q hm hq)),fun q hq=>?_,h.nf,fun q hq=>?_,fun he q hq=>?_,h.lt,h.un⟩
 ·rw[a4 q (by have:=h.G.len;omega) (fun hm=>by have:=(h.na q hm).1;rw[az] at hq;omega),h.G.fr q hq hu hn]
 ·rcases a5 q hq with hm | hm
  ·exact h.na q hm
  ·exact ⟨by omega,fun hn=>by have:=(h.C.U.lt q hn).2;omega⟩
 ·rcases a5 q hq with hm | hm
  ·exact h.dj q hm
  ·intro hn;have:=(h.lF.lt q hn).2;omega
 ·rw[a4 q (by omega) (nN q hq),h.X he q hq]
theorem HdI.appF (h:HdI uo bo so vo fo LV d vm fm base K0 H u Hc uc ee A F xs fs)(f:Nat)(o:Int × Int)(hx:fs.length≤90000) :
  ∃ F' H',(∀ e lin,aq CC f 89 F (.sl 2 [iw o] lin) ⟨Hc,e⟩=some (F',⟨H',e⟩))∧HdI uo bo so vo fo LV d vm fm base K0 H u H' uc ee A F' xs (fs ++ [o]):=by
 have hl:=h.len;obtain ⟨l0,l1,l2,l3,l4⟩:=h.lt;obtain ⟨F',H',a1,a2,a3,a4,a5⟩:=lH sl148 f (x:=iw o) h.lF rfl (by simp[AV.low,aM]) (by rw[List.length_map];omega) h.C.U.uo
 have hge:∀ q ∈ nmA F,aa H≤q:=fun q hq=>by have:=(h.nf q hq).1;omega
 have nN:∀ q,q < aa H→q ∉ nmA F:=fun q hq hm=>by have:=hge q hm;omega
 refine ⟨F',H',a1,h.C.to a3 (nmA F) a4 (fun q hq=>(h.nf q hq).2) (nN _ l0) (nN _ l1) (nN _ l2) (nN _ l3) (nN _ l4),⟨Nat.le_trans h.G.len a3,fun q hq hu hn=>?_,h.G.ns⟩,h.S,h.E,h.lA.mono a3 (fun q hq hlq=>a4 q hlq (fun hm=>h.dj q hq hm)),by rw[List.map_append];exact a2,h.na,fun q hq=>?_,fun q hq hm=>?_,fun he q hq=>?_,h.lt,h.un⟩
 ·rw[a4 q (by have:=h.G.len;omega) (fun hm=>by have:=(h.nf q hm).1;rw[az] at hq;omega),h.G.fr q hq hu hn]
 ·rcases a5 q hq with hm | hm
  ·exact h.nf q hm
  ·exact ⟨by omega,fun hn=>by have:=(h.C.U.lt q hn).2;omega⟩
 ·rcases a5 q hm with hn | hn
  ·exact h.dj q hq hn
  ·have:=(h.lA.lt q hq).2;omega
 ·rw[a4 q (by omega) (nN q hq),h.X he q hq]
theorem HdI.loc (h:HdI uo bo so vo fo LV d vm fm base K0 H u Hc uc ee A F xs fs){j:Nat}(hj:j < aa K0):af Hc (aa H + j)=af K0 j:=by
 have hlt:=h.lt;rw[h.G.fr _ (by rw[az];omega) (by omega) (fun hm=>by have:=h.un _ hm;omega),aR]
theorem HdI.own (h:HdI uo bo so vo fo LV d vm fm base K0 H u Hc uc ee A F xs fs):zZ (aa H) A∧zZ (aa H) F:=by
 constructor
 ·rcases h.lA with ⟨_,h1⟩ | ⟨_,id,g,h1,_⟩
  ·exact .inl h1
  ·exact .inr ⟨_,_,id,g,h1,nB xs,by have:=(h.na id (by rw[h1];simp[nmA])).1;omega⟩
 ·rcases h.lF with ⟨_,h1⟩ | ⟨_,id,g,h1,_⟩
  ·exact .inl h1
  ·exact .inr ⟨_,_,id,g,h1,vA fs,by have:=(h.nf id (by rw[h1];simp[nmA])).1;omega⟩
end
def FLw (fs:List (Int × Int))(F:AV)(L:Nat):Prop:=(fs=[]∧F=.nils)∨(fs ≠ []∧∃ lin,F=.sl 2 (fs.map iw) lin∧lin.low L=true)
theorem FLw.fl {fs:List (Int × Int)}{F:AV}{L:Nat}(h:FLw fs F L):FL fs F:=h.imp id (fun ⟨_,q,h1,_⟩=>⟨q,h1⟩)
theorem zG {uo:Nat}{H:Heap}{A:AV}{xs:List AtF}(h:LvI uo H 3 A (xs.map AtF.av)):PD xs A (aa H)∧PD xs (dedV A) (aa H):=by
 rcases h with ⟨h0,h1⟩ | ⟨h0,id,g,h1,h2,_⟩
 ·have:xs=[]:=by simpa using h0
  subst h1;exact ⟨.inl ⟨this,rfl⟩,.inl ⟨this,rfl⟩⟩
 ·subst h1;have:xs ≠ []:=by simpa using h0
  exact ⟨.inr ⟨this,_,rfl,by simp[Lin.low,bL h2]⟩,.inr ⟨this,.dead,rfl,rfl⟩⟩
theorem zq {uo:Nat}{H:Heap}{F:AV}{fs:List (Int × Int)}(h:LvI uo H 2 F (fs.map iw)):FLw fs F (aa H)∧∀ L,FLw fs (dedV F) L:=by
 rcases h with ⟨h0,h1⟩ | ⟨h0,id,g,h1,h2,_⟩
 ·have:fs=[]:=by simpa using h0
  subst h1;exact ⟨.inl ⟨this,rfl⟩,fun _=>.inl ⟨this,rfl⟩⟩
 ·subst h1;have:fs ≠ []:=by simpa using h0
  exact ⟨.inr ⟨this,_,rfl,by simp[Lin.low,bL h2]⟩,fun _=>.inr ⟨this,.dead,rfl,rfl⟩⟩
theorem vI (o:Int × Int):aP CC 89 1 [(0,iw o)]=some (.sl 2 [iw o] .lit):=by
 have:∀ (a b:Int),aP CC 89 1 [(0,.agg [.int .i64 a,.int .i64 b])]=some (.sl 2 [.agg [.int .i64 a,.int .i64 b]] .lit):=fun a b=>by kernel_rfl
 exact this _ _
section
variable {M:Memo}{uo bo so vo fo:Nat}{LV:AV}{d:NdR}{vm fm:FmS}{base:AV}
def Tz (uo bo so vo fo:Nat)(LV:AV)(d:NdR)(vm fm:FmS)(base:AV)(K0 H:Heap)(u:UN)(xs:List AtF)(fs:List (Int × Int))(p' : PS)(X:IRes):Prop :=
 ∃ r' Hc uc ee A F,X=some (.exit 0,r',[],⟨Hc,ee⟩)∧HdI uo bo so vo fo LV d vm fm base K0 H u Hc uc ee A F xs fs∧uc.p=p'∧r'.a.b.e=A∧r'.a.b.f=F
theorem sZ (m:eu M){f:Ex→PS→Option (AtF × PS)}(hf:∀ e p a p',f e p=some (a,p')→p.w≤p'.w){e:Ex}{d' : NdR}(hk:d'.ins.length≤90000)(ihk:∀ a ∈ e.kids,fD M uo bo so vo fo LV d vm fm base f a)
  {H:Heap} {u:UN} {p' : PS} (hw:p'.w + 20 < 1000000) :
  ∀ (k i:Nat),k + i=d'.ins.length→∀ (fu:Nat),k < fu→∀ (Hc:Heap) (uc:UN) (ee:Nat) (A F:AV) (xs xs' : List AtF) (fs fs' : List (Int × Int)),xs.length≤i→fs.length≤i→cL f fm (d'.ins.drop i) (e.kids.drop i) uc.p=some (xs',fs',p')→HdI uo bo so vo fo LV d vm fm base [bH e,dk d'] H u Hc uc ee A F xs fs →
  ∀ (r:RG),(r.a.a.a=.ptr bo 0∧r.a.a.b=.ptr so 0∧r.a.a.d=.nils∧r.a.a.g=.ptr (aa H) 0∧r.a.b.e=A∧r.a.b.f=F) →
  (r.a.d.d=deZ d'.ins∧r.a.d.e=.int .i64 (d'.ins.length:Int)∧r.a.d.f=.int .i64 (i:Int)) →
  Tz uo bo so vo fo LV d vm fm base [bH e,dk d'] H u (xs ++ xs') (fs ++ fs') p' (aw (fX (orc CC M)) fu r [] ⟨Hc,ee⟩):=by
 intro k
 induction k with
 | zero =>
   intro i hi fu hfu Hc uc ee A F xs xs' fs fs' hx1 hx2 hp I r ⟨h0,h1,h3,h6,h12,h13⟩ ⟨h32,h33,h34⟩;obtain ⟨fu',rfl⟩ : ∃ f,fu=f + 1:=⟨fu - 1,by omega⟩
   have:i=d'.ins.length:=by omega
   subst this;have hc:decide ((d'.ins.length:Int) < (d'.ins.length:Int))=false:=by simp
   rw[List.drop_length] at hp;simp only[cL,SJ,PJ] at hp;obtain ⟨rfl,rfl,rfl⟩:=hp;simp only[aw,fX,nu,SIM,ST0,h33,h34,hc];refine ⟨_,Hc,uc,ee,A,F,rfl,by simpa using I,rfl,by first | exact h12,by first | exact h13⟩
 | succ k ih =>
   intro i hi fu hfu Hc uc ee A F xs xs' fs fs' hx1 hx2 hp I r ⟨h0,h1,h3,h6,h12,h13⟩ ⟨h32,h33,h34⟩;obtain ⟨fu',rfl⟩ : ∃ f,fu=f + 1:=⟨fu - 1,by omega⟩
   have hlt:i < d'.ins.length:=by omega
   have hc:decide ((i:Int) < (d'.ins.length:Int))=true:=by simp;omega
   have hd:d'.ins.drop i=d'.ins[i] :: d'.ins.drop (i + 1):=List.drop_eq_getElem_cons hlt;have hg:d'.ins[i]?=some d'.ins[i]:=by simp[hlt]
   generalize d'.ins[i]=a at hg hd;have hat:=n8 hg;have ha:cQ (i:Int) 1=((i + 1:Nat):Int):=bA i 1 (by unfold natMax;omega)
   rw[hd] at hp
   have hkl:i < e.kids.length:=by
    rcases Nat.lt_or_ge i e.kids.length with h | h
    ·exact h
    ·rw[List.drop_eq_nil_of_le h] at hp;cases hp
   have hkd:e.kids.drop i=e.kids[i] :: e.kids.drop (i + 1):=List.drop_eq_getElem_cons hkl;have hkg:e.kids[i]?=some e.kids[i]:=by simp[hkl]
   have hkm:=ihk _ (List.getElem_mem hkl);generalize e.kids[i]=x at hkd hkg hkm;rw[hkd] at hp;simp only[cL] at hp;have I1:=I.ap [.cells a.l];have hdo:af (Hc ++ [AObj.cells a.l]) (aa Hc)=some (.cells a.l):=by rw[au];rfl
   have hlz:aa (Hc ++ [AObj.cells a.l])=aa Hc + 1:=by rw[az];rfl
   have hkias:=iz e i x hkg;have hge:af (Hc ++ [AObj.cells a.l]) (aa H)=some (bH e):=by have:=I1.loc (j:=0) (by rw[aO,aO,bj];omega);rw[Nat.add_zero] at this;rw[this];rfl
   have hs:=I1.C.s;cases haf:a.f with
   | true =>
     have hcn:∀ x y:IRes,eX (.bool a.f) x y=x:=fun x y=>by rw[haf];rfl
     rw[haf] at hp;simp only[cond_true] at hp
     split at hp
     ·cases hp
     ·rename_i o ho
      split at hp
      ·cases hp
      ·rename_i xs1 fs1 p1 hp1;simp only[SJ,PJ] at hp;obtain ⟨rfl,rfl,rfl⟩:=hp;obtain ⟨F',H',hap,I2⟩:=I1.appF 61 o (by omega)
       have key:=ih (i + 1) (by omega) fu' (by omega) H' uc ee A F' xs xs1 (fs ++ [o]) fs1 (by omega) (by simp;omega) hp1 I2
       rw[List.append_assoc] at key;have hlk:=kW (kH ho) I1.C.f;have h148:=vI o;have hfa3:∀ a b c d e f:AV,aE 3 (.iptr [a,b,c,d,e,f])=some (.iptr [d,e,f]):=fun _ _ _ _ _ _=>rfl
       have hld3:∀ (a b c:AV) (h:Heap),ax none (.iptr [a,b,c]) h=some a:=fun _ _ _ _=>rfl
       have hap' : ∀ e lin,aq CC 61 89 F (.sl 2 [.agg [.int .i64 o.1,.int .i64 o.2]] lin) ⟨Hc ++ [.cells a.l],e⟩=some (F',⟨H',e⟩):=hap;simp only[aw,fX,nu,pR,qy,FB,lm,SIM,ST0,ST1,h0,h1,h3,h6,h12,h13,h32,h33,h34,hc,hat,ha,hcn,hdo,hs,sx,hge,hkias,hfa3,hld3,hlk,h148,hap,hap',orVal,EXS,DZS,Nat.reduceAdd,Nat.reduceLeDiff];exact key _ ⟨by first | rfl | exact h0,by first | rfl | exact h1,by first | rfl | exact h3,by first | rfl | exact h6,by first | rfl | exact h12,rfl⟩ ⟨by first | rfl | exact h32,by first | rfl | exact h33,rfl⟩
   | false =>
     have hcn:∀ x y:IRes,eX (.bool a.f) x y=y:=fun x y=>by rw[haf];rfl
     rw[haf] at hp;simp only[cond_false] at hp
     split at hp
     ·cases hp
     ·rename_i b p1 hxe
      split at hp
      ·cases hp
      ·rename_i xs1 fs1 p2 hp1;simp only[SJ,PJ] at hp;obtain ⟨rfl,rfl,rfl⟩:=hp;have hw1:=cN PS.w hf _ _ _ _ _ _ hp1;obtain ⟨H1,u1,e1,hR,U1,G1,hp2,S1,hD⟩:=hkm (Hc ++ [.cells a.l]) uc b p1 hxe I1.C (by omega)
       have I2:=I1.ex U1 G1 S1 hD;obtain ⟨A',H',hap,I3⟩:=I2.appA 61 b (by omega)
       have key:=ih (i + 1) (by omega) fu' (by omega) H' u1 (min ee e1) A' F (xs ++ [b]) xs1 fs fs1 (by simp;omega) (by omega) (by rw[hp2];exact hp1) I3
       rw[List.append_assoc] at key;have h139:=j5 b;simp only[aw,fX,nu,pR,qy,xD,lm,SIM,ST0,ST1,h0,h1,h3,h6,h12,h13,h32,h33,h34,hc,hat,ha,hcn,hdo,hs,sx,hge,hkias,hR,h139,hap,orVal,EXS,DZS,Nat.reduceAdd,Nat.reduceLeDiff];exact key _ ⟨by first | rfl | exact h0,by first | rfl | exact h1,by first | rfl | exact h3,by first | rfl | exact h6,rfl,by first | rfl | exact h13⟩ ⟨by first | rfl | exact h32,by first | rfl | exact h33,rfl⟩
theorem keep148:CC.keep 61=false:=by kernel_rfl
theorem lC (m:eu M){f:Ex→PS→Option (AtF × PS)}(hf:∀ e p a p',f e p=some (a,p')→p.w≤p'.w){L:List NdR}(hL:L.length≤90000)(hLV:LV=.sl 6 (L.map NdR.v) .dead){e:Ex}{d' : NdR}(hfd:cD e.s L=some d')(hk:d'.ins.length≤90000)(ihk:∀ a ∈ e.kids,fD M uo bo so vo fo LV d vm fm base f a)
  {H:Heap} {u:UN} {xs:List AtF} {fs:List (Int × Int)} {p' : PS} (hp:cL f fm d'.ins e.kids u.p=some (xs,fs,p')) (C:Cx uo bo so vo fo LV d vm fm base H u) (hw:p'.w + 20 < 1000000) :
  ∃ H' u' esc A F,orc CC M 61 [.ptr bo 0,.ptr so 0,e.v,.nils] H=some (.ret (.tuple [A,F]) H' esc)∧PD xs A (aa H')∧FLw fs F (aa H')∧UI uo H' u'∧Gr uo H u.ns H' u'.ns∧u'.p=p'∧Same u u'∧DE uo H H' u u' esc∧(esc=uo∨∀ L,AV.low L A=true∧AV.low L F=true):=by
 have I0:HdI uo bo so vo fo LV d vm fm base [bH e,dk d'] H u (H ++ [bH e,dk d']) u (aa H) .nils .nils [] [] :=
  ⟨C.ap _,Gr.refl,Same.refl,.inl ⟨rfl,rfl⟩,.inl ⟨rfl,rfl⟩,.inl ⟨rfl,rfl⟩,fun _ h=>(by cases h),fun _ h=>(by cases h),fun _ h=>(by cases h),fun _ q hq=>eh hq,⟨C.U.uo,bL C.b,bL C.s,bL C.v,bL C.f⟩,fun q hq=>(C.U.lt q hq).2⟩
 have e0:(envOf [.ptr bo 0,.ptr so 0,e.v,.nils] 0 env0).a.a.a=.ptr bo 0:=rfl;have e1:(envOf [.ptr bo 0,.ptr so 0,e.v,.nils] 0 env0).a.a.b=.ptr so 0:=rfl;have e2:(envOf [.ptr bo 0,.ptr so 0,e.v,.nils] 0 env0).a.a.c=e.v:=rfl;have e3:(envOf [.ptr bo 0,.ptr so 0,e.v,.nils] 0 env0).a.a.d=.nils:=rfl
 obtain ⟨r0,hr0,hr1,hpre⟩ : ∃ r,(r.a.a.a=.ptr bo 0∧r.a.a.b=.ptr so 0∧r.a.a.d=.nils∧r.a.a.g=.ptr (aa H) 0∧r.a.b.e=.nils∧r.a.b.f=.nils)∧(r.a.d.d=deZ d'.ins∧r.a.d.e=.int .i64 (d'.ins.length:Int)∧r.a.d.f=.int .i64 ((0:Nat):Int)) ∧
   z61.sh (orc CC M) (envOf [.ptr bo 0,.ptr so 0,e.v,.nils] 0 env0) [] ⟨H,aa H⟩=dZ (ac (m7 (orc CC M)) retZ) (dD 0 (aw (fX (orc CC M)) 100000 r [] ⟨H ++ [bH e,dk d'],aa H⟩)):=by
  generalize envOf [.ptr bo 0,.ptr so 0,e.v,.nils] 0 env0=R at e0 e1 e2 e3;have hbx:=fx e;have hb:=ar C.b [bH e,.gone];have hfn:=jB m hL hfd (q:=.dead) (H ++ [bH e,.gone]);have hln:=gU d'.ins;have hn1:=gu d';have ho1:=ik d';have hge:af (H ++ [bH e,.gone]) (aa H)=some (bH e):=by rw[au];rfl
  have hm0:min (aa H) (aa H + 2)=aa H:=Nat.min_eq_left (by omega)
  have hl2:aa (H ++ [bH e,.gone])=aa H + 2:=by rw[az];rfl
  rw[hLV] at hb;have hset:∀ x c:AObj,ai (H ++ [bH e,x]) (aa H + 1) c=H ++ [bH e,c]:=fun x c=>eN H [bH e,x] 1 c
  have hgl:∀ x:AObj,af (H ++ [bH e,x]) (aa H + 1)=some x:=fun x=>by rw[aR];rfl
  simp only[z61,B9,Bm,Ek,D4,Dk,SIM,ST0,ST1,e0,e1,e2,e3,hbx,hb,hfn,hge,hm0,hl2,hln,hn1,ho1,hset,hgl,eT,List.append_assoc,List.cons_append,List.nil_append,DZS,EXS,Nat.reduceAdd,Nat.reduceLeDiff];exact ⟨_,⟨by first | rfl | exact e0,by first | rfl | exact e1,by first | rfl | exact e3,rfl,rfl,rfl⟩,⟨rfl,rfl,rfl⟩,rfl⟩
 obtain ⟨r',Hc,uc,ee,A,F,hX,I,hpc,g12,g13⟩:=sZ m hf (e:=e) (d':=d') hk ihk (H:=H) (u:=u) hw d'.ins.length 0 rfl 100000 (by omega) _ u (aa H) .nils .nils [] xs [] fs (by simp) (by simp) (by rw[List.drop_zero,List.drop_zero];exact hp) I0 r0 hr0 hr1
 rw[List.nil_append,List.nil_append] at I
 obtain ⟨r2,h8,h9,hX2⟩ : ∃ r2,r2.a.b.a=A∧r2.a.b.b=F∧dZ (ac (m7 (orc CC M)) retZ) (dD 0 (some (.exit 0,r',[],⟨Hc,ee⟩)))=some (.ret,r2,[],⟨Hc,ee⟩):=by
  simp only[m7,SIM,ST0,g12,g13];exact ⟨_,rfl,rfl,rfl⟩
 have hfin:orc CC M 61 [.ptr bo 0,.ptr so 0,e.v,.nils] H=some (kf false (aa H) (.tuple [A,F]) ⟨Hc,ee⟩):=by
  refine aH (z:=z61) (m _ _ rfl) (by kernel_rfl) rfl ?_
  rw[hpre,hX,hX2]
  have hres:fy r2 Hc z61.res=some [A,F]:=by
   show fy r2 _ [.t 8,.t 9]=_;rw[iE,iE,iT,show gt r2 8=A from h8,show gt r2 9=F from h9]
  rw[iM,hres,← keep148];rfl
 have huo:=C.U.uo;have hl:=I.len;have hext:Gr uo H u.ns Hc uc.ns:=Gr.ap.trans I.G
 rcases I.E with ⟨rfl,rfl⟩ | rfl
 ·have ht:bB (aa H) Hc=H:=uf (by omega) (fun q hq=>I.X rfl q hq)
  refine ⟨H,uc,aa H,dedV A,dedV F,?_,?_,(zq I.lF).2 _,C.U,Gr.refl,hpc,Same.refl,.inl ⟨rfl,rfl,rfl⟩,.inr fun L=>⟨zy I.own.1 L,zy I.own.2 L⟩⟩
  ·rw[hfin,Oy I.own.1 I.own.2,ht]
  ·rcases (zG I.lA).2 with h | ⟨h0,lin,h1,_⟩
   ·exact .inl h
   ·rcases I.own.1 with h2 | ⟨k,l,id,g,h2,_⟩
    ·rw[h2] at h1;cases h1
    ·rw[h2] at h1 ⊢;simp only[dedV,AV.sl.injEq] at h1;exact .inr ⟨h0,.dead,by simp only[dedV];rw[h1.1,h1.2.1],rfl⟩
 ·refine ⟨Hc,uc,ee,A,F,?_,(zG I.lA).1,(zq I.lF).1,I.C.U,hext,hpc,I.S,.inr rfl,.inl rfl⟩;rw[hfin,dU (by omega)]
end
theorem EA {xs:List AtF}{A:AV}{L L' : Nat}(h:PD xs A L)(hl:L≤L'):AL xs A L':=by
 rcases h with h | ⟨_,lin,h1,h2⟩
 ·exact .inl h
 ·exact .inr ⟨lin,h1,Lin.low_mono hl _ h2⟩
section
variable {M:Memo}{uo bo so vo fo:Nat}{LV:AV}{d:NdR}{vm fm:FmS}{base:AV}
def OD (M:Memo)(uo bo:Nat)(LV:AV)(nd:NdR→List AtF→List (Int × Int)→PS→Option (List Nat × PS))(d' : NdR):Prop:=∀ (H:Heap) (u:UN) (xs:List AtF) (fs:List (Int × Int)) (A F:AV) (l:List Nat) (p' : PS),
 UI uo H u→af H bo=some (.cells [.ptr uo 0,LV])→bo ∉ u.ns→AL xs A (aa H)→FL fs F→nd d' xs fs u.p=some (l,p')→p'.w + 20 < 1000000 →
 ∃ H' u' V,orc CC M 36 [.ptr bo 0,d'.v,A,F,gv0] H=some (.ret V H' uo)∧G9 (aa H) u'.ns H' V l∧UI uo H' u'∧Gr uo H u.ns H' u'.ns∧u'.p=p'∧Same u u'
theorem m5 (m:eu M){f:Ex→PS→Option (AtF × PS)}(hf:∀ e p a p',f e p=some (a,p')→p.w≤p'.w){L:List NdR}(hL:L.length≤90000)(hLV:LV=.sl 6 (L.map NdR.v) .dead){e:Ex}{d' : NdR}(hfd:cD e.s L=some d')(hk:d'.ins.length≤90000)(ihk:∀ a ∈ e.kids,fD M uo bo so vo fo LV d vm fm base f a)(hb:iy base)
  {nd:NdR→List AtF→List (Int × Int)→PS→Option (List Nat × PS)} (hN:OD M uo bo LV nd d')
  {H:Heap} {u:UN} {xs:List AtF} {fs:List (Int × Int)} {p1:PS} (hp:cL f fm d'.ins e.kids u.p=some (xs,fs,p1)) {l:List Nat} {p' : PS} (hn:nd d' xs fs p1=some (l,p')) (hwm:p1.w≤p'.w) (C:Cx uo bo so vo fo LV d vm fm base H u) (hw:p'.w + 20 < 1000000) :
  ∃ H' u' V,orc CC M 63 [.ptr bo 0,.ptr so 0,e.v,.nils] H=some (.ret V H' uo)∧G9 (aa H) u'.ns H' V l∧UI uo H' u'∧Gr uo H u.ns H' u'.ns∧u'.p=p'∧Same u u':=by
 have C0:=C.ap [bH e];obtain ⟨H1,u1,e1,A,F,hA,hAt,hFl,U1,G1,hp1,S1,hD,_⟩:=lC m hf hL hLV hfd hk ihk hp C0 (by omega)
 have C1:=C0.step U1 G1;have C2:=C1.ap [dk d'];have hl0:aa (H ++ [bH e])=aa H + 1:=by rw[az];rfl
 have hl1:aa (H1 ++ [dk d'])=aa H1 + 1:=by rw[az];rfl
 obtain ⟨H3,u3,V,hN,hO,U3,G3,hp3,S3⟩:=hN _ _ _ _ _ _ _ _ C2.U C2.b C2.nb (EA hAt (by omega)) hFl.fl (by rw[hp1];exact hn) hw
 have huo:=C.U.uo;have hg1:=G1.len;rw[hl0] at hg1
 have hO' : G9 (aa H) u3.ns H3 V l:=by
  rcases hO with h | ⟨h0,id,g,h1,h2,h3,h4⟩
  ·exact .inl h
  ·exact .inr ⟨h0,id,g,h1,h2,by omega,h4⟩
 refine ⟨H3,u3,V,aH (z:=z63) (m _ _ rfl) (by kernel_rfl) rfl ?_,hO',U3,((Gr.ap.trans G1).trans Gr.ap).trans G3,hp3,S1.trans S3⟩
 have e0:(envOf [.ptr bo 0,.ptr so 0,e.v,.nils] 0 env0).a.a.a=.ptr bo 0:=rfl;have e1' : (envOf [.ptr bo 0,.ptr so 0,e.v,.nils] 0 env0).a.a.b=.ptr so 0:=rfl;have e2:(envOf [.ptr bo 0,.ptr so 0,e.v,.nils] 0 env0).a.a.c=e.v:=rfl;have e3:(envOf [.ptr bo 0,.ptr so 0,e.v,.nils] 0 env0).a.a.d=.nils:=rfl;generalize envOf [.ptr bo 0,.ptr so 0,e.v,.nils] 0 env0=R at e0 e1' e2 e3;have hbx:=fx e;have hge:af (H ++ [bH e]) (aa H)=some (bH e):=by rw[au];rfl
 have hge1:af H1 (aa H)=some (bH e):=by rw[G1.fr (aa H) (by omega) (by omega) (fun hm=>by have:=(C.U.lt _ hm).2;omega),hge]
 have hge2:=ar hge1 [.gone];have hb1:=ar C1.b [.gone];rw[hLV] at hb1;have hfn:=jB m hL hfd (q:=.dead) (H1 ++ [.gone]);have hl2:aa (H1 ++ [AObj.gone])=aa H1 + 1:=by rw[az];rfl
 rw[hl2] at hfn;have hset:∀ x c:AObj,ai (H1 ++ [x]) (aa H1) c=H1 ++ [c]:=fun x c=>dp H1 [x] c
 have hgl:∀ x:AObj,af (H1 ++ [x]) (aa H1)=some x:=fun x=>by rw[au];rfl
 have hn1:=gu d';have ho1:=ik d';have hgd:=dW m hb C2.s;rw[hl1] at hgd;have hnd:af (H1 ++ [dk d']) (aa H1)=some (dk d'):=by rw[au];rfl
 have hsd:=nY d'
 have hm1:min (aa H) e1=aa H∨min (aa H) e1=uo:=by
  rcases hD with ⟨h,_,_⟩ | h
  ·left;omega
  ·right;omega
 have hm2:min (min (aa H) e1) (aa H1 + 1)=min (aa H) e1:=by rcases hm1 with h | h <;> omega
 have hm3:min (min (aa H) e1) uo=uo:=by rcases hm1 with h | h <;> omega
 have hgc:=fun hp=>dU (keep:=CC.keep 63) (base:=aa H) (e:=uo) (v:=V) (hp:=hp) (by omega)
 simp only[z63,zr,xG,CE,Gu,SIM,ST0,ST1,e0,e1',e2,e3,hbx,hge,hA,hge2,hb1,hfn,hl2,hm2,hm3,hn1,ho1,hgd,hnd,hset,hgl,hsd,hN,hgc,eT,DZS,EXS,P6,Nat.reduceAdd,Nat.reduceLeDiff]
theorem Ay (m:eu M){e:Ex}(hk:e.k=13){H:Heap}{u u' : UN}{H1:Heap}{V:AV}{v:Nat}{l:List Nat}(C:Cx uo bo so vo fo LV d vm fm base H u)
  (hA:orc CC M 63 [.ptr bo 0,.ptr so 0,e.v,.nils] (H ++ [bH e,zA])=some (.ret V H1 uo)) {b:Nat} {ns:List Nat} (hV:G9 b ns H1 V (v :: l)) (U1:UI uo H1 u') (G1:Gr uo (H ++ [bH e,zA]) u.ns H1 u'.ns) :
  ∃ H',orc CC M 74 [.ptr bo 0,.ptr so 0,e.v,.nils] H=some (.ret (AtF.av ⟨false,0,v⟩) H' uo)∧UI uo H' u'∧Gr uo H u.ns H' u'.ns:=by
 have l1:=G1.loc C.U (j:=1) (by rw[aO,aO,bj];omega)
 have l1' : af H1 (aa H + 1)=some zA:=by rw[l1.1];rfl
 have m0:af (H ++ [bH e,zA]) (aa H)=some (bH e):=by rw[au];rfl
 have huo:=C.U.uo;refine ⟨ai H1 (aa H + 1) (.cells [.bool false,.int .i64 0,.int .i64 (v:Int)]),?_,U1.to (by rw[ak];exact Nat.le_refl _) (fun q hq hn=>ae (by rintro rfl;rcases hn with h | h;(omega);exact l1.2.1 h) _),(Gr.ap.trans G1).put2 (by omega)⟩
 refine aH (z:=z74) (m _ _ rfl) (by kernel_rfl) rfl ?_
 have e0:(envOf [.ptr bo 0,.ptr so 0,e.v,.nils] 0 env0).a.a.a=.ptr bo 0:=rfl;have e1:(envOf [.ptr bo 0,.ptr so 0,e.v,.nils] 0 env0).a.a.b=.ptr so 0:=rfl;have e2:(envOf [.ptr bo 0,.ptr so 0,e.v,.nils] 0 env0).a.a.c=e.v:=rfl;have e3:(envOf [.ptr bo 0,.ptr so 0,e.v,.nils] 0 env0).a.a.d=.nils:=rfl;generalize envOf [.ptr bo 0,.ptr so 0,e.v,.nils] 0 env0=R at e0 e1 e2 e3;have hbx:=fx e;have cc:∀ j:Nat,j ≠ e.k→decide ((e.k:Int)=(j:Int))=false:=fun j hj=>by simp;omega
 have c1:decide ((e.k:Int)=1)=false:=cc 1 (by omega)
 have c2:decide ((e.k:Int)=2)=false:=cc 2 (by omega)
 have c3:decide ((e.k:Int)=3)=false:=cc 3 (by omega)
 have c4:decide ((e.k:Int)=4)=false:=cc 4 (by omega)
 have c5:decide ((e.k:Int)=5)=false:=cc 5 (by omega)
 have c6:decide ((e.k:Int)=6)=false:=cc 6 (by omega)
 have c7:decide ((e.k:Int)=7)=false:=cc 7 (by omega)
 have c11:decide ((e.k:Int)=11)=false:=cc 11 (by omega)
 have c12:decide ((e.k:Int)=12)=false:=cc 12 (by omega)
 have c14:decide ((e.k:Int)=14)=false:=cc 14 (by omega)
 have c13:decide ((e.k:Int)=13)=true:=by rw[hk];rfl
 have hm2:min (aa H) uo=uo:=Nat.min_eq_right (by omega)
 have hzs:=fun c=>aK l1' c
 have hgc:=fun hp=>dU (keep:=CC.keep 74) (base:=aa H) (e:=uo) (v:=AtF.av ⟨false,0,v⟩) (hp:=hp) (by omega)
 have hiv:bw 1 V (.int .i64 0)=some (.iptr [.int .i64 (v:Int)]):=by
  rcases hV with ⟨h,_⟩ | ⟨_,id,g,rfl,_⟩
  ·cases h
  ·exact da (v:=inV v) rfl
 have hld:∀ (a:AV) (h:Heap),ax none (.iptr [a]) h=some a:=fun _ _=>rfl
 simp only[z74,fF,fI,fH,fG,gm,gL,iG,ig,jX,oP,oG,nw,rC,wU,SIM,ST0,ST1,ST2,ST3,ST4,e0,e1,e2,e3,hbx,m0,hA,hiv,hld,vU,hm2,l1',hzs,hgc,c1,c2,c3,c4,c5,c6,c7,c11,c12,c13,c14,EXS,Nat.reduceAdd,Nat.reduceLeDiff]
end
theorem sl85:sf 64 5:=jA (by kernel_rfl) (by decide) (fun f=>Av f 64 rfl)
theorem se32:∃ e i z,bK CC 163=some e∧CC.P.info? e=some i∧cn CC e=some z∧i.size=1∧(0 < i.bytes∧i.bytes≤65536)∧z.cells.length=1:=by
 have h:J5 163=some (1,true,1):=by kernel_rfl
 unfold J5 at h
 split at h
 ·rename_i e he
  split at h
  ·rename_i i z hi hz;simp only[SJ,PJ,decide_eq_true_eq] at h;exact ⟨e,i,z,he,hi,hz,h.1,h.2.1,h.2.2⟩
  ·cases h
 ·cases h
abbrev zJ (n:Int):AV:=.int .i64 n
theorem rY (L:Nat):∀ l:List Int,aM L (l.map zJ)=true
 | []=>rfl
 | a :: l=>by simp only[List.map_cons,aM,rY L l,Bool.and_true];rfl
theorem Re (n:Int):aP CC 163 1 [(0,zJ n)]=some (.sl 1 [zJ n] .lit):=by kernel_rfl
theorem Dr {f:Nat}(hf:CC.mutT f 163=false){uo:Nat}{H:Heap}{V:AV}{xs:List Int}(h:LvI uo H 1 V (xs.map zJ))(n:Int)(hl:xs.length + 1≤2 ^ 24)(hu:uo < aa H) :
  ∃ V' H',(∀ e lin,aq CC f 163 V (.sl 1 [zJ n] lin) ⟨H,e⟩=some (V',⟨H',e⟩))∧LvI uo H' 1 V' ((xs ++ [n]).map zJ)∧aa H≤aa H'∧(∀ q,q < aa H→q ∉ nmA V→af H' q=af H q)∧(∀ q ∈ nmA V',q ∈ nmA V∨aa H≤q):=by
 obtain ⟨el,i,z,h1,h2,h3,h4,h6,h7⟩:=se32;have hok:[zJ n].all (bg 1)=true:=rfl
 have hne:¬ (i.size=0∨i.bytes=0∨z.cells.length ≠ i.size∨[zJ n].all (bg i.size)=false∨2 ^ 16 < i.bytes):=by
  rw[h4,hok,h7];simp;omega
 rcases h with ⟨h0,rfl⟩ | ⟨h0,id,g,rfl,hg,hu',hw'⟩
 ·have hx0:xs=[]:=by simpa using h0
  subst hx0;refine ⟨.sl 1 [zJ n] (.live (aa H) 0),H ++ [.lin 0],fun e lin=>?_,.inr ⟨by simp,aa H,0,rfl,by rw[au];rfl,hu,rY _ _⟩,by rw[az];omega,fun q hq _=>?_,fun q hq=>?_⟩
  ·simp only[aq,h1,h2,h3,aY,h4,if_true];rw[h4] at hne;rw[if_neg hne];simp[hf,aj]
  ·rw[aj] at hq;rw[aD,aD,List.getElem?_append_left hq]
  ·simp only[nmA,List.mem_singleton] at hq;exact .inr (by omega)
 ·refine ⟨.sl 1 ((xs ++ [n]).map zJ) (.live id (g + 1)),ai H id (.lin (g + 1)),fun e lin=>?_,.inr ⟨by simp,id,g + 1,rfl,aK hg _,hu',rY _ _⟩,by rw[ak];exact Nat.le_refl _,fun q hq hn=>?_,fun q hq=>.inl hq⟩
  ·rw[aD] at hg;simp only[aq,h1,h2,h3,aY,h4,if_true];rw[h4] at hne;rw[if_neg hne];simp[hf,hl,hg,aN]
  rw[ae (by simp only[nmA,List.mem_singleton] at hn;exact hn)]
theorem Nw (w:WtF):[w.av].all (bg 5)=true:=by
 cases h:w.ah.map (fun n=>AV.int .i64 n) with
 | nil=>simp[bg,AV.cells,AV.one,lV,h]
 | cons a l=>simp[bg,AV.cells,AV.one,lV,h]
theorem OO {w:WtF}{L:Nat}(h:w.lin.low L=true):w.av.low L=true:=by
 have h2:=rY L w.ah;cases h3:w.ah.map (fun n=>AV.int .i64 n) with
 | nil=>simp[AV.low,aM,lV,h3]
 | cons a l =>
   have h4:aM L (a :: l)=true:=by rw[← h3];exact h2
   simp[AV.low,aM,lV,h3] at h4 ⊢;exact ⟨h4,h⟩
theorem UI.addW {uo:Nat}{H:Heap}{u:UN}(h:UI uo H u)(f:Nat)(q:WtF)(hq:q.lin.low (aa H)=true)(hv:u.vars + u.eqs.length + u.ms.length + u.ws.length + u.sp.length + u.size + 1 < 1000000) :
  ∃ V' H2,(∀ e lin,aq CC f 64 u.W (.sl 5 [q.av] lin) ⟨H,e⟩=some (V',⟨H2,e⟩))∧af H2 uo=some (.cells u.c)∧aa H≤aa H2∧(∀ r,r < aa H→r ∉ nmA u.W→af H2 r=af H r) ∧
    (∀ b,uo≤b→ay 1 (.ptr uo 7) V' ⟨H2,b⟩=some ⟨ai H2 uo (.cells ({ u with ws:=u.ws ++ [q],W:=V' }:UN).c),uo⟩) ∧
    UI uo (ai H2 uo (.cells ({ u with ws:=u.ws ++ [q],W:=V' }:UN).c)) { u with ws:=u.ws ++ [q],W:=V' }∧Gr uo H u.ns (ai H2 uo (.cells ({ u with ws:=u.ws ++ [q],W:=V' }:UN).c)) ({ u with ws:=u.ws ++ [q],W:=V' }:UN).ns:=by
 obtain ⟨V',H2,a1,a2,a3,a4,a5⟩:=lH sl85 f h.w (Nw q) (OO hq) (by rw[List.length_map];omega) h.uo
 have hu2:af H2 uo=some (.cells u.c):=by rw[a4 uo h.uo (fun hm=>by have:=(h.w.lt _ hm).1;omega),h.ob]
 have hE' : ({ u with ws:=u.ws ++ [q],W:=V' }:UN).ws.map WtF.av=u.ws.map WtF.av ++ [q.av]:=by simp
 have st:=fun b hb=>rH (b:=b) (off:=7) a2 (by simp) hu2 (by rw[aj];simp) hb
 have hl:aa H≤aa (ai H2 uo (.cells ({ u with ws:=u.ws ++ [q],W:=V' }:UN).c)):=by rw[ak];exact a3
 have hf:∀ r,r < aa H→uo < r→r ∉ nmA u.W→af (ai H2 uo (.cells ({ u with ws:=u.ws ++ [q],W:=V' }:UN).c)) r=af H r:=fun r hr hu hn=>by rw[ae (by omega),a4 r hr hn]
 have dje:∀ r ∈ nmA u.E,r ∉ nmA u.W:=fun r hr=>(h.dj.1 r hr).2.1
 have djm:∀ r ∈ nmA u.Ms,r ∉ nmA u.W:=fun r hr=>(h.dj.2.1 r hr).1
 have djs:∀ r ∈ nmA u.S,r ∉ nmA u.W:=fun r hr hn=>(h.dj.2.2 r hn) hr
 refine ⟨V',H2,a1,hu2,a3,a4,fun b hb=>st b hb,⟨aK hu2 _,h.e.mono hl (fun r hr hlt=>hf r hlt (h.e.lt r hr).1 (dje r hr)),h.el,h.m.mono hl (fun r hr hlt=>hf r hlt (h.m.lt r hr).1 (djm r hr)),?_,h.s.mono hl (fun r hr hlt=>hf r hlt (h.s.lt r hr).1 (djs r hr)),⟨fun r hr=>⟨(h.dj.1 r hr).1,fun hn=>?_,(h.dj.1 r hr).2.2⟩,fun r hr=>⟨fun hn=>?_,(h.dj.2.1 r hr).2⟩,fun r hr hn=>?_⟩,?_⟩,⟨hl,fun r hr hne hn=>?_,fun r hr=>?_⟩⟩
 ·rw[hE'];exact a2.mono (by rw[ak];exact Nat.le_refl _) (fun r hr _=>ae (by have:=(a2.lt r hr).1;omega) _)
 ·rcases a5 r hn with h1 | h1
  ·exact dje r hr h1
  ·have:=(h.e.lt r hr).2;omega
 ·rcases a5 r hn with h1 | h1
  ·exact djm r hr h1
  ·have:=(h.m.lt r hr).2;omega
 ·rcases a5 r hr with h1 | h1
  ·exact h.dj.2.2 r h1 hn
  ·have:=(h.s.lt r hn).2;omega
 ·simp only[List.length_append,List.length_singleton];omega
 ·rw[ae hne,a4 r hr (fun hm=>hn (bM.2 (.inr (.inr (.inl hm)))))]
 ·rcases bM.1 hr with h1 | h1 | h1 | h1
  ·exact .inl (bM.2 (.inl h1))
  ·exact .inl (bM.2 (.inr (.inl h1)))
  ·exact (a5 r h1).imp (fun h2=>bM.2 (.inr (.inr (.inl h2)))) id
  ·exact .inl (bM.2 (.inr (.inr (.inr h1))))
theorem UI.addS {uo b:Nat}{H:Heap}{u:UN}(h:UI uo H u)(f:Nat)(q:SpF)(hb:af H b=some (.cells q.cs))(ho:q.cs.all AV.one=true)(hw:aM (aa H) q.cs=true)(hbn:b ∉ nmA u.S)(hs:u.sp.length≤100000)(hv:u.vars + u.eqs.length + u.ms.length + u.ws.length + u.sp.length + u.size + 1 < 1000000) :
  ∃ n H2,(∀ e,aq CC f 65 u.S (.rsl b 0 1 1 4) ⟨H,e⟩=some (.rsl (aa H) 0 n n 4,⟨H2,e⟩))∧af H2 uo=some (.cells u.c)∧aa H2=aa H + 1∧(∀ r,r < aa H→r ∉ nmA u.S→af H2 r=af H r) ∧
    (∀ b,uo≤b→ay 1 (.ptr uo 8) (.rsl (aa H) 0 n n 4) ⟨H2,b⟩=some ⟨ai H2 uo (.cells ({ u with sp:=u.sp ++ [q],S:=.rsl (aa H) 0 n n 4 }:UN).c),uo⟩) ∧
    UI uo (ai H2 uo (.cells ({ u with sp:=u.sp ++ [q],S:=.rsl (aa H) 0 n n 4 }:UN).c)) { u with sp:=u.sp ++ [q],S:=.rsl (aa H) 0 n n 4 } ∧
    Gr uo H u.ns (ai H2 uo (.cells ({ u with sp:=u.sp ++ [q],S:=.rsl (aa H) 0 n n 4 }:UN).c)) ({ u with sp:=u.sp ++ [q],S:=.rsl (aa H) 0 n n 4 }:UN).ns:=by
 have hcl:∀ l:List SpF,(l.flatMap SpF.cs).length=4 * l.length:=fun l=>by
  induction l with
  | nil=>rfl
  | cons a l ih=>simp only[List.flatMap_cons,List.length_append,ih,List.length_cons];simp;omega
 obtain ⟨V',H2,a1,a2,⟨n,rfl,hn⟩,a3,a4,a5⟩:=Gk rs86 f h.s hb rfl ho hw (by rw[hcl];omega) h.uo hbn
 have hu2:af H2 uo=some (.cells u.c):=by rw[a4 uo h.uo (fun hm=>by have:=(h.s.lt _ hm).1;omega),h.ob]
 have st:=fun b hb=>Fh (k:=4) (r:=aa H) (n:=n) (b:=b) (off:=8) (H:=H2) (by omega) h.uo hu2 (by rw[aj];simp) hb
 have hl:aa H≤aa (ai H2 uo (.cells ({ u with sp:=u.sp ++ [q],S:=.rsl (aa H) 0 n n 4 }:UN).c)):=by rw[ak];omega
 have hf:∀ r,r < aa H→uo < r→r ∉ nmA u.S→af (ai H2 uo (.cells ({ u with sp:=u.sp ++ [q],S:=.rsl (aa H) 0 n n 4 }:UN).c)) r=af H r:=fun r hr hu hn=>by rw[ae (by omega),a4 r hr hn]
 have nE:∀ r ∈ nmA u.E,r ∉ nmA u.S:=fun r hr=>(h.dj.1 r hr).2.2
 have nM:∀ r ∈ nmA u.Ms,r ∉ nmA u.S:=fun r hr=>(h.dj.2.1 r hr).2
 have nW:∀ r ∈ nmA u.W,r ∉ nmA u.S:=fun r hr=>h.dj.2.2 r hr
 have hE' : ({ u with sp:=u.sp ++ [q],S:=.rsl (aa H) 0 n n 4 }:UN).sp.flatMap SpF.cs=u.sp.flatMap SpF.cs ++ q.cs:=by simp
 refine ⟨n,H2,a1,hu2,a3,a4,fun b hb=>st b hb,⟨aK hu2 _,h.e.mono hl (fun r hr hlt=>hf r hlt (h.e.lt r hr).1 (nE r hr)),h.el,h.m.mono hl (fun r hr hlt=>hf r hlt (h.m.lt r hr).1 (nM r hr)),h.w.mono hl (fun r hr hlt=>hf r hlt (h.w.lt r hr).1 (nW r hr)),?_,⟨fun r hr=>⟨(h.dj.1 r hr).1,(h.dj.1 r hr).2.1,?_⟩,fun r hr=>⟨(h.dj.2.1 r hr).1,?_⟩,fun r hr=>?_⟩,?_⟩,⟨hl,fun r hr hne hn=>?_,fun r hr=>?_⟩⟩
 ·rw[hE'];exact a2.mono (by rw[ak];exact Nat.le_refl _) (fun r hr _=>ae (by have:=(a2.lt r hr).1;omega) _)
 ·simp only[nmA,List.mem_singleton];have:=(h.e.lt r hr).2;omega
 ·simp only[nmA,List.mem_singleton];have:=(h.m.lt r hr).2;omega
 ·simp only[nmA,List.mem_singleton];have:=(h.w.lt r hr).2;omega
 ·simp only[List.length_append,List.length_singleton];omega
 ·rw[ae hne,a4 r hr (fun hm=>hn (bM.2 (.inr (.inr (.inr hm)))))]
 ·rcases bM.1 hr with h1 | h1 | h1 | h1
  ·exact .inl (bM.2 (.inl h1))
  ·exact .inl (bM.2 (.inr (.inl h1)))
  ·exact .inl (bM.2 (.inr (.inr (.inl h1))))
  ·simp only[nmA,List.mem_singleton] at h1;exact .inr (by omega)
theorem FX {b:AV}(h:iy b):bF CC 116 b=some (.int .i64 0):=by
 rcases h with rfl | rfl <;> kernel_rfl
theorem PW (v:Nat)(o:Int × Int)(a:Nat):ao CC 165 [(0,.int .i64 (v:Int)),(1,.agg [.int .i64 o.1,.int .i64 o.2]),(3,.int .i64 (a:Int))]=some (.agg [.int .i64 (v:Int),.int .i64 o.1,.int .i64 o.2,.nils,.int .i64 (a:Int)]):=by
 have:∀ x y z w:Int,ao CC 165 [(0,.int .i64 x),(1,.agg [.int .i64 y,.int .i64 z]),(3,.int .i64 w)]=some (.agg [.int .i64 x,.int .i64 y,.int .i64 z,.nils,.int .i64 w]):=fun _ _ _ _=>by kernel_rfl
 exact this _ _ _ _
abbrev z5 (v:Nat)(o:Int × Int)(V:AV)(a:Nat):List AV:=[.int .i64 (v:Int),.int .i64 o.1,.int .i64 o.2,V,.int .i64 (a:Int)]
theorem Rl (v:Nat)(o:Int × Int)(a:Nat){V:AV}(h:V=.nils∨∃ l q,V=.sl 1 l q):aP CC 64 1 [(0,.agg (z5 v o V a))]=some (.sl 5 [.agg (z5 v o V a)] .lit):=by
 have h1:∀ x y z w:Int,aP CC 64 1 [(0,.agg [.int .i64 x,.int .i64 y,.int .i64 z,.nils,.int .i64 w])]=some (.sl 5 [.agg [.int .i64 x,.int .i64 y,.int .i64 z,.nils,.int .i64 w]] .lit):=fun _ _ _ _=>by kernel_rfl
 have h2:∀ (x y z w:Int) (l:List AV) (q:Lin),aP CC 64 1 [(0,.agg [.int .i64 x,.int .i64 y,.int .i64 z,.sl 1 l q,.int .i64 w])]=some (.sl 5 [.agg [.int .i64 x,.int .i64 y,.int .i64 z,.sl 1 l q,.int .i64 w]] .lit):=fun _ _ _ _ _ _=>by kernel_rfl
 rcases h with rfl | ⟨l,q,rfl⟩
 ·exact h1 _ _ _ _
 ·exact h2 _ _ _ _ _ _
theorem Hh {uo off b k:Nat}{H:Heap}{V:AV}{xs cs:List AV}(h:LvI uo H k V xs)(hn:xs ≠ [])(hcs:af H uo=some (.cells cs))(ho:off + 1≤aa cs) :
  ay 1 (.ptr uo off) V ⟨H,b⟩=some ⟨ai H uo (.cells (cm cs off [V])),min b uo⟩:=by
 rcases h with ⟨h0,_⟩ | ⟨h0,id,g,rfl,hg,hu,hw⟩
 ·exact absurd h0 hn
 ·have hid:id < aa H:=by rw[aj];exact bm hg
  have low:∀ L,AV.low L (.sl k xs (.live id g))=(aM L xs && decide (id < L)):=fun L=>by simp[AV.low,Lin.low]
  have e1:eV (aa H) (.sl k xs (.live id g))=true:=by rw[cj,low,hw];simpa using hid
  have e2:eV (uo + 1) (.sl k xs (.live id g))=false:=by rw[cj,low];simp;intro _;omega
  have e3:Nat.ble (Nat.add off 1) (aa cs)=true:=by rw[dE];simpa using ho
  have e5:Nat.beq (aa [AV.sl k xs (.live id g)]) 1=true:=rfl;have e6:List.all [AV.sl k xs (.live id g)] AV.one=true:=rfl;have e7:AV.cells (.sl k xs (.live id g))=[.sl k xs (.live id g)]:=rfl;simp only[ay,hcs,eF,e1,e3,e5,e6,e7,Bool.and_self,cond_true,i8,e2,cond_false]
def vi (fm:FmS)(e:Ex)(p:PS):Option (AtF × PS):=match qm e.s fm with
 | none=>none
 | some o=>some (⟨false,0,p.vars⟩,{ p with vars:=p.vars + 1,ws:=p.ws ++ [⟨p.vars,o.1,o.2,e.kids.map Ex.n,e.p⟩] })
theorem ivL_same:∀ l:List Int,sameL (l.map zJ) (l.map zJ)=true
 | []=>by simp[sameL]
 | a :: l=>by rw[List.map_cons];simp[sameL,AV.same,ivL_same l]
theorem Dw (u:List WtF):sameL (u.map WtF.av) (u.map WtF.av)=true:=by
 induction u with
 | nil=>simp[sameL]
 | cons w l ih =>
   rw[List.map_cons]
   have h1:AV.same (lV 1 w.lin (w.ah.map fun n=>AV.int .i64 n)) (lV 1 w.lin (w.ah.map fun n=>AV.int .i64 n))=true:=by
    have:=ivL_same w.ah;cases h:w.ah.map (fun n=>AV.int .i64 n) with
    | nil=>simp[lV,AV.same]
    | cons a r =>
      have h2:sameL (a :: r) (a :: r)=true:=by rw[← h];exact this
      simp[lV,AV.same,h2]
   simp[sameL,AV.same,ih,h1]
theorem UI.wsame {uo:Nat}{H:Heap}{u:UN}(h:UI uo H u):AV.same u.W u.W=true:=by
 rcases h.w with ⟨_,h1⟩ | ⟨_,id,g,h1,_⟩
 ·rw[h1];simp[AV.same]
 ·rw[h1];simp[AV.same,Dw u.ws]
theorem Qe (a b c d e f g h i j:AV):af [a,b,c,d,e,f,g,h,i,j] 7=some h:=rfl
theorem JJ (a b c d e f g h i j:AV):af [a,b,c,d,e,f,g,h,i,j] 8=some i:=rfl
theorem SD (a b c d e:AV):af [a,b,c,d,e] 3=some d:=rfl
theorem SY (a b c d e:AV):af [a,b,c,d,e] 0=some a:=rfl
theorem Ti (a b c d e v:AV):cm [a,b,c,d,e] 3 [v]=[a,b,c,v,e]:=rfl
section
variable {M:Memo}{uo bo so vo fo:Nat}{LV:AV}{d:NdR}{vm fm:FmS}{base:AV}
structure WtI (uo bo so vo fo:Nat)(LV:AV)(d:NdR)(vm fm:FmS)(base:AV)(H:Heap)(u uc:UN)(w v:Nat)(o:Int × Int)(a:Nat)(Hc:Heap)(V:AV)(xs:List Int):Prop where
 C:Cx uo bo so vo fo LV d vm fm base Hc uc
 G:Gr uo H u.ns Hc uc.ns
 g:af Hc w=some (.cells (z5 v o V a))
 lV:LvI w Hc 1 V (xs.map zJ)
 nv:∀ q ∈ nmA V,q ∉ uc.ns
 wn:w ∉ uc.ns
 wl:aa H + 1 < w
 z:af Hc (aa H + 1)=some zA
 lt:uo < aa H∧bo < aa H∧so < aa H∧vo < aa H∧fo < aa H
theorem WtI.ap {H Hc:Heap}{u uc:UN}{w v:Nat}{o:Int × Int}{a:Nat}{V:AV}{xs:List Int}(h:WtI uo bo so vo fo LV d vm fm base H u uc w v o a Hc V xs)(K:Heap):WtI uo bo so vo fo LV d vm fm base H u uc w v o a (Hc ++ K) V xs :=
 ⟨h.C.ap K,h.G.trans Gr.ap,ar h.g K,h.lV.mono (by rw[az];omega) (fun q _ hq=>eh hq),h.nv,h.wn,h.wl,ar h.z K,h.lt⟩
theorem WtI.add {H Hc:Heap}{u uc:UN}{w v:Nat}{o:Int × Int}{a:Nat}{V:AV}{xs:List Int}(h:WtI uo bo so vo fo LV d vm fm base H u uc w v o a Hc V xs)(n:Int)(hx:xs.length≤90000) :
  ∃ V' H' H'',(∀ e lin,aq CC 83 163 V (.sl 1 [zJ n] lin) ⟨Hc,e⟩=some (V',⟨H',e⟩))∧af H' w=some (.cells (z5 v o V a))∧(∀ b,b≤w→ay 1 (.ptr w 3) V' ⟨H',b⟩=some ⟨H'',b⟩)∧WtI uo bo so vo fo LV d vm fm base H u uc w v o a H'' V' (xs ++ [n]):=by
 obtain ⟨l0,l1,l2,l3,l4⟩:=h.lt;have hwl:=h.wl;obtain ⟨V',H',a1,a2,a3,a4,a5⟩:=Dr (f:=83) (by kernel_rfl) h.lV n (by omega) (bL h.g)
 have hnw:∀ q,q≤w→q ∉ nmA V:=fun q hq hm=>by have:=(h.lV.lt q hm).1;omega
 have g2:af H' w=some (.cells (z5 v o V a)):=by rw[a4 w (bL h.g) (hnw w (Nat.le_refl _)),h.g]
 have st:=fun b=>Hh (b:=b) (off:=3) a2 (by simp) g2 (by rw[aj];simp)
 rw[Ti] at st;refine ⟨V',H',ai H' w (.cells (z5 v o V' a)),a1,g2,fun b hb=>by rw[st b,Nat.min_eq_left hb],?_⟩
 have hlen:aa Hc≤aa (ai H' w (.cells (z5 v o V' a))):=by rw[ak];exact a3
 have hfr:∀ q,q < aa Hc→q ∉ w :: nmA V→af (ai H' w (.cells (z5 v o V' a))) q=af Hc q:=fun q hq hn=>by
  simp only[List.mem_cons,not_or] at hn;rw[ae hn.1,a4 q hq hn.2]
 have hN:∀ q ∈ w :: nmA V,q ∉ uc.ns:=fun q hq=>by
  rcases List.mem_cons.1 hq with rfl | hq
  ·exact h.wn
  ·exact h.nv q hq
 have nN:∀ q,q < aa H→q ∉ w :: nmA V:=fun q hq hm=>by
  rcases List.mem_cons.1 hm with rfl | hm
  ·omega
  ·exact hnw q (by omega) hm
 refine ⟨h.C.to hlen (w :: nmA V) hfr hN (nN _ l0) (nN _ l1) (nN _ l2) (nN _ l3) (nN _ l4),⟨Nat.le_trans h.G.len hlen,fun q hq hu hn=>by rw[hfr q (by have:=h.G.len;omega) (nN q hq),h.G.fr q hq hu hn],h.G.ns⟩,aK g2 _,a2.mono (by rw[ak];exact Nat.le_refl _) (fun q hq _=>ae (by have:=(a2.lt q hq).1;omega) _),fun q hq hm=>?_,h.wn,h.wl,by rw[hfr _ (bL h.z) (fun hm=>by
  rcases List.mem_cons.1 hm with h9 | h9
  ·omega
  ·exact hnw _ (by omega) h9),h.z],h.lt⟩
 rcases a5 q hq with h1 | h1
 ·exact h.nv q h1 hm
 ·have:=(h.C.U.lt q hm).2;omega
def Ty (uo bo so vo fo:Nat)(LV:AV)(d:NdR)(vm fm:FmS)(base:AV)(H:Heap)(u uc:UN)(w v:Nat)(o:Int × Int)(a:Nat)(xs:List Int)(b:Nat)(R:RG→Prop)(X:IRes):Prop :=
 ∃ r' Hc V,X=some (.exit 0,r',[],⟨Hc,b⟩)∧WtI uo bo so vo fo LV d vm fm base H u uc w v o a Hc V xs∧R r'
theorem Ax {e:Ex}(hk:e.kids.length≤90000){H:Heap}{u uc:UN}{w v:Nat}{o:Int × Int}{a b:Nat}(hb:b≤w) :
  ∀ (k i:Nat),k + i=e.kids.length→∀ (fu:Nat),k < fu→∀ (Hc:Heap) (V:AV) (xs:List Int),xs.length≤i→WtI uo bo so vo fo LV d vm fm base H u uc w v o a Hc V xs →
  ∀ (r:RG),(r.a.a.a=.ptr bo 0∧r.a.a.b=.ptr so 0∧r.a.a.g=.ptr (aa H + 1) 0∧r.a.a.h=.ptr w 0)→(r.a.e.b=e.kv∧r.a.e.c=.int .i64 (e.kids.length:Int)∧r.a.e.d=.int .i64 (i:Int)) →
  Ty uo bo so vo fo LV d vm fm base H u uc w v o a (xs ++ (e.kids.drop i).map Ex.n) b (fun r=>r.a.a.a=.ptr bo 0∧r.a.a.b=.ptr so 0∧r.a.a.g=.ptr (aa H + 1) 0∧r.a.a.h=.ptr w 0) (aw (uH (orc CC M)) fu r [] ⟨Hc,b⟩):=by
 intro k
 induction k with
 | zero =>
   intro i hi fu hfu Hc V xs hx I r ⟨h0,h1,h6,h7⟩ ⟨h32,h33,h34⟩;obtain ⟨fu',rfl⟩ : ∃ f,fu=f + 1:=⟨fu - 1,by omega⟩
   have:i=e.kids.length:=by omega
   subst this;have hc:decide ((e.kids.length:Int) < (e.kids.length:Int))=false:=by simp
   rw[List.drop_length];simp only[aw,uH,DW,SIM,ST0,ST1,h33,h34,hc];exact ⟨_,Hc,V,rfl,by simpa using I,by first | exact h0,by first | exact h1,by first | exact h6,by first | exact h7⟩
 | succ k ih =>
   intro i hi fu hfu Hc V xs hx I r ⟨h0,h1,h6,h7⟩ ⟨h32,h33,h34⟩;obtain ⟨fu',rfl⟩ : ∃ f,fu=f + 1:=⟨fu - 1,by omega⟩
   have hlt:i < e.kids.length:=by omega
   have hc:decide ((i:Int) < (e.kids.length:Int))=true:=by simp;omega
   have hd:e.kids.drop i=e.kids[i] :: e.kids.drop (i + 1):=List.drop_eq_getElem_cons hlt;have hg:e.kids[i]?=some e.kids[i]:=by simp[hlt]
   generalize e.kids[i]=x at hd hg;have hias:=iz e i x hg;have ha:cQ (i:Int) 1=((i + 1:Nat):Int):=bA i 1 (by unfold natMax;omega)
   rw[hd];have I1:=I.ap [bH x];obtain ⟨V',H',H'',hap,hgw,hst,I2⟩:=I1.add x.n (by omega)
   have key:=ih (i + 1) (by omega) fu' (by omega) H'' V' (xs ++ [x.n]) (by simp;omega) I2
   rw[List.append_assoc] at key;have hg1:=I1.g;have hst':=hst b hb;have hst3:=hst';simp only[ay,hgw] at hst3;have h32':=Re x.n;have hxo:af (Hc ++ [bH x]) (aa Hc)=some (bH x):=by rw[au];rfl
   simp only[aw,uH,DW,Mm,LN,KF,SIM,ST0,ST1,h0,h1,h6,h7,h32,h33,h34,hc,hias,ha,hg1,SD,hxo,h32',hap,hgw,hst',hst3,orVal,EXS,Nat.reduceAdd,Nat.reduceLeDiff];exact key _ ⟨by first | rfl | exact h0,by first | rfl | exact h1,by first | rfl | exact h6,by first | rfl | exact h7⟩ ⟨by first | rfl | exact h32,by first | rfl | exact h33,rfl⟩
end
section
variable {M:Memo}{uo bo so vo fo:Nat}{LV:AV}{d:NdR}{vm fm:FmS}{base:AV}
theorem HN (m:eu M)(hb:iy base){e:Ex}(hk:e.kids.length≤90000){H:Heap}{u:UN}{a:AtF}{p' : PS}(hp:vi fm e u.p=some (a,p'))(C:Cx uo bo so vo fo LV d vm fm base H u)(hw:p'.w + 20 < 1000000) :
  ∃ H' u',orc CC M 83 [.ptr bo 0,.ptr so 0,e.v] H=some (.ret a.av H' uo)∧UI uo H' u'∧Gr uo H u.ns H' u'.ns∧u'.p=p'∧Same u u':=by
 unfold vi at hp
 split at hp
 ·cases hp
 rename_i o ho;simp only[SJ,PJ] at hp;obtain ⟨rfl,rfl⟩:=hp
 have hwv:u.vars + u.eqs.length + u.ms.length + u.ws.length + u.sp.length + u.size + 20 < 1000000:=by
  simp only[PS.w,UN.p,List.length_append,List.length_map,List.length_cons,List.length_nil] at hw;omega
 have huo:=C.U.uo;have hbl:=bL C.b;have C0:=C.ap [bH e,zA,.gone];have hl0:aa (H ++ [bH e,zA,.gone])=aa H + 3:=by rw[az];rfl
 obtain ⟨H1,hP,U1,G1,hl1⟩:=mV m C0.U C0.b (by omega)
 have C1:=C0.step (u':={ u with vars:=u.vars + 1 }) U1 G1
 have hnn:∀ q,aa H≤q→q ∉ u.ns:=fun q hq hm=>by have:=(C.U.lt q hm).2;omega
 have f1:∀ j,j < 3→af H1 (aa H + j)=af [bH e,zA,AObj.gone] j:=fun j hj=>by
  rw[G1.fr _ (by omega) (by omega) (hnn _ (by omega)),aR]
 have hge1:af H1 (aa H)=some (bH e):=by have:=f1 0 (by omega);rw[Nat.add_zero] at this;rw[this];rfl
 have hz1:af H1 (aa H + 1)=some zA:=by rw[f1 1 (by omega)];rfl
 have hg1:af H1 (aa H + 2)=some .gone:=by rw[f1 2 (by omega)];rfl
 have I0:WtI uo bo so vo fo LV d vm fm base H u { u with vars:=u.vars + 1 } (aa H + 2) u.vars o e.p (ai H1 (aa H + 2) (.cells (z5 u.vars o .nils e.p))) .nils []:=by
  refine ⟨C1.to (by rw[ak];exact Nat.le_refl _) [aa H + 2] (fun q hq hn=>ae (by simpa using hn) _) (fun q hq=>?_) ?_ ?_ ?_ ?_ ?_,⟨by rw[ak];omega,fun q hq hu hn=>?_,fun q hq=>.inl hq⟩,aK hg1 _,.inl ⟨rfl,rfl⟩,fun _ h=>(by cases h),hnn _ (by omega),by omega,by rw[ae (by omega),hz1],huo,hbl,bL C.s,bL C.v,bL C.f⟩
  ·rw[List.mem_singleton.1 hq];exact hnn _ (by omega)
  ·simp;omega
  ·simp;omega
  ·simp;have:=bL C.s;omega
  ·simp;have:=bL C.v;omega
  ·simp;have:=bL C.f;omega
  ·rw[ae (by omega),G1.fr q (by omega) hu hn,eh hq]
 have e0:(envOf [.ptr bo 0,.ptr so 0,e.v] 0 env0).a.a.a=.ptr bo 0:=rfl;have e1:(envOf [.ptr bo 0,.ptr so 0,e.v] 0 env0).a.a.b=.ptr so 0:=rfl;have e2:(envOf [.ptr bo 0,.ptr so 0,e.v] 0 env0).a.a.c=e.v:=rfl
 obtain ⟨r0,hr0,hr1,hpre⟩ : ∃ r,(r.a.a.a=.ptr bo 0∧r.a.a.b=.ptr so 0∧r.a.a.g=.ptr (aa H + 1) 0∧r.a.a.h=.ptr (aa H + 2) 0)∧(r.a.e.b=e.kv∧r.a.e.c=.int .i64 (e.kids.length:Int)∧r.a.e.d=.int .i64 ((0:Nat):Int)) ∧
   z83.sh (orc CC M) (envOf [.ptr bo 0,.ptr so 0,e.v] 0 env0) [] ⟨H,aa H⟩=dZ (ac (vM (orc CC M)) (ac (vQ (orc CC M)) retZ)) (dD 0 (aw (uH (orc CC M)) 100000 r [] ⟨ai H1 (aa H + 2) (.cells (z5 u.vars o .nils e.p)),aa H⟩)):=by
  generalize envOf [.ptr bo 0,.ptr so 0,e.v] 0 env0=R at e0 e1 e2;have hbx:=fx e;have hln:=FX hb;have hd0:decide ((0:Int) < 0)=false:=rfl;have hs0:=ar C.s [bH e,zA];have hs1:=C1.s;have hlk0:=kW (kH ho) C0.f;have hlk:=kW (kH ho) C1.f;have hs0':=C0.s;have hge0:af (H ++ [bH e,zA,.gone]) (aa H)=some (bH e):=by rw[au];rfl
  have hm0:min (aa H) (aa H + 3)=aa H:=Nat.min_eq_left (by omega)
  have hkl:=oM e;have h155:=PW u.vars o e.p;have hsf:AV.same (.map fo) (.map fo)=true:=by simp[AV.same]
  have hsn:AV.same (.str e.s) (.str e.s)=true:=by simp[AV.same]
  have hso:AV.same (.agg [.int .i64 o.1,.int .i64 o.2]) (.agg [.int .i64 o.1,.int .i64 o.2])=true:=by simp[AV.same,sameL]
  have hsi:AV.same (.int .i64 (e.p:Int)) (.int .i64 (e.p:Int))=true:=by simp[AV.same]
  have hzg:=fun c=>aK hg1 c
  have hss:∀ (h:Heap) (n:Nat) (x y:AObj),ai (ai h n x) n y=ai h n y:=fun h n x y=>dX h n x y
  have hzn:af (ai H1 (aa H + 2) (.cells (z5 u.vars o .nils e.p))) (aa H)=some (bH e):=by rw[ae (by omega),hge1]
  simp only[z83,KT,JR,JP,IX,SIM,ST0,ST1,e0,e1,e2,hbx,hd0,hln,hs0,hs1,hs0',hP,hl0,hm0,hlk,hlk0,hge0,hge1,h155,hsf,hsn,hso,hsi,hzg,hss,hzn,Pd,sx,hkl,orVal,eT,List.append_assoc,List.cons_append,List.nil_append,EXS,Nat.reduceAdd,Nat.reduceLeDiff];exact ⟨_,⟨by first | rfl | exact e0,by first | rfl | exact e1,rfl,rfl⟩,⟨rfl,rfl,rfl⟩,rfl⟩
 obtain ⟨r',Hc,V,hX,I,h0,h1,h6,h7⟩:=Ax (M:=M) hk (b:=aa H) (by omega) e.kids.length 0 rfl 100000 (by omega) _ .nils [] (by simp) I0 r0 hr0 hr1
 rw[List.drop_zero,List.nil_append] at I;have hgw:=I.g
 have hVs:V=.nils∨∃ l q,V=.sl 1 l q:=by
  rcases I.lV with ⟨_,h⟩ | ⟨_,id,g,h,_⟩
  ·exact .inl h
  ·exact .inr ⟨_,_,h⟩
 obtain ⟨lin,hlin,hVl⟩ : ∃ lin:Lin,lin.low (aa Hc)=true∧V=lV 1 lin ((e.kids.map Ex.n).map fun n=>.int .i64 n):=by
  rcases I.lV with ⟨h0,h⟩ | ⟨h0,id,g,h,hg,_⟩
  ·refine ⟨.lit,rfl,?_⟩;rw[h,show ((e.kids.map Ex.n).map fun n=>AV.int .i64 n)=[] from h0];rfl
  ·refine ⟨.live id g,by simp[Lin.low,bL hg],?_⟩
   rw[h];have h0' : ((e.kids.map Ex.n).map fun n=>AV.int .i64 n) ≠ []:=h0
   show AV.sl 1 ((e.kids.map Ex.n).map fun n=>AV.int .i64 n) _=_
   cases hh:((e.kids.map Ex.n).map fun n=>AV.int .i64 n) with
   | nil=>exact absurd hh h0'
   | cons x l=>rfl
 obtain ⟨W',H2,ha,hu2,hl2,hf2,hst,U3,G3⟩:=I.C.U.addW 83 ⟨u.vars,o.1,o.2,e.kids.map Ex.n,lin,e.p⟩ hlin (by show u.vars + 1 + u.eqs.length + u.ms.length + u.ws.length + u.sp.length + u.size + 1 < 1000000;omega)
 have hwl:=I.C.U.w;have hqv:WtF.av ⟨u.vars,o.1,o.2,e.kids.map Ex.n,lin,e.p⟩=.agg (z5 u.vars o V e.p):=by rw[hVl]
 rw[hqv] at ha
 have nW:∀ q,q < uo∨q ∉ ({ u with vars:=u.vars + 1 }:UN).ns→q ∉ nmA ({ u with vars:=u.vars + 1 }:UN).W:=fun q hq hm=>by
  have h9:q ∈ ({ u with vars:=u.vars + 1 }:UN).ns:=bM.2 (.inr (.inr (.inl hm)))
  rcases hq with hq | hq
  ·have:=(I.C.U.lt q h9).1;omega
  ·exact hq h9
 have hb2:af H2 bo=some (.cells [.ptr uo 0,LV]):=by rw[hf2 bo (bL I.C.b) (nW bo (.inr I.C.nb)),I.C.b]
 have hst':=hst (aa H) (by omega)
 have hgl:=I.G.len;have hbu:=I.C.bu;generalize hH3:ai H2 uo (.cells ({ ({ u with vars:=u.vars + 1 }:UN) with ws:=({ u with vars:=u.vars + 1 }:UN).ws ++ [⟨u.vars,o.1,o.2,e.kids.map Ex.n,lin,e.p⟩],W:=W' }:UN).c)=H3 at hst' U3 G3
 have hz3:af H3 (aa H + 1)=some zA:=by
  rw[← hH3,ae (by omega),hf2 (aa H + 1) (bL I.z) (nW _ (.inr (hnn _ (by omega)))),I.z]
 have hw3:af H3 (aa H + 2)=some (.cells (z5 u.vars o V e.p)):=by
  rw[← hH3,ae (by omega),hf2 (aa H + 2) (bL I.g) (nW _ (.inr (hnn _ (by omega)))),hgw]
 have hz3n:aa H + 1 ∉ ({ ({ u with vars:=u.vars + 1 }:UN) with ws:=({ u with vars:=u.vars + 1 }:UN).ws ++ [⟨u.vars,o.1,o.2,e.kids.map Ex.n,lin,e.p⟩],W:=W' }:UN).ns:=fun hm=>by
  rcases G3.ns _ hm with h | h
  ·exact hnn _ (by omega) h
  ·have:=bL I.z;omega
 refine ⟨ai H3 (aa H + 1) (.cells [.bool false,.int .i64 0,.int .i64 (u.vars:Int)]),_,aH (z:=z83) (m _ _ rfl) (by kernel_rfl) rfl ?_,U3.to (by rw[ak];exact Nat.le_refl _) (fun q hq hn=>ae (by rintro rfl;rcases hn with h | h;(omega);exact hz3n h) _),(I.G.trans G3).put2 (by omega),?_,⟨rfl,rfl,rfl,rfl⟩⟩
 ·rw[hpre,hX,dS,bn];have hb1:=I.C.b;have hE1:=I.C.U.ob;have hsW:=I.C.U.wsame;have hpv:u.p.vars=u.vars:=rfl;have h85:=Rl u.vars o e.p hVs;have hsu:AV.same (.ptr uo 0) (.ptr uo 0)=true:=by simp[AV.same]
  have hzs:=fun c=>aK hz3 c
  have hgc:=fun hp=>dU (keep:=CC.keep 83) (base:=aa H) (e:=uo) (v:=AtF.av ⟨false,0,u.vars⟩) (hp:=hp) (by omega)
  simp only[vM,vQ,z83,SIM,ST0,ST1,h0,h1,h6,h7,hb1,hE1,Qe,hgw,h85,ha,hb2,hsu,hsW,hst',hw3,SY,vU,hz3,hzs,hgc,hpv,orVal,eT,List.append_assoc,List.cons_append,List.nil_append,EXS,Nat.reduceAdd,Nat.reduceLeDiff]
 ·simp[UN.p,WtF.q]
end
def vz (q:EqR)(fm:FmS)(p:PS):Option (FmS × PS):=match q.l with
 | []=>none
 | (nm,_) :: _=>match fc nm fm with
   | some _=>none
   | none=>cond (Nat.ble p.sp.length 100000) (some (fm ++ [(nm,iw ((p.sp.length:Int),0))],{ p with sp:=p.sp ++ [⟨q.e.s,[],[],(q.e.p:Int)⟩] })) none
theorem uP {q:EqR}{fm fm' : FmS}{p p' : PS}(h:vz q fm p=some (fm',p')):p.w≤p'.w∧p.nm≤p'.nm:=by
 unfold vz at h
 split at h
 ·cases h
 ·split at h
  ·cases h
  ·obtain ⟨_,h⟩:=aS h;simp only[SJ,PJ] at h;rw[← h.2];exact ⟨by simp only[PS.w,List.length_append,List.length_cons,List.length_nil];omega,Nat.le_refl _⟩
theorem Qm {nm:List Nat}{a:Int}{fm:FmS}{fo:Nat}{H:Heap}{e:Nat}(h:fc nm fm=none)(hg:af H fo=some (.map (kE fm))) :
  bN CC 119 (.map fo) (.str nm) (.agg [.int .i64 a,.int .i64 0]) ⟨H,e⟩=some ⟨ai H fo (.map (kE (fm ++ [(nm,iw (a,0))]))),e⟩:=by
 obtain ⟨t,ht,_⟩:=Ew nm;rw[aD] at hg;have hlow:∀ L,(AV.agg [.int .i64 a,.int .i64 0]).low L=true:=fun L=>by simp[AV.low,aM]
 have hesc:dR (.agg [.int .i64 a,.int .i64 0]) fo ⟨H,e⟩=e:=by simp[dR,AV.low,aM]
 simp only[bN,ht,hg,zV,hlow,mY 0 h,hesc,if_true,and_self];simp[kE,aN]
theorem QO (a:Nat):ao CC 95 [(0,.int .i64 (a:Int))]=some (.agg [.int .i64 (a:Int),.int .i64 0]):=by
 have:∀ x:Int,ao CC 95 [(0,.int .i64 x)]=some (.agg [.int .i64 x,.int .i64 0]):=fun _=>by kernel_rfl
 exact this _
theorem PL (s:List Nat)(a:Nat):ao CC 134 [(0,.str s),(3,.int .i64 (a:Int))]=some (.agg [.str s,.nils,.nils,.int .i64 (a:Int)]):=by
 have:∀ x:Int,ao CC 134 [(0,.str s),(3,.int .i64 x)]=some (.agg [.str s,.nils,.nils,.int .i64 x]):=fun _=>by kernel_rfl
 exact this _
theorem Tk (s:List Nat)(a:Nat)(L:Nat):o9 CC 65 1 [(0,.agg [.str s,.nils,.nils,.int .i64 (a:Int)])] L=some (.cells [.str s,.nils,.nils,.int .i64 (a:Int)],fun r=>.rsl r 0 1 1 4):=by
 have:∀ x:Int,o9 CC 65 1 [(0,.agg [.str s,.nils,.nils,.int .i64 x])] L=some (.cells [.str s,.nils,.nils,.int .i64 x],fun r=>.rsl r 0 1 1 4):=fun _=>by kernel_rfl
 exact this _
theorem cc86:∃ e,CC.P.underlying 65=some (.slice e)∧e=134:=⟨_,by kernel_rfl,rfl⟩
theorem sn (l:List SpF):(l.flatMap SpF.cs).length=4 * l.length:=by
 induction l with
 | nil=>rfl
 | cons a l ih=>simp only[List.flatMap_cons,List.length_append,ih,List.length_cons];simp;omega
theorem UI.slen {uo:Nat}{H:Heap}{u:UN}(h:UI uo H u):bF CC 65 u.S=some (.int .i64 (u.sp.length:Int)):=by
 obtain ⟨e,hu,_⟩:=cc86
 rcases h.s with ⟨h0,h1⟩ | ⟨id,n,h1,h2,h3,h4,_⟩
 ·have h5:=sn u.sp;rw[h0] at h5;simp only[List.length_nil] at h5;rw[h1,eo];simp[eY,hu];omega
 ·rw[sn] at h4;have:n=u.sp.length:=by omega
  rw[h1,eo];simp[eY,hu,this]
section
variable {M:Memo}{uo bo:Nat}{LV:AV}{d:NdR}{vm:List (List Nat × Nat)}{base:AV}{H:Heap}{ns0:List Nat}
theorem ku (m:eu M)(hb:iy base)(q:EqR):uS M uo bo LV d vm base H ns0 vz q:=by
 intro Hc uc fm fm' p' hp N hw;unfold vz at hp
 split at hp
 ·cases hp
 rename_i nm pos lr hql
 split at hp
 ·cases hp
 rename_i hlk;obtain ⟨hsp0,hp⟩:=aS hp;rw[dE,decide_eq_true_eq] at hsp0;simp only[SJ,PJ] at hp;obtain ⟨rfl,rfl⟩:=hp;have hsl:uc.p.sp.length=uc.sp.length:=by simp[UN.p]
 rw[hsl] at hsp0;rw[hsl]
 have hwv:uc.vars + uc.eqs.length + uc.ms.length + uc.ws.length + uc.sp.length + uc.size + 20 < 1000000:=by
  simp only[PS.w,UN.p,List.length_append,List.length_map,List.length_cons,List.length_nil] at hw;omega
 have huo:=N.C.U.uo;have N1:=N.ap [qO q];have N2:=N1.fset (fm':=fm ++ [(nm,iw ((uc.sp.length:Int),0))]);have N3:=N2.ap [.cells [.str q.e.s,.nils,.nils,.int .i64 (q.e.p:Int)]];have hl1:aa (Hc ++ [qO q])=aa Hc + 1:=by rw[az];rfl
 have hl2:aa (ai (Hc ++ [qO q]) (aa H + 3) (.map (kE (fm ++ [(nm,iw ((uc.sp.length:Int),0))]))))=aa Hc + 1:=by rw[ak,hl1]
 generalize hH2:ai (Hc ++ [qO q]) (aa H + 3) (.map (kE (fm ++ [(nm,iw ((uc.sp.length:Int),0))])))=H2 at N2 N3 hl2;have hob:af (H2 ++ [.cells [.str q.e.s,.nils,.nils,.int .i64 (q.e.p:Int)]]) (aa Hc + 1)=some (.cells (SpF.cs ⟨q.e.s,[],.lit,[],.lit,(q.e.p:Int)⟩)):=by rw[← hl2,au];rfl
 obtain ⟨n,H3,ha,hu3,hl3,hf3,hst,U4,G4⟩:=N3.C.U.addS 49 ⟨q.e.s,[],.lit,[],.lit,(q.e.p:Int)⟩ hob rfl (by simp[aM,AV.low,lV]) (fun hm=>by have:=(N2.C.U.lt _ (bM.2 (.inr (.inr (.inr hm))))).2;omega) hsp0 (by omega)
 have hlO:aa (H2 ++ [AObj.cells [.str q.e.s,.nils,.nils,.int .i64 (q.e.p:Int)]])=aa Hc + 2:=by rw[az,hl2];rfl
 rw[hlO] at ha hl3 hst U4 G4;have N4:=N3.step U4 G4;have hb3:af H3 bo=some (.cells [.ptr uo 0,LV]):=by rw[hf3 bo (bL N3.C.b) (fun hm=>N3.C.nb (bM.2 (.inr (.inr (.inr hm))))),N3.C.b]
 have hst':=hst (aa Hc) (by omega)
 have hst3:=hst';simp only[ay,hu3] at hst3;refine ⟨_,_,aH (z:=z49) (m _ _ rfl) (by kernel_rfl) rfl ?_,N4,by simp[UN.p,SpF.q],⟨rfl,rfl,rfl,rfl⟩⟩
 have e0:(envOf [.ptr bo 0,.ptr (aa H + 4) 0,q.v] 0 env0).a.a.a=.ptr bo 0:=rfl;have e1:(envOf [.ptr bo 0,.ptr (aa H + 4) 0,q.v] 0 env0).a.a.b=.ptr (aa H + 4) 0:=rfl;have e2:(envOf [.ptr bo 0,.ptr (aa H + 4) 0,q.v] 0 env0).a.a.c=q.v:=rfl;generalize envOf [.ptr bo 0,.ptr (aa H + 4) 0,q.v] 0 env0=R at e0 e1 e2;have hbx:=DY q;have hln:=FX hb;have hd0:decide ((0:Int) < 0)=false:=rfl;have hs1:=N1.C.s;have hb1:=N1.C.b;have hE1:=N1.C.U.ob;have hqo:af (Hc ++ [qO q]) (aa Hc)=some (qO q):=by rw[au];rfl
 have hqo2:af H2 (aa Hc)=some (qO q):=by rw[← hH2,ae (by have:=bL N.C.f;omega),hqo]
 have hqo3:=ar hqo2 [.gone];have hb2:=ar N2.C.b [.gone];have hE2:=ar N2.C.U.ob [.gone];have hi0:bw 2 (.sl 2 (q.l.map p0) .dead) (.int .i64 0)=some (.iptr [.str nm,.int .i64 (pos:Int)]):=by rw[hql];rfl
 have hld:∀ (a b:AV) (h:Heap),ax none (.iptr [a,b]) h=some a:=fun _ _ _=>rfl
 have hfa0:∀ a b:AV,aE 0 (.iptr [a,b])=some (.iptr [a,b]):=fun _ _=>rfl
 have hsl2:=N1.C.U.slen;have h152:=QO uc.sp.length;have hmu:=fun ee=>Qm (e:=ee) (a:=(uc.sp.length:Int)) hlk N1.C.f
 rw[hH2] at hmu;have h150:=PL q.e.s q.e.p;have h86:=fun L=>Tk q.e.s q.e.p L
 have hl4:aa (H2 ++ [AObj.gone])=aa Hc + 2:=by rw[az,hl2];rfl
 have hset:∀ c:AObj,ai (H2 ++ [AObj.gone]) (aa Hc + 1) c=H2 ++ [c]:=fun c=>by rw[← hl2,dp];rfl
 have hsu:AV.same (.ptr uo 0) (.ptr uo 0)=true:=by simp[AV.same]
 have hgc:=fun hp=>dU (keep:=CC.keep 49) (base:=aa Hc) (e:=uo) (v:=Abs.undef) (hp:=hp) (by omega)
 simp only[z49,Lb,MZ,Ma,L2,SIM,ST0,ST1,e0,e1,e2,hbx,hd0,hln,hs1,hb1,hE1,hqo,hqo2,hqo3,hb2,hE2,hi0,hld,hfa0,hsl2,h152,hmu,h150,h86,hl2,hl4,hset,dA,ha,hb3,hu3,hsu,hst',hst3,hgc,Pd,sx,JJ,orSt,y5,orVal,eT,List.append_assoc,List.cons_append,List.nil_append,EXS,Nat.reduceAdd,Nat.reduceLeDiff]
end
theorem sp_split:∀ {l:List SpF} {k:Nat} {s:SpF},l[k]?=some s→∃ P R,l.flatMap SpF.cs=P ++ s.cs ++ R∧P.length=k * 4∧∀ s' : SpF,(l.set k s').flatMap SpF.cs=P ++ s'.cs ++ R
 | [],k,s,h=>by simp at h
 | a :: l,0,s,h=>by
   simp only[List.getElem?_cons_zero,SJ] at h;subst h;exact ⟨[],l.flatMap SpF.cs,by simp,rfl,fun s'=>by simp⟩
 | a :: l,k + 1,s,h=>by
   simp only[List.getElem?_cons_succ] at h;obtain ⟨P,R,h1,h2,h3⟩:=sp_split h;refine ⟨a.cs ++ P,R,by simp only[List.flatMap_cons,h1,List.append_assoc],by simp only[List.length_append,h2,List.length_cons,List.length_nil];omega,fun s'=>by simp only[List.set_cons_succ,List.flatMap_cons,h3,List.append_assoc]⟩
theorem O7 {P R:List AV}{k:Nat}(hP:P.length=k * 4)(a b c d x:AV):cm (P ++ [a,b,c,d] ++ R) (k * 4 + 1) [x]=P ++ [a,x,c,d] ++ R:=by
 rw[jv (by simp;omega),aV]
 have e1:P ++ [a,b,c,d] ++ R=(P ++ [a]) ++ (b :: ([c,d] ++ R)):=by simp
 have l1:(P ++ [a]).length=k * 4 + 1:=by simp[hP]
 rw[e1,← l1,List.take_left];have:(P ++ [a]).length + [x].length=(P ++ [a]).length + 1:=rfl;rw[this,← List.drop_drop,List.drop_left];simp
theorem Nh {P R:List AV}{k:Nat}(hP:P.length=k * 4)(a b c d x:AV):cm (P ++ [a,b,c,d] ++ R) (k * 4 + 2) [x]=P ++ [a,b,x,d] ++ R:=by
 rw[jv (by simp;omega),aV]
 have e1:P ++ [a,b,c,d] ++ R=(P ++ [a,b]) ++ (c :: ([d] ++ R)):=by simp
 have l1:(P ++ [a,b]).length=k * 4 + 2:=by simp[hP]
 rw[e1,← l1,List.take_left];have:(P ++ [a,b]).length + [x].length=(P ++ [a,b]).length + 1:=rfl;rw[this,← List.drop_drop,List.drop_left];simp
theorem OF {q k i:Nat}(h:i < k):bw 4 (.rsl q 0 k k 4) (.int .i64 (i:Int))=some (.ptr q (i * 4)):=by
 simp[bw,cT,h]
theorem zh {r off b:Nat}{H:Heap}{V:AV}{cs:List AV}(hV:V=.nils∨∃ k l q,V=.sl k l q)(hlow:V.low (aa H)=true)(hcs:af H r=some (.cells cs))(ho:off + 1≤aa cs) :
  ay 1 (.ptr r off) V ⟨H,b⟩=some ⟨ai H r (.cells (cm cs off [V])),cond (V.low (r + 1)) b (min b r)⟩:=by
 have e1:eV (aa H) V=true:=by rw[cj];exact hlow
 have e3:Nat.ble (Nat.add off 1) (aa cs)=true:=by rw[dE];simpa using ho
 have e5:Nat.beq (aa [V]) 1=true:=rfl;have e6:List.all [V] AV.one=true:=by rcases hV with rfl | ⟨k,l,q,rfl⟩ <;> rfl
 have e7:AV.cells V=[V]:=by rcases hV with rfl | ⟨k,l,q,rfl⟩ <;> rfl
 have e8:eV (r + 1) V=V.low (r + 1):=cj _ _;have e9:∀ s:St,ay 1 (.ptr r off) V s=ay 1 (.ptr r off) V s:=fun _=>rfl
 rcases hV with rfl | ⟨k,l,q,rfl⟩
 ·simp only[ay,hcs,eF,e1,e3,e5,e6,e7,Bool.and_self,cond_true,i8,e8]
 ·simp only[ay,hcs,eF,e1,e3,e5,e6,e7,Bool.and_self,cond_true,i8,e8]
theorem UI.setS {uo id n k:Nat}{H:Heap}{u:UN}{s s' : SpF}(h:UI uo H u)(hS:u.S=.rsl id 0 n n 4)(hk:u.sp[k]?=some s)(h1:s'.cs.all AV.one=true)(h2:aM (aa H) s'.cs=true) :
  UI uo (ai H id (.cells ((u.sp.set k s').flatMap SpF.cs))) { u with sp:=u.sp.set k s' }∧Gr uo H u.ns (ai H id (.cells ((u.sp.set k s').flatMap SpF.cs))) u.ns:=by
 have hidn:id ∈ nmA u.S:=by rw[hS];simp[nmA]
 have hm:=h.s;rw[hS] at hm;obtain ⟨_,hn⟩ | ⟨id',n',he,hn0,hg,hln,hone,hlow,hui⟩:=hm
 ·cases hn
 ·simp only[AV.rsl.injEq] at he;obtain ⟨rfl,_,rfl,_,_⟩:=he;obtain ⟨P,R,e1,e2,e3⟩:=sp_split hk;have hl:aa H≤aa (ai H id (.cells ((u.sp.set k s').flatMap SpF.cs))):=by rw[ak];exact Nat.le_refl _
  rw[e1] at hone hlow hln;rw[List.all_append,List.all_append,Bool.and_eq_true,Bool.and_eq_true] at hone;rw[fq,fq,Bool.and_eq_true,Bool.and_eq_true] at hlow;have nE:∀ r ∈ nmA u.E,r ≠ id:=fun r hr he=>(h.dj.1 r hr).2.2 (he ▸ hidn)
  have nM:∀ r ∈ nmA u.Ms,r ≠ id:=fun r hr he=>(h.dj.2.1 r hr).2 (he ▸ hidn)
  have nW:∀ r ∈ nmA u.W,r ≠ id:=fun r hr he=>h.dj.2.2 r hr (he ▸ hidn)
  refine ⟨⟨by rw[ae (by omega)];exact h.ob,h.e.mono hl (fun q hq _=>ae (nE q hq) _),h.el,h.m.mono hl (fun q hq _=>ae (nM q hq) _),h.w.mono hl (fun q hq _=>ae (nW q hq) _),?_,h.dj,?_⟩,⟨hl,fun q hq hu hn=>ae (fun he=>hn (bM.2 (.inr (.inr (.inr (by rw[he];exact hidn)))))) _,fun q hq=>.inl hq⟩⟩
  ·refine .inr ⟨id,n,hS,hn0,aK hg _,?_,?_,?_,hui⟩
   ·rw[e3];simp only[List.length_append,List.length_cons,List.length_nil] at hln ⊢;exact hln
   ·rw[e3,List.all_append,List.all_append,hone.1.1,h1,hone.2];rfl
   ·rw[ak,e3,fq,fq,hlow.1.1,h2,hlow.2];rfl
  ·have:=h.vl;simp only[List.length_set];exact this
def t4 (f:Ex→PS→Option (AtF × PS))(fm:FmS)(L:List NdR)(q:EqR)(p:PS):Option PS:=match q.l with
 | []=>none
 | (nm,_) :: _=>match qm nm fm with
   | none=>none
   | some o=>match cD q.e.s L with
     | none=>none
     | some d'=>match cL f fm d'.ins q.e.kids p with
       | none=>none
       | some (xs,fs,p1)=>match p1.sp[o.1.toNat]? with
         | none=>none
         | some s=>cond (decide (0≤o.1)) (some { p1 with sp:=p1.sp.set o.1.toNat ⟨s.nd,xs,fs,s.at_⟩ }) none
theorem O2 {xs:List AtF}{A:AV}{L:Nat}(h:PD xs A L):∃ lin:Lin,A=lV 3 lin (xs.map AtF.av)∧lin.low L=true:=by
 rcases h with ⟨rfl,rfl⟩ | ⟨h0,lin,rfl,h1⟩
 ·exact ⟨.lit,rfl,rfl⟩
 ·cases xs with
  | nil=>exact absurd rfl h0
  | cons a l=>exact ⟨lin,rfl,h1⟩
theorem NH {fs:List (Int × Int)}{F:AV}{L:Nat}(h:FLw fs F L):∃ lin:Lin,F=lV 2 lin (fs.map iw)∧lin.low L=true:=by
 rcases h with ⟨rfl,rfl⟩ | ⟨h0,lin,rfl,h1⟩
 ·exact ⟨.lit,rfl,rfl⟩
 ·cases fs with
  | nil=>exact absurd rfl h0
  | cons a l=>exact ⟨lin,rfl,h1⟩
theorem vn {k:Nat}{lin:Lin}{l:List AV}:lV k lin l=.nils∨∃ k' l' q,lV k lin l=.sl k' l' q:=by
 cases l with
 | nil=>exact .inl rfl
 | cons a l=>exact .inr ⟨_,_,_,rfl⟩
theorem rl {k:Nat}{lin:Lin}{l:List AV}{L:Nat}(h:lin.low L=true)(hl:dK l=true):AV.low L (lV k lin l)=true:=by
 cases l with
 | nil=>simp[lV,AV.low]
 | cons a l =>
   have:=dG hl L;simp only[lV,AV.low,this,h,Bool.and_self]
theorem O1 {k:Nat}{lin:Lin}{l:List AV}:AV.one (lV k lin l)=true:=by cases l <;> rfl
theorem GK {H K:Heap}{n:Nat}{c:AObj}(h:n < aa H):ai (H ++ K) n c=ai H n c ++ K:=by
 rw[aj] at h;rw[aN,aN,List.set_append_left _ _ h]
section
variable {M:Memo}{uo bo:Nat}{LV:AV}{d:NdR}{vm:List (List Nat × Nat)}{fm:FmS}{base:AV}{H:Heap}{ns0:List Nat}
theorem Bx (m:eu M){f:Ex→PS→Option (AtF × PS)}(hf:∀ e p a p',f e p=some (a,p')→p.w≤p'.w){L:List NdR}(hL:L.length≤90000)(hLV:LV=.sl 6 (L.map NdR.v) .dead)(hLi:∀ d' ∈ L,d'.ins.length≤90000){q:EqR}(hqa:q.a=true)(ihk:∀ a ∈ q.e.kids,fD M uo bo (aa H + 4) (aa H + 2) (aa H + 3) LV d (iu vm) fm base f a) :
  pu M uo bo LV d vm base H ns0 fm (t4 f fm L) q:=by
 intro Hc uc p' hp N hw;unfold t4 at hp
 split at hp
 ·cases hp
 rename_i nm pos lr hql
 split at hp
 ·cases hp
 rename_i o ho
 split at hp
 ·cases hp
 rename_i d' hfd
 split at hp
 ·cases hp
 rename_i xs fs p1 hp1
 split at hp
 ·cases hp
 rename_i s hs;obtain ⟨ho0,hp⟩:=aS hp;simp only[SJ] at hp;subst hp;obtain ⟨k,hk⟩ : ∃ k:Nat,o.1=(k:Int):=⟨o.1.toNat,by simp at ho0;omega⟩
 have hkn:o.1.toNat=k:=by omega
 rw[hkn] at hs hw ⊢
 have hwp:p1.w + 20 < 1000000:=by
  simp only[PS.w,List.length_set] at hw ⊢;exact hw
 have hdL:d' ∈ L:=by
  clear hs hp1 hL hLV hLi ihk
  induction L with
  | nil=>cases hfd
  | cons x l ih =>
    simp only[cD] at hfd;cases hx:strEq x.s q.e.s with
    | true=>rw[hx] at hfd;simp only[cond_true,SJ] at hfd;rw[hfd];exact List.mem_cons_self ..
    | false=>rw[hx] at hfd;exact List.mem_cons_of_mem _ (ih hfd)
 have huo:=N.C.U.uo;have N1:=N.ap [qO q];have hl1:aa (Hc ++ [qO q])=aa Hc + 1:=by rw[az];rfl
 obtain ⟨H1,u1,e1,A,F,hA,hAt,hFl,U1,G1,hpu,S1,hD,hLow⟩:=lC m hf hL hLV hfd (hLi _ hdL) ihk hp1 N1.C hwp;have C1:=N1.C.step U1 G1;obtain ⟨al,hAe,hAl⟩:=O2 hAt;obtain ⟨fl,hFe,hFw⟩:=NH hFl;have hsp:u1.sp.map SpF.q=p1.sp:=by rw[← hpu];rfl
 obtain ⟨s1,hs1,hs1q⟩ : ∃ s1,u1.sp[k]?=some s1∧s1.q=s:=by
  rw[← hsp,List.getElem?_map] at hs;cases hh:u1.sp[k]? with
  | none=>rw[hh] at hs;cases hs
  | some x=>rw[hh] at hs;exact ⟨x,rfl,by simpa using hs⟩
 have hklt:k < u1.sp.length:=by
  rcases Nat.lt_or_ge k u1.sp.length with h | h
  ·exact h
  ·rw[List.getElem?_eq_none h] at hs1;cases hs1
 obtain ⟨id,n,hS,hn⟩ : ∃ id n,u1.S=.rsl id 0 n n 4∧k < n:=by
  have hsl:=sn u1.sp
  rcases U1.s with ⟨h0,_⟩ | ⟨id,n,h0,_,_,hln,_⟩
  ·rw[h0] at hsl;simp only[List.length_nil] at hsl;omega
  ·rw[hsl] at hln;exact ⟨id,n,h0,by omega⟩
 let s2:SpF:=⟨s1.nd,xs,al,fs,fl,s1.at_⟩
 have hone2:s2.cs.all AV.one=true:=by
  simp only[s2,SpF.cs,List.all_cons,List.all_nil,O1,Bool.and_true,Bool.true_and];rfl
 have hlow2:aM (aa H1) s2.cs=true:=by
  have h1:=rl (k:=3) hAl (nB xs);have h2:=rl (k:=2) hFw (vA fs);simp only[s2,SpF.cs,aM,h1,h2,AV.low,Bool.and_true,Bool.true_and]
 obtain ⟨U2,G2⟩:=U1.setS hS hs1 hone2 hlow2
 have hg1:af H1 id=some (.cells (u1.sp.flatMap SpF.cs)):=by
  rcases U1.s with ⟨_,h1⟩ | ⟨id',n',h1,_,h2,_⟩
  ·rw[hS] at h1;cases h1
  ·rw[hS] at h1;simp only[AV.rsl.injEq] at h1;rw[h1.1];exact h2
 obtain ⟨P,R,e1',e2',e3'⟩:=sp_split hs1;have hcl:=sn u1.sp;have c1:cm (u1.sp.flatMap SpF.cs) (k * 4 + 1) [A]=P ++ [.str s1.nd,A,lV 2 s1.fl (s1.futs.map iw),.int .i64 s1.at_] ++ R:=by rw[e1'];exact O7 e2' _ _ _ _ _
 have c2:cm (P ++ [.str s1.nd,A,lV 2 s1.fl (s1.futs.map iw),.int .i64 s1.at_] ++ R) (k * 4 + 2) [F]=(u1.sp.set k s2).flatMap SpF.cs:=by
  rw[Nh e2',e3',hAe,hFe]
 have hidu:uo < id:=by have:=(U1.lt id (bM.2 (.inr (.inr (.inr (by rw[hS];simp[nmA])))))).1;exact this
 have hidl:=bL hg1;have st1:=fun b=>zh (r:=id) (off:=k * 4 + 1) (b:=b) (V:=A) (by rw[hAe];exact vn) (by rw[hAe];exact rl hAl (nB xs)) hg1 (by rw[aj];omega)
 have st2:=fun b=>zh (r:=id) (off:=k * 4 + 2) (b:=b) (H:=ai H1 id (.cells (cm (u1.sp.flatMap SpF.cs) (k * 4 + 1) [A]))) (V:=F) (by rw[hFe];exact vn) (by rw[ak,hFe];exact rl hFw (vA fs)) (aK hg1 _) (by
  rw[c1,aj];have:(P ++ s1.cs ++ R).length=4 * u1.sp.length:=by rw[← e1',hcl]
  simp only[List.length_append,List.length_cons,List.length_nil] at this ⊢;omega)
 rw[c1,dX,c2] at st2;rw[c1] at st1
 have key:∀ b2,(∀ b,b=min (aa Hc) e1→cond (AV.low (id + 1) F) (cond (AV.low (id + 1) A) b (min b id)) (min (cond (AV.low (id + 1) A) b (min b id)) id)=b2) →
   orc CC M 50 [.ptr bo 0,.ptr (aa H + 4) 0,q.v] Hc=some (kf (CC.keep 50) (aa Hc) Abs.undef ⟨ai H1 id (.cells ((u1.sp.set k s2).flatMap SpF.cs)),b2⟩):=by
  intro b2 hb2;have hb2':=hb2 _ rfl;refine aH (z:=z50) (m _ _ rfl) (by kernel_rfl) rfl ?_
  have e0:(envOf [.ptr bo 0,.ptr (aa H + 4) 0,q.v] 0 env0).a.a.a=.ptr bo 0:=rfl;have e1'' : (envOf [.ptr bo 0,.ptr (aa H + 4) 0,q.v] 0 env0).a.a.b=.ptr (aa H + 4) 0:=rfl;have e2'' : (envOf [.ptr bo 0,.ptr (aa H + 4) 0,q.v] 0 env0).a.a.c=q.v:=rfl;generalize envOf [.ptr bo 0,.ptr (aa H + 4) 0,q.v] 0 env0=R at e0 e1'' e2'';have hbx:=DY q;have hqo:af (Hc ++ [qO q]) (aa Hc)=some (qO q):=by rw[au];rfl
  have hcn:∀ x y:IRes,eX (.bool q.a) x y=x:=fun x y=>by rw[hqa];rfl
  have hs0:=N1.C.s;have hi0:bw 2 (.sl 2 (q.l.map p0) .dead) (.int .i64 0)=some (.iptr [.str nm,.int .i64 (pos:Int)]):=by rw[hql];rfl
  have hld:∀ (a b:AV) (h:Heap),ax none (.iptr [a,b]) h=some a:=fun _ _ _=>rfl
  have hfa0:∀ a b:AV,aE 0 (.iptr [a,b])=some (.iptr [a,b]):=fun _ _=>rfl
  have hlk:=kW (kH ho) N1.C.f
  have hfd0:lL none 0 (iw o)=some (.int .i64 (k:Int)):=by
   have:lL none 0 (iw o)=some (.int .i64 o.1):=rfl;rw[this,hk]
  have hb1:=C1.b;have hE1:=C1.U.ob;have hias:=OF (q:=id) hn;have st1':=st1 (min (aa Hc) e1);have st2':=st2 (cond (AV.low (id + 1) A) (min (aa Hc) e1) (min (min (aa Hc) e1) id));rw[hb2'] at st2';generalize cond (AV.low (id + 1) A) (min (aa Hc) e1) (min (min (aa Hc) e1) id)=bb at st1' st2';have st1'' : ay 1 (.ptr id ((k * 4).add 1)) A ⟨H1,min (aa Hc) e1⟩=_:=st1';have st2'' : ay 1 (.ptr id ((k * 4).add 2)) F ⟨_,bb⟩=_:=st2';have hgx:=fun c=>aK hg1 c
  have st2c:=st2';simp only[ay,hgx] at st2c;simp only[z50,tF,sR,MT,Lp,Je,SIM,ST0,ST1,ST2,e0,e1'',e2'',hbx,hqo,GM,hcn,hs0,sx,hi0,hld,hfa0,hlk,hfd0,xd,hA,hb1,hE1,hS,JJ,hias,st1'',hgx,st2'',st2',st2c,orVal,EXS,Nat.reduceAdd,Nat.reduceLeDiff]
 rcases hD with ⟨h1,h2,h3⟩ | h1
 ·
  subst h2
  have hlw:∀ L,AV.low L A=true∧AV.low L F=true:=by
   rcases hLow with h | h
   ·omega
   ·exact h
  have hS' : uc.S=.rsl id 0 n n 4:=by rw[← h3];exact hS
  have hidc:id < aa Hc:=(N.C.U.lt id (bM.2 (.inr (.inr (.inr (by rw[hS'];simp[nmA])))))).2
  have hlow3:aM (aa Hc) s2.cs=true:=by
   have g1:=(hlw (aa Hc)).1;have g2:=(hlw (aa Hc)).2;rw[hAe] at g1;rw[hFe] at g2;simp only[s2,SpF.cs,aM,g1,g2,AV.low,Bool.and_true,Bool.true_and]
  obtain ⟨U3,G3⟩:=N.C.U.setS (s':=s2) hS' (by rw[← h3];exact hs1) hone2 hlow3
  rw[h3] at key;have kk:=key (aa Hc) (fun b hb=>by rw[(hlw (id + 1)).1,(hlw (id + 1)).2,cond_true,cond_true];omega)
  rw[iJ rfl,GK hidc] at kk;have ht:∀ K:Heap,aa K=aa Hc→bB (aa Hc) (K ++ [qO q])=K:=fun K hK=>by rw[← hK];exact cb _ _
  rw[ht _ (ak _ _ _)] at kk;refine ⟨_,{ uc with sp:=uc.sp.set k s2 },aa Hc,kk,U3,G3,?_,⟨rfl,rfl,rfl,rfl⟩,by omega,fun h=>absurd (hqa.symm.trans h) (by decide)⟩
  rw[← hpu,h3];simp only[UN.p,List.map_set];rw[← hs1q];rfl
 ·have kk:=key uo (fun b hb=>by
   have:b=uo:=by omega
   rw[this];have hm:min uo id=uo:=Nat.min_eq_left (by omega)
   rw[hm];cases AV.low (id + 1) A <;> cases AV.low (id + 1) F <;> simp[hm])
  rw[dU (by omega)] at kk
  refine ⟨_,{ u1 with sp:=u1.sp.set k s2 },uo,kk,U2,(Gr.ap.trans G1).trans G2,?_,⟨S1.nd,S1.at_,S1.I,S1.O⟩,Nat.le_refl _,fun h=>absurd (hqa.symm.trans h) (by decide)⟩
  rw[← hpu];simp only[UN.p,List.map_set];rw[← hs1q];rfl
end
def Hb (lin:Lin)(i n:Nat):Lin:=if i + 1=n then (if i=0 then lin else if lin=.lit then .full else lin) else if lin=.frz then .frz else .dead
theorem If {lin:Lin}{i n L:Nat}(h:lin.low L=true):(Hb lin i n).low L=true:=by
 unfold Hb
 split
 ·split
  ·exact h
  ·split
   ·rfl
   ·exact h
 ·split <;> rfl
theorem Ea {T e k:Nat}(h:CC.P.underlying T=some (.slice e)∧dh CC e=some k){l:List AV}{i:Nat}{x:AV}(hx:l[i]?=some x)(lin:Lin):bq CC T (.sl k l lin) (some (.int .i64 (i:Int))) (some (.int .i64 ((i + 1:Nat):Int))) none=some (.sl k [x] (Hb lin i l.length)):=by
 obtain ⟨h1,h2⟩:=h
 have hlt:i < l.length:=by
  rcases Nat.lt_or_ge i l.length with h | h
  ·exact h
  ·rw[List.getElem?_eq_none h] at hx;cases hx
 have hb:cg 0 (some (.int .i64 (i:Int)))=some i:=by simp[cg,cT]
 have hb1:∀ n,cg n (some (.int .i64 ((i + 1:Nat):Int)))=some (i + 1):=fun n=>by simp[cg,cT];omega
 have hd:(l.take (i + 1)).drop i=[x]:=by
  rw[List.take_add_one,hx];rw[List.drop_append_of_le_length (by rw[List.length_take];omega)]
  rw[List.drop_eq_nil_of_le (by rw[List.length_take];omega)]
  rfl
 simp only[bq,h1,h2,hb,hb1];rw[if_pos ⟨by omega,by omega,trivial⟩,hd]
 rfl
def kz (vm:List (List Nat × Nat)):List (List Nat × Nat)→List AtF→PS→Option PS
 | [],_,p=>some p
 | _ :: _,[],_=>none
 | x :: l,a :: xs,p=>match fp x.1 vm with
   | none=>none
   | some v=>kz vm l xs { p with eqs:=p.eqs ++ [⟨cpS,v,[a]⟩] }
theorem mX {vm:List (List Nat × Nat)}:∀ (l:List (List Nat × Nat)) (xs:List AtF) (p p' : PS),kz vm l xs p=some p'→p.w≤p'.w∧p.nm≤p'.nm
 | [],xs,p,p',h=>by simp only[kz,SJ] at h;rw[h];exact ⟨Nat.le_refl _,Nat.le_refl _⟩
 | _ :: _,[],p,p',h=>by cases h
 | x :: l,a :: xs,p,p',h=>by
   simp only[kz] at h
   split at h
   ·cases h
   ·have:=mX l xs _ _ h;simp only[PS.w,List.length_append,List.length_cons,List.length_nil] at this ⊢;omega
theorem Pw (l:List (List Nat × Nat)):bF CC 80 (.sl 2 (l.map p0) .dead)=some (.int .i64 (l.length:Int)):=by
 obtain ⟨e,hu,_⟩:=cc120;rw[dB hu,List.length_map]
theorem Ns {l:List (List Nat × Nat)}{i:Nat}{x:List Nat × Nat}(h:l[i]?=some x):bw 2 (.sl 2 (l.map p0) .dead) (.int .i64 (i:Int))=some (.iptr [.str x.1,.int .i64 (x.2:Int)]):=by
 refine da (v:=p0 x) ?_;rw[aD,List.getElem?_map,h];rfl
section
variable {M:Memo}{uo bo so vo fo:Nat}{LV:AV}{d:NdR}{vm:List (List Nat × Nat)}{fm:FmS}{base:AV}
def TL (uo bo so vo fo:Nat)(LV:AV)(d:NdR)(vm:List (List Nat × Nat))(fm:FmS)(base:AV)(H:Heap)(ns0:List Nat)(u0:UN)(p' : PS)(X:IRes):Prop :=
 ∃ r' Hd ud,X=some (.exit 2,r',[],⟨Hd,uo⟩)∧Cx uo bo so vo fo LV d (iu vm) fm base Hd ud∧Gr uo H ns0 Hd ud.ns∧ud.p=p'∧Same u0 ud
theorem tZ (m:eu M)(hb:iy base){l:List (List Nat × Nat)}(hl:l.length≤90000){xs:List AtF}{lin:Lin}{H:Heap}{ns0:List Nat}{u0:UN}{p' : PS}(hw:p'.w + 20 < 1000000) :
  ∀ (k i:Nat),k + i=l.length→∀ (fu:Nat),k < fu→∀ (Hc:Heap) (uc:UN),kz vm (l.drop i) (xs.drop i) uc.p=some p'→Cx uo bo so vo fo LV d (iu vm) fm base Hc uc→Gr uo H ns0 Hc uc.ns→Same u0 uc→lin.low (aa Hc)=true →
  ∀ (r:RG),(r.a.a.a=.ptr bo 0∧r.a.a.b=.ptr so 0∧r.a.b.b=.nils∧r.a.b.c=.sl 3 (xs.map AtF.av) lin)→(r.b.d.g=.sl 2 (l.map p0) .dead∧r.b.d.h=.int .i64 (l.length:Int)∧r.b.e.a=.int .i64 (i:Int)) →
  TL uo bo so vo fo LV d vm fm base H ns0 u0 p' (aw (iR (orc CC M)) fu r [] ⟨Hc,uo⟩):=by
 intro k
 induction k with
 | zero =>
   intro i hi fu hfu Hc uc hp C G S hlin r ⟨h0,h1,h9,h10⟩ ⟨h32,h33,h34⟩;obtain ⟨fu',rfl⟩ : ∃ f,fu=f + 1:=⟨fu - 1,by omega⟩
   have:i=l.length:=by omega
   subst this;have hc:decide ((l.length:Int) < (l.length:Int))=false:=by simp
   rw[List.drop_length] at hp;simp only[kz,SJ] at hp;simp only[aw,iR,qV,SIM,ST0,ST1,ST2,ST3,h33,h34,hc];exact ⟨_,Hc,uc,rfl,C,G,hp,S⟩
 | succ k ih =>
   intro i hi fu hfu Hc uc hp C G S hlin r ⟨h0,h1,h9,h10⟩ ⟨h32,h33,h34⟩;obtain ⟨fu',rfl⟩ : ∃ f,fu=f + 1:=⟨fu - 1,by omega⟩
   have hlt:i < l.length:=by omega
   have hc:decide ((i:Int) < (l.length:Int))=true:=by simp;omega
   have hd:l.drop i=l[i] :: l.drop (i + 1):=List.drop_eq_getElem_cons hlt;have hg:l[i]?=some l[i]:=by simp[hlt]
   generalize l[i]=x at hd hg;have hias:=Ns hg;have ha:cQ (i:Int) 1=((i + 1:Nat):Int):=bA i 1 (by unfold natMax;omega)
   rw[hd] at hp
   have hxl:i < xs.length:=by
    rcases Nat.lt_or_ge i xs.length with h | h
    ·exact h
    ·rw[List.drop_eq_nil_of_le h] at hp;cases hp
   have hxd:xs.drop i=xs[i] :: xs.drop (i + 1):=List.drop_eq_getElem_cons hxl;have hxg:xs[i]?=some xs[i]:=by simp[hxl]
   generalize xs[i]=a at hxd hxg;rw[hxd] at hp;simp only[kz] at hp
   split at hp
   ·cases hp
   rename_i v hv;have hw1:=(mX _ _ _ _ hp).1;have C2:=C.ap [.cells [.str x.1,.int .i64 (x.2:Int)]];have hl1:aa (Hc ++ [AObj.cells [.str x.1,.int .i64 (x.2:Int)]])=aa Hc + 1:=by rw[az];rfl
   have hlow' : (Hb lin i xs.length).low (aa (Hc ++ [AObj.cells [.str x.1,.int .i64 (x.2:Int)]]))=true:=If (Lin.low_mono (by rw[hl1];omega) _ hlin)
   obtain ⟨V',H3,ha3,hu3,hl3,hf3,hst,U4,G4⟩:=C2.U.addE 50 ⟨cpS,v,[a],Hb lin i xs.length,gv0⟩ ⟨.inr rfl,hlow'⟩ (by
    simp only[PS.w,UN.p,List.length_append,List.length_map,List.length_cons,List.length_nil] at hw1 hw;omega)
   have C4:=C2.step U4 G4;have huo:=C.U.uo;have key:=ih (i + 1) (by omega) fu' (by omega) _ _ (by simpa [UN.p,EqF.q] using hp) C4 ((G.trans Gr.ap).trans G4) ⟨S.nd,S.at_,S.I,S.O⟩ (Lin.low_mono (by rw[ak];omega) _ hlin)
   have hgd:=dW m hb C2.s;rw[hl1] at hgd;have hlk:=kC (jj hv) C2.v
   have hsl:bq CC 88 (.sl 3 (xs.map AtF.av) lin) (some (.int .i64 (i:Int))) (some (.int .i64 ((i + 1:Nat):Int))) none=some (.sl 3 [a.av] (Hb lin i xs.length)):=by
    have:=Ea cs139 (l:=xs.map AtF.av) (i:=i) (x:=a.av) (by rw[List.getElem?_map,hxg];rfl) lin
    rw[List.length_map] at this;exact this
   have hsE:=C2.U.esame;have hE2:=C2.U.ob;have hb2:=C2.b;have hs2:=C2.s;have hsu:AV.same (.ptr uo 0) (.ptr uo 0)=true:=by simp[AV.same]
   have hsv:AV.same (.map vo) (.map vo)=true:=by simp[AV.same]
   have hsn:AV.same (.str x.1) (.str x.1)=true:=by simp[AV.same]
   have hsi:AV.same (.int .i64 (v:Int)) (.int .i64 (v:Int))=true:=by simp[AV.same]
   have h142:=zp cpS (v:Int) [a.av] (Hb lin i xs.length) (on:=gv0) (.inr rfl);have h83:=zC cpS (v:Int) [a.av] (Hb lin i xs.length) (on:=gv0) (.inr rfl);have ha' : ∀ e q,aq CC 50 62 uc.E (.sl 4 [.agg [.str cpS,.int .i64 (v:Int),.sl 3 [a.av] (Hb lin i xs.length),gv0]] q) ⟨Hc ++ [.cells [.str x.1,.int .i64 (x.2:Int)]],e⟩=some (V',⟨H3,e⟩):=ha3;have hb3:af H3 bo=some (.cells [.ptr uo 0,LV]):=by rw[hf3 bo (bL C2.b) (fun hm=>C2.nb (bM.2 (.inl hm))),C2.b]
   have hst':=hst uo (Nat.le_refl _);have hname:af (Hc ++ [AObj.cells [.str x.1,.int .i64 (x.2:Int)]]) (aa Hc)=some (.cells [.str x.1,.int .i64 (x.2:Int)]):=by rw[au];rfl
   have hm1:min uo (aa Hc + 1)=uo:=Nat.min_eq_left (by omega)
   simp only[aw,iR,qV,vY,xk,wA,SIM,ST0,ST1,ST2,ST3,h0,h1,h9,h10,h32,h33,h34,hc,hias,ha,hname,hb2,hE2,yX,hs2,wQ,hlk,hsl,hgd,hm1,hsE,hsu,hsv,hsn,hsi,h142,h83,ha',hb3,hst',orVal,EXS,Nat.reduceAdd,Nat.reduceLeDiff];exact key _ ⟨by first | rfl | exact h0,by first | rfl | exact h1,by first | rfl | exact h9,by first | rfl | exact h10⟩ ⟨by first | rfl | exact h32,by first | rfl | exact h33,rfl⟩
end
theorem cc22:∃ e,CC.P.underlying 61=some (.slice e)∧e=3:=⟨_,by kernel_rfl,rfl⟩
theorem Rk (l:List Nat)(q:Lin):bF CC 61 (.sl 1 (l.map inV) q)=some (.int .i64 (l.length:Int)):=by
 obtain ⟨e,hu,_⟩:=cc22;rw[dB hu,List.length_map]
section
variable {M:Memo}{uo bo so vo fo:Nat}{LV:AV}{d:NdR}{vm:List (List Nat × Nat)}{fm:FmS}{base:AV}
def TG (uo bo so vo fo:Nat)(LV:AV)(d:NdR)(vm:FmS)(fm:FmS)(base:AV)(H:Heap)(u:UN)(xs:List AtF)(qo:Nat)(X:IRes):Prop :=
 ∃ r' Hd A,X=some (.exit 0,r',[],⟨Hd,uo⟩)∧HdI uo bo so vo fo LV d vm fm base [] H u Hd u uo A .nils xs []∧(r'.a.a.a=.ptr bo 0∧r'.a.a.b=.ptr so 0∧r'.a.a.f=.ptr qo 0∧r'.a.b.b=.nils∧r'.a.b.c=A)
theorem AD {vs:List Nat}(hv:vs.length≤90000){lin:Lin}{H:Heap}{u:UN}{qo:Nat}{vmx:FmS} :
  ∀ (k i:Nat),k + i=vs.length→∀ (fu:Nat),k < fu→∀ (Hc:Heap) (A:AV) (xs:List AtF),xs.length≤i→HdI uo bo so vo fo LV d vmx fm base [] H u Hc u uo A .nils xs [] →
  ∀ (r:RG),(r.a.a.a=.ptr bo 0∧r.a.a.b=.ptr so 0∧r.a.a.f=.ptr qo 0∧r.a.b.b=.nils∧r.a.b.c=A)→(r.b.b.c=.sl 1 (vs.map inV) lin∧r.b.b.d=.int .i64 (vs.length:Int)∧r.b.b.e=.int .i64 (i:Int)) →
  TG uo bo so vo fo LV d vmx fm base H u (xs ++ (vs.drop i).map ph) qo (aw (nL (orc CC M)) fu r [] ⟨Hc,uo⟩):=by
 intro k
 induction k with
 | zero =>
   intro i hi fu hfu Hc A xs hx I r ⟨h0,h1,h5,h9,h10⟩ ⟨h32,h33,h34⟩;obtain ⟨fu',rfl⟩ : ∃ f,fu=f + 1:=⟨fu - 1,by omega⟩
   have:i=vs.length:=by omega
   subst this;have hc:decide ((vs.length:Int) < (vs.length:Int))=false:=by simp
   rw[List.drop_length];simp only[aw,nL,DN,SIM,ST0,ST1,ST2,ST3,h33,h34,hc];exact ⟨_,Hc,A,rfl,by simpa using I,by first | exact h0,by first | exact h1,by first | exact h5,by first | exact h9,by first | exact h10⟩
 | succ k ih =>
   intro i hi fu hfu Hc A xs hx I r ⟨h0,h1,h5,h9,h10⟩ ⟨h32,h33,h34⟩;obtain ⟨fu',rfl⟩ : ∃ f,fu=f + 1:=⟨fu - 1,by omega⟩
   have hlt:i < vs.length:=by omega
   have hc:decide ((i:Int) < (vs.length:Int))=true:=by simp;omega
   have hd:vs.drop i=vs[i] :: vs.drop (i + 1):=List.drop_eq_getElem_cons hlt;have hg:vs[i]?=some vs[i]:=by simp[hlt]
   generalize vs[i]=x at hd hg
   have hias:bw 1 (.sl 1 (vs.map inV) lin) (.int .i64 (i:Int))=some (.iptr [.int .i64 (x:Int)]):=by
    refine da (v:=inV x) ?_;rw[aD,List.getElem?_map,hg];rfl
   have hld:∀ (a:AV) (h:Heap),ax none (.iptr [a]) h=some a:=fun _ _=>rfl
   have ha:cQ (i:Int) 1=((i + 1:Nat):Int):=bA i 1 (by unfold natMax;omega)
   rw[hd];obtain ⟨A',H',hap,I2⟩:=I.appA 50 (ph x) (by omega)
   have key:=ih (i + 1) (by omega) fu' (by omega) H' A' (xs ++ [ph x]) (by simp;omega) I2
   rw[List.append_assoc] at key;have h139:=j5 (ph x);simp only[aw,nL,DN,CL,Bv,BL,SIM,ST0,ST1,ST2,ST3,h0,h1,h5,h9,h10,h32,h33,h34,hc,hias,hld,ha,vU,h139,hap,orVal,EXS,Nat.reduceAdd,Nat.reduceLeDiff];exact key _ ⟨by first | rfl | exact h0,by first | rfl | exact h1,by first | rfl | exact h5,by first | rfl | exact h9,rfl⟩ ⟨by first | rfl | exact h32,by first | rfl | exact h33,rfl⟩
theorem DH (m:eu M)(hb:iy base)(hl:(cA d).length≤90000)(hcl:∀ x ∈ cA d,x.c=[]){q:EqR}(hqa:q.a=false)(hk:q.e.k=13)(hqn:q.l ≠ [])(hql:q.l.length≤90000)
  {H:Heap} {u:UN} (C:Cx uo bo so vo fo LV d (iu vm) fm base H u) {V:AV} {H1:Heap} {u1:UN} {vs:List Nat} (hvn:vs ≠ []) (hvl:vs.length≤90000)
  (hA:orc CC M 63 [.ptr bo 0,.ptr so 0,q.e.v,.nils] (H ++ [qO q])=some (.ret V H1 uo)) {b:Nat} {ns:List Nat} (hV:G9 b ns H1 V vs) (U1:UI uo H1 u1) (G1:Gr uo (H ++ [qO q]) u.ns H1 u1.ns) (S1:Same u u1)
  {p' : PS} (hg:kz vm q.l (vs.map ph) u1.p=some p') (hw:p'.w + 20 < 1000000) :
  ∃ H' u',orc CC M 50 [.ptr bo 0,.ptr so 0,q.v] H=some (.ret Abs.undef H' uo)∧UI uo H' u'∧Gr uo H u.ns H' u'.ns∧u'.p=p'∧Same u u':=by
 have C0:=C.ap [qO q];have C1:=C0.step U1 G1;have huo:=C.U.uo;have hlq:aa (H ++ [qO q])=aa H + 1:=by rw[az];rfl
 have hg1:=G1.len;rw[hlq] at hg1
 obtain ⟨id,g,hVe⟩ : ∃ id g,V=.sl 1 (vs.map inV) (.live id g):=by
  rcases hV with ⟨h,_⟩ | ⟨_,id,g,h,_⟩
  ·exact absurd h hvn
  ·exact ⟨id,g,h⟩
 have I0:HdI uo bo so vo fo LV d (iu vm) fm base [] H1 u1 H1 u1 uo .nils .nils [] [] :=
  ⟨C1,by rw[List.append_nil];exact Gr.refl,Same.refl,.inr rfl,.inl ⟨rfl,rfl⟩,.inl ⟨rfl,rfl⟩,fun _ h=>(by cases h),fun _ h=>(by cases h),fun _ h=>(by cases h),fun _ _ _=>rfl,⟨U1.uo,bL C1.b,bL C1.s,bL C1.v,bL C1.f⟩,fun q hq=>(U1.lt q hq).2⟩
 have hqo:af (H ++ [qO q]) (aa H)=some (qO q):=by rw[au];rfl
 have hqo1:af H1 (aa H)=some (qO q):=by rw[G1.fr _ (by omega) (by omega) (fun hm=>by have:=(C.U.lt _ hm).2;omega),hqo]
 have e0:(envOf [.ptr bo 0,.ptr so 0,q.v] 0 env0).a.a.a=.ptr bo 0:=rfl;have e1:(envOf [.ptr bo 0,.ptr so 0,q.v] 0 env0).a.a.b=.ptr so 0:=rfl;have e2:(envOf [.ptr bo 0,.ptr so 0,q.v] 0 env0).a.a.c=q.v:=rfl
 obtain ⟨x0,lr,hq0⟩ : ∃ x0 lr,q.l=x0 :: lr:=by
  cases h:q.l with
  | nil=>exact absurd h hqn
  | cons a l=>exact ⟨a,l,rfl⟩
 obtain ⟨r0,hr0,hr1,hpre⟩ : ∃ r,(r.a.a.a=.ptr bo 0∧r.a.a.b=.ptr so 0∧r.a.a.f=.ptr (aa H) 0∧r.a.b.b=.nils∧r.a.b.c=.nils)∧(r.b.b.c=.sl 1 (vs.map inV) (.live id g)∧r.b.b.d=.int .i64 (vs.length:Int)∧r.b.b.e=.int .i64 ((0:Nat):Int)) ∧
   z50.sh (orc CC M) (envOf [.ptr bo 0,.ptr so 0,q.v] 0 env0) [] ⟨H,aa H⟩=dZ (ac (pe (orc CC M)) (aX 2 (bi (iR (orc CC M))))) (dD 0 (aw (nL (orc CC M)) 100000 r [] ⟨H1,uo⟩)):=by
  generalize envOf [.ptr bo 0,.ptr so 0,q.v] 0 env0=R at e0 e1 e2;have hbx:=DY q;have hof:=vE m hl hcl x0.1 C0.s;rw[hlq] at hof;have hm1:min (aa H) (aa H + 1)=aa H:=Nat.min_eq_left (by omega)
  have hm2:min (aa H) uo=uo:=Nat.min_eq_right (by omega)
  have hcn:∀ x y:IRes,eX (.bool q.a) x y=y:=fun x y=>by rw[hqa];rfl
  have c13:decide ((q.e.k:Int)=13)=true:=by rw[hk];rfl
  have hi0:bw 2 (.sl 2 (q.l.map p0) .dead) (.int .i64 0)=some (.iptr [.str x0.1,.int .i64 (x0.2:Int)]):=by rw[hq0];rfl
  have hfa0:∀ a b:AV,aE 0 (.iptr [a,b])=some (.iptr [a,b]):=fun _ _=>rfl
  have hld:∀ (a b:AV) (h:Heap),ax none (.iptr [a,b]) h=some a:=fun _ _ _=>rfl
  have hln:=Rk vs (.live id g);rw[hVe] at hA;simp only[z50,tF,sR,yu,y3,yb,J8,SIM,ST0,ST1,ST2,ST3,e0,e1,e2,hbx,hqo,GM,hcn,hi0,hfa0,hld,hof,hm1,c13,xd,hA,hm2,hln,EXS,Nat.reduceAdd,Nat.reduceLeDiff];exact ⟨_,⟨by first | rfl | exact e0,by first | rfl | exact e1,rfl,rfl,rfl⟩,⟨rfl,rfl,rfl⟩,rfl⟩
 obtain ⟨r1,Hd,A,hX,I,b0,b1,b5,b9,b10⟩:=AD (M:=M) hvl vs.length 0 rfl 100000 (by omega) H1 .nils [] (by simp) I0 r0 hr0 hr1
 rw[List.drop_zero,List.nil_append] at I;have hIl:=I.len;simp only[bj] at hIl
 obtain ⟨lin,hAe,hlin⟩ : ∃ lin:Lin,A=.sl 3 ((vs.map ph).map AtF.av) lin∧lin.low (aa Hd)=true:=by
  rcases I.lA with ⟨h,_⟩ | ⟨_,id,g,h,hg,_⟩
  ·simp at h;exact absurd h hvn
  ·exact ⟨_,h,by simp[Lin.low,bL hg]⟩
 have hqo2:af Hd (aa H)=some (qO q):=by
  rw[I.G.fr _ (by rw[List.append_nil];omega) (by omega) (fun hm=>by
   rcases G1.ns _ hm with h | h
   ·have:=(C.U.lt _ h).2;omega
   ·omega),List.append_nil,hqo1]
 obtain ⟨r2,hr2,hr3,hmid⟩ : ∃ r,(r.a.a.a=.ptr bo 0∧r.a.a.b=.ptr so 0∧r.a.b.b=.nils∧r.a.b.c=.sl 3 ((vs.map ph).map AtF.av) lin)∧(r.b.d.g=.sl 2 (q.l.map p0) .dead∧r.b.d.h=.int .i64 (q.l.length:Int)∧r.b.e.a=.int .i64 ((0:Nat):Int)) ∧
   dZ (ac (pe (orc CC M)) (aX 2 (bi (iR (orc CC M))))) (dD 0 (some (.exit 0,r1,[],⟨Hd,uo⟩)))=dD 2 (aw (iR (orc CC M)) 100000 r [] ⟨Hd,uo⟩):=by
  have hln:=Pw q.l;simp only[pe,SIM,ST0,ST1,ST2,ST3,b5,hqo2,GM,hln,Nat.reduceAdd,Nat.reduceLeDiff];exact ⟨_,⟨by first | rfl | exact b0,by first | rfl | exact b1,by first | rfl | exact b9,by first | rfl | (rw[← hAe];exact b10)⟩,⟨rfl,rfl,rfl⟩,rfl⟩
 obtain ⟨r3,He,ue,hY,C5,G5,hp5,S5⟩:=tZ m hb hql (H:=Hd) (ns0:=u1.ns) (u0:=u1) (p':=p') hw q.l.length 0 rfl 100000 (by omega) Hd u1 (by rw[List.drop_zero,List.drop_zero];exact hg) I.C Gr.refl Same.refl hlin r2 hr2 hr3
 have hG:Gr uo H u.ns He ue.ns:=by
  have h1:Gr uo H1 u1.ns Hd u1.ns:=by have:=I.G;rw[List.append_nil] at this;exact this
  exact ((Gr.ap.trans G1).trans h1).trans G5
 refine ⟨He,ue,aH (z:=z50) (m _ _ rfl) (by kernel_rfl) rfl ?_,C5.U,hG,hp5,S1.trans S5⟩
 rw[hpre,hX,hmid,hY];show some (kf (CC.keep 50) (aa H) Abs.undef ⟨He,uo⟩)=_;rw[dU (by omega)]
end
end Go.Proofs
