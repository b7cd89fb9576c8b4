/- expressions, equations. Part of the proof of girandolelaw12.SplitHanded. -/
import Derived.Test.YtglacbfdbfhmfaaGreatDoorFl1
import Derived.Test.YtglacbfdbfhmfaaGreatDoorDec
set_option linter.unusedVariables false
set_option linter.unusedSimpArgs false
set_option maxRecDepth 1000000
namespace Go.Proofs
open Go Go.Abs
theorem dE {L:Nat}:∀ {a b:List AV},aG L (a++b)=(aG L a&&aG L b)
 | [],b=>by simp[aG]
 | x::a,b=>by simp only[List.cons_append,aG,dE (a:=a) (b:=b),Bool.and_assoc]
theorem IS (a:AtF):AV.same a.av a.av=true:=by simp[AV.same,sameL]
section
variable {M:Memo}{uo bo so vo fo:Nat}{LV:AV}{d:NdR}{vm:List (List Nat×Nat)}{fm:List (List Nat×AV)}{base:AV}
theorem BU (m:ga M){ext:Ex->PS->Option (AtF×PS)}(hx:∀ e p a p',ext e p=some (a,p')->p.w<=p'.w)(hb:mo base)
  (hext:∀ (k:Nat) (e:Ex),(Nat.beq e.k 13||Nat.beq e.k 14)=true->sizeE e<90000->jq M uo bo so vo fo LV d (nB vm) fm base (dn vm ext (k+1)) e) :
  ∀ (k:Nat)(e:Ex),sizeE e<90000->jq M uo bo so vo fo LV d (nB vm) fm base (dn vm ext k) e:=by
 intro k
 induction k with
 | zero=>intro e he H u a p' h;cases h
 | succ k ih =>
   intro e he;have hsk:=i4 e;have hlk:=sizeL_len e.kids;have ihk:∀ a∈e.kids,jq M uo bo so vo fo LV d (nB vm) fm base (dn vm ext k) a:=λa ha=>ih a (by have:=jb ha;omega)
   cases h1:(Nat.beq e.k 1||Nat.beq e.k 2) with
   | true=>exact H8 m ext k h1
   | false =>
     cases h3:Nat.beq e.k 3 with
     | true=>exact Ej m ext k (Nat.eq_of_beq_eq_true h3)
     | false =>
       cases h4:AM e.k with
       | true=>exact Kq m hx hb k h4 (by omega) ihk
       | false =>
         cases h13:(Nat.beq e.k 13||Nat.beq e.k 14) with
         | true=>exact hext k e h13 he
         | false =>
           intro H u a p' hxx;simp only[dn,h1,h3,h4,h13,cond_false] at hxx;cases hxx
end
theorem atl_same:∀ l:List AtF,sameL (l.map AtF.av) (l.map AtF.av)=true
 | []=>by simp[sameL]
 | a::l=>by rw[List.map_cons];simp[sameL,IS,atl_same l]
theorem GK (q:EqF)(h:mo q.on):AV.same q.av q.av=true:=by
 rcases h with h|h<;>simp[AV.same,sameL,atl_same,h]
theorem eqfl_same:∀ l:List EqF,(∀ q∈l,mo q.on)->sameL (l.map EqF.av) (l.map EqF.av)=true
 | [],_=>by simp[sameL]
 | a::l,h=>by
   rw[List.map_cons];simp only[sameL,GK a (h a (List.mem_cons_self ..)),eqfl_same l (λq hq=>h q (List.mem_cons_of_mem _ hq)),Bool.and_self]
theorem UI.esame {uo:Nat}{H:Heap}{u:UN}(h:UI uo H u):AV.same u.E u.E=true:=by
 rcases h.e with ⟨_,h1⟩|⟨_,id,g,h1,_⟩
 ·rw[h1];simp[AV.same]
 ·rw[h1];simp[AV.same,eqfl_same u.eqs h.el]
theorem th (a:AV)(lin:Lin):bt CC 139 (.sl 3 [a] lin) (some (.int .i64 0)) (some (.int .i64 1)) none=some (.sl 3 [a] lin):=by kernel_rfl
theorem cc120:∃ e,CC.P.underlying 120=some (.slice e)/\e=179:=⟨_,by kernel_rfl,rfl⟩
theorem EM (a:AV)(q:Lin):aO CC 120 (.sl 2 [a] q)=some (.int .i64 1):=by
 obtain ⟨e,hu,_⟩:=cc120;rw[cO hu];rfl
abbrev qO (q:EqR):AObj:=.cells (qR q.l .dead q.a q.e)
theorem zF (q:EqR):gK q.v=true:=by
 have:=eq_noN [q];simp only[List.map_cons,List.map_nil,br,noNL_nil] at this;cases h:gK q.v with
 | true=>rfl
 | false=>rw[h] at this;cases this
theorem zj (q:EqR):(qR q.l .dead q.a q.e).all AV.one=true:=by
 simp only[List.all_cons,List.all_nil,lz,j3,gI,g9,uu,Bool.and_self]
theorem Iu (q:EqR)(L:Nat):dV q.v L=some (qO q,(.ptr · 0)):=by
 have h1:q.v.low L=true:=(fS _ (zF q)).2 L;unfold dV;rw[if_pos ⟨zj q,h1⟩];rfl
def oT (f:Ex->PS->Option (AtF×PS))(vm:List (List Nat×Nat))(nm:List Nat)(e:Ex)(p:PS):Option PS:=match eY nm vm with
 | none=>none
 | some v=>match f e p with
   | none=>none
   | some (a,p1)=>some { p1 with eqs:=p1.eqs++[⟨[99,111,112,121],v,[a]⟩] }
theorem Qs (a b c d e f g h:AV):ae [a,b,c,d,e,f,g,h] 0=some a:=rfl
theorem Jh (a b c d e f g h:AV):eP (some 6) [a,b,c,d,e,f,g,h] 2=some (.agg [c,d,e,f,g,h]):=rfl
section
variable {M:Memo}{uo bo so vo fo:Nat}{LV:AV}{d:NdR}{vm:List (List Nat×Nat)}{fm:List (List Nat×AV)}{base:AV}
theorem I8 (m:ga M){f:Ex->PS->Option (AtF×PS)}(hf:∀ e p a p',f e p=some (a,p')->p.w<=p'.w)(hb:mo base)(hl:(cS d).length<=90000)(hcl:∀ x∈cS d,x.c=[]){e:Ex}{nm:List Nat}{pos:Nat}(hk:Nat.beq e.k 13=false)(he:jq M uo bo so vo fo LV d (nB vm) fm base f e)
  {H:Heap} {u:UN} {p' : PS} (hg:oT f vm nm e u.p=some p') (C:Cx uo bo so vo fo LV d (nB vm) fm base H u) (hw:p'.w+20<1000000) :
  ∃ H' u',orc CC M 117 [.ptr bo 0,.ptr so 0,EqR.v ⟨[(nm,pos)],false,e⟩] H=some (.ret Abs.undef H' uo)/\UI uo H' u'/\Gr uo H u.ns H' u'.ns/\u'.p=p'/\Same u u':=by
 unfold oT at hg
 split at hg
 ·cases hg
 ·rename_i v hv
  split at hg
  ·cases hg
  ·rename_i a p1 hp;simp only[SJ] at hg
   have hw1:p1.w+21<1000000:=by
    rw[<-hg] at hw;simp only[PS.w,List.length_append,List.length_cons,List.length_nil] at hw ⊢;omega
   let q:EqR:=⟨[(nm,pos)],false,e⟩
   have C0:=C.ap [qO ⟨[(nm,pos)],false,e⟩];have hat:eT f [e] u.p=some ([a],p1):=by simp only[eT,hp]
   obtain ⟨H1,u1,e1,V1,hA,hL,U1,G1,hp1,S1,hD⟩:=tw (V:=.sl 6 [e.v] .lit) m hf (kids:=[e]) (by simp) (λx hx=>by simp only[List.mem_singleton] at hx;rw[hx];exact he) (λi x hx=>by
    cases i with
    | zero=>simp only[List.getElem?_cons_zero,SJ] at hx;subst hx;exact bN (v:=e.v) rfl
    | succ i=>simp at hx) (by obtain ⟨e',hu',rfl⟩:=cc121;rw[cO hu'];rfl) C0 hat (by omega)
   obtain ⟨h0,_⟩|⟨_,lin,rfl,hlin⟩:=hL
   ·cases h0
   have C1:=C0.step U1 G1;have C2:=C1.ap [.cells [.str nm,.int .i64 (pos:Int)]];obtain ⟨V',H3,ha,hu3,hl3,hf3,hst,U4,G4⟩:=C2.U.addE 117 ⟨[99,111,112,121],v,[a],lin,gv0⟩ ⟨.inr rfl,Lin.low_mono (by rw[az];omega) _ hlin⟩ (by rw[<-hp1,UN.pw] at hw1;omega)
   have huo:=C.U.uo;have K1:=G1.trans (Gr.ap (K:=[.cells [.str nm,.int .i64 (pos:Int)]]));have l0:=K1.loc C.U (j:=0) (by rw[bq,cd];omega)
   have l0' : ae (H1++[.cells [.str nm,.int .i64 (pos:Int)]]) (aa H)=some (qO ⟨[(nm,pos)],false,e⟩):=by have:=l0.1;rw[Nat.add_zero] at this;rw[this];rfl
   have l01:ae H1 (aa H)=some (qO ⟨[(nm,pos)],false,e⟩):=by
    have:=(G1.loc C.U (j:=0) (by rw[bq,cd];omega)).1
    rw[Nat.add_zero] at this;rw[this];rfl
   have m0:ae (H++[qO ⟨[(nm,pos)],false,e⟩]) (aa H)=some (qO ⟨[(nm,pos)],false,e⟩):=by rw[an];rfl
   have hb3:ae H3 bo=some (.cells [.ptr uo 0,LV]):=by rw[hf3 bo (bG C2.b) (λhm=>C2.nb (bT.2 (.inl hm))),C2.b]
   refine ⟨_,_,?_,U4,(Gr.ap.trans K1).trans G4,by rw[<-hg,<-hp1];simp[UN.p,EqF.q],⟨S1.nd,S1.at_,S1.I,S1.O⟩⟩
   refine aJ (z:=z117) (m _ _ rfl) (by kernel_rfl) rfl ?_
   have e0:(envOf [.ptr bo 0,.ptr so 0,EqR.v ⟨[(nm,pos)],false,e⟩] 0 env0).a.a.a=.ptr bo 0:=rfl;have e1' : (envOf [.ptr bo 0,.ptr so 0,EqR.v ⟨[(nm,pos)],false,e⟩] 0 env0).a.a.b=.ptr so 0:=rfl;have e2:(envOf [.ptr bo 0,.ptr so 0,EqR.v ⟨[(nm,pos)],false,e⟩] 0 env0).a.a.c=EqR.v ⟨[(nm,pos)],false,e⟩:=rfl;generalize envOf [.ptr bo 0,.ptr so 0,EqR.v ⟨[(nm,pos)],false,e⟩] 0 env0=R at e0 e1' e2;have hbx:=Iu ⟨[(nm,pos)],false,e⟩;have hof:=C8 m hl hcl nm C0.s;have hlH:aa (H++[qO ⟨[(nm,pos)],false,e⟩])=aa H+1:=by rw[az];rfl
   rw[hlH] at hof;have hgd:=jo m hb C2.s;have hl1:aa (H1++[AObj.cells [.str nm,.int .i64 (pos:Int)]])=aa H1+1:=by rw[az];rfl
   rw[hl1] at hgd;have hm1:min (aa H) (aa H+1)=aa H:=Nat.min_eq_left (by omega)
   have hlu:uo<aa H1:=U1.uo;have c13:decide ((e.k:Int)=13)=false:=by rw[show decide ((e.k:Int)=13)=Nat.beq e.k 13 from xX e.k 13];exact hk
   have hi0:aL 2 (.sl 2 ([(nm,pos)].map BJ) .dead) (.int .i64 0)=some (.iptr [.str nm,.int .i64 (pos:Int)]):=rfl;have hfa0:∀ a b:AV,aC 0 (.iptr [a,b])=some (.iptr [a,b]):=λ_ _=>rfl
   have hld:∀ (a b:AV) (h:Heap),aw none (.iptr [a,b]) h=some a:=λ_ _ _=>rfl
   have hx1:=W5 e;have hln:=EM (BJ (nm,pos)) .dead;have hln' : aO CC 120 (.sl 2 ([(nm,pos)].map BJ) .dead)=some (.int .i64 1):=hln;have hc1:decide ((0:Int)<1)=true:=by decide
   have hc2:decide ((1:Int)<1)=false:=by decide
   have hlk:=kG (i6 hv) C2.v;have ha01:bR 0 1=1:=by decide
   have hsl:=th a.av lin;have hV:[a].map AtF.av=[a.av]:=rfl;rw[hV] at hA;have h142:=zg [99,111,112,121] (v:Int) [a.av] lin (on:=gv0) (.inr rfl);have h83:=yZ [99,111,112,121] (v:Int) [a.av] lin (on:=gv0) (.inr rfl);have hsE:=C2.U.esame;have hE2:=C2.U.ob;have hb2:=C2.b;have hs2:=C2.s;have hsu:AV.same (.ptr uo 0) (.ptr uo 0)=true:=by simp[AV.same]
   have hsv:AV.same (.map vo) (.map vo)=true:=by simp[AV.same]
   have hub:uo<=min (min (aa H) e1) (aa H1+1):=by
    rcases hD with ⟨h,_,_⟩|h
    ·omega
    ·omega
   have hst':=hst _ hub;have hgc:=λhp=>dL (keep:=CC.keep 117) (base:=aa H) (e:=uo) (v:=Abs.undef) (hp:=hp) (by omega)
   have hlz:∀ e:AObj,aa (H1++[e])=aa H1+1:=λe=>by rw[az];rfl
   have ha' : ∀ e l,aq CC 117 83 u1.E (.sl 4 [.agg [.str [99,111,112,121],.int .i64 (v:Int),.sl 3 [a.av] lin,gv0]] l) ⟨H1++[.cells [.str nm,.int .i64 (pos:Int)]],e⟩=some (V',⟨H3,e⟩):=ha;have hname:ae (H1++[AObj.cells [.str nm,.int .i64 (pos:Int)]]) (aa H1)=some (.cells [.str nm,.int .i64 (pos:Int)]):=by rw[an];rfl
   simp only[z117,rA,qC,vQ,wH,uA,yP,rJ,q5,rk,rS,qt,q8,LW,X5,SIM,ST0,ST1,ST2,ST3,e0,e1',e2,hbx,m0,Qs,hi0,hfa0,hld,hof,hm1,c13,Jh,EXS,hx1,hA,l01,l0',hln',hc1,hc2,hname,hb2,hE2,kK,hs2,vL,hlk,ha01,hsl,hgd,hsE,hsu,hsv,h142,h83,ha',hb3,hst',hgc,Nat.reduceAdd,Nat.reduceLeDiff]
end
structure Nd (uo bo:Nat)(LV:AV)(d:NdR)(vm:List (List Nat×Nat))(fm:List (List Nat×AV))(base:AV)(H:Heap)(ns0:List Nat)(Hc:Heap)(uc:UN):Prop where
 C:Cx uo bo (aa H+4) (aa H+2) (aa H+3) LV d (nB vm) fm base Hc uc
 x:ae Hc (aa H)=some (.cells [.ptr bo 0])
 n:ae Hc (aa H+1)=some (dq d)
 x' : aa H∉uc.ns
 n' : aa H+1∉uc.ns
 G:Gr uo H ns0 Hc uc.ns
 uh:uo<aa H
 bh:bo<aa H
section
variable {uo bo:Nat}{LV:AV}{d:NdR}{vm:List (List Nat×Nat)}{fm:List (List Nat×AV)}{base:AV}{H Hc H' : Heap}{ns0:List Nat}{uc u' : UN}
theorem Nd.step (N:Nd uo bo LV d vm fm base H ns0 Hc uc)(U:UI uo H' u')(G:Gr uo Hc uc.ns H' u'.ns):Nd uo bo LV d vm fm base H ns0 H' u':=by
 have h1:=bG N.x;have h2:=bG N.n;have hu:=N.uh;exact ⟨N.C.step U G,by rw[G.fr _ h1 (by omega) N.x',N.x],by rw[G.fr _ h2 (by omega) N.n',N.n],λhm=>(G.ns _ hm).elim N.x' (λh=>by omega),λhm=>(G.ns _ hm).elim N.n' (λh=>by omega),N.G.trans G,N.uh,N.bh⟩
theorem Nd.ap (N:Nd uo bo LV d vm fm base H ns0 Hc uc)(K:Heap):Nd uo bo LV d vm fm base H ns0 (Hc++K) uc:=N.step N.C.U.ap Gr.ap
theorem Nd.vset (N:Nd uo bo LV d vm fm base H ns0 Hc uc){vm' : List (List Nat×Nat)}:Nd uo bo LV d vm' fm base H ns0 (am Hc (aa H+2) (.map (kE (nB vm')))) uc:=by
 have hu:=N.uh;have hb:=N.bh;refine ⟨⟨N.C.U.to (by rw[ay];exact Nat.le_refl _) (λq hq hm=>af ?_ _),by rw[af (by omega)];exact N.C.b,by rw[af (by omega)];exact N.C.s,aF N.C.v _,by rw[af (by omega)];exact N.C.f,N.C.nb,N.C.ns,N.C.nv,N.C.nf⟩,by rw[af (by omega)];exact N.x,by rw[af (by omega)];exact N.n,N.x',N.n',N.G.put2 (by omega),N.uh,N.bh⟩
 rintro rfl
 rcases hm with h|h
 ·omega
 ·exact N.C.nv h
end
def RN (H:Heap)(base A F:AV)(r:RG):Prop:=r.a.a.f=.ptr (aa H) 0/\r.a.a.g=.ptr (aa H+1) 0/\r.a.b.d=.ptr (aa H+4) 0/\r.a.a.e=base/\r.a.a.c=A/\r.a.a.d=F
def PS.inc (p:PS):PS:={ p with vars:=p.vars+1 }
theorem MZ (p:PS):p.inc.w=p.w+1:=by simp only[PS.inc,PS.w];omega
def placesP:List DeR->List (List Nat×Nat)->PS->Option (List (List Nat×Nat)×PS)
 | [],vm,p=>some (vm,p)
 | x::l,vm,p=>cond x.f (placesP l vm p) (match eY x.s vm with
   | some _=>none
   | none=>placesP l (vm++[(x.s,p.vars)]) p.inc)
theorem placesP_w:∀ (l:List DeR) (vm vm' : List (List Nat×Nat)) (p p' : PS),placesP l vm p=some (vm',p')->p.w<=p'.w
 | [],vm,vm',p,p',h=>by simp only[placesP,SJ,PJ] at h;rw[h.2];exact Nat.le_refl _
 | x::l,vm,vm',p,p',h=>by
   simp only[placesP] at h;cases hf:x.f with
   | true=>rw[hf] at h;exact placesP_w l _ _ _ _ h
   | false =>
     rw[hf] at h;simp only[cond_false] at h
     split at h
     ·cases h
     ·have:=placesP_w l _ _ _ _ h;have h2:=MZ p;omega
theorem ye {nm:List Nat}:∀ {vm:List (List Nat×Nat)},eY nm vm=none->cr nm (nB vm)=none
 | [],h=>rfl
 | (s,w)::r,h=>by
   simp only[eY] at h;simp only[nB,List.map_cons,cr];cases hs:strEq s nm with
   | true=>rw[hs] at h;cases h
   | false=>rw[hs] at h;simp only[cond_false] at h ⊢;exact ye h
theorem sP {α:Type}(rec:RecT)(s s' : St)(ds:Dfs)(k:AV->Dfs->St->Option α)(kp:AV->St->Option α):oE rec (some (.skip s')) ds s k kp=k Abs.undef ds s':=rfl
theorem Xn {nm:List Nat}{v:Int}{vm:List (List Nat×AV)}{vo:Nat}{H:Heap}{e:Nat}(h:cr nm vm=none)(hg:ae H vo=some (.map (kE vm))) :
  bf CC 209 (.map vo) (.str nm) (.int .i64 v) ⟨H,e⟩=some ⟨am H vo (.map (kE (vm++[(nm,.int .i64 v)]))),e⟩:=by
 obtain ⟨t,ht,_⟩:=NT nm;rw[aB] at hg;have hlow:∀ L,(AV.int .i64 v).low L=true:=λL=>by simp[AV.low]
 have hesc:dl (.int .i64 v) vo ⟨H,e⟩=e:=by simp[dl,AV.low]
 simp only[bf,ht,hg,mt,hlow,gX 0 h,hesc,if_true,and_self];simp[kE,aR]
section
variable {M:Memo}{uo bo:Nat}{LV:AV}{d:NdR}{fm:List (List Nat×AV)}{base:AV}{H:Heap}{ns0:List Nat}
def YS (uo bo:Nat)(LV:AV)(d:NdR)(fm:List (List Nat×AV))(base:AV)(H:Heap)(ns0:List Nat)(i:Nat)(A F:AV)(vm' : List (List Nat×Nat))(uc:UN)(p' : PS)(X:IRes):Prop :=
 ∃ r' Hd ud e',X=some (.exit i,r',[],⟨Hd,e'⟩)/\Nd uo bo LV d vm' fm base H ns0 Hd ud/\ud.p=p'/\Same uc ud/\uo<=e'/\RN H base A F r'
theorem sX (m:ga M){A F:AV}{L:List DeR}(hL:L.length<=90000){u0:UN}{p' : PS}{vm' : List (List Nat×Nat)}(hw:p'.w+20<1000000) :
  ∀ (k i:Nat),k+i=L.length->∀ (fu:Nat),k<fu->∀ (Hc:Heap) (uc:UN) (e:Nat) (vm:List (List Nat×Nat)),placesP (L.drop i) vm uc.p=some (vm',p')->Nd uo bo LV d vm fm base H ns0 Hc uc->Same u0 uc->uo<=e->∀ (r:RG),RN H base A F r ->
  (r.a.e.a=allZ L/\r.a.e.b=.int .i64 (L.length:Int)/\r.a.e.c=.int .i64 (i:Int)) ->
  YS uo bo LV d fm base H ns0 0 A F vm' u0 p' (ax (pF (orc CC M)) fu r [] ⟨Hc,e⟩):=by
 intro k
 induction k with
 | zero =>
   intro i hi fu hfu Hc uc e vm hp N S he r hr ⟨h32,h33,h34⟩;obtain ⟨fu',rfl⟩ : ∃ f,fu=f+1:=⟨fu-1,by omega⟩
   have:i=L.length:=by omega
   subst this;have hc:decide ((L.length:Int)<(L.length:Int))=false:=by simp
   rw[List.drop_length] at hp;simp only[placesP,SJ,PJ] at hp;obtain ⟨rfl,rfl⟩:=hp;simp only[ax,pF,y1,SIM,ST0,ST1,h33,h34,hc];exact ⟨_,Hc,uc,e,rfl,N,rfl,S,he,by first|exact hr⟩
 | succ k ih =>
   intro i hi fu hfu Hc uc e vm hp N S he r hr ⟨h32,h33,h34⟩;obtain ⟨hr5,hr6,hr11,hr4,hr2,hr3⟩:=hr;obtain ⟨fu',rfl⟩ : ∃ f,fu=f+1:=⟨fu-1,by omega⟩
   have hlt:i<L.length:=by omega
   have hc:decide ((i:Int)<(L.length:Int))=true:=by simp;omega
   have hd:L.drop i=L[i]::L.drop (i+1):=List.drop_eq_getElem_cons hlt;have hg:L[i]?=some L[i]:=by simp[hlt]
   generalize L[i]=a at hg hd;have hat:=tK hg;have ha:bR (i:Int) 1=((i+1:Nat):Int):=aZ i 1 (by unfold natMax;omega)
   rw[hd] at hp;simp only[placesP] at hp;have N1:=N.ap [.cells a.l];cases haf:a.f with
   | true =>
     rw[haf] at hp;simp only[cond_true] at hp;have hnf:(!a.f)=false:=by rw[haf];rfl
     have key:=ih (i+1) (by omega) fu' (by omega) (Hc++[.cells a.l]) uc e vm hp N1 S he
     simp only[ax,pF,y1,Du,D3,Dl,SIM,ST0,ST1,h32,h33,h34,hc,hat,ha,hnf,Nat.reduceAdd,Nat.reduceLeDiff];exact key _ ⟨by first|rfl|exact hr5,by first|rfl|exact hr6,by first|rfl|exact hr11,by first|rfl|exact hr4,by first|rfl|exact hr2,by first|rfl|exact hr3⟩ ⟨by first|rfl|exact h32,by first|rfl|exact h33,rfl⟩
   | false =>
     rw[haf] at hp;simp only[cond_false] at hp
     split at hp
     ·cases hp
     ·rename_i hlk;have hnf:(!a.f)=true:=by rw[haf];rfl
      have hw1:=placesP_w _ _ _ _ _ hp;have hpw:=UN.pw uc
      obtain ⟨H1,hP,U1,G1,hl1⟩:=rY m N1.C.U N1.C.b (by
       have h2:=MZ uc.p;omega)
      have N2:=N1.step (u':={ uc with vars:=uc.vars+1 }) U1 G1
      have N3:=N2.vset (vm':=vm++[(a.s,uc.vars)]);have key:=ih (i+1) (by omega) fu' (by omega) (am H1 (aa H+2) (.map (kE (nB (vm++[(a.s,uc.vars)]))))) { uc with vars:=uc.vars+1 } (min e (aa Hc+1)) (vm++[(a.s,uc.vars)]) hp N3 ⟨S.nd,S.at_,S.I,S.O⟩ (by have:=N.C.U.uo;omega)
      have hmu:=λee=>Xn (e:=ee) (v:=(uc.vars:Int)) (ye hlk) N2.C.v
      have hkE:nB vm++[(a.s,AV.int .i64 (uc.vars:Int))]=nB (vm++[(a.s,uc.vars)]):=by simp
      rw[hkE] at hmu;have hx:=N1.x;have hs:=N1.C.s;have hs2:=N2.C.s;have hdo:ae (Hc++[AObj.cells a.l]) (aa Hc)=some (.cells a.l):=by rw[an];rfl
      have hdo2:ae H1 (aa Hc)=some (.cells a.l):=by
       rw[G1.fr (aa Hc) (by rw[az,bq,cd];omega) (by have:=N.C.U.uo;omega) (λhm=>by have:=(N.C.U.lt _ hm).2;omega),hdo]
      have hlz:aa (Hc++[AObj.cells a.l])=aa Hc+1:=by rw[az];rfl
      rw[hlz] at hP;have hsv:AV.same (.map (aa H+2)) (.map (aa H+2))=true:=by simp[AV.same]
      simp only[ax,pF,y1,Du,D3,MA,Dl,SIM,ST0,ST1,h32,h33,h34,hr5,hr11,hc,hat,ha,hnf,hx,hs,vL,hdo,hP,hs2,hdo2,hsv,hmu,orSt,sP,Nat.reduceAdd,Nat.reduceLeDiff];exact key _ ⟨by first|rfl|exact hr5,by first|rfl|exact hr6,by first|rfl|exact hr11,by first|rfl|exact hr4,by first|rfl|exact hr2,by first|rfl|exact hr3⟩ ⟨by first|rfl|exact h32,by first|rfl|exact h33,rfl⟩
end
theorem cs139:CC.P.underlying 139=some (.slice 93)/\cU CC 93=some 3:=⟨by kernel_rfl,by kernel_rfl⟩
theorem cs148:CC.P.underlying 148=some (.slice 152)/\cU CC 152=some 2:=⟨by kernel_rfl,by kernel_rfl⟩
def hdL (lin:Lin)(l:List AV):Lin:=if l=[] then lin else if lin=.frz then .frz else .dead
def Kv (lin:Lin):Lin:=if lin=.lit then .full else lin
theorem Dh {T e k:Nat}(h:CC.P.underlying T=some (.slice e)/\cU CC e=some k)(a:AV)(l:List AV)(lin:Lin):bt CC T (.sl k (a::l) lin) none (some (.int .i64 1)) none=some (.sl k [a] (hdL lin l)):=by
 obtain ⟨h1,h2⟩:=h;have hb:cK 0 none=some 0:=rfl;have hb1:∀ n,cK n (some (.int .i64 1))=some 1:=λn=>rfl
 simp only[bt,h1,h2,hb,hb1];rw[if_pos (by simp)]
 simp only[List.length_cons,List.take_succ_cons,List.take_zero,List.drop_zero];unfold hdL;cases l with
 | nil=>simp
 | cons b l=>simp
theorem oF {T e k:Nat}(h:CC.P.underlying T=some (.slice e)/\cU CC e=some k)(a:AV)(l:List AV)(lin:Lin):bt CC T (.sl k (a::l) lin) (some (.int .i64 1)) none none=some (.sl k l (Kv lin)):=by
 obtain ⟨h1,h2⟩:=h;have hb:cK 0 (some (.int .i64 1))=some 1:=rfl;have hb1:∀ n,cK n none=some n:=λn=>rfl
 simp only[bt,h1,h2,hb,hb1];rw[if_pos (by simp)]
 simp[Kv]
theorem J6 {lin:Lin}{l:List AV}{L:Nat}(h:lin.low L=true):(hdL lin l).low L=true:=by
 unfold hdL
 split
 ·exact h
 ·split
  ·rfl
  ·rfl
theorem J9 {lin:Lin}{L:Nat}(h:lin.low L=true):(Kv lin).low L=true:=by
 unfold Kv
 split
 ·rfl
 ·exact h
def AL (xs:List AtF)(A:AV)(L:Nat):Prop:=(xs=[]/\A=.nils)\/∃ lin,A=.sl 3 (xs.map AtF.av) lin/\lin.low L=true
def FL (fs:List (Int×Int))(F:AV):Prop:=(fs=[]/\F=.nils)\/∃ lin,F=.sl 2 (fs.map eb) lin
abbrev cpS:List Nat:=[99,111,112,121]
def lj (vm:List (List Nat×Nat)):List DeR->List AtF->List (Int×Int)->List (List Nat×AV)->PS->Option (List (List Nat×AV)×PS)
 | [],_,_,fm,p=>some (fm,p)
 | x::l,xs,fs,fm,p=>cond x.f (match fs with
   | []=>none
   | o::fs=>match cr x.s fm with
     | some _=>none
     | none=>lj vm l xs fs (fm++[(x.s,eb o)]) p) (match xs with
   | []=>none
   | a::xs=>match eY x.s vm with
     | none=>none
     | some v=>lj vm l xs fs fm { p with eqs:=p.eqs++[⟨cpS,v,[a]⟩] })
theorem np {vm:List (List Nat×Nat)}:∀ (l:List DeR) (xs:List AtF) (fs:List (Int×Int)) (fm fm' : List (List Nat×AV)) (p p' : PS),lj vm l xs fs fm p=some (fm',p')->p.w<=p'.w
 | [],xs,fs,fm,fm',p,p',h=>by simp only[lj,SJ,PJ] at h;rw[h.2];exact Nat.le_refl _
 | x::l,xs,fs,fm,fm',p,p',h=>by
   simp only[lj] at h;cases hf:x.f with
   | true =>
     rw[hf] at h;simp only[cond_true] at h
     split at h
     ·cases h
     ·split at h
      ·cases h
      ·exact np l _ _ _ _ _ _ h
   | false =>
     rw[hf] at h;simp only[cond_false] at h
     split at h
     ·cases h
     ·split at h
      ·cases h
      ·have:=np l _ _ _ _ _ _ h;simp only[PS.w,List.length_append,List.length_cons,List.length_nil] at this ⊢;omega
theorem qP {L:List DeR}{i:Nat}{a:DeR}(h:L[i]?=some a):aL 6 (deZ L) (.int .i64 (i:Int))=some (.iptr a.l):=by
 cases L with
 | nil=>simp at h
 | cons b l =>
   show aL 6 (.sl 6 ((b::l).map DeR.v) .dead) _=_;refine bN (v:=a.v) ?_;rw[aB,List.getElem?_map,h];rfl
theorem mK (L:List DeR):aO CC 58 (deZ L)=some (.int .i64 (L.length:Int)):=by
 obtain ⟨e,hu,_⟩:=cc58;cases L with
 | nil=>show aO CC 58 .nils=_;rw[cA];simp[dh,hu]
 | cons a l=>show aO CC 58 (.sl 6 ((a::l).map DeR.v) .dead)=_;rw[cO hu,List.length_map]
theorem Xc {nm:List Nat}{fm:List (List Nat×AV)}{fo:Nat}{H:Heap}{e:Nat}(h:cr nm fm=none)(hg:ae H fo=some (.map (kE fm))) :
  cQ CC 233 (.map fo) (.str nm) ⟨H,e⟩=some (.tuple [.agg [.int .i64 0,.int .i64 0],.int .i64 (fm.length:Int)],⟨am H fo (.map (kE (fm++[(nm,.agg [.int .i64 0,.int .i64 0])]))),e⟩):=by
 obtain ⟨t,ht,rfl⟩:=EY nm;have hz:cj CC 152=some (.agg [.int .i64 0,.int .i64 0]):=by kernel_rfl
 rw[aB] at hg;simp only[cQ,ht,hg,mt,gX 0 h,hz,if_true];simp[kE,aR]
theorem TW {nm:List Nat}{v z:AV}{fm:List (List Nat×AV)}{fo:Nat}{H:Heap}{e:Nat}(hv:gK v=true)(hg:ae H fo=some (.map (kE (fm++[(nm,z)])))) :
  ce (.map fo) (.int .i64 (fm.length:Int)) v ⟨H,e⟩=some ⟨am H fo (.map (kE (fm++[(nm,v)]))),e⟩:=by
 have hlow:∀ L,v.low L=true:=λL=>(fS v hv).2 L
 have hesc:dl v fo ⟨H,e⟩=e:=by simp[dl,hlow]
 have hn:cC (.int .i64 (fm.length:Int))=some fm.length:=by simp[cC]
 have hgi:(kE (fm++[(nm,z)]))[fm.length]?=some (.str nm,z):=by simp[kE]
 have hset:(kE (fm++[(nm,z)])).set fm.length (.str nm,v)=kE (fm++[(nm,v)]):=by
  simp only[kE,List.map_append,List.map_cons,List.map_nil];have h1:fm.length=(fm.map λx:List Nat×AV=>(AV.str x.1,x.2)).length:=by simp
  rw[h1,List.set_append_right _ _ (Nat.le_refl _),Nat.sub_self];rfl
 rw[aB] at hg;simp only[ce,hn,hg,hgi,hlow,hesc,hset,if_true,aR]
section
variable {uo bo:Nat}{LV:AV}{d:NdR}{vm:List (List Nat×Nat)}{fm:List (List Nat×AV)}{base:AV}{H Hc H' : Heap}{ns0:List Nat}{uc u' : UN}
theorem Nd.fset (N:Nd uo bo LV d vm fm base H ns0 Hc uc){fm' : List (List Nat×AV)}:Nd uo bo LV d vm fm' base H ns0 (am Hc (aa H+3) (.map (kE fm'))) uc:=by
 have hu:=N.uh;have hb:=N.bh;refine ⟨⟨N.C.U.to (by rw[ay];exact Nat.le_refl _) (λq hq hm=>af ?_ _),by rw[af (by omega)];exact N.C.b,by rw[af (by omega)];exact N.C.s,by rw[af (by omega)];exact N.C.v,aF N.C.f _,N.C.nb,N.C.ns,N.C.nv,N.C.nf⟩,by rw[af (by omega)];exact N.x,by rw[af (by omega)];exact N.n,N.x',N.n',N.G.put2 (by omega),N.uh,N.bh⟩
 rintro rfl
 rcases hm with h|h
 ·omega
 ·exact N.C.nf h
end
section
variable {M:Memo}{uo bo:Nat}{LV:AV}{d:NdR}{vm:List (List Nat×Nat)}{base:AV}{H:Heap}{ns0:List Nat}
def Zm (uo bo:Nat)(LV:AV)(d:NdR)(vm:List (List Nat×Nat))(fm' : List (List Nat×AV))(base:AV)(H:Heap)(ns0:List Nat)(u0:UN)(p' : PS)(X:IRes):Prop :=
 ∃ r' Hd ud e' A F,X=some (.exit 2,r',[],⟨Hd,e'⟩)/\Nd uo bo LV d vm fm' base H ns0 Hd ud/\ud.p=p'/\Same u0 ud/\uo<=e'/\RN H base A F r'
theorem FH (hb:mo base){L:List DeR}(hL:L.length<=90000){u0:UN}{p' : PS}{fm' : List (List Nat×AV)}(hw:p'.w+20<1000000) :
  ∀ (k i:Nat),k+i=L.length->∀ (fu:Nat),k<fu->∀ (Hc:Heap) (uc:UN) (e:Nat) (xs:List AtF) (fs:List (Int×Int)) (A F:AV) (fm:List (List Nat×AV)),lj vm (L.drop i) xs fs fm uc.p=some (fm',p')->Nd uo bo LV d vm fm base H ns0 Hc uc->AL xs A (aa Hc)->FL fs F->Same u0 uc->uo<=e->∀ (r:RG),RN H base A F r ->
  (r.a.g.e=deZ L/\r.a.g.f=.int .i64 (L.length:Int)/\r.a.g.g=.int .i64 (i:Int)) ->
  Zm uo bo LV d vm fm' base H ns0 u0 p' (ax (lQ (orc CC M)) fu r [] ⟨Hc,e⟩):=by
 intro k
 induction k with
 | zero =>
   intro i hi fu hfu Hc uc e xs fs A F fm hp N hA hF S he r hr ⟨h32,h33,h34⟩;obtain ⟨fu',rfl⟩ : ∃ f,fu=f+1:=⟨fu-1,by omega⟩
   have:i=L.length:=by omega
   subst this;have hc:decide ((L.length:Int)<(L.length:Int))=false:=by simp
   rw[List.drop_length] at hp;simp only[lj,SJ,PJ] at hp;obtain ⟨rfl,rfl⟩:=hp;simp only[ax,lQ,rZ,SIM,ST0,ST1,h33,h34,hc];exact ⟨_,Hc,uc,e,A,F,rfl,N,rfl,S,he,by first|exact hr⟩
 | succ k ih =>
   intro i hi fu hfu Hc uc e xs fs A F fm hp N hA hF S he r hr ⟨h32,h33,h34⟩;obtain ⟨hr5,hr6,hr11,hr4,hr2,hr3⟩:=hr;obtain ⟨fu',rfl⟩ : ∃ f,fu=f+1:=⟨fu-1,by omega⟩
   have hlt:i<L.length:=by omega
   have hc:decide ((i:Int)<(L.length:Int))=true:=by simp;omega
   have hd:L.drop i=L[i]::L.drop (i+1):=List.drop_eq_getElem_cons hlt;have hg:L[i]?=some L[i]:=by simp[hlt]
   generalize L[i]=a at hg hd;have hat:=qP hg;have ha:bR (i:Int) 1=((i+1:Nat):Int):=aZ i 1 (by unfold natMax;omega)
   rw[hd] at hp;simp only[lj] at hp;have N1:=N.ap [.cells a.l];have hdo:ae (Hc++[AObj.cells a.l]) (aa Hc)=some (.cells a.l):=by rw[an];rfl
   have hlz:aa (Hc++[AObj.cells a.l])=aa Hc+1:=by rw[az];rfl
   have hx:=N1.x;have hs:=N1.C.s;cases haf:a.f with
   | true =>
     have hcn:∀ x y:IRes,eW (.bool a.f) x y=x:=λx y=>by rw[haf];rfl
     rw[haf] at hp;simp only[cond_true] at hp
     split at hp
     ·cases hp
     ·rename_i o fs'
      split at hp
      ·cases hp
      ·rename_i hlk;obtain ⟨h0,_⟩|⟨lin,rfl⟩:=hF
       ·cases h0
       have N2:=N1.fset (fm':=fm++[(a.s,eb o)]);have hme:=λee=>Xc (e:=ee) hlk N1.C.f
       have hfe:=aF N1.C.f (.map (kE (fm++[(a.s,.agg [.int .i64 0,.int .i64 0])])));have hes:=λee=>TW (v:=eb o) (e:=ee) rfl hfe
       have hss:∀ (h:Heap) (n:Nat) (x y:AObj),am (am h n x) n y=am h n y:=λh n x y=>fK h n x y
       have hi0:aL 2 (.sl 2 ((o::fs').map eb) lin) (.int .i64 0)=some (.iptr [.int .i64 o.1,.int .i64 o.2]):=rfl;have hld:∀ (x y:AV) (h:Heap),aw (some 2) (.iptr [x,y]) h=some (.agg [x,y]):=λ_ _ _=>rfl
       have hsl:bt CC 148 (.sl 2 ((o::fs').map eb) lin) (some (.int .i64 1)) none none=some (.sl 2 (fs'.map eb) (Kv lin)):=oF cs148 (eb o) (fs'.map eb) lin;have hso:AV.same (.agg [.int .i64 o.1,.int .i64 o.2]) (.agg [.int .i64 o.1,.int .i64 o.2])=true:=by simp[AV.same,sameL]
       have key:=ih (i+1) (by omega) fu' (by omega) (am (Hc++[.cells a.l]) (aa H+3) (.map (kE (fm++[(a.s,eb o)])))) uc e xs fs' A (.sl 2 (fs'.map eb) (Kv lin)) (fm++[(a.s,eb o)]) hp N2 (hA.imp id (λ⟨q,h1,h2⟩=>⟨q,h1,Lin.low_mono (by rw[ay,hlz];omega) _ h2⟩)) (.inr ⟨_,rfl⟩) S he
       simp only[ax,lQ,rZ,wB,wX,Dd,wN,SIM,ST0,ST1,h32,h33,h34,hr11,hr3,hc,hat,ha,hcn,hs,AY,hdo,hi0,hld,hsl,hme,hes,hss,hso,orSt,orVal,sP,Nat.reduceAdd,Nat.reduceLeDiff];exact key _ ⟨by first|rfl|exact hr5,by first|rfl|exact hr6,by first|rfl|exact hr11,by first|rfl|exact hr4,by first|rfl|exact hr2,rfl⟩ ⟨by first|rfl|exact h32,by first|rfl|exact h33,rfl⟩
   | false =>
     have hcn:∀ x y:IRes,eW (.bool a.f) x y=y:=λx y=>by rw[haf];rfl
     rw[haf] at hp;simp only[cond_false] at hp
     split at hp
     ·cases hp
     ·rename_i x xs'
      split at hp
      ·cases hp
      ·rename_i v hlk;obtain ⟨h0,_⟩|⟨lin,rfl,hlin⟩:=hA
       ·cases h0
       have hw1:=np _ _ _ _ _ _ _ hp;have hpw:=UN.pw uc
       obtain ⟨V',H3,hap,hu3,hl3,hf3,hst,U4,G4⟩:=N1.C.U.addE 81 ⟨cpS,v,[x],hdL lin (xs'.map AtF.av),base⟩ ⟨hb,J6 (Lin.low_mono (by rw[hlz];omega) _ hlin)⟩ (by
        simp only[PS.w,List.length_append,List.length_cons,List.length_nil] at hw1 hw;simp only[UN.p,List.length_map] at hw1;omega)
       have N2:=N1.step U4 G4;have hb1:=N1.C.b;have hE1:=N1.C.U.ob;have hv1:=kG (i6 hlk) N1.C.v;have hsl1:bt CC 139 (.sl 3 ((x::xs').map AtF.av) lin) none (some (.int .i64 1)) none=some (.sl 3 [x.av] (hdL lin (xs'.map AtF.av))):=Dh cs139 x.av (xs'.map AtF.av) lin;have hsl2:bt CC 139 (.sl 3 ((x::xs').map AtF.av) lin) (some (.int .i64 1)) none none=some (.sl 3 (xs'.map AtF.av) (Kv lin)):=oF cs139 x.av (xs'.map AtF.av) lin;have h142:=zg cpS (v:Int) [x.av] (hdL lin (xs'.map AtF.av)) hb;have h83:=yZ cpS (v:Int) [x.av] (hdL lin (xs'.map AtF.av)) hb;have hap' : ∀ e l,aq CC 81 83 uc.E (.sl 4 [.agg [.str cpS,.int .i64 (v:Int),.sl 3 [x.av] (hdL lin (xs'.map AtF.av)),base]] l) ⟨Hc++[.cells a.l],e⟩=some (V',⟨H3,e⟩):=hap;have hbl:=bG N1.C.b;have hb3:ae H3 bo=some (.cells [.ptr uo 0,LV]):=by rw[hf3 bo hbl (λhm=>N1.C.nb (bT.2 (.inl hm))),hb1]
       have hx3:ae H3 (aa H)=some (.cells [.ptr bo 0]):=by rw[hf3 _ (bG N1.x) (λhm=>N1.x' (bT.2 (.inl hm))),hx]
       have hst':=hst e he;have hsb:AV.same (.ptr bo 0) (.ptr bo 0)=true:=by simp[AV.same]
       have hsu:AV.same (.ptr uo 0) (.ptr uo 0)=true:=by simp[AV.same]
       have key:=ih (i+1) (by omega) fu' (by omega) _ _ uo xs' fs (.sl 3 (xs'.map AtF.av) (Kv lin)) F fm (by simpa [UN.p,EqF.q] using hp) N2 (.inr ⟨_,rfl,J9 (Lin.low_mono (by rw[ay];omega) _ hlin)⟩) hF ⟨S.nd,S.at_,S.I,S.O⟩ (Nat.le_refl _)
       simp only[ax,lQ,rZ,wB,wX,Ge,HB,wN,SIM,ST0,ST1,h32,h33,h34,hr5,hr11,hr4,hr2,hc,hat,ha,hcn,hx,hb1,hE1,hs,vL,kK,hdo,hv1,hsl1,hsl2,h142,h83,hap',hb3,hx3,hsb,hsu,hst',orSt,orVal,sP,Nat.reduceAdd,Nat.reduceLeDiff];exact key _ ⟨by first|rfl|exact hr5,by first|rfl|exact hr6,by first|rfl|exact hr11,by first|rfl|exact hr4,rfl,by first|rfl|exact hr3⟩ ⟨by first|rfl|exact h32,by first|rfl|exact h33,rfl⟩
end
theorem cc59:∃ e,CC.P.underlying 59=some (.slice e)/\e=125:=⟨_,by kernel_rfl,rfl⟩
theorem qH (L:List EqR):aO CC 59 (oZ L)=some (.int .i64 (L.length:Int)):=by
 obtain ⟨e,hu,_⟩:=cc59;rw[cO hu,List.length_map]
theorem qF {L:List EqR}{i:Nat}{q:EqR}(h:L[i]?=some q):aL 8 (oZ L) (.int .i64 (i:Int))=some (.iptr (qR q.l .dead q.a q.e)):=by
 refine bN (v:=q.v) ?_;rw[aB,List.getElem?_map,h];rfl
theorem X4 (a b c d e f g h:AV)(H:Heap):aw (some 8) (.iptr [a,b,c,d,e,f,g,h]) H=some (.agg [a,b,c,d,e,f,g,h]):=rfl
theorem mM (q:EqR):AV.cells q.v=qR q.l .dead q.a q.e:=rfl
def sizeP:List EqR->PS->Option PS
 | [],p=>some p
 | q::l,p=>cond (Nat.ble (p.size+sizeE q.e) 1500) (sizeP l { p with size:=p.size+sizeE q.e }) none
theorem sizeP_w:∀ (l:List EqR) (p p' : PS),sizeP l p=some p'->p.w<=p'.w
 | [],p,p',h=>by simp only[sizeP,SJ] at h;rw[h];exact Nat.le_refl _
 | q::l,p,p',h=>by
   simp only[sizeP] at h;obtain ⟨_,h⟩:=aT h;have:=sizeP_w l _ _ h;simp only[PS.w] at this ⊢;omega
section
variable {M:Memo}{uo bo:Nat}{LV:AV}{d:NdR}{vm:List (List Nat×Nat)}{fm:List (List Nat×AV)}{base:AV}{H:Heap}{ns0:List Nat}
theorem Bp (m:ga M){L:List EqR}(hL:L.length<=90000){u0:UN}{p' : PS}{A F:AV}(hw:p'.w+20<1000000) :
  ∀ (k i:Nat),k+i=L.length->∀ (fu:Nat),k<fu->∀ (Hc:Heap) (uc:UN) (e:Nat),sizeP (L.drop i) uc.p=some p'->Nd uo bo LV d vm fm base H ns0 Hc uc->Same u0 uc->uo<=e->∀ (r:RG),RN H base A F r ->
  (r.b.f.a=oZ L/\r.b.f.b=.int .i64 (L.length:Int)/\r.b.f.c=.int .i64 (i:Int)) ->
  YS uo bo LV d fm base H ns0 4 A F vm u0 p' (ax (nQ (orc CC M)) fu r [] ⟨Hc,e⟩):=by
 intro k
 induction k with
 | zero =>
   intro i hi fu hfu Hc uc e hp N S he r hr ⟨h32,h33,h34⟩;obtain ⟨fu',rfl⟩ : ∃ f,fu=f+1:=⟨fu-1,by omega⟩
   have:i=L.length:=by omega
   subst this;have hc:decide ((L.length:Int)<(L.length:Int))=false:=by simp
   rw[List.drop_length] at hp;simp only[sizeP,SJ] at hp;subst hp;simp only[ax,nQ,uD,SIM,ST0,ST1,ST2,ST3,h33,h34,hc];exact ⟨_,Hc,uc,e,rfl,N,rfl,S,he,by first|exact hr⟩
 | succ k ih =>
   intro i hi fu hfu Hc uc e hp N S he r hr ⟨h32,h33,h34⟩;obtain ⟨hr5,hr6,hr11,hr4,hr2,hr3⟩:=hr;obtain ⟨fu',rfl⟩ : ∃ f,fu=f+1:=⟨fu-1,by omega⟩
   have hlt:i<L.length:=by omega
   have hc:decide ((i:Int)<(L.length:Int))=true:=by simp;omega
   have hd:L.drop i=L[i]::L.drop (i+1):=List.drop_eq_getElem_cons hlt;have hg:L[i]?=some L[i]:=by simp[hlt]
   generalize L[i]=q at hg hd;have hat:=qF hg;have ha:bR (i:Int) 1=((i+1:Nat):Int):=aZ i 1 (by unfold natMax;omega)
   rw[hd] at hp;simp only[sizeP] at hp;obtain ⟨hb1,hp⟩:=aT hp;rw[dW,decide_eq_true_eq] at hb1;have hsz:uc.p.size=uc.size:=rfl;rw[hsz] at hb1 hp;have N1:=N.ap [qO q];have hwp:=sizeP_w _ _ _ hp;have hpw:=UN.pw uc;have E:=I5 m (u:=uc) (sizeE q.e) q.e (Nat.le_refl _) (by omega) uc.size (Hc++[qO q]) (by omega) N1.x N1.C.b N1.C.U.ob
   have hlz:aa (Hc++[qO q])=aa Hc+1:=by rw[az];rfl
   rw[hlz] at E
   have U2:=N1.C.U.setv (v:=uc.vars) (s:=uc.size+sizeE q.e) (i:=uc.I) (o:=uc.O) (by
    simp only[PS.w] at hwp hw;simp only[UN.p,List.length_map] at hwp;omega)
   have N2:Nd uo bo LV d vm fm base H ns0 (am (Hc++[qO q]) uo (uO uc (uc.size+sizeE q.e))) { uc with size:=uc.size+sizeE q.e }:=N1.step U2 (Gr.put _)
   have hdo:ae (Hc++[qO q]) (aa Hc)=some (qO q):=by rw[an];rfl
   have hone:=zj q;have hnn:=zF q;have hx2:=N2.x;have hb2:=N2.C.b;have hu2:ae (am (Hc++[qO q]) uo (uO uc (uc.size+sizeE q.e))) uo=some (uO uc (uc.size+sizeE q.e)):=N2.C.U.ob;have hgt:decide ((1500:Int)<((uc.size+sizeE q.e:Nat):Int))=false:=by simp;omega
   have key:=ih (i+1) (by omega) fu' (by omega) _ _ (min e (aa Hc+1)) hp N2 ⟨S.nd,S.at_,S.I,S.O⟩ (by have:=N.C.U.uo;omega)
   generalize am (Hc++[qO q]) uo (uO uc (uc.size+sizeE q.e))=H2 at E N2 hx2 hb2 hu2 key;simp only[ax,nQ,uD,DD,HC,E8,C6,SIM,ST0,ST1,ST2,ST3,h32,h33,h34,hr5,hc,hat,ha,X4,mM,hone,hnn,hdo,Jh,EXS,E,hx2,hb2,hu2,Mj,hgt,Nat.reduceAdd,Nat.reduceLeDiff];exact key _ ⟨by first|rfl|exact hr5,by first|rfl|exact hr6,by first|rfl|exact hr11,by first|rfl|exact hr4,by first|rfl|exact hr2,by first|rfl|exact hr3⟩ ⟨by first|rfl|exact h32,by first|rfl|exact h33,rfl⟩
end
abbrev FmS:=List (List Nat×AV)
def dJ (sp:EqR->FmS->PS->Option (FmS×PS)):List EqR->FmS->PS->Option (FmS×PS)
 | [],fm,p=>some (fm,p)
 | q::l,fm,p=>cond q.a (match sp q fm p with
   | none=>none
   | some (fm1,p1)=>dJ sp l fm1 p1) (dJ sp l fm p)
def eF (gv:EqR->PS->Option PS):List EqR->PS->Option PS
 | [],p=>some p
 | q::l,p=>match gv q p with
   | none=>none
   | some p1=>eF gv l p1
theorem gr {sp:EqR->FmS->PS->Option (FmS×PS)}(hs:∀ q fm p fm' p',sp q fm p=some (fm',p')->p.w<=p'.w):∀ (l:List EqR) (fm fm' : FmS) (p p' : PS),dJ sp l fm p=some (fm',p')->p.w<=p'.w
 | [],fm,fm',p,p',h=>by simp only[dJ,SJ,PJ] at h;rw[h.2];exact Nat.le_refl _
 | q::l,fm,fm',p,p',h=>by
   simp only[dJ] at h;cases hq:q.a with
   | true =>
     rw[hq] at h;simp only[cond_true] at h
     split at h
     ·cases h
     ·rename_i fm1 p1 h1;exact Nat.le_trans (hs _ _ _ _ _ h1) (gr hs l _ _ _ _ h)
   | false=>rw[hq] at h;exact gr hs l _ _ _ _ h
theorem km {gv:EqR->PS->Option PS}(hs:∀ q p p',gv q p=some p'->p.w<=p'.w):∀ (l:List EqR) (p p' : PS),eF gv l p=some p'->p.w<=p'.w
 | [],p,p',h=>by simp only[eF,SJ] at h;rw[h];exact Nat.le_refl _
 | q::l,p,p',h=>by
   simp only[eF] at h
   split at h
   ·cases h
   ·rename_i p1 h1;exact Nat.le_trans (hs _ _ _ h1) (km hs l _ _ h)
section
variable (M:Memo)(uo bo:Nat)(LV:AV)(d:NdR)(vm:List (List Nat×Nat))(base:AV)(H:Heap)(ns0:List Nat)
def E7 (sp:EqR->FmS->PS->Option (FmS×PS))(q:EqR):Prop:=∀ (Hc:Heap) (uc:UN) (fm fm' : FmS) (p' : PS),sp q fm uc.p=some (fm',p')->Nd uo bo LV d vm fm base H ns0 Hc uc->p'.w+20<1000000 ->
 ∃ H' u',orc CC M 116 [.ptr bo 0,.ptr (aa H+4) 0,q.v] Hc=some (.ret Abs.undef H' uo)/\Nd uo bo LV d vm fm' base H ns0 H' u'/\u'.p=p'/\Same uc u'
def Br (fm:FmS)(gv:EqR->PS->Option PS)(q:EqR):Prop:=∀ (Hc:Heap) (uc:UN) (p' : PS),gv q uc.p=some p'->Nd uo bo LV d vm fm base H ns0 Hc uc->p'.w+20<1000000 ->
 ∃ H' u' esc,orc CC M 117 [.ptr bo 0,.ptr (aa H+4) 0,q.v] Hc=some (.ret Abs.undef H' esc)/\UI uo H' u'/\Gr uo Hc uc.ns H' u'.ns/\u'.p=p'/\Same uc u'/\uo<=esc/\(q.a=false->esc=uo)
end
section
variable {M:Memo}{uo bo:Nat}{LV:AV}{d:NdR}{vm:List (List Nat×Nat)}{base:AV}{H:Heap}{ns0:List Nat}
def YR (uo bo:Nat)(LV:AV)(d:NdR)(vm:List (List Nat×Nat))(fm' : FmS)(base:AV)(H:Heap)(ns0:List Nat)(i:Nat)(A F:AV)(u0:UN)(p' : PS)(ok:Nat->Prop)(X:IRes):Prop :=
 ∃ r' Hd ud e',X=some (.exit i,r',[],⟨Hd,e'⟩)/\Nd uo bo LV d vm fm' base H ns0 Hd ud/\ud.p=p'/\Same u0 ud/\uo<=e'/\ok e'/\RN H base A F r'
theorem tu {sp:EqR->FmS->PS->Option (FmS×PS)}(hsw:∀ q fm p fm' p',sp q fm p=some (fm',p')->p.w<=p'.w){L:List EqR}(hL:L.length<=90000)(hok:∀ q∈L,q.a=true->E7 M uo bo LV d vm base H ns0 sp q){u0:UN}{p' : PS}{fm' : FmS}{A F:AV}(hw:p'.w+20<1000000) :
  ∀ (k i:Nat),k+i=L.length->∀ (fu:Nat),k<fu->∀ (Hc:Heap) (uc:UN) (e:Nat) (fm:FmS),dJ sp (L.drop i) fm uc.p=some (fm',p')->Nd uo bo LV d vm fm base H ns0 Hc uc->Same u0 uc->uo<=e->((∃ q∈L.take i,q.a=true)->e=uo)->∀ (r:RG),RN H base A F r ->
  (r.c.a.f=oZ L/\r.c.a.g=.int .i64 (L.length:Int)/\r.c.a.h=.int .i64 (i:Int)) ->
  YR uo bo LV d vm fm' base H ns0 6 A F u0 p' (λe'=>(∃ q∈L,q.a=true)->e'=uo) (ax (lJ (orc CC M)) fu r [] ⟨Hc,e⟩):=by
 intro k
 induction k with
 | zero =>
   intro i hi fu hfu Hc uc e fm hp N S he hel r hr ⟨h32,h33,h34⟩;obtain ⟨fu',rfl⟩ : ∃ f,fu=f+1:=⟨fu-1,by omega⟩
   have:i=L.length:=by omega
   subst this;have hc:decide ((L.length:Int)<(L.length:Int))=false:=by simp
   rw[List.drop_length] at hp;simp only[dJ,SJ,PJ] at hp;obtain ⟨rfl,rfl⟩:=hp;simp only[ax,lJ,rf,SIM,ST0,ST1,ST2,ST3,ST4,h33,h34,hc];rw[List.take_length] at hel;exact ⟨_,Hc,uc,e,rfl,N,rfl,S,he,hel,by first|exact hr⟩
 | succ k ih =>
   intro i hi fu hfu Hc uc e fm hp N S he hel r hr ⟨h32,h33,h34⟩;obtain ⟨hr5,hr6,hr11,hr4,hr2,hr3⟩:=hr;obtain ⟨fu',rfl⟩ : ∃ f,fu=f+1:=⟨fu-1,by omega⟩
   have hlt:i<L.length:=by omega
   have hc:decide ((i:Int)<(L.length:Int))=true:=by simp;omega
   have hd:L.drop i=L[i]::L.drop (i+1):=List.drop_eq_getElem_cons hlt;have hg:L[i]?=some L[i]:=by simp[hlt]
   have hmem:=List.getElem_mem hlt;have htk:L.take (i+1)=L.take i++[L[i]]:=by rw[List.take_add_one,hg];rfl
   generalize L[i]=q at hg hd hmem htk;have hat:=qF hg;have ha:bR (i:Int) 1=((i+1:Nat):Int):=aZ i 1 (by unfold natMax;omega)
   rw[hd] at hp;simp only[dJ] at hp;have N1:=N.ap [qO q];have hdo:ae (Hc++[qO q]) (aa Hc)=some (qO q):=by rw[an];rfl
   have hone:=zj q;have hnn:=zF q;cases haf:q.a with
   | false =>
     have hcn:∀ x y:IRes,eW (.bool q.a) x y=y:=λx y=>by rw[haf];rfl
     rw[haf] at hp;simp only[cond_false] at hp
     have key:=ih (i+1) (by omega) fu' (by omega) (Hc++[qO q]) uc e fm hp N1 S he (λ⟨q',h1,h2⟩=>by
      rw[htk,List.mem_append,List.mem_singleton] at h1
      rcases h1 with h1|h1
      ·exact hel ⟨q',h1,h2⟩
      ·rw[h1,haf] at h2;cases h2)
     simp only[ax,lJ,rf,xd,uS,wW,SIM,ST0,ST1,ST2,ST3,ST4,h32,h33,h34,hc,hat,ha,X4,mM,hone,hnn,hdo,hcn,Nat.reduceAdd,Nat.reduceLeDiff];exact key _ ⟨by first|rfl|exact hr5,by first|rfl|exact hr6,by first|rfl|exact hr11,by first|rfl|exact hr4,by first|rfl|exact hr2,by first|rfl|exact hr3⟩ ⟨by first|rfl|exact h32,by first|rfl|exact h33,rfl⟩
   | true =>
     have hcn:∀ x y:IRes,eW (.bool q.a) x y=x:=λx y=>by rw[haf];rfl
     rw[haf] at hp;simp only[cond_true] at hp
     split at hp
     ·cases hp
     ·rename_i fm1 p1 h1;have hw1:=gr hsw _ _ _ _ _ hp;obtain ⟨H2,u2,hR,N2,hp2,S2⟩:=hok q hmem haf (Hc++[qO q]) uc fm fm1 p1 h1 N1 (by omega)
      have key:=ih (i+1) (by omega) fu' (by omega) H2 u2 (min e uo) fm1 (by rw[hp2];exact hp) N2 (S.trans S2) (by omega) (λ_=>by omega)
      have hx:=N1.x;have hP8:∀ a b c d e f g h:AV,eP (some 8) [a,b,c,d,e,f,g,h] 0=some (.agg [a,b,c,d,e,f,g,h]):=λ_ _ _ _ _ _ _ _=>rfl
      simp only[ax,lJ,rf,xd,uS,Hw,wW,SIM,ST0,ST1,ST2,ST3,ST4,h32,h33,h34,hr5,hr11,hc,hat,ha,X4,mM,hone,hnn,hdo,hcn,hx,hR,hP8,Nat.reduceAdd,Nat.reduceLeDiff];exact key _ ⟨by first|rfl|exact hr5,by first|rfl|exact hr6,by first|rfl|exact hr11,by first|rfl|exact hr4,by first|rfl|exact hr2,by first|rfl|exact hr3⟩ ⟨by first|rfl|exact h32,by first|rfl|exact h33,rfl⟩
theorem uR {fm:FmS}{gv:EqR->PS->Option PS}(hgw:∀ q p p',gv q p=some p'->p.w<=p'.w){L:List EqR}(hL:L.length<=90000)(hok:∀ q∈L,Br M uo bo LV d vm base H ns0 fm gv q){u0:UN}{p' : PS}{A F:AV}{e00:Nat}(hw:p'.w+20<1000000) :
  ∀ (k i:Nat),k+i=L.length->∀ (fu:Nat),k<fu->∀ (Hc:Heap) (uc:UN) (e:Nat),eF gv (L.drop i) uc.p=some p'->Nd uo bo LV d vm fm base H ns0 Hc uc->Same u0 uc->uo<=e->((e00=uo->e=uo)/\((∃ q∈L.take i,q.a=false)->e=uo))->∀ (r:RG),RN H base A F r ->
  (r.c.c.d=oZ L/\r.c.c.e=.int .i64 (L.length:Int)/\r.c.c.f=.int .i64 (i:Int)) ->
  YR uo bo LV d vm fm base H ns0 8 A F u0 p' (λe'=>(e00=uo->e'=uo)/\((∃ q∈L,q.a=false)->e'=uo)) (ax (nJ (orc CC M)) fu r [] ⟨Hc,e⟩):=by
 intro k
 induction k with
 | zero =>
   intro i hi fu hfu Hc uc e hp N S he hel r hr ⟨h32,h33,h34⟩;obtain ⟨fu',rfl⟩ : ∃ f,fu=f+1:=⟨fu-1,by omega⟩
   have:i=L.length:=by omega
   subst this;have hc:decide ((L.length:Int)<(L.length:Int))=false:=by simp
   rw[List.drop_length] at hp;simp only[eF,SJ] at hp;subst hp;simp only[ax,nJ,uz,SIM,ST0,ST1,ST2,ST3,ST4,h33,h34,hc];rw[List.take_length] at hel;exact ⟨_,Hc,uc,e,rfl,N,rfl,S,he,hel,by first|exact hr⟩
 | succ k ih =>
   intro i hi fu hfu Hc uc e hp N S he hel r hr ⟨h32,h33,h34⟩;obtain ⟨hr5,hr6,hr11,hr4,hr2,hr3⟩:=hr;obtain ⟨fu',rfl⟩ : ∃ f,fu=f+1:=⟨fu-1,by omega⟩
   have hlt:i<L.length:=by omega
   have hc:decide ((i:Int)<(L.length:Int))=true:=by simp;omega
   have hd:L.drop i=L[i]::L.drop (i+1):=List.drop_eq_getElem_cons hlt;have hg:L[i]?=some L[i]:=by simp[hlt]
   have hmem:=List.getElem_mem hlt;have htk:L.take (i+1)=L.take i++[L[i]]:=by rw[List.take_add_one,hg];rfl
   generalize L[i]=q at hg hd hmem htk;have hat:=qF hg;have ha:bR (i:Int) 1=((i+1:Nat):Int):=aZ i 1 (by unfold natMax;omega)
   rw[hd] at hp;simp only[eF] at hp
   split at hp
   ·cases hp
   ·rename_i p1 h1;have N1:=N.ap [qO q];have hdo:ae (Hc++[qO q]) (aa Hc)=some (qO q):=by rw[an];rfl
    have hone:=zj q;have hnn:=zF q;have hw1:=km hgw _ _ _ hp;obtain ⟨H2,u2,e2,hR,U2,G2,hp2,S2,he2,hel2⟩:=hok q hmem (Hc++[qO q]) uc p1 h1 N1 (by omega)
    have N2:=N1.step U2 G2
    have key:=ih (i+1) (by omega) fu' (by omega) H2 u2 (min e e2) (by rw[hp2];exact hp) N2 (S.trans S2) (by omega) ⟨λh=>by have:=hel.1 h;omega,λ⟨q',h1,h2⟩=>by
     rw[htk,List.mem_append,List.mem_singleton] at h1
     rcases h1 with h1|h1
     ·have:=hel.2 ⟨q',h1,h2⟩;omega
     ·rw[h1] at h2;have:=hel2 h2;omega⟩
    have hx:=N1.x;have hP8:∀ a b c d e f g h:AV,eP (some 8) [a,b,c,d,e,f,g,h] 0=some (.agg [a,b,c,d,e,f,g,h]):=λ_ _ _ _ _ _ _ _=>rfl
    simp only[ax,nJ,uz,Fg,Dn,Gd,SIM,ST0,ST1,ST2,ST3,ST4,h32,h33,h34,hr5,hr11,hc,hat,ha,X4,mM,hone,hnn,hdo,hx,hR,hP8,Nat.reduceAdd,Nat.reduceLeDiff];exact key _ ⟨by first|rfl|exact hr5,by first|rfl|exact hr6,by first|rfl|exact hr11,by first|rfl|exact hr4,by first|rfl|exact hr2,by first|rfl|exact hr3⟩ ⟨by first|rfl|exact h32,by first|rfl|exact h33,rfl⟩
end
theorem se22:∃ e i z,bK CC 22=some e/\CC.P.info? e=some i/\cj CC e=some z/\i.size=1/\(0<i.bytes/\i.bytes<=65536)/\z.cells.length=1:=by
 have h:NP 22=some (1,true,1):=by kernel_rfl
 unfold NP at h
 split at h
 ·rename_i e he
  split at h
  ·rename_i i z hi hz;simp only[SJ,PJ,decide_eq_true_eq] at h;exact ⟨e,i,z,he,hi,hz,h.1,h.2.1,h.2.2⟩
  ·cases h
 ·cases h
abbrev inV (n:Nat):AV:=.int .i64 (n:Int)
theorem iX {f:Nat}(hf:CC.mutT f 22=false)(n:Nat)(lin:Lin)(hp:Heap)(e:Nat):aq CC f 22 .nils (.sl 1 [inV n] lin) ⟨hp,e⟩=some (.sl 1 [inV n] (.live (aa hp) 0),⟨hp++[.lin 0],e⟩):=by
 obtain ⟨el,i,z,h1,h2,h3,h4,h6,h7⟩:=se22;have hok:[inV n].all (bi 1)=true:=rfl
 have hne:¬ (i.size=0\/i.bytes=0\/z.cells.length≠i.size\/[inV n].all (bi i.size)=false\/2 ^ 16<i.bytes):=by
  rw[h4,hok,h7];simp;omega
 simp only[aq,h1,h2,h3,aY,h4,if_true];rw[h4] at hne;rw[if_neg hne];simp[hf,ai]
theorem ii {f:Nat}(hf:CC.mutT f 22=false){xs:List AV}(n:Nat)(lin:Lin){hp:Heap}{e id g:Nat}(hg:ae hp id=some (.lin g))(hl:xs.length+1<=2 ^ 24) :
  aq CC f 22 (.sl 1 xs (.live id g)) (.sl 1 [inV n] lin) ⟨hp,e⟩=some (.sl 1 (xs++[inV n]) (.live id (g+1)),⟨am hp id (.lin (g+1)),e⟩):=by
 obtain ⟨el,i,z,h1,h2,h3,h4,h6,h7⟩:=se22;have hok:[inV n].all (bi 1)=true:=rfl
 have hne:¬ (i.size=0\/i.bytes=0\/z.cells.length≠i.size\/[inV n].all (bi i.size)=false\/2 ^ 16<i.bytes):=by
  rw[h4,hok,h7];simp;omega
 rw[aB] at hg;simp only[aq,h1,h2,h3,aY,h4,if_true];rw[h4] at hne;rw[if_neg hne];simp[hf,hl,hg,aR]
theorem mj (n:Nat):aM CC 22 1 [(0,inV n)]=some (.sl 1 [inV n] .lit):=by
 have:∀ z:Int,aM CC 22 1 [(0,.int .i64 z)]=some (.sl 1 [.int .i64 z] .lit):=λz=>by kernel_rfl
 exact this _
def mh (vm:List (List Nat×Nat)):List DeR->Option (List Nat)
 | []=>some []
 | x::l=>match eY x.s vm with
   | none=>none
   | some v=>match mh vm l with
     | none=>none
     | some r=>some (v::r)
def wm (b:Nat)(ns:List Nat)(Hc:Heap)(V:AV)(acc:List Nat):Prop:=(acc=[]/\V=.nils)\/(acc≠[]/\∃ id g,V=.sl 1 (acc.map inV) (.live id g)/\ae Hc id=some (.lin g)/\b<=id/\id∉ns)
section
variable {M:Memo}{uo bo:Nat}{LV:AV}{d:NdR}{vm:List (List Nat×Nat)}{fm:FmS}{base:AV}{H:Heap}{ns0:List Nat}
theorem Nd.lset {Hc:Heap}{uc:UN}{id g:Nat}{v:AObj}(N:Nd uo bo LV d vm fm base H ns0 Hc uc)(hg:ae Hc id=some (.lin g))(hid:aa H<=id)(hn:id∉uc.ns):Nd uo bo LV d vm fm base H ns0 (am Hc id v) uc:=by
 have hu:=N.uh;have hb:=N.bh
 have key:∀ q o,ae Hc q=some o->(∀ g,o ≠ .lin g)->q≠id:=λq o hq ho he=>by
  rw[he,hg] at hq;simp only[SJ] at hq;exact ho g hq.symm
 have C:=N.C;refine ⟨⟨C.U.to (by rw[ay];exact Nat.le_refl _) (λq hq hm=>af ?_ _),by rw[af (by omega)];exact C.b,by rw[af (key _ _ C.s (λg h=>by cases h))];exact C.s,by rw[af (key _ _ C.v (λg h=>by cases h))];exact C.v,by rw[af (key _ _ C.f (λg h=>by cases h))];exact C.f,C.nb,C.ns,C.nv,C.nf⟩,by rw[af (key _ _ N.x (λg h=>by cases h))];exact N.x,by rw[af (key _ _ N.n (λg h=>by cases h))];exact N.n,N.x',N.n',N.G.put2 hid,N.uh,N.bh⟩
 rintro rfl
 rcases hm with h|h
 ·omega
 ·exact hn h
def YB (uo bo:Nat)(LV:AV)(d:NdR)(vm:List (List Nat×Nat))(fm' : FmS)(base:AV)(H:Heap)(ns0:List Nat)(uc:UN)(e:Nat)(l:List Nat)(X:IRes):Prop :=
 ∃ r' Hd,X=some (.exit 10,r',[],⟨Hd,e⟩)/\Nd uo bo LV d vm fm' base H ns0 Hd uc/\wm (aa H) uc.ns Hd r'.a.c.g l
theorem AP {L:List DeR}(hL:L.length<=90000){uc:UN}{e:Nat}{base:AV}{A F:AV} :
  ∀ (k i:Nat),k+i=L.length->∀ (fu:Nat),k<fu->∀ (Hc:Heap) (acc l:List Nat),acc.length<=i->mh vm (L.drop i)=some l->Nd uo bo LV d vm fm base H ns0 Hc uc->∀ (r:RG),RN H base A F r->wm (aa H) uc.ns Hc r.a.c.g acc ->
  (r.c.d.h=deZ L/\r.c.e.a=.int .i64 (L.length:Int)/\r.c.e.b=.int .i64 (i:Int)) ->
  YB uo bo LV d vm fm base H ns0 uc e (acc++l) (ax (lq (orc CC M)) fu r [] ⟨Hc,e⟩):=by
 intro k
 induction k with
 | zero =>
   intro i hi fu hfu Hc acc l hal hp N r hr hA ⟨h32,h33,h34⟩;obtain ⟨fu',rfl⟩ : ∃ f,fu=f+1:=⟨fu-1,by omega⟩
   have:i=L.length:=by omega
   subst this;have hc:decide ((L.length:Int)<(L.length:Int))=false:=by simp
   rw[List.drop_length] at hp;simp only[mh,SJ] at hp;subst hp;simp only[ax,lq,qp,SIM,ST0,ST1,ST2,ST3,ST4,ST5,h33,h34,hc];exact ⟨_,Hc,rfl,N,by first|exact hA⟩
 | succ k ih =>
   intro i hi fu hfu Hc acc l hal hp N r hr hA ⟨h32,h33,h34⟩;obtain ⟨hr5,hr6,hr11,hr4,hr2,hr3⟩:=hr;obtain ⟨fu',rfl⟩ : ∃ f,fu=f+1:=⟨fu-1,by omega⟩
   have hlt:i<L.length:=by omega
   have hc:decide ((i:Int)<(L.length:Int))=true:=by simp;omega
   have hd:L.drop i=L[i]::L.drop (i+1):=List.drop_eq_getElem_cons hlt;have hg:L[i]?=some L[i]:=by simp[hlt]
   generalize L[i]=a at hg hd;have hat:=qP hg;have ha:bR (i:Int) 1=((i+1:Nat):Int):=aZ i 1 (by unfold natMax;omega)
   rw[hd] at hp;simp only[mh] at hp
   split at hp
   ·cases hp
   ·rename_i v hlk
    split at hp
    ·cases hp
    ·rename_i l' hl';simp only[SJ] at hp;subst hp;have N1:=N.ap [.cells a.l];have hdo:ae (Hc++[AObj.cells a.l]) (aa Hc)=some (.cells a.l):=by rw[an];rfl
     have hs:=N1.C.s;have hv:=kG (i6 hlk) N1.C.v;have hb22:=mj v;have hmt:CC.mutT 81 22=false:=rfl
     rcases hA with ⟨rfl,hV⟩|⟨h0,id,g,hV,hgi,hid,hni⟩
     ·have happ:=λe=>iX hmt v .lit (Hc++[.cells a.l]) e
      have hlz:aa (Hc++[AObj.cells a.l])=aa Hc+1:=by rw[az];rfl
      have key:=ih (i+1) (by omega) fu' (by omega) (Hc++[.cells a.l]++[.lin 0]) [v] l' (by simp) hl' (N1.ap _)
      have hnew:wm (aa H) uc.ns (Hc++[.cells a.l]++[.lin 0]) (.sl 1 [inV v] (.live (aa (Hc++[AObj.cells a.l])) 0)) [v]:=.inr ⟨by simp,_,_,rfl,by rw[an];rfl,N1.G.len,λhm=>by have:=(N1.C.U.lt _ hm).2;omega⟩
      rw[hlz] at hnew;have happ' : ∀ e,aq CC 81 22 .nils (.sl 1 [inV v] .lit) ⟨Hc++[.cells a.l],e⟩=some (.sl 1 [inV v] (.live (aa Hc+1) 0),⟨Hc++[.cells a.l]++[.lin 0],e⟩):=λe=>by rw[happ,hlz]
      simp only[List.append_assoc,List.cons_append,List.nil_append] at key hnew happ';simp only[ax,lq,qp,wU,uT,wE,SIM,ST0,ST1,ST2,ST3,ST4,ST5,h32,h33,h34,hr11,hc,hat,ha,hs,vL,hdo,hv,hb22,hV,happ',orVal,Nat.reduceAdd,Nat.reduceLeDiff];exact key _ ⟨by first|rfl|exact hr5,by first|rfl|exact hr6,by first|rfl|exact hr11,by first|rfl|exact hr4,by first|rfl|exact hr2,by first|rfl|exact hr3⟩ hnew ⟨by first|rfl|exact h32,by first|rfl|exact h33,rfl⟩
     ·have hgi1:=au hgi [.cells a.l];have happ:=λe=>ii (xs:=acc.map inV) (e:=e) hmt v .lit hgi1 (by rw[List.length_map];omega)
      have hmap:acc.map inV++[inV v]=(acc++[v]).map inV:=by simp
      rw[hmap] at happ;have key:=ih (i+1) (by omega) fu' (by omega) (am (Hc++[.cells a.l]) id (.lin (g+1))) (acc++[v]) l' (by simp;omega) hl' (N1.lset hgi1 hid hni)
      rw[List.append_assoc] at key;have hnew:wm (aa H) uc.ns (am (Hc++[.cells a.l]) id (.lin (g+1))) (.sl 1 ((acc++[v]).map inV) (.live id (g+1))) (acc++[v]):=.inr ⟨by simp,_,_,rfl,aF hgi1 _,hid,hni⟩
      simp only[ax,lq,qp,wU,uT,wE,SIM,ST0,ST1,ST2,ST3,ST4,ST5,h32,h33,h34,hr11,hc,hat,ha,hs,vL,hdo,hv,hb22,hV,happ,orVal,Nat.reduceAdd,Nat.reduceLeDiff];exact key _ ⟨by first|rfl|exact hr5,by first|rfl|exact hr6,by first|rfl|exact hr11,by first|rfl|exact hr4,by first|rfl|exact hr2,by first|rfl|exact hr3⟩ hnew ⟨by first|rfl|exact h32,by first|rfl|exact h33,rfl⟩
end
def eu (sp:List (List Nat×Nat)->EqR->FmS->PS->Option (FmS×PS))(gv:List (List Nat×Nat)->FmS->EqR->PS->Option PS)(d:NdR)(xs:List AtF)(fs:List (Int×Int))(p:PS):Option (List Nat×PS) :=
 match placesP (cS d) [] p with
 | none=>none
 | some (vm,p1)=>match lj vm d.ins xs fs [] p1 with
   | none=>none
   | some (fm,p2)=>match sizeP d.eqs p2 with
     | none=>none
     | some p3=>match dJ (sp vm) d.eqs fm p3 with
       | none=>none
       | some (fm',p4)=>match eF (gv vm fm') d.eqs p4 with
         | none=>none
         | some p5=>match mh vm d.outs with
           | none=>none
           | some l=>some (l,p5)
theorem Wx (d:NdR)(a b:Nat){base:AV}(hb:mo base):ao CC 235 [(0,d.v),(1,.map a),(2,.map b),(3,base)]=some (.agg (BD d (.map a) (.map b) base)):=by
 obtain ⟨s,p,I,O,V,E⟩:=d
 have key:∀ (x y z w:AV) (q:Int),(x=.nils\/∃ l,x=.sl 6 l .dead)->(y=.nils\/∃ l,y=.sl 6 l .dead)->(z=.nils\/∃ l,z=.sl 6 l .dead)->(∃ l,w=.sl 8 l .dead)->ao CC 235 [(0,.agg [.str s,.int .i64 q,x,y,z,w]),(1,.map a),(2,.map b),(3,base)]=some (.agg [.str s,.int .i64 q,x,y,z,w,.map a,.map b,base]):=by
  intro x y z w q hx hy hz hw;obtain ⟨l,rfl⟩:=hw
  rcases hx with rfl|⟨l1,rfl⟩<;>rcases hy with rfl|⟨l2,rfl⟩<;>rcases hz with rfl|⟨l3,rfl⟩<;>rcases hb with rfl|rfl<;>kernel_rfl
 have hd:∀ l:List DeR,deZ l=.nils\/∃ k,deZ l=.sl 6 k .dead:=λl=>by cases l with
  | nil=>exact .inl rfl
  | cons a l=>exact .inr ⟨_,rfl⟩
 exact key _ _ _ _ _ (hd I) (hd O) (hd V) ⟨_,rfl⟩
theorem Wl (d:NdR){a b L:Nat}{base:AV}(hb:mo base)(ha:a<L)(hb' : b<L):dV (.agg (BD d (.map a) (.map b) base)) L=some (.cells (BD d (.map a) (.map b) base),(.ptr · 0)):=by
 have hone:(BD d (.map a) (.map b) base).all AV.one=true:=by
  rcases hb with rfl|rfl<;>simp only[List.all_cons,List.all_nil,mF,lz,gI,g9,Bool.and_true,Bool.true_and]<;>rfl
 have hlow:AV.low L (.agg (BD d (.map a) (.map b) base))=true:=by
  have h:=λl=>(fS (deZ l) (jN l)).2 L
  have h2:aG L (d.eqs.map EqR.v)=true:=de (eq_noN _) L;have h4:Lin.low L .dead=true:=rfl;have h3:AV.low L base=true:=by rcases hb with rfl|rfl<;>simp[AV.low,aG,Lin.low]
  simp only[AV.low,aG,h,h2,h4,h3,ha,hb',decide_true,Bool.and_self]
 unfold dV;rw[if_pos ⟨hone,hlow⟩];rfl
theorem PV (n L:Nat)(h:n<L):dV (.ptr n 0) L=some (.cells [.ptr n 0],(.ptr · 0)):=by
 have h1:(AV.ptr n 0).cells.all AV.one=true:=rfl;have h2:AV.low L (.ptr n 0)=true:=by simp[AV.low,h]
 unfold dV;rw[if_pos ⟨h1,h2⟩];rfl
theorem P6 (a b c d e f:AV):eP (some 6) [a,b,c,d,e,f] 0=some (.agg [a,b,c,d,e,f]):=rfl
theorem QN (rec:RecT):z81.sh rec=ac (ac (yI rec) (ac (zU rec) (Ap rec))) (ac (aH 0 (aK (pF rec))) (ac (Aq rec) (ac (aH 2 (aK (lQ rec))) (ac (qE rec) (ac (aH 4 (aK (nQ rec))) (ac (rq rec) (ac (aH 6 (aK (lJ rec))) (ac (rO rec) (ac (aH 8 (aK (nJ rec))) (ac (rV rec) (ac (rl rec) (ac (aH 10 (aK (lq rec))) (ac (rR rec) retZ))))))))))))):=by
 simp only[z81,eH]
section
variable {M:Memo}{uo bo:Nat}{LV:AV}{base:AV}
theorem y5 (m:ga M){sp:List (List Nat×Nat)->EqR->FmS->PS->Option (FmS×PS)}{gv:List (List Nat×Nat)->FmS->EqR->PS->Option PS}
  (hsw:∀ vm q fm p fm' p',sp vm q fm p=some (fm',p')->p.w<=p'.w) (hgw:∀ vm fm q p p',gv vm fm q p=some p'->p.w<=p'.w) (hb:mo base) {d:NdR} (hl:(cS d).length<=90000) (hel:d.eqs.length<=90000) (hne:d.eqs≠[])
  (hsp:∀ H ns0 vm q,q∈d.eqs->q.a=true->E7 M uo bo LV d vm base H ns0 (sp vm) q) (hgv:∀ H ns0 vm fm q,q∈d.eqs->Br M uo bo LV d vm base H ns0 fm (gv vm fm) q)
  {H:Heap} {u:UN} (U:UI uo H u) (hbo:ae H bo=some (.cells [.ptr uo 0,LV])) (hbn:bo∉u.ns) {xs:List AtF} {fs:List (Int×Int)} {A F:AV} (hA:AL xs A (aa H)) (hF:FL fs F) {l:List Nat} {p' : PS} (hp:eu sp gv d xs fs u.p=some (l,p')) (hw:p'.w+20<1000000) :
  ∃ H' u' esc V,orc CC M 81 [.ptr bo 0,d.v,A,F,base] H=some (.ret V H' esc)/\wm (aa H) u'.ns H' V l/\UI uo H' u'/\Gr uo H u.ns H' u'.ns/\u'.p=p'/\Same u u'/\esc=uo:=by
 unfold eu at hp
 split at hp
 ·cases hp
 rename_i vm p1 hp1
 split at hp
 ·cases hp
 rename_i fm p2 hp2
 split at hp
 ·cases hp
 rename_i p3 hp3
 split at hp
 ·cases hp
 rename_i fm' p4 hp4
 split at hp
 ·cases hp
 rename_i p5 hp5
 split at hp
 ·cases hp
 rename_i l0 hp6;simp only[SJ,PJ] at hp;obtain ⟨rfl,rfl⟩:=hp;have w5:=km (hgw vm fm') _ _ _ hp5;have w4:=gr (hsw vm) _ _ _ _ _ hp4;have w3:=sizeP_w _ _ _ hp3;have w2:=np _ _ _ _ _ _ _ hp2;have hlu:=U.uo;have hlb:=bG hbo;have hins:d.ins.length<=90000:=by unfold cS at hl;simp only[List.length_append] at hl;omega
 have houts:d.outs.length<=90000:=by unfold cS at hl;simp only[List.length_append] at hl;omega
 let K:Heap:=[.cells [.ptr bo 0],dq d,.map [],.map [],.cells (BD d (.map (aa H+2)) (.map (aa H+3)) base)]
 have nn:∀ j,aa H+j∉u.ns:=λj hm=>by have:=(U.lt _ hm).2;omega
 have n0:aa H∉u.ns:=nn 0
 have N0:Nd uo bo LV d [] [] base H u.ns (H++[.cells [.ptr bo 0],dq d,.map [],.map [],.cells (BD d (.map (aa H+2)) (.map (aa H+3)) base)]) u :=
  ⟨⟨U.ap,au hbo _,by rw[aW];rfl,by rw[aW];rfl,by rw[aW];rfl,hbn,nn 4,nn 2,nn 3⟩,by rw[an];rfl,by rw[aW];rfl,n0,nn 1,Gr.ap,hlu,hlb⟩
 have hAll:=w6 m d (by omega) (H++[.cells [.ptr bo 0],dq d,.map [],.map [],.cells (BD d (.map (aa H+2)) (.map (aa H+3)) base)])
 have hl5:aa (H++[AObj.cells [.ptr bo 0],dq d,.map [],.map [],.cells (BD d (.map (aa H+2)) (.map (aa H+3)) base)])=aa H+5:=by rw[az];rfl
 rw[hl5] at hAll;have e0:(envOf [.ptr bo 0,d.v,A,F,base] 0 env0).a.a.a=.ptr bo 0:=rfl;have e1:(envOf [.ptr bo 0,d.v,A,F,base] 0 env0).a.a.b=d.v:=rfl;have e2:(envOf [.ptr bo 0,d.v,A,F,base] 0 env0).a.a.c=A:=rfl;have e3:(envOf [.ptr bo 0,d.v,A,F,base] 0 env0).a.a.d=F:=rfl;have e4:(envOf [.ptr bo 0,d.v,A,F,base] 0 env0).a.a.e=base:=rfl
 obtain ⟨r0,hr0,hq0,hpre⟩ : ∃ r,RN H base A F r/\(r.a.e.a=allZ (cS d)/\r.a.e.b=.int .i64 ((cS d).length:Int)/\r.a.e.c=.int .i64 ((0:Nat):Int)) /\
   ac (yI (orc CC M)) (ac (zU (orc CC M)) (Ap (orc CC M))) (envOf [.ptr bo 0,d.v,A,F,base] 0 env0) [] ⟨H,aa H⟩=some (.normal,r,[],⟨H++[.cells [.ptr bo 0],dq d,.map [],.map [],.cells (BD d (.map (aa H+2)) (.map (aa H+3)) base)],aa H⟩):=by
  generalize envOf [.ptr bo 0,d.v,A,F,base] 0 env0=R at e0 e1 e2 e3 e4;have hlb' : bo<H.length:=by rw[<-ai];exact hlb
  have hbp:=PV bo H.length hlb';have hbn':=pI d;have hbs:=Wx d (aa H+2) (aa H+3) hb;have hbx:=Wl d (L:=(H++[AObj.cells [.ptr bo 0],dq d,.map [],.map []]).length) hb (a:=aa H+2) (b:=aa H+3) (by rw[List.length_append,ai];simp) (by rw[List.length_append,ai];simp)
  have hln:=oQ (cS d);have hmm:min (aa H) (aa H+5)=aa H:=Nat.min_eq_left (by omega)
  simp only[yI,zU,Ap,SIM,ST0,ST1,e0,e1,e2,e3,e4,hbp,hbn',P6,hbs,hbx,hAll,hmm,hln,DZS,Nat.reduceAdd,Nat.reduceLeDiff];exact ⟨_,⟨rfl,rfl,rfl,by first|rfl|exact e4,by first|rfl|exact e2,by first|rfl|exact e3⟩,⟨rfl,rfl,rfl⟩,rfl⟩
 obtain ⟨r1,Hd1,u1,v1,s1,N1,hq1,S1,he1,hr1⟩:=sX m hl (L:=cS d) (u0:=u) (A:=A) (F:=F) (vm':=vm) (p':=p1) (by omega) (cS d).length 0 rfl 100000 (by omega) _ u (aa H) [] (by rw[List.drop_zero];exact hp1) N0 Same.refl (by omega) r0 hr0 hq0
 obtain ⟨r2,hr2,hk2,s2⟩ : ∃ r,RN H base A F r/\(r.a.g.e=deZ d.ins/\r.a.g.f=.int .i64 (d.ins.length:Int)/\r.a.g.g=.int .i64 ((0:Nat):Int))/\Aq (orc CC M) r1 [] ⟨Hd1,v1⟩=some (.normal,r,[],⟨Hd1,v1⟩):=by
  obtain ⟨b5,b6,b11,b4,b2,b3⟩:=hr1;have hn:=N1.n;have hln:=mK d.ins;simp only[Aq,SIM,ST0,ST1,b6,hn,hln,Nat.reduceAdd,Nat.reduceLeDiff];exact ⟨_,⟨by first|rfl|exact b5,by first|rfl|exact b6,by first|rfl|exact b11,by first|rfl|exact b4,by first|rfl|exact b2,by first|rfl|exact b3⟩,⟨rfl,rfl,rfl⟩,rfl⟩
 obtain ⟨r3,Hd3,u3,v3,A3,F3,s3,N3,hq3,S3,he3,hr3⟩:=FH (M:=M) hb hins (u0:=u) (p':=p2) (fm':=fm) (by omega) d.ins.length 0 rfl 100000 (by omega) Hd1 u1 v1 xs fs A F [] (by rw[List.drop_zero,hq1];exact hp2) N1 (hA.imp id (λ⟨q,h1,h2⟩=>⟨q,h1,Lin.low_mono (N1.G.len) _ h2⟩)) hF S1 he1 r2 hr2 hk2
 obtain ⟨r4,hr4,hk4,s4⟩ : ∃ r,RN H base A3 F3 r/\(r.b.f.a=oZ d.eqs/\r.b.f.b=.int .i64 (d.eqs.length:Int)/\r.b.f.c=.int .i64 ((0:Nat):Int))/\qE (orc CC M) r3 [] ⟨Hd3,v3⟩=some (.normal,r,[],⟨Hd3,v3⟩):=by
  obtain ⟨b5,b6,b11,b4,b2,b3⟩:=hr3;have hn:=N3.n;have hln:=qH d.eqs;simp only[qE,SIM,ST0,ST1,ST2,ST3,b6,hn,hln,Nat.reduceAdd,Nat.reduceLeDiff];exact ⟨_,⟨by first|rfl|exact b5,by first|rfl|exact b6,by first|rfl|exact b11,by first|rfl|exact b4,by first|rfl|exact b2,by first|rfl|exact b3⟩,⟨rfl,rfl,rfl⟩,rfl⟩
 obtain ⟨r5,Hd5,u5,v5,s5,N5,hq5,S5,he5,hr5⟩:=Bp m hel (u0:=u) (p':=p3) (A:=A3) (F:=F3) (by omega) d.eqs.length 0 rfl 100000 (by omega) Hd3 u3 v3 (by rw[List.drop_zero,hq3];exact hp3) N3 S3 he3 r4 hr4 hk4
 obtain ⟨r6,hr6,hk6,s6⟩ : ∃ r,RN H base A3 F3 r/\(r.c.a.f=oZ d.eqs/\r.c.a.g=.int .i64 (d.eqs.length:Int)/\r.c.a.h=.int .i64 ((0:Nat):Int))/\rq (orc CC M) r5 [] ⟨Hd5,v5⟩=some (.normal,r,[],⟨Hd5,v5⟩):=by
  obtain ⟨b5,b6,b11,b4,b2,b3⟩:=hr5;have hn:=N5.n;have hln:=qH d.eqs;simp only[rq,SIM,ST0,ST1,ST2,ST3,ST4,b6,hn,hln,Nat.reduceAdd,Nat.reduceLeDiff];exact ⟨_,⟨by first|rfl|exact b5,by first|rfl|exact b6,by first|rfl|exact b11,by first|rfl|exact b4,by first|rfl|exact b2,by first|rfl|exact b3⟩,⟨rfl,rfl,rfl⟩,rfl⟩
 obtain ⟨r7,Hd7,u7,v7,s7,N7,hq7,S7,he7,hes7,hr7⟩:=tu (hsw vm) hel (λq hq hqa=>hsp H u.ns vm q hq hqa) (u0:=u) (p':=p4) (fm':=fm') (A:=A3) (F:=F3) (by omega) d.eqs.length 0 rfl 100000 (by omega) Hd5 u5 v5 fm (by rw[List.drop_zero,hq5];exact hp4) N5 S5 he5 (λ⟨_,h,_⟩=>by rw[List.take_zero] at h;cases h) r6 hr6 hk6
 obtain ⟨r8,hr8,hk8,s8⟩ : ∃ r,RN H base A3 F3 r/\(r.c.c.d=oZ d.eqs/\r.c.c.e=.int .i64 (d.eqs.length:Int)/\r.c.c.f=.int .i64 ((0:Nat):Int))/\rO (orc CC M) r7 [] ⟨Hd7,v7⟩=some (.normal,r,[],⟨Hd7,v7⟩):=by
  obtain ⟨b5,b6,b11,b4,b2,b3⟩:=hr7;have hn:=N7.n;have hln:=qH d.eqs;simp only[rO,SIM,ST0,ST1,ST2,ST3,ST4,b6,hn,hln,Nat.reduceAdd,Nat.reduceLeDiff];exact ⟨_,⟨by first|rfl|exact b5,by first|rfl|exact b6,by first|rfl|exact b11,by first|rfl|exact b4,by first|rfl|exact b2,by first|rfl|exact b3⟩,⟨rfl,rfl,rfl⟩,rfl⟩
 obtain ⟨r9,Hd9,u9,v9,s9,N9,hq9,S9,he9,hel9,hr9⟩:=uR (hgw vm fm') hel (λq hq=>hgv H u.ns vm fm' q hq) (u0:=u) (p':=p5) (A:=A3) (F:=F3) (e00:=v7) hw d.eqs.length 0 rfl 100000 (by omega) Hd7 u7 v7 (by rw[List.drop_zero,hq7];exact hp5) N7 S7 he7 ⟨id,λ⟨_,h,_⟩=>by rw[List.take_zero] at h;cases h⟩ r8 hr8 hk8
 have hlt9:v9=uo:=by
  cases hqq:d.eqs with
  | nil=>exact absurd hqq hne
  | cons q0 l0 =>
    have hm0:q0∈d.eqs:=by rw[hqq];exact List.mem_cons_self ..
    cases hqa:q0.a with
    | true=>exact hel9.1 (hes7 ⟨q0,hm0,hqa⟩)
    | false=>exact hel9.2 ⟨q0,hm0,hqa⟩
 obtain ⟨r10,hr10,hk10,hn10,s10⟩ : ∃ r,RN H base A3 F3 r/\(r.c.d.h=deZ d.outs/\r.c.e.a=.int .i64 (d.outs.length:Int)/\r.c.e.b=.int .i64 ((0:Nat):Int))/\r.a.c.g=.nils/\ac (rV (orc CC M)) (rl (orc CC M)) r9 [] ⟨Hd9,v9⟩=some (.normal,r,[],⟨Hd9,v9⟩):=by
  obtain ⟨b5,b6,b11,b4,b2,b3⟩:=hr9;have hn:=N9.n;have hln:=mK d.outs;simp only[rV,rl,SIM,ST0,ST1,ST2,ST3,ST4,ST5,b6,hn,hln,Nat.reduceAdd,Nat.reduceLeDiff];exact ⟨_,⟨by first|rfl|exact b5,by first|rfl|exact b6,by first|rfl|exact b11,by first|rfl|exact b4,by first|rfl|exact b2,by first|rfl|exact b3⟩,⟨rfl,rfl,rfl⟩,rfl,rfl⟩
 obtain ⟨r11,Hd11,s11,N11,hO⟩:=AP (M:=M) houts (uc:=u9) (e:=v9) (A:=A3) (F:=F3) d.outs.length 0 rfl 100000 (by omega) Hd9 [] l0 (by simp) (by rw[List.drop_zero];exact hp6) N9 r10 hr10 (by rw[hn10];exact .inl ⟨rfl,rfl⟩) hk10
 rw[List.nil_append] at hO
 obtain ⟨r12,hn12,s12⟩ : ∃ r,r.a.b.c=r11.a.c.g/\ac (rR (orc CC M)) retZ r11 [] ⟨Hd11,v9⟩=some (.ret,r,[],⟨Hd11,v9⟩):=by
  simp only[rR,SIM,ST0];exact ⟨_,rfl,rfl⟩
 refine ⟨Hd11,u9,v9,r11.a.c.g,?_,?_,N11.C.U,N11.G,hq9,S9,hlt9⟩
 ·refine aJ (z:=z81) (m _ _ rfl) (by kernel_rfl) rfl ?_
  have hz:z81.sh (orc CC M) (envOf [.ptr bo 0,d.v,A,F,base] 0 env0) [] ⟨H,aa H⟩=some (.ret,r12,[],⟨Hd11,v9⟩):=by
   have b0:∀ (i:Nat) (b:CZ) (r:RG) (s:St),aH i (aK b) r [] s=c9 i (ax b 100000 r [] s):=λ_ _ _ _=>rfl
   rw[QN,bv,hpre,bk,bv,b0,s1,ck,bk,bv,s2,bk,bv,b0,s3,ck,bk,bv,s4,bk,bv,b0,s5,ck,bk,bv,s6,bk,bv,b0,s7,ck,bk,bv,s8,bk,bv,b0,s9,ck,bk,<-eH,bv,s10,bk,bv,b0,s11,ck,bk,s12]
  rw[hz]
  have hres:fx r12 Hd11 z81.res=some [r11.a.c.g]:=by
   show fx r12 _ [.t 10]=_;rw[iN,jI,show gt r12 10=r11.a.c.g from hn12]
  rw[jG,hres];show some (lH (CC.keep 81) (aa H) r11.a.c.g ⟨Hd11,v9⟩)=_;rw[dL (by omega)]
 ·exact hO
end
theorem Km {f:Ex->PS->Option (AtF×PS)}(hf:∀ e p a p',f e p=some (a,p')->p.w<=p'.w){vm:List (List Nat×Nat)}{nm:List Nat}{e:Ex}{p p' : PS}(h:oT f vm nm e p=some p'):p.w<=p'.w:=by
 unfold oT at h
 split at h
 ·cases h
 ·split at h
  ·cases h
  ·rename_i a p1 hp;simp only[SJ] at h;have:=hf _ _ _ _ hp;rw[<-h];simp only[PS.w,List.length_append,List.length_cons,List.length_nil] at this ⊢;omega
section
variable {M:Memo}{uo bo:Nat}{LV:AV}{d:NdR}{vm:List (List Nat×Nat)}{fm:FmS}{base:AV}{H:Heap}{ns0:List Nat}
end
theorem oP {f:Nat}(hf:CC.mutT f 22=false){uo:Nat}{H:Heap}{V:AV}{xs:List Nat}(h:LvI uo H 1 V (xs.map inV))(n:Nat)(hl:xs.length+1<=2 ^ 24)(hu:uo<aa H) :
  ∃ V' H',(∀ e lin,aq CC f 22 V (.sl 1 [inV n] lin) ⟨H,e⟩=some (V',⟨H',e⟩))/\LvI uo H' 1 V' ((xs++[n]).map inV)/\aa H<=aa H'/\(∀ q,q<aa H->q∉nmA V->ae H' q=ae H q)/\(∀ q∈nmA V',q∈nmA V\/aa H<=q):=by
 have hlow:∀ (L:Nat) (l:List Nat),aG L (l.map inV)=true:=λL l=>by
  induction l with
  | nil=>rfl
  | cons a l ih=>simp only[List.map_cons,aG,ih,Bool.and_true];rfl
 rcases h with ⟨h0,rfl⟩|⟨h0,id,g,rfl,hg,hu',hw'⟩
 ·have hx0:xs=[]:=by simpa using h0
  subst hx0;refine ⟨_,_,λe lin=>iX hf n lin H e,.inr ⟨by simp,aa H,0,rfl,by rw[an];rfl,hu,hlow _ _⟩,by rw[az];omega,λq hq _=>?_,λq hq=>?_⟩
  ·rw[ai] at hq;rw[aB,aB,List.getElem?_append_left hq]
  ·simp only[nmA,List.mem_singleton] at hq;exact .inr (by omega)
 ·refine ⟨_,_,λe lin=>ii hf n lin hg (by simpa using hl),.inr ⟨by simp,id,g+1,by simp,aF hg _,hu',hlow _ _⟩,by rw[ay];exact Nat.le_refl _,λq hq hn=>?_,λq hq=>.inl hq⟩
  rw[af (by simp only[nmA,List.mem_singleton] at hn;exact hn)]
theorem inl_same:∀ l:List Nat,sameL (l.map inV) (l.map inV)=true
 | []=>by simp[sameL]
 | a::l=>by rw[List.map_cons];simp[sameL,AV.same,inl_same l]
theorem IV {uo:Nat}{H:Heap}{V:AV}{xs:List Nat}(h:LvI uo H 1 V (xs.map inV)):AV.same V V=true:=by
 rcases h with ⟨_,h1⟩|⟨_,id,g,h1,_⟩
 ·rw[h1];simp[AV.same]
 ·rw[h1];simp[AV.same,inl_same xs]
abbrev tC (nd:List Nat)(at_:Int)(v:Nat)(I:AV):List AV:=TJ nd at_ v I .nils .nils .nils .nils .nils 0
abbrev BH (j:Nat):AtF:=⟨false,0,j⟩
structure Rt (uo bo:Nat)(LV:AV)(d:NdR)(nd:List Nat)(at_:Int)(H:Heap)(i:Nat)(Hc:Heap)(I A:AV):Prop where
 u:ae Hc uo=some (.cells (tC nd at_ i I))
 b:ae Hc bo=some (.cells [.ptr uo 0,LV])
 n:ae Hc (aa H)=some (dq d)
 hI:LvI uo Hc 1 I ((List.range i).map inV)
 hA:LvI uo Hc 3 A ((List.range i).map λj=>(BH j).av)
 dj:∀ q∈nmA I,q∉nmA A
 iI:∀ q∈nmA I,aa H<q
 iA:∀ q∈nmA A,aa H<q
 fr:∀ q,q<aa H->q≠uo->ae Hc q=ae H q
 len:aa H<aa Hc
 uh:uo<aa H
 bh:bo<aa H
 bu:bo≠uo
theorem VJ (a b c d e f g h i j:AV):ae [a,b,c,d,e,f,g,h,i,j] 3=some d:=rfl
theorem Oq (a b c d e f g h i j:AV):ae [a,b,c,d,e,f,g,h,i,j] 2=some c:=rfl
theorem Xv (a b c d e f g h i j v:AV):db [a,b,c,d,e,f,g,h,i,j] 3 [v]=[a,b,c,v,e,f,g,h,i,j]:=rfl
section
variable {M:Memo}{uo bo:Nat}{LV:AV}{d:NdR}{nd:List Nat}{at_:Int}{H:Heap}
end
abbrev YV (nd:List Nat)(at_:Int)(v:Nat)(I:AV):UN:=⟨nd,at_,v,I,.nils,[],.nils,[],.nils,[],.nils,[],.nils,0⟩
theorem Ul {uo:Nat}{H:Heap}{nd:List Nat}{at_:Int}{v:Nat}{I:AV}(h:ae H uo=some (.cells (tC nd at_ v I)))(hv:v<1000000):UI uo H (YV nd at_ v I) :=
 ⟨h,.inl ⟨rfl,rfl⟩,λ_ hq=>(by cases hq),.inl ⟨rfl,rfl⟩,.inl ⟨rfl,rfl⟩,.inl ⟨rfl,rfl⟩,⟨λ_ h=>(by cases h),λ_ h=>(by cases h),λ_ h=>(by cases h)⟩,by simpa using hv⟩
theorem Vc (a b c d e f g h i j v:AV):db [a,b,c,d,e,f,g,h,i,j] 4 [v]=[a,b,c,d,v,f,g,h,i,j]:=rfl
section
variable {M:Memo}{uo bo:Nat}{LV:AV}{d:NdR}{nd:List Nat}{at_:Int}{H:Heap}
end
theorem PA (a b c:AV)(s:St):dN CC 56 [a,b,c] s=some (.call 56 [a,b,c]):=by kernel_rfl
theorem YE (nm:List Nat)(a:Int):ao CC 88 [(0,.str nm),(1,.int .i64 a)]=some (.agg (tC nm a 0 .nils)):=by kernel_rfl
theorem VD (n:Nat)(l:List AV):ao CC 132 [(0,.ptr n 0),(1,.sl 6 l .dead)]=some (.agg [.ptr n 0,.sl 6 l .dead]):=by kernel_rfl
theorem T7 (nm:List Nat)(a:Int)(L:Nat):dV (.agg (tC nm a 0 .nils)) L=some (.cells (tC nm a 0 .nils),(.ptr · 0)):=by
 have h1:AV.low L (.agg (tC nm a 0 .nils))=true:=by simp[AV.low,aG]
 unfold dV;rw[if_pos ⟨rfl,h1⟩];rfl
theorem W6 (n:Nat)(l:List NdR)(L:Nat)(h:n<L):dV (.agg [.ptr n 0,.sl 6 (l.map NdR.v) .dead]) L=some (.cells [.ptr n 0,.sl 6 (l.map NdR.v) .dead],(.ptr · 0)):=by
 have hh:aG L (l.map NdR.v)=true:=de (nd_noN l) L;have h1:AV.low L (.agg [.ptr n 0,.sl 6 (l.map NdR.v) .dead])=true:=by simp[AV.low,aG,h,hh,Lin.low]
 unfold dV;rw[if_pos ⟨rfl,h1⟩];rfl
theorem LJ {keep:Bool}{b n:Nat}{x y:Int}{hp:Heap}(h:b<=n):lH keep b (.tuple [.ptr n 0,.agg [.int .i64 x,.int .i64 y]]) ⟨hp,b⟩=.ret (.tuple [.ptr n 0,.agg [.int .i64 x,.int .i64 y]]) hp b:=by
 have h1:AV.low b (.tuple [.ptr n 0,.agg [.int .i64 x,.int .i64 y]])=false:=by simp[AV.low,aG];omega
 have h2:AV.settle b hp (.tuple [.ptr n 0,.agg [.int .i64 x,.int .i64 y]])=.tuple [.ptr n 0,.agg [.int .i64 x,.int .i64 y]]:=by simp[AV.settle,bH]
 rw[ux];unfold Ie dm;cases keep<;>simp[h1,h2]
section
variable {M:Memo}
theorem Rx (m:ga M){uo bo fo bc no:Nat}{LV:AV}{d:NdR}{H Hf:Heap}(hb:ae H bc=some (.cells [.ptr bo 0]))(hn:ae H no=some (dq d))(hu:uo<aa H)
  (hR:orc CC M 58 [.ptr bo 0,d.v] H=some (.ret Abs.undef Hf uo)):orc CC M 56 [.ptr fo 0,.ptr bc 0,.ptr no 0] H=some (.ret Abs.undef Hf uo):=by
 refine aJ (z:=z56) (m _ _ rfl) (by kernel_rfl) rfl ?_
 have e0:(envOf [AV.ptr fo 0,.ptr bc 0,.ptr no 0] 0 env0).a.a.a=.ptr fo 0:=rfl;have e1:(envOf [AV.ptr fo 0,.ptr bc 0,.ptr no 0] 0 env0).a.a.b=.ptr bc 0:=rfl;have e2:(envOf [AV.ptr fo 0,.ptr bc 0,.ptr no 0] 0 env0).a.a.c=.ptr no 0:=rfl;generalize envOf [AV.ptr fo 0,.ptr bc 0,.ptr no 0] 0 env0=R at e0 e1 e2;have hm:min (aa H) uo=uo:=Nat.min_eq_right (by omega)
 have hgc:=λhp=>dL (keep:=CC.keep 56) (base:=aa H) (e:=uo) (v:=Abs.undef) (hp:=hp) (by omega)
 obtain ⟨r',hpre⟩ : ∃ r',z56.sh (orc CC M) R [] ⟨H,aa H⟩=some (.normal,r',[(57,[.ptr fo 0])],⟨Hf,uo⟩):=by
  simp only[z56,NY,KE,SIM,ST0,e0,e1,e2,hb,hn,P6,hR,hm,Nat.reduceAdd,Nat.reduceLeDiff];exact ⟨_,rfl⟩
 rw[hpre];show ti CC 56 (aa H) [] r' [(57,[.ptr fo 0])] ⟨Hf,uo⟩=_;have hct:(CC.catcher 57).isSome=true:=by kernel_rfl
 unfold ti;simp only[List.all_cons,List.all_nil,hct,Bool.and_self,List.length_cons,List.length_nil];rw[show Nat.ble (0+1) 1=true from rfl]
 simp only[Bool.and_self,cond_true];exact congrArg some (hgc Hf)
end
end Go.Proofs
