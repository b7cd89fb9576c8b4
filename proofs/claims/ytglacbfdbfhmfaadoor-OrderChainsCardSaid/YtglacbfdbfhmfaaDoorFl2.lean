/- flat.node, flat.Flatten. Part of the proof of girandolelaw09.OrderChains. -/
import Derived.Test.YtglacbfdbfhmfaaDoorFl1
import Derived.Test.YtglacbfdbfhmfaaDoorDec
set_option linter.unusedVariables false
set_option linter.unusedSimpArgs false
set_option maxRecDepth 1000000
namespace Go.Proofs
open Go Go.Abs
theorem atl_same:∀ l:List AtF,sameL (l.map AtF.av) (l.map AtF.av)=true
 | []=>by simp[sameL]
 | a :: l=>by rw[List.map_cons];simp[sameL,jU,atl_same l]
theorem GP (q:EqF)(h:mc q.on):AV.same q.av q.av=true:=by
 rcases h with h | h <;> simp[AV.same,sameL,atl_same,h]
theorem eqfl_same:∀ l:List EqF,(∀ q ∈ l,mc q.on)→sameL (l.map EqF.av) (l.map EqF.av)=true
 | [],_=>by simp[sameL]
 | a :: l,h=>by
   rw[List.map_cons];simp only[sameL,GP a (h a (List.mem_cons_self ..)),eqfl_same l (fun q hq=>h q (List.mem_cons_of_mem _ hq)),Bool.and_self]
theorem UI.esame {uo:Nat}{H:Heap}{u:UN}(h:UI uo H u):AV.same u.E u.E=true:=by
 rcases h.e with ⟨_,h1⟩ | ⟨_,id,g,h1,_⟩
 ·rw[h1];simp[AV.same]
 ·rw[h1];simp[AV.same,eqfl_same u.eqs h.el]
theorem HM (a:AV)(lin:Lin):bw CC 88 (.sl 3 [a] lin) (some (.int .i64 0)) (some (.int .i64 1)) none=some (.sl 3 [a] lin):=by kernel_rfl
theorem cc120:∃ e,CC.P.underlying 80=some (.slice e)∧e=112:=⟨_,by kernel_rfl,rfl⟩
theorem SL (a:AV)(q:Lin):bn CC 80 (.sl 2 [a] q)=some (.int .i64 1):=by
 obtain ⟨e,hu,_⟩:=cc120;rw[cU hu];rfl
abbrev qO (q:EqR):AObj:=.cells (qR q.l .dead q.a q.e)
theorem wU (q:EqR):fZ q.v=true:=by
 have:=eq_noN [q];simp only[List.map_cons,List.map_nil,bH,noNL_nil] at this;cases h:fZ q.v with
 | true=>rfl
 | false=>rw[h] at this;cases this
theorem yR (q:EqR):(qR q.l .dead q.a q.e).all AV.one=true:=by
 simp only[List.all_cons,List.all_nil,ip,fH,ev,eA,kY,Bool.and_self]
theorem W5 (q:EqR)(L:Nat):ep q.v L=some (qO q,(.ptr · 0)):=by
 have h1:q.v.low L=true:=(dh _ (wU q)).2 L;unfold ep;rw[if_pos ⟨yR q,h1⟩];rfl
def tB (f:Ex→PS→Option (AtF × PS))(vm:List (List Nat × Nat))(nm:List Nat)(e:Ex)(p:PS):Option PS:=match jm nm vm with
 | none=>none
 | some v=>match f e p with
   | none=>none
   | some (a,p1)=>some { p1 with eqs:=p1.eqs ++ [⟨[99,111,112,121],v,[a]⟩] }
theorem WW (a b c d e f g h:AV):ae [a,b,c,d,e,f,g,h] 0=some a:=rfl
theorem UU (a b c d e f g h:AV):ex (some 6) [a,b,c,d,e,f,g,h] 2=some (.agg [c,d,e,f,g,h]):=rfl
section
variable {M:Memo}{uo bo so vo fo:Nat}{LV:AV}{d:NdR}{vm:List (List Nat × Nat)}{fm:List (List Nat × AV)}{base:AV}
theorem Jv (m:ia M){f:Ex→PS→Option (AtF × PS)}(hf:∀ e p a p',f e p=some (a,p')→p.w≤p'.w)(hb:mc base)(hl:(dw d).length≤90000)(hcl:∀ x ∈ dw d,x.c=[]){e:Ex}{nm:List Nat}{pos:Nat}(hk:Nat.beq e.k 13=false)(he:lx M uo bo so vo fo LV d (l5 vm) fm base f e)
  {H:Heap} {u:UN} {p' : PS} (hg:tB f vm nm e u.p=some p') (C:Cx uo bo so vo fo LV d (l5 vm) fm base H u) (hw:p'.w + 20 < 1000000) :
  ∃ H' u',orc CC M 50 [.ptr bo 0,.ptr so 0,EqR.v ⟨[(nm,pos)],false,e⟩] H=some (.ret Abs.undef H' uo)∧UI uo H' u'∧Gr uo H u.ns H' u'.ns∧u'.p=p'∧Same u u':=by
 unfold tB at hg
 split at hg
 ·cases hg
 ·rename_i v hv
  split at hg
  ·cases hg
  ·rename_i a p1 hp;simp only[SJ] at hg
   have hw1:p1.w + 21 < 1000000:=by
    rw[← hg] at hw;simp only[PS.w,List.length_append,List.length_cons,List.length_nil] at hw ⊢;omega
   let q:EqR:=⟨[(nm,pos)],false,e⟩
   have C0:=C.ap [qO ⟨[(nm,pos)],false,e⟩];have hat:dy f [e] u.p=some ([a],p1):=by simp only[dy,hp]
   obtain ⟨H1,u1,e1,V1,hA,hL,U1,G1,hp1,S1,hD⟩:=mD (V:=.sl 6 [e.v] .lit) m hf (kids:=[e]) (by simp) (fun x hx=>by simp only[List.mem_singleton] at hx;rw[hx];exact he) (fun i x hx=>by
    cases i with
    | zero=>simp only[List.getElem?_cons_zero,SJ] at hx;subst hx;exact cq (v:=e.v) rfl
    | succ i=>simp at hx) (by obtain ⟨e',hu',rfl⟩:=cc121;rw[cU hu'];rfl) C0 hat (by omega)
   obtain ⟨h0,_⟩ | ⟨_,lin,rfl,hlin⟩:=hL
   ·cases h0
   have C1:=C0.step U1 G1;have C2:=C1.ap [.cells [.str nm,.int .i64 (pos:Int)]];obtain ⟨V',H3,ha,hu3,hl3,hf3,hst,U4,G4⟩:=C2.U.addE 50 ⟨[99,111,112,121],v,[a],lin,gv0⟩ ⟨.inr rfl,Lin.low_mono (by rw[aI];omega) _ hlin⟩ (by rw[← hp1,UN.pw] at hw1;omega)
   have huo:=C.U.uo;have K1:=G1.trans (Gr.ap (K:=[.cells [.str nm,.int .i64 (pos:Int)]]));have l0:=K1.loc C.U (j:=0) (by rw[a9,b9];omega)
   have l0' : ae (H1 ++ [.cells [.str nm,.int .i64 (pos:Int)]]) (aa H)=some (qO ⟨[(nm,pos)],false,e⟩):=by have:=l0.1;rw[Nat.add_zero] at this;rw[this];rfl
   have l01:ae H1 (aa H)=some (qO ⟨[(nm,pos)],false,e⟩):=by
    have:=(G1.loc C.U (j:=0) (by rw[a9,b9];omega)).1
    rw[Nat.add_zero] at this;rw[this];rfl
   have m0:ae (H ++ [qO ⟨[(nm,pos)],false,e⟩]) (aa H)=some (qO ⟨[(nm,pos)],false,e⟩):=by rw[aD];rfl
   have hb3:ae H3 bo=some (.cells [.ptr uo 0,LV]):=by rw[hf3 bo (dG C2.b) (fun hm=>C2.nb (dV.2 (.inl hm))),C2.b]
   refine ⟨_,_,?_,U4,(Gr.ap.trans K1).trans G4,by rw[← hg,← hp1];simp[UN.p,EqF.q],⟨S1.nd,S1.at_,S1.I,S1.O⟩⟩
   refine aL (z:=z50) (m _ _ rfl) (by kernel_rfl) rfl ?_
   have e0:(envOf [.ptr bo 0,.ptr so 0,EqR.v ⟨[(nm,pos)],false,e⟩] 0 env0).a.a.a=.ptr bo 0:=rfl;have e1' : (envOf [.ptr bo 0,.ptr so 0,EqR.v ⟨[(nm,pos)],false,e⟩] 0 env0).a.a.b=.ptr so 0:=rfl;have e2:(envOf [.ptr bo 0,.ptr so 0,EqR.v ⟨[(nm,pos)],false,e⟩] 0 env0).a.a.c=EqR.v ⟨[(nm,pos)],false,e⟩:=rfl;generalize envOf [.ptr bo 0,.ptr so 0,EqR.v ⟨[(nm,pos)],false,e⟩] 0 env0=R at e0 e1' e2;have hbx:=W5 ⟨[(nm,pos)],false,e⟩;have hof:=RA m hl hcl nm C0.s;have hlH:aa (H ++ [qO ⟨[(nm,pos)],false,e⟩])=aa H + 1:=by rw[aI];rfl
   rw[hlH] at hof;have hgd:=gr m hb C2.s;have hl1:aa (H1 ++ [AObj.cells [.str nm,.int .i64 (pos:Int)]])=aa H1 + 1:=by rw[aI];rfl
   rw[hl1] at hgd;have hm1:min (aa H) (aa H + 1)=aa H:=Nat.min_eq_left (by omega)
   have hlu:uo < aa H1:=U1.uo;have c13:decide ((e.k:Int)=13)=false:=by rw[show decide ((e.k:Int)=13)=Nat.beq e.k 13 from n9 e.k 13];exact hk
   have hi0:bb 2 (.sl 2 ([(nm,pos)].map Hv) .dead) (.int .i64 0)=some (.iptr [.str nm,.int .i64 (pos:Int)]):=rfl;have hfa0:∀ a b:AV,aG 0 (.iptr [a,b])=some (.iptr [a,b]):=fun _ _=>rfl
   have hld:∀ (a b:AV) (h:Heap),ax none (.iptr [a,b]) h=some a:=fun _ _ _=>rfl
   have hx1:=Uo e;have hln:=SL (Hv (nm,pos)) .dead;have hln' : bn CC 80 (.sl 2 ([(nm,pos)].map Hv) .dead)=some (.int .i64 1):=hln;have hc1:decide ((0:Int) < 1)=true:=by decide
   have hc2:decide ((1:Int) < 1)=false:=by decide
   have hlk:=md (j5 hv) C2.v;have ha01:cA 0 1=1:=by decide
   have hsl:=HM a.av lin;have hV:[a].map AtF.av=[a.av]:=rfl;rw[hV] at hA;have h142:=Fs [99,111,112,121] (v:Int) [a.av] lin (on:=gv0) (.inr rfl);have h83:=AZ [99,111,112,121] (v:Int) [a.av] lin (on:=gv0) (.inr rfl);have hsE:=C2.U.esame;have hE2:=C2.U.ob;have hb2:=C2.b;have hs2:=C2.s;have hsu:AV.same (.ptr uo 0) (.ptr uo 0)=true:=by simp[AV.same]
   have hsv:AV.same (.map vo) (.map vo)=true:=by simp[AV.same]
   have hub:uo≤min (min (aa H) e1) (aa H1 + 1):=by
    rcases hD with ⟨h,_,_⟩ | h
    ·omega
    ·omega
   have hst':=hst _ hub;have hgc:=fun hp=>eW (keep:=CC.keep 50) (base:=aa H) (e:=uo) (v:=Abs.undef) (hp:=hp) (by omega)
   have hlz:∀ e:AObj,aa (H1 ++ [e])=aa H1 + 1:=fun e=>by rw[aI];rfl
   have ha' : ∀ e l,aq CC 50 62 u1.E (.sl 4 [.agg [.str [99,111,112,121],.int .i64 (v:Int),.sl 3 [a.av] lin,gv0]] l) ⟨H1 ++ [.cells [.str nm,.int .i64 (pos:Int)]],e⟩=some (V',⟨H3,e⟩):=ha;have hname:ae (H1 ++ [AObj.cells [.str nm,.int .i64 (pos:Int)]]) (aa H1)=some (.cells [.str nm,.int .i64 (pos:Int)]):=by rw[aD];rfl
   simp only[z50,Ps,Qa,Md,NP,PB,Dy,GH,FO,CH,Ik,B8,DJ,Tq,WP,SIM,ST0,ST1,ST2,ST3,e0,e1',e2,hbx,m0,WW,hi0,hfa0,hld,hof,hm1,c13,UU,EXS,hx1,hA,l01,l0',hln',hc1,hc2,hname,hb2,hE2,lO,hs2,y4,hlk,ha01,hsl,hgd,hsE,hsu,hsv,h142,h83,ha',hb3,hst',hgc,Nat.reduceAdd,Nat.reduceLeDiff]
end
structure Nd (uo bo:Nat)(LV:AV)(d:NdR)(vm:List (List Nat × Nat))(fm:List (List Nat × AV))(base:AV)(H:Heap)(ns0:List Nat)(Hc:Heap)(uc:UN):Prop where
 C:Cx uo bo (aa H + 4) (aa H + 2) (aa H + 3) LV d (l5 vm) fm base Hc uc
 x:ae Hc (aa H)=some (.cells [.ptr bo 0])
 n:ae Hc (aa H + 1)=some (eT d)
 x' : aa H ∉ uc.ns
 n' : aa H + 1 ∉ uc.ns
 G:Gr uo H ns0 Hc uc.ns
 uh:uo < aa H
 bh:bo < aa H
section
variable {uo bo:Nat}{LV:AV}{d:NdR}{vm:List (List Nat × Nat)}{fm:List (List Nat × AV)}{base:AV}{H Hc H' : Heap}{ns0:List Nat}{uc u' : UN}
theorem Nd.step (N:Nd uo bo LV d vm fm base H ns0 Hc uc)(U:UI uo H' u')(G:Gr uo Hc uc.ns H' u'.ns):Nd uo bo LV d vm fm base H ns0 H' u':=by
 have h1:=dG N.x;have h2:=dG N.n;have hu:=N.uh;exact ⟨N.C.step U G,by rw[G.fr _ h1 (by omega) N.x',N.x],by rw[G.fr _ h2 (by omega) N.n',N.n],fun hm=>(G.ns _ hm).elim N.x' (fun h=>by omega),fun hm=>(G.ns _ hm).elim N.n' (fun h=>by omega),N.G.trans G,N.uh,N.bh⟩
theorem Nd.ap (N:Nd uo bo LV d vm fm base H ns0 Hc uc)(K:Heap):Nd uo bo LV d vm fm base H ns0 (Hc ++ K) uc:=N.step N.C.U.ap Gr.ap
theorem Nd.vset (N:Nd uo bo LV d vm fm base H ns0 Hc uc){vm' : List (List Nat × Nat)}:Nd uo bo LV d vm' fm base H ns0 (aj Hc (aa H + 2) (.map (kE (l5 vm')))) uc:=by
 have hu:=N.uh;have hb:=N.bh;refine ⟨⟨N.C.U.to (by rw[an];exact Nat.le_refl _) (fun q hq hm=>af ?_ _),by rw[af (by omega)];exact N.C.b,by rw[af (by omega)];exact N.C.s,aO N.C.v _,by rw[af (by omega)];exact N.C.f,N.C.nb,N.C.ns,N.C.nv,N.C.nf⟩,by rw[af (by omega)];exact N.x,by rw[af (by omega)];exact N.n,N.x',N.n',N.G.put2 (by omega),N.uh,N.bh⟩
 rintro rfl
 rcases hm with h | h
 ·omega
 ·exact N.C.nv h
end
def RN (H:Heap)(base A F:AV)(r:RG):Prop:=r.a.a.f=.ptr (aa H) 0∧r.a.a.g=.ptr (aa H + 1) 0∧r.a.b.d=.ptr (aa H + 4) 0∧r.a.a.e=base∧r.a.a.c=A∧r.a.a.d=F
def PS.inc (p:PS):PS:={ p with vars:=p.vars + 1 }
theorem Ot (p:PS):p.inc.w=p.w + 1:=by simp only[PS.inc,PS.w];omega
def placesP:List DeR→List (List Nat × Nat)→PS→Option (List (List Nat × Nat) × PS)
 | [],vm,p=>some (vm,p)
 | x :: l,vm,p=>cond x.f (placesP l vm p) (match jm x.s vm with
   | some _=>none
   | none=>placesP l (vm ++ [(x.s,p.vars)]) p.inc)
theorem placesP_w:∀ (l:List DeR) (vm vm' : List (List Nat × Nat)) (p p' : PS),placesP l vm p=some (vm',p')→p.w≤p'.w
 | [],vm,vm',p,p',h=>by simp only[placesP,SJ,PJ] at h;rw[h.2];exact Nat.le_refl _
 | x :: l,vm,vm',p,p',h=>by
   simp only[placesP] at h;cases hf:x.f with
   | true=>rw[hf] at h;exact placesP_w l _ _ _ _ h
   | false =>
     rw[hf] at h;simp only[cond_false] at h
     split at h
     ·cases h
     ·have:=placesP_w l _ _ _ _ h;have h2:=Ot p;omega
theorem yf {nm:List Nat}:∀ {vm:List (List Nat × Nat)},jm nm vm=none→gb nm (l5 vm)=none
 | [],h=>rfl
 | (s,w) :: r,h=>by
   simp only[jm] at h;simp only[l5,List.map_cons,gb];cases hs:strEq s nm with
   | true=>rw[hs] at h;cases h
   | false=>rw[hs] at h;simp only[cond_false] at h ⊢;exact yf h
theorem ET {α:Type}(rec:RecT)(s s' : St)(ds:Dfs)(k:AV→Dfs→St→Option α)(kp:AV→St→Option α):oE rec (some (.skip s')) ds s k kp=k Abs.undef ds s':=rfl
theorem Uv {nm:List Nat}{v:Int}{vm:List (List Nat × AV)}{vo:Nat}{H:Heap}{e:Nat}(h:gb nm vm=none)(hg:ae H vo=some (.map (kE vm))) :
  cz CC 118 (.map vo) (.str nm) (.int .i64 v) ⟨H,e⟩=some ⟨aj H vo (.map (kE (vm ++ [(nm,.int .i64 v)]))),e⟩:=by
 obtain ⟨t,ht,_⟩:=MQ nm;rw[az] at hg;have hlow:∀ L,(AV.int .i64 v).low L=true:=fun L=>by simp[AV.low]
 have hesc:en (.int .i64 v) vo ⟨H,e⟩=e:=by simp[en,AV.low]
 simp only[cz,ht,hg,JN,hlow,qr 0 h,hesc,if_true,and_self];simp[kE,aM]
section
variable {M:Memo}{uo bo:Nat}{LV:AV}{d:NdR}{fm:List (List Nat × AV)}{base:AV}{H:Heap}{ns0:List Nat}
def Xk (uo bo:Nat)(LV:AV)(d:NdR)(fm:List (List Nat × AV))(base:AV)(H:Heap)(ns0:List Nat)(i:Nat)(A F:AV)(vm' : List (List Nat × Nat))(uc:UN)(p' : PS)(X:IRes):Prop :=
 ∃ r' Hd ud e',X=some (.exit i,r',[],⟨Hd,e'⟩)∧Nd uo bo LV d vm' fm base H ns0 Hd ud∧ud.p=p'∧Same uc ud∧uo≤e'∧RN H base A F r'
theorem sJ (m:ia M){A F:AV}{L:List DeR}(hL:L.length≤90000){u0:UN}{p' : PS}{vm' : List (List Nat × Nat)}(hw:p'.w + 20 < 1000000) :
  ∀ (k i:Nat),k + i=L.length→∀ (fu:Nat),k < fu→∀ (Hc:Heap) (uc:UN) (e:Nat) (vm:List (List Nat × Nat)),placesP (L.drop i) vm uc.p=some (vm',p')→Nd uo bo LV d vm fm base H ns0 Hc uc→Same u0 uc→uo≤e→∀ (r:RG),RN H base A F r →
  (r.a.e.a=allZ L∧r.a.e.b=.int .i64 (L.length:Int)∧r.a.e.c=.int .i64 (i:Int)) →
  Xk uo bo LV d fm base H ns0 0 A F vm' u0 p' (au (pd (orc CC M)) fu r [] ⟨Hc,e⟩):=by
 intro k
 induction k with
 | zero =>
   intro i hi fu hfu Hc uc e vm hp N S he r hr ⟨h32,h33,h34⟩;obtain ⟨fu',rfl⟩ : ∃ f,fu=f + 1:=⟨fu - 1,by omega⟩
   have:i=L.length:=by omega
   subst this;have hc:decide ((L.length:Int) < (L.length:Int))=false:=by simp
   rw[List.drop_length] at hp;simp only[placesP,SJ,PJ] at hp;obtain ⟨rfl,rfl⟩:=hp;simp only[au,pd,yJ,SIM,ST0,ST1,h33,h34,hc];exact ⟨_,Hc,uc,e,rfl,N,rfl,S,he,by first | exact hr⟩
 | succ k ih =>
   intro i hi fu hfu Hc uc e vm hp N S he r hr ⟨h32,h33,h34⟩;obtain ⟨hr5,hr6,hr11,hr4,hr2,hr3⟩:=hr;obtain ⟨fu',rfl⟩ : ∃ f,fu=f + 1:=⟨fu - 1,by omega⟩
   have hlt:i < L.length:=by omega
   have hc:decide ((i:Int) < (L.length:Int))=true:=by simp;omega
   have hd:L.drop i=L[i] :: L.drop (i + 1):=List.drop_eq_getElem_cons hlt;have hg:L[i]?=some L[i]:=by simp[hlt]
   generalize L[i]=a at hg hd;have hat:=sy hg;have ha:cA (i:Int) 1=((i + 1:Nat):Int):=bp i 1 (by unfold natMax;omega)
   rw[hd] at hp;simp only[placesP] at hp;have N1:=N.ap [.cells a.l];cases haf:a.f with
   | true =>
     rw[haf] at hp;simp only[cond_true] at hp;have hnf:(!a.f)=false:=by rw[haf];rfl
     have key:=ih (i + 1) (by omega) fu' (by omega) (Hc ++ [.cells a.l]) uc e vm hp N1 S he
     simp only[au,pd,yJ,Bq,H6,FP,SIM,ST0,ST1,h32,h33,h34,hc,hat,ha,hnf,Nat.reduceAdd,Nat.reduceLeDiff];exact key _ ⟨by first | rfl | exact hr5,by first | rfl | exact hr6,by first | rfl | exact hr11,by first | rfl | exact hr4,by first | rfl | exact hr2,by first | rfl | exact hr3⟩ ⟨by first | rfl | exact h32,by first | rfl | exact h33,rfl⟩
   | false =>
     rw[haf] at hp;simp only[cond_false] at hp
     split at hp
     ·cases hp
     ·rename_i hlk;have hnf:(!a.f)=true:=by rw[haf];rfl
      have hw1:=placesP_w _ _ _ _ _ hp;have hpw:=UN.pw uc
      obtain ⟨H1,hP,U1,G1,hl1⟩:=pY m N1.C.U N1.C.b (by
       have h2:=Ot uc.p;omega)
      have N2:=N1.step (u':={ uc with vars:=uc.vars + 1 }) U1 G1
      have N3:=N2.vset (vm':=vm ++ [(a.s,uc.vars)]);have key:=ih (i + 1) (by omega) fu' (by omega) (aj H1 (aa H + 2) (.map (kE (l5 (vm ++ [(a.s,uc.vars)]))))) { uc with vars:=uc.vars + 1 } (min e (aa Hc + 1)) (vm ++ [(a.s,uc.vars)]) hp N3 ⟨S.nd,S.at_,S.I,S.O⟩ (by have:=N.C.U.uo;omega)
      have hmu:=fun ee=>Uv (e:=ee) (v:=(uc.vars:Int)) (yf hlk) N2.C.v
      have hkE:l5 vm ++ [(a.s,AV.int .i64 (uc.vars:Int))]=l5 (vm ++ [(a.s,uc.vars)]):=by simp
      rw[hkE] at hmu;have hx:=N1.x;have hs:=N1.C.s;have hs2:=N2.C.s;have hdo:ae (Hc ++ [AObj.cells a.l]) (aa Hc)=some (.cells a.l):=by rw[aD];rfl
      have hdo2:ae H1 (aa Hc)=some (.cells a.l):=by
       rw[G1.fr (aa Hc) (by rw[aI,a9,b9];omega) (by have:=N.C.U.uo;omega) (fun hm=>by have:=(N.C.U.lt _ hm).2;omega),hdo]
      have hlz:aa (Hc ++ [AObj.cells a.l])=aa Hc + 1:=by rw[aI];rfl
      rw[hlz] at hP;have hsv:AV.same (.map (aa H + 2)) (.map (aa H + 2))=true:=by simp[AV.same]
      simp only[au,pd,yJ,Bq,H6,Qf,FP,SIM,ST0,ST1,h32,h33,h34,hr5,hr11,hc,hat,ha,hnf,hx,hs,y4,hdo,hP,hs2,hdo2,hsv,hmu,orSt,ET,Nat.reduceAdd,Nat.reduceLeDiff];exact key _ ⟨by first | rfl | exact hr5,by first | rfl | exact hr6,by first | rfl | exact hr11,by first | rfl | exact hr4,by first | rfl | exact hr2,by first | rfl | exact hr3⟩ ⟨by first | rfl | exact h32,by first | rfl | exact h33,rfl⟩
end
theorem cs139:CC.P.underlying 88=some (.slice 97)∧db CC 97=some 3:=⟨by kernel_rfl,by kernel_rfl⟩
theorem cs148:CC.P.underlying 89=some (.slice 95)∧db CC 95=some 2:=⟨by kernel_rfl,by kernel_rfl⟩
def KC (lin:Lin)(l:List AV):Lin:=if l=[] then lin else if lin=.frz then .frz else .dead
def Ny (lin:Lin):Lin:=if lin=.lit then .full else lin
theorem Cu {T e k:Nat}(h:CC.P.underlying T=some (.slice e)∧db CC e=some k)(a:AV)(l:List AV)(lin:Lin):bw CC T (.sl k (a :: l) lin) none (some (.int .i64 1)) none=some (.sl k [a] (KC lin l)):=by
 obtain ⟨h1,h2⟩:=h;have hb:cO 0 none=some 0:=rfl;have hb1:∀ n,cO n (some (.int .i64 1))=some 1:=fun n=>rfl
 simp only[bw,h1,h2,hb,hb1];rw[if_pos (by simp)]
 simp only[List.length_cons,List.take_succ_cons,List.take_zero,List.drop_zero];unfold KC;cases l with
 | nil=>simp
 | cons b l=>simp
theorem nD {T e k:Nat}(h:CC.P.underlying T=some (.slice e)∧db CC e=some k)(a:AV)(l:List AV)(lin:Lin):bw CC T (.sl k (a :: l) lin) (some (.int .i64 1)) none none=some (.sl k l (Ny lin)):=by
 obtain ⟨h1,h2⟩:=h;have hb:cO 0 (some (.int .i64 1))=some 1:=rfl;have hb1:∀ n,cO n none=some n:=fun n=>rfl
 simp only[bw,h1,h2,hb,hb1];rw[if_pos (by simp)]
 simp[Ny]
theorem Jp {lin:Lin}{l:List AV}{L:Nat}(h:lin.low L=true):(KC lin l).low L=true:=by
 unfold KC
 split
 ·exact h
 ·split
  ·rfl
  ·rfl
theorem Iz {lin:Lin}{L:Nat}(h:lin.low L=true):(Ny lin).low L=true:=by
 unfold Ny
 split
 ·rfl
 ·exact h
def AL (xs:List AtF)(A:AV)(L:Nat):Prop:=(xs=[]∧A=.nils)∨∃ lin,A=.sl 3 (xs.map AtF.av) lin∧lin.low L=true
def FL (fs:List (Int × Int))(F:AV):Prop:=(fs=[]∧F=.nils)∨∃ lin,F=.sl 2 (fs.map y1) lin
abbrev cpS:List Nat:=[99,111,112,121]
def qA (vm:List (List Nat × Nat)):List DeR→List AtF→List (Int × Int)→List (List Nat × AV)→PS→Option (List (List Nat × AV) × PS)
 | [],_,_,fm,p=>some (fm,p)
 | x :: l,xs,fs,fm,p=>cond x.f (match fs with
   | []=>none
   | o :: fs=>match gb x.s fm with
     | some _=>none
     | none=>qA vm l xs fs (fm ++ [(x.s,y1 o)]) p) (match xs with
   | []=>none
   | a :: xs=>match jm x.s vm with
     | none=>none
     | some v=>qA vm l xs fs fm { p with eqs:=p.eqs ++ [⟨cpS,v,[a]⟩] })
theorem qM {vm:List (List Nat × Nat)}:∀ (l:List DeR) (xs:List AtF) (fs:List (Int × Int)) (fm fm' : List (List Nat × AV)) (p p' : PS),qA vm l xs fs fm p=some (fm',p')→p.w≤p'.w
 | [],xs,fs,fm,fm',p,p',h=>by simp only[qA,SJ,PJ] at h;rw[h.2];exact Nat.le_refl _
 | x :: l,xs,fs,fm,fm',p,p',h=>by
   simp only[qA] at h;cases hf:x.f with
   | true =>
     rw[hf] at h;simp only[cond_true] at h
     split at h
     ·cases h
     ·split at h
      ·cases h
      ·exact qM l _ _ _ _ _ _ h
   | false =>
     rw[hf] at h;simp only[cond_false] at h
     split at h
     ·cases h
     ·split at h
      ·cases h
      ·have:=qM l _ _ _ _ _ _ h;simp only[PS.w,List.length_append,List.length_cons,List.length_nil] at this ⊢;omega
theorem vX {L:List DeR}{i:Nat}{a:DeR}(h:L[i]?=some a):bb 6 (deZ L) (.int .i64 (i:Int))=some (.iptr a.l):=by
 cases L with
 | nil=>simp at h
 | cons b l =>
   show bb 6 (.sl 6 ((b :: l).map DeR.v) .dead) _=_;refine cq (v:=a.v) ?_;rw[az,List.getElem?_map,h];rfl
theorem pP (L:List DeR):bn CC 43 (deZ L)=some (.int .i64 (L.length:Int)):=by
 obtain ⟨e,hu,_⟩:=cc58;cases L with
 | nil=>show bn CC 43 .nils=_;rw[dH];simp[ew,hu]
 | cons a l=>show bn CC 43 (.sl 6 ((a :: l).map DeR.v) .dead)=_;rw[cU hu,List.length_map]
theorem VX {nm:List Nat}{fm:List (List Nat × AV)}{fo:Nat}{H:Heap}{e:Nat}(h:gb nm fm=none)(hg:ae H fo=some (.map (kE fm))) :
  cT CC 119 (.map fo) (.str nm) ⟨H,e⟩=some (.tuple [.agg [.int .i64 0,.int .i64 0],.int .i64 (fm.length:Int)],⟨aj H fo (.map (kE (fm ++ [(nm,.agg [.int .i64 0,.int .i64 0])]))),e⟩):=by
 obtain ⟨t,ht,rfl⟩:=TY nm;have hz:ck CC 95=some (.agg [.int .i64 0,.int .i64 0]):=by kernel_rfl
 rw[az] at hg;simp only[cT,ht,hg,JN,qr 0 h,hz,if_true];simp[kE,aM]
theorem Wa {nm:List Nat}{v z:AV}{fm:List (List Nat × AV)}{fo:Nat}{H:Heap}{e:Nat}(hv:fZ v=true)(hg:ae H fo=some (.map (kE (fm ++ [(nm,z)])))) :
  cr (.map fo) (.int .i64 (fm.length:Int)) v ⟨H,e⟩=some ⟨aj H fo (.map (kE (fm ++ [(nm,v)]))),e⟩:=by
 have hlow:∀ L,v.low L=true:=fun L=>(dh v hv).2 L
 have hesc:en v fo ⟨H,e⟩=e:=by simp[en,hlow]
 have hn:cR (.int .i64 (fm.length:Int))=some fm.length:=by simp[cR]
 have hgi:(kE (fm ++ [(nm,z)]))[fm.length]?=some (.str nm,z):=by simp[kE]
 have hset:(kE (fm ++ [(nm,z)])).set fm.length (.str nm,v)=kE (fm ++ [(nm,v)]):=by
  simp only[kE,List.map_append,List.map_cons,List.map_nil];have h1:fm.length=(fm.map fun x:List Nat × AV=>(AV.str x.1,x.2)).length:=by simp
  rw[h1,List.set_append_right _ _ (Nat.le_refl _),Nat.sub_self];rfl
 rw[az] at hg;simp only[cr,hn,hg,hgi,hlow,hesc,hset,if_true,aM]
section
variable {uo bo:Nat}{LV:AV}{d:NdR}{vm:List (List Nat × Nat)}{fm:List (List Nat × AV)}{base:AV}{H Hc H' : Heap}{ns0:List Nat}{uc u' : UN}
theorem Nd.fset (N:Nd uo bo LV d vm fm base H ns0 Hc uc){fm' : List (List Nat × AV)}:Nd uo bo LV d vm fm' base H ns0 (aj Hc (aa H + 3) (.map (kE fm'))) uc:=by
 have hu:=N.uh;have hb:=N.bh;refine ⟨⟨N.C.U.to (by rw[an];exact Nat.le_refl _) (fun q hq hm=>af ?_ _),by rw[af (by omega)];exact N.C.b,by rw[af (by omega)];exact N.C.s,by rw[af (by omega)];exact N.C.v,aO N.C.f _,N.C.nb,N.C.ns,N.C.nv,N.C.nf⟩,by rw[af (by omega)];exact N.x,by rw[af (by omega)];exact N.n,N.x',N.n',N.G.put2 (by omega),N.uh,N.bh⟩
 rintro rfl
 rcases hm with h | h
 ·omega
 ·exact N.C.nf h
end
section
variable {M:Memo}{uo bo:Nat}{LV:AV}{d:NdR}{vm:List (List Nat × Nat)}{base:AV}{H:Heap}{ns0:List Nat}
def X0 (uo bo:Nat)(LV:AV)(d:NdR)(vm:List (List Nat × Nat))(fm' : List (List Nat × AV))(base:AV)(H:Heap)(ns0:List Nat)(u0:UN)(p' : PS)(X:IRes):Prop :=
 ∃ r' Hd ud e' A F,X=some (.exit 2,r',[],⟨Hd,e'⟩)∧Nd uo bo LV d vm fm' base H ns0 Hd ud∧ud.p=p'∧Same u0 ud∧uo≤e'∧RN H base A F r'
theorem Hy (hb:mc base){L:List DeR}(hL:L.length≤90000){u0:UN}{p' : PS}{fm' : List (List Nat × AV)}(hw:p'.w + 20 < 1000000) :
  ∀ (k i:Nat),k + i=L.length→∀ (fu:Nat),k < fu→∀ (Hc:Heap) (uc:UN) (e:Nat) (xs:List AtF) (fs:List (Int × Int)) (A F:AV) (fm:List (List Nat × AV)),qA vm (L.drop i) xs fs fm uc.p=some (fm',p')→Nd uo bo LV d vm fm base H ns0 Hc uc→AL xs A (aa Hc)→FL fs F→Same u0 uc→uo≤e→∀ (r:RG),RN H base A F r →
  (r.a.g.e=deZ L∧r.a.g.f=.int .i64 (L.length:Int)∧r.a.g.g=.int .i64 (i:Int)) →
  X0 uo bo LV d vm fm' base H ns0 u0 p' (au (kB (orc CC M)) fu r [] ⟨Hc,e⟩):=by
 intro k
 induction k with
 | zero =>
   intro i hi fu hfu Hc uc e xs fs A F fm hp N hA hF S he r hr ⟨h32,h33,h34⟩;obtain ⟨fu',rfl⟩ : ∃ f,fu=f + 1:=⟨fu - 1,by omega⟩
   have:i=L.length:=by omega
   subst this;have hc:decide ((L.length:Int) < (L.length:Int))=false:=by simp
   rw[List.drop_length] at hp;simp only[qA,SJ,PJ] at hp;obtain ⟨rfl,rfl⟩:=hp;simp only[au,kB,qZ,SIM,ST0,ST1,h33,h34,hc];exact ⟨_,Hc,uc,e,A,F,rfl,N,rfl,S,he,by first | exact hr⟩
 | succ k ih =>
   intro i hi fu hfu Hc uc e xs fs A F fm hp N hA hF S he r hr ⟨h32,h33,h34⟩;obtain ⟨hr5,hr6,hr11,hr4,hr2,hr3⟩:=hr;obtain ⟨fu',rfl⟩ : ∃ f,fu=f + 1:=⟨fu - 1,by omega⟩
   have hlt:i < L.length:=by omega
   have hc:decide ((i:Int) < (L.length:Int))=true:=by simp;omega
   have hd:L.drop i=L[i] :: L.drop (i + 1):=List.drop_eq_getElem_cons hlt;have hg:L[i]?=some L[i]:=by simp[hlt]
   generalize L[i]=a at hg hd;have hat:=vX hg;have ha:cA (i:Int) 1=((i + 1:Nat):Int):=bp i 1 (by unfold natMax;omega)
   rw[hd] at hp;simp only[qA] at hp;have N1:=N.ap [.cells a.l];have hdo:ae (Hc ++ [AObj.cells a.l]) (aa Hc)=some (.cells a.l):=by rw[aD];rfl
   have hlz:aa (Hc ++ [AObj.cells a.l])=aa Hc + 1:=by rw[aI];rfl
   have hx:=N1.x;have hs:=N1.C.s;cases haf:a.f with
   | true =>
     have hcn:∀ x y:IRes,gW (.bool a.f) x y=x:=fun x y=>by rw[haf];rfl
     rw[haf] at hp;simp only[cond_true] at hp
     split at hp
     ·cases hp
     ·rename_i o fs'
      split at hp
      ·cases hp
      ·rename_i hlk;obtain ⟨h0,_⟩ | ⟨lin,rfl⟩:=hF
       ·cases h0
       have N2:=N1.fset (fm':=fm ++ [(a.s,y1 o)]);have hme:=fun ee=>VX (e:=ee) hlk N1.C.f
       have hfe:=aO N1.C.f (.map (kE (fm ++ [(a.s,.agg [.int .i64 0,.int .i64 0])])));have hes:=fun ee=>Wa (v:=y1 o) (e:=ee) rfl hfe
       have hss:∀ (h:Heap) (n:Nat) (x y:AObj),aj (aj h n x) n y=aj h n y:=fun h n x y=>ei h n x y
       have hi0:bb 2 (.sl 2 ((o :: fs').map y1) lin) (.int .i64 0)=some (.iptr [.int .i64 o.1,.int .i64 o.2]):=rfl;have hld:∀ (x y:AV) (h:Heap),ax (some 2) (.iptr [x,y]) h=some (.agg [x,y]):=fun _ _ _=>rfl
       have hsl:bw CC 89 (.sl 2 ((o :: fs').map y1) lin) (some (.int .i64 1)) none none=some (.sl 2 (fs'.map y1) (Ny lin)):=nD cs148 (y1 o) (fs'.map y1) lin;have hso:AV.same (.agg [.int .i64 o.1,.int .i64 o.2]) (.agg [.int .i64 o.1,.int .i64 o.2])=true:=by simp[AV.same,sameL]
       have key:=ih (i + 1) (by omega) fu' (by omega) (aj (Hc ++ [.cells a.l]) (aa H + 3) (.map (kE (fm ++ [(a.s,y1 o)])))) uc e xs fs' A (.sl 2 (fs'.map y1) (Ny lin)) (fm ++ [(a.s,y1 o)]) hp N2 (hA.imp id (fun ⟨q,h1,h2⟩=>⟨q,h1,Lin.low_mono (by rw[an,hlz];omega) _ h2⟩)) (.inr ⟨_,rfl⟩) S he
       simp only[au,kB,qZ,vR,uT,Dq,uM,SIM,ST0,ST1,h32,h33,h34,hr11,hr3,hc,hat,ha,hcn,hs,WM,hdo,hi0,hld,hsl,hme,hes,hss,hso,orSt,orVal,ET,Nat.reduceAdd,Nat.reduceLeDiff];exact key _ ⟨by first | rfl | exact hr5,by first | rfl | exact hr6,by first | rfl | exact hr11,by first | rfl | exact hr4,by first | rfl | exact hr2,rfl⟩ ⟨by first | rfl | exact h32,by first | rfl | exact h33,rfl⟩
   | false =>
     have hcn:∀ x y:IRes,gW (.bool a.f) x y=y:=fun x y=>by rw[haf];rfl
     rw[haf] at hp;simp only[cond_false] at hp
     split at hp
     ·cases hp
     ·rename_i x xs'
      split at hp
      ·cases hp
      ·rename_i v hlk;obtain ⟨h0,_⟩ | ⟨lin,rfl,hlin⟩:=hA
       ·cases h0
       have hw1:=qM _ _ _ _ _ _ _ hp;have hpw:=UN.pw uc
       obtain ⟨V',H3,hap,hu3,hl3,hf3,hst,U4,G4⟩:=N1.C.U.addE 36 ⟨cpS,v,[x],KC lin (xs'.map AtF.av),base⟩ ⟨hb,Jp (Lin.low_mono (by rw[hlz];omega) _ hlin)⟩ (by
        simp only[PS.w,List.length_append,List.length_cons,List.length_nil] at hw1 hw;simp only[UN.p,List.length_map] at hw1;omega)
       have N2:=N1.step U4 G4;have hb1:=N1.C.b;have hE1:=N1.C.U.ob;have hv1:=md (j5 hlk) N1.C.v;have hsl1:bw CC 88 (.sl 3 ((x :: xs').map AtF.av) lin) none (some (.int .i64 1)) none=some (.sl 3 [x.av] (KC lin (xs'.map AtF.av))):=Cu cs139 x.av (xs'.map AtF.av) lin;have hsl2:bw CC 88 (.sl 3 ((x :: xs').map AtF.av) lin) (some (.int .i64 1)) none none=some (.sl 3 (xs'.map AtF.av) (Ny lin)):=nD cs139 x.av (xs'.map AtF.av) lin;have h142:=Fs cpS (v:Int) [x.av] (KC lin (xs'.map AtF.av)) hb;have h83:=AZ cpS (v:Int) [x.av] (KC lin (xs'.map AtF.av)) hb;have hap' : ∀ e l,aq CC 36 62 uc.E (.sl 4 [.agg [.str cpS,.int .i64 (v:Int),.sl 3 [x.av] (KC lin (xs'.map AtF.av)),base]] l) ⟨Hc ++ [.cells a.l],e⟩=some (V',⟨H3,e⟩):=hap;have hbl:=dG N1.C.b;have hb3:ae H3 bo=some (.cells [.ptr uo 0,LV]):=by rw[hf3 bo hbl (fun hm=>N1.C.nb (dV.2 (.inl hm))),hb1]
       have hx3:ae H3 (aa H)=some (.cells [.ptr bo 0]):=by rw[hf3 _ (dG N1.x) (fun hm=>N1.x' (dV.2 (.inl hm))),hx]
       have hst':=hst e he;have hsb:AV.same (.ptr bo 0) (.ptr bo 0)=true:=by simp[AV.same]
       have hsu:AV.same (.ptr uo 0) (.ptr uo 0)=true:=by simp[AV.same]
       have key:=ih (i + 1) (by omega) fu' (by omega) _ _ uo xs' fs (.sl 3 (xs'.map AtF.av) (Ny lin)) F fm (by simpa [UN.p,EqF.q] using hp) N2 (.inr ⟨_,rfl,Iz (Lin.low_mono (by rw[an];omega) _ hlin)⟩) hF ⟨S.nd,S.at_,S.I,S.O⟩ (Nat.le_refl _)
       simp only[au,kB,qZ,vR,uT,FG,Cy,uM,SIM,ST0,ST1,h32,h33,h34,hr5,hr11,hr4,hr2,hc,hat,ha,hcn,hx,hb1,hE1,hs,y4,lO,hdo,hv1,hsl1,hsl2,h142,h83,hap',hb3,hx3,hsb,hsu,hst',orSt,orVal,ET,Nat.reduceAdd,Nat.reduceLeDiff];exact key _ ⟨by first | rfl | exact hr5,by first | rfl | exact hr6,by first | rfl | exact hr11,by first | rfl | exact hr4,rfl,by first | rfl | exact hr3⟩ ⟨by first | rfl | exact h32,by first | rfl | exact h33,rfl⟩
end
theorem cc59:∃ e,CC.P.underlying 44=some (.slice e)∧e=85:=⟨_,by kernel_rfl,rfl⟩
theorem pS (L:List EqR):bn CC 44 (oc L)=some (.int .i64 (L.length:Int)):=by
 obtain ⟨e,hu,_⟩:=cc59;rw[cU hu,List.length_map]
theorem qF {L:List EqR}{i:Nat}{q:EqR}(h:L[i]?=some q):bb 8 (oc L) (.int .i64 (i:Int))=some (.iptr (qR q.l .dead q.a q.e)):=by
 refine cq (v:=q.v) ?_;rw[az,List.getElem?_map,h];rfl
theorem Wz (a b c d e f g h:AV)(H:Heap):ax (some 8) (.iptr [a,b,c,d,e,f,g,h]) H=some (.agg [a,b,c,d,e,f,g,h]):=rfl
theorem mh (q:EqR):AV.cells q.v=qR q.l .dead q.a q.e:=rfl
def sizeP:List EqR→PS→Option PS
 | [],p=>some p
 | q :: l,p=>cond (Nat.ble (p.size + sizeE q.e) 1500) (sizeP l { p with size:=p.size + sizeE q.e }) none
theorem sizeP_w:∀ (l:List EqR) (p p' : PS),sizeP l p=some p'→p.w≤p'.w
 | [],p,p',h=>by simp only[sizeP,SJ] at h;rw[h];exact Nat.le_refl _
 | q :: l,p,p',h=>by
   simp only[sizeP] at h;obtain ⟨_,h⟩:=aW h;have:=sizeP_w l _ _ h;simp only[PS.w] at this ⊢;omega
section
variable {M:Memo}{uo bo:Nat}{LV:AV}{d:NdR}{vm:List (List Nat × Nat)}{fm:List (List Nat × AV)}{base:AV}{H:Heap}{ns0:List Nat}
theorem zy (m:ia M){L:List EqR}(hL:L.length≤90000){u0:UN}{p' : PS}{A F:AV}(hw:p'.w + 20 < 1000000) :
  ∀ (k i:Nat),k + i=L.length→∀ (fu:Nat),k < fu→∀ (Hc:Heap) (uc:UN) (e:Nat),sizeP (L.drop i) uc.p=some p'→Nd uo bo LV d vm fm base H ns0 Hc uc→Same u0 uc→uo≤e→∀ (r:RG),RN H base A F r →
  (r.b.f.a=oc L∧r.b.f.b=.int .i64 (L.length:Int)∧r.b.f.c=.int .i64 (i:Int)) →
  Xk uo bo LV d fm base H ns0 4 A F vm u0 p' (au (my (orc CC M)) fu r [] ⟨Hc,e⟩):=by
 intro k
 induction k with
 | zero =>
   intro i hi fu hfu Hc uc e hp N S he r hr ⟨h32,h33,h34⟩;obtain ⟨fu',rfl⟩ : ∃ f,fu=f + 1:=⟨fu - 1,by omega⟩
   have:i=L.length:=by omega
   subst this;have hc:decide ((L.length:Int) < (L.length:Int))=false:=by simp
   rw[List.drop_length] at hp;simp only[sizeP,SJ] at hp;subst hp;simp only[au,my,vK,SIM,ST0,ST1,ST2,ST3,h33,h34,hc];exact ⟨_,Hc,uc,e,rfl,N,rfl,S,he,by first | exact hr⟩
 | succ k ih =>
   intro i hi fu hfu Hc uc e hp N S he r hr ⟨h32,h33,h34⟩;obtain ⟨hr5,hr6,hr11,hr4,hr2,hr3⟩:=hr;obtain ⟨fu',rfl⟩ : ∃ f,fu=f + 1:=⟨fu - 1,by omega⟩
   have hlt:i < L.length:=by omega
   have hc:decide ((i:Int) < (L.length:Int))=true:=by simp;omega
   have hd:L.drop i=L[i] :: L.drop (i + 1):=List.drop_eq_getElem_cons hlt;have hg:L[i]?=some L[i]:=by simp[hlt]
   generalize L[i]=q at hg hd;have hat:=qF hg;have ha:cA (i:Int) 1=((i + 1:Nat):Int):=bp i 1 (by unfold natMax;omega)
   rw[hd] at hp;simp only[sizeP] at hp;obtain ⟨hb1,hp⟩:=aW hp;rw[dk,decide_eq_true_eq] at hb1;have hsz:uc.p.size=uc.size:=rfl;rw[hsz] at hb1 hp;have N1:=N.ap [qO q];have hwp:=sizeP_w _ _ _ hp;have hpw:=UN.pw uc;have E:=KJ m (u:=uc) (sizeE q.e) q.e (Nat.le_refl _) (by omega) uc.size (Hc ++ [qO q]) (by omega) N1.x N1.C.b N1.C.U.ob
   have hlz:aa (Hc ++ [qO q])=aa Hc + 1:=by rw[aI];rfl
   rw[hlz] at E
   have U2:=N1.C.U.setv (v:=uc.vars) (s:=uc.size + sizeE q.e) (i:=uc.I) (o:=uc.O) (by
    simp only[PS.w] at hwp hw;simp only[UN.p,List.length_map] at hwp;omega)
   have N2:Nd uo bo LV d vm fm base H ns0 (aj (Hc ++ [qO q]) uo (uO uc (uc.size + sizeE q.e))) { uc with size:=uc.size + sizeE q.e }:=N1.step U2 (Gr.put _)
   have hdo:ae (Hc ++ [qO q]) (aa Hc)=some (qO q):=by rw[aD];rfl
   have hone:=yR q;have hnn:=wU q;have hx2:=N2.x;have hb2:=N2.C.b;have hu2:ae (aj (Hc ++ [qO q]) uo (uO uc (uc.size + sizeE q.e))) uo=some (uO uc (uc.size + sizeE q.e)):=N2.C.U.ob;have hgt:decide ((1500:Int) < ((uc.size + sizeE q.e:Nat):Int))=false:=by simp;omega
   have key:=ih (i + 1) (by omega) fu' (by omega) _ _ (min e (aa Hc + 1)) hp N2 ⟨S.nd,S.at_,S.I,S.O⟩ (by have:=N.C.U.uo;omega)
   generalize aj (Hc ++ [qO q]) uo (uO uc (uc.size + sizeE q.e))=H2 at E N2 hx2 hb2 hu2 key;simp only[au,my,vK,GY,El,D6,Bu,SIM,ST0,ST1,ST2,ST3,h32,h33,h34,hr5,hc,hat,ha,Wz,mh,hone,hnn,hdo,UU,EXS,E,hx2,hb2,hu2,LC,hgt,Nat.reduceAdd,Nat.reduceLeDiff];exact key _ ⟨by first | rfl | exact hr5,by first | rfl | exact hr6,by first | rfl | exact hr11,by first | rfl | exact hr4,by first | rfl | exact hr2,by first | rfl | exact hr3⟩ ⟨by first | rfl | exact h32,by first | rfl | exact h33,rfl⟩
end
abbrev FmS:=List (List Nat × AV)
def fe (sp:EqR→FmS→PS→Option (FmS × PS)):List EqR→FmS→PS→Option (FmS × PS)
 | [],fm,p=>some (fm,p)
 | q :: l,fm,p=>cond q.a (match sp q fm p with
   | none=>none
   | some (fm1,p1)=>fe sp l fm1 p1) (fe sp l fm p)
def il (gv:EqR→PS→Option PS):List EqR→PS→Option PS
 | [],p=>some p
 | q :: l,p=>match gv q p with
   | none=>none
   | some p1=>il gv l p1
theorem iV {sp:EqR→FmS→PS→Option (FmS × PS)}(hs:∀ q fm p fm' p',sp q fm p=some (fm',p')→p.w≤p'.w):∀ (l:List EqR) (fm fm' : FmS) (p p' : PS),fe sp l fm p=some (fm',p')→p.w≤p'.w
 | [],fm,fm',p,p',h=>by simp only[fe,SJ,PJ] at h;rw[h.2];exact Nat.le_refl _
 | q :: l,fm,fm',p,p',h=>by
   simp only[fe] at h;cases hq:q.a with
   | true =>
     rw[hq] at h;simp only[cond_true] at h
     split at h
     ·cases h
     ·rename_i fm1 p1 h1;exact Nat.le_trans (hs _ _ _ _ _ h1) (iV hs l _ _ _ _ h)
   | false=>rw[hq] at h;exact iV hs l _ _ _ _ h
theorem nX {gv:EqR→PS→Option PS}(hs:∀ q p p',gv q p=some p'→p.w≤p'.w):∀ (l:List EqR) (p p' : PS),il gv l p=some p'→p.w≤p'.w
 | [],p,p',h=>by simp only[il,SJ] at h;rw[h];exact Nat.le_refl _
 | q :: l,p,p',h=>by
   simp only[il] at h
   split at h
   ·cases h
   ·rename_i p1 h1;exact Nat.le_trans (hs _ _ _ h1) (nX hs l _ _ h)
section
variable (M:Memo)(uo bo:Nat)(LV:AV)(d:NdR)(vm:List (List Nat × Nat))(base:AV)(H:Heap)(ns0:List Nat)
def JW (sp:EqR→FmS→PS→Option (FmS × PS))(q:EqR):Prop:=∀ (Hc:Heap) (uc:UN) (fm fm' : FmS) (p' : PS),sp q fm uc.p=some (fm',p')→Nd uo bo LV d vm fm base H ns0 Hc uc→p'.w + 20 < 1000000 →
 ∃ H' u' esc,orc CC M 49 [.ptr bo 0,.ptr (aa H + 4) 0,q.v] Hc=some (.ret Abs.undef H' esc)∧Nd uo bo LV d vm fm' base H ns0 H' u'∧u'.p=p'∧Same uc u'∧uo≤esc
def Fc (fm:FmS)(gv:EqR→PS→Option PS)(q:EqR):Prop:=∀ (Hc:Heap) (uc:UN) (p' : PS),gv q uc.p=some p'→Nd uo bo LV d vm fm base H ns0 Hc uc→p'.w + 20 < 1000000 →
 ∃ H' u' esc,orc CC M 50 [.ptr bo 0,.ptr (aa H + 4) 0,q.v] Hc=some (.ret Abs.undef H' esc)∧UI uo H' u'∧Gr uo Hc uc.ns H' u'.ns∧u'.p=p'∧Same uc u'∧uo≤esc∧esc < aa H
end
section
variable {M:Memo}{uo bo:Nat}{LV:AV}{d:NdR}{vm:List (List Nat × Nat)}{base:AV}{H:Heap}{ns0:List Nat}
def Xi (uo bo:Nat)(LV:AV)(d:NdR)(vm:List (List Nat × Nat))(fm' : FmS)(base:AV)(H:Heap)(ns0:List Nat)(i:Nat)(A F:AV)(u0:UN)(p' : PS)(ok:Nat→Prop)(X:IRes):Prop :=
 ∃ r' Hd ud e',X=some (.exit i,r',[],⟨Hd,e'⟩)∧Nd uo bo LV d vm fm' base H ns0 Hd ud∧ud.p=p'∧Same u0 ud∧uo≤e'∧ok e'∧RN H base A F r'
theorem sw {sp:EqR→FmS→PS→Option (FmS × PS)}(hsw:∀ q fm p fm' p',sp q fm p=some (fm',p')→p.w≤p'.w){L:List EqR}(hL:L.length≤90000)(hok:∀ q ∈ L,q.a=true→JW M uo bo LV d vm base H ns0 sp q){u0:UN}{p' : PS}{fm' : FmS}{A F:AV}(hw:p'.w + 20 < 1000000) :
  ∀ (k i:Nat),k + i=L.length→∀ (fu:Nat),k < fu→∀ (Hc:Heap) (uc:UN) (e:Nat) (fm:FmS),fe sp (L.drop i) fm uc.p=some (fm',p')→Nd uo bo LV d vm fm base H ns0 Hc uc→Same u0 uc→uo≤e→∀ (r:RG),RN H base A F r →
  (r.c.a.f=oc L∧r.c.a.g=.int .i64 (L.length:Int)∧r.c.a.h=.int .i64 (i:Int)) →
  Xi uo bo LV d vm fm' base H ns0 6 A F u0 p' (fun _=>True) (au (kX (orc CC M)) fu r [] ⟨Hc,e⟩):=by
 intro k
 induction k with
 | zero =>
   intro i hi fu hfu Hc uc e fm hp N S he r hr ⟨h32,h33,h34⟩;obtain ⟨fu',rfl⟩ : ∃ f,fu=f + 1:=⟨fu - 1,by omega⟩
   have:i=L.length:=by omega
   subst this;have hc:decide ((L.length:Int) < (L.length:Int))=false:=by simp
   rw[List.drop_length] at hp;simp only[fe,SJ,PJ] at hp;obtain ⟨rfl,rfl⟩:=hp;simp only[au,kX,qT,SIM,ST0,ST1,ST2,ST3,ST4,h33,h34,hc];exact ⟨_,Hc,uc,e,rfl,N,rfl,S,he,trivial,by first | exact hr⟩
 | succ k ih =>
   intro i hi fu hfu Hc uc e fm hp N S he r hr ⟨h32,h33,h34⟩;obtain ⟨hr5,hr6,hr11,hr4,hr2,hr3⟩:=hr;obtain ⟨fu',rfl⟩ : ∃ f,fu=f + 1:=⟨fu - 1,by omega⟩
   have hlt:i < L.length:=by omega
   have hc:decide ((i:Int) < (L.length:Int))=true:=by simp;omega
   have hd:L.drop i=L[i] :: L.drop (i + 1):=List.drop_eq_getElem_cons hlt;have hg:L[i]?=some L[i]:=by simp[hlt]
   have hmem:=List.getElem_mem hlt;generalize L[i]=q at hg hd hmem;have hat:=qF hg;have ha:cA (i:Int) 1=((i + 1:Nat):Int):=bp i 1 (by unfold natMax;omega)
   rw[hd] at hp;simp only[fe] at hp;have N1:=N.ap [qO q];have hdo:ae (Hc ++ [qO q]) (aa Hc)=some (qO q):=by rw[aD];rfl
   have hone:=yR q;have hnn:=wU q;cases haf:q.a with
   | false =>
     have hcn:∀ x y:IRes,gW (.bool q.a) x y=y:=fun x y=>by rw[haf];rfl
     rw[haf] at hp;simp only[cond_false] at hp;have key:=ih (i + 1) (by omega) fu' (by omega) (Hc ++ [qO q]) uc e fm hp N1 S he
     simp only[au,kX,qT,vM,we,vL,SIM,ST0,ST1,ST2,ST3,ST4,h32,h33,h34,hc,hat,ha,Wz,mh,hone,hnn,hdo,hcn,Nat.reduceAdd,Nat.reduceLeDiff];exact key _ ⟨by first | rfl | exact hr5,by first | rfl | exact hr6,by first | rfl | exact hr11,by first | rfl | exact hr4,by first | rfl | exact hr2,by first | rfl | exact hr3⟩ ⟨by first | rfl | exact h32,by first | rfl | exact h33,rfl⟩
   | true =>
     have hcn:∀ x y:IRes,gW (.bool q.a) x y=x:=fun x y=>by rw[haf];rfl
     rw[haf] at hp;simp only[cond_true] at hp
     split at hp
     ·cases hp
     ·rename_i fm1 p1 h1;have hw1:=iV hsw _ _ _ _ _ hp;obtain ⟨H2,u2,e2,hR,N2,hp2,S2,he2⟩:=hok q hmem haf (Hc ++ [qO q]) uc fm fm1 p1 h1 N1 (by omega)
      have key:=ih (i + 1) (by omega) fu' (by omega) H2 u2 (min e e2) fm1 (by rw[hp2];exact hp) N2 (S.trans S2) (by omega)
      have hx:=N1.x;have hP8:∀ a b c d e f g h:AV,ex (some 8) [a,b,c,d,e,f,g,h] 0=some (.agg [a,b,c,d,e,f,g,h]):=fun _ _ _ _ _ _ _ _=>rfl
      simp only[au,kX,qT,vM,we,AR,vL,SIM,ST0,ST1,ST2,ST3,ST4,h32,h33,h34,hr5,hr11,hc,hat,ha,Wz,mh,hone,hnn,hdo,hcn,hx,hR,hP8,Nat.reduceAdd,Nat.reduceLeDiff];exact key _ ⟨by first | rfl | exact hr5,by first | rfl | exact hr6,by first | rfl | exact hr11,by first | rfl | exact hr4,by first | rfl | exact hr2,by first | rfl | exact hr3⟩ ⟨by first | rfl | exact h32,by first | rfl | exact h33,rfl⟩
theorem uS {fm:FmS}{gv:EqR→PS→Option PS}(hgw:∀ q p p',gv q p=some p'→p.w≤p'.w){L:List EqR}(hL:L.length≤90000)(hok:∀ q ∈ L,Fc M uo bo LV d vm base H ns0 fm gv q){u0:UN}{p' : PS}{A F:AV}(hw:p'.w + 20 < 1000000) :
  ∀ (k i:Nat),k + i=L.length→∀ (fu:Nat),k < fu→∀ (Hc:Heap) (uc:UN) (e:Nat),il gv (L.drop i) uc.p=some p'→Nd uo bo LV d vm fm base H ns0 Hc uc→Same u0 uc→uo≤e→(0 < i→e < aa H)→∀ (r:RG),RN H base A F r →
  (r.c.c.d=oc L∧r.c.c.e=.int .i64 (L.length:Int)∧r.c.c.f=.int .i64 (i:Int)) →
  Xi uo bo LV d vm fm base H ns0 8 A F u0 p' (fun e'=>0 < L.length→e' < aa H) (au (mP (orc CC M)) fu r [] ⟨Hc,e⟩):=by
 intro k
 induction k with
 | zero =>
   intro i hi fu hfu Hc uc e hp N S he hel r hr ⟨h32,h33,h34⟩;obtain ⟨fu',rfl⟩ : ∃ f,fu=f + 1:=⟨fu - 1,by omega⟩
   have:i=L.length:=by omega
   subst this;have hc:decide ((L.length:Int) < (L.length:Int))=false:=by simp
   rw[List.drop_length] at hp;simp only[il,SJ] at hp;subst hp;simp only[au,mP,wg,SIM,ST0,ST1,ST2,ST3,ST4,h33,h34,hc];exact ⟨_,Hc,uc,e,rfl,N,rfl,S,he,hel,by first | exact hr⟩
 | succ k ih =>
   intro i hi fu hfu Hc uc e hp N S he hel r hr ⟨h32,h33,h34⟩;obtain ⟨hr5,hr6,hr11,hr4,hr2,hr3⟩:=hr;obtain ⟨fu',rfl⟩ : ∃ f,fu=f + 1:=⟨fu - 1,by omega⟩
   have hlt:i < L.length:=by omega
   have hc:decide ((i:Int) < (L.length:Int))=true:=by simp;omega
   have hd:L.drop i=L[i] :: L.drop (i + 1):=List.drop_eq_getElem_cons hlt;have hg:L[i]?=some L[i]:=by simp[hlt]
   have hmem:=List.getElem_mem hlt;generalize L[i]=q at hg hd hmem;have hat:=qF hg;have ha:cA (i:Int) 1=((i + 1:Nat):Int):=bp i 1 (by unfold natMax;omega)
   rw[hd] at hp;simp only[il] at hp
   split at hp
   ·cases hp
   ·rename_i p1 h1;have N1:=N.ap [qO q];have hdo:ae (Hc ++ [qO q]) (aa Hc)=some (qO q):=by rw[aD];rfl
    have hone:=yR q;have hnn:=wU q;have hw1:=nX hgw _ _ _ hp;obtain ⟨H2,u2,e2,hR,U2,G2,hp2,S2,he2,hel2⟩:=hok q hmem (Hc ++ [qO q]) uc p1 h1 N1 (by omega)
    have N2:=N1.step U2 G2;have key:=ih (i + 1) (by omega) fu' (by omega) H2 u2 (min e e2) (by rw[hp2];exact hp) N2 (S.trans S2) (by omega) (fun _=>by omega)
    have hx:=N1.x;have hP8:∀ a b c d e f g h:AV,ex (some 8) [a,b,c,d,e,f,g,h] 0=some (.agg [a,b,c,d,e,f,g,h]):=fun _ _ _ _ _ _ _ _=>rfl
    simp only[au,mP,wg,Em,C6,Dx,SIM,ST0,ST1,ST2,ST3,ST4,h32,h33,h34,hr5,hr11,hc,hat,ha,Wz,mh,hone,hnn,hdo,hx,hR,hP8,Nat.reduceAdd,Nat.reduceLeDiff];exact key _ ⟨by first | rfl | exact hr5,by first | rfl | exact hr6,by first | rfl | exact hr11,by first | rfl | exact hr4,by first | rfl | exact hr2,by first | rfl | exact hr3⟩ ⟨by first | rfl | exact h32,by first | rfl | exact h33,rfl⟩
end
theorem se22:∃ e i z,bE CC 61=some e∧CC.P.info? e=some i∧ck CC e=some z∧i.size=1∧(0 < i.bytes∧i.bytes≤65536)∧z.cells.length=1:=by
 have h:Tl 61=some (1,true,1):=by kernel_rfl
 unfold Tl at h
 split at h
 ·rename_i e he
  split at h
  ·rename_i i z hi hz;simp only[SJ,PJ,decide_eq_true_eq] at h;exact ⟨e,i,z,he,hi,hz,h.1,h.2.1,h.2.2⟩
  ·cases h
 ·cases h
abbrev inV (n:Nat):AV:=.int .i64 (n:Int)
theorem iS {f:Nat}(hf:CC.mutT f 61=false)(n:Nat)(lin:Lin)(hp:Heap)(e:Nat):aq CC f 61 .nils (.sl 1 [inV n] lin) ⟨hp,e⟩=some (.sl 1 [inV n] (.live (aa hp) 0),⟨hp ++ [.lin 0],e⟩):=by
 obtain ⟨el,i,z,h1,h2,h3,h4,h6,h7⟩:=se22;have hok:[inV n].all (bt 1)=true:=rfl
 have hne:¬ (i.size=0∨i.bytes=0∨z.cells.length ≠ i.size∨[inV n].all (bt i.size)=false∨2 ^ 16 < i.bytes):=by
  rw[h4,hok,h7];simp;omega
 simp only[aq,h1,h2,h3,ba,h4,if_true];rw[h4] at hne;rw[if_neg hne];simp[hf,ai]
theorem gR {f:Nat}(hf:CC.mutT f 61=false){xs:List AV}(n:Nat)(lin:Lin){hp:Heap}{e id g:Nat}(hg:ae hp id=some (.lin g))(hl:xs.length + 1≤2 ^ 24) :
  aq CC f 61 (.sl 1 xs (.live id g)) (.sl 1 [inV n] lin) ⟨hp,e⟩=some (.sl 1 (xs ++ [inV n]) (.live id (g + 1)),⟨aj hp id (.lin (g + 1)),e⟩):=by
 obtain ⟨el,i,z,h1,h2,h3,h4,h6,h7⟩:=se22;have hok:[inV n].all (bt 1)=true:=rfl
 have hne:¬ (i.size=0∨i.bytes=0∨z.cells.length ≠ i.size∨[inV n].all (bt i.size)=false∨2 ^ 16 < i.bytes):=by
  rw[h4,hok,h7];simp;omega
 rw[az] at hg;simp only[aq,h1,h2,h3,ba,h4,if_true];rw[h4] at hne;rw[if_neg hne];simp[hf,hl,hg,aM]
theorem nQ (n:Nat):aP CC 61 1 [(0,inV n)]=some (.sl 1 [inV n] .lit):=by
 have:∀ z:Int,aP CC 61 1 [(0,.int .i64 z)]=some (.sl 1 [.int .i64 z] .lit):=fun z=>by kernel_rfl
 exact this _
def rW (vm:List (List Nat × Nat)):List DeR→Option (List Nat)
 | []=>some []
 | x :: l=>match jm x.s vm with
   | none=>none
   | some v=>match rW vm l with
     | none=>none
     | some r=>some (v :: r)
def Iv (b:Nat)(ns:List Nat)(Hc:Heap)(V:AV)(acc:List Nat):Prop:=(acc=[]∧V=.nils)∨(acc ≠ []∧∃ id g,V=.sl 1 (acc.map inV) (.live id g)∧ae Hc id=some (.lin g)∧b≤id∧id ∉ ns)
section
variable {M:Memo}{uo bo:Nat}{LV:AV}{d:NdR}{vm:List (List Nat × Nat)}{fm:FmS}{base:AV}{H:Heap}{ns0:List Nat}
theorem Nd.lset {Hc:Heap}{uc:UN}{id g:Nat}{v:AObj}(N:Nd uo bo LV d vm fm base H ns0 Hc uc)(hg:ae Hc id=some (.lin g))(hid:aa H≤id)(hn:id ∉ uc.ns):Nd uo bo LV d vm fm base H ns0 (aj Hc id v) uc:=by
 have hu:=N.uh;have hb:=N.bh
 have key:∀ q o,ae Hc q=some o→(∀ g,o ≠ .lin g)→q ≠ id:=fun q o hq ho he=>by
  rw[he,hg] at hq;simp only[SJ] at hq;exact ho g hq.symm
 have C:=N.C;refine ⟨⟨C.U.to (by rw[an];exact Nat.le_refl _) (fun q hq hm=>af ?_ _),by rw[af (by omega)];exact C.b,by rw[af (key _ _ C.s (fun g h=>by cases h))];exact C.s,by rw[af (key _ _ C.v (fun g h=>by cases h))];exact C.v,by rw[af (key _ _ C.f (fun g h=>by cases h))];exact C.f,C.nb,C.ns,C.nv,C.nf⟩,by rw[af (key _ _ N.x (fun g h=>by cases h))];exact N.x,by rw[af (key _ _ N.n (fun g h=>by cases h))];exact N.n,N.x',N.n',N.G.put2 hid,N.uh,N.bh⟩
 rintro rfl
 rcases hm with h | h
 ·omega
 ·exact hn h
def WI (uo bo:Nat)(LV:AV)(d:NdR)(vm:List (List Nat × Nat))(fm' : FmS)(base:AV)(H:Heap)(ns0:List Nat)(uc:UN)(e:Nat)(l:List Nat)(X:IRes):Prop :=
 ∃ r' Hd,X=some (.exit 10,r',[],⟨Hd,e⟩)∧Nd uo bo LV d vm fm' base H ns0 Hd uc∧Iv (aa H) uc.ns Hd r'.a.c.g l
theorem y2 {L:List DeR}(hL:L.length≤90000){uc:UN}{e:Nat}{base:AV}{A F:AV} :
  ∀ (k i:Nat),k + i=L.length→∀ (fu:Nat),k < fu→∀ (Hc:Heap) (acc l:List Nat),acc.length≤i→rW vm (L.drop i)=some l→Nd uo bo LV d vm fm base H ns0 Hc uc→∀ (r:RG),RN H base A F r→Iv (aa H) uc.ns Hc r.a.c.g acc →
  (r.c.d.h=deZ L∧r.c.e.a=.int .i64 (L.length:Int)∧r.c.e.b=.int .i64 (i:Int)) →
  WI uo bo LV d vm fm base H ns0 uc e (acc ++ l) (au (lw (orc CC M)) fu r [] ⟨Hc,e⟩):=by
 intro k
 induction k with
 | zero =>
   intro i hi fu hfu Hc acc l hal hp N r hr hA ⟨h32,h33,h34⟩;obtain ⟨fu',rfl⟩ : ∃ f,fu=f + 1:=⟨fu - 1,by omega⟩
   have:i=L.length:=by omega
   subst this;have hc:decide ((L.length:Int) < (L.length:Int))=false:=by simp
   rw[List.drop_length] at hp;simp only[rW,SJ] at hp;subst hp;simp only[au,lw,qe,SIM,ST0,ST1,ST2,ST3,ST4,ST5,h33,h34,hc];exact ⟨_,Hc,rfl,N,by first | exact hA⟩
 | succ k ih =>
   intro i hi fu hfu Hc acc l hal hp N r hr hA ⟨h32,h33,h34⟩;obtain ⟨hr5,hr6,hr11,hr4,hr2,hr3⟩:=hr;obtain ⟨fu',rfl⟩ : ∃ f,fu=f + 1:=⟨fu - 1,by omega⟩
   have hlt:i < L.length:=by omega
   have hc:decide ((i:Int) < (L.length:Int))=true:=by simp;omega
   have hd:L.drop i=L[i] :: L.drop (i + 1):=List.drop_eq_getElem_cons hlt;have hg:L[i]?=some L[i]:=by simp[hlt]
   generalize L[i]=a at hg hd;have hat:=vX hg;have ha:cA (i:Int) 1=((i + 1:Nat):Int):=bp i 1 (by unfold natMax;omega)
   rw[hd] at hp;simp only[rW] at hp
   split at hp
   ·cases hp
   ·rename_i v hlk
    split at hp
    ·cases hp
    ·rename_i l' hl';simp only[SJ] at hp;subst hp;have N1:=N.ap [.cells a.l];have hdo:ae (Hc ++ [AObj.cells a.l]) (aa Hc)=some (.cells a.l):=by rw[aD];rfl
     have hs:=N1.C.s;have hv:=md (j5 hlk) N1.C.v;have hb22:=nQ v;have hmt:CC.mutT 36 61=false:=rfl
     rcases hA with ⟨rfl,hV⟩ | ⟨h0,id,g,hV,hgi,hid,hni⟩
     ·have happ:=fun e=>iS hmt v .lit (Hc ++ [.cells a.l]) e
      have hlz:aa (Hc ++ [AObj.cells a.l])=aa Hc + 1:=by rw[aI];rfl
      have key:=ih (i + 1) (by omega) fu' (by omega) (Hc ++ [.cells a.l] ++ [.lin 0]) [v] l' (by simp) hl' (N1.ap _)
      have hnew:Iv (aa H) uc.ns (Hc ++ [.cells a.l] ++ [.lin 0]) (.sl 1 [inV v] (.live (aa (Hc ++ [AObj.cells a.l])) 0)) [v]:=.inr ⟨by simp,_,_,rfl,by rw[aD];rfl,N1.G.len,fun hm=>by have:=(N1.C.U.lt _ hm).2;omega⟩
      rw[hlz] at hnew;have happ' : ∀ e,aq CC 36 61 .nils (.sl 1 [inV v] .lit) ⟨Hc ++ [.cells a.l],e⟩=some (.sl 1 [inV v] (.live (aa Hc + 1) 0),⟨Hc ++ [.cells a.l] ++ [.lin 0],e⟩):=fun e=>by rw[happ,hlz]
      simp only[List.append_assoc,List.cons_append,List.nil_append] at key hnew happ';simp only[au,lw,qe,uC,vw,um,SIM,ST0,ST1,ST2,ST3,ST4,ST5,h32,h33,h34,hr11,hc,hat,ha,hs,y4,hdo,hv,hb22,hV,happ',orVal,Nat.reduceAdd,Nat.reduceLeDiff];exact key _ ⟨by first | rfl | exact hr5,by first | rfl | exact hr6,by first | rfl | exact hr11,by first | rfl | exact hr4,by first | rfl | exact hr2,by first | rfl | exact hr3⟩ hnew ⟨by first | rfl | exact h32,by first | rfl | exact h33,rfl⟩
     ·have hgi1:=aw hgi [.cells a.l];have happ:=fun e=>gR (xs:=acc.map inV) (e:=e) hmt v .lit hgi1 (by rw[List.length_map];omega)
      have hmap:acc.map inV ++ [inV v]=(acc ++ [v]).map inV:=by simp
      rw[hmap] at happ;have key:=ih (i + 1) (by omega) fu' (by omega) (aj (Hc ++ [.cells a.l]) id (.lin (g + 1))) (acc ++ [v]) l' (by simp;omega) hl' (N1.lset hgi1 hid hni)
      rw[List.append_assoc] at key;have hnew:Iv (aa H) uc.ns (aj (Hc ++ [.cells a.l]) id (.lin (g + 1))) (.sl 1 ((acc ++ [v]).map inV) (.live id (g + 1))) (acc ++ [v]):=.inr ⟨by simp,_,_,rfl,aO hgi1 _,hid,hni⟩
      simp only[au,lw,qe,uC,vw,um,SIM,ST0,ST1,ST2,ST3,ST4,ST5,h32,h33,h34,hr11,hc,hat,ha,hs,y4,hdo,hv,hb22,hV,happ,orVal,Nat.reduceAdd,Nat.reduceLeDiff];exact key _ ⟨by first | rfl | exact hr5,by first | rfl | exact hr6,by first | rfl | exact hr11,by first | rfl | exact hr4,by first | rfl | exact hr2,by first | rfl | exact hr3⟩ hnew ⟨by first | rfl | exact h32,by first | rfl | exact h33,rfl⟩
end
def sE (sp:List (List Nat × Nat)→EqR→FmS→PS→Option (FmS × PS))(gv:List (List Nat × Nat)→FmS→EqR→PS→Option PS)(d:NdR)(xs:List AtF)(fs:List (Int × Int))(p:PS):Option (List Nat × PS) :=
 match placesP (dw d) [] p with
 | none=>none
 | some (vm,p1)=>match qA vm d.ins xs fs [] p1 with
   | none=>none
   | some (fm,p2)=>match sizeP d.eqs p2 with
     | none=>none
     | some p3=>match fe (sp vm) d.eqs fm p3 with
       | none=>none
       | some (fm',p4)=>match il (gv vm fm') d.eqs p4 with
         | none=>none
         | some p5=>match rW vm d.outs with
           | none=>none
           | some l=>some (l,p5)
theorem VA (d:NdR)(a b:Nat){base:AV}(hb:mc base):ar CC 121 [(0,d.v),(1,.map a),(2,.map b),(3,base)]=some (.agg (zq d (.map a) (.map b) base)):=by
 obtain ⟨s,p,I,O,V,E⟩:=d
 have key:∀ (x y z w:AV) (q:Int),(x=.nils∨∃ l,x=.sl 6 l .dead)→(y=.nils∨∃ l,y=.sl 6 l .dead)→(z=.nils∨∃ l,z=.sl 6 l .dead)→(∃ l,w=.sl 8 l .dead)→ar CC 121 [(0,.agg [.str s,.int .i64 q,x,y,z,w]),(1,.map a),(2,.map b),(3,base)]=some (.agg [.str s,.int .i64 q,x,y,z,w,.map a,.map b,base]):=by
  intro x y z w q hx hy hz hw;obtain ⟨l,rfl⟩:=hw
  rcases hx with rfl | ⟨l1,rfl⟩ <;> rcases hy with rfl | ⟨l2,rfl⟩ <;> rcases hz with rfl | ⟨l3,rfl⟩ <;> rcases hb with rfl | rfl <;> kernel_rfl
 have hd:∀ l:List DeR,deZ l=.nils∨∃ k,deZ l=.sl 6 k .dead:=fun l=>by cases l with
  | nil=>exact .inl rfl
  | cons a l=>exact .inr ⟨_,rfl⟩
 exact key _ _ _ _ _ (hd I) (hd O) (hd V) ⟨_,rfl⟩
theorem VS (d:NdR){a b L:Nat}{base:AV}(hb:mc base)(ha:a < L)(hb' : b < L):ep (.agg (zq d (.map a) (.map b) base)) L=some (.cells (zq d (.map a) (.map b) base),(.ptr · 0)):=by
 have hone:(zq d (.map a) (.map b) base).all AV.one=true:=by
  rcases hb with rfl | rfl <;> simp only[List.all_cons,List.all_nil,kj,ip,ev,eA,Bool.and_true,Bool.true_and] <;> rfl
 have hlow:AV.low L (.agg (zq d (.map a) (.map b) base))=true:=by
  have h:=fun l=>(dh (deZ l) (fc l)).2 L
  have h2:aR L (d.eqs.map EqR.v)=true:=dS (eq_noN _) L;have h4:Lin.low L .dead=true:=rfl;have h3:AV.low L base=true:=by rcases hb with rfl | rfl <;> simp[AV.low,aR,Lin.low]
  simp only[AV.low,aR,h,h2,h4,h3,ha,hb',decide_true,Bool.and_self]
 unfold ep;rw[if_pos ⟨hone,hlow⟩];rfl
theorem Qw (n L:Nat)(h:n < L):ep (.ptr n 0) L=some (.cells [.ptr n 0],(.ptr · 0)):=by
 have h1:(AV.ptr n 0).cells.all AV.one=true:=rfl;have h2:AV.low L (.ptr n 0)=true:=by simp[AV.low,h]
 unfold ep;rw[if_pos ⟨h1,h2⟩];rfl
theorem P6 (a b c d e f:AV):ex (some 6) [a,b,c,d,e,f] 0=some (.agg [a,b,c,d,e,f]):=rfl
theorem SN (rec:RecT):z36.sh rec=ac (ac (yO rec) (ac (wB rec) (wR rec))) (ac (aS 0 (aY (pd rec))) (ac (yw rec) (ac (aS 2 (aY (kB rec))) (ac (ra rec) (ac (aS 4 (aY (my rec))) (ac (qY rec) (ac (aS 6 (aY (kX rec))) (ac (qL rec) (ac (aS 8 (aY (mP rec))) (ac (rk rec) (ac (q5 rec) (ac (aS 10 (aY (lw rec))) (ac (qV rec) retZ))))))))))))):=by
 simp only[z36,ff]
section
variable {M:Memo}{uo bo:Nat}{LV:AV}{base:AV}
theorem KW (m:ia M){sp:List (List Nat × Nat)→EqR→FmS→PS→Option (FmS × PS)}{gv:List (List Nat × Nat)→FmS→EqR→PS→Option PS}
  (hsw:∀ vm q fm p fm' p',sp vm q fm p=some (fm',p')→p.w≤p'.w) (hgw:∀ vm fm q p p',gv vm fm q p=some p'→p.w≤p'.w) (hb:mc base) {d:NdR} (hl:(dw d).length≤90000) (hel:d.eqs.length≤90000) (hne:d.eqs ≠ [])
  (hsp:∀ H ns0 vm q,q ∈ d.eqs→q.a=true→JW M uo bo LV d vm base H ns0 (sp vm) q) (hgv:∀ H ns0 vm fm q,q ∈ d.eqs→Fc M uo bo LV d vm base H ns0 fm (gv vm fm) q)
  {H:Heap} {u:UN} (U:UI uo H u) (hbo:ae H bo=some (.cells [.ptr uo 0,LV])) (hbn:bo ∉ u.ns) {xs:List AtF} {fs:List (Int × Int)} {A F:AV} (hA:AL xs A (aa H)) (hF:FL fs F) {l:List Nat} {p' : PS} (hp:sE sp gv d xs fs u.p=some (l,p')) (hw:p'.w + 20 < 1000000) :
  ∃ H' u' esc V,orc CC M 36 [.ptr bo 0,d.v,A,F,base] H=some (.ret V H' esc)∧Iv (aa H) u'.ns H' V l∧UI uo H' u'∧Gr uo H u.ns H' u'.ns∧u'.p=p'∧Same u u'∧uo≤esc∧esc < aa H:=by
 unfold sE at hp
 split at hp
 ·cases hp
 rename_i vm p1 hp1
 split at hp
 ·cases hp
 rename_i fm p2 hp2
 split at hp
 ·cases hp
 rename_i p3 hp3
 split at hp
 ·cases hp
 rename_i fm' p4 hp4
 split at hp
 ·cases hp
 rename_i p5 hp5
 split at hp
 ·cases hp
 rename_i l0 hp6;simp only[SJ,PJ] at hp;obtain ⟨rfl,rfl⟩:=hp;have w5:=nX (hgw vm fm') _ _ _ hp5;have w4:=iV (hsw vm) _ _ _ _ _ hp4;have w3:=sizeP_w _ _ _ hp3;have w2:=qM _ _ _ _ _ _ _ hp2;have hlu:=U.uo;have hlb:=dG hbo;have hins:d.ins.length≤90000:=by unfold dw at hl;simp only[List.length_append] at hl;omega
 have houts:d.outs.length≤90000:=by unfold dw at hl;simp only[List.length_append] at hl;omega
 let K:Heap:=[.cells [.ptr bo 0],eT d,.map [],.map [],.cells (zq d (.map (aa H + 2)) (.map (aa H + 3)) base)]
 have nn:∀ j,aa H + j ∉ u.ns:=fun j hm=>by have:=(U.lt _ hm).2;omega
 have n0:aa H ∉ u.ns:=nn 0
 have N0:Nd uo bo LV d [] [] base H u.ns (H ++ [.cells [.ptr bo 0],eT d,.map [],.map [],.cells (zq d (.map (aa H + 2)) (.map (aa H + 3)) base)]) u :=
  ⟨⟨U.ap,aw hbo _,by rw[bj];rfl,by rw[bj];rfl,by rw[bj];rfl,hbn,nn 4,nn 2,nn 3⟩,by rw[aD];rfl,by rw[bj];rfl,n0,nn 1,Gr.ap,hlu,hlb⟩
 have hAll:=uY m d (by omega) (H ++ [.cells [.ptr bo 0],eT d,.map [],.map [],.cells (zq d (.map (aa H + 2)) (.map (aa H + 3)) base)])
 have hl5:aa (H ++ [AObj.cells [.ptr bo 0],eT d,.map [],.map [],.cells (zq d (.map (aa H + 2)) (.map (aa H + 3)) base)])=aa H + 5:=by rw[aI];rfl
 rw[hl5] at hAll;have e0:(envOf [.ptr bo 0,d.v,A,F,base] 0 env0).a.a.a=.ptr bo 0:=rfl;have e1:(envOf [.ptr bo 0,d.v,A,F,base] 0 env0).a.a.b=d.v:=rfl;have e2:(envOf [.ptr bo 0,d.v,A,F,base] 0 env0).a.a.c=A:=rfl;have e3:(envOf [.ptr bo 0,d.v,A,F,base] 0 env0).a.a.d=F:=rfl;have e4:(envOf [.ptr bo 0,d.v,A,F,base] 0 env0).a.a.e=base:=rfl
 obtain ⟨r0,hr0,hq0,hpre⟩ : ∃ r,RN H base A F r∧(r.a.e.a=allZ (dw d)∧r.a.e.b=.int .i64 ((dw d).length:Int)∧r.a.e.c=.int .i64 ((0:Nat):Int)) ∧
   ac (yO (orc CC M)) (ac (wB (orc CC M)) (wR (orc CC M))) (envOf [.ptr bo 0,d.v,A,F,base] 0 env0) [] ⟨H,aa H⟩=some (.normal,r,[],⟨H ++ [.cells [.ptr bo 0],eT d,.map [],.map [],.cells (zq d (.map (aa H + 2)) (.map (aa H + 3)) base)],aa H⟩):=by
  generalize envOf [.ptr bo 0,d.v,A,F,base] 0 env0=R at e0 e1 e2 e3 e4;have hlb' : bo < H.length:=by rw[← ai];exact hlb
  have hbp:=Qw bo H.length hlb';have hbn':=pi d;have hbs:=VA d (aa H + 2) (aa H + 3) hb;have hbx:=VS d (L:=(H ++ [AObj.cells [.ptr bo 0],eT d,.map [],.map []]).length) hb (a:=aa H + 2) (b:=aa H + 3) (by rw[List.length_append,ai];simp) (by rw[List.length_append,ai];simp)
  have hln:=mq (dw d);have hmm:min (aa H) (aa H + 5)=aa H:=Nat.min_eq_left (by omega)
  simp only[yO,wB,wR,SIM,ST0,ST1,e0,e1,e2,e3,e4,hbp,hbn',P6,hbs,hbx,hAll,hmm,hln,DZS,Nat.reduceAdd,Nat.reduceLeDiff];exact ⟨_,⟨rfl,rfl,rfl,by first | rfl | exact e4,by first | rfl | exact e2,by first | rfl | exact e3⟩,⟨rfl,rfl,rfl⟩,rfl⟩
 obtain ⟨r1,Hd1,u1,v1,s1,N1,hq1,S1,he1,hr1⟩:=sJ m hl (L:=dw d) (u0:=u) (A:=A) (F:=F) (vm':=vm) (p':=p1) (by omega) (dw d).length 0 rfl 100000 (by omega) _ u (aa H) [] (by rw[List.drop_zero];exact hp1) N0 Same.refl (by omega) r0 hr0 hq0
 obtain ⟨r2,hr2,hk2,s2⟩ : ∃ r,RN H base A F r∧(r.a.g.e=deZ d.ins∧r.a.g.f=.int .i64 (d.ins.length:Int)∧r.a.g.g=.int .i64 ((0:Nat):Int))∧yw (orc CC M) r1 [] ⟨Hd1,v1⟩=some (.normal,r,[],⟨Hd1,v1⟩):=by
  obtain ⟨b5,b6,b11,b4,b2,b3⟩:=hr1;have hn:=N1.n;have hln:=pP d.ins;simp only[yw,SIM,ST0,ST1,b6,hn,hln,Nat.reduceAdd,Nat.reduceLeDiff];exact ⟨_,⟨by first | rfl | exact b5,by first | rfl | exact b6,by first | rfl | exact b11,by first | rfl | exact b4,by first | rfl | exact b2,by first | rfl | exact b3⟩,⟨rfl,rfl,rfl⟩,rfl⟩
 obtain ⟨r3,Hd3,u3,v3,A3,F3,s3,N3,hq3,S3,he3,hr3⟩:=Hy (M:=M) hb hins (u0:=u) (p':=p2) (fm':=fm) (by omega) d.ins.length 0 rfl 100000 (by omega) Hd1 u1 v1 xs fs A F [] (by rw[List.drop_zero,hq1];exact hp2) N1 (hA.imp id (fun ⟨q,h1,h2⟩=>⟨q,h1,Lin.low_mono (N1.G.len) _ h2⟩)) hF S1 he1 r2 hr2 hk2
 obtain ⟨r4,hr4,hk4,s4⟩ : ∃ r,RN H base A3 F3 r∧(r.b.f.a=oc d.eqs∧r.b.f.b=.int .i64 (d.eqs.length:Int)∧r.b.f.c=.int .i64 ((0:Nat):Int))∧ra (orc CC M) r3 [] ⟨Hd3,v3⟩=some (.normal,r,[],⟨Hd3,v3⟩):=by
  obtain ⟨b5,b6,b11,b4,b2,b3⟩:=hr3;have hn:=N3.n;have hln:=pS d.eqs;simp only[ra,SIM,ST0,ST1,ST2,ST3,b6,hn,hln,Nat.reduceAdd,Nat.reduceLeDiff];exact ⟨_,⟨by first | rfl | exact b5,by first | rfl | exact b6,by first | rfl | exact b11,by first | rfl | exact b4,by first | rfl | exact b2,by first | rfl | exact b3⟩,⟨rfl,rfl,rfl⟩,rfl⟩
 obtain ⟨r5,Hd5,u5,v5,s5,N5,hq5,S5,he5,hr5⟩:=zy m hel (u0:=u) (p':=p3) (A:=A3) (F:=F3) (by omega) d.eqs.length 0 rfl 100000 (by omega) Hd3 u3 v3 (by rw[List.drop_zero,hq3];exact hp3) N3 S3 he3 r4 hr4 hk4
 obtain ⟨r6,hr6,hk6,s6⟩ : ∃ r,RN H base A3 F3 r∧(r.c.a.f=oc d.eqs∧r.c.a.g=.int .i64 (d.eqs.length:Int)∧r.c.a.h=.int .i64 ((0:Nat):Int))∧qY (orc CC M) r5 [] ⟨Hd5,v5⟩=some (.normal,r,[],⟨Hd5,v5⟩):=by
  obtain ⟨b5,b6,b11,b4,b2,b3⟩:=hr5;have hn:=N5.n;have hln:=pS d.eqs;simp only[qY,SIM,ST0,ST1,ST2,ST3,ST4,b6,hn,hln,Nat.reduceAdd,Nat.reduceLeDiff];exact ⟨_,⟨by first | rfl | exact b5,by first | rfl | exact b6,by first | rfl | exact b11,by first | rfl | exact b4,by first | rfl | exact b2,by first | rfl | exact b3⟩,⟨rfl,rfl,rfl⟩,rfl⟩
 obtain ⟨r7,Hd7,u7,v7,s7,N7,hq7,S7,he7,_,hr7⟩:=sw (hsw vm) hel (fun q hq hqa=>hsp H u.ns vm q hq hqa) (u0:=u) (p':=p4) (fm':=fm') (A:=A3) (F:=F3) (by omega) d.eqs.length 0 rfl 100000 (by omega) Hd5 u5 v5 fm (by rw[List.drop_zero,hq5];exact hp4) N5 S5 he5 r6 hr6 hk6
 obtain ⟨r8,hr8,hk8,s8⟩ : ∃ r,RN H base A3 F3 r∧(r.c.c.d=oc d.eqs∧r.c.c.e=.int .i64 (d.eqs.length:Int)∧r.c.c.f=.int .i64 ((0:Nat):Int))∧qL (orc CC M) r7 [] ⟨Hd7,v7⟩=some (.normal,r,[],⟨Hd7,v7⟩):=by
  obtain ⟨b5,b6,b11,b4,b2,b3⟩:=hr7;have hn:=N7.n;have hln:=pS d.eqs;simp only[qL,SIM,ST0,ST1,ST2,ST3,ST4,b6,hn,hln,Nat.reduceAdd,Nat.reduceLeDiff];exact ⟨_,⟨by first | rfl | exact b5,by first | rfl | exact b6,by first | rfl | exact b11,by first | rfl | exact b4,by first | rfl | exact b2,by first | rfl | exact b3⟩,⟨rfl,rfl,rfl⟩,rfl⟩
 obtain ⟨r9,Hd9,u9,v9,s9,N9,hq9,S9,he9,hel9,hr9⟩:=uS (hgw vm fm') hel (fun q hq=>hgv H u.ns vm fm' q hq) (u0:=u) (p':=p5) (A:=A3) (F:=F3) hw d.eqs.length 0 rfl 100000 (by omega) Hd7 u7 v7 (by rw[List.drop_zero,hq7];exact hp5) N7 S7 he7 (fun h=>by omega) r8 hr8 hk8
 have hlt9:v9 < aa H:=hel9 (List.length_pos_iff.2 hne)
 obtain ⟨r10,hr10,hk10,hn10,s10⟩ : ∃ r,RN H base A3 F3 r∧(r.c.d.h=deZ d.outs∧r.c.e.a=.int .i64 (d.outs.length:Int)∧r.c.e.b=.int .i64 ((0:Nat):Int))∧r.a.c.g=.nils∧ac (rk (orc CC M)) (q5 (orc CC M)) r9 [] ⟨Hd9,v9⟩=some (.normal,r,[],⟨Hd9,v9⟩):=by
  obtain ⟨b5,b6,b11,b4,b2,b3⟩:=hr9;have hn:=N9.n;have hln:=pP d.outs;simp only[rk,q5,SIM,ST0,ST1,ST2,ST3,ST4,ST5,b6,hn,hln,Nat.reduceAdd,Nat.reduceLeDiff];exact ⟨_,⟨by first | rfl | exact b5,by first | rfl | exact b6,by first | rfl | exact b11,by first | rfl | exact b4,by first | rfl | exact b2,by first | rfl | exact b3⟩,⟨rfl,rfl,rfl⟩,rfl,rfl⟩
 obtain ⟨r11,Hd11,s11,N11,hO⟩:=y2 (M:=M) houts (uc:=u9) (e:=v9) (A:=A3) (F:=F3) d.outs.length 0 rfl 100000 (by omega) Hd9 [] l0 (by simp) (by rw[List.drop_zero];exact hp6) N9 r10 hr10 (by rw[hn10];exact .inl ⟨rfl,rfl⟩) hk10
 rw[List.nil_append] at hO
 obtain ⟨r12,hn12,s12⟩ : ∃ r,r.a.b.c=r11.a.c.g∧ac (qV (orc CC M)) retZ r11 [] ⟨Hd11,v9⟩=some (.ret,r,[],⟨Hd11,v9⟩):=by
  simp only[qV,SIM,ST0];exact ⟨_,rfl,rfl⟩
 refine ⟨Hd11,u9,v9,r11.a.c.g,?_,?_,N11.C.U,N11.G,hq9,S9,he9,hlt9⟩
 ·refine aL (z:=z36) (m _ _ rfl) (by kernel_rfl) rfl ?_
  have hz:z36.sh (orc CC M) (envOf [.ptr bo 0,d.v,A,F,base] 0 env0) [] ⟨H,aa H⟩=some (.ret,r12,[],⟨Hd11,v9⟩):=by
   have b0:∀ (i:Nat) (b:CZ) (r:RG) (s:St),aS i (aY b) r [] s=du i (au b 100000 r [] s):=fun _ _ _ _=>rfl
   rw[SN,bK,hpre,bJ,bK,b0,s1,dJ,bJ,bK,s2,bJ,bK,b0,s3,dJ,bJ,bK,s4,bJ,bK,b0,s5,dJ,bJ,bK,s6,bJ,bK,b0,s7,dJ,bJ,bK,s8,bJ,bK,b0,s9,dJ,bJ,← ff,bK,s10,bJ,bK,b0,s11,dJ,bJ,s12]
  rw[hz]
  have hres:fG r12 Hd11 z36.res=some [r11.a.c.g]:=by
   show fG r12 _ [.t 10]=_;rw[kU,jD,show gt r12 10=r11.a.c.g from hn12]
  rw[ju,hres];show some (lU (CC.keep 36) (aa H) r11.a.c.g ⟨Hd11,v9⟩)=_;rw[eW (by omega)]
 ·exact hO
end
def VZ (ext:Ex→PS→Option (AtF × PS))(k:Nat)(vm:List (List Nat × Nat))(q:EqR)(p:PS):Option PS:=match q with
 | ⟨[(nm,_)],false,e⟩=>cond (Nat.beq e.k 13) none (tB (dD vm ext k) vm nm e p)
 | _=>none
theorem Iw {f:Ex→PS→Option (AtF × PS)}(hf:∀ e p a p',f e p=some (a,p')→p.w≤p'.w){vm:List (List Nat × Nat)}{nm:List Nat}{e:Ex}{p p' : PS}(h:tB f vm nm e p=some p'):p.w≤p'.w:=by
 unfold tB at h
 split at h
 ·cases h
 ·split at h
  ·cases h
  ·rename_i a p1 hp;simp only[SJ] at h;have:=hf _ _ _ _ hp;rw[← h];simp only[PS.w,List.length_append,List.length_cons,List.length_nil] at this ⊢;omega
theorem Uz {ext:Ex→PS→Option (AtF × PS)}(hx:∀ e p a p',ext e p=some (a,p')→p.w≤p'.w){k:Nat}{vm:List (List Nat × Nat)}{q:EqR}{p p' : PS}(h:VZ ext k vm q p=some p'):p.w≤p'.w:=by
 unfold VZ at h
 split at h
 ·rename_i nm pos e;cases h13:Nat.beq e.k 13 with
  | true=>rw[h13] at h;cases h
  | false=>rw[h13] at h;exact Iw (ko hx k) h
 ·cases h
section
variable {M:Memo}{uo bo:Nat}{LV:AV}{d:NdR}{vm:List (List Nat × Nat)}{fm:FmS}{base:AV}{H:Heap}{ns0:List Nat}
theorem Kr (m:ia M){ext:Ex→PS→Option (AtF × PS)}(hx:∀ e p a p',ext e p=some (a,p')→p.w≤p'.w)(hx2:∀ e p a p',ext e p=some (a,p')→p.nm≤p'.nm)(hb:mc base)(hl:(dw d).length≤90000)(hcl:∀ x ∈ dw d,x.c=[])
  (hext:∀ (k:Nat) (e:Ex),(Nat.beq e.k 13 || Nat.beq e.k 14)=true→sizeE e < 90000→lx M uo bo (aa H + 4) (aa H + 2) (aa H + 3) LV d (l5 vm) fm base (dD vm ext (k + 1)) e) (k:Nat) {q:EqR} (hq:sizeE q.e < 90000) :
  Fc M uo bo LV d vm base H ns0 fm (VZ ext k vm) q:=by
 intro Hc uc p' hg N hw;unfold VZ at hg
 split at hg
 ·rename_i nm pos e;cases h13:Nat.beq e.k 13 with
  | true=>rw[h13] at hg;cases hg
  | false =>
    rw[h13] at hg;obtain ⟨H',u',h1,h2,h3,h4,h5⟩:=Jv (pos:=pos) m (ko hx k) hb hl hcl h13 (Fh m hx hx2 hb hext k e hq) hg N.C hw;exact ⟨H',u',uo,h1,h2,h3,h4,h5,Nat.le_refl _,N.uh⟩
 ·cases hg
end
theorem tz {f:Nat}(hf:CC.mutT f 61=false){uo:Nat}{H:Heap}{V:AV}{xs:List Nat}(h:LvI uo H 1 V (xs.map inV))(n:Nat)(hl:xs.length + 1≤2 ^ 24)(hu:uo < aa H) :
  ∃ V' H',(∀ e lin,aq CC f 61 V (.sl 1 [inV n] lin) ⟨H,e⟩=some (V',⟨H',e⟩))∧LvI uo H' 1 V' ((xs ++ [n]).map inV)∧aa H≤aa H'∧(∀ q,q < aa H→q ∉ nmA V→ae H' q=ae H q)∧(∀ q ∈ nmA V',q ∈ nmA V∨aa H≤q):=by
 have hlow:∀ (L:Nat) (l:List Nat),aR L (l.map inV)=true:=fun L l=>by
  induction l with
  | nil=>rfl
  | cons a l ih=>simp only[List.map_cons,aR,ih,Bool.and_true];rfl
 rcases h with ⟨h0,rfl⟩ | ⟨h0,id,g,rfl,hg,hu',hw'⟩
 ·have hx0:xs=[]:=by simpa using h0
  subst hx0;refine ⟨_,_,fun e lin=>iS hf n lin H e,.inr ⟨by simp,aa H,0,rfl,by rw[aD];rfl,hu,hlow _ _⟩,by rw[aI];omega,fun q hq _=>?_,fun q hq=>?_⟩
  ·rw[ai] at hq;rw[az,az,List.getElem?_append_left hq]
  ·simp only[nmA,List.mem_singleton] at hq;exact .inr (by omega)
 ·refine ⟨_,_,fun e lin=>gR hf n lin hg (by simpa using hl),.inr ⟨by simp,id,g + 1,by simp,aO hg _,hu',hlow _ _⟩,by rw[an];exact Nat.le_refl _,fun q hq hn=>?_,fun q hq=>.inl hq⟩
  rw[af (by simp only[nmA,List.mem_singleton] at hn;exact hn)]
theorem inl_same:∀ l:List Nat,sameL (l.map inV) (l.map inV)=true
 | []=>by simp[sameL]
 | a :: l=>by rw[List.map_cons];simp[sameL,AV.same,inl_same l]
theorem Ki {uo:Nat}{H:Heap}{V:AV}{xs:List Nat}(h:LvI uo H 1 V (xs.map inV)):AV.same V V=true:=by
 rcases h with ⟨_,h1⟩ | ⟨_,id,g,h1,_⟩
 ·rw[h1];simp[AV.same]
 ·rw[h1];simp[AV.same,inl_same xs]
abbrev sV (nd:List Nat)(at_:Int)(v:Nat)(I:AV):List AV:=Tm nd at_ v I .nils .nils .nils .nils .nils 0
abbrev Is (j:Nat):AtF:=⟨false,0,j⟩
structure Rt (uo bo:Nat)(LV:AV)(d:NdR)(nd:List Nat)(at_:Int)(H:Heap)(i:Nat)(Hc:Heap)(I A:AV):Prop where
 u:ae Hc uo=some (.cells (sV nd at_ i I))
 b:ae Hc bo=some (.cells [.ptr uo 0,LV])
 n:ae Hc (aa H)=some (eT d)
 hI:LvI uo Hc 1 I ((List.range i).map inV)
 hA:LvI uo Hc 3 A ((List.range i).map fun j=>(Is j).av)
 dj:∀ q ∈ nmA I,q ∉ nmA A
 iI:∀ q ∈ nmA I,aa H < q
 iA:∀ q ∈ nmA A,aa H < q
 fr:∀ q,q < aa H→q ≠ uo→ae Hc q=ae H q
 len:aa H < aa Hc
 uh:uo < aa H
 bh:bo < aa H
 bu:bo ≠ uo
theorem Vc (a b c d e f g h i j:AV):ae [a,b,c,d,e,f,g,h,i,j] 3=some d:=rfl
theorem MB (a b c d e f g h i j:AV):ae [a,b,c,d,e,f,g,h,i,j] 2=some c:=rfl
theorem Wj (a b c d e f g h i j v:AV):cu [a,b,c,d,e,f,g,h,i,j] 3 [v]=[a,b,c,v,e,f,g,h,i,j]:=rfl
def XO (uo bo:Nat)(LV:AV)(d:NdR)(nd:List Nat)(at_:Int)(H:Heap)(n:Nat)(X:IRes):Prop :=
 ∃ r' Hd e' I A,X=some (.exit 0,r',[],⟨Hd,e'⟩)∧Rt uo bo LV d nd at_ H n Hd I A∧uo≤e'∧e'≤aa H∧(r'.a.a.a=.ptr bo 0∧r'.a.a.d=.ptr (aa H) 0∧r'.a.a.e=A∧r'.a.a.f=.nils)
section
variable {M:Memo}{uo bo:Nat}{LV:AV}{d:NdR}{nd:List Nat}{at_:Int}{H:Heap}
theorem z0 (m:ia M){L:List DeR}(hL:L.length≤90000)(hf:∀ x ∈ L,x.f=false) :
  ∀ (k i:Nat),k + i=L.length→∀ (fu:Nat),k < fu→∀ (Hc:Heap) (e:Nat) (I A:AV),Rt uo bo LV d nd at_ H i Hc I A→uo≤e→e≤aa H→∀ (r:RG),(r.a.a.a=.ptr bo 0∧r.a.a.d=.ptr (aa H) 0∧r.a.a.e=A∧r.a.a.f=.nils) →
  (r.a.b.b=deZ L∧r.a.b.c=.int .i64 (L.length:Int)∧r.a.b.d=.int .i64 (i:Int)) →
  XO uo bo LV d nd at_ H L.length (au (mN (orc CC M)) fu r [] ⟨Hc,e⟩):=by
 intro k
 induction k with
 | zero =>
   intro i hi fu hfu Hc e I A R he he' r hr ⟨h32,h33,h34⟩;obtain ⟨fu',rfl⟩ : ∃ f,fu=f + 1:=⟨fu - 1,by omega⟩
   have:i=L.length:=by omega
   subst this;have hc:decide ((L.length:Int) < (L.length:Int))=false:=by simp
   simp only[au,mN,Fy,SIM,ST0,ST1,h33,h34,hc];exact ⟨_,Hc,e,I,A,rfl,R,he,he',by first | exact hr⟩
 | succ k ih =>
   intro i hi fu hfu Hc e I A R he he' r hr ⟨h32,h33,h34⟩;obtain ⟨hr0,hr3,hr4,hr5⟩:=hr;obtain ⟨fu',rfl⟩ : ∃ f,fu=f + 1:=⟨fu - 1,by omega⟩
   have hlt:i < L.length:=by omega
   have hc:decide ((i:Int) < (L.length:Int))=true:=by simp;omega
   have hg:L[i]?=some L[i]:=by simp[hlt]
   have haf:=hf L[i] (List.getElem_mem hlt);generalize L[i]=a at hg haf;have hat:=vX hg;have ha:cA (i:Int) 1=((i + 1:Nat):Int):=bp i 1 (by unfold natMax;omega)
   have hs1:eO ((i + 1:Nat):Int) 1=(i:Int):=by
    show eO (.ofNat (i + 1)) (.ofNat 1)=_;have h1:Nat.ble 1 (i + 1)=true:=by rw[dk];simp
    have h2:Nat.ble (i + 1) natMax=true:=by rw[dk,decide_eq_true_eq];unfold natMax;omega
    simp only[eO,h1,h2,Bool.and_self,cond_true];rfl
   have hcn:∀ x y:IRes,gW (.bool a.f) x y=y:=fun x y=>by rw[haf];rfl
   have uh:=R.uh;have bh:=R.bh;have bu:=R.bu;have hlen:=R.len;have hlz:aa (Hc ++ [AObj.cells a.l])=aa Hc + 1:=by rw[aI];rfl
   have u0:=aw R.u [.cells a.l];have b0:=aw R.b [.cells a.l];have n0:=aw R.n [.cells a.l];have hdo:ae (Hc ++ [AObj.cells a.l]) (aa Hc)=some (.cells a.l):=by rw[aD];rfl
   have f0:∀ q,q < aa Hc→ae (Hc ++ [.cells a.l]) q=ae Hc q:=fun q hq=>by rw[ai] at hq;rw[az,az,List.getElem?_append_left hq]
   have I0:=R.hI.mono (H':=Hc ++ [.cells a.l]) (by omega) (fun q _ hq=>f0 q hq)
   have A0:=R.hA.mono (H':=Hc ++ [.cells a.l]) (by omega) (fun q _ hq=>f0 q hq)
   have hP:=sf m (H:=Hc ++ [.cells a.l]) (by omega) b0 u0
   rw[hlz] at hP;generalize hH1:aj (Hc ++ [.cells a.l]) uo (.cells (sV nd at_ (i + 1) I))=H1 at hP;have l1:aa H1=aa Hc + 1:=by rw[← hH1,an,hlz]
   have f1:∀ q,q ≠ uo→ae H1 q=ae (Hc ++ [.cells a.l]) q:=fun q hq=>by rw[← hH1,af hq]
   have u1:ae H1 uo=some (.cells (sV nd at_ (i + 1) I)):=by rw[← hH1];exact aO u0 _
   have b1:ae H1 bo=some (.cells [.ptr uo 0,LV]):=by rw[f1 bo bu,b0]
   have I1:=I0.mono (H':=H1) (by omega) (fun q hq _=>f1 q (by have:=(I0.lt q hq).1;omega))
   have A1:=A0.mono (H':=H1) (by omega) (fun q hq _=>f1 q (by have:=(A0.lt q hq).1;omega))
   have hmt:CC.mutT 23 61=false:=by kernel_rfl
   obtain ⟨I',H2,ap2,I2,l2,f2,n2⟩:=tz hmt I1 i (by rw[List.length_range];omega) (by omega)
   have hrg:List.range i ++ [i]=List.range (i + 1):=(List.range_succ).symm;rw[hrg] at I2;have u2:ae H2 uo=some (.cells (sV nd at_ (i + 1) I)):=by rw[f2 uo (by omega) (fun hm=>by have:=(I1.lt _ hm).1;omega),u1]
   have nlin:∀ q o,ae H1 q=some (.cells o)→q ∉ nmA I:=fun q o hq hm=>by
    rcases I1 with ⟨_,rfl⟩ | ⟨_,id,g,rfl,hg,_⟩
    ·cases hm
    ·simp only[nmA,List.mem_singleton] at hm;subst hm;rw[hg] at hq;simp at hq
   have b2:ae H2 bo=some (.cells [.ptr uo 0,LV]):=by rw[f2 bo (by omega) (nlin _ _ b1),b1]
   have A2:=A1.mono (H':=H2) l2 (fun q hq hlt=>f2 q hlt (fun hm=>R.dj q hm hq))
   have st:=fun b hb=>uX (b:=b) (off:=3) I2 (by simp) u2 (by rw[ai];simp) hb
   have st':=st e he;rw[Wj] at st';have hsI:=Ki R.hI;generalize hH3:aj H2 uo (.cells (sV nd at_ (i + 1) I'))=H3 at st';have l3:aa H3=aa H2:=by rw[← hH3,an]
   have f3:∀ q,q ≠ uo→ae H3 q=ae H2 q:=fun q hq=>by rw[← hH3,af hq]
   have u3:ae H3 uo=some (.cells (sV nd at_ (i + 1) I')):=by rw[← hH3];exact aO u2 _
   have b3:ae H3 bo=some (.cells [.ptr uo 0,LV]):=by rw[f3 bo bu,b2]
   have I3:=I2.mono (H':=H3) (by omega) (fun q hq _=>f3 q (by have:=(I2.lt q hq).1;omega))
   have A3:=A2.mono (H':=H3) (by omega) (fun q hq _=>f3 q (by have:=(A2.lt q hq).1;omega))
   obtain ⟨A',H4,ap4,A4,l4,f4,n4⟩:=E8 sl139 23 (x:=(Is i).av) A3 rfl (by simp[AV.low,aR]) (by rw[List.length_map,List.length_range];omega) (by omega)
   have nlA:∀ q ∈ nmA I',q ∉ nmA A:=fun q hq hm=>by
    rcases n2 q hq with h | h
    ·exact R.dj q h hm
    ·have:=(R.hA.lt q hm).2;omega
   have nlin3:∀ q o,ae H3 q=some (.cells o)→q ∉ nmA A:=fun q o hq hm=>by
    rcases A3 with ⟨_,rfl⟩ | ⟨_,id,g,rfl,hg,_⟩
    ·cases hm
    ·simp only[nmA,List.mem_singleton] at hm;subst hm;rw[hg] at hq;simp at hq
   have R4:Rt uo bo LV d nd at_ H (i + 1) H4 I' A':=by
    have n1:ae H1 (aa H)=some (eT d):=by rw[f1 _ (by omega),n0]
    have n2' : ae H2 (aa H)=some (eT d):=by rw[f2 _ (by omega) (nlin _ _ n1),n1]
    have n3:ae H3 (aa H)=some (eT d):=by rw[f3 _ (by omega),n2']
    refine ⟨by rw[f4 uo (by omega) (nlin3 _ _ u3),u3],by rw[f4 bo (by omega) (nlin3 _ _ b3),b3],by rw[f4 _ (by omega) (nlin3 _ _ n3),n3],I3.mono l4 (fun q hq hlt=>f4 q hlt (nlA q hq)),?_,?_,?_,?_,?_,by omega,uh,bh,bu⟩
    ·have:(List.range (i + 1)).map (fun j=>(Is j).av)=(List.range i).map (fun j=>(Is j).av) ++ [(Is i).av]:=by rw[List.range_succ,List.map_append];rfl
     rw[this];exact A4
    ·intro q hq hm
     rcases n4 q hm with h | h
     ·exact nlA q hq h
     ·have:=(I3.lt q hq).2;omega
    ·intro q hq
     rcases n2 q hq with h | h
     ·exact R.iI q h
     ·omega
    ·intro q hq
     rcases n4 q hq with h | h
     ·exact R.iA q h
     ·omega
    ·intro q hq hu;rw[f4 q (by omega) (fun hm=>by have:=R.iA q hm;omega),f3 q hu,f2 q (by omega) (fun hm=>by have:=R.iI q hm;omega),f1 q hu,f0 q (by omega),R.fr q hq hu]
   have key:=ih (i + 1) (by omega) fu' (by omega) H4 uo I' A' R4 (Nat.le_refl _) (by omega)
   have hb22:=nQ i;have h139:=uf (Is i);have hsu:AV.same (.ptr uo 0) (.ptr uo 0)=true:=by simp[AV.same]
   have hmn:min e (aa Hc + 1)=e:=Nat.min_eq_left (by omega)
   simp only[au,mN,Fy,Pd,MW,Nf,OO,An,SIM,ST0,ST1,h32,h33,h34,hr0,hr3,hr4,hr5,hc,hat,ha,hcn,hdo,b0,u0,Vc,MB,hP,hmn,b1,u1,hsI,hsu,hb22,ap2,b2,st',b3,u3,hs1,Ju,h139,ap4,orVal,Nat.reduceAdd,Nat.reduceLeDiff];exact key _ ⟨by first | rfl | exact hr0,by first | rfl | exact hr3,rfl,by first | rfl | exact hr5⟩ ⟨by first | rfl | exact h32,by first | rfl | exact h33,rfl⟩
end
abbrev Xd (nd:List Nat)(at_:Int)(v:Nat)(I:AV):UN:=⟨nd,at_,v,I,.nils,[],.nils,[],.nils,[],.nils,[],.nils,0⟩
theorem Wr {uo:Nat}{H:Heap}{nd:List Nat}{at_:Int}{v:Nat}{I:AV}(h:ae H uo=some (.cells (sV nd at_ v I)))(hv:v < 1000000):UI uo H (Xd nd at_ v I) :=
 ⟨h,.inl ⟨rfl,rfl⟩,fun _ hq=>(by cases hq),.inl ⟨rfl,rfl⟩,.inl ⟨rfl,rfl⟩,.inl ⟨rfl,rfl⟩,⟨fun _ h=>(by cases h),fun _ h=>(by cases h),fun _ h=>(by cases h)⟩,by simpa using hv⟩
theorem Vm (a b c d e f g h i j v:AV):cu [a,b,c,d,e,f,g,h,i,j] 4 [v]=[a,b,c,d,v,f,g,h,i,j]:=rfl
section
variable {M:Memo}{uo bo:Nat}{LV:AV}{d:NdR}{nd:List Nat}{at_:Int}{H:Heap}
theorem Jm (m:ia M){sp:List (List Nat × Nat)→EqR→FmS→PS→Option (FmS × PS)}{gv:List (List Nat × Nat)→FmS→EqR→PS→Option PS}
  (hsw:∀ vm q fm p fm' p',sp vm q fm p=some (fm',p')→p.w≤p'.w) (hgw:∀ vm fm q p p',gv vm fm q p=some p'→p.w≤p'.w) (hl:(dw d).length≤90000) (hel:d.eqs.length≤90000) (hne:d.eqs ≠ []) (hf:∀ x ∈ d.ins,x.f=false)
  (hsp:∀ H ns0 vm q,q ∈ d.eqs→q.a=true→JW M uo bo LV d vm .nils H ns0 (sp vm) q) (hgv:∀ H ns0 vm fm q,q ∈ d.eqs→Fc M uo bo LV d vm .nils H ns0 fm (gv vm fm) q)
  (hu:ae H uo=some (.cells (sV nd at_ 0 .nils))) (hbo:ae H bo=some (.cells [.ptr uo 0,LV])) {l:List Nat} {p' : PS} (hp:sE sp gv d ((List.range d.ins.length).map Is) [] ⟨d.ins.length,[],0,[],[],0⟩=some (l,p')) (hl0:l ≠ []) (hw:p'.w + 20 < 1000000) :
  ∃ H' u',orc CC M 23 [.ptr bo 0,d.v] H=some (.ret Abs.undef H' uo)∧UI uo H' u'∧u'.p=p'∧u'.nd=nd∧u'.at_=at_∧aa H≤aa H'∧(∀ q,q < aa H→q ≠ uo→ae H' q=ae H q):=by
 have uh:=dG hu;have bh:=dG hbo;have bu:bo ≠ uo:=fun h=>by rw[h,hu] at hbo;simp at hbo
 have hins:d.ins.length≤90000:=by unfold dw at hl;simp only[List.length_append] at hl;omega
 have hlz:aa (H ++ [eT d])=aa H + 1:=by rw[aI];rfl
 have R0:Rt uo bo LV d nd at_ H 0 (H ++ [eT d]) .nils .nils:=⟨aw hu _,aw hbo _,by rw[aD];rfl,.inl ⟨rfl,rfl⟩,.inl ⟨rfl,rfl⟩,fun _ h=>(by cases h),fun _ h=>(by cases h),fun _ h=>(by cases h),fun q hq _=>by rw[ai] at hq;rw[az,az,List.getElem?_append_left hq],by omega,uh,bh,bu⟩
 have e0:(envOf [.ptr bo 0,d.v] 0 env0).a.a.a=.ptr bo 0:=rfl;have e1:(envOf [.ptr bo 0,d.v] 0 env0).a.a.b=d.v:=rfl
 obtain ⟨r0,hr0,hq0,hpre⟩ : ∃ r,(r.a.a.a=.ptr bo 0∧r.a.a.d=.ptr (aa H) 0∧r.a.a.e=.nils∧r.a.a.f=.nils)∧(r.a.b.b=deZ d.ins∧r.a.b.c=.int .i64 (d.ins.length:Int)∧r.a.b.d=.int .i64 ((0:Nat):Int)) ∧
   z23.sh (orc CC M) (envOf [.ptr bo 0,d.v] 0 env0) [] ⟨H,aa H⟩=dQ (vN (orc CC M)) (du 0 (au (mN (orc CC M)) 100000 r [] ⟨H ++ [eT d],aa H⟩)):=by
  generalize envOf [.ptr bo 0,d.v] 0 env0=R at e0 e1;have hbn:=pi d;have hln:=pP d.ins;have hlL:H.length=aa H:=(ai H).symm;simp only[z23,Oe,NE,OV,ON,SIM,ST0,ST1,e0,e1,hbn,hln,hlL,Nat.reduceAdd,Nat.reduceLeDiff];exact ⟨_,⟨by first | rfl | exact e0,rfl,rfl,rfl⟩,⟨rfl,rfl,rfl⟩,rfl⟩
 obtain ⟨r1,Hd,e',I,A,hlp,R1,he1,he2,hr1⟩:=z0 m hins hf d.ins.length 0 rfl 100000 (by omega) _ _ _ _ R0 (by omega) (Nat.le_refl _) r0 hr0 hq0
 obtain ⟨g0,g3,g4,g5⟩:=hr1;have U1:=Wr R1.u (by omega)
 have hAL:AL ((List.range d.ins.length).map Is) A (aa Hd):=by
  rcases R1.hA with ⟨h1,h2⟩ | ⟨_,id,g,h1,h2,h3,h4⟩
  ·exact .inl ⟨by simpa using h1,h2⟩
  ·refine .inr ⟨_,by rw[List.map_map];exact h1,?_⟩
   have:=dG h2;simp[Lin.low,this]
 obtain ⟨H2,u2,esc,V,hN,hO,U2,G2,hp2,S2,he3,he4⟩:=KW (base:=.nils) m hsw hgw (.inl rfl) hl hel hne hsp hgv U1 R1.b (fun h=>by cases h) hAL (.inl ⟨rfl,rfl⟩) hp hw
 have hn0:(Xd nd at_ d.ins.length I).ns=[]:=rfl
 have hV:LvI uo H2 1 V (l.map inV):=by
  rcases hO with ⟨h0,_⟩ | ⟨_,id,g,h1,h2,h3,h4⟩
  ·exact absurd h0 hl0
  ·have hlow:∀ (L:Nat) (l:List Nat),aR L (l.map inV)=true:=fun L l=>by
    induction l with
    | nil=>rfl
    | cons a l ih=>simp only[List.map_cons,aR,ih,Bool.and_true];rfl
   exact .inr ⟨by simpa using hl0,id,g,h1,h2,by have:=R1.len;omega,hlow _ _⟩
 have hlm:=R1.len;have st:=uX (b:=min e' esc) (off:=4) hV (by simpa using hl0) U2.ob (by rw[ai];simp) (by omega)
 rw[Vm] at st;have U3:=U2.setv (v:=u2.vars) (s:=u2.size) (i:=u2.I) (o:=V) U2.vl;have b2:ae H2 bo=some (.cells [.ptr uo 0,LV]):=by rw[G2.fr bo (dG R1.b) bu (fun h=>by rw[hn0] at h;cases h),R1.b]
 have hm:min (aa H) uo=uo:=Nat.min_eq_right (by omega)
 refine ⟨_,_,aL (z:=z23) (m _ _ rfl) (by kernel_rfl) rfl ?_,U3,hp2,S2.nd,S2.at_,?_,?_⟩
 ·rw[hpre,hlp,dJ,bJ];have hsu:AV.same (.ptr uo 0) (.ptr uo 0)=true:=by simp[AV.same]
  have hgc:=fun hp=>eW (keep:=CC.keep 23) (base:=aa H) (e:=uo) (v:=Abs.undef) (hp:=hp) (by omega)
  have n1:=R1.n;have b1:=R1.b;simp only[vN,z23,SIM,ST0,ST1,g0,g3,g4,g5,b1,n1,P6,hN,b2,hsu,st,hgc,Nat.reduceAdd,Nat.reduceLeDiff]
 ·rw[an];have:=G2.len;omega
 ·intro q hq hu';rw[af hu',G2.fr q (by omega) hu' (fun h=>by rw[hn0] at h;cases h),R1.fr q hq hu']
end
theorem Q6 (a b c:AV)(s:St):dC CC 21 [a,b,c] s=some (.call 21 [a,b,c]):=by kernel_rfl
theorem WO (nm:List Nat)(a:Int):ar CC 67 [(0,.str nm),(1,.int .i64 a)]=some (.agg (sV nm a 0 .nils)):=by kernel_rfl
theorem UH (n:Nat)(l:List AV):ar CC 69 [(0,.ptr n 0),(1,.sl 6 l .dead)]=some (.agg [.ptr n 0,.sl 6 l .dead]):=by kernel_rfl
theorem VV (nm:List Nat)(a:Int)(L:Nat):ep (.agg (sV nm a 0 .nils)) L=some (.cells (sV nm a 0 .nils),(.ptr · 0)):=by
 have h1:AV.low L (.agg (sV nm a 0 .nils))=true:=by simp[AV.low,aR]
 unfold ep;rw[if_pos ⟨rfl,h1⟩];rfl
theorem Uf (n:Nat)(l:List NdR)(L:Nat)(h:n < L):ep (.agg [.ptr n 0,.sl 6 (l.map NdR.v) .dead]) L=some (.cells [.ptr n 0,.sl 6 (l.map NdR.v) .dead],(.ptr · 0)):=by
 have hh:aR L (l.map NdR.v)=true:=dS (nd_noN l) L;have h1:AV.low L (.agg [.ptr n 0,.sl 6 (l.map NdR.v) .dead])=true:=by simp[AV.low,aR,h,hh,Lin.low]
 unfold ep;rw[if_pos ⟨rfl,h1⟩];rfl
theorem V7 {keep:Bool}{b n:Nat}{x y:Int}{hp:Heap}(h:b≤n):lU keep b (.tuple [.ptr n 0,.agg [.int .i64 x,.int .i64 y]]) ⟨hp,b⟩=.ret (.tuple [.ptr n 0,.agg [.int .i64 x,.int .i64 y]]) hp b:=by
 have h1:AV.low b (.tuple [.ptr n 0,.agg [.int .i64 x,.int .i64 y]])=false:=by simp[AV.low,aR];omega
 have h2:AV.settle b hp (.tuple [.ptr n 0,.agg [.int .i64 x,.int .i64 y]])=.tuple [.ptr n 0,.agg [.int .i64 x,.int .i64 y]]:=by simp[AV.settle,bC]
 rw[AK];unfold GA dm;cases keep <;> simp[h1,h2]
abbrev nsp:List (List Nat × Nat)→EqR→FmS→PS→Option (FmS × PS):=fun _ _ _ _=>none
section
variable {M:Memo}
theorem SA (m:ia M){uo bo fo bc no:Nat}{LV:AV}{d:NdR}{H Hf:Heap}(hb:ae H bc=some (.cells [.ptr bo 0]))(hn:ae H no=some (eT d))(hu:uo < aa H)
  (hR:orc CC M 23 [.ptr bo 0,d.v] H=some (.ret Abs.undef Hf uo)):orc CC M 21 [.ptr fo 0,.ptr bc 0,.ptr no 0] H=some (.ret Abs.undef Hf uo):=by
 refine aL (z:=z21) (m _ _ rfl) (by kernel_rfl) rfl ?_
 have e0:(envOf [AV.ptr fo 0,.ptr bc 0,.ptr no 0] 0 env0).a.a.a=.ptr fo 0:=rfl;have e1:(envOf [AV.ptr fo 0,.ptr bc 0,.ptr no 0] 0 env0).a.a.b=.ptr bc 0:=rfl;have e2:(envOf [AV.ptr fo 0,.ptr bc 0,.ptr no 0] 0 env0).a.a.c=.ptr no 0:=rfl;generalize envOf [AV.ptr fo 0,.ptr bc 0,.ptr no 0] 0 env0=R at e0 e1 e2;have hm:min (aa H) uo=uo:=Nat.min_eq_right (by omega)
 have hgc:=fun hp=>eW (keep:=CC.keep 21) (base:=aa H) (e:=uo) (v:=Abs.undef) (hp:=hp) (by omega)
 obtain ⟨r',hpre⟩ : ∃ r',z21.sh (orc CC M) R [] ⟨H,aa H⟩=some (.normal,r',[(22,[.ptr fo 0])],⟨Hf,uo⟩):=by
  simp only[z21,Mr,Ni,SIM,ST0,e0,e1,e2,hb,hn,P6,hR,hm,Nat.reduceAdd,Nat.reduceLeDiff];exact ⟨_,rfl⟩
 rw[hpre];show sA CC 21 (aa H) [] r' [(22,[.ptr fo 0])] ⟨Hf,uo⟩=_;have hct:(CC.catcher 22).isSome=true:=by kernel_rfl
 unfold sA;simp only[List.all_cons,List.all_nil,hct,Bool.and_self,List.length_cons,List.length_nil];rw[show Nat.ble (0 + 1) 1=true from rfl]
 simp only[Bool.and_self,cond_true];exact congrArg some (hgc Hf)
theorem IY (m:ia M){sp:List (List Nat × Nat)→EqR→FmS→PS→Option (FmS × PS)}{gv:List (List Nat × Nat)→FmS→EqR→PS→Option PS}{L:List NdR}(hL:L.length≤90000){nm:List Nat}{d:NdR}(hfd:lM nm L=some d)
  (hsw:∀ vm q fm p fm' p',sp vm q fm p=some (fm',p')→p.w≤p'.w) (hgw:∀ vm fm q p p',gv vm fm q p=some p'→p.w≤p'.w) (hl:(dw d).length≤90000) (hel:d.eqs.length≤90000) (hne:d.eqs ≠ []) (hf:∀ x ∈ d.ins,x.f=false)
  (hsp:∀ uo bo H ns0 vm q,q ∈ d.eqs→q.a=true→JW M uo bo (.sl 6 (L.map NdR.v) .dead) d vm .nils H ns0 (sp vm) q) (hgv:∀ uo bo H ns0 vm fm q,q ∈ d.eqs→Fc M uo bo (.sl 6 (L.map NdR.v) .dead) d vm .nils H ns0 fm (gv vm fm) q)
  {l:List Nat} {p' : PS} (hp:sE sp gv d ((List.range d.ins.length).map Is) [] ⟨d.ins.length,[],0,[],[],0⟩=some (l,p')) (hl0:l ≠ []) (hw:p'.w + 20 < 1000000) (H:Heap) :
  ∃ H' u',orc CC M 9 [.sl 6 (L.map NdR.v) .dead,.str nm] H=some (.ret (.tuple [.ptr (aa H + 2) 0,.agg [.int .i64 0,.int .i64 0]]) H' (aa H))∧UI (aa H + 2) H' u'∧u'.p=p'∧u'.nd=nm∧u'.at_=d.p∧aa H + 2 < aa H'∧(∀ q,q < aa H→ae H' q=ae H q):=by
 let K:Heap:=[cz0,eT d,.cells (sV nm d.p 0 .nils),.cells [.ptr (aa H + 2) 0,.sl 6 (L.map NdR.v) .dead],.cells [.ptr (aa H + 3) 0],cz0]
 have hKl:aa (H ++ K)=aa H + 6:=by rw[aI];rfl
 obtain ⟨H',u',hR,U,h1,h2,h3,h4,h5⟩:=Jm (uo:=aa H + 2) (bo:=aa H + 3) (LV:=.sl 6 (L.map NdR.v) .dead) (nd:=nm) (at_:=d.p) (H:=H ++ K) m hsw hgw hl hel hne hf (hsp _ _) (hgv _ _) (by rw[bj];rfl) (by rw[bj];rfl) hp hl0 hw
 have h56:=SA (fo:=aa H + 5) (bc:=aa H + 4) (no:=aa H + 1) (H:=H ++ K) (LV:=.nils) m (by rw[bj];rfl) (by rw[bj];rfl) (by rw[hKl];omega) hR
 have hlo:∀ q,q < aa H→ae H' q=ae H q:=fun q hq=>by
  rw[h5 q (by omega) (by omega)]
  rw[ai] at hq;rw[az,az,List.getElem?_append_left hq]
 have g4:ae H' (aa H + 4)=some (.cells [.ptr (aa H + 3) 0]):=by rw[h5 _ (by omega) (by omega),bj];rfl
 have g3:ae H' (aa H + 3)=some (.cells [.ptr (aa H + 2) 0,.sl 6 (L.map NdR.v) .dead]):=by rw[h5 _ (by omega) (by omega),bj];rfl
 have g5:ae H' (aa H + 5)=some cz0:=by rw[h5 _ (by omega) (by omega),bj];rfl
 have g0:ae H' (aa H)=some cz0:=by rw[h5 _ (by omega) (by omega),aD];rfl
 refine ⟨aj H' (aa H) cz0,u',aL (z:=z9) (m _ _ rfl) (by kernel_rfl) rfl ?_,U.to (by rw[an];exact Nat.le_refl _) (fun q hq hm=>af ?_ _),h1,h2,h3,by rw[an];omega,fun q hq=>by rw[af (by omega),hlo q hq]⟩
 ·have e0:(envOf [.sl 6 (L.map NdR.v) .dead,.str nm] 0 env0).a.a.a=.sl 6 (L.map NdR.v) .dead:=rfl;have e1:(envOf [.sl 6 (L.map NdR.v) .dead,.str nm] 0 env0).a.a.b=.str nm:=rfl;generalize envOf [.sl 6 (L.map NdR.v) .dead,.str nm] 0 env0=R at e0 e1;have hF:=Ja m hL hfd (q:=.dead) (H ++ [cz0]);have hl1:aa (H ++ [cz0])=aa H + 1:=by rw[aI];rfl
  rw[hl1] at hF;have hn1:=pR d;have ho1:=xQ d;have hb1:=fun L=>VV nm d.p L
  have hb2:=Uf (aa H + 2) L (H ++ [cz0,eT d,.cells (sV nm d.p 0 .nils)]).length (by rw[← ai,aI];simp only[a9,b9];omega)
  have hm0:min (aa H) (aa H + 1)=aa H:=Nat.min_eq_left (by omega)
  have hm1:min (aa H) (aa H + 2)=aa H:=Nat.min_eq_left (by omega)
  have hgc:=fun hp=>V7 (keep:=CC.keep 9) (b:=aa H) (n:=aa H + 2) (x:=0) (y:=0) (hp:=hp) (by omega)
  have hnz:decide ((0:Int)=0)=true:=rfl;have hst:∀ b,dP 1 0 (aa H + 4) (.ptr (aa H + 3) 0) [.ptr (aa H + 3) 0] [.nilp] ⟨H ++ [cz0,eT d,.cells (sV nm d.p 0 .nils),.cells [.ptr (aa H + 2) 0,.sl 6 (L.map NdR.v) .dead],.cells [.nilp]],b⟩=some ⟨aj (H ++ [cz0,eT d,.cells (sV nm d.p 0 .nils),.cells [.ptr (aa H + 2) 0,.sl 6 (L.map NdR.v) .dead],.cells [.nilp]]) (aa H + 4) (.cells [.ptr (aa H + 3) 0]),b⟩:=fun b=>tf (a:=aa H + 3) (r:=aa H + 4) (b:=b) (cs:=[.nilp]) (by rw[aI];simp only[a9,b9];omega) (by omega) (by decide)
  have hz0:=aO g0 cz0;have h56' : orc CC M 21 [AV.ptr (aa H + 5) 0,AV.ptr (aa H + 4) 0,AV.ptr (aa H + 1) 0] (H ++ [cz0,eT d,.cells (sV nm d.p 0 .nils),.cells [.ptr (aa H + 2) 0,.sl 6 (L.map NdR.v) .dead],.cells [.ptr (aa H + 3) 0],cz0])=some (CRes.ret Abs.undef H' (aa H + 2)):=h56;simp only[z9,V9,TQ,Un,Ue,TS,UO,U6,VT,SIM,ST0,ST1,ST2,ST3,e0,e1,hF,hm0,hl1,hn1,ho1,DZS,EXS,WO,hb1,UH,hb2,hst,Q6,h56',hm1,g0,hz0,g3,g4,g5,hgc,bi,bg,List.append_assoc,List.cons_append,List.nil_append,Nat.reduceAdd,Nat.reduceLeDiff]
 ·rcases hm with rfl | hm
  ·omega
  ·have:=(U.lt q hm).1;omega
end
end Go.Proofs
