/- flat.Flatten with its fault. Part of the proof of girandolelaw08.FlatDoubles. -/
import Derived.Test.YtglacbfdbfhmfaaDoorFl4
set_option linter.unusedVariables false
set_option linter.unusedSimpArgs false
set_option maxRecDepth 1000000
namespace Go.Proofs
open Go Go.Abs
abbrev jF (a:Int):AV:=.iface 27 (.agg [.int .i64 a,.int .i64 14])
theorem ON (base:Nat)(H:Heap)(e:Nat)(a:Int):∃ H' e',PC false base (jF a) ⟨H,e⟩=.panic (jF a) H' e'∧(∀ q,q < base→af H' q=af H q)∧(base≤aa H→base≤aa H')∧(∀ x,x≤base→x≤e→x≤e'):=by
 have hs:AV.settle base H (jF a)=jF a:=by simp[AV.settle]
 have hl:AV.low base (jF a)=true:=by simp[AV.low,aM]
 by_cases h:e=base
 ·refine ⟨H.take base,base,?_,fun q hq=>?_,fun hb=>?_,fun x h1 _=>h1⟩
  ·simp only[PC,cR,h,if_true,Bool.false_eq_true,if_false,hs,hl]
  ·rw[aD,aD,List.getElem?_take];simp[hq]
  ·rw[aj] at hb ⊢;rw[List.length_take];omega
 ·refine ⟨H,e,?_,fun _ _=>rfl,id,fun x _ h2=>h2⟩
  simp only[PC,cR,if_neg h]
def uR (uo:Nat)(H:Heap)(ns:List Nat)(a:Int)(X:Option CRes):Prop:=∃ H' e',X=some (.panic (jF a) H' e')∧(uo≤e'∧aa H≤aa H')∧∀ q,q < aa H→q ≠ uo→q ∉ ns→af H' q=af H q
def By (uo:Nat)(H:Heap)(ns:List Nat)(a:Int)(X:IRes):Prop:=∃ r' Hx ex,X=some (.panic (jF a),r',[],⟨Hx,ex⟩)∧(uo≤ex∧aa H≤aa Hx)∧∀ q,q < aa H→q ≠ uo→q ∉ ns→af Hx q=af H q
theorem fO {uo:Nat}{H Hx:Heap}{ns:List Nat}{a:Int}{ex:Nat}(hu:uo < aa H)(hl:uo≤ex∧aa H≤aa Hx)(hf:∀ q,q < aa H→q ≠ uo→q ∉ ns→af Hx q=af H q):uR uo H ns a (some (PC false (aa H) (jF a) ⟨Hx,ex⟩)):=by
 obtain ⟨H',e',h1,h2,h3,h4⟩:=ON (aa H) Hx ex a;exact ⟨H',e',by rw[h1],⟨h4 uo (by omega) hl.1,h3 hl.2⟩,fun q hq hu hn=>by rw[h2 q hq,hf q hq hu hn]⟩
def sG (p:PS):Bool:=Nat.blt (p.w + 20) 1000000
theorem jZ {p:PS}(h:sG p=true):p.w + 20 < 1000000:=by unfold sG at h;simpa using h
def fB (f:Ex→PS→Option (AtF × PS))(fn:Ex→PS→Bool):List Ex→PS→Bool
 | [],_=>false
 | a :: l,p=>cond (fn a p) true (match f a p with
   | some (_,p1)=>sG p1 && fB f fn l p1
   | none=>false)
def fK (f:Ex→PS→Option (AtF × PS))(fn:Ex→PS→Bool)(fm:FmS):List DeR→List Ex→PS→Bool
 | [],_,_=>false
 | _ :: _,[],_=>false
 | x :: l,k :: ks,p=>cond x.f (match qm k.s fm with
   | none=>false
   | some _=>fK f fn fm l ks p) (cond (fn k p) true (match f k p with
   | some (_,p1)=>sG p1 && fK f fn fm l ks p1
   | none=>false))
section
variable (M:Memo)(uo bo so vo fo:Nat)(LV:AV)(d:NdR)(vm fm:FmS)(base:AV)
def pm (fn:Ex→PS→Bool)(e:Ex):Prop:=∀ (H:Heap) (u:UN),fn e u.p=true→Cx uo bo so vo fo LV d vm fm base H u→uR uo H u.ns u.at_ (orc CC M 74 [.ptr bo 0,.ptr so 0,e.v,.nils] H)
end
section
variable {M:Memo}{uo bo so vo fo:Nat}{LV:AV}{d:NdR}{vm fm:FmS}{base:AV}
theorem HdI.pan {K0 H Hc:Heap}{u uc:UN}{ee:Nat}{A F:AV}{xs:List AtF}{fs:List (Int × Int)}(h:HdI uo bo so vo fo LV d vm fm base K0 H u Hc uc ee A F xs fs){X:Option CRes}(hp:uR uo Hc uc.ns uc.at_ X) :
  ∃ H' e',X=some (.panic (jF u.at_) H' e')∧(uo≤e'∧aa H≤aa H')∧∀ q,q < aa H→q ≠ uo→q ∉ u.ns→af H' q=af H q:=by
 obtain ⟨H',e',h1,h2,h3⟩:=hp;have hl:=h.len;refine ⟨H',e',by rw[h1,h.S.at_],⟨h2.1,by omega⟩,fun q hq hu hn=>?_⟩
 rw[h3 q (by omega) hu (fun hm=>(h.G.ns q hm).elim hn (fun hg=>by rw[az] at hg;omega)),h.G.fr q (by rw[az];omega) hu hn,eh hq]
theorem HdI.esc {K0 H Hc:Heap}{u uc:UN}{ee e' : Nat}{A F:AV}{xs:List AtF}{fs:List (Int × Int)}(h:HdI uo bo so vo fo LV d vm fm base K0 H u Hc uc ee A F xs fs)(he:uo≤e'):uo≤min ee e':=by
 have:=h.lt
 rcases h.E with ⟨h1,_⟩ | h1 <;> omega
theorem sJ {f:Ex→PS→Option (AtF × PS)}{fn:Ex→PS→Bool}{kids:List Ex}(hk:kids.length≤90000)(ihk:∀ e ∈ kids,fD M uo bo so vo fo LV d vm fm base f e)(ihn:∀ e ∈ kids,pm M uo bo so vo fo LV d vm fm base fn e){V:AV}(hV:∀ (i:Nat) (a:Ex),kids[i]?=some a→bw 6 V (.int .i64 (i:Int))=some (.iptr a.v.cells))
  {H:Heap} {u:UN} :
  ∀ (n i:Nat),n + i=kids.length→∀ (fu:Nat),n < fu→∀ (Hc:Heap) (uc:UN) (ee:Nat) (A:AV) (xs:List AtF),xs.length≤i→fB f fn (kids.drop i) uc.p=true→HdI uo bo so vo fo LV d vm fm base [] H u Hc uc ee A .nils xs []→∀ (r:RG),
  (r.a.a.a=.ptr bo 0∧r.a.a.b=.ptr so 0∧r.a.a.c=.nils∧r.a.b.b=A∧r.a.b.e=V∧r.a.b.f=.int .i64 (kids.length:Int)∧r.a.b.g=.int .i64 (i:Int)) →
  By uo H u.ns u.at_ (aw (jO (orc CC M)) fu r [] ⟨Hc,ee⟩):=by
 intro n
 induction n with
 | zero =>
   intro i hi fu hfu Hc uc ee A xs hx hat I r hr;have:i=kids.length:=by omega
   subst this;rw[List.drop_length] at hat;cases hat
 | succ n ih =>
   intro i hi fu hfu Hc uc ee A xs hx hat I r ⟨h0,h1,h2,h9,h12,h13,h14⟩;obtain ⟨fu',rfl⟩ : ∃ f,fu=f + 1:=⟨fu - 1,by omega⟩
   have hlt:i < kids.length:=by omega
   have hc:decide ((i:Int) < (kids.length:Int))=true:=by simp;omega
   have hd:kids.drop i=kids[i] :: kids.drop (i + 1):=List.drop_eq_getElem_cons hlt;have hg:kids[i]?=some kids[i]:=by simp[hlt]
   have hm:=ihk _ (List.getElem_mem hlt);have hmn:=ihn _ (List.getElem_mem hlt);generalize kids[i]=a at hd hg hm hmn;have hias:=hV i a hg;have ha:cQ (i:Int) 1=((i + 1:Nat):Int):=bA i 1 (by unfold natMax;omega)
   rw[hd] at hat;simp only[fB] at hat;have I1:=I.ap [bH a];cases hfn:fn a uc.p with
   | true =>
     obtain ⟨H',e',hP,hl,hfr⟩:=I1.pan (hmn _ uc hfn I1.C);simp only[aw,jO,pX,uT,tV,tM,SIM,ST0,ST1,h0,h1,h2,h9,h12,h13,h14,hc,hias,hP,EXS,Nat.reduceAdd,Nat.reduceLeDiff];exact ⟨_,H',_,rfl,⟨I.esc hl.1,hl.2⟩,hfr⟩
   | false =>
     rw[hfn] at hat;simp only[cond_false] at hat
     split at hat
     ·rename_i x p1 hx1;rw[Bool.and_eq_true] at hat;obtain ⟨H1,u1,e1,hP,U1,G1,hp1,S1,hD⟩:=hm _ uc x p1 hx1 I1.C (jZ hat.1);obtain ⟨A',H',hap,I3⟩:=(I1.ex U1 G1 S1 hD).appA 64 x (by omega)
      have key:=ih (i + 1) (by omega) fu' (by omega) H' u1 (min ee e1) A' (xs ++ [x]) (by simp;omega) (by rw[hp1];exact hat.2) I3
      have h139:=j5 x;simp only[aw,jO,pX,uT,tV,tM,SIM,ST0,ST1,h0,h1,h2,h9,h12,h13,h14,hc,hias,hP,h139,hap,ha,orVal,EXS,Nat.reduceAdd,Nat.reduceLeDiff];exact key _ ⟨by first | rfl | exact h0,by first | rfl | exact h1,by first | rfl | exact h2,rfl,by first | rfl | exact h12,by first | rfl | exact h13,rfl⟩
     ·cases hat
theorem hd0 {H:Heap}{u:UN}(C:Cx uo bo so vo fo LV d vm fm base H u)(K0:Heap):HdI uo bo so vo fo LV d vm fm base K0 H u (H ++ K0) u (aa H) .nils .nils [] [] :=
 ⟨C.ap _,Gr.refl,Same.refl,.inl ⟨rfl,rfl⟩,.inl ⟨rfl,rfl⟩,.inl ⟨rfl,rfl⟩,fun _ h=>(by cases h),fun _ h=>(by cases h),fun _ h=>(by cases h),fun _ q hq=>eh hq,⟨C.U.uo,bL C.b,bL C.s,bL C.v,bL C.f⟩,fun q hq=>(C.U.lt q hq).2⟩
theorem pG (m:eu M){f:Ex→PS→Option (AtF × PS)}{fn:Ex→PS→Bool}{kids:List Ex}(hk:kids.length≤90000)(ihk:∀ e ∈ kids,fD M uo bo so vo fo LV d vm fm base f e)(ihn:∀ e ∈ kids,pm M uo bo so vo fo LV d vm fm base fn e){V:AV}(hV:∀ (i:Nat) (a:Ex),kids[i]?=some a→bw 6 V (.int .i64 (i:Int))=some (.iptr a.v.cells))(hln:bF CC 81 V=some (.int .i64 (kids.length:Int)))
  {H:Heap} {u:UN} (C0:Cx uo bo so vo fo LV d vm fm base H u) (hat:fB f fn kids u.p=true):uR uo H u.ns u.at_ (orc CC M 64 [.ptr bo 0,.ptr so 0,.nils,V] H):=by
 have I0:=hd0 C0 [];rw[List.append_nil] at I0;have lp:=sJ hk ihk ihn hV (H:=H) (u:=u) kids.length 0 rfl 100000 (by omega) H u (aa H) .nils [] (by simp) (by rw[List.drop_zero];exact hat) I0
 have e0:(envOf [.ptr bo 0,.ptr so 0,.nils,V] 0 env0).a.a.a=.ptr bo 0:=rfl;have e1:(envOf [.ptr bo 0,.ptr so 0,.nils,V] 0 env0).a.a.b=.ptr so 0:=rfl;have e2:(envOf [.ptr bo 0,.ptr so 0,.nils,V] 0 env0).a.a.c=.nils:=rfl;have e3:(envOf [.ptr bo 0,.ptr so 0,.nils,V] 0 env0).a.a.d=V:=rfl
 obtain ⟨r0,hr1,hpre⟩ : ∃ r,(r.a.a.a=.ptr bo 0∧r.a.a.b=.ptr so 0∧r.a.a.c=.nils∧r.a.b.b=.nils∧r.a.b.e=V∧r.a.b.f=.int .i64 (kids.length:Int)∧r.a.b.g=.int .i64 ((0:Nat):Int)) ∧
   z64.sh (orc CC M) (envOf [.ptr bo 0,.ptr so 0,.nils,V] 0 env0) [] ⟨H,aa H⟩=dZ (ac (um (orc CC M)) retZ) (dD 0 (aw (jO (orc CC M)) 100000 r [] ⟨H,aa H⟩)):=by
  generalize envOf [.ptr bo 0,.ptr so 0,.nils,V] 0 env0=R at e0 e1 e2 e3;simp only[z64,Bf,Bn,Dq,SIM,ST0,e0,e1,e2,e3,hln,Nat.reduceAdd,Nat.reduceLeDiff];exact ⟨_,⟨by first | rfl | exact e0,by first | rfl | exact e1,by first | rfl | exact e2,rfl,rfl,rfl,rfl⟩,rfl⟩
 obtain ⟨r',Hx,ex,hX,hl,hfr⟩:=lp r0 hr1;obtain ⟨H',e',h1,h2,h3⟩:=fO (a:=u.at_) (ex:=ex) C0.U.uo hl hfr;refine ⟨H',e',aH (z:=z64) (m _ _ rfl) (by kernel_rfl) rfl ?_,h2,h3⟩
 rw[hpre,hX,lS,lZ,n6];exact h1
theorem tq (m:eu M){vmn:List (List Nat × Nat)}(hvm:vm=iu vmn){f:Ex→PS→Option (AtF × PS)}{fn:Ex→PS→Bool}(hb:iy base){e:Ex}(hop:mN e.k=true)(hkl:e.kids.length≤90000)(ihk:∀ a ∈ e.kids,fD M uo bo so vo fo LV d vm fm base f a)(ihn:∀ a ∈ e.kids,pm M uo bo so vo fo LV d vm fm base fn a)
  {H:Heap} {u:UN} (C:Cx uo bo so vo fo LV d vm fm base H u) (hat:fB f fn e.kids u.p=true):uR uo H u.ns u.at_ (orc CC M 74 [.ptr bo 0,.ptr so 0,e.v,.nils] H):=by
 have hk:e.k=4∨e.k=5∨e.k=6∨e.k=7:=by
  unfold mN at hop;simp only[Bool.or_eq_true,Nat.beq_eq] at hop;omega
 have I:=hd0 C [bH e,zA];obtain ⟨H1,e1,hA,hl,hfr⟩:=I.pan (pG m hkl ihk ihn (iz e) (oM e) I.C hat);obtain ⟨H',e',h1,h2,h3⟩:=fO (a:=u.at_) (ex:=min (aa H) e1) C.U.uo ⟨by have:=C.U.uo;have:=hl.1;omega,hl.2⟩ hfr
 refine ⟨H',e',aH (z:=z74) (m _ _ rfl) (by kernel_rfl) rfl ?_,h2,h3⟩
 rw[← h1];have e0:(envOf [.ptr bo 0,.ptr so 0,e.v,.nils] 0 env0).a.a.a=.ptr bo 0:=rfl;have e1' : (envOf [.ptr bo 0,.ptr so 0,e.v,.nils] 0 env0).a.a.b=.ptr so 0:=rfl;have e2:(envOf [.ptr bo 0,.ptr so 0,e.v,.nils] 0 env0).a.a.c=e.v:=rfl;have e3:(envOf [.ptr bo 0,.ptr so 0,e.v,.nils] 0 env0).a.a.d=.nils:=rfl;generalize envOf [.ptr bo 0,.ptr so 0,e.v,.nils] 0 env0=R at e0 e1' e2 e3;have hbx:=fx e;have hgd:=dW m hb (C.ap [bH e,zA]).s;have hlH:aa (H ++ [bH e,zA])=aa H + 2:=by rw[az];rfl
 rw[hlH] at hgd;have hks:=rV e;have hge:af (H ++ [bH e,zA]) (aa H)=some (bH e):=by rw[au];rfl
 have hm1:min (aa H) (aa H + 2)=aa H:=Nat.min_eq_left (by omega)
 rcases hk with h4 | h4 | h4 | h4
 all_goals
  have c1:decide ((e.k:Int)=1)=false:=by rw[h4];rfl
  have c2:decide ((e.k:Int)=2)=false:=by rw[h4];rfl
  have c3:decide ((e.k:Int)=3)=false:=by rw[h4];rfl
 ·have c4:decide ((e.k:Int)=4)=true:=by rw[h4];rfl
  simp only[z74,fF,fI,fH,fG,gm,gL,Cn,SIM,ST0,ST1,e0,e1',e2,e3,hbx,hgd,hge,hks,hA,hm1,c1,c2,c3,c4,Nat.reduceAdd,Nat.reduceLeDiff]
 ·have c4:decide ((e.k:Int)=4)=false:=by rw[h4];rfl
  have c5:decide ((e.k:Int)=5)=true:=by rw[h4];rfl
  simp only[z74,fF,fI,fH,fG,gm,gL,iG,wI,SIM,ST0,ST1,e0,e1',e2,e3,hbx,hgd,hge,hks,hA,hm1,c1,c2,c3,c4,c5,Nat.reduceAdd,Nat.reduceLeDiff]
 ·have c4:decide ((e.k:Int)=4)=false:=by rw[h4];rfl
  have c5:decide ((e.k:Int)=5)=false:=by rw[h4];rfl
  have c6:decide ((e.k:Int)=6)=true:=by rw[h4];rfl
  simp only[z74,fF,fI,fH,fG,gm,gL,iG,ig,xm,SIM,ST0,ST1,e0,e1',e2,e3,hbx,hgd,hge,hks,hA,hm1,c1,c2,c3,c4,c5,c6,Nat.reduceAdd,Nat.reduceLeDiff]
 ·have c4:decide ((e.k:Int)=4)=false:=by rw[h4];rfl
  have c5:decide ((e.k:Int)=5)=false:=by rw[h4];rfl
  have c6:decide ((e.k:Int)=6)=false:=by rw[h4];rfl
  have c7:decide ((e.k:Int)=7)=true:=by rw[h4];rfl
  simp only[z74,fF,fI,fH,fG,gm,gL,iG,ig,jX,xa,SIM,ST0,ST1,ST2,e0,e1',e2,e3,hbx,hgd,hge,hks,hA,hm1,c1,c2,c3,c4,c5,c6,c7,Nat.reduceAdd,Nat.reduceLeDiff]
end
section
variable {M:Memo}{uo bo so vo fo:Nat}{LV:AV}{d:NdR}{vm fm:FmS}{base:AV}
theorem rP {f:Ex→PS→Option (AtF × PS)}{fn:Ex→PS→Bool}{e:Ex}{d' : NdR}(hk:d'.ins.length≤90000)(ihk:∀ a ∈ e.kids,fD M uo bo so vo fo LV d vm fm base f a)(ihn:∀ a ∈ e.kids,pm M uo bo so vo fo LV d vm fm base fn a)
  {H:Heap} {u:UN} :
  ∀ (k i:Nat),k + i=d'.ins.length→∀ (fu:Nat),k < fu→∀ (Hc:Heap) (uc:UN) (ee:Nat) (A F:AV) (xs:List AtF) (fs:List (Int × Int)),xs.length≤i→fs.length≤i→fK f fn fm (d'.ins.drop i) (e.kids.drop i) uc.p=true→HdI uo bo so vo fo LV d vm fm base [bH e,dk d'] H u Hc uc ee A F xs fs →
  ∀ (r:RG),(r.a.a.a=.ptr bo 0∧r.a.a.b=.ptr so 0∧r.a.a.d=.nils∧r.a.a.g=.ptr (aa H) 0∧r.a.b.e=A∧r.a.b.f=F) →
  (r.a.d.d=deZ d'.ins∧r.a.d.e=.int .i64 (d'.ins.length:Int)∧r.a.d.f=.int .i64 (i:Int)) →
  By uo H u.ns u.at_ (aw (fX (orc CC M)) fu r [] ⟨Hc,ee⟩):=by
 intro k
 induction k with
 | zero =>
   intro i hi fu hfu Hc uc ee A F xs fs hx1 hx2 hp I r h1 h2;have:i=d'.ins.length:=by omega
   subst this;rw[List.drop_length] at hp;cases hp
 | succ k ih =>
   intro i hi fu hfu Hc uc ee A F xs fs hx1 hx2 hp I r ⟨h0,h1,h3,h6,h12,h13⟩ ⟨h32,h33,h34⟩;obtain ⟨fu',rfl⟩ : ∃ f,fu=f + 1:=⟨fu - 1,by omega⟩
   have hlt:i < d'.ins.length:=by omega
   have hc:decide ((i:Int) < (d'.ins.length:Int))=true:=by simp;omega
   have hd:d'.ins.drop i=d'.ins[i] :: d'.ins.drop (i + 1):=List.drop_eq_getElem_cons hlt;have hg:d'.ins[i]?=some d'.ins[i]:=by simp[hlt]
   generalize d'.ins[i]=a at hg hd;have hat:=n8 hg;have ha:cQ (i:Int) 1=((i + 1:Nat):Int):=bA i 1 (by unfold natMax;omega)
   rw[hd] at hp
   have hkl:i < e.kids.length:=by
    rcases Nat.lt_or_ge i e.kids.length with h | h
    ·exact h
    ·rw[List.drop_eq_nil_of_le h] at hp;cases hp
   have hkd:e.kids.drop i=e.kids[i] :: e.kids.drop (i + 1):=List.drop_eq_getElem_cons hkl;have hkg:e.kids[i]?=some e.kids[i]:=by simp[hkl]
   have hkm:=ihk _ (List.getElem_mem hkl);have hkn:=ihn _ (List.getElem_mem hkl);generalize e.kids[i]=x at hkd hkg hkm hkn;rw[hkd] at hp;simp only[fK] at hp;have I1:=I.ap [.cells a.l];have hdo:af (Hc ++ [AObj.cells a.l]) (aa Hc)=some (.cells a.l):=by rw[au];rfl
   have hkias:=iz e i x hkg;have hge:af (Hc ++ [AObj.cells a.l]) (aa H)=some (bH e):=by have:=I1.loc (j:=0) (by rw[aO,aO,bj];omega);rw[Nat.add_zero] at this;rw[this];rfl
   have hs:=I1.C.s;cases haf:a.f with
   | true =>
     have hcn:∀ x y:IRes,eX (.bool a.f) x y=x:=fun x y=>by rw[haf];rfl
     rw[haf] at hp;simp only[cond_true] at hp
     split at hp
     ·cases hp
     ·rename_i o ho;obtain ⟨F',H',hap,I2⟩:=I1.appF 61 o (by omega)
      have key:=ih (i + 1) (by omega) fu' (by omega) H' uc ee A F' xs (fs ++ [o]) (by omega) (by simp;omega) hp I2
      have hlk:=kW (kH ho) I1.C.f;have h148:=vI o;have hfa3:∀ a b c d e f:AV,aE 3 (.iptr [a,b,c,d,e,f])=some (.iptr [d,e,f]):=fun _ _ _ _ _ _=>rfl
      have hld3:∀ (a b c:AV) (h:Heap),ax none (.iptr [a,b,c]) h=some a:=fun _ _ _ _=>rfl
      have hap' : ∀ e lin,aq CC 61 89 F (.sl 2 [.agg [.int .i64 o.1,.int .i64 o.2]] lin) ⟨Hc ++ [.cells a.l],e⟩=some (F',⟨H',e⟩):=hap;simp only[aw,fX,nu,pR,qy,FB,lm,SIM,ST0,ST1,h0,h1,h3,h6,h12,h13,h32,h33,h34,hc,hat,ha,hcn,hdo,hs,sx,hge,hkias,hfa3,hld3,hlk,h148,hap,hap',orVal,EXS,DZS,Nat.reduceAdd,Nat.reduceLeDiff];exact key _ ⟨by first | rfl | exact h0,by first | rfl | exact h1,by first | rfl | exact h3,by first | rfl | exact h6,by first | rfl | exact h12,rfl⟩ ⟨by first | rfl | exact h32,by first | rfl | exact h33,rfl⟩
   | false =>
     have hcn:∀ x y:IRes,eX (.bool a.f) x y=y:=fun x y=>by rw[haf];rfl
     rw[haf] at hp;simp only[cond_false] at hp;cases hfn:fn x uc.p with
     | true =>
       obtain ⟨H',e',hP,hl,hfr⟩:=I1.pan (hkn _ uc hfn I1.C);simp only[aw,fX,nu,pR,qy,xD,lm,SIM,ST0,ST1,h0,h1,h3,h6,h12,h13,h32,h33,h34,hc,hat,ha,hcn,hdo,hs,sx,hge,hkias,hP,EXS,DZS,Nat.reduceAdd,Nat.reduceLeDiff];exact ⟨_,H',_,rfl,⟨I.esc hl.1,hl.2⟩,hfr⟩
     | false =>
       rw[hfn] at hp;simp only[cond_false] at hp
       split at hp
       ·rename_i b p1 hxe;rw[Bool.and_eq_true] at hp;obtain ⟨H1,u1,e1,hR,U1,G1,hp2,S1,hD⟩:=hkm (Hc ++ [.cells a.l]) uc b p1 hxe I1.C (jZ hp.1);obtain ⟨A',H',hap,I3⟩:=(I1.ex U1 G1 S1 hD).appA 61 b (by omega)
        have key:=ih (i + 1) (by omega) fu' (by omega) H' u1 (min ee e1) A' F (xs ++ [b]) fs (by simp;omega) (by omega) (by rw[hp2];exact hp.2) I3
        have h139:=j5 b;simp only[aw,fX,nu,pR,qy,xD,lm,SIM,ST0,ST1,h0,h1,h3,h6,h12,h13,h32,h33,h34,hc,hat,ha,hcn,hdo,hs,sx,hge,hkias,hR,h139,hap,orVal,EXS,DZS,Nat.reduceAdd,Nat.reduceLeDiff];exact key _ ⟨by first | rfl | exact h0,by first | rfl | exact h1,by first | rfl | exact h3,by first | rfl | exact h6,rfl,by first | rfl | exact h13⟩ ⟨by first | rfl | exact h32,by first | rfl | exact h33,rfl⟩
       ·cases hp
theorem xc (m:eu M){f:Ex→PS→Option (AtF × PS)}{fn:Ex→PS→Bool}{L:List NdR}(hL:L.length≤90000)(hLV:LV=.sl 6 (L.map NdR.v) .dead){e:Ex}{d' : NdR}(hfd:cD e.s L=some d')(hk:d'.ins.length≤90000)(ihk:∀ a ∈ e.kids,fD M uo bo so vo fo LV d vm fm base f a)(ihn:∀ a ∈ e.kids,pm M uo bo so vo fo LV d vm fm base fn a)
  {H:Heap} {u:UN} (hp:fK f fn fm d'.ins e.kids u.p=true) (C:Cx uo bo so vo fo LV d vm fm base H u):uR uo H u.ns u.at_ (orc CC M 61 [.ptr bo 0,.ptr so 0,e.v,.nils] H):=by
 have I0:=hd0 C [bH e,dk d'];have e0:(envOf [.ptr bo 0,.ptr so 0,e.v,.nils] 0 env0).a.a.a=.ptr bo 0:=rfl;have e1:(envOf [.ptr bo 0,.ptr so 0,e.v,.nils] 0 env0).a.a.b=.ptr so 0:=rfl;have e2:(envOf [.ptr bo 0,.ptr so 0,e.v,.nils] 0 env0).a.a.c=e.v:=rfl;have e3:(envOf [.ptr bo 0,.ptr so 0,e.v,.nils] 0 env0).a.a.d=.nils:=rfl
 obtain ⟨r0,hr0,hr1,hpre⟩ : ∃ r,(r.a.a.a=.ptr bo 0∧r.a.a.b=.ptr so 0∧r.a.a.d=.nils∧r.a.a.g=.ptr (aa H) 0∧r.a.b.e=.nils∧r.a.b.f=.nils)∧(r.a.d.d=deZ d'.ins∧r.a.d.e=.int .i64 (d'.ins.length:Int)∧r.a.d.f=.int .i64 ((0:Nat):Int)) ∧
   z61.sh (orc CC M) (envOf [.ptr bo 0,.ptr so 0,e.v,.nils] 0 env0) [] ⟨H,aa H⟩=dZ (ac (m7 (orc CC M)) retZ) (dD 0 (aw (fX (orc CC M)) 100000 r [] ⟨H ++ [bH e,dk d'],aa H⟩)):=by
  generalize envOf [.ptr bo 0,.ptr so 0,e.v,.nils] 0 env0=R at e0 e1 e2 e3;have hbx:=fx e;have hb:=ar C.b [bH e,.gone];have hfn:=jB m hL hfd (q:=.dead) (H ++ [bH e,.gone]);have hln:=gU d'.ins;have hn1:=gu d';have ho1:=ik d';have hge:af (H ++ [bH e,.gone]) (aa H)=some (bH e):=by rw[au];rfl
  have hm0:min (aa H) (aa H + 2)=aa H:=Nat.min_eq_left (by omega)
  have hl2:aa (H ++ [bH e,.gone])=aa H + 2:=by rw[az];rfl
  rw[hLV] at hb;have hset:∀ x c:AObj,ai (H ++ [bH e,x]) (aa H + 1) c=H ++ [bH e,c]:=fun x c=>eN H [bH e,x] 1 c
  have hgl:∀ x:AObj,af (H ++ [bH e,x]) (aa H + 1)=some x:=fun x=>by rw[aR];rfl
  simp only[z61,B9,Bm,Ek,D4,Dk,SIM,ST0,ST1,e0,e1,e2,e3,hbx,hb,hfn,hge,hm0,hl2,hln,hn1,ho1,hset,hgl,eT,List.append_assoc,List.cons_append,List.nil_append,DZS,EXS,Nat.reduceAdd,Nat.reduceLeDiff];exact ⟨_,⟨by first | rfl | exact e0,by first | rfl | exact e1,by first | rfl | exact e3,rfl,rfl,rfl⟩,⟨rfl,rfl,rfl⟩,rfl⟩
 obtain ⟨r',Hx,ex,hX,hl,hfr⟩:=rP (M:=M) (d':=d') hk ihk ihn (H:=H) (u:=u) d'.ins.length 0 rfl 100000 (by omega) _ u (aa H) .nils .nils [] [] (by simp) (by simp) (by rw[List.drop_zero,List.drop_zero];exact hp) I0 r0 hr0 hr1
 obtain ⟨H',e',h1,h2,h3⟩:=fO (a:=u.at_) (ex:=ex) C.U.uo hl hfr;refine ⟨H',e',aH (z:=z61) (m _ _ rfl) (by kernel_rfl) rfl ?_,h2,h3⟩
 rw[hpre,hX,lS,lZ,n6];exact h1
def Ic (M:Memo)(uo bo:Nat)(LV:AV)(ndn:NdR→List AtF→List (Int × Int)→PS→Bool)(d' : NdR):Prop:=∀ (H:Heap) (u:UN) (xs:List AtF) (fs:List (Int × Int)) (A F:AV),
 UI uo H u→af H bo=some (.cells [.ptr uo 0,LV])→bo ∉ u.ns→AL xs A (aa H)→FL fs F→ndn d' xs fs u.p=true→uR uo H u.ns u.at_ (orc CC M 36 [.ptr bo 0,d'.v,A,F,gv0] H)
def ui (f:Ex→PS→Option (AtF × PS))(fn:Ex→PS→Bool)(fm:FmS)(ndn:NdR→List AtF→List (Int × Int)→PS→Bool)(d' : NdR)(ks:List Ex)(p:PS):Bool :=
 cond (fK f fn fm d'.ins ks p) true (match cL f fm d'.ins ks p with
 | some (xs,fs,p1)=>sG p1 && ndn d' xs fs p1
 | none=>false)
theorem Ef (m:eu M){f:Ex→PS→Option (AtF × PS)}(hf:∀ e p a p',f e p=some (a,p')→p.w≤p'.w){fn:Ex→PS→Bool}{L:List NdR}(hL:L.length≤90000)(hLV:LV=.sl 6 (L.map NdR.v) .dead){e:Ex}{d' : NdR}(hfd:cD e.s L=some d')(hk:d'.ins.length≤90000)(ihk:∀ a ∈ e.kids,fD M uo bo so vo fo LV d vm fm base f a)(ihn:∀ a ∈ e.kids,pm M uo bo so vo fo LV d vm fm base fn a)(hb:iy base)
  {ndn:NdR→List AtF→List (Int × Int)→PS→Bool} (hN:Ic M uo bo LV ndn d') {H:Heap} {u:UN} (hp:ui f fn fm ndn d' e.kids u.p=true) (C:Cx uo bo so vo fo LV d vm fm base H u) :
  uR uo H u.ns u.at_ (orc CC M 63 [.ptr bo 0,.ptr so 0,e.v,.nils] H):=by
 have I:=hd0 C [bH e];have hge:af (H ++ [bH e]) (aa H)=some (bH e):=by rw[au];rfl
 have e0:(envOf [.ptr bo 0,.ptr so 0,e.v,.nils] 0 env0).a.a.a=.ptr bo 0:=rfl;have e1' : (envOf [.ptr bo 0,.ptr so 0,e.v,.nils] 0 env0).a.a.b=.ptr so 0:=rfl;have e2:(envOf [.ptr bo 0,.ptr so 0,e.v,.nils] 0 env0).a.a.c=e.v:=rfl;have e3:(envOf [.ptr bo 0,.ptr so 0,e.v,.nils] 0 env0).a.a.d=.nils:=rfl;have hbx:=fx e;have huo:=C.U.uo;unfold ui at hp;cases hhn:fK f fn fm d'.ins e.kids u.p with
 | true =>
   obtain ⟨H1,ex,hA,hl,hfr⟩:=I.pan (xc m hL hLV hfd hk ihk ihn hhn I.C);obtain ⟨H',e',h1,h2,h3⟩:=fO (a:=u.at_) (ex:=min (aa H) ex) C.U.uo ⟨by have:=C.U.uo;have:=hl.1;omega,hl.2⟩ hfr
   refine ⟨H',e',aH (z:=z63) (m _ _ rfl) (by kernel_rfl) rfl ?_,h2,h3⟩
   rw[← h1];generalize envOf [.ptr bo 0,.ptr so 0,e.v,.nils] 0 env0=R at e0 e1' e2 e3;simp only[z63,zr,xG,SIM,ST0,ST1,e0,e1',e2,e3,hbx,hge,hA,EXS,Nat.reduceAdd,Nat.reduceLeDiff]
 | false =>
   rw[hhn] at hp;simp only[cond_false] at hp
   split at hp
   ·rename_i xs fs p1 hp1;rw[Bool.and_eq_true] at hp;obtain ⟨H1,u1,e1,A,F,hA,hAt,hFl,U1,G1,hpu,S1,hD,_⟩:=lC m hf hL hLV hfd hk ihk hp1 I.C (jZ hp.1);have I2:=(I.ex U1 G1 S1 hD).ap [dk d'];have hl1:aa (H1 ++ [dk d'])=aa H1 + 1:=by rw[az];rfl
    obtain ⟨H3,ex,hN',hl,hfr⟩:=I2.pan (hN _ _ _ _ _ _ I2.C.U I2.C.b I2.C.nb (EA hAt (by omega)) hFl.fl (by rw[hpu];exact hp.2))
    have hge1:af H1 (aa H)=some (bH e):=by
     have:=(I.ex U1 G1 S1 hD).loc (j:=0) (by rw[aO,bj];omega)
     rw[Nat.add_zero] at this;rw[this];rfl
    have hge2:=ar hge1 [.gone];have hb1:=ar (C.ap [bH e] |>.step U1 G1).b [.gone]
    rw[hLV] at hb1;have hfn:=jB m hL hfd (q:=.dead) (H1 ++ [.gone]);have hl2:aa (H1 ++ [AObj.gone])=aa H1 + 1:=by rw[az];rfl
    rw[hl2] at hfn;have hset:∀ x c:AObj,ai (H1 ++ [x]) (aa H1) c=H1 ++ [c]:=fun x c=>dp H1 [x] c
    have hgl:∀ x:AObj,af (H1 ++ [x]) (aa H1)=some x:=fun x=>by rw[au];rfl
    have hn1:=gu d';have ho1:=ik d';have hgd:=dW m hb I2.C.s;rw[hl1] at hgd;have hnd:af (H1 ++ [dk d']) (aa H1)=some (dk d'):=by rw[au];rfl
    have hsd:=nY d';generalize hmm:min (min (min (min (aa H) e1) (aa H1 + 1)) (aa H1 + 1)) ex=em
    obtain ⟨H',e',h1,h2,h3⟩:=fO (a:=u.at_) (ex:=em) C.U.uo ⟨by
     have hl0:aa (H ++ [bH e])=aa H + 1:=by rw[az];rfl
     have hg1:=G1.len;have h9:=hl.1
     rcases hD with ⟨h,_,_⟩ | h <;> omega,hl.2⟩ hfr
    refine ⟨H',e',aH (z:=z63) (m _ _ rfl) (by kernel_rfl) rfl ?_,h2,h3⟩
    rw[← h1];generalize envOf [.ptr bo 0,.ptr so 0,e.v,.nils] 0 env0=R at e0 e1' e2 e3;simp only[z63,zr,xG,CE,Gu,SIM,ST0,ST1,e0,e1',e2,e3,hbx,hge,hA,hge2,hb1,hfn,hl2,hn1,ho1,hgd,hnd,hset,hgl,hsd,hN',hmm,eT,DZS,EXS,P6,Nat.reduceAdd,Nat.reduceLeDiff]
   ·cases hp
theorem pn (m:eu M){e:Ex}(hk:e.k=13){H:Heap}{u:UN}(C:Cx uo bo so vo fo LV d vm fm base H u)
  (hA:uR uo (H ++ [bH e,zA]) u.ns u.at_ (orc CC M 63 [.ptr bo 0,.ptr so 0,e.v,.nils] (H ++ [bH e,zA]))):uR uo H u.ns u.at_ (orc CC M 74 [.ptr bo 0,.ptr so 0,e.v,.nils] H):=by
 have I:=hd0 C [bH e,zA];obtain ⟨H1,ex,hP,hl,hfr⟩:=I.pan hA;obtain ⟨H',e',h1,h2,h3⟩:=fO (a:=u.at_) (ex:=min (aa H) ex) C.U.uo ⟨by have:=C.U.uo;have:=hl.1;omega,hl.2⟩ hfr
 refine ⟨H',e',aH (z:=z74) (m _ _ rfl) (by kernel_rfl) rfl ?_,h2,h3⟩
 rw[← h1];have m0:af (H ++ [bH e,zA]) (aa H)=some (bH e):=by rw[au];rfl
 have e0:(envOf [.ptr bo 0,.ptr so 0,e.v,.nils] 0 env0).a.a.a=.ptr bo 0:=rfl;have e1:(envOf [.ptr bo 0,.ptr so 0,e.v,.nils] 0 env0).a.a.b=.ptr so 0:=rfl;have e2:(envOf [.ptr bo 0,.ptr so 0,e.v,.nils] 0 env0).a.a.c=e.v:=rfl;have e3:(envOf [.ptr bo 0,.ptr so 0,e.v,.nils] 0 env0).a.a.d=.nils:=rfl;generalize envOf [.ptr bo 0,.ptr so 0,e.v,.nils] 0 env0=R at e0 e1 e2 e3;have hbx:=fx e;have cc:∀ j:Nat,j ≠ e.k→decide ((e.k:Int)=(j:Int))=false:=fun j hj=>by simp;omega
 have c1:decide ((e.k:Int)=1)=false:=cc 1 (by omega)
 have c2:decide ((e.k:Int)=2)=false:=cc 2 (by omega)
 have c3:decide ((e.k:Int)=3)=false:=cc 3 (by omega)
 have c4:decide ((e.k:Int)=4)=false:=cc 4 (by omega)
 have c5:decide ((e.k:Int)=5)=false:=cc 5 (by omega)
 have c6:decide ((e.k:Int)=6)=false:=cc 6 (by omega)
 have c7:decide ((e.k:Int)=7)=false:=cc 7 (by omega)
 have c11:decide ((e.k:Int)=11)=false:=cc 11 (by omega)
 have c12:decide ((e.k:Int)=12)=false:=cc 12 (by omega)
 have c14:decide ((e.k:Int)=14)=false:=cc 14 (by omega)
 have c13:decide ((e.k:Int)=13)=true:=by rw[hk];rfl
 simp only[z74,fF,fI,fH,fG,gm,gL,iG,ig,jX,oP,oG,nw,rC,wU,SIM,ST0,ST1,ST2,ST3,ST4,e0,e1,e2,e3,hbx,m0,hP,c1,c2,c3,c4,c5,c6,c7,c11,c12,c13,c14,EXS,Nat.reduceAdd,Nat.reduceLeDiff]
end
section
variable {M:Memo}{uo bo so vo fo:Nat}{LV:AV}{d:NdR}{vm:List (List Nat × Nat)}{fm:FmS}{base:AV}
theorem Ey (m:eu M){f:Ex→PS→Option (AtF × PS)}{fn:Ex→PS→Bool}(hb:iy base)(hl:(cA d).length≤90000)(hcl:∀ x ∈ cA d,x.c=[]){e:Ex}{nm:List Nat}{pos:Nat}(hk:Nat.beq e.k 13=false)(he:fD M uo bo so vo fo LV d (iu vm) fm base f e)(hn:pm M uo bo so vo fo LV d (iu vm) fm base fn e)
  {H:Heap} {u:UN} (hg:fn e u.p=true) (C:Cx uo bo so vo fo LV d (iu vm) fm base H u):uR uo H u.ns u.at_ (orc CC M 50 [.ptr bo 0,.ptr so 0,EqR.v ⟨[(nm,pos)],false,e⟩] H):=by
 have I:=hd0 C [qO ⟨[(nm,pos)],false,e⟩];have hat:fB f fn [e] u.p=true:=by simp only[fB,hg,cond_true]
 obtain ⟨H1,ex,hA,hl1,hfr⟩:=I.pan (pG (V:=.sl 6 [e.v] .lit) m (kids:=[e]) (by simp) (fun x hx=>by simp only[List.mem_singleton] at hx;rw[hx];exact he) (fun x hx=>by simp only[List.mem_singleton] at hx;rw[hx];exact hn) (fun i x hx=>by
         cases i with
         | zero=>simp only[List.getElem?_cons_zero,SJ] at hx;subst hx;exact da (v:=e.v) rfl
         | succ i=>simp at hx) (by obtain ⟨e',hu',rfl⟩:=cc121;rw[dB hu'];rfl) I.C hat)
 obtain ⟨H',e',h1,h2,h3⟩:=fO (a:=u.at_) (ex:=min (aa H) ex) C.U.uo ⟨by have:=C.U.uo;have:=hl1.1;omega,hl1.2⟩ hfr
 refine ⟨H',e',aH (z:=z50) (m _ _ rfl) (by kernel_rfl) rfl ?_,h2,h3⟩
 rw[← h1];have m0:af (H ++ [qO ⟨[(nm,pos)],false,e⟩]) (aa H)=some (qO ⟨[(nm,pos)],false,e⟩):=by rw[au];rfl
 have e0:(envOf [.ptr bo 0,.ptr so 0,EqR.v ⟨[(nm,pos)],false,e⟩] 0 env0).a.a.a=.ptr bo 0:=rfl;have e1' : (envOf [.ptr bo 0,.ptr so 0,EqR.v ⟨[(nm,pos)],false,e⟩] 0 env0).a.a.b=.ptr so 0:=rfl;have e2:(envOf [.ptr bo 0,.ptr so 0,EqR.v ⟨[(nm,pos)],false,e⟩] 0 env0).a.a.c=EqR.v ⟨[(nm,pos)],false,e⟩:=rfl;generalize envOf [.ptr bo 0,.ptr so 0,EqR.v ⟨[(nm,pos)],false,e⟩] 0 env0=R at e0 e1' e2;have hbx:=DY ⟨[(nm,pos)],false,e⟩;have hof:=vE m hl hcl nm I.C.s;have hlH:aa (H ++ [qO ⟨[(nm,pos)],false,e⟩])=aa H + 1:=by rw[az];rfl
 rw[hlH] at hof;have hm1:min (aa H) (aa H + 1)=aa H:=Nat.min_eq_left (by omega)
 have c13:decide ((e.k:Int)=13)=false:=by rw[show decide ((e.k:Int)=13)=Nat.beq e.k 13 from vf e.k 13];exact hk
 have hi0:bw 2 (.sl 2 ([(nm,pos)].map p0) .dead) (.int .i64 0)=some (.iptr [.str nm,.int .i64 (pos:Int)]):=rfl;have hfa0:∀ a b:AV,aE 0 (.iptr [a,b])=some (.iptr [a,b]):=fun _ _=>rfl
 have hld:∀ (a b:AV) (h:Heap),ax none (.iptr [a,b]) h=some a:=fun _ _ _=>rfl
 have hx1:=Pv e;simp only[z50,tF,sR,yu,y3,yb,w8,SIM,ST0,ST1,ST2,ST3,e0,e1',e2,hbx,m0,GM,hi0,hfa0,hld,hof,hm1,c13,xd,EXS,hx1,hA,Nat.reduceAdd,Nat.reduceLeDiff]
theorem Nd.pan {H Hc:Heap}{ns0:List Nat}{u uc:UN}(N:Nd uo bo LV d vm fm base H ns0 Hc uc)(S:Same u uc){X:Option CRes}(hp:uR uo Hc uc.ns uc.at_ X) :
  ∃ H' e',X=some (.panic (jF u.at_) H' e')∧(uo≤e'∧aa H≤aa H')∧∀ q,q < aa H→q ≠ uo→q ∉ ns0→af H' q=af H q:=by
 obtain ⟨H',e',h1,h2,h3⟩:=hp;have hl:=N.G.len;refine ⟨H',e',by rw[h1,S.at_],⟨h2.1,by omega⟩,fun q hq hu hn=>?_⟩
 rw[h3 q (by omega) hu (fun hm=>(N.G.ns q hm).elim hn (fun hg=>by omega)),N.G.fr q hq hu hn]
end
theorem ST (a:Int):Is CC 27 (.agg [.int .i64 a,.int .i64 14])=some (jF a):=by
 have:∀ x:Int,Is CC 27 (.agg [.int .i64 x,.int .i64 14])=some (.iface 27 (.agg [.int .i64 x,.int .i64 14])):=fun _=>by kernel_rfl
 exact this a
theorem NO (a b c d e f g h i j:AV):af [a,b,c,d,e,f,g,h,i,j] 1=some b:=rfl
theorem Pp {α:Type}(rec:RecT)(t:TypeId)(v:AV)(ds:Dfs)(s:St)(k:AV→Dfs→St→Option α)(kp:AV→St→Option α):oE rec (ti (.iface t v)) ds s k kp=kp (.iface t v) s:=rfl
theorem GQ (a:Int)(b:Int):ao CC 27 [(0,.int .i64 a),(1,.int .i64 b)]=some (.agg [.int .i64 a,.int .i64 b]):=by kernel_rfl
def oW (gv:EqR→PS→Option PS)(gvn:EqR→PS→Bool):List EqR→PS→Bool
 | [],_=>false
 | q :: l,p=>cond (gvn q p) true (match gv q p with
   | some p1=>sG p1 && oW gv gvn l p1
   | none=>false)
def mA (sp:List (List Nat × Nat)→EqR→FmS→PS→Option (FmS × PS))(gv:List (List Nat × Nat)→FmS→EqR→PS→Option PS)(gvn:List (List Nat × Nat)→FmS→EqR→PS→Bool)(d:NdR)(xs:List AtF)(fs:List (Int × Int))(p:PS):Bool :=
 match placesP (cA d) [] p with
 | none=>false
 | some (vm,p1)=>sG p1 && (match ka vm d.ins xs fs [] p1 with
   | none=>false
   | some (fm,p2)=>Nat.blt (p2.w + 92000) 1000000 && (Nat.ble p2.size 1500 && (match sizeP d.eqs p2 with
     | none=>true
     | some p3=>sG p3 && (match dC (sp vm) d.eqs fm p3 with
       | none=>false
       | some (fm',p4)=>sG p4 && oW (gv vm fm') (gvn vm fm') d.eqs p4))))
section
variable (M:Memo)(uo bo:Nat)(LV:AV)(d:NdR)(vm:List (List Nat × Nat))(base:AV)(H:Heap)(ns0:List Nat)
def FM (fm:FmS)(gvn:EqR→PS→Bool)(q:EqR):Prop:=∀ (Hc:Heap) (uc:UN),gvn q uc.p=true→Nd uo bo LV d vm fm base H ns0 Hc uc→uR uo Hc uc.ns uc.at_ (orc CC M 50 [.ptr bo 0,.ptr (aa H + 4) 0,q.v] Hc)
end
section
variable {M:Memo}{uo bo:Nat}{LV:AV}{d:NdR}{vm:List (List Nat × Nat)}{fm:FmS}{base:AV}{H:Heap}{ns0:List Nat}
theorem xx (m:eu M){L:List EqR}(hL:L.length≤90000)(hse:∀ q ∈ L,sizeE q.e < 90000){u0:UN}{A F:AV} :
  ∀ (k i:Nat),k + i=L.length→∀ (fu:Nat),k < fu→∀ (Hc:Heap) (uc:UN) (e:Nat),sizeP (L.drop i) uc.p=none→uc.size≤1500→uc.vars + uc.eqs.length + uc.ms.length + uc.ws.length + uc.sp.length + 92000 < 1000000→Nd uo bo LV d vm fm base H ns0 Hc uc→Same u0 uc→uo≤e→∀ (r:RG),RN H base A F r →
  (r.b.f.a=pg L∧r.b.f.b=.int .i64 (L.length:Int)∧r.b.f.c=.int .i64 (i:Int)) →
  By uo H ns0 u0.at_ (aw (iX (orc CC M)) fu r [] ⟨Hc,e⟩):=by
 intro k
 induction k with
 | zero =>
   intro i hi fu hfu Hc uc e hp hs1 hw N S he r hr h;have:i=L.length:=by omega
   subst this;rw[List.drop_length] at hp;cases hp
 | succ k ih =>
   intro i hi fu hfu Hc uc e hp hs1 hw N S he r hr ⟨h32,h33,h34⟩;obtain ⟨hr5,hr6,hr11,hr4,hr2,hr3⟩:=hr;obtain ⟨fu',rfl⟩ : ∃ f,fu=f + 1:=⟨fu - 1,by omega⟩
   have hlt:i < L.length:=by omega
   have hc:decide ((i:Int) < (L.length:Int))=true:=by simp;omega
   have hd:L.drop i=L[i] :: L.drop (i + 1):=List.drop_eq_getElem_cons hlt;have hg:L[i]?=some L[i]:=by simp[hlt]
   have hsq:=hse _ (List.getElem_mem hlt);generalize L[i]=q at hg hd hsq;have hat:=km hg;have ha:cQ (i:Int) 1=((i + 1:Nat):Int):=bA i 1 (by unfold natMax;omega)
   rw[hd] at hp;simp only[sizeP] at hp;have hsz:uc.p.size=uc.size:=rfl;rw[hsz] at hp;have N1:=N.ap [qO q];have hpw:=UN.pw uc;have E:=zj m (u:=uc) (sizeE q.e) q.e (Nat.le_refl _) (by omega) uc.size (Hc ++ [qO q]) (by omega) N1.x N1.C.b N1.C.U.ob
   have hlz:aa (Hc ++ [qO q])=aa Hc + 1:=by rw[az];rfl
   rw[hlz] at E;have hdo:af (Hc ++ [qO q]) (aa Hc)=some (qO q):=by rw[au];rfl
   have hone:=pM q;have hnn:=qL q;have hx2:af (ai (Hc ++ [qO q]) uo (uO uc (uc.size + sizeE q.e))) (aa H)=some (.cells [.ptr bo 0]):=by rw[ae (by have:=N.uh;omega),N1.x]
   have hb2:af (ai (Hc ++ [qO q]) uo (uO uc (uc.size + sizeE q.e))) bo=some (.cells [.ptr uo 0,LV]):=by rw[ae N1.C.bu,N1.C.b]
   have hu2:af (ai (Hc ++ [qO q]) uo (uO uc (uc.size + sizeE q.e))) uo=some (uO uc (uc.size + sizeE q.e)):=aK N1.C.U.ob _;cases hbl:Nat.ble (uc.size + sizeE q.e) 1500 with
   | true =>
     rw[hbl] at hp;simp only[cond_true] at hp;rw[dE,decide_eq_true_eq] at hbl;have U2:=N1.C.U.setv (v:=uc.vars) (s:=uc.size + sizeE q.e) (i:=uc.I) (o:=uc.O) (by omega)
     have N2:Nd uo bo LV d vm fm base H ns0 (ai (Hc ++ [qO q]) uo (uO uc (uc.size + sizeE q.e))) { uc with size:=uc.size + sizeE q.e }:=N1.step U2 (Gr.put _)
     have hgt:decide ((1500:Int) < ((uc.size + sizeE q.e:Nat):Int))=false:=by simp;omega
     have key:=ih (i + 1) (by omega) fu' (by omega) _ { uc with size:=uc.size + sizeE q.e } (min e (aa Hc + 1)) hp hbl hw N2 ⟨S.nd,S.at_,S.I,S.O⟩ (by have:=N.C.U.uo;omega)
     generalize ai (Hc ++ [qO q]) uo (uO uc (uc.size + sizeE q.e))=H2 at E N2 hx2 hb2 hu2 key;simp only[aw,iX,oC,sD,rh,sv,wS,SIM,ST0,ST1,ST2,ST3,h32,h33,h34,hr5,hc,hat,ha,Le,gh,hone,hnn,hdo,xd,EXS,E,hx2,hb2,hu2,sQ,hgt,Nat.reduceAdd,Nat.reduceLeDiff];exact key _ ⟨by first | rfl | exact hr5,by first | rfl | exact hr6,by first | rfl | exact hr11,by first | rfl | exact hr4,by first | rfl | exact hr2,by first | rfl | exact hr3⟩ ⟨by first | rfl | exact h32,by first | rfl | exact h33,rfl⟩
   | false =>
     have hgt:decide ((1500:Int) < ((uc.size + sizeE q.e:Nat):Int))=true:=by
      have:¬ (uc.size + sizeE q.e≤1500):=fun h=>by rw[dE,decide_eq_false_iff_not] at hbl;exact hbl h
      simp;omega
     have hl2:aa H≤aa (ai (Hc ++ [qO q]) uo (uO uc (uc.size + sizeE q.e))):=by rw[ak,hlz];have:=N.G.len;omega
     have hfr:∀ q',q' < aa H→q' ≠ uo→q' ∉ ns0→af (ai (Hc ++ [qO q]) uo (uO uc (uc.size + sizeE q.e))) q'=af H q':=fun q' h1 h2 h3=>by
      rw[ae h2,N1.G.fr q' h1 h2 h3]
     have hat2:uc.at_=u0.at_:=S.at_;generalize ai (Hc ++ [qO q]) uo (uO uc (uc.size + sizeE q.e))=H2 at E hx2 hb2 hu2 hl2 hfr;have hbb:=GQ uc.at_ 14;have hmi:=ST uc.at_;simp only[aw,iX,oC,sD,rh,sv,CQ,SIM,ST0,ST1,ST2,ST3,h32,h33,h34,hr5,hc,hat,ha,Le,gh,hone,hnn,hdo,xd,EXS,E,hx2,hb2,hu2,sQ,NO,hgt,hbb,hmi,Pp,Nat.reduceAdd,Nat.reduceLeDiff];rw[← hat2];exact ⟨_,H2,_,rfl,⟨by have:=N.C.U.uo;omega,hl2⟩,hfr⟩
end
section
variable {M:Memo}{uo bo:Nat}{LV:AV}{d:NdR}{vm:List (List Nat × Nat)}{fm:FmS}{base:AV}{H:Heap}{ns0:List Nat}
theorem uB {gv:EqR→PS→Option PS}{gvn:EqR→PS→Bool}{L:List EqR}(hL:L.length≤90000)(hok:∀ q ∈ L,pu M uo bo LV d vm base H ns0 fm gv q)(hpn:∀ q ∈ L,FM M uo bo LV d vm base H ns0 fm gvn q){u0:UN}{A F:AV} :
  ∀ (k i:Nat),k + i=L.length→∀ (fu:Nat),k < fu→∀ (Hc:Heap) (uc:UN) (e:Nat),oW gv gvn (L.drop i) uc.p=true→Nd uo bo LV d vm fm base H ns0 Hc uc→Same u0 uc→uo≤e→∀ (r:RG),RN H base A F r →
  (r.c.c.d=pg L∧r.c.c.e=.int .i64 (L.length:Int)∧r.c.c.f=.int .i64 (i:Int)) →
  By uo H ns0 u0.at_ (aw (iH (orc CC M)) fu r [] ⟨Hc,e⟩):=by
 intro k
 induction k with
 | zero =>
   intro i hi fu hfu Hc uc e hp N S he r hr h;have:i=L.length:=by omega
   subst this;rw[List.drop_length] at hp;cases hp
 | succ k ih =>
   intro i hi fu hfu Hc uc e hp N S he r hr ⟨h32,h33,h34⟩;obtain ⟨hr5,hr6,hr11,hr4,hr2,hr3⟩:=hr;obtain ⟨fu',rfl⟩ : ∃ f,fu=f + 1:=⟨fu - 1,by omega⟩
   have hlt:i < L.length:=by omega
   have hc:decide ((i:Int) < (L.length:Int))=true:=by simp;omega
   have hd:L.drop i=L[i] :: L.drop (i + 1):=List.drop_eq_getElem_cons hlt;have hg:L[i]?=some L[i]:=by simp[hlt]
   have hmem:=List.getElem_mem hlt;generalize L[i]=q at hg hd hmem;have hat:=km hg;have ha:cQ (i:Int) 1=((i + 1:Nat):Int):=bA i 1 (by unfold natMax;omega)
   rw[hd] at hp;simp only[oW] at hp;have N1:=N.ap [qO q];have hdo:af (Hc ++ [qO q]) (aa Hc)=some (qO q):=by rw[au];rfl
   have hone:=pM q;have hnn:=qL q;have hx:=N1.x;have hP8:∀ a b c d e f g h:AV,eK (some 8) [a,b,c,d,e,f,g,h] 0=some (.agg [a,b,c,d,e,f,g,h]):=fun _ _ _ _ _ _ _ _=>rfl
   cases hgn:gvn q uc.p with
   | true =>
     obtain ⟨H',e',hP,hl,hfr⟩:=N1.pan S (hpn q hmem _ uc hgn N1);simp only[aw,iH,oc,sA,rR,SIM,ST0,ST1,ST2,ST3,ST4,h32,h33,h34,hr5,hr11,hc,hat,ha,Le,gh,hone,hnn,hdo,hx,hP,hP8,Nat.reduceAdd,Nat.reduceLeDiff];exact ⟨_,H',_,rfl,⟨by have:=hl.1;omega,hl.2⟩,hfr⟩
   | false =>
     rw[hgn] at hp;simp only[cond_false] at hp
     split at hp
     ·rename_i p1 h1;rw[Bool.and_eq_true] at hp;obtain ⟨H2,u2,e2,hR,U2,G2,hp2,S2,he2,hel2⟩:=hok q hmem (Hc ++ [qO q]) uc p1 h1 N1 (jZ hp.1);have N2:=N1.step U2 G2;have key:=ih (i + 1) (by omega) fu' (by omega) H2 u2 (min e e2) (by rw[hp2];exact hp.2) N2 (S.trans S2) (by omega)
      simp only[aw,iH,oc,sA,rR,xu,SIM,ST0,ST1,ST2,ST3,ST4,h32,h33,h34,hr5,hr11,hc,hat,ha,Le,gh,hone,hnn,hdo,hx,hR,hP8,Nat.reduceAdd,Nat.reduceLeDiff];exact key _ ⟨by first | rfl | exact hr5,by first | rfl | exact hr6,by first | rfl | exact hr11,by first | rfl | exact hr4,by first | rfl | exact hr2,by first | rfl | exact hr3⟩ ⟨by first | rfl | exact h32,by first | rfl | exact h33,rfl⟩
     ·cases hp
end
section
variable {M:Memo}{uo bo:Nat}{LV:AV}{base:AV}
theorem tC (m:eu M){sp:List (List Nat × Nat)→EqR→FmS→PS→Option (FmS × PS)}{gv:List (List Nat × Nat)→FmS→EqR→PS→Option PS}{gvn:List (List Nat × Nat)→FmS→EqR→PS→Bool}
  (hsw:∀ vm q fm p fm' p',sp vm q fm p=some (fm',p')→p.w≤p'.w) (hb:iy base) {d:NdR} (hl:(cA d).length≤90000) (hel:d.eqs.length≤90000) (hse:∀ q ∈ d.eqs,sizeE q.e < 90000)
  (hsp:∀ H ns0 vm q,q ∈ d.eqs→q.a=true→uS M uo bo LV d vm base H ns0 (sp vm) q) (hgv:∀ H ns0 vm fm q,q ∈ d.eqs→pu M uo bo LV d vm base H ns0 fm (gv vm fm) q) (hgn:∀ H ns0 vm fm q,q ∈ d.eqs→FM M uo bo LV d vm base H ns0 fm (gvn vm fm) q)
  {H:Heap} {u:UN} (U:UI uo H u) (hbo:af H bo=some (.cells [.ptr uo 0,LV])) (hbn:bo ∉ u.ns) {xs:List AtF} {fs:List (Int × Int)} {A F:AV} (hA:AL xs A (aa H)) (hF:FL fs F) (hp:mA sp gv gvn d xs fs u.p=true) :
  uR uo H u.ns u.at_ (orc CC M 36 [.ptr bo 0,d.v,A,F,base] H):=by
 unfold mA at hp
 split at hp
 ·cases hp
 rename_i vm p1 hp1;rw[Bool.and_eq_true] at hp;obtain ⟨ok1,hp⟩:=hp
 split at hp
 ·cases hp
 rename_i fm p2 hp2;rw[Bool.and_eq_true,Bool.and_eq_true] at hp;obtain ⟨ok2,ok2s,hp⟩:=hp;have ok1:=jZ ok1;have ok2:p2.w + 92000 < 1000000:=by simpa using ok2
 rw[dE,decide_eq_true_eq] at ok2s;have hlu:=U.uo;have hlb:=bL hbo;have hins:d.ins.length≤90000:=by unfold cA at hl;simp only[List.length_append] at hl;omega
 let K:Heap:=[.cells [.ptr bo 0],dk d,.map [],.map [],.cells (sF d (.map (aa H + 2)) (.map (aa H + 3)) base)]
 have nn:∀ j,aa H + j ∉ u.ns:=fun j hm=>by have:=(U.lt _ hm).2;omega
 have n0:aa H ∉ u.ns:=nn 0
 have N0:Nd uo bo LV d [] [] base H u.ns (H ++ [.cells [.ptr bo 0],dk d,.map [],.map [],.cells (sF d (.map (aa H + 2)) (.map (aa H + 3)) base)]) u :=
  ⟨⟨U.ap,ar hbo _,by rw[aR];rfl,by rw[aR];rfl,by rw[aR];rfl,hbn,nn 4,nn 2,nn 3⟩,by rw[au];rfl,by rw[aR];rfl,n0,nn 1,Gr.ap,hlu,hlb⟩
 have hAll:=ry m d (by omega) (H ++ [.cells [.ptr bo 0],dk d,.map [],.map [],.cells (sF d (.map (aa H + 2)) (.map (aa H + 3)) base)])
 have hl5:aa (H ++ [AObj.cells [.ptr bo 0],dk d,.map [],.map [],.cells (sF d (.map (aa H + 2)) (.map (aa H + 3)) base)])=aa H + 5:=by rw[az];rfl
 rw[hl5] at hAll;have e0:(envOf [.ptr bo 0,d.v,A,F,base] 0 env0).a.a.a=.ptr bo 0:=rfl;have e1:(envOf [.ptr bo 0,d.v,A,F,base] 0 env0).a.a.b=d.v:=rfl;have e2:(envOf [.ptr bo 0,d.v,A,F,base] 0 env0).a.a.c=A:=rfl;have e3:(envOf [.ptr bo 0,d.v,A,F,base] 0 env0).a.a.d=F:=rfl;have e4:(envOf [.ptr bo 0,d.v,A,F,base] 0 env0).a.a.e=base:=rfl
 obtain ⟨r0,hr0,hq0,hpre⟩ : ∃ r,RN H base A F r∧(r.a.e.a=allZ (cA d)∧r.a.e.b=.int .i64 ((cA d).length:Int)∧r.a.e.c=.int .i64 ((0:Nat):Int)) ∧
   ac (pT (orc CC M)) (ac (qe (orc CC M)) (qS (orc CC M))) (envOf [.ptr bo 0,d.v,A,F,base] 0 env0) [] ⟨H,aa H⟩=some (.normal,r,[],⟨H ++ [.cells [.ptr bo 0],dk d,.map [],.map [],.cells (sF d (.map (aa H + 2)) (.map (aa H + 3)) base)],aa H⟩):=by
  generalize envOf [.ptr bo 0,d.v,A,F,base] 0 env0=R at e0 e1 e2 e3 e4;have hlb' : bo < H.length:=by rw[← aj];exact hlb
  have hbp:=Dg bo H.length hlb';have hbn':=mK d;have hbs:=KP d (aa H + 2) (aa H + 3) hb;have hbx:=JC d (L:=(H ++ [AObj.cells [.ptr bo 0],dk d,.map [],.map []]).length) hb (a:=aa H + 2) (b:=aa H + 3) (by rw[List.length_append,aj];simp) (by rw[List.length_append,aj];simp)
  have hln:=la (cA d);have hmm:min (aa H) (aa H + 5)=aa H:=Nat.min_eq_left (by omega)
  simp only[pT,qe,qS,SIM,ST0,ST1,e0,e1,e2,e3,e4,hbp,hbn',P6,hbs,hbx,hAll,hmm,hln,DZS,Nat.reduceAdd,Nat.reduceLeDiff];exact ⟨_,⟨rfl,rfl,rfl,by first | rfl | exact e4,by first | rfl | exact e2,by first | rfl | exact e3⟩,⟨rfl,rfl,rfl⟩,rfl⟩
 obtain ⟨r1,Hd1,u1,v1,s1,N1,hq1,S1,he1,hr1⟩:=mc m hl (L:=cA d) (u0:=u) (A:=A) (F:=F) (vm':=vm) (p':=p1) (by omega) (cA d).length 0 rfl 100000 (by omega) _ u (aa H) [] (by rw[List.drop_zero];exact hp1) N0 Same.refl (by omega) r0 hr0 hq0
 obtain ⟨r2,hr2,hk2,s2⟩ : ∃ r,RN H base A F r∧(r.a.g.e=deZ d.ins∧r.a.g.f=.int .i64 (d.ins.length:Int)∧r.a.g.g=.int .i64 ((0:Nat):Int))∧qN (orc CC M) r1 [] ⟨Hd1,v1⟩=some (.normal,r,[],⟨Hd1,v1⟩):=by
  obtain ⟨b5,b6,b11,b4,b2,b3⟩:=hr1;have hn:=N1.n;have hln:=gU d.ins;simp only[qN,SIM,ST0,ST1,b6,hn,hln,Nat.reduceAdd,Nat.reduceLeDiff];exact ⟨_,⟨by first | rfl | exact b5,by first | rfl | exact b6,by first | rfl | exact b11,by first | rfl | exact b4,by first | rfl | exact b2,by first | rfl | exact b3⟩,⟨rfl,rfl,rfl⟩,rfl⟩
 obtain ⟨r3,Hd3,u3,v3,A3,F3,s3,N3,hq3,S3,he3,hr3⟩:=uK (M:=M) hb hins (u0:=u) (p':=p2) (fm':=fm) (by omega) d.ins.length 0 rfl 100000 (by omega) Hd1 u1 v1 xs fs A F [] (by rw[List.drop_zero,hq1];exact hp2) N1 (hA.imp id (fun ⟨q,h1,h2⟩=>⟨q,h1,Lin.low_mono (N1.G.len) _ h2⟩)) hF S1 he1 r2 hr2 hk2
 obtain ⟨r4,hr4,hk4,s4⟩ : ∃ r,RN H base A3 F3 r∧(r.b.f.a=pg d.eqs∧r.b.f.b=.int .i64 (d.eqs.length:Int)∧r.b.f.c=.int .i64 ((0:Nat):Int))∧lq (orc CC M) r3 [] ⟨Hd3,v3⟩=some (.normal,r,[],⟨Hd3,v3⟩):=by
  obtain ⟨b5,b6,b11,b4,b2,b3⟩:=hr3;have hn:=N3.n;have hln:=jC d.eqs;simp only[lq,SIM,ST0,ST1,ST2,ST3,b6,hn,hln,Nat.reduceAdd,Nat.reduceLeDiff];exact ⟨_,⟨by first | rfl | exact b5,by first | rfl | exact b6,by first | rfl | exact b11,by first | rfl | exact b4,by first | rfl | exact b2,by first | rfl | exact b3⟩,⟨rfl,rfl,rfl⟩,rfl⟩
 have b0:∀ (i:Nat) (b:CZ) (r:RG) (s:St),aX i (bi b) r [] s=dD i (aw b 100000 r [] s):=fun _ _ _ _=>rfl
 have done:∀ {X:IRes},z36.sh (orc CC M) (envOf [.ptr bo 0,d.v,A,F,base] 0 env0) [] ⟨H,aa H⟩=X→By uo H u.ns u.at_ X→uR uo H u.ns u.at_ (orc CC M 36 [.ptr bo 0,d.v,A,F,base] H):=by
  intro X hz ⟨r',Hx,ex,hX,hlx,hfr⟩;obtain ⟨H',e',h1,h2,h3⟩:=fO (a:=u.at_) (ex:=ex) U.uo hlx hfr;refine ⟨H',e',aH (z:=z36) (m _ _ rfl) (by kernel_rfl) rfl ?_,h2,h3⟩
  rw[hz,hX,n6];exact h1
 split at hp
 ·rename_i hsz
  obtain ⟨r5,Hx,ex,s5,hlx,hfr⟩:=xx m hel hse (u0:=u) (A:=A3) (F:=F3) d.eqs.length 0 rfl 100000 (by omega) Hd3 u3 v3 (by rw[List.drop_zero,hq3];exact hsz) (by rw[← hq3] at ok2s;exact ok2s) (by
   have h1:=UN.pw u3;rw[hq3] at h1;omega) N3 S3 he3 r4 hr4 hk4
  refine done (X:=some (.panic (jF u.at_),r5,[],⟨Hx,ex⟩)) ?_ ⟨r5,Hx,ex,rfl,hlx,hfr⟩;rw[xn,bt,hpre,bn,bt,b0,s1,dS,bn,bt,s2,bn,bt,b0,s3,dS,bn,bt,s4,bn,bt,b0,s5,lS,lZ]
 ·rename_i p3 hp3;rw[Bool.and_eq_true] at hp;obtain ⟨ok3,hp⟩:=hp;have ok3:=jZ ok3
  split at hp
  ·cases hp
  rename_i fm' p4 hp4;rw[Bool.and_eq_true] at hp;obtain ⟨ok4,hp5⟩:=hp;have ok4:=jZ ok4;obtain ⟨r5,Hd5,u5,v5,s5,N5,hq5,S5,he5,hr5⟩:=pY m hel (u0:=u) (p':=p3) (A:=A3) (F:=F3) (by omega) d.eqs.length 0 rfl 100000 (by omega) Hd3 u3 v3 (by rw[List.drop_zero,hq3];exact hp3) N3 S3 he3 r4 hr4 hk4
  obtain ⟨r6,hr6,hk6,s6⟩ : ∃ r,RN H base A3 F3 r∧(r.c.a.f=pg d.eqs∧r.c.a.g=.int .i64 (d.eqs.length:Int)∧r.c.a.h=.int .i64 ((0:Nat):Int))∧lU (orc CC M) r5 [] ⟨Hd5,v5⟩=some (.normal,r,[],⟨Hd5,v5⟩):=by
   obtain ⟨b5,b6,b11,b4,b2,b3⟩:=hr5;have hn:=N5.n;have hln:=jC d.eqs;simp only[lU,SIM,ST0,ST1,ST2,ST3,ST4,b6,hn,hln,Nat.reduceAdd,Nat.reduceLeDiff];exact ⟨_,⟨by first | rfl | exact b5,by first | rfl | exact b6,by first | rfl | exact b11,by first | rfl | exact b4,by first | rfl | exact b2,by first | rfl | exact b3⟩,⟨rfl,rfl,rfl⟩,rfl⟩
  obtain ⟨r7,Hd7,u7,v7,s7,N7,hq7,S7,he7,hes7,hr7⟩:=mo (hsw vm) hel (fun q hq hqa=>hsp H u.ns vm q hq hqa) (u0:=u) (p':=p4) (fm':=fm') (A:=A3) (F:=F3) (by omega) d.eqs.length 0 rfl 100000 (by omega) Hd5 u5 v5 fm (by rw[List.drop_zero,hq5];exact hp4) N5 S5 he5 (fun ⟨_,h,_⟩=>by rw[List.take_zero] at h;cases h) r6 hr6 hk6
  obtain ⟨r8,hr8,hk8,s8⟩ : ∃ r,RN H base A3 F3 r∧(r.c.c.d=pg d.eqs∧r.c.c.e=.int .i64 (d.eqs.length:Int)∧r.c.c.f=.int .i64 ((0:Nat):Int))∧lW (orc CC M) r7 [] ⟨Hd7,v7⟩=some (.normal,r,[],⟨Hd7,v7⟩):=by
   obtain ⟨b5,b6,b11,b4,b2,b3⟩:=hr7;have hn:=N7.n;have hln:=jC d.eqs;simp only[lW,SIM,ST0,ST1,ST2,ST3,ST4,b6,hn,hln,Nat.reduceAdd,Nat.reduceLeDiff];exact ⟨_,⟨by first | rfl | exact b5,by first | rfl | exact b6,by first | rfl | exact b11,by first | rfl | exact b4,by first | rfl | exact b2,by first | rfl | exact b3⟩,⟨rfl,rfl,rfl⟩,rfl⟩
  obtain ⟨r9,Hx,ex,s9,hlx,hfr⟩:=uB (M:=M) hel (fun q hq=>hgv H u.ns vm fm' q hq) (fun q hq=>hgn H u.ns vm fm' q hq) (u0:=u) (A:=A3) (F:=F3) d.eqs.length 0 rfl 100000 (by omega) Hd7 u7 v7 (by rw[List.drop_zero,hq7];exact hp5) N7 S7 he7 r8 hr8 hk8
  refine done (X:=some (.panic (jF u.at_),r9,[],⟨Hx,ex⟩)) ?_ ⟨r9,Hx,ex,rfl,hlx,hfr⟩;rw[xn,bt,hpre,bn,bt,b0,s1,dS,bn,bt,s2,bn,bt,b0,s3,dS,bn,bt,s4,bn,bt,b0,s5,dS,bn,bt,s6,bn,bt,b0,s7,dS,bn,bt,s8,bn,bt,b0,s9,lS,lZ]
end
abbrev NdNF:Type:=NdR→List AtF→List (Int × Int)→PS→Bool
def gP (vm:List (List Nat × Nat))(ext:Ex→PS→Option (AtF × PS))(extn:Ex→PS→Bool):Nat→Ex→PS→Bool
 | 0,_,_=>false
 | k + 1,e,p=>cond (mN e.k) (fB (bG vm ext k) (gP vm ext extn k) e.kids p) (cond (Nat.beq e.k 13) (extn e p) false)
def lD (nd:NdF)(ndn:NdNF)(L:List NdR)(vm:List (List Nat × Nat))(fm:FmS):Nat→Ex→PS→Bool
 | 0=>fun _ _=>false
 | m + 1=>fun e p=>match cD e.s L with
   | none=>false
   | some d'=>ui (bG vm (de nd L vm fm m) 60) (gP vm (de nd L vm fm m) (lD nd ndn L vm fm m) 60) fm ndn d' e.kids p
def PA (nd:NdF)(ndn:NdNF)(L:List NdR)(vm:List (List Nat × Nat))(fm:FmS)(q:EqR)(p:PS):Bool :=
 cond q.a false (cond (Nat.beq q.e.k 13) false (match q.l with
  | [_]=>gP vm (de nd L vm fm 60) (lD nd ndn L vm fm 60) 60 q.e p
  | _=>false))
def vw (L:List NdR):Nat→NdNF
 | 0=>fun _ _ _ _=>false
 | n + 1=>mA (fun _=>vz) (tD (fU L n) L) (PA (fU L n) (vw L n) L)
section
variable {M:Memo}{uo bo:Nat}{LV:AV}{L:List NdR}
theorem vd (m:eu M)(hL:L.length≤90000)(hLV:LV=.sl 6 (L.map NdR.v) .dead)(hK:∀ d ∈ L,NdK d){nd:NdF}(hn:KL nd)(hN:∀ d ∈ L,OD M uo bo LV nd d)
  {so vo fo:Nat} {d:NdR} {vm:List (List Nat × Nat)} {fm:FmS} {base:AV} (hb:iy base) (j:Nat) {extn:Ex→PS→Bool}
  (hx:∀ e,e.k=13→sizeE e < 90000→pm M uo bo so vo fo LV d (iu vm) fm base extn e) :
  ∀ (k:Nat)(e:Ex),sizeE e < 90000→pm M uo bo so vo fo LV d (iu vm) fm base (gP vm (de nd L vm fm j) extn k) e:=by
 intro k
 induction k with
 | zero=>intro e he H u h;cases h
 | succ k ih =>
   intro e he H u h C;have hmono:=fj hn (L:=L) (vm:=vm) (fm:=fm) j;have hall:=iB (LV:=LV) (d:=d) (vm:=vm) (fm:=fm) (base:=base) (uo:=uo) (bo:=bo) (so:=so) (vo:=vo) (fo:=fo) m (fun e p a p' h=>(hmono e p a p' h).1) (fun e p a p' h=>(hmono e p a p' h).2) hb (rn m hL hLV hK hn hN hb j)
   have hkl:=sizeL_len e.kids;have hsk:=fk e;simp only[gP] at h;cases hop:mN e.k with
   | true =>
     rw[hop] at h;exact tq m rfl hb hop (by omega) (fun a ha=>hall k a (by have:=dJ ha;omega)) (fun a ha=>ih a (by have:=dJ ha;omega)) C h
   | false =>
     rw[hop] at h;simp only[cond_false] at h;cases h13:Nat.beq e.k 13 with
     | false=>rw[h13] at h;cases h
     | true=>rw[h13] at h;exact hx e (Nat.eq_of_beq_eq_true h13) he H u h C
theorem Hs (m:eu M)(hL:L.length≤90000)(hLV:LV=.sl 6 (L.map NdR.v) .dead)(hK:∀ d ∈ L,NdK d){nd:NdF}(hn:KL nd)(hN:∀ d ∈ L,OD M uo bo LV nd d){ndn:NdNF}(hP:∀ d ∈ L,Ic M uo bo LV ndn d)
  {so vo fo:Nat} {d:NdR} {vm:List (List Nat × Nat)} {fm:FmS} {base:AV} (hb:iy base) :
  ∀ (j:Nat)(e:Ex),e.k=13→sizeE e < 90000→pm M uo bo so vo fo LV d (iu vm) fm base (lD nd ndn L vm fm j) e:=by
 intro j
 induction j with
 | zero=>intro e hk he H u h;cases h
 | succ j ih =>
   intro e hk he H u h C;simp only[lD] at h
   split at h
   ·cases h
   rename_i d' hfd;have hmono:=fj hn (L:=L) (vm:=vm) (fm:=fm) j;have hf:=gk (vm:=vm) (fun e p a p' h=>(hmono e p a p' h).1) 60
   have hall:=iB (LV:=LV) (d:=d) (vm:=vm) (fm:=fm) (base:=base) (uo:=uo) (bo:=bo) (so:=so) (vo:=vo) (fo:=fo) m (fun e p a p' h=>(hmono e p a p' h).1) (fun e p a p' h=>(hmono e p a p' h).2) hb (rn m hL hLV hK hn hN hb j)
   have hkl:=sizeL_len e.kids;have hsk:=fk e;exact pn m hk C (Ef m hf hL hLV hfd (hK _ (dV hfd)).ins (fun a ha=>hall 60 a (by have:=dJ ha;omega)) (fun a ha=>vd m hL hLV hK hn hN hb j ih 60 a (by have:=dJ ha;omega)) hb (hP _ (dV hfd)) h (C.ap [bH e,zA]))
theorem Eb (m:eu M)(hL:L.length≤90000)(hLV:LV=.sl 6 (L.map NdR.v) .dead)(hK:∀ d ∈ L,NdK d){nd:NdF}(hn:KL nd)(hN:∀ d ∈ L,OD M uo bo LV nd d){ndn:NdNF}(hP:∀ d ∈ L,Ic M uo bo LV ndn d)
  {d:NdR} (hd:NdK d) {vm:List (List Nat × Nat)} {fm:FmS} {base:AV} (hb:iy base) {H:Heap} {ns0:List Nat} {q:EqR} (hq:q ∈ d.eqs):FM M uo bo LV d vm base H ns0 fm (PA nd ndn L vm fm) q:=by
 obtain ⟨hqs,hql⟩:=hd.eq q hq;intro Hc uc h N;unfold PA at h;cases hqa:q.a with
 | true=>rw[hqa] at h;cases h
 | false =>
   rw[hqa] at h;simp only[cond_false] at h;cases h13:Nat.beq q.e.k 13 with
   | true=>rw[h13] at h;cases h
   | false =>
     rw[h13] at h;simp only[cond_false] at h
     split at h
     ·rename_i x hl;obtain ⟨nm,pos⟩:=x
      have hqe:q=⟨[(nm,pos)],false,q.e⟩:=by
       cases q with
       | mk l a e=>simp only at hl hqa;rw[hl,hqa]
      have hmono:=fj hn (L:=L) (vm:=vm) (fm:=fm) 60;have hall:=iB (LV:=LV) (d:=d) (vm:=vm) (fm:=fm) (base:=base) (uo:=uo) (bo:=bo) (so:=aa H + 4) (vo:=aa H + 2) (fo:=aa H + 3) m (fun e p a p' h=>(hmono e p a p' h).1) (fun e p a p' h=>(hmono e p a p' h).2) hb (rn m hL hLV hK hn hN hb 60)
      have:=Ey (nm:=nm) (pos:=pos) m hb hd.al hd.cl h13 (hall 60 q.e hqs) (vd m hL hLV hK hn hN hb 60 (Hs m hL hLV hK hn hN hP hb 60) 60 q.e hqs) h N.C;rw[hqe];exact this
     ·cases h
theorem Gg (m:eu M)(hL:L.length≤90000)(hLV:LV=.sl 6 (L.map NdR.v) .dead)(hK:∀ d ∈ L,NdK d):∀ (n:Nat),∀ d ∈ L,Ic M uo bo LV (vw L n) d
 | 0=>fun d hd H u xs fs A F _ _ _ _ _ h=>by cases h
 | n + 1=>fun d hd H u xs fs A F hU hbo hbn hA hF h=>by
   have hk:=hK d hd;have ihN:=nt (M:=M) (uo:=uo) (bo:=bo) m hL hLV hK n;have ih:=Gg m hL hLV hK n
   exact tC (sp:=fun _=>vz) (gv:=tD (fU L n) L) (gvn:=PA (fU L n) (vw L n) L) (base:=gv0) m (fun vm q fm p fm' p' h=>(uP h).1) (.inr rfl) hk.al hk.el (fun q hq=>(hk.eq q hq).1)
    (fun H ns0 vm q _ _=>ku m (.inr rfl) q) (fun H ns0 vm fm q hq=>re m hL hLV hK (eJ L n) ihN hk (.inr rfl) hq) (fun H ns0 vm fm q hq=>Eb m hL hLV hK (eJ L n) ihN ih hk (.inr rfl) hq) hU hbo hbn hA hF h
end
section
variable {M:Memo}{uo bo:Nat}{LV:AV}{d:NdR}{nd:List Nat}{at_:Int}{H:Heap}
theorem Cr (m:eu M){sp:List (List Nat × Nat)→EqR→FmS→PS→Option (FmS × PS)}{gv:List (List Nat × Nat)→FmS→EqR→PS→Option PS}{gvn:List (List Nat × Nat)→FmS→EqR→PS→Bool}
  (hsw:∀ vm q fm p fm' p',sp vm q fm p=some (fm',p')→p.w≤p'.w) (hl:(cA d).length≤90000) (hel:d.eqs.length≤90000) (hse:∀ q ∈ d.eqs,sizeE q.e < 90000)
  (hsp:∀ H ns0 vm q,q ∈ d.eqs→q.a=true→uS M uo bo LV d vm .nils H ns0 (sp vm) q) (hgv:∀ H ns0 vm fm q,q ∈ d.eqs→pu M uo bo LV d vm .nils H ns0 fm (gv vm fm) q) (hgn:∀ H ns0 vm fm q,q ∈ d.eqs→FM M uo bo LV d vm .nils H ns0 fm (gvn vm fm) q)
  (hu:af H uo=some (.cells (oT nd at_ 0 .nils))) (hbo:af H bo=some (.cells [.ptr uo 0,LV])) (hp:mA sp gv gvn d ((List.range (cI d.ins)).map ph) ((List.range (cF d.ins)).map y8) ⟨cI d.ins,[],0,[],[],0⟩=true) :
  uR uo H [] at_ (orc CC M 23 [.ptr bo 0,d.v] H):=by
 have uh:=bL hu;have bh:=bL hbo;have bu:bo ≠ uo:=fun h=>by rw[h,hu] at hbo;simp at hbo
 have hins:d.ins.length≤90000:=by unfold cA at hl;simp only[List.length_append] at hl;omega
 have hlz:aa (H ++ [dk d])=aa H + 1:=by rw[az];rfl
 have R0:Rt uo bo LV d nd at_ H 0 (H ++ [dk d]) .nils .nils:=⟨ar hu _,ar hbo _,by rw[au];rfl,.inl ⟨rfl,rfl⟩,.inl ⟨rfl,rfl⟩,fun _ h=>(by cases h),fun _ h=>(by cases h),fun _ h=>(by cases h),fun q hq _=>by rw[aj] at hq;rw[aD,aD,List.getElem?_append_left hq],by omega,uh,bh,bu⟩
 have e0:(envOf [.ptr bo 0,d.v] 0 env0).a.a.a=.ptr bo 0:=rfl;have e1:(envOf [.ptr bo 0,d.v] 0 env0).a.a.b=d.v:=rfl
 obtain ⟨r0,hr0,hq0,hpre⟩ : ∃ r,(r.a.a.a=.ptr bo 0∧r.a.a.d=.ptr (aa H) 0∧r.a.a.e=.nils∧r.a.a.f=.nils)∧(r.a.b.b=deZ d.ins∧r.a.b.c=.int .i64 (d.ins.length:Int)∧r.a.b.d=.int .i64 ((0:Nat):Int)) ∧
   z23.sh (orc CC M) (envOf [.ptr bo 0,d.v] 0 env0) [] ⟨H,aa H⟩=dZ (m6 (orc CC M)) (dD 0 (aw (j9 (orc CC M)) 100000 r [] ⟨H ++ [dk d],aa H⟩)):=by
  generalize envOf [.ptr bo 0,d.v] 0 env0=R at e0 e1;have hbn:=mK d;have hln:=gU d.ins;have hlL:H.length=aa H:=(aj H).symm;simp only[z23,DO,A8,Ca,CW,SIM,ST0,ST1,e0,e1,hbn,hln,hlL,Nat.reduceAdd,Nat.reduceLeDiff];exact ⟨_,⟨by first | rfl | exact e0,rfl,rfl,rfl⟩,⟨rfl,rfl,rfl⟩,rfl⟩
 obtain ⟨r1,Hd,e',I,A,F,hlp,R2,he1,he2,hr1⟩:=oU m hins d.ins.length 0 rfl 100000 (by omega) _ _ _ _ _ (show Rt2 uo bo LV d nd at_ H (cI (d.ins.take 0)) (cF (d.ins.take 0)) (H ++ [dk d]) .nils .nils .nils from ⟨R0,.inl ⟨rfl,rfl⟩,fun _ h=>(by cases h),fun _ h=>(by cases h)⟩) (by omega) (Nat.le_refl _) r0 hr0 hq0
 obtain ⟨g0,g3,g4,g5⟩:=hr1;have R1:=R2.R;have hcI:cI d.ins≤d.ins.length:=List.countP_le_length;have U1:=LO R1.u (by omega)
 have hAL:AL ((List.range (cI d.ins)).map ph) A (aa Hd):=by
  rcases R1.hA with ⟨h1,h2⟩ | ⟨_,id,g,h1,h2,h3,h4⟩
  ·exact .inl ⟨by simpa using h1,h2⟩
  ·refine .inr ⟨_,by rw[List.map_map];exact h1,?_⟩
   have:=bL h2;simp[Lin.low,this]
 have hFL:FL ((List.range (cF d.ins)).map y8) F:=by
  rcases R2.hF with ⟨h1,h2⟩ | ⟨_,id,g,h1,_⟩
  ·exact .inl ⟨by simpa using h1,h2⟩
  ·exact .inr ⟨_,by rw[List.map_map];exact h1⟩
 obtain ⟨H2,ex,hN,hl2,hfr⟩:=tC (base:=.nils) m hsw (.inl rfl) hl hel hse hsp hgv hgn U1 R1.b (fun h=>by cases h) hAL hFL hp
 have hlen:=R1.len;obtain ⟨H',e'',h1,h2,h3⟩:=fO (uo:=uo) (H:=H) (ns:=[]) (a:=at_) (Hx:=H2) (ex:=min e' ex) uh ⟨by have:=hl2.1;omega,by omega⟩ (fun q hq hu' _=>by rw[hfr q (by omega) hu' (fun h=>by cases h),R1.fr q hq hu'])
 refine ⟨H',e'',aH (z:=z23) (m _ _ rfl) (by kernel_rfl) rfl ?_,h2,h3⟩
 rw[← h1,hpre,hlp,dS,bn];have n1:=R1.n;have b1:=R1.b;have hN' : orc CC M 36 [.ptr bo 0,d.v,A,F,.nils] Hd=some (.panic (jF at_) H2 ex):=hN;simp only[m6,z23,SIM,ST0,ST1,g0,g3,g4,g5,b1,n1,P6,hN',Nat.reduceAdd,Nat.reduceLeDiff]
end
abbrev m9 (a:Int):AObj:=.cells [.int .i64 a,.int .i64 14]
theorem sz29:dh CC 27=some 2:=by kernel_rfl
theorem H6 {fo:Nat}{H:Heap}{e:Nat}(a:Int)(h:af H fo=some cz0):cz CC 27 (.ptr fo 0) (.agg [.int .i64 a,.int .i64 14]) ⟨H,e⟩=some ⟨ai H fo (m9 a),e⟩:=by
 have h1:=sz29;rw[aD] at h;have h2:AV.low H.length (.agg [.int .i64 a,.int .i64 14])=true:=by simp[AV.low,aM]
 have h3:dR (.agg [.int .i64 a,.int .i64 14]) fo ⟨H,e⟩=e:=by simp[dR,AV.low,aM]
 simp only[cz,h1,h,h2,h3];simp[AV.cells,AV.one,aV,aN]
section
variable {M:Memo}
theorem wt (m:eu M){uo bo fo bc no:Nat}{LV:AV}{d:NdR}{H:Heap}{a:Int}(hb:af H bc=some (.cells [.ptr bo 0]))(hn:af H no=some (dk d))(hf:af H fo=some cz0)(hfu:fo ≠ uo)(hu:uo < aa H)
  (hR:uR uo H [] a (orc CC M 23 [.ptr bo 0,d.v] H)) :
  ∃ H2 e2,orc CC M 21 [.ptr fo 0,.ptr bc 0,.ptr no 0] H=some (.ret Abs.undef H2 e2)∧uo≤e2∧e2≤aa H∧af H2 fo=some (m9 a)∧aa H≤aa H2∧∀ q,q < aa H→q ≠ uo→q ≠ fo→af H2 q=af H q:=by
 obtain ⟨Hx,ex,hP,hl,hfr⟩:=hR;have hfl:=bL hf;have hfx:af Hx fo=some cz0:=by rw[hfr fo hfl hfu (fun h=>by cases h),hf]
 have e0:(envOf [AV.ptr fo 0,.ptr bc 0,.ptr no 0] 0 env0).a.a.a=.ptr fo 0:=rfl;have e1:(envOf [AV.ptr fo 0,.ptr bc 0,.ptr no 0] 0 env0).a.a.b=.ptr bc 0:=rfl;have e2:(envOf [AV.ptr fo 0,.ptr bc 0,.ptr no 0] 0 env0).a.a.c=.ptr no 0:=rfl
 obtain ⟨r',hpre⟩ : ∃ r',z21.sh (orc CC M) (envOf [AV.ptr fo 0,.ptr bc 0,.ptr no 0] 0 env0) [] ⟨H,aa H⟩=some (.panic (jF a),r',[(22,[.ptr fo 0])],⟨Hx,min (aa H) ex⟩):=by
  generalize envOf [AV.ptr fo 0,.ptr bc 0,.ptr no 0] 0 env0=R at e0 e1 e2;simp only[z21,Gx,ET,SIM,ST0,e0,e1,e2,hb,hn,P6,hP,Nat.reduceAdd,Nat.reduceLeDiff];exact ⟨_,rfl⟩
 have hct:CC.catcher 22=some 27:=by kernel_rfl
 have hst:=H6 (e:=min (aa H) ex) a hfx
 have hfin:orc CC M 21 [.ptr fo 0,.ptr bc 0,.ptr no 0] H=some (xj (CC.keep 21) (aa H) Abs.undef ⟨ai Hx fo (m9 a),min (aa H) ex⟩):=by
  refine aH (z:=z21) (m _ _ rfl) (by kernel_rfl) rfl ?_
  rw[hpre];show H8 CC 21 (aa H) 0 (jF a) [(22,[.ptr fo 0])] ⟨Hx,min (aa H) ex⟩=_;simp only[H8,hct,hst];simp
 have hlm:=hl.1
 by_cases hm:min (aa H) ex=aa H
 ·refine ⟨(ai Hx fo (m9 a)).take (aa H),aa H,?_,by omega,Nat.le_refl _,?_,?_,fun q hq h1 h2=>?_⟩
  ·rw[hfin,hm];simp only[xj,cR,if_true];cases CC.keep 21 <;> simp[AV.settle,br,AV.low,aM,Abs.undef]
  ·rw[aD,List.getElem?_take];have:=aK hfx (m9 a);rw[aD] at this;simp[hfl,this]
  ·have h9:(ai Hx fo (m9 a)).length=aa Hx:=by rw[← aj,ak]
   rw[aj ((ai Hx fo (m9 a)).take (aa H)),List.length_take,h9];have:=hl.2;omega
  ·rw[aD,List.getElem?_take];simp only[hq,if_true];rw[← aD,ae h2,hfr q hq h1 (fun h=>by cases h)]
 ·refine ⟨ai Hx fo (m9 a),min (aa H) ex,?_,by omega,by omega,aK hfx _,by rw[ak];exact hl.2,fun q hq h1 h2=>by rw[ae h2,hfr q hq h1 (fun h=>by cases h)]⟩
  rw[hfin];simp only[xj,cR,if_neg hm]
theorem A5 (m:eu M){sp:List (List Nat × Nat)→EqR→FmS→PS→Option (FmS × PS)}{gv:List (List Nat × Nat)→FmS→EqR→PS→Option PS}{gvn:List (List Nat × Nat)→FmS→EqR→PS→Bool}{L:List NdR}(hL:L.length≤90000){nm:List Nat}{d:NdR}(hfd:cD nm L=some d)
  (hsw:∀ vm q fm p fm' p',sp vm q fm p=some (fm',p')→p.w≤p'.w) (hl:(cA d).length≤90000) (hel:d.eqs.length≤90000) (hse:∀ q ∈ d.eqs,sizeE q.e < 90000)
  (hsp:∀ uo bo H ns0 vm q,q ∈ d.eqs→q.a=true→uS M uo bo (.sl 6 (L.map NdR.v) .dead) d vm .nils H ns0 (sp vm) q) (hgv:∀ uo bo H ns0 vm fm q,q ∈ d.eqs→pu M uo bo (.sl 6 (L.map NdR.v) .dead) d vm .nils H ns0 fm (gv vm fm) q)
  (hgn:∀ uo bo H ns0 vm fm q,q ∈ d.eqs→FM M uo bo (.sl 6 (L.map NdR.v) .dead) d vm .nils H ns0 fm (gvn vm fm) q)
  (hp:mA sp gv gvn d ((List.range (cI d.ins)).map ph) ((List.range (cF d.ins)).map y8) ⟨cI d.ins,[],0,[],[],0⟩=true) (H:Heap) :
  orc CC M 9 [.sl 6 (L.map NdR.v) .dead,.str nm] H=some (.ret (.tuple [.nilp,.agg [.int .i64 (d.p:Int),.int .i64 14]]) H (aa H)):=by
 let K:Heap:=[cz0,dk d,.cells (oT nm d.p 0 .nils),.cells [.ptr (aa H + 2) 0,.sl 6 (L.map NdR.v) .dead],.cells [.ptr (aa H + 3) 0],cz0]
 have hKl:aa (H ++ K)=aa H + 6:=by rw[az];rfl
 have hR:=Cr (uo:=aa H + 2) (bo:=aa H + 3) (LV:=.sl 6 (L.map NdR.v) .dead) (nd:=nm) (at_:=d.p) (H:=H ++ K) m hsw hl hel hse (hsp _ _) (hgv _ _) (hgn _ _) (by rw[aR];rfl) (by rw[aR];rfl) hp
 obtain ⟨H',e2,h56,hu2,hl2,hff,hlen,h5⟩:=wt (fo:=aa H + 5) (bc:=aa H + 4) (no:=aa H + 1) (H:=H ++ K) (LV:=.nils) m (by rw[aR];rfl) (by rw[aR];rfl) (by rw[aR];rfl) (by omega) (by rw[hKl];omega) hR
 have hlo:∀ q,q < aa H→af H' q=af H q:=fun q hq=>by rw[h5 q (by omega) (by omega) (by omega),eh hq]
 have g0:af H' (aa H)=some cz0:=by rw[h5 _ (by omega) (by omega) (by omega),au];rfl
 refine aH (z:=z9) (m _ _ rfl) (by kernel_rfl) rfl ?_
 have e0:(envOf [.sl 6 (L.map NdR.v) .dead,.str nm] 0 env0).a.a.a=.sl 6 (L.map NdR.v) .dead:=rfl;have e1:(envOf [.sl 6 (L.map NdR.v) .dead,.str nm] 0 env0).a.a.b=.str nm:=rfl;generalize envOf [.sl 6 (L.map NdR.v) .dead,.str nm] 0 env0=R at e0 e1;have hF:=jB m hL hfd (q:=.dead) (H ++ [cz0]);have hl1:aa (H ++ [cz0])=aa H + 1:=by rw[az];rfl
 rw[hl1] at hF;have hn1:=gu d;have ho1:=ik d;have hb1:=fun L=>MU nm d.p L
 have hb2:=Ky (aa H + 2) L (H ++ [cz0,dk d,.cells (oT nm d.p 0 .nils)]).length (by rw[← aj,az];simp only[aO,bj];omega)
 have hm0:min (aa H) (aa H + 1)=aa H:=Nat.min_eq_left (by omega)
 have hm1:min (aa H) e2=aa H:=Nat.min_eq_left (by omega)
 have hnz:decide ((14:Int)=0)=false:=rfl;have hst:∀ b,eF 1 0 (aa H + 4) (.ptr (aa H + 3) 0) [.ptr (aa H + 3) 0] [.nilp] ⟨H ++ [cz0,dk d,.cells (oT nm d.p 0 .nils),.cells [.ptr (aa H + 2) 0,.sl 6 (L.map NdR.v) .dead],.cells [.nilp]],b⟩=some ⟨ai (H ++ [cz0,dk d,.cells (oT nm d.p 0 .nils),.cells [.ptr (aa H + 2) 0,.sl 6 (L.map NdR.v) .dead],.cells [.nilp]]) (aa H + 4) (.cells [.ptr (aa H + 3) 0]),b⟩:=fun b=>oJ (a:=aa H + 3) (r:=aa H + 4) (b:=b) (cs:=[.nilp]) (by rw[az];simp only[aO,bj];omega) (by omega) (by decide)
 have hz0:=aK g0 (m9 d.p);have h56' : orc CC M 21 [AV.ptr (aa H + 5) 0,AV.ptr (aa H + 4) 0,AV.ptr (aa H + 1) 0] (H ++ [cz0,dk d,.cells (oT nm d.p 0 .nils),.cells [.ptr (aa H + 2) 0,.sl 6 (L.map NdR.v) .dead],.cells [.ptr (aa H + 3) 0],cz0])=some (CRes.ret Abs.undef H' e2):=h56;have ht:bB (aa H) (ai H' (aa H) (m9 d.p))=H:=uf (by rw[ak];omega) (fun q hq=>by rw[ae (by omega),hlo q hq])
 have hgc:=iJ (k:=CC.keep 9) (b:=aa H) (v:=.tuple [.nilp,.agg [.int .i64 (d.p:Int),.int .i64 14]]) (hp:=ai H' (aa H) (m9 d.p)) rfl;rw[ht] at hgc;simp only[z9,NK,Oe,O0,Og,Nt,O9,OH,PK,SIM,ST0,ST1,ST2,ST3,e0,e1,hF,hm0,hl1,hn1,ho1,DZS,EXS,PH,hb1,LY,hb2,hst,EU,h56',hm1,g0,hz0,hff,hnz,hgc,a9,ba,List.append_assoc,List.cons_append,List.nil_append,Nat.reduceAdd,Nat.reduceLeDiff]
def jI (L:List NdR)(nm:List Nat):Bool:=match cD nm L with
 | none=>false
 | some d=>mA (fun _=>vz) (tD (fU L 60) L) (PA (fU L 60) (vw L 60) L) d ((List.range (cI d.ins)).map ph) ((List.range (cF d.ins)).map y8) ⟨cI d.ins,[],0,[],[],0⟩
theorem DM (m:eu M){L:List NdR}(hL:L.length≤90000)(hK:∀ d ∈ L,NdK d){nm:List Nat}{d:NdR}(hfd:cD nm L=some d)(hp:jI L nm=true)(H:Heap) :
  orc CC M 9 [.sl 6 (L.map NdR.v) .dead,.str nm] H=some (.ret (.tuple [.nilp,.agg [.int .i64 (d.p:Int),.int .i64 14]]) H (aa H)):=by
 unfold jI at hp;rw[hfd] at hp;have hk:=hK d (dV hfd);exact A5 (sp:=fun _=>vz) (gv:=tD (fU L 60) L) m hL hfd (fun vm q fm p fm' p' h=>(uP h).1) hk.al hk.el (fun q hq=>(hk.eq q hq).1) (fun uo bo H ns0 vm q _ _=>ku m (.inl rfl) q) (fun uo bo H ns0 vm fm q hq=>re m hL rfl hK (eJ L 60) (nt m hL rfl hK 60) hk (.inl rfl) hq) (fun uo bo H ns0 vm fm q hq=>Eb m hL rfl hK (eJ L 60) (nt m hL rfl hK 60) (Gg m hL rfl hK 60) hk (.inl rfl) hq) hp H
end
end Go.Proofs
