/- the texts as units, workers, edges. Part of the proof of girandolelaw13.BalanceRings. -/
import Derived.Test.YtglacbfdbfhmfaaGreatDoorRtN
set_option linter.unusedVariables false
set_option linter.unusedSimpArgs false
set_option maxRecDepth 1000000
namespace Go.Proofs
open Go Go.Abs
theorem kq {gv gv' : EqR->PS->Option PS}:∀ (l:List EqR) (p:PS),(∀ q∈l,∀ p,gv q p=gv' q p)->fw gv l p=fw gv' l p
 | [],p,h=>rfl
 | q::l,p,h=>by
   simp only[fw];rw[h q (List.mem_cons_self ..)];cases gv' q p with
   | none=>rfl
   | some p1=>exact kq l p1 (λq hq=>h q (List.mem_cons_of_mem _ hq))
theorem sC {sp:List (List Nat×Nat)->EqR->FmS->PS->Option (FmS×PS)}{gv gv' : List (List Nat×Nat)->FmS->EqR->PS->Option PS}{d:NdR}(h:∀ vm fm,∀ q∈d.eqs,∀ p,gv vm fm q p=gv' vm fm q p)(xs:List AtF)(fs:List (Int×Int))(p:PS):js sp gv d xs fs p=js sp gv' d xs fs p:=by
 unfold js;cases placesP (allL d) [] p with
 | none=>rfl
 | some a =>
   obtain ⟨vm,p1⟩:=a;simp only[];cases o5 vm d.ins xs fs [] p1 with
   | none=>rfl
   | some b =>
     obtain ⟨fm,p2⟩:=b;simp only[];cases sizeP d.eqs p2 with
     | none=>rfl
     | some p3 =>
       simp only[];cases eF (sp vm) d.eqs fm p3 with
       | none=>rfl
       | some c =>
         obtain ⟨fm',p4⟩:=c;simp only[];rw[kq d.eqs p4 (λq hq p=>h vm fm' q hq p)]
namespace Rg
def rnE:Ex->Ex
 | .mk k p n _ b kids=>.mk k p n (gn 0) b kids
def rn (q:EqR):EqR:=cond q.a ⟨q.l,q.a,rnE q.e⟩ q
theorem Y1 (L:List NdR)(vm:List (List Nat×Nat))(fm:FmS)(l:List (List Nat×Nat))(e:Ex)(p:PS):JY L vm fm ⟨l,true,e⟩ p=l9 (dI vm (nJ fm) 60) fm L ⟨l,true,e⟩ p:=rfl
theorem YQ (n:Nat)(ks:Nat->Nat)(f:Ex->PS->Option (AtF×PS))(fm:FmS)(l:List (List Nat×Nat))(a:Nat)(kid:Ex)(p:PS):∀ k,k<4->l9 f fm (bZ n ks) ⟨l,true,.mk 13 a 0 (gn k) false [kid]⟩ p=l9 f fm (bZ n ks) ⟨l,true,.mk 13 a 0 (gn 0) false [kid]⟩ p
 | 0,_=>rfl
 | 1,_=>by kernel_rfl
 | 2,_=>by kernel_rfl
 | 3,_=>by kernel_rfl
 | n+4,h=>absurd h (by omega)
theorem te (n:Nat){ks:Nat->Nat}(hk:∀ i,ks i<4):mh (bZ n ks) [102]=js (λ_=>M7) (λvm fm q p=>JY (bZ n ks) vm fm (rn q) p) (de n ks) [] [] ⟨0,[],0,[],[],0⟩:=by
 have e:mh (bZ n ks) [102]=js (λ_=>M7) (JY (bZ n ks)) (de n ks) [] [] ⟨0,[],0,[],[],0⟩:=rfl
 rw[e];refine sC (λvm fm q hq p=>?_) _ _ _
 simp only[de,List.mem_map] at hq;obtain ⟨i,_,rfl⟩:=hq;unfold qF;cases Nat.beq i n with
 | false =>
   simp only[cond_false];unfold eQ;rw[Y1];exact YQ n ks _ fm _ _ _ p _ (hk i)
 | true=>rfl
def Ps (k:Nat):List Int:=match k with
 | 0=>[]
 | 1=>[1]
 | 2=>[1,2]
 | _=>[1,2,3]
def pF (sp:List SQ)(z:Nat):PS:=⟨1,[⟨[99,111,112,121],0,[⟨true,0,0⟩]⟩],0,[],sp,z⟩
def pG (ah:List Int)(a:Int):PS:=⟨3,[⟨[43],2,[⟨false,0,1⟩,⟨true,1,0⟩]⟩,⟨[99,111,112,121],0,[⟨false,0,2⟩]⟩],0,[⟨1,-1,0,ah,a⟩],[],3+ah.length⟩
theorem dO {L:List NdR}{nm:List Nat}{v:Nat}{l:List Nat}{p:PS}(h:mh L nm=some (v::l,p))(hg:pg 200 p=true):cN 200 L nm=some (v::l,p):=by
 unfold cN;rw[h];simp only[hg,cond_true]
def sQ (n:Nat)(ks:Nat->Nat)(i:Nat):SQ:=⟨gn (ks i),[],[((((i+n-1) % n:Nat):Int),0)],((45+16*n+19*i:Nat):Int)⟩
def G7 (n:Nat)(ks:Nat->Nat):List SQ:=(List.range n).map (sQ n ks)
theorem Y5 (n:Nat)(ks:Nat->Nat):∀ k,k<4->∃ a,cN 200 (bZ n ks) (gn k)=some ([0],pG (Ps k) a)
 | 0,_=>⟨((35*n+44+1+48:Nat):Int),dO (by kernel_rfl) (by kernel_rfl)⟩
 | 1,_=>⟨((35*n+44+66+48:Nat):Int),dO (by kernel_rfl) (by kernel_rfl)⟩
 | 2,_=>⟨((35*n+44+141+48:Nat):Int),dO (by kernel_rfl) (by kernel_rfl)⟩
 | 3,_=>⟨((35*n+44+219+48:Nat):Int),dO (by kernel_rfl) (by kernel_rfl)⟩
 | n+4,h=>absurd h (by omega)
theorem YT (ks:Nat->Nat)(hk:∀ i,ks i<4):cN 200 (bZ 1 ks) [102]=some ([0],pF (G7 1 ks) 3):=dO ((te 1 hk).trans (by kernel_rfl)) (by kernel_rfl)
theorem YF (ks:Nat->Nat)(hk:∀ i,ks i<4):cN 200 (bZ 2 ks) [102]=some ([0],pF (G7 2 ks) 5):=dO ((te 2 hk).trans (by kernel_rfl)) (by kernel_rfl)
theorem Y2 (ks:Nat->Nat)(hk:∀ i,ks i<4):cN 200 (bZ 3 ks) [102]=some ([0],pF (G7 3 ks) 7):=dO ((te 3 hk).trans (by kernel_rfl)) (by kernel_rfl)
theorem YM (ks:Nat->Nat)(hk:∀ i,ks i<4):cN 200 (bZ 4 ks) [102]=some ([0],pF (G7 4 ks) 9):=dO ((te 4 hk).trans (by kernel_rfl)) (by kernel_rfl)
theorem YZ (ks:Nat->Nat)(hk:∀ i,ks i<4):cN 200 (bZ 5 ks) [102]=some ([0],pF (G7 5 ks) 11):=dO ((te 5 hk).trans (by kernel_rfl)) (by kernel_rfl)
theorem YN (ks:Nat->Nat)(hk:∀ i,ks i<4):cN 200 (bZ 6 ks) [102]=some ([0],pF (G7 6 ks) 13):=dO ((te 6 hk).trans (by kernel_rfl)) (by kernel_rfl)
theorem YL (ks:Nat->Nat)(hk:∀ i,ks i<4):cN 200 (bZ 7 ks) [102]=some ([0],pF (G7 7 ks) 15):=dO ((te 7 hk).trans (by kernel_rfl)) (by kernel_rfl)
theorem YS (ks:Nat->Nat)(hk:∀ i,ks i<4):cN 200 (bZ 8 ks) [102]=some ([0],pF (G7 8 ks) 17):=dO ((te 8 hk).trans (by kernel_rfl)) (by kernel_rfl)
end Rg
namespace Rg
theorem IV {x:List Nat}{a b:List (List Nat)}(h:fJ x a=true):fJ x (a++b)=true:=by
 unfold fJ at *;rw[List.any_append,h,Bool.true_or]
theorem zh {x:List Nat}{a:List (List Nat)}(h:x∈a):fJ x a=true:=by
 unfold fJ;rw[List.any_eq_true];exact ⟨x,h,by rw[eA];simp⟩
structure Un4 (L:List NdR):Prop where
 g:∀ k,k<4->∃ a,cN 200 L (gn k)=some ([0],pG (Ps k) a)
theorem AE {L:List NdR}(U:Un4 L)(m:Nat):∀ (l:List SQ),(∀ s∈l,∃ k,k<4/\s.nd=gn k)->∀ ns,∃ ns',ku (addM 200 L (m+1)) l ns=some ns'/\(∀ x,fJ x ns=true->fJ x ns'=true)/\(∀ s∈l,fJ s.nd ns'=true)
 | [],h,ns=>⟨ns,rfl,λ_ h=>h,λs hs=>by cases hs⟩
 | s::l,h,ns=>by
   obtain ⟨k,hk,hs⟩:=h s (List.mem_cons_self ..);obtain ⟨a,hu⟩:=U.g k hk;have hl:=AE U m l (λs hs=>h s (List.mem_cons_of_mem _ hs))
   have hone:∃ n1,addM 200 L (m+1) s.nd ns=some n1/\(∀ x,fJ x ns=true->fJ x n1=true)/\fJ s.nd n1=true:=by
    simp only[addM];cases hm:fJ s.nd ns with
    | true=>exact ⟨ns,rfl,λ_ h=>h,hm⟩
    | false =>
      rw[hs] at *;rw[hu];exact ⟨ns++[gn k],rfl,λ_ h=>IV h,zh (List.mem_append_right _ (List.mem_singleton.2 rfl))⟩
   obtain ⟨n1,h1,h2,h3⟩:=hone;obtain ⟨ns',h4,h5,h6⟩:=hl n1;refine ⟨ns',?_,λx hx=>h5 x (h2 x hx),λt ht=>?_⟩
   ·simp only[ku,h1];exact h4
   ·rcases List.mem_cons.1 ht with rfl|ht
    ·exact h5 _ h3
    ·exact h6 t ht
theorem sK (ns:List (List Nat))(i first:Nat)(fut:List Nat)(hf:first<=1000):∀ (l:List SQ) (k:Nat) (ws:List WkN) (es:List EgN),(∀ s∈l,fJ s.nd ns=true/\s.args=[]/\∃ p:Nat,p<=100/\s.futs=[((p:Int),0)]) ->
  BU ns i first fut l k ws es=some (ws++l.map (λs=>⟨s.nd,s.futs.map (λo=>first+o.1.toNat),0⟩),es)
 | [],k,ws,es,h=>by simp[BU]
 | s::l,k,ws,es,h=>by
   obtain ⟨h1,h2,p,hp,h3⟩:=h s (List.mem_cons_self ..)
   have ho:kC first fut s.futs=some [first+p]:=by
    rw[h3];have h0:decide ((p:Int)<0)=false:=by simp
    have hb:Nat.ble (first+p) 100000=true:=Nat.ble_eq_true_of_le (by omega)
    simp only[kC,jr,h0,cond_false,Int.toNat_natCast,hb,cond_true]
   simp only[BU,h1,cond_true,ho,h2,sW];rw[sK ns i first fut hf l (k+1) _ es (λs hs=>h s (List.mem_cons_of_mem _ hs))]
   rw[List.map_cons,h3];simp
abbrev nf (w:WkN):List Nat×List Nat:=(w.nm,w.fut)
theorem PC {ws:List WkN}{i f:Nat}{w:WkN}(h:ws[i]?=some w)(j:Nat):((ws.set i { w with first:=f })[j]?).map nf=(ws[j]?).map nf:=by
 by_cases hj:i=j
 ·subst hj
  have hlt:i<ws.length:=by
   rcases Nat.lt_or_ge i ws.length with h'|h'
   ·exact h'
   ·rw[List.getElem?_eq_none h'] at h;cases h
  rw[List.getElem?_set_self hlt,h];rfl
 ·rw[List.getElem?_set_ne hj]
theorem oH {L:List NdR}(U:Un4 L)(ns:List (List Nat)){N:Nat}(hN:N<=30){es:List EgN}(hes:es.length<=90000):∀ (r i fuel:Nat) (ws:List WkN),ws.length=N->i+r=N->r<fuel->(∀ j,i<=j->j<N->∃ k w,k<4/\ws[j]?=some w/\w.nm=gn k)->(∀ w∈ws,w.first<=100) ->
  ∃ ws',gG 200 L ns fuel i ws es=some (ws',es)/\ws'.length=N/\(∀ j:Nat,(ws'[j]?).map nf=(ws[j]?).map nf)/\(∀ w∈ws',w.first<=100)
 | 0,i,fuel,ws,hl,hi,hf,hw,h1=>by
   obtain ⟨f',rfl⟩ : ∃ f,fuel=f+1:=⟨fuel-1,by omega⟩
   refine ⟨ws,?_,hl,λ_=>rfl,h1⟩
   simp only[gG];rw[List.getElem?_eq_none (by omega)]
 | r+1,i,fuel,ws,hl,hi,hf,hw,h1=>by
   obtain ⟨f',rfl⟩ : ∃ f,fuel=f+1:=⟨fuel-1,by omega⟩
   obtain ⟨k,w,hk,hwi,hnm⟩:=hw i (Nat.le_refl _) (by omega)
   obtain ⟨a,hu⟩:=U.g k hk;have hset:=PC (f:=ws.length) hwi
   obtain ⟨ws',e1,e2,e3,e4⟩:=oH U ns hN hes r (i+1) f' (ws.set i { w with first:=ws.length }) (by rw[List.length_set];exact hl) (by omega) (by omega) (λj hj hj2=>by
    obtain ⟨k',w',h2,h3,h4⟩:=hw j (by omega) hj2
    exact ⟨k',w',h2,by rw[List.getElem?_set_ne (by omega)];exact h3,h4⟩) (λx hx=>by
    rcases List.mem_or_eq_of_mem_set hx with h|h
    ·exact h1 x h
    ·rw[h];show ws.length<=100;omega)
   refine ⟨ws',?_,e2,λj=>by rw[e3 j,hset j],e4⟩
   simp only[gG,hwi,hnm,hu,pG,BU,List.length_set]
   have hb:(Nat.ble ws.length 30&&Nat.ble es.length 90000)=true:=by
    rw[Nat.ble_eq_true_of_le (by omega:ws.length<=30),Nat.ble_eq_true_of_le hes];rfl
   rw[hb,cond_true,<-hnm];exact e1
theorem nu {L:List NdR}(U:Un4 L){ws:List WkN}{ks:Nat->Nat}{pr:Nat->Nat}(hf:∀ w∈ws,w.first<=100):∀ (l:List WkN) (i:Nat) (es:List EgN),i+l.length=ws.length->es.length+l.length<=1000->1<=i->(∀ j (w:WkN),l[j]?=some w->∃ k,k<4/\ks (i+j)=k/\w.nm=gn k/\w.fut=[pr (i+j)]/\w.first<=100/\∃ k',k'<4/\(ws[pr (i+j)]?).map (λw=>w.nm)=some (gn k')) ->
  ∃ es',gR 200 L ws l i es=some es'/\es'=es++(List.range l.length).map (λj=>⟨pr (i+j),i+j,false,⟨false,0,0⟩,0,Ps (ks (i+j))⟩)
 | [],i,es,hl,he,h1,h=>⟨es,rfl,by simp⟩
 | w::l,i,es,hl,he,h1,h=>by
   obtain ⟨k,hk,hks,hnm,hfut,hfi,k',hk',hp⟩:=h 0 w rfl;rw[Nat.add_zero] at hks hfut hp;obtain ⟨a,hu⟩:=U.g k hk;obtain ⟨a',hu'⟩:=U.g k' hk'
   have hwp:∃ x,ws[pr i]?=some x/\x.nm=gn k':=by
    cases hx:ws[pr i]? with
    | none=>rw[hx] at hp;cases hp
    | some x=>rw[hx] at hp;exact ⟨x,rfl,by simpa using hp⟩
   obtain ⟨x,hx,hxn⟩:=hwp;have ho:jr w.first w.fut (-1,0)=some (pr i):=by rw[hfut];rfl
   obtain ⟨es',e1,e2⟩:=nu U hf l (i+1) (es++[⟨pr i,i,false,⟨false,0,0⟩,0,Ps k⟩]) (by simp only[List.length_cons] at hl;omega) (by simp only[List.length_append,List.length_cons,List.length_nil] at he ⊢;omega) (by omega) (λj y hy=>by
    have:=h (j+1) y (by simpa using hy)
    rw[show i+(j+1)=i+1+j by omega] at this
    exact this)
   refine ⟨es',?_,?_⟩
   ·simp only[gR,hnm,hu,pG,SP,ho,hx,hxn,hu']
    have hb:(Nat.ble (es++[(⟨pr i,i,false,⟨false,0,0⟩,0,Ps k⟩ : EgN)]).length 90000&&Nat.ble w.first 100000)=true:=by
     simp only[List.length_append,List.length_cons,List.length_nil] at he ⊢;rw[Nat.ble_eq_true_of_le (by omega),Nat.ble_eq_true_of_le (by omega)];rfl
    rw[hb,cond_true];exact e1
   ·rw[e2,List.length_cons,List.range_succ_eq_map,List.map_cons,List.map_map,List.append_assoc];simp only[List.singleton_append,Nat.add_zero,hks]
    congr 2
    apply List.map_congr_left;intro j _;simp only[Function.comp,show i+1+j=i+(j+1) by omega]
end Rg
namespace Rg
def iG (n:Nat)(ks:Nat->Nat):List EgN:=(List.range n).map λj=>⟨1+(j+n-1) % n,j+1,false,⟨false,0,0⟩,0,Ps (ks j)⟩
theorem xv {L:List NdR}{d:NdR}{L' : List NdR}(hL:L=d::L')(hds:d.s=[102])(U:Un4 L){n:Nat}(h0:0<n)(hn:n<=8){ks:Nat->Nat}(hk:∀ i,ks i<4){sp:List SQ}{z:Nat}(hu:cN 200 L [102]=some ([0],pF sp z))(hsl:sp.length=n)(hsp:∀ (i:Nat) (s:SQ),sp[i]?=some s->s.nd=gn (ks i)/\s.args=[]/\s.futs=[((((i+n-1) % n:Nat):Int),0)]) :
  ∃ wn,jB 200 3 L=some (wn,iG n ks)/\wn.length=n+1:=by
 have hmem:∀ s∈sp,∃ i,i<n/\sp[i]?=some s:=λs hs=>by
  obtain ⟨i,hi⟩:=List.mem_iff_getElem?.1 hs;refine ⟨i,?_,hi⟩
  rcases Nat.lt_or_ge i sp.length with h|h
  ·omega
  ·rw[List.getElem?_eq_none h] at hi;cases hi
 obtain ⟨ns,a1,a2,a3⟩:=AE U 1 sp (λs hs=>by
  obtain ⟨i,_,hi⟩:=hmem s hs;exact ⟨ks i,hk i,(hsp i s hi).1⟩) [[102]]
 have hadd:addM 200 L 3 [102] []=some ns:=by
  simp only[addM];rw[hu];exact a1
 have hm0:fJ [102] ns=true:=a2 _ (zh (List.mem_singleton.2 rfl))
 let w0:WkN:=⟨[102],[],1⟩
 have hspn:=sK ns 0 1 [] (by omega) sp 0 [w0] [] (λs hs=>by
  obtain ⟨i,hi,hg⟩:=hmem s hs;obtain ⟨h1,h2,h3⟩:=hsp i s hg;exact ⟨a3 s hs,h2,(i+n-1) % n,by have:=Nat.mod_lt (i+n-1) h0;omega,h3⟩)
 let ws1:List WkN:=[w0]++sp.map (λs=>⟨s.nd,s.futs.map (λo=>1+o.1.toNat),0⟩)
 have hl1:ws1.length=n+1:=by simp only[ws1,List.length_append,List.length_map,hsl,List.length_cons,List.length_nil];omega
 have hat:∀ j,j<n->∃ w,ws1[j+1]?=some w/\w.nm=gn (ks j)/\w.fut=[1+(j+n-1) % n]:=λj hj=>by
  have hs:sp[j]?=some (sp[j]'(by omega)):=by simp
  obtain ⟨h1,_,h3⟩:=hsp j _ hs;refine ⟨⟨(sp[j]'(by omega)).nd,(sp[j]'(by omega)).futs.map (λo=>1+o.1.toNat),0⟩,?_,h1,by rw[h3];rfl⟩
  show ([w0]++sp.map _)[j+1]?=_;rw[List.singleton_append,List.getElem?_cons_succ,List.getElem?_map,hs];rfl
 obtain ⟨ws2,e1,e2,e3,e4⟩:=oH U ns (N:=n+1) (by omega) (es:=[]) (by simp) n 1 39 ws1 hl1 (by omega) (by omega) (λj hj hj2=>by
  obtain ⟨w,h1,h2,_⟩:=hat (j-1) (by omega)
  rw[show j-1+1=j by omega] at h1
  exact ⟨ks (j-1),w,hk _,h1,h2⟩) (λw hw=>by
  rcases List.mem_append.1 hw with h|h
  ·simp only[List.mem_singleton] at h;rw[h];show 1<=100;omega
  ·obtain ⟨s,_,rfl⟩:=List.mem_map.1 h;show 0<=100;omega)
 have hsp1:gG 200 L ns 40 0 [⟨[102],[],0⟩] []=some (ws2,[]):=by
  have hst:BU ns 0 1 [] sp 0 [w0] []=some (ws1,[]):=hspn;simp only[gG,List.getElem?_cons_zero,hu,pF,List.length_cons,List.length_nil,Nat.zero_add,List.set_cons_zero];rw[hst];simp only[]
  have hb:(Nat.ble ws1.length 30&&Nat.ble ([]:List EgN).length 90000)=true:=by
   rw[Nat.ble_eq_true_of_le (by omega)];rfl
  rw[hb,cond_true];exact e1
 have hat2:∀ j,j<n->∃ w,ws2[j+1]?=some w/\w.nm=gn (ks j)/\w.fut=[1+(j+n-1) % n]:=λj hj=>by
  obtain ⟨w,h1,h2,h3⟩:=hat j hj;have:=e3 (j+1);rw[h1] at this;cases hw:ws2[j+1]? with
  | none=>rw[hw] at this;cases this
  | some x =>
    rw[hw] at this;simp only[Option.map_some,SJ,nf,PJ] at this;exact ⟨x,rfl,by rw[this.1,h2],by rw[this.2,h3]⟩
 cases hws:ws2 with
 | nil=>rw[hws] at e2;cases e2
 | cons x rest =>
   have hx:x.nm=[102]:=by
    have:=e3 0;rw[hws] at this;simp only[List.getElem?_cons_zero,Option.map_some,nf] at this;have h2:(ws1[0]?).map nf=some ([102],[]):=rfl;rw[h2] at this;simp only[SJ,PJ] at this;exact this.1
   have hrl:rest.length=n:=by rw[hws] at e2;simpa using e2
   obtain ⟨es',k1,k2⟩:=nu U (ws:=ws2) (ks:=λi=>ks (i-1)) (pr:=λi=>1+(i-1+n-1) % n) e4 rest 1 [] (by rw[hrl,e2];omega) (by simp[hrl];omega) (by omega) (λj w hw=>by
    have hj:j<n:=by
     rcases Nat.lt_or_ge j rest.length with h|h
     ·omega
     ·rw[List.getElem?_eq_none h] at hw;cases hw
    obtain ⟨y,h1,h2,h3⟩:=hat2 j hj;rw[hws,List.getElem?_cons_succ,hw] at h1;simp only[SJ] at h1;subst h1;have hp:=Nat.mod_lt (j+n-1) h0;obtain ⟨y',h1',h2',h3'⟩:=hat2 ((j+n-1) % n) hp;refine ⟨ks j,hk j,by show ks (1+j-1)=_;congr 1;omega,h2,by rw[h3];show [_]=[1+(1+j-1+n-1) % n];congr 3;omega,e4 w (by rw[hws];exact List.mem_cons_of_mem _ (List.mem_of_getElem? hw)),ks ((j+n-1) % n),hk _,?_⟩
    show (ws2[1+(1+j-1+n-1) % n]?).map _=_;rw[show 1+(1+j-1+n-1) % n=(j+n-1) % n+1 by rw[show 1+j-1=j by omega];omega,h1']
    simp[h2'])
   refine ⟨ws2,?_,e2⟩
   have hwa:gR 200 L ws2 ws2 0 []=some (iG n ks):=by
    rw[hws] at k1 ⊢
    have hb:(Nat.ble ([]:List EgN).length 90000&&Nat.ble x.first 100000)=true:=by
     have:=e4 x (by rw[hws];exact List.mem_cons_self ..)
     rw[Nat.ble_eq_true_of_le (by omega:x.first<=100000)];rfl
    simp only[gR,hx,hu,pF,SP];rw[hb,cond_true,k1,k2,List.nil_append,hrl]
    congr 1
    unfold iG;apply List.map_congr_left;intro j _;simp only[show 1+j=j+1 by omega,Nat.add_sub_cancel]
   unfold jB;rw[hL];simp only[];rw[<-hL,hds,hadd];simp only[hm0,cond_true];rw[hsp1];simp only[];rw[hwa]
end Rg
def Xt (a b:EgN):Prop:=a.fr=b.fr/\a.to=b.to/\tC a=tC b
theorem lfA_c:∀ (a b:List EgN),a.length=b.length->(∀ (i:Nat) x y,a[i]?=some x->b[i]?=some y->Xt x y)->∀ L,lfA a L=lfA b L
 | [],[],_,_,L=>rfl
 | [],_::_,h,_,_=>by cases h
 | _::_,[],h,_,_=>by cases h
 | x::a,y::b,hl,h,L=>by
   obtain ⟨h1,h2,h3⟩:=h 0 x y rfl rfl;have ih:=lfA_c a b (by simpa using hl) (λi u v hu hv=>h (i+1) u v (by simpa using hu) (by simpa using hv))
   simp only[lfA,h2,h3];cases tC y with
   | false=>exact ih L
   | true =>
     simp only[cond_true];cases ae L y.to with
     | none=>rfl
     | some k=>simp only[];rw[ih]
theorem EB (w:Nat):∀ (a b:List EgN),a.length=b.length->(∀ (i:Nat) x y,a[i]?=some x->b[i]?=some y->Xt x y)->∀ L R,lE w a L R=lE w b L R
 | [],[],_,_,L,R=>rfl
 | [],_::_,h,_,_,_=>by cases h
 | _::_,[],h,_,_,_=>by cases h
 | x::a,y::b,hl,h,L,R=>by
   obtain ⟨h1,h2,h3⟩:=h 0 x y rfl rfl;have ih:=EB w a b (by simpa using hl) (λi u v hu hv=>h (i+1) u v (by simpa using hu) (by simpa using hv))
   simp only[lE,h1,h2,h3];cases (Nat.beq y.fr w&&tC y) with
   | false=>exact ih L R
   | true =>
     simp only[cond_true];cases ae L y.to with
     | none=>rfl
     | some k=>simp only[];rw[ih]
theorem xX {a b:List EgN}(hl:a.length=b.length)(h:∀ (i:Nat) x y,a[i]?=some x->b[i]?=some y->Xt x y):∀ (k:Nat) (L R:List Nat) (n:Nat),lU a k L R n=lU b k L R n
 | 0,L,R,n=>rfl
 | k+1,L,R,n=>by
   simp only[lU];cases R with
   | nil=>rfl
   | cons w r =>
     simp only[];rw[EB w a b hl h];cases lE w b L r with
     | none=>rfl
     | some x=>obtain ⟨L',r'⟩:=x;exact xX hl h k L' r' (n+1)
theorem E9 {a b:List EgN}(hl:a.length=b.length)(h:∀ (i:Nat) x y,a[i]?=some x->b[i]?=some y->Xt x y)(k n:Nat):eU k n a=eU k n b:=by
 unfold eU;rw[lfA_c a b hl h];cases lfA b (List.replicate n 0) with
 | none=>rfl
 | some L=>simp only[];rw[xX hl h]
namespace Rg
def qZ (n:Nat)(z:List Bool):List EgN:=(List.range n).map λj=>⟨1+(j+n-1) % n,j+1,false,⟨false,0,0⟩,0,cond (z.getD j true) [] [1]⟩
def allL:Nat->(List Bool->Bool)->Bool
 | 0,f=>f []
 | n+1,f=>allL n (λl=>f (true::l))&&allL n (λl=>f (false::l))
theorem allL_ok:∀ (n:Nat) (f:List Bool->Bool),allL n f=true->∀ z:List Bool,z.length=n->f z=true
 | 0,f,h,z,hz=>by
   rw[List.eq_nil_of_length_eq_zero hz];exact h
 | n+1,f,h,[],hz=>by cases hz
 | n+1,f,h,b::z,hz=>by
   simp only[allL,Bool.and_eq_true] at h;cases b with
   | true=>exact allL_ok n _ h.1 z (by simpa using hz)
   | false=>exact allL_ok n _ h.2 z (by simpa using hz)
def QP (a b:Bool):Bool:=cond a b (!b)
noncomputable def IG (n:Nat)(z:List Bool):Bool:=match eU 100 (n+1) (qZ n z) with
 | some b=>QP b (z.all id)
 | none=>false
theorem okC1:allL 1 (IG 1)=true:=by kernel_rfl
theorem okC2:allL 2 (IG 2)=true:=by kernel_rfl
theorem okC3:allL 3 (IG 3)=true:=by kernel_rfl
theorem okC4:allL 4 (IG 4)=true:=by kernel_rfl
theorem okC5:allL 5 (IG 5)=true:=by kernel_rfl
theorem okC6:allL 6 (IG 6)=true:=by kernel_rfl
theorem okC7:allL 7 (IG 7)=true:=by kernel_rfl
theorem okC8:allL 8 (IG 8)=true:=by kernel_rfl
theorem okC_all:∀ n,0<n->n<=8->allL n (IG n)=true
 | 0,h,_=>absurd h (by omega)
 | 1,_,_=>okC1
 | 2,_,_=>okC2
 | 3,_,_=>okC3
 | 4,_,_=>okC4
 | 5,_,_=>okC5
 | 6,_,_=>okC6
 | 7,_,_=>okC7
 | 8,_,_=>okC8
 | n+9,_,h=>absurd h (by omega)
end Rg
namespace Rg
def zero (n:Nat)(ks:Nat->Nat):Bool:=(List.range n).all λj=>Nat.beq (ks j) 0
theorem vn {n:Nat}(h0:0<n)(hn:n<=8)(ks:Nat->Nat):eU 100 (n+1) (iG n ks)=some (zero n ks):=by
 let z:List Bool:=(List.range n).map λj=>Nat.beq (ks j) 0
 have hz:z.length=n:=by simp[z]
 have h:=allL_ok n _ (okC_all n h0 hn) z hz
 have hc:eU 100 (n+1) (iG n ks)=eU 100 (n+1) (qZ n z):=by
  refine E9 (by simp[iG,qZ]) (λi x y hx hy=>?_) _ _
  have hi:i<n:=by
   rcases Nat.lt_or_ge i n with h|h
   ·exact h
   ·rw[List.getElem?_eq_none (by simp[iG];exact h)] at hx;cases hx
  simp only[iG,List.getElem?_map,List.getElem?_range hi,Option.map_some,SJ] at hx;simp only[qZ,List.getElem?_map,List.getElem?_range hi,Option.map_some,SJ] at hy;subst hx;subst hy;refine ⟨rfl,rfl,?_⟩
  have hg:z.getD i true=Nat.beq (ks i) 0:=by
   simp[z,List.getD,hi]
  rw[hg];show tC ⟨_,_,_,_,_,Ps (ks i)⟩=tC ⟨_,_,_,_,_,cond (Nat.beq (ks i) 0) [] [1]⟩
  match ks i with
  | 0=>rfl
  | 1=>rfl
  | 2=>rfl
  | k+3=>rfl
 rw[hc];unfold IG at h
 split at h
 ·rename_i b hb;rw[hb]
  have:zero n ks=z.all id:=by
   simp[zero,z,List.all_map,Function.comp_def]
  rw[this]
  congr 1
  cases b<;>cases hh:z.all id<;>rw[hh] at h<;>first|rfl|cases h
 ·cases h
end Rg
def HI (d:NdR):Bool:=Nat.ble (allL d).length 90000&&Nat.ble d.eqs.length 90000&&!Nat.beq d.eqs.length 0&&(allL d).all (λx=>x.c.isEmpty)&&d.eqs.all (λq=>Nat.blt (sizeE q.e) 90000&&Nat.ble q.l.length 90000)
theorem Qr {d:NdR}(h:HI d=true):NdK d:=by
 unfold HI at h;simp only[Bool.and_eq_true,Bool.not_eq_true',List.all_eq_true] at h;obtain ⟨⟨⟨⟨h1,h2⟩,h3⟩,h4⟩,h5⟩:=h;refine ⟨by simpa using h1,by simpa using h2,λh=>?_,λx hx=>by simpa using h4 x hx,λq hq=>?_⟩
 ·rw[h] at h3;cases h3
 ·have:=h5 q hq;simpa using this
theorem x4 {L:List NdR}(h:L.all HI=true):∀ d∈L,NdK d:=λd hd=>Qr (List.all_eq_true.1 h d hd)
namespace Rg
structure Ring (n:Nat)(ks:Nat->Nat)(L:List NdR):Prop where
 p:Pk (dZ n ks) L
 l:L.length<=90000
 k:∀ x∈L,NdK x
 s:∃ wn,jB 200 3 L=some (wn,iG n ks)/\wn.length=n+1
 h:∃ d L',L=d::L'/\d.p=5
theorem Fu {M:Memo}(m:SpM M)(h12:∀ a,M 12 a=none)(h20:∀ a,M 20 a=none)(h26:∀ a,M 26 a=none){n:Nat}(h0:0<n)(hn:n<=8){ks:Nat->Nat}{L:List NdR}(R:Ring n ks L)(h14:M 14 [.str (dZ n ks)]=some (pV L))(H:Heap) :
  orc CC M 12 [.str (dZ n ks)] H=some (.ret (cond (zero n ks) (.agg [.int .i64 5,.int .i64 13]) (.agg [.int .i64 0,.int .i64 0])) H (aa H)):=by
 obtain ⟨d,L',rfl,hd⟩:=R.h;obtain ⟨wn,hs,hwn⟩:=R.s;have hc:=vn h0 hn ks;rw[<-hwn] at hc;have:=Iq m h12 h20 h26 h14 (kf:=200) (k:=100) (by omega) (by omega) R.l R.k hs hc (by omega) (by simp[iG];omega) H
 rw[hd] at this;exact this
theorem fT {n:Nat}(h0:0<n)(hn:n<=8)(ks:Nat->Nat)(hk:∀ i,ks i<4)(hp:Pk (dZ n ks) (bZ n ks))(hu:cN 200 (bZ n ks) [102]=some ([0],pF (G7 n ks) (2*n+1)))(hd:(bZ n ks).all HI=true):Ring n ks (bZ n ks):=by
 refine ⟨hp,(show 5<=90000 by omega),x4 hd,xv (L:=bZ n ks) rfl rfl ⟨Y5 n ks⟩ h0 hn hk hu (by simp[G7]) (λi s hs=>?_),_,_,rfl,rfl⟩
 rw[G7,List.getElem?_map] at hs;obtain ⟨j,hj,rfl⟩:=Option.map_eq_some_iff.1 hs
 have:i=j:=by
  rw[List.getElem?_eq_some_iff] at hj;obtain ⟨_,h⟩:=hj;simpa using h
 subst this;exact ⟨rfl,rfl,rfl⟩
theorem ring_all:∀ n,0<n->n<=8->∀ (ks:Nat->Nat),(∀ i,ks i<4)->Ring n ks (bZ n ks)
 | 0,h,_=>absurd h (by omega)
 | 1,h0,hn=>λks hk=>fT h0 hn ks hk (Rn ks hk) (YT ks hk) (by kernel_rfl)
 | 2,h0,hn=>λks hk=>fT h0 hn ks hk (Tp ks hk) (YF ks hk) (by kernel_rfl)
 | 3,h0,hn=>λks hk=>fT h0 hn ks hk (Ss ks hk) (Y2 ks hk) (by kernel_rfl)
 | 4,h0,hn=>λks hk=>fT h0 hn ks hk (Po ks hk) (YM ks hk) (by kernel_rfl)
 | 5,h0,hn=>λks hk=>fT h0 hn ks hk (Ri ks hk) (YZ ks hk) (by kernel_rfl)
 | 6,h0,hn=>λks hk=>fT h0 hn ks hk (Sj ks hk) (YN ks hk) (by kernel_rfl)
 | 7,h0,hn=>λks hk=>fT h0 hn ks hk (QL ks hk) (YL ks hk) (by kernel_rfl)
 | 8,h0,hn=>λks hk=>fT h0 hn ks hk (QN ks hk) (YS ks hk) (by kernel_rfl)
 | n+9,_,h=>absurd h (by omega)
end Rg
namespace Rg
theorem varsT_b:∀ k,k<=100->∀ b∈varsT k,b<=255
 | 0,_,b,hb=>by cases hb
 | k+1,hk,b,hb=>by
   simp only[varsT,un,List.mem_append,List.mem_cons,List.not_mem_nil,or_false] at hb
   rcases hb with hb|hb
   ·exact varsT_b k (by omega) b hb
   ·omega
theorem D4 {n:Nat}{ks:Nat->Nat}(h0:0<n)(hn:n<=8)(hk:∀ i,ks i<4):∀ i,i<=100->∀ b∈gL n ks i,b<=255
 | 0,_,b,hb=>by cases hb
 | i+1,hi,b,hb=>by
   have h1:=hk i;have h2:=Nat.mod_lt (i+n-1) h0;simp only[gL,un,gn,List.mem_append,List.mem_cons,List.not_mem_nil,or_false] at hb
   rcases hb with hb|hb
   ·exact D4 h0 hn hk i (by omega) b hb
   ·omega
theorem varsT_l:∀ k,(varsT k).length=16*k
 | 0=>rfl
 | k+1=>by simp only[varsT,un,List.length_append,varsT_l k,List.length_cons,List.length_nil];omega
theorem Ir (n:Nat)(ks:Nat->Nat):∀ i,(gL n ks i).length=19*i
 | 0=>rfl
 | i+1=>by simp only[gL,un,gn,List.length_append,Ir n ks i,List.length_cons,List.length_nil];omega
theorem Hu {n:Nat}{ks:Nat->Nat}(h0:0<n)(hn:n<=8)(hk:∀ i,ks i<4):QM (dZ n ks)=true:=by
 unfold QM;rw[Bool.and_eq_true,dt,decide_eq_true_eq,ai,List.all_eq_true];have hg:∀ k,k<4->(∀ b∈gT k,b<=255)/\(gT k).length<=200:=by decide
 have hh:∀ b∈headA,b<=255:=by decide
 have hl:headA.length=29:=rfl
 constructor
 ·have g0:=(hg 0 (by omega)).2
  have g1:=(hg 1 (by omega)).2
  have g2:=(hg 2 (by omega)).2
  have g3:=(hg 3 (by omega)).2
  simp only[dZ,List.length_append,varsT_l,Ir,List.length_cons,List.length_nil,hl];omega
 ·intro b hb;rw[dt,decide_eq_true_eq];simp only[dZ,List.mem_append,List.mem_cons,List.not_mem_nil,or_false] at hb
  rcases hb with (((((((((hb|hb)|hb)|hb)|hb)|hb)|hb)|hb)|hb)|hb)
  ·exact hh b hb
  ·omega
  ·exact varsT_b n (by omega) b hb
  ·omega
  ·exact D4 h0 hn hk n (by omega) b hb
  ·omega
  ·exact (hg 0 (by omega)).1 b hb
  ·exact (hg 1 (by omega)).1 b hb
  ·exact (hg 2 (by omega)).1 b hb
  ·exact (hg 3 (by omega)).1 b hb
end Rg
end Go.Proofs
