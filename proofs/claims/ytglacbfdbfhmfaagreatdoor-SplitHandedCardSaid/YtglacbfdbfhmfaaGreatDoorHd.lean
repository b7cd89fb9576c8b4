/- the nodes of the law, their workers. Part of the proof of girandolelaw12.SplitHanded. -/
import Derived.Test.YtglacbfdbfhmfaaGreatDoorSp2
set_option linter.unusedVariables false
set_option linter.unusedSimpArgs false
set_option maxRecDepth 1000000
namespace Go.Proofs
open Go Go.Abs
namespace Hd
def dx (i:Nat):List Nat:=[102,97+i]
def wD (o:Nat):DeR:=⟨[119],o,false,true,[],false⟩
def TN (i o:Nat)(V:List DeR)(E:List EqR):NdR:=⟨dx i,o+5,[wD (o+8)],[⟨[98],o+32,false,false,[],false⟩],V,E⟩
def TH (i o:Nat):NdR:=TN i o [] [⟨[([98],o+44)],false,.mk 13 (o+48) 0 (dx (i+1)) false [.mk 3 (o+51) 0 [119] false []]⟩]
def TM (i o:Nat):NdR:=TN i o [⟨[117],o+44,false,true,[],false⟩] [⟨[([117],o+63)],true,.mk 13 (o+73) 0 (dx (i+1)) false [.mk 3 (o+76) 0 [119] false []]⟩,⟨[([98],o+80)],false,.mk 1 (o+84) 7 [] false []⟩]
def zK (o a:Nat):List Ex:=(List.range a).map λj=>.mk 1 (o+63+3*j) 0 [] false []
def Sq (i o a:Nat):NdR:=TN i o [] [⟨[([98],o+44)],false,.mk 14 (o+48) 0 [119] false (zK o a)⟩]
def kS (n:Nat)(bits:Nat->Bool)(a i o:Nat):NdR:=cond (Nat.beq (i+1) n) (Sq i o a) (cond (bits i) (TM i o) (TH i o))
def off (bits:Nat->Bool):Nat->Nat
 | 0=>133
 | i+1=>off bits i+cond (bits i) 91 59
def fN:NdR:=⟨[102],5,[⟨[120],7,false,false,[],false⟩],[⟨[121],24,false,false,[],false⟩],[⟨[117],36,false,true,[],false⟩],[⟨[([117],55)],true,.mk 13 65 0 [103] false [.mk 3 67 0 [120] false []]⟩,⟨[([121],71)],false,.mk 13 75 0 (dx 0) false [.mk 3 78 0 [117] false []]⟩]⟩
def gN:NdR:=⟨[103],91,[⟨[97],93,false,false,[],false⟩],[⟨[98],110,false,false,[],false⟩],[],[⟨[([98],122)],false,.mk 3 126 0 [97] false []⟩]⟩
def bz (n:Nat)(bits:Nat->Bool)(a:Nat):List NdR:=fN::gN::(List.range n).map λi=>kS n bits a i (off bits i)
theorem PE (i j:Nat):strEq (dx i) (dx j)=Nat.beq i j:=by
 rw[dH,f9];simp only[dx,List.cons.injEq,true_and,and_true,decide_eq_decide];omega
theorem WR (n:Nat)(bits:Nat->Bool)(a i o:Nat):(kS n bits a i o).s=dx i:=by
 unfold kS;cases Nat.beq (i+1) n<;>cases bits i<;>rfl
theorem mC (n:Nat)(bits:Nat->Bool)(a i o:Nat):(kS n bits a i o).ins=[wD (o+8)]:=by
 unfold kS;cases Nat.beq (i+1) n<;>cases bits i<;>rfl
theorem EZ {f:Nat->NdR}(hf:∀ j,(f j).s=dx j)(i:Nat):∀ (k s:Nat),s<=i->i<s+k->dt (dx i) ((List.range' s k).map f)=some (f i)
 | 0,s,h1,h2=>absurd h2 (by omega)
 | k+1,s,h1,h2=>by
   rw[List.range'_succ,List.map_cons];simp only[dt,hf,PE]
   by_cases h:s=i
   ·subst h;rw[Nat.beq_refl];rfl
   ·have:Nat.beq s i=false:=by
     cases hb:Nat.beq s i with
     | false=>rfl
     | true=>exact absurd (Nat.eq_of_beq_eq_true hb) h
    rw[this];exact EZ hf i k (s+1) (by omega) (by omega)
theorem sd {n:Nat}{bits:Nat->Bool}{a i:Nat}(h:i<n):dt (dx i) (bz n bits a)=some (kS n bits a i (off bits i)):=by
 show dt (dx i) ((List.range n).map λi=>kS n bits a i (off bits i))=_
 rw[List.range_eq_range'];exact EZ (f:=λi=>kS n bits a i (off bits i)) (λj=>WR ..) i n 0 (by omega) (by omega)
abbrev ui (v:Nat)(x:AtF):QF:=⟨[99,111,112,121],v,[x]⟩
theorem HJ {L:List NdR}{nd:NdF}{i o q w:Nat}{d' : NdR}{fo:Int×Int}{p p2:PS}(hf:dt (dx (i+1)) L=some d')(hd:d'.ins=[wD q])(hs:p.size+2<=1500)(h:nd d' [] [fo] { p with vars:=p.vars+1,size:=p.size+2 }=some ([w],p2)) :
  eu (λ_=>uj) (pd nd L) (TH i o) [] [fo] p=some ([p.vars],{ p2 with eqs:=p2.eqs++[ui p.vars ⟨false,0,w⟩] }):=by
 have hb:Nat.ble (p.size+2) 1500=true:=Nat.ble_eq_true_of_le hs;have hz:sizeE (.mk 13 (o+48) 0 (dx (i+1)) false [.mk 3 (o+51) 0 [119] false []])=2:=by simp[sizeE,sizeL]
 have hi:PS.inc p={ p with vars:=p.vars+1 }:=rfl
 have h1:strEq [119] [119]=true:=by decide
 have h2:strEq [98] [98]=true:=by decide
 have ho:orI (eb fo)=some fo:=rfl;simp only[eu,TH,TN,wD,cS,placesP,lj,sizeP,dJ,eF,pd,pk,mh,eY,cr,jv,dc,hb,hz,hi,h1,h2,ho,hf,hd,h,Ex.k,Ex.kids,Ex.s,List.append_nil,List.nil_append,List.cons_append,cond_true,cond_false,show Nat.beq 13 13=true from rfl]
theorem sizeL_z:∀ (l:List Nat) (o:Nat),sizeL (l.map λj=>Ex.mk 1 (o+63+3*j) 0 [] false [])=l.length
 | [],o=>by simp[sizeL]
 | x::l,o=>by
   have:=sizeL_z l o;simp only[List.map_cons,sizeL,sizeE,this,List.length_cons];omega
theorem Yr (o a:Nat):(zK o a).map Ex.n=List.replicate a 0:=by
 unfold zK;rw[List.map_map]
 have:∀ l:List Nat,l.map (Ex.n ∘ λj=>Ex.mk 1 (o+63+3*j) 0 [] false [])=List.replicate l.length 0:=by
  intro l
  induction l with
  | nil=>rfl
  | cons x l ih=>rw[List.map_cons,ih];rfl
 rw[this,List.length_range]
theorem Rc (vm:List (List Nat×Nat))(ext:Ex->PS->Option (AtF×PS))(k p:Nat)(n:Int)(s:List Nat)(b:Bool)(kids:List Ex)(q:PS):dn vm ext (k+1) (.mk 14 p n s b kids) q=ext (.mk 14 p n s b kids) q:=rfl
theorem Ue (vm:List (List Nat×Nat))(ext:Ex->PS->Option (AtF×PS))(k p:Nat)(n:Int)(s:List Nat)(b:Bool)(kids:List Ex)(q:PS):dn vm ext (k+1) (.mk 1 p n s b kids) q=some (⟨true,n,0⟩,q):=rfl
theorem Ka {L:List NdR}{nd:NdF}{i o a:Nat}{fo:Int×Int}{p:PS}(hs:p.size+(1+a)<=1500) :
  eu (λ_=>uj) (pd nd L) (Sq i o a) [] [fo] p=some ([p.vars],{ p with vars:=p.vars+2,size:=p.size+(1+a),ws:=p.ws++[⟨p.vars+1,fo.1,fo.2,List.replicate a 0,((o+48:Nat):Int)⟩],eqs:=p.eqs++[ui p.vars ⟨false,0,p.vars+1⟩] }):=by
 have hb:Nat.ble (p.size+(1+a)) 1500=true:=Nat.ble_eq_true_of_le hs
 have hz:sizeE (.mk 14 (o+48) 0 [119] false (zK o a))=1+a:=by
  simp only[sizeE,zK,sizeL_z,List.length_range];try omega
 have hi:PS.inc p={ p with vars:=p.vars+1 }:=rfl
 have h1:strEq [119] [119]=true:=by decide
 have h2:strEq [98] [98]=true:=by decide
 have ho:orI (eb fo)=some fo:=rfl;have hx:∀ (vm:List (List Nat×Nat)) (ext:Ex->PS->Option (AtF×PS)) (q:PS),dn vm ext 60 (.mk 14 (o+48) 0 [119] false (zK o a)) q=ext (.mk 14 (o+48) 0 [119] false (zK o a)) q:=λvm ext q=>Rc vm ext 59 _ _ _ _ _ q
 have hk:=Yr o a;simp only[eu,Sq,TN,wD,cS,placesP,lj,sizeP,dJ,eF,pd,oT,my,pW,mh,eY,cr,jv,hb,hz,hi,h1,h2,ho,hx,hk,Ex.k,Ex.kids,Ex.s,Ex.p,List.append_nil,List.nil_append,List.cons_append,cond_true,cond_false,show Nat.beq 14 14=true from rfl,show Nat.beq 14 13=false from rfl]
theorem C4 {L:List NdR}{nd:NdF}{i o q:Nat}{d' : NdR}{fo:Int×Int}{p:PS}(hf:dt (dx (i+1)) L=some d')(hd:d'.ins=[wD q])(hs:p.size+3<=1500)(hsp:p.sp.length<=1000) :
  eu (λ_=>uj) (pd nd L) (TM i o) [] [fo] p=some ([p.vars],{ p with vars:=p.vars+1,size:=p.size+3,sp:=p.sp++[⟨dx (i+1),[],[fo],((o+73:Nat):Int)⟩],eqs:=p.eqs++[ui p.vars ⟨true,7,0⟩] }):=by
 have hb:Nat.ble (p.size+2) 1500=true:=Nat.ble_eq_true_of_le (by omega)
 have hb2:Nat.ble (p.size+2+1) 1500=true:=Nat.ble_eq_true_of_le (by omega)
 have hb3:Nat.ble p.sp.length 100000=true:=Nat.ble_eq_true_of_le (by omega)
 have hz:sizeE (.mk 13 (o+73) 0 (dx (i+1)) false [.mk 3 (o+76) 0 [119] false []])=2:=by simp[sizeE,sizeL]
 have hz2:sizeE (.mk 1 (o+84) 7 [] false [])=1:=by simp[sizeE,sizeL]
 have hi:PS.inc p={ p with vars:=p.vars+1 }:=rfl
 have h1:strEq [119] [119]=true:=by decide
 have h2:strEq [98] [98]=true:=by decide
 have h3:strEq [119] [117]=false:=by decide
 have h4:strEq [117] [117]=true:=by decide
 have ho:orI (eb fo)=some fo:=rfl;have ho2:orI (eb ((p.sp.length:Int),0))=some ((p.sp.length:Int),0):=rfl;have hx:∀ (vm:List (List Nat×Nat)) (ext:Ex->PS->Option (AtF×PS)) (q:PS),dn vm ext 60 (.mk 1 (o+84) 7 [] false []) q=some (⟨true,7,0⟩,q):=λvm ext q=>Ue vm ext 59 _ _ _ _ _ q
 have hg:∀ s:SQ,(p.sp++[s])[p.sp.length]?=some s:=λs=>by simp
 have hset:∀ s t:SQ,(p.sp++[s]).set p.sp.length t=p.sp++[t]:=λs t=>by simp
 have hn:decide ((0:Int)<=(p.sp.length:Int))=true:=by simp
 simp only[eu,TM,TN,wD,cS,placesP,lj,sizeP,dJ,uj,eF,pd,oS,oT,mh,eY,cr,jv,dc,hb,hb2,hb3,hz,hz2,hi,h1,h2,h3,h4,ho,ho2,hx,hf,hd,hg,hset,hn,Int.toNat_natCast,Ex.k,Ex.kids,Ex.s,Ex.p,List.append_nil,List.nil_append,List.cons_append,cond_true,cond_false,show Nat.beq 1 13=false from rfl,Nat.add_assoc,Nat.reduceAdd]
end Hd
namespace Hd
def eL (o a:Nat)(fo:Int×Int)(p:PS):PS:={ p with vars:=p.vars+2,size:=p.size+(1+a),ws:=p.ws++[⟨p.vars+1,fo.1,fo.2,List.replicate a 0,((o+48:Nat):Int)⟩],eqs:=p.eqs++[ui p.vars ⟨false,0,p.vars+1⟩] }
def eA (j o:Nat)(fo:Int×Int)(p:PS):PS:={ p with vars:=p.vars+1,size:=p.size+3,sp:=p.sp++[⟨dx (j+1),[],[fo],((o+73:Nat):Int)⟩],eqs:=p.eqs++[ui p.vars ⟨true,7,0⟩] }
def eE (n:Nat)(bits:Nat->Bool)(a j:Nat)(fo:Int×Int)(p:PS):PS:=cond (Nat.beq (j+1) n) (eL (off bits j) a fo p) (eA j (off bits j) fo p)
def ug (e:PS->PS):Nat->PS->PS
 | 0,p=>e p
 | m+1,p=>{ ug e m { p with vars:=p.vars+1,size:=p.size+2 } with eqs:=(ug e m { p with vars:=p.vars+1,size:=p.size+2 }).eqs++[ui p.vars ⟨false,0,p.vars+1⟩] }
structure EndAt (n:Nat)(bits:Nat->Bool)(i m:Nat):Prop where
 lt:i+m<n
 no:∀ j,j<m->bits (i+j)=false
 yes:i+m+1=n\/bits (i+m)=true
theorem vH (n:Nat)(bits:Nat->Bool):∀ (k i:Nat),i+k+1=n->∃ m,EndAt n bits i m
 | 0,i,h=>⟨0,⟨by omega,λj hj=>absurd hj (by omega),.inl (by omega)⟩⟩
 | k+1,i,h=>by
   cases hb:bits i with
   | true=>exact ⟨0,⟨by omega,λj hj=>absurd hj (by omega),.inr hb⟩⟩
   | false =>
     obtain ⟨m,h1,h2,h3⟩:=vH n bits k (i+1) (by omega)
     refine ⟨m+1,⟨by omega,λj hj=>?_,by rw[show i+(m+1)=i+1+m by omega];exact h3⟩⟩
     cases j with
     | zero=>exact hb
     | succ j=>have:=h2 j (by omega);rw[show i+1+j=i+(j+1) by omega] at this;exact this
theorem sJ {a b:Nat}(h:a≠b):Nat.beq a b=false:=by
 cases hb:Nat.beq a b with
 | false=>rfl
 | true=>exact absurd (Nat.eq_of_beq_eq_true hb) h
theorem oa {n:Nat}{bits:Nat->Bool}{a:Nat}(ha:a<=8){fo:Int×Int}:∀ (m i:Nat),EndAt n bits i m->∀ (k:Nat),m<k->∀ (p:PS),p.size+2*m+20<=1500->p.sp.length<=1000 ->
  BF (bz n bits a) k (kS n bits a i (off bits i)) [] [fo] p=some ([p.vars],ug (eE n bits a (i+m) fo) m p)
 | 0,i,E,k,hk,p,hp,hsp=>by
   obtain ⟨k,rfl⟩ : ∃ q,k=q+1:=⟨k-1,by omega⟩
   show eu (λ_=>uj) (pd (BF (bz n bits a) k) (bz n bits a)) (kS n bits a i (off bits i)) [] [fo] p=_
   cases hb:Nat.beq (i+1) n with
   | true =>
     have e1:kS n bits a i (off bits i)=Sq i (off bits i) a:=by unfold kS;rw[hb];rfl
     rw[e1,Ka (by omega)]
     show _=some ([p.vars],eE n bits a (i+0) fo p);unfold eE;rw[Nat.add_zero,hb];rfl
   | false =>
     have hi:bits i=true:=by
      rcases E.yes with h|h
      ·rw[show i+0+1=i+1 by omega] at h;rw[h,Nat.beq_refl] at hb;cases hb
      ·exact h
     have hlt:=E.lt;have hne:i+1≠n:=λh=>by rw[h,Nat.beq_refl] at hb;cases hb
     have e1:kS n bits a i (off bits i)=TM i (off bits i):=by unfold kS;rw[hb,hi];rfl
     rw[e1,C4 (sd (n:=n) (bits:=bits) (a:=a) (i:=i+1) (by omega)) (mC ..) (by omega) hsp]
     show _=some ([p.vars],eE n bits a (i+0) fo p);unfold eE;rw[Nat.add_zero,hb];rfl
 | m+1,i,E,k,hk,p,hp,hsp=>by
   obtain ⟨k,rfl⟩ : ∃ q,k=q+1:=⟨k-1,by omega⟩
   show eu (λ_=>uj) (pd (BF (bz n bits a) k) (bz n bits a)) (kS n bits a i (off bits i)) [] [fo] p=_
   have hlt:=E.lt;have hi:bits i=false:=E.no 0 (by omega)
   have e1:kS n bits a i (off bits i)=TH i (off bits i):=by unfold kS;rw[sJ (a:=i+1) (b:=n) (by omega),hi];rfl
   have ih:=oa (n:=n) (bits:=bits) ha (fo:=fo) m (i+1) ⟨by omega,λj hj=>by have:=E.no (j+1) (by omega);rw[show i+1+j=i+(j+1) by omega];exact this,by rw[show i+1+m=i+(m+1) by omega];exact E.yes⟩ k (by omega) { p with vars:=p.vars+1,size:=p.size+2 } (by simp only;omega) hsp
   rw[e1,HJ (sd (n:=n) (bits:=bits) (a:=a) (i:=i+1) (by omega)) (mC ..) (by omega) ih,show i+1+m=i+(m+1) by omega]
   rfl
def p0:PS:=⟨0,[],0,[],[],0⟩
def pf1:PS:=⟨3,[ui 1 ⟨false,0,0⟩],0,[],[⟨[103],[⟨false,0,1⟩],[],65⟩],4⟩
def fU (p:PS):PS:={ p with eqs:=p.eqs++[ui 2 ⟨false,0,3⟩] }
theorem WY (o:Nat)(fo:Int×Int):((List.range 10).all λm=>(List.range 9).all λa=>jw 200 (ug (eL o a fo) m p0))=true:=by kernel_rfl
theorem Um (j o:Nat)(fo:Int×Int):((List.range 10).all λm=>jw 200 (ug (eA j o fo) m p0))=true:=by kernel_rfl
theorem PD (o:Nat)(fo:Int×Int):((List.range 10).all λm=>(List.range 9).all λa=>jw 200 (fU (ug (eL o a fo) m pf1)))=true:=by kernel_rfl
theorem OD (j o:Nat)(fo:Int×Int):((List.range 10).all λm=>jw 200 (fU (ug (eA j o fo) m pf1)))=true:=by kernel_rfl
end Hd
namespace Hd
theorem pU {N:Nat}{f:Nat->Bool}(h:(List.range N).all f=true){m:Nat}(hm:m<N):f m=true:=List.all_eq_true.1 h m (List.mem_range.2 hm)
theorem zC {L:List NdR}{nm:List Nat}{v:Nat}{l:List Nat}{p:PS}(h:lZ L nm=some (v::l,p))(hg:jw 200 p=true):di 200 L nm=some (v::l,p):=by
 unfold di;rw[h];simp only[hg,cond_true]
section
variable {n:Nat}{bits:Nat->Bool}{a:Nat}
theorem uH (ha:a<=8)(hn:n<=10){i m:Nat}(E:EndAt n bits i m):di 200 (bz n bits a) (dx i)=some ([0],ug (eE n bits a (i+m) (-1,0)) m p0):=by
 have hlt:=E.lt;refine zC ?_ ?_
 ·unfold lZ;rw[sd (n:=n) (bits:=bits) (a:=a) (i:=i) (by omega)]
  simp only[mC];exact oa ha (fo:=(-1,0)) m i E 61 (by omega) p0 (by show 0+2*m+20<=1500;omega) (by show 0<=1000;omega)
 ·unfold eE;cases Nat.beq (i+m+1) n with
  | true=>exact pU (pU (WY (off bits (i+m)) (-1,0)) (m:=m) (by omega)) (m:=a) (by omega)
  | false=>exact pU (Um (i+m) (off bits (i+m)) (-1,0)) (m:=m) (by omega)
theorem uG:di 200 (bz n bits a) [103]=some ([2],⟨3,[ui 1 ⟨false,0,0⟩,ui 2 ⟨false,0,1⟩],0,[],[],1⟩):=by
 unfold bz;generalize (List.range n).map (λi=>kS n bits a i (off bits i))=X
 kernel_rfl
theorem uF (ha:a<=8)(hn:n<=10){m:Nat}(E:EndAt n bits 0 m):di 200 (bz n bits a) [102]=some ([2],fU (ug (eE n bits a m (0,0)) m pf1)):=by
 have hlt:=E.lt;have hc:=oa ha (fo:=(0,0)) m 0 E 60 (by omega) pf1 (by show 4+2*m+20<=1500;omega) (by show 1<=1000;omega)
 rw[Nat.zero_add] at hc;have hf0:=sd (n:=n) (bits:=bits) (a:=a) (i:=0) (by omega)
 have hfg:dt [103] (bz n bits a)=some gN:=rfl;have hi0:=mC n bits a 0 (off bits 0);refine zC ?_ ?_
 ·have e:lZ (bz n bits a) [102]=eu (λ_=>uj) (pd (BF (bz n bits a) 60) (bz n bits a)) fN [BH 0] [] ⟨1,[],0,[],[],0⟩:=rfl
  rw[e];have e1:placesP (cS fN) [] ⟨1,[],0,[],[],0⟩=some ([([120],1),([121],2)],⟨3,[],0,[],[],0⟩):=rfl;have e2:lj [([120],1),([121],2)] fN.ins [BH 0] [] [] ⟨3,[],0,[],[],0⟩=some ([],⟨3,[ui 1 ⟨false,0,0⟩],0,[],[],0⟩):=rfl;have e3:sizeP fN.eqs ⟨3,[ui 1 ⟨false,0,0⟩],0,[],[],0⟩=some ⟨3,[ui 1 ⟨false,0,0⟩],0,[],[],4⟩:=by kernel_rfl
  have e4:dJ uj fN.eqs [] ⟨3,[ui 1 ⟨false,0,0⟩],0,[],[],4⟩=some ([([117],eb (0,0))],⟨3,[ui 1 ⟨false,0,0⟩],0,[],[⟨[103],[],[],65⟩],4⟩):=by kernel_rfl
  have e5:∀ X:List NdR,X=bz n bits a->pd (BF X 60) X [([120],1),([121],2)] [([117],eb (0,0))] ⟨[([117],55)],true,.mk 13 65 0 [103] false [.mk 3 67 0 [120] false []]⟩ ⟨3,[ui 1 ⟨false,0,0⟩],0,[],[⟨[103],[],[],65⟩],4⟩=some pf1:=λX hX=>by
   simp only[pd,oS,jv,cr,show strEq [117] [117]=true from rfl,cond_true,Ex.s,Ex.kids]
   rw[hX,hfg]
   kernel_rfl
  have e6:pd (BF (bz n bits a) 60) (bz n bits a) [([120],1),([121],2)] [([117],eb (0,0))] ⟨[([121],71)],false,.mk 13 75 0 (dx 0) false [.mk 3 78 0 [117] false []]⟩ pf1=some (fU (ug (eE n bits a m (0,0)) m pf1)):=by
   have hl:eY [121] [([120],1),([121],2)]=some 2:=rfl;have ho:jv [117] [([117],eb (0,0))]=some (0,0):=rfl;simp only[pd,pk,hl,hf0,hi0,wD,dc,ho,hc,Ex.k,Ex.s,Ex.kids,cond_true,cond_false,show Nat.beq 13 13=true from rfl]
   rfl
  unfold eu;rw[e1];simp only[];rw[e2];simp only[];rw[e3];simp only[];rw[e4];simp only[];show (match eF _ [_,_] _ with|none=>none|some p5=>_)=_
  simp only[eF];rw[e5 _ rfl];simp only[];rw[e6];rfl
 ·unfold eE;cases Nat.beq (m+1) n with
  | true=>exact pU (pU (PD (off bits m) (0,0)) (m:=m) (by omega)) (m:=a) (by omega)
  | false=>exact pU (OD m (off bits m) (0,0)) (m:=m) (by omega)
end
end Hd
namespace Hd
theorem sY (e:PS->PS):∀ (m:Nat) (p:PS),∃ q:PS,q.sp=p.sp/\q.ws=p.ws/\(ug e m p).sp=(e q).sp/\(ug e m p).ws=(e q).ws
 | 0,p=>⟨p,rfl,rfl,rfl,rfl⟩
 | m+1,p=>sY e m { p with vars:=p.vars+1,size:=p.size+2 }
theorem nP {x:List Nat}{ns:List (List Nat)}:fT x ns=true ↔ x∈ns:=by
 unfold fT;rw[List.any_eq_true]
 constructor
 ·rintro ⟨y,hy,h⟩
  rw[dH,decide_eq_true_eq] at h;rw[<-h];exact hy
 ·intro h;exact ⟨x,h,by rw[dH];simp⟩
theorem CM {x:List Nat}{ns:List (List Nat)}(h:x∉ns):fT x ns=false:=by
 cases hb:fT x ns with
 | false=>rfl
 | true=>exact absurd (nP.1 hb) h
theorem Ik {i j:Nat}(h:dx i=dx j):i=j:=by
 simp only[dx,List.cons.injEq,and_true,true_and] at h;omega
def pc (bits:Nat->Bool):Nat->Nat
 | 0=>0
 | i+1=>pc bits i+cond (bits i) 1 0
theorem De {bits:Nat->Bool}{i:Nat}:∀ m,(∀ j,j<m->bits (i+j)=false)->pc bits (i+m)=pc bits i
 | 0,h=>rfl
 | m+1,h=>by
   rw[show i+(m+1)=(i+m)+1 by omega]
   simp only[pc,h m (by omega),cond_false,De m (λj hj=>h j (by omega))]
   rfl
inductive Rn (n:Nat) (bits:Nat->Bool):Nat->List Nat->Prop
 | last {i m:Nat} (E:EndAt n bits i m) (h:i+m+1=n):Rn n bits i [i]
 | more {i m:Nat} {l:List Nat} (E:EndAt n bits i m) (h:i+m+1<n) (r:Rn n bits (i+m+1) l):Rn n bits i (i::l)
theorem Nv (n:Nat)(bits:Nat->Bool):∀ (k i:Nat),n<=i+k->i<n->∃ l,Rn n bits i l/\pc bits (n-1)+1=pc bits i+l.length
 | 0,i,h,hi=>absurd hi (by omega)
 | k+1,i,h,hi=>by
   obtain ⟨m,E⟩:=vH n bits (n-1-i) i (by omega)
   have hlt:=E.lt;have hp:=De m E.no
   by_cases he:i+m+1=n
   ·refine ⟨[i],.last E he,?_⟩;rw[show n-1=i+m by omega,hp];rfl
   ·have hb:bits (i+m)=true:=E.yes.resolve_left he;obtain ⟨l,r,hl⟩:=Nv n bits k (i+m+1) (by omega) (by omega)
    refine ⟨i::l,.more E (by omega) r,?_⟩
    have:pc bits (i+m+1)=pc bits i+1:=by simp only[pc,hb,cond_true,hp]
    rw[List.length_cons,hl,this];omega
theorem Rn.ge {n:Nat}{bits:Nat->Bool}{i:Nat}{l:List Nat}(r:Rn n bits i l):∀ x∈l,i<=x:=by
 induction r with
 | last E h=>intro x hx;rw[List.mem_singleton] at hx;omega
 | more E h r ih =>
   intro x hx
   rcases List.mem_cons.1 hx with rfl|hx
   ·exact Nat.le_refl _
   ·have:=ih x hx;omega
section
variable {n:Nat}{bits:Nat->Bool}{a:Nat}
theorem uL (ha:a<=8)(hn:n<=10){i m:Nat}(E:EndAt n bits i m)(h:i+m+1=n):∃ P x y,di 200 (bz n bits a) (dx i)=some ([0],P)/\P.sp=[]/\P.ws=[⟨x,-1,0,List.replicate a 0,y⟩]:=by
 have hu:=uH ha hn E;have hb:Nat.beq (i+m+1) n=true:=by rw[h];exact Nat.beq_refl n
 have he:eE n bits a (i+m) (-1,0)=eL (off bits (i+m)) a (-1,0):=by unfold eE;funext p;rw[hb];rfl
 rw[he] at hu;obtain ⟨q,h1,h2,h3,h4⟩:=sY (eL (off bits (i+m)) a (-1,0)) m p0;refine ⟨_,q.vars+1,((off bits (i+m)+48:Nat):Int),hu,by rw[h3];show q.sp=[];rw[h1];rfl,by rw[h4];show q.ws++_=_;rw[h2];rfl⟩
theorem uM (ha:a<=8)(hn:n<=10){i m:Nat}(E:EndAt n bits i m)(h:i+m+1<n):∃ P y,di 200 (bz n bits a) (dx i)=some ([0],P)/\P.sp=[⟨dx (i+m+1),[],[(-1,0)],y⟩]/\P.ws=[]:=by
 have hu:=uH ha hn E;have he:eE n bits a (i+m) (-1,0)=eA (i+m) (off bits (i+m)) (-1,0):=by unfold eE;funext p;rw[sJ (by omega)];rfl
 rw[he] at hu;obtain ⟨q,h1,h2,h3,h4⟩:=sY (eA (i+m) (off bits (i+m)) (-1,0)) m p0;refine ⟨_,((off bits (i+m)+73:Nat):Int),hu,by rw[h3];show q.sp++_=_;rw[h1];rfl,by rw[h4];show q.ws=_;rw[h2];rfl⟩
theorem Zc (ha:a<=8)(hn:n<=10){m:Nat}(E:EndAt n bits 0 m)(h:m+1=n):∃ P x y z,di 200 (bz n bits a) [102]=some ([2],P)/\P.sp=[⟨[103],[⟨false,0,1⟩],[],z⟩]/\P.ws=[⟨x,0,0,List.replicate a 0,y⟩]:=by
 have hu:=uF ha hn E;have hb:Nat.beq (m+1) n=true:=by rw[h];exact Nat.beq_refl n
 have he:eE n bits a m (0,0)=eL (off bits m) a (0,0):=by unfold eE;funext p;rw[hb];rfl
 rw[he] at hu;obtain ⟨q,h1,h2,h3,h4⟩:=sY (eL (off bits m) a (0,0)) m pf1;refine ⟨_,q.vars+1,((off bits m+48:Nat):Int),65,hu,?_,?_⟩
 ·show (ug (eL (off bits m) a (0,0)) m pf1).sp=_;rw[h3];show q.sp=_;rw[h1];rfl
 ·show (ug (eL (off bits m) a (0,0)) m pf1).ws=_;rw[h4];show q.ws++_=_;rw[h2];rfl
theorem Zg (ha:a<=8)(hn:n<=10){m:Nat}(E:EndAt n bits 0 m)(h:m+1<n):∃ P y z,di 200 (bz n bits a) [102]=some ([2],P)/\P.sp=[⟨[103],[⟨false,0,1⟩],[],z⟩,⟨dx (m+1),[],[(0,0)],y⟩]/\P.ws=[]:=by
 have hu:=uF ha hn E;have he:eE n bits a m (0,0)=eA m (off bits m) (0,0):=by unfold eE;funext p;rw[sJ (by omega)];rfl
 rw[he] at hu;obtain ⟨q,h1,h2,h3,h4⟩:=sY (eA m (off bits m) (0,0)) m pf1;refine ⟨_,((off bits m+73:Nat):Int),65,hu,?_,?_⟩
 ·show (ug (eA m (off bits m) (0,0)) m pf1).sp=_;rw[h3];show q.sp++_=_;rw[h1];rfl
 ·show (ug (eA m (off bits m) (0,0)) m pf1).ws=_;rw[h4];show q.ws=_;rw[h2];rfl
theorem YC (ha:a<=8)(hn:n<=10){i:Nat}{l:List Nat}(r:Rn n bits i l):∀ (N:Nat),l.length<=N->∀ ns:List (List Nat),(∀ x,i<=x->dx x∉ns)->addM 200 (bz n bits a) N (dx i) ns=some (ns++l.map dx):=by
 induction r with
 | @last i m E h =>
   intro N hN ns hns;obtain ⟨N,rfl⟩ : ∃ q,N=q+1:=⟨N-1,by simp at hN;omega⟩
   obtain ⟨P,x,y,hu,hs,hw⟩:=uL ha hn E h;simp only[addM,CM (hns i (Nat.le_refl _)),cond_false,hu,hs,io];rfl
 | @more i m l E h r ih =>
   intro N hN ns hns;obtain ⟨N,rfl⟩ : ∃ q,N=q+1:=⟨N-1,by simp at hN;omega⟩
   obtain ⟨P,y,hu,hs,hw⟩:=uM ha hn E h
   have:=ih N (by simp at hN;omega) (ns++[dx i]) (λx hx hm=>by
    rcases List.mem_append.1 hm with hm|hm
    ·exact hns x (by omega) hm
    ·rw[List.mem_singleton] at hm;have:=Ik hm;omega)
   simp only[addM,CM (hns i (Nat.le_refl _)),cond_false,hu,hs,io,this];simp
def wkL:List Nat->Nat->List WkN
 | [],_=>[]
 | x::l,q=>⟨dx x,[1],q+1⟩::wkL l (q+1)
theorem wkL_len:∀ (l:List Nat) (q:Nat),(wkL l q).length=l.length
 | [],q=>rfl
 | x::l,q=>by simp only[wkL,List.length_cons,wkL_len l]
theorem G5 {α:Type}(pre:List α)(x:α):(pre++[x])[pre.length]?=some x:=by simp
theorem HW {α:Type}(pre:List α)(x y:α):(pre++[x]).set pre.length y=pre++[y]:=by simp
theorem Y4 (ha:a<=8)(hn:n<=10){ns:List (List Nat)}{i:Nat}{l:List Nat}(r:Rn n bits i l):(∀ x∈l,dx x∈ns)->∀ (fu:Nat),l.length<fu->∀ (pre:List WkN) (es:List EgN),pre.length+l.length<=20->es.length<=1000 ->
  ey 200 (bz n bits a) ns fu pre.length (pre++[⟨dx i,[1],0⟩]) es=some (pre++wkL l pre.length,es):=by
 induction r with
 | @last i m E h =>
   intro hns fu hfu pre es hpl hes;obtain ⟨fu,rfl⟩ : ∃ q,fu=q+1+1:=⟨fu-2,by simp at hfu;omega⟩
   obtain ⟨P,x,y,hu,hs,hw⟩:=uL ha hn E h;simp only[List.length_cons,List.length_nil] at hpl;have hlen:(pre++[(⟨dx i,[1],0⟩ : WkN)]).length=pre.length+1:=by simp
   have hb:(Nat.ble (pre++[(⟨dx i,[1],pre.length+1⟩ : WkN)]).length 30&&Nat.ble es.length 90000)=true:=by
    rw[Nat.ble_eq_true_of_le (by simp;omega),Nat.ble_eq_true_of_le (by omega)];rfl
   have hend:(pre++[(⟨dx i,[1],pre.length+1⟩ : WkN)])[pre.length+1]?=none:=List.getElem?_eq_none (by simp)
   rw[show fu+1+1=(fu+1)+1 from rfl]
   simp only[ey,G5,hu,hlen,HW,hs,Fv,hb,cond_true,hend,wkL]
 | @more i m l E h r ih =>
   intro hns fu hfu pre es hpl hes;obtain ⟨fu,rfl⟩ : ∃ q,fu=q+1:=⟨fu-1,by simp at hfu;omega⟩
   obtain ⟨P,y,hu,hs,hw⟩:=uM ha hn E h;simp only[List.length_cons] at hpl hfu;have hlen:(pre++[(⟨dx i,[1],0⟩ : WkN)]).length=pre.length+1:=by simp
   have hj:i+m+1∈l:=by cases r<;>simp
   have hm:fT (dx (i+m+1)) ns=true:=nP.2 (hns _ (List.mem_cons_of_mem _ hj));have hfm:iD (pre.length+1) [1] [(-1,0)]=some [1]:=rfl
   have hb:(Nat.ble (pre++[(⟨dx i,[1],pre.length+1⟩ : WkN)]++[(⟨dx (i+m+1),[1],0⟩ : WkN)]).length 30&&Nat.ble es.length 90000)=true:=by
    rw[Nat.ble_eq_true_of_le (by simp;omega),Nat.ble_eq_true_of_le (by omega)];rfl
   have key:=ih (λx hx=>hns x (List.mem_cons_of_mem _ hx)) fu (by omega) (pre++[⟨dx i,[1],pre.length+1⟩]) es (by simp;omega) hes
   have hl2:(pre++[(⟨dx i,[1],pre.length+1⟩ : WkN)]).length=pre.length+1:=by simp
   rw[hl2] at key;simp only[ey,G5,hu,hlen,HW,hs,Fv,hm,hfm,n5,hb,cond_true,wkL];rw[key];simp
theorem Zn (ha:a<=8)(hn:n<=10){ws:List WkN}{wg:WkN}(h1:ws[1]?=some wg)(hg:wg.nm=[103]){i:Nat}{l:List Nat}(r:Rn n bits i l):∀ (q k:Nat) (es:List EgN),q+l.length<=1000->es.length<=1000 ->
  ew 200 (bz n bits a) ws (wkL l q) k es=some (es++[⟨1,k+l.length-1,false,⟨false,0,2⟩,0,List.replicate a 0⟩]):=by
 induction r with
 | @last i m E h =>
   intro q k es hq hes;obtain ⟨P,x,y,hu,hs,hw⟩:=uL ha hn E h;simp only[List.length_cons,List.length_nil] at hq;have ho:jB (q+1) [1] (-1,0)=some 1:=rfl
   have hb:(Nat.ble (es++[(⟨1,k,false,⟨false,0,2⟩,0,List.replicate a 0⟩ : EgN)]).length 90000&&Nat.ble (q+1) 100000)=true:=by
    rw[Nat.ble_eq_true_of_le (by simp;omega),Nat.ble_eq_true_of_le (by omega)];rfl
   have hug:=uG (n:=n) (bits:=bits) (a:=a);simp only[wkL,ew,hu,hw,Kc,ho,h1,hg,hug,hb,cond_true];rfl
 | @more i m l E h r ih =>
   intro q k es hq hes;obtain ⟨P,y,hu,hs,hw⟩:=uM ha hn E h;simp only[List.length_cons] at hq
   have hb:(Nat.ble es.length 90000&&Nat.ble (q+1) 100000)=true:=by
    rw[Nat.ble_eq_true_of_le (by omega),Nat.ble_eq_true_of_le (by omega)];rfl
   have hl:1<=l.length:=by cases r<;>simp
   simp only[wkL,ew,hu,hw,Kc,hb,cond_true];rw[ih (q+1) (k+1) es (by omega) hes,List.length_cons,show k+1+l.length-1=k+(l.length+1)-1 by omega]
end
end Hd
namespace Hd
abbrev eArg:EgN:=⟨0,1,true,⟨false,0,1⟩,0,[]⟩
theorem rc {k:Nat}{L:List NdR}{N:Nat}{nm:List Nat}{ns:List (List Nat)}{v:List Nat}{P:PS}(h:fT nm ns=false)(hu:di k L nm=some (v,P)):addM k L (N+1) nm ns=io (addM k L N) P.sp (ns++[nm]):=by simp only[addM,h,cond_false,hu]
theorem Db {n:Nat}{bits:Nat->Bool}{a:Nat}(ha:a<=8)(h0:0<n)(hn:n<=10):∃ wn e,lm 200 20 (bz n bits a)=some (wn,[eArg,e])/\e.ah=List.replicate a 0/\wn.length=pc bits (n-1)+2/\wn.length<=30:=by
 obtain ⟨m,E⟩:=vH n bits (n-1) 0 (by omega)
 have hlt:=E.lt;have hp:=De (i:=0) m E.no;rw[Nat.zero_add] at hp;have hug:=uG (n:=n) (bits:=bits) (a:=a);have m1:fT [102] ([]:List (List Nat))=false:=rfl;have m2:fT [103] [[102]]=false:=rfl
 by_cases he:m+1=n
 ·obtain ⟨P,x,y,z,hu,hs,hw⟩:=Zc ha hn E he
  have hadd:addM 200 (bz n bits a) 20 [102] []=some [[102],[103]]:=by
   have hg:addM 200 (bz n bits a) 19 [103] [[102]]=some [[102],[103]]:=by
    rw[show (19:Nat)=18+1 from rfl,rc m2 hug]
    rfl
   rw[show (20:Nat)=19+1 from rfl,rc m1 hu,hs]
   simp only[io,List.nil_append,hg]
  have m3:fT [103] [[102],[103]]=true:=rfl
  have hsp:ey 200 (bz n bits a) [[102],[103]] 40 0 [⟨[102],[],0⟩] []=some ([⟨[102],[],1⟩,⟨[103],[],2⟩],[eArg]):=by
   rw[show (40:Nat)=37+1+1+1 from rfl]
   simp only[ey,List.getElem?_cons_zero,List.getElem?_cons_succ,List.getElem?_nil,hu,hs,hug,Fv,m3,cond_true,iD,n5,List.length_cons,List.length_nil,List.set_cons_zero,List.set_cons_succ,List.nil_append,List.cons_append,Nat.zero_add,Nat.reduceAdd,show (Nat.ble 2 30&&Nat.ble 1 90000)=true from rfl]
  have ho:jB 1 [] (0,0)=some 1:=rfl;refine ⟨[⟨[102],[],1⟩,⟨[103],[],2⟩],⟨1,0,false,⟨false,0,2⟩,0,List.replicate a 0⟩,?_,rfl,?_,by show 2<=30;omega⟩
  ·show (match addM 200 (bz n bits a) 20 [102] [] with|none=>none|some ns=>_)=_
   rw[hadd];simp only[show fT [102] [[102],[103]]=true from rfl,cond_true]
   show (match ey 200 (bz n bits a) [[102],[103]] 40 0 [⟨[102],[],0⟩] [] with|none=>none|some (ws,es)=>_)=_
   rw[hsp];simp only[ew,hu,hw,hug,Kc,ho,List.getElem?_cons_zero,List.getElem?_cons_succ,List.length_cons,List.length_nil,List.cons_append,List.nil_append,Nat.reduceAdd,Nat.zero_add,cond_true,show (Nat.ble 2 90000&&Nat.ble 1 100000)=true from rfl,show (Nat.ble 2 90000&&Nat.ble 2 100000)=true from rfl]
  ·rw[show n-1=m by omega,hp];rfl
 ·obtain ⟨P,y,z,hu,hs,hw⟩:=Zg ha hn E (by omega)
  have hb:bits m=true:=by have:=E.yes.resolve_left (by omega);rw[Nat.zero_add] at this;exact this
  obtain ⟨l,r,hl⟩:=Nv n bits n (m+1) (by omega) (by omega)
  have hpm:pc bits (m+1)=1:=by simp only[pc,hb,cond_true,hp]
  rw[hpm] at hl
  have hll:l.length<=10:=by
   have:pc bits (n-1)<=n-1:=by
    have:∀ k,pc bits k<=k:=λk=>by
     induction k with
     | zero=>exact Nat.le_refl _
     | succ k ih=>simp only[pc];cases bits k<;>simp<;>omega
    exact this _
   omega
  have hg2:∀ x,m+1<=x->dx x∉[[102],[103]]:=λx _ hm=>by simp[dx] at hm
  have haH:=YC ha hn r 19 (by omega) [[102],[103]] hg2
  have hadd:addM 200 (bz n bits a) 20 [102] []=some ([[102],[103]]++l.map dx):=by
   rw[show (20:Nat)=19+1 from rfl]
   have hg:addM 200 (bz n bits a) 19 [103] [[102]]=some [[102],[103]]:=by
    rw[show (19:Nat)=18+1 from rfl,rc m2 hug]
    rfl
   rw[rc m1 hu,hs];simp only[io,List.nil_append,hg,haH]
  have m3:fT [103] ([[102],[103]]++l.map dx)=true:=rfl;have hj:m+1∈l:=by cases r<;>simp
  have m4:fT (dx (m+1)) ([[102],[103]]++l.map dx)=true:=nP.2 (List.mem_append_right _ (List.mem_map_of_mem hj));have hf1:iD 1 [] [(0,0)]=some [1]:=rfl;have hsH:=Y4 ha hn (ns:=[[102],[103]]++l.map dx) r (λx hx=>List.mem_append_right _ (List.mem_map_of_mem hx)) 38 (by omega) [⟨[102],[],1⟩,⟨[103],[],3⟩] [eArg] (by show 2+l.length<=20;omega) (by show 1<=1000;omega)
  have hsp:ey 200 (bz n bits a) ([[102],[103]]++l.map dx) 40 0 [⟨[102],[],0⟩] []=some ([⟨[102],[],1⟩,⟨[103],[],3⟩]++wkL l 2,[eArg]):=by
   rw[show (40:Nat)=38+1+1 from rfl]
   generalize hns:[[102],[103]]++l.map dx=ns at *;simp only[ey,List.getElem?_cons_zero,List.getElem?_cons_succ,List.getElem?_nil,hu,hs,hug,Fv,m3,m4,hf1,cond_true,iD,n5,List.length_cons,List.length_nil,List.set_cons_zero,List.set_cons_succ,List.nil_append,List.cons_append,Nat.zero_add,Nat.reduceAdd,show (Nat.ble 3 30&&Nat.ble 1 90000)=true from rfl]
   exact hsH
  have hwa:=Zn ha hn (ws:=[⟨[102],[],1⟩,⟨[103],[],3⟩]++wkL l 2) (wg:=⟨[103],[],3⟩) rfl rfl r 2 2 [eArg] (by omega) (by show 1<=1000;omega)
  refine ⟨[⟨[102],[],1⟩,⟨[103],[],3⟩]++wkL l 2,⟨1,2+l.length-1,false,⟨false,0,2⟩,0,List.replicate a 0⟩,?_,rfl,?_,?_⟩
  ·show (match addM 200 (bz n bits a) 20 [102] [] with|none=>none|some ns=>_)=_
   rw[hadd];simp only[show fT [102] ([[102],[103]]++l.map dx)=true from rfl,cond_true]
   show (match ey 200 (bz n bits a) ([[102],[103]]++l.map dx) 40 0 [⟨[102],[],0⟩] [] with|none=>none|some (ws,es)=>_)=_
   rw[hsp];simp only[]
   have hx:∀ W,ew 200 (bz n bits a) W (⟨[102],[],1⟩::⟨[103],[],3⟩::wkL l 2) 0 [eArg]=ew 200 (bz n bits a) W (wkL l 2) 2 [eArg]:=λW=>by
    simp only[ew,hu,hw,hug,Kc,List.length_cons,List.length_nil,Nat.zero_add,Nat.reduceAdd,cond_true,show (Nat.ble 1 90000&&Nat.ble 1 100000)=true from rfl,show (Nat.ble 1 90000&&Nat.ble 3 100000)=true from rfl]
   show (match ew 200 (bz n bits a) ([⟨[102],[],1⟩,⟨[103],[],3⟩]++wkL l 2) (⟨[102],[],1⟩::⟨[103],[],3⟩::wkL l 2) 0 [eArg] with|none=>none|some es'=>_)=_
   rw[hx,hwa];rfl
  ·rw[List.length_append,wkL_len];show 2+l.length=_;omega
  ·rw[List.length_append,wkL_len];show 2+l.length<=30;omega
end Hd
end Go.Proofs
