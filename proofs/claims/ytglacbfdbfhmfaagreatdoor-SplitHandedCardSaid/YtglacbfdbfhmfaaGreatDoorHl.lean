/- the law. Part of the proof of girandolelaw12.SplitHanded. -/
import Derived.Test.YtglacbfdbfhmfaaGreatDoorHtA
import Derived.Test.YtglacbfdbfhmfaaGreatDoorHtB
import Derived.Test.YtglacbfdbfhmfaaGreatDoorHtC
import Derived.Test.YtglacbfdbfhmfaaGreatDoorHtD
import Derived.Test.YtglacbfdbfhmfaaGreatDoorHtE
import Derived.Test.YtglacbfdbfhmfaaGreatDoorHt
import Derived.Test.YtglacbfdbfhmfaaGreatDoorHd
import Derived.Test.YtglacbfdbfhmfaaGreatDoorDp
set_option linter.unusedVariables false
set_option linter.unusedSimpArgs false
set_option maxRecDepth 1000000
namespace Go.Proofs
open Go Go.Abs
namespace Hd
theorem gL:∀ i c,i<10->c<=i->bX (L3 i c) 8
 | 0,0,_,_=>gL0_0
 | 0,c+1,_,h=>absurd h (by omega)
 | 1,0,_,_=>gL1_0
 | 1,1,_,_=>gL1_1
 | 1,c+2,_,h=>absurd h (by omega)
 | 2,0,_,_=>gL2_0
 | 2,1,_,_=>gL2_1
 | 2,2,_,_=>gL2_2
 | 2,c+3,_,h=>absurd h (by omega)
 | 3,0,_,_=>gL3_0
 | 3,1,_,_=>gL3_1
 | 3,2,_,_=>gL3_2
 | 3,3,_,_=>gL3_3
 | 3,c+4,_,h=>absurd h (by omega)
 | 4,0,_,_=>gL4_0
 | 4,1,_,_=>gL4_1
 | 4,2,_,_=>gL4_2
 | 4,3,_,_=>gL4_3
 | 4,4,_,_=>gL4_4
 | 4,c+5,_,h=>absurd h (by omega)
 | 5,0,_,_=>gL5_0
 | 5,1,_,_=>gL5_1
 | 5,2,_,_=>gL5_2
 | 5,3,_,_=>gL5_3
 | 5,4,_,_=>gL5_4
 | 5,5,_,_=>gL5_5
 | 5,c+6,_,h=>absurd h (by omega)
 | 6,0,_,_=>gL6_0
 | 6,1,_,_=>gL6_1
 | 6,2,_,_=>gL6_2
 | 6,3,_,_=>gL6_3
 | 6,4,_,_=>gL6_4
 | 6,5,_,_=>gL6_5
 | 6,6,_,_=>gL6_6
 | 6,c+7,_,h=>absurd h (by omega)
 | 7,0,_,_=>gL7_0
 | 7,1,_,_=>gL7_1
 | 7,2,_,_=>gL7_2
 | 7,3,_,_=>gL7_3
 | 7,4,_,_=>gL7_4
 | 7,5,_,_=>gL7_5
 | 7,6,_,_=>gL7_6
 | 7,7,_,_=>gL7_7
 | 7,c+8,_,h=>absurd h (by omega)
 | 8,0,_,_=>gL8_0
 | 8,1,_,_=>gL8_1
 | 8,2,_,_=>gL8_2
 | 8,3,_,_=>gL8_3
 | 8,4,_,_=>gL8_4
 | 8,5,_,_=>gL8_5
 | 8,6,_,_=>gL8_6
 | 8,7,_,_=>gL8_7
 | 8,8,_,_=>gL8_8
 | 8,c+9,_,h=>absurd h (by omega)
 | 9,0,_,_=>gL9_0
 | 9,1,_,_=>gL9_1
 | 9,2,_,_=>gL9_2
 | 9,3,_,_=>gL9_3
 | 9,4,_,_=>gL9_4
 | 9,5,_,_=>gL9_5
 | 9,6,_,_=>gL9_6
 | 9,7,_,_=>gL9_7
 | 9,8,_,_=>gL9_8
 | 9,9,_,_=>gL9_9
 | 9,c+10,_,h=>absurd h (by omega)
 | i+10,c,h,_=>absurd h (by omega)
theorem gP:∀ i c,i<9->c<=i->P3 i c
 | 0,0,_,_=>gP0_0
 | 0,c+1,_,h=>absurd h (by omega)
 | 1,0,_,_=>gP1_0
 | 1,1,_,_=>gP1_1
 | 1,c+2,_,h=>absurd h (by omega)
 | 2,0,_,_=>gP2_0
 | 2,1,_,_=>gP2_1
 | 2,2,_,_=>gP2_2
 | 2,c+3,_,h=>absurd h (by omega)
 | 3,0,_,_=>gP3_0
 | 3,1,_,_=>gP3_1
 | 3,2,_,_=>gP3_2
 | 3,3,_,_=>gP3_3
 | 3,c+4,_,h=>absurd h (by omega)
 | 4,0,_,_=>gP4_0
 | 4,1,_,_=>gP4_1
 | 4,2,_,_=>gP4_2
 | 4,3,_,_=>gP4_3
 | 4,4,_,_=>gP4_4
 | 4,c+5,_,h=>absurd h (by omega)
 | 5,0,_,_=>gP5_0
 | 5,1,_,_=>gP5_1
 | 5,2,_,_=>gP5_2
 | 5,3,_,_=>gP5_3
 | 5,4,_,_=>gP5_4
 | 5,5,_,_=>gP5_5
 | 5,c+6,_,h=>absurd h (by omega)
 | 6,0,_,_=>gP6_0
 | 6,1,_,_=>gP6_1
 | 6,2,_,_=>gP6_2
 | 6,3,_,_=>gP6_3
 | 6,4,_,_=>gP6_4
 | 6,5,_,_=>gP6_5
 | 6,6,_,_=>gP6_6
 | 6,c+7,_,h=>absurd h (by omega)
 | 7,0,_,_=>gP7_0
 | 7,1,_,_=>gP7_1
 | 7,2,_,_=>gP7_2
 | 7,3,_,_=>gP7_3
 | 7,4,_,_=>gP7_4
 | 7,5,_,_=>gP7_5
 | 7,6,_,_=>gP7_6
 | 7,7,_,_=>gP7_7
 | 7,c+8,_,h=>absurd h (by omega)
 | 8,0,_,_=>gP8_0
 | 8,1,_,_=>gP8_1
 | 8,2,_,_=>gP8_2
 | 8,3,_,_=>gP8_3
 | 8,4,_,_=>gP8_4
 | 8,5,_,_=>gP8_5
 | 8,6,_,_=>gP8_6
 | 8,7,_,_=>gP8_7
 | 8,8,_,_=>gP8_8
 | 8,c+9,_,h=>absurd h (by omega)
 | i+9,c,h,_=>absurd h (by omega)
end Hd
namespace Hd
def f6 (n:Nat)(bits:Nat->Bool)(a i:Nat):List Seg:=cond (Nat.beq (i+1) n) (ml i a) (cond (bits i) (sr i) (sQ i))
def cn (n:Nat)(bits:Nat->Bool)(a k:Nat):List Seg:=(List.range k).flatMap (f6 n bits a)
def kH (n:Nat)(bits:Nat->Bool)(a:Nat):List Nat:=headA++(da (cn n bits a n)++[32])
def Bv (p:Nat):TkR:=⟨5,p,[],0,0,p⟩
def TS (n:Nat)(bits:Nat->Bool)(a:Nat):List TkR:=HT++(segT (cn n bits a n) 132++[Bv (132+(da (cn n bits a n)).length+1)])
theorem mR (l m:List Seg):da (l++m)=da l++da m:=by simp[da]
theorem segT_app:∀ (l m:List Seg) (j:Nat),segT (l++m) j=segT l j++segT m (j+(da l).length)
 | [],m,j=>rfl
 | s::l,m,j=>by
   have e:(da (s::l)).length=(s.b.length+1)+(da l).length:=by simp[da];omega
   rw[List.cons_append];simp only[segT,segT_app l m,List.append_assoc,e,Nat.add_assoc]
theorem ja (n:Nat)(bits:Nat->Bool)(a k:Nat):cn n bits a (k+1)=cn n bits a k++f6 n bits a k:=by
 unfold cn;rw[List.range_succ,List.flatMap_append];simp
theorem zk (n:Nat)(bits:Nat->Bool)(a i:Nat):∀ m,∃ tl,cn n bits a (i+1+m)=cn n bits a i++(f6 n bits a i++tl)
 | 0=>⟨[],by rw[Nat.add_zero,ja,List.append_nil]⟩
 | m+1=>by
   obtain ⟨tl,h⟩:=zk n bits a i m;exact ⟨tl++f6 n bits a (i+1+m),by rw[show i+1+(m+1)=(i+1+m)+1 by omega,ja,h,List.append_assoc,List.append_assoc]⟩
theorem Vu {a:Nat}:∀ s∈zs a,s.ok:=by
 intro s hs;unfold zs at hs;cases hb:Nat.beq a 1 with
 | true=>rw[hb] at hs;simp only[cond_true,List.mem_singleton] at hs;rw[hs];exact z1_ok
 | false =>
   rw[hb] at hs;simp only[cond_false,List.mem_cons,List.mem_append,List.mem_replicate,List.not_mem_nil,or_false] at hs
   rcases hs with rfl|⟨_,rfl⟩|rfl
   ·exact zA_ok
   ·exact zM_ok
   ·exact zE_ok
theorem Jv {n:Nat}{bits:Nat->Bool}{a i:Nat}(hi:i<n)(hn:n<=10):∀ s∈f6 n bits a i,s.ok:=by
 intro s hs;unfold f6 at hs;cases hb:Nat.beq (i+1) n with
 | true =>
   rw[hb] at hs;simp only[cond_true,ml,List.mem_cons,List.mem_append,List.not_mem_nil,or_false] at hs
   rcases hs with rfl|rfl|rfl|hs|rfl
   ·exact sN_ok i (by omega)
   ·exact sLB_ok
   ·exact sAw_ok
   ·exact Vu s hs
   ·exact sT_ok
 | false =>
   rw[hb] at hs;have hne:i+1≠n:=λh=>by rw[h,Nat.beq_refl] at hb;cases hb
   cases hbi:bits i with
   | true =>
     rw[hbi] at hs;simp only[cond_true,cond_false,sr,List.mem_cons,List.not_mem_nil,or_false] at hs
     rcases hs with rfl|rfl|rfl|rfl
     ·exact sN_ok i (by omega)
     ·exact sVU_ok
     ·exact sC_ok (i+1) (by omega)
     ·exact sB7_ok
   | false =>
     rw[hbi] at hs;simp only[cond_false,sQ,List.mem_cons,List.not_mem_nil,or_false] at hs
     rcases hs with rfl|rfl|rfl|rfl
     ·exact sN_ok i (by omega)
     ·exact sLB_ok
     ·exact sC_ok (i+1) (by omega)
     ·exact sT_ok
theorem GG {n:Nat}{bits:Nat->Bool}{a:Nat}(hn:n<=10):∀ s∈cn n bits a n,s.ok:=by
 intro s hs;obtain ⟨i,hi,hs⟩:=List.mem_flatMap.1 hs;exact Jv (List.mem_range.1 hi) hn s hs
theorem jx (bits:Nat->Bool):∀ k,pc bits k<=k
 | 0=>Nat.le_refl _
 | k+1=>by
   have:=jx bits k;simp only[pc];cases bits k<;>simp<;>omega
section
variable {n:Nat}{bits:Nat->Bool}{a:Nat}
theorem re {i:Nat}(h:i+1≠n):f6 n bits a i=cond (bits i) (sr i) (sQ i):=by
 unfold f6;rw[sJ h];rfl
theorem len_B:∀ k,k+1<=n->(da (cn n bits a k)).length=59*(k-pc bits k)+91*pc bits k
 | 0,h=>rfl
 | k+1,h=>by
   have hp:=jx bits k;have ih:=len_B k (by omega)
   rw[ja,mR,List.length_append,ih,re (by omega)]
   simp only[pc];cases bits k with
   | true=>rw[cond_true,cond_true,show (da (sr k)).length=91 from rfl];omega
   | false=>rw[cond_false,cond_false,show (da (sQ k)).length=59 from rfl];omega
theorem Gb (j:Nat):∀ k,k+1<=n->(segT (cn n bits a k) j).length=23*(k-pc bits k)+34*pc bits k
 | 0,h=>rfl
 | k+1,h=>by
   have hp:=jx bits k;have ih:=Gb j k (by omega)
   rw[ja,segT_app,List.length_append,ih,re (by omega)]
   simp only[pc];cases bits k with
   | true=>rw[cond_true,cond_true,show ∀ x,(segT (sr k) x).length=34 from λ_=>rfl];omega
   | false=>rw[cond_false,cond_false,show ∀ x,(segT (sQ k) x).length=23 from λ_=>rfl];omega
theorem off_eq:∀ i,off bits i=JJ i (pc bits i)+1
 | 0=>rfl
 | i+1=>by
   have hp:=jx bits i;have:=off_eq i;simp only[off,pc,this,JJ];cases bits i<;>simp<;>omega
theorem spn_eq:∀ (X Y:List TkR) (f:Nat->TkR) (i:Nat),(∀ k x,X[k]?=some x->f (i+k)=x)->X++Y=spn X.length f i Y
 | [],Y,f,i,h=>rfl
 | x::X,Y,f,i,h=>by
   rw[List.cons_append,List.length_cons];simp only[spn];rw[spn_eq X Y f (i+1) (λk y hk=>by have:=h (k+1) y (by simpa using hk);rw[show i+1+k=i+(k+1) by omega];exact this),show f i=x from h 0 x rfl]
theorem M2 {i:Nat}(hi:i<n):∃ f rest,TS n bits a=spn (PI i (pc bits i)) f 0 (segT (f6 n bits a i) (JJ i (pc bits i))++rest):=by
 obtain ⟨tl,h⟩:=zk n bits a i (n-1-i);rw[show i+1+(n-1-i)=n by omega] at h
 have hB:=len_B (n:=n) (bits:=bits) (a:=a) i (by omega)
 have hT:=Gb (n:=n) (bits:=bits) (a:=a) 132 i (by omega)
 let X:=HT++segT (cn n bits a i) 132
 have hX:X.length=PI i (pc bits i):=by
  show (HT++segT (cn n bits a i) 132).length=_;rw[List.length_append,hT];show 55+_=_;unfold PI;omega
 refine ⟨λk=>X.getD k (Bv 0),segT tl (JJ i (pc bits i)+(da (f6 n bits a i)).length)++[Bv (132+(da (cn n bits a n)).length+1)],?_⟩
 rw[<-hX,<-spn_eq X _ _ 0 (λk x hk=>by simp[List.getD_eq_getElem?_getD,hk])]
 have hj:132+(da (cn n bits a i)).length=JJ i (pc bits i):=by rw[hB];unfold JJ;omega
 show HT++(segT (cn n bits a n) 132++_)=(HT++segT (cn n bits a i) 132)++_;rw[List.append_assoc]
 congr 1
 have e:segT (cn n bits a n) 132=segT (cn n bits a i) 132++(segT (f6 n bits a i) (JJ i (pc bits i))++segT tl (JJ i (pc bits i)+(da (f6 n bits a i)).length)):=by
  conv=>lhs;rw[h]
  rw[segT_app,segT_app,hj]
 rw[e,List.append_assoc,List.append_assoc]
end
end Hd
namespace Hd
theorem Ks (k j:Nat):kW wordsS signsS (k+1) [32] j=some [Bv (j+1)]:=by kernel_rfl
theorem Yo (i x:Nat):∀ a,0<a->a<=8->(segT (ml i a) x).length=2*a+23/\(da (ml i a)).length<=150
 | 0,h,_=>absurd h (by omega)
 | 1,_,_=>⟨rfl,Nat.le_of_ble_eq_true rfl⟩
 | 2,_,_=>⟨rfl,Nat.le_of_ble_eq_true rfl⟩
 | 3,_,_=>⟨rfl,Nat.le_of_ble_eq_true rfl⟩
 | 4,_,_=>⟨rfl,Nat.le_of_ble_eq_true rfl⟩
 | 5,_,_=>⟨rfl,Nat.le_of_ble_eq_true rfl⟩
 | 6,_,_=>⟨rfl,Nat.le_of_ble_eq_true rfl⟩
 | 7,_,_=>⟨rfl,Nat.le_of_ble_eq_true rfl⟩
 | 8,_,_=>⟨rfl,Nat.le_of_ble_eq_true rfl⟩
 | a+9,_,h=>absurd h (by omega)
section
variable {n:Nat}{bits:Nat->Bool}{a:Nat}
theorem Bz (i:Nat)(h:i+1=n):cn n bits a n=cn n bits a i++ml i a:=by
 conv=>lhs;rw[<-h]
 rw[h,<-h,ja]
 congr 1
 unfold f6;rw[h,Nat.beq_refl];rfl
theorem rj (h0:0<n)(ha0:0<a)(ha:a<=8):(segT (cn n bits a n) 132).length+55=PI (n-1) (pc bits (n-1))+(2*a+23)/\(da (cn n bits a n)).length<=91*n+150:=by
 have hB:=len_B (n:=n) (bits:=bits) (a:=a) (n-1) (by omega)
 have hT:=Gb (n:=n) (bits:=bits) (a:=a) 132 (n-1) (by omega)
 have hp:=jx bits (n-1);have hL:=λx=>Yo (n-1) x a ha0 ha
 rw[Bz (n-1) (by omega),segT_app,mR,List.length_append,List.length_append,hT,hB,(hL _).1]
 refine ⟨by unfold PI;omega,?_⟩
 have:=(hL 0).2;omega
theorem Hi (h0:0<n)(hn:n<=10)(ha0:0<a)(ha:a<=8):kW wordsS signsS 4100 (kH n bits a) 0=some (TS n bits a):=by
 obtain ⟨h1,h2⟩:=rj (bits:=bits) h0 ha0 ha;have hp:=jx bits (n-1);unfold PI at h1;obtain ⟨q,hq⟩ : ∃ q,4100=55+((segT (cn n bits a n) 132).length+(q+1)):=⟨4100-56-(segT (cn n bits a n) 132).length,by omega⟩
 rw[hq];have a2:=segs_ok (cn n bits a n) (GG hn) [] 132 (q+1) _ (Ks q _);obtain ⟨rr,hr⟩:=yV (cn n bits a n) [];unfold kH;rw[hr] at a2 ⊢;exact rX 55 _ _ _ _ _ _ _ (CO rr) a2
theorem Df (h0:0<n)(ha0:0<a)(ha:a<=8):ko (TS n bits a) (PI (n-1) (pc bits (n-1))+(2*a+23))=some true:=by
 obtain ⟨h1,_⟩:=rj (bits:=bits) h0 ha0 ha
 have hX:aa (HT++segT (cn n bits a n) 132)=PI (n-1) (pc bits (n-1))+(2*a+23):=by
  rw[ai,List.length_append,<-h1,Nat.add_comm];rfl
 unfold ko TS;rw[<-List.append_assoc,<-hX,an];rfl
theorem YK (h0:0<n)(hn:n<=10)(ha0:0<a)(ha:a<=8):∀ (d i:Nat),i+d+1=n->∀ (acc:List NdR) (g:Nat),LH (TS n bits a) ((List.range' i (d+1)).map λi=>kS n bits a i (off bits i)) acc g (PI i (pc bits i)) (PI (n-1) (pc bits (n-1))+(2*a+23))
 | 0,i,h,acc,g=>by
   have hi:n-1=i:=by omega
   obtain ⟨f,rest,hts⟩:=M2 (n:=n) (bits:=bits) (a:=a) (i:=i) (by omega)
   have hs:f6 n bits a i=ml i a:=by unfold f6;rw[show i+1=n by omega,Nat.beq_refl];rfl
   have hd:kS n bits a i (off bits i)=Sq i (JJ i (pc bits i)+1) a:=by unfold kS;rw[show i+1=n by omega,Nat.beq_refl,off_eq];rfl
   obtain ⟨k1,k2⟩:=sM (gL i (pc bits i) (by omega) (jx bits i)) (a-1) (by omega) f rest acc g
   rw[show a-1+1=a by omega,show 2*(a-1)+25=2*a+23 by omega] at k2
   rw[show a-1+1=a by omega] at k1
   rw[hs] at hts;rw[<-hts] at k1 k2;show LH (TS n bits a) [kS n bits a i (off bits i)] acc g _ _;rw[hd,hi];refine Ad _ k1 k2 ⟨rfl,?_⟩;rw[<-hi];exact Df h0 ha0 ha
 | d+1,i,h,acc,g=>by
   obtain ⟨f,rest,hts⟩:=M2 (n:=n) (bits:=bits) (a:=a) (i:=i) (by omega)
   have hp:=jx bits i;obtain ⟨kP,kA⟩:=gP i (pc bits i) (by omega) hp
   rw[re (by omega)] at hts
   rw[List.range'_succ,List.map_cons];have ih:=YK h0 hn ha0 ha d (i+1) (by omega) (acc++[kS n bits a i (off bits i)]) (g+1)
   have hdn:kS n bits a i (off bits i)=cond (bits i) (TM i (JJ i (pc bits i)+1)) (TH i (JJ i (pc bits i)+1)):=by unfold kS;rw[sJ (show i+1≠n by omega),off_eq];rfl
   cases hb:bits i with
   | true =>
     rw[hb] at hts hdn;simp only[cond_true] at hts hdn;obtain ⟨k1,k2⟩:=kA f rest acc g;rw[<-hts] at k1 k2;have hpi:PI i (pc bits i)+34=PI (i+1) (pc bits (i+1)):=by simp only[pc,hb,cond_true,PI];omega
     rw[hpi] at k2;rw[hdn] at ih ⊢;exact Ad _ k1 k2 ih
   | false =>
     rw[hb] at hts hdn;simp only[cond_false] at hts hdn;obtain ⟨k1,k2⟩:=kP f rest acc g;rw[<-hts] at k1 k2;have hpi:PI i (pc bits i)+23=PI (i+1) (pc bits (i+1)):=by simp only[pc,hb,cond_false,PI];omega
     rw[hpi] at k2;rw[hdn] at ih ⊢;exact Ad _ k1 k2 ih
theorem Xt (h0:0<n)(hn:n<=10)(ha0:0<a)(ha:a<=8):Pk (kH n bits a) (bz n bits a):=by
 obtain ⟨g1,g2⟩:=Zd (segT (cn n bits a n) 132++[Bv (132+(da (cn n bits a n)).length+1)]);have hF:=recC_le _ _ _ _ (Zp (segT (cn n bits a n) 132++[Bv (132+(da (cn n bits a n)).length+1)]));have hp:=YK (bits:=bits) h0 hn ha0 ha (n-1) 0 (by omega) [fN,gN] 1
 rw[show n-1+1=n by omega,<-List.range_eq_range'] at hp
 have hl:((List.range n).map λi=>kS n bits a i (off bits i)).length<=99:=by simp;omega
 exact ⟨TS n bits a,_,_,Hi h0 hn ha0 ha,Tt (l:=gN::(List.range n).map λi=>kS n bits a i (off bits i)) hF (Ad 55 g1 g2 hp) (by rw[List.length_cons];omega) (Df h0 ha0 ha)⟩
end
end Hd
namespace Hd
def bB (l:List Nat):Bool:=l.all λb=>Nat.ble b 255
theorem LB {i:Nat}(h:i<20)(x y:List Nat)(hx:bB x=true)(hy:bB y=true):bB (x++dx i++y)=true:=by
 unfold bB at *;rw[List.all_append,List.all_append,hx,hy];have h1:Nat.ble 102 255=true:=rfl;have h2:Nat.ble (97+i) 255=true:=Nat.ble_eq_true_of_le (by omega)
 simp only[dx,List.all_cons,List.all_nil,h1,h2,Bool.and_self]
theorem PM {i:Nat}(h:i<20):bB (sN i).b=true:=LB h _ _ (by decide) (by decide)
theorem T0 {i:Nat}(h:i<20):bB (sC i).b=true:=by
 have:=LB h [] [40,119,41,59] rfl (by decide)
 exact this
theorem Yt {a:Nat}:∀ s∈zs a,bB s.b=true:=by
 intro s hs;unfold zs at hs;cases hb:Nat.beq a 1 with
 | true=>rw[hb] at hs;simp only[cond_true,List.mem_singleton] at hs;rw[hs];decide
 | false =>
   rw[hb] at hs;simp only[cond_false,List.mem_cons,List.mem_append,List.mem_replicate,List.not_mem_nil,or_false] at hs
   rcases hs with rfl|⟨_,rfl⟩|rfl<;>decide
theorem OH {n:Nat}{bits:Nat->Bool}{a i:Nat}(hi:i<10):∀ s∈f6 n bits a i,bB s.b=true:=by
 intro s hs;unfold f6 at hs;cases hb:Nat.beq (i+1) n with
 | true =>
   rw[hb] at hs;simp only[cond_true,ml,List.mem_cons,List.mem_append,List.not_mem_nil,or_false] at hs
   rcases hs with rfl|rfl|rfl|hs|rfl
   ·exact PM (by omega)
   ·decide
   ·decide
   ·exact Yt s hs
   ·decide
 | false =>
   rw[hb] at hs;cases hbi:bits i with
   | true =>
     rw[hbi] at hs;simp only[cond_true,cond_false,sr,List.mem_cons,List.not_mem_nil,or_false] at hs
     rcases hs with rfl|rfl|rfl|rfl
     ·exact PM (by omega)
     ·decide
     ·exact T0 (by omega)
     ·decide
   | false =>
     rw[hbi] at hs;simp only[cond_false,sQ,List.mem_cons,List.not_mem_nil,or_false] at hs
     rcases hs with rfl|rfl|rfl|rfl
     ·exact PM (by omega)
     ·decide
     ·exact T0 (by omega)
     ·decide
theorem SD {n:Nat}{bits:Nat->Bool}{a:Nat}(h0:0<n)(hn:n<=10)(ha0:0<a)(ha:a<=8):WT (kH n bits a)=true:=by
 obtain ⟨_,h2⟩:=rj (n:=n) (bits:=bits) (a:=a) h0 ha0 ha;unfold WT;rw[Bool.and_eq_true,dW,decide_eq_true_eq,ai]
 constructor
 ·unfold kH;rw[List.length_append,List.length_append];have:headA.length=132:=rfl;simp only[List.length_cons,List.length_nil];omega
 ·show bB (kH n bits a)=true;unfold kH bB;rw[List.all_append,List.all_append];have h1:(headA.all λb=>Nat.ble b 255)=true:=by decide
  have h3:((da (cn n bits a n)).all λb=>Nat.ble b 255)=true:=by
   rw[List.all_eq_true];intro b hb;unfold da at hb;obtain ⟨s,hs,hb⟩:=List.mem_flatMap.1 hb;obtain ⟨i,hi,hs⟩:=List.mem_flatMap.1 hs;have hS:=OH (n:=n) (bits:=bits) (a:=a) (i:=i) (by have:=List.mem_range.1 hi;omega) s hs
   rcases List.mem_cons.1 hb with rfl|hb
   ·rfl
   ·exact List.all_eq_true.1 hS b hb
  rw[h1,h3];rfl
def nW:List NdR:=[⟨[102],5,[⟨[120],7,false,false,[],false⟩],[⟨[121],24,false,false,[],false⟩],[⟨[117],36,false,true,[],false⟩],[⟨[([117],55)],true,.mk 13 65 0 [103] false [.mk 3 67 0 [120] false []]⟩,⟨[([121],71)],false,.mk 14 75 0 [117] false [.mk 1 90 0 [] false []]⟩]⟩,
 ⟨[103],103,[⟨[97],105,false,false,[],false⟩],[⟨[98],122,false,false,[],false⟩],[],[⟨[([98],134)],false,.mk 3 138 0 [97] false []⟩]⟩]
def Yg (s:List Nat):List TkR:=match kW wordsS signsS 4100 s 0 with
 | some l=>l
 | none=>[]
theorem pk_w:Pk tW nW:=⟨Yg tW,57,1,by kernel_rfl,recC_le _ _ _ _ (by kernel_rfl)⟩
abbrev mW:List (FuncId×List AV×AV):=(14,[.str tW],pV nW)::memo1
theorem mW_ok:ek CC (memoL mW):=zd memo1_ok (by kernel_rfl) pk_w
theorem sp_w:∃ wn e0 e1,lm 200 5 nW=some (wn,[e0,e1])/\wn.length=2/\e0.ah.length=0/\e1.ah.length=1:=⟨[⟨[102],[],1⟩,⟨[103],[],2⟩],⟨0,1,true,⟨false,0,1⟩,0,[]⟩,⟨1,0,false,⟨false,0,2⟩,0,[0]⟩,by kernel_rfl,rfl,rfl,rfl⟩
end Hd
namespace Hd
def rowB (l:Option (List Bool)):AV:=match l with
 | none=>.nils
 | some l=>.sl 1 (l.map (.bool ·)) .frz
def lstB:Option (List Bool)->List Bool
 | none=>[]
 | some l=>l
theorem Ee (l:Option (List Bool)):aO CC 42 (rowB l)=some (.int .i64 ((lstB l).length:Int)):=by
 have:CC.P.underlying 42=some (.slice 4):=by kernel_rfl
 cases l<;>(rw[cA];simp[rowB,lstB,dh,this])
theorem Fx {l:Option (List Bool)}{i:Nat}{b:Bool}(h:(lstB l)[i]?=some b):aL 1 (rowB l) (.int .i64 (i:Int))=some (.iptr [.bool b]):=by
 cases l with
 | none=>simp[lstB] at h
 | some l =>
   refine bN (v:=.bool b) ?_;have h' : l[i]?=some b:=h;rw[aB,List.getElem?_map,h'];rfl
theorem iV (t:Bool){a b:List Nat}(h:a.length+b.length<2 ^ 62):bw CC .add 9 t (.str a) (.str b)=some (.str (a++b)):=by
 have h0:bF CC .add 9 (.str a) (.str b)=some (.str (a++b)):=by
  simp only[bF,kz];rw[if_pos h]
 cases t
 ·exact h0
 ·exact h0
theorem cvd:∀ (d:Nat),d<11->bp CC 3 5 (.int .i64 ((97+d:Nat):Int))=some (.int .u8 ((97+d:Nat):Int))
 | 0,_=>by kernel_rfl
 | 1,_=>by kernel_rfl
 | 2,_=>by kernel_rfl
 | 3,_=>by kernel_rfl
 | 4,_=>by kernel_rfl
 | 5,_=>by kernel_rfl
 | 6,_=>by kernel_rfl
 | 7,_=>by kernel_rfl
 | 8,_=>by kernel_rfl
 | 9,_=>by kernel_rfl
 | 10,_=>by kernel_rfl
 | n+11,h=>absurd h (by omega)
theorem X8 (a:Nat):aM CC 24 1 [(0,.int .u8 (a:Int))]=some (.sl 1 [.int .u8 (a:Int)] .lit):=by kernel_rfl
theorem cvs:∀ (a:Nat),a<11->bp CC 24 9 (.sl 1 [.int .u8 ((97+a:Nat):Int)] .lit)=some (.str [97+a])
 | 0,_=>by kernel_rfl
 | 1,_=>by kernel_rfl
 | 2,_=>by kernel_rfl
 | 3,_=>by kernel_rfl
 | 4,_=>by kernel_rfl
 | 5,_=>by kernel_rfl
 | 6,_=>by kernel_rfl
 | 7,_=>by kernel_rfl
 | 8,_=>by kernel_rfl
 | 9,_=>by kernel_rfl
 | 10,_=>by kernel_rfl
 | n+11,h=>absurd h (by omega)
theorem Qo (a:AV)(s:St):dN CC 22 [a] s=some (.call 22 [a]):=by kernel_rfl
section
variable {M:Memo}
theorem L8 (h22:∀ a,M 22 a=none){i:Nat}(hi:i<11)(H:Heap):orc CC M 22 [.int .i64 (i:Int)] H=some (.ret (.str (dx i)) H (aa H)):=by
 refine aJ (z:=z22) (h22 _) (by kernel_rfl) rfl ?_
 have e0:(envOf [.int .i64 (i:Int)] 0 env0).a.a.a=.int .i64 (i:Int):=rfl;generalize envOf [.int .i64 (i:Int)] 0 env0=R at e0;have a1:bR 97 (i:Int)=((97+i:Nat):Int):=aZ 97 i (by unfold natMax;omega)
 have c1:=cvd _ hi;have b:=X8 (97+i);have c:=cvs _ hi;have s:=iV true (a:=[102]) (b:=[97+i]) (by simp)
 simp only[z22,Ky,Ob,SIM,ST0,e0,a1,c1,b,c,s,Nat.reduceAdd,Nat.reduceLeDiff];rfl
end
def val:Nat->List Nat
 | 0=>[48]
 | k+1=>val k++[44,32,48]
theorem val_len:∀ k,(val k).length=3*k+1
 | 0=>rfl
 | k+1=>by simp only[val,List.length_append,val_len k,List.length_cons,List.length_nil];omega
def tT (n:Nat)(bits:Nat->Bool)(a i:Nat):List Nat:=headA++da (cn n bits a i)++[32]
theorem OG {n:Nat}{bits:Nat->Bool}{a i:Nat}(h:i+1<=n):(tT n bits a i).length<=133+91*i:=by
 have:=len_B (n:=n) (bits:=bits) (a:=a) i h;have hp:=jx bits i;have h1:headA.length=132:=rfl;unfold tT;rw[List.length_append,List.length_append,this,h1];simp only[List.length_cons,List.length_nil];omega
theorem QY {n:Nat}{bits:Nat->Bool}{a i:Nat}{X:List Nat}(h:32::X=da (f6 n bits a i)++[32]):tT n bits a i++X=tT n bits a (i+1):=by
 unfold tT;rw[ja,mR,List.append_assoc,List.append_assoc,List.append_assoc,List.append_assoc,<-h];rfl
theorem Y7 (i:Nat):32::([110,111,100,101,32]++dx i++[40,119,58,32,102,117,116,117,114,101,32,105,110,116,41,32,114,101,116,117,114,110,115,32,40,98,58,32,105,110,116,41,32,108,101,116,32,98,32,61,32]++dx (i+1)++[40,119,41,59,32,116,101,108,32])=da (sQ i)++[32]:=rfl
theorem Za (i:Nat):32::([110,111,100,101,32]++dx i++[40,119,58,32,102,117,116,117,114,101,32,105,110,116,41,32,114,101,116,117,114,110,115,32,40,98,58,32,105,110,116,41,32,118,97,114,32,117,58,32,102,117,116,117,114,101,32,105,110,116,59,32,108,101,116,32,117,32,61,32,97,115,121,110,99,32]++dx (i+1)++[40,119,41,59,32,98,32,61,32,55,59,32,116,101,108,32])=da (sr i)++[32]:=rfl
theorem Y8 (i:Nat):∀ a,0<a->a<=8->32::([110,111,100,101,32]++dx i++[40,119,58,32,102,117,116,117,114,101,32,105,110,116,41,32,114,101,116,117,114,110,115,32,40,98,58,32,105,110,116,41,32,108,101,116,32,98,32,61,32,97,119,97,105,116,32,119,32,97,102,116,101,114,32,40]++val (a-1)++[41,59,32,116,101,108,32])=da (ml i a)++[32]
 | 0,h,_=>absurd h (by omega)
 | 1,_,_=>rfl
 | 2,_,_=>rfl
 | 3,_,_=>rfl
 | 4,_,_=>rfl
 | 5,_,_=>rfl
 | 6,_,_=>rfl
 | 7,_,_=>rfl
 | 8,_,_=>rfl
 | a+9,_,h=>absurd h (by omega)
section
variable {M:Memo}
def R1 (l:Option (List Bool))(n a:Nat)(r:RG):Prop:=r.a.a.a=rowB l/\r.a.a.b=.int .i64 (a:Int)/\r.a.a.f=.int .i64 (n:Int)
theorem vT {l:Option (List Bool)}{n a:Nat}(ha:a<=8):∀ (k i:Nat),k+i+1=a->∀ (fu:Nat),k<fu->∀ (r:RG),R1 l n a r->(r.a.a.g=.str (val i)/\r.a.d.d=.int .i64 ((a-1:Nat):Int)/\r.a.d.e=.int .i64 (i:Int)) ->
  ∃ r',ax (t6 (orc CC M)) fu r [] ⟨[],0⟩=some (.exit 0,r',[],⟨[],0⟩)/\R1 l n a r'/\r'.a.a.g=.str (val (a-1)):=by
 intro k
 induction k with
 | zero =>
   intro i hi fu hfu r hR ⟨h6,h27,h28⟩;obtain ⟨fu',rfl⟩ : ∃ f,fu=f+1:=⟨fu-1,by omega⟩
   have hc:decide ((i:Int)<((a-1:Nat):Int))=false:=by rw[decide_eq_false_iff_not];omega
   simp only[ax,t6,SY,SIM,ST0,ST1,h27,h28,hc];exact ⟨_,rfl,by first|exact hR,by rw[show a-1=i by omega];first|exact h6⟩
 | succ k ih =>
   intro i hi fu hfu r ⟨h0,h1,h5⟩ ⟨h6,h27,h28⟩;obtain ⟨fu',rfl⟩ : ∃ f,fu=f+1:=⟨fu-1,by omega⟩
   have hc:decide ((i:Int)<((a-1:Nat):Int))=true:=by rw[decide_eq_true_eq];omega
   have hadd:bR (i:Int) 1=((i+1:Nat):Int):=aZ i 1 (by unfold natMax;omega)
   have hv:=val_len i;have s1:=iV true (a:=val i) (b:=[44,32,48]) (by simp[hv];omega)
   have e1:val i++[44,32,48]=val (i+1):=rfl;rw[e1] at s1;have key:=ih (i+1) (by omega) fu' (by omega)
   simp only[ax,t6,SY,UG,Uz,SIM,ST0,ST1,h6,h27,h28,hc,s1,hadd,Nat.reduceAdd,Nat.reduceLeDiff];exact key _ ⟨by first|rfl|exact h0,by first|rfl|exact h1,by first|rfl|exact h5⟩ ⟨rfl,by first|rfl|exact h27,rfl⟩
def R3 (l:Option (List Bool))(n a:Nat)(bits:Nat->Bool)(i w:Nat)(r:RG):Prop:=R1 l n a r/\r.a.a.g=.str (val (a-1))/\r.a.a.h=.func (.func 22) [] []/\r.a.b.a=.str (tT n bits a i)/\r.a.b.b=.int .i64 ((w:Nat):Int)
theorem vK (h22:∀ a,M 22 a=none){l:Option (List Bool)}{n a:Nat}{bits:Nat->Bool}(hn:n<=10)(ha0:0<a)(ha:a<=8)(hbits:∀ i,i+1<n->(lstB l)[i]?=some (bits i)):∀ (k i:Nat),k+i=n->∀ (fu:Nat),k<fu->∀ (r:RG),R3 l n a bits i (2+pc bits (min i (n-1))) r->(r.a.e.b=.int .i64 (n:Int)/\r.a.e.c=.int .i64 (i:Int)) ->
  ∃ r',ax (nw (orc CC M)) fu r [] ⟨[],0⟩=some (.exit 2,r',[],⟨[],0⟩)/\R3 l n a bits n (2+pc bits (n-1)) r':=by
 intro k
 induction k with
 | zero =>
   intro i hi fu hfu r hR ⟨h33,h34⟩;obtain ⟨fu',rfl⟩ : ∃ f,fu=f+1:=⟨fu-1,by omega⟩
   have hin:i=n:=by omega
   subst hin;have hc:decide ((i:Int)<(i:Int))=false:=by simp
   rw[Nat.min_eq_right (Nat.sub_le i 1)] at hR;simp only[ax,nw,sx,SIM,ST0,ST1,ST2,h33,h34,hc];exact ⟨_,rfl,by first|exact hR⟩
 | succ k ih =>
   intro i hi fu hfu r ⟨⟨h0,h1,h5⟩,h6,h7,h8,h9⟩ ⟨h33,h34⟩;obtain ⟨fu',rfl⟩ : ∃ f,fu=f+1:=⟨fu-1,by omega⟩
   have hc:decide ((i:Int)<(n:Int))=true:=by rw[decide_eq_true_eq];omega
   have hadd:bR (i:Int) 1=((i+1:Nat):Int):=aZ i 1 (by unfold natMax;omega)
   have hsub:fR (n:Int) 1=((n-1:Nat):Int):=by
    have:=nY (n-1) 1 (by unfold natMax;omega)
    rw[show n-1+1=n by omega] at this
    exact this
   have hN1:=λH=>L8 (M:=M) h22 (i:=i) (by omega) H
   have hN2:=λH=>L8 (M:=M) h22 (i:=i+1) (by omega) H
   have hc22:=Qo;have hsl:=OG (n:=n) (bits:=bits) (a:=a) (i:=i) (by omega)
   have hvl:=val_len (a-1);have hnl:∀ i,(dx i).length=2:=λ_=>rfl
   have key:=ih (i+1) (by omega) fu' (by omega)
   by_cases hlast:i+1=n
   ·have hq:decide ((i:Int)=((n-1:Nat):Int))=true:=by rw[decide_eq_true_eq];omega
    have hs:f6 n bits a i=ml i a:=by unfold f6;rw[hlast,Nat.beq_refl];rfl
    obtain ⟨S1,S2,S3,S4,t1,t2,t3,t4,t5⟩ : ∃ S1 S2 S3 S4:List Nat,bw CC .add 9 true (.str [110,111,100,101,32]) (.str (dx i))=some (.str S1)/\bw CC .add 9 true (.str S1) (.str [40,119,58,32,102,117,116,117,114,101,32,105,110,116,41,32,114,101,116,117,114,110,115,32,40,98,58,32,105,110,116,41,32,108,101,116,32,98,32,61,32,97,119,97,105,116,32,119,32,97,102,116,101,114,32,40])=some (.str S2)/\bw CC .add 9 false (.str S2) (.str (val (a-1)))=some (.str S3)/\bw CC .add 9 true (.str S3) (.str [41,59,32,116,101,108,32])=some (.str S4)/\bw CC .add 9 false (.str (tT n bits a i)) (.str S4)=some (.str (tT n bits a (i+1))):=by
     refine ⟨_,_,_,_,iV _ (by simp[hnl]),iV _ (by simp[hnl]),iV _ (by simp[hnl,hvl];omega),iV _ (by simp[hnl,hvl];omega),?_⟩
     rw[iV _ (by simp[hnl,hvl];omega),QY (by rw[hs];exact Y8 i a ha0 ha)]
    rw[show min i (n-1)=n-1 by omega] at h9
    simp only[ax,nw,sx,yg,AB,LU,yc,SIM,ST0,ST1,ST2,h0,h1,h5,h6,h7,h8,h9,h33,h34,hc,hsub,hq,hc22,hN1,t1,t2,t3,t4,t5,hadd,Nat.zero_min,Nat.reduceAdd,Nat.reduceLeDiff];exact key _ ⟨⟨by first|rfl|exact h0,by first|rfl|exact h1,by first|rfl|exact h5⟩,by first|rfl|exact h6,by first|rfl|exact h7,rfl,by rw[show min (i+1) (n-1)=n-1 by omega]⟩ ⟨by first|rfl|exact h33,rfl⟩
   ·have hq:decide ((i:Int)=((n-1:Nat):Int))=false:=by rw[decide_eq_false_iff_not];omega
    have hs:=re (n:=n) (bits:=bits) (a:=a) (i:=i) hlast;have hias:=Fx (hbits i (by omega))
    have hld:∀ (a:AV) (h:Heap),aw none (.iptr [a]) h=some a:=λ_ _=>rfl
    rw[show min i (n-1)=i by omega] at h9
    have hpl:=jx bits i;cases hb:bits i with
    | true =>
      rw[hb] at hs hias;have hw:bR ((2+pc bits i:Nat):Int) 1=((2+pc bits i+1:Nat):Int):=aZ (2+pc bits i) 1 (by unfold natMax;omega)
      have hw2:pc bits (i+1)=pc bits i+1:=by simp only[pc,hb,cond_true]
      obtain ⟨S1,S2,S3,S4,t1,t2,t3,t4,t5⟩ : ∃ S1 S2 S3 S4:List Nat,bw CC .add 9 true (.str [110,111,100,101,32]) (.str (dx i))=some (.str S1)/\bw CC .add 9 true (.str S1) (.str [40,119,58,32,102,117,116,117,114,101,32,105,110,116,41,32,114,101,116,117,114,110,115,32,40,98,58,32,105,110,116,41,32,118,97,114,32,117,58,32,102,117,116,117,114,101,32,105,110,116,59,32,108,101,116,32,117,32,61,32,97,115,121,110,99,32])=some (.str S2)/\bw CC .add 9 false (.str S2) (.str (dx (i+1)))=some (.str S3)/\bw CC .add 9 true (.str S3) (.str [40,119,41,59,32,98,32,61,32,55,59,32,116,101,108,32])=some (.str S4)/\bw CC .add 9 false (.str (tT n bits a i)) (.str S4)=some (.str (tT n bits a (i+1))):=by
       refine ⟨_,_,_,_,iV _ (by simp[hnl]),iV _ (by simp[hnl]),iV _ (by simp[hnl]),iV _ (by simp[hnl]),?_⟩
       rw[iV _ (by simp[hnl];omega),QY (by rw[hs];exact Za i)]
      simp only[ax,nw,sx,yg,AB,Fo,Mh,KF,yc,SIM,ST0,ST1,ST2,h0,h1,h5,h6,h7,h8,h9,h33,h34,hc,hsub,hq,hc22,hias,hld,hw,hN1,hN2,t1,t2,t3,t4,t5,hadd,Nat.zero_min,Nat.reduceAdd,Nat.reduceLeDiff];exact key _ ⟨⟨by first|rfl|exact h0,by first|rfl|exact h1,by first|rfl|exact h5⟩,by first|rfl|exact h6,by first|rfl|exact h7,rfl,by rw[show min (i+1) (n-1)=i+1 by omega,hw2];try rfl⟩ ⟨by first|rfl|exact h33,rfl⟩
    | false =>
      rw[hb] at hs hias;have hw:pc bits (i+1)=pc bits i:=by simp only[pc,hb,cond_false,Nat.add_zero]
      obtain ⟨S1,S2,S3,S4,t1,t2,t3,t4,t5⟩ : ∃ S1 S2 S3 S4:List Nat,bw CC .add 9 true (.str [110,111,100,101,32]) (.str (dx i))=some (.str S1)/\bw CC .add 9 true (.str S1) (.str [40,119,58,32,102,117,116,117,114,101,32,105,110,116,41,32,114,101,116,117,114,110,115,32,40,98,58,32,105,110,116,41,32,108,101,116,32,98,32,61,32])=some (.str S2)/\bw CC .add 9 false (.str S2) (.str (dx (i+1)))=some (.str S3)/\bw CC .add 9 true (.str S3) (.str [40,119,41,59,32,116,101,108,32])=some (.str S4)/\bw CC .add 9 false (.str (tT n bits a i)) (.str S4)=some (.str (tT n bits a (i+1))):=by
       refine ⟨_,_,_,_,iV _ (by simp[hnl]),iV _ (by simp[hnl]),iV _ (by simp[hnl]),iV _ (by simp[hnl]),?_⟩
       rw[iV _ (by simp[hnl];omega),QY (by rw[hs];exact Y7 i)]
      simp only[ax,nw,sx,yg,AB,Fo,N6,yc,SIM,ST0,ST1,ST2,h0,h1,h5,h6,h7,h8,h9,h33,h34,hc,hsub,hq,hc22,hias,hld,hN1,hN2,t1,t2,t3,t4,t5,hadd,Nat.zero_min,Nat.reduceAdd,Nat.reduceLeDiff];exact key _ ⟨⟨by first|rfl|exact h0,by first|rfl|exact h1,by first|rfl|exact h5⟩,by first|rfl|exact h6,by first|rfl|exact h7,rfl,by rw[show min (i+1) (n-1)=i+1 by omega,hw];try exact h9⟩ ⟨by first|rfl|exact h33,rfl⟩
end
end Hd
def RE (d:NdR):Bool:=Nat.ble (cS d).length 90000&&Nat.ble d.eqs.length 90000&&!Nat.beq d.eqs.length 0&&(cS d).all (λx=>x.c.isEmpty)&&d.eqs.all (λq=>Nat.blt (sizeE q.e) 90000&&Nat.ble q.l.length 90000)
theorem rU {d:NdR}(h:RE d=true):NdK d:=by
 unfold RE at h;simp only[Bool.and_eq_true,Bool.not_eq_true',List.all_eq_true] at h;obtain ⟨⟨⟨⟨h1,h2⟩,h3⟩,h4⟩,h5⟩:=h;refine ⟨by simpa using h1,by simpa using h2,λh=>?_,λx hx=>by simpa using h4 x hx,λq hq=>?_⟩
 ·rw[h] at h3;cases h3
 ·have:=h5 q hq;simpa using this
namespace Hd
theorem Yj (i o:Nat):∀ a,a<=8->RE (Sq i o a)=true
 | 0,_=>by kernel_rfl
 | 1,_=>by kernel_rfl
 | 2,_=>by kernel_rfl
 | 3,_=>by kernel_rfl
 | 4,_=>by kernel_rfl
 | 5,_=>by kernel_rfl
 | 6,_=>by kernel_rfl
 | 7,_=>by kernel_rfl
 | 8,_=>by kernel_rfl
 | a+9,h=>absurd h (by omega)
theorem JO {n:Nat}{bits:Nat->Bool}{a:Nat}(ha:a<=8):∀ x∈bz n bits a,NdK x:=by
 intro x hx;simp only[bz,List.mem_cons,List.mem_map] at hx
 rcases hx with rfl|rfl|⟨i,_,rfl⟩
 ·exact rU (by kernel_rfl)
 ·exact rU (by kernel_rfl)
 ·refine rU ?_;unfold kS;cases Nat.beq (i+1) n with
  | true=>exact Yj i _ a ha
  | false =>
    cases bits i with
    | true=>kernel_rfl
    | false=>kernel_rfl
theorem spm_w:SpM (memoL mW):=⟨flM_of rfl,λ_=>rfl,λ_=>rfl,λ_=>rfl,λ_=>rfl,λ_=>rfl,λ_=>rfl,λ_=>rfl,λ_=>rfl,λ_=>rfl⟩
theorem dpm_w:DpM (memoL mW):=⟨λ_=>rfl,λ_=>rfl,λ_=>rfl,λ_=>rfl,λ_=>rfl,λ_=>rfl,λ_=>rfl,λ_=>rfl,λ_=>rfl⟩
theorem NH (t:List Nat)(v:AV)(l:List (FuncId×List AV×AV)):memoL ((14,[.str t],v)::l) 14 [.str t]=some v:=by
 have h:=dH t t;simp only[decide_true] at h;show cond (Nat.beq 14 14) (cond (eqArgs [.str t] [.str t]) (some v) (memoL l 14 [.str t])) (memoL l 14 [.str t])=some v;have:eqArgs [.str t] [.str t]=true:=by simp[eqArgs,h]
 rw[this];rfl
theorem aw_w:orc CC (memoL mW) 18 [] []=some (.ret (.bool true) [] 0):=by
 obtain ⟨wn,e0,e1,hs,hw,h0,h1⟩:=sp_w
 exact Rp spm_w dpm_w (λ_=>rfl) (NH tW (pV nW) memo1) rfl (λx hx=>by
  simp only[nW,List.mem_cons,List.not_mem_nil,or_false] at hx
  rcases hx with rfl|rfl<;>exact rU (by kernel_rfl)) (kf:=200) (by omega) hs hw h0 h1
abbrev m18:List (FuncId×List AV×AV):=(18,[],.bool true)::memo1
theorem m18_ok:ek CC (memoL m18):=i2 cc_goodF cc_scal memo1_ok mW_ok rfl (by kernel_rfl) aw_w
abbrev mT (n:Nat)(bits:Nat->Bool)(a:Nat):List (FuncId×List AV×AV):=(14,[.str (kH n bits a)],pV (bz n bits a))::m18
theorem Xe {n:Nat}{bits:Nat->Bool}{a:Nat}(h0:0<n)(hn:n<=10)(ha0:0<a)(ha:a<=8):ek CC (memoL (mT n bits a)):=zd m18_ok (SD h0 hn ha0 ha) (Xt h0 hn ha0 ha)
theorem WI (n:Nat)(bits:Nat->Bool)(a:Nat):SpM (memoL (mT n bits a)):=⟨flM_of rfl,λ_=>rfl,λ_=>rfl,λ_=>rfl,λ_=>rfl,λ_=>rfl,λ_=>rfl,λ_=>rfl,λ_=>rfl,λ_=>rfl⟩
theorem WO (n:Nat)(bits:Nat->Bool)(a:Nat):DpM (memoL (mT n bits a)):=⟨λ_=>rfl,λ_=>rfl,λ_=>rfl,λ_=>rfl,λ_=>rfl,λ_=>rfl,λ_=>rfl,λ_=>rfl,λ_=>rfl⟩
theorem T2 (rec:RecT):z8.sh rec=ac (ac (J4 rec) (ac (ac (IR rec) (aA (.t 17) (ac (Si rec) retZ) skipZ)) (ac (Ko rec) (ac (Ja rec) (ac (JD rec) (JH rec)))))) (ac (aH 0 (aK (t6 rec))) (ac (ac (yn rec) (ac (zh rec) (ac (yd rec) (yN rec)))) (ac (aH 2 (aK (nw rec))) (ac (zf rec) (ac (ac (yK rec) (aA (.t 93) (ac (Hz rec) retZ) skipZ)) (ac (x9 rec) (ac (ac (Az rec) (aA (.t 111) (ac (B5 rec) retZ) skipZ)) (ac (yR rec) (ac (Ac rec) retZ))))))))):=by
 simp only[z8,eH]
theorem EW (n:Int):∃ m:Nat,bw CC .and 3 true (.int .i64 n) (.int .i64 255)=some (.int .i64 (m:Int)):=by
 let m:=(BitVec.ofInt IntKind.i64.bits n &&& BitVec.ofInt IntKind.i64.bits 255).toNat
 have hm:m<=255:=by
  show (BitVec.ofInt IntKind.i64.bits n &&& BitVec.ofInt IntKind.i64.bits 255).toNat<=255;rw[BitVec.toNat_and];exact Nat.le_trans Nat.and_le_right (by decide)
 have hw:IntKind.wrap .i64 (m:Int)=(m:Int):=fF (by unfold natMax;omega)
 refine ⟨m,?_⟩;show bF CC .and 3 (.int .i64 n) (.int .i64 255)=_;simp only[bF,fH,if_true];exact congrArg (λx=>some (AV.int .i64 x)) hw
theorem law8_all (l:Option (List Bool))(x:Int):∃ m,ek CC (memoL m)/\orc CC (memoL m) 8 [rowB l,.int .i64 x] []=some (.ret (.bool true) [] 0):=by
 obtain ⟨m0,hv0⟩:=EW x
 let n:=1+min (lstB l).length 9
 let a:=1+m0 % 8
 have h0:0<n:=by show 0<1+_;omega
 have hn:n<=10:=by show 1+min _ 9<=10;omega
 have ha0:0<a:=by show 0<1+_;omega
 have ha:a<=8:=by show 1+m0 % 8<=8;omega
 let bits:Nat->Bool:=λi=>((lstB l)[i]?).getD false
 have hbits:∀ i,i+1<n->(lstB l)[i]?=some (bits i):=λi hi=>by
  have hi' : i+1<1+min (lstB l).length 9:=hi;have:i<(lstB l).length:=by omega
  show (lstB l)[i]?=some (((lstB l)[i]?).getD false);rw[List.getElem?_eq_getElem this];rfl
 have hmin:dk false (.int .i64 ((lstB l).length:Int)) [.int .i64 9]=some (.int .i64 ((min (lstB l).length 9:Nat):Int)):=by
  simp only[dk,Bool.false_eq_true,if_false]
  congr 2
  by_cases h:(9:Int)<((lstB l).length:Int)
  ·rw[if_pos h];omega
  ·rw[if_neg h];omega
 have hnn:bR 1 ((min (lstB l).length 9:Nat):Int)=(n:Int):=aZ 1 (min (lstB l).length 9) (by unfold natMax;omega)
 have r8:bw CC .rem 3 true (.int .i64 (m0:Int)) (.int .i64 8)=some (.int .i64 ((m0 % 8:Nat):Int)):=UH true m0 8 (by omega) (by omega)
 have haa:bR 1 ((m0 % 8:Nat):Int)=(a:Int):=aZ 1 (m0 % 8) (by unfold natMax;omega)
 have hs1:fR (a:Int) 1=((a-1:Nat):Int):=by
  have:=nY (a-1) 1 (by unfold natMax;omega)
  rw[show a-1+1=a by omega] at this
  exact this
 clear_value n a bits
 refine ⟨mT n bits a,Xe h0 hn ha0 ha,?_⟩;have haw:orc CC (memoL (mT n bits a)) 18 [] []=some (.ret (.bool true) [] 0):=f5 rfl;have hP:orc CC (memoL (mT n bits a)) 14 [.str (kH n bits a)] []=some (.ret (pV (bz n bits a)) [] 0):=f5 (NH _ _ _);obtain ⟨wn,e1,hsp,hah,hwn,hw30⟩:=Db (n:=n) (bits:=bits) ha h0 hn;have hlen2:(bz n bits a).length<=90000:=by simp[bz];omega
 obtain ⟨G1,po,hS,h20,h21,hlG,hfr⟩:=yr (WI n bits a) (WO n bits a) (kf:=200) (by omega) hlen2 (JO ha) (by simp[bz]) hsp (Nat.zero_le _) [cz0]
 have h22:∀ y,memoL (mT n bits a) 22 y=none:=λ_=>rfl
 have h8:∀ y,memoL (mT n bits a) 8 y=none:=λ_=>rfl
 generalize memoL (mT n bits a)=M at haw hP hS h20 h21 h22 h8;have e0:(envOf [rowB l,AV.int .i64 x] 0 env0).a.a.a=rowB l:=rfl;have e1' : (envOf [rowB l,AV.int .i64 x] 0 env0).a.a.b=.int .i64 x:=rfl;have hl0:aa ([]:Heap)=0:=rfl;have hlr:=Ee l
 obtain ⟨r0,hr0,hk0,s0⟩ : ∃ r,R1 l n a r/\(r.a.a.g=.str (val 0)/\r.a.d.d=.int .i64 ((a-1:Nat):Int)/\r.a.d.e=.int .i64 ((0:Nat):Int)) /\
   ac (J4 (orc CC M)) (ac (ac (IR (orc CC M)) (aA (.t 17) (ac (Si (orc CC M)) retZ) skipZ)) (ac (Ko (orc CC M)) (ac (Ja (orc CC M)) (ac (JD (orc CC M)) (JH (orc CC M)))))) (envOf [rowB l,AV.int .i64 x] 0 env0) [] ⟨[],0⟩=some (.normal,r,[],⟨[],0⟩):=by
  generalize envOf [rowB l,AV.int .i64 x] 0 env0=R at e0 e1';simp only[J4,IR,Ko,Ja,JD,JH,SIM,ST0,ST1,ST2,ST3,e0,e1',haw,hlr,hmin,hnn,hv0,r8,haa,hs1,Nat.zero_min,Nat.reduceAdd,Nat.reduceLeDiff];exact ⟨_,⟨by first|rfl|exact e0,rfl,rfl⟩,⟨rfl,rfl,rfl⟩,rfl⟩
 obtain ⟨r1,s1,⟨k0,k1,k5⟩,k6⟩:=vT (M:=M) ha (a-1) 0 (by omega) 100000 (by omega) r0 hr0 hk0
 obtain ⟨r2,hr2,hk2,s2⟩ : ∃ r,R3 l n a bits 0 (2+pc bits (min 0 (n-1))) r/\(r.a.e.b=.int .i64 (n:Int)/\r.a.e.c=.int .i64 ((0:Nat):Int)) /\
   ac (yn (orc CC M)) (ac (zh (orc CC M)) (ac (yd (orc CC M)) (yN (orc CC M)))) r1 [] ⟨[],0⟩=some (.normal,r,[],⟨[],0⟩):=by
  simp only[yn,zh,yd,yN,SIM,ST0,ST1,ST2,ST3,k5,Nat.reduceAdd,Nat.reduceLeDiff];exact ⟨_,⟨⟨by first|exact k0,by first|exact k1,by first|rfl|exact k5⟩,by first|exact k6,rfl,rfl,by rw[Nat.zero_min];rfl⟩,⟨rfl,rfl⟩,rfl⟩
 obtain ⟨r3,s3,⟨j0,j1,j5⟩,j6,j7,j8,j9⟩:=vK (M:=M) h22 hn ha0 ha hbits n 0 (by omega) 100000 (by omega) r2 hr2 hk2
 have htx:tT n bits a n=kH n bits a:=by unfold tT kH;rw[List.append_assoc]
 rw[htx] at j8;have b0:∀ (i:Nat) (b:CZ) (r:RG) (s:St),aH i (aK b) r [] s=c9 i (ax b 100000 r [] s):=λ_ _ _ _=>rfl
 refine aJ (z:=z8) (h8 _) (by kernel_rfl) rfl ?_
 have hz:z8.sh (orc CC M) (envOf [rowB l,AV.int .i64 x] 0 env0) [] ⟨[],aa ([]:Heap)⟩=ac (zf (orc CC M)) (ac (ac (yK (orc CC M)) (aA (.t 93) (ac (Hz (orc CC M)) retZ) skipZ)) (ac (x9 (orc CC M)) (ac (ac (Az (orc CC M)) (aA (.t 111) (ac (B5 (orc CC M)) retZ) skipZ)) (ac (yR (orc CC M)) (ac (Ac (orc CC M)) retZ))))) r3 [] ⟨[],0⟩:=by
  rw[T2,hl0,bv,s0,bk,bv,b0,s1,ck,bk,bv,s2,bk,bv,b0,s3,ck,bk]
 rw[hz];have h20':=h20 [cz0];have h21':=h21 [cz0];rw[hwn] at h20';rw[hah,List.length_replicate,show eArg.ah.length=0 from rfl] at h21'
 have hl1:aa [cz0]=1:=rfl;rw[hl1] at hS hlG;have hlz:aa (G1++[cz0])=aa G1+1:=by rw[az];rfl
 rw[hlz] at h20' h21';have gz:ae (G1++[cz0]) (aa G1)=some cz0:=by rw[an];rfl
 have sz:∀ c,am (G1++[cz0]) (aa G1) c=G1++[c]:=λc=>by rw[bJ];rfl
 have htk:∀ hp:Heap,bg 0 hp=[]:=λhp=>by rw[bU];rfl
 have hgc:=λhp=>dC (k:=CC.keep 8) (b:=0) (v:=.bool true) (hp:=hp) rfl
 have hnl:=MH po;have c0:decide (((0:Nat):Int)=0)=true:=rfl;have cw:decide (((pc bits (n-1)+2:Nat):Int)=((2+pc bits (n-1):Nat):Int))=true:=by rw[decide_eq_true_eq];omega
 have ca:decide ((a:Int)=(a:Int))=true:=by simp
 have c2:decide ((2:Int)=2)=true:=by decide
 have hld1:∀ (a:AV) (h:Heap),aw none (.iptr [a]) h=some a:=λ_ _=>rfl
 generalize kH n bits a=T at *;simp only[z8,zf,yK,x9,Az,yR,Ac,SIM,ST0,ST1,ST2,ST3,j0,j1,j5,j6,j7,j8,j9,hP,hS,gz,sz,hnl,bd29,ne29,h20',h21',hlz,pQ,KB,NZ,hld1,c0,cw,ca,c2,hgc,htk,hl0,Nat.zero_min,Bool.not_true,Nat.reduceAdd,Nat.reduceLeDiff]
end Hd
end Go.Proofs
