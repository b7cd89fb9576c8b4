/- the texts of the law, their tokens. Part of the proof of girandolelaw12.SplitHanded. -/
import Derived.Test.YtglacbfdbfhmfaaGreatDoorCur
import Derived.Test.YtglacbfdbfhmfaaGreatDoorDec
import Derived.Test.YtglacbfdbfhmfaaGreatDoorB2
import Derived.Test.YtglacbfdbfhmfaaGreatDoorHd
set_option linter.unusedVariables false
set_option linter.unusedSimpArgs false
set_option maxRecDepth 1000000
namespace Go.Proofs
open Go Go.Abs
noncomputable def xv (p:AV)(h:Heap)(k:Nat->List AV->Lin->Nat->Int->Int->List Nat->Int->Option CRes):Option CRes:=match p with
 | .ptr n 0=>match ae h n with
   | some (.cells [.sl sz toks lin,.int .i64 (.ofNat i)])=>cond (Nat.beq sz 4) (match ae toks i with
     | some (.agg [.int .i64 kd,.int .i64 ps,.str t,.int .u64 m])=>k n toks lin i kd ps t m
     | _=>none) none
   | _=>none
 | _=>none
def Bt (k:Int):Bool:=match k with
 | .ofNat n=>cond (Nat.beq n 3) true (Nat.beq n 4)
 | _=>false
noncomputable def Lr (args:List AV)(h:Heap):Option CRes:=match args with
 | [p,.sl sz ts _]=>xv p h λn toks lin i kd ps t m=>cond (Nat.beq sz 1&&(Nat.ble (aa ts) 500&&Nat.ble (Nat.succ i) natMax)) (match ir t ts with
   | some b=>cond (cond (Bt kd) b false) (some (.ret (.tuple [dw kd ps t m,.bool true]) (am h n (.cells [.sl 4 toks lin,.int .i64 (.ofNat (Nat.succ i))])) (aa h))) (some (.ret (.tuple [dw kd ps t m,.bool false]) h (aa h)))
   | none=>none) none
 | _=>none
noncomputable def YL (args:List AV)(h:Heap):Option CRes:=match args with
 | [p,.sl sz ts _]=>xv p h λn toks lin i kd ps t m=>cond (Nat.beq sz 1&&Nat.ble (aa ts) 500) (match ir t ts with
   | some b=>some (.ret (.bool (cond (Bt kd) b false)) h (aa h))
   | none=>none) none
 | _=>none
noncomputable def NQ (args:List AV)(h:Heap):Option CRes:=match args with
 | [p]=>xv p h λn toks lin i kd ps t m=>some (.ret (dw kd ps t m) h (aa h))
 | _=>none
noncomputable def LP (args:List AV)(h:Heap):Option CRes:=match args with
 | [p,.sl sz [.str s] _]=>xv p h λn toks lin i kd ps t m=>cond (Nat.beq sz 1&&(Bt kd&&(strEq s t&&Nat.ble (Nat.succ i) natMax)))
  (some (.ret (dw kd ps t m) (am h n (.cells [.sl 4 toks lin,.int .i64 (.ofNat (Nat.succ i))])) (aa h))) none
 | _=>none
noncomputable def Oj (args:List AV)(h:Heap):Option CRes:=match args with
 | [p]=>xv p h λn toks lin i kd ps t m=>cond (Bj kd 1&&Nat.ble (Nat.succ i) natMax)
  (some (.ret (dw kd ps t m) (am h n (.cells [.sl 4 toks lin,.int .i64 (.ofNat (Nat.succ i))])) (aa h))) none
 | _=>none
noncomputable def kCur:Kn:=λf args h =>
 cond (Nat.beq f 74) (Lr args h) (cond (Nat.beq f 53) (YL args h) (cond (Nat.beq f 30) (NQ args h) (cond (Nat.beq f 49) (LP args h) (cond (Nat.beq f 50) (Oj args h) none))))
theorem gj {p:AV}{h:Heap}{k:Nat->List AV->Lin->Nat->Int->Int->List Nat->Int->Option CRes}{r:CRes}(hx:xv p h k=some r) :
  ∃ n toks lin i kd ps t m,p=.ptr n 0/\ae h n=some (iq toks lin i)/\ae toks i=some (dw kd ps t m)/\k n toks lin i kd ps t m=some r:=by
 unfold xv at hx
 split at hx
 ·rename_i n
  split at hx
  ·rename_i sz toks lin i hg;obtain ⟨h1,h2⟩:=aT hx;have:=Nat.eq_of_beq_eq_true h1;subst this
   split at h2
   ·rename_i kd ps t m ht;exact ⟨n,toks,lin,i,kd,ps,t,m,rfl,hg,ht,h2⟩
   ·cases h2
  ·cases hx
 ·cases hx
theorem rH (k:Int):Bt k=(decide (k=3)||decide (k=4)):=by
 unfold Bt
 split
 ·rename_i n;rw[cond_eq_ite,f9,f9,Bool.eq_iff_iff];simp;omega
 ·rename_i h;cases k with
  | ofNat n=>exact absurd rfl (h n)
  | negSucc n=>rfl
theorem Is {M:Memo}(h1:∀ a,M 30 a=none)(h2:∀ a,M 53 a=none)(h3:∀ a,M 74 a=none)(h4:∀ a,M 49 a=none)(h5:∀ a,M 50 a=none):WH CC M kCur:=by
 intro f a h r hx _;unfold kCur at hx;cases b1:Nat.beq f 74 with
 | true =>
   rw[b1] at hx;have:=Nat.eq_of_beq_eq_true b1;subst this;simp only[cond_true] at hx;unfold Lr at hx
   split at hx
   ·rename_i p sz ts l;obtain ⟨n,toks,lin,i,kd,ps,t,m,rfl,hg,ht,hy⟩:=gj hx
    clear hx
    obtain ⟨c1,hx⟩:=aT hy
    clear hy
    simp only[Bool.and_eq_true,dW,f9,decide_eq_true_eq,ai,Nat.succ_eq_add_one] at c1;obtain ⟨rfl,c2,c3⟩:=c1
    split at hx
    ·rename_i b hb;rw[y2 h1 h2 h3 hg ht (by omega) hb c3,<-rH]
     generalize cond (Bt kd) b false=c at hx ⊢;cases c<;>exact hx
    ·cases hx
   ·cases hx
 | false =>
 rw[b1] at hx;cases b2:Nat.beq f 53 with
 | true =>
   rw[b2] at hx;have:=Nat.eq_of_beq_eq_true b2;subst this;simp only[cond_true,cond_false] at hx;unfold YL at hx
   split at hx
   ·rename_i p sz ts l;obtain ⟨n,toks,lin,i,kd,ps,t,m,rfl,hg,ht,hy⟩:=gj hx
    clear hx
    obtain ⟨c1,hx⟩:=aT hy
    clear hy
    simp only[Bool.and_eq_true,dW,f9,decide_eq_true_eq,ai,Nat.succ_eq_add_one] at c1;obtain ⟨rfl,c2⟩:=c1
    split at hx
    ·rename_i b hb;rw[M0 h1 h2 hg ht (by omega) hb,<-rH]
     exact hx
    ·cases hx
   ·cases hx
 | false =>
 rw[b2] at hx;cases b3:Nat.beq f 30 with
 | true =>
   rw[b3] at hx;have:=Nat.eq_of_beq_eq_true b3;subst this;simp only[cond_true,cond_false] at hx;unfold NQ at hx
   split at hx
   ·obtain ⟨n,toks,lin,i,kd,ps,t,m,rfl,hg,ht,hx⟩:=gj hx;rw[i3 h1 hg ht];exact hx
   ·cases hx
 | false =>
 rw[b3] at hx;cases b4:Nat.beq f 49 with
 | true =>
   rw[b4] at hx;have:=Nat.eq_of_beq_eq_true b4;subst this;simp only[cond_true,cond_false] at hx;unfold LP at hx
   split at hx
   ·rename_i p sz s l;obtain ⟨n,toks,lin,i,kd,ps,t,m,rfl,hg,ht,hy⟩:=gj hx
    clear hx
    obtain ⟨c1,hx⟩:=aT hy
    clear hy
    simp only[Bool.and_eq_true,dW,f9,decide_eq_true_eq,Nat.succ_eq_add_one] at c1;obtain ⟨rfl,c2,c3,c4⟩:=c1;rw[Kg h1 h2 h3 h4 hg ht (by rw[<-rH];exact c2) c3 c4]
    exact hx
   ·cases hx
 | false =>
 rw[b4] at hx;cases b5:Nat.beq f 50 with
 | true =>
   rw[b5] at hx;have:=Nat.eq_of_beq_eq_true b5;subst this;simp only[cond_true,cond_false] at hx;unfold Oj at hx
   split at hx
   ·obtain ⟨n,toks,lin,i,kd,ps,t,m,rfl,hg,ht,hy⟩:=gj hx
    clear hx
    obtain ⟨c1,hx⟩:=aT hy
    clear hy
    simp only[Bool.and_eq_true,dW,decide_eq_true_eq,Nat.succ_eq_add_one,iE] at c1;obtain ⟨rfl,c2⟩:=c1;rw[Jc h1 h5 hg ht c2];exact hx
   ·cases hx
 | false=>rw[b5] at hx;cases hx
namespace Oc
def Zk (s:List Nat)(p:Nat):DeR:=⟨s,p,false,false,[],false⟩
end Oc
theorem EW (n:Int):∃ m:Nat,bw CC .and 3 true (.int .i64 n) (.int .i64 255)=some (.int .i64 (m:Int)):=by
 let m:=(BitVec.ofInt IntKind.i64.bits n &&& BitVec.ofInt IntKind.i64.bits 255).toNat
 have hm:m<=255:=by
  show (BitVec.ofInt IntKind.i64.bits n &&& BitVec.ofInt IntKind.i64.bits 255).toNat<=255;rw[BitVec.toNat_and];exact Nat.le_trans Nat.and_le_right (by decide)
 have hw:IntKind.wrap .i64 (m:Int)=(m:Int):=fF (by unfold natMax;omega)
 refine ⟨m,?_⟩;show bF CC .and 3 (.int .i64 n) (.int .i64 255)=_;simp only[bF,fH,if_true];exact congrArg (λx=>some (AV.int .i64 x)) hw
theorem UH (b:Bool)(m c:Nat)(hc:0<c)(hm:c<=1000):bw CC .rem 3 b (.int .i64 (m:Int)) (.int .i64 (c:Int))=some (.int .i64 ((m % c:Nat):Int)):=by
 have h0:bF CC .rem 3 (.int .i64 (m:Int)) (.int .i64 (c:Int))=some (.int .i64 ((m % c:Nat):Int)):=by
  simp only[bF,fH,if_true];rw[if_neg (by omega)]
  rfl
 cases b
 ·exact h0
 ·exact h0
noncomputable def recC:RecT:=callK CC (memoL memo1) (ij tab) kCur 3000
theorem recC_le:Ia recC (orc CC (memoL memo1)):=sU cc_mask tabT (Is (λ_=>rfl) (λ_=>rfl) (λ_=>rfl) (λ_=>rfl) (λ_=>rfl)) 3000
def Wa (ts:List TkR)(V:AV)(j:Nat)(K:Heap):Heap:=cz0 :: .cells [V] :: .cells [.func (.func 28) [] [.ptr 1 0]]::cz0::cz0::iq (ts.map TkR.v) .dead j :: .cells [.ptr 5 0]::K
def Pk (s:List Nat)(L:List NdR):Prop:=∃ ts j g,kW wordsS signsS 4100 s 0=some ts/\orc CC (memoL memo1) 46 [.ptr 4 0,.ptr 2 0,.ptr 6 0] (Wa ts .nils 0 [])=some (.ret Abs.undef (Wa ts (.sl 6 (L.map NdR.v) (.live 7 g)) j [.lin g]) 1)
abbrev pM:Memo:=memoL memo1
theorem Yh {s:List Nat}{L:List NdR}(hs:WT s=true)(h:Pk s L):orc CC pM 14 [.str s] []=some (.ret (pV L) [] 0):=by
 obtain ⟨ts,j,g,hl,h46⟩:=h;unfold WT at hs;rw[Bool.and_eq_true,dW,decide_eq_true_eq,List.all_eq_true,ai] at hs
 have L45:∀ H,orc CC pM 45 [.str s] H=some (.ret (.tuple [.sl 4 (ts.map TkR.v) .dead,.agg [.int .i64 0,.int .i64 0]]) H (aa H)):=λH=>by
  have:=Pt lx1 (s:=s) rfl hs.1 (λb hb=>by have:=hs.2 b hb;rw[dW,decide_eq_true_eq] at this;omega) (k:=4100) (by omega) (Ak 4100 0 ts hl) H
  simpa only[allV,List.nil_append] using this
 have hR:=h46
 have h27:orc CC pM 27 [.str s,.func (.func 28) [] [.ptr 1 0]] [cz0,.cells [.nils]]=some (.ret (.agg [.int .i64 0,.int .i64 0]) (Wa ts (.sl 6 (L.map NdR.v) (.live 7 g)) j [.lin g]) 1):=by
  refine aJ (z:=z27) rfl (by kernel_rfl) rfl ?_
  have e0:(envOf [AV.str s,.func (.func 28) [] [.ptr 1 0]] 0 env0).a.a.a=.str s:=rfl;have e1:(envOf [AV.str s,.func (.func 28) [] [.ptr 1 0]] 0 env0).a.a.b=.func (.func 28) [] [.ptr 1 0]:=rfl;generalize envOf [AV.str s,.func (.func 28) [] [.ptr 1 0]] 0 env0=R at e0 e1;have hbf:=Ub 1 2 (by omega)
  have hbc:=Rf ts;have hsp0:=λb=>sj (a:=5) (r:=6) (b:=b) (cs:=[.nilp]) (hp:=[cz0,.cells [.nils],.cells [.func (.func 28) [] [.ptr 1 0]],cz0,cz0,iq (ts.map TkR.v) .dead 0,.cells [.nilp]]) (by show 5<7;omega) (by omega) (by decide)
  have hgc:=λhp=>dL (keep:=CC.keep 27) (base:=2) (e:=1) (v:=.agg [.int .i64 0,.int .i64 0]) (hp:=hp) (by omega)
  have hs6:∀ (a b c d e f g v:AObj),am [a,b,c,d,e,f,g] 6 v=[a,b,c,d,e,f,v]:=λ_ _ _ _ _ _ _ _=>rfl
  have hl2:aa [cz0,AObj.cells [.nils]]=2:=rfl;have hm:min 2 1=1:=rfl;have hm0:min 2 4=2:=rfl;unfold Wa at hR ⊢;rw[hl2];simp only[z27,Lu,Lo,MO,NA,Nm,Od,SIM,ST0,ST1,e0,e1,hl2,hbf,L45,WA,Wm,hbc,hsp0,So,hR,hm,hm0,hs6,EXS,kN,kq,hgc,bq,cd,List.length_cons,List.length_nil,List.append_assoc,List.cons_append,List.nil_append,Nat.reduceAdd,Nat.reduceLeDiff]
 refine aJ (z:=z14) rfl (by kernel_rfl) rfl ?_
 have e0:(envOf [AV.str s] 0 env0).a.a.a=.str s:=rfl;generalize envOf [AV.str s] 0 env0=R at e0;have hgc:=λhp=>qV (sz:=6) (l:=L.map NdR.v) (fs:=[.int .i64 0,.int .i64 0]) (id:=7) (g:=g) (base:=0) (hp:=hp) (nd_noN L) rfl (by omega)
 have hk14:CC.keep 14=false:=by kernel_rfl
 have g8:∀ (a b c d e f g h i:AObj),ae [a,b,c,d,e,f,g,h,i] 8=some i:=λ_ _ _ _ _ _ _ _ _=>rfl
 have s8:∀ (a b c d e f g h i v:AObj),am [a,b,c,d,e,f,g,h,i] 8 v=[a,b,c,d,e,f,g,h,v]:=λ_ _ _ _ _ _ _ _ _ _=>rfl
 have hl0:aa ([]:Heap)=0:=rfl;have hm:min 0 1=0:=rfl;unfold Wa at h27;rw[hl0];simp only[z14,Mf,K2,MC,NC,MR,SIM,ST0,ST1,e0,h27,hm,hk14,hgc,g8,s8,EXS,hl0,kN,kq,bq,cd,List.cons_append,List.nil_append,Nat.reduceAdd,Nat.reduceLeDiff]
theorem zd {L:List (FuncId×List AV×AV)}(hL:ek CC (memoL L)){s:List Nat}{l:List NdR}(hs:WT s=true)(h:Pk s l):ek CC (memoL ((14,[.str s],pV l)::L)) :=
 i2 cc_goodF cc_scal hL memo1_ok rfl (Rz l) (Yh hs h)
abbrev mA (ts:List TkR)(V:AV)(j:Nat)(K:Heap):Heap:=cz0 :: .cells [V] :: .cells [.func (.func 28) [] [.ptr 1 0]]::cz0::cz0::iq (ts.map TkR.v) .dead j :: .cells [.ptr 5 0]::K
abbrev n3 (x:TkR)(a b c:AV):AObj:=.cells [.str x.t,.int .i64 (x.p:Int),a,b,c,.nils]
noncomputable def ko (ts:List TkR)(i:Nat):Option Bool:=match ae ts i with
 | some x=>some (Nat.beq x.k 5)
 | none=>none
abbrev gC (ts:List TkR)(acc:List NdR)(g j:Nat):Heap:=mA ts (.sl 6 (acc.map NdR.v) (.live 7 g)) j [.lin g]
theorem Ih {ts:List TkR}{acc:List NdR}{q:NdR}{g i j:Nat}(ht:ko ts i=some false)(hg:acc.length<=1000)
  (F:orc CC pM 29 [.ptr 5 0] (gC ts acc g i)=some (.ret q.v (gC ts acc g j) 8)) (fu:Nat) (r:RG) (h0:r.a.a.a=.ptr 5 0) (h1:r.a.a.b=.ptr 1 0) :
  ∃ r',(r'.a.a.a=.ptr 5 0/\r'.a.a.b=.ptr 1 0)/\ax (lW (orc CC pM)) (fu+1) r [] ⟨gC ts acc g i,1⟩=ax (lW (orc CC pM)) fu r' [] ⟨gC ts (acc++[q]) (g+1) j,1⟩:=by
 unfold ko at ht
 split at ht
 ·rename_i x hx;simp only[SJ] at ht;have P:=vO (n:=5) (lin:=.dead) pm1 (mP hx) (gC ts acc g i) rfl;have c5:decide ((x.k:Int)=5)=Nat.beq x.k 5:=xX x.k 5;rw[ht] at c5;have hsm:AV.same (.sl 6 (acc.map NdR.v) (.live 7 g)) (.sl 6 (acc.map NdR.v) (.live 7 g))=true:=by simp[AV.same,nd_same]
  have happ:=λe=>vt 28 (xs:=acc.map NdR.v) q (hp:=gC ts acc g j) (e:=e) (id:=7) (g:=g) rfl (by rw[List.length_map];omega)
  have hm:acc.map NdR.v++[q.v]=(acc++[q]).map NdR.v:=by simp
  rw[hm] at happ
  have hst:eM 1 0 1 (.sl 6 ((acc++[q]).map NdR.v) (.live 7 (g+1))) [.sl 6 ((acc++[q]).map NdR.v) (.live 7 (g+1))] [.sl 6 (acc.map NdR.v) (.live 7 g)] ⟨am (gC ts acc g j) 7 (.lin (g+1)),1⟩=_ :=
   zT (nd_noN _) (by rw[ay];show 7<8;omega) (by omega)
  have hend:am (am (gC ts acc g j) 7 (.lin (g+1))) 1 (.cells [.sl 6 ((acc++[q]).map NdR.v) (.live 7 (g+1))])=gC ts (acc++[q]) (g+1) j:=rfl;have hmin:min 1 1=1:=rfl;rw[hend,hmin] at hst;have goo:ae (gC ts acc g i) 1=some (.cells [.sl 6 (acc.map NdR.v) (.live 7 g)]):=rfl;have goo1:ae (gC ts acc g j) 1=some (.cells [.sl 6 (acc.map NdR.v) (.live 7 g)]):=rfl;have goo2:ae (am (gC ts acc g j) 7 (.lin (g+1))) 1=some (.cells [.sl 6 (acc.map NdR.v) (.live 7 g)]):=rfl;have hl:aa (gC ts acc g i)=8:=rfl;have hm1:min 1 8=1:=rfl;generalize gC ts acc g i=Hc at *;generalize gC ts acc g j=Hd at *;simp only[ax,lW,B9,Lg,SIM,ST0,ST1,h0,h1,P,dw,rp,c5,F,hl,hm1,goo,goo1,goo2,hsm,Ni,happ,hst,Nat.reduceAdd,Nat.reduceLeDiff,TkR.v];exact ⟨_,⟨by first|rfl|exact h0,by first|rfl|exact h1⟩,rfl⟩
 ·cases ht
theorem Qr {ts:List TkR}{acc:List NdR}{g i:Nat}(ht:ko ts i=some true)(fu:Nat)(r:RG)(h0:r.a.a.a=.ptr 5 0) :
  ∃ r',ax (lW (orc CC pM)) (fu+1) r [] ⟨gC ts acc g i,1⟩=some (.exit 0,r',[],⟨gC ts acc g i,1⟩):=by
 unfold ko at ht
 split at ht
 ·rename_i x hx;simp only[SJ] at ht;have P:=vO (n:=5) (lin:=.dead) pm1 (mP hx) (gC ts acc g i) rfl;have c5:decide ((x.k:Int)=5)=Nat.beq x.k 5:=xX x.k 5;rw[ht] at c5;have hl:aa (gC ts acc g i)=8:=rfl;have hm1:min 1 8=1:=rfl;generalize gC ts acc g i=Hc at *;simp only[ax,lW,B9,SIM,ST0,ST1,h0,P,dw,rp,c5,hl,hm1,Nat.reduceAdd,Nat.reduceLeDiff,TkR.v];exact ⟨_,rfl⟩
 ·cases ht
def LH (ts:List TkR):List NdR->List NdR->Nat->Nat->Nat->Prop
 | [],acc,g,i,j=>i=j/\ko ts i=some true
 | q::l,acc,g,i,j=>∃ j1,ko ts i=some false/\recC 29 [.ptr 5 0] (gC ts acc g i)=some (.ret q.v (gC ts acc g j1) 8)/\LH ts l (acc++[q]) (g+1) j1 j
theorem Ad {ts:List TkR}{q:NdR}{l acc:List NdR}{g i j:Nat}(j1:Nat)(h1:ko ts i=some false)(h2:recC 29 [.ptr 5 0] (gC ts acc g i)=some (.ret q.v (gC ts acc g j1) 8))(h3:LH ts l (acc++[q]) (g+1) j1 j):LH ts (q::l) acc g i j:=⟨j1,h1,h2,h3⟩
theorem Fi {ts:List TkR}:∀ (l acc:List NdR) (g i j:Nat),LH ts l acc g i j->acc.length+l.length<=1000->∀ (fu:Nat),l.length<fu->∀ r:RG,(r.a.a.a=.ptr 5 0/\r.a.a.b=.ptr 1 0) ->
  ∃ r',ax (lW (orc CC pM)) fu r [] ⟨gC ts acc g i,1⟩=some (.exit 0,r',[],⟨gC ts (acc++l) (g+l.length) j,1⟩)
 | [],acc,g,i,j,h,ha,fu,hfu,r,⟨h0,h1⟩=>by
   obtain ⟨fu',rfl⟩ : ∃ f,fu=f+1:=⟨fu-1,by simp at hfu;omega⟩
   obtain ⟨rfl,ht⟩:=h;rw[List.append_nil];exact Qr ht fu' r h0
 | q::l,acc,g,i,j,h,ha,fu,hfu,r,⟨h0,h1⟩=>by
   obtain ⟨fu',rfl⟩ : ∃ f,fu=f+1:=⟨fu-1,by simp at hfu;omega⟩
   obtain ⟨j1,ht,F,h⟩:=h;simp only[List.length_cons] at ha hfu;obtain ⟨r1,hr1,e1⟩:=Ih ht (by omega) (recC_le _ _ _ _ F) fu' r h0 h1
   obtain ⟨r2,e2⟩:=Fi l (acc++[q]) (g+1) j1 j h (by simp;omega) fu' (by omega) r1 hr1
   rw[List.append_assoc,Nat.add_assoc,Nat.add_comm 1] at e2;exact ⟨r2,e1.trans e2⟩
theorem Tn {ts:List TkR}{d:NdR}{l:List NdR}{j1 j:Nat}(F:orc CC pM 29 [.ptr 5 0] (mA ts .nils 0 [])=some (.ret d.v (mA ts .nils j1 []) 7))(h:LH ts l [d] 0 j1 j)(hl:l.length<=100) :
  orc CC pM 28 [.ptr 5 0,.ptr 1 0] (mA ts .nils 0 [])=some (.ret Abs.undef (gC ts (d::l) l.length j) 1):=by
 have happ:=λe=>Bg 28 d (mA ts .nils j1 []) e
 have hl7:aa (mA ts .nils 0 [])=7:=rfl;have hl71:aa (mA ts .nils j1 [])=7:=rfl;rw[hl71] at happ
 have hst:eM 1 0 1 (.sl 6 [d.v] (.live 7 0)) [.sl 6 [d.v] (.live 7 0)] [.nils] ⟨mA ts .nils j1 []++[.lin 0],7⟩=_ :=
  zT (nd_noN [d]) (by rw[az];show 7<7+1;omega) (by omega)
 have hend:am (mA ts .nils j1 []++[.lin 0]) 1 (.cells [.sl 6 [d.v] (.live 7 0)])=gC ts [d] 0 j1:=rfl;have hmin:min 7 1=1:=rfl;rw[hend,hmin] at hst;have goo:ae (mA ts .nils 0 []) 1=some (.cells [.nils]):=rfl;have goo1:ae (mA ts .nils j1 []) 1=some (.cells [.nils]):=rfl;have goo2:ae (mA ts .nils j1 []++[.lin 0]) 1=some (.cells [.nils]):=rfl;refine aJ (z:=z28) rfl (by kernel_rfl) rfl ?_
 rw[hl7]
 obtain ⟨r0,hr0,hpre⟩ : ∃ r,(r.a.a.a=.ptr 5 0/\r.a.a.b=.ptr 1 0)/\z28.sh (orc CC pM) (envOf [.ptr 5 0,.ptr 1 0] 0 env0) [] ⟨mA ts .nils 0 [],7⟩=c9 0 (ax (lW (orc CC pM)) 100000 r [] ⟨gC ts [d] 0 j1,1⟩):=by
  have e0:(envOf [AV.ptr 5 0,.ptr 1 0] 0 env0).a.a.a=.ptr 5 0:=rfl;have e1:(envOf [AV.ptr 5 0,.ptr 1 0] 0 env0).a.a.b=.ptr 1 0:=rfl;generalize envOf [AV.ptr 5 0,.ptr 1 0] 0 env0=R at e0 e1;have hm7:min 7 7=7:=rfl;generalize mA ts .nils 0 []=Hc at *;generalize mA ts .nils j1 []=Hd at *;simp only[z28,LG,SIM,ST0,e0,e1,F,hl7,goo,goo1,goo2,same_nils,Ni,happ,hst,hm7,Nat.reduceAdd,Nat.reduceLeDiff];exact ⟨_,⟨by first|rfl|exact e0,by first|rfl|exact e1⟩,rfl⟩
 obtain ⟨r',h1⟩:=Fi l [d] 0 j1 j h (by simp;omega) 100000 (by omega) r0 hr0
 rw[Nat.zero_add] at h1;rw[hpre,h1];have hgc:=λhp=>dL (keep:=CC.keep 28) (base:=7) (e:=1) (v:=Abs.undef) (hp:=hp) (by omega)
 simp only[z28,SIM,ST0,hgc,List.cons_append,List.nil_append,Nat.reduceAdd,Nat.reduceLeDiff]
theorem Tt {ts:List TkR}{d:NdR}{l:List NdR}{j1 j:Nat}(F:orc CC pM 29 [.ptr 5 0] (mA ts .nils 0 [])=some (.ret d.v (mA ts .nils j1 []) 7))(h:LH ts l [d] 0 j1 j)(hl:l.length<=100)(hj:ko ts j=some true) :
  orc CC pM 46 [.ptr 4 0,.ptr 2 0,.ptr 6 0] (mA ts .nils 0 [])=some (.ret Abs.undef (gC ts (d::l) l.length j) 1):=by
 have hP:=Tn F h hl;unfold ko at hj
 split at hj
 ·rename_i x hx;simp only[SJ] at hj;have P:=vO (n:=5) (lin:=.dead) pm1 (mP hx) (gC ts (d::l) l.length j) rfl;have c5:decide ((x.k:Int)=5)=Nat.beq x.k 5:=xX x.k 5;rw[hj] at c5;refine aJ (z:=z46) rfl (by kernel_rfl) rfl ?_
  have e0:(envOf [AV.ptr 4 0,.ptr 2 0,.ptr 6 0] 0 env0).a.a.a=.ptr 4 0:=rfl;have e1:(envOf [AV.ptr 4 0,.ptr 2 0,.ptr 6 0] 0 env0).a.a.b=.ptr 2 0:=rfl;have e2:(envOf [AV.ptr 4 0,.ptr 2 0,.ptr 6 0] 0 env0).a.a.c=.ptr 6 0:=rfl;generalize envOf [AV.ptr 4 0,.ptr 2 0,.ptr 6 0] 0 env0=R at e0 e1 e2;have hl7:aa (mA ts .nils 0 [])=7:=rfl;have hl8:aa (gC ts (d::l) l.length j)=8:=rfl;have hd:ae (mA ts .nils 0 []) 2=some (.cells [.func (.func 28) [] [.ptr 1 0]]):=rfl;have hp:ae (mA ts .nils 0 []) 6=some (.cells [.ptr 5 0]):=rfl;have gp:ae (gC ts (d::l) l.length j) 6=some (.cells [.ptr 5 0]):=rfl;have hm:min 7 1=1:=rfl;have hm2:min 1 8=1:=rfl;have hgc:=λhp=>dL (keep:=CC.keep 46) (base:=7) (e:=1) (v:=Abs.undef) (hp:=hp) (by omega)
  rw[hl7];generalize gC ts (d::l) l.length j=Hc at *;generalize mA ts .nils 0 []=Hd at *
  obtain ⟨r',hpre⟩ : ∃ r',z46.sh (orc CC pM) R [] ⟨Hd,7⟩=some (.normal,r',[(47,[.ptr 4 0])],⟨Hc,1⟩):=by
   simp only[z46,MD,Mi,Ld,SIM,ST0,e0,e1,e2,hd,hp,Pa,hP,hm,gp,P,dw,rp,c5,hl8,hm2,Nat.reduceAdd,Nat.reduceLeDiff,TkR.v];exact ⟨_,rfl⟩
  rw[hpre];show ti CC 46 7 [] r' [(47,[.ptr 4 0])] ⟨Hc,1⟩=_;have hct:(CC.catcher 47).isSome=true:=by kernel_rfl
  unfold ti;simp only[List.all_cons,List.all_nil,hct,Bool.and_self,List.length_cons,List.length_nil];rw[show Nat.ble (0+1) 1=true from rfl]
  simp only[Bool.and_self,cond_true];exact congrArg some (hgc Hc)
 ·cases hj
def Jm (p:Nat)(x:TkR):TkR:=⟨x.k,p,x.t,x.m,x.err,p+x.pos⟩
theorem FU (ws sg:List (List Nat))(p:Nat)(t:List Nat)(h:(iO ws sg 0 t).err=0):iO ws sg p t=Jm p (iO ws sg 0 t):=by
 cases t with
 | nil=>rfl
 | cons b r =>
   unfold iO at h ⊢;cases hL:Ib b with
   | true =>
     simp only[hL,cond_true] at h ⊢;unfold Uq at h ⊢;cases hA:uU ((b::r).takeWhile iu) ws with
     | true=>simp[Jm]
     | false =>
       simp only[hA,cond_false] at h ⊢;cases h2:Nat.ble ((b::r).takeWhile iu).length 30 with
       | true=>simp[Jm]
       | false=>rw[h2] at h;cases h
   | false =>
     simp only[hL,cond_false] at h ⊢;cases hD:isD b with
     | true =>
       simp only[hD,cond_true] at h ⊢;generalize (b::r).takeWhile isD=w at h ⊢;cases w with
       | nil=>cases h
       | cons d0 t' =>
         unfold U9 at h ⊢;simp only at h ⊢;cases h2:(Nat.beq d0 48&&Nat.ble 2 (t'.length+1)) with
         | true=>rw[h2] at h;cases h
         | false =>
           rw[h2] at h;simp only[cond_false] at h ⊢;cases h3:numS 0 (d0::t') with
           | none=>rw[h3] at h;cases h
           | some v=>simp[Jm]
     | false =>
       simp only[hD,cond_false] at h ⊢;cases h2:pf (b::r) sg with
       | none=>rw[h2] at h;cases h
       | some s=>simp[VO,Jm]
def wQ (ws sg:List (List Nat)):Nat->List Nat->Nat->Option (List TkR×List Nat×Nat)
 | 0,t,j=>some ([],t,j)
 | m+1,t,j=>match blV t with
   | none=>none
   | some n=>match blV (t.drop n) with
     | none=>none
     | some z=>cond (Nat.beq z 0) (match iO ws sg 0 (t.drop n) with
       | x=>cond (Nat.beq x.err 0&&!Nat.beq x.k 5) (match wQ ws sg m ((t.drop n).drop x.pos) (j+n+x.pos) with
         | none=>none
         | some (A,r)=>some (Jm (j+n) x::A,r)) none) none
theorem rX {ws sg:List (List Nat)}:∀ (m:Nat) (t:List Nat) (j:Nat) (A:List TkR) (t' : List Nat) (j' k:Nat) (l:List TkR),wQ ws sg m t j=some (A,t',j')->kW ws sg k t' j'=some l->kW ws sg (m+k) t j=some (A++l)
 | 0,t,j,A,t',j',k,l,h,hl=>by
   simp only[wQ,SJ,PJ] at h;obtain ⟨rfl,rfl,rfl⟩:=h;rw[Nat.zero_add,List.nil_append];exact hl
 | m+1,t,j,A,t',j',k,l,h,hl=>by
   simp only[wQ] at h;cases h1:blV t with
   | none=>rw[h1] at h;cases h
   | some n =>
     rw[h1] at h;simp only at h;cases h2:blV (t.drop n) with
     | none=>rw[h2] at h;cases h
     | some z =>
       rw[h2] at h;simp only at h;obtain ⟨hz,h⟩:=aT h;obtain ⟨hc,h⟩:=aT h;rw[Bool.and_eq_true] at hc;have he:=Nat.eq_of_beq_eq_true hc.1;have hx:=FU ws sg (j+n) (t.drop n) he;generalize iO ws sg 0 (t.drop n)=x at h hc he hx;cases h3:wQ ws sg m ((t.drop n).drop x.pos) (j+n+x.pos) with
       | none=>rw[h3] at h;cases h
       | some q =>
         obtain ⟨A',t2,j2⟩:=q;rw[h3] at h;simp only[SJ,PJ] at h;obtain ⟨rfl,rfl,rfl⟩:=h;have ih:=rX m _ _ _ _ _ k l h3 hl;rw[show m+1+k=(m+k)+1 by omega]
         simp only[kW,h1,h2,hx,hz,cond_true];have e1:(Jm (j+n) x).err=x.err:=rfl;have e2:(Jm (j+n) x).k=x.k:=rfl;have e3:(Jm (j+n) x).pos=j+n+x.pos:=rfl;have e4:Nat.beq x.k 5=false:=by have:=hc.2;simpa using this
         have e5:Nat.ble j (j+n+x.pos)=true:=Nat.ble_eq_true_of_le (by omega)
         have e6:t.drop (j+n+x.pos-j)=(t.drop n).drop x.pos:=by rw[List.drop_drop];congr 1;omega
         rw[e1,e2,e3,hc.1,e4,e5,e6,ih];rfl
structure Seg where
 b:List Nat
 T:Nat->List TkR
def Seg.ok (s:Seg):Prop:=∃ m,(∀ j,(s.T j).length=m)/\∀ (rest:List Nat) (j:Nat),wQ wordsS signsS m (32::s.b++32::rest) j=some (s.T j,32::rest,j+(s.b.length+1))
def da (l:List Seg):List Nat:=l.flatMap λs=>32::s.b
def segT:List Seg->Nat->List TkR
 | [],_=>[]
 | s::l,j=>s.T j++segT l (j+(s.b.length+1))
theorem yV (l:List Seg)(rest:List Nat):∃ r,da l++32::rest=32::r:=by
 cases l with
 | nil=>exact ⟨rest,rfl⟩
 | cons s l=>exact ⟨s.b++da l++32::rest,by simp[da]⟩
theorem segs_ok:∀ (l:List Seg),(∀ s∈l,s.ok)->∀ (rest:List Nat) (j k:Nat) (q:List TkR),kW wordsS signsS k (32::rest) (j+(da l).length)=some q->kW wordsS signsS ((segT l j).length+k) (da l++32::rest) j=some (segT l j++q)
 | [],_,rest,j,k,q,h=>by
   simp only[da,segT,List.flatMap_nil,List.length_nil,Nat.zero_add,Nat.add_zero,List.nil_append] at h ⊢;exact h
 | s::l,hs,rest,j,k,q,h=>by
   obtain ⟨m,hm,hK⟩:=hs s (List.mem_cons_self ..);obtain ⟨r,hr⟩:=yV l rest;have e1:da (s::l)++32::rest=32::s.b++(da l++32::rest):=by simp[da]
   have e2:(da (s::l)).length=(s.b.length+1)+(da l).length:=by simp[da];omega
   rw[e2,<-Nat.add_assoc] at h;have ih:=segs_ok l (λx hx=>hs x (List.mem_cons_of_mem _ hx)) rest (j+(s.b.length+1)) k q h
   rw[e1,hr];rw[hr] at ih;have:=rX m _ _ _ _ _ _ _ (hK r j) ih;simp only[segT,List.length_append,hm,Nat.add_assoc,List.append_assoc] at this ⊢;exact this
def mq (s:List Nat)(p:Nat):TkR:=⟨1,p,s,0,0,p+s.length⟩
def fE (s:List Nat)(p:Nat):TkR:=⟨4,p,s,0,0,p+s.length⟩
def jH (s:List Nat)(p:Nat):TkR:=⟨3,p,s,0,0,p+s.length⟩
def Xw (v:Nat)(s:List Nat)(p:Nat):TkR:=⟨2,p,s,v,0,p+s.length⟩
namespace Hd
def headA:List Nat:=[110,111,100,101,32,102,40,120,58,32,105,110,116,41,32,114,101,116,117,114,110,115,32,40,121,58,32,105,110,116,41,32,118,97,114,32,117,58,32,102,117,116,117,114,101,32,105,110,116,59,32,108,101,116,32,117,32,61,32,97,115,121,110,99,32,103,40,120,41,59,32,121,32,61,32,102,97,40,117,41,59,32,116,101,108,32,110,111,100,101,32,103,40,97,58,32,105,110,116,41,32,114,101,116,117,114,110,115,32,40,98,58,32,105,110,116,41,32,108,101,116,32,98,32,61,32,97,59,32,116,101,108]
def HT:List TkR:=[jH [110,111,100,101] 0,mq [102] 5,fE [40] 6,mq [120] 7,fE [58] 8,jH [105,110,116] 10,fE [41] 13,jH [114,101,116,117,114,110,115] 15,fE [40] 23,mq [121] 24,fE [58] 25,jH [105,110,116] 27,fE [41] 30,jH [118,97,114] 32,mq [117] 36,fE [58] 37,jH [102,117,116,117,114,101] 39,jH [105,110,116] 46,fE [59] 49,jH [108,101,116] 51,mq [117] 55,fE [61] 57,jH [97,115,121,110,99] 59,mq [103] 65,fE [40] 66,mq [120] 67,fE [41] 68,fE [59] 69,mq [121] 71,fE [61] 73,mq [102,97] 75,fE [40] 77,mq [117] 78,fE [41] 79,fE [59] 80,jH [116,101,108] 82,jH [110,111,100,101] 86,mq [103] 91,fE [40] 92,mq [97] 93,fE [58] 94,jH [105,110,116] 96,fE [41] 99,jH [114,101,116,117,114,110,115] 101,fE [40] 109,mq [98] 110,fE [58] 111,jH [105,110,116] 113,fE [41] 116,jH [108,101,116] 118,mq [98] 122,fE [61] 124,mq [97] 126,fE [59] 127,jH [116,101,108] 129]
theorem CO (rest:List Nat):wQ wordsS signsS 55 (headA++32::rest) 0=some (HT,32::rest,132):=by kernel_rfl
def sN (i:Nat):Seg:=⟨[110,111,100,101,32]++dx i++[40,119,58,32,102,117,116,117,114,101,32,105,110,116,41,32,114,101,116,117,114,110,115,32,40,98,58,32,105,110,116,41],λj=>[jH [110,111,100,101] (j+1),mq (dx i) (j+6),fE [40] (j+8),mq [119] (j+9),fE [58] (j+10),jH [102,117,116,117,114,101] (j+12),jH [105,110,116] (j+19),fE [41] (j+22),jH [114,101,116,117,114,110,115] (j+24),fE [40] (j+32),mq [98] (j+33),fE [58] (j+34),jH [105,110,116] (j+36),fE [41] (j+39)]⟩
theorem sN_ok:∀ i,i<10->(sN i).ok
 | 0,_=>⟨14,λ_=>rfl,λrest j=>by kernel_rfl⟩
 | 1,_=>⟨14,λ_=>rfl,λrest j=>by kernel_rfl⟩
 | 2,_=>⟨14,λ_=>rfl,λrest j=>by kernel_rfl⟩
 | 3,_=>⟨14,λ_=>rfl,λrest j=>by kernel_rfl⟩
 | 4,_=>⟨14,λ_=>rfl,λrest j=>by kernel_rfl⟩
 | 5,_=>⟨14,λ_=>rfl,λrest j=>by kernel_rfl⟩
 | 6,_=>⟨14,λ_=>rfl,λrest j=>by kernel_rfl⟩
 | 7,_=>⟨14,λ_=>rfl,λrest j=>by kernel_rfl⟩
 | 8,_=>⟨14,λ_=>rfl,λrest j=>by kernel_rfl⟩
 | 9,_=>⟨14,λ_=>rfl,λrest j=>by kernel_rfl⟩
 | n+10,h=>absurd h (by omega)
def sC (i:Nat):Seg:=⟨[]++dx i++[40,119,41,59],λj=>[mq (dx i) (j+1),fE [40] (j+3),mq [119] (j+4),fE [41] (j+5),fE [59] (j+6)]⟩
theorem sC_ok:∀ i,i<10->(sC i).ok
 | 0,_=>⟨5,λ_=>rfl,λrest j=>by kernel_rfl⟩
 | 1,_=>⟨5,λ_=>rfl,λrest j=>by kernel_rfl⟩
 | 2,_=>⟨5,λ_=>rfl,λrest j=>by kernel_rfl⟩
 | 3,_=>⟨5,λ_=>rfl,λrest j=>by kernel_rfl⟩
 | 4,_=>⟨5,λ_=>rfl,λrest j=>by kernel_rfl⟩
 | 5,_=>⟨5,λ_=>rfl,λrest j=>by kernel_rfl⟩
 | 6,_=>⟨5,λ_=>rfl,λrest j=>by kernel_rfl⟩
 | 7,_=>⟨5,λ_=>rfl,λrest j=>by kernel_rfl⟩
 | 8,_=>⟨5,λ_=>rfl,λrest j=>by kernel_rfl⟩
 | 9,_=>⟨5,λ_=>rfl,λrest j=>by kernel_rfl⟩
 | n+10,h=>absurd h (by omega)
def sLB:Seg:=⟨[108,101,116,32,98,32,61],λj=>[jH [108,101,116] (j+1),mq [98] (j+5),fE [61] (j+7)]⟩
theorem sLB_ok:sLB.ok:=⟨3,λ_=>rfl,λrest j=>by kernel_rfl⟩
def sT:Seg:=⟨[116,101,108],λj=>[jH [116,101,108] (j+1)]⟩
theorem sT_ok:sT.ok:=⟨1,λ_=>rfl,λrest j=>by kernel_rfl⟩
def sVU:Seg:=⟨[118,97,114,32,117,58,32,102,117,116,117,114,101,32,105,110,116,59,32,108,101,116,32,117,32,61,32,97,115,121,110,99],λj=>[jH [118,97,114] (j+1),mq [117] (j+5),fE [58] (j+6),jH [102,117,116,117,114,101] (j+8),jH [105,110,116] (j+15),fE [59] (j+18),jH [108,101,116] (j+20),mq [117] (j+24),fE [61] (j+26),jH [97,115,121,110,99] (j+28)]⟩
theorem sVU_ok:sVU.ok:=⟨10,λ_=>rfl,λrest j=>by kernel_rfl⟩
def sB7:Seg:=⟨[98,32,61,32,55,59,32,116,101,108],λj=>[mq [98] (j+1),fE [61] (j+3),Xw 7 [55] (j+5),fE [59] (j+6),jH [116,101,108] (j+8)]⟩
theorem sB7_ok:sB7.ok:=⟨5,λ_=>rfl,λrest j=>by kernel_rfl⟩
def sAw:Seg:=⟨[97,119,97,105,116,32,119,32,97,102,116,101,114],λj=>[jH [97,119,97,105,116] (j+1),mq [119] (j+7),jH [97,102,116,101,114] (j+9)]⟩
theorem sAw_ok:sAw.ok:=⟨3,λ_=>rfl,λrest j=>by kernel_rfl⟩
def z1:Seg:=⟨[40,48,41,59],λj=>[fE [40] (j+1),Xw 0 [48] (j+2),fE [41] (j+3),fE [59] (j+4)]⟩
theorem z1_ok:z1.ok:=⟨4,λ_=>rfl,λrest j=>by kernel_rfl⟩
def zA:Seg:=⟨[40,48,44],λj=>[fE [40] (j+1),Xw 0 [48] (j+2),fE [44] (j+3)]⟩
theorem zA_ok:zA.ok:=⟨3,λ_=>rfl,λrest j=>by kernel_rfl⟩
def zM:Seg:=⟨[48,44],λj=>[Xw 0 [48] (j+1),fE [44] (j+2)]⟩
theorem zM_ok:zM.ok:=⟨2,λ_=>rfl,λrest j=>by kernel_rfl⟩
def zE:Seg:=⟨[48,41,59],λj=>[Xw 0 [48] (j+1),fE [41] (j+2),fE [59] (j+3)]⟩
theorem zE_ok:zE.ok:=⟨3,λ_=>rfl,λrest j=>by kernel_rfl⟩
end Hd
namespace Hd
def sQ (i:Nat):List Seg:=[sN i,sLB,sC (i+1),sT]
def sr (i:Nat):List Seg:=[sN i,sVU,sC (i+1),sB7]
def zs (a:Nat):List Seg:=cond (Nat.beq a 1) [z1] (zA::(List.replicate (a-2) zM++[zE]))
def ml (i a:Nat):List Seg:=sN i::sLB::sAw::(zs a++[sT])
def spn:Nat->(Nat->TkR)->Nat->List TkR->List TkR
 | 0,_,_,r=>r
 | n+1,f,i,r=>f i::spn n f (i+1) r
def FN (S:List Seg)(d:Nat->NdR)(P j m:Nat):Prop:=∀ (f:Nat->TkR) (rest:List TkR) (acc:List NdR) (g:Nat),ko (spn P f 0 (segT S j++rest)) P=some false /\
 recC 29 [.ptr 5 0] (gC (spn P f 0 (segT S j++rest)) acc g P)=some (.ret (d (j+1)).v (gC (spn P f 0 (segT S j++rest)) acc g (P+m)) 8)
def PI (i c:Nat):Nat:=55+23*(i-c)+34*c
def JJ (i c:Nat):Nat:=132+59*(i-c)+91*c
def bX (p:Nat->Prop):Nat->Prop
 | 0=>True
 | n+1=>bX p n/\p n
theorem sM {p:Nat->Prop}:∀ {n:Nat},bX p n->∀ i,i<n->p i
 | 0,_,i,h=>absurd h (Nat.not_lt_zero _)
 | n+1,⟨h1,h2⟩,i,h=>by
   rcases Nat.lt_succ_iff_lt_or_eq.1 h with h'|rfl
   ·exact sM h1 i h'
   ·exact h2
def L3 (i c a:Nat):Prop:=∀ (f:Nat->TkR) (rest:List TkR) (acc:List NdR) (g:Nat),ko (spn (PI i c) f 0 (segT (ml i (a+1)) (JJ i c)++rest)) (PI i c)=some false /\
 recC 29 [.ptr 5 0] (gC (spn (PI i c) f 0 (segT (ml i (a+1)) (JJ i c)++rest)) acc g (PI i c))=some (.ret (Sq i (JJ i c+1) (a+1)).v (gC (spn (PI i c) f 0 (segT (ml i (a+1)) (JJ i c)++rest)) acc g (PI i c+(2*a+25))) 8)
def P3 (i c:Nat):Prop:=FN (sQ i) (TH i) (PI i c) (JJ i c) 23/\FN (sr i) (TM i) (PI i c) (JJ i c) 34
theorem Zp (rest:List TkR):recC 29 [.ptr 5 0] (mA (HT++rest) .nils 0 [])=some (.ret fN.v (mA (HT++rest) .nils 36 []) 7):=by kernel_rfl
theorem Zd (rest:List TkR):ko (HT++rest) 36=some false/\recC 29 [.ptr 5 0] (gC (HT++rest) [fN] 0 36)=some (.ret gN.v (gC (HT++rest) [fN] 0 55) 8):=⟨by kernel_rfl,by kernel_rfl⟩
end Hd
end Go.Proofs
