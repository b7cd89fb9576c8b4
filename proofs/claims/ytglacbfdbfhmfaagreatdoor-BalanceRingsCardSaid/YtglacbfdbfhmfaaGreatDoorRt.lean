/- the texts of the law, read. Part of the proof of girandolelaw13.BalanceRings. -/
import Derived.Test.YtglacbfdbfhmfaaGreatDoorCur
import Derived.Test.YtglacbfdbfhmfaaGreatDoorDec
import Derived.Test.YtglacbfdbfhmfaaGreatDoorB2
import Derived.Test.YtglacbfdbfhmfaaGreatDoorBa
set_option linter.unusedVariables false
set_option linter.unusedSimpArgs false
set_option maxRecDepth 1000000
namespace Go.Proofs
open Go Go.Abs
noncomputable def xQ (p:AV)(h:Heap)(k:Nat->List AV->Lin->Nat->Int->Int->List Nat->Int->Option CRes):Option CRes:=match p with
 | .ptr n 0=>match ae h n with
   | some (.cells [.sl sz toks lin,.int .i64 (.ofNat i)])=>cond (Nat.beq sz 4) (match ae toks i with
     | some (.agg [.int .i64 kd,.int .i64 ps,.str t,.int .u64 m])=>k n toks lin i kd ps t m
     | _=>none) none
   | _=>none
 | _=>none
def BP (k:Int):Bool:=match k with
 | .ofNat n=>cond (Nat.beq n 3) true (Nat.beq n 4)
 | _=>false
noncomputable def Ni (args:List AV)(h:Heap):Option CRes:=match args with
 | [p,.sl sz ts _]=>xQ p h λn toks lin i kd ps t m=>cond (Nat.beq sz 1&&(Nat.ble (aa ts) 500&&Nat.ble (Nat.succ i) natMax)) (match iu t ts with
   | some b=>cond (cond (BP kd) b false) (some (.ret (.tuple [dq kd ps t m,.bool true]) (ak h n (.cells [.sl 4 toks lin,.int .i64 (.ofNat (Nat.succ i))])) (aa h))) (some (.ret (.tuple [dq kd ps t m,.bool false]) h (aa h)))
   | none=>none) none
 | _=>none
noncomputable def Yj (args:List AV)(h:Heap):Option CRes:=match args with
 | [p,.sl sz ts _]=>xQ p h λn toks lin i kd ps t m=>cond (Nat.beq sz 1&&Nat.ble (aa ts) 500) (match iu t ts with
   | some b=>some (.ret (.bool (cond (BP kd) b false)) h (aa h))
   | none=>none) none
 | _=>none
noncomputable def LU (args:List AV)(h:Heap):Option CRes:=match args with
 | [p]=>xQ p h λn toks lin i kd ps t m=>some (.ret (dq kd ps t m) h (aa h))
 | _=>none
noncomputable def Np (args:List AV)(h:Heap):Option CRes:=match args with
 | [p,.sl sz [.str s] _]=>xQ p h λn toks lin i kd ps t m=>cond (Nat.beq sz 1&&(BP kd&&(strEq s t&&Nat.ble (Nat.succ i) natMax)))
  (some (.ret (dq kd ps t m) (ak h n (.cells [.sl 4 toks lin,.int .i64 (.ofNat (Nat.succ i))])) (aa h))) none
 | _=>none
noncomputable def M6 (args:List AV)(h:Heap):Option CRes:=match args with
 | [p]=>xQ p h λn toks lin i kd ps t m=>cond (AT kd 1&&Nat.ble (Nat.succ i) natMax)
  (some (.ret (dq kd ps t m) (ak h n (.cells [.sl 4 toks lin,.int .i64 (.ofNat (Nat.succ i))])) (aa h))) none
 | _=>none
noncomputable def kCur:Kn:=λf args h =>
 cond (Nat.beq f 74) (Ni args h) (cond (Nat.beq f 53) (Yj args h) (cond (Nat.beq f 30) (LU args h) (cond (Nat.beq f 49) (Np args h) (cond (Nat.beq f 50) (M6 args h) none))))
theorem gq {p:AV}{h:Heap}{k:Nat->List AV->Lin->Nat->Int->Int->List Nat->Int->Option CRes}{r:CRes}(hx:xQ p h k=some r) :
  ∃ n toks lin i kd ps t m,p=.ptr n 0/\ae h n=some (gN toks lin i)/\ae toks i=some (dq kd ps t m)/\k n toks lin i kd ps t m=some r:=by
 unfold xQ at hx
 split at hx
 ·rename_i n
  split at hx
  ·rename_i sz toks lin i hg;obtain ⟨h1,h2⟩:=aS hx;have:=Nat.eq_of_beq_eq_true h1;subst this
   split at h2
   ·rename_i kd ps t m ht;exact ⟨n,toks,lin,i,kd,ps,t,m,rfl,hg,ht,h2⟩
   ·cases h2
  ·cases hx
 ·cases hx
theorem rz (k:Int):BP k=(decide (k=3)||decide (k=4)):=by
 unfold BP
 split
 ·rename_i n;rw[cond_eq_ite,gY,gY,Bool.eq_iff_iff];simp;omega
 ·rename_i h;cases k with
  | ofNat n=>exact absurd rfl (h n)
  | negSucc n=>rfl
theorem Jo {M:Memo}(h1:∀ a,M 30 a=none)(h2:∀ a,M 53 a=none)(h3:∀ a,M 74 a=none)(h4:∀ a,M 49 a=none)(h5:∀ a,M 50 a=none):RZ CC M kCur:=by
 intro f a h r hx _;unfold kCur at hx;cases b1:Nat.beq f 74 with
 | true =>
   rw[b1] at hx;have:=Nat.eq_of_beq_eq_true b1;subst this;simp only[cond_true] at hx;unfold Ni at hx
   split at hx
   ·rename_i p sz ts l;obtain ⟨n,toks,lin,i,kd,ps,t,m,rfl,hg,ht,hy⟩:=gq hx
    clear hx
    obtain ⟨c1,hx⟩:=aS hy
    clear hy
    simp only[Bool.and_eq_true,dt,gY,decide_eq_true_eq,ai,Nat.succ_eq_add_one] at c1;obtain ⟨rfl,c2,c3⟩:=c1
    split at hx
    ·rename_i b hb;rw[An h1 h2 h3 hg ht (by omega) hb c3,<-rz]
     generalize cond (BP kd) b false=c at hx ⊢;cases c<;>exact hx
    ·cases hx
   ·cases hx
 | false =>
 rw[b1] at hx;cases b2:Nat.beq f 53 with
 | true =>
   rw[b2] at hx;have:=Nat.eq_of_beq_eq_true b2;subst this;simp only[cond_true,cond_false] at hx;unfold Yj at hx
   split at hx
   ·rename_i p sz ts l;obtain ⟨n,toks,lin,i,kd,ps,t,m,rfl,hg,ht,hy⟩:=gq hx
    clear hx
    obtain ⟨c1,hx⟩:=aS hy
    clear hy
    simp only[Bool.and_eq_true,dt,gY,decide_eq_true_eq,ai,Nat.succ_eq_add_one] at c1;obtain ⟨rfl,c2⟩:=c1
    split at hx
    ·rename_i b hb;rw[Dl h1 h2 hg ht (by omega) hb,<-rz]
     exact hx
    ·cases hx
   ·cases hx
 | false =>
 rw[b2] at hx;cases b3:Nat.beq f 30 with
 | true =>
   rw[b3] at hx;have:=Nat.eq_of_beq_eq_true b3;subst this;simp only[cond_true,cond_false] at hx;unfold LU at hx
   split at hx
   ·obtain ⟨n,toks,lin,i,kd,ps,t,m,rfl,hg,ht,hx⟩:=gq hx;rw[i1 h1 hg ht];exact hx
   ·cases hx
 | false =>
 rw[b3] at hx;cases b4:Nat.beq f 49 with
 | true =>
   rw[b4] at hx;have:=Nat.eq_of_beq_eq_true b4;subst this;simp only[cond_true,cond_false] at hx;unfold Np at hx
   split at hx
   ·rename_i p sz s l;obtain ⟨n,toks,lin,i,kd,ps,t,m,rfl,hg,ht,hy⟩:=gq hx
    clear hx
    obtain ⟨c1,hx⟩:=aS hy
    clear hy
    simp only[Bool.and_eq_true,dt,gY,decide_eq_true_eq,Nat.succ_eq_add_one] at c1;obtain ⟨rfl,c2,c3,c4⟩:=c1;rw[Km h1 h2 h3 h4 hg ht (by rw[<-rz];exact c2) c3 c4]
    exact hx
   ·cases hx
 | false =>
 rw[b4] at hx;cases b5:Nat.beq f 50 with
 | true =>
   rw[b5] at hx;have:=Nat.eq_of_beq_eq_true b5;subst this;simp only[cond_true,cond_false] at hx;unfold M6 at hx
   split at hx
   ·obtain ⟨n,toks,lin,i,kd,ps,t,m,rfl,hg,ht,hy⟩:=gq hx
    clear hx
    obtain ⟨c1,hx⟩:=aS hy
    clear hy
    simp only[Bool.and_eq_true,dt,decide_eq_true_eq,Nat.succ_eq_add_one,iN] at c1;obtain ⟨rfl,c2⟩:=c1;rw[Ky h1 h5 hg ht c2];exact hx
   ·cases hx
 | false=>rw[b5] at hx;cases hx
def kNone:Kn:=λ_ _ _=>none
theorem CI {M:Memo}:RZ CC M kNone:=λ_ _ _ _ h _=>by cases h
noncomputable def UQ (m:List (FuncId×List AV×AV)):RecT:=callK CC (memoL m) (gD tab) kNone 3000
theorem I5 (m:List (FuncId×List AV×AV)):HO (UQ m) (orc CC (memoL m)):=mV cc_mask tabT CI 3000
namespace Oc
def Ze (s:List Nat)(p:Nat):DeR:=⟨s,p,false,false,[],false⟩
end Oc
theorem PW (n:Int):∃ m:Nat,bK CC .and 3 true (.int .i64 n) (.int .i64 255)=some (.int .i64 (m:Int)):=by
 let m:=(BitVec.ofInt IntKind.i64.bits n &&& BitVec.ofInt IntKind.i64.bits 255).toNat
 have hm:m<=255:=by
  show (BitVec.ofInt IntKind.i64.bits n &&& BitVec.ofInt IntKind.i64.bits 255).toNat<=255;rw[BitVec.toNat_and];exact Nat.le_trans Nat.and_le_right (by decide)
 have hw:IntKind.wrap .i64 (m:Int)=(m:Int):=fy (by unfold natMax;omega)
 refine ⟨m,?_⟩;show bG CC .and 3 (.int .i64 n) (.int .i64 255)=_;simp only[bG,fP,if_true];exact congrArg (λx=>some (AV.int .i64 x)) hw
theorem Ok (b:Bool)(m c:Nat)(hc:0<c)(hm:c<=1000):bK CC .rem 3 b (.int .i64 (m:Int)) (.int .i64 (c:Int))=some (.int .i64 ((m % c:Nat):Int)):=by
 have h0:bG CC .rem 3 (.int .i64 (m:Int)) (.int .i64 (c:Int))=some (.int .i64 ((m % c:Nat):Int)):=by
  simp only[bG,fP,if_true];rw[if_neg (by omega)]
  rfl
 cases b
 ·exact h0
 ·exact h0
noncomputable def recC:RecT:=callK CC (memoL memo1) (gD tab) kCur 3000
theorem recC_le:HO recC (orc CC (memoL memo1)):=mV cc_mask tabT (Jo (λ_=>rfl) (λ_=>rfl) (λ_=>rfl) (λ_=>rfl) (λ_=>rfl)) 3000
def WN (ts:List TkR)(V:AV)(j:Nat)(K:Heap):Heap:=cz0 :: .cells [V] :: .cells [.func (.func 28) [] [.ptr 1 0]]::cz0::cz0::gN (ts.map TkR.v) .dead j :: .cells [.ptr 5 0]::K
def Pk (s:List Nat)(L:List NdR):Prop:=∃ ts j g,jJ wordsS signsS 4100 s 0=some ts/\orc CC (memoL memo1) 46 [.ptr 4 0,.ptr 2 0,.ptr 6 0] (WN ts .nils 0 [])=some (.ret Abs.undef (WN ts (.sl 6 (L.map NdR.v) (.live 7 g)) j [.lin g]) 1)
abbrev pM:Memo:=memoL memo1
theorem XS {s:List Nat}{L:List NdR}(hs:QM s=true)(h:Pk s L):orc CC pM 14 [.str s] []=some (.ret (pV L) [] 0):=by
 obtain ⟨ts,j,g,hl,h46⟩:=h;unfold QM at hs;rw[Bool.and_eq_true,dt,decide_eq_true_eq,List.all_eq_true,ai] at hs
 have L45:∀ H,orc CC pM 45 [.str s] H=some (.ret (.tuple [.sl 4 (ts.map TkR.v) .dead,.agg [.int .i64 0,.int .i64 0]]) H (aa H)):=λH=>by
  have:=OF lx1 (s:=s) rfl hs.1 (λb hb=>by have:=hs.2 b hb;rw[dt,decide_eq_true_eq] at this;omega) (k:=4100) (by omega) (Au 4100 0 ts hl) H
  simpa only[allV,List.nil_append] using this
 have hR:=h46
 have h27:orc CC pM 27 [.str s,.func (.func 28) [] [.ptr 1 0]] [cz0,.cells [.nils]]=some (.ret (.agg [.int .i64 0,.int .i64 0]) (WN ts (.sl 6 (L.map NdR.v) (.live 7 g)) j [.lin g]) 1):=by
  refine aL (z:=z27) rfl (by kernel_rfl) rfl ?_
  have e0:(envOf [AV.str s,.func (.func 28) [] [.ptr 1 0]] 0 env0).a.a.a=.str s:=rfl;have e1:(envOf [AV.str s,.func (.func 28) [] [.ptr 1 0]] 0 env0).a.a.b=.func (.func 28) [] [.ptr 1 0]:=rfl;generalize envOf [AV.str s,.func (.func 28) [] [.ptr 1 0]] 0 env0=R at e0 e1;have hbf:=T8 1 2 (by omega)
  have hbc:=Qe ts;have hsp0:=λb=>uj (a:=5) (r:=6) (b:=b) (cs:=[.nilp]) (hp:=[cz0,.cells [.nils],.cells [.func (.func 28) [] [.ptr 1 0]],cz0,cz0,gN (ts.map TkR.v) .dead 0,.cells [.nilp]]) (by show 5<7;omega) (by omega) (by decide)
  have hgc:=λhp=>dS (keep:=CC.keep 27) (base:=2) (e:=1) (v:=.agg [.int .i64 0,.int .i64 0]) (hp:=hp) (by omega)
  have hs6:∀ (a b c d e f g v:AObj),ak [a,b,c,d,e,f,g] 6 v=[a,b,c,d,e,f,v]:=λ_ _ _ _ _ _ _ _=>rfl
  have hl2:aa [cz0,AObj.cells [.nils]]=2:=rfl;have hm:min 2 1=1:=rfl;have hm0:min 2 4=2:=rfl;unfold WN at hR ⊢;rw[hl2];simp only[z27,Of,L9,NH,Ox,NU,NO,SIM,ST0,ST1,e0,e1,hl2,hbf,L45,Us,W8,hbc,hsp0,Th,hR,hm,hm0,hs6,EXS,i3,ja,hgc,bE,cm,List.length_cons,List.length_nil,List.append_assoc,List.cons_append,List.nil_append,Nat.reduceAdd,Nat.reduceLeDiff]
 refine aL (z:=z14) rfl (by kernel_rfl) rfl ?_
 have e0:(envOf [AV.str s] 0 env0).a.a.a=.str s:=rfl;generalize envOf [AV.str s] 0 env0=R at e0;have hgc:=λhp=>qB (sz:=6) (l:=L.map NdR.v) (fs:=[.int .i64 0,.int .i64 0]) (id:=7) (g:=g) (base:=0) (hp:=hp) (nd_noN L) rfl (by omega)
 have hk14:CC.keep 14=false:=by kernel_rfl
 have g8:∀ (a b c d e f g h i:AObj),ae [a,b,c,d,e,f,g,h,i] 8=some i:=λ_ _ _ _ _ _ _ _ _=>rfl
 have s8:∀ (a b c d e f g h i v:AObj),ak [a,b,c,d,e,f,g,h,i] 8 v=[a,b,c,d,e,f,g,h,v]:=λ_ _ _ _ _ _ _ _ _ _=>rfl
 have hl0:aa ([]:Heap)=0:=rfl;have hm:min 0 1=0:=rfl;unfold WN at h27;rw[hl0];simp only[z14,Mk,NC,Oh,MH,LO,SIM,ST0,ST1,e0,h27,hm,hk14,hgc,g8,s8,EXS,hl0,i3,ja,bE,cm,List.cons_append,List.nil_append,Nat.reduceAdd,Nat.reduceLeDiff]
theorem qU {L:List (FuncId×List AV×AV)}(hL:dB CC (memoL L)){s:List Nat}{l:List NdR}(hs:QM s=true)(h:Pk s l):dB CC (memoL ((14,[.str s],pV l)::L)) :=
 eu cc_goodF cc_scal hL memo1_ok rfl (OV l) (XS hs h)
abbrev zNd:AObj:=.cells [.str [],.int .i64 0,.nils,.nils,.nils,.nils]
abbrev mA (ts:List TkR)(V:AV)(j:Nat)(K:Heap):Heap:=cz0 :: .cells [V] :: .cells [.func (.func 28) [] [.ptr 1 0]]::cz0::cz0::gN (ts.map TkR.v) .dead j :: .cells [.ptr 5 0]::K
def Yq (qf:Nat->EqR):Nat->AV
 | 0=>.nils
 | i+1=>.sl 8 (((List.range (i+1)).map qf).map EqR.v) (.live 10 i)
def liE:Nat->Heap
 | 0=>[]
 | i+1=>[.lin i]
noncomputable def oS (ts:List TkR)(i:Nat):Option Bool:=match ae ts i with
 | some x=>some (X0 x [[116,101,108]])
 | none=>none
abbrev d9 (ts:List TkR)(d:NdR)(tok:AObj)(qf:Nat->EqR)(i j:Nat):Heap:=mA ts .nils j (zNd::tok :: .cells (fH d.s d.p d.ins d.outs d.vars (Yq qf i))::liE i)
theorem Gk {ts:List TkR}{d:NdR}{tok:AObj}{qf:Nat->EqR}{j j1:Nat}(ht:oS ts j=some false)(hlen:ts.length<=90000)
  (F:orc CC pM 54 [.ptr 5 0] (d9 ts d tok qf 0 j)=some (.ret (qf 0).v (d9 ts d tok qf 0 j1) 10)) (fu:Nat) (r:RG) (h0:r.a.a.a=.ptr 5 0) (h2:r.a.a.c=.ptr 7 0) (h4:r.a.a.e=.ptr 9 0) :
  ∃ r',(r'.a.a.a=.ptr 5 0/\r'.a.a.c=.ptr 7 0/\r'.a.a.e=.ptr 9 0)/\am (ew (orc CC pM)) (fu+1) r [] ⟨d9 ts d tok qf 0 j,7⟩=am (ew (orc CC pM)) fu r' [] ⟨d9 ts d tok qf 1 j1,7⟩:=by
 unfold oS at ht
 split at ht
 ·rename_i x hx;simp only[SJ] at ht;have I':=λl H hcn=>Rv (n:=5) (lin:=.dead) pm1 (gm hx) (ws:=[[116,101,108]]) (wa:=[.str [116,101,108]]) rfl (by simp) ht l H hcn
  have I'':=λl=>I' l (d9 ts d tok qf 0 j) rfl
  have happ:=λe=>BB 29 (qf 0) (d9 ts d tok qf 0 j1) e
  have hst:dL 1 5 9 (.sl 8 [(qf 0).v] (.live 10 0)) [.sl 8 [(qf 0).v] (.live 10 0)] (fH d.s d.p d.ins d.outs d.vars .nils) ⟨d9 ts d tok qf 0 j1++[.lin 0],7⟩=_ :=
   Af (eq_noN [qf 0]) (by rw[aB];show 10<10+1;omega) (by omega) (by omega) (by show 5+1<=6;omega)
  rw[Gu] at hst;have hl10:aa (d9 ts d tok qf 0 j)=10:=rfl;have hl11:aa (d9 ts d tok qf 0 j1)=10:=rfl;have hg:ae (d9 ts d tok qf 0 j) 9=some (.cells (fH d.s d.p d.ins d.outs d.vars .nils)):=rfl;have hg1:ae (d9 ts d tok qf 0 j1) 9=some (.cells (fH d.s d.p d.ins d.outs d.vars .nils)):=rfl;have hg2:ae (d9 ts d tok qf 0 j1++[.lin 0]) 9=some (.cells (fH d.s d.p d.ins d.outs d.vars .nils)):=rfl;have hend:ak (d9 ts d tok qf 0 j1++[.lin 0]) 9 (.cells (fH d.s d.p d.ins d.outs d.vars (.sl 8 [(qf 0).v] (.live 10 0))))=d9 ts d tok qf 1 j1:=rfl;rw[hend] at hst;rw[hl11] at happ;have hmin:min 7 10=7:=rfl;generalize d9 ts d tok qf 0 j=Hc at *;generalize d9 ts d tok qf 0 j1=Hd at *;simp only[am,ew,yC,Hg,SIM,ST0,ST1,h0,h4,I'',F,hg,hg1,hg2,hl10,same_nils,Ng,happ,hst,hmin,B26,Nat.reduceAdd,Nat.reduceLeDiff];exact ⟨_,⟨by first|rfl|exact h0,by first|rfl|exact h2,by first|rfl|exact h4⟩,rfl⟩
 ·cases ht
theorem JZ {ts:List TkR}{d:NdR}{tok:AObj}{qf:Nat->EqR}{i j j1:Nat}(ht:oS ts j=some false)(hlen:ts.length<=90000)(hi:i<=1000)
  (F:orc CC pM 54 [.ptr 5 0] (d9 ts d tok qf (i+1) j)=some (.ret (qf (i+1)).v (d9 ts d tok qf (i+1) j1) 11)) (fu:Nat) (r:RG) (h0:r.a.a.a=.ptr 5 0) (h2:r.a.a.c=.ptr 7 0) (h4:r.a.a.e=.ptr 9 0) :
  ∃ r',(r'.a.a.a=.ptr 5 0/\r'.a.a.c=.ptr 7 0/\r'.a.a.e=.ptr 9 0)/\am (ew (orc CC pM)) (fu+1) r [] ⟨d9 ts d tok qf (i+1) j,7⟩=am (ew (orc CC pM)) fu r' [] ⟨d9 ts d tok qf (i+2) j1,7⟩:=by
 unfold oS at ht
 split at ht
 ·rename_i x hx;simp only[SJ] at ht;have I':=λl H hcn=>Rv (n:=5) (lin:=.dead) pm1 (gm hx) (ws:=[[116,101,108]]) (wa:=[.str [116,101,108]]) rfl (by simp) ht l H hcn
  have I'':=λl=>I' l (d9 ts d tok qf (i+1) j) rfl
  let acc:=(List.range (i+1)).map qf
  have happ:=λe=>xV 29 (xs:=acc.map EqR.v) (qf (i+1)) (hp:=d9 ts d tok qf (i+1) j1) (e:=e) (id:=10) (g:=i) rfl (by simp[acc];omega)
  have hm:acc.map EqR.v++[(qf (i+1)).v]=((List.range (i+2)).map qf).map EqR.v:=by rw[List.range_succ (n:=i+1),List.map_append,List.map_append];rfl
  rw[hm] at happ
  have hst:dL 1 5 9 (.sl 8 (((List.range (i+2)).map qf).map EqR.v) (.live 10 (i+1))) [.sl 8 (((List.range (i+2)).map qf).map EqR.v) (.live 10 (i+1))] (fH d.s d.p d.ins d.outs d.vars (.sl 8 (acc.map EqR.v) (.live 10 i))) ⟨ak (d9 ts d tok qf (i+1) j1) 10 (.lin (i+1)),7⟩=_ :=
   Af (eq_noN _) (by rw[ar];show 10<11;omega) (by omega) (by omega) (by show 5+1<=6;omega)
  rw[Gu] at hst;have hl10:aa (d9 ts d tok qf (i+1) j)=11:=rfl;have hg:ae (d9 ts d tok qf (i+1) j) 9=some (.cells (fH d.s d.p d.ins d.outs d.vars (.sl 8 (acc.map EqR.v) (.live 10 i)))):=rfl;have hg1:ae (d9 ts d tok qf (i+1) j1) 9=some (.cells (fH d.s d.p d.ins d.outs d.vars (.sl 8 (acc.map EqR.v) (.live 10 i)))):=rfl;have hg2:ae (ak (d9 ts d tok qf (i+1) j1) 10 (.lin (i+1))) 9=some (.cells (fH d.s d.p d.ins d.outs d.vars (.sl 8 (acc.map EqR.v) (.live 10 i)))):=rfl;have hend:ak (ak (d9 ts d tok qf (i+1) j1) 10 (.lin (i+1))) 9 (.cells (fH d.s d.p d.ins d.outs d.vars (.sl 8 (((List.range (i+2)).map qf).map EqR.v) (.live 10 (i+1)))))=d9 ts d tok qf (i+2) j1:=rfl;rw[hend] at hst;have hsm:AV.same (.sl 8 (acc.map EqR.v) (.live 10 i)) (.sl 8 (acc.map EqR.v) (.live 10 i))=true:=by simp[AV.same,eq_same]
  have hmin:min 7 11=7:=rfl;generalize d9 ts d tok qf (i+1) j=Hc at *;generalize d9 ts d tok qf (i+1) j1=Hd at *;generalize acc.map EqR.v=xs at *;simp only[am,ew,yC,Hg,SIM,ST0,ST1,h0,h4,I'',F,hg,hg1,hg2,hl10,hsm,Ng,happ,hst,hmin,B26,Nat.reduceAdd,Nat.reduceLeDiff];exact ⟨_,⟨by first|rfl|exact h0,by first|rfl|exact h2,by first|rfl|exact h4⟩,rfl⟩
 ·cases ht
theorem QV {ts:List TkR}{d:NdR}{tok:AObj}{qf:Nat->EqR}{i j:Nat}(ht:oS ts j=some true)(fu:Nat)(r:RG)(h0:r.a.a.a=.ptr 5 0)(h2:r.a.a.c=.ptr 7 0)(h4:r.a.a.e=.ptr 9 0) :
  ∃ r',(r'.a.a.a=.ptr 5 0/\r'.a.a.c=.ptr 7 0/\r'.a.a.e=.ptr 9 0)/\am (ew (orc CC pM)) (fu+1) r [] ⟨d9 ts d tok qf (i+1) j,7⟩=some (.exit 0,r',[],⟨d9 ts d tok qf (i+1) j,7⟩):=by
 unfold oS at ht
 split at ht
 ·rename_i x hx;simp only[SJ] at ht;have I':=λl H hcn=>Rv (n:=5) (lin:=.dead) pm1 (gm hx) (ws:=[[116,101,108]]) (wa:=[.str [116,101,108]]) rfl (by simp) ht l H hcn
  have I'':=λl=>I' l (d9 ts d tok qf (i+1) j) rfl
  have hl10:aa (d9 ts d tok qf (i+1) j)=11:=rfl;have hmin:min 7 11=7:=rfl;generalize d9 ts d tok qf (i+1) j=Hc at *;simp only[am,ew,yC,SIM,ST0,ST1,h0,I'',hl10,hmin,B26,Nat.reduceAdd,Nat.reduceLeDiff];exact ⟨_,⟨by first|rfl|exact h0,by first|rfl|exact h2,by first|rfl|exact h4⟩,rfl⟩
 ·cases ht
noncomputable def TB (ts:List TkR)(j:Nat):TkR:=match ae ts j with
 | some x=>x
 | none=>⟨0,0,[],0,0,0⟩
abbrev jl (x:TkR):AObj:=.cells [.int .i64 (x.k:Int),.int .i64 (x.p:Int),.str x.t,.int .u64 (x.m:Int)]
abbrev n3 (x:TkR)(a b c:AV):AObj:=.cells [.str x.t,.int .i64 (x.p:Int),a,b,c,.nils]
abbrev wS (s:List Nat):List AV:=[.ptr 5 0,.sl 1 [.str s] .lit]
structure F29 (ts:List TkR)(x:TkR)(I O V:List DeR)(j2 j4 j5:Nat):Prop where
 a0:recC 49 (wS [110,111,100,101]) (mA ts .nils 0 [zNd])=some (.ret (TB ts 0).v (mA ts .nils 1 [zNd]) 8)
 a1:recC 50 [.ptr 5 0] (mA ts .nils 1 [zNd])=some (.ret x.v (mA ts .nils 2 [zNd]) 8)
 a2:recC 51 [.ptr 5 0] (mA ts .nils 2 [zNd,jl x,.gone])=some (.ret (deZ I) (mA ts .nils j2 [zNd,jl x,.gone]) 10)
 a3:recC 49 (wS [114,101,116,117,114,110,115]) (mA ts .nils j2 [zNd,jl x,n3 x (deZ I) .nils .nils])=some (.ret (TB ts j2).v (mA ts .nils (j2+1) [zNd,jl x,n3 x (deZ I) .nils .nils]) 10)
 a4:recC 51 [.ptr 5 0] (mA ts .nils (j2+1) [zNd,jl x,n3 x (deZ I) .nils .nils])=some (.ret (deZ O) (mA ts .nils j4 [zNd,jl x,n3 x (deZ I) .nils .nils]) 10)
 a5:recC 52 [.ptr 5 0] (mA ts .nils j4 [zNd,jl x,n3 x (deZ I) (deZ O) .nils])=some (.ret (deZ V) (mA ts .nils j5 [zNd,jl x,n3 x (deZ I) (deZ O) .nils]) 10)
 a6:recC 49 (wS [108,101,116]) (mA ts .nils j5 [zNd,jl x,n3 x (deZ I) (deZ O) (deZ V)])=some (.ret (TB ts j5).v (mA ts .nils (j5+1) [zNd,jl x,n3 x (deZ I) (deZ O) (deZ V)]) 10)
def BX (ts:List TkR)(d:NdR)(x:TkR)(qf:Nat->EqR)(jq:Nat->Nat)(i:Nat):Prop :=
 oS ts (jq i)=some false/\recC 54 [.ptr 5 0] (d9 ts d (jl x) qf i (jq i))=some (.ret (qf i).v (d9 ts d (jl x) qf i (jq (i+1))) (aa (liE i)+10))
theorem KZ {ts:List TkR}(hlen:ts.length<=90000){d:NdR}{x:TkR}{qf:Nat->EqR}{jq:Nat->Nat}{m:Nat}(hm:m<=1000)(F:∀ i,i<m+1->BX ts d x qf jq i)(ht:oS ts (jq (m+1))=some true):∀ (k i:Nat),k+i=m->∀ (fu:Nat),k+1<fu->∀ r:RG,(r.a.a.a=.ptr 5 0/\r.a.a.c=.ptr 7 0/\r.a.a.e=.ptr 9 0) ->
  ∃ r',(r'.a.a.a=.ptr 5 0/\r'.a.a.c=.ptr 7 0/\r'.a.a.e=.ptr 9 0)/\am (ew (orc CC pM)) fu r [] ⟨d9 ts d (jl x) qf i (jq i),7⟩=some (.exit 0,r',[],⟨d9 ts d (jl x) qf (m+1) (jq (m+1)),7⟩):=by
 intro k
 have step:∀ i,i<m+1->∀ fu (r:RG),(r.a.a.a=.ptr 5 0/\r.a.a.c=.ptr 7 0/\r.a.a.e=.ptr 9 0)->∃ r',(r'.a.a.a=.ptr 5 0/\r'.a.a.c=.ptr 7 0/\r'.a.a.e=.ptr 9 0)/\am (ew (orc CC pM)) (fu+1) r [] ⟨d9 ts d (jl x) qf i (jq i),7⟩=am (ew (orc CC pM)) fu r' [] ⟨d9 ts d (jl x) qf (i+1) (jq (i+1)),7⟩:=by
  intro i hi fu r ⟨h0,h2,h4⟩;obtain ⟨f1,f2⟩:=F i hi;have f3:=recC_le _ _ _ _ f2;cases i with
  | zero=>exact Gk f1 hlen f3 fu r h0 h2 h4
  | succ i=>exact JZ f1 hlen (by omega) f3 fu r h0 h2 h4
 induction k with
 | zero =>
   intro i hi fu hfu r hr;obtain ⟨fu',rfl⟩ : ∃ f,fu=f+1+1:=⟨fu-2,by omega⟩
   have:i=m:=by omega
   subst this;obtain ⟨r1,hr1,e1⟩:=step i (by omega) (fu'+1) r hr
   obtain ⟨r2,hr2,e2⟩:=QV ht fu' r1 hr1.1 hr1.2.1 hr1.2.2;exact ⟨r2,hr2,e1.trans e2⟩
 | succ k ih =>
   intro i hi fu hfu r hr;obtain ⟨fu',rfl⟩ : ∃ f,fu=f+1:=⟨fu-1,by omega⟩
   obtain ⟨r1,hr1,e1⟩:=step i (by omega) fu' r hr
   obtain ⟨r2,hr2,e2⟩:=ih (i+1) (by omega) fu' (by omega) r1 hr1
   exact ⟨r2,hr2,e1.trans e2⟩
theorem SC {ts:List TkR}(hlen:ts.length<=90000){x:TkR}{I O V:List DeR}{j2 j4 j5:Nat}(A:F29 ts x I O V j2 j4 j5){qf:Nat->EqR}{jq:Nat->Nat}{m:Nat}(hm:m<=1000)(hj:jq 0=j5+1){d:NdR}(hd:d=⟨x.t,x.p,I,O,V,(List.range (m+1)).map qf⟩)(F:∀ i,i<m+1->BX ts d x qf jq i)(ht:oS ts (jq (m+1))=some true)
  (a7:recC 49 (wS [116,101,108]) (d9 ts d (jl x) qf (m+1) (jq (m+1)))=some (.ret (TB ts (jq (m+1))).v (d9 ts d (jl x) qf (m+1) (jq (m+1)+1)) 11)) :
  orc CC pM 29 [.ptr 5 0] (mA ts .nils 0 [])=some (.ret d.v (mA ts .nils (jq (m+1)+1) []) 7):=by
 have a0:=recC_le _ _ _ _ A.a0;have a1:=recC_le _ _ _ _ A.a1;have a2:=recC_le _ _ _ _ A.a2;have a3:=recC_le _ _ _ _ A.a3;have a4:=recC_le _ _ _ _ A.a4;have a5:=recC_le _ _ _ _ A.a5;have a6:=recC_le _ _ _ _ A.a6;have a7:=recC_le _ _ _ _ a7;refine aL (z:=z29) rfl (by kernel_rfl) rfl ?_
 have e0:(envOf [AV.ptr 5 0] 0 env0).a.a.a=.ptr 5 0:=rfl;generalize envOf [AV.ptr 5 0] 0 env0=R0 at e0
 obtain ⟨r0,hr0,hpre⟩ : ∃ r,(r.a.a.a=.ptr 5 0/\r.a.a.c=.ptr 7 0/\r.a.a.e=.ptr 9 0) /\
   z29.sh (orc CC pM) R0 [] ⟨mA ts .nils 0 [],aa (mA ts .nils 0 [])⟩=di (ac (q6 (orc CC pM)) (ac (rX (orc CC pM)) retZ)) (cM 0 (am (ew (orc CC pM)) 100000 r []
    ⟨d9 ts d (jl x) qf 0 (jq 0),7⟩)):=by
  rw[hj,hd];simp only[z29,MP,Ol,Nw,NI,MT,NX,Lb,Mv,SIM,ST0,ST1,e0,a0,a1,a2,a3,a4,a5,a6,B26,DZS,eG,EXS,i3,ja,bE,cm,List.cons_append,List.nil_append,Nat.reduceAdd,Nat.reduceLeDiff,TkR.v];exact ⟨_,⟨by first|rfl|exact e0,rfl,rfl⟩,rfl⟩
 rw[hpre];obtain ⟨r1,⟨h0,h2,h4⟩,hl1⟩:=KZ hlen hm F ht m 0 (by omega) 100000 (by omega) r0 hr0
 rw[hl1];subst hd
 let E:=(List.range (m+1)).map qf
 let jE:=jq (m+1)+1
 have hl10:aa (d9 ts ⟨x.t,x.p,I,O,V,E⟩ (jl x) qf (m+1) (jq (m+1)))=11:=rfl;have hL2:ae (d9 ts ⟨x.t,x.p,I,O,V,E⟩ (jl x) qf (m+1) jE) 9=some (.cells (fH x.t x.p I O V (.sl 8 (E.map EqR.v) (.live 10 m)))):=rfl;have hrs2:ae (d9 ts ⟨x.t,x.p,I,O,V,E⟩ (jl x) qf (m+1) jE) 7=some zNd:=rfl;have hst:=KF (s:=x.t) (p:=x.p) (I:=I) (O:=O) (V:=V) (sz:=8) (l:=E.map EqR.v) (id:=10) (g:=m) (r:=7) (b0:=7) (cs:=[.str [],.int .i64 0,.nils,.nils,.nils,.nils]) (hp:=d9 ts ⟨x.t,x.p,I,O,V,E⟩ (jl x) qf (m+1) jE) (eq_noN E) (by show 10<11;omega) (by omega) (Nat.le_refl _) (Nat.le_refl _)
 have hput:cJ [.str [],.int .i64 0,.nils,.nils,.nils,.nils] 0 (fH x.t x.p I O V (.sl 8 (E.map EqR.v) (.live 10 m)))=fH x.t x.p I O V (.sl 8 (E.map EqR.v) (.live 10 m)):=rfl;rw[hput] at hst;have hH1:∀ c,ae (ak (d9 ts ⟨x.t,x.p,I,O,V,E⟩ (jl x) qf (m+1) jE) 7 c) 7=some c:=λc=>rfl
 have hpre4:bw 7 (ak (d9 ts ⟨x.t,x.p,I,O,V,E⟩ (jl x) qf (m+1) jE) 7 (.cells (fH x.t x.p I O V (.sl 8 (E.map EqR.v) (.live 10 m)))))=mA ts .nils jE []:=rfl;have hgc:=TT (s:=x.t) (p:=x.p) (I:=I) (O:=O) (V:=V) (sz:=8) (l:=E.map EqR.v) (id:=10) (g:=m) (base:=7) (hp:=ak (d9 ts ⟨x.t,x.p,I,O,V,E⟩ (jl x) qf (m+1) jE) 7 (.cells (fH x.t x.p I O V (.sl 8 (E.map EqR.v) (.live 10 m))))) (eq_noN E) (by omega)
 rw[hpre4] at hgc;have hmin:min 7 11=7:=rfl;have hl7:aa (mA ts .nils 0 [])=7:=rfl;rw[hl7];have a7' : orc CC pM 49 [.ptr 5 0,.sl 1 [.str [116,101,108]] .lit] (d9 ts ⟨x.t,x.p,I,O,V,E⟩ (jl x) qf (m+1) (jq (m+1)))=some (.ret (TB ts (jq (m+1))).v (d9 ts ⟨x.t,x.p,I,O,V,E⟩ (jl x) qf (m+1) jE) 11):=a7;show kP CC 29 7 z29 (di (ac (q6 (orc CC pM)) (ac (rX (orc CC pM)) retZ)) (cM 0 (some (.exit 0,r1,[],⟨d9 ts ⟨x.t,x.p,I,O,V,E⟩ (jl x) qf (m+1) (jq (m+1)),7⟩))))=some (.ret (NdR.v ⟨x.t,x.p,I,O,V,E⟩) (mA ts .nils jE []) 7);generalize d9 ts ⟨x.t,x.p,I,O,V,E⟩ (jl x) qf (m+1) jE=Hd at *;generalize d9 ts ⟨x.t,x.p,I,O,V,E⟩ (jl x) qf (m+1) (jq (m+1))=Hc at *;simp only[q6,rX,SIM,ST0,h0,h2,h4,a7',B26,hmin,hL2,hrs2,hst,Nat.reduceAdd,Nat.reduceLeDiff];simp only[z29,SIM,ST0,h2,hH1,keep29,hgc,Nat.reduceAdd,Nat.reduceLeDiff]
noncomputable def o6 (ts:List TkR)(i:Nat):Option Bool:=match ae ts i with
 | some x=>some (Nat.beq x.k 5)
 | none=>none
abbrev jk (ts:List TkR)(acc:List NdR)(g j:Nat):Heap:=mA ts (.sl 6 (acc.map NdR.v) (.live 7 g)) j [.lin g]
theorem K3 {ts:List TkR}{acc:List NdR}{q:NdR}{g i j:Nat}(ht:o6 ts i=some false)(hg:acc.length<=1000)
  (F:orc CC pM 29 [.ptr 5 0] (jk ts acc g i)=some (.ret q.v (jk ts acc g j) 8)) (fu:Nat) (r:RG) (h0:r.a.a.a=.ptr 5 0) (h1:r.a.a.b=.ptr 1 0) :
  ∃ r',(r'.a.a.a=.ptr 5 0/\r'.a.a.b=.ptr 1 0)/\am (l8 (orc CC pM)) (fu+1) r [] ⟨jk ts acc g i,1⟩=am (l8 (orc CC pM)) fu r' [] ⟨jk ts (acc++[q]) (g+1) j,1⟩:=by
 unfold o6 at ht
 split at ht
 ·rename_i x hx;simp only[SJ] at ht;have P:=wG (n:=5) (lin:=.dead) pm1 (gm hx) (jk ts acc g i) rfl;have c5:decide ((x.k:Int)=5)=Nat.beq x.k 5:=pi x.k 5;rw[ht] at c5;have hsm:AV.same (.sl 6 (acc.map NdR.v) (.live 7 g)) (.sl 6 (acc.map NdR.v) (.live 7 g))=true:=by simp[AV.same,nd_same]
  have happ:=λe=>wP 28 (xs:=acc.map NdR.v) q (hp:=jk ts acc g j) (e:=e) (id:=7) (g:=g) rfl (by rw[List.length_map];omega)
  have hm:acc.map NdR.v++[q.v]=(acc++[q]).map NdR.v:=by simp
  rw[hm] at happ
  have hst:dL 1 0 1 (.sl 6 ((acc++[q]).map NdR.v) (.live 7 (g+1))) [.sl 6 ((acc++[q]).map NdR.v) (.live 7 (g+1))] [.sl 6 (acc.map NdR.v) (.live 7 g)] ⟨ak (jk ts acc g j) 7 (.lin (g+1)),1⟩=_ :=
   yD (nd_noN _) (by rw[ar];show 7<8;omega) (by omega)
  have hend:ak (ak (jk ts acc g j) 7 (.lin (g+1))) 1 (.cells [.sl 6 ((acc++[q]).map NdR.v) (.live 7 (g+1))])=jk ts (acc++[q]) (g+1) j:=rfl;have hmin:min 1 1=1:=rfl;rw[hend,hmin] at hst;have goo:ae (jk ts acc g i) 1=some (.cells [.sl 6 (acc.map NdR.v) (.live 7 g)]):=rfl;have goo1:ae (jk ts acc g j) 1=some (.cells [.sl 6 (acc.map NdR.v) (.live 7 g)]):=rfl;have goo2:ae (ak (jk ts acc g j) 7 (.lin (g+1))) 1=some (.cells [.sl 6 (acc.map NdR.v) (.live 7 g)]):=rfl;have hl:aa (jk ts acc g i)=8:=rfl;have hm1:min 1 8=1:=rfl;generalize jk ts acc g i=Hc at *;generalize jk ts acc g j=Hd at *;simp only[am,l8,GH,Le,SIM,ST0,ST1,h0,h1,P,dq,qr,c5,F,hl,hm1,goo,goo1,goo2,hsm,Oz,happ,hst,Nat.reduceAdd,Nat.reduceLeDiff,TkR.v];exact ⟨_,⟨by first|rfl|exact h0,by first|rfl|exact h1⟩,rfl⟩
 ·cases ht
theorem SO {ts:List TkR}{acc:List NdR}{g i:Nat}(ht:o6 ts i=some true)(fu:Nat)(r:RG)(h0:r.a.a.a=.ptr 5 0) :
  ∃ r',am (l8 (orc CC pM)) (fu+1) r [] ⟨jk ts acc g i,1⟩=some (.exit 0,r',[],⟨jk ts acc g i,1⟩):=by
 unfold o6 at ht
 split at ht
 ·rename_i x hx;simp only[SJ] at ht;have P:=wG (n:=5) (lin:=.dead) pm1 (gm hx) (jk ts acc g i) rfl;have c5:decide ((x.k:Int)=5)=Nat.beq x.k 5:=pi x.k 5;rw[ht] at c5;have hl:aa (jk ts acc g i)=8:=rfl;have hm1:min 1 8=1:=rfl;generalize jk ts acc g i=Hc at *;simp only[am,l8,GH,SIM,ST0,ST1,h0,P,dq,qr,c5,hl,hm1,Nat.reduceAdd,Nat.reduceLeDiff,TkR.v];exact ⟨_,rfl⟩
 ·cases ht
def xf (ts:List TkR):List NdR->List NdR->Nat->Nat->Nat->Prop
 | [],acc,g,i,j=>i=j/\o6 ts i=some true
 | q::l,acc,g,i,j=>∃ j1,o6 ts i=some false/\recC 29 [.ptr 5 0] (jk ts acc g i)=some (.ret q.v (jk ts acc g j1) 8)/\xf ts l (acc++[q]) (g+1) j1 j
theorem cw {ts:List TkR}{q:NdR}{l acc:List NdR}{g i j:Nat}(j1:Nat)(h1:o6 ts i=some false)(h2:recC 29 [.ptr 5 0] (jk ts acc g i)=some (.ret q.v (jk ts acc g j1) 8))(h3:xf ts l (acc++[q]) (g+1) j1 j):xf ts (q::l) acc g i j:=⟨j1,h1,h2,h3⟩
theorem Eg {ts:List TkR}:∀ (l acc:List NdR) (g i j:Nat),xf ts l acc g i j->acc.length+l.length<=1000->∀ (fu:Nat),l.length<fu->∀ r:RG,(r.a.a.a=.ptr 5 0/\r.a.a.b=.ptr 1 0) ->
  ∃ r',am (l8 (orc CC pM)) fu r [] ⟨jk ts acc g i,1⟩=some (.exit 0,r',[],⟨jk ts (acc++l) (g+l.length) j,1⟩)
 | [],acc,g,i,j,h,ha,fu,hfu,r,⟨h0,h1⟩=>by
   obtain ⟨fu',rfl⟩ : ∃ f,fu=f+1:=⟨fu-1,by simp at hfu;omega⟩
   obtain ⟨rfl,ht⟩:=h;rw[List.append_nil];exact SO ht fu' r h0
 | q::l,acc,g,i,j,h,ha,fu,hfu,r,⟨h0,h1⟩=>by
   obtain ⟨fu',rfl⟩ : ∃ f,fu=f+1:=⟨fu-1,by simp at hfu;omega⟩
   obtain ⟨j1,ht,F,h⟩:=h;simp only[List.length_cons] at ha hfu;obtain ⟨r1,hr1,e1⟩:=K3 ht (by omega) (recC_le _ _ _ _ F) fu' r h0 h1
   obtain ⟨r2,e2⟩:=Eg l (acc++[q]) (g+1) j1 j h (by simp;omega) fu' (by omega) r1 hr1
   rw[List.append_assoc,Nat.add_assoc,Nat.add_comm 1] at e2;exact ⟨r2,e1.trans e2⟩
theorem SW {ts:List TkR}{d:NdR}{l:List NdR}{j1 j:Nat}(F:orc CC pM 29 [.ptr 5 0] (mA ts .nils 0 [])=some (.ret d.v (mA ts .nils j1 []) 7))(h:xf ts l [d] 0 j1 j)(hl:l.length<=100) :
  orc CC pM 28 [.ptr 5 0,.ptr 1 0] (mA ts .nils 0 [])=some (.ret Abs.undef (jk ts (d::l) l.length j) 1):=by
 have happ:=λe=>A6 28 d (mA ts .nils j1 []) e
 have hl7:aa (mA ts .nils 0 [])=7:=rfl;have hl71:aa (mA ts .nils j1 [])=7:=rfl;rw[hl71] at happ
 have hst:dL 1 0 1 (.sl 6 [d.v] (.live 7 0)) [.sl 6 [d.v] (.live 7 0)] [.nils] ⟨mA ts .nils j1 []++[.lin 0],7⟩=_ :=
  yD (nd_noN [d]) (by rw[aB];show 7<7+1;omega) (by omega)
 have hend:ak (mA ts .nils j1 []++[.lin 0]) 1 (.cells [.sl 6 [d.v] (.live 7 0)])=jk ts [d] 0 j1:=rfl;have hmin:min 7 1=1:=rfl;rw[hend,hmin] at hst;have goo:ae (mA ts .nils 0 []) 1=some (.cells [.nils]):=rfl;have goo1:ae (mA ts .nils j1 []) 1=some (.cells [.nils]):=rfl;have goo2:ae (mA ts .nils j1 []++[.lin 0]) 1=some (.cells [.nils]):=rfl;refine aL (z:=z28) rfl (by kernel_rfl) rfl ?_
 rw[hl7]
 obtain ⟨r0,hr0,hpre⟩ : ∃ r,(r.a.a.a=.ptr 5 0/\r.a.a.b=.ptr 1 0)/\z28.sh (orc CC pM) (envOf [.ptr 5 0,.ptr 1 0] 0 env0) [] ⟨mA ts .nils 0 [],7⟩=cM 0 (am (l8 (orc CC pM)) 100000 r [] ⟨jk ts [d] 0 j1,1⟩):=by
  have e0:(envOf [AV.ptr 5 0,.ptr 1 0] 0 env0).a.a.a=.ptr 5 0:=rfl;have e1:(envOf [AV.ptr 5 0,.ptr 1 0] 0 env0).a.a.b=.ptr 1 0:=rfl;generalize envOf [AV.ptr 5 0,.ptr 1 0] 0 env0=R at e0 e1;have hm7:min 7 7=7:=rfl;generalize mA ts .nils 0 []=Hc at *;generalize mA ts .nils j1 []=Hd at *;simp only[z28,Lj,SIM,ST0,e0,e1,F,hl7,goo,goo1,goo2,same_nils,Oz,happ,hst,hm7,Nat.reduceAdd,Nat.reduceLeDiff];exact ⟨_,⟨by first|rfl|exact e0,by first|rfl|exact e1⟩,rfl⟩
 obtain ⟨r',h1⟩:=Eg l [d] 0 j1 j h (by simp;omega) 100000 (by omega) r0 hr0
 rw[Nat.zero_add] at h1;rw[hpre,h1];have hgc:=λhp=>dS (keep:=CC.keep 28) (base:=7) (e:=1) (v:=Abs.undef) (hp:=hp) (by omega)
 simp only[z28,SIM,ST0,hgc,List.cons_append,List.nil_append,Nat.reduceAdd,Nat.reduceLeDiff]
theorem OT {ts:List TkR}{d:NdR}{l:List NdR}{j1 j:Nat}(F:orc CC pM 29 [.ptr 5 0] (mA ts .nils 0 [])=some (.ret d.v (mA ts .nils j1 []) 7))(h:xf ts l [d] 0 j1 j)(hl:l.length<=100)(hj:o6 ts j=some true) :
  orc CC pM 46 [.ptr 4 0,.ptr 2 0,.ptr 6 0] (mA ts .nils 0 [])=some (.ret Abs.undef (jk ts (d::l) l.length j) 1):=by
 have hP:=SW F h hl;unfold o6 at hj
 split at hj
 ·rename_i x hx;simp only[SJ] at hj;have P:=wG (n:=5) (lin:=.dead) pm1 (gm hx) (jk ts (d::l) l.length j) rfl;have c5:decide ((x.k:Int)=5)=Nat.beq x.k 5:=pi x.k 5;rw[hj] at c5;refine aL (z:=z46) rfl (by kernel_rfl) rfl ?_
  have e0:(envOf [AV.ptr 4 0,.ptr 2 0,.ptr 6 0] 0 env0).a.a.a=.ptr 4 0:=rfl;have e1:(envOf [AV.ptr 4 0,.ptr 2 0,.ptr 6 0] 0 env0).a.a.b=.ptr 2 0:=rfl;have e2:(envOf [AV.ptr 4 0,.ptr 2 0,.ptr 6 0] 0 env0).a.a.c=.ptr 6 0:=rfl;generalize envOf [AV.ptr 4 0,.ptr 2 0,.ptr 6 0] 0 env0=R at e0 e1 e2;have hl7:aa (mA ts .nils 0 [])=7:=rfl;have hl8:aa (jk ts (d::l) l.length j)=8:=rfl;have hd:ae (mA ts .nils 0 []) 2=some (.cells [.func (.func 28) [] [.ptr 1 0]]):=rfl;have hp:ae (mA ts .nils 0 []) 6=some (.cells [.ptr 5 0]):=rfl;have gp:ae (jk ts (d::l) l.length j) 6=some (.cells [.ptr 5 0]):=rfl;have hm:min 7 1=1:=rfl;have hm2:min 1 8=1:=rfl;have hgc:=λhp=>dS (keep:=CC.keep 46) (base:=7) (e:=1) (v:=Abs.undef) (hp:=hp) (by omega)
  rw[hl7];generalize jk ts (d::l) l.length j=Hc at *;generalize mA ts .nils 0 []=Hd at *
  obtain ⟨r',hpre⟩ : ∃ r',z46.sh (orc CC pM) R [] ⟨Hd,7⟩=some (.normal,r',[(47,[.ptr 4 0])],⟨Hc,1⟩):=by
   simp only[z46,Ov,Lt,Nl,SIM,ST0,e0,e1,e2,hd,hp,Pm,hP,hm,gp,P,dq,qr,c5,hl8,hm2,Nat.reduceAdd,Nat.reduceLeDiff,TkR.v];exact ⟨_,rfl⟩
  rw[hpre];show tT CC 46 7 [] r' [(47,[.ptr 4 0])] ⟨Hc,1⟩=_;have hct:(CC.catcher 47).isSome=true:=by kernel_rfl
  unfold tT;simp only[List.all_cons,List.all_nil,hct,Bool.and_self,List.length_cons,List.length_nil];rw[show Nat.ble (0+1) 1=true from rfl]
  simp only[Bool.and_self,cond_true];exact congrArg some (hgc Hc)
 ·cases hj
def Kt (p:Nat)(x:TkR):TkR:=⟨x.k,p,x.t,x.m,x.err,p+x.pos⟩
theorem Gf (ws sg:List (List Nat))(p:Nat)(t:List Nat)(h:(io ws sg 0 t).err=0):io ws sg p t=Kt p (io ws sg 0 t):=by
 cases t with
 | nil=>rfl
 | cons b r =>
   unfold io at h ⊢;cases hL:IK b with
   | true =>
     simp only[hL,cond_true] at h ⊢;unfold VW at h ⊢;cases hA:tI ((b::r).takeWhile iS) ws with
     | true=>simp[Kt]
     | false =>
       simp only[hA,cond_false] at h ⊢;cases h2:Nat.ble ((b::r).takeWhile iS).length 30 with
       | true=>simp[Kt]
       | false=>rw[h2] at h;cases h
   | false =>
     simp only[hL,cond_false] at h ⊢;cases hD:isD b with
     | true =>
       simp only[hD,cond_true] at h ⊢;generalize (b::r).takeWhile isD=w at h ⊢;cases w with
       | nil=>cases h
       | cons d0 t' =>
         unfold Xa at h ⊢;simp only at h ⊢;cases h2:(Nat.beq d0 48&&Nat.ble 2 (t'.length+1)) with
         | true=>rw[h2] at h;cases h
         | false =>
           rw[h2] at h;simp only[cond_false] at h ⊢;cases h3:numS 0 (d0::t') with
           | none=>rw[h3] at h;cases h
           | some v=>simp[Kt]
     | false =>
       simp only[hD,cond_false] at h ⊢;cases h2:oW (b::r) sg with
       | none=>rw[h2] at h;cases h
       | some s=>simp[Wd,Kt]
def rH (ws sg:List (List Nat)):Nat->List Nat->Nat->Option (List TkR×List Nat×Nat)
 | 0,t,j=>some ([],t,j)
 | m+1,t,j=>match blV t with
   | none=>none
   | some n=>match blV (t.drop n) with
     | none=>none
     | some z=>cond (Nat.beq z 0) (match io ws sg 0 (t.drop n) with
       | x=>cond (Nat.beq x.err 0&&!Nat.beq x.k 5) (match rH ws sg m ((t.drop n).drop x.pos) (j+n+x.pos) with
         | none=>none
         | some (A,r)=>some (Kt (j+n) x::A,r)) none) none
theorem mK {ws sg:List (List Nat)}:∀ (m:Nat) (t:List Nat) (j:Nat) (A:List TkR) (t' : List Nat) (j' k:Nat) (l:List TkR),rH ws sg m t j=some (A,t',j')->jJ ws sg k t' j'=some l->jJ ws sg (m+k) t j=some (A++l)
 | 0,t,j,A,t',j',k,l,h,hl=>by
   simp only[rH,SJ,PJ] at h;obtain ⟨rfl,rfl,rfl⟩:=h;rw[Nat.zero_add,List.nil_append];exact hl
 | m+1,t,j,A,t',j',k,l,h,hl=>by
   simp only[rH] at h;cases h1:blV t with
   | none=>rw[h1] at h;cases h
   | some n =>
     rw[h1] at h;simp only at h;cases h2:blV (t.drop n) with
     | none=>rw[h2] at h;cases h
     | some z =>
       rw[h2] at h;simp only at h;obtain ⟨hz,h⟩:=aS h;obtain ⟨hc,h⟩:=aS h;rw[Bool.and_eq_true] at hc;have he:=Nat.eq_of_beq_eq_true hc.1;have hx:=Gf ws sg (j+n) (t.drop n) he;generalize io ws sg 0 (t.drop n)=x at h hc he hx;cases h3:rH ws sg m ((t.drop n).drop x.pos) (j+n+x.pos) with
       | none=>rw[h3] at h;cases h
       | some q =>
         obtain ⟨A',t2,j2⟩:=q;rw[h3] at h;simp only[SJ,PJ] at h;obtain ⟨rfl,rfl,rfl⟩:=h;have ih:=mK m _ _ _ _ _ k l h3 hl;rw[show m+1+k=(m+k)+1 by omega]
         simp only[jJ,h1,h2,hx,hz,cond_true];have e1:(Kt (j+n) x).err=x.err:=rfl;have e2:(Kt (j+n) x).k=x.k:=rfl;have e3:(Kt (j+n) x).pos=j+n+x.pos:=rfl;have e4:Nat.beq x.k 5=false:=by have:=hc.2;simpa using this
         have e5:Nat.ble j (j+n+x.pos)=true:=Nat.ble_eq_true_of_le (by omega)
         have e6:t.drop (j+n+x.pos-j)=(t.drop n).drop x.pos:=by rw[List.drop_drop];congr 1;omega
         rw[e1,e2,e3,hc.1,e4,e5,e6,ih];rfl
structure Seg where
 b:List Nat
 T:Nat->List TkR
def Seg.ok (s:Seg):Prop:=∃ m,(∀ j,(s.T j).length=m)/\∀ (rest:List Nat) (j:Nat),rH wordsS signsS m (32::s.b++32::rest) j=some (s.T j,32::rest,j+(s.b.length+1))
def fY (l:List Seg):List Nat:=l.flatMap λs=>32::s.b
def segT:List Seg->Nat->List TkR
 | [],_=>[]
 | s::l,j=>s.T j++segT l (j+(s.b.length+1))
theorem yM (l:List Seg)(rest:List Nat):∃ r,fY l++32::rest=32::r:=by
 cases l with
 | nil=>exact ⟨rest,rfl⟩
 | cons s l=>exact ⟨s.b++fY l++32::rest,by simp[fY]⟩
theorem segs_ok:∀ (l:List Seg),(∀ s∈l,s.ok)->∀ (rest:List Nat) (j k:Nat) (q:List TkR),jJ wordsS signsS k (32::rest) (j+(fY l).length)=some q->jJ wordsS signsS ((segT l j).length+k) (fY l++32::rest) j=some (segT l j++q)
 | [],_,rest,j,k,q,h=>by
   simp only[fY,segT,List.flatMap_nil,List.length_nil,Nat.zero_add,Nat.add_zero,List.nil_append] at h ⊢;exact h
 | s::l,hs,rest,j,k,q,h=>by
   obtain ⟨m,hm,hK⟩:=hs s (List.mem_cons_self ..);obtain ⟨r,hr⟩:=yM l rest;have e1:fY (s::l)++32::rest=32::s.b++(fY l++32::rest):=by simp[fY]
   have e2:(fY (s::l)).length=(s.b.length+1)+(fY l).length:=by simp[fY];omega
   rw[e2,<-Nat.add_assoc] at h;have ih:=segs_ok l (λx hx=>hs x (List.mem_cons_of_mem _ hx)) rest (j+(s.b.length+1)) k q h
   rw[e1,hr];rw[hr] at ih;have:=mK m _ _ _ _ _ _ _ (hK r j) ih;simp only[segT,List.length_append,hm,Nat.add_assoc,List.append_assoc] at this ⊢;exact this
def kQ (s:List Nat)(p:Nat):TkR:=⟨1,p,s,0,0,p+s.length⟩
def ek (s:List Nat)(p:Nat):TkR:=⟨4,p,s,0,0,p+s.length⟩
def fI (s:List Nat)(p:Nat):TkR:=⟨3,p,s,0,0,p+s.length⟩
def GV (v:Nat)(s:List Nat)(p:Nat):TkR:=⟨2,p,s,v,0,p+s.length⟩
theorem Jh (j:Nat):rH wordsS signsS 1 [32,116,101,108] j=some ([fI [116,101,108] (j+1)],[],j+1+3):=by kernel_rfl
theorem IL (k j:Nat):jJ wordsS signsS (k+1) [] j=some [⟨5,j,[],0,0,j⟩]:=by
 simp[jJ,blV,io]
theorem BK {hA:List Nat}{HT:List TkR}{m p:Nat}(hh:∀ rest,rH wordsS signsS m (hA++32::rest) 0=some (HT,32::rest,p))(l:List Seg)(hl:∀ s∈l,s.ok)(hk:m+((segT l p).length+2)<=4100) :
  jJ wordsS signsS 4100 (hA++(fY l++32::[116,101,108])) 0=some (HT++(segT l p++[fI [116,101,108] (p+(fY l).length+1),⟨5,p+(fY l).length+1+3,[],0,0,p+(fY l).length+1+3⟩])):=by
 obtain ⟨q,hq⟩ : ∃ q,4100=m+((segT l p).length+(1+(q+1))):=⟨4100-m-(segT l p).length-2,by omega⟩
 rw[hq];have a1:=mK 1 _ _ _ _ _ (q+1) _ (Jh (p+(fY l).length)) (IL q _);have a2:=segs_ok l hl [116,101,108] p (1+(q+1)) _ a1;obtain ⟨rr,hr⟩:=yM l [116,101,108];rw[hr] at a2 ⊢;exact mK m _ _ _ _ _ _ _ (hh rr) a2
namespace Rg
def un (i:Nat):List Nat:=[117,48+i]
def gn (k:Nat):List Nat:=[103,48+k]
def varsT:Nat->List Nat
 | 0=>[]
 | k+1=>varsT k++(un k++[58,32,102,117,116,117,114,101,32,105,110,116,59,32])
def gL (n:Nat)(ks:Nat->Nat):Nat->List Nat
 | 0=>[]
 | i+1=>gL n ks i++(un i++[32,61,32,97,115,121,110,99,32]++gn (ks i)++[40]++un ((i+n-1) % n)++[41,59,32])
def uy (k:Nat):List Nat:=match k with
 | 0=>[]
 | 1=>[32,97,102,116,101,114,32,40,49,41]
 | 2=>[32,97,102,116,101,114,32,40,49,44,32,50,41]
 | _=>[32,97,102,116,101,114,32,40,49,44,32,50,44,32,51,41]
def gT (k:Nat):List Nat:=[32,110,111,100,101,32]++gn k++[40,119,58,32,102,117,116,117,114,101,32,105,110,116,41,32,114,101,116,117,114,110,115,32,40,121,58,32,105,110,116,41,32,108,101,116,32,121,32,61,32,97,119,97,105,116,32,119]++uy k++[32,43,32,49,59,32,116,101,108]
def headA:List Nat:=[110,111,100,101,32,102,40,41,32,114,101,116,117,114,110,115,32,40,121,58,32,105,110,116,41,32,118,97,114]
def dZ (n:Nat)(ks:Nat->Nat):List Nat:=headA++[32]++varsT n++[108,101,116,32]++gL n ks n++[121,32,61,32,48,59,32,116,101,108]++gT 0++gT 1++gT 2++gT 3
def sV (i:Nat):Seg:=⟨un i++[58,32,102,117,116,117,114,101,32,105,110,116,59],λj=>[kQ (un i) (j+1),ek [58] (j+3),fI [102,117,116,117,114,101] (j+5),fI [105,110,116] (j+12),ek [59] (j+15)]⟩
def sL:Seg:=⟨[108,101,116],λj=>[fI [108,101,116] (j+1)]⟩
def sU (i:Nat):Seg:=⟨un i,λj=>[kQ (un i) (j+1)]⟩
def sA:Seg:=⟨[61,32,97,115,121,110,99],λj=>[ek [61] (j+1),fI [97,115,121,110,99] (j+3)]⟩
def sG (k p:Nat):Seg:=⟨gn k++[40]++un p++[41,59],λj=>[kQ (gn k) (j+1),ek [40] (j+3),kQ (un p) (j+4),ek [41] (j+6),ek [59] (j+7)]⟩
theorem sV_ok:∀ i,i<8->(sV i).ok
 | 0,_=>⟨5,λ_=>rfl,λrest j=>by kernel_rfl⟩
 | 1,_=>⟨5,λ_=>rfl,λrest j=>by kernel_rfl⟩
 | 2,_=>⟨5,λ_=>rfl,λrest j=>by kernel_rfl⟩
 | 3,_=>⟨5,λ_=>rfl,λrest j=>by kernel_rfl⟩
 | 4,_=>⟨5,λ_=>rfl,λrest j=>by kernel_rfl⟩
 | 5,_=>⟨5,λ_=>rfl,λrest j=>by kernel_rfl⟩
 | 6,_=>⟨5,λ_=>rfl,λrest j=>by kernel_rfl⟩
 | 7,_=>⟨5,λ_=>rfl,λrest j=>by kernel_rfl⟩
 | n+8,h=>absurd h (by omega)
theorem sL_ok:sL.ok:=⟨1,λ_=>rfl,λrest j=>by kernel_rfl⟩
theorem sA_ok:sA.ok:=⟨2,λ_=>rfl,λrest j=>by kernel_rfl⟩
theorem sU_ok:∀ i,i<8->(sU i).ok
 | 0,_=>⟨1,λ_=>rfl,λrest j=>by kernel_rfl⟩
 | 1,_=>⟨1,λ_=>rfl,λrest j=>by kernel_rfl⟩
 | 2,_=>⟨1,λ_=>rfl,λrest j=>by kernel_rfl⟩
 | 3,_=>⟨1,λ_=>rfl,λrest j=>by kernel_rfl⟩
 | 4,_=>⟨1,λ_=>rfl,λrest j=>by kernel_rfl⟩
 | 5,_=>⟨1,λ_=>rfl,λrest j=>by kernel_rfl⟩
 | 6,_=>⟨1,λ_=>rfl,λrest j=>by kernel_rfl⟩
 | 7,_=>⟨1,λ_=>rfl,λrest j=>by kernel_rfl⟩
 | n+8,h=>absurd h (by omega)
end Rg
namespace Rg
def sY:Seg:=⟨[121,32,61,32,48,59],λj=>[kQ [121] (j+1),ek [61] (j+3),GV 0 [48] (j+5),ek [59] (j+6)]⟩
theorem sY_ok:sY.ok:=⟨4,λ_=>rfl,λrest j=>by kernel_rfl⟩
def sTel:Seg:=⟨[116,101,108],λj=>[fI [116,101,108] (j+1)]⟩
theorem sTel_ok:sTel.ok:=⟨1,λ_=>rfl,λrest j=>by kernel_rfl⟩
def sN0:Seg:=⟨[110,111,100,101,32,103,48,40,119,58,32,102,117,116,117,114,101,32,105,110,116,41,32,114,101,116,117,114,110,115,32,40,121,58,32,105,110,116,41,32,108,101,116,32,121,32,61,32,97,119,97,105,116,32,119,32,43,32,49,59,32,116,101,108],λj=>[fI [110,111,100,101] (j+1),kQ [103,48] (j+6),ek [40] (j+8),kQ [119] (j+9),ek [58] (j+10),fI [102,117,116,117,114,101] (j+12),fI [105,110,116] (j+19),ek [41] (j+22),fI [114,101,116,117,114,110,115] (j+24),ek [40] (j+32),kQ [121] (j+33),ek [58] (j+34),fI [105,110,116] (j+36),ek [41] (j+39),fI [108,101,116] (j+41),kQ [121] (j+45),ek [61] (j+47),fI [97,119,97,105,116] (j+49),kQ [119] (j+55),ek [43] (j+57),GV 1 [49] (j+59),ek [59] (j+60),fI [116,101,108] (j+62)]⟩
theorem sN0_ok:sN0.ok:=⟨23,λ_=>rfl,λrest j=>by kernel_rfl⟩
def sN1:Seg:=⟨[110,111,100,101,32,103,49,40,119,58,32,102,117,116,117,114,101,32,105,110,116,41,32,114,101,116,117,114,110,115,32,40,121,58,32,105,110,116,41,32,108,101,116,32,121,32,61,32,97,119,97,105,116,32,119,32,97,102,116,101,114,32,40,49,41,32,43,32,49,59,32,116,101,108],λj=>[fI [110,111,100,101] (j+1),kQ [103,49] (j+6),ek [40] (j+8),kQ [119] (j+9),ek [58] (j+10),fI [102,117,116,117,114,101] (j+12),fI [105,110,116] (j+19),ek [41] (j+22),fI [114,101,116,117,114,110,115] (j+24),ek [40] (j+32),kQ [121] (j+33),ek [58] (j+34),fI [105,110,116] (j+36),ek [41] (j+39),fI [108,101,116] (j+41),kQ [121] (j+45),ek [61] (j+47),fI [97,119,97,105,116] (j+49),kQ [119] (j+55),fI [97,102,116,101,114] (j+57),ek [40] (j+63),GV 1 [49] (j+64),ek [41] (j+65),ek [43] (j+67),GV 1 [49] (j+69),ek [59] (j+70),fI [116,101,108] (j+72)]⟩
theorem sN1_ok:sN1.ok:=⟨27,λ_=>rfl,λrest j=>by kernel_rfl⟩
def sN2:Seg:=⟨[110,111,100,101,32,103,50,40,119,58,32,102,117,116,117,114,101,32,105,110,116,41,32,114,101,116,117,114,110,115,32,40,121,58,32,105,110,116,41,32,108,101,116,32,121,32,61,32,97,119,97,105,116,32,119,32,97,102,116,101,114,32,40,49,44,32,50,41,32,43,32,49,59,32,116,101,108],λj=>[fI [110,111,100,101] (j+1),kQ [103,50] (j+6),ek [40] (j+8),kQ [119] (j+9),ek [58] (j+10),fI [102,117,116,117,114,101] (j+12),fI [105,110,116] (j+19),ek [41] (j+22),fI [114,101,116,117,114,110,115] (j+24),ek [40] (j+32),kQ [121] (j+33),ek [58] (j+34),fI [105,110,116] (j+36),ek [41] (j+39),fI [108,101,116] (j+41),kQ [121] (j+45),ek [61] (j+47),fI [97,119,97,105,116] (j+49),kQ [119] (j+55),fI [97,102,116,101,114] (j+57),ek [40] (j+63),GV 1 [49] (j+64),ek [44] (j+65),GV 2 [50] (j+67),ek [41] (j+68),ek [43] (j+70),GV 1 [49] (j+72),ek [59] (j+73),fI [116,101,108] (j+75)]⟩
theorem sN2_ok:sN2.ok:=⟨29,λ_=>rfl,λrest j=>by kernel_rfl⟩
def sN3:Seg:=⟨[110,111,100,101,32,103,51,40,119,58,32,102,117,116,117,114,101,32,105,110,116,41,32,114,101,116,117,114,110,115,32,40,121,58,32,105,110,116,41,32,108,101,116,32,121,32,61,32,97,119,97,105,116,32,119,32,97,102,116,101,114,32,40,49,44,32,50,44,32,51,41,32,43,32,49,59],λj=>[fI [110,111,100,101] (j+1),kQ [103,51] (j+6),ek [40] (j+8),kQ [119] (j+9),ek [58] (j+10),fI [102,117,116,117,114,101] (j+12),fI [105,110,116] (j+19),ek [41] (j+22),fI [114,101,116,117,114,110,115] (j+24),ek [40] (j+32),kQ [121] (j+33),ek [58] (j+34),fI [105,110,116] (j+36),ek [41] (j+39),fI [108,101,116] (j+41),kQ [121] (j+45),ek [61] (j+47),fI [97,119,97,105,116] (j+49),kQ [119] (j+55),fI [97,102,116,101,114] (j+57),ek [40] (j+63),GV 1 [49] (j+64),ek [44] (j+65),GV 2 [50] (j+67),ek [44] (j+68),GV 3 [51] (j+70),ek [41] (j+71),ek [43] (j+73),GV 1 [49] (j+75),ek [59] (j+76)]⟩
theorem sN3_ok:sN3.ok:=⟨30,λ_=>rfl,λrest j=>by kernel_rfl⟩
theorem sG_ok0:∀ p,p<8->(sG 0 p).ok
 | 0,_=>⟨5,λ_=>rfl,λrest j=>by kernel_rfl⟩
 | 1,_=>⟨5,λ_=>rfl,λrest j=>by kernel_rfl⟩
 | 2,_=>⟨5,λ_=>rfl,λrest j=>by kernel_rfl⟩
 | 3,_=>⟨5,λ_=>rfl,λrest j=>by kernel_rfl⟩
 | 4,_=>⟨5,λ_=>rfl,λrest j=>by kernel_rfl⟩
 | 5,_=>⟨5,λ_=>rfl,λrest j=>by kernel_rfl⟩
 | 6,_=>⟨5,λ_=>rfl,λrest j=>by kernel_rfl⟩
 | 7,_=>⟨5,λ_=>rfl,λrest j=>by kernel_rfl⟩
 | n+8,h=>absurd h (by omega)
theorem sG_ok1:∀ p,p<8->(sG 1 p).ok
 | 0,_=>⟨5,λ_=>rfl,λrest j=>by kernel_rfl⟩
 | 1,_=>⟨5,λ_=>rfl,λrest j=>by kernel_rfl⟩
 | 2,_=>⟨5,λ_=>rfl,λrest j=>by kernel_rfl⟩
 | 3,_=>⟨5,λ_=>rfl,λrest j=>by kernel_rfl⟩
 | 4,_=>⟨5,λ_=>rfl,λrest j=>by kernel_rfl⟩
 | 5,_=>⟨5,λ_=>rfl,λrest j=>by kernel_rfl⟩
 | 6,_=>⟨5,λ_=>rfl,λrest j=>by kernel_rfl⟩
 | 7,_=>⟨5,λ_=>rfl,λrest j=>by kernel_rfl⟩
 | n+8,h=>absurd h (by omega)
theorem sG_ok2:∀ p,p<8->(sG 2 p).ok
 | 0,_=>⟨5,λ_=>rfl,λrest j=>by kernel_rfl⟩
 | 1,_=>⟨5,λ_=>rfl,λrest j=>by kernel_rfl⟩
 | 2,_=>⟨5,λ_=>rfl,λrest j=>by kernel_rfl⟩
 | 3,_=>⟨5,λ_=>rfl,λrest j=>by kernel_rfl⟩
 | 4,_=>⟨5,λ_=>rfl,λrest j=>by kernel_rfl⟩
 | 5,_=>⟨5,λ_=>rfl,λrest j=>by kernel_rfl⟩
 | 6,_=>⟨5,λ_=>rfl,λrest j=>by kernel_rfl⟩
 | 7,_=>⟨5,λ_=>rfl,λrest j=>by kernel_rfl⟩
 | n+8,h=>absurd h (by omega)
theorem sG_ok3:∀ p,p<8->(sG 3 p).ok
 | 0,_=>⟨5,λ_=>rfl,λrest j=>by kernel_rfl⟩
 | 1,_=>⟨5,λ_=>rfl,λrest j=>by kernel_rfl⟩
 | 2,_=>⟨5,λ_=>rfl,λrest j=>by kernel_rfl⟩
 | 3,_=>⟨5,λ_=>rfl,λrest j=>by kernel_rfl⟩
 | 4,_=>⟨5,λ_=>rfl,λrest j=>by kernel_rfl⟩
 | 5,_=>⟨5,λ_=>rfl,λrest j=>by kernel_rfl⟩
 | 6,_=>⟨5,λ_=>rfl,λrest j=>by kernel_rfl⟩
 | 7,_=>⟨5,λ_=>rfl,λrest j=>by kernel_rfl⟩
 | n+8,h=>absurd h (by omega)
theorem sG_ok:∀ k p,k<4->p<8->(sG k p).ok
 | 0,p,_,h=>sG_ok0 p h
 | 1,p,_,h=>sG_ok1 p h
 | 2,p,_,h=>sG_ok2 p h
 | 3,p,_,h=>sG_ok3 p h
 | n+4,_,h,_=>absurd h (by omega)
def HT:List TkR:=[fI [110,111,100,101] 0,kQ [102] 5,ek [40] 6,ek [41] 7,fI [114,101,116,117,114,110,115] 9,ek [40] 17,kQ [121] 18,ek [58] 19,fI [105,110,116] 21,ek [41] 24,fI [118,97,114] 26]
theorem Gv (rest:List Nat):rH wordsS signsS 11 (headA++32::rest) 0=some (HT,32::rest,29):=by kernel_rfl
def Um (n:Nat)(ks:Nat->Nat)(i:Nat):List Seg:=[sU i,sA,sG (ks i) ((i+n-1) % n)]
def ro (n:Nat)(ks:Nat->Nat):List Seg:=(List.range n).map sV++(sL::((List.range n).flatMap (Um n ks)++[sY,sTel,sN0,sN1,sN2,sN3]))
theorem DC {n:Nat}{ks:Nat->Nat}(h0:0<n)(hn:n<=8)(hk:∀ i,ks i<4):∀ s∈ro n ks,s.ok:=by
 intro s hs;simp only[ro,List.mem_append,List.mem_map,List.mem_range,List.mem_cons,List.mem_flatMap,Um,List.not_mem_nil,or_false] at hs
 rcases hs with ⟨i,hi,rfl⟩|rfl|⟨i,hi,rfl|rfl|rfl⟩|rfl|rfl|rfl|rfl|rfl|rfl
 ·exact sV_ok i (by omega)
 ·exact sL_ok
 ·exact sU_ok i (by omega)
 ·exact sA_ok
 ·exact sG_ok _ _ (hk i) (by have:=Nat.mod_lt (i+n-1) h0;omega)
 ·exact sY_ok
 ·exact sTel_ok
 ·exact sN0_ok
 ·exact sN1_ok
 ·exact sN2_ok
 ·exact sN3_ok
end Rg
namespace Rg
def vD (i:Nat):DeR:=⟨un i,30+16*i,false,true,[],false⟩
def eQ (n:Nat)(ks:Nat->Nat)(i:Nat):EqR:=⟨[(un i,34+16*n+19*i)],true,.mk 13 (45+16*n+19*i) 0 (gn (ks i)) false [.mk 3 (48+16*n+19*i) 0 (un ((i+n-1) % n)) false []]⟩
def yQ (n:Nat):EqR:=⟨[([121],34+35*n)],false,.mk 1 (38+35*n) 0 [] false []⟩
def qF (n:Nat)(ks:Nat->Nat)(i:Nat):EqR:=cond (Nat.beq i n) (yQ n) (eQ n ks i)
def oF:List DeR:=[⟨[121],18,false,false,[],false⟩]
def de (n:Nat)(ks:Nat->Nat):NdR:=⟨[102],5,[],oF,(List.range n).map vD,(List.range (n+1)).map (qF n ks)⟩
def gd (k o w:Nat)(kids:List Ex):NdR:=⟨gn k,o+5,[⟨[119],o+8,false,true,[],false⟩],[⟨[121],o+32,false,false,[],false⟩],[],[⟨[([121],o+44)],false,.mk 6 (o+56+w) 0 [43] false [.mk 14 (o+48) 0 [119] false kids,.mk 1 (o+58+w) 1 [] false []]⟩]⟩
def gs (o:Nat):List NdR:=[gd 0 (o+1) 0 [],gd 1 (o+66) 10 [.mk 1 (o+129) 1 [] false []],gd 2 (o+141) 13 [.mk 1 (o+204) 1 [] false [],.mk 1 (o+207) 2 [] false []],gd 3 (o+219) 16 [.mk 1 (o+282) 1 [] false [],.mk 1 (o+285) 2 [] false [],.mk 1 (o+288) 3 [] false []]]
def bZ (n:Nat)(ks:Nat->Nat):List NdR:=de n ks::gs (35*n+44)
def TS (n:Nat)(ks:Nat->Nat):List TkR:=HT++(segT (ro n ks) 29++[fI [116,101,108] (29+(fY (ro n ks)).length+1),⟨5,29+(fY (ro n ks)).length+1+3,[],0,0,29+(fY (ro n ks)).length+1+3⟩])
def xF:TkR:=kQ [102] 5
def zl (n i:Nat):Nat:=cond (Nat.ble i n) (12+5*n+8*i) (16+13*n)
structure KerF (n:Nat)(ks:Nat->Nat):Prop where
 a:F29 (TS n ks) xF [] oF ((List.range n).map vD) 4 10 (11+5*n)
 e:∀ i,i<n+1->BX (TS n ks) (de n ks) xF (qF n ks) (zl n) i
 t:oS (TS n ks) (16+13*n)=some true
 w:recC 49 (wS [116,101,108]) (d9 (TS n ks) (de n ks) (jl xF) (qF n ks) (n+1) (16+13*n))=some (.ret (TB (TS n ks) (16+13*n)).v (d9 (TS n ks) (de n ks) (jl xF) (qF n ks) (n+1) (17+13*n)) 11)
 p:xf (TS n ks) (gs (35*n+44)) [de n ks] 0 (17+13*n) (127+13*n)
 z:o6 (TS n ks) (127+13*n)=some true
 l:Nat.ble (TS n ks).length 4100=true
 x:dZ n ks=headA++(fY (ro n ks)++32::[116,101,108])
theorem eL {n:Nat}{ks:Nat->Nat}(h0:0<n)(hn:n<=8)(hk:∀ i,ks i<4)(K:KerF n ks):Pk (dZ n ks) (bZ n ks):=by
 have hl:=Nat.le_of_ble_eq_true K.l;have hb:Nat.ble n n=true:=Nat.ble_eq_true_of_le (Nat.le_refl _)
 have hb1:Nat.ble (n+1) n=false:=by
  cases h:Nat.ble (n+1) n with
  | false=>rfl
  | true=>have:=Nat.le_of_ble_eq_true h;omega
 have j1:zl n (n+1)=16+13*n:=by unfold zl;rw[hb1];rfl
 have j0:zl n 0=11+5*n+1:=by unfold zl;rw[Nat.ble_eq_true_of_le (Nat.zero_le _)];show 12+5*n+8*0=_;omega
 have h29:=SC (by omega) K.a (jq:=zl n) (m:=n) (by omega) j0 (d:=de n ks) rfl K.e (by rw[j1];exact K.t) (by rw[j1,show 16+13*n+1=17+13*n by omega];exact K.w)
 rw[j1,show 16+13*n+1=17+13*n by omega] at h29
 have h46:=OT h29 K.p (show 4<=100 by omega) K.z
 refine ⟨TS n ks,_,_,(congrArg (λs=>jJ wordsS signsS 4100 s 0) K.x).trans (BK (p:=29) Gv (ro n ks) (DC h0 hn hk) ?_),h46⟩
 have e:(TS n ks).length=11+((segT (ro n ks) 29).length+2):=by simp only[TS,List.length_append,List.length_cons,List.length_nil];rfl
 rw[<-e];exact hl
end Rg
end Go.Proofs
