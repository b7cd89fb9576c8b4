/- the law. Part of the proof of girandolelaw13.BalanceRings. -/
import Derived.Test.YtglacbfdbfhmfaaGreatDoorRu
import Derived.Test.YtglacbfdbfhmfaaGreatDoorRt
set_option linter.unusedVariables false
set_option linter.unusedSimpArgs false
set_option maxRecDepth 1000000
namespace Go.Proofs
open Go Go.Abs
namespace Rg
def tA:List Nat:=[110,111,100,101,32,102,40,120,58,32,105,110,116,41,32,114,101,116,117,114,110,115,32,40,121,58,32,105,110,116,41,32,118,97,114,32,117,58,32,102,117,116,117,114,101,32,105,110,116,59,32,108,101,116,32,117,32,61,32,97,115,121,110,99,32,103,40,120,41,59,32,121,32,61,32,97,119,97,105,116,32,117]
def tB:List Nat:=[59,32,116,101,108,32,110,111,100,101,32,103,40,97,58,32,105,110,116,41,32,114,101,116,117,114,110,115,32,40,98,58,32,105,110,116,41,32,108,101,116,32,98,32,61,32,97,59,32,116,101,108]
def aT (after:List Nat):List Nat:=tA++after++tB
def aN (o:Nat)(kids:List Ex):List NdR:=[⟨[102],5,[⟨[120],7,false,false,[],false⟩],[⟨[121],24,false,false,[],false⟩],[⟨[117],36,false,true,[],false⟩],[⟨[([117],55)],true,.mk 13 65 0 [103] false [.mk 3 67 0 [120] false []]⟩,⟨[([121],71)],false,.mk 14 75 0 [117] false kids⟩]⟩,
 ⟨[103],93+o,[⟨[97],95+o,false,false,[],false⟩],[⟨[98],112+o,false,false,[],false⟩],[],[⟨[([98],124+o)],false,.mk 3 (128+o) 0 [97] false []⟩]⟩]
def af0:List Nat:=[32,97,102,116,101,114,32,40,48,41]
def VU (s:List Nat):List TkR:=match jJ wordsS signsS 4100 s 0 with
 | some l=>l
 | none=>[]
theorem aP0:Pk (aT []) (aN 0 []):=⟨VU (aT []),53,1,by kernel_rfl,recC_le _ _ _ _ (by kernel_rfl)⟩
theorem aP1:Pk (aT af0) (aN 10 [.mk 1 90 0 [] false []]):=⟨VU (aT af0),57,1,by kernel_rfl,recC_le _ _ _ _ (by kernel_rfl)⟩
theorem aS0:QM (aT [])=true:=by kernel_rfl
theorem aS1:QM (aT af0)=true:=by kernel_rfl
noncomputable def Xv (L:List NdR)(b:Bool):Bool:=match jB 200 5 L with
 | some (wn,en)=>Nat.ble wn.length 90000&&Nat.ble en.length 90000&&(match eU 100 wn.length en with
   | some c=>QP c b
   | none=>false)
 | none=>false
theorem aO0:Xv (aN 0 []) true=true:=by kernel_rfl
theorem aO1:Xv (aN 10 [.mk 1 90 0 [] false []]) false=true:=by kernel_rfl
end Rg
namespace Rg
theorem PK {a b:Bool}(h:QP a b=true):a=b:=by
 cases a<;>cases b<;>first|rfl|cases h
theorem Og {M:Memo}(m:SpM M)(h12:∀ a,M 12 a=none)(h20:∀ a,M 20 a=none)(h26:∀ a,M 26 a=none){s:List Nat}{d:NdR}{L' : List NdR}(h14:M 14 [.str s]=some (pV (d::L'))){b:Bool}(hb:Xv (d::L') b=true)(hl:(d::L').length<=90000)(hK:(d::L').all HI=true)(H:Heap) :
  orc CC M 12 [.str s] H=some (.ret (cond b (.agg [.int .i64 (d.p:Int),.int .i64 13]) (.agg [.int .i64 0,.int .i64 0])) H (aa H)):=by
 unfold Xv at hb
 split at hb
 ·rename_i wn en hs;simp only[Bool.and_eq_true] at hb;obtain ⟨⟨h1,h2⟩,h3⟩:=hb
  split at h3
  ·rename_i c hc;have:=PK h3;subst this;exact Iq m h12 h20 h26 h14 (kf:=200) (k:=100) (by omega) (by omega) hl (x4 hK) hs hc (Nat.le_of_ble_eq_true h1) (Nat.le_of_ble_eq_true h2) H
  ·cases h3
 ·cases hb
abbrev mA0:List (FuncId×List AV×AV):=(14,[.str (aT [])],pV (aN 0 []))::memo1
abbrev mA1:List (FuncId×List AV×AV):=(14,[.str (aT af0)],pV (aN 10 [.mk 1 90 0 [] false []]))::memo1
theorem mA0_ok:dB CC (memoL mA0):=qU memo1_ok aS0 aP0
theorem mA1_ok:dB CC (memoL mA1):=qU memo1_ok aS1 aP1
theorem wV {l:List (FuncId×List AV×AV)}(hf:gE (memoL l))(h:∀ f,f=32\/f=59\/f=82\/f=38\/f=39\/f=40\/f=41\/f=63\/f=19->∀ a,memoL l f a=none):SpM (memoL l) :=
 ⟨hf,h 32 (by simp),h 59 (by simp),h 82 (by simp),h 38 (by simp),h 39 (by simp),h 40 (by simp),h 41 (by simp),h 63 (by simp),h 19 (by simp)⟩
theorem spA0:SpM (memoL mA0):=wV (flM_of (by kernel_rfl)) (λf h a=>by rcases h with rfl|rfl|rfl|rfl|rfl|rfl|rfl|rfl|rfl<;>rfl)
theorem spA1:SpM (memoL mA1):=wV (flM_of (by kernel_rfl)) (λf h a=>by rcases h with rfl|rfl|rfl|rfl|rfl|rfl|rfl|rfl|rfl<;>rfl)
theorem cA0:orc CC (memoL mA0) 12 [.str (aT [])] []=some (.ret (.agg [.int .i64 5,.int .i64 13]) [] 0):=Og spA0 (λ_=>rfl) (λ_=>rfl) (λ_=>rfl) (by kernel_rfl) aO0 (by simp) (by kernel_rfl) []
theorem cA1:orc CC (memoL mA1) 12 [.str (aT af0)] []=some (.ret (.agg [.int .i64 0,.int .i64 0]) [] 0):=Og spA1 (λ_=>rfl) (λ_=>rfl) (λ_=>rfl) (by kernel_rfl) aO1 (by simp) (by kernel_rfl) []
abbrev mA2:List (FuncId×List AV×AV):=(12,[.str (aT af0)],.agg [.int .i64 0,.int .i64 0])::(12,[.str (aT [])],.agg [.int .i64 5,.int .i64 13])::memo1
theorem mA2_ok:dB CC (memoL mA2):=eu cc_goodF cc_scal (eu cc_goodF cc_scal memo1_ok mA0_ok rfl (by kernel_rfl) cA0) mA1_ok rfl (by kernel_rfl) cA1
theorem r_awake13:UQ mA2 10 [] []=some (.ret (.bool true) [] 0):=by kernel_rfl
def m_aw13:List (FuncId×List AV×AV):=(10,[],.bool true)::memo1
theorem m_aw13_ok:dB CC (memoL m_aw13):=eu cc_goodF cc_scal memo1_ok mA2_ok rfl (by kernel_rfl) (I5 mA2 _ _ _ _ r_awake13)
end Rg
namespace Rg
theorem zb (s:List Nat):eqArgs [.str s] [.str s]=true:=by
 have h:=eA s s;simp only[decide_true] at h;simp[eqArgs,h]
abbrev mR (n:Nat)(ks:Nat->Nat):List (FuncId×List AV×AV):=(12,[.str (dZ n ks)],cond (zero n ks) (.agg [.int .i64 5,.int .i64 13]) (.agg [.int .i64 0,.int .i64 0]))::m_aw13
theorem YB (x:List Nat)(v:AV):SpM (memoL ((14,[.str x],v)::memo1)):=wV (λf a h=>by
 have h' : memoL ((14,[.str x],v)::memo1) f a=memoL mA0 f a\/f=14:=by
  by_cases hf:f=14
  ·exact .inr hf
  ·left
   have h1:Nat.beq 14 f=false:=by
    cases hb:Nat.beq 14 f with
    | true=>exact absurd (Nat.eq_of_beq_eq_true hb).symm hf
    | false=>rfl
   show cond (Nat.beq 14 f) _ _=cond (Nat.beq 14 f) _ _;rw[h1];rfl
 rcases h' with h'|rfl
 ·rw[h'];exact spA0.fl f a h
 ·exact absurd h (by decide)) (λf h a=>by rcases h with rfl|rfl|rfl|rfl|rfl|rfl|rfl|rfl|rfl<;>rfl)
theorem VQ {n:Nat}(h0:0<n)(hn:n<=8){ks:Nat->Nat}(hk:∀ i,ks i<4):dB CC (memoL (mR n ks)):=by
 have R:=ring_all n h0 hn ks hk;have hM:dB CC (memoL ((14,[.str (dZ n ks)],pV (bZ n ks))::memo1)):=qU memo1_ok (Hu h0 hn hk) R.p
 have h14:memoL ((14,[.str (dZ n ks)],pV (bZ n ks))::memo1) 14 [.str (dZ n ks)]=some (pV (bZ n ks)):=by
  generalize dZ n ks=t;generalize pV (bZ n ks)=v;show cond (Nat.beq 14 14) (cond (eqArgs [.str t] [.str t]) (some v) (memoL memo1 14 [.str t])) (memoL memo1 14 [.str t])=some v;rw[zb];rfl
 have hc:=Fu (YB (dZ n ks) (pV (bZ n ks))) (λ_=>rfl) (λ_=>rfl) (λ_=>rfl) h0 hn R h14 []
 refine eu cc_goodF cc_scal m_aw13_ok hM rfl ?_ hc;cases zero n ks<;>rfl
end Rg
namespace Rg
def rowI (l:Option (List Int)):AV:=match l with
 | none=>.nils
 | some l=>.sl 1 (l.map (.int .i64 ·)) .frz
def lstI:Option (List Int)->List Int
 | none=>[]
 | some l=>l
theorem B8 (l:Option (List Int)):aQ CC 22 (rowI l)=some (.int .i64 ((lstI l).length:Int)):=by
 have:CC.P.underlying 22=some (.slice 3):=by kernel_rfl
 cases l<;>(rw[cC];simp[rowI,lstI,dm,this])
theorem Ei {l:Option (List Int)}{i:Nat}{b:Int}(h:(lstI l)[i]?=some b):aO 1 (rowI l) (.int .i64 (i:Int))=some (.iptr [.int .i64 b]):=by
 cases l with
 | none=>simp[lstI] at h
 | some l =>
   refine bO (v:=.int .i64 b) ?_;have h' : l[i]?=some b:=h;rw[az,List.getElem?_map,h'];rfl
def IH (x:Int):Nat:=(BitVec.ofInt IntKind.i64.bits x &&& BitVec.ofInt IntKind.i64.bits 3).toNat
theorem xm (x:Int):IH x<4:=by
 have:IH x<=3:=by
  unfold IH;rw[BitVec.toNat_and];exact Nat.le_trans Nat.and_le_right (by decide)
 omega
theorem XY (x:Int):bK CC .and 3 true (.int .i64 x) (.int .i64 3)=some (.int .i64 (IH x:Int)):=by
 have hm:=xm x;have hw:IntKind.wrap .i64 (IH x:Int)=(IH x:Int):=fy (by unfold natMax;omega)
 show bG CC .and 3 (.int .i64 x) (.int .i64 3)=_;simp only[bG,fP,if_true];exact congrArg (λx=>some (AV.int .i64 x)) hw
def iv (l:Option (List Int))(i:Nat):Nat:=match (lstI l)[i]? with
 | some x=>IH x
 | none=>0
theorem Sn (l:Option (List Int))(i:Nat):iv l i<4:=by
 unfold iv;cases (lstI l)[i]? with
 | none=>exact Nat.zero_lt_succ _
 | some x=>exact xm x
theorem ic (t:Bool){a b:List Nat}(h:a.length+b.length<2 ^ 62):bK CC .add 9 t (.str a) (.str b)=some (.str (a++b)):=by
 have h0:bG CC .add 9 (.str a) (.str b)=some (.str (a++b)):=by
  simp only[bG,kD];rw[if_pos h]
 cases t
 ·exact h0
 ·exact h0
theorem cvd:∀ (d:Nat),d<8->br CC 3 5 (.int .i64 ((48+d:Nat):Int))=some (.int .u8 ((48+d:Nat):Int))
 | 0,_=>by kernel_rfl
 | 1,_=>by kernel_rfl
 | 2,_=>by kernel_rfl
 | 3,_=>by kernel_rfl
 | 4,_=>by kernel_rfl
 | 5,_=>by kernel_rfl
 | 6,_=>by kernel_rfl
 | 7,_=>by kernel_rfl
 | n+8,h=>absurd h (by omega)
theorem PY (a:Nat):aI CC 24 1 [(0,.int .u8 (a:Int))]=some (.sl 1 [.int .u8 (a:Int)] .lit):=by kernel_rfl
theorem cvs:∀ (a:Nat),a<8->br CC 24 9 (.sl 1 [.int .u8 ((48+a:Nat):Int)] .lit)=some (.str [48+a])
 | 0,_=>by kernel_rfl
 | 1,_=>by kernel_rfl
 | 2,_=>by kernel_rfl
 | 3,_=>by kernel_rfl
 | 4,_=>by kernel_rfl
 | 5,_=>by kernel_rfl
 | 6,_=>by kernel_rfl
 | 7,_=>by kernel_rfl
 | n+8,h=>absurd h (by omega)
theorem PH (a:AV)(s:St):dE CC 11 [a] s=some (.call 11 [a]):=by kernel_rfl
section
variable {M:Memo}
theorem Na (h11:∀ a,M 11 a=none){i:Nat}(hi:i<8)(H:Heap):orc CC M 11 [.int .i64 (i:Int)] H=some (.ret (.str (un i)) H (aa H)):=by
 refine aL (z:=z11) (h11 _) (by kernel_rfl) rfl ?_
 have e0:(envOf [.int .i64 (i:Int)] 0 env0).a.a.a=.int .i64 (i:Int):=rfl;generalize envOf [.int .i64 (i:Int)] 0 env0=R at e0;have a1:bP 48 (i:Int)=((48+i:Nat):Int):=aW 48 i (by unfold natMax;omega)
 have c1:=cvd _ hi;have b:=PY (48+i);have c:=cvs _ hi;have s:=ic true (a:=[117]) (b:=[48+i]) (by simp)
 simp only[z11,Mi,MI,SIM,ST0,e0,a1,c1,b,c,s,Nat.reduceAdd,Nat.reduceLeDiff];rfl
theorem f8 (i:Nat):(un i).length=2:=rfl
theorem Db (i:Nat):(gn i).length=2:=rfl
theorem varsT_len:∀ k,(varsT k).length=16*k
 | 0=>rfl
 | k+1=>by simp only[varsT,List.length_append,varsT_len k,f8,List.length_cons,List.length_nil];omega
theorem n7 (n:Nat)(ks:Nat->Nat):∀ k,(gL n ks k).length=19*k
 | 0=>rfl
 | k+1=>by simp only[gL,List.length_append,n7 n ks k,f8,Db,List.length_cons,List.length_nil];omega
def ip (ks:Nat->Nat):Nat->Bool
 | 0=>true
 | i+1=>ip ks i&&Nat.beq (ks i) 0
theorem tE (ks:Nat->Nat):∀ n,ip ks n=zero n ks
 | 0=>rfl
 | n+1=>by
   have:=tE ks n;unfold zero at this ⊢;rw[List.range_succ,List.all_append,<-this];simp[ip]
end
end Rg
namespace Rg
section
variable {M:Memo}
def R0 (n:Nat)(l:Option (List Int))(i:Nat)(r:RG):Prop:=r.a.a.a=.int .i64 (n:Int)/\r.a.a.b=rowI l/\r.a.a.f=.func (.func 11) [] []/\r.a.a.g=.str (varsT i)/\r.a.a.h=.str (gL n (iv l) i)/\r.a.b.a=.str []/\r.a.b.b=.bool (ip (iv l) i)
theorem XU (k:Nat):decide (k=0)=(true&&Nat.beq k 0):=by cases k<;>rfl
theorem xN (h11:∀ a,M 11 a=none){n:Nat}(hn0:0<n)(hn:n<=8)(l:Option (List Int)):∀ (k i:Nat),k+i=n->∀ (fu:Nat),k<fu->∀ (r:RG),
  R0 n l i r->(r.a.c.f=.int .i64 (n:Int)/\r.a.c.g=.int .i64 (i:Int)) ->
  ∃ r',am (l6 (orc CC M)) fu r [] ⟨[],0⟩=some (.exit 0,r',[],⟨[],0⟩)/\R0 n l n r':=by
 intro k
 induction k with
 | zero =>
   intro i hi fu hfu r hr' ⟨h21,h22⟩;obtain ⟨fu',rfl⟩ : ∃ f,fu=f+1:=⟨fu-1,by omega⟩
   have:i=n:=by omega
   subst this;have hc:decide ((i:Int)<(i:Int))=false:=by simp
   simp only[am,l6,BD,SIM,ST0,ST1,h21,h22,hc];exact ⟨_,rfl,by first|exact hr'⟩
 | succ k ih =>
   intro i hi fu hfu r ⟨h0,h1,h5,h6,h7,h8,h9⟩ ⟨h21,h22⟩;obtain ⟨fu',rfl⟩ : ∃ f,fu=f+1:=⟨fu-1,by omega⟩
   have hc:decide ((i:Int)<(n:Int))=true:=by simp;omega
   have ha:bP (i:Int) 1=((i+1:Nat):Int):=aW i 1 (by unfold natMax;omega)
   have hlen:=B8 l;have hk4:∀ x,IH x<8:=λx=>Nat.lt_of_lt_of_le (xm x) (by decide)
   have hN1:=λH=>Na (M:=M) h11 (i:=i) (by omega) H
   have hN2:=λH=>Na (M:=M) h11 (i:=(i+n-1) % n) (Nat.lt_of_lt_of_le (Nat.mod_lt _ hn0) hn) H
   have hvl:=varsT_len i;have hel:=n7 n (iv l) i;have s1:=ic true (a:=un i) (b:=[58,32,102,117,116,117,114,101,32,105,110,116,59,32]) (by simp[f8])
   have s2:=ic false (a:=varsT i) (b:=un i++[58,32,102,117,116,117,114,101,32,105,110,116,59,32]) (by simp[f8,hvl];omega)
   have e2:varsT i++(un i++[58,32,102,117,116,117,114,101,32,105,110,116,59,32])=varsT (i+1):=rfl;rw[e2] at s2;have hai:bP (i:Int) (n:Int)=((i+n:Nat):Int):=aW i n (by unfold natMax;omega)
   have hsub:f5 ((i+n:Nat):Int) 1=((i+n-1:Nat):Int):=by
    have:=t9 (i+n-1) 1 (by unfold natMax;omega)
    rw[show i+n-1+1=i+n by omega] at this
    exact this
   have hrm:=Ok false (i+n-1) n hn0 (by omega)
   have s3:=ic true (a:=un i) (b:=[32,61,32,97,115,121,110,99,32,103]) (by simp[f8])
   have key:=ih (i+1) (by omega) fu' (by omega)
   have hc11:=PH
   have fin:∀ (kk:Nat),kk=iv l i->kk<8->∃ w S1 S2 S3 S4:List Nat,
     bP 48 (kk:Int)=((48+kk:Nat):Int)/\br CC 3 5 (.int .i64 ((48+kk:Nat):Int))=some (.int .u8 ((48+kk:Nat):Int)) /\
     aI CC 24 1 [(0,.int .u8 ((48+kk:Nat):Int))]=some (.sl 1 [.int .u8 ((48+kk:Nat):Int)] .lit)/\br CC 24 9 (.sl 1 [.int .u8 ((48+kk:Nat):Int)] .lit)=some (.str w) /\
     bK CC .add 9 false (.str (un i++[32,61,32,97,115,121,110,99,32,103])) (.str w)=some (.str S1) /\
     bK CC .add 9 true (.str S1) (.str [40])=some (.str S2) /\
     bK CC .add 9 false (.str S2) (.str (un ((i+n-1) % n)))=some (.str S3) /\
     bK CC .add 9 true (.str S3) (.str [41,59,32])=some (.str S4) /\
     bK CC .add 9 false (.str (gL n (iv l) i)) (.str S4)=some (.str (gL n (iv l) (i+1)))/\decide ((kk:Int)=0)=Nat.beq kk 0:=by
    intro kk hkk h8;refine ⟨[48+kk],_,_,_,_,aW 48 kk (by unfold natMax;omega),cvd _ h8,PY _,cvs _ h8,ic _ (by simp[f8]),ic _ (by simp[f8]),ic _ (by simp[f8]),ic _ (by simp[f8]),?_,?_⟩
    ·have e:=ic false (a:=gL n (iv l) i) (b:=un i++[32,61,32,97,115,121,110,99,32,103]++[48+kk]++[40]++un ((i+n-1) % n)++[41,59,32]) (by simp[f8,hel];omega)
     rw[e,hkk];rfl
    ·cases kk with
     | zero=>rfl
     | succ m=>rfl
   generalize un i++[32,61,32,97,115,121,110,99,32,103]=S0 at s3 fin;cases hg:(lstI l)[i]? with
   | none =>
     have hle:(lstI l).length<=i:=by rw[List.getElem?_eq_none_iff] at hg;exact hg
     have hcl:decide ((i:Int)<((lstI l).length:Int))=false:=by rw[decide_eq_false_iff_not];omega
     have hk0:0=iv l i:=by unfold iv;rw[hg]
     obtain ⟨w,S1,S2,S3,S4,a1,a2,a3,a4,a5,a6,a7,a8,a9,_⟩:=fin 0 hk0 (by decide)
     have e9:Nat.beq (iv l i) 0=true:=by rw[<-hk0];rfl
     have a1' : bP 48 0=48:=a1;have a2' : br CC 3 5 (.int .i64 48)=some (.int .u8 48):=a2;have a3' : aI CC 24 1 [(0,.int .u8 48)]=some (.sl 1 [.int .u8 48] .lit):=a3;have a4' : br CC 24 9 (.sl 1 [.int .u8 48] .lit)=some (.str w):=a4;cases hz:ip (iv l) i with
     | true =>
       rw[hz] at h9;simp only[am,l6,BD,HZ,uf,sr,sE,uk,sB,uu,SIM,ST0,ST1,h0,h1,h5,h6,h7,h8,h9,h21,h22,hc,hlen,hcl,hc11,hN1,hN2,s1,s2,s3,a1',a2',a3',a4',a5,a6,a7,a8,a9,hai,hsub,hrm,ha,decide_true,Nat.zero_min,Nat.reduceAdd,Nat.reduceLeDiff];exact key _ ⟨by first|rfl|exact h0,by first|rfl|exact h1,by first|rfl|exact h5,rfl,rfl,by first|rfl|exact h8,by simp[ip,hz,e9,h9]⟩ ⟨by first|rfl|exact h21,rfl⟩
     | false =>
       rw[hz] at h9;simp only[am,l6,BD,HZ,uf,sr,sE,uk,sB,uu,SIM,ST0,ST1,h0,h1,h5,h6,h7,h8,h9,h21,h22,hc,hlen,hcl,hc11,hN1,hN2,s1,s2,s3,a1',a2',a3',a4',a5,a6,a7,a8,a9,hai,hsub,hrm,ha,decide_true,Nat.zero_min,Nat.reduceAdd,Nat.reduceLeDiff];exact key _ ⟨by first|rfl|exact h0,by first|rfl|exact h1,by first|rfl|exact h5,rfl,rfl,by first|rfl|exact h8,by simp[ip,hz,h9]⟩ ⟨by first|rfl|exact h21,rfl⟩
   | some x =>
     have hlt:i<(lstI l).length:=by
      rcases Nat.lt_or_ge i (lstI l).length with h|h
      ·exact h
      ·rw[List.getElem?_eq_none_iff.2 h] at hg;cases hg
     have hcl:decide ((i:Int)<((lstI l).length:Int))=true:=by rw[decide_eq_true_eq];omega
     have hk0:IH x=iv l i:=by unfold iv;rw[hg]
     obtain ⟨w,S1,S2,S3,S4,a1,a2,a3,a4,a5,a6,a7,a8,a9,a10⟩:=fin (IH x) hk0 (hk4 x);have hias:=Ei hg;have h3:=XY x;have hld:∀ (a:AV) (h:Heap),ax none (.iptr [a]) h=some a:=λ_ _=>rfl
     cases hz:ip (iv l) i with
     | true =>
       rw[hz] at h9;simp only[am,l6,BD,HZ,uf,sr,ER,sE,uk,sB,uu,SIM,ST0,ST1,h0,h1,h5,h6,h7,h8,h9,h21,h22,hc,hlen,hcl,hias,h3,hld,hc11,hN1,hN2,s1,s2,s3,a1,a2,a3,a4,a5,a6,a7,a8,a9,a10,hai,hsub,hrm,ha,decide_true,Nat.zero_min,Nat.reduceAdd,Nat.reduceLeDiff];exact key _ ⟨by first|rfl|exact h0,by first|rfl|exact h1,by first|rfl|exact h5,rfl,rfl,by first|rfl|exact h8,by rw[show ip (iv l) (i+1)=(ip (iv l) i&&Nat.beq (iv l i) 0) from rfl,hz,<-hk0];exact congrArg AV.bool (XU _)⟩ ⟨by first|rfl|exact h21,rfl⟩
     | false =>
       rw[hz] at h9;simp only[am,l6,BD,HZ,uf,sr,ER,sE,uk,sB,uu,SIM,ST0,ST1,h0,h1,h5,h6,h7,h8,h9,h21,h22,hc,hlen,hcl,hias,h3,hld,hc11,hN1,hN2,s1,s2,s3,a1,a2,a3,a4,a5,a6,a7,a8,a9,a10,hai,hsub,hrm,ha,decide_true,Nat.zero_min,Nat.reduceAdd,Nat.reduceLeDiff];exact key _ ⟨by first|rfl|exact h0,by first|rfl|exact h1,by first|rfl|exact h5,rfl,rfl,by first|rfl|exact h8,by simp[ip,hz,h9]⟩ ⟨by first|rfl|exact h21,rfl⟩
end
end Rg
namespace Rg
section
variable {M:Memo}
def nodesT:Nat->List Nat
 | 0=>[]
 | k+1=>nodesT k++gT k
theorem yl (k:Nat):(uy k).length<=16:=by
 unfold uy
 split<;>simp
theorem Dz (k:Nat):(gT k).length<=100:=by
 have:=yl k;simp only[gT,List.length_append,Db,List.length_cons,List.length_nil];omega
theorem nodesT_len:∀ k,(nodesT k).length<=100*k
 | 0=>Nat.le_refl _
 | k+1=>by
   have:=nodesT_len k;have:=Dz k;simp only[nodesT,List.length_append];omega
def aftA:AV:=.sl 1 [.str (uy 0),.str (uy 1),.str (uy 2),.str (uy 3)] .lit
theorem ias_aft:∀ (i:Nat),i<4->aO 1 aftA (.int .i64 (i:Int))=some (.iptr [.str (uy i)])
 | 0,_=>bO (i:=0) (v:=.str (uy 0)) rfl
 | 1,_=>bO (i:=1) (v:=.str (uy 1)) rfl
 | 2,_=>bO (i:=2) (v:=.str (uy 2)) rfl
 | 3,_=>bO (i:=3) (v:=.str (uy 3)) rfl
 | n+4,h=>absurd h (by omega)
def R2 (n:Nat)(l:Option (List Int))(i:Nat)(r:RG):Prop:=r.a.a.g=.str (varsT n)/\r.a.a.h=.str (gL n (iv l) n)/\r.a.b.a=.str (nodesT i)/\r.a.b.b=.bool (ip (iv l) n)
theorem vW {n:Nat}(l:Option (List Int)):∀ (k i:Nat),k+i=4->∀ (fu:Nat),k<fu->∀ (r:RG),
  R2 n l i r->(r.b.a.f=aftA/\r.b.a.g=.int .i64 4/\r.b.a.h=.int .i64 (i:Int)) ->
  ∃ r',am (tw (orc CC M)) fu r [] ⟨[],0⟩=some (.exit 2,r',[],⟨[],0⟩)/\R2 n l 4 r':=by
 intro k
 induction k with
 | zero =>
   intro i hi fu hfu r hr' ⟨h69,h70,h71⟩;obtain ⟨fu',rfl⟩ : ∃ f,fu=f+1:=⟨fu-1,by omega⟩
   have:i=4:=by omega
   subst this;have hc:decide (((4:Nat):Int)<4)=false:=by decide
   simp only[am,tw,Dp,SIM,ST0,ST1,ST2,ST3,h70,h71,hc];exact ⟨_,rfl,by first|exact hr'⟩
 | succ k ih =>
   intro i hi fu hfu r ⟨h6,h7,h8,h9⟩ ⟨h69,h70,h71⟩;obtain ⟨fu',rfl⟩ : ∃ f,fu=f+1:=⟨fu-1,by omega⟩
   have hc:decide ((i:Int)<4)=true:=by simp;omega
   have ha:bP (i:Int) 1=((i+1:Nat):Int):=aW i 1 (by unfold natMax;omega)
   have hias:=ias_aft i (by omega)
   have hld:∀ (a:AV) (h:Heap),ax none (.iptr [a]) h=some a:=λ_ _=>rfl
   have a1:bP 48 (i:Int)=((48+i:Nat):Int):=aW 48 i (by unfold natMax;omega)
   have c1:=cvd i (by omega)
   have b:=PY (48+i);have c:=cvs i (by omega)
   have hl1:=yl i;have hl2:=Dz i;have hl3:=nodesT_len i;have s1:=ic true (a:=[32,110,111,100,101,32,103]) (b:=[48+i]) (by simp)
   have s2:=ic true (a:=[32,110,111,100,101,32,103]++[48+i]) (b:=[40,119,58,32,102,117,116,117,114,101,32,105,110,116,41,32,114,101,116,117,114,110,115,32,40,121,58,32,105,110,116,41,32,108,101,116,32,121,32,61,32,97,119,97,105,116,32,119]) (by simp)
   have s3:=ic false (a:=[32,110,111,100,101,32,103]++[48+i]++[40,119,58,32,102,117,116,117,114,101,32,105,110,116,41,32,114,101,116,117,114,110,115,32,40,121,58,32,105,110,116,41,32,108,101,116,32,121,32,61,32,97,119,97,105,116,32,119]) (b:=uy i) (by simp;omega)
   have s4:=ic true (a:=[32,110,111,100,101,32,103]++[48+i]++[40,119,58,32,102,117,116,117,114,101,32,105,110,116,41,32,114,101,116,117,114,110,115,32,40,121,58,32,105,110,116,41,32,108,101,116,32,121,32,61,32,97,119,97,105,116,32,119]++uy i) (b:=[32,43,32,49,59,32,116,101,108]) (by simp;omega)
   have e4:[32,110,111,100,101,32,103]++[48+i]++[40,119,58,32,102,117,116,117,114,101,32,105,110,116,41,32,114,101,116,117,114,110,115,32,40,121,58,32,105,110,116,41,32,108,101,116,32,121,32,61,32,97,119,97,105,116,32,119]++uy i++[32,43,32,49,59,32,116,101,108]=gT i:=rfl;rw[e4] at s4;have s5:=ic false (a:=nodesT i) (b:=gT i) (by omega)
   have e5:nodesT i++gT i=nodesT (i+1):=rfl;rw[e5] at s5;generalize [32,110,111,100,101,32,103]++[48+i]++[40,119,58,32,102,117,116,117,114,101,32,105,110,116,41,32,114,101,116,117,114,110,115,32,40,121,58,32,105,110,116,41,32,108,101,116,32,121,32,61,32,97,119,97,105,116,32,119]++uy i=S3 at s3 s4;generalize [32,110,111,100,101,32,103]++[48+i]++[40,119,58,32,102,117,116,117,114,101,32,105,110,116,41,32,114,101,116,117,114,110,115,32,40,121,58,32,105,110,116,41,32,108,101,116,32,121,32,61,32,97,119,97,105,116,32,119]=S2 at s2 s3;generalize [32,110,111,100,101,32,103]++[48+i]=S1 at s1 s2;have key:=ih (i+1) (by omega) fu' (by omega)
   simp only[am,tw,Dp,OB,LI,NR,SIM,ST0,ST1,ST2,ST3,h8,h69,h70,h71,hc,hias,hld,a1,c1,b,c,s1,s2,s3,s4,s5,ha,Nat.zero_min,Nat.reduceAdd,Nat.reduceLeDiff];exact key _ ⟨by first|rfl|exact h6,by first|rfl|exact h7,rfl,by first|rfl|exact h9⟩ ⟨by first|rfl|exact h69,by first|rfl|exact h70,rfl⟩
end
theorem J9 (n:Nat)(ks:Nat->Nat):[110,111,100,101,32,102,40,41,32,114,101,116,117,114,110,115,32,40,121,58,32,105,110,116,41,32,118,97,114,32]++varsT n++[108,101,116,32]++gL n ks n++[121,32,61,32,48,59,32,116,101,108]++nodesT 4=dZ n ks:=by
 simp only[dZ,headA,nodesT,List.append_assoc,List.nil_append,List.cons_append]
theorem T7 (rec:RecT):z3.sh rec=ac (ac (KA rec) (ac (ac (Kv rec) (aA (.t 16) (ac (Q4 rec) retZ) skipZ)) (ac (Jw rec) (ac (J5 rec) (ac (IN rec) (ac (Ku rec) (Ju rec))))))) (ac (aG 0 (aK (l6 rec))) (ac (zd rec) (ac (aG 2 (aK (tw rec))) (ac (se rec) (ac (ac (sv rec) (aA (.t 98) (ac (zf rec) retZ) skipZ)) (ac (y6 rec) retZ)))))):=by
 simp only[z3,ec]
theorem law3_all (a:Int)(l:Option (List Int)):∃ m,dB CC (memoL m)/\orc CC (memoL m) 3 [.int .i64 a,rowI l] []=some (.ret (.bool true) [] 0):=by
 obtain ⟨m0,hv0⟩:=PW a;have hn0:0<m0 % 8+1:=by omega
 have hn:m0 % 8+1<=8:=by omega
 have r8:bK CC .rem 3 true (.int .i64 (m0:Int)) (.int .i64 8)=some (.int .i64 ((m0 % 8:Nat):Int)):=Ok true m0 8 (by omega) (by omega)
 have ad:bP 1 ((m0 % 8:Nat):Int)=((m0 % 8+1:Nat):Int):=by
  rw[show (1:Int)=((1:Nat):Int) from rfl,aW 1 (m0 % 8) (by unfold natMax;omega),Nat.add_comm]
 generalize m0 % 8+1=n at ad hn0 hn;refine ⟨mR n (iv l),VQ hn0 hn (Sn l),?_⟩;have h11:∀ a,memoL (mR n (iv l)) 11 a=none:=λ_=>rfl
 have haw:orc CC (memoL (mR n (iv l))) 10 [] []=some (.ret (.bool true) [] 0):=gu rfl
 have hT:orc CC (memoL (mR n (iv l))) 12 [.str (dZ n (iv l))] []=some (.ret (cond (zero n (iv l)) (.agg [.int .i64 5,.int .i64 13]) (.agg [.int .i64 0,.int .i64 0])) [] 0):=by
  have key:∀ (t:List Nat) (v:AV),memoL ((12,[.str t],v)::m_aw13) 12 [.str t]=some v:=λt v=>by
   show cond (Nat.beq 12 12) (cond (eqArgs [.str t] [.str t]) (some v) (memoL m_aw13 12 [.str t])) (memoL m_aw13 12 [.str t])=some v;rw[zb];rfl
  exact gu (key _ _)
 generalize hM:memoL (mR n (iv l))=M at h11 haw hT;have h3:∀ a,M 3 a=none:=λ_=>by rw[<-hM];rfl
 have e0:(envOf [AV.int .i64 a,rowI l] 0 env0).a.a.a=.int .i64 a:=rfl;have e1:(envOf [AV.int .i64 a,rowI l] 0 env0).a.a.b=rowI l:=rfl;have hl0:aa ([]:Heap)=0:=rfl
 obtain ⟨r0,hr0,hk0,s0⟩ : ∃ r,R0 n l 0 r/\(r.a.c.f=.int .i64 (n:Int)/\r.a.c.g=.int .i64 ((0:Nat):Int)) /\
   ac (KA (orc CC M)) (ac (ac (Kv (orc CC M)) (aA (.t 16) (ac (Q4 (orc CC M)) retZ) skipZ)) (ac (Jw (orc CC M)) (ac (J5 (orc CC M)) (ac (IN (orc CC M)) (ac (Ku (orc CC M)) (Ju (orc CC M))))))) (envOf [AV.int .i64 a,rowI l] 0 env0) [] ⟨[],0⟩=some (.normal,r,[],⟨[],0⟩):=by
  generalize envOf [AV.int .i64 a,rowI l] 0 env0=R at e0 e1;simp only[KA,Kv,Jw,J5,IN,Ku,Ju,SIM,ST0,ST1,ST2,ST3,e0,e1,haw,hv0,r8,ad,Nat.zero_min,Nat.reduceAdd,Nat.reduceLeDiff];exact ⟨_,⟨rfl,by first|rfl|exact e1,rfl,rfl,rfl,rfl,rfl⟩,⟨rfl,rfl⟩,rfl⟩
 obtain ⟨r1,s1,g0,g1,g5,g6,g7,g8,g9⟩:=xN (M:=M) h11 hn0 hn l n 0 rfl 100000 (by omega) r0 hr0 hk0
 obtain ⟨r2,hr2,hk2,s2⟩ : ∃ r,R2 n l 0 r/\(r.b.a.f=aftA/\r.b.a.g=.int .i64 4/\r.b.a.h=.int .i64 ((0:Nat):Int))/\zd (orc CC M) r1 [] ⟨[],0⟩=some (.normal,r,[],⟨[],0⟩):=by
  have hb:aI CC 26 4 [(0,(.str [])),(1,(.str [32,97,102,116,101,114,32,40,49,41])),(2,(.str [32,97,102,116,101,114,32,40,49,44,32,50,41])),(3,(.str [32,97,102,116,101,114,32,40,49,44,32,50,44,32,51,41]))]=some aftA:=by kernel_rfl
  have hl:aQ CC 26 aftA=some (.int .i64 4):=by kernel_rfl
  simp only[zd,SIM,ST0,ST1,ST2,ST3,hb,hl];exact ⟨_,⟨by first|rfl|exact g6,by first|rfl|exact g7,by first|rfl|exact g8,by first|rfl|exact g9⟩,⟨rfl,rfl,rfl⟩,rfl⟩
 obtain ⟨r3,s3,h6,h7,h8,h9⟩:=vW (M:=M) l 4 0 rfl 100000 (by omega) r2 hr2 hk2
 have b0:∀ (i:Nat) (b:CZ) (r:RG) (s:St),aG i (aK b) r [] s=cM i (am b 100000 r [] s):=λ_ _ _ _=>rfl
 refine aL (z:=z3) (h3 _) (by kernel_rfl) rfl ?_
 have hz:z3.sh (orc CC M) (envOf [AV.int .i64 a,rowI l] 0 env0) [] ⟨[],aa ([]:Heap)⟩=ac (se (orc CC M)) (ac (ac (sv (orc CC M)) (aA (.t 98) (ac (zf (orc CC M)) retZ) skipZ)) (ac (y6 (orc CC M)) retZ)) r3 [] ⟨[],0⟩:=by
  rw[T7,hl0,bm,s0,bg,bm,b0,s1,bX,bg,bm,s2,bg,bm,b0,s3,bX,bg]
 rw[hz];have hvl:=varsT_len n;have hel:=n7 n (iv l) n;have hnl:=nodesT_len 4;have t1:=ic true (a:=[110,111,100,101,32,102,40,41,32,114,101,116,117,114,110,115,32,40,121,58,32,105,110,116,41,32,118,97,114,32]) (b:=varsT n) (by simp[hvl];omega)
 have t2:=ic true (a:=[110,111,100,101,32,102,40,41,32,114,101,116,117,114,110,115,32,40,121,58,32,105,110,116,41,32,118,97,114,32]++varsT n) (b:=[108,101,116,32]) (by simp[hvl];omega)
 have t3:=ic false (a:=[110,111,100,101,32,102,40,41,32,114,101,116,117,114,110,115,32,40,121,58,32,105,110,116,41,32,118,97,114,32]++varsT n++[108,101,116,32]) (b:=gL n (iv l) n) (by simp[hvl,hel];omega)
 have t4:=ic true (a:=[110,111,100,101,32,102,40,41,32,114,101,116,117,114,110,115,32,40,121,58,32,105,110,116,41,32,118,97,114,32]++varsT n++[108,101,116,32]++gL n (iv l) n) (b:=[121,32,61,32,48,59,32,116,101,108]) (by simp[hvl,hel];omega)
 have t5:=ic false (a:=[110,111,100,101,32,102,40,41,32,114,101,116,117,114,110,115,32,40,121,58,32,105,110,116,41,32,118,97,114,32]++varsT n++[108,101,116,32]++gL n (iv l) n++[121,32,61,32,48,59,32,116,101,108]) (b:=nodesT 4) (by simp[hvl,hel];omega)
 rw[J9] at t5;generalize [110,111,100,101,32,102,40,41,32,114,101,116,117,114,110,115,32,40,121,58,32,105,110,116,41,32,118,97,114,32]++varsT n++[108,101,116,32]++gL n (iv l) n++[121,32,61,32,48,59,32,116,101,108]=S4 at t4 t5;generalize [110,111,100,101,32,102,40,41,32,114,101,116,117,114,110,115,32,40,121,58,32,105,110,116,41,32,118,97,114,32]++varsT n++[108,101,116,32]++gL n (iv l) n=S3 at t3 t4;generalize [110,111,100,101,32,102,40,41,32,114,101,116,117,114,110,115,32,40,121,58,32,105,110,116,41,32,118,97,114,32]++varsT n++[108,101,116,32]=S2 at t2 t3;generalize [110,111,100,101,32,102,40,41,32,114,101,116,117,114,110,115,32,40,121,58,32,105,110,116,41,32,118,97,114,32]++varsT n=S1 at t1 t2;have b1:ao CC 29 [(0,.int .i64 5),(1,.int .i64 13)]=some (.agg [.int .i64 5,.int .i64 13]):=by kernel_rfl
 have b2:ao CC 29 []=some (.agg [.int .i64 0,.int .i64 0]):=by kernel_rfl
 have c1:bK CC .eql 29 false (.agg [.int .i64 5,.int .i64 13]) (.agg [.int .i64 5,.int .i64 13])=some (.bool true):=by kernel_rfl
 have c2:bK CC .eql 29 false (.agg [.int .i64 0,.int .i64 0]) (.agg [.int .i64 0,.int .i64 0])=some (.bool true):=by kernel_rfl
 have hgc:=λhp=>dH (k:=CC.keep 3) (b:=0) (v:=.bool true) (hp:=hp) rfl
 have htk:∀ hp:Heap,bw 0 hp=[]:=λhp=>by rw[cW];rfl
 rw[tE] at h9;cases hz3:zero n (iv l) with
 | true =>
   rw[hz3] at hT h9;have hT' : orc CC M 12 [.str (dZ n (iv l))] []=some (.ret (.agg [.int .i64 5,.int .i64 13]) [] 0):=hT;simp only[se,sv,zf,z3,SIM,ST0,ST1,ST2,ST3,h6,h7,h8,h9,t1,t2,t3,t4,t5,hT',b1,c1,hgc,htk,hl0,Nat.zero_min,Nat.reduceAdd,Nat.reduceLeDiff]
 | false =>
   rw[hz3] at hT h9;have hT' : orc CC M 12 [.str (dZ n (iv l))] []=some (.ret (.agg [.int .i64 0,.int .i64 0]) [] 0):=hT;simp only[se,sv,y6,z3,SIM,ST0,ST1,ST2,ST3,h6,h7,h8,h9,t1,t2,t3,t4,t5,hT',b2,c2,hgc,htk,hl0,Nat.zero_min,Nat.reduceAdd,Nat.reduceLeDiff]
end Rg
end Go.Proofs
