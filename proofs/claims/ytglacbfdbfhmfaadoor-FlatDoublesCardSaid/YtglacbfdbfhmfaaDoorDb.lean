/- the texts of the law, its units. Part of the proof of girandolelaw08.FlatDoubles. -/
import Derived.Test.YtglacbfdbfhmfaaDoorDec
import Derived.Test.YtglacbfdbfhmfaaDoorB2
import Derived.Test.YtglacbfdbfhmfaaDoorFl5
set_option linter.unusedVariables false
set_option linter.unusedSimpArgs false
set_option maxRecDepth 1000000
namespace Go.Proofs
open Go Go.Abs
def kNone:Kn:=fun _ _ _=>none
theorem BH {M:Memo}:P5 CC M kNone:=fun _ _ _ _ h _=>by cases h
noncomputable def Qd (m:List (FuncId × List AV × AV)):RecT:=callK CC (memoL m) (hZ tab) kNone 3000
theorem Hp (m:List (FuncId × List AV × AV)):Ha (Qd m) (orc CC (memoL m)):=tG cc_mask tabT BH 3000
namespace Oc
def decl (s:List Nat)(p:Nat):DeR:=⟨s,p,false,false,[],false⟩
end Oc
theorem N6 (n:Int):∃ m:Nat,cB CC .and 3 true (.int .i64 n) (.int .i64 255)=some (.int .i64 (m:Int)):=by
 let m:=(BitVec.ofInt IntKind.i64.bits n &&& BitVec.ofInt IntKind.i64.bits 255).toNat
 have hm:m≤255:=by
  show (BitVec.ofInt IntKind.i64.bits n &&& BitVec.ofInt IntKind.i64.bits 255).toNat≤255;rw[BitVec.toNat_and];exact Nat.le_trans Nat.and_le_right (by decide)
 have hw:IntKind.wrap .i64 (m:Int)=(m:Int):=f7 (by unfold natMax;omega)
 refine ⟨m,?_⟩;show bP CC .and 3 (.int .i64 n) (.int .i64 255)=_;simp only[bP,ii,if_true];exact congrArg (fun x=>some (AV.int .i64 x)) hw
theorem Ro (b:Bool)(m c:Nat)(hc:0 < c)(hm:c≤1000):cB CC .rem 3 b (.int .i64 (m:Int)) (.int .i64 (c:Int))=some (.int .i64 ((m % c:Nat):Int)):=by
 have h0:bP CC .rem 3 (.int .i64 (m:Int)) (.int .i64 (c:Int))=some (.int .i64 ((m % c:Nat):Int)):=by
  simp only[bP,ii,if_true];rw[if_neg (by omega)]
  rfl
 cases b
 ·exact h0
 ·exact h0
namespace Db
def Qi (n i:Nat):List Nat:=if i + 1=n then [120,59,32,116,101,108,32] else [98 + i,40,120,41,32,43,32,98 + i,40,120,41,59,32,116,101,108,32]
def Fj (n i:Nat):List Nat:=[110,111,100,101,32,97 + i,40,120,58,32,105,110,116,41,32,114,101,116,117,114,110,115,32,40,121,58,32,105,110,116,41,32,108,101,116,32,121,32,61,32] ++ Qi n i
def IZ (n:Nat):Nat→List Nat
 | 0=>[]
 | k + 1=>Fj n (n - (k + 1)) ++ IZ n k
def text (n:Nat):List Nat:=IZ n n
def vr (p:Nat):Ex:=.mk 3 p 0 [120] false []
def Bh (n i o:Nat):Ex:=if i + 1=n then vr (o + 40) else .mk 6 (o + 45) 0 [43] false [.mk 13 (o + 40) 0 [98 + i] false [vr (o + 42)],.mk 13 (o + 47) 0 [98 + i] false [vr (o + 49)]]
def gN (n i o:Nat):NdR:=⟨[97 + i],o + 5,[Oc.decl [120] (o + 7)],[Oc.decl [121] (o + 24)],[],[⟨[([121],o + 36)],false,Bh n i o⟩]⟩
def yg (n:Nat):Nat→Nat→List NdR
 | 0,_=>[]
 | k + 1,o=>gN n (n - (k + 1)) o :: yg n k (o + (Fj n (n - (k + 1))).length)
def nodes (n:Nat):List NdR:=yg n n 0
def sz (n:Nat):Nat:=5 * (2 ^ (n - 1) - 1) + 2 ^ (n - 1)
end Db
def FJ (d:NdR):Bool:=Nat.ble (cA d).length 90000 && Nat.ble d.eqs.length 90000 && !Nat.beq d.eqs.length 0 && (cA d).all (fun x=>x.c.isEmpty) && d.eqs.all (fun q=>Nat.blt (sizeE q.e) 90000 && Nat.ble q.l.length 90000)
theorem NV {d:NdR}(h:FJ d=true):NdK d:=by
 unfold FJ at h;simp only[Bool.and_eq_true,Bool.not_eq_true',List.all_eq_true] at h;obtain ⟨⟨⟨⟨h1,h2⟩,h3⟩,h4⟩,h5⟩:=h;refine ⟨by simpa using h1,by simpa using h2,fun h=>?_,fun x hx=>by simpa using h4 x hx,fun q hq=>?_⟩
 ·rw[h] at h3;cases h3
 ·have:=h5 q hq;simpa using this
theorem zl {L:List NdR}(h:L.all FJ=true):∀ d ∈ L,NdK d:=fun d hd=>NV (List.all_eq_true.1 h d hd)
def txC:List Nat:=[110,111,100,101,32,102,40,120,58,32,105,110,116,41,32,114,101,116,117,114,110,115,32,40,121,58,32,105,110,116,41,32,108,101,116,32,121,32,61,32,120,32,43,32,49,59,32,116,101,108]
def ndsC:List NdR:=[⟨[102],5,[Oc.decl [120] 7],[Oc.decl [121] 24],[],[⟨[([121],36)],false,.mk 6 42 0 [43] false [.mk 3 40 0 [120] false [],.mk 1 44 1 [] false []]⟩]⟩]
theorem sC:sE txC=true:=by kernel_rfl
theorem pC:dL txC=some ndsC:=by kernel_rfl
abbrev mC:List (FuncId × List AV × AV):=(8,[.str txC],pV ndsC) :: memo1
theorem mC_ok:eP CC (memoL mC):=j4 memo1_ok sC pC
theorem r_awake08:Qd mC 7 [] []=some (.ret (.bool true) [] 0):=by kernel_rfl
def m_aw08:List (FuncId × List AV × AV):=(7,[],.bool true) :: memo1
theorem m_aw08_ok:eP CC (memoL m_aw08):=jy cc_goodF cc_scal memo1_ok mC_ok rfl (by kernel_rfl) (Hp mC _ _ _ _ r_awake08)
noncomputable section
def rf (rec:RecT):CZ:=ac (wT rec) (ac (ac (wY rec) (aX 0 (bi (oz rec)))) (iv rec))
def fE (rec:RecT):CZ:=ac (x9 rec) (ac (ac (xZ rec) (aB (.t 77) (ac (Dz rec) retZ) skipZ)) (ac (AT rec) retZ))
def mB (rec:RecT):CZ:=ac (rf rec) (fE rec)
def gM (a:Int)(k:Nat):RG:=st (st (st (envOf [.int .i64 a] 0 env0) 2 (.bool false)) 13 (.bool false)) 0 (.int .i64 (k:Int))
end
abbrev nV (n:Nat):AV:=.sl 6 ((Db.nodes n).map NdR.v) .dead
abbrev mD (n:Nat):List (FuncId × List AV × AV):=(8,[.str (Db.text n)],pV (Db.nodes n)) :: m_aw08
theorem Ke (n:Nat):eu (memoL (mD n)):=flM_of (by kernel_rfl)
theorem LF {rec:RecT}(h7:rec 7 [] []=some (.ret (.bool true) [] 0)){a:Int}{m:Nat}(hv:cB CC .and 3 true (.int .i64 a) (.int .i64 255)=some (.int .i64 (m:Int))) :
  z3.sh rec (envOf [.int .i64 a] 0 env0) [] ⟨[],aa ([]:Heap)⟩=mB rec (gM a (m % 12 + 1)) [] ⟨[],0⟩:=by
 have e0:(envOf [AV.int .i64 a] 0 env0).a.a.a=.int .i64 a:=rfl;have h12:=Ro true m 12 (by omega) (by omega)
 have hadd:cQ 1 ((m % 12:Nat):Int)=((m % 12 + 1:Nat):Int):=by
  rw[show (1:Int)=((1:Nat):Int) from rfl,bA 1 (m % 12) (by unfold natMax;omega),Nat.add_comm]
 unfold gM mB rf;generalize envOf [AV.int .i64 a] 0 env0=R at e0;have h12' : cB CC .rem 3 true (.int .i64 (m:Int)) (.int .i64 12)=some (.int .i64 ((m % 12:Nat):Int)):=h12;have hz:∀ (x:RG) (s:St),ac (ac (wT rec) (ac (ac (wY rec) (aX 0 (bi (oz rec)))) (iv rec))) (fE rec) x [] s=ac (wT rec) (ac (ac (wY rec) (aX 0 (bi (oz rec)))) (ac (iv rec) (fE rec))) x [] s:=fun x s=>by rw[fL,fL]
 rw[hz];unfold fE;simp only[z3,QS,Sm,QD,SIM,ST0,ST1,e0,h7,hv,h12',hadd,List.length_nil,Nat.zero_min,Nat.reduceAdd,Nat.reduceLeDiff]
theorem HD {M:Memo}(h10:∀ a,M 10 a=none){uo:Nat}{H:Heap}{u:UN}(U:UI uo H u):orc CC M 10 [.ptr uo 0] H=some (.ret (.int .i64 (u.size:Int)) H (aa H)):=by
 refine aH (z:=z10) (h10 _) (by kernel_rfl) rfl ?_
 have e0:(envOf [.ptr uo 0] 0 env0).a.a.a=.ptr uo 0:=rfl;generalize envOf [.ptr uo 0] 0 env0=R at e0;have hE:=U.ob;have ht:bB (aa H) H=H:=by have:=cb H [];rwa [List.append_nil] at this
 have hgc:=iJ (k:=CC.keep 10) (b:=aa H) (v:=.int .i64 (u.size:Int)) (hp:=H) rfl;rw[ht] at hgc;simp only[z10,II,Li,SIM,ST0,e0,hE,sQ,hgc,Nat.reduceAdd,Nat.reduceLeDiff]
def proj3:IRes→Option (AV × AV × St):=fun x=>match x with
 | some (.normal,r,[],s)=>some (r.a.a.d,r.a.a.e,s)
 | _=>none
theorem sU {x:IRes}{a b:AV}{s:St}(h:proj3 x=some (a,b,s)):∃ r:RG,x=some (.normal,r,[],s)∧r.a.a.d=a∧r.a.a.e=b:=by
 unfold proj3 at h
 split at h
 ·next r s' =>
   simp only[SJ,PJ] at h;obtain ⟨h1,h2,rfl⟩:=h;exact ⟨r,rfl,h1,h2⟩
 ·cases h
noncomputable section
def fe (rec:RecT):CZ:=ac (wT rec) (ac (wY rec) (aX 0 (bi (oz rec))))
end
def mL (n:Nat):Bool:=match tj (Db.nodes n) [97] with
 | some (_ :: _,p)=>Nat.beq p.size (Db.sz n) && Nat.blt (p.w + 20) 1000000
 | _=>false
structure Low3 (n:Nat):Prop where
 s:sE (Db.text n)=true
 p:dL (Db.text n)=some (Db.nodes n)
 l:∀ (rec:RecT) (a:Int),proj3 (fe rec (gM a n) [] ⟨[],0⟩)=some (.str (Db.text n),.int .i64 (Db.sz n:Int),⟨[],0⟩)
 k:(Db.nodes n).all FJ=true
 b:(Db.nodes n).length≤90000
 f:(cD [97] (Db.nodes n)).isSome=true
 g:mL n=true
 z:Nat.ble (Db.sz n) 1500=true
 m:memoL (mD n) 8 [.str (Db.text n)]=some (pV (Db.nodes n))
theorem AF {n:Nat}(h:Low3 n)(H:Heap):∃ H' u',orc CC (memoL (mD n)) 9 [nV n,.str [97]] H=some (.ret (.tuple [.ptr (aa H + 2) 0,.agg [.int .i64 0,.int .i64 0]]) H' (aa H))∧UI (aa H + 2) H' u'∧u'.size=Db.sz n∧(∀ q,q < aa H→af H' q=af H q):=by
 obtain ⟨d,hd⟩:=Option.isSome_iff_exists.1 h.f;have hg:=h.g;unfold mL at hg
 split at hg
 ·next v l p hp =>
   simp only[Bool.and_eq_true,Nat.beq_eq,Nat.blt_eq] at hg;obtain ⟨H',u',e,U,hup,_,_,_,hfr⟩:=Ci (Ke n) h.b (zl h.k) hd hp (by simp) hg.2 H
   exact ⟨H',u',e,U,by rw[← hg.1,← hup];rfl,hfr⟩
 ·cases hg
theorem HW {n:Nat}(h:Low3 n)(a:Int):j0 CC 3 0 z3 (mB (orc CC (memoL (mD n))) (gM a n) [] ⟨[],0⟩)=some (.ret (.bool true) [] 0):=by
 obtain ⟨r,hr,h3,h4⟩:=sU (h.l (orc CC (memoL (mD n))) a);have e8:orc CC (memoL (mD n)) 8 [.str (Db.text n)] []=some (.ret (pV (Db.nodes n)) [] 0):=gR h.m
 have hz:mB (orc CC (memoL (mD n))) (gM a n) [] ⟨[],0⟩=ac (iv (orc CC (memoL (mD n)))) (fE (orc CC (memoL (mD n)))) r [] ⟨[],0⟩:=by
  unfold mB rf
  have:∀ x d s,ac (ac (wT (orc CC (memoL (mD n)))) (ac (ac (wY (orc CC (memoL (mD n)))) (aX 0 (bi (oz (orc CC (memoL (mD n))))))) (iv (orc CC (memoL (mD n)))))) (fE (orc CC (memoL (mD n)))) x d s=ac (fe (orc CC (memoL (mD n)))) (ac (iv (orc CC (memoL (mD n)))) (fE (orc CC (memoL (mD n))))) x d s:=fun x d s=>by
   unfold fe;simp only[fL]
  rw[this,bt,hr,bn]
 rw[hz];have hg0:∀ c:AObj,af [c] 0=some c:=fun c=>rfl
 have hl1:∀ c:AObj,aa [c]=1:=fun c=>rfl
 have hs0:∀ c d:AObj,ai [c] 0 d=[d]:=fun c d=>rfl
 obtain ⟨H',u',e9,U,hsz,hfr⟩:=AF h [.cells [.int .i64 0,.int .i64 0]]
 have hg1:af H' 0=some (.cells [.int .i64 0,.int .i64 0]):=by
  rw[hfr 0 (by simp[aj])];rfl
 have hA:=bm hg1;rw[← aj] at hA;have U2:=U.ap (K:=[.cells [.int .i64 0,.int .i64 0]]);have e10:=HD (M:=memoL (mD n)) (fun _=>rfl) U2
 rw[hsz] at e10;have e9' : orc CC (memoL (mD n)) 9 [nV n,.str [97]] [.cells [.int .i64 0,.int .i64 0]]=some (.ret (.tuple [.ptr 3 0,.agg [.int .i64 0,.int .i64 0]]) H' 1):=e9;have e10' : orc CC (memoL (mD n)) 10 [.ptr 3 0] (H' ++ [.cells [.int .i64 0,.int .i64 0]])=some (.ret (.int .i64 (Db.sz n:Int)) (H' ++ [.cells [.int .i64 0,.int .i64 0]]) (aa (H' ++ [.cells [.int .i64 0,.int .i64 0]]))):=e10;have c4:cB CC .neq 30 true (.ptr 3 0) .nilp=some (.bool true):=by kernel_rfl
 have hg2:af (H' ++ [.cells [.int .i64 0,.int .i64 0]]) 0=some (.cells [.int .i64 0,.int .i64 0]):=ar hg1 _;have hg3:∀ o,af (H' ++ [o]) (aa H')=some o:=fun o=>by rw[au];rfl
 have hs3:∀ o o',ai (H' ++ [o]) (aa H') o'=H' ++ [o']:=fun o o'=>by rw[dp];rfl
 have hgc:=fun hp=>iJ (k:=CC.keep 3) (b:=0) (v:=.bool true) (hp:=hp) rfl
 have htk:∀ hp:Heap,bB 0 hp=[]:=fun hp=>by rw[dw];rfl
 have b2:ao CC 27 []=some (.agg [.int .i64 0,.int .i64 0]):=by kernel_rfl
 have c2:cB CC .eql 27 false (.agg [.int .i64 0,.int .i64 0]) (.agg [.int .i64 0,.int .i64 0])=some (.bool true):=by kernel_rfl
 have c3:cB CC .neq 27 false (.agg [.int .i64 0,.int .i64 0]) (.agg [.int .i64 0,.int .i64 0])=some (.bool false):=by kernel_rfl
 have hlt:decide (((Db.sz n:Nat):Int) > 1500)=false:=by
  have:=Nat.le_of_ble_eq_true h.z;simp;omega
 simp only[iv,x9,xZ,AT,fE,z3,SIM,ST0,ST1,ST2,h3,h4,e8,e9',e10',c4,hg0,hl1,hs0,hg2,hg3,hs3,b2,c2,c3,hlt,hgc,htk,Nat.zero_min,Nat.reduceAdd,Nat.reduceLeDiff]
structure High3 (n:Nat):Prop where
 s:sE (Db.text n)=true
 p:dL (Db.text n)=some (Db.nodes n)
 l:∀ (rec:RecT) (a:Int),proj3 (fe rec (gM a n) [] ⟨[],0⟩)=some (.str (Db.text n),.int .i64 (Db.sz n:Int),⟨[],0⟩)
 k:(Db.nodes n).all FJ=true
 b:(Db.nodes n).length≤90000
 f:(cD [97] (Db.nodes n)).map NdR.p=some 5
 g:jI (Db.nodes n) [97]=true
 z:Nat.ble 1501 (Db.sz n)=true
 m:memoL (mD n) 8 [.str (Db.text n)]=some (pV (Db.nodes n))
theorem wo {n:Nat}(h:High3 n)(H:Heap):orc CC (memoL (mD n)) 9 [nV n,.str [97]] H=some (.ret (.tuple [.nilp,.agg [.int .i64 5,.int .i64 14]]) H (aa H)):=by
 cases hf:cD [97] (Db.nodes n) with
 | none=>have:=h.f;rw[hf] at this;cases this
 | some d =>
   have hp:d.p=5:=by have:=h.f;rw[hf] at this;exact Option.some.inj this
   have:=DM (Ke n) h.b (zl h.k) hf h.g H;rw[hp] at this;exact this
theorem BI {n:Nat}(h:High3 n)(a:Int):j0 CC 3 0 z3 (mB (orc CC (memoL (mD n))) (gM a n) [] ⟨[],0⟩)=some (.ret (.bool true) [] 0):=by
 obtain ⟨r,hr,h3,h4⟩:=sU (h.l (orc CC (memoL (mD n))) a);have e8:orc CC (memoL (mD n)) 8 [.str (Db.text n)] []=some (.ret (pV (Db.nodes n)) [] 0):=gR h.m
 have hz:mB (orc CC (memoL (mD n))) (gM a n) [] ⟨[],0⟩=ac (iv (orc CC (memoL (mD n)))) (fE (orc CC (memoL (mD n)))) r [] ⟨[],0⟩:=by
  unfold mB rf
  have:∀ x d s,ac (ac (wT (orc CC (memoL (mD n)))) (ac (ac (wY (orc CC (memoL (mD n)))) (aX 0 (bi (oz (orc CC (memoL (mD n))))))) (iv (orc CC (memoL (mD n)))))) (fE (orc CC (memoL (mD n)))) x d s=ac (fe (orc CC (memoL (mD n)))) (ac (iv (orc CC (memoL (mD n)))) (fE (orc CC (memoL (mD n))))) x d s:=fun x d s=>by
   unfold fe;simp only[fL]
  rw[this,bt,hr,bn]
 rw[hz];have hg0:∀ c:AObj,af [c] 0=some c:=fun c=>rfl
 have hl1:∀ c:AObj,aa [c]=1:=fun c=>rfl
 have hs0:∀ c d:AObj,ai [c] 0 d=[d]:=fun c d=>rfl
 have e9:=wo h [.cells [.int .i64 0,.int .i64 0]];have e9' : orc CC (memoL (mD n)) 9 [nV n,.str [97]] [.cells [.int .i64 0,.int .i64 0]]=some (.ret (.tuple [.nilp,.agg [.int .i64 5,.int .i64 14]]) [.cells [.int .i64 0,.int .i64 0]] 1):=e9;have hg2:∀ c d:AObj,af [c,d] 0=some c:=fun c d=>rfl
 have hg3:∀ c d:AObj,af [c,d] 1=some d:=fun c d=>rfl
 have hs3:∀ c d d' : AObj,ai [c,d] 1 d'=[c,d']:=fun c d d'=>rfl
 have hgc:=fun hp=>iJ (k:=CC.keep 3) (b:=0) (v:=.bool true) (hp:=hp) rfl
 have htk:∀ hp:Heap,bB 0 hp=[]:=fun hp=>by rw[dw];rfl
 have b2:ao CC 27 []=some (.agg [.int .i64 0,.int .i64 0]):=by kernel_rfl
 have c2:cB CC .eql 27 false (.agg [.int .i64 0,.int .i64 0]) (.agg [.int .i64 0,.int .i64 0])=some (.bool true):=by kernel_rfl
 have c3:cB CC .neq 27 false (.agg [.int .i64 0,.int .i64 0]) (.agg [.int .i64 0,.int .i64 0])=some (.bool false):=by kernel_rfl
 have hlt:decide (((Db.sz n:Nat):Int) > 1500)=true:=by
  have:=Nat.le_of_ble_eq_true h.z;simp;omega
 have b3:ao CC 27 [(0,.int .i64 5),(1,.int .i64 14)]=some (.agg [.int .i64 5,.int .i64 14]):=by kernel_rfl
 have c4:cB CC .eql 27 false (.agg [.int .i64 5,.int .i64 14]) (.agg [.int .i64 5,.int .i64 14])=some (.bool true):=by kernel_rfl
 have c5:cB CC .eql 30 true .nilp .nilp=some (.bool true):=by kernel_rfl
 simp only[iv,x9,xZ,Dz,fE,z3,SIM,ST0,ST1,ST2,h3,h4,e8,e9',b3,c4,c5,hg0,hl1,hs0,hg2,hg3,hs3,b2,c2,c3,hlt,hgc,htk,Nat.zero_min,Nat.reduceAdd,Nat.reduceLeDiff]
theorem Ta (a:Int)(H:∀ k,k < 12→Low3 (k + 1)∨High3 (k + 1)):∃ M,eP CC M∧orc CC M 3 [.int .i64 a] []=some (.ret (.bool true) [] 0):=by
 obtain ⟨m,hm⟩:=N6 a;have h7:orc CC (memoL (mD (m % 12 + 1))) 7 [] []=some (.ret (.bool true) [] 0):=gR rfl
 rcases H (m % 12) (Nat.mod_lt _ (by omega)) with hc | hc
 ·refine ⟨_,j4 m_aw08_ok hc.s hc.p,aH (z:=z3) rfl (by kernel_rfl) rfl ?_⟩
  rw[LF (m:=m) h7 hm];exact HW hc a
 ·refine ⟨_,j4 m_aw08_ok hc.s hc.p,aH (z:=z3) rfl (by kernel_rfl) rfl ?_⟩
  rw[LF (m:=m) h7 hm];exact BI hc a
namespace Db
abbrev kV (s:List Nat)(o o1 o2 o3:Nat)(e:Ex):NdR:=⟨s,o,[Oc.decl [120] o1],[Oc.decl [121] o2],[],[⟨[([121],o3)],false,e⟩]⟩
def pre (p:PS)(a:AtF)(s:Nat):PS:={ p with vars:=p.vars + 2,eqs:=p.eqs ++ [⟨[99,111,112,121],p.vars,[a]⟩],size:=p.size + s }
abbrev fR (p:PS):List (List Nat × Nat):=[([120],p.vars),([121],p.vars + 1)]
theorem ub (p:PS)(a:AtF)(s:Nat):(pre p a s).w=p.w + 3 + s:=by
 simp only[pre,PS.w,List.length_append,List.length_cons,List.length_nil];omega
theorem LG {s:List Nat}{o o1 o2 o3:Nat}{e:Ex}{a:AtF}{p:PS}(sp:List (List Nat × Nat)→EqR→FmS→PS→Option (FmS × PS))(gv:List (List Nat × Nat)→FmS→EqR→PS→Option PS)(hs:p.size + sizeE e≤1500) :
  jb sp gv (kV s o o1 o2 o3 e) [a] [] p=match gv (fR p) [] ⟨[([121],o3)],false,e⟩ (pre p a (sizeE e)) with
   | none=>none
   | some p5=>some ([p.vars + 1],p5):=by
 have h1:placesP (cA (kV s o o1 o2 o3 e)) [] p=some (fR p,p.inc.inc):=rfl;have h2:ka (fR p) (kV s o o1 o2 o3 e).ins [a] [] [] p.inc.inc=some ([],{ p with vars:=p.vars + 2,eqs:=p.eqs ++ [⟨[99,111,112,121],p.vars,[a]⟩] }):=rfl
 have hb:Nat.ble (p.size + sizeE e) 1500=true:=Nat.ble_eq_true_of_le hs
 have h3:sizeP (kV s o o1 o2 o3 e).eqs { p with vars:=p.vars + 2,eqs:=p.eqs ++ [⟨[99,111,112,121],p.vars,[a]⟩] }=some (pre p a (sizeE e)):=by
  simp only[sizeP,hb,cond_true];rfl
 unfold jb;rw[h1];simp only[];rw[h2];simp only[];rw[h3];simp only[dC,cond_false,fA];cases gv (fR p) [] ⟨[([121],o3)],false,e⟩ (pre p a (sizeE e)) <;> rfl
theorem zn (p:PS)(a:AtF)(s:Nat):(pre p a s).size=p.size + s:=rfl
theorem OZ {nd:NdF}{L:List NdR}{vm:List (List Nat × Nat)}{nm:List Nat}{s:List Nat}{o o1 o2 o3 q r:Nat}{e:Ex}{v0:Nat}(hf:cD nm L=some (kV s o o1 o2 o3 e))(hv:fp [120] vm=some v0)(m:Nat)(p:PS) :
  de nd L vm [] (m + 1) (.mk 13 q 0 nm false [vr r]) p=match nd (kV s o o1 o2 o3 e) [⟨false,0,v0⟩] [] p with
   | some (v :: _,p2)=>some (⟨false,0,v⟩,p2)
   | _=>none:=by
 have h1:bG vm (de nd L vm [] m) 60 (vr r) p=some (⟨false,0,v0⟩,p):=by
  show (match fp [120] vm with
   | some v=>some ((⟨false,0,v⟩ : AtF),p)
   | none=>none)=_
  rw[hv]
 have h2:cL (bG vm (de nd L vm [] m) 60) [] (kV s o o1 o2 o3 e).ins [vr r] p=some ([⟨false,0,v0⟩],[],p):=by
  simp only[cL,Oc.decl,cond_false,h1]
 show (match cD nm L with
  | none=>none
  | some d'=>match cL (bG vm (de nd L vm [] m) 60) [] d'.ins [vr r] p with
    | none=>none
    | some (xs,fs,p1)=>match nd d' xs fs p1 with
      | some (v :: _,p2)=>some ((⟨false,0,v⟩ : AtF),p2)
      | _=>none)=_
 rw[hf];simp only[];rw[h2]
theorem Kl {nd:NdF}{ndn:NdNF}{L:List NdR}{vm:List (List Nat × Nat)}{nm:List Nat}{s:List Nat}{o o1 o2 o3 q r:Nat}{e:Ex}{v0:Nat}(hf:cD nm L=some (kV s o o1 o2 o3 e))(hv:fp [120] vm=some v0)(m:Nat)(p:PS)(hw:sG p=true) :
  lD nd ndn L vm [] (m + 1) (.mk 13 q 0 nm false [vr r]) p=ndn (kV s o o1 o2 o3 e) [⟨false,0,v0⟩] [] p:=by
 have h1:bG vm (de nd L vm [] m) 60 (vr r) p=some (⟨false,0,v0⟩,p):=by
  show (match fp [120] vm with
   | some v=>some ((⟨false,0,v⟩ : AtF),p)
   | none=>none)=_
  rw[hv]
 have h2:cL (bG vm (de nd L vm [] m) 60) [] (kV s o o1 o2 o3 e).ins [vr r] p=some ([⟨false,0,v0⟩],[],p):=by
  simp only[cL,Oc.decl,cond_false,h1]
 have h0:gP vm (de nd L vm [] m) (lD nd ndn L vm [] m) 60 (vr r) p=false:=rfl
 have h3:fK (bG vm (de nd L vm [] m) 60) (gP vm (de nd L vm [] m) (lD nd ndn L vm [] m) 60) [] (kV s o o1 o2 o3 e).ins [vr r] p=false:=by
  simp only[fK,Oc.decl,cond_false,h0,h1,Bool.and_false]
 show (match cD nm L with
  | none=>false
  | some d'=>ui (bG vm (de nd L vm [] m) 60) (gP vm (de nd L vm [] m) (lD nd ndn L vm [] m) 60) [] ndn d' [vr r] p)=_
 rw[hf];simp only[ui];rw[h3,h2];simp only[cond_false,hw,Bool.true_and]
def szj:Nat→Nat
 | 0=>1
 | j + 1=>5 + 2 * szj j
abbrev AM (q a b c d:Nat)(nm:List Nat):Ex:=.mk 6 q 0 [43] false [.mk 13 a 0 nm false [vr b],.mk 13 c 0 nm false [vr d]]
theorem QT {L:List NdR}{s:List Nat}{o o1 o2 o3 q:Nat}{a:AtF}{p:PS}(m:Nat)(hs:p.size + 1≤1500) :
  ∃ v p',fU L (m + 1) (kV s o o1 o2 o3 (vr q)) [a] [] p=some ([v],p')∧p'.size=p.size + 1∧p'.w=p.w + 5:=by
 have h:=LG (s:=s) (o:=o) (o1:=o1) (o2:=o2) (o3:=o3) (e:=vr q) (a:=a) (p:=p) (fun _=>vz) (tD (fU L m) L) hs
 refine ⟨p.vars + 1,{ pre p a 1 with eqs:=(pre p a 1).eqs ++ [⟨[99,111,112,121],p.vars + 1,[⟨false,0,p.vars⟩]⟩] },?_,?_,?_⟩
 ·show jb (fun _=>vz) (tD (fU L m) L) (kV s o o1 o2 o3 (vr q)) [a] [] p=_
  rw[h];rfl
 ·rfl
 ·have:=ub p a 1;simp only[PS.w,List.length_append,List.length_cons,List.length_nil] at this ⊢;omega
theorem SO {L:List NdR}{j:Nat}{s s' : List Nat}{o o1 o2 o3 q a b c d o' o1' o2' o3' : Nat}{nm:List Nat}{e' : Ex}{x:AtF}{p:PS}(m:Nat)(hf:cD nm L=some (kV s' o' o1' o2' o3' e'))(hs:p.size + szj (j + 1)≤1500)
  (ih:∀ (x:AtF) (p:PS),p.size + szj j≤1500→∃ v p',fU L m (kV s' o' o1' o2' o3' e') [x] [] p=some ([v],p')∧p'.size=p.size + szj j∧p'.w≤p.w + 20 * szj j) :
  ∃ v p',fU L (m + 1) (kV s o o1 o2 o3 (AM q a b c d nm)) [x] [] p=some ([v],p')∧p'.size=p.size + szj (j + 1)∧p'.w≤p.w + 20 * szj (j + 1):=by
 have e5:sizeE (AM q a b c d nm)=5:=rfl;simp only[szj] at hs ⊢;have h:=LG (s:=s) (o:=o) (o1:=o1) (o2:=o2) (o3:=o3) (e:=AM q a b c d nm) (a:=x) (p:=p) (fun _=>vz) (tD (fU L m) L) (by rw[e5];omega)
 rw[e5] at h;have hv:fp [120] (fR p)=some p.vars:=rfl;obtain ⟨v1,p1,h1,s1,w1⟩:=ih ⟨false,0,p.vars⟩ (pre p x 5) (by rw[zn];omega)
 obtain ⟨v2,p2,h2,s2,w2⟩:=ih ⟨false,0,p.vars⟩ p1 (by rw[s1,zn];omega)
 rw[zn] at s1;rw[ub] at w1;have g1:=OZ (nd:=fU L m) (vm:=fR p) (q:=a) (r:=b) hf hv 59 (pre p x 5);rw[h1] at g1;have g2:=OZ (nd:=fU L m) (vm:=fR p) (q:=c) (r:=d) hf hv 59 p1;rw[h2] at g2
 have hg:tD (fU L m) L (fR p) [] ⟨[([121],o3)],false,AM q a b c d nm⟩ (pre p x 5)=some ({ (p2.eq [43] [⟨false,0,v1⟩,⟨false,0,v2⟩]).2 with eqs:=(p2.eq [43] [⟨false,0,v1⟩,⟨false,0,v2⟩]).2.eqs ++ [⟨[99,111,112,121],p.vars + 1,[⟨false,0,p2.vars⟩]⟩] }:PS):=by
  have ha:dn (bG (fR p) (de (fU L m) L (fR p) [] 60) 59) [.mk 13 a 0 nm false [vr b],.mk 13 c 0 nm false [vr d]] (pre p x 5)=some ([⟨false,0,v1⟩,⟨false,0,v2⟩],p2):=by
   have k1:bG (fR p) (de (fU L m) L (fR p) [] 60) 59 (.mk 13 a 0 nm false [vr b]) (pre p x 5)=some (⟨false,0,v1⟩,p1):=g1;have k2:bG (fR p) (de (fU L m) L (fR p) [] 60) 59 (.mk 13 c 0 nm false [vr d]) p1=some (⟨false,0,v2⟩,p2):=g2;simp only[dn,k1,k2]
  have hx:bG (fR p) (de (fU L m) L (fR p) [] 60) 60 (AM q a b c d nm) (pre p x 5)=some (p2.eq [43] [⟨false,0,v1⟩,⟨false,0,v2⟩]):=by
   show (match dn (bG (fR p) (de (fU L m) L (fR p) [] 60) 59) [.mk 13 a 0 nm false [vr b],.mk 13 c 0 nm false [vr d]] (pre p x 5) with
    | some (x :: l,p1)=>some (p1.eq (yw (AM q a b c d nm)) (x :: l))
    | _=>none)=_
   rw[ha];rfl
  show mI (bG (fR p) (de (fU L m) L (fR p) [] 60) 60) (fR p) [121] (AM q a b c d nm) (pre p x 5)=_
  show (match bG (fR p) (de (fU L m) L (fR p) [] 60) 60 (AM q a b c d nm) (pre p x 5) with
   | none=>none
   | some (a,p1)=>some ({ p1 with eqs:=p1.eqs ++ [(⟨[99,111,112,121],p.vars + 1,[a]⟩ : QF)] }:PS))=_
  rw[hx];rfl
 rw[hg] at h;refine ⟨p.vars + 1,_,h,?_,?_⟩
 ·show p2.size=_;rw[s2,s1];omega
 ·have:(p2.eq [43] [⟨false,0,v1⟩,⟨false,0,v2⟩]).2.w=p2.w + 2:=Cc _ _ _;simp only[PS.w,List.length_append,List.length_cons,List.length_nil] at this w1 w2 ⊢;omega
end Db
namespace Db
theorem Fr {s:List Nat}{o o1 o2 o3:Nat}{e:Ex}{a:AtF}{p:PS}(sp:List (List Nat × Nat)→EqR→FmS→PS→Option (FmS × PS))(gv:List (List Nat × Nat)→FmS→EqR→PS→Option PS)(gvn:List (List Nat × Nat)→FmS→EqR→PS→Bool)
  (h0:p.size≤1500) (hw:p.w + sizeE e + 93000 < 1000000) (hg:p.size + sizeE e≤1500→gvn (fR p) [] ⟨[([121],o3)],false,e⟩ (pre p a (sizeE e))=true) :
  mA sp gv gvn (kV s o o1 o2 o3 e) [a] [] p=true:=by
 have h1:placesP (cA (kV s o o1 o2 o3 e)) [] p=some (fR p,p.inc.inc):=rfl;have h2:ka (fR p) (kV s o o1 o2 o3 e).ins [a] [] [] p.inc.inc=some ([],{ p with vars:=p.vars + 2,eqs:=p.eqs ++ [⟨[99,111,112,121],p.vars,[a]⟩] }):=rfl
 have w1:p.inc.inc.w=p.w + 2:=by rw[ze,ze]
 have w2:({ p with vars:=p.vars + 2,eqs:=p.eqs ++ [⟨[99,111,112,121],p.vars,[a]⟩] }:PS).w=p.w + 3:=by
  simp only[PS.w,List.length_append,List.length_cons,List.length_nil];omega
 have k1:sG p.inc.inc=true:=by unfold sG;rw[w1,Nat.blt_eq];omega
 have k2:Nat.blt (({ p with vars:=p.vars + 2,eqs:=p.eqs ++ [⟨[99,111,112,121],p.vars,[a]⟩] }:PS).w + 92000) 1000000=true:=by rw[w2,Nat.blt_eq];omega
 have k3:Nat.ble p.size 1500=true:=Nat.ble_eq_true_of_le h0;have k4:sG (pre p a (sizeE e))=true:=by unfold sG;rw[ub,Nat.blt_eq];omega
 unfold mA;rw[h1];simp only[];rw[h2];simp only[];rw[k1,k2];simp only[k3,Bool.true_and];cases hb:Nat.ble (p.size + sizeE e) 1500 with
 | false=>simp only[sizeP,hb,cond_false]
 | true =>
   have h3:sizeP (kV s o o1 o2 o3 e).eqs { p with vars:=p.vars + 2,eqs:=p.eqs ++ [⟨[99,111,112,121],p.vars,[a]⟩] }=some (pre p a (sizeE e)):=by
    simp only[sizeP,hb,cond_true];rfl
   rw[h3];simp only[dC,cond_false,k4,Bool.true_and,oW,hg (Nat.le_of_ble_eq_true hb),cond_true]
theorem Q5 {L:List NdR}{s:List Nat}{o o1 o2 o3 q:Nat}{a:AtF}{p:PS}(m:Nat)(h0:p.size≤1500)(hs:1500 < p.size + 1)(hw:p.w + 100000 < 1000000):vw L (m + 1) (kV s o o1 o2 o3 (vr q)) [a] [] p=true :=
 Fr (e:=vr q) _ _ _ h0 (by have:sizeE (vr q)=1:=rfl;omega) (fun h=>by have:sizeE (vr q)=1:=rfl;omega)
theorem SF {L:List NdR}{j:Nat}{s s' : List Nat}{o o1 o2 o3 q a b c d o' o1' o2' o3' : Nat}{nm:List Nat}{e' : Ex}{x:AtF}{p:PS}(m:Nat)(hf:cD nm L=some (kV s' o' o1' o2' o3' e'))(h0:p.size≤1500)(hs:1500 < p.size + szj (j + 1))(hw:p.w≤20 * p.size + 100)
  (ih:∀ (x:AtF) (p:PS),p.size + szj j≤1500→∃ v p',fU L m (kV s' o' o1' o2' o3' e') [x] [] p=some ([v],p')∧p'.size=p.size + szj j∧p'.w≤p.w + 20 * szj j)
  (ihn:∀ (x:AtF) (p:PS),p.size≤1500→1500 < p.size + szj j→p.w≤20 * p.size + 100→vw L m (kV s' o' o1' o2' o3' e') [x] [] p=true) :
  vw L (m + 1) (kV s o o1 o2 o3 (AM q a b c d nm)) [x] [] p=true:=by
 have e5:sizeE (AM q a b c d nm)=5:=rfl;simp only[szj] at hs;refine Fr (e:=AM q a b c d nm) (fun _=>vz) (tD (fU L m) L) (PA (fU L m) (vw L m) L) h0 (by rw[e5];omega) (fun hle=>?_)
 rw[e5] at hle ⊢;have hv:fp [120] (fR p)=some p.vars:=rfl;have hp:=zn p x 5;have hpw:=ub p x 5;have ho:sG (pre p x 5)=true:=by unfold sG;rw[ub,Nat.blt_eq];omega
 have hN:∀ l p',fB (bG (fR p) (de (fU L m) L (fR p) [] 60) 59) (gP (fR p) (de (fU L m) L (fR p) [] 60) (lD (fU L m) (vw L m) L (fR p) [] 60) 59) l p'=true→True:=fun _ _ _=>trivial
 have key:fB (bG (fR p) (de (fU L m) L (fR p) [] 60) 59) (gP (fR p) (de (fU L m) L (fR p) [] 60) (lD (fU L m) (vw L m) L (fR p) [] 60) 59) [.mk 13 a 0 nm false [vr b],.mk 13 c 0 nm false [vr d]] (pre p x 5)=true:=by
  have n1:gP (fR p) (de (fU L m) L (fR p) [] 60) (lD (fU L m) (vw L m) L (fR p) [] 60) 59 (.mk 13 a 0 nm false [vr b]) (pre p x 5)=vw L m (kV s' o' o1' o2' o3' e') [⟨false,0,p.vars⟩] [] (pre p x 5):=Kl hf hv 59 _ ho
  by_cases h1:1500 < p.size + 5 + szj j
  ·have:=ihn ⟨false,0,p.vars⟩ (pre p x 5) (by rw[hp];exact hle) (by rw[hp];exact h1) (by rw[hp,hpw];omega)
   rw[this] at n1;simp only[fB,n1,cond_true]
  ·obtain ⟨v1,p1,g1,s1,w1⟩:=ih ⟨false,0,p.vars⟩ (pre p x 5) (by rw[hp];omega)
   rw[hp] at s1;rw[hpw] at w1;have k1:=OZ (nd:=fU L m) (vm:=fR p) (q:=a) (r:=b) hf hv 59 (pre p x 5);rw[g1] at k1;have k1' : bG (fR p) (de (fU L m) L (fR p) [] 60) 59 (.mk 13 a 0 nm false [vr b]) (pre p x 5)=some (⟨false,0,v1⟩,p1):=k1;have o1:sG p1=true:=by unfold sG;rw[Nat.blt_eq];omega
   have n2:gP (fR p) (de (fU L m) L (fR p) [] 60) (lD (fU L m) (vw L m) L (fR p) [] 60) 59 (.mk 13 c 0 nm false [vr d]) p1=vw L m (kV s' o' o1' o2' o3' e') [⟨false,0,p.vars⟩] [] p1:=Kl hf hv 59 _ o1;rw[ihn ⟨false,0,p.vars⟩ p1 (by omega) (by omega) (by omega)] at n2
   simp only[fB,k1',n2,o1,cond_true,Bool.true_and];cases gP (fR p) (de (fU L m) L (fR p) [] 60) (lD (fU L m) (vw L m) L (fR p) [] 60) 59 (.mk 13 a 0 nm false [vr b]) (pre p x 5) <;> rfl
 exact key
theorem Py (a b:Nat):strEq [a] [b]=decide (a=b):=by
 show cond (Nat.beq a b) true false=_;cases h:Nat.beq a b with
 | true=>rw[Nat.eq_of_beq_eq_true h];simp
 | false=>have:a ≠ b:=fun e=>by rw[e,Nat.beq_refl] at h;cases h
          simp[this]
theorem qD {n i:Nat}(hi:i < n):∀ (k o:Nat),k≤n→n≤i + k→∃ o',cD [97 + i] (yg n k o)=some (gN n i o')
 | 0,o,hk,h=>by omega
 | k + 1,o,hk,h=>by
   show ∃ o',cond (strEq [97 + (n - (k + 1))] [97 + i]) (some (gN n (n - (k + 1)) o)) (cD [97 + i] (yg n k (o + (Fj n (n - (k + 1))).length)))=some (gN n i o');rw[Py]
   by_cases he:n - (k + 1)=i
   ·refine ⟨o,?_⟩;rw[he];simp
   ·have hne:¬ (97 + (n - (k + 1))=97 + i):=by omega
    simp only[hne,decide_false,cond_false];exact qD hi k _ (by omega) (by omega)
theorem qX {n i:Nat}(hi:i < n):∃ o,cD [97 + i] (nodes n)=some (gN n i o):=qD hi n 0 (Nat.le_refl _) (by omega)
theorem nc {n i o:Nat}(h:i + 1=n):gN n i o=kV [97 + i] (o + 5) (o + 7) (o + 24) (o + 36) (vr (o + 40)):=by
 unfold gN Bh;rw[if_pos h]
theorem pE {n i o:Nat}(h:i + 1 ≠ n):gN n i o=kV [97 + i] (o + 5) (o + 7) (o + 24) (o + 36) (AM (o + 45) (o + 40) (o + 42) (o + 47) (o + 49) [98 + i]):=by
 unfold gN Bh;rw[if_neg h]
theorem Nj {n:Nat}:∀ (j i o m:Nat),i + j + 1=n→j < m→∀ (x:AtF) (p:PS),p.size + szj j≤1500→∃ v p',fU (nodes n) m (gN n i o) [x] [] p=some ([v],p')∧p'.size=p.size + szj j∧p'.w≤p.w + 20 * szj j
 | 0,i,o,m,hi,hm,x,p,hs=>by
   obtain ⟨m',rfl⟩ : ∃ m',m=m' + 1:=⟨m - 1,by omega⟩
   rw[nc (by omega)]
   obtain ⟨v,p',h1,h2,h3⟩:=QT (L:=nodes n) (s:=[97 + i]) (o:=o + 5) (o1:=o + 7) (o2:=o + 24) (o3:=o + 36) (q:=o + 40) (a:=x) m' hs;exact ⟨v,p',h1,h2,by simp only[szj];omega⟩
 | j + 1,i,o,m,hi,hm,x,p,hs=>by
   obtain ⟨m',rfl⟩ : ∃ m',m=m' + 1:=⟨m - 1,by omega⟩
   rw[pE (by omega)]
   obtain ⟨o',hf⟩:=qX (n:=n) (i:=i + 1) (by omega)
   have ih:=Nj (n:=n) j (i + 1) o' m' (by omega) (by omega)
   have e98:[97 + (i + 1)]=[98 + i]:=by congr 1;omega
   rw[e98] at hf;unfold gN at hf ih;exact SO m' hf hs ih
theorem QZ {n:Nat}:∀ (j i o m:Nat),i + j + 1=n→j < m→∀ (x:AtF) (p:PS),p.size≤1500→1500 < p.size + szj j→p.w≤20 * p.size + 100→vw (nodes n) m (gN n i o) [x] [] p=true
 | 0,i,o,m,hi,hm,x,p,h0,hs,hw=>by
   obtain ⟨m',rfl⟩ : ∃ m',m=m' + 1:=⟨m - 1,by omega⟩
   rw[nc (by omega)]
   exact Q5 m' h0 hs (by omega)
 | j + 1,i,o,m,hi,hm,x,p,h0,hs,hw=>by
   obtain ⟨m',rfl⟩ : ∃ m',m=m' + 1:=⟨m - 1,by omega⟩
   rw[pE (by omega)]
   obtain ⟨o',hf⟩:=qX (n:=n) (i:=i + 1) (by omega)
   have ih:=Nj (n:=n) j (i + 1) o' m' (by omega) (by omega)
   have ihn:=QZ (n:=n) j (i + 1) o' m' (by omega) (by omega)
   have e98:[97 + (i + 1)]=[98 + i]:=by congr 1;omega
   rw[e98] at hf;unfold gN at hf ih ihn;exact SF m' hf h0 hs hw ih ihn
theorem BU {n:Nat}(h0:0 < n)(hn:n≤12)(hs:szj (n - 1)≤1500):∃ v p',tj (nodes n) [97]=some ([v],p')∧p'.size=szj (n - 1)∧p'.w + 20 < 1000000:=by
 obtain ⟨o,hf⟩:=qX (n:=n) (i:=0) h0;obtain ⟨v,p',h1,h2,h3⟩:=Nj (n:=n) (n - 1) 0 o 61 (by omega) (by omega) ⟨false,0,0⟩ ⟨1,[],0,[],[],0⟩ (by simpa using hs)
 refine ⟨v,p',?_,by simpa using h2,?_⟩
 ·unfold tj;rw[show [97]=[97 + 0] from rfl,hf]
  exact h1
 ·have:(⟨1,[],0,[],[],0⟩ : PS).w=1:=rfl;omega
theorem Bj {n:Nat}(h0:0 < n)(hn:n≤12)(hs:1500 < szj (n - 1)):jI (nodes n) [97]=true:=by
 obtain ⟨o,hf⟩:=qX (n:=n) (i:=0) h0;have h1:=QZ (n:=n) (n - 1) 0 o 61 (by omega) (by omega) ⟨false,0,0⟩ ⟨1,[],0,[],[],0⟩ (by simp) (by simpa using hs) (by simp[PS.w])
 unfold jI;rw[show [97]=[97 + 0] from rfl,hf]
 exact h1
theorem gOk_db {n:Nat}(h0:Nat.blt 0 n=true)(hn:Nat.ble n 12=true)(hz:sz n=szj (n - 1))(hs:Nat.ble (szj (n - 1)) 1500=true):mL n=true:=by
 obtain ⟨v,p',h1,h2,h3⟩:=BU (by simpa using h0) (Nat.le_of_ble_eq_true hn) (Nat.le_of_ble_eq_true hs)
 unfold mL;rw[h1];simp only[];rw[h2,hz,Nat.beq_refl,Bool.true_and,Nat.blt_eq];exact h3
theorem gN_db {n:Nat}(h0:Nat.blt 0 n=true)(hn:Nat.ble n 12=true)(hs:Nat.ble 1501 (szj (n - 1))=true):jI (nodes n) [97]=true :=
 Bj (by simpa using h0) (Nat.le_of_ble_eq_true hn) (Nat.le_of_ble_eq_true hs)
end Db
end Go.Proofs
