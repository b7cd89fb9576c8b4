/- the words of a text. Part of the proof of girandolelaw08.FlatDoubles. -/
import Derived.Test.YtglacbfdbfhmfaaDoorCur
set_option linter.unusedVariables false
set_option linter.unusedSimpArgs false
set_option maxRecDepth 1000000
namespace Go.Proofs
open Go Go.Abs
theorem aH {M:Memo}{f:FuncId}{z:FZ}{args:List AV}{H:Heap}{r:CRes}(hM:M f args=none)(hz:hZ tab f=some z)(hl:Nat.ble (aa args) 512=true)
  (hx:j0 CC f (aa H) z (z.sh (orc CC M) (envOf args 0 env0) [] { heap:=H,esc:=aa H })=some r):orc CC M f args H=some r:=by
 refine f8 cc_mask (T:=hZ tab) tab_ok hM ?_;rw[hz];show cond (Nat.ble (aa args) 512) _ none=_;rw[hl];exact hx
theorem cc9:CC.P.underlying 9=some .string:=by kernel_rfl
theorem cE (s:List Nat):bF CC 9 (.str s)=some (.int .i64 (s.length:Int)):=by rw[eo];simp[eY,cc9]
theorem mZ {s:List Nat}{i b:Nat}(h:s[i]?=some b):dl CC 9 (.str s) (.int .i64 (i:Int))=some (.int .u8 (b:Int)):=by
 simp[dl,cT,cc9,h]
theorem xF {s:List Nat}{i:Nat}(h:i≤s.length):bq CC 9 (.str s) (some (.int .i64 (i:Int))) none none=some (.str (s.drop i)):=by
 simp[bq,cg,cT,cc9,h]
theorem P3 {s:List Nat}{i:Nat}(h:i≤s.length):bq CC 9 (.str s) none (some (.int .i64 (i:Int))) none=some (.str (s.take i)):=by
 simp[bq,cg,cT,cc9,h]
theorem Ib {s:List Nat}{i j:Nat}(h:i≤j)(hj:j≤s.length):bq CC 9 (.str s) (some (.int .i64 (i:Int))) (some (.int .i64 (j:Int))) none=some (.str ((s.take j).drop i)):=by
 simp[bq,cg,cT,cc9,h,hj]
def HX (b:Nat):Bool:=(Nat.ble 97 b && Nat.ble b 122) || ((Nat.ble 65 b && Nat.ble b 90) || Nat.beq b 95)
def isD (b:Nat):Bool:=Nat.ble 48 b && Nat.ble b 57
theorem ci (a b:Nat):decide ((a:Int)≤(b:Int))=Nat.ble a b:=by rw[dE];simp
theorem vf (a b:Nat):decide ((a:Int)=(b:Int))=Nat.beq a b:=by rw[kj,Bool.eq_iff_iff];simp;omega
theorem qc {M:Memo}(hM:∀ a,M 54 a=none)(b:Nat)(H:Heap):orc CC M 54 [.int .u8 (b:Int)] H=some (.ret (.bool (HX b)) H (aa H)):=by
 refine aH (z:=z54) (hM _) (by kernel_rfl) rfl ?_
 have e0:(envOf [.int .u8 (b:Int)] 0 env0).a.a.a=.int .u8 (b:Int):=rfl;generalize envOf [.int .u8 (b:Int)] 0 env0=R at e0;have h1:decide ((97:Int)≤(b:Int))=Nat.ble 97 b:=ci 97 b;have h2:decide ((b:Int)≤122)=Nat.ble b 122:=ci b 122;have h3:decide ((65:Int)≤(b:Int))=Nat.ble 65 b:=ci 65 b;have h4:decide ((b:Int)≤90)=Nat.ble b 90:=ci b 90;have h5:decide ((b:Int)=95)=Nat.beq b 95:=vf b 95;unfold HX
 cases c1:Nat.ble 97 b <;> cases c2:Nat.ble b 122 <;> cases c3:Nat.ble 65 b <;> cases c4:Nat.ble b 90 <;> cases c5:Nat.beq b 95 <;>
  rw[c1] at h1 <;> rw[c2] at h2 <;> rw[c3] at h3 <;> rw[c4] at h4 <;> rw[c5] at h5 <;>
  simp only[z54,Na,J6,SIM,ST0,e0,h1,h2,h3,h4,h5,Bool.or_false]
theorem pf {M:Memo}(hM:∀ a,M 56 a=none)(b:Nat)(H:Heap):orc CC M 56 [.int .u8 (b:Int)] H=some (.ret (.bool (isD b)) H (aa H)):=by
 refine aH (z:=z56) (hM _) (by kernel_rfl) rfl ?_
 have e0:(envOf [.int .u8 (b:Int)] 0 env0).a.a.a=.int .u8 (b:Int):=rfl;generalize envOf [.int .u8 (b:Int)] 0 env0=R at e0;have h1:decide ((48:Int)≤(b:Int))=Nat.ble 48 b:=ci 48 b;have h2:decide ((b:Int)≤57)=Nat.ble b 57:=ci b 57;unfold isD
 cases c1:Nat.ble 48 b <;> cases c2:Nat.ble b 57 <;>
  rw[c1] at h1 <;> rw[c2] at h2 <;>
  simp only[z56,JY,M4,SIM,ST0,e0,h1,h2,Bool.or_false]
theorem Aa {M:Memo}(hM:∀ a,M 54 a=none)(hM' : ∀ a,M 56 a=none)(hM2:∀ a,M 69 a=none)(b:Nat)(H:Heap):orc CC M 69 [.int .u8 (b:Int)] H=some (.ret (.bool (HX b || isD b)) H (aa H)):=by
 refine aH (z:=z69) (hM2 _) (by kernel_rfl) rfl ?_
 have e0:(envOf [.int .u8 (b:Int)] 0 env0).a.a.a=.int .u8 (b:Int):=rfl;generalize envOf [.int .u8 (b:Int)] 0 env0=R at e0;have h1:=qc hM b H;have h2:=pf hM' b H
 cases c1:HX b <;> cases c2:isD b <;> rw[c1] at h1 <;> rw[c2] at h2 <;>
  simp only[z69,M8,L8,SIM,ST0,e0,h1,h2,Bool.or_false]
theorem sW {M:Memo}(hM:∀ a,M 52 a=none)(hM' : ∀ a,M 66 a=none){b:Nat}(hb:b < 256)(t:List Nat)(H:Heap):orc CC M 52 [.str t,.int .u8 (b:Int)] H=some (.ret (.int .i64 (indexByte b t 0)) H (aa H)):=by
 have h1:orc CC M 66 [.str t,.int .u8 (b:Int)] H=some (.ret (.int .i64 (indexByte b t 0)) H (aa H)):=by
  refine aH (z:=z66) (hM' _) (by kernel_rfl) rfl ?_
  have e0:(envOf [.str t,.int .u8 (b:Int)] 0 env0).a.a.a=.str t:=rfl;have e1:(envOf [.str t,.int .u8 (b:Int)] 0 env0).a.a.b=.int .u8 (b:Int):=rfl;generalize envOf [.str t,.int .u8 (b:Int)] 0 env0=R at e0 e1;simp only[z66,Kw,Mz,SIM,ST0,e0,e1,R9 hb]
 refine aH (z:=z52) (hM _) (by kernel_rfl) rfl ?_
 have e0:(envOf [.str t,.int .u8 (b:Int)] 0 env0).a.a.a=.str t:=rfl;have e1:(envOf [.str t,.int .u8 (b:Int)] 0 env0).a.a.b=.int .u8 (b:Int):=rfl;generalize envOf [.str t,.int .u8 (b:Int)] 0 env0=R at e0 e1;simp only[z52,JA,MW,SIM,ST0,e0,e1,h1]
def isPre:List Nat→List Nat→Bool
 | [],_=>true
 | _ :: _,[]=>false
 | a :: r,b :: s=>cond (Nat.beq a b) (isPre r s) false
theorem isPre_eq:∀ (p s:List Nat),isPre p s=(decide (p.length≤s.length) && strEq (s.take p.length) p)
 | [],s=>by simp[isPre,strEq]
 | a :: r,[]=>by simp[isPre]
 | a :: r,b :: s=>by
   simp only[isPre,isPre_eq r s,List.length_cons,List.take_succ_cons,strEq];have h1:decide (r.length + 1≤s.length + 1)=decide (r.length≤s.length):=by simp
   rw[h1,kj,kj]
   by_cases h:a=b
   ·simp[h]
   ·simp[h,Ne.symm h]
theorem yY {M:Memo}(hM:∀ a,M 53 a=none)(hM' : ∀ a,M 67 a=none)(s p:List Nat)(H:Heap):orc CC M 53 [.str s,.str p] H=some (.ret (.bool (isPre p s)) H (aa H)):=by
 have h1:orc CC M 67 [.str s,.str p] H=some (.ret (.bool (isPre p s)) H (aa H)):=by
  refine aH (z:=z67) (hM' _) (by kernel_rfl) rfl ?_
  have e0:(envOf [.str s,.str p] 0 env0).a.a.a=.str s:=rfl;have e1:(envOf [.str s,.str p] 0 env0).a.a.b=.str p:=rfl;generalize envOf [.str s,.str p] 0 env0=R at e0 e1;rw[isPre_eq]
  by_cases hl:p.length≤s.length
  ·have h2:decide ((p.length:Int)≤(s.length:Int))=true:=by simp[hl]
   have h3:=P3 hl;simp only[z67,GG,GL,SIM,ST0,e0,e1,cE,h2,h3,hl]
  ·have h2:decide ((p.length:Int)≤(s.length:Int))=false:=by simp;omega
   simp only[z67,GG,GL,SIM,ST0,e0,e1,cE,h2,hl]
 refine aH (z:=z53) (hM _) (by kernel_rfl) rfl ?_
 have e0:(envOf [.str s,.str p] 0 env0).a.a.a=.str s:=rfl;have e1:(envOf [.str s,.str p] 0 env0).a.a.b=.str p:=rfl;generalize envOf [.str s,.str p] 0 env0=R at e0 e1;simp only[z53,KD,MO,SIM,ST0,e0,e1,h1]
abbrev dO (s:List Nat)(i:Nat):AObj:=.cells [.str s,.int .i64 (i:Int)]
theorem eB {α:Type}{l:List α}{n:Nat}{o:α}(h:af l n=some o):ai l n o=l:=by
 have hl:=bm h;rw[aD] at h;rw[aN];apply List.ext_getElem?;intro i;rw[List.getElem?_set]
 by_cases hi:n=i
 ·subst hi;simp only[if_true,hl,h]
 ·simp[hi]
theorem rx {s:List Nat}{j:Nat}(h:j < s.length):s.drop j=s[j] :: s.drop (j + 1):=List.drop_eq_getElem_cons h
theorem tb1:Nat.testBit 2097151 19=true:=by decide
theorem tb2:Nat.testBit 2097151 15=true:=by decide
theorem tb3:Nat.testBit 2097151 7=true:=by decide
theorem tb4:Nat.testBit 2097151 3=true:=by decide
theorem Ck {M:Memo}{g:Nat}{fv:AV}{p:Nat→Bool}(hcv:∀ x s,cM CC fv [x] s=some (.call g [x]))(hg:∀ (b:Nat) H,orc CC M g [.int .u8 (b:Int)] H=some (.ret (.bool (p b)) H (aa H)))
  {s:List Nat} (hs:s.length≤4000) {n:Nat}:∀ (d j:Nat),d + j=s.length→∀ (fu:Nat),d < fu→∀ (r:RG) (H:Heap),r.a.a.a=.ptr n 0→r.a.a.b=fv→af H n=some (dO s j)→∀ e,min e (aa H)=e →
  ∃ r',aw (uw (orc CC M)) fu r [] ⟨H,e⟩=some (.exit 0,r',[],⟨ai H n (dO s (j + ((s.drop j).takeWhile p).length)),e⟩)∧r'.a.a.a=.ptr n 0∧r'.a.a.f=r.a.a.f:=by
 intro d
 induction d with
 | zero =>
   intro j hj fu hfu r H h1 h2 hg' e he;obtain ⟨fu',rfl⟩ : ∃ f,fu=f + 1:=⟨fu - 1,by omega⟩
   have hjl:j=s.length:=by omega
   subst hjl;have hc:decide ((s.length:Int) < (s.length:Int))=false:=by simp
   have hw:((s.drop s.length).takeWhile p).length=0:=by simp
   rw[hw];simp only[aw,uw,yx,SIM,ST0,ST1,h1,h2,hg',cE,hc,eB hg'];exact ⟨_,rfl,h1,rfl⟩
 | succ d ih =>
   intro j hj fu hfu r H h1 h2 hg' e he;obtain ⟨fu',rfl⟩ : ∃ f,fu=f + 1:=⟨fu - 1,by omega⟩
   have hlt:j < s.length:=by omega
   have hc:decide ((j:Int) < (s.length:Int))=true:=by simp;omega
   have hidx:=mZ (s:=s) (i:=j) (b:=s[j]) (by simp[hlt])
   have ha:cQ (j:Int) 1=((j + 1:Nat):Int):=bA j 1 (by unfold natMax;omega)
   rw[rx hlt];have hpb:=hg s[j];cases hp:p s[j] with
   | false =>
     rw[hp] at hpb;have hw:((s[j] :: s.drop (j + 1)).takeWhile p).length=0:=by simp only[List.takeWhile_cons,hp,if_true,if_false,Bool.false_eq_true,List.length_cons,List.length_nil]
     rw[hw];simp only[aw,uw,yx,SIM,ST0,ST1,h1,h2,hg',cE,hc,hidx,hcv,hpb,he,tb1,tb2,tb3,tb4,eB hg'];exact ⟨_,rfl,h1,rfl⟩
   | true =>
     rw[hp] at hpb;have hw:((s[j] :: s.drop (j + 1)).takeWhile p).length=((s.drop (j + 1)).takeWhile p).length + 1:=by simp only[List.takeWhile_cons,hp,if_true,if_false,Bool.false_eq_true,List.length_cons,List.length_nil]
     rw[hw];simp only[aw,uw,yx,MN,SIM,ST0,ST1,h1,h2,hg',cE,hc,hidx,hcv,hpb,he,tb1,tb2,tb3,tb4,ha];have key:=fun r h1 h2=>ih (j + 1) (by omega) fu' (by omega) r (ai H n (dO s (j + 1))) h1 h2 (aK hg' _) e (by rw[ak];exact he)
     simp only[dX,show j + 1 + ((s.drop (j + 1)).takeWhile p).length=j + (((s.drop (j + 1)).takeWhile p).length + 1) by omega] at key
     refine key _ ?_ ?_
     ·first | exact h1 | rfl
     ·first | exact h2 | rfl
theorem F9 {M:Memo}(hM:∀ a,M 68 a=none){g:Nat}{fv:AV}{p:Nat→Bool}(hcv:∀ x s,cM CC fv [x] s=some (.call g [x]))(hg:∀ (b:Nat) H,orc CC M g [.int .u8 (b:Int)] H=some (.ret (.bool (p b)) H (aa H)))
  {s:List Nat} (hs:s.length≤4000) {n j:Nat} (hj:j≤s.length) {H:Heap} (hn:af H n=some (dO s j)) :
  orc CC M 68 [.ptr n 0,fv] H=some (.ret (.str ((s.drop j).takeWhile p)) (ai H n (dO s (j + ((s.drop j).takeWhile p).length))) (aa H)):=by
 refine aH (z:=z68) (hM _) (by kernel_rfl) rfl ?_
 have e0:(envOf [.ptr n 0,fv] 0 env0).a.a.a=.ptr n 0:=rfl;have e1:(envOf [.ptr n 0,fv] 0 env0).a.a.b=fv:=rfl;generalize envOf [.ptr n 0,fv] 0 env0=R at e0 e1
 obtain ⟨f,hf⟩:=sk (P:=fun r=>r.a.a.a=.ptr n 0∧r.a.a.b=fv)
  fun r hr=>Ck (M:=M) hcv hg hs (s.length - j) j (by omega) 100000 (by omega) r H hr.1 hr.2 hn (aa H) (Nat.min_self _)
 have hf1:=fun r h=>(hf r h).1
 have hf2:=fun r h=>(hf r h).2.1
 have hf3:=fun r h=>(hf r h).2.2
 clear hf
 have hk:((s.drop j).takeWhile p).length≤s.length - j:=by
  have:=(List.takeWhile_sublist p (l:=s.drop j)).length_le;simpa using this
 have hp:=Ib (s:=s) (i:=j) (j:=j + ((s.drop j).takeWhile p).length) (by omega) (by omega)
 have ht:(s.take (j + ((s.drop j).takeWhile p).length)).drop j=(s.drop j).takeWhile p:=by
  rw[List.drop_take,Nat.add_sub_cancel_left];have:=List.takeWhile_prefix p (l:=s.drop j);exact (List.prefix_iff_eq_take.1 this).symm
 rw[ht] at hp;simp only[z68,KA,K8,Mb,SIM,ST0,e0,e1,hn,hf1,hf2,hf3,and_self,aK hn,hp]
theorem AC {M:Memo}{t:List Nat}{ts:List AV}{l:Lin}(hts:ts.length < 1000):∀ (d j:Nat),d + j=ts.length→∀ (fu:Nat),d < fu→∀ (r:RG) (b:Bool),
  r.a.a.f=.sl 1 ts l→r.a.a.g=.int .i64 (ts.length:Int)→r.a.a.h=.int .i64 (j:Int)→r.a.a.a=.str t→jE t (ts.drop j)=some b→∀ s,
  ∃ r',aw (tU (orc CC M)) fu r [] s=some (cond b .ret (.exit 0),r',[],s)∧(b=true→r'.a.a.c=.bool b):=by
 intro d
 induction d with
 | zero =>
   intro j hj fu hfu r b h1 h2 h3 h4 hb s;obtain ⟨fu',rfl⟩ : ∃ f,fu=f + 1:=⟨fu - 1,by omega⟩
   have hjl:j=ts.length:=by omega
   subst hjl;rw[List.drop_length] at hb;simp only[jE,SJ] at hb;subst hb;simp only[aw,tU,yA,SIM,ST0,h2,h3,Int.lt_irrefl];exact ⟨_,rfl,fun h=>by cases h⟩
 | succ d ih =>
   intro j hj fu hfu r b h1 h2 h3 h4 hb e;obtain ⟨fu',rfl⟩ : ∃ f,fu=f + 1:=⟨fu - 1,by omega⟩
   have hlt:j < ts.length:=by omega
   have hd:ts.drop j=ts[j] :: ts.drop (j + 1):=List.drop_eq_getElem_cons hlt;rw[hd] at hb;cases hv:ts[j] with
   | str s =>
     rw[hv] at hb;simp only[jE] at hb;have hi:af ts j=some (.str s):=by rw[aD,List.getElem?_eq_getElem hlt,hv]
     have hc:decide ((j:Int) < (ts.length:Int))=true:=by simp;omega
     have ha:cQ (j:Int) 1=((j + 1:Nat):Int):=bA j 1 (by unfold natMax;omega)
     cases hs:strEq s t with
     | true =>
       rw[hs] at hb;simp only[cond_true,SJ] at hb;subst hb;simp only[aw,tU,yA,Fu,AY,GJ,ES,SIM,ST0,h1,h2,h3,h4,hc,da (sz:=1) (lin:=l) hi,hs];exact ⟨_,rfl,fun _=>rfl⟩
     | false =>
       rw[hs] at hb;simp only[cond_false] at hb;simp only[aw,tU,yA,Fu,AY,GJ,ES,SIM,ST0,h1,h2,h3,h4,hc,da (sz:=1) (lin:=l) hi,hs,ha];exact ih (j + 1) (by omega) fu' (by omega) _ b rfl rfl rfl rfl hb e
   | _=>rw[hv] at hb;simp[jE] at hb
theorem IF {M:Memo}(hM:∀ a,M 70 a=none){ts:List AV}(hW:M 77 []=some (.sl 1 ts .dead))(hts:ts.length < 1000){t:List Nat}{b:Bool}(hb:jE t ts=some b)(H:Heap) :
  orc CC M 70 [.str t] H=some (.ret (.bool b) H (aa H)):=by
 refine aH (z:=z70) (hM _) (by kernel_rfl) rfl ?_
 have e0:(envOf [.str t] 0 env0).a.a.a=.str t:=rfl;generalize envOf [.str t] 0 env0=R at e0;have hw:=fun h=>gR (C:=CC) (h:=h) hW
 simp only[← aj] at hw
 obtain ⟨f,hf⟩:=sk (P:=fun r=>r.a.a.f=.sl 1 ts .dead∧r.a.a.g=.int .i64 (ts.length:Int)∧r.a.a.h=.int .i64 0∧r.a.a.a=.str t)
  fun r hr=>AC (M:=M) hts ts.length 0 (by omega) 100000 (by omega) r b hr.1 hr.2.1 hr.2.2.1 hr.2.2.2 hb ⟨H,aa H⟩
 have hf1:=fun r h=>(hf r h).1
 have hf2:=fun r h=>(hf r h).2
 clear hf
 cases b <;>
  simp only[z70,L9,LA,JT,SIM,ST0,e0,hw,dB cc26,hf1,hf2,and_self]
theorem rt (a b:Int):ao CC 50 [(0,.int .i64 a),(1,.int .i64 b)]=some (ev a b [] 0):=by kernel_rfl
theorem bt65_0:ao CC 50 []=some (ev 0 0 [] 0):=by kernel_rfl
theorem OC (a b:Int)(t:List Nat):ao CC 50 [(0,.int .i64 a),(1,.int .i64 b),(2,.str t)]=some (ev a b t 0):=by kernel_rfl
theorem PX (x:AV)(s:St):cM CC (.func (.func 69) [] []) [x] s=some (.call 69 [x]):=by kernel_rfl
theorem Qf (x:AV)(s:St):cM CC (.func (.func 56) [] []) [x] s=some (.call 56 [x]):=by kernel_rfl
structure LexM (M:Memo)(ts ss:List AV):Prop where
 m72:∀ a,M 38 a=none
 m73:∀ a,M 39 a=none
 m104:∀ a,M 52 a=none
 m105:∀ a,M 53 a=none
 m106:∀ a,M 54 a=none
 m107:∀ a,M 55 a=none
 m108:∀ a,M 56 a=none
 m109:∀ a,M 57 a=none
 m110:∀ a,M 58 a=none
 m140:∀ a,M 66 a=none
 m141:∀ a,M 67 a=none
 m142:∀ a,M 68 a=none
 m143:∀ a,M 69 a=none
 m144:∀ a,M 70 a=none
 w:M 77 []=some (.sl 1 ts .dead)
 wl:ts.length < 1000
 s:M 71 []=some (.sl 1 ss .dead)
 sl:ss.length < 1000
def jY (b:Nat):Bool:=HX b || isD b
theorem Ba {M:Memo}{ts ss:List AV}(m:LexM M ts ss){s:List Nat}(hs:s.length≤4000){n j:Nat}(hj:j≤s.length){H:Heap}(hn:af H n=some (dO s j)){b:Bool}(hb:jE ((s.drop j).takeWhile jY) ts=some b) :
  orc CC M 55 [.ptr n 0] H=some (.ret (cond b (.tuple [ev 3 j ((s.drop j).takeWhile jY) 0,.int .i64 0]) (cond (decide (((s.drop j).takeWhile jY).length≤30)) (.tuple [ev 1 j ((s.drop j).takeWhile jY) 0,.int .i64 0]) (.tuple [ev 0 0 [] 0,.int .i64 3])))
   (ai H n (dO s (j + ((s.drop j).takeWhile jY).length))) (aa H)):=by
 refine aH (z:=z55) (m.m107 _) (by kernel_rfl) rfl ?_
 have e0:(envOf [.ptr n 0] 0 env0).a.a.a=.ptr n 0:=rfl;generalize envOf [.ptr n 0] 0 env0=R at e0;have hr:=fun L=>F9 m.m142 (p:=jY) PX (fun b H=>Aa m.m106 m.m108 m.m143 b H) hs hj (H:=H ++ L) (ar hn L)
 have hk:=IF m.m144 m.w m.wl hb
 have hlen:decide ((30:Int) < (((s.drop j).takeWhile jY).length:Int))=!decide (((s.drop j).takeWhile jY).length≤30):=by
  rw[Bool.eq_iff_iff];simp;omega
 generalize (s.drop j).takeWhile jY=t at hr hk hlen;cases b with
 | true=>simp only[z55,FH,Gm,Fv,CO,Da,Ct,Fx,Bt,SIM,ST0,e0,ar hn,bR hn,rt,bt65_0,hr,hk,Nat.reduceAdd,Nat.reduceLeDiff,cE]
 | false =>
   cases hl:decide (t.length≤30) <;> rw[hl] at hlen <;>
   simp only[z55,FH,Gm,Fv,CO,Da,Ct,Fx,Bt,SIM,ST0,e0,ar hn,bR hn,rt,bt65_0,hr,hk,Nat.reduceAdd,Nat.reduceLeDiff,cE,hlen]
def iY (t:List Nat):List AV→Option (Option (List Nat))
 | []=>some none
 | .str s :: r=>cond (isPre s t) (some (some s)) (iY t r)
 | _=>none
theorem isPre_len:∀ (p s:List Nat),isPre p s=true→p.length≤s.length:=by
 intro p s h;rw[isPre_eq,Bool.and_eq_true,decide_eq_true_eq] at h;exact h.1
def Eu (j:Nat):Option (List Nat)→AV
 | none=>.tuple [ev 0 0 [] 0,.int .i64 1]
 | some t=>.tuple [ev 4 j t 0,.int .i64 0]
def pI (j:Nat):Option (List Nat)→Nat
 | none=>j
 | some t=>j + t.length
def SB (j:Nat):Option (List Nat)→AExit
 | none=>.exit 0
 | some _=>.ret
def PB (j:Nat):Option (List Nat)→AObj
 | none=>.cells [.int .i64 0,.int .i64 0,.str [],.int .u64 0]
 | some t=>.cells [.int .i64 4,.int .i64 j,.str t,.int .u64 0]
theorem CM (i j:Nat)(h:i + j≤natMax):gG ((i + j:Nat):Int) (j:Int)=(i:Int):=by
 rw[rE,show ((i + j:Nat):Int) - (j:Int)=((i:Nat):Int) by omega]
 exact f7 (by omega)
theorem AA {M:Memo}{ts ss:List AV}(m:LexM M ts ss){s:List Nat}(hs:s.length≤4000){n j:Nat}(hj:j≤s.length){H:Heap}(hn:af H n=some (dO s j)):∀ (d i:Nat),d + i=ss.length→∀ (fu:Nat),d < fu→∀ (r:RG) (x:Option (List Nat)),
  r.a.a.a=.ptr n 0→r.a.a.g=.sl 1 ss .dead→r.a.a.h=.int .i64 (ss.length:Int)→r.a.b.a=.int .i64 (i:Int)→r.a.a.c=.ptr (aa H) 0→iY (s.drop j) (ss.drop i)=some x →
  ∃ r',aw (tf (orc CC M)) fu r [] ⟨H ++ [PB j none],aa H⟩=some (SB j x,r',[],⟨ai H n (dO s (pI j x)) ++ [PB j x],aa H⟩)∧r'.a.a.c=.ptr (aa H) 0∧(x.isSome=true→r'.a.a.d=.int .i64 0):=by
 intro d
 induction d with
 | zero =>
   intro i hi fu hfu r x h0 h1 h2 h3 h4 hx;obtain ⟨fu',rfl⟩ : ∃ f,fu=f + 1:=⟨fu - 1,by omega⟩
   have hil:i=ss.length:=by omega
   subst hil;rw[List.drop_length] at hx;simp only[iY,SJ] at hx;subst hx;simp only[aw,tf,yV,SIM,ST0,h2,h3,Int.lt_irrefl,SB,PB,pI,eB hn];exact ⟨_,rfl,h4,fun h=>by cases h⟩
 | succ d ih =>
   intro i hi fu hfu r x h0 h1 h2 h3 h4 hx;obtain ⟨fu',rfl⟩ : ∃ f,fu=f + 1:=⟨fu - 1,by omega⟩
   have hlt:i < ss.length:=by omega
   have hd:ss.drop i=ss[i] :: ss.drop (i + 1):=List.drop_eq_getElem_cons hlt;rw[hd] at hx;have hsl:=m.sl;cases hv:ss[i] with
   | str w =>
     rw[hv] at hx;simp only[iY] at hx;have hi' : af ss i=some (.str w):=by rw[aD,List.getElem?_eq_getElem hlt,hv]
     have hc:decide ((i:Int) < (ss.length:Int))=true:=by simp;omega
     have ha:cQ (i:Int) 1=((i + 1:Nat):Int):=bA i 1 (by unfold natMax;omega)
     have hf:=xF (s:=s) hj;have hp:=yY m.m105 m.m141 (s.drop j) w;cases hs' : isPre w (s.drop j) with
     | true =>
       rw[hs'] at hx hp;simp only[cond_true,SJ] at hx;subst hx
       have hwl:w.length≤4000:=by
        have:=isPre_len _ _ hs';simp at this;omega
       have ha2:cQ (j:Int) (w.length:Int)=((j + w.length:Nat):Int):=bA j w.length (by unfold natMax;omega)
       have ha3:gG ((j + w.length:Nat):Int) (w.length:Int)=(j:Int):=CM j w.length (by unfold natMax;omega)
       simp only[aw,tf,yV,DA,Dd,B6,Bu,B0,SIM,ST0,h0,h1,h2,h3,h4,hc,da (sz:=1) (lin:=.dead) hi',hp,ar hn,bR hn,ar (aK hn _),hf,cE,ha2,ha3,OC,SB,PB,pI,Nat.reduceAdd,Nat.reduceLeDiff];exact ⟨_,rfl,rfl,fun _=>rfl⟩
     | false =>
       rw[hs'] at hx hp;simp only[cond_false] at hx;simp only[aw,tf,yV,DA,Dd,B6,Bu,B0,SIM,ST0,h0,h1,h2,h3,h4,hc,da (sz:=1) (lin:=.dead) hi',hp,ar hn,hf,ha,PB];exact ih (i + 1) (by omega) fu' (by omega) _ x rfl rfl rfl rfl rfl hx
   | _=>rw[hv] at hx;simp[iY] at hx
theorem GR {M:Memo}{ts ss:List AV}(m:LexM M ts ss){s:List Nat}(hs:s.length≤4000){n j:Nat}(hj:j≤s.length){H:Heap}(hn:af H n=some (dO s j)){x:Option (List Nat)}(hx:iY (s.drop j) ss=some x) :
  orc CC M 58 [.ptr n 0] H=some (.ret (Eu j x) (ai H n (dO s (pI j x))) (aa H)):=by
 refine aH (z:=z58) (m.m110 _) (by kernel_rfl) rfl ?_
 have e0:(envOf [.ptr n 0] 0 env0).a.a.a=.ptr n 0:=rfl;generalize envOf [.ptr n 0] 0 env0=R at e0;have hw:=fun h=>gR (C:=CC) (h:=h) m.s
 simp only[← aj] at hw
 obtain ⟨f,hf⟩:=sk (P:=fun r=>r.a.a.a=.ptr n 0∧r.a.a.g=.sl 1 ss .dead∧r.a.a.h=.int .i64 (ss.length:Int)∧r.a.b.a=.int .i64 0∧r.a.a.c=.ptr (aa H) 0)
  fun r hr=>AA m hs hj hn ss.length 0 (by omega) 100000 (by have:=m.sl;omega) r x hr.1 hr.2.1 hr.2.2.1 hr.2.2.2.1 hr.2.2.2.2 hx
 have hf1:=fun r h=>(hf r h).1
 have hf2:=fun r h=>(hf r h).2.1
 have hf3:=fun r h=>(hf r h).2.2
 clear hf
 cases x <;> simp only[PB,SB,Option.isSome] at hf1 hf3 <;>
  simp only[z58,Mt,L5,LT,SIM,ST0,e0,hw,dB cc26,hf1,hf2,hf3,and_self,bt65_0,Eu,pI,Nat.reduceAdd,Nat.reduceLeDiff]
def iS (s:List Nat):List AV:=s.map fun (b:Nat)=>.int .u8 b
theorem CX {s:List Nat}(h:s.length≤4000):bO CC 9 23 (.str s)=some (.sl 1 (iS s) .frz):=by
 have h1:CC.P.underlying 23=some (.slice 5):=by kernel_rfl
 have h2:An CC 5=true:=by kernel_rfl
 have h3:s.length≤2 ^ 40:=by omega
 simp[bO,cc9,h1,h2,h3,iS]
theorem cc24:CC.P.underlying 23=some (.slice 5):=by kernel_rfl
theorem zL {s:List Nat}{i b:Nat}(h:s[i]?=some b):af (iS s) i=some (.int .u8 (b:Int)):=by
 rw[aD];simp[iS,h]
theorem NR {n:Nat}(h:n < 256):IntKind.wrap .u8 (n:Int)=(n:Int):=by
 simp[IntKind.wrap,IntKind.bits,IntKind.signed];omega
theorem kZ {n:Nat}(h:n < 18446744073709551616):IntKind.wrap .u64 (n:Int)=(n:Int):=by
 simp[IntKind.wrap,IntKind.bits,IntKind.signed];omega
theorem NC {b:Nat}(h:48≤b)(h2:b < 256):cB CC .sub 5 true (.int .u8 (b:Int)) (.int .u8 48)=some (.int .u8 ((b - 48:Nat):Int)):=by
 show some (AV.int .u8 (IntKind.wrap .u8 ((b:Int) - 48)))=_;rw[show (b:Int) - 48=((b - 48:Nat):Int) by omega,NR (by omega)]
theorem NG {b:Nat}(h:b < 256):bO CC 5 48 (.int .u8 (b:Int))=some (.int .u64 (b:Int)):=by
 have h1:CC.P.underlying 5=some (.int .u8):=by kernel_rfl
 have h2:CC.P.underlying 48=some (.int .u64):=by kernel_rfl
 simp only[bO,h1,h2];rw[kZ (by omega)]
theorem NN {d:Nat}(h:d≤9):cB CC .sub 48 true (.int .u64 9223372036854775808) (.int .u64 (d:Int))=some (.int .u64 ((9223372036854775808 - d:Nat):Int)):=by
 show some (AV.int .u64 (IntKind.wrap .u64 ((9223372036854775808:Int) - d)))=_;rw[show (9223372036854775808:Int) - d=((9223372036854775808 - d:Nat):Int) by omega,kZ (by omega)]
theorem Pg {x:Nat}(h:x < 18446744073709551616):cB CC .quo 48 true (.int .u64 (x:Int)) (.int .u64 10)=some (.int .u64 ((x / 10:Nat):Int)):=by
 show (if (10:Int)=0 then none else some (AV.int .u64 (IntKind.wrap .u64 ((x:Int).tdiv 10))))=_
 rw[if_neg (by decide),show ((x:Int).tdiv 10)=((x / 10:Nat):Int) by rw[Int.tdiv_eq_ediv_of_nonneg (by omega)];omega,kZ (by omega)]
theorem NA (x y:Nat):cB CC .gtr 48 false (.int .u64 (x:Int)) (.int .u64 (y:Int))=some (.bool (decide (y < x))):=by
 show some (AV.bool (decide ((x:Int) > y)))=_;simp
theorem O3 {x:Nat}(h:x≤922337203685477580):cB CC .mul 48 true (.int .u64 10) (.int .u64 (x:Int))=some (.int .u64 ((10 * x:Nat):Int)):=by
 show some (AV.int .u64 (IntKind.wrap .u64 ((10:Int) * x)))=_;rw[show (10:Int) * x=((10 * x:Nat):Int) by omega,kZ (by omega)]
theorem Pc {x y:Nat}(h:x + y < 18446744073709551616):cB CC .add 48 false (.int .u64 (x:Int)) (.int .u64 (y:Int))=some (.int .u64 ((x + y:Nat):Int)):=by
 show some (AV.int .u64 (IntKind.wrap .u64 ((x:Int) + y)))=_;rw[show (x:Int) + y=((x + y:Nat):Int) by omega,kZ h]
def numS:Nat→List Nat→Option Nat
 | acc,[]=>some acc
 | acc,b :: r=>cond (Nat.ble acc ((9223372036854775808 - (b - 48)) / 10)) (numS (10 * acc + (b - 48)) r) none
def numA:Nat→List Nat→Nat
 | acc,[]=>acc
 | acc,b :: r=>cond (Nat.ble acc ((9223372036854775808 - (b - 48)) / 10)) (numA (10 * acc + (b - 48)) r) acc
theorem numA_eq:∀ (l:List Nat) (acc v:Nat),numS acc l=some v→numA acc l=v
 | [],acc,v,h=>by simp only[numS,SJ] at h;exact h
 | b :: r,acc,v,h=>by
   simp only[numS,numA] at h ⊢;cases hq:Nat.ble acc ((9223372036854775808 - (b - 48)) / 10) with
   | true=>rw[hq] at h;exact numA_eq r _ v h
   | false=>rw[hq] at h;cases h
def nmX:Option Nat→AExit
 | none=>.ret
 | some _=>.exit 0
structure NumI (H:Heap)(t:List Nat)(i:Nat)(r:RG):Prop where
 a3:r.a.a.c=.ptr (aa H) 0
 a4:r.a.a.e=.ptr (aa H + 1) 0
 l:r.a.d.f=.sl 1 (iS t) .frz
 g:r.a.d.g=.int .i64 (t.length:Int)
 h:r.a.d.h=.int .i64 (i:Int)
def PG (H:Heap)(j:Nat)(t:List Nat)(acc:Nat):Heap:=H ++ [.cells [.int .i64 0,.int .i64 0,.str [],.int .u64 0],.cells [.int .i64 2,.int .i64 j,.str t,.int .u64 acc]]
theorem Bb {M:Memo}{t:List Nat}(ht:t.length≤4000)(hd:∀ b ∈ t,48≤b∧b≤57){H:Heap}{j:Nat}:∀ (d i:Nat),d + i=t.length→∀ (fu:Nat),d < fu→∀ (r:RG) (acc:Nat),acc≤9223372036854775808→NumI H t i r →
  ∃ r',aw (oD (orc CC M)) fu r [] ⟨PG H j t acc,aa H⟩=some (nmX (numS acc (t.drop i)),r',[],⟨PG H j t (numA acc (t.drop i)),aa H⟩)∧r'.a.a.c=.ptr (aa H) 0∧r'.a.a.e=.ptr (aa H + 1) 0 ∧
    (numS acc (t.drop i)=none→r'.a.a.d=.int .i64 3):=by
 intro d
 induction d with
 | zero =>
   intro i hi fu hfu r acc ha hI;obtain ⟨fu',rfl⟩ : ∃ f,fu=f + 1:=⟨fu - 1,by omega⟩
   have hil:i=t.length:=by omega
   subst hil;rw[List.drop_length];simp only[aw,oD,za,SIM,ST0,ST1,hI.g,hI.h,Int.lt_irrefl,numS,numA,nmX];refine ⟨_,rfl,hI.a3,hI.a4,?_⟩;intro h;cases h
 | succ d ih =>
   intro i hi fu hfu r acc ha hI;obtain ⟨fu',rfl⟩ : ∃ f,fu=f + 1:=⟨fu - 1,by omega⟩
   have hlt:i < t.length:=by omega
   have hdr:t.drop i=t[i] :: t.drop (i + 1):=List.drop_eq_getElem_cons hlt;rw[hdr];obtain ⟨hb1,hb2⟩:=hd t[i] (List.getElem_mem hlt);have hgb:=zL (s:=t) (i:=i) (b:=t[i]) (by simp[hlt])
   have hc:decide ((i:Int) < (t.length:Int))=true:=by simp;omega
   have ha1:cQ (i:Int) 1=((i + 1:Nat):Int):=bA i 1 (by unfold natMax;omega)
   have h1:=NC (b:=t[i]) hb1 (by omega)
   have h2:=NG (b:=t[i] - 48) (by omega)
   have h3:=NN (d:=t[i] - 48) (by omega)
   have h4:=Pg (x:=9223372036854775808 - (t[i] - 48)) (by omega)
   have h5:=NA acc ((9223372036854775808 - (t[i] - 48)) / 10)
   have hble:decide ((9223372036854775808 - (t[i] - 48)) / 10 < acc)=!Nat.ble acc ((9223372036854775808 - (t[i] - 48)) / 10):=by
    rw[dE,Bool.eq_iff_iff];simp
   rw[hble] at h5;simp only[numS,numA];cases hq:Nat.ble acc ((9223372036854775808 - (t[i] - 48)) / 10) with
   | false =>
     rw[hq] at h5;simp only[aw,oD,za,B4,BW,AS,DZ,SIM,ST0,ST1,hI.a3,hI.a4,hI.l,hI.g,hI.h,hc,da (sz:=1) (lin:=.frz) hgb,h1,h2,h3,h4,h5,PG,bt65_0,Nat.reduceAdd,Nat.reduceLeDiff,nmX,aR H _ 1,numS];exact ⟨_,rfl,rfl,rfl,fun _=>rfl⟩
   | true =>
     rw[hq] at h5;have hle:acc≤(9223372036854775808 - (t[i] - 48)) / 10:=Nat.le_of_ble_eq_true hq;have h6:=O3 (x:=acc) (by omega)
     have h7:=Pc (x:=10 * acc) (y:=t[i] - 48) (by omega)
     simp only[aw,oD,za,B4,BW,AS,Cw,C6,SIM,ST0,ST1,hI.a3,hI.a4,hI.l,hI.g,hI.h,hc,da (sz:=1) (lin:=.frz) hgb,h1,h2,h3,h4,h5,h6,h7,PG,Nat.reduceAdd,Nat.reduceLeDiff,ha1];have key:=fun r hI'=>ih (i + 1) (by omega) fu' (by omega) r (10 * acc + (t[i] - 48)) (by omega) hI'
     simp only[PG] at key;refine key _ ?_;exact ⟨by first | exact hI.a3 | rfl,by first | exact hI.a4 | rfl,by first | exact hI.l | rfl,by first | exact hI.g | rfl,rfl⟩
def Nf (j:Nat)(t:List Nat):AV:=match t with
 | []=>.tuple [ev 0 0 [] 0,.int .i64 1]
 | d0 :: t'=>cond (Nat.beq d0 48 && Nat.ble 2 (t'.length + 1)) (.tuple [ev 0 0 [] 0,.int .i64 1]) (match numS 0 (d0 :: t') with
   | none=>.tuple [ev 0 0 [] 0,.int .i64 3]
   | some v=>.tuple [ev 2 j (d0 :: t') v,.int .i64 0])
theorem OG {b:Nat}(h:isD b=true):48≤b∧b≤57:=by
 simp only[isD,Bool.and_eq_true,Nat.ble_eq] at h;exact h
theorem jM {p:Nat→Bool}:∀ (l:List Nat),∀ b ∈ l.takeWhile p,p b=true
 | [],b,h=>by simp at h
 | a :: l,b,h=>by
   rw[List.takeWhile_cons] at h
   split at h
   ·rename_i hp
    rcases List.mem_cons.1 h with rfl | h
    ·exact hp
    ·exact jM l b h
   ·simp at h
theorem HC {M:Memo}{ts ss:List AV}(m:LexM M ts ss){s:List Nat}(hs:s.length≤4000){n j:Nat}(hj:j≤s.length){H:Heap}(hn:af H n=some (dO s j)){d0:Nat}{t' : List Nat}(ht:(s.drop j).takeWhile isD=d0 :: t') :
  orc CC M 57 [.ptr n 0] H=some (.ret (Nf j (d0 :: t')) (ai H n (dO s (j + (d0 :: t').length))) (aa H)):=by
 refine aH (z:=z57) (m.m109 _) (by kernel_rfl) rfl ?_
 have e0:(envOf [.ptr n 0] 0 env0).a.a.a=.ptr n 0:=rfl;generalize envOf [.ptr n 0] 0 env0=R at e0;have hr:=fun L=>F9 m.m142 (p:=isD) Qf (fun b H=>pf m.m108 b H) hs hj (H:=H ++ L) (ar hn L)
 rw[ht] at hr;have hall:∀ b ∈ d0 :: t',48≤b∧b≤57:=fun b hb=>OG (jM (s.drop j) b (by rw[ht];exact hb))
 have hlen:(d0 :: t').length≤4000:=by
  have:=(List.takeWhile_sublist isD (l:=s.drop j)).length_le;rw[ht,List.length_drop] at this;omega
 have hidx:=mZ (s:=d0 :: t') (i:=0) (b:=d0) rfl;have hidx' : dl CC 9 (.str (d0 :: t')) (.int .i64 0)=some (.int .u8 (d0:Int)):=hidx;have c1:decide ((d0:Int)=48)=Nat.beq d0 48:=vf d0 48;have c2:decide ((1:Int) < ((d0 :: t').length:Int))=Nat.ble 2 (t'.length + 1):=by rw[dE,Bool.eq_iff_iff];simp;omega
 have hcv:=CX hlen;have hlb:(iS (d0 :: t')).length=(d0 :: t').length:=by simp[iS]
 obtain ⟨f,hf⟩:=sk (P:=NumI (ai H n (dO s (j + (d0 :: t').length))) (d0 :: t') 0) fun r hr=>Bb (M:=M) hlen hall (H:=ai H n (dO s (j + (d0 :: t').length))) (j:=j) (d0 :: t').length 0 (by omega) 100000 (by omega) r 0 (by omega) hr
 have hnum:∀ r,(r.a.a.c=.ptr (aa H) 0∧r.a.a.e=.ptr (aa H + 1) 0∧r.a.d.f=.sl 1 (iS (d0 :: t')) .frz∧r.a.d.g=.int .i64 ((d0 :: t').length:Int)∧r.a.d.h=.int .i64 0)→NumI (ai H n (dO s (j + (d0 :: t').length))) (d0 :: t') 0 r :=
  fun r ⟨h1,h2,h3,h4,h5⟩=>⟨by rw[ak];exact h1,by rw[ak];exact h2,h3,h4,h5⟩
 have hf:=fun r h=>hf r (hnum r h)
 simp only[PG,ak,List.drop_zero,show ((0:Nat):Int)=0 from rfl] at hf
 have hf1:=fun r h=>(hf r h).1
 have hf2:=fun r h=>(hf r h).2.1
 have hf3:=fun r h=>(hf r h).2.2.1
 have hf4:=fun r h=>(hf r h).2.2.2
 clear hf
 have hA:=numA_eq (d0 :: t') 0
 rw[show Nf j (d0 :: t')=cond (Nat.beq d0 48 && Nat.ble 2 (t'.length + 1)) (.tuple [ev 0 0 [] 0,.int .i64 1]) (match numS 0 (d0 :: t') with
  | none=>.tuple [ev 0 0 [] 0,.int .i64 3]
  | some v=>.tuple [ev 2 j (d0 :: t') v,.int .i64 0]) from rfl]
 generalize htl:(d0 :: t').length=tl at *;cases b1:Nat.beq d0 48 <;> rw[b1] at c1 <;> cases b2:Nat.ble 2 (t'.length + 1) <;> rw[b2] at c2 <;> cases hv:numS 0 (d0 :: t')
 all_goals (first | (have hA':=hA _ hv;rw[hv] at hf1 hf4;rw[hA'] at hf1) | rw[hv] at hf1 hf4)
 all_goals simp only[nmX] at hf1
 all_goals simp only[z57,KO,Ml,LZ,L3,IW,KC,F8,SIM,ST0,ST1,e0,ar hn,bR hn,rt,bt65_0,hr,hidx',c1,c2,hcv,dB cc24,cE,hlb,htl,hf1,hf2,hf3,hf4,and_self,Nat.reduceAdd,Nat.reduceLeDiff]
def tX (b:Nat):Bool:=Nat.beq b 32 || (Nat.beq b 9 || Nat.beq b 10)
def nlS:List Nat→Nat
 | []=>0
 | b :: r=>cond (Nat.beq b 10) 0 (nlS r + 1)
def blS:Nat→List Nat→Nat
 | 0,_=>0
 | _ + 1,[]=>0
 | k + 1,b :: r=>cond (tX b) (1 + blS k r) (cond (isPre [45,45] (b :: r)) (nlS (b :: r) + blS k ((b :: r).drop (nlS (b :: r)))) 0)
theorem HB (b:Nat):decide ((0:Int)≤indexByte b [32,9,10] 0)=tX b:=by
 unfold tX;simp only[kj]
 by_cases h1:b=32
 ·subst h1;rfl
 ·by_cases h2:b=9
  ·subst h2;rfl
  ·by_cases h3:b=10
   ·subst h3;rfl
   ·have:indexByte b [32,9,10] 0=-1:=by simp[indexByte,Ne.symm h1,Ne.symm h2,Ne.symm h3]
    simp only[this,h1,h2,h3];rfl
theorem nl_eq:∀ (t:List Nat) (i:Nat),(indexByte 10 t i=-1∧nlS t=t.length)∨(indexByte 10 t i=((i + nlS t:Nat):Int)∧nlS t < t.length)
 | [],i=>.inl ⟨rfl,rfl⟩
 | b :: r,i=>by
   simp only[indexByte,nlS,kj]
   by_cases h:b=10
   ·simp[h]
   ·simp only[h,if_false,decide_false,cond_false,List.length_cons]
    rcases nl_eq r (i + 1) with ⟨h1,h2⟩ | ⟨h1,h2⟩
    ·exact .inl ⟨h1,by omega⟩
    ·exact .inr ⟨by rw[h1];omega,by omega⟩
theorem J9 (t:List Nat):nlS t≤t.length:=by
 rcases nl_eq t 0 with ⟨_,h⟩ | ⟨_,h⟩ <;> omega
theorem Od {t:List Nat}(h:isPre [45,45] t=true):1≤nlS t:=by
 match t,h with
 | [],h=>simp[isPre] at h
 | a :: r,h =>
   simp only[isPre] at h;obtain ⟨h1,_⟩:=cond_some' h;have:45=a:=Nat.eq_of_beq_eq_true h1;subst this;simp[nlS,kj]
where
 cond_some' {a b:Bool} (h:cond a b false=true):a=true∧b=true:=by cases a <;> simp_all
def Lj (s:List Nat)(j:Nat):AExit:=cond (Nat.beq j s.length) (.exit 0) .ret
theorem Hz {M:Memo}{ts ss:List AV}(m:LexM M ts ss){s:List Nat}(hs:s.length≤4000)(hby:∀ b ∈ s,b < 256){n:Nat}:∀ (d j:Nat),s.length - j≤d→j≤s.length→∀ (fu:Nat),d < fu→∀ (r:RG) (H:Heap),r.a.a.a=.ptr n 0→af H n=some (dO s j)→∀ e,min e (aa H)=e →
  ∃ r',aw (mg (orc CC M)) fu r [] ⟨H,e⟩=some (Lj s (j + blS d (s.drop j)),r',[],⟨ai H n (dO s (j + blS d (s.drop j))),e⟩):=by
 intro d
 induction d with
 | zero =>
   intro j hd hj fu hfu r H h1 hg e he;obtain ⟨fu',rfl⟩ : ∃ f,fu=f + 1:=⟨fu - 1,by omega⟩
   have hjl:j=s.length:=by omega
   subst hjl;have hb:Lj s (s.length + blS 0 (s.drop s.length))=.exit 0:=by simp[Lj,blS,kj]
   rw[hb];have hc:decide ((s.length:Int) < (s.length:Int))=false:=by simp
   simp only[aw,mg,nQ,SIM,ST0,h1,hg,cE,hc,blS,eB hg];exact ⟨_,rfl⟩
 | succ d ih =>
   intro j hd hj fu hfu r H h1 hg e he;obtain ⟨fu',rfl⟩ : ∃ f,fu=f + 1:=⟨fu - 1,by omega⟩
   by_cases hlt:j < s.length
   ·have hc:decide ((j:Int) < (s.length:Int))=true:=by simp;omega
    have hidx:=mZ (s:=s) (i:=j) (b:=s[j]) (by simp[hlt])
    have hf:=xF (s:=s) hj;have hi1:=sW m.m104 m.m140 (b:=s[j]) (hby _ (List.getElem_mem hlt)) [32,9,10];have hi2:∀ H,orc CC M 52 [.str (s.drop j),.int .u8 10] H=some (.ret (.int .i64 (indexByte 10 (s.drop j) 0)) H (aa H)):=sW m.m104 m.m140 (b:=10) (by decide) (s.drop j)
    have hp:=yY m.m105 m.m141 (s.drop j) [45,45];have hbl:=HB s[j];have hdr:=rx hlt;have hbs:blS (d + 1) (s.drop j)=cond (tX s[j]) (1 + blS d (s.drop (j + 1))) (cond (isPre [45,45] (s.drop j)) (nlS (s.drop j) + blS d ((s.drop j).drop (nlS (s.drop j)))) 0):=by rw[hdr];rfl
    rw[hbs];have ha:cQ (j:Int) 1=((j + 1:Nat):Int):=bA j 1 (by unfold natMax;omega)
    cases hb:tX s[j] with
    | true =>
      rw[hb] at hbl;simp only[aw,mg,nQ,tw,Kt,SIM,ST0,h1,hg,cE,hc,hidx,hi1,hbl,he,ha];have key:=fun r h1=>ih (j + 1) (by omega) (by omega) fu' (by omega) r (ai H n (dO s (j + 1))) h1 (aK hg _) e (by rw[ak];exact he)
      simp only[dX,Nat.add_assoc] at key;refine key _ ?_
      first | exact h1 | rfl
    | false =>
      rw[hb] at hbl;cases hpr:isPre [45,45] (s.drop j) with
      | false =>
        rw[hpr] at hp
        have hx:Lj s j=.ret:=by
         have:decide (j=s.length)=false:=by simp;omega
         unfold Lj;rw[kj,this];rfl
        simp only[cond_false,Nat.add_zero,hx];simp only[aw,mg,nQ,tw,yZ,SIM,ST0,ST1,h1,hg,cE,hc,hidx,hi1,hbl,he,hf,hp,eB hg];exact ⟨_,rfl⟩
      | true =>
        rw[hpr] at hp;have hnp:=Od hpr;have hnl:=J9 (s.drop j);rw[List.length_drop] at hnl;have hdd:(s.drop j).drop (nlS (s.drop j))=s.drop (j + nlS (s.drop j)):=by rw[List.drop_drop]
        rw[hdd]
        have hsub:gG (s.length:Int) (j:Int)=((s.length - j:Nat):Int):=by
         rw[rE,show (s.length:Int) - (j:Int)=((s.length - j:Nat):Int) by omega]
         exact f7 (by unfold natMax;omega)
        have ha2:cQ (j:Int) ((nlS (s.drop j):Nat):Int)=((j + nlS (s.drop j):Nat):Int):=bA j _ (by unfold natMax;omega)
        have key:=fun r h1=>ih (j + nlS (s.drop j)) (by omega) (by omega) fu' (by omega) r (ai H n (dO s (j + nlS (s.drop j)))) h1 (aK hg _) e (by rw[ak];exact he)
        simp only[dX,Nat.add_assoc] at key
        rcases nl_eq (s.drop j) 0 with ⟨g1,g2⟩ | ⟨g1,g2⟩
        ·simp only[g1] at hi2;have hneg:decide ((-1:Int) < 0)=true:=rfl;rw[List.length_drop] at g2;rw[← g2] at hsub;simp only[cond_true];simp only[aw,mg,nQ,tw,yZ,AW,EI,B1,BC,SIM,ST0,ST1,h1,hg,cE,hc,hidx,hi1,hbl,he,hf,hp,hi2,hneg,hsub,ha2];refine key _ ?_
         first | exact h1 | rfl
        ·simp only[g1,Nat.zero_add] at hi2;have hneg:decide (((nlS (s.drop j):Nat):Int) < 0)=false:=by simp
         simp only[cond_true];simp only[aw,mg,nQ,tw,yZ,AW,EI,B1,BC,SIM,ST0,ST1,h1,hg,cE,hc,hidx,hi1,hbl,he,hf,hp,hi2,hneg,ha2];refine key _ ?_
         first | exact h1 | rfl
   ·have hjl:j=s.length:=by omega
    subst hjl;have hb:Lj s (s.length + blS (d + 1) (s.drop s.length))=.exit 0:=by simp[Lj,blS,kj]
    rw[hb];have hbs:blS (d + 1) (s.drop s.length)=0:=by simp[blS]
    have hc:decide ((s.length:Int) < (s.length:Int))=false:=by simp
    rw[hbs];simp only[aw,mg,nQ,SIM,ST0,h1,hg,cE,hc,eB hg];exact ⟨_,rfl⟩
def sj (s:List Nat)(j:Nat):Nat:=j + blS (s.length - j) (s.drop j)
theorem LC {M:Memo}{ts ss:List AV}(m:LexM M ts ss){s:List Nat}(hs:s.length≤4000)(hby:∀ b ∈ s,b < 256){n j:Nat}(hj:j≤s.length){H:Heap}(hn:af H n=some (dO s j)) :
  orc CC M 38 [.ptr n 0] H=some (.ret Abs.undef (ai H n (dO s (sj s j))) (aa H)):=by
 refine aH (z:=z38) (m.m72 _) (by kernel_rfl) rfl ?_
 have e0:(envOf [.ptr n 0] 0 env0).a.a.a=.ptr n 0:=rfl;generalize envOf [.ptr n 0] 0 env0=R at e0;obtain ⟨r',hr⟩:=Hz m hs hby (s.length - j) j (Nat.le_refl _) hj 100000 (by omega) R H e0 hn (aa H) (Nat.min_self _)
 simp only[z38,SIM,hr,Lj];unfold sj;cases hq:decide (j + blS (s.length - j) (s.drop j)=s.length) <;> simp only[hq,SIM]
structure TkR where
 k:Nat
 p:Nat
 t:List Nat
 m:Nat
 err:Nat
 pos:Nat
def TkR.v (x:TkR):AV:=ev (x.k:Int) (x.p:Int) x.t (x.m:Int)
def uW (t:List Nat):List (List Nat)→Bool
 | []=>false
 | s :: r=>cond (strEq s t) true (uW t r)
def rL (t:List Nat):List (List Nat)→Option (List Nat)
 | []=>none
 | s :: r=>cond (isPre s t) (some s) (rL t r)
theorem k0 (t:List Nat):∀ l:List (List Nat),jE t (l.map .str)=some (uW t l)
 | []=>rfl
 | s :: r=>by
   simp only[List.map_cons,jE,uW,k0 t r];cases strEq s t <;> rfl
theorem y4 (t:List Nat):∀ l:List (List Nat),iY t (l.map .str)=some (rL t l)
 | []=>rfl
 | s :: r=>by
   simp only[List.map_cons,iY,rL,y4 t r];cases isPre s t <;> rfl
def Ss (ws:List (List Nat))(j:Nat)(t:List Nat):TkR :=
 cond (uW t ws) ⟨3,j,t,0,0,j + t.length⟩ (cond (Nat.ble t.length 30) ⟨1,j,t,0,0,j + t.length⟩ ⟨0,0,[],0,3,j + t.length⟩)
def Sx (j:Nat)(t:List Nat):TkR:=match t with
 | []=>⟨0,0,[],0,1,j⟩
 | d0 :: t'=>cond (Nat.beq d0 48 && Nat.ble 2 (t'.length + 1)) ⟨0,0,[],0,1,j + (d0 :: t').length⟩ (match numS 0 (d0 :: t') with
   | none=>⟨0,0,[],0,3,j + (d0 :: t').length⟩
   | some v=>⟨2,j,d0 :: t',v,0,j + (d0 :: t').length⟩)
def Sz (j:Nat):Option (List Nat)→TkR
 | none=>⟨0,0,[],0,1,j⟩
 | some t=>⟨4,j,t,0,0,j + t.length⟩
def jQ (ws sg:List (List Nat))(s:List Nat)(j:Nat):TkR:=match s.drop j with
 | []=>⟨5,j,[],0,0,j⟩
 | b :: r=>cond (HX b) (Ss ws j ((b :: r).takeWhile jY)) (cond (isD b) (Sx j ((b :: r).takeWhile isD)) (Sz j (rL (b :: r) sg)))
theorem HZ {M:Memo}{ws sg:List (List Nat)}(m:LexM M (ws.map .str) (sg.map .str)){s:List Nat}(hs:s.length≤4000)(hby:∀ b ∈ s,b < 256){n j:Nat}(hj:sj s j≤s.length)(hj' : j≤s.length){H:Heap}(hn:af H n=some (dO s j)) :
  orc CC M 39 [.ptr n 0] H=some (.ret (.tuple [(jQ ws sg s (sj s j)).v,.int .i64 ((jQ ws sg s (sj s j)).err:Int)]) (ai H n (dO s (jQ ws sg s (sj s j)).pos)) (aa H)):=by
 refine aH (z:=z39) (m.m73 _) (by kernel_rfl) rfl ?_
 have e0:(envOf [.ptr n 0] 0 env0).a.a.a=.ptr n 0:=rfl;generalize envOf [.ptr n 0] 0 env0=R at e0;have hbl:=fun L=>LC m hs hby hj' (H:=H ++ L) (ar hn L)
 generalize sj s j=i at hj hbl ⊢;have hn':=aK hn (dO s i);unfold jQ
 by_cases hlt:i < s.length
 ·have hc:decide ((i:Int)=(s.length:Int))=false:=by simp;omega
  have hdr:=rx hlt;have hidx:=mZ (s:=s) (i:=i) (b:=s[i]) (by simp[hlt])
  have hle:=qc m.m106 s[i];have hdi:=pf m.m108 s[i];rw[hdr];simp only;cases h1:HX s[i] with
  | true =>
    rw[h1] at hle;have hb:=k0 ((s.drop i).takeWhile jY) ws;have hnm:=fun L=>Ba m hs (Nat.le_of_lt hlt) (H:=ai H n (dO s i) ++ L) (ar hn' L) hb
    rw[hdr] at hnm;simp only[cond_true,Ss];generalize (s[i] :: s.drop (i + 1)).takeWhile jY=t at *;rw[dE]
    cases b1:uW t ws <;> rw[b1] at hnm <;> cases b2:decide (t.length≤30) <;> rw[b2] at hnm <;>
     simp only[z39,sM,ul,tJ,uy,xW,yz,SIM,ST0,e0,hbl,ar hn,bR hn,ar hn',bR hn',cE,hc,hidx,hle,hnm,TkR.v,Nat.reduceAdd,Nat.reduceLeDiff,Int.cast_ofNat_Int]
  | false =>
    rw[h1] at hle;simp only[cond_false];cases h2:isD s[i] with
    | true =>
      rw[h2] at hdi;have htw:(s.drop i).takeWhile isD=s[i] :: (s.drop (i + 1)).takeWhile isD:=by rw[hdr,List.takeWhile_cons,h2];rfl
      have hnm:=fun L=>HC m hs (Nat.le_of_lt hlt) (H:=ai H n (dO s i) ++ L) (ar hn' L) htw
      rw[hdr] at htw;rw[htw];generalize (s.drop (i + 1)).takeWhile isD=t at *;simp only[cond_true,Sx];simp only[Nf] at hnm;cases b1:Nat.beq s[i] 48 <;> rw[b1] at hnm <;> cases b2:Nat.ble 2 (t.length + 1) <;> rw[b2] at hnm <;> cases b3:numS 0 (s[i] :: t) <;> rw[b3] at hnm <;>
      simp only[z39,sM,ul,tJ,uy,xW,yz,BA,Kx,SIM,ST0,ST1,e0,hbl,ar hn,bR hn,ar hn',bR hn',cE,hc,hidx,hle,hdi,hnm,TkR.v,Nat.reduceAdd,Nat.reduceLeDiff,Int.cast_ofNat_Int]
    | false =>
      rw[h2] at hdi;have hx:=y4 (s.drop i) sg;have hnm:=fun L=>GR m hs (Nat.le_of_lt hlt) (H:=ai H n (dO s i) ++ L) (ar hn' L) hx
      rw[hdr] at hnm;simp only[cond_false];cases hf:rL (s[i] :: s.drop (i + 1)) sg <;> rw[hf] at hnm <;> simp only[Eu,pI] at hnm <;>
      simp only[z39,sM,ul,tJ,uy,xW,yz,BA,M3,SIM,ST0,ST1,e0,hbl,ar hn,bR hn,ar hn',bR hn',cE,hc,hidx,hle,hdi,hnm,TkR.v,Sz,Nat.reduceAdd,Nat.reduceLeDiff,Int.cast_ofNat_Int]
 ·have hil:i=s.length:=by omega
  subst hil;have hc:decide ((s.length:Int)=(s.length:Int))=true:=by simp
  simp only[List.drop_length];simp only[z39,sM,ul,tJ,uy,SIM,ST0,e0,hbl,ar hn,bR hn,ar hn',bR hn',cE,hc,rt,TkR.v,Nat.reduceAdd,Nat.reduceLeDiff,Int.cast_ofNat_Int]
def uF (ws sg:List (List Nat))(s:List Nat):Nat→Nat→Option (Except (Nat × Nat) (List TkR))
 | 0,_=>none
 | k + 1,j=>match jQ ws sg s (sj s (sj s j)) with
   | x=>cond (Nat.beq x.err 0) (cond (Nat.beq x.k 5) (some (.ok [x])) (match uF ws sg s k x.pos with
     | some (.ok l)=>some (.ok (x :: l))
     | r=>r)) (some (.error (sj s j,x.err)))
def allV:Except (Nat × Nat) (List TkR)→List AV→AV
 | .error (p,e),_=>.tuple [.nils,.agg [.int .i64 (p:Int),.int .i64 (e:Int)]]
 | .ok l,acc=>.tuple [.sl 4 (acc ++ l.map TkR.v) .dead,.agg [.int .i64 0,.int .i64 0]]
theorem Gv {s:List Nat}:∀ (d:Nat) (t:List Nat),blS d t≤t.length
 | 0,t=>by simp[blS]
 | d + 1,[]=>by simp[blS]
 | d + 1,b :: r=>by
   simp only[blS];cases tX b with
   | true=>have:=Gv d r (s:=s);simp;omega
   | false=>cases isPre [45,45] (b :: r) with
     | true =>
       have h1:=Gv d ((b :: r).drop (nlS (b :: r))) (s:=s);have h2:=J9 (b :: r);rw[List.length_drop] at h1;simp only[cond_false,cond_true];omega
     | false=>simp
theorem Bc {s:List Nat}{j:Nat}(hj:j≤s.length):sj s j≤s.length:=by
 have:=Gv (s:=s) (s.length - j) (s.drop j);rw[List.length_drop] at this;unfold sj;omega
theorem C7 {ws sg:List (List Nat)}{s:List Nat}{j:Nat}(hj:j≤s.length):(jQ ws sg s j).pos≤s.length:=by
 unfold jQ
 split
 ·exact hj
 ·rename_i b r hd;have hl:(b :: r).length=s.length - j:=by rw[← hd,List.length_drop]
  have h1:=(List.takeWhile_sublist jY (l:=b :: r)).length_le;have h2:=(List.takeWhile_sublist isD (l:=b :: r)).length_le;cases HX b with
  | true =>
    simp only[cond_true,Ss];generalize (b :: r).takeWhile jY=t at *;cases uW t ws <;> cases Nat.ble t.length 30 <;> simp only[cond_true,cond_false] <;> omega
  | false=>cases isD b with
    | true =>
      simp only[cond_true,cond_false,Sx];generalize (b :: r).takeWhile isD=t at *;cases t with
      | nil=>exact hj
      | cons d0 t' =>
        simp only;cases (Nat.beq d0 48 && Nat.ble 2 (t'.length + 1)) <;> cases numS 0 (d0 :: t') <;> simp only[cond_true,cond_false] <;> omega
    | false =>
      simp only[cond_false];cases hf:rL (b :: r) sg with
      | none=>exact hj
      | some t =>
        have:t.length≤(b :: r).length:=by
         have key:∀ l:List (List Nat),rL (b :: r) l=some t→t.length≤(b :: r).length:=by
          intro l
          induction l with
          | nil=>intro h;cases h
          | cons w l ih =>
            intro h;simp only[rL] at h;cases hp:isPre w (b :: r) with
            | true =>
              rw[hp] at h;simp only[cond_true,SJ] at h;subst h;exact isPre_len _ _ hp
            | false=>rw[hp] at h;exact ih h
         exact key sg hf
        simp only[Sz];omega
theorem qJ (x:TkR):gF x.v=true:=by simp only[TkR.v,SIM]
theorem pH (x:TkR)(hp:Heap)(e:Nat):aq CC 25 52 .nils (.sl 4 [x.v] .lit) ⟨hp,e⟩=some (.sl 4 [x.v] (.live (aa hp) 0),⟨hp ++ [.lin 0],e⟩):=by
 rw[aj];unfold TkR.v
 kernel_rfl
theorem yq (x:TkR):aP CC 52 1 [(0,x.v)]=some (.sl 4 [x.v] .lit):=by
 unfold TkR.v
 kernel_rfl
theorem se67:bK CC 52=some 50:=by kernel_rfl
theorem inf65' : (CC.P.info? 50).map (fun i=>(i.size,i.bytes))=some (4,40):=by kernel_rfl
theorem inf65:∃ i,CC.P.info? 50=some i∧i.size=4∧i.bytes=40:=by
 have h:=inf65';cases hi:CC.P.info? 50 with
 | none=>rw[hi] at h;cases h
 | some i =>
   rw[hi] at h;simp only[Option.map_some,SJ,PJ] at h;exact ⟨i,rfl,h.1,h.2⟩
theorem zero65:cn CC 50=some (ev 0 0 [] 0):=by kernel_rfl
theorem vL {acc:List AV}(x:TkR){hp:Heap}{e id g:Nat}(hg:hp[id]?=some (.lin g))(hl:acc.length + 1≤2 ^ 24) :
  aq CC 25 52 (.sl 4 acc (.live id g)) (.sl 4 [x.v] .lit) ⟨hp,e⟩=some (.sl 4 (acc ++ [x.v]) (.live id (g + 1)),⟨hp.set id (.lin (g + 1)),e⟩):=by
 obtain ⟨i,h1,h2,h3⟩:=inf65;have h4:[x.v].all (bg 4)=true:=by unfold TkR.v;rfl
 have h5:decide (acc.length + [x.v].length≤2 ^ 24)=true:=by simp;omega
 simp only[aq,se67,h1,zero65,h2,h3,aY,if_true,h4,h5,hg,List.isEmpty];simp[AV.cells]
theorem mh {acc:List AV}(x:TkR)(H:Heap)(a b c:AObj)(L:Heap)(e g:Nat)(hl:acc.length + 1≤2 ^ 24) :
  aq CC 25 52 (.sl 4 acc (.live (aa H + 3) g)) (.sl 4 [x.v] .lit) ⟨H ++ (a :: b :: c :: .lin g :: L),e⟩=some (.sl 4 (acc ++ [x.v]) (.live (aa H + 3) (g + 1)),⟨H ++ (a :: b :: c :: .lin (g + 1) :: L),e⟩):=by
 have h1:(H ++ (a :: b :: c :: .lin g :: L))[aa H + 3]?=some (.lin g):=by rw[← aD,aR];rfl
 rw[vL x h1 hl,← aN,eN];rfl
theorem a9 {α:Type}(a v:α)(l:List α)(n:Nat):ai (a :: l) (n + 1) v=a :: ai l n v:=rfl
theorem ba {α:Type}(a:α)(l:List α)(n:Nat):af (a :: l) (n + 1)=af l n:=rfl
def NL (H:Heap)(r:RG)(G:Heap)(acc:List TkR):Prop :=
 (acc=[]∧G=[]∧r.a.a.f=.nils)∨(∃ o g G',acc ≠ []∧G=o :: .lin g :: G'∧r.a.a.f=.sl 4 (acc.map TkR.v) (.live (aa H + 3) g))
def wJ (H:Heap)(r:RG)(F:AObj)(acc:List TkR):Except (Nat × Nat) (List TkR)→Prop
 | .error (p,e)=>F=.cells [.int .i64 (p:Int),.int .i64 (e:Int)]∧r.a.a.c=.nils
 | .ok l=>F=.cells [.int .i64 0,.int .i64 0]∧∃ g,r.a.a.c=.sl 4 ((acc ++ l).map TkR.v) (.live (aa H + 3) g)
theorem S8 (a b:Int):ao CC 27 [(0,.int .i64 a),(1,.int .i64 b)]=some (.agg [.int .i64 a,.int .i64 b]):=by kernel_rfl
theorem bf29_0:ao CC 27 []=some (.agg [.int .i64 0,.int .i64 0]):=by kernel_rfl
theorem Tq (a b:Nat):decide ((a:Int)=(b:Int))=Nat.beq a b:=vf a b
theorem Fs {M:Memo}{ws sg:List (List Nat)}(m:LexM M (ws.map .str) (sg.map .str)){s:List Nat}(hs:s.length≤4000)(hby:∀ b ∈ s,b < 256){H:Heap}:∀ (k j:Nat),j≤s.length→∀ (fu:Nat),k≤fu→∀ (r:RG) (G:Heap) (acc:List TkR) (res:Except (Nat × Nat) (List TkR)),
  acc.length + k≤100000→r.a.a.d=.ptr (aa H) 0→r.a.a.e=.ptr (aa H + 1) 0→NL H r G acc→uF ws sg s k j=some res →
  ∃ r' F G',aw (fY (orc CC M)) fu r [] ⟨H ++ (.cells [.int .i64 0,.int .i64 0] :: dO s j :: G),aa H⟩=some (.ret,r',[],⟨H ++ (F :: G'),aa H⟩)∧r'.a.a.d=.ptr (aa H) 0∧wJ H r' F acc res:=by
 intro k
 induction k with
 | zero=>intro j hj fu hfu r G acc res ha h1 h2 ho hr;cases hr
 | succ k ih =>
   intro j hj fu hfu r G acc res ha h1 h2 ho hr;obtain ⟨fu',rfl⟩ : ∃ f,fu=f + 1:=⟨fu - 1,by omega⟩
   have hj1:=Bc hj;have hj2:=Bc hj1;have hpos:=C7 (ws:=ws) (sg:=sg) hj2;have hbl:=fun F L=>LC m hs hby hj (n:=aa H + 1) (H:=H ++ (F :: dO s j :: L)) (by rw[aR,rp])
   have hnx:=fun F L=>HZ m hs hby hj2 hj1 (n:=aa H + 1) (H:=H ++ (F :: dO s (sj s j) :: L)) (by rw[aR,rp])
   simp only[uF] at hr;generalize jQ ws sg s (sj s (sj s j))=x at hr hnx hpos;have e1:decide ((x.err:Int)=0)=Nat.beq x.err 0:=Tq x.err 0;have e5:decide ((x.k:Int)=5)=Nat.beq x.k 5:=Tq x.k 5;cases h0:Nat.beq x.err 0 with
   | false =>
     rw[h0] at hr e1;simp only[cond_false,SJ] at hr;subst hr;simp only[aw,fY,qu,qM,qT,qP,Lo,SIM,ST0,h1,h2,hbl,hnx,e1,TkR.v,S8,Nat.reduceAdd,Nat.reduceLeDiff];exact ⟨_,_,_,rfl,rfl,rfl,rfl⟩
   | true =>
     rw[h0] at hr e1;simp only[cond_true] at hr;cases h5:Nat.beq x.k 5 with
     | true =>
       rw[h5] at hr e5;simp only[cond_true,SJ] at hr;subst hr
       rcases ho with ⟨rfl,rfl,h3⟩ | ⟨o,g,G',hne,rfl,h3⟩
       ·have hb:=yq x;have ha1:=pH x;simp only[TkR.v] at hb ha1;simp only[aw,fY,qu,qM,qT,qP,pd,ng,wD,SIM,ST0,ST1,h1,h2,h3,hbl,hnx,e1,e5,TkR.v,bf29_0,hb,ha1,Nat.reduceAdd,Nat.reduceLeDiff];refine ⟨_,_,_,rfl,?_,?_⟩
        ·rfl
        ·exact ⟨rfl,_,rfl⟩
       ·have hb:=yq x;have ha2:=fun a b c L e=>mh (acc:=acc.map TkR.v) x H a b c L e g (by rw[List.length_map];omega)
        generalize hacc:acc.map TkR.v=A at ha2 h3;simp only[TkR.v] at hb ha2;simp only[aw,fY,qu,qM,qT,qP,pd,ng,wD,SIM,ST0,ST1,h1,h2,h3,hbl,hnx,e1,e5,TkR.v,bf29_0,hb,ha2,a9,ba,Nat.reduceAdd,Nat.reduceLeDiff];refine ⟨_,_,_,rfl,?_,?_⟩
        ·rfl
        ·refine ⟨rfl,g + 1,?_⟩;rw[List.map_append,hacc];rfl
     | false =>
       rw[h5] at hr e5;simp only[cond_false] at hr
       have hrec:∃ res',uF ws sg s k x.pos=some res'∧(match res' with | .ok l=>res=.ok (x :: l) | .error q=>res=.error q):=by
        cases hq:uF ws sg s k x.pos with
        | none=>rw[hq] at hr;cases hr
        | some res' =>
          rw[hq] at hr;cases res' with
          | ok l=>simp only[SJ] at hr;exact ⟨_,rfl,hr.symm⟩
          | error q=>simp only[SJ] at hr;exact ⟨_,rfl,hr.symm⟩
       obtain ⟨res',hq,hres⟩:=hrec
       have fin:∀ r' F,wJ H r' F (acc ++ [x]) res'→wJ H r' F acc res:=by
        intro r' F hE;cases res' with
        | ok l =>
          simp only at hres;subst hres;simp only[wJ,List.append_assoc,List.singleton_append] at hE ⊢;exact hE
        | error q =>
          simp only at hres;subst hres;exact hE
       rcases ho with ⟨rfl,rfl,h3⟩ | ⟨o,g,G',hne,rfl,h3⟩
       ·have hb:=yq x;have ha1:=pH x;simp only[TkR.v] at hb ha1;simp only[aw,fY,qu,qM,qT,qP,pd,ng,SIM,ST0,ST1,h1,h2,h3,hbl,hnx,e1,e5,TkR.v,hb,ha1,Nat.reduceAdd,Nat.reduceLeDiff]
        have key:∀ (r:RG) (G:Heap),r.a.a.d=.ptr (aa H) 0→r.a.a.e=.ptr (aa H + 1) 0→NL H r G ([] ++ [x]) →
          ∃ r' F G',aw (fY (orc CC M)) fu' r [] ⟨H ++ (.cells [.int .i64 0,.int .i64 0] :: dO s x.pos :: G),aa H⟩=some (.ret,r',[],⟨H ++ (F :: G'),aa H⟩)∧r'.a.a.d=.ptr (aa H) 0∧wJ H r' F [] res:=by
         intro r G h1 h2 ho;obtain ⟨r',F,G',k1,k2,k3⟩:=ih x.pos hpos fu' (by omega) r G ([] ++ [x]) res' (by simp at ha ⊢;omega) h1 h2 ho hq
         exact ⟨r',F,G',k1,k2,fin r' F k3⟩
        refine key _ _ ?_ ?_ ?_
        ·first | exact h1 | rfl
        ·first | exact h2 | rfl
        ·exact .inr ⟨_,0,[],by simp,rfl,rfl⟩
       ·have hb:=yq x;have ha2:=fun a b c L e=>mh (acc:=acc.map TkR.v) x H a b c L e g (by rw[List.length_map];omega)
        have hmap:(acc ++ [x]).map TkR.v=acc.map TkR.v ++ [x.v]:=by simp
        generalize hacc:acc.map TkR.v=A at ha2 h3 hmap;simp only[TkR.v] at hb ha2;simp only[aw,fY,qu,qM,qT,qP,pd,ng,SIM,ST0,ST1,h1,h2,h3,hbl,hnx,e1,e5,TkR.v,hb,ha2,a9,ba,Nat.reduceAdd,Nat.reduceLeDiff]
        have key:∀ (r:RG) (G:Heap),r.a.a.d=.ptr (aa H) 0→r.a.a.e=.ptr (aa H + 1) 0→NL H r G (acc ++ [x]) →
          ∃ r' F G',aw (fY (orc CC M)) fu' r [] ⟨H ++ (.cells [.int .i64 0,.int .i64 0] :: dO s x.pos :: G),aa H⟩=some (.ret,r',[],⟨H ++ (F :: G'),aa H⟩)∧r'.a.a.d=.ptr (aa H) 0∧wJ H r' F acc res:=by
         intro r G h1 h2 ho;obtain ⟨r',F,G',k1,k2,k3⟩:=ih x.pos hpos fu' (by omega) r G (acc ++ [x]) res' (by simp at ha ⊢;omega) h1 h2 ho hq
         exact ⟨r',F,G',k1,k2,fin r' F k3⟩
        refine key _ _ ?_ ?_ ?_
        ·first | exact h1 | rfl
        ·first | exact h2 | rfl
        ·refine .inr ⟨_,g + 1,_,by simp,rfl,?_⟩
         rw[hmap];rfl
theorem ep {l:List AV}(h:dK l=true)(b:Nat)(hp:Heap):br b hp l=l:=by
 have:=(dq (.agg l) (by rw[en];exact h)).1 b hp
 simp only[AV.settle,AV.agg.injEq] at this;exact this
theorem dG {l:List AV}(h:dK l=true)(b:Nat):aM b l=true:=by
 have:=(dq (.agg l) (by rw[en];exact h)).2 b
 simpa only[AV.low] using this
theorem yF {sz:Nat}{l fs:List AV}{id g base:Nat}{hp:Heap}(hl:dK l=true)(hf:dK fs=true)(hid:base≤id) :
  kf false base (.tuple [.sl sz l (.live id g),.agg fs]) ⟨hp,base⟩=.ret (.tuple [.sl sz l .dead,.agg fs]) (bB base hp) base:=by
 have h1:gF (.tuple [.sl sz l (.live id g),.agg fs])=false:=rfl;have h2:Lin.low base (.live id g)=false:=by simp[Lin.low];omega
 have h3:AV.settle base hp (.tuple [.sl sz l (.live id g),.agg fs])=.tuple [.sl sz l .dead,.agg fs]:=by
  simp[AV.settle,br,ep hl,ep hf,h2]
 have h4:AV.low base (.tuple [.sl sz l .dead,.agg fs])=true:=by
  simp[AV.low,aM,dG hl,dG hf,Lin.low]
 unfold kf;rw[h1,Bool.and_false];simp only[cond_false,xj,cR,if_true,h3,h4,Bool.false_eq_true,if_false,dw]
theorem t3 (l:List TkR):dK (l.map TkR.v)=true:=by
 induction l with
 | nil=>rfl
 | cons x l ih=>rw[List.map_cons,bJ,qJ,ih];rfl
theorem keep45:CC.keep 25=false:=by kernel_rfl
theorem Qw (s:List Nat):ao CC 105 [(0,.str s)]=some (.agg [.str s,.int .i64 0]):=by kernel_rfl
theorem Rp (s:List Nat)(L:Nat):eW (.agg [.str s,.int .i64 0]) L=some (.cells [.str s,.int .i64 0],(.ptr · 0)):=rfl
theorem OB {M:Memo}{ws sg:List (List Nat)}(m:LexM M (ws.map .str) (sg.map .str)){s:List Nat}(hM:M 25 [.str s]=none)(hs:s.length≤4000)(hby:∀ b ∈ s,b < 256){k:Nat}(hk:k≤99999){res:Except (Nat × Nat) (List TkR)}
  (hr:uF ws sg s k 0=some res) (H:Heap):orc CC M 25 [.str s] H=some (.ret (allV res []) H (aa H)):=by
 refine aH (z:=z25) hM (by kernel_rfl) rfl ?_
 have e0:(envOf [.str s] 0 env0).a.a.a=.str s:=rfl;generalize envOf [.str s] 0 env0=R at e0;have hc:decide ((4000:Int) < (s.length:Int))=false:=by simp;omega
 have hlp:∀ (r:RG),(r.a.a.d=.ptr (aa H) 0∧r.a.a.e=.ptr (aa H + 1) 0∧r.a.a.f=.nils)→∃ r',∃ F G',aw (fY (orc CC M)) 100000 r [] ⟨H ++ (.cells [.int .i64 0,.int .i64 0] :: dO s 0 :: []),aa H⟩=some (.ret,r',[],⟨H ++ (F :: G'),aa H⟩)∧r'.a.a.d=.ptr (aa H) 0∧wJ H r' F [] res :=
  fun r h=>Fs m hs hby k 0 (by omega) 100000 (by omega) r [] [] res (by simp;omega) h.1 h.2.1 (.inl ⟨rfl,rfl,h.2.2⟩) hr
 have hlex:dO s 0=.cells [.str s,.int .i64 0]:=rfl;rw[hlex] at hlp;obtain ⟨f,hf⟩:=sk hlp;have hbx:=Rp s
 have pre:∃ r,(r.a.a.d=.ptr (aa H) 0∧r.a.a.e=.ptr (aa H + 1) 0∧r.a.a.f=.nils)∧z25.sh (orc CC M) R [] ⟨H,aa H⟩=dD 0 (aw (fY (orc CC M)) 100000 r [] ⟨H ++ [.cells [.int .i64 0,.int .i64 0],.cells [.str s,.int .i64 0]],aa H⟩):=by
  simp only[z25,Kp,Mf,Jb,LR,SIM,ST0,e0,cE,hc,Qw,hbx,Nat.reduceAdd,Nat.reduceLeDiff];refine ⟨_,?_,rfl⟩;exact ⟨rfl,rfl,rfl⟩
 obtain ⟨r0,hr0,hpre⟩:=pre;rw[hpre];obtain ⟨F,G',h1,h2,h3⟩:=hf r0 hr0;rw[h1];cases res with
 | error q =>
   obtain ⟨p,e⟩:=q;obtain ⟨rfl,h4⟩:=h3;simp only[z25,SIM,Rv,RM,h2,h4,allV,Nat.reduceAdd,Nat.reduceLeDiff]
 | ok l =>
   obtain ⟨rfl,g,h4⟩:=h3;rw[List.nil_append] at h4;have hgc:=fun hp=>yF (sz:=4) (l:=l.map TkR.v) (fs:=[.int .i64 0,.int .i64 0]) (id:=aa H + 3) (g:=g) (base:=aa H) (hp:=hp) (t3 l) rfl (by omega)
   simp only[z25,iM,vB,iE,rz,iT,Rv,RM,h2,h4,SIM,allV,Nat.reduceAdd,Nat.reduceLeDiff,keep45,hgc]
end Go.Proofs
