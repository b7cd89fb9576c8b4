/- the words of a text. Part of the proof of girandolelaw12.SplitHanded. -/
import Derived.Test.YtglacbfdbfhmfaaGreatDoorCur
set_option linter.unusedVariables false
set_option linter.unusedSimpArgs false
set_option maxRecDepth 1000000
namespace Go.Proofs
open Go Go.Abs
theorem aJ {M:Memo}{f:FuncId}{z:FZ}{args:List AV}{H:Heap}{r:CRes}(hM:M f args=none)(hz:ij tab f=some z)(hl:Nat.ble (aa args) 512=true)
  (hx:lw CC f (aa H) z (z.sh (orc CC M) (envOf args 0 env0) [] { heap:=H,esc:=aa H })=some r):orc CC M f args H=some r:=by
 refine fy cc_mask (T:=ij tab) tab_ok hM ?_;rw[hz];show cond (Nat.ble (aa args) 512) _ none=_;rw[hl];exact hx
theorem cc9:CC.P.underlying 9=some .string:=by kernel_rfl
theorem cq (s:List Nat):aO CC 9 (.str s)=some (.int .i64 (s.length:Int)):=by rw[cA];simp[dh,cc9]
theorem mz {s:List Nat}{i b:Nat}(h:s[i]?=some b):cL CC 9 (.str s) (.int .i64 (i:Int))=some (.int .u8 (b:Int)):=by
 simp[cL,cC,cc9,h]
theorem zH {s:List Nat}{i:Nat}(h:i<=s.length):bt CC 9 (.str s) (some (.int .i64 (i:Int))) none none=some (.str (s.drop i)):=by
 simp[bt,cK,cC,cc9,h]
theorem T9 {s:List Nat}{i:Nat}(h:i<=s.length):bt CC 9 (.str s) none (some (.int .i64 (i:Int))) none=some (.str (s.take i)):=by
 simp[bt,cK,cC,cc9,h]
theorem JB {s:List Nat}{i j:Nat}(h:i<=j)(hj:j<=s.length):bt CC 9 (.str s) (some (.int .i64 (i:Int))) (some (.int .i64 (j:Int))) none=some (.str ((s.take j).drop i)):=by
 simp[bt,cK,cC,cc9,h,hj]
def Ib (b:Nat):Bool:=(Nat.ble 97 b&&Nat.ble b 122)||((Nat.ble 65 b&&Nat.ble b 90)||Nat.beq b 95)
def isD (b:Nat):Bool:=Nat.ble 48 b&&Nat.ble b 57
theorem ci (a b:Nat):decide ((a:Int)<=(b:Int))=Nat.ble a b:=by rw[dW];simp
theorem xX (a b:Nat):decide ((a:Int)=(b:Int))=Nat.beq a b:=by rw[f9,Bool.eq_iff_iff];simp;omega
theorem qh {M:Memo}(hM:∀ a,M 106 a=none)(b:Nat)(H:Heap):orc CC M 106 [.int .u8 (b:Int)] H=some (.ret (.bool (Ib b)) H (aa H)):=by
 refine aJ (z:=z106) (hM _) (by kernel_rfl) rfl ?_
 have e0:(envOf [.int .u8 (b:Int)] 0 env0).a.a.a=.int .u8 (b:Int):=rfl;generalize envOf [.int .u8 (b:Int)] 0 env0=R at e0;have h1:decide ((97:Int)<=(b:Int))=Nat.ble 97 b:=ci 97 b;have h2:decide ((b:Int)<=122)=Nat.ble b 122:=ci b 122;have h3:decide ((65:Int)<=(b:Int))=Nat.ble 65 b:=ci 65 b;have h4:decide ((b:Int)<=90)=Nat.ble b 90:=ci b 90;have h5:decide ((b:Int)=95)=Nat.beq b 95:=xX b 95;unfold Ib
 cases c1:Nat.ble 97 b<;>cases c2:Nat.ble b 122<;>cases c3:Nat.ble 65 b<;>cases c4:Nat.ble b 90<;>cases c5:Nat.beq b 95 <;>
  rw[c1] at h1<;>rw[c2] at h2<;>rw[c3] at h3<;>rw[c4] at h4<;>rw[c5] at h5 <;>
  simp only[z106,FJ,F6,SIM,ST0,e0,h1,h2,h3,h4,h5,Bool.or_false]
theorem m8 {M:Memo}(hM:∀ a,M 108 a=none)(b:Nat)(H:Heap):orc CC M 108 [.int .u8 (b:Int)] H=some (.ret (.bool (isD b)) H (aa H)):=by
 refine aJ (z:=z108) (hM _) (by kernel_rfl) rfl ?_
 have e0:(envOf [.int .u8 (b:Int)] 0 env0).a.a.a=.int .u8 (b:Int):=rfl;generalize envOf [.int .u8 (b:Int)] 0 env0=R at e0;have h1:decide ((48:Int)<=(b:Int))=Nat.ble 48 b:=ci 48 b;have h2:decide ((b:Int)<=57)=Nat.ble b 57:=ci b 57;unfold isD
 cases c1:Nat.ble 48 b<;>cases c2:Nat.ble b 57 <;>
  rw[c1] at h1<;>rw[c2] at h2 <;>
  simp only[z108,DH,Hv,SIM,ST0,e0,h1,h2,Bool.or_false]
theorem AK {M:Memo}(hM:∀ a,M 106 a=none)(hM' : ∀ a,M 108 a=none)(hM2:∀ a,M 143 a=none)(b:Nat)(H:Heap):orc CC M 143 [.int .u8 (b:Int)] H=some (.ret (.bool (Ib b||isD b)) H (aa H)):=by
 refine aJ (z:=z143) (hM2 _) (by kernel_rfl) rfl ?_
 have e0:(envOf [.int .u8 (b:Int)] 0 env0).a.a.a=.int .u8 (b:Int):=rfl;generalize envOf [.int .u8 (b:Int)] 0 env0=R at e0;have h1:=qh hM b H;have h2:=m8 hM' b H
 cases c1:Ib b<;>cases c2:isD b<;>rw[c1] at h1<;>rw[c2] at h2 <;>
  simp only[z143,CE,Es,SIM,ST0,e0,h1,h2,Bool.or_false]
theorem tR {M:Memo}(hM:∀ a,M 104 a=none)(hM' : ∀ a,M 140 a=none){b:Nat}(hb:b<256)(t:List Nat)(H:Heap):orc CC M 104 [.str t,.int .u8 (b:Int)] H=some (.ret (.int .i64 (indexByte b t 0)) H (aa H)):=by
 have h1:orc CC M 140 [.str t,.int .u8 (b:Int)] H=some (.ret (.int .i64 (indexByte b t 0)) H (aa H)):=by
  refine aJ (z:=z140) (hM' _) (by kernel_rfl) rfl ?_
  have e0:(envOf [.str t,.int .u8 (b:Int)] 0 env0).a.a.a=.str t:=rfl;have e1:(envOf [.str t,.int .u8 (b:Int)] 0 env0).a.a.b=.int .u8 (b:Int):=rfl;generalize envOf [.str t,.int .u8 (b:Int)] 0 env0=R at e0 e1;simp only[z140,BZ,DY,SIM,ST0,e0,e1,XT hb]
 refine aJ (z:=z104) (hM _) (by kernel_rfl) rfl ?_
 have e0:(envOf [.str t,.int .u8 (b:Int)] 0 env0).a.a.a=.str t:=rfl;have e1:(envOf [.str t,.int .u8 (b:Int)] 0 env0).a.a.b=.int .u8 (b:Int):=rfl;generalize envOf [.str t,.int .u8 (b:Int)] 0 env0=R at e0 e1;simp only[z104,Ei,DC,SIM,ST0,e0,e1,h1]
def isPre:List Nat->List Nat->Bool
 | [],_=>true
 | _::_,[]=>false
 | a::r,b::s=>cond (Nat.beq a b) (isPre r s) false
theorem isPre_eq:∀ (p s:List Nat),isPre p s=(decide (p.length<=s.length)&&strEq (s.take p.length) p)
 | [],s=>by simp[isPre,strEq]
 | a::r,[]=>by simp[isPre]
 | a::r,b::s=>by
   simp only[isPre,isPre_eq r s,List.length_cons,List.take_succ_cons,strEq];have h1:decide (r.length+1<=s.length+1)=decide (r.length<=s.length):=by simp
   rw[h1,f9,f9]
   by_cases h:a=b
   ·simp[h]
   ·simp[h,Ne.symm h]
theorem Aw {M:Memo}(hM:∀ a,M 105 a=none)(hM' : ∀ a,M 141 a=none)(s p:List Nat)(H:Heap):orc CC M 105 [.str s,.str p] H=some (.ret (.bool (isPre p s)) H (aa H)):=by
 have h1:orc CC M 141 [.str s,.str p] H=some (.ret (.bool (isPre p s)) H (aa H)):=by
  refine aJ (z:=z141) (hM' _) (by kernel_rfl) rfl ?_
  have e0:(envOf [.str s,.str p] 0 env0).a.a.a=.str s:=rfl;have e1:(envOf [.str s,.str p] 0 env0).a.a.b=.str p:=rfl;generalize envOf [.str s,.str p] 0 env0=R at e0 e1;rw[isPre_eq]
  by_cases hl:p.length<=s.length
  ·have h2:decide ((p.length:Int)<=(s.length:Int))=true:=by simp[hl]
   have h3:=T9 hl;simp only[z141,xz,wz,SIM,ST0,e0,e1,cq,h2,h3,hl]
  ·have h2:decide ((p.length:Int)<=(s.length:Int))=false:=by simp;omega
   simp only[z141,xz,wz,SIM,ST0,e0,e1,cq,h2,hl]
 refine aJ (z:=z105) (hM _) (by kernel_rfl) rfl ?_
 have e0:(envOf [.str s,.str p] 0 env0).a.a.a=.str s:=rfl;have e1:(envOf [.str s,.str p] 0 env0).a.a.b=.str p:=rfl;generalize envOf [.str s,.str p] 0 env0=R at e0 e1;simp only[z105,CF,Gp,SIM,ST0,e0,e1,h1]
abbrev dG (s:List Nat)(i:Nat):AObj:=.cells [.str s,.int .i64 (i:Int)]
theorem dY {α:Type}{l:List α}{n:Nat}{o:α}(h:ae l n=some o):am l n o=l:=by
 have hl:=bj h;rw[aB] at h;rw[aR];apply List.ext_getElem?;intro i;rw[List.getElem?_set]
 by_cases hi:n=i
 ·subst hi;simp only[if_true,hl,h]
 ·simp[hi]
theorem qA {s:List Nat}{j:Nat}(h:j<s.length):s.drop j=s[j]::s.drop (j+1):=List.drop_eq_getElem_cons h
theorem tb1:Nat.testBit 2097151 19=true:=by decide
theorem tb2:Nat.testBit 2097151 15=true:=by decide
theorem tb3:Nat.testBit 2097151 7=true:=by decide
theorem tb4:Nat.testBit 2097151 3=true:=by decide
theorem Gq {M:Memo}{g:Nat}{fv:AV}{p:Nat->Bool}(hcv:∀ x s,cu CC fv [x] s=some (.call g [x]))(hg:∀ (b:Nat) H,orc CC M g [.int .u8 (b:Int)] H=some (.ret (.bool (p b)) H (aa H)))
  {s:List Nat} (hs:s.length<=4000) {n:Nat}:∀ (d j:Nat),d+j=s.length->∀ (fu:Nat),d<fu->∀ (r:RG) (H:Heap),r.a.a.a=.ptr n 0->r.a.a.b=fv->ae H n=some (dG s j)->∀ e,min e (aa H)=e ->
  ∃ r',ax (oy (orc CC M)) fu r [] ⟨H,e⟩=some (.exit 0,r',[],⟨am H n (dG s (j+((s.drop j).takeWhile p).length)),e⟩)/\r'.a.a.a=.ptr n 0/\r'.a.a.f=r.a.a.f:=by
 intro d
 induction d with
 | zero =>
   intro j hj fu hfu r H h1 h2 hg' e he;obtain ⟨fu',rfl⟩ : ∃ f,fu=f+1:=⟨fu-1,by omega⟩
   have hjl:j=s.length:=by omega
   subst hjl;have hc:decide ((s.length:Int)<(s.length:Int))=false:=by simp
   have hw:((s.drop s.length).takeWhile p).length=0:=by simp
   rw[hw];simp only[ax,oy,qZ,SIM,ST0,ST1,h1,h2,hg',cq,hc,dY hg'];exact ⟨_,rfl,h1,rfl⟩
 | succ d ih =>
   intro j hj fu hfu r H h1 h2 hg' e he;obtain ⟨fu',rfl⟩ : ∃ f,fu=f+1:=⟨fu-1,by omega⟩
   have hlt:j<s.length:=by omega
   have hc:decide ((j:Int)<(s.length:Int))=true:=by simp;omega
   have hidx:=mz (s:=s) (i:=j) (b:=s[j]) (by simp[hlt])
   have ha:bR (j:Int) 1=((j+1:Nat):Int):=aZ j 1 (by unfold natMax;omega)
   rw[qA hlt];have hpb:=hg s[j];cases hp:p s[j] with
   | false =>
     rw[hp] at hpb;have hw:((s[j]::s.drop (j+1)).takeWhile p).length=0:=by simp only[List.takeWhile_cons,hp,if_true,if_false,Bool.false_eq_true,List.length_cons,List.length_nil]
     rw[hw];simp only[ax,oy,qZ,SIM,ST0,ST1,h1,h2,hg',cq,hc,hidx,hcv,hpb,he,tb1,tb2,tb3,tb4,dY hg'];exact ⟨_,rfl,h1,rfl⟩
   | true =>
     rw[hp] at hpb;have hw:((s[j]::s.drop (j+1)).takeWhile p).length=((s.drop (j+1)).takeWhile p).length+1:=by simp only[List.takeWhile_cons,hp,if_true,if_false,Bool.false_eq_true,List.length_cons,List.length_nil]
     rw[hw];simp only[ax,oy,qZ,EP,SIM,ST0,ST1,h1,h2,hg',cq,hc,hidx,hcv,hpb,he,tb1,tb2,tb3,tb4,ha];have key:=λr h1 h2=>ih (j+1) (by omega) fu' (by omega) r (am H n (dG s (j+1))) h1 h2 (aF hg' _) e (by rw[ay];exact he)
     simp only[fK,show j+1+((s.drop (j+1)).takeWhile p).length=j+(((s.drop (j+1)).takeWhile p).length+1) by omega] at key
     refine key _ ?_ ?_
     ·first|exact h1|rfl
     ·first|exact h2|rfl
theorem GO {M:Memo}(hM:∀ a,M 142 a=none){g:Nat}{fv:AV}{p:Nat->Bool}(hcv:∀ x s,cu CC fv [x] s=some (.call g [x]))(hg:∀ (b:Nat) H,orc CC M g [.int .u8 (b:Int)] H=some (.ret (.bool (p b)) H (aa H)))
  {s:List Nat} (hs:s.length<=4000) {n j:Nat} (hj:j<=s.length) {H:Heap} (hn:ae H n=some (dG s j)) :
  orc CC M 142 [.ptr n 0,fv] H=some (.ret (.str ((s.drop j).takeWhile p)) (am H n (dG s (j+((s.drop j).takeWhile p).length))) (aa H)):=by
 refine aJ (z:=z142) (hM _) (by kernel_rfl) rfl ?_
 have e0:(envOf [.ptr n 0,fv] 0 env0).a.a.a=.ptr n 0:=rfl;have e1:(envOf [.ptr n 0,fv] 0 env0).a.a.b=fv:=rfl;generalize envOf [.ptr n 0,fv] 0 env0=R at e0 e1
 obtain ⟨f,hf⟩:=sk (P:=λr=>r.a.a.a=.ptr n 0/\r.a.a.b=fv)
  λr hr=>Gq (M:=M) hcv hg hs (s.length-j) j (by omega) 100000 (by omega) r H hr.1 hr.2 hn (aa H) (Nat.min_self _)
 have hf1:=λr h=>(hf r h).1
 have hf2:=λr h=>(hf r h).2.1
 have hf3:=λr h=>(hf r h).2.2
 clear hf
 have hk:((s.drop j).takeWhile p).length<=s.length-j:=by
  have:=(List.takeWhile_sublist p (l:=s.drop j)).length_le;simpa using this
 have hp:=JB (s:=s) (i:=j) (j:=j+((s.drop j).takeWhile p).length) (by omega) (by omega)
 have ht:(s.take (j+((s.drop j).takeWhile p).length)).drop j=(s.drop j).takeWhile p:=by
  rw[List.drop_take,Nat.add_sub_cancel_left];have:=List.takeWhile_prefix p (l:=s.drop j);exact (List.prefix_iff_eq_take.1 this).symm
 rw[ht] at hp;simp only[z142,C7,G8,EJ,SIM,ST0,e0,e1,hn,hf1,hf2,hf3,and_self,aF hn,hp]
theorem AN {M:Memo}{t:List Nat}{ts:List AV}{l:Lin}(hts:ts.length<1000):∀ (d j:Nat),d+j=ts.length->∀ (fu:Nat),d<fu->∀ (r:RG) (b:Bool),
  r.a.a.f=.sl 1 ts l->r.a.a.g=.int .i64 (ts.length:Int)->r.a.a.h=.int .i64 (j:Int)->r.a.a.a=.str t->ir t (ts.drop j)=some b->∀ s,
  ∃ r',ax (m7 (orc CC M)) fu r [] s=some (cond b .ret (.exit 0),r',[],s)/\(b=true->r'.a.a.c=.bool b):=by
 intro d
 induction d with
 | zero =>
   intro j hj fu hfu r b h1 h2 h3 h4 hb s;obtain ⟨fu',rfl⟩ : ∃ f,fu=f+1:=⟨fu-1,by omega⟩
   have hjl:j=ts.length:=by omega
   subst hjl;rw[List.drop_length] at hb;simp only[ir,SJ] at hb;subst hb;simp only[ax,m7,rF,SIM,ST0,h2,h3,Int.lt_irrefl];exact ⟨_,rfl,λh=>by cases h⟩
 | succ d ih =>
   intro j hj fu hfu r b h1 h2 h3 h4 hb e;obtain ⟨fu',rfl⟩ : ∃ f,fu=f+1:=⟨fu-1,by omega⟩
   have hlt:j<ts.length:=by omega
   have hd:ts.drop j=ts[j]::ts.drop (j+1):=List.drop_eq_getElem_cons hlt;rw[hd] at hb;cases hv:ts[j] with
   | str s =>
     rw[hv] at hb;simp only[ir] at hb;have hi:ae ts j=some (.str s):=by rw[aB,List.getElem?_eq_getElem hlt,hv]
     have hc:decide ((j:Int)<(ts.length:Int))=true:=by simp;omega
     have ha:bR (j:Int) 1=((j+1:Nat):Int):=aZ j 1 (by unfold natMax;omega)
     cases hs:strEq s t with
     | true =>
       rw[hs] at hb;simp only[cond_true,SJ] at hb;subst hb;simp only[ax,m7,rF,wt,w8,wM,xy,SIM,ST0,h1,h2,h3,h4,hc,bN (sz:=1) (lin:=l) hi,hs];exact ⟨_,rfl,λ_=>rfl⟩
     | false =>
       rw[hs] at hb;simp only[cond_false] at hb;simp only[ax,m7,rF,wt,w8,wM,xy,SIM,ST0,h1,h2,h3,h4,hc,bN (sz:=1) (lin:=l) hi,hs,ha];exact ih (j+1) (by omega) fu' (by omega) _ b rfl rfl rfl rfl hb e
   | _=>rw[hv] at hb;simp[ir] at hb
theorem IG {M:Memo}(hM:∀ a,M 144 a=none){ts:List AV}(hW:M 165 []=some (.sl 1 ts .dead))(hts:ts.length<1000){t:List Nat}{b:Bool}(hb:ir t ts=some b)(H:Heap) :
  orc CC M 144 [.str t] H=some (.ret (.bool b) H (aa H)):=by
 refine aJ (z:=z144) (hM _) (by kernel_rfl) rfl ?_
 have e0:(envOf [.str t] 0 env0).a.a.a=.str t:=rfl;generalize envOf [.str t] 0 env0=R at e0;have hw:=λh=>f5 (C:=CC) (h:=h) hW
 simp only[<-ai] at hw
 obtain ⟨f,hf⟩:=sk (P:=λr=>r.a.a.f=.sl 1 ts .dead/\r.a.a.g=.int .i64 (ts.length:Int)/\r.a.a.h=.int .i64 0/\r.a.a.a=.str t)
  λr hr=>AN (M:=M) hts ts.length 0 (by omega) 100000 (by omega) r b hr.1 hr.2.1 hr.2.2.1 hr.2.2.2 hb ⟨H,aa H⟩
 have hf1:=λr h=>(hf r h).1
 have hf2:=λr h=>(hf r h).2
 clear hf
 cases b <;>
  simp only[z144,Cs,GU,Cq,SIM,ST0,e0,hw,cO cc26,hf1,hf2,and_self]
theorem rx (a b:Int):ao CC 65 [(0,.int .i64 a),(1,.int .i64 b)]=some (dw a b [] 0):=by kernel_rfl
theorem bt65_0:ao CC 65 []=some (dw 0 0 [] 0):=by kernel_rfl
theorem SZ (a b:Int)(t:List Nat):ao CC 65 [(0,.int .i64 a),(1,.int .i64 b),(2,.str t)]=some (dw a b t 0):=by kernel_rfl
theorem We (x:AV)(s:St):cu CC (.func (.func 143) [] []) [x] s=some (.call 143 [x]):=by kernel_rfl
theorem Vn (x:AV)(s:St):cu CC (.func (.func 108) [] []) [x] s=some (.call 108 [x]):=by kernel_rfl
structure LexM (M:Memo)(ts ss:List AV):Prop where
 m72:∀ a,M 72 a=none
 m73:∀ a,M 73 a=none
 m104:∀ a,M 104 a=none
 m105:∀ a,M 105 a=none
 m106:∀ a,M 106 a=none
 m107:∀ a,M 107 a=none
 m108:∀ a,M 108 a=none
 m109:∀ a,M 109 a=none
 m110:∀ a,M 110 a=none
 m140:∀ a,M 140 a=none
 m141:∀ a,M 141 a=none
 m142:∀ a,M 142 a=none
 m143:∀ a,M 143 a=none
 m144:∀ a,M 144 a=none
 w:M 165 []=some (.sl 1 ts .dead)
 wl:ts.length<1000
 s:M 145 []=some (.sl 1 ss .dead)
 sl:ss.length<1000
def iu (b:Nat):Bool:=Ib b||isD b
theorem Hr {M:Memo}{ts ss:List AV}(m:LexM M ts ss){s:List Nat}(hs:s.length<=4000){n j:Nat}(hj:j<=s.length){H:Heap}(hn:ae H n=some (dG s j)){b:Bool}(hb:ir ((s.drop j).takeWhile iu) ts=some b) :
  orc CC M 107 [.ptr n 0] H=some (.ret (cond b (.tuple [dw 3 j ((s.drop j).takeWhile iu) 0,.int .i64 0]) (cond (decide (((s.drop j).takeWhile iu).length<=30)) (.tuple [dw 1 j ((s.drop j).takeWhile iu) 0,.int .i64 0]) (.tuple [dw 0 0 [] 0,.int .i64 3])))
   (am H n (dG s (j+((s.drop j).takeWhile iu).length))) (aa H)):=by
 refine aJ (z:=z107) (m.m107 _) (by kernel_rfl) rfl ?_
 have e0:(envOf [.ptr n 0] 0 env0).a.a.a=.ptr n 0:=rfl;generalize envOf [.ptr n 0] 0 env0=R at e0;have hr:=λL=>GO m.m142 (p:=iu) We (λb H=>AK m.m106 m.m108 m.m143 b H) hs hj (H:=H++L) (au hn L)
 have hk:=IG m.m144 m.w m.wl hb
 have hlen:decide ((30:Int)<(((s.drop j).takeWhile iu).length:Int))=!decide (((s.drop j).takeWhile iu).length<=30):=by
  rw[Bool.eq_iff_iff];simp;omega
 generalize (s.drop j).takeWhile iu=t at hr hk hlen;cases b with
 | true=>simp only[z107,vY,wP,w7,uK,wL,ww,uJ,wJ,SIM,ST0,e0,au hn,cm hn,rx,bt65_0,hr,hk,Nat.reduceAdd,Nat.reduceLeDiff,cq]
 | false =>
   cases hl:decide (t.length<=30)<;>rw[hl] at hlen <;>
   simp only[z107,vY,wP,w7,uK,wL,ww,uJ,wJ,SIM,ST0,e0,au hn,cm hn,rx,bt65_0,hr,hk,Nat.reduceAdd,Nat.reduceLeDiff,cq,hlen]
def iv (t:List Nat):List AV->Option (Option (List Nat))
 | []=>some none
 | .str s::r=>cond (isPre s t) (some (some s)) (iv t r)
 | _=>none
theorem isPre_len:∀ (p s:List Nat),isPre p s=true->p.length<=s.length:=by
 intro p s h;rw[isPre_eq,Bool.and_eq_true,decide_eq_true_eq] at h;exact h.1
def HI (j:Nat):Option (List Nat)->AV
 | none=>.tuple [dw 0 0 [] 0,.int .i64 1]
 | some t=>.tuple [dw 4 j t 0,.int .i64 0]
def pS (j:Nat):Option (List Nat)->Nat
 | none=>j
 | some t=>j+t.length
def X3 (j:Nat):Option (List Nat)->AExit
 | none=>.exit 0
 | some _=>.ret
def TO (j:Nat):Option (List Nat)->AObj
 | none=>.cells [.int .i64 0,.int .i64 0,.str [],.int .u64 0]
 | some t=>.cells [.int .i64 4,.int .i64 j,.str t,.int .u64 0]
theorem nY (i j:Nat)(h:i+j<=natMax):fR ((i+j:Nat):Int) (j:Int)=(i:Int):=by
 rw[rW,show ((i+j:Nat):Int)-(j:Int)=((i:Nat):Int) by omega]
 exact fF (by omega)
theorem AW {M:Memo}{ts ss:List AV}(m:LexM M ts ss){s:List Nat}(hs:s.length<=4000){n j:Nat}(hj:j<=s.length){H:Heap}(hn:ae H n=some (dG s j)):∀ (d i:Nat),d+i=ss.length->∀ (fu:Nat),d<fu->∀ (r:RG) (x:Option (List Nat)),
  r.a.a.a=.ptr n 0->r.a.a.g=.sl 1 ss .dead->r.a.a.h=.int .i64 (ss.length:Int)->r.a.b.a=.int .i64 (i:Int)->r.a.a.c=.ptr (aa H) 0->iv (s.drop j) (ss.drop i)=some x ->
  ∃ r',ax (mO (orc CC M)) fu r [] ⟨H++[TO j none],aa H⟩=some (X3 j x,r',[],⟨am H n (dG s (pS j x))++[TO j x],aa H⟩)/\r'.a.a.c=.ptr (aa H) 0/\(x.isSome=true->r'.a.a.d=.int .i64 0):=by
 intro d
 induction d with
 | zero =>
   intro i hi fu hfu r x h0 h1 h2 h3 h4 hx;obtain ⟨fu',rfl⟩ : ∃ f,fu=f+1:=⟨fu-1,by omega⟩
   have hil:i=ss.length:=by omega
   subst hil;rw[List.drop_length] at hx;simp only[iv,SJ] at hx;subst hx;simp only[ax,mO,rT,SIM,ST0,h2,h3,Int.lt_irrefl,X3,TO,pS,dY hn];exact ⟨_,rfl,h4,λh=>by cases h⟩
 | succ d ih =>
   intro i hi fu hfu r x h0 h1 h2 h3 h4 hx;obtain ⟨fu',rfl⟩ : ∃ f,fu=f+1:=⟨fu-1,by omega⟩
   have hlt:i<ss.length:=by omega
   have hd:ss.drop i=ss[i]::ss.drop (i+1):=List.drop_eq_getElem_cons hlt;rw[hd] at hx;have hsl:=m.sl;cases hv:ss[i] with
   | str w =>
     rw[hv] at hx;simp only[iv] at hx;have hi' : ae ss i=some (.str w):=by rw[aB,List.getElem?_eq_getElem hlt,hv]
     have hc:decide ((i:Int)<(ss.length:Int))=true:=by simp;omega
     have ha:bR (i:Int) 1=((i+1:Nat):Int):=aZ i 1 (by unfold natMax;omega)
     have hf:=zH (s:=s) hj;have hp:=Aw m.m105 m.m141 (s.drop j) w;cases hs' : isPre w (s.drop j) with
     | true =>
       rw[hs'] at hx hp;simp only[cond_true,SJ] at hx;subst hx
       have hwl:w.length<=4000:=by
        have:=isPre_len _ _ hs';simp at this;omega
       have ha2:bR (j:Int) (w.length:Int)=((j+w.length:Nat):Int):=aZ j w.length (by unfold natMax;omega)
       have ha3:fR ((j+w.length:Nat):Int) (w.length:Int)=(j:Int):=nY j w.length (by unfold natMax;omega)
       simp only[ax,mO,rT,wY,wi,uB,vf,wu,SIM,ST0,h0,h1,h2,h3,h4,hc,bN (sz:=1) (lin:=.dead) hi',hp,au hn,cm hn,au (aF hn _),hf,cq,ha2,ha3,SZ,X3,TO,pS,Nat.reduceAdd,Nat.reduceLeDiff];exact ⟨_,rfl,rfl,λ_=>rfl⟩
     | false =>
       rw[hs'] at hx hp;simp only[cond_false] at hx;simp only[ax,mO,rT,wY,wi,uB,vf,wu,SIM,ST0,h0,h1,h2,h3,h4,hc,bN (sz:=1) (lin:=.dead) hi',hp,au hn,hf,ha,TO];exact ih (i+1) (by omega) fu' (by omega) _ x rfl rfl rfl rfl rfl hx
   | _=>rw[hv] at hx;simp[iv] at hx
theorem CR {M:Memo}{ts ss:List AV}(m:LexM M ts ss){s:List Nat}(hs:s.length<=4000){n j:Nat}(hj:j<=s.length){H:Heap}(hn:ae H n=some (dG s j)){x:Option (List Nat)}(hx:iv (s.drop j) ss=some x) :
  orc CC M 110 [.ptr n 0] H=some (.ret (HI j x) (am H n (dG s (pS j x))) (aa H)):=by
 refine aJ (z:=z110) (m.m110 _) (by kernel_rfl) rfl ?_
 have e0:(envOf [.ptr n 0] 0 env0).a.a.a=.ptr n 0:=rfl;generalize envOf [.ptr n 0] 0 env0=R at e0;have hw:=λh=>f5 (C:=CC) (h:=h) m.s
 simp only[<-ai] at hw
 obtain ⟨f,hf⟩:=sk (P:=λr=>r.a.a.a=.ptr n 0/\r.a.a.g=.sl 1 ss .dead/\r.a.a.h=.int .i64 (ss.length:Int)/\r.a.b.a=.int .i64 0/\r.a.a.c=.ptr (aa H) 0)
  λr hr=>AW m hs hj hn ss.length 0 (by omega) 100000 (by have:=m.sl;omega) r x hr.1 hr.2.1 hr.2.2.1 hr.2.2.2.1 hr.2.2.2.2 hx
 have hf1:=λr h=>(hf r h).1
 have hf2:=λr h=>(hf r h).2.1
 have hf3:=λr h=>(hf r h).2.2
 clear hf
 cases x<;>simp only[TO,X3,Option.isSome] at hf1 hf3 <;>
  simp only[z110,HX,FA,Gv,SIM,ST0,e0,hw,cO cc26,hf1,hf2,hf3,and_self,bt65_0,HI,pS,Nat.reduceAdd,Nat.reduceLeDiff]
def iQ (s:List Nat):List AV:=s.map λ(b:Nat)=>.int .u8 b
theorem DF {s:List Nat}(h:s.length<=4000):bp CC 9 24 (.str s)=some (.sl 1 (iQ s) .frz):=by
 have h1:CC.P.underlying 24=some (.slice 5):=by kernel_rfl
 have h2:Bo CC 5=true:=by kernel_rfl
 have h3:s.length<=2 ^ 40:=by omega
 simp[bp,cc9,h1,h2,h3,iQ]
theorem cc24:CC.P.underlying 24=some (.slice 5):=by kernel_rfl
theorem AQ {s:List Nat}{i b:Nat}(h:s[i]?=some b):ae (iQ s) i=some (.int .u8 (b:Int)):=by
 rw[aB];simp[iQ,h]
theorem OO {n:Nat}(h:n<256):IntKind.wrap .u8 (n:Int)=(n:Int):=by
 simp[IntKind.wrap,IntKind.bits,IntKind.signed];omega
theorem kJ {n:Nat}(h:n<18446744073709551616):IntKind.wrap .u64 (n:Int)=(n:Int):=by
 simp[IntKind.wrap,IntKind.bits,IntKind.signed];omega
theorem Q9 {b:Nat}(h:48<=b)(h2:b<256):bw CC .sub 5 true (.int .u8 (b:Int)) (.int .u8 48)=some (.int .u8 ((b-48:Nat):Int)):=by
 show some (AV.int .u8 (IntKind.wrap .u8 ((b:Int)-48)))=_;rw[show (b:Int)-48=((b-48:Nat):Int) by omega,OO (by omega)]
theorem SA {b:Nat}(h:b<256):bp CC 5 63 (.int .u8 (b:Int))=some (.int .u64 (b:Int)):=by
 have h1:CC.P.underlying 5=some (.int .u8):=by kernel_rfl
 have h2:CC.P.underlying 63=some (.int .u64):=by kernel_rfl
 simp only[bp,h1,h2];rw[kJ (by omega)]
theorem Q8 {d:Nat}(h:d<=9):bw CC .sub 63 true (.int .u64 9223372036854775808) (.int .u64 (d:Int))=some (.int .u64 ((9223372036854775808-d:Nat):Int)):=by
 show some (AV.int .u64 (IntKind.wrap .u64 ((9223372036854775808:Int)-d)))=_;rw[show (9223372036854775808:Int)-d=((9223372036854775808-d:Nat):Int) by omega,kJ (by omega)]
theorem PW {x:Nat}(h:x<18446744073709551616):bw CC .quo 63 true (.int .u64 (x:Int)) (.int .u64 10)=some (.int .u64 ((x / 10:Nat):Int)):=by
 show (if (10:Int)=0 then none else some (AV.int .u64 (IntKind.wrap .u64 ((x:Int).tdiv 10))))=_
 rw[if_neg (by decide),show ((x:Int).tdiv 10)=((x / 10:Nat):Int) by rw[Int.tdiv_eq_ediv_of_nonneg (by omega)];omega,kJ (by omega)]
theorem Sk (x y:Nat):bw CC .gtr 63 false (.int .u64 (x:Int)) (.int .u64 (y:Int))=some (.bool (decide (y<x))):=by
 show some (AV.bool (decide ((x:Int) > y)))=_;simp
theorem Pu {x:Nat}(h:x<=922337203685477580):bw CC .mul 63 true (.int .u64 10) (.int .u64 (x:Int))=some (.int .u64 ((10*x:Nat):Int)):=by
 show some (AV.int .u64 (IntKind.wrap .u64 ((10:Int)*x)))=_;rw[show (10:Int)*x=((10*x:Nat):Int) by omega,kJ (by omega)]
theorem Pb {x y:Nat}(h:x+y<18446744073709551616):bw CC .add 63 false (.int .u64 (x:Int)) (.int .u64 (y:Int))=some (.int .u64 ((x+y:Nat):Int)):=by
 show some (AV.int .u64 (IntKind.wrap .u64 ((x:Int)+y)))=_;rw[show (x:Int)+y=((x+y:Nat):Int) by omega,kJ h]
def numS:Nat->List Nat->Option Nat
 | acc,[]=>some acc
 | acc,b::r=>cond (Nat.ble acc ((9223372036854775808-(b-48)) / 10)) (numS (10*acc+(b-48)) r) none
def numA:Nat->List Nat->Nat
 | acc,[]=>acc
 | acc,b::r=>cond (Nat.ble acc ((9223372036854775808-(b-48)) / 10)) (numA (10*acc+(b-48)) r) acc
theorem numA_eq:∀ (l:List Nat) (acc v:Nat),numS acc l=some v->numA acc l=v
 | [],acc,v,h=>by simp only[numS,SJ] at h;exact h
 | b::r,acc,v,h=>by
   simp only[numS,numA] at h ⊢;cases hq:Nat.ble acc ((9223372036854775808-(b-48)) / 10) with
   | true=>rw[hq] at h;exact numA_eq r _ v h
   | false=>rw[hq] at h;cases h
def nmX:Option Nat->AExit
 | none=>.ret
 | some _=>.exit 0
structure NumI (H:Heap)(t:List Nat)(i:Nat)(r:RG):Prop where
 a3:r.a.a.c=.ptr (aa H) 0
 a4:r.a.a.e=.ptr (aa H+1) 0
 l:r.a.d.f=.sl 1 (iQ t) .frz
 g:r.a.d.g=.int .i64 (t.length:Int)
 h:r.a.d.h=.int .i64 (i:Int)
def TL (H:Heap)(j:Nat)(t:List Nat)(acc:Nat):Heap:=H++[.cells [.int .i64 0,.int .i64 0,.str [],.int .u64 0],.cells [.int .i64 2,.int .i64 j,.str t,.int .u64 acc]]
theorem F7 {M:Memo}{t:List Nat}(ht:t.length<=4000)(hd:∀ b∈t,48<=b/\b<=57){H:Heap}{j:Nat}:∀ (d i:Nat),d+i=t.length->∀ (fu:Nat),d<fu->∀ (r:RG) (acc:Nat),acc<=9223372036854775808->NumI H t i r ->
  ∃ r',ax (kg (orc CC M)) fu r [] ⟨TL H j t acc,aa H⟩=some (nmX (numS acc (t.drop i)),r',[],⟨TL H j t (numA acc (t.drop i)),aa H⟩)/\r'.a.a.c=.ptr (aa H) 0/\r'.a.a.e=.ptr (aa H+1) 0 /\
    (numS acc (t.drop i)=none->r'.a.a.d=.int .i64 3):=by
 intro d
 induction d with
 | zero =>
   intro i hi fu hfu r acc ha hI;obtain ⟨fu',rfl⟩ : ∃ f,fu=f+1:=⟨fu-1,by omega⟩
   have hil:i=t.length:=by omega
   subst hil;rw[List.drop_length];simp only[ax,kg,rb,SIM,ST0,ST1,hI.g,hI.h,Int.lt_irrefl,numS,numA,nmX];refine ⟨_,rfl,hI.a3,hI.a4,?_⟩;intro h;cases h
 | succ d ih =>
   intro i hi fu hfu r acc ha hI;obtain ⟨fu',rfl⟩ : ∃ f,fu=f+1:=⟨fu-1,by omega⟩
   have hlt:i<t.length:=by omega
   have hdr:t.drop i=t[i]::t.drop (i+1):=List.drop_eq_getElem_cons hlt;rw[hdr];obtain ⟨hb1,hb2⟩:=hd t[i] (List.getElem_mem hlt);have hgb:=AQ (s:=t) (i:=i) (b:=t[i]) (by simp[hlt])
   have hc:decide ((i:Int)<(t.length:Int))=true:=by simp;omega
   have ha1:bR (i:Int) 1=((i+1:Nat):Int):=aZ i 1 (by unfold natMax;omega)
   have h1:=Q9 (b:=t[i]) hb1 (by omega)
   have h2:=SA (b:=t[i]-48) (by omega)
   have h3:=Q8 (d:=t[i]-48) (by omega)
   have h4:=PW (x:=9223372036854775808-(t[i]-48)) (by omega)
   have h5:=Sk acc ((9223372036854775808-(t[i]-48)) / 10)
   have hble:decide ((9223372036854775808-(t[i]-48)) / 10<acc)=!Nat.ble acc ((9223372036854775808-(t[i]-48)) / 10):=by
    rw[dW,Bool.eq_iff_iff];simp
   rw[hble] at h5;simp only[numS,numA];cases hq:Nat.ble acc ((9223372036854775808-(t[i]-48)) / 10) with
   | false =>
     rw[hq] at h5;simp only[ax,kg,rb,uw,u6,v6,yA,SIM,ST0,ST1,hI.a3,hI.a4,hI.l,hI.g,hI.h,hc,bN (sz:=1) (lin:=.frz) hgb,h1,h2,h3,h4,h5,TL,bt65_0,Nat.reduceAdd,Nat.reduceLeDiff,nmX,aW H _ 1,numS];exact ⟨_,rfl,rfl,rfl,λ_=>rfl⟩
   | true =>
     rw[hq] at h5;have hle:acc<=(9223372036854775808-(t[i]-48)) / 10:=Nat.le_of_ble_eq_true hq;have h6:=Pu (x:=acc) (by omega)
     have h7:=Pb (x:=10*acc) (y:=t[i]-48) (by omega)
     simp only[ax,kg,rb,uw,u6,v6,zw,zY,SIM,ST0,ST1,hI.a3,hI.a4,hI.l,hI.g,hI.h,hc,bN (sz:=1) (lin:=.frz) hgb,h1,h2,h3,h4,h5,h6,h7,TL,Nat.reduceAdd,Nat.reduceLeDiff,ha1];have key:=λr hI'=>ih (i+1) (by omega) fu' (by omega) r (10*acc+(t[i]-48)) (by omega) hI'
     simp only[TL] at key;refine key _ ?_;exact ⟨by first|exact hI.a3|rfl,by first|exact hI.a4|rfl,by first|exact hI.l|rfl,by first|exact hI.g|rfl,rfl⟩
def Qc (j:Nat)(t:List Nat):AV:=match t with
 | []=>.tuple [dw 0 0 [] 0,.int .i64 1]
 | d0::t'=>cond (Nat.beq d0 48&&Nat.ble 2 (t'.length+1)) (.tuple [dw 0 0 [] 0,.int .i64 1]) (match numS 0 (d0::t') with
   | none=>.tuple [dw 0 0 [] 0,.int .i64 3]
   | some v=>.tuple [dw 2 j (d0::t') v,.int .i64 0])
theorem R8 {b:Nat}(h:isD b=true):48<=b/\b<=57:=by
 simp only[isD,Bool.and_eq_true,Nat.ble_eq] at h;exact h
theorem js {p:Nat->Bool}:∀ (l:List Nat),∀ b∈l.takeWhile p,p b=true
 | [],b,h=>by simp at h
 | a::l,b,h=>by
   rw[List.takeWhile_cons] at h
   split at h
   ·rename_i hp
    rcases List.mem_cons.1 h with rfl|h
    ·exact hp
    ·exact js l b h
   ·simp at h
theorem J8 {M:Memo}{ts ss:List AV}(m:LexM M ts ss){s:List Nat}(hs:s.length<=4000){n j:Nat}(hj:j<=s.length){H:Heap}(hn:ae H n=some (dG s j)){d0:Nat}{t' : List Nat}(ht:(s.drop j).takeWhile isD=d0::t') :
  orc CC M 109 [.ptr n 0] H=some (.ret (Qc j (d0::t')) (am H n (dG s (j+(d0::t').length))) (aa H)):=by
 refine aJ (z:=z109) (m.m109 _) (by kernel_rfl) rfl ?_
 have e0:(envOf [.ptr n 0] 0 env0).a.a.a=.ptr n 0:=rfl;generalize envOf [.ptr n 0] 0 env0=R at e0;have hr:=λL=>GO m.m142 (p:=isD) Vn (λb H=>m8 m.m108 b H) hs hj (H:=H++L) (au hn L)
 rw[ht] at hr;have hall:∀ b∈d0::t',48<=b/\b<=57:=λb hb=>R8 (js (s.drop j) b (by rw[ht];exact hb))
 have hlen:(d0::t').length<=4000:=by
  have:=(List.takeWhile_sublist isD (l:=s.drop j)).length_le;rw[ht,List.length_drop] at this;omega
 have hidx:=mz (s:=d0::t') (i:=0) (b:=d0) rfl;have hidx' : cL CC 9 (.str (d0::t')) (.int .i64 0)=some (.int .u8 (d0:Int)):=hidx;have c1:decide ((d0:Int)=48)=Nat.beq d0 48:=xX d0 48;have c2:decide ((1:Int)<((d0::t').length:Int))=Nat.ble 2 (t'.length+1):=by rw[dW,Bool.eq_iff_iff];simp;omega
 have hcv:=DF hlen;have hlb:(iQ (d0::t')).length=(d0::t').length:=by simp[iQ]
 obtain ⟨f,hf⟩:=sk (P:=NumI (am H n (dG s (j+(d0::t').length))) (d0::t') 0) λr hr=>F7 (M:=M) hlen hall (H:=am H n (dG s (j+(d0::t').length))) (j:=j) (d0::t').length 0 (by omega) 100000 (by omega) r 0 (by omega) hr
 have hnum:∀ r,(r.a.a.c=.ptr (aa H) 0/\r.a.a.e=.ptr (aa H+1) 0/\r.a.d.f=.sl 1 (iQ (d0::t')) .frz/\r.a.d.g=.int .i64 ((d0::t').length:Int)/\r.a.d.h=.int .i64 0)->NumI (am H n (dG s (j+(d0::t').length))) (d0::t') 0 r :=
  λr ⟨h1,h2,h3,h4,h5⟩=>⟨by rw[ay];exact h1,by rw[ay];exact h2,h3,h4,h5⟩
 have hf:=λr h=>hf r (hnum r h)
 simp only[TL,ay,List.drop_zero,show ((0:Nat):Int)=0 from rfl] at hf
 have hf1:=λr h=>(hf r h).1
 have hf2:=λr h=>(hf r h).2.1
 have hf3:=λr h=>(hf r h).2.2.1
 have hf4:=λr h=>(hf r h).2.2.2
 clear hf
 have hA:=numA_eq (d0::t') 0
 rw[show Qc j (d0::t')=cond (Nat.beq d0 48&&Nat.ble 2 (t'.length+1)) (.tuple [dw 0 0 [] 0,.int .i64 1]) (match numS 0 (d0::t') with
  | none=>.tuple [dw 0 0 [] 0,.int .i64 3]
  | some v=>.tuple [dw 2 j (d0::t') v,.int .i64 0]) from rfl]
 generalize htl:(d0::t').length=tl at *;cases b1:Nat.beq d0 48<;>rw[b1] at c1<;>cases b2:Nat.ble 2 (t'.length+1)<;>rw[b2] at c2<;>cases hv:numS 0 (d0::t')
 all_goals (first|(have hA':=hA _ hv;rw[hv] at hf1 hf4;rw[hA'] at hf1)|rw[hv] at hf1 hf4)
 all_goals simp only[nmX] at hf1
 all_goals simp only[z109,Cg,BX,H9,D5,Gf,Fj,y0,SIM,ST0,ST1,e0,au hn,cm hn,rx,bt65_0,hr,hidx',c1,c2,hcv,cO cc24,cq,hlb,htl,hf1,hf2,hf3,hf4,and_self,Nat.reduceAdd,Nat.reduceLeDiff]
def tp (b:Nat):Bool:=Nat.beq b 32||(Nat.beq b 9||Nat.beq b 10)
def nlS:List Nat->Nat
 | []=>0
 | b::r=>cond (Nat.beq b 10) 0 (nlS r+1)
def blS:Nat->List Nat->Nat
 | 0,_=>0
 | _+1,[]=>0
 | k+1,b::r=>cond (tp b) (1+blS k r) (cond (isPre [45,45] (b::r)) (nlS (b::r)+blS k ((b::r).drop (nlS (b::r)))) 0)
theorem IL (b:Nat):decide ((0:Int)<=indexByte b [32,9,10] 0)=tp b:=by
 unfold tp;simp only[f9]
 by_cases h1:b=32
 ·subst h1;rfl
 ·by_cases h2:b=9
  ·subst h2;rfl
  ·by_cases h3:b=10
   ·subst h3;rfl
   ·have:indexByte b [32,9,10] 0=-1:=by simp[indexByte,Ne.symm h1,Ne.symm h2,Ne.symm h3]
    simp only[this,h1,h2,h3];rfl
theorem nl_eq:∀ (t:List Nat) (i:Nat),(indexByte 10 t i=-1/\nlS t=t.length)\/(indexByte 10 t i=((i+nlS t:Nat):Int)/\nlS t<t.length)
 | [],i=>.inl ⟨rfl,rfl⟩
 | b::r,i=>by
   simp only[indexByte,nlS,f9]
   by_cases h:b=10
   ·simp[h]
   ·simp only[h,if_false,decide_false,cond_false,List.length_cons]
    rcases nl_eq r (i+1) with ⟨h1,h2⟩|⟨h1,h2⟩
    ·exact .inl ⟨h1,by omega⟩
    ·exact .inr ⟨by rw[h1];omega,by omega⟩
theorem Mn (t:List Nat):nlS t<=t.length:=by
 rcases nl_eq t 0 with ⟨_,h⟩|⟨_,h⟩<;>omega
theorem PB {t:List Nat}(h:isPre [45,45] t=true):1<=nlS t:=by
 match t,h with
 | [],h=>simp[isPre] at h
 | a::r,h =>
   simp only[isPre] at h;obtain ⟨h1,_⟩:=cond_some' h;have:45=a:=Nat.eq_of_beq_eq_true h1;subst this;simp[nlS,f9]
where
 cond_some' {a b:Bool} (h:cond a b false=true):a=true/\b=true:=by cases a<;>simp_all
def M6 (s:List Nat)(j:Nat):AExit:=cond (Nat.beq j s.length) (.exit 0) .ret
theorem JE {M:Memo}{ts ss:List AV}(m:LexM M ts ss){s:List Nat}(hs:s.length<=4000)(hby:∀ b∈s,b<256){n:Nat}:∀ (d j:Nat),s.length-j<=d->j<=s.length->∀ (fu:Nat),d<fu->∀ (r:RG) (H:Heap),r.a.a.a=.ptr n 0->ae H n=some (dG s j)->∀ e,min e (aa H)=e ->
  ∃ r',ax (l8 (orc CC M)) fu r [] ⟨H,e⟩=some (M6 s (j+blS d (s.drop j)),r',[],⟨am H n (dG s (j+blS d (s.drop j))),e⟩):=by
 intro d
 induction d with
 | zero =>
   intro j hd hj fu hfu r H h1 hg e he;obtain ⟨fu',rfl⟩ : ∃ f,fu=f+1:=⟨fu-1,by omega⟩
   have hjl:j=s.length:=by omega
   subst hjl;have hb:M6 s (s.length+blS 0 (s.drop s.length))=.exit 0:=by simp[M6,blS,f9]
   rw[hb];have hc:decide ((s.length:Int)<(s.length:Int))=false:=by simp
   simp only[ax,l8,mQ,SIM,ST0,h1,hg,cq,hc,blS,dY hg];exact ⟨_,rfl⟩
 | succ d ih =>
   intro j hd hj fu hfu r H h1 hg e he;obtain ⟨fu',rfl⟩ : ∃ f,fu=f+1:=⟨fu-1,by omega⟩
   by_cases hlt:j<s.length
   ·have hc:decide ((j:Int)<(s.length:Int))=true:=by simp;omega
    have hidx:=mz (s:=s) (i:=j) (b:=s[j]) (by simp[hlt])
    have hf:=zH (s:=s) hj;have hi1:=tR m.m104 m.m140 (b:=s[j]) (hby _ (List.getElem_mem hlt)) [32,9,10];have hi2:∀ H,orc CC M 104 [.str (s.drop j),.int .u8 10] H=some (.ret (.int .i64 (indexByte 10 (s.drop j) 0)) H (aa H)):=tR m.m104 m.m140 (b:=10) (by decide) (s.drop j)
    have hp:=Aw m.m105 m.m141 (s.drop j) [45,45];have hbl:=IL s[j];have hdr:=qA hlt;have hbs:blS (d+1) (s.drop j)=cond (tp s[j]) (1+blS d (s.drop (j+1))) (cond (isPre [45,45] (s.drop j)) (nlS (s.drop j)+blS d ((s.drop j).drop (nlS (s.drop j)))) 0):=by rw[hdr];rfl
    rw[hbs];have ha:bR (j:Int) 1=((j+1:Nat):Int):=aZ j 1 (by unfold natMax;omega)
    cases hb:tp s[j] with
    | true =>
      rw[hb] at hbl;simp only[ax,l8,mQ,tQ,Oh,SIM,ST0,h1,hg,cq,hc,hidx,hi1,hbl,he,ha];have key:=λr h1=>ih (j+1) (by omega) (by omega) fu' (by omega) r (am H n (dG s (j+1))) h1 (aF hg _) e (by rw[ay];exact he)
      simp only[fK,Nat.add_assoc] at key;refine key _ ?_
      first|exact h1|rfl
    | false =>
      rw[hb] at hbl;cases hpr:isPre [45,45] (s.drop j) with
      | false =>
        rw[hpr] at hp
        have hx:M6 s j=.ret:=by
         have:decide (j=s.length)=false:=by simp;omega
         unfold M6;rw[f9,this];rfl
        simp only[cond_false,Nat.add_zero,hx];simp only[ax,l8,mQ,tQ,An,SIM,ST0,ST1,h1,hg,cq,hc,hidx,hi1,hbl,he,hf,hp,dY hg];exact ⟨_,rfl⟩
      | true =>
        rw[hpr] at hp;have hnp:=PB hpr;have hnl:=Mn (s.drop j);rw[List.length_drop] at hnl;have hdd:(s.drop j).drop (nlS (s.drop j))=s.drop (j+nlS (s.drop j)):=by rw[List.drop_drop]
        rw[hdd]
        have hsub:fR (s.length:Int) (j:Int)=((s.length-j:Nat):Int):=by
         rw[rW,show (s.length:Int)-(j:Int)=((s.length-j:Nat):Int) by omega]
         exact fF (by unfold natMax;omega)
        have ha2:bR (j:Int) ((nlS (s.drop j):Nat):Int)=((j+nlS (s.drop j):Nat):Int):=aZ j _ (by unfold natMax;omega)
        have key:=λr h1=>ih (j+nlS (s.drop j)) (by omega) (by omega) fu' (by omega) r (am H n (dG s (j+nlS (s.drop j)))) h1 (aF hg _) e (by rw[ay];exact he)
        simp only[fK,Nat.add_assoc] at key
        rcases nl_eq (s.drop j) 0 with ⟨g1,g2⟩|⟨g1,g2⟩
        ·simp only[g1] at hi2;have hneg:decide ((-1:Int)<0)=true:=rfl;rw[List.length_drop] at g2;rw[<-g2] at hsub;simp only[cond_true];simp only[ax,l8,mQ,tQ,An,HM,DA,CP,GF,SIM,ST0,ST1,h1,hg,cq,hc,hidx,hi1,hbl,he,hf,hp,hi2,hneg,hsub,ha2];refine key _ ?_
         first|exact h1|rfl
        ·simp only[g1,Nat.zero_add] at hi2;have hneg:decide (((nlS (s.drop j):Nat):Int)<0)=false:=by simp
         simp only[cond_true];simp only[ax,l8,mQ,tQ,An,HM,DA,CP,GF,SIM,ST0,ST1,h1,hg,cq,hc,hidx,hi1,hbl,he,hf,hp,hi2,hneg,ha2];refine key _ ?_
         first|exact h1|rfl
   ·have hjl:j=s.length:=by omega
    subst hjl;have hb:M6 s (s.length+blS (d+1) (s.drop s.length))=.exit 0:=by simp[M6,blS,f9]
    rw[hb];have hbs:blS (d+1) (s.drop s.length)=0:=by simp[blS]
    have hc:decide ((s.length:Int)<(s.length:Int))=false:=by simp
    rw[hbs];simp only[ax,l8,mQ,SIM,ST0,h1,hg,cq,hc,dY hg];exact ⟨_,rfl⟩
def qJ (s:List Nat)(j:Nat):Nat:=j+blS (s.length-j) (s.drop j)
theorem MU {M:Memo}{ts ss:List AV}(m:LexM M ts ss){s:List Nat}(hs:s.length<=4000)(hby:∀ b∈s,b<256){n j:Nat}(hj:j<=s.length){H:Heap}(hn:ae H n=some (dG s j)) :
  orc CC M 72 [.ptr n 0] H=some (.ret Abs.undef (am H n (dG s (qJ s j))) (aa H)):=by
 refine aJ (z:=z72) (m.m72 _) (by kernel_rfl) rfl ?_
 have e0:(envOf [.ptr n 0] 0 env0).a.a.a=.ptr n 0:=rfl;generalize envOf [.ptr n 0] 0 env0=R at e0;obtain ⟨r',hr⟩:=JE m hs hby (s.length-j) j (Nat.le_refl _) hj 100000 (by omega) R H e0 hn (aa H) (Nat.min_self _)
 simp only[z72,SIM,hr,M6];unfold qJ;cases hq:decide (j+blS (s.length-j) (s.drop j)=s.length)<;>simp only[hq,SIM]
structure TkR where
 k:Nat
 p:Nat
 t:List Nat
 m:Nat
 err:Nat
 pos:Nat
def TkR.v (x:TkR):AV:=dw (x.k:Int) (x.p:Int) x.t (x.m:Int)
def uU (t:List Nat):List (List Nat)->Bool
 | []=>false
 | s::r=>cond (strEq s t) true (uU t r)
def pf (t:List Nat):List (List Nat)->Option (List Nat)
 | []=>none
 | s::r=>cond (isPre s t) (some s) (pf t r)
theorem zP (t:List Nat):∀ l:List (List Nat),ir t (l.map .str)=some (uU t l)
 | []=>rfl
 | s::r=>by
   simp only[List.map_cons,ir,uU,zP t r];cases strEq s t<;>rfl
theorem yE (t:List Nat):∀ l:List (List Nat),iv t (l.map .str)=some (pf t l)
 | []=>rfl
 | s::r=>by
   simp only[List.map_cons,iv,pf,yE t r];cases isPre s t<;>rfl
def Uq (ws:List (List Nat))(j:Nat)(t:List Nat):TkR :=
 cond (uU t ws) ⟨3,j,t,0,0,j+t.length⟩ (cond (Nat.ble t.length 30) ⟨1,j,t,0,0,j+t.length⟩ ⟨0,0,[],0,3,j+t.length⟩)
def U9 (j:Nat)(t:List Nat):TkR:=match t with
 | []=>⟨0,0,[],0,1,j⟩
 | d0::t'=>cond (Nat.beq d0 48&&Nat.ble 2 (t'.length+1)) ⟨0,0,[],0,1,j+(d0::t').length⟩ (match numS 0 (d0::t') with
   | none=>⟨0,0,[],0,3,j+(d0::t').length⟩
   | some v=>⟨2,j,d0::t',v,0,j+(d0::t').length⟩)
def VO (j:Nat):Option (List Nat)->TkR
 | none=>⟨0,0,[],0,1,j⟩
 | some t=>⟨4,j,t,0,0,j+t.length⟩
def jr (ws sg:List (List Nat))(s:List Nat)(j:Nat):TkR:=match s.drop j with
 | []=>⟨5,j,[],0,0,j⟩
 | b::r=>cond (Ib b) (Uq ws j ((b::r).takeWhile iu)) (cond (isD b) (U9 j ((b::r).takeWhile isD)) (VO j (pf (b::r) sg)))
theorem Iv {M:Memo}{ws sg:List (List Nat)}(m:LexM M (ws.map .str) (sg.map .str)){s:List Nat}(hs:s.length<=4000)(hby:∀ b∈s,b<256){n j:Nat}(hj:qJ s j<=s.length)(hj' : j<=s.length){H:Heap}(hn:ae H n=some (dG s j)) :
  orc CC M 73 [.ptr n 0] H=some (.ret (.tuple [(jr ws sg s (qJ s j)).v,.int .i64 ((jr ws sg s (qJ s j)).err:Int)]) (am H n (dG s (jr ws sg s (qJ s j)).pos)) (aa H)):=by
 refine aJ (z:=z73) (m.m73 _) (by kernel_rfl) rfl ?_
 have e0:(envOf [.ptr n 0] 0 env0).a.a.a=.ptr n 0:=rfl;generalize envOf [.ptr n 0] 0 env0=R at e0;have hbl:=λL=>MU m hs hby hj' (H:=H++L) (au hn L)
 generalize qJ s j=i at hj hbl ⊢;have hn':=aF hn (dG s i);unfold jr
 by_cases hlt:i<s.length
 ·have hc:decide ((i:Int)=(s.length:Int))=false:=by simp;omega
  have hdr:=qA hlt;have hidx:=mz (s:=s) (i:=i) (b:=s[i]) (by simp[hlt])
  have hle:=qh m.m106 s[i];have hdi:=m8 m.m108 s[i];rw[hdr];simp only;cases h1:Ib s[i] with
  | true =>
    rw[h1] at hle;have hb:=zP ((s.drop i).takeWhile iu) ws;have hnm:=λL=>Hr m hs (Nat.le_of_lt hlt) (H:=am H n (dG s i)++L) (au hn' L) hb
    rw[hdr] at hnm;simp only[cond_true,Uq];generalize (s[i]::s.drop (i+1)).takeWhile iu=t at *;rw[dW]
    cases b1:uU t ws<;>rw[b1] at hnm<;>cases b2:decide (t.length<=30)<;>rw[b2] at hnm <;>
     simp only[z73,ue,tU,tg,tL,ze,xO,SIM,ST0,e0,hbl,au hn,cm hn,au hn',cm hn',cq,hc,hidx,hle,hnm,TkR.v,Nat.reduceAdd,Nat.reduceLeDiff,Int.cast_ofNat_Int]
  | false =>
    rw[h1] at hle;simp only[cond_false];cases h2:isD s[i] with
    | true =>
      rw[h2] at hdi;have htw:(s.drop i).takeWhile isD=s[i]::(s.drop (i+1)).takeWhile isD:=by rw[hdr,List.takeWhile_cons,h2];rfl
      have hnm:=λL=>J8 m hs (Nat.le_of_lt hlt) (H:=am H n (dG s i)++L) (au hn' L) htw
      rw[hdr] at htw;rw[htw];generalize (s.drop (i+1)).takeWhile isD=t at *;simp only[cond_true,U9];simp only[Qc] at hnm;cases b1:Nat.beq s[i] 48<;>rw[b1] at hnm<;>cases b2:Nat.ble 2 (t.length+1)<;>rw[b2] at hnm<;>cases b3:numS 0 (s[i]::t)<;>rw[b3] at hnm <;>
      simp only[z73,ue,tU,tg,tL,ze,xO,BQ,Nl,SIM,ST0,ST1,e0,hbl,au hn,cm hn,au hn',cm hn',cq,hc,hidx,hle,hdi,hnm,TkR.v,Nat.reduceAdd,Nat.reduceLeDiff,Int.cast_ofNat_Int]
    | false =>
      rw[h2] at hdi;have hx:=yE (s.drop i) sg;have hnm:=λL=>CR m hs (Nat.le_of_lt hlt) (H:=am H n (dG s i)++L) (au hn' L) hx
      rw[hdr] at hnm;simp only[cond_false];cases hf:pf (s[i]::s.drop (i+1)) sg<;>rw[hf] at hnm<;>simp only[HI,pS] at hnm <;>
      simp only[z73,ue,tU,tg,tL,ze,xO,BQ,Oe,SIM,ST0,ST1,e0,hbl,au hn,cm hn,au hn',cm hn',cq,hc,hidx,hle,hdi,hnm,TkR.v,VO,Nat.reduceAdd,Nat.reduceLeDiff,Int.cast_ofNat_Int]
 ·have hil:i=s.length:=by omega
  subst hil;have hc:decide ((s.length:Int)=(s.length:Int))=true:=by simp
  simp only[List.drop_length];simp only[z73,ue,tU,tg,tL,SIM,ST0,e0,hbl,au hn,cm hn,au hn',cm hn',cq,hc,rx,TkR.v,Nat.reduceAdd,Nat.reduceLeDiff,Int.cast_ofNat_Int]
def tb (ws sg:List (List Nat))(s:List Nat):Nat->Nat->Option (Except (Nat×Nat) (List TkR))
 | 0,_=>none
 | k+1,j=>match jr ws sg s (qJ s (qJ s j)) with
   | x=>cond (Nat.beq x.err 0) (cond (Nat.beq x.k 5) (some (.ok [x])) (match tb ws sg s k x.pos with
     | some (.ok l)=>some (.ok (x::l))
     | r=>r)) (some (.error (qJ s j,x.err)))
def allV:Except (Nat×Nat) (List TkR)->List AV->AV
 | .error (p,e),_=>.tuple [.nils,.agg [.int .i64 (p:Int),.int .i64 (e:Int)]]
 | .ok l,acc=>.tuple [.sl 4 (acc++l.map TkR.v) .dead,.agg [.int .i64 0,.int .i64 0]]
theorem Hy {s:List Nat}:∀ (d:Nat) (t:List Nat),blS d t<=t.length
 | 0,t=>by simp[blS]
 | d+1,[]=>by simp[blS]
 | d+1,b::r=>by
   simp only[blS];cases tp b with
   | true=>have:=Hy d r (s:=s);simp;omega
   | false=>cases isPre [45,45] (b::r) with
     | true =>
       have h1:=Hy d ((b::r).drop (nlS (b::r))) (s:=s);have h2:=Mn (b::r);rw[List.length_drop] at h1;simp only[cond_false,cond_true];omega
     | false=>simp
theorem GH {s:List Nat}{j:Nat}(hj:j<=s.length):qJ s j<=s.length:=by
 have:=Hy (s:=s) (s.length-j) (s.drop j);rw[List.length_drop] at this;unfold qJ;omega
theorem Et {ws sg:List (List Nat)}{s:List Nat}{j:Nat}(hj:j<=s.length):(jr ws sg s j).pos<=s.length:=by
 unfold jr
 split
 ·exact hj
 ·rename_i b r hd;have hl:(b::r).length=s.length-j:=by rw[<-hd,List.length_drop]
  have h1:=(List.takeWhile_sublist iu (l:=b::r)).length_le;have h2:=(List.takeWhile_sublist isD (l:=b::r)).length_le;cases Ib b with
  | true =>
    simp only[cond_true,Uq];generalize (b::r).takeWhile iu=t at *;cases uU t ws<;>cases Nat.ble t.length 30<;>simp only[cond_true,cond_false]<;>omega
  | false=>cases isD b with
    | true =>
      simp only[cond_true,cond_false,U9];generalize (b::r).takeWhile isD=t at *;cases t with
      | nil=>exact hj
      | cons d0 t' =>
        simp only;cases (Nat.beq d0 48&&Nat.ble 2 (t'.length+1))<;>cases numS 0 (d0::t')<;>simp only[cond_true,cond_false]<;>omega
    | false =>
      simp only[cond_false];cases hf:pf (b::r) sg with
      | none=>exact hj
      | some t =>
        have:t.length<=(b::r).length:=by
         have key:∀ l:List (List Nat),pf (b::r) l=some t->t.length<=(b::r).length:=by
          intro l
          induction l with
          | nil=>intro h;cases h
          | cons w l ih =>
            intro h;simp only[pf] at h;cases hp:isPre w (b::r) with
            | true =>
              rw[hp] at h;simp only[cond_true,SJ] at h;subst h;exact isPre_len _ _ hp
            | false=>rw[hp] at h;exact ih h
         exact key sg hf
        simp only[VO];omega
theorem AX (x:TkR):gK x.v=true:=by simp only[TkR.v,SIM]
theorem pC (x:TkR)(hp:Heap)(e:Nat):aq CC 45 67 .nils (.sl 4 [x.v] .lit) ⟨hp,e⟩=some (.sl 4 [x.v] (.live (aa hp) 0),⟨hp++[.lin 0],e⟩):=by
 rw[ai];unfold TkR.v
 kernel_rfl
theorem yb (x:TkR):aM CC 67 1 [(0,x.v)]=some (.sl 4 [x.v] .lit):=by
 unfold TkR.v
 kernel_rfl
theorem se67:bK CC 67=some 65:=by kernel_rfl
theorem inf65' : (CC.P.info? 65).map (λi=>(i.size,i.bytes))=some (4,40):=by kernel_rfl
theorem inf65:∃ i,CC.P.info? 65=some i/\i.size=4/\i.bytes=40:=by
 have h:=inf65';cases hi:CC.P.info? 65 with
 | none=>rw[hi] at h;cases h
 | some i =>
   rw[hi] at h;simp only[Option.map_some,SJ,PJ] at h;exact ⟨i,rfl,h.1,h.2⟩
theorem zero65:cj CC 65=some (dw 0 0 [] 0):=by kernel_rfl
theorem vq {acc:List AV}(x:TkR){hp:Heap}{e id g:Nat}(hg:hp[id]?=some (.lin g))(hl:acc.length+1<=2 ^ 24) :
  aq CC 45 67 (.sl 4 acc (.live id g)) (.sl 4 [x.v] .lit) ⟨hp,e⟩=some (.sl 4 (acc++[x.v]) (.live id (g+1)),⟨hp.set id (.lin (g+1)),e⟩):=by
 obtain ⟨i,h1,h2,h3⟩:=inf65;have h4:[x.v].all (bi 4)=true:=by unfold TkR.v;rfl
 have h5:decide (acc.length+[x.v].length<=2 ^ 24)=true:=by simp;omega
 simp only[aq,se67,h1,zero65,h2,h3,aY,if_true,h4,h5,hg,List.isEmpty];simp[AV.cells]
theorem lX {acc:List AV}(x:TkR)(H:Heap)(a b c:AObj)(L:Heap)(e g:Nat)(hl:acc.length+1<=2 ^ 24) :
  aq CC 45 67 (.sl 4 acc (.live (aa H+3) g)) (.sl 4 [x.v] .lit) ⟨H++(a::b::c :: .lin g::L),e⟩=some (.sl 4 (acc++[x.v]) (.live (aa H+3) (g+1)),⟨H++(a::b::c :: .lin (g+1)::L),e⟩):=by
 have h1:(H++(a::b::c :: .lin g::L))[aa H+3]?=some (.lin g):=by rw[<-aB,aW];rfl
 rw[vq x h1 hl,<-aR,dT];rfl
theorem kN {α:Type}(a v:α)(l:List α)(n:Nat):am (a::l) (n+1) v=a::am l n v:=rfl
theorem kq {α:Type}(a:α)(l:List α)(n:Nat):ae (a::l) (n+1)=ae l n:=rfl
def To (H:Heap)(r:RG)(G:Heap)(acc:List TkR):Prop :=
 (acc=[]/\G=[]/\r.a.a.f=.nils)\/(∃ o g G',acc≠[]/\G=o :: .lin g::G'/\r.a.a.f=.sl 4 (acc.map TkR.v) (.live (aa H+3) g))
def uy (H:Heap)(r:RG)(F:AObj)(acc:List TkR):Except (Nat×Nat) (List TkR)->Prop
 | .error (p,e)=>F=.cells [.int .i64 (p:Int),.int .i64 (e:Int)]/\r.a.a.c=.nils
 | .ok l=>F=.cells [.int .i64 0,.int .i64 0]/\∃ g,r.a.a.c=.sl 4 ((acc++l).map TkR.v) (.live (aa H+3) g)
theorem Yk (a b:Int):ao CC 29 [(0,.int .i64 a),(1,.int .i64 b)]=some (.agg [.int .i64 a,.int .i64 b]):=by kernel_rfl
theorem bf29_0:ao CC 29 []=some (.agg [.int .i64 0,.int .i64 0]):=by kernel_rfl
theorem YM (a b:Nat):decide ((a:Int)=(b:Int))=Nat.beq a b:=xX a b
theorem DG {M:Memo}{ws sg:List (List Nat)}(m:LexM M (ws.map .str) (sg.map .str)){s:List Nat}(hs:s.length<=4000)(hby:∀ b∈s,b<256){H:Heap}:∀ (k j:Nat),j<=s.length->∀ (fu:Nat),k<=fu->∀ (r:RG) (G:Heap) (acc:List TkR) (res:Except (Nat×Nat) (List TkR)),
  acc.length+k<=100000->r.a.a.d=.ptr (aa H) 0->r.a.a.e=.ptr (aa H+1) 0->To H r G acc->tb ws sg s k j=some res ->
  ∃ r' F G',ax (fk (orc CC M)) fu r [] ⟨H++(.cells [.int .i64 0,.int .i64 0]::dG s j::G),aa H⟩=some (.ret,r',[],⟨H++(F::G'),aa H⟩)/\r'.a.a.d=.ptr (aa H) 0/\uy H r' F acc res:=by
 intro k
 induction k with
 | zero=>intro j hj fu hfu r G acc res ha h1 h2 ho hr;cases hr
 | succ k ih =>
   intro j hj fu hfu r G acc res ha h1 h2 ho hr;obtain ⟨fu',rfl⟩ : ∃ f,fu=f+1:=⟨fu-1,by omega⟩
   have hj1:=GH hj;have hj2:=GH hj1;have hpos:=Et (ws:=ws) (sg:=sg) hj2;have hbl:=λF L=>MU m hs hby hj (n:=aa H+1) (H:=H++(F::dG s j::L)) (by rw[aW,qB])
   have hnx:=λF L=>Iv m hs hby hj2 hj1 (n:=aa H+1) (H:=H++(F::dG s (qJ s j)::L)) (by rw[aW,qB])
   simp only[tb] at hr;generalize jr ws sg s (qJ s (qJ s j))=x at hr hnx hpos;have e1:decide ((x.err:Int)=0)=Nat.beq x.err 0:=YM x.err 0;have e5:decide ((x.k:Int)=5)=Nat.beq x.k 5:=YM x.k 5;cases h0:Nat.beq x.err 0 with
   | false =>
     rw[h0] at hr e1;simp only[cond_false,SJ] at hr;subst hr;simp only[ax,fk,pm,pz,py,pG,KV,SIM,ST0,h1,h2,hbl,hnx,e1,TkR.v,Yk,Nat.reduceAdd,Nat.reduceLeDiff];exact ⟨_,_,_,rfl,rfl,rfl,rfl⟩
   | true =>
     rw[h0] at hr e1;simp only[cond_true] at hr;cases h5:Nat.beq x.k 5 with
     | true =>
       rw[h5] at hr e5;simp only[cond_true,SJ] at hr;subst hr
       rcases ho with ⟨rfl,rfl,h3⟩|⟨o,g,G',hne,rfl,h3⟩
       ·have hb:=yb x;have ha1:=pC x;simp only[TkR.v] at hb ha1;simp only[ax,fk,pm,pz,py,pG,nt,nX,vW,SIM,ST0,ST1,h1,h2,h3,hbl,hnx,e1,e5,TkR.v,bf29_0,hb,ha1,Nat.reduceAdd,Nat.reduceLeDiff];refine ⟨_,_,_,rfl,?_,?_⟩
        ·rfl
        ·exact ⟨rfl,_,rfl⟩
       ·have hb:=yb x;have ha2:=λa b c L e=>lX (acc:=acc.map TkR.v) x H a b c L e g (by rw[List.length_map];omega)
        generalize hacc:acc.map TkR.v=A at ha2 h3;simp only[TkR.v] at hb ha2;simp only[ax,fk,pm,pz,py,pG,nt,nX,vW,SIM,ST0,ST1,h1,h2,h3,hbl,hnx,e1,e5,TkR.v,bf29_0,hb,ha2,kN,kq,Nat.reduceAdd,Nat.reduceLeDiff];refine ⟨_,_,_,rfl,?_,?_⟩
        ·rfl
        ·refine ⟨rfl,g+1,?_⟩;rw[List.map_append,hacc];rfl
     | false =>
       rw[h5] at hr e5;simp only[cond_false] at hr
       have hrec:∃ res',tb ws sg s k x.pos=some res'/\(match res' with | .ok l=>res=.ok (x::l) | .error q=>res=.error q):=by
        cases hq:tb ws sg s k x.pos with
        | none=>rw[hq] at hr;cases hr
        | some res' =>
          rw[hq] at hr;cases res' with
          | ok l=>simp only[SJ] at hr;exact ⟨_,rfl,hr.symm⟩
          | error q=>simp only[SJ] at hr;exact ⟨_,rfl,hr.symm⟩
       obtain ⟨res',hq,hres⟩:=hrec
       have fin:∀ r' F,uy H r' F (acc++[x]) res'->uy H r' F acc res:=by
        intro r' F hE;cases res' with
        | ok l =>
          simp only at hres;subst hres;simp only[uy,List.append_assoc,List.singleton_append] at hE ⊢;exact hE
        | error q =>
          simp only at hres;subst hres;exact hE
       rcases ho with ⟨rfl,rfl,h3⟩|⟨o,g,G',hne,rfl,h3⟩
       ·have hb:=yb x;have ha1:=pC x;simp only[TkR.v] at hb ha1;simp only[ax,fk,pm,pz,py,pG,nt,nX,SIM,ST0,ST1,h1,h2,h3,hbl,hnx,e1,e5,TkR.v,hb,ha1,Nat.reduceAdd,Nat.reduceLeDiff]
        have key:∀ (r:RG) (G:Heap),r.a.a.d=.ptr (aa H) 0->r.a.a.e=.ptr (aa H+1) 0->To H r G ([]++[x]) ->
          ∃ r' F G',ax (fk (orc CC M)) fu' r [] ⟨H++(.cells [.int .i64 0,.int .i64 0]::dG s x.pos::G),aa H⟩=some (.ret,r',[],⟨H++(F::G'),aa H⟩)/\r'.a.a.d=.ptr (aa H) 0/\uy H r' F [] res:=by
         intro r G h1 h2 ho;obtain ⟨r',F,G',k1,k2,k3⟩:=ih x.pos hpos fu' (by omega) r G ([]++[x]) res' (by simp at ha ⊢;omega) h1 h2 ho hq
         exact ⟨r',F,G',k1,k2,fin r' F k3⟩
        refine key _ _ ?_ ?_ ?_
        ·first|exact h1|rfl
        ·first|exact h2|rfl
        ·exact .inr ⟨_,0,[],by simp,rfl,rfl⟩
       ·have hb:=yb x;have ha2:=λa b c L e=>lX (acc:=acc.map TkR.v) x H a b c L e g (by rw[List.length_map];omega)
        have hmap:(acc++[x]).map TkR.v=acc.map TkR.v++[x.v]:=by simp
        generalize hacc:acc.map TkR.v=A at ha2 h3 hmap;simp only[TkR.v] at hb ha2;simp only[ax,fk,pm,pz,py,pG,nt,nX,SIM,ST0,ST1,h1,h2,h3,hbl,hnx,e1,e5,TkR.v,hb,ha2,kN,kq,Nat.reduceAdd,Nat.reduceLeDiff]
        have key:∀ (r:RG) (G:Heap),r.a.a.d=.ptr (aa H) 0->r.a.a.e=.ptr (aa H+1) 0->To H r G (acc++[x]) ->
          ∃ r' F G',ax (fk (orc CC M)) fu' r [] ⟨H++(.cells [.int .i64 0,.int .i64 0]::dG s x.pos::G),aa H⟩=some (.ret,r',[],⟨H++(F::G'),aa H⟩)/\r'.a.a.d=.ptr (aa H) 0/\uy H r' F acc res:=by
         intro r G h1 h2 ho;obtain ⟨r',F,G',k1,k2,k3⟩:=ih x.pos hpos fu' (by omega) r G (acc++[x]) res' (by simp at ha ⊢;omega) h1 h2 ho hq
         exact ⟨r',F,G',k1,k2,fin r' F k3⟩
        refine key _ _ ?_ ?_ ?_
        ·first|exact h1|rfl
        ·first|exact h2|rfl
        ·refine .inr ⟨_,g+1,_,by simp,rfl,?_⟩
         rw[hmap];rfl
theorem ic {l:List AV}(h:dp l=true)(b:Nat)(hp:Heap):bH b hp l=l:=by
 have:=(fS (.agg l) (by rw[fg];exact h)).1 b hp
 simp only[AV.settle,AV.agg.injEq] at this;exact this
theorem de {l:List AV}(h:dp l=true)(b:Nat):aG b l=true:=by
 have:=(fS (.agg l) (by rw[fg];exact h)).2 b
 simpa only[AV.low] using this
theorem qV {sz:Nat}{l fs:List AV}{id g base:Nat}{hp:Heap}(hl:dp l=true)(hf:dp fs=true)(hid:base<=id) :
  lH false base (.tuple [.sl sz l (.live id g),.agg fs]) ⟨hp,base⟩=.ret (.tuple [.sl sz l .dead,.agg fs]) (bg base hp) base:=by
 have h1:gK (.tuple [.sl sz l (.live id g),.agg fs])=false:=rfl;have h2:Lin.low base (.live id g)=false:=by simp[Lin.low];omega
 have h3:AV.settle base hp (.tuple [.sl sz l (.live id g),.agg fs])=.tuple [.sl sz l .dead,.agg fs]:=by
  simp[AV.settle,bH,ic hl,ic hf,h2]
 have h4:AV.low base (.tuple [.sl sz l .dead,.agg fs])=true:=by
  simp[AV.low,aG,de hl,de hf,Lin.low]
 unfold lH;rw[h1,Bool.and_false];simp only[cond_false,Ie,dm,if_true,h3,h4,Bool.false_eq_true,if_false,bU]
theorem tk (l:List TkR):dp (l.map TkR.v)=true:=by
 induction l with
 | nil=>rfl
 | cons x l ih=>rw[List.map_cons,br,AX,ih];rfl
theorem keep45:CC.keep 45=false:=by kernel_rfl
theorem WX (s:List Nat):ao CC 168 [(0,.str s)]=some (.agg [.str s,.int .i64 0]):=by kernel_rfl
theorem Xa (s:List Nat)(L:Nat):dV (.agg [.str s,.int .i64 0]) L=some (.cells [.str s,.int .i64 0],(.ptr · 0)):=rfl
theorem Pt {M:Memo}{ws sg:List (List Nat)}(m:LexM M (ws.map .str) (sg.map .str)){s:List Nat}(hM:M 45 [.str s]=none)(hs:s.length<=4000)(hby:∀ b∈s,b<256){k:Nat}(hk:k<=99999){res:Except (Nat×Nat) (List TkR)}
  (hr:tb ws sg s k 0=some res) (H:Heap):orc CC M 45 [.str s] H=some (.ret (allV res []) H (aa H)):=by
 refine aJ (z:=z45) hM (by kernel_rfl) rfl ?_
 have e0:(envOf [.str s] 0 env0).a.a.a=.str s:=rfl;generalize envOf [.str s] 0 env0=R at e0;have hc:decide ((4000:Int)<(s.length:Int))=false:=by simp;omega
 have hlp:∀ (r:RG),(r.a.a.d=.ptr (aa H) 0/\r.a.a.e=.ptr (aa H+1) 0/\r.a.a.f=.nils)->∃ r',∃ F G',ax (fk (orc CC M)) 100000 r [] ⟨H++(.cells [.int .i64 0,.int .i64 0]::dG s 0::[]),aa H⟩=some (.ret,r',[],⟨H++(F::G'),aa H⟩)/\r'.a.a.d=.ptr (aa H) 0/\uy H r' F [] res :=
  λr h=>DG m hs hby k 0 (by omega) 100000 (by omega) r [] [] res (by simp;omega) h.1 h.2.1 (.inl ⟨rfl,rfl,h.2.2⟩) hr
 have hlex:dG s 0=.cells [.str s,.int .i64 0]:=rfl;rw[hlex] at hlp;obtain ⟨f,hf⟩:=sk hlp;have hbx:=Xa s
 have pre:∃ r,(r.a.a.d=.ptr (aa H) 0/\r.a.a.e=.ptr (aa H+1) 0/\r.a.a.f=.nils)/\z45.sh (orc CC M) R [] ⟨H,aa H⟩=c9 0 (ax (fk (orc CC M)) 100000 r [] ⟨H++[.cells [.int .i64 0,.int .i64 0],.cells [.str s,.int .i64 0]],aa H⟩):=by
  simp only[z45,Mc,Og,Mg,Mr,SIM,ST0,e0,cq,hc,WX,hbx,Nat.reduceAdd,Nat.reduceLeDiff];refine ⟨_,?_,rfl⟩;exact ⟨rfl,rfl,rfl⟩
 obtain ⟨r0,hr0,hpre⟩:=pre;rw[hpre];obtain ⟨F,G',h1,h2,h3⟩:=hf r0 hr0;rw[h1];cases res with
 | error q =>
   obtain ⟨p,e⟩:=q;obtain ⟨rfl,h4⟩:=h3;simp only[z45,SIM,Wp,VN,h2,h4,allV,Nat.reduceAdd,Nat.reduceLeDiff]
 | ok l =>
   obtain ⟨rfl,g,h4⟩:=h3;rw[List.nil_append] at h4;have hgc:=λhp=>qV (sz:=4) (l:=l.map TkR.v) (fs:=[.int .i64 0,.int .i64 0]) (id:=aa H+3) (g:=g) (base:=aa H) (hp:=hp) (tk l) rfl (by omega)
   simp only[z45,jG,uN,iN,xf,jI,Wp,VN,h2,h4,SIM,allV,Nat.reduceAdd,Nat.reduceLeDiff,keep45,hgc]
end Go.Proofs
