/- the reader of tokens. Part of the proof of girandolelaw12.SplitHanded. -/
import Derived.Test.YtglacbfdbfhmfaaGreatDoorCode1
import Derived.Test.YtglacbfdbfhmfaaGreatDoorB3
set_option linter.unusedVariables false
set_option linter.unusedSimpArgs false
set_option maxRecDepth 1000000
namespace Go.Proofs
open Go Go.Abs
abbrev dw (k p:Int)(t:List Nat)(m:Int):AV:=.agg [.int .i64 k,.int .i64 p,.str t,.int .u64 m]
abbrev iq (toks:List AV)(lin:Lin)(i:Nat):AObj:=.cells [.sl 4 toks lin,.int .i64 (i:Int)]
theorem i3 {M:Memo}(hM:∀ a,M 30 a=none){H:Heap}{n:Nat}{toks:List AV}{lin:Lin}{i:Nat}{k p m:Int}{t:List Nat}
  (hn:ae H n=some (iq toks lin i)) (ht:ae toks i=some (dw k p t m)) :
  orc CC M 30 [.ptr n 0] H=some (.ret (dw k p t m) H (aa H)):=by
 refine fy cc_mask (T:=ij tab) tab_ok (hM _) ?_;rw[show ij tab 30=some z30 by kernel_rfl]
 show cond (Nat.ble 1 512) (lw CC 30 (aa H) z30 (z30.sh (orc CC M) (envOf [.ptr n 0] 0 env0) [] { heap:=H,esc:=aa H })) none=_;have e0:(envOf [.ptr n 0] 0 env0).a.a.a=.ptr n 0:=rfl;generalize envOf [.ptr n 0] 0 env0=R at e0;simp only[z30,MG,La,SIM,ST0,e0,au hn,bN (sz:=4) (lin:=lin) ht,Nat.reduceAdd,Nat.reduceLeDiff]
def ir (t:List Nat):List AV->Option Bool
 | []=>some false
 | .str s::r=>cond (strEq s t) (some true) (ir t r)
 | _=>none
theorem cc26:CC.P.underlying 26=some (.slice 9):=by kernel_rfl
theorem cO {t e:TypeId}(h:CC.P.underlying t=some (.slice e))(sz:Nat)(es:List AV)(l:Lin):aO CC t (.sl sz es l)=some (.int .i64 (es.length:Int)):=by rw[cA];simp[dh,h]
theorem JG {M:Memo}{H:Heap}{n:Nat}{k p m:Int}{t:List Nat}{ts:List AV}{l:Lin}(hts:ts.length<1000):∀ (d j:Nat),d+j=ts.length->∀ (fu:Nat),d<fu->∀ (r:RG) (b:Bool),
  r.a.c.c=.sl 1 ts l->r.a.c.d=.int .i64 (ts.length:Int)->r.a.c.e=.int .i64 (j:Int)->r.a.a.f=.ptr n 0->ae H n=some (.cells [.int .i64 k,.int .i64 p,.str t,.int .u64 m])->ir t (ts.drop j)=some b->∀ e,
  ∃ r',ax (nj (orc CC M)) fu r [] ⟨H,e⟩=some (cond b .ret (.exit 0),r',[],⟨H,e⟩)/\(b=true->r'.a.a.e=.bool b):=by
 intro d
 induction d with
 | zero =>
   intro j hj fu hfu r b h1 h2 h3 h4 hg hb e;obtain ⟨fu',rfl⟩ : ∃ f,fu=f+1:=⟨fu-1,by omega⟩
   have hjl:j=ts.length:=by omega
   subst hjl;rw[List.drop_length] at hb;simp only[ir,SJ] at hb;subst hb;simp only[ax,nj,yT,SIM,ST0,h2,h3,Int.lt_irrefl];exact ⟨_,rfl,λh=>by cases h⟩
 | succ d ih =>
   intro j hj fu hfu r b h1 h2 h3 h4 hg hb e;obtain ⟨fu',rfl⟩ : ∃ f,fu=f+1:=⟨fu-1,by omega⟩
   have hlt:j<ts.length:=by omega
   have hd:ts.drop j=ts[j]::ts.drop (j+1):=List.drop_eq_getElem_cons hlt;rw[hd] at hb;cases hv:ts[j] with
   | str s =>
     rw[hv] at hb;simp only[ir] at hb;have hi:ae ts j=some (.str s):=by rw[aB,List.getElem?_eq_getElem hlt,hv]
     have hc:decide ((j:Int)<(ts.length:Int))=true:=by simp;omega
     have ha:bR (j:Int) 1=((j+1:Nat):Int):=aZ j 1 (by unfold natMax;omega)
     cases hs:strEq s t with
     | true =>
       rw[hs] at hb;simp only[cond_true,SJ] at hb;subst hb;simp only[ax,nj,yT,EN,Ch,FO,G7,SIM,ST0,h1,h2,h3,h4,hc,bN (sz:=1) (lin:=l) hi,hg,hs];exact ⟨_,rfl,λ_=>rfl⟩
     | false =>
       rw[hs] at hb;simp only[cond_false] at hb;simp only[ax,nj,yT,EN,Ch,FO,G7,SIM,ST0,h1,h2,h3,h4,hc,bN (sz:=1) (lin:=l) hi,hg,hs,ha];exact ih (j+1) (by omega) fu' (by omega) _ b rfl rfl rfl rfl hg hb e
   | _=>rw[hv] at hb;simp[ir] at hb
theorem M0 {M:Memo}(hM:∀ a,M 30 a=none)(hM' : ∀ a,M 53 a=none){H:Heap}{n:Nat}{toks:List AV}{lin:Lin}{i:Nat}{k p m:Int}{t:List Nat}{ts:List AV}{l:Lin}{b:Bool}
  (hn:ae H n=some (iq toks lin i)) (ht:ae toks i=some (dw k p t m)) (hts:ts.length<1000) (hb:ir t ts=some b) :
  orc CC M 53 [.ptr n 0,.sl 1 ts l] H=some (.ret (.bool (cond (decide (k=3)||decide (k=4)) b false)) H (aa H)):=by
 refine fy cc_mask (T:=ij tab) tab_ok (hM' _) ?_;rw[show ij tab 53=some z53 by kernel_rfl]
 show cond (Nat.ble 2 512) (lw CC 53 (aa H) z53 (z53.sh (orc CC M) (envOf [.ptr n 0,.sl 1 ts l] 0 env0) [] { heap:=H,esc:=aa H })) none=_;have e0:(envOf [.ptr n 0,.sl 1 ts l] 0 env0).a.a.a=.ptr n 0:=rfl;have e1:(envOf [.ptr n 0,.sl 1 ts l] 0 env0).a.a.b=.sl 1 ts l:=rfl;generalize envOf [.ptr n 0,.sl 1 ts l] 0 env0=R at e0 e1;have hcs:ae (H++[.cells [.int .i64 k,.int .i64 p,.str t,.int .u64 m]]) (aa H)=some (.cells [.int .i64 k,.int .i64 p,.str t,.int .u64 m]):=by rw[an,wv]
 obtain ⟨f,hf⟩:=sk (P:=λr=>r.a.c.c=.sl 1 ts l/\r.a.c.d=.int .i64 (ts.length:Int)/\r.a.c.e=.int .i64 0/\r.a.a.f=.ptr (aa H) 0)
  λr hr=>JG (M:=M) hts ts.length 0 (by omega) 100000 (by omega) r b hr.1 hr.2.1 hr.2.2.1 hr.2.2.2 hcs hb (aa H)
 have hf1:=λr h=>(hf r h).1
 have hf2:=λr h=>(hf r h).2
 clear hf
 cases b<;>cases h3:decide (k=3)<;>cases h4:decide (k=4) <;>
  simp only[z53,MX,M1,LS,Om,KK,DN,SIM,ST0,e0,e1,i3 hM hn ht,cO cc26,h3,h4,Nat.reduceAdd,Nat.reduceLeDiff,Bool.or_true,Bool.true_or,Bool.or_false,Bool.false_or,hf1,hf2,and_self]
theorem y2 {M:Memo}(hM:∀ a,M 30 a=none)(hM' : ∀ a,M 53 a=none)(hM'' : ∀ a,M 74 a=none){H:Heap}{n:Nat}{toks:List AV}{lin:Lin}{i:Nat}{k p m:Int}{t:List Nat}{ts:List AV}{l:Lin}{b:Bool}
  (hn:ae H n=some (iq toks lin i)) (ht:ae toks i=some (dw k p t m)) (hts:ts.length<1000) (hb:ir t ts=some b) (hi:i+1<=natMax) :
  orc CC M 74 [.ptr n 0,.sl 1 ts l] H=some (cond (cond (decide (k=3)||decide (k=4)) b false) (.ret (.tuple [dw k p t m,.bool true]) (am H n (iq toks lin (i+1))) (aa H)) (.ret (.tuple [dw k p t m,.bool false]) H (aa H))):=by
 refine fy cc_mask (T:=ij tab) tab_ok (hM'' _) ?_;rw[show ij tab 74=some z74 by kernel_rfl]
 show cond (Nat.ble 2 512) (lw CC 74 (aa H) z74 (z74.sh (orc CC M) (envOf [.ptr n 0,.sl 1 ts l] 0 env0) [] { heap:=H,esc:=aa H })) none=_;have e0:(envOf [.ptr n 0,.sl 1 ts l] 0 env0).a.a.a=.ptr n 0:=rfl;have e1:(envOf [.ptr n 0,.sl 1 ts l] 0 env0).a.a.b=.sl 1 ts l:=rfl;generalize envOf [.ptr n 0,.sl 1 ts l] 0 env0=R at e0 e1;have hp:=λL=>i3 (H:=H++L) hM (au hn L) ht
 have hs:=λL=>M0 (H:=H++L) (l:=l) hM hM' (au hn L) ht hts hb
 have ha:bR (i:Int) 1=((i+1:Nat):Int):=aZ i 1 hi;generalize cond (decide (k=3)||decide (k=4)) b false=c at hs ⊢
 cases c <;>
  simp only[z74,Ol,NV,Nc,KD,Mk,KH,SIM,ST0,e0,e1,hp,hs,Nat.reduceAdd,Nat.reduceLeDiff,au hn,ha,cm hn]
theorem LW (b:CZ)(r:RG)(ds:Dfs)(s:St):ax b 100000 r ds s=dI (ax b 99999) (b r ds s):=rfl
theorem X5 (b:CZ)(r:RG)(ds:Dfs)(s:St):ax b 99999 r ds s=dI (ax b 99998) (b r ds s):=rfl
theorem V9 (s:List Nat):aM CC 26 1 [(0,.str s)]=some (.sl 1 [.str s] .lit):=by kernel_rfl
theorem Kg {M:Memo}(hM:∀ a,M 30 a=none)(hM' : ∀ a,M 53 a=none)(hM'' : ∀ a,M 74 a=none)(hM3:∀ a,M 49 a=none){H:Heap}{n:Nat}{toks:List AV}{lin:Lin}{i:Nat}{k p m:Int}{t:List Nat}{s:List Nat}{l:Lin}
  (hn:ae H n=some (iq toks lin i)) (ht:ae toks i=some (dw k p t m)) (hk:(decide (k=3)||decide (k=4))=true) (hs:strEq s t=true) (hi:i+1<=natMax) :
  orc CC M 49 [.ptr n 0,.sl 1 [.str s] l] H=some (.ret (dw k p t m) (am H n (iq toks lin (i+1))) (aa H)):=by
 refine fy cc_mask (T:=ij tab) tab_ok (hM3 _) ?_;rw[show ij tab 49=some z49 by kernel_rfl]
 show cond (Nat.ble 2 512) (lw CC 49 (aa H) z49 (z49.sh (orc CC M) (envOf [.ptr n 0,.sl 1 [.str s] l] 0 env0) [] { heap:=H,esc:=aa H })) none=_;have e0:(envOf [.ptr n 0,.sl 1 [.str s] l] 0 env0).a.a.a=.ptr n 0:=rfl;have e1:(envOf [.ptr n 0,.sl 1 [.str s] l] 0 env0).a.a.b=.sl 1 [.str s] l:=rfl;generalize envOf [.ptr n 0,.sl 1 [.str s] l] 0 env0=R at e0 e1;have hp:=λL=>i3 (H:=H++L) hM (au hn L) ht
 have ht:=λL=>y2 (H:=H++L) (l:=.lit) (ts:=[.str s]) (b:=true) hM hM' hM'' (au hn L) ht (by simp) (by simp[ir,hs]) hi
 have hias:aL 1 (.sl 1 [.str s] l) (.int .i64 0)=some (.iptr [.str s]):=rfl;have a1:bR 0 1=1:=by decide
 simp only[hk,cond_true] at ht;simp only[z49,Mt,LQ,NW,LM,LE,LO,KQ,KR,Ns,EF,SIM,ST0,e0,e1,hp,ht,Nat.reduceAdd,Nat.reduceLeDiff,cO cc26,LW,X5,List.length_cons,List.length_nil,Int.reduceLT,hias,V9,cm hn,a1,Int.ofNat_eq_natCast,Int.cast_ofNat_Int]
theorem Jc {M:Memo}(hM:∀ a,M 30 a=none)(hM' : ∀ a,M 50 a=none){H:Heap}{n:Nat}{toks:List AV}{lin:Lin}{i:Nat}{p m:Int}{t:List Nat}
  (hn:ae H n=some (iq toks lin i)) (ht:ae toks i=some (dw 1 p t m)) (hi:i+1<=natMax) :
  orc CC M 50 [.ptr n 0] H=some (.ret (dw 1 p t m) (am H n (iq toks lin (i+1))) (aa H)):=by
 refine fy cc_mask (T:=ij tab) tab_ok (hM' _) ?_;rw[show ij tab 50=some z50 by kernel_rfl]
 show cond (Nat.ble 1 512) (lw CC 50 (aa H) z50 (z50.sh (orc CC M) (envOf [.ptr n 0] 0 env0) [] { heap:=H,esc:=aa H })) none=_;have e0:(envOf [.ptr n 0] 0 env0).a.a.a=.ptr n 0:=rfl;generalize envOf [.ptr n 0] 0 env0=R at e0;have hp:=λL=>i3 (H:=H++L) hM (au hn L) ht
 have ha:bR (i:Int) 1=((i+1:Nat):Int):=aZ i 1 hi;simp only[z50,Nf,Lb,NU,MK,Nr,SIM,ST0,e0,hp,Nat.reduceAdd,Nat.reduceLeDiff,cm hn,au hn,ha]
end Go.Proofs
