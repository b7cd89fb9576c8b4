/- the reader of tokens. Part of the proof of girandolelaw08.FlatDoubles. -/
import Derived.Test.YtglacbfdbfhmfaaDoorCode0
import Derived.Test.YtglacbfdbfhmfaaDoorB3
set_option linter.unusedVariables false
set_option linter.unusedSimpArgs false
set_option maxRecDepth 1000000
namespace Go.Proofs
open Go Go.Abs
abbrev ev (k p:Int)(t:List Nat)(m:Int):AV:=.agg [.int .i64 k,.int .i64 p,.str t,.int .u64 m]
abbrev aC (toks:List AV)(lin:Lin)(i:Nat):AObj:=.cells [.sl 4 toks lin,.int .i64 (i:Int)]
theorem kD {M:Memo}(hM:∀ a,M 19 a=none){H:Heap}{n:Nat}{toks:List AV}{lin:Lin}{i:Nat}{k p m:Int}{t:List Nat}
  (hn:af H n=some (aC toks lin i)) (ht:af toks i=some (ev k p t m)) :
  orc CC M 19 [.ptr n 0] H=some (.ret (ev k p t m) H (aa H)):=by
 refine f8 cc_mask (T:=hZ tab) tab_ok (hM _) ?_;rw[show hZ tab 19=some z19 by kernel_rfl]
 show cond (Nat.ble 1 512) (j0 CC 19 (aa H) z19 (z19.sh (orc CC M) (envOf [.ptr n 0] 0 env0) [] { heap:=H,esc:=aa H })) none=_;have e0:(envOf [.ptr n 0] 0 env0).a.a.a=.ptr n 0:=rfl;generalize envOf [.ptr n 0] 0 env0=R at e0;simp only[z19,Jg,IV,SIM,ST0,e0,ar hn,da (sz:=4) (lin:=lin) ht,Nat.reduceAdd,Nat.reduceLeDiff]
def jE (t:List Nat):List AV→Option Bool
 | []=>some false
 | .str s :: r=>cond (strEq s t) (some true) (jE t r)
 | _=>none
theorem cc26:CC.P.underlying 37=some (.slice 9):=by kernel_rfl
theorem dB {t e:TypeId}(h:CC.P.underlying t=some (.slice e))(sz:Nat)(es:List AV)(l:Lin):bF CC t (.sl sz es l)=some (.int .i64 (es.length:Int)):=by rw[eo];simp[eY,h]
theorem Hi {M:Memo}{H:Heap}{n:Nat}{k p m:Int}{t:List Nat}{ts:List AV}{l:Lin}(hts:ts.length < 1000):∀ (d j:Nat),d + j=ts.length→∀ (fu:Nat),d < fu→∀ (r:RG) (b:Bool),
  r.a.c.c=.sl 1 ts l→r.a.c.d=.int .i64 (ts.length:Int)→r.a.c.e=.int .i64 (j:Int)→r.a.a.f=.ptr n 0→af H n=some (.cells [.int .i64 k,.int .i64 p,.str t,.int .u64 m])→jE t (ts.drop j)=some b→∀ e,
  ∃ r',aw (oy (orc CC M)) fu r [] ⟨H,e⟩=some (cond b .ret (.exit 0),r',[],⟨H,e⟩)∧(b=true→r'.a.a.e=.bool b):=by
 intro d
 induction d with
 | zero =>
   intro j hj fu hfu r b h1 h2 h3 h4 hg hb e;obtain ⟨fu',rfl⟩ : ∃ f,fu=f + 1:=⟨fu - 1,by omega⟩
   have hjl:j=ts.length:=by omega
   subst hjl;rw[List.drop_length] at hb;simp only[jE,SJ] at hb;subst hb;simp only[aw,oy,yL,SIM,ST0,h2,h3,Int.lt_irrefl];exact ⟨_,rfl,fun h=>by cases h⟩
 | succ d ih =>
   intro j hj fu hfu r b h1 h2 h3 h4 hg hb e;obtain ⟨fu',rfl⟩ : ∃ f,fu=f + 1:=⟨fu - 1,by omega⟩
   have hlt:j < ts.length:=by omega
   have hd:ts.drop j=ts[j] :: ts.drop (j + 1):=List.drop_eq_getElem_cons hlt;rw[hd] at hb;cases hv:ts[j] with
   | str s =>
     rw[hv] at hb;simp only[jE] at hb;have hi:af ts j=some (.str s):=by rw[aD,List.getElem?_eq_getElem hlt,hv]
     have hc:decide ((j:Int) < (ts.length:Int))=true:=by simp;omega
     have ha:cQ (j:Int) 1=((j + 1:Nat):Int):=bA j 1 (by unfold natMax;omega)
     cases hs:strEq s t with
     | true =>
       rw[hs] at hb;simp only[cond_true,SJ] at hb;subst hb;simp only[aw,oy,yL,C9,DK,Br,Cd,SIM,ST0,h1,h2,h3,h4,hc,da (sz:=1) (lin:=l) hi,hg,hs];exact ⟨_,rfl,fun _=>rfl⟩
     | false =>
       rw[hs] at hb;simp only[cond_false] at hb;simp only[aw,oy,yL,C9,DK,Br,Cd,SIM,ST0,h1,h2,h3,h4,hc,da (sz:=1) (lin:=l) hi,hg,hs,ha];exact ih (j + 1) (by omega) fu' (by omega) _ b rfl rfl rfl rfl hg hb e
   | _=>rw[hv] at hb;simp[jE] at hb
theorem I9 {M:Memo}(hM:∀ a,M 19 a=none)(hM' : ∀ a,M 33 a=none){H:Heap}{n:Nat}{toks:List AV}{lin:Lin}{i:Nat}{k p m:Int}{t:List Nat}{ts:List AV}{l:Lin}{b:Bool}
  (hn:af H n=some (aC toks lin i)) (ht:af toks i=some (ev k p t m)) (hts:ts.length < 1000) (hb:jE t ts=some b) :
  orc CC M 33 [.ptr n 0,.sl 1 ts l] H=some (.ret (.bool (cond (decide (k=3) || decide (k=4)) b false)) H (aa H)):=by
 refine f8 cc_mask (T:=hZ tab) tab_ok (hM' _) ?_;rw[show hZ tab 33=some z33 by kernel_rfl]
 show cond (Nat.ble 2 512) (j0 CC 33 (aa H) z33 (z33.sh (orc CC M) (envOf [.ptr n 0,.sl 1 ts l] 0 env0) [] { heap:=H,esc:=aa H })) none=_;have e0:(envOf [.ptr n 0,.sl 1 ts l] 0 env0).a.a.a=.ptr n 0:=rfl;have e1:(envOf [.ptr n 0,.sl 1 ts l] 0 env0).a.a.b=.sl 1 ts l:=rfl;generalize envOf [.ptr n 0,.sl 1 ts l] 0 env0=R at e0 e1;have hcs:af (H ++ [.cells [.int .i64 k,.int .i64 p,.str t,.int .u64 m]]) (aa H)=some (.cells [.int .i64 k,.int .i64 p,.str t,.int .u64 m]):=by rw[au,wV]
 obtain ⟨f,hf⟩:=sk (P:=fun r=>r.a.c.c=.sl 1 ts l∧r.a.c.d=.int .i64 (ts.length:Int)∧r.a.c.e=.int .i64 0∧r.a.a.f=.ptr (aa H) 0)
  fun r hr=>Hi (M:=M) hts ts.length 0 (by omega) 100000 (by omega) r b hr.1 hr.2.1 hr.2.2.1 hr.2.2.2 hcs hb (aa H)
 have hf1:=fun r h=>(hf r h).1
 have hf2:=fun r h=>(hf r h).2
 clear hf
 cases b <;> cases h3:decide (k=3) <;> cases h4:decide (k=4) <;>
  simp only[z33,Jv,JE,Jy,L4,Kg,Du,SIM,ST0,e0,e1,kD hM hn ht,dB cc26,h3,h4,Nat.reduceAdd,Nat.reduceLeDiff,Bool.or_true,Bool.true_or,Bool.or_false,Bool.false_or,hf1,hf2,and_self]
theorem se {M:Memo}(hM:∀ a,M 19 a=none)(hM' : ∀ a,M 33 a=none)(hM'' : ∀ a,M 40 a=none){H:Heap}{n:Nat}{toks:List AV}{lin:Lin}{i:Nat}{k p m:Int}{t:List Nat}{ts:List AV}{l:Lin}{b:Bool}
  (hn:af H n=some (aC toks lin i)) (ht:af toks i=some (ev k p t m)) (hts:ts.length < 1000) (hb:jE t ts=some b) (hi:i + 1≤natMax) :
  orc CC M 40 [.ptr n 0,.sl 1 ts l] H=some (cond (cond (decide (k=3) || decide (k=4)) b false) (.ret (.tuple [ev k p t m,.bool true]) (ai H n (aC toks lin (i + 1))) (aa H)) (.ret (.tuple [ev k p t m,.bool false]) H (aa H))):=by
 refine f8 cc_mask (T:=hZ tab) tab_ok (hM'' _) ?_;rw[show hZ tab 40=some z40 by kernel_rfl]
 show cond (Nat.ble 2 512) (j0 CC 40 (aa H) z40 (z40.sh (orc CC M) (envOf [.ptr n 0,.sl 1 ts l] 0 env0) [] { heap:=H,esc:=aa H })) none=_;have e0:(envOf [.ptr n 0,.sl 1 ts l] 0 env0).a.a.a=.ptr n 0:=rfl;have e1:(envOf [.ptr n 0,.sl 1 ts l] 0 env0).a.a.b=.sl 1 ts l:=rfl;generalize envOf [.ptr n 0,.sl 1 ts l] 0 env0=R at e0 e1;have hp:=fun L=>kD (H:=H ++ L) hM (ar hn L) ht
 have hs:=fun L=>I9 (H:=H ++ L) (l:=l) hM hM' (ar hn L) ht hts hb
 have ha:cQ (i:Int) 1=((i + 1:Nat):Int):=bA i 1 hi;generalize cond (decide (k=3) || decide (k=4)) b false=c at hs ⊢
 cases c <;>
  simp only[z40,KW,Jn,Lt,Lr,K7,M2,SIM,ST0,e0,e1,hp,hs,Nat.reduceAdd,Nat.reduceLeDiff,ar hn,ha,bR hn]
theorem Sw (b:CZ)(r:RG)(ds:Dfs)(s:St):aw b 100000 r ds s=dZ (aw b 99999) (b r ds s):=rfl
theorem S6 (b:CZ)(r:RG)(ds:Dfs)(s:St):aw b 99999 r ds s=dZ (aw b 99998) (b r ds s):=rfl
theorem LX (s:List Nat):aP CC 37 1 [(0,.str s)]=some (.sl 1 [.str s] .lit):=by kernel_rfl
theorem IG {M:Memo}(hM:∀ a,M 19 a=none)(hM' : ∀ a,M 33 a=none)(hM'' : ∀ a,M 40 a=none)(hM3:∀ a,M 29 a=none){H:Heap}{n:Nat}{toks:List AV}{lin:Lin}{i:Nat}{k p m:Int}{t:List Nat}{s:List Nat}{l:Lin}
  (hn:af H n=some (aC toks lin i)) (ht:af toks i=some (ev k p t m)) (hk:(decide (k=3) || decide (k=4))=true) (hs:strEq s t=true) (hi:i + 1≤natMax) :
  orc CC M 29 [.ptr n 0,.sl 1 [.str s] l] H=some (.ret (ev k p t m) (ai H n (aC toks lin (i + 1))) (aa H)):=by
 refine f8 cc_mask (T:=hZ tab) tab_ok (hM3 _) ?_;rw[show hZ tab 29=some z29 by kernel_rfl]
 show cond (Nat.ble 2 512) (j0 CC 29 (aa H) z29 (z29.sh (orc CC M) (envOf [.ptr n 0,.sl 1 [.str s] l] 0 env0) [] { heap:=H,esc:=aa H })) none=_;have e0:(envOf [.ptr n 0,.sl 1 [.str s] l] 0 env0).a.a.a=.ptr n 0:=rfl;have e1:(envOf [.ptr n 0,.sl 1 [.str s] l] 0 env0).a.a.b=.sl 1 [.str s] l:=rfl;generalize envOf [.ptr n 0,.sl 1 [.str s] l] 0 env0=R at e0 e1;have hp:=fun L=>kD (H:=H ++ L) hM (ar hn L) ht
 have ht:=fun L=>se (H:=H ++ L) (l:=.lit) (ts:=[.str s]) (b:=true) hM hM' hM'' (ar hn L) ht (by simp) (by simp[jE,hs]) hi
 have hias:bw 1 (.sl 1 [.str s] l) (.int .i64 0)=some (.iptr [.str s]):=rfl;have a1:cQ 0 1=1:=by decide
 simp only[hk,cond_true] at ht;simp only[z29,KK,JI,Js,KJ,KE,Ka,Mx,KG,MX,A6,SIM,ST0,e0,e1,hp,ht,Nat.reduceAdd,Nat.reduceLeDiff,dB cc26,Sw,S6,List.length_cons,List.length_nil,Int.reduceLT,hias,LX,bR hn,a1,Int.ofNat_eq_natCast,Int.cast_ofNat_Int]
theorem Hr {M:Memo}(hM:∀ a,M 19 a=none)(hM' : ∀ a,M 30 a=none){H:Heap}{n:Nat}{toks:List AV}{lin:Lin}{i:Nat}{p m:Int}{t:List Nat}
  (hn:af H n=some (aC toks lin i)) (ht:af toks i=some (ev 1 p t m)) (hi:i + 1≤natMax) :
  orc CC M 30 [.ptr n 0] H=some (.ret (ev 1 p t m) (ai H n (aC toks lin (i + 1))) (aa H)):=by
 refine f8 cc_mask (T:=hZ tab) tab_ok (hM' _) ?_;rw[show hZ tab 30=some z30 by kernel_rfl]
 show cond (Nat.ble 1 512) (j0 CC 30 (aa H) z30 (z30.sh (orc CC M) (envOf [.ptr n 0] 0 env0) [] { heap:=H,esc:=aa H })) none=_;have e0:(envOf [.ptr n 0] 0 env0).a.a.a=.ptr n 0:=rfl;generalize envOf [.ptr n 0] 0 env0=R at e0;have hp:=fun L=>kD (H:=H ++ L) hM (ar hn L) ht
 have ha:cQ (i:Int) 1=((i + 1:Nat):Int):=bA i 1 hi;simp only[z30,IN,IR,JH,Jx,MA,SIM,ST0,e0,hp,Nat.reduceAdd,Nat.reduceLeDiff,bR hn,ar hn,ha]
end Go.Proofs
