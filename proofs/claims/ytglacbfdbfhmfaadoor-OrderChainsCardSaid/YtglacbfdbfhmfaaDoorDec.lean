/- declarations, equations, nodes, a whole text. Part of the proof of girandolelaw09.OrderChains. -/
import Derived.Test.YtglacbfdbfhmfaaDoorPar
import Derived.Test.YtglacbfdbfhmfaaDoorMemo
set_option linter.unusedVariables false
set_option linter.unusedSimpArgs false
set_option maxRecDepth 1000000
namespace Go.Proofs
open Go Go.Abs
mutual
def sizeE:Ex→Nat
 | .mk _ _ _ _ _ kids=>sizeL kids + 1
def sizeL:List Ex→Nat
 | []=>0
 | a :: l=>sizeE a + sizeL l
end
mutual
def deepE:Ex→Nat
 | .mk _ _ _ _ _ kids=>deepL kids + 1
def deepL:List Ex→Nat
 | []=>0
 | a :: l=>max (deepE a) (deepL l)
end
theorem jd (e:Ex):sizeE e=sizeL e.kids + 1:=by cases e;simp[sizeE,Ex.kids]
theorem IP (e:Ex):deepE e=deepL e.kids + 1:=by cases e;simp[deepE,Ex.kids]
theorem iO {a:Ex}:∀ {l:List Ex},a ∈ l→sizeE a≤sizeL l
 | [],h=>by cases h
 | b :: l,h=>by
   simp only[sizeL]
   rcases List.mem_cons.1 h with rfl | h
   ·omega
   ·have:=iO h;omega
theorem sizeL_len:∀ l:List Ex,l.length≤sizeL l
 | []=>by simp[sizeL]
 | b :: l=>by
   have:=sizeL_len l;have h2:=jd b;simp only[sizeL,List.length_cons];omega
mutual
theorem deep_le:∀ e:Ex,deepE e≤sizeE e
 | .mk _ _ _ _ _ kids=>by simp only[deepE,sizeE];have:=deepL_le kids;omega
theorem deepL_le:∀ l:List Ex,deepL l≤sizeL l
 | []=>by simp[deepL,sizeL]
 | a :: l=>by simp only[deepL,sizeL];have:=deep_le a;have:=deepL_le l;omega
end
theorem WV (a b:Nat):dx true (.int .i64 (a:Int)) [.int .i64 (b:Int)]=some (.int .i64 ((max a b:Nat):Int)):=by
 simp only[dx,if_true]
 by_cases h:(b:Int) > (a:Int)
 ·rw[if_pos h,show max a b=b by omega]
 ·rw[if_neg h,show max a b=a by omega]
theorem cc121:∃ e,CC.P.underlying 81=some (.slice e)∧e=83:=⟨_,by kernel_rfl,rfl⟩
def DpE (H:Heap)(b n:Nat)(X:IRes):Prop:=∃ r' L,X=some (.exit 0,r',[],⟨H ++ L,b⟩)∧r'.a.a.d=.int .i64 (n:Int)
theorem DpE.up {H K:Heap}{b n:Nat}{X:IRes}(h:DpE (H ++ K) b n X):DpE H b n X:=by
 obtain ⟨r',L,h1,h2⟩:=h;exact ⟨r',K ++ L,by rw[← List.append_assoc];exact h1,h2⟩
section
variable {M:Memo}
theorem y8 {kids:List Ex}(hsz:sizeL kids < 90000)(ihk:∀ a ∈ kids,∀ H,orc CC M 45 [a.v] H=some (.ret (.int .i64 (deepE a:Int)) H (aa H))){V:AV}(hV:∀ (i:Nat) (a:Ex),kids[i]?=some a→bb 6 V (.int .i64 (i:Int))=some (.iptr a.v.cells)) :
  ∀ (d i:Nat),d + i=kids.length→∀ (fu:Nat),d < fu→∀ (H:Heap) (b:Nat),b≤aa H→∀ (acc:Nat) (r:RG),
  (r.a.a.d=.int .i64 (acc:Int)∧r.a.a.h=V∧r.a.b.a=.int .i64 (kids.length:Int)∧r.a.b.b=.int .i64 (i:Int)) →
  DpE H b (max acc (deepL (kids.drop i))) (au (sX (orc CC M)) fu r [] ⟨H,b⟩):=by
 have hlen:=sizeL_len kids;intro d
 induction d with
 | zero =>
   intro i hi fu hfu H b hb acc r ⟨h3,h7,h8,h9⟩;obtain ⟨fu',rfl⟩ : ∃ f,fu=f + 1:=⟨fu - 1,by omega⟩
   have:i=kids.length:=by omega
   subst this;have hc:decide ((kids.length:Int) < (kids.length:Int))=false:=by simp
   rw[List.drop_length];simp only[au,sX,Cq,SIM,ST0,h8,h9,hc,deepL];exact ⟨_,[],by rw[List.append_nil],by rw[Nat.max_zero];exact h3⟩
 | succ d ih =>
   intro i hi fu hfu H b hb acc r ⟨h3,h7,h8,h9⟩;obtain ⟨fu',rfl⟩ : ∃ f,fu=f + 1:=⟨fu - 1,by omega⟩
   have hlt:i < kids.length:=by omega
   have hc:decide ((i:Int) < (kids.length:Int))=true:=by simp;omega
   have hd:kids.drop i=kids[i] :: kids.drop (i + 1):=List.drop_eq_getElem_cons hlt;have hg:kids[i]?=some kids[i]:=by simp[hlt]
   have hm:=ihk _ (List.getElem_mem hlt);generalize kids[i]=a at hd hg hm;have hat:=hV i a hg;have ha:cA (i:Int) 1=((i + 1:Nat):Int):=bp i 1 (by unfold natMax;omega)
   have hmm:=WV acc (deepE a);have hmin:∀ q,min b (aa H + q)=b:=fun q=>Nat.min_eq_left (by omega)
   have hD:=hm (H ++ [dK a]);rw[show aa (H ++ [dK a])=aa H + 1 by simp[ai]] at hD
   have key:=ih (i + 1) (by omega) fu' (by omega) (H ++ [dK a]) b (by rw[ai,List.length_append];rw[ai] at hb;omega) (max acc (deepE a))
   rw[hd];simp only[deepL];rw[← Nat.max_assoc];simp only[au,sX,Cq,PZ,Np,Py,SIM,ST0,h3,h7,h8,h9,hc,hat,hD,hmm,hmin,ha,EXS,Nat.reduceAdd,Nat.reduceLeDiff];exact (key _ ⟨rfl,by first | rfl | exact h7,by first | rfl | exact h8,rfl⟩).up
theorem Kp (m:ce M):∀ (s:Nat) (e:Ex),sizeE e≤s→s < 90000→∀ H,orc CC M 45 [e.v] H=some (.ret (.int .i64 (deepE e:Int)) H (aa H)):=by
 intro s
 induction s with
 | zero=>intro e he;have:=jd e;omega
 | succ s ih =>
   intro e he hs H;have hk:=jd e;refine aL (z:=z45) (m _ _ rfl) (by kernel_rfl) rfl ?_
   have e0:(envOf [e.v] 0 env0).a.a.a=e.v:=rfl;generalize envOf [e.v] 0 env0=R at e0
   have hbx:∀ L,ep e.v L=some (.cells [.int .i64 (e.k:Int),.int .i64 (e.p:Int),.int .i64 e.n,.str e.s,.bool e.b,e.kv],(.ptr · 0)):=by
    intro L;have h1:e.v.low L=true:=(dh _ (ex_noN e)).2 L;unfold ep
    have h2:(AV.cells e.v).all AV.one=true:=by
     rw[fI];simp only[List.all_cons,List.all_nil,kY,ev,eA,fH,Bool.and_self]
    rw[if_pos ⟨h2,h1⟩,fI]
   obtain ⟨e',hu,rfl⟩:=cc121
   have hlen:bn CC 81 e.kv=some (.int .i64 (e.kids.length:Int)):=by
    unfold Ex.kv;rw[exL_map];cases hkk:e.kids with
    | nil=>rw[List.map_nil,dH];simp[cC,ew,hu]
    | cons a l=>rw[List.map_cons];simp only[cC];rw[cU hu];simp
   have hV:∀ (i:Nat) (a:Ex),e.kids[i]?=some a→bb 6 e.kv (.int .i64 (i:Int))=some (.iptr a.v.cells):=by
    intro i a h;unfold Ex.kv;rw[exL_map];cases hkk:e.kids with
    | nil=>rw[hkk] at h;simp at h
    | cons a' l =>
      rw[List.map_cons];simp only[cC];refine cq ?_;rw[← List.map_cons (f:=Ex.v),az,List.getElem?_map,← hkk,h];rfl
   have hb:=deepL_le e.kids;have lp:=y8 (M:=M) (kids:=e.kids) (by omega) (fun a ha H=>ih a (by have:=iO ha;omega) (by omega) H) hV e.kids.length 0 rfl 100000 (by have:=sizeL_len e.kids;omega) (H ++ [dK e]) (aa H) (by rw[ai,ai,List.length_append];omega) 0
   rw[List.drop_zero,Nat.zero_max] at lp;obtain ⟨f,hf⟩:=sk lp
   obtain ⟨r0,hr0,hpre⟩ : ∃ r,(r.a.a.d=.int .i64 ((0:Nat):Int)∧r.a.a.h=e.kv∧r.a.b.a=.int .i64 (e.kids.length:Int)∧r.a.b.b=.int .i64 ((0:Nat):Int))∧z45.sh (orc CC M) R [] ⟨H,aa H⟩=dQ (ac (Ap (orc CC M)) retZ) (du 0 (au (sX (orc CC M)) 100000 r [] ⟨H ++ [dK e],aa H⟩)):=by
    simp only[z45,Mp,Oz,Mv,SIM,ST0,e0,hbx,hlen,Nat.reduceAdd,Nat.reduceLeDiff];exact ⟨_,⟨rfl,rfl,rfl,rfl⟩,rfl⟩
   rw[hpre];obtain ⟨L,h1,h2⟩:=hf r0 hr0;rw[h1,List.append_assoc];have ha:cA (deepL e.kids:Int) 1=((deepL e.kids + 1:Nat):Int):=bp _ 1 (by unfold natMax;omega)
   rw[IP];simp only[z45,Ap,SIM,ST0,h2,ha,cn]
end
structure DeR where
 s:List Nat
 p:Nat
 b:Bool
 f:Bool
 c:List Nat
 o:Bool
abbrev DeR.l (d:DeR):List AV:=[.str d.s,.int .i64 (d.p:Int),.bool d.b,.bool d.f,.str d.c,.bool d.o]
abbrev DeR.v (d:DeR):AV:=.agg d.l
theorem A8 (s:List Nat)(p:Int):ar CC 93 [(0,.str s),(1,.int .i64 p)]=some (.agg [.str s,.int .i64 p,.bool false,.bool false,.str [],.bool false]):=by kernel_rfl
def fW:List (List Nat):=[[102,117,116,117,114,101]]
def tW:List (List Nat):=[[105,110,116],[98,111,111,108]]
def bW:List Nat:=[98,111,111,108]
noncomputable def gU (ts:List TkR)(i:Nat):Option (DeR × Nat):=fC ts i fun x j=>dl ts j [58] fun j=>eB ts j fun y=>cond (bz y fW)
 (eB ts (j + 1) fun z=>cond (bz z tW) (some (⟨x.t,x.p,strEq z.t bW,true,[],false⟩,j + 2)) none)
 (cond (bz y tW) (some (⟨x.t,x.p,strEq y.t bW,false,[],false⟩,j + 1)) none)
section
variable {M:Memo}{ts:List TkR}{lin:Lin}{n:Nat}
theorem tw (m:ce M)(hlen:ts.length≤90000){i j:Nat}{d:DeR}(h:gU ts i=some (d,j)):Runs M 41 [.ptr n 0] n (ts.map TkR.v) lin i d.v j:=by
 unfold gU at h;obtain ⟨x,hx,hxk,h⟩:=cK h;obtain ⟨y,hy,hyw,h⟩:=br h;obtain ⟨z,hz,h⟩:=aU h;have N:=fU (n:=n) (lin:=lin) m (aB hx) (bf hlen hx) hxk;have W:=cH (n:=n) (lin:=lin) m (aB hy) (bf hlen hy) hyw;refine Runs.of fun H hlt=>?_
 refine aL (z:=z41) (m _ _ rfl) (by kernel_rfl) rfl ?_
 have e0:(envOf [AV.ptr n 0] 0 env0).a.a.a=.ptr n 0:=rfl;generalize envOf [AV.ptr n 0] 0 env0=R at e0;cases hw:bz z fW with
 | true =>
   rw[hw] at h;simp only[cond_true] at h;obtain ⟨w,hw1,h⟩:=aU h;obtain ⟨h2,h3⟩:=aW h;simp only[SJ,PJ] at h3;obtain ⟨rfl,rfl⟩:=h3;have T:=cD (n:=n) (lin:=lin) m (aB hz) (bf hlen hz) (ws:=fW) (wa:=[.str [102,117,116,117,114,101]]) rfl (by simp) hw
   have T2:=cD (n:=n) (lin:=lin) m (aB hw1) (bf hlen hw1) (ws:=tW) (wa:=[.str [105,110,116],.str [98,111,111,108]]) rfl (by simp) h2
   have hb:strEq w.t [98,111,111,108]=strEq w.t bW:=rfl;generalize strEq w.t bW=B at hb;simp only[z41,A6,Ed,Hn,DT,AU,BB,CW,AQ,Iq,BI,SIM,ST0,ST1,e0,N,W,T,T2,hb,B26,A8,aK hlt,aJ hlt,EXS,bi,bg,Nat.reduceAdd,Nat.reduceLeDiff,TkR.v]
 | false =>
   rw[hw] at h;simp only[cond_false] at h;obtain ⟨h2,h3⟩:=aW h;simp only[SJ,PJ] at h3;obtain ⟨rfl,rfl⟩:=h3;have T:=cM (n:=n) (lin:=lin) m (aB hz) (bf hlen hz) (ws:=fW) (wa:=[.str [102,117,116,117,114,101]]) rfl (by simp) hw
   have T2:=cD (n:=n) (lin:=lin) m (aB hz) (bf hlen hz) (ws:=tW) (wa:=[.str [105,110,116],.str [98,111,111,108]]) rfl (by simp) h2
   have hb:strEq z.t [98,111,111,108]=strEq z.t bW:=rfl;generalize strEq z.t bW=B at hb;simp only[z41,A6,Ed,Hn,DT,AU,BB,CW,AQ,Iq,BI,SIM,ST0,ST1,e0,N,W,T,T2,hb,B26,A8,aK hlt,aJ hlt,EXS,bi,bg,Nat.reduceAdd,Nat.reduceLeDiff,TkR.v]
def deZ:List DeR→AV
 | []=>.nils
 | l=>.sl 6 (l.map DeR.v) .dead
noncomputable def jw (ts:List TkR):Nat→Nat→Option (List DeR × Nat)
 | 0,_=>none
 | k + 1,i=>match gU ts i with
   | some (d,j)=>eB ts j fun x=>cond (bz x [[44]]) (match jw ts k (j + 1) with
     | some (l,j')=>some (d :: l,j')
     | none=>none) (cond (bz x [[41]]) (some ([d],j + 1)) none)
   | none=>none
noncomputable def eU (ts:List TkR)(k i:Nat):Option (List DeR × Nat):=dl ts i [40] fun j=>eB ts j fun x=>cond (bz x [[41]]) (some ([],j + 1)) (jw ts k j)
theorem se58:∃ e,bE CC 43=some e∧e=93:=⟨_,by kernel_rfl,rfl⟩
theorem lH (d:DeR):aP CC 43 1 [(0,d.v)]=some (.sl 6 [d.v] .lit):=by kernel_rfl
theorem inf176' : (CC.P.info? 93).map (fun i=>(i.size,decide (0 < i.bytes∧i.bytes≤65536)))=some (6,true):=by kernel_rfl
theorem inf176:∃ i,CC.P.info? 93=some i∧i.size=6∧0 < i.bytes∧i.bytes≤65536:=by
 have h:=inf176';cases hi:CC.P.info? 93 with
 | none=>rw[hi] at h;cases h
 | some i =>
   rw[hi] at h;simp only[Option.map_some,SJ,PJ,decide_eq_true_eq] at h;exact ⟨i,rfl,h.1,h.2.1,h.2.2⟩
theorem zero176:ck CC 93=some (.agg [.str [],.int .i64 0,.bool false,.bool false,.str [],.bool false]):=by kernel_rfl
theorem U9 (f:Nat):CC.mutT f 43=false:=by
 show ((43:Nat) == 63 || (43:Nat) == 65)=false
 simp
theorem LM (d:DeR):[d.v].all (bt 6)=true:=rfl
theorem iU (f:Nat)(d:DeR)(hp:Heap)(e:Nat):aq CC f 43 .nils (.sl 6 [d.v] .lit) ⟨hp,e⟩=some (.sl 6 [d.v] (.live (aa hp) 0),⟨hp ++ [.lin 0],e⟩):=by
 obtain ⟨i,h1,h2,h3,h4⟩:=inf176;obtain ⟨e',s1,rfl⟩:=se58
 have hne:¬ (i.size=0∨i.bytes=0∨(AV.agg [.str [],.int .i64 0,.bool false,.bool false,.str [],.bool false]).cells.length ≠ i.size∨[d.v].all (bt i.size)=false∨2 ^ 16 < i.bytes):=by
  rw[h2,LM];simp[AV.cells];omega
 simp only[aq,s1,h1,zero176,ba,if_true,h2,List.isEmpty,U9,ai];rw[h2] at hne;rw[if_neg hne];simp
theorem jx (f:Nat){xs:List AV}(d:DeR){hp:Heap}{e id g:Nat}(hg:ae hp id=some (.lin g))(hl:xs.length + 1≤2 ^ 24) :
  aq CC f 43 (.sl 6 xs (.live id g)) (.sl 6 [d.v] .lit) ⟨hp,e⟩=some (.sl 6 (xs ++ [d.v]) (.live id (g + 1)),⟨aj hp id (.lin (g + 1)),e⟩):=by
 obtain ⟨i,h1,h2,h3,h4⟩:=inf176;obtain ⟨e',s1,rfl⟩:=se58;rw[az] at hg;have h5:decide (xs.length + [d.v].length≤2 ^ 24)=true:=by simp;omega
 have hne:¬ (i.size=0∨i.bytes=0∨(AV.agg [.str [],.int .i64 0,.bool false,.bool false,.str [],.bool false]).cells.length ≠ i.size∨[d.v].all (bt i.size)=false∨2 ^ 16 < i.bytes):=by
  rw[h2,LM];simp[AV.cells];omega
 rw[h2] at hne;simp only[aq,s1,h1,zero176,ba,if_true,h2,h5,List.isEmpty,hg,aM];rw[if_neg hne];simp
end
def IQ (b:Nat)(Hc:Heap)(v:AV)(acc:List DeR):Prop:=(acc=[]∧v=.nils)∨(acc ≠ []∧∃ id g,v=.sl 6 (acc.map DeR.v) (.live id g)∧ae Hc id=some (.lin g)∧b≤id)
theorem af {α:Type}{l:List α}{n k:Nat}(h:k ≠ n)(v:α):ae (aj l n v) k=ae l k:=by
 rw[az,az,aM,List.getElem?_set_ne (Ne.symm h)]
theorem dc {α:Type}{P L:List α}{id:Nat}(h:P.length≤id)(v:α):aj (P ++ L) id v=P ++ aj L (id - P.length) v:=by
 rw[aM,aM,List.set_append_right _ _ h]
def Ui (H:Heap)(n:Nat)(c:AObj)(all:List DeR)(X:IRes):Prop:=∃ r' G',X=some (.ret,r',[],⟨aj H n c ++ G',aa H⟩)∧∃ id g,r'.a.a.c=.sl 6 (all.map DeR.v) (.live id g)∧aa H≤id
section
variable {M:Memo}{ts:List TkR}{lin:Lin}{n:Nat}
theorem vZ (m:ce M)(hlen:ts.length≤90000){H:Heap}(hlt:n < aa H):∀ (k:Nat) (acc:List DeR) (i:Nat) (l:List DeR) (j:Nat),jw ts k i=some (l,j)→acc.length + k≤100000→∀ (fu:Nat),k≤fu→∀ (Hc:Heap),(∃ G,Hc=aj H n (aC (ts.map TkR.v) lin i) ++ G)→∀ (r:RG),
  (r.a.a.a=.ptr n 0∧IQ (aa H) Hc r.a.a.d acc) →
  Ui H n (aC (ts.map TkR.v) lin j) (acc ++ l) (au (js (orc CC M)) fu r [] ⟨Hc,aa H⟩):=by
 intro k
 induction k with
 | zero=>intro acc i l j h;cases h
 | succ k ih =>
   intro acc i l j h hak fu hfu Hc hP r ⟨h0,hA⟩;obtain ⟨fu',rfl⟩ : ∃ f,fu=f + 1:=⟨fu - 1,by omega⟩
   simp only[jw] at h;cases hd:gU ts i with
   | none=>rw[hd] at h;cases h
   | some dj =>
     obtain ⟨d,j1⟩:=dj;rw[hd] at h;simp only at h;have D:=tw (lin:=lin) (n:=n) m hlen hd;obtain ⟨x,hx,h⟩:=aU h;have hx':=aB hx;have hi:=bf hlen hx;obtain ⟨G,rfl⟩:=hP;have hll:∀ c:AObj,(aj H n c).length=H.length:=fun c=>by rw[aM,List.length_set]
     have hnl:n < (aj H n (aC (ts.map TkR.v) lin i)).length:=by rw[hll];rw[ai] at hlt;exact hlt
     have hcn:ae (aj H n (aC (ts.map TkR.v) lin i) ++ G) n=some (aC (ts.map TkR.v) lin i):=aK hlt _ _;have hHc:aa H≤aa (aj H n (aC (ts.map TkR.v) lin i) ++ G):=by rw[ai,ai,List.length_append,hll];omega
     have hsn:∀ c,aj (aj H n (aC (ts.map TkR.v) lin i) ++ G) n c=aj H n c ++ G:=fun c=>aJ hlt _ _ _
     have hsi:∀ (c:AObj) (id:Nat) (v:AObj),aa H≤id→∃ G',aj (aj (aj H n (aC (ts.map TkR.v) lin i) ++ G) n c) id v=aj H n c ++ G':=fun c id v hid=>by
      rw[hsn];exact ⟨_,dc (by rw[hll,← ai];exact hid) v⟩
     generalize hgen:aj H n (aC (ts.map TkR.v) lin i) ++ G=Hc at *;have D':=D Hc hcn;have hltc:n < aa Hc:=by omega
     have hmin:min (aa H) (aa Hc)=aa H:=Nat.min_eq_left hHc;have hmin1:∀ q,min (aa H) (aa Hc + q)=aa H:=fun q=>Nat.min_eq_left (by omega)
     have hmin2:min (aa H) (aa Hc + 1 + 1)=aa H:=Nat.min_eq_left (by omega)
     have hlc:∀ (c:AObj),aa (aj Hc n c)=aa Hc:=fun c=>an _ _ _
     have hlc1:∀ (c o:AObj),aa (aj Hc n c ++ [o])=aa Hc + 1:=fun c o=>by rw[ai,List.length_append,← ai,hlc];rfl
     cases hw:bz x [[44]] with
     | true =>
       rw[hw] at h;simp only[cond_true] at h;cases hl:jw ts k (j1 + 1) with
       | none=>rw[hl] at h;cases h
       | some lj =>
         obtain ⟨l',j'⟩:=lj;rw[hl] at h;simp only[SJ,PJ] at h;obtain ⟨rfl,rfl⟩:=h;have T:=cD (n:=n) (lin:=lin) m hx' hi (ws:=[[44]]) (wa:=[.str [44]]) rfl (by simp) hw
         rcases hA with ⟨ha0,h3⟩ | ⟨ha0,id,g,h3,hid,hidb⟩
         ·have T':=fun l=>T l (aj Hc n (aC (ts.map TkR.v) lin j1) ++ [.lin 0]) (aK hltc _ _)
          simp only[hlc1,aJ hltc] at T';have key:=ih [d] (j1 + 1) l' j' hl (by simp;subst ha0;simp at hak;omega) fu' (by omega) (aj Hc n (aC (ts.map TkR.v) lin (j1 + 1)) ++ [.lin 0,.cells [.int .i64 (x.k:Int),.int .i64 (x.p:Int),.str x.t,.int .u64 (x.m:Int)]]) ⟨_,by rw[hsn,List.append_assoc]⟩
          subst ha0;simp only[au,js,tc,rF,sd,SIM,ST0,ST1,h0,h3,D',hmin,hmin1,lH,iU,T',hlc,B26,EXS,bi,bg,Nat.reduceAdd,Nat.reduceLeDiff,TkR.v];exact key _ ⟨by first | rfl | exact h0,.inr ⟨by simp,aa Hc,0,rfl,by rw[← hlc (aC (ts.map TkR.v) lin (j1 + 1)),aD];rfl,hHc⟩⟩
         ·have hne:id ≠ n:=by omega
          obtain ⟨G',hG'⟩:=hsi (aC (ts.map TkR.v) lin (j1 + 1)) id (.lin (g + 1)) hidb;have hgi:ae (aj Hc n (aC (ts.map TkR.v) lin j1)) id=some (.lin g):=by rw[af hne,hid]
          have hgn:ae (aj (aj Hc n (aC (ts.map TkR.v) lin j1)) id (.lin (g + 1))) n=some (aC (ts.map TkR.v) lin j1):=by rw[af (Ne.symm hne)];exact aO hcn _
          have happ:=fun e=>jx 31 (xs:=acc.map DeR.v) d (e:=e) hgi (by rw[List.length_map];omega)
          have T':=fun l=>T l (aj (aj Hc n (aC (ts.map TkR.v) lin j1)) id (.lin (g + 1))) hgn
          have hcomm:aj (aj (aj Hc n (aC (ts.map TkR.v) lin j1)) id (.lin (g + 1))) n (aC (ts.map TkR.v) lin (j1 + 1))=aj (aj Hc n (aC (ts.map TkR.v) lin (j1 + 1))) id (.lin (g + 1)):=by
           simp only[aM];rw[List.set_comm _ _ hne,List.set_set]
          have hl3:∀ c v,aa (aj (aj Hc n c) id v)=aa Hc:=fun c v=>by rw[an,an]
          have hst3:∀ (c l o w:AObj),aj (aj (aj Hc n c) id l ++ [o]) (aa Hc) w=aj (aj Hc n c) id l ++ [w]:=fun c l o w=>by
           have e:=dq (aj (aj Hc n c) id l) [o] w;rw[hl3] at e;rw[e];rfl
          rw[hcomm] at T';simp only[hl3] at T';have key:=ih (acc ++ [d]) (j1 + 1) l' j' hl (by simp;omega) fu' (by omega) (aj (aj Hc n (aC (ts.map TkR.v) lin (j1 + 1))) id (.lin (g + 1)) ++ [.cells [.int .i64 (x.k:Int),.int .i64 (x.p:Int),.str x.t,.int .u64 (x.m:Int)]]) ⟨_,by rw[hG',List.append_assoc]⟩
          rw[List.append_assoc] at key;simp only[au,js,tc,rF,sd,SIM,ST0,ST1,h0,h3,D',hmin,hmin1,lH,happ,T',hlc,hl3,hst3,B26,EXS,bi,bg,Nat.reduceAdd,Nat.reduceLeDiff,TkR.v];exact key _ ⟨by first | rfl | exact h0,.inr ⟨by simp,id,g + 1,by simp,aw (by rw[az,aM,List.getElem?_set_self];rw[aM,List.length_set];exact aT hid) _,hidb⟩⟩
     | false =>
       rw[hw] at h;simp only[cond_false] at h;obtain ⟨hw2,h2⟩:=aW h;simp only[SJ,PJ] at h2;obtain ⟨rfl,rfl⟩:=h2;have T:=cM (n:=n) (lin:=lin) m hx' hi (ws:=[[44]]) (wa:=[.str [44]]) rfl (by simp) hw
       have W:=cH (n:=n) (lin:=lin) m hx' hi hw2
       have htok:∀ Y:Heap,ae Y n=some (aC (ts.map TkR.v) lin j1)→∀ l o,orc CC M 29 [.ptr n 0,.sl 1 [.str [41]] l] (Y ++ [o])=some (.ret x.v (aj Y n (aC (ts.map TkR.v) lin (j1 + 1)) ++ [o]) (aa Y + 1)):=fun Y hY l o=>by
        rw[W l (Y ++ [o]) (aw hY _),bP hY,ai,List.length_append,← ai];rfl
       rcases hA with ⟨ha0,h3⟩ | ⟨ha0,id,g,h3,hid,hidb⟩
       ·have hY:ae (aj Hc n (aC (ts.map TkR.v) lin j1) ++ [.lin 0]) n=some (aC (ts.map TkR.v) lin j1):=aK hltc _ _;have T':=fun l=>T l _ hY
        have W':=fun l o=>htok _ hY l o
        simp only[hlc1,aJ hltc,List.append_assoc,List.cons_append,List.nil_append] at T' W';subst ha0;simp only[au,js,tc,rF,sd,EA,t8,SIM,ST0,ST1,h0,h3,D',hmin,hmin1,lH,iU,T',W',hlc,B26,EXS,bi,bg,Nat.reduceAdd,Nat.reduceLeDiff,TkR.v];rw[hmin2,hsn,List.append_assoc];exact ⟨_,_,rfl,aa Hc,0,rfl,hHc⟩
       ·have hne:id ≠ n:=by omega
        obtain ⟨G',hG'⟩:=hsi (aC (ts.map TkR.v) lin (j1 + 1)) id (.lin (g + 1)) hidb;have hgi:ae (aj Hc n (aC (ts.map TkR.v) lin j1)) id=some (.lin g):=by rw[af hne,hid]
        have hgn:ae (aj (aj Hc n (aC (ts.map TkR.v) lin j1)) id (.lin (g + 1))) n=some (aC (ts.map TkR.v) lin j1):=by rw[af (Ne.symm hne)];exact aO hcn _
        have happ:=fun e=>jx 31 (xs:=acc.map DeR.v) d (e:=e) hgi (by rw[List.length_map];omega)
        have T':=fun l=>T l (aj (aj Hc n (aC (ts.map TkR.v) lin j1)) id (.lin (g + 1))) hgn
        have W':=fun l o=>htok _ hgn l o
        have hcomm:aj (aj (aj Hc n (aC (ts.map TkR.v) lin j1)) id (.lin (g + 1))) n (aC (ts.map TkR.v) lin (j1 + 1))=aj (aj Hc n (aC (ts.map TkR.v) lin (j1 + 1))) id (.lin (g + 1)):=by
         simp only[aM];rw[List.set_comm _ _ hne,List.set_set]
        have hl3:∀ c v,aa (aj (aj Hc n c) id v)=aa Hc:=fun c v=>by rw[an,an]
        have hst3:∀ (c l o w:AObj),aj (aj (aj Hc n c) id l ++ [o]) (aa Hc) w=aj (aj Hc n c) id l ++ [w]:=fun c l o w=>by
         have e:=dq (aj (aj Hc n c) id l) [o] w;rw[hl3] at e;rw[e];rfl
        rw[hcomm] at W';simp only[hl3] at T' W';simp only[au,js,tc,rF,sd,EA,t8,SIM,ST0,ST1,h0,h3,D',hmin,hmin1,lH,happ,T',W',hlc,hl3,hst3,B26,EXS,bi,bg,Nat.reduceAdd,Nat.reduceLeDiff,TkR.v];rw[hG',List.append_assoc];exact ⟨_,_,rfl,id,g + 1,by simp,hidb⟩
theorem de_noN:∀ l:List DeR,dt (l.map DeR.v)=true
 | []=>rfl
 | a :: l=>by rw[List.map_cons,bH,de_noN l];rfl
theorem keep51:CC.keep 31=false:=by kernel_rfl
theorem pI (m:ce M)(hlen:ts.length≤90000){k i j:Nat}{l:List DeR}(hk:k≤90000)(h:eU ts k i=some (l,j)):Runs M 31 [.ptr n 0] n (ts.map TkR.v) lin i (deZ l) j:=by
 unfold eU at h;obtain ⟨x,hx,hxw,h⟩:=br h;obtain ⟨y,hy,h⟩:=aU h;have W:=cH (n:=n) (lin:=lin) m (aB hx) (bf hlen hx) hxw;refine Runs.of fun H hlt=>?_
 refine aL (z:=z31) (m _ _ rfl) (by kernel_rfl) rfl ?_
 have e0:(envOf [AV.ptr n 0] 0 env0).a.a.a=.ptr n 0:=rfl;generalize envOf [AV.ptr n 0] 0 env0=R at e0;have hlS:aa (aj H n (aC (ts.map TkR.v) lin i))=aa H:=an _ _ _;cases hw:bz y [[41]] with
 | true =>
   rw[hw] at h;simp only[cond_true,SJ,PJ] at h;obtain ⟨rfl,rfl⟩:=h;have T:=cD (n:=n) (lin:=lin) m (aB hy) (bf hlen hy) (ws:=[[41]]) (wa:=[.str [41]]) rfl (by simp) hw
   simp only[z31,Dw,Ey,CL,Dt,FS,By,SIM,ST0,ST1,e0,W,T,B26,aK hlt,cS hlt,aJ hlt,ei,EXS,bi,bg,Nat.reduceAdd,Nat.reduceLeDiff,TkR.v,deZ]
 | false =>
   rw[hw] at h;simp only[cond_false] at h;have T:=cM (n:=n) (lin:=lin) m (aB hy) (bf hlen hy) (ws:=[[41]]) (wa:=[.str [41]]) rfl (by simp) hw
   obtain ⟨r0,G0,hr0,hpre⟩ : ∃ r G,(r.a.a.a=.ptr n 0∧IQ (aa H) (aj H n (aC (ts.map TkR.v) lin (i + 1)) ++ G) r.a.a.d [])∧z31.sh (orc CC M) R [] ⟨aj H n (aC (ts.map TkR.v) lin i),aa (aj H n (aC (ts.map TkR.v) lin i))⟩=du 0 (au (js (orc CC M)) 100000 r [] ⟨aj H n (aC (ts.map TkR.v) lin (i + 1)) ++ G,aa H⟩):=by
    simp only[z31,Dw,Ey,CL,Dt,FS,By,SIM,ST0,ST1,e0,W,T,B26,aK hlt,cS hlt,aJ hlt,ei,EXS,bi,bg,Nat.reduceAdd,Nat.reduceLeDiff,TkR.v];exact ⟨_,_,⟨by first | rfl | exact e0,.inl ⟨rfl,rfl⟩⟩,rfl⟩
   rw[hpre];obtain ⟨r1,G1,h1,id,g,h2,hid⟩:=vZ (lin:=lin) (n:=n) m hlen hlt k [] (i + 1) l j h (by simp;omega) 100000 (by omega) _ ⟨G0,rfl⟩ r0 hr0
   rw[h1,hlS]
   have hne:l ≠ []:=by
    intro hl;subst hl;cases k with
    | zero=>cases h
    | succ k =>
      simp only[jw] at h
      split at h
      ·obtain ⟨z,hz,h⟩:=aU h;cases hb:bz z [[44]] with
       | true=>rw[hb] at h;simp only[cond_true] at h;split at h <;> cases h
       | false=>rw[hb] at h;simp only[cond_false] at h;obtain ⟨_,h⟩:=aW h;cases h
      ·cases h
   have hgc:=fun hp=>gu (sz:=6) (l:=l.map DeR.v) (id:=id) (g:=g) (base:=aa H) (hp:=hp) (de_noN l) hid
   have hdz:deZ l=.sl 6 (l.map DeR.v) .dead:=by
    cases l with
    | nil=>exact absurd rfl hne
    | cons a l=>rfl
   rw[hdz];rw[List.nil_append] at h2
   have ht:bG (aa H) (aj H n (aC (ts.map TkR.v) lin j) ++ G1)=aj H n (aC (ts.map TkR.v) lin j):=by
    have:=cn (aj H n (aC (ts.map TkR.v) lin j)) G1
    rwa [an] at this
   simp only[z31,SIM,ST0,h2,keep51,hgc,ht,Nat.reduceAdd,Nat.reduceLeDiff]
end
theorem ff (a b c:CZ):ac (ac a b) c=ac a (ac b c):=by
 funext r ds s
 simp only[ac];cases a r ds s with
 | none=>rfl
 | some x=>obtain ⟨e,r1,ds1,s1⟩:=x;cases e <;> rfl
theorem iM (ag:Option Nat)(off:Nat)(cs:List AV):nq ag off (.agg cs)=ex ag cs off:=rfl
def whW:List (List Nat):=[[119,104,101,110]]
def ntW:List (List Nat):=[[110,111,116]]
noncomputable def zj (ts:List TkR)(i:Nat):Option (DeR × Nat):=match gU ts i with
 | some (d,j)=>eB ts j fun x=>cond (bz x whW)
  (eB ts (j + 1) fun y=>cond (bz y ntW) (fC ts (j + 2) fun z j2=>dl ts j2 [59] fun j3=>some ({ d with c:=z.t,o:=true },j3))
   (fC ts (j + 1) fun z j2=>dl ts j2 [59] fun j3=>some ({ d with c:=z.t,o:=false },j3)))
  (dl ts j [59] fun j3=>some (d,j3))
 | none=>none
noncomputable section
def zK (rec:RecT):CZ:=ac (tr rec) (ac (ac (sD rec) (ac (tO rec) (aA (.t 30) (ac (tF rec) (tq rec)) skipZ))) (m9 rec))
end
theorem uD (rec:RecT):nx rec=aS 1 (ac (zK rec) (ac (kS rec) (ac (kW rec) (aA (.t 59) (ac (lq rec) retZ) skipZ)))):=by
 unfold nx zK;simp only[ff]
section
variable {M:Memo}{ts:List TkR}{lin:Lin}{n:Nat}
theorem JK {i j:Nat}{d:DeR}(h:gU ts i=some (d,j)):d.c=[]∧d.o=false:=by
 unfold gU at h;obtain ⟨x,_,_,h⟩:=cK h;obtain ⟨y,_,_,h⟩:=br h;obtain ⟨z,_,h⟩:=aU h;cases hw:bz z fW with
 | true =>
   rw[hw] at h;simp only[cond_true] at h;obtain ⟨w,_,h⟩:=aU h;obtain ⟨_,h3⟩:=aW h;simp only[SJ,PJ] at h3;obtain ⟨rfl,rfl⟩:=h3;exact ⟨rfl,rfl⟩
 | false =>
   rw[hw] at h;simp only[cond_false] at h;obtain ⟨_,h3⟩:=aW h;simp only[SJ,PJ] at h3;obtain ⟨rfl,rfl⟩:=h3;exact ⟨rfl,rfl⟩
theorem IB (m:ce M)(hlen:ts.length≤90000){i j:Nat}{d:DeR}(h:zj ts i=some (d,j)){Hc:Heap}{b:Nat}(hb:b≤aa Hc)(hn:ae Hc n=some (aC (ts.map TkR.v) lin i)){r:RG}(h0:r.a.a.a=.ptr n 0) :
  ∃ r' K,zK (orc CC M) r [] ⟨Hc,b⟩=some (.normal,r',[],⟨aj Hc n (aC (ts.map TkR.v) lin j) ++ (.cells d.l :: K),b⟩)∧r'.a.a.a=.ptr n 0∧r'.a.a.g=.ptr (aa Hc) 0∧r'.a.a.d=r.a.a.d:=by
 unfold zj at h;cases hd:gU ts i with
 | none=>rw[hd] at h;cases h
 | some dj =>
   obtain ⟨d1,j1⟩:=dj;rw[hd] at h;simp only at h;obtain ⟨hdc,hdo⟩:=JK hd;have D:=tw (lin:=lin) (n:=n) m hlen hd Hc hn;obtain ⟨x,hx,h⟩:=aU h;have hlt:n < aa Hc:=by rw[ai];exact aT hn
   have hmin:min b (aa Hc)=b:=Nat.min_eq_left hb;have hmin1:∀ q,min b (aa Hc + q)=b:=fun q=>Nat.min_eq_left (by omega)
   have hlc1:∀ (c:AObj) (K:Heap),aa (aj Hc n c ++ K)=aa Hc + aa K:=fun c K=>by rw[ai,List.length_append,← ai,an,← ai]
   cases hw:bz x whW with
   | true =>
     rw[hw] at h;simp only[cond_true] at h;obtain ⟨y,hy,h⟩:=aU h;have T:=cD (n:=n) (lin:=lin) m (aB hx) (bf hlen hx) (ws:=whW) (wa:=[.str [119,104,101,110]]) rfl (by simp) hw
     cases hw2:bz y ntW with
     | true =>
       rw[hw2] at h;simp only[cond_true] at h;obtain ⟨z,hz,hzk,h⟩:=cK h;obtain ⟨w,hwt,hww,h⟩:=br h;simp only[SJ,PJ] at h;obtain ⟨rfl,rfl⟩:=h;have T2:=cD (n:=n) (lin:=lin) m (aB hy) (bf hlen hy) (ws:=ntW) (wa:=[.str [110,111,116]]) rfl (by simp) hw2
       have N:=fU (n:=n) (lin:=lin) m (aB hz) (bf hlen hz) hzk;have W:=cH (n:=n) (lin:=lin) m (aB hwt) (bf hlen hwt) hww;simp only[zK,tr,sD,tO,tF,tq,m9,SIM,ST0,ST1,h0,D,T,T2,N,W,hmin,hmin1,hlc1,B26,iM,aK hlt,aJ hlt,EXS,bi,bg,Nat.reduceAdd,Nat.reduceLeDiff,TkR.v];exact ⟨_,_,rfl,rfl,rfl,rfl⟩
     | false =>
       rw[hw2] at h;simp only[cond_false] at h;obtain ⟨z,hz,hzk,h⟩:=cK h;obtain ⟨w,hwt,hww,h⟩:=br h;simp only[SJ,PJ] at h;obtain ⟨rfl,rfl⟩:=h;have T2:=cM (n:=n) (lin:=lin) m (aB hy) (bf hlen hy) (ws:=ntW) (wa:=[.str [110,111,116]]) rfl (by simp) hw2
       have N:=fU (n:=n) (lin:=lin) m (aB hz) (bf hlen hz) hzk;have W:=cH (n:=n) (lin:=lin) m (aB hwt) (bf hlen hwt) hww;simp only[zK,tr,sD,tO,tF,tq,m9,SIM,ST0,ST1,h0,D,T,T2,N,W,hmin,hmin1,hlc1,B26,iM,aK hlt,aJ hlt,EXS,bi,bg,Nat.reduceAdd,Nat.reduceLeDiff,TkR.v];exact ⟨_,_,rfl,rfl,rfl,rfl⟩
   | false =>
     rw[hw] at h;simp only[cond_false] at h;obtain ⟨w,hwt,hww,h⟩:=br h;simp only[SJ,PJ] at h;obtain ⟨rfl,rfl⟩:=h;have T:=cM (n:=n) (lin:=lin) m (aB hx) (bf hlen hx) (ws:=whW) (wa:=[.str [119,104,101,110]]) rfl (by simp) hw
     have W:=cH (n:=n) (lin:=lin) m (aB hwt) (bf hlen hwt) hww;simp only[zK,tr,sD,tO,tF,tq,m9,SIM,ST0,ST1,h0,D,T,W,hmin,hmin1,hlc1,B26,iM,aK hlt,aJ hlt,EXS,bi,bg,Nat.reduceAdd,Nat.reduceLeDiff,TkR.v];exact ⟨_,_,rfl,rfl,rfl,rfl⟩
noncomputable def ik (ts:List TkR):Nat→Nat→Option (List DeR × Nat)
 | 0,_=>none
 | k + 1,i=>match zj ts i with
   | some (d,j)=>eB ts j fun x=>cond (bz x [[108,101,116]]) (some ([d],j)) (match ik ts k j with
     | some (l,j')=>some (d :: l,j')
     | none=>none)
   | none=>none
noncomputable def nI (ts:List TkR)(k i:Nat):Option (List DeR × Nat):=eB ts i fun x=>cond (bz x [[118,97,114]]) (ik ts k (i + 1)) (some ([],i))
theorem zF (m:ce M)(hlen:ts.length≤90000){H:Heap}(hlt:n < aa H):∀ (k:Nat) (acc:List DeR) (i:Nat) (l:List DeR) (j:Nat),ik ts k i=some (l,j)→acc.length + k≤100000→∀ (fu:Nat),k≤fu→∀ (Hc:Heap),(∃ G,Hc=aj H n (aC (ts.map TkR.v) lin i) ++ G)→∀ (r:RG),
  (r.a.a.a=.ptr n 0∧IQ (aa H) Hc r.a.a.d acc) →
  Ui H n (aC (ts.map TkR.v) lin j) (acc ++ l) (au (nx (orc CC M)) fu r [] ⟨Hc,aa H⟩):=by
 intro k
 induction k with
 | zero=>intro acc i l j h;cases h
 | succ k ih =>
   intro acc i l j h hak fu hfu Hc hP r ⟨h0,hA⟩;obtain ⟨fu',rfl⟩ : ∃ f,fu=f + 1:=⟨fu - 1,by omega⟩
   simp only[ik] at h;cases hd:zj ts i with
   | none=>rw[hd] at h;cases h
   | some dj =>
     obtain ⟨d,j1⟩:=dj;rw[hd] at h;simp only at h;obtain ⟨x,hx,h⟩:=aU h;have hx':=aB hx;obtain ⟨G,rfl⟩:=hP;have hll:∀ c:AObj,(aj H n c).length=H.length:=fun c=>by rw[aM,List.length_set]
     have hHl:aa H=H.length:=ai H;have hcn:ae (aj H n (aC (ts.map TkR.v) lin i) ++ G) n=some (aC (ts.map TkR.v) lin i):=aK hlt _ _;have hHc:aa H≤aa (aj H n (aC (ts.map TkR.v) lin i) ++ G):=by rw[ai,ai,List.length_append,hll];omega
     have hsn:∀ c,aj (aj H n (aC (ts.map TkR.v) lin i) ++ G) n c=aj H n c ++ G:=fun c=>aJ hlt _ _ _
     have hsi:∀ (c:AObj) (K:Heap) (id:Nat) (v:AObj),aa H≤id→∃ G',aj (aj (aj H n (aC (ts.map TkR.v) lin i) ++ G) n c ++ K) id v=aj H n c ++ G':=fun c K id v hid=>by
      rw[hsn,List.append_assoc];exact ⟨_,dc (by rw[hll,← ai];exact hid) v⟩
     generalize aj H n (aC (ts.map TkR.v) lin i) ++ G=Hc at *;obtain ⟨r1,K,hrun,h01,h6,h31⟩:=IB (lin:=lin) (n:=n) m hlen hd hHc hcn h0;rw[uD];have hltc:n < aa Hc:=by omega
     have hnl:n < (aj Hc n (aC (ts.map TkR.v) lin j1)).length:=by rw[aM,List.length_set,← ai];exact hltc
     have hobj:ae (aj Hc n (aC (ts.map TkR.v) lin j1) ++ (.cells d.l :: K)) (aa Hc)=some (.cells d.l):=by
      rw[← an Hc n (aC (ts.map TkR.v) lin j1),aD];rfl
     have hlen1:aa Hc≤aa (aj Hc n (aC (ts.map TkR.v) lin j1) ++ (.cells d.l :: K)):=by rw[ai,ai,List.length_append,aM,List.length_set];omega
     have hcur:ae (aj Hc n (aC (ts.map TkR.v) lin j1) ++ (.cells d.l :: K)) n=some (aC (ts.map TkR.v) lin j1):=aK hltc _ _;have hloop:∀ X:CZ,au X (fu' + 1) r [] ⟨Hc,aa H⟩=dQ (au X fu') (X r [] ⟨Hc,aa H⟩):=fun X=>rfl
     rw[hloop];rw[uy,bK,hrun,bJ];rw[← h31] at hA;have hnew0:∀ Q,∃ G',aj Hc n (aC (ts.map TkR.v) lin j1) ++ (.cells d.l :: K) ++ Q=aj H n (aC (ts.map TkR.v) lin j1) ++ G':=fun Q=>⟨G ++ ((.cells d.l :: K) ++ Q),by rw[hsn,List.append_assoc,List.append_assoc]⟩
     have hsi':=fun id v hid=>hsi (aC (ts.map TkR.v) lin j1) (.cells d.l :: K) id v hid
     have hA1:(acc=[]∧r1.a.a.d=.nils)∨(acc ≠ []∧∃ id g,r1.a.a.d=.sl 6 (acc.map DeR.v) (.live id g)∧ae (aj Hc n (aC (ts.map TkR.v) lin j1) ++ (.cells d.l :: K)) id=some (.lin g)∧aa H≤id):=by
      rcases hA with h | ⟨h1,id,g,h2,h3,h4⟩
      ·exact .inl h
      ·exact .inr ⟨h1,id,g,h2,aw (by rw[af (by omega),h3]) _,h4⟩
     generalize aj Hc n (aC (ts.map TkR.v) lin j1) ++ (.cells d.l :: K)=Hd at *;have hmin:∀ q,min (aa H) (aa Hd + q)=aa H:=fun q=>Nat.min_eq_left (by omega)
     have hmin0:min (aa H) (aa Hd)=aa H:=Nat.min_eq_left (by omega)
     have hl1:∀ o:AObj,aa (Hd ++ [o])=aa Hd + 1:=fun o=>by simp[ai]
     have htail:∀ {b:Bool},bz x [[108,101,116]]=b→∀ (Y:Heap),ae Y n=some (aC (ts.map TkR.v) lin j1)→∀ l,orc CC M 33 [.ptr n 0,.sl 1 [.str [108,101,116]] l] Y=some (.ret (.bool b) Y (aa Y)):=fun hb Y hY l=>uJ (n:=n) (lin:=lin) m hx' (ws:=[[108,101,116]]) (wa:=[.str [108,101,116]]) rfl (by simp) hb l Y hY
     rcases hA1 with ⟨ha0,h3⟩ | ⟨ha0,id,g,h3,hid,hidb⟩
     ·have hY:ae (Hd ++ [.lin 0]) n=some (aC (ts.map TkR.v) lin j1):=aw hcur _;cases hw:bz x [[108,101,116]] with
      | true =>
        rw[hw] at h;simp only[cond_true,SJ,PJ] at h;obtain ⟨rfl,rfl⟩:=h;have I:=htail hw _ hY;subst ha0;simp only[kS,kW,lq,SIM,ST0,ST1,h01,h6,h3,hobj,lH,iU,I,hl1,hmin,hmin0,B26,Nat.reduceAdd,Nat.reduceLeDiff];obtain ⟨G',hG'⟩:=hnew0 [.lin 0];rw[hG'];exact ⟨_,_,rfl,aa Hd,0,rfl,by omega⟩
      | false =>
        rw[hw] at h;simp only[cond_false] at h;cases hl:ik ts k j1 with
        | none=>rw[hl] at h;cases h
        | some lj =>
          obtain ⟨l',j'⟩:=lj;rw[hl] at h;simp only[SJ,PJ] at h;obtain ⟨rfl,rfl⟩:=h;have I:=htail hw _ hY;have key:=ih [d] j1 l' j' hl (by simp;subst ha0;simp at hak;omega) fu' (by omega) (Hd ++ [.lin 0]) (hnew0 _)
          subst ha0;rw[uD] at key;simp only[kS,kW,lq,SIM,ST0,ST1,h01,h6,h3,hobj,lH,iU,I,hl1,hmin,hmin0,B26,Nat.reduceAdd,Nat.reduceLeDiff];exact key _ ⟨by first | rfl | exact h01,.inr ⟨by simp,aa Hd,0,rfl,by rw[aD];rfl,by omega⟩⟩
     ·have hne:n ≠ id:=by omega
      have happ:=fun e=>jx 32 (xs:=acc.map DeR.v) d (e:=e) hid (by rw[List.length_map];omega)
      have hY:ae (aj Hd id (.lin (g + 1))) n=some (aC (ts.map TkR.v) lin j1):=by rw[af hne,hcur]
      have hl3:∀ v,aa (aj Hd id v)=aa Hd:=fun v=>an _ _ _
      obtain ⟨G',hG'⟩:=hsi' id (.lin (g + 1)) hidb;cases hw:bz x [[108,101,116]] with
      | true =>
        rw[hw] at h;simp only[cond_true,SJ,PJ] at h;obtain ⟨rfl,rfl⟩:=h;have I:=htail hw _ hY;simp only[kS,kW,lq,SIM,ST0,ST1,h01,h6,h3,hobj,lH,happ,I,hl3,hmin,hmin0,B26,Nat.reduceAdd,Nat.reduceLeDiff];rw[hG'];exact ⟨_,_,rfl,id,g + 1,by simp,hidb⟩
      | false =>
        rw[hw] at h;simp only[cond_false] at h;cases hl:ik ts k j1 with
        | none=>rw[hl] at h;cases h
        | some lj =>
          obtain ⟨l',j'⟩:=lj;rw[hl] at h;simp only[SJ,PJ] at h;obtain ⟨rfl,rfl⟩:=h;have I:=htail hw _ hY;have key:=ih (acc ++ [d]) j1 l' j' hl (by simp;omega) fu' (by omega) (aj Hd id (.lin (g + 1))) ⟨G',hG'⟩
          rw[List.append_assoc,uD] at key;simp only[kS,kW,lq,SIM,ST0,ST1,h01,h6,h3,hobj,lH,happ,I,hl3,hmin,hmin0,B26,Nat.reduceAdd,Nat.reduceLeDiff];exact key _ ⟨by first | rfl | exact h01,.inr ⟨by simp,id,g + 1,by simp,aO hid _,hidb⟩⟩
theorem keep52:CC.keep 32=false:=by kernel_rfl
theorem varsL_ne:∀ {k i:Nat} {l:List DeR} {j:Nat},ik ts k i=some (l,j)→l ≠ []
 | 0,_,_,_,h=>by cases h
 | k + 1,i,l,j,h=>by
   simp only[ik] at h
   split at h
   ·obtain ⟨z,hz,h⟩:=aU h;cases hb:bz z [[108,101,116]] with
    | true=>rw[hb] at h;simp only[cond_true,SJ,PJ] at h;rw[← h.1];simp
    | false=>rw[hb] at h;simp only[cond_false] at h;split at h <;> simp at h;rw[← h.1];simp
   ·cases h
theorem GQ (m:ce M)(hlen:ts.length≤90000){k i j:Nat}{l:List DeR}(hk:k≤90000)(h:nI ts k i=some (l,j)):Runs M 32 [.ptr n 0] n (ts.map TkR.v) lin i (deZ l) j:=by
 unfold nI at h;obtain ⟨y,hy,h⟩:=aU h;refine Runs.of fun H hlt=>?_
 refine aL (z:=z32) (m _ _ rfl) (by kernel_rfl) rfl ?_
 have e0:(envOf [AV.ptr n 0] 0 env0).a.a.a=.ptr n 0:=rfl;generalize envOf [AV.ptr n 0] 0 env0=R at e0;have hlS:aa (aj H n (aC (ts.map TkR.v) lin i))=aa H:=an _ _ _;cases hw:bz y [[118,97,114]] with
 | false =>
   rw[hw] at h;simp only[cond_false,SJ,PJ] at h;obtain ⟨rfl,rfl⟩:=h;have T:=cM (n:=n) (lin:=lin) m (aB hy) (bf hlen hy) (ws:=[[118,97,114]]) (wa:=[.str [118,97,114]]) rfl (by simp) hw
   simp only[z32,B7,A9,AC,Ar,Ae,SIM,ST0,ST1,e0,T,B26,aK hlt,cS hlt,aJ hlt,ei,EXS,bi,bg,Nat.reduceAdd,Nat.reduceLeDiff,TkR.v,deZ]
 | true =>
   rw[hw] at h;simp only[cond_true] at h;have T:=cD (n:=n) (lin:=lin) m (aB hy) (bf hlen hy) (ws:=[[118,97,114]]) (wa:=[.str [118,97,114]]) rfl (by simp) hw
   obtain ⟨r0,G0,hr0,hpre⟩ : ∃ r G,(r.a.a.a=.ptr n 0∧IQ (aa H) (aj H n (aC (ts.map TkR.v) lin (i + 1)) ++ G) r.a.a.d [])∧z32.sh (orc CC M) R [] ⟨aj H n (aC (ts.map TkR.v) lin i),aa (aj H n (aC (ts.map TkR.v) lin i))⟩=du 0 (au (nx (orc CC M)) 100000 r [] ⟨aj H n (aC (ts.map TkR.v) lin (i + 1)) ++ G,aa H⟩):=by
    simp only[z32,B7,A9,AC,Ar,Ae,SIM,ST0,ST1,e0,T,B26,aK hlt,cS hlt,aJ hlt,ei,EXS,bi,bg,Nat.reduceAdd,Nat.reduceLeDiff,TkR.v];exact ⟨_,_,⟨by first | rfl | exact e0,.inl ⟨rfl,rfl⟩⟩,rfl⟩
   rw[hpre];obtain ⟨r1,G1,h1,id,g,h2,hid⟩:=zF (lin:=lin) (n:=n) m hlen hlt k [] (i + 1) l j h (by simp;omega) 100000 (by omega) _ ⟨G0,rfl⟩ r0 hr0
   rw[h1,hlS];have hgc:=fun hp=>gu (sz:=6) (l:=l.map DeR.v) (id:=id) (g:=g) (base:=aa H) (hp:=hp) (de_noN l) hid
   have hdz:deZ l=.sl 6 (l.map DeR.v) .dead:=by
    cases l with
    | nil=>exact absurd rfl (varsL_ne h)
    | cons a l=>rfl
   rw[hdz];rw[List.nil_append] at h2
   have ht:bG (aa H) (aj H n (aC (ts.map TkR.v) lin j) ++ G1)=aj H n (aC (ts.map TkR.v) lin j):=by
    have:=cn (aj H n (aC (ts.map TkR.v) lin j)) G1
    rwa [an] at this
   simp only[z32,SIM,ST0,h2,keep52,hgc,ht,Nat.reduceAdd,Nat.reduceLeDiff]
end
abbrev Hv (x:List Nat × Nat):AV:=.agg [.str x.1,.int .i64 (x.2:Int)]
theorem Q4 (s:List Nat)(p:Int):ar CC 112 [(0,.str s),(1,.int .i64 p)]=some (.agg [.str s,.int .i64 p]):=by kernel_rfl
theorem Ru (s:List Nat)(p:Int):aP CC 80 1 [(0,.agg [.str s,.int .i64 p])]=some (.sl 2 [.agg [.str s,.int .i64 p]] .lit):=by kernel_rfl
theorem vt (f:Nat)(hf:CC.mutT f 80=false)(s:List Nat)(p:Int)(hp:Heap)(e:Nat):aq CC f 80 .nils (.sl 2 [.agg [.str s,.int .i64 p]] .lit) ⟨hp,e⟩=some (.sl 2 [.agg [.str s,.int .i64 p]] (.live (aa hp) 0),⟨hp ++ [.lin 0],e⟩):=by
 obtain ⟨e',s1⟩ : ∃ e',bE CC 80=some e'∧e'=112:=⟨_,by kernel_rfl,rfl⟩
 obtain ⟨s1,rfl⟩:=s1;have hi' : (CC.P.info? 112).map (fun i=>(i.size,decide (0 < i.bytes∧i.bytes≤65536)))=some (2,true):=by kernel_rfl
 obtain ⟨i,h1,h2,h3,h4⟩ : ∃ i,CC.P.info? 112=some i∧i.size=2∧0 < i.bytes∧i.bytes≤65536:=by
  cases hi:CC.P.info? 112 with
  | none=>rw[hi] at hi';cases hi'
  | some i =>
    rw[hi] at hi';simp only[Option.map_some,SJ,PJ,decide_eq_true_eq] at hi';exact ⟨i,rfl,hi'.1,hi'.2.1,hi'.2.2⟩
 have hz:ck CC 112=some (.agg [.str [],.int .i64 0]):=by kernel_rfl
 have hok:[AV.agg [.str s,.int .i64 p]].all (bt 2)=true:=rfl
 have hne:¬ (i.size=0∨i.bytes=0∨(AV.agg [.str [],.int .i64 0]).cells.length ≠ i.size∨[AV.agg [.str s,.int .i64 p]].all (bt i.size)=false∨2 ^ 16 < i.bytes):=by
  rw[h2,hok];simp[AV.cells];omega
 simp only[aq,s1,h1,hz,ba,if_true,h2,List.isEmpty,hf,ai];rw[h2] at hne;rw[if_neg hne];simp
theorem Sn (f:Nat):CC.mutT f 80=false:=by
 show ((80:Nat) == 63 || (80:Nat) == 65)=false
 simp
section
variable {M:Memo}{ts:List TkR}{lin:Lin}{n:Nat}
theorem re {sz id g b r:Nat}{l R:List AV}{a:AV}{hp:Heap}(hl:dt l=true)(h1:id < aa hp)(h2:r + 1≤id) :
  dP 1 0 r (.sl sz l (.live id g)) [.sl sz l (.live id g)] (a :: R) ⟨hp,b⟩=some ⟨aj hp r (.cells (.sl sz l (.live id g) :: R)),min b r⟩:=by
 have e1:eH (aa hp) (.sl sz l (.live id g))=true:=by rw[cg,ij hl];simpa using h1
 have e2:eH (r + 1) (.sl sz l (.live id g))=false:=by rw[cg,ij hl];simp;omega
 have e3:Nat.ble (Nat.add 0 1) (aa (a :: R))=true:=by rw[dk,ai];simp
 have e5:Nat.beq (aa [AV.sl sz l (.live id g)]) 1=true:=rfl;have e6:List.all [AV.sl sz l (.live id g)] AV.one=true:=rfl;simp only[dP,e1,e3,e5,e6,Bool.and_self,cond_true,ib,e2,cond_false];rfl
theorem eW {keep:Bool}{base e:Nat}{v:AV}{hp:Heap}(h:e ≠ base):lU keep base v ⟨hp,e⟩=.ret v hp e:=by
 have h1:Nat.beq e base=false:=by rw[gY];simpa using h
 simp only[lU,h1,Bool.false_and,cond_false,GA,dm,if_neg h]
theorem UE (m:ce M)(hlen:ts.length≤90000){i bx qo:Nat}{x:TkR}(hx:ae ts i=some x)(hxk:x.k=1){H:Heap}{R:List AV}(hn:ae H n=some (aC (ts.map TkR.v) lin i))(hb:ae H bx=some (.cells [.ptr n 0]))(hq:ae H qo=some (.cells (.nils :: R)))(h1:bx ≠ n)(h2:qo ≠ n) :
  orc CC M 42 [.ptr bx 0,.ptr qo 0] H=some (.ret Abs.undef (aj (aj H n (aC (ts.map TkR.v) lin (i + 1))) qo (.cells (.sl 2 [Hv (x.t,x.p)] (.live (aa H + 1) 0) :: R)) ++ [.cells [.int .i64 (x.k:Int),.int .i64 (x.p:Int),.str x.t,.int .u64 (x.m:Int)],.lin 0]) qo):=by
 have N:=fU (n:=n) (lin:=lin) m (aB hx) (bf hlen hx) hxk;refine aL (z:=z42) (m _ _ rfl) (by kernel_rfl) rfl ?_
 have e0:(envOf [AV.ptr bx 0,.ptr qo 0] 0 env0).a.a.a=.ptr bx 0:=rfl;have e1:(envOf [AV.ptr bx 0,.ptr qo 0] 0 env0).a.a.b=.ptr qo 0:=rfl;generalize envOf [AV.ptr bx 0,.ptr qo 0] 0 env0=r at e0 e1;have hlt:n < aa H:=by rw[ai];exact aT hn
 have hqlt:qo < aa H:=by rw[ai];exact aT hq
 have N':=N H hn;have hqn:ae (aj H n (aC (ts.map TkR.v) lin (i + 1))) qo=some (.cells (.nils :: R)):=by rw[af h2,hq]
 have happ:=fun hp e=>vt 42 (Sn 42) x.t x.p hp e
 have hst:dP 1 0 qo (.sl 2 [.agg [.str x.t,.int .i64 (x.p:Int)]] (.live (aa H + 1) 0)) [.sl 2 [.agg [.str x.t,.int .i64 (x.p:Int)]] (.live (aa H + 1) 0)] (.nils :: R) ⟨aj H n (aC (ts.map TkR.v) lin (i + 1)) ++ [.cells [.int .i64 (x.k:Int),.int .i64 (x.p:Int),.str x.t,.int .u64 (x.m:Int)],.lin 0],aa H⟩=_ :=
  re rfl (by simp[ai,aM]) (by omega)
 have hmq:min (aa H) qo=qo:=Nat.min_eq_right (by omega)
 have hgc:=fun hp=>eW (keep:=CC.keep 42) (base:=aa H) (e:=qo) (v:=Abs.undef) (hp:=hp) (by omega)
 simp only[z42,Lp,Ow,SIM,ST0,e0,e1,hb,N',B26,hst,hmq,hgc,Q4,Ru,happ,aw hqn,bP hqn,aK hlt,aJ hlt,EXS,bi,bg,Nat.reduceAdd,Nat.reduceLeDiff,TkR.v]
theorem le_noN:∀ l:List (List Nat × Nat),dt (l.map Hv)=true
 | []=>rfl
 | a :: l=>by rw[List.map_cons,bH,le_noN l];rfl
end
noncomputable section
def rX (rec:RecT):CZ:=(ac (Fp rec) (ac (H9 rec) (aA (.t 18) (ac (OQ rec) (ac (Oh rec) (ac (NC rec) (ac (aS 0 (aY (Bj rec))) (Gf rec))))) (uu rec))))
end
theorem Rv (a b:AV)(s:St):dC CC 42 [a,b] s=some (.call 42 [a,b]):=by kernel_rfl
structure LeI (H:Heap)(n:Nat)(c:AObj)(bx qo:Nat)(R:List AV)(L:AV)(Hc:Heap):Prop where
 pre:∃ G,Hc=aj H n c ++ G
 hb:ae Hc bx=some (.cells [.ptr n 0])
 hq:ae Hc qo=some (.cells (L :: R))
 bl:H.length≤bx
 ql:H.length≤qo
 qx:qo=bx + 2
 li:∀ es id g,L=.sl 2 es (.live id g)→id < aa Hc
 rs:∃ cs,ae Hc (bx + 1)=some (.cells cs)∧8≤aa cs
section
variable {M:Memo}{ts:List TkR}{lin:Lin}{n:Nat}
theorem LeI.cur {H:Heap}{c:AObj}{bx qo:Nat}{R:List AV}{L:AV}{Hc:Heap}(h:LeI H n c bx qo R L Hc)(hn:n < H.length):ae Hc n=some c:=by
 obtain ⟨G,rfl⟩:=h.pre;exact aK (by rw[ai];exact hn) _ _
theorem LeI.next {H Hc K K' : Heap}{c c' : AObj}{bx qo:Nat}{R:List AV}{L L' : AV}(hn:n < H.length)(hL:L ≠ .ptr n 0)(I:LeI H n c bx qo R L Hc)(hli:∀ es id g,L'=.sl 2 es (.live id g)→id < aa (aj (aj (Hc ++ K) n c') qo (.cells (L' :: R)) ++ K')):LeI H n c' bx qo R L' (aj (aj (Hc ++ K) n c') qo (.cells (L' :: R)) ++ K'):=by
 have hne:bx ≠ qo:=by
  intro h;have h1:=I.hb;rw[h,I.hq] at h1;simp only[SJ,AObj.cells.injEq,List.cons.injEq] at h1;exact hL h1.1
 have hb:=I.bl;have hq:=I.ql;have hx:=I.qx;obtain ⟨cs,hcs,hcl⟩:=I.rs;refine ⟨?_,?_,?_,I.bl,I.ql,I.qx,hli,cs,?_,hcl⟩
 ·obtain ⟨G,rfl⟩:=I.pre;rw[List.append_assoc,aJ (by rw[ai];exact hn),dc (by rw[aM,List.length_set];exact hq),List.append_assoc]
  exact ⟨_,rfl⟩
 ·exact aw (by rw[af hne,af (by omega)];exact aw I.hb _) _
 ·exact aw (aO (by rw[af (by omega)];exact aw I.hq _) _) _
 ·exact aw (by rw[af (by omega),af (by omega)];exact aw hcs _) _
theorem ER (m:ce M)(hlen:ts.length≤90000){H Hc:Heap}{i bx qo:Nat}{R:List AV}(hn:n < H.length)(I:LeI H n (aC (ts.map TkR.v) lin i) bx qo R .nils Hc){x:TkR}(hx:ae ts i=some x)(hxk:x.k=1){r:RG}
  (hr:r.a.a.b=.ptr bx 0∧r.a.a.d=.ptr qo 0∧r.a.a.e=.func (.func 42) [] [.ptr bx 0,.ptr qo 0]) :
  ∃ r' Hd id,rX (orc CC M) r [] ⟨Hc,aa H⟩=some (.normal,r',[],⟨Hd,aa H⟩)∧LeI H n (aC (ts.map TkR.v) lin (i + 1)) bx qo R (.sl 2 [Hv (x.t,x.p)] (.live id 0)) Hd∧qo < id∧r'.a.a.b=.ptr bx 0∧r'.a.a.c=r.a.a.c∧r'.a.a.d=.ptr qo 0:=by
 obtain ⟨h1,h3,h4⟩:=hr;have hcur:=I.cur hn;have hw:bz x [[40]]=false:=by unfold bz;rw[hxk];rfl
 have T:=cM (n:=n) (lin:=lin) m (aB hx) (bf hlen hx) (ws:=[[40]]) (wa:=[.str [40]]) rfl (by simp) hw
 have A:=UE (n:=n) (lin:=lin) m hlen hx hxk (H:=Hc ++ [.cells [.int .i64 (x.k:Int),.int .i64 (x.p:Int),.str x.t,.int .u64 (x.m:Int)]]) (aw hcur _) (aw I.hb _) (aw I.hq _) (by have:=I.bl;omega) (by have:=I.ql;omega)
 have T':=fun l=>T l Hc hcur
 have hbc:=I.hb;obtain ⟨G,hG⟩:=I.pre;have hHc:aa H≤aa Hc:=by rw[hG,ai,ai,List.length_append,aM,List.length_set];omega
 have hmin:min (aa H) (aa Hc)=aa H:=Nat.min_eq_left hHc;have hmq:min (aa H) qo=aa H:=Nat.min_eq_left (by rw[ai];exact I.ql)
 simp only[rX,Fp,H9,uu,SIM,ST0,h1,h3,h4,hbc,T',Rv,A,hmin,hmq,B26,EXS,bi,bg,Nat.reduceAdd,Nat.reduceLeDiff,TkR.v];exact ⟨_,_,_,rfl,I.next hn (by simp) (by intro es id' g' h;cases h;simp[ai,aM]),by have:=aT I.hq;rw[ai];omega,rfl,rfl,rfl⟩
end
section
variable {M:Memo}{ts:List TkR}{lin:Lin}{n:Nat}{H Hc:Heap}{c:AObj}{bx qo:Nat}{R:List AV}{L:AV}
theorem LeI.setn (hn:n < H.length)(I:LeI H n c bx qo R L Hc)(c' : AObj):LeI H n c' bx qo R L (aj Hc n c'):=by
 have hb:=I.bl;have hq:=I.ql;obtain ⟨cs,hcs,hcl⟩:=I.rs;refine ⟨?_,by rw[af (by omega)];exact I.hb,by rw[af (by omega)];exact I.hq,I.bl,I.ql,I.qx,fun es id g h=>by rw[an];exact I.li es id g h,cs,by rw[af (by omega)];exact hcs,hcl⟩
 obtain ⟨G,rfl⟩:=I.pre;exact ⟨G,aJ (by rw[ai];exact hn) _ _ _⟩
theorem LeI.setq (hn:n < H.length)(hL:L ≠ .ptr n 0)(I:LeI H n c bx qo R L Hc)(R' : List AV):LeI H n c bx qo R' L (aj Hc qo (.cells (L :: R'))):=by
 have hne:bx ≠ qo:=by
  intro h;have h1:=I.hb;rw[h,I.hq] at h1;simp only[SJ,AObj.cells.injEq,List.cons.injEq] at h1;exact hL h1.1
 have hx:=I.qx;obtain ⟨cs,hcs,hcl⟩:=I.rs;refine ⟨?_,by rw[af hne];exact I.hb,aO I.hq _,I.bl,I.ql,I.qx,fun es id g h=>by rw[an];exact I.li es id g h,cs,by rw[af (by omega)];exact hcs,hcl⟩
 obtain ⟨G,rfl⟩:=I.pre;exact ⟨_,dc (by rw[aM,List.length_set];exact I.ql) _⟩
theorem LeI.len (I:LeI H n c bx qo R L Hc):aa H≤aa Hc:=by
 obtain ⟨G,rfl⟩:=I.pre;rw[ai,ai,List.length_append,aM,List.length_set];omega
abbrev zR:List AV:=[.bool false,.int .i64 0,.int .i64 0,.int .i64 0,.str [],.bool false,.nils]
theorem Kh (m:ce M)(hlen:ts.length≤90000){i:Nat}(hn:n < H.length)(hL:L ≠ .ptr n 0)(I:LeI H n (aC (ts.map TkR.v) lin i) bx qo zR L Hc){x y:TkR}(hx:ae ts i=some x)(hxw:bz x [[61]]=true)(hy:ae ts (i + 1)=some y)(hyw:bz y [[97,115,121,110,99]]=false){r:RG}
  (hr:r.a.a.b=.ptr bx 0∧r.a.a.d=.ptr qo 0) :
  ∃ r' Hd,ac (jB (orc CC M)) (ac (jr (orc CC M)) (jC (orc CC M))) r [] ⟨Hc,aa H⟩=some (.normal,r',[],⟨Hd,aa H⟩)∧LeI H n (aC (ts.map TkR.v) lin (i + 1)) bx qo zR L Hd∧r'.a.a.b=.ptr bx 0∧r'.a.a.c=r.a.a.c∧r'.a.a.d=.ptr qo 0∧r'.a.h.g=.bool false:=by
 obtain ⟨h1,h3⟩:=hr;have W:=cH (n:=n) (lin:=lin) m (aB hx) (bf hlen hx) hxw;have T:=cM (n:=n) (lin:=lin) m (aB hy) (bf hlen hy) (ws:=[[97,115,121,110,99]]) (wa:=[.str [97,115,121,110,99]]) rfl (by simp) hyw
 have I1:=I.setn hn (aC (ts.map TkR.v) lin (i + 1));have I2:=I1.setq hn hL zR;have W':=fun l=>W l Hc (I.cur hn)
 have T':=fun l=>T l _ (I1.cur hn)
 have hmin:min (aa H) (aa Hc)=aa H:=Nat.min_eq_left I.len;have hls:∀ c:AObj,aa (aj Hc n c)=aa Hc:=fun c=>an _ _ _
 simp only[hls] at T';have hb:=I.hb;have hb1:=I1.hb;have hq1:=I1.hq;have hq2:=I2.hq;simp only[jB,jr,jC,SIM,ST0,ST1,h1,h3,hb,hb1,hq1,hq2,W',T',hmin,hls,B26,EXS,bi,bg,Nat.reduceAdd,Nat.reduceLeDiff];exact ⟨_,_,rfl,I2,h1,rfl,h3,rfl⟩
abbrev eR (b:Bool)(e:Ex):List AV:=[.bool b,.int .i64 (e.k:Int),.int .i64 (e.p:Int),.int .i64 e.n,.str e.s,.bool e.b,e.kv]
theorem Jd (m:ce M){i j:Nat}{e:Ex}{b:Bool}(hn:n < H.length)(hL:L ≠ .ptr n 0)(I:LeI H n (aC (ts.map TkR.v) lin i) bx qo (.bool b :: [.int .i64 0,.int .i64 0,.int .i64 0,.str [],.bool false,.nils]) L Hc)(hE:Runs M 44 [.ptr n 0] n (ts.map TkR.v) lin i e.v j){r:RG}
  (hr:r.a.a.b=.ptr bx 0∧r.a.a.d=.ptr qo 0) :
  ∃ Hd,ne (orc CC M) r [] ⟨Hc,aa H⟩=some (.normal,r,[],⟨Hd,aa H⟩)∧LeI H n (aC (ts.map TkR.v) lin j) bx qo (eR b e) L Hd:=by
 obtain ⟨h1,h3⟩:=hr;have I1:=I.setn hn (aC (ts.map TkR.v) lin j);have I2:=I1.setq hn hL (eR b e);have E':=hE Hc (I.cur hn);have hmin:min (aa H) (aa Hc)=aa H:=Nat.min_eq_left I.len;have hb:=I.hb;have hq1:=I1.hq;have hput:cu [L,.bool b,.int .i64 0,.int .i64 0,.int .i64 0,.str [],.bool false,.nils] 2 [.int .i64 (e.k:Int),.int .i64 (e.p:Int),.int .i64 e.n,.str e.s,.bool e.b,e.kv]=L :: eR b e:=rfl;simp only[ne,SIM,ST0,ST1,h1,h3,hb,hq1,E',hmin,hput,EXS,bi,bg,Nat.reduceAdd,Nat.reduceLeDiff];exact ⟨_,rfl,I2⟩
theorem JC (m:ce M)(hlen:ts.length≤90000){i:Nat}{e:Ex}{b:Bool}(hn:n < H.length)(I:LeI H n (aC (ts.map TkR.v) lin i) bx qo (eR b e) L Hc)(hs:sizeE e < 90000)(hd:deepE e≤40){x:TkR}(hx:ae ts i=some x)(hxw:bz x [[59]]=true){r:RG}
  (hr:r.a.a.b=.ptr bx 0∧r.a.a.d=.ptr qo 0) :
  ∃ r' Hd,ac (ac (nK (orc CC M)) (aA (.t 76) (nh (orc CC M)) skipZ)) (mV (orc CC M)) r [] ⟨Hc,aa H⟩=some (.normal,r',[],⟨Hd,aa H⟩)∧LeI H n (aC (ts.map TkR.v) lin (i + 1)) bx qo (eR b e) L Hd∧r'.a.a.b=.ptr bx 0∧r'.a.a.c=r.a.a.c∧r'.a.a.d=.ptr qo 0:=by
 obtain ⟨h1,h3⟩:=hr;have W:=cH (n:=n) (lin:=lin) m (aB hx) (bf hlen hx) hxw;have I1:=I.setn hn (aC (ts.map TkR.v) lin (i + 1));have W':=fun l=>W l Hc (I.cur hn)
 have hmin:min (aa H) (aa Hc)=aa H:=Nat.min_eq_left I.len;have hb:=I.hb;have hq:=I.hq;have hD:=Kp (M:=M) m (sizeE e) e (Nat.le_refl _) hs Hc;have hc:decide ((40:Int) < (deepE e:Int))=false:=by simp;omega
 simp only[nK,nh,mV,SIM,ST0,ST1,ST2,h1,h3,hb,hq,hD,hc,W',hmin,B26,EXS,bi,bg,Nat.reduceAdd,Nat.reduceLeDiff];exact ⟨_,_,rfl,I1,h1,rfl,h3⟩
end
abbrev qR (l:List (List Nat × Nat))(n:Lin)(b:Bool)(e:Ex):List AV:=.sl 2 (l.map Hv) n :: eR b e
theorem Gl {l:List (List Nat × Nat)}{id g:Nat}{b:Bool}{e:Ex}(base:Nat):AV.low base (.agg (qR l (.live id g) b e))=decide (id < base):=by
 have h1:aR base (l.map Hv)=true:=by
  have:=(dh (.agg (l.map Hv)) (by rw[dT];exact le_noN l)).2 base
  simpa only[AV.low] using this
 have h2:AV.low base e.kv=true:=(dh _ (n8 e)).2 base;simp[AV.low,aR,h1,h2,Lin.low]
theorem Kb {l:List (List Nat × Nat)}{id g r b0:Nat}{b:Bool}{e:Ex}{cs:List AV}{hp:Heap}(h1:id < aa hp)(h2:r + 1≤id)(h3:b0≤r)(h4:8≤aa cs) :
  dP 8 0 r (.agg (qR l (.live id g) b e)) (qR l (.live id g) b e) cs ⟨hp,b0⟩=some ⟨aj hp r (.cells (cu cs 0 (qR l (.live id g) b e))),b0⟩:=by
 have e1:eH (aa hp) (.agg (qR l (.live id g) b e))=true:=by rw[cg,Gl];simpa using h1
 have e2:eH (r + 1) (.agg (qR l (.live id g) b e))=false:=by rw[cg,Gl];simp;omega
 have e3:Nat.ble (Nat.add 0 8) (aa cs)=true:=by rw[dk];simpa using h4
 have e4:min b0 r=b0:=Nat.min_eq_left h3;have e5:Nat.beq (aa (qR l (.live id g) b e)) 8=true:=rfl
 have e6:List.all (qR l (.live id g) b e) AV.one=true:=by
  simp only[List.all_cons,List.all_nil,ip,fH,ev,eA,kY,Bool.and_self]
 simp only[dP,e1,e3,e5,e6,Bool.and_self,cond_true,ib,e2,cond_false,e4]
theorem Vl {l:List (List Nat × Nat)}{id g base:Nat}{b:Bool}{e:Ex}{hp:Heap}(hid:base≤id) :
  lU false base (.agg (qR l (.live id g) b e)) ⟨hp,base⟩=.ret (.agg (qR l .dead b e)) (bG base hp) base:=by
 have h1:fZ (.agg (qR l (.live id g) b e))=false:=rfl;have h2:Lin.low base (.live id g)=false:=by simp[Lin.low];omega
 have hk:AV.settle base hp e.kv=e.kv:=(dh _ (n8 e)).1 base hp
 have h3:AV.settle base hp (.agg (qR l (.live id g) b e))=.agg (qR l .dead b e):=by
  simp[AV.settle,bC,eI (le_noN l),h2,hk]
 have h4:AV.low base (.agg (qR l .dead b e))=true:=by
  refine (dh _ ?_).2 base;simp only[dT,bH,noNL_nil,gG,linN_dead,le_noN,f8,fg,eX,n8,cond_true]
 unfold lU;rw[h1,Bool.and_false];simp only[cond_false,GA,dm,if_true,h3,h4,Bool.false_eq_true,if_false,dB]
theorem SE (rec:RecT):z34.sh rec=ac (ac (tA rec) (ac (rL rec) (rD rec))) (ac (rX rec) (ac (ac (jB rec) (ac (jr rec) (jC rec))) (ac (aA (.t 62) (mn rec) (ne rec)) (ac (ac (ac (nK rec) (aA (.t 76) (nh rec) skipZ)) (mV rec)) (ac (nZ rec) retZ))))):=by
 simp only[z34,rX,ff]
theorem keep54:CC.keep 34=false:=by kernel_rfl
section
variable {M:Memo}{ts:List TkR}{lin:Lin}{n:Nat}{H Hc:Heap}{c:AObj}{bx qo:Nat}{R:List AV}{L:AV}
abbrev zR2:List AV:=[.bool true,.int .i64 0,.int .i64 0,.int .i64 0,.str [],.bool false,.nils]
theorem AY (m:ce M)(hlen:ts.length≤90000){i:Nat}(hn:n < H.length)(hL:L ≠ .ptr n 0)(I:LeI H n (aC (ts.map TkR.v) lin i) bx qo zR L Hc){x y:TkR}(hx:ae ts i=some x)(hxw:bz x [[61]]=true)(hy:ae ts (i + 1)=some y)(hyw:bz y [[97,115,121,110,99]]=true){r:RG}
  (hr:r.a.a.b=.ptr bx 0∧r.a.a.d=.ptr qo 0) :
  ∃ r' Hd,ac (jB (orc CC M)) (ac (jr (orc CC M)) (jC (orc CC M))) r [] ⟨Hc,aa H⟩=some (.normal,r',[],⟨Hd,aa H⟩)∧LeI H n (aC (ts.map TkR.v) lin (i + 1 + 1)) bx qo zR2 L Hd∧r'.a.a.b=.ptr bx 0∧r'.a.a.c=r.a.a.c∧r'.a.a.d=.ptr qo 0∧r'.a.h.g=.bool true:=by
 obtain ⟨h1,h3⟩:=hr;have W:=cH (n:=n) (lin:=lin) m (aB hx) (bf hlen hx) hxw;have T:=cD (n:=n) (lin:=lin) m (aB hy) (bf hlen hy) (ws:=[[97,115,121,110,99]]) (wa:=[.str [97,115,121,110,99]]) rfl (by simp) hyw
 have I1:=I.setn hn (aC (ts.map TkR.v) lin (i + 1));have I1b:=I.setn hn (aC (ts.map TkR.v) lin (i + 1 + 1));have I2:=I1b.setq hn hL zR2;have W':=fun l=>W l Hc (I.cur hn)
 have T':=fun l=>T l _ (I1.cur hn)
 have hmin:min (aa H) (aa Hc)=aa H:=Nat.min_eq_left I.len;have hls:∀ c:AObj,aa (aj Hc n c)=aa Hc:=fun c=>an _ _ _
 have hls2:∀ c d:AObj,aa (aj (aj Hc n c) n d)=aa Hc:=fun c d=>by rw[an,an]
 simp only[hls] at T';have hb:=I.hb;have hb1:=I1.hb;have hq1:=I1.hq;have hb1b:=I1b.hb;have hq1b:=I1b.hq;have hq2:=I2.hq;simp only[jB,jr,jC,SIM,ST0,ST1,h1,h3,hb,hb1,hq1,hb1b,hq1b,hq2,W',T',hmin,hls,hls2,B26,EXS,bi,bg,Nat.reduceAdd,Nat.reduceLeDiff];exact ⟨_,_,rfl,I2,h1,rfl,h3,rfl⟩
theorem Bs (m:ce M)(hlen:ts.length≤90000){i j:Nat}{x:TkR}{e:Ex}{b:Bool}(hx:ae ts i=some x)(hxk:x.k=1)(hn:n < H.length)(hL:L ≠ .ptr n 0)(I:LeI H n (aC (ts.map TkR.v) lin i) bx qo (.bool b :: [.int .i64 0,.int .i64 0,.int .i64 0,.str [],.bool false,.nils]) L Hc)(hE:Runs M 43 [.ptr n 0,x.v] n (ts.map TkR.v) lin (i + 1) e.v j){r:RG}
  (hr:r.a.a.b=.ptr bx 0∧r.a.a.d=.ptr qo 0) :
  ∃ Hd,mn (orc CC M) r [] ⟨Hc,aa H⟩=some (.normal,r,[],⟨Hd,aa H⟩)∧LeI H n (aC (ts.map TkR.v) lin j) bx qo (eR b e) L Hd:=by
 obtain ⟨h1,h3⟩:=hr;have N:=fU (n:=n) (lin:=lin) m (aB hx) (bf hlen hx) hxk;have I0:=I.setn hn (aC (ts.map TkR.v) lin (i + 1));have I1:=I.setn hn (aC (ts.map TkR.v) lin j);have I2:=I1.setq hn hL (eR b e);have N':=N Hc (I.cur hn);have E':=hE _ (I0.cur hn);have hls:∀ c:AObj,aa (aj Hc n c)=aa Hc:=fun c=>an _ _ _
 simp only[hls] at E';have hmin:min (aa H) (aa Hc)=aa H:=Nat.min_eq_left I.len;have hb:=I.hb;have hb0:=I0.hb;have hq1:=I1.hq;have hput:cu [L,.bool b,.int .i64 0,.int .i64 0,.int .i64 0,.str [],.bool false,.nils] 2 [.int .i64 (e.k:Int),.int .i64 (e.p:Int),.int .i64 e.n,.str e.s,.bool e.b,e.kv]=L :: eR b e:=rfl;have hsm:AV.same (.ptr n 0) (.ptr n 0)=true:=by simp[AV.same]
 simp only[mn,SIM,ST0,ST1,h1,h3,hb,hb0,hq1,N',E',hmin,hput,hsm,EXS,bi,bg,Nat.reduceAdd,Nat.reduceLeDiff];exact ⟨_,rfl,I2⟩
end
noncomputable def Vo (rec:RecT):CZ:=ac (ac (jB rec) (ac (jr rec) (jC rec))) (aA (.t 62) (mn rec) (ne rec))
theorem KQ (rec:RecT):z34.sh rec=ac (ac (tA rec) (ac (rL rec) (rD rec))) (ac (rX rec) (ac (Vo rec) (ac (ac (ac (nK rec) (aA (.t 76) (nh rec) skipZ)) (mV rec)) (ac (nZ rec) retZ)))):=by
 rw[SE];simp only[Vo,ff]
def Wy (M:Memo)(ts:List TkR)(lin:Lin)(n:Nat)(i j:Nat)(b:Bool)(e:Ex):Prop :=
 ∀ (H Hc:Heap)(bx qo:Nat)(L:AV)(r:RG),n < H.length→L ≠ .ptr n 0→LeI H n (aC (ts.map TkR.v) lin i) bx qo zR L Hc→(r.a.a.b=.ptr bx 0∧r.a.a.d=.ptr qo 0) →
   ∃ r' Hd,Vo (orc CC M) r [] ⟨Hc,aa H⟩=some (.normal,r',[],⟨Hd,aa H⟩)∧LeI H n (aC (ts.map TkR.v) lin j) bx qo (eR b e) L Hd∧r'.a.a.b=.ptr bx 0∧r'.a.a.c=r.a.a.c∧r'.a.a.d=.ptr qo 0
theorem XU {M:Memo}{ts:List TkR}{lin:Lin}{n:Nat}(m:ce M)(hlen:ts.length≤90000){i j k:Nat}{y z:TkR}{e:Ex}(hy:ae ts i=some y)(hyw:bz y [[61]]=true)(hz:ae ts (i + 1)=some z)(hzw:bz z [[97,115,121,110,99]]=false)
  (hk:k≤90000) (he:pp ts k .expr (i + 1)=some (e,j)):Wy M ts lin n i j false e:=by
 intro H Hc bx qo L r hn hL I hr;have hE:Runs M 44 [.ptr n 0] n (ts.map TkR.v) lin (i + 1) e.v j:=(EP (lin:=lin) (n:=n) m hlen k hk).expr he;obtain ⟨r2,H2,s2,I2,b1,b2,b3,b4⟩:=Kh m hlen hn hL I hy hyw hz hzw hr;obtain ⟨H3,s3,I3⟩:=Jd m hn hL I2 hE (r:=r2) ⟨b1,b3⟩;refine ⟨r2,H3,?_,I3,b1,b2,b3⟩;unfold Vo;rw[bK,s2,bJ];have hg:gx ⟨r2,[]⟩ (.t 62)=.bool false:=b4;rw[← s3,ml,hg];rfl
theorem XK {M:Memo}{ts:List TkR}{lin:Lin}{n:Nat}(m:ce M)(hlen:ts.length≤90000){i j k:Nat}{y z f:TkR}{e:Ex}(hy:ae ts i=some y)(hyw:bz y [[61]]=true)(hz:ae ts (i + 1)=some z)(hzw:bz z [[97,115,121,110,99]]=true)(hf:ae ts (i + 1 + 1)=some f)(hfk:f.k=1)
  (hk:k≤90000) (he:ya ts (pp ts k) k f (i + 1 + 1 + 1)=some (e,j)):Wy M ts lin n i j true e:=by
 intro H Hc bx qo L r hn hL I hr;have hE:Runs M 43 [.ptr n 0,f.v] n (ts.map TkR.v) lin (i + 1 + 1 + 1) e.v j:=sZ m hlen (EP (lin:=lin) (n:=n) m hlen k hk) hk he;obtain ⟨r2,H2,s2,I2,b1,b2,b3,b4⟩:=AY m hlen hn hL I hy hyw hz hzw hr;obtain ⟨H3,s3,I3⟩:=Bs m hlen hf hfk hn hL I2 hE (r:=r2) ⟨b1,b3⟩;refine ⟨r2,H3,?_,I3,b1,b2,b3⟩;unfold Vo;rw[bK,s2,bJ];have hg:gx ⟨r2,[]⟩ (.t 62)=.bool true:=b4;rw[← s3,ml,hg];rfl
theorem J3 {M:Memo}{ts:List TkR}{lin:Lin}{n:Nat}(m:ce M)(hlen:ts.length≤90000){i j:Nat}{x w:TkR}{e:Ex}{b:Bool}(hx:ae ts i=some x)(hxk:x.k=1)(hAB:Wy M ts lin n (i + 1) j b e)
  (hs:sizeE e < 90000) (hd:deepE e≤40) (hw:ae ts j=some w) (hww:bz w [[59]]=true) :
  Runs M 34 [.ptr n 0] n (ts.map TkR.v) lin i (.agg (qR [(x.t,x.p)] .dead b e)) (j + 1):=by
 refine Runs.of fun H hlt=>?_
 refine aL (z:=z34) (m _ _ rfl) (by kernel_rfl) rfl ?_
 have e0:(envOf [AV.ptr n 0] 0 env0).a.a.a=.ptr n 0:=rfl;generalize envOf [AV.ptr n 0] 0 env0=R0 at e0;have hn:n < H.length:=by rw[ai] at hlt;exact hlt
 have hlS:∀ c:AObj,aa (aj H n c)=aa H:=fun c=>an _ _ _
 have hlS' : ∀ c:AObj,(aj H n c).length=H.length:=fun c=>by rw[aM,List.length_set]
 have hbx:ep (.ptr n 0) H.length=some (.cells [.ptr n 0],(.ptr · 0)):=by
  have h1:(AV.ptr n 0).cells.all AV.one=true:=rfl;have h2:AV.low H.length (.ptr n 0)=true:=by simp[AV.low,hn]
  unfold ep;rw[if_pos ⟨h1,h2⟩];rfl
 let Z8:AObj:=.cells (.nils :: zR)
 have I0:LeI H n (aC (ts.map TkR.v) lin i) (aa H) (aa H + 2) zR .nils (aj H n (aC (ts.map TkR.v) lin i) ++ [.cells [.ptr n 0],Z8,Z8]):=by
  refine ⟨⟨_,rfl⟩,?_,?_,by rw[ai];exact Nat.le_refl _,by rw[ai];omega,rfl,(fun es id g h=>by cases h),.nils :: zR,by rw[← hlS (aC (ts.map TkR.v) lin i),bj];rfl,Nat.le_refl 8⟩
  ·rw[← hlS (aC (ts.map TkR.v) lin i),aD];rfl
  ·rw[← hlS (aC (ts.map TkR.v) lin i),bj];rfl
 obtain ⟨r0,hr0,hpre⟩ : ∃ r,(r.a.a.b=.ptr (aa H) 0∧r.a.a.c=.ptr (aa H + 1) 0∧r.a.a.d=.ptr (aa H + 2) 0∧r.a.a.e=.func (.func 42) [] [.ptr (aa H) 0,.ptr (aa H + 2) 0]) ∧
   ac (tA (orc CC M)) (ac (rL (orc CC M)) (rD (orc CC M))) R0 [] ⟨aj H n (aC (ts.map TkR.v) lin i),aa H⟩=some (.normal,r,[],⟨aj H n (aC (ts.map TkR.v) lin i) ++ [.cells [.ptr n 0],Z8,Z8],aa H⟩):=by
  simp only[tA,rL,rD,SIM,ST0,e0,hlS',hbx,hlS,Nat.reduceAdd,Nat.reduceLeDiff];exact ⟨_,⟨rfl,rfl,rfl,rfl⟩,rfl⟩
 rw[hlS,KQ,bK,hpre,bJ,bK];obtain ⟨r1,H1,id,s1,I1,hid,a1,a2,a3⟩:=ER m hlen hn I0 hx hxk (r:=r0) ⟨hr0.1,hr0.2.2.1,hr0.2.2.2⟩;rw[s1,bJ,bK];obtain ⟨r2,H3,s3,I3,b1,b2,b3⟩:=hAB H H1 _ _ _ r1 hn (by simp) I1 ⟨a1,a3⟩
 rw[s3,bJ,bK];obtain ⟨r4,H4,s4,I4,c1,c2,c3⟩:=JC m hlen hn I3 hs hd hw hww (r:=r2) ⟨b1,b3⟩;rw[s4,bJ];obtain ⟨cs,hcs,hcl⟩:=I4.rs;have hid4:id < aa H4:=I4.li _ _ _ rfl;have hst:=Kb (l:=[(x.t,x.p)]) (id:=id) (g:=0) (r:=aa H + 1) (b0:=aa H) (b:=b) (e:=e) (cs:=cs) (hp:=H4) hid4 (by omega) (by omega) hcl
 have hq4:=I4.hq;have hres:r4.a.a.c=.ptr (aa H + 1) 0:=by rw[c2,b2,a2];exact hr0.2.1
 have hqn:∀ c,ae (aj H4 (aa H + 1) c) (aa H + 1)=some c:=fun c=>aO hcs c
 have hput:cu cs 0 (qR [(x.t,x.p)] (.live id 0) b e)=qR [(x.t,x.p)] (.live id 0) b e ++ cs.drop 8:=rfl
 have s5:nZ (orc CC M) r4 [] ⟨H4,aa H⟩=some (.normal,r4,[],⟨aj H4 (aa H + 1) (.cells (cu cs 0 (qR [(x.t,x.p)] (.live id 0) b e))),aa H⟩):=by
  simp only[nZ,SIM,ST0,c3,hres,hq4,hcs,Nat.reduceAdd,Nat.reduceLeDiff];exact congrArg (fun o=>oB o fun s1=>some (AExit.normal,r4,([]:Dfs),s1)) hst
 rw[bK,s5,bJ]
 have hres2:fG r4 (aj H4 (aa H + 1) (.cells (cu cs 0 (qR [(x.t,x.p)] (.live id 0) b e)))) z34.res=some [.agg (qR [(x.t,x.p)] (.live id 0) b e)]:=by
  show fG r4 _ [.cell 2 (some 8)]=_;rw[qw,jD,show gt r4 2=.ptr (aa H + 1) 0 from hres,ox,hqn]
  have hp8:∀ (a b1 b2 b3 b4 b5 b6 b7:AV) (cs:List AV),ex (some 8) (cu cs 0 [a,b1,b2,b3,b4,b5,b6,b7]) 0=some (.agg [a,b1,b2,b3,b4,b5,b6,b7]):=fun a b1 b2 b3 b4 b5 b6 b7 cs=>by
   rw[uP];unfold aZ;rw[List.take_zero,List.nil_append];generalize List.drop _ cs=D;have hb:Nat.ble (Nat.add 0 8) (aa ([a,b1,b2,b3,b4,b5,b6,b7] ++ D))=true:=by rw[dk,ai];simp
   rw[q6,hb];simp only[List.cons_append,List.nil_append,cond_true,qq,rb,ro,pQ,pZ,qJ,qQ,rj,pO,pW]
  simp only[hp8]
 rw[uV,ju,hres2]
 have hpre4:bG (aa H) (aj H4 (aa H + 1) (.cells (cu cs 0 (qR [(x.t,x.p)] (.live id 0) b e))))=aj H n (aC (ts.map TkR.v) lin (j + 1)):=by
  obtain ⟨G,hG⟩:=I4.pre;rw[hG,dc (by rw[hlS',← ai];omega),← hlS (aC (ts.map TkR.v) lin (j + 1)),cn]
 have hgc:=Vl (l:=[(x.t,x.p)]) (id:=id) (g:=0) (base:=aa H) (b:=b) (e:=e) (hp:=aj H4 (aa H + 1) (.cells (cu cs 0 (qR [(x.t,x.p)] (.live id 0) b e)))) (by omega)
 rw[hpre4] at hgc;rw[← hgc,← keep54];rfl
theorem aI {α:Type}(a b:List α):aa (a ++ b)=aa a + aa b:=by simp[ai]
structure EqR where
 l:List (List Nat × Nat)
 a:Bool
 e:Ex
abbrev EqR.v (q:EqR):AV:=.agg (qR q.l .dead q.a q.e)
def asW:List (List Nat):=[[97,115,121,110,99]]
noncomputable def ru (ts:List TkR)(x:TkR)(b:Bool)(r:PR):Option (EqR × Nat):=match r with
 | some (e,j)=>cond (Nat.ble (sizeE e + 1) 90000 && Nat.ble (deepE e) 40) (dl ts j [59] fun j=>some (⟨[(x.t,x.p)],b,e⟩,j)) none
 | none=>none
noncomputable def II (ts:List TkR)(k i:Nat):Option (EqR × Nat):=fC ts i fun x j=>dl ts j [61] fun j=>eB ts j fun z=>cond (bz z asW)
 (fC ts (j + 1) fun f j=>ru ts x true (ya ts (pp ts k) k f j)) (ru ts x false (pp ts k .expr j))
section
variable {M:Memo}{ts:List TkR}{lin:Lin}{n:Nat}
theorem xR (m:ce M)(hlen:ts.length≤90000){i j:Nat}{x:TkR}{b:Bool}{r:PR}{q:EqR}(hx:ae ts i=some x)(hxk:x.k=1)(h:ru ts x b r=some (q,j))(hAB:∀ e j,r=some (e,j)→Wy M ts lin n (i + 1) j b e) :
  Runs M 34 [.ptr n 0] n (ts.map TkR.v) lin i q.v j:=by
 cases r with
 | none=>cases h
 | some ej =>
   obtain ⟨e,j1⟩:=ej;simp only[ru] at h;obtain ⟨hc,h⟩:=aW h;rw[Bool.and_eq_true,dk,dk,decide_eq_true_eq,decide_eq_true_eq] at hc;obtain ⟨w,hw,hww,h⟩:=br h;simp only[SJ,PJ] at h;obtain ⟨rfl,rfl⟩:=h;exact J3 m hlen hx hxk (hAB e j1 rfl) (show sizeE e < 90000 by have:=hc.1;omega) hc.2 hw hww
theorem Le (m:ce M)(hlen:ts.length≤90000){k i j:Nat}{q:EqR}(hk:k≤90000)(h:II ts k i=some (q,j)):Runs M 34 [.ptr n 0] n (ts.map TkR.v) lin i q.v j:=by
 unfold II at h;obtain ⟨x,hx,hxk,h⟩:=cK h;obtain ⟨y,hy,hyw,h⟩:=br h;obtain ⟨z,hz,h⟩:=aU h;cases hzw:bz z asW with
 | true =>
   rw[hzw] at h;simp only[cond_true] at h;obtain ⟨f,hf,hfk,h⟩:=cK h;exact xR m hlen hx hxk h fun e j1 he=>XK m hlen hy hyw hz hzw hf hfk hk he
 | false =>
   rw[hzw] at h;simp only[cond_false] at h;exact xR m hlen hx hxk h fun e j1 he=>XU m hlen hy hyw hz hzw hk he
end
theorem rT (e:Ex):e.kv=.nils∨∃ l q,e.kv=.sl 6 l q:=by
 unfold Ex.kv;cases exL e.kids with
 | nil=>exact .inl rfl
 | cons a l=>exact .inr ⟨_,_,rfl⟩
theorem Pa (q:EqR):aP CC 44 1 [(0,q.v)]=some (.sl 8 [q.v] .lit):=by
 obtain ⟨l,a,e⟩:=q;show aP CC 44 1 [(0,.agg (qR l .dead a e))]=some (.sl 8 [.agg (qR l .dead a e)] .lit);obtain h | ⟨m,w,h⟩:=rT e <;> rw[qR,eR,h] <;> kernel_rfl
theorem Qd (q:EqR):[q.v].all (bt 8)=true:=by
 obtain ⟨l,a,e⟩:=q;show [AV.agg (qR l .dead a e)].all (bt 8)=true;obtain h | ⟨m,w,h⟩:=rT e <;> rw[qR,eR,h] <;> rfl
theorem eq_noN:∀ l:List EqR,dt (l.map EqR.v)=true
 | []=>rfl
 | q :: l=>by
   rw[List.map_cons,bH,eq_noN l];simp only[dT,bH,noNL_nil,gG,linN_dead,le_noN,f8,fg,eX,n8,cond_true]
theorem le_same:∀ l:List (List Nat × Nat),sameL (l.map Hv) (l.map Hv)=true
 | []=>by simp[sameL]
 | a :: l=>by rw[List.map_cons];simp[sameL,AV.same,le_same l]
theorem xC (e:Ex):AV.same e.kv e.kv=true:=oX (exL_same _)
theorem eq_same:∀ l:List EqR,sameL (l.map EqR.v) (l.map EqR.v)=true
 | []=>by simp[sameL]
 | q :: l=>by rw[List.map_cons];simp[sameL,AV.same,le_same,xC,eq_same l]
theorem se59:∃ e,bE CC 44=some e∧e=85:=⟨_,by kernel_rfl,rfl⟩
theorem inf125' : (CC.P.info? 85).map (fun i=>(i.size,decide (0 < i.bytes∧i.bytes≤65536)))=some (8,true):=by kernel_rfl
theorem inf125:∃ i,CC.P.info? 85=some i∧i.size=8∧0 < i.bytes∧i.bytes≤65536:=by
 have h:=inf125';cases hi:CC.P.info? 85 with
 | none=>rw[hi] at h;cases h
 | some i =>
   rw[hi] at h;simp only[Option.map_some,SJ,PJ,decide_eq_true_eq] at h;exact ⟨i,rfl,h.1,h.2.1,h.2.2⟩
theorem zero125:ck CC 85=some (.agg (.nils :: zR)):=by kernel_rfl
theorem VB (f:Nat):CC.mutT f 44=false:=by
 show ((44:Nat) == 63 || (44:Nat) == 65)=false
 simp
theorem zG (f:Nat)(d:EqR)(hp:Heap)(e:Nat):aq CC f 44 .nils (.sl 8 [d.v] .lit) ⟨hp,e⟩=some (.sl 8 [d.v] (.live (aa hp) 0),⟨hp ++ [.lin 0],e⟩):=by
 obtain ⟨i,h1,h2,h3,h4⟩:=inf125;obtain ⟨e',s1,rfl⟩:=se59
 have hne:¬ (i.size=0∨i.bytes=0∨(AV.agg (.nils :: zR)).cells.length ≠ i.size∨[d.v].all (bt i.size)=false∨2 ^ 16 < i.bytes):=by
  rw[h2,Qd];simp[AV.cells];omega
 simp only[aq,s1,h1,zero125,ba,if_true,h2,List.isEmpty,VB,ai];rw[h2] at hne;rw[if_neg hne];simp
theorem uW (f:Nat){xs:List AV}(d:EqR){hp:Heap}{e id g:Nat}(hg:ae hp id=some (.lin g))(hl:xs.length + 1≤2 ^ 24) :
  aq CC f 44 (.sl 8 xs (.live id g)) (.sl 8 [d.v] .lit) ⟨hp,e⟩=some (.sl 8 (xs ++ [d.v]) (.live id (g + 1)),⟨aj hp id (.lin (g + 1)),e⟩):=by
 obtain ⟨i,h1,h2,h3,h4⟩:=inf125;obtain ⟨e',s1,rfl⟩:=se59;rw[az] at hg;have h5:decide (xs.length + [d.v].length≤2 ^ 24)=true:=by simp;omega
 have hne:¬ (i.size=0∨i.bytes=0∨(AV.agg (.nils :: zR)).cells.length ≠ i.size∨[d.v].all (bt i.size)=false∨2 ^ 16 < i.bytes):=by
  rw[h2,Qd];simp[AV.cells];omega
 rw[h2] at hne;simp only[aq,s1,h1,zero125,ba,if_true,h2,h5,List.isEmpty,hg,aM];rw[if_neg hne];simp
noncomputable def je (ts:List TkR)(k:Nat):Nat→Nat→Option (List EqR × Nat)
 | 0,_=>none
 | f + 1,i=>eB ts i fun x=>cond (bz x [[116,101,108]]) (some ([],i)) (match II ts k i with
   | some (q,j)=>match je ts k f j with
     | some (l,j')=>some (q :: l,j')
     | none=>none
   | none=>none)
abbrev fN (s:List Nat)(p:Nat)(I O V:List DeR)(L:AV):List AV:=[.str s,.int .i64 (p:Int),deZ I,deZ O,deZ V,L]
def WG (Hc:Heap)(no:Nat)(L:AV)(acc:List EqR):Prop:=(acc=[]∧L=.nils)∨(acc ≠ []∧∃ id g,L=.sl 8 (acc.map EqR.v) (.live id g)∧ae Hc id=some (.lin g)∧no < id)
structure NoI (H:Heap)(n:Nat)(c:AObj)(P:AV→List AV)(acc:List EqR)(Hc:Heap):Prop where
 pre:∃ G,Hc=aj H n c ++ G
 rs:ae Hc (aa H)=some (.cells [.str [],.int .i64 0,.nils,.nils,.nils,.nils])
 nd:∃ L,ae Hc (aa H + 2)=some (.cells (P L))∧WG Hc (aa H + 2) L acc
def XD (H:Heap)(n:Nat)(c:AObj)(P:AV→List AV)(all:List EqR)(X:IRes):Prop:=∃ r' Hd,X=some (.exit 0,r',[],⟨Hd,aa H⟩)∧NoI H n c P all Hd∧r'.a.a.a=.ptr n 0∧r'.a.a.c=.ptr (aa H) 0∧r'.a.a.e=.ptr (aa H + 2) 0
theorem NoI.cur {H:Heap}{n:Nat}{c:AObj}{P:AV→List AV}{acc:List EqR}{Hc:Heap}(h:NoI H n c P acc Hc)(hn:n < aa H):ae Hc n=some c:=by
 obtain ⟨G,rfl⟩:=h.pre;exact aK hn _ _
theorem NoI.len {H:Heap}{n:Nat}{c:AObj}{P:AV→List AV}{acc:List EqR}{Hc:Heap}(h:NoI H n c P acc Hc):aa H≤aa Hc:=by
 obtain ⟨G,rfl⟩:=h.pre;rw[ai,ai,List.length_append,aM,List.length_set];omega
theorem NoI.next {H:Heap}{n:Nat}{c c' : AObj}{P:AV→List AV}{acc acc' : List EqR}{Hc K:Heap}{L' : AV}(hlt:n < aa H)(I:NoI H n c P acc Hc)
  (hE:WG (aj (aj Hc n c' ++ K) (aa H + 2) (.cells (P L'))) (aa H + 2) L' acc'):NoI H n c' P acc' (aj (aj Hc n c' ++ K) (aa H + 2) (.cells (P L'))):=by
 obtain ⟨L,hL,_⟩:=I.nd;refine ⟨?_,?_,L',aO (aw (by rw[af (by omega)];exact hL) _) _,hE⟩
 ·obtain ⟨G,rfl⟩:=I.pre;rw[aJ hlt,List.append_assoc];exact ⟨_,dc (by rw[aM,List.length_set,ai];omega) _⟩
 ·rw[af (by omega)]
  exact aw (by rw[af (by omega)];exact I.rs) _
theorem NoI.next2 {H:Heap}{n:Nat}{c c' v:AObj}{P:AV→List AV}{acc acc' : List EqR}{Hc:Heap}{L' : AV}{id:Nat}(hlt:n < aa H)(hid:aa H + 2 < id)(I:NoI H n c P acc Hc)
  (hE:WG (aj (aj (aj Hc n c') id v) (aa H + 2) (.cells (P L'))) (aa H + 2) L' acc'):NoI H n c' P acc' (aj (aj (aj Hc n c') id v) (aa H + 2) (.cells (P L'))):=by
 obtain ⟨L,hL,_⟩:=I.nd;refine ⟨?_,?_,L',?_,hE⟩
 ·obtain ⟨G,rfl⟩:=I.pre;rw[aJ hlt,dc (by rw[aM,List.length_set,← ai];omega)]
  exact ⟨_,dc (by rw[aM,List.length_set,ai];omega) _⟩
 ·rw[af (by omega),af (by omega),af (by omega)]
  exact I.rs
 ·have h1:ae (aj (aj Hc n c') id v) (aa H + 2)=some (.cells (P L)):=by rw[af (by omega),af (by omega)];exact hL
  exact aO h1 _
theorem HL (s:List Nat)(p:Nat)(I O V:List DeR)(L L' : AV):cu (fN s p I O V L) 5 [L']=fN s p I O V L':=rfl
section
variable {M:Memo}{ts:List TkR}{lin:Lin}{n:Nat}
theorem Hi (m:ce M)(hlen:ts.length≤90000){H:Heap}(hlt:n < aa H){k:Nat}(hk:k≤90000){s:List Nat}{p:Nat}{I O V:List DeR}:∀ (f:Nat) (acc:List EqR) (i:Nat) (l:List EqR) (j:Nat),je ts k f i=some (l,j)→acc.length + f≤100000→∀ (fu:Nat),f≤fu→∀ (Hc:Heap),NoI H n (aC (ts.map TkR.v) lin i) (fN s p I O V) acc Hc→∀ (r:RG),
  (r.a.a.a=.ptr n 0∧r.a.a.c=.ptr (aa H) 0∧r.a.a.e=.ptr (aa H + 2) 0) →
  XD H n (aC (ts.map TkR.v) lin j) (fN s p I O V) (acc ++ l) (au (kK (orc CC M)) fu r [] ⟨Hc,aa H⟩):=by
 intro f
 induction f with
 | zero=>intro acc i l j h;cases h
 | succ f ih =>
   intro acc i l j h hak fu hfu Hc hP r ⟨h0,h2,h4⟩;obtain ⟨fu',rfl⟩ : ∃ f,fu=f + 1:=⟨fu - 1,by omega⟩
   simp only[je] at h;obtain ⟨x,hx,h⟩:=aU h;have hcn:ae Hc n=some (aC (ts.map TkR.v) lin i):=by obtain ⟨G,rfl⟩:=hP.pre;exact aK hlt _ _
   cases hw:bz x [[116,101,108]] with
   | true =>
     rw[hw] at h;simp only[cond_true,SJ,PJ] at h;obtain ⟨rfl,rfl⟩:=h;have I':=fun l=>uJ (n:=n) (lin:=lin) m (aB hx) (ws:=[[116,101,108]]) (wa:=[.str [116,101,108]]) rfl (by simp) hw l Hc hcn
     have hmin:min (aa H) (aa Hc)=aa H:=by obtain ⟨G,rfl⟩:=hP.pre;exact Nat.min_eq_left (by rw[ai,ai,List.length_append,aM,List.length_set];omega)
     simp only[au,kK,wM,SIM,ST0,ST1,h0,I',hmin,B26,Nat.reduceAdd,Nat.reduceLeDiff];exact ⟨_,_,rfl,hP,by first | rfl | exact h0,by first | rfl | exact h2,by first | rfl | exact h4⟩
   | false =>
     rw[hw] at h;simp only[cond_false] at h;cases hq:II ts k i with
     | none=>rw[hq] at h;cases h
     | some qj =>
       obtain ⟨q,j1⟩:=qj;rw[hq] at h;simp only at h;cases hl:je ts k f j1 with
       | none=>rw[hl] at h;cases h
       | some lj =>
         obtain ⟨l',j'⟩:=lj;rw[hl] at h;simp only[SJ,PJ] at h;obtain ⟨rfl,rfl⟩:=h;have I':=fun l=>uJ (n:=n) (lin:=lin) m (aB hx) (ws:=[[116,101,108]]) (wa:=[.str [116,101,108]]) rfl (by simp) hw l Hc hcn
         have E:=Le (lin:=lin) (n:=n) m hlen hk hq Hc hcn;have hmin:min (aa H) (aa Hc)=aa H:=by obtain ⟨G,rfl⟩:=hP.pre;exact Nat.min_eq_left (by rw[ai,ai,List.length_append,aM,List.length_set];omega)
         have hll:∀ c:AObj,aa (aj Hc n c)=aa Hc:=fun c=>an _ _ _
         obtain ⟨L,hL,hE⟩:=hP.nd;have hL1:ae (aj Hc n (aC (ts.map TkR.v) lin j1)) (aa H + 2)=some (.cells (fN s p I O V L)):=by rw[af (by omega),hL]
         have hnl:aa H + 2 < aa Hc:=by rw[ai Hc];exact aT hL
         rcases hE with ⟨rfl,rfl⟩ | ⟨ha0,id,g,rfl,hid,hidb⟩
         ·have happ:=fun e=>zG 18 q (aj Hc n (aC (ts.map TkR.v) lin j1)) e
          simp only[hll] at happ
          have hst:dP 1 5 (aa H + 2) (.sl 8 [q.v] (.live (aa Hc) 0)) [.sl 8 [q.v] (.live (aa Hc) 0)] (fN s p I O V .nils) ⟨aj Hc n (aC (ts.map TkR.v) lin j1) ++ [.lin 0],aa H⟩=_ :=
           rh (eq_noN [q]) (by rw[aI,hll,show aa [AObj.lin 0]=1 from rfl];omega) (by omega) (by omega) (by rw[ai];simp)
          rw[HL] at hst;have hL2:ae (aj Hc n (aC (ts.map TkR.v) lin j1) ++ [.lin 0]) (aa H + 2)=some (.cells (fN s p I O V .nils)):=aw hL1 _;have hNI:=hP.next (c':=aC (ts.map TkR.v) lin j1) (K:=[.lin 0]) (L':=.sl 8 [q.v] (.live (aa Hc) 0)) (acc':=[q]) hlt (.inr ⟨by simp,_,_,rfl,by rw[af (by omega),← hll (aC (ts.map TkR.v) lin j1),aD];rfl,hnl⟩)
          have key:=ih [q] j1 l' j' hl (by simp at hak ⊢;omega) fu' (by omega) _ hNI
          simp only[au,kK,wM,Ej,SIM,ST0,ST1,h0,h4,I',E,hL,hL1,hL2,same_nils,Pa,happ,hst,hmin,B26,Nat.reduceAdd,Nat.reduceLeDiff];exact key _ ⟨by first | rfl | exact h0,by first | rfl | exact h2,by first | rfl | exact h4⟩
         ·have hgi:ae (aj Hc n (aC (ts.map TkR.v) lin j1)) id=some (.lin g):=by rw[af (by omega),hid]
          have happ:=fun e=>uW 18 (xs:=acc.map EqR.v) q (e:=e) hgi (by rw[List.length_map];omega)
          have hm:acc.map EqR.v ++ [q.v]=(acc ++ [q]).map EqR.v:=by simp
          rw[hm] at happ
          have hst:dP 1 5 (aa H + 2) (.sl 8 ((acc ++ [q]).map EqR.v) (.live id (g + 1))) [.sl 8 ((acc ++ [q]).map EqR.v) (.live id (g + 1))] (fN s p I O V (.sl 8 (acc.map EqR.v) (.live id g))) ⟨aj (aj Hc n (aC (ts.map TkR.v) lin j1)) id (.lin (g + 1)),aa H⟩=_ :=
           rh (eq_noN _) (by rw[an,hll,ai];exact aT hid) (by omega) (by omega) (by rw[ai];simp)
          rw[HL] at hst;have hL2:ae (aj (aj Hc n (aC (ts.map TkR.v) lin j1)) id (.lin (g + 1))) (aa H + 2)=some (.cells (fN s p I O V (.sl 8 (acc.map EqR.v) (.live id g)))):=by rw[af (by omega),hL1]
          have hsm:AV.same (.sl 8 (acc.map EqR.v) (.live id g)) (.sl 8 (acc.map EqR.v) (.live id g))=true:=by simp[AV.same,eq_same]
          have hNI:=hP.next2 (c':=aC (ts.map TkR.v) lin j1) (v:=.lin (g + 1)) (L':=.sl 8 ((acc ++ [q]).map EqR.v) (.live id (g + 1))) (acc':=acc ++ [q]) hlt hidb (.inr ⟨by simp,_,_,rfl,by rw[af (by omega)];exact aO hgi _,hidb⟩)
          have key:=ih (acc ++ [q]) j1 l' j' hl (by simp;omega) fu' (by omega) _ hNI
          rw[List.append_assoc] at key;simp only[au,kK,wM,Ej,SIM,ST0,ST1,h0,h4,I',E,hL,hL1,hL2,hsm,Pa,happ,hst,hmin,B26,Nat.reduceAdd,Nat.reduceLeDiff];exact key _ ⟨by first | rfl | exact h0,by first | rfl | exact h2,by first | rfl | exact h4⟩
end
structure NdR where
 s:List Nat
 p:Nat
 ins:List DeR
 outs:List DeR
 vars:List DeR
 eqs:List EqR
abbrev oc (l:List EqR):AV:=.sl 8 (l.map EqR.v) .dead
abbrev NdR.v (d:NdR):AV:=.agg (fN d.s d.p d.ins d.outs d.vars (oc d.eqs))
noncomputable def kd (ts:List TkR)(k i:Nat):Option (NdR × Nat):=dl ts i [110,111,100,101] fun j=>fC ts j fun x j=>match eU ts k j with
 | none=>none
 | some (I,j)=>dl ts j [114,101,116,117,114,110,115] fun j=>match eU ts k j with
   | none=>none
   | some (O,j)=>match nI ts k j with
     | none=>none
     | some (V,j)=>dl ts j [108,101,116] fun j=>match je ts k k j with
       | none=>none
       | some ([],_)=>none
       | some (q :: E,j)=>some (⟨x.t,x.p,I,O,V,q :: E⟩,j + 1)
theorem sI {ts:List TkR}{k:Nat}:∀ {f i:Nat} {l:List EqR} {j:Nat},je ts k f i=some (l,j)→∃ x,ae ts j=some x∧bz x [[116,101,108]]=true
 | 0,_,_,_,h=>by cases h
 | f + 1,i,l,j,h=>by
   simp only[je] at h;obtain ⟨x,hx,h⟩:=aU h;cases hw:bz x [[116,101,108]] with
   | true =>
     rw[hw] at h;simp only[cond_true,SJ,PJ] at h;obtain ⟨rfl,rfl⟩:=h;exact ⟨x,hx,hw⟩
   | false =>
     rw[hw] at h;simp only[cond_false] at h
     split at h
     ·split at h
      ·rename_i h2;simp only[SJ,PJ] at h;obtain ⟨rfl,rfl⟩:=h;exact sI h2
      ·cases h
     ·cases h
theorem fc (l:List DeR):fZ (deZ l)=true:=by
 cases l with
 | nil=>rfl
 | cons a l=>show fZ (.sl 6 ((a :: l).map DeR.v) .dead)=true;rw[gG,linN_dead,de_noN];rfl
theorem kj (l:List DeR):AV.one (deZ l)=true:=by cases l <;> rfl
theorem Vj (s:List Nat)(p:Nat)(l:List DeR):ar CC 46 [(0,.str s),(1,.int .i64 (p:Int)),(2,deZ l)]=some (.agg [.str s,.int .i64 (p:Int),deZ l,.nils,.nils,.nils]):=by
 have h1:∀ (q:Int),ar CC 46 [(0,.str s),(1,.int .i64 q),(2,.nils)]=some (.agg [.str s,.int .i64 q,.nils,.nils,.nils,.nils]):=fun q=>by kernel_rfl
 have h2:∀ (q:Int) (xs:List AV),ar CC 46 [(0,.str s),(1,.int .i64 q),(2,.sl 6 xs .dead)]=some (.agg [.str s,.int .i64 q,.sl 6 xs .dead,.nils,.nils,.nils]):=fun q xs=>by kernel_rfl
 cases l with
 | nil=>exact h1 p
 | cons a l=>exact h2 p _
theorem zJ (l:List DeR):AV.cells (deZ l)=[deZ l]:=by cases l <;> rfl
theorem DZS:(∀ l,AV.cells (deZ l)=[deZ l])∧(∀ l,fZ (deZ l)=true)∧(∀ l,AV.one (deZ l)=true)∧(∀ (s:List Nat) (p:Nat) (l:List DeR),ar CC 46 [(0,.str s),(1,.int .i64 (p:Int)),(2,deZ l)]=some (.agg [.str s,.int .i64 (p:Int),deZ l,.nils,.nils,.nils])) :=
 ⟨zJ,fc,kj,Vj⟩
theorem Dc {s:List Nat}{p:Nat}{I O V:List DeR}{sz id g:Nat}{l:List AV}(hl:dt l=true)(base:Nat):AV.low base (.agg (fN s p I O V (.sl sz l (.live id g))))=decide (id < base):=by
 have h:=fun l=>(dh (deZ l) (fc l)).2 base
 simp[AV.low,aR,dS hl,h,Lin.low]
theorem IT {s:List Nat}{p:Nat}{I O V:List DeR}{sz id g r b0:Nat}{l cs:List AV}{hp:Heap}(hl:dt l=true)(h1:id < aa hp)(h2:r + 1≤id)(h3:b0≤r)(h4:6≤aa cs) :
  dP 6 0 r (.agg (fN s p I O V (.sl sz l (.live id g)))) (fN s p I O V (.sl sz l (.live id g))) cs ⟨hp,b0⟩=some ⟨aj hp r (.cells (cu cs 0 (fN s p I O V (.sl sz l (.live id g))))),b0⟩:=by
 have e1:eH (aa hp) (.agg (fN s p I O V (.sl sz l (.live id g))))=true:=by rw[cg,Dc hl];simpa using h1
 have e2:eH (r + 1) (.agg (fN s p I O V (.sl sz l (.live id g))))=false:=by rw[cg,Dc hl];simp;omega
 have e3:Nat.ble (Nat.add 0 6) (aa cs)=true:=by rw[dk];simpa using h4
 have e4:min b0 r=b0:=Nat.min_eq_left h3;have e5:Nat.beq (aa (fN s p I O V (.sl sz l (.live id g)))) 6=true:=rfl
 have e6:List.all (fN s p I O V (.sl sz l (.live id g))) AV.one=true:=by
  simp only[List.all_cons,List.all_nil,ip,ev,eA,kj,Bool.and_self]
 simp only[dP,e1,e3,e5,e6,Bool.and_self,cond_true,ib,e2,cond_false,e4]
theorem V6 {s:List Nat}{p:Nat}{I O V:List DeR}{sz id g base:Nat}{l:List AV}{hp:Heap}(hl:dt l=true)(hid:base≤id) :
  lU false base (.agg (fN s p I O V (.sl sz l (.live id g)))) ⟨hp,base⟩=.ret (.agg (fN s p I O V (.sl sz l .dead))) (bG base hp) base:=by
 have h1:fZ (.agg (fN s p I O V (.sl sz l (.live id g))))=false:=by
  simp only[dT,bH,eX,fg,fc,cond_true];rfl
 have h2:Lin.low base (.live id g)=false:=by simp[Lin.low];omega
 have hs:=fun l=>(dh (deZ l) (fc l)).1 base hp
 have hw:=fun l=>(dh (deZ l) (fc l)).2 base
 have h3:AV.settle base hp (.agg (fN s p I O V (.sl sz l (.live id g))))=.agg (fN s p I O V (.sl sz l .dead)):=by
  simp[AV.settle,bC,eI hl,h2,hs]
 have h4:AV.low base (.agg (fN s p I O V (.sl sz l .dead)))=true:=by
  simp[AV.low,aR,dS hl,Lin.low,hw]
 unfold lU;rw[h1,Bool.and_false];simp only[cond_false,GA,dm,if_true,h3,h4,Bool.false_eq_true,if_false,dB]
theorem keep29:CC.keep 18=false:=by kernel_rfl
section
variable {M:Memo}{ts:List TkR}{lin:Lin}{n:Nat}
theorem uU {k i j:Nat}{d:NdR}(h:kd ts k i=some (d,j)):∃ x0 x x3 x6 i3 i4 i5 i6,ae ts i=some x0∧bz x0 [[110,111,100,101]]=true∧ae ts (i + 1)=some x∧x.k=1∧eU ts k (i + 1 + 1)=some (d.ins,i3) ∧
  ae ts i3=some x3∧bz x3 [[114,101,116,117,114,110,115]]=true∧eU ts k (i3 + 1)=some (d.outs,i4)∧nI ts k i4=some (d.vars,i5)∧ae ts i5=some x6∧bz x6 [[108,101,116]]=true∧je ts k k (i5 + 1)=some (d.eqs,i6)∧d.eqs ≠ []∧j=i6 + 1∧d.s=x.t∧d.p=x.p:=by
 unfold kd at h;obtain ⟨x0,h0,h0w,h⟩:=br h;obtain ⟨x,hx,hxk,h⟩:=cK h;cases hD:eU ts k (i + 1 + 1) with
 | none=>rw[hD] at h;cases h
 | some y =>
   obtain ⟨I,i3⟩:=y;rw[hD] at h;obtain ⟨x3,h3,h3w,h⟩:=br h;cases hD2:eU ts k (i3 + 1) with
   | none=>rw[hD2] at h;cases h
   | some y =>
     obtain ⟨O,i4⟩:=y;rw[hD2] at h;simp only at h;cases hV:nI ts k i4 with
     | none=>rw[hV] at h;cases h
     | some y =>
       obtain ⟨V,i5⟩:=y;rw[hV] at h;obtain ⟨x6,h6,h6w,h⟩:=br h;cases hE:je ts k k (i5 + 1) with
       | none=>rw[hE] at h;cases h
       | some y =>
         obtain ⟨E,i6⟩:=y;rw[hE] at h;cases E with
         | nil=>cases h
         | cons q E =>
           simp only[SJ,PJ] at h;obtain ⟨rfl,rfl⟩:=h;exact ⟨x0,x,x3,x6,i3,i4,i5,i6,h0,h0w,hx,hxk,by first | exact hD | rfl,h3,h3w,by first | exact hD2 | rfl,by first | exact hV | rfl,h6,h6w,by first | exact hE | rfl,by simp,rfl,rfl,rfl⟩
theorem sL (m:ce M)(hlen:ts.length≤90000){k i j:Nat}{d:NdR}(hk:k≤90000)(h:kd ts k i=some (d,j)):Runs M 18 [.ptr n 0] n (ts.map TkR.v) lin i d.v j:=by
 obtain ⟨x0,x,x3,x6,i3,i4,i5,i6,h0,h0w,hx,hxk,hD,h3,h3w,hD2,hV,h6,h6w,hE,hne,rfl,hs,hp⟩:=uU h;obtain ⟨s,p,I,O,V,E⟩:=d;simp only at hD hD2 hV hE hne hs hp;subst hs hp;obtain ⟨x7,h7,h7w⟩:=sI hE;refine Runs.of fun H hlt=>?_
 refine aL (z:=z18) (m _ _ rfl) (by kernel_rfl) rfl ?_
 have e0:(envOf [AV.ptr n 0] 0 env0).a.a.a=.ptr n 0:=rfl;generalize envOf [AV.ptr n 0] 0 env0=R0 at e0;have hlS:∀ c:AObj,aa (aj H n c)=aa H:=fun c=>an _ _ _
 have W0:=cH (n:=n) (lin:=lin) m (aB h0) (bf hlen h0) h0w;have N:=fU (n:=n) (lin:=lin) m (aB hx) (bf hlen hx) hxk;have D1:=pI (n:=n) (lin:=lin) m hlen hk hD;have W3:=cH (n:=n) (lin:=lin) m (aB h3) (bf hlen h3) h3w;have D2:=pI (n:=n) (lin:=lin) m hlen hk hD2;have V1:=GQ (n:=n) (lin:=lin) m hlen hk hV;have W6:=cH (n:=n) (lin:=lin) m (aB h6) (bf hlen h6) h6w
 obtain ⟨r0,tok,hr0,hpre⟩ : ∃ r tok,(r.a.a.a=.ptr n 0∧r.a.a.c=.ptr (aa H) 0∧r.a.a.e=.ptr (aa H + 2) 0) ∧
   z18.sh (orc CC M) R0 [] ⟨aj H n (aC (ts.map TkR.v) lin i),aa (aj H n (aC (ts.map TkR.v) lin i))⟩=dQ (ac (wt (orc CC M)) (ac (wq (orc CC M)) retZ)) (du 0 (au (kK (orc CC M)) 100000 r []
    ⟨aj H n (aC (ts.map TkR.v) lin (i5 + 1)) ++ [.cells [.str [],.int .i64 0,.nils,.nils,.nils,.nils],tok,.cells (fN x.t x.p I O V .nils)],aa H⟩)):=by
  simp only[z18,Qp,Lx,NN,OX,LO,OU,MR,Pf,SIM,ST0,ST1,e0,W0,N,D1,W3,D2,V1,W6,B26,DZS,mb,aK hlt,cS hlt,aJ hlt,ei,EXS,bi,bg,Nat.reduceAdd,Nat.reduceLeDiff,TkR.v];exact ⟨_,_,⟨by first | rfl | exact e0,rfl,rfl⟩,rfl⟩
 rw[hpre,hlS]
 have I0:NoI H n (aC (ts.map TkR.v) lin (i5 + 1)) (fN x.t x.p I O V) [] (aj H n (aC (ts.map TkR.v) lin (i5 + 1)) ++ [.cells [.str [],.int .i64 0,.nils,.nils,.nils,.nils],tok,.cells (fN x.t x.p I O V .nils)]):=by
  refine ⟨⟨_,rfl⟩,?_,.nils,?_,.inl ⟨rfl,rfl⟩⟩
  ·rw[← hlS (aC (ts.map TkR.v) lin (i5 + 1)),aD];rfl
  ·rw[← hlS (aC (ts.map TkR.v) lin (i5 + 1)),bj];rfl
 obtain ⟨r1,H1,hl1,I1,a0,a2,a4⟩:=Hi (lin:=lin) (n:=n) m hlen hlt hk k [] (i5 + 1) E i6 hE (by simp;omega) 100000 (by omega) _ I0 r0 hr0
 rw[hl1];rw[List.nil_append] at I1;have W7:=fun l=>cH (n:=n) (lin:=lin) m (aB h7) (bf hlen h7) h7w l H1 (I1.cur hlt)
 obtain ⟨L,hL,hEI⟩:=I1.nd;obtain ⟨hE0,_⟩ | ⟨_,id,g,rfl,hid,hidb⟩:=hEI
 ·exact absurd hE0 hne
 have hmin:min (aa H) (aa H1)=aa H:=Nat.min_eq_left I1.len;have hrs:=I1.rs;have hL2:ae (aj H1 n (aC (ts.map TkR.v) lin (i6 + 1))) (aa H + 2)=some (.cells (fN x.t x.p I O V (.sl 8 (E.map EqR.v) (.live id g)))):=by rw[af (by omega),hL]
 have hrs2:ae (aj H1 n (aC (ts.map TkR.v) lin (i6 + 1))) (aa H)=some (.cells [.str [],.int .i64 0,.nils,.nils,.nils,.nils]):=by rw[af (by omega),hrs]
 have hst:=IT (s:=x.t) (p:=x.p) (I:=I) (O:=O) (V:=V) (sz:=8) (l:=E.map EqR.v) (id:=id) (g:=g) (r:=aa H) (b0:=aa H) (cs:=[.str [],.int .i64 0,.nils,.nils,.nils,.nils]) (hp:=aj H1 n (aC (ts.map TkR.v) lin (i6 + 1))) (eq_noN E) (by rw[an,ai];exact aT hid) (by omega) (Nat.le_refl _) (Nat.le_refl _)
 have hput:cu [.str [],.int .i64 0,.nils,.nils,.nils,.nils] 0 (fN x.t x.p I O V (.sl 8 (E.map EqR.v) (.live id g)))=fN x.t x.p I O V (.sl 8 (E.map EqR.v) (.live id g)):=rfl;rw[hput] at hst;have hH1:∀ c,ae (aj (aj H1 n (aC (ts.map TkR.v) lin (i6 + 1))) (aa H) c) (aa H)=some c:=fun c=>aO hrs2 c
 have hpre4:bG (aa H) (aj (aj H1 n (aC (ts.map TkR.v) lin (i6 + 1))) (aa H) (.cells (fN x.t x.p I O V (.sl 8 (E.map EqR.v) (.live id g)))))=aj H n (aC (ts.map TkR.v) lin (i6 + 1)):=by
  obtain ⟨G,hG⟩:=I1.pre;rw[hG,aJ hlt,dc (by rw[aM,List.length_set,← ai];exact Nat.le_refl _),← hlS (aC (ts.map TkR.v) lin (i6 + 1)),cn]
 have hgc:=V6 (s:=x.t) (p:=x.p) (I:=I) (O:=O) (V:=V) (sz:=8) (l:=E.map EqR.v) (id:=id) (g:=g) (base:=aa H) (hp:=aj (aj H1 n (aC (ts.map TkR.v) lin (i6 + 1))) (aa H) (.cells (fN x.t x.p I O V (.sl 8 (E.map EqR.v) (.live id g))))) (eq_noN E) (by omega)
 rw[hpre4] at hgc;simp only[wt,wq,SIM,ST0,a0,a2,a4,W7,B26,hmin,hL2,hrs2,hst,Nat.reduceAdd,Nat.reduceLeDiff];simp only[z18,SIM,ST0,a2,hH1,keep29,hgc,Nat.reduceAdd,Nat.reduceLeDiff]
end
noncomputable def io (ts:List TkR)(k:Nat):Nat→Nat→Option (List NdR × Nat)
 | 0,_=>none
 | f + 1,i=>eB ts i fun x=>cond (Nat.beq x.k 5) (some ([],i)) (match kd ts k i with
   | some (q,j)=>match io ts k f j with
     | some (l,j')=>some (q :: l,j')
     | none=>none
   | none=>none)
noncomputable def jG (ts:List TkR)(k:Nat):Option (List NdR):=match kd ts k 0 with
 | some (d,j)=>match io ts k k j with
   | some (l,_)=>some (d :: l)
   | none=>none
 | none=>none
theorem OE (d:NdR):aP CC 24 1 [(0,d.v)]=some (.sl 6 [d.v] .lit):=by
 obtain ⟨s,p,I,O,V,E⟩:=d;show aP CC 24 1 [(0,.agg (fN s p I O V (oc E)))]=some (.sl 6 [.agg (fN s p I O V (oc E))] .lit);rw[fN];cases I <;> cases O <;> cases V <;> kernel_rfl
theorem Qo (d:NdR):[d.v].all (bt 6)=true:=by
 obtain ⟨s,p,I,O,V,E⟩:=d;cases I <;> cases O <;> cases V <;> rfl
theorem nd_noN:∀ l:List NdR,dt (l.map NdR.v)=true
 | []=>rfl
 | q :: l=>by
   rw[List.map_cons,bH,nd_noN l];simp only[dT,bH,noNL_nil,gG,linN_dead,eq_noN,fc,fg,eX,cond_true]
theorem de_same:∀ l:List DeR,sameL (l.map DeR.v) (l.map DeR.v)=true
 | []=>by simp[sameL]
 | a :: l=>by rw[List.map_cons];simp[sameL,AV.same,de_same l]
theorem nF (l:List DeR):AV.same (deZ l) (deZ l)=true:=by
 cases l with
 | nil=>simp[deZ,AV.same]
 | cons a l=>show AV.same (.sl 6 ((a :: l).map DeR.v) .dead) (.sl 6 ((a :: l).map DeR.v) .dead)=true;simp only[AV.same,de_same];simp
theorem nd_same:∀ l:List NdR,sameL (l.map NdR.v) (l.map NdR.v)=true
 | []=>by simp[sameL]
 | q :: l=>by rw[List.map_cons];simp[sameL,AV.same,nF,eq_same,nd_same l]
theorem se33:∃ e,bE CC 24=some e∧e=46:=⟨_,by kernel_rfl,rfl⟩
theorem inf61' : (CC.P.info? 46).map (fun i=>(i.size,decide (0 < i.bytes∧i.bytes≤65536)))=some (6,true):=by kernel_rfl
theorem inf61:∃ i,CC.P.info? 46=some i∧i.size=6∧0 < i.bytes∧i.bytes≤65536:=by
 have h:=inf61';cases hi:CC.P.info? 46 with
 | none=>rw[hi] at h;cases h
 | some i =>
   rw[hi] at h;simp only[Option.map_some,SJ,PJ,decide_eq_true_eq] at h;exact ⟨i,rfl,h.1,h.2.1,h.2.2⟩
theorem zero61:ck CC 46=some (.agg [.str [],.int .i64 0,.nils,.nils,.nils,.nils]):=by kernel_rfl
theorem Wk (f:Nat):CC.mutT f 24=false:=by
 show ((24:Nat) == 63 || (24:Nat) == 65)=false
 simp
theorem zf (f:Nat)(d:NdR)(hp:Heap)(e:Nat):aq CC f 24 .nils (.sl 6 [d.v] .lit) ⟨hp,e⟩=some (.sl 6 [d.v] (.live (aa hp) 0),⟨hp ++ [.lin 0],e⟩):=by
 obtain ⟨i,h1,h2,h3,h4⟩:=inf61;obtain ⟨e',s1,rfl⟩:=se33
 have hne:¬ (i.size=0∨i.bytes=0∨(AV.agg [.str [],.int .i64 0,.nils,.nils,.nils,.nils]).cells.length ≠ i.size∨[d.v].all (bt i.size)=false∨2 ^ 16 < i.bytes):=by
  rw[h2,Qo];simp[AV.cells];omega
 simp only[aq,s1,h1,zero61,ba,if_true,h2,List.isEmpty,Wk,ai];rw[h2] at hne;rw[if_neg hne];simp
theorem vW (f:Nat){xs:List AV}(d:NdR){hp:Heap}{e id g:Nat}(hg:ae hp id=some (.lin g))(hl:xs.length + 1≤2 ^ 24) :
  aq CC f 24 (.sl 6 xs (.live id g)) (.sl 6 [d.v] .lit) ⟨hp,e⟩=some (.sl 6 (xs ++ [d.v]) (.live id (g + 1)),⟨aj hp id (.lin (g + 1)),e⟩):=by
 obtain ⟨i,h1,h2,h3,h4⟩:=inf61;obtain ⟨e',s1,rfl⟩:=se33;rw[az] at hg;have h5:decide (xs.length + [d.v].length≤2 ^ 24)=true:=by simp;omega
 have hne:¬ (i.size=0∨i.bytes=0∨(AV.agg [.str [],.int .i64 0,.nils,.nils,.nils,.nils]).cells.length ≠ i.size∨[d.v].all (bt i.size)=false∨2 ^ 16 < i.bytes):=by
  rw[h2,Qo];simp[AV.cells];omega
 rw[h2] at hne;simp only[aq,s1,h1,zero61,ba,if_true,h2,h5,List.isEmpty,hg,aM];rw[if_neg hne];simp
noncomputable abbrev tY (H:Heap)(n oo:Nat)(c:AObj)(acc:List NdR)(g:Nat):Heap:=aj (aj H n c) oo (.cells [.sl 6 (acc.map NdR.v) (.live (aa H) g)]) ++ [.lin g]
theorem Ua {H:Heap}{n oo:Nat}{c:AObj}{acc:List NdR}{g:Nat}(hn:n < aa H)(hne:oo ≠ n):ae (tY H n oo c acc g) n=some c :=
 aw (by rw[af (Ne.symm hne)];exact cS hn c) _
theorem TW {H:Heap}{n oo:Nat}{c:AObj}{acc:List NdR}{g:Nat}(ho:oo < aa H):ae (tY H n oo c acc g) oo=some (.cells [.sl 6 (acc.map NdR.v) (.live (aa H) g)]) :=
 aw (cS (by rw[an];exact ho) _) _
theorem Ra {H:Heap}{n oo:Nat}{c:AObj}{acc:List NdR}{g:Nat}:ae (tY H n oo c acc g) (aa H)=some (.lin g):=by
 have:=aD (aj (aj H n c) oo (.cells [.sl 6 (acc.map NdR.v) (.live (aa H) g)])) [AObj.lin g];rw[an,an] at this;exact this
theorem H7 {H:Heap}{n oo:Nat}{c:AObj}{acc:List NdR}{g:Nat}:aa (tY H n oo c acc g)=aa H + 1:=by
 rw[aI,an,an];rfl
theorem QI {H:Heap}{n oo:Nat}{c c' Y Y' k k' : AObj}(hn:n < aa H)(ho:oo < aa H)(hne:oo ≠ n) :
  aj (aj (aj (aj (aj H n c) oo Y ++ [k]) n c') (aa H) k') oo Y'=aj (aj H n c') oo Y' ++ [k']:=by
 simp only[ai,aM] at *;have hl:((H.set n c).set oo Y).length=H.length:=by simp
 rw[List.set_append_left _ _ (by rw[hl];exact hn),List.set_append_right _ _ (by rw[List.length_set,hl];exact Nat.le_refl _),List.set_append_left _ _ (by rw[List.length_set,hl];exact ho)]
 rw[List.length_set,hl,Nat.sub_self];rw[List.set_comm _ _ hne,List.set_set,List.set_set];rfl
theorem Jx {H:Heap}{n oo:Nat}{c c' : AObj}{acc acc' : List NdR}{g g' : Nat}(hn:n < aa H)(ho:oo < aa H)(hne:oo ≠ n) :
 aj (aj (aj (tY H n oo c acc g) n c') (aa H) (.lin g')) oo (.cells [.sl 6 (acc'.map NdR.v) (.live (aa H) g')])=tY H n oo c' acc' g':=QI hn ho hne
def XM (H:Heap)(n oo:Nat)(c:AObj)(all:List NdR)(X:IRes):Prop:=∃ r' g,X=some (.exit 0,r',[],⟨tY H n oo c all g,oo⟩)
section
variable {M:Memo}{ts:List TkR}{lin:Lin}{n:Nat}
theorem zZ (m:ce M)(hlen:ts.length≤90000){H:Heap}{oo:Nat}(hn:n < aa H)(ho:oo < aa H)(hne:oo ≠ n){k:Nat}(hk:k≤90000):∀ (f:Nat) (acc:List NdR) (i:Nat) (l:List NdR) (j:Nat),io ts k f i=some (l,j)→acc.length + f≤100000→∀ (fu:Nat),f≤fu→∀ (g:Nat) (r:RG),
  (r.a.a.a=.ptr n 0∧r.a.a.b=.ptr oo 0) →
  XM H n oo (aC (ts.map TkR.v) lin j) (acc ++ l) (au (tn (orc CC M)) fu r [] ⟨tY H n oo (aC (ts.map TkR.v) lin i) acc g,oo⟩):=by
 intro f
 induction f with
 | zero=>intro acc i l j h;cases h
 | succ f ih =>
   intro acc i l j h hak fu hfu g r ⟨h0,h1⟩;obtain ⟨fu',rfl⟩ : ∃ f,fu=f + 1:=⟨fu - 1,by omega⟩
   simp only[io] at h;obtain ⟨x,hx,h⟩:=aU h;have gn:=Ua (n:=n) (oo:=oo) (c:=aC (ts.map TkR.v) lin i) (acc:=acc) (g:=g) hn hne;have goo:=TW (n:=n) (oo:=oo) (c:=aC (ts.map TkR.v) lin i) (acc:=acc) (g:=g) ho;have glin:=Ra (H:=H) (n:=n) (oo:=oo) (c:=aC (ts.map TkR.v) lin i) (acc:=acc) (g:=g);have gl:=H7 (H:=H) (n:=n) (oo:=oo) (c:=aC (ts.map TkR.v) lin i) (acc:=acc) (g:=g);have gnx:=fun c' acc' g'=>Jx (H:=H) (n:=n) (oo:=oo) (c:=aC (ts.map TkR.v) lin i) (acc:=acc) (g:=g) (c':=c') (acc':=acc') (g':=g') hn ho hne
   generalize hH:tY H n oo (aC (ts.map TkR.v) lin i) acc g=Hc at gn goo glin gl gnx ⊢;have P:=kR (n:=n) (lin:=lin) m (aB hx) Hc gn;have c5:decide ((x.k:Int)=5)=Nat.beq x.k 5:=n9 x.k 5;have hm1:min oo (aa Hc)=oo:=Nat.min_eq_left (by omega)
   cases hk5:Nat.beq x.k 5 with
   | true =>
     rw[hk5] at h c5;simp only[cond_true,SJ,PJ] at h;obtain ⟨rfl,rfl⟩:=h;simp only[au,tn,Bd,SIM,ST0,ST1,h0,P,dU,iM,c5,hm1,Nat.reduceAdd,Nat.reduceLeDiff,TkR.v];rw[← hH];exact ⟨_,g,rfl⟩
   | false =>
     rw[hk5] at h c5;simp only[cond_false] at h;cases hq:kd ts k i with
     | none=>rw[hq] at h;cases h
     | some qj =>
       obtain ⟨q,j1⟩:=qj;rw[hq] at h;simp only at h;cases hl:io ts k f j1 with
       | none=>rw[hl] at h;cases h
       | some lj =>
         obtain ⟨l',j'⟩:=lj;rw[hl] at h;simp only[SJ,PJ] at h;obtain ⟨rfl,rfl⟩:=h;have E:=sL (lin:=lin) (n:=n) m hlen hk hq Hc gn;have hoo1:ae (aj Hc n (aC (ts.map TkR.v) lin j1)) oo=some (.cells [.sl 6 (acc.map NdR.v) (.live (aa H) g)]):=by rw[af hne,goo]
         have hsm:AV.same (.sl 6 (acc.map NdR.v) (.live (aa H) g)) (.sl 6 (acc.map NdR.v) (.live (aa H) g))=true:=by simp[AV.same,nd_same]
         have glin1:ae (aj Hc n (aC (ts.map TkR.v) lin j1)) (aa H)=some (.lin g):=by rw[af (by omega),glin]
         have happ:=fun e=>vW 17 (xs:=acc.map NdR.v) q (e:=e) glin1 (by rw[List.length_map];omega)
         have hm:acc.map NdR.v ++ [q.v]=(acc ++ [q]).map NdR.v:=by simp
         rw[hm] at happ;have hoo2:ae (aj (aj Hc n (aC (ts.map TkR.v) lin j1)) (aa H) (.lin (g + 1))) oo=some (.cells [.sl 6 (acc.map NdR.v) (.live (aa H) g)]):=by rw[af (by omega),hoo1]
         have hst:dP 1 0 oo (.sl 6 ((acc ++ [q]).map NdR.v) (.live (aa H) (g + 1))) [.sl 6 ((acc ++ [q]).map NdR.v) (.live (aa H) (g + 1))] [.sl 6 (acc.map NdR.v) (.live (aa H) g)] ⟨aj (aj Hc n (aC (ts.map TkR.v) lin j1)) (aa H) (.lin (g + 1)),oo⟩=_ :=
          re (nd_noN _) (by rw[an,an,gl];omega) (by omega)
         rw[gnx,Nat.min_self] at hst;have key:=ih (acc ++ [q]) j1 l' j' hl (by simp;omega) fu' (by omega) (g + 1)
         rw[List.append_assoc] at key;simp only[au,tn,Bd,Mn,SIM,ST0,ST1,h0,h1,P,dU,iM,c5,hm1,E,goo,hoo1,hoo2,hsm,OE,happ,hst,Nat.reduceAdd,Nat.reduceLeDiff,TkR.v];exact key _ ⟨by first | rfl | exact h0,by first | rfl | exact h1⟩
theorem pk {k:Nat}:∀ {f i:Nat} {l:List NdR} {j:Nat},io ts k f i=some (l,j)→∃ x,ae ts j=some x∧x.k=5
 | 0,_,_,_,h=>by cases h
 | f + 1,i,l,j,h=>by
   simp only[io] at h;obtain ⟨x,hx,h⟩:=aU h;cases hw:Nat.beq x.k 5 with
   | true =>
     rw[hw] at h;simp only[cond_true,SJ,PJ] at h;obtain ⟨rfl,rfl⟩:=h;exact ⟨x,hx,Nat.eq_of_beq_eq_true hw⟩
   | false =>
     rw[hw] at h;simp only[cond_false] at h
     split at h
     ·split at h
      ·rename_i h2;simp only[SJ,PJ] at h;obtain ⟨rfl,rfl⟩:=h;exact pk h2
      ·cases h
     ·cases h
theorem uK {k:Nat}{l:List NdR}(h:jG ts k=some l):∃ d j l' j',kd ts k 0=some (d,j)∧io ts k k j=some (l',j')∧l=d :: l':=by
 unfold jG at h
 split at h
 ·rename_i d j hd
  split at h
  ·rename_i l' j' hl;simp only[SJ] at h;exact ⟨d,j,l',j',hd,hl,h.symm⟩
  ·cases h
 ·cases h
theorem AA (m:ce M)(hlen:ts.length≤90000){k:Nat}{l:List NdR}(hk:k≤90000)(h:jG ts k=some l):∃ j x,ae ts j=some x∧x.k=5∧∀ (H:Heap) (oo:Nat),oo ≠ n→ae H n=some (aC (ts.map TkR.v) lin 0)→ae H oo=some (.cells [.nils]) →
  ∃ g,orc CC M 17 [.ptr n 0,.ptr oo 0] H=some (.ret Abs.undef (tY H n oo (aC (ts.map TkR.v) lin j) l g) oo):=by
 obtain ⟨d,j1,l',j,hd,hl,rfl⟩:=uK h;obtain ⟨x,hx,hx5⟩:=pk hl;refine ⟨j,x,hx,hx5,fun H oo hne hn ho=>?_⟩
 have hlt:n < aa H:=by rw[ai];exact aT hn
 have hlo:oo < aa H:=by rw[ai];exact aT ho
 have E:=sL (lin:=lin) (n:=n) m hlen hk hd H hn;have hoo1:ae (aj H n (aC (ts.map TkR.v) lin j1)) oo=some (.cells [.nils]):=by rw[af hne,ho]
 have happ:=fun e=>zf 17 d (aj H n (aC (ts.map TkR.v) lin j1)) e
 simp only[an] at happ;have hoo2:ae (aj H n (aC (ts.map TkR.v) lin j1) ++ [.lin 0]) oo=some (.cells [.nils]):=aw hoo1 _
 have hst:dP 1 0 oo (.sl 6 [d.v] (.live (aa H) 0)) [.sl 6 [d.v] (.live (aa H) 0)] [.nils] ⟨aj H n (aC (ts.map TkR.v) lin j1) ++ [.lin 0],aa H⟩=_ :=
  re (nd_noN [d]) (by rw[aI,an,show aa [AObj.lin 0]=1 from rfl];omega) (by omega)
 rw[bP hoo1,Nat.min_eq_right (by omega:oo≤aa H)] at hst
 obtain ⟨r0,hr0,hpre⟩ : ∃ r,(r.a.a.a=.ptr n 0∧r.a.a.b=.ptr oo 0)∧z17.sh (orc CC M) (envOf [.ptr n 0,.ptr oo 0] 0 env0) [] ⟨H,aa H⟩=du 0 (au (tn (orc CC M)) 100000 r [] ⟨tY H n oo (aC (ts.map TkR.v) lin j1) [d] 0,oo⟩):=by
  have e0:(envOf [AV.ptr n 0,.ptr oo 0] 0 env0).a.a.a=.ptr n 0:=rfl;have e1:(envOf [AV.ptr n 0,.ptr oo 0] 0 env0).a.a.b=.ptr oo 0:=rfl;generalize envOf [AV.ptr n 0,.ptr oo 0] 0 env0=R at e0 e1;simp only[z17,Px,SIM,ST0,e0,e1,E,ho,hoo1,hoo2,same_nils,OE,happ,hst,Nat.min_self,Nat.reduceAdd,Nat.reduceLeDiff];exact ⟨_,⟨by first | rfl | exact e0,by first | rfl | exact e1⟩,rfl⟩
 obtain ⟨r',g,h1⟩:=zZ (lin:=lin) (n:=n) m hlen (H:=H) (oo:=oo) hlt hlo hne hk k [d] j1 l' j hl (by simp;omega) 100000 (by omega) 0 r0 hr0
 refine ⟨g,aL (z:=z17) (m _ _ rfl) (by kernel_rfl) rfl ?_⟩
 rw[hpre,h1];have hgc:=fun hp=>eW (keep:=CC.keep 17) (base:=aa H) (e:=oo) (v:=Abs.undef) (hp:=hp) (by omega)
 simp only[z17,SIM,ST0,hgc,List.cons_append,List.nil_append,Nat.reduceAdd,Nat.reduceLeDiff]
end
theorem Wp (l:List AV)(q:Lin):ar CC 54 [(0,.sl 4 l q)]=some (.agg [.sl 4 l q,.int .i64 0]):=by kernel_rfl
theorem Uj (l:List AV)(q:Lin):ar CC 56 [(0,.agg [.sl 4 l q,.int .i64 0])]=some (.agg [.sl 4 l q,.int .i64 0]):=by kernel_rfl
theorem QO (ts:List TkR)(L:Nat):AV.low L (.agg [.sl 4 (ts.map TkR.v) .dead,.int .i64 0])=true:=by
 simp[AV.low,aR,dS (sU ts),Lin.low]
theorem QL (ts:List TkR)(L:Nat):ep (.agg [.sl 4 (ts.map TkR.v) .dead,.int .i64 0]) L=some (aC (ts.map TkR.v) .dead 0,(.ptr · 0)):=by
 have h2:(AV.cells (.agg [.sl 4 (ts.map TkR.v) .dead,.int .i64 0])).all AV.one=true:=rfl;unfold ep;rw[if_pos ⟨h2,QO ts L⟩];rfl
theorem Ux (oo L:Nat)(h:oo < L):ep (.func (.func 17) [] [.ptr oo 0]) L=some (.cells [.func (.func 17) [] [.ptr oo 0]],(.ptr · 0)):=by
 have h1:(AV.func (.func 17) [] [.ptr oo 0]).cells.all AV.one=true:=rfl;have h2:AV.low L (.func (.func 17) [] [.ptr oo 0])=true:=by simp[AV.low,aR,h]
 unfold ep;rw[if_pos ⟨h1,h2⟩];rfl
theorem SZ (a b:AV)(s:St):dC CC 17 [a,b] s=some (.call 17 [a,b]):=by kernel_rfl
theorem Sw (a b c:AV)(s:St):dC CC 26 [a,b,c] s=some (.call 26 [a,b,c]):=by kernel_rfl
section
variable {M:Memo}{ts:List TkR}{n:Nat}
theorem Uc (m:ce M)(hlen:ts.length≤90000){k:Nat}{l:List NdR}(hk:k≤90000)(h:jG ts k=some l):∃ j,∀ (H:Heap) (oo fo dob pb:Nat),oo ≠ n→ae H n=some (aC (ts.map TkR.v) .dead 0)→ae H oo=some (.cells [.nils])→ae H dob=some (.cells [.func (.func 17) [] [.ptr oo 0]])→ae H pb=some (.cells [.ptr n 0])→pb ≠ n→pb ≠ oo →
  ∃ g,orc CC M 26 [.ptr fo 0,.ptr dob 0,.ptr pb 0] H=some (.ret Abs.undef (tY H n oo (aC (ts.map TkR.v) .dead j) l g) oo):=by
 obtain ⟨j,x,hx,hx5,hP⟩:=AA (lin:=.dead) (n:=n) m hlen hk h;refine ⟨j,fun H oo fo dob pb hne hn ho hd hp hpn hpo=>?_⟩
 obtain ⟨g,hP⟩:=hP H oo hne hn ho;refine ⟨g,aL (z:=z26) (m _ _ rfl) (by kernel_rfl) rfl ?_⟩
 have e0:(envOf [AV.ptr fo 0,.ptr dob 0,.ptr pb 0] 0 env0).a.a.a=.ptr fo 0:=rfl;have e1:(envOf [AV.ptr fo 0,.ptr dob 0,.ptr pb 0] 0 env0).a.a.b=.ptr dob 0:=rfl;have e2:(envOf [AV.ptr fo 0,.ptr dob 0,.ptr pb 0] 0 env0).a.a.c=.ptr pb 0:=rfl;generalize envOf [AV.ptr fo 0,.ptr dob 0,.ptr pb 0] 0 env0=R at e0 e1 e2;have hlt:n < aa H:=by rw[ai];exact aT hn
 have hlo:oo < aa H:=by rw[ai];exact aT ho
 have hm:min (aa H) oo=oo:=Nat.min_eq_right (by omega)
 have gn:=Ua (n:=n) (oo:=oo) (c:=aC (ts.map TkR.v) .dead j) (acc:=l) (g:=g) hlt hne;have gp:ae (tY H n oo (aC (ts.map TkR.v) .dead j) l g) pb=some (.cells [.ptr n 0]):=aw (by rw[af hpo,af hpn,hp]) _
 have gl:=H7 (H:=H) (n:=n) (oo:=oo) (c:=aC (ts.map TkR.v) .dead j) (acc:=l) (g:=g);generalize tY H n oo (aC (ts.map TkR.v) .dead j) l g=Hc at *;have P:=kR (n:=n) (lin:=.dead) m (aB hx) Hc gn;have c5:decide ((x.k:Int)=5)=true:=by rw[hx5];rfl
 have hm2:min oo (aa Hc)=oo:=Nat.min_eq_left (by omega)
 have hgc:=fun hp=>eW (keep:=CC.keep 26) (base:=aa H) (e:=oo) (v:=Abs.undef) (hp:=hp) (by omega)
 obtain ⟨r',hpre⟩ : ∃ r',z26.sh (orc CC M) R [] ⟨H,aa H⟩=some (.normal,r',[(27,[.ptr fo 0])],⟨Hc,oo⟩):=by
  simp only[z26,PA,LX,PY,SIM,ST0,e0,e1,e2,hd,hp,SZ,hP,hm,gp,P,dU,iM,c5,hm2,Nat.reduceAdd,Nat.reduceLeDiff,TkR.v];exact ⟨_,rfl⟩
 rw[hpre];show sA CC 26 (aa H) [] r' [(27,[.ptr fo 0])] ⟨Hc,oo⟩=_;have hct:(CC.catcher 27).isSome=true:=by kernel_rfl
 unfold sA;simp only[List.all_cons,List.all_nil,hct,Bool.and_self,List.length_cons,List.length_nil];rw[show Nat.ble (0 + 1) 1=true from rfl]
 simp only[Bool.and_self,cond_true];exact congrArg some (hgc Hc)
end
abbrev cz0:AObj:=.cells [.int .i64 0,.int .i64 0]
theorem a9 {α:Type}(a:α)(l:List α):aa (a :: l)=aa l + 1:=by simp[ai]
theorem b9 {α:Type}:aa ([]:List α)=0:=rfl
theorem tf {a r b:Nat}{cs:List AV}{hp:Heap}(h1:a < aa hp)(h2:a≤r)(h4:1≤aa cs) :
  dP 1 0 r (.ptr a 0) [.ptr a 0] cs ⟨hp,b⟩=some ⟨aj hp r (.cells (cu cs 0 [.ptr a 0])),b⟩:=by
 have e1:eH (aa hp) (.ptr a 0)=true:=by rw[cg];simp[AV.low,h1]
 have e2:eH (r + 1) (.ptr a 0)=true:=by rw[cg];simp[AV.low];omega
 have e3:Nat.ble (Nat.add 0 1) (aa cs)=true:=by rw[dk];simpa using h4
 have e5:Nat.beq (aa [AV.ptr a 0]) 1=true:=rfl;have e6:List.all [AV.ptr a 0] AV.one=true:=rfl;simp only[dP,e1,e3,e5,e6,Bool.and_self,cond_true,ib,e2]
section
variable {M:Memo}{ts:List TkR}
theorem Wu (m:ce M)(hlen:ts.length≤90000){k:Nat}{l:List NdR}(hk:k≤90000)(h:jG ts k=some l){s:List Nat}
  (L:∀ H,orc CC M 25 [.str s] H=some (.ret (.tuple [.sl 4 (ts.map TkR.v) .dead,.agg [.int .i64 0,.int .i64 0]]) H (aa H))) (H:Heap) :
  ∃ j g,orc CC M 16 [.str s,.func (.func 17) [] [.ptr (aa H + 1) 0]] (H ++ [cz0,.cells [.nils]]) =
    some (.ret (.agg [.int .i64 0,.int .i64 0]) (H ++ [cz0,.cells [.sl 6 (l.map NdR.v) (.live (aa H + 7) g)],.cells [.func (.func 17) [] [.ptr (aa H + 1) 0]],cz0,cz0,aC (ts.map TkR.v) .dead j,.cells [.ptr (aa H + 5) 0],.lin g]) (aa H + 1)):=by
 obtain ⟨j,hR⟩:=Uc (n:=aa H + 5) m hlen hk h;have hl2:aa (H ++ [cz0,.cells [.nils]])=aa H + 2:=by rw[ai,ai,List.length_append];rfl
 have hl2' : (H ++ [cz0,.cells [.nils]]).length=aa H + 2:=by rw[← ai,hl2]
 obtain ⟨g,hR⟩:=hR (H ++ [cz0,.cells [.nils],.cells [.func (.func 17) [] [.ptr (aa H + 1) 0]],cz0,cz0,aC (ts.map TkR.v) .dead 0,.cells [.ptr (aa H + 5) 0]]) (aa H + 1) (aa H + 4) (aa H + 2) (aa H + 6) (by omega) (by rw[bj];rfl) (by rw[bj];rfl) (by rw[bj];rfl) (by rw[bj];rfl) (by omega) (by omega)
 have hl7:aa (H ++ [cz0,.cells [.nils],.cells [.func (.func 17) [] [.ptr (aa H + 1) 0]],cz0,cz0,aC (ts.map TkR.v) .dead 0,.cells [.ptr (aa H + 5) 0]])=aa H + 7:=by rw[ai,ai,List.length_append];rfl
 have hpg:tY (H ++ [cz0,.cells [.nils],.cells [.func (.func 17) [] [.ptr (aa H + 1) 0]],cz0,cz0,aC (ts.map TkR.v) .dead 0,.cells [.ptr (aa H + 5) 0]]) (aa H + 5) (aa H + 1) (aC (ts.map TkR.v) .dead j) l g =
   H ++ [cz0,.cells [.sl 6 (l.map NdR.v) (.live (aa H + 7) g)],.cells [.func (.func 17) [] [.ptr (aa H + 1) 0]],cz0,cz0,aC (ts.map TkR.v) .dead j,.cells [.ptr (aa H + 5) 0],.lin g]:=by
  unfold tY;rw[hl7,fF,fF,List.append_assoc];rfl
 rw[hpg] at hR;refine ⟨j,g,aL (z:=z16) (m _ _ rfl) (by kernel_rfl) rfl ?_⟩
 have e0:(envOf [AV.str s,.func (.func 17) [] [.ptr (aa H + 1) 0]] 0 env0).a.a.a=.str s:=rfl;have e1:(envOf [AV.str s,.func (.func 17) [] [.ptr (aa H + 1) 0]] 0 env0).a.a.b=.func (.func 17) [] [.ptr (aa H + 1) 0]:=rfl;generalize envOf [AV.str s,.func (.func 17) [] [.ptr (aa H + 1) 0]] 0 env0=R at e0 e1;have hbf:=Ux (aa H + 1) (aa H + 2) (by omega)
 have hbc:=QL ts;have hsp:=fun G b=>tf (a:=aa H + 5) (r:=aa H + 6) (b:=b) (cs:=[.nilp]) (hp:=H ++ [cz0,.cells [.nils],.cells [.func (.func 17) [] [.ptr (aa H + 1) 0]],cz0,cz0,aC (ts.map TkR.v) .dead 0,.cells [.nilp]] ++ G) (by rw[aI,aI];simp only[a9,b9];omega) (by omega) (by decide)
 have hsp0:=fun b=>hsp [] b
 simp only[List.append_nil] at hsp0;have hm0:min (aa H + 2) (aa H + 4)=aa H + 2:=Nat.min_eq_left (by omega)
 have hgc:=fun hp=>eW (keep:=CC.keep 16) (base:=aa H + 2) (e:=aa H + 1) (v:=.agg [.int .i64 0,.int .i64 0]) (hp:=hp) (by omega)
 have hm:min (aa H + 2) (aa H + 1)=aa H + 1:=Nat.min_eq_right (by omega)
 have hs6:∀ (a b c d e f g v:AObj),aj [a,b,c,d,e,f,g] 6 v=[a,b,c,d,e,f,v]:=fun _ _ _ _ _ _ _ _=>rfl
 rw[hl2];simp only[z16,Lo,NM,Oo,LH,P1,MZ,SIM,ST0,ST1,e0,e1,hl2,hl2',hbf,L,Wp,Uj,hbc,hsp0,Sw,hR,hm,hm0,hs6,EXS,bi,bg,hgc,List.append_assoc,List.cons_append,List.nil_append,Nat.reduceAdd,Nat.reduceLeDiff]
theorem TI (m:ce M)(hM:M 8=fun _=>none)(hlen:ts.length≤90000){k:Nat}{l:List NdR}(hk:k≤90000)(h:jG ts k=some l){s:List Nat}
  (L:∀ H,orc CC M 25 [.str s] H=some (.ret (.tuple [.sl 4 (ts.map TkR.v) .dead,.agg [.int .i64 0,.int .i64 0]]) H (aa H))) (H:Heap) :
  orc CC M 8 [.str s] H=some (.ret (.tuple [.sl 6 (l.map NdR.v) .dead,.agg [.int .i64 0,.int .i64 0]]) H (aa H)):=by
 obtain ⟨j,g,hR⟩:=Wu m hlen hk h L H;refine aL (z:=z8) (by rw[hM]) (by kernel_rfl) rfl ?_
 have e0:(envOf [AV.str s] 0 env0).a.a.a=.str s:=rfl;generalize envOf [AV.str s] 0 env0=R at e0;have hm:min (aa H) (aa H + 1)=aa H:=Nat.min_eq_left (by omega)
 have hgc:=fun hp=>qz (sz:=6) (l:=l.map NdR.v) (fs:=[.int .i64 0,.int .i64 0]) (id:=aa H + 7) (g:=g) (base:=aa H) (hp:=hp) (nd_noN l) rfl (by omega)
 have hk14:CC.keep 8=false:=by kernel_rfl
 have g8:∀ (a b c d e f g h i:AObj),ae [a,b,c,d,e,f,g,h,i] 8=some i:=fun _ _ _ _ _ _ _ _ _=>rfl
 have s8:∀ (a b c d e f g h i v:AObj),aj [a,b,c,d,e,f,g,h,i] 8 v=[a,b,c,d,e,f,g,h,v]:=fun _ _ _ _ _ _ _ _ _ _=>rfl
 simp only[z8,Ud,TU,Tv,VG,VF,SIM,ST0,ST1,e0,hR,hm,hk14,hgc,g8,s8,EXS,bi,bg,Nat.reduceAdd,Nat.reduceLeDiff]
end
def wordsS:List (List Nat):=[[110,111,100,101],[114,101,116,117,114,110,115],[118,97,114],[108,101,116],[116,101,108],[105,110,116],[98,111,111,108],[102,117,116,117,114,101],[119,104,101,110],[110,111,116],[97,110,100],[111,114],[120,111,114],[105,102],[116,104,101,110],[101,108,115,101],[112,114,101],[102,98,121],[109,101,114,103,101],[97,115,121,110,99],[97,119,97,105,116],[97,102,116,101,114],[116,114,117,101],[102,97,108,115,101],[109,111,100]]
def signsS:List (List Nat):=[[60,62],[60,61],[62,61],[45,62],[40],[41],[44],[59],[58],[61],[60],[62],[43],[45],[42],[47]]
theorem lx1:LexM (memoL memo1) (wordsS.map .str) (signsS.map .str):={ m72:=fun _=>rfl,m73:=fun _=>rfl,m104:=fun _=>rfl,m105:=fun _=>rfl,m106:=fun _=>rfl,m107:=fun _=>rfl,m108:=fun _=>rfl,m109:=fun _=>rfl,m110:=fun _=>rfl,m140:=fun _=>rfl,m141:=fun _=>rfl,m142:=fun _=>rfl,m143:=fun _=>rfl,m144:=fun _=>rfl,w:=rfl,wl:=by decide,s:=rfl,sl:=by decide }
theorem pm1:ce (memoL memo1):=parM_of (by decide)
def blV:List Nat→Option Nat
 | []=>some 0
 | b :: r=>cond (sO b) (match blV r with
   | some n=>some (n + 1)
   | none=>none) (cond (isPre [45,45] (b :: r)) none (some 0))
theorem blV_ok:∀ (t:List Nat) (n:Nat),blV t=some n→∀ k,t.length≤k→blS k t=n
 | [],n,h,k,hk=>by
   simp only[blV,SJ] at h;subst h;cases k <;> rfl
 | b :: r,n,h,k,hk=>by
   obtain ⟨k,rfl⟩ : ∃ q,k=q + 1:=⟨k - 1,by simp at hk;omega⟩
   simp only[blV] at h;simp only[blS];cases hb:sO b with
   | true =>
     rw[hb] at h;simp only[cond_true] at h ⊢;cases hr:blV r with
     | none=>rw[hr] at h;cases h
     | some m =>
       rw[hr] at h;simp only[SJ] at h;rw[blV_ok r m hr k (by simp at hk;omega)]
       omega
   | false =>
     rw[hb] at h;simp only[cond_false] at h ⊢;cases hp:isPre [45,45] (b :: r) with
     | true=>rw[hp] at h;cases h
     | false =>
       rw[hp] at h;simp only[cond_false,SJ] at h ⊢;exact h
def gT (ws sg:List (List Nat))(j:Nat):List Nat→TkR
 | []=>⟨5,j,[],0,0,j⟩
 | b :: r=>cond (Iu b) (Vv ws j ((b :: r).takeWhile iD)) (cond (isD b) (UC j ((b :: r).takeWhile isD)) (VN j (oq (b :: r) sg)))
theorem G6 (ws sg:List (List Nat))(s:List Nat)(j:Nat):jn ws sg s j=gT ws sg j (s.drop j):=by
 unfold jn gT;cases s.drop j <;> rfl
def lg (ws sg:List (List Nat)):Nat→List Nat→Nat→Option (List TkR)
 | 0,_,_=>none
 | k + 1,t,j=>match blV t with
   | none=>none
   | some n=>match blV (t.drop n) with
     | none=>none
     | some m=>cond (Nat.beq m 0) (match gT ws sg (j + n) (t.drop n) with
       | x=>cond (Nat.beq x.err 0) (cond (Nat.beq x.k 5) (some [x]) (cond (Nat.ble j x.pos) (match lg ws sg k (t.drop (x.pos - j)) x.pos with
         | some l=>some (x :: l)
         | none=>none) none)) none) none
theorem xE {ws sg:List (List Nat)}{s:List Nat}:∀ (k j:Nat) (l:List TkR),lg ws sg k (s.drop j) j=some l→sT ws sg s k j=some (.ok l)
 | 0,j,l,h=>by cases h
 | k + 1,j,l,h=>by
   simp only[lg] at h;cases h1:blV (s.drop j) with
   | none=>rw[h1] at h;cases h
   | some n =>
     rw[h1] at h;simp only at h;cases h2:blV ((s.drop j).drop n) with
     | none=>rw[h2] at h;cases h
     | some m =>
       rw[h2] at h;simp only at h;obtain ⟨hm,h3⟩:=aW h
       clear h
       have hm0:=Nat.eq_of_beq_eq_true hm;rw[hm0] at h2;obtain ⟨he,h⟩:=aW h3
       clear h3
       have e1:qH s j=j + n:=by
        unfold qH;rw[blV_ok _ _ h1 _ (by rw[List.length_drop];exact Nat.le_refl _)]
       have e2:qH s (j + n)=j + n:=by
        unfold qH;rw[List.drop_drop] at h2;rw[blV_ok _ _ h2 _ (by rw[List.length_drop];exact Nat.le_refl _)]
        rfl
       rw[List.drop_drop] at h he;simp only[sT,e1,e2,G6];rw[he];simp only[cond_true];cases h5:Nat.beq (gT ws sg (j + n) (s.drop (j + n))).k 5 with
       | true =>
         rw[h5] at h;simp only[cond_true,SJ] at h ⊢;rw[h]
       | false =>
         rw[h5] at h;simp only[cond_false] at h ⊢;obtain ⟨hp,h⟩:=aW h;rw[dk,decide_eq_true_eq] at hp;generalize gT ws sg (j + n) (s.drop (j + n))=x at h hp ⊢;cases h6:lg ws sg k ((s.drop j).drop (x.pos - j)) x.pos with
         | none=>rw[h6] at h;cases h
         | some l' =>
           rw[h6] at h;simp only[SJ] at h;rw[List.drop_drop,show j + (x.pos - j)=x.pos by omega] at h6
           rw[xE k x.pos l' h6];simp only[h]
noncomputable def nM (s:List Nat):Option (List NdR):=match lg wordsS signsS 4100 s 0 with
 | some ts=>cond (Nat.ble (aa ts) 90000) (jG ts 500) none
 | none=>none
noncomputable def WD (s:List Nat):Bool:=Nat.ble (aa s) 4000 && s.all fun b=>Nat.ble b 255
abbrev pV (l:List NdR):AV:=.tuple [.sl 6 (l.map NdR.v) .dead,.agg [.int .i64 0,.int .i64 0]]
theorem jv {s:List Nat}{l:List NdR}(hs:WD s=true)(h:nM s=some l)(H:Heap):orc CC (memoL memo1) 8 [.str s] H=some (.ret (pV l) H (aa H)):=by
 unfold WD at hs;rw[Bool.and_eq_true,dk,decide_eq_true_eq,List.all_eq_true] at hs;unfold nM at h
 split at h
 ·rename_i ts hl;obtain ⟨h1,h2⟩:=aW h;rw[dk,decide_eq_true_eq,ai] at h1;rw[ai] at hs;refine TI pm1 (by funext a;rfl) h1 (k:=500) (by omega) h2 (fun H=>?_) H
  have:=SH lx1 (s:=s) rfl hs.1 (fun b hb=>by have:=hs.2 b hb;rw[dk,decide_eq_true_eq] at this;omega) (k:=4100) (by omega) (xE 4100 0 ts hl) H
  simpa only[allV,List.nil_append] using this
 ·cases h
end Go.Proofs
