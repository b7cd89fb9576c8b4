/- declarations, equations, nodes, a whole text. Part of the proof of girandolelaw08.FlatDoubles. -/
import Derived.Test.YtglacbfdbfhmfaaDoorPar
import Derived.Test.YtglacbfdbfhmfaaDoorMemo
set_option linter.unusedVariables false
set_option linter.unusedSimpArgs false
set_option maxRecDepth 1000000
namespace Go.Proofs
open Go Go.Abs
mutual
def sizeE:Ex→Nat
 | .mk _ _ _ _ _ kids=>sizeL kids + 1
def sizeL:List Ex→Nat
 | []=>0
 | a :: l=>sizeE a + sizeL l
end
mutual
def deepE:Ex→Nat
 | .mk _ _ _ _ _ kids=>deepL kids + 1
def deepL:List Ex→Nat
 | []=>0
 | a :: l=>max (deepE a) (deepL l)
end
theorem fk (e:Ex):sizeE e=sizeL e.kids + 1:=by cases e;simp[sizeE,Ex.kids]
theorem Ia (e:Ex):deepE e=deepL e.kids + 1:=by cases e;simp[deepE,Ex.kids]
theorem dJ {a:Ex}:∀ {l:List Ex},a ∈ l→sizeE a≤sizeL l
 | [],h=>by cases h
 | b :: l,h=>by
   simp only[sizeL]
   rcases List.mem_cons.1 h with rfl | h
   ·omega
   ·have:=dJ h;omega
theorem sizeL_len:∀ l:List Ex,l.length≤sizeL l
 | []=>by simp[sizeL]
 | b :: l=>by
   have:=sizeL_len l;have h2:=fk b;simp only[sizeL,List.length_cons];omega
mutual
theorem deep_le:∀ e:Ex,deepE e≤sizeE e
 | .mk _ _ _ _ _ kids=>by simp only[deepE,sizeE];have:=deepL_le kids;omega
theorem deepL_le:∀ l:List Ex,deepL l≤sizeL l
 | []=>by simp[deepL,sizeL]
 | a :: l=>by simp only[deepL,sizeL];have:=deep_le a;have:=deepL_le l;omega
end
theorem Tj (a b:Nat):dN true (.int .i64 (a:Int)) [.int .i64 (b:Int)]=some (.int .i64 ((max a b:Nat):Int)):=by
 simp only[dN,if_true]
 by_cases h:(b:Int) > (a:Int)
 ·rw[if_pos h,show max a b=b by omega]
 ·rw[if_neg h,show max a b=a by omega]
theorem cc121:∃ e,CC.P.underlying 81=some (.slice e)∧e=83:=⟨_,by kernel_rfl,rfl⟩
def DpE (H:Heap)(b n:Nat)(X:IRes):Prop:=∃ r' L,X=some (.exit 0,r',[],⟨H ++ L,b⟩)∧r'.a.a.d=.int .i64 (n:Int)
theorem DpE.up {H K:Heap}{b n:Nat}{X:IRes}(h:DpE (H ++ K) b n X):DpE H b n X:=by
 obtain ⟨r',L,h1,h2⟩:=h;exact ⟨r',K ++ L,by rw[← List.append_assoc];exact h1,h2⟩
section
variable {M:Memo}
theorem Ao {kids:List Ex}(hsz:sizeL kids < 90000)(ihk:∀ a ∈ kids,∀ H,orc CC M 45 [a.v] H=some (.ret (.int .i64 (deepE a:Int)) H (aa H))){V:AV}(hV:∀ (i:Nat) (a:Ex),kids[i]?=some a→bw 6 V (.int .i64 (i:Int))=some (.iptr a.v.cells)) :
  ∀ (d i:Nat),d + i=kids.length→∀ (fu:Nat),d < fu→∀ (H:Heap) (b:Nat),b≤aa H→∀ (acc:Nat) (r:RG),
  (r.a.a.d=.int .i64 (acc:Int)∧r.a.a.h=V∧r.a.b.a=.int .i64 (kids.length:Int)∧r.a.b.b=.int .i64 (i:Int)) →
  DpE H b (max acc (deepL (kids.drop i))) (aw (uD (orc CC M)) fu r [] ⟨H,b⟩):=by
 have hlen:=sizeL_len kids;intro d
 induction d with
 | zero =>
   intro i hi fu hfu H b hb acc r ⟨h3,h7,h8,h9⟩;obtain ⟨fu',rfl⟩ : ∃ f,fu=f + 1:=⟨fu - 1,by omega⟩
   have:i=kids.length:=by omega
   subst this;have hc:decide ((kids.length:Int) < (kids.length:Int))=false:=by simp
   rw[List.drop_length];simp only[aw,uD,En,SIM,ST0,h8,h9,hc,deepL];exact ⟨_,[],by rw[List.append_nil],by rw[Nat.max_zero];exact h3⟩
 | succ d ih =>
   intro i hi fu hfu H b hb acc r ⟨h3,h7,h8,h9⟩;obtain ⟨fu',rfl⟩ : ∃ f,fu=f + 1:=⟨fu - 1,by omega⟩
   have hlt:i < kids.length:=by omega
   have hc:decide ((i:Int) < (kids.length:Int))=true:=by simp;omega
   have hd:kids.drop i=kids[i] :: kids.drop (i + 1):=List.drop_eq_getElem_cons hlt;have hg:kids[i]?=some kids[i]:=by simp[hlt]
   have hm:=ihk _ (List.getElem_mem hlt);generalize kids[i]=a at hd hg hm;have hat:=hV i a hg;have ha:cQ (i:Int) 1=((i + 1:Nat):Int):=bA i 1 (by unfold natMax;omega)
   have hmm:=Tj acc (deepE a);have hmin:∀ q,min b (aa H + q)=b:=fun q=>Nat.min_eq_left (by omega)
   have hD:=hm (H ++ [bH a]);rw[show aa (H ++ [bH a])=aa H + 1 by simp[aj]] at hD
   have key:=ih (i + 1) (by omega) fu' (by omega) (H ++ [bH a]) b (by rw[aj,List.length_append];rw[aj] at hb;omega) (max acc (deepE a))
   rw[hd];simp only[deepL];rw[← Nat.max_assoc];simp only[aw,uD,En,LM,Jt,Jj,SIM,ST0,h3,h7,h8,h9,hc,hat,hD,hmm,hmin,ha,EXS,Nat.reduceAdd,Nat.reduceLeDiff];exact (key _ ⟨rfl,by first | rfl | exact h7,by first | rfl | exact h8,rfl⟩).up
theorem HV (m:cq M):∀ (s:Nat) (e:Ex),sizeE e≤s→s < 90000→∀ H,orc CC M 45 [e.v] H=some (.ret (.int .i64 (deepE e:Int)) H (aa H)):=by
 intro s
 induction s with
 | zero=>intro e he;have:=fk e;omega
 | succ s ih =>
   intro e he hs H;have hk:=fk e;refine aH (z:=z45) (m _ _ rfl) (by kernel_rfl) rfl ?_
   have e0:(envOf [e.v] 0 env0).a.a.a=e.v:=rfl;generalize envOf [e.v] 0 env0=R at e0
   have hbx:∀ L,eW e.v L=some (.cells [.int .i64 (e.k:Int),.int .i64 (e.p:Int),.int .i64 e.n,.str e.s,.bool e.b,e.kv],(.ptr · 0)):=by
    intro L;have h1:e.v.low L=true:=(dq _ (ex_noN e)).2 L;unfold eW
    have h2:(AV.cells e.v).all AV.one=true:=by
     rw[fS];simp only[List.all_cons,List.all_nil,lP,eO,eL,gb,Bool.and_self]
    rw[if_pos ⟨h2,h1⟩,fS]
   obtain ⟨e',hu,rfl⟩:=cc121
   have hlen:bF CC 81 e.kv=some (.int .i64 (e.kids.length:Int)):=by
    unfold Ex.kv;rw[exL_map];cases hkk:e.kids with
    | nil=>rw[List.map_nil,eo];simp[cC,eY,hu]
    | cons a l=>rw[List.map_cons];simp only[cC];rw[dB hu];simp
   have hV:∀ (i:Nat) (a:Ex),e.kids[i]?=some a→bw 6 e.kv (.int .i64 (i:Int))=some (.iptr a.v.cells):=by
    intro i a h;unfold Ex.kv;rw[exL_map];cases hkk:e.kids with
    | nil=>rw[hkk] at h;simp at h
    | cons a' l =>
      rw[List.map_cons];simp only[cC];refine da ?_;rw[← List.map_cons (f:=Ex.v),aD,List.getElem?_map,← hkk,h];rfl
   have hb:=deepL_le e.kids;have lp:=Ao (M:=M) (kids:=e.kids) (by omega) (fun a ha H=>ih a (by have:=dJ ha;omega) (by omega) H) hV e.kids.length 0 rfl 100000 (by have:=sizeL_len e.kids;omega) (H ++ [bH e]) (aa H) (by rw[aj,aj,List.length_append];omega) 0
   rw[List.drop_zero,Nat.zero_max] at lp;obtain ⟨f,hf⟩:=sk lp
   obtain ⟨r0,hr0,hpre⟩ : ∃ r,(r.a.a.d=.int .i64 ((0:Nat):Int)∧r.a.a.h=e.kv∧r.a.b.a=.int .i64 (e.kids.length:Int)∧r.a.b.b=.int .i64 ((0:Nat):Int))∧z45.sh (orc CC M) R [] ⟨H,aa H⟩=dZ (ac (Gt (orc CC M)) retZ) (dD 0 (aw (uD (orc CC M)) 100000 r [] ⟨H ++ [bH e],aa H⟩)):=by
    simp only[z45,Mg,IL,Md,SIM,ST0,e0,hbx,hlen,Nat.reduceAdd,Nat.reduceLeDiff];exact ⟨_,⟨rfl,rfl,rfl,rfl⟩,rfl⟩
   rw[hpre];obtain ⟨L,h1,h2⟩:=hf r0 hr0;rw[h1,List.append_assoc];have ha:cQ (deepL e.kids:Int) 1=((deepL e.kids + 1:Nat):Int):=bA _ 1 (by unfold natMax;omega)
   rw[Ia];simp only[z45,Gt,SIM,ST0,h2,ha,cb]
end
structure DeR where
 s:List Nat
 p:Nat
 b:Bool
 f:Bool
 c:List Nat
 o:Bool
abbrev DeR.l (d:DeR):List AV:=[.str d.s,.int .i64 (d.p:Int),.bool d.b,.bool d.f,.str d.c,.bool d.o]
abbrev DeR.v (d:DeR):AV:=.agg d.l
theorem De (s:List Nat)(p:Int):ao CC 93 [(0,.str s),(1,.int .i64 p)]=some (.agg [.str s,.int .i64 p,.bool false,.bool false,.str [],.bool false]):=by kernel_rfl
def fW:List (List Nat):=[[102,117,116,117,114,101]]
def tW:List (List Nat):=[[105,110,116],[98,111,111,108]]
def bW:List Nat:=[98,111,111,108]
noncomputable def mJ (ts:List TkR)(i:Nat):Option (DeR × Nat):=iC ts i fun x j=>ey ts j [58] fun j=>ji ts j fun y=>cond (cW y fW)
 (ji ts (j + 1) fun z=>cond (cW z tW) (some (⟨x.t,x.p,strEq z.t bW,true,[],false⟩,j + 2)) none)
 (cond (cW y tW) (some (⟨x.t,x.p,strEq y.t bW,false,[],false⟩,j + 1)) none)
section
variable {M:Memo}{ts:List TkR}{lin:Lin}{n:Nat}
theorem ua (m:cq M)(hlen:ts.length≤90000){i j:Nat}{d:DeR}(h:mJ ts i=some (d,j)):Runs M 41 [.ptr n 0] n (ts.map TkR.v) lin i d.v j:=by
 unfold mJ at h;obtain ⟨x,hx,hxk,h⟩:=cV h;obtain ⟨y,hy,hyw,h⟩:=bp h;obtain ⟨z,hz,h⟩:=aU h;have N:=gC (n:=n) (lin:=lin) m (aA hx) (bd hlen hx) hxk;have W:=cK (n:=n) (lin:=lin) m (aA hy) (bd hlen hy) hyw;refine Runs.of fun H hlt=>?_
 refine aH (z:=z41) (m _ _ rfl) (by kernel_rfl) rfl ?_
 have e0:(envOf [AV.ptr n 0] 0 env0).a.a.a=.ptr n 0:=rfl;generalize envOf [AV.ptr n 0] 0 env0=R at e0;cases hw:cW z fW with
 | true =>
   rw[hw] at h;simp only[cond_true] at h;obtain ⟨w,hw1,h⟩:=aU h;obtain ⟨h2,h3⟩:=aS h;simp only[SJ,PJ] at h3;obtain ⟨rfl,rfl⟩:=h3;have T:=cG (n:=n) (lin:=lin) m (aA hz) (bd hlen hz) (ws:=fW) (wa:=[.str [102,117,116,117,114,101]]) rfl (by simp) hw
   have T2:=cG (n:=n) (lin:=lin) m (aA hw1) (bd hlen hw1) (ws:=tW) (wa:=[.str [105,110,116],.str [98,111,111,108]]) rfl (by simp) h2
   have hb:strEq w.t [98,111,111,108]=strEq w.t bW:=rfl;generalize strEq w.t bW=B at hb;simp only[z41,GH,E9,Gz,GP,Bo,AZ,Cj,DU,EF,Es,SIM,ST0,ST1,e0,N,W,T,T2,hb,B26,De,aI hlt,aJ hlt,EXS,a9,ba,Nat.reduceAdd,Nat.reduceLeDiff,TkR.v]
 | false =>
   rw[hw] at h;simp only[cond_false] at h;obtain ⟨h2,h3⟩:=aS h;simp only[SJ,PJ] at h3;obtain ⟨rfl,rfl⟩:=h3;have T:=cU (n:=n) (lin:=lin) m (aA hz) (bd hlen hz) (ws:=fW) (wa:=[.str [102,117,116,117,114,101]]) rfl (by simp) hw
   have T2:=cG (n:=n) (lin:=lin) m (aA hz) (bd hlen hz) (ws:=tW) (wa:=[.str [105,110,116],.str [98,111,111,108]]) rfl (by simp) h2
   have hb:strEq z.t [98,111,111,108]=strEq z.t bW:=rfl;generalize strEq z.t bW=B at hb;simp only[z41,GH,E9,Gz,GP,Bo,AZ,Cj,DU,EF,Es,SIM,ST0,ST1,e0,N,W,T,T2,hb,B26,De,aI hlt,aJ hlt,EXS,a9,ba,Nat.reduceAdd,Nat.reduceLeDiff,TkR.v]
def deZ:List DeR→AV
 | []=>.nils
 | l=>.sl 6 (l.map DeR.v) .dead
noncomputable def lK (ts:List TkR):Nat→Nat→Option (List DeR × Nat)
 | 0,_=>none
 | k + 1,i=>match mJ ts i with
   | some (d,j)=>ji ts j fun x=>cond (cW x [[44]]) (match lK ts k (j + 1) with
     | some (l,j')=>some (d :: l,j')
     | none=>none) (cond (cW x [[41]]) (some ([d],j + 1)) none)
   | none=>none
noncomputable def iL (ts:List TkR)(k i:Nat):Option (List DeR × Nat):=ey ts i [40] fun j=>ji ts j fun x=>cond (cW x [[41]]) (some ([],j + 1)) (lK ts k j)
theorem se58:∃ e,bK CC 43=some e∧e=93:=⟨_,by kernel_rfl,rfl⟩
theorem mp (d:DeR):aP CC 43 1 [(0,d.v)]=some (.sl 6 [d.v] .lit):=by kernel_rfl
theorem inf176' : (CC.P.info? 93).map (fun i=>(i.size,decide (0 < i.bytes∧i.bytes≤65536)))=some (6,true):=by kernel_rfl
theorem inf176:∃ i,CC.P.info? 93=some i∧i.size=6∧0 < i.bytes∧i.bytes≤65536:=by
 have h:=inf176';cases hi:CC.P.info? 93 with
 | none=>rw[hi] at h;cases h
 | some i =>
   rw[hi] at h;simp only[Option.map_some,SJ,PJ,decide_eq_true_eq] at h;exact ⟨i,rfl,h.1,h.2.1,h.2.2⟩
theorem zero176:cn CC 93=some (.agg [.str [],.int .i64 0,.bool false,.bool false,.str [],.bool false]):=by kernel_rfl
theorem Q8 (f:Nat):CC.mutT f 43=false:=by
 show ((43:Nat) == 63 || (43:Nat) == 65)=false
 simp
theorem LW (d:DeR):[d.v].all (bg 6)=true:=rfl
theorem jh (f:Nat)(d:DeR)(hp:Heap)(e:Nat):aq CC f 43 .nils (.sl 6 [d.v] .lit) ⟨hp,e⟩=some (.sl 6 [d.v] (.live (aa hp) 0),⟨hp ++ [.lin 0],e⟩):=by
 obtain ⟨i,h1,h2,h3,h4⟩:=inf176;obtain ⟨e',s1,rfl⟩:=se58
 have hne:¬ (i.size=0∨i.bytes=0∨(AV.agg [.str [],.int .i64 0,.bool false,.bool false,.str [],.bool false]).cells.length ≠ i.size∨[d.v].all (bg i.size)=false∨2 ^ 16 < i.bytes):=by
  rw[h2,LW];simp[AV.cells];omega
 simp only[aq,s1,h1,zero176,aY,if_true,h2,List.isEmpty,Q8,aj];rw[h2] at hne;rw[if_neg hne];simp
theorem jT (f:Nat){xs:List AV}(d:DeR){hp:Heap}{e id g:Nat}(hg:af hp id=some (.lin g))(hl:xs.length + 1≤2 ^ 24) :
  aq CC f 43 (.sl 6 xs (.live id g)) (.sl 6 [d.v] .lit) ⟨hp,e⟩=some (.sl 6 (xs ++ [d.v]) (.live id (g + 1)),⟨ai hp id (.lin (g + 1)),e⟩):=by
 obtain ⟨i,h1,h2,h3,h4⟩:=inf176;obtain ⟨e',s1,rfl⟩:=se58;rw[aD] at hg;have h5:decide (xs.length + [d.v].length≤2 ^ 24)=true:=by simp;omega
 have hne:¬ (i.size=0∨i.bytes=0∨(AV.agg [.str [],.int .i64 0,.bool false,.bool false,.str [],.bool false]).cells.length ≠ i.size∨[d.v].all (bg i.size)=false∨2 ^ 16 < i.bytes):=by
  rw[h2,LW];simp[AV.cells];omega
 rw[h2] at hne;simp only[aq,s1,h1,zero176,aY,if_true,h2,h5,List.isEmpty,hg,aN];rw[if_neg hne];simp
end
def IB (b:Nat)(Hc:Heap)(v:AV)(acc:List DeR):Prop:=(acc=[]∧v=.nils)∨(acc ≠ []∧∃ id g,v=.sl 6 (acc.map DeR.v) (.live id g)∧af Hc id=some (.lin g)∧b≤id)
theorem ae {α:Type}{l:List α}{n k:Nat}(h:k ≠ n)(v:α):af (ai l n v) k=af l k:=by
 rw[aD,aD,aN,List.getElem?_set_ne (Ne.symm h)]
theorem dH {α:Type}{P L:List α}{id:Nat}(h:P.length≤id)(v:α):ai (P ++ L) id v=P ++ ai L (id - P.length) v:=by
 rw[aN,aN,List.set_append_right _ _ h]
def RJ (H:Heap)(n:Nat)(c:AObj)(all:List DeR)(X:IRes):Prop:=∃ r' G',X=some (.ret,r',[],⟨ai H n c ++ G',aa H⟩)∧∃ id g,r'.a.a.c=.sl 6 (all.map DeR.v) (.live id g)∧aa H≤id
section
variable {M:Memo}{ts:List TkR}{lin:Lin}{n:Nat}
theorem wZ (m:cq M)(hlen:ts.length≤90000){H:Heap}(hlt:n < aa H):∀ (k:Nat) (acc:List DeR) (i:Nat) (l:List DeR) (j:Nat),lK ts k i=some (l,j)→acc.length + k≤100000→∀ (fu:Nat),k≤fu→∀ (Hc:Heap),(∃ G,Hc=ai H n (aC (ts.map TkR.v) lin i) ++ G)→∀ (r:RG),
  (r.a.a.a=.ptr n 0∧IB (aa H) Hc r.a.a.d acc) →
  RJ H n (aC (ts.map TkR.v) lin j) (acc ++ l) (aw (jR (orc CC M)) fu r [] ⟨Hc,aa H⟩):=by
 intro k
 induction k with
 | zero=>intro acc i l j h;cases h
 | succ k ih =>
   intro acc i l j h hak fu hfu Hc hP r ⟨h0,hA⟩;obtain ⟨fu',rfl⟩ : ∃ f,fu=f + 1:=⟨fu - 1,by omega⟩
   simp only[lK] at h;cases hd:mJ ts i with
   | none=>rw[hd] at h;cases h
   | some dj =>
     obtain ⟨d,j1⟩:=dj;rw[hd] at h;simp only at h;have D:=ua (lin:=lin) (n:=n) m hlen hd;obtain ⟨x,hx,h⟩:=aU h;have hx':=aA hx;have hi:=bd hlen hx;obtain ⟨G,rfl⟩:=hP;have hll:∀ c:AObj,(ai H n c).length=H.length:=fun c=>by rw[aN,List.length_set]
     have hnl:n < (ai H n (aC (ts.map TkR.v) lin i)).length:=by rw[hll];rw[aj] at hlt;exact hlt
     have hcn:af (ai H n (aC (ts.map TkR.v) lin i) ++ G) n=some (aC (ts.map TkR.v) lin i):=aI hlt _ _;have hHc:aa H≤aa (ai H n (aC (ts.map TkR.v) lin i) ++ G):=by rw[aj,aj,List.length_append,hll];omega
     have hsn:∀ c,ai (ai H n (aC (ts.map TkR.v) lin i) ++ G) n c=ai H n c ++ G:=fun c=>aJ hlt _ _ _
     have hsi:∀ (c:AObj) (id:Nat) (v:AObj),aa H≤id→∃ G',ai (ai (ai H n (aC (ts.map TkR.v) lin i) ++ G) n c) id v=ai H n c ++ G':=fun c id v hid=>by
      rw[hsn];exact ⟨_,dH (by rw[hll,← aj];exact hid) v⟩
     generalize hgen:ai H n (aC (ts.map TkR.v) lin i) ++ G=Hc at *;have D':=D Hc hcn;have hltc:n < aa Hc:=by omega
     have hmin:min (aa H) (aa Hc)=aa H:=Nat.min_eq_left hHc;have hmin1:∀ q,min (aa H) (aa Hc + q)=aa H:=fun q=>Nat.min_eq_left (by omega)
     have hmin2:min (aa H) (aa Hc + 1 + 1)=aa H:=Nat.min_eq_left (by omega)
     have hlc:∀ (c:AObj),aa (ai Hc n c)=aa Hc:=fun c=>ak _ _ _
     have hlc1:∀ (c o:AObj),aa (ai Hc n c ++ [o])=aa Hc + 1:=fun c o=>by rw[aj,List.length_append,← aj,hlc];rfl
     cases hw:cW x [[44]] with
     | true =>
       rw[hw] at h;simp only[cond_true] at h;cases hl:lK ts k (j1 + 1) with
       | none=>rw[hl] at h;cases h
       | some lj =>
         obtain ⟨l',j'⟩:=lj;rw[hl] at h;simp only[SJ,PJ] at h;obtain ⟨rfl,rfl⟩:=h;have T:=cG (n:=n) (lin:=lin) m hx' hi (ws:=[[44]]) (wa:=[.str [44]]) rfl (by simp) hw
         rcases hA with ⟨ha0,h3⟩ | ⟨ha0,id,g,h3,hid,hidb⟩
         ·have T':=fun l=>T l (ai Hc n (aC (ts.map TkR.v) lin j1) ++ [.lin 0]) (aI hltc _ _)
          simp only[hlc1,aJ hltc] at T';have key:=ih [d] (j1 + 1) l' j' hl (by simp;subst ha0;simp at hak;omega) fu' (by omega) (ai Hc n (aC (ts.map TkR.v) lin (j1 + 1)) ++ [.lin 0,.cells [.int .i64 (x.k:Int),.int .i64 (x.p:Int),.str x.t,.int .u64 (x.m:Int)]]) ⟨_,by rw[hsn,List.append_assoc]⟩
          subst ha0;simp only[aw,jR,tz,uC,uY,SIM,ST0,ST1,h0,h3,D',hmin,hmin1,mp,jh,T',hlc,B26,EXS,a9,ba,Nat.reduceAdd,Nat.reduceLeDiff,TkR.v];exact key _ ⟨by first | rfl | exact h0,.inr ⟨by simp,aa Hc,0,rfl,by rw[← hlc (aC (ts.map TkR.v) lin (j1 + 1)),au];rfl,hHc⟩⟩
         ·have hne:id ≠ n:=by omega
          obtain ⟨G',hG'⟩:=hsi (aC (ts.map TkR.v) lin (j1 + 1)) id (.lin (g + 1)) hidb;have hgi:af (ai Hc n (aC (ts.map TkR.v) lin j1)) id=some (.lin g):=by rw[ae hne,hid]
          have hgn:af (ai (ai Hc n (aC (ts.map TkR.v) lin j1)) id (.lin (g + 1))) n=some (aC (ts.map TkR.v) lin j1):=by rw[ae (Ne.symm hne)];exact aK hcn _
          have happ:=fun e=>jT 31 (xs:=acc.map DeR.v) d (e:=e) hgi (by rw[List.length_map];omega)
          have T':=fun l=>T l (ai (ai Hc n (aC (ts.map TkR.v) lin j1)) id (.lin (g + 1))) hgn
          have hcomm:ai (ai (ai Hc n (aC (ts.map TkR.v) lin j1)) id (.lin (g + 1))) n (aC (ts.map TkR.v) lin (j1 + 1))=ai (ai Hc n (aC (ts.map TkR.v) lin (j1 + 1))) id (.lin (g + 1)):=by
           simp only[aN];rw[List.set_comm _ _ hne,List.set_set]
          have hl3:∀ c v,aa (ai (ai Hc n c) id v)=aa Hc:=fun c v=>by rw[ak,ak]
          have hst3:∀ (c l o w:AObj),ai (ai (ai Hc n c) id l ++ [o]) (aa Hc) w=ai (ai Hc n c) id l ++ [w]:=fun c l o w=>by
           have e:=dp (ai (ai Hc n c) id l) [o] w;rw[hl3] at e;rw[e];rfl
          rw[hcomm] at T';simp only[hl3] at T';have key:=ih (acc ++ [d]) (j1 + 1) l' j' hl (by simp;omega) fu' (by omega) (ai (ai Hc n (aC (ts.map TkR.v) lin (j1 + 1))) id (.lin (g + 1)) ++ [.cells [.int .i64 (x.k:Int),.int .i64 (x.p:Int),.str x.t,.int .u64 (x.m:Int)]]) ⟨_,by rw[hG',List.append_assoc]⟩
          rw[List.append_assoc] at key;simp only[aw,jR,tz,uC,uY,SIM,ST0,ST1,h0,h3,D',hmin,hmin1,mp,happ,T',hlc,hl3,hst3,B26,EXS,a9,ba,Nat.reduceAdd,Nat.reduceLeDiff,TkR.v];exact key _ ⟨by first | rfl | exact h0,.inr ⟨by simp,id,g + 1,by simp,ar (by rw[aD,aN,List.getElem?_set_self];rw[aN,List.length_set];exact bm hid) _,hidb⟩⟩
     | false =>
       rw[hw] at h;simp only[cond_false] at h;obtain ⟨hw2,h2⟩:=aS h;simp only[SJ,PJ] at h2;obtain ⟨rfl,rfl⟩:=h2;have T:=cU (n:=n) (lin:=lin) m hx' hi (ws:=[[44]]) (wa:=[.str [44]]) rfl (by simp) hw
       have W:=cK (n:=n) (lin:=lin) m hx' hi hw2
       have htok:∀ Y:Heap,af Y n=some (aC (ts.map TkR.v) lin j1)→∀ l o,orc CC M 29 [.ptr n 0,.sl 1 [.str [41]] l] (Y ++ [o])=some (.ret x.v (ai Y n (aC (ts.map TkR.v) lin (j1 + 1)) ++ [o]) (aa Y + 1)):=fun Y hY l o=>by
        rw[W l (Y ++ [o]) (ar hY _),bR hY,aj,List.length_append,← aj];rfl
       rcases hA with ⟨ha0,h3⟩ | ⟨ha0,id,g,h3,hid,hidb⟩
       ·have hY:af (ai Hc n (aC (ts.map TkR.v) lin j1) ++ [.lin 0]) n=some (aC (ts.map TkR.v) lin j1):=aI hltc _ _;have T':=fun l=>T l _ hY
        have W':=fun l o=>htok _ hY l o
        simp only[hlc1,aJ hltc,List.append_assoc,List.cons_append,List.nil_append] at T' W';subst ha0;simp only[aw,jR,tz,uC,uY,Dc,wE,SIM,ST0,ST1,h0,h3,D',hmin,hmin1,mp,jh,T',W',hlc,B26,EXS,a9,ba,Nat.reduceAdd,Nat.reduceLeDiff,TkR.v];rw[hmin2,hsn,List.append_assoc];exact ⟨_,_,rfl,aa Hc,0,rfl,hHc⟩
       ·have hne:id ≠ n:=by omega
        obtain ⟨G',hG'⟩:=hsi (aC (ts.map TkR.v) lin (j1 + 1)) id (.lin (g + 1)) hidb;have hgi:af (ai Hc n (aC (ts.map TkR.v) lin j1)) id=some (.lin g):=by rw[ae hne,hid]
        have hgn:af (ai (ai Hc n (aC (ts.map TkR.v) lin j1)) id (.lin (g + 1))) n=some (aC (ts.map TkR.v) lin j1):=by rw[ae (Ne.symm hne)];exact aK hcn _
        have happ:=fun e=>jT 31 (xs:=acc.map DeR.v) d (e:=e) hgi (by rw[List.length_map];omega)
        have T':=fun l=>T l (ai (ai Hc n (aC (ts.map TkR.v) lin j1)) id (.lin (g + 1))) hgn
        have W':=fun l o=>htok _ hgn l o
        have hcomm:ai (ai (ai Hc n (aC (ts.map TkR.v) lin j1)) id (.lin (g + 1))) n (aC (ts.map TkR.v) lin (j1 + 1))=ai (ai Hc n (aC (ts.map TkR.v) lin (j1 + 1))) id (.lin (g + 1)):=by
         simp only[aN];rw[List.set_comm _ _ hne,List.set_set]
        have hl3:∀ c v,aa (ai (ai Hc n c) id v)=aa Hc:=fun c v=>by rw[ak,ak]
        have hst3:∀ (c l o w:AObj),ai (ai (ai Hc n c) id l ++ [o]) (aa Hc) w=ai (ai Hc n c) id l ++ [w]:=fun c l o w=>by
         have e:=dp (ai (ai Hc n c) id l) [o] w;rw[hl3] at e;rw[e];rfl
        rw[hcomm] at W';simp only[hl3] at T' W';simp only[aw,jR,tz,uC,uY,Dc,wE,SIM,ST0,ST1,h0,h3,D',hmin,hmin1,mp,happ,T',W',hlc,hl3,hst3,B26,EXS,a9,ba,Nat.reduceAdd,Nat.reduceLeDiff,TkR.v];rw[hG',List.append_assoc];exact ⟨_,_,rfl,id,g + 1,by simp,hidb⟩
theorem de_noN:∀ l:List DeR,dK (l.map DeR.v)=true
 | []=>rfl
 | a :: l=>by rw[List.map_cons,bJ,de_noN l];rfl
theorem keep51:CC.keep 31=false:=by kernel_rfl
theorem pW (m:cq M)(hlen:ts.length≤90000){k i j:Nat}{l:List DeR}(hk:k≤90000)(h:iL ts k i=some (l,j)):Runs M 31 [.ptr n 0] n (ts.map TkR.v) lin i (deZ l) j:=by
 unfold iL at h;obtain ⟨x,hx,hxw,h⟩:=bp h;obtain ⟨y,hy,h⟩:=aU h;have W:=cK (n:=n) (lin:=lin) m (aA hx) (bd hlen hx) hxw;refine Runs.of fun H hlt=>?_
 refine aH (z:=z31) (m _ _ rfl) (by kernel_rfl) rfl ?_
 have e0:(envOf [AV.ptr n 0] 0 env0).a.a.a=.ptr n 0:=rfl;generalize envOf [AV.ptr n 0] 0 env0=R at e0;have hlS:aa (ai H n (aC (ts.map TkR.v) lin i))=aa H:=ak _ _ _;cases hw:cW y [[41]] with
 | true =>
   rw[hw] at h;simp only[cond_true,SJ,PJ] at h;obtain ⟨rfl,rfl⟩:=h;have T:=cG (n:=n) (lin:=lin) m (aA hy) (bd hlen hy) (ws:=[[41]]) (wa:=[.str [41]]) rfl (by simp) hw
   simp only[z31,Bl,Fg,BY,Dy,DX,DP,SIM,ST0,ST1,e0,W,T,B26,aI hlt,db hlt,aJ hlt,dX,EXS,a9,ba,Nat.reduceAdd,Nat.reduceLeDiff,TkR.v,deZ]
 | false =>
   rw[hw] at h;simp only[cond_false] at h;have T:=cU (n:=n) (lin:=lin) m (aA hy) (bd hlen hy) (ws:=[[41]]) (wa:=[.str [41]]) rfl (by simp) hw
   obtain ⟨r0,G0,hr0,hpre⟩ : ∃ r G,(r.a.a.a=.ptr n 0∧IB (aa H) (ai H n (aC (ts.map TkR.v) lin (i + 1)) ++ G) r.a.a.d [])∧z31.sh (orc CC M) R [] ⟨ai H n (aC (ts.map TkR.v) lin i),aa (ai H n (aC (ts.map TkR.v) lin i))⟩=dD 0 (aw (jR (orc CC M)) 100000 r [] ⟨ai H n (aC (ts.map TkR.v) lin (i + 1)) ++ G,aa H⟩):=by
    simp only[z31,Bl,Fg,BY,Dy,DX,DP,SIM,ST0,ST1,e0,W,T,B26,aI hlt,db hlt,aJ hlt,dX,EXS,a9,ba,Nat.reduceAdd,Nat.reduceLeDiff,TkR.v];exact ⟨_,_,⟨by first | rfl | exact e0,.inl ⟨rfl,rfl⟩⟩,rfl⟩
   rw[hpre];obtain ⟨r1,G1,h1,id,g,h2,hid⟩:=wZ (lin:=lin) (n:=n) m hlen hlt k [] (i + 1) l j h (by simp;omega) 100000 (by omega) _ ⟨G0,rfl⟩ r0 hr0
   rw[h1,hlS]
   have hne:l ≠ []:=by
    intro hl;subst hl;cases k with
    | zero=>cases h
    | succ k =>
      simp only[lK] at h
      split at h
      ·obtain ⟨z,hz,h⟩:=aU h;cases hb:cW z [[44]] with
       | true=>rw[hb] at h;simp only[cond_true] at h;split at h <;> cases h
       | false=>rw[hb] at h;simp only[cond_false] at h;obtain ⟨_,h⟩:=aS h;cases h
      ·cases h
   have hgc:=fun hp=>i0 (sz:=6) (l:=l.map DeR.v) (id:=id) (g:=g) (base:=aa H) (hp:=hp) (de_noN l) hid
   have hdz:deZ l=.sl 6 (l.map DeR.v) .dead:=by
    cases l with
    | nil=>exact absurd rfl hne
    | cons a l=>rfl
   rw[hdz];rw[List.nil_append] at h2
   have ht:bB (aa H) (ai H n (aC (ts.map TkR.v) lin j) ++ G1)=ai H n (aC (ts.map TkR.v) lin j):=by
    have:=cb (ai H n (aC (ts.map TkR.v) lin j)) G1
    rwa [ak] at this
   simp only[z31,SIM,ST0,h2,keep51,hgc,ht,Nat.reduceAdd,Nat.reduceLeDiff]
end
theorem fL (a b c:CZ):ac (ac a b) c=ac a (ac b c):=by
 funext r ds s
 simp only[ac];cases a r ds s with
 | none=>rfl
 | some x=>obtain ⟨e,r1,ds1,s1⟩:=x;cases e <;> rfl
theorem jg (ag:Option Nat)(off:Nat)(cs:List AV):lL ag off (.agg cs)=eK ag cs off:=rfl
def whW:List (List Nat):=[[119,104,101,110]]
def ntW:List (List Nat):=[[110,111,116]]
noncomputable def Ht (ts:List TkR)(i:Nat):Option (DeR × Nat):=match mJ ts i with
 | some (d,j)=>ji ts j fun x=>cond (cW x whW)
  (ji ts (j + 1) fun y=>cond (cW y ntW) (iC ts (j + 2) fun z j2=>ey ts j2 [59] fun j3=>some ({ d with c:=z.t,o:=true },j3))
   (iC ts (j + 1) fun z j2=>ey ts j2 [59] fun j3=>some ({ d with c:=z.t,o:=false },j3)))
  (ey ts j [59] fun j3=>some (d,j3))
 | none=>none
noncomputable section
def Ak (rec:RecT):CZ:=ac (uu rec) (ac (ac (tT rec) (ac (uI rec) (aB (.t 30) (ac (sO rec) (u6 rec)) skipZ))) (nJ rec))
end
theorem wB (rec:RecT):oH rec=aX 1 (ac (Ak rec) (ac (lO rec) (ac (lu rec) (aB (.t 59) (ac (lR rec) retZ) skipZ)))):=by
 unfold oH Ak;simp only[fL]
section
variable {M:Memo}{ts:List TkR}{lin:Lin}{n:Nat}
theorem HM {i j:Nat}{d:DeR}(h:mJ ts i=some (d,j)):d.c=[]∧d.o=false:=by
 unfold mJ at h;obtain ⟨x,_,_,h⟩:=cV h;obtain ⟨y,_,_,h⟩:=bp h;obtain ⟨z,_,h⟩:=aU h;cases hw:cW z fW with
 | true =>
   rw[hw] at h;simp only[cond_true] at h;obtain ⟨w,_,h⟩:=aU h;obtain ⟨_,h3⟩:=aS h;simp only[SJ,PJ] at h3;obtain ⟨rfl,rfl⟩:=h3;exact ⟨rfl,rfl⟩
 | false =>
   rw[hw] at h;simp only[cond_false] at h;obtain ⟨_,h3⟩:=aS h;simp only[SJ,PJ] at h3;obtain ⟨rfl,rfl⟩:=h3;exact ⟨rfl,rfl⟩
theorem HO (m:cq M)(hlen:ts.length≤90000){i j:Nat}{d:DeR}(h:Ht ts i=some (d,j)){Hc:Heap}{b:Nat}(hb:b≤aa Hc)(hn:af Hc n=some (aC (ts.map TkR.v) lin i)){r:RG}(h0:r.a.a.a=.ptr n 0) :
  ∃ r' K,Ak (orc CC M) r [] ⟨Hc,b⟩=some (.normal,r',[],⟨ai Hc n (aC (ts.map TkR.v) lin j) ++ (.cells d.l :: K),b⟩)∧r'.a.a.a=.ptr n 0∧r'.a.a.g=.ptr (aa Hc) 0∧r'.a.a.d=r.a.a.d:=by
 unfold Ht at h;cases hd:mJ ts i with
 | none=>rw[hd] at h;cases h
 | some dj =>
   obtain ⟨d1,j1⟩:=dj;rw[hd] at h;simp only at h;obtain ⟨hdc,hdo⟩:=HM hd;have D:=ua (lin:=lin) (n:=n) m hlen hd Hc hn;obtain ⟨x,hx,h⟩:=aU h;have hlt:n < aa Hc:=by rw[aj];exact bm hn
   have hmin:min b (aa Hc)=b:=Nat.min_eq_left hb;have hmin1:∀ q,min b (aa Hc + q)=b:=fun q=>Nat.min_eq_left (by omega)
   have hlc1:∀ (c:AObj) (K:Heap),aa (ai Hc n c ++ K)=aa Hc + aa K:=fun c K=>by rw[aj,List.length_append,← aj,ak,← aj]
   cases hw:cW x whW with
   | true =>
     rw[hw] at h;simp only[cond_true] at h;obtain ⟨y,hy,h⟩:=aU h;have T:=cG (n:=n) (lin:=lin) m (aA hx) (bd hlen hx) (ws:=whW) (wa:=[.str [119,104,101,110]]) rfl (by simp) hw
     cases hw2:cW y ntW with
     | true =>
       rw[hw2] at h;simp only[cond_true] at h;obtain ⟨z,hz,hzk,h⟩:=cV h;obtain ⟨w,hwt,hww,h⟩:=bp h;simp only[SJ,PJ] at h;obtain ⟨rfl,rfl⟩:=h;have T2:=cG (n:=n) (lin:=lin) m (aA hy) (bd hlen hy) (ws:=ntW) (wa:=[.str [110,111,116]]) rfl (by simp) hw2
       have N:=gC (n:=n) (lin:=lin) m (aA hz) (bd hlen hz) hzk;have W:=cK (n:=n) (lin:=lin) m (aA hwt) (bd hlen hwt) hww;simp only[Ak,uu,tT,uI,sO,u6,nJ,SIM,ST0,ST1,h0,D,T,T2,N,W,hmin,hmin1,hlc1,B26,jg,aI hlt,aJ hlt,EXS,a9,ba,Nat.reduceAdd,Nat.reduceLeDiff,TkR.v];exact ⟨_,_,rfl,rfl,rfl,rfl⟩
     | false =>
       rw[hw2] at h;simp only[cond_false] at h;obtain ⟨z,hz,hzk,h⟩:=cV h;obtain ⟨w,hwt,hww,h⟩:=bp h;simp only[SJ,PJ] at h;obtain ⟨rfl,rfl⟩:=h;have T2:=cU (n:=n) (lin:=lin) m (aA hy) (bd hlen hy) (ws:=ntW) (wa:=[.str [110,111,116]]) rfl (by simp) hw2
       have N:=gC (n:=n) (lin:=lin) m (aA hz) (bd hlen hz) hzk;have W:=cK (n:=n) (lin:=lin) m (aA hwt) (bd hlen hwt) hww;simp only[Ak,uu,tT,uI,sO,u6,nJ,SIM,ST0,ST1,h0,D,T,T2,N,W,hmin,hmin1,hlc1,B26,jg,aI hlt,aJ hlt,EXS,a9,ba,Nat.reduceAdd,Nat.reduceLeDiff,TkR.v];exact ⟨_,_,rfl,rfl,rfl,rfl⟩
   | false =>
     rw[hw] at h;simp only[cond_false] at h;obtain ⟨w,hwt,hww,h⟩:=bp h;simp only[SJ,PJ] at h;obtain ⟨rfl,rfl⟩:=h;have T:=cU (n:=n) (lin:=lin) m (aA hx) (bd hlen hx) (ws:=whW) (wa:=[.str [119,104,101,110]]) rfl (by simp) hw
     have W:=cK (n:=n) (lin:=lin) m (aA hwt) (bd hlen hwt) hww;simp only[Ak,uu,tT,uI,sO,u6,nJ,SIM,ST0,ST1,h0,D,T,W,hmin,hmin1,hlc1,B26,jg,aI hlt,aJ hlt,EXS,a9,ba,Nat.reduceAdd,Nat.reduceLeDiff,TkR.v];exact ⟨_,_,rfl,rfl,rfl,rfl⟩
noncomputable def mw (ts:List TkR):Nat→Nat→Option (List DeR × Nat)
 | 0,_=>none
 | k + 1,i=>match Ht ts i with
   | some (d,j)=>ji ts j fun x=>cond (cW x [[108,101,116]]) (some ([d],j)) (match mw ts k j with
     | some (l,j')=>some (d :: l,j')
     | none=>none)
   | none=>none
noncomputable def th (ts:List TkR)(k i:Nat):Option (List DeR × Nat):=ji ts i fun x=>cond (cW x [[118,97,114]]) (mw ts k (i + 1)) (some ([],i))
theorem Au (m:cq M)(hlen:ts.length≤90000){H:Heap}(hlt:n < aa H):∀ (k:Nat) (acc:List DeR) (i:Nat) (l:List DeR) (j:Nat),mw ts k i=some (l,j)→acc.length + k≤100000→∀ (fu:Nat),k≤fu→∀ (Hc:Heap),(∃ G,Hc=ai H n (aC (ts.map TkR.v) lin i) ++ G)→∀ (r:RG),
  (r.a.a.a=.ptr n 0∧IB (aa H) Hc r.a.a.d acc) →
  RJ H n (aC (ts.map TkR.v) lin j) (acc ++ l) (aw (oH (orc CC M)) fu r [] ⟨Hc,aa H⟩):=by
 intro k
 induction k with
 | zero=>intro acc i l j h;cases h
 | succ k ih =>
   intro acc i l j h hak fu hfu Hc hP r ⟨h0,hA⟩;obtain ⟨fu',rfl⟩ : ∃ f,fu=f + 1:=⟨fu - 1,by omega⟩
   simp only[mw] at h;cases hd:Ht ts i with
   | none=>rw[hd] at h;cases h
   | some dj =>
     obtain ⟨d,j1⟩:=dj;rw[hd] at h;simp only at h;obtain ⟨x,hx,h⟩:=aU h;have hx':=aA hx;obtain ⟨G,rfl⟩:=hP;have hll:∀ c:AObj,(ai H n c).length=H.length:=fun c=>by rw[aN,List.length_set]
     have hHl:aa H=H.length:=aj H;have hcn:af (ai H n (aC (ts.map TkR.v) lin i) ++ G) n=some (aC (ts.map TkR.v) lin i):=aI hlt _ _;have hHc:aa H≤aa (ai H n (aC (ts.map TkR.v) lin i) ++ G):=by rw[aj,aj,List.length_append,hll];omega
     have hsn:∀ c,ai (ai H n (aC (ts.map TkR.v) lin i) ++ G) n c=ai H n c ++ G:=fun c=>aJ hlt _ _ _
     have hsi:∀ (c:AObj) (K:Heap) (id:Nat) (v:AObj),aa H≤id→∃ G',ai (ai (ai H n (aC (ts.map TkR.v) lin i) ++ G) n c ++ K) id v=ai H n c ++ G':=fun c K id v hid=>by
      rw[hsn,List.append_assoc];exact ⟨_,dH (by rw[hll,← aj];exact hid) v⟩
     generalize ai H n (aC (ts.map TkR.v) lin i) ++ G=Hc at *;obtain ⟨r1,K,hrun,h01,h6,h31⟩:=HO (lin:=lin) (n:=n) m hlen hd hHc hcn h0;rw[wB];have hltc:n < aa Hc:=by omega
     have hnl:n < (ai Hc n (aC (ts.map TkR.v) lin j1)).length:=by rw[aN,List.length_set,← aj];exact hltc
     have hobj:af (ai Hc n (aC (ts.map TkR.v) lin j1) ++ (.cells d.l :: K)) (aa Hc)=some (.cells d.l):=by
      rw[← ak Hc n (aC (ts.map TkR.v) lin j1),au];rfl
     have hlen1:aa Hc≤aa (ai Hc n (aC (ts.map TkR.v) lin j1) ++ (.cells d.l :: K)):=by rw[aj,aj,List.length_append,aN,List.length_set];omega
     have hcur:af (ai Hc n (aC (ts.map TkR.v) lin j1) ++ (.cells d.l :: K)) n=some (aC (ts.map TkR.v) lin j1):=aI hltc _ _;have hloop:∀ X:CZ,aw X (fu' + 1) r [] ⟨Hc,aa H⟩=dZ (aw X fu') (X r [] ⟨Hc,aa H⟩):=fun X=>rfl
     rw[hloop];rw[wM,bt,hrun,bn];rw[← h31] at hA;have hnew0:∀ Q,∃ G',ai Hc n (aC (ts.map TkR.v) lin j1) ++ (.cells d.l :: K) ++ Q=ai H n (aC (ts.map TkR.v) lin j1) ++ G':=fun Q=>⟨G ++ ((.cells d.l :: K) ++ Q),by rw[hsn,List.append_assoc,List.append_assoc]⟩
     have hsi':=fun id v hid=>hsi (aC (ts.map TkR.v) lin j1) (.cells d.l :: K) id v hid
     have hA1:(acc=[]∧r1.a.a.d=.nils)∨(acc ≠ []∧∃ id g,r1.a.a.d=.sl 6 (acc.map DeR.v) (.live id g)∧af (ai Hc n (aC (ts.map TkR.v) lin j1) ++ (.cells d.l :: K)) id=some (.lin g)∧aa H≤id):=by
      rcases hA with h | ⟨h1,id,g,h2,h3,h4⟩
      ·exact .inl h
      ·exact .inr ⟨h1,id,g,h2,ar (by rw[ae (by omega),h3]) _,h4⟩
     generalize ai Hc n (aC (ts.map TkR.v) lin j1) ++ (.cells d.l :: K)=Hd at *;have hmin:∀ q,min (aa H) (aa Hd + q)=aa H:=fun q=>Nat.min_eq_left (by omega)
     have hmin0:min (aa H) (aa Hd)=aa H:=Nat.min_eq_left (by omega)
     have hl1:∀ o:AObj,aa (Hd ++ [o])=aa Hd + 1:=fun o=>by simp[aj]
     have htail:∀ {b:Bool},cW x [[108,101,116]]=b→∀ (Y:Heap),af Y n=some (aC (ts.map TkR.v) lin j1)→∀ l,orc CC M 33 [.ptr n 0,.sl 1 [.str [108,101,116]] l] Y=some (.ret (.bool b) Y (aa Y)):=fun hb Y hY l=>vW (n:=n) (lin:=lin) m hx' (ws:=[[108,101,116]]) (wa:=[.str [108,101,116]]) rfl (by simp) hb l Y hY
     rcases hA1 with ⟨ha0,h3⟩ | ⟨ha0,id,g,h3,hid,hidb⟩
     ·have hY:af (Hd ++ [.lin 0]) n=some (aC (ts.map TkR.v) lin j1):=ar hcur _;cases hw:cW x [[108,101,116]] with
      | true =>
        rw[hw] at h;simp only[cond_true,SJ,PJ] at h;obtain ⟨rfl,rfl⟩:=h;have I:=htail hw _ hY;subst ha0;simp only[lO,lu,lR,SIM,ST0,ST1,h01,h6,h3,hobj,mp,jh,I,hl1,hmin,hmin0,B26,Nat.reduceAdd,Nat.reduceLeDiff];obtain ⟨G',hG'⟩:=hnew0 [.lin 0];rw[hG'];exact ⟨_,_,rfl,aa Hd,0,rfl,by omega⟩
      | false =>
        rw[hw] at h;simp only[cond_false] at h;cases hl:mw ts k j1 with
        | none=>rw[hl] at h;cases h
        | some lj =>
          obtain ⟨l',j'⟩:=lj;rw[hl] at h;simp only[SJ,PJ] at h;obtain ⟨rfl,rfl⟩:=h;have I:=htail hw _ hY;have key:=ih [d] j1 l' j' hl (by simp;subst ha0;simp at hak;omega) fu' (by omega) (Hd ++ [.lin 0]) (hnew0 _)
          subst ha0;rw[wB] at key;simp only[lO,lu,lR,SIM,ST0,ST1,h01,h6,h3,hobj,mp,jh,I,hl1,hmin,hmin0,B26,Nat.reduceAdd,Nat.reduceLeDiff];exact key _ ⟨by first | rfl | exact h01,.inr ⟨by simp,aa Hd,0,rfl,by rw[au];rfl,by omega⟩⟩
     ·have hne:n ≠ id:=by omega
      have happ:=fun e=>jT 32 (xs:=acc.map DeR.v) d (e:=e) hid (by rw[List.length_map];omega)
      have hY:af (ai Hd id (.lin (g + 1))) n=some (aC (ts.map TkR.v) lin j1):=by rw[ae hne,hcur]
      have hl3:∀ v,aa (ai Hd id v)=aa Hd:=fun v=>ak _ _ _
      obtain ⟨G',hG'⟩:=hsi' id (.lin (g + 1)) hidb;cases hw:cW x [[108,101,116]] with
      | true =>
        rw[hw] at h;simp only[cond_true,SJ,PJ] at h;obtain ⟨rfl,rfl⟩:=h;have I:=htail hw _ hY;simp only[lO,lu,lR,SIM,ST0,ST1,h01,h6,h3,hobj,mp,happ,I,hl3,hmin,hmin0,B26,Nat.reduceAdd,Nat.reduceLeDiff];rw[hG'];exact ⟨_,_,rfl,id,g + 1,by simp,hidb⟩
      | false =>
        rw[hw] at h;simp only[cond_false] at h;cases hl:mw ts k j1 with
        | none=>rw[hl] at h;cases h
        | some lj =>
          obtain ⟨l',j'⟩:=lj;rw[hl] at h;simp only[SJ,PJ] at h;obtain ⟨rfl,rfl⟩:=h;have I:=htail hw _ hY;have key:=ih (acc ++ [d]) j1 l' j' hl (by simp;omega) fu' (by omega) (ai Hd id (.lin (g + 1))) ⟨G',hG'⟩
          rw[List.append_assoc,wB] at key;simp only[lO,lu,lR,SIM,ST0,ST1,h01,h6,h3,hobj,mp,happ,I,hl3,hmin,hmin0,B26,Nat.reduceAdd,Nat.reduceLeDiff];exact key _ ⟨by first | rfl | exact h01,.inr ⟨by simp,id,g + 1,by simp,aK hid _,hidb⟩⟩
theorem keep52:CC.keep 32=false:=by kernel_rfl
theorem varsL_ne:∀ {k i:Nat} {l:List DeR} {j:Nat},mw ts k i=some (l,j)→l ≠ []
 | 0,_,_,_,h=>by cases h
 | k + 1,i,l,j,h=>by
   simp only[mw] at h
   split at h
   ·obtain ⟨z,hz,h⟩:=aU h;cases hb:cW z [[108,101,116]] with
    | true=>rw[hb] at h;simp only[cond_true,SJ,PJ] at h;rw[← h.1];simp
    | false=>rw[hb] at h;simp only[cond_false] at h;split at h <;> simp at h;rw[← h.1];simp
   ·cases h
theorem GV (m:cq M)(hlen:ts.length≤90000){k i j:Nat}{l:List DeR}(hk:k≤90000)(h:th ts k i=some (l,j)):Runs M 32 [.ptr n 0] n (ts.map TkR.v) lin i (deZ l) j:=by
 unfold th at h;obtain ⟨y,hy,h⟩:=aU h;refine Runs.of fun H hlt=>?_
 refine aH (z:=z32) (m _ _ rfl) (by kernel_rfl) rfl ?_
 have e0:(envOf [AV.ptr n 0] 0 env0).a.a.a=.ptr n 0:=rfl;generalize envOf [AV.ptr n 0] 0 env0=R at e0;have hlS:aa (ai H n (aC (ts.map TkR.v) lin i))=aa H:=ak _ _ _;cases hw:cW y [[118,97,114]] with
 | false =>
   rw[hw] at h;simp only[cond_false,SJ,PJ] at h;obtain ⟨rfl,rfl⟩:=h;have T:=cU (n:=n) (lin:=lin) m (aA hy) (bd hlen hy) (ws:=[[118,97,114]]) (wa:=[.str [118,97,114]]) rfl (by simp) hw
   simp only[z32,Dm,Fd,Ej,E0,Cl,SIM,ST0,ST1,e0,T,B26,aI hlt,db hlt,aJ hlt,dX,EXS,a9,ba,Nat.reduceAdd,Nat.reduceLeDiff,TkR.v,deZ]
 | true =>
   rw[hw] at h;simp only[cond_true] at h;have T:=cG (n:=n) (lin:=lin) m (aA hy) (bd hlen hy) (ws:=[[118,97,114]]) (wa:=[.str [118,97,114]]) rfl (by simp) hw
   obtain ⟨r0,G0,hr0,hpre⟩ : ∃ r G,(r.a.a.a=.ptr n 0∧IB (aa H) (ai H n (aC (ts.map TkR.v) lin (i + 1)) ++ G) r.a.a.d [])∧z32.sh (orc CC M) R [] ⟨ai H n (aC (ts.map TkR.v) lin i),aa (ai H n (aC (ts.map TkR.v) lin i))⟩=dD 0 (aw (oH (orc CC M)) 100000 r [] ⟨ai H n (aC (ts.map TkR.v) lin (i + 1)) ++ G,aa H⟩):=by
    simp only[z32,Dm,Fd,Ej,E0,Cl,SIM,ST0,ST1,e0,T,B26,aI hlt,db hlt,aJ hlt,dX,EXS,a9,ba,Nat.reduceAdd,Nat.reduceLeDiff,TkR.v];exact ⟨_,_,⟨by first | rfl | exact e0,.inl ⟨rfl,rfl⟩⟩,rfl⟩
   rw[hpre];obtain ⟨r1,G1,h1,id,g,h2,hid⟩:=Au (lin:=lin) (n:=n) m hlen hlt k [] (i + 1) l j h (by simp;omega) 100000 (by omega) _ ⟨G0,rfl⟩ r0 hr0
   rw[h1,hlS];have hgc:=fun hp=>i0 (sz:=6) (l:=l.map DeR.v) (id:=id) (g:=g) (base:=aa H) (hp:=hp) (de_noN l) hid
   have hdz:deZ l=.sl 6 (l.map DeR.v) .dead:=by
    cases l with
    | nil=>exact absurd rfl (varsL_ne h)
    | cons a l=>rfl
   rw[hdz];rw[List.nil_append] at h2
   have ht:bB (aa H) (ai H n (aC (ts.map TkR.v) lin j) ++ G1)=ai H n (aC (ts.map TkR.v) lin j):=by
    have:=cb (ai H n (aC (ts.map TkR.v) lin j)) G1
    rwa [ak] at this
   simp only[z32,SIM,ST0,h2,keep52,hgc,ht,Nat.reduceAdd,Nat.reduceLeDiff]
end
abbrev p0 (x:List Nat × Nat):AV:=.agg [.str x.1,.int .i64 (x.2:Int)]
theorem NJ (s:List Nat)(p:Int):ao CC 112 [(0,.str s),(1,.int .i64 p)]=some (.agg [.str s,.int .i64 p]):=by kernel_rfl
theorem OE (s:List Nat)(p:Int):aP CC 80 1 [(0,.agg [.str s,.int .i64 p])]=some (.sl 2 [.agg [.str s,.int .i64 p]] .lit):=by kernel_rfl
theorem vP (f:Nat)(hf:CC.mutT f 80=false)(s:List Nat)(p:Int)(hp:Heap)(e:Nat):aq CC f 80 .nils (.sl 2 [.agg [.str s,.int .i64 p]] .lit) ⟨hp,e⟩=some (.sl 2 [.agg [.str s,.int .i64 p]] (.live (aa hp) 0),⟨hp ++ [.lin 0],e⟩):=by
 obtain ⟨e',s1⟩ : ∃ e',bK CC 80=some e'∧e'=112:=⟨_,by kernel_rfl,rfl⟩
 obtain ⟨s1,rfl⟩:=s1;have hi' : (CC.P.info? 112).map (fun i=>(i.size,decide (0 < i.bytes∧i.bytes≤65536)))=some (2,true):=by kernel_rfl
 obtain ⟨i,h1,h2,h3,h4⟩ : ∃ i,CC.P.info? 112=some i∧i.size=2∧0 < i.bytes∧i.bytes≤65536:=by
  cases hi:CC.P.info? 112 with
  | none=>rw[hi] at hi';cases hi'
  | some i =>
    rw[hi] at hi';simp only[Option.map_some,SJ,PJ,decide_eq_true_eq] at hi';exact ⟨i,rfl,hi'.1,hi'.2.1,hi'.2.2⟩
 have hz:cn CC 112=some (.agg [.str [],.int .i64 0]):=by kernel_rfl
 have hok:[AV.agg [.str s,.int .i64 p]].all (bg 2)=true:=rfl
 have hne:¬ (i.size=0∨i.bytes=0∨(AV.agg [.str [],.int .i64 0]).cells.length ≠ i.size∨[AV.agg [.str s,.int .i64 p]].all (bg i.size)=false∨2 ^ 16 < i.bytes):=by
  rw[h2,hok];simp[AV.cells];omega
 simp only[aq,s1,h1,hz,aY,if_true,h2,List.isEmpty,hf,aj];rw[h2] at hne;rw[if_neg hne];simp
theorem OL (f:Nat):CC.mutT f 80=false:=by
 show ((80:Nat) == 63 || (80:Nat) == 65)=false
 simp
section
variable {M:Memo}{ts:List TkR}{lin:Lin}{n:Nat}
theorem rK {sz id g b r:Nat}{l R:List AV}{a:AV}{hp:Heap}(hl:dK l=true)(h1:id < aa hp)(h2:r + 1≤id) :
  eF 1 0 r (.sl sz l (.live id g)) [.sl sz l (.live id g)] (a :: R) ⟨hp,b⟩=some ⟨ai hp r (.cells (.sl sz l (.live id g) :: R)),min b r⟩:=by
 have e1:eV (aa hp) (.sl sz l (.live id g))=true:=by rw[cj,iP hl];simpa using h1
 have e2:eV (r + 1) (.sl sz l (.live id g))=false:=by rw[cj,iP hl];simp;omega
 have e3:Nat.ble (Nat.add 0 1) (aa (a :: R))=true:=by rw[dE,aj];simp
 have e5:Nat.beq (aa [AV.sl sz l (.live id g)]) 1=true:=rfl;have e6:List.all [AV.sl sz l (.live id g)] AV.one=true:=rfl;simp only[eF,e1,e3,e5,e6,Bool.and_self,cond_true,i8,e2,cond_false];rfl
theorem dU {keep:Bool}{base e:Nat}{v:AV}{hp:Heap}(h:e ≠ base):kf keep base v ⟨hp,e⟩=.ret v hp e:=by
 have h1:Nat.beq e base=false:=by rw[kj];simpa using h
 simp only[kf,h1,Bool.false_and,cond_false,xj,cR,if_neg h]
theorem PI (m:cq M)(hlen:ts.length≤90000){i bx qo:Nat}{x:TkR}(hx:af ts i=some x)(hxk:x.k=1){H:Heap}{R:List AV}(hn:af H n=some (aC (ts.map TkR.v) lin i))(hb:af H bx=some (.cells [.ptr n 0]))(hq:af H qo=some (.cells (.nils :: R)))(h1:bx ≠ n)(h2:qo ≠ n) :
  orc CC M 42 [.ptr bx 0,.ptr qo 0] H=some (.ret Abs.undef (ai (ai H n (aC (ts.map TkR.v) lin (i + 1))) qo (.cells (.sl 2 [p0 (x.t,x.p)] (.live (aa H + 1) 0) :: R)) ++ [.cells [.int .i64 (x.k:Int),.int .i64 (x.p:Int),.str x.t,.int .u64 (x.m:Int)],.lin 0]) qo):=by
 have N:=gC (n:=n) (lin:=lin) m (aA hx) (bd hlen hx) hxk;refine aH (z:=z42) (m _ _ rfl) (by kernel_rfl) rfl ?_
 have e0:(envOf [AV.ptr bx 0,.ptr qo 0] 0 env0).a.a.a=.ptr bx 0:=rfl;have e1:(envOf [AV.ptr bx 0,.ptr qo 0] 0 env0).a.a.b=.ptr qo 0:=rfl;generalize envOf [AV.ptr bx 0,.ptr qo 0] 0 env0=r at e0 e1;have hlt:n < aa H:=by rw[aj];exact bm hn
 have hqlt:qo < aa H:=by rw[aj];exact bm hq
 have N':=N H hn;have hqn:af (ai H n (aC (ts.map TkR.v) lin (i + 1))) qo=some (.cells (.nils :: R)):=by rw[ae h2,hq]
 have happ:=fun hp e=>vP 42 (OL 42) x.t x.p hp e
 have hst:eF 1 0 qo (.sl 2 [.agg [.str x.t,.int .i64 (x.p:Int)]] (.live (aa H + 1) 0)) [.sl 2 [.agg [.str x.t,.int .i64 (x.p:Int)]] (.live (aa H + 1) 0)] (.nils :: R) ⟨ai H n (aC (ts.map TkR.v) lin (i + 1)) ++ [.cells [.int .i64 (x.k:Int),.int .i64 (x.p:Int),.str x.t,.int .u64 (x.m:Int)],.lin 0],aa H⟩=_ :=
  rK rfl (by simp[aj,aN]) (by omega)
 have hmq:min (aa H) qo=qo:=Nat.min_eq_right (by omega)
 have hgc:=fun hp=>dU (keep:=CC.keep 42) (base:=aa H) (e:=qo) (v:=Abs.undef) (hp:=hp) (by omega)
 simp only[z42,Jr,JD,SIM,ST0,e0,e1,hb,N',B26,hst,hmq,hgc,NJ,OE,happ,ar hqn,bR hqn,aI hlt,aJ hlt,EXS,a9,ba,Nat.reduceAdd,Nat.reduceLeDiff,TkR.v]
theorem le_noN:∀ l:List (List Nat × Nat),dK (l.map p0)=true
 | []=>rfl
 | a :: l=>by rw[List.map_cons,bJ,le_noN l];rfl
end
noncomputable section
def sS (rec:RecT):CZ:=(ac (GX rec) (ac (GZ rec) (aB (.t 18) (ac (JK rec) (ac (KB rec) (ac (I5 rec) (ac (aX 0 (bi (Bg rec))) (D9 rec))))) (xr rec))))
end
theorem NM (a b:AV)(s:St):ea CC 42 [a,b] s=some (.call 42 [a,b]):=by kernel_rfl
structure LeI (H:Heap)(n:Nat)(c:AObj)(bx qo:Nat)(R:List AV)(L:AV)(Hc:Heap):Prop where
 pre:∃ G,Hc=ai H n c ++ G
 hb:af Hc bx=some (.cells [.ptr n 0])
 hq:af Hc qo=some (.cells (L :: R))
 bl:H.length≤bx
 ql:H.length≤qo
 qx:qo=bx + 2
 li:∀ es id g,L=.sl 2 es (.live id g)→id < aa Hc
 rs:∃ cs,af Hc (bx + 1)=some (.cells cs)∧8≤aa cs
section
variable {M:Memo}{ts:List TkR}{lin:Lin}{n:Nat}
theorem LeI.cur {H:Heap}{c:AObj}{bx qo:Nat}{R:List AV}{L:AV}{Hc:Heap}(h:LeI H n c bx qo R L Hc)(hn:n < H.length):af Hc n=some c:=by
 obtain ⟨G,rfl⟩:=h.pre;exact aI (by rw[aj];exact hn) _ _
theorem LeI.next {H Hc K K' : Heap}{c c' : AObj}{bx qo:Nat}{R:List AV}{L L' : AV}(hn:n < H.length)(hL:L ≠ .ptr n 0)(I:LeI H n c bx qo R L Hc)(hli:∀ es id g,L'=.sl 2 es (.live id g)→id < aa (ai (ai (Hc ++ K) n c') qo (.cells (L' :: R)) ++ K')):LeI H n c' bx qo R L' (ai (ai (Hc ++ K) n c') qo (.cells (L' :: R)) ++ K'):=by
 have hne:bx ≠ qo:=by
  intro h;have h1:=I.hb;rw[h,I.hq] at h1;simp only[SJ,AObj.cells.injEq,List.cons.injEq] at h1;exact hL h1.1
 have hb:=I.bl;have hq:=I.ql;have hx:=I.qx;obtain ⟨cs,hcs,hcl⟩:=I.rs;refine ⟨?_,?_,?_,I.bl,I.ql,I.qx,hli,cs,?_,hcl⟩
 ·obtain ⟨G,rfl⟩:=I.pre;rw[List.append_assoc,aJ (by rw[aj];exact hn),dH (by rw[aN,List.length_set];exact hq),List.append_assoc]
  exact ⟨_,rfl⟩
 ·exact ar (by rw[ae hne,ae (by omega)];exact ar I.hb _) _
 ·exact ar (aK (by rw[ae (by omega)];exact ar I.hq _) _) _
 ·exact ar (by rw[ae (by omega),ae (by omega)];exact ar hcs _) _
theorem Cm (m:cq M)(hlen:ts.length≤90000){H Hc:Heap}{i bx qo:Nat}{R:List AV}(hn:n < H.length)(I:LeI H n (aC (ts.map TkR.v) lin i) bx qo R .nils Hc){x:TkR}(hx:af ts i=some x)(hxk:x.k=1){r:RG}
  (hr:r.a.a.b=.ptr bx 0∧r.a.a.d=.ptr qo 0∧r.a.a.e=.func (.func 42) [] [.ptr bx 0,.ptr qo 0]) :
  ∃ r' Hd id,sS (orc CC M) r [] ⟨Hc,aa H⟩=some (.normal,r',[],⟨Hd,aa H⟩)∧LeI H n (aC (ts.map TkR.v) lin (i + 1)) bx qo R (.sl 2 [p0 (x.t,x.p)] (.live id 0)) Hd∧qo < id∧r'.a.a.b=.ptr bx 0∧r'.a.a.c=r.a.a.c∧r'.a.a.d=.ptr qo 0:=by
 obtain ⟨h1,h3,h4⟩:=hr;have hcur:=I.cur hn;have hw:cW x [[40]]=false:=by unfold cW;rw[hxk];rfl
 have T:=cU (n:=n) (lin:=lin) m (aA hx) (bd hlen hx) (ws:=[[40]]) (wa:=[.str [40]]) rfl (by simp) hw
 have A:=PI (n:=n) (lin:=lin) m hlen hx hxk (H:=Hc ++ [.cells [.int .i64 (x.k:Int),.int .i64 (x.p:Int),.str x.t,.int .u64 (x.m:Int)]]) (ar hcur _) (ar I.hb _) (ar I.hq _) (by have:=I.bl;omega) (by have:=I.ql;omega)
 have T':=fun l=>T l Hc hcur
 have hbc:=I.hb;obtain ⟨G,hG⟩:=I.pre;have hHc:aa H≤aa Hc:=by rw[hG,aj,aj,List.length_append,aN,List.length_set];omega
 have hmin:min (aa H) (aa Hc)=aa H:=Nat.min_eq_left hHc;have hmq:min (aa H) qo=aa H:=Nat.min_eq_left (by rw[aj];exact I.ql)
 simp only[sS,GX,GZ,xr,SIM,ST0,h1,h3,h4,hbc,T',NM,A,hmin,hmq,B26,EXS,a9,ba,Nat.reduceAdd,Nat.reduceLeDiff,TkR.v];exact ⟨_,_,_,rfl,I.next hn (by simp) (by intro es id' g' h;cases h;simp[aj,aN]),by have:=bm I.hq;rw[aj];omega,rfl,rfl,rfl⟩
end
section
variable {M:Memo}{ts:List TkR}{lin:Lin}{n:Nat}{H Hc:Heap}{c:AObj}{bx qo:Nat}{R:List AV}{L:AV}
theorem LeI.setn (hn:n < H.length)(I:LeI H n c bx qo R L Hc)(c' : AObj):LeI H n c' bx qo R L (ai Hc n c'):=by
 have hb:=I.bl;have hq:=I.ql;obtain ⟨cs,hcs,hcl⟩:=I.rs;refine ⟨?_,by rw[ae (by omega)];exact I.hb,by rw[ae (by omega)];exact I.hq,I.bl,I.ql,I.qx,fun es id g h=>by rw[ak];exact I.li es id g h,cs,by rw[ae (by omega)];exact hcs,hcl⟩
 obtain ⟨G,rfl⟩:=I.pre;exact ⟨G,aJ (by rw[aj];exact hn) _ _ _⟩
theorem LeI.setq (hn:n < H.length)(hL:L ≠ .ptr n 0)(I:LeI H n c bx qo R L Hc)(R' : List AV):LeI H n c bx qo R' L (ai Hc qo (.cells (L :: R'))):=by
 have hne:bx ≠ qo:=by
  intro h;have h1:=I.hb;rw[h,I.hq] at h1;simp only[SJ,AObj.cells.injEq,List.cons.injEq] at h1;exact hL h1.1
 have hx:=I.qx;obtain ⟨cs,hcs,hcl⟩:=I.rs;refine ⟨?_,by rw[ae hne];exact I.hb,aK I.hq _,I.bl,I.ql,I.qx,fun es id g h=>by rw[ak];exact I.li es id g h,cs,by rw[ae (by omega)];exact hcs,hcl⟩
 obtain ⟨G,rfl⟩:=I.pre;exact ⟨_,dH (by rw[aN,List.length_set];exact I.ql) _⟩
theorem LeI.len (I:LeI H n c bx qo R L Hc):aa H≤aa Hc:=by
 obtain ⟨G,rfl⟩:=I.pre;rw[aj,aj,List.length_append,aN,List.length_set];omega
abbrev zR:List AV:=[.bool false,.int .i64 0,.int .i64 0,.int .i64 0,.str [],.bool false,.nils]
theorem ID (m:cq M)(hlen:ts.length≤90000){i:Nat}(hn:n < H.length)(hL:L ≠ .ptr n 0)(I:LeI H n (aC (ts.map TkR.v) lin i) bx qo zR L Hc){x y:TkR}(hx:af ts i=some x)(hxw:cW x [[61]]=true)(hy:af ts (i + 1)=some y)(hyw:cW y [[97,115,121,110,99]]=false){r:RG}
  (hr:r.a.a.b=.ptr bx 0∧r.a.a.d=.ptr qo 0) :
  ∃ r' Hd,ac (j6 (orc CC M)) (ac (jV (orc CC M)) (jS (orc CC M))) r [] ⟨Hc,aa H⟩=some (.normal,r',[],⟨Hd,aa H⟩)∧LeI H n (aC (ts.map TkR.v) lin (i + 1)) bx qo zR L Hd∧r'.a.a.b=.ptr bx 0∧r'.a.a.c=r.a.a.c∧r'.a.a.d=.ptr qo 0∧r'.a.h.g=.bool false:=by
 obtain ⟨h1,h3⟩:=hr;have W:=cK (n:=n) (lin:=lin) m (aA hx) (bd hlen hx) hxw;have T:=cU (n:=n) (lin:=lin) m (aA hy) (bd hlen hy) (ws:=[[97,115,121,110,99]]) (wa:=[.str [97,115,121,110,99]]) rfl (by simp) hyw
 have I1:=I.setn hn (aC (ts.map TkR.v) lin (i + 1));have I2:=I1.setq hn hL zR;have W':=fun l=>W l Hc (I.cur hn)
 have T':=fun l=>T l _ (I1.cur hn)
 have hmin:min (aa H) (aa Hc)=aa H:=Nat.min_eq_left I.len;have hls:∀ c:AObj,aa (ai Hc n c)=aa Hc:=fun c=>ak _ _ _
 simp only[hls] at T';have hb:=I.hb;have hb1:=I1.hb;have hq1:=I1.hq;have hq2:=I2.hq;simp only[j6,jV,jS,SIM,ST0,ST1,h1,h3,hb,hb1,hq1,hq2,W',T',hmin,hls,B26,EXS,a9,ba,Nat.reduceAdd,Nat.reduceLeDiff];exact ⟨_,_,rfl,I2,h1,rfl,h3,rfl⟩
abbrev eR (b:Bool)(e:Ex):List AV:=[.bool b,.int .i64 (e.k:Int),.int .i64 (e.p:Int),.int .i64 e.n,.str e.s,.bool e.b,e.kv]
theorem Iq (m:cq M){i j:Nat}{e:Ex}{b:Bool}(hn:n < H.length)(hL:L ≠ .ptr n 0)(I:LeI H n (aC (ts.map TkR.v) lin i) bx qo (.bool b :: [.int .i64 0,.int .i64 0,.int .i64 0,.str [],.bool false,.nils]) L Hc)(hE:Runs M 44 [.ptr n 0] n (ts.map TkR.v) lin i e.v j){r:RG}
  (hr:r.a.a.b=.ptr bx 0∧r.a.a.d=.ptr qo 0) :
  ∃ Hd,oR (orc CC M) r [] ⟨Hc,aa H⟩=some (.normal,r,[],⟨Hd,aa H⟩)∧LeI H n (aC (ts.map TkR.v) lin j) bx qo (eR b e) L Hd:=by
 obtain ⟨h1,h3⟩:=hr;have I1:=I.setn hn (aC (ts.map TkR.v) lin j);have I2:=I1.setq hn hL (eR b e);have E':=hE Hc (I.cur hn);have hmin:min (aa H) (aa Hc)=aa H:=Nat.min_eq_left I.len;have hb:=I.hb;have hq1:=I1.hq;have hput:cm [L,.bool b,.int .i64 0,.int .i64 0,.int .i64 0,.str [],.bool false,.nils] 2 [.int .i64 (e.k:Int),.int .i64 (e.p:Int),.int .i64 e.n,.str e.s,.bool e.b,e.kv]=L :: eR b e:=rfl;simp only[oR,SIM,ST0,ST1,h1,h3,hb,hq1,E',hmin,hput,EXS,a9,ba,Nat.reduceAdd,Nat.reduceLeDiff];exact ⟨_,rfl,I2⟩
theorem Il (m:cq M)(hlen:ts.length≤90000){i:Nat}{e:Ex}{b:Bool}(hn:n < H.length)(I:LeI H n (aC (ts.map TkR.v) lin i) bx qo (eR b e) L Hc)(hs:sizeE e < 90000)(hd:deepE e≤40){x:TkR}(hx:af ts i=some x)(hxw:cW x [[59]]=true){r:RG}
  (hr:r.a.a.b=.ptr bx 0∧r.a.a.d=.ptr qo 0) :
  ∃ r' Hd,ac (ac (nO (orc CC M)) (aB (.t 76) (ot (orc CC M)) skipZ)) (oZ (orc CC M)) r [] ⟨Hc,aa H⟩=some (.normal,r',[],⟨Hd,aa H⟩)∧LeI H n (aC (ts.map TkR.v) lin (i + 1)) bx qo (eR b e) L Hd∧r'.a.a.b=.ptr bx 0∧r'.a.a.c=r.a.a.c∧r'.a.a.d=.ptr qo 0:=by
 obtain ⟨h1,h3⟩:=hr;have W:=cK (n:=n) (lin:=lin) m (aA hx) (bd hlen hx) hxw;have I1:=I.setn hn (aC (ts.map TkR.v) lin (i + 1));have W':=fun l=>W l Hc (I.cur hn)
 have hmin:min (aa H) (aa Hc)=aa H:=Nat.min_eq_left I.len;have hb:=I.hb;have hq:=I.hq;have hD:=HV (M:=M) m (sizeE e) e (Nat.le_refl _) hs Hc;have hc:decide ((40:Int) < (deepE e:Int))=false:=by simp;omega
 simp only[nO,ot,oZ,SIM,ST0,ST1,ST2,h1,h3,hb,hq,hD,hc,W',hmin,B26,EXS,a9,ba,Nat.reduceAdd,Nat.reduceLeDiff];exact ⟨_,_,rfl,I1,h1,rfl,h3⟩
end
abbrev qR (l:List (List Nat × Nat))(n:Lin)(b:Bool)(e:Ex):List AV:=.sl 2 (l.map p0) n :: eR b e
theorem Ed {l:List (List Nat × Nat)}{id g:Nat}{b:Bool}{e:Ex}(base:Nat):AV.low base (.agg (qR l (.live id g) b e))=decide (id < base):=by
 have h1:aM base (l.map p0)=true:=by
  have:=(dq (.agg (l.map p0)) (by rw[en];exact le_noN l)).2 base
  simpa only[AV.low] using this
 have h2:AV.low base e.kv=true:=(dq _ (nT e)).2 base;simp[AV.low,aM,h1,h2,Lin.low]
theorem HK {l:List (List Nat × Nat)}{id g r b0:Nat}{b:Bool}{e:Ex}{cs:List AV}{hp:Heap}(h1:id < aa hp)(h2:r + 1≤id)(h3:b0≤r)(h4:8≤aa cs) :
  eF 8 0 r (.agg (qR l (.live id g) b e)) (qR l (.live id g) b e) cs ⟨hp,b0⟩=some ⟨ai hp r (.cells (cm cs 0 (qR l (.live id g) b e))),b0⟩:=by
 have e1:eV (aa hp) (.agg (qR l (.live id g) b e))=true:=by rw[cj,Ed];simpa using h1
 have e2:eV (r + 1) (.agg (qR l (.live id g) b e))=false:=by rw[cj,Ed];simp;omega
 have e3:Nat.ble (Nat.add 0 8) (aa cs)=true:=by rw[dE];simpa using h4
 have e4:min b0 r=b0:=Nat.min_eq_left h3;have e5:Nat.beq (aa (qR l (.live id g) b e)) 8=true:=rfl
 have e6:List.all (qR l (.live id g) b e) AV.one=true:=by
  simp only[List.all_cons,List.all_nil,iU,gb,eO,eL,lP,Bool.and_self]
 simp only[eF,e1,e3,e5,e6,Bool.and_self,cond_true,i8,e2,cond_false,e4]
theorem RK {l:List (List Nat × Nat)}{id g base:Nat}{b:Bool}{e:Ex}{hp:Heap}(hid:base≤id) :
  kf false base (.agg (qR l (.live id g) b e)) ⟨hp,base⟩=.ret (.agg (qR l .dead b e)) (bB base hp) base:=by
 have h1:gF (.agg (qR l (.live id g) b e))=false:=rfl;have h2:Lin.low base (.live id g)=false:=by simp[Lin.low];omega
 have hk:AV.settle base hp e.kv=e.kv:=(dq _ (nT e)).1 base hp
 have h3:AV.settle base hp (.agg (qR l (.live id g) b e))=.agg (qR l .dead b e):=by
  simp[AV.settle,br,ep (le_noN l),h2,hk]
 have h4:AV.low base (.agg (qR l .dead b e))=true:=by
  refine (dq _ ?_).2 base;simp only[en,bJ,noNL_nil,gW,linN_dead,le_noN,gH,fQ,fJ,nT,cond_true]
 unfold kf;rw[h1,Bool.and_false];simp only[cond_false,xj,cR,if_true,h3,h4,Bool.false_eq_true,if_false,dw]
theorem Ov (rec:RecT):z34.sh rec=ac (ac (ug rec) (ac (t5 rec) (uE rec))) (ac (sS rec) (ac (ac (j6 rec) (ac (jV rec) (jS rec))) (ac (aB (.t 62) (oY rec) (oR rec)) (ac (ac (ac (nO rec) (aB (.t 76) (ot rec) skipZ)) (oZ rec)) (ac (nr rec) retZ))))):=by
 simp only[z34,sS,fL]
theorem keep54:CC.keep 34=false:=by kernel_rfl
section
variable {M:Memo}{ts:List TkR}{lin:Lin}{n:Nat}{H Hc:Heap}{c:AObj}{bx qo:Nat}{R:List AV}{L:AV}
abbrev zR2:List AV:=[.bool true,.int .i64 0,.int .i64 0,.int .i64 0,.str [],.bool false,.nils]
theorem EX (m:cq M)(hlen:ts.length≤90000){i:Nat}(hn:n < H.length)(hL:L ≠ .ptr n 0)(I:LeI H n (aC (ts.map TkR.v) lin i) bx qo zR L Hc){x y:TkR}(hx:af ts i=some x)(hxw:cW x [[61]]=true)(hy:af ts (i + 1)=some y)(hyw:cW y [[97,115,121,110,99]]=true){r:RG}
  (hr:r.a.a.b=.ptr bx 0∧r.a.a.d=.ptr qo 0) :
  ∃ r' Hd,ac (j6 (orc CC M)) (ac (jV (orc CC M)) (jS (orc CC M))) r [] ⟨Hc,aa H⟩=some (.normal,r',[],⟨Hd,aa H⟩)∧LeI H n (aC (ts.map TkR.v) lin (i + 1 + 1)) bx qo zR2 L Hd∧r'.a.a.b=.ptr bx 0∧r'.a.a.c=r.a.a.c∧r'.a.a.d=.ptr qo 0∧r'.a.h.g=.bool true:=by
 obtain ⟨h1,h3⟩:=hr;have W:=cK (n:=n) (lin:=lin) m (aA hx) (bd hlen hx) hxw;have T:=cG (n:=n) (lin:=lin) m (aA hy) (bd hlen hy) (ws:=[[97,115,121,110,99]]) (wa:=[.str [97,115,121,110,99]]) rfl (by simp) hyw
 have I1:=I.setn hn (aC (ts.map TkR.v) lin (i + 1));have I1b:=I.setn hn (aC (ts.map TkR.v) lin (i + 1 + 1));have I2:=I1b.setq hn hL zR2;have W':=fun l=>W l Hc (I.cur hn)
 have T':=fun l=>T l _ (I1.cur hn)
 have hmin:min (aa H) (aa Hc)=aa H:=Nat.min_eq_left I.len;have hls:∀ c:AObj,aa (ai Hc n c)=aa Hc:=fun c=>ak _ _ _
 have hls2:∀ c d:AObj,aa (ai (ai Hc n c) n d)=aa Hc:=fun c d=>by rw[ak,ak]
 simp only[hls] at T';have hb:=I.hb;have hb1:=I1.hb;have hq1:=I1.hq;have hb1b:=I1b.hb;have hq1b:=I1b.hq;have hq2:=I2.hq;simp only[j6,jV,jS,SIM,ST0,ST1,h1,h3,hb,hb1,hq1,hb1b,hq1b,hq2,W',T',hmin,hls,hls2,B26,EXS,a9,ba,Nat.reduceAdd,Nat.reduceLeDiff];exact ⟨_,_,rfl,I2,h1,rfl,h3,rfl⟩
theorem Fw (m:cq M)(hlen:ts.length≤90000){i j:Nat}{x:TkR}{e:Ex}{b:Bool}(hx:af ts i=some x)(hxk:x.k=1)(hn:n < H.length)(hL:L ≠ .ptr n 0)(I:LeI H n (aC (ts.map TkR.v) lin i) bx qo (.bool b :: [.int .i64 0,.int .i64 0,.int .i64 0,.str [],.bool false,.nils]) L Hc)(hE:Runs M 43 [.ptr n 0,x.v] n (ts.map TkR.v) lin (i + 1) e.v j){r:RG}
  (hr:r.a.a.b=.ptr bx 0∧r.a.a.d=.ptr qo 0) :
  ∃ Hd,oY (orc CC M) r [] ⟨Hc,aa H⟩=some (.normal,r,[],⟨Hd,aa H⟩)∧LeI H n (aC (ts.map TkR.v) lin j) bx qo (eR b e) L Hd:=by
 obtain ⟨h1,h3⟩:=hr;have N:=gC (n:=n) (lin:=lin) m (aA hx) (bd hlen hx) hxk;have I0:=I.setn hn (aC (ts.map TkR.v) lin (i + 1));have I1:=I.setn hn (aC (ts.map TkR.v) lin j);have I2:=I1.setq hn hL (eR b e);have N':=N Hc (I.cur hn);have E':=hE _ (I0.cur hn);have hls:∀ c:AObj,aa (ai Hc n c)=aa Hc:=fun c=>ak _ _ _
 simp only[hls] at E';have hmin:min (aa H) (aa Hc)=aa H:=Nat.min_eq_left I.len;have hb:=I.hb;have hb0:=I0.hb;have hq1:=I1.hq;have hput:cm [L,.bool b,.int .i64 0,.int .i64 0,.int .i64 0,.str [],.bool false,.nils] 2 [.int .i64 (e.k:Int),.int .i64 (e.p:Int),.int .i64 e.n,.str e.s,.bool e.b,e.kv]=L :: eR b e:=rfl;have hsm:AV.same (.ptr n 0) (.ptr n 0)=true:=by simp[AV.same]
 simp only[oY,SIM,ST0,ST1,h1,h3,hb,hb0,hq1,N',E',hmin,hput,hsm,EXS,a9,ba,Nat.reduceAdd,Nat.reduceLeDiff];exact ⟨_,rfl,I2⟩
end
noncomputable def R7 (rec:RecT):CZ:=ac (ac (j6 rec) (ac (jV rec) (jS rec))) (aB (.t 62) (oY rec) (oR rec))
theorem Iw (rec:RecT):z34.sh rec=ac (ac (ug rec) (ac (t5 rec) (uE rec))) (ac (sS rec) (ac (R7 rec) (ac (ac (ac (nO rec) (aB (.t 76) (ot rec) skipZ)) (oZ rec)) (ac (nr rec) retZ)))):=by
 rw[Ov];simp only[R7,fL]
def SA (M:Memo)(ts:List TkR)(lin:Lin)(n:Nat)(i j:Nat)(b:Bool)(e:Ex):Prop :=
 ∀ (H Hc:Heap)(bx qo:Nat)(L:AV)(r:RG),n < H.length→L ≠ .ptr n 0→LeI H n (aC (ts.map TkR.v) lin i) bx qo zR L Hc→(r.a.a.b=.ptr bx 0∧r.a.a.d=.ptr qo 0) →
   ∃ r' Hd,R7 (orc CC M) r [] ⟨Hc,aa H⟩=some (.normal,r',[],⟨Hd,aa H⟩)∧LeI H n (aC (ts.map TkR.v) lin j) bx qo (eR b e) L Hd∧r'.a.a.b=.ptr bx 0∧r'.a.a.c=r.a.a.c∧r'.a.a.d=.ptr qo 0
theorem TH {M:Memo}{ts:List TkR}{lin:Lin}{n:Nat}(m:cq M)(hlen:ts.length≤90000){i j k:Nat}{y z:TkR}{e:Ex}(hy:af ts i=some y)(hyw:cW y [[61]]=true)(hz:af ts (i + 1)=some z)(hzw:cW z [[97,115,121,110,99]]=false)
  (hk:k≤90000) (he:pp ts k .expr (i + 1)=some (e,j)):SA M ts lin n i j false e:=by
 intro H Hc bx qo L r hn hL I hr;have hE:Runs M 44 [.ptr n 0] n (ts.map TkR.v) lin (i + 1) e.v j:=(CT (lin:=lin) (n:=n) m hlen k hk).expr he;obtain ⟨r2,H2,s2,I2,b1,b2,b3,b4⟩:=ID m hlen hn hL I hy hyw hz hzw hr;obtain ⟨H3,s3,I3⟩:=Iq m hn hL I2 hE (r:=r2) ⟨b1,b3⟩;refine ⟨r2,H3,?_,I3,b1,b2,b3⟩;unfold R7;rw[bt,s2,bn];have hg:gx ⟨r2,[]⟩ (.t 62)=.bool false:=b4;rw[← s3,mS,hg];rfl
theorem TK {M:Memo}{ts:List TkR}{lin:Lin}{n:Nat}(m:cq M)(hlen:ts.length≤90000){i j k:Nat}{y z f:TkR}{e:Ex}(hy:af ts i=some y)(hyw:cW y [[61]]=true)(hz:af ts (i + 1)=some z)(hzw:cW z [[97,115,121,110,99]]=true)(hf:af ts (i + 1 + 1)=some f)(hfk:f.k=1)
  (hk:k≤90000) (he:xK ts (pp ts k) k f (i + 1 + 1 + 1)=some (e,j)):SA M ts lin n i j true e:=by
 intro H Hc bx qo L r hn hL I hr;have hE:Runs M 43 [.ptr n 0,f.v] n (ts.map TkR.v) lin (i + 1 + 1 + 1) e.v j:=t6 m hlen (CT (lin:=lin) (n:=n) m hlen k hk) hk he;obtain ⟨r2,H2,s2,I2,b1,b2,b3,b4⟩:=EX m hlen hn hL I hy hyw hz hzw hr;obtain ⟨H3,s3,I3⟩:=Fw m hlen hf hfk hn hL I2 hE (r:=r2) ⟨b1,b3⟩;refine ⟨r2,H3,?_,I3,b1,b2,b3⟩;unfold R7;rw[bt,s2,bn];have hg:gx ⟨r2,[]⟩ (.t 62)=.bool true:=b4;rw[← s3,mS,hg];rfl
theorem HR {M:Memo}{ts:List TkR}{lin:Lin}{n:Nat}(m:cq M)(hlen:ts.length≤90000){i j:Nat}{x w:TkR}{e:Ex}{b:Bool}(hx:af ts i=some x)(hxk:x.k=1)(hAB:SA M ts lin n (i + 1) j b e)
  (hs:sizeE e < 90000) (hd:deepE e≤40) (hw:af ts j=some w) (hww:cW w [[59]]=true) :
  Runs M 34 [.ptr n 0] n (ts.map TkR.v) lin i (.agg (qR [(x.t,x.p)] .dead b e)) (j + 1):=by
 refine Runs.of fun H hlt=>?_
 refine aH (z:=z34) (m _ _ rfl) (by kernel_rfl) rfl ?_
 have e0:(envOf [AV.ptr n 0] 0 env0).a.a.a=.ptr n 0:=rfl;generalize envOf [AV.ptr n 0] 0 env0=R0 at e0;have hn:n < H.length:=by rw[aj] at hlt;exact hlt
 have hlS:∀ c:AObj,aa (ai H n c)=aa H:=fun c=>ak _ _ _
 have hlS' : ∀ c:AObj,(ai H n c).length=H.length:=fun c=>by rw[aN,List.length_set]
 have hbx:eW (.ptr n 0) H.length=some (.cells [.ptr n 0],(.ptr · 0)):=by
  have h1:(AV.ptr n 0).cells.all AV.one=true:=rfl;have h2:AV.low H.length (.ptr n 0)=true:=by simp[AV.low,hn]
  unfold eW;rw[if_pos ⟨h1,h2⟩];rfl
 let Z8:AObj:=.cells (.nils :: zR)
 have I0:LeI H n (aC (ts.map TkR.v) lin i) (aa H) (aa H + 2) zR .nils (ai H n (aC (ts.map TkR.v) lin i) ++ [.cells [.ptr n 0],Z8,Z8]):=by
  refine ⟨⟨_,rfl⟩,?_,?_,by rw[aj];exact Nat.le_refl _,by rw[aj];omega,rfl,(fun es id g h=>by cases h),.nils :: zR,by rw[← hlS (aC (ts.map TkR.v) lin i),aR];rfl,Nat.le_refl 8⟩
  ·rw[← hlS (aC (ts.map TkR.v) lin i),au];rfl
  ·rw[← hlS (aC (ts.map TkR.v) lin i),aR];rfl
 obtain ⟨r0,hr0,hpre⟩ : ∃ r,(r.a.a.b=.ptr (aa H) 0∧r.a.a.c=.ptr (aa H + 1) 0∧r.a.a.d=.ptr (aa H + 2) 0∧r.a.a.e=.func (.func 42) [] [.ptr (aa H) 0,.ptr (aa H + 2) 0]) ∧
   ac (ug (orc CC M)) (ac (t5 (orc CC M)) (uE (orc CC M))) R0 [] ⟨ai H n (aC (ts.map TkR.v) lin i),aa H⟩=some (.normal,r,[],⟨ai H n (aC (ts.map TkR.v) lin i) ++ [.cells [.ptr n 0],Z8,Z8],aa H⟩):=by
  simp only[ug,t5,uE,SIM,ST0,e0,hlS',hbx,hlS,Nat.reduceAdd,Nat.reduceLeDiff];exact ⟨_,⟨rfl,rfl,rfl,rfl⟩,rfl⟩
 rw[hlS,Iw,bt,hpre,bn,bt];obtain ⟨r1,H1,id,s1,I1,hid,a1,a2,a3⟩:=Cm m hlen hn I0 hx hxk (r:=r0) ⟨hr0.1,hr0.2.2.1,hr0.2.2.2⟩;rw[s1,bn,bt];obtain ⟨r2,H3,s3,I3,b1,b2,b3⟩:=hAB H H1 _ _ _ r1 hn (by simp) I1 ⟨a1,a3⟩
 rw[s3,bn,bt];obtain ⟨r4,H4,s4,I4,c1,c2,c3⟩:=Il m hlen hn I3 hs hd hw hww (r:=r2) ⟨b1,b3⟩;rw[s4,bn];obtain ⟨cs,hcs,hcl⟩:=I4.rs;have hid4:id < aa H4:=I4.li _ _ _ rfl;have hst:=HK (l:=[(x.t,x.p)]) (id:=id) (g:=0) (r:=aa H + 1) (b0:=aa H) (b:=b) (e:=e) (cs:=cs) (hp:=H4) hid4 (by omega) (by omega) hcl
 have hq4:=I4.hq;have hres:r4.a.a.c=.ptr (aa H + 1) 0:=by rw[c2,b2,a2];exact hr0.2.1
 have hqn:∀ c,af (ai H4 (aa H + 1) c) (aa H + 1)=some c:=fun c=>aK hcs c
 have hput:cm cs 0 (qR [(x.t,x.p)] (.live id 0) b e)=qR [(x.t,x.p)] (.live id 0) b e ++ cs.drop 8:=rfl
 have s5:nr (orc CC M) r4 [] ⟨H4,aa H⟩=some (.normal,r4,[],⟨ai H4 (aa H + 1) (.cells (cm cs 0 (qR [(x.t,x.p)] (.live id 0) b e))),aa H⟩):=by
  simp only[nr,SIM,ST0,c3,hres,hq4,hcs,Nat.reduceAdd,Nat.reduceLeDiff];exact congrArg (fun o=>oB o fun s1=>some (AExit.normal,r4,([]:Dfs),s1)) hst
 rw[bt,s5,bn]
 have hres2:fy r4 (ai H4 (aa H + 1) (.cells (cm cs 0 (qR [(x.t,x.p)] (.live id 0) b e)))) z34.res=some [.agg (qR [(x.t,x.p)] (.live id 0) b e)]:=by
  show fy r4 _ [.cell 2 (some 8)]=_;rw[rz,iT,show gt r4 2=.ptr (aa H + 1) 0 from hres,B5,hqn]
  have hp8:∀ (a b1 b2 b3 b4 b5 b6 b7:AV) (cs:List AV),eK (some 8) (cm cs 0 [a,b1,b2,b3,b4,b5,b6,b7]) 0=some (.agg [a,b1,b2,b3,b4,b5,b6,b7]):=fun a b1 b2 b3 b4 b5 b6 b7 cs=>by
   rw[xA];unfold aV;rw[List.take_zero,List.nil_append];generalize List.drop _ cs=D;have hb:Nat.ble (Nat.add 0 8) (aa ([a,b1,b2,b3,b4,b5,b6,b7] ++ D))=true:=by rw[dE,aj];simp
   rw[rB,hb];simp only[List.cons_append,List.nil_append,cond_true,rc,sw,qW,rS,ra,rF,ri,rN,sm,rZ]
  simp only[hp8]
 rw[wR,iM,hres2]
 have hpre4:bB (aa H) (ai H4 (aa H + 1) (.cells (cm cs 0 (qR [(x.t,x.p)] (.live id 0) b e))))=ai H n (aC (ts.map TkR.v) lin (j + 1)):=by
  obtain ⟨G,hG⟩:=I4.pre;rw[hG,dH (by rw[hlS',← aj];omega),← hlS (aC (ts.map TkR.v) lin (j + 1)),cb]
 have hgc:=RK (l:=[(x.t,x.p)]) (id:=id) (g:=0) (base:=aa H) (b:=b) (e:=e) (hp:=ai H4 (aa H + 1) (.cells (cm cs 0 (qR [(x.t,x.p)] (.live id 0) b e)))) (by omega)
 rw[hpre4] at hgc;rw[← hgc,← keep54];rfl
theorem az {α:Type}(a b:List α):aa (a ++ b)=aa a + aa b:=by simp[aj]
structure EqR where
 l:List (List Nat × Nat)
 a:Bool
 e:Ex
abbrev EqR.v (q:EqR):AV:=.agg (qR q.l .dead q.a q.e)
def asW:List (List Nat):=[[97,115,121,110,99]]
noncomputable def tL (ts:List TkR)(x:TkR)(b:Bool)(r:PR):Option (EqR × Nat):=match r with
 | some (e,j)=>cond (Nat.ble (sizeE e + 1) 90000 && Nat.ble (deepE e) 40) (ey ts j [59] fun j=>some (⟨[(x.t,x.p)],b,e⟩,j)) none
 | none=>none
noncomputable def SC (ts:List TkR)(k i:Nat):Option (EqR × Nat):=iC ts i fun x j=>ey ts j [61] fun j=>ji ts j fun z=>cond (cW z asW)
 (iC ts (j + 1) fun f j=>tL ts x true (xK ts (pp ts k) k f j)) (tL ts x false (pp ts k .expr j))
section
variable {M:Memo}{ts:List TkR}{lin:Lin}{n:Nat}
theorem ye (m:cq M)(hlen:ts.length≤90000){i j:Nat}{x:TkR}{b:Bool}{r:PR}{q:EqR}(hx:af ts i=some x)(hxk:x.k=1)(h:tL ts x b r=some (q,j))(hAB:∀ e j,r=some (e,j)→SA M ts lin n (i + 1) j b e) :
  Runs M 34 [.ptr n 0] n (ts.map TkR.v) lin i q.v j:=by
 cases r with
 | none=>cases h
 | some ej =>
   obtain ⟨e,j1⟩:=ej;simp only[tL] at h;obtain ⟨hc,h⟩:=aS h;rw[Bool.and_eq_true,dE,dE,decide_eq_true_eq,decide_eq_true_eq] at hc;obtain ⟨w,hw,hww,h⟩:=bp h;simp only[SJ,PJ] at h;obtain ⟨rfl,rfl⟩:=h;exact HR m hlen hx hxk (hAB e j1 rfl) (show sizeE e < 90000 by have:=hc.1;omega) hc.2 hw hww
theorem Io (m:cq M)(hlen:ts.length≤90000){k i j:Nat}{q:EqR}(hk:k≤90000)(h:SC ts k i=some (q,j)):Runs M 34 [.ptr n 0] n (ts.map TkR.v) lin i q.v j:=by
 unfold SC at h;obtain ⟨x,hx,hxk,h⟩:=cV h;obtain ⟨y,hy,hyw,h⟩:=bp h;obtain ⟨z,hz,h⟩:=aU h;cases hzw:cW z asW with
 | true =>
   rw[hzw] at h;simp only[cond_true] at h;obtain ⟨f,hf,hfk,h⟩:=cV h;exact ye m hlen hx hxk h fun e j1 he=>TK m hlen hy hyw hz hzw hf hfk hk he
 | false =>
   rw[hzw] at h;simp only[cond_false] at h;exact ye m hlen hx hxk h fun e j1 he=>TH m hlen hy hyw hz hzw hk he
end
theorem sP (e:Ex):e.kv=.nils∨∃ l q,e.kv=.sl 6 l q:=by
 unfold Ex.kv;cases exL e.kids with
 | nil=>exact .inl rfl
 | cons a l=>exact .inr ⟨_,_,rfl⟩
theorem Mi (q:EqR):aP CC 44 1 [(0,q.v)]=some (.sl 8 [q.v] .lit):=by
 obtain ⟨l,a,e⟩:=q;show aP CC 44 1 [(0,.agg (qR l .dead a e))]=some (.sl 8 [.agg (qR l .dead a e)] .lit);obtain h | ⟨m,w,h⟩:=sP e <;> rw[qR,eR,h] <;> kernel_rfl
theorem JZ (q:EqR):[q.v].all (bg 8)=true:=by
 obtain ⟨l,a,e⟩:=q;show [AV.agg (qR l .dead a e)].all (bg 8)=true;obtain h | ⟨m,w,h⟩:=sP e <;> rw[qR,eR,h] <;> rfl
theorem eq_noN:∀ l:List EqR,dK (l.map EqR.v)=true
 | []=>rfl
 | q :: l=>by
   rw[List.map_cons,bJ,eq_noN l];simp only[en,bJ,noNL_nil,gW,linN_dead,le_noN,gH,fQ,fJ,nT,cond_true]
theorem le_same:∀ l:List (List Nat × Nat),sameL (l.map p0) (l.map p0)=true
 | []=>by simp[sameL]
 | a :: l=>by rw[List.map_cons];simp[sameL,AV.same,le_same l]
theorem rV (e:Ex):AV.same e.kv e.kv=true:=qt (exL_same _)
theorem eq_same:∀ l:List EqR,sameL (l.map EqR.v) (l.map EqR.v)=true
 | []=>by simp[sameL]
 | q :: l=>by rw[List.map_cons];simp[sameL,AV.same,le_same,rV,eq_same l]
theorem se59:∃ e,bK CC 44=some e∧e=85:=⟨_,by kernel_rfl,rfl⟩
theorem inf125' : (CC.P.info? 85).map (fun i=>(i.size,decide (0 < i.bytes∧i.bytes≤65536)))=some (8,true):=by kernel_rfl
theorem inf125:∃ i,CC.P.info? 85=some i∧i.size=8∧0 < i.bytes∧i.bytes≤65536:=by
 have h:=inf125';cases hi:CC.P.info? 85 with
 | none=>rw[hi] at h;cases h
 | some i =>
   rw[hi] at h;simp only[Option.map_some,SJ,PJ,decide_eq_true_eq] at h;exact ⟨i,rfl,h.1,h.2.1,h.2.2⟩
theorem zero125:cn CC 85=some (.agg (.nils :: zR)):=by kernel_rfl
theorem Qz (f:Nat):CC.mutT f 44=false:=by
 show ((44:Nat) == 63 || (44:Nat) == 65)=false
 simp
theorem Aq (f:Nat)(d:EqR)(hp:Heap)(e:Nat):aq CC f 44 .nils (.sl 8 [d.v] .lit) ⟨hp,e⟩=some (.sl 8 [d.v] (.live (aa hp) 0),⟨hp ++ [.lin 0],e⟩):=by
 obtain ⟨i,h1,h2,h3,h4⟩:=inf125;obtain ⟨e',s1,rfl⟩:=se59
 have hne:¬ (i.size=0∨i.bytes=0∨(AV.agg (.nils :: zR)).cells.length ≠ i.size∨[d.v].all (bg i.size)=false∨2 ^ 16 < i.bytes):=by
  rw[h2,JZ];simp[AV.cells];omega
 simp only[aq,s1,h1,zero125,aY,if_true,h2,List.isEmpty,Qz,aj];rw[h2] at hne;rw[if_neg hne];simp
theorem vX (f:Nat){xs:List AV}(d:EqR){hp:Heap}{e id g:Nat}(hg:af hp id=some (.lin g))(hl:xs.length + 1≤2 ^ 24) :
  aq CC f 44 (.sl 8 xs (.live id g)) (.sl 8 [d.v] .lit) ⟨hp,e⟩=some (.sl 8 (xs ++ [d.v]) (.live id (g + 1)),⟨ai hp id (.lin (g + 1)),e⟩):=by
 obtain ⟨i,h1,h2,h3,h4⟩:=inf125;obtain ⟨e',s1,rfl⟩:=se59;rw[aD] at hg;have h5:decide (xs.length + [d.v].length≤2 ^ 24)=true:=by simp;omega
 have hne:¬ (i.size=0∨i.bytes=0∨(AV.agg (.nils :: zR)).cells.length ≠ i.size∨[d.v].all (bg i.size)=false∨2 ^ 16 < i.bytes):=by
  rw[h2,JZ];simp[AV.cells];omega
 rw[h2] at hne;simp only[aq,s1,h1,zero125,aY,if_true,h2,h5,List.isEmpty,hg,aN];rw[if_neg hne];simp
noncomputable def rM (ts:List TkR)(k:Nat):Nat→Nat→Option (List EqR × Nat)
 | 0,_=>none
 | f + 1,i=>ji ts i fun x=>cond (cW x [[116,101,108]]) (some ([],i)) (match SC ts k i with
   | some (q,j)=>match rM ts k f j with
     | some (l,j')=>some (q :: l,j')
     | none=>none
   | none=>none)
abbrev gT (s:List Nat)(p:Nat)(I O V:List DeR)(L:AV):List AV:=[.str s,.int .i64 (p:Int),deZ I,deZ O,deZ V,L]
def Tg (Hc:Heap)(no:Nat)(L:AV)(acc:List EqR):Prop:=(acc=[]∧L=.nils)∨(acc ≠ []∧∃ id g,L=.sl 8 (acc.map EqR.v) (.live id g)∧af Hc id=some (.lin g)∧no < id)
structure NoI (H:Heap)(n:Nat)(c:AObj)(P:AV→List AV)(acc:List EqR)(Hc:Heap):Prop where
 pre:∃ G,Hc=ai H n c ++ G
 rs:af Hc (aa H)=some (.cells [.str [],.int .i64 0,.nils,.nils,.nils,.nils])
 nd:∃ L,af Hc (aa H + 2)=some (.cells (P L))∧Tg Hc (aa H + 2) L acc
def TE (H:Heap)(n:Nat)(c:AObj)(P:AV→List AV)(all:List EqR)(X:IRes):Prop:=∃ r' Hd,X=some (.exit 0,r',[],⟨Hd,aa H⟩)∧NoI H n c P all Hd∧r'.a.a.a=.ptr n 0∧r'.a.a.c=.ptr (aa H) 0∧r'.a.a.e=.ptr (aa H + 2) 0
theorem NoI.cur {H:Heap}{n:Nat}{c:AObj}{P:AV→List AV}{acc:List EqR}{Hc:Heap}(h:NoI H n c P acc Hc)(hn:n < aa H):af Hc n=some c:=by
 obtain ⟨G,rfl⟩:=h.pre;exact aI hn _ _
theorem NoI.len {H:Heap}{n:Nat}{c:AObj}{P:AV→List AV}{acc:List EqR}{Hc:Heap}(h:NoI H n c P acc Hc):aa H≤aa Hc:=by
 obtain ⟨G,rfl⟩:=h.pre;rw[aj,aj,List.length_append,aN,List.length_set];omega
theorem NoI.next {H:Heap}{n:Nat}{c c' : AObj}{P:AV→List AV}{acc acc' : List EqR}{Hc K:Heap}{L' : AV}(hlt:n < aa H)(I:NoI H n c P acc Hc)
  (hE:Tg (ai (ai Hc n c' ++ K) (aa H + 2) (.cells (P L'))) (aa H + 2) L' acc'):NoI H n c' P acc' (ai (ai Hc n c' ++ K) (aa H + 2) (.cells (P L'))):=by
 obtain ⟨L,hL,_⟩:=I.nd;refine ⟨?_,?_,L',aK (ar (by rw[ae (by omega)];exact hL) _) _,hE⟩
 ·obtain ⟨G,rfl⟩:=I.pre;rw[aJ hlt,List.append_assoc];exact ⟨_,dH (by rw[aN,List.length_set,aj];omega) _⟩
 ·rw[ae (by omega)]
  exact ar (by rw[ae (by omega)];exact I.rs) _
theorem NoI.next2 {H:Heap}{n:Nat}{c c' v:AObj}{P:AV→List AV}{acc acc' : List EqR}{Hc:Heap}{L' : AV}{id:Nat}(hlt:n < aa H)(hid:aa H + 2 < id)(I:NoI H n c P acc Hc)
  (hE:Tg (ai (ai (ai Hc n c') id v) (aa H + 2) (.cells (P L'))) (aa H + 2) L' acc'):NoI H n c' P acc' (ai (ai (ai Hc n c') id v) (aa H + 2) (.cells (P L'))):=by
 obtain ⟨L,hL,_⟩:=I.nd;refine ⟨?_,?_,L',?_,hE⟩
 ·obtain ⟨G,rfl⟩:=I.pre;rw[aJ hlt,dH (by rw[aN,List.length_set,← aj];omega)]
  exact ⟨_,dH (by rw[aN,List.length_set,aj];omega) _⟩
 ·rw[ae (by omega),ae (by omega),ae (by omega)]
  exact I.rs
 ·have h1:af (ai (ai Hc n c') id v) (aa H + 2)=some (.cells (P L)):=by rw[ae (by omega),ae (by omega)];exact hL
  exact aK h1 _
theorem Ds (s:List Nat)(p:Nat)(I O V:List DeR)(L L' : AV):cm (gT s p I O V L) 5 [L']=gT s p I O V L':=rfl
section
variable {M:Memo}{ts:List TkR}{lin:Lin}{n:Nat}
theorem FU (m:cq M)(hlen:ts.length≤90000){H:Heap}(hlt:n < aa H){k:Nat}(hk:k≤90000){s:List Nat}{p:Nat}{I O V:List DeR}:∀ (f:Nat) (acc:List EqR) (i:Nat) (l:List EqR) (j:Nat),rM ts k f i=some (l,j)→acc.length + f≤100000→∀ (fu:Nat),f≤fu→∀ (Hc:Heap),NoI H n (aC (ts.map TkR.v) lin i) (gT s p I O V) acc Hc→∀ (r:RG),
  (r.a.a.a=.ptr n 0∧r.a.a.c=.ptr (aa H) 0∧r.a.a.e=.ptr (aa H + 2) 0) →
  TE H n (aC (ts.map TkR.v) lin j) (gT s p I O V) (acc ++ l) (aw (lE (orc CC M)) fu r [] ⟨Hc,aa H⟩):=by
 intro f
 induction f with
 | zero=>intro acc i l j h;cases h
 | succ f ih =>
   intro acc i l j h hak fu hfu Hc hP r ⟨h0,h2,h4⟩;obtain ⟨fu',rfl⟩ : ∃ f,fu=f + 1:=⟨fu - 1,by omega⟩
   simp only[rM] at h;obtain ⟨x,hx,h⟩:=aU h;have hcn:af Hc n=some (aC (ts.map TkR.v) lin i):=by obtain ⟨G,rfl⟩:=hP.pre;exact aI hlt _ _
   cases hw:cW x [[116,101,108]] with
   | true =>
     rw[hw] at h;simp only[cond_true,SJ,PJ] at h;obtain ⟨rfl,rfl⟩:=h;have I':=fun l=>vW (n:=n) (lin:=lin) m (aA hx) (ws:=[[116,101,108]]) (wa:=[.str [116,101,108]]) rfl (by simp) hw l Hc hcn
     have hmin:min (aa H) (aa Hc)=aa H:=by obtain ⟨G,rfl⟩:=hP.pre;exact Nat.min_eq_left (by rw[aj,aj,List.length_append,aN,List.length_set];omega)
     simp only[aw,lE,xM,SIM,ST0,ST1,h0,I',hmin,B26,Nat.reduceAdd,Nat.reduceLeDiff];exact ⟨_,_,rfl,hP,by first | rfl | exact h0,by first | rfl | exact h2,by first | rfl | exact h4⟩
   | false =>
     rw[hw] at h;simp only[cond_false] at h;cases hq:SC ts k i with
     | none=>rw[hq] at h;cases h
     | some qj =>
       obtain ⟨q,j1⟩:=qj;rw[hq] at h;simp only at h;cases hl:rM ts k f j1 with
       | none=>rw[hl] at h;cases h
       | some lj =>
         obtain ⟨l',j'⟩:=lj;rw[hl] at h;simp only[SJ,PJ] at h;obtain ⟨rfl,rfl⟩:=h;have I':=fun l=>vW (n:=n) (lin:=lin) m (aA hx) (ws:=[[116,101,108]]) (wa:=[.str [116,101,108]]) rfl (by simp) hw l Hc hcn
         have E:=Io (lin:=lin) (n:=n) m hlen hk hq Hc hcn;have hmin:min (aa H) (aa Hc)=aa H:=by obtain ⟨G,rfl⟩:=hP.pre;exact Nat.min_eq_left (by rw[aj,aj,List.length_append,aN,List.length_set];omega)
         have hll:∀ c:AObj,aa (ai Hc n c)=aa Hc:=fun c=>ak _ _ _
         obtain ⟨L,hL,hE⟩:=hP.nd;have hL1:af (ai Hc n (aC (ts.map TkR.v) lin j1)) (aa H + 2)=some (.cells (gT s p I O V L)):=by rw[ae (by omega),hL]
         have hnl:aa H + 2 < aa Hc:=by rw[aj Hc];exact bm hL
         rcases hE with ⟨rfl,rfl⟩ | ⟨ha0,id,g,rfl,hid,hidb⟩
         ·have happ:=fun e=>Aq 18 q (ai Hc n (aC (ts.map TkR.v) lin j1)) e
          simp only[hll] at happ
          have hst:eF 1 5 (aa H + 2) (.sl 8 [q.v] (.live (aa Hc) 0)) [.sl 8 [q.v] (.live (aa Hc) 0)] (gT s p I O V .nils) ⟨ai Hc n (aC (ts.map TkR.v) lin j1) ++ [.lin 0],aa H⟩=_ :=
           rU (eq_noN [q]) (by rw[az,hll,show aa [AObj.lin 0]=1 from rfl];omega) (by omega) (by omega) (by rw[aj];simp)
          rw[Ds] at hst;have hL2:af (ai Hc n (aC (ts.map TkR.v) lin j1) ++ [.lin 0]) (aa H + 2)=some (.cells (gT s p I O V .nils)):=ar hL1 _;have hNI:=hP.next (c':=aC (ts.map TkR.v) lin j1) (K:=[.lin 0]) (L':=.sl 8 [q.v] (.live (aa Hc) 0)) (acc':=[q]) hlt (.inr ⟨by simp,_,_,rfl,by rw[ae (by omega),← hll (aC (ts.map TkR.v) lin j1),au];rfl,hnl⟩)
          have key:=ih [q] j1 l' j' hl (by simp at hak ⊢;omega) fu' (by omega) _ hNI
          simp only[aw,lE,xM,Fq,SIM,ST0,ST1,h0,h4,I',E,hL,hL1,hL2,same_nils,Mi,happ,hst,hmin,B26,Nat.reduceAdd,Nat.reduceLeDiff];exact key _ ⟨by first | rfl | exact h0,by first | rfl | exact h2,by first | rfl | exact h4⟩
         ·have hgi:af (ai Hc n (aC (ts.map TkR.v) lin j1)) id=some (.lin g):=by rw[ae (by omega),hid]
          have happ:=fun e=>vX 18 (xs:=acc.map EqR.v) q (e:=e) hgi (by rw[List.length_map];omega)
          have hm:acc.map EqR.v ++ [q.v]=(acc ++ [q]).map EqR.v:=by simp
          rw[hm] at happ
          have hst:eF 1 5 (aa H + 2) (.sl 8 ((acc ++ [q]).map EqR.v) (.live id (g + 1))) [.sl 8 ((acc ++ [q]).map EqR.v) (.live id (g + 1))] (gT s p I O V (.sl 8 (acc.map EqR.v) (.live id g))) ⟨ai (ai Hc n (aC (ts.map TkR.v) lin j1)) id (.lin (g + 1)),aa H⟩=_ :=
           rU (eq_noN _) (by rw[ak,hll,aj];exact bm hid) (by omega) (by omega) (by rw[aj];simp)
          rw[Ds] at hst;have hL2:af (ai (ai Hc n (aC (ts.map TkR.v) lin j1)) id (.lin (g + 1))) (aa H + 2)=some (.cells (gT s p I O V (.sl 8 (acc.map EqR.v) (.live id g)))):=by rw[ae (by omega),hL1]
          have hsm:AV.same (.sl 8 (acc.map EqR.v) (.live id g)) (.sl 8 (acc.map EqR.v) (.live id g))=true:=by simp[AV.same,eq_same]
          have hNI:=hP.next2 (c':=aC (ts.map TkR.v) lin j1) (v:=.lin (g + 1)) (L':=.sl 8 ((acc ++ [q]).map EqR.v) (.live id (g + 1))) (acc':=acc ++ [q]) hlt hidb (.inr ⟨by simp,_,_,rfl,by rw[ae (by omega)];exact aK hgi _,hidb⟩)
          have key:=ih (acc ++ [q]) j1 l' j' hl (by simp;omega) fu' (by omega) _ hNI
          rw[List.append_assoc] at key;simp only[aw,lE,xM,Fq,SIM,ST0,ST1,h0,h4,I',E,hL,hL1,hL2,hsm,Mi,happ,hst,hmin,B26,Nat.reduceAdd,Nat.reduceLeDiff];exact key _ ⟨by first | rfl | exact h0,by first | rfl | exact h2,by first | rfl | exact h4⟩
end
structure NdR where
 s:List Nat
 p:Nat
 ins:List DeR
 outs:List DeR
 vars:List DeR
 eqs:List EqR
abbrev pg (l:List EqR):AV:=.sl 8 (l.map EqR.v) .dead
abbrev NdR.v (d:NdR):AV:=.agg (gT d.s d.p d.ins d.outs d.vars (pg d.eqs))
noncomputable def oS (ts:List TkR)(k i:Nat):Option (NdR × Nat):=ey ts i [110,111,100,101] fun j=>iC ts j fun x j=>match iL ts k j with
 | none=>none
 | some (I,j)=>ey ts j [114,101,116,117,114,110,115] fun j=>match iL ts k j with
   | none=>none
   | some (O,j)=>match th ts k j with
     | none=>none
     | some (V,j)=>ey ts j [108,101,116] fun j=>match rM ts k k j with
       | none=>none
       | some ([],_)=>none
       | some (q :: E,j)=>some (⟨x.t,x.p,I,O,V,q :: E⟩,j + 1)
theorem tA {ts:List TkR}{k:Nat}:∀ {f i:Nat} {l:List EqR} {j:Nat},rM ts k f i=some (l,j)→∃ x,af ts j=some x∧cW x [[116,101,108]]=true
 | 0,_,_,_,h=>by cases h
 | f + 1,i,l,j,h=>by
   simp only[rM] at h;obtain ⟨x,hx,h⟩:=aU h;cases hw:cW x [[116,101,108]] with
   | true =>
     rw[hw] at h;simp only[cond_true,SJ,PJ] at h;obtain ⟨rfl,rfl⟩:=h;exact ⟨x,hx,hw⟩
   | false =>
     rw[hw] at h;simp only[cond_false] at h
     split at h
     ·split at h
      ·rename_i h2;simp only[SJ,PJ] at h;obtain ⟨rfl,rfl⟩:=h;exact tA h2
      ·cases h
     ·cases h
theorem fN (l:List DeR):gF (deZ l)=true:=by
 cases l with
 | nil=>rfl
 | cons a l=>show gF (.sl 6 ((a :: l).map DeR.v) .dead)=true;rw[gW,linN_dead,de_noN];rfl
theorem kP (l:List DeR):AV.one (deZ l)=true:=by cases l <;> rfl
theorem P7 (s:List Nat)(p:Nat)(l:List DeR):ao CC 46 [(0,.str s),(1,.int .i64 (p:Int)),(2,deZ l)]=some (.agg [.str s,.int .i64 (p:Int),deZ l,.nils,.nils,.nils]):=by
 have h1:∀ (q:Int),ao CC 46 [(0,.str s),(1,.int .i64 q),(2,.nils)]=some (.agg [.str s,.int .i64 q,.nils,.nils,.nils,.nils]):=fun q=>by kernel_rfl
 have h2:∀ (q:Int) (xs:List AV),ao CC 46 [(0,.str s),(1,.int .i64 q),(2,.sl 6 xs .dead)]=some (.agg [.str s,.int .i64 q,.sl 6 xs .dead,.nils,.nils,.nils]):=fun q xs=>by kernel_rfl
 cases l with
 | nil=>exact h1 p
 | cons a l=>exact h2 p _
theorem zM (l:List DeR):AV.cells (deZ l)=[deZ l]:=by cases l <;> rfl
theorem DZS:(∀ l,AV.cells (deZ l)=[deZ l])∧(∀ l,gF (deZ l)=true)∧(∀ l,AV.one (deZ l)=true)∧(∀ (s:List Nat) (p:Nat) (l:List DeR),ao CC 46 [(0,.str s),(1,.int .i64 (p:Int)),(2,deZ l)]=some (.agg [.str s,.int .i64 (p:Int),deZ l,.nils,.nils,.nils])) :=
 ⟨zM,fN,kP,P7⟩
theorem EZ {s:List Nat}{p:Nat}{I O V:List DeR}{sz id g:Nat}{l:List AV}(hl:dK l=true)(base:Nat):AV.low base (.agg (gT s p I O V (.sl sz l (.live id g))))=decide (id < base):=by
 have h:=fun l=>(dq (deZ l) (fN l)).2 base
 simp[AV.low,aM,dG hl,h,Lin.low]
theorem Ie {s:List Nat}{p:Nat}{I O V:List DeR}{sz id g r b0:Nat}{l cs:List AV}{hp:Heap}(hl:dK l=true)(h1:id < aa hp)(h2:r + 1≤id)(h3:b0≤r)(h4:6≤aa cs) :
  eF 6 0 r (.agg (gT s p I O V (.sl sz l (.live id g)))) (gT s p I O V (.sl sz l (.live id g))) cs ⟨hp,b0⟩=some ⟨ai hp r (.cells (cm cs 0 (gT s p I O V (.sl sz l (.live id g))))),b0⟩:=by
 have e1:eV (aa hp) (.agg (gT s p I O V (.sl sz l (.live id g))))=true:=by rw[cj,EZ hl];simpa using h1
 have e2:eV (r + 1) (.agg (gT s p I O V (.sl sz l (.live id g))))=false:=by rw[cj,EZ hl];simp;omega
 have e3:Nat.ble (Nat.add 0 6) (aa cs)=true:=by rw[dE];simpa using h4
 have e4:min b0 r=b0:=Nat.min_eq_left h3;have e5:Nat.beq (aa (gT s p I O V (.sl sz l (.live id g)))) 6=true:=rfl
 have e6:List.all (gT s p I O V (.sl sz l (.live id g))) AV.one=true:=by
  simp only[List.all_cons,List.all_nil,iU,eO,eL,kP,Bool.and_self]
 simp only[eF,e1,e3,e5,e6,Bool.and_self,cond_true,i8,e2,cond_false,e4]
theorem Q2 {s:List Nat}{p:Nat}{I O V:List DeR}{sz id g base:Nat}{l:List AV}{hp:Heap}(hl:dK l=true)(hid:base≤id) :
  kf false base (.agg (gT s p I O V (.sl sz l (.live id g)))) ⟨hp,base⟩=.ret (.agg (gT s p I O V (.sl sz l .dead))) (bB base hp) base:=by
 have h1:gF (.agg (gT s p I O V (.sl sz l (.live id g))))=false:=by
  simp only[en,bJ,fJ,fQ,fN,cond_true];rfl
 have h2:Lin.low base (.live id g)=false:=by simp[Lin.low];omega
 have hs:=fun l=>(dq (deZ l) (fN l)).1 base hp
 have hw:=fun l=>(dq (deZ l) (fN l)).2 base
 have h3:AV.settle base hp (.agg (gT s p I O V (.sl sz l (.live id g))))=.agg (gT s p I O V (.sl sz l .dead)):=by
  simp[AV.settle,br,ep hl,h2,hs]
 have h4:AV.low base (.agg (gT s p I O V (.sl sz l .dead)))=true:=by
  simp[AV.low,aM,dG hl,Lin.low,hw]
 unfold kf;rw[h1,Bool.and_false];simp only[cond_false,xj,cR,if_true,h3,h4,Bool.false_eq_true,if_false,dw]
theorem keep29:CC.keep 18=false:=by kernel_rfl
section
variable {M:Memo}{ts:List TkR}{lin:Lin}{n:Nat}
theorem wW {k i j:Nat}{d:NdR}(h:oS ts k i=some (d,j)):∃ x0 x x3 x6 i3 i4 i5 i6,af ts i=some x0∧cW x0 [[110,111,100,101]]=true∧af ts (i + 1)=some x∧x.k=1∧iL ts k (i + 1 + 1)=some (d.ins,i3) ∧
  af ts i3=some x3∧cW x3 [[114,101,116,117,114,110,115]]=true∧iL ts k (i3 + 1)=some (d.outs,i4)∧th ts k i4=some (d.vars,i5)∧af ts i5=some x6∧cW x6 [[108,101,116]]=true∧rM ts k k (i5 + 1)=some (d.eqs,i6)∧d.eqs ≠ []∧j=i6 + 1∧d.s=x.t∧d.p=x.p:=by
 unfold oS at h;obtain ⟨x0,h0,h0w,h⟩:=bp h;obtain ⟨x,hx,hxk,h⟩:=cV h;cases hD:iL ts k (i + 1 + 1) with
 | none=>rw[hD] at h;cases h
 | some y =>
   obtain ⟨I,i3⟩:=y;rw[hD] at h;obtain ⟨x3,h3,h3w,h⟩:=bp h;cases hD2:iL ts k (i3 + 1) with
   | none=>rw[hD2] at h;cases h
   | some y =>
     obtain ⟨O,i4⟩:=y;rw[hD2] at h;simp only at h;cases hV:th ts k i4 with
     | none=>rw[hV] at h;cases h
     | some y =>
       obtain ⟨V,i5⟩:=y;rw[hV] at h;obtain ⟨x6,h6,h6w,h⟩:=bp h;cases hE:rM ts k k (i5 + 1) with
       | none=>rw[hE] at h;cases h
       | some y =>
         obtain ⟨E,i6⟩:=y;rw[hE] at h;cases E with
         | nil=>cases h
         | cons q E =>
           simp only[SJ,PJ] at h;obtain ⟨rfl,rfl⟩:=h;exact ⟨x0,x,x3,x6,i3,i4,i5,i6,h0,h0w,hx,hxk,by first | exact hD | rfl,h3,h3w,by first | exact hD2 | rfl,by first | exact hV | rfl,h6,h6w,by first | exact hE | rfl,by simp,rfl,rfl,rfl⟩
theorem tR (m:cq M)(hlen:ts.length≤90000){k i j:Nat}{d:NdR}(hk:k≤90000)(h:oS ts k i=some (d,j)):Runs M 18 [.ptr n 0] n (ts.map TkR.v) lin i d.v j:=by
 obtain ⟨x0,x,x3,x6,i3,i4,i5,i6,h0,h0w,hx,hxk,hD,h3,h3w,hD2,hV,h6,h6w,hE,hne,rfl,hs,hp⟩:=wW h;obtain ⟨s,p,I,O,V,E⟩:=d;simp only at hD hD2 hV hE hne hs hp;subst hs hp;obtain ⟨x7,h7,h7w⟩:=tA hE;refine Runs.of fun H hlt=>?_
 refine aH (z:=z18) (m _ _ rfl) (by kernel_rfl) rfl ?_
 have e0:(envOf [AV.ptr n 0] 0 env0).a.a.a=.ptr n 0:=rfl;generalize envOf [AV.ptr n 0] 0 env0=R0 at e0;have hlS:∀ c:AObj,aa (ai H n c)=aa H:=fun c=>ak _ _ _
 have W0:=cK (n:=n) (lin:=lin) m (aA h0) (bd hlen h0) h0w;have N:=gC (n:=n) (lin:=lin) m (aA hx) (bd hlen hx) hxk;have D1:=pW (n:=n) (lin:=lin) m hlen hk hD;have W3:=cK (n:=n) (lin:=lin) m (aA h3) (bd hlen h3) h3w;have D2:=pW (n:=n) (lin:=lin) m hlen hk hD2;have V1:=GV (n:=n) (lin:=lin) m hlen hk hV;have W6:=cK (n:=n) (lin:=lin) m (aA h6) (bd hlen h6) h6w
 obtain ⟨r0,tok,hr0,hpre⟩ : ∃ r tok,(r.a.a.a=.ptr n 0∧r.a.a.c=.ptr (aa H) 0∧r.a.a.e=.ptr (aa H + 2) 0) ∧
   z18.sh (orc CC M) R0 [] ⟨ai H n (aC (ts.map TkR.v) lin i),aa (ai H n (aC (ts.map TkR.v) lin i))⟩=dZ (ac (wm (orc CC M)) (ac (wc (orc CC M)) retZ)) (dD 0 (aw (lE (orc CC M)) 100000 r []
    ⟨ai H n (aC (ts.map TkR.v) lin (i5 + 1)) ++ [.cells [.str [],.int .i64 0,.nils,.nils,.nils,.nils],tok,.cells (gT x.t x.p I O V .nils)],aa H⟩)):=by
  simp only[z18,Lw,LE,Kr,Jf,IK,Kf,Ji,KM,SIM,ST0,ST1,e0,W0,N,D1,W3,D2,V1,W6,B26,DZS,eT,aI hlt,db hlt,aJ hlt,dX,EXS,a9,ba,Nat.reduceAdd,Nat.reduceLeDiff,TkR.v];exact ⟨_,_,⟨by first | rfl | exact e0,rfl,rfl⟩,rfl⟩
 rw[hpre,hlS]
 have I0:NoI H n (aC (ts.map TkR.v) lin (i5 + 1)) (gT x.t x.p I O V) [] (ai H n (aC (ts.map TkR.v) lin (i5 + 1)) ++ [.cells [.str [],.int .i64 0,.nils,.nils,.nils,.nils],tok,.cells (gT x.t x.p I O V .nils)]):=by
  refine ⟨⟨_,rfl⟩,?_,.nils,?_,.inl ⟨rfl,rfl⟩⟩
  ·rw[← hlS (aC (ts.map TkR.v) lin (i5 + 1)),au];rfl
  ·rw[← hlS (aC (ts.map TkR.v) lin (i5 + 1)),aR];rfl
 obtain ⟨r1,H1,hl1,I1,a0,a2,a4⟩:=FU (lin:=lin) (n:=n) m hlen hlt hk k [] (i5 + 1) E i6 hE (by simp;omega) 100000 (by omega) _ I0 r0 hr0
 rw[hl1];rw[List.nil_append] at I1;have W7:=fun l=>cK (n:=n) (lin:=lin) m (aA h7) (bd hlen h7) h7w l H1 (I1.cur hlt)
 obtain ⟨L,hL,hEI⟩:=I1.nd;obtain ⟨hE0,_⟩ | ⟨_,id,g,rfl,hid,hidb⟩:=hEI
 ·exact absurd hE0 hne
 have hmin:min (aa H) (aa H1)=aa H:=Nat.min_eq_left I1.len;have hrs:=I1.rs;have hL2:af (ai H1 n (aC (ts.map TkR.v) lin (i6 + 1))) (aa H + 2)=some (.cells (gT x.t x.p I O V (.sl 8 (E.map EqR.v) (.live id g)))):=by rw[ae (by omega),hL]
 have hrs2:af (ai H1 n (aC (ts.map TkR.v) lin (i6 + 1))) (aa H)=some (.cells [.str [],.int .i64 0,.nils,.nils,.nils,.nils]):=by rw[ae (by omega),hrs]
 have hst:=Ie (s:=x.t) (p:=x.p) (I:=I) (O:=O) (V:=V) (sz:=8) (l:=E.map EqR.v) (id:=id) (g:=g) (r:=aa H) (b0:=aa H) (cs:=[.str [],.int .i64 0,.nils,.nils,.nils,.nils]) (hp:=ai H1 n (aC (ts.map TkR.v) lin (i6 + 1))) (eq_noN E) (by rw[ak,aj];exact bm hid) (by omega) (Nat.le_refl _) (Nat.le_refl _)
 have hput:cm [.str [],.int .i64 0,.nils,.nils,.nils,.nils] 0 (gT x.t x.p I O V (.sl 8 (E.map EqR.v) (.live id g)))=gT x.t x.p I O V (.sl 8 (E.map EqR.v) (.live id g)):=rfl;rw[hput] at hst;have hH1:∀ c,af (ai (ai H1 n (aC (ts.map TkR.v) lin (i6 + 1))) (aa H) c) (aa H)=some c:=fun c=>aK hrs2 c
 have hpre4:bB (aa H) (ai (ai H1 n (aC (ts.map TkR.v) lin (i6 + 1))) (aa H) (.cells (gT x.t x.p I O V (.sl 8 (E.map EqR.v) (.live id g)))))=ai H n (aC (ts.map TkR.v) lin (i6 + 1)):=by
  obtain ⟨G,hG⟩:=I1.pre;rw[hG,aJ hlt,dH (by rw[aN,List.length_set,← aj];exact Nat.le_refl _),← hlS (aC (ts.map TkR.v) lin (i6 + 1)),cb]
 have hgc:=Q2 (s:=x.t) (p:=x.p) (I:=I) (O:=O) (V:=V) (sz:=8) (l:=E.map EqR.v) (id:=id) (g:=g) (base:=aa H) (hp:=ai (ai H1 n (aC (ts.map TkR.v) lin (i6 + 1))) (aa H) (.cells (gT x.t x.p I O V (.sl 8 (E.map EqR.v) (.live id g))))) (eq_noN E) (by omega)
 rw[hpre4] at hgc;simp only[wm,wc,SIM,ST0,a0,a2,a4,W7,B26,hmin,hL2,hrs2,hst,Nat.reduceAdd,Nat.reduceLeDiff];simp only[z18,SIM,ST0,a2,hH1,keep29,hgc,Nat.reduceAdd,Nat.reduceLeDiff]
end
noncomputable def mG (ts:List TkR)(k:Nat):Nat→Nat→Option (List NdR × Nat)
 | 0,_=>none
 | f + 1,i=>ji ts i fun x=>cond (Nat.beq x.k 5) (some ([],i)) (match oS ts k i with
   | some (q,j)=>match mG ts k f j with
     | some (l,j')=>some (q :: l,j')
     | none=>none
   | none=>none)
noncomputable def ou (ts:List TkR)(k:Nat):Option (List NdR):=match oS ts k 0 with
 | some (d,j)=>match mG ts k k j with
   | some (l,_)=>some (d :: l)
   | none=>none
 | none=>none
theorem JM (d:NdR):aP CC 24 1 [(0,d.v)]=some (.sl 6 [d.v] .lit):=by
 obtain ⟨s,p,I,O,V,E⟩:=d;show aP CC 24 1 [(0,.agg (gT s p I O V (pg E)))]=some (.sl 6 [.agg (gT s p I O V (pg E))] .lit);rw[gT];cases I <;> cases O <;> cases V <;> kernel_rfl
theorem M1 (d:NdR):[d.v].all (bg 6)=true:=by
 obtain ⟨s,p,I,O,V,E⟩:=d;cases I <;> cases O <;> cases V <;> rfl
theorem nd_noN:∀ l:List NdR,dK (l.map NdR.v)=true
 | []=>rfl
 | q :: l=>by
   rw[List.map_cons,bJ,nd_noN l];simp only[en,bJ,noNL_nil,gW,linN_dead,eq_noN,fN,fQ,fJ,cond_true]
theorem de_same:∀ l:List DeR,sameL (l.map DeR.v) (l.map DeR.v)=true
 | []=>by simp[sameL]
 | a :: l=>by rw[List.map_cons];simp[sameL,AV.same,de_same l]
theorem nG (l:List DeR):AV.same (deZ l) (deZ l)=true:=by
 cases l with
 | nil=>simp[deZ,AV.same]
 | cons a l=>show AV.same (.sl 6 ((a :: l).map DeR.v) .dead) (.sl 6 ((a :: l).map DeR.v) .dead)=true;simp only[AV.same,de_same];simp
theorem nd_same:∀ l:List NdR,sameL (l.map NdR.v) (l.map NdR.v)=true
 | []=>by simp[sameL]
 | q :: l=>by rw[List.map_cons];simp[sameL,AV.same,nG,eq_same,nd_same l]
theorem se33:∃ e,bK CC 24=some e∧e=46:=⟨_,by kernel_rfl,rfl⟩
theorem inf61' : (CC.P.info? 46).map (fun i=>(i.size,decide (0 < i.bytes∧i.bytes≤65536)))=some (6,true):=by kernel_rfl
theorem inf61:∃ i,CC.P.info? 46=some i∧i.size=6∧0 < i.bytes∧i.bytes≤65536:=by
 have h:=inf61';cases hi:CC.P.info? 46 with
 | none=>rw[hi] at h;cases h
 | some i =>
   rw[hi] at h;simp only[Option.map_some,SJ,PJ,decide_eq_true_eq] at h;exact ⟨i,rfl,h.1,h.2.1,h.2.2⟩
theorem zero61:cn CC 46=some (.agg [.str [],.int .i64 0,.nils,.nils,.nils,.nils]):=by kernel_rfl
theorem RP (f:Nat):CC.mutT f 24=false:=by
 show ((24:Nat) == 63 || (24:Nat) == 65)=false
 simp
theorem Aj (f:Nat)(d:NdR)(hp:Heap)(e:Nat):aq CC f 24 .nils (.sl 6 [d.v] .lit) ⟨hp,e⟩=some (.sl 6 [d.v] (.live (aa hp) 0),⟨hp ++ [.lin 0],e⟩):=by
 obtain ⟨i,h1,h2,h3,h4⟩:=inf61;obtain ⟨e',s1,rfl⟩:=se33
 have hne:¬ (i.size=0∨i.bytes=0∨(AV.agg [.str [],.int .i64 0,.nils,.nils,.nils,.nils]).cells.length ≠ i.size∨[d.v].all (bg i.size)=false∨2 ^ 16 < i.bytes):=by
  rw[h2,M1];simp[AV.cells];omega
 simp only[aq,s1,h1,zero61,aY,if_true,h2,List.isEmpty,RP,aj];rw[h2] at hne;rw[if_neg hne];simp
theorem wb (f:Nat){xs:List AV}(d:NdR){hp:Heap}{e id g:Nat}(hg:af hp id=some (.lin g))(hl:xs.length + 1≤2 ^ 24) :
  aq CC f 24 (.sl 6 xs (.live id g)) (.sl 6 [d.v] .lit) ⟨hp,e⟩=some (.sl 6 (xs ++ [d.v]) (.live id (g + 1)),⟨ai hp id (.lin (g + 1)),e⟩):=by
 obtain ⟨i,h1,h2,h3,h4⟩:=inf61;obtain ⟨e',s1,rfl⟩:=se33;rw[aD] at hg;have h5:decide (xs.length + [d.v].length≤2 ^ 24)=true:=by simp;omega
 have hne:¬ (i.size=0∨i.bytes=0∨(AV.agg [.str [],.int .i64 0,.nils,.nils,.nils,.nils]).cells.length ≠ i.size∨[d.v].all (bg i.size)=false∨2 ^ 16 < i.bytes):=by
  rw[h2,M1];simp[AV.cells];omega
 rw[h2] at hne;simp only[aq,s1,h1,zero61,aY,if_true,h2,h5,List.isEmpty,hg,aN];rw[if_neg hne];simp
noncomputable abbrev vt (H:Heap)(n oo:Nat)(c:AObj)(acc:List NdR)(g:Nat):Heap:=ai (ai H n c) oo (.cells [.sl 6 (acc.map NdR.v) (.live (aa H) g)]) ++ [.lin g]
theorem Sq {H:Heap}{n oo:Nat}{c:AObj}{acc:List NdR}{g:Nat}(hn:n < aa H)(hne:oo ≠ n):af (vt H n oo c acc g) n=some c :=
 ar (by rw[ae (Ne.symm hne)];exact db hn c) _
theorem QG {H:Heap}{n oo:Nat}{c:AObj}{acc:List NdR}{g:Nat}(ho:oo < aa H):af (vt H n oo c acc g) oo=some (.cells [.sl 6 (acc.map NdR.v) (.live (aa H) g)]) :=
 ar (db (by rw[ak];exact ho) _) _
theorem Ny {H:Heap}{n oo:Nat}{c:AObj}{acc:List NdR}{g:Nat}:af (vt H n oo c acc g) (aa H)=some (.lin g):=by
 have:=au (ai (ai H n c) oo (.cells [.sl 6 (acc.map NdR.v) (.live (aa H) g)])) [AObj.lin g];rw[ak,ak] at this;exact this
theorem Gj {H:Heap}{n oo:Nat}{c:AObj}{acc:List NdR}{g:Nat}:aa (vt H n oo c acc g)=aa H + 1:=by
 rw[az,ak,ak];rfl
theorem Oi {H:Heap}{n oo:Nat}{c c' Y Y' k k' : AObj}(hn:n < aa H)(ho:oo < aa H)(hne:oo ≠ n) :
  ai (ai (ai (ai (ai H n c) oo Y ++ [k]) n c') (aa H) k') oo Y'=ai (ai H n c') oo Y' ++ [k']:=by
 simp only[aj,aN] at *;have hl:((H.set n c).set oo Y).length=H.length:=by simp
 rw[List.set_append_left _ _ (by rw[hl];exact hn),List.set_append_right _ _ (by rw[List.length_set,hl];exact Nat.le_refl _),List.set_append_left _ _ (by rw[List.length_set,hl];exact ho)]
 rw[List.length_set,hl,Nat.sub_self];rw[List.set_comm _ _ hne,List.set_set,List.set_set];rfl
theorem Ik {H:Heap}{n oo:Nat}{c c' : AObj}{acc acc' : List NdR}{g g' : Nat}(hn:n < aa H)(ho:oo < aa H)(hne:oo ≠ n) :
 ai (ai (ai (vt H n oo c acc g) n c') (aa H) (.lin g')) oo (.cells [.sl 6 (acc'.map NdR.v) (.live (aa H) g')])=vt H n oo c' acc' g':=Oi hn ho hne
def TF (H:Heap)(n oo:Nat)(c:AObj)(all:List NdR)(X:IRes):Prop:=∃ r' g,X=some (.exit 0,r',[],⟨vt H n oo c all g,oo⟩)
section
variable {M:Memo}{ts:List TkR}{lin:Lin}{n:Nat}
theorem z4 (m:cq M)(hlen:ts.length≤90000){H:Heap}{oo:Nat}(hn:n < aa H)(ho:oo < aa H)(hne:oo ≠ n){k:Nat}(hk:k≤90000):∀ (f:Nat) (acc:List NdR) (i:Nat) (l:List NdR) (j:Nat),mG ts k f i=some (l,j)→acc.length + f≤100000→∀ (fu:Nat),f≤fu→∀ (g:Nat) (r:RG),
  (r.a.a.a=.ptr n 0∧r.a.a.b=.ptr oo 0) →
  TF H n oo (aC (ts.map TkR.v) lin j) (acc ++ l) (aw (uv (orc CC M)) fu r [] ⟨vt H n oo (aC (ts.map TkR.v) lin i) acc g,oo⟩):=by
 intro f
 induction f with
 | zero=>intro acc i l j h;cases h
 | succ f ih =>
   intro acc i l j h hak fu hfu g r ⟨h0,h1⟩;obtain ⟨fu',rfl⟩ : ∃ f,fu=f + 1:=⟨fu - 1,by omega⟩
   simp only[mG] at h;obtain ⟨x,hx,h⟩:=aU h;have gn:=Sq (n:=n) (oo:=oo) (c:=aC (ts.map TkR.v) lin i) (acc:=acc) (g:=g) hn hne;have goo:=QG (n:=n) (oo:=oo) (c:=aC (ts.map TkR.v) lin i) (acc:=acc) (g:=g) ho;have glin:=Ny (H:=H) (n:=n) (oo:=oo) (c:=aC (ts.map TkR.v) lin i) (acc:=acc) (g:=g);have gl:=Gj (H:=H) (n:=n) (oo:=oo) (c:=aC (ts.map TkR.v) lin i) (acc:=acc) (g:=g);have gnx:=fun c' acc' g'=>Ik (H:=H) (n:=n) (oo:=oo) (c:=aC (ts.map TkR.v) lin i) (acc:=acc) (g:=g) (c':=c') (acc':=acc') (g':=g') hn ho hne
   generalize hH:vt H n oo (aC (ts.map TkR.v) lin i) acc g=Hc at gn goo glin gl gnx ⊢;have P:=lw (n:=n) (lin:=lin) m (aA hx) Hc gn;have c5:decide ((x.k:Int)=5)=Nat.beq x.k 5:=vf x.k 5;have hm1:min oo (aa Hc)=oo:=Nat.min_eq_left (by omega)
   cases hk5:Nat.beq x.k 5 with
   | true =>
     rw[hk5] at h c5;simp only[cond_true,SJ,PJ] at h;obtain ⟨rfl,rfl⟩:=h;simp only[aw,uv,Em,SIM,ST0,ST1,h0,P,ev,jg,c5,hm1,Nat.reduceAdd,Nat.reduceLeDiff,TkR.v];rw[← hH];exact ⟨_,g,rfl⟩
   | false =>
     rw[hk5] at h c5;simp only[cond_false] at h;cases hq:oS ts k i with
     | none=>rw[hq] at h;cases h
     | some qj =>
       obtain ⟨q,j1⟩:=qj;rw[hq] at h;simp only at h;cases hl:mG ts k f j1 with
       | none=>rw[hl] at h;cases h
       | some lj =>
         obtain ⟨l',j'⟩:=lj;rw[hl] at h;simp only[SJ,PJ] at h;obtain ⟨rfl,rfl⟩:=h;have E:=tR (lin:=lin) (n:=n) m hlen hk hq Hc gn;have hoo1:af (ai Hc n (aC (ts.map TkR.v) lin j1)) oo=some (.cells [.sl 6 (acc.map NdR.v) (.live (aa H) g)]):=by rw[ae hne,goo]
         have hsm:AV.same (.sl 6 (acc.map NdR.v) (.live (aa H) g)) (.sl 6 (acc.map NdR.v) (.live (aa H) g))=true:=by simp[AV.same,nd_same]
         have glin1:af (ai Hc n (aC (ts.map TkR.v) lin j1)) (aa H)=some (.lin g):=by rw[ae (by omega),glin]
         have happ:=fun e=>wb 17 (xs:=acc.map NdR.v) q (e:=e) glin1 (by rw[List.length_map];omega)
         have hm:acc.map NdR.v ++ [q.v]=(acc ++ [q]).map NdR.v:=by simp
         rw[hm] at happ;have hoo2:af (ai (ai Hc n (aC (ts.map TkR.v) lin j1)) (aa H) (.lin (g + 1))) oo=some (.cells [.sl 6 (acc.map NdR.v) (.live (aa H) g)]):=by rw[ae (by omega),hoo1]
         have hst:eF 1 0 oo (.sl 6 ((acc ++ [q]).map NdR.v) (.live (aa H) (g + 1))) [.sl 6 ((acc ++ [q]).map NdR.v) (.live (aa H) (g + 1))] [.sl 6 (acc.map NdR.v) (.live (aa H) g)] ⟨ai (ai Hc n (aC (ts.map TkR.v) lin j1)) (aa H) (.lin (g + 1)),oo⟩=_ :=
          rK (nd_noN _) (by rw[ak,ak,gl];omega) (by omega)
         rw[gnx,Nat.min_self] at hst;have key:=ih (acc ++ [q]) j1 l' j' hl (by simp;omega) fu' (by omega) (g + 1)
         rw[List.append_assoc] at key;simp only[aw,uv,Em,Jo,SIM,ST0,ST1,h0,h1,P,ev,jg,c5,hm1,E,goo,hoo1,hoo2,hsm,JM,happ,hst,Nat.reduceAdd,Nat.reduceLeDiff,TkR.v];exact key _ ⟨by first | rfl | exact h0,by first | rfl | exact h1⟩
theorem qs {k:Nat}:∀ {f i:Nat} {l:List NdR} {j:Nat},mG ts k f i=some (l,j)→∃ x,af ts j=some x∧x.k=5
 | 0,_,_,_,h=>by cases h
 | f + 1,i,l,j,h=>by
   simp only[mG] at h;obtain ⟨x,hx,h⟩:=aU h;cases hw:Nat.beq x.k 5 with
   | true =>
     rw[hw] at h;simp only[cond_true,SJ,PJ] at h;obtain ⟨rfl,rfl⟩:=h;exact ⟨x,hx,Nat.eq_of_beq_eq_true hw⟩
   | false =>
     rw[hw] at h;simp only[cond_false] at h
     split at h
     ·split at h
      ·rename_i h2;simp only[SJ,PJ] at h;obtain ⟨rfl,rfl⟩:=h;exact qs h2
      ·cases h
     ·cases h
theorem wG {k:Nat}{l:List NdR}(h:ou ts k=some l):∃ d j l' j',oS ts k 0=some (d,j)∧mG ts k k j=some (l',j')∧l=d :: l':=by
 unfold ou at h
 split at h
 ·rename_i d j hd
  split at h
  ·rename_i l' j' hl;simp only[SJ] at h;exact ⟨d,j,l',j',hd,hl,h.symm⟩
  ·cases h
 ·cases h
theorem Bz (m:cq M)(hlen:ts.length≤90000){k:Nat}{l:List NdR}(hk:k≤90000)(h:ou ts k=some l):∃ j x,af ts j=some x∧x.k=5∧∀ (H:Heap) (oo:Nat),oo ≠ n→af H n=some (aC (ts.map TkR.v) lin 0)→af H oo=some (.cells [.nils]) →
  ∃ g,orc CC M 17 [.ptr n 0,.ptr oo 0] H=some (.ret Abs.undef (vt H n oo (aC (ts.map TkR.v) lin j) l g) oo):=by
 obtain ⟨d,j1,l',j,hd,hl,rfl⟩:=wG h;obtain ⟨x,hx,hx5⟩:=qs hl;refine ⟨j,x,hx,hx5,fun H oo hne hn ho=>?_⟩
 have hlt:n < aa H:=by rw[aj];exact bm hn
 have hlo:oo < aa H:=by rw[aj];exact bm ho
 have E:=tR (lin:=lin) (n:=n) m hlen hk hd H hn;have hoo1:af (ai H n (aC (ts.map TkR.v) lin j1)) oo=some (.cells [.nils]):=by rw[ae hne,ho]
 have happ:=fun e=>Aj 17 d (ai H n (aC (ts.map TkR.v) lin j1)) e
 simp only[ak] at happ;have hoo2:af (ai H n (aC (ts.map TkR.v) lin j1) ++ [.lin 0]) oo=some (.cells [.nils]):=ar hoo1 _
 have hst:eF 1 0 oo (.sl 6 [d.v] (.live (aa H) 0)) [.sl 6 [d.v] (.live (aa H) 0)] [.nils] ⟨ai H n (aC (ts.map TkR.v) lin j1) ++ [.lin 0],aa H⟩=_ :=
  rK (nd_noN [d]) (by rw[az,ak,show aa [AObj.lin 0]=1 from rfl];omega) (by omega)
 rw[bR hoo1,Nat.min_eq_right (by omega:oo≤aa H)] at hst
 obtain ⟨r0,hr0,hpre⟩ : ∃ r,(r.a.a.a=.ptr n 0∧r.a.a.b=.ptr oo 0)∧z17.sh (orc CC M) (envOf [.ptr n 0,.ptr oo 0] 0 env0) [] ⟨H,aa H⟩=dD 0 (aw (uv (orc CC M)) 100000 r [] ⟨vt H n oo (aC (ts.map TkR.v) lin j1) [d] 0,oo⟩):=by
  have e0:(envOf [AV.ptr n 0,.ptr oo 0] 0 env0).a.a.a=.ptr n 0:=rfl;have e1:(envOf [AV.ptr n 0,.ptr oo 0] 0 env0).a.a.b=.ptr oo 0:=rfl;generalize envOf [AV.ptr n 0,.ptr oo 0] 0 env0=R at e0 e1;simp only[z17,Mv,SIM,ST0,e0,e1,E,ho,hoo1,hoo2,same_nils,JM,happ,hst,Nat.min_self,Nat.reduceAdd,Nat.reduceLeDiff];exact ⟨_,⟨by first | rfl | exact e0,by first | rfl | exact e1⟩,rfl⟩
 obtain ⟨r',g,h1⟩:=z4 (lin:=lin) (n:=n) m hlen (H:=H) (oo:=oo) hlt hlo hne hk k [d] j1 l' j hl (by simp;omega) 100000 (by omega) 0 r0 hr0
 refine ⟨g,aH (z:=z17) (m _ _ rfl) (by kernel_rfl) rfl ?_⟩
 rw[hpre,h1];have hgc:=fun hp=>dU (keep:=CC.keep 17) (base:=aa H) (e:=oo) (v:=Abs.undef) (hp:=hp) (by omega)
 simp only[z17,SIM,ST0,hgc,List.cons_append,List.nil_append,Nat.reduceAdd,Nat.reduceLeDiff]
end
theorem Sn (l:List AV)(q:Lin):ao CC 54 [(0,.sl 4 l q)]=some (.agg [.sl 4 l q,.int .i64 0]):=by kernel_rfl
theorem Qr (l:List AV)(q:Lin):ao CC 56 [(0,.agg [.sl 4 l q,.int .i64 0])]=some (.agg [.sl 4 l q,.int .i64 0]):=by kernel_rfl
theorem Ng (ts:List TkR)(L:Nat):AV.low L (.agg [.sl 4 (ts.map TkR.v) .dead,.int .i64 0])=true:=by
 simp[AV.low,aM,dG (t3 ts),Lin.low]
theorem Nn (ts:List TkR)(L:Nat):eW (.agg [.sl 4 (ts.map TkR.v) .dead,.int .i64 0]) L=some (aC (ts.map TkR.v) .dead 0,(.ptr · 0)):=by
 have h2:(AV.cells (.agg [.sl 4 (ts.map TkR.v) .dead,.int .i64 0])).all AV.one=true:=rfl;unfold eW;rw[if_pos ⟨h2,Ng ts L⟩];rfl
theorem RD (oo L:Nat)(h:oo < L):eW (.func (.func 17) [] [.ptr oo 0]) L=some (.cells [.func (.func 17) [] [.ptr oo 0]],(.ptr · 0)):=by
 have h1:(AV.func (.func 17) [] [.ptr oo 0]).cells.all AV.one=true:=rfl;have h2:AV.low L (.func (.func 17) [] [.ptr oo 0])=true:=by simp[AV.low,aM,h]
 unfold eW;rw[if_pos ⟨h1,h2⟩];rfl
theorem Oq (a b:AV)(s:St):ea CC 17 [a,b] s=some (.call 17 [a,b]):=by kernel_rfl
theorem OW (a b c:AV)(s:St):ea CC 26 [a,b,c] s=some (.call 26 [a,b,c]):=by kernel_rfl
section
variable {M:Memo}{ts:List TkR}{n:Nat}
theorem Qh (m:cq M)(hlen:ts.length≤90000){k:Nat}{l:List NdR}(hk:k≤90000)(h:ou ts k=some l):∃ j,∀ (H:Heap) (oo fo dob pb:Nat),oo ≠ n→af H n=some (aC (ts.map TkR.v) .dead 0)→af H oo=some (.cells [.nils])→af H dob=some (.cells [.func (.func 17) [] [.ptr oo 0]])→af H pb=some (.cells [.ptr n 0])→pb ≠ n→pb ≠ oo →
  ∃ g,orc CC M 26 [.ptr fo 0,.ptr dob 0,.ptr pb 0] H=some (.ret Abs.undef (vt H n oo (aC (ts.map TkR.v) .dead j) l g) oo):=by
 obtain ⟨j,x,hx,hx5,hP⟩:=Bz (lin:=.dead) (n:=n) m hlen hk h;refine ⟨j,fun H oo fo dob pb hne hn ho hd hp hpn hpo=>?_⟩
 obtain ⟨g,hP⟩:=hP H oo hne hn ho;refine ⟨g,aH (z:=z26) (m _ _ rfl) (by kernel_rfl) rfl ?_⟩
 have e0:(envOf [AV.ptr fo 0,.ptr dob 0,.ptr pb 0] 0 env0).a.a.a=.ptr fo 0:=rfl;have e1:(envOf [AV.ptr fo 0,.ptr dob 0,.ptr pb 0] 0 env0).a.a.b=.ptr dob 0:=rfl;have e2:(envOf [AV.ptr fo 0,.ptr dob 0,.ptr pb 0] 0 env0).a.a.c=.ptr pb 0:=rfl;generalize envOf [AV.ptr fo 0,.ptr dob 0,.ptr pb 0] 0 env0=R at e0 e1 e2;have hlt:n < aa H:=by rw[aj];exact bm hn
 have hlo:oo < aa H:=by rw[aj];exact bm ho
 have hm:min (aa H) oo=oo:=Nat.min_eq_right (by omega)
 have gn:=Sq (n:=n) (oo:=oo) (c:=aC (ts.map TkR.v) .dead j) (acc:=l) (g:=g) hlt hne;have gp:af (vt H n oo (aC (ts.map TkR.v) .dead j) l g) pb=some (.cells [.ptr n 0]):=ar (by rw[ae hpo,ae hpn,hp]) _
 have gl:=Gj (H:=H) (n:=n) (oo:=oo) (c:=aC (ts.map TkR.v) .dead j) (acc:=l) (g:=g);generalize vt H n oo (aC (ts.map TkR.v) .dead j) l g=Hc at *;have P:=lw (n:=n) (lin:=.dead) m (aA hx) Hc gn;have c5:decide ((x.k:Int)=5)=true:=by rw[hx5];rfl
 have hm2:min oo (aa Hc)=oo:=Nat.min_eq_left (by omega)
 have hgc:=fun hp=>dU (keep:=CC.keep 26) (base:=aa H) (e:=oo) (v:=Abs.undef) (hp:=hp) (by omega)
 obtain ⟨r',hpre⟩ : ∃ r',z26.sh (orc CC M) R [] ⟨H,aa H⟩=some (.normal,r',[(27,[.ptr fo 0])],⟨Hc,oo⟩):=by
  simp only[z26,MF,IJ,MM,SIM,ST0,e0,e1,e2,hd,hp,Oq,hP,hm,gp,P,ev,jg,c5,hm2,Nat.reduceAdd,Nat.reduceLeDiff,TkR.v];exact ⟨_,rfl⟩
 rw[hpre];show tI CC 26 (aa H) [] r' [(27,[.ptr fo 0])] ⟨Hc,oo⟩=_;have hct:(CC.catcher 27).isSome=true:=by kernel_rfl
 unfold tI;simp only[List.all_cons,List.all_nil,hct,Bool.and_self,List.length_cons,List.length_nil];rw[show Nat.ble (0 + 1) 1=true from rfl]
 simp only[Bool.and_self,cond_true];exact congrArg some (hgc Hc)
end
abbrev cz0:AObj:=.cells [.int .i64 0,.int .i64 0]
theorem aO {α:Type}(a:α)(l:List α):aa (a :: l)=aa l + 1:=by simp[aj]
theorem bj {α:Type}:aa ([]:List α)=0:=rfl
theorem oJ {a r b:Nat}{cs:List AV}{hp:Heap}(h1:a < aa hp)(h2:a≤r)(h4:1≤aa cs) :
  eF 1 0 r (.ptr a 0) [.ptr a 0] cs ⟨hp,b⟩=some ⟨ai hp r (.cells (cm cs 0 [.ptr a 0])),b⟩:=by
 have e1:eV (aa hp) (.ptr a 0)=true:=by rw[cj];simp[AV.low,h1]
 have e2:eV (r + 1) (.ptr a 0)=true:=by rw[cj];simp[AV.low];omega
 have e3:Nat.ble (Nat.add 0 1) (aa cs)=true:=by rw[dE];simpa using h4
 have e5:Nat.beq (aa [AV.ptr a 0]) 1=true:=rfl;have e6:List.all [AV.ptr a 0] AV.one=true:=rfl;simp only[eF,e1,e3,e5,e6,Bool.and_self,cond_true,i8,e2]
section
variable {M:Memo}{ts:List TkR}
theorem QJ (m:cq M)(hlen:ts.length≤90000){k:Nat}{l:List NdR}(hk:k≤90000)(h:ou ts k=some l){s:List Nat}
  (L:∀ H,orc CC M 25 [.str s] H=some (.ret (.tuple [.sl 4 (ts.map TkR.v) .dead,.agg [.int .i64 0,.int .i64 0]]) H (aa H))) (H:Heap) :
  ∃ j g,orc CC M 16 [.str s,.func (.func 17) [] [.ptr (aa H + 1) 0]] (H ++ [cz0,.cells [.nils]]) =
    some (.ret (.agg [.int .i64 0,.int .i64 0]) (H ++ [cz0,.cells [.sl 6 (l.map NdR.v) (.live (aa H + 7) g)],.cells [.func (.func 17) [] [.ptr (aa H + 1) 0]],cz0,cz0,aC (ts.map TkR.v) .dead j,.cells [.ptr (aa H + 5) 0],.lin g]) (aa H + 1)):=by
 obtain ⟨j,hR⟩:=Qh (n:=aa H + 5) m hlen hk h;have hl2:aa (H ++ [cz0,.cells [.nils]])=aa H + 2:=by rw[aj,aj,List.length_append];rfl
 have hl2' : (H ++ [cz0,.cells [.nils]]).length=aa H + 2:=by rw[← aj,hl2]
 obtain ⟨g,hR⟩:=hR (H ++ [cz0,.cells [.nils],.cells [.func (.func 17) [] [.ptr (aa H + 1) 0]],cz0,cz0,aC (ts.map TkR.v) .dead 0,.cells [.ptr (aa H + 5) 0]]) (aa H + 1) (aa H + 4) (aa H + 2) (aa H + 6) (by omega) (by rw[aR];rfl) (by rw[aR];rfl) (by rw[aR];rfl) (by rw[aR];rfl) (by omega) (by omega)
 have hl7:aa (H ++ [cz0,.cells [.nils],.cells [.func (.func 17) [] [.ptr (aa H + 1) 0]],cz0,cz0,aC (ts.map TkR.v) .dead 0,.cells [.ptr (aa H + 5) 0]])=aa H + 7:=by rw[aj,aj,List.length_append];rfl
 have hpg:vt (H ++ [cz0,.cells [.nils],.cells [.func (.func 17) [] [.ptr (aa H + 1) 0]],cz0,cz0,aC (ts.map TkR.v) .dead 0,.cells [.ptr (aa H + 5) 0]]) (aa H + 5) (aa H + 1) (aC (ts.map TkR.v) .dead j) l g =
   H ++ [cz0,.cells [.sl 6 (l.map NdR.v) (.live (aa H + 7) g)],.cells [.func (.func 17) [] [.ptr (aa H + 1) 0]],cz0,cz0,aC (ts.map TkR.v) .dead j,.cells [.ptr (aa H + 5) 0],.lin g]:=by
  unfold vt;rw[hl7,eN,eN,List.append_assoc];rfl
 rw[hpg] at hR;refine ⟨j,g,aH (z:=z16) (m _ _ rfl) (by kernel_rfl) rfl ?_⟩
 have e0:(envOf [AV.str s,.func (.func 17) [] [.ptr (aa H + 1) 0]] 0 env0).a.a.a=.str s:=rfl;have e1:(envOf [AV.str s,.func (.func 17) [] [.ptr (aa H + 1) 0]] 0 env0).a.a.b=.func (.func 17) [] [.ptr (aa H + 1) 0]:=rfl;generalize envOf [AV.str s,.func (.func 17) [] [.ptr (aa H + 1) 0]] 0 env0=R at e0 e1;have hbf:=RD (aa H + 1) (aa H + 2) (by omega)
 have hbc:=Nn ts;have hsp:=fun G b=>oJ (a:=aa H + 5) (r:=aa H + 6) (b:=b) (cs:=[.nilp]) (hp:=H ++ [cz0,.cells [.nils],.cells [.func (.func 17) [] [.ptr (aa H + 1) 0]],cz0,cz0,aC (ts.map TkR.v) .dead 0,.cells [.nilp]] ++ G) (by rw[az,az];simp only[aO,bj];omega) (by omega) (by decide)
 have hsp0:=fun b=>hsp [] b
 simp only[List.append_nil] at hsp0;have hm0:min (aa H + 2) (aa H + 4)=aa H + 2:=Nat.min_eq_left (by omega)
 have hgc:=fun hp=>dU (keep:=CC.keep 16) (base:=aa H + 2) (e:=aa H + 1) (v:=.agg [.int .i64 0,.int .i64 0]) (hp:=hp) (by omega)
 have hm:min (aa H + 2) (aa H + 1)=aa H + 1:=Nat.min_eq_right (by omega)
 have hs6:∀ (a b c d e f g v:AObj),ai [a,b,c,d,e,f,g] 6 v=[a,b,c,d,e,f,v]:=fun _ _ _ _ _ _ _ _=>rfl
 rw[hl2];simp only[z16,JW,LH,I7,Jw,MK,K6,SIM,ST0,ST1,e0,e1,hl2,hl2',hbf,L,Sn,Qr,hbc,hsp0,OW,hR,hm,hm0,hs6,EXS,a9,ba,hgc,List.append_assoc,List.cons_append,List.nil_append,Nat.reduceAdd,Nat.reduceLeDiff]
theorem Sf (m:cq M)(hM:M 8=fun _=>none)(hlen:ts.length≤90000){k:Nat}{l:List NdR}(hk:k≤90000)(h:ou ts k=some l){s:List Nat}
  (L:∀ H,orc CC M 25 [.str s] H=some (.ret (.tuple [.sl 4 (ts.map TkR.v) .dead,.agg [.int .i64 0,.int .i64 0]]) H (aa H))) (H:Heap) :
  orc CC M 8 [.str s] H=some (.ret (.tuple [.sl 6 (l.map NdR.v) .dead,.agg [.int .i64 0,.int .i64 0]]) H (aa H)):=by
 obtain ⟨j,g,hR⟩:=QJ m hlen hk h L H;refine aH (z:=z8) (by rw[hM]) (by kernel_rfl) rfl ?_
 have e0:(envOf [AV.str s] 0 env0).a.a.a=.str s:=rfl;generalize envOf [AV.str s] 0 env0=R at e0;have hm:min (aa H) (aa H + 1)=aa H:=Nat.min_eq_left (by omega)
 have hgc:=fun hp=>yF (sz:=6) (l:=l.map NdR.v) (fs:=[.int .i64 0,.int .i64 0]) (id:=aa H + 7) (g:=g) (base:=aa H) (hp:=hp) (nd_noN l) rfl (by omega)
 have hk14:CC.keep 8=false:=by kernel_rfl
 have g8:∀ (a b c d e f g h i:AObj),af [a,b,c,d,e,f,g,h,i] 8=some i:=fun _ _ _ _ _ _ _ _ _=>rfl
 have s8:∀ (a b c d e f g h i v:AObj),ai [a,b,c,d,e,f,g,h,i] 8 v=[a,b,c,d,e,f,g,h,v]:=fun _ _ _ _ _ _ _ _ _ _=>rfl
 simp only[z8,So,PZ,QY,Qj,Sp,SIM,ST0,ST1,e0,hR,hm,hk14,hgc,g8,s8,EXS,a9,ba,Nat.reduceAdd,Nat.reduceLeDiff]
end
def wordsS:List (List Nat):=[[110,111,100,101],[114,101,116,117,114,110,115],[118,97,114],[108,101,116],[116,101,108],[105,110,116],[98,111,111,108],[102,117,116,117,114,101],[119,104,101,110],[110,111,116],[97,110,100],[111,114],[120,111,114],[105,102],[116,104,101,110],[101,108,115,101],[112,114,101],[102,98,121],[109,101,114,103,101],[97,115,121,110,99],[97,119,97,105,116],[97,102,116,101,114],[116,114,117,101],[102,97,108,115,101],[109,111,100]]
def signsS:List (List Nat):=[[60,62],[60,61],[62,61],[45,62],[40],[41],[44],[59],[58],[61],[60],[62],[43],[45],[42],[47]]
theorem lx1:LexM (memoL memo1) (wordsS.map .str) (signsS.map .str):={ m72:=fun _=>rfl,m73:=fun _=>rfl,m104:=fun _=>rfl,m105:=fun _=>rfl,m106:=fun _=>rfl,m107:=fun _=>rfl,m108:=fun _=>rfl,m109:=fun _=>rfl,m110:=fun _=>rfl,m140:=fun _=>rfl,m141:=fun _=>rfl,m142:=fun _=>rfl,m143:=fun _=>rfl,m144:=fun _=>rfl,w:=rfl,wl:=by decide,s:=rfl,sl:=by decide }
theorem pm1:cq (memoL memo1):=parM_of (by decide)
def blV:List Nat→Option Nat
 | []=>some 0
 | b :: r=>cond (tX b) (match blV r with
   | some n=>some (n + 1)
   | none=>none) (cond (isPre [45,45] (b :: r)) none (some 0))
theorem blV_ok:∀ (t:List Nat) (n:Nat),blV t=some n→∀ k,t.length≤k→blS k t=n
 | [],n,h,k,hk=>by
   simp only[blV,SJ] at h;subst h;cases k <;> rfl
 | b :: r,n,h,k,hk=>by
   obtain ⟨k,rfl⟩ : ∃ q,k=q + 1:=⟨k - 1,by simp at hk;omega⟩
   simp only[blV] at h;simp only[blS];cases hb:tX b with
   | true =>
     rw[hb] at h;simp only[cond_true] at h ⊢;cases hr:blV r with
     | none=>rw[hr] at h;cases h
     | some m =>
       rw[hr] at h;simp only[SJ] at h;rw[blV_ok r m hr k (by simp at hk;omega)]
       omega
   | false =>
     rw[hb] at h;simp only[cond_false] at h ⊢;cases hp:isPre [45,45] (b :: r) with
     | true=>rw[hp] at h;cases h
     | false =>
       rw[hp] at h;simp only[cond_false,SJ] at h ⊢;exact h
def sI (ws sg:List (List Nat))(j:Nat):List Nat→TkR
 | []=>⟨5,j,[],0,0,j⟩
 | b :: r=>cond (HX b) (Ss ws j ((b :: r).takeWhile jY)) (cond (isD b) (Sx j ((b :: r).takeWhile isD)) (Sz j (rL (b :: r) sg)))
theorem CH (ws sg:List (List Nat))(s:List Nat)(j:Nat):jQ ws sg s j=sI ws sg j (s.drop j):=by
 unfold jQ sI;cases s.drop j <;> rfl
def Eh (ws sg:List (List Nat)):Nat→List Nat→Nat→Option (List TkR)
 | 0,_,_=>none
 | k + 1,t,j=>match blV t with
   | none=>none
   | some n=>match blV (t.drop n) with
     | none=>none
     | some m=>cond (Nat.beq m 0) (match sI ws sg (j + n) (t.drop n) with
       | x=>cond (Nat.beq x.err 0) (cond (Nat.beq x.k 5) (some [x]) (cond (Nat.ble j x.pos) (match Eh ws sg k (t.drop (x.pos - j)) x.pos with
         | some l=>some (x :: l)
         | none=>none) none)) none) none
theorem yc {ws sg:List (List Nat)}{s:List Nat}:∀ (k j:Nat) (l:List TkR),Eh ws sg k (s.drop j) j=some l→uF ws sg s k j=some (.ok l)
 | 0,j,l,h=>by cases h
 | k + 1,j,l,h=>by
   simp only[Eh] at h;cases h1:blV (s.drop j) with
   | none=>rw[h1] at h;cases h
   | some n =>
     rw[h1] at h;simp only at h;cases h2:blV ((s.drop j).drop n) with
     | none=>rw[h2] at h;cases h
     | some m =>
       rw[h2] at h;simp only at h;obtain ⟨hm,h3⟩:=aS h
       clear h
       have hm0:=Nat.eq_of_beq_eq_true hm;rw[hm0] at h2;obtain ⟨he,h⟩:=aS h3
       clear h3
       have e1:sj s j=j + n:=by
        unfold sj;rw[blV_ok _ _ h1 _ (by rw[List.length_drop];exact Nat.le_refl _)]
       have e2:sj s (j + n)=j + n:=by
        unfold sj;rw[List.drop_drop] at h2;rw[blV_ok _ _ h2 _ (by rw[List.length_drop];exact Nat.le_refl _)]
        rfl
       rw[List.drop_drop] at h he;simp only[uF,e1,e2,CH];rw[he];simp only[cond_true];cases h5:Nat.beq (sI ws sg (j + n) (s.drop (j + n))).k 5 with
       | true =>
         rw[h5] at h;simp only[cond_true,SJ] at h ⊢;rw[h]
       | false =>
         rw[h5] at h;simp only[cond_false] at h ⊢;obtain ⟨hp,h⟩:=aS h;rw[dE,decide_eq_true_eq] at hp;generalize sI ws sg (j + n) (s.drop (j + n))=x at h hp ⊢;cases h6:Eh ws sg k ((s.drop j).drop (x.pos - j)) x.pos with
         | none=>rw[h6] at h;cases h
         | some l' =>
           rw[h6] at h;simp only[SJ] at h;rw[List.drop_drop,show j + (x.pos - j)=x.pos by omega] at h6
           rw[yc k x.pos l' h6];simp only[h]
noncomputable def dL (s:List Nat):Option (List NdR):=match Eh wordsS signsS 4100 s 0 with
 | some ts=>cond (Nat.ble (aa ts) 90000) (ou ts 500) none
 | none=>none
noncomputable def sE (s:List Nat):Bool:=Nat.ble (aa s) 4000 && s.all fun b=>Nat.ble b 255
abbrev pV (l:List NdR):AV:=.tuple [.sl 6 (l.map NdR.v) .dead,.agg [.int .i64 0,.int .i64 0]]
theorem vH {s:List Nat}{l:List NdR}(hs:sE s=true)(h:dL s=some l)(H:Heap):orc CC (memoL memo1) 8 [.str s] H=some (.ret (pV l) H (aa H)):=by
 unfold sE at hs;rw[Bool.and_eq_true,dE,decide_eq_true_eq,List.all_eq_true] at hs;unfold dL at h
 split at h
 ·rename_i ts hl;obtain ⟨h1,h2⟩:=aS h;rw[dE,decide_eq_true_eq,aj] at h1;rw[aj] at hs;refine Sf pm1 (by funext a;rfl) h1 (k:=500) (by omega) h2 (fun H=>?_) H
  have:=OB lx1 (s:=s) rfl hs.1 (fun b hb=>by have:=hs.2 b hb;rw[dE,decide_eq_true_eq] at this;omega) (k:=4100) (by omega) (yc 4100 0 ts hl) H
  simpa only[allV,List.nil_append] using this
 ·cases h
theorem OK (l:List NdR):(pV l).low 0=true:=by
 have:=dG (nd_noN l) 0;simp[AV.low,aM,this,Lin.low]
theorem j4 {L:List (FuncId × List AV × AV)}(hL:eP CC (memoL L)){s:List Nat}{l:List NdR}(hs:sE s=true)(h:dL s=some l):eP CC (memoL ((8,[.str s],pV l) :: L)) :=
 jy cc_goodF cc_scal hL memo1_ok rfl (OK l) (vH hs h [])
end Go.Proofs
