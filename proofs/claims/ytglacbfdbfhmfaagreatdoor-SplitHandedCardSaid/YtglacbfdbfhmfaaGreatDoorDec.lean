/- declarations, equations, nodes, a whole text. Part of the proof of girandolelaw12.SplitHanded. -/
import Derived.Test.YtglacbfdbfhmfaaGreatDoorPar
import Derived.Test.YtglacbfdbfhmfaaGreatDoorMemo
set_option linter.unusedVariables false
set_option linter.unusedSimpArgs false
set_option maxRecDepth 1000000
namespace Go.Proofs
open Go Go.Abs
mutual
def sizeE:Ex->Nat
 | .mk _ _ _ _ _ kids=>sizeL kids+1
def sizeL:List Ex->Nat
 | []=>0
 | a::l=>sizeE a+sizeL l
end
theorem i4 (e:Ex):sizeE e=sizeL e.kids+1:=by cases e;simp[sizeE,Ex.kids]
theorem jb {a:Ex}:∀ {l:List Ex},a∈l->sizeE a<=sizeL l
 | [],h=>by cases h
 | b::l,h=>by
   simp only[sizeL]
   rcases List.mem_cons.1 h with rfl|h
   ·omega
   ·have:=jb h;omega
theorem sizeL_len:∀ l:List Ex,l.length<=sizeL l
 | []=>by simp[sizeL]
 | b::l=>by
   have:=sizeL_len l;have h2:=i4 b;simp only[sizeL,List.length_cons];omega
theorem cc121:∃ e,CC.P.underlying 121=some (.slice e)/\e=123:=⟨_,by kernel_rfl,rfl⟩
def DpE (H:Heap)(b n:Nat)(X:IRes):Prop:=∃ r' L,X=some (.exit 0,r',[],⟨H++L,b⟩)/\r'.a.a.d=.int .i64 (n:Int)
theorem DpE.up {H K:Heap}{b n:Nat}{X:IRes}(h:DpE (H++K) b n X):DpE H b n X:=by
 obtain ⟨r',L,h1,h2⟩:=h;exact ⟨r',K++L,by rw[<-List.append_assoc];exact h1,h2⟩
section
variable {M:Memo}
end
structure DeR where
 s:List Nat
 p:Nat
 b:Bool
 f:Bool
 c:List Nat
 o:Bool
abbrev DeR.l (d:DeR):List AV:=[.str d.s,.int .i64 (d.p:Int),.bool d.b,.bool d.f,.str d.c,.bool d.o]
abbrev DeR.v (d:DeR):AV:=.agg d.l
def tW:List (List Nat):=[[105,110,116],[98,111,111,108]]
section
variable {M:Memo}{ts:List TkR}{lin:Lin}{n:Nat}
def deZ:List DeR->AV
 | []=>.nils
 | l=>.sl 6 (l.map DeR.v) .dead
end
theorem af {α:Type}{l:List α}{n k:Nat}(h:k≠n)(v:α):ae (am l n v) k=ae l k:=by
 rw[aB,aB,aR,List.getElem?_set_ne (Ne.symm h)]
theorem gn {α:Type}{P L:List α}{id:Nat}(h:P.length<=id)(v:α):am (P++L) id v=P++am L (id-P.length) v:=by
 rw[aR,aR,List.set_append_right _ _ h]
section
variable {M:Memo}{ts:List TkR}{lin:Lin}{n:Nat}
theorem de_noN:∀ l:List DeR,dp (l.map DeR.v)=true
 | []=>rfl
 | a::l=>by rw[List.map_cons,br,de_noN l];rfl
end
theorem eH (a b c:CZ):ac (ac a b) c=ac a (ac b c):=by
 funext r ds s
 simp only[ac];cases a r ds s with
 | none=>rfl
 | some x=>obtain ⟨e,r1,ds1,s1⟩:=x;cases e<;>rfl
theorem rp (ag:Option Nat)(off:Nat)(cs:List AV):mr ag off (.agg cs)=eP ag cs off:=rfl
noncomputable section
end
section
variable {M:Memo}{ts:List TkR}{lin:Lin}{n:Nat}
end
abbrev BJ (x:List Nat×Nat):AV:=.agg [.str x.1,.int .i64 (x.2:Int)]
section
variable {M:Memo}{ts:List TkR}{lin:Lin}{n:Nat}
theorem zT {sz id g b r:Nat}{l R:List AV}{a:AV}{hp:Heap}(hl:dp l=true)(h1:id<aa hp)(h2:r+1<=id) :
  eM 1 0 r (.sl sz l (.live id g)) [.sl sz l (.live id g)] (a::R) ⟨hp,b⟩=some ⟨am hp r (.cells (.sl sz l (.live id g)::R)),min b r⟩:=by
 have e1:eK (aa hp) (.sl sz l (.live id g))=true:=by rw[bY,sI hl];simpa using h1
 have e2:eK (r+1) (.sl sz l (.live id g))=false:=by rw[bY,sI hl];simp;omega
 have e3:Nat.ble (Nat.add 0 1) (aa (a::R))=true:=by rw[dW,ai];simp
 have e5:Nat.beq (aa [AV.sl sz l (.live id g)]) 1=true:=rfl;have e6:List.all [AV.sl sz l (.live id g)] AV.one=true:=rfl;simp only[eM,e1,e3,e5,e6,Bool.and_self,cond_true,gV,e2,cond_false];rfl
theorem dL {keep:Bool}{base e:Nat}{v:AV}{hp:Heap}(h:e≠base):lH keep base v ⟨hp,e⟩=.ret v hp e:=by
 have h1:Nat.beq e base=false:=by rw[f9];simpa using h
 simp only[lH,h1,Bool.false_and,cond_false,Ie,dm,if_neg h]
theorem le_noN:∀ l:List (List Nat×Nat),dp (l.map BJ)=true
 | []=>rfl
 | a::l=>by rw[List.map_cons,br,le_noN l];rfl
end
noncomputable section
end
structure LeI (H:Heap)(n:Nat)(c:AObj)(bx qo:Nat)(R:List AV)(L:AV)(Hc:Heap):Prop where
 pre:∃ G,Hc=am H n c++G
 hb:ae Hc bx=some (.cells [.ptr n 0])
 hq:ae Hc qo=some (.cells (L::R))
 bl:H.length<=bx
 ql:H.length<=qo
 qx:qo=bx+2
 li:∀ es id g,L=.sl 2 es (.live id g)->id<aa Hc
 rs:∃ cs,ae Hc (bx+1)=some (.cells cs)/\8<=aa cs
section
variable {M:Memo}{ts:List TkR}{lin:Lin}{n:Nat}
theorem LeI.cur {H:Heap}{c:AObj}{bx qo:Nat}{R:List AV}{L:AV}{Hc:Heap}(h:LeI H n c bx qo R L Hc)(hn:n<H.length):ae Hc n=some c:=by
 obtain ⟨G,rfl⟩:=h.pre;exact se (by rw[ai];exact hn) _ _
theorem LeI.next {H Hc K K' : Heap}{c c' : AObj}{bx qo:Nat}{R:List AV}{L L' : AV}(hn:n<H.length)(hL:L ≠ .ptr n 0)(I:LeI H n c bx qo R L Hc)(hli:∀ es id g,L'=.sl 2 es (.live id g)->id<aa (am (am (Hc++K) n c') qo (.cells (L'::R))++K')):LeI H n c' bx qo R L' (am (am (Hc++K) n c') qo (.cells (L'::R))++K'):=by
 have hne:bx≠qo:=by
  intro h;have h1:=I.hb;rw[h,I.hq] at h1;simp only[SJ,AObj.cells.injEq,List.cons.injEq] at h1;exact hL h1.1
 have hb:=I.bl;have hq:=I.ql;have hx:=I.qx;obtain ⟨cs,hcs,hcl⟩:=I.rs;refine ⟨?_,?_,?_,I.bl,I.ql,I.qx,hli,cs,?_,hcl⟩
 ·obtain ⟨G,rfl⟩:=I.pre;rw[List.append_assoc,qy (by rw[ai];exact hn),gn (by rw[aR,List.length_set];exact hq),List.append_assoc]
  exact ⟨_,rfl⟩
 ·exact au (by rw[af hne,af (by omega)];exact au I.hb _) _
 ·exact au (aF (by rw[af (by omega)];exact au I.hq _) _) _
 ·exact au (by rw[af (by omega),af (by omega)];exact au hcs _) _
end
section
variable {M:Memo}{ts:List TkR}{lin:Lin}{n:Nat}{H Hc:Heap}{c:AObj}{bx qo:Nat}{R:List AV}{L:AV}
theorem LeI.len (I:LeI H n c bx qo R L Hc):aa H<=aa Hc:=by
 obtain ⟨G,rfl⟩:=I.pre;rw[ai,ai,List.length_append,aR,List.length_set];omega
abbrev eR (b:Bool)(e:Ex):List AV:=[.bool b,.int .i64 (e.k:Int),.int .i64 (e.p:Int),.int .i64 e.n,.str e.s,.bool e.b,e.kv]
end
abbrev qR (l:List (List Nat×Nat))(n:Lin)(b:Bool)(e:Ex):List AV:=.sl 2 (l.map BJ) n::eR b e
section
variable {M:Memo}{ts:List TkR}{lin:Lin}{n:Nat}{H Hc:Heap}{c:AObj}{bx qo:Nat}{R:List AV}{L:AV}
end
theorem az {α:Type}(a b:List α):aa (a++b)=aa a+aa b:=by simp[ai]
structure EqR where
 l:List (List Nat×Nat)
 a:Bool
 e:Ex
abbrev EqR.v (q:EqR):AV:=.agg (qR q.l .dead q.a q.e)
section
variable {M:Memo}{ts:List TkR}{lin:Lin}{n:Nat}
end
theorem eq_noN:∀ l:List EqR,dp (l.map EqR.v)=true
 | []=>rfl
 | q::l=>by
   rw[List.map_cons,br,eq_noN l];simp only[fg,br,noNL_nil,iC,linN_dead,le_noN,iU,ig,il,Ff,cond_true]
theorem le_same:∀ l:List (List Nat×Nat),sameL (l.map BJ) (l.map BJ)=true
 | []=>by simp[sameL]
 | a::l=>by rw[List.map_cons];simp[sameL,AV.same,le_same l]
theorem xQ (e:Ex):AV.same e.kv e.kv=true:=qc (exL_same _)
theorem eq_same:∀ l:List EqR,sameL (l.map EqR.v) (l.map EqR.v)=true
 | []=>by simp[sameL]
 | q::l=>by rw[List.map_cons];simp[sameL,AV.same,le_same,xQ,eq_same l]
abbrev zS (s:List Nat)(p:Nat)(I O V:List DeR)(L:AV):List AV:=[.str s,.int .i64 (p:Int),deZ I,deZ O,deZ V,L]
def YW (Hc:Heap)(no:Nat)(L:AV)(acc:List EqR):Prop:=(acc=[]/\L=.nils)\/(acc≠[]/\∃ id g,L=.sl 8 (acc.map EqR.v) (.live id g)/\ae Hc id=some (.lin g)/\no<id)
structure NoI (H:Heap)(n:Nat)(c:AObj)(P:AV->List AV)(acc:List EqR)(Hc:Heap):Prop where
 pre:∃ G,Hc=am H n c++G
 rs:ae Hc (aa H)=some (.cells [.str [],.int .i64 0,.nils,.nils,.nils,.nils])
 nd:∃ L,ae Hc (aa H+2)=some (.cells (P L))/\YW Hc (aa H+2) L acc
theorem NoI.cur {H:Heap}{n:Nat}{c:AObj}{P:AV->List AV}{acc:List EqR}{Hc:Heap}(h:NoI H n c P acc Hc)(hn:n<aa H):ae Hc n=some c:=by
 obtain ⟨G,rfl⟩:=h.pre;exact se hn _ _
theorem NoI.len {H:Heap}{n:Nat}{c:AObj}{P:AV->List AV}{acc:List EqR}{Hc:Heap}(h:NoI H n c P acc Hc):aa H<=aa Hc:=by
 obtain ⟨G,rfl⟩:=h.pre;rw[ai,ai,List.length_append,aR,List.length_set];omega
theorem NoI.next {H:Heap}{n:Nat}{c c' : AObj}{P:AV->List AV}{acc acc' : List EqR}{Hc K:Heap}{L' : AV}(hlt:n<aa H)(I:NoI H n c P acc Hc)
  (hE:YW (am (am Hc n c'++K) (aa H+2) (.cells (P L'))) (aa H+2) L' acc'):NoI H n c' P acc' (am (am Hc n c'++K) (aa H+2) (.cells (P L'))):=by
 obtain ⟨L,hL,_⟩:=I.nd;refine ⟨?_,?_,L',aF (au (by rw[af (by omega)];exact hL) _) _,hE⟩
 ·obtain ⟨G,rfl⟩:=I.pre;rw[qy hlt,List.append_assoc];exact ⟨_,gn (by rw[aR,List.length_set,ai];omega) _⟩
 ·rw[af (by omega)]
  exact au (by rw[af (by omega)];exact I.rs) _
section
variable {M:Memo}{ts:List TkR}{lin:Lin}{n:Nat}
end
structure NdR where
 s:List Nat
 p:Nat
 ins:List DeR
 outs:List DeR
 vars:List DeR
 eqs:List EqR
abbrev oZ (l:List EqR):AV:=.sl 8 (l.map EqR.v) .dead
abbrev NdR.v (d:NdR):AV:=.agg (zS d.s d.p d.ins d.outs d.vars (oZ d.eqs))
theorem jN (l:List DeR):gK (deZ l)=true:=by
 cases l with
 | nil=>rfl
 | cons a l=>show gK (.sl 6 ((a::l).map DeR.v) .dead)=true;rw[iC,linN_dead,de_noN];rfl
theorem mF (l:List DeR):AV.one (deZ l)=true:=by cases l<;>rfl
theorem Wz (s:List Nat)(p:Nat)(l:List DeR):ao CC 61 [(0,.str s),(1,.int .i64 (p:Int)),(2,deZ l)]=some (.agg [.str s,.int .i64 (p:Int),deZ l,.nils,.nils,.nils]):=by
 have h1:∀ (q:Int),ao CC 61 [(0,.str s),(1,.int .i64 q),(2,.nils)]=some (.agg [.str s,.int .i64 q,.nils,.nils,.nils,.nils]):=λq=>by kernel_rfl
 have h2:∀ (q:Int) (xs:List AV),ao CC 61 [(0,.str s),(1,.int .i64 q),(2,.sl 6 xs .dead)]=some (.agg [.str s,.int .i64 q,.sl 6 xs .dead,.nils,.nils,.nils]):=λq xs=>by kernel_rfl
 cases l with
 | nil=>exact h1 p
 | cons a l=>exact h2 p _
theorem BC (l:List DeR):AV.cells (deZ l)=[deZ l]:=by cases l<;>rfl
theorem DZS:(∀ l,AV.cells (deZ l)=[deZ l])/\(∀ l,gK (deZ l)=true)/\(∀ l,AV.one (deZ l)=true)/\(∀ (s:List Nat) (p:Nat) (l:List DeR),ao CC 61 [(0,.str s),(1,.int .i64 (p:Int)),(2,deZ l)]=some (.agg [.str s,.int .i64 (p:Int),deZ l,.nils,.nils,.nils])) :=
 ⟨BC,jN,mF,Wz⟩
section
variable {M:Memo}{ts:List TkR}{lin:Lin}{n:Nat}
end
theorem Ni (d:NdR):aM CC 33 1 [(0,d.v)]=some (.sl 6 [d.v] .lit):=by
 obtain ⟨s,p,I,O,V,E⟩:=d;show aM CC 33 1 [(0,.agg (zS s p I O V (oZ E)))]=some (.sl 6 [.agg (zS s p I O V (oZ E))] .lit);rw[zS];cases I<;>cases O<;>cases V<;>kernel_rfl
theorem Kx (d:NdR):[d.v].all (bi 6)=true:=by
 obtain ⟨s,p,I,O,V,E⟩:=d;cases I<;>cases O<;>cases V<;>rfl
theorem nd_noN:∀ l:List NdR,dp (l.map NdR.v)=true
 | []=>rfl
 | q::l=>by
   rw[List.map_cons,br,nd_noN l];simp only[fg,br,noNL_nil,iC,linN_dead,eq_noN,jN,ig,il,cond_true]
theorem de_same:∀ l:List DeR,sameL (l.map DeR.v) (l.map DeR.v)=true
 | []=>by simp[sameL]
 | a::l=>by rw[List.map_cons];simp[sameL,AV.same,de_same l]
theorem ni (l:List DeR):AV.same (deZ l) (deZ l)=true:=by
 cases l with
 | nil=>simp[deZ,AV.same]
 | cons a l=>show AV.same (.sl 6 ((a::l).map DeR.v) .dead) (.sl 6 ((a::l).map DeR.v) .dead)=true;simp only[AV.same,de_same];simp
theorem nd_same:∀ l:List NdR,sameL (l.map NdR.v) (l.map NdR.v)=true
 | []=>by simp[sameL]
 | q::l=>by rw[List.map_cons];simp[sameL,AV.same,ni,eq_same,nd_same l]
theorem se33:∃ e,bK CC 33=some e/\e=61:=⟨_,by kernel_rfl,rfl⟩
theorem inf61' : (CC.P.info? 61).map (λi=>(i.size,decide (0<i.bytes/\i.bytes<=65536)))=some (6,true):=by kernel_rfl
theorem inf61:∃ i,CC.P.info? 61=some i/\i.size=6/\0<i.bytes/\i.bytes<=65536:=by
 have h:=inf61';cases hi:CC.P.info? 61 with
 | none=>rw[hi] at h;cases h
 | some i =>
   rw[hi] at h;simp only[Option.map_some,SJ,PJ,decide_eq_true_eq] at h;exact ⟨i,rfl,h.1,h.2.1,h.2.2⟩
theorem zero61:cj CC 61=some (.agg [.str [],.int .i64 0,.nils,.nils,.nils,.nils]):=by kernel_rfl
theorem Wu (f:Nat):CC.mutT f 33=false:=by
 show ((33:Nat) == 84||(33:Nat) == 86||(33:Nat) == 101||(f == 21&&(33:Nat) == 22)||(f == 6&&(33:Nat) == 32))=false
 simp
theorem Bg (f:Nat)(d:NdR)(hp:Heap)(e:Nat):aq CC f 33 .nils (.sl 6 [d.v] .lit) ⟨hp,e⟩=some (.sl 6 [d.v] (.live (aa hp) 0),⟨hp++[.lin 0],e⟩):=by
 obtain ⟨i,h1,h2,h3,h4⟩:=inf61;obtain ⟨e',s1,rfl⟩:=se33
 have hne:¬ (i.size=0\/i.bytes=0\/(AV.agg [.str [],.int .i64 0,.nils,.nils,.nils,.nils]).cells.length≠i.size\/[d.v].all (bi i.size)=false\/2 ^ 16<i.bytes):=by
  rw[h2,Kx];simp[AV.cells];omega
 simp only[aq,s1,h1,zero61,aY,if_true,h2,List.isEmpty,Wu,ai];rw[h2] at hne;rw[if_neg hne];simp
theorem vt (f:Nat){xs:List AV}(d:NdR){hp:Heap}{e id g:Nat}(hg:ae hp id=some (.lin g))(hl:xs.length+1<=2 ^ 24) :
  aq CC f 33 (.sl 6 xs (.live id g)) (.sl 6 [d.v] .lit) ⟨hp,e⟩=some (.sl 6 (xs++[d.v]) (.live id (g+1)),⟨am hp id (.lin (g+1)),e⟩):=by
 obtain ⟨i,h1,h2,h3,h4⟩:=inf61;obtain ⟨e',s1,rfl⟩:=se33;rw[aB] at hg;have h5:decide (xs.length+[d.v].length<=2 ^ 24)=true:=by simp;omega
 have hne:¬ (i.size=0\/i.bytes=0\/(AV.agg [.str [],.int .i64 0,.nils,.nils,.nils,.nils]).cells.length≠i.size\/[d.v].all (bi i.size)=false\/2 ^ 16<i.bytes):=by
  rw[h2,Kx];simp[AV.cells];omega
 rw[h2] at hne;simp only[aq,s1,h1,zero61,aY,if_true,h2,h5,List.isEmpty,hg,aR];rw[if_neg hne];simp
section
variable {M:Memo}{ts:List TkR}{lin:Lin}{n:Nat}
end
theorem WA (l:List AV)(q:Lin):ao CC 69 [(0,.sl 4 l q)]=some (.agg [.sl 4 l q,.int .i64 0]):=by kernel_rfl
theorem Wm (l:List AV)(q:Lin):ao CC 71 [(0,.agg [.sl 4 l q,.int .i64 0])]=some (.agg [.sl 4 l q,.int .i64 0]):=by kernel_rfl
theorem SW (ts:List TkR)(L:Nat):AV.low L (.agg [.sl 4 (ts.map TkR.v) .dead,.int .i64 0])=true:=by
 simp[AV.low,aG,de (tk ts),Lin.low]
theorem Rf (ts:List TkR)(L:Nat):dV (.agg [.sl 4 (ts.map TkR.v) .dead,.int .i64 0]) L=some (iq (ts.map TkR.v) .dead 0,(.ptr · 0)):=by
 have h2:(AV.cells (.agg [.sl 4 (ts.map TkR.v) .dead,.int .i64 0])).all AV.one=true:=rfl;unfold dV;rw[if_pos ⟨h2,SW ts L⟩];rfl
theorem Ub (oo L:Nat)(h:oo<L):dV (.func (.func 28) [] [.ptr oo 0]) L=some (.cells [.func (.func 28) [] [.ptr oo 0]],(.ptr · 0)):=by
 have h1:(AV.func (.func 28) [] [.ptr oo 0]).cells.all AV.one=true:=rfl;have h2:AV.low L (.func (.func 28) [] [.ptr oo 0])=true:=by simp[AV.low,aG,h]
 unfold dV;rw[if_pos ⟨h1,h2⟩];rfl
theorem Pa (a b:AV)(s:St):dN CC 28 [a,b] s=some (.call 28 [a,b]):=by kernel_rfl
theorem So (a b c:AV)(s:St):dN CC 46 [a,b,c] s=some (.call 46 [a,b,c]):=by kernel_rfl
section
variable {M:Memo}{ts:List TkR}{n:Nat}
end
abbrev cz0:AObj:=.cells [.int .i64 0,.int .i64 0]
theorem bq {α:Type}(a:α)(l:List α):aa (a::l)=aa l+1:=by simp[ai]
theorem cd {α:Type}:aa ([]:List α)=0:=rfl
theorem sj {a r b:Nat}{cs:List AV}{hp:Heap}(h1:a<aa hp)(h2:a<=r)(h4:1<=aa cs) :
  eM 1 0 r (.ptr a 0) [.ptr a 0] cs ⟨hp,b⟩=some ⟨am hp r (.cells (db cs 0 [.ptr a 0])),b⟩:=by
 have e1:eK (aa hp) (.ptr a 0)=true:=by rw[bY];simp[AV.low,h1]
 have e2:eK (r+1) (.ptr a 0)=true:=by rw[bY];simp[AV.low];omega
 have e3:Nat.ble (Nat.add 0 1) (aa cs)=true:=by rw[dW];simpa using h4
 have e5:Nat.beq (aa [AV.ptr a 0]) 1=true:=rfl;have e6:List.all [AV.ptr a 0] AV.one=true:=rfl;simp only[eM,e1,e3,e5,e6,Bool.and_self,cond_true,gV,e2]
section
variable {M:Memo}{ts:List TkR}
end
def wordsS:List (List Nat):=[[110,111,100,101],[114,101,116,117,114,110,115],[118,97,114],[108,101,116],[116,101,108],[105,110,116],[98,111,111,108],[102,117,116,117,114,101],[119,104,101,110],[110,111,116],[97,110,100],[111,114],[120,111,114],[105,102],[116,104,101,110],[101,108,115,101],[112,114,101],[102,98,121],[109,101,114,103,101],[97,115,121,110,99],[97,119,97,105,116],[97,102,116,101,114],[116,114,117,101],[102,97,108,115,101],[109,111,100]]
def signsS:List (List Nat):=[[60,62],[60,61],[62,61],[45,62],[40],[41],[44],[59],[58],[61],[60],[62],[43],[45],[42],[47]]
theorem lx1:LexM (memoL memo1) (wordsS.map .str) (signsS.map .str):={ m72:=λ_=>rfl,m73:=λ_=>rfl,m104:=λ_=>rfl,m105:=λ_=>rfl,m106:=λ_=>rfl,m107:=λ_=>rfl,m108:=λ_=>rfl,m109:=λ_=>rfl,m110:=λ_=>rfl,m140:=λ_=>rfl,m141:=λ_=>rfl,m142:=λ_=>rfl,m143:=λ_=>rfl,m144:=λ_=>rfl,w:=rfl,wl:=by decide,s:=rfl,sl:=by decide }
theorem pm1:Ov (memoL memo1):=parM_of (by decide)
def blV:List Nat->Option Nat
 | []=>some 0
 | b::r=>cond (tp b) (match blV r with
   | some n=>some (n+1)
   | none=>none) (cond (isPre [45,45] (b::r)) none (some 0))
theorem blV_ok:∀ (t:List Nat) (n:Nat),blV t=some n->∀ k,t.length<=k->blS k t=n
 | [],n,h,k,hk=>by
   simp only[blV,SJ] at h;subst h;cases k<;>rfl
 | b::r,n,h,k,hk=>by
   obtain ⟨k,rfl⟩ : ∃ q,k=q+1:=⟨k-1,by simp at hk;omega⟩
   simp only[blV] at h;simp only[blS];cases hb:tp b with
   | true =>
     rw[hb] at h;simp only[cond_true] at h ⊢;cases hr:blV r with
     | none=>rw[hr] at h;cases h
     | some m =>
       rw[hr] at h;simp only[SJ] at h;rw[blV_ok r m hr k (by simp at hk;omega)]
       omega
   | false =>
     rw[hb] at h;simp only[cond_false] at h ⊢;cases hp:isPre [45,45] (b::r) with
     | true=>rw[hp] at h;cases h
     | false =>
       rw[hp] at h;simp only[cond_false,SJ] at h ⊢;exact h
def iO (ws sg:List (List Nat))(j:Nat):List Nat->TkR
 | []=>⟨5,j,[],0,0,j⟩
 | b::r=>cond (Ib b) (Uq ws j ((b::r).takeWhile iu)) (cond (isD b) (U9 j ((b::r).takeWhile isD)) (VO j (pf (b::r) sg)))
theorem Eb (ws sg:List (List Nat))(s:List Nat)(j:Nat):jr ws sg s j=iO ws sg j (s.drop j):=by
 unfold jr iO;cases s.drop j<;>rfl
def kW (ws sg:List (List Nat)):Nat->List Nat->Nat->Option (List TkR)
 | 0,_,_=>none
 | k+1,t,j=>match blV t with
   | none=>none
   | some n=>match blV (t.drop n) with
     | none=>none
     | some m=>cond (Nat.beq m 0) (match iO ws sg (j+n) (t.drop n) with
       | x=>cond (Nat.beq x.err 0) (cond (Nat.beq x.k 5) (some [x]) (cond (Nat.ble j x.pos) (match kW ws sg k (t.drop (x.pos-j)) x.pos with
         | some l=>some (x::l)
         | none=>none) none)) none) none
theorem Ak {ws sg:List (List Nat)}{s:List Nat}:∀ (k j:Nat) (l:List TkR),kW ws sg k (s.drop j) j=some l->tb ws sg s k j=some (.ok l)
 | 0,j,l,h=>by cases h
 | k+1,j,l,h=>by
   simp only[kW] at h;cases h1:blV (s.drop j) with
   | none=>rw[h1] at h;cases h
   | some n =>
     rw[h1] at h;simp only at h;cases h2:blV ((s.drop j).drop n) with
     | none=>rw[h2] at h;cases h
     | some m =>
       rw[h2] at h;simp only at h;obtain ⟨hm,h3⟩:=aT h
       clear h
       have hm0:=Nat.eq_of_beq_eq_true hm;rw[hm0] at h2;obtain ⟨he,h⟩:=aT h3
       clear h3
       have e1:qJ s j=j+n:=by
        unfold qJ;rw[blV_ok _ _ h1 _ (by rw[List.length_drop];exact Nat.le_refl _)]
       have e2:qJ s (j+n)=j+n:=by
        unfold qJ;rw[List.drop_drop] at h2;rw[blV_ok _ _ h2 _ (by rw[List.length_drop];exact Nat.le_refl _)]
        rfl
       rw[List.drop_drop] at h he;simp only[tb,e1,e2,Eb];rw[he];simp only[cond_true];cases h5:Nat.beq (iO ws sg (j+n) (s.drop (j+n))).k 5 with
       | true =>
         rw[h5] at h;simp only[cond_true,SJ] at h ⊢;rw[h]
       | false =>
         rw[h5] at h;simp only[cond_false] at h ⊢;obtain ⟨hp,h⟩:=aT h;rw[dW,decide_eq_true_eq] at hp;generalize iO ws sg (j+n) (s.drop (j+n))=x at h hp ⊢;cases h6:kW ws sg k ((s.drop j).drop (x.pos-j)) x.pos with
         | none=>rw[h6] at h;cases h
         | some l' =>
           rw[h6] at h;simp only[SJ] at h;rw[List.drop_drop,show j+(x.pos-j)=x.pos by omega] at h6
           rw[Ak k x.pos l' h6];simp only[h]
noncomputable def WT (s:List Nat):Bool:=Nat.ble (aa s) 4000&&s.all λb=>Nat.ble b 255
abbrev pV (l:List NdR):AV:=.tuple [.sl 6 (l.map NdR.v) .dead,.agg [.int .i64 0,.int .i64 0]]
theorem Rz (l:List NdR):(pV l).low 0=true:=by
 have:=de (nd_noN l) 0;simp[AV.low,aG,this,Lin.low]
end Go.Proofs
