/- expressions, equations. Part of the proof of girandolelaw08.FlatDoubles. -/
import Derived.Test.YtglacbfdbfhmfaaDoorFl1
import Derived.Test.YtglacbfdbfhmfaaDoorDec
set_option linter.unusedVariables false
set_option linter.unusedSimpArgs false
set_option maxRecDepth 1000000
namespace Go.Proofs
open Go Go.Abs
theorem fq {L:Nat}:∀ {a b:List AV},aM L (a ++ b)=(aM L a && aM L b)
 | [],b=>by simp[aM]
 | x :: a,b=>by simp only[List.cons_append,aM,fq (a:=a) (b:=b),Bool.and_assoc]
theorem GF {q k i:Nat}(h:i < k):bw 6 (.rsl q 0 k k 6) (.int .i64 (i:Int))=some (.ptr q (i * 6)):=by
 simp[bw,cT,h]
theorem oI {cs v:List AV}{off:Nat}(h:off + v.length≤cs.length):(cm cs off v).length=cs.length:=by
 rw[jv h];simp[aV];omega
theorem UI.setM {uo id n off:Nat}{H:Heap}{u:UN}{v:List AV}(h:UI uo H u)(hM:u.Ms=.rsl id 0 n n 6)(h1:v.all AV.one=true)(h2:∀ L,aM L v=true)(ho:off + v.length≤u.ms.length) :
  UI uo (ai H id (.cells (cm u.ms off v))) { u with ms:=cm u.ms off v }∧Gr uo H u.ns (ai H id (.cells (cm u.ms off v))) u.ns∧af H id=some (.cells u.ms)∧id ∈ u.ns:=by
 have hidn:id ∈ nmA u.Ms:=by rw[hM];simp[nmA]
 have hm:=h.m;rw[hM] at hm;obtain ⟨_,hn⟩ | ⟨id',n',he,hn0,hg,hln,hone,hlow,hui⟩:=hm
 ·cases hn
 ·simp only[AV.rsl.injEq] at he;obtain ⟨rfl,_,rfl,_,_⟩:=he;have hl:aa H≤aa (ai H id (.cells (cm u.ms off v))):=by rw[ak];exact Nat.le_refl _
  have hlen:(cm u.ms off v).length=u.ms.length:=oI ho
  have hsp:aM (aa H) (u.ms.take off)=true∧aM (aa H) (u.ms.drop (off + v.length))=true:=by
   have h3:aM (aa H) (u.ms.take off ++ u.ms.drop off)=true:=by rw[List.take_append_drop];exact hlow
   have h4:aM (aa H) (u.ms.take (off + v.length) ++ u.ms.drop (off + v.length))=true:=by rw[List.take_append_drop];exact hlow
   rw[fq,Bool.and_eq_true] at h3 h4;exact ⟨h3.1,h4.2⟩
  have hlow' : aM (aa H) (cm u.ms off v)=true:=by
   rw[jv ho,aV,fq,fq,hsp.1,hsp.2,h2];rfl
  have hone' : (cm u.ms off v).all AV.one=true:=by
   rw[jv ho,aV,List.all_append,List.all_append,h1,Bool.and_true,Bool.and_eq_true];exact ⟨List.all_eq_true.2 fun x hx=>List.all_eq_true.1 hone x (List.mem_of_mem_take hx),List.all_eq_true.2 fun x hx=>List.all_eq_true.1 hone x (List.mem_of_mem_drop hx)⟩
  refine ⟨⟨by rw[ae (by omega)];exact h.ob,h.e.mono hl (fun q hq _=>ae (fun he=>(h.dj.1 q hq).1 (by rw[he];exact hidn)) _),h.el,?_,h.w.mono hl (fun q hq _=>ae (fun he=>(h.dj.2.1 id hidn).1 (by rw[← he];exact hq)) _),h.s.mono hl (fun q hq _=>ae (fun he=>(h.dj.2.1 id hidn).2 (by rw[← he];exact hq)) _),h.dj,?_⟩,⟨hl,fun q hq hu hn=>ae (fun he=>hn (bM.2 (.inr (.inl (by rw[he];exact hidn))))) _,fun q hq=>.inl hq⟩,hg,bM.2 (.inr (.inl hidn))⟩
  ·refine .inr ⟨id,n,hM,hn0,aK hg _,by rw[hlen,hln],hone',by rw[ak];exact hlow',hui⟩
  ·have:=h.vl;simp only[hlen];exact this
theorem AX (a b c:AtF):aP CC 88 3 [(0,a.av),(1,b.av),(2,c.av)]=some (.sl 3 [a.av,b.av,c.av] .lit):=by
 have:∀ (a1 b1 c1:Bool) (a2 a3 b2 b3 c2 c3:Int),aP CC 88 3 [(0,.agg [.bool a1,.int .i64 a2,.int .i64 a3]),(1,.agg [.bool b1,.int .i64 b2,.int .i64 b3]),(2,.agg [.bool c1,.int .i64 c2,.int .i64 c3])]=some (.sl 3 [.agg [.bool a1,.int .i64 a2,.int .i64 a3],.agg [.bool b1,.int .i64 b2,.int .i64 b3],.agg [.bool c1,.int .i64 c2,.int .i64 c3]] .lit):=fun _ _ _ _ _ _ _ _ _=>by kernel_rfl
 exact this _ _ _ _ _ _ _ _ _
theorem kT (a:AtF):AV.same a.av a.av=true:=by simp[AV.same,sameL]
theorem OQ (b:Bool):ao CC 97 [(0,.bool b)]=some (.agg [.bool b,.int .i64 0,.int .i64 0]):=by kernel_rfl
section
variable {M:Memo}{uo bo so vo fo:Nat}{LV:AV}{d:NdR}{vm:List (List Nat × Nat)}{fm:List (List Nat × AV)}{base:AV}
theorem tu (m:eu M){f:Ex→PS→Option (AtF × PS)}(hf:∀ e p a p',f e p=some (a,p')→p.w≤p'.w)(hb:iy base){e:Ex}(h8:e.k=8)(hkl:e.kids.length≤90000)(ihk:∀ a ∈ e.kids,fD M uo bo so vo fo LV d (iu vm) fm base f a)
  {H:Heap} {u:UN} {a b:AtF} {p1:PS} (hat:dn f e.kids u.p.mem=some ([a,b],p1)) (C:Cx uo bo so vo fo LV d (iu vm) fm base H u) (hw:p1.w + 22 < 1000000) :
  ∃ H' u',orc CC M 84 [.ptr bo 0,.ptr so 0,e.v,.nils] H=some (.ret (AtF.av ⟨false,0,p1.vars⟩) H' uo)∧UI uo H' u'∧Gr uo H u.ns H' u'.ns∧u'.p=(p1.eq [105,102] [⟨false,0,u.vars⟩,a,b]).2∧Same u u':=by
 have hmw:=jf hf _ _ _ _ hat;have hmw2:=zg u.p;have hpw:=UN.pw u;have C0:=C.ap [bH e,zA];obtain ⟨Hm,k,id,hM,hk6,U1,G1⟩:=zb m C0.U C0.b C0.nb (by omega) 1 (on:=gv0) (.inr rfl)
 have C1:=C0.step U1 G1;generalize hu1:({ u with vars:=u.vars + 1,ms:=u.ms ++ [.int .i64 (u.vars:Int),.int .i64 1,.bool false,.int .i64 0,.int .i64 0,gv0],Ms:=.rsl id 0 (k + 1) (k + 1) 6 }:UN)=u1 at U1 G1 C1
 have hMs:u1.Ms=.rsl id 0 (k + 1) (k + 1) 6:=by rw[← hu1]
 have hml:u1.ms.length=k * 6 + 6:=by rw[← hu1];simp[hk6]
 have hp1:u1.p=u.p.mem:=by rw[← hu1];simp[UN.p,PS.mem]
 have S1:Same u u1:=by rw[← hu1];exact ⟨rfl,rfl,rfl,rfl⟩
 have C2:=C1.ap [.cells [.bool false,.int .i64 0,.int .i64 (u.vars:Int)]];obtain ⟨U3,G3,hg3,hid3⟩:=C2.U.setM (v:=[.bool true,.int .i64 0,.int .i64 0]) (off:=k * 6 + 2) hMs rfl (fun L=>rfl) (by simp;omega)
 have hst3:∀ ee,ay 3 (.ptr id (k * 6 + 2)) (.agg [.bool true,.int .i64 0,.int .i64 0]) ⟨Hm ++ [.cells [.bool false,.int .i64 0,.int .i64 (u.vars:Int)]],ee⟩=some ⟨ai (Hm ++ [.cells [.bool false,.int .i64 0,.int .i64 (u.vars:Int)]]) id (.cells (cm u1.ms (k * 6 + 2) [.bool true,.int .i64 0,.int .i64 0])),ee⟩:=fun ee=>Fb hg3 rfl (by rw[aj,hml];omega) rfl rfl
 have C3:=C2.step U3 G3;generalize hH3:ai (Hm ++ [.cells [.bool false,.int .i64 0,.int .i64 (u.vars:Int)]]) id (.cells (cm u1.ms (k * 6 + 2) [.bool true,.int .i64 0,.int .i64 0]))=H3 at U3 G3 C3 hst3
 have hu3p:({ u1 with ms:=cm u1.ms (k * 6 + 2) [.bool true,.int .i64 0,.int .i64 0] }:UN).p=u.p.mem:=by
  rw[← hp1];simp only[UN.p,oI (cs:=u1.ms) (v:=[.bool true,.int .i64 0,.int .i64 0]) (off:=k * 6 + 2) (by simp;omega)]
 generalize hu3:({ u1 with ms:=cm u1.ms (k * 6 + 2) [.bool true,.int .i64 0,.int .i64 0] }:UN)=u3 at U3 G3 C3 hu3p
 have hns3:u3.ns=u1.ns:=by rw[← hu3];rfl
 have S3:Same u u3:=by rw[← hu3];exact ⟨S1.nd,S1.at_,S1.I,S1.O⟩
 obtain ⟨H4,u4,e4,V4,hA,hL,U4,G4,hp4,S4,hD⟩:=nC m hf hkl ihk (iz e) (oM e) C3 (by rw[hu3p];exact hat) (by omega)
 obtain ⟨h0,_⟩ | ⟨_,lin,rfl,hlin⟩:=hL
 ·cases h0
 have C4:=C3.step U4 G4;obtain ⟨H5,E',hQ,U5,G5⟩:=BS m U4 C4.b C4.nb (by rw[← hp4,UN.pw] at hw;omega) [105,102] [⟨false,0,u.vars⟩,a,b] (lin:=.lit) (on:=gv0) (.inr rfl) rfl
 have K3:Gr uo (H ++ [bH e,zA]) u.ns H3 u3.ns:=by rw[hns3];exact (G1.trans Gr.ap).trans G3
 have K4:=K3.trans G4;have K5:=K4.trans G5;have l0:=K3.loc C.U (j:=0) (by rw[aO,aO,bj];omega)
 have l0' : af H3 (aa H)=some (bH e):=by have:=l0.1;rw[Nat.add_zero] at this;rw[this];rfl
 have l1:=K5.loc C.U (j:=1) (by rw[aO,aO,bj];omega)
 have l1' : af H5 (aa H + 1)=some zA:=by rw[l1.1];rfl
 have m0:af (H ++ [bH e,zA]) (aa H)=some (bH e):=by rw[au];rfl
 have m0m:af Hm (aa H)=some (bH e):=by
  have:=(G1.loc C.U (j:=0) (by rw[aO,aO,bj];omega)).1
  rw[Nat.add_zero] at this;rw[this];rfl
 have hlm:aa H + 2≤aa Hm:=by have:=G1.len;rw[az] at this;exact this
 have kk:=(G3.trans (by rw[← hns3] at *;exact G4)).loc (H:=Hm) (K:=[.cells [.bool false,.int .i64 0,.int .i64 (u.vars:Int)]]) (u:=u1) U1 (j:=0) (by rw[aO,bj];omega)
 have kk' : af H4 (aa Hm)=some (.cells [.bool false,.int .i64 0,.int .i64 (u.vars:Int)]):=by have:=kk.1;rw[Nat.add_zero] at this;rw[this];rfl
 have hv4:u4.vars=p1.vars:=by rw[← hp4];rfl
 have huo:=C.U.uo;have hl4:=C4.U.uo;have h5n:aa H + 1 ∉ ({ u4 with vars:=u4.vars + 1,eqs:=u4.eqs ++ [⟨[105,102],u4.vars,[⟨false,0,u.vars⟩,a,b],.lit,gv0⟩],E:=E' }:UN).ns:=l1.2.1
 refine ⟨ai H5 (aa H + 1) (.cells [.bool false,.int .i64 0,.int .i64 (u4.vars:Int)]),_,?_,U5.to (by rw[ak];exact Nat.le_refl _) (fun q hq hn=>ae (by rintro rfl;rcases hn with h | h;(omega);exact h5n h) _),(Gr.ap.trans K5).put2 (by omega),by rw[Si,hp4],⟨S4.nd.trans S3.nd,S4.at_.trans S3.at_,S4.I.trans S3.I,S4.O.trans S3.O⟩⟩
 rw[← hv4];refine aH (z:=z84) (m _ _ rfl) (by kernel_rfl) rfl ?_
 have e0:(envOf [.ptr bo 0,.ptr so 0,e.v,.nils] 0 env0).a.a.a=.ptr bo 0:=rfl;have e1:(envOf [.ptr bo 0,.ptr so 0,e.v,.nils] 0 env0).a.a.b=.ptr so 0:=rfl;have e2:(envOf [.ptr bo 0,.ptr so 0,e.v,.nils] 0 env0).a.a.c=e.v:=rfl;have e3:(envOf [.ptr bo 0,.ptr so 0,e.v,.nils] 0 env0).a.a.d=.nils:=rfl;generalize envOf [.ptr bo 0,.ptr so 0,e.v,.nils] 0 env0=R at e0 e1 e2 e3;have hbx:=fx e;have c8:decide ((e.k:Int)=8)=true:=by rw[h8];rfl
 have hlH:aa (H ++ [bH e,zA])=aa H + 2:=by rw[az];rfl
 have hgd0:=dW m hb C0.s;have hgd4:=dW m hb C4.s;rw[hlH] at hgd0;have hm1:min (aa H) (aa H + 2)=aa H:=Nat.min_eq_left (by omega)
 have hm2:min (aa H) uo=uo:=Nat.min_eq_right (by omega)
 have hm4:min uo e4=uo:=by
  rcases hD with ⟨h,_,_⟩ | h
  ·have:=C3.U.uo;omega
  ·omega
 have hm5:min uo (aa H4)=uo:=Nat.min_eq_left (by omega)
 have hE2:=C2.U.ob;have hb2:=C2.b;have hias:=GF (q:=id) (k:=k + 1) (i:=k) (by omega)
 have hst3' : ∀ ee,ay 3 (.ptr id ((k * 6).add 2)) (.agg [.bool true,.int .i64 0,.int .i64 0]) ⟨Hm ++ [.cells [.bool false,.int .i64 0,.int .i64 (u.vars:Int)]],ee⟩=some ⟨H3,ee⟩:=hst3;have hs0:=kT ⟨false,0,u.vars⟩;have hsa:=kT a;have hsb:=kT b;have hV4:[a,b].map AtF.av=[a.av,b.av]:=rfl;rw[hV4] at hA;have hV5:[(⟨false,0,u.vars⟩ : AtF),a,b].map AtF.av=[AtF.av ⟨false,0,u.vars⟩,a.av,b.av]:=rfl;rw[hV5] at hQ;have hi0:bw 3 (.sl 3 [a.av,b.av] lin) (.int .i64 0)=some (.iptr [.bool a.c,.int .i64 a.n,.int .i64 (a.v:Int)]):=rfl;have hi1:bw 3 (.sl 3 [a.av,b.av] lin) (.int .i64 1)=some (.iptr [.bool b.c,.int .i64 b.n,.int .i64 (b.v:Int)]):=rfl;have h3:=AX ⟨false,0,u.vars⟩ a b;have hzs:=fun c=>aK l1' c
 have hgc:=fun hp=>dU (keep:=CC.keep 84) (base:=aa H) (e:=uo) (v:=AtF.av ⟨false,0,u4.vars⟩) (hp:=hp) (by omega)
 simp only[z84,zB,yB,J1,IT,J7,JN,SIM,ST0,ST1,e0,e1,e2,e3,hbx,c8,hgd0,hM,hm1,hm2,hE2,hb2,yI,hMs,OQ,hias,hst3',m0,l0',hA,hm4,hgd4,hm5,kk',hs0,hsa,hsb,hi0,hi1,h3,hQ,l1',hzs,hgc,Nat.min_self,Nat.reduceAdd,Nat.reduceLeDiff]
end
theorem ly {f:Ex→PS→Option (AtF × PS)}(hf:∀ e p a p',f e p=some (a,p')→p.nm≤p'.nm):∀ (l:List Ex) (p:PS) (xs:List AtF) (p' : PS),dn f l p=some (xs,p')→p.nm≤p'.nm
 | [],p,xs,p',h=>by simp only[dn,SJ,PJ] at h;rw[h.2];exact Nat.le_refl _
 | a :: l,p,xs,p',h=>by
   simp only[dn] at h
   split at h
   ·cases h
   ·rename_i x p1 h1
    split at h
    ·cases h
    ·rename_i ys p2 h2;simp only[SJ,PJ] at h;rw[← h.2];exact Nat.le_trans (hf _ _ _ _ h1) (ly hf l _ _ _ h2)
theorem kI {vm:List (List Nat × Nat)}{ext:Ex→PS→Option (AtF × PS)}(hx:∀ e p a p',ext e p=some (a,p')→p.nm≤p'.nm):∀ (k:Nat) (e:Ex) (p:PS) (a:AtF) (p' : PS),bG vm ext k e p=some (a,p')→p.nm≤p'.nm:=by
 intro k
 induction k with
 | zero=>intro e p a p' h;cases h
 | succ k ih =>
   intro e p a p' h;simp only[bG] at h;cases h1:(Nat.beq e.k 1 || Nat.beq e.k 2) with
   | true=>rw[h1] at h;simp only[cond_true,SJ,PJ] at h;rw[h.2];exact Nat.le_refl _
   | false =>
     rw[h1] at h;simp only[cond_false] at h;cases h3:Nat.beq e.k 3 with
     | true =>
       rw[h3] at h;simp only[cond_true] at h
       split at h
       ·simp only[SJ,PJ] at h;rw[h.2];exact Nat.le_refl _
       ·cases h
     | false =>
       rw[h3] at h;simp only[cond_false] at h;cases h4:mN e.k with
       | true =>
         rw[h4] at h;simp only[cond_true] at h
         split at h
         ·rename_i x l p1 hat;have:=ly ih _ _ _ _ hat;simp only[SJ,PS.eq,PJ] at h;rw[← h.2];exact this
         ·cases h
       | false =>
         rw[h4] at h;simp only[cond_false] at h;cases h8:Nat.beq e.k 8 with
         | true =>
           rw[h8] at h;simp only[cond_true] at h
           split at h
           ·rename_i x y p1 hat;have:=ly ih _ _ _ _ hat;simp only[SJ,PS.eq,PJ] at h;rw[← h.2];have h9:p.nm≤p.mem.nm:=Nat.le_add_right _ _;exact Nat.le_trans h9 this
           ·cases h
         | false =>
           rw[h8] at h;simp only[cond_false] at h;cases h9:(Nat.beq e.k 9 || Nat.beq e.k 10) with
           | true =>
             rw[h9] at h;simp only[cond_true] at h
             split at h
             ·split at h
              ·rename_i x hl _ p1 hp;have:=ih _ _ _ _ hp;simp only[SJ,PJ] at h;rw[← h.2];have h9:p.nm≤p.mem.nm:=Nat.le_add_right _ _;exact Nat.le_trans h9 this
              ·cases h
             ·cases h
           | false =>
             rw[h9] at h;simp only[cond_false] at h;cases h13:(Nat.beq e.k 13 || Nat.beq e.k 14) with
             | true=>rw[h13] at h;exact hx _ _ _ _ h
             | false=>rw[h13] at h;cases h
section
variable {M:Memo}{uo bo so vo fo:Nat}{LV:AV}{d:NdR}{vm:List (List Nat × Nat)}{fm:List (List Nat × AV)}{base:AV}
theorem Ae (m:eu M){f:Ex→PS→Option (AtF × PS)}(hf:∀ e p a p',f e p=some (a,p')→p.w≤p'.w)(hn:∀ e p a p',f e p=some (a,p')→p.nm≤p'.nm)(hb:iy base){e x:Ex}(h9:(Nat.beq e.k 9 || Nat.beq e.k 10)=true)(hkl:e.kids.length≤90000)(hlast:e.kids.getLast?=some x)(ihx:fD M uo bo so vo fo LV d (iu vm) fm base f x)
  {H:Heap} {u:UN} {a:AtF} {p1:PS} (hx:f x u.p.mem=some (a,p1)) (C:Cx uo bo so vo fo LV d (iu vm) fm base H u) (hw:p1.w + 20 < 1000000) :
  ∃ H' u',orc CC M 84 [.ptr bo 0,.ptr so 0,e.v,.nils] H=some (.ret (AtF.av ⟨false,0,u.vars⟩) H' uo)∧UI uo H' u'∧Gr uo H u.ns H' u'.ns∧u'.p=p1∧Same u u':=by
 have hmw:=hf _ _ _ _ hx;have hmw2:=zg u.p;have hpw:=UN.pw u;have hnm:=hn _ _ _ _ hx;have C0:=C.ap [bH e,zA];obtain ⟨init,hinit⟩ : ∃ init:Int,init=cond (Nat.beq e.k 9) ((e.kids.headD x).n) 0:=⟨_,rfl⟩;obtain ⟨Hm,k,id,hM,hk6,U1,G1⟩:=zb m C0.U C0.b C0.nb (by omega) init (on:=gv0) (.inr rfl)
 have C1:=C0.step U1 G1;generalize hu1:({ u with vars:=u.vars + 1,ms:=u.ms ++ [.int .i64 (u.vars:Int),.int .i64 init,.bool false,.int .i64 0,.int .i64 0,gv0],Ms:=.rsl id 0 (k + 1) (k + 1) 6 }:UN)=u1 at U1 G1 C1
 have hp1:u1.p=u.p.mem:=by rw[← hu1];simp[UN.p,PS.mem]
 have S1:Same u u1:=by rw[← hu1];exact ⟨rfl,rfl,rfl,rfl⟩
 have C2:=C1.ap [.cells [.bool false,.int .i64 0,.int .i64 (u.vars:Int)]];obtain ⟨H2,u2,e2,hA,U2,G2,hp2,S2,hD⟩:=ihx _ u1 a p1 (by rw[hp1];exact hx) C2 (by omega)
 have C3:=(C2.step U2 G2).ap [.cells [.bool a.c,.int .i64 a.n,.int .i64 (a.v:Int)]];have hms2:u2.ms.length=p1.nm:=by rw[← hp2];rfl
 have hnm2:k * 6 + 6≤u2.ms.length:=by rw[hms2];simp only[PS.mem,UN.p] at hnm;omega
 obtain ⟨id2,n2,hMs2,hn2⟩ : ∃ id2 n2,u2.Ms=.rsl id2 0 n2 n2 6∧k < n2:=by
  rcases U2.m with ⟨h0,_⟩ | ⟨id2,n2,h0,_,_,hl,_⟩
  ·rw[h0] at hnm2;simp at hnm2
  ·exact ⟨id2,n2,h0,by omega⟩
 obtain ⟨U4,G4,hg4,hid4⟩:=C3.U.setM (v:=[.bool a.c,.int .i64 a.n,.int .i64 (a.v:Int)]) (off:=k * 6 + 2) hMs2 rfl (fun L=>rfl) (by simp;omega)
 have hst4:∀ ee,ay 3 (.ptr id2 ((k * 6).add 2)) (.agg [.bool a.c,.int .i64 a.n,.int .i64 (a.v:Int)]) ⟨H2 ++ [.cells [.bool a.c,.int .i64 a.n,.int .i64 (a.v:Int)]],ee⟩=some ⟨ai (H2 ++ [.cells [.bool a.c,.int .i64 a.n,.int .i64 (a.v:Int)]]) id2 (.cells (cm u2.ms (k * 6 + 2) [.bool a.c,.int .i64 a.n,.int .i64 (a.v:Int)])),ee⟩:=fun ee=>Fb (off:=k * 6 + 2) hg4 rfl (by rw[aj];omega) rfl rfl
 have C4:=C3.step U4 G4;have K2:Gr uo (H ++ [bH e,zA]) u.ns H2 u2.ns:=(G1.trans Gr.ap).trans G2;have K4:=(K2.trans (Gr.ap (K:=[.cells [.bool a.c,.int .i64 a.n,.int .i64 (a.v:Int)]]))).trans G4;generalize hH4:ai (H2 ++ [.cells [.bool a.c,.int .i64 a.n,.int .i64 (a.v:Int)]]) id2 (.cells (cm u2.ms (k * 6 + 2) [.bool a.c,.int .i64 a.n,.int .i64 (a.v:Int)]))=H4 at U4 G4 C4 hst4 K4
 have hu4p:({ u2 with ms:=cm u2.ms (k * 6 + 2) [.bool a.c,.int .i64 a.n,.int .i64 (a.v:Int)] }:UN).p=p1:=by
  rw[← hp2];simp only[UN.p,oI (cs:=u2.ms) (v:=[.bool a.c,.int .i64 a.n,.int .i64 (a.v:Int)]) (off:=k * 6 + 2) (by simp;omega)]
 have l1:=K4.loc C.U (j:=1) (by rw[aO,aO,bj];omega)
 have l1' : af H4 (aa H + 1)=some zA:=by rw[l1.1];rfl
 have m0:af (H ++ [bH e,zA]) (aa H)=some (bH e):=by rw[au];rfl
 have m0m:af Hm (aa H)=some (bH e):=by
  have:=(G1.loc C.U (j:=0) (by rw[aO,aO,bj];omega)).1
  rw[Nat.add_zero] at this;rw[this];rfl
 have kk:=((G2.trans (Gr.ap (K:=[.cells [.bool a.c,.int .i64 a.n,.int .i64 (a.v:Int)]]))).trans G4).loc (H:=Hm) (K:=[.cells [.bool false,.int .i64 0,.int .i64 (u.vars:Int)]]) (u:=u1) U1 (j:=0) (by rw[aO,bj];omega)
 have kk' : af H4 (aa Hm)=some (.cells [.bool false,.int .i64 0,.int .i64 (u.vars:Int)]):=by have:=kk.1;rw[Nat.add_zero] at this;rw[this];rfl
 have huo:=C.U.uo;have h4n:aa H + 1 ∉ u2.ns:=l1.2.1;refine ⟨ai H4 (aa H + 1) (.cells [.bool false,.int .i64 0,.int .i64 (u.vars:Int)]),_,?_,U4.to (by rw[ak];exact Nat.le_refl _) (fun q hq hn=>ae (by rintro rfl;rcases hn with h | h;(omega);exact h4n h) _),(Gr.ap.trans K4).put2 (by omega),hu4p,⟨S2.nd.trans S1.nd,S2.at_.trans S1.at_,S2.I.trans S1.I,S2.O.trans S1.O⟩⟩
 refine aH (z:=z84) (m _ _ rfl) (by kernel_rfl) rfl ?_
 have e0:(envOf [.ptr bo 0,.ptr so 0,e.v,.nils] 0 env0).a.a.a=.ptr bo 0:=rfl;have e1:(envOf [.ptr bo 0,.ptr so 0,e.v,.nils] 0 env0).a.a.b=.ptr so 0:=rfl;have e2' : (envOf [.ptr bo 0,.ptr so 0,e.v,.nils] 0 env0).a.a.c=e.v:=rfl;have e3:(envOf [.ptr bo 0,.ptr so 0,e.v,.nils] 0 env0).a.a.d=.nils:=rfl;generalize envOf [.ptr bo 0,.ptr so 0,e.v,.nils] 0 env0=R at e0 e1 e2' e3;have hbx:=fx e;have hlH:aa (H ++ [bH e,zA])=aa H + 2:=by rw[az];rfl
 have hgd0:=dW m hb C0.s;rw[hlH] at hgd0;have hm1:min (aa H) (aa H + 2)=aa H:=Nat.min_eq_left (by omega)
 have hm2:min (aa H) uo=uo:=Nat.min_eq_right (by omega)
 have hm4:min uo e2=uo:=by
  rcases hD with ⟨h,_,_⟩ | h
  ·have:=C2.U.uo;omega
  ·omega
 have hE3:=C3.U.ob;have hb3:=C3.b;have hias:=GF (q:=id2) (k:=n2) (i:=k) hn2;have hzs:=fun c=>aK l1' c
 have hgc:=fun hp=>dU (keep:=CC.keep 84) (base:=aa H) (e:=uo) (v:=AtF.av ⟨false,0,u.vars⟩) (hp:=hp) (by omega)
 have m0m':=ar m0m [.cells [.bool false,.int .i64 0,.int .i64 (u.vars:Int)]];have hln:=oM e
 obtain ⟨y,l,hkids⟩ : ∃ y l,e.kids=y :: l:=by
  cases hkk:e.kids with
  | nil=>rw[hkk] at hlast;cases hlast
  | cons y l=>exact ⟨y,l,rfl⟩
 have hsub:gG (e.kids.length:Int) 1=((e.kids.length - 1:Nat):Int):=by
  show gG (.ofNat e.kids.length) (.ofNat 1)=_;have h1:Nat.ble 1 e.kids.length=true:=by rw[dE,hkids];simp
  have h2:Nat.ble e.kids.length natMax=true:=by rw[dE,decide_eq_true_eq];unfold natMax;omega
  simp only[gG,h1,h2,Bool.and_self,cond_true];rfl
 have hlx:e.kids[e.kids.length - 1]?=some x:=by rw[← hlast,List.getLast?_eq_getElem?]
 have hix:=iz e _ x hlx;have hi0:bw 6 e.kv (.int .i64 0)=some (.iptr y.v.cells):=iz e 0 y (by rw[hkids];rfl)
 have hfa:∀ a b c d e f:AV,aE 2 (.iptr [a,b,c,d,e,f])=some (.iptr [c,d,e,f]):=fun _ _ _ _ _ _=>rfl
 have hld:∀ (c d e f:AV) (h:Heap),ax none (.iptr [c,d,e,f]) h=some c:=fun _ _ _ _ _=>rfl
 have hsx:=kT a;cases h9' : Nat.beq e.k 9 with
 | true =>
   have hk9:=Nat.eq_of_beq_eq_true h9';have c8:decide ((e.k:Int)=8)=false:=by rw[hk9];rfl
   have c9:decide ((e.k:Int)=9)=true:=by rw[hk9];rfl
   have hin:init=y.n:=by rw[hinit,h9',hkids];rfl
   rw[hin] at hM;simp only[z84,zB,yB,Bi,DJ,FF,Ch,wd,vN,vV,wy,SIM,ST0,ST1,e0,e1,e2',e3,hbx,c8,c9,hi0,hfa,hld,hgd0,hM,hm1,hm2,m0,m0m,m0m',hln,hsub,hix,hA,hm4,hE3,hb3,yI,hMs2,hias,hst4,kk',l1',hzs,hgc,EXS,Nat.min_self,Nat.reduceAdd,Nat.reduceLeDiff]
 | false =>
   rw[h9',Bool.false_or] at h9;have hk10:=Nat.eq_of_beq_eq_true h9;have c8:decide ((e.k:Int)=8)=false:=by rw[hk10];rfl
   have c9:decide ((e.k:Int)=9)=false:=by rw[hk10];rfl
   have hin:init=0:=by rw[hinit,h9'];rfl
   rw[hin] at hM;simp only[z84,zB,yB,Bi,DJ,FF,Ch,wd,vN,vV,wy,SIM,ST0,ST1,e0,e1,e2',e3,hbx,c8,c9,hi0,hfa,hld,hgd0,hM,hm1,hm2,m0,m0m,m0m',hln,hsub,hix,hA,hm4,hE3,hb3,yI,hMs2,hias,hst4,kk',l1',hzs,hgc,EXS,Nat.min_self,Nat.reduceAdd,Nat.reduceLeDiff]
end
section
variable {M:Memo}{uo bo so vo fo:Nat}{LV:AV}{d:NdR}{vm:List (List Nat × Nat)}{fm:List (List Nat × AV)}{base:AV}
theorem tN (m:eu M){e:Ex}(hk:e.k=8∨e.k=9∨e.k=10){H:Heap}{u u' : UN}{H1:Heap}{v:Nat}(C:Cx uo bo so vo fo LV d (iu vm) fm base H u)
  (hA:orc CC M 84 [.ptr bo 0,.ptr so 0,e.v,.nils] (H ++ [bH e,zA])=some (.ret (AtF.av ⟨false,0,v⟩) H1 uo)) (U1:UI uo H1 u') (G1:Gr uo (H ++ [bH e,zA]) u.ns H1 u'.ns) :
  ∃ H',orc CC M 74 [.ptr bo 0,.ptr so 0,e.v,.nils] H=some (.ret (AtF.av ⟨false,0,v⟩) H' uo)∧UI uo H' u'∧Gr uo H u.ns H' u'.ns:=by
 have l1:=G1.loc C.U (j:=1) (by rw[aO,aO,bj];omega)
 have l1' : af H1 (aa H + 1)=some zA:=by rw[l1.1];rfl
 have m0:af (H ++ [bH e,zA]) (aa H)=some (bH e):=by rw[au];rfl
 have huo:=C.U.uo;refine ⟨ai H1 (aa H + 1) (.cells [.bool false,.int .i64 0,.int .i64 (v:Int)]),?_,U1.to (by rw[ak];exact Nat.le_refl _) (fun q hq hn=>ae (by rintro rfl;rcases hn with h | h;(omega);exact l1.2.1 h) _),(Gr.ap.trans G1).put2 (by omega)⟩
 refine aH (z:=z74) (m _ _ rfl) (by kernel_rfl) rfl ?_
 have e0:(envOf [.ptr bo 0,.ptr so 0,e.v,.nils] 0 env0).a.a.a=.ptr bo 0:=rfl;have e1:(envOf [.ptr bo 0,.ptr so 0,e.v,.nils] 0 env0).a.a.b=.ptr so 0:=rfl;have e2:(envOf [.ptr bo 0,.ptr so 0,e.v,.nils] 0 env0).a.a.c=e.v:=rfl;have e3:(envOf [.ptr bo 0,.ptr so 0,e.v,.nils] 0 env0).a.a.d=.nils:=rfl;generalize envOf [.ptr bo 0,.ptr so 0,e.v,.nils] 0 env0=R at e0 e1 e2 e3;have hbx:=fx e;have cc:∀ j:Nat,j ≠ e.k→decide ((e.k:Int)=(j:Int))=false:=fun j hj=>by simp;omega
 have c1:decide ((e.k:Int)=1)=false:=cc 1 (by omega)
 have c2:decide ((e.k:Int)=2)=false:=cc 2 (by omega)
 have c3:decide ((e.k:Int)=3)=false:=cc 3 (by omega)
 have c4:decide ((e.k:Int)=4)=false:=cc 4 (by omega)
 have c5:decide ((e.k:Int)=5)=false:=cc 5 (by omega)
 have c6:decide ((e.k:Int)=6)=false:=cc 6 (by omega)
 have c7:decide ((e.k:Int)=7)=false:=cc 7 (by omega)
 have c11:decide ((e.k:Int)=11)=false:=cc 11 (by omega)
 have c12:decide ((e.k:Int)=12)=false:=cc 12 (by omega)
 have c13:decide ((e.k:Int)=13)=false:=cc 13 (by omega)
 have c14:decide ((e.k:Int)=14)=false:=cc 14 (by omega)
 have hm2:min (aa H) uo=uo:=Nat.min_eq_right (by omega)
 have hzs:=fun c=>aK l1' c
 have hgc:=fun hp=>dU (keep:=CC.keep 74) (base:=aa H) (e:=uo) (v:=AtF.av ⟨false,0,v⟩) (hp:=hp) (by omega)
 simp only[z74,fF,fI,fH,fG,gm,gL,iG,ig,jX,oP,oG,nw,rC,EN,SIM,ST0,ST1,ST2,ST3,ST4,e0,e1,e2,e3,hbx,m0,hA,hm2,l1',hzs,hgc,c1,c2,c3,c4,c5,c6,c7,c11,c12,c13,c14,EXS,Nat.reduceAdd,Nat.reduceLeDiff]
theorem iB (m:eu M){ext:Ex→PS→Option (AtF × PS)}(hx:∀ e p a p',ext e p=some (a,p')→p.w≤p'.w)(hx2:∀ e p a p',ext e p=some (a,p')→p.nm≤p'.nm)(hb:iy base)
  (hext:∀ (k:Nat) (e:Ex),(Nat.beq e.k 13 || Nat.beq e.k 14)=true→sizeE e < 90000→fD M uo bo so vo fo LV d (iu vm) fm base (bG vm ext (k + 1)) e) :
  ∀ (k:Nat)(e:Ex),sizeE e < 90000→fD M uo bo so vo fo LV d (iu vm) fm base (bG vm ext k) e:=by
 intro k
 induction k with
 | zero=>intro e he H u a p' h;cases h
 | succ k ih =>
   intro e he;have hsk:=fk e;have hlk:=sizeL_len e.kids;have ihk:∀ a ∈ e.kids,fD M uo bo so vo fo LV d (iu vm) fm base (bG vm ext k) a:=fun a ha=>ih a (by have:=dJ ha;omega)
   cases h1:(Nat.beq e.k 1 || Nat.beq e.k 2) with
   | true=>exact Gi m ext k h1
   | false =>
     cases h3:Nat.beq e.k 3 with
     | true=>exact Cv m ext k (Nat.eq_of_beq_eq_true h3)
     | false =>
       cases h4:mN e.k with
       | true=>exact HF m hx hb k h4 (by omega) ihk
       | false =>
         cases h8:Nat.beq e.k 8 with
         | true =>
           intro H u a p' hxx C hw;have hk8:=Nat.eq_of_beq_eq_true h8;simp only[bG,h1,h3,h4,h8,cond_true,cond_false] at hxx
           split at hxx
           ·rename_i a0 b0 p1 hat;simp only[SJ] at hxx;have hpw:=Cc p1 [105,102] [⟨false,0,u.p.vars⟩,a0,b0];rw[hxx] at hpw;simp only at hpw;obtain ⟨H1,u1,hA,U1,G1,hp1,S1⟩:=tu m (gk hx k) hb hk8 (by omega) ihk hat (C.ap [bH e,zA]) (by omega)
            obtain ⟨H',hR,U',G'⟩:=tN m (.inl hk8) C hA U1 G1;have hfst:=congrArg Prod.fst hxx;have hsnd:=congrArg Prod.snd hxx;simp only[PS.eq] at hfst;refine ⟨H',u1,uo,by rw[← hfst];exact hR,U',G',by rw[hp1];exact hsnd,S1,.inr rfl⟩
           ·cases hxx
         | false =>
           cases h9:(Nat.beq e.k 9 || Nat.beq e.k 10) with
           | true =>
             intro H u a p' hxx C hw
             have hk9:e.k=9∨e.k=10:=by
              rw[Bool.or_eq_true] at h9;exact h9.imp Nat.eq_of_beq_eq_true Nat.eq_of_beq_eq_true
             simp only[bG,h1,h3,h4,h8,h9,cond_true,cond_false] at hxx
             split at hxx
             ·rename_i x hl
              split at hxx
              ·rename_i a0 p1 hpx;simp only[SJ,PJ] at hxx;obtain ⟨rfl,rfl⟩:=hxx;have hmem:x ∈ e.kids:=List.mem_of_getLast? hl;obtain ⟨H1,u1,hA,U1,G1,hp1,S1⟩:=Ae m (gk hx k) (kI hx2 k) hb h9 (by omega) hl (ihk x hmem) hpx (C.ap [bH e,zA]) hw
               obtain ⟨H',hR,U',G'⟩:=tN m (.inr hk9) C hA U1 G1;exact ⟨H',u1,uo,hR,U',G',hp1,S1,.inr rfl⟩
              ·cases hxx
             ·cases hxx
           | false =>
             cases h13:(Nat.beq e.k 13 || Nat.beq e.k 14) with
             | true=>exact hext k e h13 he
             | false =>
               intro H u a p' hxx;simp only[bG,h1,h3,h4,h8,h9,h13,cond_false] at hxx;cases hxx
end
theorem atl_same:∀ l:List AtF,sameL (l.map AtF.av) (l.map AtF.av)=true
 | []=>by simp[sameL]
 | a :: l=>by rw[List.map_cons];simp[sameL,kT,atl_same l]
theorem Ga (q:EqF)(h:iy q.on):AV.same q.av q.av=true:=by
 rcases h with h | h <;> simp[AV.same,sameL,atl_same,h]
theorem eqfl_same:∀ l:List EqF,(∀ q ∈ l,iy q.on)→sameL (l.map EqF.av) (l.map EqF.av)=true
 | [],_=>by simp[sameL]
 | a :: l,h=>by
   rw[List.map_cons];simp only[sameL,Ga a (h a (List.mem_cons_self ..)),eqfl_same l (fun q hq=>h q (List.mem_cons_of_mem _ hq)),Bool.and_self]
theorem UI.esame {uo:Nat}{H:Heap}{u:UN}(h:UI uo H u):AV.same u.E u.E=true:=by
 rcases h.e with ⟨_,h1⟩ | ⟨_,id,g,h1,_⟩
 ·rw[h1];simp[AV.same]
 ·rw[h1];simp[AV.same,eqfl_same u.eqs h.el]
theorem BO (a:AV)(lin:Lin):bq CC 88 (.sl 3 [a] lin) (some (.int .i64 0)) (some (.int .i64 1)) none=some (.sl 3 [a] lin):=by kernel_rfl
theorem cc120:∃ e,CC.P.underlying 80=some (.slice e)∧e=112:=⟨_,by kernel_rfl,rfl⟩
theorem NP (a:AV)(q:Lin):bF CC 80 (.sl 2 [a] q)=some (.int .i64 1):=by
 obtain ⟨e,hu,_⟩:=cc120;rw[dB hu];rfl
abbrev qO (q:EqR):AObj:=.cells (qR q.l .dead q.a q.e)
theorem qL (q:EqR):gF q.v=true:=by
 have:=eq_noN [q];simp only[List.map_cons,List.map_nil,bJ,noNL_nil] at this;cases h:gF q.v with
 | true=>rfl
 | false=>rw[h] at this;cases this
theorem pM (q:EqR):(qR q.l .dead q.a q.e).all AV.one=true:=by
 simp only[List.all_cons,List.all_nil,iU,gb,eO,eL,lP,Bool.and_self]
theorem DY (q:EqR)(L:Nat):eW q.v L=some (qO q,(.ptr · 0)):=by
 have h1:q.v.low L=true:=(dq _ (qL q)).2 L;unfold eW;rw[if_pos ⟨pM q,h1⟩];rfl
def mI (f:Ex→PS→Option (AtF × PS))(vm:List (List Nat × Nat))(nm:List Nat)(e:Ex)(p:PS):Option PS:=match fp nm vm with
 | none=>none
 | some v=>match f e p with
   | none=>none
   | some (a,p1)=>some { p1 with eqs:=p1.eqs ++ [⟨[99,111,112,121],v,[a]⟩] }
theorem GM (a b c d e f g h:AV):af [a,b,c,d,e,f,g,h] 0=some a:=rfl
theorem xd (a b c d e f g h:AV):eK (some 6) [a,b,c,d,e,f,g,h] 2=some (.agg [c,d,e,f,g,h]):=rfl
section
variable {M:Memo}{uo bo so vo fo:Nat}{LV:AV}{d:NdR}{vm:List (List Nat × Nat)}{fm:List (List Nat × AV)}{base:AV}
theorem Ij (m:eu M){f:Ex→PS→Option (AtF × PS)}(hf:∀ e p a p',f e p=some (a,p')→p.w≤p'.w)(hb:iy base)(hl:(cA d).length≤90000)(hcl:∀ x ∈ cA d,x.c=[]){e:Ex}{nm:List Nat}{pos:Nat}(hk:Nat.beq e.k 13=false)(he:fD M uo bo so vo fo LV d (iu vm) fm base f e)
  {H:Heap} {u:UN} {p' : PS} (hg:mI f vm nm e u.p=some p') (C:Cx uo bo so vo fo LV d (iu vm) fm base H u) (hw:p'.w + 20 < 1000000) :
  ∃ H' u',orc CC M 50 [.ptr bo 0,.ptr so 0,EqR.v ⟨[(nm,pos)],false,e⟩] H=some (.ret Abs.undef H' uo)∧UI uo H' u'∧Gr uo H u.ns H' u'.ns∧u'.p=p'∧Same u u':=by
 unfold mI at hg
 split at hg
 ·cases hg
 ·rename_i v hv
  split at hg
  ·cases hg
  ·rename_i a p1 hp;simp only[SJ] at hg
   have hw1:p1.w + 21 < 1000000:=by
    rw[← hg] at hw;simp only[PS.w,List.length_append,List.length_cons,List.length_nil] at hw ⊢;omega
   let q:EqR:=⟨[(nm,pos)],false,e⟩
   have C0:=C.ap [qO ⟨[(nm,pos)],false,e⟩];have hat:dn f [e] u.p=some ([a],p1):=by simp only[dn,hp]
   obtain ⟨H1,u1,e1,V1,hA,hL,U1,G1,hp1,S1,hD⟩:=nC (V:=.sl 6 [e.v] .lit) m hf (kids:=[e]) (by simp) (fun x hx=>by simp only[List.mem_singleton] at hx;rw[hx];exact he) (fun i x hx=>by
    cases i with
    | zero=>simp only[List.getElem?_cons_zero,SJ] at hx;subst hx;exact da (v:=e.v) rfl
    | succ i=>simp at hx) (by obtain ⟨e',hu',rfl⟩:=cc121;rw[dB hu'];rfl) C0 hat (by omega)
   obtain ⟨h0,_⟩ | ⟨_,lin,rfl,hlin⟩:=hL
   ·cases h0
   have C1:=C0.step U1 G1;have C2:=C1.ap [.cells [.str nm,.int .i64 (pos:Int)]];obtain ⟨V',H3,ha,hu3,hl3,hf3,hst,U4,G4⟩:=C2.U.addE 50 ⟨[99,111,112,121],v,[a],lin,gv0⟩ ⟨.inr rfl,Lin.low_mono (by rw[az];omega) _ hlin⟩ (by rw[← hp1,UN.pw] at hw1;omega)
   have huo:=C.U.uo;have K1:=G1.trans (Gr.ap (K:=[.cells [.str nm,.int .i64 (pos:Int)]]));have l0:=K1.loc C.U (j:=0) (by rw[aO,bj];omega)
   have l0' : af (H1 ++ [.cells [.str nm,.int .i64 (pos:Int)]]) (aa H)=some (qO ⟨[(nm,pos)],false,e⟩):=by have:=l0.1;rw[Nat.add_zero] at this;rw[this];rfl
   have l01:af H1 (aa H)=some (qO ⟨[(nm,pos)],false,e⟩):=by
    have:=(G1.loc C.U (j:=0) (by rw[aO,bj];omega)).1
    rw[Nat.add_zero] at this;rw[this];rfl
   have m0:af (H ++ [qO ⟨[(nm,pos)],false,e⟩]) (aa H)=some (qO ⟨[(nm,pos)],false,e⟩):=by rw[au];rfl
   have hb3:af H3 bo=some (.cells [.ptr uo 0,LV]):=by rw[hf3 bo (bL C2.b) (fun hm=>C2.nb (bM.2 (.inl hm))),C2.b]
   refine ⟨_,_,?_,U4,(Gr.ap.trans K1).trans G4,by rw[← hg,← hp1];simp[UN.p,EqF.q],⟨S1.nd,S1.at_,S1.I,S1.O⟩⟩
   refine aH (z:=z50) (m _ _ rfl) (by kernel_rfl) rfl ?_
   have e0:(envOf [.ptr bo 0,.ptr so 0,EqR.v ⟨[(nm,pos)],false,e⟩] 0 env0).a.a.a=.ptr bo 0:=rfl;have e1' : (envOf [.ptr bo 0,.ptr so 0,EqR.v ⟨[(nm,pos)],false,e⟩] 0 env0).a.a.b=.ptr so 0:=rfl;have e2:(envOf [.ptr bo 0,.ptr so 0,EqR.v ⟨[(nm,pos)],false,e⟩] 0 env0).a.a.c=EqR.v ⟨[(nm,pos)],false,e⟩:=rfl;generalize envOf [.ptr bo 0,.ptr so 0,EqR.v ⟨[(nm,pos)],false,e⟩] 0 env0=R at e0 e1' e2;have hbx:=DY ⟨[(nm,pos)],false,e⟩;have hof:=vE m hl hcl nm C0.s;have hlH:aa (H ++ [qO ⟨[(nm,pos)],false,e⟩])=aa H + 1:=by rw[az];rfl
   rw[hlH] at hof;have hgd:=dW m hb C2.s;have hl1:aa (H1 ++ [AObj.cells [.str nm,.int .i64 (pos:Int)]])=aa H1 + 1:=by rw[az];rfl
   rw[hl1] at hgd;have hm1:min (aa H) (aa H + 1)=aa H:=Nat.min_eq_left (by omega)
   have hlu:uo < aa H1:=U1.uo;have c13:decide ((e.k:Int)=13)=false:=by rw[show decide ((e.k:Int)=13)=Nat.beq e.k 13 from vf e.k 13];exact hk
   have hi0:bw 2 (.sl 2 ([(nm,pos)].map p0) .dead) (.int .i64 0)=some (.iptr [.str nm,.int .i64 (pos:Int)]):=rfl;have hfa0:∀ a b:AV,aE 0 (.iptr [a,b])=some (.iptr [a,b]):=fun _ _=>rfl
   have hld:∀ (a b:AV) (h:Heap),ax none (.iptr [a,b]) h=some a:=fun _ _ _=>rfl
   have hx1:=Pv e;have hln:=NP (p0 (nm,pos)) .dead;have hln' : bF CC 80 (.sl 2 ([(nm,pos)].map p0) .dead)=some (.int .i64 1):=hln;have hc1:decide ((0:Int) < 1)=true:=by decide
   have hc2:decide ((1:Int) < 1)=false:=by decide
   have hlk:=kC (jj hv) C2.v;have ha01:cQ 0 1=1:=by decide
   have hsl:=BO a.av lin;have hV:[a].map AtF.av=[a.av]:=rfl;rw[hV] at hA;have h142:=zp [99,111,112,121] (v:Int) [a.av] lin (on:=gv0) (.inr rfl);have h83:=zC [99,111,112,121] (v:Int) [a.av] lin (on:=gv0) (.inr rfl);have hsE:=C2.U.esame;have hE2:=C2.U.ob;have hb2:=C2.b;have hs2:=C2.s;have hsu:AV.same (.ptr uo 0) (.ptr uo 0)=true:=by simp[AV.same]
   have hsv:AV.same (.map vo) (.map vo)=true:=by simp[AV.same]
   have hub:uo≤min (min (aa H) e1) (aa H1 + 1):=by
    rcases hD with ⟨h,_,_⟩ | h
    ·omega
    ·omega
   have hst':=hst _ hub;have hgc:=fun hp=>dU (keep:=CC.keep 50) (base:=aa H) (e:=uo) (v:=Abs.undef) (hp:=hp) (by omega)
   have hlz:∀ e:AObj,aa (H1 ++ [e])=aa H1 + 1:=fun e=>by rw[az];rfl
   have ha' : ∀ e l,aq CC 50 62 u1.E (.sl 4 [.agg [.str [99,111,112,121],.int .i64 (v:Int),.sl 3 [a.av] lin,gv0]] l) ⟨H1 ++ [.cells [.str nm,.int .i64 (pos:Int)]],e⟩=some (V',⟨H3,e⟩):=ha;have hname:af (H1 ++ [AObj.cells [.str nm,.int .i64 (pos:Int)]]) (aa H1)=some (.cells [.str nm,.int .i64 (pos:Int)]):=by rw[au];rfl
   simp only[z50,tF,sR,yu,y3,yb,w8,pe,qV,vY,xk,wA,iR,Sw,S6,SIM,ST0,ST1,ST2,ST3,e0,e1',e2,hbx,m0,GM,hi0,hfa0,hld,hof,hm1,c13,xd,EXS,hx1,hA,l01,l0',hln',hc1,hc2,hname,hb2,hE2,yX,hs2,wQ,hlk,ha01,hsl,hgd,hsE,hsu,hsv,h142,h83,ha',hb3,hst',hgc,Nat.reduceAdd,Nat.reduceLeDiff]
end
structure Nd (uo bo:Nat)(LV:AV)(d:NdR)(vm:List (List Nat × Nat))(fm:List (List Nat × AV))(base:AV)(H:Heap)(ns0:List Nat)(Hc:Heap)(uc:UN):Prop where
 C:Cx uo bo (aa H + 4) (aa H + 2) (aa H + 3) LV d (iu vm) fm base Hc uc
 x:af Hc (aa H)=some (.cells [.ptr bo 0])
 n:af Hc (aa H + 1)=some (dk d)
 x' : aa H ∉ uc.ns
 n' : aa H + 1 ∉ uc.ns
 G:Gr uo H ns0 Hc uc.ns
 uh:uo < aa H
 bh:bo < aa H
section
variable {uo bo:Nat}{LV:AV}{d:NdR}{vm:List (List Nat × Nat)}{fm:List (List Nat × AV)}{base:AV}{H Hc H' : Heap}{ns0:List Nat}{uc u' : UN}
theorem Nd.step (N:Nd uo bo LV d vm fm base H ns0 Hc uc)(U:UI uo H' u')(G:Gr uo Hc uc.ns H' u'.ns):Nd uo bo LV d vm fm base H ns0 H' u':=by
 have h1:=bL N.x;have h2:=bL N.n;have hu:=N.uh;exact ⟨N.C.step U G,by rw[G.fr _ h1 (by omega) N.x',N.x],by rw[G.fr _ h2 (by omega) N.n',N.n],fun hm=>(G.ns _ hm).elim N.x' (fun h=>by omega),fun hm=>(G.ns _ hm).elim N.n' (fun h=>by omega),N.G.trans G,N.uh,N.bh⟩
theorem Nd.ap (N:Nd uo bo LV d vm fm base H ns0 Hc uc)(K:Heap):Nd uo bo LV d vm fm base H ns0 (Hc ++ K) uc:=N.step N.C.U.ap Gr.ap
theorem Nd.vset (N:Nd uo bo LV d vm fm base H ns0 Hc uc){vm' : List (List Nat × Nat)}:Nd uo bo LV d vm' fm base H ns0 (ai Hc (aa H + 2) (.map (kE (iu vm')))) uc:=by
 have hu:=N.uh;have hb:=N.bh;refine ⟨⟨N.C.U.to (by rw[ak];exact Nat.le_refl _) (fun q hq hm=>ae ?_ _),by rw[ae (by omega)];exact N.C.b,by rw[ae (by omega)];exact N.C.s,aK N.C.v _,by rw[ae (by omega)];exact N.C.f,N.C.nb,N.C.ns,N.C.nv,N.C.nf⟩,by rw[ae (by omega)];exact N.x,by rw[ae (by omega)];exact N.n,N.x',N.n',N.G.put2 (by omega),N.uh,N.bh⟩
 rintro rfl
 rcases hm with h | h
 ·omega
 ·exact N.C.nv h
end
def RN (H:Heap)(base A F:AV)(r:RG):Prop:=r.a.a.f=.ptr (aa H) 0∧r.a.a.g=.ptr (aa H + 1) 0∧r.a.b.d=.ptr (aa H + 4) 0∧r.a.a.e=base∧r.a.a.c=A∧r.a.a.d=F
def PS.inc (p:PS):PS:={ p with vars:=p.vars + 1 }
theorem ze (p:PS):p.inc.w=p.w + 1:=by simp only[PS.inc,PS.w];omega
def placesP:List DeR→List (List Nat × Nat)→PS→Option (List (List Nat × Nat) × PS)
 | [],vm,p=>some (vm,p)
 | x :: l,vm,p=>cond x.f (placesP l vm p) (match fp x.s vm with
   | some _=>none
   | none=>placesP l (vm ++ [(x.s,p.vars)]) p.inc)
theorem placesP_w:∀ (l:List DeR) (vm vm' : List (List Nat × Nat)) (p p' : PS),placesP l vm p=some (vm',p')→p.w≤p'.w
 | [],vm,vm',p,p',h=>by simp only[placesP,SJ,PJ] at h;rw[h.2];exact Nat.le_refl _
 | x :: l,vm,vm',p,p',h=>by
   simp only[placesP] at h;cases hf:x.f with
   | true=>rw[hf] at h;exact placesP_w l _ _ _ _ h
   | false =>
     rw[hf] at h;simp only[cond_false] at h
     split at h
     ·cases h
     ·have:=placesP_w l _ _ _ _ h;have h2:=ze p;omega
theorem xR {nm:List Nat}:∀ {vm:List (List Nat × Nat)},fp nm vm=none→fc nm (iu vm)=none
 | [],h=>rfl
 | (s,w) :: r,h=>by
   simp only[fp] at h;simp only[iu,List.map_cons,fc];cases hs:strEq s nm with
   | true=>rw[hs] at h;cases h
   | false=>rw[hs] at h;simp only[cond_false] at h ⊢;exact xR h
theorem y5 {α:Type}(rec:RecT)(s s' : St)(ds:Dfs)(k:AV→Dfs→St→Option α)(kp:AV→St→Option α):oE rec (some (.skip s')) ds s k kp=k Abs.undef ds s':=rfl
theorem RU {nm:List Nat}{v:Int}{vm:List (List Nat × AV)}{vo:Nat}{H:Heap}{e:Nat}(h:fc nm vm=none)(hg:af H vo=some (.map (kE vm))) :
  bN CC 118 (.map vo) (.str nm) (.int .i64 v) ⟨H,e⟩=some ⟨ai H vo (.map (kE (vm ++ [(nm,.int .i64 v)]))),e⟩:=by
 obtain ⟨t,ht,_⟩:=MS nm;rw[aD] at hg;have hlow:∀ L,(AV.int .i64 v).low L=true:=fun L=>by simp[AV.low]
 have hesc:dR (.int .i64 v) vo ⟨H,e⟩=e:=by simp[dR,AV.low]
 simp only[bN,ht,hg,zV,hlow,mY 0 h,hesc,if_true,and_self];simp[kE,aN]
section
variable {M:Memo}{uo bo:Nat}{LV:AV}{d:NdR}{fm:List (List Nat × AV)}{base:AV}{H:Heap}{ns0:List Nat}
def Tl (uo bo:Nat)(LV:AV)(d:NdR)(fm:List (List Nat × AV))(base:AV)(H:Heap)(ns0:List Nat)(i:Nat)(A F:AV)(vm' : List (List Nat × Nat))(uc:UN)(p' : PS)(X:IRes):Prop :=
 ∃ r' Hd ud e',X=some (.exit i,r',[],⟨Hd,e'⟩)∧Nd uo bo LV d vm' fm base H ns0 Hd ud∧ud.p=p'∧Same uc ud∧uo≤e'∧RN H base A F r'
theorem mc (m:eu M){A F:AV}{L:List DeR}(hL:L.length≤90000){u0:UN}{p' : PS}{vm' : List (List Nat × Nat)}(hw:p'.w + 20 < 1000000) :
  ∀ (k i:Nat),k + i=L.length→∀ (fu:Nat),k < fu→∀ (Hc:Heap) (uc:UN) (e:Nat) (vm:List (List Nat × Nat)),placesP (L.drop i) vm uc.p=some (vm',p')→Nd uo bo LV d vm fm base H ns0 Hc uc→Same u0 uc→uo≤e→∀ (r:RG),RN H base A F r →
  (r.a.e.a=allZ L∧r.a.e.b=.int .i64 (L.length:Int)∧r.a.e.c=.int .i64 (i:Int)) →
  Tl uo bo LV d fm base H ns0 0 A F vm' u0 p' (aw (qF (orc CC M)) fu r [] ⟨Hc,e⟩):=by
 intro k
 induction k with
 | zero =>
   intro i hi fu hfu Hc uc e vm hp N S he r hr ⟨h32,h33,h34⟩;obtain ⟨fu',rfl⟩ : ∃ f,fu=f + 1:=⟨fu - 1,by omega⟩
   have:i=L.length:=by omega
   subst this;have hc:decide ((L.length:Int) < (L.length:Int))=false:=by simp
   rw[List.drop_length] at hp;simp only[placesP,SJ,PJ] at hp;obtain ⟨rfl,rfl⟩:=hp;simp only[aw,qF,yS,SIM,ST0,ST1,h33,h34,hc];exact ⟨_,Hc,uc,e,rfl,N,rfl,S,he,by first | exact hr⟩
 | succ k ih =>
   intro i hi fu hfu Hc uc e vm hp N S he r hr ⟨h32,h33,h34⟩;obtain ⟨hr5,hr6,hr11,hr4,hr2,hr3⟩:=hr;obtain ⟨fu',rfl⟩ : ∃ f,fu=f + 1:=⟨fu - 1,by omega⟩
   have hlt:i < L.length:=by omega
   have hc:decide ((i:Int) < (L.length:Int))=true:=by simp;omega
   have hd:L.drop i=L[i] :: L.drop (i + 1):=List.drop_eq_getElem_cons hlt;have hg:L[i]?=some L[i]:=by simp[hlt]
   generalize L[i]=a at hg hd;have hat:=uZ hg;have ha:cQ (i:Int) 1=((i + 1:Nat):Int):=bA i 1 (by unfold natMax;omega)
   rw[hd] at hp;simp only[placesP] at hp;have N1:=N.ap [.cells a.l];cases haf:a.f with
   | true =>
     rw[haf] at hp;simp only[cond_true] at hp;have hnf:(!a.f)=false:=by rw[haf];rfl
     have key:=ih (i + 1) (by omega) fu' (by omega) (Hc ++ [.cells a.l]) uc e vm hp N1 S he
     simp only[aw,qF,yS,Cg,BD,E3,SIM,ST0,ST1,h32,h33,h34,hc,hat,ha,hnf,Nat.reduceAdd,Nat.reduceLeDiff];exact key _ ⟨by first | rfl | exact hr5,by first | rfl | exact hr6,by first | rfl | exact hr11,by first | rfl | exact hr4,by first | rfl | exact hr2,by first | rfl | exact hr3⟩ ⟨by first | rfl | exact h32,by first | rfl | exact h33,rfl⟩
   | false =>
     rw[haf] at hp;simp only[cond_false] at hp
     split at hp
     ·cases hp
     ·rename_i hlk;have hnf:(!a.f)=true:=by rw[haf];rfl
      have hw1:=placesP_w _ _ _ _ _ hp;have hpw:=UN.pw uc
      obtain ⟨H1,hP,U1,G1,hl1⟩:=mV m N1.C.U N1.C.b (by
       have h2:=ze uc.p;omega)
      have N2:=N1.step (u':={ uc with vars:=uc.vars + 1 }) U1 G1
      have N3:=N2.vset (vm':=vm ++ [(a.s,uc.vars)]);have key:=ih (i + 1) (by omega) fu' (by omega) (ai H1 (aa H + 2) (.map (kE (iu (vm ++ [(a.s,uc.vars)]))))) { uc with vars:=uc.vars + 1 } (min e (aa Hc + 1)) (vm ++ [(a.s,uc.vars)]) hp N3 ⟨S.nd,S.at_,S.I,S.O⟩ (by have:=N.C.U.uo;omega)
      have hmu:=fun ee=>RU (e:=ee) (v:=(uc.vars:Int)) (xR hlk) N2.C.v
      have hkE:iu vm ++ [(a.s,AV.int .i64 (uc.vars:Int))]=iu (vm ++ [(a.s,uc.vars)]):=by simp
      rw[hkE] at hmu;have hx:=N1.x;have hs:=N1.C.s;have hs2:=N2.C.s;have hdo:af (Hc ++ [AObj.cells a.l]) (aa Hc)=some (.cells a.l):=by rw[au];rfl
      have hdo2:af H1 (aa Hc)=some (.cells a.l):=by
       rw[G1.fr (aa Hc) (by rw[az,aO,bj];omega) (by have:=N.C.U.uo;omega) (fun hm=>by have:=(N.C.U.lt _ hm).2;omega),hdo]
      have hlz:aa (Hc ++ [AObj.cells a.l])=aa Hc + 1:=by rw[az];rfl
      rw[hlz] at hP;have hsv:AV.same (.map (aa H + 2)) (.map (aa H + 2))=true:=by simp[AV.same]
      simp only[aw,qF,yS,Cg,BD,KU,E3,SIM,ST0,ST1,h32,h33,h34,hr5,hr11,hc,hat,ha,hnf,hx,hs,wQ,hdo,hP,hs2,hdo2,hsv,hmu,orSt,y5,Nat.reduceAdd,Nat.reduceLeDiff];exact key _ ⟨by first | rfl | exact hr5,by first | rfl | exact hr6,by first | rfl | exact hr11,by first | rfl | exact hr4,by first | rfl | exact hr2,by first | rfl | exact hr3⟩ ⟨by first | rfl | exact h32,by first | rfl | exact h33,rfl⟩
end
theorem cs139:CC.P.underlying 88=some (.slice 97)∧dh CC 97=some 3:=⟨by kernel_rfl,by kernel_rfl⟩
theorem cs148:CC.P.underlying 89=some (.slice 95)∧dh CC 95=some 2:=⟨by kernel_rfl,by kernel_rfl⟩
def hdL (lin:Lin)(l:List AV):Lin:=if l=[] then lin else if lin=.frz then .frz else .dead
def MJ (lin:Lin):Lin:=if lin=.lit then .full else lin
theorem AR {T e k:Nat}(h:CC.P.underlying T=some (.slice e)∧dh CC e=some k)(a:AV)(l:List AV)(lin:Lin):bq CC T (.sl k (a :: l) lin) none (some (.int .i64 1)) none=some (.sl k [a] (hdL lin l)):=by
 obtain ⟨h1,h2⟩:=h;have hb:cg 0 none=some 0:=rfl;have hb1:∀ n,cg n (some (.int .i64 1))=some 1:=fun n=>rfl
 simp only[bq,h1,h2,hb,hb1];rw[if_pos (by simp)]
 simp only[List.length_cons,List.take_succ_cons,List.take_zero,List.drop_zero];unfold hdL;cases l with
 | nil=>simp
 | cons b l=>simp
theorem ut {T e k:Nat}(h:CC.P.underlying T=some (.slice e)∧dh CC e=some k)(a:AV)(l:List AV)(lin:Lin):bq CC T (.sl k (a :: l) lin) (some (.int .i64 1)) none none=some (.sl k l (MJ lin)):=by
 obtain ⟨h1,h2⟩:=h;have hb:cg 0 (some (.int .i64 1))=some 1:=rfl;have hb1:∀ n,cg n none=some n:=fun n=>rfl
 simp only[bq,h1,h2,hb,hb1];rw[if_pos (by simp)]
 simp[MJ]
theorem HY {lin:Lin}{l:List AV}{L:Nat}(h:lin.low L=true):(hdL lin l).low L=true:=by
 unfold hdL
 split
 ·exact h
 ·split
  ·rfl
  ·rfl
theorem Iy {lin:Lin}{L:Nat}(h:lin.low L=true):(MJ lin).low L=true:=by
 unfold MJ
 split
 ·rfl
 ·exact h
def AL (xs:List AtF)(A:AV)(L:Nat):Prop:=(xs=[]∧A=.nils)∨∃ lin,A=.sl 3 (xs.map AtF.av) lin∧lin.low L=true
def FL (fs:List (Int × Int))(F:AV):Prop:=(fs=[]∧F=.nils)∨∃ lin,F=.sl 2 (fs.map iw) lin
abbrev cpS:List Nat:=[99,111,112,121]
def ka (vm:List (List Nat × Nat)):List DeR→List AtF→List (Int × Int)→List (List Nat × AV)→PS→Option (List (List Nat × AV) × PS)
 | [],_,_,fm,p=>some (fm,p)
 | x :: l,xs,fs,fm,p=>cond x.f (match fs with
   | []=>none
   | o :: fs=>match fc x.s fm with
     | some _=>none
     | none=>ka vm l xs fs (fm ++ [(x.s,iw o)]) p) (match xs with
   | []=>none
   | a :: xs=>match fp x.s vm with
     | none=>none
     | some v=>ka vm l xs fs fm { p with eqs:=p.eqs ++ [⟨cpS,v,[a]⟩] })
theorem n9 {vm:List (List Nat × Nat)}:∀ (l:List DeR) (xs:List AtF) (fs:List (Int × Int)) (fm fm' : List (List Nat × AV)) (p p' : PS),ka vm l xs fs fm p=some (fm',p')→p.w≤p'.w
 | [],xs,fs,fm,fm',p,p',h=>by simp only[ka,SJ,PJ] at h;rw[h.2];exact Nat.le_refl _
 | x :: l,xs,fs,fm,fm',p,p',h=>by
   simp only[ka] at h;cases hf:x.f with
   | true =>
     rw[hf] at h;simp only[cond_true] at h
     split at h
     ·cases h
     ·split at h
      ·cases h
      ·exact n9 l _ _ _ _ _ _ h
   | false =>
     rw[hf] at h;simp only[cond_false] at h
     split at h
     ·cases h
     ·split at h
      ·cases h
      ·have:=n9 l _ _ _ _ _ _ h;simp only[PS.w,List.length_append,List.length_cons,List.length_nil] at this ⊢;omega
theorem n8 {L:List DeR}{i:Nat}{a:DeR}(h:L[i]?=some a):bw 6 (deZ L) (.int .i64 (i:Int))=some (.iptr a.l):=by
 cases L with
 | nil=>simp at h
 | cons b l =>
   show bw 6 (.sl 6 ((b :: l).map DeR.v) .dead) _=_;refine da (v:=a.v) ?_;rw[aD,List.getElem?_map,h];rfl
theorem gU (L:List DeR):bF CC 43 (deZ L)=some (.int .i64 (L.length:Int)):=by
 obtain ⟨e,hu,_⟩:=cc58;cases L with
 | nil=>show bF CC 43 .nils=_;rw[eo];simp[eY,hu]
 | cons a l=>show bF CC 43 (.sl 6 ((a :: l).map DeR.v) .dead)=_;rw[dB hu,List.length_map]
theorem Sc {nm:List Nat}{fm:List (List Nat × AV)}{fo:Nat}{H:Heap}{e:Nat}(h:fc nm fm=none)(hg:af H fo=some (.map (kE fm))) :
  dg CC 119 (.map fo) (.str nm) ⟨H,e⟩=some (.tuple [.agg [.int .i64 0,.int .i64 0],.int .i64 (fm.length:Int)],⟨ai H fo (.map (kE (fm ++ [(nm,.agg [.int .i64 0,.int .i64 0])]))),e⟩):=by
 obtain ⟨t,ht,rfl⟩:=Ew nm;have hz:cn CC 95=some (.agg [.int .i64 0,.int .i64 0]):=by kernel_rfl
 rw[aD] at hg;simp only[dg,ht,hg,zV,mY 0 h,hz,if_true];simp[kE,aN]
theorem QV {nm:List Nat}{v z:AV}{fm:List (List Nat × AV)}{fo:Nat}{H:Heap}{e:Nat}(hv:gF v=true)(hg:af H fo=some (.map (kE (fm ++ [(nm,z)])))) :
  cw (.map fo) (.int .i64 (fm.length:Int)) v ⟨H,e⟩=some ⟨ai H fo (.map (kE (fm ++ [(nm,v)]))),e⟩:=by
 have hlow:∀ L,v.low L=true:=fun L=>(dq v hv).2 L
 have hesc:dR v fo ⟨H,e⟩=e:=by simp[dR,hlow]
 have hn:cT (.int .i64 (fm.length:Int))=some fm.length:=by simp[cT]
 have hgi:(kE (fm ++ [(nm,z)]))[fm.length]?=some (.str nm,z):=by simp[kE]
 have hset:(kE (fm ++ [(nm,z)])).set fm.length (.str nm,v)=kE (fm ++ [(nm,v)]):=by
  simp only[kE,List.map_append,List.map_cons,List.map_nil];have h1:fm.length=(fm.map fun x:List Nat × AV=>(AV.str x.1,x.2)).length:=by simp
  rw[h1,List.set_append_right _ _ (Nat.le_refl _),Nat.sub_self];rfl
 rw[aD] at hg;simp only[cw,hn,hg,hgi,hlow,hesc,hset,if_true,aN]
section
variable {uo bo:Nat}{LV:AV}{d:NdR}{vm:List (List Nat × Nat)}{fm:List (List Nat × AV)}{base:AV}{H Hc H' : Heap}{ns0:List Nat}{uc u' : UN}
theorem Nd.fset (N:Nd uo bo LV d vm fm base H ns0 Hc uc){fm' : List (List Nat × AV)}:Nd uo bo LV d vm fm' base H ns0 (ai Hc (aa H + 3) (.map (kE fm'))) uc:=by
 have hu:=N.uh;have hb:=N.bh;refine ⟨⟨N.C.U.to (by rw[ak];exact Nat.le_refl _) (fun q hq hm=>ae ?_ _),by rw[ae (by omega)];exact N.C.b,by rw[ae (by omega)];exact N.C.s,by rw[ae (by omega)];exact N.C.v,aK N.C.f _,N.C.nb,N.C.ns,N.C.nv,N.C.nf⟩,by rw[ae (by omega)];exact N.x,by rw[ae (by omega)];exact N.n,N.x',N.n',N.G.put2 (by omega),N.uh,N.bh⟩
 rintro rfl
 rcases hm with h | h
 ·omega
 ·exact N.C.nf h
end
section
variable {M:Memo}{uo bo:Nat}{LV:AV}{d:NdR}{vm:List (List Nat × Nat)}{base:AV}{H:Heap}{ns0:List Nat}
def Tx (uo bo:Nat)(LV:AV)(d:NdR)(vm:List (List Nat × Nat))(fm' : List (List Nat × AV))(base:AV)(H:Heap)(ns0:List Nat)(u0:UN)(p' : PS)(X:IRes):Prop :=
 ∃ r' Hd ud e' A F,X=some (.exit 2,r',[],⟨Hd,e'⟩)∧Nd uo bo LV d vm fm' base H ns0 Hd ud∧ud.p=p'∧Same u0 ud∧uo≤e'∧RN H base A F r'
theorem uK (hb:iy base){L:List DeR}(hL:L.length≤90000){u0:UN}{p' : PS}{fm' : List (List Nat × AV)}(hw:p'.w + 20 < 1000000) :
  ∀ (k i:Nat),k + i=L.length→∀ (fu:Nat),k < fu→∀ (Hc:Heap) (uc:UN) (e:Nat) (xs:List AtF) (fs:List (Int × Int)) (A F:AV) (fm:List (List Nat × AV)),ka vm (L.drop i) xs fs fm uc.p=some (fm',p')→Nd uo bo LV d vm fm base H ns0 Hc uc→AL xs A (aa Hc)→FL fs F→Same u0 uc→uo≤e→∀ (r:RG),RN H base A F r →
  (r.a.g.e=deZ L∧r.a.g.f=.int .i64 (L.length:Int)∧r.a.g.g=.int .i64 (i:Int)) →
  Tx uo bo LV d vm fm' base H ns0 u0 p' (aw (lG (orc CC M)) fu r [] ⟨Hc,e⟩):=by
 intro k
 induction k with
 | zero =>
   intro i hi fu hfu Hc uc e xs fs A F fm hp N hA hF S he r hr ⟨h32,h33,h34⟩;obtain ⟨fu',rfl⟩ : ∃ f,fu=f + 1:=⟨fu - 1,by omega⟩
   have:i=L.length:=by omega
   subst this;have hc:decide ((L.length:Int) < (L.length:Int))=false:=by simp
   rw[List.drop_length] at hp;simp only[ka,SJ,PJ] at hp;obtain ⟨rfl,rfl⟩:=hp;simp only[aw,lG,rq,SIM,ST0,ST1,h33,h34,hc];exact ⟨_,Hc,uc,e,A,F,rfl,N,rfl,S,he,by first | exact hr⟩
 | succ k ih =>
   intro i hi fu hfu Hc uc e xs fs A F fm hp N hA hF S he r hr ⟨h32,h33,h34⟩;obtain ⟨hr5,hr6,hr11,hr4,hr2,hr3⟩:=hr;obtain ⟨fu',rfl⟩ : ∃ f,fu=f + 1:=⟨fu - 1,by omega⟩
   have hlt:i < L.length:=by omega
   have hc:decide ((i:Int) < (L.length:Int))=true:=by simp;omega
   have hd:L.drop i=L[i] :: L.drop (i + 1):=List.drop_eq_getElem_cons hlt;have hg:L[i]?=some L[i]:=by simp[hlt]
   generalize L[i]=a at hg hd;have hat:=n8 hg;have ha:cQ (i:Int) 1=((i + 1:Nat):Int):=bA i 1 (by unfold natMax;omega)
   rw[hd] at hp;simp only[ka] at hp;have N1:=N.ap [.cells a.l];have hdo:af (Hc ++ [AObj.cells a.l]) (aa Hc)=some (.cells a.l):=by rw[au];rfl
   have hlz:aa (Hc ++ [AObj.cells a.l])=aa Hc + 1:=by rw[az];rfl
   have hx:=N1.x;have hs:=N1.C.s;cases haf:a.f with
   | true =>
     have hcn:∀ x y:IRes,eX (.bool a.f) x y=x:=fun x y=>by rw[haf];rfl
     rw[haf] at hp;simp only[cond_true] at hp
     split at hp
     ·cases hp
     ·rename_i o fs'
      split at hp
      ·cases hp
      ·rename_i hlk;obtain ⟨h0,_⟩ | ⟨lin,rfl⟩:=hF
       ·cases h0
       have N2:=N1.fset (fm':=fm ++ [(a.s,iw o)]);have hme:=fun ee=>Sc (e:=ee) hlk N1.C.f
       have hfe:=aK N1.C.f (.map (kE (fm ++ [(a.s,.agg [.int .i64 0,.int .i64 0])])));have hes:=fun ee=>QV (v:=iw o) (e:=ee) rfl hfe
       have hss:∀ (h:Heap) (n:Nat) (x y:AObj),ai (ai h n x) n y=ai h n y:=fun h n x y=>dX h n x y
       have hi0:bw 2 (.sl 2 ((o :: fs').map iw) lin) (.int .i64 0)=some (.iptr [.int .i64 o.1,.int .i64 o.2]):=rfl;have hld:∀ (x y:AV) (h:Heap),ax (some 2) (.iptr [x,y]) h=some (.agg [x,y]):=fun _ _ _=>rfl
       have hsl:bq CC 89 (.sl 2 ((o :: fs').map iw) lin) (some (.int .i64 1)) none none=some (.sl 2 (fs'.map iw) (MJ lin)):=ut cs148 (iw o) (fs'.map iw) lin;have hso:AV.same (.agg [.int .i64 o.1,.int .i64 o.2]) (.agg [.int .i64 o.1,.int .i64 o.2])=true:=by simp[AV.same,sameL]
       have key:=ih (i + 1) (by omega) fu' (by omega) (ai (Hc ++ [.cells a.l]) (aa H + 3) (.map (kE (fm ++ [(a.s,iw o)])))) uc e xs fs' A (.sl 2 (fs'.map iw) (MJ lin)) (fm ++ [(a.s,iw o)]) hp N2 (hA.imp id (fun ⟨q,h1,h2⟩=>⟨q,h1,Lin.low_mono (by rw[ak,hlz];omega) _ h2⟩)) (.inr ⟨_,rfl⟩) S he
       simp only[aw,lG,rq,vR,wN,D5,w7,SIM,ST0,ST1,h32,h33,h34,hr11,hr3,hc,hat,ha,hcn,hs,sx,hdo,hi0,hld,hsl,hme,hes,hss,hso,orSt,orVal,y5,Nat.reduceAdd,Nat.reduceLeDiff];exact key _ ⟨by first | rfl | exact hr5,by first | rfl | exact hr6,by first | rfl | exact hr11,by first | rfl | exact hr4,by first | rfl | exact hr2,rfl⟩ ⟨by first | rfl | exact h32,by first | rfl | exact h33,rfl⟩
   | false =>
     have hcn:∀ x y:IRes,eX (.bool a.f) x y=y:=fun x y=>by rw[haf];rfl
     rw[haf] at hp;simp only[cond_false] at hp
     split at hp
     ·cases hp
     ·rename_i x xs'
      split at hp
      ·cases hp
      ·rename_i v hlk;obtain ⟨h0,_⟩ | ⟨lin,rfl,hlin⟩:=hA
       ·cases h0
       have hw1:=n9 _ _ _ _ _ _ _ hp;have hpw:=UN.pw uc
       obtain ⟨V',H3,hap,hu3,hl3,hf3,hst,U4,G4⟩:=N1.C.U.addE 36 ⟨cpS,v,[x],hdL lin (xs'.map AtF.av),base⟩ ⟨hb,HY (Lin.low_mono (by rw[hlz];omega) _ hlin)⟩ (by
        simp only[PS.w,List.length_append,List.length_cons,List.length_nil] at hw1 hw;simp only[UN.p,List.length_map] at hw1;omega)
       have N2:=N1.step U4 G4;have hb1:=N1.C.b;have hE1:=N1.C.U.ob;have hv1:=kC (jj hlk) N1.C.v;have hsl1:bq CC 88 (.sl 3 ((x :: xs').map AtF.av) lin) none (some (.int .i64 1)) none=some (.sl 3 [x.av] (hdL lin (xs'.map AtF.av))):=AR cs139 x.av (xs'.map AtF.av) lin;have hsl2:bq CC 88 (.sl 3 ((x :: xs').map AtF.av) lin) (some (.int .i64 1)) none none=some (.sl 3 (xs'.map AtF.av) (MJ lin)):=ut cs139 x.av (xs'.map AtF.av) lin;have h142:=zp cpS (v:Int) [x.av] (hdL lin (xs'.map AtF.av)) hb;have h83:=zC cpS (v:Int) [x.av] (hdL lin (xs'.map AtF.av)) hb;have hap' : ∀ e l,aq CC 36 62 uc.E (.sl 4 [.agg [.str cpS,.int .i64 (v:Int),.sl 3 [x.av] (hdL lin (xs'.map AtF.av)),base]] l) ⟨Hc ++ [.cells a.l],e⟩=some (V',⟨H3,e⟩):=hap;have hbl:=bL N1.C.b;have hb3:af H3 bo=some (.cells [.ptr uo 0,LV]):=by rw[hf3 bo hbl (fun hm=>N1.C.nb (bM.2 (.inl hm))),hb1]
       have hx3:af H3 (aa H)=some (.cells [.ptr bo 0]):=by rw[hf3 _ (bL N1.x) (fun hm=>N1.x' (bM.2 (.inl hm))),hx]
       have hst':=hst e he;have hsb:AV.same (.ptr bo 0) (.ptr bo 0)=true:=by simp[AV.same]
       have hsu:AV.same (.ptr uo 0) (.ptr uo 0)=true:=by simp[AV.same]
       have key:=ih (i + 1) (by omega) fu' (by omega) _ _ uo xs' fs (.sl 3 (xs'.map AtF.av) (MJ lin)) F fm (by simpa [UN.p,EqF.q] using hp) N2 (.inr ⟨_,rfl,Iy (Lin.low_mono (by rw[ak];omega) _ hlin)⟩) hF ⟨S.nd,S.at_,S.I,S.O⟩ (Nat.le_refl _)
       simp only[aw,lG,rq,vR,wN,DG,DB,w7,SIM,ST0,ST1,h32,h33,h34,hr5,hr11,hr4,hr2,hc,hat,ha,hcn,hx,hb1,hE1,hs,wQ,yX,hdo,hv1,hsl1,hsl2,h142,h83,hap',hb3,hx3,hsb,hsu,hst',orSt,orVal,y5,Nat.reduceAdd,Nat.reduceLeDiff];exact key _ ⟨by first | rfl | exact hr5,by first | rfl | exact hr6,by first | rfl | exact hr11,by first | rfl | exact hr4,rfl,by first | rfl | exact hr3⟩ ⟨by first | rfl | exact h32,by first | rfl | exact h33,rfl⟩
end
theorem cc59:∃ e,CC.P.underlying 44=some (.slice e)∧e=85:=⟨_,by kernel_rfl,rfl⟩
theorem jC (L:List EqR):bF CC 44 (pg L)=some (.int .i64 (L.length:Int)):=by
 obtain ⟨e,hu,_⟩:=cc59;rw[dB hu,List.length_map]
theorem km {L:List EqR}{i:Nat}{q:EqR}(h:L[i]?=some q):bw 8 (pg L) (.int .i64 (i:Int))=some (.iptr (qR q.l .dead q.a q.e)):=by
 refine da (v:=q.v) ?_;rw[aD,List.getElem?_map,h];rfl
theorem Le (a b c d e f g h:AV)(H:Heap):ax (some 8) (.iptr [a,b,c,d,e,f,g,h]) H=some (.agg [a,b,c,d,e,f,g,h]):=rfl
theorem gh (q:EqR):AV.cells q.v=qR q.l .dead q.a q.e:=rfl
def sizeP:List EqR→PS→Option PS
 | [],p=>some p
 | q :: l,p=>cond (Nat.ble (p.size + sizeE q.e) 1500) (sizeP l { p with size:=p.size + sizeE q.e }) none
theorem sizeP_w:∀ (l:List EqR) (p p' : PS),sizeP l p=some p'→p.w≤p'.w
 | [],p,p',h=>by simp only[sizeP,SJ] at h;rw[h];exact Nat.le_refl _
 | q :: l,p,p',h=>by
   simp only[sizeP] at h;obtain ⟨_,h⟩:=aS h;have:=sizeP_w l _ _ h;simp only[PS.w] at this ⊢;omega
section
variable {M:Memo}{uo bo:Nat}{LV:AV}{d:NdR}{vm:List (List Nat × Nat)}{fm:List (List Nat × AV)}{base:AV}{H:Heap}{ns0:List Nat}
theorem pY (m:eu M){L:List EqR}(hL:L.length≤90000){u0:UN}{p' : PS}{A F:AV}(hw:p'.w + 20 < 1000000) :
  ∀ (k i:Nat),k + i=L.length→∀ (fu:Nat),k < fu→∀ (Hc:Heap) (uc:UN) (e:Nat),sizeP (L.drop i) uc.p=some p'→Nd uo bo LV d vm fm base H ns0 Hc uc→Same u0 uc→uo≤e→∀ (r:RG),RN H base A F r →
  (r.b.f.a=pg L∧r.b.f.b=.int .i64 (L.length:Int)∧r.b.f.c=.int .i64 (i:Int)) →
  Tl uo bo LV d fm base H ns0 4 A F vm u0 p' (aw (iX (orc CC M)) fu r [] ⟨Hc,e⟩):=by
 intro k
 induction k with
 | zero =>
   intro i hi fu hfu Hc uc e hp N S he r hr ⟨h32,h33,h34⟩;obtain ⟨fu',rfl⟩ : ∃ f,fu=f + 1:=⟨fu - 1,by omega⟩
   have:i=L.length:=by omega
   subst this;have hc:decide ((L.length:Int) < (L.length:Int))=false:=by simp
   rw[List.drop_length] at hp;simp only[sizeP,SJ] at hp;subst hp;simp only[aw,iX,oC,SIM,ST0,ST1,ST2,ST3,h33,h34,hc];exact ⟨_,Hc,uc,e,rfl,N,rfl,S,he,by first | exact hr⟩
 | succ k ih =>
   intro i hi fu hfu Hc uc e hp N S he r hr ⟨h32,h33,h34⟩;obtain ⟨hr5,hr6,hr11,hr4,hr2,hr3⟩:=hr;obtain ⟨fu',rfl⟩ : ∃ f,fu=f + 1:=⟨fu - 1,by omega⟩
   have hlt:i < L.length:=by omega
   have hc:decide ((i:Int) < (L.length:Int))=true:=by simp;omega
   have hd:L.drop i=L[i] :: L.drop (i + 1):=List.drop_eq_getElem_cons hlt;have hg:L[i]?=some L[i]:=by simp[hlt]
   generalize L[i]=q at hg hd;have hat:=km hg;have ha:cQ (i:Int) 1=((i + 1:Nat):Int):=bA i 1 (by unfold natMax;omega)
   rw[hd] at hp;simp only[sizeP] at hp;obtain ⟨hb1,hp⟩:=aS hp;rw[dE,decide_eq_true_eq] at hb1;have hsz:uc.p.size=uc.size:=rfl;rw[hsz] at hb1 hp;have N1:=N.ap [qO q];have hwp:=sizeP_w _ _ _ hp;have hpw:=UN.pw uc;have E:=zj m (u:=uc) (sizeE q.e) q.e (Nat.le_refl _) (by omega) uc.size (Hc ++ [qO q]) (by omega) N1.x N1.C.b N1.C.U.ob
   have hlz:aa (Hc ++ [qO q])=aa Hc + 1:=by rw[az];rfl
   rw[hlz] at E
   have U2:=N1.C.U.setv (v:=uc.vars) (s:=uc.size + sizeE q.e) (i:=uc.I) (o:=uc.O) (by
    simp only[PS.w] at hwp hw;simp only[UN.p,List.length_map] at hwp;omega)
   have N2:Nd uo bo LV d vm fm base H ns0 (ai (Hc ++ [qO q]) uo (uO uc (uc.size + sizeE q.e))) { uc with size:=uc.size + sizeE q.e }:=N1.step U2 (Gr.put _)
   have hdo:af (Hc ++ [qO q]) (aa Hc)=some (qO q):=by rw[au];rfl
   have hone:=pM q;have hnn:=qL q;have hx2:=N2.x;have hb2:=N2.C.b;have hu2:af (ai (Hc ++ [qO q]) uo (uO uc (uc.size + sizeE q.e))) uo=some (uO uc (uc.size + sizeE q.e)):=N2.C.U.ob;have hgt:decide ((1500:Int) < ((uc.size + sizeE q.e:Nat):Int))=false:=by simp;omega
   have key:=ih (i + 1) (by omega) fu' (by omega) _ _ (min e (aa Hc + 1)) hp N2 ⟨S.nd,S.at_,S.I,S.O⟩ (by have:=N.C.U.uo;omega)
   generalize ai (Hc ++ [qO q]) uo (uO uc (uc.size + sizeE q.e))=H2 at E N2 hx2 hb2 hu2 key;simp only[aw,iX,oC,sD,rh,sv,wS,SIM,ST0,ST1,ST2,ST3,h32,h33,h34,hr5,hc,hat,ha,Le,gh,hone,hnn,hdo,xd,EXS,E,hx2,hb2,hu2,sQ,hgt,Nat.reduceAdd,Nat.reduceLeDiff];exact key _ ⟨by first | rfl | exact hr5,by first | rfl | exact hr6,by first | rfl | exact hr11,by first | rfl | exact hr4,by first | rfl | exact hr2,by first | rfl | exact hr3⟩ ⟨by first | rfl | exact h32,by first | rfl | exact h33,rfl⟩
end
abbrev FmS:=List (List Nat × AV)
def dC (sp:EqR→FmS→PS→Option (FmS × PS)):List EqR→FmS→PS→Option (FmS × PS)
 | [],fm,p=>some (fm,p)
 | q :: l,fm,p=>cond q.a (match sp q fm p with
   | none=>none
   | some (fm1,p1)=>dC sp l fm1 p1) (dC sp l fm p)
def fA (gv:EqR→PS→Option PS):List EqR→PS→Option PS
 | [],p=>some p
 | q :: l,p=>match gv q p with
   | none=>none
   | some p1=>fA gv l p1
theorem gO {sp:EqR→FmS→PS→Option (FmS × PS)}(hs:∀ q fm p fm' p',sp q fm p=some (fm',p')→p.w≤p'.w):∀ (l:List EqR) (fm fm' : FmS) (p p' : PS),dC sp l fm p=some (fm',p')→p.w≤p'.w
 | [],fm,fm',p,p',h=>by simp only[dC,SJ,PJ] at h;rw[h.2];exact Nat.le_refl _
 | q :: l,fm,fm',p,p',h=>by
   simp only[dC] at h;cases hq:q.a with
   | true =>
     rw[hq] at h;simp only[cond_true] at h
     split at h
     ·cases h
     ·rename_i fm1 p1 h1;exact Nat.le_trans (hs _ _ _ _ _ h1) (gO hs l _ _ _ _ h)
   | false=>rw[hq] at h;exact gO hs l _ _ _ _ h
theorem kS {gv:EqR→PS→Option PS}(hs:∀ q p p',gv q p=some p'→p.w≤p'.w):∀ (l:List EqR) (p p' : PS),fA gv l p=some p'→p.w≤p'.w
 | [],p,p',h=>by simp only[fA,SJ] at h;rw[h];exact Nat.le_refl _
 | q :: l,p,p',h=>by
   simp only[fA] at h
   split at h
   ·cases h
   ·rename_i p1 h1;exact Nat.le_trans (hs _ _ _ h1) (kS hs l _ _ h)
section
variable (M:Memo)(uo bo:Nat)(LV:AV)(d:NdR)(vm:List (List Nat × Nat))(base:AV)(H:Heap)(ns0:List Nat)
def uS (sp:EqR→FmS→PS→Option (FmS × PS))(q:EqR):Prop:=∀ (Hc:Heap) (uc:UN) (fm fm' : FmS) (p' : PS),sp q fm uc.p=some (fm',p')→Nd uo bo LV d vm fm base H ns0 Hc uc→p'.w + 20 < 1000000 →
 ∃ H' u',orc CC M 49 [.ptr bo 0,.ptr (aa H + 4) 0,q.v] Hc=some (.ret Abs.undef H' uo)∧Nd uo bo LV d vm fm' base H ns0 H' u'∧u'.p=p'∧Same uc u'
def pu (fm:FmS)(gv:EqR→PS→Option PS)(q:EqR):Prop:=∀ (Hc:Heap) (uc:UN) (p' : PS),gv q uc.p=some p'→Nd uo bo LV d vm fm base H ns0 Hc uc→p'.w + 20 < 1000000 →
 ∃ H' u' esc,orc CC M 50 [.ptr bo 0,.ptr (aa H + 4) 0,q.v] Hc=some (.ret Abs.undef H' esc)∧UI uo H' u'∧Gr uo Hc uc.ns H' u'.ns∧u'.p=p'∧Same uc u'∧uo≤esc∧(q.a=false→esc=uo)
end
section
variable {M:Memo}{uo bo:Nat}{LV:AV}{d:NdR}{vm:List (List Nat × Nat)}{base:AV}{H:Heap}{ns0:List Nat}
def Tn (uo bo:Nat)(LV:AV)(d:NdR)(vm:List (List Nat × Nat))(fm' : FmS)(base:AV)(H:Heap)(ns0:List Nat)(i:Nat)(A F:AV)(u0:UN)(p' : PS)(ok:Nat→Prop)(X:IRes):Prop :=
 ∃ r' Hd ud e',X=some (.exit i,r',[],⟨Hd,e'⟩)∧Nd uo bo LV d vm fm' base H ns0 Hd ud∧ud.p=p'∧Same u0 ud∧uo≤e'∧ok e'∧RN H base A F r'
theorem mo {sp:EqR→FmS→PS→Option (FmS × PS)}(hsw:∀ q fm p fm' p',sp q fm p=some (fm',p')→p.w≤p'.w){L:List EqR}(hL:L.length≤90000)(hok:∀ q ∈ L,q.a=true→uS M uo bo LV d vm base H ns0 sp q){u0:UN}{p' : PS}{fm' : FmS}{A F:AV}(hw:p'.w + 20 < 1000000) :
  ∀ (k i:Nat),k + i=L.length→∀ (fu:Nat),k < fu→∀ (Hc:Heap) (uc:UN) (e:Nat) (fm:FmS),dC sp (L.drop i) fm uc.p=some (fm',p')→Nd uo bo LV d vm fm base H ns0 Hc uc→Same u0 uc→uo≤e→((∃ q ∈ L.take i,q.a=true)→e=uo)→∀ (r:RG),RN H base A F r →
  (r.c.a.f=pg L∧r.c.a.g=.int .i64 (L.length:Int)∧r.c.a.h=.int .i64 (i:Int)) →
  Tn uo bo LV d vm fm' base H ns0 6 A F u0 p' (fun e'=>(∃ q ∈ L,q.a=true)→e'=uo) (aw (lT (orc CC M)) fu r [] ⟨Hc,e⟩):=by
 intro k
 induction k with
 | zero =>
   intro i hi fu hfu Hc uc e fm hp N S he hel r hr ⟨h32,h33,h34⟩;obtain ⟨fu',rfl⟩ : ∃ f,fu=f + 1:=⟨fu - 1,by omega⟩
   have:i=L.length:=by omega
   subst this;have hc:decide ((L.length:Int) < (L.length:Int))=false:=by simp
   rw[List.drop_length] at hp;simp only[dC,SJ,PJ] at hp;obtain ⟨rfl,rfl⟩:=hp;simp only[aw,lT,rG,SIM,ST0,ST1,ST2,ST3,ST4,h33,h34,hc];rw[List.take_length] at hel;exact ⟨_,Hc,uc,e,rfl,N,rfl,S,he,hel,by first | exact hr⟩
 | succ k ih =>
   intro i hi fu hfu Hc uc e fm hp N S he hel r hr ⟨h32,h33,h34⟩;obtain ⟨hr5,hr6,hr11,hr4,hr2,hr3⟩:=hr;obtain ⟨fu',rfl⟩ : ∃ f,fu=f + 1:=⟨fu - 1,by omega⟩
   have hlt:i < L.length:=by omega
   have hc:decide ((i:Int) < (L.length:Int))=true:=by simp;omega
   have hd:L.drop i=L[i] :: L.drop (i + 1):=List.drop_eq_getElem_cons hlt;have hg:L[i]?=some L[i]:=by simp[hlt]
   have hmem:=List.getElem_mem hlt;have htk:L.take (i + 1)=L.take i ++ [L[i]]:=by rw[List.take_add_one,hg];rfl
   generalize L[i]=q at hg hd hmem htk;have hat:=km hg;have ha:cQ (i:Int) 1=((i + 1:Nat):Int):=bA i 1 (by unfold natMax;omega)
   rw[hd] at hp;simp only[dC] at hp;have N1:=N.ap [qO q];have hdo:af (Hc ++ [qO q]) (aa Hc)=some (qO q):=by rw[au];rfl
   have hone:=pM q;have hnn:=qL q;cases haf:q.a with
   | false =>
     have hcn:∀ x y:IRes,eX (.bool q.a) x y=y:=fun x y=>by rw[haf];rfl
     rw[haf] at hp;simp only[cond_false] at hp
     have key:=ih (i + 1) (by omega) fu' (by omega) (Hc ++ [qO q]) uc e fm hp N1 S he (fun ⟨q',h1,h2⟩=>by
      rw[htk,List.mem_append,List.mem_singleton] at h1
      rcases h1 with h1 | h1
      ·exact hel ⟨q',h1,h2⟩
      ·rw[h1,haf] at h2;cases h2)
     simp only[aw,lT,rG,xl,xh,wj,SIM,ST0,ST1,ST2,ST3,ST4,h32,h33,h34,hc,hat,ha,Le,gh,hone,hnn,hdo,hcn,Nat.reduceAdd,Nat.reduceLeDiff];exact key _ ⟨by first | rfl | exact hr5,by first | rfl | exact hr6,by first | rfl | exact hr11,by first | rfl | exact hr4,by first | rfl | exact hr2,by first | rfl | exact hr3⟩ ⟨by first | rfl | exact h32,by first | rfl | exact h33,rfl⟩
   | true =>
     have hcn:∀ x y:IRes,eX (.bool q.a) x y=x:=fun x y=>by rw[haf];rfl
     rw[haf] at hp;simp only[cond_true] at hp
     split at hp
     ·cases hp
     ·rename_i fm1 p1 h1;have hw1:=gO hsw _ _ _ _ _ hp;obtain ⟨H2,u2,hR,N2,hp2,S2⟩:=hok q hmem haf (Hc ++ [qO q]) uc fm fm1 p1 h1 N1 (by omega)
      have key:=ih (i + 1) (by omega) fu' (by omega) H2 u2 (min e uo) fm1 (by rw[hp2];exact hp) N2 (S.trans S2) (by omega) (fun _=>by omega)
      have hx:=N1.x;have hP8:∀ a b c d e f g h:AV,eK (some 8) [a,b,c,d,e,f,g,h] 0=some (.agg [a,b,c,d,e,f,g,h]):=fun _ _ _ _ _ _ _ _=>rfl
      simp only[aw,lT,rG,xl,xh,CG,wj,SIM,ST0,ST1,ST2,ST3,ST4,h32,h33,h34,hr5,hr11,hc,hat,ha,Le,gh,hone,hnn,hdo,hcn,hx,hR,hP8,Nat.reduceAdd,Nat.reduceLeDiff];exact key _ ⟨by first | rfl | exact hr5,by first | rfl | exact hr6,by first | rfl | exact hr11,by first | rfl | exact hr4,by first | rfl | exact hr2,by first | rfl | exact hr3⟩ ⟨by first | rfl | exact h32,by first | rfl | exact h33,rfl⟩
theorem wg {fm:FmS}{gv:EqR→PS→Option PS}(hgw:∀ q p p',gv q p=some p'→p.w≤p'.w){L:List EqR}(hL:L.length≤90000)(hok:∀ q ∈ L,pu M uo bo LV d vm base H ns0 fm gv q){u0:UN}{p' : PS}{A F:AV}{e00:Nat}(hw:p'.w + 20 < 1000000) :
  ∀ (k i:Nat),k + i=L.length→∀ (fu:Nat),k < fu→∀ (Hc:Heap) (uc:UN) (e:Nat),fA gv (L.drop i) uc.p=some p'→Nd uo bo LV d vm fm base H ns0 Hc uc→Same u0 uc→uo≤e→((e00=uo→e=uo)∧((∃ q ∈ L.take i,q.a=false)→e=uo))→∀ (r:RG),RN H base A F r →
  (r.c.c.d=pg L∧r.c.c.e=.int .i64 (L.length:Int)∧r.c.c.f=.int .i64 (i:Int)) →
  Tn uo bo LV d vm fm base H ns0 8 A F u0 p' (fun e'=>(e00=uo→e'=uo)∧((∃ q ∈ L,q.a=false)→e'=uo)) (aw (iH (orc CC M)) fu r [] ⟨Hc,e⟩):=by
 intro k
 induction k with
 | zero =>
   intro i hi fu hfu Hc uc e hp N S he hel r hr ⟨h32,h33,h34⟩;obtain ⟨fu',rfl⟩ : ∃ f,fu=f + 1:=⟨fu - 1,by omega⟩
   have:i=L.length:=by omega
   subst this;have hc:decide ((L.length:Int) < (L.length:Int))=false:=by simp
   rw[List.drop_length] at hp;simp only[fA,SJ] at hp;subst hp;simp only[aw,iH,oc,SIM,ST0,ST1,ST2,ST3,ST4,h33,h34,hc];rw[List.take_length] at hel;exact ⟨_,Hc,uc,e,rfl,N,rfl,S,he,hel,by first | exact hr⟩
 | succ k ih =>
   intro i hi fu hfu Hc uc e hp N S he hel r hr ⟨h32,h33,h34⟩;obtain ⟨hr5,hr6,hr11,hr4,hr2,hr3⟩:=hr;obtain ⟨fu',rfl⟩ : ∃ f,fu=f + 1:=⟨fu - 1,by omega⟩
   have hlt:i < L.length:=by omega
   have hc:decide ((i:Int) < (L.length:Int))=true:=by simp;omega
   have hd:L.drop i=L[i] :: L.drop (i + 1):=List.drop_eq_getElem_cons hlt;have hg:L[i]?=some L[i]:=by simp[hlt]
   have hmem:=List.getElem_mem hlt;have htk:L.take (i + 1)=L.take i ++ [L[i]]:=by rw[List.take_add_one,hg];rfl
   generalize L[i]=q at hg hd hmem htk;have hat:=km hg;have ha:cQ (i:Int) 1=((i + 1:Nat):Int):=bA i 1 (by unfold natMax;omega)
   rw[hd] at hp;simp only[fA] at hp
   split at hp
   ·cases hp
   ·rename_i p1 h1;have N1:=N.ap [qO q];have hdo:af (Hc ++ [qO q]) (aa Hc)=some (qO q):=by rw[au];rfl
    have hone:=pM q;have hnn:=qL q;have hw1:=kS hgw _ _ _ hp;obtain ⟨H2,u2,e2,hR,U2,G2,hp2,S2,he2,hel2⟩:=hok q hmem (Hc ++ [qO q]) uc p1 h1 N1 (by omega)
    have N2:=N1.step U2 G2
    have key:=ih (i + 1) (by omega) fu' (by omega) H2 u2 (min e e2) (by rw[hp2];exact hp) N2 (S.trans S2) (by omega) ⟨fun h=>by have:=hel.1 h;omega,fun ⟨q',h1,h2⟩=>by
     rw[htk,List.mem_append,List.mem_singleton] at h1
     rcases h1 with h1 | h1
     ·have:=hel.2 ⟨q',h1,h2⟩;omega
     ·rw[h1] at h2;have:=hel2 h2;omega⟩
    have hx:=N1.x;have hP8:∀ a b c d e f g h:AV,eK (some 8) [a,b,c,d,e,f,g,h] 0=some (.agg [a,b,c,d,e,f,g,h]):=fun _ _ _ _ _ _ _ _=>rfl
    simp only[aw,iH,oc,sA,rR,xu,SIM,ST0,ST1,ST2,ST3,ST4,h32,h33,h34,hr5,hr11,hc,hat,ha,Le,gh,hone,hnn,hdo,hx,hR,hP8,Nat.reduceAdd,Nat.reduceLeDiff];exact key _ ⟨by first | rfl | exact hr5,by first | rfl | exact hr6,by first | rfl | exact hr11,by first | rfl | exact hr4,by first | rfl | exact hr2,by first | rfl | exact hr3⟩ ⟨by first | rfl | exact h32,by first | rfl | exact h33,rfl⟩
end
theorem se22:∃ e i z,bK CC 61=some e∧CC.P.info? e=some i∧cn CC e=some z∧i.size=1∧(0 < i.bytes∧i.bytes≤65536)∧z.cells.length=1:=by
 have h:J5 61=some (1,true,1):=by kernel_rfl
 unfold J5 at h
 split at h
 ·rename_i e he
  split at h
  ·rename_i i z hi hz;simp only[SJ,PJ,decide_eq_true_eq] at h;exact ⟨e,i,z,he,hi,hz,h.1,h.2.1,h.2.2⟩
  ·cases h
 ·cases h
abbrev inV (n:Nat):AV:=.int .i64 (n:Int)
theorem pU {f:Nat}(hf:CC.mutT f 61=false)(n:Nat)(lin:Lin)(hp:Heap)(e:Nat):aq CC f 61 .nils (.sl 1 [inV n] lin) ⟨hp,e⟩=some (.sl 1 [inV n] (.live (aa hp) 0),⟨hp ++ [.lin 0],e⟩):=by
 obtain ⟨el,i,z,h1,h2,h3,h4,h6,h7⟩:=se22;have hok:[inV n].all (bg 1)=true:=rfl
 have hne:¬ (i.size=0∨i.bytes=0∨z.cells.length ≠ i.size∨[inV n].all (bg i.size)=false∨2 ^ 16 < i.bytes):=by
  rw[h4,hok,h7];simp;omega
 simp only[aq,h1,h2,h3,aY,h4,if_true];rw[h4] at hne;rw[if_neg hne];simp[hf,aj]
theorem m8 {f:Nat}(hf:CC.mutT f 61=false){xs:List AV}(n:Nat)(lin:Lin){hp:Heap}{e id g:Nat}(hg:af hp id=some (.lin g))(hl:xs.length + 1≤2 ^ 24) :
  aq CC f 61 (.sl 1 xs (.live id g)) (.sl 1 [inV n] lin) ⟨hp,e⟩=some (.sl 1 (xs ++ [inV n]) (.live id (g + 1)),⟨ai hp id (.lin (g + 1)),e⟩):=by
 obtain ⟨el,i,z,h1,h2,h3,h4,h6,h7⟩:=se22;have hok:[inV n].all (bg 1)=true:=rfl
 have hne:¬ (i.size=0∨i.bytes=0∨z.cells.length ≠ i.size∨[inV n].all (bg i.size)=false∨2 ^ 16 < i.bytes):=by
  rw[h4,hok,h7];simp;omega
 rw[aD] at hg;simp only[aq,h1,h2,h3,aY,h4,if_true];rw[h4] at hne;rw[if_neg hne];simp[hf,hl,hg,aN]
theorem M9 (n:Nat):aP CC 61 1 [(0,inV n)]=some (.sl 1 [inV n] .lit):=by
 have:∀ z:Int,aP CC 61 1 [(0,.int .i64 z)]=some (.sl 1 [.int .i64 z] .lit):=fun z=>by kernel_rfl
 exact this _
def tY (vm:List (List Nat × Nat)):List DeR→Option (List Nat)
 | []=>some []
 | x :: l=>match fp x.s vm with
   | none=>none
   | some v=>match tY vm l with
     | none=>none
     | some r=>some (v :: r)
def G9 (b:Nat)(ns:List Nat)(Hc:Heap)(V:AV)(acc:List Nat):Prop:=(acc=[]∧V=.nils)∨(acc ≠ []∧∃ id g,V=.sl 1 (acc.map inV) (.live id g)∧af Hc id=some (.lin g)∧b≤id∧id ∉ ns)
section
variable {M:Memo}{uo bo:Nat}{LV:AV}{d:NdR}{vm:List (List Nat × Nat)}{fm:FmS}{base:AV}{H:Heap}{ns0:List Nat}
theorem Nd.lset {Hc:Heap}{uc:UN}{id g:Nat}{v:AObj}(N:Nd uo bo LV d vm fm base H ns0 Hc uc)(hg:af Hc id=some (.lin g))(hid:aa H≤id)(hn:id ∉ uc.ns):Nd uo bo LV d vm fm base H ns0 (ai Hc id v) uc:=by
 have hu:=N.uh;have hb:=N.bh
 have key:∀ q o,af Hc q=some o→(∀ g,o ≠ .lin g)→q ≠ id:=fun q o hq ho he=>by
  rw[he,hg] at hq;simp only[SJ] at hq;exact ho g hq.symm
 have C:=N.C;refine ⟨⟨C.U.to (by rw[ak];exact Nat.le_refl _) (fun q hq hm=>ae ?_ _),by rw[ae (by omega)];exact C.b,by rw[ae (key _ _ C.s (fun g h=>by cases h))];exact C.s,by rw[ae (key _ _ C.v (fun g h=>by cases h))];exact C.v,by rw[ae (key _ _ C.f (fun g h=>by cases h))];exact C.f,C.nb,C.ns,C.nv,C.nf⟩,by rw[ae (key _ _ N.x (fun g h=>by cases h))];exact N.x,by rw[ae (key _ _ N.n (fun g h=>by cases h))];exact N.n,N.x',N.n',N.G.put2 hid,N.uh,N.bh⟩
 rintro rfl
 rcases hm with h | h
 ·omega
 ·exact hn h
def Td (uo bo:Nat)(LV:AV)(d:NdR)(vm:List (List Nat × Nat))(fm' : FmS)(base:AV)(H:Heap)(ns0:List Nat)(uc:UN)(e:Nat)(l:List Nat)(X:IRes):Prop :=
 ∃ r' Hd,X=some (.exit 10,r',[],⟨Hd,e⟩)∧Nd uo bo LV d vm fm' base H ns0 Hd uc∧G9 (aa H) uc.ns Hd r'.a.c.g l
theorem zT {L:List DeR}(hL:L.length≤90000){uc:UN}{e:Nat}{base:AV}{A F:AV} :
  ∀ (k i:Nat),k + i=L.length→∀ (fu:Nat),k < fu→∀ (Hc:Heap) (acc l:List Nat),acc.length≤i→tY vm (L.drop i)=some l→Nd uo bo LV d vm fm base H ns0 Hc uc→∀ (r:RG),RN H base A F r→G9 (aa H) uc.ns Hc r.a.c.g acc →
  (r.c.d.h=deZ L∧r.c.e.a=.int .i64 (L.length:Int)∧r.c.e.b=.int .i64 (i:Int)) →
  Td uo bo LV d vm fm base H ns0 uc e (acc ++ l) (aw (lz (orc CC M)) fu r [] ⟨Hc,e⟩):=by
 intro k
 induction k with
 | zero =>
   intro i hi fu hfu Hc acc l hal hp N r hr hA ⟨h32,h33,h34⟩;obtain ⟨fu',rfl⟩ : ∃ f,fu=f + 1:=⟨fu - 1,by omega⟩
   have:i=L.length:=by omega
   subst this;have hc:decide ((L.length:Int) < (L.length:Int))=false:=by simp
   rw[List.drop_length] at hp;simp only[tY,SJ] at hp;subst hp;simp only[aw,lz,qU,SIM,ST0,ST1,ST2,ST3,ST4,ST5,h33,h34,hc];exact ⟨_,Hc,rfl,N,by first | exact hA⟩
 | succ k ih =>
   intro i hi fu hfu Hc acc l hal hp N r hr hA ⟨h32,h33,h34⟩;obtain ⟨hr5,hr6,hr11,hr4,hr2,hr3⟩:=hr;obtain ⟨fu',rfl⟩ : ∃ f,fu=f + 1:=⟨fu - 1,by omega⟩
   have hlt:i < L.length:=by omega
   have hc:decide ((i:Int) < (L.length:Int))=true:=by simp;omega
   have hd:L.drop i=L[i] :: L.drop (i + 1):=List.drop_eq_getElem_cons hlt;have hg:L[i]?=some L[i]:=by simp[hlt]
   generalize L[i]=a at hg hd;have hat:=n8 hg;have ha:cQ (i:Int) 1=((i + 1:Nat):Int):=bA i 1 (by unfold natMax;omega)
   rw[hd] at hp;simp only[tY] at hp
   split at hp
   ·cases hp
   ·rename_i v hlk
    split at hp
    ·cases hp
    ·rename_i l' hl';simp only[SJ] at hp;subst hp;have N1:=N.ap [.cells a.l];have hdo:af (Hc ++ [AObj.cells a.l]) (aa Hc)=some (.cells a.l):=by rw[au];rfl
     have hs:=N1.C.s;have hv:=kC (jj hlk) N1.C.v;have hb22:=M9 v;have hmt:CC.mutT 36 61=false:=rfl
     rcases hA with ⟨rfl,hV⟩ | ⟨h0,id,g,hV,hgi,hid,hni⟩
     ·have happ:=fun e=>pU hmt v .lit (Hc ++ [.cells a.l]) e
      have hlz:aa (Hc ++ [AObj.cells a.l])=aa Hc + 1:=by rw[az];rfl
      have key:=ih (i + 1) (by omega) fu' (by omega) (Hc ++ [.cells a.l] ++ [.lin 0]) [v] l' (by simp) hl' (N1.ap _)
      have hnew:G9 (aa H) uc.ns (Hc ++ [.cells a.l] ++ [.lin 0]) (.sl 1 [inV v] (.live (aa (Hc ++ [AObj.cells a.l])) 0)) [v]:=.inr ⟨by simp,_,_,rfl,by rw[au];rfl,N1.G.len,fun hm=>by have:=(N1.C.U.lt _ hm).2;omega⟩
      rw[hlz] at hnew;have happ' : ∀ e,aq CC 36 61 .nils (.sl 1 [inV v] .lit) ⟨Hc ++ [.cells a.l],e⟩=some (.sl 1 [inV v] (.live (aa Hc + 1) 0),⟨Hc ++ [.cells a.l] ++ [.lin 0],e⟩):=fun e=>by rw[happ,hlz]
      simp only[List.append_assoc,List.cons_append,List.nil_append] at key hnew happ';simp only[aw,lz,qU,wF,wf,xy,SIM,ST0,ST1,ST2,ST3,ST4,ST5,h32,h33,h34,hr11,hc,hat,ha,hs,wQ,hdo,hv,hb22,hV,happ',orVal,Nat.reduceAdd,Nat.reduceLeDiff];exact key _ ⟨by first | rfl | exact hr5,by first | rfl | exact hr6,by first | rfl | exact hr11,by first | rfl | exact hr4,by first | rfl | exact hr2,by first | rfl | exact hr3⟩ hnew ⟨by first | rfl | exact h32,by first | rfl | exact h33,rfl⟩
     ·have hgi1:=ar hgi [.cells a.l];have happ:=fun e=>m8 (xs:=acc.map inV) (e:=e) hmt v .lit hgi1 (by rw[List.length_map];omega)
      have hmap:acc.map inV ++ [inV v]=(acc ++ [v]).map inV:=by simp
      rw[hmap] at happ;have key:=ih (i + 1) (by omega) fu' (by omega) (ai (Hc ++ [.cells a.l]) id (.lin (g + 1))) (acc ++ [v]) l' (by simp;omega) hl' (N1.lset hgi1 hid hni)
      rw[List.append_assoc] at key;have hnew:G9 (aa H) uc.ns (ai (Hc ++ [.cells a.l]) id (.lin (g + 1))) (.sl 1 ((acc ++ [v]).map inV) (.live id (g + 1))) (acc ++ [v]):=.inr ⟨by simp,_,_,rfl,aK hgi1 _,hid,hni⟩
      simp only[aw,lz,qU,wF,wf,xy,SIM,ST0,ST1,ST2,ST3,ST4,ST5,h32,h33,h34,hr11,hc,hat,ha,hs,wQ,hdo,hv,hb22,hV,happ,orVal,Nat.reduceAdd,Nat.reduceLeDiff];exact key _ ⟨by first | rfl | exact hr5,by first | rfl | exact hr6,by first | rfl | exact hr11,by first | rfl | exact hr4,by first | rfl | exact hr2,by first | rfl | exact hr3⟩ hnew ⟨by first | rfl | exact h32,by first | rfl | exact h33,rfl⟩
end
def jb (sp:List (List Nat × Nat)→EqR→FmS→PS→Option (FmS × PS))(gv:List (List Nat × Nat)→FmS→EqR→PS→Option PS)(d:NdR)(xs:List AtF)(fs:List (Int × Int))(p:PS):Option (List Nat × PS) :=
 match placesP (cA d) [] p with
 | none=>none
 | some (vm,p1)=>match ka vm d.ins xs fs [] p1 with
   | none=>none
   | some (fm,p2)=>match sizeP d.eqs p2 with
     | none=>none
     | some p3=>match dC (sp vm) d.eqs fm p3 with
       | none=>none
       | some (fm',p4)=>match fA (gv vm fm') d.eqs p4 with
         | none=>none
         | some p5=>match tY vm d.outs with
           | none=>none
           | some l=>some (l,p5)
theorem KP (d:NdR)(a b:Nat){base:AV}(hb:iy base):ao CC 121 [(0,d.v),(1,.map a),(2,.map b),(3,base)]=some (.agg (sF d (.map a) (.map b) base)):=by
 obtain ⟨s,p,I,O,V,E⟩:=d
 have key:∀ (x y z w:AV) (q:Int),(x=.nils∨∃ l,x=.sl 6 l .dead)→(y=.nils∨∃ l,y=.sl 6 l .dead)→(z=.nils∨∃ l,z=.sl 6 l .dead)→(∃ l,w=.sl 8 l .dead)→ao CC 121 [(0,.agg [.str s,.int .i64 q,x,y,z,w]),(1,.map a),(2,.map b),(3,base)]=some (.agg [.str s,.int .i64 q,x,y,z,w,.map a,.map b,base]):=by
  intro x y z w q hx hy hz hw;obtain ⟨l,rfl⟩:=hw
  rcases hx with rfl | ⟨l1,rfl⟩ <;> rcases hy with rfl | ⟨l2,rfl⟩ <;> rcases hz with rfl | ⟨l3,rfl⟩ <;> rcases hb with rfl | rfl <;> kernel_rfl
 have hd:∀ l:List DeR,deZ l=.nils∨∃ k,deZ l=.sl 6 k .dead:=fun l=>by cases l with
  | nil=>exact .inl rfl
  | cons a l=>exact .inr ⟨_,rfl⟩
 exact key _ _ _ _ _ (hd I) (hd O) (hd V) ⟨_,rfl⟩
theorem JC (d:NdR){a b L:Nat}{base:AV}(hb:iy base)(ha:a < L)(hb' : b < L):eW (.agg (sF d (.map a) (.map b) base)) L=some (.cells (sF d (.map a) (.map b) base),(.ptr · 0)):=by
 have hone:(sF d (.map a) (.map b) base).all AV.one=true:=by
  rcases hb with rfl | rfl <;> simp only[List.all_cons,List.all_nil,kP,iU,eO,eL,Bool.and_true,Bool.true_and] <;> rfl
 have hlow:AV.low L (.agg (sF d (.map a) (.map b) base))=true:=by
  have h:=fun l=>(dq (deZ l) (fN l)).2 L
  have h2:aM L (d.eqs.map EqR.v)=true:=dG (eq_noN _) L;have h4:Lin.low L .dead=true:=rfl;have h3:AV.low L base=true:=by rcases hb with rfl | rfl <;> simp[AV.low,aM,Lin.low]
  simp only[AV.low,aM,h,h2,h4,h3,ha,hb',decide_true,Bool.and_self]
 unfold eW;rw[if_pos ⟨hone,hlow⟩];rfl
theorem Dg (n L:Nat)(h:n < L):eW (.ptr n 0) L=some (.cells [.ptr n 0],(.ptr · 0)):=by
 have h1:(AV.ptr n 0).cells.all AV.one=true:=rfl;have h2:AV.low L (.ptr n 0)=true:=by simp[AV.low,h]
 unfold eW;rw[if_pos ⟨h1,h2⟩];rfl
theorem P6 (a b c d e f:AV):eK (some 6) [a,b,c,d,e,f] 0=some (.agg [a,b,c,d,e,f]):=rfl
theorem xn (rec:RecT):z36.sh rec=ac (ac (pT rec) (ac (qe rec) (qS rec))) (ac (aX 0 (bi (qF rec))) (ac (qN rec) (ac (aX 2 (bi (lG rec))) (ac (lq rec) (ac (aX 4 (bi (iX rec))) (ac (lU rec) (ac (aX 6 (bi (lT rec))) (ac (lW rec) (ac (aX 8 (bi (iH rec))) (ac (rk rec) (ac (q5 rec) (ac (aX 10 (bi (lz rec))) (ac (sy rec) retZ))))))))))))):=by
 simp only[z36,fL]
section
variable {M:Memo}{uo bo:Nat}{LV:AV}{base:AV}
theorem xC (m:eu M){sp:List (List Nat × Nat)→EqR→FmS→PS→Option (FmS × PS)}{gv:List (List Nat × Nat)→FmS→EqR→PS→Option PS}
  (hsw:∀ vm q fm p fm' p',sp vm q fm p=some (fm',p')→p.w≤p'.w) (hgw:∀ vm fm q p p',gv vm fm q p=some p'→p.w≤p'.w) (hb:iy base) {d:NdR} (hl:(cA d).length≤90000) (hel:d.eqs.length≤90000) (hne:d.eqs ≠ [])
  (hsp:∀ H ns0 vm q,q ∈ d.eqs→q.a=true→uS M uo bo LV d vm base H ns0 (sp vm) q) (hgv:∀ H ns0 vm fm q,q ∈ d.eqs→pu M uo bo LV d vm base H ns0 fm (gv vm fm) q)
  {H:Heap} {u:UN} (U:UI uo H u) (hbo:af H bo=some (.cells [.ptr uo 0,LV])) (hbn:bo ∉ u.ns) {xs:List AtF} {fs:List (Int × Int)} {A F:AV} (hA:AL xs A (aa H)) (hF:FL fs F) {l:List Nat} {p' : PS} (hp:jb sp gv d xs fs u.p=some (l,p')) (hw:p'.w + 20 < 1000000) :
  ∃ H' u' esc V,orc CC M 36 [.ptr bo 0,d.v,A,F,base] H=some (.ret V H' esc)∧G9 (aa H) u'.ns H' V l∧UI uo H' u'∧Gr uo H u.ns H' u'.ns∧u'.p=p'∧Same u u'∧esc=uo:=by
 unfold jb at hp
 split at hp
 ·cases hp
 rename_i vm p1 hp1
 split at hp
 ·cases hp
 rename_i fm p2 hp2
 split at hp
 ·cases hp
 rename_i p3 hp3
 split at hp
 ·cases hp
 rename_i fm' p4 hp4
 split at hp
 ·cases hp
 rename_i p5 hp5
 split at hp
 ·cases hp
 rename_i l0 hp6;simp only[SJ,PJ] at hp;obtain ⟨rfl,rfl⟩:=hp;have w5:=kS (hgw vm fm') _ _ _ hp5;have w4:=gO (hsw vm) _ _ _ _ _ hp4;have w3:=sizeP_w _ _ _ hp3;have w2:=n9 _ _ _ _ _ _ _ hp2;have hlu:=U.uo;have hlb:=bL hbo;have hins:d.ins.length≤90000:=by unfold cA at hl;simp only[List.length_append] at hl;omega
 have houts:d.outs.length≤90000:=by unfold cA at hl;simp only[List.length_append] at hl;omega
 let K:Heap:=[.cells [.ptr bo 0],dk d,.map [],.map [],.cells (sF d (.map (aa H + 2)) (.map (aa H + 3)) base)]
 have nn:∀ j,aa H + j ∉ u.ns:=fun j hm=>by have:=(U.lt _ hm).2;omega
 have n0:aa H ∉ u.ns:=nn 0
 have N0:Nd uo bo LV d [] [] base H u.ns (H ++ [.cells [.ptr bo 0],dk d,.map [],.map [],.cells (sF d (.map (aa H + 2)) (.map (aa H + 3)) base)]) u :=
  ⟨⟨U.ap,ar hbo _,by rw[aR];rfl,by rw[aR];rfl,by rw[aR];rfl,hbn,nn 4,nn 2,nn 3⟩,by rw[au];rfl,by rw[aR];rfl,n0,nn 1,Gr.ap,hlu,hlb⟩
 have hAll:=ry m d (by omega) (H ++ [.cells [.ptr bo 0],dk d,.map [],.map [],.cells (sF d (.map (aa H + 2)) (.map (aa H + 3)) base)])
 have hl5:aa (H ++ [AObj.cells [.ptr bo 0],dk d,.map [],.map [],.cells (sF d (.map (aa H + 2)) (.map (aa H + 3)) base)])=aa H + 5:=by rw[az];rfl
 rw[hl5] at hAll;have e0:(envOf [.ptr bo 0,d.v,A,F,base] 0 env0).a.a.a=.ptr bo 0:=rfl;have e1:(envOf [.ptr bo 0,d.v,A,F,base] 0 env0).a.a.b=d.v:=rfl;have e2:(envOf [.ptr bo 0,d.v,A,F,base] 0 env0).a.a.c=A:=rfl;have e3:(envOf [.ptr bo 0,d.v,A,F,base] 0 env0).a.a.d=F:=rfl;have e4:(envOf [.ptr bo 0,d.v,A,F,base] 0 env0).a.a.e=base:=rfl
 obtain ⟨r0,hr0,hq0,hpre⟩ : ∃ r,RN H base A F r∧(r.a.e.a=allZ (cA d)∧r.a.e.b=.int .i64 ((cA d).length:Int)∧r.a.e.c=.int .i64 ((0:Nat):Int)) ∧
   ac (pT (orc CC M)) (ac (qe (orc CC M)) (qS (orc CC M))) (envOf [.ptr bo 0,d.v,A,F,base] 0 env0) [] ⟨H,aa H⟩=some (.normal,r,[],⟨H ++ [.cells [.ptr bo 0],dk d,.map [],.map [],.cells (sF d (.map (aa H + 2)) (.map (aa H + 3)) base)],aa H⟩):=by
  generalize envOf [.ptr bo 0,d.v,A,F,base] 0 env0=R at e0 e1 e2 e3 e4;have hlb' : bo < H.length:=by rw[← aj];exact hlb
  have hbp:=Dg bo H.length hlb';have hbn':=mK d;have hbs:=KP d (aa H + 2) (aa H + 3) hb;have hbx:=JC d (L:=(H ++ [AObj.cells [.ptr bo 0],dk d,.map [],.map []]).length) hb (a:=aa H + 2) (b:=aa H + 3) (by rw[List.length_append,aj];simp) (by rw[List.length_append,aj];simp)
  have hln:=la (cA d);have hmm:min (aa H) (aa H + 5)=aa H:=Nat.min_eq_left (by omega)
  simp only[pT,qe,qS,SIM,ST0,ST1,e0,e1,e2,e3,e4,hbp,hbn',P6,hbs,hbx,hAll,hmm,hln,DZS,Nat.reduceAdd,Nat.reduceLeDiff];exact ⟨_,⟨rfl,rfl,rfl,by first | rfl | exact e4,by first | rfl | exact e2,by first | rfl | exact e3⟩,⟨rfl,rfl,rfl⟩,rfl⟩
 obtain ⟨r1,Hd1,u1,v1,s1,N1,hq1,S1,he1,hr1⟩:=mc m hl (L:=cA d) (u0:=u) (A:=A) (F:=F) (vm':=vm) (p':=p1) (by omega) (cA d).length 0 rfl 100000 (by omega) _ u (aa H) [] (by rw[List.drop_zero];exact hp1) N0 Same.refl (by omega) r0 hr0 hq0
 obtain ⟨r2,hr2,hk2,s2⟩ : ∃ r,RN H base A F r∧(r.a.g.e=deZ d.ins∧r.a.g.f=.int .i64 (d.ins.length:Int)∧r.a.g.g=.int .i64 ((0:Nat):Int))∧qN (orc CC M) r1 [] ⟨Hd1,v1⟩=some (.normal,r,[],⟨Hd1,v1⟩):=by
  obtain ⟨b5,b6,b11,b4,b2,b3⟩:=hr1;have hn:=N1.n;have hln:=gU d.ins;simp only[qN,SIM,ST0,ST1,b6,hn,hln,Nat.reduceAdd,Nat.reduceLeDiff];exact ⟨_,⟨by first | rfl | exact b5,by first | rfl | exact b6,by first | rfl | exact b11,by first | rfl | exact b4,by first | rfl | exact b2,by first | rfl | exact b3⟩,⟨rfl,rfl,rfl⟩,rfl⟩
 obtain ⟨r3,Hd3,u3,v3,A3,F3,s3,N3,hq3,S3,he3,hr3⟩:=uK (M:=M) hb hins (u0:=u) (p':=p2) (fm':=fm) (by omega) d.ins.length 0 rfl 100000 (by omega) Hd1 u1 v1 xs fs A F [] (by rw[List.drop_zero,hq1];exact hp2) N1 (hA.imp id (fun ⟨q,h1,h2⟩=>⟨q,h1,Lin.low_mono (N1.G.len) _ h2⟩)) hF S1 he1 r2 hr2 hk2
 obtain ⟨r4,hr4,hk4,s4⟩ : ∃ r,RN H base A3 F3 r∧(r.b.f.a=pg d.eqs∧r.b.f.b=.int .i64 (d.eqs.length:Int)∧r.b.f.c=.int .i64 ((0:Nat):Int))∧lq (orc CC M) r3 [] ⟨Hd3,v3⟩=some (.normal,r,[],⟨Hd3,v3⟩):=by
  obtain ⟨b5,b6,b11,b4,b2,b3⟩:=hr3;have hn:=N3.n;have hln:=jC d.eqs;simp only[lq,SIM,ST0,ST1,ST2,ST3,b6,hn,hln,Nat.reduceAdd,Nat.reduceLeDiff];exact ⟨_,⟨by first | rfl | exact b5,by first | rfl | exact b6,by first | rfl | exact b11,by first | rfl | exact b4,by first | rfl | exact b2,by first | rfl | exact b3⟩,⟨rfl,rfl,rfl⟩,rfl⟩
 obtain ⟨r5,Hd5,u5,v5,s5,N5,hq5,S5,he5,hr5⟩:=pY m hel (u0:=u) (p':=p3) (A:=A3) (F:=F3) (by omega) d.eqs.length 0 rfl 100000 (by omega) Hd3 u3 v3 (by rw[List.drop_zero,hq3];exact hp3) N3 S3 he3 r4 hr4 hk4
 obtain ⟨r6,hr6,hk6,s6⟩ : ∃ r,RN H base A3 F3 r∧(r.c.a.f=pg d.eqs∧r.c.a.g=.int .i64 (d.eqs.length:Int)∧r.c.a.h=.int .i64 ((0:Nat):Int))∧lU (orc CC M) r5 [] ⟨Hd5,v5⟩=some (.normal,r,[],⟨Hd5,v5⟩):=by
  obtain ⟨b5,b6,b11,b4,b2,b3⟩:=hr5;have hn:=N5.n;have hln:=jC d.eqs;simp only[lU,SIM,ST0,ST1,ST2,ST3,ST4,b6,hn,hln,Nat.reduceAdd,Nat.reduceLeDiff];exact ⟨_,⟨by first | rfl | exact b5,by first | rfl | exact b6,by first | rfl | exact b11,by first | rfl | exact b4,by first | rfl | exact b2,by first | rfl | exact b3⟩,⟨rfl,rfl,rfl⟩,rfl⟩
 obtain ⟨r7,Hd7,u7,v7,s7,N7,hq7,S7,he7,hes7,hr7⟩:=mo (hsw vm) hel (fun q hq hqa=>hsp H u.ns vm q hq hqa) (u0:=u) (p':=p4) (fm':=fm') (A:=A3) (F:=F3) (by omega) d.eqs.length 0 rfl 100000 (by omega) Hd5 u5 v5 fm (by rw[List.drop_zero,hq5];exact hp4) N5 S5 he5 (fun ⟨_,h,_⟩=>by rw[List.take_zero] at h;cases h) r6 hr6 hk6
 obtain ⟨r8,hr8,hk8,s8⟩ : ∃ r,RN H base A3 F3 r∧(r.c.c.d=pg d.eqs∧r.c.c.e=.int .i64 (d.eqs.length:Int)∧r.c.c.f=.int .i64 ((0:Nat):Int))∧lW (orc CC M) r7 [] ⟨Hd7,v7⟩=some (.normal,r,[],⟨Hd7,v7⟩):=by
  obtain ⟨b5,b6,b11,b4,b2,b3⟩:=hr7;have hn:=N7.n;have hln:=jC d.eqs;simp only[lW,SIM,ST0,ST1,ST2,ST3,ST4,b6,hn,hln,Nat.reduceAdd,Nat.reduceLeDiff];exact ⟨_,⟨by first | rfl | exact b5,by first | rfl | exact b6,by first | rfl | exact b11,by first | rfl | exact b4,by first | rfl | exact b2,by first | rfl | exact b3⟩,⟨rfl,rfl,rfl⟩,rfl⟩
 obtain ⟨r9,Hd9,u9,v9,s9,N9,hq9,S9,he9,hel9,hr9⟩:=wg (hgw vm fm') hel (fun q hq=>hgv H u.ns vm fm' q hq) (u0:=u) (p':=p5) (A:=A3) (F:=F3) (e00:=v7) hw d.eqs.length 0 rfl 100000 (by omega) Hd7 u7 v7 (by rw[List.drop_zero,hq7];exact hp5) N7 S7 he7 ⟨id,fun ⟨_,h,_⟩=>by rw[List.take_zero] at h;cases h⟩ r8 hr8 hk8
 have hlt9:v9=uo:=by
  cases hqq:d.eqs with
  | nil=>exact absurd hqq hne
  | cons q0 l0 =>
    have hm0:q0 ∈ d.eqs:=by rw[hqq];exact List.mem_cons_self ..
    cases hqa:q0.a with
    | true=>exact hel9.1 (hes7 ⟨q0,hm0,hqa⟩)
    | false=>exact hel9.2 ⟨q0,hm0,hqa⟩
 obtain ⟨r10,hr10,hk10,hn10,s10⟩ : ∃ r,RN H base A3 F3 r∧(r.c.d.h=deZ d.outs∧r.c.e.a=.int .i64 (d.outs.length:Int)∧r.c.e.b=.int .i64 ((0:Nat):Int))∧r.a.c.g=.nils∧ac (rk (orc CC M)) (q5 (orc CC M)) r9 [] ⟨Hd9,v9⟩=some (.normal,r,[],⟨Hd9,v9⟩):=by
  obtain ⟨b5,b6,b11,b4,b2,b3⟩:=hr9;have hn:=N9.n;have hln:=gU d.outs;simp only[rk,q5,SIM,ST0,ST1,ST2,ST3,ST4,ST5,b6,hn,hln,Nat.reduceAdd,Nat.reduceLeDiff];exact ⟨_,⟨by first | rfl | exact b5,by first | rfl | exact b6,by first | rfl | exact b11,by first | rfl | exact b4,by first | rfl | exact b2,by first | rfl | exact b3⟩,⟨rfl,rfl,rfl⟩,rfl,rfl⟩
 obtain ⟨r11,Hd11,s11,N11,hO⟩:=zT (M:=M) houts (uc:=u9) (e:=v9) (A:=A3) (F:=F3) d.outs.length 0 rfl 100000 (by omega) Hd9 [] l0 (by simp) (by rw[List.drop_zero];exact hp6) N9 r10 hr10 (by rw[hn10];exact .inl ⟨rfl,rfl⟩) hk10
 rw[List.nil_append] at hO
 obtain ⟨r12,hn12,s12⟩ : ∃ r,r.a.b.c=r11.a.c.g∧ac (sy (orc CC M)) retZ r11 [] ⟨Hd11,v9⟩=some (.ret,r,[],⟨Hd11,v9⟩):=by
  simp only[sy,SIM,ST0];exact ⟨_,rfl,rfl⟩
 refine ⟨Hd11,u9,v9,r11.a.c.g,?_,?_,N11.C.U,N11.G,hq9,S9,hlt9⟩
 ·refine aH (z:=z36) (m _ _ rfl) (by kernel_rfl) rfl ?_
  have hz:z36.sh (orc CC M) (envOf [.ptr bo 0,d.v,A,F,base] 0 env0) [] ⟨H,aa H⟩=some (.ret,r12,[],⟨Hd11,v9⟩):=by
   have b0:∀ (i:Nat) (b:CZ) (r:RG) (s:St),aX i (bi b) r [] s=dD i (aw b 100000 r [] s):=fun _ _ _ _=>rfl
   rw[xn,bt,hpre,bn,bt,b0,s1,dS,bn,bt,s2,bn,bt,b0,s3,dS,bn,bt,s4,bn,bt,b0,s5,dS,bn,bt,s6,bn,bt,b0,s7,dS,bn,bt,s8,bn,bt,b0,s9,dS,bn,← fL,bt,s10,bn,bt,b0,s11,dS,bn,s12]
  rw[hz]
  have hres:fy r12 Hd11 z36.res=some [r11.a.c.g]:=by
   show fy r12 _ [.t 10]=_;rw[iE,iT,show gt r12 10=r11.a.c.g from hn12]
  rw[iM,hres];show some (kf (CC.keep 36) (aa H) r11.a.c.g ⟨Hd11,v9⟩)=_;rw[dU (by omega)]
 ·exact hO
end
theorem HL {f:Ex→PS→Option (AtF × PS)}(hf:∀ e p a p',f e p=some (a,p')→p.w≤p'.w){vm:List (List Nat × Nat)}{nm:List Nat}{e:Ex}{p p' : PS}(h:mI f vm nm e p=some p'):p.w≤p'.w:=by
 unfold mI at h
 split at h
 ·cases h
 ·split at h
  ·cases h
  ·rename_i a p1 hp;simp only[SJ] at h;have:=hf _ _ _ _ hp;rw[← h];simp only[PS.w,List.length_append,List.length_cons,List.length_nil] at this ⊢;omega
section
variable {M:Memo}{uo bo:Nat}{LV:AV}{d:NdR}{vm:List (List Nat × Nat)}{fm:FmS}{base:AV}{H:Heap}{ns0:List Nat}
end
theorem Dn {f:Nat}(hf:CC.mutT f 61=false){uo:Nat}{H:Heap}{V:AV}{xs:List Nat}(h:LvI uo H 1 V (xs.map inV))(n:Nat)(hl:xs.length + 1≤2 ^ 24)(hu:uo < aa H) :
  ∃ V' H',(∀ e lin,aq CC f 61 V (.sl 1 [inV n] lin) ⟨H,e⟩=some (V',⟨H',e⟩))∧LvI uo H' 1 V' ((xs ++ [n]).map inV)∧aa H≤aa H'∧(∀ q,q < aa H→q ∉ nmA V→af H' q=af H q)∧(∀ q ∈ nmA V',q ∈ nmA V∨aa H≤q):=by
 have hlow:∀ (L:Nat) (l:List Nat),aM L (l.map inV)=true:=fun L l=>by
  induction l with
  | nil=>rfl
  | cons a l ih=>simp only[List.map_cons,aM,ih,Bool.and_true];rfl
 rcases h with ⟨h0,rfl⟩ | ⟨h0,id,g,rfl,hg,hu',hw'⟩
 ·have hx0:xs=[]:=by simpa using h0
  subst hx0;refine ⟨_,_,fun e lin=>pU hf n lin H e,.inr ⟨by simp,aa H,0,rfl,by rw[au];rfl,hu,hlow _ _⟩,by rw[az];omega,fun q hq _=>?_,fun q hq=>?_⟩
  ·rw[aj] at hq;rw[aD,aD,List.getElem?_append_left hq]
  ·simp only[nmA,List.mem_singleton] at hq;exact .inr (by omega)
 ·refine ⟨_,_,fun e lin=>m8 hf n lin hg (by simpa using hl),.inr ⟨by simp,id,g + 1,by simp,aK hg _,hu',hlow _ _⟩,by rw[ak];exact Nat.le_refl _,fun q hq hn=>?_,fun q hq=>.inl hq⟩
  rw[ae (by simp only[nmA,List.mem_singleton] at hn;exact hn)]
theorem inl_same:∀ l:List Nat,sameL (l.map inV) (l.map inV)=true
 | []=>by simp[sameL]
 | a :: l=>by rw[List.map_cons];simp[sameL,AV.same,inl_same l]
theorem Iv {uo:Nat}{H:Heap}{V:AV}{xs:List Nat}(h:LvI uo H 1 V (xs.map inV)):AV.same V V=true:=by
 rcases h with ⟨_,h1⟩ | ⟨_,id,g,h1,_⟩
 ·rw[h1];simp[AV.same]
 ·rw[h1];simp[AV.same,inl_same xs]
abbrev oT (nd:List Nat)(at_:Int)(v:Nat)(I:AV):List AV:=PE nd at_ v I .nils .nils .nils .nils .nils 0
abbrev ph (j:Nat):AtF:=⟨false,0,j⟩
structure Rt (uo bo:Nat)(LV:AV)(d:NdR)(nd:List Nat)(at_:Int)(H:Heap)(i:Nat)(Hc:Heap)(I A:AV):Prop where
 u:af Hc uo=some (.cells (oT nd at_ i I))
 b:af Hc bo=some (.cells [.ptr uo 0,LV])
 n:af Hc (aa H)=some (dk d)
 hI:LvI uo Hc 1 I ((List.range i).map inV)
 hA:LvI uo Hc 3 A ((List.range i).map fun j=>(ph j).av)
 dj:∀ q ∈ nmA I,q ∉ nmA A
 iI:∀ q ∈ nmA I,aa H < q
 iA:∀ q ∈ nmA A,aa H < q
 fr:∀ q,q < aa H→q ≠ uo→af Hc q=af H q
 len:aa H < aa Hc
 uh:uo < aa H
 bh:bo < aa H
 bu:bo ≠ uo
theorem Qn (a b c d e f g h i j:AV):af [a,b,c,d,e,f,g,h,i,j] 3=some d:=rfl
theorem RV (a b c d e f g h i j:AV):af [a,b,c,d,e,f,g,h,i,j] 2=some c:=rfl
theorem QL (a b c d e f g h i j v:AV):cm [a,b,c,d,e,f,g,h,i,j] 3 [v]=[a,b,c,v,e,f,g,h,i,j]:=rfl
section
variable {M:Memo}{uo bo:Nat}{LV:AV}{d:NdR}{nd:List Nat}{at_:Int}{H:Heap}
end
abbrev Tv (nd:List Nat)(at_:Int)(v:Nat)(I:AV):UN:=⟨nd,at_,v,I,.nils,[],.nils,[],.nils,[],.nils,[],.nils,0⟩
theorem LO {uo:Nat}{H:Heap}{nd:List Nat}{at_:Int}{v:Nat}{I:AV}(h:af H uo=some (.cells (oT nd at_ v I)))(hv:v < 1000000):UI uo H (Tv nd at_ v I) :=
 ⟨h,.inl ⟨rfl,rfl⟩,fun _ hq=>(by cases hq),.inl ⟨rfl,rfl⟩,.inl ⟨rfl,rfl⟩,.inl ⟨rfl,rfl⟩,⟨fun _ h=>(by cases h),fun _ h=>(by cases h),fun _ h=>(by cases h)⟩,by simpa using hv⟩
theorem Qy (a b c d e f g h i j v:AV):cm [a,b,c,d,e,f,g,h,i,j] 4 [v]=[a,b,c,d,v,f,g,h,i,j]:=rfl
section
variable {M:Memo}{uo bo:Nat}{LV:AV}{d:NdR}{nd:List Nat}{at_:Int}{H:Heap}
end
theorem EU (a b c:AV)(s:St):ea CC 21 [a,b,c] s=some (.call 21 [a,b,c]):=by kernel_rfl
theorem PH (nm:List Nat)(a:Int):ao CC 67 [(0,.str nm),(1,.int .i64 a)]=some (.agg (oT nm a 0 .nils)):=by kernel_rfl
theorem LY (n:Nat)(l:List AV):ao CC 69 [(0,.ptr n 0),(1,.sl 6 l .dead)]=some (.agg [.ptr n 0,.sl 6 l .dead]):=by kernel_rfl
theorem MU (nm:List Nat)(a:Int)(L:Nat):eW (.agg (oT nm a 0 .nils)) L=some (.cells (oT nm a 0 .nils),(.ptr · 0)):=by
 have h1:AV.low L (.agg (oT nm a 0 .nils))=true:=by simp[AV.low,aM]
 unfold eW;rw[if_pos ⟨rfl,h1⟩];rfl
theorem Ky (n:Nat)(l:List NdR)(L:Nat)(h:n < L):eW (.agg [.ptr n 0,.sl 6 (l.map NdR.v) .dead]) L=some (.cells [.ptr n 0,.sl 6 (l.map NdR.v) .dead],(.ptr · 0)):=by
 have hh:aM L (l.map NdR.v)=true:=dG (nd_noN l) L;have h1:AV.low L (.agg [.ptr n 0,.sl 6 (l.map NdR.v) .dead])=true:=by simp[AV.low,aM,h,hh,Lin.low]
 unfold eW;rw[if_pos ⟨rfl,h1⟩];rfl
theorem RX {keep:Bool}{b n:Nat}{x y:Int}{hp:Heap}(h:b≤n):kf keep b (.tuple [.ptr n 0,.agg [.int .i64 x,.int .i64 y]]) ⟨hp,b⟩=.ret (.tuple [.ptr n 0,.agg [.int .i64 x,.int .i64 y]]) hp b:=by
 have h1:AV.low b (.tuple [.ptr n 0,.agg [.int .i64 x,.int .i64 y]])=false:=by simp[AV.low,aM];omega
 have h2:AV.settle b hp (.tuple [.ptr n 0,.agg [.int .i64 x,.int .i64 y]])=.tuple [.ptr n 0,.agg [.int .i64 x,.int .i64 y]]:=by simp[AV.settle,br]
 rw[vC];unfold xj cR;cases keep <;> simp[h1,h2]
section
variable {M:Memo}
theorem Pf (m:eu M){uo bo fo bc no:Nat}{LV:AV}{d:NdR}{H Hf:Heap}(hb:af H bc=some (.cells [.ptr bo 0]))(hn:af H no=some (dk d))(hu:uo < aa H)
  (hR:orc CC M 23 [.ptr bo 0,d.v] H=some (.ret Abs.undef Hf uo)):orc CC M 21 [.ptr fo 0,.ptr bc 0,.ptr no 0] H=some (.ret Abs.undef Hf uo):=by
 refine aH (z:=z21) (m _ _ rfl) (by kernel_rfl) rfl ?_
 have e0:(envOf [AV.ptr fo 0,.ptr bc 0,.ptr no 0] 0 env0).a.a.a=.ptr fo 0:=rfl;have e1:(envOf [AV.ptr fo 0,.ptr bc 0,.ptr no 0] 0 env0).a.a.b=.ptr bc 0:=rfl;have e2:(envOf [AV.ptr fo 0,.ptr bc 0,.ptr no 0] 0 env0).a.a.c=.ptr no 0:=rfl;generalize envOf [AV.ptr fo 0,.ptr bc 0,.ptr no 0] 0 env0=R at e0 e1 e2;have hm:min (aa H) uo=uo:=Nat.min_eq_right (by omega)
 have hgc:=fun hp=>dU (keep:=CC.keep 21) (base:=aa H) (e:=uo) (v:=Abs.undef) (hp:=hp) (by omega)
 obtain ⟨r',hpre⟩ : ∃ r',z21.sh (orc CC M) R [] ⟨H,aa H⟩=some (.normal,r',[(22,[.ptr fo 0])],⟨Hf,uo⟩):=by
  simp only[z21,Gx,ET,SIM,ST0,e0,e1,e2,hb,hn,P6,hR,hm,Nat.reduceAdd,Nat.reduceLeDiff];exact ⟨_,rfl⟩
 rw[hpre];show tI CC 21 (aa H) [] r' [(22,[.ptr fo 0])] ⟨Hf,uo⟩=_;have hct:(CC.catcher 22).isSome=true:=by kernel_rfl
 unfold tI;simp only[List.all_cons,List.all_nil,hct,Bool.and_self,List.length_cons,List.length_nil];rw[show Nat.ble (0 + 1) 1=true from rfl]
 simp only[Bool.and_self,cond_true];exact congrArg some (hgc Hf)
end
end Go.Proofs
