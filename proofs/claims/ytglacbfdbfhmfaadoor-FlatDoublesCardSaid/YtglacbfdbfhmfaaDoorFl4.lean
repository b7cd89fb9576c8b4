/- flat.Flatten. Part of the proof of girandolelaw08.FlatDoubles. -/
import Derived.Test.YtglacbfdbfhmfaaDoorFl3
set_option linter.unusedVariables false
set_option linter.unusedSimpArgs false
set_option maxRecDepth 1000000
namespace Go.Proofs
open Go Go.Abs
abbrev NdF:Type:=NdR→List AtF→List (Int × Int)→PS→Option (List Nat × PS)
def de (nd:NdF)(L:List NdR)(vm:List (List Nat × Nat))(fm:FmS):Nat→Ex→PS→Option (AtF × PS)
 | 0=>fun _ _=>none
 | m + 1=>fun e p=>cond (Nat.beq e.k 14) (vi fm e p) (match cD e.s L with
   | none=>none
   | some d'=>match cL (bG vm (de nd L vm fm m) 60) fm d'.ins e.kids p with
     | none=>none
     | some (xs,fs,p1)=>match nd d' xs fs p1 with
       | some (v :: _,p2)=>some (⟨false,0,v⟩,p2)
       | _=>none)
def tD (nd:NdF)(L:List NdR)(vm:List (List Nat × Nat))(fm:FmS)(q:EqR)(p:PS):Option PS :=
 cond q.a (t4 (bG vm (de nd L vm fm 60) 60) fm L q p) (cond (Nat.beq q.e.k 13)
  (match cD q.e.s L with
  | none=>none
  | some d'=>match cL (bG vm (de nd L vm fm 60) 60) fm d'.ins q.e.kids p with
    | none=>none
    | some (xs,fs,p1)=>match nd d' xs fs p1 with
      | some (v :: l,p2)=>cond (Nat.beq q.l.length 0) none (cond (Nat.ble l.length 80000) (kz vm q.l ((v :: l).map ph) p2) none)
      | _=>none)
  (match q.l with
  | [(nm,_)]=>mI (bG vm (de nd L vm fm 60) 60) vm nm q.e p
  | _=>none))
def fU (L:List NdR):Nat→NdF
 | 0=>fun _ _ _ _=>none
 | n + 1=>jb (fun _=>vz) (tD (fU L n) L)
theorem placesP_nm:∀ (l:List DeR) (vm vm' : List (List Nat × Nat)) (p p' : PS),placesP l vm p=some (vm',p')→p.nm≤p'.nm
 | [],vm,vm',p,p',h=>by simp only[placesP,SJ,PJ] at h;rw[h.2];exact Nat.le_refl _
 | x :: l,vm,vm',p,p',h=>by
   simp only[placesP] at h;cases hf:x.f with
   | true=>rw[hf] at h;exact placesP_nm l _ _ _ _ h
   | false =>
     rw[hf] at h;simp only[cond_false] at h
     split at h
     ·cases h
     ·have:=placesP_nm l _ _ _ _ h;exact this
theorem rO {vm:List (List Nat × Nat)}:∀ (l:List DeR) (xs:List AtF) (fs:List (Int × Int)) (fm fm' : List (List Nat × AV)) (p p' : PS),ka vm l xs fs fm p=some (fm',p')→p.nm≤p'.nm
 | [],xs,fs,fm,fm',p,p',h=>by simp only[ka,SJ,PJ] at h;rw[h.2];exact Nat.le_refl _
 | x :: l,xs,fs,fm,fm',p,p',h=>by
   simp only[ka] at h;cases hf:x.f with
   | true =>
     rw[hf] at h;simp only[cond_true] at h
     split at h
     ·cases h
     ·split at h
      ·cases h
      ·exact rO l _ _ _ _ _ _ h
   | false =>
     rw[hf] at h;simp only[cond_false] at h
     split at h
     ·cases h
     ·split at h
      ·cases h
      ·have:=rO l _ _ _ _ _ _ h;exact this
theorem sizeP_nm:∀ (l:List EqR) (p p' : PS),sizeP l p=some p'→p.nm≤p'.nm
 | [],p,p',h=>by simp only[sizeP,SJ] at h;rw[h];exact Nat.le_refl _
 | q :: l,p,p',h=>by
   simp only[sizeP] at h;obtain ⟨_,h⟩:=aS h;have:=sizeP_nm l _ _ h;exact this
theorem kd {sp:EqR→FmS→PS→Option (FmS × PS)}(hs:∀ q fm p fm' p',sp q fm p=some (fm',p')→p.nm≤p'.nm):∀ (l:List EqR) (fm fm' : FmS) (p p' : PS),dC sp l fm p=some (fm',p')→p.nm≤p'.nm
 | [],fm,fm',p,p',h=>by simp only[dC,SJ,PJ] at h;rw[h.2];exact Nat.le_refl _
 | q :: l,fm,fm',p,p',h=>by
   simp only[dC] at h;cases hq:q.a with
   | true =>
     rw[hq] at h;simp only[cond_true] at h
     split at h
     ·cases h
     ·rename_i fm1 p1 h1;exact Nat.le_trans (hs _ _ _ _ _ h1) (kd hs l _ _ _ _ h)
   | false=>rw[hq] at h;exact kd hs l _ _ _ _ h
theorem qE {gv:EqR→PS→Option PS}(hs:∀ q p p',gv q p=some p'→p.nm≤p'.nm):∀ (l:List EqR) (p p' : PS),fA gv l p=some p'→p.nm≤p'.nm
 | [],p,p',h=>by simp only[fA,SJ] at h;rw[h];exact Nat.le_refl _
 | q :: l,p,p',h=>by
   simp only[fA] at h
   split at h
   ·cases h
   ·rename_i p1 h1;exact Nat.le_trans (hs _ _ _ h1) (qE hs l _ _ h)
theorem xi {sp:List (List Nat × Nat)→EqR→FmS→PS→Option (FmS × PS)}{gv:List (List Nat × Nat)→FmS→EqR→PS→Option PS}
  (hs:∀ vm q fm p fm' p',sp vm q fm p=some (fm',p')→p.w≤p'.w∧p.nm≤p'.nm) (hg:∀ vm fm q p p',gv vm fm q p=some p'→p.w≤p'.w∧p.nm≤p'.nm) {d:NdR} {xs:List AtF} {fs:List (Int × Int)} {p p' : PS} {l:List Nat} (h:jb sp gv d xs fs p=some (l,p')):p.w≤p'.w∧p.nm≤p'.nm:=by
 unfold jb at h
 split at h
 ·cases h
 rename_i vm p1 h1
 split at h
 ·cases h
 rename_i fm p2 h2
 split at h
 ·cases h
 rename_i p3 h3
 split at h
 ·cases h
 rename_i fm' p4 h4
 split at h
 ·cases h
 rename_i p5 h5
 split at h
 ·cases h
 simp only[SJ,PJ] at h;rw[← h.2]
 exact ⟨Nat.le_trans (placesP_w _ _ _ _ _ h1) (Nat.le_trans (n9 _ _ _ _ _ _ _ h2) (Nat.le_trans (sizeP_w _ _ _ h3) (Nat.le_trans (gO (fun q fm p fm' p' h=>(hs vm q fm p fm' p' h).1) _ _ _ _ _ h4) (kS (fun q p p' h=>(hg vm fm' q p p' h).1) _ _ _ h5)))),
  Nat.le_trans (placesP_nm _ _ _ _ _ h1) (Nat.le_trans (rO _ _ _ _ _ _ _ h2) (Nat.le_trans (sizeP_nm _ _ _ h3) (Nat.le_trans (kd (fun q fm p fm' p' h=>(hs vm q fm p fm' p' h).2) _ _ _ _ _ h4) (qE (fun q p p' h=>(hg vm fm' q p p' h).2) _ _ _ h5))))⟩
def KL (nd:NdF):Prop:=∀ d xs fs p l p',nd d xs fs p=some (l,p')→p.w≤p'.w∧p.nm≤p'.nm
theorem Im {fm:FmS}{e:Ex}{p p' : PS}{a:AtF}(h:vi fm e p=some (a,p')):p.w≤p'.w∧p.nm≤p'.nm:=by
 unfold vi at h
 split at h
 ·cases h
 ·simp only[SJ,PJ] at h;rw[← h.2];exact ⟨by simp only[PS.w,List.length_append,List.length_cons,List.length_nil];omega,Nat.le_refl _⟩
theorem fj {nd:NdF}(hn:KL nd){L:List NdR}{vm:List (List Nat × Nat)}{fm:FmS}:∀ (m:Nat) (e:Ex) (p:PS) (a:AtF) (p' : PS),de nd L vm fm m e p=some (a,p')→p.w≤p'.w∧p.nm≤p'.nm
 | 0,e,p,a,p',h=>by cases h
 | m + 1,e,p,a,p',h=>by
   have ih:=fj hn (L:=L) (vm:=vm) (fm:=fm) m;simp only[de] at h;cases h14:Nat.beq e.k 14 with
   | true=>rw[h14] at h;exact Im h
   | false =>
     rw[h14] at h;simp only[cond_false] at h
     split at h
     ·cases h
     split at h
     ·cases h
     rename_i d' _ xs fs p1 h1
     split at h
     ·rename_i v l p2 h2;simp only[SJ,PJ] at h;rw[← h.2];have e1:=cN PS.w (gk (fun e p a p' h=>(ih e p a p' h).1) 60) _ _ _ _ _ _ h1
      have e2:=cN PS.nm (kI (fun e p a p' h=>(ih e p a p' h).2) 60) _ _ _ _ _ _ h1
      have e3:=hn _ _ _ _ _ _ h2;exact ⟨Nat.le_trans e1 e3.1,Nat.le_trans e2 e3.2⟩
     ·cases h
theorem vO {f:Ex→PS→Option (AtF × PS)}(hf:∀ e p a p',f e p=some (a,p')→p.w≤p'.w∧p.nm≤p'.nm){fm:FmS}{L:List NdR}{q:EqR}{p p' : PS}(h:t4 f fm L q p=some p'):p.w≤p'.w∧p.nm≤p'.nm:=by
 unfold t4 at h
 split at h
 ·cases h
 split at h
 ·cases h
 split at h
 ·cases h
 split at h
 ·cases h
 rename_i xs fs p1 h1
 split at h
 ·cases h
 obtain ⟨_,h⟩:=aS h;simp only[SJ] at h;rw[← h];have e1:=cN PS.w (fun e p a p' h=>(hf e p a p' h).1) _ _ _ _ _ _ h1
 have e2:=cN PS.nm (fun e p a p' h=>(hf e p a p' h).2) _ _ _ _ _ _ h1
 exact ⟨by simp only[PS.w,List.length_set] at e1 ⊢;exact e1,e2⟩
theorem DC {f:Ex→PS→Option (AtF × PS)}(hf:∀ e p a p',f e p=some (a,p')→p.nm≤p'.nm){vm:List (List Nat × Nat)}{nm:List Nat}{e:Ex}{p p' : PS}(h:mI f vm nm e p=some p'):p.nm≤p'.nm:=by
 unfold mI at h
 split at h
 ·cases h
 ·split at h
  ·cases h
  ·rename_i a p1 hp;simp only[SJ] at h;rw[← h];have:=hf _ _ _ _ hp;exact this
theorem n7 {nd:NdF}(hn:KL nd){L:List NdR}{vm:List (List Nat × Nat)}{fm:FmS}{q:EqR}{p p' : PS}(h:tD nd L vm fm q p=some p'):p.w≤p'.w∧p.nm≤p'.nm:=by
 have hx:=fj hn (L:=L) (vm:=vm) (fm:=fm) 60;have hw:=gk (vm:=vm) (fun e p a p' h=>(hx e p a p' h).1) 60
 have hm:=kI (vm:=vm) (fun e p a p' h=>(hx e p a p' h).2) 60
 unfold tD at h;cases hq:q.a with
 | true=>rw[hq] at h;exact vO (fun e p a p' h=>⟨hw e p a p' h,hm e p a p' h⟩) h
 | false =>
   rw[hq] at h;simp only[cond_false] at h;cases h13:Nat.beq q.e.k 13 with
   | true =>
     rw[h13] at h;simp only[cond_true] at h
     split at h
     ·cases h
     split at h
     ·cases h
     rename_i d' _ xs fs p1 h1
     split at h
     ·rename_i v l p2 h2;cases hl0:Nat.beq q.l.length 0 with
      | true=>rw[hl0] at h;cases h
      | false =>
        rw[hl0] at h;obtain ⟨_,h⟩:=aS h;have e1:=cN PS.w hw _ _ _ _ _ _ h1;have e2:=cN PS.nm hm _ _ _ _ _ _ h1;have e3:=hn _ _ _ _ _ _ h2;have e4:=mX _ _ _ _ h;exact ⟨Nat.le_trans e1 (Nat.le_trans e3.1 e4.1),Nat.le_trans e2 (Nat.le_trans e3.2 e4.2)⟩
     ·cases h
   | false =>
     rw[h13] at h;simp only[cond_false] at h
     split at h
     ·exact ⟨HL hw h,DC hm h⟩
     ·cases h
theorem eJ (L:List NdR):∀ n,KL (fU L n)
 | 0=>fun _ _ _ _ _ _ h=>by cases h
 | n + 1=>fun d xs fs p l p' h=>xi (fun vm q fm p fm' p' h=>uP h) (fun vm fm q p p' h=>n7 (eJ L n) h) h
section
variable {M:Memo}{uo bo so vo fo:Nat}{LV:AV}{d:NdR}{vm:List (List Nat × Nat)}{fm:FmS}{base:AV}
theorem zY (m:eu M){e:Ex}(hk:e.k=14){H:Heap}{u u' : UN}{H1:Heap}{a:AtF}(C:Cx uo bo so vo fo LV d (iu vm) fm base H u)
  (hA:orc CC M 83 [.ptr bo 0,.ptr so 0,e.v] (H ++ [bH e,zA])=some (.ret a.av H1 uo)) (U1:UI uo H1 u') (G1:Gr uo (H ++ [bH e,zA]) u.ns H1 u'.ns) :
  ∃ H',orc CC M 74 [.ptr bo 0,.ptr so 0,e.v,.nils] H=some (.ret a.av H' uo)∧UI uo H' u'∧Gr uo H u.ns H' u'.ns:=by
 have l1:=G1.loc C.U (j:=1) (by rw[aO,aO,bj];omega)
 have l1' : af H1 (aa H + 1)=some zA:=by rw[l1.1];rfl
 have m0:af (H ++ [bH e,zA]) (aa H)=some (bH e):=by rw[au];rfl
 have huo:=C.U.uo;refine ⟨ai H1 (aa H + 1) (.cells [.bool a.c,.int .i64 a.n,.int .i64 (a.v:Int)]),?_,U1.to (by rw[ak];exact Nat.le_refl _) (fun q hq hn=>ae (by rintro rfl;rcases hn with h | h;(omega);exact l1.2.1 h) _),(Gr.ap.trans G1).put2 (by omega)⟩
 refine aH (z:=z74) (m _ _ rfl) (by kernel_rfl) rfl ?_
 have e0:(envOf [.ptr bo 0,.ptr so 0,e.v,.nils] 0 env0).a.a.a=.ptr bo 0:=rfl;have e1:(envOf [.ptr bo 0,.ptr so 0,e.v,.nils] 0 env0).a.a.b=.ptr so 0:=rfl;have e2:(envOf [.ptr bo 0,.ptr so 0,e.v,.nils] 0 env0).a.a.c=e.v:=rfl;have e3:(envOf [.ptr bo 0,.ptr so 0,e.v,.nils] 0 env0).a.a.d=.nils:=rfl;generalize envOf [.ptr bo 0,.ptr so 0,e.v,.nils] 0 env0=R at e0 e1 e2 e3;have hbx:=fx e;have cc:∀ j:Nat,j ≠ e.k→decide ((e.k:Int)=(j:Int))=false:=fun j hj=>by simp;omega
 have c1:decide ((e.k:Int)=1)=false:=cc 1 (by omega)
 have c2:decide ((e.k:Int)=2)=false:=cc 2 (by omega)
 have c3:decide ((e.k:Int)=3)=false:=cc 3 (by omega)
 have c4:decide ((e.k:Int)=4)=false:=cc 4 (by omega)
 have c5:decide ((e.k:Int)=5)=false:=cc 5 (by omega)
 have c6:decide ((e.k:Int)=6)=false:=cc 6 (by omega)
 have c7:decide ((e.k:Int)=7)=false:=cc 7 (by omega)
 have c11:decide ((e.k:Int)=11)=false:=cc 11 (by omega)
 have c12:decide ((e.k:Int)=12)=false:=cc 12 (by omega)
 have c14:decide ((e.k:Int)=14)=true:=by rw[hk];rfl
 have hm2:min (aa H) uo=uo:=Nat.min_eq_right (by omega)
 have hzs:=fun c=>aK l1' c
 have hgc:=fun hp=>dU (keep:=CC.keep 74) (base:=aa H) (e:=uo) (v:=a.av) (hp:=hp) (by omega)
 have hA' : orc CC M 83 [.ptr bo 0,.ptr so 0,e.v] (H ++ [bH e,zA])=some (.ret (.agg [.bool a.c,.int .i64 a.n,.int .i64 (a.v:Int)]) H1 uo):=hA;have hgc' : ∀ hp,kf (CC.keep 74) (aa H) (.agg [.bool a.c,.int .i64 a.n,.int .i64 (a.v:Int)]) ⟨hp,uo⟩=.ret (.agg [.bool a.c,.int .i64 a.n,.int .i64 (a.v:Int)]) hp uo:=hgc;simp only[z74,fF,fI,fH,fG,gm,gL,iG,ig,jX,oP,oG,nw,CB,SIM,ST0,ST1,ST2,ST3,ST4,e0,e1,e2,e3,hbx,m0,hA',hm2,l1',hzs,hgc',c1,c2,c3,c4,c5,c6,c7,c11,c12,c14,EXS,Nat.reduceAdd,Nat.reduceLeDiff]
end
structure NdK (d:NdR):Prop where
 al:(cA d).length≤90000
 el:d.eqs.length≤90000
 ne:d.eqs ≠ []
 cl:∀ x ∈ cA d,x.c=[]
 eq:∀ q ∈ d.eqs,sizeE q.e < 90000∧q.l.length≤90000
theorem dV {nm:List Nat}:∀ {L:List NdR} {d:NdR},cD nm L=some d→d ∈ L
 | [],d,h=>by cases h
 | x :: l,d,h=>by
   simp only[cD] at h;cases hx:strEq x.s nm with
   | true=>rw[hx] at h;simp only[cond_true,SJ] at h;rw[h];exact List.mem_cons_self ..
   | false=>rw[hx] at h;exact List.mem_cons_of_mem _ (dV h)
theorem NdK.ins {d:NdR}(h:NdK d):d.ins.length≤90000:=by
 have:=h.al;unfold cA at this;simp only[List.length_append] at this;omega
section
variable {M:Memo}{uo bo:Nat}{LV:AV}{L:List NdR}
theorem rn (m:eu M)(hL:L.length≤90000)(hLV:LV=.sl 6 (L.map NdR.v) .dead)(hK:∀ d ∈ L,NdK d){nd:NdF}(hn:KL nd)(hN:∀ d ∈ L,OD M uo bo LV nd d)
  {so vo fo:Nat} {d:NdR} {vm:List (List Nat × Nat)} {fm:FmS} {base:AV} (hb:iy base) :
  ∀ (j:Nat)(k:Nat)(e:Ex),(Nat.beq e.k 13 || Nat.beq e.k 14)=true→sizeE e < 90000→fD M uo bo so vo fo LV d (iu vm) fm base (bG vm (de nd L vm fm j) (k + 1)) e:=by
 intro j
 induction j with
 | zero =>
   intro k e hk he H u a p' h
   have hk' : e.k=13∨e.k=14:=by
    rw[Bool.or_eq_true] at hk;exact hk.imp Nat.eq_of_beq_eq_true Nat.eq_of_beq_eq_true
   rcases hk' with h1 | h1 <;> simp only[bG,mN,h1,de] at h <;> cases h
 | succ j ih =>
   intro k e hk he H u a p' h C hw
   have hk' : e.k=13∨e.k=14:=by
    rw[Bool.or_eq_true] at hk;exact hk.imp Nat.eq_of_beq_eq_true Nat.eq_of_beq_eq_true
   have hx:de nd L vm fm (j + 1) e u.p=some (a,p'):=by
    rcases hk' with h1 | h1 <;> (rw[show bG vm (de nd L vm fm (j + 1)) (k + 1) e u.p=de nd L vm fm (j + 1) e u.p from by simp only[bG,mN,h1];rfl] at h;exact h)
   have hkl:=sizeL_len e.kids;have hsk:=fk e;simp only[de] at hx
   rcases hk' with h1 | h1
   ·rw[show Nat.beq e.k 14=false by rw[h1];rfl] at hx
    simp only[cond_false] at hx
    split at hx
    ·cases hx
    rename_i d' hfd
    split at hx
    ·cases hx
    rename_i xs fs p1 hp1
    split at hx
    ·rename_i v l p2 hp2;simp only[SJ,PJ] at hx;obtain ⟨rfl,rfl⟩:=hx;have hmono:=fj hn (L:=L) (vm:=vm) (fm:=fm) j;have hf:=gk (vm:=vm) (fun e p a p' h=>(hmono e p a p' h).1) 60
     have hf2:=kI (vm:=vm) (fun e p a p' h=>(hmono e p a p' h).2) 60
     have hall:=iB (LV:=LV) (d:=d) (vm:=vm) (fm:=fm) (base:=base) (uo:=uo) (bo:=bo) (so:=so) (vo:=vo) (fo:=fo) m (fun e p a p' h=>(hmono e p a p' h).1) (fun e p a p' h=>(hmono e p a p' h).2) hb ih
     obtain ⟨H',u',V,hA,hO,U',G',hpp,S'⟩:=m5 (nd:=nd) m hf hL hLV hfd (hK _ (dV hfd)).ins (fun a ha=>hall 60 a (by have:=dJ ha;omega)) hb (hN _ (dV hfd)) hp1 hp2 (hn _ _ _ _ _ _ hp2).1 (C.ap [bH e,zA]) hw
     obtain ⟨H2,hR,U2,G2⟩:=Ay m h1 C hA hO U' G';exact ⟨H2,u',uo,hR,U2,G2,hpp,S',.inr rfl⟩
    ·cases hx
   ·rw[show Nat.beq e.k 14=true by rw[h1];rfl] at hx
    simp only[cond_true] at hx;obtain ⟨H',u',hA,U',G',hpp,S'⟩:=HN m hb (by omega) hx (C.ap [bH e,zA]) hw
    obtain ⟨H2,hR,U2,G2⟩:=zY m h1 C hA U' G';exact ⟨H2,u',uo,hR,U2,G2,hpp,S',.inr rfl⟩
theorem re (m:eu M)(hL:L.length≤90000)(hLV:LV=.sl 6 (L.map NdR.v) .dead)(hK:∀ d ∈ L,NdK d){nd:NdF}(hn:KL nd)(hN:∀ d ∈ L,OD M uo bo LV nd d)
  {d:NdR} (hd:NdK d) {vm:List (List Nat × Nat)} {fm:FmS} {base:AV} (hb:iy base) {H:Heap} {ns0:List Nat} {q:EqR} (hq:q ∈ d.eqs):pu M uo bo LV d vm base H ns0 fm (tD nd L vm fm) q:=by
 obtain ⟨hqs,hql⟩:=hd.eq q hq;have hmono:=fj hn (L:=L) (vm:=vm) (fm:=fm) 60;have hf:=gk (vm:=vm) (fun e p a p' h=>(hmono e p a p' h).1) 60
 have hext:=rn (so:=aa H + 4) (vo:=aa H + 2) (fo:=aa H + 3) (d:=d) (vm:=vm) (fm:=fm) m hL hLV hK hn hN hb 60;have hall:=iB (LV:=LV) (d:=d) (vm:=vm) (fm:=fm) (base:=base) (uo:=uo) (bo:=bo) (so:=aa H + 4) (vo:=aa H + 2) (fo:=aa H + 3) m (fun e p a p' h=>(hmono e p a p' h).1) (fun e p a p' h=>(hmono e p a p' h).2) hb hext
 have hkl:=sizeL_len q.e.kids;have hsk:=fk q.e;have ihk:∀ a ∈ q.e.kids,fD M uo bo (aa H + 4) (aa H + 2) (aa H + 3) LV d (iu vm) fm base (bG vm (de nd L vm fm 60) 60) a:=fun a ha=>hall 60 a (by have:=dJ ha;omega)
 intro Hc uc p' hp N hw;unfold tD at hp;cases hqa:q.a with
 | true =>
   rw[hqa] at hp;obtain ⟨H',u',esc,h1,h2,h3,h4,h5,h6,h7⟩:=Bx m hf hL hLV (fun d' h=>(hK d' h).ins) hqa ihk Hc uc p' hp N hw
   exact ⟨H',u',esc,h1,h2,h3,h4,h5,h6,fun h=>by cases h⟩
 | false =>
   rw[hqa] at hp;simp only[cond_false] at hp;cases h13:Nat.beq q.e.k 13 with
   | true =>
     rw[h13] at hp;simp only[cond_true] at hp
     split at hp
     ·cases hp
     rename_i d' hfd
     split at hp
     ·cases hp
     rename_i xs fs p1 hp1
     split at hp
     ·rename_i v l p2 hp2;cases hl0:Nat.beq q.l.length 0 with
      | true=>rw[hl0] at hp;cases hp
      | false =>
        rw[hl0] at hp;obtain ⟨hll,hp⟩:=aS hp;rw[dE,decide_eq_true_eq] at hll;have hqn:q.l ≠ []:=fun h=>by rw[h] at hl0;cases hl0
        have e4:=(mX _ _ _ _ hp).1;obtain ⟨H',u',V,hA,hO,U',G',hpp,S'⟩:=m5 (nd:=nd) m hf hL hLV hfd (hK _ (dV hfd)).ins ihk hb (hN _ (dV hfd)) hp1 hp2 (hn _ _ _ _ _ _ hp2).1 (N.C.ap [qO q]) (by omega)
        obtain ⟨H2,u2,g1,g2,g3,g4,g5⟩:=DH m hb hd.al hd.cl hqa (Nat.eq_of_beq_eq_true h13) hqn hql N.C (vs:=v :: l) (by simp) (by simp;omega) hA hO U' G' S' (by rw[hpp];exact hp) hw
        exact ⟨H2,u2,uo,g1,g2,g3,g4,g5,Nat.le_refl _,fun _=>rfl⟩
     ·cases hp
   | false =>
     rw[h13] at hp;simp only[cond_false] at hp
     split at hp
     ·rename_i nm pos hl
      have hqe:q=⟨[(nm,pos)],false,q.e⟩:=by
       cases q with
       | mk l a e=>simp only at hl hqa;rw[hl,hqa]
      obtain ⟨H',u',h1,h2,h3,h4,h5⟩:=Ij (pos:=pos) m hf hb hd.al hd.cl h13 (hall 60 q.e hqs) hp N.C hw;exact ⟨H',u',uo,by rw[hqe];exact h1,h2,h3,h4,h5,Nat.le_refl _,fun _=>rfl⟩
     ·cases hp
theorem nt (m:eu M)(hL:L.length≤90000)(hLV:LV=.sl 6 (L.map NdR.v) .dead)(hK:∀ d ∈ L,NdK d):∀ (n:Nat),∀ d ∈ L,OD M uo bo LV (fU L n) d
 | 0=>fun d hd H u xs fs A F l p' _ _ _ _ _ h=>by cases h
 | n + 1=>fun d hd H u xs fs A F l p' hU hbo hbn hA hF h hw=>by
   have hk:=hK d hd;have ih:=nt m hL hLV hK n
   obtain ⟨H',u',esc,V,h1,h2,h3,h4,h5,h6,h7⟩:=xC (sp:=fun _=>vz) (gv:=tD (fU L n) L) (base:=gv0) m (fun vm q fm p fm' p' h=>(uP h).1) (fun vm fm q p p' h=>(n7 (eJ L n) h).1) (.inr rfl) hk.al hk.el hk.ne
    (fun H ns0 vm q _ _=>ku m (.inr rfl) q) (fun H ns0 vm fm q hq=>re m hL hLV hK (eJ L n) ih hk (.inr rfl) hq) hU hbo hbn hA hF h hw
   rw[h7] at h1;exact ⟨H',u',V,h1,h2,h3,h4,h5,h6⟩
end
abbrev y8 (j:Nat):Int × Int:=(-1,(j:Int))
structure Rt2 (uo bo:Nat)(LV:AV)(d:NdR)(nd:List Nat)(at_:Int)(H:Heap)(i j:Nat)(Hc:Heap)(I A F:AV):Prop where
 R:Rt uo bo LV d nd at_ H i Hc I A
 hF:LvI uo Hc 2 F ((List.range j).map fun k=>iw (y8 k))
 iF:∀ q ∈ nmA F,aa H < q
 dF:∀ q ∈ nmA F,q ∉ nmA I∧q ∉ nmA A
def SZ (uo bo:Nat)(LV:AV)(d:NdR)(nd:List Nat)(at_:Int)(H:Heap)(n j:Nat)(X:IRes):Prop :=
 ∃ r' Hd e' I A F,X=some (.exit 0,r',[],⟨Hd,e'⟩)∧Rt2 uo bo LV d nd at_ H n j Hd I A F∧uo≤e'∧e'≤aa H∧(r'.a.a.a=.ptr bo 0∧r'.a.a.d=.ptr (aa H) 0∧r'.a.a.e=A∧r'.a.a.f=F)
def cI (l:List DeR):Nat:=l.countP fun x=>!x.f
def cF (l:List DeR):Nat:=l.countP fun x=>x.f
theorem Pt (a:Nat):ao CC 95 [(0,.int .i64 (-1)),(1,.int .i64 (a:Int))]=some (.agg [.int .i64 (-1),.int .i64 (a:Int)]):=by
 have:∀ x:Int,ao CC 95 [(0,.int .i64 (-1)),(1,.int .i64 x)]=some (.agg [.int .i64 (-1),.int .i64 x]):=fun _=>by kernel_rfl
 exact this _
theorem cc148:∃ e,CC.P.underlying 89=some (.slice e)∧e=95:=⟨_,by kernel_rfl,rfl⟩
theorem Px {uo:Nat}{H:Heap}{F:AV}{xs:List AV}(h:LvI uo H 2 F xs):bF CC 89 F=some (.int .i64 (xs.length:Int)):=by
 obtain ⟨e,hu,_⟩:=cc148
 rcases h with ⟨rfl,rfl⟩ | ⟨_,id,g,rfl,_⟩
 ·rw[eo];simp[eY,hu]
 ·rw[dB hu]
section
variable {M:Memo}{uo bo:Nat}{LV:AV}{d:NdR}{nd:List Nat}{at_:Int}{H:Heap}
theorem oU (m:eu M){L:List DeR}(hL:L.length≤90000) :
  ∀ (k i:Nat),k + i=L.length→∀ (fu:Nat),k < fu→∀ (Hc:Heap) (e:Nat) (I A F:AV),Rt2 uo bo LV d nd at_ H (cI (L.take i)) (cF (L.take i)) Hc I A F→uo≤e→e≤aa H→∀ (r:RG),(r.a.a.a=.ptr bo 0∧r.a.a.d=.ptr (aa H) 0∧r.a.a.e=A∧r.a.a.f=F) →
  (r.a.b.b=deZ L∧r.a.b.c=.int .i64 (L.length:Int)∧r.a.b.d=.int .i64 (i:Int)) →
  SZ uo bo LV d nd at_ H (cI L) (cF L) (aw (j9 (orc CC M)) fu r [] ⟨Hc,e⟩):=by
 intro k
 induction k with
 | zero =>
   intro i hi fu hfu Hc e I A F R2 he he' r hr ⟨h32,h33,h34⟩;obtain ⟨fu',rfl⟩ : ∃ f,fu=f + 1:=⟨fu - 1,by omega⟩
   have:i=L.length:=by omega
   subst this;have hc:decide ((L.length:Int) < (L.length:Int))=false:=by simp
   simp only[aw,j9,yR,SIM,ST0,ST1,h33,h34,hc];rw[List.take_length] at R2;exact ⟨_,Hc,e,I,A,F,rfl,R2,he,he',by first | exact hr⟩
 | succ k ih =>
   intro i hi fu hfu Hc e I A F R2 he he' r hr ⟨h32,h33,h34⟩;obtain ⟨hr0,hr3,hr4,hr5⟩:=hr;obtain ⟨fu',rfl⟩ : ∃ f,fu=f + 1:=⟨fu - 1,by omega⟩
   have hlt:i < L.length:=by omega
   have hc:decide ((i:Int) < (L.length:Int))=true:=by simp;omega
   have hg:L[i]?=some L[i]:=by simp[hlt]
   have htk:L.take (i + 1)=L.take i ++ [L[i]]:=by rw[List.take_add_one,hg];rfl
   have R:=R2.R;have hci:cI (L.take i)≤i:=Nat.le_trans List.countP_le_length (by rw[List.length_take];omega)
   have hcf:cF (L.take i)≤i:=Nat.le_trans List.countP_le_length (by rw[List.length_take];omega)
   generalize L[i]=a at hg htk;have hat:=n8 hg;have ha:cQ (i:Int) 1=((i + 1:Nat):Int):=bA i 1 (by unfold natMax;omega)
   cases haf:a.f with
   | true =>
     have hcn:∀ x y:IRes,eX (.bool a.f) x y=x:=fun x y=>by rw[haf];rfl
     have uh:=R.uh;have hlen:=R.len;have hlz:aa (Hc ++ [AObj.cells a.l])=aa Hc + 1:=by rw[az];rfl
     have hdo:af (Hc ++ [AObj.cells a.l]) (aa Hc)=some (.cells a.l):=by rw[au];rfl
     have f0:∀ q,q < aa Hc→af (Hc ++ [.cells a.l]) q=af Hc q:=fun q hq=>eh hq
     have F0:=R2.hF.mono (H':=Hc ++ [.cells a.l]) (by omega) (fun q _ hq=>f0 q hq)
     have I0:=R.hI.mono (H':=Hc ++ [.cells a.l]) (by omega) (fun q _ hq=>f0 q hq)
     have A0:=R.hA.mono (H':=Hc ++ [.cells a.l]) (by omega) (fun q _ hq=>f0 q hq)
     have hln:=Px F0;rw[List.length_map,List.length_range] at hln;obtain ⟨F',H1,ap1,F1,l1,f1,n1⟩:=lH sl148 23 (x:=iw (y8 (cF (L.take i)))) F0 rfl (by simp[AV.low,aM]) (by rw[List.length_map,List.length_range];omega) (by omega)
     have hne:∀ q,q≤aa H→q ∉ nmA F:=fun q hq hm=>by have:=R2.iF q hm;omega
     have R5:Rt2 uo bo LV d nd at_ H (cI (L.take i)) (cF (L.take i) + 1) H1 I A F':=by
      refine ⟨⟨by rw[f1 uo (by omega) (hne _ (by omega)),f0 uo (by omega),R.u],by rw[f1 bo (by have:=R.bh;omega) (hne _ (by have:=R.bh;omega)),f0 bo (by have:=R.bh;omega),R.b],by rw[f1 _ (by omega) (hne _ (Nat.le_refl _)),f0 _ (by omega),R.n],I0.mono l1 (fun q hq hlt=>f1 q hlt (fun hm=>(R2.dF q hm).1 hq)),A0.mono l1 (fun q hq hlt=>f1 q hlt (fun hm=>(R2.dF q hm).2 hq)),R.dj,R.iI,R.iA,fun q hq hu=>by rw[f1 q (by omega) (hne _ (by omega)),f0 q (by omega),R.fr q hq hu],by omega,R.uh,R.bh,R.bu⟩,?_,fun q hq=>?_,fun q hq=>⟨fun hm=>?_,fun hm=>?_⟩⟩
      ·have:(List.range (cF (L.take i) + 1)).map (fun k=>iw (y8 k))=(List.range (cF (L.take i))).map (fun k=>iw (y8 k)) ++ [iw (y8 (cF (L.take i)))]:=by rw[List.range_succ,List.map_append];rfl
       rw[this];exact F1
      ·rcases n1 q hq with h | h
       ·exact R2.iF q h
       ·omega
      ·rcases n1 q hq with h | h
       ·exact (R2.dF q h).1 hm
       ·have:=(I0.lt q hm).2;omega
      ·rcases n1 q hq with h | h
       ·exact (R2.dF q h).2 hm
       ·have:=(A0.lt q hm).2;omega
     have hc1:cI (L.take (i + 1))=cI (L.take i):=by rw[htk];unfold cI;rw[List.countP_append];simp[haf]
     have hc2:cF (L.take (i + 1))=cF (L.take i) + 1:=by rw[htk];unfold cF;rw[List.countP_append];simp[haf]
     have key:=ih (i + 1) (by omega) fu' (by omega) H1 e I A F' (by rw[hc1,hc2];exact R5) he he'
     have h152:=Pt (cF (L.take i));have h148:=vI (y8 (cF (L.take i)));have h148' : aP CC 89 1 [(0,.agg [.int .i64 (-1),.int .i64 ((cF (L.take i):Nat):Int)])]=some (.sl 2 [.agg [.int .i64 (-1),.int .i64 ((cF (L.take i):Nat):Int)]] .lit):=h148;have ap1' : ∀ e q,aq CC 23 89 F (.sl 2 [.agg [.int .i64 (-1),.int .i64 ((cF (L.take i):Nat):Int)]] q) ⟨Hc ++ [.cells a.l],e⟩=some (F',⟨H1,e⟩):=ap1;simp only[aw,j9,yR,A9,A7,KY,vD,SIM,ST0,ST1,h32,h33,h34,hr0,hr3,hr4,hr5,hc,hat,ha,hcn,hdo,hln,h152,h148',ap1',orVal,Nat.reduceAdd,Nat.reduceLeDiff];exact key _ ⟨by first | rfl | exact hr0,by first | rfl | exact hr3,by first | rfl | exact hr4,rfl⟩ ⟨by first | rfl | exact h32,by first | rfl | exact h33,rfl⟩
   | false =>
     obtain ⟨ci,hci'⟩ : ∃ ci,cI (L.take i)=ci:=⟨_,rfl⟩;rw[hci'] at R2 R hci
     have hs1:gG ((ci + 1:Nat):Int) 1=(ci:Int):=by
      show gG (.ofNat (ci + 1)) (.ofNat 1)=_;have h1:Nat.ble 1 (ci + 1)=true:=by rw[dE];simp
      have h2:Nat.ble (ci + 1) natMax=true:=by rw[dE,decide_eq_true_eq];unfold natMax;omega
      simp only[gG,h1,h2,Bool.and_self,cond_true];rfl
     have hcn:∀ x y:IRes,eX (.bool a.f) x y=y:=fun x y=>by rw[haf];rfl
     have uh:=R.uh;have bh:=R.bh;have bu:=R.bu;have hlen:=R.len;have hlz:aa (Hc ++ [AObj.cells a.l])=aa Hc + 1:=by rw[az];rfl
     have u0:=ar R.u [.cells a.l];have b0:=ar R.b [.cells a.l];have n0:=ar R.n [.cells a.l];have hdo:af (Hc ++ [AObj.cells a.l]) (aa Hc)=some (.cells a.l):=by rw[au];rfl
     have f0:∀ q,q < aa Hc→af (Hc ++ [.cells a.l]) q=af Hc q:=fun q hq=>by rw[aj] at hq;rw[aD,aD,List.getElem?_append_left hq]
     have I0:=R.hI.mono (H':=Hc ++ [.cells a.l]) (by omega) (fun q _ hq=>f0 q hq)
     have A0:=R.hA.mono (H':=Hc ++ [.cells a.l]) (by omega) (fun q _ hq=>f0 q hq)
     have hP:=us m (H:=Hc ++ [.cells a.l]) (by omega) b0 u0
     rw[hlz] at hP;generalize hH1:ai (Hc ++ [.cells a.l]) uo (.cells (oT nd at_ (ci + 1) I))=H1 at hP;have l1:aa H1=aa Hc + 1:=by rw[← hH1,ak,hlz]
     have f1:∀ q,q ≠ uo→af H1 q=af (Hc ++ [.cells a.l]) q:=fun q hq=>by rw[← hH1,ae hq]
     have u1:af H1 uo=some (.cells (oT nd at_ (ci + 1) I)):=by rw[← hH1];exact aK u0 _
     have b1:af H1 bo=some (.cells [.ptr uo 0,LV]):=by rw[f1 bo bu,b0]
     have I1:=I0.mono (H':=H1) (by omega) (fun q hq _=>f1 q (by have:=(I0.lt q hq).1;omega))
     have A1:=A0.mono (H':=H1) (by omega) (fun q hq _=>f1 q (by have:=(A0.lt q hq).1;omega))
     have hmt:CC.mutT 23 61=false:=by kernel_rfl
     obtain ⟨I',H2,ap2,I2,l2,f2,n2⟩:=Dn hmt I1 ci (by rw[List.length_range];omega) (by omega)
     have hrg:List.range ci ++ [ci]=List.range (ci + 1):=(List.range_succ).symm;rw[hrg] at I2;have u2:af H2 uo=some (.cells (oT nd at_ (ci + 1) I)):=by rw[f2 uo (by omega) (fun hm=>by have:=(I1.lt _ hm).1;omega),u1]
     have nlin:∀ q o,af H1 q=some (.cells o)→q ∉ nmA I:=fun q o hq hm=>by
      rcases I1 with ⟨_,rfl⟩ | ⟨_,id,g,rfl,hg,_⟩
      ·cases hm
      ·simp only[nmA,List.mem_singleton] at hm;subst hm;rw[hg] at hq;simp at hq
     have b2:af H2 bo=some (.cells [.ptr uo 0,LV]):=by rw[f2 bo (by omega) (nlin _ _ b1),b1]
     have A2:=A1.mono (H':=H2) l2 (fun q hq hlt=>f2 q hlt (fun hm=>R.dj q hm hq))
     have st:=fun b hb=>rH (b:=b) (off:=3) I2 (by simp) u2 (by rw[aj];simp) hb
     have st':=st e he;rw[QL] at st';have hsI:=Iv R.hI;generalize hH3:ai H2 uo (.cells (oT nd at_ (ci + 1) I'))=H3 at st';have l3:aa H3=aa H2:=by rw[← hH3,ak]
     have f3:∀ q,q ≠ uo→af H3 q=af H2 q:=fun q hq=>by rw[← hH3,ae hq]
     have u3:af H3 uo=some (.cells (oT nd at_ (ci + 1) I')):=by rw[← hH3];exact aK u2 _
     have b3:af H3 bo=some (.cells [.ptr uo 0,LV]):=by rw[f3 bo bu,b2]
     have I3:=I2.mono (H':=H3) (by omega) (fun q hq _=>f3 q (by have:=(I2.lt q hq).1;omega))
     have A3:=A2.mono (H':=H3) (by omega) (fun q hq _=>f3 q (by have:=(A2.lt q hq).1;omega))
     obtain ⟨A',H4,ap4,A4,l4,f4,n4⟩:=lH sl139 23 (x:=(ph ci).av) A3 rfl (by simp[AV.low,aM]) (by rw[List.length_map,List.length_range];omega) (by omega)
     have nlA:∀ q ∈ nmA I',q ∉ nmA A:=fun q hq hm=>by
      rcases n2 q hq with h | h
      ·exact R.dj q h hm
      ·have:=(R.hA.lt q hm).2;omega
     have nlin3:∀ q o,af H3 q=some (.cells o)→q ∉ nmA A:=fun q o hq hm=>by
      rcases A3 with ⟨_,rfl⟩ | ⟨_,id,g,rfl,hg,_⟩
      ·cases hm
      ·simp only[nmA,List.mem_singleton] at hm;subst hm;rw[hg] at hq;simp at hq
     have R4:Rt uo bo LV d nd at_ H (ci + 1) H4 I' A':=by
      have n1:af H1 (aa H)=some (dk d):=by rw[f1 _ (by omega),n0]
      have n2' : af H2 (aa H)=some (dk d):=by rw[f2 _ (by omega) (nlin _ _ n1),n1]
      have n3:af H3 (aa H)=some (dk d):=by rw[f3 _ (by omega),n2']
      refine ⟨by rw[f4 uo (by omega) (nlin3 _ _ u3),u3],by rw[f4 bo (by omega) (nlin3 _ _ b3),b3],by rw[f4 _ (by omega) (nlin3 _ _ n3),n3],I3.mono l4 (fun q hq hlt=>f4 q hlt (nlA q hq)),?_,?_,?_,?_,?_,by omega,uh,bh,bu⟩
      ·have:(List.range (ci + 1)).map (fun j=>(ph j).av)=(List.range ci).map (fun j=>(ph j).av) ++ [(ph ci).av]:=by rw[List.range_succ,List.map_append];rfl
       rw[this];exact A4
      ·intro q hq hm
       rcases n4 q hm with h | h
       ·exact nlA q hq h
       ·have:=(I3.lt q hq).2;omega
      ·intro q hq
       rcases n2 q hq with h | h
       ·exact R.iI q h
       ·omega
      ·intro q hq
       rcases n4 q hq with h | h
       ·exact R.iA q h
       ·omega
      ·intro q hq hu;rw[f4 q (by omega) (fun hm=>by have:=R.iA q hm;omega),f3 q hu,f2 q (by omega) (fun hm=>by have:=R.iI q hm;omega),f1 q hu,f0 q (by omega),R.fr q hq hu]
     have F0:=R2.hF.mono (H':=Hc ++ [.cells a.l]) (by omega) (fun q _ hq=>f0 q hq)
     have F1:=F0.mono (H':=H1) (by omega) (fun q hq _=>f1 q (by have:=(F0.lt q hq).1;omega))
     have F2:=F1.mono (H':=H2) l2 (fun q hq hlt=>f2 q hlt (R2.dF q hq).1)
     have F3:=F2.mono (H':=H3) (by omega) (fun q hq _=>f3 q (by have:=(F2.lt q hq).1;omega))
     have F4:=F3.mono (H':=H4) l4 (fun q hq hlt=>f4 q hlt (R2.dF q hq).2)
     have R5:Rt2 uo bo LV d nd at_ H (ci + 1) (cF (L.take i)) H4 I' A' F:=by
      refine ⟨R4,F4,R2.iF,fun q hq=>⟨fun hm=>?_,fun hm=>?_⟩⟩
      ·rcases n2 q hm with h | h
       ·exact (R2.dF q hq).1 h
       ·have:=(F1.lt q hq).2;omega
      ·rcases n4 q hm with h | h
       ·exact (R2.dF q hq).2 h
       ·have:=(F3.lt q hq).2;omega
     have hc1:cI (L.take (i + 1))=ci + 1:=by rw[htk];unfold cI at hci' ⊢;rw[List.countP_append,hci'];simp[haf]
     have hc2:cF (L.take (i + 1))=cF (L.take i):=by rw[htk];unfold cF;rw[List.countP_append];simp[haf]
     have key:=ih (i + 1) (by omega) fu' (by omega) H4 uo I' A' F (by rw[hc1,hc2];exact R5) (Nat.le_refl _) (by omega)
     have hb22:=M9 ci;have h139:=j5 (ph ci);have hsu:AV.same (.ptr uo 0) (.ptr uo 0)=true:=by simp[AV.same]
     have hmn:min e (aa Hc + 1)=e:=Nat.min_eq_left (by omega)
     simp only[aw,j9,yR,A9,A7,Lg,Lz,vD,SIM,ST0,ST1,h32,h33,h34,hr0,hr3,hr4,hr5,hc,hat,ha,hcn,hdo,b0,u0,Qn,RV,hP,hmn,b1,u1,hsI,hsu,hb22,ap2,b2,st',b3,u3,hs1,vU,h139,ap4,orVal,Nat.reduceAdd,Nat.reduceLeDiff];exact key _ ⟨by first | rfl | exact hr0,by first | rfl | exact hr3,rfl,by first | rfl | exact hr5⟩ ⟨by first | rfl | exact h32,by first | rfl | exact h33,rfl⟩
end
section
variable {M:Memo}{uo bo:Nat}{LV:AV}{d:NdR}{nd:List Nat}{at_:Int}{H:Heap}
theorem Dx (m:eu M){sp:List (List Nat × Nat)→EqR→FmS→PS→Option (FmS × PS)}{gv:List (List Nat × Nat)→FmS→EqR→PS→Option PS}
  (hsw:∀ vm q fm p fm' p',sp vm q fm p=some (fm',p')→p.w≤p'.w) (hgw:∀ vm fm q p p',gv vm fm q p=some p'→p.w≤p'.w) (hl:(cA d).length≤90000) (hel:d.eqs.length≤90000) (hne:d.eqs ≠ [])
  (hsp:∀ H ns0 vm q,q ∈ d.eqs→q.a=true→uS M uo bo LV d vm .nils H ns0 (sp vm) q) (hgv:∀ H ns0 vm fm q,q ∈ d.eqs→pu M uo bo LV d vm .nils H ns0 fm (gv vm fm) q)
  (hu:af H uo=some (.cells (oT nd at_ 0 .nils))) (hbo:af H bo=some (.cells [.ptr uo 0,LV])) {l:List Nat} {p' : PS} (hp:jb sp gv d ((List.range (cI d.ins)).map ph) ((List.range (cF d.ins)).map y8) ⟨cI d.ins,[],0,[],[],0⟩=some (l,p')) (hl0:l ≠ []) (hw:p'.w + 20 < 1000000) :
  ∃ H' u',orc CC M 23 [.ptr bo 0,d.v] H=some (.ret Abs.undef H' uo)∧UI uo H' u'∧u'.p=p'∧u'.nd=nd∧u'.at_=at_∧aa H≤aa H'∧(∀ q,q < aa H→q ≠ uo→af H' q=af H q):=by
 have uh:=bL hu;have bh:=bL hbo;have bu:bo ≠ uo:=fun h=>by rw[h,hu] at hbo;simp at hbo
 have hins:d.ins.length≤90000:=by unfold cA at hl;simp only[List.length_append] at hl;omega
 have hlz:aa (H ++ [dk d])=aa H + 1:=by rw[az];rfl
 have R0:Rt uo bo LV d nd at_ H 0 (H ++ [dk d]) .nils .nils:=⟨ar hu _,ar hbo _,by rw[au];rfl,.inl ⟨rfl,rfl⟩,.inl ⟨rfl,rfl⟩,fun _ h=>(by cases h),fun _ h=>(by cases h),fun _ h=>(by cases h),fun q hq _=>by rw[aj] at hq;rw[aD,aD,List.getElem?_append_left hq],by omega,uh,bh,bu⟩
 have e0:(envOf [.ptr bo 0,d.v] 0 env0).a.a.a=.ptr bo 0:=rfl;have e1:(envOf [.ptr bo 0,d.v] 0 env0).a.a.b=d.v:=rfl
 obtain ⟨r0,hr0,hq0,hpre⟩ : ∃ r,(r.a.a.a=.ptr bo 0∧r.a.a.d=.ptr (aa H) 0∧r.a.a.e=.nils∧r.a.a.f=.nils)∧(r.a.b.b=deZ d.ins∧r.a.b.c=.int .i64 (d.ins.length:Int)∧r.a.b.d=.int .i64 ((0:Nat):Int)) ∧
   z23.sh (orc CC M) (envOf [.ptr bo 0,d.v] 0 env0) [] ⟨H,aa H⟩=dZ (m6 (orc CC M)) (dD 0 (aw (j9 (orc CC M)) 100000 r [] ⟨H ++ [dk d],aa H⟩)):=by
  generalize envOf [.ptr bo 0,d.v] 0 env0=R at e0 e1;have hbn:=mK d;have hln:=gU d.ins;have hlL:H.length=aa H:=(aj H).symm;simp only[z23,DO,A8,Ca,CW,SIM,ST0,ST1,e0,e1,hbn,hln,hlL,Nat.reduceAdd,Nat.reduceLeDiff];exact ⟨_,⟨by first | rfl | exact e0,rfl,rfl,rfl⟩,⟨rfl,rfl,rfl⟩,rfl⟩
 obtain ⟨r1,Hd,e',I,A,F,hlp,R2,he1,he2,hr1⟩:=oU m hins d.ins.length 0 rfl 100000 (by omega) _ _ _ _ _ (show Rt2 uo bo LV d nd at_ H (cI (d.ins.take 0)) (cF (d.ins.take 0)) (H ++ [dk d]) .nils .nils .nils from ⟨R0,.inl ⟨rfl,rfl⟩,fun _ h=>(by cases h),fun _ h=>(by cases h)⟩) (by omega) (Nat.le_refl _) r0 hr0 hq0
 obtain ⟨g0,g3,g4,g5⟩:=hr1;have R1:=R2.R;have hcI:cI d.ins≤d.ins.length:=List.countP_le_length;have U1:=LO R1.u (by omega)
 have hAL:AL ((List.range (cI d.ins)).map ph) A (aa Hd):=by
  rcases R1.hA with ⟨h1,h2⟩ | ⟨_,id,g,h1,h2,h3,h4⟩
  ·exact .inl ⟨by simpa using h1,h2⟩
  ·refine .inr ⟨_,by rw[List.map_map];exact h1,?_⟩
   have:=bL h2;simp[Lin.low,this]
 have hFL:FL ((List.range (cF d.ins)).map y8) F:=by
  rcases R2.hF with ⟨h1,h2⟩ | ⟨_,id,g,h1,_⟩
  ·exact .inl ⟨by simpa using h1,h2⟩
  ·exact .inr ⟨_,by rw[List.map_map];exact h1⟩
 obtain ⟨H2,u2,esc,V,hN,hO,U2,G2,hp2,S2,he3⟩:=xC (base:=.nils) m hsw hgw (.inl rfl) hl hel hne hsp hgv U1 R1.b (fun h=>by cases h) hAL hFL hp hw
 have hn0:(Tv nd at_ (cI d.ins) I).ns=[]:=rfl
 have hV:LvI uo H2 1 V (l.map inV):=by
  rcases hO with ⟨h0,_⟩ | ⟨_,id,g,h1,h2,h3,h4⟩
  ·exact absurd h0 hl0
  ·have hlow:∀ (L:Nat) (l:List Nat),aM L (l.map inV)=true:=fun L l=>by
    induction l with
    | nil=>rfl
    | cons a l ih=>simp only[List.map_cons,aM,ih,Bool.and_true];rfl
   exact .inr ⟨by simpa using hl0,id,g,h1,h2,by have:=R1.len;omega,hlow _ _⟩
 have hlm:=R1.len;have st:=rH (b:=min e' esc) (off:=4) hV (by simpa using hl0) U2.ob (by rw[aj];simp) (by omega)
 rw[Qy] at st;have U3:=U2.setv (v:=u2.vars) (s:=u2.size) (i:=u2.I) (o:=V) U2.vl;have b2:af H2 bo=some (.cells [.ptr uo 0,LV]):=by rw[G2.fr bo (bL R1.b) bu (fun h=>by rw[hn0] at h;cases h),R1.b]
 have hm:min (aa H) uo=uo:=Nat.min_eq_right (by omega)
 refine ⟨_,_,aH (z:=z23) (m _ _ rfl) (by kernel_rfl) rfl ?_,U3,hp2,S2.nd,S2.at_,?_,?_⟩
 ·rw[hpre,hlp,dS,bn];have hsu:AV.same (.ptr uo 0) (.ptr uo 0)=true:=by simp[AV.same]
  have hgc:=fun hp=>dU (keep:=CC.keep 23) (base:=aa H) (e:=uo) (v:=Abs.undef) (hp:=hp) (by omega)
  have n1:=R1.n;have b1:=R1.b;simp only[m6,z23,SIM,ST0,ST1,g0,g3,g4,g5,b1,n1,P6,hN,b2,hsu,st,hgc,Nat.reduceAdd,Nat.reduceLeDiff]
 ·rw[ak];have:=G2.len;omega
 ·intro q hq hu';rw[ae hu',G2.fr q (by omega) hu' (fun h=>by rw[hn0] at h;cases h),R1.fr q hq hu']
end
section
variable {M:Memo}
theorem G6 (m:eu M){sp:List (List Nat × Nat)→EqR→FmS→PS→Option (FmS × PS)}{gv:List (List Nat × Nat)→FmS→EqR→PS→Option PS}{L:List NdR}(hL:L.length≤90000){nm:List Nat}{d:NdR}(hfd:cD nm L=some d)
  (hsw:∀ vm q fm p fm' p',sp vm q fm p=some (fm',p')→p.w≤p'.w) (hgw:∀ vm fm q p p',gv vm fm q p=some p'→p.w≤p'.w) (hl:(cA d).length≤90000) (hel:d.eqs.length≤90000) (hne:d.eqs ≠ [])
  (hsp:∀ uo bo H ns0 vm q,q ∈ d.eqs→q.a=true→uS M uo bo (.sl 6 (L.map NdR.v) .dead) d vm .nils H ns0 (sp vm) q) (hgv:∀ uo bo H ns0 vm fm q,q ∈ d.eqs→pu M uo bo (.sl 6 (L.map NdR.v) .dead) d vm .nils H ns0 fm (gv vm fm) q)
  {l:List Nat} {p' : PS} (hp:jb sp gv d ((List.range (cI d.ins)).map ph) ((List.range (cF d.ins)).map y8) ⟨cI d.ins,[],0,[],[],0⟩=some (l,p')) (hl0:l ≠ []) (hw:p'.w + 20 < 1000000) (H:Heap) :
  ∃ H' u',orc CC M 9 [.sl 6 (L.map NdR.v) .dead,.str nm] H=some (.ret (.tuple [.ptr (aa H + 2) 0,.agg [.int .i64 0,.int .i64 0]]) H' (aa H))∧UI (aa H + 2) H' u'∧u'.p=p'∧u'.nd=nm∧u'.at_=d.p∧aa H + 2 < aa H'∧(∀ q,q < aa H→af H' q=af H q):=by
 let K:Heap:=[cz0,dk d,.cells (oT nm d.p 0 .nils),.cells [.ptr (aa H + 2) 0,.sl 6 (L.map NdR.v) .dead],.cells [.ptr (aa H + 3) 0],cz0]
 have hKl:aa (H ++ K)=aa H + 6:=by rw[az];rfl
 obtain ⟨H',u',hR,U,h1,h2,h3,h4,h5⟩:=Dx (uo:=aa H + 2) (bo:=aa H + 3) (LV:=.sl 6 (L.map NdR.v) .dead) (nd:=nm) (at_:=d.p) (H:=H ++ K) m hsw hgw hl hel hne (hsp _ _) (hgv _ _) (by rw[aR];rfl) (by rw[aR];rfl) hp hl0 hw
 have h56:=Pf (fo:=aa H + 5) (bc:=aa H + 4) (no:=aa H + 1) (H:=H ++ K) (LV:=.nils) m (by rw[aR];rfl) (by rw[aR];rfl) (by rw[hKl];omega) hR
 have hlo:∀ q,q < aa H→af H' q=af H q:=fun q hq=>by
  rw[h5 q (by omega) (by omega)]
  rw[aj] at hq;rw[aD,aD,List.getElem?_append_left hq]
 have g4:af H' (aa H + 4)=some (.cells [.ptr (aa H + 3) 0]):=by rw[h5 _ (by omega) (by omega),aR];rfl
 have g3:af H' (aa H + 3)=some (.cells [.ptr (aa H + 2) 0,.sl 6 (L.map NdR.v) .dead]):=by rw[h5 _ (by omega) (by omega),aR];rfl
 have g5:af H' (aa H + 5)=some cz0:=by rw[h5 _ (by omega) (by omega),aR];rfl
 have g0:af H' (aa H)=some cz0:=by rw[h5 _ (by omega) (by omega),au];rfl
 refine ⟨ai H' (aa H) cz0,u',aH (z:=z9) (m _ _ rfl) (by kernel_rfl) rfl ?_,U.to (by rw[ak];exact Nat.le_refl _) (fun q hq hm=>ae ?_ _),h1,h2,h3,by rw[ak];omega,fun q hq=>by rw[ae (by omega),hlo q hq]⟩
 ·have e0:(envOf [.sl 6 (L.map NdR.v) .dead,.str nm] 0 env0).a.a.a=.sl 6 (L.map NdR.v) .dead:=rfl;have e1:(envOf [.sl 6 (L.map NdR.v) .dead,.str nm] 0 env0).a.a.b=.str nm:=rfl;generalize envOf [.sl 6 (L.map NdR.v) .dead,.str nm] 0 env0=R at e0 e1;have hF:=jB m hL hfd (q:=.dead) (H ++ [cz0]);have hl1:aa (H ++ [cz0])=aa H + 1:=by rw[az];rfl
  rw[hl1] at hF;have hn1:=gu d;have ho1:=ik d;have hb1:=fun L=>MU nm d.p L
  have hb2:=Ky (aa H + 2) L (H ++ [cz0,dk d,.cells (oT nm d.p 0 .nils)]).length (by rw[← aj,az];simp only[aO,bj];omega)
  have hm0:min (aa H) (aa H + 1)=aa H:=Nat.min_eq_left (by omega)
  have hm1:min (aa H) (aa H + 2)=aa H:=Nat.min_eq_left (by omega)
  have hgc:=fun hp=>RX (keep:=CC.keep 9) (b:=aa H) (n:=aa H + 2) (x:=0) (y:=0) (hp:=hp) (by omega)
  have hnz:decide ((0:Int)=0)=true:=rfl;have hst:∀ b,eF 1 0 (aa H + 4) (.ptr (aa H + 3) 0) [.ptr (aa H + 3) 0] [.nilp] ⟨H ++ [cz0,dk d,.cells (oT nm d.p 0 .nils),.cells [.ptr (aa H + 2) 0,.sl 6 (L.map NdR.v) .dead],.cells [.nilp]],b⟩=some ⟨ai (H ++ [cz0,dk d,.cells (oT nm d.p 0 .nils),.cells [.ptr (aa H + 2) 0,.sl 6 (L.map NdR.v) .dead],.cells [.nilp]]) (aa H + 4) (.cells [.ptr (aa H + 3) 0]),b⟩:=fun b=>oJ (a:=aa H + 3) (r:=aa H + 4) (b:=b) (cs:=[.nilp]) (by rw[az];simp only[aO,bj];omega) (by omega) (by decide)
  have hz0:=aK g0 cz0;have h56' : orc CC M 21 [AV.ptr (aa H + 5) 0,AV.ptr (aa H + 4) 0,AV.ptr (aa H + 1) 0] (H ++ [cz0,dk d,.cells (oT nm d.p 0 .nils),.cells [.ptr (aa H + 2) 0,.sl 6 (L.map NdR.v) .dead],.cells [.ptr (aa H + 3) 0],cz0])=some (CRes.ret Abs.undef H' (aa H + 2)):=h56;simp only[z9,NK,Oe,O0,Og,Nt,O9,OH,Sd,SIM,ST0,ST1,ST2,ST3,e0,e1,hF,hm0,hl1,hn1,ho1,DZS,EXS,PH,hb1,LY,hb2,hst,EU,h56',hm1,g0,hz0,g3,g4,g5,hgc,a9,ba,List.append_assoc,List.cons_append,List.nil_append,Nat.reduceAdd,Nat.reduceLeDiff]
 ·rcases hm with rfl | hm
  ·omega
  ·have:=(U.lt q hm).1;omega
def tj (L:List NdR)(nm:List Nat):Option (List Nat × PS):=match cD nm L with
 | none=>none
 | some d=>jb (fun _=>vz) (tD (fU L 60) L) d ((List.range (cI d.ins)).map ph) ((List.range (cF d.ins)).map y8) ⟨cI d.ins,[],0,[],[],0⟩
theorem Ci (m:eu M){L:List NdR}(hL:L.length≤90000)(hK:∀ d ∈ L,NdK d){nm:List Nat}{d:NdR}(hfd:cD nm L=some d){l:List Nat}{p' : PS}(hp:tj L nm=some (l,p'))(hl0:l ≠ [])(hw:p'.w + 20 < 1000000)(H:Heap) :
  ∃ H' u',orc CC M 9 [.sl 6 (L.map NdR.v) .dead,.str nm] H=some (.ret (.tuple [.ptr (aa H + 2) 0,.agg [.int .i64 0,.int .i64 0]]) H' (aa H))∧UI (aa H + 2) H' u'∧u'.p=p'∧u'.nd=nm∧u'.at_=d.p∧aa H + 2 < aa H'∧(∀ q,q < aa H→af H' q=af H q):=by
 unfold tj at hp;rw[hfd] at hp;have hk:=hK d (dV hfd);exact G6 (sp:=fun _=>vz) (gv:=tD (fU L 60) L) m hL hfd (fun vm q fm p fm' p' h=>(uP h).1) (fun vm fm q p p' h=>(n7 (eJ L 60) h).1) hk.al hk.el hk.ne (fun uo bo H ns0 vm q _ _=>ku m (.inl rfl) q) (fun uo bo H ns0 vm fm q hq=>re m hL rfl hK (eJ L 60) (nt m hL rfl hK 60) hk (.inl rfl) hq) hp hl0 hw H
end
end Go.Proofs
