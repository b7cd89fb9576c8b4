/- split.Split. Part of the proof of girandolelaw12.SplitHanded. -/
import Derived.Test.YtglacbfdbfhmfaaGreatDoorSp1
set_option linter.unusedVariables false
set_option linter.unusedSimpArgs false
set_option maxRecDepth 1000000
namespace Go.Proofs
open Go Go.Abs
theorem yS {nm:List Nat}{v:AV}{es:List (List Nat×AV)}{vo:Nat}{H:Heap}(h:cr nm es=some v)(hg:ae H vo=some (.map (kE es))):aV CC 95 (.map vo) (.str nm) true H=some (.tuple [v,.bool true]):=by
 obtain ⟨e,he,_⟩:=IW nm;obtain ⟨j,hj⟩:=jc 0 h;rw[aB] at hg;simp only[aV,he,d6,hg,mt,if_true,hj]
theorem xP {nm:List Nat}{es:List (List Nat×AV)}{vo:Nat}{H:Heap}(h:cr nm es=none)(hg:ae H vo=some (.map (kE es))):aV CC 95 (.map vo) (.str nm) true H=some (.tuple [.nilp,.bool false]):=by
 obtain ⟨e,he,rfl⟩:=IW nm;have hz:cj CC 73=some .nilp:=by kernel_rfl
 have hj:=gX 0 h;rw[aB] at hg;simp only[aV,he,d6,hg,mt,if_true,hj,hz]
theorem Yy {nm:List Nat}{p:Nat}{fm:List (List Nat×AV)}{fo:Nat}{H:Heap}{e:Nat}(h:cr nm fm=none)(hg:ae H fo=some (.map (kE fm)))(hp:p<aa H)(hf:fo<p)(he:fo<=e) :
  bf CC 95 (.map fo) (.str nm) (.ptr p 0) ⟨H,e⟩=some ⟨am H fo (.map (kE (fm++[(nm,.ptr p 0)]))),fo⟩:=by
 obtain ⟨t,ht,_⟩:=IW nm;rw[aB] at hg;rw[ai] at hp;have hlow:(AV.ptr p 0).low H.length=true:=by simp[AV.low,hp]
 have hesc:dl (.ptr p 0) fo ⟨H,e⟩=fo:=by
  have:¬ (p<fo+1):=by omega
  simp[dl,AV.low,this];omega
 simp only[bf,ht,hg,mt,hlow,gX 0 h,hesc,if_true,and_self];simp[kE,aR]
theorem Ye {nm:List Nat}{v:AV}{fm:List (List Nat×AV)}{fo:Nat}{H:Heap}{e:Nat}(h:cr nm fm=none)(hg:ae H fo=some (.map (kE fm)))(hv:jD v) :
  bf CC 96 (.map fo) (.str nm) v ⟨H,e⟩=some ⟨am H fo (.map (kE (fm++[(nm,v)]))),e⟩:=by
 obtain ⟨t,ht,_⟩:=UV nm;rw[aB] at hg;have hlow:=eI hv;have hesc:dl v fo ⟨H,e⟩=e:=by simp[dl,hlow]
 simp only[bf,ht,hg,mt,hlow,gX 0 h,hesc,if_true,and_self];simp[kE,aR]
noncomputable def jw (k:Nat)(p:PS):Bool:=Nat.ble p.vars 90000&&Nat.ble p.eqs.length 90000&&p.eqs.all (λq=>Nat.ble q.args.length 90000)&&Nat.ble p.sp.length 90000&&p.sp.all (λs=>Nat.ble s.args.length 90000&&Nat.ble s.futs.length 90000)&&Nat.ble p.ws.length 90000&&Nat.blt (p.w+20) 1000000&&(match te k p.vars (p.eqs.map QF.dst) (p.eqs.map λq=>readsL q.args) with
 | some c=>Nat.beq c p.eqs.length
 | none=>false)
noncomputable def di (k:Nat)(L:List NdR)(nm:List Nat):Option (List Nat×PS):=match lZ L nm with
 | some (v::l,p)=>cond (jw k p) (some (v::l,p)) none
 | _=>none
def fT (nm:List Nat)(ns:List (List Nat)):Bool:=ns.any λs=>strEq s nm
def io (f:List Nat->List (List Nat)->Option (List (List Nat))):List SQ->List (List Nat)->Option (List (List Nat))
 | [],ns=>some ns
 | s::l,ns=>match f s.nd ns with
   | none=>none
   | some ns'=>io f l ns'
noncomputable def addM (k:Nat)(L:List NdR):Nat->List Nat->List (List Nat)->Option (List (List Nat))
 | 0,_,_=>none
 | n+1,nm,ns=>cond (fT nm ns) (some ns) (match di k L nm with
   | none=>none
   | some (_,p)=>io (addM k L n) p.sp (ns++[nm]))
theorem jj {nm:List Nat}:∀ {T:List TE},fT nm (T.map TE.nm)=true->∃ t,fI nm T=some t
 | [],h=>by cases h
 | x::l,h=>by
   simp only[fI];cases hs:strEq x.nm nm with
   | true=>exact ⟨x,rfl⟩
   | false =>
     simp only[fT,List.map_cons,List.any_cons,hs,Bool.false_or] at h;exact jj h
theorem nk {nm:List Nat}:∀ {T:List TE},fT nm (T.map TE.nm)=false->fI nm T=none
 | [],h=>rfl
 | x::l,h=>by
   simp only[fT,List.map_cons,List.any_cons,Bool.or_eq_false_iff] at h;simp only[fI,h.1,cond_false];exact nk h.2
theorem kx {k:Nat}{p:PS}(h:jw k p=true):p.vars<=90000/\p.eqs.length<=90000/\(∀ q∈p.eqs,q.args.length<=90000)/\p.sp.length<=90000/\(∀ s∈p.sp,s.args.length<=90000/\s.futs.length<=90000)/\p.ws.length<=90000/\p.w+20<1000000/\te k p.vars (p.eqs.map QF.dst) (p.eqs.map λq=>readsL q.args)=some p.eqs.length:=by
 unfold jw at h;simp only[Bool.and_eq_true,List.all_eq_true] at h;obtain ⟨⟨⟨⟨⟨⟨⟨h1,h2⟩,h3⟩,h4⟩,h5⟩,h6⟩,h7⟩,h8⟩:=h;refine ⟨Nat.le_of_ble_eq_true h1,Nat.le_of_ble_eq_true h2,λq hq=>Nat.le_of_ble_eq_true (h3 q hq),Nat.le_of_ble_eq_true h4,λs hs=>⟨Nat.le_of_ble_eq_true (h5 s hs).1,Nat.le_of_ble_eq_true (h5 s hs).2⟩,Nat.le_of_ble_eq_true h6,by simpa using h7,?_⟩
 split at h8
 ·rename_i c hc;rw[hc,Nat.eq_of_beq_eq_true h8]
 ·cases h8
theorem jT {k:Nat}{L:List NdR}{nm:List Nat}{l:List Nat}{p:PS}(h:di k L nm=some (l,p)):lZ L nm=some (l,p)/\l≠[]/\jw k p=true:=by
 unfold di at h
 split at h
 ·rename_i v l' p' hf;obtain ⟨hg,h⟩:=aT h;simp only[SJ,PJ] at h;obtain ⟨rfl,rfl⟩:=h;exact ⟨hf,by simp,hg⟩
 ·cases h
section
variable {M:Memo}
structure SpM (M:Memo):Prop where
 fl:ga M
 h32:∀ a,M 32 a=none
 h59:∀ a,M 59 a=none
 h82:∀ a,M 82 a=none
 h38:∀ a,M 38 a=none
 h39:∀ a,M 39 a=none
 h40:∀ a,M 40 a=none
 h41:∀ a,M 41 a=none
 h63:∀ a,M 63 a=none
 h19:∀ a,M 19 a=none
structure UA (k us um om:Nat)(L:List NdR)(H:Heap)(T:List TE):Prop where
 U:UT (aa H) us um om L H T
 f:∀ t∈T,di k L t.nm=some (t.outs,t.u.p)
 d:um<om/\om<us
 ab:∀ t∈T,us<t.uo
theorem UT.mono {B B' us um om:Nat}{L:List NdR}{H:Heap}{T:List TE}(h:UT B us um om L H T)(hb:B<=B'):UT B' us um om L H T :=
 ⟨h.gus,h.gum,h.gom,⟨by have:=h.lt.1;omega,by have:=h.lt.2.1;omega,by have:=h.lt.2.2;omega⟩,λt ht=>⟨⟨(h.un t ht).1.U,by have:=(h.un t ht).1.lt;omega,λq hq=>by have:=(h.un t ht).1.nl q hq;omega⟩,(h.un t ht).2⟩⟩
theorem UA.ap {k us um om:Nat}{L:List NdR}{H K:Heap}{T:List TE}(h:UA k us um om L H T):UA k us um om L (H++K) T :=
 ⟨(h.U.to (H':=H++K) (by rw[az];omega) (λq hq=>aU hq)).mono (by rw[az];omega),h.f,h.d,h.ab⟩
theorem Vo (m:SpM M){k:Nat}(hk:k<=90000){L:List NdR}(hL:L.length<=90000)(hK:∀ d∈L,NdK d){nm:List Nat}{l:List Nat}{p:PS}(h:di k L nm=some (l,p))(H:Heap) :
  ∃ H' u',orc CC M 31 [.sl 6 (L.map NdR.v) .dead,.str nm] H=some (.ret (.tuple [.ptr (aa H+2) 0,.agg [.int .i64 0,.int .i64 0]]) H' (aa H))/\UI (aa H+2) H' u'/\u'.p=p/\sD u' l/\aa H+2<aa H'/\(∀ q,q<aa H->ae H' q=ae H q):=by
 obtain ⟨hf,hl,hg⟩:=jT h;obtain ⟨g1,g2,g3,g4,g5,g6,g7,g8⟩:=kx hg
 have hfd:∃ d,dt nm L=some d:=by
  unfold lZ at hf;cases hh:dt nm L with
  | none=>rw[hh] at hf;cases hf
  | some d=>exact ⟨d,rfl⟩
 obtain ⟨d,hd⟩:=hfd;obtain ⟨H',u',e,U,h1,_,_,h4,h5,h6⟩:=GB m.fl hL hK hd hf hl g7 H;exact ⟨H',u',e,U,h1,h4,h5,h6⟩
theorem Oa (m:SpM M){k:Nat}(hk:k<=90000){uo:Nat}{H:Heap}{u:UN}(U:UI uo H u)(hg:jw k u.p=true):∃ V,jD V/\orc CC M 32 [.ptr uo 0] H=some (.ret (.tuple [V,.agg [.int .i64 0,.int .i64 0]]) H (aa H)):=by
 obtain ⟨g1,g2,g3,g4,g5,g6,g7,g8⟩:=kx hg;have hlen:u.p.eqs.length=u.eqs.length:=by simp[UN.p]
 have hA:∀ q∈u.eqs,q.args.length<=90000:=λq hq=>g3 q.q (by simp only[UN.p,List.mem_map];exact ⟨q,hq,rfl⟩)
 have hs:te k u.vars (u.eqs.map EqF.dst) (u.eqs.map λq=>readsL q.args)=some u.eqs.length:=by
  have e1:(u.p.eqs.map QF.dst)=u.eqs.map EqF.dst:=by simp[UN.p,EqF.q]
  have e2:(u.p.eqs.map λq=>readsL q.args)=u.eqs.map λq=>readsL q.args:=by simp[UN.p,EqF.q]
  rw[e1,e2,hlen] at g8;exact g8
 obtain ⟨V,f,e,hV,hf⟩:=IP m.h32 m.h59 m.h82 g1 (by rw[<-hlen];exact g2) hA U hk hs
 have hlt:Nat.blt u.eqs.length u.eqs.length=false:=by
  cases h:Nat.blt u.eqs.length u.eqs.length with
  | true=>simp at h
  | false=>rfl
 rw[hlt] at hf;rw[hf] at e;exact ⟨V,hV,e⟩
end
section
variable {M:Memo}{us um om:Nat}{L:List NdR}
def No (M:Memo)(kf us um om:Nat)(L:List NdR)(n:Nat):Prop:=∀ (nm:List Nat) (ns' : List (List Nat)) (H:Heap) (T:List TE),UA kf us um om L H T->addM kf L n nm (T.map TE.nm)=some ns' ->
    ∃ H' T' e,orc CC M 38 [.ptr us 0,.str nm] H=some (.ret Abs.undef H' e)/\um<=e/\UA kf us um om L H' T'/\T'.map TE.nm=ns'/\(∀ t∈T,t∈T')/\aa H<=aa H'/\(∀ q,q<aa H->q≠um->q≠om->ae H' q=ae H q)
def Yi (kf us um om:Nat)(L:List NdR)(Hc:Heap)(Tc:List TE)(ns:List (List Nat))(X:IRes):Prop :=
 ∃ r' Hd Td,X=some (.exit 0,r',[],⟨Hd,um⟩)/\UA kf us um om L Hd Td/\Td.map TE.nm=ns/\(∀ t∈Tc,t∈Td)/\aa Hc<=aa Hd/\(∀ q,q<aa Hc->q≠um->q≠om->ae Hd q=ae Hc q)
theorem Be {kf n:Nat}(ihn:No M kf us um om L n){t1:TE}(hsl:t1.u.sp.length<=90000){ns' : List (List Nat)} :
  ∀ (k j:Nat),k+j=t1.u.sp.length->∀ (fu:Nat),k<fu->∀ (Hc:Heap) (Tc:List TE),UA kf us um om L Hc Tc->t1∈Tc->io (addM kf L n) ((t1.u.sp.drop j).map SpF.q) (Tc.map TE.nm)=some ns'->∀ (r:RG),r.a.a.a=.ptr us 0->(r.a.g.c=t1.u.S/\r.a.g.d=.int .i64 (t1.u.sp.length:Int)/\r.a.g.e=.int .i64 (j:Int)) ->
  Yi kf us um om L Hc Tc ns' (ax (nC (orc CC M)) fu r [] ⟨Hc,um⟩):=by
 intro k
 induction k with
 | zero =>
   intro j hj fu hfu Hc Tc A ht hm r h0 ⟨h50,h51,h52⟩;obtain ⟨fu',rfl⟩ : ∃ f,fu=f+1:=⟨fu-1,by omega⟩
   have:j=t1.u.sp.length:=by omega
   subst this;have hc:decide ((t1.u.sp.length:Int)<(t1.u.sp.length:Int))=false:=by simp
   rw[List.drop_length] at hm;simp only[List.map_nil,io,SJ] at hm;simp only[ax,nC,Ga,SIM,ST1,h51,h52,hc];exact ⟨_,Hc,Tc,rfl,A,hm,λ_ h=>h,Nat.le_refl _,λ_ _ _ _=>rfl⟩
 | succ k ih =>
   intro j hj fu hfu Hc Tc A ht hm r h0 ⟨h50,h51,h52⟩;obtain ⟨fu',rfl⟩ : ∃ f,fu=f+1:=⟨fu-1,by omega⟩
   have hlt:j<t1.u.sp.length:=by omega
   have hc:decide ((j:Int)<(t1.u.sp.length:Int))=true:=by simp;omega
   have hd:t1.u.sp.drop j=t1.u.sp[j]::t1.u.sp.drop (j+1):=List.drop_eq_getElem_cons hlt;have hg:t1.u.sp[j]?=some t1.u.sp[j]:=by simp[hlt]
   generalize t1.u.sp[j]=s at hd hg;rw[hd] at hm;simp only[List.map_cons,io] at hm
   split at hm
   ·cases hm
   rename_i ns1 h1;have ha:bR (j:Int) 1=((j+1:Nat):Int):=aZ j 1 (by unfold natMax;omega)
   obtain ⟨hun,_,_⟩:=A.U.un t1 ht;obtain ⟨sid,sn,hS,hsn,hgS,htd,hlS,hlow⟩:=Lc hun.U.s hg;have hi4:=lc (q:=sid) hsn;obtain ⟨H',T',e,hR,he,A',hT',hsub,hl',hf'⟩:=ihn s.nd ns1 (Hc++[.cells s.cs]) Tc A.ap h1;have hl1:aa (Hc++[.cells s.cs])=aa Hc+1:=by rw[az];rfl
   have key:=ih (j+1) (by omega) fu' (by omega) H' T' A' (hsub t1 ht) (by rw[hT'];exact hm)
   have hst4:∀ ee,ar 4 (.ptr (aa Hc) 0) (.agg s.cs) ⟨Hc++[.cells [.str [],.nils,.nils,.int .i64 0]],ee⟩=some ⟨Hc++[.cells s.cs],ee⟩:=λee=>by
    refine (jJ (n:=4) (e:=ee) (cs:=[.str [],.nils,.nils,.int .i64 0]) (b:=aa Hc) (r:=aa Hc) (v:=.agg s.cs) (by rw[an];rfl) rfl (by rw[ai];simp) (by simp only[AV.cells,SpF.cs,List.all_cons,List.all_nil,fQ,Bool.and_true];rfl) (by simpa [AV.low] using hlow) (Nat.le_refl _)).trans ?_
    rw[bJ];rfl
   have hgz:ae (Hc++[AObj.cells [.str [],.nils,.nils,.int .i64 0]]) (aa Hc)=some (.cells [.str [],.nils,.nils,.int .i64 0]):=by rw[an];rfl
   have hst4c:=hst4;unfold ar at hst4c;simp only[hgz,AV.cells] at hst4c;have gso:ae (Hc++[.cells s.cs]) (aa Hc)=some (.cells s.cs):=by rw[an];rfl
   have hm1:min um e=um:=Nat.min_eq_left he
   have hx:∀ X,Yi kf us um om L H' T' ns' X->Yi kf us um om L Hc Tc ns' X:=λX ⟨r',Hd,Td,e1,e2,e3,e4,e5,e6⟩ =>
    ⟨r',Hd,Td,e1,e2,e3,λt h=>e4 t (hsub t h),by omega,λq hq h1 h2=>by rw[e6 q (by omega) h1 h2,hf' q (by omega) h1 h2,aU hq]⟩
   apply hx;simp only[ax,nC,Ga,LZ,Ok,DQ,SIM,ST0,ST1,h0,h50,h51,h52,hc,hS,hi4,hgS,htd,hlS,hst4,hst4c,AV.cells,gso,hR,hm1,ha,Nat.reduceAdd,Nat.reduceLeDiff];exact key _ (by first|rfl|exact h0) ⟨by first|rfl|exact hS.symm|exact h50.trans hS|exact h50,by first|rfl|exact h51,rfl⟩
theorem Ed (m:SpM M){kf:Nat}(hk:kf<=90000)(hL:L.length<=90000)(hK:∀ d∈L,NdK d):∀ n,No M kf us um om L n
 | 0=>λnm ns' H T A h=>by cases h
 | n+1=>λnm ns' H T A h=>by
   have e0:(envOf [.ptr us 0,.str nm] 0 env0).a.a.a=.ptr us 0:=rfl;have e1:(envOf [.ptr us 0,.str nm] 0 env0).a.a.b=.str nm:=rfl;have gus:=A.U.gus;obtain ⟨hl1,hl2,hl3⟩:=A.U.lt;obtain ⟨hd1,hd2⟩:=A.d;simp only[addM] at h;cases hmem:fT nm (T.map TE.nm) with
   | true =>
     rw[hmem] at h;simp only[cond_true,SJ] at h;obtain ⟨t,ht⟩:=jj hmem;obtain ⟨hu1,_,_⟩:=gM ht;have hlk:=yS hu1 A.U.gum;have hgc:=dC (k:=CC.keep 38) (b:=aa H) (v:=Abs.undef) (hp:=H) rfl;have htk:bg (aa H) H=H:=by have:=bP H [];rwa [List.append_nil] at this
     refine ⟨H,T,aa H,aJ (z:=z38) (m.h38 _) (by kernel_rfl) rfl ?_,by omega,A,h,λ_ h=>h,Nat.le_refl _,λ_ _ _ _=>rfl⟩
     generalize envOf [.ptr us 0,.str nm] 0 env0=R at e0 e1;simp only[z38,CV,Fa,SIM,ST0,ST1,e0,e1,gus,hlk,hgc,htk,Nat.reduceAdd,Nat.reduceLeDiff]
   | false =>
     rw[hmem] at h;simp only[cond_false] at h
     split at h
     ·cases h
     rename_i l p hu;have hfn:=nk hmem;obtain ⟨hn1,hn2⟩:=ou hfn;have hlk:=xP hn1 A.U.gum;obtain ⟨H1,u,hFl,U1,hup,hO,hlen1,hfr1⟩:=Vo m hk hL hK hu H;have hgood:=(jT hu).2.2;rw[<-hup] at hgood;obtain ⟨g1,g2,g3,g4,g5,g6,g7,g8⟩:=kx hgood;have hnl:=U1.lt;have hl2' : aa (H1++[cz0])=aa H1+1:=by rw[az];rfl
     have gum2:ae (H1++[cz0]) um=some (.map (kE (BG T))):=by rw[aU (by omega),hfr1 um hl2,A.U.gum]
     have hmu:=Yy (nm:=nm) (p:=aa H+2) (e:=aa H) hn1 gum2 (by omega) (by omega) (by omega)
     have hl3' : aa (am (H1++[cz0]) um (.map (kE (BG T++[(nm,.ptr (aa H+2) 0)]))))=aa H1+1:=by rw[ay,hl2']
     have hf3:∀ q,q≠um->q<aa H1->ae (am (H1++[cz0]) um (.map (kE (BG T++[(nm,.ptr (aa H+2) 0)])))) q=ae H1 q:=λq h1 h2=>by rw[af h1,aU h2]
     have gum3:=aF gum2 (.map (kE (BG T++[(nm,.ptr (aa H+2) 0)])));generalize hH3:am (H1++[cz0]) um (.map (kE (BG T++[(nm,.ptr (aa H+2) 0)])))=H3 at hmu hl3' hf3 gum3
     have hqm:∀ q,q=aa H+2\/q∈u.ns->q≠um:=λq hq2=>by
      rcases hq2 with rfl|hq2
      ·omega
      ·have:=(hnl q hq2).1;omega
     have hqo:∀ q,q=aa H+2\/q∈u.ns->q≠om:=λq hq2=>by
      rcases hq2 with rfl|hq2
      ·omega
      ·have:=(hnl q hq2).1;omega
     have U3:UI (aa H+2) H3 u:=U1.to (by omega) (λq hq hq2=>hf3 q (hqm q hq2) hq)
     obtain ⟨V,hV,hSo⟩:=Oa m hk U3 hgood;have gom3:ae H3 om=some (.map (kE (BI T))):=by rw[hf3 om (by omega) (by omega),hfr1 om hl3,A.U.gom]
     have gus3:ae H3 us=some (.cells [.sl 6 (L.map NdR.v) .dead,.map um,.map om]):=by rw[hf3 us (by omega) (by omega),hfr1 us hl1,gus]
     have hmo:=λee=>Ye (nm:=nm) (e:=ee) hn2 gom3 hV
     have hl4' : aa (am H3 om (.map (kE (BI T++[(nm,V)]))))=aa H1+1:=by rw[ay,hl3']
     have hf4:∀ q,q≠om->ae (am H3 om (.map (kE (BI T++[(nm,V)])))) q=ae H3 q:=λq h1=>af h1 _
     have gom4:=aF gom3 (.map (kE (BI T++[(nm,V)])));generalize hH4:am H3 om (.map (kE (BI T++[(nm,V)])))=H4 at hmo hl4' hf4 gom4
     let t1:TE:=⟨nm,aa H+2,u,V,l⟩
     have heU:BG (T++[t1])=BG T++[(nm,.ptr (aa H+2) 0)]:=by show (T++[t1]).map _=_;rw[List.map_append];rfl
     have heO:BI (T++[t1])=BI T++[(nm,V)]:=by show (T++[t1]).map _=_;rw[List.map_append];rfl
     have hf14:∀ q,q<aa H1->q≠um->q≠om->ae H4 q=ae H1 q:=λq h1 h2 h3=>by rw[hf4 q h3,hf3 q h2 h1]
     have A4:UA kf us um om L H4 (T++[t1]):=by
      refine ⟨⟨by rw[hf4 us (by omega),gus3],by rw[hf4 um (by omega),gum3,heU],by rw[gom4,heO],⟨by omega,by omega,by omega⟩,λt ht=>?_⟩,λt ht=>?_,A.d,λt ht=>?_⟩
      ·rcases List.mem_append.1 ht with ht|ht
       ·obtain ⟨c1,c2,c3⟩:=A.U.un t ht;have hab:=A.ab t ht;refine ⟨⟨c1.U.to (by omega) (λq hq hq2=>?_),by have:=c1.lt;omega,λq hq=>by have:=c1.nl q hq;omega⟩,c2,c3⟩
        have hgt:us<q:=by
         rcases hq2 with rfl|hq2
         ·exact hab
         ·have:=(c1.U.lt q hq2).1;omega
        rw[hf14 q (by omega) (by omega) (by omega),hfr1 q hq]
       ·simp only[List.mem_singleton] at ht;subst ht;refine ⟨⟨U3.to (by omega) (λq hq hq2=>hf4 q (hqo q hq2)),by show aa H+2<aa H4;omega,λq hq=>by have:=(hnl q hq).2;omega⟩,hV,hO⟩
      ·rcases List.mem_append.1 ht with ht|ht
       ·exact A.f t ht
       ·simp only[List.mem_singleton] at ht;subst ht;show di kf L nm=some (l,u.p);rw[hup];exact hu
      ·rcases List.mem_append.1 ht with ht|ht
       ·exact A.ab t ht
       ·simp only[List.mem_singleton] at ht;subst ht;show us<aa H+2;omega
     have hspq:p.sp=u.sp.map SpF.q:=by rw[<-hup];rfl
     have hspl:u.sp.length<=90000:=by
      have:u.p.sp.length=u.sp.length:=by simp[UN.p]
      omega
     have hm4:io (addM kf L n) ((t1.u.sp.drop 0).map SpF.q) ((T++[t1]).map TE.nm)=some ns':=by
      rw[List.drop_zero,List.map_append];show io (addM kf L n) (u.sp.map SpF.q) _=_;rw[<-hspq];exact h
     have t1m:t1∈T++[t1]:=List.mem_append_right _ (List.mem_singleton.2 rfl);have key:=Be (M:=M) (Ed m hk hL hK n) (t1:=t1) hspl u.sp.length 0 (Nat.add_zero _) 100000 (by omega) H4 (T++[t1]) A4 t1m hm4
     have gu4:=(A4.U.un t1 t1m).1.U.ob;have hsl4:=(A4.U.un t1 t1m).1.U.slen
     have hst2:∀ ee,ar 2 (.ptr (aa H1) 0) (.agg [.int .i64 0,.int .i64 0]) ⟨H1++[cz0],ee⟩=some ⟨H1++[cz0],ee⟩:=λee=>by
      refine (Ea (n:=2) (cs:=[.int .i64 0,.int .i64 0]) (by rw[an];rfl) rfl (by rw[ai];simp) rfl rfl).trans ?_
      rw[bJ];rfl
     have hgz:ae (H1++[cz0]) (aa H1)=some (.cells [.int .i64 0,.int .i64 0]):=by rw[an];rfl
     have hst2c:=hst2;unfold ar at hst2c;simp only[hgz,AV.cells] at hst2c;have hgz' : ae (H1++[AObj.cells [.int .i64 0,.int .i64 0]]) (aa H1)=some (.cells [.int .i64 0,.int .i64 0]):=hgz;have hcz:(H1++[cz0])=H1++[AObj.cells [.int .i64 0,.int .i64 0]]:=rfl;rw[hcz] at hst2 hst2c hmu hl2';have gus2:ae (H1++[AObj.cells [.int .i64 0,.int .i64 0]]) us=some (.cells [.sl 6 (L.map NdR.v) .dead,.map um,.map om]):=by rw[aU (by omega),hfr1 us hl1,gus]
     have gus4:ae H4 us=some (.cells [.sl 6 (L.map NdR.v) .dead,.map um,.map om]):=A4.U.gus
     have hnn:bw CC .eql 73 true (.ptr (aa H+2) 0) .nilp=some (.bool false):=by
      have:∀ p:Nat,bw CC .eql 73 true (.ptr p 0) .nilp=some (.bool false):=λ_=>by kernel_rfl
      exact this _
     have hsm:∀ x:Nat,AV.same (.map x) (.map x)=true:=λx=>by simp[AV.same]
     have hm1:min (aa H) (aa H)=aa H:=Nat.min_self _;have hm2:min um (aa H1+1)=um:=by omega
     rw[hl3'] at hSo
     obtain ⟨r1,hr1,hk1,hpre⟩ : ∃ r:RG,r.a.a.a=.ptr us 0/\(r.a.g.c=t1.u.S/\r.a.g.d=.int .i64 (t1.u.sp.length:Int)/\r.a.g.e=.int .i64 ((0:Nat):Int)) /\
       z38.sh (orc CC M) (envOf [.ptr us 0,.str nm] 0 env0) [] ⟨H,aa H⟩=c9 0 (ax (nC (orc CC M)) 100000 r [] ⟨H4,um⟩):=by
      generalize envOf [.ptr us 0,.str nm] 0 env0=R at e0 e1;have gu4' : ae H4 (aa H+2)=some (.cells u.c):=gu4;have hsl4' : aO CC 86 u.S=some (.int .i64 (u.sp.length:Int)):=hsl4;simp only[z38,CV,Fa,MN,Mo,KY,MI,Nb,SIM,ST0,ST1,e0,e1,gus,hlk,hFl,hm1,gus2,hst2,hst2c,hgz',AV.cells,hmu,orSt,sP,EXS,hnn,gus3,hSo,hm2,hsm,hmo,gu4',yq,hsl4',Nat.reduceAdd,Nat.reduceLeDiff];exact ⟨_,by first|rfl|exact e0,⟨rfl,rfl,rfl⟩,rfl⟩
     obtain ⟨r2,Hd,Td,s2,A5,hTd,hsub,hl5,hf5⟩:=key r1 hr1 hk1;have hgc:=dL (keep:=CC.keep 38) (base:=aa H) (e:=um) (v:=Abs.undef) (hp:=Hd) (by omega)
     refine ⟨Hd,Td,um,aJ (z:=z38) (m.h38 _) (by kernel_rfl) rfl ?_,Nat.le_refl _,A5,hTd,λt ht=>hsub t (List.mem_append_left _ ht),by omega,λq hq h1 h2=>by rw[hf5 q (by omega) h1 h2,hf14 q (by omega) h1 h2,hfr1 q hq]⟩
     rw[hpre,s2,ck];simp only[SIM,z38,hgc]
end
def Zl (H:Heap)(X:IRes):Prop:=∃ r' G,X=some (.exit 0,r',[],⟨H++[cz0]++G,aa H⟩)/\r'.a.a.c=.ptr (aa H) 0
section
variable {M:Memo}{us um om kf:Nat}{L:List NdR}
theorem xq (m:SpM M)(hk:kf<=90000){H:Heap}{T:List TE}(A:UA kf us um om L H T)(hL:L.length<=90000):∀ (d i:Nat),d+i=L.length->∀ (fu:Nat),d<fu->∀ (G:Heap) (r:RG),
  (r.a.a.a=.ptr us 0/\r.a.a.c=.ptr (aa H) 0/\r.a.b.g=.sl 6 (L.map NdR.v) .dead/\r.a.b.h=.int .i64 (L.length:Int)/\r.a.c.a=.int .i64 (i:Int)) ->
  Zl H (ax (lU (orc CC M)) fu r [] ⟨H++[cz0]++G,aa H⟩):=by
 intro d
 induction d with
 | zero =>
   intro i hi fu hfu G r ⟨h0,h2,h14,h15,h16⟩;obtain ⟨fu',rfl⟩ : ∃ f,fu=f+1:=⟨fu-1,by omega⟩
   have:i=L.length:=by omega
   subst this;have hc:decide ((L.length:Int)<(L.length:Int))=false:=by simp
   simp only[ax,lU,yl,SIM,ST0,h15,h16,hc];exact ⟨_,G,rfl,by first|exact h2⟩
 | succ d ih =>
   intro i hi fu hfu G r ⟨h0,h2,h14,h15,h16⟩;obtain ⟨fu',rfl⟩ : ∃ f,fu=f+1:=⟨fu-1,by omega⟩
   have hlt:i<L.length:=by omega
   have hc:decide ((i:Int)<(L.length:Int))=true:=by simp;omega
   have hg:L[i]?=some L[i]:=by simp[hlt]
   generalize L[i]=a at hg;have hat:=ul .dead hg;have ha:bR (i:Int) 1=((i+1:Nat):Int):=aZ i 1 (by unfold natMax;omega)
   have hn1:=gR a;have ho1:=kO a;have hG:H++[cz0]++G=H++([cz0]++G):=List.append_assoc _ _ _;cases hf:fI a.s T with
   | none =>
     obtain ⟨hn,_⟩:=ou hf;have key:=ih (i+1) (by omega) fu' (by omega) (G++[dq a])
     rw[<-List.append_assoc] at key;have gus:ae (H++[cz0]++G++[dq a]) us=some (.cells [.sl 6 (L.map NdR.v) .dead,.map um,.map om]):=by rw[hG,List.append_assoc];exact au A.U.gus _
     have hlk:=xP (H:=H++[cz0]++G++[dq a]) hn (by rw[hG,List.append_assoc];exact au A.U.gum _)
     generalize hHc:H++[cz0]++G=Hc at *;simp only[ax,lU,yl,C5,Cy,GP,vB,SIM,ST0,ST1,h0,h2,h14,h15,h16,hc,hat,ha,gus,hlk,hn1,ho1,DZS,Nat.reduceAdd,Nat.reduceLeDiff];exact key _ ⟨by first|rfl|exact h0,by first|rfl|exact h2,by first|rfl|exact h14,by first|rfl|exact h15,rfl⟩
   | some t =>
     obtain ⟨hu1,_,htm⟩:=gM hf;obtain ⟨hun,_,_⟩:=A.U.un t htm;have hgood:=(jT (A.f t htm)).2.2;have U2:UI t.uo (H++[cz0]++G++[dq a]) t.u:=by rw[hG,List.append_assoc];exact hun.U.ap
     obtain ⟨V,hV,hSo⟩:=Oa m hk U2 hgood;have key:=ih (i+1) (by omega) fu' (by omega) (G++[dq a]++[cz0])
     rw[<-List.append_assoc,<-List.append_assoc] at key;have gus:ae (H++[cz0]++G++[dq a]) us=some (.cells [.sl 6 (L.map NdR.v) .dead,.map um,.map om]):=by rw[hG,List.append_assoc];exact au A.U.gus _
     have hlk:=yS (H:=H++[cz0]++G++[dq a]) hu1 (by rw[hG,List.append_assoc];exact au A.U.gum _)
     have hnn:bw CC .eql 73 true (.ptr t.uo 0) .nilp=some (.bool false):=by
      have:∀ p:Nat,bw CC .eql 73 true (.ptr p 0) .nilp=some (.bool false):=λ_=>by kernel_rfl
      exact this _
     have hlG:aa H<=aa (H++[cz0]++G++[dq a]):=by rw[az,az,az];omega
     have hm1:min (aa H) (aa (H++[cz0]++G++[dq a]))=aa H:=Nat.min_eq_left hlG;generalize hHc:H++[cz0]++G=Hc at *;have hl1:aa (Hc++[dq a])=aa Hc+1:=by rw[az];rfl
     rw[hl1] at hSo hm1;have hgz:ae (Hc++[dq a,cz0]) (aa Hc+1)=some (.cells [.int .i64 0,.int .i64 0]):=by rw[aW];rfl
     have hgz' : ae (Hc++[dq a,AObj.cells [.int .i64 0,.int .i64 0]]) (aa Hc+1)=some (.cells [.int .i64 0,.int .i64 0]):=hgz;have hse:∀ c,am (Hc++[dq a,AObj.cells [.int .i64 0,.int .i64 0]]) (aa Hc+1) c=Hc++[dq a,c]:=λc=>by rw[dT];rfl
     rw[List.append_assoc] at key;have hnz:decide ((0:Int)=0)=true:=rfl;simp only[ax,lU,yl,C5,Cy,GP,LT,NG,CB,vB,SIM,ST0,ST1,h0,h2,h14,h15,h16,hc,hat,ha,gus,hlk,hnn,hSo,hm1,hgz',hse,hnz,hn1,ho1,DZS,List.append_assoc,List.cons_append,List.nil_append,Nat.reduceAdd,Nat.reduceLeDiff];exact key _ ⟨by first|rfl|exact h0,by first|rfl|exact h2,by first|rfl|exact h14,by first|rfl|exact h15,rfl⟩
theorem Di (m:SpM M)(hk:kf<=90000){H:Heap}{T:List TE}(A:UA kf us um om L H T)(hL:L.length<=90000):orc CC M 39 [.ptr us 0] H=some (.ret (.agg [.int .i64 0,.int .i64 0]) H (aa H)):=by
 have lp:=xq m hk A hL L.length 0 rfl 100000 (by omega) []
 rw[List.append_nil] at lp;refine aJ (z:=z39) (m.h39 _) (by kernel_rfl) rfl ?_
 have e0:(envOf [.ptr us 0] 0 env0).a.a.a=.ptr us 0:=rfl;generalize envOf [.ptr us 0] 0 env0=R at e0
 obtain ⟨r0,hr0,hpre⟩ : ∃ r,(r.a.a.a=.ptr us 0/\r.a.a.c=.ptr (aa H) 0/\r.a.b.g=.sl 6 (L.map NdR.v) .dead/\r.a.b.h=.int .i64 (L.length:Int)/\r.a.c.a=.int .i64 ((0:Nat):Int)) /\
   z39.sh (orc CC M) R [] ⟨H,aa H⟩=dI (ac (xg (orc CC M)) retZ) (c9 0 (ax (lU (orc CC M)) 100000 r [] ⟨H++[cz0],aa H⟩)):=by
  have hln:=vg L .dead;have gus:=au A.U.gus [cz0];have gus' : ae (H++[AObj.cells [.int .i64 0,.int .i64 0]]) us=some (.cells [.sl 6 (L.map NdR.v) .dead,.map um,.map om]):=gus;simp only[z39,Lp,LI,SIM,ST0,e0,gus',hln,Nat.reduceAdd,Nat.reduceLeDiff];exact ⟨_,⟨by first|rfl|exact e0,rfl,rfl,rfl,rfl⟩,rfl⟩
 obtain ⟨r',G,h1,h2⟩:=lp r0 hr0;rw[hpre,h1];have hg:ae (H++[cz0]++G) (aa H)=some (.cells [.int .i64 0,.int .i64 0]):=by rw[List.append_assoc,an];rfl
 have hse:∀ c,am (H++[cz0]++G) (aa H) c=H++[c]++G:=λc=>by rw[List.append_assoc,bJ,List.append_assoc];rfl
 have hg2:ae (H++[AObj.cells [.int .i64 0,.int .i64 0]]++G) (aa H)=some (.cells [.int .i64 0,.int .i64 0]):=hg;have ht:∀ c,bg (aa H) (H++[c]++G)=H:=λc=>by rw[List.append_assoc,bP]
 have b2:ao CC 29 []=some (.agg [.int .i64 0,.int .i64 0]):=by kernel_rfl
 have hgc:=λhp=>dC (k:=CC.keep 39) (b:=aa H) (v:=.agg [.int .i64 0,.int .i64 0]) (hp:=hp) rfl
 have hse' : am (H++[cz0]++G) (aa H) (.cells [.int .i64 0,.int .i64 0])=H++[cz0]++G:=hse _;have ht':=ht cz0;generalize H++[cz0]++G=Hc at *;simp only[z39,xg,SIM,ST0,h2,hg,hse',b2,hgc,ht',Nat.reduceAdd,Nat.reduceLeDiff]
end
def i5 (ms:List WkM)(first:Nat)(fut:List Nat)(i:Nat):List WtF->Nat->List EgF->Option (List EgF)
 | [],_,es=>some es
 | x::l,k,es=>match jB first fut (x.sp,x.pa) with
   | none=>none
   | some fr=>match ms[fr]? with
     | none=>none
     | some m=>match m.t.outs[0]? with
       | none=>none
       | some ov=>i5 ms first fut i l (k+1) (es++[⟨fr,i,false,⟨false,0,ov⟩,k,x.ah,x.ln⟩])
theorem sF {ws:List WkF}{ms:List WkM}(R:ws.map WkF.k=ms.map WkM.k)(hO:∀ m∈ms,sD m.t.u m.t.outs)(first:Nat)(fut:List Nat)(i:Nat):∀ (l:List WtF) (k:Nat) (es:List EgF),eU ws first fut i l k es=i5 ms first fut i l k es
 | [],k,es=>rfl
 | x::l,k,es=>by
   simp only[eU,i5];cases jB first fut (x.sp,x.pa) with
   | none=>rfl
   | some fr =>
     simp only[];have h1:(ws.map WkF.k)[fr]?=(ms.map WkM.k)[fr]?:=by rw[R]
     rw[List.getElem?_map,List.getElem?_map] at h1;cases hm:ms[fr]? with
     | none =>
       rw[hm] at h1;cases hw:ws[fr]? with
       | none=>rfl
       | some w=>rw[hw] at h1;cases h1
     | some m =>
       rw[hm] at h1;cases hw:ws[fr]? with
       | none=>rw[hw] at h1;cases h1
       | some w =>
         rw[hw] at h1;simp only[Option.map_some,SJ,WkF.k,WkM.k,PJ] at h1;simp only[];rw[h1.2.1,HP (hO m (List.mem_of_getElem? hm))];cases m.t.outs[0]? with
         | none=>rfl
         | some ov=>exact sF R hO first fut i l _ _
def eB (T:List TE):Nat->Nat->List WkM->List EgF->Option (List WkM×List EgF)
 | 0,_,_,_=>none
 | n+1,i,ms,es=>match ms[i]? with
   | none=>some (ms,es)
   | some m=>match cP T i ms.length m.fut m.t.u.sp 0 (ms.set i { m with first:=ms.length }) es with
     | none=>none
     | some (ms',es')=>cond (Nat.ble ms'.length 30&&Nat.ble es'.length 90000) (eB T n (i+1) ms' es') none
def f7 (ms:List WkM):List WkM->Nat->List EgF->Option (List EgF)
 | [],_,es=>some es
 | m::l,i,es=>match i5 ms m.first m.fut i m.t.u.ws 0 es with
   | none=>none
   | some es'=>cond (Nat.ble es'.length 90000&&Nat.ble m.first 100000) (f7 ms l (i+1) es') none
section
variable {M:Memo}{B po us um om:Nat}{L:List NdR}{T:List TE}{at_:Int}
structure PlS (B po us um om:Nat)(L:List NdR)(T:List TE)(at_:Int)(H Hc:Heap)(ms:List WkM)(ws:List WkF)(W:AV)(es:List EgF)(E:AV):Prop where
 P:Pl po Hc ws W es E at_
 R:ws.map WkF.k=ms.map WkM.k
 fl:∀ x∈ws,x.fl.low (aa Hc)=true
 U:UT B us um om L Hc T
 nW:∀ q∈nmA W,B<=q
 nE:∀ q∈nmA E,B<=q
 mT:∀ m∈ms,m.t∈T
 fr:∀ q,q<B->ae Hc q=ae H q
 len:aa H<=aa Hc
theorem PlS.wlen {H Hc:Heap}{ms:List WkM}{ws:List WkF}{W:AV}{es:List EgF}{E:AV}(I:PlS B po us um om L T at_ H Hc ms ws W es E):aO CC 101 W=some (.int .i64 (ms.length:Int)):=by
 have hlen:ws.length=ms.length:=by have:=congrArg List.length I.R;simpa using this
 obtain ⟨h1,h2,h3⟩:=oc (T:=101) (by kernel_rfl)
 have hl:=ny ws
 rcases I.P.w with ⟨h0,rfl⟩|⟨id,n,rfl,h0,h4,hln,_⟩
 ·rw[h0] at hl;simp only[List.length_nil] at hl;rw[h2,<-hlen]
  congr 3;omega
 ·rw[hl] at hln;rw[h3,<-hlen]
  congr 3;omega
def Yx (T:List TE):Prop:=∀ t∈T,t.u.sp.length<=90000/\(∀ s∈t.u.sp,s.args.length<=90000/\s.futs.length<=90000)/\t.u.ws.length<=90000
def Yn (B po us um om:Nat)(L:List NdR)(T:List TE)(at_:Int)(H:Heap)(ms:List WkM)(es:List EgF)(e:Nat)(f:AV)(X:IRes):Prop :=
 ∃ r' Hc ws W E,X=some (.exit 0,r',[],⟨Hc,e⟩)/\PlS B po us um om L T at_ H Hc ms ws W es E/\(r'.a.a.d=f/\r'.a.a.e=.ptr us 0/\r'.a.a.g=.ptr po 0)
theorem tq (m:SpM M)(hB:B<=po){H:Heap}(hT:Yx T){f:AV}{e:Nat}(he:e<=po){ms' : List WkM}{es' : List EgF} :
  ∀ (n i:Nat)(fu:Nat),n<=fu->∀ (Hc:Heap) (ms:List WkM) (ws:List WkF) (W:AV) (es:List EgF) (E:AV),PlS B po us um om L T at_ H Hc ms ws W es E->ms.length<=30->i<=ms.length->eB T n i ms es=some (ms',es')->∀ (r:RG),(r.a.a.d=f/\r.a.a.e=.ptr us 0/\r.a.a.g=.ptr po 0)->r.a.a.h=.int .i64 (i:Int) ->
  Yn B po us um om L T at_ H ms' es' e f (ax (mZ (orc CC M)) fu r [] ⟨Hc,e⟩):=by
 intro n
 induction n with
 | zero=>intro i fu hfu Hc ms ws W es E I hl hi hm;cases hm
 | succ n ih =>
   intro i fu hfu Hc ms ws W es E I hl hi hm r ⟨h3,h4,h6⟩ h7;obtain ⟨fu',rfl⟩ : ∃ f,fu=f+1:=⟨fu-1,by omega⟩
   simp only[eB] at hm;have hob:=I.P.ob;have hln:=I.wlen;cases hmi:ms[i]? with
   | none =>
     rw[hmi] at hm;simp only[SJ,PJ] at hm;obtain ⟨rfl,rfl⟩:=hm
     have hil:ms.length<=i:=by
      rcases Nat.lt_or_ge i ms.length with h|h
      ·simp[h] at hmi
      ·exact h
     have hc:decide ((i:Int)<(ms.length:Int))=false:=by simp;omega
     simp only[ax,mZ,FP,SIM,ST0,ST1,h3,h4,h6,h7,hob,hln,hc,Nat.reduceAdd,Nat.reduceLeDiff];exact ⟨_,Hc,ws,W,E,rfl,I,by first|exact h3,by first|exact h4,by first|exact h6⟩
   | some x =>
     rw[hmi] at hm;simp only[] at hm
     split at hm
     ·cases hm
     rename_i ms1 es1 hs;obtain ⟨hle,hm⟩:=aT hm;rw[Bool.and_eq_true] at hle;have hle1:=Nat.le_of_ble_eq_true hle.1;have hle2:=Nat.le_of_ble_eq_true hle.2
     have hil:i<ms.length:=by
      rcases Nat.lt_or_ge i ms.length with h|h
      ·exact h
      ·simp[h] at hmi
     have hc:decide ((i:Int)<(ms.length:Int))=true:=by simp;omega
     have hxT:=I.mT x (List.mem_of_getElem? hmi);obtain ⟨t1,t2,t3⟩:=hT x.t hxT;obtain ⟨H',ws',W',E',e',hR,he',P',R',fl',hl',fr',nW',nE'⟩:=u4 m.h40 m.h63 hB I.P I.U I.R I.fl I.nW I.nE hmi hxT t1 t2 (by omega) (by omega) hs
     have hpo:=I.P.po;have hBl:B<=aa Hc:=by omega
     have hfB:∀ q,q<B->ae H' q=ae Hc q:=λq hq=>fr' q (by omega) (by omega) (λh=>by have:=I.nW q h;omega) (λh=>by have:=I.nE q h;omega)
     have hmT:∀ m∈ms1,m.t∈T:=by
      have key:∀ (l:List SpF) (k:Nat) (ms ms' : List WkM) (es es' : List EgF),(∀ m∈ms,m.t∈T)->cP T i ms.length x.fut l k ms es=some (ms',es')->True:=λ_ _ _ _ _ _ _ _=>trivial
      have key2:∀ (first:Nat) (l:List SpF) (k:Nat) (ms ms' : List WkM) (es es' : List EgF),(∀ m∈ms,m.t∈T)->cP T i first x.fut l k ms es=some (ms',es')->∀ m∈ms',m.t∈T:=by
       intro first l
       induction l with
       | nil =>
         intro k ms ms' es es' h1 h2;simp only[cP,SJ,PJ] at h2;rw[<-h2.1];exact h1
       | cons s l ihl =>
         intro k ms ms' es es' h1 h2;simp only[cP] at h2
         split at h2
         ·cases h2
         rename_i t ht
         split at h2
         ·cases h2
         refine ihl _ _ _ _ _ (λm hm=>?_) h2
         rcases List.mem_append.1 hm with hm|hm
         ·exact h1 m hm
         ·simp only[List.mem_singleton] at hm;rw[hm];exact (gM ht).2.2
      refine key2 _ _ _ _ _ _ _ (λm hm=>?_) hs
      rcases List.mem_or_eq_of_mem_set hm with h|h
      ·exact I.mT m h
      ·rw[h];exact hxT
     have I' : PlS B po us um om L T at_ H H' ms1 ws' W' es1 E' :=
      ⟨P',R',fl',I.U.to hl' hfB,λq hq=>by rcases nW' q hq with h|h;exact I.nW q h;omega,λq hq=>by rcases nE' q hq with h|h;exact I.nE q h;omega,hmT,λq hq=>by rw[hfB q hq,I.fr q hq],by have:=I.len;omega⟩
     have hsl:=(ib hs).1;rw[List.length_set] at hsl;have key:=ih (i+1) fu' (by omega) H' ms1 ws' W' es1 E' I' hle1 (by omega) hm
     have ha:bR (i:Int) 1=((i+1:Nat):Int):=aZ i 1 (by unfold natMax;omega)
     have hob':=P'.ob;have hln':=I'.wlen;have hgt:decide ((ms1.length:Int) > 30)=false:=by simp;omega
     have hm1:min e e'=e:=by omega
     simp only[ax,mZ,FP,Ft,Ce,Cj,SIM,ST0,ST1,ST2,h3,h4,h6,h7,hob,hln,hc,hR,hm1,hob',hln',hgt,ha,Nat.reduceAdd,Nat.reduceLeDiff];exact key _ ⟨by first|rfl|exact h3,by first|rfl|exact h4,by first|rfl|exact h6⟩ rfl
def Yl (B po us um om:Nat)(L:List NdR)(T:List TE)(at_:Int)(H:Heap)(ms:List WkM)(es:List EgF)(e:Nat)(f:AV)(X:IRes):Prop :=
 ∃ r' Hc ws W E,X=some (.exit 2,r',[],⟨Hc,e⟩)/\PlS B po us um om L T at_ H Hc ms ws W es E/\(r'.a.a.d=f/\r'.a.a.g=.ptr po 0)
theorem tc (m:SpM M)(hB:B<=po){H:Heap}(hT:Yx T){f:AV}{e:Nat}(he:e<=po){ms:List WkM}{es' : List EgF}(hl:ms.length<=30) :
  ∀ (k i:Nat),k+i=ms.length->∀ (fu:Nat),k<fu->∀ (Hc:Heap) (ws:List WkF) (W:AV) (es:List EgF) (E:AV),PlS B po us um om L T at_ H Hc ms ws W es E->f7 ms (ms.drop i) i es=some es'->∀ (r:RG),(r.a.a.d=f/\r.a.a.g=.ptr po 0)->(r.b.c.d=.int .i64 (ms.length:Int)/\r.b.c.e=.int .i64 (i:Int)) ->
  Yl B po us um om L T at_ H ms es' e f (ax (oz (orc CC M)) fu r [] ⟨Hc,e⟩):=by
 intro k
 induction k with
 | zero =>
   intro i hi fu hfu Hc ws W es E I hm r ⟨h3,h6⟩ ⟨h83,h84⟩;obtain ⟨fu',rfl⟩ : ∃ f,fu=f+1:=⟨fu-1,by omega⟩
   have:i=ms.length:=by omega
   subst this;have hc:decide ((ms.length:Int)<(ms.length:Int))=false:=by simp
   rw[List.drop_length] at hm;simp only[f7,SJ] at hm;subst hm;simp only[ax,oz,uX,SIM,ST0,ST2,h83,h84,hc];exact ⟨_,Hc,ws,W,E,rfl,I,by first|exact h3,by first|exact h6⟩
 | succ k ih =>
   intro i hi fu hfu Hc ws W es E I hm r ⟨h3,h6⟩ ⟨h83,h84⟩;obtain ⟨fu',rfl⟩ : ∃ f,fu=f+1:=⟨fu-1,by omega⟩
   have hlt:i<ms.length:=by omega
   have hc:decide ((i:Int)<(ms.length:Int))=true:=by simp;omega
   have hd:ms.drop i=ms[i]::ms.drop (i+1):=List.drop_eq_getElem_cons hlt;have hg:ms[i]?=some ms[i]:=by simp[hlt]
   generalize ms[i]=x at hd hg;rw[hd] at hm;simp only[f7] at hm
   split at hm
   ·cases hm
   rename_i es1 hs;obtain ⟨hle,hm⟩:=aT hm;rw[Bool.and_eq_true] at hle;have hle1:=Nat.le_of_ble_eq_true hle.1;have hle2:=Nat.le_of_ble_eq_true hle.2;obtain ⟨w,hwi,hwk⟩:=Nq I.R hg
   have hx:∀ w∈ws,∃ m∈ms,w.k=m.k:=λw hw=>by
    have:w.k∈ms.map WkM.k:=by rw[<-I.R];exact List.mem_map.2 ⟨w,hw,rfl⟩
    obtain ⟨m,h1,h2⟩:=List.mem_map.1 this;exact ⟨m,h1,h2.symm⟩
   have hUn:∀ w∈ws,Un B Hc w.uo w.u/\jD w.ord/\sD w.u (NB w.u):=λw hw=>by
    obtain ⟨m,h1,h2⟩:=hx w hw;simp only[WkF.k,WkM.k,PJ] at h2;obtain ⟨k1,k2,k3,_⟩:=h2;obtain ⟨c1,c2,c3⟩:=I.U.un m.t (I.mT m h1);rw[k1,k2,k3];exact ⟨c1,c2,by rw[HP c3];exact c3⟩
   have hO:∀ m∈ms,sD m.t.u m.t.outs:=λm h1=>(I.U.un m.t (I.mT m h1)).2.2
   simp only[WkF.k,WkM.k,PJ] at hwk;obtain ⟨k1,k2,k3,k4,k5⟩:=hwk;have hxT:=I.mT x (List.mem_of_getElem? hg);obtain ⟨t1,t2,t3⟩:=hT x.t hxT
   have hs' : eU ws w.first w.fut i w.u.ws 0 es=some es1:=by
    rw[sF I.R hO,k5,k4,k2];exact hs
   obtain ⟨H',E',e',hR,he',P',hl',fr',nE'⟩:=HO m.h41 m.h63 hB I.P (λw hw=>(hUn w hw).1) I.nE hwi (λw hw=>(hUn w hw).2.2) (λw hw=>(hUn w hw).2.1) (I.fl w (List.mem_of_getElem? hwi)) (by rw[k5];exact hle2) (by rw[k2];exact t3) (by omega) hs'
   have hpo:=I.P.po;have hfB:∀ q,q<B->ae H' q=ae Hc q:=λq hq=>fr' q (by omega) (by omega) (λh=>by have:=I.nE q h;omega)
   have I' : PlS B po us um om L T at_ H H' ms ws W es1 E' :=
    ⟨P',I.R,λx hx=>Lin.low_mono hl' _ (I.fl x hx),I.U.to hl' hfB,I.nW,λq hq=>by rcases nE' q hq with h|h;exact I.nE q h;omega,I.mT,λq hq=>by rw[hfB q hq,I.fr q hq],by have:=I.len;omega⟩
   have key:=ih (i+1) (by omega) fu' (by omega) H' ws W es1 E' I' hm
   have ha:bR (i:Int) 1=((i+1:Nat):Int):=aZ i 1 (by unfold natMax;omega)
   have hm1:min e e'=e:=by omega
   simp only[ax,oz,uX,D0,GC,Eh,SIM,ST0,ST2,h3,h6,h83,h84,hc,hR,hm1,ha,Nat.reduceAdd,Nat.reduceLeDiff];exact key _ ⟨by first|rfl|exact h3,by first|rfl|exact h6⟩ ⟨by first|rfl|exact h83,rfl⟩
end
structure WkN where
 nm:List Nat
 fut:List Nat
 first:Nat
structure EgN where
 fr:Nat
 to:Nat
 arg:Bool
 what:AtF
 port:Nat
 ah:List Int
abbrev WkM.n (m:WkM):WkN:=⟨m.t.nm,m.fut,m.first⟩
abbrev EgF.n (q:EgF):EgN:=⟨q.fr,q.to,q.arg,q.what,q.port,q.ah⟩
def n5 (i to:Nat):List AtF->Nat->List EgN->List EgN
 | [],_,es=>es
 | x::l,k,es=>n5 i to l (k+1) (es++[⟨i,to,true,x,k,[]⟩])
def Fv (ns:List (List Nat))(i first:Nat)(fut:List Nat):List SQ->Nat->List WkN->List EgN->Option (List WkN×List EgN)
 | [],_,ws,es=>some (ws,es)
 | s::l,k,ws,es=>cond (fT s.nd ns) (match iD first fut s.futs with
   | none=>none
   | some out=>Fv ns i first fut l (k+1) (ws++[⟨s.nd,out,0⟩]) (n5 i (first+k) s.args 0 es)) none
noncomputable def ey (kf:Nat)(L:List NdR)(ns:List (List Nat)):Nat->Nat->List WkN->List EgN->Option (List WkN×List EgN)
 | 0,_,_,_=>none
 | n+1,i,ws,es=>match ws[i]? with
   | none=>some (ws,es)
   | some w=>match di kf L w.nm with
     | none=>none
     | some (_,p)=>match Fv ns i ws.length w.fut p.sp 0 (ws.set i { w with first:=ws.length }) es with
       | none=>none
       | some (ws',es')=>cond (Nat.ble ws'.length 30&&Nat.ble es'.length 90000) (ey kf L ns n (i+1) ws' es') none
noncomputable def Kc (kf:Nat)(L:List NdR)(ws:List WkN)(first:Nat)(fut:List Nat)(i:Nat):List WQ->Nat->List EgN->Option (List EgN)
 | [],_,es=>some es
 | x::l,k,es=>match jB first fut (x.sp,x.pa) with
   | none=>none
   | some fr=>match ws[fr]? with
     | none=>none
     | some w=>match di kf L w.nm with
       | some (ov::_,_)=>Kc kf L ws first fut i l (k+1) (es++[⟨fr,i,false,⟨false,0,ov⟩,k,x.ah⟩])
       | _=>none
noncomputable def ew (kf:Nat)(L:List NdR)(ws:List WkN):List WkN->Nat->List EgN->Option (List EgN)
 | [],_,es=>some es
 | w::l,i,es=>match di kf L w.nm with
   | none=>none
   | some (_,p)=>match Kc kf L ws w.first w.fut i p.ws 0 es with
     | none=>none
     | some es'=>cond (Nat.ble es'.length 90000&&Nat.ble w.first 100000) (ew kf L ws l (i+1) es') none
noncomputable def lm (kf n:Nat)(L:List NdR):Option (List WkN×List EgN):=match L with
 | []=>none
 | d::_=>match addM kf L n d.s [] with
   | none=>none
   | some ns=>cond (fT d.s ns) (match ey kf L ns 40 0 [⟨d.s,[],0⟩] [] with
     | none=>none
     | some (ws,es)=>match ew kf L ws ws 0 es with
       | none=>none
       | some es'=>some (ws,es')) none
theorem sL (i to:Nat):∀ (l:List AtF) (k:Nat) (es:List EgF),(im i to l k es).map EgF.n=n5 i to l k (es.map EgF.n)
 | [],k,es=>rfl
 | x::l,k,es=>by
   simp only[im,n5];rw[sL i to l];rw[List.map_append];rfl
theorem mV {nm:List Nat}:∀ {T:List TE} {t:TE},fI nm T=some t->t.nm=nm
 | [],t,h=>by cases h
 | x::l,t,h=>by
   simp only[fI] at h;cases hs:strEq x.nm nm with
   | true =>
     rw[hs] at h;simp only[cond_true,SJ] at h;subst h;rw[dH] at hs;simpa using hs
   | false=>rw[hs] at h;exact mV h
section
variable {kf:Nat}{L:List NdR}{T:List TE}
theorem CT (i first:Nat)(fut:List Nat):∀ (l:List SpF) (k:Nat) (ms:List WkM) (es:List EgF) (wn:List WkN) (en:List EgN),Fv (T.map TE.nm) i first fut (l.map SpF.q) k (ms.map WkM.n) (es.map EgF.n)=some (wn,en) ->
  ∃ ms' es',cP T i first fut l k ms es=some (ms',es')/\ms'.map WkM.n=wn/\es'.map EgF.n=en
 | [],k,ms,es,wn,en,h=>by
   simp only[List.map_nil,Fv,SJ,PJ] at h;exact ⟨ms,es,rfl,h.1,h.2⟩
 | s::l,k,ms,es,wn,en,h=>by
   simp only[List.map_cons,Fv] at h;obtain ⟨hmem,h⟩:=aT h;obtain ⟨t,ht⟩:=jj hmem;have hnm:=mV ht
   split at h
   ·cases h
   rename_i out ho
   have e1:(ms++[(⟨t,out,0⟩ : WkM)]).map WkM.n=ms.map WkM.n++[⟨s.nd,out,0⟩]:=by
    rw[List.map_append];show _++[(⟨t.nm,out,0⟩ : WkN)]=_;rw[hnm];rfl
   have e2:=sL i (first+k) s.args 0 es
   have h' : Fv (T.map TE.nm) i first fut (l.map SpF.q) (k+1) ((ms++[(⟨t,out,0⟩ : WkM)]).map WkM.n) ((im i (first+k) s.args 0 es).map EgF.n)=some (wn,en):=by
    rw[e1,e2];exact h
   obtain ⟨ms',es',h1,h2,h3⟩:=CT i first fut l (k+1) _ _ wn en h'
   refine ⟨ms',es',?_,h2,h3⟩;simp only[cP];have ht' : fI s.nd T=some t:=ht;have ho' : iD first fut s.futs=some out:=ho
   rw[ht'];simp only[];rw[ho'];exact h1
theorem pT (hf:∀ t∈T,di kf L t.nm=some (t.outs,t.u.p)):∀ (n i:Nat) (ms:List WkM) (es:List EgF) (wn:List WkN) (en:List EgN),(∀ m∈ms,m.t∈T)->ey kf L (T.map TE.nm) n i (ms.map WkM.n) (es.map EgF.n)=some (wn,en) ->
  ∃ ms' es',eB T n i ms es=some (ms',es')/\ms'.map WkM.n=wn/\es'.map EgF.n=en/\(∀ m∈ms',m.t∈T)
 | 0,i,ms,es,wn,en,hm,h=>by cases h
 | n+1,i,ms,es,wn,en,hm,h=>by
   simp only[ey,List.getElem?_map] at h;simp only[eB];cases hmi:ms[i]? with
   | none =>
     rw[hmi] at h;simp only[Option.map_none,SJ,PJ] at h;exact ⟨ms,es,rfl,h.1,h.2,hm⟩
   | some x =>
     rw[hmi] at h;simp only[Option.map_some] at h;have hx:=hm x (List.mem_of_getElem? hmi);have hu:di kf L x.n.nm=some (x.t.outs,x.t.u.p):=hf x.t hx;rw[hu] at h;simp only[List.length_map] at h
     split at h
     ·cases h
     rename_i wn1 en1 h1;obtain ⟨hle,h⟩:=aT h
     have e1:(ms.map WkM.n).set i { x.n with first:=ms.length }=(ms.set i { x with first:=ms.length }).map WkM.n:=by
      rw[List.map_set]
     rw[e1] at h1;have h1' : Fv (T.map TE.nm) i ms.length x.fut (x.t.u.sp.map SpF.q) 0 ((ms.set i { x with first:=ms.length }).map WkM.n) (es.map EgF.n)=some (wn1,en1):=h1
     obtain ⟨ms1,es1,k1,k2,k3⟩:=CT i ms.length x.fut x.t.u.sp 0 _ _ _ _ h1';simp only[k1];have hl1:wn1.length=ms1.length:=by rw[<-k2,List.length_map]
     have hl2:en1.length=es1.length:=by rw[<-k3,List.length_map]
     rw[hl1,hl2] at hle;rw[hle];simp only[cond_true];rw[<-k2,<-k3] at h;refine pT hf n (i+1) ms1 es1 wn en (λm hm'=>?_) h
     have key2:∀ (first:Nat) (l:List SpF) (k:Nat) (ms ms' : List WkM) (es es' : List EgF),(∀ m∈ms,m.t∈T)->cP T i first x.fut l k ms es=some (ms',es')->∀ m∈ms',m.t∈T:=by
      intro first l
      induction l with
      | nil =>
        intro k ms ms' es es' h1 h2;simp only[cP,SJ,PJ] at h2;rw[<-h2.1];exact h1
      | cons s l ihl =>
        intro k ms ms' es es' h1 h2;simp only[cP] at h2
        split at h2
        ·cases h2
        rename_i t ht
        split at h2
        ·cases h2
        refine ihl _ _ _ _ _ (λm hm=>?_) h2
        rcases List.mem_append.1 hm with hm|hm
        ·exact h1 m hm
        ·simp only[List.mem_singleton] at hm;rw[hm];exact (gM ht).2.2
     refine key2 _ _ _ _ _ _ _ (λm hm''=>?_) k1 m hm'
     rcases List.mem_or_eq_of_mem_set hm'' with h|h
     ·exact hm m h
     ·rw[h];exact hx
theorem B3 (hf:∀ t∈T,di kf L t.nm=some (t.outs,t.u.p)){ms:List WkM}(hm:∀ m∈ms,m.t∈T)(first:Nat)(fut:List Nat)(i:Nat):∀ (l:List WtF) (k:Nat) (es:List EgF) (en:List EgN),Kc kf L (ms.map WkM.n) first fut i (l.map WtF.q) k (es.map EgF.n)=some en ->
  ∃ es',i5 ms first fut i l k es=some es'/\es'.map EgF.n=en
 | [],k,es,en,h=>by
   simp only[List.map_nil,Kc,SJ] at h;exact ⟨es,rfl,h⟩
 | x::l,k,es,en,h=>by
   simp only[List.map_cons,Kc,List.getElem?_map] at h;simp only[i5];have e0:(x.q.sp,x.q.pa)=(x.sp,x.pa):=rfl;rw[e0] at h;cases ho:jB first fut (x.sp,x.pa) with
   | none=>rw[ho] at h;cases h
   | some fr =>
     rw[ho] at h;simp only[] at h ⊢;cases hmi:ms[fr]? with
     | none=>rw[hmi] at h;cases h
     | some y =>
       rw[hmi] at h;simp only[Option.map_some] at h ⊢;have hu:di kf L y.n.nm=some (y.t.outs,y.t.u.p):=hf y.t (hm y (List.mem_of_getElem? hmi));rw[hu] at h;cases hout:y.t.outs with
       | nil=>rw[hout] at h;cases h
       | cons ov r =>
         rw[hout] at h;simp only[List.getElem?_cons_zero] at h ⊢;have e1:(es++[(⟨fr,i,false,⟨false,0,ov⟩,k,x.ah,x.ln⟩ : EgF)]).map EgF.n=es.map EgF.n++[⟨fr,i,false,⟨false,0,ov⟩,k,x.q.ah⟩]:=by rw[List.map_append];rfl
         rw[<-e1] at h;exact B3 hf hm first fut i l (k+1) _ _ h
theorem qi (hf:∀ t∈T,di kf L t.nm=some (t.outs,t.u.p)){ms:List WkM}(hm:∀ m∈ms,m.t∈T):∀ (l:List WkM) (i:Nat) (es:List EgF) (en:List EgN),(∀ m∈l,m.t∈T)->ew kf L (ms.map WkM.n) (l.map WkM.n) i (es.map EgF.n)=some en ->
  ∃ es',f7 ms l i es=some es'/\es'.map EgF.n=en
 | [],i,es,en,hl,h=>by
   simp only[List.map_nil,ew,SJ] at h;exact ⟨es,rfl,h⟩
 | x::l,i,es,en,hl,h=>by
   simp only[List.map_cons,ew] at h;have hu:di kf L x.n.nm=some (x.t.outs,x.t.u.p):=hf x.t (hl x (List.mem_cons_self ..));rw[hu] at h;simp only[] at h
   split at h
   ·cases h
   rename_i en1 h1;obtain ⟨hle,h⟩:=aT h;obtain ⟨es1,k1,k2⟩:=B3 hf hm x.first x.fut i x.t.u.ws 0 es en1 h1
   have hl2:en1.length=es1.length:=by rw[<-k2,List.length_map]
   rw[hl2] at hle;rw[<-k2] at h;obtain ⟨es2,k3,k4⟩:=qi hf hm l (i+1) es1 en (λm h=>hl m (List.mem_cons_of_mem _ h)) h
   refine ⟨es2,?_,k4⟩;have hle' : (Nat.ble es1.length 90000&&Nat.ble x.first 100000)=true:=hle
   simp only[f7,k1,hle',cond_true];exact k3
end
theorem YA (L:List AV)(a b:Nat):ao CC 98 [(0,.sl 6 L .dead),(1,.map a),(2,.map b)]=some (.agg [.sl 6 L .dead,.map a,.map b]):=by
 have:∀ (L:List AV) (a b:Nat),ao CC 98 [(0,.sl 6 L .dead),(1,.map a),(2,.map b)]=some (.agg [.sl 6 L .dead,.map a,.map b]):=λ_ _ _=>by kernel_rfl
 exact this _ _ _
theorem Ut (a:Nat):ao CC 104 [(2,.int .i64 (a:Int))]=some (.agg [.nils,.nils,.int .i64 (a:Int)]):=by
 have:∀ x:Int,ao CC 104 [(2,.int .i64 x)]=some (.agg [.nils,.nils,.int .i64 x]):=λ_=>by kernel_rfl
 exact this _
theorem Uv (L:List NdR)(a b K:Nat)(ha:a<K)(hb:b<K):dV (.agg [.sl 6 (L.map NdR.v) .dead,.map a,.map b]) K=some (.cells [.sl 6 (L.map NdR.v) .dead,.map a,.map b],(.ptr · 0)):=by
 have h1:dp (L.map NdR.v)=true:=by
  induction L with
  | nil=>rfl
  | cons d l ih=>rw[List.map_cons,br,ih,gR];rfl
 have h2:=de h1 K;have hl:AV.low K (.agg [.sl 6 (L.map NdR.v) .dead,.map a,.map b])=true:=by simp[AV.low,aG,Lin.low,h2,ha,hb]
 have ho:(AV.agg [.sl 6 (L.map NdR.v) .dead,.map a,.map b]).cells.all AV.one=true:=rfl;unfold dV;rw[if_pos ⟨ho,hl⟩];rfl
theorem V5 (x:Int)(K:Nat):dV (.agg [.nils,.nils,.int .i64 x]) K=some (.cells [.nils,.nils,.int .i64 x],(.ptr · 0)):=by
 have hl:AV.low K (.agg [.nils,.nils,.int .i64 x])=true:=by simp[AV.low,aG]
 have ho:(AV.agg [.nils,.nils,.int .i64 x]).cells.all AV.one=true:=rfl;unfold dV;rw[if_pos ⟨ho,hl⟩];rfl
theorem Ig {uo off b k r n:Nat}{H:Heap}{cs:List AV}(hr:r<aa H)(hu:uo<r)(hcs:ae H uo=some (.cells cs))(ho:off+1<=aa cs)(hb:b<=uo) :
  ar 1 (.ptr uo off) (.rsl r 0 n n k) ⟨H,b⟩=some ⟨am H uo (.cells (db cs off [.rsl r 0 n n k])),b⟩:=by
 have low:∀ L,AV.low L (.rsl r 0 n n k)=decide (r<L):=λL=>by simp[AV.low]
 have e1:eK (aa H) (.rsl r 0 n n k)=true:=by rw[bY,low];simpa using hr
 have e2:eK (uo+1) (.rsl r 0 n n k)=false:=by rw[bY,low];simp;omega
 have e3:Nat.ble (Nat.add off 1) (aa cs)=true:=by rw[dW];simpa using ho
 have e4:min b uo=b:=Nat.min_eq_left hb;have e5:Nat.beq (aa [AV.rsl r 0 n n k]) 1=true:=rfl;have e6:List.all [AV.rsl r 0 n n k] AV.one=true:=rfl;have e7:AV.cells (.rsl r 0 n n k)=[.rsl r 0 n n k]:=rfl;simp only[ar,hcs,eM,e1,e3,e5,e6,e7,Bool.and_self,cond_true,gV,e2,cond_false,e4]
section
variable {M:Memo}
theorem EB (m:SpM M){kf n:Nat}(hk:kf<=90000){L:List NdR}(hL:L.length<=90000)(hK:∀ d∈L,NdK d){d:NdR}{L' : List NdR}(hLd:L=d::L'){wn:List WkN}{en:List EgN}(hm:lm kf n L=some (wn,en))(H:Heap) :
  ∃ H' po ws W es E,orc CC M 19 [.sl 6 (L.map NdR.v) .dead] H=some (.ret (.tuple [.ptr po 0,.agg [.int .i64 0,.int .i64 0]]) H' (aa H))/\Pl po H' ws W es E (d.p:Int)/\ws.length=wn.length/\es.map EgF.n=en/\aa H<po/\aa H<=aa H'/\(∀ q,q<aa H->ae H' q=ae H q):=by
 unfold lm at hm;rw[hLd] at hm;simp only[] at hm;rw[<-hLd] at hm
 split at hm
 ·cases hm
 rename_i ns hadd;obtain ⟨hmem,hm⟩:=aT hm
 split at hm
 ·cases hm
 rename_i ws0 es0 hsp
 split at hm
 ·cases hm
 rename_i es1 hwa;simp only[SJ,PJ] at hm;obtain ⟨rfl,rfl⟩:=hm;have hi0:aL 6 (.sl 6 (L.map NdR.v) .dead) (.int .i64 (0:Int))=some (.iptr (zS d.s d.p d.ins d.outs d.vars (oZ d.eqs))):=ul (i:=0) .dead (by rw[hLd];rfl)
 let us:Nat:=aa H+3
 let H1:Heap:=H++[cz0,.map [],.map [],.cells [.sl 6 (L.map NdR.v) .dead,.map (aa H+1),.map (aa H+2)]]
 have hl1:aa H1=aa H+4:=by show aa (H++_)=_;rw[az];rfl
 have A1:UA kf (aa H+3) (aa H+1) (aa H+2) L H1 [] :=
  ⟨⟨by show ae (H++_) _=_;rw[aW];rfl,by show ae (H++_) _=_;rw[aW];rfl,by show ae (H++_) _=_;rw[aW];rfl,⟨by omega,by omega,by omega⟩,λt ht=>(by cases ht)⟩,λt ht=>(by cases ht),⟨by omega,by omega⟩,λt ht=>(by cases ht)⟩
 obtain ⟨H2,T,e2,hR2,he2,A2,hT,_,hl2,hf2⟩:=Ed (us:=aa H+3) (um:=aa H+1) (om:=aa H+2) m hk hL hK n d.s ns H1 [] A1 hadd;have hFa:=Di m hk A2 hL;rw[hl1] at hl2;rw[<-hT] at hmem;obtain ⟨t0,ht0⟩:=jj hmem;obtain ⟨hu1,hu2,ht0m⟩:=gM ht0;have ht0n:=mV ht0;obtain ⟨c1,c2,c3⟩:=A2.U.un t0 ht0m;rw[<-hT] at hsp
 let m0:WkM:=⟨t0,[],0⟩
 have hm0n:[(⟨d.s,[],0⟩ : WkN)]=[m0].map WkM.n:=by
  show _=[(⟨t0.nm,[],0⟩ : WkN)];rw[ht0n]
 have hnil:([]:List EgN)=([]:List EgF).map EgF.n:=rfl;rw[hm0n,hnil] at hsp
 have hm0T:∀ m∈[m0],m.t∈T:=λm hm=>by
  simp only[List.mem_singleton] at hm;rw[hm];exact ht0m
 obtain ⟨ms,esF,k1,k2,k3,kT⟩:=pT A2.f 40 0 [m0] [] ws0 es0 hm0T hsp;rw[<-k2,<-k3] at hwa;obtain ⟨esW,k4,k5⟩:=qi A2.f kT ms 0 esF es1 kT hwa
 have hTok:Yx T:=λt ht=>by
  obtain ⟨g1,g2,g3,g4,g5,g6,_⟩:=kx (jT (A2.f t ht)).2.2;refine ⟨by simpa [UN.p] using g4,λs hs=>g5 s.q (by simp only[UN.p,List.mem_map];exact ⟨s,hs,rfl⟩),by simpa [UN.p] using g6⟩
 let B:Nat:=aa H2
 let po:Nat:=aa H2+1
 let w0:WkF:=⟨t0.uo,t0.u,t0.ord,[],.lit,0⟩
 let H5:Heap:=H2++[cz0,.cells [.nils,.nils,.int .i64 (d.p:Int)],.cells [.ptr t0.uo 0,t0.ord,.nils,.int .i64 0]]
 have hl5:aa H5=aa H2+3:=by show aa (H2++_)=_;rw[az];rfl
 have g5p:ae H5 (aa H2+1)=some (.cells [.nils,.nils,.int .i64 (d.p:Int)]):=by show ae (H2++_) _=_;rw[aW];rfl
 have g5w:ae H5 (aa H2+2)=some (.cells [.ptr t0.uo 0,t0.ord,.nils,.int .i64 0]):=by show ae (H2++_) _=_;rw[aW];rfl
 have hst:=Ig (uo:=aa H2+1) (off:=0) (b:=aa H) (k:=4) (r:=aa H2+2) (n:=1) (H:=H5) (by omega) (by omega) g5p (by rw[ai];simp) (by omega)
 have hp3:db [AV.nils,.nils,.int .i64 (d.p:Int)] 0 [.rsl (aa H2+2) 0 1 1 4]=[.rsl (aa H2+2) 0 1 1 4,.nils,.int .i64 (d.p:Int)]:=rfl;rw[hp3] at hst;have hl6:aa (am H5 (aa H2+1) (.cells [.rsl (aa H2+2) 0 1 1 4,.nils,.int .i64 (d.p:Int)]))=aa H2+3:=by rw[ay,hl5]
 have g6p:=aF g5p (.cells [.rsl (aa H2+2) 0 1 1 4,.nils,.int .i64 (d.p:Int)]);have hf6:∀ q,q≠aa H2+1->ae (am H5 (aa H2+1) (.cells [.rsl (aa H2+2) 0 1 1 4,.nils,.int .i64 (d.p:Int)])) q=ae H5 q:=λq hq=>af hq _
 generalize hH6:am H5 (aa H2+1) (.cells [.rsl (aa H2+2) 0 1 1 4,.nils,.int .i64 (d.p:Int)])=H6 at *
 have hf62:∀ q,q<aa H2->ae H6 q=ae H2 q:=λq hq=>by
  rw[hf6 q (by omega)];show ae (H2++_) _=_;exact aU hq
 have I6:PlS (aa H2) (aa H2+1) (aa H+3) (aa H+1) (aa H+2) L T (d.p:Int) H6 H6 [m0] [w0] (.rsl (aa H2+2) 0 1 1 4) [] .nils:=by
  have htl:=c1.lt;refine ⟨⟨g6p,.inr ⟨aa H2+2,1,rfl,by omega,by rw[hf6 _ (by omega),g5w];rfl,rfl,?_,?_,by omega⟩,.inl ⟨rfl,rfl⟩,λq hq=>(by cases hq)⟩,rfl,λx hx=>?_,A2.U.to (by omega) hf62,λq hq=>(by simp only[nmA,List.mem_singleton] at hq;omega),λq hq=>(by cases hq),hm0T,λ_ _=>rfl,Nat.le_refl _⟩
  ·simp only[w0,List.flatMap_cons,List.flatMap_nil,List.append_nil,List.all_cons,List.all_nil,gu c2,fQ,Bool.and_true];rfl
  ·have:t0.uo<aa H6:=by omega
   simp[w0,aG,AV.low,eI c2,this,lV]
  ·simp only[List.mem_singleton] at hx;rw[hx];rfl
 have hfr:∀ q,q<aa H->ae H2 q=ae H q:=λq hq=>by
  rw[hf2 q (by omega) (by omega) (by omega)];show ae (H++_) _=_;exact aU hq
 have g0:ae H2 (aa H)=some (.cells [.int .i64 0,.int .i64 0]):=by
  rw[hf2 _ (by omega) (by omega) (by omega)];show ae (H++_) _=_;rw[an];rfl
 obtain ⟨r1,hr1,hr7,s1⟩ : ∃ r1:RG,(r1.a.a.d=.ptr (aa H) 0/\r1.a.a.e=.ptr (aa H+3) 0/\r1.a.a.g=.ptr (aa H2+1) 0)/\r1.a.a.h=.int .i64 ((0:Nat):Int) /\
   ac (yD (orc CC M)) (ac (Ai (orc CC M)) (ac (y8 (orc CC M)) (ac (ac (xD (orc CC M)) (ac (zn (orc CC M)) (aA (.t 24) (ac (DJ (orc CC M)) retZ) skipZ))) (ac (xH (orc CC M)) (ac (z7 (orc CC M)) (yj (orc CC M))))))) (envOf [.sl 6 (L.map NdR.v) .dead] 0 env0) [] ⟨H,aa H⟩=some (.normal,r1,[],⟨H6,aa H⟩):=by
  have e0:(envOf [.sl 6 (L.map NdR.v) .dead] 0 env0).a.a.a=.sl 6 (L.map NdR.v) .dead:=rfl;generalize envOf [.sl 6 (L.map NdR.v) .dead] 0 env0=R at e0;have h98:=YA (L.map NdR.v) (aa H+1) (aa H+2);have hb98:=Uv L (aa H+1) (aa H+2) (H++[AObj.cells [.int .i64 0,.int .i64 0],.map [],.map []]).length (by rw[<-ai,az];simp only[bq,cd];omega) (by rw[<-ai,az];simp only[bq,cd];omega)
  have hfa0:aC 0 (.iptr (zS d.s d.p d.ins d.outs d.vars (oZ d.eqs)))=some (.iptr (zS d.s d.p d.ins d.outs d.vars (oZ d.eqs))):=rfl;obtain ⟨xs1,hfa1,hld1⟩ : ∃ xs,aC 1 (.iptr (zS d.s d.p d.ins d.outs d.vars (oZ d.eqs)))=some (.iptr xs)/\∀ h:Heap,aw none (.iptr xs) h=some (.int .i64 (d.p:Int)):=⟨_,rfl,λ_=>rfl⟩
  have hld0:∀ h:Heap,aw none (.iptr (zS d.s d.p d.ins d.outs d.vars (oZ d.eqs))) h=some (.str d.s):=λ_=>rfl
  have hR2' : orc CC M 38 [.ptr (aa H+3) 0,.str d.s] (H++[AObj.cells [.int .i64 0,.int .i64 0],.map [],.map [],.cells [.sl 6 (L.map NdR.v) .dead,.map (aa H+1),.map (aa H+2)]])=some (.ret Abs.undef H2 e2):=hR2;have hm1:min (aa H) e2=aa H:=by omega
  have hm2:min (aa H) (aa H2)=aa H:=by omega
  have h104:=Ut d.p;have hb104:=λK=>V5 (d.p:Int) K
  have h106:=Na t0.uo t0.ord c2;have gus:∀ K,ae (H2++K) (aa H+3)=some (.cells [.sl 6 (L.map NdR.v) .dead,.map (aa H+1),.map (aa H+2)]):=λK=>au A2.U.gus K
  have hlk1:∀ K,aV CC 95 (.map (aa H+1)) (.str d.s) false (H2++K)=some (.ptr t0.uo 0):=λK=>HA hu1 (au A2.U.gum K)
  have hlk2:∀ K,aV CC 96 (.map (aa H+2)) (.str d.s) false (H2++K)=some t0.ord:=λK=>Gj hu2 (au A2.U.gom K)
  have hlm:=EH t0.uo t0.ord .nils c2 (.inl rfl) 0 (H2++[AObj.cells [.int .i64 0,.int .i64 0],.cells [.nils,.nils,.int .i64 (d.p:Int)],.gone]).length (by rw[<-ai,az];have:=c1.lt;omega) rfl
  have hlm':=EH t0.uo t0.ord .nils c2 (.inl rfl) 0 (H2++[AObj.cells [.int .i64 0,.int .i64 0],.cells [.nils,.nils,.int .i64 (d.p:Int)]]).length (by rw[<-ai,az];have:=c1.lt;omega) rfl
  have gz0:∀ K,ae (H2++(AObj.cells [.int .i64 0,.int .i64 0])::K) (aa H2)=some (.cells [.int .i64 0,.int .i64 0]):=λK=>by rw[an];rfl
  have sz0:∀ c K,am (H2++(AObj.cells [.int .i64 0,.int .i64 0])::K) (aa H2) c=H2++c::K:=λc K=>by rw[bJ];rfl
  have gp0:∀ a c K,ae (H2++a::c::K) (aa H2+1)=some c:=λa c K=>by rw[aW];rfl
  have sg0:∀ a b c,am (H2++[a,b,AObj.gone]) (aa H2+2) c=H2++[a,b,c]:=λa b c=>by rw[dT];rfl
  have hst' : ar 1 (.ptr (aa H2+1) 0) (.rsl (aa H2+2) 0 1 1 4) ⟨H2++[AObj.cells [.int .i64 0,.int .i64 0],.cells [.nils,.nils,.int .i64 (d.p:Int)],.cells [.ptr t0.uo 0,t0.ord,.nils,.int .i64 0]],aa H⟩=some ⟨H6,aa H⟩:=hst;have hst2:=hst';unfold ar at hst2;simp only[gp0,AV.cells] at hst2;have hnz:decide ((0:Int)=0)=true:=rfl;simp only[yD,Ai,y8,xD,zn,xH,z7,yj,SIM,ST0,e0,h98,hb98,hi0,hfa0,hfa1,hld0,hld1,hR2',hm1,hFa,hm2,h104,hb104,h106,gus,hlk1,hlk2,hlm,hlm',gz0,sz0,gp0,sg0,hst',hst2,dA,AV.cells,hnz,ff,List.append_assoc,List.cons_append,List.nil_append,EXS,Nat.reduceAdd,Nat.reduceLeDiff];exact ⟨_,⟨rfl,rfl,rfl⟩,rfl,rfl⟩
 have b0:∀ (i:Nat) (b:CZ) (r:RG) (s:St),aH i (aK b) r [] s=c9 i (ax b 100000 r [] s):=λ_ _ _ _=>rfl
 obtain ⟨r2,Hc,ws1,W1,E1,s2,I1,hr2⟩:=tq m (B:=aa H2) (po:=aa H2+1) (by omega) (H:=H6) hTok (f:=.ptr (aa H) 0) (e:=aa H) (by omega) 40 0 100000 (by omega) H6 [m0] [w0] _ [] .nils I6 (by simp) (by omega) k1 r1 hr1 hr7
 obtain ⟨g3,g4,g6⟩:=hr2
 have hmsl:ms.length<=30:=by
  have key:∀ (n i:Nat) (a b:List WkM) (x y:List EgF),a.length<=30->eB T n i a x=some (b,y)->b.length<=30:=by
   intro n
   induction n with
   | zero=>intro i a b x y h h2;cases h2
   | succ n ih =>
     intro i a b x y h h2;simp only[eB] at h2
     split at h2
     ·simp only[SJ,PJ] at h2;rw[<-h2.1];exact h
     ·split at h2
      ·cases h2
      ·obtain ⟨hle,h2⟩:=aT h2;rw[Bool.and_eq_true] at hle;exact ih _ _ _ _ _ (Nat.le_of_ble_eq_true hle.1) h2
  exact key _ _ _ _ _ _ (by simp) k1
 have hob:=I1.P.ob;have hwl:=I1.wlen
 obtain ⟨r3,hr3,hk3,s3⟩ : ∃ r3:RG,(r3.a.a.d=.ptr (aa H) 0/\r3.a.a.g=.ptr (aa H2+1) 0)/\(r3.b.c.d=.int .i64 (ms.length:Int)/\r3.b.c.e=.int .i64 ((0:Nat):Int))/\q9 (orc CC M) r2 [] ⟨Hc,aa H⟩=some (.normal,r3,[],⟨Hc,aa H⟩):=by
  simp only[q9,SIM,ST2,g6,hob,hwl,Nat.reduceAdd,Nat.reduceLeDiff];exact ⟨_,⟨by first|rfl|exact g3,by first|rfl|exact g6⟩,⟨rfl,rfl⟩,rfl⟩
 obtain ⟨r4,Hd,ws2,W2,E2,s4,I2,hr4⟩:=tc m (B:=aa H2) (po:=aa H2+1) (by omega) (H:=H6) hTok (f:=.ptr (aa H) 0) (e:=aa H) (by omega) hmsl ms.length 0 (by omega) 100000 (by omega) Hc ws1 W1 esF E1 I1 (by simpa using k4) r3 hr3 hk3
 obtain ⟨g3',g6'⟩:=hr4
 have hz:z19.sh (orc CC M) (envOf [.sl 6 (L.map NdR.v) .dead] 0 env0) [] ⟨H,aa H⟩=ac (rM (orc CC M)) retZ r4 [] ⟨Hd,aa H⟩:=by
  have:∀ x d s,z19.sh (orc CC M) x d s=ac (ac (yD (orc CC M)) (ac (Ai (orc CC M)) (ac (y8 (orc CC M)) (ac (ac (xD (orc CC M)) (ac (zn (orc CC M)) (aA (.t 24) (ac (DJ (orc CC M)) retZ) skipZ))) (ac (xH (orc CC M)) (ac (z7 (orc CC M)) (yj (orc CC M)))))))) (ac (aH 0 (aK (mZ (orc CC M)))) (ac (q9 (orc CC M)) (ac (aH 2 (aK (oz (orc CC M)))) (ac (rM (orc CC M)) retZ)))) x d s:=λx d s=>by
   simp only[z19,eH]
  rw[this,bv,s1,bk,bv,b0,s2,ck,bk,bv,s3,bk,bv,b0,s4,ck,bk]
 have hlo:∀ q,q<aa H2->ae Hd q=ae H2 q:=λq hq=>by rw[I2.fr q hq,hf62 q hq]
 have gd0:ae Hd (aa H)=some (.cells [.int .i64 0,.int .i64 0]):=by rw[hlo _ (by omega),g0]
 have hlen2:=I2.len;have hsE:∀ q,q≠aa H->ae (am Hd (aa H) (.cells [.int .i64 0,.int .i64 0])) q=ae Hd q:=λq hq=>af hq _
 have hP2:Pl (aa H2+1) (am Hd (aa H) (.cells [.int .i64 0,.int .i64 0])) ws2 W2 esW E2 (d.p:Int):=I2.P.to (by rw[ay];exact Nat.le_refl _) (λq hq h=>hsE q (by
  rcases h with rfl|h|h
  ·omega
  ·have:=I2.nW q h;omega
  ·have:=I2.nE q h;omega))
 refine ⟨am Hd (aa H) (.cells [.int .i64 0,.int .i64 0]),aa H2+1,ws2,W2,esW,E2,aJ (z:=z19) (m.h19 _) (by kernel_rfl) rfl ?_,hP2,?_,k5,by omega,by rw[ay];omega,λq hq=>by rw[hsE q (by omega),hlo q (by omega),hfr q hq]⟩
 ·rw[hz];have hgc:=λhp=>LJ (keep:=CC.keep 19) (b:=aa H) (n:=aa H2+1) (x:=0) (y:=0) (hp:=hp) (by omega)
  have b2:ao CC 29 []=some (.agg [.int .i64 0,.int .i64 0]):=by kernel_rfl
  have gds:=aF gd0 (.cells [.int .i64 0,.int .i64 0]);simp only[rM,z19,SIM,ST0,ST1,ST2,g3',g6',b2,gd0,gds,hgc,Nat.reduceAdd,Nat.reduceLeDiff]
 ·have h1:ws2.length=ms.length:=by have:=congrArg List.length I2.R;simpa using this
  rw[h1,<-k2,List.length_map]
end
end Go.Proofs
