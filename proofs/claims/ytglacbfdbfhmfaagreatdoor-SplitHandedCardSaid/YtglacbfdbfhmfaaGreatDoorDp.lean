/- a plan with two edges: its depths. Part of the proof of girandolelaw12.SplitHanded. -/
import Derived.Test.YtglacbfdbfhmfaaGreatDoorSp2
import Derived.Test.YtglacbfdbfhmfaaGreatDoorDec
set_option linter.unusedVariables false
set_option linter.unusedSimpArgs false
set_option maxRecDepth 1000000
namespace Go.Proofs
open Go Go.Abs
theorem Gl {uo:Nat}{H:Heap}{V:AV}{l:List EgF}(h:LvI uo H 8 V (l.map EgF.av)){i:Nat}{q:EgF}(hq:l[i]?=some q):aL 8 V (.int .i64 (i:Int))=some (.iptr (o4 q))/\(lV 1 q.lin (q.ah.map gA)).low (aa H)=true:=by
 rcases h with ⟨h0,_⟩|⟨h0,id,g,rfl,hg,hu,hw⟩
 ·simp at h0;rw[h0] at hq;simp at hq
 ·have hgq:(l.map EgF.av)[i]?=some q.av:=by rw[List.getElem?_map,hq];rfl
  refine ⟨bN (by rw[aB,hgq]),?_⟩
  have hm:q.av∈l.map EgF.av:=List.mem_of_getElem? hgq
  have key:∀ xs:List AV,aG (aa H) xs=true->∀ x∈xs,x.low (aa H)=true:=by
   intro xs
   induction xs with
   | nil=>intro _ x hx;cases hx
   | cons a l ih =>
     intro h x hx;simp only[aG,Bool.and_eq_true] at h
     rcases List.mem_cons.1 hx with rfl|hx
     ·exact h.1
     ·exact ih h.2 x hx
  have:=key _ hw _ hm;simp only[AV.low,aG,Bool.and_eq_true] at this;exact this.2.2.2.2.2.2.2.1
theorem Sr.ap {H2 Hc K:Heap}{l:Nat}{L:List Nat}{V O:AV}{R out:List Nat}(S:Sr H2 l Hc L V O R out)(hl2:l<aa H2):Sr H2 l (Hc++K) L V O R out :=
 ⟨λq hq hql=>by rw[aU (by have:=S.len;omega)];exact S.fr q hq hql,au S.gl K,by rw[az];have:=S.len;omega,S.oR.mono (λq hq=>aU (S.oR.lt q hq).2),S.oO.mono (λq hq=>aU (S.oO.lt q hq).2),S.dj⟩
abbrev egZ:AObj:=.cells [.int .i64 0,.int .i64 0,.bool false,.bool false,.int .i64 0,.int .i64 0,.int .i64 0,.nils]
theorem Q3 {Hc:Heap}{q:EgF}(h:(lV 1 q.lin (q.ah.map gA)).low (aa Hc)=true)(ee:Nat):ar 8 (.ptr (aa Hc) 0) (.agg (o4 q)) ⟨Hc++[egZ],ee⟩=some ⟨Hc++[.cells (o4 q)],ee⟩:=by
 refine (jJ (n:=8) (e:=ee) (cs:=[.int .i64 0,.int .i64 0,.bool false,.bool false,.int .i64 0,.int .i64 0,.int .i64 0,.nils]) (b:=aa Hc) (r:=aa Hc) (v:=.agg (o4 q)) (by rw[an];rfl) rfl (by rw[ai];simp) (by simp only[AV.cells,List.all_cons,List.all_nil,fQ,Bool.and_true];rfl) (by simp[AV.low,aG,h]) (Nat.le_refl _)).trans ?_
 rw[bJ];rfl
theorem Xr (lin:Lin)(l:List Int):aO CC 32 (lV 1 lin (l.map gA))=some (.int .i64 (l.length:Int)):=by
 have:=qu (T:=32) (k:=1) (by kernel_rfl) lin (l.map gA)
 rwa [List.length_map] at this
section
variable {M:Memo}{po l m c0 e:Nat}{H H2:Heap}
end
section
variable {M:Memo}{po l m c0 e:Nat}{H H2:Heap}
end
section
variable {M:Memo}{po l m c0 e:Nat}{H H2:Heap}
end
section
variable {M:Memo}
theorem S8 (h20:∀ a,M 20 a=none){po:Nat}{H:Heap}{ws:List WkF}{W:AV}{es:List EgF}{E:AV}{at_:Int}(P:Pl po H ws W es E at_):orc CC M 20 [.ptr po 0] H=some (.ret (.int .i64 (ws.length:Int)) H (aa H)):=by
 refine aJ (z:=z20) (h20 _) (by kernel_rfl) rfl ?_
 have e0:(envOf [.ptr po 0] 0 env0).a.a.a=.ptr po 0:=rfl;generalize envOf [.ptr po 0] 0 env0=R at e0;have hob:=P.ob;obtain ⟨h1,h2,h3⟩:=oc (T:=101) (by kernel_rfl)
 have hl:=ny ws
 have hln:aO CC 101 W=some (.int .i64 (ws.length:Int)):=by
  rcases P.w with ⟨h0,rfl⟩|⟨id,n,rfl,h0,h4,hln,_⟩
  ·rw[h0] at hl;simp only[List.length_nil] at hl;rw[h2]
   congr 3;omega
  ·rw[hl] at hln;rw[h3]
   congr 3;omega
 have hgc:=dC (k:=CC.keep 20) (b:=aa H) (v:=.int .i64 (ws.length:Int)) (hp:=H) rfl;have htk:bg (aa H) H=H:=by have:=bP H [];rwa [List.append_nil] at this
 simp only[z20,LR,L9,SIM,ST0,e0,hob,hln,hgc,htk,Nat.reduceAdd,Nat.reduceLeDiff]
end
section
variable {M:Memo}
end
theorem mut21:CC.mutT 21 22=true:=by kernel_rfl
theorem AR {b:Nat}{a:Int}{H:Heap}(hb:ae H b=some (.cells [.int .i64 a]))(e:Nat):aq CC 21 22 .nils (.rsl b 0 1 1 1) ⟨H,e⟩=some (.rsl (aa H) 0 1 1 1,⟨H++[.cells [.int .i64 a]],e⟩):=by
 obtain ⟨e',i,z,s1,h1,hz,h2,⟨h3,h4⟩,h5⟩:=se22;rw[aB] at hb
 have he:aY 1 (.rsl b 0 1 1 1) H=some [.int .i64 a]:=by
  simp only[aY,hb];rfl
 have hne:¬ (i.size=0\/i.bytes=0\/z.cells.length≠i.size\/[AV.int .i64 a].all (bi i.size)=false\/2 ^ 16<i.bytes):=by
  rw[h2,h5];simp[AV.cells,bi,AV.one];omega
 rw[h2] at hne;have he0:aY 1 .nils H=some []:=rfl;simp only[aq,s1,h1,hz,h2,he,he0,mut21,ai];rw[if_neg hne];simp[aG,AV.low,ak,AV.cells]
theorem BB {b id:Nat}{a x:Int}{H:Heap}(hb:ae H b=some (.cells [.int .i64 a]))(hi:ae H id=some (.cells [.int .i64 x]))(e:Nat):aq CC 21 22 (.rsl id 0 1 1 1) (.rsl b 0 1 1 1) ⟨H,e⟩=some (.rsl (aa H) 0 2 2 1,⟨am H id .gone++[.cells [.int .i64 x,.int .i64 a]],e⟩):=by
 obtain ⟨e',i,z,s1,h1,hz,h2,⟨h3,h4⟩,h5⟩:=se22;rw[aB] at hb hi
 have he:aY 1 (.rsl b 0 1 1 1) H=some [.int .i64 a]:=by
  simp only[aY,hb];rfl
 have he2:aY 1 (.rsl id 0 1 1 1) H=some [.int .i64 x]:=by
  simp only[aY,hi];rfl
 have hne:¬ (i.size=0\/i.bytes=0\/z.cells.length≠i.size\/[AV.int .i64 a].all (bi i.size)=false\/2 ^ 16<i.bytes):=by
  rw[h2,h5];simp[AV.cells,bi,AV.one];omega
 rw[h2] at hne;simp only[aq,s1,h1,hz,h2,he,he2,mut21,ai,aR];rw[if_neg hne];simp[aG,AV.low,ak,AV.cells]
theorem Pm (a:Int)(L:Nat):iz CC 22 1 [(0,.int .i64 a)] L=some (.cells [.int .i64 a],λr=>.rsl r 0 1 1 1):=by kernel_rfl
section
variable {M:Memo}
theorem S6 (h85:∀ a,M 85 a=none){H:Heap}{d:Nat}{x y:Int}(hL:∀ G:Heap,orc CC M 91 [.int .i64 y,.int .i64 x] G=some (.ret (.bool false) G (aa G)))(hd:ae H d=some (.cells [.int .i64 x,.int .i64 y])):orc CC M 85 [.rsl d 0 2 2 1,.int .i64 0,.int .i64 2] H=some (.ret Abs.undef H (aa H)):=by
 refine aJ (z:=z85) (h85 _) (by kernel_rfl) rfl ?_
 have e0:(envOf [.rsl d 0 2 2 1,.int .i64 0,.int .i64 2] 0 env0).a.a.a=.rsl d 0 2 2 1:=rfl;have e1:(envOf [.rsl d 0 2 2 1,.int .i64 0,.int .i64 2] 0 env0).a.a.b=.int .i64 0:=rfl;have e2:(envOf [.rsl d 0 2 2 1,.int .i64 0,.int .i64 2] 0 env0).a.a.c=.int .i64 2:=rfl;generalize envOf [.rsl d 0 2 2 1,.int .i64 0,.int .i64 2] 0 env0=R at e0 e1 e2;have j0:aL 1 (.rsl d 0 2 2 1) (.int .i64 0)=some (.ptr d 0):=by simp[aL,cC]
 have j1:aL 1 (.rsl d 0 2 2 1) (.int .i64 1)=some (.ptr d 1):=by simp[aL,cC]
 have a0:bR 0 1=1:=by decide
 have a1:bR 1 1=2:=by decide
 have s1:fR 1 1=0:=by decide
 have c1:decide ((1:Int)<2)=true:=by decide
 have c2:decide ((2:Int)<2)=false:=by decide
 have c3:decide ((0:Int)<1)=true:=by decide
 have g1:ae [AV.int .i64 x,.int .i64 y] 1=some (.int .i64 y):=rfl;have g0:ae [AV.int .i64 x,.int .i64 y] 0=some (.int .i64 x):=rfl;have hgc:=λhp=>dL (keep:=CC.keep 85) (base:=aa H) (e:=aa H) (v:=Abs.undef) (hp:=hp)
 simp only[z85,K7,K3,Mv,Lt,Nw,NE,Nt,Np,LW,X5,SIM,ST0,ST1,e0,e1,e2,j0,j1,a0,a1,s1,c1,c2,c3,hd,g0,g1,hL,Nat.min_self,Nat.reduceAdd,Nat.reduceLeDiff]
theorem Qi (h124:∀ a,M 124 a=none)(x:Int)(H:Heap):orc CC M 124 [.int .i64 x] H=some (.ret (.bool false) H (aa H)):=by
 refine aJ (z:=z124) (h124 _) (by kernel_rfl) rfl ?_
 have e0:(envOf [.int .i64 x] 0 env0).a.a.a=.int .i64 x:=rfl;generalize envOf [.int .i64 x] 0 env0=R at e0;have c:decide (x=x)=true:=by simp
 have hgc:=λhp=>dC (k:=CC.keep 124) (b:=aa H) (v:=.bool false) (hp:=hp) rfl
 have ht:bg (aa H) H=H:=by rw[bU,ai,List.take_length]
 simp only[z124,Dx,Gn,SIM,ST0,e0,c,Bool.not_true,hgc,ht,Nat.reduceAdd,Nat.reduceLeDiff]
theorem J5 (h91:∀ a,M 91 a=none)(h124:∀ a,M 124 a=none){x y:Int}(h:x<=y)(H:Heap):orc CC M 91 [.int .i64 y,.int .i64 x] H=some (.ret (.bool false) H (aa H)):=by
 refine aJ (z:=z91) (h91 _) (by kernel_rfl) rfl ?_
 have e0:(envOf [.int .i64 y,.int .i64 x] 0 env0).a.a.a=.int .i64 y:=rfl;have e1:(envOf [.int .i64 y,.int .i64 x] 0 env0).a.a.b=.int .i64 x:=rfl;generalize envOf [.int .i64 y,.int .i64 x] 0 env0=R at e0 e1;have c:decide (y<x)=false:=by rw[decide_eq_false_iff_not];omega
 have hn:=Qi h124 y;have hgc:=λhp=>dC (k:=CC.keep 91) (b:=aa H) (v:=.bool false) (hp:=hp) rfl
 have ht:bg (aa H) H=H:=by rw[bU,ai,List.take_length]
 simp only[z91,My,Le,SIM,ST0,e0,e1,hn,c,Nat.min_self,hgc,ht,Nat.reduceAdd,Nat.reduceLeDiff]
theorem SK (h64:∀ a,M 64 a=none)(h85:∀ a,M 85 a=none)(h91:∀ a,M 91 a=none)(h124:∀ a,M 124 a=none){H:Heap}{d:Nat}{x y:Int}(hxy:x<=y)(hd:ae H d=some (.cells [.int .i64 x,.int .i64 y]))(l:AV):orc CC M 64 [.rsl d 0 2 2 1,.int .i64 0,.int .i64 2,l] H=some (.ret Abs.undef H (aa H)):=by
 refine aJ (z:=z64) (h64 _) (by kernel_rfl) rfl ?_
 have e0:(envOf [.rsl d 0 2 2 1,.int .i64 0,.int .i64 2,l] 0 env0).a.a.a=.rsl d 0 2 2 1:=rfl;have e1:(envOf [.rsl d 0 2 2 1,.int .i64 0,.int .i64 2,l] 0 env0).a.a.b=.int .i64 0:=rfl;have e2:(envOf [.rsl d 0 2 2 1,.int .i64 0,.int .i64 2,l] 0 env0).a.a.c=.int .i64 2:=rfl;generalize envOf [.rsl d 0 2 2 1,.int .i64 0,.int .i64 2,l] 0 env0=R at e0 e1 e2;have s1:fR 2 0=2:=by decide
 have c1:decide ((2:Int)<=12)=true:=by decide
 have hi:=S6 h85 (λG=>J5 h91 h124 hxy G) hd
 have hgc:∀ hp,lH (CC.keep 64) (aa H) Abs.undef ⟨hp,aa H⟩=.ret Abs.undef (bg (aa H) hp) (aa H):=λhp=>dC rfl
 have ht:bg (aa H) H=H:=by rw[bU,ai,List.take_length]
 simp only[z64,NX,M4,Ma,KZ,MF,Dr,LW,SIM,ST0,ST1,e0,e1,e2,s1,c1,hi,Nat.min_self,hgc,ht,Nat.reduceAdd,Nat.reduceLeDiff]
theorem E5 (h65:∀ a,M 65 a=none)(h95:∀ a,M 95 a=none)(H:Heap):orc CC M 65 [.int .u64 2] H=some (.ret (.int .i64 2) H (aa H)):=by
 have hgc:=λf hp=>dC (k:=CC.keep f) (b:=aa H) (v:=.int .i64 2) (hp:=hp) rfl
 have ht:bg (aa H) H=H:=by rw[bU,ai,List.take_length]
 have h2:orc CC M 95 [.int .u64 2] H=some (.ret (.int .i64 2) H (aa H)):=by
  refine aJ (z:=z95) (h95 _) (by kernel_rfl) rfl ?_
  have e0:(envOf [.int .u64 2] 0 env0).a.a.a=.int .u64 2:=rfl;generalize envOf [.int .u64 2] 0 env0=R at e0;have b1:bw CC .geq 63 true (.int .u64 2) (.int .u64 4294967296)=some (.bool false):=by kernel_rfl
  have b2:bw CC .geq 63 true (.int .u64 2) (.int .u64 65536)=some (.bool false):=by kernel_rfl
  have b3:bw CC .geq 63 true (.int .u64 2) (.int .u64 256)=some (.bool false):=by kernel_rfl
  have c1:bp CC 63 5 (.int .u64 2)=some (.int .u8 2):=by kernel_rfl
  have c2:bp CC 5 3 (.int .u8 2)=some (.int .i64 2):=by kernel_rfl
  have ix:∀ l,cL CC 9 (.str (0::1::2::l)) (.int .u8 2)=some (.int .u8 2):=λl=>by kernel_rfl
  have a1:bR 0 2=2:=by decide
  have hg:=hgc 95;simp only[z95,NK,MJ,Lf,K4,Hg,SIM,ST0,e0,b1,b2,b3,c1,c2,ix,a1,hg,ht,Nat.reduceAdd,Nat.reduceLeDiff]
 refine aJ (z:=z65) (h65 _) (by kernel_rfl) rfl ?_
 have e0:(envOf [.int .u64 2] 0 env0).a.a.a=.int .u64 2:=rfl;generalize envOf [.int .u64 2] 0 env0=R at e0;have hg:=hgc 65;have gk:∀ e (v:AV),gx e (X.k v)=v:=λ_ _=>rfl
 simp only[z65,MY,Nz,SIM,ST0,gk,e0,h2,Nat.min_self,hg,ht,Nat.reduceAdd,Nat.reduceLeDiff]
theorem Cm (h42:∀ a,M 42 a=none)(h65:∀ a,M 65 a=none)(h95:∀ a,M 95 a=none)(h64:∀ a,M 64 a=none)(h85:∀ a,M 85 a=none)(h91:∀ a,M 91 a=none)(h124:∀ a,M 124 a=none){H:Heap}{d:Nat}{x y:Int}(hxy:x<=y)(hd:ae H d=some (.cells [.int .i64 x,.int .i64 y])):orc CC M 42 [.rsl d 0 2 2 1] H=some (.ret Abs.undef H (aa H)):=by
 refine aJ (z:=z42) (h42 _) (by kernel_rfl) rfl ?_
 have e0:(envOf [.rsl d 0 2 2 1] 0 env0).a.a.a=.rsl d 0 2 2 1:=rfl;generalize envOf [.rsl d 0 2 2 1] 0 env0=R at e0
 have hl:aO CC 22 (.rsl d 0 2 2 1)=some (.int .i64 2):=by
  have:CC.P.underlying 22=some (.slice 3):=by kernel_rfl
  rw[cA];simp[dh,this]
 have hcv:bp CC 3 158 (.int .i64 2)=some (.int .u64 2):=by kernel_rfl
 have hp:=λl=>SK h64 h85 h91 h124 hxy hd l
 have hb:=E5 h65 h95 H;have hgc:∀ hp,lH (CC.keep 42) (aa H) Abs.undef ⟨hp,aa H⟩=.ret Abs.undef (bg (aa H) hp) (aa H):=λhp=>dC rfl
 have ht:bg (aa H) H=H:=by rw[bU,ai,List.take_length]
 simp only[z42,K5,NR,SIM,ST0,e0,hl,hcv,hb,hp,Nat.min_self,hgc,ht,Nat.reduceAdd,Nat.reduceLeDiff]
end
section
variable {M:Memo}
theorem JF {E:AV}{Hc:Heap}{e:Nat}(fu:Nat)(r:RG)(h10:r.a.b.c=.int .i64 2)(h11:r.a.b.d=.int .i64 2):∃ r',ax (n8 (orc CC M)) (fu+1) r [] ⟨Hc,e⟩=some (.exit 0,r',[],⟨Hc,e⟩)/\r'.a.a.d=r.a.a.d:=by
 have c2:decide ((2:Int)<2)=false:=by decide
 simp only[ax,n8,EE,SIM,ST0,ST1,h10,h11,c2];exact ⟨_,rfl,rfl⟩
theorem tD {E:AV}{q:EgF}{Hc Hd:Heap}{e i j:Nat}{V V' : AV}(hias:aL 8 E (.int .i64 (i:Int))=some (.iptr (o4 q)))(hlow:(lV 1 q.lin (q.ah.map gA)).low (aa Hc)=true)(hi:i<2)(hj:bR (i:Int) 1=(j:Int))
  (hap:∀ ee,aq CC 21 22 V (.rsl (aa Hc+1) 0 1 1 1) ⟨Hc++[.cells (o4 q)]++[.cells [.int .i64 (q.ah.length:Int)]],ee⟩=some (V',⟨Hd,ee⟩)) (fu:Nat) (r:RG) (h3:r.a.a.d=V) (h9:r.a.b.b=E) (h10:r.a.b.c=.int .i64 2) (h11:r.a.b.d=.int .i64 (i:Int)) :
  ∃ r',(r'.a.a.d=V'/\r'.a.b.b=E/\r'.a.b.c=.int .i64 2/\r'.a.b.d=.int .i64 (j:Int))/\ax (n8 (orc CC M)) (fu+1) r [] ⟨Hc,e⟩=ax (n8 (orc CC M)) fu r' [] ⟨Hd,e⟩:=by
 have c1:decide ((i:Int)<2)=true:=by rw[decide_eq_true_eq];omega
 have hst:=Q3 (Hc:=Hc) (q:=q) hlow;have hgz:ae (Hc++[egZ]) (aa Hc)=some egZ:=by rw[an];rfl
 have hstc:=hst;unfold ar at hstc;simp only[hgz,AV.cells] at hstc;have hge:ae (Hc++[.cells (o4 q)]) (aa Hc)=some (.cells (o4 q)):=by rw[an];rfl
 have g7:∀ a b c d e f g h:AV,ae [a,b,c,d,e,f,g,h] 7=some h:=λ_ _ _ _ _ _ _ _=>rfl
 have h32:=Xr q.lin q.ah;have hbl:=Pm (q.ah.length:Int);have hl1:aa (Hc++[AObj.cells (o4 q)])=aa Hc+1:=by rw[az];rfl
 have hl1' : (Hc++[AObj.cells (o4 q)]).length=aa Hc+1:=by rw[<-ai,hl1]
 generalize hH1:Hc++[AObj.cells (o4 q)]=H1 at *;simp only[ax,n8,EE,KG,Me,KP,SIM,ST0,ST1,h3,h9,h10,h11,c1,hias,hst,hstc,AV.cells,hge,g7,h32,hbl,hl1,hl1',hap,orVal,hj,Nat.reduceAdd,Nat.reduceLeDiff];exact ⟨_,⟨by first|rfl,by first|rfl|exact h9,by first|rfl|exact h10,rfl⟩,rfl⟩
theorem Bi (h21:∀ a,M 21 a=none)(h42:∀ a,M 42 a=none)(h65:∀ a,M 65 a=none)(h95:∀ a,M 95 a=none)(h64:∀ a,M 64 a=none)(h85:∀ a,M 85 a=none)(h91:∀ a,M 91 a=none)(h124:∀ a,M 124 a=none)
  {po:Nat} {H:Heap} {ws:List WkF} {W:AV} {q0 q1:EgF} {E:AV} {at_:Int} (P:Pl po H ws W [q0,q1] E at_) (hle:q0.ah.length<=q1.ah.length) :
  orc CC M 21 [.ptr po 0] H=some (.ret (.sl 1 [.int .i64 (q0.ah.length:Int),.int .i64 (q1.ah.length:Int)] .dead) H (aa H)):=by
 obtain ⟨i0,w0⟩:=Gl P.e (i:=0) (q:=q0) rfl;obtain ⟨i1,w1⟩:=Gl P.e (i:=1) (q:=q1) rfl;have hlE:aO CC 102 E=some (.int .i64 2):=Cz (T:=102) (by kernel_rfl) P.e
 have l0:aa (H++[AObj.cells (o4 q0)]++[AObj.cells [.int .i64 (q0.ah.length:Int)]])=aa H+2:=by rw[az,az];rfl
 have b0:ae (H++[AObj.cells (o4 q0)]++[AObj.cells [.int .i64 (q0.ah.length:Int)]]) (aa H+1)=some (.cells [.int .i64 (q0.ah.length:Int)]):=by
  have:aa (H++[AObj.cells (o4 q0)])=aa H+1:=by rw[az];rfl
  rw[<-this,an];rfl
 have A0:=AR b0;rw[l0] at A0;obtain ⟨Hd,hHd⟩ : ∃ Hd,Hd=H++[AObj.cells (o4 q0)]++[AObj.cells [.int .i64 (q0.ah.length:Int)]]++[AObj.cells [.int .i64 (q0.ah.length:Int)]]:=⟨_,rfl⟩;rw[<-hHd] at A0;have ld:aa Hd=aa H+3:=by rw[hHd,az,l0];rfl
 have fd:∀ q,q<aa H->ae Hd q=ae H q:=λq hq=>by rw[hHd,aU (by omega),aU (by rw[az];omega),aU hq]
 have gd:ae Hd (aa H+2)=some (.cells [.int .i64 (q0.ah.length:Int)]):=by rw[hHd,<-l0,an];rfl
 have l1:aa (Hd++[AObj.cells (o4 q1)]++[AObj.cells [.int .i64 (q1.ah.length:Int)]])=aa Hd+2:=by rw[az,az];rfl
 have b1:ae (Hd++[AObj.cells (o4 q1)]++[AObj.cells [.int .i64 (q1.ah.length:Int)]]) (aa Hd+1)=some (.cells [.int .i64 (q1.ah.length:Int)]):=by
  have:aa (Hd++[AObj.cells (o4 q1)])=aa Hd+1:=by rw[az];rfl
  rw[<-this,an];rfl
 have b2:ae (Hd++[AObj.cells (o4 q1)]++[AObj.cells [.int .i64 (q1.ah.length:Int)]]) (aa H+2)=some (.cells [.int .i64 (q0.ah.length:Int)]):=au (au gd _) _;have A1:=BB b1 b2;rw[l1] at A1;obtain ⟨He,hHe⟩ : ∃ He,He=am (Hd++[AObj.cells (o4 q1)]++[AObj.cells [.int .i64 (q1.ah.length:Int)]]) (aa H+2) .gone++[AObj.cells [.int .i64 (q0.ah.length:Int),.int .i64 (q1.ah.length:Int)]]:=⟨_,rfl⟩;rw[<-hHe] at A1;have le:aa He=aa Hd+3:=by rw[hHe,az,ay,l1];rfl
 have ge:ae He (aa Hd+2)=some (.cells [.int .i64 (q0.ah.length:Int),.int .i64 (q1.ah.length:Int)]):=by
  have:aa (am (Hd++[AObj.cells (o4 q1)]++[AObj.cells [.int .i64 (q1.ah.length:Int)]]) (aa H+2) .gone)=aa Hd+2:=by rw[ay,l1]
  rw[hHe,<-this,an];rfl
 have fe:∀ q,q<aa H->ae He q=ae H q:=λq hq=>by
  rw[hHe,aU (by rw[ay];omega),af (by omega),aU (by rw[az];omega),aU (by omega),fd q hq]
 have htk:bg (aa H) He=H:=tV (by omega) fe
 refine aJ (z:=z21) (h21 _) (by kernel_rfl) rfl ?_
 have e0:(envOf [.ptr po 0] 0 env0).a.a.a=.ptr po 0:=rfl;generalize envOf [.ptr po 0] 0 env0=R at e0;have hob:=P.ob
 obtain ⟨r0,⟨k3,k9,k10,k11⟩,hpre⟩ : ∃ r,(r.a.a.d=.nils/\r.a.b.b=E/\r.a.b.c=.int .i64 2/\r.a.b.d=.int .i64 ((0:Nat):Int))/\z21.sh (orc CC M) R [] ⟨H,aa H⟩=dI (ac (Dy (orc CC M)) (ac (Gu (orc CC M)) retZ)) (c9 0 (ax (n8 (orc CC M)) 100000 r [] ⟨H,aa H⟩)):=by
  have g1:ae [W,E,AV.int .i64 at_] 1=some E:=rfl;simp only[z21,Mq,LY,Ly,SIM,ST0,ST1,e0,hob,g1,hlE,Nat.reduceAdd,Nat.reduceLeDiff];exact ⟨_,⟨rfl,rfl,rfl,rfl⟩,rfl⟩
 obtain ⟨r1,⟨m3,m9,m10,m11⟩,s1⟩:=tD (M:=M) (e:=aa H) i0 w0 (by omega) (j:=1) (by decide) A0 99999 r0 k3 k9 k10 k11
 obtain ⟨r2,⟨n3,n9,n10,n11⟩,s2⟩:=tD (M:=M) (e:=aa H) (Hc:=Hd) i1 (AV.low_mono (by omega) _ w1) (by omega) (j:=2) (by decide) A1 99998 r1 m3 m9 m10 m11
 obtain ⟨r3,s3,n3'⟩:=JF (M:=M) (E:=E) (Hc:=He) (e:=aa H) 99997 r2 n10 n11;rw[hpre,s1,s2,s3];rw[n3] at n3';have hS:=Cm h42 h65 h95 h64 h85 h91 h124 (x:=(q0.ah.length:Int)) (y:=(q1.ah.length:Int)) (by omega) ge
 have hm:min (aa H) (aa He)=aa H:=Nat.min_eq_left (by omega)
 have hgc:lH (CC.keep 21) (aa H) (.rsl (aa Hd+2) 0 2 2 1) ⟨He,aa H⟩=.ret (.sl 1 [.int .i64 (q0.ah.length:Int),.int .i64 (q1.ah.length:Int)] .dead) H (aa H):=by
  have hk:CC.keep 21=false:=by kernel_rfl
  have hn:gK (.rsl (aa Hd+2) 0 2 2 1)=false:=rfl
  have hst:AV.settle (aa H) He (.rsl (aa Hd+2) 0 2 2 1)=.sl 1 [.int .i64 (q0.ah.length:Int),.int .i64 (q1.ah.length:Int)] .dead:=by
   rw[aB] at ge;simp only[AV.settle,ge];rw[if_neg (by omega)]
   rfl
  have hlw:AV.low (aa H) (.sl 1 [.int .i64 (q0.ah.length:Int),.int .i64 (q1.ah.length:Int)] .dead)=true:=by simp[AV.low,aG,Lin.low]
  unfold lH;rw[hn,Bool.and_false,hk];simp only[cond_false,Ie,dm,if_true,hst,hlw,Bool.false_eq_true,if_false];rw[<-bU,htk]
 simp only[Dy,Gu,SIM,ST0,n3',hS,hm,Nat.reduceAdd,Nat.reduceLeDiff];simp only[z21,SIM,ST0,hgc,Nat.reduceAdd,Nat.reduceLeDiff]
end
namespace Hd
structure DpM (M:Memo):Prop where
 h20:∀ a,M 20 a=none
 h21:∀ a,M 21 a=none
 h42:∀ a,M 42 a=none
 h65:∀ a,M 65 a=none
 h95:∀ a,M 95 a=none
 h64:∀ a,M 64 a=none
 h85:∀ a,M 85 a=none
 h91:∀ a,M 91 a=none
 h124:∀ a,M 124 a=none
theorem yr {M:Memo}(m:SpM M)(D:DpM M){kf n:Nat}(hkf:kf<=90000){L:List NdR}(hL:L.length<=90000)(hK:∀ x∈L,NdK x)(hne:L≠[]){wn:List WkN}{e0 e1:EgN}(hm:lm kf n L=some (wn,[e0,e1]))(hle:e0.ah.length<=e1.ah.length)(G:Heap) :
  ∃ G1 po,orc CC M 19 [.sl 6 (L.map NdR.v) .dead] G=some (.ret (.tuple [.ptr po 0,.agg [.int .i64 0,.int .i64 0]]) G1 (aa G))/\(∀ K,orc CC M 20 [.ptr po 0] (G1++K)=some (.ret (.int .i64 (wn.length:Int)) (G1++K) (aa (G1++K)))) /\
    (∀ K,orc CC M 21 [.ptr po 0] (G1++K)=some (.ret (.sl 1 [.int .i64 (e0.ah.length:Int),.int .i64 (e1.ah.length:Int)] .dead) (G1++K) (aa (G1++K))))/\aa G<=aa G1/\∀ q,q<aa G->ae G1 q=ae G q:=by
 obtain ⟨d,L',rfl⟩:=List.exists_cons_of_ne_nil hne;obtain ⟨H1,po,ws,W,es,E,hS,P,hwl,hes,hpo,hlen,hfr⟩:=EB m hkf hL hK (L:=d::L') rfl hm G
 match es,hes with
 | [q0,q1],hes =>
   simp only[List.map_cons,List.map_nil,List.cons.injEq,and_true] at hes;obtain ⟨h0,h1⟩:=hes;have k0:q0.ah.length=e0.ah.length:=by rw[<-h0]
   have k1:q1.ah.length=e1.ah.length:=by rw[<-h1]
   refine ⟨H1,po,hS,λK=>?_,λK=>?_,hlen,hfr⟩
   ·have:=S8 D.h20 (P.ap (K:=K));rw[hwl] at this;exact this
   ·have:=Bi D.h21 D.h42 D.h65 D.h95 D.h64 D.h85 D.h91 D.h124 (P.ap (K:=K)) (by omega)
    rw[k0,k1] at this;exact this
theorem MH (po:Nat):bw CC .eql 44 true (.ptr po 0) .nilp=some (.bool false):=by
 have:∀ p:Nat,bw CC .eql 44 true (.ptr p 0) .nilp=some (.bool false):=λ_=>by kernel_rfl
 exact this _
theorem bd29:ao CC 29 []=some (.agg [.int .i64 0,.int .i64 0]):=by kernel_rfl
theorem ne29:bw CC .neq 29 false (.agg [.int .i64 0,.int .i64 0]) (.agg [.int .i64 0,.int .i64 0])=some (.bool false):=by kernel_rfl
theorem pQ (x y:AV)(q:Lin):aO CC 22 (.sl 1 [x,y] q)=some (.int .i64 2):=by
 have:CC.P.underlying 22=some (.slice 3):=by kernel_rfl
 rw[cO this];rfl
theorem KB (x y:Int)(q:Lin):aL 1 (.sl 1 [.int .i64 x,.int .i64 y] q) (.int .i64 0)=some (.iptr [.int .i64 x]):=bN (i:=0) (v:=.int .i64 x) rfl
theorem NZ (x y:Int)(q:Lin):aL 1 (.sl 1 [.int .i64 x,.int .i64 y] q) (.int .i64 1)=some (.iptr [.int .i64 y]):=bN (i:=1) (v:=.int .i64 y) rfl
def tW:List Nat:=[110,111,100,101,32,102,40,120,58,32,105,110,116,41,32,114,101,116,117,114,110,115,32,40,121,58,32,105,110,116,41,32,118,97,114,32,117,58,32,102,117,116,117,114,101,32,105,110,116,59,32,108,101,116,32,117,32,61,32,97,115,121,110,99,32,103,40,120,41,59,32,121,32,61,32,97,119,97,105,116,32,117,32,97,102,116,101,114,32,40,48,41,59,32,116,101,108,32,110,111,100,101,32,103,40,97,58,32,105,110,116,41,32,114,101,116,117,114,110,115,32,40,98,58,32,105,110,116,41,32,108,101,116,32,98,32,61,32,97,59,32,116,101,108]
theorem Rp {M:Memo}(m:SpM M)(D:DpM M)(h18:∀ a,M 18 a=none){L:List NdR}(h14:M 14 [.str tW]=some (pV L))(hL2:L.length=2)(hK:∀ x∈L,NdK x){kf n:Nat}(hkf:kf<=90000){wn:List WkN}{e0 e1:EgN}(hm:lm kf n L=some (wn,[e0,e1]))(hw:wn.length=2)(ha0:e0.ah.length=0)(ha1:e1.ah.length=1) :
  orc CC M 18 [] []=some (.ret (.bool true) [] 0):=by
 have hne:L≠[]:=λh=>by rw[h] at hL2;cases hL2
 obtain ⟨G1,po,hS,h20,h21,hlG,hfr⟩:=yr m D hkf (by omega) hK hne hm (by omega) [cz0]
 have hP:orc CC M 14 [.str tW] []=some (.ret (pV L) [] 0):=f5 h14;have hln:aO CC 33 (.sl 6 (L.map NdR.v) .dead)=some (.int .i64 2):=by rw[vg,hL2];rfl
 have c2:decide ((2:Int)=2)=true:=by decide
 have h20':=h20 [cz0];have h21':=h21 [cz0];rw[hw] at h20';rw[ha0,ha1] at h21';have hl1:aa [cz0]=1:=rfl;rw[hl1] at hS hlG;have hlz:aa (G1++[cz0])=aa G1+1:=by rw[az];rfl
 rw[hlz] at h20' h21';have gz:ae (G1++[cz0]) (aa G1)=some cz0:=by rw[an];rfl
 have sz:∀ c,am (G1++[cz0]) (aa G1) c=G1++[c]:=λc=>by rw[bJ];rfl
 refine aJ (z:=z18) (h18 _) (by kernel_rfl) rfl ?_
 generalize envOf [] 0 env0=R;have hl0:aa ([]:Heap)=0:=rfl;rw[hl0];have hm1:min 0 (aa G1+1)=0:=Nat.zero_min _;have htk:∀ hp:Heap,bg 0 hp=[]:=λhp=>by rw[bU];rfl
 have hgc:=λhp=>dC (k:=CC.keep 18) (b:=0) (v:=.bool true) (hp:=hp) rfl
 have hn:=MH po;unfold tW at hP;have c0:decide (((0:Nat):Int)=0)=true:=rfl;have c1:decide (((1:Nat):Int)=1)=true:=rfl;have d2:decide (((2:Nat):Int)=2)=true:=rfl;have hld1:∀ (a:AV) (h:Heap),aw none (.iptr [a]) h=some a:=λ_ _=>rfl
 simp only[z18,NM,LA,Ml,Oi,LK,MQ,Md,pV,SIM,ST0,ST1,hP,hln,c2,hS,gz,sz,hn,bd29,ne29,h20',h21',hlz,pQ,KB,NZ,hld1,c0,c1,d2,hm1,hgc,htk,Nat.zero_min,Bool.not_true,Nat.reduceAdd,Nat.reduceLeDiff]
end Hd
end Go.Proofs
