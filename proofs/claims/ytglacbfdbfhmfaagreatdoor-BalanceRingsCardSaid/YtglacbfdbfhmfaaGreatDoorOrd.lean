/- order.Sort. Part of the proof of girandolelaw13.BalanceRings. -/
import Derived.Test.YtglacbfdbfhmfaaGreatDoorFl2
set_option linter.unusedVariables false
set_option linter.unusedSimpArgs false
set_option maxRecDepth 1000000
namespace Go.Proofs
open Go Go.Abs
def readsL:List AtF->List Nat
 | []=>[]
 | a::l=>cond a.c (readsL l) (a.v::readsL l)
theorem cc139o:∃ e,CC.P.underlying 139=some (.slice e)/\e=93:=⟨_,by kernel_rfl,rfl⟩
theorem cc140o:∃ e,CC.P.underlying 140=some (.slice e)/\e=186:=⟨_,by kernel_rfl,rfl⟩
theorem OW (l:List AtF)(q:Lin):aQ CC 139 (.sl 3 (l.map AtF.av) q)=some (.int .i64 (l.length:Int)):=by
 obtain ⟨e,hu,_⟩:=cc139o;rw[dc hu,List.length_map]
theorem rp {on:AV}(h:my on):aQ CC 140 on=some (.int .i64 0):=by
 obtain ⟨e,hu,_⟩:=cc140o
 rcases h with rfl|rfl
 ·rw[cC];simp[dm,hu]
 ·rw[dc hu];rfl
theorem Rz {l:List AtF}{i:Nat}{a:AtF}(q:Lin)(h:l[i]?=some a):aO 3 (.sl 3 (l.map AtF.av) q) (.int .i64 (i:Int))=some (.iptr [.bool a.c,.int .i64 a.n,.int .i64 (a.v:Int)]):=by
 refine bO (v:=a.av) ?_;rw[az,List.getElem?_map,h];rfl
theorem Sf {q:EqF}{L:Nat}(h:q.ok L):dN q.av L=some (.cells [.str q.op,.int .i64 (q.dst:Int),.sl 3 (q.args.map AtF.av) q.lin,q.on],(.ptr · 0)):=by
 have h1:(AV.cells q.av).all AV.one=true:=by
  rcases h.1 with h|h<;>simp[AV.cells,AV.one,h]
 unfold dN;rw[if_pos ⟨h1,rm h⟩];rfl
def RR (l:List Nat):AV:=match l with
 | []=>.nils
 | a::l=>.sl 1 ((a::l).map inV) .dead
def Y4 (H:Heap)(e:Nat)(i:Nat)(l:List Nat)(p1:AV)(X:IRes):Prop :=
 ∃ r' G,X=some (.exit i,r',[],⟨H++G,e⟩)/\BA (aa H) [] (H++G) r'.a.a.d l/\r'.a.a.b=p1
section
variable {M:Memo}
theorem xp {H:Heap}{e:Nat}{p1:AV}{L:List AtF}{q:Lin}(hL:L.length<=90000):∀ (d i:Nat),d+i=L.length->∀ (fu:Nat),d<fu->∀ (G:Heap) (acc:List Nat),acc.length<=i->∀ (r:RG),BA (aa H) [] (H++G) r.a.a.d acc->r.a.a.b=p1 ->
  (r.a.b.b=.sl 3 (L.map AtF.av) q/\r.a.b.c=.int .i64 (L.length:Int)/\r.a.b.d=.int .i64 (i:Int)) ->
  Y4 H e 0 (acc++readsL (L.drop i)) p1 (am (nC (orc CC M)) fu r [] ⟨H++G,e⟩):=by
 intro d
 induction d with
 | zero =>
   intro i hi fu hfu G acc hal r hA hp1 ⟨h9,h10,h11⟩;obtain ⟨fu',rfl⟩ : ∃ f,fu=f+1:=⟨fu-1,by omega⟩
   have:i=L.length:=by omega
   subst this;have hc:decide ((L.length:Int)<(L.length:Int))=false:=by simp
   rw[List.drop_length];simp only[readsL,List.append_nil];simp only[am,nC,sM,SIM,ST0,ST1,h10,h11,hc];exact ⟨_,G,rfl,by first|exact hA,by first|exact hp1⟩
 | succ d ih =>
   intro i hi fu hfu G acc hal r hA hp1 ⟨h9,h10,h11⟩;obtain ⟨fu',rfl⟩ : ∃ f,fu=f+1:=⟨fu-1,by omega⟩
   have hlt:i<L.length:=by omega
   have hc:decide ((i:Int)<(L.length:Int))=true:=by simp;omega
   have hd:L.drop i=L[i]::L.drop (i+1):=List.drop_eq_getElem_cons hlt;have hg:L[i]?=some L[i]:=by simp[hlt]
   generalize L[i]=a at hg hd;have hat:=Rz q hg;have ha:bP (i:Int) 1=((i+1:Nat):Int):=aW i 1 (by unfold natMax;omega)
   rw[hd];have hdo:ae (H++G++[AObj.cells [.bool a.c,.int .i64 a.n,.int .i64 (a.v:Int)]]) (aa (H++G))=some (.cells [.bool a.c,.int .i64 a.n,.int .i64 (a.v:Int)]):=by rw[au];rfl
   have hln:aa H<=aa (H++G):=by rw[aB];omega
   cases hac:a.c with
   | true =>
     have hcn:∀ x y:IRes,eX (.bool (!a.c)) x y=y:=λx y=>by rw[hac];rfl
     simp only[readsL,hac,cond_true];have key:=ih (i+1) (by omega) fu' (by omega) (G++[.cells [.bool a.c,.int .i64 a.n,.int .i64 (a.v:Int)]]) acc (by omega)
     rw[<-List.append_assoc] at key;have hA' : BA (aa H) [] (H++G++[.cells [.bool a.c,.int .i64 a.n,.int .i64 (a.v:Int)]]) r.a.a.d acc:=hA.imp id (λ⟨h0,id,g,h1,h2,h3,h4⟩=>⟨h0,id,g,h1,ay h2 _,h3,h4⟩)
     rw[hac] at key hA' hdo hat;generalize hHc:H++G=Hc at *;simp only[am,nC,sM,zT,zg,xW,SIM,ST0,ST1,h9,h10,h11,hc,hat,hdo,Bool.not_true,ha,Nat.reduceAdd,Nat.reduceLeDiff];exact key _ hA' (by first|exact hp1) ⟨by first|rfl|exact h9,by first|rfl|exact h10,rfl⟩
   | false =>
     simp only[readsL,hac,cond_false];have hb22:=ju a.v;have hmt:CC.mutT 82 22=false:=by kernel_rfl
     rw[hac] at hdo hat
     rcases hA with ⟨rfl,hV⟩|⟨h0,id,g,hV,hgi,hid,hni⟩
     ·have happ:=λe=>jf hmt a.v .lit (H++G++[.cells [.bool false,.int .i64 a.n,.int .i64 (a.v:Int)]]) e
      have key:=ih (i+1) (by omega) fu' (by omega) (G++[.cells [.bool false,.int .i64 a.n,.int .i64 (a.v:Int)],.lin 0]) [a.v] (by simp)
      have hnew:BA (aa H) [] (H++G++[.cells [.bool false,.int .i64 a.n,.int .i64 (a.v:Int)]]++[.lin 0]) (.sl 1 [inV a.v] (.live (aa (H++G++[AObj.cells [.bool false,.int .i64 a.n,.int .i64 (a.v:Int)]])) 0)) [a.v]:=.inr ⟨by simp,_,_,rfl,by rw[au];rfl,by rw[aB];omega,by simp⟩
      rw[show H++(G++[AObj.cells [.bool false,.int .i64 a.n,.int .i64 (a.v:Int)],.lin 0])=H++G++[.cells [.bool false,.int .i64 a.n,.int .i64 (a.v:Int)]]++[.lin 0] by simp] at key
      generalize hHc:H++G=Hc at *;have hlz1:aa (Hc++[AObj.cells [.bool false,.int .i64 a.n,.int .i64 (a.v:Int)]])=aa Hc+1:=by rw[aB];rfl
      rw[hlz1] at hnew happ;simp only[List.nil_append,List.append_assoc,List.cons_append] at key happ hnew ⊢;simp only[am,nC,sM,zT,zg,IB,xW,SIM,ST0,ST1,h9,h10,h11,hV,hc,hat,hdo,Bool.not_false,ha,hb22,happ,orVal,Nat.reduceAdd,Nat.reduceLeDiff];exact key _ hnew (by first|exact hp1) ⟨by first|rfl|exact h9,by first|rfl|exact h10,rfl⟩
     ·have hgi1:=ay hgi [.cells [.bool false,.int .i64 a.n,.int .i64 (a.v:Int)]];have happ:=λe=>ia (xs:=acc.map inV) (e:=e) hmt a.v .lit hgi1 (by rw[List.length_map];omega)
      have hmap:acc.map inV++[inV a.v]=(acc++[a.v]).map inV:=by simp
      rw[hmap] at happ
      have hset:∃ G',ak (H++G++[.cells [.bool false,.int .i64 a.n,.int .i64 (a.v:Int)]]) id (.lin (g+1))=H++G':=by
       rw[List.append_assoc];exact ⟨_,gi (by rw[<-ai];exact hid) _⟩
      obtain ⟨G',hG'⟩:=hset;have key:=ih (i+1) (by omega) fu' (by omega) G' (acc++[a.v]) (by simp;omega)
      have hnew:BA (aa H) [] (H++G') (.sl 1 ((acc++[a.v]).map inV) (.live id (g+1))) (acc++[a.v]):=.inr ⟨by simp,_,_,rfl,by rw[<-hG'];exact aF hgi1 _,hid,hni⟩
      rw[<-hG'] at key hnew;simp only[List.append_assoc,List.cons_append,List.nil_append] at key;rw[<-List.append_assoc] at key;generalize hHc:H++G=Hc at *;simp only[am,nC,sM,zT,zg,IB,xW,SIM,ST0,ST1,h9,h10,h11,hV,hc,hat,hdo,Bool.not_false,ha,hb22,happ,orVal,Nat.reduceAdd,Nat.reduceLeDiff];exact key _ hnew (by first|exact hp1) ⟨by first|rfl|exact h9,by first|rfl|exact h10,rfl⟩
theorem HC (h82:∀ a,M 82 a=none){q:EqF}(hL:q.args.length<=90000){H:Heap}(hq:q.ok (aa H)):orc CC M 82 [q.av] H=some (.ret (RR (readsL q.args)) H (aa H)):=by
 have hbx:=Sf hq;have lp:=xp (M:=M) (H:=H++[.cells [.str q.op,.int .i64 (q.dst:Int),.sl 3 (q.args.map AtF.av) q.lin,q.on]]) (e:=aa H) (p1:=.ptr (aa H) 0) (q:=q.lin) hL q.args.length 0 rfl 100000 (by omega) [] [] (Nat.zero_le _)
 rw[List.drop_zero,List.nil_append,List.append_nil] at lp;have e0:(envOf [q.av] 0 env0).a.a.a=q.av:=rfl;refine aL (z:=z82) (h82 _) (by kernel_rfl) rfl ?_
 generalize envOf [q.av] 0 env0=R at e0
 obtain ⟨r0,hr0,hn0,hb0,hpre⟩ : ∃ r,(r.a.b.b=.sl 3 (q.args.map AtF.av) q.lin/\r.a.b.c=.int .i64 (q.args.length:Int)/\r.a.b.d=.int .i64 ((0:Nat):Int))/\r.a.a.d=.nils/\r.a.a.b=.ptr (aa H) 0 /\
   z82.sh (orc CC M) R [] ⟨H,aa H⟩=di (ac (ac (zO (orc CC M)) (aG 2 (aK (qY (orc CC M))))) (ac (qy (orc CC M)) retZ)) (cM 0 (am (nC (orc CC M)) 100000 r [] ⟨H++[.cells [.str q.op,.int .i64 (q.dst:Int),.sl 3 (q.args.map AtF.av) q.lin,q.on]],aa H⟩)):=by
  have hln:=OW q.args q.lin;have hlL:H.length=aa H:=(ai H).symm;simp only[z82,M2,Ot,Oy,SIM,ST0,ST1,e0,hbx,hln,hlL,Nat.reduceAdd,Nat.reduceLeDiff];exact ⟨_,⟨rfl,rfl,rfl⟩,rfl,rfl,rfl⟩
 obtain ⟨r1,G,h1,hO,hb1⟩:=lp r0 (by rw[hn0];exact .inl ⟨rfl,rfl⟩) hb0 hr0
 have hl140:=rp hq.1
 have hg0:ae (H++[AObj.cells [.str q.op,.int .i64 (q.dst:Int),.sl 3 (q.args.map AtF.av) q.lin,q.on]]++G) (aa H)=some (.cells [.str q.op,.int .i64 (q.dst:Int),.sl 3 (q.args.map AtF.av) q.lin,q.on]):=by
  rw[List.append_assoc,au];rfl
 have hc0:decide ((0:Int)<0)=false:=by decide
 have g4_3:∀ a b c d:AV,ae [a,b,c,d] 3=some d:=λ_ _ _ _=>rfl
 have ht:bw (aa H) (H++[AObj.cells [.str q.op,.int .i64 (q.dst:Int),.sl 3 (q.args.map AtF.av) q.lin,q.on]]++G)=H:=by rw[List.append_assoc,bS]
 rw[hpre,h1];have hk:CC.keep 82=false:=by kernel_rfl
 have hnn:cS ((readsL q.args).map inV)=true:=by
  induction readsL q.args with
  | nil=>rfl
  | cons a l ih=>rw[List.map_cons,bq,ih];rfl
 have hl1:aa (H++[AObj.cells [.str q.op,.int .i64 (q.dst:Int),.sl 3 (q.args.map AtF.av) q.lin,q.on]])=aa H+1:=by rw[aB];rfl
 rw[hl1] at hO;generalize hHc:H++[AObj.cells [.str q.op,.int .i64 (q.dst:Int),.sl 3 (q.args.map AtF.av) q.lin,q.on]]++G=Hc at *
 rcases hO with ⟨h0,hV⟩|⟨h0,id,g,hV,hgi,hid,_⟩
 ·have hgc:=dH (k:=CC.keep 82) (b:=aa H) (v:=.nils) (hp:=Hc) rfl;rw[ht] at hgc;have hrv:RR (readsL q.args)=.nils:=by rw[h0];rfl
  rw[hrv];simp only[zO,qY,xz,qy,z82,Vj,SIM,ST0,ST1,ST3,hb1,hg0,g4_3,hl140,hc0,hV,hgc,Nat.reduceAdd,Nat.reduceLeDiff]
 ·have hgc:=nK (sz:=1) (l:=(readsL q.args).map inV) (id:=id) (g:=g) (base:=aa H) (hp:=Hc) hnn (by omega)
  rw[ht] at hgc
  have hrv:RR (readsL q.args)=.sl 1 ((readsL q.args).map inV) .dead:=by
   cases hh:readsL q.args with
   | nil=>exact absurd hh h0
   | cons a l=>rfl
  rw[hrv];simp only[zO,qY,xz,qy,z82,Vj,SIM,ST0,ST1,ST3,hb1,hg0,g4_3,hl140,hc0,hV,hk,hgc,Nat.reduceAdd,Nat.reduceLeDiff]
end
noncomputable def X6 (T:Nat):Option (AV×Nat×Bool):=match bI CC T with
 | some e=>match CC.P.info? e,ce CC e with
   | some i,some z=>some (z,i.size,decide (0<i.bytes/\i.bytes<=65536))
   | _,_=>none
 | none=>none
abbrev mH (x:Int):AV:=.int .i64 x
theorem HU {z:AV}(hz:z.cells=[z])(n:Nat):an (List.replicate n z)=List.replicate n z:=by
 induction n with
 | zero=>rfl
 | succ n ih=>rw[List.replicate_succ];simp only[an,List.flatMap_cons,hz] at ih ⊢;rw[ih];rfl
theorem K9 {T:Nat}{z:AV}(hz:z.cells=[z])(h:X6 T=some (z,1,true))(n:Nat)(hn:n<1000000):BV CC T (mH n) (mH n)=some (.cells (List.replicate n z),λr=>.rsl r 0 n n 1):=by
 unfold X6 at h
 split at h
 ·rename_i e he
  split at h
  ·rename_i i z' hi hz';simp only[SJ,PJ,decide_eq_true_eq] at h;obtain ⟨rfl,h1,h2,h3⟩:=h;have hb:i.bytes*n<=65536*1000000:=Nat.mul_le_mul h3 (by omega)
   simp only[BV,he,hi,hz',cG];simp[h1,hz];refine ⟨?_,HU hz n⟩;omega
  ·cases h
 ·cases h
theorem PM (n:Nat)(hn:n<1000000):BV CC 22 (mH n) (mH n)=some (.cells (List.replicate n (mH 0)),λr=>.rsl r 0 n n 1):=K9 rfl (by kernel_rfl) n hn
theorem Vx (n:Nat)(hn:n<1000000):BV CC 135 (mH n) (mH n)=some (.cells (List.replicate n .nils),λr=>.rsl r 0 n n 1):=K9 rfl (by kernel_rfl) n hn
theorem cc22o:∃ e,CC.P.underlying 22=some (.slice e):=by
 obtain ⟨e,i,z,h1,_⟩:=se22;unfold bI at h1
 split at h1
 ·rename_i e' he;exact ⟨e',he⟩
 ·cases h1
theorem Cd (l:List Nat)(q:Lin):aQ CC 22 (.sl 1 (l.map inV) q)=some (.int .i64 (l.length:Int)):=by
 obtain ⟨e,hu⟩:=cc22o;rw[dc hu,List.length_map]
theorem len22n:aQ CC 22 .nils=some (.int .i64 0):=by
 obtain ⟨e,hu⟩:=cc22o;rw[cC];simp[dm,hu]
theorem xq (r n:Nat):aQ CC 22 (.rsl r 0 n n 1)=some (.int .i64 (n:Int)):=by
 obtain ⟨e,hu⟩:=cc22o;rw[cC];simp[dm,hu]
theorem cc83o:∃ e,CC.P.underlying 83=some (.slice e):=by
 obtain ⟨e,i,z,h1,_⟩:=sl83;unfold bI at h1
 split at h1
 ·rename_i e' he;exact ⟨e',he⟩
 ·cases h1
theorem HR {uo:Nat}{H:Heap}{V:AV}{l:List EqF}(h:LvI uo H 4 V (l.map EqF.av)):aQ CC 83 V=some (.int .i64 (l.length:Int)):=by
 obtain ⟨e,hu⟩:=cc83o
 rcases h with ⟨h0,rfl⟩|⟨_,id,g,rfl,_⟩
 ·have:l=[]:=by simpa using h0
  subst this;rw[cC];simp[dm,hu]
 ·rw[dc hu,List.length_map]
theorem zp {uo:Nat}{H:Heap}{V:AV}{l:List EqF}(h:LvI uo H 4 V (l.map EqF.av)){i:Nat}{q:EqF}(hq:l[i]?=some q):aO 4 V (.int .i64 (i:Int))=some (.iptr [.str q.op,.int .i64 (q.dst:Int),.sl 3 (q.args.map AtF.av) q.lin,q.on]):=by
 rcases h with ⟨h0,rfl⟩|⟨_,id,g,rfl,_⟩
 ·have:l=[]:=by simpa using h0
  subst this;simp at hq
 ·refine bO (v:=q.av) ?_;rw[az,List.getElem?_map,hq];rfl
theorem tD {L:Nat}:∀ {l:List AV},aH L l=true->∀ x∈l,x.low L=true
 | [],_,x,hx=>by cases hx
 | a::l,h,x,hx=>by
   simp only[aH,Bool.and_eq_true] at h
   rcases List.mem_cons.1 hx with rfl|hx
   ·exact h.1
   ·exact tD h.2 x hx
theorem UI.eok {uo:Nat}{H:Heap}{u:UN}(U:UI uo H u){q:EqF}(hq:q∈u.eqs):q.ok (aa H):=by
 refine ⟨U.el q hq,?_⟩
 rcases U.e with ⟨h0,_⟩|⟨_,id,g,_,_,_,hw⟩
 ·have:u.eqs=[]:=by simpa using h0
  rw[this] at hq;cases hq
 ·have h:=tD hw q.av (List.mem_map_of_mem hq);have h3:=cL (kV q.args) (aa H);simp only[AV.low,aH,h3,Bool.and_true,Bool.true_and,Bool.and_eq_true] at h;exact h.1
theorem OQ {n r b:Nat}{v:AV}{hp:Heap}{e:Nat}{cs:List AV}(hg:ae hp r=some (.cells cs))(hl:aa v.cells=n)(hn:n<=aa cs)(ha:v.cells.all AV.one=true)(hlow:v.low b=true)(hb:b<=r) :
  aq n (.ptr r 0) v ⟨hp,e⟩=some ⟨ak hp r (.cells (cJ cs 0 v.cells)),e⟩:=by
 have hlen:=bj hg;have h1:dY (aa hp) v=true:=by rw[bM];exact AV.low_mono (by rw[ai];omega) v hlow
 have h2:fZ v r ⟨hp,e⟩=e:=by unfold fZ;rw[bM,AV.low_mono (by omega:b<=r+1) v hlow];rfl
 have h3:Nat.beq (aa v.cells) n=true:=by rw[hl];exact Nat.beq_refl n
 have h4:Nat.ble (Nat.add 0 n) (aa cs)=true:=Nat.ble_eq_true_of_le (by simpa using hn)
 simp only[aq,hg,dL,h1,h2,h3,h4,ha,Bool.and_self,cond_true]
abbrev zQ:List AV:=[.str [],.int .i64 0,.nils,.nils]
abbrev EqF.l (q:EqF):List AV:=[.str q.op,.int .i64 (q.dst:Int),.sl 3 (q.args.map AtF.av) q.lin,q.on]
theorem GX {Hc:Heap}{q:EqF}{e:Nat}(h:q.ok (aa Hc)):dL 4 0 (aa Hc) q.av q.l zQ ⟨Hc++[.cells zQ],e⟩=some ⟨Hc++[.cells q.l],e⟩:=by
 have hg2:ae (Hc++[.cells zQ]) (aa Hc)=some (.cells zQ):=by rw[au];rfl
 have hall:(AV.cells q.av).all AV.one=true:=by
  rcases h.1 with h|h<;>simp[AV.cells,AV.one,h]
 have:=OQ (n:=4) (r:=aa Hc) (b:=aa Hc) (e:=e) hg2 rfl (Nat.le_refl 4) hall (rm h) (Nat.le_refl _);rw[lR,hg2] at this;refine Eq.trans this ?_;rw[bN];rfl
abbrev ux (xs:List Int):List AV:=xs.map mH
theorem Ns {H:Heap}{r i e:Nat}{xs:List Int}(hg:ae H r=some (.cells (ux xs)))(hi:i<xs.length)(x:Int):aq 1 (.ptr r i) (mH x) ⟨H,e⟩=some ⟨ak H r (.cells (ux (ak xs i x))),e⟩:=by
 have h1:i+1<=aa (ux xs):=by rw[ai,List.length_map];omega
 have h2:ak (ux xs) i (mH x)=ux (ak xs i x):=by simp only[aR,ux,List.map_set]
 simp only[SIM,hg,h1,h2]
theorem Ui {xs:List Int}{i:Nat}{x:Int}(h:ae xs i=some x):ae (ux xs) i=some (mH x):=by
 rw[az] at h ⊢;rw[List.getElem?_map,h];rfl
theorem TL {H:Heap}{r i:Nat}{xs:List Int}{x:Int}(hg:ae H r=some (.cells (ux xs)))(h:ae xs i=some x):ax none (.ptr r i) H=some (mH x):=by
 simp only[sX,hg,Ui h,kF]
structure Lk (uo so:Nat)(H:Heap)(u:UN)(Hc:Heap)(A B C:AV):Prop where
 ob:ae Hc so=some (.cells [.ptr uo 0,A,B,C])
 fr:∀ q,q<aa H->q≠so->ae Hc q=ae H q
 len:aa H<=aa Hc
 U0:UI uo H u
 su:so≠uo
 sn:so∉u.ns
 sl:so<aa H
section
variable {uo so:Nat}{H Hc:Heap}{u:UN}{A B C:AV}
theorem Lk.U (k:Lk uo so H u Hc A B C):UI uo Hc u:=k.U0.to k.len (λq hq hm=>k.fr q hq (by rintro rfl;rcases hm with h|h;exact k.su h;exact k.sn h))
theorem Lk.ap (k:Lk uo so H u Hc A B C)(K:Heap):Lk uo so H u (Hc++K) A B C :=
 ⟨ay k.ob _,λq hq hs=>by have:=k.len;rw[<-k.fr q hq hs,az,az,List.getElem?_append_left (by rw[<-ai];omega)],by rw[aB];have:=k.len;omega,k.U0,k.su,k.sn,k.sl⟩
theorem Lk.put (k:Lk uo so H u Hc A B C){r:Nat}(hr:aa H<=r)(o:AObj):Lk uo so H u (ak Hc r o) A B C :=
 ⟨by rw[af (by have:=k.sl;omega)];exact k.ob,λq hq hs=>by rw[af (by omega)];exact k.fr q hq hs,by rw[ar];exact k.len,k.U0,k.su,k.sn,k.sl⟩
theorem Lk.set (k:Lk uo so H u Hc A B C)(A' B' C' : AV):Lk uo so H u (ak Hc so (.cells [.ptr uo 0,A',B',C'])) A' B' C' :=
 ⟨aF k.ob _,λq hq hs=>by rw[af hs];exact k.fr q hq hs,by rw[ar];exact k.len,k.U0,k.su,k.sn,k.sl⟩
end
theorem eO {N n v:Nat}(h:v<n):aO 1 (.rsl N 0 n n 1) (.int .i64 (v:Int))=some (.ptr N v):=by
 simp[aO,cG,h]
noncomputable def frS:List Nat->Nat->List Int->Option (List Int)
 | [],_,fr=>some fr
 | d::l,i,fr=>match ae fr d with
   | none=>none
   | some _=>frS l (i+1) (ak fr d (i:Int))
section
variable {M:Memo}{uo so:Nat}{H:Heap}{u:UN}
def X8 (uo so:Nat)(H:Heap)(u:UN)(f n e i:Nat)(fr:List Int)(B C:AV)(X:IRes):Prop :=
 ∃ r' Hd,X=some (.exit i,r',[],⟨Hd,e⟩)/\Lk uo so H u Hd (.rsl f 0 n n 1) B C/\ae Hd f=some (.cells (ux fr))/\r'.a.a.a=.ptr so 0
theorem vz {f n e:Nat}{B C:AV}(hn:n<=90000)(hf:aa H<=f):∀ (k i:Nat),k+i=n->∀ (fu:Nat),k<fu->∀ (Hc:Heap),Lk uo so H u Hc (.rsl f 0 n n 1) B C->ae Hc f=some (.cells (ux (List.replicate i (-1)++List.replicate k 0)))->∀ (r:RG),r.a.a.a=.ptr so 0 ->
  (r.a.d.b=.int .i64 (n:Int)/\r.a.d.c=.int .i64 (i:Int)) ->
  X8 uo so H u f n e 0 (List.replicate n (-1)) B C (am (tg (orc CC M)) fu r [] ⟨Hc,e⟩):=by
 intro k
 induction k with
 | zero =>
   intro i hi fu hfu Hc L hg r h0 ⟨h25,h26⟩;obtain ⟨fu',rfl⟩ : ∃ f,fu=f+1:=⟨fu-1,by omega⟩
   have:i=n:=by omega
   subst this;have hc:decide ((i:Int)<(i:Int))=false:=by simp
   simp only[am,tg,CQ,SIM,ST0,ST1,h25,h26,hc];exact ⟨_,Hc,rfl,L,by simpa using hg,by first|exact h0⟩
 | succ k ih =>
   intro i hi fu hfu Hc L hg r h0 ⟨h25,h26⟩;obtain ⟨fu',rfl⟩ : ∃ f,fu=f+1:=⟨fu-1,by omega⟩
   have hc:decide ((i:Int)<(n:Int))=true:=by simp;omega
   have ha:bP (i:Int) 1=((i+1:Nat):Int):=aW i 1 (by unfold natMax;omega)
   have hias:=eO (N:=f) (n:=n) (v:=i) (by omega)
   have hsto:=λe=>Ns (e:=e) hg (i:=i) (by simp) (-1)
   have hset:ak (List.replicate i (-1:Int)++List.replicate (k+1) 0) i (-1)=List.replicate (i+1) (-1)++List.replicate k 0:=by
    have h1:List.replicate (i+1) (-1:Int)=List.replicate i (-1)++[-1]:=List.replicate_succ';rw[aR,List.set_append_right _ _ (by simp),List.length_replicate,Nat.sub_self,h1,List.append_assoc]
    rfl
   rw[hset] at hsto;have hob:=L.ob;have key:=ih (i+1) (by omega) fu' (by omega) (ak Hc f (.cells (ux (List.replicate (i+1) (-1)++List.replicate k 0)))) (L.put hf _) (aF hg _)
   simp only[am,tg,CQ,N8,Lv,MF,SIM,ST0,ST1,h0,h25,h26,hc,hob,hias,hsto,ha,Nat.reduceAdd,Nat.reduceLeDiff];exact key _ (by first|rfl|exact h0) ⟨by first|rfl|exact h25,rfl⟩
theorem xT {f n e:Nat}{B C:AV}(hn:n<=90000)(hf:aa H<=f){fr' : List Int}(hE:u.eqs.length<=90000):∀ (k i:Nat),k+i=u.eqs.length->∀ (fu:Nat),k<fu->∀ (Hc:Heap) (fr:List Int),fr.length=n->frS ((u.eqs.map EqF.dst).drop i) i fr=some fr'->Lk uo so H u Hc (.rsl f 0 n n 1) B C->ae Hc f=some (.cells (ux fr))->∀ (r:RG),r.a.a.a=.ptr so 0 ->
  (r.a.f.c=u.E/\r.a.f.d=.int .i64 (u.eqs.length:Int)/\r.a.f.e=.int .i64 (i:Int)) ->
  X8 uo so H u f n e 2 fr' B C (am (oL (orc CC M)) fu r [] ⟨Hc,e⟩):=by
 intro k
 induction k with
 | zero =>
   intro i hi fu hfu Hc fr hfl hs L hg r h0 ⟨h42,h43,h44⟩;obtain ⟨fu',rfl⟩ : ∃ f,fu=f+1:=⟨fu-1,by omega⟩
   have:i=u.eqs.length:=by omega
   subst this;have hc:decide ((u.eqs.length:Int)<(u.eqs.length:Int))=false:=by simp
   rw[List.drop_of_length_le (by simp)] at hs
   simp only[frS,SJ] at hs;subst hs;simp only[am,oL,HE,SIM,ST0,ST1,h43,h44,hc];exact ⟨_,Hc,rfl,L,hg,by first|exact h0⟩
 | succ k ih =>
   intro i hi fu hfu Hc fr hfl hs L hg r h0 ⟨h42,h43,h44⟩;obtain ⟨fu',rfl⟩ : ∃ f,fu=f+1:=⟨fu-1,by omega⟩
   have hlt:i<u.eqs.length:=by omega
   have hc:decide ((i:Int)<(u.eqs.length:Int))=true:=by simp;omega
   have ha:bP (i:Int) 1=((i+1:Nat):Int):=aW i 1 (by unfold natMax;omega)
   have hq:u.eqs[i]?=some u.eqs[i]:=by simp[hlt]
   have hmem:=List.getElem_mem hlt
   have hd:(u.eqs.map EqF.dst).drop i=u.eqs[i].dst::(u.eqs.map EqF.dst).drop (i+1):=by
    rw[<-List.map_drop,List.drop_eq_getElem_cons hlt,List.map_cons,List.map_drop]
   generalize u.eqs[i]=q at hq hmem hd;rw[hd] at hs;simp only[frS] at hs
   split at hs
   ·cases hs
   ·rename_i x hx;have hdl:q.dst<n:=by rw[<-hfl];exact bj hx
    have U:=L.U;have hat:=zp U.e hq;have hok:=U.eok hmem;have hst:=λe=>GX (e:=e) hok
    have hob:=L.ob;have hob1:=ay hob [.cells q.l];have hdo:ae (Hc++[AObj.cells q.l]) (aa Hc)=some (.cells q.l):=by rw[au];rfl
    have hias:=eO (N:=f) (n:=n) (v:=q.dst) hdl;have hg1:=ay hg [.cells q.l];have hsto:=λe=>Ns (e:=e) hg1 (i:=q.dst) (by omega) (i:Int)
    have key:=ih (i+1) (by omega) fu' (by omega) (ak (Hc++[.cells q.l]) f (.cells (ux (ak fr q.dst (i:Int))))) (ak fr q.dst (i:Int)) (by rw[<-ai,ar,ai];exact hfl) hs ((L.ap _).put hf _) (aF hg1 _)
    simp only[am,oL,HE,M4,Dj,FE,SIM,ST0,ST1,h0,h42,h43,h44,hc,hat,hst,hob1,hdo,hias,hsto,ha,Nat.reduceAdd,Nat.reduceLeDiff];exact key _ (by first|rfl|exact h0) ⟨by first|rfl|exact h42,by first|rfl|exact h43,rfl⟩
end
noncomputable def Bt (fr:List Int)(i:Nat):List Nat->List Nat->List (List Nat)->Option (List Nat×List (List Nat))
 | [],L,X=>some (L,X)
 | v::r,L,X=>match ae fr v with
   | none=>none
   | some (.negSucc _)=>Bt fr i r L X
   | some (.ofNat k)=>match ae L i,ae X k with
     | some a,some xs=>cond (Nat.blt a 90000&&Nat.blt xs.length 90000) (Bt fr i r (ak L i (a+1)) (ak X k (xs++[i]))) none
     | _,_=>none
theorem yx {uo off b k:Nat}{H:Heap}{V:AV}{xs cs:List AV}(h:LvI uo H k V xs)(hn:xs≠[])(hcs:ae H uo=some (.cells cs))(ho:off+1<=aa cs)(hb:b<=uo) :
  aq 1 (.ptr uo off) V ⟨H,b⟩=some ⟨ak H uo (.cells (cJ cs off [V])),b⟩:=by
 rcases h with ⟨h0,_⟩|⟨h0,id,g,rfl,hg,hu,hw⟩
 ·exact absurd h0 hn
 ·have hid:id<aa H:=by rw[ai];exact bj hg
  have low:∀ L,AV.low L (.sl k xs (.live id g))=(aH L xs&&decide (id<L)):=λL=>by simp[AV.low,Lin.low]
  have e1:dY (aa H) (.sl k xs (.live id g))=true:=by rw[bM,low,hw];simpa using hid
  have e2:dY (uo+1) (.sl k xs (.live id g))=false:=by rw[bM,low];simp;intro _;omega
  have e3:Nat.ble (Nat.add off 1) (aa cs)=true:=by rw[dt];simpa using ho
  have e4:min b uo=b:=Nat.min_eq_left hb;have e5:Nat.beq (aa [AV.sl k xs (.live id g)]) 1=true:=rfl;have e6:List.all [AV.sl k xs (.live id g)] AV.one=true:=rfl;have e7:AV.cells (.sl k xs (.live id g))=[.sl k xs (.live id g)]:=rfl;simp only[aq,hcs,dL,e1,e3,e5,e6,e7,Bool.and_self,cond_true,fZ,e2,cond_false,e4]
theorem IU (cs:List AV)(k:Nat)(v:AV):cJ cs k [v]=ak cs k v:=rfl
structure NxR (Hc:Heap)(x:Nat)(X:List (List Nat))(vs:List AV):Prop where
 g:ae Hc x=some (.cells vs)
 len:vs.length=X.length
 at_:∀ k l v,ae X k=some l->ae vs k=some v->LvI x Hc 1 v (l.map inV)
 dj:∀ j k v w,j≠k->ae vs j=some v->ae vs k=some w->∀ q∈nmA v,q∉nmA w
def Nx (Hc:Heap)(x:Nat)(X:List (List Nat)):Prop:=∃ vs,NxR Hc x X vs
theorem fh {α:Type}{l:List α}{n:Nat}(h:n<l.length)(v:α):ae (ak l n v) n=some v:=by
 rw[az,aR,List.getElem?_set_self h]
theorem mE {α:Type}{l:List α}{n:Nat}(h:n<l.length):∃ v,ae l n=some v:=⟨l[n],by rw[az];simp[h]⟩
theorem NxR.to {Hc Hd:Heap}{x:Nat}{X:List (List Nat)}{vs:List AV}(N:NxR Hc x X vs)(hl:aa Hc<=aa Hd)(hf:∀ q,x<=q->q<aa Hc->ae Hd q=ae Hc q):NxR Hd x X vs :=
 ⟨by rw[hf x (Nat.le_refl _) (bH N.g)];exact N.g,N.len,λk l v h1 h2=>(N.at_ k l v h1 h2).mono hl (λq hq hlt=>hf q (by have:=((N.at_ k l v h1 h2).lt q hq).1;omega) hlt),N.dj⟩
theorem NxR.app {Hc:Heap}{x k:Nat}{X:List (List Nat)}{vs:List AV}{xs:List Nat}(N:NxR Hc x X vs)(hk:ae X k=some xs)(i f:Nat)(hm:CC.mutT f 22=false)(hl:xs.length+1<=2 ^ 24) :
  ∃ v V' H2 H3,ae vs k=some v/\(∀ e lin,aw CC f 22 v (.sl 1 [inV i] lin) ⟨Hc,e⟩=some (V',⟨H2,e⟩))/\ae H2 x=some (.cells vs)/\(∀ b,b<=x->aq 1 (.ptr x k) V' ⟨H2,b⟩=some ⟨H3,b⟩)/\Nx H3 x (ak X k (xs++[i]))/\aa Hc<=aa H3/\(∀ q,q<x->ae H3 q=ae Hc q)/\(∀ q,q<x->ae H2 q=ae Hc q):=by
 have hkl:k<vs.length:=by rw[N.len];exact bj hk
 obtain ⟨v,hv⟩:=mE hkl;have hL:=N.at_ k xs v hk hv;have hxl:=bH N.g;obtain ⟨V',H2,ap,L2,l2,f2,n2⟩:=n6 hm hL i hl hxl;have hx2:ae H2 x=some (.cells vs):=by rw[f2 x hxl (λhmm=>by have:=(hL.lt _ hmm).1;omega),N.g]
 have st:=λb hb=>yx (b:=b) (off:=k) L2 (by simp) hx2 (by rw[ai];omega) hb
 rw[IU] at st;have f3:∀ q,q≠x->ae (ak H2 x (.cells (ak vs k V'))) q=ae H2 q:=λq hq=>af hq _
 refine ⟨v,V',H2,_,hv,ap,hx2,st,⟨ak vs k V',aF hx2 _,by rw[<-ai,ar,ai,N.len,<-ai,<-ai,ar],?_,?_⟩,by rw[ar];exact l2,λq hq=>?_,λq hq=>f2 q (by omega) (λhmm=>by have:=(hL.lt _ hmm).1;omega)⟩
 ·intro j l w h1 h2
  by_cases hj:j=k
  ·subst hj;rw[fh (bj hk)] at h1;rw[fh hkl] at h2;simp only[SJ] at h1 h2;subst h1 h2;exact L2.mono (by rw[ar];exact Nat.le_refl _) (λq hq _=>f3 q (by have:=(L2.lt q hq).1;omega))
  ·rw[af hj] at h1 h2;have hw:=N.at_ j l w h1 h2;exact hw.mono (by rw[ar];exact l2) (λq hq hlt=>by rw[f3 q (by have:=(hw.lt q hq).1;omega),f2 q hlt (N.dj j k w v hj h2 hv q hq)])
 ·intro a b va wb hab ha hb q hq hqw
  by_cases h1:a=k
  ·subst h1;rw[fh hkl] at ha;simp only[SJ] at ha;subst ha;have hbk:b≠a:=λh=>hab h.symm
   rw[af hbk] at hb
   rcases n2 q hq with h|h
   ·exact N.dj a b v wb hab hv hb q h hqw
   ·have:=((N.at_ b _ wb (mE (by rw[<-N.len];exact bj hb)).choose_spec hb).lt q hqw).2;omega
  ·rw[af h1] at ha
   by_cases h2:b=k
   ·subst h2;rw[fh hkl] at hb;simp only[SJ] at hb;subst hb
    rcases n2 q hqw with h|h
    ·exact N.dj b a v va (λh=>h1 h.symm) hv ha q h hq
    ·have:=((N.at_ a _ va (mE (by rw[<-N.len];exact bj ha)).choose_spec ha).lt q hq).2;omega
   ·rw[af h2] at hb;exact N.dj a b va wb hab ha hb q hq hqw
 ·rw[f3 q (by omega),f2 q (by omega) (λhmm=>by have:=(hL.lt _ hmm).1;omega)]
theorem Wi {H:Heap}{r i e:Nat}{xs:List Nat}(hg:ae H r=some (.cells (xs.map inV)))(hi:i<xs.length)(x:Nat):aq 1 (.ptr r i) (inV x) ⟨H,e⟩=some ⟨ak H r (.cells ((ak xs i x).map inV)),e⟩:=by
 have h1:i+1<=aa (xs.map inV):=by rw[ai,List.length_map];omega
 have h2:ak (xs.map inV) i (inV x)=(ak xs i x).map inV:=by simp only[aR,List.map_set]
 simp only[SIM,hg,h1,h2]
theorem tb {H:Heap}{r i:Nat}{xs:List Nat}{x:Nat}(hg:ae H r=some (.cells (xs.map inV)))(h:ae xs i=some x):ax none (.ptr r i) H=some (inV x):=by
 have:ae (xs.map inV) i=some (inV x):=by rw[az] at h ⊢;rw[List.getElem?_map,h];rfl
 simp only[sX,hg,this,kF]
theorem Vu {H:Heap}{r i:Nat}{vs:List AV}{x:AV}(hg:ae H r=some (.cells vs))(h:ae vs i=some x):ax none (.ptr r i) H=some x:=by
 simp only[sX,hg,h,kF]
theorem JS (l:List Nat):aQ CC 22 (RR l)=some (.int .i64 (l.length:Int)):=by
 cases l with
 | nil=>exact len22n
 | cons a l=>exact Cd (a::l) .dead
theorem K2 {l:List Nat}{j v:Nat}(h:ae l j=some v):aO 1 (RR l) (.int .i64 (j:Int))=some (.iptr [inV v]):=by
 cases l with
 | nil=>simp[az] at h
 | cons a l =>
   show aO 1 (.sl 1 ((a::l).map inV) .dead) _=_;refine bO (v:=inV v) ?_;rw[az] at h ⊢;rw[List.getElem?_map,h];rfl
structure Ls (uo so:Nat)(H:Heap)(u:UN)(f l x n m:Nat)(fr:List Int)(Hc:Heap)(L:List Nat)(X:List (List Nat)):Prop where
 k:Lk uo so H u Hc (.rsl f 0 n n 1) (.rsl l 0 m m 1) (.rsl x 0 m m 1)
 gf:ae Hc f=some (.cells (ux fr))
 gl:ae Hc l=some (.cells (L.map inV))
 gx:Nx Hc x X
 fl:fr.length=n
 ll:L.length=m
 xl:X.length=m
 o1:aa H<=f
 o2:f<l
 o3:l<x
theorem Ls.ap {uo so:Nat}{H:Heap}{u:UN}{f l x n m:Nat}{fr:List Int}{Hc:Heap}{L:List Nat}{X:List (List Nat)}(S:Ls uo so H u f l x n m fr Hc L X)(K:Heap):Ls uo so H u f l x n m fr (Hc++K) L X:=by
 obtain ⟨vs,N⟩:=S.gx;exact ⟨S.k.ap K,ay S.gf _,ay S.gl _,⟨vs,N.to (by rw[aB];omega) (λq _ hq=>by rw[ai] at hq;rw[az,az,List.getElem?_append_left hq])⟩,S.fl,S.ll,S.xl,S.o1,S.o2,S.o3⟩
section
variable {M:Memo}{uo so:Nat}{H:Heap}{u:UN}{f l x n m:Nat}{fr:List Int}
def YP (uo so:Nat)(H:Heap)(u:UN)(f l x n m:Nat)(fr:List Int)(i c:Nat)(L:List Nat)(X:List (List Nat))(R:IRes):Prop :=
 ∃ r' Hd,R=some (.exit c,r',[],⟨Hd,so⟩)/\Ls uo so H u f l x n m fr Hd L X/\r'.a.a.a=.ptr so 0/\r'.b.d.a=u.E/\r'.b.d.b=.int .i64 (u.eqs.length:Int)/\r'.b.d.c=.int .i64 (i:Int)
theorem vJ {ls:List Nat}(hls:ls.length<=90000){i:Nat}{L' : List Nat}{X' : List (List Nat)}:∀ (k j:Nat),k+j=ls.length->∀ (fu:Nat),k<fu->∀ (Hc:Heap) (L:List Nat) (X:List (List Nat)),Bt fr i (ls.drop j) L X=some (L',X')->Ls uo so H u f l x n m fr Hc L X->∀ (r:RG),
  (r.a.a.a=.ptr so 0/\r.b.d.a=u.E/\r.b.d.b=.int .i64 (u.eqs.length:Int)/\r.b.d.c=.int .i64 (i:Int))->r.a.a.f=.int .i64 (i:Int) ->
  (r.b.e.a=RR ls/\r.b.e.b=.int .i64 (ls.length:Int)/\r.b.e.c=.int .i64 (j:Int)) ->
  YP uo so H u f l x n m fr i 6 L' X' (am (lm (orc CC M)) fu r [] ⟨Hc,so⟩):=by
 intro k
 induction k with
 | zero =>
   intro j hj fu hfu Hc L X hs S r ⟨h0,h88,h89,h90⟩ h5 ⟨h96,h97,h98⟩;obtain ⟨fu',rfl⟩ : ∃ f,fu=f+1:=⟨fu-1,by omega⟩
   have:j=ls.length:=by omega
   subst this;have hc:decide ((ls.length:Int)<(ls.length:Int))=false:=by simp
   rw[List.drop_length] at hs;simp only[Bt,SJ,PJ] at hs;obtain ⟨rfl,rfl⟩:=hs;simp only[am,lm,qs,SIM,ST0,ST1,ST2,ST3,h97,h98,hc];exact ⟨_,Hc,rfl,S,by first|exact h0,by first|exact h88,by first|exact h89,by first|exact h90⟩
 | succ k ih =>
   intro j hj fu hfu Hc L X hs S r ⟨h0,h88,h89,h90⟩ h5 ⟨h96,h97,h98⟩;obtain ⟨fu',rfl⟩ : ∃ f,fu=f+1:=⟨fu-1,by omega⟩
   have hlt:j<ls.length:=by omega
   have hc:decide ((j:Int)<(ls.length:Int))=true:=by simp;omega
   have ha:bP (j:Int) 1=((j+1:Nat):Int):=aW j 1 (by unfold natMax;omega)
   have hd:ls.drop j=ls[j]::ls.drop (j+1):=List.drop_eq_getElem_cons hlt;have hg:ae ls j=some ls[j]:=by rw[az];simp[hlt]
   generalize ls[j]=v at hd hg;have hi8:=K2 hg;have hob:=S.k.ob;rw[hd] at hs;simp only[Bt] at hs
   split at hs
   ·cases hs
   ·rename_i kn hfr;have hvl:v<n:=by rw[<-S.fl];exact bj hfr
    have hias:=eO (N:=f) (n:=n) (v:=v) hvl;have hld:=TL S.gf hfr;have key:=ih (j+1) (by omega) fu' (by omega) Hc L X hs S
    have hge:decide ((0:Int)<=Int.negSucc kn)=false:=by simp
    simp only[am,lm,qs,uU,vI,v6,vG,SIM,ST0,ST1,ST2,ST3,h0,h5,h96,h97,h98,hc,hi8,hob,hias,hld,hge,ha,Nat.reduceAdd,Nat.reduceLeDiff];exact key _ ⟨by first|rfl|exact h0,by first|rfl|exact h88,by first|rfl|exact h89,by first|rfl|exact h90⟩ (by first|rfl|exact h5) ⟨by first|rfl|exact h96,by first|rfl|exact h97,rfl⟩
   ·rename_i kn hfr
    split at hs
    ·rename_i a xs hL hX;cases hcd:(Nat.blt a 90000&&Nat.blt xs.length 90000) with
     | false=>rw[hcd] at hs;cases hs
     | true =>
       rw[hcd] at hs;simp only[cond_true] at hs;simp only[Bool.and_eq_true,Nat.blt_eq] at hcd;have hvl:v<n:=by rw[<-S.fl];exact bj hfr
       have hias:=eO (N:=f) (n:=n) (v:=v) hvl;have hld:ax none (.ptr f v) Hc=some (.int .i64 (kn:Int)):=TL S.gf hfr;have hil:i<m:=by rw[<-S.ll];exact bj hL
       have hkl:kn<m:=by rw[<-S.xl];exact bj hX
       have hias2:=eO (N:=l) (n:=m) (v:=i) hil;have hld2:=tb S.gl hL;have ha2:bP (a:Int) 1=((a+1:Nat):Int):=aW a 1 (by unfold natMax;omega)
       have hst2:=λe=>Wi (e:=e) S.gl (i:=i) (by rw[S.ll];exact hil) (a+1)
       obtain ⟨vs,N0⟩:=S.gx;have hlx:=bH S.gl;have o1:=S.o1;have o2:=S.o2;have o3:=S.o3;have N1:NxR (ak Hc l (.cells ((ak L i (a+1)).map inV))) x X vs:=N0.to (by rw[ar];exact Nat.le_refl _) (λq hq _=>af (by omega) _)
       obtain ⟨w,V',H2,H3,hw,hap,hx2,hst3,N3,l3,f3,f2⟩:=N1.app hX i 59 (by kernel_rfl) (by omega)
       have k1:=S.k.put (r:=l) (by omega) (.cells ((ak L i (a+1)).map inV))
       have hias3:=eO (N:=x) (n:=m) (v:=kn) hkl;have hsl:=S.k.sl;have hob1:=k1.ob;have hob2:ae H2 so=some (.cells [.ptr uo 0,.rsl f 0 n n 1,.rsl l 0 m m 1,.rsl x 0 m m 1]):=by rw[f2 so (by omega),hob1]
       have hldw:=Vu N1.g hw;have hb22:=ju i;have hsx:AV.same (.rsl x 0 m m 1) (.rsl x 0 m m 1)=true:=by simp[AV.same]
       have hst3':=hst3 so (by omega)
       have S3:Ls uo so H u f l x n m fr H3 (ak L i (a+1)) (ak X kn (xs++[i])):=by
        refine ⟨⟨by rw[f3 so (by omega),hob1],λq hq hs=>?_,?_,k1.U0,k1.su,k1.sn,k1.sl⟩,by rw[f3 f (by omega),af (by omega)];exact S.gf,by rw[f3 l (by omega)];exact aF S.gl _,N3,S.fl,by rw[<-ai,ar,ai];exact S.ll,by rw[<-ai,ar,ai];exact S.xl,o1,o2,o3⟩
        ·rw[f3 q (by omega)];exact k1.fr q hq hs
        ·have:=k1.len;omega
       have key:=ih (j+1) (by omega) fu' (by omega) H3 _ _ hs S3
       have hge:decide ((0:Int)<=(kn:Int))=true:=by simp
       generalize a+1=a1 at *;have hgl:=S.gl;have hle:i+1<=aa (L.map inV):=by rw[ai,List.length_map,S.ll];omega
       have hsl2:ak (L.map inV) i (inV a1)=(ak L i a1).map inV:=by simp only[aR,List.map_set]
       simp only[am,lm,qs,uU,vI,v6,Ft,D7,vG,SIM,ST0,ST1,ST2,ST3,h0,h5,h96,h97,h98,hc,hi8,hob,hias,hld,hge,hias2,hld2,ha2,hgl,hle,hsl2,hob1,hias3,hldw,hb22,hap,hob2,hsx,hst3',ha,Nat.reduceAdd,Nat.reduceLeDiff];exact key _ ⟨by first|rfl|exact h0,by first|rfl|exact h88,by first|rfl|exact h89,by first|rfl|exact h90⟩ (by first|rfl|exact h5) ⟨by first|rfl|exact h96,by first|rfl|exact h97,rfl⟩
    ·cases hs
end
noncomputable def uw (fr:List Int):List (List Nat)->Nat->List Nat->List (List Nat)->Option (List Nat×List (List Nat))
 | [],_,L,X=>some (L,X)
 | ls::r,i,L,X=>match Bt fr i ls L X with
   | none=>none
   | some (L',X')=>uw fr r (i+1) L' X'
theorem readsL_len:∀ l:List AtF,(readsL l).length<=l.length
 | []=>Nat.le_refl _
 | a::l=>by
   have:=readsL_len l;simp only[readsL];cases a.c with
   | true=>simp only[cond_true,List.length_cons];omega
   | false=>simp only[cond_false,List.length_cons];omega
theorem P4 (a b c d:AV):eK (some 4) [a,b,c,d] 0=some (.agg [a,b,c,d]):=rfl
theorem OX (rec:RecT):z59.sh rec=ac (zi rec) (ac (zw rec) (ac (aG 0 (aK (tg rec))) (ac (zX rec) (ac (aG 2 (aK (oL rec))) (ac (ac (rb rec) (ac (qC rec) (rN rec))) (aG 4 (aK (fC rec)))))))):=by
 simp only[z59,ec]
section
variable {M:Memo}{uo so:Nat}{H:Heap}{u:UN}{f l x n m:Nat}{fr:List Int}
def YY (uo so:Nat)(H:Heap)(u:UN)(f l x n m:Nat)(fr:List Int)(L:List Nat)(X:List (List Nat))(R:IRes):Prop :=
 ∃ r' Hd,R=some (.exit 4,r',[],⟨Hd,so⟩)/\Ls uo so H u f l x n m fr Hd L X
theorem wL (h82:∀ a,M 82 a=none)(hE:u.eqs.length<=90000)(hA:∀ q∈u.eqs,q.args.length<=90000){L' : List Nat}{X' : List (List Nat)}:∀ (k i:Nat),k+i=u.eqs.length->∀ (fu:Nat),k<fu->∀ (Hc:Heap) (L:List Nat) (X:List (List Nat)),uw fr ((u.eqs.map λq=>readsL q.args).drop i) i L X=some (L',X')->Ls uo so H u f l x n m fr Hc L X->∀ (r:RG),r.a.a.a=.ptr so 0 ->
  (r.b.d.a=u.E/\r.b.d.b=.int .i64 (u.eqs.length:Int)/\r.b.d.c=.int .i64 (i:Int)) ->
  YY uo so H u f l x n m fr L' X' (am (fC (orc CC M)) fu r [] ⟨Hc,so⟩):=by
 intro k
 induction k with
 | zero =>
   intro i hi fu hfu Hc L X hs S r h0 ⟨h88,h89,h90⟩;obtain ⟨fu',rfl⟩ : ∃ f,fu=f+1:=⟨fu-1,by omega⟩
   have:i=u.eqs.length:=by omega
   subst this;have hc:decide ((u.eqs.length:Int)<(u.eqs.length:Int))=false:=by simp
   rw[List.drop_of_length_le (by simp)] at hs
   simp only[uw,SJ,PJ] at hs;obtain ⟨rfl,rfl⟩:=hs;simp only[am,fC,xO,SIM,ST0,ST1,ST2,ST3,h89,h90,hc];exact ⟨_,Hc,rfl,S⟩
 | succ k ih =>
   intro i hi fu hfu Hc L X hs S r h0 ⟨h88,h89,h90⟩;obtain ⟨fu',rfl⟩ : ∃ f,fu=f+1:=⟨fu-1,by omega⟩
   have hlt:i<u.eqs.length:=by omega
   have hc:decide ((i:Int)<(u.eqs.length:Int))=true:=by simp;omega
   have ha:bP (i:Int) 1=((i+1:Nat):Int):=aW i 1 (by unfold natMax;omega)
   have hq:u.eqs[i]?=some u.eqs[i]:=by simp[hlt]
   have hmem:=List.getElem_mem hlt
   have hd:(u.eqs.map λq=>readsL q.args).drop i=readsL u.eqs[i].args::(u.eqs.map λq=>readsL q.args).drop (i+1):=by
    rw[<-List.map_drop,List.drop_eq_getElem_cons hlt,List.map_cons,List.map_drop]
   generalize u.eqs[i]=q at hq hmem hd;rw[hd] at hs;simp only[uw] at hs
   split at hs
   ·cases hs
   ·rename_i L1 X1 hin;have U:=S.k.U;have hat:=zp U.e hq;have hok:=U.eok hmem;have hst:=λe=>GX (e:=e) hok
    have hlz:aa (Hc++[AObj.cells q.l])=aa Hc+1:=by rw[aB];rfl
    have hok1:q.ok (aa (Hc++[AObj.cells q.l])):=⟨hok.1,Lin.low_mono (by omega) _ hok.2⟩
    have hR:=HC (H:=Hc++[.cells q.l]) h82 (hA q hmem) hok1;rw[hlz] at hR;have hob:=S.k.ob;have hdo:ae (Hc++[AObj.cells q.l]) (aa Hc)=some (.cells q.l):=by rw[au];rfl
    have hrl:=JS (readsL q.args);have hsl:=S.k.sl;have hlen:=S.k.len;have hmn:min so (aa Hc+1)=so:=Nat.min_eq_left (by omega)
    have lp:=vJ (M:=M) (ls:=readsL q.args) (by have:=readsL_len q.args;have:=hA q hmem;omega) (i:=i) (readsL q.args).length 0 rfl 100000 (by have:=readsL_len q.args;have:=hA q hmem;omega) (Hc++[.cells q.l]) L X (by rw[List.drop_zero];exact hin) (S.ap _)
    obtain ⟨r1,hr0,hr5,hr6,hpre⟩ : ∃ r1,(r1.a.a.a=.ptr so 0/\r1.b.d.a=u.E/\r1.b.d.b=.int .i64 (u.eqs.length:Int)/\r1.b.d.c=.int .i64 (i:Int))/\r1.a.a.f=.int .i64 (i:Int)/\(r1.b.e.a=RR (readsL q.args)/\r1.b.e.b=.int .i64 ((readsL q.args).length:Int)/\r1.b.e.c=.int .i64 ((0:Nat):Int)) /\
      am (fC (orc CC M)) (fu'+1) r [] ⟨Hc,so⟩=di (am (fC (orc CC M)) fu') (di (uQ (orc CC M)) (cM 5 (cM 6 (am (lm (orc CC M)) 100000 r1 [] ⟨Hc++[.cells q.l],so⟩)))):=by
     have hl1:am (fC (orc CC M)) (fu'+1) r [] ⟨Hc,so⟩=di (am (fC (orc CC M)) fu') (fC (orc CC M) r [] ⟨Hc,so⟩):=rfl;rw[hl1];generalize am (fC (orc CC M)) fu'=F;simp only[fC,xO,FT,Er,SIM,ST0,ST1,ST2,ST3,h0,h88,h89,h90,hc,hat,hst,hdo,P4,hR,hmn,hrl,Nat.reduceAdd,Nat.reduceLeDiff];exact ⟨_,⟨by first|rfl|exact h0,by first|rfl|exact h88,by first|rfl|exact h89,by first|rfl|exact h90⟩,rfl,⟨rfl,rfl,rfl⟩,rfl⟩
    obtain ⟨r2,Hd,b1,b2,b3,b4,b5,b6⟩:=lp r1 hr0 hr5 hr6;rw[hpre,b1];have key:=ih (i+1) (by omega) fu' (by omega) Hd L1 X1 hs b2
    simp only[uQ,SIM,ST0,ST1,ST2,ST3,b6,ha,Nat.reduceAdd,Nat.reduceLeDiff];exact key _ (by first|rfl|exact b3) ⟨by first|rfl|exact b4,by first|rfl|exact b5,rfl⟩
end
noncomputable def DA (n:Nat)(dst:List Nat)(rd:List (List Nat)):Option (List Nat×List (List Nat)):=match frS dst 0 (List.replicate n (-1)) with
 | none=>none
 | some fr=>uw fr rd 0 (List.replicate rd.length 0) (List.replicate rd.length [])
theorem frS_len:∀ (l:List Nat) (i:Nat) (fr fr' : List Int),frS l i fr=some fr'->fr'.length=fr.length
 | [],i,fr,fr',h=>by simp only[frS,SJ] at h;rw[h]
 | d::l,i,fr,fr',h=>by
   simp only[frS] at h
   split at h
   ·cases h
   ·rw[frS_len l _ _ _ h,<-ai,ar,ai]
theorem XR (a b c d v:AV):cJ [a,b,c,d] 1 [v]=[a,v,c,d]:=rfl
theorem XC (a b c d v:AV):cJ [a,b,c,d] 2 [v]=[a,b,v,d]:=rfl
theorem XF (a b c d v:AV):cJ [a,b,c,d] 3 [v]=[a,b,c,v]:=rfl
theorem OM {Hc:Heap}{x m:Nat}(h:ae Hc x=some (.cells (List.replicate m .nils))):Nx Hc x (List.replicate m []):=by
 have key:∀ {k:Nat} {v:AV},ae (List.replicate m AV.nils) k=some v->v=.nils:=λ{k v} hk=>by
  rw[az] at hk;rw[List.getElem?_replicate] at hk
  split at hk<;>simp_all
 refine ⟨_,h,by simp,λk l v h1 h2=>?_,λj k v w _ h1 h2 q hq=>?_⟩
 ·have h3:l=[]:=by
   rw[az,List.getElem?_replicate] at h1
   split at h1<;>simp_all
  rw[key h2,h3];exact .inl ⟨rfl,rfl⟩
 ·rw[key h1] at hq;cases hq
section
variable {M:Memo}{uo so:Nat}{H:Heap}{u:UN}
theorem KD (h59:∀ a,M 59 a=none)(h82:∀ a,M 82 a=none)(hv:u.vars<=90000)(hE:u.eqs.length<=90000)(hA:∀ q∈u.eqs,q.args.length<=90000)(U:UI uo H u)(hso:ae H so=some (.cells [.ptr uo 0,.nils,.nils,.nils]))(sn:so∉u.ns){L:List Nat}{X:List (List Nat)}
  (hp:DA u.vars (u.eqs.map EqF.dst) (u.eqs.map λq=>readsL q.args)=some (L,X)) :
  ∃ f l x fr H',orc CC M 59 [.ptr so 0] H=some (.ret Abs.undef H' so)/\Ls uo so H u f l x u.vars u.eqs.length fr H' L X:=by
 unfold DA at hp
 split at hp
 ·cases hp
 rename_i fr hfr;rw[List.length_map] at hp;have su:so≠uo:=λh=>by rw[h,U.ob] at hso;simp at hso
 have sl:=bH hso;have e0:(envOf [.ptr so 0] 0 env0).a.a.a=.ptr so 0:=rfl;have L0:Lk uo so H u (H++[.cells (List.replicate u.vars (mH 0))]) .nils .nils .nils:=⟨ay hso _,λq hq _=>by rw[ai] at hq;rw[az,az,List.getElem?_append_left hq],by rw[aB];omega,U,su,sn,sl⟩
 have hlz:aa (H++[AObj.cells (List.replicate u.vars (mH 0))])=aa H+1:=by rw[aB];rfl
 have st0:=λb hb=>kW (k:=1) (r:=aa H) (n:=u.vars) (b:=b) (off:=1) (H:=H++[.cells (List.replicate u.vars (mH 0))]) (by omega) sl L0.ob (by rw[ai];simp) hb
 rw[XR] at st0;have L1:=L0.set (.rsl (aa H) 0 u.vars u.vars 1) .nils .nils
 have gf1:ae (ak (H++[.cells (List.replicate u.vars (mH 0))]) so (.cells [.ptr uo 0,.rsl (aa H) 0 u.vars u.vars 1,.nils,.nils])) (aa H)=some (.cells (ux (List.replicate 0 (-1)++List.replicate u.vars 0))):=by
  rw[af (by omega),au]
  simp[az]
 obtain ⟨r0,hr0,hk0,s0⟩ : ∃ r,r.a.a.a=.ptr so 0/\(r.a.d.b=.int .i64 (u.vars:Int)/\r.a.d.c=.int .i64 ((0:Nat):Int)) /\
   ac (zi (orc CC M)) (zw (orc CC M)) (envOf [.ptr so 0] 0 env0) [] ⟨H,aa H⟩=some (.normal,r,[],⟨ak (H++[.cells (List.replicate u.vars (mH 0))]) so (.cells [.ptr uo 0,.rsl (aa H) 0 u.vars u.vars 1,.nils,.nils]),so⟩):=by
  generalize envOf [.ptr so 0] 0 env0=R at e0;have hu:=U.ob;have hms:=PM u.vars (by omega)
  have hst:=st0 (aa H) (by omega)
  have hob0:=L0.ob;rw[lR,hob0] at hst
  replace hst:dL 1 1 so _ (AV.rsl (aa H) 0 u.vars u.vars 1).cells _ _=_:=hst
  have hob:=L1.ob;have hln:=xq (aa H) u.vars;simp only[zi,zw,SIM,ST0,ST1,e0,hso,hu,MB,hms,hob0,hst,hob,hln,Nat.reduceAdd,Nat.reduceLeDiff];exact ⟨_,by first|rfl|exact e0,⟨rfl,rfl⟩,rfl⟩
 obtain ⟨r1,H1,s1,L2,gf2,hr1⟩:=vz (M:=M) (e:=so) hv (Nat.le_refl _) u.vars 0 rfl 100000 (by omega) _ L1 gf1 r0 hr0 hk0
 obtain ⟨r2,hr2,hk2,s2⟩ : ∃ r,r.a.a.a=.ptr so 0/\(r.a.f.c=u.E/\r.a.f.d=.int .i64 (u.eqs.length:Int)/\r.a.f.e=.int .i64 ((0:Nat):Int))/\zX (orc CC M) r1 [] ⟨H1,so⟩=some (.normal,r,[],⟨H1,so⟩):=by
  have hob:=L2.ob;have hu:=L2.U.ob;have hln:=HR L2.U.e;simp only[zX,SIM,ST0,ST1,hr1,hob,hu,lT,hln,Nat.reduceAdd,Nat.reduceLeDiff];exact ⟨_,by first|rfl|exact hr1,⟨rfl,rfl,rfl⟩,rfl⟩
 obtain ⟨r3,H2,s3,L3,gf3,hr3⟩:=xT (M:=M) (e:=so) hv (Nat.le_refl _) (fr':=fr) hE u.eqs.length 0 rfl 100000 (by omega) H1 (List.replicate u.vars (-1)) (by simp) (by rw[List.drop_zero];exact hfr) L2 gf2 r2 hr2 hk2
 have hlen3:=L3.len;have L4:=L3.ap [.cells (List.replicate u.eqs.length (mH 0))];have hlz4:aa (H2++[AObj.cells (List.replicate u.eqs.length (mH 0))])=aa H2+1:=by rw[aB];rfl
 have st4:=kW (k:=1) (r:=aa H2) (n:=u.eqs.length) (b:=so) (off:=2) (H:=H2++[.cells (List.replicate u.eqs.length (mH 0))]) (by omega) (by omega) L4.ob (by rw[ai];simp) (Nat.le_refl _)
 rw[XC] at st4;have L5:=L4.set (.rsl (aa H) 0 u.vars u.vars 1) (.rsl (aa H2) 0 u.eqs.length u.eqs.length 1) .nils;have gf5:ae (ak (H2++[.cells (List.replicate u.eqs.length (mH 0))]) so (.cells [.ptr uo 0,.rsl (aa H) 0 u.vars u.vars 1,.rsl (aa H2) 0 u.eqs.length u.eqs.length 1,.nils])) (aa H)=some (.cells (ux fr)):=by rw[af (by omega)];exact ay gf3 _
 have gl5:ae (ak (H2++[.cells (List.replicate u.eqs.length (mH 0))]) so (.cells [.ptr uo 0,.rsl (aa H) 0 u.vars u.vars 1,.rsl (aa H2) 0 u.eqs.length u.eqs.length 1,.nils])) (aa H2)=some (.cells ((List.replicate u.eqs.length 0).map inV)):=by
  rw[af (by omega),au]
  simp[az]
 generalize hH3:ak (H2++[.cells (List.replicate u.eqs.length (mH 0))]) so (.cells [.ptr uo 0,.rsl (aa H) 0 u.vars u.vars 1,.rsl (aa H2) 0 u.eqs.length u.eqs.length 1,.nils])=H3 at st4 L5 gf5 gl5;have hl3:aa H3=aa H2+1:=by rw[<-hH3,ar,hlz4]
 have L6:=L5.ap [.cells (List.replicate u.eqs.length .nils)];have hlz6:aa (H3++[AObj.cells (List.replicate u.eqs.length .nils)])=aa H3+1:=by rw[aB];rfl
 have st6:=kW (k:=1) (r:=aa H3) (n:=u.eqs.length) (b:=so) (off:=3) (H:=H3++[.cells (List.replicate u.eqs.length .nils)]) (by omega) (by omega) L6.ob (by rw[ai];simp) (Nat.le_refl _)
 rw[XF] at st6;have L7:=L6.set (.rsl (aa H) 0 u.vars u.vars 1) (.rsl (aa H2) 0 u.eqs.length u.eqs.length 1) (.rsl (aa H3) 0 u.eqs.length u.eqs.length 1);generalize hH4:ak (H3++[.cells (List.replicate u.eqs.length .nils)]) so (.cells [.ptr uo 0,.rsl (aa H) 0 u.vars u.vars 1,.rsl (aa H2) 0 u.eqs.length u.eqs.length 1,.rsl (aa H3) 0 u.eqs.length u.eqs.length 1])=H4 at st6 L7
 have S7:Ls uo so H u (aa H) (aa H2) (aa H3) u.vars u.eqs.length fr H4 (List.replicate u.eqs.length 0) (List.replicate u.eqs.length []):=by
  refine ⟨L7,by rw[<-hH4,af (by omega)];exact ay gf5 _,by rw[<-hH4,af (by omega)];exact ay gl5 _,OM (by rw[<-hH4,af (by omega),au];rfl),by rw[frS_len _ _ _ _ hfr];simp,by simp,by simp,Nat.le_refl _,?_,by omega⟩
  have:=bH gf3;omega
 obtain ⟨r4,hr4,hk4,s4⟩ : ∃ r,r.a.a.a=.ptr so 0/\(r.b.d.a=u.E/\r.b.d.b=.int .i64 (u.eqs.length:Int)/\r.b.d.c=.int .i64 ((0:Nat):Int))/\ac (rb (orc CC M)) (ac (qC (orc CC M)) (rN (orc CC M))) r3 [] ⟨H2,so⟩=some (.normal,r,[],⟨H4,so⟩):=by
  have hob3:=L3.ob;have hu3:=L3.U.ob;have hln3:=HR L3.U.e;have hob5:=L5.ob;have hu5:=L5.U.ob;have hob7:=L7.ob;have hu7:=L7.U.ob;have hms:=PM u.eqs.length (by omega)
  have hms2:=Vx u.eqs.length (by omega)
  have hob4:=L4.ob;have hob6:=L6.ob;rw[lR,hob4] at st4
  replace st4:dL 1 2 so _ (AV.rsl (aa H2) 0 u.eqs.length u.eqs.length 1).cells _ _=_:=st4
  rw[lR,hob6] at st6
  replace st6:dL 1 3 so _ (AV.rsl (aa H3) 0 u.eqs.length u.eqs.length 1).cells _ _=_:=st6
  simp only[rb,qC,rN,SIM,ST0,ST1,ST2,ST3,hr3,hob3,hu3,lT,hln3,hms,hob4,st4,hob5,hu5,hms2,hob6,st6,hob7,hu7,Nat.reduceAdd,Nat.reduceLeDiff];exact ⟨_,by first|rfl|exact hr3,⟨rfl,rfl,rfl⟩,rfl⟩
 obtain ⟨r5,H5,s5,S5⟩:=wL (M:=M) h82 hE hA (L':=L) (X':=X) u.eqs.length 0 rfl 100000 (by omega) H4 _ _ (by rw[List.drop_zero];exact hp) S7 r4 hr4 hk4
 refine ⟨_,_,_,_,H5,aL (z:=z59) (h59 _) (by kernel_rfl) rfl ?_,S5⟩
 have b0:∀ (i:Nat) (b:CZ) (r:RG) (s:St),aG i (aK b) r [] s=cM i (am b 100000 r [] s):=λ_ _ _ _=>rfl
 have hz:z59.sh (orc CC M) (envOf [.ptr so 0] 0 env0) [] ⟨H,aa H⟩=some (.normal,r5,[],⟨H5,so⟩):=by
  rw[OX,<-ec,bm,s0,bg,bm,b0,s1,bX,bg,bm,s2,bg,bm,b0,s3,bX,bg,bm,s4,bg,b0,s5,bX]
 rw[hz];have hgc:=dS (keep:=CC.keep 59) (base:=aa H) (e:=so) (v:=Abs.undef) (hp:=H5) (by omega)
 simp only[z59,SIM,hgc]
end
noncomputable def rdS:List Nat->Nat->List Nat
 | [],_=>[]
 | a::l,i=>cond (Nat.beq a 0) (i::rdS l (i+1)) (rdS l (i+1))
noncomputable def soIn:List Nat->List Nat->List Nat->Option (List Nat×List Nat)
 | [],L,R=>some (L,R)
 | i::r,L,R=>match ae L i with
   | none=>none
   | some a=>cond (Nat.beq a 0||Nat.ble 90000 a||Nat.ble 90000 R.length) none (soIn r (ak L i (Nat.pred a)) (cond (Nat.beq a 1) (R++[i]) R))
noncomputable def si (X:List (List Nat)):Nat->List Nat->List Nat->Nat->Option Nat
 | 0,_,_,_=>none
 | fu+1,L,R,n=>match R with
   | []=>some n
   | k::r=>match ae X k with
     | none=>none
     | some ls=>cond (Nat.ble 90000 ls.length) none (match soIn ls L r with
       | none=>none
       | some (L',r')=>si X fu L' r' (n+1))
theorem soIn_len:∀ (ls L R L' R' : List Nat),soIn ls L R=some (L',R')->L'.length=L.length
 | [],L,R,L',R',h=>by simp only[soIn,SJ,PJ] at h;rw[h.1]
 | i::r,L,R,L',R',h=>by
   simp only[soIn] at h
   split at h
   ·cases h
   ·rename_i a _;cases hcd:(Nat.beq a 0||Nat.ble 90000 a||Nat.ble 90000 R.length) with
    | true=>rw[hcd] at h;cases h
    | false =>
      rw[hcd] at h;rw[soIn_len r _ _ _ _ h,<-ai,ar,ai]
def RdA (b:Nat)(Hc:Heap)(V:AV)(acc:List Nat):Prop:=(acc=[]/\V=.nils)\/∃ id g,V=.sl 1 (acc.map inV) (.live id g)/\ae Hc id=some (.lin g)/\b<=id
theorem RdA.lt {b:Nat}{Hc:Heap}{V:AV}{acc:List Nat}(h:RdA b Hc V acc):∀ q∈nmA V,b<=q/\q<aa Hc:=by
 intro q hq
 rcases h with ⟨_,rfl⟩|⟨id,g,rfl,hg,hb⟩
 ·cases hq
 ·simp only[nmA,List.mem_singleton] at hq;subst hq;exact ⟨hb,bH hg⟩
theorem RdA.mono {b:Nat}{Hc Hd:Heap}{V:AV}{acc:List Nat}(h:RdA b Hc V acc)(hf:∀ q∈nmA V,ae Hd q=ae Hc q):RdA b Hd V acc:=by
 rcases h with h|⟨id,g,rfl,hg,hb⟩
 ·exact .inl h
 ·exact .inr ⟨id,g,rfl,by rw[hf id (by simp[nmA]),hg],hb⟩
theorem RdA.app {b f:Nat}(hf:CC.mutT f 22=false){Hc:Heap}{V:AV}{acc:List Nat}(h:RdA b Hc V acc)(n:Nat)(hl:acc.length+1<=2 ^ 24)(hb:b<=aa Hc) :
  ∃ V' H',(∀ e lin,aw CC f 22 V (.sl 1 [inV n] lin) ⟨Hc,e⟩=some (V',⟨H',e⟩))/\RdA b H' V' (acc++[n])/\aa Hc<=aa H'/\(∀ q,q<aa Hc->q∉nmA V->ae H' q=ae Hc q)/\(∀ q∈nmA V',q∈nmA V\/aa Hc<=q):=by
 rcases h with ⟨rfl,rfl⟩|⟨id,g,rfl,hg,hid⟩
 ·refine ⟨_,_,λe lin=>jf hf n lin Hc e,.inr ⟨aa Hc,0,rfl,by rw[au];rfl,hb⟩,by rw[aB];omega,λq hq _=>?_,λq hq=>?_⟩
  ·rw[ai] at hq;rw[az,az,List.getElem?_append_left hq]
  ·simp only[nmA,List.mem_singleton] at hq;exact .inr (by omega)
 ·refine ⟨_,_,λe lin=>ia hf n lin hg (by simpa using hl),.inr ⟨id,g+1,by simp,aF hg _,hid⟩,by rw[ar];exact Nat.le_refl _,λq hq hn=>?_,λq hq=>.inl hq⟩
  rw[af (by simp only[nmA,List.mem_singleton] at hn;exact hn)]
theorem RdA.len {b:Nat}{Hc:Heap}{V:AV}{acc:List Nat}(h:RdA b Hc V acc):aQ CC 22 V=some (.int .i64 (acc.length:Int)):=by
 rcases h with ⟨rfl,rfl⟩|⟨id,g,rfl,_⟩
 ·exact len22n
 ·exact Cd _ _
theorem cs22:CC.P.underlying 22=some (.slice 3)/\c8 CC 3=some 1:=⟨by kernel_rfl,by kernel_rfl⟩
theorem RdA.hd {b:Nat}{Hc:Heap}{V:AV}{k:Nat}{r:List Nat}(h:RdA b Hc V (k::r)):∃ V',aO 1 V (.int .i64 0)=some (.iptr [inV k])/\bz CC 22 V (some (.int .i64 1)) none none=some V'/\RdA b Hc V' r/\nmA V'=nmA V:=by
 rcases h with ⟨h,_⟩|⟨id,g,rfl,hg,hb⟩
 ·cases h
 ·refine ⟨.sl 1 (r.map inV) (.live id g),?_,ol cs22 (inV k) (r.map inV) (.live id g),.inr ⟨id,g,rfl,hg,hb⟩,rfl⟩;exact bO (i:=0) (v:=inV k) rfl
structure Sr (H2:Heap)(l:Nat)(Hc:Heap)(L:List Nat)(V O:AV)(R out:List Nat):Prop where
 fr:∀ q,q<aa H2->q≠l->ae Hc q=ae H2 q
 gl:ae Hc l=some (.cells (L.map inV))
 len:aa H2<=aa Hc
 oR:RdA (aa H2) Hc V R
 oO:RdA (aa H2) Hc O out
 dj:∀ q∈nmA V,q∉nmA O
theorem Sr.appR {H2 Hc:Heap}{l:Nat}{L:List Nat}{V O:AV}{R out:List Nat}(S:Sr H2 l Hc L V O R out)(hl2:l<aa H2)(n f:Nat)(hf:CC.mutT f 22=false)(hl:R.length+1<=2 ^ 24) :
  ∃ V' H',(∀ e lin,aw CC f 22 V (.sl 1 [inV n] lin) ⟨Hc,e⟩=some (V',⟨H',e⟩))/\Sr H2 l H' L V' O (R++[n]) out:=by
 obtain ⟨V',H',ap,R',l',f',n'⟩:=S.oR.app hf n hl S.len;refine ⟨V',H',ap,λq hq hql=>?_,?_,by have:=S.len;omega,R',S.oO.mono (λq hq=>f' q (S.oO.lt q hq).2 (λh=>S.dj q h hq)),λq hq ho=>?_⟩
 ·rw[f' q (by have:=S.len;omega) (λh=>by have:=(S.oR.lt q h).1;omega)];exact S.fr q hq hql
 ·rw[f' l (by have:=S.len;omega) (λh=>by have:=(S.oR.lt l h).1;omega)];exact S.gl
 ·rcases n' q hq with h|h
  ·exact S.dj q h ho
  ·have:=(S.oO.lt q ho).2;omega
theorem Sr.appO {H2 Hc:Heap}{l:Nat}{L:List Nat}{V O:AV}{R out:List Nat}(S:Sr H2 l Hc L V O R out)(hl2:l<aa H2)(n f:Nat)(hf:CC.mutT f 22=false)(hl:out.length+1<=2 ^ 24) :
  ∃ O' H',(∀ e lin,aw CC f 22 O (.sl 1 [inV n] lin) ⟨Hc,e⟩=some (O',⟨H',e⟩))/\Sr H2 l H' L V O' R (out++[n]):=by
 obtain ⟨V',H',ap,R',l',f',n'⟩:=S.oO.app hf n hl S.len;refine ⟨V',H',ap,λq hq hql=>?_,?_,by have:=S.len;omega,S.oR.mono (λq hq=>f' q (S.oR.lt q hq).2 (λh=>S.dj q hq h)),R',λq hq ho=>?_⟩
 ·rw[f' q (by have:=S.len;omega) (λh=>by have:=(S.oO.lt q h).1;omega)];exact S.fr q hq hql
 ·rw[f' l (by have:=S.len;omega) (λh=>by have:=(S.oO.lt l h).1;omega)];exact S.gl
 ·rcases n' q ho with h|h
  ·exact S.dj q hq h
  ·have:=(S.oR.lt q hq).2;omega
theorem Sr.setL {H2 Hc:Heap}{l:Nat}{L L' : List Nat}{V O:AV}{R out:List Nat}(S:Sr H2 l Hc L V O R out)(hl2:l<aa H2):Sr H2 l (ak Hc l (.cells (L'.map inV))) L' V O R out:=by
 refine ⟨λq hq hql=>by rw[af hql];exact S.fr q hq hql,aF S.gl _,by rw[ar];exact S.len,S.oR.mono (λq hq=>af ?_ _),S.oO.mono (λq hq=>af ?_ _),S.dj⟩
 ·have:=(S.oR.lt q hq).1;omega
 ·have:=(S.oO.lt q hq).1;omega
section
variable {M:Memo}{uo so:Nat}{H1 H2:Heap}{u:UN}{f l x n m:Nat}{fr:List Int}{L0:List Nat}{X:List (List Nat)}{e c0:Nat}
def RS (uo so c0:Nat)(V O:AV)(r:RG):Prop:=r.a.a.a=.ptr uo 0/\r.a.a.d=.ptr c0 0/\r.a.a.e=.ptr so 0/\r.a.a.f=O/\r.a.a.g=V
def Yi (H2:Heap)(l uo so c0 i e:Nat)(L R out:List Nat)(X:IRes):Prop :=
 ∃ r' Hd V O,X=some (.exit i,r',[],⟨Hd,e⟩)/\Sr H2 l Hd L V O R out/\RS uo so c0 V O r'
theorem wR (hl2:l<aa H2){L:List Nat}(hm:L.length=m)(hmm:m<=90000){O:AV}{out:List Nat}:∀ (k i:Nat),k+i=m->∀ (fu:Nat),k<fu->∀ (Hc:Heap) (V:AV) (R:List Nat),R.length<=i->Sr H2 l Hc L V O R out->∀ (r:RG),RS uo so c0 V O r ->
  (r.a.c.e=.rsl l 0 m m 1/\r.a.c.f=.int .i64 (m:Int)/\r.a.c.g=.int .i64 (i:Int)) ->
  Yi H2 l uo so c0 0 e L (R++rdS (L.drop i) i) out (am (lz (orc CC M)) fu r [] ⟨Hc,e⟩):=by
 intro k
 induction k with
 | zero =>
   intro i hi fu hfu Hc V R hRl S r hr ⟨h20,h21,h22⟩;obtain ⟨fu',rfl⟩ : ∃ f,fu=f+1:=⟨fu-1,by omega⟩
   have:i=m:=by omega
   subst this;have hc:decide ((i:Int)<(i:Int))=false:=by simp
   rw[<-hm,List.drop_length,hm];simp only[rdS,List.append_nil];simp only[am,lz,x8,SIM,ST0,ST1,h21,h22,hc];exact ⟨_,Hc,V,O,rfl,S,by first|exact hr⟩
 | succ k ih =>
   intro i hi fu hfu Hc V R hRl S r hr ⟨h20,h21,h22⟩;obtain ⟨h0,h3,h4,h5,h6⟩:=hr;obtain ⟨fu',rfl⟩ : ∃ f,fu=f+1:=⟨fu-1,by omega⟩
   have hlt:i<L.length:=by omega
   have hc:decide ((i:Int)<(m:Int))=true:=by simp;omega
   have ha:bP (i:Int) 1=((i+1:Nat):Int):=aW i 1 (by unfold natMax;omega)
   have hd:L.drop i=L[i]::L.drop (i+1):=List.drop_eq_getElem_cons hlt;have hg:ae L i=some L[i]:=by rw[az];simp[hlt]
   generalize L[i]=a at hd hg;have hias:=eO (N:=l) (n:=m) (v:=i) (by omega)
   have hld:=tb S.gl hg;rw[hd];simp only[rdS];cases hz:Nat.beq a 0 with
   | false =>
     have hcn:decide ((a:Int)=0)=false:=by
      have:decide ((a:Int)=0)=Nat.beq a 0:=pi a 0;rw[this,hz]
     have key:=ih (i+1) (by omega) fu' (by omega) Hc V R (by omega) S
     simp only[am,lz,x8,BY,Dq,Dt,SIM,ST0,ST1,h20,h21,h22,hc,hias,hld,hcn,ha,Nat.reduceAdd,Nat.reduceLeDiff];exact key _ ⟨by first|rfl|exact h0,by first|rfl|exact h3,by first|rfl|exact h4,by first|rfl|exact h5,by first|rfl|exact h6⟩ ⟨by first|rfl|exact h20,by first|rfl|exact h21,rfl⟩
   | true =>
     have hcn:decide ((a:Int)=0)=true:=by
      have:decide ((a:Int)=0)=Nat.beq a 0:=pi a 0;rw[this,hz]
     obtain ⟨V',H',ap,S'⟩:=S.appR hl2 i 32 (by kernel_rfl) (by omega)
     have hb22:=ju i;have key:=ih (i+1) (by omega) fu' (by omega) H' V' (R++[i]) (by simp;omega) S'
     rw[List.append_assoc] at key;simp only[am,lz,x8,BY,Dq,Lr,Dt,SIM,ST0,ST1,h6,h20,h21,h22,hc,hias,hld,hcn,hb22,ap,orVal,ha,Nat.reduceAdd,Nat.reduceLeDiff];exact key _ ⟨by first|rfl|exact h0,by first|rfl|exact h3,by first|rfl|exact h4,by first|rfl|exact h5,rfl⟩ ⟨by first|rfl|exact h20,by first|rfl|exact h21,rfl⟩
theorem xP (S0:Ls uo so H1 u f l x n m fr H2 L0 X){ls:List Nat}(hls:ls.length<=90000){W:AV}(hWl:aQ CC 22 W=some (.int .i64 (ls.length:Int)))(hWi:∀ j v,ae ls j=some v->aO 1 W (.int .i64 (j:Int))=some (.iptr [inV v])){O:AV}{out L' R' : List Nat}:∀ (k j:Nat),k+j=ls.length->∀ (fu:Nat),k<fu->∀ (Hc:Heap) (V:AV) (L R:List Nat),L.length=m->soIn (ls.drop j) L R=some (L',R')->Sr H2 l Hc L V O R out->∀ (r:RG),RS uo so c0 V O r ->
  (r.a.g.e=W/\r.a.g.f=.int .i64 (ls.length:Int)/\r.a.g.g=.int .i64 (j:Int)) ->
  Yi H2 l uo so c0 4 e L' R' out (am (lg (orc CC M)) fu r [] ⟨Hc,e⟩):=by
 intro k
 induction k with
 | zero =>
   intro j hj fu hfu Hc V L R hm hs S r hr ⟨h52,h53,h54⟩;obtain ⟨fu',rfl⟩ : ∃ f,fu=f+1:=⟨fu-1,by omega⟩
   have:j=ls.length:=by omega
   subst this;have hc:decide ((ls.length:Int)<(ls.length:Int))=false:=by simp
   rw[List.drop_length] at hs;simp only[soIn,SJ,PJ] at hs;obtain ⟨rfl,rfl⟩:=hs;simp only[am,lg,ru,SIM,ST0,ST1,h53,h54,hc];exact ⟨_,Hc,V,O,rfl,S,by first|exact hr⟩
 | succ k ih =>
   intro j hj fu hfu Hc V L R hm hs S r hr ⟨h52,h53,h54⟩;obtain ⟨h0,h3,h4,h5,h6⟩:=hr;obtain ⟨fu',rfl⟩ : ∃ f,fu=f+1:=⟨fu-1,by omega⟩
   have hlt:j<ls.length:=by omega
   have hc:decide ((j:Int)<(ls.length:Int))=true:=by simp;omega
   have ha:bP (j:Int) 1=((j+1:Nat):Int):=aW j 1 (by unfold natMax;omega)
   have hd:ls.drop j=ls[j]::ls.drop (j+1):=List.drop_eq_getElem_cons hlt;have hg:ae ls j=some ls[j]:=by rw[az];simp[hlt]
   generalize ls[j]=i at hd hg;have hi8:=hWi j i hg;rw[hd] at hs;simp only[soIn] at hs
   split at hs
   ·cases hs
   ·rename_i a hLa;cases hcd:(Nat.beq a 0||Nat.ble 90000 a||Nat.ble 90000 R.length) with
    | true=>rw[hcd] at hs;cases hs
    | false =>
      rw[hcd] at hs;simp only[cond_false] at hs;simp only[Bool.or_eq_false_iff] at hcd;obtain ⟨⟨hc1,hc2⟩,hc3⟩:=hcd;have ha1:a≠0:=λh=>by rw[h] at hc1;cases hc1
      have ha2:a<90000:=by
       have:¬ (90000<=a):=λh=>by rw[Nat.ble_eq_true_of_le h] at hc2;cases hc2
       omega
      have ha3:R.length<90000:=by
       have:¬ (90000<=R.length):=λh=>by rw[Nat.ble_eq_true_of_le h] at hc3;cases hc3
       omega
      obtain ⟨b,rfl⟩ : ∃ b,a=b+1:=⟨a-1,by omega⟩
      have hsub:f5 ((b+1:Nat):Int) 1=(b:Int):=by
       show f5 (.ofNat (b+1)) (.ofNat 1)=_;have h1:Nat.ble 1 (b+1)=true:=by rw[dt];simp
       have h2:Nat.ble (b+1) natMax=true:=by rw[dt,decide_eq_true_eq];unfold natMax;omega
       simp only[f5,h1,h2,Bool.and_self,cond_true];rfl
      have hil:i<m:=by rw[<-hm];exact bj hLa
      have hl2:=bH S0.gl;have hk:=S0.k.ob;have sl:=S0.k.sl;have ln:=S0.k.len;have o1:=S0.o1;have o2:=S0.o2;have hob:ae Hc so=some (.cells [.ptr uo 0,.rsl f 0 n n 1,.rsl l 0 m m 1,.rsl x 0 m m 1]):=by rw[S.fr so (by omega) (by omega),hk]
      have hias:=eO (N:=l) (n:=m) (v:=i) hil;have hld:=tb S.gl hLa;have hgl:=S.gl;have hle:i+1<=aa (L.map inV):=by rw[ai,List.length_map,hm];omega
      have hsl2:ak (L.map inV) i (inV b)=(ak L i b).map inV:=by simp only[aR,List.map_set]
      have S1:=S.setL (L':=ak L i b) hl2;have hob1:ae (ak Hc l (.cells ((ak L i b).map inV))) so=some (.cells [.ptr uo 0,.rsl f 0 n n 1,.rsl l 0 m m 1,.rsl x 0 m m 1]):=by rw[af (by omega),hob]
      have hLb:ae (ak L i b) i=some b:=fh (bj hLa) _;have hld1:=tb S1.gl hLb;have hm1:(ak L i b).length=m:=by rw[<-ai,ar,ai];exact hm
      have hpr:Nat.pred (b+1)=b:=rfl;rw[hpr] at hs;cases hz:Nat.beq (b+1) 1 with
      | false =>
        rw[hz] at hs;simp only[cond_false] at hs
        have hcn:decide ((b:Int)=0)=false:=by
         have h1:decide ((b:Int)=0)=Nat.beq b 0:=pi b 0;rw[h1];exact hz
        have key:=ih (j+1) (by omega) fu' (by omega) _ V (ak L i b) R hm1 hs S1
        simp only[am,lg,ru,wE,uz,vt,xc,SIM,ST0,ST1,ST2,ST3,h4,h52,h53,h54,hc,hi8,hob,hias,hld,hsub,hgl,hle,hsl2,hob1,hld1,hcn,ha,Nat.reduceAdd,Nat.reduceLeDiff];exact key _ ⟨by first|rfl|exact h0,by first|rfl|exact h3,by first|rfl|exact h4,by first|rfl|exact h5,by first|rfl|exact h6⟩ ⟨by first|rfl|exact h52,by first|rfl|exact h53,rfl⟩
      | true =>
        rw[hz] at hs;simp only[cond_true] at hs
        have hcn:decide ((b:Int)=0)=true:=by
         have h1:decide ((b:Int)=0)=Nat.beq b 0:=pi b 0;rw[h1];exact hz
        obtain ⟨V',H',ap,S'⟩:=S1.appR hl2 i 32 (by kernel_rfl) (by omega)
        have hb22:=ju i;have key:=ih (j+1) (by omega) fu' (by omega) _ V' (ak L i b) (R++[i]) hm1 hs S'
        simp only[am,lg,ru,wE,uz,vt,BZ,xc,SIM,ST0,ST1,ST2,ST3,h4,h6,h52,h53,h54,hc,hi8,hob,hias,hld,hsub,hgl,hle,hsl2,hob1,hld1,hcn,hb22,ap,orVal,ha,Nat.reduceAdd,Nat.reduceLeDiff];exact key _ ⟨by first|rfl|exact h0,by first|rfl|exact h3,by first|rfl|exact h4,by first|rfl|exact h5,rfl⟩ ⟨by first|rfl|exact h52,by first|rfl|exact h53,rfl⟩
end
theorem CT {b:Nat}{H:Heap}{W:AV}{ls:List Nat}(h:LvI b H 1 W (ls.map inV)):aQ CC 22 W=some (.int .i64 (ls.length:Int)):=by
 rcases h with ⟨h0,rfl⟩|⟨_,id,g,rfl,_⟩
 ·have:ls=[]:=by simpa using h0
  subst this;exact len22n
 ·exact Cd _ _
theorem CP {b:Nat}{H:Heap}{W:AV}{ls:List Nat}(h:LvI b H 1 W (ls.map inV)):∀ j v,ae ls j=some v->aO 1 W (.int .i64 (j:Int))=some (.iptr [inV v]):=by
 intro j v hv
 rcases h with ⟨h0,rfl⟩|⟨_,id,g,rfl,_⟩
 ·have:ls=[]:=by simpa using h0
  subst this;simp[az] at hv
 ·refine bO (v:=inV v) ?_;rw[az] at hv ⊢;rw[List.getElem?_map,hv];rfl
theorem Vl (n:Nat):ao CC 137 [(0,.ptr n 0)]=some (.agg [.ptr n 0,.nils,.nils,.nils]):=by kernel_rfl
theorem Uo (n L:Nat)(h:n<L):dN (.agg [.ptr n 0,.nils,.nils,.nils]) L=some (.cells [.ptr n 0,.nils,.nils,.nils],(.ptr · 0)):=by
 have h1:AV.low L (.agg [.ptr n 0,.nils,.nils,.nils])=true:=by simp[AV.low,aH,h]
 unfold dN;rw[if_pos ⟨rfl,h1⟩];rfl
theorem vZ {H Hc:Heap}(hl:aa H<=aa Hc)(h:∀ q,q<aa H->ae Hc q=ae H q):bw (aa H) Hc=H:=by
 rw[cW,ai];rw[ai,ai] at hl;rw[ai] at h;apply List.ext_getElem?;intro i
 by_cases hi:i<H.length
 ·rw[List.getElem?_take_of_lt hi];have:=h i hi;rw[az,az] at this;exact this
 ·rw[List.getElem?_eq_none (by rw[List.length_take];omega),List.getElem?_eq_none (by omega)]
section
variable {M:Memo}{uo so:Nat}{H1 H2:Heap}{u:UN}{f l x n m:Nat}{fr:List Int}{L0:List Nat}{X:List (List Nat)}{e c0:Nat}
def Y3 (H2:Heap)(l uo so c0 e c:Nat)(X:IRes):Prop :=
 ∃ r' Hd V O L out,X=some (.exit 2,r',[],⟨Hd,e⟩)/\Sr H2 l Hd L V O [] out/\RS uo so c0 V O r'/\out.length=c
theorem wW (S0:Ls uo so H1 u f l x n m fr H2 L0 X)(hm0:m<=90000){c:Nat}:∀ (k:Nat) (fu:Nat),k<=fu->∀ (Hc:Heap) (V O:AV) (L R out:List Nat),out.length+k<=1000000->L.length=m->si X k L R out.length=some c->Sr H2 l Hc L V O R out->∀ (r:RG),RS uo so c0 V O r ->
  Y3 H2 l uo so c0 e c (am (eN (orc CC M)) fu r [] ⟨Hc,e⟩):=by
 intro k
 induction k with
 | zero=>intro fu hfu Hc V O L R out hol hm hs;cases hs
 | succ k ih =>
   intro fu hfu Hc V O L R out hol hm hs S r hr;obtain ⟨h0,h3,h4,h5,h6⟩:=hr;obtain ⟨fu',rfl⟩ : ∃ f,fu=f+1:=⟨fu-1,by omega⟩
   have hln:=S.oR.len;have hl1:am (eN (orc CC M)) (fu'+1) r [] ⟨Hc,e⟩=di (am (eN (orc CC M)) fu') (eN (orc CC M) r [] ⟨Hc,e⟩):=rfl;cases R with
   | nil =>
     simp only[si,SJ] at hs;have hc:decide ((0:Int)<(([]:List Nat).length:Int))=false:=by decide
     rw[hl1];generalize am (eN (orc CC M)) fu'=F;simp only[eN,vV,SIM,ST0,ST1,h6,hln,hc];exact ⟨_,Hc,V,O,L,out,rfl,S,⟨by first|rfl|exact h0,by first|rfl|exact h3,by first|rfl|exact h4,by first|rfl|exact h5,by first|rfl|exact h6⟩,hs⟩
   | cons kk R =>
     simp only[si] at hs
     split at hs
     ·cases hs
     ·rename_i ls hX;cases hcl:Nat.ble 90000 ls.length with
      | true=>rw[hcl] at hs;cases hs
      | false =>
        rw[hcl] at hs;simp only[cond_false] at hs
        have hls:ls.length<90000:=by
         have:¬ (90000<=ls.length):=λh=>by rw[Nat.ble_eq_true_of_le h] at hcl;cases hcl
         omega
        split at hs
        ·cases hs
        ·rename_i L' R' hin;have hl2:=bH S0.gl;have sl:=S0.k.sl;have ln:=S0.k.len;have o1:=S0.o1;have o2:=S0.o2;have o3:=S0.o3;obtain ⟨V1,hi0,hsl,hR1,hnm⟩:=S.oR.hd;have S1:Sr H2 l Hc L V1 O R out:=⟨S.fr,S.gl,S.len,hR1,S.oO,by rw[hnm];exact S.dj⟩
         obtain ⟨O',H3,ap,S3⟩:=S1.appO hl2 kk 32 (by kernel_rfl) (by omega)
         obtain ⟨vs,N⟩:=S0.gx;have hkl:kk<vs.length:=by rw[N.len];exact bj hX
         obtain ⟨w,hw⟩:=mE hkl;have hW:=N.at_ kk ls w hX hw;have hxl:=bH N.g;have hob:ae H3 so=some (.cells [.ptr uo 0,.rsl f 0 n n 1,.rsl l 0 m m 1,.rsl x 0 m m 1]):=by rw[S3.fr so (by omega) (by omega),S0.k.ob]
         have hx3:ae H3 x=some (.cells vs):=by rw[S3.fr x (by omega) (by omega),N.g]
         have hias:=eO (N:=x) (n:=m) (v:=kk) (by rw[<-S0.xl];exact bj hX)
         have hld:=Vu hx3 hw;have hwl:=CT hW;have hb22:=ju kk;have hc:decide ((0:Int)<((kk::R).length:Int))=true:=by simp
         have lp:=xP (M:=M) (e:=e) (c0:=c0) S0 (ls:=ls) (by omega) hwl (CP hW) (O:=O') (out:=out++[kk]) ls.length 0 rfl 100000 (by omega) H3 V1 L R hm (by rw[List.drop_zero];exact hin) S3
         obtain ⟨r1,hr1,hk1,hpre⟩ : ∃ r1,RS uo so c0 V1 O' r1/\(r1.a.g.e=w/\r1.a.g.f=.int .i64 (ls.length:Int)/\r1.a.g.g=.int .i64 ((0:Nat):Int)) /\
           am (eN (orc CC M)) (fu'+1) r [] ⟨Hc,e⟩=di (am (eN (orc CC M)) fu') (cM 3 (cM 4 (am (lg (orc CC M)) 100000 r1 [] ⟨H3,e⟩))):=by
          rw[hl1];generalize am (eN (orc CC M)) fu'=F;simp only[eN,vV,EJ,Il,FY,Ec,SIM,ST0,ST1,h4,h5,h6,hln,hc,hi0,hsl,hb22,ap,hob,hias,hld,hwl,orVal,Nat.reduceAdd,Nat.reduceLeDiff];exact ⟨_,⟨by first|rfl|exact h0,by first|rfl|exact h3,by first|rfl|exact h4,rfl,rfl⟩,⟨rfl,rfl,rfl⟩,rfl⟩
         obtain ⟨r2,Hd,V2,O2,b1,b2,b3⟩:=lp r1 hr1 hk1;rw[hpre,b1];have hm' : L'.length=m:=by rw[soIn_len _ _ _ _ _ hin,hm]
         have key:=ih fu' (by omega) Hd V2 O2 L' R' (out++[kk]) (by simp;omega) hm' (by rw[List.length_append];exact hs) b2 r2 b3
         simp only[SIM];exact key
end
theorem OJ (rec:RecT):z32.sh rec=ac (ac (yU rec) (ac (xY rec) (ac (x5 rec) (ac (zW rec) (yO rec))))) (ac (aG 0 (aK (lz rec))) (ac (aG 2 (aK (eN rec))) (ac (ac (la rec) (aA (.t 87) (ac (lu rec) retZ) skipZ)) (ac (kY rec) retZ)))):=by
 simp only[z32,ec]
theorem WH (a b c d e f g h i j:AV):ae [a,b,c,d,e,f,g,h,i,j] 1=some b:=rfl
theorem O5 (a b:Int):ao CC 29 [(0,.int .i64 a),(1,.int .i64 b)]=some (.agg [.int .i64 a,.int .i64 b]):=by kernel_rfl
theorem be29_0:ao CC 29 []=some (.agg [.int .i64 0,.int .i64 0]):=by kernel_rfl
noncomputable def sD (k n:Nat)(dst:List Nat)(rd:List (List Nat)):Option Nat:=match DA n dst rd with
 | none=>none
 | some (L,X)=>si X k L (rdS L 0) 0
section
variable {M:Memo}{uo:Nat}{H:Heap}{u:UN}
theorem J3 (h32:∀ a,M 32 a=none)(h59:∀ a,M 59 a=none)(h82:∀ a,M 82 a=none)(hv:u.vars<=90000)(hE:u.eqs.length<=90000)(hA:∀ q∈u.eqs,q.args.length<=90000)(U:UI uo H u){k c:Nat}(hk:k<=90000)
  (hp:sD k u.vars (u.eqs.map EqF.dst) (u.eqs.map λq=>readsL q.args)=some c) :
  ∃ V f,orc CC M 32 [.ptr uo 0] H=some (.ret (.tuple [V,f]) H (aa H))/\(V=.nils\/∃ l:List Nat,V=.sl 1 (l.map inV) .dead)/\f=cond (Nat.blt c u.eqs.length) (.agg [.int .i64 u.at_,.int .i64 10]) (.agg [.int .i64 0,.int .i64 0]):=by
 unfold sD at hp
 split at hp
 ·cases hp
 rename_i L X hlk;have hul:=U.uo;have U1:UI uo (H++[cz0,.cells [.ptr uo 0,.nils,.nils,.nils]]) u:=U.ap;have hl1:aa (H++[cz0,.cells [.ptr uo 0,.nils,.nils,.nils]])=aa H+2:=by rw[aB];rfl
 obtain ⟨f,l,x,fr,H2,hR,S0⟩:=KD (so:=aa H+1) h59 h82 hv hE hA U1 (by rw[aU];rfl) (λhm=>by have:=(U.lt _ hm).2;omega) hlk
 have hl2:=bH S0.gl;have sl:=S0.k.sl;have ln:=S0.k.len;have o1:=S0.o1;have o2:=S0.o2;rw[hl1] at ln o1 sl
 have fr2:∀ q,q<aa H->ae H2 q=ae H q:=λq hq=>by
  rw[S0.k.fr q (by omega) (by omega)]
  rw[ai] at hq;rw[az,az,List.getElem?_append_left hq]
 have c02:ae H2 (aa H)=some cz0:=by rw[S0.k.fr _ (by omega) (by omega),au];rfl
 have Sa:Sr H2 l H2 L .nils .nils [] []:=⟨λ_ _ _=>rfl,S0.gl,Nat.le_refl _,.inl ⟨rfl,rfl⟩,.inl ⟨rfl,rfl⟩,λ_ h=>by cases h⟩
 have e0:(envOf [.ptr uo 0] 0 env0).a.a.a=.ptr uo 0:=rfl
 obtain ⟨r0,hr0,hk0,s0⟩ : ∃ r,RS uo (aa H+1) (aa H) .nils .nils r/\(r.a.c.e=.rsl l 0 u.eqs.length u.eqs.length 1/\r.a.c.f=.int .i64 (u.eqs.length:Int)/\r.a.c.g=.int .i64 ((0:Nat):Int)) /\
   ac (yU (orc CC M)) (ac (xY (orc CC M)) (ac (x5 (orc CC M)) (ac (zW (orc CC M)) (yO (orc CC M))))) (envOf [.ptr uo 0] 0 env0) [] ⟨H,aa H⟩=some (.normal,r,[],⟨H2,aa H⟩):=by
  generalize envOf [.ptr uo 0] 0 env0=R at e0;have hb:=Vl uo;have hx:=Uo uo (H++[cz0]).length (by rw[<-ai,aB];omega)
  have hob:=S0.k.ob;have hln:=xq l u.eqs.length;have hmn:min (aa H) (aa H+1)=aa H:=Nat.min_eq_left (by omega)
  simp only[yU,xY,x5,zW,yO,SIM,ST0,ST1,e0,hb,hx,hR,hmn,hob,hln,List.append_assoc,List.cons_append,List.nil_append,Nat.reduceAdd,Nat.reduceLeDiff];exact ⟨_,⟨by first|rfl|exact e0,rfl,rfl,rfl,rfl⟩,⟨rfl,rfl,rfl⟩,rfl⟩
 obtain ⟨r1,Ha,V1,O1,s1,Sb,hr1⟩:=wR (M:=M) (e:=aa H) (c0:=aa H) (uo:=uo) (so:=aa H+1) hl2 S0.ll hE (O:=.nils) (out:=[]) u.eqs.length 0 rfl 100000 (by omega) H2 .nils [] (Nat.le_refl _) Sa r0 hr0 hk0
 rw[List.nil_append,List.drop_zero] at Sb;obtain ⟨r2,Hb,V2,O2,L2,out,s2,Sc,hr2,hol⟩:=wW (M:=M) (e:=aa H) (c0:=aa H) S0 hE (c:=c) k 100000 (by omega) Ha V1 O1 L (rdS L 0) [] (by simp;omega) S0.ll hp Sb r1 hr1
 obtain ⟨g0,g3,g4,g5,g6⟩:=hr2;have frb:∀ q,q<aa H->ae Hb q=ae H q:=λq hq=>by rw[Sc.fr q (by omega) (by omega),fr2 q hq]
 have ub:ae Hb uo=some (.cells u.c):=by rw[frb uo hul,U.ob]
 have cb:ae Hb (aa H)=some cz0:=by rw[Sc.fr _ (by omega) (by omega),c02]
 have hlb:=Sc.len;have hlO:=Sc.oO.len;have hlE:=HR U.e;have b0:∀ (i:Nat) (b:CZ) (r:RG) (s:St),aG i (aK b) r [] s=cM i (am b 100000 r [] s):=λ_ _ _ _=>rfl
 have hz:z32.sh (orc CC M) (envOf [.ptr uo 0] 0 env0) [] ⟨H,aa H⟩=di (ac (kY (orc CC M)) retZ) (ac (la (orc CC M)) (aA (.t 87) (ac (lu (orc CC M)) retZ) skipZ) r2 [] ⟨Hb,aa H⟩):=by
  rw[OJ,bm,s0,bg,bm,b0,s1,bX,bg,bm,b0,s2,bX,bg,bm]
 have htk:∀ o,bw (aa H) (ak Hb (aa H) o)=H:=λo=>vZ (by rw[ar];omega) (λq hq=>by rw[af (by omega),frb q hq])
 cases hcm:Nat.blt c u.eqs.length with
 | true =>
   have hcl:decide ((out.length:Int)<(u.eqs.length:Int))=true:=by
    rw[hol];simp only[Nat.blt_eq] at hcm;simp;omega
   refine ⟨.nils,_,aL (z:=z32) (h32 _) (by kernel_rfl) rfl ?_,.inl rfl,rfl⟩
   rw[hz];have hb29:=O5 u.at_ 10;have hgc:=dH (k:=CC.keep 32) (b:=aa H) (v:=.tuple [.nils,.agg [.int .i64 u.at_,.int .i64 10]]) (hp:=ak Hb (aa H) (.cells [.int .i64 u.at_,.int .i64 10])) rfl;rw[htk] at hgc;have hzs:=aF cb (.cells [.int .i64 u.at_,.int .i64 10]);simp only[la,lu,kY,z32,SIM,ST0,ST1,ST2,ST3,g0,g3,g5,hlO,ub,lT,WH,hlE,hcl,hb29,cb,hzs,hgc,EXS,Nat.reduceAdd,Nat.reduceLeDiff]
 | false =>
   have hcl:decide ((out.length:Int)<(u.eqs.length:Int))=false:=by
    rw[hol];have:¬ (c<u.eqs.length):=λh=>by rw[<-Nat.blt_eq,hcm] at h;cases h
    simp;omega
   have hk32:CC.keep 32=false:=by kernel_rfl
   have hzs:=aF cb (.cells [.int .i64 0,.int .i64 0])
   rcases Sc.oO with ⟨_,hO⟩|⟨id,g,hO,hgi,hid⟩
   ·refine ⟨.nils,_,aL (z:=z32) (h32 _) (by kernel_rfl) rfl ?_,.inl rfl,rfl⟩
    rw[hz];have hgc:=dH (k:=CC.keep 32) (b:=aa H) (v:=.tuple [.nils,.agg [.int .i64 0,.int .i64 0]]) (hp:=ak Hb (aa H) (.cells [.int .i64 0,.int .i64 0])) rfl;rw[htk] at hgc;rw[hO] at g5 hlO;simp only[la,lu,kY,z32,SIM,ST0,ST1,ST2,ST3,g0,g3,g5,hlO,ub,lT,hlE,hcl,be29_0,cb,hzs,hgc,EXS,Nat.reduceAdd,Nat.reduceLeDiff]
   ·refine ⟨.sl 1 (out.map inV) .dead,_,aL (z:=z32) (h32 _) (by kernel_rfl) rfl ?_,.inr ⟨out,rfl⟩,rfl⟩
    rw[hz]
    have hnn:cS (out.map inV)=true:=by
     have:∀ l:List Nat,cS (l.map inV)=true:=λl=>by
      induction l with
      | nil=>rfl
      | cons a l ih=>rw[List.map_cons,bq,ih];rfl
     exact this out
    have hgc:=qB (sz:=1) (l:=out.map inV) (fs:=[.int .i64 0,.int .i64 0]) (id:=id) (g:=g) (base:=aa H) (hp:=ak Hb (aa H) (.cells [.int .i64 0,.int .i64 0])) hnn rfl (by omega)
    rw[htk] at hgc;rw[hO] at g5 hlO;simp only[la,lu,kY,z32,SIM,ST0,ST1,ST2,ST3,g0,g3,g5,hlO,ub,lT,hlE,hcl,be29_0,cb,hzs,hk32,hgc,EXS,Nat.reduceAdd,Nat.reduceLeDiff]
end
end Go.Proofs
