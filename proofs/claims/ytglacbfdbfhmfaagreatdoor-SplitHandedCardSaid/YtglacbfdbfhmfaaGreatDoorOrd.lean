/- order.Sort. Part of the proof of girandolelaw12.SplitHanded. -/
import Derived.Test.YtglacbfdbfhmfaaGreatDoorFl2
set_option linter.unusedVariables false
set_option linter.unusedSimpArgs false
set_option maxRecDepth 1000000
namespace Go.Proofs
open Go Go.Abs
def readsL:List AtF->List Nat
 | []=>[]
 | a::l=>cond a.c (readsL l) (a.v::readsL l)
theorem cc139o:∃ e,CC.P.underlying 139=some (.slice e)/\e=93:=⟨_,by kernel_rfl,rfl⟩
theorem cc140o:∃ e,CC.P.underlying 140=some (.slice e)/\e=186:=⟨_,by kernel_rfl,rfl⟩
theorem P8 (l:List AtF)(q:Lin):aO CC 139 (.sl 3 (l.map AtF.av) q)=some (.int .i64 (l.length:Int)):=by
 obtain ⟨e,hu,_⟩:=cc139o;rw[cO hu,List.length_map]
theorem ru {on:AV}(h:mo on):aO CC 140 on=some (.int .i64 0):=by
 obtain ⟨e,hu,_⟩:=cc140o
 rcases h with rfl|rfl
 ·rw[cA];simp[dh,hu]
 ·rw[cO hu];rfl
theorem Pd {l:List AtF}{i:Nat}{a:AtF}(q:Lin)(h:l[i]?=some a):aL 3 (.sl 3 (l.map AtF.av) q) (.int .i64 (i:Int))=some (.iptr [.bool a.c,.int .i64 a.n,.int .i64 (a.v:Int)]):=by
 refine bN (v:=a.av) ?_;rw[aB,List.getElem?_map,h];rfl
theorem OC {q:EqF}{L:Nat}(h:q.ok L):dV q.av L=some (.cells [.str q.op,.int .i64 (q.dst:Int),.sl 3 (q.args.map AtF.av) q.lin,q.on],(.ptr · 0)):=by
 have h1:(AV.cells q.av).all AV.one=true:=by
  rcases h.1 with h|h<;>simp[AV.cells,AV.one,h]
 unfold dV;rw[if_pos ⟨h1,rh h⟩];rfl
def PK (l:List Nat):AV:=match l with
 | []=>.nils
 | a::l=>.sl 1 ((a::l).map inV) .dead
def Y5 (H:Heap)(e:Nat)(i:Nat)(l:List Nat)(p1:AV)(X:IRes):Prop :=
 ∃ r' G,X=some (.exit i,r',[],⟨H++G,e⟩)/\wm (aa H) [] (H++G) r'.a.a.d l/\r'.a.a.b=p1
section
variable {M:Memo}
theorem vG {H:Heap}{e:Nat}{p1:AV}{L:List AtF}{q:Lin}(hL:L.length<=90000):∀ (d i:Nat),d+i=L.length->∀ (fu:Nat),d<fu->∀ (G:Heap) (acc:List Nat),acc.length<=i->∀ (r:RG),wm (aa H) [] (H++G) r.a.a.d acc->r.a.a.b=p1 ->
  (r.a.b.b=.sl 3 (L.map AtF.av) q/\r.a.b.c=.int .i64 (L.length:Int)/\r.a.b.d=.int .i64 (i:Int)) ->
  Y5 H e 0 (acc++readsL (L.drop i)) p1 (ax (ng (orc CC M)) fu r [] ⟨H++G,e⟩):=by
 intro d
 induction d with
 | zero =>
   intro i hi fu hfu G acc hal r hA hp1 ⟨h9,h10,h11⟩;obtain ⟨fu',rfl⟩ : ∃ f,fu=f+1:=⟨fu-1,by omega⟩
   have:i=L.length:=by omega
   subst this;have hc:decide ((L.length:Int)<(L.length:Int))=false:=by simp
   rw[List.drop_length];simp only[readsL,List.append_nil];simp only[ax,ng,tM,SIM,ST0,ST1,h10,h11,hc];exact ⟨_,G,rfl,by first|exact hA,by first|exact hp1⟩
 | succ d ih =>
   intro i hi fu hfu G acc hal r hA hp1 ⟨h9,h10,h11⟩;obtain ⟨fu',rfl⟩ : ∃ f,fu=f+1:=⟨fu-1,by omega⟩
   have hlt:i<L.length:=by omega
   have hc:decide ((i:Int)<(L.length:Int))=true:=by simp;omega
   have hd:L.drop i=L[i]::L.drop (i+1):=List.drop_eq_getElem_cons hlt;have hg:L[i]?=some L[i]:=by simp[hlt]
   generalize L[i]=a at hg hd;have hat:=Pd q hg;have ha:bR (i:Int) 1=((i+1:Nat):Int):=aZ i 1 (by unfold natMax;omega)
   rw[hd];have hdo:ae (H++G++[AObj.cells [.bool a.c,.int .i64 a.n,.int .i64 (a.v:Int)]]) (aa (H++G))=some (.cells [.bool a.c,.int .i64 a.n,.int .i64 (a.v:Int)]):=by rw[an];rfl
   have hln:aa H<=aa (H++G):=by rw[az];omega
   cases hac:a.c with
   | true =>
     have hcn:∀ x y:IRes,eW (.bool (!a.c)) x y=y:=λx y=>by rw[hac];rfl
     simp only[readsL,hac,cond_true];have key:=ih (i+1) (by omega) fu' (by omega) (G++[.cells [.bool a.c,.int .i64 a.n,.int .i64 (a.v:Int)]]) acc (by omega)
     rw[<-List.append_assoc] at key;have hA' : wm (aa H) [] (H++G++[.cells [.bool a.c,.int .i64 a.n,.int .i64 (a.v:Int)]]) r.a.a.d acc:=hA.imp id (λ⟨h0,id,g,h1,h2,h3,h4⟩=>⟨h0,id,g,h1,au h2 _,h3,h4⟩)
     rw[hac] at key hA' hdo hat;generalize hHc:H++G=Hc at *;simp only[ax,ng,tM,yo,yu,yh,SIM,ST0,ST1,h9,h10,h11,hc,hat,hdo,Bool.not_true,ha,Nat.reduceAdd,Nat.reduceLeDiff];exact key _ hA' (by first|exact hp1) ⟨by first|rfl|exact h9,by first|rfl|exact h10,rfl⟩
   | false =>
     simp only[readsL,hac,cond_false];have hb22:=mj a.v;have hmt:CC.mutT 82 22=false:=by kernel_rfl
     rw[hac] at hdo hat
     rcases hA with ⟨rfl,hV⟩|⟨h0,id,g,hV,hgi,hid,hni⟩
     ·have happ:=λe=>iX hmt a.v .lit (H++G++[.cells [.bool false,.int .i64 a.n,.int .i64 (a.v:Int)]]) e
      have key:=ih (i+1) (by omega) fu' (by omega) (G++[.cells [.bool false,.int .i64 a.n,.int .i64 (a.v:Int)],.lin 0]) [a.v] (by simp)
      have hnew:wm (aa H) [] (H++G++[.cells [.bool false,.int .i64 a.n,.int .i64 (a.v:Int)]]++[.lin 0]) (.sl 1 [inV a.v] (.live (aa (H++G++[AObj.cells [.bool false,.int .i64 a.n,.int .i64 (a.v:Int)]])) 0)) [a.v]:=.inr ⟨by simp,_,_,rfl,by rw[an];rfl,by rw[az];omega,by simp⟩
      rw[show H++(G++[AObj.cells [.bool false,.int .i64 a.n,.int .i64 (a.v:Int)],.lin 0])=H++G++[.cells [.bool false,.int .i64 a.n,.int .i64 (a.v:Int)]]++[.lin 0] by simp] at key
      generalize hHc:H++G=Hc at *;have hlz1:aa (Hc++[AObj.cells [.bool false,.int .i64 a.n,.int .i64 (a.v:Int)]])=aa Hc+1:=by rw[az];rfl
      rw[hlz1] at hnew happ;simp only[List.nil_append,List.append_assoc,List.cons_append] at key happ hnew ⊢;simp only[ax,ng,tM,yo,yu,Ey,yh,SIM,ST0,ST1,h9,h10,h11,hV,hc,hat,hdo,Bool.not_false,ha,hb22,happ,orVal,Nat.reduceAdd,Nat.reduceLeDiff];exact key _ hnew (by first|exact hp1) ⟨by first|rfl|exact h9,by first|rfl|exact h10,rfl⟩
     ·have hgi1:=au hgi [.cells [.bool false,.int .i64 a.n,.int .i64 (a.v:Int)]];have happ:=λe=>ii (xs:=acc.map inV) (e:=e) hmt a.v .lit hgi1 (by rw[List.length_map];omega)
      have hmap:acc.map inV++[inV a.v]=(acc++[a.v]).map inV:=by simp
      rw[hmap] at happ
      have hset:∃ G',am (H++G++[.cells [.bool false,.int .i64 a.n,.int .i64 (a.v:Int)]]) id (.lin (g+1))=H++G':=by
       rw[List.append_assoc];exact ⟨_,gn (by rw[<-ai];exact hid) _⟩
      obtain ⟨G',hG'⟩:=hset;have key:=ih (i+1) (by omega) fu' (by omega) G' (acc++[a.v]) (by simp;omega)
      have hnew:wm (aa H) [] (H++G') (.sl 1 ((acc++[a.v]).map inV) (.live id (g+1))) (acc++[a.v]):=.inr ⟨by simp,_,_,rfl,by rw[<-hG'];exact aF hgi1 _,hid,hni⟩
      rw[<-hG'] at key hnew;simp only[List.append_assoc,List.cons_append,List.nil_append] at key;rw[<-List.append_assoc] at key;generalize hHc:H++G=Hc at *;simp only[ax,ng,tM,yo,yu,Ey,yh,SIM,ST0,ST1,h9,h10,h11,hV,hc,hat,hdo,Bool.not_false,ha,hb22,happ,orVal,Nat.reduceAdd,Nat.reduceLeDiff];exact key _ hnew (by first|exact hp1) ⟨by first|rfl|exact h9,by first|rfl|exact h10,rfl⟩
theorem CK (h82:∀ a,M 82 a=none){q:EqF}(hL:q.args.length<=90000){H:Heap}(hq:q.ok (aa H)):orc CC M 82 [q.av] H=some (.ret (PK (readsL q.args)) H (aa H)):=by
 have hbx:=OC hq;have lp:=vG (M:=M) (H:=H++[.cells [.str q.op,.int .i64 (q.dst:Int),.sl 3 (q.args.map AtF.av) q.lin,q.on]]) (e:=aa H) (p1:=.ptr (aa H) 0) (q:=q.lin) hL q.args.length 0 rfl 100000 (by omega) [] [] (Nat.zero_le _)
 rw[List.drop_zero,List.nil_append,List.append_nil] at lp;have e0:(envOf [q.av] 0 env0).a.a.a=q.av:=rfl;refine aJ (z:=z82) (h82 _) (by kernel_rfl) rfl ?_
 generalize envOf [q.av] 0 env0=R at e0
 obtain ⟨r0,hr0,hn0,hb0,hpre⟩ : ∃ r,(r.a.b.b=.sl 3 (q.args.map AtF.av) q.lin/\r.a.b.c=.int .i64 (q.args.length:Int)/\r.a.b.d=.int .i64 ((0:Nat):Int))/\r.a.a.d=.nils/\r.a.a.b=.ptr (aa H) 0 /\
   z82.sh (orc CC M) R [] ⟨H,aa H⟩=dI (ac (ac (xL (orc CC M)) (aH 2 (aK (qr (orc CC M))))) (ac (qS (orc CC M)) retZ)) (c9 0 (ax (ng (orc CC M)) 100000 r [] ⟨H++[.cells [.str q.op,.int .i64 (q.dst:Int),.sl 3 (q.args.map AtF.av) q.lin,q.on]],aa H⟩)):=by
  have hln:=P8 q.args q.lin;have hlL:H.length=aa H:=(ai H).symm;simp only[z82,On,M9,LN,SIM,ST0,ST1,e0,hbx,hln,hlL,Nat.reduceAdd,Nat.reduceLeDiff];exact ⟨_,⟨rfl,rfl,rfl⟩,rfl,rfl,rfl⟩
 obtain ⟨r1,G,h1,hO,hb1⟩:=lp r0 (by rw[hn0];exact .inl ⟨rfl,rfl⟩) hb0 hr0
 have hl140:=ru hq.1
 have hg0:ae (H++[AObj.cells [.str q.op,.int .i64 (q.dst:Int),.sl 3 (q.args.map AtF.av) q.lin,q.on]]++G) (aa H)=some (.cells [.str q.op,.int .i64 (q.dst:Int),.sl 3 (q.args.map AtF.av) q.lin,q.on]):=by
  rw[List.append_assoc,an];rfl
 have hc0:decide ((0:Int)<0)=false:=by decide
 have g4_3:∀ a b c d:AV,ae [a,b,c,d] 3=some d:=λ_ _ _ _=>rfl
 have ht:bg (aa H) (H++[AObj.cells [.str q.op,.int .i64 (q.dst:Int),.sl 3 (q.args.map AtF.av) q.lin,q.on]]++G)=H:=by rw[List.append_assoc,bP]
 rw[hpre,h1];have hk:CC.keep 82=false:=by kernel_rfl
 have hnn:dp ((readsL q.args).map inV)=true:=by
  induction readsL q.args with
  | nil=>rfl
  | cons a l ih=>rw[List.map_cons,br,ih];rfl
 have hl1:aa (H++[AObj.cells [.str q.op,.int .i64 (q.dst:Int),.sl 3 (q.args.map AtF.av) q.lin,q.on]])=aa H+1:=by rw[az];rfl
 rw[hl1] at hO;generalize hHc:H++[AObj.cells [.str q.op,.int .i64 (q.dst:Int),.sl 3 (q.args.map AtF.av) q.lin,q.on]]++G=Hc at *
 rcases hO with ⟨h0,hV⟩|⟨h0,id,g,hV,hgi,hid,_⟩
 ·have hgc:=dC (k:=CC.keep 82) (b:=aa H) (v:=.nils) (hp:=Hc) rfl;rw[ht] at hgc;have hrv:PK (readsL q.args)=.nils:=by rw[h0];rfl
  rw[hrv];simp only[xL,qr,vR,qS,z82,LW,SIM,ST0,ST1,ST3,hb1,hg0,g4_3,hl140,hc0,hV,hgc,Nat.reduceAdd,Nat.reduceLeDiff]
 ·have hgc:=oN (sz:=1) (l:=(readsL q.args).map inV) (id:=id) (g:=g) (base:=aa H) (hp:=Hc) hnn (by omega)
  rw[ht] at hgc
  have hrv:PK (readsL q.args)=.sl 1 ((readsL q.args).map inV) .dead:=by
   cases hh:readsL q.args with
   | nil=>exact absurd hh h0
   | cons a l=>rfl
  rw[hrv];simp only[xL,qr,vR,qS,z82,LW,SIM,ST0,ST1,ST3,hb1,hg0,g4_3,hl140,hc0,hV,hk,hgc,Nat.reduceAdd,Nat.reduceLeDiff]
end
noncomputable def YO (T:Nat):Option (AV×Nat×Bool):=match bK CC T with
 | some e=>match CC.P.info? e,cj CC e with
   | some i,some z=>some (z,i.size,decide (0<i.bytes/\i.bytes<=65536))
   | _,_=>none
 | none=>none
abbrev nO (x:Int):AV:=.int .i64 x
theorem GT {z:AV}(hz:z.cells=[z])(n:Nat):ak (List.replicate n z)=List.replicate n z:=by
 induction n with
 | zero=>rfl
 | succ n ih=>rw[List.replicate_succ];simp only[ak,List.flatMap_cons,hz] at ih ⊢;rw[ih];rfl
theorem M7 {T:Nat}{z:AV}(hz:z.cells=[z])(h:YO T=some (z,1,true))(n:Nat)(hn:n<1000000):Ic CC T (nO n) (nO n)=some (.cells (List.replicate n z),λr=>.rsl r 0 n n 1):=by
 unfold YO at h
 split at h
 ·rename_i e he
  split at h
  ·rename_i i z' hi hz';simp only[SJ,PJ,decide_eq_true_eq] at h;obtain ⟨rfl,h1,h2,h3⟩:=h;have hb:i.bytes*n<=65536*1000000:=Nat.mul_le_mul h3 (by omega)
   simp only[Ic,he,hi,hz',cC];simp[h1,hz];refine ⟨?_,GT hz n⟩;omega
  ·cases h
 ·cases h
theorem WP (n:Nat)(hn:n<1000000):Ic CC 22 (nO n) (nO n)=some (.cells (List.replicate n (nO 0)),λr=>.rsl r 0 n n 1):=M7 rfl (by kernel_rfl) n hn
theorem WV (n:Nat)(hn:n<1000000):Ic CC 135 (nO n) (nO n)=some (.cells (List.replicate n .nils),λr=>.rsl r 0 n n 1):=M7 rfl (by kernel_rfl) n hn
theorem cc22o:∃ e,CC.P.underlying 22=some (.slice e):=by
 obtain ⟨e,i,z,h1,_⟩:=se22;unfold bK at h1
 split at h1
 ·rename_i e' he;exact ⟨e',he⟩
 ·cases h1
theorem pQ (l:List Nat)(q:Lin):aO CC 22 (.sl 1 (l.map inV) q)=some (.int .i64 (l.length:Int)):=by
 obtain ⟨e,hu⟩:=cc22o;rw[cO hu,List.length_map]
theorem len22n:aO CC 22 .nils=some (.int .i64 0):=by
 obtain ⟨e,hu⟩:=cc22o;rw[cA];simp[dh,hu]
theorem Cl (r n:Nat):aO CC 22 (.rsl r 0 n n 1)=some (.int .i64 (n:Int)):=by
 obtain ⟨e,hu⟩:=cc22o;rw[cA];simp[dh,hu]
theorem cc83o:∃ e,CC.P.underlying 83=some (.slice e):=by
 obtain ⟨e,i,z,h1,_⟩:=sl83;unfold bK at h1
 split at h1
 ·rename_i e' he;exact ⟨e',he⟩
 ·cases h1
theorem Fs {uo:Nat}{H:Heap}{V:AV}{l:List EqF}(h:LvI uo H 4 V (l.map EqF.av)):aO CC 83 V=some (.int .i64 (l.length:Int)):=by
 obtain ⟨e,hu⟩:=cc83o
 rcases h with ⟨h0,rfl⟩|⟨_,id,g,rfl,_⟩
 ·have:l=[]:=by simpa using h0
  subst this;rw[cA];simp[dh,hu]
 ·rw[cO hu,List.length_map]
theorem Av {uo:Nat}{H:Heap}{V:AV}{l:List EqF}(h:LvI uo H 4 V (l.map EqF.av)){i:Nat}{q:EqF}(hq:l[i]?=some q):aL 4 V (.int .i64 (i:Int))=some (.iptr [.str q.op,.int .i64 (q.dst:Int),.sl 3 (q.args.map AtF.av) q.lin,q.on]):=by
 rcases h with ⟨h0,rfl⟩|⟨_,id,g,rfl,_⟩
 ·have:l=[]:=by simpa using h0
  subst this;simp at hq
 ·refine bN (v:=q.av) ?_;rw[aB,List.getElem?_map,hq];rfl
theorem sB {L:Nat}:∀ {l:List AV},aG L l=true->∀ x∈l,x.low L=true
 | [],_,x,hx=>by cases hx
 | a::l,h,x,hx=>by
   simp only[aG,Bool.and_eq_true] at h
   rcases List.mem_cons.1 hx with rfl|hx
   ·exact h.1
   ·exact sB h.2 x hx
theorem UI.eok {uo:Nat}{H:Heap}{u:UN}(U:UI uo H u){q:EqF}(hq:q∈u.eqs):q.ok (aa H):=by
 refine ⟨U.el q hq,?_⟩
 rcases U.e with ⟨h0,_⟩|⟨_,id,g,_,_,_,hw⟩
 ·have:u.eqs=[]:=by simpa using h0
  rw[this] at hq;cases hq
 ·have h:=sB hw q.av (List.mem_map_of_mem hq);have h3:=de (lB q.args) (aa H);simp only[AV.low,aG,h3,Bool.and_true,Bool.true_and,Bool.and_eq_true] at h;exact h.1
theorem R6 {n r b:Nat}{v:AV}{hp:Heap}{e:Nat}{cs:List AV}(hg:ae hp r=some (.cells cs))(hl:aa v.cells=n)(hn:n<=aa cs)(ha:v.cells.all AV.one=true)(hlow:v.low b=true)(hb:b<=r) :
  ar n (.ptr r 0) v ⟨hp,e⟩=some ⟨am hp r (.cells (db cs 0 v.cells)),e⟩:=by
 have hlen:=bj hg;have h1:eK (aa hp) v=true:=by rw[bY];exact AV.low_mono (by rw[ai];omega) v hlow
 have h2:gV v r ⟨hp,e⟩=e:=by unfold gV;rw[bY,AV.low_mono (by omega:b<=r+1) v hlow];rfl
 have h3:Nat.beq (aa v.cells) n=true:=by rw[hl];exact Nat.beq_refl n
 have h4:Nat.ble (Nat.add 0 n) (aa cs)=true:=Nat.ble_eq_true_of_le (by simpa using hn)
 simp only[ar,hg,eM,h1,h2,h3,h4,ha,Bool.and_self,cond_true]
abbrev zQ:List AV:=[.str [],.int .i64 0,.nils,.nils]
abbrev EqF.l (q:EqF):List AV:=[.str q.op,.int .i64 (q.dst:Int),.sl 3 (q.args.map AtF.av) q.lin,q.on]
theorem Fe {Hc:Heap}{q:EqF}{e:Nat}(h:q.ok (aa Hc)):eM 4 0 (aa Hc) q.av q.l zQ ⟨Hc++[.cells zQ],e⟩=some ⟨Hc++[.cells q.l],e⟩:=by
 have hg2:ae (Hc++[.cells zQ]) (aa Hc)=some (.cells zQ):=by rw[an];rfl
 have hall:(AV.cells q.av).all AV.one=true:=by
  rcases h.1 with h|h<;>simp[AV.cells,AV.one,h]
 have:=R6 (n:=4) (r:=aa Hc) (b:=aa Hc) (e:=e) hg2 rfl (Nat.le_refl 4) hall (rh h) (Nat.le_refl _);rw[lN,hg2] at this;refine Eq.trans this ?_;rw[bJ];rfl
abbrev uf (xs:List Int):List AV:=xs.map nO
theorem KT {H:Heap}{r i e:Nat}{xs:List Int}(hg:ae H r=some (.cells (uf xs)))(hi:i<xs.length)(x:Int):ar 1 (.ptr r i) (nO x) ⟨H,e⟩=some ⟨am H r (.cells (uf (am xs i x))),e⟩:=by
 have h1:i+1<=aa (uf xs):=by rw[ai,List.length_map];omega
 have h2:am (uf xs) i (nO x)=uf (am xs i x):=by simp only[aR,uf,List.map_set]
 simp only[SIM,hg,h1,h2]
theorem V3 {xs:List Int}{i:Nat}{x:Int}(h:ae xs i=some x):ae (uf xs) i=some (nO x):=by
 rw[aB] at h ⊢;rw[List.getElem?_map,h];rfl
theorem U6 {H:Heap}{r i:Nat}{xs:List Int}{x:Int}(hg:ae H r=some (.cells (uf xs)))(h:ae xs i=some x):aw none (.ptr r i) H=some (nO x):=by
 simp only[ua,hg,V3 h,kI]
structure Lk (uo so:Nat)(H:Heap)(u:UN)(Hc:Heap)(A B C:AV):Prop where
 ob:ae Hc so=some (.cells [.ptr uo 0,A,B,C])
 fr:∀ q,q<aa H->q≠so->ae Hc q=ae H q
 len:aa H<=aa Hc
 U0:UI uo H u
 su:so≠uo
 sn:so∉u.ns
 sl:so<aa H
section
variable {uo so:Nat}{H Hc:Heap}{u:UN}{A B C:AV}
theorem Lk.U (k:Lk uo so H u Hc A B C):UI uo Hc u:=k.U0.to k.len (λq hq hm=>k.fr q hq (by rintro rfl;rcases hm with h|h;exact k.su h;exact k.sn h))
theorem Lk.ap (k:Lk uo so H u Hc A B C)(K:Heap):Lk uo so H u (Hc++K) A B C :=
 ⟨au k.ob _,λq hq hs=>by have:=k.len;rw[<-k.fr q hq hs,aB,aB,List.getElem?_append_left (by rw[<-ai];omega)],by rw[az];have:=k.len;omega,k.U0,k.su,k.sn,k.sl⟩
theorem Lk.put (k:Lk uo so H u Hc A B C){r:Nat}(hr:aa H<=r)(o:AObj):Lk uo so H u (am Hc r o) A B C :=
 ⟨by rw[af (by have:=k.sl;omega)];exact k.ob,λq hq hs=>by rw[af (by omega)];exact k.fr q hq hs,by rw[ay];exact k.len,k.U0,k.su,k.sn,k.sl⟩
theorem Lk.set (k:Lk uo so H u Hc A B C)(A' B' C' : AV):Lk uo so H u (am Hc so (.cells [.ptr uo 0,A',B',C'])) A' B' C' :=
 ⟨aF k.ob _,λq hq hs=>by rw[af hs];exact k.fr q hq hs,by rw[ay];exact k.len,k.U0,k.su,k.sn,k.sl⟩
end
theorem gU {N n v:Nat}(h:v<n):aL 1 (.rsl N 0 n n 1) (.int .i64 (v:Int))=some (.ptr N v):=by
 simp[aL,cC,h]
noncomputable def frS:List Nat->Nat->List Int->Option (List Int)
 | [],_,fr=>some fr
 | d::l,i,fr=>match ae fr d with
   | none=>none
   | some _=>frS l (i+1) (am fr d (i:Int))
section
variable {M:Memo}{uo so:Nat}{H:Heap}{u:UN}
def YQ (uo so:Nat)(H:Heap)(u:UN)(f n e i:Nat)(fr:List Int)(B C:AV)(X:IRes):Prop :=
 ∃ r' Hd,X=some (.exit i,r',[],⟨Hd,e⟩)/\Lk uo so H u Hd (.rsl f 0 n n 1) B C/\ae Hd f=some (.cells (uf fr))/\r'.a.a.a=.ptr so 0
theorem wT {f n e:Nat}{B C:AV}(hn:n<=90000)(hf:aa H<=f):∀ (k i:Nat),k+i=n->∀ (fu:Nat),k<fu->∀ (Hc:Heap),Lk uo so H u Hc (.rsl f 0 n n 1) B C->ae Hc f=some (.cells (uf (List.replicate i (-1)++List.replicate k 0)))->∀ (r:RG),r.a.a.a=.ptr so 0 ->
  (r.a.d.b=.int .i64 (n:Int)/\r.a.d.c=.int .i64 (i:Int)) ->
  YQ uo so H u f n e 0 (List.replicate n (-1)) B C (ax (sy (orc CC M)) fu r [] ⟨Hc,e⟩):=by
 intro k
 induction k with
 | zero =>
   intro i hi fu hfu Hc L hg r h0 ⟨h25,h26⟩;obtain ⟨fu',rfl⟩ : ∃ f,fu=f+1:=⟨fu-1,by omega⟩
   have:i=n:=by omega
   subst this;have hc:decide ((i:Int)<(i:Int))=false:=by simp
   simp only[ax,sy,HE,SIM,ST0,ST1,h25,h26,hc];exact ⟨_,Hc,rfl,L,by simpa using hg,by first|exact h0⟩
 | succ k ih =>
   intro i hi fu hfu Hc L hg r h0 ⟨h25,h26⟩;obtain ⟨fu',rfl⟩ : ∃ f,fu=f+1:=⟨fu-1,by omega⟩
   have hc:decide ((i:Int)<(n:Int))=true:=by simp;omega
   have ha:bR (i:Int) 1=((i+1:Nat):Int):=aZ i 1 (by unfold natMax;omega)
   have hias:=gU (N:=f) (n:=n) (v:=i) (by omega)
   have hsto:=λe=>KT (e:=e) hg (i:=i) (by simp) (-1)
   have hset:am (List.replicate i (-1:Int)++List.replicate (k+1) 0) i (-1)=List.replicate (i+1) (-1)++List.replicate k 0:=by
    have h1:List.replicate (i+1) (-1:Int)=List.replicate i (-1)++[-1]:=List.replicate_succ';rw[aR,List.set_append_right _ _ (by simp),List.length_replicate,Nat.sub_self,h1,List.append_assoc]
    rfl
   rw[hset] at hsto;have hob:=L.ob;have key:=ih (i+1) (by omega) fu' (by omega) (am Hc f (.cells (uf (List.replicate (i+1) (-1)++List.replicate k 0)))) (L.put hf _) (aF hg _)
   simp only[ax,sy,HE,NN,Oo,NL,SIM,ST0,ST1,h0,h25,h26,hc,hob,hias,hsto,ha,Nat.reduceAdd,Nat.reduceLeDiff];exact key _ (by first|rfl|exact h0) ⟨by first|rfl|exact h25,rfl⟩
theorem uW {f n e:Nat}{B C:AV}(hn:n<=90000)(hf:aa H<=f){fr' : List Int}(hE:u.eqs.length<=90000):∀ (k i:Nat),k+i=u.eqs.length->∀ (fu:Nat),k<fu->∀ (Hc:Heap) (fr:List Int),fr.length=n->frS ((u.eqs.map EqF.dst).drop i) i fr=some fr'->Lk uo so H u Hc (.rsl f 0 n n 1) B C->ae Hc f=some (.cells (uf fr))->∀ (r:RG),r.a.a.a=.ptr so 0 ->
  (r.a.f.c=u.E/\r.a.f.d=.int .i64 (u.eqs.length:Int)/\r.a.f.e=.int .i64 (i:Int)) ->
  YQ uo so H u f n e 2 fr' B C (ax (oY (orc CC M)) fu r [] ⟨Hc,e⟩):=by
 intro k
 induction k with
 | zero =>
   intro i hi fu hfu Hc fr hfl hs L hg r h0 ⟨h42,h43,h44⟩;obtain ⟨fu',rfl⟩ : ∃ f,fu=f+1:=⟨fu-1,by omega⟩
   have:i=u.eqs.length:=by omega
   subst this;have hc:decide ((u.eqs.length:Int)<(u.eqs.length:Int))=false:=by simp
   rw[List.drop_of_length_le (by simp)] at hs
   simp only[frS,SJ] at hs;subst hs;simp only[ax,oY,DW,SIM,ST0,ST1,h43,h44,hc];exact ⟨_,Hc,rfl,L,hg,by first|exact h0⟩
 | succ k ih =>
   intro i hi fu hfu Hc fr hfl hs L hg r h0 ⟨h42,h43,h44⟩;obtain ⟨fu',rfl⟩ : ∃ f,fu=f+1:=⟨fu-1,by omega⟩
   have hlt:i<u.eqs.length:=by omega
   have hc:decide ((i:Int)<(u.eqs.length:Int))=true:=by simp;omega
   have ha:bR (i:Int) 1=((i+1:Nat):Int):=aZ i 1 (by unfold natMax;omega)
   have hq:u.eqs[i]?=some u.eqs[i]:=by simp[hlt]
   have hmem:=List.getElem_mem hlt
   have hd:(u.eqs.map EqF.dst).drop i=u.eqs[i].dst::(u.eqs.map EqF.dst).drop (i+1):=by
    rw[<-List.map_drop,List.drop_eq_getElem_cons hlt,List.map_cons,List.map_drop]
   generalize u.eqs[i]=q at hq hmem hd;rw[hd] at hs;simp only[frS] at hs
   split at hs
   ·cases hs
   ·rename_i x hx;have hdl:q.dst<n:=by rw[<-hfl];exact bj hx
    have U:=L.U;have hat:=Av U.e hq;have hok:=U.eok hmem;have hst:=λe=>Fe (e:=e) hok
    have hob:=L.ob;have hob1:=au hob [.cells q.l];have hdo:ae (Hc++[AObj.cells q.l]) (aa Hc)=some (.cells q.l):=by rw[an];rfl
    have hias:=gU (N:=f) (n:=n) (v:=q.dst) hdl;have hg1:=au hg [.cells q.l];have hsto:=λe=>KT (e:=e) hg1 (i:=q.dst) (by omega) (i:Int)
    have key:=ih (i+1) (by omega) fu' (by omega) (am (Hc++[.cells q.l]) f (.cells (uf (am fr q.dst (i:Int))))) (am fr q.dst (i:Int)) (by rw[<-ai,ay,ai];exact hfl) hs ((L.ap _).put hf _) (aF hg1 _)
    simp only[ax,oY,DW,KS,FR,GE,SIM,ST0,ST1,h0,h42,h43,h44,hc,hat,hst,hob1,hdo,hias,hsto,ha,Nat.reduceAdd,Nat.reduceLeDiff];exact key _ (by first|rfl|exact h0) ⟨by first|rfl|exact h42,by first|rfl|exact h43,rfl⟩
end
noncomputable def AG (fr:List Int)(i:Nat):List Nat->List Nat->List (List Nat)->Option (List Nat×List (List Nat))
 | [],L,X=>some (L,X)
 | v::r,L,X=>match ae fr v with
   | none=>none
   | some (.negSucc _)=>AG fr i r L X
   | some (.ofNat k)=>match ae L i,ae X k with
     | some a,some xs=>cond (Nat.blt a 90000&&Nat.blt xs.length 90000) (AG fr i r (am L i (a+1)) (am X k (xs++[i]))) none
     | _,_=>none
theorem xM {uo off b k:Nat}{H:Heap}{V:AV}{xs cs:List AV}(h:LvI uo H k V xs)(hn:xs≠[])(hcs:ae H uo=some (.cells cs))(ho:off+1<=aa cs)(hb:b<=uo) :
  ar 1 (.ptr uo off) V ⟨H,b⟩=some ⟨am H uo (.cells (db cs off [V])),b⟩:=by
 rcases h with ⟨h0,_⟩|⟨h0,id,g,rfl,hg,hu,hw⟩
 ·exact absurd h0 hn
 ·have hid:id<aa H:=by rw[ai];exact bj hg
  have low:∀ L,AV.low L (.sl k xs (.live id g))=(aG L xs&&decide (id<L)):=λL=>by simp[AV.low,Lin.low]
  have e1:eK (aa H) (.sl k xs (.live id g))=true:=by rw[bY,low,hw];simpa using hid
  have e2:eK (uo+1) (.sl k xs (.live id g))=false:=by rw[bY,low];simp;intro _;omega
  have e3:Nat.ble (Nat.add off 1) (aa cs)=true:=by rw[dW];simpa using ho
  have e4:min b uo=b:=Nat.min_eq_left hb;have e5:Nat.beq (aa [AV.sl k xs (.live id g)]) 1=true:=rfl;have e6:List.all [AV.sl k xs (.live id g)] AV.one=true:=rfl;have e7:AV.cells (.sl k xs (.live id g))=[.sl k xs (.live id g)]:=rfl;simp only[ar,hcs,eM,e1,e3,e5,e6,e7,Bool.and_self,cond_true,gV,e2,cond_false,e4]
theorem ID (cs:List AV)(k:Nat)(v:AV):db cs k [v]=am cs k v:=rfl
structure NxR (Hc:Heap)(x:Nat)(X:List (List Nat))(vs:List AV):Prop where
 g:ae Hc x=some (.cells vs)
 len:vs.length=X.length
 at_:∀ k l v,ae X k=some l->ae vs k=some v->LvI x Hc 1 v (l.map inV)
 dj:∀ j k v w,j≠k->ae vs j=some v->ae vs k=some w->∀ q∈nmA v,q∉nmA w
def Nx (Hc:Heap)(x:Nat)(X:List (List Nat)):Prop:=∃ vs,NxR Hc x X vs
theorem gq {α:Type}{l:List α}{n:Nat}(h:n<l.length)(v:α):ae (am l n v) n=some v:=by
 rw[aB,aR,List.getElem?_set_self h]
theorem mB {α:Type}{l:List α}{n:Nat}(h:n<l.length):∃ v,ae l n=some v:=⟨l[n],by rw[aB];simp[h]⟩
theorem NxR.to {Hc Hd:Heap}{x:Nat}{X:List (List Nat)}{vs:List AV}(N:NxR Hc x X vs)(hl:aa Hc<=aa Hd)(hf:∀ q,x<=q->q<aa Hc->ae Hd q=ae Hc q):NxR Hd x X vs :=
 ⟨by rw[hf x (Nat.le_refl _) (bG N.g)];exact N.g,N.len,λk l v h1 h2=>(N.at_ k l v h1 h2).mono hl (λq hq hlt=>hf q (by have:=((N.at_ k l v h1 h2).lt q hq).1;omega) hlt),N.dj⟩
theorem NxR.app {Hc:Heap}{x k:Nat}{X:List (List Nat)}{vs:List AV}{xs:List Nat}(N:NxR Hc x X vs)(hk:ae X k=some xs)(i f:Nat)(hm:CC.mutT f 22=false)(hl:xs.length+1<=2 ^ 24) :
  ∃ v V' H2 H3,ae vs k=some v/\(∀ e lin,aq CC f 22 v (.sl 1 [inV i] lin) ⟨Hc,e⟩=some (V',⟨H2,e⟩))/\ae H2 x=some (.cells vs)/\(∀ b,b<=x->ar 1 (.ptr x k) V' ⟨H2,b⟩=some ⟨H3,b⟩)/\Nx H3 x (am X k (xs++[i]))/\aa Hc<=aa H3/\(∀ q,q<x->ae H3 q=ae Hc q)/\(∀ q,q<x->ae H2 q=ae Hc q):=by
 have hkl:k<vs.length:=by rw[N.len];exact bj hk
 obtain ⟨v,hv⟩:=mB hkl;have hL:=N.at_ k xs v hk hv;have hxl:=bG N.g;obtain ⟨V',H2,ap,L2,l2,f2,n2⟩:=oP hm hL i hl hxl;have hx2:ae H2 x=some (.cells vs):=by rw[f2 x hxl (λhmm=>by have:=(hL.lt _ hmm).1;omega),N.g]
 have st:=λb hb=>xM (b:=b) (off:=k) L2 (by simp) hx2 (by rw[ai];omega) hb
 rw[ID] at st;have f3:∀ q,q≠x->ae (am H2 x (.cells (am vs k V'))) q=ae H2 q:=λq hq=>af hq _
 refine ⟨v,V',H2,_,hv,ap,hx2,st,⟨am vs k V',aF hx2 _,by rw[<-ai,ay,ai,N.len,<-ai,<-ai,ay],?_,?_⟩,by rw[ay];exact l2,λq hq=>?_,λq hq=>f2 q (by omega) (λhmm=>by have:=(hL.lt _ hmm).1;omega)⟩
 ·intro j l w h1 h2
  by_cases hj:j=k
  ·subst hj;rw[gq (bj hk)] at h1;rw[gq hkl] at h2;simp only[SJ] at h1 h2;subst h1 h2;exact L2.mono (by rw[ay];exact Nat.le_refl _) (λq hq _=>f3 q (by have:=(L2.lt q hq).1;omega))
  ·rw[af hj] at h1 h2;have hw:=N.at_ j l w h1 h2;exact hw.mono (by rw[ay];exact l2) (λq hq hlt=>by rw[f3 q (by have:=(hw.lt q hq).1;omega),f2 q hlt (N.dj j k w v hj h2 hv q hq)])
 ·intro a b va wb hab ha hb q hq hqw
  by_cases h1:a=k
  ·subst h1;rw[gq hkl] at ha;simp only[SJ] at ha;subst ha;have hbk:b≠a:=λh=>hab h.symm
   rw[af hbk] at hb
   rcases n2 q hq with h|h
   ·exact N.dj a b v wb hab hv hb q h hqw
   ·have:=((N.at_ b _ wb (mB (by rw[<-N.len];exact bj hb)).choose_spec hb).lt q hqw).2;omega
  ·rw[af h1] at ha
   by_cases h2:b=k
   ·subst h2;rw[gq hkl] at hb;simp only[SJ] at hb;subst hb
    rcases n2 q hqw with h|h
    ·exact N.dj b a v va (λh=>h1 h.symm) hv ha q h hq
    ·have:=((N.at_ a _ va (mB (by rw[<-N.len];exact bj ha)).choose_spec ha).lt q hq).2;omega
   ·rw[af h2] at hb;exact N.dj a b va wb hab ha hb q hq hqw
 ·rw[f3 q (by omega),f2 q (by omega) (λhmm=>by have:=(hL.lt _ hmm).1;omega)]
theorem Vg {H:Heap}{r i e:Nat}{xs:List Nat}(hg:ae H r=some (.cells (xs.map inV)))(hi:i<xs.length)(x:Nat):ar 1 (.ptr r i) (inV x) ⟨H,e⟩=some ⟨am H r (.cells ((am xs i x).map inV)),e⟩:=by
 have h1:i+1<=aa (xs.map inV):=by rw[ai,List.length_map];omega
 have h2:am (xs.map inV) i (inV x)=(am xs i x).map inV:=by simp only[aR,List.map_set]
 simp only[SIM,hg,h1,h2]
theorem IM {H:Heap}{r i:Nat}{xs:List Nat}{x:Nat}(hg:ae H r=some (.cells (xs.map inV)))(h:ae xs i=some x):aw none (.ptr r i) H=some (inV x):=by
 have:ae (xs.map inV) i=some (inV x):=by rw[aB] at h ⊢;rw[List.getElem?_map,h];rfl
 simp only[ua,hg,this,kI]
theorem WS {H:Heap}{r i:Nat}{vs:List AV}{x:AV}(hg:ae H r=some (.cells vs))(h:ae vs i=some x):aw none (.ptr r i) H=some x:=by
 simp only[ua,hg,h,kI]
theorem Im (l:List Nat):aO CC 22 (PK l)=some (.int .i64 (l.length:Int)):=by
 cases l with
 | nil=>exact len22n
 | cons a l=>exact pQ (a::l) .dead
theorem JL {l:List Nat}{j v:Nat}(h:ae l j=some v):aL 1 (PK l) (.int .i64 (j:Int))=some (.iptr [inV v]):=by
 cases l with
 | nil=>simp[aB] at h
 | cons a l =>
   show aL 1 (.sl 1 ((a::l).map inV) .dead) _=_;refine bN (v:=inV v) ?_;rw[aB] at h ⊢;rw[List.getElem?_map,h];rfl
structure Ls (uo so:Nat)(H:Heap)(u:UN)(f l x n m:Nat)(fr:List Int)(Hc:Heap)(L:List Nat)(X:List (List Nat)):Prop where
 k:Lk uo so H u Hc (.rsl f 0 n n 1) (.rsl l 0 m m 1) (.rsl x 0 m m 1)
 gf:ae Hc f=some (.cells (uf fr))
 gl:ae Hc l=some (.cells (L.map inV))
 gx:Nx Hc x X
 fl:fr.length=n
 ll:L.length=m
 xl:X.length=m
 o1:aa H<=f
 o2:f<l
 o3:l<x
theorem Ls.ap {uo so:Nat}{H:Heap}{u:UN}{f l x n m:Nat}{fr:List Int}{Hc:Heap}{L:List Nat}{X:List (List Nat)}(S:Ls uo so H u f l x n m fr Hc L X)(K:Heap):Ls uo so H u f l x n m fr (Hc++K) L X:=by
 obtain ⟨vs,N⟩:=S.gx;exact ⟨S.k.ap K,au S.gf _,au S.gl _,⟨vs,N.to (by rw[az];omega) (λq _ hq=>by rw[ai] at hq;rw[aB,aB,List.getElem?_append_left hq])⟩,S.fl,S.ll,S.xl,S.o1,S.o2,S.o3⟩
section
variable {M:Memo}{uo so:Nat}{H:Heap}{u:UN}{f l x n m:Nat}{fr:List Int}
def Zi (uo so:Nat)(H:Heap)(u:UN)(f l x n m:Nat)(fr:List Int)(i c:Nat)(L:List Nat)(X:List (List Nat))(R:IRes):Prop :=
 ∃ r' Hd,R=some (.exit c,r',[],⟨Hd,so⟩)/\Ls uo so H u f l x n m fr Hd L X/\r'.a.a.a=.ptr so 0/\r'.b.d.a=u.E/\r'.b.d.b=.int .i64 (u.eqs.length:Int)/\r'.b.d.c=.int .i64 (i:Int)
theorem uk {ls:List Nat}(hls:ls.length<=90000){i:Nat}{L' : List Nat}{X' : List (List Nat)}:∀ (k j:Nat),k+j=ls.length->∀ (fu:Nat),k<fu->∀ (Hc:Heap) (L:List Nat) (X:List (List Nat)),AG fr i (ls.drop j) L X=some (L',X')->Ls uo so H u f l x n m fr Hc L X->∀ (r:RG),
  (r.a.a.a=.ptr so 0/\r.b.d.a=u.E/\r.b.d.b=.int .i64 (u.eqs.length:Int)/\r.b.d.c=.int .i64 (i:Int))->r.a.a.f=.int .i64 (i:Int) ->
  (r.b.e.a=PK ls/\r.b.e.b=.int .i64 (ls.length:Int)/\r.b.e.c=.int .i64 (j:Int)) ->
  Zi uo so H u f l x n m fr i 6 L' X' (ax (kZ (orc CC M)) fu r [] ⟨Hc,so⟩):=by
 intro k
 induction k with
 | zero =>
   intro j hj fu hfu Hc L X hs S r ⟨h0,h88,h89,h90⟩ h5 ⟨h96,h97,h98⟩;obtain ⟨fu',rfl⟩ : ∃ f,fu=f+1:=⟨fu-1,by omega⟩
   have:j=ls.length:=by omega
   subst this;have hc:decide ((ls.length:Int)<(ls.length:Int))=false:=by simp
   rw[List.drop_length] at hs;simp only[AG,SJ,PJ] at hs;obtain ⟨rfl,rfl⟩:=hs;simp only[ax,kZ,rP,SIM,ST0,ST1,ST2,ST3,h97,h98,hc];exact ⟨_,Hc,rfl,S,by first|exact h0,by first|exact h88,by first|exact h89,by first|exact h90⟩
 | succ k ih =>
   intro j hj fu hfu Hc L X hs S r ⟨h0,h88,h89,h90⟩ h5 ⟨h96,h97,h98⟩;obtain ⟨fu',rfl⟩ : ∃ f,fu=f+1:=⟨fu-1,by omega⟩
   have hlt:j<ls.length:=by omega
   have hc:decide ((j:Int)<(ls.length:Int))=true:=by simp;omega
   have ha:bR (j:Int) 1=((j+1:Nat):Int):=aZ j 1 (by unfold natMax;omega)
   have hd:ls.drop j=ls[j]::ls.drop (j+1):=List.drop_eq_getElem_cons hlt;have hg:ae ls j=some ls[j]:=by rw[aB];simp[hlt]
   generalize ls[j]=v at hd hg;have hi8:=JL hg;have hob:=S.k.ob;rw[hd] at hs;simp only[AG] at hs
   split at hs
   ·cases hs
   ·rename_i kn hfr;have hvl:v<n:=by rw[<-S.fl];exact bj hfr
    have hias:=gU (N:=f) (n:=n) (v:=v) hvl;have hld:=U6 S.gf hfr;have key:=ih (j+1) (by omega) fu' (by omega) Hc L X hs S
    have hge:decide ((0:Int)<=Int.negSucc kn)=false:=by simp
    simp only[ax,kZ,rP,xe,vr,wy,vF,SIM,ST0,ST1,ST2,ST3,h0,h5,h96,h97,h98,hc,hi8,hob,hias,hld,hge,ha,Nat.reduceAdd,Nat.reduceLeDiff];exact key _ ⟨by first|rfl|exact h0,by first|rfl|exact h88,by first|rfl|exact h89,by first|rfl|exact h90⟩ (by first|rfl|exact h5) ⟨by first|rfl|exact h96,by first|rfl|exact h97,rfl⟩
   ·rename_i kn hfr
    split at hs
    ·rename_i a xs hL hX;cases hcd:(Nat.blt a 90000&&Nat.blt xs.length 90000) with
     | false=>rw[hcd] at hs;cases hs
     | true =>
       rw[hcd] at hs;simp only[cond_true] at hs;simp only[Bool.and_eq_true,Nat.blt_eq] at hcd;have hvl:v<n:=by rw[<-S.fl];exact bj hfr
       have hias:=gU (N:=f) (n:=n) (v:=v) hvl;have hld:aw none (.ptr f v) Hc=some (.int .i64 (kn:Int)):=U6 S.gf hfr;have hil:i<m:=by rw[<-S.ll];exact bj hL
       have hkl:kn<m:=by rw[<-S.xl];exact bj hX
       have hias2:=gU (N:=l) (n:=m) (v:=i) hil;have hld2:=IM S.gl hL;have ha2:bR (a:Int) 1=((a+1:Nat):Int):=aZ a 1 (by unfold natMax;omega)
       have hst2:=λe=>Vg (e:=e) S.gl (i:=i) (by rw[S.ll];exact hil) (a+1)
       obtain ⟨vs,N0⟩:=S.gx;have hlx:=bG S.gl;have o1:=S.o1;have o2:=S.o2;have o3:=S.o3;have N1:NxR (am Hc l (.cells ((am L i (a+1)).map inV))) x X vs:=N0.to (by rw[ay];exact Nat.le_refl _) (λq hq _=>af (by omega) _)
       obtain ⟨w,V',H2,H3,hw,hap,hx2,hst3,N3,l3,f3,f2⟩:=N1.app hX i 59 (by kernel_rfl) (by omega)
       have k1:=S.k.put (r:=l) (by omega) (.cells ((am L i (a+1)).map inV))
       have hias3:=gU (N:=x) (n:=m) (v:=kn) hkl;have hsl:=S.k.sl;have hob1:=k1.ob;have hob2:ae H2 so=some (.cells [.ptr uo 0,.rsl f 0 n n 1,.rsl l 0 m m 1,.rsl x 0 m m 1]):=by rw[f2 so (by omega),hob1]
       have hldw:=WS N1.g hw;have hb22:=mj i;have hsx:AV.same (.rsl x 0 m m 1) (.rsl x 0 m m 1)=true:=by simp[AV.same]
       have hst3':=hst3 so (by omega)
       have S3:Ls uo so H u f l x n m fr H3 (am L i (a+1)) (am X kn (xs++[i])):=by
        refine ⟨⟨by rw[f3 so (by omega),hob1],λq hq hs=>?_,?_,k1.U0,k1.su,k1.sn,k1.sl⟩,by rw[f3 f (by omega),af (by omega)];exact S.gf,by rw[f3 l (by omega)];exact aF S.gl _,N3,S.fl,by rw[<-ai,ay,ai];exact S.ll,by rw[<-ai,ay,ai];exact S.xl,o1,o2,o3⟩
        ·rw[f3 q (by omega)];exact k1.fr q hq hs
        ·have:=k1.len;omega
       have key:=ih (j+1) (by omega) fu' (by omega) H3 _ _ hs S3
       have hge:decide ((0:Int)<=(kn:Int))=true:=by simp
       generalize a+1=a1 at *;have hgl:=S.gl;have hle:i+1<=aa (L.map inV):=by rw[ai,List.length_map,S.ll];omega
       have hsl2:am (L.map inV) i (inV a1)=(am L i a1).map inV:=by simp only[aR,List.map_set]
       simp only[ax,kZ,rP,xe,vr,wy,GN,EV,vF,SIM,ST0,ST1,ST2,ST3,h0,h5,h96,h97,h98,hc,hi8,hob,hias,hld,hge,hias2,hld2,ha2,hgl,hle,hsl2,hob1,hias3,hldw,hb22,hap,hob2,hsx,hst3',ha,Nat.reduceAdd,Nat.reduceLeDiff];exact key _ ⟨by first|rfl|exact h0,by first|rfl|exact h88,by first|rfl|exact h89,by first|rfl|exact h90⟩ (by first|rfl|exact h5) ⟨by first|rfl|exact h96,by first|rfl|exact h97,rfl⟩
    ·cases hs
end
noncomputable def sA (fr:List Int):List (List Nat)->Nat->List Nat->List (List Nat)->Option (List Nat×List (List Nat))
 | [],_,L,X=>some (L,X)
 | ls::r,i,L,X=>match AG fr i ls L X with
   | none=>none
   | some (L',X')=>sA fr r (i+1) L' X'
theorem readsL_len:∀ l:List AtF,(readsL l).length<=l.length
 | []=>Nat.le_refl _
 | a::l=>by
   have:=readsL_len l;simp only[readsL];cases a.c with
   | true=>simp only[cond_true,List.length_cons];omega
   | false=>simp only[cond_false,List.length_cons];omega
theorem P4 (a b c d:AV):eP (some 4) [a,b,c,d] 0=some (.agg [a,b,c,d]):=rfl
theorem Q2 (rec:RecT):z59.sh rec=ac (yW rec) (ac (zB rec) (ac (aH 0 (aK (sy rec))) (ac (z9 rec) (ac (aH 2 (aK (oY rec))) (ac (ac (ra rec) (ac (rN rec) (rI rec))) (aH 4 (aK (fq rec)))))))):=by
 simp only[z59,eH]
section
variable {M:Memo}{uo so:Nat}{H:Heap}{u:UN}{f l x n m:Nat}{fr:List Int}
def Zo (uo so:Nat)(H:Heap)(u:UN)(f l x n m:Nat)(fr:List Int)(L:List Nat)(X:List (List Nat))(R:IRes):Prop :=
 ∃ r' Hd,R=some (.exit 4,r',[],⟨Hd,so⟩)/\Ls uo so H u f l x n m fr Hd L X
theorem vJ (h82:∀ a,M 82 a=none)(hE:u.eqs.length<=90000)(hA:∀ q∈u.eqs,q.args.length<=90000){L' : List Nat}{X' : List (List Nat)}:∀ (k i:Nat),k+i=u.eqs.length->∀ (fu:Nat),k<fu->∀ (Hc:Heap) (L:List Nat) (X:List (List Nat)),sA fr ((u.eqs.map λq=>readsL q.args).drop i) i L X=some (L',X')->Ls uo so H u f l x n m fr Hc L X->∀ (r:RG),r.a.a.a=.ptr so 0 ->
  (r.b.d.a=u.E/\r.b.d.b=.int .i64 (u.eqs.length:Int)/\r.b.d.c=.int .i64 (i:Int)) ->
  Zo uo so H u f l x n m fr L' X' (ax (fq (orc CC M)) fu r [] ⟨Hc,so⟩):=by
 intro k
 induction k with
 | zero =>
   intro i hi fu hfu Hc L X hs S r h0 ⟨h88,h89,h90⟩;obtain ⟨fu',rfl⟩ : ∃ f,fu=f+1:=⟨fu-1,by omega⟩
   have:i=u.eqs.length:=by omega
   subst this;have hc:decide ((u.eqs.length:Int)<(u.eqs.length:Int))=false:=by simp
   rw[List.drop_of_length_le (by simp)] at hs
   simp only[sA,SJ,PJ] at hs;obtain ⟨rfl,rfl⟩:=hs;simp only[ax,fq,uC,SIM,ST0,ST1,ST2,ST3,h89,h90,hc];exact ⟨_,Hc,rfl,S⟩
 | succ k ih =>
   intro i hi fu hfu Hc L X hs S r h0 ⟨h88,h89,h90⟩;obtain ⟨fu',rfl⟩ : ∃ f,fu=f+1:=⟨fu-1,by omega⟩
   have hlt:i<u.eqs.length:=by omega
   have hc:decide ((i:Int)<(u.eqs.length:Int))=true:=by simp;omega
   have ha:bR (i:Int) 1=((i+1:Nat):Int):=aZ i 1 (by unfold natMax;omega)
   have hq:u.eqs[i]?=some u.eqs[i]:=by simp[hlt]
   have hmem:=List.getElem_mem hlt
   have hd:(u.eqs.map λq=>readsL q.args).drop i=readsL u.eqs[i].args::(u.eqs.map λq=>readsL q.args).drop (i+1):=by
    rw[<-List.map_drop,List.drop_eq_getElem_cons hlt,List.map_cons,List.map_drop]
   generalize u.eqs[i]=q at hq hmem hd;rw[hd] at hs;simp only[sA] at hs
   split at hs
   ·cases hs
   ·rename_i L1 X1 hin;have U:=S.k.U;have hat:=Av U.e hq;have hok:=U.eok hmem;have hst:=λe=>Fe (e:=e) hok
    have hlz:aa (Hc++[AObj.cells q.l])=aa Hc+1:=by rw[az];rfl
    have hok1:q.ok (aa (Hc++[AObj.cells q.l])):=⟨hok.1,Lin.low_mono (by omega) _ hok.2⟩
    have hR:=CK (H:=Hc++[.cells q.l]) h82 (hA q hmem) hok1;rw[hlz] at hR;have hob:=S.k.ob;have hdo:ae (Hc++[AObj.cells q.l]) (aa Hc)=some (.cells q.l):=by rw[an];rfl
    have hrl:=Im (readsL q.args);have hsl:=S.k.sl;have hlen:=S.k.len;have hmn:min so (aa Hc+1)=so:=Nat.min_eq_left (by omega)
    have lp:=uk (M:=M) (ls:=readsL q.args) (by have:=readsL_len q.args;have:=hA q hmem;omega) (i:=i) (readsL q.args).length 0 rfl 100000 (by have:=readsL_len q.args;have:=hA q hmem;omega) (Hc++[.cells q.l]) L X (by rw[List.drop_zero];exact hin) (S.ap _)
    obtain ⟨r1,hr0,hr5,hr6,hpre⟩ : ∃ r1,(r1.a.a.a=.ptr so 0/\r1.b.d.a=u.E/\r1.b.d.b=.int .i64 (u.eqs.length:Int)/\r1.b.d.c=.int .i64 (i:Int))/\r1.a.a.f=.int .i64 (i:Int)/\(r1.b.e.a=PK (readsL q.args)/\r1.b.e.b=.int .i64 ((readsL q.args).length:Int)/\r1.b.e.c=.int .i64 ((0:Nat):Int)) /\
      ax (fq (orc CC M)) (fu'+1) r [] ⟨Hc,so⟩=dI (ax (fq (orc CC M)) fu') (dI (w9 (orc CC M)) (c9 5 (c9 6 (ax (kZ (orc CC M)) 100000 r1 [] ⟨Hc++[.cells q.l],so⟩)))):=by
     have hl1:ax (fq (orc CC M)) (fu'+1) r [] ⟨Hc,so⟩=dI (ax (fq (orc CC M)) fu') (fq (orc CC M) r [] ⟨Hc,so⟩):=rfl;rw[hl1];generalize ax (fq (orc CC M)) fu'=F;simp only[fq,uC,CJ,Hq,SIM,ST0,ST1,ST2,ST3,h0,h88,h89,h90,hc,hat,hst,hdo,P4,hR,hmn,hrl,Nat.reduceAdd,Nat.reduceLeDiff];exact ⟨_,⟨by first|rfl|exact h0,by first|rfl|exact h88,by first|rfl|exact h89,by first|rfl|exact h90⟩,rfl,⟨rfl,rfl,rfl⟩,rfl⟩
    obtain ⟨r2,Hd,b1,b2,b3,b4,b5,b6⟩:=lp r1 hr0 hr5 hr6;rw[hpre,b1];have key:=ih (i+1) (by omega) fu' (by omega) Hd L1 X1 hs b2
    simp only[w9,SIM,ST0,ST1,ST2,ST3,b6,ha,Nat.reduceAdd,Nat.reduceLeDiff];exact key _ (by first|rfl|exact b3) ⟨by first|rfl|exact b4,by first|rfl|exact b5,rfl⟩
end
noncomputable def Dj (n:Nat)(dst:List Nat)(rd:List (List Nat)):Option (List Nat×List (List Nat)):=match frS dst 0 (List.replicate n (-1)) with
 | none=>none
 | some fr=>sA fr rd 0 (List.replicate rd.length 0) (List.replicate rd.length [])
theorem frS_len:∀ (l:List Nat) (i:Nat) (fr fr' : List Int),frS l i fr=some fr'->fr'.length=fr.length
 | [],i,fr,fr',h=>by simp only[frS,SJ] at h;rw[h]
 | d::l,i,fr,fr',h=>by
   simp only[frS] at h
   split at h
   ·cases h
   ·rw[frS_len l _ _ _ h,<-ai,ay,ai]
theorem Yf (a b c d v:AV):db [a,b,c,d] 1 [v]=[a,v,c,d]:=rfl
theorem Yc (a b c d v:AV):db [a,b,c,d] 2 [v]=[a,b,v,d]:=rfl
theorem Ya (a b c d v:AV):db [a,b,c,d] 3 [v]=[a,b,c,v]:=rfl
theorem Pg {Hc:Heap}{x m:Nat}(h:ae Hc x=some (.cells (List.replicate m .nils))):Nx Hc x (List.replicate m []):=by
 have key:∀ {k:Nat} {v:AV},ae (List.replicate m AV.nils) k=some v->v=.nils:=λ{k v} hk=>by
  rw[aB] at hk;rw[List.getElem?_replicate] at hk
  split at hk<;>simp_all
 refine ⟨_,h,by simp,λk l v h1 h2=>?_,λj k v w _ h1 h2 q hq=>?_⟩
 ·have h3:l=[]:=by
   rw[aB,List.getElem?_replicate] at h1
   split at h1<;>simp_all
  rw[key h2,h3];exact .inl ⟨rfl,rfl⟩
 ·rw[key h1] at hq;cases hq
section
variable {M:Memo}{uo so:Nat}{H:Heap}{u:UN}
theorem JI (h59:∀ a,M 59 a=none)(h82:∀ a,M 82 a=none)(hv:u.vars<=90000)(hE:u.eqs.length<=90000)(hA:∀ q∈u.eqs,q.args.length<=90000)(U:UI uo H u)(hso:ae H so=some (.cells [.ptr uo 0,.nils,.nils,.nils]))(sn:so∉u.ns){L:List Nat}{X:List (List Nat)}
  (hp:Dj u.vars (u.eqs.map EqF.dst) (u.eqs.map λq=>readsL q.args)=some (L,X)) :
  ∃ f l x fr H',orc CC M 59 [.ptr so 0] H=some (.ret Abs.undef H' so)/\Ls uo so H u f l x u.vars u.eqs.length fr H' L X:=by
 unfold Dj at hp
 split at hp
 ·cases hp
 rename_i fr hfr;rw[List.length_map] at hp;have su:so≠uo:=λh=>by rw[h,U.ob] at hso;simp at hso
 have sl:=bG hso;have e0:(envOf [.ptr so 0] 0 env0).a.a.a=.ptr so 0:=rfl;have L0:Lk uo so H u (H++[.cells (List.replicate u.vars (nO 0))]) .nils .nils .nils:=⟨au hso _,λq hq _=>by rw[ai] at hq;rw[aB,aB,List.getElem?_append_left hq],by rw[az];omega,U,su,sn,sl⟩
 have hlz:aa (H++[AObj.cells (List.replicate u.vars (nO 0))])=aa H+1:=by rw[az];rfl
 have st0:=λb hb=>lP (k:=1) (r:=aa H) (n:=u.vars) (b:=b) (off:=1) (H:=H++[.cells (List.replicate u.vars (nO 0))]) (by omega) sl L0.ob (by rw[ai];simp) hb
 rw[Yf] at st0;have L1:=L0.set (.rsl (aa H) 0 u.vars u.vars 1) .nils .nils
 have gf1:ae (am (H++[.cells (List.replicate u.vars (nO 0))]) so (.cells [.ptr uo 0,.rsl (aa H) 0 u.vars u.vars 1,.nils,.nils])) (aa H)=some (.cells (uf (List.replicate 0 (-1)++List.replicate u.vars 0))):=by
  rw[af (by omega),an]
  simp[aB]
 obtain ⟨r0,hr0,hk0,s0⟩ : ∃ r,r.a.a.a=.ptr so 0/\(r.a.d.b=.int .i64 (u.vars:Int)/\r.a.d.c=.int .i64 ((0:Nat):Int)) /\
   ac (yW (orc CC M)) (zB (orc CC M)) (envOf [.ptr so 0] 0 env0) [] ⟨H,aa H⟩=some (.normal,r,[],⟨am (H++[.cells (List.replicate u.vars (nO 0))]) so (.cells [.ptr uo 0,.rsl (aa H) 0 u.vars u.vars 1,.nils,.nils]),so⟩):=by
  generalize envOf [.ptr so 0] 0 env0=R at e0;have hu:=U.ob;have hms:=WP u.vars (by omega)
  have hst:=st0 (aa H) (by omega)
  have hob0:=L0.ob;rw[lN,hob0] at hst
  replace hst:eM 1 1 so _ (AV.rsl (aa H) 0 u.vars u.vars 1).cells _ _=_:=hst
  have hob:=L1.ob;have hln:=Cl (aa H) u.vars;simp only[yW,zB,SIM,ST0,ST1,e0,hso,hu,Oq,hms,hob0,hst,hob,hln,Nat.reduceAdd,Nat.reduceLeDiff];exact ⟨_,by first|rfl|exact e0,⟨rfl,rfl⟩,rfl⟩
 obtain ⟨r1,H1,s1,L2,gf2,hr1⟩:=wT (M:=M) (e:=so) hv (Nat.le_refl _) u.vars 0 rfl 100000 (by omega) _ L1 gf1 r0 hr0 hk0
 obtain ⟨r2,hr2,hk2,s2⟩ : ∃ r,r.a.a.a=.ptr so 0/\(r.a.f.c=u.E/\r.a.f.d=.int .i64 (u.eqs.length:Int)/\r.a.f.e=.int .i64 ((0:Nat):Int))/\z9 (orc CC M) r1 [] ⟨H1,so⟩=some (.normal,r,[],⟨H1,so⟩):=by
  have hob:=L2.ob;have hu:=L2.U.ob;have hln:=Fs L2.U.e;simp only[z9,SIM,ST0,ST1,hr1,hob,hu,kK,hln,Nat.reduceAdd,Nat.reduceLeDiff];exact ⟨_,by first|rfl|exact hr1,⟨rfl,rfl,rfl⟩,rfl⟩
 obtain ⟨r3,H2,s3,L3,gf3,hr3⟩:=uW (M:=M) (e:=so) hv (Nat.le_refl _) (fr':=fr) hE u.eqs.length 0 rfl 100000 (by omega) H1 (List.replicate u.vars (-1)) (by simp) (by rw[List.drop_zero];exact hfr) L2 gf2 r2 hr2 hk2
 have hlen3:=L3.len;have L4:=L3.ap [.cells (List.replicate u.eqs.length (nO 0))];have hlz4:aa (H2++[AObj.cells (List.replicate u.eqs.length (nO 0))])=aa H2+1:=by rw[az];rfl
 have st4:=lP (k:=1) (r:=aa H2) (n:=u.eqs.length) (b:=so) (off:=2) (H:=H2++[.cells (List.replicate u.eqs.length (nO 0))]) (by omega) (by omega) L4.ob (by rw[ai];simp) (Nat.le_refl _)
 rw[Yc] at st4;have L5:=L4.set (.rsl (aa H) 0 u.vars u.vars 1) (.rsl (aa H2) 0 u.eqs.length u.eqs.length 1) .nils;have gf5:ae (am (H2++[.cells (List.replicate u.eqs.length (nO 0))]) so (.cells [.ptr uo 0,.rsl (aa H) 0 u.vars u.vars 1,.rsl (aa H2) 0 u.eqs.length u.eqs.length 1,.nils])) (aa H)=some (.cells (uf fr)):=by rw[af (by omega)];exact au gf3 _
 have gl5:ae (am (H2++[.cells (List.replicate u.eqs.length (nO 0))]) so (.cells [.ptr uo 0,.rsl (aa H) 0 u.vars u.vars 1,.rsl (aa H2) 0 u.eqs.length u.eqs.length 1,.nils])) (aa H2)=some (.cells ((List.replicate u.eqs.length 0).map inV)):=by
  rw[af (by omega),an]
  simp[aB]
 generalize hH3:am (H2++[.cells (List.replicate u.eqs.length (nO 0))]) so (.cells [.ptr uo 0,.rsl (aa H) 0 u.vars u.vars 1,.rsl (aa H2) 0 u.eqs.length u.eqs.length 1,.nils])=H3 at st4 L5 gf5 gl5;have hl3:aa H3=aa H2+1:=by rw[<-hH3,ay,hlz4]
 have L6:=L5.ap [.cells (List.replicate u.eqs.length .nils)];have hlz6:aa (H3++[AObj.cells (List.replicate u.eqs.length .nils)])=aa H3+1:=by rw[az];rfl
 have st6:=lP (k:=1) (r:=aa H3) (n:=u.eqs.length) (b:=so) (off:=3) (H:=H3++[.cells (List.replicate u.eqs.length .nils)]) (by omega) (by omega) L6.ob (by rw[ai];simp) (Nat.le_refl _)
 rw[Ya] at st6;have L7:=L6.set (.rsl (aa H) 0 u.vars u.vars 1) (.rsl (aa H2) 0 u.eqs.length u.eqs.length 1) (.rsl (aa H3) 0 u.eqs.length u.eqs.length 1);generalize hH4:am (H3++[.cells (List.replicate u.eqs.length .nils)]) so (.cells [.ptr uo 0,.rsl (aa H) 0 u.vars u.vars 1,.rsl (aa H2) 0 u.eqs.length u.eqs.length 1,.rsl (aa H3) 0 u.eqs.length u.eqs.length 1])=H4 at st6 L7
 have S7:Ls uo so H u (aa H) (aa H2) (aa H3) u.vars u.eqs.length fr H4 (List.replicate u.eqs.length 0) (List.replicate u.eqs.length []):=by
  refine ⟨L7,by rw[<-hH4,af (by omega)];exact au gf5 _,by rw[<-hH4,af (by omega)];exact au gl5 _,Pg (by rw[<-hH4,af (by omega),an];rfl),by rw[frS_len _ _ _ _ hfr];simp,by simp,by simp,Nat.le_refl _,?_,by omega⟩
  have:=bG gf3;omega
 obtain ⟨r4,hr4,hk4,s4⟩ : ∃ r,r.a.a.a=.ptr so 0/\(r.b.d.a=u.E/\r.b.d.b=.int .i64 (u.eqs.length:Int)/\r.b.d.c=.int .i64 ((0:Nat):Int))/\ac (ra (orc CC M)) (ac (rN (orc CC M)) (rI (orc CC M))) r3 [] ⟨H2,so⟩=some (.normal,r,[],⟨H4,so⟩):=by
  have hob3:=L3.ob;have hu3:=L3.U.ob;have hln3:=Fs L3.U.e;have hob5:=L5.ob;have hu5:=L5.U.ob;have hob7:=L7.ob;have hu7:=L7.U.ob;have hms:=WP u.eqs.length (by omega)
  have hms2:=WV u.eqs.length (by omega)
  have hob4:=L4.ob;have hob6:=L6.ob;rw[lN,hob4] at st4
  replace st4:eM 1 2 so _ (AV.rsl (aa H2) 0 u.eqs.length u.eqs.length 1).cells _ _=_:=st4
  rw[lN,hob6] at st6
  replace st6:eM 1 3 so _ (AV.rsl (aa H3) 0 u.eqs.length u.eqs.length 1).cells _ _=_:=st6
  simp only[ra,rN,rI,SIM,ST0,ST1,ST2,ST3,hr3,hob3,hu3,kK,hln3,hms,hob4,st4,hob5,hu5,hms2,hob6,st6,hob7,hu7,Nat.reduceAdd,Nat.reduceLeDiff];exact ⟨_,by first|rfl|exact hr3,⟨rfl,rfl,rfl⟩,rfl⟩
 obtain ⟨r5,H5,s5,S5⟩:=vJ (M:=M) h82 hE hA (L':=L) (X':=X) u.eqs.length 0 rfl 100000 (by omega) H4 _ _ (by rw[List.drop_zero];exact hp) S7 r4 hr4 hk4
 refine ⟨_,_,_,_,H5,aJ (z:=z59) (h59 _) (by kernel_rfl) rfl ?_,S5⟩
 have b0:∀ (i:Nat) (b:CZ) (r:RG) (s:St),aH i (aK b) r [] s=c9 i (ax b 100000 r [] s):=λ_ _ _ _=>rfl
 have hz:z59.sh (orc CC M) (envOf [.ptr so 0] 0 env0) [] ⟨H,aa H⟩=some (.normal,r5,[],⟨H5,so⟩):=by
  rw[Q2,<-eH,bv,s0,bk,bv,b0,s1,ck,bk,bv,s2,bk,bv,b0,s3,ck,bk,bv,s4,bk,b0,s5,ck]
 rw[hz];have hgc:=dL (keep:=CC.keep 59) (base:=aa H) (e:=so) (v:=Abs.undef) (hp:=H5) (by omega)
 simp only[z59,SIM,hgc]
end
noncomputable def rdS:List Nat->Nat->List Nat
 | [],_=>[]
 | a::l,i=>cond (Nat.beq a 0) (i::rdS l (i+1)) (rdS l (i+1))
noncomputable def soIn:List Nat->List Nat->List Nat->Option (List Nat×List Nat)
 | [],L,R=>some (L,R)
 | i::r,L,R=>match ae L i with
   | none=>none
   | some a=>cond (Nat.beq a 0||Nat.ble 90000 a||Nat.ble 90000 R.length) none (soIn r (am L i (Nat.pred a)) (cond (Nat.beq a 1) (R++[i]) R))
noncomputable def tE (X:List (List Nat)):Nat->List Nat->List Nat->Nat->Option Nat
 | 0,_,_,_=>none
 | fu+1,L,R,n=>match R with
   | []=>some n
   | k::r=>match ae X k with
     | none=>none
     | some ls=>cond (Nat.ble 90000 ls.length) none (match soIn ls L r with
       | none=>none
       | some (L',r')=>tE X fu L' r' (n+1))
theorem soIn_len:∀ (ls L R L' R' : List Nat),soIn ls L R=some (L',R')->L'.length=L.length
 | [],L,R,L',R',h=>by simp only[soIn,SJ,PJ] at h;rw[h.1]
 | i::r,L,R,L',R',h=>by
   simp only[soIn] at h
   split at h
   ·cases h
   ·rename_i a _;cases hcd:(Nat.beq a 0||Nat.ble 90000 a||Nat.ble 90000 R.length) with
    | true=>rw[hcd] at h;cases h
    | false =>
      rw[hcd] at h;rw[soIn_len r _ _ _ _ h,<-ai,ay,ai]
def RdA (b:Nat)(Hc:Heap)(V:AV)(acc:List Nat):Prop:=(acc=[]/\V=.nils)\/∃ id g,V=.sl 1 (acc.map inV) (.live id g)/\ae Hc id=some (.lin g)/\b<=id
theorem RdA.lt {b:Nat}{Hc:Heap}{V:AV}{acc:List Nat}(h:RdA b Hc V acc):∀ q∈nmA V,b<=q/\q<aa Hc:=by
 intro q hq
 rcases h with ⟨_,rfl⟩|⟨id,g,rfl,hg,hb⟩
 ·cases hq
 ·simp only[nmA,List.mem_singleton] at hq;subst hq;exact ⟨hb,bG hg⟩
theorem RdA.mono {b:Nat}{Hc Hd:Heap}{V:AV}{acc:List Nat}(h:RdA b Hc V acc)(hf:∀ q∈nmA V,ae Hd q=ae Hc q):RdA b Hd V acc:=by
 rcases h with h|⟨id,g,rfl,hg,hb⟩
 ·exact .inl h
 ·exact .inr ⟨id,g,rfl,by rw[hf id (by simp[nmA]),hg],hb⟩
theorem RdA.app {b f:Nat}(hf:CC.mutT f 22=false){Hc:Heap}{V:AV}{acc:List Nat}(h:RdA b Hc V acc)(n:Nat)(hl:acc.length+1<=2 ^ 24)(hb:b<=aa Hc) :
  ∃ V' H',(∀ e lin,aq CC f 22 V (.sl 1 [inV n] lin) ⟨Hc,e⟩=some (V',⟨H',e⟩))/\RdA b H' V' (acc++[n])/\aa Hc<=aa H'/\(∀ q,q<aa Hc->q∉nmA V->ae H' q=ae Hc q)/\(∀ q∈nmA V',q∈nmA V\/aa Hc<=q):=by
 rcases h with ⟨rfl,rfl⟩|⟨id,g,rfl,hg,hid⟩
 ·refine ⟨_,_,λe lin=>iX hf n lin Hc e,.inr ⟨aa Hc,0,rfl,by rw[an];rfl,hb⟩,by rw[az];omega,λq hq _=>?_,λq hq=>?_⟩
  ·rw[ai] at hq;rw[aB,aB,List.getElem?_append_left hq]
  ·simp only[nmA,List.mem_singleton] at hq;exact .inr (by omega)
 ·refine ⟨_,_,λe lin=>ii hf n lin hg (by simpa using hl),.inr ⟨id,g+1,by simp,aF hg _,hid⟩,by rw[ay];exact Nat.le_refl _,λq hq hn=>?_,λq hq=>.inl hq⟩
  rw[af (by simp only[nmA,List.mem_singleton] at hn;exact hn)]
theorem RdA.len {b:Nat}{Hc:Heap}{V:AV}{acc:List Nat}(h:RdA b Hc V acc):aO CC 22 V=some (.int .i64 (acc.length:Int)):=by
 rcases h with ⟨rfl,rfl⟩|⟨id,g,rfl,_⟩
 ·exact len22n
 ·exact pQ _ _
theorem cs22:CC.P.underlying 22=some (.slice 3)/\cU CC 3=some 1:=⟨by kernel_rfl,by kernel_rfl⟩
theorem RdA.hd {b:Nat}{Hc:Heap}{V:AV}{k:Nat}{r:List Nat}(h:RdA b Hc V (k::r)):∃ V',aL 1 V (.int .i64 0)=some (.iptr [inV k])/\bt CC 22 V (some (.int .i64 1)) none none=some V'/\RdA b Hc V' r/\nmA V'=nmA V:=by
 rcases h with ⟨h,_⟩|⟨id,g,rfl,hg,hb⟩
 ·cases h
 ·refine ⟨.sl 1 (r.map inV) (.live id g),?_,oF cs22 (inV k) (r.map inV) (.live id g),.inr ⟨id,g,rfl,hg,hb⟩,rfl⟩;exact bN (i:=0) (v:=inV k) rfl
structure Sr (H2:Heap)(l:Nat)(Hc:Heap)(L:List Nat)(V O:AV)(R out:List Nat):Prop where
 fr:∀ q,q<aa H2->q≠l->ae Hc q=ae H2 q
 gl:ae Hc l=some (.cells (L.map inV))
 len:aa H2<=aa Hc
 oR:RdA (aa H2) Hc V R
 oO:RdA (aa H2) Hc O out
 dj:∀ q∈nmA V,q∉nmA O
theorem Sr.appR {H2 Hc:Heap}{l:Nat}{L:List Nat}{V O:AV}{R out:List Nat}(S:Sr H2 l Hc L V O R out)(hl2:l<aa H2)(n f:Nat)(hf:CC.mutT f 22=false)(hl:R.length+1<=2 ^ 24) :
  ∃ V' H',(∀ e lin,aq CC f 22 V (.sl 1 [inV n] lin) ⟨Hc,e⟩=some (V',⟨H',e⟩))/\Sr H2 l H' L V' O (R++[n]) out:=by
 obtain ⟨V',H',ap,R',l',f',n'⟩:=S.oR.app hf n hl S.len;refine ⟨V',H',ap,λq hq hql=>?_,?_,by have:=S.len;omega,R',S.oO.mono (λq hq=>f' q (S.oO.lt q hq).2 (λh=>S.dj q h hq)),λq hq ho=>?_⟩
 ·rw[f' q (by have:=S.len;omega) (λh=>by have:=(S.oR.lt q h).1;omega)];exact S.fr q hq hql
 ·rw[f' l (by have:=S.len;omega) (λh=>by have:=(S.oR.lt l h).1;omega)];exact S.gl
 ·rcases n' q hq with h|h
  ·exact S.dj q h ho
  ·have:=(S.oO.lt q ho).2;omega
theorem Sr.appO {H2 Hc:Heap}{l:Nat}{L:List Nat}{V O:AV}{R out:List Nat}(S:Sr H2 l Hc L V O R out)(hl2:l<aa H2)(n f:Nat)(hf:CC.mutT f 22=false)(hl:out.length+1<=2 ^ 24) :
  ∃ O' H',(∀ e lin,aq CC f 22 O (.sl 1 [inV n] lin) ⟨Hc,e⟩=some (O',⟨H',e⟩))/\Sr H2 l H' L V O' R (out++[n]):=by
 obtain ⟨V',H',ap,R',l',f',n'⟩:=S.oO.app hf n hl S.len;refine ⟨V',H',ap,λq hq hql=>?_,?_,by have:=S.len;omega,S.oR.mono (λq hq=>f' q (S.oR.lt q hq).2 (λh=>S.dj q hq h)),R',λq hq ho=>?_⟩
 ·rw[f' q (by have:=S.len;omega) (λh=>by have:=(S.oO.lt q h).1;omega)];exact S.fr q hq hql
 ·rw[f' l (by have:=S.len;omega) (λh=>by have:=(S.oO.lt l h).1;omega)];exact S.gl
 ·rcases n' q ho with h|h
  ·exact S.dj q hq h
  ·have:=(S.oR.lt q hq).2;omega
theorem Sr.setL {H2 Hc:Heap}{l:Nat}{L L' : List Nat}{V O:AV}{R out:List Nat}(S:Sr H2 l Hc L V O R out)(hl2:l<aa H2):Sr H2 l (am Hc l (.cells (L'.map inV))) L' V O R out:=by
 refine ⟨λq hq hql=>by rw[af hql];exact S.fr q hq hql,aF S.gl _,by rw[ay];exact S.len,S.oR.mono (λq hq=>af ?_ _),S.oO.mono (λq hq=>af ?_ _),S.dj⟩
 ·have:=(S.oR.lt q hq).1;omega
 ·have:=(S.oO.lt q hq).1;omega
section
variable {M:Memo}{uo so:Nat}{H1 H2:Heap}{u:UN}{f l x n m:Nat}{fr:List Int}{L0:List Nat}{X:List (List Nat)}{e c0:Nat}
def RS (uo so c0:Nat)(V O:AV)(r:RG):Prop:=r.a.a.a=.ptr uo 0/\r.a.a.d=.ptr c0 0/\r.a.a.e=.ptr so 0/\r.a.a.f=O/\r.a.a.g=V
def YG (H2:Heap)(l uo so c0 i e:Nat)(L R out:List Nat)(X:IRes):Prop :=
 ∃ r' Hd V O,X=some (.exit i,r',[],⟨Hd,e⟩)/\Sr H2 l Hd L V O R out/\RS uo so c0 V O r'
theorem uE (hl2:l<aa H2){L:List Nat}(hm:L.length=m)(hmm:m<=90000){O:AV}{out:List Nat}:∀ (k i:Nat),k+i=m->∀ (fu:Nat),k<fu->∀ (Hc:Heap) (V:AV) (R:List Nat),R.length<=i->Sr H2 l Hc L V O R out->∀ (r:RG),RS uo so c0 V O r ->
  (r.a.c.e=.rsl l 0 m m 1/\r.a.c.f=.int .i64 (m:Int)/\r.a.c.g=.int .i64 (i:Int)) ->
  YG H2 l uo so c0 0 e L (R++rdS (L.drop i) i) out (ax (lG (orc CC M)) fu r [] ⟨Hc,e⟩):=by
 intro k
 induction k with
 | zero =>
   intro i hi fu hfu Hc V R hRl S r hr ⟨h20,h21,h22⟩;obtain ⟨fu',rfl⟩ : ∃ f,fu=f+1:=⟨fu-1,by omega⟩
   have:i=m:=by omega
   subst this;have hc:decide ((i:Int)<(i:Int))=false:=by simp
   rw[<-hm,List.drop_length,hm];simp only[rdS,List.append_nil];simp only[ax,lG,z5,SIM,ST0,ST1,h21,h22,hc];exact ⟨_,Hc,V,O,rfl,S,by first|exact hr⟩
 | succ k ih =>
   intro i hi fu hfu Hc V R hRl S r hr ⟨h20,h21,h22⟩;obtain ⟨h0,h3,h4,h5,h6⟩:=hr;obtain ⟨fu',rfl⟩ : ∃ f,fu=f+1:=⟨fu-1,by omega⟩
   have hlt:i<L.length:=by omega
   have hc:decide ((i:Int)<(m:Int))=true:=by simp;omega
   have ha:bR (i:Int) 1=((i+1:Nat):Int):=aZ i 1 (by unfold natMax;omega)
   have hd:L.drop i=L[i]::L.drop (i+1):=List.drop_eq_getElem_cons hlt;have hg:ae L i=some L[i]:=by rw[aB];simp[hlt]
   generalize L[i]=a at hd hg;have hias:=gU (N:=l) (n:=m) (v:=i) (by omega)
   have hld:=IM S.gl hg;rw[hd];simp only[rdS];cases hz:Nat.beq a 0 with
   | false =>
     have hcn:decide ((a:Int)=0)=false:=by
      have:decide ((a:Int)=0)=Nat.beq a 0:=xX a 0;rw[this,hz]
     have key:=ih (i+1) (by omega) fu' (by omega) Hc V R (by omega) S
     simp only[ax,lG,z5,Dq,B7,BS,SIM,ST0,ST1,h20,h21,h22,hc,hias,hld,hcn,ha,Nat.reduceAdd,Nat.reduceLeDiff];exact key _ ⟨by first|rfl|exact h0,by first|rfl|exact h3,by first|rfl|exact h4,by first|rfl|exact h5,by first|rfl|exact h6⟩ ⟨by first|rfl|exact h20,by first|rfl|exact h21,rfl⟩
   | true =>
     have hcn:decide ((a:Int)=0)=true:=by
      have:decide ((a:Int)=0)=Nat.beq a 0:=xX a 0;rw[this,hz]
     obtain ⟨V',H',ap,S'⟩:=S.appR hl2 i 32 (by kernel_rfl) (by omega)
     have hb22:=mj i;have key:=ih (i+1) (by omega) fu' (by omega) H' V' (R++[i]) (by simp;omega) S'
     rw[List.append_assoc] at key;simp only[ax,lG,z5,Dq,B7,Mz,BS,SIM,ST0,ST1,h6,h20,h21,h22,hc,hias,hld,hcn,hb22,ap,orVal,ha,Nat.reduceAdd,Nat.reduceLeDiff];exact key _ ⟨by first|rfl|exact h0,by first|rfl|exact h3,by first|rfl|exact h4,by first|rfl|exact h5,rfl⟩ ⟨by first|rfl|exact h20,by first|rfl|exact h21,rfl⟩
theorem vA (S0:Ls uo so H1 u f l x n m fr H2 L0 X){ls:List Nat}(hls:ls.length<=90000){W:AV}(hWl:aO CC 22 W=some (.int .i64 (ls.length:Int)))(hWi:∀ j v,ae ls j=some v->aL 1 W (.int .i64 (j:Int))=some (.iptr [inV v])){O:AV}{out L' R' : List Nat}:∀ (k j:Nat),k+j=ls.length->∀ (fu:Nat),k<fu->∀ (Hc:Heap) (V:AV) (L R:List Nat),L.length=m->soIn (ls.drop j) L R=some (L',R')->Sr H2 l Hc L V O R out->∀ (r:RG),RS uo so c0 V O r ->
  (r.a.g.e=W/\r.a.g.f=.int .i64 (ls.length:Int)/\r.a.g.g=.int .i64 (j:Int)) ->
  YG H2 l uo so c0 4 e L' R' out (ax (lb (orc CC M)) fu r [] ⟨Hc,e⟩):=by
 intro k
 induction k with
 | zero =>
   intro j hj fu hfu Hc V L R hm hs S r hr ⟨h52,h53,h54⟩;obtain ⟨fu',rfl⟩ : ∃ f,fu=f+1:=⟨fu-1,by omega⟩
   have:j=ls.length:=by omega
   subst this;have hc:decide ((ls.length:Int)<(ls.length:Int))=false:=by simp
   rw[List.drop_length] at hs;simp only[soIn,SJ,PJ] at hs;obtain ⟨rfl,rfl⟩:=hs;simp only[ax,lb,rn,SIM,ST0,ST1,h53,h54,hc];exact ⟨_,Hc,V,O,rfl,S,by first|exact hr⟩
 | succ k ih =>
   intro j hj fu hfu Hc V L R hm hs S r hr ⟨h52,h53,h54⟩;obtain ⟨h0,h3,h4,h5,h6⟩:=hr;obtain ⟨fu',rfl⟩ : ∃ f,fu=f+1:=⟨fu-1,by omega⟩
   have hlt:j<ls.length:=by omega
   have hc:decide ((j:Int)<(ls.length:Int))=true:=by simp;omega
   have ha:bR (j:Int) 1=((j+1:Nat):Int):=aZ j 1 (by unfold natMax;omega)
   have hd:ls.drop j=ls[j]::ls.drop (j+1):=List.drop_eq_getElem_cons hlt;have hg:ae ls j=some ls[j]:=by rw[aB];simp[hlt]
   generalize ls[j]=i at hd hg;have hi8:=hWi j i hg;rw[hd] at hs;simp only[soIn] at hs
   split at hs
   ·cases hs
   ·rename_i a hLa;cases hcd:(Nat.beq a 0||Nat.ble 90000 a||Nat.ble 90000 R.length) with
    | true=>rw[hcd] at hs;cases hs
    | false =>
      rw[hcd] at hs;simp only[cond_false] at hs;simp only[Bool.or_eq_false_iff] at hcd;obtain ⟨⟨hc1,hc2⟩,hc3⟩:=hcd;have ha1:a≠0:=λh=>by rw[h] at hc1;cases hc1
      have ha2:a<90000:=by
       have:¬ (90000<=a):=λh=>by rw[Nat.ble_eq_true_of_le h] at hc2;cases hc2
       omega
      have ha3:R.length<90000:=by
       have:¬ (90000<=R.length):=λh=>by rw[Nat.ble_eq_true_of_le h] at hc3;cases hc3
       omega
      obtain ⟨b,rfl⟩ : ∃ b,a=b+1:=⟨a-1,by omega⟩
      have hsub:fR ((b+1:Nat):Int) 1=(b:Int):=by
       show fR (.ofNat (b+1)) (.ofNat 1)=_;have h1:Nat.ble 1 (b+1)=true:=by rw[dW];simp
       have h2:Nat.ble (b+1) natMax=true:=by rw[dW,decide_eq_true_eq];unfold natMax;omega
       simp only[fR,h1,h2,Bool.and_self,cond_true];rfl
      have hil:i<m:=by rw[<-hm];exact bj hLa
      have hl2:=bG S0.gl;have hk:=S0.k.ob;have sl:=S0.k.sl;have ln:=S0.k.len;have o1:=S0.o1;have o2:=S0.o2;have hob:ae Hc so=some (.cells [.ptr uo 0,.rsl f 0 n n 1,.rsl l 0 m m 1,.rsl x 0 m m 1]):=by rw[S.fr so (by omega) (by omega),hk]
      have hias:=gU (N:=l) (n:=m) (v:=i) hil;have hld:=IM S.gl hLa;have hgl:=S.gl;have hle:i+1<=aa (L.map inV):=by rw[ai,List.length_map,hm];omega
      have hsl2:am (L.map inV) i (inV b)=(am L i b).map inV:=by simp only[aR,List.map_set]
      have S1:=S.setL (L':=am L i b) hl2;have hob1:ae (am Hc l (.cells ((am L i b).map inV))) so=some (.cells [.ptr uo 0,.rsl f 0 n n 1,.rsl l 0 m m 1,.rsl x 0 m m 1]):=by rw[af (by omega),hob]
      have hLb:ae (am L i b) i=some b:=gq (bj hLa) _;have hld1:=IM S1.gl hLb;have hm1:(am L i b).length=m:=by rw[<-ai,ay,ai];exact hm
      have hpr:Nat.pred (b+1)=b:=rfl;rw[hpr] at hs;cases hz:Nat.beq (b+1) 1 with
      | false =>
        rw[hz] at hs;simp only[cond_false] at hs
        have hcn:decide ((b:Int)=0)=false:=by
         have h1:decide ((b:Int)=0)=Nat.beq b 0:=xX b 0;rw[h1];exact hz
        have key:=ih (j+1) (by omega) fu' (by omega) _ V (am L i b) R hm1 hs S1
        simp only[ax,lb,rn,vD,wA,ur,vX,SIM,ST0,ST1,ST2,ST3,h4,h52,h53,h54,hc,hi8,hob,hias,hld,hsub,hgl,hle,hsl2,hob1,hld1,hcn,ha,Nat.reduceAdd,Nat.reduceLeDiff];exact key _ ⟨by first|rfl|exact h0,by first|rfl|exact h3,by first|rfl|exact h4,by first|rfl|exact h5,by first|rfl|exact h6⟩ ⟨by first|rfl|exact h52,by first|rfl|exact h53,rfl⟩
      | true =>
        rw[hz] at hs;simp only[cond_true] at hs
        have hcn:decide ((b:Int)=0)=true:=by
         have h1:decide ((b:Int)=0)=Nat.beq b 0:=xX b 0;rw[h1];exact hz
        obtain ⟨V',H',ap,S'⟩:=S1.appR hl2 i 32 (by kernel_rfl) (by omega)
        have hb22:=mj i;have key:=ih (j+1) (by omega) fu' (by omega) _ V' (am L i b) (R++[i]) hm1 hs S'
        simp only[ax,lb,rn,vD,wA,ur,Cc,vX,SIM,ST0,ST1,ST2,ST3,h4,h6,h52,h53,h54,hc,hi8,hob,hias,hld,hsub,hgl,hle,hsl2,hob1,hld1,hcn,hb22,ap,orVal,ha,Nat.reduceAdd,Nat.reduceLeDiff];exact key _ ⟨by first|rfl|exact h0,by first|rfl|exact h3,by first|rfl|exact h4,by first|rfl|exact h5,rfl⟩ ⟨by first|rfl|exact h52,by first|rfl|exact h53,rfl⟩
end
theorem Hm {b:Nat}{H:Heap}{W:AV}{ls:List Nat}(h:LvI b H 1 W (ls.map inV)):aO CC 22 W=some (.int .i64 (ls.length:Int)):=by
 rcases h with ⟨h0,rfl⟩|⟨_,id,g,rfl,_⟩
 ·have:ls=[]:=by simpa using h0
  subst this;exact len22n
 ·exact pQ _ _
theorem GV {b:Nat}{H:Heap}{W:AV}{ls:List Nat}(h:LvI b H 1 W (ls.map inV)):∀ j v,ae ls j=some v->aL 1 W (.int .i64 (j:Int))=some (.iptr [inV v]):=by
 intro j v hv
 rcases h with ⟨h0,rfl⟩|⟨_,id,g,rfl,_⟩
 ·have:ls=[]:=by simpa using h0
  subst this;simp[aB] at hv
 ·refine bN (v:=inV v) ?_;rw[aB] at hv ⊢;rw[List.getElem?_map,hv];rfl
theorem VX (n:Nat):ao CC 137 [(0,.ptr n 0)]=some (.agg [.ptr n 0,.nils,.nils,.nils]):=by kernel_rfl
theorem XF (n L:Nat)(h:n<L):dV (.agg [.ptr n 0,.nils,.nils,.nils]) L=some (.cells [.ptr n 0,.nils,.nils,.nils],(.ptr · 0)):=by
 have h1:AV.low L (.agg [.ptr n 0,.nils,.nils,.nils])=true:=by simp[AV.low,aG,h]
 unfold dV;rw[if_pos ⟨rfl,h1⟩];rfl
theorem Tl {H Hc:Heap}(hl:aa H<=aa Hc)(h:∀ q,q<aa H->ae Hc q=ae H q):bg (aa H) Hc=H:=by
 rw[bU,ai];rw[ai,ai] at hl;rw[ai] at h;apply List.ext_getElem?;intro i
 by_cases hi:i<H.length
 ·rw[List.getElem?_take_of_lt hi];have:=h i hi;rw[aB,aB] at this;exact this
 ·rw[List.getElem?_eq_none (by rw[List.length_take];omega),List.getElem?_eq_none (by omega)]
section
variable {M:Memo}{uo so:Nat}{H1 H2:Heap}{u:UN}{f l x n m:Nat}{fr:List Int}{L0:List Nat}{X:List (List Nat)}{e c0:Nat}
def Y3 (H2:Heap)(l uo so c0 e c:Nat)(X:IRes):Prop :=
 ∃ r' Hd V O L out,X=some (.exit 2,r',[],⟨Hd,e⟩)/\Sr H2 l Hd L V O [] out/\RS uo so c0 V O r'/\out.length=c
theorem wV (S0:Ls uo so H1 u f l x n m fr H2 L0 X)(hm0:m<=90000){c:Nat}:∀ (k:Nat) (fu:Nat),k<=fu->∀ (Hc:Heap) (V O:AV) (L R out:List Nat),out.length+k<=1000000->L.length=m->tE X k L R out.length=some c->Sr H2 l Hc L V O R out->∀ (r:RG),RS uo so c0 V O r ->
  Y3 H2 l uo so c0 e c (ax (eS (orc CC M)) fu r [] ⟨Hc,e⟩):=by
 intro k
 induction k with
 | zero=>intro fu hfu Hc V O L R out hol hm hs;cases hs
 | succ k ih =>
   intro fu hfu Hc V O L R out hol hm hs S r hr;obtain ⟨h0,h3,h4,h5,h6⟩:=hr;obtain ⟨fu',rfl⟩ : ∃ f,fu=f+1:=⟨fu-1,by omega⟩
   have hln:=S.oR.len;have hl1:ax (eS (orc CC M)) (fu'+1) r [] ⟨Hc,e⟩=dI (ax (eS (orc CC M)) fu') (eS (orc CC M) r [] ⟨Hc,e⟩):=rfl;cases R with
   | nil =>
     simp only[tE,SJ] at hs;have hc:decide ((0:Int)<(([]:List Nat).length:Int))=false:=by decide
     rw[hl1];generalize ax (eS (orc CC M)) fu'=F;simp only[eS,vC,SIM,ST0,ST1,h6,hln,hc];exact ⟨_,Hc,V,O,L,out,rfl,S,⟨by first|rfl|exact h0,by first|rfl|exact h3,by first|rfl|exact h4,by first|rfl|exact h5,by first|rfl|exact h6⟩,hs⟩
   | cons kk R =>
     simp only[tE] at hs
     split at hs
     ·cases hs
     ·rename_i ls hX;cases hcl:Nat.ble 90000 ls.length with
      | true=>rw[hcl] at hs;cases hs
      | false =>
        rw[hcl] at hs;simp only[cond_false] at hs
        have hls:ls.length<90000:=by
         have:¬ (90000<=ls.length):=λh=>by rw[Nat.ble_eq_true_of_le h] at hcl;cases hcl
         omega
        split at hs
        ·cases hs
        ·rename_i L' R' hin;have hl2:=bG S0.gl;have sl:=S0.k.sl;have ln:=S0.k.len;have o1:=S0.o1;have o2:=S0.o2;have o3:=S0.o3;obtain ⟨V1,hi0,hsl,hR1,hnm⟩:=S.oR.hd;have S1:Sr H2 l Hc L V1 O R out:=⟨S.fr,S.gl,S.len,hR1,S.oO,by rw[hnm];exact S.dj⟩
         obtain ⟨O',H3,ap,S3⟩:=S1.appO hl2 kk 32 (by kernel_rfl) (by omega)
         obtain ⟨vs,N⟩:=S0.gx;have hkl:kk<vs.length:=by rw[N.len];exact bj hX
         obtain ⟨w,hw⟩:=mB hkl;have hW:=N.at_ kk ls w hX hw;have hxl:=bG N.g;have hob:ae H3 so=some (.cells [.ptr uo 0,.rsl f 0 n n 1,.rsl l 0 m m 1,.rsl x 0 m m 1]):=by rw[S3.fr so (by omega) (by omega),S0.k.ob]
         have hx3:ae H3 x=some (.cells vs):=by rw[S3.fr x (by omega) (by omega),N.g]
         have hias:=gU (N:=x) (n:=m) (v:=kk) (by rw[<-S0.xl];exact bj hX)
         have hld:=WS hx3 hw;have hwl:=Hm hW;have hb22:=mj kk;have hc:decide ((0:Int)<((kk::R).length:Int))=true:=by simp
         have lp:=vA (M:=M) (e:=e) (c0:=c0) S0 (ls:=ls) (by omega) hwl (GV hW) (O:=O') (out:=out++[kk]) ls.length 0 rfl 100000 (by omega) H3 V1 L R hm (by rw[List.drop_zero];exact hin) S3
         obtain ⟨r1,hr1,hk1,hpre⟩ : ∃ r1,RS uo so c0 V1 O' r1/\(r1.a.g.e=w/\r1.a.g.f=.int .i64 (ls.length:Int)/\r1.a.g.g=.int .i64 ((0:Nat):Int)) /\
           ax (eS (orc CC M)) (fu'+1) r [] ⟨Hc,e⟩=dI (ax (eS (orc CC M)) fu') (c9 3 (c9 4 (ax (lb (orc CC M)) 100000 r1 [] ⟨H3,e⟩))):=by
          rw[hl1];generalize ax (eS (orc CC M)) fu'=F;simp only[eS,vC,Fz,DL,Ez,FM,SIM,ST0,ST1,h4,h5,h6,hln,hc,hi0,hsl,hb22,ap,hob,hias,hld,hwl,orVal,Nat.reduceAdd,Nat.reduceLeDiff];exact ⟨_,⟨by first|rfl|exact h0,by first|rfl|exact h3,by first|rfl|exact h4,rfl,rfl⟩,⟨rfl,rfl,rfl⟩,rfl⟩
         obtain ⟨r2,Hd,V2,O2,b1,b2,b3⟩:=lp r1 hr1 hk1;rw[hpre,b1];have hm' : L'.length=m:=by rw[soIn_len _ _ _ _ _ hin,hm]
         have key:=ih fu' (by omega) Hd V2 O2 L' R' (out++[kk]) (by simp;omega) hm' (by rw[List.length_append];exact hs) b2 r2 b3
         simp only[SIM];exact key
end
theorem Qp (rec:RecT):z32.sh rec=ac (ac (z3 rec) (ac (yM rec) (ac (zO rec) (ac (xR rec) (Aj rec))))) (ac (aH 0 (aK (lG rec))) (ac (aH 2 (aK (eS rec))) (ac (ac (la rec) (aA (.t 87) (ac (lD rec) retZ) skipZ)) (ac (lh rec) retZ)))):=by
 simp only[z32,eH]
theorem Ua (a b c d e f g h i j:AV):ae [a,b,c,d,e,f,g,h,i,j] 1=some b:=rfl
theorem SS (a b:Int):ao CC 29 [(0,.int .i64 a),(1,.int .i64 b)]=some (.agg [.int .i64 a,.int .i64 b]):=by kernel_rfl
theorem be29_0:ao CC 29 []=some (.agg [.int .i64 0,.int .i64 0]):=by kernel_rfl
noncomputable def te (k n:Nat)(dst:List Nat)(rd:List (List Nat)):Option Nat:=match Dj n dst rd with
 | none=>none
 | some (L,X)=>tE X k L (rdS L 0) 0
section
variable {M:Memo}{uo:Nat}{H:Heap}{u:UN}
theorem IP (h32:∀ a,M 32 a=none)(h59:∀ a,M 59 a=none)(h82:∀ a,M 82 a=none)(hv:u.vars<=90000)(hE:u.eqs.length<=90000)(hA:∀ q∈u.eqs,q.args.length<=90000)(U:UI uo H u){k c:Nat}(hk:k<=90000)
  (hp:te k u.vars (u.eqs.map EqF.dst) (u.eqs.map λq=>readsL q.args)=some c) :
  ∃ V f,orc CC M 32 [.ptr uo 0] H=some (.ret (.tuple [V,f]) H (aa H))/\(V=.nils\/∃ l:List Nat,V=.sl 1 (l.map inV) .dead)/\f=cond (Nat.blt c u.eqs.length) (.agg [.int .i64 u.at_,.int .i64 10]) (.agg [.int .i64 0,.int .i64 0]):=by
 unfold te at hp
 split at hp
 ·cases hp
 rename_i L X hlk;have hul:=U.uo;have U1:UI uo (H++[cz0,.cells [.ptr uo 0,.nils,.nils,.nils]]) u:=U.ap;have hl1:aa (H++[cz0,.cells [.ptr uo 0,.nils,.nils,.nils]])=aa H+2:=by rw[az];rfl
 obtain ⟨f,l,x,fr,H2,hR,S0⟩:=JI (so:=aa H+1) h59 h82 hv hE hA U1 (by rw[aW];rfl) (λhm=>by have:=(U.lt _ hm).2;omega) hlk
 have hl2:=bG S0.gl;have sl:=S0.k.sl;have ln:=S0.k.len;have o1:=S0.o1;have o2:=S0.o2;rw[hl1] at ln o1 sl
 have fr2:∀ q,q<aa H->ae H2 q=ae H q:=λq hq=>by
  rw[S0.k.fr q (by omega) (by omega)]
  rw[ai] at hq;rw[aB,aB,List.getElem?_append_left hq]
 have c02:ae H2 (aa H)=some cz0:=by rw[S0.k.fr _ (by omega) (by omega),an];rfl
 have Sa:Sr H2 l H2 L .nils .nils [] []:=⟨λ_ _ _=>rfl,S0.gl,Nat.le_refl _,.inl ⟨rfl,rfl⟩,.inl ⟨rfl,rfl⟩,λ_ h=>by cases h⟩
 have e0:(envOf [.ptr uo 0] 0 env0).a.a.a=.ptr uo 0:=rfl
 obtain ⟨r0,hr0,hk0,s0⟩ : ∃ r,RS uo (aa H+1) (aa H) .nils .nils r/\(r.a.c.e=.rsl l 0 u.eqs.length u.eqs.length 1/\r.a.c.f=.int .i64 (u.eqs.length:Int)/\r.a.c.g=.int .i64 ((0:Nat):Int)) /\
   ac (z3 (orc CC M)) (ac (yM (orc CC M)) (ac (zO (orc CC M)) (ac (xR (orc CC M)) (Aj (orc CC M))))) (envOf [.ptr uo 0] 0 env0) [] ⟨H,aa H⟩=some (.normal,r,[],⟨H2,aa H⟩):=by
  generalize envOf [.ptr uo 0] 0 env0=R at e0;have hb:=VX uo;have hx:=XF uo (H++[cz0]).length (by rw[<-ai,az];omega)
  have hob:=S0.k.ob;have hln:=Cl l u.eqs.length;have hmn:min (aa H) (aa H+1)=aa H:=Nat.min_eq_left (by omega)
  simp only[z3,yM,zO,xR,Aj,SIM,ST0,ST1,e0,hb,hx,hR,hmn,hob,hln,List.append_assoc,List.cons_append,List.nil_append,Nat.reduceAdd,Nat.reduceLeDiff];exact ⟨_,⟨by first|rfl|exact e0,rfl,rfl,rfl,rfl⟩,⟨rfl,rfl,rfl⟩,rfl⟩
 obtain ⟨r1,Ha,V1,O1,s1,Sb,hr1⟩:=uE (M:=M) (e:=aa H) (c0:=aa H) (uo:=uo) (so:=aa H+1) hl2 S0.ll hE (O:=.nils) (out:=[]) u.eqs.length 0 rfl 100000 (by omega) H2 .nils [] (Nat.le_refl _) Sa r0 hr0 hk0
 rw[List.nil_append,List.drop_zero] at Sb;obtain ⟨r2,Hb,V2,O2,L2,out,s2,Sc,hr2,hol⟩:=wV (M:=M) (e:=aa H) (c0:=aa H) S0 hE (c:=c) k 100000 (by omega) Ha V1 O1 L (rdS L 0) [] (by simp;omega) S0.ll hp Sb r1 hr1
 obtain ⟨g0,g3,g4,g5,g6⟩:=hr2;have frb:∀ q,q<aa H->ae Hb q=ae H q:=λq hq=>by rw[Sc.fr q (by omega) (by omega),fr2 q hq]
 have ub:ae Hb uo=some (.cells u.c):=by rw[frb uo hul,U.ob]
 have cb:ae Hb (aa H)=some cz0:=by rw[Sc.fr _ (by omega) (by omega),c02]
 have hlb:=Sc.len;have hlO:=Sc.oO.len;have hlE:=Fs U.e;have b0:∀ (i:Nat) (b:CZ) (r:RG) (s:St),aH i (aK b) r [] s=c9 i (ax b 100000 r [] s):=λ_ _ _ _=>rfl
 have hz:z32.sh (orc CC M) (envOf [.ptr uo 0] 0 env0) [] ⟨H,aa H⟩=dI (ac (lh (orc CC M)) retZ) (ac (la (orc CC M)) (aA (.t 87) (ac (lD (orc CC M)) retZ) skipZ) r2 [] ⟨Hb,aa H⟩):=by
  rw[Qp,bv,s0,bk,bv,b0,s1,ck,bk,bv,b0,s2,ck,bk,bv]
 have htk:∀ o,bg (aa H) (am Hb (aa H) o)=H:=λo=>Tl (by rw[ay];omega) (λq hq=>by rw[af (by omega),frb q hq])
 cases hcm:Nat.blt c u.eqs.length with
 | true =>
   have hcl:decide ((out.length:Int)<(u.eqs.length:Int))=true:=by
    rw[hol];simp only[Nat.blt_eq] at hcm;simp;omega
   refine ⟨.nils,_,aJ (z:=z32) (h32 _) (by kernel_rfl) rfl ?_,.inl rfl,rfl⟩
   rw[hz];have hb29:=SS u.at_ 10;have hgc:=dC (k:=CC.keep 32) (b:=aa H) (v:=.tuple [.nils,.agg [.int .i64 u.at_,.int .i64 10]]) (hp:=am Hb (aa H) (.cells [.int .i64 u.at_,.int .i64 10])) rfl;rw[htk] at hgc;have hzs:=aF cb (.cells [.int .i64 u.at_,.int .i64 10]);simp only[la,lD,lh,z32,SIM,ST0,ST1,ST2,ST3,g0,g3,g5,hlO,ub,kK,Ua,hlE,hcl,hb29,cb,hzs,hgc,EXS,Nat.reduceAdd,Nat.reduceLeDiff]
 | false =>
   have hcl:decide ((out.length:Int)<(u.eqs.length:Int))=false:=by
    rw[hol];have:¬ (c<u.eqs.length):=λh=>by rw[<-Nat.blt_eq,hcm] at h;cases h
    simp;omega
   have hk32:CC.keep 32=false:=by kernel_rfl
   have hzs:=aF cb (.cells [.int .i64 0,.int .i64 0])
   rcases Sc.oO with ⟨_,hO⟩|⟨id,g,hO,hgi,hid⟩
   ·refine ⟨.nils,_,aJ (z:=z32) (h32 _) (by kernel_rfl) rfl ?_,.inl rfl,rfl⟩
    rw[hz];have hgc:=dC (k:=CC.keep 32) (b:=aa H) (v:=.tuple [.nils,.agg [.int .i64 0,.int .i64 0]]) (hp:=am Hb (aa H) (.cells [.int .i64 0,.int .i64 0])) rfl;rw[htk] at hgc;rw[hO] at g5 hlO;simp only[la,lD,lh,z32,SIM,ST0,ST1,ST2,ST3,g0,g3,g5,hlO,ub,kK,hlE,hcl,be29_0,cb,hzs,hgc,EXS,Nat.reduceAdd,Nat.reduceLeDiff]
   ·refine ⟨.sl 1 (out.map inV) .dead,_,aJ (z:=z32) (h32 _) (by kernel_rfl) rfl ?_,.inr ⟨out,rfl⟩,rfl⟩
    rw[hz]
    have hnn:dp (out.map inV)=true:=by
     have:∀ l:List Nat,dp (l.map inV)=true:=λl=>by
      induction l with
      | nil=>rfl
      | cons a l ih=>rw[List.map_cons,br,ih];rfl
     exact this out
    have hgc:=qV (sz:=1) (l:=out.map inV) (fs:=[.int .i64 0,.int .i64 0]) (id:=id) (g:=g) (base:=aa H) (hp:=am Hb (aa H) (.cells [.int .i64 0,.int .i64 0])) hnn rfl (by omega)
    rw[htk] at hgc;rw[hO] at g5 hlO;simp only[la,lD,lh,z32,SIM,ST0,ST1,ST2,ST3,g0,g3,g5,hlO,ub,kK,hlE,hcl,be29_0,cb,hzs,hk32,hgc,EXS,Nat.reduceAdd,Nat.reduceLeDiff]
end
end Go.Proofs
