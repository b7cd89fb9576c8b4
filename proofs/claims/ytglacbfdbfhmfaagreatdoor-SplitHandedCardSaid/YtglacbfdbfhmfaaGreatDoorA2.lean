/- the machine: operations on memory. Part of the proof of girandolelaw12.SplitHanded. -/
import Derived.Test.YtglacbfdbfhmfaaGreatDoorA1
import Derived.Laws.MakeOwn
import Derived.Laws.CopyRow
import Derived.Room.AppendAsks
import Derived.Room.AppendOwn
set_option linter.unusedVariables false
set_option linter.unusedSimpArgs false
namespace Go.Abs
section
variable {C:Cfg}{G:Gh}{H:Heap}{w:World}{tmps:List AV}{ca:Go.Act}{o:Oper}{a:AV}
theorem l9 {t:TypeId}{cs:List AV}{b o0 off:Nat}(hr:VRow G w b o0 cs)(h:eo C t cs off=some a) :
  ∃ v,(loadVar t ⟨b,o0+off,none⟩).run C.P w=.ok v w/\VR G w a v:=by
 unfold eo at h
 split at h
 ·cases h
 ·rename_i d hd
  split at h
  ·rename_i hg
   split at h
   ·rename_i n hn
    split at h
    ·rename_i hle;simp only[SJ] at h;subst h;obtain ⟨m,h1,h2⟩:=VRow.list (VRow.take n (VRow.drop off hr));have hml:m.length=n:=by rw[<-VList.length h1];simp;omega
     have:=run_loadCells_list (P:=C.P) (w:=w) ⟨b,o0+off,none⟩ m (λj v hj=>by
      rw[Addr.add_mk];exact h2 j v hj)
     rw[hml] at this;refine ⟨.agg m.toArray,by simp[loadVar,jl hd,hg,bZ hn,this],?_⟩
     simp only[VR];exact ⟨_,rfl,by simpa using h1⟩
    ·cases h
   ·cases h
  ·rename_i hg;obtain ⟨x,h1,h2⟩:=VRow.get hr h;refine ⟨x,?_,h2⟩;simp only[Bool.not_eq_true] at hg;have h1' : w.cell? ⟨b,o0+off,none⟩=some x:=h1;simp[loadVar,jl hd,hg,h1']
theorem Rel.block (r:Rel C G H w){n:Nat}{ob:AObj}(h:H[n]?=some ob)(hne:ob ≠ .gone){q:Option Nat}(hq:G.rho n=some q):∃ b,q=some b/\ObjR G w b ob:=by
 cases q with
 | none=>exact absurd (r.dead n ob h hq) hne
 | some b=>exact ⟨b,rfl,r.obj n ob h b hq⟩
theorem oC (r:Rel C G H w){t:TypeId}{p:AV}{vp:Value}(hp:VR G w p vp)(h:fV C t p H=some a) :
  ∃ v,(Instr.loadAt t vp).run C.P w=.ok v w/\VR G w a v:=by
 unfold fV at h
 split at h
 ·rename_i n off
  split at h
  ·rename_i cs hn;simp only[VR] at hp;obtain ⟨q,b,h1,rfl,h3⟩:=hp;obtain ⟨b',hb,hob⟩:=r.block hn (by simp) h1
   obtain rfl:=h3 b' hb;obtain ⟨m,_,_,hrow⟩:=hob;obtain ⟨v,g1,g2⟩:=l9 hrow h;refine ⟨v,?_,g2⟩;simp only[Nat.zero_add] at g1;simp[Instr.loadAt,Instr.sureAddr,g1]
  ·cases h
 ·rename_i xs;simp only[VR] at hp;obtain ⟨b,off,rfl,h1,hrow⟩:=hp;obtain ⟨v,g1,g2⟩:=l9 hrow h;refine ⟨v,?_,g2⟩;simp only[Nat.add_zero] at g1;simp[Instr.loadAt,Instr.sureAddr,g1]
 ·cases h
def KeyD (d:TypeDesc)(k:AV):Prop:=match d,k with
 | .int j,.int j' _=>j=j'
 | .string,.str _=>True
 | .bool,.bool _=>True
 | _,_=>False
theorem fp {t e:TypeId}{k:AV}(h:fh C t k=some e):∃ kt d,C.P.underlying t=some (.map kt e)/\C.P.underlying kt=some d/\KeyD d k:=by
 unfold fh at h
 split at h
 ·rename_i kt e' hu
  split at h
  ·rename_i j j' n hk
   split at h
   ·rename_i hj;simp only[SJ] at h;subst h;exact ⟨_,_,hu,hk,hj⟩
   ·cases h
  ·rename_i s hk;simp only[SJ] at h;subst h;exact ⟨_,_,hu,hk,trivial⟩
  ·rename_i s hk;simp only[SJ] at h;subst h;exact ⟨_,_,hu,hk,trivial⟩
  ·cases h
 ·cases h
theorem iH {kt:TypeId}{d:TypeDesc}{k:AV}{vk:Value}(hd:C.P.underlying kt=some d)(hk:KeyD d k)(hv:VR G w k vk)(em:Bool)(n:Nat)(w' : World) :
  (Instr.checkKey em (n+1) kt vk).run C.P w'=.ok () w':=by
 unfold KeyD at hk
 split at hk
 ·simp only[VR] at hv;subst hv;simp[Instr.checkKey,aE hd]
 ·simp only[VR] at hv;obtain ⟨s,rfl,_⟩:=hv;simp[Instr.checkKey,aE hd]
 ·simp only[VR] at hv;subst hv;simp[Instr.checkKey,aE hd]
 ·exact absurd hk id
theorem zL {s t:ByteArray}{l m:List Nat}(hs:s.data.toList.map (·.toNat)=l)(ht:t.data.toList.map (·.toNat)=m):(s == t)=decide (l=m):=by
 subst hs;subst ht;rw[beq_toListBytes,ByteArray.toList_eq,ByteArray.toList_eq,Bool.eq_iff_iff];simp only[beq_iff_eq,decide_eq_true_eq];exact list_eq_iff
theorem In {s t:ByteArray}(h:s.data.toList.map (·.toNat)=t.data.toList.map (·.toNat)):s=t:=by
 rw[<-list_eq_iff] at h;obtain ⟨⟨x⟩⟩:=s;obtain ⟨⟨y⟩⟩:=t;simp only at h;rw[h]
def OB (k a:AV):Bool:=match k,a with
 | .int j _,.int j' _=>decide (j=j')
 | .str _,.str _=>true
 | .bool _,.bool _=>true
 | _,_=>false
theorem qG {k x v:AV}{r:List (AV×AV)}:fj k ((x,v)::r)=(OB k x&&fj k r):=rfl
theorem xa {d:TypeDesc}{k a:AV}{vk va:Value}(hk:KeyD d k)(hv:VR G w k vk)(ha:VR G w a va)
  (hf:OB k a=true):Instr.sameNow d vk va=some (keyEq k a):=by
 cases k<;>cases a<;>simp only[OB,Bool.false_eq_true,decide_eq_true_eq] at hf
 ·cases d<;>simp only[KeyD] at hk
  simp only[VR] at hv ha;subst hv;subst ha;simp[Instr.sameNow,keyEq]
 ·cases d<;>simp only[KeyD] at hk
  simp only[VR] at hv ha;subst hv;subst ha;subst hf;simp only[Instr.sameNow,keyEq,if_true];simp;rfl
 ·cases d<;>simp only[KeyD] at hk
  simp only[VR] at hv ha;obtain ⟨s,rfl,hs⟩:=hv;obtain ⟨t,rfl,ht⟩:=ha;simp only[Instr.sameNow,keyEq,zL hs ht]
theorem Cp {k a:AV}{vk va:Value}(hv:VR G w k vk)(ha:VR G w a va)(h:keyEq k a=true):vk=va:=by
 cases k<;>cases a<;>simp only[keyEq,Bool.false_eq_true,Bool.and_eq_true,decide_eq_true_eq,beq_iff_eq] at h
 ·simp only[VR] at hv ha;rw[hv,ha,h]
 ·simp only[VR] at hv ha;rw[hv,ha,h.1,h.2]
 ·simp only[VR] at hv ha;obtain ⟨s,rfl,hs⟩:=hv;obtain ⟨t,rfl,ht⟩:=ha;rw[In (hs.trans (h.trans ht.symm))]
theorem gD {d:TypeDesc}{k:AV}{vk:Value}(hk:KeyD d k)(hv:VR G w k vk):∀ {es:List (AV×AV)} {l:List MapEntry} {i:Nat},MapR G w i es l->fj k es=true->∀ j,
  (cD k es j=none/\Instr.findNow d vk l j=some none) \/
  ∃ n v e,cD k es j=some (j+n,v)/\Instr.findNow d vk l j=some (some (j+n,e.val))/\l[n]?=some e/\VR G w v e.val/\e.born=i+n/\e.key=vk/\n<es.length
 | [],l,i,hm,hf,j=>by
   simp only[MapR] at hm;subst hm;exact .inl ⟨rfl,rfl⟩
 | (x,v)::r,l,i,hm,hf,j=>by
   simp only[MapR] at hm;obtain ⟨e,m,rfl,h1,h2,h3,h4⟩:=hm;rw[qG,Bool.and_eq_true] at hf;have hs:=xa hk hv h1 hf.1;cases hke:keyEq k x with
   | true =>
     right
     rw[hke] at hs;refine ⟨0,v,e,by simp[cD,hke],by simp[Instr.findNow,hs],by simp,h2,by omega,(Cp hv h1 hke).symm,by simp⟩
   | false =>
     rw[hke] at hs
     rcases gD hk hv h4 hf.2 (j+1) with ⟨g1,g2⟩|⟨n,v',e',g1,g2,g3,g4,g5,g6,g7⟩
     ·left;exact ⟨by simp[cD,hke,g1],by simp[Instr.findNow,hs,g2]⟩
     ·right
      exact ⟨n+1,v',e',by simp[cD,hke,g1];omega,by simp[Instr.findNow,hs,g2];omega,by simpa using g3,g4,by omega,g6,by simp;omega⟩
theorem d9 {kt:TypeId}{d:TypeDesc}{vk:Value}{l:List MapEntry}{r:Option (Nat×Value)}(hd:C.P.underlying kt=some d)(h:Instr.findNow d vk l 0=some r)(w' : World) :
  (Instr.findKey kt vk l).run C.P w'=.ok r w':=by
 simp[Instr.findKey,aE hd,h]
theorem MapR.length:∀ {es:List (AV×AV)} {l:List MapEntry} {i:Nat},MapR G w i es l->l.length=es.length
 | [],l,i,h=>by simp only[MapR] at h;subst h;rfl
 | (k,v)::r,l,i,h=>by
   simp only[MapR] at h;obtain ⟨e,m,rfl,_,_,_,h4⟩:=h;simp[MapR.length h4]
theorem Bk (r:Rel C G H w){t:TypeId}{x k:AV}{vx vk:Value}{ok:Bool}(hx:VR G w x vx)(hk:VR G w k vk)(h:aV C t x k ok H=some a) :
  ∃ v,(Instr.lookup t vx vk ok).run C.P w=.ok v w/\VR G w a v:=by
 unfold aV at h
 split at h
 ·rename_i e es hfit hes;obtain ⟨kt,d,hu,hd,hkd⟩:=fp hfit
  split at h
  ·rename_i hks
   have hent:∃ l:Array MapEntry,MapR G w 0 es l.toList/\((vx=.map none/\l=#[])\/∃ b,vx=.map (some b)/\w.heap[b]?=some (.map l l.size)):=by
    unfold d6 at hes
    split at hes
    ·simp only[SJ] at hes;subst hes;simp only[VR] at hx;exact ⟨#[],by simp[MapR],.inl ⟨hx,rfl⟩⟩
    ·rename_i n
     split at hes
     ·rename_i es' hn;simp only[SJ] at hes;subst hes;simp only[VR] at hx;obtain ⟨q,b,h1,rfl,h3⟩:=hx;obtain ⟨b',hb,hob⟩:=r.block hn (by simp) h1
      obtain rfl:=h3 b' hb;obtain ⟨l,g1,g2⟩:=hob;exact ⟨l,g2,.inr ⟨b',rfl,g1⟩⟩
     ·cases hes
    ·cases hes
   obtain ⟨l,hl,hvx⟩:=hent;have hck:=λem=>iH hd hkd hk em 9999 w
   rcases gD hkd hk hl hks 0 with ⟨g1,g2⟩|⟨n,v',e',g1,g2,g3,g4,g5,g6,g7⟩
   ·have hf:=d9 hd g2 w;rw[g1] at h;simp only at h
    split at h
    ·rename_i z hz;obtain ⟨zv,z1,z2⟩:=ej hz w;have hzv:VR G w z zv:=ofConst_ok _ _ z2;simp only[SJ] at h;subst h;refine ⟨if ok then .tuple #[zv,.bool false] else zv,?_,?_⟩
     ·rcases hvx with ⟨rfl,rfl⟩|⟨b,rfl,hb⟩
      ·simp only[Instr.lookup,Sem.run_bind,aE hu,Result.andThen_ok,Sem.run_pure,hck,hf,z1]
      ·simp[Instr.lookup,Sem.run_bind,aE hu,Result.andThen_ok,Sem.run_pure,hck,hf,z1,hb,getObj,Sem.run]
     ·cases ok
      ·exact hzv
      ·simp only[VR,VList,if_true];exact ⟨_,rfl,_,_,rfl,hzv,_,_,rfl,rfl,rfl⟩
    ·cases h
   ·have hf:=d9 hd g2 w;rw[g1] at h;simp only[SJ] at h;subst h;refine ⟨if ok then .tuple #[e'.val,.bool true] else e'.val,?_,?_⟩
    ·rcases hvx with ⟨rfl,rfl⟩|⟨b,rfl,hb⟩
     ·simp only[Instr.lookup,Sem.run_bind,aE hu,Result.andThen_ok,Sem.run_pure,hck,hf]
     ·simp[Instr.lookup,Sem.run_bind,aE hu,Result.andThen_ok,Sem.run_pure,hck,hf,hb,getObj,Sem.run]
    ·cases ok
     ·exact g4
     ·simp only[VR,VList,if_true];exact ⟨_,rfl,_,_,rfl,g4,_,_,rfl,rfl,rfl⟩
  ·cases h
 ·cases h
theorem yF (r:Rel C G H w)(ht:VList G w tmps ca.tmps.toList)(h:dg C tmps o H=some a) :
  ∃ v,(execOp ca.eval o).run C.P w=.ok (.value v) w/\VR G w a v:=by
 unfold dg at h
 split at h
 ·rename_i t x ho
  split at h
  ·rename_i p hp;obtain ⟨v,h1,h2⟩:=oC r (bd r ht hp) h;exact ⟨v,by simp[execOp,ho,h1],h2⟩
  ·cases h
 ·rename_i t x i ok ho
  split at h
  ·rename_i m k hm hk;obtain ⟨v,h1,h2⟩:=Bk r (bd r ht hm) (bd r ht hk) h;exact ⟨v,by simp[execOp,ho,h1],h2⟩
  ·cases h
 ·cases h
end
section
variable {C:Cfg}{G:Gh}{H:Heap}{w:World}{tmps:List AV}{ca:Go.Act}{o:Oper}{a:AV}{f:FuncId}{L:Nat}{ob:AObj}{mk:Nat->AV}
def jh (C:Cfg)(G:Gh)(w:World)(o:Oper)(ca:Go.Act)(L:Nat)(ob:AObj)(mk:Nat->AV):Prop :=
 ∃ v w' cv,(execOp ca.eval o).run C.P w=.ok (.value v) w'/\Pushed w w' cv/\(∀ G',Ext G w G' w'->ObjR G' w' w.heap.size ob)/\ob.low L=true/\(∀ g,ob ≠ .lin g) /\
   ∀ G' n,G'.rho n=some (some w.heap.size)->VR G' w' (mk n) v
theorem iY {cs:List AV}{c:Array Value}{e:TypeId}{w' : World}(hp:Pushed w w' (.cells c e (0,0)))(hc:VList G w cs c.toList) :
  ∀ G',Ext G w G' w'->ObjR G' w' w.heap.size (.cells cs):=by
 intro G' hx;have hl:=VList.length hc;refine ⟨c.size,⟨c,e,hp.new,rfl⟩,by rw[hl];simp,?_⟩
 exact jY hp.new (VList.mono hx _ _ hc)
theorem G6 (r:Rel C G H w){t:TypeId}{z:AV}(ho:o.op=.alloc t)(hz:cj C t=some z):jh C G w o ca L (.cells z.cells) (.ptr · 0):=by
 obtain ⟨zv,h1,h2⟩:=ej hz w;have hzv:VR G w z zv:=ofConst_ok _ _ h2;obtain ⟨k1,k2⟩:=eh hz;have hp:Pushed w { w with heap:=w.heap.push (.cells zv.cells t (0,0)) } (.cells zv.cells t (0,0)):=⟨rfl,rfl,rfl,rfl⟩
 refine ⟨.pointer (some ⟨w.heap.size,0,none⟩),_,_,?_,hp,iY hp (VR.cells k1 hzv),?_,by simp,?_⟩
 ·simp[execOp,ho,Instr.alloc,h1,newVar,newRow]
 ·exact bO (Nat.zero_le L) _ (AV.low_cells k2)
 ·intro G' n hn;simp only[VR];exact ⟨_,_,hn,rfl,λb' e=>by simpa using e.symm⟩
theorem OW (r:Rel C G H w)(ht:VList G w tmps ca.tmps.toList){t:TypeId}{x:Operand}{b:AV}(ho:o.op=.box t x)(hx:cM C tmps x=some b)(h1:b.cells.all AV.one=true)
  (h2:b.low L=true):jh C G w o ca L (.cells b.cells) (.ptr · 0):=by
 have hv:=bd r ht hx;have hp:Pushed w { w with heap:=w.heap.push (.cells (ca.eval x).cells t (0,0)) } (.cells (ca.eval x).cells t (0,0)):=⟨rfl,rfl,rfl,rfl⟩
 refine ⟨.pointer (some ⟨w.heap.size,0,none⟩),_,_,?_,hp,iY hp (VR.cells h1 hv),AV.low_cells h2,by simp,?_⟩
 ·simp[execOp,ho,Instr.box,newVar,newRow]
 ·intro G' n hn;simp only[VR];exact ⟨_,_,hn,rfl,λb' e=>by simpa using e.symm⟩
theorem od (r:Rel C G H w)(ht:VList G w tmps ca.tmps.toList){t k e:TypeId}{rs:Option Operand}(ho:o.op=.makeMap t rs)(hu:C.P.underlying t=some (.map k e))
  (hr:iy C tmps rs=some none\/∃ k n,iy C tmps rs=some (some (.int k n))) :
  jh C G w o ca L (.map []) .map:=by
 have hp:Pushed w { w with heap:=w.heap.push (.map #[] 0) } (.map #[] 0):=⟨rfl,rfl,rfl,rfl⟩
 refine ⟨.map (some w.heap.size),_,_,?_,hp,?_,rfl,by simp,?_⟩
 ·rcases hr with h|⟨k',n,h⟩
  ·have:=VOpt.none (jR r ht h);simp[execOp,ho,Instr.makeMap,this]
  ·obtain ⟨v,h1,h2⟩:=VOpt.some (jR r ht h);simp only[VR] at h2;subst h2;simp[execOp,ho,Instr.makeMap,h1,aE hu,asInt,asIntOf]
 ·intro G' hx;exact ⟨#[],hp.new,by simp[MapR]⟩
 ·intro G' n hn;simp only[VR];exact ⟨_,_,hn,rfl,λb' e=>by simpa using e.symm⟩
theorem ft {b:Nat}{z:AV}(h:z.low b=true):∀ n,aG b (List.replicate n z)=true
 | 0=>rfl
 | n+1=>by simp[List.replicate_succ,aG,h,ft h n]
theorem rz (r:Rel C G H w)(ht:VList G w tmps ca.tmps.toList){t e:TypeId}{lo co:Operand}{lv cv z:AV}{i:TypeInfo}{l c:Nat}(ho:o.op=.makeSlice t lo co)
  (hu:C.P.underlying t=some (.slice e)) (hl:cM C tmps lo=some lv) (hc:cM C tmps co=some cv) (hi:C.P.info? e=some i) (hz:cj C e=some z)
  (hln:cC lv=some l) (hcn:cC cv=some c) (h1:0<i.size) (h2:l<=c) (h3:i.bytes*c<=2 ^ 40) (h4:c<=2 ^ 40) (h5:z.cells.length=i.size) :
  jh C G w o ca L (.cells (ak (List.replicate c z))) λn=>.rsl n 0 l c i.size:=by
 obtain ⟨kl,e1⟩:=dR hln (bd r ht hl);obtain ⟨kc,e2⟩:=dR hcn (bd r ht hc);have hz':=hz;unfold cj at hz';rw[hi] at hz';simp only at hz'
 split at hz'
 ·rename_i zv hzv;obtain ⟨zv',g1,g2⟩:=ej hz w
  have:zv'=zv:=by
   have hh:(zeroValue e).run C.P w=.ok zv w:=by simp[zeroValue,fG hi,hzv]
   rw[hh] at g1;simp only[Result.ok.injEq] at g1;exact g1.1.symm
  subst this;have hzr:VR G w z zv':=ofConst_ok _ _ g2;obtain ⟨k1,k2⟩:=eh hz;have hcells:VList G w z.cells zv'.cells.toList:=VR.cells k1 hzr
  have hb' : (i.bytes:Int)*(c:Int)<=281474976710656:=by
   have h:((i.bytes*c:Nat):Int)<=281474976710656:=by omega
   rwa [Int.natCast_mul] at h
  have hrun:=run_make (P:=C.P) w t e i zv' hu hi hzv kl kc (l:Int) (c:Int) (by omega) (by omega) hb' (by omega)
  simp only[Int.toNat_natCast] at hrun;have hrow:=pP (n:=c) hcells h5 h1;have hp:Pushed w (w.alloc (.cells (madeCells zv'.cells (c*i.size)) e)) (.cells (madeCells zv'.cells (c*i.size)) e (0,0)):=⟨rfl,rfl,rfl,rfl⟩;refine ⟨.slice (some ⟨w.heap.size,0,none⟩) l c,_,_,?_,hp,iY hp hrow,?_,by simp,?_⟩
  ·simp[execOp,ho,e1,e2,hrun]
  ·exact dX (ft (AV.low_mono (Nat.zero_le L) _ k2) c)
  ·intro G' n hn;simp only[VR];refine ⟨_,_,c,hn,rfl,Nat.le_refl _,h2,λb' e=>⟨by simpa using e.symm,c*i.size,?_,by omega⟩⟩
   exact ⟨_,_,hp.new,by simp[size_madeCells]⟩
 ·cases hz'
theorem A9 (r:Rel C G H w)(ht:VList G w tmps ca.tmps.toList){t:TypeId}{n:Nat}{ps:Array (Nat×Operand)}{l:List (Nat×AV)}{sz:Nat}{es:List AV}(ho:o.op=.buildSlice t n ps)
  (hl:dO C tmps ps.toList=some l) (h:fZ C t n l=some (sz,es)) (hlow:aG L es=true) :
  jh C G w o ca L (.cells (ak es)) λr=>.rsl r 0 n n sz:=by
 obtain ⟨c,e,w',hp,hrun,hv,hn,hsz,hes⟩:=yw r ht ho hl h;have hlen:=bD (l:=es) (λe he=>(hes e he).1)
 have hcs:c.size=n*sz:=by
  have:=VList.length hv;rw[hlen,hn] at this;simpa using this.symm
 refine ⟨_,w',_,hrun,hp,iY hp hv,dX hlow,by simp,?_⟩
 intro G' m hm;simp only[VR];refine ⟨_,_,n,hm,rfl,Nat.le_refl _,Nat.le_refl _,λb' e'=>⟨by simpa using e'.symm,n*sz,?_,by omega⟩⟩
 exact ⟨_,_,hp.new,hcs⟩
theorem jX {t e:TypeId}(h:bK C t=some e):C.P.underlying t=some (.slice e):=by
 unfold bK at h
 split at h
 ·simp only[SJ] at h;subst h;assumption
 ·cases h
theorem t9 (r:Rel C G H w)(ht:VList G w tmps ca.tmps.toList)(h:bS C f tmps o L=some (ob,mk)):jh C G w o ca L ob mk:=by
 unfold bS at h
 split at h
 ·rename_i t ho
  split at h
  ·rename_i z hz;simp only[SJ,PJ] at h;obtain ⟨rfl,rfl⟩:=h;exact G6 r ho hz
  ·cases h
 ·rename_i t x ho
  split at h
  ·rename_i b hx
   split at h
   ·rename_i hc;simp only[SJ,PJ] at h;obtain ⟨rfl,rfl⟩:=h;exact OW r ht ho hx hc.1 hc.2
   ·cases h
  ·cases h
 ·rename_i t rs ho
  split at h
  ·rename_i k e hu hr;simp only[SJ,PJ] at h;obtain ⟨rfl,rfl⟩:=h;exact od r ht ho hu (.inl hr)
  ·rename_i k e j n hu hr;simp only[SJ,PJ] at h;obtain ⟨rfl,rfl⟩:=h;exact od r ht ho hu (.inr ⟨_,_,hr⟩)
  ·cases h
 ·rename_i t lo co ho
  split at h
  ·rename_i e lv cv he hl hc
   split at h
   ·rename_i i z l c hi hz hln hcn
    split at h
    ·rename_i hcond;obtain ⟨h1,h2,h3,h4,h5⟩:=hcond;simp only[SJ,PJ] at h;obtain ⟨rfl,rfl⟩:=h;exact rz r ht ho (jX he) hl hc hi hz hln hcn h1 h2 h3 h4 h5
    ·cases h
   ·cases h
  ·cases h
 ·rename_i t n ps ho
  split at h
  ·split at h
   ·rename_i l hl
    split at h
    ·rename_i sz es hlit
     split at h
     ·rename_i hlow;simp only[SJ,PJ] at h;obtain ⟨rfl,rfl⟩:=h;exact A9 r ht ho hl hlit hlow
     ·cases h
    ·cases h
   ·cases h
  ·cases h
 ·cases h
end
structure Changed (w w' : World)(b:Nat):Prop where
 at_:∀ b',b'≠b->w'.heap[b']?=w.heap[b']?
 size:w'.heap.size=w.heap.size
 tape:w'.tape=w.tape
 os:w'.os=w.os
 output:w'.output=w.output
theorem Rel.setAt {C:Cfg}{G:Gh}{H:Heap}{w w' : World}(r:Rel C G H w){n b:Nat}{ob ob' : AObj}(hn:H[n]?=some ob)(hb:G.rho n=some (some b))
  (hw:Changed w w' b) (hp:∀ m,cN w b m->cN w' b m) (hg:ob ≠ .gone) (hlow:ob'.low H.length=true) (hk:∀ g,ob' ≠ .lin g) (hnew:Ext G w G w'->ObjR G w' b ob') :
  Rel C G (H.set n ob') w'/\Step G H w G (H.set n ob') w':=by
 have himm:=(r.rimm n b hb).1;have hne:∀ b',G.imm b'≠none->b'≠b:=λb' h e=>by rw[e] at h;exact h himm
 have hplain:∀ b' m,cN w b' m->cN w' b' m:=by
  intro b' m h
  by_cases e:b'=b
  ·rw[e] at h ⊢;exact hp m h
  ·obtain ⟨c,el,h1,h2⟩:=h;exact ⟨c,el,by rw[hw.at_ b' e];exact h1,h2⟩
 have hx:Ext G w G w':={
  rho:=λn r h=>.inl h
  lam:=λid b h=>⟨⟨b,h⟩,Nat.le_refl _,λ_=>⟨h,λ_ h=>h⟩⟩
  imm:=λb u h=>⟨u,h,Nat.le_refl _⟩
  cells:=λb' u c el fz hu hc=>⟨c,by rw[hw.at_ b' (hne b' (by rw[hu];simp))];exact hc,rfl,λ_ _=>rfl⟩
  plain:=hplain
  foreign:=λb' _ h1 h2=>⟨hw.at_ b' (λe=>h2 n (by rw[e];exact hb)),h1,h2⟩
  size:=by rw[hw.size];exact Nat.le_refl _
  tape:=hw.tape
  os:=hw.os
  output:=hw.output }
 have hlt:n<H.length:=by
  rcases Nat.lt_or_ge n H.length with h|h
  ·exact h
  ·rw[List.getElem?_eq_none h] at hn;cases hn
 have hget:∀ m o,(H.set n ob')[m]?=some o->(m=n/\o=ob')\/(m≠n/\H[m]?=some o):=by
  intro m o h
  by_cases e:m=n
  ·subst e;rw[List.getElem?_set_self hlt] at h;exact .inl ⟨rfl,by simpa using h.symm⟩
  ·rw[List.getElem?_set_ne (Ne.symm e)] at h;exact .inr ⟨e,h⟩
 refine ⟨?_,hx,?_,?_,by simp⟩
 ·exact {
   obj:=λm o ho b' hb'=>by
    rcases hget m o ho with ⟨rfl,rfl⟩|⟨e,h⟩
    ·rw[hb] at hb';obtain rfl:b=b':=by simpa using hb'
     exact hnew hx
    ·have:b'≠b:=λe'=>e (r.rinj m n b (by rw[<-e'];exact hb') hb)
     exact ObjR.mono hx (hw.at_ b' this) (r.obj m o h b' hb')
   dead:=λm o ho hd=>by
    rcases hget m o ho with ⟨rfl,rfl⟩|⟨e,h⟩
    ·rw[hb] at hd;simp at hd
    ·exact r.dead m o h hd
   out:=λm hm=>r.out m (by simpa using hm)
   lin:=λm g hm=>by
    rcases hget m _ hm with ⟨rfl,e⟩|⟨e,h⟩
    ·exact absurd e.symm (hk g)
    ·obtain ⟨a1,a2,b',u,k,a3,a4,a5,a6⟩:=r.lin m g h;exact ⟨a1,a2,b',u,k,a3,a4,hplain _ _ a5,a6⟩
   lamE:=λm b' hm=>by
    obtain ⟨g,h⟩:=r.lamE m b' hm;refine ⟨g,?_⟩
    have:m≠n:=λe=>by
     rw[e] at h;have:=(r.lin n g h).2.1;rw[this] at hb;cases hb
    rw[List.getElem?_set_ne (Ne.symm this)];exact h
   rinj:=r.rinj
   linj:=r.linj
   rimm:=λm b' hm=>by rw[hw.size];exact r.rimm m b' hm
   immE:=λb' u hu=>by
    rw[hw.at_ b' (hne b' (by rw[hu];simp))];exact r.immE b' u hu
   low:=λm o ho=>by
    rw[List.length_set]
    rcases hget m o ho with ⟨rfl,rfl⟩|⟨e,h⟩
    ·exact hlow
    ·exact r.low m o h
   glob:=λi xs hg=>by
    obtain ⟨⟨u,h1,h2⟩,h3⟩:=r.glob i xs hg;exact ⟨⟨u,h1,h2⟩,VRow.mono hx i xs 0 u h1 (by omega) h3⟩
   globS:=TabS.mono r hx }
 ·intro m hm h1 h2;refine ⟨h1,h2,?_⟩;have:m≠n:=λe=>by rw[e,hb] at h1;cases h1
  rw[List.getElem?_set_ne (Ne.symm this)]
 ·intro m b' h1 h2;have hmn:m≠n:=λe=>by rw[e,hn] at h1;simp at h1;exact hg h1
  have:b'≠b:=λe'=>hmn (r.rinj m n b (by rw[<-e'];exact h2) hb)
  exact ⟨h2,by rw[List.getElem?_set_ne (Ne.symm hmn)];exact h1,hw.at_ b' this⟩
section
variable {C:Cfg}{G:Gh}{H:Heap}{w:World}{tmps:List AV}{ca:Go.Act}{o:Oper}{a:AV}
theorem BE {w:World}{g b:Nat}{cs:Array Value}(h:b≠g):(w.setRow g cs).heap[b]?=w.heap[b]?:=by
 simp[World.setRow,Array.getElem?_modify,Ne.symm h]
theorem fB (w:World)(b:Nat)(cs:Array Value):Changed w (w.setRow b cs) b :=
 ⟨λb' h=>BE h,by simp[World.setRow],rfl,rfl,rfl⟩
theorem IN {w' : World}{b off:Nat}{cs vs:List AV}{c:Array Value}{e:TypeId}{fr:Nat×Nat}{m:List Value}
  (hr:VRow G w' b 0 cs) (hc:w'.heap[b]?=some (.cells c e fr)) {w2:World} (hc2:w2.heap[b]?=some (.cells (c.toList.take off++m++c.toList.drop (off+m.length)).toArray e fr))
  (hx:∀ a v,VR G w' a v->VR G w2 a v) (hv:VList G w' vs m) (hl:off+vs.length<=cs.length) (hle:cs.length<=c.size):VRow G w2 b 0 (a9 cs off vs):=by
 have hcl:VList G w' cs (c.toList.take cs.length):=by
  obtain ⟨l,h1,h2⟩:=VRow.list hr
  have:l=c.toList.take cs.length:=by
   apply List.ext_getElem?;intro i;have hlen:=VList.length h1
   by_cases hi:i<cs.length
   ·have hi' : i<l.length:=by omega
    have:=h2 i l[i] (by simp[hi'])
    rw[cW hc] at this;rw[List.getElem?_take_of_lt hi,List.getElem?_eq_getElem hi'];simpa using this.symm
   ·rw[List.getElem?_eq_none (by omega),List.getElem?_eq_none (by simp;omega)]
  rwa [<-this]
 have hput:=VList.put hcl hv off;have hml:=VList.length hv
 have hput' : VList G w2 (a9 cs off vs) (List.take off (List.take cs.length c.toList)++m++List.drop (off+m.length) (List.take cs.length c.toList)):=by
  clear hc2 hr hc
  generalize a9 cs off vs=l at hput ⊢;generalize (List.take off (List.take cs.length c.toList)++m++List.drop (off+m.length) (List.take cs.length c.toList))=k at hput ⊢
  induction l generalizing k with
  | nil=>simpa [VList] using hput
  | cons x y ih =>
    simp only[VList] at hput ⊢;obtain ⟨p,q,h1,h2,h3⟩:=hput;exact ⟨p,q,h1,hx _ _ h2,ih _ h3⟩
 refine VRow.of_list hput' (λi x hi=>?_)
 rw[cW hc2];simp only[Nat.zero_add,List.getElem?_toArray];rw[<-hi];simp only[List.getElem?_append,List.length_take,List.getElem?_take,List.getElem?_drop,List.length_append,List.length_drop,Array.length_toList]
 have h3:i<cs.length:=by
  have:=List.getElem?_eq_some_iff.1 hi;obtain ⟨this,_⟩:=this;simp only[List.length_append,List.length_take,List.length_drop,Array.length_toList] at this;rw[Nat.min_eq_left (show cs.length<=c.size from hle),Nat.min_eq_left (show off<=cs.length by omega)] at this
  omega
 have e1:min off (min cs.length c.size)=off:=by omega
 have e2:min off c.size=off:=by omega
 rw[e1,e2]
 by_cases h1:i<off
 ·have h5:i<off+m.length:=by omega
  simp only[h1,h3,h5,if_true]
 ·by_cases h2:i<off+m.length
  ·simp[h1,h2]
  ·have h4:off+m.length+(i-(off+m.length))<cs.length:=by omega
   simp[h1,h2,h4]
theorem xF {b off:Nat}{cs vs:List AV}(h1:aG b cs=true)(h2:aG b vs=true):aG b (a9 cs off vs)=true:=by
 rw[sG] at *;intro a ha;simp only[a9,List.mem_append] at ha
 rcases ha with (ha|ha)|ha
 ·exact h1 a (List.mem_of_mem_take ha)
 ·exact h2 a ha
 ·exact h1 a (List.mem_of_mem_drop ha)
theorem oD (r:Rel C G H w){t:TypeId}{p v:AV}{vp vv:Value}{s:St}{s' : St}(hH:s.heap=H)(hp:VR G w p vp)(hv:VR G w v vv)(h:cB C t p v s=some s') :
  ∃ w',(Instr.storeAt t vp vv).run C.P w=.ok () w'/\Rel C G s'.heap w'/\Step G H w G s'.heap w':=by
 subst hH;unfold cB at h
 split at h
 ·rename_i n q off hsz
  split at h
  ·rename_i cs hn
   split at h
   ·rename_i hc;obtain ⟨c1,c2,c3,c4⟩:=hc;simp only[SJ] at h;subst h;simp only[VR] at hp;obtain ⟨q',b,h1,rfl,h3⟩:=hp;obtain ⟨b',hb,hob⟩:=r.block hn (by simp) h1
    obtain rfl:=h3 b' hb;subst hb;obtain ⟨m,⟨c,e,hcell,hm⟩,hle,hrow⟩:=hob;have hcells:=VR.cells c3 hv;have hlen:vv.cells.toList.length=n:=by rw[<-VList.length hcells,c1]
    have hrun:=run_storeCells_at C.P b' off e vv.cells.toList 0 c w hcell (by simp at hlen ⊢;omega) (VList.oneCells c3 hcells)
    simp only[Nat.add_zero] at hrun;refine ⟨w.setRow b' (c.toList.take off++vv.cells.toList++c.toList.drop (off+vv.cells.toList.length)).toArray,?_,r.setAt hn h1 (fB w b' _) ?_ (by simp) ?_ (by simp) ?_⟩
    ·have:vv.cells.size=n:=by simpa using hlen
     simp[Instr.storeAt,Instr.sureAddr,storeVar,bZ hsz,this,hrun]
    ·intro k hk;obtain ⟨c',e',g1,g2⟩:=hk;rw[hcell] at g1;simp only[SJ,Obj.cells.injEq] at g1;obtain ⟨rfl,rfl,_⟩:=g1;refine ⟨_,_,setRow_heap w b' c _ e (0,0) hcell,?_⟩;simp at hlen ⊢;omega
    ·exact xF (r.low _ _ hn) (AV.low_cells c4)
    ·intro hx;refine ⟨m,?_,?_,?_⟩
     ·refine ⟨_,_,setRow_heap w b' c _ e (0,0) hcell,?_⟩;simp at hlen ⊢;omega
     ·have:(a9 cs off v.cells).length=cs.length:=by simp[a9];omega
      rw[this];exact hle
     ·exact IN hrow hcell (setRow_heap w b' c _ e (0,0) hcell) (λa v h=>VR.mono hx a v h) hcells (by omega) (by omega)
   ·cases h
  ·cases h
 ·cases h
end
section
variable {C:Cfg}{G:Gh}{H:Heap}{w:World}{tmps:List AV}{ca:Go.Act}{o:Oper}{a:AV}
theorem MapR.modify:∀ {es:List (AV×AV)} {l:List MapEntry} {i j:Nat} {e:MapEntry} {k v:AV} {f:MapEntry->MapEntry},MapR G w i es l->l[j]?=some e ->
  VR G w k (f e).key->VR G w v (f e).val->(f e).born=e.born->MapR G w i (es.set j (k,v)) (l.modify j f)
 | [],l,i,j,e,k,v,f,h,hj,_,_,_=>by simp only[MapR] at h;subst h;simp at hj
 | (k',v')::r,l,i,j,e,k,v,f,h,hj,h1,h2,h3=>by
   simp only[MapR] at h;obtain ⟨e',m,rfl,g1,g2,g3,g4⟩:=h;cases j with
   | zero =>
     simp at hj;subst hj;simp only[List.set_cons_zero,List.modify_zero_cons,MapR];exact ⟨_,_,rfl,h1,h2,by rw[h3,g3],g4⟩
   | succ j =>
     simp at hj;simp only[List.set_cons_succ,List.modify_succ_cons,MapR];exact ⟨_,_,rfl,g1,g2,g3,MapR.modify g4 hj h1 h2 h3⟩
theorem MapR.snoc:∀ {es:List (AV×AV)} {l:List MapEntry} {i:Nat} {e:MapEntry} {k v:AV},MapR G w i es l ->
  VR G w k e.key->VR G w v e.val->e.born=i+es.length->MapR G w i (es++[(k,v)]) (l++[e])
 | [],l,i,e,k,v,h,h1,h2,h3=>by
   simp only[MapR] at h;subst h;simp only[List.nil_append,MapR];exact ⟨_,_,rfl,h1,h2,by simpa using h3,rfl⟩
 | (k',v')::r,l,i,e,k,v,h,h1,h2,h3=>by
   simp only[MapR] at h;obtain ⟨e',m,rfl,g1,g2,g3,g4⟩:=h;simp only[List.cons_append,MapR];exact ⟨_,_,rfl,g1,g2,g3,MapR.snoc g4 h1 h2 (by simp at h3;omega)⟩
theorem KeyD.low {d:TypeDesc}{k:AV}(h:KeyD d k)(b:Nat):k.low b=true:=by
 cases k<;>cases d<;>simp_all [KeyD,AV.low]
theorem KeyD.same {d:TypeDesc}{k:AV}{vk:Value}(h:KeyD d k)(hv:VR G w k vk)(n:Nat):Instr.sameBits n vk vk=true:=by
 cases k<;>cases d<;>simp only[KeyD] at h
 ·simp only[VR] at hv;subst hv;simp[Instr.sameBits]
 ·simp only[VR] at hv;subst hv;simp[Instr.sameBits]
 ·simp only[VR] at hv;obtain ⟨t,rfl,_⟩:=hv;have:=zL (s:=t) (t:=t) rfl rfl;simp[Instr.sameBits,this]
theorem iL {b:Nat}:{l:List (AV×AV)}->(gW b l=true ↔ ∀ p∈l,p.1.low b=true/\p.2.low b=true)
 | []=>by simp[gW]
 | (k,v)::r=>by simp[gW,iL (l:=r),and_assoc]
theorem ki {b i:Nat}{l:List (AV×AV)}{k v:AV}(h:gW b l=true)(hk:k.low b=true)(hv:v.low b=true):gW b (l.set i (k,v))=true:=by
 rw[iL] at *;intro p hp
 rcases List.mem_or_eq_of_mem_set hp with h1|h1
 ·exact h p h1
 ·subst h1;exact ⟨hk,hv⟩
theorem jm {b:Nat}{l:List (AV×AV)}{k v:AV}(h:gW b l=true)(hk:k.low b=true)(hv:v.low b=true):gW b (l++[(k,v)])=true:=by
 rw[iL] at *;intro p hp
 rcases List.mem_append.1 hp with h1|h1
 ·exact h p h1
 ·simp at h1;subst h1;exact ⟨hk,hv⟩
theorem nz (w:World)(b:Nat)(o:Obj):Changed w { w with heap:=w.heap.setIfInBounds b o } b :=
 ⟨λb' h=>by simp[Array.getElem?_setIfInBounds,Ne.symm h],by simp,rfl,rfl,rfl⟩
theorem Bm {w:World}{b:Nat}{o p:Obj}(h:w.heap[b]?=some p):({ w with heap:=w.heap.setIfInBounds b o }:World).heap[b]?=some o:=by
 have:=ia h;simp[Array.getElem?_setIfInBounds,this]
theorem fw {P:Program}{b c:Nat}{l:Array MapEntry}{o:Obj}(h:w.heap[b]?=some (.map l c)) :
 (setObj b o).run P w=.ok () { w with heap:=w.heap.setIfInBounds b o }:=by simp[setObj,Sem.run,h]
theorem fD {P:Program}{b c:Nat}{l:Array MapEntry}(h:w.heap[b]?=some (.map l c)):(getObj b).run P w=.ok (.map l c) w:=by simp[getObj,Sem.run,h]
theorem lM (r:Rel C G H w){n:Nat}{es:List (AV×AV)}{vm:Value}(hm:VR G w (.map n) vm)(hn:H[n]?=some (.map es)) :
  ∃ b,G.rho n=some (some b)/\vm=.map (some b)/\∃ l:Array MapEntry,w.heap[b]?=some (.map l l.size)/\MapR G w 0 es l.toList:=by
 simp only[VR] at hm;obtain ⟨q,b,h1,rfl,h3⟩:=hm;obtain ⟨b',hb,hob⟩:=r.block hn (by simp) h1
 obtain rfl:=h3 b' hb;subst hb;exact ⟨b',h1,rfl,hob⟩
theorem map_set (r:Rel C G H w){n b:Nat}{es es' : List (AV×AV)}{l l' : Array MapEntry}(hn:H[n]?=some (.map es))(hb:G.rho n=some (some b))(hl:w.heap[b]?=some (.map l l.size))
  (hm:MapR G w 0 es' l'.toList) (hlow:gW H.length es'=true) :
  Rel C G (H.set n (.map es')) { w with heap:=w.heap.setIfInBounds b (.map l' l'.size) }/\Step G H w G (H.set n (.map es')) { w with heap:=w.heap.setIfInBounds b (.map l' l'.size) }:=by
 refine r.setAt hn hb (nz w b _) ?_ (by simp) hlow (by simp) ?_
 ·intro m ⟨c,e,h,_⟩;rw[hl] at h;simp at h
 ·intro hx;exact ⟨l',Bm hl,MapR.mono hx _ _ _ hm⟩
theorem jS (r:Rel C G H w){t:TypeId}{m k v:AV}{vm vk vv:Value}{s s' : St}(hH:s.heap=H)(hm:VR G w m vm)(hk:VR G w k vk)(hv:VR G w v vv)
  (h:bf C t m k v s=some s') :
  ∃ w',(Instr.mapUpdate t vm vk vv).run C.P w=.ok () w'/\Rel C G s'.heap w'/\Step G H w G s'.heap w':=by
 subst hH;unfold bf at h
 split at h
 ·rename_i e n hfit;obtain ⟨kt,d,hu,hd,hkd⟩:=fp hfit
  split at h
  ·rename_i es hn
   split at h
   ·rename_i hc;obtain ⟨hks,hlow⟩:=hc;obtain ⟨b,hb,rfl,l,hl,hmr⟩:=lM r hm hn;have hck:=iH hd hkd hk false 9999 w;have hlowE:gW s.heap.length es=true:=r.low n _ hn
    rcases gD hkd hk hmr hks 0 with ⟨g1,g2⟩|⟨j,v',e',g1,g2,g3,g4,g5,g6,g7⟩
    ·rw[g1] at h;simp only[SJ] at h;subst h;have hf:=d9 hd g2 w
     have hmr' : MapR G w 0 (es++[(k,v)]) (l.push { key:=vk,val:=vv,born:=l.size }).toList:=by
      rw[Array.toList_push];exact MapR.snoc hmr hk hv (by simp;rw[<-MapR.length hmr];simp)
     have hset:=map_set r hn hb hl hmr' (jm hlowE (hkd.low _) hlow);refine ⟨_,?_,hset⟩;simp only[Array.size_push];simp only[Instr.mapUpdate,Sem.run_bind,aE hu,Result.andThen_ok,fD hl,hck,hf,fw hl]
    ·rw[g1] at h;simp only[Nat.zero_add,SJ] at h;subst h;have hf:=d9 hd g2 w
     have hmr' : MapR G w 0 (es.set j (k,v)) (l.modify j λe=>{ e with key:=vk,val:=vv }).toList:=by
      rw[Array.toList_modify];exact MapR.modify hmr g3 hk hv rfl
     have hset:=map_set r hn hb hl hmr' (ki hlowE (hkd.low _) hlow);refine ⟨_,?_,hset⟩;simp only[Array.size_modify];have g3' : l[j]?=some e':=by simpa using g3
     simp only[Instr.mapUpdate,Sem.run_bind,aE hu,Result.andThen_ok,fD hl,hck,hf,Nat.zero_add,g3',Option.map_some,Option.getD_some,g6,Instr.keyThatStays,
      hkd.same hk,if_true,Sem.run_pure,fw hl]
   ·cases h
  ·cases h
 ·cases h
theorem tF (r:Rel C G H w){t:TypeId}{m k:AV}{vm vk:Value}{s s' : St}(hH:s.heap=H)(hm:VR G w m vm)(hk:VR G w k vk)
  (h:cQ C t m k s=some (a,s')) :
  ∃ v w',(Instr.mapEntry t vm vk).run C.P w=.ok v w'/\Rel C G s'.heap w'/\Step G H w G s'.heap w'/\VR G w' a v:=by
 subst hH;unfold cQ at h
 split at h
 ·rename_i e n hfit;obtain ⟨kt,d,hu,hd,hkd⟩:=fp hfit
  split at h
  ·rename_i es hn
   split at h
   ·rename_i hks;obtain ⟨b,hb,rfl,l,hl,hmr⟩:=lM r hm hn;have hck:=iH hd hkd hk false 9999 w;have hlowE:gW s.heap.length es=true:=r.low n _ hn
    rcases gD hkd hk hmr hks 0 with ⟨g1,g2⟩|⟨j,v',e',g1,g2,g3,g4,g5,g6,g7⟩
    ·rw[g1] at h;simp only at h
     split at h
     ·rename_i z hz;obtain ⟨zv,z1,z2⟩:=ej hz w;have hzv:VR G w z zv:=ofConst_ok _ _ z2;simp only[SJ,PJ] at h;obtain ⟨rfl,rfl⟩:=h;have hf:=d9 hd g2 w;have hlen:es.length=l.size:=by rw[<-MapR.length hmr];simp
      have hmr' : MapR G w 0 (es++[(k,z)]) (l.push { key:=vk,val:=zv,born:=l.size }).toList:=by
       rw[Array.toList_push];exact MapR.snoc hmr hk hzv (by simp[hlen])
      have hset:=map_set r hn hb hl hmr' (jm hlowE (hkd.low _) (AV.low_mono (Nat.zero_le _) _ (eh hz).2));refine ⟨.tuple #[zv,goInt l.size],_,?_,hset.1,hset.2,?_⟩
      ·simp only[Array.size_push];simp only[Instr.mapEntry,Sem.run_bind,aE hu,Result.andThen_ok,fD hl,hck,hf,z1,fw hl,Sem.run_pure]
      ·simp only[VR,VList];exact ⟨_,rfl,_,_,rfl,VR.mono hset.2.ext _ _ hzv,_,_,rfl,by rw[hlen];rfl,rfl⟩
     ·cases h
    ·rw[g1] at h;simp only[Nat.zero_add,SJ,PJ] at h;obtain ⟨rfl,rfl⟩:=h;have hf:=d9 hd g2 w;have g3' : l[j]?=some e':=by simpa using g3
     refine ⟨.tuple #[e'.val,goInt j],w,?_,r,Step.refl _ _ _,?_⟩
     ·have hmod:l.modify j (λe=>{ e with key:=vk })=l:=by
       apply Array.ext';rw[Array.toList_modify];apply List.ext_getElem?;intro i;rw[List.getElem?_modify]
       by_cases e:j=i
       ·subst e;rw[g3];simp[<-g6]
       ·simp[e]
      have hset:({ w with heap:=w.heap.setIfInBounds b (.map l l.size) }:World)=w:=by
       have:w.heap.setIfInBounds b (.map l l.size)=w.heap:=by
        apply Array.ext_getElem?;intro i
        by_cases e:b=i
        ·subst e;rw[hl];simp[ia hl]
        ·simp[Array.getElem?_setIfInBounds,e]
       rw[this]
      simp only[Instr.mapEntry,Sem.run_bind,aE hu,Result.andThen_ok,fD hl,hck,hf,Nat.zero_add,g3',Option.map_some,Option.getD_some,g6,Instr.keyThatStays,
       hkd.same hk,if_true,Sem.run_pure,fw hl,hmod,hset,g5]
     ·simp only[VR,VList];exact ⟨_,rfl,_,_,rfl,g4,_,_,rfl,rfl,rfl⟩
   ·cases h
  ·cases h
 ·cases h
theorem findIdx_born:∀ {es:List (AV×AV)} {l:List MapEntry} {i j:Nat},MapR G w i es l->j<l.length->l.findIdx? (λe=>decide ((e.born:Int)=((i+j:Nat):Int)))=some j
 | [],l,i,j,h,hj=>by simp only[MapR] at h;subst h;simp at hj
 | (k,v)::r,l,i,j,h,hj=>by
   simp only[MapR] at h;obtain ⟨e,m,rfl,g1,g2,g3,g4⟩:=h;cases j with
   | zero=>simp[List.findIdx?_cons,g3]
   | succ j =>
     have:=findIdx_born (j:=j) g4 (by simpa using hj)
     rw[List.findIdx?_cons];have hne:¬ ((e.born:Int)=((i+(j+1):Nat):Int)):=by omega
     simp only[hne,decide_false,Bool.false_eq_true,if_false];rw[show i+(j+1)=i+1+j by omega,this];rfl
theorem pb (r:Rel C G H w){t:TypeId}{m st v:AV}{vm vst vv:Value}{s s' : St}(hH:s.heap=H)(hm:VR G w m vm)(hst:VR G w st vst)(hv:VR G w v vv)
  (h:ce m st v s=some s') :
  ∃ w',(Instr.entryStore t vm vst vv).run C.P w=.ok () w'/\Rel C G s'.heap w'/\Step G H w G s'.heap w':=by
 subst hH;unfold ce at h
 split at h
 ·rename_i i n hi
  split at h
  ·rename_i es hn
   split at h
   ·rename_i k v0 hes
    split at h
    ·rename_i hlow;simp only[SJ] at h;subst h;obtain ⟨b,hb,rfl,l,hl,hmr⟩:=lM r hm hn;obtain ⟨kk,rfl⟩:=dR hi hst;have hlowE:gW s.heap.length es=true:=r.low n _ hn
     have hil:i<l.toList.length:=by
      rw[MapR.length hmr];exact (List.getElem?_eq_some_iff.1 hes).1
     have hfi:=findIdx_born hmr hil;obtain ⟨e',he'⟩ : ∃ e',l.toList[i]?=some e':=⟨_,List.getElem?_eq_getElem hil⟩
     have hkey:VR G w k e'.key:=by
      clear hfi hlowE hil hl hb
      have:∀ {es:List (AV×AV)} {l:List MapEntry} {p i:Nat},MapR G w p es l->es[i]?=some (k,v0)->l[i]?=some e'->VR G w k e'.key:=by
       intro es l p i
       induction es generalizing l p i with
       | nil=>intro h h1;simp at h1
       | cons x r ih =>
         obtain ⟨x1,x2⟩:=x;intro h h1 h2;simp only[MapR] at h;obtain ⟨e,m,rfl,g1,g2,g3,g4⟩:=h;cases i with
         | zero=>simp at h1 h2;obtain ⟨rfl,rfl⟩:=h1;subst h2;exact g1
         | succ i=>simp at h1 h2;exact ih g4 h1 h2
      exact this hmr hes he'
     have hmr' : MapR G w 0 (es.set i (k,v)) (l.modify i λe=>{ e with val:=vv }).toList:=by
      rw[Array.toList_modify];exact MapR.modify hmr he' hkey hv rfl
     have hlk:k.low s.heap.length=true:=(iL.1 hlowE _ (List.mem_of_getElem? hes)).1;have hset:=map_set r hn hb hl hmr' (ki hlowE hlk hlow);refine ⟨_,?_,hset⟩;simp only[Array.size_modify]
     have hfi' : l.findIdx? (λe=>(e.born:Int) == (i:Int))=some i:=by
      obtain ⟨l⟩:=l;simp only[Nat.zero_add] at hfi;simp only[List.findIdx?_toArray];exact hfi
     simp only[Instr.entryStore,Sem.run_bind,fD hl,Result.andThen_ok,asInt,asIntOf,Sem.run_pure,hfi',fw hl]
    ·cases h
   ·cases h
  ·cases h
 ·cases h
end
theorem Ext.ghost {G G' : Gh}{w:World}(hr:∀ n r,G.rho n=some r->G'.rho n=some r\/G'.rho n=some none)
  (hr' : ∀ n b,b<w.heap.size->G.imm b=none->(∀ n,G.rho n≠some (some b))->G'.rho n≠some (some b))
  (hl:∀ id b,G.lam id=some b->(∃ b',G'.lam id=some b')/\G.gen id<=G'.gen id/\(G'.gen id=G.gen id->G'.lam id=some b/\∀ u,G.imm b=some u->G'.imm b=some u))
  (hi:G'.imm=G.imm):Ext G w G' w where
 rho:=hr
 lam:=hl
 imm b u h:=⟨u,by rw[hi];exact h,Nat.le_refl _⟩
 cells b u c el fz _ h:=⟨c,h,rfl,λ_ _=>rfl⟩
 plain b n h:=h
 foreign b hb h1 h2:=⟨rfl,by rw[hi];exact h1,λn=>hr' n b hb h1 h2⟩
 size:=Nat.le_refl _
 tape:=rfl
 os:=rfl
 output:=rfl
theorem Rel.lam_imm {C:Cfg}{G:Gh}{H:Heap}{w:World}(r:Rel C G H w){n b:Nat}(h:G.lam n=some b):∃ u,G.imm b=some u:=by
 obtain ⟨g,hg⟩:=r.lamE n b h;obtain ⟨_,_,b',u,m,h1,h2,_⟩:=r.lin n g hg;rw[h] at h1;obtain rfl:b=b':=by simpa using h1
 exact ⟨u,h2⟩
def Gh.addLin (G:Gh)(n b:Nat):Gh:={ G with lam:=b9 G.lam n (some b),gen:=b9 G.gen n 0 }
theorem Rel.addLin {C:Cfg}{G:Gh}{H:Heap}{w:World}(r:Rel C G H w){b u m:Nat}(hi:G.imm b=some u)(hp:cN w b m)(hu:u<=m)(hb:∀ n,G.lam n≠some b) :
  Rel C (G.addLin H.length b) (H++[.lin 0]) w/\Step G H w (G.addLin H.length b) (H++[.lin 0]) w:=by
 have hout:=r.out H.length (Nat.le_refl _)
 have hlam:∀ n b',(G.addLin H.length b).lam n=some b'->(n=H.length/\b'=b)\/(n≠H.length/\G.lam n=some b'):=by
  intro n b' h;have h' : b9 G.lam H.length (some b) n=some b':=h
  by_cases e:n=H.length
  ·subst e;rw[aN] at h';exact .inl ⟨rfl,by simpa using h'.symm⟩
  ·rw[aX e] at h';exact .inr ⟨e,h'⟩
 have hne:∀ n b',G.lam n=some b'->n≠H.length:=λn b' h e=>by rw[e,hout.2] at h;cases h
 have hx:Ext G w (G.addLin H.length b) w:=Ext.ghost (λn r h=>.inl h) (λn b' _ _ h=>h n) (λid b' h=>by
  have e1:(G.addLin H.length b).lam id=some b':=by show b9 G.lam _ _ id=_;rw[aX (hne id b' h)];exact h
  have e2:(G.addLin H.length b).gen id=G.gen id:=by show b9 G.gen _ _ id=_;rw[aX (hne id b' h)]
  exact ⟨⟨b',e1⟩,by rw[e2];exact Nat.le_refl _,λ_=>⟨e1,λu h=>h⟩⟩) rfl
 have hget:∀ n o,(H++[AObj.lin 0])[n]?=some o->(n=H.length/\o=.lin 0)\/(n<H.length/\H[n]?=some o):=by
  intro n o h
  rcases Nat.lt_or_ge n H.length with h1|h1
  ·right;rw[List.getElem?_append_left h1] at h;exact ⟨h1,h⟩
  ·left
   rw[List.getElem?_append_right h1] at h
   rcases Nat.eq_or_lt_of_le h1 with h2|h2
   ·rw[<-h2] at h;simp at h;exact ⟨h2.symm,h.symm⟩
   ·rw[List.getElem?_eq_none (by simp;omega)] at h;cases h
 refine ⟨?_,hx,?_,?_,by simp⟩
 ·exact {
   obj:=λn o ho b' hb'=>by
    rcases hget n o ho with ⟨e1,e2⟩|⟨e1,e2⟩
    ·have hb'' : G.rho n=some (some b'):=hb';rw[e1,hout.1] at hb'';cases hb''
    ·exact ObjR.mono hx rfl (r.obj n o e2 b' hb')
   dead:=λn o ho hd=>by
    rcases hget n o ho with ⟨e1,e2⟩|⟨e1,e2⟩
    ·have hd' : G.rho n=some none:=hd;rw[e1,hout.1] at hd';cases hd'
    ·exact r.dead n o e2 hd
   out:=λn hn=>by
    have hn' : H.length<n:=by simp at hn;omega
    refine ⟨(r.out n (by omega)).1,?_⟩
    show b9 G.lam _ _ n=none;rw[aX (by omega)];exact (r.out n (by omega)).2
   lin:=λn g hg=>by
    rcases hget n _ hg with ⟨e1,e2⟩|⟨e1,e2⟩
    ·simp only[AObj.lin.injEq] at e2;subst e1;subst e2;exact ⟨aN,hout.1,b,u,m,aN,hi,hp,hu⟩
    ·obtain ⟨a1,a2,b',u',k,a3,a4,a5,a6⟩:=r.lin n g e2;refine ⟨?_,a2,b',u',k,?_,a4,a5,a6⟩
     ·show b9 G.gen _ _ n=g;rw[aX (by omega)];exact a1
     ·show b9 G.lam _ _ n=_;rw[aX (by omega)];exact a3
   lamE:=λn b' h=>by
    rcases hlam n b' h with ⟨e1,e2⟩|⟨e1,e2⟩
    ·subst e1;exact ⟨0,by simp⟩
    ·obtain ⟨g,hg⟩:=r.lamE n b' e2;have:n<H.length:=(List.getElem?_eq_some_iff.1 hg).1;exact ⟨g,by rw[List.getElem?_append_left this];exact hg⟩
   rinj:=r.rinj
   linj:=λn n' b' h1 h2=>by
    rcases hlam n b' h1 with ⟨e1,e2⟩|⟨e1,e2⟩<;>rcases hlam n' b' h2 with ⟨f1,f2⟩|⟨f1,f2⟩
    ·rw[e1,f1]
    ·rw[e2] at f2;exact absurd f2 (hb n')
    ·rw[f2] at e2;exact absurd e2 (hb n)
    ·exact r.linj n n' b' e2 f2
   rimm:=r.rimm
   immE:=r.immE
   low:=λn o ho=>by
    rcases hget n o ho with ⟨e1,e2⟩|⟨e1,e2⟩
    ·subst e2;rfl
    ·exact AObj.low_mono (by simp) o (r.low n o e2)
   glob:=λi xs hg=>⟨(r.glob i xs hg).1,VRow.mono' hx (λ_=>rfl) _ _ (r.glob i xs hg).2⟩
   globS:=TabS.mono r hx }
 ·intro n hn h1 h2;refine ⟨h1,?_,by rw[List.getElem?_append_left hn]⟩
  show b9 G.lam _ _ n=none;rw[aX (by omega)];exact h2
 ·intro n b' h1 h2;have:n<H.length:=(List.getElem?_eq_some_iff.1 h1).1;exact ⟨h2,by rw[List.getElem?_append_left this];exact h1,rfl⟩
def Gh.moveLin (G:Gh)(id b g:Nat):Gh:={ G with lam:=b9 G.lam id (some b),gen:=b9 G.gen id g }
theorem Rel.moveLin {C:Cfg}{G:Gh}{H:Heap}{w:World}(r:Rel C G H w){id g b u m:Nat}(hid:H[id]?=some (.lin g))(hi:G.imm b=some u)(hp:cN w b m)(hu:u<=m)
  (hb:∀ n,G.lam n≠some b):Rel C (G.moveLin id b (g+1)) (H.set id (.lin (g+1))) w/\Step G H w (G.moveLin id b (g+1)) (H.set id (.lin (g+1))) w:=by
 obtain ⟨hg,hrid,b0,u0,m0,hl0,_⟩:=r.lin id g hid;have hlt:id<H.length:=(List.getElem?_eq_some_iff.1 hid).1
 have hlam:∀ n b',(G.moveLin id b (g+1)).lam n=some b'->(n=id/\b'=b)\/(n≠id/\G.lam n=some b'):=by
  intro n b' h;have h' : b9 G.lam id (some b) n=some b':=h
  by_cases e:n=id
  ·subst e;rw[aN] at h';exact .inl ⟨rfl,by simpa using h'.symm⟩
  ·rw[aX e] at h';exact .inr ⟨e,h'⟩
 have hx:Ext G w (G.moveLin id b (g+1)) w:=Ext.ghost (λn r h=>.inl h) (λn b' _ _ h=>h n) (λn b' h=>by
  by_cases e:n=id
  ·subst e;have e2:(G.moveLin n b (g+1)).gen n=g+1:=aN;refine ⟨⟨b,aN⟩,by rw[e2,hg];omega,λh=>?_⟩
   rw[e2,hg] at h;omega
  ·have e1:(G.moveLin id b (g+1)).lam n=some b':=by show b9 G.lam _ _ n=_;rw[aX e];exact h
   have e2:(G.moveLin id b (g+1)).gen n=G.gen n:=by show b9 G.gen _ _ n=_;rw[aX e]
   exact ⟨⟨b',e1⟩,by rw[e2];exact Nat.le_refl _,λ_=>⟨e1,λu h=>h⟩⟩) rfl
 have hget:∀ n o,(H.set id (AObj.lin (g+1)))[n]?=some o->(n=id/\o=.lin (g+1))\/(n≠id/\H[n]?=some o):=by
  intro n o h
  by_cases e:n=id
  ·subst e;rw[List.getElem?_set_self hlt] at h;exact .inl ⟨rfl,by simpa using h.symm⟩
  ·rw[List.getElem?_set_ne (Ne.symm e)] at h;exact .inr ⟨e,h⟩
 refine ⟨?_,hx,?_,?_,by simp⟩
 ·exact {
   obj:=λn o ho b' hb'=>by
    rcases hget n o ho with ⟨e1,e2⟩|⟨e1,e2⟩
    ·have hb'' : G.rho n=some (some b'):=hb';rw[e1,hrid] at hb'';cases hb''
    ·exact ObjR.mono hx rfl (r.obj n o e2 b' hb')
   dead:=λn o ho hd=>by
    rcases hget n o ho with ⟨e1,e2⟩|⟨e1,e2⟩
    ·have hd' : G.rho n=some none:=hd;rw[e1,hrid] at hd';cases hd'
    ·exact r.dead n o e2 hd
   out:=λn hn=>by
    have hn' : H.length<=n:=by simpa using hn
    refine ⟨(r.out n hn').1,?_⟩;show b9 G.lam _ _ n=none;rw[aX (by omega)];exact (r.out n hn').2
   lin:=λn k hk=>by
    rcases hget n _ hk with ⟨e1,e2⟩|⟨e1,e2⟩
    ·simp only[AObj.lin.injEq] at e2;subst e1;subst e2;exact ⟨aN,hrid,b,u,m,aN,hi,hp,hu⟩
    ·obtain ⟨a1,a2,b',u',j,a3,a4,a5,a6⟩:=r.lin n k e2;refine ⟨?_,a2,b',u',j,?_,a4,a5,a6⟩
     ·show b9 G.gen _ _ n=k;rw[aX e1];exact a1
     ·show b9 G.lam _ _ n=_;rw[aX e1];exact a3
   lamE:=λn b' h=>by
    rcases hlam n b' h with ⟨e1,e2⟩|⟨e1,e2⟩
    ·subst e1;exact ⟨g+1,by rw[List.getElem?_set_self hlt]⟩
    ·obtain ⟨k,hk⟩:=r.lamE n b' e2;exact ⟨k,by rw[List.getElem?_set_ne (Ne.symm e1)];exact hk⟩
   rinj:=r.rinj
   linj:=λn n' b' h1 h2=>by
    rcases hlam n b' h1 with ⟨e1,e2⟩|⟨e1,e2⟩<;>rcases hlam n' b' h2 with ⟨f1,f2⟩|⟨f1,f2⟩
    ·rw[e1,f1]
    ·rw[e2] at f2;exact absurd f2 (hb n')
    ·rw[f2] at e2;exact absurd e2 (hb n)
    ·exact r.linj n n' b' e2 f2
   rimm:=r.rimm
   immE:=r.immE
   low:=λn o ho=>by
    rw[List.length_set]
    rcases hget n o ho with ⟨e1,e2⟩|⟨e1,e2⟩
    ·subst e2;rfl
    ·exact r.low n o e2
   glob:=λi xs hg=>⟨(r.glob i xs hg).1,VRow.mono' hx (λ_=>rfl) _ _ (r.glob i xs hg).2⟩
   globS:=TabS.mono r hx }
 ·intro n hn h1 h2;have e:n≠id:=λe=>by rw[e,hl0] at h2;cases h2
  refine ⟨h1,?_,by rw[List.getElem?_set_ne (Ne.symm e)]⟩
  show b9 G.lam _ _ n=none;rw[aX e];exact h2
 ·intro n b' h1 h2;have e:n≠id:=λe=>by rw[e,hid] at h1;cases h1
  exact ⟨h2,by rw[List.getElem?_set_ne (Ne.symm e)];exact h1,rfl⟩
def Gh.growLin (G:Gh)(id b u g:Nat):Gh:={ G with imm:=b9 G.imm b (some u),gen:=b9 G.gen id g }
theorem Rel.growLin {C:Cfg}{G:Gh}{H:Heap}{w w' : World}(r:Rel C G H w){id g b u u' : Nat}{c c' : Array Value}{e:TypeId}(hid:H[id]?=some (.lin g))(hl:G.lam id=some b)
  (hi:G.imm b=some u) (hc:w.heap[b]?=some (.cells c e (0,0))) (hw:Changed w w' b) (hc' : w'.heap[b]?=some (.cells c' e (0,0))) (hs:c'.size=c.size) (hsame:∀ i,i<u->c'[i]?=c[i]?)
  (hu:u<=u') (hu' : u'<=c.size) :
  Rel C (G.growLin id b u' (g+1)) (H.set id (.lin (g+1))) w'/\Step G H w (G.growLin id b u' (g+1)) (H.set id (.lin (g+1))) w':=by
 obtain ⟨hg,hrid,b0,u0,m0,hl0,_⟩:=r.lin id g hid;have hlt:id<H.length:=(List.getElem?_eq_some_iff.1 hid).1;have himm:∀ b',b'≠b->(G.growLin id b u' (g+1)).imm b'=G.imm b':=λb' h=>aX h
 have himb:(G.growLin id b u' (g+1)).imm b=some u':=aN
 have hrb:∀ n b',G.rho n=some (some b')->b'≠b:=λn b' h e=>by
  have:=(r.rimm n b' h).1;rw[e,hi] at this;cases this
 have hplain:∀ b' k,cN w b' k->cN w' b' k:=by
  intro b' k ⟨d,el,h1,h2⟩
  by_cases h:b'=b
  ·subst h;rw[hc] at h1;simp only[SJ,Obj.cells.injEq] at h1;obtain ⟨rfl,rfl,_⟩:=h1;exact ⟨c',e,hc',by rw[hs];exact h2⟩
  ·exact ⟨d,el,by rw[hw.at_ b' h];exact h1,h2⟩
 have hx:Ext G w (G.growLin id b u' (g+1)) w':={
  rho:=λn r h=>.inl h
  lam:=λn b' h=>by
   refine ⟨⟨b',h⟩,?_,λhgen=>⟨h,λv hv=>?_⟩⟩
   ·by_cases h1:n=id
    ·subst h1;have:(G.growLin n b u' (g+1)).gen n=g+1:=aN;rw[this,hg];omega
    ·have:(G.growLin id b u' (g+1)).gen n=G.gen n:=aX h1;rw[this];exact Nat.le_refl _
   ·have h1:n≠id:=λh1=>by
     subst h1;have:(G.growLin n b u' (g+1)).gen n=g+1:=aN;rw[this,hg] at hgen;omega
    have:b'≠b:=λe=>h1 (r.linj n id b (by rw[<-e];exact h) hl)
    rw[himm b' this];exact hv
  imm:=λb' v hv=>by
   by_cases h:b'=b
   ·subst h;rw[hi] at hv;obtain rfl:u=v:=by simpa using hv
    exact ⟨u',himb,hu⟩
   ·exact ⟨v,by rw[himm b' h];exact hv,Nat.le_refl _⟩
  cells:=λb' v d el fz hv hd=>by
   by_cases h:b'=b
   ·subst h;rw[hi] at hv;obtain rfl:u=v:=by simpa using hv
    rw[hc] at hd;simp only[SJ,Obj.cells.injEq] at hd;obtain ⟨rfl,rfl,rfl⟩:=hd;exact ⟨c',hc',hs,hsame⟩
   ·exact ⟨d,by rw[hw.at_ b' h];exact hd,rfl,λ_ _=>rfl⟩
  plain:=hplain
  foreign:=λb' _ h1 h2=>by
   have:b'≠b:=λe=>by rw[e,hi] at h1;cases h1
   exact ⟨hw.at_ b' this,by rw[himm b' this];exact h1,h2⟩
  size:=by rw[hw.size];exact Nat.le_refl _
  tape:=hw.tape
  os:=hw.os
  output:=hw.output }
 have hget:∀ n o,(H.set id (AObj.lin (g+1)))[n]?=some o->(n=id/\o=.lin (g+1))\/(n≠id/\H[n]?=some o):=by
  intro n o h
  by_cases e:n=id
  ·subst e;rw[List.getElem?_set_self hlt] at h;exact .inl ⟨rfl,by simpa using h.symm⟩
  ·rw[List.getElem?_set_ne (Ne.symm e)] at h;exact .inr ⟨e,h⟩
 refine ⟨?_,hx,?_,?_,by simp⟩
 ·exact {
   obj:=λn o ho b' hb'=>by
    have hb'' : G.rho n=some (some b'):=hb'
    rcases hget n o ho with ⟨e1,e2⟩|⟨e1,e2⟩
    ·rw[e1,hrid] at hb'';cases hb''
    ·exact ObjR.mono hx (hw.at_ b' (hrb n b' hb'')) (r.obj n o e2 b' hb'')
   dead:=λn o ho hd=>by
    rcases hget n o ho with ⟨e1,e2⟩|⟨e1,e2⟩
    ·have hd' : G.rho n=some none:=hd;rw[e1,hrid] at hd';cases hd'
    ·exact r.dead n o e2 hd
   out:=λn hn=>r.out n (by simpa using hn)
   lin:=λn k hk=>by
    rcases hget n _ hk with ⟨e1,e2⟩|⟨e1,e2⟩
    ·simp only[AObj.lin.injEq] at e2;subst e1;subst e2;exact ⟨aN,hrid,b,u',c.size,hl,himb,⟨c',e,hc',hs⟩,hu'⟩
    ·obtain ⟨a1,a2,b',v,j,a3,a4,a5,a6⟩:=r.lin n k e2;have:b'≠b:=λh=>e1 (r.linj n id b (by rw[<-h];exact a3) hl)
     refine ⟨?_,a2,b',v,j,a3,by rw[himm b' this];exact a4,hplain _ _ a5,a6⟩
     show b9 G.gen _ _ n=k;rw[aX e1];exact a1
   lamE:=λn b' h=>by
    by_cases e1:n=id
    ·subst e1;exact ⟨g+1,by rw[List.getElem?_set_self hlt]⟩
    ·obtain ⟨k,hk⟩:=r.lamE n b' h;exact ⟨k,by rw[List.getElem?_set_ne (Ne.symm e1)];exact hk⟩
   rinj:=r.rinj
   linj:=r.linj
   rimm:=λn b' h=>by
    have h' : G.rho n=some (some b'):=h;rw[hw.size,himm b' (hrb n b' h')];exact r.rimm n b' h'
   immE:=λb' v hv=>by
    by_cases h:b'=b
    ·subst h;rw[himb] at hv;obtain rfl:u'=v:=by simpa using hv
     exact ⟨c',e,_,hc',by rw[hs];exact hu'⟩
    ·rw[himm b' h] at hv;rw[hw.at_ b' h];exact r.immE b' v hv
   low:=λn o ho=>by
    rw[List.length_set]
    rcases hget n o ho with ⟨e1,e2⟩|⟨e1,e2⟩
    ·subst e2;rfl
    ·exact r.low n o e2
   glob:=λi xs hg=>by
    obtain ⟨⟨v,h1,h2⟩,h3⟩:=r.glob i xs hg;exact ⟨ImmTo.mono hx ⟨v,h1,h2⟩,VRow.mono hx i xs 0 v h1 (by omega) h3⟩
   globS:=TabS.mono r hx }
 ·intro n hn h1 h2;have e1:n≠id:=λe=>by rw[e,hl] at h2;cases h2
  exact ⟨h1,h2,by rw[List.getElem?_set_ne (Ne.symm e1)]⟩
 ·intro n b' h1 h2;have e1:n≠id:=λe=>by rw[e,hid] at h1;cases h1
  exact ⟨h2,by rw[List.getElem?_set_ne (Ne.symm e1)];exact h1,hw.at_ b' (hrb n b' h2)⟩
def Gh.kill (G:Gh)(n:Nat):Gh:={ G with rho:=b9 G.rho n (some none) }
theorem Rel.kill {C:Cfg}{G:Gh}{H:Heap}{w:World}(r:Rel C G H w){n b:Nat}{ob:AObj}(hn:H[n]?=some ob)(hb:G.rho n=some (some b))(hg:ob ≠ .gone) :
  Rel C (G.kill n) (H.set n .gone) w/\Step G H w (G.kill n) (H.set n .gone) w/\∀ m,(G.kill n).rho m≠some (some b):=by
 have hlt:n<H.length:=(List.getElem?_eq_some_iff.1 hn).1
 have hlamn:G.lam n=none:=by
  cases h:G.lam n with
  | none=>rfl
  | some b' =>
    obtain ⟨g,h1⟩:=r.lamE n b' h;have:=(r.lin n g h1).2.1;rw[hb] at this;cases this
 have hrho:∀ m b',(G.kill n).rho m=some (some b')->m≠n/\G.rho m=some (some b'):=by
  intro m b' h;have h' : b9 G.rho n (some none) m=some (some b'):=h
  by_cases e:m=n
  ·subst e;rw[aN] at h';simp at h'
  ·rw[aX e] at h';exact ⟨e,h'⟩
 have hx:Ext G w (G.kill n) w:=Ext.ghost (λm r h=>by
  by_cases e:m=n
  ·subst e;exact .inr aN
  ·left;show b9 G.rho n _ m=_;rw[aX e];exact h) (λm b' _ _ h h1=>h m (hrho m b' h1).2) (λid b' h=>⟨⟨b',h⟩,Nat.le_refl _,λ_=>⟨h,λ_ h=>h⟩⟩) rfl
 have hget:∀ m o,(H.set n AObj.gone)[m]?=some o->(m=n/\o=.gone)\/(m≠n/\H[m]?=some o):=by
  intro m o h
  by_cases e:m=n
  ·subst e;rw[List.getElem?_set_self hlt] at h;exact .inl ⟨rfl,by simpa using h.symm⟩
  ·rw[List.getElem?_set_ne (Ne.symm e)] at h;exact .inr ⟨e,h⟩
 refine ⟨?_,⟨hx,?_,?_,by simp⟩,λm h=>(hrho m b h).1 (r.rinj m n b (hrho m b h).2 hb)⟩
 ·exact {
   obj:=λm o ho b' hb'=>by
    obtain ⟨h1,h2⟩:=hrho m b' hb'
    rcases hget m o ho with ⟨e1,e2⟩|⟨e1,e2⟩
    ·exact absurd e1 h1
    ·exact ObjR.mono hx rfl (r.obj m o e2 b' h2)
   dead:=λm o ho hd=>by
    rcases hget m o ho with ⟨e1,e2⟩|⟨e1,e2⟩
    ·exact e2
    ·have hd' : b9 G.rho n (some none) m=some none:=hd;rw[aX e1] at hd';exact r.dead m o e2 hd'
   out:=λm hm=>by
    have hm' : H.length<=m:=by simpa using hm
    refine ⟨?_,(r.out m hm').2⟩;show b9 G.rho n _ m=none;rw[aX (by omega)];exact (r.out m hm').1
   lin:=λm g hg=>by
    rcases hget m _ hg with ⟨e1,e2⟩|⟨e1,e2⟩
    ·cases e2
    ·obtain ⟨a1,a2,b',u,k,a3,a4,a5,a6⟩:=r.lin m g e2;refine ⟨a1,?_,b',u,k,a3,a4,a5,a6⟩;show b9 G.rho n _ m=none;rw[aX e1];exact a2
   lamE:=λm b' h=>by
    obtain ⟨g,hg⟩:=r.lamE m b' h;have h' : G.lam m=some b':=h;have:m≠n:=λe=>by rw[e,hlamn] at h';cases h'
    exact ⟨g,by rw[List.getElem?_set_ne (Ne.symm this)];exact hg⟩
   rinj:=λm m' b' h1 h2=>r.rinj m m' b' (hrho m b' h1).2 (hrho m' b' h2).2
   linj:=r.linj
   rimm:=λm b' h=>r.rimm m b' (hrho m b' h).2
   immE:=r.immE
   low:=λm o ho=>by
    rw[List.length_set]
    rcases hget m o ho with ⟨e1,e2⟩|⟨e1,e2⟩
    ·subst e2;rfl
    ·exact r.low m o e2
   glob:=λi xs hg=>⟨(r.glob i xs hg).1,VRow.mono' hx (λ_=>rfl) _ _ (r.glob i xs hg).2⟩
   globS:=TabS.mono r hx }
 ·intro m hm h1 h2;have e:m≠n:=λe=>by rw[e,hb] at h1;cases h1
  refine ⟨?_,h2,by rw[List.getElem?_set_ne (Ne.symm e)]⟩
  show b9 G.rho n _ m=none;rw[aX e];exact h1
 ·intro m b' h1 h2;have e:m≠n:=λe=>by rw[e,hn] at h1;simp at h1;exact hg h1
  refine ⟨?_,by rw[List.getElem?_set_ne (Ne.symm e)];exact h1,rfl⟩
  show b9 G.rho n _ m=_;rw[aX e];exact h2
def Gh.renew (G:Gh)(n L b:Nat):Gh:={ G with rho:=b9 (b9 G.rho n (some none)) L (some (some b)) }
theorem Rel.renew {C:Cfg}{G:Gh}{H:Heap}{w w' : World}(r:Rel C G H w){n b:Nat}{ob ob' : AObj}(hn:H[n]?=some ob)(hb:G.rho n=some (some b))(hg:ob ≠ .gone)
  (hw:Changed w w' b) (hp:∀ m,cN w b m->cN w' b m) (hlow:ob'.low (H.length+1)=true) (hk:∀ g,ob' ≠ .lin g)
  (hnew:Ext G w (G.renew n H.length b) w'->ObjR (G.renew n H.length b) w' b ob') :
  Rel C (G.renew n H.length b) (H.set n .gone++[ob']) w'/\Step G H w (G.renew n H.length b) (H.set n .gone++[ob']) w':=by
 have hlt:n<H.length:=(List.getElem?_eq_some_iff.1 hn).1;have hout:=r.out H.length (Nat.le_refl _);have himm:=(r.rimm n b hb).1;have hne:∀ b',G.imm b'≠none->b'≠b:=λb' h e=>by rw[e] at h;exact h himm
 have hlamn:G.lam n=none:=by
  cases h:G.lam n with
  | none=>rfl
  | some b' =>
    obtain ⟨g,h1⟩:=r.lamE n b' h;have:=(r.lin n g h1).2.1;rw[hb] at this;cases this
 have hplain:∀ b' m,cN w b' m->cN w' b' m:=by
  intro b' m h
  by_cases e:b'=b
  ·rw[e] at h ⊢;exact hp m h
  ·obtain ⟨c,el,h1,h2⟩:=h;exact ⟨c,el,by rw[hw.at_ b' e];exact h1,h2⟩
 have hrho:∀ m b',(G.renew n H.length b).rho m=some (some b')->(m=H.length/\b'=b)\/(m≠n/\m≠H.length/\G.rho m=some (some b')):=by
  intro m b' h;have h' : b9 (b9 G.rho n (some none)) H.length (some (some b)) m=some (some b'):=h
  by_cases e:m=H.length
  ·subst e;rw[aN] at h';left;exact ⟨rfl,by simpa using h'.symm⟩
  ·rw[aX e] at h'
   by_cases e2:m=n
   ·subst e2;rw[aN] at h';simp at h'
   ·rw[aX e2] at h';exact .inr ⟨e2,e,h'⟩
 have hold:∀ m,m≠n->m≠H.length->(G.renew n H.length b).rho m=G.rho m:=λm h1 h2=>by
  show b9 (b9 G.rho n _) _ _ m=_;rw[aX h2,aX h1]
 have hnn:(G.renew n H.length b).rho n=some none:=by
  show b9 (b9 G.rho n _) _ _ n=_;rw[aX (by omega),aN]
 have hx:Ext G w (G.renew n H.length b) w':={
  rho:=λm q h=>by
   by_cases e:m=n
   ·subst e;exact .inr hnn
   ·left
    rw[hold m e (λe=>by rw[e,hout.1] at h;cases h)];exact h
  lam:=λid b h=>⟨⟨b,h⟩,Nat.le_refl _,λ_=>⟨h,λ_ h=>h⟩⟩
  imm:=λb u h=>⟨u,h,Nat.le_refl _⟩
  cells:=λb' u c el fz hu hc=>⟨c,by rw[hw.at_ b' (hne b' (by rw[hu];simp))];exact hc,rfl,λ_ _=>rfl⟩
  plain:=hplain
  foreign:=λb' _ h1 h2=>by
   have h3:b'≠b:=λe=>h2 n (by rw[e];exact hb)
   refine ⟨hw.at_ b' h3,h1,λm hm=>?_⟩
   rcases hrho m b' hm with ⟨_,h⟩|⟨_,_,h⟩
   ·exact h3 h
   ·exact h2 m h
  size:=by rw[hw.size];exact Nat.le_refl _
  tape:=hw.tape
  os:=hw.os
  output:=hw.output }
 have hlen:(H.set n AObj.gone).length=H.length:=by simp
 have hget:∀ m o,(H.set n AObj.gone++[ob'])[m]?=some o->(m=n/\o=.gone)\/(m=H.length/\o=ob')\/(m≠n/\m<H.length/\H[m]?=some o):=by
  intro m o h
  rcases Nat.lt_or_ge m H.length with h1|h1
  ·rw[List.getElem?_append_left (by rw[hlen];exact h1)] at h
   by_cases e:m=n
   ·subst e;rw[List.getElem?_set_self hlt] at h;exact .inl ⟨rfl,by simpa using h.symm⟩
   ·rw[List.getElem?_set_ne (Ne.symm e)] at h;exact .inr (.inr ⟨e,h1,h⟩)
  ·rw[List.getElem?_append_right (by rw[hlen];exact h1),hlen] at h
   rcases Nat.eq_or_lt_of_le h1 with h2|h2
   ·rw[<-h2] at h;simp at h;exact .inr (.inl ⟨h2.symm,h.symm⟩)
   ·rw[List.getElem?_eq_none (by simp;omega)] at h;cases h
 have hgetold:∀ m o,m≠n->H[m]?=some o->(H.set n AObj.gone++[ob'])[m]?=some o:=λm o h1 h2=>by
  have:m<H.length:=(List.getElem?_eq_some_iff.1 h2).1;rw[List.getElem?_append_left (by rw[hlen];exact this),List.getElem?_set_ne (Ne.symm h1)];exact h2
 refine ⟨?_,hx,?_,?_,by simp⟩
 ·exact {
   obj:=λm o ho b' hb'=>by
    rcases hget m o ho with ⟨e1,e2⟩|⟨e1,e2⟩|⟨e1,e2,e3⟩
    ·rw[e1,hnn] at hb';simp at hb'
    ·rcases hrho m b' hb' with ⟨h1,h2⟩|⟨_,h1,_⟩
     ·subst h2;subst e2;exact hnew hx
     ·exact absurd e1 h1
    ·rcases hrho m b' hb' with ⟨h1,h2⟩|⟨_,_,h1⟩
     ·omega
     ·have:b'≠b:=λe'=>e1 (r.rinj m n b (by rw[<-e'];exact h1) hb)
      exact ObjR.mono hx (hw.at_ b' this) (r.obj m o e3 b' h1)
   dead:=λm o ho hd=>by
    rcases hget m o ho with ⟨e1,e2⟩|⟨e1,e2⟩|⟨e1,e2,e3⟩
    ·exact e2
    ·have hd' : b9 (b9 G.rho n (some none)) H.length (some (some b)) m=some none:=hd;rw[e1,aN] at hd';simp at hd'
    ·rw[hold m e1 (by omega)] at hd;exact r.dead m o e3 hd
   out:=λm hm=>by
    have hm' : H.length<m:=by simp at hm;omega
    refine ⟨?_,(r.out m (by omega)).2⟩
    rw[hold m (by omega) (by omega)];exact (r.out m (by omega)).1
   lin:=λm g hm=>by
    rcases hget m _ hm with ⟨e1,e2⟩|⟨e1,e2⟩|⟨e1,e2,e3⟩
    ·cases e2
    ·exact absurd e2.symm (hk g)
    ·obtain ⟨a1,a2,b',u,k,a3,a4,a5,a6⟩:=r.lin m g e3;exact ⟨a1,by rw[hold m e1 (by omega)];exact a2,b',u,k,a3,a4,hplain _ _ a5,a6⟩
   lamE:=λm b' h=>by
    obtain ⟨g,h1⟩:=r.lamE m b' h;have h' : G.lam m=some b':=h;exact ⟨g,hgetold m _ (λe=>by rw[e,hlamn] at h';cases h') h1⟩
   rinj:=λm m' b' h1 h2=>by
    rcases hrho m b' h1 with ⟨e1,e2⟩|⟨e1,e2,e3⟩<;>rcases hrho m' b' h2 with ⟨f1,f2⟩|⟨f1,f2,f3⟩
    ·rw[e1,f1]
    ·subst e2;exact absurd (r.rinj m' n b' f3 hb) f1
    ·subst f2;exact absurd (r.rinj m n b' e3 hb) e1
    ·exact r.rinj m m' b' e3 f3
   linj:=r.linj
   rimm:=λm b' h=>by
    rw[hw.size]
    rcases hrho m b' h with ⟨e1,e2⟩|⟨e1,e2,e3⟩
    ·subst e2;exact r.rimm n b' hb
    ·exact r.rimm m b' e3
   immE:=λb' u hu=>by
    rw[hw.at_ b' (hne b' (by rw[show G.imm b'=some u from hu];simp))];exact r.immE b' u hu
   low:=λm o ho=>by
    have hl:(H.set n AObj.gone++[ob']).length=H.length+1:=by simp
    rw[hl]
    rcases hget m o ho with ⟨e1,e2⟩|⟨e1,e2⟩|⟨e1,e2,e3⟩
    ·subst e2;rfl
    ·subst e2;exact hlow
    ·exact AObj.low_mono (by omega) o (r.low m o e3)
   glob:=λi xs hg=>by
    obtain ⟨⟨u,h1,h2⟩,h3⟩:=r.glob i xs hg;exact ⟨⟨u,h1,h2⟩,VRow.mono hx i xs 0 u h1 (by omega) h3⟩
   globS:=TabS.mono r hx }
 ·intro m hm h1 h2;have e:m≠n:=λe=>by rw[e,hb] at h1;cases h1
  refine ⟨by rw[hold m e (by omega)];exact h1,h2,?_⟩
  rw[List.getElem?_append_left (by rw[hlen];exact hm),List.getElem?_set_ne (Ne.symm e)]
 ·intro m b' h1 h2;have hm:m<H.length:=(List.getElem?_eq_some_iff.1 h1).1;have e:m≠n:=λe=>by rw[e,hn] at h1;simp at h1;exact hg h1
  have:b'≠b:=λe'=>e (r.rinj m n b (by rw[<-e'];exact h2) hb)
  exact ⟨by rw[hold m e (by omega)];exact h2,hgetold m _ e h1,hw.at_ b' this⟩
section
variable {C:Cfg}{G:Gh}{H:Heap}{w:World}{a:AV}
theorem dZ {sz:Nat}:∀ {n:Nat} {cs:List AV},0<sz->n*sz<=cs.length->cs.all AV.one=true->ak (bQ sz n cs)=cs.take (n*sz)/\(bQ sz n cs).length=n
 | 0,cs,_,_,_=>by simp[bQ,ak]
 | n+1,cs,h0,hl,ho=>by
   have hl' : n*sz+sz<=cs.length:=by rwa [Nat.succ_mul] at hl
   have ih:=dZ (n:=n) (cs:=cs.drop sz) h0 (by simp;omega) (by
    rw[List.all_eq_true] at ho ⊢;exact λx hx=>ho x (List.mem_of_mem_drop hx))
   have he:∀ x,ak (x::bQ sz n (cs.drop sz))=x.cells++ak (bQ sz n (cs.drop sz)):=λx=>by simp[ak]
   simp only[bQ];refine ⟨?_,by simp[ih.2]⟩
   rw[he,ih.1,Nat.succ_mul,Nat.add_comm (n*sz) sz,List.take_add]
   congr 1
   by_cases h1:sz=1
   ·rw[if_pos h1,h1];cases cs with
    | nil=>simp at hl';omega
    | cons x r =>
      simp only[List.all_cons,Bool.and_eq_true] at ho;simp[AV.one_cells ho.1]
   ·rw[if_neg h1];rfl
theorem PC {s:ByteArray}{l:List Nat}(h:s.data.toList.map (·.toNat)=l):VList G w (l.map λ(b:Nat)=>AV.int .u8 b) (s.data.toList.map λb=>Value.int .u8 b.toNat):=by
 subst h
 induction s.data.toList with
 | nil=>simp[VList]
 | cons x r ih=>simp only[List.map_cons,VList,VR];exact ⟨_,_,rfl,rfl,ih⟩
theorem nD (r:Rel C G H w){x:AV}{vx:Value}{sz:Nat}{ys:List AV}(hx:VR G w x vx)(h0:0<sz)(h:aY sz x H=some ys) :
  Builtin.lenOf vx=Sem.pure ys.length/\∃ c,(∀ k,(Builtin.firstCells sz ys.length vx).run C.P { w with drawn:=k }=.ok c { w with drawn:=k })/\VList G w (ak ys) c.toList/\c.size=ys.length*sz:=by
 unfold aY at h
 split at h
 ·simp only[SJ] at h;subst h;simp only[VR] at hx;subst hx;exact ⟨rfl,#[],λk=>by simp[Builtin.firstCells],by simp[ak,VList],by simp⟩
 ·rename_i n es lin
  split at h
  ·rename_i e;simp only[SJ] at h;subst h;subst e;simp only[VR] at hx;obtain ⟨b,off,cap,rfl,h1,h2,h3,h4⟩:=hx;obtain ⟨m,g1,g2⟩:=VRow.list (VElems.row h4)
   have hml:m.length=es.length*n:=by
    rw[<-VList.length g1,bD (VElems.sizes h4)]
   have:=λk=>run_loadCells_list (P:=C.P) (w:={ w with drawn:=k }) ⟨b,off,none⟩ m (λj v hj=>by rw[Addr.add_mk];exact g2 j v hj)
   rw[hml] at this;exact ⟨rfl,m.toArray,this,by simpa using g1,by simpa using hml⟩
  ·cases h
 ·rename_i n off len cap m
  split at h
  ·rename_i cs hn
   split at h
   ·rename_i hc;obtain ⟨c1,c2,c3⟩:=hc;simp only[SJ] at h;subst h;subst c2;simp only[VR] at hx;obtain ⟨q,b,cap',h1,rfl,h2,h3,h4⟩:=hx;obtain ⟨b',hb,hob⟩:=r.block hn (by simp) h1
    obtain ⟨rfl,k,_⟩:=h4 b' hb;obtain ⟨j,_,_,hrow⟩:=hob;have hrow':=VRow.drop off hrow;simp only[Nat.zero_add] at hrow'
    have hch:=dZ (n:=len) (cs:=cs.drop off) h0 (by simp;omega) (by
     rw[List.all_eq_true] at c3 ⊢;exact λx hx=>c3 x (List.mem_of_mem_drop hx))
    obtain ⟨l,g1,g2⟩:=VRow.list (VRow.take (len*m) hrow')
    have hml:l.length=len*m:=by
     rw[<-VList.length g1];simp;omega
    have:=λk=>run_loadCells_list (P:=C.P) (w:={ w with drawn:=k }) ⟨b',off,none⟩ l (λj v hj=>by rw[Addr.add_mk];exact g2 j v hj)
    rw[hml] at this;rw[hch.1,hch.2];exact ⟨rfl,l.toArray,this,by simpa using g1,by simpa using hml⟩
   ·cases h
  ·cases h
 ·rename_i s
  split at h
  ·rename_i e;simp only[SJ] at h;subst h;subst e;simp only[VR] at hx;obtain ⟨t,rfl,ht⟩:=hx;have hlen:s.length=t.size:=by rw[<-ht];simp
   have hext:t.extract 0 t.size=t:=by simp
   refine ⟨by rw[List.length_map,hlen];rfl,t.data.map λb=>.int .u8 b.toNat,?_,?_,by simp[hlen]⟩
   ·simp[Builtin.firstCells,hlen]
   ·have h1:ak (s.map λ(b:Nat)=>AV.int .u8 b)=s.map λ(b:Nat)=>AV.int .u8 b:=flat_ones (λx hx=>by
     simp only[List.mem_map] at hx;obtain ⟨b,_,rfl⟩:=hx;rfl)
    rw[h1];simpa using PC (G:=G) (w:=w) ht
  ·cases h
 ·cases h
theorem nV {t:TypeId}(h:jn C t=true):∃ d,C.P.underlying t=some d/\∀ k,d ≠ .int k:=by
 unfold jn at h
 split at h
 ·cases h
 ·cases h
 ·rename_i h1 h2;cases hu:C.P.underlying t with
  | none=>exact absurd hu h1
  | some d=>exact ⟨d,rfl,λk e=>h2 k (by rw[hu,e])⟩
theorem qI {d:TypeDesc}(hd:∀ k,d ≠ .int k):(match d with | .int _=>true|_=>false)=false:=by
 cases d<;>first|rfl|exact absurd rfl (hd _)
theorem fP {P:Program}{t tx ty e:TypeId}{i:TypeInfo}{d:TypeDesc}{ab:Option Addr}{sLen sCap n:Nat}{vx:Value}{c:Array Value}(ht:P.underlying t=some (.slice e))(hi:P.info? e=some i)
  (htx:P.underlying tx=some d) (hd:∀ k,d ≠ .int k) (hlen:Builtin.lenOf vx=Sem.pure n) (hle:sLen+n<=sCap) (hc:(Builtin.firstCells i.size n vx).run P w=.ok c w) :
  (Builtin.append_ #[t,tx] ty #[.slice ab sLen sCap,vx]).run P w=(match ab with
   | some a=>((storeCells (a.add (sLen*i.size)) c.toList).run P w).andThen λ_ w'=>.ok (.slice ab (sLen+n) sCap) w'
   | none=>.ok (.slice ab (sLen+n) sCap) w):=by
 cases ab<;>simp[Builtin.append_,aE ht,sizeOf,fG hi,aE htx,qI hd,hlen,hle,hc]
theorem nq {P:Program}{t tx ty e:TypeId}{i:TypeInfo}{d:TypeDesc}{ab:Option Addr}{sLen sCap n:Nat}{vx z:Value}{c c0:Array Value}(ht:P.underlying t=some (.slice e))(hi:P.info? e=some i)
  (htx:P.underlying tx=some d) (hd:∀ k,d ≠ .int k) (hlen:Builtin.lenOf vx=Sem.pure n) (hle:¬ (sLen+n<=sCap)) (hc:∀ k,(Builtin.firstCells i.size n vx).run P { w with drawn:=k }=.ok c { w with drawn:=k })
  (hc0:∀ k,(Builtin.firstCells i.size sLen (.slice ab sLen sCap)).run P { w with drawn:=k }=.ok c0 { w with drawn:=k }) (hz:i.zero=some z) (hb:i.bytes≠0)
  (h48:Builtin.nextslicecap (sLen+n) sCap*i.bytes<=2 ^ 48) :
  ∃ cap w',sLen+n<=cap/\(Builtin.append_ #[t,tx] ty #[.slice ab sLen sCap,vx]).run P w=.ok (.slice (some ⟨w.heap.size,0,none⟩) (sLen+n) cap) w' /\
    Pushed w w' (.cells (c0++c++Builtin.zeroCells z.cells (cap-(sLen+n))) e (0,0)):=by
 have h48' : ¬ (281474976710656<Builtin.nextslicecap (sLen+n) sCap*i.bytes):=by omega
 have hq:(Question.appendCap (sLen+n) sCap e).forced=false:=rfl;have hz' : ∀ w',(zeroValue e).run P w'=.ok z w':=λw'=>by simp[zeroValue,fG hi,hz]
 obtain ⟨cap,hcap⟩ : ∃ cap,(Question.appendCap (sLen+n) sCap e).cut (w.tape w.drawn (.appendCap (sLen+n) sCap e))=cap:=⟨_,rfl⟩;refine ⟨cap,{ w with drawn:=w.drawn+1,heap:=w.heap.push (.cells (c0++c++Builtin.zeroCells z.cells (cap-(sLen+n))) e) },?_,?_,?_⟩
 ·rw[<-hcap];simp[Question.cut]
 ·have k1:(Builtin.firstCells i.size sLen (.slice ab sLen sCap)).run P w.drew=.ok c0 w.drew:=hc0 (w.drawn+1);have k2:(Builtin.firstCells i.size n vx).run P w.drew=.ok c w.drew:=hc (w.drawn+1);simp[Builtin.append_,aE ht,sizeOf,fG hi,aE htx,hlen,hle,hb,h48',hq,k1,k2,hz',newRow,hcap];rfl
 ·exact ⟨rfl,rfl,rfl,rfl⟩
end
theorem pY (k:Nat):∀ (r c:Nat),Builtin.growBy k r c<=2 ^ r*(c+768)
 | 0,c=>by simp[Builtin.growBy]
 | r+1,c=>by
   unfold Builtin.growBy
   split
   ·have:1<=2 ^ (r+1):=Nat.one_le_two_pow
    calc c<=c+768:=by omega
     _=1*(c+768):=by simp
     _<=_:=Nat.mul_le_mul_right _ this
   ·refine Nat.le_trans (pY k r _) ?_;rw[Nat.pow_succ,Nat.mul_assoc];apply Nat.mul_le_mul_left;omega
theorem mw {n o:Nat}(h:o<n):Builtin.nextslicecap n o<=16*n+16*768:=by
 unfold Builtin.nextslicecap
 split
 ·omega
 ·split
  ·omega
  ·refine Nat.le_trans (pY n 4 o) ?_;have:2 ^ 4*(o+768)=16*o+12288:=by omega
   rw[this];omega
theorem RW {n o b:Nat}(h:o<n)(hn:n<=16777216)(hb:b<=65536):Builtin.nextslicecap n o*b<=281474976710656:=by
 have h1:=mw h;have h2:=Nat.mul_le_mul (show Builtin.nextslicecap n o<=268447744 by omega) hb
 omega
section
variable {C:Cfg}{G:Gh}{H:Heap}{w:World}{a:AV}
def Shape (sz:Nat)(e:AV):Prop:=e.cells.length=sz/\(e.one=true\/∃ cs,e=.agg cs)
theorem Shape.of_ok {sz:Nat}{e:AV}(h:bi sz e=true):Shape sz e:=by
 simp only[bi,Bool.and_eq_true,decide_eq_true_eq] at h;refine ⟨h.1,?_⟩;cases e
 case agg cs=>exact .inr ⟨_,rfl⟩
 all_goals left;simpa [AV.cells] using h.2
theorem VElems.of_shape:∀ {l:List AV} {b sz off:Nat},(∀ e∈l,Shape sz e)->VRow G w b off (ak l)->VElems G w b sz off l
 | [],b,sz,off,_,_=>by simp[VElems]
 | e::r,b,sz,off,hs,h=>by
   have he:ak (e::r)=e.cells++ak r:=by simp[ak]
   rw[he] at h;obtain ⟨h1,h2⟩:=hs e (by simp)
   simp only[VElems];refine ⟨h1,?_,VElems.of_shape (λx hx=>hs x (by simp[hx])) ?_⟩
   ·have h3:=VRow.take e.cells.length h;rw[List.take_left' rfl] at h3
    rcases h2 with h2|⟨cs,rfl⟩
    ·rw[AV.one_cells h2] at h3;simp only[VRow] at h3;exact .inl ⟨h2,h3.1⟩
    ·right;simpa [VAgg,AV.cells] using h3
   ·have h3:=VRow.drop e.cells.length h;rw[List.drop_left' rfl] at h3
    rwa [h1] at h3
theorem VElems.shapes {l:List AV}{b sz off:Nat}(h:VElems G w b sz off l):∀ e∈l,Shape sz e :=
 λe he=>⟨VElems.sizes h e he,VElems.ones h e he⟩
theorem VElems.append:∀ {l l' : List AV} {b sz off:Nat},VElems G w b sz off l->VElems G w b sz (off+l.length*sz) l'->VElems G w b sz off (l++l')
 | [],l',b,sz,off,_,h=>by simpa using h
 | e::r,l',b,sz,off,h,h'=>by
   simp only[VElems] at h;simp only[List.cons_append,VElems];refine ⟨h.1,h.2.1,VElems.append h.2.2 ?_⟩;simp only[List.length_cons,Nat.succ_mul] at h'
   rwa [show off+sz+r.length*sz=off+(r.length*sz+sz) by omega]
theorem cY {l l' : List AV}:ak (l++l')=ak l++ak l':=by simp[ak]
theorem lL {G' : Gh}{w' : World}{c0 c rest:Array Value}{e:TypeId}{xs ys:List AV}(hp:Pushed w w' (.cells (c0++c++rest) e (0,0)))(hx:Ext G w G' w')
  (h0:VList G w (ak xs) c0.toList) (h1:VList G w (ak ys) c.toList):VRow G' w' w.heap.size 0 (ak (xs++ys)):=by
 rw[cY];have h:=VList.append (VList.mono hx _ _ h0) (VList.mono hx _ _ h1);refine VRow.of_list h (λi x hi=>?_)
 rw[cW hp.new]
 have hlt:i<c0.size+c.size:=by
  have:=(List.getElem?_eq_some_iff.1 hi).1;simpa using this
 simp only[Nat.zero_add];rw[Array.getElem?_append_left (by simpa using hlt)]
 rw[<-hi,<-Array.getElem?_toList,Array.toList_append]
theorem zx {G' : Gh}{w' : World}{b p:Nat}{c:Array Value}{e:TypeId}{fr:Nat×Nat}{m:List Value}{l:List AV}(hc:w'.heap[b]?=some (.cells (c.toList.take p++m++c.toList.drop (p+m.length)).toArray e fr))
  (hp:p<=c.size) (hv:VList G' w' l m):VRow G' w' b p l:=by
 refine VRow.of_list hv (λi x hi=>?_)
 rw[cW hc];have hlt:i<m.length:=(List.getElem?_eq_some_iff.1 hi).1;have h1:(c.toList.take p).length=p:=by simp;omega
 simp only[List.getElem?_toArray];rw[List.getElem?_append_left (by simp;omega),List.getElem?_append_right (by rw[h1];omega),h1,show p+i-p=i by omega]
 exact hi
theorem As {p i:Nat}{c:Array Value}{m:List Value}(hp:p<=c.size)(hi:i<p):(c.toList.take p++m++c.toList.drop (p+m.length)).toArray[i]?=c[i]?:=by
 have h1:(c.toList.take p).length=p:=by simp;omega
 simp only[List.getElem?_toArray];rw[List.getElem?_append_left (by simp;omega),List.getElem?_append_left (by omega),List.getElem?_take_of_lt hi]
 simp
def Lh (C:Cfg)(G:Gh)(H:Heap)(w:World)(t tx ty:TypeId)(vb vx:Value)(a:AV)(H' : Heap):Prop :=
 (∃ v w' G',(Builtin.append_ #[t,tx] ty #[vb,vx]).run C.P w=.ok v w'/\Rel C G' H' w'/\Step G H w G' H' w'/\VR G' w' a v) \/
 False
theorem wr (r:Rel C G H w){w' : World}{c0 c rest:Array Value}{e:TypeId}{xs ys:List AV}{sz cap:Nat}(hp:Pushed w w' (.cells (c0++c++rest) e (0,0)))
  (h0:VList G w (ak xs) c0.toList) (h1:VList G w (ak ys) c.toList) (hxs:∀ e∈xs,Shape sz e) (hys:∀ e∈ys,Shape sz e) (hcap:xs.length+ys.length<=cap)
  (hrest:rest.size=(cap-(xs.length+ys.length))*sz) :
  ∃ G',Rel C G' (H++[.lin 0]) w'/\Step G H w G' (H++[.lin 0]) w' /\
    VR G' w' (.sl sz (xs++ys) (.live H.length 0)) (.slice (some ⟨w.heap.size,0,none⟩) (xs.length+ys.length) cap):=by
 have hl0:c0.size=xs.length*sz:=by
  have:=VList.length h0;rw[bD (λe he=>(hxs e he).1)] at this;simpa using this.symm
 have hl1:c.size=ys.length*sz:=by
  have:=VList.length h1;rw[bD (λe he=>(hys e he).1)] at this;simpa using this.symm
 have hmul:(xs.length+ys.length)*sz+(cap-(xs.length+ys.length))*sz=cap*sz:=by
  rw[<-Nat.add_mul];congr 1;omega
 have hsize:(c0++c++rest).size=cap*sz:=by
  simp only[Array.size_append,hl0,hl1,hrest];rw[Nat.add_mul] at hmul;omega
 have hle:(xs.length+ys.length)*sz<=cap*sz:=Nat.mul_le_mul_right _ hcap;have h2:=r.addImm' hp (u:=(xs.length+ys.length)*sz) (by rw[hsize];exact hle)
 have himm:(G.addImm w.heap.size ((xs.length+ys.length)*sz)).imm w.heap.size=some ((xs.length+ys.length)*sz):=aN;have hpl:cN w' w.heap.size (cap*sz):=⟨_,_,hp.new,hsize⟩
 have hnl:∀ n,(G.addImm w.heap.size ((xs.length+ys.length)*sz)).lam n≠some w.heap.size:=by
  intro n hn;have hn' : G.lam n=some w.heap.size:=hn;obtain ⟨u,hu⟩:=r.lam_imm hn';rw[r.imm_new] at hu;cases hu
 have h3:=h2.1.addLin himm hpl hle hnl;refine ⟨_,h3.1,h2.2.trans h3.2,?_⟩;have hx:=(h2.2.trans h3.2).ext;have hrow:=lL hp hx h0 h1;simp only[VR];have himm' : ((G.addImm w.heap.size ((xs.length+ys.length)*sz)).addLin H.length w.heap.size).imm w.heap.size=some ((xs.length+ys.length)*sz):=himm
 refine ⟨w.heap.size,0,cap,by rw[List.length_append],by rw[List.length_append];exact hcap,⟨_,himm',by rw[List.length_append];omega⟩,?_,VElems.of_shape (λe he=>by
  rcases List.mem_append.1 he with h|h
  ·exact hxs e h
  ·exact hys e h) hrow⟩
 have hgen:((G.addImm w.heap.size ((xs.length+ys.length)*sz)).addLin H.length w.heap.size).gen H.length=0:=aN;have hlam:((G.addImm w.heap.size ((xs.length+ys.length)*sz)).addLin H.length w.heap.size).lam H.length=some w.heap.size:=aN;refine ⟨by rw[hgen];exact Nat.le_refl _,⟨_,hlam⟩,⟨_,hpl⟩,λ_=>⟨_,hpl,by omega,.inr ⟨hlam,?_⟩⟩⟩
 rw[himm',List.length_append,Nat.zero_add]
theorem tI (r:Rel C G H w){w' : World}{c0 c rest:Array Value}{e:TypeId}{xs ys:List AV}{sz cap id g:Nat}(hp:Pushed w w' (.cells (c0++c++rest) e (0,0)))
  (h0:VList G w (ak xs) c0.toList) (h1:VList G w (ak ys) c.toList) (hxs:∀ e∈xs,Shape sz e) (hys:∀ e∈ys,Shape sz e) (hcap:xs.length+ys.length<=cap)
  (hrest:rest.size=(cap-(xs.length+ys.length))*sz) (hid:H[id]?=some (.lin g)) :
  ∃ G',Rel C G' (H.set id (.lin (g+1))) w'/\Step G H w G' (H.set id (.lin (g+1))) w' /\
    VR G' w' (.sl sz (xs++ys) (.live id (g+1))) (.slice (some ⟨w.heap.size,0,none⟩) (xs.length+ys.length) cap):=by
 have hl0:c0.size=xs.length*sz:=by
  have:=VList.length h0;rw[bD (λe he=>(hxs e he).1)] at this;simpa using this.symm
 have hl1:c.size=ys.length*sz:=by
  have:=VList.length h1;rw[bD (λe he=>(hys e he).1)] at this;simpa using this.symm
 have hmul:(xs.length+ys.length)*sz+(cap-(xs.length+ys.length))*sz=cap*sz:=by
  rw[<-Nat.add_mul];congr 1;omega
 have hsize:(c0++c++rest).size=cap*sz:=by
  simp only[Array.size_append,hl0,hl1,hrest];rw[Nat.add_mul] at hmul;omega
 have hle:(xs.length+ys.length)*sz<=cap*sz:=Nat.mul_le_mul_right _ hcap;have h2:=r.addImm' hp (u:=(xs.length+ys.length)*sz) (by rw[hsize];exact hle)
 have himm:(G.addImm w.heap.size ((xs.length+ys.length)*sz)).imm w.heap.size=some ((xs.length+ys.length)*sz):=aN;have hpl:cN w' w.heap.size (cap*sz):=⟨_,_,hp.new,hsize⟩
 have hnl:∀ n,(G.addImm w.heap.size ((xs.length+ys.length)*sz)).lam n≠some w.heap.size:=by
  intro n hn;have hn' : G.lam n=some w.heap.size:=hn;obtain ⟨u,hu⟩:=r.lam_imm hn';rw[r.imm_new] at hu;cases hu
 have h3:=h2.1.moveLin hid himm hpl hle hnl;refine ⟨_,h3.1,h2.2.trans h3.2,?_⟩;have hx:=(h2.2.trans h3.2).ext;have hrow:=lL hp hx h0 h1;simp only[VR];have himm' : ((G.addImm w.heap.size ((xs.length+ys.length)*sz)).moveLin id w.heap.size (g+1)).imm w.heap.size=some ((xs.length+ys.length)*sz):=himm
 refine ⟨w.heap.size,0,cap,by rw[List.length_append],by rw[List.length_append];exact hcap,⟨_,himm',by rw[List.length_append];omega⟩,?_,VElems.of_shape (λe he=>by
  rcases List.mem_append.1 he with h|h
  ·exact hxs e h
  ·exact hys e h) hrow⟩
 have hgen:((G.addImm w.heap.size ((xs.length+ys.length)*sz)).moveLin id w.heap.size (g+1)).gen id=g+1:=aN;have hlam:((G.addImm w.heap.size ((xs.length+ys.length)*sz)).moveLin id w.heap.size (g+1)).lam id=some w.heap.size:=aN;refine ⟨by rw[hgen];exact Nat.le_refl _,⟨_,hlam⟩,⟨_,hpl⟩,λ_=>⟨_,hpl,by omega,.inr ⟨hlam,?_⟩⟩⟩
 rw[himm',List.length_append,Nat.zero_add]
theorem sV (r:Rel C G H w){c:Array Value}{xs ys:List AV}{sz off cap b id n:Nat}(hpl:cN w b n)(hn:off+cap*sz<=n)
  (h1:VList G w (ak ys) c.toList) (hys:∀ e∈ys,Shape sz e) (he:VElems G w b sz off xs) (hcap:xs.length+ys.length<=cap)
  (hid:H[id]?=some (.lin (G.gen id))) (hlam:G.lam id=some b) (himm:G.imm b=some (off+xs.length*sz)) (hones:∀ v∈c.toList,v.oneCell'=true) :
  ∃ w' G',(storeCells ⟨b,off+xs.length*sz,none⟩ c.toList).run C.P w=.ok () w'/\Rel C G' (H.set id (.lin (G.gen id+1))) w'/\Step G H w G' (H.set id (.lin (G.gen id+1))) w' /\
    VR G' w' (.sl sz (xs++ys) (.live id (G.gen id+1))) (.slice (some ⟨b,off,none⟩) (xs.length+ys.length) cap):=by
 obtain ⟨d,e,hd,hdn⟩:=hpl
 have hl1:c.size=ys.length*sz:=by
  have:=VList.length h1;rw[bD (λe he=>(hys e he).1)] at this;simpa using this.symm
 have hmul:off+xs.length*sz+ys.length*sz<=off+cap*sz:=by
  have:=Nat.mul_le_mul_right sz hcap;rw[Nat.add_mul] at this;omega
 have hrun:=run_storeCells_at C.P b (off+xs.length*sz) e c.toList 0 d w hd (by simp[hl1];omega) hones
 simp only[Nat.add_zero] at hrun;have hnew:=setRow_heap w b d (d.toList.take (off+xs.length*sz)++c.toList++d.toList.drop (off+xs.length*sz+c.toList.length)).toArray e (0,0) hd;have hg:=r.growLin hid hlam himm hd (fB w b _) hnew (by simp[hl1];omega) (λi hi=>As (by omega) hi) (u':=off+(xs.length+ys.length)*sz) (by rw[Nat.add_mul];omega) (by rw[Nat.add_mul];omega)
 refine ⟨_,_,hrun,hg.1,hg.2,?_⟩;have hx:=hg.2.ext;have himm' : (G.growLin id b (off+(xs.length+ys.length)*sz) (G.gen id+1)).imm b=some (off+(xs.length+ys.length)*sz):=aN;have hgen:(G.growLin id b (off+(xs.length+ys.length)*sz) (G.gen id+1)).gen id=G.gen id+1:=aN;have hrow:=zx (p:=off+xs.length*sz) hnew (by omega) (VList.mono hx _ _ h1)
 have hpl' : cN (w.setRow b (d.toList.take (off+xs.length*sz)++c.toList++d.toList.drop (off+xs.length*sz+c.toList.length)).toArray) b n:=hx.plain b n ⟨d,e,hd,hdn⟩;simp only[VR];refine ⟨b,off,cap,by rw[List.length_append],by rw[List.length_append];exact hcap,⟨_,himm',by rw[List.length_append];omega⟩,?_,?_⟩
 ·refine ⟨by rw[hgen];exact Nat.le_refl _,⟨_,hlam⟩,⟨_,hpl'⟩,λ_=>⟨_,hpl',hn,.inr ⟨hlam,?_⟩⟩⟩
  rw[himm',List.length_append]
 ·exact VElems.append (VElems.mono hx b sz xs off _ himm (by omega) he) (VElems.of_shape hys hrow)
theorem oq (r:Rel C G H w){w' : World}{c0 c rest:Array Value}{e:TypeId}{xs ys:List AV}{sz cap:Nat}(hp:Pushed w w' (.cells (c0++c++rest) e (0,0)))
  (h0:VList G w (ak xs) c0.toList) (h1:VList G w (ak ys) c.toList) (hl0:c0.size=xs.length*sz) (hl1:c.size=ys.length*sz) (hcap:xs.length+ys.length<=cap)
  (hrest:rest.size=(cap-(xs.length+ys.length))*sz) (hlow:aG H.length (ak (xs++ys))=true) :
  ∃ G',Rel C G' (H++[.cells (ak (xs++ys))]) w'/\Step G H w G' (H++[.cells (ak (xs++ys))]) w' /\
    VR G' w' (.rsl H.length 0 (xs.length+ys.length) (xs.length+ys.length) sz) (.slice (some ⟨w.heap.size,0,none⟩) (xs.length+ys.length) cap):=by
 have hmul:(xs.length+ys.length)*sz+(cap-(xs.length+ys.length))*sz=cap*sz:=by
  rw[<-Nat.add_mul];congr 1;omega
 have hsize:(c0++c++rest).size=cap*sz:=by
  simp only[Array.size_append,hl0,hl1,hrest];rw[Nat.add_mul] at hmul;omega
 have hpl:cN w' w.heap.size (cap*sz):=⟨_,_,hp.new,hsize⟩
 have h2:=r.newObj hp (a:=.cells (ak (xs++ys))) (AObj.low_mono (Nat.le_succ _) (.cells _) hlow) (by simp) (λG' hx=>by
  have hrow:=lL hp hx h0 h1;refine ⟨cap*sz,hpl,?_,hrow⟩;have g0:=VList.length h0;have g1:=VList.length h1;rw[cY,List.length_append,g0,g1];simp only[Array.length_toList,hl0,hl1];rw[Nat.add_mul] at hmul;omega)
 refine ⟨_,h2.1,h2.2,?_⟩;simp only[VR];refine ⟨_,w.heap.size,cap,aN,rfl,hcap,Nat.le_refl _,λb' e=>⟨by simpa using e.symm,cap*sz,hpl,by omega⟩⟩
end
section
variable {C:Cfg}{G:Gh}{H:Heap}{w:World}{a:AV}
def There (w:World)(sz n:Nat)(ad:Addr):Prop:=ad.spot=none/\∃ c e fz,w.heap[ad.block]?=some (.cells c e fz)/\ad.off+n*sz<=c.size
def Sound (w:World)(sz n:Nat)(ad:Addr):Prop:=ad.spot=none/\∃ c e,w.heap[ad.block]?=some (.cells c e (0,0))/\ad.off+n*sz<=c.size
theorem There.holds {sz n:Nat}{ad:Addr}(h:There w sz n ad):Room.holdsV w ad (n*sz)=true:=by
 obtain ⟨h1,c,e,fz,h2,h3⟩:=h;simp[Room.holdsV,World.shape?,h2,h3,h1]
theorem Sound.there {sz n:Nat}{ad:Addr}(h:Sound w sz n ad):There w sz n ad:=by
 obtain ⟨h1,c,e,h2,h3⟩:=h;exact ⟨h1,c,e,_,h2,h3⟩
theorem Sound.frozen {sz n k:Nat}{ad:Addr}(h:Sound w sz n ad):w.frozen? (ad.add k)=false:=by
 obtain ⟨h1,c,e,h2,h3⟩:=h;have hblk:(ad.add k).block=ad.block:=by unfold Addr.add;split<;>rfl
 unfold World.frozen?;rw[hblk,h2];simp
def FF (w:World)(sz:Nat)(n:Nat)(vb:Value):Prop:=∃ ab cap,vb=.slice ab n cap/\n<=cap/\∀ ad,ab=some ad->Sound w sz n ad
theorem qq (r:Rel C G H w){base x:AV}{vx z:Value}{i:TypeInfo}{t tx ty e:TypeId}{xs ys:List AV}{ab:Option Addr}{sCap:Nat}(hb:VR G w base (.slice ab xs.length sCap))(hx:VR G w x vx)
  (ht:C.P.underlying t=some (.slice e)) (hi:C.P.info? e=some i) (htx:jn C tx=true) (hz:i.zero=some z) (hzs:z.cells.size=i.size) (h0:0<i.size) (hb0:i.bytes≠0) (hb1:i.bytes<=65536)
  (hxs:aY i.size base H=some xs) (hys:aY i.size x H=some ys) (hsound:∀ ad,ab=some ad->Sound w i.size xs.length ad) (hle:¬ (xs.length+ys.length<=sCap))
  (hcap:xs.length<=sCap)
  (hfew:decide (xs.length+ys.length<=2 ^ 24)=true) :
  (∃ (c0 c rest:Array Value) (cap:Nat) (w' : World),VList G w (ak xs) c0.toList/\VList G w (ak ys) c.toList/\c0.size=xs.length*i.size/\c.size=ys.length*i.size /\
   xs.length+ys.length<=cap/\rest.size=(cap-(xs.length+ys.length))*i.size /\
   (Builtin.append_ #[t,tx] ty #[.slice ab xs.length sCap,vx]).run C.P w=.ok (.slice (some ⟨w.heap.size,0,none⟩) (xs.length+ys.length) cap) w' /\
   Pushed w w' (.cells (c0++c++rest) e (0,0))) \/
  False:=by
 obtain ⟨d,hd,hdn⟩:=nV htx;obtain ⟨hlen,c,hc,hcv,hcs⟩:=nD r hx h0 hys;obtain ⟨_,c0,hc0,hc0v,hc0s⟩:=nD r hb h0 hxs
 by_cases h48:Builtin.nextslicecap (xs.length+ys.length) sCap*i.bytes<=281474976710656
 ·left
  obtain ⟨cap,w',g1,g2,g3⟩:=nq (w:=w) (ty:=ty) ht hi hd hdn hlen hle hc hc0 hz hb0 (by omega)
  refine ⟨c0,c,_,cap,w',hc0v,hcv,hc0s,hcs,g1,?_,g2,g3⟩;simp[Builtin.zeroCells,hzs]
 ·have hbig:¬ (xs.length+ys.length<=16777216):=λh=>h48 (RW (by omega) h hb1)
  simp at hfew;omega
theorem AC {t:TypeId}{i:TypeInfo}{z:AV}(hi:C.P.info? t=some i)(h:cj C t=some z):∃ zv,i.zero=some zv/\ofConst zv=some z:=by
 unfold cj at h;rw[hi] at h;simp only at h
 split at h
 ·rename_i zv hz
  split at h
  ·rename_i b hb
   split at h
   ·simp only[SJ] at h;subst h;exact ⟨zv,hz,hb⟩
   ·cases h
  ·cases h
 ·cases h
theorem AF {f:FuncId}{t tx ty:TypeId}{base x:AV}{vb vx:Value}{s s' : St}(r:Rel C G s.heap w)(hb:VR G w base vb)(hx:VR G w x vx)(htx:jn C tx=true)
  (h:aq C f t base x s=some (a,s')):Lh C G s.heap w t tx ty vb vx a s'.heap:=by
 unfold aq at h
 split at h
 ·cases h
 ·rename_i e he;have ht:=jX he
  split at h
  ·cases h
  ·cases h
  ·rename_i i z hi hz
   split at h
   ·rename_i xs ys hxs hys
    split at h
    ·cases h
    ·rename_i hcond;simp only[not_or] at hcond;obtain ⟨d1,d2,d3,d4,d5⟩:=hcond;have h0:0<i.size:=Nat.pos_of_ne_zero d1;have hysall:ys.all (bi i.size)=true:=by simpa using d4
     have hyss:∀ e∈ys,Shape i.size e:=λe he=>Shape.of_ok (List.all_eq_true.1 hysall e he)
     have hysone:∀ c:Array Value,VList G w (ak ys) c.toList->∀ v∈c.toList,v.oneCell'=true:=λc hc=>VList.oneCells (by
      rw[List.all_eq_true];intro q hq;simp only[ak,List.mem_flatMap] at hq;obtain ⟨y,hy,hq⟩:=hq;have:=List.all_eq_true.1 hysall y hy;simp only[bi,Bool.and_eq_true] at this;exact List.all_eq_true.1 this.2 q hq) hc
     split at h
     ·cases h
     ·rename_i hfew
      have hfew' : decide (xs.length+ys.length<=2 ^ 24)=true:=by
       cases hq:decide (xs.length+ys.length<=2 ^ 24) with
       | true=>rfl
       | false=>rw[hq] at hfew;simp at hfew
      obtain ⟨zv,hzv,hzo⟩:=AC hi hz;have hzc:VList G w z.cells zv.cells.toList:=VR.cells (eh hz).1 (ofConst_ok _ _ hzo)
      have hzs:zv.cells.size=i.size:=by
       have:=VList.length hzc;have d3' : z.cells.length=i.size:=Classical.byContradiction d3;rw[d3'] at this;simpa using this.symm
      obtain ⟨dd,hdd,hdn⟩:=nV htx;obtain ⟨hlen,c,hc,hcv,hcs⟩:=nD r hx h0 hys
      have hbase:(∃ (sz:Nat) (es:List AV) (lin:Lin),base=.sl sz es lin/\lin ≠ .frz)\/base=.nils\/(∃ (n off len cap sz:Nat),base=.rsl n off len cap sz)->FF w i.size xs.length vb:=by
       rintro (⟨sz,es,lin,rfl,hlin⟩|rfl|⟨n,off,len,cap,sz,rfl⟩)
       ·simp only[aY] at hxs
        split at hxs
        ·rename_i e';simp only[SJ] at hxs;subst hxs;subst e';have hb':=hb;simp only[VR] at hb';obtain ⟨b,off,cap,rfl,g1,g2,g3,g4⟩:=hb';refine ⟨_,cap,rfl,g1,λad had=>?_⟩
         simp only[SJ] at had;subst had;obtain ⟨n,d,el,k1,k2⟩:=fc g3 hlin;obtain ⟨u,k3,k4⟩:=g2;obtain ⟨d',el',fz',k5,k6⟩:=r.immE b u k3;rw[k1] at k5;simp only[SJ,Obj.cells.injEq] at k5;obtain ⟨rfl,_,_⟩:=k5;exact ⟨rfl,d,el,k1,by simp only;omega⟩
        ·cases hxs
       ·simp only[aY,SJ] at hxs;subst hxs;simp only[VR] at hb;subst hb;exact ⟨none,0,rfl,Nat.le_refl _,by simp⟩
       ·simp only[aY] at hxs
        split at hxs
        ·rename_i cs hn
         split at hxs
         ·rename_i hcc;obtain ⟨c1,c2,c3⟩:=hcc;simp only[SJ] at hxs;subst hxs
          have hch:=(dZ (n:=len) (cs:=cs.drop off) h0 (by simp;omega) (by
           rw[List.all_eq_true] at c3 ⊢;exact λx hx=>c3 x (List.mem_of_mem_drop hx))).2
          rw[hch];have hb':=hb;simp only[VR] at hb';obtain ⟨q,b,cap',g1,rfl,g2,g3,g4⟩:=hb';obtain ⟨b',k1,hob⟩:=r.block hn (by simp) g1
          obtain ⟨rfl,m,⟨d,el,k2,k3⟩,k4⟩:=g4 b' k1;refine ⟨_,cap',rfl,by omega,λad had=>?_⟩
          simp only[SJ] at had;subst had;refine ⟨rfl,d,el,k2,?_⟩;have:len*i.size<=cap'*i.size:=Nat.mul_le_mul_right _ (by omega)
          subst c2;simp only;omega
         ·cases hxs
        ·cases hxs
      have hone:({ w with drawn:=w.drawn }:World)=w:=rfl
      split at h
      ·
       rename_i hemp;have hye:ys=[]:=by simpa using hemp
       have hbo:(∃ ab cap,vb=.slice ab xs.length cap/\xs.length<=cap)/\a=base/\s'=s:=by
        split at h
        ·simp only[SJ,PJ] at h;obtain ⟨ab,cap,k1,k2,_⟩:=hbase (.inr (.inl rfl));exact ⟨⟨ab,cap,k1,k2⟩,h.1.symm,h.2.symm⟩
        ·rename_i sz es lin;simp only[SJ,PJ] at h;refine ⟨?_,h.1.symm,h.2.symm⟩;simp only[aY] at hxs
         split at hxs
         ·simp only[SJ] at hxs;subst hxs;have hb':=hb;simp only[VR] at hb';obtain ⟨b,off,cap,rfl,g1,_⟩:=hb';exact ⟨_,cap,rfl,g1⟩
         ·cases hxs
        ·simp only[SJ,PJ] at h;obtain ⟨ab,cap,k1,k2,_⟩:=hbase (.inr (.inr ⟨_,_,_,_,_,rfl⟩));exact ⟨⟨ab,cap,k1,k2⟩,h.1.symm,h.2.symm⟩
        ·cases h
       obtain ⟨⟨ab,cap,rfl,g1⟩,rfl,rfl⟩:=hbo;subst hye
       have hcn:c=#[]:=by
        have:c.size=0:=by simpa using hcs
        simpa using this
       subst hcn
       left
       refine ⟨.slice ab xs.length cap,w,G,?_,r,Step.refl _ _ _,hb⟩;rw[fP (c:=#[]) ht hi hdd hdn hlen (by simpa using g1) (hc w.drawn)]
       cases ab<;>simp[storeCells]
      ·rename_i hne
       have hyn:0<ys.length:=by
        rcases Nat.eq_zero_or_pos ys.length with h'|h'
        ·have:ys=[]:=List.length_eq_zero_iff.1 h';subst this;simp at hne
        ·exact h'
       have d5' : i.bytes<=65536:=by omega
       have fresh:FF w i.size xs.length vb->(∀ ad n cap,vb=.slice ad n cap->cap=n)->(∀ e∈xs,Shape i.size e) ->
         (if C.mutT f t then
          if aG s.heap.length xs=true/\aG s.heap.length ys=true/\xs.all (bi i.size)=true then
           some (AV.rsl s.heap.length 0 (xs.length+ys.length) (xs.length+ys.length) i.size,{ s with heap:=s.heap++[.cells (ak (xs++ys))] })
          else none
         else some (AV.sl i.size (xs++ys) (.live s.heap.length 0),{ s with heap:=s.heap++[.lin 0] }))=some (a,s')->Lh C G s.heap w t tx ty vb vx a s'.heap:=by
        rintro ⟨ab,cap,rfl,g1,g2⟩ hcap hshape h
        obtain rfl:=hcap _ _ _ rfl
        rcases qq (ty:=ty) r hb hx ht hi htx hzv hzs h0 d2 d5' hxs hys g2 (by omega) (Nat.le_refl _) hfew' with ⟨c0,c1,rest,cap,w',p1,p2,p3,p4,p5,p6,p7,p8⟩|hask
        ·left
         split at h
         ·split at h
          ·rename_i hl;simp only[SJ,PJ] at h;obtain ⟨rfl,rfl⟩:=h;obtain ⟨G',q1,q2,q3⟩:=oq r p8 p1 p2 p3 p4 p5 p6 (dX (by rw[fO,hl.1,hl.2.1];rfl))
           exact ⟨_,w',G',p7,q1,q2,q3⟩
          ·cases h
         ·simp only[SJ,PJ] at h;obtain ⟨rfl,rfl⟩:=h;obtain ⟨G',q1,q2,q3⟩:=wr r p8 p1 p2 hshape hyss p5 p6;exact ⟨_,w',G',p7,q1,q2,q3⟩
        ·exact .inr hask
       split at h
       ·
        refine fresh (hbase (.inr (.inl rfl))) ?_ ?_ h
        ·intro ad n cap hv;simp only[VR] at hb;rw[hb] at hv;simp at hv;omega
        ·simp only[aY,SJ] at hxs;subst hxs;simp
       ·
        rename_i sz es;simp only[aY] at hxs
        split at hxs
        ·rename_i e';subst e';have hb':=hb;simp only[VR] at hb';obtain ⟨b,off,cap,hvb,g1,g2,g3,g4⟩:=hb';refine fresh (hbase (.inl ⟨_,_,_,rfl,by simp⟩)) ?_ ?_ h
         ·intro ad n cap' hv;rw[hvb] at hv;simp only[Value.slice.injEq] at hv;have:=g3.2.1;omega
         ·simp only[SJ] at hxs;subst hxs;exact VElems.shapes g4
        ·cases hxs
       ·
        rename_i sz es;simp only[aY] at hxs
        split at hxs
        ·rename_i e';subst e';have hb':=hb;simp only[VR] at hb';obtain ⟨b,off,cap,hvb,g1,g2,g3,g4⟩:=hb';refine fresh (hbase (.inl ⟨_,_,_,rfl,by simp⟩)) ?_ ?_ h
         ·intro ad n cap' hv;rw[hvb] at hv;simp only[Value.slice.injEq] at hv;have:=g3.1;omega
         ·simp only[SJ] at hxs;subst hxs;exact VElems.shapes g4
        ·cases hxs
       ·
        rename_i sz es id g
        split at h
        ·rename_i g' hid
         split at h
         ·rename_i hg;subst hg;simp only[SJ,PJ] at h;obtain ⟨rfl,rfl⟩:=h;obtain ⟨ab,cap,hvb,g1,g2⟩:=hbase (.inl ⟨_,_,_,rfl,by simp⟩)
          have hb':=hb;simp only[VR] at hb';obtain ⟨b,off,cap',hvb',_,k2,⟨k3,k4,k5,k6⟩,k7⟩:=hb';have hgen:=(r.lin id g hid).1;obtain ⟨n,m1,m2,m3⟩:=k6 hgen.symm;simp only[aY] at hxs
          split at hxs
          ·rename_i e';subst e';simp only[SJ] at hxs;subst hxs;rw[hvb] at hvb';simp only[Value.slice.injEq] at hvb';obtain ⟨rfl,_,rfl⟩:=hvb';subst hvb
           by_cases hle:es.length+ys.length<=cap
           ·
            rcases m3 with m3|⟨m3,m4⟩
            ·omega
            ·have hrun:=fP (w:=w) (ty:=ty) ht hi hdd hdn hlen hle (hc w.drawn) (ab:=some ⟨b,off,none⟩);rw[<-hgen] at hid;obtain ⟨w',G',q1,q2,q3,q4⟩:=sV (cap:=cap) r m1 m2 hcv hyss k7 hle hid m3 m4 (hysone c hcv)
             left
             rw[hgen] at q2 q3 q4;refine ⟨_,w',G',?_,q2,q3,q4⟩;simp only[Addr.add_mk] at hrun;rw[hrun,q1];rfl
           ·rcases qq (ty:=ty) r hb hx ht hi htx hzv hzs h0 d2 d5' (xs:=es) (by simp[aY]) hys g2 hle g1 hfew' with ⟨c0,c1,rest,cap2,w',p1,p2,p3,p4,p5,p6,p7,p8⟩|hask
            ·left
             obtain ⟨G',q1,q2,q3⟩:=tI r p8 p1 p2 (VElems.shapes k7) hyss p5 p6 hid;exact ⟨_,w',G',p7,q1,q2,q3⟩
            ·exact .inr hask
          ·cases hxs
         ·cases h
        ·cases h
       ·
        rename_i n off len cap sz
        split at h
        ·rename_i hc3;obtain ⟨e1,e2,e3⟩:=hc3;subst e1;simp only[SJ,PJ] at h;obtain ⟨rfl,rfl⟩:=h;obtain ⟨ab,cap1,hvb,g1,g2⟩:=hbase (.inr (.inr ⟨_,_,_,_,_,rfl⟩));have hb':=hb;simp only[VR] at hb';obtain ⟨q,b,cap2,k1,hvb',k2,k3,k4⟩:=hb';have hxs':=hxs;simp only[aY] at hxs'
         split at hxs'
         ·rename_i cs hn
          split at hxs'
          ·rename_i hcc;obtain ⟨c1,c2,c3⟩:=hcc;subst c2;simp only[SJ] at hxs';have hch:=dZ (n:=len) (cs:=cs.drop 0) h0 (by simp;omega) (by simpa using c3)
           rw[hxs'] at hch;simp only[List.drop_zero] at hch;obtain ⟨hfl,hln⟩:=hch;rw[hvb] at hvb';simp only[Value.slice.injEq] at hvb';obtain ⟨rfl,_,rfl⟩:=hvb';subst hvb;obtain ⟨b',kb,hob⟩:=r.block hn (by simp) k1
           obtain ⟨rfl,m,k5,k6⟩:=k4 b' kb;subst kb;obtain ⟨m',_,k8,hrow⟩:=hob
           by_cases hle:xs.length+ys.length<=cap1
           ·
            have hrun:=fP (w:=w) (ty:=ty) ht hi hdd hdn hlen hle (hc w.drawn) (ab:=some ⟨b',0,none⟩);obtain ⟨d,el,hd,hdm⟩:=k5
            have hmul:xs.length*i.size+ys.length*i.size<=cap1*i.size:=by
             have:=Nat.mul_le_mul_right i.size hle
             rwa [Nat.add_mul] at this
            have hst:=run_storeCells_at C.P b' (xs.length*i.size) el c.toList 0 d w hd (by simp[hcs];omega) (hysone c hcv)
            simp only[Nat.add_zero] at hst;have hnew:=setRow_heap w b' d (d.toList.take (xs.length*i.size)++c.toList++d.toList.drop (xs.length*i.size+c.toList.length)).toArray el (0,0) hd;have hsz:(d.toList.take (xs.length*i.size)++c.toList++d.toList.drop (xs.length*i.size+c.toList.length)).toArray.size=d.size:=by simp[hcs];omega
            have hren:=r.renew (ob':=.cells (ak (xs++ys))) hn k1 (by simp) (fB w b' _) (λk ⟨d',el',h1,h2⟩=>by
             rw[hd] at h1;simp only[SJ,Obj.cells.injEq] at h1;obtain ⟨rfl,rfl,_⟩:=h1;exact ⟨_,_,hnew,by rw[hsz];exact h2⟩) (AObj.low_mono (Nat.le_succ _) (.cells _) (dX (by rw[fO,e3,e2];rfl))) (by simp) (λhx'=>by
             refine ⟨d.size,⟨_,_,hnew,hsz⟩,?_,?_⟩
             ·have g0:=VList.length hcv;rw[cY,List.length_append,g0,hfl,List.length_take,Nat.min_eq_left (by omega)]
              have hmul':=hmul;rw[hln] at hmul';simp only[Array.length_toList,hcs];omega
             ·rw[cY];refine VRow.append ?_ ?_
              ·rw[hfl];obtain ⟨l,v1,v2⟩:=VRow.list (VRow.take (len*i.size) hrow);refine VRow.of_list (VList.mono hx' _ _ v1) (λj y hj=>?_)
               have hj':=v2 j y hj;rw[Nat.zero_add] at hj' ⊢;rw[cW hd] at hj';rw[cW hnew,As (by omega) ?_]
               ·exact hj'
               ·have h1:=(List.getElem?_eq_some_iff.1 hj).1;have h2:=VList.length v1;simp at h2;rw[hln];omega
              ·rw[hfl]
               have:0+(List.take (len*i.size) cs).length=xs.length*i.size:=by
                rw[hln];simp;omega
               rw[this];exact zx hnew (by omega) (VList.mono hx' _ _ hcv))
            left
            refine ⟨.slice (some ⟨b',0,none⟩) (xs.length+ys.length) cap1,_,_,?_,hren.1,hren.2,?_⟩
            ·rw[hrun];simp only[Addr.add_mk,Nat.zero_add,hst];rfl
            ·simp only[VR];refine ⟨_,b',cap1,aN,by rw[hln],by rw[<-hln];exact hle,Nat.le_refl _,λb'' e=>⟨by simpa using e.symm,d.size,⟨_,_,hnew,hsz⟩,by omega⟩⟩
           ·rcases qq (ty:=ty) r hb hx ht hi htx hzv hzs h0 d2 d5' hxs hys g2 hle g1 hfew' with ⟨c0,c1,rest,cap3,w',p1,p2,p3,p4,p5,p6,p7,p8⟩|hask
            ·left
             have hk:=r.kill hn k1 (by simp)
             have hx1:=hk.2.1.ext
             obtain ⟨G',q1,q2,q3⟩:=oq hk.1 p8 (VList.mono hx1 _ _ p1) (VList.mono hx1 _ _ p2) p3 p4 p5 p6 (by
              rw[List.length_set];exact dX (by rw[fO,e3,e2];rfl))
             rw[List.length_set,hln] at q3;exact ⟨_,w',G',p7,q1,hk.2.1.trans q2,by rw[hln];exact q3⟩
            ·exact .inr hask
          ·cases hxs'
         ·cases hxs'
        ·cases h
       ·cases h
   ·cases h
end
end Go.Abs
