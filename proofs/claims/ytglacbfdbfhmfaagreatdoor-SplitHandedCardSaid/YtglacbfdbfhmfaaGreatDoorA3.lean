/- the machine: code and calls. Part of the proof of girandolelaw12.SplitHanded. -/
import Derived.Test.YtglacbfdbfhmfaaGreatDoorA2
import Derived.Laws.Externs
import Derived.Orders
import Derived.Recover
set_option linter.unusedVariables false
set_option linter.unusedSimpArgs false
namespace Go.Abs
structure Good (C:Cfg):Prop where
 ext : ∀ (f : FuncId) (fn : Func), C.P.funcs[f]? = some fn → fn.body.isNone = true → fn.name = "internal/bytealg.IndexByteString" →
  Extern.findNext fn=none/\Extern.find fn=some Extern.BytealgIndexByte.indexByte
 mixed:C.P.follows .mixedOrders=true
 glob:∀ i xs,C.glob i=some xs->aG 0 xs=true
section
variable {C:Cfg}{G:Gh}{H:Heap}{w:World}{tmps:List AV}{ca:Go.Act}{o:Oper}{a:AV}
def Dk (G:Gh)(w:World)(g:FuncId)(args:List AV)(d:Deferred):Prop:=d.target=.fn (.func g) #[]/\VList G w args d.args.toList
def vM (C:Cfg)(G:Gh)(s:St)(w:World)(o:Oper)(ca:Go.Act):OR->Prop
 | .val v s'=>(∃ val w' G',(execOp ca.eval o).run C.P w=.ok (.value val) w'/\Rel C G' s'.heap w'/\Step G s.heap w G' s'.heap w'/\VR G' w' v val)\/False
 | .skip s'=>∃ w' G',(execOp ca.eval o).run C.P w=.ok .skip w'/\Rel C G' s'.heap w'/\Step G s.heap w G' s'.heap w'
 | .call g args=>∃ vs:Array Value,(execOp ca.eval o).run C.P w=.ok (.enter g vs) w/\VList G w args vs.toList
 | .defer g args=>∃ d,(execOp ca.eval o).run C.P w=.ok (.defer d) w/\Dk G w g args d
 | .panic v=>∃ val,(execOp ca.eval o).run C.P w=.halt (.panic val) w/\VR G w v val
theorem sS (l:List UInt8)(c:UInt8):∀ (k:Nat) (m:List UInt8),l.drop k=m ->
  (match ((List.range' k m.length).find? λi=>l[i]! == c) with|some i=>(i:Int)|none=>-1)=indexByte c.toNat (m.map (·.toNat)) k:=by
 intro k m
 induction m generalizing k with
 | nil=>intro h;simp[indexByte]
 | cons x r ih =>
   intro h
   have hk:l[k]?=some x:=by
    have:=congrArg (·[0]?) h;simpa using this
   have hr:l.drop (k+1)=r:=by
    have:=congrArg (List.drop 1) h;simpa [List.drop_drop] using this
   have hx:l[k]! = x:=by simp[getElem!_def,hk]
   simp only[List.length_cons,List.range'_succ,List.find?_cons,hx,List.map_cons,indexByte]
   by_cases hc:x=c
   ·subst hc;simp
   ·have h1:(x == c)=false:=by simpa using hc
    have h2:¬ (x.toNat=c.toNat):=λh=>hc (UInt8.toNat_inj.1 h)
    rw[h1,if_neg h2];exact ih (k+1) hr
theorem tY {t:ByteArray}{s:List Nat}(h:t.data.toList.map (·.toNat)=s)(c:UInt8):firstIdx t c=indexByte c.toNat s 0:=by
 subst h;have:=sS t.data.toList c 0 t.data.toList (by simp)
 rw[<-this];unfold firstIdx;have hsz:t.size=t.data.toList.length:=by simp
 rw[hsz,List.range_eq_range']
 have:(λ(i:Nat)=>t[i]! == c)=(λ(i:Nat)=>t.data.toList[i]! == c):=by
  funext i
  congr 1
  by_cases hi:i<t.size
  ·have h2:i<t.data.toList.length:=by simpa using hi
   rw[getElem!_pos t i hi,getElem!_pos t.data.toList i h2];simp only[Array.getElem_toList];rfl
  ·have h2:¬ i<t.data.toList.length:=by simpa using hi
   rw[getElem!_neg t i hi,getElem!_neg t.data.toList i h2]
 rw[this];rfl
theorem qe (gd:Good C){f:FuncId}{args:List AV}{vs:Array Value}{s:St}{x:OR}(r:Rel C G s.heap w)(hv:VList G w args vs.toList)
  (h:dN C f args s=some x) (he:(execOp ca.eval o).run C.P w=(callFunc f vs).run C.P w):vM C G s w o ca x:=by
 unfold dN at h
 split at h
 ·cases h
 ·rename_i fn hf
  split at h
  ·cases h
  ·rename_i hname
   have hname' : (fn.name == "runtime.NumGoroutine") = false := by simpa using hname
   split at h
   ·rename_i hb
    split at h
    ·rename_i hn;obtain ⟨g1,g2⟩:=gd.ext f fn hf hb hn
     split at h
     ·rename_i t c
      split at h
      ·rename_i hc;simp only[SJ] at h;subst h
       left
       have hv':=hv;simp only[VList,VR] at hv';obtain ⟨v1,m1,e1,⟨tt,rfl,ht⟩,v2,m2,rfl,rfl,rfl⟩:=hv'
       have hvs:vs=#[.string tt,.int .u8 c]:=by
        apply Array.ext';rw[e1]
       refine ⟨.int .i64 (indexByte c.toNat t 0),w,G,?_,r,Step.refl _ _ _,by simp[VR]⟩
       rw[he,run_callFunc_extern hf hname' hb g1 g2,hvs,run_indexByte_string];have:=tY ht c.toNat.toUInt8
       have h2:(c.toNat.toUInt8).toNat=c.toNat:=by
        rw[Nat.toUInt8,UInt8.toNat_ofNat'];omega
       rw[h2] at this;rw[<-this];rfl
      ·cases h
     ·cases h
    ·cases h
   ·rename_i hb;simp only[SJ] at h;subst h;refine ⟨vs,?_,hv⟩;rw[he]
    have h1 : fn.name ≠ "runtime.NumGoroutine" := hname
    have h2:¬ fn.body=none:=λe=>hb (by rw[e];rfl)
    simp[callFunc,hf,h1,h2]
theorem Bf (gd:Good C){s:St}{c:Call}{x:OR}(r:Rel C G s.heap w)(ht:VList G w tmps ca.tmps.toList)(ho:o.op=.call c)
  (h:dy C tmps c s=some x):vM C G s w o ca x:=by
 unfold dy at h
 split at h
 ·cases h
 ·rename_i args hargs;have hav:=fM r ht hargs
  split at h
  ·rename_i f hc
   split at h
   ·rename_i g first capt hf
    have hfv:=bd r ht hf;simp only[VR] at hfv;obtain ⟨f',c',h1,h2,h3⟩:=hfv;refine qe gd (vs:=f'++c.args.map ca.eval++c') r ?_ h ?_
    ·simp only[Array.toList_append,Array.toList_map];exact VList.append (VList.append h2 hav) h3
    ·simp[execOp,ho,resolve,hc,Deferred.ofValue,h1,invoke]
   ·cases h
  ·rename_i rv name hc
   split at h
   ·rename_i t v hr;have hrv:=bd r ht hr;simp only[VR] at hrv;obtain ⟨y,h1,h2⟩:=hrv
    split at h
    ·rename_i i e hi hu
     split at h
     ·rename_i m hm
      split at h
      ·rename_i f hp hfn;refine qe gd (vs:=#[y]++c.args.map ca.eval) r ?_ h ?_
       ·simp only[Array.toList_append,Array.toList_map];simp only[List.cons_append,List.nil_append,VList];exact ⟨_,_,rfl,h2,hav⟩
       ·have hpath:m.path=#[]:=by simpa using hp
        have hdepth:∃ k,C.P.types.size+Made.depth=k+1:=⟨C.P.types.size+99,by simp[Made.depth]⟩
        obtain ⟨k,hk⟩:=hdepth
        have hmeth:(method (k+1) t y name).run C.P w=.ok (f,y) w:=by
         have hm' : i.methods.find? (λx=>x.name == name)=some m:=hm
         simp[method,fG hi,hm',hpath,follow,hfn,receiverAt,aE hu,Place.get]
        have hx:(#[Value.iface t y]++c.args.map ca.eval)[0]?=some (.iface t y):=by rw[Array.getElem?_append_left (by simp)];rfl
        have hex:(c.args.map ca.eval).extract 0 c.args.size=c.args.map ca.eval:=by
         apply Array.ext';simp[List.take_of_length_le]
        simp[execOp,ho,resolve,hc,h1,invoke];rw[hx];simp[callMethod,hk,hmeth,hex]
      ·cases h
     ·cases h
    ·cases h
   ·cases h
  ·cases h
theorem nT (gd:Good C){s:St}{f:FuncId}{x:OR}(r:Rel C G s.heap w)(ht:VList G w tmps ca.tmps.toList)
  (h:dB C f tmps o s=some x):vM C G s w o ca x:=by
 unfold dB at h
 split at h
 ·
  rename_i t p y ho
  split at h
  ·rename_i pv yv hp hy
   split at h
   ·rename_i s' hs;simp only[SJ] at h;subst h;obtain ⟨w',h1,h2,h3⟩:=oD r rfl (bd r ht hp) (bd r ht hy) hs;exact ⟨w',G,by simp[execOp,ho,h1],h2,h3⟩
   ·cases h
  ·cases h
 ·rename_i t m k y ho
  split at h
  ·rename_i mv kv yv hm hk hy
   split at h
   ·rename_i s' hs;simp only[SJ] at h;subst h;obtain ⟨w',h1,h2,h3⟩:=jS r rfl (bd r ht hm) (bd r ht hk) (bd r ht hy) hs;exact ⟨w',G,by simp[execOp,ho,h1],h2,h3⟩
   ·cases h
  ·cases h
 ·rename_i t m k y ho
  split at h
  ·rename_i mv kv yv hm hk hy
   split at h
   ·rename_i s' hs;simp only[SJ] at h;subst h;obtain ⟨w',h1,h2,h3⟩:=jS r rfl (bd r ht hm) (bd r ht hk) (bd r ht hy) hs;exact ⟨w',G,by simp[execOp,ho,h1],h2,h3⟩
   ·cases h
  ·cases h
 ·rename_i t m k ho
  split at h
  ·rename_i mv kv hm hk
   split at h
   ·rename_i v s' hs;simp only[SJ] at h;subst h;obtain ⟨val,w',h1,h2,h3,h4⟩:=tF r rfl (bd r ht hm) (bd r ht hk) hs;exact .inl ⟨val,w',G,by simp[execOp,ho,h1],h2,h3,h4⟩
   ·cases h
  ·cases h
 ·rename_i t m k y ho
  split at h
  ·rename_i mv kv yv hm hk hy
   split at h
   ·rename_i s' hs;simp only[SJ] at h;subst h;obtain ⟨w',h1,h2,h3⟩:=pb (t:=t) r rfl (bd r ht hm) (bd r ht hk) (bd r ht hy) hs;exact ⟨w',G,by simp[execOp,ho,h1],h2,h3⟩
   ·cases h
  ·cases h
 ·rename_i y ho
  split at h
  ·rename_i t b hy;simp only[SJ] at h;subst h;have hyv:=bd r ht hy;have hyv':=hyv;simp only[VR] at hyv';obtain ⟨z,h1,h2⟩:=hyv';exact ⟨ca.eval y,by simp[execOp,ho,h1,Instr.panic],hyv⟩
  ·cases h
 ·rename_i c ho
  split at h
  ·rename_i hc
   split at h
   ·rename_i x1 x2 hargs
    split at h
    ·rename_i t tx hat
     split at h
     ·rename_i htx
      split at h
      ·rename_i v s' hs;simp only[SJ] at h;subst h;have hav:=fM r ht hargs
       have hargs2:∃ p q,c.args=#[p,q]:=by
        have hl:=VList.length hav;simp at hl;generalize c.args=as at hl;obtain ⟨l⟩:=as
        rcases l with _|⟨p,_|⟨q,_|⟨q',rest⟩⟩⟩<;>simp at hl
        exact ⟨p,q,rfl⟩
       obtain ⟨p,q,hpq⟩:=hargs2;rw[hpq] at hav;simp only[List.map_cons,List.map_nil,VList] at hav;obtain ⟨u1,m1,e1,g1,u2,m2,e2,g2,g3⟩:=hav;simp only[List.cons.injEq] at e1;obtain ⟨rfl,rfl⟩:=e1;simp only[List.cons.injEq] at e2;obtain ⟨rfl,rfl⟩:=e2;have hat' : c.argTypes=#[t,tx]:=by apply Array.ext';rw[hat]
       have hop:o.op=.call { callee:=.builtin .append,args:=#[p,q],argTypes:=#[t,tx] }:=by
        rw[ho];congr 1;cases c
        simp only at hc hpq hat';rw[hc,hpq,hat']
       have happ:=AF (ty:=o.type) r g1 g2 htx hs
       have hexec:(execOp ca.eval o).run C.P w=((Builtin.append_ #[t,tx] o.type #[ca.eval p,ca.eval q]).run C.P w).andThen λv w'=>.ok (.value v) w':=by
        simp[execOp,hop,resolve,invoke,builtin]
       rcases happ with ⟨val,w',G',h1,h2,h3,h4⟩|hf
       ·left;exact ⟨val,w',G',by rw[hexec,h1];rfl,h2,h3,h4⟩
       ·exact hf.elim
      ·cases h
     ·cases h
    ·cases h
   ·cases h
  ·cases h
  ·exact Bf gd r ht ho h
 ·rename_i c ho
  split at h
  ·rename_i g args hc hargs;simp only[SJ] at h;subst h;have hav:=fM r ht hargs;refine ⟨{ target:=.fn (.func g) #[],args:=c.args.map ca.eval },?_,rfl,by simpa using hav⟩
   simp[execOp,ho,resolve,hc,Deferred.ofValue,Act.eval]
  ·cases h
 ·cases h
end
def DefersR (G:Gh)(w:World):List (FuncId×List AV)->List Deferred->Prop
 | [],l=>l=[]
 | (g,args)::r,l=>∃ d m,l=d::m/\Dk G w g args d/\DefersR G w r m
theorem DefersR.mono {G G' : Gh}{w w' : World}(h:Ext G w G' w'):∀ {l:List (FuncId×List AV)} {m:List Deferred},DefersR G w l m->DefersR G' w' l m
 | [],m,hm=>hm
 | (g,args)::r,m,hm=>by
   obtain ⟨d,m',h1,h2,h3⟩:=hm;exact ⟨d,m',h1,⟨h2.1,VList.mono h _ _ h2.2⟩,DefersR.mono h h3⟩
structure ActR (G:Gh)(w:World)(a:AAct)(ca:Go.Act):Prop where
 tmps:VList G w a.tmps ca.tmps.toList
 defers:DefersR G w a.defers ca.defers
theorem ActR.mono {G G' : Gh}{w w' : World}(h:Ext G w G' w'){a:AAct}{ca:Go.Act}(ha:ActR G w a ca):ActR G' w' a ca :=
 ⟨VList.mono h _ _ ha.tmps,DefersR.mono h ha.defers⟩
theorem ActR.put {G:Gh}{w:World}{tmps:List AV}{ds:List (FuncId×List AV)}{ca:Go.Act}(ht:VList G w tmps ca.tmps.toList)(hd:DefersR G w ds ca.defers)(dst:Option Tmp){v:AV}{val:Value}
  (hv:VR G w v val):ActR G w { tmps:=cR tmps dst v,defers:=ds } (ca.put dst val):=by
 cases dst with
 | none=>exact ⟨ht,hd⟩
 | some d =>
   refine ⟨?_,hd⟩;simp only[cR,Go.Act.put,Array.toList_setIfInBounds];exact VList.set d ht hv
theorem VR.undef {G:Gh}{w:World}:VR G w Abs.undef Go.undef:=by
 simp only[VR,VList];exact ⟨#[],rfl,rfl⟩
theorem VR.bool_of {G:Gh}{w:World}{a:AV}{b:Bool}(h:VR G w a (.bool b)):a=.bool b\/a=.top:=by
 cases a<;>simp_all [VR]
section
variable {C:Cfg}{G:Gh}{H:Heap}{w:World}{tmps:List AV}{ca:Go.Act}{o:Oper}{a:AV}
theorem ea {ops:Array Oper}{b:Bool}(ht:VList G w tmps ca.tmps.toList)(h:aI ops.toList tmps o=some b):Region.wanted o (yielded ops ca.tmps)=b:=by
 unfold aI at h;unfold Region.wanted
 split at h
 ·rename_i hg;rw[hg];simpa using h
 ·rename_i j want hg;rw[hg];simp only;have hy:∀ x,yielded ops ca.tmps j=x->(x == some want)=b->(yielded ops ca.tmps j == some want)=b:=λx h1 h2=>by rw[h1];exact h2
  split at h
  ·rename_i g hj;have hj' : ops[j]?=some g:=by simpa using hj
   split at h
   ·rename_i d hd;have hv:=VList.getD ht d
    split at h
    ·rename_i c hc;simp only[SJ] at h;refine hy (some c) ?_ (by rw[<-h];cases c<;>cases want<;>rfl)
     rw[hc] at hv;simp only[VR] at hv
     have hd2:ca.tmps[d]?=some (.bool c):=by
      rw[Array.getD_eq_getD_getElem?] at hv;cases hq:ca.tmps[d]? with
      | none=>rw[hq] at hv;simp[Go.undef] at hv
      | some q=>rw[hq] at hv;simpa using hv
     simp[yielded,hj',hd,hd2]
    ·cases h
    ·rename_i n1 n2;simp only[SJ] at h;refine hy none ?_ (by rw[<-h];rfl)
     unfold yielded;simp only[hj',Option.bind_some,hd]
     split
     ·rename_i b' hb';rw[Array.getD_eq_getD_getElem?,hb'] at hv
      rcases VR.bool_of hv with h1|h1
      ·exact absurd h1 (n1 _)
      ·exact absurd h1 n2
     ·rfl
   ·rename_i hd;simp only[SJ] at h;refine hy none ?_ (by rw[<-h];rfl)
    simp[yielded,hj',hd]
  ·rename_i hj;have hj' : ops[j]?=none:=by simpa using hj
   simp only[SJ] at h;refine hy none ?_ (by rw[<-h];rfl)
   simp[yielded,hj']
def ju (C:Cfg)(G:Gh)(H:Heap)(w:World)(res:CRes):Ending->World->Prop
 | .returned v,w'=>∃ a H' esc G',res=.ret a H' esc/\Rel C G' H' w'/\Step G H w G' H' w'/\VR G' w' a v
 | .panicked oa,w'=>∃ a H' esc G' v,res=.panic a H' esc/\Rel C G' H' w'/\Step G H w G' H' w'/\VR G' w' a v/\oa=[{ v,recovered:=false }]
 | .outgrown,_=>False
def ec (C:Cfg)(rec:FuncId->List AV->Heap->Option CRes):Prop :=
 ∀ f args H res,rec f args H=some res->∀ G w (vs:Array Value),Rel C G H w->VList G w args vs.toList->Calls C.P f vs w (ju C G H w res)
theorem y3 (gd:Good C){rec:FuncId->List AV->Heap->Option CRes}(hrec:ec C rec){s:St}{f:FuncId}{ds:List (FuncId×List AV)}{x:Except (AV×St) (AV×List (FuncId×List AV)×St)}
  {K:Go.Act->World->Prop} {Q:Exit->Go.Act->World->Prop} (r:Rel C G s.heap w) (ht:VList G w tmps ca.tmps.toList) (hd:DefersR G w ds ca.defers)
  (h:bC C rec f tmps ds o s=some x)
  (hv:∀ v ds' s',x=.ok (v,ds',s')->∀ G' w' ca',Rel C G' s'.heap w'->Step G s.heap w G' s'.heap w'->ActR G' w' { tmps:=cR tmps o.dst v,defers:=ds' } ca'->K ca' w')
  (hp:∀ v s',x=.error (v,s')->∀ G' w' val,Rel C G' s'.heap w'->Step G s.heap w G' s'.heap w'->VR G' w' v val->Q (.panic [{ v:=val,recovered:=false }]) ca w') :
  o.wp C.P ca w K Q\/(o.asks C.P ca w/\LetsOut Q):=by
 have put:∀ {G' : Gh} {w' : World} {v:AV} {val:Value},Ext G w G' w'->VR G' w' v val->ActR G' w' { tmps:=cR tmps o.dst v,defers:=ds } (ca.put o.dst val) :=
  λhx hv=>ActR.put (VList.mono hx _ _ ht) (DefersR.mono hx hd) o.dst hv
 unfold bC at h
 split at h
 ·
  split at h
  ·rename_i v hpure;simp only[SJ] at h;obtain ⟨val,w',G',h1,h2,h3,h4⟩:=Ay r ht hpure
   left
   unfold Oper.wp;rw[h1];exact hv v ds s h.symm G' w' _ h2 h3 (put h3.ext h4)
  ·cases h
 ·
  split at h
  ·rename_i v hread;simp only[SJ] at h;obtain ⟨val,h1,h2⟩:=yF r ht hread
   left
   unfold Oper.wp;rw[h1];exact hv v ds s h.symm G w _ r (Step.refl _ _ _) (put (Ext.refl _ _) h2)
  ·cases h
 ·
  split at h
  ·rename_i ob mk halloc;simp only[SJ] at h;obtain ⟨val,w',cv,h1,h2,h3,h4,h5,h6⟩:=t9 r ht halloc;have hnew:=r.newObj h2 (AObj.low_mono (Nat.le_succ _) ob h4) h5 h3
   left
   unfold Oper.wp;rw[h1];exact hv _ ds _ h.symm _ w' _ hnew.1 hnew.2 (put hnew.2.ext (h6 _ _ aN))
  ·cases h
 ·
  split at h
  ·rename_i v s' heff;simp only[SJ] at h
   rcases nT gd r ht heff with ⟨val,w',G',h1,h2,h3,h4⟩|hask
   ·left
    unfold Oper.wp;rw[h1];exact hv v ds s' h.symm G' w' _ h2 h3 (put h3.ext h4)
   ·exact hask.elim
  ·rename_i s' heff;simp only[SJ] at h;obtain ⟨w',G',h1,h2,h3⟩:=nT gd r ht heff
   left
   unfold Oper.wp;rw[h1];exact hv undef ds s' h.symm G' w' _ h2 h3 (put h3.ext VR.undef)
  ·rename_i v heff;simp only[SJ] at h;obtain ⟨val,h1,h2⟩:=nT gd r ht heff
   left
   unfold Oper.wp;rw[h1];exact hp v s h.symm G w val r (Step.refl _ _ _) h2
  ·rename_i g args heff;simp only[SJ] at h;obtain ⟨d,h1,h2⟩:=nT gd r ht heff
   left
   unfold Oper.wp;rw[h1];exact hv undef _ s h.symm G w _ r (Step.refl _ _ _) (ActR.put (ca:={ ca with defers:=d::ca.defers }) (ds:=(g,args)::ds) ht ⟨d,_,rfl,h2,hd⟩ o.dst VR.undef)
  ·rename_i g args heff;obtain ⟨vs,h1,h2⟩:=nT gd r ht heff
   split at h
   ·rename_i v H' esc hcall;simp only[SJ] at h
    left
    unfold Oper.wp;rw[h1,Oper.upon_enter];refine Calls.mono (hrec _ _ _ _ hcall G w vs r h2) (λe w' he=>?_)
    cases e with
    | returned val =>
      obtain ⟨a,H2,esc',G',e1,e2,e3,e4⟩:=he;simp only[CRes.ret.injEq] at e1;obtain ⟨rfl,rfl,rfl⟩:=e1;exact hv v ds _ h.symm G' w' _ e2 e3 (put e3.ext e4)
    | panicked oa =>
      obtain ⟨a,H2,esc',G',val,e1,e2⟩:=he;cases e1
    | outgrown=>exact False.elim he
   ·rename_i v H' esc hcall;simp only[SJ] at h
    left
    unfold Oper.wp;rw[h1,Oper.upon_enter];refine Calls.mono (hrec _ _ _ _ hcall G w vs r h2) (λe w' he=>?_)
    cases e with
    | returned val =>
      obtain ⟨a,H2,esc',G',e1,e2⟩:=he;cases e1
    | panicked oa =>
      obtain ⟨a,H2,esc',G',val,e1,e2,e3,e4,rfl⟩:=he;simp only[CRes.panic.injEq] at e1;obtain ⟨rfl,rfl,rfl⟩:=e1;exact hp v _ h.symm G' w' val e2 e3 e4
    | outgrown=>exact False.elim he
   ·cases h
  ·cases h
end
def gy (G:Gh)(w:World):AExit->Exit->Prop
 | .normal,e=>e=.normal
 | .exit id,e=>e=.exit id
 | .ret,e=>e=.ret
 | .panic v,e=>∃ val,e=.panic [{ v:=val,recovered:=false }]/\VR G w v val
def ActX (G:Gh)(w:World):AExit->AAct->Go.Act->Prop
 | .panic _,a,ca=>DefersR G w a.defers ca.defers
 | _,a,ca=>ActR G w a ca
theorem ActX.of {G:Gh}{w:World}{e:AExit}{a:AAct}{ca:Go.Act}(h:ActR G w a ca):ActX G w e a ca:=by
 cases e<;>first|exact h|exact h.defers
def Post (C:Cfg)(G:Gh)(H:Heap)(w:World)(x:AExit×AAct×St)(Q:Exit->Go.Act->World->Prop):Prop :=
 ∀ G' w' ca' e',Rel C G' x.2.2.heap w'->Step G H w G' x.2.2.heap w'->ActX G' w' x.1 x.2.1 ca'->gy G' w' x.1 e'->Q e' ca' w'
theorem Post.after {C:Cfg}{G G1:Gh}{H H1:Heap}{w w1:World}{x:AExit×AAct×St}{Q:Exit->Go.Act->World->Prop}(h:Post C G H w x Q)(hs:Step G H w G1 H1 w1):Post C G1 H1 w1 x Q :=
 λG' w' ca' e' h1 h2 h3 h4=>h G' w' ca' e' h1 (hs.trans h2) h3 h4
section
variable {C:Cfg}{w:World}{ca:Go.Act}
theorem ri (gd:Good C){rec:FuncId->List AV->Heap->Option CRes}(hrec:ec C rec){f:FuncId}{ops:Array Oper}{Q:Exit->Go.Act->World->Prop} :
  ∀ (rest:List Oper)(i:Nat)(G:Gh)(w:World)(ca:Go.Act)(a:AAct)(s:St)(x:AExit×AAct×St),ops.toList.drop i=rest->gh C rec f ops.toList rest a s=some x->Rel C G s.heap w->ActR G w a ca ->
    Post C G s.heap w x Q->wpOps C.P ops Q (List.range' i rest.length) ca w
 | [],i,G,w,ca,a,s,x,hr,h,r,ha,hp=>by
   simp only[gh,SJ] at h;subst h;simp only[List.length_nil,List.range'_zero,wpOps];exact hp G w ca .normal r (Step.refl _ _ _) ha rfl
 | o::rest,i,G,w,ca,a,s,x,hr,h,r,ha,hp=>by
   have hi:ops[i]?=some o:=by
    have:=congrArg (·[0]?) hr;simpa using this
   have hr' : ops.toList.drop (i+1)=rest:=by
    have:=congrArg (List.drop 1) hr;simpa [List.drop_drop] using this
   simp only[List.length_cons,List.range'_succ];rw[wpOps_cons];unfold wpOp;simp only[hi];unfold gh at h
   split at h
   ·cases h
   ·rename_i hw;rw[ea ha.tmps hw];simp only[Bool.false_eq_true,if_false];exact ri gd hrec rest (i+1) G w _ _ s x hr' h r (ActR.put ha.tmps ha.defers o.dst VR.undef) hp
   ·rename_i hw;rw[ea ha.tmps hw];simp only[if_true]
    split at h
    ·cases h
    ·rename_i v s' hst;simp only[SJ] at h;subst h;refine y3 gd hrec r ha.tmps ha.defers hst ?_ ?_
     ·intro v' ds' s2 e;cases e
     ·intro v' s2 e G' w' val h1 h2 h3;simp only[Except.error.injEq,PJ] at e;obtain ⟨rfl,rfl⟩:=e;exact hp G' w' ca _ h1 h2 (ha.mono h2.ext).defers ⟨val,rfl,h3⟩
    ·rename_i v ds s' hst;refine y3 gd hrec r ha.tmps ha.defers hst ?_ ?_
     ·intro v' ds' s2 e G' w' ca' h1 h2 h3;simp only[Except.ok.injEq,PJ] at e;obtain ⟨rfl,rfl,rfl⟩:=e;exact ri gd hrec rest (i+1) G' w' ca' _ s' x hr' h h1 h3 (hp.after h2)
     ·intro v' s2 e;cases e
theorem AD (gd:Good C){rec:FuncId->List AV->Heap->Option CRes}(hrec:ec C rec){f:FuncId}{id:Nat}{ops:Array Oper}{Q:Exit->Go.Act->World->Prop}{G:Gh}{a:AAct}{s:St}
  {x:AExit×AAct×St} (h:gh C rec f ops.toList ops.toList a s=some x) (r:Rel C G s.heap w) (ha:ActR G w a ca) (hp:Post C G s.heap w x Q):(Code.region id ops false).wp C.P Q ca w:=by
 refine wp_region ?_;rw[List.range_eq_range'];have:=ri gd hrec ops.toList 0 G w ca a s x (by simp) h r ha hp
 simpa using this
end
section
variable {C:Cfg}{t1 t2:List AV}
theorem opds_congr:∀ {l:List Operand},(∀ x∈l,cM C t1 x=cM C t2 x)->eV C t1 l=eV C t2 l
 | [],_=>rfl
 | o::r,h=>by simp only[eV,h o (by simp),opds_congr (l:=r) (λx hx=>h x (by simp[hx]))]
theorem opdsAt_congr:∀ {l:List (Nat×Operand)},(∀ x∈l.map (·.2),cM C t1 x=cM C t2 x)->dO C t1 l=dO C t2 l
 | [],_=>rfl
 | (i,o)::r,h=>by simp only[dO,h o (by simp),opdsAt_congr (l:=r) (λx hx=>h x (by simp at hx ⊢;exact .inr hx))]
theorem gS {x:Option Operand}(h:∀ y,x=some y->cM C t1 y=cM C t2 y):iy C t1 x=iy C t2 x:=by
 cases x with
 | none=>rfl
 | some y=>simp only[iy,h y rfl]
def Same (C:Cfg)(t1 t2:List AV)(o:Oper):Prop:=∀ x∈o.op.operands,cM C t1 x=cM C t2 x
theorem kM {f:FuncId}{o:Oper}(h:Same C t1 t2 o):bE C f t1 o=bE C f t2 o:=by
 unfold Same at h;unfold bE;cases ho:o.op<;>simp only[ho,Op.operands] at h ⊢
 case build t ps=>rw[opdsAt_congr (t1:=t1) (t2:=t2) (l:=ps.toList) (by simpa using h)]
 case buildSlice t n ps=>rw[opdsAt_congr (t1:=t1) (t2:=t2) (l:=ps.toList) (by simpa using h)]
 case makeFunc fn a b =>
  rw[opds_congr (t1:=t1) (t2:=t2) (l:=a.toList) (λx hx=>h x (by simp at hx ⊢;exact .inl hx)),opds_congr (t1:=t1) (t2:=t2) (l:=b.toList) (λx hx=>h x (by simp at hx ⊢;exact .inr hx))]
 case slice t x l hh m =>
  rw[h x (by simp),gS (t1:=t1) (t2:=t2) (x:=l) (λy hy=>h y (by simp[hy])),gS (t1:=t1) (t2:=t2) (x:=hh) (λy hy=>h y (by simp[hy])),
   gS (t1:=t1) (t2:=t2) (x:=m) (λy hy=>h y (by simp[hy]))]
 case call c =>
  rw[opds_congr (t1:=t1) (t2:=t2) (l:=c.args.toList) (λx hx=>h x (by simp[Call.operands] at hx ⊢;exact .inr hx))]
 all_goals first
  | rfl
  | (simp_all;done)
theorem jV {o:Oper}{H:Heap}(h:Same C t1 t2 o):dg C t1 o H=dg C t2 o H:=by
 unfold Same at h;unfold dg;cases ho:o.op<;>simp only[ho,Op.operands] at h ⊢
 all_goals first
  | rfl
  | (simp_all;done)
theorem jt {f:FuncId}{o:Oper}{L:Nat}(h:Same C t1 t2 o):bS C f t1 o L=bS C f t2 o L:=by
 unfold Same at h;unfold bS;cases ho:o.op<;>simp only[ho,Op.operands] at h ⊢
 case buildSlice t n ps=>rw[opdsAt_congr (t1:=t1) (t2:=t2) (l:=ps.toList) (by simpa using h)]
 case makeMap t r=>rw[gS (t1:=t1) (t2:=t2) (x:=r) (λy hy=>h y (by simp[hy]))]
 all_goals first
  | rfl
  | (simp_all;done)
theorem oL {c:Call}{s:St}(h:∀ x∈c.operands,cM C t1 x=cM C t2 x):dy C t1 c s=dy C t2 c s:=by
 unfold dy;rw[opds_congr (t1:=t1) (t2:=t2) (l:=c.args.toList) (λx hx=>h x (by simp[Call.operands] at hx ⊢;exact .inr hx))]
 cases hc:c.callee with
 | value f=>simp only[h f (by simp[Call.operands,hc])]
 | invoke r name=>simp only[h r (by simp[Call.operands,hc])]
 | builtin b=>rfl
theorem tB {f:FuncId}{o:Oper}{s:St}(h:Same C t1 t2 o):dB C f t1 o s=dB C f t2 o s:=by
 unfold Same at h;unfold dB;cases ho:o.op<;>simp only[ho,Op.operands] at h ⊢
 case call c =>
  rw[opds_congr (t1:=t1) (t2:=t2) (l:=c.args.toList) (λx hx=>h x (by simp[Call.operands] at hx ⊢;exact .inr hx)),oL h]
 case defer c =>
  rw[opds_congr (t1:=t1) (t2:=t2) (l:=c.args.toList) (λx hx=>h x (by simp[Call.operands] at hx ⊢;exact .inr hx))]
 all_goals first
  | rfl
  | (simp_all;done)
theorem ka {rec:FuncId->List AV->Heap->Option CRes}{f:FuncId}{o:Oper}{s:St}{ds:List (FuncId×List AV)}(h:Same C t1 t2 o):bC C rec f t1 ds o s=bC C rec f t2 ds o s:=by
 unfold bC;rw[kM h,jV h,jt h,tB h]
theorem o6 {rec:FuncId->List AV->Heap->Option CRes}{f:FuncId}{o:Oper}{s s' : St}{v:AV}{tmps:List AV}(h:bC C rec f tmps [] o s=some (.ok (v,[],s')))
  (ds:List (FuncId×List AV)):bC C rec f tmps ds o s=some (.ok (v,ds,s')):=by
 unfold bC at h ⊢
 repeat' split at h
 all_goals first
  | (cases h;done)
  | (simp_all;done)
theorem jP {rec:FuncId->List AV->Heap->Option CRes}{f:FuncId}{o:Oper}{s s' : St}{v:AV}{tmps:List AV}(h:bC C rec f tmps [] o s=some (.error (v,s')))
  (ds:List (FuncId×List AV)):bC C rec f tmps ds o s=some (.error (v,s')):=by
 unfold bC at h ⊢
 repeat' split at h
 all_goals first
  | (cases h;done)
  | (simp_all;done)
def Agree (ops:List Oper)(t1 t2:List AV)(o:Oper):Prop :=
 (∀ t,Operand.tmp t∈o.op.operands->t1.getD t undef=t2.getD t undef) /\
 (∀ j w g d,o.guard=some (j,w)->ops[j]?=some g->g.dst=some d->t1.getD d undef=t2.getD d undef)
theorem Agree.same {ops:List Oper}{o:Oper}(h:Agree ops t1 t2 o):Same C t1 t2 o:=by
 intro x hx;cases x with
 | tmp t=>simp only[cM,h.1 t hx]
 | const v=>rfl
 | global i=>rfl
 | func f=>rfl
theorem Agree.wanted {ops:List Oper}{o:Oper}(h:Agree ops t1 t2 o):aI ops t1 o=aI ops t2 o:=by
 unfold aI;cases hg:o.guard with
 | none=>rfl
 | some p =>
   obtain ⟨j,w⟩:=p;simp only;cases hj:ops[j]? with
   | none=>rfl
   | some g =>
     simp only;cases hd:g.dst with
     | none=>rfl
     | some d =>
       simp only[h.2 j w g d hg hj hd]
end
theorem jM {acc:List Nat}:∀ {es:List Edge} {k:Nat},(ie acc es).testBit k=true->∃ e∈es,Region.binds .any e=true/\(k=e.on\/(acc.getD e.on 0).testBit k=true)
 | [],k,h=>by simp[ie] at h
 | e::r,k,h=>by
   unfold ie at h
   split at h
   ·rename_i hb;rw[Nat.testBit_or,Nat.testBit_or,Bool.or_eq_true,Bool.or_eq_true] at h
    rcases h with (h|h)|h
    ·obtain ⟨e',h1,h2,h3⟩:=jM h;exact ⟨e',by simp[h1],h2,h3⟩
    ·rw[Nat.testBit_two_pow] at h;exact ⟨e,by simp,hb,.inl (by simpa using (of_decide_eq_true h).symm)⟩
    ·exact ⟨e,by simp,hb,.inr h⟩
   ·obtain ⟨e',h1,h2,h3⟩:=jM h;exact ⟨e',by simp[h1],h2,h3⟩
theorem befL_old:∀ (ops:List Oper) (acc:List Nat) (i:Nat),i<acc.length->(befL ops acc).getD i 0=acc.getD i 0
 | [],acc,i,h=>rfl
 | o::r,acc,i,h=>by
   unfold befL;rw[befL_old r _ i (by simp;omega)]
   simp[List.getD,List.getElem?_append_left h]
theorem befL_at:∀ (ops:List Oper) (acc:List Nat) (i:Nat) (o:Oper),ops[i]?=some o->∃ pre:List Nat,pre.length=acc.length+i/\(befL ops acc).getD (acc.length+i) 0=ie pre o.after.toList /\
  ∀ j,j<acc.length+i->pre.getD j 0=(befL ops acc).getD j 0
 | [],acc,i,o,h=>by simp at h
 | o'::r,acc,0,o,h=>by
   simp at h;subst h;refine ⟨acc,by simp,?_,λj hj=>?_⟩
   ·unfold befL;rw[befL_old r _ _ (by simp)]
    simp[List.getD]
   ·rw[befL_old (o'::r) acc j (by simpa using hj)]
 | o'::r,acc,i+1,o,h=>by
   simp at h;obtain ⟨pre,h1,h2,h3⟩:=befL_at r (acc++[ie acc o'.after.toList]) i o h;refine ⟨pre,by simp at h1;omega,?_,λj hj=>?_⟩
   ·unfold befL;rw[show acc.length+(i+1)=(acc++[ie acc o'.after.toList]).length+i by simp;omega]
    exact h2
   ·rw[h3 j (by simp;omega)];rfl
theorem nR {ops:List Oper}{L:Nat->Prop}(hc:∀ j o,ops[j]?=some o->L j->∀ e∈o.after.toList,Region.binds .any e=true->L e.on) :
  ∀ (i:Nat)(o:Oper),ops[i]?=some o->(∀ e∈o.after.toList,Region.binds .any e=true->L e.on)->∀ k,((befL ops []).getD i 0).testBit k=true->L k:=by
 intro i
 induction i using Nat.strongRecOn with
 | _ i ih =>
   intro o ho hl k hk;obtain ⟨pre,h1,h2,h3⟩:=befL_at ops [] i o ho;simp only[List.length_nil,Nat.zero_add] at h1 h2 h3;rw[h2] at hk;obtain ⟨e,e1,e2,e3⟩:=jM hk
   rcases e3 with e3|e3
   ·rw[e3];exact hl e e1 e2
   ·rcases Nat.lt_or_ge e.on i with h4|h4
    ·rw[h3 _ h4] at e3;have hlt:i<ops.length:=(List.getElem?_eq_some_iff.1 ho).1;have hon:ops[e.on]?=some (ops[e.on]'(by omega)):=List.getElem?_eq_getElem (by omega)
     exact ih e.on h4 _ hon (hc e.on _ hon (hl e e1 e2)) k e3
    ·rw[List.getD,List.getElem?_eq_none (by omega)] at e3
     simp at e3
def pq (ops:List Oper)(o:Oper):List Tmp :=
 (o.op.operands.toList.filterMap λx=>match x with | .tmp t=>some t|_=>none) ++
 (match o.guard with
  | some (j,_)=>match ops[j]? with
    | some g=>g.dst.toList
    | none=>[]
  | none=>[])
theorem sW {ops:List Oper}{o:Oper}{t1 t2:List AV}(h:∀ t∈pq ops o,t1.getD t undef=t2.getD t undef):Agree ops t1 t2 o:=by
 refine ⟨λt ht=>h t ?_,λj w g d hg hj hd=>h d ?_⟩
 ·unfold pq;rw[List.mem_append];left;rw[List.mem_filterMap];exact ⟨.tmp t,by simpa using ht,rfl⟩
 ·unfold pq;rw[List.mem_append];right;simp[hg,hj,hd]
def iR (C:Cfg)(f:FuncId)(ops:List Oper)(M:List Nat)(j k:Nat)(oj ok:Oper):Bool :=
 (match ok.dst with
  | none=>true
  | some d=>(!(pq ops oj).contains d||(if k<j then (M.getD j 0).testBit k else (M.getD k 0).testBit j)) &&
    (!(oj.dst == some d)||decide (j<k)||(M.getD j 0).testBit k)) &&
 (!(decide (aD C f oj=.eff)&&decide (aD C f ok=.eff))||decide (j<k)||(M.getD j 0).testBit k)
def cV (C:Cfg)(f:FuncId)(ops:List Oper):Bool :=
 let M:=befL ops []
 (List.range ops.length).all λj=>match ops[j]? with
  | none=>true
  | some oj=>oj.after.toList.all (λe=>!Region.binds .any e||decide (e.on<j)) &&
    (List.range ops.length).all λk=>match ops[k]? with
     | none=>true
     | some ok=>k == j||iR C f ops M j k oj ok
section
variable {C:Cfg}{f:FuncId}{ops:List Oper}
theorem pe (h:cV C f ops=true){j:Nat}{o:Oper}(hj:ops[j]?=some o){e:Edge}(he:e∈o.after.toList)(hb:Region.binds .any e=true):e.on<j:=by
 simp only[cV,List.all_eq_true,List.mem_range] at h;have:=h j (List.getElem?_eq_some_iff.1 hj).1;rw[hj] at this;simp only[Bool.and_eq_true,List.all_eq_true,Bool.or_eq_true,Bool.not_eq_true',decide_eq_true_eq] at this
 rcases this.1 e he with h1|h1
 ·rw[hb] at h1;cases h1
 ·exact h1
theorem fW (h:cV C f ops=true){j k:Nat}{oj ok:Oper}(hj:ops[j]?=some oj)(hk:ops[k]?=some ok)(hne:k≠j):iR C f ops (befL ops []) j k oj ok=true:=by
 simp only[cV,List.all_eq_true,List.mem_range] at h;have:=h j (List.getElem?_eq_some_iff.1 hj).1;rw[hj] at this;simp only[Bool.and_eq_true,List.all_eq_true,List.mem_range] at this;have:=this.2 k (List.getElem?_eq_some_iff.1 hk).1;rw[hk] at this;simp only[Bool.or_eq_true,beq_iff_eq] at this;exact this.resolve_left hne
theorem lS (h:cV C f ops=true){j k:Nat}{oj ok:Oper}{d:Tmp}(hj:ops[j]?=some oj)(hk:ops[k]?=some ok)(hne:k≠j)(hd:ok.dst=some d)(hl:d∈pq ops oj) :
  (k<j->((befL ops []).getD j 0).testBit k=true)/\(j<k->((befL ops []).getD k 0).testBit j=true):=by
 have:=fW h hj hk hne;unfold iR at this;rw[hd] at this;simp only[Bool.and_eq_true,Bool.or_eq_true,Bool.not_eq_true'] at this;have h1:=this.1.1;have hc:(pq ops oj).contains d=true:=by simpa using hl
 rw[hc] at h1;simp only[Bool.true_eq_false,false_or] at h1;refine ⟨λhlt=>by rwa [if_pos hlt] at h1,λhlt=>by rwa [if_neg (by omega)] at h1⟩
theorem GW (h:cV C f ops=true){j k:Nat}{oj ok:Oper}{d:Tmp}(hj:ops[j]?=some oj)(hk:ops[k]?=some ok)(hlt:k<j)(hd:ok.dst=some d)(hd' : oj.dst=some d) :
  ((befL ops []).getD j 0).testBit k=true:=by
 have:=fW h hj hk (by omega)
 unfold iR at this;rw[hd] at this;simp only[Bool.and_eq_true,Bool.or_eq_true,Bool.not_eq_true',decide_eq_true_eq] at this
 rcases this.1.2 with (h1|h1)|h1
 ·rw[hd'] at h1;simp at h1
 ·omega
 ·exact h1
theorem tf (h:cV C f ops=true){j k:Nat}{oj ok:Oper}(hj:ops[j]?=some oj)(hk:ops[k]?=some ok)(hlt:k<j)(hd:aD C f oj=.eff)(hd' : aD C f ok=.eff) :
  ((befL ops []).getD j 0).testBit k=true:=by
 have:=fW h hj hk (by omega)
 unfold iR at this;simp only[Bool.and_eq_true,Bool.or_eq_true,Bool.not_eq_true',decide_eq_true_eq,hd,hd'] at this
 rcases this.2 with (h1|h1)|h1
 ·simp at h1
 ·omega
 ·exact h1
end
inductive DStep (C:Cfg) (rec:FuncId->List AV->Heap->Option CRes) (f:FuncId) (ops:List Oper) (M:List Nat) (k:Nat) (o:Oper) (d d' : DS):AV->Prop where
 | unwanted (hw:aI ops d.tmps o=some false) (ht:d'.tmps=cR d.tmps o.dst undef) (hs:d'.st=d.st) (hl:d'.slot=if aD C f o=.alloc then d.slot+1 else d.slot)
  (hh:d'.hist=d.hist) (hr:d'.reads=d.reads):DStep C rec f ops M k o d d' undef
 | pure (v:AV) (hw:aI ops d.tmps o=some true) (hk:aD C f o=.pure) (hv:bE C f d.tmps o=some v) (ht:d'.tmps=cR d.tmps o.dst v) (hs:d'.st=d.st) (hl:d'.slot=d.slot)
  (hh:d'.hist=d.hist) (hr:d'.reads=d.reads):DStep C rec f ops M k o d d' v
 | read (v:AV) (hw:aI ops d.tmps o=some true) (hk:aD C f o=.read) (hv:dg C d.tmps o d.st.heap=some v)
  (hc:∀ e h,(e,h)∈d.hist->(M.getD k 0).testBit e=true\/dS C d.tmps o v h=true) (ht:d'.tmps=cR d.tmps o.dst v) (hs:d'.st=d.st) (hl:d'.slot=d.slot)
  (hh:d'.hist=d.hist) (hr:d'.reads=(k,d.tmps,v)::d.reads):DStep C rec f ops M k o d d' v
 | alloc (ob:AObj) (mk:Nat->AV) (hw:aI ops d.tmps o=some true) (hk:aD C f o=.alloc) (hv:bS C f d.tmps o d.st.heap.length=some (ob,mk)) (ht:d'.tmps=cR d.tmps o.dst (mk d.slot))
  (hs:d'.st={ d.st with heap:=d.st.heap.set d.slot ob }) (hl:d'.slot=d.slot+1) (hh:d'.hist=d.hist) (hr:d'.reads=d.reads):DStep C rec f ops M k o d d' (mk d.slot)
 | eff (v:AV) (s:St) (hw:aI ops d.tmps o=some true) (hk:aD C f o=.eff) (hv:bC C rec f d.tmps [] o d.st=some (.ok (v,[],s)))
  (hc:∀ j tm w,(j,tm,w)∈d.reads->(M.getD k 0).testBit j=true\/∃ oj,ops[j]?=some oj/\dS C tm oj w s.heap=true) (ht:d'.tmps=cR d.tmps o.dst v) (hs:d'.st=s) (hl:d'.slot=d.slot)
  (hh:d'.hist=(k,d.st.heap)::d.hist) (hr:d'.reads=d.reads):DStep C rec f ops M k o d d' v
theorem Bs {C:Cfg}{rec:FuncId->List AV->Heap->Option CRes}{f:FuncId}{ops:List Oper}{M:List Nat}{k:Nat}{o:Oper}{d d' : DS}(h:ed C rec f ops M k o d=some (.ok d')) :
  ∃ v,DStep C rec f ops M k o d d' v:=by
 unfold ed at h
 split at h
 ·cases h
 ·rename_i hw;simp only[SJ,Except.ok.injEq] at h;subst h;exact ⟨_,.unwanted hw rfl rfl rfl rfl rfl⟩
 ·rename_i hw
  split at h
  ·rename_i hk
   split at h
   ·rename_i v hv;simp only[SJ,Except.ok.injEq] at h;subst h;exact ⟨_,.pure v hw hk hv rfl rfl rfl rfl rfl⟩
   ·cases h
  ·rename_i hk
   split at h
   ·rename_i v hv
    split at h
    ·rename_i hc;simp only[SJ,Except.ok.injEq] at h;subst h;refine ⟨_,.read v hw hk hv (λe hh hm=>?_) rfl rfl rfl rfl rfl⟩
     have:=List.all_eq_true.1 hc (e,hh) hm;simpa using this
    ·cases h
   ·cases h
  ·rename_i hk
   split at h
   ·rename_i ob mk hv;simp only[SJ,Except.ok.injEq] at h;subst h;exact ⟨_,.alloc ob mk hw hk hv rfl rfl rfl rfl rfl⟩
   ·cases h
  ·rename_i hk
   split at h
   ·rename_i v s hv
    split at h
    ·rename_i hc;simp only[SJ,Except.ok.injEq] at h;subst h;refine ⟨_,.eff v s hw hk hv (λj tm w hm=>?_) rfl rfl rfl rfl rfl⟩
     have:=List.all_eq_true.1 hc (j,tm,w) hm;simp only[Bool.or_eq_true] at this
     rcases this with h1|h1
     ·exact .inl h1
     ·right
      split at h1
      ·rename_i oj hj;exact ⟨oj,hj,h1⟩
      ·cases h1
    ·cases h
   ·split at h<;>cases h
   ·cases h
theorem nL {C:Cfg}{rec:FuncId->List AV->Heap->Option CRes}{f:FuncId}{ops:List Oper}{M:List Nat}:∀ (rest:List Oper) (i:Nat) (d:DS) (r:Except (AV×St) DS),kj C rec f ops M i rest d=some r ->
  ∃ (D:Nat->DS) (K:Nat),D i=d/\i<=K/\K<=i+rest.length/\(∀ k,i<=k->k<K->∃ o v,rest[k-i]?=some o/\DStep C rec f ops M k o (D k) (D (k+1)) v) /\
    ((K=i+rest.length/\r=.ok (D K))\/(K<i+rest.length/\∃ o v s,rest[K-i]?=some o/\ed C rec f ops M K o (D K)=some (.error (v,s))/\r=.error (v,s)))
 | [],i,d,r,h=>by
   simp only[kj,SJ] at h;exact ⟨λ_=>d,i,rfl,Nat.le_refl _,by simp,λk h1 h2=>by omega,.inl ⟨by simp,h.symm⟩⟩
 | o::rest,i,d,r,h=>by
   unfold kj at h
   split at h
   ·rename_i d' hd;obtain ⟨D,K,h1,h2,h3,h4,h5⟩:=nL rest (i+1) d' r h;refine ⟨λk=>if k<=i then d else D k,K,by simp,by omega,by simp;omega,λk k1 k2=>?_,?_⟩
    ·rcases Nat.eq_or_lt_of_le k1 with e|e
     ·subst e;obtain ⟨v,hv⟩:=Bs hd;refine ⟨o,v,by simp,?_⟩
      simp only[Nat.le_refl,if_true];rw[if_neg (by omega),h1]
      exact hv
     ·obtain ⟨o',v,g1,g2⟩:=h4 k (by omega) k2
      refine ⟨o',v,?_,?_⟩
      ·rw[show k-i=(k-(i+1))+1 by omega];simpa using g1
      ·have e1:¬ k<=i:=by omega
       have e2:¬ k+1<=i:=by omega
       simp only[e1,e2,if_false];exact g2
    ·rcases h5 with ⟨g1,g2⟩|⟨g1,o',v,s,g2,g3,g4⟩
     ·left
      refine ⟨by simp;omega,?_⟩
      have e1:¬ K<=i:=by omega
      simp only[e1,if_false];exact g2
     ·right
      refine ⟨by simp;omega,o',v,s,?_,?_,g4⟩
      ·rw[show K-i=(K-(i+1))+1 by omega];simpa using g2
      ·have e1:¬ K<=i:=by omega
       simp only[e1,if_false];exact g3
   ·rename_i hne;have hr:ed C rec f ops M i o d=some r:=h;cases r with
    | ok d'=>exact absurd hr (hne d')
    | error e =>
      obtain ⟨v,s⟩:=e;exact ⟨λ_=>d,i,rfl,Nat.le_refl _,by simp,λk h1 h2=>by omega,.inr ⟨by simp,o,v,s,by simp,hr,rfl⟩⟩
structure Tr (C:Cfg)(rec:FuncId->List AV->Heap->Option CRes)(f:FuncId)(ops:List Oper)(D:Nat->DS)(V:Nat->AV)(K:Nat):Prop where
 le:K<=ops.length
 step:∀ k o,k<K->ops[k]?=some o->DStep C rec f ops (befL ops []) k o (D k) (D (k+1)) (V k)
section
variable {C:Cfg}{rec:FuncId->List AV->Heap->Option CRes}{f:FuncId}{ops:List Oper}{D:Nat->DS}{V:Nat->AV}{K:Nat}
theorem Tr.op (T:Tr C rec f ops D V K){k:Nat}(h:k<K):∃ o,ops[k]?=some o:=⟨_,List.getElem?_eq_getElem (by have:=T.le;omega)⟩
theorem Tr.put (T:Tr C rec f ops D V K){k:Nat}{o:Oper}(h:k<K)(ho:ops[k]?=some o):(D (k+1)).tmps=cR (D k).tmps o.dst (V k):=by
 have hs:=T.step k o h ho;generalize V k=v at hs;cases hs<;>assumption
theorem l6 {l:List AV}{d:Option Tmp}{v:AV}:(cR l d v).length=l.length:=by cases d<;>simp[cR]
theorem eG {l:List AV}{d:Option Tmp}{v:AV}{t:Tmp}(h:d≠some t):(cR l d v).getD t undef=l.getD t undef:=by
 cases d with
 | none=>rfl
 | some d =>
   have:d≠t:=λe=>h (by rw[e])
   simp[cR,List.getElem?_set_ne this]
theorem iJ {l m:List AV}{d:Option Tmp}{v:AV}{t:Tmp}(hl:l.length=m.length)(h:l.getD t undef=m.getD t undef):(cR l d v).getD t undef=(cR m d v).getD t undef:=by
 cases d with
 | none=>exact h
 | some d =>
   by_cases e:d=t
   ·subst e;simp only[cR,List.getD_eq_getElem?_getD,List.getElem?_set,if_true,hl]
   ·rw[eG (by simpa using e),eG (by simpa using e)];exact h
theorem Tr.len (T:Tr C rec f ops D V K):∀ {k:Nat},k<=K->(D k).tmps.length=(D 0).tmps.length
 | 0,_=>rfl
 | k+1,h=>by
   obtain ⟨o,ho⟩:=T.op (show k<K by omega)
   rw[T.put (by omega) ho,l6]
   exact T.len (by omega)
theorem Tr.slot_step (T:Tr C rec f ops D V K){k:Nat}{o:Oper}(h:k<K)(ho:ops[k]?=some o):(D (k+1)).slot=if aD C f o=.alloc then (D k).slot+1 else (D k).slot:=by
 have hs:=T.step k o h ho;generalize V k=v at hs;cases hs with
 | unwanted hw ht hs hl=>exact hl
 | pure v hw hk hv ht hs hl=>rw[hl,hk];rfl
 | read v hw hk hv hc ht hs hl=>rw[hl,hk];rfl
 | alloc ob mk hw hk hv ht hs hl=>rw[hl,hk];rfl
 | eff v s hw hk hv hc ht hs hl=>rw[hl,hk];rfl
theorem Tr.slot_mono (T:Tr C rec f ops D V K){j:Nat}:∀ {k:Nat},j<=k->k<=K->(D j).slot<=(D k).slot
 | 0,h,_=>by
   have:j=0:=by omega
   subst this;exact Nat.le_refl _
 | k+1,h,hk=>by
   rcases Nat.eq_or_lt_of_le h with e|e
   ·subst e;exact Nat.le_refl _
   ·obtain ⟨o,ho⟩:=T.op (show k<K by omega)
    have h1:=T.slot_mono (j:=j) (k:=k) (by omega) (by omega)
    have h2:=T.slot_step (by omega) ho
    split at h2<;>omega
theorem Tr.slot_lt (T:Tr C rec f ops D V K){j k:Nat}{o:Oper}(ho:ops[j]?=some o)(ha:aD C f o=.alloc)(h:j<k)(hk:k<=K):(D j).slot<(D k).slot:=by
 have h1:=T.slot_step (by omega) ho
 rw[ha] at h1;have h2:=T.slot_mono (j:=j+1) (k:=k) (by omega) hk
 simp only[if_true] at h1;omega
theorem Tr.hist (T:Tr C rec f ops D V K){e:Nat}{o:Oper}(ho:ops[e]?=some o)(hk:aD C f o=.eff)(hw:aI ops (D e).tmps o=some true):∀ {k:Nat},e<k->k<=K->(e,(D e).st.heap)∈(D k).hist
 | 0,h,_=>by omega
 | k+1,h,hkK=>by
   rcases Nat.eq_or_lt_of_le (Nat.le_of_lt_succ h) with e1|e1
   ·subst e1;have hs:=T.step e o (by omega) ho
    generalize V e=v at hs;cases hs with
    | unwanted hw'=>rw[hw] at hw';cases hw'
    | pure v hw' hk'=>rw[hk] at hk';cases hk'
    | read v hw' hk'=>rw[hk] at hk';cases hk'
    | alloc ob mk hw' hk'=>rw[hk] at hk';cases hk'
    | eff v s hw' hk' hv hc ht hs hl hh hr=>rw[hh];simp
   ·have ih:=T.hist ho hk hw (k:=k) e1 (by omega)
    obtain ⟨o',ho'⟩:=T.op (show k<K by omega)
    have hs:=T.step k o' (by omega) ho'
    generalize V k=v at hs;cases hs with
    | unwanted hw ht hs hl hh hr=>rw[hh];exact ih
    | pure v hw hk hv ht hs hl hh hr=>rw[hh];exact ih
    | read v hw hk hv hc ht hs hl hh hr=>rw[hh];exact ih
    | alloc ob mk hw hk hv ht hs hl hh hr=>rw[hh];exact ih
    | eff v s hw hk hv hc ht hs hl hh hr=>rw[hh];exact List.mem_cons_of_mem _ ih
theorem Tr.reads (T:Tr C rec f ops D V K){e:Nat}{o:Oper}(ho:ops[e]?=some o)(hk:aD C f o=.read)(hw:aI ops (D e).tmps o=some true):∀ {k:Nat},e<k->k<=K->(e,(D e).tmps,V e)∈(D k).reads
 | 0,h,_=>by omega
 | k+1,h,hkK=>by
   rcases Nat.eq_or_lt_of_le (Nat.le_of_lt_succ h) with e1|e1
   ·subst e1;have hs:=T.step e o (by omega) ho
    generalize V e=v at hs;cases hs with
    | unwanted hw'=>rw[hw] at hw';cases hw'
    | pure v hw' hk'=>rw[hk] at hk';cases hk'
    | read v hw' hk' hv hc ht hs hl hh hr=>rw[hr];simp
    | alloc ob mk hw' hk'=>rw[hk] at hk';cases hk'
    | eff v s hw' hk'=>rw[hk] at hk';cases hk'
   ·have ih:=T.reads ho hk hw (k:=k) e1 (by omega)
    obtain ⟨o',ho'⟩:=T.op (show k<K by omega)
    have hs:=T.step k o' (by omega) ho'
    generalize V k=v at hs;cases hs with
    | unwanted hw ht hs hl hh hr=>rw[hr];exact ih
    | pure v hw hk hv ht hs hl hh hr=>rw[hr];exact ih
    | read v hw hk hv hc ht hs hl hh hr=>rw[hr];exact List.mem_cons_of_mem _ ih
    | alloc ob mk hw hk hv ht hs hl hh hr=>rw[hr];exact ih
    | eff v s hw hk hv hc ht hs hl hh hr=>rw[hr];exact ih
def gb (ops:List Oper)(D:Nat->DS)(V:Nat->AV)(L:Nat->Bool):Nat->List AV
 | 0=>(D 0).tmps
 | i+1=>match L i,ops[i]? with
   | true,some o=>cR (gb ops D V L i) o.dst (V i)
   | _,_=>gb ops D V L i
theorem gY {L:Nat->Bool}:∀ (i:Nat),(gb ops D V L i).length=(D 0).tmps.length
 | 0=>rfl
 | i+1=>by
   unfold gb
   split
   ·rw[l6];exact gY i
   ·exact gY i
theorem cJ {L:Nat->Bool}{i:Nat}(h:L i=false):gb ops D V L (i+1)=gb ops D V L i:=by
 simp[gb,h]
theorem cg {L:Nat->Bool}{i:Nat}{o:Oper}(h:L i=true)(ho:ops[i]?=some o):gb ops D V L (i+1)=cR (gb ops D V L i) o.dst (V i):=by
 simp[gb,h,ho]
theorem kU {L L' : Nat->Bool}:∀ (i:Nat),(∀ j,j<i->L j=L' j)->gb ops D V L i=gb ops D V L' i
 | 0,_=>rfl
 | i+1,h=>by
   have ih:=kU (L:=L) (L':=L') i (λj hj=>h j (by omega))
   simp only[gb,h i (by omega),ih]
def Closed (ops:List Oper)(L:Nat->Bool):Prop:=∀ j o,ops[j]?=some o->L j=true->∀ e∈o.after.toList,Region.binds .any e=true->L e.on=true
theorem Closed.bef {L:Nat->Bool}(h:Closed ops L){j k:Nat}{o:Oper}(ho:ops[j]?=some o)(hl:L j=true)(hb:((befL ops []).getD j 0).testBit k=true):L k=true :=
 nR (L:=λi=>L i=true) h j o ho (h j o ho hl) k hb
theorem Closed.ready {L:Nat->Bool}(h:Closed ops L){j k:Nat}{o:Oper}(ho:ops[j]?=some o)(hl:∀ e∈o.after.toList,Region.binds .any e=true->L e.on=true)
  (hb:((befL ops []).getD j 0).testBit k=true):L k=true :=
 nR (L:=λi=>L i=true) h j o ho hl k hb
variable {L:Nat->Bool}{j:Nat}{oj:Oper}
theorem By (T:Tr C rec f ops D V K)(hs:cV C f ops=true)(hc:Closed ops L)(hj:ops[j]?=some oj)(hjK:j<K)(hLj:L j=false)
  (hr:∀ e∈oj.after.toList,Region.binds .any e=true->L e.on=true):Agree ops (gb ops D V L K) (D j).tmps oj:=by
 refine sW (λt ht=>?_)
 have hA:∀ i,i<=j->(gb ops D V L i).getD t undef=(D i).tmps.getD t undef:=by
  intro i
  induction i with
  | zero=>intro _;rfl
  | succ i ih =>
    intro hi;have ih:=ih (by omega)
    obtain ⟨o,ho⟩:=T.op (show i<K by omega)
    rw[T.put (by omega) ho]
    by_cases hd:o.dst=some t
    ·have hb:=(lS hs hj ho (by omega) hd ht).1 (by omega)
     have hl:=hc.ready hj hr hb;rw[cg hl ho];exact iJ ((gY i).trans (T.len (show i<=K by omega)).symm) ih
    ·rw[eG hd];cases hl:L i with
     | true=>rw[cg hl ho,eG hd];exact ih
     | false=>rw[cJ hl];exact ih
 have hB:∀ i,j<=i->i<=K->(gb ops D V L i).getD t undef=(gb ops D V L j).getD t undef:=by
  intro i
  induction i with
  | zero=>intro h _;have:j=0:=by omega
          subst this;rfl
  | succ i ih =>
    intro h1 h2
    rcases Nat.eq_or_lt_of_le h1 with e|e
    ·rw[e]
    ·have ih:=ih (by omega) (by omega)
     obtain ⟨o,ho⟩:=T.op (show i<K by omega)
     cases hl:L i with
     | false=>rw[cJ hl];exact ih
     | true =>
       rw[cg hl ho];have hne:i≠j:=λe=>by rw[e,hLj] at hl;cases hl
       rw[eG]
       ·exact ih
       ·intro hd;have hb:=(lS hs hj ho hne hd ht).2 (by omega)
        have:=hc.bef ho hl hb;rw[hLj] at this;cases this
 rw[hB K (by omega) (Nat.le_refl _),hA j (Nat.le_refl _)]
theorem Jj (T:Tr C rec f ops D V K)(hs:cV C f ops=true)(hc:Closed ops L)(hj:ops[j]?=some oj)(hjK:j<K)(hLj:L j=false){L' : Nat->Bool}(hL' : ∀ i,L' i=(L i||decide (i=j))) :
  gb ops D V L' K=cR (gb ops D V L K) oj.dst (V j):=by
 have hA:gb ops D V L' j=gb ops D V L j:=kU j (λi hi=>by rw[hL'];simp[Nat.ne_of_lt hi])
 have hB:∀ i,j<i->i<=K->gb ops D V L' i=cR (gb ops D V L i) oj.dst (V j):=by
  intro i
  induction i with
  | zero=>intro h;omega
  | succ i ih =>
    intro h1 h2
    rcases Nat.eq_or_lt_of_le (Nat.le_of_lt_succ h1) with e|e
    ·subst e;rw[cg (by rw[hL'];simp) hj,cJ hLj,hA]
    ·have ih:=ih e (by omega)
     obtain ⟨o,ho⟩:=T.op (show i<K by omega)
     cases hl:L i with
     | false =>
       rw[cJ hl,cJ (by rw[hL',hl];simp;omega)];exact ih
     | true =>
       rw[cg hl ho,cg (by rw[hL',hl];rfl) ho,ih]
       cases hd:oj.dst with
       | none=>rfl
       | some t =>
         cases hd' : o.dst with
         | none=>rfl
         | some u =>
           have hne:t≠u:=by
            intro e';subst e';have hb:=GW hs ho hj e hd hd';have:=hc.bef ho hl hb;rw[hLj] at this;cases this
           simp only[cR];exact List.set_comm _ _ hne
 exact hB K hjK (Nat.le_refl _)
theorem x7 (T:Tr C rec f ops D V K)(h:∀ i,i<K->L i=true):∀ i,i<=K->gb ops D V L i=(D i).tmps
 | 0,_=>rfl
 | i+1,hi=>by
   obtain ⟨o,ho⟩:=T.op (show i<K by omega)
   rw[cg (h i (by omega)) ho,T.put (by omega) ho,x7 T h i (by omega)]
end
mutual
theorem AV.same_eq:(a b:AV)->a.same b=true->a=b
 | .bool a,b,h=>by cases b<;>simp_all [AV.same]
 | .int j a,b,h=>by cases b<;>simp_all [AV.same]
 | .str a,b,h=>by cases b<;>simp_all [AV.same]
 | .nilp,b,h=>by cases b<;>simp_all [AV.same]
 | .ptr n o,b,h=>by cases b<;>simp_all [AV.same]
 | .iptr xs,b,h=>by cases b<;>simp[AV.same] at h;rw[sameL_eq _ _ h]
 | .nils,b,h=>by cases b<;>simp_all [AV.same]
 | .sl sz es l,b,h=>by cases b<;>simp[AV.same] at h;rw[h.1.1,sameL_eq _ _ h.1.2,h.2]
 | .rsl a1 a2 a3 a4 a5,b,h=>by cases b<;>simp_all [AV.same]
 | .nilmap,b,h=>by cases b<;>simp_all [AV.same]
 | .map n,b,h=>by cases b<;>simp_all [AV.same]
 | .func g x y,b,h=>by cases b<;>simp[AV.same] at h;rw[h.1.1,sameL_eq _ _ h.1.2,sameL_eq _ _ h.2]
 | .nilfunc,b,h=>by cases b<;>simp_all [AV.same]
 | .iface t v,b,h=>by cases b<;>simp[AV.same] at h;rw[h.1,AV.same_eq _ _ h.2]
 | .nilif,b,h=>by cases b<;>simp_all [AV.same]
 | .agg cs,b,h=>by cases b<;>simp[AV.same] at h;rw[sameL_eq _ _ h]
 | .tuple cs,b,h=>by cases b<;>simp[AV.same] at h;rw[sameL_eq _ _ h]
 | .top,b,h=>by cases b<;>simp_all [AV.same]
theorem sameL_eq:(l m:List AV)->sameL l m=true->l=m
 | [],[],_=>rfl
 | [],_::_,h=>by simp[sameL] at h
 | _::_,[],h=>by simp[sameL] at h
 | a::r,b::s,h=>by simp[sameL] at h;rw[AV.same_eq _ _ h.1,sameL_eq _ _ h.2]
end
theorem ma {C:Cfg}{tmps:List AV}{o:Oper}{v:AV}{h:Heap}(hs:dS C tmps o v h=true):dg C tmps o h=some v:=by
 unfold dS at hs
 split at hs
 ·rename_i w hw;rw[hw,AV.same_eq _ _ hs]
 ·cases hs
theorem Rel.tell {C:Cfg}{G:Gh}{H:Heap}{w:World}(r:Rel C G H w){n:Nat}{ob:AObj}(hn:H[n]?=some .gone)(hr:G.rho n=none\/∃ b,G.rho n=some (some b)/\ObjR G w b ob)
  (hlow:ob.low H.length=true) (hk:∀ g,ob ≠ .lin g):Rel C G (H.set n ob) w:=by
 have hlt:n<H.length:=(List.getElem?_eq_some_iff.1 hn).1
 have hget:∀ m o,(H.set n ob)[m]?=some o->(m=n/\o=ob)\/(m≠n/\H[m]?=some o):=by
  intro m o h
  by_cases e:m=n
  ·subst e;rw[List.getElem?_set_self hlt] at h;exact .inl ⟨rfl,by simpa using h.symm⟩
  ·rw[List.getElem?_set_ne (Ne.symm e)] at h;exact .inr ⟨e,h⟩
 exact {
  obj:=λm o ho b hb=>by
   rcases hget m o ho with ⟨e1,e2⟩|⟨e1,e2⟩
   ·subst e1;subst e2
    rcases hr with h|⟨b',h1,h2⟩
    ·rw[h] at hb;cases hb
    ·rw[h1] at hb;simp only[SJ] at hb;subst hb;exact h2
   ·exact r.obj m o e2 b hb
  dead:=λm o ho hd=>by
   rcases hget m o ho with ⟨e1,e2⟩|⟨e1,e2⟩
   ·subst e1
    rcases hr with h|⟨b',h1,h2⟩
    ·rw[h] at hd;cases hd
    ·rw[h1] at hd;simp at hd
   ·exact r.dead m o e2 hd
  out:=λm hm=>r.out m (by simpa using hm)
  lin:=λm g hg=>by
   rcases hget m _ hg with ⟨e1,e2⟩|⟨e1,e2⟩
   ·exact absurd e2.symm (hk g)
   ·exact r.lin m g e2
  lamE:=λm b hb=>by
   obtain ⟨g,hg⟩:=r.lamE m b hb;have:m≠n:=λe=>by rw[e,hn] at hg;cases hg
   exact ⟨g,by rw[List.getElem?_set_ne (Ne.symm this)];exact hg⟩
  rinj:=r.rinj
  linj:=r.linj
  rimm:=r.rimm
  immE:=r.immE
  low:=λm o ho=>by
   rw[List.length_set]
   rcases hget m o ho with ⟨e1,e2⟩|⟨e1,e2⟩
   ·subst e2;exact hlow
   ·exact r.low m o e2
  glob:=r.glob
  globS:=r.globS }
theorem Step.set_new {G0 G:Gh}{H0 H:Heap}{w0 w:World}(s:Step G0 H0 w0 G H w){n:Nat}{ob:AObj}(h:H0.length<=n):Step G0 H0 w0 G (H.set n ob) w where
 ext:=s.ext
 pend m hm h1 h2:=by
  obtain ⟨a1,a2,a3⟩:=s.pend m hm h1 h2;exact ⟨a1,a2,by rw[List.getElem?_set_ne (by omega)];exact a3⟩
 gone m b h1 h2:=by
  obtain ⟨a1,a2,a3⟩:=s.gone m b h1 h2;have hm:m<H0.length:=(List.getElem?_eq_some_iff.1 h1).1;exact ⟨a1,by rw[List.getElem?_set_ne (by omega)];exact a2,a3⟩
 len:=by rw[List.length_set];exact s.len
section
variable (C:Cfg)(rec:FuncId->List AV->Heap->Option CRes)(f:FuncId)(ops:List Oper)(D:Nat->DS)(V:Nat->AV)(K:Nat)(G0:Gh)(H0:Heap)(w0:World)(ds0:List (FuncId×List AV))
structure Inv (q:Nat)(L:Nat->Bool)(G:Gh)(w:World)(ca:Go.Act):Prop where
 qK:q<=K
 lt:∀ i,L i=true->i<K
 cl:Closed ops L
 effs:∀ e o,e<K->ops[e]?=some o->aD C f o=.eff->aI ops (D e).tmps o=some true->(e<q ↔ L e=true)
 rel:Rel C G (D q).st.heap w
 step:Step G0 H0 w0 G (D q).st.heap w
 slots:∀ i o,i<K->ops[i]?=some o->aD C f o=.alloc->H0.length<=(D i).slot/\(D i).slot<(D q).st.heap.length
 un:∀ i o,i<K->ops[i]?=some o->aD C f o=.alloc->(L i=false\/aI ops (D i).tmps o≠some true)->G.rho (D i).slot=none/\G.lam (D i).slot=none
 gone:∀ i o,i<K->ops[i]?=some o->aD C f o=.alloc->q<=i->(D q).st.heap[(D i).slot]?=some .gone
 pend:∀ i o ob mk,i<q->ops[i]?=some o->aD C f o=.alloc->aI ops (D i).tmps o=some true->bS C f (D i).tmps o (D i).st.heap.length=some (ob,mk)->L i=false ->
  (D q).st.heap[(D i).slot]?=some ob
 made:∀ i o ob mk,q<=i->i<K->ops[i]?=some o->aD C f o=.alloc->aI ops (D i).tmps o=some true->bS C f (D i).tmps o (D i).st.heap.length=some (ob,mk)->L i=true ->
  ∃ b,G.rho (D i).slot=some (some b)/\ObjR G w b ob
 tmps:VList G w (gb ops D V L K) ca.tmps.toList
 defs:DefersR G w ds0 ca.defers
end
section
variable {C:Cfg}{rec:FuncId->List AV->Heap->Option CRes}{f:FuncId}{ops:List Oper}{D:Nat->DS}{V:Nat->AV}{K:Nat}{G0:Gh}{H0:Heap}{w0:World}{ds0:List (FuncId×List AV)}
variable {q:Nat}{L:Nat->Bool}{G:Gh}{w:World}{ca:Go.Act}
theorem t8 {o:Oper}{tmps:List AV}{n:Nat}{ob:AObj}{mk:Nat->AV}(h:bS C f tmps o n=some (ob,mk)):ob.low n=true/\∀ g,ob ≠ .lin g:=by
 unfold bS at h
 split at h
 ·split at h
  ·rename_i z hz;simp only[SJ,PJ] at h;obtain ⟨rfl,rfl⟩:=h;exact ⟨bO (Nat.zero_le _) _ (AV.low_cells (eh hz).2),by simp⟩
  ·cases h
 ·split at h
  ·split at h
   ·rename_i hc;simp only[SJ,PJ] at h;obtain ⟨rfl,rfl⟩:=h;exact ⟨AV.low_cells hc.2,by simp⟩
   ·cases h
  ·cases h
 ·split at h
  ·simp only[SJ,PJ] at h;obtain ⟨rfl,rfl⟩:=h;exact ⟨rfl,by simp⟩
  ·simp only[SJ,PJ] at h;obtain ⟨rfl,rfl⟩:=h;exact ⟨rfl,by simp⟩
  ·cases h
 ·split at h
  ·split at h
   ·rename_i hz _ _
    split at h
    ·simp only[SJ,PJ] at h;obtain ⟨rfl,rfl⟩:=h;exact ⟨dX (ft (AV.low_mono (Nat.zero_le _) _ (eh hz).2) _),by simp⟩
    ·cases h
   ·cases h
  ·cases h
 ·split at h
  ·split at h
   ·split at h
    ·split at h
     ·rename_i hl;simp only[SJ,PJ] at h;obtain ⟨rfl,rfl⟩:=h;exact ⟨dX hl,by simp⟩
     ·cases h
    ·cases h
   ·cases h
  ·cases h
 ·cases h
theorem Inv.tell (T:Tr C rec f ops D V K)(I:Inv C f ops D V K G0 H0 w0 ds0 q L G w ca)(hq:q<K)
  (hne:∀ o,ops[q]?=some o->aD C f o=.eff->aI ops (D q).tmps o=some true->False):Inv C f ops D V K G0 H0 w0 ds0 (q+1) L G w ca:=by
 obtain ⟨o,ho⟩:=T.op hq
 have heffs:∀ e o,e<K->ops[e]?=some o->aD C f o=.eff->aI ops (D e).tmps o=some true->(e<q+1 ↔ L e=true):=λe o' h1 h2 h3 h4=>by
  rw[<-I.effs e o' h1 h2 h3 h4];have:e≠q:=λe'=>by subst e';exact hne o' h2 h3 h4
  omega
 have hsame:(D (q+1)).st=(D q).st->(∀ ob mk,aD C f o=.alloc->aI ops (D q).tmps o=some true->bS C f (D q).tmps o (D q).st.heap.length=some (ob,mk)->False) ->
   Inv C f ops D V K G0 H0 w0 ds0 (q+1) L G w ca:=λh hno=>{
  qK:=hq
  lt:=I.lt
  cl:=I.cl
  effs:=heffs
  rel:=by rw[h];exact I.rel
  step:=by rw[h];exact I.step
  slots:=by rw[h];exact I.slots
  un:=I.un
  gone:=λi o' h1 h2 h3 h4=>by rw[h];exact I.gone i o' h1 h2 h3 (by omega)
  pend:=λi o' ob mk h1 h2 h3 h4 h5 h6=>by
   rw[h]
   rcases Nat.eq_or_lt_of_le (Nat.le_of_lt_succ h1) with e|e
   ·subst e;rw[ho] at h2;simp only[SJ] at h2;subst h2;exact (hno ob mk h3 h4 h5).elim
   ·exact I.pend i o' ob mk e h2 h3 h4 h5 h6
  made:=λi o' ob mk h1 h2 h3 h4 h5 h6 h7=>I.made i o' ob mk (by omega) h2 h3 h4 h5 h6 h7
  tmps:=I.tmps
  defs:=I.defs }
 have hs:=T.step q o hq ho;generalize V q=v at hs;cases hs with
 | unwanted hw ht hs hl hh hr=>exact hsame hs (λ_ _ _ hw' _=>by rw[hw] at hw';cases hw')
 | pure v hw hk hv ht hs hl hh hr=>exact hsame hs (λ_ _ hk' _ _=>by rw[hk] at hk';cases hk')
 | read v hw hk hv hc ht hs hl hh hr=>exact hsame hs (λ_ _ hk' _ _=>by rw[hk] at hk';cases hk')
 | eff v s hw hk hv hc ht hs hl hh hr=>exact (hne o ho hk hw).elim
 | alloc ob mk hw hk hv ht hs hl hh hr =>
   have hgone:=I.gone q o hq ho hk (Nat.le_refl _);obtain ⟨hlow,hlin⟩:=t8 hv;obtain ⟨hsl,_⟩:=I.slots q o hq ho hk;have hheap:(D (q+1)).st.heap=(D q).st.heap.set (D q).slot ob:=by rw[hs]
   have hslne:∀ i o',i<K->ops[i]?=some o'->aD C f o'=.alloc->i≠q->(D i).slot≠(D q).slot:=by
    intro i o' h1 h2 h3 h4
    rcases Nat.lt_or_gt_of_ne h4 with h|h
    ·have:=T.slot_lt h2 h3 h (by omega);omega
    ·have:=T.slot_lt ho hk h (by omega);omega
   have hlt:(D q).slot<(D q).st.heap.length:=(List.getElem?_eq_some_iff.1 hgone).1
   exact {
    qK:=hq
    lt:=I.lt
    cl:=I.cl
    effs:=heffs
    rel:=by
     rw[hheap];refine I.rel.tell hgone ?_ hlow hlin;cases hL:L q with
     | false=>exact .inl (I.un q o hq ho hk (.inl hL)).1
     | true=>exact .inr (I.made q o ob mk (Nat.le_refl _) hq ho hk hw hv hL)
    step:=by rw[hheap];exact I.step.set_new hsl
    slots:=λi o' h1 h2 h3=>by rw[hheap,List.length_set];exact I.slots i o' h1 h2 h3
    un:=I.un
    gone:=λi o' h1 h2 h3 h4=>by
     rw[hheap,List.getElem?_set_ne (Ne.symm (hslne i o' h1 h2 h3 (by omega)))]
     exact I.gone i o' h1 h2 h3 (by omega)
    pend:=λi o' ob' mk' h1 h2 h3 h4 h5 h6=>by
     rw[hheap]
     rcases Nat.eq_or_lt_of_le (Nat.le_of_lt_succ h1) with e|e
     ·subst e;rw[ho] at h2;simp only[SJ] at h2;subst h2;rw[hv] at h5;simp only[SJ,PJ] at h5;rw[List.getElem?_set_self hlt,h5.1]
     ·rw[List.getElem?_set_ne (Ne.symm (hslne i o' (by omega) h2 h3 (by omega)))]
      exact I.pend i o' ob' mk' e h2 h3 h4 h5 h6
    made:=λi o' ob' mk' h1 h2 h3 h4 h5 h6 h7=>I.made i o' ob' mk' (by omega) h2 h3 h4 h5 h6 h7
    tmps:=I.tmps
    defs:=I.defs }
theorem Inv.tellTo (T:Tr C rec f ops D V K):∀ (n:Nat) {q:Nat},Inv C f ops D V K G0 H0 w0 ds0 q L G w ca->q+n<=K ->
  (∀ e o,q<=e->e<q+n->ops[e]?=some o->aD C f o=.eff->aI ops (D e).tmps o=some true->False)->Inv C f ops D V K G0 H0 w0 ds0 (q+n) L G w ca
 | 0,q,I,_,_=>I
 | n+1,q,I,h,hne=>by
   have I':=I.tell T (by omega) (λo ho hk hw=>hne q o (Nat.le_refl _) (by omega) ho hk hw)
   have:=Inv.tellTo T n I' (by omega) (λe o h1 h2=>hne e o (by omega) (by omega))
   rw[show q+(n+1)=q+1+n by omega];exact this
theorem Inv.exec (T:Tr C rec f ops D V K)(I:Inv C f ops D V K G0 H0 w0 ds0 q L G w ca){j q' : Nat}{oj:Oper}{L' : Nat->Bool}{G' : Gh}{w' : World}{ca' : Go.Act}(hj:ops[j]?=some oj)(hjK:j<K)
  (hLj:L j=false) (hr:∀ e∈oj.after.toList,Region.binds .any e=true->L e.on=true) (hL' : ∀ i,L' i=(L i||decide (i=j)))
  (hna:aD C f oj=.alloc->aI ops (D j).tmps oj=some true->False)
  (hcase:(q'=q/\(aD C f oj=.eff->aI ops (D j).tmps oj=some true->False))\/(q=j/\q'=j+1/\aD C f oj=.eff/\aI ops (D j).tmps oj=some true))
  (rel' : Rel C G' (D q').st.heap w') (st:Step G (D q).st.heap w G' (D q').st.heap w') (tm:VList G' w' (gb ops D V L' K) ca'.tmps.toList) (df:DefersR G' w' ds0 ca'.defers) :
  Inv C f ops D V K G0 H0 w0 ds0 q' L' G' w' ca':=by
 have hqq:q<=q':=by rcases hcase with ⟨h,_⟩|⟨h1,h2,_⟩<;>omega
 have hfalse:∀ i,L' i=false->L i=false:=λi h=>by rw[hL'] at h;simp at h;exact h.1
 have hun:∀ i o,i<K->ops[i]?=some o->aD C f o=.alloc->(L' i=false\/aI ops (D i).tmps o≠some true)->G.rho (D i).slot=none/\G.lam (D i).slot=none:=λi o h1 h2 h3 h4 =>
  I.un i o h1 h2 h3 (h4.imp (hfalse i) id)
 have hmade:∀ i o,i<K->ops[i]?=some o->aD C f o=.alloc->aI ops (D i).tmps o=some true->L' i=true->L i=true:=by
  intro i o h1 h2 h3 h4 h5;rw[hL',Bool.or_eq_true] at h5
  rcases h5 with h5|h5
  ·exact h5
  ·simp at h5;subst h5;rw[hj] at h2;simp only[SJ] at h2;subst h2;exact (hna h3 h4).elim
 exact {
  qK:=by rcases hcase with ⟨h,_⟩|⟨h1,h2,_⟩<;>have:=I.qK<;>omega
  lt:=λi h=>by
   rw[hL',Bool.or_eq_true] at h
   rcases h with h|h
   ·exact I.lt i h
   ·simp at h;omega
  cl:=λi o ho h e he hb=>by
   rw[hL',Bool.or_eq_true] at h ⊢
   left
   rcases h with h|h
   ·exact I.cl i o ho h e he hb
   ·simp at h;subst h;rw[hj] at ho;simp only[SJ] at ho;subst ho;exact hr e he hb
  effs:=λe o h1 h2 h3 h4=>by
   have:=I.effs e o h1 h2 h3 h4;rw[hL',Bool.or_eq_true,<-this,decide_eq_true_eq]
   rcases hcase with ⟨h,hn⟩|⟨g1,g2,g3,g4⟩
   ·have:e≠j:=λe'=>by
     subst e';rw[hj] at h2;simp only[SJ] at h2;subst h2;exact hn h3 h4
    omega
   ·omega
  rel:=rel'
  step:=I.step.trans st
  slots:=λi o h1 h2 h3=>⟨(I.slots i o h1 h2 h3).1,Nat.lt_of_lt_of_le (I.slots i o h1 h2 h3).2 st.len⟩
  un:=λi o h1 h2 h3 h4=>by
   obtain ⟨a1,a2⟩:=hun i o h1 h2 h3 h4;obtain ⟨b1,b2,_⟩:=st.pend _ (I.slots i o h1 h2 h3).2 a1 a2;exact ⟨b1,b2⟩
  gone:=λi o h1 h2 h3 h4=>by
   have hg:=I.gone i o h1 h2 h3 (by omega)
   by_cases hw:L i=true/\aI ops (D i).tmps o=some true
   ·have hs:=T.step i o h1 h2;generalize V i=v at hs;cases hs with
    | unwanted hw'=>rw[hw.2] at hw';cases hw'
    | pure v hw' hk=>rw[h3] at hk;cases hk
    | read v hw' hk=>rw[h3] at hk;cases hk
    | eff v s hw' hk=>rw[h3] at hk;cases hk
    | alloc ob mk hw' hk hv =>
      obtain ⟨b,g1,_⟩:=I.made i o ob mk (by omega) h1 h2 h3 hw.2 hv hw.1
      exact (st.gone _ b hg g1).2.1
   ·have hun:=I.un i o h1 h2 h3 (by
     cases hL:L i with
     | false=>exact .inl rfl
     | true=>exact .inr (λh=>hw ⟨hL,h⟩))
    rw[(st.pend _ (I.slots i o h1 h2 h3).2 hun.1 hun.2).2.2];exact hg
  pend:=λi o ob mk h1 h2 h3 h4 h5 h6=>by
   have hiq:i<q:=by
    rcases hcase with ⟨h,_⟩|⟨g1,g2,g3,_⟩
    ·omega
    ·have:i≠j:=λe=>by
      subst e;rw[hj] at h2;simp only[SJ] at h2;subst h2;rw[h3] at g3;cases g3
     omega
   have hiK:i<K:=by have:=I.qK;omega
   have hun:=I.un i o hiK h2 h3 (.inl (hfalse i h6));rw[(st.pend _ (I.slots i o hiK h2 h3).2 hun.1 hun.2).2.2];exact I.pend i o ob mk hiq h2 h3 h4 h5 (hfalse i h6)
  made:=λi o ob mk h1 h2 h3 h4 h5 h6 h7=>by
   obtain ⟨b,g1,g2⟩:=I.made i o ob mk (by omega) h2 h3 h4 h5 h6 (hmade i o h2 h3 h4 h5 h7)
   obtain ⟨k1,k2,k3⟩:=st.gone _ b (I.gone i o h2 h3 h4 (by omega)) g1
   exact ⟨b,k1,ObjR.mono st.ext k3 g2⟩
  tmps:=tm
  defs:=df }
theorem Inv.execAlloc (T:Tr C rec f ops D V K)(I:Inv C f ops D V K G0 H0 w0 ds0 q L G w ca){j:Nat}{oj:Oper}{L' : Nat->Bool}{w' : World}{ca' : Go.Act}{ob:AObj}{mk:Nat->AV}{cv:Obj}
  (hj:ops[j]?=some oj) (hjK:j<K)
  (hLj:L j=false) (hr:∀ e∈oj.after.toList,Region.binds .any e=true->L e.on=true) (hL' : ∀ i,L' i=(L i||decide (i=j)))
  (hk:aD C f oj=.alloc) (hw:aI ops (D j).tmps oj=some true) (hv:bS C f (D j).tmps oj (D j).st.heap.length=some (ob,mk)) (hp:Pushed w w' cv)
  (ho:∀ G',Ext G w G' w'->ObjR G' w' w.heap.size ob)
  (tm:Ext G w (G.addObj (D j).slot w.heap.size) w'->VList (G.addObj (D j).slot w.heap.size) w' (gb ops D V L' K) ca'.tmps.toList)
  (df:Ext G w (G.addObj (D j).slot w.heap.size) w'->DefersR (G.addObj (D j).slot w.heap.size) w' ds0 ca'.defers) :
  Inv C f ops D V K G0 H0 w0 ds0 q L' (G.addObj (D j).slot w.heap.size) w' ca':=by
 obtain ⟨hun1,hun2⟩:=I.un j oj hjK hj hk (.inl hLj);obtain ⟨hsl0,hsl⟩:=I.slots j oj hjK hj hk
 have hadd:=I.rel.addObj hp hun1 hun2 hsl (λa ha G' hx=>by
  rcases Nat.lt_or_ge j q with h|h
  ·rw[I.pend j oj ob mk h hj hk hw hv hLj] at ha;simp only[SJ] at ha;subst ha;exact ho G' hx
  ·rw[I.gone j oj hjK hj hk h] at ha;simp only[SJ] at ha;subst ha;trivial)
 have hx:=hadd.2;have hfalse:∀ i,L' i=false->L i=false:=λi h=>by rw[hL'] at h;simp at h;exact h.1
 have hslne:∀ i o',i<K->ops[i]?=some o'->aD C f o'=.alloc->i≠j->(D i).slot≠(D j).slot:=by
  intro i o' h1 h2 h3 h4
  rcases Nat.lt_or_gt_of_ne h4 with h|h
  ·have:=T.slot_lt h2 h3 h (by omega);omega
  ·have:=T.slot_lt hj hk h (by omega);omega
 have hrho:∀ m,m≠(D j).slot->(G.addObj (D j).slot w.heap.size).rho m=G.rho m:=λm h=>aX h
 exact {
  qK:=I.qK
  lt:=λi h=>by
   rw[hL',Bool.or_eq_true] at h
   rcases h with h|h
   ·exact I.lt i h
   ·simp at h;omega
  cl:=λi o ho h e he hb=>by
   rw[hL',Bool.or_eq_true] at h ⊢
   left
   rcases h with h|h
   ·exact I.cl i o ho h e he hb
   ·simp at h;subst h;rw[hj] at ho;simp only[SJ] at ho;subst ho;exact hr e he hb
  effs:=λe o h1 h2 h3 h4=>by
   rw[hL',Bool.or_eq_true,<-I.effs e o h1 h2 h3 h4,decide_eq_true_eq]
   have:e≠j:=λe'=>by
    subst e';rw[hj] at h2;simp only[SJ] at h2;subst h2;rw[hk] at h3;cases h3
   omega
  rel:=hadd.1
  step:={
   ext:=I.step.ext.trans hx
   pend:=λn hn h1 h2=>by
    obtain ⟨a1,a2,a3⟩:=I.step.pend n hn h1 h2;exact ⟨by rw[hrho n (by omega)];exact a1,a2,a3⟩
   gone:=λn b h1 h2=>by
    obtain ⟨a1,a2,a3⟩:=I.step.gone n b h1 h2;have hn:n<H0.length:=(List.getElem?_eq_some_iff.1 h1).1;refine ⟨by rw[hrho n (by omega)];exact a1,a2,?_⟩
    rw[hp.old (I.rel.rimm n b a1).2];exact a3
   len:=I.step.len }
  slots:=I.slots
  un:=λi o h1 h2 h3 h4=>by
   have hne:i≠j:=λe=>by
    subst e;rw[hj] at h2;simp only[SJ] at h2;subst h2
    rcases h4 with h4|h4
    ·rw[hL'] at h4;simp at h4
    ·exact h4 hw
   rw[hrho _ (hslne i o h1 h2 h3 hne)];exact I.un i o h1 h2 h3 (h4.imp (hfalse i) id)
  gone:=I.gone
  pend:=λi o ob' mk' h1 h2 h3 h4 h5 h6=>I.pend i o ob' mk' h1 h2 h3 h4 h5 (hfalse i h6)
  made:=λi o ob' mk' h1 h2 h3 h4 h5 h6 h7=>by
   by_cases hne:i=j
   ·subst hne;rw[hj] at h3;simp only[SJ] at h3;subst h3;rw[hv] at h6;simp only[SJ,PJ] at h6;obtain ⟨rfl,rfl⟩:=h6;exact ⟨w.heap.size,aN,ho _ hx⟩
   ·have hL:L i=true:=by
     rw[hL',Bool.or_eq_true] at h7
     rcases h7 with h7|h7
     ·exact h7
     ·simp at h7;exact absurd h7 hne
    obtain ⟨b,g1,g2⟩:=I.made i o ob' mk' h1 h2 h3 h4 h5 h6 hL;refine ⟨b,by rw[hrho _ (hslne i o h2 h3 h4 hne)];exact g1,ObjR.mono hx (hp.old (I.rel.rimm _ b g1).2) g2⟩
  tmps:=tm hx
  defs:=df hx }
end
theorem nH {p p' : Nat->Bool}{i:Nat}(hp:p i=true)(hp' : p' i=false)(hne:∀ k,k≠i->p' k=p k):∀ (l:List Nat),l.Nodup->i∈l->l.countP p=l.countP p'+1
 | [],_,h=>by simp at h
 | x::l,hn,h=>by
   rw[List.nodup_cons] at hn
   by_cases e:x=i
   ·subst e;have:l.countP p'=l.countP p:=List.countP_congr (λk hk=>by rw[hne k (λe=>hn.1 (e ▸ hk))])
    simp[List.countP_cons,hp,hp',this]
   ·have hm:i∈l:=by
     rcases List.mem_cons.1 h with h|h
     ·exact absurd h.symm e
     ·exact h
    have:=nH hp hp' hne l hn.2 hm;simp only[List.countP_cons,hne x e,this]
    split<;>omega
section
variable {C:Cfg}{rec:FuncId->List AV->Heap->Option CRes}{f:FuncId}{ops:Array Oper}{D:Nat->DS}{V:Nat->AV}{K:Nat}{G0:Gh}{H0:Heap}{w0:World}{ds0:List (FuncId×List AV)}
def lset (listed:Array Bool):Nat->Bool:=λi=>listed.getD i false
theorem Cf {listed:Array Bool}{j:Nat}(hj:j<listed.size)(i:Nat):lset (listed.setIfInBounds j true) i=(lset listed i||decide (i=j)):=by
 unfold lset
 by_cases e:i=j
 ·subst e;simp[hj]
 ·simp[e,Array.getElem?_setIfInBounds_ne (Ne.symm e)]
theorem vV (hs:cV C f ops.toList=true){listed:Array Bool}(hsz:listed.size=ops.size)(hr:Region.ready .any ops listed=[]):∀ i,i<ops.size->lset listed i=true:=by
 intro i
 induction i using Nat.strongRecOn with
 | _ i ih =>
   intro hi;cases hl:lset listed i with
   | true=>rfl
   | false =>
     have ho:ops[i]?=some ops[i]:=by simp[hi]
     have hm:i∈Region.ready .any ops listed:=by
      rw[mem_ready];refine ⟨?_,ops[i],ho,λe he hb=>?_⟩
      ·unfold lset at hl;have:i<listed.size:=by omega
       simp[this] at hl ⊢;exact hl
      ·have hlt:=pe hs (j:=i) (o:=ops[i]) (by simp[hi]) (by simpa using he) hb
       exact ih e.on hlt (by omega)
     rw[hr] at hm;cases hm
def Hs (C:Cfg)(rec:FuncId->List AV->Heap->Option CRes)(f:FuncId)(ops:Array Oper)(D:Nat->DS)(K:Nat)(G0:Gh)(H0:Heap)(w0:World)(ds0:List (FuncId×List AV))
    (Q:Exit->Go.Act->World->Prop):Prop :=
 (K=ops.size/\∀ G w ca,Rel C G (D K).st.heap w->Step G0 H0 w0 G (D K).st.heap w->VList G w (D K).tmps ca.tmps.toList->DefersR G w ds0 ca.defers->Q .normal ca w) \/
 (K<ops.size/\∃ o v s,ops.toList[K]?=some o/\aD C f o=.eff/\aI ops.toList (D K).tmps o=some true/\bC C rec f (D K).tmps [] o (D K).st=some (.error (v,s)) /\
  (∀ j,K<j->j<ops.size->((befL ops.toList []).getD j 0).testBit K=true) /\
  ∀ G w ca val,Rel C G s.heap w->Step G0 H0 w0 G s.heap w->VR G w v val->DefersR G w ds0 ca.defers->Q (.panic [{ v:=val,recovered:=false }]) ca w)
theorem BR (gd:Good C)(hrec:ec C rec){Q:Exit->Go.Act->World->Prop}(T:Tr C rec f ops.toList D V K)(hs:cV C f ops.toList=true)
  (hend:Hs C rec f ops D K G0 H0 w0 ds0 Q):∀ (fuel:Nat) (listed:Array Bool) (q:Nat) (G:Gh) (w:World) (ca:Go.Act),listed.size=ops.size ->
   (List.range ops.size).countP (λi=>!lset listed i)=fuel->Inv C f ops.toList D V K G0 H0 w0 ds0 q (lset listed) G w ca ->
   (q=0\/∃ e o,q=e+1/\ops.toList[e]?=some o/\aD C f o=.eff/\aI ops.toList (D e).tmps o=some true)->wpAny C.P .any ops Q fuel listed ca w:=by
 have hfin:∀ (listed:Array Bool) (q:Nat) (G:Gh) (w:World) (ca:Go.Act),Inv C f ops.toList D V K G0 H0 w0 ds0 q (lset listed) G w ca->(∀ i,i<ops.size->lset listed i=true)->Q .normal ca w:=by
  intro listed q G w ca I hall
  rcases hend with ⟨hK,hQ⟩|⟨hK,_⟩
  ·have hq:=I.qK
   have I':=I.tellTo T (K-q) (by omega) (λe o h1 h2 ho hk hw=>by
    have:=(I.effs e o (by omega) ho hk hw).2 (hall e (by omega))
    omega)
   rw[show q+(K-q)=K by omega] at I'
   have htm:=I'.tmps;rw[x7 T (λi hi=>hall i (by omega)) K (Nat.le_refl _)] at htm
   exact hQ G w ca I'.rel I'.step htm I'.defs
  ·have:=I.lt K (hall K hK);omega
 intro fuel
 induction fuel with
 | zero =>
   intro listed q G w ca hsz hc I hq
   have hall:∀ i,i<ops.size->lset listed i=true:=by
    intro i hi;rw[List.countP_eq_zero] at hc;have:=hc i (by simp[hi])
    simpa using this
   refine ⟨?_,hfin listed q G w ca I hall⟩;cases hr:Region.ready .any ops listed with
   | nil=>rfl
   | cons x r =>
     have hx:x∈Region.ready .any ops listed:=by rw[hr];simp
     obtain ⟨h1,o,ho,_⟩:=mem_ready.1 hx;have hlt:x<ops.size:=(Array.getElem?_eq_some_iff.1 ho).1;have:=hall x hlt;unfold lset at this;have hxl:x<listed.size:=by omega
     simp[hxl] at h1 this;rw[h1] at this;cases this
 | succ fuel ih =>
   intro listed q G w ca hsz hc I hq;refine ⟨λhr=>hfin listed q G w ca I (vV hs hsz hr),λj hj=>?_⟩
   obtain ⟨hun,o,ho,hedge⟩:=mem_ready.1 hj;have hjn:j<ops.size:=(Array.getElem?_eq_some_iff.1 ho).1;have ho' : ops.toList[j]?=some o:=by simpa using ho
   have hLj:lset listed j=false:=by
    unfold lset;have:j<listed.size:=by omega
    simp[this] at hun ⊢;exact hun
   have hr:∀ e∈o.after.toList,Region.binds .any e=true->lset listed e.on=true:=λe he hb=>hedge e (by simpa using he) hb
   have hsz' : (listed.setIfInBounds j true).size=ops.size:=by simpa using hsz
   have hset:∀ i,lset (listed.setIfInBounds j true) i=(lset listed i||decide (i=j)):=Cf (by omega)
   have hcnt:(List.range ops.size).countP (λi=>!lset (listed.setIfInBounds j true) i)=fuel:=by
    have:=nH (p:=λi=>!lset listed i) (p':=λi=>!lset (listed.setIfInBounds j true) i) (i:=j) (by simp[hLj]) (by simp[hset]) (λk hk=>by simp[hset,hk]) (List.range ops.size) List.nodup_range (by simp[hjn])
    omega
   have hjK:j<=K:=by
    rcases hend with ⟨hK,_⟩|⟨hK,_,_,_,_,_,_,_,hord,_⟩
    ·omega
    ·rcases Nat.lt_or_ge K j with h|h
     ·have:=I.cl.ready ho' hr (hord j h hjn);have:=I.lt K this;omega
     ·exact h
   unfold wpOp;simp only[ho]
   rcases Nat.eq_or_lt_of_le hjK with hjK|hjK
   ·
    subst hjK
    rcases hend with ⟨hK,_⟩|⟨hK,o',v,s,ho2,hk,hw,hst,hord,hQ⟩
    ·omega
    ·rw[ho'] at ho2;simp only[SJ] at ho2;subst ho2;have hqK:=I.qK
     have I':=I.tellTo T (j-q) (by omega) (λe oe h1 h2 hoe hke hwe=>by
      have hb:=tf hs ho' hoe (by omega) hk hke
      have:=(I.effs e oe (by omega) hoe hke hwe).2 (I.cl.ready ho' hr hb)
      omega)
     rw[show q+(j-q)=j by omega] at I'
     have hag:Agree ops.toList (gb ops.toList D V (lset listed) j) (D j).tmps o:=by
      refine sW (λt ht=>?_)
      have hA:∀ i,i<=j->(gb ops.toList D V (lset listed) i).getD t undef=(D i).tmps.getD t undef:=by
       intro i
       induction i with
       | zero=>intro _;rfl
       | succ i ihh =>
         intro hi;have ihh:=ihh (by omega)
         obtain ⟨oi,hoi⟩:=T.op (show i<j by omega)
         rw[T.put (by omega) hoi]
         by_cases hd:oi.dst=some t
         ·have hb:=(lS hs ho' hoi (by omega) hd ht).1 (by omega)
          have hl:=I.cl.ready ho' hr hb;rw[cg hl hoi];exact iJ ((gY i).trans (T.len (show i<=j by omega)).symm) ihh
         ·rw[eG hd];cases hl:lset listed i with
          | true=>rw[cg hl hoi,eG hd];exact ihh
          | false=>rw[cJ hl];exact ihh
      exact hA j (Nat.le_refl _)
     have hwt:aI ops.toList (gb ops.toList D V (lset listed) j) o=some true:=by rw[hag.wanted];exact hw
     rw[ea I'.tmps hwt];simp only[if_true]
     have hst' : bC C rec f (gb ops.toList D V (lset listed) j) ds0 o (D j).st=some (.error (v,s)):=by
      rw[ka hag.same];exact jP hst ds0
     refine y3 gd hrec I'.rel I'.tmps I'.defs hst' ?_ ?_
     ·intro v' ds' s2 e;cases e
     ·intro v' s2 e G' w' val h1 h2 h3;simp only[Except.error.injEq,PJ] at e;obtain ⟨rfl,rfl⟩:=e;exact hQ G' w' ca val h1 (I'.step.trans h2) h3 (I'.defs.mono h2.ext)
   ·
    have hag:=By T hs I.cl ho' hjK hLj hr;have hput:=Jj T hs I.cl ho' hjK hLj hset;have hTs:=T.step j o hjK ho';generalize hV:V j=vj at hTs;rw[hV] at hput;cases hTs with
    | unwanted hw ht hst hl hh hrd =>
      have hwt:aI ops.toList (gb ops.toList D V (lset listed) K) o=some false:=by rw[hag.wanted];exact hw
      rw[ea I.tmps hwt];simp only[Bool.false_eq_true,if_false];have hact:=ActR.put I.tmps I.defs o.dst (VR.undef (G:=G) (w:=w));refine ih _ q G w _ hsz' hcnt (I.exec T ho' hjK hLj hr hset (λ_ h=>by rw[hw] at h;cases h) (.inl ⟨rfl,λ_ h=>by rw[hw] at h;cases h⟩) I.rel (Step.refl _ _ _) ?_ hact.defers) hq
      rw[hput];exact hact.tmps
    | pure v hw hk hv ht hst hl hh hrd =>
      have hwt:aI ops.toList (gb ops.toList D V (lset listed) K) o=some true:=by rw[hag.wanted];exact hw
      rw[ea I.tmps hwt];simp only[if_true];have hv' : bE C f (gb ops.toList D V (lset listed) K) o=some vj:=by rw[kM hag.same];exact hv
      obtain ⟨val,w',G',h1,h2,h3,h4⟩:=Ay I.rel I.tmps hv'
      left
      unfold Oper.wp;rw[h1];have hact:=ActR.put (VList.mono h3.ext _ _ I.tmps) (I.defs.mono h3.ext) o.dst h4;refine ih _ q G' w' _ hsz' hcnt (I.exec T ho' hjK hLj hr hset (λh=>by rw[hk] at h;cases h) (.inl ⟨rfl,λh=>by rw[hk] at h;cases h⟩) h2 h3 ?_ hact.defers) hq
      rw[hput];exact hact.tmps
    | read v hw hk hv hcond ht hst hl hh hrd =>
      have hwt:aI ops.toList (gb ops.toList D V (lset listed) K) o=some true:=by rw[hag.wanted];exact hw
      rw[ea I.tmps hwt];simp only[if_true]
      have key:∃ H,Rel C G H w/\dg C (D j).tmps o H=some vj:=by
       rcases Nat.lt_or_ge j q with hjq|hjq
       ·
        rcases hq with hq|⟨e,oe,rfl,hoe,hke,hwe⟩
        ·omega
        ·have hqK:=I.qK
         have hje:j<e:=by
          rcases Nat.eq_or_lt_of_le (Nat.le_of_lt_succ hjq) with h|h
          ·subst h;rw[ho'] at hoe;simp only[SJ] at hoe;subst hoe;rw[hk] at hke;cases hke
          ·exact h
         have hle:lset listed e=true:=(I.effs e oe (by omega) hoe hke hwe).1 (by omega)
         have hmem:=T.reads ho' hk hw (k:=e) hje (by omega)
         rw[hV] at hmem;have hTe:=T.step e oe (by omega) hoe
         generalize V e=ve at hTe;cases hTe with
         | unwanted hw'=>rw[hwe] at hw';cases hw'
         | pure v hw' hk'=>rw[hke] at hk';cases hk'
         | read v hw' hk'=>rw[hke] at hk';cases hk'
         | alloc ob mk hw' hk'=>rw[hke] at hk';cases hk'
         | eff v s hw' hk' hv' hc' ht' hs' =>
           rcases hc' _ _ _ hmem with hb|⟨o2,ho2,hsame⟩
           ·have:=I.cl.bef hoe hle hb;rw[hLj] at this;cases this
           ·rw[ho'] at ho2;simp only[SJ] at ho2;subst ho2;refine ⟨(D (e+1)).st.heap,I.rel,?_⟩;rw[hs'];exact ma hsame
       ·
        by_cases hbet:∃ e,q<=e/\e<j/\∃ oe,ops.toList[e]?=some oe/\aD C f oe=.eff/\aI ops.toList (D e).tmps oe=some true
        ·
         have hfirst:∃ e,(q<=e/\e<j/\∃ oe,ops.toList[e]?=some oe/\aD C f oe=.eff/\aI ops.toList (D e).tmps oe=some true) /\
           ∀ e',q<=e'->e'<e->∀ oe,ops.toList[e']?=some oe->aD C f oe=.eff->aI ops.toList (D e').tmps oe=some true->False:=by
          obtain ⟨e,he⟩:=hbet
          induction e using Nat.strongRecOn with
          | _ e ihe =>
            by_cases hb:∃ e',e'<e/\q<=e'/\∃ oe,ops.toList[e']?=some oe/\aD C f oe=.eff/\aI ops.toList (D e').tmps oe=some true
            ·obtain ⟨e',h1,h2,h3⟩:=hb;exact ihe e' h1 ⟨h2,by omega,h3⟩
            ·exact ⟨e,he,λe' h1 h2 oe h3 h4 h5=>hb ⟨e',h2,h1,oe,h3,h4,h5⟩⟩
         obtain ⟨e,⟨h1,h2,oe,hoe,hke,hwe⟩,hno⟩:=hfirst;have I':=I.tellTo T (e-q) (by omega) (λe' oe' g1 g2=>hno e' g1 (by omega) oe')
         rw[show q+(e-q)=e by omega] at I'
         refine ⟨(D e).st.heap,I'.rel,?_⟩
         rcases hcond e _ (T.hist hoe hke hwe h2 (by omega)) with hb|hsame
         ·have:=I.cl.ready ho' hr hb;have:=(I.effs e oe (by omega) hoe hke hwe).2 this
          omega
         ·exact ma hsame
        ·have I':=I.tellTo T (j-q) (by omega) (λe' oe' g1 g2 h3 h4 h5=>hbet ⟨e',g1,by omega,oe',h3,h4,h5⟩)
         rw[show q+(j-q)=j by omega] at I'
         exact ⟨(D j).st.heap,I'.rel,hv⟩
      obtain ⟨H,hrel,hread⟩:=key;have hread' : dg C (gb ops.toList D V (lset listed) K) o H=some vj:=by rw[jV hag.same];exact hread
      obtain ⟨val,h1,h2⟩:=yF hrel I.tmps hread'
      left
      unfold Oper.wp;rw[h1];have hact:=ActR.put I.tmps I.defs o.dst h2;refine ih _ q G w _ hsz' hcnt (I.exec T ho' hjK hLj hr hset (λh=>by rw[hk] at h;cases h) (.inl ⟨rfl,λh=>by rw[hk] at h;cases h⟩) I.rel (Step.refl _ _ _) ?_ hact.defers) hq
      rw[hput];exact hact.tmps
    | alloc ob mk hw hk hv ht hst hl hh hrd =>
      have hwt:aI ops.toList (gb ops.toList D V (lset listed) K) o=some true:=by rw[hag.wanted];exact hw
      rw[ea I.tmps hwt];simp only[if_true];have hv' : bS C f (gb ops.toList D V (lset listed) K) o (D j).st.heap.length=some (ob,mk):=by rw[jt hag.same];exact hv
      obtain ⟨val,w',cv,h1,h2,h3,h4,h5,h6⟩:=t9 I.rel I.tmps hv'
      left
      unfold Oper.wp;rw[h1];have hact:=λ(hx:Ext G w (G.addObj (D j).slot w.heap.size) w')=>ActR.put (VList.mono hx _ _ I.tmps) (I.defs.mono hx) o.dst (h6 _ (D j).slot aN)
      refine ih _ q _ w' _ hsz' hcnt (I.execAlloc T ho' hjK hLj hr hset hk hw hv h2 h3 (λhx=>?_) (λhx=>(hact hx).defers)) hq
      rw[hput];exact (hact hx).tmps
    | eff v s hw hk hv hcond ht hst hl hh hrd =>
      have hwt:aI ops.toList (gb ops.toList D V (lset listed) K) o=some true:=by rw[hag.wanted];exact hw
      rw[ea I.tmps hwt];simp only[if_true]
      have hqj:q<=j:=by
       rcases Nat.lt_or_ge j q with h|h
       ·have:=(I.effs j o hjK ho' hk hw).1 h;rw[hLj] at this;cases this
       ·exact h
      have I':=I.tellTo T (j-q) (by omega) (λe oe h1 h2 hoe hke hwe=>by
       have hb:=tf hs ho' hoe (by omega) hk hke
       have:=(I.effs e oe (by omega) hoe hke hwe).2 (I.cl.ready ho' hr hb)
       omega)
      rw[show q+(j-q)=j by omega] at I'
      have hst' : bC C rec f (gb ops.toList D V (lset listed) K) ds0 o (D j).st=some (.ok (vj,ds0,s)):=by
       rw[ka hag.same];exact o6 hv ds0
      refine y3 gd hrec I'.rel I'.tmps I'.defs hst' ?_ ?_
      ·intro v' ds' s2 e G' w' ca' h1 h2 h3;simp only[Except.ok.injEq,PJ] at e;obtain ⟨rfl,rfl,rfl⟩:=e;have hheap:s=(D (j+1)).st:=hst.symm;rw[hheap] at h1 h2;refine ih _ (j+1) G' w' ca' hsz' hcnt (I'.exec T ho' hjK hLj hr hset (λh=>by rw[hk] at h;cases h) (.inr ⟨rfl,rfl,hk,hw⟩) h1 h2 ?_ h3.defers) (.inr ⟨j,o,rfl,ho',hk,hw⟩)
       rw[hput];exact h3.tmps
      ·intro v' s2 e;cases e
end
theorem Rel.grows {C:Cfg}{G:Gh}{H:Heap}{w:World}(r:Rel C G H w):∀ k,Rel C G (H++List.replicate k .gone) w
 | 0=>by simpa using r
 | k+1=>by
   have:=(Rel.grows r k).grow (o:=.gone) rfl (by simp)
   rw[List.append_assoc,<-List.replicate_succ'] at this;exact this
theorem Step.grows (G:Gh)(H:Heap)(w:World)(k:Nat):Step G H w G (H++List.replicate k .gone) w where
 ext:=Ext.refl G w
 pend n hn h1 h2:=⟨h1,h2,by rw[List.getElem?_append_left hn]⟩
 gone n b h1 h2:=⟨h2,by rw[List.getElem?_append_left (List.getElem?_eq_some_iff.1 h1).1];exact h1,rfl⟩
 len:=by simp
theorem SameHeap.drew (w:World):SameHeap w { w with drawn:=w.drawn+1 }:=⟨rfl,rfl,rfl,rfl⟩
section
variable {C:Cfg}{f:FuncId}{w:World}{ca:Go.Act}
theorem mb {C:Cfg}{rec:FuncId->List AV->Heap->Option CRes}{f:FuncId}{ops:List Oper}{D:Nat->DS}{V:Nat->AV}{K:Nat}(T:Tr C rec f ops D V K) :
  ∀ k,k<=K->(D k).slot+bV C f (ops.drop k)=(D 0).slot+bV C f ops
 | 0,_=>by simp
 | k+1,h=>by
   have ih:=mb T k (by omega)
   obtain ⟨o,ho⟩:=T.op (show k<K by omega)
   have hd:ops.drop k=o::ops.drop (k+1):=by
    obtain ⟨hlt,hval⟩:=List.getElem?_eq_some_iff.1 ho;rw[<-hval];exact List.drop_eq_getElem_cons hlt
   rw[hd] at ih;simp only[bV] at ih;rw[T.slot_step (by omega) ho]
   split<;>rename_i hk
   ·rw[if_pos hk] at ih;omega
   ·rw[if_neg hk] at ih;omega
theorem JU (gd:Good C){rec:FuncId->List AV->Heap->Option CRes}(hrec:ec C rec){id:Nat}{ops:Array Oper}{Q:Exit->Go.Act->World->Prop}{G:Gh}{a:AAct}{s:St}
  {x:AExit×AAct×St} (hs:cV C f ops.toList=true) (h:l5 C rec f ops.toList a s=some x) (r:Rel C G s.heap w) (ha:ActR G w a ca) (hp:Post C G s.heap w x Q) :
  (Code.region id ops true).wp C.P Q ca w:=by
 refine wp_region_any gd.mixed ?_;have hsame:=Rel.same' (SameHeap.drew w) r;have ha1:=ha.mono hsame.2.ext;have hp1:=hp.after hsame.2;generalize ({ w with drawn:=w.drawn+1 }:World)=w1 at *
 obtain ⟨r1,st1⟩:=hsame
 clear r ha hp
 unfold l5 at h
 have hrun:∃ y,kj C rec f ops.toList (befL ops.toList []) 0 ops.toList { tmps:=a.tmps,st:={ s with heap:=s.heap++List.replicate (bV C f ops.toList) .gone },slot:=s.heap.length,hist:=[],reads:=[] }=some y /\
   ((∃ d,y=.ok d/\x=(.normal,{ a with tmps:=d.tmps },d.st))\/∃ v s',y=.error (v,s')/\x=(.panic v,a,s')):=by
  split at h
  ·rename_i d hd;simp only[SJ] at h;exact ⟨_,hd,.inl ⟨d,rfl,h.symm⟩⟩
  ·rename_i v s' hd;simp only[SJ] at h;exact ⟨_,hd,.inr ⟨v,s',rfl,h.symm⟩⟩
  ·cases h
 obtain ⟨y,hy,hx⟩:=hrun;obtain ⟨D,K,hD0,_,hK,hsteps,hend⟩:=nL _ _ _ _ hy;simp only[Nat.zero_add,Nat.sub_zero,Nat.zero_le,true_implies] at hK hsteps hend
 have hV:∃ V:Nat->AV,∀ k o,k<K->ops.toList[k]?=some o->DStep C rec f ops.toList (befL ops.toList []) k o (D k) (D (k+1)) (V k):=by
  have h' : ∀ k,∃ v,k<K->∀ o,ops.toList[k]?=some o->DStep C rec f ops.toList (befL ops.toList []) k o (D k) (D (k+1)) v:=by
   intro k
   by_cases hk:k<K
   ·obtain ⟨o,v,h1,h2⟩:=hsteps k hk;refine ⟨v,λ_ o' ho'=>?_⟩
    rw[h1] at ho';simp only[SJ] at ho';subst ho';exact h2
   ·exact ⟨undef,λh=>absurd h hk⟩
  exact ⟨λk=>(h' k).choose,λk o hk ho=>(h' k).choose_spec hk o ho⟩
 obtain ⟨V,hV⟩:=hV;have T:Tr C rec f ops.toList D V K:=⟨hK,hV⟩;have hlen0:(D 0).st.heap=s.heap++List.replicate (bV C f ops.toList) .gone:=by rw[hD0]
 have hslot0:(D 0).slot=s.heap.length:=by rw[hD0]
 have hslots:∀ i o,i<K->ops.toList[i]?=some o->aD C f o=.alloc->s.heap.length<=(D i).slot/\(D i).slot<s.heap.length+bV C f ops.toList:=by
  intro i o h1 h2 h3;have hb:=mb T i (by omega)
  have hd:ops.toList.drop i=o::ops.toList.drop (i+1):=by
   obtain ⟨hlt,hval⟩:=List.getElem?_eq_some_iff.1 h2;rw[<-hval];exact List.drop_eq_getElem_cons hlt
  have hm:=T.slot_mono (j:=0) (k:=i) (by omega) (by omega)
  rw[hd] at hb;simp only[bV,h3,if_true] at hb;omega
 have hout:∀ n,s.heap.length<=n->G.rho n=none/\G.lam n=none:=r1.out
 have hgonei:∀ i o,i<K->ops.toList[i]?=some o->aD C f o=.alloc->(D 0).st.heap[(D i).slot]?=some .gone:=by
  intro i o h1 h2 h3;obtain ⟨k1,k2⟩:=hslots i o h1 h2 h3;rw[hlen0,List.getElem?_append_right k1,List.getElem?_replicate];rw[if_pos (by omega)]
 have hl0:∀ i,lset (Array.replicate ops.size false) i=false:=by
  intro i;unfold lset
  by_cases hi:i<ops.size
  ·simp[hi]
  ·simp[Nat.not_lt.1 hi]
 have I:Inv C f ops.toList D V K G s.heap w1 a.defers 0 (lset (Array.replicate ops.size false)) G w1 ca:={
  qK:=Nat.zero_le _
  lt:=λi hi=>by rw[hl0] at hi;cases hi
  cl:=λj o _ hj=>by rw[hl0] at hj;cases hj
  effs:=λe o _ _ _ _=>by rw[hl0];simp
  rel:=by rw[hlen0];exact r1.grows _
  step:=by rw[hlen0];exact Step.grows G s.heap w1 _
  slots:=λi o h1 h2 h3=>by
   obtain ⟨k1,k2⟩:=hslots i o h1 h2 h3;exact ⟨k1,by rw[hlen0];simp;exact k2⟩
  un:=λi o h1 h2 h3 _=>hout _ (hslots i o h1 h2 h3).1
  gone:=λi o h1 h2 h3 _=>hgonei i o h1 h2 h3
  pend:=λi o ob mk h1=>by omega
  made:=λi o ob mk _ _ _ _ _ _ hi=>by rw[hl0] at hi;cases hi
  tmps:=by
   rw[kU (L':=λ_=>false) K (λj _=>hl0 j)]
   have:∀ i,gb ops.toList D V (λ_=>false) i=(D 0).tmps:=by
    intro i
    induction i with
    | zero=>rfl
    | succ i ih=>rw[cJ rfl];exact ih
   rw[this,hD0];exact ha1.tmps
  defs:=ha1.defers }
 have hre:Hs C rec f ops D K G s.heap w1 a.defers Q:=by
  rcases hend with ⟨e1,e2⟩|⟨e1,o,v,s',e2,e3,e4⟩
  ·left
   refine ⟨by simpa using e1,λG' w' ca' h1 h2 h3 h4=>?_⟩
   rcases hx with ⟨d,g1,g2⟩|⟨v,s',g1,_⟩
   ·rw[g1] at e2;simp only[Except.ok.injEq] at e2;subst e2;subst g2;exact hp1 G' w' ca' .normal h1 h2 ⟨h3,h4⟩ rfl
   ·rw[g1] at e2;cases e2
  ·right
   rcases hx with ⟨d,g1,_⟩|⟨v',s2,g1,g2⟩
   ·rw[g1] at e4;cases e4
   ·rw[g1] at e4;simp only[Except.error.injEq,PJ] at e4;obtain ⟨rfl,rfl⟩:=e4;subst g2;unfold ed at e3
    split at e3
    ·cases e3
    ·cases e3
    ·rename_i hw
     split at e3
     ·split at e3<;>cases e3
     ·split at e3
      ·split at e3<;>cases e3
      ·cases e3
     ·split at e3<;>cases e3
     ·rename_i hk
      split at e3
      ·split at e3<;>cases e3
      ·rename_i v2 s3 hst
       split at e3
       ·rename_i hall;simp only[SJ,Except.error.injEq,PJ] at e3;obtain ⟨rfl,rfl⟩:=e3;refine ⟨by simpa using e1,o,v2,s3,e2,hk,hw,hst,λj h1 h2=>?_,λG' w' ca' val h1 h2 h3 h4=>?_⟩
        ·have:=List.all_eq_true.1 hall j (by simp;simpa using h2)
         simp only[Bool.or_eq_true,decide_eq_true_eq] at this
         rcases this with h|h
         ·omega
         ·exact h
        ·exact hp1 G' w' ca' _ h1 h2 h4 ⟨val,rfl,h3⟩
       ·cases e3
      ·cases e3
 exact BR gd hrec T hs hre ops.size (Array.replicate ops.size false) 0 G w1 ca (by simp) (by
  rw[List.countP_eq_length.2]
  ·simp
  ·intro i _;rw[hl0];rfl) I (.inl rfl)
end
def bW (C:Cfg)(f:FuncId):Code->Bool
 | .region _ ops draw=>!draw||cV C f ops.toList
 | .seq x y=>bW C f x&&bW C f y
 | .cond _ x y=>bW C f x&&bW C f y
 | .block _ b=>bW C f b
 | .loop b=>bW C f b
 | _=>true
def X2 (P:Program)(c:Code)(Q:Exit->Go.Act->World->Prop)(a:Go.Act)(w:World):Prop :=
 ∀ (b:Frame)(k:List Item)(cs:List Frame),∃ e a' w',Q e a' w'/\Arrives P (lone (b.at a (.code c :: .inLoop c::k)) cs w) b k cs e a' w'
theorem AS {P:Program}{c:Code}{Q:Exit->Go.Act->World->Prop}{a:Go.Act}{w:World}(h:X2 P c Q a w):(Code.loop c).wp P Q a w:=by
 intro b k cs;obtain ⟨e,a',w',hq,harr⟩:=h b k cs;exact ⟨e,a',w',hq,.of_steps (.one step_loop) harr⟩
theorem pZ {P:Program}{c:Code}{Q:Exit->Go.Act->World->Prop}{a:Go.Act}{w:World}(h:c.wp P (Exit.then (X2 P c Q) Q) a w):X2 P c Q a w:=by
 intro b k cs;obtain ⟨e,a₁,w₁,hq,harr⟩:=h b (.inLoop c::k) cs;cases e with
 | normal =>
   obtain ⟨e₂,a₂,w₂,hq₂,harr₂⟩:=hq b k cs;exact ⟨e₂,a₂,w₂,hq₂,.of_steps (Steps.trans harr (.one step_inLoop)) harr₂⟩
 | exit id=>exact ⟨_,a₁,w₁,hq,.pass (x:=.inLoop c) rfl (λ_ _=>.inl (by simp)) harr⟩
 | goto l=>exact ⟨_,a₁,w₁,hq,.pass (x:=.inLoop c) rfl (λ_ _=>.inl (by simp)) harr⟩
 | ret=>exact ⟨_,a₁,w₁,hq,.pass (x:=.inLoop c) rfl (λ_ _=>.inl (by simp)) harr⟩
 | panic ch=>exact ⟨_,a₁,w₁,hq,.pass (x:=.inLoop c) rfl (λ_ _=>.inl (by simp)) harr⟩
 | outgrown=>exact ⟨_,a₁,w₁,hq,.pass (x:=.inLoop c) rfl (λ_ _=>.inl (by simp)) harr⟩
def jk (C:Cfg)(recL:FuncId->Nat->Code->AAct->St->ARes):Prop :=
 ∀ f cur b a s x,recL f cur b a s=some x->bW C f b=true->∀ G w ca Q,Rel C G s.heap w->ActR G w a ca->Post C G s.heap w x Q->X2 C.P b Q ca w
theorem VList.clr {G:Gh}{w:World}:∀ {m:List Bool} {l:List AV} {vs:List Value},VList G w l vs->VList G w (clr m l) vs
 | [],l,vs,h=>by simpa [Abs.clr] using h
 | b::m,[],vs,h=>by cases b<;>simpa [Abs.clr] using h
 | true::m,a::l,vs,h=>by
   simp only[VList] at h;obtain ⟨x,y,rfl,h1,h2⟩:=h;simp only[Abs.clr,VList];exact ⟨x,y,rfl,h1,VList.clr h2⟩
 | false::m,a::l,vs,h=>by
   simp only[VList] at h;obtain ⟨x,y,rfl,h1,h2⟩:=h;simp only[Abs.clr,VList];exact ⟨x,y,rfl,by simp[VR],VList.clr h2⟩
theorem ActR.head {C:Cfg}{G:Gh}{w:World}{f:FuncId}{id:Nat}{a:AAct}{ca:Go.Act}(h:ActR G w a ca):ActR G w (jZ C f id a) ca:=by
 unfold jZ
 split
 ·exact ⟨VList.clr h.tmps,h.defers⟩
 ·exact h
section
variable {C:Cfg}{rec:FuncId->List AV->Heap->Option CRes}{recL:FuncId->Nat->Code->AAct->St->ARes}{f:FuncId}
theorem Post.seq {G:Gh}{H:Heap}{w:World}{x1:AExit×AAct×St}{K:Go.Act->World->Prop}{Q:Exit->Go.Act->World->Prop}
  (hn:x1.1=.normal->∀ G' w' ca',Rel C G' x1.2.2.heap w'->Step G H w G' x1.2.2.heap w'->ActR G' w' x1.2.1 ca'->K ca' w')
  (hq:x1.1 ≠ .normal->Post C G H w x1 Q):Post C G H w x1 (Exit.then K Q):=by
 intro G' w' ca' e' h1 h2 h3 h4;obtain ⟨e,a,s⟩:=x1;cases e with
 | normal =>
   simp only[gy] at h4;subst h4;exact hn rfl G' w' ca' h1 h2 h3
 | exit id =>
   have:=hq (by simp) G' w' ca' e' h1 h2 h3 h4
   simp only[gy] at h4;subst h4;exact this
 | ret =>
   have:=hq (by simp) G' w' ca' e' h1 h2 h3 h4
   simp only[gy] at h4;subst h4;exact this
 | panic v =>
   have:=hq (by simp) G' w' ca' e' h1 h2 h3 h4
   simp only[gy] at h4;obtain ⟨val,rfl,_⟩:=h4;exact this
theorem c8 (gd:Good C)(hrec:ec C rec)(hloop:jk C recL):∀ (c:Code) (cur:Nat) (a:AAct) (s:St) (x:AExit×AAct×St),bm C rec recL f cur c a s=some x->bW C f c=true ->
  ∀ G w ca Q,Rel C G s.heap w->ActR G w a ca->Post C G s.heap w x Q->c.wp C.P Q ca w
 | .skip,cur,a,s,x,h,hs,G,w,ca,Q,r,ha,hp=>by
   simp only[bm,SJ] at h;subst h;exact wp_skip (hp G w ca .normal r (Step.refl _ _ _) ha rfl)
 | .label l,cur,a,s,x,h,hs,G,w,ca,Q,r,ha,hp=>by
   simp only[bm,SJ] at h;subst h;exact wp_label (hp G w ca .normal r (Step.refl _ _ _) ha rfl)
 | .exit id,cur,a,s,x,h,hs,G,w,ca,Q,r,ha,hp=>by
   simp only[bm,SJ] at h;subst h;exact wp_exit (hp G w ca (.exit id) r (Step.refl _ _ _) ha rfl)
 | .ret,cur,a,s,x,h,hs,G,w,ca,Q,r,ha,hp=>by
   simp only[bm,SJ] at h;subst h;exact wp_ret (hp G w ca .ret r (Step.refl _ _ _) ha rfl)
 | .region id ops draw,cur,a,s,x,h,hs,G,w,ca,Q,r,ha,hp=>by
   simp only[bm] at h;cases draw with
   | true =>
     simp only[if_true] at h;simp only[bW,Bool.not_true,Bool.false_or] at hs;exact JU gd hrec hs h r ha hp
   | false =>
     simp only[Bool.false_eq_true,if_false] at h;exact AD gd hrec h r ha hp
 | .seq y z,cur,a,s,x,h,hs,G,w,ca,Q,r,ha,hp=>by
   simp only[bW,Bool.and_eq_true] at hs;simp only[bm] at h;refine wp_seq ?_
   split at h
   ·rename_i a' s' h1;refine c8 gd hrec hloop y cur a s _ h1 hs.1 G w ca _ r ha (Post.seq (λ_ G' w' ca' k1 k2 k3=>?_) (λhne=>absurd rfl hne))
    exact c8 gd hrec hloop z cur a' s' x h hs.2 G' w' ca' Q k1 k3 (hp.after k2)
   ·rename_i hne;refine c8 gd hrec hloop y cur a s x h hs.1 G w ca _ r ha (Post.seq (λhx=>?_) (λ_=>hp))
    obtain ⟨e,a',s'⟩:=x;simp only at hx;subst hx;exact absurd h (hne a' s')
 | .cond c y z,cur,a,s,x,h,hs,G,w,ca,Q,r,ha,hp=>by
   simp only[bW,Bool.and_eq_true] at hs;simp only[bm] at h
   split at h
   ·rename_i hc;have hv:=VR.bool_inv (bd r ha.tmps hc);exact wp_cond_true hv (c8 gd hrec hloop y cur a s x h hs.1 G w ca Q r ha hp)
   ·rename_i hc;have hv:=VR.bool_inv (bd r ha.tmps hc);exact wp_cond_false hv (c8 gd hrec hloop z cur a s x h hs.2 G w ca Q r ha hp)
   ·cases h
 | .block id b,cur,a,s,x,h,hs,G,w,ca,Q,r,ha,hp=>by
   simp only[bW] at hs;simp only[bm] at h;refine wp_block ?_
   split at h
   ·rename_i id' a' s' h1;refine c8 gd hrec hloop b id a s _ h1 hs G w ca _ r ha ?_;intro G' w' ca' e' k1 k2 k3 k4;simp only[gy] at k4;subst k4;simp only[Exit.inBlock]
    split at h
    ·rename_i e;simp only[SJ] at h;subst h;rw[if_pos e];exact hp G' w' ca' .normal k1 k2 k3 rfl
    ·rename_i e;simp only[SJ] at h;subst h;rw[if_neg e];exact hp G' w' ca' (.exit id') k1 k2 k3 rfl
   ·rename_i hne;refine c8 gd hrec hloop b id a s x h hs G w ca _ r ha ?_;intro G' w' ca' e' k1 k2 k3 k4;have hq:=hp G' w' ca' e' k1 k2 k3 k4;obtain ⟨e,a',s'⟩:=x;cases e with
    | normal=>simp only[gy] at k4;subst k4;exact hq
    | exit id'=>exact absurd h (hne id' a' s')
    | ret=>simp only[gy] at k4;subst k4;exact hq
    | panic v=>simp only[gy] at k4;obtain ⟨val,rfl,_⟩:=k4;exact hq
 | .loop b,cur,a,s,x,h,hs,G,w,ca,Q,r,ha,hp=>by
   simp only[bW] at hs;simp only[bm] at h;refine AS (pZ ?_)
   split at h
   ·rename_i a' s' h1;refine c8 gd hrec hloop b cur _ s _ h1 hs G w ca _ r ha.head (Post.seq (λ_ G' w' ca' k1 k2 k3=>?_) (λhne=>absurd rfl hne))
    exact hloop f cur b a' s' x h hs G' w' ca' Q k1 k3 (hp.after k2)
   ·rename_i hne;refine c8 gd hrec hloop b cur _ s x h hs G w ca _ r ha.head (Post.seq (λhx=>?_) (λ_=>hp))
    obtain ⟨e,a',s'⟩:=x;simp only at hx;subst hx;exact absurd h (hne a' s')
 | .scope b,cur,a,s,x,h,hs,G,w,ca,Q,r,ha,hp=>by simp[bm] at h
 | .goto l,cur,a,s,x,h,hs,G,w,ca,Q,r,ha,hp=>by simp[bm] at h
 | .rangeFunc ..,cur,a,s,x,h,hs,G,w,ca,Q,r,ha,hp=>by simp[bm] at h
theorem Ba (gd:Good C)(hrec:ec C rec)(hloop:jk C recL):jk C (λf cur b a s=>bm C rec recL f cur (.loop b) a s):=by
 intro f cur b a s x h hs G w ca Q r ha hp;simp only[bm] at h;refine pZ ?_
 split at h
 ·rename_i a' s' h1;refine c8 gd hrec hloop b cur _ s _ h1 hs G w ca _ r ha.head (Post.seq (λ_ G' w' ca' k1 k2 k3=>?_) (λhne=>absurd rfl hne))
  exact hloop f cur b a' s' x h hs G' w' ca' Q k1 k3 (hp.after k2)
 ·rename_i hne;refine c8 gd hrec hloop b cur _ s x h hs G w ca _ r ha.head (Post.seq (λhx=>?_) (λ_=>hp))
  obtain ⟨e,a',s'⟩:=x;simp only at hx;subst hx;exact absurd h (hne a' s')
end
structure Sh (base:Nat)(G G' : Gh):Prop where
 rho:∀ n,n<base->G'.rho n=G.rho n
 lam:∀ n,n<base->G'.lam n=G.lam n
 gen:G'.gen=G.gen
 imm:∀ b u,G.imm b=some u->G'.imm b=some u
section
variable {base:Nat}{G G' : Gh}{w:World}
theorem Sh.immTo (h:Sh base G G'){b n:Nat}(hi:ImmTo G b n):ImmTo G' b n:=by
 obtain ⟨u,h1,h2⟩:=hi;exact ⟨u,h.imm b u h1,h2⟩
theorem Sh.linOk (h:Sh base G G'){b off len cap sz:Nat}{l:Lin}(hl:l.low base=true)(hk:LinOk G w b off len cap sz l):LinOk G' w b off len cap sz l:=by
 cases l with
 | lit=>exact hk
 | full=>exact hk
 | dead=>exact hk
 | frz=>exact hk
 | live id g =>
   simp only[Lin.low,decide_eq_true_eq] at hl;obtain ⟨h1,h2,h3,h4⟩:=hk;refine ⟨by rw[h.gen];exact h1,by rw[h.lam id hl];exact h2,h3,λe=>?_⟩
   rw[h.gen] at e;obtain ⟨n,k1,k2,k3⟩:=h4 e;refine ⟨n,k1,k2,?_⟩
   rcases k3 with k3|⟨k3,k4⟩
   ·exact .inl k3
   ·exact .inr ⟨by rw[h.lam id hl];exact k3,h.imm _ _ k4⟩
mutual
theorem VR.shift (h:Sh base G G'):(a:AV)->(v:Value)->a.low base=true->VR G w a v->VR G' w a v
 | .bool b,v,_,hv=>by simpa [VR] using hv
 | .int k n,v,_,hv=>by simpa [VR] using hv
 | .str s,v,_,hv=>by simpa [VR] using hv
 | .nilp,v,_,hv=>by simpa [VR] using hv
 | .ptr n off,v,hl,hv=>by
   simp only[AV.low,decide_eq_true_eq] at hl;simp only[VR] at hv ⊢;rw[h.rho n hl];exact hv
 | .iptr xs,v,hl,hv=>by
   simp only[AV.low] at hl;simp only[VR] at hv ⊢;obtain ⟨b,off,e,h1,h2⟩:=hv;exact ⟨b,off,e,h.immTo h1,VRow.shift h b xs off hl h2⟩
 | .nils,v,_,hv=>by simpa [VR] using hv
 | .sl sz es lin,v,hl,hv=>by
   simp only[AV.low,Bool.and_eq_true] at hl;simp only[VR] at hv ⊢;obtain ⟨b,off,cap,e,h0,h1,h2,h3⟩:=hv;exact ⟨b,off,cap,e,h0,h.immTo h1,h.linOk hl.2 h2,VElems.shift h b sz es off hl.1 h3⟩
 | .rsl n off len cap sz,v,hl,hv=>by
   simp only[AV.low,decide_eq_true_eq] at hl;simp only[VR] at hv ⊢;rw[h.rho n hl];exact hv
 | .nilmap,v,_,hv=>by simpa [VR] using hv
 | .map n,v,hl,hv=>by
   simp only[AV.low,decide_eq_true_eq] at hl;simp only[VR] at hv ⊢;rw[h.rho n hl];exact hv
 | .func fn f c,v,hl,hv=>by
   simp only[AV.low,Bool.and_eq_true] at hl;simp only[VR] at hv ⊢;obtain ⟨f',c',e,h1,h2⟩:=hv;exact ⟨f',c',e,VList.shift h f _ hl.1 h1,VList.shift h c _ hl.2 h2⟩
 | .nilfunc,v,_,hv=>by simpa [VR] using hv
 | .iface t a,v,hl,hv=>by
   simp only[AV.low] at hl;simp only[VR] at hv ⊢;obtain ⟨x,e,h1⟩:=hv;exact ⟨x,e,VR.shift h a x hl h1⟩
 | .nilif,v,_,hv=>by simpa [VR] using hv
 | .agg cs,v,hl,hv=>by
   simp only[AV.low] at hl;simp only[VR] at hv ⊢;obtain ⟨c,e,h1⟩:=hv;exact ⟨c,e,VList.shift h cs _ hl h1⟩
 | .tuple vs,v,hl,hv=>by
   simp only[AV.low] at hl;simp only[VR] at hv ⊢;obtain ⟨c,e,h1⟩:=hv;exact ⟨c,e,VList.shift h vs _ hl h1⟩
 | .top,v,_,hv=>by simp[VR]
theorem VList.shift (h:Sh base G G'):(l:List AV)->(m:List Value)->aG base l=true->VList G w l m->VList G' w l m
 | [],m,_,hm=>by simpa [VList] using hm
 | a::r,m,hl,hm=>by
   simp only[aG,Bool.and_eq_true] at hl;simp only[VList] at hm ⊢;obtain ⟨x,y,e,h1,h2⟩:=hm;exact ⟨x,y,e,VR.shift h a x hl.1 h1,VList.shift h r y hl.2 h2⟩
theorem VRow.shift (h:Sh base G G')(b:Nat):(l:List AV)->(off:Nat)->aG base l=true->VRow G w b off l->VRow G' w b off l
 | [],off,_,_=>by simp[VRow]
 | a::r,off,hl,hm=>by
   simp only[aG,Bool.and_eq_true] at hl;simp only[VRow] at hm ⊢;obtain ⟨⟨x,h1,h2⟩,h3⟩:=hm;exact ⟨⟨x,h1,VR.shift h a x hl.1 h2⟩,VRow.shift h b r (off+1) hl.2 h3⟩
theorem VElems.shift (h:Sh base G G')(b sz:Nat):(l:List AV)->(off:Nat)->aG base l=true->VElems G w b sz off l->VElems G' w b sz off l
 | [],off,_,_=>by simp[VElems]
 | e::r,off,hl,hm=>by
   simp only[aG,Bool.and_eq_true] at hl;simp only[VElems] at hm ⊢;obtain ⟨h1,h2,h3⟩:=hm;refine ⟨h1,?_,VElems.shift h b sz r (off+sz) hl.2 h3⟩
   rcases h2 with ⟨ho,x,h4,h5⟩|h2
   ·exact .inl ⟨ho,x,h4,VR.shift h e x hl.1 h5⟩
   ·exact .inr (VAgg.shift h b e off hl.1 h2)
theorem VAgg.shift (h:Sh base G G')(b:Nat):(e:AV)->(off:Nat)->e.low base=true->VAgg G w b off e->VAgg G' w b off e
 | .agg cs,off,hl,hm=>by
   simp only[AV.low] at hl;simp only[VAgg] at hm ⊢;exact VRow.shift h b cs off hl hm
 | .bool _,_,_,hm=>by simp[VAgg] at hm
 | .int _ _,_,_,hm=>by simp[VAgg] at hm
 | .str _,_,_,hm=>by simp[VAgg] at hm
 | .nilp,_,_,hm=>by simp[VAgg] at hm
 | .ptr _ _,_,_,hm=>by simp[VAgg] at hm
 | .iptr _,_,_,hm=>by simp[VAgg] at hm
 | .nils,_,_,hm=>by simp[VAgg] at hm
 | .sl _ _ _,_,_,hm=>by simp[VAgg] at hm
 | .rsl _ _ _ _ _,_,_,hm=>by simp[VAgg] at hm
 | .nilmap,_,_,hm=>by simp[VAgg] at hm
 | .map _,_,_,hm=>by simp[VAgg] at hm
 | .func _ _ _,_,_,hm=>by simp[VAgg] at hm
 | .nilfunc,_,_,hm=>by simp[VAgg] at hm
 | .iface _ _,_,_,hm=>by simp[VAgg] at hm
 | .nilif,_,_,hm=>by simp[VAgg] at hm
 | .tuple _,_,_,hm=>by simp[VAgg] at hm
 | .top,_,_,hm=>by simp[VAgg] at hm
end
theorem MapR.shift (h:Sh base G G'):∀ (l:List (AV×AV)) (i:Nat) (m:List MapEntry),gW base l=true->MapR G w i l m->MapR G' w i l m
 | [],i,m,_,hm=>hm
 | (k,v)::r,i,m,hl,hm=>by
   simp only[gW,Bool.and_eq_true] at hl;obtain ⟨e,m',h1,h2,h3,h4,h5⟩:=hm;exact ⟨e,m',h1,VR.shift h _ _ hl.1.1 h2,VR.shift h _ _ hl.1.2 h3,h4,MapR.shift h r (i+1) m' hl.2 h5⟩
theorem ObjR.shift (h:Sh base G G'){b:Nat}{o:AObj}(hl:o.low base=true)(ho:ObjR G w b o):ObjR G' w b o:=by
 cases o with
 | cells cs =>
   obtain ⟨m,h1,h2,h3⟩:=ho;exact ⟨m,h1,h2,VRow.shift h b cs 0 hl h3⟩
 | map es =>
   obtain ⟨l,h1,h2⟩:=ho;exact ⟨l,h1,MapR.shift h es 0 _ hl h2⟩
 | lin g=>exact ho
 | gone=>trivial
end
def kV (w:World)(b:Nat):Option Nat:=match w.heap[b]? with
 | some (.cells c _ _)=>some c.size
 | _=>none
open Classical in
noncomputable def Gh.gc (G:Gh)(H:Heap)(w:World)(base:Nat):Gh where
 rho n:=if n<base then G.rho n else none
 lam n:=if n<base then G.lam n else none
 gen:=G.gen
 imm b:=if ∃ n,base<=n/\G.rho n=some (some b)/\∃ cs,H[n]?=some (.cells cs) then kV w b else G.imm b
section
variable {C:Cfg}{G0 G:Gh}{H0 H:Heap}{w0 w:World}
open Classical in
theorem ev (r:Rel C G H w)(base:Nat):Sh base G (G.gc H w base) where
 rho n h:=by simp[Gh.gc,h]
 lam n h:=by simp[Gh.gc,h]
 gen:=rfl
 imm b u h:=by
  show (if _ then _ else _)=_
  rw[if_neg]
  ·exact h
  ·rintro ⟨n,_,h1,_⟩
   rw[(r.rimm n b h1).1] at h;cases h
open Classical in
theorem uZ (r:Rel C G H w){base n b m:Nat}{cs:List AV}(h1:base<=n)(h2:G.rho n=some (some b))(h3:H[n]?=some (.cells cs))(hp:cN w b m):(G.gc H w base).imm b=some m:=by
 show (if _ then _ else _)=_
 rw[if_pos ⟨n,h1,h2,cs,h3⟩];obtain ⟨c,e,k1,k2⟩:=hp;simp[kV,k1,k2]
open Classical in
theorem wI {base b:Nat}(h:∀ n,G.rho n≠some (some b)):(G.gc H w base).imm b=G.imm b:=by
 show (if _ then _ else _)=_
 rw[if_neg]
 rintro ⟨n,_,h1,_⟩
 exact h n h1
open Classical in
theorem KC (gd:Good C)(r0:Rel C G0 H0 w0)(r:Rel C G H w)(st:Step G0 H0 w0 G H w)(hlow:∀ (n:Nat) (o:AObj),n<H0.length->H[n]?=some o->o.low H0.length=true) :
  Rel C (G.gc H w H0.length) (H.take H0.length) w/\Step G0 H0 w0 (G.gc H w H0.length) (H.take H0.length) w:=by
 have sh:=ev r H0.length;have hlen:(H.take H0.length).length=H0.length:=by rw[List.length_take];exact Nat.min_eq_left st.len
 have hget:∀ (n:Nat) (o:AObj),(H.take H0.length)[n]?=some o->n<H0.length/\H[n]?=some o:=by
  intro n o h;have h1:=(List.getElem?_eq_some_iff.1 h).1;rw[hlen] at h1;exact ⟨h1,by rwa [List.getElem?_take_of_lt h1] at h⟩
 have hrho:∀ n r',(G.gc H w H0.length).rho n=some r'->n<H0.length/\G.rho n=some r':=by
  intro n r' h;have h' : (if n<H0.length then G.rho n else none)=some r':=h
  split at h'
  ·rename_i hn;exact ⟨hn,h'⟩
  ·cases h'
 have hlam:∀ n b,(G.gc H w H0.length).lam n=some b->n<H0.length/\G.lam n=some b:=by
  intro n r' h;have h' : (if n<H0.length then G.lam n else none)=some r':=h
  split at h'
  ·rename_i hn;exact ⟨hn,h'⟩
  ·cases h'
 refine ⟨?_,?_⟩
 ·exact {
   obj:=λn o ho b hb=>by
    obtain ⟨h1,h2⟩:=hget n o ho;exact ObjR.shift sh (hlow n o h1 h2) (r.obj n o h2 b (hrho n _ hb).2)
   dead:=λn o ho hd=>r.dead n o (hget n o ho).2 (hrho n _ hd).2
   out:=λn hn=>by
    rw[hlen] at hn;have:¬ n<H0.length:=by omega
    exact ⟨by show (if _ then _ else _)=_;rw[if_neg this],by show (if _ then _ else _)=_;rw[if_neg this]⟩
   lin:=λn g hg=>by
    obtain ⟨h1,h2⟩:=hget n _ hg;obtain ⟨a1,a2,b,u,m,a3,a4,a5,a6⟩:=r.lin n g h2;exact ⟨a1,by rw[sh.rho n h1];exact a2,b,u,m,by rw[sh.lam n h1];exact a3,sh.imm _ _ a4,a5,a6⟩
   lamE:=λn b hb=>by
    obtain ⟨h1,h2⟩:=hlam n b hb;obtain ⟨g,hg⟩:=r.lamE n b h2;exact ⟨g,by rw[List.getElem?_take_of_lt h1];exact hg⟩
   rinj:=λn m b h1 h2=>r.rinj n m b (hrho n _ h1).2 (hrho m _ h2).2
   linj:=λn m b h1 h2=>r.linj n m b (hlam n _ h1).2 (hlam m _ h2).2
   rimm:=λn b hb=>by
    obtain ⟨h1,h2⟩:=hrho n _ hb;refine ⟨?_,(r.rimm n b h2).2⟩;show (if _ then _ else _)=_
    rw[if_neg]
    ·exact (r.rimm n b h2).1
    ·rintro ⟨m,k1,k2,_⟩
     have:=r.rinj n m b h2 k2;omega
   immE:=λb u hu=>by
    have hu' : (if _ then _ else _)=some u:=hu
    split at hu'
    ·rename_i hex;obtain ⟨n,k1,k2,cs,k3⟩:=hex;obtain ⟨m,⟨c,e,g1,g2⟩,_⟩:=r.obj n _ k3 b k2;simp only[kV,g1,SJ] at hu';exact ⟨c,e,_,g1,by omega⟩
    ·exact r.immE b u hu'
   low:=λn o ho=>by
    obtain ⟨h1,h2⟩:=hget n o ho;rw[hlen];exact hlow n o h1 h2
   glob:=λi xs hg=>by
    obtain ⟨h1,h2⟩:=r.glob i xs hg;exact ⟨sh.immTo h1,VRow.shift sh i xs 0 (bO (Nat.zero_le _) _ (gd.glob i xs hg)) h2⟩
   globS:=r.globS }
 ·have hlt:∀ n q,G0.rho n=some q->n<H0.length:=λn q h=>by
   rcases Nat.lt_or_ge n H0.length with h1|h1
   ·exact h1
   ·rw[(r0.out n h1).1] at h;cases h
  have hltl:∀ n b,G0.lam n=some b->n<H0.length:=λn q h=>by
   rcases Nat.lt_or_ge n H0.length with h1|h1
   ·exact h1
   ·rw[(r0.out n h1).2] at h;cases h
  exact {
   ext:={
    rho:=λn q h=>by rw[sh.rho n (hlt n q h)];exact st.ext.rho n q h
    lam:=λn b h=>by
     obtain ⟨⟨b',h1⟩,h2,h3⟩:=st.ext.lam n b h;refine ⟨⟨b',by rw[sh.lam n (hltl n b h)];exact h1⟩,h2,λe=>?_⟩
     obtain ⟨k1,k2⟩:=h3 e;exact ⟨by rw[sh.lam n (hltl n b h)];exact k1,λu hu=>sh.imm _ _ (k2 u hu)⟩
    imm:=λb u hu=>by
     obtain ⟨u',h1,h2⟩:=st.ext.imm b u hu;exact ⟨u',sh.imm _ _ h1,h2⟩
    cells:=st.ext.cells
    plain:=st.ext.plain
    foreign:=λb hb h1 h2=>by
     obtain ⟨k1,k2,k3⟩:=st.ext.foreign b hb h1 h2;exact ⟨k1,by rw[wI k3];exact k2,λn hn=>k3 n (hrho n _ hn).2⟩
    size:=st.ext.size
    tape:=st.ext.tape
    os:=st.ext.os
    output:=st.ext.output }
   pend:=λn hn h1 h2=>by
    obtain ⟨a1,a2,a3⟩:=st.pend n hn h1 h2;exact ⟨by rw[sh.rho n hn];exact a1,by rw[sh.lam n hn];exact a2,by rw[List.getElem?_take_of_lt hn];exact a3⟩
   gone:=λn b h1 h2=>by
    obtain ⟨a1,a2,a3⟩:=st.gone n b h1 h2;have hn:=hlt n _ h2;exact ⟨by rw[sh.rho n hn];exact a1,by rw[List.getElem?_take_of_lt hn];exact a2,a3⟩
   len:=by rw[hlen];exact Nat.le_refl _ }
theorem oG {b:Nat}{H:Heap}{e:AV}(h:e.one=true):(e.settle b H).one=true:=by
 cases e
 case rsl n off len cap sz =>
  simp only[AV.settle]
  split
  ·rfl
  ·split
   ·split<;>rfl
   ·rfl
 all_goals simp_all [AV.settle,AV.one]
theorem cT {b:Nat}{H:Heap}:∀ (l:List AV),(bH b H l).length=l.length
 | []=>rfl
 | a::r=>by simp[bH,cT r]
theorem jW {sz:Nat}:∀ {n:Nat} {cs:List AV},0<sz->n*sz<=cs.length->cs.all AV.one=true->∀ e∈bQ sz n cs,Shape sz e
 | 0,cs,_,_,_=>by simp[bQ]
 | n+1,cs,h0,hl,ho=>by
   rw[Nat.succ_mul] at hl;intro e he;simp only[bQ,List.mem_cons] at he
   rcases he with rfl|he
   ·split
    ·rename_i h1;cases cs with
     | nil=>simp at hl;omega
     | cons x r =>
       simp only[List.all_cons,Bool.and_eq_true] at ho;simp only[List.headD_cons];exact ⟨by rw[AV.one_cells ho.1,h1];rfl,.inl ho.1⟩
    ·exact ⟨by simp[AV.cells];omega,.inr ⟨_,rfl⟩⟩
   ·exact jW (n:=n) (cs:=cs.drop sz) h0 (by simp;omega) (by
     rw[List.all_eq_true] at ho ⊢;exact λx hx=>ho x (List.mem_of_mem_drop hx)) e he
mutual
theorem i7 (r:Rel C G H w){base:Nat}(G' : Gh)(hG:G'=G.gc H w base):(a:AV)->(v:Value)->(a.settle base H).low base=true->VR G w a v->VR G' w (a.settle base H) v
 | .sl sz es lin,v,hl,hv=>by
   have sh:Sh base G G':=hG ▸ ev r base;simp only[AV.settle,AV.low,Bool.and_eq_true] at hl;simp only[AV.settle];simp only[VR] at hv ⊢;obtain ⟨b,off,cap,e,h0,h1,h2,h3⟩:=hv;refine ⟨b,off,cap,by rw[cT];exact e,by rw[cT];exact h0,by rw[cT];exact sh.immTo h1,?_,oJ r G' hG b sz es off hl.1 h3⟩
   rw[cT]
   split
   ·rename_i hlow;exact sh.linOk hlow h2
   ·rename_i hlow;have:lin ≠ .frz:=λe=>by subst e;exact hlow rfl
    exact fc h2 this
 | .rsl n off len cap sz,v,hl,hv=>by
   have sh:Sh base G G':=hG ▸ ev r base;simp only[AV.settle] at hl ⊢
   split at hl
   ·rename_i hn;rw[if_pos hn];exact VR.shift sh _ _ (by simp[AV.low,hn]) hv
   ·rename_i hn;rw[if_neg hn];cases hH:H[n]? with
    | none=>rw[hH] at hl;simp[AV.low] at hl;omega
    | some ob =>
      rw[hH] at hl;cases ob with
      | cells cs =>
        simp only at hl ⊢
        split at hl
        ·rename_i hc;rw[if_pos hc];obtain ⟨c1,c2,c3⟩:=hc;simp only[VR] at hv;obtain ⟨q,b,cap',h1,h2,h3,h4,h5⟩:=hv;obtain ⟨b',hb,hob⟩:=r.block hH (by simp) h1
         obtain ⟨rfl,m,h6,h7⟩:=h5 b' hb;subst hb;obtain ⟨m',_,k2,hrow⟩:=hob
         have hone:(cs.drop off).all AV.one=true:=by
          rw[List.all_eq_true] at c3 ⊢;exact λx hx=>c3 x (List.mem_of_mem_drop hx)
         have hch:=dZ (n:=len) (cs:=cs.drop off) c1 (by simp;omega) hone
         have himm:G'.imm b'=some m:=by rw[hG];exact uZ r (by omega) h1 hH h6
         have hmul:len*sz<=cap'*sz:=Nat.mul_le_mul_right _ (by omega)
         simp only[AV.low,Bool.and_eq_true] at hl;simp only[VR];refine ⟨b',off,cap',by rw[hch.2];exact h2,by rw[hch.2];omega,⟨m,himm,by rw[hch.2];omega⟩,⟨m,h6⟩,?_⟩
         refine VElems.of_shape (jW c1 (by simp;omega) hone) ?_
         have hlf:=dX hl.1;rw[hch.1] at hlf ⊢;have hrow':=VRow.take (len*sz) (VRow.drop off hrow);simp only[Nat.zero_add] at hrow';exact VRow.shift sh b' _ off hlf hrow'
        ·simp[AV.low] at hl;omega
      | map es=>simp[AV.low] at hl;omega
      | lin g=>simp[AV.low] at hl;omega
      | gone=>simp[AV.low] at hl;omega
 | .agg cs,v,hl,hv=>by
   simp only[AV.settle,AV.low] at hl;simp only[AV.settle];simp only[VR] at hv ⊢;obtain ⟨c,e,h1⟩:=hv;exact ⟨c,e,jE r G' hG cs _ hl h1⟩
 | .tuple cs,v,hl,hv=>by
   simp only[AV.settle,AV.low] at hl;simp only[AV.settle];simp only[VR] at hv ⊢;obtain ⟨c,e,h1⟩:=hv;exact ⟨c,e,jE r G' hG cs _ hl h1⟩
 | .bool b,v,hl,hv=>by simp only[AV.settle] at hl ⊢;exact VR.shift (hG ▸ ev r base) _ _ hl hv
 | .int k n,v,hl,hv=>by simp only[AV.settle] at hl ⊢;exact VR.shift (hG ▸ ev r base) _ _ hl hv
 | .str s,v,hl,hv=>by simp only[AV.settle] at hl ⊢;exact VR.shift (hG ▸ ev r base) _ _ hl hv
 | .nilp,v,hl,hv=>by simp only[AV.settle] at hl ⊢;exact VR.shift (hG ▸ ev r base) _ _ hl hv
 | .ptr n o,v,hl,hv=>by simp only[AV.settle] at hl ⊢;exact VR.shift (hG ▸ ev r base) _ _ hl hv
 | .iptr xs,v,hl,hv=>by simp only[AV.settle] at hl ⊢;exact VR.shift (hG ▸ ev r base) _ _ hl hv
 | .nils,v,hl,hv=>by simp only[AV.settle] at hl ⊢;exact VR.shift (hG ▸ ev r base) _ _ hl hv
 | .nilmap,v,hl,hv=>by simp only[AV.settle] at hl ⊢;exact VR.shift (hG ▸ ev r base) _ _ hl hv
 | .map n,v,hl,hv=>by simp only[AV.settle] at hl ⊢;exact VR.shift (hG ▸ ev r base) _ _ hl hv
 | .func f x y,v,hl,hv=>by simp only[AV.settle] at hl ⊢;exact VR.shift (hG ▸ ev r base) _ _ hl hv
 | .nilfunc,v,hl,hv=>by simp only[AV.settle] at hl ⊢;exact VR.shift (hG ▸ ev r base) _ _ hl hv
 | .iface t a,v,hl,hv=>by simp only[AV.settle] at hl ⊢;exact VR.shift (hG ▸ ev r base) _ _ hl hv
 | .nilif,v,hl,hv=>by simp only[AV.settle] at hl ⊢;exact VR.shift (hG ▸ ev r base) _ _ hl hv
 | .top,v,hl,hv=>by simp only[AV.settle] at hl ⊢;exact VR.shift (hG ▸ ev r base) _ _ hl hv
theorem jE (r:Rel C G H w){base:Nat}(G' : Gh)(hG:G'=G.gc H w base):(l:List AV)->(m:List Value)->aG base (bH base H l)=true->VList G w l m->VList G' w (bH base H l) m
 | [],m,_,hm=>by simpa [VList,bH] using hm
 | a::l,m,hl,hm=>by
   simp only[bH,aG,Bool.and_eq_true] at hl;simp only[bH];simp only[VList] at hm ⊢;obtain ⟨x,y,e,h1,h2⟩:=hm;exact ⟨x,y,e,i7 r G' hG a x hl.1 h1,jE r G' hG l y hl.2 h2⟩
theorem oH (r:Rel C G H w){base:Nat}(G' : Gh)(hG:G'=G.gc H w base)(b:Nat):(l:List AV)->(off:Nat)->aG base (bH base H l)=true->VRow G w b off l->VRow G' w b off (bH base H l)
 | [],off,_,hm=>by simp[VRow,bH]
 | a::l,off,hl,hm=>by
   simp only[bH,aG,Bool.and_eq_true] at hl;simp only[bH];simp only[VRow] at hm ⊢;obtain ⟨⟨x,h1,h2⟩,h3⟩:=hm;exact ⟨⟨x,h1,i7 r G' hG a x hl.1 h2⟩,oH r G' hG b l (off+1) hl.2 h3⟩
theorem oJ (r:Rel C G H w){base:Nat}(G' : Gh)(hG:G'=G.gc H w base)(b sz:Nat):(l:List AV)->(off:Nat)->aG base (bH base H l)=true->VElems G w b sz off l->VElems G' w b sz off (bH base H l)
 | [],off,_,hm=>by simp[VElems,bH]
 | e::l,off,hl,hm=>by
   simp only[bH,aG,Bool.and_eq_true] at hl;simp only[bH];simp only[VElems] at hm ⊢;obtain ⟨h1,h2,h3⟩:=hm;refine ⟨?_,?_,oJ r G' hG b sz l (off+sz) hl.2 h3⟩
   ·rcases h2 with ⟨ho,x,h4,h5⟩|h2
    ·rw[AV.one_cells (oG ho)];rw[AV.one_cells ho] at h1;exact h1
    ·cases e<;>simp only[VAgg] at h2
     simp only[AV.settle,AV.cells,cT] at h1 ⊢;exact h1
   ·rcases h2 with ⟨ho,x,h4,h5⟩|h2
    ·exact .inl ⟨oG ho,x,h4,i7 r G' hG e x hl.1 h5⟩
    ·right
     exact vZ r G' hG b e off hl.1 h2
theorem vZ (r:Rel C G H w){base:Nat}(G' : Gh)(hG:G'=G.gc H w base)(b:Nat):(e:AV)->(off:Nat)->(e.settle base H).low base=true->VAgg G w b off e->VAgg G' w b off (e.settle base H)
 | .agg cs,off,hl,hm=>by
   simp only[AV.settle,AV.low] at hl;simp only[AV.settle];simp only[VAgg] at hm ⊢;exact oH r G' hG b cs off hl hm
 | .bool _,_,_,hm=>by simp[VAgg] at hm
 | .int _ _,_,_,hm=>by simp[VAgg] at hm
 | .str _,_,_,hm=>by simp[VAgg] at hm
 | .nilp,_,_,hm=>by simp[VAgg] at hm
 | .ptr _ _,_,_,hm=>by simp[VAgg] at hm
 | .iptr _,_,_,hm=>by simp[VAgg] at hm
 | .nils,_,_,hm=>by simp[VAgg] at hm
 | .sl _ _ _,_,_,hm=>by simp[VAgg] at hm
 | .rsl _ _ _ _ _,_,_,hm=>by simp[VAgg] at hm
 | .nilmap,_,_,hm=>by simp[VAgg] at hm
 | .map _,_,_,hm=>by simp[VAgg] at hm
 | .func _ _ _,_,_,hm=>by simp[VAgg] at hm
 | .nilfunc,_,_,hm=>by simp[VAgg] at hm
 | .iface _ _,_,_,hm=>by simp[VAgg] at hm
 | .nilif,_,_,hm=>by simp[VAgg] at hm
 | .tuple _,_,_,hm=>by simp[VAgg] at hm
 | .top,_,_,hm=>by simp[VAgg] at hm
end
end
structure EscSt (s s' : St):Prop where
 esc:s'.esc<=s.esc
 len:s.heap.length<=s'.heap.length
 low:∀ (n:Nat) (o0 o1:AObj) (b:Nat),n<s'.esc->n<b->s.heap[n]?=some o0->s'.heap[n]?=some o1->o0.low b=true->o1.low b=true
theorem EscSt.refl (s:St):EscSt s s:=⟨Nat.le_refl _,Nat.le_refl _,λn o0 o1 b _ _ h1 h2 h=>by
 rw[h1] at h2;simp only[SJ] at h2;subst h2;exact h⟩
theorem EscSt.trans {s1 s2 s3:St}(h:EscSt s1 s2)(k:EscSt s2 s3):EscSt s1 s3 where
 esc:=Nat.le_trans k.esc h.esc
 len:=Nat.le_trans h.len k.len
 low n o0 o1 b h1 h2 h3 h4 h5:=by
  have hlt:n<s2.heap.length:=Nat.lt_of_lt_of_le (List.getElem?_eq_some_iff.1 h3).1 h.len;have hm:s2.heap[n]?=some (s2.heap[n]'hlt):=List.getElem?_eq_getElem hlt;exact k.low n _ o1 b h1 h2 hm h4 (h.low n o0 _ b (Nat.lt_of_lt_of_le h1 k.esc) h2 h3 hm h5)
theorem EscSt.append (s:St)(l:List AObj):EscSt s { s with heap:=s.heap++l } where
 esc:=Nat.le_refl _
 len:=by simp
 low n o0 o1 b _ _ h1 h2 h:=by
  have hlt:=(List.getElem?_eq_some_iff.1 h1).1;rw[List.getElem?_append_left hlt,h1] at h2;simp only[SJ] at h2;subst h2;exact h
theorem EscSt.set {s:St}{r:Nat}{ob ob' : AObj}{e:Nat}(hr:s.heap[r]?=some ob)(he:e<=s.esc)(h:r<e->∀ b,r<b->ob.low b=true->ob'.low b=true) :
  EscSt s { heap:=s.heap.set r ob',esc:=e } where
 esc:=he
 len:=by simp
 low n o0 o1 b h1 h2 h3 h4 h5:=by
  by_cases hn:n=r
  ·subst hn;have hlt:=(List.getElem?_eq_some_iff.1 hr).1;rw[List.getElem?_set_self hlt] at h4;simp only[SJ] at h4;subst h4;rw[hr] at h3;simp only[SJ] at h3;subst h3;exact h h1 b h2 h5
  ·rw[List.getElem?_set_ne (Ne.symm hn),h3] at h4;simp only[SJ] at h4;subst h4;exact h5
theorem kh {v:AV}{r:Nat}{s:St}:dl v r s<=s.esc:=by
 unfold dl;split<;>omega
theorem jd {v:AV}{r:Nat}{s:St}(h:r<dl v r s):v.low (r+1)=true:=by
 unfold dl at h
 split at h
 ·assumption
 ·omega
def fX (rec:FuncId->List AV->Heap->Option CRes):Prop :=
 ∀ f args h res,rec f args h=some res->∀ v h' e,(res=.ret v h' e\/res=.panic v h' e)->EscSt { heap:=h,esc:=h.length } { heap:=h',esc:=e }
theorem EscSt.call {s:St}{h' : Heap}{e:Nat}(h:EscSt { heap:=s.heap,esc:=s.heap.length } { heap:=h',esc:=e }):EscSt s { heap:=h',esc:=min s.esc e } where
 esc:=Nat.min_le_left _ _
 len:=h.len
 low n o0 o1 b h1 h2 h3 h4 h5:=h.low n o0 o1 b (by simp only at h1 ⊢;omega) h2 h3 h4 h5
section
variable {C:Cfg}
theorem lI {t:TypeId}{p v:AV}{s s' : St}(h:cB C t p v s=some s'):EscSt s s':=by
 unfold cB at h
 split at h
 ·split at h
  ·rename_i cs hn
   split at h
   ·simp only[SJ] at h;subst h;refine EscSt.set hn kh (λh1 b h2 h3=>?_)
    exact xF h3 (AV.low_cells (AV.low_mono (show _+1<=b from h2) _ (jd h1)))
   ·cases h
  ·cases h
 ·cases h
theorem jy {t:TypeId}{m k v:AV}{s s' : St}(h:bf C t m k v s=some s'):EscSt s s':=by
 unfold bf at h
 split at h
 ·rename_i e n hfit;obtain ⟨kt,d,hu,hd,hkd⟩:=fp hfit
  split at h
  ·rename_i es hn
   split at h
   ·split at h
    ·simp only[SJ] at h;subst h;refine EscSt.set hn kh (λh1 b h2 h3=>?_)
     exact ki h3 (hkd.low _) (AV.low_mono (show _+1<=b from h2) _ (jd h1))
    ·simp only[SJ] at h;subst h;refine EscSt.set hn kh (λh1 b h2 h3=>?_)
     exact jm h3 (hkd.low _) (AV.low_mono (show _+1<=b from h2) _ (jd h1))
   ·cases h
  ·cases h
 ·cases h
theorem qX {t:TypeId}{m k v:AV}{s s' : St}(h:cQ C t m k s=some (v,s')):EscSt s s':=by
 unfold cQ at h
 split at h
 ·rename_i e n hfit;obtain ⟨kt,d,hu,hd,hkd⟩:=fp hfit
  split at h
  ·rename_i es hn
   split at h
   ·split at h
    ·simp only[SJ,PJ] at h;obtain ⟨_,rfl⟩:=h;exact EscSt.refl _
    ·split at h
     ·rename_i z hz;simp only[SJ,PJ] at h;obtain ⟨_,rfl⟩:=h;refine EscSt.set hn (Nat.le_refl _) (λh1 b h2 h3=>?_)
      exact jm h3 (hkd.low _) (AV.low_mono (Nat.zero_le _) _ (eh hz).2)
     ·cases h
   ·cases h
  ·cases h
 ·cases h
theorem oV {m st v:AV}{s s' : St}(h:ce m st v s=some s'):EscSt s s':=by
 unfold ce at h
 split at h
 ·split at h
  ·rename_i es hn
   split at h
   ·rename_i k v0 hes
    split at h
    ·simp only[SJ] at h;subst h;refine EscSt.set hn kh (λh1 b h2 h3=>?_)
     have hk:=(iL.1 h3 _ (List.mem_of_getElem? hes)).1;exact ki h3 hk (AV.low_mono (show _+1<=b from h2) _ (jd h1))
    ·cases h
   ·cases h
  ·cases h
 ·cases h
theorem uQ {f:FuncId}{t:TypeId}{x y v:AV}{s s' : St}(h:aq C f t x y s=some (v,s')):EscSt s s':=by
 unfold aq at h
 split at h
 ·cases h
 ·split at h
  ·cases h
  ·cases h
  ·split at h
   ·split at h
    ·cases h
    ·split at h
     ·cases h
     ·have fin:∀ {l:List AObj},EscSt s { s with heap:=s.heap++l }:=λ{l}=>EscSt.append s l
      split at h
      ·split at h
       ·simp only[SJ,PJ] at h;obtain ⟨_,rfl⟩:=h;exact EscSt.refl _
       ·simp only[SJ,PJ] at h;obtain ⟨_,rfl⟩:=h;exact EscSt.refl _
       ·simp only[SJ,PJ] at h;obtain ⟨_,rfl⟩:=h;exact EscSt.refl _
       ·cases h
      ·have fresh:∀ {A B:AV} {l m:List AObj} {c d:Bool} ,(if c then (if d then some (A,({ s with heap:=s.heap++l }:St)) else none) else some (B,({ s with heap:=s.heap++m }:St)))=some (v,s')->EscSt s s':=by
        intro A B l m c d h
        split at h
        ·split at h
         ·simp only[SJ,PJ] at h;obtain ⟨_,rfl⟩:=h;exact fin
         ·cases h
        ·simp only[SJ,PJ] at h;obtain ⟨_,rfl⟩:=h;exact fin
       split at h
       ·split at h
        ·split at h
         ·simp only[SJ,PJ] at h;obtain ⟨_,rfl⟩:=h;exact fin
         ·cases h
        ·simp only[SJ,PJ] at h;obtain ⟨_,rfl⟩:=h;exact fin
       ·split at h
        ·split at h
         ·simp only[SJ,PJ] at h;obtain ⟨_,rfl⟩:=h;exact fin
         ·cases h
        ·simp only[SJ,PJ] at h;obtain ⟨_,rfl⟩:=h;exact fin
       ·split at h
        ·split at h
         ·simp only[SJ,PJ] at h;obtain ⟨_,rfl⟩:=h;exact fin
         ·cases h
        ·simp only[SJ,PJ] at h;obtain ⟨_,rfl⟩:=h;exact fin
       ·split at h
        ·rename_i g' hid
         split at h
         ·simp only[SJ,PJ] at h;obtain ⟨_,rfl⟩:=h;exact EscSt.set hid (Nat.le_refl _) (λ_ _ _ _=>rfl)
         ·cases h
        ·cases h
       ·rename_i n off len cap sz hx1
        split at h
        ·simp only[SJ,PJ] at h;obtain ⟨_,rfl⟩:=h;cases hn:s.heap[n]? with
         | none =>
           have:s.heap.set n .gone=s.heap:=List.set_eq_of_length_le (List.getElem?_eq_none_iff.1 hn);rw[this];exact fin
         | some ob=>exact (EscSt.set (ob':=.gone) hn (Nat.le_refl _) (λ_ _ _ _=>rfl)).trans (EscSt.append _ _)
        ·cases h
       ·cases h
   ·cases h
theorem zt {f:FuncId}{tmps:List AV}{o:Oper}{s:St}{x:OR}(h:dB C f tmps o s=some x):∀ s',((∃ v,x=.val v s')\/x=.skip s')->EscSt s s':=by
 have hcall:∀ {g:FuncId} {args:List AV},dN C g args s=some x->∀ s',((∃ v,x=.val v s')\/x=.skip s')->EscSt s s':=by
  intro g args h s' hx;unfold dN at h
  split at h
  ·cases h
  ·split at h
   ·cases h
   ·split at h
    ·split at h
     ·split at h
      ·split at h
       ·simp only[SJ] at h;subst h
        rcases hx with ⟨v,hx⟩|hx
        ·simp only[OR.val.injEq] at hx;obtain ⟨_,rfl⟩:=hx;exact EscSt.refl _
        ·cases hx
       ·cases h
      ·cases h
     ·cases h
    ·simp only[SJ] at h;subst h
     rcases hx with ⟨v,hx⟩|hx<;>cases hx
 have hskip:∀ {y:Option St},(match y with|some s=>some (OR.skip s)|none=>none)=some x->(∀ s',y=some s'->EscSt s s')->∀ s',((∃ v,x=.val v s')\/x=.skip s')->EscSt s s':=by
  intro y h hy s' hx
  split at h
  ·simp only[SJ] at h;subst h
   rcases hx with ⟨v,hx⟩|hx
   ·cases hx
   ·simp only[OR.skip.injEq] at hx;subst hx;exact hy _ rfl
  ·cases h
 have hval:∀ {y:Option (AV×St)},(match y with|some (v,s)=>some (OR.val v s)|none=>none)=some x->(∀ v s',y=some (v,s')->EscSt s s')->∀ s',((∃ v,x=.val v s')\/x=.skip s')->EscSt s s':=by
  intro y h hy s' hx
  split at h
  ·simp only[SJ] at h;subst h
   rcases hx with ⟨v,hx⟩|hx
   ·simp only[OR.val.injEq] at hx;obtain ⟨_,rfl⟩:=hx;exact hy _ _ rfl
   ·cases hx
  ·cases h
 unfold dB at h
 split at h
 ·split at h
  ·exact hskip h (λs' hs=>lI hs)
  ·cases h
 ·split at h
  ·exact hskip h (λs' hs=>jy hs)
  ·cases h
 ·split at h
  ·exact hskip h (λs' hs=>jy hs)
  ·cases h
 ·split at h
  ·exact hval h (λv s' hs=>qX hs)
  ·cases h
 ·split at h
  ·exact hskip h (λs' hs=>oV hs)
  ·cases h
 ·split at h
  ·simp only[SJ] at h;subst h;intro s' hx
   rcases hx with ⟨v,hx⟩|hx<;>cases hx
  ·cases h
 ·split at h
  ·split at h
   ·split at h
    ·split at h
     ·exact hval h (λv s' hs=>uQ hs)
     ·cases h
    ·cases h
   ·cases h
  ·cases h
  ·unfold dy at h
   split at h
   ·cases h
   ·split at h
    ·split at h
     ·exact hcall h
     ·cases h
    ·split at h
     ·split at h
      ·split at h
       ·split at h
        ·exact hcall h
        ·cases h
       ·cases h
      ·cases h
     ·cases h
    ·cases h
 ·split at h
  ·simp only[SJ] at h;subst h;intro s' hx
   rcases hx with ⟨v,hx⟩|hx<;>cases hx
  ·cases h
 ·cases h
variable {rec:FuncId->List AV->Heap->Option CRes}{recL:FuncId->Nat->Code->AAct->St->ARes}
theorem jO (hr:fX rec){f:FuncId}{tmps:List AV}{ds:List (FuncId×List AV)}{o:Oper}{s:St}{x:Except (AV×St) (AV×List (FuncId×List AV)×St)}
  (h:bC C rec f tmps ds o s=some x):(∀ v ds' s',x=.ok (v,ds',s')->EscSt s s')/\(∀ v s',x=.error (v,s')->EscSt s s'):=by
 have ok:∀ {v:AV} {ds' : List (FuncId×List AV)} {s1:St},some (Except.ok (v,ds',s1))=some x->EscSt s s1->(∀ v ds' s',x=.ok (v,ds',s')->EscSt s s')/\(∀ v s',x=.error (v,s')->EscSt s s'):=by
  intro v ds' s1 h he;simp only[SJ] at h;subst h;refine ⟨λv ds' s' e=>?_,λv s' e=>by cases e⟩
  simp only[Except.ok.injEq,PJ] at e;obtain ⟨_,_,rfl⟩:=e;exact he
 have er:∀ {v:AV} {s1:St},some (Except.error (v,s1))=some x->EscSt s s1->(∀ v ds' s',x=.ok (v,ds',s')->EscSt s s')/\(∀ v s',x=.error (v,s')->EscSt s s'):=by
  intro v s1 h he;simp only[SJ] at h;subst h;refine ⟨λv ds' s' e=>(by cases e),λv s' e=>?_⟩
  simp only[Except.error.injEq,PJ] at e;obtain ⟨_,rfl⟩:=e;exact he
 unfold bC at h
 split at h
 ·split at h
  ·exact ok h (EscSt.refl _)
  ·cases h
 ·split at h
  ·exact ok h (EscSt.refl _)
  ·cases h
 ·split at h
  ·exact ok h (EscSt.append _ _)
  ·cases h
 ·split at h
  ·rename_i v s' he;exact ok h (zt he s' (.inl ⟨v,rfl⟩))
  ·rename_i s' he;exact ok h (zt he s' (.inr rfl))
  ·exact er h (EscSt.refl _)
  ·exact ok h (EscSt.refl _)
  ·split at h
   ·rename_i v h' e hc;exact ok h (EscSt.call (hr _ _ _ _ hc v h' e (.inl rfl)))
   ·rename_i v h' e hc;exact er h (EscSt.call (hr _ _ _ _ hc v h' e (.inr rfl)))
   ·cases h
  ·cases h
theorem oI (hr:fX rec){f:FuncId}{ops:List Oper}:∀ (rest:List Oper) (a:AAct) (s:St) (x:AExit×AAct×St),gh C rec f ops rest a s=some x->EscSt s x.2.2
 | [],a,s,x,h=>by simp only[gh,SJ] at h;subst h;exact EscSt.refl _
 | o::rest,a,s,x,h=>by
   unfold gh at h
   split at h
   ·cases h
   ·exact oI hr rest _ s x h
   ·split at h
    ·cases h
    ·rename_i v s' hst;simp only[SJ] at h;subst h;exact (jO hr hst).2 v s' rfl
    ·rename_i v ds s' hst;exact ((jO hr hst).1 v ds s' rfl).trans (oI hr rest _ s' x h)
theorem ph (hr:fX rec){f:FuncId}{ops:List Oper}{M:List Nat}{i:Nat}{o:Oper}{s:St}{d:DS}{x:Except (AV×St) DS}(h:ed C rec f ops M i o d=some x)(he:EscSt s d.st)(hs:s.heap.length<=d.slot) :
  (∀ d',x=.ok d'->EscSt s d'.st/\s.heap.length<=d'.slot)/\(∀ v s',x=.error (v,s')->EscSt s s'):=by
 have ok:∀ {d1:DS},some (Except.ok d1)=some x->EscSt s d1.st->s.heap.length<=d1.slot->(∀ d',x=.ok d'->EscSt s d'.st/\s.heap.length<=d'.slot)/\(∀ v s',x=.error (v,s')->EscSt s s'):=by
  intro d1 h h1 h2;simp only[SJ] at h;subst h;refine ⟨λd' e=>?_,λv s' e=>(by cases e)⟩
  simp only[Except.ok.injEq] at e;subst e;exact ⟨h1,h2⟩
 unfold ed at h
 split at h
 ·cases h
 ·refine ok h he ?_;simp only
  split<;>omega
 ·split at h
  ·split at h
   ·exact ok h he hs
   ·cases h
  ·split at h
   ·split at h
    ·exact ok h he hs
    ·cases h
   ·cases h
  ·split at h
   ·rename_i ob mk hv;refine ok h ⟨he.esc,by simpa using he.len,λn o0 o1 b h1 h2 h3 h4 h5=>?_⟩ (by simp only;omega)
    have hlt:=(List.getElem?_eq_some_iff.1 h3).1;simp only at h4;rw[List.getElem?_set_ne (by omega)] at h4
    exact he.low n o0 o1 b h1 h2 h3 h4 h5
   ·cases h
  ·split at h
   ·rename_i v s' hst
    split at h
    ·exact ok h (he.trans ((jO hr hst).1 _ _ _ rfl)) hs
    ·cases h
   ·rename_i v s' hst
    split at h
    ·simp only[SJ] at h;subst h;refine ⟨λd' e=>(by cases e),λv2 s2 e=>?_⟩
     simp only[Except.error.injEq,PJ] at e;obtain ⟨_,rfl⟩:=e;exact he.trans ((jO hr hst).2 _ _ rfl)
    ·cases h
   ·cases h
theorem mX (hr:fX rec){f:FuncId}{ops:List Oper}{M:List Nat}{s:St}:∀ (rest:List Oper) (i:Nat) (d:DS) (x:Except (AV×St) DS),kj C rec f ops M i rest d=some x->EscSt s d.st->s.heap.length<=d.slot ->
  (∀ d',x=.ok d'->EscSt s d'.st)/\(∀ v s',x=.error (v,s')->EscSt s s')
 | [],i,d,x,h,he,hs=>by
   simp only[kj,SJ] at h;subst h;refine ⟨λd' e=>?_,λv s' e=>(by cases e)⟩
   simp only[Except.ok.injEq] at e;subst e;exact he
 | o::rest,i,d,x,h,he,hs=>by
   unfold kj at h
   split at h
   ·rename_i d' hd;obtain ⟨h1,_⟩:=ph hr hd he hs;obtain ⟨h2,h3⟩:=h1 d' rfl;exact mX hr rest (i+1) d' x h h2 h3
   ·rename_i hne;obtain ⟨h1,h2⟩:=ph hr h he hs;exact ⟨λd' e=>(h1 d' e).1,h2⟩
theorem Hh (hr:fX rec){f:FuncId}{ops:List Oper}{a:AAct}{s:St}{x:AExit×AAct×St}(h:l5 C rec f ops a s=some x):EscSt s x.2.2:=by
 unfold l5 at h;have h0:EscSt s { s with heap:=s.heap++List.replicate (bV C f ops) .gone }:=EscSt.append s _
 split at h
 ·rename_i d hd;simp only[SJ] at h;subst h;exact (mX (s:=s) hr _ _ _ _ hd h0 (Nat.le_refl _)).1 d rfl
 ·rename_i v s' hd;simp only[SJ] at h;subst h;exact (mX (s:=s) hr _ _ _ _ hd h0 (Nat.le_refl _)).2 v s' rfl
 ·cases h
def mI (recL:FuncId->Nat->Code->AAct->St->ARes):Prop:=∀ f cur b a s x,recL f cur b a s=some x->EscSt s x.2.2
theorem cz (hr:fX rec)(hl:mI recL){f:FuncId}:∀ (c:Code) (cur:Nat) (a:AAct) (s:St) (x:AExit×AAct×St),bm C rec recL f cur c a s=some x->EscSt s x.2.2
 | .skip,cur,a,s,x,h=>by simp only[bm,SJ] at h;subst h;exact EscSt.refl _
 | .label l,cur,a,s,x,h=>by simp only[bm,SJ] at h;subst h;exact EscSt.refl _
 | .exit l,cur,a,s,x,h=>by simp only[bm,SJ] at h;subst h;exact EscSt.refl _
 | .ret,cur,a,s,x,h=>by simp only[bm,SJ] at h;subst h;exact EscSt.refl _
 | .region id ops draw,cur,a,s,x,h=>by
   simp only[bm] at h
   split at h
   ·exact Hh hr h
   ·exact oI hr _ a s x h
 | .seq y z,cur,a,s,x,h=>by
   simp only[bm] at h
   split at h
   ·rename_i a' s' h1;exact (cz hr hl y cur a s _ h1).trans (cz hr hl z cur a' s' x h)
   ·exact cz hr hl y cur a s x h
 | .cond c y z,cur,a,s,x,h=>by
   simp only[bm] at h
   split at h
   ·exact cz hr hl y cur a s x h
   ·exact cz hr hl z cur a s x h
   ·cases h
 | .block id b,cur,a,s,x,h=>by
   simp only[bm] at h
   split at h
   ·rename_i id' a' s' h1;have:=cz hr hl b id a s _ h1
    split at h
    ·simp only[SJ] at h;subst h;exact this
    ·simp only[SJ] at h;subst h;exact this
   ·exact cz hr hl b id a s x h
 | .loop b,cur,a,s,x,h=>by
   simp only[bm] at h
   split at h
   ·rename_i a' s' h1;exact (cz hr hl b cur _ s _ h1).trans (hl f cur b a' s' x h)
   ·exact cz hr hl b cur _ s x h
 | .scope b,cur,a,s,x,h=>by simp[bm] at h
 | .goto l,cur,a,s,x,h=>by simp[bm] at h
 | .rangeFunc ..,cur,a,s,x,h=>by simp[bm] at h
theorem vE {keep:Bool}{h:Heap}{v v' : AV}{s:St}{h' : Heap}{e:Nat}(he:EscSt { heap:=h,esc:=h.length } s)(hg:dm keep h.length v s=(v',h',e)) :
  EscSt { heap:=h,esc:=h.length } { heap:=h',esc:=e }:=by
 unfold dm at hg
 split at hg
 ·rename_i heq;have hg' : (if (if keep then v else v.settle h.length s.heap).low h.length then ((if keep then v else v.settle h.length s.heap),s.heap.take h.length,h.length) else (v,s.heap,h.length))=(v',h',e):=hg
  clear hg
  generalize (if keep then v else v.settle h.length s.heap)=u at hg'
  split at hg'
  ·cases hg'
   refine ⟨Nat.le_refl _,by simp only[List.length_take];rw[Nat.min_eq_left he.len];exact Nat.le_refl _,λn o0 o1 b h1 h2 h3 h4 h5=>?_⟩
   rw[List.getElem?_take_of_lt h1] at h4;exact he.low n o0 o1 b (by simp only at h1;omega) h2 h3 h4 h5
  ·cases hg'
   refine ⟨Nat.le_refl _,he.len,λn o0 o1 b h1 h2 h3 h4 h5=>he.low n o0 o1 b (by simp only at h1;omega) h2 h3 h4 h5⟩
 ·cases hg
  exact ⟨he.esc,he.len,he.low⟩
end
structure GoodF (C:Cfg):Prop extends Good C where
 safe:∀ (f:FuncId) (fn:Func) (c:Code),C.P.funcs[f]?=some fn->fn.body=some c->C.fine f=true->bW C f c=true
 catch_fn : ∀ g t, C.catcher g = some t → ∃ fn, C.P.funcs[g]? = some fn ∧ fn.body.isNone = false ∧ fn.name ≠ "runtime.NumGoroutine"
 catch_ret:∀ g t,C.catcher g=some t->∀ (args:Array Value) (w:World),CallsD C.P g args .returning w (λe u' w'=>u'=.returning/\(∃ v,e=.returned v)/\SameHeap w w')
 catch_pan:∀ g t,C.catcher g=some t->∀ (G:Gh) (s s2:St) (w:World) (q y:AV) (qv yv:Value),Rel C G s.heap w->VR G w q qv->VR G w y yv->cB C t q y s=some s2 ->
  CallsD C.P g #[qv] (.panicking [{ v:=.iface t yv,recovered:=false }]) w
   (λe u' w'=>u'=.panicking [{ v:=.iface t yv,recovered:=true }]/\(∃ v,e=.returned v)/\∃ G',Rel C G' s2.heap w'/\Step G s.heap w G' s2.heap w')
section
variable {C:Cfg}{G0 G:Gh}{H0 H:Heap}{w0 w:World}
theorem ut (gd:Good C)(r0:Rel C G0 H0 w0){s:St}(r:Rel C G s.heap w)(st:Step G0 H0 w0 G s.heap w)(he:EscSt { heap:=H0,esc:=H0.length } s){keep:Bool}{v v' : AV}{val:Value}{h' : Heap}{e:Nat}
  (hv:VR G w v val) (hg:dm keep H0.length v s=(v',h',e)):∃ G',Rel C G' h' w/\Step G0 H0 w0 G' h' w/\VR G' w v' val:=by
 unfold dm at hg
 split at hg
 ·rename_i heq;have hg' : (if (if keep then v else v.settle H0.length s.heap).low H0.length then ((if keep then v else v.settle H0.length s.heap),s.heap.take H0.length,H0.length) else (v,s.heap,H0.length))=(v',h',e):=hg
  clear hg
  have hlow:∀ (n:Nat) (o:AObj),n<H0.length->s.heap[n]?=some o->o.low H0.length=true:=λn o hn ho =>
   he.low n _ o H0.length (by omega) hn (List.getElem?_eq_getElem hn) ho (r0.low n _ (List.getElem?_eq_getElem hn))
  obtain ⟨g1,g2⟩:=KC gd r0 r st hlow
  by_cases hl:(if keep then v else v.settle H0.length s.heap).low H0.length=true
  ·rw[if_pos hl] at hg';cases hg'
   refine ⟨_,g1,g2,?_⟩;cases keep with
   | true=>simp only[if_true] at hl ⊢;exact VR.shift (ev r _) _ _ hl hv
   | false=>simp only[Bool.false_eq_true,if_false] at hl ⊢;exact i7 r _ rfl _ _ hl hv
  ·rw[if_neg hl] at hg';cases hg'
   exact ⟨G,r,st,hv⟩
 ·cases hg
  exact ⟨G,r,st,hv⟩
def Cv (ct:Array Value):ResultVar->Sem Value
 | .tmp t=>pure (ct.getD t Go.undef)
 | .cell a t=>do loadVar t (<-asAddr (ct.getD a Go.undef))
theorem mY (fn:Func)(ct:Array Value):results fn ct=(do
  let vs <-fn.results.mapM (Cv ct)
  pure (if h:vs.size=1 then vs[0] else .tuple vs)):=by
 have:Cv ct=(λx=>match x with
  | .tmp t=>pure (ct.getD t Go.undef)
  | .cell a t=>do loadVar t (<-asAddr (ct.getD a Go.undef))):=by
  funext x;cases x<;>rfl
 rw[this];rfl
theorem jU (r:Rel C G H w){tmps:List AV}{ct:Array Value}(ht:VList G w tmps ct.toList):∀ {l:List ResultVar} {vs:List AV},cE C tmps H l=some vs ->
  ∃ m,(l.mapM (Cv ct)).run C.P w=.ok m w/\VList G w vs m
 | [],vs,h=>by
   simp only[cE,SJ] at h;subst h;exact ⟨[],by simp,rfl⟩
 | x::l,vs,h=>by
   simp only[cE] at h
   split at h
   ·rename_i a vs' h1 h2;simp only[SJ] at h;subst h;obtain ⟨m,g1,g2⟩:=jU r ht h2
    have hx:∃ v,(Cv ct x).run C.P w=.ok v w/\VR G w a v:=by
     cases x with
     | tmp t =>
       simp only[iP,SJ] at h1;subst h1;exact ⟨ct.getD t Go.undef,rfl,VList.getD ht t⟩
     | cell b t =>
       simp only[iP] at h1;have hp:=VList.getD ht b;obtain ⟨v,k1,k2⟩:=oC r hp h1
       have hptr:∃ ad,ct.getD b Go.undef=.pointer (some ad):=by
        unfold fV at h1
        split at h1
        ·rename_i n off he;rw[he] at hp;simp only[VR] at hp;obtain ⟨q,b',_,e,_⟩:=hp;exact ⟨_,e⟩
        ·rename_i xs he;rw[he] at hp;simp only[VR] at hp;obtain ⟨b',off,e,_⟩:=hp;exact ⟨_,e⟩
        ·cases h1
       obtain ⟨ad,had⟩:=hptr;rw[had] at k1;have k1' : (loadVar t ad).run C.P w=.ok v w:=by simpa [Instr.loadAt,Instr.sureAddr] using k1
       refine ⟨v,?_,k2⟩;have:Cv ct (.cell b t)=(do loadVar t (<-asAddr (ct.getD b Go.undef))):=rfl;rw[this,had];simp[asAddr,k1']
    obtain ⟨v,k1,k2⟩:=hx;refine ⟨v::m,?_,?_⟩
    ·simp only[List.mapM_cons,Sem.run_bind,Sem.run_pure,Result.andThen_ok,g1,k1]
    ·simp only[VList];exact ⟨_,_,rfl,k2,g2⟩
   ·cases h
theorem wk (r:Rel C G H w){fn:Func}{tmps:List AV}{ct:Array Value}(ht:VList G w tmps ct.toList){vs:List AV}(h:cE C tmps H fn.results.toList=some vs) :
  ∃ v,(results fn ct).run C.P w=.ok v w/\VR G w (tupleAV vs) v:=by
 obtain ⟨m,h1,h2⟩:=jU r ht h;refine ⟨if h:m.toArray.size=1 then m.toArray[0] else .tuple m.toArray,?_,?_⟩
 ·rw[mY,Array.mapM_eq_mapM_toList];simp only[Sem.run_bind,Sem.run_map,h1,Result.andThen_ok,Sem.run_pure]
 ·have hl:=VList.length h2
  match vs,m,h2,hl with
  | [],[],h2,_=>simp only[tupleAV,VR];exact ⟨_,rfl,by simpa using h2⟩
  | [a],[x],h2,_ =>
    simp only[VList] at h2;obtain ⟨x',y,e,h3,h4⟩:=h2;simp only[List.cons.injEq] at e;obtain ⟨rfl,_⟩:=e;simpa [tupleAV] using h3
  | a::b::c,x::y::z,h2,hl =>
    simp only[tupleAV,VR];exact ⟨(x::y::z).toArray,by simp,by simpa using h2⟩
end
section
variable {C:Cfg}{rec:FuncId->List AV->Heap->Option CRes}{recL:FuncId->Nat->Code->AAct->St->ARes}
theorem mg (gf:GoodF C){g:FuncId}{t:TypeId}(h:C.catcher g=some t)(args:Array Value)(w:World):(invoke (.fn (.func g) #[]) args).run C.P w=.ok (.enter g args) w:=by
 obtain ⟨fn,h1,h2,h3⟩:=gf.catch_fn g t h;have h4:¬ fn.body=none:=λe=>by rw[e] at h2;cases h2
 simp[invoke,callFunc,h1,h3,h4]
theorem td (gf:GoodF C)(hrec:ec C rec)(hloop:jk C recL)(er:fX rec)(el:mI recL):ec C (d7 C rec recL):=by
 intro f args H res h G w vs r hv;unfold d7 at h
 split at h
 ·cases h
 ·rename_i fn hf
  split at h
  ·cases h
  ·cases h
  ·rename_i c hb hfine;have hcs:=gf.safe f fn c hf hb hfine;refine calls_of_wp_defers hf hb ?_;have hsz:args.length=vs.size:=by have:=VList.length hv;simpa using this
   have ha:ActR G w { tmps:=args++List.replicate (fn.ntmps-args.length) undef,defers:=[] } { tmps:=vs++Array.replicate (fn.ntmps-vs.size) Go.undef,defers:=[] }:=by
    refine ⟨?_,rfl⟩;simp only[Array.toList_append,Array.toList_replicate,<-hsz];exact VList.append hv (VList.replicate VR.undef _)
   have body:∀ x,bm C rec recL f 0 c { tmps:=args++List.replicate (fn.ntmps-args.length) undef,defers:=[] } { heap:=H,esc:=H.length }=some x ->
     Post C G H w x (bodyPostD C.P fn (ju C G H w res))->c.wp C.P (bodyPostD C.P fn (ju C G H w res)) { tmps:=vs++Array.replicate (fn.ntmps-vs.size) Go.undef,defers:=[] } w :=
    λx hx hp=>c8 gf.toGood hrec hloop c 0 _ _ x hx hcs G w _ _ r ha hp
   have ret:∀ (a:AAct) (s:St),EscSt { heap:=H,esc:=H.length } s ->
     (if a.defers.all (λ(g,_)=>(C.catcher g).isSome)=true/\a.defers.length<=1 then
      match cE C a.tmps s.heap fn.results.toList with
      | some l=>match dm (C.keep f) H.length (tupleAV l) s with
        | (v,h,esc)=>some (CRes.ret v h esc)
      | none=>none
     else none)=some res->∀ G' w' ca',Rel C G' s.heap w'->Step G H w G' s.heap w'->ActR G' w' a ca'->Leaves C.P fn ca'.tmps (ju C G H w res) ca'.defers .returning w':=by
    intro a s he h G' w' ca' h1 h2 h3
    split at h
    ·rename_i hc
     split at h
     ·rename_i l hl;have hg:∃ v h' e,dm (C.keep f) H.length (tupleAV l) s=(v,h',e):=⟨_,_,_,rfl⟩;obtain ⟨v,h',e,hg⟩:=hg;rw[hg] at h;simp only[SJ] at h
      have fin:∀ w2,SameHeap w' w2->Leaves C.P fn ca'.tmps (ju C G H w res) [] .returning w2:=by
       intro w2 hs;have hr2:=Rel.same' hs h1;have ha2:=h3.mono hr2.2.ext;obtain ⟨val,k1,k2⟩:=wk hr2.1 ha2.tmps hl;obtain ⟨G2,k3,k4,k5⟩:=ut gf.toGood r hr2.1 (h2.trans hr2.2) he k2 hg;exact ⟨val,k1,v,h',e,G2,h.symm,k3,k4,k5⟩
      have hd:=h3.defers;cases hds:a.defers with
      | nil =>
        rw[hds] at hd;simp only[DefersR] at hd;rw[hd];exact fin w' ⟨rfl,rfl,rfl,rfl⟩
      | cons x rest =>
        rw[hds] at hd hc;obtain ⟨g,args⟩:=x
        have hrest:rest=[]:=by
         have:=hc.2;simp at this;exact this
        subst hrest;obtain ⟨d,m,k1,k2,k3⟩:=hd;simp only[DefersR] at k3;subst k3;rw[k1]
        have hcat:(C.catcher g).isSome=true:=by
         have:=hc.1;simpa using this
        obtain ⟨t,ht⟩:=Option.isSome_iff_exists.1 hcat;refine ⟨by simp,.func g,#[],g,d.args,k2.1,by rw[k2.1];exact mg gf ht _ _,?_⟩
        refine CallsD.mono (gf.catch_ret g t ht d.args w') (λe u' w2 he=>?_)
        obtain ⟨rfl,⟨v2,rfl⟩,hs⟩:=he;exact fin w2 hs
     ·cases h
    ·cases h
   split at h
   ·rename_i a s hx;refine body _ hx (λG' w' ca' e' h1 h2 h3 h4=>?_)
    simp only[gy] at h4;subst h4;exact ret a s (cz er el c 0 _ _ _ hx) h G' w' ca' h1 h2 h3
   ·rename_i a s hx;refine body _ hx (λG' w' ca' e' h1 h2 h3 h4=>?_)
    simp only[gy] at h4;subst h4;exact ret a s (cz er el c 0 _ _ _ hx) h G' w' ca' h1 h2 h3
   ·
    rename_i p a s hx;have he:=cz er el c 0 _ _ _ hx;refine body _ hx (λG' w' ca' e' h1 h2 h3 h4=>?_)
    simp only[gy] at h4;obtain ⟨val,rfl,hval⟩:=h4;have hd:DefersR G' w' a.defers ca'.defers:=h3;show Leaves C.P fn ca'.tmps (ju C G H w res) ca'.defers (.panicking [{ v:=val,recovered:=false }]) w'
    split at h
    ·rename_i hds;rw[hds] at hd;simp only[DefersR] at hd;rw[hd];obtain ⟨v,h',e,hg⟩ : ∃ v h' e,dm false H.length p s=(v,h',e):=⟨_,_,_,rfl⟩;rw[hg] at h;simp only[SJ] at h;obtain ⟨G2,k3,k4,k5⟩:=ut gf.toGood r h1 h2 he hval hg;exact ⟨v,h',e,G2,val,h.symm,k3,k4,k5,rfl⟩
    ·rename_i g q hds;rw[hds] at hd;obtain ⟨d,m,k1,k2,k3⟩:=hd;simp only[DefersR] at k3;subst k3;rw[k1]
     split at h
     ·rename_i t t' y ht
      split at h
      ·rename_i hc;obtain ⟨rfl,hres⟩:=hc
       split at h
       ·rename_i s2 hst;obtain ⟨v,h',e,hg⟩ : ∃ v h' e,dm (C.keep f) H.length undef s2=(v,h',e):=⟨_,_,_,rfl⟩;rw[hg] at h;simp only[SJ] at h;simp only[VR] at hval;obtain ⟨yv,rfl,hy⟩:=hval;have hargs:=k2.2;simp only[VList] at hargs;obtain ⟨qv,m,e1,hq,e2⟩:=hargs;subst e2;have hda:d.args=#[qv]:=by apply Array.ext';rw[e1]
        refine ⟨by simp,.func g,#[],g,d.args,k2.1,by rw[k2.1];exact mg gf ht _ _,?_⟩
        rw[hda];refine CallsD.mono (gf.catch_pan g _ ht G' s s2 w' q y qv yv h1 hq hy hst) (λe u' w3 he3=>?_)
        obtain ⟨rfl,⟨v2,rfl⟩,G3,s3,s4⟩:=he3
        have hrs:cE C [] s2.heap fn.results.toList=some []:=by
         have:fn.results=#[]:=by simpa using hres
         rw[this];rfl
        have hset:settle (.panicking [{ v:=Value.iface t' yv,recovered:=true }])=.returning:=by simp[settle]
        simp only[hset];have hres0:fn.results=#[]:=by simpa using hres
        have hrun:(results fn ca'.tmps).run C.P w3=.ok (.tuple #[]) w3:=by
         rw[mY,hres0];simp
        have hund:VR G3 w3 undef (.tuple #[]):=VR.undef;obtain ⟨G2,k3,k4,k5⟩:=ut gf.toGood r s3 (h2.trans s4) (he.trans (lI hst)) hund hg;exact ⟨.tuple #[],hrun,v,h',e,G2,h.symm,k3,k4,k5⟩
       ·cases h
      ·cases h
     ·cases h
    ·cases h
   ·cases h
end
theorem qT {C:Cfg}{rec:FuncId->List AV->Heap->Option CRes}{recL:FuncId->Nat->Code->AAct->St->ARes}(er:fX rec)(el:mI recL):fX (d7 C rec recL):=by
 intro f args h res hr;unfold d7 at hr
 split at hr
 ·cases hr
 ·rename_i fn hf
  split at hr
  ·cases hr
  ·cases hr
  ·rename_i c hb hfine
   have ret:∀ (a:AAct) (s:St),EscSt { heap:=h,esc:=h.length } s ->
     (if a.defers.all (λ(g,_)=>(C.catcher g).isSome)=true/\a.defers.length<=1 then
      match cE C a.tmps s.heap fn.results.toList with
      | some l=>match dm (C.keep f) h.length (tupleAV l) s with
        | (v,h,esc)=>some (CRes.ret v h esc)
      | none=>none
     else none)=some res->∀ v h' e,(res=.ret v h' e\/res=.panic v h' e)->EscSt { heap:=h,esc:=h.length } { heap:=h',esc:=e }:=by
    intro a s he hr v h' e hx
    split at hr
    ·split at hr
     ·rename_i l hl;obtain ⟨v1,h1,e1,hg⟩ : ∃ v h' e,dm (C.keep f) h.length (tupleAV l) s=(v,h',e):=⟨_,_,_,rfl⟩;rw[hg] at hr;simp only[SJ] at hr;subst hr
      rcases hx with hx|hx
      ·simp only[CRes.ret.injEq] at hx;obtain ⟨rfl,rfl,rfl⟩:=hx;exact vE he hg
      ·cases hx
     ·cases hr
    ·cases hr
   split at hr
   ·rename_i a s hx;exact ret a s (cz er el c 0 _ _ _ hx) hr
   ·rename_i a s hx;exact ret a s (cz er el c 0 _ _ _ hx) hr
   ·rename_i p a s hx;have he:=cz er el c 0 _ _ _ hx;intro v h' e hxx
    split at hr
    ·obtain ⟨v1,h1,e1,hg⟩ : ∃ v h' e,dm false h.length p s=(v,h',e):=⟨_,_,_,rfl⟩;rw[hg] at hr;simp only[SJ] at hr;subst hr
     rcases hxx with hxx|hxx
     ·cases hxx
     ·simp only[CRes.panic.injEq] at hxx;obtain ⟨rfl,rfl,rfl⟩:=hxx;exact vE he hg
    ·split at hr
     ·split at hr
      ·split at hr
       ·rename_i s2 hst;obtain ⟨v1,h1,e1,hg⟩ : ∃ v h' e,dm (C.keep f) h.length undef s2=(v,h',e):=⟨_,_,_,rfl⟩;rw[hg] at hr;simp only[SJ] at hr;subst hr
        rcases hxx with hxx|hxx
        ·simp only[CRes.ret.injEq] at hxx;obtain ⟨rfl,rfl,rfl⟩:=hxx;exact vE (he.trans (lI hst)) hg
        ·cases hxx
       ·cases hr
      ·cases hr
     ·cases hr
    ·cases hr
   ·cases hr
end Go.Abs
