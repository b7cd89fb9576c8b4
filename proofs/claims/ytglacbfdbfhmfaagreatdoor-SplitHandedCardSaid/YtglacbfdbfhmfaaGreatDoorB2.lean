/- the twin and what is known of calls. Part of the proof of girandolelaw12.SplitHanded. -/
import Derived.Test.YtglacbfdbfhmfaaGreatDoorA3
import Derived.Test.YtglacbfdbfhmfaaGreatDoorB1
import Derived.Below
import Derived.WalkKit
import Derived.Defers
import Derived.Recover
set_option linter.unusedVariables false
set_option linter.unusedSimpArgs false
namespace Go.Abs
theorem VR.scal0 {G G' : Gh}{w w' : World}{v:AV}{x:Value}(h:scal0 v=true)(hv:VR G w v x):VR G' w' v x:=by
 unfold Abs.scal0 at h
 split at h<;>first|(simp only[VR] at hv ⊢;exact hv)|cases h
theorem VList.scal0 {G G' : Gh}{w w' : World}:∀ {l:List AV} {m:List Value},l.all Abs.scal0=true->VList G w l m->VList G' w' l m
 | [],m,_,h=>by simp only[VList] at h ⊢;exact h
 | a::r,m,hs,h=>by
   simp only[List.all_cons,Bool.and_eq_true] at hs;simp only[VList] at h ⊢;obtain ⟨x,y,h1,h2,h3⟩:=h;exact ⟨x,y,h1,VR.scal0 hs.1 h2,VList.scal0 hs.2 h3⟩
theorem VRow.scal0 {G G' : Gh}{w w' : World}{b:Nat}(hc:∀ i,Abs.cellAt w' b i=Abs.cellAt w b i):∀ {l:List AV} {off:Nat},l.all Abs.scal0=true->VRow G w b off l->VRow G' w' b off l
 | [],off,_,_=>by simp[VRow]
 | a::r,off,hs,h=>by
   simp only[List.all_cons,Bool.and_eq_true] at hs;simp only[VRow] at h ⊢;obtain ⟨⟨x,h1,h2⟩,h3⟩:=h;exact ⟨⟨x,by rw[hc];exact h1,VR.scal0 hs.1 h2⟩,VRow.scal0 hc hs.2 h3⟩
def Gh.apart (C:Cfg)(G:Gh):Gh where
 rho _:=none
 lam _:=none
 gen _:=0
 imm b:=if (C.glob b).isSome then G.imm b else none
def Gh.join (C:Cfg)(G G' : Gh)(n:Nat):Gh where
 rho:=G.rho
 lam:=G.lam
 gen:=G.gen
 imm b:=if b<n then G.imm b else G'.imm b
section
variable {C:Cfg}{G:Gh}{H:Heap}{w:World}
theorem AZ (hs:∀ i xs,C.glob i=some xs->xs.all Abs.scal0=true)(r:Rel C G H w):Rel C (G.apart C) [] w where
 obj n o h:=by simp at h
 dead n o h:=by simp at h
 out n _:=⟨rfl,rfl⟩
 lin n g h:=by simp at h
 lamE n b h:=by cases h
 rinj n m b h:=by cases h
 linj n m b h:=by cases h
 rimm n b h:=by cases h
 immE b u h:=by
  simp only[Gh.apart] at h
  split at h
  ·exact r.immE b u h
  ·cases h
 low n o h:=by simp at h
 glob i xs hg:=by
  obtain ⟨⟨u,h1,h2⟩,h3⟩:=r.glob i xs hg;exact ⟨⟨u,by simp[Gh.apart,hg,h1],h2⟩,VRow.scal0 (λ_=>rfl) (hs i xs hg) h3⟩
 globS:=r.globS
theorem xW (r:Rel C G H w){i u:Nat}(hi:(C.glob i).isSome=true)(h:G.imm i=some u):∃ c el fz,w.heap[i]?=some (.cells c el fz)/\u=c.size:=by
 obtain ⟨xs,hg⟩:=Option.isSome_iff_exists.1 hi;obtain ⟨⟨u',h1,h2⟩,_⟩:=r.glob i xs hg;obtain ⟨c,el,fz,h3,h4⟩:=r.globS i xs hg;obtain ⟨c',el',fz',h5,h6⟩:=r.immE i u h;rw[h3] at h5;cases h5
 rw[h] at h1;cases h1
 exact ⟨c,el,fz,h3,by omega⟩
mutual
theorem VR.join {G' : Gh}{w' : World}{n:Nat}(hI:∀ b u,G'.imm b=some u->(Gh.join C G G' n).imm b=some u):∀ {v:AV} {x:Value},v.low 0=true->VR G' w' v x->VR (Gh.join C G G' n) w' v x
 | .bool _,x,_,h=>by simp only[VR] at h ⊢;exact h
 | .int _ _,x,_,h=>by simp only[VR] at h ⊢;exact h
 | .str _,x,_,h=>by simp only[VR] at h ⊢;exact h
 | .nilp,x,_,h=>by simp only[VR] at h ⊢;exact h
 | .ptr n o,x,hl,h=>by simp[AV.low] at hl
 | .iptr xs,x,hl,h=>by
   simp only[AV.low] at hl;simp only[VR] at h ⊢;obtain ⟨b,off,h1,⟨u,h2,h2'⟩,h3⟩:=h;exact ⟨b,off,h1,⟨u,hI b u h2,h2'⟩,VRow.join hI hl h3⟩
 | .nils,x,_,h=>by simp only[VR] at h ⊢;exact h
 | .sl sz es lin,x,hl,h=>by
   simp only[AV.low,Bool.and_eq_true] at hl;simp only[VR] at h ⊢;obtain ⟨b,off,cap,h1,h2,⟨u,h3,h3'⟩,h4,h5⟩:=h;refine ⟨b,off,cap,h1,h2,⟨u,hI b u h3,h3'⟩,?_,VElems.join hI hl.1 h5⟩;cases lin with
   | live id g=>simp[Lin.low] at hl
   | lit=>exact h4
   | full=>exact h4
   | dead=>exact h4
   | frz=>exact h4
 | .rsl n _ _ _ _,x,hl,h=>by simp[AV.low] at hl
 | .nilmap,x,_,h=>by simp only[VR] at h ⊢;exact h
 | .map n,x,hl,h=>by simp[AV.low] at hl
 | .func fn f c,x,hl,h=>by
   simp only[AV.low,Bool.and_eq_true] at hl;simp only[VR] at h ⊢;obtain ⟨f',c',h1,h2,h3⟩:=h;exact ⟨f',c',h1,VList.join hI hl.1 h2,VList.join hI hl.2 h3⟩
 | .nilfunc,x,_,h=>by simp only[VR] at h ⊢;exact h
 | .iface t a,x,hl,h=>by
   simp only[AV.low] at hl;simp only[VR] at h ⊢;obtain ⟨y,h1,h2⟩:=h;exact ⟨y,h1,VR.join hI hl h2⟩
 | .nilif,x,_,h=>by simp only[VR] at h ⊢;exact h
 | .agg cs,x,hl,h=>by
   simp only[AV.low] at hl;simp only[VR] at h ⊢;obtain ⟨y,h1,h2⟩:=h;exact ⟨y,h1,VList.join hI hl h2⟩
 | .tuple cs,x,hl,h=>by
   simp only[AV.low] at hl;simp only[VR] at h ⊢;obtain ⟨y,h1,h2⟩:=h;exact ⟨y,h1,VList.join hI hl h2⟩
 | .top,x,_,h=>by simp only[VR]
theorem VList.join {G' : Gh}{w' : World}{n:Nat}(hI:∀ b u,G'.imm b=some u->(Gh.join C G G' n).imm b=some u):∀ {l:List AV} {m:List Value},aG 0 l=true->VList G' w' l m->VList (Gh.join C G G' n) w' l m
 | [],m,_,h=>by simp only[VList] at h ⊢;exact h
 | a::r,m,hl,h=>by
   simp only[aG,Bool.and_eq_true] at hl;simp only[VList] at h ⊢;obtain ⟨x,y,h1,h2,h3⟩:=h;exact ⟨x,y,h1,VR.join hI hl.1 h2,VList.join hI hl.2 h3⟩
theorem VRow.join {G' : Gh}{w' : World}{n:Nat}(hI:∀ b u,G'.imm b=some u->(Gh.join C G G' n).imm b=some u):∀ {l:List AV} {b off:Nat},aG 0 l=true->VRow G' w' b off l->VRow (Gh.join C G G' n) w' b off l
 | [],b,off,_,h=>by simp only[VRow]
 | a::r,b,off,hl,h=>by
   simp only[aG,Bool.and_eq_true] at hl;simp only[VRow] at h ⊢;obtain ⟨⟨x,h1,h2⟩,h3⟩:=h;exact ⟨⟨x,h1,VR.join hI hl.1 h2⟩,VRow.join hI hl.2 h3⟩
theorem VElems.join {G' : Gh}{w' : World}{n:Nat}(hI:∀ b u,G'.imm b=some u->(Gh.join C G G' n).imm b=some u):∀ {l:List AV} {b sz off:Nat},aG 0 l=true->VElems G' w' b sz off l->VElems (Gh.join C G G' n) w' b sz off l
 | [],b,sz,off,_,h=>by simp only[VElems]
 | e::r,b,sz,off,hl,h=>by
   simp only[aG,Bool.and_eq_true] at hl;simp only[VElems] at h ⊢;obtain ⟨h1,h2,h3⟩:=h;refine ⟨h1,?_,VElems.join hI hl.2 h3⟩
   rcases h2 with ⟨h4,x,h5,h6⟩|h4
   ·exact .inl ⟨h4,x,h5,VR.join hI hl.1 h6⟩
   ·exact .inr (VAgg.join hI hl.1 h4)
theorem VAgg.join {G' : Gh}{w' : World}{n:Nat}(hI:∀ b u,G'.imm b=some u->(Gh.join C G G' n).imm b=some u):∀ {e:AV} {b off:Nat},e.low 0=true->VAgg G' w' b off e->VAgg (Gh.join C G G' n) w' b off e
 | .agg cs,b,off,hl,h=>by
   simp only[AV.low] at hl;simp only[VAgg] at h ⊢;exact VRow.join hI hl h
 | .bool _,_,_,_,h | .int _ _,_,_,_,h | .str _,_,_,_,h | .nilp,_,_,_,h | .ptr _ _,_,_,_,h | .iptr _,_,_,_,h | .nils,_,_,_,h | .sl _ _ _,_,_,_,h
 | .rsl _ _ _ _ _,_,_,_,h | .nilmap,_,_,_,h | .map _,_,_,_,h | .func _ _ _,_,_,_,h | .nilfunc,_,_,_,h | .iface _ _,_,_,_,h | .nilif,_,_,_,h | .tuple _,_,_,_,h | .top,_,_,_,h=>by simp[VAgg] at h
end
theorem Fd (hs:∀ i xs,C.glob i=some xs->xs.all Abs.scal0=true){f:FuncId}{args:List AV}{v:AV}(ha:args.all Abs.scal0=true)(hv:v.low 0=true)
  (hc:∀ G w (vs:Array Value),Rel C G [] w->VList G w args vs.toList->Calls C.P f vs w (ju C G [] w (.ret v [] 0)))
  (r:Rel C G H w) {vs:Array Value} (hvs:VList G w args vs.toList):Calls C.P f vs w (ju C G H w (.ret v H H.length)):=by
 refine (hc (G.apart C) w vs (AZ hs r) (VList.scal0 ha hvs)).mono λe w' hr=>?_
 cases e with
 | panicked c =>
   obtain ⟨a,H',esc,G',v',h1,_⟩:=hr;cases h1
 | outgrown=>trivial
 | returned val =>
   obtain ⟨a,H',esc,G',h1,r',st',hval⟩:=hr;cases h1
   have x:=st'.ext
   have hfor:∀ b,b<w.heap.size->(C.glob b).isSome=false->w'.heap[b]?=w.heap[b]?/\G'.imm b=none:=by
    intro b hb hg;obtain ⟨h1,h2,h3⟩:=x.foreign b hb (by simp[Gh.apart,hg]) (λn=>by simp[Gh.apart])
    exact ⟨h1,h2⟩
   have htab:∀ b u,(C.glob b).isSome=true->G.imm b=some u->G'.imm b=some u:=by
    intro b u hg hu;obtain ⟨u',h1,h2⟩:=x.imm b u (by simp[Gh.apart,hg,hu])
    obtain ⟨c,el,fz,h3,h4⟩:=xW r hg hu;obtain ⟨c',el',fz',h5,h6⟩:=xW r' hg h1;obtain ⟨c'',h7,h8,_⟩:=x.cells b u c el fz (by simp[Gh.apart,hg,hu]) h3
    rw[h5] at h7;cases h7
    rw[h1]
    congr 1
    omega
   have hI:∀ b u,G'.imm b=some u->(Gh.join C G G' w.heap.size).imm b=some u:=by
    intro b u hu;simp only[Gh.join]
    split
    ·rename_i hb;cases hg:(C.glob b).isSome with
     | false=>rw[(hfor b hb hg).2] at hu;cases hu
     | true =>
       obtain ⟨xs,hxs⟩:=Option.isSome_iff_exists.1 hg;obtain ⟨⟨u1,h1,_⟩,_⟩:=r.glob b xs hxs;have:=htab b u1 hg h1;rw[hu] at this;cases this
       exact h1
    ·exact hu
   have hsz:∀ b u,G.imm b=some u->b<w.heap.size:=by
    intro b u hu;obtain ⟨c,el,fz,h1,_⟩:=r.immE b u hu
    rcases Nat.lt_or_ge b w.heap.size with h|h
    ·exact h
    ·rw[Array.getElem?_eq_none h] at h1;cases h1
   have hJ:∀ b u,G.imm b=some u->(Gh.join C G G' w.heap.size).imm b=some u:=by
    intro b u hu;simp only[Gh.join,if_pos (hsz b u hu)];exact hu
   have ext:Ext G w (Gh.join C G G' w.heap.size) w':={
    rho:=λn q h=>.inl h
    lam:=λid b h=>⟨⟨b,h⟩,Nat.le_refl _,λ_=>⟨h,λu hu=>hJ b u hu⟩⟩
    imm:=λb u h=>⟨u,hJ b u h,Nat.le_refl _⟩
    cells:=λb u c el fz hu hcell=>by
     cases hg:(C.glob b).isSome with
     | false=>exact ⟨c,by rw[(hfor b (hsz b u hu) hg).1];exact hcell,rfl,λ_ _=>rfl⟩
     | true=>exact x.cells b u c el fz (by simp[Gh.apart,hg,hu]) hcell
    plain:=x.plain
    foreign:=λb hb h1 h2=>by
     have hg:(C.glob b).isSome=false:=by
      cases hg:(C.glob b).isSome with
      | false=>rfl
      | true =>
        obtain ⟨xs,hxs⟩:=Option.isSome_iff_exists.1 hg;obtain ⟨⟨u1,h3,_⟩,_⟩:=r.glob b xs hxs;rw[h1] at h3;cases h3
     refine ⟨(hfor b hb hg).1,?_,h2⟩;simp only[Gh.join,if_pos hb];exact h1
    size:=x.size
    tape:=x.tape
    os:=x.os
    output:=x.output }
   have hobj:∀ n b,G.rho n=some (some b)->w'.heap[b]?=w.heap[b]?:=by
    intro n b hb;obtain ⟨h1,h2⟩:=r.rimm n b hb;refine (hfor b h2 ?_).1;cases hg:(C.glob b).isSome with
    | false=>rfl
    | true =>
      obtain ⟨xs,hxs⟩:=Option.isSome_iff_exists.1 hg;obtain ⟨⟨u1,h3,_⟩,_⟩:=r.glob b xs hxs;rw[h1] at h3;cases h3
   have rel:Rel C (Gh.join C G G' w.heap.size) H w':={
    obj:=λn o ho b hb=>(r.obj n o ho b hb).mono ext (hobj n b hb)
    dead:=r.dead
    out:=r.out
    lin:=λn g hg=>by
     obtain ⟨a1,a2,b,u,m,a3,a4,a5,a6⟩:=r.lin n g hg;exact ⟨a1,a2,b,u,m,a3,hJ b u a4,ext.plain _ _ a5,a6⟩
    lamE:=r.lamE
    rinj:=r.rinj
    linj:=r.linj
    rimm:=λn b hb=>by
     obtain ⟨h1,h2⟩:=r.rimm n b hb;refine ⟨?_,Nat.lt_of_lt_of_le h2 x.size⟩;simp only[Gh.join,if_pos h2];exact h1
    immE:=λb u hu=>by
     simp only[Gh.join] at hu
     split at hu
     ·obtain ⟨c,el,fz,h1,h2⟩:=r.immE b u hu;obtain ⟨c',h3,h4,_⟩:=ext.cells b u c el fz hu h1;exact ⟨c',el,fz,h3,by omega⟩
     ·exact r'.immE b u hu
    low:=r.low
    glob:=λi xs hg=>by
     obtain ⟨⟨u,h1,h2⟩,_⟩:=r.glob i xs hg;exact ⟨⟨u,hJ i u h1,h2⟩,VRow.scal0 (λ_=>rfl) (hs i xs hg) (r'.glob i xs hg).2⟩
    globS:=r'.globS }
   refine ⟨v,H,H.length,_,rfl,rel,?_,VR.join hI hv hval⟩;exact { ext:=ext,pend:=λn _ h1 h2=>⟨h1,h2,rfl⟩,gone:=λn b h1 h2=>⟨h2,h1,hobj n b h2⟩,len:=Nat.le_refl _ }
def ek (C:Cfg)(M:Memo):Prop:=∀ f args v,M f args=some v->args.all Abs.scal0=true/\v.low 0=true /\
 ∀ G w (vs:Array Value),Rel C G [] w->VList G w args vs.toList->Calls C.P f vs w (ju C G [] w (.ret v [] 0))
theorem iW {C:Cfg}(gf:GoodF C)(hs:∀ i xs,C.glob i=some xs->xs.all Abs.scal0=true){M:Memo}(hM:ek C M) :
  ∀ k,ec C (callFM C M k)/\jk C (loopFM C M k)/\fX (callFM C M k)/\mI (loopFM C M k)
 | 0=>by
   refine ⟨?_,?_,?_,?_⟩
   ·intro f args H res h;simp[callFM] at h
   ·intro f cur b a s x h;simp[loopFM] at h
   ·intro f args h res hr;simp[callFM] at hr
   ·intro f cur b a s x h;simp[loopFM] at h
 | k+1=>by
   obtain ⟨h1,h2,h3,h4⟩:=iW gf hs hM k
   have e1:∀ f args h,callFM C M (k+1) f args h=dD (d7 C (callFM C M k) (loopFM C M k) f args h) (M f args) h:=by
    intro f args h;simp[callFM]
   have e2:loopFM C M (k+1)=λf cur b a s=>bm C (callFM C M k) (loopFM C M k) f cur (.loop b) a s:=by
    funext f cur b a s;simp[loopFM]
   refine ⟨?_,?_,?_,?_⟩
   ·intro f args H res hr G w vs rel hvs;rw[e1] at hr;cases hm:M f args with
    | none =>
      rw[hm] at hr;exact td gf h1 h2 h3 h4 f args H res hr G w vs rel hvs
    | some v =>
      rw[hm] at hr;simp only[dD,SJ] at hr;subst hr;obtain ⟨a1,a2,a3⟩:=hM f args v hm;exact Fd hs a1 a2 a3 rel hvs
   ·rw[e2];exact Ba gf.toGood h1 h2
   ·intro f args h res hr;rw[e1] at hr;cases hm:M f args with
    | none =>
      rw[hm] at hr;exact qT h3 h4 f args h res hr
    | some v =>
      rw[hm] at hr;simp only[dD,SJ] at hr;subst hr;intro v' h' e hx
      rcases hx with hx|hx
      ·cases hx;exact EscSt.refl _
      ·cases hx
   ·rw[e2];exact λf cur b a s x h=>cz h3 h4 (.loop b) cur a s x h
end
section
variable (C:Cfg)(M:Memo)
noncomputable def orc:RecT:=λf args h=>by
 classical exact if hx:∃ r,Evt (λk=>callFM C M k f args h=some r) then some hx.choose else none
end
section
variable {C:Cfg}{M:Memo}{T:FuncId->Option FZ}
theorem orc_rec:mn (callFM C M) (orc C M):=by
 intro f args h r hr;unfold orc at hr
 split at hr
 ·rename_i hx;simp only[SJ] at hr;rw[<-hr];exact hx.choose_spec
 ·cases hr
theorem vN {f:FuncId}{args:List AV}{h:Heap}{r:CRes}(hx:Evt (λk=>callFM C M k f args h=some r)):orc C M f args h=some r:=by
 have hex:∃ r,Evt (λk=>callFM C M k f args h=some r):=⟨r,hx⟩
 unfold orc;rw[dif_pos hex];obtain ⟨K,hK⟩:=hex.choose_spec.and hx;obtain ⟨h1,h2⟩:=hK K (Nat.le_refl _);rw[<-h1,h2]
theorem qg (hm:∀ f id,C.mask f id=none)(hT:ky C T){k:Nat}{f:FuncId}{args:List AV}{h:Heap}{r:CRes}(hx:callZ C M T k f args h=some r):orc C M f args h=some r :=
 vN (sZ hm hT k f args h r hx)
theorem fy (hm:∀ f id,C.mask f id=none)(hT:ky C T){f:FuncId}{args:List AV}{h:Heap}{r:CRes}(hM:M f args=none)(hx:eD C (orc C M) f args h (T f)=some r):orc C M f args h=some r:=by
 have step:=j4 (cf:=callFM C M) (lf:=loopFM C M) hm (λn f cur b a s=>by rw[loopFM]) orc_rec hT f args h r hx
 refine vN ?_;obtain ⟨K,hK⟩:=step;refine ⟨K+1,λn hn=>?_⟩
 obtain ⟨n',rfl⟩ : ∃ n',n=n'+1:=⟨n-1,by omega⟩
 rw[callFM,hM];exact hK n' (by omega)
def Gh.start (C:Cfg)(w:World)(keep:Nat->Bool):Gh where
 rho _:=none
 lam _:=none
 gen _:=0
 imm b:=if keep b then (match w.heap[b]? with
  | some (.cells c _ _)=>some c.size
  | _=>none) else none
theorem BA {w:World}{keep:Nat->Bool}(hk:∀ i xs,C.glob i=some xs->keep i=true)(hs:TabS C w)(hrow:∀ i xs,C.glob i=some xs->VRow (Gh.start C w keep) w i 0 xs):Rel C (Gh.start C w keep) [] w where
 obj n o h:=by simp at h
 dead n o h:=by simp at h
 out n _:=⟨rfl,rfl⟩
 lin n g h:=by simp at h
 lamE n b h:=by cases h
 rinj n m b h:=by cases h
 linj n m b h:=by cases h
 rimm n b h:=by cases h
 immE b u h:=by
  simp only[Gh.start] at h
  split at h
  ·split at h
   ·rename_i c el fz hc;simp only[SJ] at h;exact ⟨c,el,fz,hc,by omega⟩
   ·cases h
  ·cases h
 low n o h:=by simp at h
 glob i xs hg:=by
  obtain ⟨c,el,fz,h1,h2⟩:=hs i xs hg;exact ⟨⟨c.size,by simp[Gh.start,hk i xs hg,h1],by omega⟩,hrow i xs hg⟩
 globS:=hs
theorem tA {w w' : World}{keep:Nat->Bool}{G' : Gh}{H' : Heap}(st:Step (Gh.start C w keep) [] w G' H' w'):Go.RowKit.Below w.heap.size w w' where
 os:=st.ext.os
 tape:=st.ext.tape
 output:=st.ext.output
 size:=st.ext.size
 block k hk:=by
  cases hi:(Gh.start C w keep).imm k with
  | none=>exact (st.ext.foreign k hk hi (λn=>by simp[Gh.start])).1
  | some u =>
    have hi':=hi;simp only[Gh.start] at hi
    split at hi
    ·split at hi
     ·rename_i c el fz hc;simp only[SJ] at hi;subst hi;obtain ⟨c',h1,h2,h3⟩:=st.ext.cells k _ c el fz hi' hc
      have:c'=c:=by
       apply Array.ext';apply List.ext_getElem?;intro i
       rcases Nat.lt_or_ge i c.size with h|h
       ·simpa using h3 i h
       ·rw[List.getElem?_eq_none (by simp;omega),List.getElem?_eq_none (by simp;omega)]
      rw[h1,hc,this]
     ·cases hi
    ·cases hi
theorem AT (gf:GoodF C)(hs:∀ i xs,C.glob i=some xs->xs.all Abs.scal0=true)(hM:ek C M){f:FuncId}{args:List AV}{h' : Heap}{esc:Nat}
  (hx:orc C M f args []=some (.ret (.bool true) h' esc)) {w:World} {keep:Nat->Bool} {vs:Array Value} (hr:Rel C (Gh.start C w keep) [] w) (hv:VList (Gh.start C w keep) w args vs.toList) :
  Calls C.P f vs w λe w'=>e=.returned (.bool true)/\Go.RowKit.Below w.heap.size w w':=by
 obtain ⟨K,hK⟩:=orc_rec f args [] _ hx;refine ((iW gf hs hM K).1 f args [] _ (hK K (Nat.le_refl _)) _ w vs hr hv).mono λe w' he=>?_
 cases e with
 | returned val =>
   obtain ⟨a,H',esc',G',h1,h2,h3,h4⟩:=he;cases h1
   simp only[VR] at h4;subst h4;exact ⟨rfl,tA h3⟩
 | panicked c =>
   obtain ⟨a,H',esc',G',v,h1,_⟩:=he;cases h1
 | outgrown=>exact he.elim
theorem Kf (gf:GoodF C)(hs:∀ i xs,C.glob i=some xs->xs.all Abs.scal0=true)(hM:ek C M){f:FuncId}{args:List AV}{v:AV}(hx:orc C M f args []=some (.ret v [] 0)) :
  ∀ G w (vs:Array Value),Rel C G [] w->VList G w args vs.toList->Calls C.P f vs w (ju C G [] w (.ret v [] 0)):=by
 obtain ⟨K,hK⟩:=orc_rec f args [] _ hx;exact λG w vs hr hv=>(iW gf hs hM K).1 f args [] _ (hK K (Nat.le_refl _)) G w vs hr hv
end
section
variable {C:Cfg}{G:Gh}{w:World}{g:FuncId}
theorem nocalls:ec C (λ_ _ _=>none):=λf args H res h=>by cases h
theorem noloops:jk C (λ_ _ _ _ _=>none):=λf cur b a s x h=>by cases h
theorem oh (gd:Good C){rest:Code}(hsafe:bW C g rest=true){tm tm' : List AV}{s s2:St}{t:TypeId}{q y:AV}{qv yv:Value}{ob:AObj}{e3:Nat}
  (habs:bm C (λ_ _ _=>none) (λ_ _ _ _ _=>none) g 0 rest { tmps:=tm,defers:=[] } s=some (.normal,{ tmps:=tm',defers:=[] },⟨s2.heap++[ob],e3⟩))
  (r:Rel C G s.heap w) (hq:VR G w q qv) (hy:VR G w y yv) (hst:cB C t q y s=some s2) {ca:Go.Act} (hact:VList G w tm ca.tmps.toList) (hd:ca.defers=[]) :
  rest.wp C.P (λe a' w'=>e=.normal/\a'.defers=[]/\∃ G',Rel C G' s2.heap w'/\Step G s.heap w G' s2.heap w') ca w:=by
 have hlen:s2.heap.length=s.heap.length:=by
  unfold cB at hst
  split at hst
  ·split at hst
   ·split at hst
    ·cases hst;simp
    ·cases hst
   ·cases hst
  ·cases hst
 refine c8 gd nocalls noloops rest 0 _ s _ habs hsafe G w ca _ r ⟨hact,by rw[hd];rfl⟩ ?_
 intro G' w' ca' e' h1 h2 h3 h4;simp only[gy] at h4;subst h4;have hd' : ca'.defers=[]:=h3.defers;obtain ⟨w2,s1,s3,s4⟩:=oD r rfl hq hy hst
 have hlow:∀ (n:Nat) (o:AObj),n<s.heap.length->(s2.heap++[ob])[n]?=some o->o.low s.heap.length=true:=by
  intro n o hn ho;rw[List.getElem?_append_left (by omega)] at ho
  have:=s3.low n o ho
  rwa [hlen] at this
 obtain ⟨g1,g2⟩:=KC gd r h1 h2 hlow;have htake:(s2.heap++[ob]).take s.heap.length=s2.heap:=by rw[<-hlen];simp
 simp only[htake] at g1 g2;exact ⟨rfl,hd',_,g1,g2⟩
end
def eqArgs:List AV->List AV->Bool
 | [],[]=>true
 | .str a::r,.str b::s=>cond (strEq a b) (eqArgs r s) false
 | .int .i64 m::r,.int .i64 n::s=>cond (Bj m n) (eqArgs r s) false
 | _,_=>false
theorem eqArgs_eq:∀ {a b:List AV},eqArgs a b=true->a=b:=by
 intro a
 induction a with
 | nil =>
   intro b h;cases b with
   | nil=>rfl
   | cons x s=>simp[eqArgs] at h
 | cons x r ih =>
   intro b h;unfold eqArgs at h
   split at h
   ·rename_i heq;cases heq
   ·rename_i a r' b s heq;cases heq
    cases hs:strEq a b with
    | false=>rw[hs] at h;cases h
    | true =>
      rw[hs] at h;rw[strEq_eq] at hs;simp at hs;rw[hs,ih h]
   ·rename_i m r' n s heq;cases heq
    cases hs:Bj m n with
    | false=>rw[hs] at h;cases h
    | true =>
      rw[hs] at h;rw[iE] at hs;simp at hs;rw[hs,ih h]
   ·cases h
def memoL:List (FuncId×List AV×AV)->Memo
 | []=>λ_ _=>none
 | (g,a,v)::r=>λf args=>cond (Nat.beq g f) (cond (eqArgs a args) (some v) (memoL r f args)) (memoL r f args)
section
variable {C:Cfg}
theorem memo_nil:ek C (memoL []):=λf args v h=>by cases h
theorem i2 (gf:GoodF C)(hs:∀ i xs,C.glob i=some xs->xs.all Abs.scal0=true){l:List (FuncId×List AV×AV)}(hl:ek C (memoL l)){M:Memo}(hM:ek C M){f:FuncId}{a:List AV}{v:AV}
  (ha:a.all Abs.scal0=true) (hv:v.low 0=true) (hx:orc C M f a []=some (.ret v [] 0)):ek C (memoL ((f,a,v)::l)):=by
 intro g args u h;simp only[memoL] at h;cases hf:Nat.beq f g with
 | false=>rw[hf] at h;exact hl g args u h
 | true =>
   rw[hf] at h;cases he:eqArgs a args with
   | false=>rw[he] at h;exact hl g args u h
   | true =>
     rw[he] at h;simp only[cond_true,SJ] at h;subst h;have:=Nat.eq_of_beq_eq_true hf;subst this;have:=eqArgs_eq he;subst this;exact ⟨ha,hv,Kf gf hs hM hx⟩
end
def Ia (r r' : RecT):Prop:=∀ f a h z,r f a h=some z->r' f a h=some z
section
variable {C:Cfg}{rec rec' : RecT}{α:Type}
theorem zi {r r' : Option CRes}(hr:∀ z,r=some z->r'=some z){e0:Nat}{k k' kp kp' : AV->St->Option α}(hk:∀ v s z,k v s=some z->k' v s=some z)(hp:∀ v s z,kp v s=some z->kp' v s=some z){z:α}
  (h:cZ r e0 k kp=some z):cZ r' e0 k' kp'=some z:=by
 unfold cZ at h
 split at h
 ·rw[hr _ rfl];exact hk _ _ _ h
 ·rw[hr _ rfl];exact hp _ _ _ h
 ·cases h
theorem fL (hr:Ia rec rec'){v:Option OR}{ds:Dfs}{s:St}{k k' : AV->Dfs->St->Option α}{kp kp' : AV->St->Option α}(hk:∀ v ds s z,k v ds s=some z->k' v ds s=some z)(hp:∀ v s z,kp v s=some z->kp' v s=some z){z:α}
  (h:oE rec v ds s k kp=some z):oE rec' v ds s k' kp'=some z:=by
 unfold oE at h
 split at h
 ·exact hk _ _ _ _ h
 ·exact hk _ _ _ _ h
 ·exact hp _ _ _ h
 ·exact hk _ _ _ _ h
 ·exact zi (λz hz=>hr _ _ _ z hz) (λv s z hz=>hk _ _ _ _ hz) hp h
 ·cases h
theorem kD {γ:Type}{x:Option γ}{k k' : γ->Option α}(hk:∀ v z,k v=some z->k' v=some z){z:α}(h:oB x k=some z):oB x k'=some z:=by
 obtain ⟨a,h1,h2⟩:=du h;subst h1;exact hk _ _ h2
theorem oW (hr:Ia rec rec'){f:FuncId}{e:Env}{ds:Dfs}{s:St}{op:IOp}{k k' : AV->Dfs->St->Option α}{kp kp' : AV->St->Option α}(hk:∀ v ds s z,k v ds s=some z->k' v ds s=some z)(hp:∀ v s z,kp v s=some z->kp' v s=some z){z:α}
  (h:BK C rec f e ds s op k kp=some z):BK C rec' f e ds s op k' kp'=some z:=by
 cases op with
 | p x=>exact kD (λv z hz=>hk _ _ _ _ hz) h
 | r x=>exact kD (λv z hz=>hk _ _ _ _ hz) h
 | a x =>
   simp only[BK] at h ⊢;unfold oA at h ⊢
   split at h
   ·exact hk _ _ _ _ h
   ·cases h
 | e x =>
   cases x with
   | sto n a v=>exact kD (λv z hz=>hk _ _ _ _ hz) h
   | call g args=>exact zi (r:=rec g (xp e args) s.heap) (r':=rec' g (xp e args) s.heap) (k:=λv s=>k v ds s) (k':=λv s=>k' v ds s) (λz hz=>hr _ _ _ z hz) (λv s z hz=>hk v ds s z hz) hp h
   | dfr g args=>exact hk _ _ _ _ h
   | mu t m k x=>exact fL hr hk hp h
   | me t m k=>exact fL hr hk hp h
   | es m k x=>exact fL hr hk hp h
   | pan x=>exact fL hr hk hp h
   | app t tx x y=>exact fL hr hk hp h
   | ibs x y=>exact fL hr hk hp h
   | callv fn l=>exact fL hr hk hp h
   | inv n r l=>exact fL hr hk hp h
theorem Ag {c:AV}{want:Bool}{no no' yes yes' : Option α}(hn:∀ z,no=some z->no'=some z)(hy:∀ z,yes=some z->yes'=some z){z:α}(h:gZ c want no yes=some z):gZ c want no' yes'=some z:=by
 unfold gZ at h ⊢
 split at h
 ·rename_i b;cases hb:(b == want) with
  | true=>rw[hb] at h;exact hy _ h
  | false=>rw[hb] at h;exact hn _ h
 ·cases h
 ·exact hn _ h
theorem i9 (hr:Ia rec rec'){f:FuncId}:∀ (l:List IO1) (e:Env) (ds:Dfs) (s:St) (z),mp C rec f l e ds s=some z->mp C rec' f l e ds s=some z
 | [],e,ds,s,z,h=>h
 | o::r,e,ds,s,z,h=>by
   rw[mp] at h ⊢
   split at h
   ·exact oW hr (λv ds s z hz=>i9 hr r _ _ _ _ hz) (λ_ _ _ hz=>hz) h
   ·exact Ag (λz hz=>i9 hr r _ _ _ _ hz) (λz hz=>oW hr (λv ds s z hz=>i9 hr r _ _ _ _ hz) (λ_ _ _ hz=>hz) hz) h
theorem lE {c:Bool}{x x' : Option α}(hx:∀ z,x=some z->x'=some z){z:α}(h:cond c x none=some z):cond c x' none=some z:=by
 obtain ⟨h1,h2⟩:=aT h;rw[h1];exact hx _ h2
theorem l7 (hr:Ia rec rec'){f:FuncId}{n:Nat}{bef:List Nat}{o:IO1}{d:DI}{k k' : AV->St->Nat->List (Nat×Heap)->List (Nat×(Heap->Option AV)×AV)->Option α}{ke:AV->St->Option α}
  (hk:∀ a b c d e z,k a b c d e=some z->k' a b c d e=some z) {z:α} (h:iG C rec f n bef o d k ke=some z):iG C rec' f n bef o d k' ke=some z:=by
 unfold iG at h ⊢;cases ho:o.op with
 | p x=>rw[ho] at h;exact kD (λv z hz=>hk _ _ _ _ _ _ hz) h
 | r x=>rw[ho] at h;exact kD (λv z hz=>lE (λz hz=>hk _ _ _ _ _ _ hz) hz) h
 | a x =>
   rw[ho] at h;simp only at h ⊢;unfold dA at h ⊢
   split at h
   ·exact hk _ _ _ _ _ _ h
   ·cases h
 | e x =>
   rw[ho] at h
   have h:BK C rec f d.env [] d.st (.e x) (λv ds s=>dz ds (cond (dK (bef.getD o.i 0) s.heap d.reads) (k v s d.slot ((o.i,d.st.heap)::d.hist) d.reads) none))
    (λp s=>cond (yL n bef o.i) (ke p s) none)=some z:=h
   show BK C rec' f d.env [] d.st (.e x) (λv ds s=>dz ds (cond (dK (bef.getD o.i 0) s.heap d.reads) (k' v s d.slot ((o.i,d.st.heap)::d.hist) d.reads) none))
    (λp s=>cond (yL n bef o.i) (ke p s) none)=some z
   refine oW (op:=.e x) hr (λv ds s z hz=>?_) (λ_ _ _ hz=>hz) h
   unfold dz at hz ⊢
   split at hz
   ·exact lE (λz hz=>hk _ _ _ _ _ _ hz) hz
   ·cases hz
theorem hZ (hr:Ia rec rec'){f:FuncId}{n:Nat}{bef:List Nat}{k:DI->Option α}{ke:AV->St->Option α}:∀ (l:List IO1) (d:DI) (z:α),iS C rec f n bef k ke l d=some z->iS C rec' f n bef k ke l d=some z
 | [],d,z,h=>h
 | o::r,d,z,h=>by
   rw[iS] at h ⊢
   split at h
   ·exact l7 hr (λ_ _ _ _ _ z hz=>hZ hr r _ _ hz) h
   ·exact Ag (λz hz=>hZ hr r _ _ hz) (λz hz=>l7 hr (λ_ _ _ _ _ z hz=>hZ hr r _ _ hz) hz) h
theorem pp {b b' : CZ}{x x' : IRes}(hb:∀ r ds s z,b r ds s=some z->b' r ds s=some z)(hx:∀ z,x=some z->x'=some z){z}(h:dI b x=some z):dI b' x'=some z:=by
 unfold dI at h
 split at h
 ·rename_i e r ds s;rw[hx _ rfl]
  split at h
  ·exact hb _ _ _ _ h
  ·rename_i hne;cases h
   unfold dI;cases e<;>first|rfl|exact absurd rfl hne
 ·cases h
theorem vP (hr:Ia rec rec'){f:FuncId}:∀ (c:IC) (r:RG) (ds:Dfs) (s:St) (z),dM C rec f c r ds s=some z->dM C rec' f c r ds s=some z:=by
 intro c
 induction c with
 | skip=>intro r ds s z h;exact h
 | reg l=>intro r ds s z h;exact i9 hr l _ _ _ _ h
 | draw n na bef l=>intro r ds s z h;exact hZ hr l _ _ h
 | seq a b iha ihb=>intro r ds s z h;exact pp ihb (λz hz=>iha _ _ _ _ hz) h
 | cond c a b iha ihb =>
   intro r ds s z h;simp only[dM,aA,eW] at h ⊢
   split at h
   ·rename_i t ht;cases t with
    | true=>exact iha _ _ _ _ h
    | false=>exact ihb _ _ _ _ h
   ·cases h
 | block id b ih =>
   intro r ds s z h;simp only[dM,aH] at h ⊢;unfold c9 at h
   split at h
   ·rename_i e r1 ds1 s1 he;rw[ih _ _ _ _ he];simp only[c9];exact h
   ·cases h
 | loop b ih =>
   intro r ds s z h;simp only[dM,aK] at h ⊢;generalize 100000=m at h ⊢
   induction m generalizing r ds s z with
   | zero=>cases h
   | succ m ihm=>exact pp ihm (λz hz=>ih _ _ _ _ hz) h
 | exit id=>intro r ds s z h;exact h
 | ret=>intro r ds s z h;exact h
theorem FZok.mono {f:FuncId}{z:FZ}(hz:FZok C f z)(hr:Ia rec rec'){r:RG}{ds:Dfs}{s:St}{x}(h:z.sh rec r ds s=some x):z.sh rec' r ds s=some x:=by
 obtain ⟨D,fi,_,_,_,hsh⟩:=hz;rw[<-hsh] at h ⊢;exact vP hr _ _ _ _ _ h
end
abbrev Kn:=FuncId->List AV->Heap->Option CRes
def YU (x y:Option CRes):Option CRes:=match x with
 | some r=>some r
 | none=>y
section
variable (C:Cfg)(M:Memo)(T:FuncId->Option FZ)(K:Kn)
noncomputable def callK:Nat->RecT
 | 0=>λ_ _ _=>none
 | k+1=>λf args h=>dD (YU (K f args h) (eD C (callK k) f args h (T f))) (M f args) h
end
section
variable {C:Cfg}{M:Memo}{T:FuncId->Option FZ}{K:Kn}
def WH (C:Cfg)(M:Memo)(K:Kn):Prop:=∀ f a h r,K f a h=some r->M f a=none->orc C M f a h=some r
theorem f5 {f:FuncId}{args:List AV}{h:Heap}{v:AV}(hM:M f args=some v):orc C M f args h=some (.ret v h h.length):=by
 refine vN ⟨1,λn hn=>?_⟩
 obtain ⟨n',rfl⟩ : ∃ n',n=n'+1:=⟨n-1,by omega⟩
 rw[callFM,hM];rfl
theorem o7 (hm:∀ f id,C.mask f id=none)(hT:ky C T){rec:RecT}(hr:Ia rec (orc C M)){f:FuncId}{args:List AV}{h:Heap}{r:CRes}(hM:M f args=none)(hx:eD C rec f args h (T f)=some r):orc C M f args h=some r:=by
 refine fy hm hT hM ?_;unfold eD at hx ⊢;cases hz:T f with
 | none=>rw[hz] at hx;cases hx
 | some z =>
   rw[hz] at hx;simp only at hx ⊢;refine lE (λy hy=>?_) hx
   unfold lw at hy ⊢
   split at hy
   ·rename_i e r0 ds s he;rw[(hT f z hz).mono hr he];exact hy
   ·cases hy
theorem sU (hm:∀ f id,C.mask f id=none)(hT:ky C T)(hK:WH C M K):∀ k,Ia (callK C M T K k) (orc C M)
 | 0=>λf a h z hz=>by cases hz
 | k+1=>λf a h z hz=>by
   simp only[callK] at hz;cases hM:M f a with
   | some v =>
     rw[hM] at hz;simp only[dD,SJ] at hz;rw[<-hz];exact f5 hM
   | none =>
     rw[hM] at hz;simp only[dD] at hz;cases hk:K f a h with
     | some r =>
       rw[hk] at hz;simp only[YU,SJ] at hz;rw[<-hz];exact hK f a h r hk hM
     | none =>
       rw[hk] at hz;exact o7 hm hT (sU hm hT hK k) hM hz
end
end Go.Abs
