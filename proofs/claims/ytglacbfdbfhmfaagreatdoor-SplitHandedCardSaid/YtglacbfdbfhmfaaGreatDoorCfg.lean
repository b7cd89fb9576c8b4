/- the machine over this seat. Part of the proof of girandolelaw12.SplitHanded. -/
import Derived.Test.YtglacbfdbfhmfaaGreatDoorB2
import Derived.Test.YtglacbfdbfhmfaaGreatDoorProg
import Derived.KernelRfl
set_option linter.unusedVariables false
set_option linter.unusedSimpArgs false
namespace Go.Proofs
open Go Go.Abs
def asp:List AV:=(List.range 256).map λ(i:Nat)=>AV.int .u8 (if i=32\/(9<=i/\i<=13) then 1 else 0)
noncomputable def CC:Cfg:={ P:=Tryz.prog,glob:=λi=>if i=1 then some asp else none,mutT:=λf t=>t == 84||t == 86||t == 101||(f == 21&&t == 22)||(f == 6&&t == 32),keep:=λf=>f == 60||f == 138,fine:=λ_=>true,catcher:=λf=>if f=47\/f=57 then some 29 else none,mask:=λ_ _=>none }
theorem cc_mask:∀ f id,CC.mask f id=none:=λ_ _=>rfl
theorem cc_scal:∀ i xs,CC.glob i=some xs->xs.all Abs.scal0=true:=by
 intro i xs h;have h' : (if i=1 then some asp else none)=some xs:=h
 split at h'
 ·cases h'
  have:asp.all Abs.scal0=true:=by kernel_rfl
  exact this
 ·cases h'
theorem cc_mixed:CC.P.follows .mixedOrders=true:=by kernel_rfl
def pr (p:Nat->Func->Bool):Nat->List Func->Bool
 | _,[]=>true
 | i,f::r=>p i f&&pr p (i+1) r
theorem n6 {p:Nat->Func->Bool}:∀ (l:List Func) (i:Nat),pr p i l=true->∀ j f,l[j]?=some f->p (i+j) f=true
 | [],i,_,j,f,h=>by simp at h
 | f::r,i,h,0,g,hg=>by
   simp only[pr,Bool.and_eq_true] at h;simp at hg;subst hg;simpa using h.1
 | f::r,i,h,j+1,g,hg=>by
   simp only[pr,Bool.and_eq_true] at h;have:=n6 r (i+1) h.2 j g (by simpa using hg)
   rwa [show i+1+j=i+(j+1) by omega] at this
theorem cc_safe0:pr (λi f=>match f.body with|some c=>bW CC i c|none=>true) 0 CC.P.funcs.toList=true:=by kernel_rfl
theorem I9 (f:FuncId)(fn:Func)(c:Code)(h:CC.P.funcs[f]?=some fn)(hb:fn.body=some c)(_:CC.fine f=true):bW CC f c=true:=by
 have:=n6 _ 0 cc_safe0 f fn (by simpa using h)
 simpa [hb] using this
theorem QH (f : FuncId) (fn : Func) (h : CC.P.funcs[f]? = some fn) (_ : fn.body.isNone = true) (hn : fn.name = "internal/bytealg.IndexByteString") :
  Extern.findNext fn=none/\Extern.find fn=some Extern.BytealgIndexByte.indexByte:=by
 have h0 : pr (fun i f => !(f.name == "internal/bytealg.IndexByteString") || i == 164) 0 CC.P.funcs.toList = true := by kernel_rfl
 have:=n6 _ 0 h0 f fn (by simpa using h)
 simp[hn] at this;subst this;have hf:CC.P.funcs[164]?=some Tryz.f164:=Tryz.func164;rw[hf] at h;cases h
 exact ⟨by kernel_rfl,by kernel_rfl⟩
theorem cc_good:Go.Abs.Good CC where
 ext:=QH
 mixed:=cc_mixed
 glob:=by
  intro i xs h;have h' : (if i=1 then some asp else none)=some xs:=h
  split at h'
  ·cases h'
   have:aG 0 asp=true:=by kernel_rfl
   exact this
  ·cases h'
theorem cc_zf:cj CC 29=some (.agg [.int .i64 0,.int .i64 0]):=by kernel_rfl
theorem cc_sf:cU CC 29=some 2:=by kernel_rfl
theorem cc_u20:CC.P.underlying 20=some (.interface #[]):=by kernel_rfl
theorem cc_uf:∃ fs,CC.P.underlying 29=some (.struct fs):=⟨_,Tryz.underlying29⟩
def restOf:Code->Code
 | .seq _ b=>b
 | c=>c
def M3 (q y:AV):List AV:=[q,Abs.undef,Abs.undef,Abs.undef,Abs.undef,.iface 29 y,Abs.undef,Abs.undef,Abs.undef,Abs.undef,Abs.undef,Abs.undef,Abs.undef,Abs.undef]
theorem WZ (q y:AV)(s s2:St)(h:cB CC 29 q y s=some s2):∃ tm' ob e3,bm CC (λ_ _ _=>none) (λ_ _ _ _ _=>none) 47 0 (restOf ((Tryz.f47.body).getD .skip))
  { tmps:=M3 q y,defers:=[] } s=some (.normal,{ tmps:=tm',defers:=[] },⟨s2.heap++[ob],e3⟩):=by
 unfold cB at h;rw[cc_sf] at h
 split at h
 ·rename_i n r off hn;cases hn
  split at h
  ·rename_i cs hcs
   split at h
   ·rename_i hc;obtain ⟨h1,h2,h3,h4⟩:=hc;cases h
    have hy:∃ a b,y=.agg [a,b]:=by
     cases y<;>simp only[AV.cells,List.length_cons,List.length_nil] at h1<;>try omega
     rename_i l
     match l,h1 with
     | [a,b],_=>exact ⟨a,b,rfl⟩
    obtain ⟨a,b,rfl⟩:=hy;have hr:=(List.getElem?_eq_some_iff.1 hcs).1;have e27:=cc_sf;have ez:=cc_zf;have e20:=cc_u20;obtain ⟨fs,e27'⟩:=cc_uf;have l1:AV.low (s.heap.length+1) (.agg [a,b])=true:=AV.low_mono (by omega) _ h4
    refine ⟨[.ptr r off,Abs.undef,Abs.undef,.ptr s.heap.length 0,Abs.undef,.iface 29 (.agg [a,b]),Abs.undef,.bool false,.tuple [.agg [a,b],.bool true],.bool true,.agg [a,b],.ptr r off,.agg [a,b],.ptr r off],.cells [a,b],dl (.agg [a,b]) r s,?_⟩;simp only[Tryz.f47,Option.getD,restOf,M3];have h3' : a.one=true/\b.one=true:=by simpa [AV.cells] using h3
    have hg:(s.heap++[AObj.cells [a,b]])[r]?=some (.cells cs):=by rw[List.getElem?_append_left hr];exact hcs
    have hs:∀ x,(s.heap++[AObj.cells [a,b]]).set r x=s.heap.set r x++[AObj.cells [a,b]]:=λx=>List.set_append_left _ _ hr
    simp[bm,gh,aI,bC,aD,bE,cM,eV,ofConst,cR,bI,isConst,bF,eqAV,eqDepth,e20,fC,dB,e27',dg,fV,eo,aggD,bS,ez,cB,e27,AV.cells,h3'.1,h3'.2,l1,a9,hcs,dl,hg,hs,h2]
   ·cases h
  ·cases h
 ·cases h
theorem safe47:bW CC 47 (restOf ((Tryz.f47.body).getD .skip))=true:=by kernel_rfl
set_option maxHeartbeats 1000000 in
theorem W4 (G:Gh)(s s2:St)(w:World)(q y:AV)(qv yv:Value)(r:Rel CC G s.heap w)(hq:VR G w q qv)(hy:VR G w y yv)(hst:cB CC 29 q y s=some s2) :
  CallsD CC.P 47 #[qv] (.panicking [{ v:=.iface 29 yv,recovered:=false }]) w
   (λe u' w'=>u'=.panicking [{ v:=.iface 29 yv,recovered:=true }]/\(∃ v,e=.returned v)/\∃ G',Rel CC G' s2.heap w'/\Step G s.heap w G' s2.heap w'):=by
 obtain ⟨tm',ob,e3,habs⟩:=WZ q y s s2 hst;refine callsD_of_wpS Tryz.func47 rfl λc₀ cs hu=>?_
 have htm:(#[qv]++Array.replicate (Tryz.f47.ntmps-(#[qv]:Array Value).size) Go.undef)=#[qv,Go.undef,Go.undef,Go.undef,Go.undef,Go.undef,Go.undef,Go.undef,Go.undef,Go.undef,Go.undef,Go.undef,Go.undef,Go.undef]:=by kernel_rfl
 rw[htm];apply wpS_seq;apply wpS_region;simp[wpOpsS,go_sem,recoverD,hu,Exit.thenS];refine wpS_of_wp ?_
 have hv:VList G w (M3 q y) [qv,Go.undef,Go.undef,Go.undef,Go.undef,Value.iface 29 yv,Go.undef,Go.undef,Go.undef,Go.undef,Go.undef,Go.undef,Go.undef,Go.undef]:=by
  have hu' : VR G w Abs.undef Go.undef:=VR.undef;simp only[M3,VList];exact ⟨_,_,rfl,hq,_,_,rfl,hu',_,_,rfl,hu',_,_,rfl,hu',_,_,rfl,hu',_,_,rfl,⟨yv,rfl,hy⟩,_,_,rfl,hu',_,_,rfl,hu',_,_,rfl,hu',_,_,rfl,hu',_,_,rfl,hu',_,_,rfl,hu',_,_,rfl,hu',_,_,rfl,hu',rfl⟩
 refine wp_mono (oh cc_good safe47 habs r hq hy hst (ca:=⟨#[qv,Go.undef,Go.undef,Go.undef,Go.undef,Value.iface 29 yv,Go.undef,Go.undef,Go.undef,Go.undef,Go.undef,Go.undef,Go.undef,Go.undef],[]⟩) hv rfl) ?_
 rintro e a' w' ⟨rfl,hd,G',h1,h2⟩
 refine ⟨hd,_,rfl,.tuple #[],?_,rfl,⟨_,rfl⟩,G',h1,h2⟩;simp[results,Tryz.f47]
set_option maxHeartbeats 1000000 in
theorem V4 (args:Array Value)(w:World):CallsD CC.P 47 args .returning w (λe u' w'=>u'=.returning/\(∃ v,e=.returned v)/\SameHeap w w'):=by
 show CallsD Tryz.prog 47 args .returning w _;refine callsD_of_wpS Tryz.func47 rfl λc₀ cs hu=>?_
 have hsz:14<=(args++Array.replicate (Tryz.f47.ntmps-args.size) Go.undef).size:=by simp[Tryz.ntmps47];omega
 generalize (args++Array.replicate (Tryz.f47.ntmps-args.size) Go.undef)=tm at hsz ⊢;have heq:∀ w:World,(binOp BinOp.eql 20 .nilIface .nilIface).run Tryz.prog w=.ok (.bool true) w:=λ_=>by kernel_rfl
 have g5:∀ x:Value,(tm.setIfInBounds 5 x).getD 5 Go.undef=x:=λx=>by simp[Array.getD_eq_getD_getElem?,show 5<tm.size by omega]
 have g7:∀ x y:Value,((tm.setIfInBounds 5 x).setIfInBounds 7 y).getD 7 Go.undef=y:=λx y=>by simp[Array.getD_eq_getD_getElem?,show 7<tm.size by omega]
 have g75:∀ x y:Value,((tm.setIfInBounds 5 x).setIfInBounds 7 y).getD 5 Go.undef=x:=λx y=>by simp[Array.getD_eq_getD_getElem?,Array.getElem?_setIfInBounds,show 5<tm.size by omega]
 apply wpS_seq;apply wpS_region;simp[wpOpsS,go_sem,recoverD,hu,Exit.thenS];refine wpS_of_wp ?_;apply wp_block;apply wp_seq;apply wp_region;simp[wpOps,go_sem,Exit.then,Oper.wp,heq,Act.eval,Oper.upon,g5];refine .inl ?_;refine wp_cond_true ?_ ?_
 ·simp[Act.eval,show 7<tm.size by omega]
 apply wp_region;simp[wpOps,go_sem,Exit.then,Exit.inBlock,Oper.wp,Act.eval,Oper.upon,g75];refine .inl ?_;refine ⟨rfl,c₀.mode,rfl,.tuple #[],?_,hu,⟨_,rfl⟩,rfl,rfl,rfl,rfl⟩;simp[results,Tryz.f47]
theorem W7 (q y:AV)(s s2:St)(h:cB CC 29 q y s=some s2):∃ tm' ob e3,bm CC (λ_ _ _=>none) (λ_ _ _ _ _=>none) 57 0 (restOf ((Tryz.f57.body).getD .skip))
  { tmps:=M3 q y,defers:=[] } s=some (.normal,{ tmps:=tm',defers:=[] },⟨s2.heap++[ob],e3⟩):=by
 unfold cB at h;rw[cc_sf] at h
 split at h
 ·rename_i n r off hn;cases hn
  split at h
  ·rename_i cs hcs
   split at h
   ·rename_i hc;obtain ⟨h1,h2,h3,h4⟩:=hc;cases h
    have hy:∃ a b,y=.agg [a,b]:=by
     cases y<;>simp only[AV.cells,List.length_cons,List.length_nil] at h1<;>try omega
     rename_i l
     match l,h1 with
     | [a,b],_=>exact ⟨a,b,rfl⟩
    obtain ⟨a,b,rfl⟩:=hy;have hr:=(List.getElem?_eq_some_iff.1 hcs).1;have e27:=cc_sf;have ez:=cc_zf;have e20:=cc_u20;obtain ⟨fs,e27'⟩:=cc_uf;have l1:AV.low (s.heap.length+1) (.agg [a,b])=true:=AV.low_mono (by omega) _ h4
    refine ⟨[.ptr r off,Abs.undef,Abs.undef,.ptr s.heap.length 0,Abs.undef,.iface 29 (.agg [a,b]),Abs.undef,.bool false,.tuple [.agg [a,b],.bool true],.bool true,.agg [a,b],.ptr r off,.agg [a,b],.ptr r off],.cells [a,b],dl (.agg [a,b]) r s,?_⟩;simp only[Tryz.f57,Option.getD,restOf,M3];have h3' : a.one=true/\b.one=true:=by simpa [AV.cells] using h3
    have hg:(s.heap++[AObj.cells [a,b]])[r]?=some (.cells cs):=by rw[List.getElem?_append_left hr];exact hcs
    have hs:∀ x,(s.heap++[AObj.cells [a,b]]).set r x=s.heap.set r x++[AObj.cells [a,b]]:=λx=>List.set_append_left _ _ hr
    simp[bm,gh,aI,bC,aD,bE,cM,eV,ofConst,cR,bI,isConst,bF,eqAV,eqDepth,e20,fC,dB,e27',dg,fV,eo,aggD,bS,ez,cB,e27,AV.cells,h3'.1,h3'.2,l1,a9,hcs,dl,hg,hs,h2]
   ·cases h
  ·cases h
 ·cases h
theorem safe57:bW CC 57 (restOf ((Tryz.f57.body).getD .skip))=true:=by kernel_rfl
set_option maxHeartbeats 1000000 in
theorem UQ (G:Gh)(s s2:St)(w:World)(q y:AV)(qv yv:Value)(r:Rel CC G s.heap w)(hq:VR G w q qv)(hy:VR G w y yv)(hst:cB CC 29 q y s=some s2) :
  CallsD CC.P 57 #[qv] (.panicking [{ v:=.iface 29 yv,recovered:=false }]) w
   (λe u' w'=>u'=.panicking [{ v:=.iface 29 yv,recovered:=true }]/\(∃ v,e=.returned v)/\∃ G',Rel CC G' s2.heap w'/\Step G s.heap w G' s2.heap w'):=by
 obtain ⟨tm',ob,e3,habs⟩:=W7 q y s s2 hst;refine callsD_of_wpS Tryz.func57 rfl λc₀ cs hu=>?_
 have htm:(#[qv]++Array.replicate (Tryz.f57.ntmps-(#[qv]:Array Value).size) Go.undef)=#[qv,Go.undef,Go.undef,Go.undef,Go.undef,Go.undef,Go.undef,Go.undef,Go.undef,Go.undef,Go.undef,Go.undef,Go.undef,Go.undef]:=by kernel_rfl
 rw[htm];apply wpS_seq;apply wpS_region;simp[wpOpsS,go_sem,recoverD,hu,Exit.thenS];refine wpS_of_wp ?_
 have hv:VList G w (M3 q y) [qv,Go.undef,Go.undef,Go.undef,Go.undef,Value.iface 29 yv,Go.undef,Go.undef,Go.undef,Go.undef,Go.undef,Go.undef,Go.undef,Go.undef]:=by
  have hu' : VR G w Abs.undef Go.undef:=VR.undef;simp only[M3,VList];exact ⟨_,_,rfl,hq,_,_,rfl,hu',_,_,rfl,hu',_,_,rfl,hu',_,_,rfl,hu',_,_,rfl,⟨yv,rfl,hy⟩,_,_,rfl,hu',_,_,rfl,hu',_,_,rfl,hu',_,_,rfl,hu',_,_,rfl,hu',_,_,rfl,hu',_,_,rfl,hu',_,_,rfl,hu',rfl⟩
 refine wp_mono (oh cc_good safe57 habs r hq hy hst (ca:=⟨#[qv,Go.undef,Go.undef,Go.undef,Go.undef,Value.iface 29 yv,Go.undef,Go.undef,Go.undef,Go.undef,Go.undef,Go.undef,Go.undef,Go.undef],[]⟩) hv rfl) ?_
 rintro e a' w' ⟨rfl,hd,G',h1,h2⟩
 refine ⟨hd,_,rfl,.tuple #[],?_,rfl,⟨_,rfl⟩,G',h1,h2⟩;simp[results,Tryz.f57]
set_option maxHeartbeats 1000000 in
theorem Vy (args:Array Value)(w:World):CallsD CC.P 57 args .returning w (λe u' w'=>u'=.returning/\(∃ v,e=.returned v)/\SameHeap w w'):=by
 show CallsD Tryz.prog 57 args .returning w _;refine callsD_of_wpS Tryz.func57 rfl λc₀ cs hu=>?_
 have hsz:14<=(args++Array.replicate (Tryz.f57.ntmps-args.size) Go.undef).size:=by simp[Tryz.ntmps57];omega
 generalize (args++Array.replicate (Tryz.f57.ntmps-args.size) Go.undef)=tm at hsz ⊢;have heq:∀ w:World,(binOp BinOp.eql 20 .nilIface .nilIface).run Tryz.prog w=.ok (.bool true) w:=λ_=>by kernel_rfl
 have g5:∀ x:Value,(tm.setIfInBounds 5 x).getD 5 Go.undef=x:=λx=>by simp[Array.getD_eq_getD_getElem?,show 5<tm.size by omega]
 have g7:∀ x y:Value,((tm.setIfInBounds 5 x).setIfInBounds 7 y).getD 7 Go.undef=y:=λx y=>by simp[Array.getD_eq_getD_getElem?,show 7<tm.size by omega]
 have g75:∀ x y:Value,((tm.setIfInBounds 5 x).setIfInBounds 7 y).getD 5 Go.undef=x:=λx y=>by simp[Array.getD_eq_getD_getElem?,Array.getElem?_setIfInBounds,show 5<tm.size by omega]
 apply wpS_seq;apply wpS_region;simp[wpOpsS,go_sem,recoverD,hu,Exit.thenS];refine wpS_of_wp ?_;apply wp_block;apply wp_seq;apply wp_region;simp[wpOps,go_sem,Exit.then,Oper.wp,heq,Act.eval,Oper.upon,g5];refine .inl ?_;refine wp_cond_true ?_ ?_
 ·simp[Act.eval,show 7<tm.size by omega]
 apply wp_region;simp[wpOps,go_sem,Exit.then,Exit.inBlock,Oper.wp,Act.eval,Oper.upon,g75];refine .inl ?_;refine ⟨rfl,c₀.mode,rfl,.tuple #[],?_,hu,⟨_,rfl⟩,rfl,rfl,rfl,rfl⟩;simp[results,Tryz.f57]
theorem nZ {g t:Nat}(h:CC.catcher g=some t):t=29/\(g=47\/g=57):=by
 have h' : (if g=47\/g=57 then some 29 else none)=some t:=h
 split at h'
 ·rename_i hg;cases h';exact ⟨rfl,hg⟩
 ·cases h'
theorem cc_goodF:GoodF CC where
 toGood:=cc_good
 safe:=I9
 catch_fn g t h:=by
  obtain ⟨rfl,hg⟩:=nZ h
  rcases hg with rfl|rfl
  ·exact ⟨Tryz.f47,Tryz.func47,by kernel_rfl,by decide⟩
  ·exact ⟨Tryz.f57,Tryz.func57,by kernel_rfl,by decide⟩
 catch_ret g t h args w:=by
  obtain ⟨rfl,hg⟩:=nZ h
  rcases hg with rfl|rfl
  ·exact V4 args w
  ·exact Vy args w
 catch_pan g t h G s s2 w q y qv yv r hq hy hst:=by
  obtain ⟨rfl,hg⟩:=nZ h
  rcases hg with rfl|rfl
  ·exact W4 G s s2 w q y qv yv r hq hy hst
  ·exact UQ G s s2 w q y qv yv r hq hy hst
end Go.Proofs
