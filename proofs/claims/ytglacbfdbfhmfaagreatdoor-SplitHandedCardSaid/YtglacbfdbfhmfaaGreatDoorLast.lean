/- girandolelaw12.SplitHanded answers true at every input and turns none of its arguments, under the conditions of the card SplitHandedCardSaid. Part of the proof of girandolelaw12.SplitHanded. -/
import Derived.Test.YtglacbfdbfhmfaaGreatDoorDec
import Derived.Test.YtglacbfdbfhmfaaGreatDoorCards
import Derived.Test.YtglacbfdbfhmfaaGreatDoorTie
import Derived.WalkKit
import Derived.ProofKit
import Derived.OpenShut
import Derived.Deep.DeepHandedRow
import Derived.Lib.LaidTab
import Derived.Test.YtglacbfdbfhmfaaGreatDoorHl
import Derived.Deep.DeepWitnessRowRef
import Derived.Deep.DeepLaidRun
set_option linter.unusedVariables false
set_option linter.unusedSimpArgs false
namespace Go.Proofs
open Go Go.Abs Go.ChangeShapes Go.WideShapes Go.ChangeAt Go.RowKit
def aspI:List Int:=(List.range 256).map λ(i:Nat)=>if i=32\/(9<=i/\i<=13) then 1 else 0
theorem rB {P:Program}{W:World}{name:String}{k:IntKind}{zs:List Int}{x:String×DataW Unit}{rest:List (String×DataW Unit)}{g:Nat}{t e:TypeId}{n:Nat}
  (hg:P.globalNamed name=some g) (hty:(P.globals[g]?).map (·.type)=some t) (ht:P.underlying t=some (.array n e)) (he:P.underlying e=some (.int k)) (hce:P.cellsOf e=1) (hct:P.cellsOf t=n)
  (h:laidMet P (x::(name,Lib.tabData k zs)::rest) W):Lib.TabIs P W name k zs:=by
 obtain ⟨ps,⟨_,_,_,_,_,q0,_,_,_,_,⟨g',t',cs,fuel,p,q,hg',ht',hvar,hd,_,_⟩,_⟩,_⟩:=h;obtain rfl:=Option.some.inj (hg.symm.trans hg');obtain rfl:=Option.some.inj (hty.symm.trans ht');unfold Lib.TabIs;rw[hvar,<-Lib.cells_of_tab ht he hce hct hd]
theorem RP {W : World} (h : Lib.TabIs Tryz.prog W "strings.asciiSpace" .u8 aspI) : ∃ el fz, W.heap[1]? = some (.cells (aspI.map fun z => Value.int .u8 z).toArray el fz) := by
 unfold Lib.TabIs World.var? at h
 have hg : Tryz.prog.globalNamed "strings.asciiSpace" = some 1 := by kernel_rfl
 rw[hg] at h;simp only[Option.bind_some] at h
 split at h
 ·rename_i cs el fz hc;simp only[SJ] at h;subst h;exact ⟨el,fz,hc⟩
 ·cases h
theorem asp_eq:asp=aspI.map (AV.int .u8 ·):=by kernel_rfl
theorem tH {G:Gh}{w:World}{b:Nat}:∀ (l:List Int) (off:Nat),(∀ i,i<l.length->Abs.cellAt w b (off+i)=some (.int .u8 (l.getD i 0)))->VRow G w b off (l.map (AV.int .u8 ·))
 | [],off,_=>by simp[VRow]
 | z::r,off,h=>by
   simp only[List.map_cons,VRow];refine ⟨⟨_,by have:=h 0 (by simp);simpa using this,by simp[VR]⟩,tH r (off+1) (λi hi=>?_)⟩
   have:=h (i+1) (by simpa using hi)
   rw[show off+1+i=off+(i+1) by omega]
   simpa using this
theorem start {W : World} (h : Lib.TabIs Tryz.prog W "strings.asciiSpace" .u8 aspI) (keep : Nat → Bool) (hk : keep 1 = true) : Rel CC (Gh.start CC W keep) [] W := by
 obtain ⟨el,fz,hc⟩:=RP h;have hlen:asp.length=256:=by kernel_rfl
 have hlenI:aspI.length=256:=by kernel_rfl
 have hg:∀ i xs,CC.glob i=some xs->i=1/\xs=asp:=by
  intro i xs hh;have h' : (if i=1 then some asp else none)=some xs:=hh
  split at h'
  ·rename_i e;cases h';exact ⟨e,rfl⟩
  ·cases h'
 refine BA (λi xs hh=>by rw[(hg i xs hh).1];exact hk) (λi xs hh=>?_) (λi xs hh=>?_)
 ·obtain ⟨rfl,rfl⟩:=hg i xs hh;exact ⟨_,el,fz,hc,by rw[hlen];simp[hlenI]⟩
 ·obtain ⟨rfl,rfl⟩:=hg i xs hh;rw[asp_eq];refine tH aspI 0 (λi hi=>?_)
  rw[cW hc];simp[List.getD,hi]
end Go.Proofs
set_option maxRecDepth 1000000
namespace Go.Proofs
open Go Go.Abs Go.ChangeShapes Go.WideShapes Go.ChangeAt Go.RowKit
theorem D4 {p:Program}{fits:TypeId->Bool}:∀ {d:Nat} {e:TypeId} {count off n:Nat},rowAt p fits d e count off n=true->off<=count*p.cellsOf e
 | 0,e,count,off,n,h=>by simp[rowAt] at h
 | d+1,e,count,off,n,h=>by
   unfold rowAt at h;simp only at h
   split at h
   ·cases h
   ·rename_i hs;have hpos:0<p.cellsOf e:=Nat.pos_of_ne_zero hs;have hdiv:=Nat.div_add_mod off (p.cellsOf e);have hmod:=Nat.mod_lt off hpos
    have hc:off / p.cellsOf e<count\/(off % p.cellsOf e=0/\off / p.cellsOf e<=count):=by
     simp only[Bool.or_eq_true,Bool.and_eq_true,decide_eq_true_eq,beq_iff_eq] at h
     rcases h with ⟨⟨h1,h2⟩,_⟩|⟨h1,_⟩
     ·exact .inr ⟨h1,by omega⟩
     ·exact .inl h1
    rw[Nat.mul_comm count]
    rcases hc with h1|⟨h1,h2⟩
    ·have:=Nat.mul_le_mul_left (p.cellsOf e) (show off / p.cellsOf e+1<=count from h1)
     rw[Nat.mul_add] at this;omega
    ·have:=Nat.mul_le_mul_left (p.cellsOf e) h2;omega
theorem qb {p:Program}:∀ {d:Nat} {e:TypeId} {count off:Nat} {u:TypeId} {n:Nat},liesAt p d e count off u n=true->off<=count*p.cellsOf e
 | 0,e,count,off,u,n,h=>by simp[liesAt] at h
 | d+1,e,count,off,u,n,h=>by
   unfold liesAt at h;rw[Bool.or_eq_true] at h
   rcases h with h|h
   ·exact D4 h
   ·split at h
    ·exact qb h
    ·cases h
end Go.Proofs
namespace Go.Proofs
open Go Go.Abs Go.ChangeShapes Go.WideShapes Go.ChangeAt Go.RowKit
theorem o8 {H:Type}{enc:TypeId×Value->H}{P:Program}{f:Func}{s:ChangeSpec}{apart fresh handsOn again:Bool}{W W' : World}{args:Array Value}{v:Value}{ds gs:List (DataW H)}{before pa pv:List MemPlace}
  (hW:DataW.Whole enc P f.params.toList s.vars apart W args.toList ds gs before)
  (hres:∀ (b:Nat) (sp:Nat->Bool) (hd:Bool),DataW.TrodAll enc P W' b sp hd f.resultTypes.toList (v.resultList f.resultTypes.size) (s.fn H (ds++gs)).results [])
  (hargs:∀ sp:Nat->Bool,(∀ p∈before,sp p.block=true)->DataW.TrodAll enc P W' 0 sp true f.params.toList args.toList (s.fn H (ds++gs)).args pa)
  (hvars:∀ sp:Nat->Bool,(∀ p∈before,sp p.block=true)->DataW.TrodVars enc P W' sp s.vars (s.fn H (ds++gs)).vars pv)
  (hps:before=pa++pv) (hb:Below W.heap.size W W')
  (hok:∀ (j:Nat) (t:TypeId) (r:Value),f.resultTypes[j]?=some t->(v.resultList f.resultTypes.size)[j]?=some r->Value.okWide P W' .any 0 t r) :
  s.post enc P f apart fresh handsOn again W args v W':=by
 have hold:∀ p∈before,(λb=>decide (b<W.heap.size)) p.block=true:=λp hp=>by simpa using hW.lt p hp
 refine ⟨ds,gs,before,[],pa,pv,hW,hres _ _ _,hargs _ hold,hvars _ hold,World.keptBut_mono (λp hp=>⟨hp,?_⟩) (hb.frame _),λ_=>?_⟩
 ·rw[hps,List.mem_append] at hp;exact Or.inr hp
 ·have hlt:=hW.lt;obtain ⟨_,_,_,_,_,hz,hn⟩:=hW;refine ⟨hok,_,_,([]++pa)++pv,⟨[]++pa,pv,trodAll_append (hargs _ (λ_ _=>rfl)) (hres _ _ _),hvars _ (λ_ _=>rfl),rfl,?_,?_⟩,?_⟩
  ·intro b off hp;have hp' : MemPlace.cell b off∈before:=by rw[hps];simpa using hp
   rw[hb.frozen (show b<W.heap.size from hlt _ hp')]
   exact hz b off hp'
  ·intro ha;have:=hn ha;rw[hps] at this;simpa using this
  ·intro p hp _;rw[hps];simpa using hp
theorem Tryz.own:ownKnob Tryz.prog.godebug=none:=by kernel_rfl
theorem Tryz.laidOut:laidOutB Tryz.prog=true:=by kernel_rfl
end Go.Proofs
namespace Go.Proofs
open Go Go.Abs Go.ChangeShapes Go.WideShapes Go.ChangeAt Go.RowKit
def y7 {H:Type}(y:DataW H×List MemPlace):Bool:=match y.1 with | .lit (.bool b)=>b|_=>false
theorem xw {H:Type}{enc:TypeId×Value->H}{P:Program}{w:World}{base:Nat}{spare:Nat->Bool}{held:Bool}{t e:TypeId}{fuel:Nat}{cs:List Value}{x:DataW H×List MemPlace}(ht:P.underlying t=some (.slice e))(he:P.underlying e=some .bool)(hc:P.cellsOf e=1)
  (h:DataW.trod enc P w base spare held fuel t cs=some x) :
  (cs=[.slice none 0 0]) \/
  ∃ (a:Addr) (len cap:Nat) (zs:List Bool),cs=[.slice (some a) len cap]/\len<=cap/\zs.length=len/\(∀ i,i<len->w.cell? (a.add i)=some (.bool (zs.getD i false))):=by
 rcases DataW.trod_slice ht h with h0|⟨a,len,cap,elems,rest,n,_,rfl,rfl,hb,hl,hm,hlen,hel,hsp,hns⟩
 ·exact Or.inl h0.1
 right
 refine ⟨a,len,cap,elems.map y7,rfl,hl,by simpa using hlen,λi hi=>?_⟩
 have hE:=hel i hi;have hi' : i<elems.length:=by omega
 rw[hc,Nat.mul_one,List.getElem?_eq_getElem hi',Option.bind_eq_some_iff] at hE;obtain ⟨cs',hcs,hy⟩:=hE;obtain ⟨b,rfl,hx⟩:=DataW.trod_bool he hy
 have hb' : (elems.map y7).getD i false=b:=by
  rw[List.getD_eq_getElem?_getD,List.getElem?_map,List.getElem?_eq_getElem hi',hx];rfl
 rw[hb'];exact cell_of_cells?_one hcs
theorem md {G:Gh}{w:World}{b:Nat}:∀ (l:List Bool) (off:Nat),(∀ i,i<l.length->Abs.cellAt w b (off+i)=some (.bool (l.getD i false)))->VElems G w b 1 off (l.map (AV.bool ·))
 | [],off,_=>by simp[VElems]
 | z::r,off,h=>by
   simp only[List.map_cons,VElems];refine ⟨by simp[AV.cells],.inl ⟨rfl,_,by have:=h 0 (by simp);simpa using this,by simp[VR]⟩,md r (off+1) (λi hi=>?_)⟩
   have:=h (i+1) (by simpa using hi)
   rw[show off+1+i=off+(i+1) by omega]
   simpa using this
theorem wS {H:Type}{enc:TypeId×Value->H}{W:World}{base:Nat}{v:Value}{dd:DataW H}{ps:List MemPlace}(hval:Value.okWide Tryz.prog W .any base 42 v)
  (h:DataW.Trod enc Tryz.prog W 0 (λ_=>true) true 42 v dd ps):∃ (l:Option (List Bool)) (keep:Nat->Bool),keep 1=true/\VR (Gh.start CC W keep) W (Hd.rowB l) v:=by
 have hu:Tryz.prog.underlying 42=some (.slice 4):=Tryz.underlying42;have h2:Tryz.prog.underlying 4=some .bool:=Tryz.underlying4;have hc:Tryz.prog.cellsOf 4=1:=by kernel_rfl
 obtain ⟨fuel,h⟩:=h
 have hok:Cell.ok Tryz.prog W .any base 42 v:=by
  unfold Value.okWide at hval;simp only[hu] at hval;unfold Cell.okWide at hval;simp only[hu] at hval;exact hval
 unfold Cell.ok at hok;simp only[hu] at hok
 rcases xw hu h2 hc h with hcs|⟨a,len,cap,zs,hcs,hl,hz,hcell⟩
 ·refine ⟨none,λi=>i == 1,rfl,?_⟩
  have:v=.slice none 0 0:=by
   cases v<;>simp[Value.cells] at hcs<;>simp_all
  subst this;simp[Hd.rowB,VR]
 ·have hv:v=.slice (some a) len cap:=by
   cases v<;>simp[Value.cells] at hcs<;>simp_all
  subst hv;simp only at hok;obtain ⟨_,_,_,hspot,row,cells,hshape,hlies⟩:=hok;obtain ⟨b,off,sp⟩:=a;simp only at hspot;subst hspot;have hle:=qb hlies;have hle2:off<=cells:=Nat.le_trans hle (Nat.div_mul_le_self _ _)
  have hblk:∃ c el fz,W.heap[b]?=some (.cells c el fz)/\c.size=cells:=by
   unfold World.shape? at hshape;simp only at hshape
   split at hshape
   ·rename_i c el fz hc';simp only[SJ,PJ] at hshape;exact ⟨c,el,fz,hc',hshape.2⟩
   ·cases hshape
  obtain ⟨c,el,fz,hblk,hsz⟩:=hblk
  have hget:∀ i,i<len->Abs.cellAt W b (off+i)=some (.bool (zs.getD i false)):=by
   intro i hi;have:=hcell i hi;rw[Addr.add_mk] at this;rw[show Abs.cellAt W b (off+i)=W.cell? ⟨b,off+i,none⟩ from rfl,this]
  refine ⟨some zs,λi=>i == 1||i == b,by simp,?_⟩
  simp only[Hd.rowB,VR];refine ⟨b,off,cap,by rw[List.length_map,hz],by rw[List.length_map,hz];exact hl,⟨c.size,by simp[Gh.start,hblk],?_⟩,trivial,md _ _ (λi hi=>hget i (by rw[hz] at hi;exact hi))⟩
  simp only[List.length_map,hz,Nat.mul_one]
  rcases Nat.eq_zero_or_pos len with h0|h0
  ·subst h0;omega
  ·have:=hget (len-1) (by omega)
   rw[cW hblk] at this;have:=(Array.getElem?_eq_some_iff.1 this).1;omega
theorem read42:Tryz.prog.readableRec 42=true:=by kernel_rfl
theorem types42:42<Tryz.prog.types.size:=by decide +kernel
theorem A8 (H:Type)(enc:TypeId×Value->H)(W:World)(base:Nat)(args:Array Value)(ds gs:List (DataW H))(before:List MemPlace)
  (hval:∀ (j:Nat) t v,Tryz.f8.params[j]?=some t->args[j]?=some v->Value.okWide Tryz.prog W .any base t v)
  (hW:DataW.Whole enc Tryz.prog Tryz.f8.params.toList YtglacbfdbfhmfaaGreatDoor.Rows.splitHandedSpec.vars false W args.toList ds gs before) (hL:laidMetH Tryz.prog YtglacbfdbfhmfaaGreatDoor.Rows.splitHandedRow.laid W) :
  Calls Tryz.prog 8 args W λe W'=>∃ v,e=.returned v/\YtglacbfdbfhmfaaGreatDoor.Rows.splitHandedSpec.post enc Tryz.prog Tryz.f8 false true false false W args v W':=by
 have hW':=hW;obtain ⟨p,q,hA0,hV,rfl,hfz,hnd⟩:=hW;have hA:DataW.TrodAll enc Tryz.prog W 0 (λ_=>true) true Tryz.f8.params.toList args.toList ds p:=hA0
 rw[Tryz.params8] at hA hval;obtain ⟨v0,v1,d0,d1,p0,p1,hargs,rfl,rfl,h0,h1⟩:=trodAll_two hA;obtain ⟨rfl,rfl⟩:=trodVars_none hV;have hargs' : args=#[v0,v1]:=by first|exact hargs|(cases args;simp_all)
 subst hargs';obtain ⟨l,keep,hk1,hvr⟩:=wS (hval 0 42 v0 rfl rfl) h0;obtain ⟨n,rfl,rfl,rfl,wn⟩:=open_int Tryz.underlying3 (hval 1 3 v1 rfl rfl) h1
 have ht : Lib.TabIs Tryz.prog W "strings.asciiSpace" .u8 aspI := by
  have e : laidMetH Tryz.prog YtglacbfdbfhmfaaGreatDoor.Rows.splitHandedRow.laid W = laidMet Tryz.prog [("unicode.White_Space", YtglacbfdbfhmfaaGreatDoor.Rows.laid_unicode_White_Space), ("strings.asciiSpace", Lib.tabData .u8 aspI)] W := by kernel_rfl
  rw[e] at hL;exact rB (g:=1) (t:=289) (e:=5) (n:=256) (by kernel_rfl) (by kernel_rfl) Tryz.underlying289 Tryz.underlying5 (by kernel_rfl) (by kernel_rfl) hL
 have hrel:=start ht keep hk1;obtain ⟨m,hm,hlaw⟩:=Hd.law8_all l n
 have hcalls:=AT cc_goodF cc_scal hm hlaw hrel (vs:=#[v0,.int .i64 n]) (by
  simp only[VList];exact ⟨_,_,rfl,hvr,_,_,rfl,by simp[VR],rfl⟩)
 refine hcalls.mono λe W' ⟨he,hb⟩=>?_
 subst he;have hlt:∀ x∈p0,x.block<W.heap.size:=λx hx=>hW'.lt x (by simp[hx])
 refine ⟨_,rfl,o8 (pa:=p0++[]) (pv:=[]) hW' (λ_ _ _=>trodAll_mk1 (shut_bool Tryz.underlying4 _)) (λsp hsp=>?_) (λ_ _=>rfl) (by simp) hb (ok_one (by kernel_rfl) rfl (okWide_bool_mk Tryz.underlying4 _))⟩
 have h0':=WideElems.Trod_stays Tryz.laidOut read42 types42 h0 (λx hx=>hb.same (hlt x hx)) (λx hx=>hsp x (by simp[hx]))
 have:=trodAll_mk2 h0' (shut_int (enc:=enc) (P:=Tryz.prog) (w:=W') (base:=0) (spare:=sp) (held:=true) Tryz.underlying3 wn);simpa [YtglacbfdbfhmfaaGreatDoor.Rows.splitHandedSpec] using this
end Go.Proofs
namespace Go.Proofs.YtglacbfdbfhmfaaGreatDoor
open Go Go.Proofs Go.ChangeShapes Go.WideShapes Go.ChangeAt Go.RowKit
noncomputable def ji (os:Os):World :=
 let N:=(World.settled Tryz.prog os).heap.size
 let w0:=World.holding Tryz.prog os ⟨#[.cells ([9,13,1,32,133,101,160,5760,5600,8192,8202,1,8232,8233,1,8239,8287,48,12288,12288,1].map λ(z:Int)=>Value.int .u16 z).toArray 307,.cells #[.slice (some ⟨N,0,none⟩) 7 7,.slice none 0 0,.int .i64 2] 304],#[],[]⟩
 let put (h:Array Obj) (g:Nat) (cs:Array Value):Array Obj:=h.modify g fun
  | .cells _ t frozen=>.cells cs t frozen
  | o=>o
 { w0 with heap:=put (put w0.heap 1 (aspI.map λz=>Value.int .u8 z).toArray) 2 #[.pointer (some ⟨N+1,0,none⟩)] }
theorem CY (os:Os)(args:Array Value):laidMet Tryz.prog Rows.splitHandedRow.laid ((ji os).forCall (λ_ _=>0) ⟨#[],args,[]⟩).memory :=
 laidMet_of_run3 10 (by kernel_rfl) (by kernel_rfl) (by kernel_rfl)
theorem tP (os:Os){H:Type}(enc:TypeId×Value->H) :
  (OpenSpec.ofChange Rows.splitHandedSpec).preRow enc Tryz.prog Tryz.f8 Rows.splitHandedRow.domain false Rows.splitHandedRow.laid ((ji os).forCall (λ_ _=>0) ⟨#[],#[.slice none 0 0,.int .i64 0],[]⟩).memory #[.slice none 0 0,.int .i64 0]:=by
 have hx:DataW.whole enc Tryz.prog ((ji os).forCall (λ_ _=>0) ⟨#[],#[.slice none 0 0,.int .i64 0],[]⟩).memory Tryz.f8.params.toList Rows.splitHandedSpec.vars false #[Value.slice none 0 0,.int .i64 0].toList 8 =
  some ([.nil,.lit (.int .i64 0)],[],[]):=by kernel_rfl
 exact OpenSpec.preRow_of_cond 8 hx (by kernel_rfl) (λk hk=>by cases hk) (by kernel_rfl) (CY os _)
set_option maxHeartbeats 4000000 in
theorem Ow (os:Os)(started:os.Started)(H:Type)(enc:TypeId×Value->H)(F:Stop.Interp) :
  ReturnsInHanded {} Tryz.checked os 8 .any ((OpenSpec.ofChange Rows.splitHandedSpec).preRow enc Tryz.prog Tryz.f8 Rows.splitHandedRow.domain false Rows.splitHandedRow.laid) (((OpenSpec.ofChange Rows.splitHandedSpec).at F).post enc Tryz.prog Tryz.f8 false true false false):=by
 refine returnsInHanded_of_row (C:=Tryz.checked) (s:=OpenSpec.ofChange Rows.splitHandedSpec) Go.Proofs.Tryz.own started (by kernel_rfl) Tryz.func8
  (witness_row_atRef (enc:=enc) (C:=Tryz.checked) false (ji os) #[.slice none 0 0,.int .i64 0] rfl (by kernel_rfl) (by kernel_rfl) (by kernel_rfl) (tP os enc)) ?_
 intro W base args ds gs before hval hW _ _ _ hL _ _;exact A8 H enc W base args ds gs before hval hW hL
theorem said:Rows.SplitHandedSaid :=
 OpenClaim.holds_of_cond 8 Tryz.f8 rfl rfl rfl rfl rfl rfl rfl ⟨rfl,rfl,rfl,rfl,rfl⟩ rfl rfl rfl rfl rfl (by kernel_rfl) Tryz.func8 (by kernel_rfl)
  (of_decide_eq_true (by kernel_rfl)) (by unfold Func.isWrapper;first|(rw[if_pos (by decide +kernel)];kernel_rfl)|(rw[if_neg (by decide +kernel)];exact ⟨rfl,rfl⟩))
  (λos started H enc _ F=>by rw[OpenClaim.pre_eq_preRow];exact Ow os started H enc F)
theorem plain (f : FuncId) (fn : Func) (hf : Tryz.pinned.checked.prog.funcNamed "girandole/girandolelaw12.SplitHanded" = some f) (hfn : Tryz.pinned.checked.prog.funcs[f]? = some fn) :
  true=Tryz.pinned.checked.prog.looks []/\∀ (j:Nat) t,fn.params[j]?=some t->Tryz.pinned.checked.prog.wantsStandIn t=false:=by
 obtain rfl : f = 8 := Option.some.inj ((show Tryz.prog.funcNamed "girandole/girandolelaw12.SplitHanded" = some 8 by kernel_rfl).symm.trans hf) |>.symm
 obtain rfl:fn=Tryz.f8:=(Option.some.inj (Tryz.func8.symm.trans hfn)).symm;refine ⟨by kernel_rfl,λj t ht=>?_⟩
 rw[Tryz.params8] at ht;have:t=42\/t=3:=by simpa using Array.mem_of_getElem? ht
 rcases this with rfl|rfl
 ·exact (show Tryz.prog.wantsStandIn 42=false by kernel_rfl)
 ·exact (show Tryz.prog.wantsStandIn 3=false by kernel_rfl)
theorem splitHanded_holds:Rows.SplitHandedCardSaid :=
 Claim7.holds_tied_plain_at .later [] _ _ _ _ said (λ_ h=>by cases h) (by kernel_rfl) (λ_ h=>by cases h) splitHanded_row_tie rfl ⟨rfl,rfl⟩ (by kernel_rfl) rfl plain (by kernel_rfl)
end Go.Proofs.YtglacbfdbfhmfaaGreatDoor
