/- girandolelaw08.FlatDoubles answers true at every input and turns none of its arguments, under the conditions of the card FlatDoublesCardSaid. Part of the proof of girandolelaw08.FlatDoubles. -/
import Derived.Test.YtglacbfdbfhmfaaDoorDec
import Derived.Test.YtglacbfdbfhmfaaDoorCards
import Derived.Test.YtglacbfdbfhmfaaDoorTie
import Derived.WalkKit
import Derived.ProofKit
import Derived.OpenShut
import Derived.Deep.DeepHandedRow
import Derived.Lib.LaidTab
import Derived.Test.YtglacbfdbfhmfaaDoorDbAll
import Derived.Deep.DeepWitnessRowRef
import Derived.Deep.DeepLaidRun
set_option linter.unusedVariables false
set_option linter.unusedSimpArgs false
namespace Go.Proofs
open Go Go.Abs Go.ChangeShapes Go.WideShapes Go.ChangeAt Go.RowKit
def aspI:List Int:=(List.range 256).map fun (i:Nat)=>if i=32∨(9≤i∧i≤13) then 1 else 0
theorem sB {P:Program}{W:World}{name:String}{k:IntKind}{zs:List Int}{x:String × DataW Unit}{rest:List (String × DataW Unit)}{g:Nat}{t e:TypeId}{n:Nat}
  (hg:P.globalNamed name=some g) (hty:(P.globals[g]?).map (·.type)=some t) (ht:P.underlying t=some (.array n e)) (he:P.underlying e=some (.int k)) (hce:P.cellsOf e=1) (hct:P.cellsOf t=n)
  (h:laidMet P (x :: (name,Lib.tabData k zs) :: rest) W):Lib.TabIs P W name k zs:=by
 obtain ⟨ps,⟨_,_,_,_,_,q0,_,_,_,_,⟨g',t',cs,fuel,p,q,hg',ht',hvar,hd,_,_⟩,_⟩,_⟩:=h;obtain rfl:=Option.some.inj (hg.symm.trans hg');obtain rfl:=Option.some.inj (hty.symm.trans ht');unfold Lib.TabIs;rw[hvar,← Lib.cells_of_tab ht he hce hct hd]
theorem Oz {W : World} (h : Lib.TabIs Tryd.prog W "strings.asciiSpace" .u8 aspI) : ∃ el fz, W.heap[1]? = some (.cells (aspI.map fun z => Value.int .u8 z).toArray el fz) := by
 unfold Lib.TabIs World.var? at h
 have hg : Tryd.prog.globalNamed "strings.asciiSpace" = some 1 := by kernel_rfl
 rw[hg] at h;simp only[Option.bind_some] at h
 split at h
 ·rename_i cs el fz hc;simp only[SJ] at h;subst h;exact ⟨el,fz,hc⟩
 ·cases h
theorem asp_eq:asp=aspI.map (AV.int .u8 ·):=by kernel_rfl
theorem uX {G:Gh}{w:World}{b:Nat}:∀ (l:List Int) (off:Nat),(∀ i,i < l.length→Abs.cellAt w b (off + i)=some (.int .u8 (l.getD i 0)))→VRow G w b off (l.map (AV.int .u8 ·))
 | [],off,_=>by simp[VRow]
 | z :: r,off,h=>by
   simp only[List.map_cons,VRow];refine ⟨⟨_,by have:=h 0 (by simp);simpa using this,by simp[VR]⟩,uX r (off + 1) (fun i hi=>?_)⟩
   have:=h (i + 1) (by simpa using hi)
   rw[show off + 1 + i=off + (i + 1) by omega]
   simpa using this
theorem start {W : World} (h : Lib.TabIs Tryd.prog W "strings.asciiSpace" .u8 aspI) (keep : Nat → Bool) (hk : keep 1 = true) : Rel CC (Gh.start CC W keep) [] W := by
 obtain ⟨el,fz,hc⟩:=Oz h;have hlen:asp.length=256:=by kernel_rfl
 have hlenI:aspI.length=256:=by kernel_rfl
 have hg:∀ i xs,CC.glob i=some xs→i=1∧xs=asp:=by
  intro i xs hh;have h' : (if i=1 then some asp else none)=some xs:=hh
  split at h'
  ·rename_i e;cases h';exact ⟨e,rfl⟩
  ·cases h'
 refine zW (fun i xs hh=>by rw[(hg i xs hh).1];exact hk) (fun i xs hh=>?_) (fun i xs hh=>?_)
 ·obtain ⟨rfl,rfl⟩:=hg i xs hh;exact ⟨_,el,fz,hc,by rw[hlen];simp[hlenI]⟩
 ·obtain ⟨rfl,rfl⟩:=hg i xs hh;rw[asp_eq];refine uX aspI 0 (fun i hi=>?_)
  rw[dI hc];simp[List.getD,hi]
end Go.Proofs
set_option maxRecDepth 1000000
namespace Go.Proofs
open Go Go.Abs Go.ChangeShapes Go.WideShapes Go.ChangeAt Go.RowKit
end Go.Proofs
namespace Go.Proofs
open Go Go.Abs Go.ChangeShapes Go.WideShapes Go.ChangeAt Go.RowKit
theorem pt {H:Type}{enc:TypeId × Value→H}{P:Program}{f:Func}{s:ChangeSpec}{apart fresh handsOn again:Bool}{W W' : World}{args:Array Value}{v:Value}{ds gs:List (DataW H)}{before pa pv:List MemPlace}
  (hW:DataW.Whole enc P f.params.toList s.vars apart W args.toList ds gs before)
  (hres:∀ (b:Nat) (sp:Nat→Bool) (hd:Bool),DataW.TrodAll enc P W' b sp hd f.resultTypes.toList (v.resultList f.resultTypes.size) (s.fn H (ds ++ gs)).results [])
  (hargs:∀ sp:Nat→Bool,(∀ p ∈ before,sp p.block=true)→DataW.TrodAll enc P W' 0 sp true f.params.toList args.toList (s.fn H (ds ++ gs)).args pa)
  (hvars:∀ sp:Nat→Bool,(∀ p ∈ before,sp p.block=true)→DataW.TrodVars enc P W' sp s.vars (s.fn H (ds ++ gs)).vars pv)
  (hps:before=pa ++ pv) (hb:Below W.heap.size W W')
  (hok:∀ (j:Nat) (t:TypeId) (r:Value),f.resultTypes[j]?=some t→(v.resultList f.resultTypes.size)[j]?=some r→Value.okWide P W' .any 0 t r) :
  s.post enc P f apart fresh handsOn again W args v W':=by
 have hold:∀ p ∈ before,(fun b=>decide (b < W.heap.size)) p.block=true:=fun p hp=>by simpa using hW.lt p hp
 refine ⟨ds,gs,before,[],pa,pv,hW,hres _ _ _,hargs _ hold,hvars _ hold,World.keptBut_mono (fun p hp=>⟨hp,?_⟩) (hb.frame _),fun _=>?_⟩
 ·rw[hps,List.mem_append] at hp;exact Or.inr hp
 ·have hlt:=hW.lt;obtain ⟨_,_,_,_,_,hz,hn⟩:=hW;refine ⟨hok,_,_,([] ++ pa) ++ pv,⟨[] ++ pa,pv,trodAll_append (hargs _ (fun _ _=>rfl)) (hres _ _ _),hvars _ (fun _ _=>rfl),rfl,?_,?_⟩,?_⟩
  ·intro b off hp;have hp' : MemPlace.cell b off ∈ before:=by rw[hps];simpa using hp
   rw[hb.frozen (show b < W.heap.size from hlt _ hp')]
   exact hz b off hp'
  ·intro ha;have:=hn ha;rw[hps] at this;simpa using this
  ·intro p hp _;rw[hps];simpa using hp
theorem Tryd.own:ownKnob Tryd.prog.godebug=none:=by kernel_rfl
end Go.Proofs
namespace Go.Proofs
open Go Go.Abs Go.ChangeShapes Go.WideShapes Go.ChangeAt Go.RowKit
theorem zO (H:Type)(enc:TypeId × Value→H)(W:World)(base:Nat)(args:Array Value)(ds gs:List (DataW H))(before:List MemPlace)
  (hval:∀ (j:Nat) t v,Tryd.f3.params[j]?=some t→args[j]?=some v→Value.okWide Tryd.prog W .any base t v)
  (hW:DataW.Whole enc Tryd.prog Tryd.f3.params.toList YtglacbfdbfhmfaaDoor.Rows.flatDoublesSpec.vars false W args.toList ds gs before) (hL:laidMetH Tryd.prog YtglacbfdbfhmfaaDoor.Rows.flatDoublesRow.laid W) :
  Calls Tryd.prog 3 args W fun e W'=>∃ v,e=.returned v∧YtglacbfdbfhmfaaDoor.Rows.flatDoublesSpec.post enc Tryd.prog Tryd.f3 false true false false W args v W':=by
 have hW':=hW;obtain ⟨p,q,hA0,hV,rfl,hfz,hnd⟩:=hW;have hA:DataW.TrodAll enc Tryd.prog W 0 (fun _=>true) true Tryd.f3.params.toList args.toList ds p:=hA0
 rw[Tryd.params3] at hA hval;obtain ⟨v0,d0,hargs,rfl,h0⟩:=trodAll_one hA;obtain ⟨rfl,rfl⟩:=trodVars_none hV;subst hargs;obtain ⟨n,rfl,rfl,rfl,wn⟩:=open_int Tryd.underlying3 (hval 0 3 v0 rfl rfl) h0
 have ht : Lib.TabIs Tryd.prog W "strings.asciiSpace" .u8 aspI := by
  have e : laidMetH Tryd.prog YtglacbfdbfhmfaaDoor.Rows.flatDoublesRow.laid W = laidMet Tryd.prog [("unicode.White_Space", YtglacbfdbfhmfaaDoor.Rows.laid_unicode_White_Space), ("strings.asciiSpace", Lib.tabData .u8 aspI)] W := by kernel_rfl
  rw[e] at hL;exact sB (g:=1) (t:=160) (e:=5) (n:=256) (by kernel_rfl) (by kernel_rfl) Tryd.underlying160 Tryd.underlying5 (by kernel_rfl) (by kernel_rfl) hL
 have hrel:=start ht (fun _=>true) rfl
 obtain ⟨M,hM,hx⟩:=FY n
 have hcalls:=Ac cc_goodF cc_scal hM hx hrel (vs:=#[.int .i64 n]) (by
  simp only[VList];exact ⟨_,_,rfl,by simp[VR],rfl⟩)
 refine hcalls.mono fun e W' ⟨he,hb⟩=>?_
 subst he;refine ⟨_,rfl,pt (pa:=[]) (pv:=[]) hW' (fun _ _ _=>trodAll_mk1 (shut_bool Tryd.underlying4 _)) (fun sp hsp=>?_) (fun _ _=>rfl) (by simp) hb (ok_one (by kernel_rfl) rfl (okWide_bool_mk Tryd.underlying4 _))⟩
 have:=trodAll_mk1 (shut_int (enc:=enc) (P:=Tryd.prog) (w:=W') (base:=0) (spare:=sp) (held:=true) Tryd.underlying3 wn);simpa [YtglacbfdbfhmfaaDoor.Rows.flatDoublesSpec] using this
end Go.Proofs
namespace Go.Proofs.YtglacbfdbfhmfaaDoor
open Go Go.Proofs Go.ChangeShapes Go.WideShapes Go.ChangeAt Go.RowKit
noncomputable def jq (os:Os):World :=
 let N:=(World.settled Tryd.prog os).heap.size
 let w0:=World.holding Tryd.prog os ⟨#[.cells ([9,13,1,32,133,101,160,5760,5600,8192,8202,1,8232,8233,1,8239,8287,48,12288,12288,1].map fun (z:Int)=>Value.int .u16 z).toArray 184,.cells #[.slice (some ⟨N,0,none⟩) 7 7,.slice none 0 0,.int .i64 2] 181],#[],[]⟩
 let put (h:Array Obj) (g:Nat) (cs:Array Value):Array Obj:=h.modify g fun
  | .cells _ t frozen=>.cells cs t frozen
  | o=>o
 { w0 with heap:=put (put w0.heap 1 (aspI.map fun z=>Value.int .u8 z).toArray) 2 #[.pointer (some ⟨N + 1,0,none⟩)] }
theorem Ff (os:Os)(args:Array Value):laidMet Tryd.prog Rows.flatDoublesRow.laid ((jq os).forCall (fun _ _=>0) ⟨#[],args,[]⟩).memory :=
 laidMet_of_run3 10 (by kernel_rfl) (by kernel_rfl) (by kernel_rfl)
theorem sV (os:Os){H:Type}(enc:TypeId × Value→H) :
  (OpenSpec.ofChange Rows.flatDoublesSpec).preRow enc Tryd.prog Tryd.f3 Rows.flatDoublesRow.domain false Rows.flatDoublesRow.laid ((jq os).forCall (fun _ _=>0) ⟨#[],#[.int .i64 0],[]⟩).memory #[.int .i64 0]:=by
 have hx:DataW.whole enc Tryd.prog ((jq os).forCall (fun _ _=>0) ⟨#[],#[.int .i64 0],[]⟩).memory Tryd.f3.params.toList Rows.flatDoublesSpec.vars false #[Value.int .i64 0].toList 8 =
  some ([.lit (.int .i64 0)],[],[]):=by kernel_rfl
 exact OpenSpec.preRow_of_cond 8 hx (by kernel_rfl) (fun k hk=>by cases hk) (by kernel_rfl) (Ff os _)
set_option maxHeartbeats 4000000 in
theorem Pk (os:Os)(started:os.Started)(H:Type)(enc:TypeId × Value→H)(F:Stop.Interp) :
  ReturnsInHanded {} Tryd.checked os 3 .any ((OpenSpec.ofChange Rows.flatDoublesSpec).preRow enc Tryd.prog Tryd.f3 Rows.flatDoublesRow.domain false Rows.flatDoublesRow.laid) (((OpenSpec.ofChange Rows.flatDoublesSpec).at F).post enc Tryd.prog Tryd.f3 false true false false):=by
 refine returnsInHanded_of_row (C:=Tryd.checked) (s:=OpenSpec.ofChange Rows.flatDoublesSpec) Go.Proofs.Tryd.own started (by kernel_rfl) Tryd.func3
  (witness_row_atRef (enc:=enc) (C:=Tryd.checked) false (jq os) #[.int .i64 0] rfl (by kernel_rfl) (by kernel_rfl) (by kernel_rfl) (sV os enc)) ?_
 intro W base args ds gs before hval hW _ _ _ hL _ _;exact zO H enc W base args ds gs before hval hW hL
theorem said:Rows.FlatDoublesSaid :=
 OpenClaim.holds_of_cond 3 Tryd.f3 rfl rfl rfl rfl rfl rfl rfl ⟨rfl,rfl,rfl,rfl,rfl⟩ rfl rfl rfl rfl rfl (by kernel_rfl) Tryd.func3 (by kernel_rfl)
  (of_decide_eq_true (by kernel_rfl)) (by unfold Func.isWrapper;first | (rw[if_pos (by decide +kernel)];kernel_rfl) | (rw[if_neg (by decide +kernel)];exact ⟨rfl,rfl⟩))
  (fun os started H enc _ F=>by rw[OpenClaim.pre_eq_preRow];exact Pk os started H enc F)
theorem plain (f : FuncId) (fn : Func) (hf : Tryd.pinned.checked.prog.funcNamed "girandole/girandolelaw08.FlatDoubles" = some f) (hfn : Tryd.pinned.checked.prog.funcs[f]? = some fn) :
  true=Tryd.pinned.checked.prog.looks []∧∀ (j:Nat) t,fn.params[j]?=some t→Tryd.pinned.checked.prog.wantsStandIn t=false:=by
 obtain rfl : f = 3 := Option.some.inj ((show Tryd.prog.funcNamed "girandole/girandolelaw08.FlatDoubles" = some 3 by kernel_rfl).symm.trans hf) |>.symm
 obtain rfl:fn=Tryd.f3:=(Option.some.inj (Tryd.func3.symm.trans hfn)).symm;refine ⟨by kernel_rfl,fun j t ht=>?_⟩
 rw[Tryd.params3] at ht;have:t=3:=by simpa using Array.mem_of_getElem? ht
 subst this;exact (show Tryd.prog.wantsStandIn 3=false by kernel_rfl)
theorem flatDoubles_holds:Rows.FlatDoublesCardSaid :=
 Claim7.holds_tied_plain_at .later [] _ _ _ _ said (fun _ h=>by cases h) (by kernel_rfl) (fun _ h=>by cases h) flatDoubles_row_tie rfl ⟨rfl,rfl⟩ (by kernel_rfl) rfl plain (by kernel_rfl)
end Go.Proofs.YtglacbfdbfhmfaaDoor
