/- tree, clocks, the unit in the making. Part of the proof of girandolelaw12.SplitHanded. -/
import Derived.Test.YtglacbfdbfhmfaaGreatDoorB3
import Derived.Test.YtglacbfdbfhmfaaGreatDoorDec
set_option linter.unusedVariables false
set_option linter.unusedSimpArgs false
namespace Go.Abs
theorem ST4:(∀ r v,st r 128 v=wc r (wa r.c (wa r.c.a v)))/\(∀ (r:RG),gt r 128=r.c.a.a)/\(∀ r v,st r 129 v=wc r (wa r.c (wb r.c.a v)))/\(∀ (r:RG),gt r 129=r.c.a.b)/\(∀ r v,st r 130 v=wc r (wa r.c (wc r.c.a v)))/\(∀ (r:RG),gt r 130=r.c.a.c)/\(∀ r v,st r 131 v=wc r (wa r.c (wd r.c.a v)))/\(∀ (r:RG),gt r 131=r.c.a.d)/\(∀ r v,st r 132 v=wc r (wa r.c (we r.c.a v)))/\(∀ (r:RG),gt r 132=r.c.a.e)/\(∀ r v,st r 133 v=wc r (wa r.c (wf r.c.a v)))/\(∀ (r:RG),gt r 133=r.c.a.f)/\(∀ r v,st r 134 v=wc r (wa r.c (wg r.c.a v)))/\(∀ (r:RG),gt r 134=r.c.a.g)/\(∀ r v,st r 135 v=wc r (wa r.c (wh r.c.a v)))/\(∀ (r:RG),gt r 135=r.c.a.h)/\(∀ r v,st r 136 v=wc r (wb r.c (wa r.c.b v)))/\(∀ (r:RG),gt r 136=r.c.b.a)/\(∀ r v,st r 137 v=wc r (wb r.c (wb r.c.b v)))/\(∀ (r:RG),gt r 137=r.c.b.b)/\(∀ r v,st r 138 v=wc r (wb r.c (wc r.c.b v)))/\(∀ (r:RG),gt r 138=r.c.b.c)/\(∀ r v,st r 139 v=wc r (wb r.c (wd r.c.b v)))/\(∀ (r:RG),gt r 139=r.c.b.d)/\(∀ r v,st r 140 v=wc r (wb r.c (we r.c.b v)))/\(∀ (r:RG),gt r 140=r.c.b.e)/\(∀ r v,st r 141 v=wc r (wb r.c (wf r.c.b v)))/\(∀ (r:RG),gt r 141=r.c.b.f)/\(∀ r v,st r 142 v=wc r (wb r.c (wg r.c.b v)))/\(∀ (r:RG),gt r 142=r.c.b.g)/\(∀ r v,st r 143 v=wc r (wb r.c (wh r.c.b v)))/\(∀ (r:RG),gt r 143=r.c.b.h)/\(∀ r v,st r 144 v=wc r (wc r.c (wa r.c.c v)))/\(∀ (r:RG),gt r 144=r.c.c.a)/\(∀ r v,st r 145 v=wc r (wc r.c (wb r.c.c v)))/\(∀ (r:RG),gt r 145=r.c.c.b)/\(∀ r v,st r 146 v=wc r (wc r.c (wc r.c.c v)))/\(∀ (r:RG),gt r 146=r.c.c.c)/\(∀ r v,st r 147 v=wc r (wc r.c (wd r.c.c v)))/\(∀ (r:RG),gt r 147=r.c.c.d)/\(∀ r v,st r 148 v=wc r (wc r.c (we r.c.c v)))/\(∀ (r:RG),gt r 148=r.c.c.e)/\(∀ r v,st r 149 v=wc r (wc r.c (wf r.c.c v)))/\(∀ (r:RG),gt r 149=r.c.c.f)/\(∀ r v,st r 150 v=wc r (wc r.c (wg r.c.c v)))/\(∀ (r:RG),gt r 150=r.c.c.g)/\(∀ r v,st r 151 v=wc r (wc r.c (wh r.c.c v)))/\(∀ (r:RG),gt r 151=r.c.c.h)/\(∀ r v,st r 152 v=wc r (wd r.c (wa r.c.d v)))/\(∀ (r:RG),gt r 152=r.c.d.a)/\(∀ r v,st r 153 v=wc r (wd r.c (wb r.c.d v)))/\(∀ (r:RG),gt r 153=r.c.d.b)/\(∀ r v,st r 154 v=wc r (wd r.c (wc r.c.d v)))/\(∀ (r:RG),gt r 154=r.c.d.c)/\(∀ r v,st r 155 v=wc r (wd r.c (wd r.c.d v)))/\(∀ (r:RG),gt r 155=r.c.d.d)/\(∀ r v,st r 156 v=wc r (wd r.c (we r.c.d v)))/\(∀ (r:RG),gt r 156=r.c.d.e)/\(∀ r v,st r 157 v=wc r (wd r.c (wf r.c.d v)))/\(∀ (r:RG),gt r 157=r.c.d.f)/\(∀ r v,st r 158 v=wc r (wd r.c (wg r.c.d v)))/\(∀ (r:RG),gt r 158=r.c.d.g)/\(∀ r v,st r 159 v=wc r (wd r.c (wh r.c.d v)))/\(∀ (r:RG),gt r 159=r.c.d.h):=by
 repeat first|apply And.intro|(intros;rfl)
theorem ST5:(∀ r v,st r 160 v=wc r (we r.c (wa r.c.e v)))/\(∀ (r:RG),gt r 160=r.c.e.a)/\(∀ r v,st r 161 v=wc r (we r.c (wb r.c.e v)))/\(∀ (r:RG),gt r 161=r.c.e.b)/\(∀ r v,st r 162 v=wc r (we r.c (wc r.c.e v)))/\(∀ (r:RG),gt r 162=r.c.e.c)/\(∀ r v,st r 163 v=wc r (we r.c (wd r.c.e v)))/\(∀ (r:RG),gt r 163=r.c.e.d)/\(∀ r v,st r 164 v=wc r (we r.c (we r.c.e v)))/\(∀ (r:RG),gt r 164=r.c.e.e)/\(∀ r v,st r 165 v=wc r (we r.c (wf r.c.e v)))/\(∀ (r:RG),gt r 165=r.c.e.f)/\(∀ r v,st r 166 v=wc r (we r.c (wg r.c.e v)))/\(∀ (r:RG),gt r 166=r.c.e.g)/\(∀ r v,st r 167 v=wc r (we r.c (wh r.c.e v)))/\(∀ (r:RG),gt r 167=r.c.e.h)/\(∀ r v,st r 168 v=wc r (wf r.c (wa r.c.f v)))/\(∀ (r:RG),gt r 168=r.c.f.a)/\(∀ r v,st r 169 v=wc r (wf r.c (wb r.c.f v)))/\(∀ (r:RG),gt r 169=r.c.f.b)/\(∀ r v,st r 170 v=wc r (wf r.c (wc r.c.f v)))/\(∀ (r:RG),gt r 170=r.c.f.c)/\(∀ r v,st r 171 v=wc r (wf r.c (wd r.c.f v)))/\(∀ (r:RG),gt r 171=r.c.f.d)/\(∀ r v,st r 172 v=wc r (wf r.c (we r.c.f v)))/\(∀ (r:RG),gt r 172=r.c.f.e)/\(∀ r v,st r 173 v=wc r (wf r.c (wf r.c.f v)))/\(∀ (r:RG),gt r 173=r.c.f.f)/\(∀ r v,st r 174 v=wc r (wf r.c (wg r.c.f v)))/\(∀ (r:RG),gt r 174=r.c.f.g)/\(∀ r v,st r 175 v=wc r (wf r.c (wh r.c.f v)))/\(∀ (r:RG),gt r 175=r.c.f.h)/\(∀ r v,st r 176 v=wc r (wg r.c (wa r.c.g v)))/\(∀ (r:RG),gt r 176=r.c.g.a)/\(∀ r v,st r 177 v=wc r (wg r.c (wb r.c.g v)))/\(∀ (r:RG),gt r 177=r.c.g.b)/\(∀ r v,st r 178 v=wc r (wg r.c (wc r.c.g v)))/\(∀ (r:RG),gt r 178=r.c.g.c)/\(∀ r v,st r 179 v=wc r (wg r.c (wd r.c.g v)))/\(∀ (r:RG),gt r 179=r.c.g.d)/\(∀ r v,st r 180 v=wc r (wg r.c (we r.c.g v)))/\(∀ (r:RG),gt r 180=r.c.g.e)/\(∀ r v,st r 181 v=wc r (wg r.c (wf r.c.g v)))/\(∀ (r:RG),gt r 181=r.c.g.f)/\(∀ r v,st r 182 v=wc r (wg r.c (wg r.c.g v)))/\(∀ (r:RG),gt r 182=r.c.g.g)/\(∀ r v,st r 183 v=wc r (wg r.c (wh r.c.g v)))/\(∀ (r:RG),gt r 183=r.c.g.h)/\(∀ r v,st r 184 v=wc r (wh r.c (wa r.c.h v)))/\(∀ (r:RG),gt r 184=r.c.h.a)/\(∀ r v,st r 185 v=wc r (wh r.c (wb r.c.h v)))/\(∀ (r:RG),gt r 185=r.c.h.b)/\(∀ r v,st r 186 v=wc r (wh r.c (wc r.c.h v)))/\(∀ (r:RG),gt r 186=r.c.h.c)/\(∀ r v,st r 187 v=wc r (wh r.c (wd r.c.h v)))/\(∀ (r:RG),gt r 187=r.c.h.d)/\(∀ r v,st r 188 v=wc r (wh r.c (we r.c.h v)))/\(∀ (r:RG),gt r 188=r.c.h.e)/\(∀ r v,st r 189 v=wc r (wh r.c (wf r.c.h v)))/\(∀ (r:RG),gt r 189=r.c.h.f)/\(∀ r v,st r 190 v=wc r (wh r.c (wg r.c.h v)))/\(∀ (r:RG),gt r 190=r.c.h.g)/\(∀ r v,st r 191 v=wc r (wh r.c (wh r.c.h v)))/\(∀ (r:RG),gt r 191=r.c.h.h):=by
 repeat first|apply And.intro|(intros;rfl)
end Go.Abs
set_option maxRecDepth 1000000
namespace Go.Proofs
open Go Go.Abs
def o9 (T k:Nat):Prop:=∃ e i z,bK CC T=some e/\CC.P.info? e=some i/\cj CC e=some z/\i.size=k/\0<k/\(0<i.bytes/\i.bytes<=65536)/\z.cells.length=k/\∀ f,CC.mutT f T=false
noncomputable def NP (T:Nat):Option (Nat×Bool×Nat):=match bK CC T with
 | some e=>match CC.P.info? e,cj CC e with
   | some i,some z=>some (i.size,decide (0<i.bytes/\i.bytes<=65536),z.cells.length)
   | _,_=>none
 | none=>none
theorem gH {T k:Nat}(h:NP T=some (k,true,k))(hk:0<k)(hm:∀ f,CC.mutT f T=false):o9 T k:=by
 unfold NP at h
 split at h
 ·rename_i e he
  split at h
  ·rename_i i z hi hz;simp only[SJ,PJ,decide_eq_true_eq] at h;exact ⟨e,i,z,he,hi,hz,h.1,hk,h.2.1,h.2.2,hm⟩
  ·cases h
 ·cases h
section
variable {T k:Nat}(hT:o9 T k)(f:Nat){xs ys:List AV}{hp:Heap}{e:Nat}(lin:Lin)
include hT
theorem oK (hy:ys≠[])(hok:ys.all (bi k)=true)(hl:ys.length<=2 ^ 24):aq CC f T .nils (.sl k ys lin) ⟨hp,e⟩=some (.sl k ys (.live (aa hp) 0),⟨hp++[.lin 0],e⟩):=by
 obtain ⟨el,i,z,h1,h2,h3,h4,h5,h6,h7,h8⟩:=hT
 have hne:¬ (i.size=0\/i.bytes=0\/z.cells.length≠i.size\/ys.all (bi i.size)=false\/2 ^ 16<i.bytes):=by
  rw[h4,hok,h7];simp;omega
 have h9:decide (([]:List AV).length+ys.length<=2 ^ 24)=true:=by simpa using hl
 have h10:ys.isEmpty=false:=by cases ys with
  | nil=>exact absurd rfl hy
  | cons a l=>rfl
 simp only[aq,h1,h2,h3,aY,h4,if_true];rw[h4] at hne;rw[if_neg hne];simp[h9,h10,h8,ai,hl]
theorem HU (hy:ys≠[])(hok:ys.all (bi k)=true)(hl:xs.length+ys.length<=2 ^ 24):aq CC f T (.sl k xs .lit) (.sl k ys lin) ⟨hp,e⟩=some (.sl k (xs++ys) (.live (aa hp) 0),⟨hp++[.lin 0],e⟩):=by
 obtain ⟨el,i,z,h1,h2,h3,h4,h5,h6,h7,h8⟩:=hT
 have hne:¬ (i.size=0\/i.bytes=0\/z.cells.length≠i.size\/ys.all (bi i.size)=false\/2 ^ 16<i.bytes):=by
  rw[h4,hok,h7];simp;omega
 have h10:ys.isEmpty=false:=by cases ys with
  | nil=>exact absurd rfl hy
  | cons a l=>rfl
 simp only[aq,h1,h2,h3,aY,h4,if_true];rw[h4] at hne;rw[if_neg hne];simp[h10,h8,ai,hl]
theorem kY (hy:ys≠[])(hok:ys.all (bi k)=true)(hl:xs.length+ys.length<=2 ^ 24){id g:Nat}(hg:ae hp id=some (.lin g)):aq CC f T (.sl k xs (.live id g)) (.sl k ys lin) ⟨hp,e⟩=some (.sl k (xs++ys) (.live id (g+1)),⟨am hp id (.lin (g+1)),e⟩):=by
 obtain ⟨el,i,z,h1,h2,h3,h4,h5,h6,h7,h8⟩:=hT
 have hne:¬ (i.size=0\/i.bytes=0\/z.cells.length≠i.size\/ys.all (bi i.size)=false\/2 ^ 16<i.bytes):=by
  rw[h4,hok,h7];simp;omega
 have h10:ys.isEmpty=false:=by cases ys with
  | nil=>exact absurd rfl hy
  | cons a l=>rfl
 rw[aB] at hg;simp only[aq,h1,h2,h3,aY,h4,if_true];rw[h4] at hne;rw[if_neg hne];simp[h10,h8,hl,hg,aR]
theorem lT (hl:xs.length<=2 ^ 24){q:Lin}:aq CC f T (.sl k xs q) .nils ⟨hp,e⟩=some (.sl k xs q,⟨hp,e⟩):=by
 obtain ⟨el,i,z,h1,h2,h3,h4,h5,h6,h7,h8⟩:=hT
 have hne:¬ (i.size=0\/i.bytes=0\/z.cells.length≠i.size\/([]:List AV).all (bi i.size)=false\/2 ^ 16<i.bytes):=by
  rw[h4,h7];simp;omega
 simp only[aq,h1,h2,h3,aY,h4,if_true];rw[h4] at hne;rw[if_neg hne];simp[hl]
end
theorem xj (f T:Nat)(h:(T == 84||T == 86||T == 101||T == 22||T == 32)=false):CC.mutT f T=false:=by
 show (T == 84||T == 86||T == 101||(f == 21&&T == 22)||(f == 6&&T == 32))=false
 simp only[Bool.or_eq_false_iff] at h ⊢;obtain ⟨⟨⟨⟨h1,h2⟩,h3⟩,h4⟩,h5⟩:=h;simp[h1,h2,h3,h4,h5]
theorem sl58:o9 58 6:=gH (by kernel_rfl) (by decide) (λf=>xj f 58 rfl)
theorem sl83:o9 83 4:=gH (by kernel_rfl) (by decide) (λf=>xj f 83 rfl)
theorem sl139:o9 139 3:=gH (by kernel_rfl) (by decide) (λf=>xj f 139 rfl)
theorem sl140:o9 140 2:=gH (by kernel_rfl) (by decide) (λf=>xj f 140 rfl)
theorem sl148:o9 148 2:=gH (by kernel_rfl) (by decide) (λf=>xj f 148 rfl)
def YP (f:Nat):Bool:=[113,114,115,116,117,126,132,148,149,150,151,152,159,160,169,180,181,182,185,55,56,58,80,81,31,32,59,82].any (Nat.beq f)
def ga (M:Memo):Prop:=∀ f a,YP f=true->M f a=none
theorem flM_of:∀ {l:List (FuncId×List AV×AV)},l.all (λe=>!YP e.1)=true->ga (memoL l)
 | [],_,f,a,_=>rfl
 | (g,b,v)::r,h,f,a,hf=>by
   simp only[List.all_cons,Bool.and_eq_true] at h
   have hne:Nat.beq g f=false:=by
    cases hb:Nat.beq g f with
    | false=>rfl
    | true =>
      have:=Nat.eq_of_beq_eq_true hb;subst this;rw[hf] at h;exact absurd h.1 (by decide)
   show cond (Nat.beq g f) _ (memoL r f a)=none;rw[hne];exact flM_of h.2 f a hf
def cS (d:NdR):List DeR:=d.ins++d.outs++d.vars
def allZ:List DeR->AV
 | []=>.sl 6 [] .lit
 | l=>.sl 6 (l.map DeR.v) .dead
def Wk (b:Nat)(Hc:Heap)(v:AV)(acc:List DeR):Prop:=(acc=[]/\v=.sl 6 [] .lit)\/(acc≠[]/\∃ id g,v=.sl 6 (acc.map DeR.v) (.live id g)/\ae Hc id=some (.lin g)/\b<=id)
theorem CG (l:List DeR):(l.map DeR.v).all (bi 6)=true:=by
 induction l with
 | nil=>rfl
 | cons a l ih=>rw[List.map_cons,List.all_cons,ih];rfl
theorem qN {f:Nat}{P G:Heap}{v:AV}{acc l:List DeR}(h:Wk (aa P) (P++G) v acc)(hl:acc.length+l.length<=2 ^ 24) :
  ∃ v' G',(∀ e,aq CC f 58 v (deZ l) ⟨P++G,e⟩=some (v',⟨P++G',e⟩))/\Wk (aa P) (P++G') v' (acc++l):=by
 cases l with
 | nil =>
   rcases h with ⟨rfl,rfl⟩|⟨h0,id,g,rfl,hg,hb⟩
   ·exact ⟨_,G,λe=>lT sl58 f (by simp),.inl ⟨rfl,rfl⟩⟩
   ·exact ⟨_,G,λe=>lT sl58 f (by rw[List.length_map];omega),.inr ⟨by simpa using h0,id,g,by simp,hg,hb⟩⟩
 | cons a l =>
   rcases h with ⟨rfl,rfl⟩|⟨h0,id,g,rfl,hg,hb⟩
   ·refine ⟨.sl 6 ((a::l).map DeR.v) (.live (aa (P++G)) 0),G++[.lin 0],λe=>?_,.inr ⟨by simp,aa (P++G),0,rfl,?_,by rw[az];omega⟩⟩
    ·have:=HU (xs:=[]) (ys:=(a::l).map DeR.v) (hp:=P++G) (e:=e) sl58 f .dead (by simp) (CG _) (by rw[List.length_map];simpa using hl)
     rw[List.nil_append] at this;rw[<-List.append_assoc];exact this
    ·rw[<-List.append_assoc,an];rfl
   ·refine ⟨.sl 6 ((acc++a::l).map DeR.v) (.live id (g+1)),am G (id-P.length) (.lin (g+1)),λe=>?_,.inr ⟨by simp,id,g+1,rfl,?_,hb⟩⟩
    ·have:=kY (xs:=acc.map DeR.v) (ys:=(a::l).map DeR.v) (hp:=P++G) (e:=e) sl58 f .dead (by simp) (CG _) (by rw[List.length_map,List.length_map];exact hl) hg
     rw[<-List.map_append,gn (by rw[<-ai];exact hb)] at this
     exact this
    ·rw[<-gn (by rw[<-ai];exact hb)]
     exact aF hg _
abbrev dq (d:NdR):AObj:=.cells (zS d.s d.p d.ins d.outs d.vars (oZ d.eqs))
theorem pI (d:NdR)(L:Nat):dV d.v L=some (.cells (zS d.s d.p d.ins d.outs d.vars (oZ d.eqs)),(.ptr · 0)):=by
 have h1:d.v.low L=true:=(fS _ (by simp only[fg,br,noNL_nil,iC,linN_dead,eq_noN,jN,ig,il,cond_true])).2 L
 have h2:(AV.cells d.v).all AV.one=true:=by
  show (zS d.s d.p d.ins d.outs d.vars (oZ d.eqs)).all AV.one=true;simp only[List.all_cons,List.all_nil,lz,gI,g9,mF,Bool.and_self]
 unfold dV;rw[if_pos ⟨h2,h1⟩];rfl
theorem dC {k:Bool}{b:Nat}{v:AV}{hp:Heap}(h:gK v=true):lH k b v ⟨hp,b⟩=.ret v (bg b hp) b:=by
 unfold lH;rw[h,show Nat.beq b b=true by rw[f9];simp]
 rfl
theorem keep113:CC.keep 113=false:=by kernel_rfl
theorem bsl58_0:aM CC 58 0 []=some (.sl 6 [] .lit):=by kernel_rfl
theorem w6 {M:Memo}(m:ga M)(d:NdR)(hl:(cS d).length<=2 ^ 24)(H:Heap):orc CC M 113 [d.v] H=some (.ret (allZ (cS d)) H (aa H)):=by
 refine aJ (z:=z113) (m _ _ rfl) (by kernel_rfl) rfl ?_
 have e0:(envOf [d.v] 0 env0).a.a.a=d.v:=rfl;generalize envOf [d.v] 0 env0=R at e0;have hb:=pI d;unfold cS at hl ⊢;have hlB:aa (H++[dq d])=aa H+1:=by rw[az];rfl
 rw[List.length_append,List.length_append] at hl;obtain ⟨v1,G1,a1,I1⟩:=qN (f:=113) (P:=H++[dq d]) (G:=[]) (v:=.sl 6 [] .lit) (acc:=[]) (l:=d.ins) (.inl ⟨rfl,rfl⟩) (by simp;omega)
 obtain ⟨v2,G2,a2,I2⟩:=qN (f:=113) (l:=d.outs) I1 (by simp;omega)
 obtain ⟨v3,G3,a3,I3⟩:=qN (f:=113) (l:=d.vars) I2 (by simp;omega)
 rw[List.nil_append] at I1 I2 I3;rw[List.append_nil] at a1;have gB:∀ G,ae (H++[dq d]++G) (aa H)=some (dq d):=λG=>au (by rw[an];rfl) _
 have hs0:=ni d.outs;have hs1:=ni d.vars
 obtain ⟨r',hr',hpre⟩ : ∃ r',r'.a.a.c=v3/\z113.sh (orc CC M) R [] ⟨H,aa H⟩=some (.ret,r',[],⟨H++[dq d]++G3,aa H⟩):=by
  have gB0:ae (H++[dq d]) (aa H)=some (dq d):=by rw[an];rfl
  simp only[z113,Gi,Ck,SIM,ST0,e0,hb,bsl58_0,a1,a2,a3,gB,gB0,hs0,hs1,Nat.reduceAdd,Nat.reduceLeDiff];exact ⟨_,rfl,rfl⟩
 rw[hpre];have ht:∀ G:Heap,bg (aa H) (H++[dq d]++G)=H:=λG=>by rw[List.append_assoc,bP]
 have hres:fx r' (H++[dq d]++G3) z113.res=some [v3]:=by
  show fx r' _ [.t 2]=_;rw[iN,jI,show gt r' 2=v3 from hr']
 rw[jG,hres];show some (lH (CC.keep 113) (aa H) v3 ⟨H++[dq d]++G3,aa H⟩)=_;rw[keep113]
 rcases I3 with ⟨h0,rfl⟩|⟨h0,id,g,rfl,hg,hb⟩
 ·rw[h0,dC rfl,ht];rfl
 ·rw[oN (de_noN _) (by omega),ht]
  obtain ⟨x,l,hx⟩ : ∃ x l,d.ins++d.outs++d.vars=x::l:=List.exists_cons_of_ne_nil h0;rw[hx];rfl
theorem cc58:∃ e,CC.P.underlying 58=some (.slice e)/\e=176:=⟨_,by kernel_rfl,rfl⟩
theorem oQ (L:List DeR):aO CC 58 (allZ L)=some (.int .i64 (L.length:Int)):=by
 obtain ⟨e,hu,_⟩:=cc58;cases L with
 | nil=>show aO CC 58 (.sl 6 [] .lit)=_;rw[cO hu];simp
 | cons a l=>show aO CC 58 (.sl 6 ((a::l).map DeR.v) .dead)=_;rw[cO hu,List.length_map]
theorem tK {L:List DeR}{i:Nat}{a:DeR}(h:L[i]?=some a):aL 6 (allZ L) (.int .i64 (i:Int))=some (.iptr a.l):=by
 cases L with
 | nil=>simp at h
 | cons b l =>
   show aL 6 (.sl 6 ((b::l).map DeR.v) .dead) _=_;refine bN (v:=a.v) ?_;rw[aB,List.getElem?_map,h];rfl
abbrev zD:List AV:=[.str [],.int .i64 0,.bool false,.bool false,.str [],.bool false]
def Zb (H:Heap)(B:AObj)(L:List DeR)(X:IRes):Prop :=
 (∃ r' G,X=some (.exit 0,r',[],⟨H++[B,.cells zD]++G,aa H⟩)/\r'.a.a.e=.ptr (aa H+1) 0) \/
 (∃ r' G c,c∈L/\X=some (.ret,r',[],⟨H++[B,.cells c.l]++G,aa H⟩)/\r'.a.a.e=.ptr (aa H+1) 0/\r'.a.a.f=.bool true)
section
variable {M:Memo}
theorem vw {H:Heap}{B:AObj}{nm:List Nat}{L:List DeR}(hL:L.length<=90000):∀ (d i:Nat),d+i=L.length->∀ (fu:Nat),d<fu->∀ (G:Heap) (r:RG),
  (r.a.a.b=.str nm/\r.a.a.e=.ptr (aa H+1) 0/\r.a.b.b=allZ L/\r.a.b.c=.int .i64 (L.length:Int)/\r.a.b.d=.int .i64 (i:Int)) ->
  Zb H B L (ax (lR (orc CC M)) fu r [] ⟨H++[B,.cells zD]++G,aa H⟩):=by
 intro d
 induction d with
 | zero =>
   intro i hi fu hfu G r ⟨h1,h4,h9,h10,h11⟩;obtain ⟨fu',rfl⟩ : ∃ f,fu=f+1:=⟨fu-1,by omega⟩
   have:i=L.length:=by omega
   subst this;have hc:decide ((L.length:Int)<(L.length:Int))=false:=by simp
   simp only[ax,lR,rE,SIM,ST0,h10,h11,hc];exact .inl ⟨_,G,rfl,by first|rfl|exact h4⟩
 | succ d ih =>
   intro i hi fu hfu G r ⟨h1,h4,h9,h10,h11⟩;obtain ⟨fu',rfl⟩ : ∃ f,fu=f+1:=⟨fu-1,by omega⟩
   have hlt:i<L.length:=by omega
   have hc:decide ((i:Int)<(L.length:Int))=true:=by simp;omega
   have hg:L[i]?=some L[i]:=by simp[hlt]
   have hmem:=List.getElem_mem hlt;generalize L[i]=a at hg hmem;have hat:=tK hg;have ha:bR (i:Int) 1=((i+1:Nat):Int):=aZ i 1 (by unfold natMax;omega)
   have hob:aa (H++[B,.cells zD]++G)=aa H+2+aa G:=by rw[az,az];rfl
   have hset:∀ K c,am (H++[B,.cells zD]++G++K) (aa H+1) c=H++[B,c]++(G++K):=λK c=>by
    rw[List.append_assoc,List.append_assoc,dT];rw[List.append_assoc];rfl
   have hget:∀ K,ae (H++[B,.cells zD]++G++K) (aa H+1)=some (.cells zD):=λK=>by
    rw[List.append_assoc,List.append_assoc,aW];rfl
   cases hs:strEq a.s nm with
   | true =>
     generalize hHc:H++[B,.cells zD]++G=Hc at *;simp only[ax,lR,rE,wR,xn,wj,SIM,ST0,ST1,h1,h4,h9,h10,h11,hc,hat,hs,hget,hset,Nat.reduceAdd,Nat.reduceLeDiff];exact .inr ⟨_,_,a,hmem,rfl,by first|rfl|exact h4,rfl⟩
   | false =>
     have key:=ih (i+1) (by omega) fu' (by omega) (G++[.cells a.l])
     rw[<-List.append_assoc] at key;generalize hHc:H++[B,.cells zD]++G=Hc at *;simp only[ax,lR,rE,wR,xn,wj,E9,SIM,ST0,ST1,h1,h4,h9,h10,h11,hc,hat,hs,ha,Nat.reduceAdd,Nat.reduceLeDiff];exact key _ ⟨by first|rfl|exact h1,by first|rfl|exact h4,by first|rfl|exact h9,by first|rfl|exact h10,rfl⟩
theorem bz176:ao CC 176 []=some (.agg zD):=by kernel_rfl
theorem Fm (m:ga M)(d:NdR)(hl:(cS d).length<=90000)(hc:∀ x∈cS d,x.c=[])(nm:List Nat)(H:Heap) :
  ∃ (s:List Nat) (p:Int) (b f o t:Bool),orc CC M 126 [d.v,.str nm] H=some (.ret (.tuple [.agg [.str s,.int .i64 p,.bool b,.bool f,.str [],.bool o],.bool t]) H (aa H)):=by
 have A:=w6 m d (by omega)
 have hb:=pI d;have e0:(envOf [d.v,.str nm] 0 env0).a.a.a=d.v:=rfl;have e1:(envOf [d.v,.str nm] 0 env0).a.a.b=.str nm:=rfl;have lp:=vw (M:=M) (H:=H) (B:=dq d) (nm:=nm) hl (cS d).length 0 rfl 100000 (by omega) []
 rw[List.append_nil] at lp
 obtain ⟨r0,hr0,hpre⟩ : ∃ r,(r.a.a.b=.str nm/\r.a.a.e=.ptr (aa H+1) 0/\r.a.b.b=allZ (cS d)/\r.a.b.c=.int .i64 ((cS d).length:Int)/\r.a.b.d=.int .i64 ((0:Nat):Int)) /\
   z126.sh (orc CC M) (envOf [d.v,.str nm] 0 env0) [] ⟨H,aa H⟩=dI (ac (rG (orc CC M)) retZ) (c9 0 (ax (lR (orc CC M)) 100000 r [] ⟨H++[dq d,.cells zD],aa H⟩)):=by
  generalize envOf [d.v,.str nm] 0 env0=R at e0 e1;have hln:=oQ (cS d);simp only[z126,E6,FY,SIM,ST0,e0,e1,hb,A,hln,Nat.reduceAdd,Nat.reduceLeDiff];exact ⟨_,⟨by first|rfl|exact e1,rfl,rfl,rfl,rfl⟩,rfl⟩
 have fin:∀ (r' : RG) (c:List AV) (G:Heap) (s:List Nat) (p:Int) (b f o t:Bool),c=[.str s,.int .i64 p,.bool b,.bool f,.str [],.bool o]->r'.a.a.e=.ptr (aa H+1) 0->r'.a.a.f=.bool t ->
   lw CC 126 (aa H) z126 (some (.ret,r',[],⟨H++[dq d,.cells c]++G,aa H⟩))=some (.ret (.tuple [.agg [.str s,.int .i64 p,.bool b,.bool f,.str [],.bool o],.bool t]) H (aa H)):=by
  intro r' c G s p b f o t hcc h4 h5;subst hcc;have hg:ae (H++[dq d,.cells [.str s,.int .i64 p,.bool b,.bool f,.str [],.bool o]]++G) (aa H+1)=some (.cells [.str s,.int .i64 p,.bool b,.bool f,.str [],.bool o]):=by rw[List.append_assoc,aW];rfl
  have ht:bg (aa H) (H++[dq d,.cells [.str s,.int .i64 p,.bool b,.bool f,.str [],.bool o]]++G)=H:=by rw[List.append_assoc,bP]
  have hgc:=dC (k:=CC.keep 126) (b:=aa H) (v:=.tuple [.agg [.str s,.int .i64 p,.bool b,.bool f,.str [],.bool o],.bool t]) (hp:=H++[dq d,.cells [.str s,.int .i64 p,.bool b,.bool f,.str [],.bool o]]++G) rfl;rw[ht] at hgc;generalize H++[dq d,.cells [.str s,.int .i64 p,.bool b,.bool f,.str [],.bool o]]++G=Hc at *;simp only[z126,SIM,ST0,h4,h5,hg,hgc,Nat.reduceAdd,Nat.reduceLeDiff]
 rcases lp r0 hr0 with ⟨r',G,h1,h4⟩|⟨r',G,c,hcm,h1,h4,h5⟩
 ·refine ⟨[],0,false,false,false,false,aJ (z:=z126) (m _ _ rfl) (by kernel_rfl) rfl ?_⟩
  rw[hpre,h1];have hg:ae (H++[dq d,.cells zD]++G) (aa H+1)=some (.cells zD):=by rw[List.append_assoc,aW];rfl
  have hself:=dY hg
  obtain ⟨r2,h42,h52,hr2⟩ : ∃ r2,r2.a.a.e=.ptr (aa H+1) 0/\r2.a.a.f=.bool false/\dI (ac (rG (orc CC M)) retZ) (c9 0 (some (.exit 0,r',[],⟨H++[dq d,.cells zD]++G,aa H⟩)))=some (.ret,r2,[],⟨H++[dq d,.cells zD]++G,aa H⟩):=by
   generalize H++[dq d,.cells zD]++G=Hc at *;simp only[rG,SIM,ST0,h4,bz176,hg,hself,Nat.reduceAdd,Nat.reduceLeDiff];exact ⟨_,by first|rfl|exact h4,rfl,rfl⟩
  rw[hr2];exact fin r2 zD G [] 0 false false false false rfl h42 h52
 ·refine ⟨c.s,c.p,c.b,c.f,c.o,true,aJ (z:=z126) (m _ _ rfl) (by kernel_rfl) rfl ?_⟩
  rw[hpre,h1];have hc0:=hc c hcm;have:=fin r' c.l G c.s c.p c.b c.f c.o true (by rw[show c.l=[.str c.s,.int .i64 c.p,.bool c.b,.bool c.f,.str c.c,.bool c.o] from rfl,hc0]) h4 h5
  simpa only[SIM] using this
end
theorem tn (d:NdR):AV.same d.v d.v=true:=by
 have:=nd_same [d];simp only[List.map_cons,List.map_nil,sameL,Bool.and_true] at this;exact this
abbrev gv0:AV:=.sl 2 [] .lit
abbrev BD (d:NdR)(mv mf base:AV):List AV:=[.str d.s,.int .i64 (d.p:Int),deZ d.ins,deZ d.outs,deZ d.vars,oZ d.eqs,mv,mf,base]
theorem vL (a b c d e f g h i:AV):ae [a,b,c,d,e,f,g,h,i] 6=some g:=rfl
theorem AY (a b c d e f g h i:AV):ae [a,b,c,d,e,f,g,h,i] 7=some h:=rfl
theorem Rb (a b c d e f g h i:AV):ae [a,b,c,d,e,f,g,h,i] 8=some i:=rfl
theorem p9 (a b c d e f g h i:AV):eP (some 6) [a,b,c,d,e,f,g,h,i] 0=some (.agg [a,b,c,d,e,f]):=rfl
theorem cc254:∃ e,CC.P.underlying 254=some (.slice e)/\e=279:=⟨_,by kernel_rfl,rfl⟩
theorem len254:aO CC 254 .nils=some (.int .i64 0):=by
 obtain ⟨e,hu,_⟩:=cc254;rw[cA];simp[dh,hu]
theorem bsl140_0:aM CC 140 0 []=some gv0:=by kernel_rfl
def mo (v:AV):Prop:=v=.nils\/v=gv0
theorem TC (f:Nat){base:AV}(h:mo base)(hp:Heap)(e:Nat):aq CC f 140 gv0 base ⟨hp,e⟩=some (gv0,⟨hp,e⟩):=by
 rcases h with rfl|rfl
 ·exact lT sl140 f (by simp)
 ·obtain ⟨el,i,z,h1,h2,h3,h4,h5,h6,h7,h8⟩:=sl140
  have hne:¬ (i.size=0\/i.bytes=0\/z.cells.length≠i.size\/([]:List AV).all (bi i.size)=false\/2 ^ 16<i.bytes):=by
   rw[h4,h7];simp;omega
  simp only[aq,h1,h2,h3,aY,h4,if_true];rw[h4] at hne;rw[if_neg hne];simp
section
variable {M:Memo}{d:NdR}
theorem of_ok (m:ga M)(hl:(cS d).length<=90000)(hc:∀ x∈cS d,x.c=[])(nm:List Nat)(k:Int)(H:Heap):orc CC M 159 [d.v,.str nm,.int .i64 k] H=some (.ret (.tuple [.nils,.bool true]) H (aa H)):=by
 obtain ⟨s,p,b,f,o,t,N⟩:=Fm m d hl hc nm (H++[dq d]);have hb:=pI d;refine aJ (z:=z159) (m _ _ rfl) (by kernel_rfl) rfl ?_
 have e0:(envOf [d.v,.str nm,.int .i64 k] 0 env0).a.a.a=d.v:=rfl;have e1:(envOf [d.v,.str nm,.int .i64 k] 0 env0).a.a.b=.str nm:=rfl;generalize envOf [d.v,.str nm,.int .i64 k] 0 env0=R at e0 e1;have hse:strEq ([]:List Nat) []=true:=rfl;simp only[z159,ES,Fu,Cw,CW,SIM,ST0,ST1,e0,e1,hb,N,hse,Nat.reduceAdd,Nat.reduceLeDiff]
theorem Vm (m:ga M)(hl:(cS d).length<=90000)(hc:∀ x∈cS d,x.c=[])(nm:List Nat)(H:Heap):orc CC M 132 [d.v,.str nm] H=some (.ret (.tuple [.nils,.bool true]) H (aa H)):=by
 have A:=w6 m d (by omega) (H++[dq d])
 have F:=of_ok m hl hc nm ((cS d).length:Int) (H++[dq d]);have hb:=pI d;have hs:=tn d;have hln:=oQ (cS d);refine aJ (z:=z132) (m _ _ rfl) (by kernel_rfl) rfl ?_
 have e0:(envOf [d.v,.str nm] 0 env0).a.a.a=d.v:=rfl;have e1:(envOf [d.v,.str nm] 0 env0).a.a.b=.str nm:=rfl;generalize envOf [d.v,.str nm] 0 env0=R at e0 e1;simp only[z132,Dz,EQ,SIM,ST0,ST1,e0,e1,hb,A,F,hs,hln,Nat.reduceAdd,Nat.reduceLeDiff]
theorem C8 (m:ga M)(hl:(cS d).length<=90000)(hc:∀ x∈cS d,x.c=[])(nm:List Nat){so:Nat}{mv mf base:AV}{H:Heap}(hs:ae H so=some (.cells (BD d mv mf base))):orc CC M 149 [.ptr so 0,.str nm] H=some (.ret .nils H (aa H)):=by
 have F:=Vm m hl hc nm H;refine aJ (z:=z149) (m _ _ rfl) (by kernel_rfl) rfl ?_
 have e0:(envOf [.ptr so 0,.str nm] 0 env0).a.a.a=.ptr so 0:=rfl;have e1:(envOf [.ptr so 0,.str nm] 0 env0).a.a.b=.str nm:=rfl;generalize envOf [.ptr so 0,.str nm] 0 env0=R at e0 e1;simp only[z149,Ci,CA,DM,SIM,ST0,ST1,e0,e1,hs,p9,F,Nat.reduceAdd,Nat.reduceLeDiff]
theorem jo (m:ga M){so:Nat}{mv mf base:AV}(hb:mo base){H:Heap}(hs:ae H so=some (.cells (BD d mv mf base))):orc CC M 152 [.ptr so 0,.nils] H=some (.ret gv0 H (aa H)):=by
 refine aJ (z:=z152) (m _ _ rfl) (by kernel_rfl) rfl ?_
 have e0:(envOf [.ptr so 0,.nils] 0 env0).a.a.a=.ptr so 0:=rfl;have e1:(envOf [.ptr so 0,.nils] 0 env0).a.a.b=.nils:=rfl;generalize envOf [.ptr so 0,.nils] 0 env0=R at e0 e1;have ha:=λhp e=>TC 152 hb hp e
 have hc:decide ((0:Int)<0)=false:=by decide
 simp only[z152,HL,Fk,EU,F9,Cd,Ef,LW,SIM,ST0,ST1,e0,e1,hs,Rb,bsl140_0,ha,len254,hc,Nat.reduceAdd,Nat.reduceLeDiff]
end
abbrev TJ (nd:List Nat)(at_:Int)(vars:Nat)(I O E Ms W S:AV)(size:Nat):List AV:=[.str nd,.int .i64 at_,.int .i64 (vars:Int),I,O,E,Ms,W,S,.int .i64 (size:Int)]
theorem Ze (a b c d e f g h i j:AV):ae [a,b,c,d,e,f,g,h,i,j] 2=some c/\ae [a,b,c,d,e,f,g,h,i,j] 5=some f/\ae [a,b,c,d,e,f,g,h,i,j] 6=some g/\ae [a,b,c,d,e,f,g,h,i,j] 7=some h/\ae [a,b,c,d,e,f,g,h,i,j] 8=some i/\ae [a,b,c,d,e,f,g,h,i,j] 9=some j:=⟨rfl,rfl,rfl,rfl,rfl,rfl⟩
theorem Y1 (a b c d e f g h i j v:AV):db [a,b,c,d,e,f,g,h,i,j] 2 [v]=[a,b,v,d,e,f,g,h,i,j]/\db [a,b,c,d,e,f,g,h,i,j] 5 [v]=[a,b,c,d,e,v,g,h,i,j]/\db [a,b,c,d,e,f,g,h,i,j] 6 [v]=[a,b,c,d,e,f,v,h,i,j]/\db [a,b,c,d,e,f,g,h,i,j] 7 [v]=[a,b,c,d,e,f,g,v,i,j]/\db [a,b,c,d,e,f,g,h,i,j] 8 [v]=[a,b,c,d,e,f,g,h,v,j]/\db [a,b,c,d,e,f,g,h,i,j] 9 [v]=[a,b,c,d,e,f,g,h,i,v]:=⟨rfl,rfl,rfl,rfl,rfl,rfl⟩
section
variable {M:Memo}
theorem sv (m:ga M){bo uo:Nat}{LV:AV}{nd:List Nat}{at_:Int}{vars size:Nat}{I O E Ms W S:AV}(hv:vars<1000000){H:Heap}(hb:ae H bo=some (.cells [.ptr uo 0,LV]))(hu:ae H uo=some (.cells (TJ nd at_ vars I O E Ms W S size))) :
  orc CC M 80 [.ptr bo 0] H=some (.ret (.int .i64 (vars:Int)) (am H uo (.cells (TJ nd at_ (vars+1) I O E Ms W S size))) (aa H)):=by
 refine aJ (z:=z80) (m _ _ rfl) (by kernel_rfl) rfl ?_
 have e0:(envOf [.ptr bo 0] 0 env0).a.a.a=.ptr bo 0:=rfl;generalize envOf [.ptr bo 0] 0 env0=R at e0;have ha:bR (vars:Int) 1=((vars+1:Nat):Int):=aZ vars 1 (by unfold natMax;omega)
 have hs:fR ((vars+1:Nat):Int) 1=(vars:Int):=by
  show fR (.ofNat (vars+1)) (.ofNat 1)=_;have h1:Nat.ble 1 (vars+1)=true:=by rw[dW];simp
  have h2:Nat.ble (vars+1) natMax=true:=by rw[dW,decide_eq_true_eq];unfold natMax;omega
  simp only[fR,h1,h2,Bool.and_self,cond_true];rfl
 by_cases hbu:bo=uo
 ·subst hbu;rw[hb] at hu;simp at hu
 have hu2:=aF hu (.cells (TJ nd at_ (vars+1) I O E Ms W S size));have hb2:∀ c,ae (am H uo c) bo=some (.cells [.ptr uo 0,LV]):=λc=>by rw[af hbu,hb]
 have hg:=λa b c d e f g h i j=>(Ze a b c d e f g h i j).1
 have hp:=λa b c d e f g h i j v=>(Y1 a b c d e f g h i j v).1
 simp only[z80,Mw,Lj,K8,SIM,ST0,ST1,e0,hb,hb2,hu,hu2,hg,hp,ha,hs,Nat.reduceAdd,Nat.reduceLeDiff]
end
def nmA:AV->List Nat
 | .sl _ _ (.live id _)=>[id]
 | .rsl n _ _ _ _=>[n]
 | _=>[]
def LvI (uo:Nat)(H:Heap)(k:Nat)(V:AV)(xs:List AV):Prop:=(xs=[]/\V=.nils)\/(xs≠[]/\∃ id g,V=.sl k xs (.live id g)/\ae H id=some (.lin g)/\uo<id/\aG (aa H) xs=true)
def RsI (uo:Nat)(H:Heap)(sz:Nat)(V:AV)(cells:List AV):Prop:=(cells=[]/\V=.nils)\/(∃ id n,V=.rsl id 0 n n sz/\0<n/\ae H id=some (.cells cells)/\cells.length=n*sz/\cells.all AV.one=true/\aG (aa H) cells=true/\uo<id)
theorem LvI.mono {uo:Nat}{H H' : Heap}{k:Nat}{V:AV}{xs:List AV}(h:LvI uo H k V xs)(hl:aa H<=aa H')(hf:∀ q∈nmA V,q<aa H->ae H' q=ae H q):LvI uo H' k V xs:=by
 rcases h with h|⟨h0,id,g,rfl,hg,hu,hw⟩
 ·exact .inl h
 ·exact .inr ⟨h0,id,g,rfl,by rw[hf id (by simp[nmA]) (by rw[ai];exact bj hg),hg],hu,bO hl _ hw⟩
theorem RsI.mono {uo:Nat}{H H' : Heap}{k:Nat}{V:AV}{xs:List AV}(h:RsI uo H k V xs)(hl:aa H<=aa H')(hf:∀ q∈nmA V,q<aa H->ae H' q=ae H q):RsI uo H' k V xs:=by
 rcases h with h|⟨id,n,rfl,h0,hg,h1,h2,h3,hu⟩
 ·exact .inl h
 ·exact .inr ⟨id,n,rfl,h0,by rw[hf id (by simp[nmA]) (by rw[ai];exact bj hg),hg],h1,h2,bO hl _ h3,hu⟩
theorem LvI.lt {uo:Nat}{H:Heap}{k:Nat}{V:AV}{xs:List AV}(h:LvI uo H k V xs):∀ q∈nmA V,uo<q/\q<aa H:=by
 intro q hq
 rcases h with ⟨_,rfl⟩|⟨h0,id,g,rfl,hg,hu,hw⟩
 ·cases hq
 ·simp only[nmA,List.mem_singleton] at hq;subst hq;exact ⟨hu,by rw[ai];exact bj hg⟩
theorem RsI.lt {uo:Nat}{H:Heap}{k:Nat}{V:AV}{xs:List AV}(h:RsI uo H k V xs):∀ q∈nmA V,uo<q/\q<aa H:=by
 intro q hq
 rcases h with ⟨_,rfl⟩|⟨id,n,rfl,h0,hg,h1,h2,h3,hu⟩
 ·cases hq
 ·simp only[nmA,List.mem_singleton] at hq;subst hq;exact ⟨hu,by rw[ai];exact bj hg⟩
theorem jF {T k:Nat}(hT:o9 T k)(f:Nat){uo:Nat}{H:Heap}{V x:AV}{xs:List AV}(h:LvI uo H k V xs)(hx:[x].all (bi k)=true)(hw:x.low (aa H)=true)(hl:xs.length+1<=2 ^ 24)(hu:uo<aa H) :
  ∃ V' H',(∀ e lin,aq CC f T V (.sl k [x] lin) ⟨H,e⟩=some (V',⟨H',e⟩))/\LvI uo H' k V' (xs++[x])/\aa H<=aa H'/\(∀ q,q<aa H->q∉nmA V->ae H' q=ae H q)/\(∀ q∈nmA V',q∈nmA V\/aa H<=q):=by
 rcases h with ⟨rfl,rfl⟩|⟨h0,id,g,rfl,hg,hu',hw'⟩
 ·refine ⟨.sl k [x] (.live (aa H) 0),H++[.lin 0],λe lin=>oK hT f lin (by simp) hx (by simp),.inr ⟨by simp,aa H,0,rfl,by rw[an];rfl,hu,?_⟩,by rw[az];omega,λq hq _=>?_,λq hq=>?_⟩
  ·simp only[List.nil_append,aG,Bool.and_true];exact AV.low_mono (by rw[az];omega) _ hw
  ·rw[ai] at hq;rw[aB,aB,List.getElem?_append_left hq]
  ·simp only[nmA,List.mem_singleton] at hq;exact .inr (by omega)
 ·refine ⟨.sl k (xs++[x]) (.live id (g+1)),am H id (.lin (g+1)),λe lin=>kY hT f lin (by simp) hx (by simpa using hl) hg,.inr ⟨by simp,id,g+1,rfl,aF hg _,hu',?_⟩,by rw[ay];exact Nat.le_refl _,λq hq hn=>?_,λq hq=>.inl hq⟩
  ·rw[ay]
   have:∀ l:List AV,aG (aa H) l=true->aG (aa H) (l++[x])=true:=λl=>by
    induction l with
    | nil=>intro _;simp[aG,hw]
    | cons a l ih=>intro h;simp only[aG,List.cons_append,Bool.and_eq_true] at h ⊢;exact ⟨h.1,ih h.2⟩
   exact this xs hw'
  ·rw[af (by simp only[nmA,List.mem_singleton] at hn;exact hn)]
theorem m6 {uo off b k:Nat}{H:Heap}{V:AV}{xs cs:List AV}(h:LvI uo H k V xs)(hn:xs≠[])(hcs:ae H uo=some (.cells cs))(ho:off+1<=aa cs)(hb:uo<=b) :
  ar 1 (.ptr uo off) V ⟨H,b⟩=some ⟨am H uo (.cells (db cs off [V])),uo⟩:=by
 rcases h with ⟨h0,_⟩|⟨h0,id,g,rfl,hg,hu,hw⟩
 ·exact absurd h0 hn
 ·have hid:id<aa H:=by rw[ai];exact bj hg
  have low:∀ L,AV.low L (.sl k xs (.live id g))=(aG L xs&&decide (id<L)):=λL=>by simp[AV.low,Lin.low]
  have e1:eK (aa H) (.sl k xs (.live id g))=true:=by rw[bY,low,hw];simpa using hid
  have e2:eK (uo+1) (.sl k xs (.live id g))=false:=by rw[bY,low];simp;intro _;omega
  have e3:Nat.ble (Nat.add off 1) (aa cs)=true:=by rw[dW];simpa using ho
  have e4:min b uo=uo:=Nat.min_eq_right hb;have e5:Nat.beq (aa [AV.sl k xs (.live id g)]) 1=true:=rfl;have e6:List.all [AV.sl k xs (.live id g)] AV.one=true:=rfl;have e7:AV.cells (.sl k xs (.live id g))=[.sl k xs (.live id g)]:=rfl;simp only[ar,hcs,eM,e1,e3,e5,e6,e7,Bool.and_self,cond_true,gV,e2,cond_false,e4]
structure AtF where
 c:Bool
 n:Int
 v:Nat
abbrev AtF.av (a:AtF):AV:=.agg [.bool a.c,.int .i64 a.n,.int .i64 (a.v:Int)]
structure EqF where
 op:List Nat
 dst:Nat
 args:List AtF
 lin:Lin
 on:AV
abbrev EqF.av (q:EqF):AV:=.agg [.str q.op,.int .i64 (q.dst:Int),.sl 3 (q.args.map AtF.av) q.lin,q.on]
def EqF.ok (L:Nat)(q:EqF):Prop:=mo q.on/\q.lin.low L=true
theorem lB (l:List AtF):dp (l.map AtF.av)=true:=by
 induction l with
 | nil=>rfl
 | cons a l ih=>rw[List.map_cons,br,ih];rfl
theorem rh {L:Nat}{q:EqF}(h:q.ok L):q.av.low L=true:=by
 obtain ⟨h1,h2⟩:=h;have h3:=de (lB q.args) L;have h4:Lin.low L .lit=true:=rfl
 rcases h1 with h1|h1<;>simp[AV.low,aG,h1,h2,h3,h4]
theorem I4 (q:EqF)(h:mo q.on):[q.av].all (bi 4)=true:=by
 rcases h with h|h<;>simp[bi,AV.cells,AV.one,h]
def lV (k:Nat)(lin:Lin):List AV->AV
 | []=>.nils
 | x::l=>.sl k (x::l) lin
structure WtF where
 dst:Nat
 sp:Int
 pa:Int
 ah:List Int
 lin:Lin
 at_:Int
abbrev WtF.av (w:WtF):AV:=.agg [.int .i64 (w.dst:Int),.int .i64 w.sp,.int .i64 w.pa,lV 1 w.lin (w.ah.map λn=>.int .i64 n),.int .i64 w.at_]
structure SpF where
 nd:List Nat
 args:List AtF
 al:Lin
 futs:List (Int×Int)
 fl:Lin
 at_:Int
abbrev eb (o:Int×Int):AV:=.agg [.int .i64 o.1,.int .i64 o.2]
abbrev SpF.cs (s:SpF):List AV:=[.str s.nd,lV 3 s.al (s.args.map AtF.av),lV 2 s.fl (s.futs.map eb),.int .i64 s.at_]
structure UN where
 nd:List Nat
 at_:Int
 vars:Nat
 I:AV
 O:AV
 eqs:List EqF
 E:AV
 ms:List AV
 Ms:AV
 ws:List WtF
 W:AV
 sp:List SpF
 S:AV
 size:Nat
abbrev UN.c (u:UN):List AV:=TJ u.nd u.at_ u.vars u.I u.O u.E u.Ms u.W u.S u.size
def UN.ns (u:UN):List Nat:=nmA u.E++nmA u.Ms++nmA u.W++nmA u.S
structure UI (uo:Nat)(H:Heap)(u:UN):Prop where
 ob:ae H uo=some (.cells u.c)
 e:LvI uo H 4 u.E (u.eqs.map EqF.av)
 el:∀ q∈u.eqs,mo q.on
 m:RsI uo H 6 u.Ms u.ms
 w:LvI uo H 5 u.W (u.ws.map WtF.av)
 s:RsI uo H 4 u.S (u.sp.flatMap SpF.cs)
 dj:(∀ q∈nmA u.E,q∉nmA u.Ms/\q∉nmA u.W/\q∉nmA u.S)/\(∀ q∈nmA u.Ms,q∉nmA u.W/\q∉nmA u.S)/\(∀ q∈nmA u.W,q∉nmA u.S)
 vl:u.vars+u.eqs.length+u.ms.length+u.ws.length+u.sp.length+u.size<1000000
structure Gr (uo:Nat)(H:Heap)(ns:List Nat)(H' : Heap)(ns' : List Nat):Prop where
 len:aa H<=aa H'
 fr:∀ q,q<aa H->q≠uo->q∉ns->ae H' q=ae H q
 ns:∀ q∈ns',q∈ns\/aa H<=q
theorem Gr.refl {uo:Nat}{H:Heap}{ns:List Nat}:Gr uo H ns H ns:=⟨Nat.le_refl _,λ_ _ _ _=>rfl,λ_ h=>.inl h⟩
theorem Gr.trans {uo:Nat}{H H1 H2:Heap}{a b c:List Nat}(h:Gr uo H a H1 b)(h' : Gr uo H1 b H2 c):Gr uo H a H2 c:=by
 refine ⟨Nat.le_trans h.len h'.len,λq hq hu hn=>?_,λq hq=>?_⟩
 ·rw[h'.fr q (Nat.lt_of_lt_of_le hq h.len) hu (λhb=>(h.ns q hb).elim hn (λhl=>by omega)),h.fr q hq hu hn]
 ·rcases h'.ns q hq with hb|hl
  ·exact h.ns q hb
  ·exact .inr (Nat.le_trans h.len hl)
theorem Gr.ap {uo:Nat}{H K:Heap}{ns:List Nat}:Gr uo H ns (H++K) ns:=by
 refine ⟨by rw[az];omega,λq hq _ _=>?_,λ_ h=>.inl h⟩
 rw[ai] at hq;rw[aB,aB,List.getElem?_append_left hq]
theorem UI.lt {uo:Nat}{H:Heap}{u:UN}(h:UI uo H u):∀ q∈u.ns,uo<q/\q<aa H:=by
 intro q hq;unfold UN.ns at hq;simp only[List.mem_append] at hq
 rcases hq with ((hq|hq)|hq)|hq
 ·exact h.e.lt q hq
 ·exact h.m.lt q hq
 ·exact h.w.lt q hq
 ·exact h.s.lt q hq
theorem UI.uo {uo:Nat}{H:Heap}{u:UN}(h:UI uo H u):uo<aa H:=by rw[ai];exact bj h.ob
theorem UI.to {uo:Nat}{H H' : Heap}{u:UN}(h:UI uo H u)(hl:aa H<=aa H')(hf:∀ q,q<aa H->q=uo\/q∈u.ns->ae H' q=ae H q):UI uo H' u:=by
 refine ⟨by rw[hf uo h.uo (.inl rfl)];exact h.ob,h.e.mono hl (λq hq hlt=>hf q hlt (.inr ?_)),h.el,h.m.mono hl (λq hq hlt=>hf q hlt (.inr ?_)),h.w.mono hl (λq hq hlt=>hf q hlt (.inr ?_)),h.s.mono hl (λq hq hlt=>hf q hlt (.inr ?_)),h.dj,h.vl⟩ <;>
 (unfold UN.ns;simp only[List.mem_append];simp[hq])
theorem UI.ap {uo:Nat}{H K:Heap}{u:UN}(h:UI uo H u):UI uo (H++K) u :=
 h.to (by rw[az];omega) (λq hq _=>by rw[ai] at hq;rw[aB,aB,List.getElem?_append_left hq])
theorem bT {u:UN}{q:Nat}:q∈u.ns ↔ q∈nmA u.E\/q∈nmA u.Ms\/q∈nmA u.W\/q∈nmA u.S:=by
 unfold UN.ns;simp only[List.mem_append,or_assoc]
theorem UI.setv {uo:Nat}{H:Heap}{u:UN}(h:UI uo H u){v s:Nat}{i o:AV}(hv:v+u.eqs.length+u.ms.length+u.ws.length+u.sp.length+s<1000000) :
  UI uo (am H uo (.cells ({ u with vars:=v,size:=s,I:=i,O:=o }:UN).c)) { u with vars:=v,size:=s,I:=i,O:=o }:=by
 have hl:aa H<=aa (am H uo (.cells ({ u with vars:=v,size:=s,I:=i,O:=o }:UN).c)):=by rw[ay];exact Nat.le_refl _
 have hf:∀ q,uo<q->ae (am H uo (.cells ({ u with vars:=v,size:=s,I:=i,O:=o }:UN).c)) q=ae H q:=λq hq=>af (by omega) _
 exact ⟨aF h.ob _,h.e.mono hl (λq hq _=>hf q (h.e.lt q hq).1),h.el,h.m.mono hl (λq hq _=>hf q (h.m.lt q hq).1),h.w.mono hl (λq hq _=>hf q (h.w.lt q hq).1),h.s.mono hl (λq hq _=>hf q (h.s.lt q hq).1),h.dj,hv⟩
theorem Gr.put {uo:Nat}{H:Heap}{ns:List Nat}(o:AObj):Gr uo H ns (am H uo o) ns :=
 ⟨by rw[ay];exact Nat.le_refl _,λq _ hq _=>af hq _,λ_ h=>.inl h⟩
theorem KJ {H:Heap}{bo uo:Nat}{u:UN}{LV:AV}(hU:UI uo H u)(hb:ae H bo=some (.cells [.ptr uo 0,LV])):bo≠uo:=by
 intro h;rw[h,hU.ob] at hb;simp at hb
section
variable {M:Memo}
theorem rY (m:ga M){bo uo:Nat}{LV:AV}{H:Heap}{u:UN}(hU:UI uo H u)(hb:ae H bo=some (.cells [.ptr uo 0,LV]))(hv:u.vars+u.eqs.length+u.ms.length+u.ws.length+u.sp.length+u.size+1<1000000) :
  ∃ H1,orc CC M 80 [.ptr bo 0] H=some (.ret (.int .i64 (u.vars:Int)) H1 (aa H))/\UI uo H1 { u with vars:=u.vars+1 }/\Gr uo H u.ns H1 u.ns/\aa H1=aa H :=
 ⟨_,sv m (by omega) hb hU.ob,hU.setv (v:=u.vars+1) (s:=u.size) (by omega),Gr.put _,ay _ _ _⟩
theorem zg (op:List Nat)(v:Int)(xs:List AV)(lin:Lin){on:AV}(h:mo on):ao CC 142 [(0,.str op),(1,.int .i64 v),(2,.sl 3 xs lin),(3,on)]=some (.agg [.str op,.int .i64 v,.sl 3 xs lin,on]):=by
 rcases h with rfl|rfl<;>kernel_rfl
theorem yZ (op:List Nat)(v:Int)(xs:List AV)(lin:Lin){on:AV}(h:mo on):aM CC 83 1 [(0,.agg [.str op,.int .i64 v,.sl 3 xs lin,on])]=some (.sl 4 [.agg [.str op,.int .i64 v,.sl 3 xs lin,on]] .lit):=by
 rcases h with rfl|rfl<;>kernel_rfl
theorem Bd (v:Int):ao CC 93 [(2,.int .i64 v)]=some (.agg [.bool false,.int .i64 0,.int .i64 v]):=by kernel_rfl
theorem UI.addE {uo:Nat}{H:Heap}{u:UN}(h:UI uo H u)(f:Nat)(q:EqF)(hq:q.ok (aa H))(hv:u.vars+u.eqs.length+u.ms.length+u.ws.length+u.sp.length+u.size+1<1000000) :
  ∃ V' H2,(∀ e lin,aq CC f 83 u.E (.sl 4 [q.av] lin) ⟨H,e⟩=some (V',⟨H2,e⟩))/\ae H2 uo=some (.cells u.c)/\aa H<=aa H2/\(∀ r,r<aa H->r∉nmA u.E->ae H2 r=ae H r) /\
    (∀ b,uo<=b->ar 1 (.ptr uo 5) V' ⟨H2,b⟩=some ⟨am H2 uo (.cells ({ u with eqs:=u.eqs++[q],E:=V' }:UN).c),uo⟩) /\
    UI uo (am H2 uo (.cells ({ u with eqs:=u.eqs++[q],E:=V' }:UN).c)) { u with eqs:=u.eqs++[q],E:=V' }/\Gr uo H u.ns (am H2 uo (.cells ({ u with eqs:=u.eqs++[q],E:=V' }:UN).c)) ({ u with eqs:=u.eqs++[q],E:=V' }:UN).ns:=by
 obtain ⟨V',H2,a1,a2,a3,a4,a5⟩:=jF sl83 f h.e (I4 q hq.1) (rh hq) (by rw[List.length_map];omega) h.uo
 have hu2:ae H2 uo=some (.cells u.c):=by rw[a4 uo h.uo (λhm=>by have:=(h.e.lt _ hm).1;omega),h.ob]
 have hE' : ({ u with eqs:=u.eqs++[q],E:=V' }:UN).eqs.map EqF.av=u.eqs.map EqF.av++[q.av]:=by simp
 have st:=λb hb=>m6 (b:=b) (off:=5) a2 (by simp) hu2 (by rw[ai];simp) hb
 have hl:aa H<=aa (am H2 uo (.cells ({ u with eqs:=u.eqs++[q],E:=V' }:UN).c)):=by rw[ay];exact a3
 have hf:∀ r,r<aa H->uo<r->r∉nmA u.E->ae (am H2 uo (.cells ({ u with eqs:=u.eqs++[q],E:=V' }:UN).c)) r=ae H r:=λr hr hu hn=>by rw[af (by omega),a4 r hr hn]
 have djm:∀ r∈nmA u.Ms,r∉nmA u.E:=λr hr hn=>(h.dj.1 r hn).1 hr
 have djw:∀ r∈nmA u.W,r∉nmA u.E:=λr hr hn=>(h.dj.1 r hn).2.1 hr
 have djs:∀ r∈nmA u.S,r∉nmA u.E:=λr hr hn=>(h.dj.1 r hn).2.2 hr
 have hnew:∀ r∈nmA V',∀ V:AV,(∀ r∈nmA V,r∉nmA u.E/\r<aa H)->r∉nmA V:=λr hr V hV hn=>by
  rcases a5 r hr with h1|h1
  ·exact (hV r hn).1 h1
  ·have:=(hV r hn).2;omega
 refine ⟨V',H2,a1,hu2,a3,a4,λb hb=>st b hb,⟨aF hu2 _,?_,?_,h.m.mono hl (λr hr hlt=>hf r hlt (h.m.lt r hr).1 (djm r hr)),h.w.mono hl (λr hr hlt=>hf r hlt (h.w.lt r hr).1 (djw r hr)),h.s.mono hl (λr hr hlt=>hf r hlt (h.s.lt r hr).1 (djs r hr)),⟨λr hr=>⟨?_,?_,?_⟩,h.dj.2.1,h.dj.2.2⟩,?_⟩,⟨hl,λr hr hne hn=>?_,λr hr=>?_⟩⟩
 ·rw[hE'];exact a2.mono (by rw[ay];exact Nat.le_refl _) (λr hr _=>af (by have:=(a2.lt r hr).1;omega) _)
 ·intro r hr
  rcases List.mem_append.1 hr with hr|hr
  ·exact h.el r hr
  ·simp only[List.mem_singleton] at hr;subst hr;exact hq.1
 ·exact hnew r hr u.Ms (λr hr=>⟨djm r hr,(h.m.lt r hr).2⟩)
 ·exact hnew r hr u.W (λr hr=>⟨djw r hr,(h.w.lt r hr).2⟩)
 ·exact hnew r hr u.S (λr hr=>⟨djs r hr,(h.s.lt r hr).2⟩)
 ·simp only[List.length_append,List.length_singleton];omega
 ·rw[af hne,a4 r hr (λhm=>hn (bT.2 (.inl hm)))]
 ·rcases bT.1 hr with h1|h1
  ·exact (a5 r h1).imp (λh2=>bT.2 (.inl h2)) id
  ·exact .inl (bT.2 (.inr h1))
theorem kK (a b c d e f g h i j:AV):ae [a,b,c,d,e,f,g,h,i,j] 5=some f:=rfl
theorem OT (m:ga M){bo uo:Nat}{LV:AV}{H:Heap}{u:UN}(hU:UI uo H u)(hb:ae H bo=some (.cells [.ptr uo 0,LV]))(hbn:bo∉u.ns)(hv:u.vars+u.eqs.length+u.ms.length+u.ws.length+u.sp.length+u.size+2<1000000)
  (op:List Nat) (A:List AtF) {lin:Lin} {on:AV} (hon:mo on) (hlin:lin.low (aa H)=true) :
  ∃ H' E',orc CC M 180 [.ptr bo 0,.str op,on,.sl 3 (A.map AtF.av) lin] H=some (.ret (AtF.av ⟨false,0,u.vars⟩) H' uo) /\
    UI uo H' { u with vars:=u.vars+1,eqs:=u.eqs++[⟨op,u.vars,A,lin,on⟩],E:=E' }/\Gr uo H u.ns H' ({ u with vars:=u.vars+1,eqs:=u.eqs++[⟨op,u.vars,A,lin,on⟩],E:=E' }:UN).ns:=by
 have hbu:=KJ hU hb;have hlb:bo<aa H:=by rw[ai];exact bj hb
 obtain ⟨H1,hP,U1,G1,hl1⟩:=rY m (H:=H++[.cells [.bool false,.int .i64 0,.int .i64 0]]) hU.ap (au hb _) (by omega)
 have hl0:aa (H++[AObj.cells [.bool false,.int .i64 0,.int .i64 0]])=aa H+1:=by rw[az];rfl
 rw[hl0] at hl1;have hb1:ae H1 bo=some (.cells [.ptr uo 0,LV]):=by rw[G1.fr bo (by omega) hbu hbn];exact au hb _
 have hz1:ae H1 (aa H)=some (.cells [.bool false,.int .i64 0,.int .i64 0]):=by
  rw[G1.fr (aa H) (by omega) (by have:=hU.uo;omega) (λhm=>by have:=(hU.lt _ hm).2;omega),an];rfl
 obtain ⟨V',H2,ha,hu2,hl2,hf2,hst,U3,G3⟩:=U1.addE 180 ⟨op,u.vars,A,lin,on⟩ ⟨hon,Lin.low_mono (by omega) _ hlin⟩ (by show u.vars+1+u.eqs.length+u.ms.length+u.ws.length+u.sp.length+u.size+1<1000000;omega)
 have hb2:ae H2 bo=some (.cells [.ptr uo 0,LV]):=by rw[hf2 bo (by omega) (λhm=>hbn (bT.2 (.inl hm))),hb1]
 have hst':=hst (min (aa H) (aa H+1)) (by have:=hU.uo;omega)
 have hmm:min (aa H) (aa H+1)=aa H:=Nat.min_eq_left (by omega)
 rw[hmm] at hst';have hz3:=G3.fr (aa H) (by omega) (by have:=hU.uo;omega) (λhm=>by have:=(hU.lt _ hm).2;omega)
 rw[hz1] at hz3;have hE:=U1.ob;generalize hH3:am H2 uo (.cells ({ ({ u with vars:=u.vars+1 }:UN) with eqs:=({ u with vars:=u.vars+1 }:UN).eqs++[⟨op,u.vars,A,lin,on⟩],E:=V' }:UN).c)=H3 at hst' U3 G3 hz3
 have hl3:aa H3=aa H2:=by rw[<-hH3,ay]
 refine ⟨am H3 (aa H) (.cells [.bool false,.int .i64 0,.int .i64 (u.vars:Int)]),V',aJ (z:=z180) (m _ _ rfl) (by kernel_rfl) rfl ?_,U3.to (by rw[ay];exact Nat.le_refl _) (λq hq hn=>af ?_ _),?_⟩
 ·have e0:(envOf [.ptr bo 0,.str op,on,.sl 3 (A.map AtF.av) lin] 0 env0).a.a.a=.ptr bo 0:=rfl;have e1:(envOf [.ptr bo 0,.str op,on,.sl 3 (A.map AtF.av) lin] 0 env0).a.a.b=.str op:=rfl;have e2:(envOf [.ptr bo 0,.str op,on,.sl 3 (A.map AtF.av) lin] 0 env0).a.a.c=on:=rfl;have e3:(envOf [.ptr bo 0,.str op,on,.sl 3 (A.map AtF.av) lin] 0 env0).a.a.d=.sl 3 (A.map AtF.av) lin:=rfl;generalize envOf [.ptr bo 0,.str op,on,.sl 3 (A.map AtF.av) lin] 0 env0=R at e0 e1 e2 e3;have hsm:AV.same (.ptr uo 0) (.ptr uo 0)=true:=by simp[AV.same]
  have h142:=λv=>zg op v (A.map AtF.av) lin hon
  have h83:=λv=>yZ op v (A.map AtF.av) lin hon
  have hgc:=λhp=>dL (keep:=CC.keep 180) (base:=aa H) (e:=uo) (v:=AtF.av ⟨false,0,u.vars⟩) (hp:=hp) (by have:=hU.uo;omega)
  have hzs:=λc=>aF hz3 c
  simp only[z180,CX,Dv,HR,C3,SIM,ST0,ST1,e0,e1,e2,e3,hP,hl0,hmm,hb1,hE,hb2,kK,h142,h83,ha,hsm,hst',Bd,hz3,hzs,hgc,Nat.reduceAdd,Nat.reduceLeDiff]
 ·rintro rfl
  rcases hn with h1|h1
  ·have:=hU.uo;omega
  ·rcases G3.ns _ h1 with h2|h2
   ·have:=(hU.lt _ h2).2;omega
   ·omega
 ·have G4:Gr uo H u.ns H3 _:=(Gr.ap.trans G1).trans G3;refine ⟨by rw[ay];exact G4.len,λq hq hu hn=>?_,G4.ns⟩
  rw[af (by omega),G4.fr q hq hu hn]
end
def Ug (T k:Nat):Prop:=∃ e i z,bK CC T=some e/\CC.P.info? e=some i/\cj CC e=some z/\i.size=k/\1<k/\(0<i.bytes/\i.bytes<=65536)/\z.cells.length=k/\∀ f,CC.mutT f T=true
theorem wZ {T k:Nat}(h:NP T=some (k,true,k))(hk:1<k)(hm:∀ f,CC.mutT f T=true):Ug T k:=by
 unfold NP at h
 split at h
 ·rename_i e he
  split at h
  ·rename_i i z hi hz;simp only[SJ,PJ,decide_eq_true_eq] at h;exact ⟨e,i,z,he,hi,hz,h.1,hk,h.2.1,h.2.2,hm⟩
  ·cases h
 ·cases h
theorem rs84:Ug 84 6:=wZ (by kernel_rfl) (by decide) (λf=>rfl)
theorem rs86:Ug 86 4:=wZ (by kernel_rfl) (by decide) (λf=>rfl)
theorem Il {k:Nat}{cs:List AV}(hk:1<k)(hl:cs.length=k):bQ k 1 cs=[.agg cs]:=by
 simp only[bQ];rw[if_neg (by omega),<-hl,List.take_length]
theorem xr {T k:Nat}(hT:Ug T k)(f:Nat){uo b:Nat}{H:Heap}{V:AV}{cells cs:List AV}(h:RsI uo H k V cells)(hb:ae H b=some (.cells cs))(hc:cs.length=k)(ho:cs.all AV.one=true)(hw:aG (aa H) cs=true)(hl:cells.length+k<=2 ^ 20)(hu:uo<aa H)(hbn:b∉nmA V) :
  ∃ V' H',(∀ e,aq CC f T V (.rsl b 0 1 1 k) ⟨H,e⟩=some (V',⟨H',e⟩))/\RsI uo H' k V' (cells++cs)/\(∃ n,V'=.rsl (aa H) 0 n n k/\(cells++cs).length=n*k)/\aa H'=aa H+1/\(∀ q,q<aa H->q∉nmA V->ae H' q=ae H q)/\(∀ q∈nmA V',q∈nmA V\/aa H<=q):=by
 obtain ⟨el,i,z,h1,h2,h3,h4,h5,h6,h7,h8⟩:=hT;rw[aB] at hb
 have hel:aY k (.rsl b 0 1 1 k) H=some [.agg cs]:=by
  simp only[aY,hb];rw[if_pos ⟨by omega,trivial,ho⟩,List.drop_zero,Il h5 hc]
 have hok:[AV.agg cs].all (bi k)=true:=by
  simp[bi,AV.cells,hc];exact List.all_eq_true.1 ho
 have hcs:aG H.length [.agg cs]=true:=by rw[<-ai];simp[aG,AV.low,hw]
 rcases h with ⟨rfl,rfl⟩|⟨id,n,rfl,hn0,hg,hln,hone,hlow,hui⟩
 ·refine ⟨.rsl (aa H) 0 1 1 k,H++[.cells cs],λe=>?_,.inr ⟨aa H,1,rfl,by omega,by rw[an];rfl,by simpa using hc,ho,bO (by rw[az];omega) _ hw,hu⟩,⟨1,rfl,by simpa using hc⟩,by rw[az];rfl,λq hq _=>?_,λq hq=>?_⟩
  ·have hne:¬ (i.size=0\/i.bytes=0\/z.cells.length≠i.size\/[AV.agg cs].all (bi i.size)=false\/2 ^ 16<i.bytes):=by
    rw[h4,hok,h7];simp;omega
   have hel0:aY k .nils H=some []:=rfl;simp only[aq,h1,h2,h3,h4,hel,hel0];rw[h4] at hne;rw[if_neg hne];have hlow0:aG H.length []=true:=rfl;simp[h8,ai,hlow0,hcs,ak,AV.cells]
  ·rw[ai] at hq;rw[aB,aB,List.getElem?_append_left hq]
  ·simp only[nmA,List.mem_singleton] at hq;exact .inr (by omega)
 ·have hid:id<aa H:=by rw[ai];exact bj hg
  rw[aB] at hg;have hch:=dZ (sz:=k) (n:=n) (cs:=cells) (by omega) (by omega) hone
  have hft:ak (bQ k n cells)=cells:=by rw[hch.1,<-hln,List.take_length]
  have hel0:aY k (.rsl id 0 n n k) H=some (bQ k n cells):=by
   simp only[aY,hg];rw[if_pos ⟨by omega,trivial,hone⟩,List.drop_zero]
  refine ⟨.rsl (aa H) 0 (n+1) (n+1) k,am H id .gone++[.cells (cells++cs)],λe=>?_,.inr ⟨aa H,n+1,rfl,by omega,?_,?_,?_,?_,hu⟩,⟨n+1,rfl,?_⟩,by rw[az,ay];rfl,λq hq hn=>?_,λq hq=>?_⟩
  ·have hne:¬ (i.size=0\/i.bytes=0\/z.cells.length≠i.size\/[AV.agg cs].all (bi i.size)=false\/2 ^ 16<i.bytes):=by
    rw[h4,hok,h7];simp;omega
   have hl2:(bQ k n cells).length+1<=2 ^ 24:=by
    rw[hch.2];have:n*1<=n*k:=Nat.mul_le_mul_left _ (by omega)
    omega
   have hlc:aG H.length (bQ k n cells)=true:=by
    have:∀ (m:Nat) (c:List AV),aG H.length c=true->m*k<=c.length->aG H.length (bQ k m c)=true:=by
     intro m
     induction m with
     | zero=>intro c _ _;rfl
     | succ m ih =>
       intro c hcl hm;simp only[bQ];rw[if_neg (by omega)]
       have hsp:c=c.take k++c.drop k:=(List.take_append_drop k c).symm
       have hap:∀ a b:List AV,aG H.length (a++b)=true->aG H.length a=true/\aG H.length b=true:=by
        intro a
        induction a with
        | nil=>intro b hb;exact ⟨rfl,hb⟩
        | cons x a iha =>
          intro b hb;simp only[List.cons_append,aG,Bool.and_eq_true] at hb ⊢;exact ⟨⟨hb.1,(iha b hb.2).1⟩,(iha b hb.2).2⟩
       rw[hsp] at hcl;have h9:=hap _ _ hcl;simp only[aG,AV.low,h9.1,Bool.true_and];exact ih _ h9.2 (by rw[List.length_drop,Nat.add_one_mul] at *;omega)
    exact this n cells (by rw[<-ai];exact hlow) (by omega)
   simp only[aq,h1,h2,h3,h4,hel,hel0];rw[h4] at hne;rw[if_neg hne];have:ak [.agg cs]=cs:=by simp[ak,AV.cells]
   simp[hl2,hlc,hcs,cY,hft,this,ai,aR]
  ·rw[<-ay H id .gone,an];rfl
  ·rw[List.length_append,hln,hc,Nat.add_one_mul]
  ·rw[List.all_append,hone,ho];rfl
  ·have hap:∀ (L:Nat) (a b:List AV),aG L a=true->aG L b=true->aG L (a++b)=true:=by
    intro L a
    induction a with
    | nil=>intro b _ hb;exact hb
    | cons x a iha =>
      intro b ha hb;simp only[List.cons_append,aG,Bool.and_eq_true] at ha ⊢;exact ⟨ha.1,iha b ha.2 hb⟩
   have hle:aa H<=aa (am H id .gone++[AObj.cells (cells++cs)]):=by rw[az,ay];omega
   exact hap _ _ _ (bO hle _ hlow) (bO hle _ hw)
  ·rw[List.length_append,hln,hc,Nat.add_one_mul]
  ·rw[ai] at hq;simp only[nmA,List.mem_singleton] at hn;rw[aB,aB,aR,List.getElem?_append_left (by simpa using hq),List.getElem?_set_ne (Ne.symm hn)]
  ·simp only[nmA,List.mem_singleton] at hq;exact .inr (by omega)
theorem lP {uo off b k r n:Nat}{H:Heap}{cs:List AV}(hr:r<aa H)(hu:uo<r)(hcs:ae H uo=some (.cells cs))(ho:off+1<=aa cs)(hb:uo<=b) :
  ar 1 (.ptr uo off) (.rsl r 0 n n k) ⟨H,b⟩=some ⟨am H uo (.cells (db cs off [.rsl r 0 n n k])),uo⟩:=by
 have low:∀ L,AV.low L (.rsl r 0 n n k)=decide (r<L):=λL=>by simp[AV.low]
 have e1:eK (aa H) (.rsl r 0 n n k)=true:=by rw[bY,low];simpa using hr
 have e2:eK (uo+1) (.rsl r 0 n n k)=false:=by rw[bY,low];simp;omega
 have e3:Nat.ble (Nat.add off 1) (aa cs)=true:=by rw[dW];simpa using ho
 have e4:min b uo=uo:=Nat.min_eq_right hb;have e5:Nat.beq (aa [AV.rsl r 0 n n k]) 1=true:=rfl;have e6:List.all [AV.rsl r 0 n n k] AV.one=true:=rfl;have e7:AV.cells (.rsl r 0 n n k)=[.rsl r 0 n n k]:=rfl;simp only[ar,hcs,eM,e1,e3,e5,e6,e7,Bool.and_self,cond_true,gV,e2,cond_false,e4]
theorem UI.addM {uo b:Nat}{H:Heap}{u:UN}(h:UI uo H u)(f:Nat){cs:List AV}(hb:ae H b=some (.cells cs))(hc:cs.length=6)(ho:cs.all AV.one=true)(hw:aG (aa H) cs=true)(hbn:b∉nmA u.Ms)(hv:u.vars+u.eqs.length+u.ms.length+u.ws.length+u.sp.length+u.size+6<1000000) :
  ∃ n H2,(∀ e,aq CC f 84 u.Ms (.rsl b 0 1 1 6) ⟨H,e⟩=some (.rsl (aa H) 0 n n 6,⟨H2,e⟩))/\(u.ms++cs).length=n*6/\ae H2 uo=some (.cells u.c)/\aa H2=aa H+1/\(∀ r,r<aa H->r∉nmA u.Ms->ae H2 r=ae H r) /\
    (∀ b,uo<=b->ar 1 (.ptr uo 6) (.rsl (aa H) 0 n n 6) ⟨H2,b⟩=some ⟨am H2 uo (.cells ({ u with ms:=u.ms++cs,Ms:=.rsl (aa H) 0 n n 6 }:UN).c),uo⟩) /\
    UI uo (am H2 uo (.cells ({ u with ms:=u.ms++cs,Ms:=.rsl (aa H) 0 n n 6 }:UN).c)) { u with ms:=u.ms++cs,Ms:=.rsl (aa H) 0 n n 6 } /\
    Gr uo H u.ns (am H2 uo (.cells ({ u with ms:=u.ms++cs,Ms:=.rsl (aa H) 0 n n 6 }:UN).c)) ({ u with ms:=u.ms++cs,Ms:=.rsl (aa H) 0 n n 6 }:UN).ns:=by
 obtain ⟨V',H2,a1,a2,⟨n,rfl,hn⟩,a3,a4,a5⟩:=xr rs84 f h.m hb hc ho hw (by have:=h.vl;omega) h.uo hbn
 have hu2:ae H2 uo=some (.cells u.c):=by rw[a4 uo h.uo (λhm=>by have:=(h.m.lt _ hm).1;omega),h.ob]
 have st:=λb hb=>lP (k:=6) (r:=aa H) (n:=n) (b:=b) (off:=6) (H:=H2) (by omega) h.uo hu2 (by rw[ai];simp) hb
 have hl:aa H<=aa (am H2 uo (.cells ({ u with ms:=u.ms++cs,Ms:=.rsl (aa H) 0 n n 6 }:UN).c)):=by rw[ay];omega
 have hf:∀ r,r<aa H->uo<r->r∉nmA u.Ms->ae (am H2 uo (.cells ({ u with ms:=u.ms++cs,Ms:=.rsl (aa H) 0 n n 6 }:UN).c)) r=ae H r:=λr hr hu hn=>by rw[af (by omega),a4 r hr hn]
 have hlt:=h.lt;have nE:∀ r∈nmA u.E,r∉nmA u.Ms:=λr hr=>(h.dj.1 r hr).1
 have nW:∀ r∈nmA u.W,r∉nmA u.Ms:=λr hr hn=>(h.dj.2.1 r hn).1 hr
 have nS:∀ r∈nmA u.S,r∉nmA u.Ms:=λr hr hn=>(h.dj.2.1 r hn).2 hr
 refine ⟨n,H2,a1,hn,hu2,a3,a4,λb hb=>st b hb,⟨aF hu2 _,h.e.mono hl (λr hr hlt=>hf r hlt (h.e.lt r hr).1 (nE r hr)),h.el,?_,h.w.mono hl (λr hr hlt=>hf r hlt (h.w.lt r hr).1 (nW r hr)),h.s.mono hl (λr hr hlt=>hf r hlt (h.s.lt r hr).1 (nS r hr)),⟨λr hr=>⟨?_,(h.dj.1 r hr).2⟩,λr hr=>⟨λhn=>?_,λhn=>?_⟩,h.dj.2.2⟩,?_⟩,⟨hl,λr hr hne hn=>?_,λr hr=>?_⟩⟩
 ·exact a2.mono (by rw[ay];exact Nat.le_refl _) (λr hr _=>af (by have:=(a2.lt r hr).1;omega) _)
 ·simp only[nmA,List.mem_singleton];have:=(h.e.lt r hr).2;omega
 ·simp only[nmA,List.mem_singleton] at hr;have:=(h.w.lt r hn).2;omega
 ·simp only[nmA,List.mem_singleton] at hr;have:=(h.s.lt r hn).2;omega
 ·simp only[List.length_append,hc];omega
 ·rw[af hne,a4 r hr (λhm=>hn (bT.2 (.inr (.inl hm))))]
 ·rcases bT.1 hr with h1|h1|h1
  ·exact .inl (bT.2 (.inl h1))
  ·simp only[nmA,List.mem_singleton] at h1;exact .inr (by omega)
  ·exact .inl (bT.2 (.inr (.inr h1)))
section
variable {M:Memo}
end
theorem cc33:∃ e,CC.P.underlying 33=some (.slice e)/\e=61:=⟨_,by kernel_rfl,rfl⟩
theorem vg (L:List NdR)(q:Lin):aO CC 33 (.sl 6 (L.map NdR.v) q)=some (.int .i64 (L.length:Int)):=by
 obtain ⟨e,hu,_⟩:=cc33;rw[cO hu,List.length_map]
theorem ul {L:List NdR}{i:Nat}{a:NdR}(q:Lin)(h:L[i]?=some a):aL 6 (.sl 6 (L.map NdR.v) q) (.int .i64 (i:Int))=some (.iptr (zS a.s a.p a.ins a.outs a.vars (oZ a.eqs))):=by
 refine bN (v:=a.v) ?_;rw[aB,List.getElem?_map,h];rfl
abbrev zN:List AV:=[.str [],.int .i64 0,.nils,.nils,.nils,.nils]
theorem gR (d:NdR):gK d.v=true:=by simp only[fg,br,noNL_nil,iC,linN_dead,eq_noN,jN,ig,il,cond_true]
theorem kO (d:NdR):(zS d.s d.p d.ins d.outs d.vars (oZ d.eqs)).all AV.one=true:=by
 simp only[List.all_cons,List.all_nil,lz,gI,g9,mF,Bool.and_self]
def dt (nm:List Nat):List NdR->Option NdR
 | []=>none
 | d::l=>cond (strEq d.s nm) (some d) (dt nm l)
def Zh (H:Heap)(o:Option NdR)(X:IRes):Prop:=match o with
 | none=>∃ r' G,X=some (.exit 0,r',[],⟨H++[.cells zN]++G,aa H⟩)/\r'.a.a.e=.ptr (aa H) 0
 | some d=>∃ r' G,X=some (.ret,r',[],⟨H++[dq d]++G,aa H⟩)/\r'.a.a.e=.ptr (aa H) 0/\r'.a.a.f=.bool true
section
variable {M:Memo}
theorem Bl {H:Heap}{nm:List Nat}{L:List NdR}{q:Lin}(hL:L.length<=90000):∀ (d i:Nat),d+i=L.length->∀ (fu:Nat),d<fu->∀ (G:Heap) (r:RG),
  (r.a.a.b=.str nm/\r.a.a.e=.ptr (aa H) 0/\r.a.b.a=.sl 6 (L.map NdR.v) q/\r.a.b.b=.int .i64 (L.length:Int)/\r.a.b.c=.int .i64 (i:Int)) ->
  Zh H (dt nm (L.drop i)) (ax (pH (orc CC M)) fu r [] ⟨H++[.cells zN]++G,aa H⟩):=by
 intro d
 induction d with
 | zero =>
   intro i hi fu hfu G r ⟨h1,h4,h8,h9,h10⟩;obtain ⟨fu',rfl⟩ : ∃ f,fu=f+1:=⟨fu-1,by omega⟩
   have:i=L.length:=by omega
   subst this;have hc:decide ((L.length:Int)<(L.length:Int))=false:=by simp
   rw[List.drop_length];simp only[ax,pH,y9,SIM,ST0,h9,h10,hc];exact ⟨_,G,rfl,by first|rfl|exact h4⟩
 | succ d ih =>
   intro i hi fu hfu G r ⟨h1,h4,h8,h9,h10⟩;obtain ⟨fu',rfl⟩ : ∃ f,fu=f+1:=⟨fu-1,by omega⟩
   have hlt:i<L.length:=by omega
   have hc:decide ((i:Int)<(L.length:Int))=true:=by simp;omega
   have hd:L.drop i=L[i]::L.drop (i+1):=List.drop_eq_getElem_cons hlt;have hg:L[i]?=some L[i]:=by simp[hlt]
   generalize L[i]=a at hg hd;rw[hd];have hat:=ul q hg;have ha:bR (i:Int) 1=((i+1:Nat):Int):=aZ i 1 (by unfold natMax;omega)
   have hn1:=gR a;have ho1:=kO a
   have hset:∀ K c,am (H++[.cells zN]++G++K) (aa H) c=H++[c]++(G++K):=λK c=>by
    rw[List.append_assoc,List.append_assoc,bJ];rw[List.append_assoc];rfl
   have hget:∀ K,ae (H++[.cells zN]++G++K) (aa H)=some (.cells zN):=λK=>by
    rw[List.append_assoc,List.append_assoc,an];rfl
   cases hs:strEq a.s nm with
   | true =>
     simp only[dt,hs,cond_true];generalize hHc:H++[.cells zN]++G=Hc at *;simp only[ax,pH,y9,DK,Dt,HY,SIM,ST0,ST1,h1,h4,h8,h9,h10,hc,hat,hs,hget,hset,hn1,ho1,DZS,Nat.reduceAdd,Nat.reduceLeDiff];exact ⟨_,_,rfl,by first|rfl|exact h4,rfl⟩
   | false =>
     simp only[dt,hs,cond_false];have key:=ih (i+1) (by omega) fu' (by omega) (G++[dq a])
     rw[<-List.append_assoc] at key;generalize hHc:H++[.cells zN]++G=Hc at *;simp only[ax,pH,y9,DK,Dt,HY,ME,SIM,ST0,ST1,h1,h4,h8,h9,h10,hc,hat,hs,ha,hn1,ho1,DZS,Nat.reduceAdd,Nat.reduceLeDiff];exact key _ ⟨by first|rfl|exact h1,by first|rfl|exact h4,by first|rfl|exact h8,by first|rfl|exact h9,rfl⟩
theorem q7 (m:ga M){L:List NdR}{q:Lin}(hL:L.length<=90000){nm:List Nat}{d:NdR}(h:dt nm L=some d)(H:Heap):orc CC M 55 [.sl 6 (L.map NdR.v) q,.str nm] H=some (.ret (.tuple [d.v,.bool true]) H (aa H)):=by
 have lp:=Bl (M:=M) (H:=H) (nm:=nm) (q:=q) hL L.length 0 rfl 100000 (by omega) []
 rw[List.append_nil,List.drop_zero,h] at lp;refine aJ (z:=z55) (m _ _ rfl) (by kernel_rfl) rfl ?_
 have e0:(envOf [.sl 6 (L.map NdR.v) q,.str nm] 0 env0).a.a.a=.sl 6 (L.map NdR.v) q:=rfl;have e1:(envOf [.sl 6 (L.map NdR.v) q,.str nm] 0 env0).a.a.b=.str nm:=rfl;generalize envOf [.sl 6 (L.map NdR.v) q,.str nm] 0 env0=R at e0 e1
 obtain ⟨r0,hr0,hpre⟩ : ∃ r,(r.a.a.b=.str nm/\r.a.a.e=.ptr (aa H) 0/\r.a.b.a=.sl 6 (L.map NdR.v) q/\r.a.b.b=.int .i64 (L.length:Int)/\r.a.b.c=.int .i64 ((0:Nat):Int)) /\
   z55.sh (orc CC M) R [] ⟨H,aa H⟩=dI (ac (Nu (orc CC M)) retZ) (c9 0 (ax (pH (orc CC M)) 100000 r [] ⟨H++[.cells zN],aa H⟩)):=by
  have hln:=vg L q;simp only[z55,KL,MB,SIM,ST0,e0,e1,hln,Nat.reduceAdd,Nat.reduceLeDiff];exact ⟨_,⟨by first|rfl|exact e1,rfl,rfl,rfl,rfl⟩,rfl⟩
 obtain ⟨r',G,h1,h4,h5⟩:=lp r0 hr0;rw[hpre,h1];have hg:ae (H++[dq d]++G) (aa H)=some (dq d):=by rw[List.append_assoc,an];rfl
 have ht:bg (aa H) (H++[dq d]++G)=H:=by rw[List.append_assoc,bP]
 have hnn:gK (.tuple [d.v,.bool true])=true:=by
  show dp [d.v,.bool true]=true;simp only[br,noNL_nil,gR,iU,cond_true]
 have hgc:=dC (k:=CC.keep 55) (b:=aa H) (v:=.tuple [d.v,.bool true]) (hp:=H++[dq d]++G) hnn;rw[ht] at hgc;generalize H++[dq d]++G=Hc at *;simp only[z55,SIM,ST0,h4,h5,hg,hgc,Nat.reduceAdd,Nat.reduceLeDiff]
abbrev uO (u:UN)(s:Nat):AObj:=.cells (TJ u.nd u.at_ u.vars u.I u.O u.E u.Ms u.W u.S s)
theorem Mj (a b c d e f g h i j:AV):ae [a,b,c,d,e,f,g,h,i,j] 9=some j:=rfl
theorem VB (a b c d e f g h i j v:AV):db [a,b,c,d,e,f,g,h,i,j] 9 [v]=[a,b,c,d,e,f,g,h,i,v]:=rfl
theorem XO (a b c d e f g h i j v:AV):am [a,b,c,d,e,f,g,h,i,j] 9 v=[a,b,c,d,e,f,g,h,i,v]:=rfl
theorem kB (e:Ex)(L:Nat):dV e.v L=some (dv e,(.ptr · 0)):=by
 have h1:e.v.low L=true:=(fS _ (ex_noN e)).2 L;unfold dV
 have h2:(AV.cells e.v).all AV.one=true:=by
  rw[ox];simp only[List.all_cons,List.all_nil,uu,gI,g9,j3,Bool.and_self]
 rw[if_pos ⟨h2,h1⟩,ox]
theorem Dm (m:ga M){xo bo uo:Nat}{LV:AV}{u:UN}{s:Nat}(hs:s<1000000){H:Heap}(hx:ae H xo=some (.cells [.ptr bo 0]))(hb:ae H bo=some (.cells [.ptr uo 0,LV]))(hu:ae H uo=some (uO u s))(e:Ex) :
  orc CC M 115 [e.v,.ptr xo 0] H=some (.ret Abs.undef (am H uo (uO u (s+1))) (aa H)):=by
 have hbx:=kB e;refine aJ (z:=z115) (m _ _ rfl) (by kernel_rfl) rfl ?_
 have e0:(envOf [e.v,.ptr xo 0] 0 env0).a.a.a=e.v:=rfl;have e1:(envOf [e.v,.ptr xo 0] 0 env0).a.a.b=.ptr xo 0:=rfl;generalize envOf [e.v,.ptr xo 0] 0 env0=R at e0 e1;have ha:bR (s:Int) 1=((s+1:Nat):Int):=aZ s 1 (by unfold natMax;omega)
 have hset:∀ c K,am (H++K) uo c=am H uo c++K:=λc K=>cm hu K c
 have ht:∀ c K,bg (aa H) (am H uo c++K)=am H uo c:=λc K=>by
  have:=bP (am H uo c) K
  rwa [ay] at this
 have hgc:=λ(K:Heap) c=>dC (k:=CC.keep 115) (b:=aa H) (v:=Abs.undef) (hp:=am H uo c++K) rfl
 simp only[ht] at hgc;simp only[z115,Fq,ER,SIM,ST0,e0,e1,hbx,au hx,au hb,au hu,Mj,VB,XO,ha,hset,hgc,Nat.reduceAdd,Nat.reduceLeDiff]
def YZ (H:Heap)(e:Ex)(uo:Nat)(o:AObj)(X:IRes):Prop:=∃ r' G,X=some (.exit 0,r',[],⟨am H uo o++[dv e]++G,aa H⟩)
theorem Bw (m:ga M){H:Heap}{e:Ex}{xo bo uo:Nat}{LV:AV}{u:UN}(hxl:xo<aa H)(hbl:bo<aa H)(hul:uo<aa H)(hxu:xo≠uo)(hbu:bo≠uo)(hx:ae H xo=some (.cells [.ptr bo 0]))(hb:ae H bo=some (.cells [.ptr uo 0,LV]))
  (hsz:sizeL e.kids<90000) (ihk:∀ a∈e.kids,∀ (s:Nat) (H:Heap),s+sizeE a<1000000->ae H xo=some (.cells [.ptr bo 0])->ae H bo=some (.cells [.ptr uo 0,LV])->ae H uo=some (uO u s)->orc CC M 114 [a.v,.func (.func 115) [] [.ptr xo 0]] H=some (.ret Abs.undef (am H uo (uO u (s+sizeE a))) (aa H))) {V:AV} (hV:∀ (i:Nat) (a:Ex),e.kids[i]?=some a->aL 6 V (.int .i64 (i:Int))=some (.iptr a.v.cells)) :
  ∀ (d i:Nat),d+i=e.kids.length->∀ (fu:Nat),d<fu->∀ (G:Heap) (s:Nat),s+sizeL (e.kids.drop i)<1000000->∀ (r:RG),
  (r.a.a.b=.func (.func 115) [] [.ptr xo 0]/\r.a.b.c=V/\r.a.b.d=.int .i64 (e.kids.length:Int)/\r.a.b.e=.int .i64 (i:Int)) ->
  YZ H e uo (uO u (s+sizeL (e.kids.drop i))) (ax (nx (orc CC M)) fu r [] ⟨am H uo (uO u s)++[dv e]++G,aa H⟩):=by
 have hlen:=sizeL_len e.kids;intro d
 induction d with
 | zero =>
   intro i hi fu hfu G s hs r ⟨h1,h10,h11,h12⟩;obtain ⟨fu',rfl⟩ : ∃ f,fu=f+1:=⟨fu-1,by omega⟩
   have:i=e.kids.length:=by omega
   subst this;have hc:decide ((e.kids.length:Int)<(e.kids.length:Int))=false:=by simp
   rw[List.drop_length];simp only[ax,nx,wC,SIM,ST0,h11,h12,hc,sizeL];exact ⟨_,G,rfl⟩
 | succ d ih =>
   intro i hi fu hfu G s hs r ⟨h1,h10,h11,h12⟩;obtain ⟨fu',rfl⟩ : ∃ f,fu=f+1:=⟨fu-1,by omega⟩
   have hlt:i<e.kids.length:=by omega
   have hc:decide ((i:Int)<(e.kids.length:Int))=true:=by simp;omega
   have hd:e.kids.drop i=e.kids[i]::e.kids.drop (i+1):=List.drop_eq_getElem_cons hlt;have hg:e.kids[i]?=some e.kids[i]:=by simp[hlt]
   have hm:=ihk _ (List.getElem_mem hlt);generalize e.kids[i]=a at hd hg hm;have hat:=hV i a hg;have ha:bR (i:Int) 1=((i+1:Nat):Int):=aZ i 1 (by unfold natMax;omega)
   rw[hd] at hs ⊢;simp only[sizeL] at hs ⊢;have hl1:∀ o:AObj,aa (am H uo o)=aa H:=λo=>ay _ _ _
   have hll:∀ (o:AObj) (G:Heap),aa (am H uo o++[dv e]++G)=aa H+1+aa G:=λo G=>by rw[az,az,hl1];rfl
   have E:=hm s (am H uo (uO u s)++[dv e]++G++[dv a]) (by omega) (by rw[List.append_assoc,List.append_assoc];exact au (by rw[af hxu,hx]) _) (by rw[List.append_assoc,List.append_assoc];exact au (by rw[af hbu,hb]) _) (by rw[List.append_assoc,List.append_assoc];exact se hul _ _)
   have hst:∀ o,am (am H uo (uO u s)++[dv e]++G++[dv a]) uo o=am H uo o++[dv e]++(G++[dv a]):=λo=>by
    rw[List.append_assoc,List.append_assoc,qy hul,List.append_assoc]
   rw[hst] at E;have key:=ih (i+1) (by omega) fu' (by omega) (G++[dv a]) (s+sizeE a) (by omega)
   rw[Nat.add_assoc] at key;have hlc:=hll (uO u s) G;have hlq:aa (am H uo (uO u s)++[dv e]++G++[dv a])=aa (am H uo (uO u s)++[dv e]++G)+1:=by rw[az];rfl
   rw[hlq] at E;have hmin:∀ q,min (aa H) (aa (am H uo (uO u s)++[dv e]++G)+q)=aa H:=λq=>Nat.min_eq_left (by rw[hlc];omega)
   generalize am H uo (uO u s)++[dv e]++G=Hc at *;simp only[ax,nx,wC,FC,FW,D1,SIM,ST0,ST1,h1,h10,h11,h12,hc,hat,E,ha,hmin,EXS,Nat.reduceAdd,Nat.reduceLeDiff];exact key _ ⟨by first|rfl|exact h1,by first|rfl|exact h10,by first|rfl|exact h11,rfl⟩
theorem I5 (m:ga M){xo bo uo:Nat}{LV:AV}{u:UN}:∀ (z:Nat) (e:Ex),sizeE e<=z->z<90000->∀ (s:Nat) (H:Heap),s+sizeE e<1000000->ae H xo=some (.cells [.ptr bo 0])->ae H bo=some (.cells [.ptr uo 0,LV])->ae H uo=some (uO u s) ->
  orc CC M 114 [e.v,.func (.func 115) [] [.ptr xo 0]] H=some (.ret Abs.undef (am H uo (uO u (s+sizeE e))) (aa H)):=by
 intro z
 induction z with
 | zero=>intro e he;have:=i4 e;omega
 | succ z ih =>
   intro e he hz s H hs hx hb hu;have hk:=i4 e;have hxl:xo<aa H:=by rw[ai];exact bj hx
   have hbl:bo<aa H:=by rw[ai];exact bj hb
   have hul:uo<aa H:=by rw[ai];exact bj hu
   have hxu:xo≠uo:=by rintro rfl;rw[hx] at hu;simp at hu
   have hbu:bo≠uo:=by rintro rfl;rw[hb] at hu;simp at hu
   have hbx:=kB e;obtain ⟨e',hu',rfl⟩:=cc121
   have hlen:aO CC 121 e.kv=some (.int .i64 (e.kids.length:Int)):=by
    unfold Ex.kv;rw[exL_map];cases hkk:e.kids with
    | nil=>rw[List.map_nil,cA];simp[fA,dh,hu']
    | cons a l=>rw[List.map_cons];simp only[fA];rw[cO hu'];simp
   have hV:∀ (i:Nat) (a:Ex),e.kids[i]?=some a->aL 6 e.kv (.int .i64 (i:Int))=some (.iptr a.v.cells):=by
    intro i a h;unfold Ex.kv;rw[exL_map];cases hkk:e.kids with
    | nil=>rw[hkk] at h;simp at h
    | cons a' l =>
      rw[List.map_cons];simp only[fA];refine bN ?_;rw[<-List.map_cons (f:=Ex.v),aB,List.getElem?_map,<-hkk,h];rfl
   have N:=Dm m (s:=s) (by omega) (H:=H++[dv e]) (au hx _) (au hb _) (au hu _) e
   rw[cm hu,az] at N;have lp:=Bw m (e:=e) (u:=u) hxl hbl hul hxu hbu hx hb (by omega) (λa ha s H hs hx hb hu=>ih a (by have:=jb ha;omega) (by omega) s H hs hx hb hu) hV e.kids.length 0 rfl 100000 (by have:=sizeL_len e.kids;omega) [] (s+1) (by rw[List.drop_zero];omega)
   rw[List.append_nil,List.drop_zero,show s+1+sizeL e.kids=s+sizeE e by omega] at lp
   refine aJ (z:=z114) (m _ _ rfl) (by kernel_rfl) rfl ?_
   have e0:(envOf [e.v,.func (.func 115) [] [.ptr xo 0]] 0 env0).a.a.a=e.v:=rfl;have e1:(envOf [e.v,.func (.func 115) [] [.ptr xo 0]] 0 env0).a.a.b=.func (.func 115) [] [.ptr xo 0]:=rfl;generalize envOf [e.v,.func (.func 115) [] [.ptr xo 0]] 0 env0=R at e0 e1;have call115:∀ (a b:AV) (s:St),dN CC 115 [a,b] s=some (.call 115 [a,b]):=λa b s=>by kernel_rfl
   have hmin:min (aa H) (aa H+aa [dv e])=aa H:=Nat.min_eq_left (by omega)
   have hge:ae (am H uo (uO u (s+1))++[dv e]) (aa H)=some (dv e):=by
    have:=an (am H uo (uO u (s+1))) [dv e];rw[ay] at this;rw[this];rfl
   obtain ⟨r0,hr0,hpre⟩ : ∃ r,(r.a.a.b=.func (.func 115) [] [.ptr xo 0]/\r.a.b.c=e.kv/\r.a.b.d=.int .i64 (e.kids.length:Int)/\r.a.b.e=.int .i64 ((0:Nat):Int))/\z114.sh (orc CC M) R [] ⟨H,aa H⟩=c9 0 (ax (nx (orc CC M)) 100000 r [] ⟨am H uo (uO u (s+1))++[dv e],aa H⟩):=by
    simp only[z114,BN,Hl,Hx,SIM,ST0,e0,e1,hbx,call115,N,hmin,hge,hlen,EXS,Nat.reduceAdd,Nat.reduceLeDiff];exact ⟨_,⟨by first|rfl|exact e1,rfl,rfl,rfl⟩,rfl⟩
   rw[hpre];obtain ⟨r',G,h1⟩:=lp r0 hr0;rw[h1]
   have ht:bg (aa H) (am H uo (uO u (s+sizeE e))++[dv e]++G)=am H uo (uO u (s+sizeE e)):=by
    rw[List.append_assoc];have:=bP (am H uo (uO u (s+sizeE e))) ([dv e]++G)
    rwa [ay] at this
   have hgc:=dC (k:=CC.keep 114) (b:=aa H) (v:=Abs.undef) (hp:=am H uo (uO u (s+sizeE e))++[dv e]++G) rfl;rw[ht] at hgc;generalize am H uo (uO u (s+sizeE e))++[dv e]++G=Hc at *;simp only[z114,SIM,ST0,hgc,Nat.reduceAdd,Nat.reduceLeDiff]
end
abbrev kE (es:List (List Nat×AV)):List (AV×AV):=es.map λx=>(.str x.1,x.2)
def cr (nm:List Nat):List (List Nat×AV)->Option AV
 | []=>none
 | (s,v)::r=>cond (strEq s nm) (some v) (cr nm r)
theorem dH (a b:List Nat):strEq a b=decide (a=b):=by
 induction a generalizing b with
 | nil=>cases b<;>simp[strEq]
 | cons x a ih=>cases b with
   | nil=>simp[strEq]
   | cons y b =>
     simp only[strEq,ih]
     by_cases h:x=y<;>simp[h,Nat.beq_eq]
theorem jc {nm:List Nat}{v:AV}:∀ {es:List (List Nat×AV)} (i:Nat),cr nm es=some v->∃ j,cD (.str nm) (kE es) i=some (j,v)
 | [],i,h=>by cases h
 | (s,w)::r,i,h=>by
   simp only[cr] at h;simp only[kE,List.map_cons,cD]
   by_cases hs:s=nm
   ·subst hs;rw[dH] at h;simp only[decide_true,cond_true,SJ] at h;subst h;exact ⟨i,by simp[keyEq]⟩
   ·rw[dH] at h;simp only[hs,decide_false,cond_false] at h;obtain ⟨j,hj⟩:=jc (i+1) h;have hk:keyEq (.str nm) (.str s)=false:=by simp[keyEq,Ne.symm hs]
    exact ⟨j,by rw[if_neg (by rw[hk];simp)];exact hj⟩
theorem gX {nm:List Nat}:∀ {es:List (List Nat×AV)} (i:Nat),cr nm es=none->cD (.str nm) (kE es) i=none
 | [],i,h=>rfl
 | (s,w)::r,i,h=>by
   simp only[cr] at h;simp only[kE,List.map_cons,cD]
   by_cases hs:s=nm
   ·subst hs;rw[dH] at h;simp at h
   ·rw[dH] at h;simp only[hs,decide_false,cond_false] at h;have hk:keyEq (.str nm) (.str s)=false:=by simp[keyEq,Ne.symm hs]
    rw[if_neg (by rw[hk];simp)]
    exact gX (i+1) h
theorem mt (nm:List Nat):∀ es:List (List Nat×AV),fj (.str nm) (kE es)=true
 | []=>rfl
 | x::r=>by simp only[kE,List.map_cons,fj,Bool.true_and];exact mt nm r
theorem NT (nm:List Nat):∃ e,fh CC 209 (.str nm)=some e/\e=3:=⟨_,by kernel_rfl,rfl⟩
theorem EY (nm:List Nat):∃ e,fh CC 233 (.str nm)=some e/\e=152:=⟨_,by kernel_rfl,rfl⟩
theorem kG {nm:List Nat}{v:AV}{es:List (List Nat×AV)}{vo:Nat}{H:Heap}(h:cr nm es=some v)(hg:ae H vo=some (.map (kE es))):aV CC 209 (.map vo) (.str nm) false H=some v:=by
 obtain ⟨e,he,_⟩:=NT nm;obtain ⟨j,hj⟩:=jc 0 h;rw[aB] at hg;simp only[aV,he,d6,hg,mt,if_true,hj,Bool.false_eq_true,if_false]
theorem mH {nm:List Nat}{v:AV}{es:List (List Nat×AV)}{vo:Nat}{H:Heap}(h:cr nm es=some v)(hg:ae H vo=some (.map (kE es))):aV CC 233 (.map vo) (.str nm) false H=some v:=by
 obtain ⟨e,he,_⟩:=EY nm;obtain ⟨j,hj⟩:=jc 0 h;rw[aB] at hg;simp only[aV,he,d6,hg,mt,if_true,hj,Bool.false_eq_true,if_false]
structure Cx (uo bo so vo fo:Nat)(LV:AV)(d:NdR)(vm fm:List (List Nat×AV))(base:AV)(H:Heap)(u:UN):Prop where
 U:UI uo H u
 b:ae H bo=some (.cells [.ptr uo 0,LV])
 s:ae H so=some (.cells (BD d (.map vo) (.map fo) base))
 v:ae H vo=some (.map (kE vm))
 f:ae H fo=some (.map (kE fm))
 nb:bo∉u.ns
 ns:so∉u.ns
 nv:vo∉u.ns
 nf:fo∉u.ns
section
variable {uo bo so vo fo:Nat}{LV:AV}{d:NdR}{vm fm:List (List Nat×AV)}{base:AV}{H H' : Heap}{u u' : UN}
theorem Cx.bu (C:Cx uo bo so vo fo LV d vm fm base H u):bo≠uo:=KJ C.U C.b
theorem Cx.su (C:Cx uo bo so vo fo LV d vm fm base H u):so≠uo:=by
 intro h;have h1:=C.s;rw[h,C.U.ob] at h1;simp at h1
theorem Cx.vu (C:Cx uo bo so vo fo LV d vm fm base H u):vo≠uo:=by
 intro h;have h1:=C.v;rw[h,C.U.ob] at h1;simp at h1
theorem Cx.fu (C:Cx uo bo so vo fo LV d vm fm base H u):fo≠uo:=by
 intro h;have h1:=C.f;rw[h,C.U.ob] at h1;simp at h1
theorem bG {H:Heap}{q:Nat}{o:AObj}(h:ae H q=some o):q<aa H:=by rw[ai];exact bj h
theorem Cx.step (C:Cx uo bo so vo fo LV d vm fm base H u)(U' : UI uo H' u')(G:Gr uo H u.ns H' u'.ns):Cx uo bo so vo fo LV d vm fm base H' u':=by
 have key:∀ q,q<aa H->q∉u.ns->q∉u'.ns:=λq hq hn hm=>(G.ns q hm).elim hn (λh=>by omega)
 exact ⟨U',by rw[G.fr bo (bG C.b) C.bu C.nb];exact C.b,by rw[G.fr so (bG C.s) C.su C.ns];exact C.s,by rw[G.fr vo (bG C.v) C.vu C.nv];exact C.v,by rw[G.fr fo (bG C.f) C.fu C.nf];exact C.f,
  key bo (bG C.b) C.nb,key so (bG C.s) C.ns,key vo (bG C.v) C.nv,key fo (bG C.f) C.nf⟩
theorem Cx.ap (C:Cx uo bo so vo fo LV d vm fm base H u)(K:Heap):Cx uo bo so vo fo LV d vm fm base (H++K) u:=C.step C.U.ap Gr.ap
end
structure QF where
 op:List Nat
 dst:Nat
 args:List AtF
structure WQ where
 dst:Nat
 sp:Int
 pa:Int
 ah:List Int
 at_:Int
structure SQ where
 nd:List Nat
 args:List AtF
 futs:List (Int×Int)
 at_:Int
structure PS where
 vars:Nat
 eqs:List QF
 nm:Nat
 ws:List WQ
 sp:List SQ
 size:Nat
def EqF.q (e:EqF):QF:=⟨e.op,e.dst,e.args⟩
def WtF.q (w:WtF):WQ:=⟨w.dst,w.sp,w.pa,w.ah,w.at_⟩
def SpF.q (s:SpF):SQ:=⟨s.nd,s.args,s.futs,s.at_⟩
def UN.p (u:UN):PS:=⟨u.vars,u.eqs.map EqF.q,u.ms.length,u.ws.map WtF.q,u.sp.map SpF.q,u.size⟩
structure Same (u u' : UN):Prop where
 nd:u'.nd=u.nd
 at_:u'.at_=u.at_
 I:u'.I=u.I
 O:u'.O=u.O
theorem Same.refl {u:UN}:Same u u:=⟨rfl,rfl,rfl,rfl⟩
theorem Same.trans {a b c:UN}(h:Same a b)(h' : Same b c):Same a c:=⟨h'.nd.trans h.nd,h'.at_.trans h.at_,h'.I.trans h.I,h'.O.trans h.O⟩
def DE (uo:Nat)(H H' : Heap)(u u' : UN)(e:Nat):Prop:=(e=aa H/\H'=H/\u'=u)\/e=uo
def PS.w (p:PS):Nat:=p.vars+p.eqs.length+p.nm+p.ws.length+p.sp.length+p.size
theorem UN.pw (u:UN):u.p.w=u.vars+u.eqs.length+u.ms.length+u.ws.length+u.sp.length+u.size:=by
 simp[UN.p,PS.w]
def eT (f:Ex->PS->Option (AtF×PS)):List Ex->PS->Option (List AtF×PS)
 | [],p=>some ([],p)
 | a::l,p=>match f a p with
   | none=>none
   | some (x,p1)=>match eT f l p1 with
     | none=>none
     | some (xs,p2)=>some (x::xs,p2)
theorem m5 {f:Ex->PS->Option (AtF×PS)}(hf:∀ e p a p',f e p=some (a,p')->p.w<=p'.w):∀ (l:List Ex) (p:PS) (xs:List AtF) (p' : PS),eT f l p=some (xs,p')->p.w<=p'.w
 | [],p,xs,p',h=>by simp only[eT,SJ,PJ] at h;rw[h.2];exact Nat.le_refl _
 | a::l,p,xs,p',h=>by
   simp only[eT] at h
   split at h
   ·cases h
   ·rename_i x p1 h1
    split at h
    ·cases h
    ·rename_i ys p2 h2;simp only[SJ,PJ] at h;rw[<-h.2];exact Nat.le_trans (hf _ _ _ _ h1) (m5 hf l _ _ _ h2)
section
variable (M:Memo)(uo bo so vo fo:Nat)(LV:AV)(d:NdR)(vm fm:List (List Nat×AV))(base:AV)
def jq (f:Ex->PS->Option (AtF×PS))(e:Ex):Prop:=∀ (H:Heap) (u:UN) (a:AtF) (p' : PS),f e u.p=some (a,p')->Cx uo bo so vo fo LV d vm fm base H u->p'.w+20<1000000 ->
 ∃ H' u' esc,orc CC M 169 [.ptr bo 0,.ptr so 0,e.v,.nils] H=some (.ret a.av H' esc)/\UI uo H' u'/\Gr uo H u.ns H' u'.ns/\u'.p=p'/\Same u u'/\DE uo H H' u u' esc
end
def TP (l:List AtF)(V:AV)(L:Nat):Prop:=(l=[]/\V=.nils)\/(l≠[]/\∃ lin,V=.sl 3 (l.map AtF.av) lin/\lin.low L=true)
def X6 (b:Nat)(ns:List Nat)(Hc:Heap)(V:AV)(acc:List AtF):Prop:=(acc=[]/\V=.nils)\/(acc≠[]/\∃ id g,V=.sl 3 (acc.map AtF.av) (.live id g)/\ae Hc id=some (.lin g)/\b<=id/\id∉ns)
theorem nu (a:AtF):aM CC 139 1 [(0,a.av)]=some (.sl 3 [a.av] .lit):=by
 have:∀ (c:Bool) (n v:Int),aM CC 139 1 [(0,.agg [.bool c,.int .i64 n,.int .i64 v])]=some (.sl 3 [.agg [.bool c,.int .i64 n,.int .i64 v]] .lit):=λc n v=>by kernel_rfl
 exact this _ _ _
section
variable {M:Memo}{uo bo so vo fo:Nat}{LV:AV}{d:NdR}{vm fm:List (List Nat×AV)}{base:AV}
theorem Cx.put {H Hc:Heap}{u uc:UN}{id:Nat}{o:AObj}(C0:Cx uo bo so vo fo LV d vm fm base H u)(C:Cx uo bo so vo fo LV d vm fm base Hc uc)(hid:aa H<=id)(hn:id∉uc.ns):Cx uo bo so vo fo LV d vm fm base (am Hc id o) uc:=by
 have h1:=bG C0.b;have h2:=bG C0.s;have h3:=bG C0.v;have h4:=bG C0.f;have h5:=C0.U.uo;refine ⟨C.U.to (by rw[ay];exact Nat.le_refl _) (λq hq hm=>af ?_ _),by rw[af (by omega)];exact C.b,by rw[af (by omega)];exact C.s,by rw[af (by omega)];exact C.v,by rw[af (by omega)];exact C.f,C.nb,C.ns,C.nv,C.nf⟩
 rintro rfl
 rcases hm with rfl|hm
 ·omega
 ·exact hn hm
theorem Gr.put2 {H Hc:Heap}{ns ns' : List Nat}{id:Nat}{o:AObj}(G:Gr uo H ns Hc ns')(hid:aa H<=id):Gr uo H ns (am Hc id o) ns' :=
 ⟨by rw[ay];exact G.len,λq hq hu hn=>by rw[af (by omega),G.fr q hq hu hn],G.ns⟩
def YX (uo bo so vo fo:Nat)(LV:AV)(d:NdR)(vm fm:List (List Nat×AV))(base:AV)(H:Heap)(u:UN)(l:List AtF)(p' : PS)(X:IRes):Prop :=
 ∃ r' Hc uc e,X=some (.exit 0,r',[],⟨Hc,e⟩)/\Cx uo bo so vo fo LV d vm fm base Hc uc/\Gr uo H u.ns Hc uc.ns/\uc.p=p'/\Same u uc/\((e=aa H/\uc=u/\∃ G,Hc=H++G)\/e=uo)/\X6 (aa H) uc.ns Hc r'.a.b.b l
theorem xm (m:ga M){f:Ex->PS->Option (AtF×PS)}(hf:∀ e p a p',f e p=some (a,p')->p.w<=p'.w){kids:List Ex}(hk:kids.length<=90000)(ihk:∀ e∈kids,jq M uo bo so vo fo LV d vm fm base f e){V:AV}(hV:∀ (i:Nat) (a:Ex),kids[i]?=some a->aL 6 V (.int .i64 (i:Int))=some (.iptr a.v.cells))
  {H:Heap} {u:UN} (C0:Cx uo bo so vo fo LV d vm fm base H u) {p' : PS} (hw:p'.w+20<1000000) :
  ∀ (n i:Nat),n+i=kids.length->∀ (fu:Nat),n<fu->∀ (Hc:Heap) (uc:UN) (e:Nat) (acc l:List AtF),acc.length<=i->eT f (kids.drop i) uc.p=some (l,p')->Cx uo bo so vo fo LV d vm fm base Hc uc->Gr uo H u.ns Hc uc.ns->Same u uc->((e=aa H/\uc=u/\∃ G,Hc=H++G)\/e=uo)->∀ (r:RG),X6 (aa H) uc.ns Hc r.a.b.b acc ->
  (r.a.a.a=.ptr bo 0/\r.a.a.b=.ptr so 0/\r.a.a.c=.nils/\r.a.b.e=V/\r.a.b.f=.int .i64 (kids.length:Int)/\r.a.b.g=.int .i64 (i:Int)) ->
  YX uo bo so vo fo LV d vm fm base H u (acc++l) p' (ax (lg (orc CC M)) fu r [] ⟨Hc,e⟩):=by
 intro n
 induction n with
 | zero =>
   intro i hi fu hfu Hc uc e acc l hal hat C G S hE r hA ⟨h0,h1,h2,h12,h13,h14⟩;obtain ⟨fu',rfl⟩ : ∃ f,fu=f+1:=⟨fu-1,by omega⟩
   have:i=kids.length:=by omega
   subst this;have hc:decide ((kids.length:Int)<(kids.length:Int))=false:=by simp
   rw[List.drop_length] at hat;simp only[eT,SJ,PJ] at hat;obtain ⟨rfl,rfl⟩:=hat;simp only[ax,lg,qW,SIM,ST0,h13,h14,hc];exact ⟨_,Hc,uc,e,rfl,C,G,rfl,S,hE,by first|exact hA⟩
 | succ n ih =>
   intro i hi fu hfu Hc uc e acc l hal hat C G S hE r hA ⟨h0,h1,h2,h12,h13,h14⟩;obtain ⟨fu',rfl⟩ : ∃ f,fu=f+1:=⟨fu-1,by omega⟩
   have hlt:i<kids.length:=by omega
   have hc:decide ((i:Int)<(kids.length:Int))=true:=by simp;omega
   have hd:kids.drop i=kids[i]::kids.drop (i+1):=List.drop_eq_getElem_cons hlt;have hg:kids[i]?=some kids[i]:=by simp[hlt]
   have hm:=ihk _ (List.getElem_mem hlt);generalize kids[i]=a at hd hg hm;have hias:=hV i a hg;have ha:bR (i:Int) 1=((i+1:Nat):Int):=aZ i 1 (by unfold natMax;omega)
   rw[hd] at hat;simp only[eT] at hat
   split at hat
   ·cases hat
   ·rename_i x p1 hx
    split at hat
    ·cases hat
    ·rename_i xs p2 hxs;simp only[SJ,PJ] at hat;obtain ⟨rfl,rfl⟩:=hat;have hw1:=m5 hf _ _ _ _ hxs;obtain ⟨H1,u1,e1,hP,U1,G1,hp1,S1,hD⟩:=hm (Hc++[dv a]) uc x p1 hx (C.ap _) (by omega)
     have C1:=(C.ap [dv a]).step U1 G1;have G2:Gr uo H u.ns H1 u1.ns:=(G.trans Gr.ap).trans G1;have S2:=S.trans S1;have huo:=C0.U.uo;have hle:=G.len
     have hEn:((min e e1=aa H/\u1=u/\∃ G',H1=H++G')\/min e e1=uo)/\uo<=min e e1:=by
      rcases hD with ⟨he1,hH1,hu1⟩|he1
      ·have h3:aa (Hc++[dv a])=aa Hc+1:=by rw[az];rfl
       rcases hE with ⟨he,huc,K,hK⟩|he
       ·have h4:min e e1=aa H:=by rw[he,he1,h3];omega
        exact ⟨.inl ⟨h4,by rw[hu1,huc],K++[dv a],by rw[hH1,hK,List.append_assoc]⟩,by omega⟩
       ·have h4:min e e1=uo:=by rw[he,he1,h3];omega
        exact ⟨.inr h4,by omega⟩
      ·have h4:min e e1=uo:=by rcases hE with ⟨he,_,_⟩|he<;>omega
       exact ⟨.inr h4,by omega⟩
     have hxs' : eT f (kids.drop (i+1)) u1.p=some (xs,p2):=by rw[hp1];exact hxs
     rcases hA with ⟨rfl,hn⟩|⟨hne,id,g,hn,hgi,hid,hni⟩
     ·have happ:=λe lin=>oK (ys:=[x.av]) (hp:=H1) (e:=e) sl139 151 lin (by simp) rfl (by simp)
      have key:=ih (i+1) (by omega) fu' (by omega) (H1++[.lin 0]) u1 (min e e1) [x] xs (by simp) hxs' (C1.ap _) (G2.trans Gr.ap) S2
       (hEn.1.imp (λ⟨a1,a2,K,a3⟩=>⟨a1,a2,K++[.lin 0],by rw[a3,List.append_assoc]⟩) id)
      have hnew:X6 (aa H) u1.ns (H1++[.lin 0]) (.sl 3 [x.av] (.live (aa H1) 0)) [x]:=.inr ⟨by simp,_,_,rfl,by rw[an];rfl,G2.len,λhm=>by have:=(U1.lt _ hm).2;omega⟩
      simp only[ax,lg,qW,uP,wq,vi,SIM,ST0,ST1,h0,h1,h2,h12,h13,h14,hc,hias,hn,hP,nu,happ,ha,EXS,Nat.reduceAdd,Nat.reduceLeDiff];exact key _ hnew ⟨by first|rfl|exact h0,by first|rfl|exact h1,by first|rfl|exact h2,by first|rfl|exact h12,by first|rfl|exact h13,rfl⟩
     ·have hidl:=bG hgi;have hgi1:ae H1 id=some (.lin g):=by rw[G1.fr id (by rw[az];omega) (by omega) hni];exact au hgi _
      have hni1:id∉u1.ns:=λhm=>(G1.ns id hm).elim hni (λh=>by rw[az] at h;omega)
      have happ:=λe lin=>kY (xs:=acc.map AtF.av) (ys:=[x.av]) (hp:=H1) (e:=e) sl139 151 lin (by simp) rfl (by rw[List.length_map];simp;omega) hgi1
      have hmap:acc.map AtF.av++[x.av]=(acc++[x]).map AtF.av:=by simp
      rw[hmap] at happ
      have key:=ih (i+1) (by omega) fu' (by omega) (am H1 id (.lin (g+1))) u1 (min e e1) (acc++[x]) xs (by simp;omega) hxs' (C0.put C1 hid hni1) (G2.put2 hid) S2
       (hEn.1.imp (λ⟨a1,a2,K,a3⟩=>⟨a1,a2,am K (id-H.length) (.lin (g+1)),by rw[a3,gn (by rw[<-ai];exact hid)]⟩) (λh=>h))
      rw[List.append_assoc] at key;have hnew:X6 (aa H) u1.ns (am H1 id (.lin (g+1))) (.sl 3 ((acc++[x]).map AtF.av) (.live id (g+1))) (acc++[x]):=.inr ⟨by simp,_,_,rfl,aF hgi1 _,hid,hni1⟩
      simp only[ax,lg,qW,uP,wq,vi,SIM,ST0,ST1,h0,h1,h2,h12,h13,h14,hc,hias,hn,hP,nu,happ,ha,EXS,Nat.reduceAdd,Nat.reduceLeDiff];exact key _ hnew ⟨by first|rfl|exact h0,by first|rfl|exact h1,by first|rfl|exact h2,by first|rfl|exact h12,by first|rfl|exact h13,rfl⟩
theorem keep151:CC.keep 151=false:=by kernel_rfl
theorem tw (m:ga M){f:Ex->PS->Option (AtF×PS)}(hf:∀ e p a p',f e p=some (a,p')->p.w<=p'.w){kids:List Ex}(hk:kids.length<=90000)(ihk:∀ e∈kids,jq M uo bo so vo fo LV d vm fm base f e){V:AV}(hV:∀ (i:Nat) (a:Ex),kids[i]?=some a->aL 6 V (.int .i64 (i:Int))=some (.iptr a.v.cells))(hln:aO CC 121 V=some (.int .i64 (kids.length:Int)))
  {H:Heap} {u:UN} (C0:Cx uo bo so vo fo LV d vm fm base H u) {l:List AtF} {p' : PS} (hat:eT f kids u.p=some (l,p')) (hw:p'.w+20<1000000) :
  ∃ H' u' esc V',orc CC M 151 [.ptr bo 0,.ptr so 0,.nils,V] H=some (.ret V' H' esc)/\TP l V' (aa H')/\UI uo H' u'/\Gr uo H u.ns H' u'.ns/\u'.p=p'/\Same u u'/\DE uo H H' u u' esc:=by
 have lp:=xm m hf hk ihk hV C0 hw kids.length 0 rfl 100000 (by omega) H u (aa H) [] l (by simp) (by rw[List.drop_zero];exact hat) C0 Gr.refl Same.refl (.inl ⟨rfl,rfl,[],by simp⟩)
 have e0:(envOf [.ptr bo 0,.ptr so 0,.nils,V] 0 env0).a.a.a=.ptr bo 0:=rfl;have e1:(envOf [.ptr bo 0,.ptr so 0,.nils,V] 0 env0).a.a.b=.ptr so 0:=rfl;have e2:(envOf [.ptr bo 0,.ptr so 0,.nils,V] 0 env0).a.a.c=.nils:=rfl;have e3:(envOf [.ptr bo 0,.ptr so 0,.nils,V] 0 env0).a.a.d=V:=rfl
 obtain ⟨r0,hr0,hr1,hpre⟩ : ∃ r,r.a.b.b=.nils/\(r.a.a.a=.ptr bo 0/\r.a.a.b=.ptr so 0/\r.a.a.c=.nils/\r.a.b.e=V/\r.a.b.f=.int .i64 (kids.length:Int)/\r.a.b.g=.int .i64 ((0:Nat):Int)) /\
   z151.sh (orc CC M) (envOf [.ptr bo 0,.ptr so 0,.nils,V] 0 env0) [] ⟨H,aa H⟩=dI (ac (rQ (orc CC M)) retZ) (c9 0 (ax (lg (orc CC M)) 100000 r [] ⟨H,aa H⟩)):=by
  generalize envOf [.ptr bo 0,.ptr so 0,.nils,V] 0 env0=R at e0 e1 e2 e3;simp only[z151,Cu,Cb,D6,SIM,ST0,e0,e1,e2,e3,hln,Nat.reduceAdd,Nat.reduceLeDiff];exact ⟨_,rfl,⟨by first|rfl|exact e0,by first|rfl|exact e1,by first|rfl|exact e2,rfl,rfl,rfl⟩,rfl⟩
 obtain ⟨r',Hc,uc,e,hX,C,G,hp,S,hE,hA⟩:=lp r0 (by rw[hr0];exact .inl ⟨rfl,rfl⟩) hr1
 rw[List.nil_append] at hA
 obtain ⟨r2,h8,hX2⟩ : ∃ r2,r2.a.b.a=r'.a.b.b/\dI (ac (rQ (orc CC M)) retZ) (c9 0 (some (.exit 0,r',[],⟨Hc,e⟩)))=some (.ret,r2,[],⟨Hc,e⟩):=by
  simp only[rQ,SIM,ST0];exact ⟨_,rfl,rfl⟩
 have hfin:orc CC M 151 [.ptr bo 0,.ptr so 0,.nils,V] H=some (lH false (aa H) r'.a.b.b ⟨Hc,e⟩):=by
  refine aJ (z:=z151) (m _ _ rfl) (by kernel_rfl) rfl ?_
  rw[hpre,hX,hX2]
  have hres:fx r2 Hc z151.res=some [r'.a.b.b]:=by
   show fx r2 _ [.t 8]=_;rw[iN,jI,show gt r2 8=r'.a.b.b from h8]
  rw[jG,hres,<-keep151];rfl
 have huo:=C0.U.uo
 rcases hE with ⟨rfl,rfl,K,rfl⟩|rfl
 ·have ht:bg (aa H) (H++K)=H:=bP _ _
  rcases hA with ⟨rfl,hn⟩|⟨hne,id,g,hn,hgi,hid,hni⟩
  ·refine ⟨H,uc,aa H,.nils,?_,.inl ⟨rfl,rfl⟩,C0.U,Gr.refl,hp,Same.refl,.inl ⟨rfl,rfl,rfl⟩⟩;rw[hfin,hn,dC rfl,ht]
  ·refine ⟨H,uc,aa H,.sl 3 (l.map AtF.av) .dead,?_,.inr ⟨hne,.dead,rfl,rfl⟩,C0.U,Gr.refl,hp,Same.refl,.inl ⟨rfl,rfl,rfl⟩⟩;rw[hfin,hn,oN (lB l) hid,ht]
 ·refine ⟨Hc,uc,e,r'.a.b.b,?_,?_,C.U,G,hp,S,.inr rfl⟩
  ·rw[hfin,dL (by omega)]
  ·rcases hA with ⟨rfl,hn⟩|⟨hne,id,g,hn,hgi,hid,hni⟩
   ·exact .inl ⟨rfl,hn⟩
   ·exact .inr ⟨hne,_,hn,by simp[Lin.low,bG hgi]⟩
end
def PS.eq (p:PS)(op:List Nat)(l:List AtF):AtF×PS:=(⟨false,0,p.vars⟩,{ p with vars:=p.vars+1,eqs:=p.eqs++[⟨op,p.vars,l⟩] })
def eY (nm:List Nat):List (List Nat×Nat)->Option Nat
 | []=>none
 | (s,v)::r=>cond (strEq s nm) (some v) (eY nm r)
abbrev nB (vm:List (List Nat×Nat)):List (List Nat×AV):=vm.map λx=>(x.1,.int .i64 (x.2:Int))
theorem i6 {nm:List Nat}{v:Nat}:∀ {vm:List (List Nat×Nat)},eY nm vm=some v->cr nm (nB vm)=some (.int .i64 (v:Int))
 | [],h=>by cases h
 | (s,w)::r,h=>by
   simp only[eY] at h;simp only[nB,List.map_cons,cr];cases hs:strEq s nm with
   | true=>rw[hs] at h;simp only[cond_true,SJ] at h ⊢;rw[h]
   | false=>rw[hs] at h;simp only[cond_false] at h ⊢;exact i6 h
def Bb (e:Ex):List Nat:=cond (Nat.beq e.k 4) [110,101,103] (cond (Nat.beq e.k 5) [110,111,116] (cond (Nat.beq e.k 6) e.s [105,102]))
def AM (k:Nat):Bool:=Nat.beq k 4||Nat.beq k 5||Nat.beq k 6||Nat.beq k 7
def dn (vm:List (List Nat×Nat))(ext:Ex->PS->Option (AtF×PS)):Nat->Ex->PS->Option (AtF×PS)
 | 0,_,_=>none
 | k+1,e,p=>cond (Nat.beq e.k 1||Nat.beq e.k 2) (some (⟨true,e.n,0⟩,p)) (cond (Nat.beq e.k 3) (match eY e.s vm with
   | some v=>some (⟨false,0,v⟩,p)
   | none=>none) (cond (AM e.k) (match eT (dn vm ext k) e.kids p with
   | some (x::l,p1)=>some (p1.eq (Bb e) (x::l))
   | _=>none) (cond (Nat.beq e.k 13||Nat.beq e.k 14) (ext e p) none)))
theorem Vj (p:PS)(op:List Nat)(l:List AtF):(p.eq op l).2.w=p.w+2:=by simp[PS.eq,PS.w];omega
theorem mN {vm:List (List Nat×Nat)}{ext:Ex->PS->Option (AtF×PS)}(hx:∀ e p a p',ext e p=some (a,p')->p.w<=p'.w):∀ (k:Nat) (e:Ex) (p:PS) (a:AtF) (p' : PS),dn vm ext k e p=some (a,p')->p.w<=p'.w:=by
 intro k
 induction k with
 | zero=>intro e p a p' h;cases h
 | succ k ih =>
   intro e p a p' h;simp only[dn] at h;cases h1:(Nat.beq e.k 1||Nat.beq e.k 2) with
   | true=>rw[h1] at h;simp only[cond_true,SJ,PJ] at h;rw[h.2];exact Nat.le_refl _
   | false =>
     rw[h1] at h;simp only[cond_false] at h;cases h3:Nat.beq e.k 3 with
     | true =>
       rw[h3] at h;simp only[cond_true] at h
       split at h
       ·simp only[SJ,PJ] at h;rw[h.2];exact Nat.le_refl _
       ·cases h
     | false =>
       rw[h3] at h;simp only[cond_false] at h;cases h4:AM e.k with
       | true =>
         rw[h4] at h;simp only[cond_true] at h
         split at h
         ·rename_i x l p1 hat;have:=m5 ih _ _ _ _ hat;have h9:=Vj p1 (Bb e) (x::l);simp only[SJ] at h;rw[h] at h9;simp only at h9;omega
         ·cases h
       | false =>
         rw[h4] at h;simp only[cond_false] at h;cases h13:(Nat.beq e.k 13||Nat.beq e.k 14) with
         | true=>rw[h13] at h;exact hx _ _ _ _ h
         | false=>rw[h13] at h;cases h
theorem FK (e:Ex):aO CC 121 e.kv=some (.int .i64 (e.kids.length:Int)):=by
 obtain ⟨e',hu',rfl⟩:=cc121;unfold Ex.kv;rw[exL_map];cases hkk:e.kids with
 | nil=>rw[List.map_nil,cA];simp[fA,dh,hu']
 | cons a l=>rw[List.map_cons];simp only[fA];rw[cO hu'];simp
theorem xA (e:Ex):∀ (i:Nat) (a:Ex),e.kids[i]?=some a->aL 6 e.kv (.int .i64 (i:Int))=some (.iptr a.v.cells):=by
 intro i a h;unfold Ex.kv;rw[exL_map];cases hkk:e.kids with
 | nil=>rw[hkk] at h;simp at h
 | cons a' l =>
   rw[List.map_cons];simp only[fA];refine bN ?_;rw[<-List.map_cons (f:=Ex.v),aB,List.getElem?_map,<-hkk,h];rfl
section
variable {M:Memo}{uo bo so vo fo:Nat}{LV:AV}{d:NdR}{vm:List (List Nat×Nat)}{fm:List (List Nat×AV)}{base:AV}
abbrev zA:AObj:=.cells [.bool false,.int .i64 0,.int .i64 0]
theorem H8 (m:ga M)(ext:Ex->PS->Option (AtF×PS))(k:Nat){e:Ex}(h1:(Nat.beq e.k 1||Nat.beq e.k 2)=true):jq M uo bo so vo fo LV d (nB vm) fm base (dn vm ext (k+1)) e:=by
 intro H u a p' hx C hw;simp only[dn,h1,cond_true,SJ,PJ] at hx;obtain ⟨rfl,rfl⟩:=hx;refine ⟨H,u,aa H,aJ (z:=z169) (m _ _ rfl) (by kernel_rfl) rfl ?_,C.U,Gr.refl,rfl,Same.refl,.inl ⟨rfl,rfl,rfl⟩⟩
 have e0:(envOf [.ptr bo 0,.ptr so 0,e.v,.nils] 0 env0).a.a.c=e.v:=rfl;generalize envOf [.ptr bo 0,.ptr so 0,e.v,.nils] 0 env0=R at e0;have hbx:=kB e;have be:∀ n:Int,ao CC 93 [(0,.bool true),(1,.int .i64 n)]=some (.agg [.bool true,.int .i64 n,.int .i64 0]):=λn=>by kernel_rfl
 have c1:decide ((e.k:Int)=1)=Nat.beq e.k 1:=xX e.k 1;have c2:decide ((e.k:Int)=2)=Nat.beq e.k 2:=xX e.k 2;cases hk1:Nat.beq e.k 1 with
 | true =>
   rw[hk1] at c1;simp only[z169,gE,gO,hC,gF,xc,SIM,ST0,ST1,e0,hbx,be,c1,Nat.reduceAdd,Nat.reduceLeDiff];rfl
 | false =>
   rw[hk1,Bool.false_or] at h1;rw[hk1] at c1;rw[h1] at c2;simp only[z169,gE,gO,hC,gF,xc,SIM,ST0,ST1,e0,hbx,be,c1,c2,Nat.reduceAdd,Nat.reduceLeDiff];rfl
theorem Ej (m:ga M)(ext:Ex->PS->Option (AtF×PS))(k:Nat){e:Ex}(h3:e.k=3):jq M uo bo so vo fo LV d (nB vm) fm base (dn vm ext (k+1)) e:=by
 intro H u a p' hx C hw;simp only[dn,h3] at hx;rw[show (Nat.beq 3 1||Nat.beq 3 2)=false from rfl,show Nat.beq 3 3=true from rfl] at hx
 simp only[cond_true,cond_false] at hx
 split at hx
 ·rename_i v hv;simp only[SJ,PJ] at hx;obtain ⟨rfl,rfl⟩:=hx;refine ⟨H,u,aa H,aJ (z:=z169) (m _ _ rfl) (by kernel_rfl) rfl ?_,C.U,Gr.refl,rfl,Same.refl,.inl ⟨rfl,rfl,rfl⟩⟩
  have e0:(envOf [.ptr bo 0,.ptr so 0,e.v,.nils] 0 env0).a.a.c=e.v:=rfl;have e1:(envOf [.ptr bo 0,.ptr so 0,e.v,.nils] 0 env0).a.a.b=.ptr so 0:=rfl;generalize envOf [.ptr bo 0,.ptr so 0,e.v,.nils] 0 env0=R at e0 e1;have hbx:=kB e;have c1:decide ((e.k:Int)=1)=false:=by rw[h3];rfl
  have c2:decide ((e.k:Int)=2)=false:=by rw[h3];rfl
  have c3:decide ((e.k:Int)=3)=true:=by rw[h3];rfl
  have hs:=λK=>au C.s K
  have hl:=λK=>kG (i6 hv) (au C.v K)
  simp only[z169,gE,gO,hC,gF,jK,DV,SIM,ST0,ST1,e0,e1,hbx,hs,hl,vL,Bd,c1,c2,c3,Nat.reduceAdd,Nat.reduceLeDiff]
 ·cases hx
end
theorem Yz (u:UN)(op:List Nat)(x:AtF)(l:List AtF)(lin:Lin)(on E' : AV):({ u with vars:=u.vars+1,eqs:=u.eqs++[⟨op,u.vars,x::l,lin,on⟩],E:=E' }:UN).p=(u.p.eq op (x::l)).2:=by
 simp[UN.p,PS.eq,EqF.q]
section
variable {M:Memo}{uo bo so vo fo:Nat}{LV:AV}{d:NdR}{vm:List (List Nat×Nat)}{fm:List (List Nat×AV)}{base:AV}
theorem Gr.loc {H H' : Heap}{u:UN}{ns' : List Nat}(hU:UI uo H u){K:Heap}(G:Gr uo (H++K) u.ns H' ns'){j:Nat}(hj:j<aa K):ae H' (aa H+j)=ae K j/\aa H+j∉ns'/\aa H+j<aa H':=by
 have hn:aa H+j∉u.ns:=λhm=>by have:=(hU.lt _ hm).2;omega
 have hl:aa (H++K)=aa H+aa K:=az _ _;have:=G.len;refine ⟨by rw[G.fr _ (by omega) (by have:=hU.uo;omega) hn,aW],λhm=>(G.ns _ hm).elim hn (λh=>by omega),by omega⟩
theorem Kq (m:ga M){ext:Ex->PS->Option (AtF×PS)}(hx:∀ e p a p',ext e p=some (a,p')->p.w<=p'.w)(hb:mo base)(k:Nat){e:Ex}(hop:AM e.k=true)(hkl:e.kids.length<=90000)(ihk:∀ a∈e.kids,jq M uo bo so vo fo LV d (nB vm) fm base (dn vm ext k) a):jq M uo bo so vo fo LV d (nB vm) fm base (dn vm ext (k+1)) e:=by
 intro H u a p' hxx C hw
 have hk:e.k=4\/e.k=5\/e.k=6\/e.k=7:=by
  unfold AM at hop;simp only[Bool.or_eq_true,Nat.beq_eq] at hop;omega
 have hb12:(Nat.beq e.k 1||Nat.beq e.k 2)=false:=by rcases hk with h|h|h|h<;>rw[h]<;>rfl
 have hb3:Nat.beq e.k 3=false:=by rcases hk with h|h|h|h<;>rw[h]<;>rfl
 simp only[dn,hb12,hb3,hop,cond_true,cond_false] at hxx
 split at hxx
 ·rename_i x l p1 hat;simp only[SJ] at hxx;have hpw:=Vj p1 (Bb e) (x::l);rw[hxx] at hpw;simp only at hpw;obtain ⟨H1,u1,e1,V1,hA,hL,U1,G1,hp1,S1,hD⟩:=tw m (mN hx k) hkl ihk (xA e) (FK e) (C.ap [dv e,zA]) hat (by omega)
  obtain ⟨h0,_⟩|⟨_,lin,rfl,hlin⟩:=hL
  ·cases h0
  have C1:=(C.ap [dv e,zA]).step U1 G1;have hg0:=G1.loc C.U (j:=0) (by rw[bq,bq,cd];omega)
  have hg1:=G1.loc C.U (j:=1) (by rw[bq,bq,cd];omega)
  obtain ⟨H2,E',hQ,U2,G2⟩:=OT m U1 C1.b C1.nb (by rw[<-hp1,UN.pw] at hpw;omega) (Bb e) (x::l) (on:=gv0) (.inr rfl) hlin
  have h2n:aa H+1∉_:=λhm=>(G2.ns _ hm).elim hg1.2.1 (λh=>by have:=hg1.2.2;omega)
  have hz2:ae H2 (aa H+1)=some zA:=by rw[G2.fr _ hg1.2.2 (by have:=C.U.uo;omega) hg1.2.1,hg1.1];rfl
  have hu2:=U2
  have hpa:a=⟨false,0,u1.vars⟩/\p'=(p1.eq (Bb e) (x::l)).2:=by
   have h1:u1.vars=p1.vars:=by rw[<-hp1];rfl
   rw[hxx];refine ⟨?_,rfl⟩;have:=congrArg Prod.fst hxx;rw[h1];exact this.symm
  obtain ⟨rfl,rfl⟩:=hpa;have hlH:aa (H++[dv e,zA])=aa H+2:=by rw[az];rfl
  refine ⟨am H2 (aa H+1) (.cells [.bool false,.int .i64 0,.int .i64 (u1.vars:Int)]),_,uo,aJ (z:=z169) (m _ _ rfl) (by kernel_rfl) rfl ?_,U2.to (by rw[ay];exact Nat.le_refl _) (λq hq hn=>af (by rintro rfl;rcases hn with h|h;(have:=C.U.uo;omega);exact h2n h) _),?_,?_,⟨S1.nd,S1.at_,S1.I,S1.O⟩,.inr rfl⟩
  ·have e0:(envOf [.ptr bo 0,.ptr so 0,e.v,.nils] 0 env0).a.a.a=.ptr bo 0:=rfl;have e1' : (envOf [.ptr bo 0,.ptr so 0,e.v,.nils] 0 env0).a.a.b=.ptr so 0:=rfl;have e2:(envOf [.ptr bo 0,.ptr so 0,e.v,.nils] 0 env0).a.a.c=e.v:=rfl;have e3:(envOf [.ptr bo 0,.ptr so 0,e.v,.nils] 0 env0).a.a.d=.nils:=rfl;generalize envOf [.ptr bo 0,.ptr so 0,e.v,.nils] 0 env0=R at e0 e1' e2 e3;have hbx:=kB e;have hgd:=jo m hb (C.ap [dv e,zA]).s;have hks:=xQ e;have hge:ae (H++[dv e,zA]) (aa H)=some (dv e):=by rw[an];rfl
   have hg0' : ae H1 (aa H)=some (dv e):=by have:=hg0.1;rw[Nat.add_zero] at this;rw[this];rfl
   have huo:=C.U.uo;have hm1:min (aa H) (aa H+2)=aa H:=Nat.min_eq_left (by omega)
   have hm2:min (min (aa H) e1) uo=uo:=by
    rcases hD with ⟨h,_,_⟩|h
    ·rw[h,hlH];omega
    ·omega
   have hzs:=λc=>aF hz2 c
   have hgc:=λhp=>dL (keep:=CC.keep 169) (base:=aa H) (e:=uo) (v:=AtF.av ⟨false,0,u1.vars⟩) (hp:=hp) (by omega)
   rw[hlH] at hgd
   rcases hk with h4|h4|h4|h4
   all_goals
    have c1:decide ((e.k:Int)=1)=false:=by rw[h4];rfl
    have c2:decide ((e.k:Int)=2)=false:=by rw[h4];rfl
    have c3:decide ((e.k:Int)=3)=false:=by rw[h4];rfl
   ·have c4:decide ((e.k:Int)=4)=true:=by rw[h4];rfl
    have hop' : Bb e=[110,101,103]:=by unfold Bb;rw[h4];rfl
    rw[hop'] at hQ;simp only[z169,gE,gO,hC,gF,jK,lK,HN,SIM,ST0,ST1,e0,e1',e2,e3,hbx,hgd,hge,hks,hA,hQ,hm1,hm2,hz2,hzs,hgc,c1,c2,c3,c4,Nat.reduceAdd,Nat.reduceLeDiff]
   ·have c4:decide ((e.k:Int)=4)=false:=by rw[h4];rfl
    have c5:decide ((e.k:Int)=5)=true:=by rw[h4];rfl
    have hop' : Bb e=[110,111,116]:=by unfold Bb;rw[h4];rfl
    rw[hop'] at hQ;simp only[z169,gE,gO,hC,gF,jK,lK,oM,zo,SIM,ST0,ST1,e0,e1',e2,e3,hbx,hgd,hge,hks,hA,hQ,hm1,hm2,hz2,hzs,hgc,c1,c2,c3,c4,c5,Nat.reduceAdd,Nat.reduceLeDiff]
   ·have c4:decide ((e.k:Int)=4)=false:=by rw[h4];rfl
    have c5:decide ((e.k:Int)=5)=false:=by rw[h4];rfl
    have c6:decide ((e.k:Int)=6)=true:=by rw[h4];rfl
    have hop' : Bb e=e.s:=by unfold Bb;rw[h4];rfl
    rw[hop'] at hQ;simp only[z169,gE,gO,hC,gF,jK,lK,oM,mD,Ae,SIM,ST0,ST1,e0,e1',e2,e3,hbx,hgd,hge,hg0',hks,hA,hQ,hm1,hm2,hz2,hzs,hgc,c1,c2,c3,c4,c5,c6,Nat.reduceAdd,Nat.reduceLeDiff]
   ·have c4:decide ((e.k:Int)=4)=false:=by rw[h4];rfl
    have c5:decide ((e.k:Int)=5)=false:=by rw[h4];rfl
    have c6:decide ((e.k:Int)=6)=false:=by rw[h4];rfl
    have c7:decide ((e.k:Int)=7)=true:=by rw[h4];rfl
    have hop' : Bb e=[105,102]:=by unfold Bb;rw[h4];rfl
    rw[hop'] at hQ;simp only[z169,gE,gO,hC,gF,jK,lK,oM,mD,ry,zW,SIM,ST0,ST1,ST2,e0,e1',e2,e3,hbx,hgd,hge,hks,hA,hQ,hm1,hm2,hz2,hzs,hgc,c1,c2,c3,c4,c5,c6,c7,Nat.reduceAdd,Nat.reduceLeDiff]
  ·exact ((Gr.ap.trans G1).trans G2).put2 (by omega)
  ·rw[Yz,hp1]
 ·cases hxx
end
end Go.Proofs
