/- the texts of the law, lexed and parsed. Part of the proof of girandolelaw09.OrderChains. -/
import Derived.Test.YtglacbfdbfhmfaaDoorOrd
import Derived.Test.YtglacbfdbfhmfaaDoorDec
set_option linter.unusedVariables false
set_option linter.unusedSimpArgs false
set_option maxRecDepth 1000000
namespace Go.Proofs
open Go Go.Abs
abbrev nxP:Ex→PS→Option (AtF × PS):=fun _ _=>none
abbrev Xe (k:Nat):List (List Nat × Nat)→FmS→EqR→PS→Option PS:=fun vm _=>VZ nxP k vm
noncomputable def RJ (d:NdR):Bool:=Nat.ble (aa (dw d)) 90000 && Nat.ble (aa d.eqs) 90000 && !d.eqs.isEmpty && (dw d).all (fun x=>x.c.isEmpty) && d.ins.all (fun x=>!x.f) && d.eqs.all (fun q=>Nat.blt (sizeE q.e) 90000)
noncomputable def B9 (d:NdR):Option PS:=cond (RJ d) (match sE nsp (Xe 300) d ((List.range d.ins.length).map Is) [] ⟨d.ins.length,[],0,[],[],0⟩ with
 | some (_ :: _,p)=>cond (Nat.blt p.w 90000 && p.eqs.all fun q=>Nat.ble (aa q.args) 90000) (some p) none
 | _=>none) none
noncomputable def bB (d:NdR):Option AV:=match B9 d with
 | none=>none
 | some p=>match Bx 90000 p.vars (p.eqs.map QF.dst) (p.eqs.map fun q=>readsL q.args) with
   | none=>none
   | some c=>some (cond (Nat.blt c p.eqs.length) (.agg [.int .i64 (d.p:Int),.int .i64 10]) (.agg [.int .i64 0,.int .i64 0]))
section
variable {M:Memo}
theorem B0 (m:ia M){d:NdR}{L:List NdR}(hL:(d :: L).length≤90000){p:PS}(h:B9 d=some p)(H:Heap) :
  ∃ H' u',orc CC M 9 [.sl 6 ((d :: L).map NdR.v) .dead,.str d.s] H=some (.ret (.tuple [.ptr (aa H + 2) 0,.agg [.int .i64 0,.int .i64 0]]) H' (aa H))∧UI (aa H + 2) H' u'∧u'.p=p∧u'.at_=d.p∧aa H + 2 < aa H'∧(∀ q,q < aa H→ae H' q=ae H q)∧p.w < 90000∧(∀ q ∈ p.eqs,q.args.length≤90000):=by
 unfold B9 at h;cases hc:RJ d with
 | false=>rw[hc] at h;cases h
 | true =>
   rw[hc] at h;simp only[cond_true] at h
   split at h
   ·rename_i a l p1 hp;cases hq:(Nat.blt p1.w 90000 && p1.eqs.all fun q=>Nat.ble (aa q.args) 90000) with
    | false=>rw[hq] at h;cases h
    | true =>
      rw[hq] at h;simp only[cond_true,SJ] at h;subst h;simp only[Bool.and_eq_true,Nat.blt_eq,List.all_eq_true] at hq;unfold RJ at hc;simp only[Bool.and_eq_true,Nat.blt_eq,List.all_eq_true,dk,decide_eq_true_eq,ai,Bool.not_eq_true'] at hc;obtain ⟨⟨⟨⟨⟨h1,h2⟩,h3⟩,h4⟩,h5⟩,h6⟩:=hc;have hne:d.eqs ≠ []:=fun h=>by rw[h] at h3;cases h3
      have hcl:∀ x ∈ dw d,x.c=[]:=fun x hx=>by have:=h4 x hx;simpa using this
      have hx0:∀ (e:Ex) (p:PS) (a:AtF) (p' : PS),nxP e p=some (a,p')→p.w≤p'.w:=fun _ _ _ _ h=>by cases h
      have hx1:∀ (e:Ex) (p:PS) (a:AtF) (p' : PS),nxP e p=some (a,p')→p.nm≤p'.nm:=fun _ _ _ _ h=>by cases h
      have hfd:lM d.s (d :: L)=some d:=by
       have:strEq d.s d.s=true:=by rw[f7];simp
       simp only[lM,this,cond_true]
      obtain ⟨H',u',a1,a2,a3,a4,a5,a6,a7⟩:=IY m (sp:=nsp) (gv:=Xe 300) hL hfd (fun _ _ _ _ _ _ h=>by cases h) (fun vm fm q p p' h=>Uz hx0 h) h1 h2 hne (fun x hx=>by have:=h5 x hx;simpa using this) (fun uo bo H ns0 vm q hq _=>by
       intro Hc uc fm fm' p' h;cases h) (fun uo bo H ns0 vm fm q hq=>Kr m hx0 hx1 (.inl rfl) h1 hcl (fun k e hk _=>by
       intro H u a p' hxx
       have h1:(Nat.beq e.k 1 || Nat.beq e.k 2)=false∧Nat.beq e.k 3=false∧vT e.k=false∧Nat.beq e.k 8=false∧(Nat.beq e.k 9 || Nat.beq e.k 10)=false:=by
        rw[Bool.or_eq_true] at hk
        rcases hk with h | h <;> (have:=Nat.eq_of_beq_eq_true h;rw[this];decide)
       simp only[dD,h1.1,h1.2.1,h1.2.2.1,h1.2.2.2.1,h1.2.2.2.2,hk,cond_true,cond_false] at hxx;cases hxx) 300 (h6 q hq)) hp (by simp) (by omega) H
      exact ⟨H',u',a1,a2,a3,a5,a6,a7,hq.1,fun q hqm=>by have:=hq.2 q hqm;rw[dk,decide_eq_true_eq,ai] at this;exact this⟩
   ·cases h
theorem Uq (n:Nat):bO CC .eql 30 true (.ptr n 0) .nilp=some (.bool false):=by kernel_rfl
theorem Rl (u:UN):u.eqs.map EqF.dst=u.p.eqs.map QF.dst:=by simp[UN.p,EqF.q,Function.comp_def]
theorem Tu (u:UN):(u.eqs.map fun q=>readsL q.args)=u.p.eqs.map fun q=>readsL q.args:=by simp[UN.p,EqF.q,Function.comp_def]
theorem mU (h14:∀ a,M 14 a=none)(m:ia M){s:List Nat}{d:NdR}{L:List NdR}(hL:(d :: L).length≤90000)(hP:∀ H,orc CC M 8 [.str s] H=some (.ret (pV (d :: L)) H (aa H))){v:AV}(h:bB d=some v)(H:Heap):orc CC M 14 [.str s] H=some (.ret v H (aa H)):=by
 unfold bB at h
 split at h
 ·cases h
 rename_i p hfl
 split at h
 ·cases h
 rename_i c hso;simp only[SJ] at h;have hlz:∀ (K:Heap),aa (H ++ K)=aa H + aa K:=fun K=>aI _ _
 obtain ⟨H',u,hF,U,hup,hat,hlen,hlo,hw,hargs⟩:=B0 m hL hfl (H ++ [cz0,cz0]);have hl2:aa (H ++ [cz0,cz0])=aa H + 2:=by rw[aI];rfl
 rw[hl2] at hF hlen hlo;have U1:UI (aa H + 2 + 2) (H' ++ [cz0]) u:=by rw[hl2] at U;exact U.ap
 have hpw:u.vars≤90000∧u.eqs.length≤90000:=by
  have:=UN.pw u;rw[hup] at this;omega
 rw[← hup,← Rl,← Tu] at hso;obtain ⟨V,f,hS,hf⟩:=K9 (H:=H' ++ [cz0]) (m 24 · rfl) (m 37 · rfl) (m 51 · rfl) hpw.1 hpw.2 (fun q hq=>hargs (EqF.q q) (by rw[← hup];exact List.mem_map_of_mem hq)) U1 (Nat.le_refl _) hso
 have hfv:f=v:=by
  rw[hf,← h,hat,← hup];simp[UN.p]
 obtain ⟨x,y,hxy⟩ : ∃ x y:Int,v=.agg [.int .i64 x,.int .i64 y]:=by
  rw[← h];cases Nat.blt c p.eqs.length
  ·exact ⟨_,_,rfl⟩
  ·exact ⟨_,_,rfl⟩
 rw[hfv,hxy] at hS;rw[hxy];have e0:(envOf [AV.str s] 0 env0).a.a.a=.str s:=rfl;have hl1:aa (H ++ [cz0])=aa H + 1:=by rw[aI];rfl
 have hP1:=hP (H ++ [cz0]);rw[hl1] at hP1;have hln:=Dh (d :: L) .dead;have hi0:bb 6 (.sl 6 ((d :: L).map NdR.v) .dead) (.int .i64 0)=some (.iptr (fN d.s d.p d.ins d.outs d.vars (oc d.eqs))):=Cs (L:=d :: L) (i:=0) (a:=d) .dead rfl;have hfa:aG 0 (.iptr (fN d.s d.p d.ins d.outs d.vars (oc d.eqs)))=some (.iptr (fN d.s d.p d.ins d.outs d.vars (oc d.eqs))):=rfl;have hld:∀ h:Heap,ax none (.iptr (fN d.s d.p d.ins d.outs d.vars (oc d.eqs))) h=some (.str d.s):=fun _=>rfl
 have hc0:decide (((d :: L).length:Int)=0)=false:=by simp;omega
 have hl3:aa (H' ++ [cz0])=aa H' + 1:=by rw[aI];rfl
 rw[hl3] at hS;have g0:ae H' (aa H)=some cz0:=by rw[hlo _ (by omega),aD];rfl
 have gN:ae (H' ++ [cz0]) (aa H')=some cz0:=by rw[aD];rfl
 refine aL (z:=z14) (h14 _) (by kernel_rfl) rfl ?_
 generalize envOf [AV.str s] 0 env0=R at e0;have hm1:min (aa H) (aa H + 1)=aa H:=Nat.min_eq_left (by omega)
 have hm2:min (aa H) (aa H + 2)=aa H:=Nat.min_eq_left (by omega)
 have hm3:min (aa H) (aa H' + 1)=aa H:=Nat.min_eq_left (by omega)
 have hne:aa H ≠ aa H':=by omega
 have ge:∀ o,ae (H' ++ [o]) (aa H)=some cz0:=fun o=>aw g0 _
 have se:∀ (o o' : AObj),aj (H' ++ [o]) (aa H') o'=H' ++ [o']:=fun o o'=>by rw[dq];rfl
 have gs:∀ o,ae (H' ++ [o]) (aa H')=some o:=fun o=>by rw[aD];rfl
 have htk:∀ K o,bG (aa H) (aj (H' ++ K) (aa H) o)=H:=fun K o=>CY (by rw[an,aI];omega) (fun q hq=>by
  rw[af (by omega)]
  have:ae H' q=ae H q:=by
   rw[hlo q (by omega)]
   rw[ai] at hq;rw[az,az,List.getElem?_append_left hq]
  rw[← this];have hq' : q < H'.length:=by rw[← ai];omega
  rw[az,az,List.getElem?_append_left hq'])
 have hgc:=fun hp=>iw (k:=CC.keep 14) (b:=aa H) (v:=.agg [.int .i64 x,.int .i64 y]) (hp:=hp) rfl
 have hzs:=fun K o=>aO (aw g0 K) o
 have he30:=Uq (aa H + 2 + 2);simp only[z14,Nq,Ph,LR,PG,Od,LW,NH,SIM,ST0,ST1,ST2,ST3,EXS,e0,hP1,hm1,hln,hc0,hi0,hfa,hld,hF,hm2,hm3,he30,hS,ge,se,gs,hzs,hgc,htk,List.append_assoc,List.cons_append,List.nil_append,Nat.reduceAdd,Nat.reduceLeDiff]
end
namespace Ch
def nm (i:Nat):List Nat:=[116,48 + i / 10,48 + i % 10]
def vars:Nat→List Nat
 | 0=>[]
 | k + 1=>vars k ++ (nm k ++ [58,32,105,110,116,59,32])
def gX (la:Nat):List Nat:=match la with
 | 0=>nm 0
 | 1=>[40,48,32,45,62,32,112,114,101,32] ++ nm 0 ++ [41]
 | _=>[120]
def eP (n la i:Nat):List Nat:=cond (Nat.beq (i + 1) n) (gX la) (nm (i + 1))
def y9 (n la i:Nat):List Nat:=nm i ++ [32,61,32] ++ eP n la i ++ [32,43,32,49,59,32]
def f6 (n la r:Nat):Nat→List Nat
 | 0=>[]
 | k + 1=>f6 n la r k ++ y9 n la ((k + r) % n)
def gi (n:Nat):List Nat:=[110,111,100,101,32,102,40,120,58,32,105,110,116,41,32,114,101,116,117,114,110,115,32,40,121,58,32,105,110,116,41,32,118,97,114,32] ++ vars n ++ [108,101,116,32,121,32,61,32] ++ nm 0 ++ [59,32]
def kA (n la r:Nat):List Nat:=gi n ++ f6 n la r n ++ [116,101,108]
def want (la:Nat):AV:=cond (Nat.beq la 0) (.agg [.int .i64 5,.int .i64 10]) (.agg [.int .i64 0,.int .i64 0])
def rJ (g:Nat→Nat)(s:List Nat):Ex:=.mk 3 (g 0) 0 s false []
def sP (g:Nat→Nat)(n la i:Nat):Ex:=cond (Nat.beq (i + 1) n) (match la with
 | 0=>rJ g (nm 0)
 | 1=>.mk 8 (g 1) 0 [] false [.mk 1 (g 2) 0 [] false [],.mk 10 (g 3) 0 [] false [rJ g (nm 0)]]
 | _=>rJ g [120]) (rJ g (nm (i + 1)))
def To (g:Nat→Nat)(n la i:Nat):EqR:=⟨[(nm i,g 5)],false,.mk 6 (g 6) 0 [43] false [sP g n la i,.mk 1 (g 7) 1 [] false []]⟩
def eF (G:Nat→Nat→Nat)(n la r:Nat):Nat→Nat→List EqR
 | 0,_=>[]
 | c + 1,k=>To (G k) n la ((k + r) % n) :: eF G n la r c (k + 1)
def kG (s:List Nat)(p:Nat):DeR:=⟨s,p,false,false,[],false⟩
def vF (g:Nat→Nat):Nat→Nat→List DeR
 | 0,_=>[]
 | c + 1,k=>kG (nm k) (g k) :: vF g c (k + 1)
def node (g0:Nat→Nat)(G:Nat→Nat→Nat)(p q n la r:Nat):NdR:=⟨[102],5,[kG [120] 7],[kG [121] 24],vF g0 n 0,⟨[([121],p)],false,.mk 3 q 0 (nm 0) false []⟩ :: eF G n la r n 0⟩
end Ch
def JH (p:Nat)(x:TkR):TkR:=⟨x.k,p,x.t,x.m,x.err,p + x.pos⟩
theorem Dp (ws sg:List (List Nat))(p:Nat)(t:List Nat)(h:(gT ws sg 0 t).err=0):gT ws sg p t=JH p (gT ws sg 0 t):=by
 cases t with
 | nil=>rfl
 | cons b r =>
   unfold gT at h ⊢;cases hL:Iu b with
   | true =>
     simp only[hL,cond_true] at h ⊢;unfold Vv at h ⊢;cases hA:qi ((b :: r).takeWhile iD) ws with
     | true=>simp[JH]
     | false =>
       simp only[hA,cond_false] at h ⊢;cases h2:Nat.ble ((b :: r).takeWhile iD).length 30 with
       | true=>simp[JH]
       | false=>rw[h2] at h;cases h
   | false =>
     simp only[hL,cond_false] at h ⊢;cases hD:isD b with
     | true =>
       simp only[hD,cond_true] at h ⊢;generalize (b :: r).takeWhile isD=w at h ⊢;cases w with
       | nil=>cases h
       | cons d0 t' =>
         unfold UC at h ⊢;simp only at h ⊢;cases h2:(Nat.beq d0 48 && Nat.ble 2 (t'.length + 1)) with
         | true=>rw[h2] at h;cases h
         | false =>
           rw[h2] at h;simp only[cond_false] at h ⊢;cases h3:numS 0 (d0 :: t') with
           | none=>rw[h3] at h;cases h
           | some v=>simp[JH]
     | false =>
       simp only[hD,cond_false] at h ⊢;cases h2:oq (b :: r) sg with
       | none=>rw[h2] at h;cases h
       | some s=>simp[VN,JH]
def kO (ws sg:List (List Nat)):Nat→List Nat→Nat→Option (List TkR × List Nat × Nat)
 | 0,t,j=>some ([],t,j)
 | m + 1,t,j=>match blV t with
   | none=>none
   | some n=>match blV (t.drop n) with
     | none=>none
     | some z=>cond (Nat.beq z 0) (match gT ws sg 0 (t.drop n) with
       | x=>cond (Nat.beq x.err 0 && !Nat.beq x.k 5) (match kO ws sg m ((t.drop n).drop x.pos) (j + n + x.pos) with
         | none=>none
         | some (A,r)=>some (JH (j + n) x :: A,r)) none) none
theorem l8 {ws sg:List (List Nat)}:∀ (m:Nat) (t:List Nat) (j:Nat) (A:List TkR) (t' : List Nat) (j' k:Nat) (l:List TkR),kO ws sg m t j=some (A,t',j')→lg ws sg k t' j'=some l→lg ws sg (m + k) t j=some (A ++ l)
 | 0,t,j,A,t',j',k,l,h,hl=>by
   simp only[kO,SJ,PJ] at h;obtain ⟨rfl,rfl,rfl⟩:=h;rw[Nat.zero_add,List.nil_append];exact hl
 | m + 1,t,j,A,t',j',k,l,h,hl=>by
   simp only[kO] at h;cases h1:blV t with
   | none=>rw[h1] at h;cases h
   | some n =>
     rw[h1] at h;simp only at h;cases h2:blV (t.drop n) with
     | none=>rw[h2] at h;cases h
     | some z =>
       rw[h2] at h;simp only at h;obtain ⟨hz,h⟩:=aW h;obtain ⟨hc,h⟩:=aW h;rw[Bool.and_eq_true] at hc;have he:=Nat.eq_of_beq_eq_true hc.1;have hx:=Dp ws sg (j + n) (t.drop n) he;generalize gT ws sg 0 (t.drop n)=x at h hc he hx;cases h3:kO ws sg m ((t.drop n).drop x.pos) (j + n + x.pos) with
       | none=>rw[h3] at h;cases h
       | some q =>
         obtain ⟨A',t2,j2⟩:=q;rw[h3] at h;simp only[SJ,PJ] at h;obtain ⟨rfl,rfl,rfl⟩:=h;have ih:=l8 m _ _ _ _ _ k l h3 hl;rw[show m + 1 + k=(m + k) + 1 by omega]
         simp only[lg,h1,h2,hx,hz,cond_true];have e1:(JH (j + n) x).err=x.err:=rfl;have e2:(JH (j + n) x).k=x.k:=rfl;have e3:(JH (j + n) x).pos=j + n + x.pos:=rfl;have e4:Nat.beq x.k 5=false:=by have:=hc.2;simpa using this
         have e5:Nat.ble j (j + n + x.pos)=true:=Nat.ble_eq_true_of_le (by omega)
         have e6:t.drop (j + n + x.pos - j)=(t.drop n).drop x.pos:=by rw[List.drop_drop];congr 1;omega
         rw[e1,e2,e3,hc.1,e4,e5,e6,ih];rfl
structure Seg where
 b:List Nat
 T:Nat→List TkR
def Seg.ok (s:Seg):Prop:=∃ m,(∀ j,(s.T j).length=m)∧∀ (rest:List Nat) (j:Nat),kO wordsS signsS m (32 :: s.b ++ 32 :: rest) j=some (s.T j,32 :: rest,j + (s.b.length + 1))
def cP (l:List Seg):List Nat:=l.flatMap fun s=>32 :: s.b
def segT:List Seg→Nat→List TkR
 | [],_=>[]
 | s :: l,j=>s.T j ++ segT l (j + (s.b.length + 1))
theorem xX (l:List Seg)(rest:List Nat):∃ r,cP l ++ 32 :: rest=32 :: r:=by
 cases l with
 | nil=>exact ⟨rest,rfl⟩
 | cons s l=>exact ⟨s.b ++ cP l ++ 32 :: rest,by simp[cP]⟩
theorem segs_ok:∀ (l:List Seg),(∀ s ∈ l,s.ok)→∀ (rest:List Nat) (j k:Nat) (q:List TkR),lg wordsS signsS k (32 :: rest) (j + (cP l).length)=some q→lg wordsS signsS ((segT l j).length + k) (cP l ++ 32 :: rest) j=some (segT l j ++ q)
 | [],_,rest,j,k,q,h=>by
   simp only[cP,segT,List.flatMap_nil,List.length_nil,Nat.zero_add,Nat.add_zero,List.nil_append] at h ⊢;exact h
 | s :: l,hs,rest,j,k,q,h=>by
   obtain ⟨m,hm,hK⟩:=hs s (List.mem_cons_self ..);obtain ⟨r,hr⟩:=xX l rest;have e1:cP (s :: l) ++ 32 :: rest=32 :: s.b ++ (cP l ++ 32 :: rest):=by simp[cP]
   have e2:(cP (s :: l)).length=(s.b.length + 1) + (cP l).length:=by simp[cP];omega
   rw[e2,← Nat.add_assoc] at h;have ih:=segs_ok l (fun x hx=>hs x (List.mem_cons_of_mem _ hx)) rest (j + (s.b.length + 1)) k q h
   rw[e1,hr];rw[hr] at ih;have:=l8 m _ _ _ _ _ _ _ (hK r j) ih;simp only[segT,List.length_append,hm,Nat.add_assoc,List.append_assoc] at this ⊢;exact this
namespace Ch
def tN (s:List Nat)(p:Nat):TkR:=⟨1,p,s,0,0,p + s.length⟩
def tS (s:List Nat)(p:Nat):TkR:=⟨4,p,s,0,0,p + s.length⟩
def tW (s:List Nat)(p:Nat):TkR:=⟨3,p,s,0,0,p + s.length⟩
def tD (v:Nat)(s:List Nat)(p:Nat):TkR:=⟨2,p,s,v,0,p + s.length⟩
def iv (i:Nat):Seg:=⟨nm i ++ [58,32,105,110,116,59],fun j=>[tN (nm i) (j + 1),tS [58] (j + 4),tW [105,110,116] (j + 6),tS [59] (j + 9)]⟩
def letS:Seg:=⟨[108,101,116,32,121,32,61,32,116,48,48,59],fun j=>[tW [108,101,116] (j + 1),tN [121] (j + 5),tS [61] (j + 7),tN (nm 0) (j + 9),tS [59] (j + 12)]⟩
def eE (n la i:Nat):Seg:=⟨nm i ++ [32,61,32] ++ eP n la i ++ [32,43,32,49,59],fun j=>cond (Nat.beq (i + 1) n) (match la with
 | 0=>[tN (nm i) (j + 1),tS [61] (j + 5),tN (nm 0) (j + 7),tS [43] (j + 11),tD 1 [49] (j + 13),tS [59] (j + 14)]
 | 1=>[tN (nm i) (j + 1),tS [61] (j + 5),tS [40] (j + 7),tD 0 [48] (j + 8),tS [45,62] (j + 10),tW [112,114,101] (j + 13),tN (nm 0) (j + 17),tS [41] (j + 20),tS [43] (j + 22),tD 1 [49] (j + 24),tS [59] (j + 25)]
 | _=>[tN (nm i) (j + 1),tS [61] (j + 5),tN [120] (j + 7),tS [43] (j + 9),tD 1 [49] (j + 11),tS [59] (j + 12)])
 [tN (nm i) (j + 1),tS [61] (j + 5),tN (nm (i + 1)) (j + 7),tS [43] (j + 11),tD 1 [49] (j + 13),tS [59] (j + 14)]⟩
theorem dseg_lex:∀ (i:Nat),i < 30→∀ (rest:List Nat) (j:Nat),kO wordsS signsS 4 (32 :: (iv i).b ++ 32 :: rest) j=some ((iv i).T j,32 :: rest,j + ((iv i).b.length + 1))
 | 0,_,rest,j=>by kernel_rfl
 | 1,_,rest,j=>by kernel_rfl
 | 2,_,rest,j=>by kernel_rfl
 | 3,_,rest,j=>by kernel_rfl
 | 4,_,rest,j=>by kernel_rfl
 | 5,_,rest,j=>by kernel_rfl
 | 6,_,rest,j=>by kernel_rfl
 | 7,_,rest,j=>by kernel_rfl
 | 8,_,rest,j=>by kernel_rfl
 | 9,_,rest,j=>by kernel_rfl
 | 10,_,rest,j=>by kernel_rfl
 | 11,_,rest,j=>by kernel_rfl
 | 12,_,rest,j=>by kernel_rfl
 | 13,_,rest,j=>by kernel_rfl
 | 14,_,rest,j=>by kernel_rfl
 | 15,_,rest,j=>by kernel_rfl
 | 16,_,rest,j=>by kernel_rfl
 | 17,_,rest,j=>by kernel_rfl
 | 18,_,rest,j=>by kernel_rfl
 | 19,_,rest,j=>by kernel_rfl
 | 20,_,rest,j=>by kernel_rfl
 | 21,_,rest,j=>by kernel_rfl
 | 22,_,rest,j=>by kernel_rfl
 | 23,_,rest,j=>by kernel_rfl
 | 24,_,rest,j=>by kernel_rfl
 | 25,_,rest,j=>by kernel_rfl
 | 26,_,rest,j=>by kernel_rfl
 | 27,_,rest,j=>by kernel_rfl
 | 28,_,rest,j=>by kernel_rfl
 | 29,_,rest,j=>by kernel_rfl
 | n + 30,h,_,_=>absurd h (by omega)
theorem KP {i:Nat}(h:i < 30):(iv i).ok:=⟨4,fun _=>rfl,dseg_lex i h⟩
theorem letS_ok:letS.ok:=⟨5,fun _=>rfl,fun rest j=>by kernel_rfl⟩
theorem esegN_lex:∀ (i:Nat),i < 29→∀ (rest:List Nat) (j:Nat),kO wordsS signsS 6 (32 :: (nm i ++ [32,61,32] ++ nm (i + 1) ++ [32,43,32,49,59]) ++ 32 :: rest) j=some ([tN (nm i) (j + 1),tS [61] (j + 5),tN (nm (i + 1)) (j + 7),tS [43] (j + 11),tD 1 [49] (j + 13),tS [59] (j + 14)],32 :: rest,j + ((nm i ++ [32,61,32] ++ nm (i + 1) ++ [32,43,32,49,59]).length + 1))
 | 0,_,rest,j=>by kernel_rfl
 | 1,_,rest,j=>by kernel_rfl
 | 2,_,rest,j=>by kernel_rfl
 | 3,_,rest,j=>by kernel_rfl
 | 4,_,rest,j=>by kernel_rfl
 | 5,_,rest,j=>by kernel_rfl
 | 6,_,rest,j=>by kernel_rfl
 | 7,_,rest,j=>by kernel_rfl
 | 8,_,rest,j=>by kernel_rfl
 | 9,_,rest,j=>by kernel_rfl
 | 10,_,rest,j=>by kernel_rfl
 | 11,_,rest,j=>by kernel_rfl
 | 12,_,rest,j=>by kernel_rfl
 | 13,_,rest,j=>by kernel_rfl
 | 14,_,rest,j=>by kernel_rfl
 | 15,_,rest,j=>by kernel_rfl
 | 16,_,rest,j=>by kernel_rfl
 | 17,_,rest,j=>by kernel_rfl
 | 18,_,rest,j=>by kernel_rfl
 | 19,_,rest,j=>by kernel_rfl
 | 20,_,rest,j=>by kernel_rfl
 | 21,_,rest,j=>by kernel_rfl
 | 22,_,rest,j=>by kernel_rfl
 | 23,_,rest,j=>by kernel_rfl
 | 24,_,rest,j=>by kernel_rfl
 | 25,_,rest,j=>by kernel_rfl
 | 26,_,rest,j=>by kernel_rfl
 | 27,_,rest,j=>by kernel_rfl
 | 28,_,rest,j=>by kernel_rfl
 | n + 29,h,_,_=>absurd h (by omega)
theorem E2 {n i:Nat}(h:i + 1 < n)(hn:n≤30)(la:Nat):(eE n la i).ok:=by
 have hb:Nat.beq (i + 1) n=false:=by rw[gY];simp;omega
 refine ⟨6,fun j=>by simp only[eE,hb,cond_false];rfl,fun rest j=>?_⟩
 simp only[eE,eP,hb,cond_false];exact esegN_lex i (by omega) rest j
theorem esegL0_lex:∀ (i:Nat),i < 30→∀ (rest:List Nat) (j:Nat),kO wordsS signsS 6 (32 :: (nm i ++ [32,61,32] ++ gX 0 ++ [32,43,32,49,59]) ++ 32 :: rest) j=some ([tN (nm i) (j + 1),tS [61] (j + 5),tN (nm 0) (j + 7),tS [43] (j + 11),tD 1 [49] (j + 13),tS [59] (j + 14)],32 :: rest,j + ((nm i ++ [32,61,32] ++ gX 0 ++ [32,43,32,49,59]).length + 1))
 | 0,_,rest,j=>by kernel_rfl
 | 1,_,rest,j=>by kernel_rfl
 | 2,_,rest,j=>by kernel_rfl
 | 3,_,rest,j=>by kernel_rfl
 | 4,_,rest,j=>by kernel_rfl
 | 5,_,rest,j=>by kernel_rfl
 | 6,_,rest,j=>by kernel_rfl
 | 7,_,rest,j=>by kernel_rfl
 | 8,_,rest,j=>by kernel_rfl
 | 9,_,rest,j=>by kernel_rfl
 | 10,_,rest,j=>by kernel_rfl
 | 11,_,rest,j=>by kernel_rfl
 | 12,_,rest,j=>by kernel_rfl
 | 13,_,rest,j=>by kernel_rfl
 | 14,_,rest,j=>by kernel_rfl
 | 15,_,rest,j=>by kernel_rfl
 | 16,_,rest,j=>by kernel_rfl
 | 17,_,rest,j=>by kernel_rfl
 | 18,_,rest,j=>by kernel_rfl
 | 19,_,rest,j=>by kernel_rfl
 | 20,_,rest,j=>by kernel_rfl
 | 21,_,rest,j=>by kernel_rfl
 | 22,_,rest,j=>by kernel_rfl
 | 23,_,rest,j=>by kernel_rfl
 | 24,_,rest,j=>by kernel_rfl
 | 25,_,rest,j=>by kernel_rfl
 | 26,_,rest,j=>by kernel_rfl
 | 27,_,rest,j=>by kernel_rfl
 | 28,_,rest,j=>by kernel_rfl
 | 29,_,rest,j=>by kernel_rfl
 | n + 30,h,_,_=>absurd h (by omega)
theorem zB {i:Nat}(hi:i < 30):(eE (i + 1) 0 i).ok:=by
 have hb:Nat.beq (i + 1) (i + 1)=true:=by rw[gY];simp
 refine ⟨6,fun j=>by simp only[eE,hb,cond_true];rfl,fun rest j=>?_⟩
 simp only[eE,eP,hb,cond_true];exact esegL0_lex i hi rest j
theorem esegL1_lex:∀ (i:Nat),i < 30→∀ (rest:List Nat) (j:Nat),kO wordsS signsS 11 (32 :: (nm i ++ [32,61,32] ++ gX 1 ++ [32,43,32,49,59]) ++ 32 :: rest) j=some ([tN (nm i) (j + 1),tS [61] (j + 5),tS [40] (j + 7),tD 0 [48] (j + 8),tS [45,62] (j + 10),tW [112,114,101] (j + 13),tN (nm 0) (j + 17),tS [41] (j + 20),tS [43] (j + 22),tD 1 [49] (j + 24),tS [59] (j + 25)],32 :: rest,j + ((nm i ++ [32,61,32] ++ gX 1 ++ [32,43,32,49,59]).length + 1))
 | 0,_,rest,j=>by kernel_rfl
 | 1,_,rest,j=>by kernel_rfl
 | 2,_,rest,j=>by kernel_rfl
 | 3,_,rest,j=>by kernel_rfl
 | 4,_,rest,j=>by kernel_rfl
 | 5,_,rest,j=>by kernel_rfl
 | 6,_,rest,j=>by kernel_rfl
 | 7,_,rest,j=>by kernel_rfl
 | 8,_,rest,j=>by kernel_rfl
 | 9,_,rest,j=>by kernel_rfl
 | 10,_,rest,j=>by kernel_rfl
 | 11,_,rest,j=>by kernel_rfl
 | 12,_,rest,j=>by kernel_rfl
 | 13,_,rest,j=>by kernel_rfl
 | 14,_,rest,j=>by kernel_rfl
 | 15,_,rest,j=>by kernel_rfl
 | 16,_,rest,j=>by kernel_rfl
 | 17,_,rest,j=>by kernel_rfl
 | 18,_,rest,j=>by kernel_rfl
 | 19,_,rest,j=>by kernel_rfl
 | 20,_,rest,j=>by kernel_rfl
 | 21,_,rest,j=>by kernel_rfl
 | 22,_,rest,j=>by kernel_rfl
 | 23,_,rest,j=>by kernel_rfl
 | 24,_,rest,j=>by kernel_rfl
 | 25,_,rest,j=>by kernel_rfl
 | 26,_,rest,j=>by kernel_rfl
 | 27,_,rest,j=>by kernel_rfl
 | 28,_,rest,j=>by kernel_rfl
 | 29,_,rest,j=>by kernel_rfl
 | n + 30,h,_,_=>absurd h (by omega)
theorem zw {i:Nat}(hi:i < 30):(eE (i + 1) 1 i).ok:=by
 have hb:Nat.beq (i + 1) (i + 1)=true:=by rw[gY];simp
 refine ⟨11,fun j=>by simp only[eE,hb,cond_true];rfl,fun rest j=>?_⟩
 simp only[eE,eP,hb,cond_true];exact esegL1_lex i hi rest j
theorem esegL2_lex:∀ (i:Nat),i < 30→∀ (rest:List Nat) (j:Nat),kO wordsS signsS 6 (32 :: (nm i ++ [32,61,32] ++ gX 2 ++ [32,43,32,49,59]) ++ 32 :: rest) j=some ([tN (nm i) (j + 1),tS [61] (j + 5),tN [120] (j + 7),tS [43] (j + 9),tD 1 [49] (j + 11),tS [59] (j + 12)],32 :: rest,j + ((nm i ++ [32,61,32] ++ gX 2 ++ [32,43,32,49,59]).length + 1))
 | 0,_,rest,j=>by kernel_rfl
 | 1,_,rest,j=>by kernel_rfl
 | 2,_,rest,j=>by kernel_rfl
 | 3,_,rest,j=>by kernel_rfl
 | 4,_,rest,j=>by kernel_rfl
 | 5,_,rest,j=>by kernel_rfl
 | 6,_,rest,j=>by kernel_rfl
 | 7,_,rest,j=>by kernel_rfl
 | 8,_,rest,j=>by kernel_rfl
 | 9,_,rest,j=>by kernel_rfl
 | 10,_,rest,j=>by kernel_rfl
 | 11,_,rest,j=>by kernel_rfl
 | 12,_,rest,j=>by kernel_rfl
 | 13,_,rest,j=>by kernel_rfl
 | 14,_,rest,j=>by kernel_rfl
 | 15,_,rest,j=>by kernel_rfl
 | 16,_,rest,j=>by kernel_rfl
 | 17,_,rest,j=>by kernel_rfl
 | 18,_,rest,j=>by kernel_rfl
 | 19,_,rest,j=>by kernel_rfl
 | 20,_,rest,j=>by kernel_rfl
 | 21,_,rest,j=>by kernel_rfl
 | 22,_,rest,j=>by kernel_rfl
 | 23,_,rest,j=>by kernel_rfl
 | 24,_,rest,j=>by kernel_rfl
 | 25,_,rest,j=>by kernel_rfl
 | 26,_,rest,j=>by kernel_rfl
 | 27,_,rest,j=>by kernel_rfl
 | 28,_,rest,j=>by kernel_rfl
 | 29,_,rest,j=>by kernel_rfl
 | n + 30,h,_,_=>absurd h (by omega)
theorem zP {i:Nat}(hi:i < 30):(eE (i + 1) 2 i).ok:=by
 have hb:Nat.beq (i + 1) (i + 1)=true:=by rw[gY];simp
 refine ⟨6,fun j=>by simp only[eE,hb,cond_true];rfl,fun rest j=>?_⟩
 simp only[eE,eP,hb,cond_true];exact esegL2_lex i hi rest j
theorem Jl {n la i:Nat}(hi:i < n)(hn:n≤30)(hla:la < 3):(eE n la i).ok:=by
 by_cases h:i + 1=n
 ·subst h
  match la,hla with
  | 0,_=>exact zB (by omega)
  | 1,_=>exact zw (by omega)
  | 2,_=>exact zP (by omega)
  | n + 3,h=>omega
 ·exact E2 (by omega) hn la
end Ch
section
variable {ts:List TkR}{k i j j2:Nat}{x y z:TkR}{a b:Ex}
theorem hZ (f:PF):pp ts (k + 1) f i=jg ts (pp ts k) k f i:=rfl
theorem Bi (h:ae ts i=some x)(hx:Nat.beq x.k 1=true)(hx2:Nat.beq x.k 2=false)(h' : ae ts (i + 1)=some y)(hy:bz y [[40]]=false):pp ts (k + 1) .prim i=some (.mk 3 x.p 0 x.t false [],i + 1):=by
 rw[hZ];simp only[jg,eB,h,h',hx,hx2,hy,cond_true,cond_false]
theorem Pk (h:ae ts i=some x)(hx2:Nat.beq x.k 2=true)(hn:iJ x x.p false=some a):pp ts (k + 1) .prim i=some (a,i + 1):=by
 rw[hZ];simp only[jg,eB,h,hx2,hn,cond_true,cond_false]
theorem T0 (h:ae ts i=some x)(hx:Nat.beq x.k 1=false)(hx2:Nat.beq x.k 2=false)(hw:bz x [[116,114,117,101],[102,97,108,115,101],[109,101,114,103,101],[97,119,97,105,116],[40]]=true)(ht:x.t=[40])(he:pp ts k .expr (i + 1)=some (a,j))(h' : ae ts j=some y)(hy:bz y [[41]]=true):pp ts (k + 1) .prim i=some (a,j + 1):=by
 rw[hZ];have e1:strEq [40] [109,101,114,103,101]=false:=rfl;have e2:strEq [40] [97,119,97,105,116]=false:=rfl;have e3:strEq [40] [40]=true:=rfl;simp only[jg,eB,dl,ka,h,h',hx,hx2,hw,hy,ht,e1,e2,e3,he,cond_true,cond_false]
theorem HI (h:pp ts (k + 1) .prim i=some (a,j))(h' : ae ts j=some y)(hy:bz y [[119,104,101,110]]=false):pp ts (k + 2) .when_ i=some (a,j):=by
 rw[hZ];simp only[jg,ka,h,oD,eB,h',hy,cond_false]
theorem Wb (h:ae ts i=some x)(h1:bz x [[112,114,101]]=false)(h2:bz x [[45]]=false):pp ts (k + 1) .unary i=pp ts k .when_ i:=by
 rw[hZ];simp only[jg,eB,h,h1,h2,cond_false]
theorem VP (h:ae ts i=some x)(h1:bz x [[112,114,101]]=true)(ha:pp ts k .unary (i + 1)=some (a,j)):pp ts (k + 1) .unary i=some (.mk 10 x.p 0 [] false [a],j):=by
 rw[hZ];simp only[jg,eB,ka,h,h1,ha,cond_true]
theorem jA {ws:List (List Nat)}{kid:Nat→PR}(h:kid i=some (a,j))(h' : ae ts j=some y)(hy:bz y ws=false):jF ts ws kid (k + 1) i=some (a,j):=by
 simp only[jF,ka,h,oU,eB,h',hy,cond_false]
theorem JT {ws:List (List Nat)}{kid:Nat→PR}(h:kid i=some (a,j))(h' : ae ts j=some y)(hy:bz y ws=true)(hb:kid (j + 1)=some (b,j2))(h2:ae ts j2=some z)(hz:bz z ws=false):jF ts ws kid (k + 2) i=some (.mk 6 y.p 0 y.t false [a,b],j2):=by
 simp only[jF,ka,h,oU,eB,h',hy,hb,h2,hz,cond_true,cond_false]
theorem UZ (h:ae ts i=some x)(h1:bz x [[110,111,116]]=false)(ha:pp ts k .sum i=some (a,j))(h' : ae ts j=some y)(hy:bz y [[61],[60,62],[60],[60,61],[62],[62,61]]=false):pp ts (k + 1) .not_ i=some (a,j):=by
 rw[hZ];simp only[jg,eB,ka,h,h1,ha,h',hy,cond_false]
theorem Io (ha:pp ts k .or_ i=some (a,j))(h' : ae ts j=some y)(h1:bz y [[45,62]]=false)(h2:bz y [[102,98,121]]=false):pp ts (k + 1) .arrow i=some (a,j):=by
 rw[hZ];simp only[jg,eB,ka,ha,h',h1,h2,cond_false]
theorem Td (ha:pp ts k .or_ i=some (a,j))(h' : ae ts j=some y)(h1:bz y [[45,62]]=true)(hb:pp ts k .arrow (j + 1)=some (b,j2)):pp ts (k + 1) .arrow i=some (.mk 8 y.p 0 [] false [a,b],j2):=by
 rw[hZ];simp only[jg,eB,ka,ha,h',h1,hb,cond_true]
theorem wA (h:ae ts i=some x)(h1:bz x [[105,102]]=false):pp ts (k + 1) .expr i=pp ts k .arrow i:=by
 rw[hZ];simp only[jg,eB,h,h1,cond_false]
theorem Ll (hp:pp ts (k + 1) .prim i=some (a,j))(h:ae ts i=some x)(h1:bz x [[112,114,101]]=false)(h2:bz x [[45]]=false)(h' : ae ts j=some y)(hw:bz y [[119,104,101,110]]=false)(h9:bz y [[42],[47],[109,111,100]]=false):pp ts (k + 4) .term i=some (a,j):=by
 have e1:=HI hp h' hw;have e2:pp ts (k + 3) .unary i=some (a,j):=by rw[Wb h h1 h2];exact e1
 rw[hZ];exact jA e2 h' h9
theorem IK (hs:pp ts (k + 1) .sum i=some (a,j))(h:ae ts i=some x)(h1:bz x [[110,111,116]]=false)(h' : ae ts j=some y)(hc:bz y [[61],[60,62],[60],[60,61],[62],[62,61]]=false)(ha:bz y [[97,110,100]]=false)(ho:bz y [[111,114],[120,111,114]]=false):pp ts (k + 4) .or_ i=some (a,j):=by
 have e1:=UZ h h1 hs h' hc;have e2:pp ts (k + 3) .and_ i=some (a,j):=by rw[hZ];exact jA e1 h' ha
 rw[hZ];exact jA e2 h' ho
end
structure Stop (y:TkR):Prop where
 w:bz y [[119,104,101,110]]=false
 t:bz y [[42],[47],[109,111,100]]=false
 s:bz y [[43],[45]]=false
 c:bz y [[61],[60,62],[60],[60,61],[62],[62,61]]=false
 a:bz y [[97,110,100]]=false
 o:bz y [[111,114],[120,111,114]]=false
 r:bz y [[45,62]]=false
 f:bz y [[102,98,121]]=false
 p:bz y [[40]]=false
structure cE (x:TkR):Prop where
 r:bz x [[112,114,101]]=false
 m:bz x [[45]]=false
 n:bz x [[110,111,116]]=false
 i:bz x [[105,102]]=false
theorem gd {ts:List TkR}{i:Nat}{a:TkR}{q:List TkR}(h:ts.drop i=a :: q):ae ts i=some a∧ts.drop (i + 1)=q:=by
 have h1:i < ts.length:=by
  cases Nat.lt_or_ge i ts.length with
  | inl h=>exact h
  | inr h2=>rw[List.drop_of_length_le h2] at h;cases h
 rw[List.drop_eq_getElem_cons h1] at h;simp only[List.cons.injEq] at h;exact ⟨by rw[az,List.getElem?_eq_getElem h1,h.1],h.2⟩
namespace Ch
theorem QR (s:List Nat)(p:Nat):cE (tN s p):=⟨rfl,rfl,rfl,rfl⟩
theorem Q5 (p:Nat):cE (tS [40] p):=⟨rfl,rfl,rfl,rfl⟩
theorem Jq (p:Nat):Stop (tS [59] p):=⟨rfl,rfl,rfl,rfl,rfl,rfl,rfl,rfl,rfl⟩
section
variable {ts:List TkR}{k i j:Nat}{x y z:TkR}{a b:Ex}
theorem q8 {s:List Nat}{p:Nat}(h:ae ts i=some (tN s p))(h' : ae ts (i + 1)=some y)(hp:bz y [[40]]=false)(hw:bz y [[119,104,101,110]]=false)(ht:bz y [[42],[47],[109,111,100]]=false):pp ts (k + 4) .term i=some (.mk 3 p 0 s false [],i + 1) :=
 Ll (Bi h rfl rfl h' hp) h rfl rfl h' hw ht
theorem VO {p:Nat}(h:ae ts i=some (tD 1 [49] p))(h' : ae ts (i + 1)=some y)(hy:Stop y):pp ts (k + 4) .term i=some (.mk 1 p 1 [] false [],i + 1) :=
 Ll (Pk h rfl rfl) h rfl rfl h' hy.w hy.t
theorem yC {p4 p5 p6:Nat}(hT:pp ts (k + 4) .term i=some (a,j))(h:ae ts i=some x)(hx:cE x)(h1:ae ts j=some (tS [43] p4))(h2:ae ts (j + 1)=some (tD 1 [49] p5))(h3:ae ts (j + 2)=some (tS [59] p6)):pp ts (k + 10) .expr i=some (.mk 6 p4 0 [43] false [a,.mk 1 p5 1 [] false []],j + 2):=by
 have e1:pp ts (k + 5) .sum i=some (.mk 6 p4 0 [43] false [a,.mk 1 p5 1 [] false []],j + 2):=by
  rw[hZ];exact JT (k:=k + 2) hT h1 rfl (VO (k:=k) h2 h3 (Jq p6)) h3 rfl
 have e2:=IK (k:=k + 4) e1 h hx.n h3 rfl rfl rfl;rw[wA h hx.i];exact Io e2 h3 rfl rfl
theorem Tt {s:List Nat}{p p6:Nat}(h:ae ts i=some (tN s p))(h3:ae ts (i + 1)=some (tS [59] p6)):pp ts (k + 10) .expr i=some (.mk 3 p 0 s false [],i + 1):=by
 have e1:pp ts (k + 5) .sum i=some (.mk 3 p 0 s false [],i + 1):=by
  rw[hZ];exact jA (k:=k + 3) (q8 (k:=k) h h3 rfl rfl rfl) h3 rfl
 have e2:=IK (k:=k + 4) e1 h rfl h3 rfl rfl rfl;rw[wA h rfl];exact Io e2 h3 rfl rfl
theorem UA {s:List Nat}{p1 p2 p3 p4 p5 p6:Nat}(g0:ae ts i=some (tS [40] p1))(g1:ae ts (i + 1)=some (tD 0 [48] p2))(g2:ae ts (i + 2)=some (tS [45,62] p3))(g3:ae ts (i + 3)=some (tW [112,114,101] p4))(g4:ae ts (i + 4)=some (tN s p5))(g5:ae ts (i + 5)=some (tS [41] p6))(g6:ae ts (i + 6)=some y)(hw:bz y [[119,104,101,110]]=false)(ht:bz y [[42],[47],[109,111,100]]=false) :
  pp ts (k + 20) .term i=some (.mk 8 p3 0 [] false [.mk 1 p2 0 [] false [],.mk 10 p4 0 [] false [.mk 3 p5 0 s false []]],i + 6):=by
 have a1:pp ts (k + 10) .term (i + 1)=some (.mk 1 p2 0 [] false [],i + 2):=Ll (Pk g1 rfl rfl) g1 rfl rfl g2 rfl rfl;have a2:pp ts (k + 11) .sum (i + 1)=some (.mk 1 p2 0 [] false [],i + 2):=by rw[hZ];exact jA (k:=k + 9) a1 g2 rfl
 have a3:=IK (k:=k + 10) a2 g1 rfl g2 rfl rfl rfl
 have b1:pp ts (k + 7) .unary (i + 4)=some (.mk 3 p5 0 s false [],i + 5):=by
  rw[Wb g4 rfl rfl];exact HI (Bi g4 rfl rfl g5 rfl) g5 rfl
 have b2:pp ts (k + 8) .unary (i + 3)=some (.mk 10 p4 0 [] false [.mk 3 p5 0 s false []],i + 5):=VP g3 rfl b1;have b3:pp ts (k + 9) .term (i + 3)=some (.mk 10 p4 0 [] false [.mk 3 p5 0 s false []],i + 5):=by rw[hZ];exact jA (k:=k + 7) b2 g5 rfl
 have b4:pp ts (k + 10) .sum (i + 3)=some (.mk 10 p4 0 [] false [.mk 3 p5 0 s false []],i + 5):=by rw[hZ];exact jA (k:=k + 8) b3 g5 rfl
 have b5:=IK (k:=k + 9) b4 g3 rfl g5 rfl rfl rfl;have b6:pp ts (k + 14) .arrow (i + 3)=some (.mk 10 p4 0 [] false [.mk 3 p5 0 s false []],i + 5):=Io b5 g5 rfl rfl;have c1:pp ts (k + 15) .arrow (i + 1)=some (.mk 8 p3 0 [] false [.mk 1 p2 0 [] false [],.mk 10 p4 0 [] false [.mk 3 p5 0 s false []]],i + 5):=Td a3 g2 rfl b6;have c2:pp ts (k + 16) .expr (i + 1)=some (.mk 8 p3 0 [] false [.mk 1 p2 0 [] false [],.mk 10 p4 0 [] false [.mk 3 p5 0 s false []]],i + 5):=by rw[wA g1 rfl];exact c1
 exact Ll (k:=k + 16) (T0 g0 rfl rfl rfl rfl c2 g5 rfl) g0 rfl rfl g6 hw ht
end
end Ch
namespace Ch
theorem mM {ts:List TkR}{i j p0 p1 p6:Nat}{s:List Nat}{z:TkR}{e:Ex}(g0:ae ts i=some (tN s p0))(g1:ae ts (i + 1)=some (tS [61] p1))(g2:ae ts (i + 2)=some z)(hz:bz z asW=false)(he:pp ts 500 .expr (i + 2)=some (e,j))(hj:ae ts j=some (tS [59] p6))(hs:Nat.ble (sizeE e + 1) 90000=true)(hd:Nat.ble (deepE e) 40=true) :
  II ts 500 i=some (⟨[(s,p0)],false,e⟩,j + 1):=by
 have a1:Nat.beq (tN s p0).k 1=true:=rfl;have a2:bz (tS [61] p1) [[61]]=true:=rfl;have a3:bz (tS [59] p6) [[59]]=true:=rfl;simp only[II,fC,dl,eB,g0,g1,g2,a1,a2,hz,cond_true,cond_false,he,ru,hs,hd,Bool.and_self,hj,a3];rfl
theorem fT {a b:Nat}(h:a≤b):Nat.ble a b=true:=Nat.ble_eq_true_of_le h
theorem RL {ts R:List TkR}{i j:Nat}(h:ts.drop i=tN [121] (j + 5) :: tS [61] (j + 7) :: tN (nm 0) (j + 9) :: tS [59] (j + 12) :: R):II ts 500 i=some (⟨[([121],j + 5)],false,.mk 3 (j + 9) 0 (nm 0) false []⟩,i + 4)∧ts.drop (i + 4)=R:=by
 obtain ⟨g0,h⟩:=gd h;obtain ⟨g1,h⟩:=gd h;obtain ⟨g2,h⟩:=gd h;obtain ⟨g3,h⟩:=gd h;exact ⟨mM g0 g1 g2 rfl (Tt (k:=490) g2 g3) g3 (fT (by simp[sizeE,sizeL])) (fT (by simp[deepE,deepL])),h⟩
theorem R3 {ts R:List TkR}{i j n la i' : Nat}(hla:la < 3)(h:ts.drop i=(eE n la i').T j ++ R):∃ g m,II ts 500 i=some (To g n la i',i + m)∧ts.drop (i + m)=R∧∃ x,ae ts i=some x∧bz x [[116,101,108]]=false:=by
 cases hb:Nat.beq (i' + 1) n with
 | false =>
   simp only[eE,hb,cond_false,List.cons_append,List.nil_append] at h;obtain ⟨g0,h⟩:=gd h;obtain ⟨g1,h⟩:=gd h;obtain ⟨g2,h⟩:=gd h;obtain ⟨g3,h⟩:=gd h;obtain ⟨g4,h⟩:=gd h;obtain ⟨g5,h⟩:=gd h;have he:=yC (k:=490) (q8 (k:=490) g2 g3 rfl rfl rfl) g2 (QR _ _) g3 g4 g5;have:=mM g0 g1 g2 rfl he g5 (fT (by simp[sizeE,sizeL])) (fT (by simp[deepE,deepL]))
   refine ⟨fun c=>match c with | 0=>j + 7 | 5=>j + 1 | 6=>j + 11 | _=>j + 13,6,?_,h,_,g0,rfl⟩
   simp only[To,sP,hb,cond_false,rJ];exact this
 | true =>
   match la,hla with
   | 0,_ =>
     simp only[eE,hb,cond_true,List.cons_append,List.nil_append] at h;obtain ⟨g0,h⟩:=gd h;obtain ⟨g1,h⟩:=gd h;obtain ⟨g2,h⟩:=gd h;obtain ⟨g3,h⟩:=gd h;obtain ⟨g4,h⟩:=gd h;obtain ⟨g5,h⟩:=gd h;have he:=yC (k:=490) (q8 (k:=490) g2 g3 rfl rfl rfl) g2 (QR _ _) g3 g4 g5;have:=mM g0 g1 g2 rfl he g5 (fT (by simp[sizeE,sizeL])) (fT (by simp[deepE,deepL]))
     refine ⟨fun c=>match c with | 0=>j + 7 | 5=>j + 1 | 6=>j + 11 | _=>j + 13,6,?_,h,_,g0,rfl⟩
     simp only[To,sP,hb,cond_true,rJ];exact this
   | 2,_ =>
     simp only[eE,hb,cond_true,List.cons_append,List.nil_append] at h;obtain ⟨g0,h⟩:=gd h;obtain ⟨g1,h⟩:=gd h;obtain ⟨g2,h⟩:=gd h;obtain ⟨g3,h⟩:=gd h;obtain ⟨g4,h⟩:=gd h;obtain ⟨g5,h⟩:=gd h;have he:=yC (k:=490) (q8 (k:=490) g2 g3 rfl rfl rfl) g2 (QR _ _) g3 g4 g5;have:=mM g0 g1 g2 rfl he g5 (fT (by simp[sizeE,sizeL])) (fT (by simp[deepE,deepL]))
     refine ⟨fun c=>match c with | 0=>j + 7 | 5=>j + 1 | 6=>j + 9 | _=>j + 11,6,?_,h,_,g0,rfl⟩
     simp only[To,sP,hb,cond_true,rJ];exact this
   | 1,_ =>
     simp only[eE,hb,cond_true,List.cons_append,List.nil_append] at h;obtain ⟨g0,h⟩:=gd h;obtain ⟨g1,h⟩:=gd h;obtain ⟨g2,h⟩:=gd h;obtain ⟨g3,h⟩:=gd h;obtain ⟨g4,h⟩:=gd h;obtain ⟨g5,h⟩:=gd h;obtain ⟨g6,h⟩:=gd h;obtain ⟨g7,h⟩:=gd h;obtain ⟨g8,h⟩:=gd h;obtain ⟨g9,h⟩:=gd h;obtain ⟨R8,h⟩:=gd h;have he:=yC (k:=490) (UA (k:=474) g2 g3 g4 g5 g6 g7 g8 rfl rfl) g2 (Q5 _) g8 g9 R8;have:=mM g0 g1 g2 rfl he R8 (fT (by simp[sizeE,sizeL])) (fT (by simp[deepE,deepL]))
     refine ⟨fun c=>match c with | 0=>j + 17 | 1=>j + 10 | 2=>j + 8 | 3=>j + 13 | 5=>j + 1 | 6=>j + 22 | _=>j + 24,11,?_,h,_,g0,rfl⟩
     simp only[To,sP,hb,cond_true,rJ];exact this
theorem ND {G G' : Nat→Nat→Nat}{n la r:Nat}:∀ (c k:Nat),(∀ m,k≤m→G m=G' m)→eF G n la r c k=eF G' n la r c k
 | 0,_,_=>rfl
 | c + 1,k,h=>by
   simp only[eF,h k (Nat.le_refl _)];rw[ND c (k + 1) (fun m hm=>h m (by omega))]
theorem Ox {G G' : Nat→Nat}:∀ (c k:Nat),(∀ m,k≤m→G m=G' m)→vF G c k=vF G' c k
 | 0,_,_=>rfl
 | c + 1,k,h=>by
   simp only[vF,h k (Nat.le_refl _)];rw[Ox c (k + 1) (fun m hm=>h m (by omega))]
def eD (n la r:Nat):Nat→Nat→List Seg
 | 0,_=>[]
 | c + 1,k=>eE n la ((k + r) % n) :: eD n la r c (k + 1)
def dSegs:Nat→Nat→List Seg
 | 0,_=>[]
 | c + 1,k=>iv k :: dSegs c (k + 1)
theorem sF {ts:List TkR}{n la r p:Nat}{R:List TkR}(hla:la < 3):∀ (c k i j f:Nat),c < f→ts.drop i=segT (eD n la r c k) j ++ tW [116,101,108] p :: R→∃ G j',je ts 500 f i=some (eF G n la r c k,j')∧ts.drop j'=tW [116,101,108] p :: R
 | 0,k,i,j,f,hf,h=>by
   obtain ⟨f,rfl⟩ : ∃ q,f=q + 1:=⟨f - 1,by omega⟩
   simp only[eD,segT,List.nil_append] at h;obtain ⟨g0,_⟩:=gd h;have a1:bz (tW [116,101,108] p) [[116,101,108]]=true:=rfl;exact ⟨fun _ _=>0,i,by simp only[je,eB,g0,a1,cond_true,eF],h⟩
 | c + 1,k,i,j,f,hf,h=>by
   obtain ⟨f,rfl⟩ : ∃ q,f=q + 1:=⟨f - 1,by omega⟩
   simp only[eD,segT,List.append_assoc] at h;obtain ⟨g,m,h1,h2,x,h3,h4⟩:=R3 hla h;obtain ⟨G,j',h5,h6⟩:=sF hla c (k + 1) (i + m) _ f (by omega) h2
   refine ⟨fun q=>if q=k then g else G q,j',?_,h6⟩
   have e1:eF (fun q=>if q=k then g else G q) n la r c (k + 1)=eF G n la r c (k + 1):=ND c (k + 1) (fun m hm=>by rw[if_neg (by omega)])
   simp only[je,eB,h3,h4,h1,h5,cond_false,eF,e1,if_true]
theorem yT {ts R:List TkR}{i j k:Nat}(h:ts.drop i=(iv k).T j ++ R):zj ts i=some (kG (nm k) (j + 1),i + 4)∧ts.drop (i + 4)=R:=by
 simp only[iv,List.cons_append,List.nil_append] at h;obtain ⟨g0,h⟩:=gd h;obtain ⟨g1,h⟩:=gd h;obtain ⟨g2,h⟩:=gd h;obtain ⟨g3,h⟩:=gd h;refine ⟨?_,h⟩;have a0:Nat.beq (tN (nm k) (j + 1)).k 1=true:=rfl;have a1:bz (tS [58] (j + 4)) [[58]]=true:=rfl;have a2:bz (tW [105,110,116] (j + 6)) fW=false:=rfl;have a3:bz (tW [105,110,116] (j + 6)) Go.Proofs.tW=true:=rfl;have a4:bz (tS [59] (j + 9)) whW=false:=rfl;have a5:bz (tS [59] (j + 9)) [[59]]=true:=rfl;simp only[zj,gU,fC,dl,eB,g0,g1,g2,g3,a0,a1,a2,a3,a4,a5,cond_true,cond_false];rfl
theorem oK {ts:List TkR}{p:Nat}{R:List TkR}:∀ (c k i j f:Nat),c < f→ts.drop i=segT (dSegs (c + 1) k) j ++ tW [108,101,116] p :: R→∃ G j',ik ts f i=some (vF G (c + 1) k,j')∧ts.drop j'=tW [108,101,116] p :: R
 | 0,k,i,j,f,hf,h=>by
   obtain ⟨f,rfl⟩ : ∃ q,f=q + 1:=⟨f - 1,by omega⟩
   simp only[dSegs,segT,List.append_assoc,List.nil_append] at h;obtain ⟨h1,h2⟩:=yT h;obtain ⟨g0,_⟩:=gd h2;have a1:bz (tW [108,101,116] p) [[108,101,116]]=true:=rfl;exact ⟨fun _=>j + 1,i + 4,by simp only[ik,h1,eB,g0,a1,cond_true,vF],h2⟩
 | c + 1,k,i,j,f,hf,h=>by
   obtain ⟨f,rfl⟩ : ∃ q,f=q + 1:=⟨f - 1,by omega⟩
   have hdd:dSegs (c + 1 + 1) k=iv k :: dSegs (c + 1) (k + 1):=rfl;rw[hdd] at h;simp only[segT,List.append_assoc] at h;obtain ⟨h1,h2⟩:=yT h;obtain ⟨G,j',h5,h6⟩:=oK c (k + 1) (i + 4) _ f (by omega) h2
   have h2':=h2;simp only[dSegs,segT,iv,List.cons_append,List.nil_append] at h2';obtain ⟨g0,_⟩:=gd h2';refine ⟨fun q=>if q=k then j + 1 else G q,j',?_,h6⟩
   have e1:vF (fun q=>if q=k then j + 1 else G q) (c + 1) (k + 1)=vF G (c + 1) (k + 1):=Ox (c + 1) (k + 1) (fun m hm=>by rw[if_neg (by omega)])
   have hv:vF (fun q=>if q=k then j + 1 else G q) (c + 1 + 1) k=kG (nm k) (j + 1) :: vF G (c + 1) (k + 1):=by
    rw[← e1];show kG (nm k) (if k=k then j + 1 else G k) :: _=_
    rw[if_pos rfl]
   rw[hv];have a1:∀ q,bz (tN (nm (k + 1)) q) [[108,101,116]]=false:=fun _=>rfl
   simp only[ik,h1,eB,g0,a1,h5,cond_false]
end Ch
namespace Ch
def headA:List Nat:=[110,111,100,101,32,102,40,120,58,32,105,110,116,41,32,114,101,116,117,114,110,115,32,40,121,58,32,105,110,116,41,32,118,97,114]
def HT:List TkR:=[tW [110,111,100,101] 0,tN [102] 5,tS [40] 6,tN [120] 7,tS [58] 8,tW [105,110,116] 10,tS [41] 13,tW [114,101,116,117,114,110,115] 15,tS [40] 23,tN [121] 24,tS [58] 25,tW [105,110,116] 27,tS [41] 30,tW [118,97,114] 32]
theorem CI (rest:List Nat):kO wordsS signsS 14 (headA ++ 32 :: rest) 0=some (HT,32 :: rest,35):=by kernel_rfl
theorem KE (j:Nat):kO wordsS signsS 1 [32,116,101,108] j=some ([tW [116,101,108] (j + 1)],[],j + 1 + 3):=by kernel_rfl
theorem KX (k j:Nat):lg wordsS signsS (k + 1) [] j=some [⟨5,j,[],0,0,j⟩]:=by
 simp[lg,blV,gT]
theorem dSegs_snoc:∀ (c k:Nat),dSegs (c + 1) k=dSegs c k ++ [iv (k + c)]
 | 0,k=>rfl
 | c + 1,k=>by
   have h:=dSegs_snoc c (k + 1);show iv k :: dSegs (c + 1) (k + 1)=_;rw[h];show _=iv k :: dSegs c (k + 1) ++ _;rw[show k + 1 + c=k + (c + 1) by omega]
   rfl
theorem mo {n la r:Nat}:∀ (c k:Nat),eD n la r (c + 1) k=eD n la r c k ++ [eE n la ((k + c + r) % n)]
 | 0,k=>rfl
 | c + 1,k=>by
   have h:=mo (n:=n) (la:=la) (r:=r) c (k + 1);show eE n la ((k + r) % n) :: eD n la r (c + 1) (k + 1)=_;rw[h];show _=eE n la ((k + r) % n) :: eD n la r c (k + 1) ++ _;rw[show k + 1 + c + r=k + (c + 1) + r by omega]
   rfl
theorem mE (a b:List Seg):cP (a ++ b)=cP a ++ cP b:=by simp[cP]
theorem segT_app:∀ (a b:List Seg) (j:Nat),segT (a ++ b) j=segT a j ++ segT b (j + (cP a).length)
 | [],b,j=>by simp[segT,cP]
 | s :: a,b,j=>by
   simp only[List.cons_append,segT,segT_app a b,List.append_assoc];have:j + (s.b.length + 1) + (cP a).length=j + (cP (s :: a)).length:=by simp[cP];omega
   rw[this]
theorem vars_B:∀ n,32 :: vars n=cP (dSegs n 0) ++ [32]
 | 0=>rfl
 | n + 1=>by
   rw[dSegs_snoc,mE];have h:=vars_B n;show 32 :: (vars n ++ _)=_;rw[← List.cons_append,h];simp[cP,iv]
theorem P7 {n la r:Nat}:∀ k,32 :: f6 n la r k=cP (eD n la r k 0) ++ [32]
 | 0=>rfl
 | k + 1=>by
   rw[mo,mE];have h:=P7 (n:=n) (la:=la) (r:=r) k;show 32 :: (f6 n la r k ++ _)=_;rw[← List.cons_append,h];simp[cP,eE,y9]
def fp (n la r:Nat):List Seg:=dSegs n 0 ++ letS :: eD n la r n 0
theorem AW (n la r:Nat):kA n la r=headA ++ (cP (fp n la r) ++ 32 :: [116,101,108]):=by
 have h1:=vars_B n;have h2:=P7 (n:=n) (la:=la) (r:=r) n
 have e1:kA n la r=headA ++ ((32 :: vars n) ++ ([108,101,116,32,121,32,61,32] ++ nm 0 ++ [59] ++ ((32 :: f6 n la r n) ++ [116,101,108]))):=by
  simp only[kA,gi,headA,List.append_assoc,List.cons_append,List.nil_append]
 rw[e1,h1,h2];simp only[fp,mE,List.append_assoc,List.cons_append,List.nil_append];have e2:cP (letS :: eD n la r n 0)=32 :: ([108,101,116,32,121,32,61,32] ++ nm 0 ++ [59]) ++ cP (eD n la r n 0):=by simp[cP,letS,nm]
 rw[e2];simp only[List.append_assoc,List.cons_append,List.nil_append]
theorem dSegs_mem:∀ (c k:Nat) (s:Seg),s ∈ dSegs c k→∃ i,k≤i∧i < k + c∧s=iv i
 | 0,k,s,h=>by cases h
 | c + 1,k,s,h=>by
   simp only[dSegs,List.mem_cons] at h
   rcases h with rfl | h
   ·exact ⟨k,Nat.le_refl _,by omega,rfl⟩
   ·obtain ⟨i,h1,h2,h3⟩:=dSegs_mem c (k + 1) s h;exact ⟨i,by omega,by omega,h3⟩
theorem px {n la r:Nat}(hn:0 < n):∀ (c k:Nat) (s:Seg),s ∈ eD n la r c k→∃ i,i < n∧s=eE n la i
 | 0,k,s,h=>by cases h
 | c + 1,k,s,h=>by
   simp only[eD,List.mem_cons] at h
   rcases h with rfl | h
   ·exact ⟨_,Nat.mod_lt _ hn,rfl⟩
   ·exact px hn c (k + 1) s h
theorem EM {n la r:Nat}(hn:0 < n)(hn' : n≤30)(hla:la < 3):∀ s ∈ fp n la r,s.ok∧(∀ j,(s.T j).length≤11)∧s.b.length≤30∧∀ b ∈ s.b,b≤255:=by
 have hnm:∀ i,i < 31→∀ b ∈ nm i,b≤255:=fun i hi b hb=>by
  simp only[nm,List.mem_cons,List.not_mem_nil,or_false] at hb;omega
 intro s hs;simp only[fp,List.mem_append,List.mem_cons] at hs
 rcases hs with h | rfl | h
 ·obtain ⟨i,_,h2,rfl⟩:=dSegs_mem _ _ _ h;refine ⟨KP (by omega),fun j=>by simp[iv],by simp[iv,nm],fun b hb=>?_⟩
  simp only[iv,List.mem_append] at hb
  rcases hb with hb | hb
  ·exact hnm i (by omega) b hb
  ·simp only[List.mem_cons,List.not_mem_nil,or_false] at hb;omega
 ·exact ⟨letS_ok,fun j=>by simp[letS],by decide,by decide⟩
 ·obtain ⟨i,h2,rfl⟩:=px hn _ _ _ h
  have hlast:∀ b ∈ gX la,b≤255:=by
   match la,hla with
   | 0,_=>decide
   | 1,_=>decide
   | 2,_=>decide
  have hll:(gX la).length≤14:=by
   match la,hla with
   | 0,_=>decide
   | 1,_=>decide
   | 2,_=>decide
  refine ⟨Jl h2 hn' hla,fun j=>?_,?_,fun b hb=>?_⟩
  ·simp only[eE];cases Nat.beq (i + 1) n with
   | false=>simp
   | true =>
     match la,hla with
     | 0,_=>simp
     | 1,_=>simp
     | 2,_=>simp
  ·simp only[eE,eP];cases Nat.beq (i + 1) n with
   | false=>simp[nm]
   | true=>simp only[cond_true,List.length_append];simp[nm];omega
  ·simp only[eE,List.mem_append] at hb
   rcases hb with ((hb | hb) | hb) | hb
   ·exact hnm i (by omega) b hb
   ·simp only[List.mem_cons,List.not_mem_nil,or_false] at hb;omega
   ·simp only[eP] at hb;cases hq:Nat.beq (i + 1) n with
    | false=>rw[hq] at hb;exact hnm (i + 1) (by omega) b hb
    | true=>rw[hq] at hb;exact hlast b hb
   ·simp only[List.mem_cons,List.not_mem_nil,or_false] at hb;omega
theorem Cg (n la r:Nat):(fp n la r).length=2 * n + 1:=by
 have h1:∀ c k,(dSegs c k).length=c:=fun c=>by
  induction c with
  | zero=>intro k;rfl
  | succ c ih=>intro k;simp[dSegs,ih]
 have h2:∀ c k,(eD n la r c k).length=c:=fun c=>by
  induction c with
  | zero=>intro k;rfl
  | succ c ih=>intro k;simp[eD,ih]
 simp only[fp,List.length_append,List.length_cons,h1,h2];omega
theorem segT_len:∀ (l:List Seg) (j:Nat),(∀ s ∈ l,∀ j,(s.T j).length≤11)→(segT l j).length≤11 * l.length
 | [],j,_=>by simp[segT]
 | s :: l,j,h=>by
   have:=segT_len l (j + (s.b.length + 1)) (fun x hx=>h x (List.mem_cons_of_mem _ hx))
   have:=h s (List.mem_cons_self ..) j;simp only[segT,List.length_append,List.length_cons];omega
theorem segB_len:∀ (l:List Seg),(∀ s ∈ l,s.b.length≤30)→(cP l).length≤31 * l.length
 | [],_=>by simp[cP]
 | s :: l,h=>by
   have:=segB_len l (fun x hx=>h x (List.mem_cons_of_mem _ hx))
   have:=h s (List.mem_cons_self ..);simp only[cP,List.flatMap_cons,List.length_append,List.length_cons] at this ⊢;have h3:(List.flatMap (fun s:Seg=>32 :: s.b) l).length≤31 * l.length:=by assumption
   omega
def toks (n la r:Nat):List TkR:=HT ++ (segT (fp n la r) 35 ++ [tW [116,101,108] (35 + (cP (fp n la r)).length + 1),⟨5,35 + (cP (fp n la r)).length + 1 + 3,[],0,0,35 + (cP (fp n la r)).length + 1 + 3⟩])
theorem E9 {n la r:Nat}(hn:0 < n)(hn' : n≤30)(hla:la < 3):lg wordsS signsS 4100 (kA n la r) 0=some (toks n la r)∧(toks n la r).length≤90000∧WD (kA n la r)=true:=by
 have hall:=EM (r:=r) hn hn' hla;have hlT:=segT_len (fp n la r) 35 (fun s hs=>(hall s hs).2.1)
 have hlB:=segB_len (fp n la r) (fun s hs=>(hall s hs).2.2.1)
 rw[Cg] at hlT hlB;refine ⟨?_,?_,?_⟩
 ·rw[AW];obtain ⟨q,hq⟩ : ∃ q,4100=14 + ((segT (fp n la r) 35).length + (1 + (q + 1))):=⟨4100 - 14 - (segT (fp n la r) 35).length - 2,by omega⟩
  rw[hq];have a1:=l8 1 _ _ _ _ _ (q + 1) _ (KE (35 + (cP (fp n la r)).length)) (KX q _);have a2:=segs_ok (fp n la r) (fun s hs=>(hall s hs).1) [116,101,108] 35 (1 + (q + 1)) _ a1
  obtain ⟨rr,hr⟩:=xX (fp n la r) [116,101,108];rw[hr] at a2 ⊢;exact l8 14 _ _ _ _ _ _ _ (CI rr) a2
 ·simp only[toks,List.length_append,List.length_cons,List.length_nil];have:HT.length=14:=rfl;omega
 ·rw[AW];unfold WD;rw[Bool.and_eq_true,dk,decide_eq_true_eq,ai,List.all_eq_true];have hh:headA.length=35:=rfl;refine ⟨by simp only[List.length_append,List.length_cons,List.length_nil];omega,fun b hb=>?_⟩
  rw[dk,decide_eq_true_eq];rw[List.mem_append,List.mem_append] at hb
  rcases hb with hb | hb | hb
  ·exact (by decide:∀ b ∈ headA,b≤255) b hb
  ·simp only[cP,List.mem_flatMap,List.mem_cons] at hb;obtain ⟨s,hs,hb | hb⟩:=hb
   ·omega
   ·exact (hall s hs).2.2.2 b hb
  ·simp only[List.mem_cons,List.not_mem_nil,or_false] at hb;omega
end Ch
namespace Ch
theorem oC {ts:List TkR}{i j k:Nat}{d:DeR}{x y z:TkR}(g0:ae ts i=some x)(hx:bz x [[40]]=true)(g1:ae ts (i + 1)=some y)(hy:bz y [[41]]=false)(hd:gU ts (i + 1)=some (d,j))(gj:ae ts j=some z)(hz:bz z [[44]]=false)(hz2:bz z [[41]]=true):eU ts (k + 1) i=some ([d],j + 1):=by
 simp only[eU,dl,eB,g0,hx,g1,hy,jw,hd,gj,hz,hz2,cond_true,cond_false]
theorem sq {ts:List TkR}{i p0 p1 p2:Nat}{s:List Nat}(g0:ae ts i=some (tN s p0))(g1:ae ts (i + 1)=some (tS [58] p1))(g2:ae ts (i + 2)=some (tW [105,110,116] p2)):gU ts i=some (kG s p0,i + 3):=by
 have a0:Nat.beq (tN s p0).k 1=true:=rfl;have a1:bz (tS [58] p1) [[58]]=true:=rfl;have a2:bz (tW [105,110,116] p2) fW=false:=rfl;have a3:bz (tW [105,110,116] p2) Go.Proofs.tW=true:=rfl;simp only[gU,fC,dl,eB,g0,g1,g2,a0,a1,a2,a3,cond_true,cond_false];rfl
theorem zO {ts:List TkR}{f i j j' : Nat}{x:TkR}{q:EqR}{l:List EqR}(g:ae ts i=some x)(hx:bz x [[116,101,108]]=false)(h1:II ts 500 i=some (q,j))(h2:je ts 500 f j=some (l,j')):je ts 500 (f + 1) i=some (q :: l,j'):=by
 simp only[je,eB,g,hx,h1,h2,cond_false]
theorem zV {ts:List TkR}{f i:Nat}{x:TkR}(g:ae ts i=some x)(hx:Nat.beq x.k 5=true):io ts 500 (f + 1) i=some ([],i):=by
 simp only[io,eB,g,hx,cond_true]
theorem uz {n la r:Nat}(hn:0 < n)(hn' : n≤30)(hla:la < 3):∃ G0 G p q,jG (toks n la r) 500=some [node G0 G p q n la r]:=by
 obtain ⟨n,rfl⟩ : ∃ m,n=m + 1:=⟨n - 1,by omega⟩
 generalize hts:toks (n + 1) la r=ts;have h:ts.drop 0=toks (n + 1) la r:=by rw[List.drop_zero,hts]
 have hT:toks (n + 1) la r=tW [110,111,100,101] 0 :: tN [102] 5 :: tS [40] 6 :: tN [120] 7 :: tS [58] 8 :: tW [105,110,116] 10 :: tS [41] 13 :: tW [114,101,116,117,114,110,115] 15 :: tS [40] 23 :: tN [121] 24 :: tS [58] 25 :: tW [105,110,116] 27 :: tS [41] 30 :: tW [118,97,114] 32 ::
   (segT (dSegs (n + 1) 0) 35 ++ (letS.T (35 + (cP (dSegs (n + 1) 0)).length) ++ (segT (eD (n + 1) la r (n + 1) 0) (35 + (cP (dSegs (n + 1) 0)).length + (letS.b.length + 1)) ++ [tW [116,101,108] (35 + (cP (fp (n + 1) la r)).length + 1),⟨5,35 + (cP (fp (n + 1) la r)).length + 1 + 3,[],0,0,35 + (cP (fp (n + 1) la r)).length + 1 + 3⟩]))):=by
  unfold toks
  have e1:segT (fp (n + 1) la r) 35=segT (dSegs (n + 1) 0) 35 ++ (letS.T (35 + (cP (dSegs (n + 1) 0)).length) ++ segT (eD (n + 1) la r (n + 1) 0) (35 + (cP (dSegs (n + 1) 0)).length + (letS.b.length + 1))):=by
   unfold fp;rw[segT_app];rfl
  rw[e1];simp only[HT,List.append_assoc,List.cons_append,List.nil_append]
 rw[hT] at h;generalize 35 + (cP (fp (n + 1) la r)).length + 1=pt at h;generalize 35 + (cP (dSegs (n + 1) 0)).length=pl at h;obtain ⟨g0,h⟩:=gd h;obtain ⟨g1,h⟩:=gd h;obtain ⟨g2,h⟩:=gd h;obtain ⟨g3,h⟩:=gd h;obtain ⟨g4,h⟩:=gd h;obtain ⟨g5,h⟩:=gd h;obtain ⟨g6,h⟩:=gd h;obtain ⟨g7,h⟩:=gd h;obtain ⟨g8,h⟩:=gd h;obtain ⟨g9,h⟩:=gd h;obtain ⟨R8,h⟩:=gd h;obtain ⟨g11,h⟩:=gd h;obtain ⟨g12,h⟩:=gd h;obtain ⟨g13,h⟩:=gd h;simp only[Nat.zero_add,Nat.reduceAdd] at g0 g1 g2 g3 g4 g5 g6 g7 g8 g9 R8 g11 g12 g13 h;have hI:eU ts 500 2=some ([kG [120] 7],7):=oC (k:=499) g2 rfl g3 rfl (sq g3 g4 g5) g6 rfl rfl;have hO:eU ts 500 8=some ([kG [121] 24],13):=oC (k:=499) g8 rfl g9 rfl (sq g9 R8 g11) g12 rfl rfl;have hlet:letS.T pl=[tW [108,101,116] (pl + 1),tN [121] (pl + 5),tS [61] (pl + 7),tN (nm 0) (pl + 9),tS [59] (pl + 12)]:=rfl;rw[hlet] at h;simp only[List.cons_append,List.nil_append] at h;obtain ⟨G0,j1,hV,h⟩:=oK n 0 14 35 500 (by omega) h
 have hvs:nI ts 500 13=some (vF G0 (n + 1) 0,j1):=by
  have a1:bz (tW [118,97,114] 32) [[118,97,114]]=true:=rfl;simp only[nI,eB,g13,a1,cond_true,hV]
 obtain ⟨gl,h⟩:=gd h;have h':=h;obtain ⟨gy,_⟩:=gd h';obtain ⟨hq,h⟩:=RL h;obtain ⟨G,j2,hE,h⟩:=sF hla (n + 1) 0 (j1 + 1 + 4) (pl + (letS.b.length + 1)) 499 (by omega) h
 obtain ⟨gt,h⟩:=gd h;obtain ⟨ge,_⟩:=gd h;refine ⟨G0,G,pl + 5,pl + 9,?_⟩;have b0:bz (tW [110,111,100,101] 0) [[110,111,100,101]]=true:=rfl;have b1:Nat.beq (tN [102] 5).k 1=true:=rfl;have b7:bz (tW [114,101,116,117,114,110,115] 15) [[114,101,116,117,114,110,115]]=true:=rfl;have bl:bz (tW [108,101,116] (pl + 1)) [[108,101,116]]=true:=rfl;have by_:bz (tN [121] (pl + 5)) [[116,101,108]]=false:=rfl
 have hEq:je ts 500 500 (j1 + 1)=some (⟨[([121],pl + 5)],false,.mk 3 (pl + 9) 0 (nm 0) false []⟩ :: eF G (n + 1) la r (n + 1) 0,j2):=by
  exact zO (f:=499) gy by_ hq hE
 have hN:kd ts 500 0=some (node G0 G (pl + 5) (pl + 9) (n + 1) la r,j2 + 1):=by
  simp only[kd,dl,fC,eB,g0,g1,g7,b0,b1,b7,hI,hO,hvs,gl,bl,hEq,Nat.zero_add,Nat.reduceAdd,cond_true];rfl
 have hP:io ts 500 500 (j2 + 1)=some ([],j2 + 1):=by
  exact zV (f:=499) ge rfl
 simp only[jG,hN,hP]
theorem BQ (pm:ce (memoL memo1)){n la r:Nat}(hn:0 < n)(hn' : n≤30)(hla:la < 3):∃ G0 G p q,∀ H,orc CC (memoL memo1) 8 [.str (kA n la r)] H=some (.ret (pV [node G0 G p q n la r]) H (aa H)):=by
 obtain ⟨h1,h2,h3⟩:=E9 (r:=r) hn hn' hla;obtain ⟨G0,G,p,q,h4⟩:=uz (r:=r) hn hn' hla;refine ⟨G0,G,p,q,fun H=>jv h3 ?_ H⟩
 simp only[nM,h1];rw[ai,Nat.ble_eq_true_of_le h2];exact h4
end Ch
namespace Ch
noncomputable def qE (la:Nat)(o:Option AV):Bool:=match o with
 | some (.agg [.int .i64 x,.int .i64 y])=>cond (Nat.beq la 0) (decide (x=5) && decide (y=10)) (decide (x=0) && decide (y=0))
 | _=>false
theorem zl {la:Nat}{o:Option AV}(h:qE la o=true):o=some (want la):=by
 unfold qE at h
 split at h
 ·rename_i x y;unfold want;cases hl:Nat.beq la 0 with
  | true=>rw[hl] at h;simp at h;rw[h.1,h.2];rfl
  | false=>rw[hl] at h;simp at h;rw[h.1,h.2];rfl
 ·cases h
noncomputable def aH (g0:Nat→Nat)(G:Nat→Nat→Nat)(p q n la:Nat):Nat→Nat→Bool
 | 0,_=>true
 | c + 1,r=>cond (qE la (bB (node g0 G p q n la r))) (aH g0 G p q n la c (r + 1)) false
theorem ak {g0:Nat→Nat}{G:Nat→Nat→Nat}{p q n la:Nat}:∀ (c r:Nat),aH g0 G p q n la c r=true→∀ r',r≤r'→r' < r + c→bB (node g0 G p q n la r')=some (want la)
 | 0,r,_,r',h1,h2=>by omega
 | c + 1,r,h,r',h1,h2=>by
   simp only[aH] at h;cases hw:qE la (bB (node g0 G p q n la r)) with
   | false=>rw[hw] at h;cases h
   | true =>
     rw[hw] at h
     by_cases hr:r'=r
     ·subst hr;exact zl hw
     ·exact ak c (r + 1) h r' (by omega) (by omega)
end Ch
end Go.Proofs
