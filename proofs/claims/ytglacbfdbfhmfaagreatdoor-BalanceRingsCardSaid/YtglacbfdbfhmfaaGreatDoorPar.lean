/- expressions. Part of the proof of girandolelaw13.BalanceRings. -/
import Derived.Test.YtglacbfdbfhmfaaGreatDoorLex
set_option linter.unusedVariables false
set_option linter.unusedSimpArgs false
set_option maxRecDepth 1000000
namespace Go.Proofs
open Go Go.Abs
inductive Ex where
 | mk (k p:Nat) (n:Int) (s:List Nat) (b:Bool) (kids:List Ex)
def Ex.k:Ex->Nat | .mk k _ _ _ _ _=>k
def Ex.p:Ex->Nat | .mk _ p _ _ _ _=>p
def Ex.n:Ex->Int | .mk _ _ n _ _ _=>n
def Ex.s:Ex->List Nat | .mk _ _ _ s _ _=>s
def Ex.b:Ex->Bool | .mk _ _ _ _ b _=>b
def Ex.kids:Ex->List Ex | .mk _ _ _ _ _ l=>l
def SA (k n:Nat):Lin:=cond (Nat.beq k 12) .dead (cond ((Nat.beq k 13||Nat.beq k 14)&&Nat.ble 2 n) .dead .lit)
def ft (k:Nat):List AV->AV
 | []=>.nils
 | a::l=>.sl 6 (a::l) (SA k (l.length+1))
mutual
def Ex.v:Ex->AV
 | .mk k p n s b kids=>.agg [.int .i64 (k:Int),.int .i64 (p:Int),.int .i64 n,.str s,.bool b,ft k (exL kids)]
def exL:List Ex->List AV
 | []=>[]
 | a::l=>a.v::exL l
end
def Ex.kv (e:Ex):AV:=ft e.k (exL e.kids)
theorem exL_map:∀ l:List Ex,exL l=l.map Ex.v
 | []=>by simp[exL]
 | a::l=>by simp[exL,exL_map l]
theorem oG (e:Ex):AV.cells e.v=[.int .i64 (e.k:Int),.int .i64 (e.p:Int),.int .i64 e.n,.str e.s,.bool e.b,e.kv]:=by cases e;rfl
theorem Ke (e:Ex):AV.agg [.int .i64 (e.k:Int),.int .i64 (e.p:Int),.int .i64 e.n,.str e.s,.bool e.b,e.kv]=e.v:=by cases e;rfl
theorem Q6 (k n:Nat):mY (SA k n)=true:=by unfold SA;cases Nat.beq k 12<;>cases (Nat.beq k 13||Nat.beq k 14)&&Nat.ble 2 n<;>rfl
theorem tS {k:Nat}{l:List AV}(h:cS l=true):im (ft k l)=true:=by
 cases l with
 | nil=>rfl
 | cons a l=>rw[ft,iT,Q6,h];rfl
mutual
theorem ex_noN:∀ e:Ex,im e.v=true
 | .mk k p n s b kids=>by
   simp only[Ex.v,eE,bq,noNL_nil,fR,fL,iw,tS (exL_noN kids),cond_true]
theorem exL_noN:∀ l:List Ex,cS (exL l)=true
 | []=>rfl
 | a::l=>by simp only[exL,bq,ex_noN a,exL_noN l,cond_true]
end
theorem HJ (e:Ex):im e.kv=true:=tS (exL_noN _)
theorem vO (e:Ex):AV.one e.kv=true:=by
 unfold Ex.kv;cases exL e.kids<;>rfl
theorem pz {k:Nat}{l:List AV}(h:sameL l l=true):AV.same (ft k l) (ft k l)=true:=by
 cases l with
 | nil=>simp[ft,AV.same]
 | cons a l=>simp[ft,AV.same,h]
mutual
theorem ex_same:∀ e:Ex,AV.same e.v e.v=true
 | .mk k p n s b kids=>by
   simp[Ex.v,AV.same,sameL,pz (exL_same kids)]
theorem exL_same:∀ l:List Ex,sameL (exL l) (exL l)=true
 | []=>by simp[exL,sameL]
 | a::l=>by simp[exL,sameL,ex_same a,exL_same l]
end
abbrev dn (e:Ex):AObj:=.cells [.int .i64 (e.k:Int),.int .i64 (e.p:Int),.int .i64 e.n,.str e.s,.bool e.b,e.kv]
theorem jh (e:Ex):∃ (k p n:Int) (s:List Nat) (b:Bool) (kv:AV),e.v=.agg [.int .i64 k,.int .i64 p,.int .i64 n,.str s,.bool b,kv]/\(kv=.nils\/∃ l q,kv=.sl 6 l q):=by
 cases e with
 | mk k p n s b kids =>
   refine ⟨k,p,n,s,b,ft k (exL kids),by simp only[Ex.v],?_⟩
   cases exL kids with
   | nil=>exact .inl rfl
   | cons a l=>exact .inr ⟨_,_,rfl⟩
theorem Up (a:Ex):aI CC 121 1 [(0,a.v)]=some (.sl 6 [a.v] .lit):=by
 obtain ⟨k,p,n,s,b,kv,h,rfl|⟨l,q,rfl⟩⟩:=jh a<;>rw[h]<;>kernel_rfl
theorem Xy (a b:Ex):aI CC 121 2 [(0,a.v),(1,b.v)]=some (.sl 6 [a.v,b.v] .lit):=by
 obtain ⟨k,p,n,s,b',kv,h,rfl|⟨l,q,rfl⟩⟩:=jh a<;>obtain ⟨k',p',n',s',b'',kv',h',rfl|⟨l',q',rfl⟩⟩:=jh b<;>rw[h,h']<;>kernel_rfl
theorem XI (a b c:Ex):aI CC 121 3 [(0,a.v),(1,b.v),(2,c.v)]=some (.sl 6 [a.v,b.v,c.v] .lit):=by
 obtain ⟨k,p,n,s,b',kv,h,rfl|⟨l,q,rfl⟩⟩:=jh a<;>obtain ⟨k',p',n',s',b'',kv',h',rfl|⟨l',q',rfl⟩⟩:=jh b<;>obtain ⟨k2,p2,n2,s2,b2,kv2,h2,rfl|⟨l2,q2,rfl⟩⟩:=jh c<;>rw[h,h',h2]<;>kernel_rfl
theorem EXS:(∀ e:Ex,AV.cells e.v=[.int .i64 (e.k:Int),.int .i64 (e.p:Int),.int .i64 e.n,.str e.s,.bool e.b,e.kv])/\(∀ e:Ex,AV.agg [.int .i64 (e.k:Int),.int .i64 (e.p:Int),.int .i64 e.n,.str e.s,.bool e.b,e.kv]=e.v) /\
  (∀ e:Ex,im e.v=true)/\(∀ e:Ex,im e.kv=true)/\(∀ e:Ex,AV.one e.kv=true)/\(∀ e:Ex,AV.same e.v e.v=true) /\
  (∀ a:Ex,aI CC 121 1 [(0,a.v)]=some (.sl 6 [a.v] .lit))/\(∀ a b:Ex,aI CC 121 2 [(0,a.v),(1,b.v)]=some (.sl 6 [a.v,b.v] .lit))/\(∀ a b c:Ex,aI CC 121 3 [(0,a.v),(1,b.v),(2,c.v)]=some (.sl 6 [a.v,b.v,c.v] .lit)) :=
 ⟨oG,Ke,ex_noN,HJ,vO,ex_same,Up,Xy,XI⟩
theorem rB {α:Type}{h:List α}{n:Nat}(hn:n<aa h)(v:α)(l:List α):ae (ak h n v++l) n=some v:=by
 rw[ai] at hn;rw[az,aR,List.getElem?_append_left (by simpa using hn)]
 simp[hn]
theorem rZ {α:Type}{h:List α}{n:Nat}(hn:n<aa h)(v w:α)(l:List α):ak (ak h n v++l) n w=ak h n w++l:=by
 rw[ai] at hn;rw[aR,aR,aR,List.set_append_left _ _ (by simpa using hn),List.set_set]
abbrev Runs (M:Memo)(f:Nat)(args:List AV)(n:Nat)(toks:List AV)(lin:Lin)(i:Nat)(v:AV)(j:Nat):Prop :=
 ∀ H:Heap,ae H n=some (gN toks lin i)->orc CC M f args H=some (.ret v (ak H n (gN toks lin j)) (aa H))
theorem Runs.of {M:Memo}{f:Nat}{args:List AV}{n:Nat}{toks:List AV}{lin:Lin}{i:Nat}{v:AV}{j:Nat}
  (h:∀ H:Heap,n<aa H->orc CC M f args (ak H n (gN toks lin i))=some (.ret v (ak H n (gN toks lin j)) (aa H))):Runs M f args n toks lin i v j:=by
 intro H hn;have:=h H (by rw[ai];exact bj hn)
 rwa [dU hn] at this
def UD (f:Nat):Bool:=[30,53,74,49,50,147,191,194,195,77,111,193,78,112,146,167,168,179,184,188,189,190,192,75,51,52,54,76,29,46,28,27,79,30,48].any (Nat.beq f)
def Ji (M:Memo):Prop:=∀ f a,UD f=true->M f a=none
theorem parM_of:∀ {l:List (FuncId×List AV×AV)},l.all (λe=>!UD e.1)=true->Ji (memoL l)
 | [],_,f,a,_=>rfl
 | (g,b,v)::r,h,f,a,hf=>by
   simp only[List.all_cons,Bool.and_eq_true] at h
   have hne:Nat.beq g f=false:=by
    cases hb:Nat.beq g f with
    | false=>rfl
    | true =>
      have:=Nat.eq_of_beq_eq_true hb;subst this;rw[hf] at h;exact absurd h.1 (by decide)
   show cond (Nat.beq g f) _ (memoL r f a)=none;rw[hne];exact parM_of h.2 f a hf
def X0 (x:TkR)(ws:List (List Nat)):Bool:=cond (Nat.beq x.k 3||Nat.beq x.k 4) (tI x.t ws) false
section
variable {M:Memo}{toks:List AV}{lin:Lin}{n i:Nat}{x:TkR}
theorem UJ (x:TkR):(decide ((x.k:Int)=3)||decide ((x.k:Int)=4))=(Nat.beq x.k 3||Nat.beq x.k 4):=by
 rw[show decide ((x.k:Int)=3)=Nat.beq x.k 3 from pi x.k 3,show decide ((x.k:Int)=4)=Nat.beq x.k 4 from pi x.k 4]
theorem Rv (m:Ji M)(hx:ae toks i=some x.v){ws:List (List Nat)}{wa:List AV}(hw:wa=ws.map .str)(hl:wa.length<1000){b:Bool}(h:X0 x ws=b)(l:Lin) :
  ∀ H,ae H n=some (gN toks lin i)->orc CC M 53 [.ptr n 0,.sl 1 wa l] H=some (.ret (.bool b) H (aa H)):=by
 intro H hn;have:=Dl (λa=>m 30 a rfl) (λa=>m 53 a rfl) (l:=l) hn hx hl (hw ▸ rl x.t ws)
 rw[this,UJ];unfold X0 at h;rw[h]
theorem wG (m:Ji M)(hx:ae toks i=some x.v):∀ H,ae H n=some (gN toks lin i)->orc CC M 30 [.ptr n 0] H=some (.ret x.v H (aa H)) :=
 λH hn=>i1 (λa=>m 30 a rfl) hn hx
end
theorem Jy (a b:List Nat):aI CC 26 2 [(0,.str a),(1,.str b)]=some (.sl 1 [.str a,.str b] .lit):=by kernel_rfl
theorem K5 (a b c:List Nat):aI CC 26 3 [(0,.str a),(1,.str b),(2,.str c)]=some (.sl 1 [.str a,.str b,.str c] .lit):=by kernel_rfl
theorem J7 (a b c d e:List Nat):aI CC 26 5 [(0,.str a),(1,.str b),(2,.str c),(3,.str d),(4,.str e)]=some (.sl 1 [.str a,.str b,.str c,.str d,.str e] .lit):=by kernel_rfl
theorem JN (a b c d e f:List Nat):aI CC 26 6 [(0,.str a),(1,.str b),(2,.str c),(3,.str d),(4,.str e),(5,.str f)]=some (.sl 1 [.str a,.str b,.str c,.str d,.str e,.str f] .lit):=by kernel_rfl
theorem B26:(∀ s:List Nat,aI CC 26 1 [(0,.str s)]=some (.sl 1 [.str s] .lit))/\(∀ a b:List Nat,aI CC 26 2 [(0,.str a),(1,.str b)]=some (.sl 1 [.str a,.str b] .lit)) /\
  (∀ a b c:List Nat,aI CC 26 3 [(0,.str a),(1,.str b),(2,.str c)]=some (.sl 1 [.str a,.str b,.str c] .lit)) /\
  (∀ a b c d e:List Nat,aI CC 26 5 [(0,.str a),(1,.str b),(2,.str c),(3,.str d),(4,.str e)]=some (.sl 1 [.str a,.str b,.str c,.str d,.str e] .lit)) /\
  (∀ a b c d e f:List Nat,aI CC 26 6 [(0,.str a),(1,.str b),(2,.str c),(3,.str d),(4,.str e),(5,.str f)]=some (.sl 1 [.str a,.str b,.str c,.str d,.str e,.str f] .lit)) :=
 ⟨LT,Jy,K5,J7,JN⟩
inductive PF where
 | expr|arrow|or_|and_|not_|sum|term|unary|when_|prim
def PF.id:PF->Nat
 | .expr=>78 | .arrow=>112 | .or_=>146 | .and_=>168 | .not_=>179 | .sum=>184 | .term=>188 | .unary=>189 | .when_=>190 | .prim=>192
abbrev PR:=Option (Ex×Nat)
noncomputable section
end
theorem gm {ts:List TkR}{i:Nat}{x:TkR}(h:ae ts i=some x):ae (ts.map TkR.v) i=some x.v:=by
 rw[az] at h ⊢;rw[List.getElem?_map,h];rfl
section
variable {M:Memo}{ts:List TkR}{lin:Lin}{n:Nat}{rec:PF->Nat->PR}
end
section
variable {M:Memo}{ts:List TkR}{lin:Lin}{n:Nat}{rec:PF->Nat->PR}
end
section
variable {M:Memo}{ts:List TkR}{lin:Lin}{n:Nat}{rec:PF->Nat->PR}
end
theorem nK {sz:Nat}{l:List AV}{id g base:Nat}{hp:Heap}(hl:cS l=true)(hid:base<=id) :
  ml false base (.sl sz l (.live id g)) ⟨hp,base⟩=.ret (.sl sz l .dead) (bw base hp) base:=by
 have h1:im (.sl sz l (.live id g))=false:=rfl;have h2:Lin.low base (.live id g)=false:=by simp[Lin.low];omega
 have h3:AV.settle base hp (.sl sz l (.live id g))=.sl sz l .dead:=by
  simp[AV.settle,fF hl,h2]
 have h4:AV.low base (.sl sz l .dead)=true:=by
  simp[AV.low,cL hl,Lin.low]
 unfold ml;rw[h1,Bool.and_false];simp only[cond_false,IJ,dh,if_true,h3,h4,Bool.false_eq_true,if_false,cW]
section
variable {M:Memo}{ts:List TkR}{lin:Lin}{n:Nat}{rec:PF->Nat->PR}
end
theorem ka {b sz id g:Nat}{l:List AV}(hl:cS l=true):AV.low b (.sl sz l (.live id g))=decide (id<b):=by
 simp[AV.low,cL hl,Lin.low]
theorem Af {off r sz id g b:Nat}{l cs:List AV}{hp:Heap}(hl:cS l=true)(h1:id<aa hp)(h2:r+1<=id)(h3:b<=r)(h4:off+1<=aa cs) :
  dL 1 off r (.sl sz l (.live id g)) [.sl sz l (.live id g)] cs ⟨hp,b⟩=some ⟨ak hp r (.cells (cJ cs off [.sl sz l (.live id g)])),b⟩:=by
 have e1:dY (aa hp) (.sl sz l (.live id g))=true:=by rw[bM,ka hl];simpa using h1
 have e2:dY (r+1) (.sl sz l (.live id g))=false:=by rw[bM,ka hl];simp;omega
 have e3:Nat.ble (Nat.add off 1) (aa cs)=true:=by rw[dt];simpa using h4
 have e4:min b r=b:=Nat.min_eq_left h3;have e5:Nat.beq (aa [AV.sl sz l (.live id g)]) 1=true:=rfl;have e6:List.all [AV.sl sz l (.live id g)] AV.one=true:=rfl;simp only[dL,e1,e3,e5,e6,Bool.and_self,cond_true,fZ,e2,cond_false,e4]
section
variable {M:Memo}{ts:List TkR}{lin:Lin}{n:Nat}{rec:PF->Nat->PR}
end
end Go.Proofs
