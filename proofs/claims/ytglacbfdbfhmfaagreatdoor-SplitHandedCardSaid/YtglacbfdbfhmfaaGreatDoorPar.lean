/- expressions. Part of the proof of girandolelaw12.SplitHanded. -/
import Derived.Test.YtglacbfdbfhmfaaGreatDoorLex
set_option linter.unusedVariables false
set_option linter.unusedSimpArgs false
set_option maxRecDepth 1000000
namespace Go.Proofs
open Go Go.Abs
inductive Ex where
 | mk (k p:Nat) (n:Int) (s:List Nat) (b:Bool) (kids:List Ex)
def Ex.k:Ex->Nat | .mk k _ _ _ _ _=>k
def Ex.p:Ex->Nat | .mk _ p _ _ _ _=>p
def Ex.n:Ex->Int | .mk _ _ n _ _ _=>n
def Ex.s:Ex->List Nat | .mk _ _ _ s _ _=>s
def Ex.b:Ex->Bool | .mk _ _ _ _ b _=>b
def Ex.kids:Ex->List Ex | .mk _ _ _ _ _ l=>l
def OM (k n:Nat):Lin:=cond (Nat.beq k 12) .dead (cond ((Nat.beq k 13||Nat.beq k 14)&&Nat.ble 2 n) .dead .lit)
def fA (k:Nat):List AV->AV
 | []=>.nils
 | a::l=>.sl 6 (a::l) (OM k (l.length+1))
mutual
def Ex.v:Ex->AV
 | .mk k p n s b kids=>.agg [.int .i64 (k:Int),.int .i64 (p:Int),.int .i64 n,.str s,.bool b,fA k (exL kids)]
def exL:List Ex->List AV
 | []=>[]
 | a::l=>a.v::exL l
end
def Ex.kv (e:Ex):AV:=fA e.k (exL e.kids)
theorem exL_map:∀ l:List Ex,exL l=l.map Ex.v
 | []=>by simp[exL]
 | a::l=>by simp[exL,exL_map l]
theorem ox (e:Ex):AV.cells e.v=[.int .i64 (e.k:Int),.int .i64 (e.p:Int),.int .i64 e.n,.str e.s,.bool e.b,e.kv]:=by cases e;rfl
theorem Je (e:Ex):AV.agg [.int .i64 (e.k:Int),.int .i64 (e.p:Int),.int .i64 e.n,.str e.s,.bool e.b,e.kv]=e.v:=by cases e;rfl
theorem Tg (k n:Nat):mS (OM k n)=true:=by unfold OM;cases Nat.beq k 12<;>cases (Nat.beq k 13||Nat.beq k 14)&&Nat.ble 2 n<;>rfl
theorem sq {k:Nat}{l:List AV}(h:dp l=true):gK (fA k l)=true:=by
 cases l with
 | nil=>rfl
 | cons a l=>rw[fA,iC,Tg,h];rfl
mutual
theorem ex_noN:∀ e:Ex,gK e.v=true
 | .mk k p n s b kids=>by
   simp only[Ex.v,fg,br,noNL_nil,ig,il,iU,sq (exL_noN kids),cond_true]
theorem exL_noN:∀ l:List Ex,dp (exL l)=true
 | []=>rfl
 | a::l=>by simp only[exL,br,ex_noN a,exL_noN l,cond_true]
end
theorem Ff (e:Ex):gK e.kv=true:=sq (exL_noN _)
theorem uu (e:Ex):AV.one e.kv=true:=by
 unfold Ex.kv;cases exL e.kids<;>rfl
theorem qc {k:Nat}{l:List AV}(h:sameL l l=true):AV.same (fA k l) (fA k l)=true:=by
 cases l with
 | nil=>simp[fA,AV.same]
 | cons a l=>simp[fA,AV.same,h]
mutual
theorem ex_same:∀ e:Ex,AV.same e.v e.v=true
 | .mk k p n s b kids=>by
   simp[Ex.v,AV.same,sameL,qc (exL_same kids)]
theorem exL_same:∀ l:List Ex,sameL (exL l) (exL l)=true
 | []=>by simp[exL,sameL]
 | a::l=>by simp[exL,sameL,ex_same a,exL_same l]
end
abbrev dv (e:Ex):AObj:=.cells [.int .i64 (e.k:Int),.int .i64 (e.p:Int),.int .i64 e.n,.str e.s,.bool e.b,e.kv]
theorem je (e:Ex):∃ (k p n:Int) (s:List Nat) (b:Bool) (kv:AV),e.v=.agg [.int .i64 k,.int .i64 p,.int .i64 n,.str s,.bool b,kv]/\(kv=.nils\/∃ l q,kv=.sl 6 l q):=by
 cases e with
 | mk k p n s b kids =>
   refine ⟨k,p,n,s,b,fA k (exL kids),by simp only[Ex.v],?_⟩
   cases exL kids with
   | nil=>exact .inl rfl
   | cons a l=>exact .inr ⟨_,_,rfl⟩
theorem W5 (a:Ex):aM CC 121 1 [(0,a.v)]=some (.sl 6 [a.v] .lit):=by
 obtain ⟨k,p,n,s,b,kv,h,rfl|⟨l,q,rfl⟩⟩:=je a<;>rw[h]<;>kernel_rfl
theorem X7 (a b:Ex):aM CC 121 2 [(0,a.v),(1,b.v)]=some (.sl 6 [a.v,b.v] .lit):=by
 obtain ⟨k,p,n,s,b',kv,h,rfl|⟨l,q,rfl⟩⟩:=je a<;>obtain ⟨k',p',n',s',b'',kv',h',rfl|⟨l',q',rfl⟩⟩:=je b<;>rw[h,h']<;>kernel_rfl
theorem Yd (a b c:Ex):aM CC 121 3 [(0,a.v),(1,b.v),(2,c.v)]=some (.sl 6 [a.v,b.v,c.v] .lit):=by
 obtain ⟨k,p,n,s,b',kv,h,rfl|⟨l,q,rfl⟩⟩:=je a<;>obtain ⟨k',p',n',s',b'',kv',h',rfl|⟨l',q',rfl⟩⟩:=je b<;>obtain ⟨k2,p2,n2,s2,b2,kv2,h2,rfl|⟨l2,q2,rfl⟩⟩:=je c<;>rw[h,h',h2]<;>kernel_rfl
theorem EXS:(∀ e:Ex,AV.cells e.v=[.int .i64 (e.k:Int),.int .i64 (e.p:Int),.int .i64 e.n,.str e.s,.bool e.b,e.kv])/\(∀ e:Ex,AV.agg [.int .i64 (e.k:Int),.int .i64 (e.p:Int),.int .i64 e.n,.str e.s,.bool e.b,e.kv]=e.v) /\
  (∀ e:Ex,gK e.v=true)/\(∀ e:Ex,gK e.kv=true)/\(∀ e:Ex,AV.one e.kv=true)/\(∀ e:Ex,AV.same e.v e.v=true) /\
  (∀ a:Ex,aM CC 121 1 [(0,a.v)]=some (.sl 6 [a.v] .lit))/\(∀ a b:Ex,aM CC 121 2 [(0,a.v),(1,b.v)]=some (.sl 6 [a.v,b.v] .lit))/\(∀ a b c:Ex,aM CC 121 3 [(0,a.v),(1,b.v),(2,c.v)]=some (.sl 6 [a.v,b.v,c.v] .lit)) :=
 ⟨ox,Je,ex_noN,Ff,uu,ex_same,W5,X7,Yd⟩
theorem se {α:Type}{h:List α}{n:Nat}(hn:n<aa h)(v:α)(l:List α):ae (am h n v++l) n=some v:=by
 rw[ai] at hn;rw[aB,aR,List.getElem?_append_left (by simpa using hn)]
 simp[hn]
theorem qy {α:Type}{h:List α}{n:Nat}(hn:n<aa h)(v w:α)(l:List α):am (am h n v++l) n w=am h n w++l:=by
 rw[ai] at hn;rw[aR,aR,aR,List.set_append_left _ _ (by simpa using hn),List.set_set]
abbrev Runs (M:Memo)(f:Nat)(args:List AV)(n:Nat)(toks:List AV)(lin:Lin)(i:Nat)(v:AV)(j:Nat):Prop :=
 ∀ H:Heap,ae H n=some (iq toks lin i)->orc CC M f args H=some (.ret v (am H n (iq toks lin j)) (aa H))
theorem Runs.of {M:Memo}{f:Nat}{args:List AV}{n:Nat}{toks:List AV}{lin:Lin}{i:Nat}{v:AV}{j:Nat}
  (h:∀ H:Heap,n<aa H->orc CC M f args (am H n (iq toks lin i))=some (.ret v (am H n (iq toks lin j)) (aa H))):Runs M f args n toks lin i v j:=by
 intro H hn;have:=h H (by rw[ai];exact bj hn)
 rwa [dY hn] at this
def U8 (f:Nat):Bool:=[30,53,74,49,50,147,191,194,195,77,111,193,78,112,146,167,168,179,184,188,189,190,192,75,51,52,54,76,29,46,28,27,79,30,48].any (Nat.beq f)
def Ov (M:Memo):Prop:=∀ f a,U8 f=true->M f a=none
theorem parM_of:∀ {l:List (FuncId×List AV×AV)},l.all (λe=>!U8 e.1)=true->Ov (memoL l)
 | [],_,f,a,_=>rfl
 | (g,b,v)::r,h,f,a,hf=>by
   simp only[List.all_cons,Bool.and_eq_true] at h
   have hne:Nat.beq g f=false:=by
    cases hb:Nat.beq g f with
    | false=>rfl
    | true =>
      have:=Nat.eq_of_beq_eq_true hb;subst this;rw[hf] at h;exact absurd h.1 (by decide)
   show cond (Nat.beq g f) _ (memoL r f a)=none;rw[hne];exact parM_of h.2 f a hf
section
variable {M:Memo}{toks:List AV}{lin:Lin}{n i:Nat}{x:TkR}
theorem vO (m:Ov M)(hx:ae toks i=some x.v):∀ H,ae H n=some (iq toks lin i)->orc CC M 30 [.ptr n 0] H=some (.ret x.v H (aa H)) :=
 λH hn=>i3 (λa=>m 30 a rfl) hn hx
end
inductive PF where
 | expr|arrow|or_|and_|not_|sum|term|unary|when_|prim
def PF.id:PF->Nat
 | .expr=>78 | .arrow=>112 | .or_=>146 | .and_=>168 | .not_=>179 | .sum=>184 | .term=>188 | .unary=>189 | .when_=>190 | .prim=>192
abbrev PR:=Option (Ex×Nat)
noncomputable section
end
theorem mP {ts:List TkR}{i:Nat}{x:TkR}(h:ae ts i=some x):ae (ts.map TkR.v) i=some x.v:=by
 rw[aB] at h ⊢;rw[List.getElem?_map,h];rfl
section
variable {M:Memo}{ts:List TkR}{lin:Lin}{n:Nat}{rec:PF->Nat->PR}
end
section
variable {M:Memo}{ts:List TkR}{lin:Lin}{n:Nat}{rec:PF->Nat->PR}
end
section
variable {M:Memo}{ts:List TkR}{lin:Lin}{n:Nat}{rec:PF->Nat->PR}
end
theorem oN {sz:Nat}{l:List AV}{id g base:Nat}{hp:Heap}(hl:dp l=true)(hid:base<=id) :
  lH false base (.sl sz l (.live id g)) ⟨hp,base⟩=.ret (.sl sz l .dead) (bg base hp) base:=by
 have h1:gK (.sl sz l (.live id g))=false:=rfl;have h2:Lin.low base (.live id g)=false:=by simp[Lin.low];omega
 have h3:AV.settle base hp (.sl sz l (.live id g))=.sl sz l .dead:=by
  simp[AV.settle,ic hl,h2]
 have h4:AV.low base (.sl sz l .dead)=true:=by
  simp[AV.low,de hl,Lin.low]
 unfold lH;rw[h1,Bool.and_false];simp only[cond_false,Ie,dm,if_true,h3,h4,Bool.false_eq_true,if_false,bU]
section
variable {M:Memo}{ts:List TkR}{lin:Lin}{n:Nat}{rec:PF->Nat->PR}
end
theorem sI {b sz id g:Nat}{l:List AV}(hl:dp l=true):AV.low b (.sl sz l (.live id g))=decide (id<b):=by
 simp[AV.low,de hl,Lin.low]
section
variable {M:Memo}{ts:List TkR}{lin:Lin}{n:Nat}{rec:PF->Nat->PR}
end
end Go.Proofs
