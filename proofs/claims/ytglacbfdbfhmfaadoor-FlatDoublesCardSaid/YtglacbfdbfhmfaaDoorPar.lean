/- expressions. Part of the proof of girandolelaw08.FlatDoubles. -/
import Derived.Test.YtglacbfdbfhmfaaDoorLex
set_option linter.unusedVariables false
set_option linter.unusedSimpArgs false
set_option maxRecDepth 1000000
namespace Go.Proofs
open Go Go.Abs
inductive Ex where
 | mk (k p:Nat) (n:Int) (s:List Nat) (b:Bool) (kids:List Ex)
def Ex.k:Ex→Nat | .mk k _ _ _ _ _=>k
def Ex.p:Ex→Nat | .mk _ p _ _ _ _=>p
def Ex.n:Ex→Int | .mk _ _ n _ _ _=>n
def Ex.s:Ex→List Nat | .mk _ _ _ s _ _=>s
def Ex.b:Ex→Bool | .mk _ _ _ _ b _=>b
def Ex.kids:Ex→List Ex | .mk _ _ _ _ _ l=>l
def Ip (k n:Nat):Lin:=cond (Nat.beq k 12) .dead (cond ((Nat.beq k 13 || Nat.beq k 14) && Nat.ble 2 n) .dead .lit)
def cC (k:Nat):List AV→AV
 | []=>.nils
 | a :: l=>.sl 6 (a :: l) (Ip k (l.length + 1))
mutual
def Ex.v:Ex→AV
 | .mk k p n s b kids=>.agg [.int .i64 (k:Int),.int .i64 (p:Int),.int .i64 n,.str s,.bool b,cC k (exL kids)]
def exL:List Ex→List AV
 | []=>[]
 | a :: l=>a.v :: exL l
end
def Ex.kv (e:Ex):AV:=cC e.k (exL e.kids)
theorem exL_map:∀ l:List Ex,exL l=l.map Ex.v
 | []=>by simp[exL]
 | a :: l=>by simp[exL,exL_map l]
theorem fS (e:Ex):AV.cells e.v=[.int .i64 (e.k:Int),.int .i64 (e.p:Int),.int .i64 e.n,.str e.s,.bool e.b,e.kv]:=by cases e;rfl
theorem HS (e:Ex):AV.agg [.int .i64 (e.k:Int),.int .i64 (e.p:Int),.int .i64 e.n,.str e.s,.bool e.b,e.kv]=e.v:=by cases e;rfl
theorem Nm (k n:Nat):oV (Ip k n)=true:=by unfold Ip;cases Nat.beq k 12 <;> cases (Nat.beq k 13 || Nat.beq k 14) && Nat.ble 2 n <;> rfl
theorem np {k:Nat}{l:List AV}(h:dK l=true):gF (cC k l)=true:=by
 cases l with
 | nil=>rfl
 | cons a l=>rw[cC,gW,Nm,h];rfl
mutual
theorem ex_noN:∀ e:Ex,gF e.v=true
 | .mk k p n s b kids=>by
   simp only[Ex.v,en,bJ,noNL_nil,fQ,fJ,gH,np (exL_noN kids),cond_true]
theorem exL_noN:∀ l:List Ex,dK (exL l)=true
 | []=>rfl
 | a :: l=>by simp only[exL,bJ,ex_noN a,exL_noN l,cond_true]
end
theorem nT (e:Ex):gF e.kv=true:=np (exL_noN _)
theorem lP (e:Ex):AV.one e.kv=true:=by
 unfold Ex.kv;cases exL e.kids <;> rfl
theorem qt {k:Nat}{l:List AV}(h:sameL l l=true):AV.same (cC k l) (cC k l)=true:=by
 cases l with
 | nil=>simp[cC,AV.same]
 | cons a l=>simp[cC,AV.same,h]
mutual
theorem ex_same:∀ e:Ex,AV.same e.v e.v=true
 | .mk k p n s b kids=>by
   simp[Ex.v,AV.same,sameL,qt (exL_same kids)]
theorem exL_same:∀ l:List Ex,sameL (exL l) (exL l)=true
 | []=>by simp[exL,sameL]
 | a :: l=>by simp[exL,sameL,ex_same a,exL_same l]
end
abbrev bH (e:Ex):AObj:=.cells [.int .i64 (e.k:Int),.int .i64 (e.p:Int),.int .i64 e.n,.str e.s,.bool e.b,e.kv]
theorem ip (e:Ex):∃ (k p n:Int) (s:List Nat) (b:Bool) (kv:AV),e.v=.agg [.int .i64 k,.int .i64 p,.int .i64 n,.str s,.bool b,kv]∧(kv=.nils∨∃ l q,kv=.sl 6 l q):=by
 cases e with
 | mk k p n s b kids =>
   refine ⟨k,p,n,s,b,cC k (exL kids),by simp only[Ex.v],?_⟩
   cases exL kids with
   | nil=>exact .inl rfl
   | cons a l=>exact .inr ⟨_,_,rfl⟩
theorem Pv (a:Ex):aP CC 81 1 [(0,a.v)]=some (.sl 6 [a.v] .lit):=by
 obtain ⟨k,p,n,s,b,kv,h,rfl | ⟨l,q,rfl⟩⟩:=ip a <;> rw[h] <;> kernel_rfl
theorem SK (a b:Ex):aP CC 81 2 [(0,a.v),(1,b.v)]=some (.sl 6 [a.v,b.v] .lit):=by
 obtain ⟨k,p,n,s,b',kv,h,rfl | ⟨l,q,rfl⟩⟩:=ip a <;> obtain ⟨k',p',n',s',b'',kv',h',rfl | ⟨l',q',rfl⟩⟩:=ip b <;> rw[h,h'] <;> kernel_rfl
theorem SU (a b c:Ex):aP CC 81 3 [(0,a.v),(1,b.v),(2,c.v)]=some (.sl 6 [a.v,b.v,c.v] .lit):=by
 obtain ⟨k,p,n,s,b',kv,h,rfl | ⟨l,q,rfl⟩⟩:=ip a <;> obtain ⟨k',p',n',s',b'',kv',h',rfl | ⟨l',q',rfl⟩⟩:=ip b <;> obtain ⟨k2,p2,n2,s2,b2,kv2,h2,rfl | ⟨l2,q2,rfl⟩⟩:=ip c <;> rw[h,h',h2] <;> kernel_rfl
theorem Ol (a b:Int)(l:List AV):ao CC 83 [(0,.int .i64 a),(1,.int .i64 b),(5,.sl 6 l .lit)]=some (.agg [.int .i64 a,.int .i64 b,.int .i64 0,.str [],.bool false,.sl 6 l .lit]):=by kernel_rfl
theorem Hk (a b:Int)(s:List Nat)(l:List AV):ao CC 83 [(0,.int .i64 a),(1,.int .i64 b),(3,.str s),(5,.sl 6 l .lit)]=some (.agg [.int .i64 a,.int .i64 b,.int .i64 0,.str s,.bool false,.sl 6 l .lit]):=by kernel_rfl
theorem E4 (a b:Int)(s:List Nat)(o:Bool)(l:List AV):ao CC 83 [(0,.int .i64 a),(1,.int .i64 b),(3,.str s),(4,.bool o),(5,.sl 6 l .lit)]=some (.agg [.int .i64 a,.int .i64 b,.int .i64 0,.str s,.bool o,.sl 6 l .lit]):=by kernel_rfl
theorem Rg (a b:Int):ao CC 83 [(0,.int .i64 a),(1,.int .i64 b)]=some (.agg [.int .i64 a,.int .i64 b,.int .i64 0,.str [],.bool false,.nils]):=by kernel_rfl
theorem Np (a b n:Int):ao CC 83 [(0,.int .i64 a),(1,.int .i64 b),(2,.int .i64 n)]=some (.agg [.int .i64 a,.int .i64 b,.int .i64 n,.str [],.bool false,.nils]):=by kernel_rfl
theorem NB (a b:Int)(s:List Nat):ao CC 83 [(0,.int .i64 a),(1,.int .i64 b),(3,.str s)]=some (.agg [.int .i64 a,.int .i64 b,.int .i64 0,.str s,.bool false,.nils]):=by kernel_rfl
theorem EXS:(∀ e:Ex,AV.cells e.v=[.int .i64 (e.k:Int),.int .i64 (e.p:Int),.int .i64 e.n,.str e.s,.bool e.b,e.kv])∧(∀ e:Ex,AV.agg [.int .i64 (e.k:Int),.int .i64 (e.p:Int),.int .i64 e.n,.str e.s,.bool e.b,e.kv]=e.v) ∧
  (∀ e:Ex,gF e.v=true)∧(∀ e:Ex,gF e.kv=true)∧(∀ e:Ex,AV.one e.kv=true)∧(∀ e:Ex,AV.same e.v e.v=true) ∧
  (∀ a:Ex,aP CC 81 1 [(0,a.v)]=some (.sl 6 [a.v] .lit))∧(∀ a b:Ex,aP CC 81 2 [(0,a.v),(1,b.v)]=some (.sl 6 [a.v,b.v] .lit))∧(∀ a b c:Ex,aP CC 81 3 [(0,a.v),(1,b.v),(2,c.v)]=some (.sl 6 [a.v,b.v,c.v] .lit)) :=
 ⟨fS,HS,ex_noN,nT,lP,ex_same,Pv,SK,SU⟩
theorem BES:(∀ (a b:Int) (l:List AV),ao CC 83 [(0,.int .i64 a),(1,.int .i64 b),(5,.sl 6 l .lit)]=some (.agg [.int .i64 a,.int .i64 b,.int .i64 0,.str [],.bool false,.sl 6 l .lit])) ∧
  (∀ (a b:Int) (s:List Nat) (l:List AV),ao CC 83 [(0,.int .i64 a),(1,.int .i64 b),(3,.str s),(5,.sl 6 l .lit)]=some (.agg [.int .i64 a,.int .i64 b,.int .i64 0,.str s,.bool false,.sl 6 l .lit])) ∧
  (∀ (a b:Int) (s:List Nat) (o:Bool) (l:List AV),ao CC 83 [(0,.int .i64 a),(1,.int .i64 b),(3,.str s),(4,.bool o),(5,.sl 6 l .lit)]=some (.agg [.int .i64 a,.int .i64 b,.int .i64 0,.str s,.bool o,.sl 6 l .lit])) ∧
  (∀ a b:Int,ao CC 83 [(0,.int .i64 a),(1,.int .i64 b)]=some (.agg [.int .i64 a,.int .i64 b,.int .i64 0,.str [],.bool false,.nils])) ∧
  (∀ a b n:Int,ao CC 83 [(0,.int .i64 a),(1,.int .i64 b),(2,.int .i64 n)]=some (.agg [.int .i64 a,.int .i64 b,.int .i64 n,.str [],.bool false,.nils])) ∧
  (∀ (a b:Int) (s:List Nat),ao CC 83 [(0,.int .i64 a),(1,.int .i64 b),(3,.str s)]=some (.agg [.int .i64 a,.int .i64 b,.int .i64 0,.str s,.bool false,.nils])) :=
 ⟨Ol,Hk,E4,Rg,Np,NB⟩
theorem aI {α:Type}{h:List α}{n:Nat}(hn:n < aa h)(v:α)(l:List α):af (ai h n v ++ l) n=some v:=by
 rw[aj] at hn;rw[aD,aN,List.getElem?_append_left (by simpa using hn)]
 simp[hn]
theorem db {α:Type}{h:List α}{n:Nat}(hn:n < aa h)(v:α):af (ai h n v) n=some v:=by
 have:=aI hn v [];simpa using this
theorem aJ {α:Type}{h:List α}{n:Nat}(hn:n < aa h)(v w:α)(l:List α):ai (ai h n v ++ l) n w=ai h n w ++ l:=by
 rw[aj] at hn;rw[aN,aN,aN,List.set_append_left _ _ (by simpa using hn),List.set_set]
abbrev Runs (M:Memo)(f:Nat)(args:List AV)(n:Nat)(toks:List AV)(lin:Lin)(i:Nat)(v:AV)(j:Nat):Prop :=
 ∀ H:Heap,af H n=some (aC toks lin i)→orc CC M f args H=some (.ret v (ai H n (aC toks lin j)) (aa H))
theorem Runs.of {M:Memo}{f:Nat}{args:List AV}{n:Nat}{toks:List AV}{lin:Lin}{i:Nat}{v:AV}{j:Nat}
  (h:∀ H:Heap,n < aa H→orc CC M f args (ai H n (aC toks lin i))=some (.ret v (ai H n (aC toks lin j)) (aa H))):Runs M f args n toks lin i v j:=by
 intro H hn;have:=h H (by rw[aj];exact bm hn)
 rwa [eB hn] at this
def QR (f:Nat):Bool:=[19,33,40,29,30,73,98,101,102,43,59,100,44,60,72,79,80,88,92,95,96,97,99,41,31,32,34,42,18,26,17,16,45,19,28].any (Nat.beq f)
def cq (M:Memo):Prop:=∀ f a,QR f=true→M f a=none
theorem parM_of:∀ {l:List (FuncId × List AV × AV)},l.all (fun e=>!QR e.1)=true→cq (memoL l)
 | [],_,f,a,_=>rfl
 | (g,b,v) :: r,h,f,a,hf=>by
   simp only[List.all_cons,Bool.and_eq_true] at h
   have hne:Nat.beq g f=false:=by
    cases hb:Nat.beq g f with
    | false=>rfl
    | true =>
      have:=Nat.eq_of_beq_eq_true hb;subst this;rw[hf] at h;exact absurd h.1 (by decide)
   show cond (Nat.beq g f) _ (memoL r f a)=none;rw[hne];exact parM_of h.2 f a hf
def cW (x:TkR)(ws:List (List Nat)):Bool:=cond (Nat.beq x.k 3 || Nat.beq x.k 4) (uW x.t ws) false
section
variable {M:Memo}{toks:List AV}{lin:Lin}{n i:Nat}{x:TkR}
theorem zk (x:TkR):(decide ((x.k:Int)=3) || decide ((x.k:Int)=4))=(Nat.beq x.k 3 || Nat.beq x.k 4):=by
 rw[show decide ((x.k:Int)=3)=Nat.beq x.k 3 from vf x.k 3,show decide ((x.k:Int)=4)=Nat.beq x.k 4 from vf x.k 4]
theorem cG (m:cq M)(hx:af toks i=some x.v)(hi:i + 1≤natMax){ws:List (List Nat)}{wa:List AV}(hw:wa=ws.map .str)(hl:wa.length < 1000)(h:cW x ws=true)(l:Lin) :
  ∀ H,af H n=some (aC toks lin i)→orc CC M 40 [.ptr n 0,.sl 1 wa l] H=some (.ret (.tuple [x.v,.bool true]) (ai H n (aC toks lin (i + 1))) (aa H)):=by
 intro H hn;have:=se (fun a=>m 19 a rfl) (fun a=>m 33 a rfl) (fun a=>m 40 a rfl) (l:=l) hn hx hl (hw ▸ k0 x.t ws) hi
 rw[this,zk];unfold cW at h;rw[h];rfl
theorem cU (m:cq M)(hx:af toks i=some x.v)(hi:i + 1≤natMax){ws:List (List Nat)}{wa:List AV}(hw:wa=ws.map .str)(hl:wa.length < 1000)(h:cW x ws=false)(l:Lin) :
  ∀ H,af H n=some (aC toks lin i)→orc CC M 40 [.ptr n 0,.sl 1 wa l] H=some (.ret (.tuple [x.v,.bool false]) H (aa H)):=by
 intro H hn;have:=se (fun a=>m 19 a rfl) (fun a=>m 33 a rfl) (fun a=>m 40 a rfl) (l:=l) hn hx hl (hw ▸ k0 x.t ws) hi
 rw[this,zk];unfold cW at h;rw[h];rfl
theorem vW (m:cq M)(hx:af toks i=some x.v){ws:List (List Nat)}{wa:List AV}(hw:wa=ws.map .str)(hl:wa.length < 1000){b:Bool}(h:cW x ws=b)(l:Lin) :
  ∀ H,af H n=some (aC toks lin i)→orc CC M 33 [.ptr n 0,.sl 1 wa l] H=some (.ret (.bool b) H (aa H)):=by
 intro H hn;have:=I9 (fun a=>m 19 a rfl) (fun a=>m 33 a rfl) (l:=l) hn hx hl (hw ▸ k0 x.t ws)
 rw[this,zk];unfold cW at h;rw[h]
theorem cK (m:cq M)(hx:af toks i=some x.v)(hi:i + 1≤natMax){s:List Nat}(h:cW x [s]=true)(l:Lin) :
  ∀ H,af H n=some (aC toks lin i)→orc CC M 29 [.ptr n 0,.sl 1 [.str s] l] H=some (.ret x.v (ai H n (aC toks lin (i + 1))) (aa H)):=by
 intro H hn;unfold cW at h;cases hk:(Nat.beq x.k 3 || Nat.beq x.k 4) with
 | false=>rw[hk] at h;cases h
 | true =>
   rw[hk] at h;simp only[cond_true,uW] at h
   have hs:strEq s x.t=true:=by cases hs:strEq s x.t with
    | true=>rfl
    | false=>rw[hs] at h;cases h
   exact IG (fun a=>m 19 a rfl) (fun a=>m 33 a rfl) (fun a=>m 40 a rfl) (fun a=>m 29 a rfl) hn hx (by rw[zk];exact hk) hs hi
theorem lw (m:cq M)(hx:af toks i=some x.v):∀ H,af H n=some (aC toks lin i)→orc CC M 19 [.ptr n 0] H=some (.ret x.v H (aa H)) :=
 fun H hn=>kD (fun a=>m 19 a rfl) hn hx
theorem gC (m:cq M)(hx:af toks i=some x.v)(hi:i + 1≤natMax)(hk:x.k=1):∀ H,af H n=some (aC toks lin i)→orc CC M 30 [.ptr n 0] H=some (.ret x.v (ai H n (aC toks lin (i + 1))) (aa H)):=by
 intro H hn;have hx' : af toks i=some (ev 1 (x.p:Int) x.t (x.m:Int)):=by rw[hx,TkR.v,hk];rfl
 have:=Hr (fun a=>m 19 a rfl) (fun a=>m 30 a rfl) hn hx' hi
 rw[this,TkR.v,hk];rfl
end
theorem Hl (a b:List Nat):aP CC 37 2 [(0,.str a),(1,.str b)]=some (.sl 1 [.str a,.str b] .lit):=by kernel_rfl
theorem HA (a b c:List Nat):aP CC 37 3 [(0,.str a),(1,.str b),(2,.str c)]=some (.sl 1 [.str a,.str b,.str c] .lit):=by kernel_rfl
theorem Id (a b c d e:List Nat):aP CC 37 5 [(0,.str a),(1,.str b),(2,.str c),(3,.str d),(4,.str e)]=some (.sl 1 [.str a,.str b,.str c,.str d,.str e] .lit):=by kernel_rfl
theorem H9 (a b c d e f:List Nat):aP CC 37 6 [(0,.str a),(1,.str b),(2,.str c),(3,.str d),(4,.str e),(5,.str f)]=some (.sl 1 [.str a,.str b,.str c,.str d,.str e,.str f] .lit):=by kernel_rfl
theorem B26:(∀ s:List Nat,aP CC 37 1 [(0,.str s)]=some (.sl 1 [.str s] .lit))∧(∀ a b:List Nat,aP CC 37 2 [(0,.str a),(1,.str b)]=some (.sl 1 [.str a,.str b] .lit)) ∧
  (∀ a b c:List Nat,aP CC 37 3 [(0,.str a),(1,.str b),(2,.str c)]=some (.sl 1 [.str a,.str b,.str c] .lit)) ∧
  (∀ a b c d e:List Nat,aP CC 37 5 [(0,.str a),(1,.str b),(2,.str c),(3,.str d),(4,.str e)]=some (.sl 1 [.str a,.str b,.str c,.str d,.str e] .lit)) ∧
  (∀ a b c d e f:List Nat,aP CC 37 6 [(0,.str a),(1,.str b),(2,.str c),(3,.str d),(4,.str e),(5,.str f)]=some (.sl 1 [.str a,.str b,.str c,.str d,.str e,.str f] .lit)) :=
 ⟨LX,Hl,HA,Id,H9⟩
def SM (e:Ex):Bool:=Nat.beq e.k 1 || Nat.beq e.k 2
theorem Cf {M:Memo}(m:cq M)(e:Ex)(H:Heap):orc CC M 73 [e.v] H=some (.ret (.bool (SM e)) H (aa H)):=by
 refine aH (z:=z73) (m _ _ rfl) (by kernel_rfl) rfl ?_
 have e0:(envOf [e.v] 0 env0).a.a.a=e.v:=rfl;generalize envOf [e.v] 0 env0=R at e0
 have hbx:∀ L,eW e.v L=some (.cells [.int .i64 (e.k:Int),.int .i64 (e.p:Int),.int .i64 e.n,.str e.s,.bool e.b,e.kv],(.ptr · 0)):=by
  intro L;have h1:e.v.low L=true:=(dq _ (ex_noN e)).2 L;unfold eW
  have h2:(AV.cells e.v).all AV.one=true:=by
   rw[fS];simp only[List.all_cons,List.all_nil,lP,eO,eL,gb,Bool.and_self]
  rw[if_pos ⟨h2,h1⟩,fS]
 have c1:decide ((e.k:Int)=1)=Nat.beq e.k 1:=vf e.k 1;have c2:decide ((e.k:Int)=2)=Nat.beq e.k 2:=vf e.k 2;unfold SM;cases h1:Nat.beq e.k 1 <;> rw[h1] at c1 <;> cases h2:Nat.beq e.k 2 <;> rw[h2] at c2 <;>
 simp only[z73,Mr,ME,SIM,ST0,e0,hbx,c1,c2,Nat.reduceAdd,Nat.reduceLeDiff,Bool.or_false]
theorem Fk (x:TkR)(L:Nat):eW x.v L=some (.cells [.int .i64 (x.k:Int),.int .i64 (x.p:Int),.str x.t,.int .u64 (x.m:Int)],(.ptr · 0)):=by
 have h1:x.v.low L=true:=(dq _ (qJ x)).2 L;unfold eW;rw[h1];simp[TkR.v,AV.one,AV.cells]
def truE:List Nat:=[116,114,117,101]
def rW (x:TkR):Ex:=.mk 2 x.p (cond (strEq x.t truE) 1 0) [] false []
theorem td {M:Memo}(m:cq M)(x:TkR)(H:Heap):orc CC M 101 [x.v] H=some (.ret (rW x).v H (aa H)):=by
 refine aH (z:=z101) (m _ _ rfl) (by kernel_rfl) rfl ?_
 have e0:(envOf [x.v] 0 env0).a.a.a=x.v:=rfl;generalize envOf [x.v] 0 env0=R at e0;have hb:=Fk x;have ht:strEq x.t [116,114,117,101]=strEq x.t truE:=rfl;unfold rW;cases h:strEq x.t truE <;> rw[h] at ht <;>
 simp only[z101,EW,Co,Dl,EP,Gw,SIM,ST0,e0,hb,ht,BES,Nat.reduceAdd,Nat.reduceLeDiff,Ex.v,exL,cC,Int.cast_ofNat_Int]
def jH (x:TkR)(p:Nat)(below:Bool):Option Ex:=cond (Nat.ble x.m 9223372036854775807) (some (.mk 1 p (cond below (-(x.m:Int)) (x.m:Int)) [] false [])) (cond (below && Nat.beq x.m 9223372036854775808) (some (.mk 1 p (-9223372036854775808) [] false [])) none)
theorem MR (n:Int):ce .neg (.int .i64 n)=some (.int .i64 (IntKind.wrap .i64 (-n))):=by rw[← Int.zero_sub];rfl
theorem Sb (n:Int):bO CC 48 2 (.int .u64 n)=some (.int .i64 (IntKind.wrap .i64 n)):=by
 have h1:CC.P.underlying 48=some (.int .u64):=by kernel_rfl
 have h2:CC.P.underlying 2=some (.int .i64):=by kernel_rfl
 simp only[bO,h1,h2]
theorem O5 (x:Nat):cB CC .gtr 48 true (.int .u64 (x:Int)) (.int .u64 9223372036854775807)=some (.bool (!Nat.ble x 9223372036854775807)):=by
 show some (AV.bool (decide ((x:Int) > 9223372036854775807)))=_;rw[dE]
 congr 2
 rw[Bool.eq_iff_iff];simp;omega
theorem EL {n:Nat}(h:n≤9223372036854775808):IntKind.wrap .i64 (-(n:Int))=-(n:Int):=by
 simp[IntKind.wrap,IntKind.bits,IntKind.signed,Int.bmod];omega
theorem jl {M:Memo}(m:cq M)(x:TkR)(p:Nat)(below:Bool){e:Ex}(he:jH x p below=some e)(H:Heap):orc CC M 98 [x.v,.int .i64 (p:Int),.bool below] H=some (.ret e.v H (aa H)):=by
 refine aH (z:=z98) (m _ _ rfl) (by kernel_rfl) rfl ?_
 have e0:(envOf [x.v,.int .i64 (p:Int),.bool below] 0 env0).a.a.a=x.v:=rfl;have e1:(envOf [x.v,.int .i64 (p:Int),.bool below] 0 env0).a.a.b=.int .i64 (p:Int):=rfl;have e2:(envOf [x.v,.int .i64 (p:Int),.bool below] 0 env0).a.a.c=.bool below:=rfl;generalize envOf [x.v,.int .i64 (p:Int),.bool below] 0 env0=R at e0 e1 e2;have hb:=Fk x;have hg:=O5 x.m;unfold jH at he;cases hq:Nat.ble x.m 9223372036854775807 with
 | true =>
   rw[hq] at he hg;simp only[cond_true,SJ] at he;subst he;have hle:x.m≤9223372036854775807:=Nat.le_of_ble_eq_true hq;have hw:IntKind.wrap .i64 (x.m:Int)=(x.m:Int):=f7 (by unfold natMax;omega)
   have hw2:=EL (n:=x.m) (by omega)
   cases below <;>
   simp only[z98,FV,BV,B7,Gp,Cs,FG,SIM,ST0,e0,e1,e2,hb,hg,Sb,MR,hw,hw2,BES,Nat.reduceAdd,Nat.reduceLeDiff,Ex.v,exL,cC,Int.cast_ofNat_Int]
 | false =>
   rw[hq] at he hg;simp only[cond_false] at he;cases below with
   | false=>cases he
   | true =>
     obtain ⟨h1,h2⟩:=aS he;simp only[Bool.true_and] at h1;have hm:=Nat.eq_of_beq_eq_true h1;simp only[SJ] at h2;subst h2;have hw:IntKind.wrap .i64 9223372036854775808=-9223372036854775808:=by decide
     have hw2:IntKind.wrap .i64 (-(-9223372036854775808))=-9223372036854775808:=by decide
     rw[hm] at hb;simp only[z98,FV,BV,B7,Gp,Cs,FG,SIM,ST0,e0,e1,e2,hb,hg,Sb,MR,hw,hw2,BES,Nat.reduceAdd,Nat.reduceLeDiff,Ex.v,exL,cC,Int.cast_ofNat_Int]
inductive PF where
 | expr | arrow | or_ | and_ | not_ | sum | term | unary | when_ | prim
def PF.id:PF→Nat
 | .expr=>44 | .arrow=>60 | .or_=>72 | .and_=>80 | .not_=>88 | .sum=>92 | .term=>95 | .unary=>96 | .when_=>97 | .prim=>99
abbrev PR:=Option (Ex × Nat)
def pz {β:Type}(r:PR)(k:Ex→Nat→Option β):Option β:=match r with
 | some (a,i)=>k a i
 | none=>none
noncomputable def ji {β:Type}(ts:List TkR)(i:Nat)(k:TkR→Option β):Option β:=match af ts i with
 | some x=>k x
 | none=>none
noncomputable def ey {β:Type}(ts:List TkR)(i:Nat)(w:List Nat)(k:Nat→Option β):Option β:=ji ts i fun x=>cond (cW x [w]) (k (i + 1)) none
noncomputable def iC {β:Type}(ts:List TkR)(i:Nat)(k:TkR→Nat→Option β):Option β:=ji ts i fun x=>cond (Nat.beq x.k 1) (k x (i + 1)) none
noncomputable section
def y9 (ts:List TkR)(ws:List (List Nat))(kid:Nat→PR):Nat→Ex→Nat→PR
 | 0,_,_=>none
 | k + 1,a,i=>ji ts i fun x=>cond (cW x ws) (pz (kid (i + 1)) fun b j=>y9 ts ws kid k (.mk 6 x.p 0 x.t false [a,b]) j) (some (a,i))
def tO (ts:List TkR)(ws:List (List Nat))(kid:Nat→PR)(k:Nat)(i:Nat):PR:=pz (kid i) fun a j=>y9 ts ws kid k a j
def uz (ts:List TkR):Nat→Ex→Nat→PR
 | 0,_,_=>none
 | k + 1,a,i=>ji ts i fun x=>cond (cW x [[119,104,101,110]]) (ji ts (i + 1) fun y=>cond (cW y [[110,111,116]])
     (iC ts (i + 2) fun z j=>uz ts k (.mk 11 x.p 0 z.t true [a]) j) (iC ts (i + 1) fun z j=>uz ts k (.mk 11 x.p 0 z.t false [a]) j)) (some (a,i))
def pj (ts:List TkR)(one:Nat→PR):Nat→Nat→Option (List Ex × Nat)
 | 0,_=>none
 | k + 1,i=>pz (one i) fun a j=>ji ts j fun x=>cond (cW x [[44]]) (match pj ts one k (j + 1) with
   | some (l,j')=>some (a :: l,j')
   | none=>none) (cond (cW x [[41]]) (some ([a],j + 1)) none)
def HQ (ts:List TkR)(i:Nat):PR:=ji ts i fun x=>cond (cW x [[116,114,117,101],[102,97,108,115,101]]) (some (rW x,i + 1))
 (cond (cW x [[45]]) (ji ts (i + 1) fun y=>cond (Nat.beq y.k 2) (match jH y x.p true with
  | some e=>some (e,i + 2)
  | none=>none) none) (cond (Nat.beq x.k 2) (match jH x x.p false with
  | some e=>some (e,i + 1)
  | none=>none) none))
def FA (ts:List TkR)(k p i:Nat):PR:=iC ts i fun z j=>ji ts j fun x=>cond (cW x [[97,102,116,101,114]]) (ey ts (j + 1) [40] fun j2=>match pj ts (HQ ts) k j2 with
    | some (l,j3)=>some (.mk 14 p 0 z.t false l,j3)
    | none=>none) (some (.mk 14 p 0 z.t false [],j))
def xK (ts:List TkR)(rec:PF→Nat→PR)(k:Nat)(x:TkR)(i:Nat):PR:=ey ts i [40] fun j=>ji ts j fun y=>cond (cW y [[41]]) (some (.mk 13 x.p 0 x.t false [],j + 1)) (match pj ts (rec .expr) k j with
    | some (l,j2)=>some (.mk 13 x.p 0 x.t false l,j2)
    | none=>none)
def pq (ts:List TkR)(rec:PF→Nat→PR)(k:Nat):PF→Nat→PR
 | .expr,i=>ji ts i fun x=>cond (cW x [[105,102]]) (pz (rec .expr (i + 1)) fun a i1=>ey ts i1 [116,104,101,110] fun i2=>pz (rec .expr i2) fun b i3=>ey ts i3 [101,108,115,101] fun i4 =>
  pz (rec .expr i4) fun c i5=>some (.mk 7 x.p 0 [] false [a,b,c],i5)) (rec .arrow i)
 | .arrow,i=>pz (rec .or_ i) fun a i1=>ji ts i1 fun x=>cond (cW x [[45,62]]) (pz (rec .arrow (i1 + 1)) fun b j=>some (.mk 8 x.p 0 [] false [a,b],j))
  (cond (cW x [[102,98,121]]) (cond (SM a) (pz (rec .arrow (i1 + 1)) fun b j=>some (.mk 9 x.p 0 [] false [a,b],j)) none) (some (a,i1)))
 | .or_,i=>tO ts [[111,114],[120,111,114]] (rec .and_) k i
 | .and_,i=>tO ts [[97,110,100]] (rec .not_) k i
 | .not_,i=>ji ts i fun x=>cond (cW x [[110,111,116]]) (pz (rec .not_ (i + 1)) fun a j=>some (.mk 5 x.p 0 [] false [a],j))
  (pz (rec .sum i) fun a i1=>ji ts i1 fun y=>cond (cW y [[61],[60,62],[60],[60,61],[62],[62,61]]) (pz (rec .sum (i1 + 1)) fun b j=>some (.mk 6 y.p 0 y.t false [a,b],j)) (some (a,i1)))
 | .sum,i=>tO ts [[43],[45]] (rec .term) k i
 | .term,i=>tO ts [[42],[47],[109,111,100]] (rec .unary) k i
 | .unary,i=>ji ts i fun x=>cond (cW x [[112,114,101]]) (pz (rec .unary (i + 1)) fun a j=>some (.mk 10 x.p 0 [] false [a],j))
  (cond (cW x [[45]]) (ji ts (i + 1) fun y=>cond (Nat.beq y.k 2)
    (ji ts (i + 2) fun z=>cond (strEq z.t [119,104,101,110]) (pz (rec .unary (i + 1)) fun a j=>some (.mk 4 x.p 0 [] false [a],j)) (match jH y x.p true with
     | some e=>some (e,i + 2)
     | none=>none))
    (pz (rec .unary (i + 1)) fun a j=>some (.mk 4 x.p 0 [] false [a],j)))
   (rec .when_ i))
 | .when_,i=>pz (rec .prim i) fun a j=>uz ts k a j
 | .prim,i=>ji ts i fun x=>cond (Nat.beq x.k 2) (match jH x x.p false with
   | some e=>some (e,i + 1)
   | none=>none)
  (cond (Nat.beq x.k 1) (ji ts (i + 1) fun y=>cond (cW y [[40]]) (xK ts rec k x (i + 1)) (some (.mk 3 x.p 0 x.t false [],i + 1)))
  (cond (cW x [[116,114,117,101],[102,97,108,115,101],[109,101,114,103,101],[97,119,97,105,116],[40]])
   (cond (strEq x.t [109,101,114,103,101]) (iC ts (i + 1) fun z i1=>ey ts i1 [40] fun i2=>pz (rec .expr i2) fun a i3=>ey ts i3 [41] fun i4=>ey ts i4 [40] fun i5=>pz (rec .expr i5) fun b i6=>ey ts i6 [41] fun i7=>some (.mk 12 x.p 0 z.t false [a,b],i7))
   (cond (strEq x.t [97,119,97,105,116]) (FA ts k x.p (i + 1))
   (cond (strEq x.t [40]) (pz (rec .expr (i + 1)) fun a i1=>ey ts i1 [41] fun i2=>some (a,i2)) (some (rW x,i + 1))))) none))
def pp (ts:List TkR)(fuel:Nat):PF→Nat→PR:=Nat.rec (motive:=fun _=>PF→Nat→PR) (fun _ _=>none) (fun k ih=>pq ts ih k) fuel
end
theorem bY {β:Type}{r:PR}{k:Ex→Nat→Option β}{v:β}(h:pz r k=some v):∃ a i,r=some (a,i)∧k a i=some v:=by
 unfold pz at h
 split at h
 ·exact ⟨_,_,rfl,h⟩
 ·cases h
theorem aA {ts:List TkR}{i:Nat}{x:TkR}(h:af ts i=some x):af (ts.map TkR.v) i=some x.v:=by
 rw[aD] at h ⊢;rw[List.getElem?_map,h];rfl
theorem aU {β:Type}{ts:List TkR}{i:Nat}{k:TkR→Option β}{v:β}(h:ji ts i k=some v):∃ x,af ts i=some x∧k x=some v:=by
 unfold ji at h
 split at h
 ·rename_i x hx;exact ⟨x,hx,h⟩
 ·cases h
theorem bp {β:Type}{ts:List TkR}{i:Nat}{w:List Nat}{k:Nat→Option β}{v:β}(h:ey ts i w k=some v):∃ x,af ts i=some x∧cW x [w]=true∧k (i + 1)=some v:=by
 obtain ⟨x,hx,h⟩:=aU h;obtain ⟨h1,h2⟩:=aS h;exact ⟨x,hx,h1,h2⟩
theorem cV {β:Type}{ts:List TkR}{i:Nat}{k:TkR→Nat→Option β}{v:β}(h:iC ts i k=some v):∃ x,af ts i=some x∧x.k=1∧k x (i + 1)=some v:=by
 obtain ⟨x,hx,h⟩:=aU h;obtain ⟨h1,h2⟩:=aS h;exact ⟨x,hx,Nat.eq_of_beq_eq_true h1,h2⟩
section
variable {M:Memo}{ts:List TkR}{lin:Lin}{n:Nat}{rec:PF→Nat→PR}
theorem bd {i:Nat}{x:TkR}(hlen:ts.length≤90000)(hx:af ts i=some x):i + 1≤natMax:=by
 have:=bm hx;unfold natMax;omega
structure PBelow (M:Memo)(ts:List TkR)(lin:Lin)(n:Nat)(rec:PF→Nat→PR):Prop where
 expr:∀ {i e j},rec .expr i=some (e,j)→Runs M 44 [.ptr n 0] n (ts.map TkR.v) lin i e.v j
 arrow:∀ {i e j},rec .arrow i=some (e,j)→Runs M 60 [.ptr n 0] n (ts.map TkR.v) lin i e.v j
 or_:∀ {i e j},rec .or_ i=some (e,j)→Runs M 72 [.ptr n 0] n (ts.map TkR.v) lin i e.v j
 and_:∀ {i e j},rec .and_ i=some (e,j)→Runs M 80 [.ptr n 0] n (ts.map TkR.v) lin i e.v j
 not_:∀ {i e j},rec .not_ i=some (e,j)→Runs M 88 [.ptr n 0] n (ts.map TkR.v) lin i e.v j
 sum:∀ {i e j},rec .sum i=some (e,j)→Runs M 92 [.ptr n 0] n (ts.map TkR.v) lin i e.v j
 term:∀ {i e j},rec .term i=some (e,j)→Runs M 95 [.ptr n 0] n (ts.map TkR.v) lin i e.v j
 unary:∀ {i e j},rec .unary i=some (e,j)→Runs M 96 [.ptr n 0] n (ts.map TkR.v) lin i e.v j
 when_:∀ {i e j},rec .when_ i=some (e,j)→Runs M 97 [.ptr n 0] n (ts.map TkR.v) lin i e.v j
 prim:∀ {i e j},rec .prim i=some (e,j)→Runs M 99 [.ptr n 0] n (ts.map TkR.v) lin i e.v j
theorem FN (m:cq M)(hlen:ts.length≤90000)(hR:PBelow M ts lin n rec){k i j:Nat}{e:Ex}(h:pq ts rec k .expr i=some (e,j)):Runs M 44 [.ptr n 0] n (ts.map TkR.v) lin i e.v j:=by
 simp only[pq] at h;obtain ⟨x,hx,h⟩:=aU h;have hx':=aA hx;have hi:=bd hlen hx;refine Runs.of fun H hlt=>?_
 refine aH (z:=z44) (m _ _ rfl) (by kernel_rfl) rfl ?_
 have e0:(envOf [AV.ptr n 0] 0 env0).a.a.a=.ptr n 0:=rfl;generalize envOf [AV.ptr n 0] 0 env0=R at e0;cases hw:cW x [[105,102]] with
 | false =>
   rw[hw] at h;have T:=cU (n:=n) (lin:=lin) m hx' hi (ws:=[[105,102]]) (wa:=[.str [105,102]]) rfl (by simp) hw
   have ih:=hR.arrow h;simp only[z44,AN,BF,BP,Gs,SIM,ST0,e0,B26,T,ih,aI hlt,aJ hlt,EXS,Nat.reduceAdd,Nat.reduceLeDiff,TkR.v]
 | true =>
   rw[hw] at h;simp only[cond_true] at h;obtain ⟨a,i1,h1,h⟩:=bY h;obtain ⟨y,hy,hyw,h⟩:=bp h;obtain ⟨b,i3,h2,h⟩:=bY h;obtain ⟨w,hww,hw2,h⟩:=bp h;obtain ⟨c,i5,h3,h⟩:=bY h;simp only[SJ,PJ] at h;obtain ⟨rfl,rfl⟩:=h;have T:=cG (n:=n) (lin:=lin) m hx' hi (ws:=[[105,102]]) (wa:=[.str [105,102]]) rfl (by simp) hw
   have W1:=cK (n:=n) (lin:=lin) m (aA hy) (bd hlen hy) hyw;have W2:=cK (n:=n) (lin:=lin) m (aA hww) (bd hlen hww) hw2;have ih1:=hR.expr h1;have ih2:=hR.expr h2;have ih3:=hR.expr h3;simp only[z44,AN,BF,BP,Gs,IS,M0,JV,MY,KS,SIM,ST0,e0,B26,T,W1,W2,ih1,ih2,ih3,aI hlt,aJ hlt,EXS,BES,Nat.reduceAdd,Nat.reduceLeDiff,TkR.v];rfl
end
section
variable {M:Memo}{ts:List TkR}{lin:Lin}{n:Nat}{rec:PF→Nat→PR}
theorem AJ (m:cq M)(hlen:ts.length≤90000)(hR:PBelow M ts lin n rec){k i j:Nat}{e:Ex}(h:pq ts rec k .arrow i=some (e,j)):Runs M 60 [.ptr n 0] n (ts.map TkR.v) lin i e.v j:=by
 simp only[pq] at h;obtain ⟨a,i1,ha,h⟩:=bY h;obtain ⟨x,hx,h⟩:=aU h;have hx':=aA hx;have hi:=bd hlen hx;have iha:=hR.or_ ha;refine Runs.of fun H hlt=>?_
 refine aH (z:=z60) (m _ _ rfl) (by kernel_rfl) rfl ?_
 have e0:(envOf [AV.ptr n 0] 0 env0).a.a.a=.ptr n 0:=rfl;generalize envOf [AV.ptr n 0] 0 env0=R at e0;cases hw:cW x [[45,62]] with
 | true =>
   rw[hw] at h;simp only[cond_true] at h;obtain ⟨b,i2,hb,h⟩:=bY h;simp only[SJ,PJ] at h;obtain ⟨rfl,rfl⟩:=h;have T:=cG (n:=n) (lin:=lin) m hx' hi (ws:=[[45,62]]) (wa:=[.str [45,62]]) rfl (by simp) hw
   have ihb:=hR.arrow hb;simp only[z60,zd,yO,zI,yM,Ln,SIM,ST0,ST1,e0,B26,T,iha,ihb,aI hlt,aJ hlt,EXS,BES,Nat.reduceAdd,Nat.reduceLeDiff,TkR.v];rfl
 | false =>
   rw[hw] at h;simp only[cond_false] at h;have T:=cU (n:=n) (lin:=lin) m hx' hi (ws:=[[45,62]]) (wa:=[.str [45,62]]) rfl (by simp) hw
   cases hw2:cW x [[102,98,121]] with
   | true =>
     rw[hw2] at h;simp only[cond_true] at h;obtain ⟨hc,h⟩:=aS h;obtain ⟨b,i2,hb,h⟩:=bY h;simp only[SJ,PJ] at h;obtain ⟨rfl,rfl⟩:=h;have I:=vW (n:=n) (lin:=lin) m hx' (ws:=[[102,98,121]]) (wa:=[.str [102,98,121]]) rfl (by simp) hw2
     have T2:=cG (n:=n) (lin:=lin) m hx' hi (ws:=[[102,98,121]]) (wa:=[.str [102,98,121]]) rfl (by simp) hw2
     have K:=Cf m a;rw[hc] at K;have ihb:=hR.arrow hb;simp only[z60,zd,yO,zI,yM,GT,KX,Km,LJ,SIM,ST0,ST1,e0,B26,T,T2,I,K,iha,ihb,aI hlt,aJ hlt,EXS,BES,Nat.reduceAdd,Nat.reduceLeDiff,TkR.v];rfl
   | false =>
     rw[hw2] at h;simp only[cond_false,SJ,PJ] at h;obtain ⟨rfl,rfl⟩:=h;have I:=vW (n:=n) (lin:=lin) m hx' (ws:=[[102,98,121]]) (wa:=[.str [102,98,121]]) rfl (by simp) hw2
     simp only[z60,zd,yO,zI,yM,GT,BX,SIM,ST0,ST1,e0,B26,T,I,iha,aI hlt,aJ hlt,EXS,BES,Nat.reduceAdd,Nat.reduceLeDiff,TkR.v]
abbrev zero6:AObj:=.cells [.int .i64 0,.int .i64 0,.int .i64 0,.str [],.bool false,.nils]
theorem zS (m:cq M)(hlen:ts.length≤90000){g:Nat}{fv:AV}{kid:Nat→PR}{ws:List (List Nat)}{wa:List AV}(hwa:wa=ws.map .str)(hwl:wa.length < 1000)(hcv:∀ s,cM CC fv [] s=some (.call g [.ptr n 0]))
  (hk:∀ {i e j},kid i=some (e,j)→Runs M g [.ptr n 0] n (ts.map TkR.v) lin i e.v j) {H:Heap} (hlt:n < aa H):∀ (k:Nat) (a:Ex) (i:Nat) (e:Ex) (j:Nat),y9 ts ws kid k a i=some (e,j)→∀ (fu:Nat),k≤fu→∀ (r:RG) (G:Heap),
  r.a.a.a=.ptr n 0→r.a.a.b=fv→r.a.a.c=.sl 1 wa .lit→r.a.a.g=.ptr (aa H) 0→r.a.a.h=.ptr (aa H + 1) 0 →
  ∃ r' G',aw (t8 (orc CC M)) fu r [] ⟨ai H n (aC (ts.map TkR.v) lin i) ++ (zero6 :: bH a :: G),aa H⟩=some (.ret,r',[],⟨ai H n (aC (ts.map TkR.v) lin j) ++ (bH e :: G'),aa H⟩)∧r'.a.a.g=.ptr (aa H) 0:=by
 intro k
 induction k with
 | zero=>intro a i e j h;cases h
 | succ k ih =>
   intro a i e j h fu hfu r G h0 h1 h2 h6 h7;obtain ⟨fu',rfl⟩ : ∃ f,fu=f + 1:=⟨fu - 1,by omega⟩
   simp only[y9] at h;obtain ⟨x,hx,h⟩:=aU h;have hx':=aA hx;have hi:=bd hlen hx;cases hw:cW x ws with
   | false =>
     rw[hw] at h;simp only[cond_false,SJ,PJ] at h;obtain ⟨rfl,rfl⟩:=h;have T:=cU (n:=n) (lin:=lin) m hx' hi hwa hwl hw;simp only[aw,t8,Dj,Fy,L1,SIM,ST0,ST1,h0,h1,h2,h6,h7,T,aI hlt,aJ hlt,EXS,a9,ba,Nat.reduceAdd,Nat.reduceLeDiff,TkR.v];exact ⟨_,_,rfl,h6⟩
   | true =>
     rw[hw] at h;simp only[cond_true] at h;obtain ⟨b,i2,hb,h⟩:=bY h;have T:=cG (n:=n) (lin:=lin) m hx' hi hwa hwl hw;have K:=hk hb;simp only[aw,t8,Dj,Fy,J3,SIM,ST0,ST1,h0,h1,h2,h6,h7,T,hcv,K,aI hlt,aJ hlt,EXS,BES,a9,ba,Nat.reduceAdd,Nat.reduceLeDiff,TkR.v];refine ih _ _ _ _ h fu' (by omega) _ _ ?_ ?_ ?_ ?_ ?_
     ·first | exact h0 | rfl
     ·first | exact h1 | rfl
     ·first | exact h2 | rfl
     ·first | exact h6 | rfl
     ·first | exact h7 | rfl
theorem kA (m:cq M)(hlen:ts.length≤90000){g:Nat}{fv:AV}{kid:Nat→PR}{ws:List (List Nat)}{wa:List AV}(hwa:wa=ws.map .str)(hwl:wa.length < 1000)(hcv:∀ s,cM CC fv [] s=some (.call g [.ptr n 0]))
  (hk:∀ {i e j},kid i=some (e,j)→Runs M g [.ptr n 0] n (ts.map TkR.v) lin i e.v j) {k i j:Nat} {e:Ex} (hk9:k≤90000) (h:tO ts ws kid k i=some (e,j)):Runs M 79 [.ptr n 0,fv,.sl 1 wa .lit] n (ts.map TkR.v) lin i e.v j:=by
 obtain ⟨a,i1,ha,h⟩:=bY h;have iha:=hk ha;refine Runs.of fun H hlt=>?_
 refine aH (z:=z79) (m _ _ rfl) (by kernel_rfl) rfl ?_
 have e0:(envOf [AV.ptr n 0,fv,.sl 1 wa .lit] 0 env0).a.a.a=.ptr n 0:=rfl;have e1:(envOf [AV.ptr n 0,fv,.sl 1 wa .lit] 0 env0).a.a.b=fv:=rfl;have e2:(envOf [AV.ptr n 0,fv,.sl 1 wa .lit] 0 env0).a.a.c=.sl 1 wa .lit:=rfl;generalize envOf [AV.ptr n 0,fv,.sl 1 wa .lit] 0 env0=R at e0 e1 e2
 obtain ⟨f,hf⟩:=sk (P:=fun r=>r.a.a.a=.ptr n 0∧r.a.a.b=fv∧r.a.a.c=.sl 1 wa .lit∧r.a.a.g=.ptr (aa H) 0∧r.a.a.h=.ptr (aa H + 1) 0)
  fun r hr=>zS m hlen hwa hwl hcv hk hlt k a i1 e j h 100000 (by omega) r [] hr.1 hr.2.1 hr.2.2.1 hr.2.2.2.1 hr.2.2.2.2
 have pre:∃ r,(r.a.a.a=.ptr n 0∧r.a.a.b=fv∧r.a.a.c=.sl 1 wa .lit∧r.a.a.g=.ptr (aa H) 0∧r.a.a.h=.ptr (aa H + 1) 0)∧z79.sh (orc CC M) R [] ⟨ai H n (aC (ts.map TkR.v) lin i),aa (ai H n (aC (ts.map TkR.v) lin i))⟩=dD 0 (aw (t8 (orc CC M)) 100000 r [] ⟨ai H n (aC (ts.map TkR.v) lin i1) ++ [zero6,bH a],aa H⟩):=by
  simp only[z79,Ko,LQ,SIM,ST0,e0,e1,e2,hcv,iha,aI hlt,aJ hlt,EXS,Nat.reduceAdd,Nat.reduceLeDiff];refine ⟨_,?_,rfl⟩;exact ⟨by first | rfl | exact e0,by first | rfl | exact e1,by first | rfl | exact e2,rfl,rfl⟩
 obtain ⟨r0,hr0,hpre⟩:=pre;rw[hpre];obtain ⟨G',h1,h2⟩:=hf r0 hr0;rw[h1];simp only[z79,SIM,ST0,h2,EXS,Nat.reduceAdd,Nat.reduceLeDiff]
theorem Hu (m:cq M)(hlen:ts.length≤90000)(hR:PBelow M ts lin n rec){k i j:Nat}{e:Ex}(hk:k≤90000)(h:pq ts rec k .or_ i=some (e,j)):Runs M 72 [.ptr n 0] n (ts.map TkR.v) lin i e.v j:=by
 simp only[pq] at h;have L:=kA (fv:=.func (.func 80) [.ptr n 0] []) (ws:=[[111,114],[120,111,114]]) (wa:=[.str [111,114],.str [120,111,114]]) m hlen rfl (by simp) (fun s=>by kernel_rfl) hR.and_ hk h
 refine Runs.of fun H hlt=>?_
 refine aH (z:=z72) (m _ _ rfl) (by kernel_rfl) rfl ?_
 have e0:(envOf [AV.ptr n 0] 0 env0).a.a.a=.ptr n 0:=rfl;generalize envOf [AV.ptr n 0] 0 env0=R at e0;simp only[z72,L7,MB,SIM,ST0,e0,B26,L,aI hlt,aJ hlt,EXS,Nat.reduceAdd,Nat.reduceLeDiff]
theorem F7 (m:cq M)(hlen:ts.length≤90000)(hR:PBelow M ts lin n rec){k i j:Nat}{e:Ex}(hk:k≤90000)(h:pq ts rec k .and_ i=some (e,j)):Runs M 80 [.ptr n 0] n (ts.map TkR.v) lin i e.v j:=by
 simp only[pq] at h;have L:=kA (fv:=.func (.func 88) [.ptr n 0] []) (ws:=[[97,110,100]]) (wa:=[.str [97,110,100]]) m hlen rfl (by simp) (fun s=>by kernel_rfl) hR.not_ hk h
 refine Runs.of fun H hlt=>?_
 refine aH (z:=z80) (m _ _ rfl) (by kernel_rfl) rfl ?_
 have e0:(envOf [AV.ptr n 0] 0 env0).a.a.a=.ptr n 0:=rfl;generalize envOf [AV.ptr n 0] 0 env0=R at e0;simp only[z80,MD,Jl,SIM,ST0,e0,B26,L,aI hlt,aJ hlt,EXS,Nat.reduceAdd,Nat.reduceLeDiff]
theorem Hj (m:cq M)(hlen:ts.length≤90000)(hR:PBelow M ts lin n rec){k i j:Nat}{e:Ex}(hk:k≤90000)(h:pq ts rec k .sum i=some (e,j)):Runs M 92 [.ptr n 0] n (ts.map TkR.v) lin i e.v j:=by
 simp only[pq] at h;have L:=kA (fv:=.func (.func 95) [.ptr n 0] []) (ws:=[[43],[45]]) (wa:=[.str [43],.str [45]]) m hlen rfl (by simp) (fun s=>by kernel_rfl) hR.term hk h
 refine Runs.of fun H hlt=>?_
 refine aH (z:=z92) (m _ _ rfl) (by kernel_rfl) rfl ?_
 have e0:(envOf [AV.ptr n 0] 0 env0).a.a.a=.ptr n 0:=rfl;generalize envOf [AV.ptr n 0] 0 env0=R at e0;simp only[z92,Kz,IH,SIM,ST0,e0,B26,L,aI hlt,aJ hlt,EXS,Nat.reduceAdd,Nat.reduceLeDiff]
theorem Gc (m:cq M)(hlen:ts.length≤90000)(hR:PBelow M ts lin n rec){k i j:Nat}{e:Ex}(hk:k≤90000)(h:pq ts rec k .term i=some (e,j)):Runs M 95 [.ptr n 0] n (ts.map TkR.v) lin i e.v j:=by
 simp only[pq] at h;have L:=kA (fv:=.func (.func 96) [.ptr n 0] []) (ws:=[[42],[47],[109,111,100]]) (wa:=[.str [42],.str [47],.str [109,111,100]]) m hlen rfl (by simp) (fun s=>by kernel_rfl) hR.unary hk h
 refine Runs.of fun H hlt=>?_
 refine aH (z:=z95) (m _ _ rfl) (by kernel_rfl) rfl ?_
 have e0:(envOf [AV.ptr n 0] 0 env0).a.a.a=.ptr n 0:=rfl;generalize envOf [AV.ptr n 0] 0 env0=R at e0;simp only[z95,Ku,Jc,SIM,ST0,e0,B26,L,aI hlt,aJ hlt,EXS,Nat.reduceAdd,Nat.reduceLeDiff]
theorem EC (m:cq M)(hlen:ts.length≤90000)(hR:PBelow M ts lin n rec){k i j:Nat}{e:Ex}(h:pq ts rec k .not_ i=some (e,j)):Runs M 88 [.ptr n 0] n (ts.map TkR.v) lin i e.v j:=by
 simp only[pq] at h;obtain ⟨x,hx,h⟩:=aU h;have hx':=aA hx;have hi:=bd hlen hx;refine Runs.of fun H hlt=>?_
 refine aH (z:=z88) (m _ _ rfl) (by kernel_rfl) rfl ?_
 have e0:(envOf [AV.ptr n 0] 0 env0).a.a.a=.ptr n 0:=rfl;generalize envOf [AV.ptr n 0] 0 env0=R at e0;cases hw:cW x [[110,111,116]] with
 | true =>
   rw[hw] at h;simp only[cond_true] at h;obtain ⟨a,i1,ha,h⟩:=bY h;simp only[SJ,PJ] at h;obtain ⟨rfl,rfl⟩:=h;have T:=cG (n:=n) (lin:=lin) m hx' hi (ws:=[[110,111,116]]) (wa:=[.str [110,111,116]]) rfl (by simp) hw
   have iha:=hR.not_ ha;simp only[z88,yH,y6,x4,Kv,SIM,ST0,ST1,e0,B26,T,iha,aI hlt,aJ hlt,EXS,BES,Nat.reduceAdd,Nat.reduceLeDiff,TkR.v];rfl
 | false =>
   rw[hw] at h;simp only[cond_false] at h;have T:=cU (n:=n) (lin:=lin) m hx' hi (ws:=[[110,111,116]]) (wa:=[.str [110,111,116]]) rfl (by simp) hw
   obtain ⟨a,i1,ha,h⟩:=bY h;obtain ⟨y,hy,h⟩:=aU h;have hy':=aA hy;have hi1:=bd hlen hy;have iha:=hR.sum ha;cases hw2:cW y [[61],[60,62],[60],[60,61],[62],[62,61]] with
   | true =>
     rw[hw2] at h;simp only[cond_true] at h;obtain ⟨b,i2,hb,h⟩:=bY h;simp only[SJ,PJ] at h;obtain ⟨rfl,rfl⟩:=h;have T2:=cG (n:=n) (lin:=lin) m hy' hi1 (ws:=[[61],[60,62],[60],[60,61],[62],[62,61]]) (wa:=[.str [61],.str [60,62],.str [60],.str [60,61],.str [62],.str [62,61]]) rfl (by simp) hw2
     have ihb:=hR.sum hb;simp only[z88,yH,y6,x4,Fp,AQ,Gy,Lx,SIM,ST0,ST1,e0,B26,T,T2,iha,ihb,aI hlt,aJ hlt,EXS,BES,Nat.reduceAdd,Nat.reduceLeDiff,TkR.v];rfl
   | false =>
     rw[hw2] at h;simp only[cond_false,SJ,PJ] at h;obtain ⟨rfl,rfl⟩:=h;have T2:=cU (n:=n) (lin:=lin) m hy' hi1 (ws:=[[61],[60,62],[60],[60,61],[62],[62,61]]) (wa:=[.str [61],.str [60,62],.str [60],.str [60,61],.str [62],.str [62,61]]) rfl (by simp) hw2
     simp only[z88,yH,y6,x4,Fp,AQ,Gy,JG,SIM,ST0,ST1,e0,B26,T,T2,iha,aI hlt,aJ hlt,EXS,BES,Nat.reduceAdd,Nat.reduceLeDiff,TkR.v]
theorem Q6 (k:Nat)(xs:List AV):aE k (.iptr xs)=cond (Nat.ble k (aa xs)) (some (.iptr (fV k xs))) none:=rfl
theorem Ah (m:cq M)(hlen:ts.length≤90000)(hR:PBelow M ts lin n rec){k i j:Nat}{e:Ex}(h:pq ts rec k .unary i=some (e,j)):Runs M 96 [.ptr n 0] n (ts.map TkR.v) lin i e.v j:=by
 simp only[pq] at h;obtain ⟨x,hx,h⟩:=aU h;have hx':=aA hx;have hi:=bd hlen hx;refine Runs.of fun H hlt=>?_
 refine aH (z:=z96) (m _ _ rfl) (by kernel_rfl) rfl ?_
 have e0:(envOf [AV.ptr n 0] 0 env0).a.a.a=.ptr n 0:=rfl;generalize envOf [AV.ptr n 0] 0 env0=R at e0;cases hw:cW x [[112,114,101]] with
 | true =>
   rw[hw] at h;simp only[cond_true] at h;obtain ⟨a,i1,ha,h⟩:=bY h;simp only[SJ,PJ] at h;obtain ⟨rfl,rfl⟩:=h;have T:=cG (n:=n) (lin:=lin) m hx' hi (ws:=[[112,114,101]]) (wa:=[.str [112,114,101]]) rfl (by simp) hw
   have iha:=hR.unary ha;simp only[z96,qh,pB,qz,J4,SIM,ST0,ST1,e0,B26,T,iha,aI hlt,aJ hlt,EXS,BES,Nat.reduceAdd,Nat.reduceLeDiff,TkR.v];rfl
 | false =>
   rw[hw] at h;simp only[cond_false] at h;have T:=cU (n:=n) (lin:=lin) m hx' hi (ws:=[[112,114,101]]) (wa:=[.str [112,114,101]]) rfl (by simp) hw
   cases hw2:cW x [[45]] with
   | false =>
     rw[hw2] at h;simp only[cond_false] at h;have T2:=cU (n:=n) (lin:=lin) m hx' hi (ws:=[[45]]) (wa:=[.str [45]]) rfl (by simp) hw2
     have ih:=hR.when_ h;simp only[z96,qh,pB,qz,tK,sL,JX,SIM,ST0,ST1,e0,B26,T,T2,ih,aI hlt,aJ hlt,EXS,BES,Nat.reduceAdd,Nat.reduceLeDiff,TkR.v]
   | true =>
     rw[hw2] at h;simp only[cond_true] at h;have T2:=cG (n:=n) (lin:=lin) m hx' hi (ws:=[[45]]) (wa:=[.str [45]]) rfl (by simp) hw2
     obtain ⟨y,hy,h⟩:=aU h;have hy':=aA hy;have P:=lw (n:=n) (lin:=lin) m hy';have c2:decide ((y.k:Int)=2)=Nat.beq y.k 2:=vf y.k 2;have ha1:cQ ((i + 1:Nat):Int) 1=((i + 1 + 1:Nat):Int):=bA (i + 1) 1 (bd hlen hy);cases hk2:Nat.beq y.k 2 with
     | false =>
       rw[hk2] at h c2;simp only[cond_false] at h;obtain ⟨a,i1,ha,h⟩:=bY h;simp only[SJ,PJ] at h;obtain ⟨rfl,rfl⟩:=h;have iha:=hR.unary ha;simp only[z96,qh,pB,qz,tK,sL,yW,yT,wz,SIM,ST0,ST1,e0,B26,T,T2,P,c2,iha,aI hlt,aJ hlt,EXS,BES,Nat.reduceAdd,Nat.reduceLeDiff,TkR.v];rfl
     | true =>
       rw[hk2] at h c2;simp only[cond_true] at h;obtain ⟨z,hz,h⟩:=aU h;have hz':=aA hz;have hias:=da (sz:=4) (lin:=lin) hz';have tb:Nat.testBit 131071 13=true:=by decide
       cases hwh:strEq z.t [119,104,101,110] with
       | true =>
         rw[hwh] at h;simp only[cond_true] at h;obtain ⟨a,i1,ha,h⟩:=bY h;simp only[SJ,PJ] at h;obtain ⟨rfl,rfl⟩:=h;have iha:=hR.unary ha;simp only[z96,qh,pB,qz,tK,sL,yW,yT,wz,SIM,ST0,ST1,e0,B26,T,T2,P,c2,ha1,hias,hwh,Q6,iha,aI hlt,aJ hlt,EXS,BES,Nat.reduceAdd,Nat.reduceLeDiff,TkR.v];rfl
       | false =>
         rw[hwh] at h;simp only[cond_false] at h;cases hn:jH y x.p true with
         | none=>rw[hn] at h;cases h
         | some e' =>
           rw[hn] at h;simp only[SJ,PJ] at h;obtain ⟨rfl,rfl⟩:=h;have N:=jl m y x.p true hn;simp only[TkR.v] at N;simp only[z96,qh,pB,qz,tK,sL,yW,yT,Ju,GC,SIM,ST0,ST1,e0,B26,T,T2,P,c2,ha1,hias,hwh,Q6,N,aI hlt,aJ hlt,EXS,BES,Nat.reduceAdd,Nat.reduceLeDiff,TkR.v]
end
theorem nK (ag:Option Nat)(off:Nat)(cs:List AV):lL ag off (.agg cs)=eK ag cs off:=rfl
section
variable {M:Memo}{ts:List TkR}{lin:Lin}{n:Nat}{rec:PF→Nat→PR}
theorem zP (m:cq M)(hlen:ts.length≤90000){H:Heap}(hlt:n < aa H):∀ (k:Nat) (a:Ex) (i:Nat) (e:Ex) (j:Nat),uz ts k a i=some (e,j)→∀ (fu:Nat),k≤fu→∀ (r:RG) (G:Heap),
  r.a.a.a=.ptr n 0→r.a.a.c=.ptr (aa H) 0→r.a.a.d=.ptr (aa H + 1) 0 →
  ∃ r' G',aw (pN (orc CC M)) fu r [] ⟨ai H n (aC (ts.map TkR.v) lin i) ++ (zero6 :: bH a :: G),aa H⟩=some (.ret,r',[],⟨ai H n (aC (ts.map TkR.v) lin j) ++ (bH e :: G'),aa H⟩)∧r'.a.a.c=.ptr (aa H) 0:=by
 intro k
 induction k with
 | zero=>intro a i e j h;cases h
 | succ k ih =>
   intro a i e j h fu hfu r G h0 h2 h3;obtain ⟨fu',rfl⟩ : ∃ f,fu=f + 1:=⟨fu - 1,by omega⟩
   simp only[uz] at h;obtain ⟨x,hx,h⟩:=aU h;have hx':=aA hx;have hi:=bd hlen hx;cases hw:cW x [[119,104,101,110]] with
   | false =>
     rw[hw] at h;simp only[cond_false,SJ,PJ] at h;obtain ⟨rfl,rfl⟩:=h;have T:=cU (n:=n) (lin:=lin) m hx' hi (ws:=[[119,104,101,110]]) (wa:=[.str [119,104,101,110]]) rfl (by simp) hw
     simp only[aw,pN,zm,zw,M5,SIM,ST0,ST1,h0,h2,h3,T,B26,aI hlt,aJ hlt,EXS,a9,ba,Nat.reduceAdd,Nat.reduceLeDiff,TkR.v];exact ⟨_,_,rfl,by first | exact h2 | rfl⟩
   | true =>
     rw[hw] at h;simp only[cond_true] at h;obtain ⟨y,hy,h⟩:=aU h;have hy':=aA hy;have hi1:=bd hlen hy;have T:=cG (n:=n) (lin:=lin) m hx' hi (ws:=[[119,104,101,110]]) (wa:=[.str [119,104,101,110]]) rfl (by simp) hw
     cases hw2:cW y [[110,111,116]] with
     | true =>
       rw[hw2] at h;simp only[cond_true] at h;obtain ⟨z,hz,hzk,h⟩:=cV h;have T2:=cG (n:=n) (lin:=lin) m hy' hi1 (ws:=[[110,111,116]]) (wa:=[.str [110,111,116]]) rfl (by simp) hw2
       have N:=gC (n:=n) (lin:=lin) m (aA hz) (bd hlen hz) hzk;simp only[aw,pN,zm,zw,DQ,BB,SIM,ST0,ST1,h0,h2,h3,T,T2,N,B26,nK,aI hlt,aJ hlt,EXS,BES,a9,ba,Nat.reduceAdd,Nat.reduceLeDiff,TkR.v];refine ih _ _ _ _ h fu' (by omega) _ _ ?_ ?_ ?_
       ·first | exact h0 | rfl
       ·first | exact h2 | rfl
       ·first | exact h3 | rfl
     | false =>
       rw[hw2] at h;simp only[cond_false] at h;obtain ⟨z,hz,hzk,h⟩:=cV h;have T2:=cU (n:=n) (lin:=lin) m hy' hi1 (ws:=[[110,111,116]]) (wa:=[.str [110,111,116]]) rfl (by simp) hw2
       have N:=gC (n:=n) (lin:=lin) m (aA hz) (bd hlen hz) hzk;simp only[aw,pN,zm,zw,DQ,BB,SIM,ST0,ST1,h0,h2,h3,T,T2,N,B26,nK,aI hlt,aJ hlt,EXS,BES,a9,ba,Nat.reduceAdd,Nat.reduceLeDiff,TkR.v];refine ih _ _ _ _ h fu' (by omega) _ _ ?_ ?_ ?_
       ·first | exact h0 | rfl
       ·first | exact h2 | rfl
       ·first | exact h3 | rfl
theorem Dv (m:cq M)(hlen:ts.length≤90000)(hR:PBelow M ts lin n rec){k i j:Nat}{e:Ex}(hk9:k≤90000)(h:pq ts rec k .when_ i=some (e,j)):Runs M 97 [.ptr n 0] n (ts.map TkR.v) lin i e.v j:=by
 simp only[pq] at h;obtain ⟨a,i1,ha,h⟩:=bY h;have iha:=hR.prim ha;refine Runs.of fun H hlt=>?_
 refine aH (z:=z97) (m _ _ rfl) (by kernel_rfl) rfl ?_
 have e0:(envOf [AV.ptr n 0] 0 env0).a.a.a=.ptr n 0:=rfl;generalize envOf [AV.ptr n 0] 0 env0=R at e0
 have pre:∃ r,(r.a.a.a=.ptr n 0∧r.a.a.c=.ptr (aa H) 0∧r.a.a.d=.ptr (aa H + 1) 0)∧z97.sh (orc CC M) R [] ⟨ai H n (aC (ts.map TkR.v) lin i),aa (ai H n (aC (ts.map TkR.v) lin i))⟩=dD 0 (aw (pN (orc CC M)) 100000 r [] ⟨ai H n (aC (ts.map TkR.v) lin i1) ++ [zero6,bH a],aa H⟩):=by
  simp only[z97,Jm,IU,SIM,ST0,e0,iha,aI hlt,aJ hlt,EXS,Nat.reduceAdd,Nat.reduceLeDiff];refine ⟨_,?_,rfl⟩;exact ⟨by first | rfl | exact e0,rfl,rfl⟩
 obtain ⟨r0,hr0,hpre⟩:=pre;rw[hpre];obtain ⟨r',G',h1,h2⟩:=zP m hlen hlt k a i1 e j h 100000 (by omega) r0 [] hr0.1 hr0.2.1 hr0.2.2
 rw[h1];simp only[z97,SIM,ST0,h2,EXS,Nat.reduceAdd,Nat.reduceLeDiff]
theorem Ho (m:cq M)(hlen:ts.length≤90000){i j:Nat}{e:Ex}(h:HQ ts i=some (e,j)):Runs M 102 [.ptr n 0] n (ts.map TkR.v) lin i e.v j:=by
 simp only[HQ] at h;obtain ⟨x,hx,h⟩:=aU h;have hx':=aA hx;have hi:=bd hlen hx;refine Runs.of fun H hlt=>?_
 refine aH (z:=z102) (m _ _ rfl) (by kernel_rfl) rfl ?_
 have e0:(envOf [AV.ptr n 0] 0 env0).a.a.a=.ptr n 0:=rfl;generalize envOf [AV.ptr n 0] 0 env0=R at e0;cases hw:cW x [[116,114,117,101],[102,97,108,115,101]] with
 | true =>
   rw[hw] at h;simp only[cond_true,SJ,PJ] at h;obtain ⟨rfl,rfl⟩:=h;have T:=cG (n:=n) (lin:=lin) m hx' hi (ws:=[[116,114,117,101],[102,97,108,115,101]]) (wa:=[.str [116,114,117,101],.str [102,97,108,115,101]]) rfl (by simp) hw
   have K:=td m x;simp only[TkR.v] at K;simp only[z102,q7,rX,qY,CU,SIM,ST0,ST1,e0,B26,T,K,aI hlt,aJ hlt,EXS,Nat.reduceAdd,Nat.reduceLeDiff,TkR.v]
 | false =>
   rw[hw] at h;simp only[cond_false] at h;have T:=cU (n:=n) (lin:=lin) m hx' hi (ws:=[[116,114,117,101],[102,97,108,115,101]]) (wa:=[.str [116,114,117,101],.str [102,97,108,115,101]]) rfl (by simp) hw
   cases hw2:cW x [[45]] with
   | true =>
     rw[hw2] at h;simp only[cond_true] at h;have T2:=cG (n:=n) (lin:=lin) m hx' hi (ws:=[[45]]) (wa:=[.str [45]]) rfl (by simp) hw2
     obtain ⟨y,hy,h⟩:=aU h;obtain ⟨hk2,h⟩:=aS h;have P:=lw (n:=n) (lin:=lin) m (aA hy);have c2:decide ((y.k:Int)=2)=Nat.beq y.k 2:=vf y.k 2;rw[hk2] at c2;have ha1:cQ ((i + 1:Nat):Int) 1=((i + 1 + 1:Nat):Int):=bA (i + 1) 1 (bd hlen hy);cases hn:jH y x.p true with
     | none=>rw[hn] at h;cases h
     | some e' =>
       rw[hn] at h;simp only[SJ,PJ] at h;obtain ⟨rfl,rfl⟩:=h;have N:=jl m y x.p true hn;simp only[TkR.v] at N;simp only[z102,q7,rX,qY,wX,vK,vS,vF,wx,ru,SIM,ST0,ST1,e0,B26,T,T2,P,c2,ha1,N,aI hlt,aJ hlt,EXS,Nat.reduceAdd,Nat.reduceLeDiff,TkR.v]
   | false =>
     rw[hw2] at h;simp only[cond_false] at h;have T2:=cU (n:=n) (lin:=lin) m hx' hi (ws:=[[45]]) (wa:=[.str [45]]) rfl (by simp) hw2
     obtain ⟨hk2,h⟩:=aS h;have P:=lw (n:=n) (lin:=lin) m hx';have c2:decide ((x.k:Int)=2)=Nat.beq x.k 2:=vf x.k 2;rw[hk2] at c2;have ha1:cQ ((i:Nat):Int) 1=((i + 1:Nat):Int):=bA i 1 hi;cases hn:jH x x.p false with
     | none=>rw[hn] at h;cases h
     | some e' =>
       rw[hn] at h;simp only[SJ,PJ] at h;obtain ⟨rfl,rfl⟩:=h;have N:=jl m x x.p false hn;simp only[TkR.v] at N;simp only[z102,q7,rX,qY,wX,vK,vS,vF,wx,xL,ru,SIM,ST0,ST1,e0,B26,T,T2,P,c2,ha1,N,aI hlt,aJ hlt,EXS,Nat.reduceAdd,Nat.reduceLeDiff,TkR.v]
end
theorem se121:bK CC 81=some 83:=by kernel_rfl
theorem inf123' : (CC.P.info? 83).map (fun i=>(i.size,i.bytes))=some (6,72):=by kernel_rfl
theorem inf123:∃ i,CC.P.info? 83=some i∧i.size=6∧i.bytes=72:=by
 have h:=inf123';cases hi:CC.P.info? 83 with
 | none=>rw[hi] at h;cases h
 | some i =>
   rw[hi] at h;simp only[Option.map_some,SJ,PJ] at h;exact ⟨i,rfl,h.1,h.2⟩
theorem zero123:cn CC 83=some (.agg [.int .i64 0,.int .i64 0,.int .i64 0,.str [],.bool false,.nils]):=by kernel_rfl
theorem Bk (f:Nat):CC.mutT f 81=false:=by
 show ((81:Nat) == 63 || (81:Nat) == 65)=false
 simp
theorem Ei (a:Ex):[a.v].all (bg 6)=true:=by
 obtain ⟨k,p,n,s,b,kv,h,rfl | ⟨l,q,rfl⟩⟩:=ip a <;> rw[h] <;> rfl
theorem wO (f:Nat){xs:List AV}(a:Ex)(hp:Heap)(e:Nat)(hl:xs.length + 1≤2 ^ 24):aq CC f 81 (.sl 6 xs .lit) (.sl 6 [a.v] .lit) ⟨hp,e⟩=some (.sl 6 (xs ++ [a.v]) (.live (aa hp) 0),⟨hp ++ [.lin 0],e⟩):=by
 obtain ⟨i,h1,h2,h3⟩:=inf123;have h5:decide (xs.length + [a.v].length≤2 ^ 24)=true:=by simp;omega
 simp only[aq,se121,h1,zero123,h2,h3,aY,if_true,Ei a,h5,List.isEmpty,Bk,aj];simp[AV.cells]
theorem xg (f:Nat)(a:Ex)(hp:Heap)(e:Nat):aq CC f 81 .nils (.sl 6 [a.v] .lit) ⟨hp,e⟩=some (.sl 6 [a.v] (.live (aa hp) 0),⟨hp ++ [.lin 0],e⟩):=by
 obtain ⟨i,h1,h2,h3⟩:=inf123;simp only[aq,se121,h1,zero123,h2,h3,aY,if_true,Ei a,List.isEmpty,Bk,aj];simp[AV.cells]
theorem mj (f:Nat){xs:List AV}(a:Ex){hp:Heap}{e id g:Nat}(hg:af hp id=some (.lin g))(hl:xs.length + 1≤2 ^ 24) :
  aq CC f 81 (.sl 6 xs (.live id g)) (.sl 6 [a.v] .lit) ⟨hp,e⟩=some (.sl 6 (xs ++ [a.v]) (.live id (g + 1)),⟨ai hp id (.lin (g + 1)),e⟩):=by
 obtain ⟨i,h1,h2,h3⟩:=inf123;rw[aD] at hg;have h5:decide (xs.length + [a.v].length≤2 ^ 24)=true:=by simp;omega
 simp only[aq,se121,h1,zero123,h2,h3,aY,if_true,Ei a,h5,List.isEmpty,hg,aN];simp[AV.cells]
theorem i0 {sz:Nat}{l:List AV}{id g base:Nat}{hp:Heap}(hl:dK l=true)(hid:base≤id) :
  kf false base (.sl sz l (.live id g)) ⟨hp,base⟩=.ret (.sl sz l .dead) (bB base hp) base:=by
 have h1:gF (.sl sz l (.live id g))=false:=rfl;have h2:Lin.low base (.live id g)=false:=by simp[Lin.low];omega
 have h3:AV.settle base hp (.sl sz l (.live id g))=.sl sz l .dead:=by
  simp[AV.settle,ep hl,h2]
 have h4:AV.low base (.sl sz l .dead)=true:=by
  simp[AV.low,dG hl,Lin.low]
 unfold kf;rw[h1,Bool.and_false];simp only[cond_false,xj,cR,if_true,h3,h4,Bool.false_eq_true,if_false,dw]
noncomputable def Ok (ts:List TkR)(one:Nat→PR)(k j:Nat):Option (List Ex × Nat):=ji ts j fun x=>cond (cW x [[44]]) (pj ts one k (j + 1)) (cond (cW x [[41]]) (some ([],j + 1)) none)
theorem pS {ts:List TkR}{one:Nat→PR}{k i:Nat}{l:List Ex}{j:Nat}(h:pj ts one (k + 1) i=some (l,j)):∃ a i1 l',one i=some (a,i1)∧Ok ts one k i1=some (l',j)∧l=a :: l':=by
 simp only[pj] at h;obtain ⟨a,i1,ha,h⟩:=bY h;obtain ⟨x,hx,h⟩:=aU h;refine ⟨a,i1,?_⟩;unfold Ok ji;rw[hx];simp only;cases h1:cW x [[44]] with
 | true =>
   rw[h1] at h;simp only[cond_true] at h ⊢;cases hr:pj ts one k (i1 + 1) with
   | none=>rw[hr] at h;cases h
   | some q =>
     rw[hr] at h;simp only[SJ,PJ] at h;obtain ⟨rfl,rfl⟩:=h;exact ⟨q.1,ha,rfl,rfl⟩
 | false =>
   rw[h1] at h;simp only[cond_false] at h ⊢;cases h2:cW x [[41]] with
   | true =>
     rw[h2] at h;simp only[cond_true,SJ,PJ] at h ⊢;obtain ⟨rfl,rfl⟩:=h;exact ⟨[],ha,⟨rfl,rfl⟩,rfl⟩
   | false=>rw[h2] at h;cases h
section
variable {M:Memo}{ts:List TkR}{lin:Lin}{n:Nat}{rec:PF→Nat→PR}
def Nz (H:Heap)(r:RG)(G:Heap)(acc:List Ex):Prop :=
 (acc.length=1∧G=[]∧r.a.a.f=.sl 6 (exL acc) .lit)∨(∃ o g G',2≤acc.length∧G=o :: .lin g :: G'∧r.a.a.f=.sl 6 (exL acc) (.live (aa H + 1) g))
def Qa (H:Heap)(v:AV)(l:List Ex):Prop :=
 (l.length=1∧v=.sl 6 (exL l) .lit)∨(∃ g,2≤l.length∧v=.sl 6 (exL l) (.live (aa H + 1) g))
theorem IA (l:List Ex)(a:Ex):exL (l ++ [a])=exL l ++ [a.v]:=by simp[exL_map]
theorem Cy (m:cq M)(hlen:ts.length≤90000){g:Nat}{fv:AV}{one:Nat→PR}(hcv:∀ s,cM CC fv [] s=some (.call g [.ptr n 0]))
  (hk:∀ {i e j},one i=some (e,j)→Runs M g [.ptr n 0] n (ts.map TkR.v) lin i e.v j) {H:Heap} (hlt:n < aa H):∀ (k:Nat) (acc:List Ex) (i:Nat) (l:List Ex) (j:Nat),Ok ts one k i=some (l,j)→acc.length + k≤100000→∀ (fu:Nat),k + 1≤fu→∀ (r:RG) (G:Heap),
  r.a.a.a=.ptr n 0→r.a.a.b=fv→Nz H r G acc →
  ∃ r' G',aw (jK (orc CC M)) fu r [] ⟨ai H n (aC (ts.map TkR.v) lin i) ++ G,aa H⟩=some (.ret,r',[],⟨ai H n (aC (ts.map TkR.v) lin j) ++ G',aa H⟩)∧Qa H r'.a.a.e (acc ++ l):=by
 intro k
 induction k with
 | zero =>
   intro acc i l j h hak fu hfu r G h0 h1 hI;obtain ⟨fu',rfl⟩ : ∃ f,fu=f + 1:=⟨fu - 1,by omega⟩
   obtain ⟨x,hx,h⟩:=aU h;have hx':=aA hx;have hi:=bd hlen hx;cases hw:cW x [[44]] with
   | true=>rw[hw] at h;cases h
   | false =>
     rw[hw] at h;simp only[cond_false] at h;obtain ⟨hw2,h⟩:=aS h;simp only[SJ,PJ] at h;obtain ⟨rfl,rfl⟩:=h;have T:=cU (n:=n) (lin:=lin) m hx' hi (ws:=[[44]]) (wa:=[.str [44]]) rfl (by simp) hw
     have W:=cK (n:=n) (lin:=lin) m hx' hi hw2
     rcases hI with ⟨ha,rfl,h5⟩ | ⟨o,g',G',ha,rfl,h5⟩
     ·simp only[aw,jK,nF,nx,sN,tP,SIM,ST0,h0,h1,h5,T,W,B26,aI hlt,aJ hlt,db hlt,a9,ba,Nat.reduceAdd,Nat.reduceLeDiff,TkR.v];exact ⟨_,_,rfl,.inl ⟨by simpa using ha,rfl⟩⟩
     ·simp only[aw,jK,nF,nx,sN,tP,SIM,ST0,h0,h1,h5,T,W,B26,aI hlt,aJ hlt,db hlt,a9,ba,Nat.reduceAdd,Nat.reduceLeDiff,TkR.v];exact ⟨_,_,rfl,.inr ⟨g',by simpa using ha,rfl⟩⟩
 | succ k ih =>
   intro acc i l j h hak fu hfu r G h0 h1 hI;obtain ⟨fu',rfl⟩ : ∃ f,fu=f + 1:=⟨fu - 1,by omega⟩
   obtain ⟨x,hx,h⟩:=aU h;have hx':=aA hx;have hi:=bd hlen hx;cases hw:cW x [[44]] with
   | false =>
     rw[hw] at h;simp only[cond_false] at h;obtain ⟨hw2,h⟩:=aS h;simp only[SJ,PJ] at h;obtain ⟨rfl,rfl⟩:=h;have T:=cU (n:=n) (lin:=lin) m hx' hi (ws:=[[44]]) (wa:=[.str [44]]) rfl (by simp) hw
     have W:=cK (n:=n) (lin:=lin) m hx' hi hw2
     rcases hI with ⟨ha,rfl,h5⟩ | ⟨o,g',G',ha,rfl,h5⟩
     ·simp only[aw,jK,nF,nx,sN,tP,SIM,ST0,h0,h1,h5,T,W,B26,aI hlt,aJ hlt,db hlt,a9,ba,Nat.reduceAdd,Nat.reduceLeDiff,TkR.v];exact ⟨_,_,rfl,.inl ⟨by simpa using ha,rfl⟩⟩
     ·simp only[aw,jK,nF,nx,sN,tP,SIM,ST0,h0,h1,h5,T,W,B26,aI hlt,aJ hlt,db hlt,a9,ba,Nat.reduceAdd,Nat.reduceLeDiff,TkR.v];exact ⟨_,_,rfl,.inr ⟨g',by simpa using ha,rfl⟩⟩
   | true =>
     rw[hw] at h;simp only[cond_true] at h;obtain ⟨a,i1,l',ha1,hT,rfl⟩:=pS h;have T:=cG (n:=n) (lin:=lin) m hx' hi (ws:=[[44]]) (wa:=[.str [44]]) rfl (by simp) hw
     have K:=hk ha1;have hex:=IA acc a;have hal:(exL acc).length=acc.length:=by rw[exL_map,List.length_map]
     have key:∀ (r:RG) (G:Heap),r.a.a.a=.ptr n 0→r.a.a.b=fv→Nz H r G (acc ++ [a]) →
       ∃ r' G',aw (jK (orc CC M)) fu' r [] ⟨ai H n (aC (ts.map TkR.v) lin i1) ++ G,aa H⟩=some (.ret,r',[],⟨ai H n (aC (ts.map TkR.v) lin j) ++ G',aa H⟩)∧Qa H r'.a.a.e (acc ++ a :: l'):=by
      intro r G h0 h1 hI;have:=ih (acc ++ [a]) i1 l' j hT (by simp;omega) fu' (by omega) r G h0 h1 hI
      rwa [List.append_assoc] at this
     rcases hI with ⟨ha,rfl,h5⟩ | ⟨o,g',G',ha,rfl,h5⟩
     ·have A:=fun hp e=>wO 59 (xs:=exL acc) a hp e (by omega)
      simp only[aw,jK,nF,nx,ER,SIM,ST0,h0,h1,h5,T,K,A,hcv,B26,EXS,aI hlt,aJ hlt,db hlt,a9,ba,Nat.reduceAdd,Nat.reduceLeDiff,TkR.v];refine key _ _ ?_ ?_ ?_
      ·first | exact h0 | rfl
      ·first | exact h1 | rfl
      ·refine .inr ⟨_,0,[],by simp;omega,rfl,?_⟩
       rw[hex]
     ·have A:=fun L e=>mj 59 (xs:=exL acc) a (hp:=ai H n (aC (ts.map TkR.v) lin i1) ++ (o :: .lin g' :: L)) (e:=e) (id:=aa H + 1) (g:=g') (by rw[si];rfl) (by omega)
      simp only[aw,jK,nF,nx,ER,SIM,ST0,h0,h1,h5,T,K,A,hcv,B26,EXS,aI hlt,aJ hlt,db hlt,a9,ba,Nat.reduceAdd,Nat.reduceLeDiff,TkR.v];refine key _ _ ?_ ?_ ?_
      ·first | exact h0 | rfl
      ·first | exact h1 | rfl
      ·refine .inr ⟨_,g' + 1,_,by simp;omega,rfl,?_⟩
       rw[hex]
theorem keep111:CC.keep 59=false:=by kernel_rfl
theorem xH (m:cq M)(hlen:ts.length≤90000){g:Nat}{fv:AV}{one:Nat→PR}(hcv:∀ s,cM CC fv [] s=some (.call g [.ptr n 0]))
  (hk:∀ {i e j},one i=some (e,j)→Runs M g [.ptr n 0] n (ts.map TkR.v) lin i e.v j) {k i j:Nat} {l:List Ex} (hk9:k≤90000) (h:pj ts one k i=some (l,j)):Runs M 59 [.ptr n 0,fv] n (ts.map TkR.v) lin i (cC 13 (exL l)) j:=by
 cases k with
 | zero=>cases h
 | succ k =>
   obtain ⟨a,i1,l',ha,hT,rfl⟩:=pS h;have K:=hk ha;refine Runs.of fun H hlt=>?_
   refine aH (z:=z59) (m _ _ rfl) (by kernel_rfl) rfl ?_
   have e0:(envOf [AV.ptr n 0,fv] 0 env0).a.a.a=.ptr n 0:=rfl;have e1:(envOf [AV.ptr n 0,fv] 0 env0).a.a.b=fv:=rfl;generalize envOf [AV.ptr n 0,fv] 0 env0=R at e0 e1
   have pre:∃ r,(r.a.a.a=.ptr n 0∧r.a.a.b=fv∧Nz H r [] [a])∧z59.sh (orc CC M) R [] ⟨ai H n (aC (ts.map TkR.v) lin i),aa (ai H n (aC (ts.map TkR.v) lin i))⟩=dD 0 (aw (jK (orc CC M)) 100000 r [] ⟨ai H n (aC (ts.map TkR.v) lin i1),aa H⟩):=by
    simp only[z59,KI,MP,SIM,ST0,e0,e1,K,hcv,EXS,db hlt,Nat.reduceAdd,Nat.reduceLeDiff];refine ⟨_,?_,rfl⟩;exact ⟨by first | rfl | exact e0,by first | rfl | exact e1,.inl ⟨rfl,rfl,rfl⟩⟩
   obtain ⟨r0,hr0,hpre⟩:=pre;rw[hpre];obtain ⟨r',G',h1,h2⟩:=Cy m hlen hcv hk hlt k [a] i1 l' j hT (by simp;omega) 100000 (by omega) r0 [] hr0.1 hr0.2.1 hr0.2.2
   rw[List.append_nil] at h1;rw[h1];rw[List.singleton_append] at h2;have hln:dK (exL (a :: l'))=true:=exL_noN _
   rcases h2 with ⟨hl,h2⟩ | ⟨g',hl,h2⟩
   ·have hl0:l'=[]:=by cases l' with
     | nil=>rfl
     | cons b c=>simp at hl
    subst hl0;simp only[z59,SIM,ST0,h2,hln];rfl
   ·have G:=fun hp=>i0 (sz:=6) (l:=exL (a :: l')) (id:=aa H + 1) (g:=g') (base:=aa H) (hp:=hp) hln (by omega)
    have hkv:cC 13 (exL (a :: l'))=.sl 6 (exL (a :: l')) .dead:=by
     have hle:Nat.ble 2 ((exL l').length + 1)=true:=by
      rw[dE,exL_map,List.length_map];simp at hl ⊢;omega
     simp only[exL,cC,Ip,hle];rfl
    rw[hkv];simp only[z59,SIM,ST0,h2,keep111,G]
theorem NX (l:List AV):cC 14 l=cC 13 l:=by
 cases l with
 | nil=>rfl
 | cons a l=>rfl
theorem ov (l:List Ex):AV.cells (cC 13 (exL l))=[cC 13 (exL l)]∧AV.one (cC 13 (exL l))=true∧gF (cC 13 (exL l))=true:=by
 refine ⟨?_,?_,np (exL_noN l)⟩
 ·cases exL l <;> rfl
 ·cases exL l <;> rfl
theorem t6 (m:cq M)(hlen:ts.length≤90000)(hR:PBelow M ts lin n rec){k i j:Nat}{x:TkR}{e:Ex}(hk9:k≤90000)(h:xK ts rec k x i=some (e,j)):Runs M 43 [.ptr n 0,x.v] n (ts.map TkR.v) lin i e.v j:=by
 obtain ⟨w,hw,hww,h⟩:=bp h;obtain ⟨y,hy,h⟩:=aU h;have W:=cK (n:=n) (lin:=lin) m (aA hw) (bd hlen hw) hww;have hy':=aA hy;have hi1:=bd hlen hy;refine Runs.of fun H hlt=>?_
 refine aH (z:=z43) (m _ _ rfl) (by kernel_rfl) rfl ?_
 have e0:(envOf [AV.ptr n 0,x.v] 0 env0).a.a.a=.ptr n 0:=rfl;have e1:(envOf [AV.ptr n 0,x.v] 0 env0).a.a.b=x.v:=rfl;generalize envOf [AV.ptr n 0,x.v] 0 env0=R at e0 e1;have hb:=Fk x;simp only[TkR.v] at hb;cases hy2:cW y [[41]] with
 | true =>
   rw[hy2] at h;simp only[cond_true,SJ,PJ] at h;obtain ⟨rfl,rfl⟩:=h;have T:=cG (n:=n) (lin:=lin) m hy' hi1 (ws:=[[41]]) (wa:=[.str [41]]) rfl (by simp) hy2
   simp only[z43,Gq,E8,BK,BJ,GA,GO,SIM,ST0,e0,e1,hb,B26,BES,T,W,aI hlt,aJ hlt,Nat.reduceAdd,Nat.reduceLeDiff,TkR.v];rfl
 | false =>
   rw[hy2] at h;simp only[cond_false] at h;have T:=cU (n:=n) (lin:=lin) m hy' hi1 (ws:=[[41]]) (wa:=[.str [41]]) rfl (by simp) hy2
   cases hr:pj ts (rec .expr) k (i + 1) with
   | none=>rw[hr] at h;cases h
   | some q =>
     obtain ⟨l,j2⟩:=q;rw[hr] at h;simp only[SJ,PJ] at h;obtain ⟨rfl,rfl⟩:=h;have L:=xH (fv:=.func (.func 44) [.ptr n 0] []) m hlen (fun s=>by kernel_rfl) hR.expr hk9 hr
     have hv:(Ex.mk 13 x.p 0 x.t false l).v=.agg [.int .i64 13,.int .i64 (x.p:Int),.int .i64 0,.str x.t,.bool false,cC 13 (exL l)]:=by simp only[Ex.v];rfl
     rw[hv];obtain ⟨c1,c2,c3⟩:=ov l;generalize cC 13 (exL l)=kv at L c1 c2 c3;simp only[z43,Gq,E8,BK,BJ,GA,LL,GO,SIM,ST0,e0,e1,hb,B26,BES,T,W,L,c1,c2,c3,aI hlt,aJ hlt,Nat.reduceAdd,Nat.reduceLeDiff,TkR.v]
theorem Al (m:cq M)(hlen:ts.length≤90000){k p i j:Nat}{e:Ex}(hk9:k≤90000)(h:FA ts k p i=some (e,j)):Runs M 100 [.ptr n 0,.int .i64 (p:Int)] n (ts.map TkR.v) lin i e.v j:=by
 obtain ⟨z,hz,hzk,h⟩:=cV h;obtain ⟨x,hx,h⟩:=aU h;have N:=gC (n:=n) (lin:=lin) m (aA hz) (bd hlen hz) hzk;have hx':=aA hx;have hi1:=bd hlen hx;refine Runs.of fun H hlt=>?_
 refine aH (z:=z100) (m _ _ rfl) (by kernel_rfl) rfl ?_
 have e0:(envOf [AV.ptr n 0,.int .i64 (p:Int)] 0 env0).a.a.a=.ptr n 0:=rfl;have e1:(envOf [AV.ptr n 0,.int .i64 (p:Int)] 0 env0).a.a.b=.int .i64 (p:Int):=rfl;generalize envOf [AV.ptr n 0,.int .i64 (p:Int)] 0 env0=R at e0 e1;cases hx2:cW x [[97,102,116,101,114]] with
 | false =>
   rw[hx2] at h;simp only[cond_false,SJ,PJ] at h;obtain ⟨rfl,rfl⟩:=h;have T:=cU (n:=n) (lin:=lin) m hx' hi1 (ws:=[[97,102,116,101,114]]) (wa:=[.str [97,102,116,101,114]]) rfl (by simp) hx2
   simp only[z100,wq,xv,vG,wi,vJ,SIM,ST0,e0,e1,B26,BES,T,N,nK,aI hlt,aJ hlt,Nat.reduceAdd,Nat.reduceLeDiff,TkR.v];rfl
 | true =>
   rw[hx2] at h;simp only[cond_true] at h;have T:=cG (n:=n) (lin:=lin) m hx' hi1 (ws:=[[97,102,116,101,114]]) (wa:=[.str [97,102,116,101,114]]) rfl (by simp) hx2
   obtain ⟨w,hw,hww,h⟩:=bp h;have W:=cK (n:=n) (lin:=lin) m (aA hw) (bd hlen hw) hww;cases hr:pj ts (HQ ts) k (i + 1 + 1 + 1) with
   | none=>rw[hr] at h;cases h
   | some q =>
     obtain ⟨l,j2⟩:=q;rw[hr] at h;simp only[SJ,PJ] at h;obtain ⟨rfl,rfl⟩:=h;have L:=xH (n:=n) (lin:=lin) (fv:=.func (.func 102) [.ptr n 0] []) m hlen (fun s=>by kernel_rfl) (fun h=>Ho m hlen h) hk9 hr
     have hv:(Ex.mk 14 p 0 z.t false l).v=.agg [.int .i64 14,.int .i64 (p:Int),.int .i64 0,.str z.t,.bool false,cC 13 (exL l)]:=by simp only[Ex.v,NX];rfl
     rw[hv];obtain ⟨c1,c2,c3⟩:=ov l;generalize cC 13 (exL l)=kv at L c1 c2 c3;simp only[z100,wq,xv,vG,wi,G7,BG,vJ,SIM,ST0,e0,e1,B26,BES,T,N,W,L,c1,c2,c3,nK,aI hlt,aJ hlt,Nat.reduceAdd,Nat.reduceLeDiff,TkR.v]
end
theorem TI (b:CZ)(r:RG)(ds:Dfs)(s:St):aw b 99998 r ds s=dZ (aw b 99997) (b r ds s):=rfl
theorem iP {b sz id g:Nat}{l:List AV}(hl:dK l=true):AV.low b (.sl sz l (.live id g))=decide (id < b):=by
 simp[AV.low,dG hl,Lin.low]
theorem rU {off r sz id g b:Nat}{l cs:List AV}{hp:Heap}(hl:dK l=true)(h1:id < aa hp)(h2:r + 1≤id)(h3:b≤r)(h4:off + 1≤aa cs) :
  eF 1 off r (.sl sz l (.live id g)) [.sl sz l (.live id g)] cs ⟨hp,b⟩=some ⟨ai hp r (.cells (cm cs off [.sl sz l (.live id g)])),b⟩:=by
 have e1:eV (aa hp) (.sl sz l (.live id g))=true:=by rw[cj,iP hl];simpa using h1
 have e2:eV (r + 1) (.sl sz l (.live id g))=false:=by rw[cj,iP hl];simp;omega
 have e3:Nat.ble (Nat.add off 1) (aa cs)=true:=by rw[dE];simpa using h4
 have e4:min b r=b:=Nat.min_eq_left h3;have e5:Nat.beq (aa [AV.sl sz l (.live id g)]) 1=true:=rfl;have e6:List.all [AV.sl sz l (.live id g)] AV.one=true:=rfl;simp only[eF,e1,e3,e5,e6,Bool.and_self,cond_true,i8,e2,cond_false,e4]
theorem HU {r sz id g b:Nat}{k p m:Int}{s:List Nat}{o:Bool}{l cs:List AV}{hp:Heap}(hl:dK l=true)(h1:id < aa hp)(h2:r + 1≤id)(h3:b≤r)(h4:6≤aa cs) :
  eF 6 0 r (.agg [.int .i64 k,.int .i64 p,.int .i64 m,.str s,.bool o,.sl sz l (.live id g)]) [.int .i64 k,.int .i64 p,.int .i64 m,.str s,.bool o,.sl sz l (.live id g)] cs ⟨hp,b⟩ =
   some ⟨ai hp r (.cells (cm cs 0 [.int .i64 k,.int .i64 p,.int .i64 m,.str s,.bool o,.sl sz l (.live id g)])),b⟩:=by
 have low:∀ b,AV.low b (.agg [.int .i64 k,.int .i64 p,.int .i64 m,.str s,.bool o,.sl sz l (.live id g)])=decide (id < b):=by
  intro b;have:=iP (b:=b) (sz:=sz) (id:=id) (g:=g) hl;simp[AV.low,aM] at this ⊢;exact this
 have e1:eV (aa hp) (.agg [.int .i64 k,.int .i64 p,.int .i64 m,.str s,.bool o,.sl sz l (.live id g)])=true:=by rw[cj,low];simpa using h1
 have e2:eV (r + 1) (.agg [.int .i64 k,.int .i64 p,.int .i64 m,.str s,.bool o,.sl sz l (.live id g)])=false:=by rw[cj,low];simp;omega
 have e3:Nat.ble (Nat.add 0 6) (aa cs)=true:=by rw[dE];simpa using h4
 have e4:min b r=b:=Nat.min_eq_left h3;have e5:Nat.beq (aa [.int .i64 k,.int .i64 p,.int .i64 m,.str s,.bool o,AV.sl sz l (.live id g)]) 6=true:=rfl;have e6:List.all [.int .i64 k,.int .i64 p,.int .i64 m,.str s,.bool o,AV.sl sz l (.live id g)] AV.one=true:=rfl;simp only[eF,e1,e3,e5,e6,Bool.and_self,cond_true,i8,e2,cond_false,e4]
theorem Qc {sz id g base:Nat}{k p m:Int}{s:List Nat}{o:Bool}{l:List AV}{hp:Heap}(hl:dK l=true)(hid:base≤id) :
  kf false base (.agg [.int .i64 k,.int .i64 p,.int .i64 m,.str s,.bool o,.sl sz l (.live id g)]) ⟨hp,base⟩=.ret (.agg [.int .i64 k,.int .i64 p,.int .i64 m,.str s,.bool o,.sl sz l .dead]) (bB base hp) base:=by
 have h1:gF (.agg [.int .i64 k,.int .i64 p,.int .i64 m,.str s,.bool o,.sl sz l (.live id g)])=false:=rfl;have h2:Lin.low base (.live id g)=false:=by simp[Lin.low];omega
 have h3:AV.settle base hp (.agg [.int .i64 k,.int .i64 p,.int .i64 m,.str s,.bool o,.sl sz l (.live id g)])=.agg [.int .i64 k,.int .i64 p,.int .i64 m,.str s,.bool o,.sl sz l .dead]:=by
  simp[AV.settle,br,ep hl,h2]
 have h4:AV.low base (.agg [.int .i64 k,.int .i64 p,.int .i64 m,.str s,.bool o,.sl sz l .dead])=true:=by
  simp[AV.low,aM,dG hl,Lin.low]
 unfold kf;rw[h1,Bool.and_false];simp only[cond_false,xj,cR,if_true,h3,h4,Bool.false_eq_true,if_false,dw]
theorem CV (a:Ex)(q:Lin):AV.same (.sl 6 [a.v] q) (.sl 6 [a.v] q)=true:=by simp[AV.same,sameL,ex_same]
theorem keep192:CC.keep 99=false:=by kernel_rfl
section
variable {M:Memo}{ts:List TkR}{lin:Lin}{n:Nat}{rec:PF→Nat→PR}
theorem C8 (m:cq M)(hlen:ts.length≤90000)(hR:PBelow M ts lin n rec){k i j:Nat}{e:Ex}(hk9:k≤90000)(h:pq ts rec k .prim i=some (e,j)):Runs M 99 [.ptr n 0] n (ts.map TkR.v) lin i e.v j:=by
 simp only[pq] at h;obtain ⟨x,hx,h⟩:=aU h;have hx':=aA hx;have hi:=bd hlen hx;refine Runs.of fun H hlt=>?_
 refine aH (z:=z99) (m _ _ rfl) (by kernel_rfl) rfl ?_
 have e0:(envOf [AV.ptr n 0] 0 env0).a.a.a=.ptr n 0:=rfl;generalize envOf [AV.ptr n 0] 0 env0=R at e0;have P:=lw (n:=n) (lin:=lin) m hx';have c2:decide ((x.k:Int)=2)=Nat.beq x.k 2:=vf x.k 2;have c1:decide ((x.k:Int)=1)=Nat.beq x.k 1:=vf x.k 1;have ha1:cQ ((i:Nat):Int) 1=((i + 1:Nat):Int):=bA i 1 hi;cases hk2:Nat.beq x.k 2 with
 | true =>
   rw[hk2] at h c2;simp only[cond_true] at h;cases hn:jH x x.p false with
   | none=>rw[hn] at h;cases h
   | some e' =>
     rw[hn] at h;simp only[SJ,PJ] at h;obtain ⟨rfl,rfl⟩:=h;have N:=jl m x x.p false hn;simp only[TkR.v] at N;simp only[z99,mE,mH,ma,Mo,Mp,SIM,ST0,ST1,e0,P,c2,ha1,N,aI hlt,aJ hlt,EXS,Nat.reduceAdd,Nat.reduceLeDiff,TkR.v]
 | false =>
   rw[hk2] at h c2;simp only[cond_false] at h;cases hk1:Nat.beq x.k 1 with
   | true =>
     rw[hk1] at h c1;simp only[cond_true] at h;obtain ⟨y,hy,h⟩:=aU h;have hy':=aA hy;cases hw:cW y [[40]] with
     | true =>
       rw[hw] at h;simp only[cond_true] at h;have I:=vW (n:=n) (lin:=lin) m hy' (ws:=[[40]]) (wa:=[.str [40]]) rfl (by simp) hw
       have C:=t6 m hlen hR hk9 h;simp only[TkR.v] at C;simp only[z99,mE,mH,ma,oO,BT,CJ,MH,SIM,ST0,ST1,e0,B26,P,c1,c2,ha1,I,C,aI hlt,aJ hlt,EXS,Nat.reduceAdd,Nat.reduceLeDiff,TkR.v]
     | false =>
       rw[hw] at h;simp only[cond_false,SJ,PJ] at h;obtain ⟨rfl,rfl⟩:=h;have I:=vW (n:=n) (lin:=lin) m hy' (ws:=[[40]]) (wa:=[.str [40]]) rfl (by simp) hw
       simp only[z99,mE,mH,ma,oO,BT,CJ,M7,SIM,ST0,ST1,e0,B26,BES,P,c1,c2,ha1,I,aI hlt,aJ hlt,EXS,Nat.reduceAdd,Nat.reduceLeDiff,TkR.v];rfl
   | false =>
     rw[hk1] at h c1;simp only[cond_false] at h;obtain ⟨hw,h⟩:=aS h;have T:=cG (n:=n) (lin:=lin) m hx' hi (ws:=[[116,114,117,101],[102,97,108,115,101],[109,101,114,103,101],[97,119,97,105,116],[40]]) (wa:=[.str [116,114,117,101],.str [102,97,108,115,101],.str [109,101,114,103,101],.str [97,119,97,105,116],.str [40]]) rfl (by simp) hw
     cases hm:strEq x.t [109,101,114,103,101] with
     | true =>
       rw[hm] at h;simp only[cond_true] at h;obtain ⟨z,hz,hzk,h⟩:=cV h;obtain ⟨w1,hw1,hww1,h⟩:=bp h;obtain ⟨a,i3,ha,h⟩:=bY h;obtain ⟨w2,hw2,hww2,h⟩:=bp h;obtain ⟨w3,hw3,hww3,h⟩:=bp h;obtain ⟨b,i6,hb,h⟩:=bY h;obtain ⟨w4,hw4,hww4,h⟩:=bp h;simp only[SJ,PJ] at h;obtain ⟨rfl,rfl⟩:=h;have N:=gC (n:=n) (lin:=lin) m (aA hz) (bd hlen hz) hzk;have W1:=cK (n:=n) (lin:=lin) m (aA hw1) (bd hlen hw1) hww1;have W2:=cK (n:=n) (lin:=lin) m (aA hw2) (bd hlen hw2) hww2;have W3:=cK (n:=n) (lin:=lin) m (aA hw3) (bd hlen hw3) hww3;have W4:=cK (n:=n) (lin:=lin) m (aA hw4) (bd hlen hw4) hww4;have iha:=hR.expr ha;have ihb:=hR.expr hb;have A1:=xg 99 a
       have A2:∀ o1 o2 o3 o4 e,aq CC 99 81 (.sl 6 [a.v] (.live (aa H + 4) 0)) (.sl 6 [b.v] .lit) ⟨ai H n (aC (ts.map TkR.v) lin i6) ++ [o1,o2,o3,o4,.lin 0],e⟩ =
         some (.sl 6 [a.v,b.v] (.live (aa H + 4) 1),⟨ai H n (aC (ts.map TkR.v) lin i6) ++ [o1,o2,o3,o4,.lin 1],e⟩):=by
        intro o1 o2 o3 o4 e;rw[mj 99 (xs:=[a.v]) b (g:=0) (by rw[si];rfl) (by simp),wH]
        rfl
       have a01:cQ 0 1=1:=by decide
       have a11:cQ 1 1=2:=by decide
       simp only[z99,mE,mH,ma,oO,nU,nX,nA,nk,Cp,BM,DD,Dt,CF,EB,Ee,FQ,Fz,SIM,ST0,ST1,ST2,ST3,e0,B26,BES,P,c1,c2,T,hm,N,W1,W2,W3,W4,iha,ihb,A1,A2,eT,nK,Sw,S6,TI,a01,a11,aI hlt,aJ hlt,EXS,rU,HU,Qc,CV,keep192,Int.reduceLT,Nat.add_lt_add_iff_left,Nat.reduceLT,Nat.le_add_right,Nat.add_assoc,Nat.reduceAdd,Nat.reduceLeDiff,TkR.v,List.length_cons,List.length_nil];rfl
     | false =>
       rw[hm] at h;simp only[cond_false] at h;cases hm2:strEq x.t [97,119,97,105,116] with
       | true =>
         rw[hm2] at h;simp only[cond_true] at h;have A:=Al (n:=n) (lin:=lin) m hlen hk9 h;simp only[z99,mE,mH,ma,oO,nU,nX,nA,nk,rm,BN,SIM,ST0,ST1,ST2,ST3,e0,B26,P,c1,c2,T,hm,hm2,A,aI hlt,aJ hlt,EXS,Nat.reduceAdd,Nat.reduceLeDiff,TkR.v]
       | false =>
         rw[hm2] at h;simp only[cond_false] at h;cases hm3:strEq x.t [40] with
         | true =>
           rw[hm3] at h;simp only[cond_true] at h;obtain ⟨a,i3,ha,h⟩:=bY h;obtain ⟨w1,hw1,hww1,h⟩:=bp h;simp only[SJ,PJ] at h;obtain ⟨rfl,rfl⟩:=h;have iha:=hR.expr ha;have W1:=cK (n:=n) (lin:=lin) m (aA hw1) (bd hlen hw1) hww1;simp only[z99,mE,mH,ma,oO,nU,nX,nA,nk,rm,we,FO,Bp,Eo,SIM,ST0,ST1,ST2,ST3,e0,B26,P,c1,c2,T,hm,hm2,hm3,iha,W1,aI hlt,aJ hlt,EXS,Nat.reduceAdd,Nat.reduceLeDiff,TkR.v]
         | false =>
           rw[hm3] at h;simp only[cond_false,SJ,PJ] at h;obtain ⟨rfl,rfl⟩:=h;have K:=td m x;simp only[TkR.v] at K;simp only[z99,mE,mH,ma,oO,nU,nX,nA,nk,rm,we,FT,SIM,ST0,ST1,ST2,ST3,e0,B26,P,c1,c2,T,hm,hm2,hm3,K,aI hlt,aJ hlt,EXS,Nat.reduceAdd,Nat.reduceLeDiff,TkR.v]
end
theorem CT {M:Memo}{ts:List TkR}{lin:Lin}{n:Nat}(m:cq M)(hlen:ts.length≤90000):∀ k,k≤90000→PBelow M ts lin n (pp ts k)
 | 0,_=>by constructor <;> (intro i e j h;cases h)
 | k + 1,hk=>by
   have ih:=CT (lin:=lin) (n:=n) m hlen k (by omega)
   have hk' : k≤90000:=by omega
   exact ⟨fun h=>FN (k:=k) m hlen ih h,fun h=>AJ (k:=k) m hlen ih h,fun h=>Hu m hlen ih hk' h,fun h=>F7 m hlen ih hk' h,fun h=>EC (k:=k) m hlen ih h,fun h=>Hj m hlen ih hk' h,fun h=>Gc m hlen ih hk' h,
    fun h=>Ah (k:=k) m hlen ih h,fun h=>Dv m hlen ih hk' h,fun h=>C8 m hlen ih hk' h⟩
end Go.Proofs
