/- the law. Part of the proof of girandolelaw09.OrderChains. -/
import Derived.Test.YtglacbfdbfhmfaaDoorChE1
import Derived.Test.YtglacbfdbfhmfaaDoorChE2
import Derived.Test.YtglacbfdbfhmfaaDoorChE3
import Derived.Test.YtglacbfdbfhmfaaDoorChE4
import Derived.Test.YtglacbfdbfhmfaaDoorChE5
import Derived.Test.YtglacbfdbfhmfaaDoorChE6
import Derived.Test.YtglacbfdbfhmfaaDoorChE7
import Derived.Test.YtglacbfdbfhmfaaDoorChE8
import Derived.Test.YtglacbfdbfhmfaaDoorChE9
import Derived.Test.YtglacbfdbfhmfaaDoorChE10
import Derived.Test.YtglacbfdbfhmfaaDoorChE11
import Derived.Test.YtglacbfdbfhmfaaDoorChE12
import Derived.Test.YtglacbfdbfhmfaaDoorChE13
import Derived.Test.YtglacbfdbfhmfaaDoorChE14
import Derived.Test.YtglacbfdbfhmfaaDoorChE15
import Derived.Test.YtglacbfdbfhmfaaDoorChE16
import Derived.Test.YtglacbfdbfhmfaaDoorChE17
import Derived.Test.YtglacbfdbfhmfaaDoorCh
set_option linter.unusedVariables false
set_option linter.unusedSimpArgs false
namespace Go.Proofs
open Go Go.Abs
namespace Ch
theorem WF (g0:Nat→Nat)(G:Nat→Nat→Nat)(p q:Nat):∀ n,0 < n→n≤30→∀ la,la < 3→∀ r,r < n→bB (node g0 G p q n la r)=some (want la):=by
 intro n h0 h1
 match n,h0,h1 with
 | 1,_,_=>exact e1 g0 G p q
 | 2,_,_=>exact e2 g0 G p q
 | 3,_,_=>exact e3 g0 G p q
 | 4,_,_=>exact e4 g0 G p q
 | 5,_,_=>exact e5 g0 G p q
 | 6,_,_=>exact e6 g0 G p q
 | 7,_,_=>exact e7 g0 G p q
 | 8,_,_=>exact e8 g0 G p q
 | 9,_,_=>exact e9 g0 G p q
 | 10,_,_=>exact Xt g0 G p q
 | 11,_,_=>exact XL g0 G p q
 | 12,_,_=>exact XV g0 G p q
 | 13,_,_=>exact XS g0 G p q
 | 14,_,_=>exact XA g0 G p q
 | 15,_,_=>exact XX g0 G p q
 | 16,_,_=>exact XZ g0 G p q
 | 17,_,_=>exact XC g0 G p q
 | 18,_,_=>exact Xx g0 G p q
 | 19,_,_=>exact XT g0 G p q
 | 20,_,_=>exact e20 g0 G p q
 | 21,_,_=>exact XN g0 G p q
 | 22,_,_=>exact XR g0 G p q
 | 23,_,_=>exact XW g0 G p q
 | 24,_,_=>exact XQ g0 G p q
 | 25,_,_=>exact Xw g0 G p q
 | 26,_,_=>exact X3 g0 G p q
 | 27,_,_=>exact e27 g0 G p q
 | 28,_,_=>exact XE g0 G p q
 | 29,_,_=>exact XY g0 G p q
 | 30,_,_=>exact X2 g0 G p q
 | n + 31,_,h=>omega
end Ch
set_option maxRecDepth 1000000
namespace Ch
theorem quo10:∀ (i:Nat),i < 31→bO CC .quo 3 true (.int .i64 (i:Int)) (.int .i64 10)=some (.int .i64 ((i / 10:Nat):Int))
 | 0,_=>by kernel_rfl
 | 1,_=>by kernel_rfl
 | 2,_=>by kernel_rfl
 | 3,_=>by kernel_rfl
 | 4,_=>by kernel_rfl
 | 5,_=>by kernel_rfl
 | 6,_=>by kernel_rfl
 | 7,_=>by kernel_rfl
 | 8,_=>by kernel_rfl
 | 9,_=>by kernel_rfl
 | 10,_=>by kernel_rfl
 | 11,_=>by kernel_rfl
 | 12,_=>by kernel_rfl
 | 13,_=>by kernel_rfl
 | 14,_=>by kernel_rfl
 | 15,_=>by kernel_rfl
 | 16,_=>by kernel_rfl
 | 17,_=>by kernel_rfl
 | 18,_=>by kernel_rfl
 | 19,_=>by kernel_rfl
 | 20,_=>by kernel_rfl
 | 21,_=>by kernel_rfl
 | 22,_=>by kernel_rfl
 | 23,_=>by kernel_rfl
 | 24,_=>by kernel_rfl
 | 25,_=>by kernel_rfl
 | 26,_=>by kernel_rfl
 | 27,_=>by kernel_rfl
 | 28,_=>by kernel_rfl
 | 29,_=>by kernel_rfl
 | 30,_=>by kernel_rfl
 | n + 31,h=>absurd h (by omega)
theorem rem10:∀ (i:Nat),i < 31→bO CC .rem 3 true (.int .i64 (i:Int)) (.int .i64 10)=some (.int .i64 ((i % 10:Nat):Int))
 | 0,_=>by kernel_rfl
 | 1,_=>by kernel_rfl
 | 2,_=>by kernel_rfl
 | 3,_=>by kernel_rfl
 | 4,_=>by kernel_rfl
 | 5,_=>by kernel_rfl
 | 6,_=>by kernel_rfl
 | 7,_=>by kernel_rfl
 | 8,_=>by kernel_rfl
 | 9,_=>by kernel_rfl
 | 10,_=>by kernel_rfl
 | 11,_=>by kernel_rfl
 | 12,_=>by kernel_rfl
 | 13,_=>by kernel_rfl
 | 14,_=>by kernel_rfl
 | 15,_=>by kernel_rfl
 | 16,_=>by kernel_rfl
 | 17,_=>by kernel_rfl
 | 18,_=>by kernel_rfl
 | 19,_=>by kernel_rfl
 | 20,_=>by kernel_rfl
 | 21,_=>by kernel_rfl
 | 22,_=>by kernel_rfl
 | 23,_=>by kernel_rfl
 | 24,_=>by kernel_rfl
 | 25,_=>by kernel_rfl
 | 26,_=>by kernel_rfl
 | 27,_=>by kernel_rfl
 | 28,_=>by kernel_rfl
 | 29,_=>by kernel_rfl
 | 30,_=>by kernel_rfl
 | n + 31,h=>absurd h (by omega)
theorem cv35:∀ (d:Nat),d < 10→bN CC 3 5 (.int .i64 ((48 + d:Nat):Int))=some (.int .u8 ((48 + d:Nat):Int))
 | 0,_=>by kernel_rfl
 | 1,_=>by kernel_rfl
 | 2,_=>by kernel_rfl
 | 3,_=>by kernel_rfl
 | 4,_=>by kernel_rfl
 | 5,_=>by kernel_rfl
 | 6,_=>by kernel_rfl
 | 7,_=>by kernel_rfl
 | 8,_=>by kernel_rfl
 | 9,_=>by kernel_rfl
 | n + 10,h=>absurd h (by omega)
theorem Uu (a b:Nat):aP CC 23 2 [(0,.int .u8 (a:Int)),(1,.int .u8 (b:Int))]=some (.sl 1 [.int .u8 (a:Int),.int .u8 (b:Int)] .lit):=by kernel_rfl
theorem cv239:∀ (a b:Nat),a < 10→b < 10→bN CC 23 9 (.sl 1 [.int .u8 ((48 + a:Nat):Int),.int .u8 ((48 + b:Nat):Int)] .lit)=some (.str [48 + a,48 + b])
 | 0,0,_,_=>by kernel_rfl
 | 0,1,_,_=>by kernel_rfl
 | 0,2,_,_=>by kernel_rfl
 | 0,3,_,_=>by kernel_rfl
 | 0,4,_,_=>by kernel_rfl
 | 0,5,_,_=>by kernel_rfl
 | 0,6,_,_=>by kernel_rfl
 | 0,7,_,_=>by kernel_rfl
 | 0,8,_,_=>by kernel_rfl
 | 0,9,_,_=>by kernel_rfl
 | 1,0,_,_=>by kernel_rfl
 | 1,1,_,_=>by kernel_rfl
 | 1,2,_,_=>by kernel_rfl
 | 1,3,_,_=>by kernel_rfl
 | 1,4,_,_=>by kernel_rfl
 | 1,5,_,_=>by kernel_rfl
 | 1,6,_,_=>by kernel_rfl
 | 1,7,_,_=>by kernel_rfl
 | 1,8,_,_=>by kernel_rfl
 | 1,9,_,_=>by kernel_rfl
 | 2,0,_,_=>by kernel_rfl
 | 2,1,_,_=>by kernel_rfl
 | 2,2,_,_=>by kernel_rfl
 | 2,3,_,_=>by kernel_rfl
 | 2,4,_,_=>by kernel_rfl
 | 2,5,_,_=>by kernel_rfl
 | 2,6,_,_=>by kernel_rfl
 | 2,7,_,_=>by kernel_rfl
 | 2,8,_,_=>by kernel_rfl
 | 2,9,_,_=>by kernel_rfl
 | 3,0,_,_=>by kernel_rfl
 | 3,1,_,_=>by kernel_rfl
 | 3,2,_,_=>by kernel_rfl
 | 3,3,_,_=>by kernel_rfl
 | 3,4,_,_=>by kernel_rfl
 | 3,5,_,_=>by kernel_rfl
 | 3,6,_,_=>by kernel_rfl
 | 3,7,_,_=>by kernel_rfl
 | 3,8,_,_=>by kernel_rfl
 | 3,9,_,_=>by kernel_rfl
 | 4,0,_,_=>by kernel_rfl
 | 4,1,_,_=>by kernel_rfl
 | 4,2,_,_=>by kernel_rfl
 | 4,3,_,_=>by kernel_rfl
 | 4,4,_,_=>by kernel_rfl
 | 4,5,_,_=>by kernel_rfl
 | 4,6,_,_=>by kernel_rfl
 | 4,7,_,_=>by kernel_rfl
 | 4,8,_,_=>by kernel_rfl
 | 4,9,_,_=>by kernel_rfl
 | 5,0,_,_=>by kernel_rfl
 | 5,1,_,_=>by kernel_rfl
 | 5,2,_,_=>by kernel_rfl
 | 5,3,_,_=>by kernel_rfl
 | 5,4,_,_=>by kernel_rfl
 | 5,5,_,_=>by kernel_rfl
 | 5,6,_,_=>by kernel_rfl
 | 5,7,_,_=>by kernel_rfl
 | 5,8,_,_=>by kernel_rfl
 | 5,9,_,_=>by kernel_rfl
 | 6,0,_,_=>by kernel_rfl
 | 6,1,_,_=>by kernel_rfl
 | 6,2,_,_=>by kernel_rfl
 | 6,3,_,_=>by kernel_rfl
 | 6,4,_,_=>by kernel_rfl
 | 6,5,_,_=>by kernel_rfl
 | 6,6,_,_=>by kernel_rfl
 | 6,7,_,_=>by kernel_rfl
 | 6,8,_,_=>by kernel_rfl
 | 6,9,_,_=>by kernel_rfl
 | 7,0,_,_=>by kernel_rfl
 | 7,1,_,_=>by kernel_rfl
 | 7,2,_,_=>by kernel_rfl
 | 7,3,_,_=>by kernel_rfl
 | 7,4,_,_=>by kernel_rfl
 | 7,5,_,_=>by kernel_rfl
 | 7,6,_,_=>by kernel_rfl
 | 7,7,_,_=>by kernel_rfl
 | 7,8,_,_=>by kernel_rfl
 | 7,9,_,_=>by kernel_rfl
 | 8,0,_,_=>by kernel_rfl
 | 8,1,_,_=>by kernel_rfl
 | 8,2,_,_=>by kernel_rfl
 | 8,3,_,_=>by kernel_rfl
 | 8,4,_,_=>by kernel_rfl
 | 8,5,_,_=>by kernel_rfl
 | 8,6,_,_=>by kernel_rfl
 | 8,7,_,_=>by kernel_rfl
 | 8,8,_,_=>by kernel_rfl
 | 8,9,_,_=>by kernel_rfl
 | 9,0,_,_=>by kernel_rfl
 | 9,1,_,_=>by kernel_rfl
 | 9,2,_,_=>by kernel_rfl
 | 9,3,_,_=>by kernel_rfl
 | 9,4,_,_=>by kernel_rfl
 | 9,5,_,_=>by kernel_rfl
 | 9,6,_,_=>by kernel_rfl
 | 9,7,_,_=>by kernel_rfl
 | 9,8,_,_=>by kernel_rfl
 | 9,9,_,_=>by kernel_rfl
 | n + 10,_,h,_=>absurd h (by omega)
 | _,n + 10,_,h=>absurd h (by omega)
theorem fP (t:Bool){a b:List Nat}(h:a.length + b.length < 2 ^ 62):bO CC .add 9 t (.str a) (.str b)=some (.str (a ++ b)):=by
 have h0:bM CC .add 9 (.str a) (.str b)=some (.str (a ++ b)):=by
  simp only[bM,kf];rw[if_pos h]
 cases t
 ·exact h0
 ·exact h0
section
variable {M:Memo}
theorem iT (h13:∀ a,M 13 a=none){i:Nat}(hi:i < 31)(H:Heap):orc CC M 13 [.int .i64 (i:Int)] H=some (.ret (.str (nm i)) H (aa H)):=by
 refine aL (z:=z13) (h13 _) (by kernel_rfl) rfl ?_
 have e0:(envOf [.int .i64 (i:Int)] 0 env0).a.a.a=.int .i64 (i:Int):=rfl;generalize envOf [.int .i64 (i:Int)] 0 env0=R at e0;have h1:=quo10 i hi;have h2:=rem10 i hi;have d1:i / 10 < 10:=by omega
 have d2:i % 10 < 10:=by omega
 have a1:cA 48 ((i / 10:Nat):Int)=((48 + i / 10:Nat):Int):=bp 48 (i / 10) (by unfold natMax;omega)
 have a2:cA 48 ((i % 10:Nat):Int)=((48 + i % 10:Nat):Int):=bp 48 (i % 10) (by unfold natMax;omega)
 have c1:=cv35 _ d1;have c2:=cv35 _ d2;have b:=Uu (48 + i / 10) (48 + i % 10);have c:=cv239 _ _ d1 d2;have s:=fP true (a:=[116]) (b:=[48 + i / 10,48 + i % 10]) (by simp)
 simp only[z13,NS,Mx,SIM,ST0,e0,h1,h2,a1,a2,c1,c2,b,c,s,Nat.reduceAdd,Nat.reduceLeDiff];rfl
def txA:List Nat:=[110,111,100,101,32,102,40,120,58,32,105,110,116,41,32,114,101,116,117,114,110,115,32,40,121,58,32,105,110,116,41,32,108,101,116,32,121,32,61,32,120,32,43,32,121,59,32,116,101,108]
def txB:List Nat:=[110,111,100,101,32,102,40,120,58,32,105,110,116,41,32,114,101,116,117,114,110,115,32,40,121,58,32,105,110,116,41,32,108,101,116,32,121,32,61,32,48,32,45,62,32,112,114,101,32,121,32,43,32,120,59,32,116,101,108]
def ndA:NdR:=⟨[102],5,[kG [120] 7],[kG [121] 24],[],[⟨[([121],36)],false,.mk 6 42 0 [43] false [.mk 3 40 0 [120] false [],.mk 3 44 0 [121] false []]⟩]⟩
def ndB:NdR:=⟨[102],5,[kG [120] 7],[kG [121] 24],[],[⟨[([121],36)],false,.mk 8 42 0 [] false [.mk 1 40 0 [] false [],.mk 6 51 0 [43] false [.mk 10 45 0 [] false [.mk 3 49 0 [121] false []],.mk 3 53 0 [120] false []]]⟩]⟩
theorem pA:nM txA=some [ndA]:=by kernel_rfl
theorem pB:nM txB=some [ndB]:=by kernel_rfl
theorem fA:bB ndA=some (.agg [.int .i64 5,.int .i64 10]):=by kernel_rfl
theorem fB:bB ndB=some (.agg [.int .i64 0,.int .i64 0]):=by kernel_rfl
theorem fl1:ia (memoL memo1):=flM_of (by decide)
theorem Wx (H:Heap):orc CC (memoL memo1) 12 [] H=some (.ret (.bool true) H (aa H)):=by
 have hA:=fun H=>mU (M:=memoL memo1) (fun _=>rfl) fl1 (L:=[]) (by simp) (fun H=>jv (by kernel_rfl) pA H) fA H
 have hB:=fun H=>mU (M:=memoL memo1) (fun _=>rfl) fl1 (L:=[]) (by simp) (fun H=>jv (by kernel_rfl) pB H) fB H
 refine aL (z:=z12) rfl (by kernel_rfl) rfl ?_
 generalize envOf [] 0 env0=R;have b1:ar CC 27 [(0,.int .i64 5),(1,.int .i64 10)]=some (.agg [.int .i64 5,.int .i64 10]):=by kernel_rfl
 have b2:ar CC 27 []=some (.agg [.int .i64 0,.int .i64 0]):=by kernel_rfl
 have c1:bO CC .eql 27 false (.agg [.int .i64 5,.int .i64 10]) (.agg [.int .i64 5,.int .i64 10])=some (.bool true):=by kernel_rfl
 have c2:bO CC .eql 27 false (.agg [.int .i64 0,.int .i64 0]) (.agg [.int .i64 0,.int .i64 0])=some (.bool true):=by kernel_rfl
 unfold txA at hA;unfold txB at hB;simp only[z12,NG,OM,SIM,ST0,hA,hB,b1,b2,c1,c2,Nat.reduceAdd,Nat.reduceLeDiff]
end
end Ch
namespace Ch
theorem sl37:tV 37 1:=j9 (by kernel_rfl) (by decide) (fun f=>Dz f 37 rfl)
theorem eJ (i:Nat):(nm i).length=3:=rfl
theorem vars_len:∀ k,(vars k).length=10 * k
 | 0=>rfl
 | k + 1=>by simp only[vars,List.length_append,vars_len k,eJ,List.length_cons,List.length_nil];omega
theorem lastT_len:∀ la,la < 3→(gX la).length≤14
 | 0,_=>by decide
 | 1,_=>by decide
 | 2,_=>by decide
 | n + 3,h=>absurd h (by omega)
theorem o9 {n la i:Nat}(h:la < 3):(eP n la i).length≤14:=by
 unfold eP;cases Nat.beq (i + 1) n with
 | true=>exact lastT_len la h
 | false=>simp[eJ]
theorem xW {n la i:Nat}(h:la < 3):(y9 n la i).length≤26:=by
 have:=o9 (n:=n) (i:=i) h;simp only[y9,List.length_append,eJ,List.length_cons,List.length_nil];omega
theorem nV {n la r:Nat}(h:la < 3):∀ k,(f6 n la r k).length≤26 * k
 | 0=>Nat.le_refl _
 | k + 1=>by
   have h1:=nV (n:=n) (r:=r) h k;have h2:=xW (n:=n) (i:=(k + r) % n) h;simp only[f6,List.length_append];omega
theorem sM {n la r:Nat}:∀ k,f6 n la r k=f6 n la (r % n) k
 | 0=>rfl
 | k + 1=>by
   have h:(k + r % n) % n=(k + r) % n:=by rw[Nat.add_mod,Nat.mod_mod,← Nat.add_mod]
   show f6 n la r k ++ y9 n la ((k + r) % n)=f6 n la (r % n) k ++ y9 n la ((k + r % n) % n);rw[← sM k,h]
theorem EX (n la r:Nat):kA n la r=kA n la (r % n):=by unfold kA;rw[sM]
abbrev Uk (n la:Nat)(i:Nat):AV:=.str (y9 n la i)
def EqA (n la i:Nat)(V:AV)(Hc:Heap):Prop:=(i=0∧V=.sl 1 [] .lit∧Hc=[])∨(0 < i∧∃ g,V=.sl 1 ((List.range i).map (Uk n la)) (.live 0 g)∧Hc=[.lin g])
theorem VU (s:List Nat):aP CC 37 1 [(0,.str s)]=some (.sl 1 [.str s] .lit):=by kernel_rfl
theorem Kz (a b c:List Nat):aP CC 37 3 [(0,.str a),(1,.str b),(2,.str c)]=some (.sl 1 [.str a,.str b,.str c] .lit):=by kernel_rfl
theorem bsl37_0:aP CC 37 0 []=some (.sl 1 [] .lit):=by kernel_rfl
theorem EqA.app {n la i:Nat}{V:AV}{Hc:Heap}(h:EqA n la i V Hc)(hi:i < 1000):∃ V' H',(∀ e lin,aq CC 5 37 V (.sl 1 [.str (y9 n la i)] lin) ⟨Hc,e⟩=some (V',⟨H',e⟩))∧EqA n la (i + 1) V' H':=by
 rcases h with ⟨rfl,rfl,rfl⟩ | ⟨h0,g,rfl,rfl⟩
 ·exact ⟨_,_,fun e lin=>rQ sl37 5 lin (by simp) rfl (by simp),.inr ⟨by omega,0,rfl,rfl⟩⟩
 ·refine ⟨_,_,fun e lin=>iW sl37 5 lin (by simp) rfl (by simp;omega) rfl,.inr ⟨by omega,g + 1,?_,rfl⟩⟩
  rw[List.range_succ,List.map_append];rfl
theorem cc37:∃ e,CC.P.underlying 37=some (.slice e)∧e=9:=⟨_,by kernel_rfl,rfl⟩
theorem EqA.len {n la i:Nat}{V:AV}{Hc:Heap}(h:EqA n la i V Hc):bn CC 37 V=some (.int .i64 (i:Int)):=by
 obtain ⟨e,hu,_⟩:=cc37
 rcases h with ⟨rfl,rfl,rfl⟩ | ⟨h0,g,rfl,rfl⟩
 ·rw[cU hu];rfl
 ·rw[cU hu];simp
theorem EqA.ias {n la i j:Nat}{V:AV}{Hc:Heap}(h:EqA n la i V Hc)(hj:j < i):bb 1 V (.int .i64 (j:Int))=some (.iptr [.str (y9 n la j)]):=by
 rcases h with ⟨rfl,rfl,rfl⟩ | ⟨h0,g,rfl,rfl⟩
 ·omega
 ·refine cq (v:=Uk n la j) ?_;rw[az,List.getElem?_map,List.getElem?_range hj];rfl
theorem Az {la:Nat}(h:la < 3):bb 1 (.sl 1 [.str (nm 0),.str ([40,48,32,45,62,32,112,114,101,32] ++ nm 0 ++ [41]),.str [120]] .lit) (.int .i64 (la:Int))=some (.iptr [.str (gX la)]):=by
 match la,h with
 | 0,_=>exact cq (i:=0) (v:=.str (nm 0)) rfl
 | 1,_=>exact cq (i:=1) (v:=.str ([40,48,32,45,62,32,112,114,101,32] ++ nm 0 ++ [41])) rfl
 | 2,_=>exact cq (i:=2) (v:=.str [120]) rfl
theorem AH (a:AV)(s:St):dC CC 13 [a] s=some (.call 13 [a]):=by kernel_rfl
abbrev M1:Memo:=memoL memo1
def Xy (n la:Nat)(last turn:Int)(X:IRes):Prop:=∃ r' V Hd,X=some (.exit 0,r',[],⟨Hd,0⟩)∧EqA n la n V Hd∧(r'.a.a.a=.int .i64 (n:Int)∧r'.a.a.b=.int .i64 last∧r'.a.a.c=.int .i64 turn∧r'.a.a.h=.func (.func 13) [] []∧r'.a.b.a=.str (vars n)∧r'.a.b.b=V)
theorem zW {n m:Nat}{last turn:Int}(hn0:0 < n)(hn:n≤30)(hv:bO CC .and 3 true (.int .i64 last) (.int .i64 255)=some (.int .i64 (m:Int)))(hr:∀ (b:Bool) (m c:Nat),0 < c→c≤1000→bO CC .rem 3 b (.int .i64 (m:Int)) (.int .i64 (c:Int))=some (.int .i64 ((m % c:Nat):Int))):∀ (k i:Nat),k + i=n→∀ (fu:Nat),k < fu→∀ (Hc:Heap) (V:AV),EqA n (m % 3) i V Hc→∀ (r:RG),
  (r.a.a.a=.int .i64 (n:Int)∧r.a.a.b=.int .i64 last∧r.a.a.c=.int .i64 turn∧r.a.a.h=.func (.func 13) [] []∧r.a.b.a=.str (vars i)∧r.a.b.b=V)→(r.a.c.g=.int .i64 (n:Int)∧r.a.c.h=.int .i64 (i:Int)) →
  Xy n (m % 3) last turn (au (pz (orc CC M1)) fu r [] ⟨Hc,0⟩):=by
 intro k
 induction k with
 | zero =>
   intro i hi fu hfu Hc V hE r hr' ⟨h22,h23⟩;obtain ⟨fu',rfl⟩ : ∃ f,fu=f + 1:=⟨fu - 1,by omega⟩
   have:i=n:=by omega
   subst this;have hc:decide ((i:Int) < (i:Int))=false:=by simp
   simp only[au,pz,J0,SIM,ST0,ST1,h22,h23,hc];exact ⟨_,V,Hc,rfl,hE,by first | exact hr'⟩
 | succ k ih =>
   intro i hi fu hfu Hc V hE r ⟨h0,h1,h2,h7,h8,h9⟩ ⟨h22,h23⟩;obtain ⟨fu',rfl⟩ : ∃ f,fu=f + 1:=⟨fu - 1,by omega⟩
   have hc:decide ((i:Int) < (n:Int))=true:=by simp;omega
   have ha:cA (i:Int) 1=((i + 1:Nat):Int):=bp i 1 (by unfold natMax;omega)
   have hla:m % 3 < 3:=Nat.mod_lt _ (by omega)
   have hN1:=fun H=>iT (M:=M1) (fun _=>rfl) (i:=i) (by omega) H
   have hN2:=fun H=>iT (M:=M1) (fun _=>rfl) (i:=i + 1) (by omega) H
   have hN0:∀ H,orc CC M1 13 [.int .i64 0] H=some (.ret (.str (nm 0)) H (aa H)):=fun H=>iT (M:=M1) (fun _=>rfl) (i:=0) (by omega) H
   have hvl:=vars_len i;have s1:=fP true (a:=nm i) (b:=[58,32,105,110,116,59,32]) (by simp[eJ])
   have s2:=fP false (a:=vars i) (b:=nm i ++ [58,32,105,110,116,59,32]) (by simp[eJ,hvl];omega)
   have e2:vars i ++ (nm i ++ [58,32,105,110,116,59,32])=vars (i + 1):=rfl;rw[e2] at s2
   have hsub:eO (n:Int) 1=((n - 1:Nat):Int):=by
    obtain ⟨q,rfl⟩ : ∃ q,n=q + 1:=⟨n - 1,by omega⟩
    show eO (.ofNat (q + 1)) (.ofNat 1)=_;have h1:Nat.ble 1 (q + 1)=true:=by rw[dk];simp
    have h2:Nat.ble (q + 1) natMax=true:=by rw[dk,decide_eq_true_eq];unfold natMax;omega
    simp only[eO,h1,h2,Bool.and_self,cond_true];rfl
   obtain ⟨V',H',ap,hE'⟩:=hE.app (by omega)
   have hfl:=o9 (n:=n) (i:=i) hla;have s3:=fP true (a:=nm i) (b:=[32,61,32]) (by simp[eJ])
   have s4:=fP false (a:=nm i ++ [32,61,32]) (b:=eP n (m % 3) i) (by simp[eJ];omega)
   have s5:=fP true (a:=nm i ++ [32,61,32] ++ eP n (m % 3) i) (b:=[32,43,32,49,59,32]) (by simp[eJ];omega)
   have e5:nm i ++ [32,61,32] ++ eP n (m % 3) i ++ [32,43,32,49,59,32]=y9 n (m % 3) i:=rfl;rw[e5] at s5;have hb37:=VU (y9 n (m % 3) i);have key:=ih (i + 1) (by omega) fu' (by omega) H' V' hE'
   have hc13:=AH;cases hb:Nat.beq (i + 1) n with
   | false =>
     have hne:¬ i=n - 1:=fun h=>by rw[show i + 1=n by omega,Nat.beq_refl] at hb;cases hb
     have hcn:decide ((i:Int)=((n - 1:Nat):Int))=false:=by rw[decide_eq_false_iff_not];omega
     have hf:eP n (m % 3) i=nm (i + 1):=by unfold eP;rw[hb];rfl
     rw[hf] at s4 s5;simp only[au,pz,J0,Sf,HH,DQ,Aj,Cb,Hr,SIM,ST0,ST1,h0,h1,h7,h8,h9,h22,h23,hc,hc13,hN1,hN2,ha,s1,s2,hsub,hcn,Nat.zero_min,s3,s4,s5,hb37,ap,orVal,Nat.reduceAdd,Nat.reduceLeDiff];exact key _ ⟨by first | rfl | exact h0,by first | rfl | exact h1,by first | rfl | exact h2,by first | rfl | exact h7,rfl,rfl⟩ ⟨by first | rfl | exact h22,rfl⟩
   | true =>
     have hne:i=n - 1:=by have:=Nat.eq_of_beq_eq_true hb;omega
     have hcn:decide ((i:Int)=((n - 1:Nat):Int))=true:=by rw[decide_eq_true_eq];omega
     have hf:eP n (m % 3) i=gX (m % 3):=by unfold eP;rw[hb];rfl
     rw[hf] at s4 s5;have t1:=fP true (a:=[40,48,32,45,62,32,112,114,101,32]) (b:=nm 0) (by simp[eJ])
     have t2:=fP true (a:=[40,48,32,45,62,32,112,114,101,32] ++ nm 0) (b:=[41]) (by simp[eJ])
     have t3:=Kz (nm 0) ([40,48,32,45,62,32,112,114,101,32] ++ nm 0 ++ [41]) [120];have hr3:bO CC .rem 3 true (.int .i64 (m:Int)) (.int .i64 3)=some (.int .i64 ((m % 3:Nat):Int)):=hr true m 3 (by omega) (by omega)
     have hil:=Az hla;rw[List.append_assoc] at t3 hil;have hld:∀ (a:AV) (h:Heap),ax none (.iptr [a]) h=some a:=fun _ _=>rfl
     simp only[au,pz,J0,Sf,HH,DQ,Aj,On,Cb,Hr,SIM,ST0,ST1,h0,h1,h7,h8,h9,h22,h23,hc,hc13,hN1,hN2,hN0,ha,s1,s2,hsub,hcn,t1,t2,t3,hv,hr3,hil,hld,Nat.zero_min,s3,s4,s5,hb37,ap,orVal,Nat.reduceAdd,Nat.reduceLeDiff];exact key _ ⟨by first | rfl | exact h0,by first | rfl | exact h1,by first | rfl | exact h2,by first | rfl | exact h7,rfl,rfl⟩ ⟨by first | rfl | exact h22,rfl⟩
end Ch
namespace Ch
theorem vq (n:Int):∃ m:Nat,m≤255∧bO CC .and 3 true (.int .i64 n) (.int .i64 255)=some (.int .i64 (m:Int)):=by
 let m:=(BitVec.ofInt IntKind.i64.bits n &&& BitVec.ofInt IntKind.i64.bits 255).toNat
 have hm:m≤255:=by
  show (BitVec.ofInt IntKind.i64.bits n &&& BitVec.ofInt IntKind.i64.bits 255).toNat≤255;rw[BitVec.toNat_and];exact Nat.le_trans Nat.and_le_right (by decide)
 have hw:IntKind.wrap .i64 (m:Int)=(m:Int):=fj (by unfold natMax;omega)
 refine ⟨m,hm,?_⟩;show bM CC .and 3 (.int .i64 n) (.int .i64 255)=_;simp only[bM,gS,if_true];exact congrArg (fun x=>some (AV.int .i64 x)) hw
theorem xk (b:Bool)(m c:Nat)(hc:0 < c)(hm:c≤1000):bO CC .rem 3 b (.int .i64 (m:Int)) (.int .i64 (c:Int))=some (.int .i64 ((m % c:Nat):Int)):=by
 have h0:bM CC .rem 3 (.int .i64 (m:Int)) (.int .i64 (c:Int))=some (.int .i64 ((m % c:Nat):Int)):=by
  simp only[bM,gS,if_true];rw[if_neg (by omega)]
  rfl
 cases b
 ·exact h0
 ·exact h0
theorem oQ (n:Nat):(gi n).length=36 + 10 * n + 13:=by
 simp only[gi,List.length_append,vars_len,eJ,List.length_cons,List.length_nil]
def XH (n la t:Nat)(last:Int)(Hd:Heap)(X:IRes):Prop:=∃ r',X=some (.exit 2,r',[],⟨Hd,0⟩)∧(r'.a.a.b=.int .i64 last∧r'.a.b.e=.str (gi n ++ f6 n la t n))
theorem zh {n la t:Nat}{last turn:Int}(hn0:0 < n)(hn:n≤30)(hla:la < 3)(ht:t≤1000)(hv:bO CC .and 3 true (.int .i64 turn) (.int .i64 255)=some (.int .i64 (t:Int))){Hc:Heap}{V:AV}(hE:EqA n la n V Hc):∀ (k i:Nat),k + i=n→∀ (fu:Nat),k < fu→∀ (r:RG),
  (r.a.a.a=.int .i64 (n:Int)∧r.a.a.b=.int .i64 last∧r.a.a.c=.int .i64 turn∧r.a.b.b=V∧r.a.b.e=.str (gi n ++ f6 n la t i))→(r.b.a.h=.int .i64 (n:Int)∧r.b.b.a=.int .i64 (i:Int)) →
  XH n la t last Hc (au (sm (orc CC M1)) fu r [] ⟨Hc,0⟩):=by
 intro k
 induction k with
 | zero =>
   intro i hi fu hfu r ⟨h0,h1,h2,h9,h12⟩ ⟨h71,h72⟩;obtain ⟨fu',rfl⟩ : ∃ f,fu=f + 1:=⟨fu - 1,by omega⟩
   have:i=n:=by omega
   subst this;have hc:decide ((i:Int) < (i:Int))=false:=by simp
   simp only[au,sm,EB,SIM,ST0,ST1,ST2,ST3,h71,h72,hc];exact ⟨_,rfl,by first | exact h1,by first | exact h12⟩
 | succ k ih =>
   intro i hi fu hfu r ⟨h0,h1,h2,h9,h12⟩ ⟨h71,h72⟩;obtain ⟨fu',rfl⟩ : ∃ f,fu=f + 1:=⟨fu - 1,by omega⟩
   have hc:decide ((i:Int) < (n:Int))=true:=by simp;omega
   have ha:cA (i:Int) 1=((i + 1:Nat):Int):=bp i 1 (by unfold natMax;omega)
   have hat:cA (i:Int) (t:Int)=((i + t:Nat):Int):=bp i t (by unfold natMax;omega)
   have hrm:=xk false (i + t) n hn0 (by omega)
   have hias:=hE.ias (j:=(i + t) % n) (Nat.mod_lt _ hn0);have hld:∀ (a:AV) (h:Heap),ax none (.iptr [a]) h=some a:=fun _ _=>rfl
   have hl1:=oQ n;have hl2:=nV (n:=n) (r:=t) hla i;have hl3:=xW (n:=n) (i:=(i + t) % n) hla;have s1:=fP false (a:=gi n ++ f6 n la t i) (b:=y9 n la ((i + t) % n)) (by rw[List.length_append];omega)
   have e1:gi n ++ f6 n la t i ++ y9 n la ((i + t) % n)=gi n ++ f6 n la t (i + 1):=by rw[List.append_assoc];rfl
   rw[e1] at s1;have key:=ih (i + 1) (by omega) fu' (by omega)
   simp only[au,sm,EB,M6,LJ,M3,SIM,ST0,ST1,ST2,ST3,h0,h2,h9,h12,h71,h72,hc,hv,hat,hrm,hias,hld,s1,ha,Nat.reduceAdd,Nat.reduceLeDiff];exact key _ ⟨by first | rfl | exact h0,by first | rfl | exact h1,by first | rfl | exact h2,by first | rfl | exact h9,rfl⟩ ⟨by first | rfl | exact h71,rfl⟩
theorem Wv (rec:RecT):z5.sh rec=ac (ac (JM rec) (ac (ac (I8 rec) (aA (.t 16) (ac (QC rec) retZ) skipZ)) (ac (Li rec) (ac (JG rec) (ac (Lg rec) (ac (Ku rec) (IS rec))))))) (ac (aS 0 (aY (pz rec))) (ac (ac (yV rec) (wL rec)) (ac (aS 2 (aY (sm rec))) (ac (tj rec) (ac (ac (tX rec) (aA (.t 93) (ac (xw rec) retZ) skipZ)) (ac (yo rec) retZ)))))):=by
 simp only[z5,ff]
theorem pm0:ce (memoL memo1):=parM_of (by decide)
theorem law5_all (a b c:Int):orc CC M1 5 [.int .i64 a,.int .i64 b,.int .i64 c] []=some (.ret (.bool true) [] 0):=by
 obtain ⟨m0,_,hv0⟩:=vq a;obtain ⟨m,_,hv1⟩:=vq b;obtain ⟨t,ht,hv2⟩:=vq c;have hn0:0 < m0 % 30 + 1:=by omega
 have hn:m0 % 30 + 1≤30:=by omega
 have hla:m % 3 < 3:=Nat.mod_lt _ (by omega)
 have r30:bO CC .rem 3 true (.int .i64 (m0:Int)) (.int .i64 30)=some (.int .i64 ((m0 % 30:Nat):Int)):=xk true m0 30 (by omega) (by omega)
 have rm3:bO CC .rem 3 true (.int .i64 (m:Int)) (.int .i64 3)=some (.int .i64 ((m % 3:Nat):Int)):=xk true m 3 (by omega) (by omega)
 have ad:cA 1 ((m0 % 30:Nat):Int)=((m0 % 30 + 1:Nat):Int):=by
  rw[show (1:Int)=((1:Nat):Int) from rfl,bp 1 (m0 % 30) (by unfold natMax;omega),Nat.add_comm]
 generalize m0 % 30 + 1=n at ad hn0 hn;have e0:(envOf [AV.int .i64 a,.int .i64 b,.int .i64 c] 0 env0).a.a.a=.int .i64 a:=rfl;have e1:(envOf [AV.int .i64 a,.int .i64 b,.int .i64 c] 0 env0).a.a.b=.int .i64 b:=rfl;have e2:(envOf [AV.int .i64 a,.int .i64 b,.int .i64 c] 0 env0).a.a.c=.int .i64 c:=rfl;have hl0:aa ([]:Heap)=0:=rfl
 obtain ⟨r0,hr0,hk0,s0⟩ : ∃ r,(r.a.a.a=.int .i64 (n:Int)∧r.a.a.b=.int .i64 b∧r.a.a.c=.int .i64 c∧r.a.a.h=.func (.func 13) [] []∧r.a.b.a=.str (vars 0)∧r.a.b.b=.sl 1 [] .lit)∧(r.a.c.g=.int .i64 (n:Int)∧r.a.c.h=.int .i64 ((0:Nat):Int)) ∧
   ac (JM (orc CC M1)) (ac (ac (I8 (orc CC M1)) (aA (.t 16) (ac (QC (orc CC M1)) retZ) skipZ)) (ac (Li (orc CC M1)) (ac (JG (orc CC M1)) (ac (Lg (orc CC M1)) (ac (Ku (orc CC M1)) (IS (orc CC M1))))))) (envOf [AV.int .i64 a,.int .i64 b,.int .i64 c] 0 env0) [] ⟨[],0⟩=some (.normal,r,[],⟨[],0⟩):=by
  generalize envOf [AV.int .i64 a,.int .i64 b,.int .i64 c] 0 env0=R at e0 e1 e2;have haw:orc CC M1 12 [] []=some (.ret (.bool true) [] 0):=Wx [];simp only[JM,I8,Li,JG,Lg,Ku,IS,SIM,ST0,ST1,ST2,ST3,e0,e1,e2,haw,hv0,r30,ad,bsl37_0,Nat.zero_min,Nat.reduceAdd,Nat.reduceLeDiff];exact ⟨_,⟨rfl,by first | rfl | exact e1,by first | rfl | exact e2,rfl,rfl,rfl⟩,⟨rfl,rfl⟩,rfl⟩
 obtain ⟨r1,V,Hd,s1,hE,h10,h11,h12,h17,h18,h19⟩:=zW (last:=b) (turn:=c) hn0 hn hv1 xk n 0 rfl 100000 (by omega) [] _ (.inl ⟨rfl,rfl,rfl⟩) r0 hr0 hk0
 have hN0:∀ H,orc CC M1 13 [.int .i64 0] H=some (.ret (.str (nm 0)) H (aa H)):=fun H=>iT (M:=M1) (fun _=>rfl) (i:=0) (by omega) H
 have hvl:=vars_len n
 obtain ⟨r2,hr2,hk2,s2⟩ : ∃ r,(r.a.a.a=.int .i64 (n:Int)∧r.a.a.b=.int .i64 b∧r.a.a.c=.int .i64 c∧r.a.b.b=V∧r.a.b.e=.str (gi n ++ f6 n (m % 3) t 0))∧(r.b.a.h=.int .i64 (n:Int)∧r.b.b.a=.int .i64 ((0:Nat):Int)) ∧
   ac (yV (orc CC M1)) (wL (orc CC M1)) r1 [] ⟨Hd,0⟩=some (.normal,r,[],⟨Hd,0⟩):=by
  have t1:=fP true (a:=[110,111,100,101,32,102,40,120,58,32,105,110,116,41,32,114,101,116,117,114,110,115,32,40,121,58,32,105,110,116,41,32,118,97,114,32]) (b:=vars n) (by simp[hvl];omega)
  have t2:=fP true (a:=[110,111,100,101,32,102,40,120,58,32,105,110,116,41,32,114,101,116,117,114,110,115,32,40,121,58,32,105,110,116,41,32,118,97,114,32] ++ vars n) (b:=[108,101,116,32,121,32,61,32]) (by simp[hvl];omega)
  have t3:=fP false (a:=[110,111,100,101,32,102,40,120,58,32,105,110,116,41,32,114,101,116,117,114,110,115,32,40,121,58,32,105,110,116,41,32,118,97,114,32] ++ vars n ++ [108,101,116,32,121,32,61,32]) (b:=nm 0) (by simp[hvl,eJ];omega)
  have t4:=fP true (a:=[110,111,100,101,32,102,40,120,58,32,105,110,116,41,32,114,101,116,117,114,110,115,32,40,121,58,32,105,110,116,41,32,118,97,114,32] ++ vars n ++ [108,101,116,32,121,32,61,32] ++ nm 0) (b:=[59,32]) (by simp[hvl,eJ];omega)
  have e4:[110,111,100,101,32,102,40,120,58,32,105,110,116,41,32,114,101,116,117,114,110,115,32,40,121,58,32,105,110,116,41,32,118,97,114,32] ++ vars n ++ [108,101,116,32,121,32,61,32] ++ nm 0 ++ [59,32]=gi n:=rfl;rw[e4] at t4;have hln:=hE.len;have hc13:=AH;generalize [110,111,100,101,32,102,40,120,58,32,105,110,116,41,32,114,101,116,117,114,110,115,32,40,121,58,32,105,110,116,41,32,118,97,114,32] ++ vars n ++ [108,101,116,32,121,32,61,32] ++ nm 0=S3 at t3 t4;generalize [110,111,100,101,32,102,40,120,58,32,105,110,116,41,32,114,101,116,117,114,110,115,32,40,121,58,32,105,110,116,41,32,118,97,114,32] ++ vars n ++ [108,101,116,32,121,32,61,32]=S2 at t2 t3;generalize [110,111,100,101,32,102,40,120,58,32,105,110,116,41,32,114,101,116,117,114,110,115,32,40,121,58,32,105,110,116,41,32,118,97,114,32] ++ vars n=S1 at t1 t2;simp only[yV,wL,SIM,ST0,ST1,ST2,ST3,h17,h18,h19,t1,t2,t3,t4,hc13,hN0,hln,Nat.zero_min,Nat.reduceAdd,Nat.reduceLeDiff];exact ⟨_,⟨by first | rfl | exact h10,by first | rfl | exact h11,by first | rfl | exact h12,by first | rfl | exact h19,by rw[show f6 n (m % 3) t 0=[] from rfl,List.append_nil]⟩,⟨rfl,rfl⟩,rfl⟩
 obtain ⟨r3,s3,h31,h312⟩:=zh hn0 hn hla (by omega) hv2 hE n 0 rfl 100000 (by omega) r2 hr2 hk2
 obtain ⟨G0,G,p,q,hP⟩:=BQ pm0 (r:=t % n) hn0 hn hla
 have hS:∀ H,orc CC M1 14 [.str (kA n (m % 3) t)] H=some (.ret (want (m % 3)) H (aa H)):=fun H=>by
  rw[EX];exact mU (M:=M1) (fun _=>rfl) fl1 (L:=[]) (by simp) hP (WF G0 G p q n hn0 hn _ hla _ (Nat.mod_lt _ hn0)) H
 have hl1:=oQ n;have hl2:=nV (n:=n) (r:=t) hla n;have t5:=fP true (a:=gi n ++ f6 n (m % 3) t n) (b:=[116,101,108]) (by rw[List.length_append,List.length_cons,List.length_cons,List.length_cons,List.length_nil];omega)
 have e5:gi n ++ f6 n (m % 3) t n ++ [116,101,108]=kA n (m % 3) t:=rfl;rw[e5] at t5;have b0:∀ (i:Nat) (b:CZ) (r:RG) (s:St),aS i (aY b) r [] s=du i (au b 100000 r [] s):=fun _ _ _ _=>rfl
 refine aL (z:=z5) rfl (by kernel_rfl) rfl ?_
 have hz:z5.sh (orc CC M1) (envOf [AV.int .i64 a,.int .i64 b,.int .i64 c] 0 env0) [] ⟨[],aa ([]:Heap)⟩=ac (tj (orc CC M1)) (ac (ac (tX (orc CC M1)) (aA (.t 93) (ac (xw (orc CC M1)) retZ) skipZ)) (ac (yo (orc CC M1)) retZ)) r3 [] ⟨Hd,0⟩:=by
  rw[Wv,hl0,bK,s0,bJ,bK,b0,s1,dJ,bJ,bK,s2,bJ,bK,b0,s3,dJ,bJ]
 rw[hz];have b1:ar CC 27 [(0,.int .i64 5),(1,.int .i64 10)]=some (.agg [.int .i64 5,.int .i64 10]):=by kernel_rfl
 have b2:ar CC 27 []=some (.agg [.int .i64 0,.int .i64 0]):=by kernel_rfl
 have c1:bO CC .eql 27 false (.agg [.int .i64 5,.int .i64 10]) (.agg [.int .i64 5,.int .i64 10])=some (.bool true):=by kernel_rfl
 have c2:bO CC .eql 27 false (.agg [.int .i64 0,.int .i64 0]) (.agg [.int .i64 0,.int .i64 0])=some (.bool true):=by kernel_rfl
 have hgc:=fun hp=>iw (k:=CC.keep 5) (b:=0) (v:=.bool true) (hp:=hp) rfl
 have htk:∀ hp:Heap,bG 0 hp=[]:=fun hp=>by rw[dB];rfl
 have hgo:∀ o,ae (Hd ++ [o]) (aa Hd)=some o:=fun o=>by rw[aD];rfl
 have hso:∀ o o',aj (Hd ++ [o]) (aa Hd) o'=Hd ++ [o']:=fun o o'=>by rw[dq];rfl
 cases hz3:Nat.beq (m % 3) 0 with
 | true =>
   have hcn:decide (((m % 3:Nat):Int)=0)=true:=by
    have:decide (((m % 3:Nat):Int)=0)=Nat.beq (m % 3) 0:=n9 (m % 3) 0;rw[this,hz3]
   have hw:want (m % 3)=.agg [.int .i64 5,.int .i64 10]:=by unfold want;rw[hz3];rfl
   rw[hw] at hS;simp only[tj,tX,xw,z5,SIM,ST0,ST1,ST2,ST3,h31,h312,t5,hS,hv1,rm3,hcn,hgo,hso,b1,c1,hgc,htk,Nat.zero_min,Nat.reduceAdd,Nat.reduceLeDiff]
 | false =>
   have hcn:decide (((m % 3:Nat):Int)=0)=false:=by
    have:decide (((m % 3:Nat):Int)=0)=Nat.beq (m % 3) 0:=n9 (m % 3) 0;rw[this,hz3]
   have hw:want (m % 3)=.agg [.int .i64 0,.int .i64 0]:=by unfold want;rw[hz3];rfl
   rw[hw] at hS;simp only[tj,tX,yo,z5,SIM,ST0,ST1,ST2,ST3,h31,h312,t5,hS,hv1,rm3,hcn,hgo,hso,b2,c2,hgc,htk,Nat.zero_min,Nat.reduceAdd,Nat.reduceLeDiff]
end Ch
end Go.Proofs
