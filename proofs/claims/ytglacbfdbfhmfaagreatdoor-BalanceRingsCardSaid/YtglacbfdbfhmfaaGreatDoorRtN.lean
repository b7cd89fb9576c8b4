/- the nodes of the texts, by runs of the reader. Part of the proof of girandolelaw13.BalanceRings. -/
import Derived.Test.YtglacbfdbfhmfaaGreatDoorRt
set_option linter.unusedVariables false
set_option linter.unusedSimpArgs false
set_option maxRecDepth 1000000
namespace Go.Proofs
open Go Go.Abs
namespace Rg
theorem Yn (ks:Nat->Nat):F29 (TS 1 ks) xF [] oF ((List.range 1).map vD) 4 10 (11+5*1):=⟨by kernel_rfl,by kernel_rfl,by kernel_rfl,by kernel_rfl,by kernel_rfl,by kernel_rfl,by kernel_rfl⟩
theorem YR (ks:Nat->Nat):∀ i,i<2->BX (TS 1 ks) (de 1 ks) xF (qF 1 ks) (zl 1) i
 | 0,_=>⟨by kernel_rfl,by kernel_rfl⟩
 | 1,_=>⟨by kernel_rfl,by kernel_rfl⟩
 | i+2,h=>absurd h (by omega)
theorem YO (ks:Nat->Nat):xf (TS 1 ks) (gs (35*1+44)) [de 1 ks] 0 (17+13*1) (127+13*1):=cw 53 (by kernel_rfl) (by kernel_rfl) (cw 80 (by kernel_rfl) (by kernel_rfl) (cw 109 (by kernel_rfl) (by kernel_rfl) (cw 140 (by kernel_rfl) (by kernel_rfl) ⟨rfl,by kernel_rfl⟩)))
theorem Rn (ks:Nat->Nat)(hk:∀ i,ks i<4):Pk (dZ 1 ks) (bZ 1 ks):=eL (by decide) (by decide) hk ⟨Yn ks,YR ks,by kernel_rfl,by kernel_rfl,YO ks,by kernel_rfl,by kernel_rfl,by kernel_rfl⟩
theorem Zd (ks:Nat->Nat):F29 (TS 2 ks) xF [] oF ((List.range 2).map vD) 4 10 (11+5*2):=⟨by kernel_rfl,by kernel_rfl,by kernel_rfl,by kernel_rfl,by kernel_rfl,by kernel_rfl,by kernel_rfl⟩
theorem YE (ks:Nat->Nat):∀ i,i<3->BX (TS 2 ks) (de 2 ks) xF (qF 2 ks) (zl 2) i
 | 0,_=>⟨by kernel_rfl,by kernel_rfl⟩
 | 1,_=>⟨by kernel_rfl,by kernel_rfl⟩
 | 2,_=>⟨by kernel_rfl,by kernel_rfl⟩
 | i+3,h=>absurd h (by omega)
theorem YV (ks:Nat->Nat):xf (TS 2 ks) (gs (35*2+44)) [de 2 ks] 0 (17+13*2) (127+13*2):=cw 66 (by kernel_rfl) (by kernel_rfl) (cw 93 (by kernel_rfl) (by kernel_rfl) (cw 122 (by kernel_rfl) (by kernel_rfl) (cw 153 (by kernel_rfl) (by kernel_rfl) ⟨rfl,by kernel_rfl⟩)))
theorem Tp (ks:Nat->Nat)(hk:∀ i,ks i<4):Pk (dZ 2 ks) (bZ 2 ks):=eL (by decide) (by decide) hk ⟨Zd ks,YE ks,by kernel_rfl,by kernel_rfl,YV ks,by kernel_rfl,by kernel_rfl,by kernel_rfl⟩
theorem YU (ks:Nat->Nat):F29 (TS 3 ks) xF [] oF ((List.range 3).map vD) 4 10 (11+5*3):=⟨by kernel_rfl,by kernel_rfl,by kernel_rfl,by kernel_rfl,by kernel_rfl,by kernel_rfl,by kernel_rfl⟩
theorem YI (ks:Nat->Nat):∀ i,i<4->BX (TS 3 ks) (de 3 ks) xF (qF 3 ks) (zl 3) i
 | 0,_=>⟨by kernel_rfl,by kernel_rfl⟩
 | 1,_=>⟨by kernel_rfl,by kernel_rfl⟩
 | 2,_=>⟨by kernel_rfl,by kernel_rfl⟩
 | 3,_=>⟨by kernel_rfl,by kernel_rfl⟩
 | i+4,h=>absurd h (by omega)
theorem Yt (ks:Nat->Nat):xf (TS 3 ks) (gs (35*3+44)) [de 3 ks] 0 (17+13*3) (127+13*3):=cw 79 (by kernel_rfl) (by kernel_rfl) (cw 106 (by kernel_rfl) (by kernel_rfl) (cw 135 (by kernel_rfl) (by kernel_rfl) (cw 166 (by kernel_rfl) (by kernel_rfl) ⟨rfl,by kernel_rfl⟩)))
theorem Ss (ks:Nat->Nat)(hk:∀ i,ks i<4):Pk (dZ 3 ks) (bZ 3 ks):=eL (by decide) (by decide) hk ⟨YU ks,YI ks,by kernel_rfl,by kernel_rfl,Yt ks,by kernel_rfl,by kernel_rfl,by kernel_rfl⟩
theorem Yv (ks:Nat->Nat):F29 (TS 4 ks) xF [] oF ((List.range 4).map vD) 4 10 (11+5*4):=⟨by kernel_rfl,by kernel_rfl,by kernel_rfl,by kernel_rfl,by kernel_rfl,by kernel_rfl,by kernel_rfl⟩
theorem YX (ks:Nat->Nat):∀ i,i<5->BX (TS 4 ks) (de 4 ks) xF (qF 4 ks) (zl 4) i
 | 0,_=>⟨by kernel_rfl,by kernel_rfl⟩
 | 1,_=>⟨by kernel_rfl,by kernel_rfl⟩
 | 2,_=>⟨by kernel_rfl,by kernel_rfl⟩
 | 3,_=>⟨by kernel_rfl,by kernel_rfl⟩
 | 4,_=>⟨by kernel_rfl,by kernel_rfl⟩
 | i+5,h=>absurd h (by omega)
theorem Y0 (ks:Nat->Nat):xf (TS 4 ks) (gs (35*4+44)) [de 4 ks] 0 (17+13*4) (127+13*4):=cw 92 (by kernel_rfl) (by kernel_rfl) (cw 119 (by kernel_rfl) (by kernel_rfl) (cw 148 (by kernel_rfl) (by kernel_rfl) (cw 179 (by kernel_rfl) (by kernel_rfl) ⟨rfl,by kernel_rfl⟩)))
theorem Po (ks:Nat->Nat)(hk:∀ i,ks i<4):Pk (dZ 4 ks) (bZ 4 ks):=eL (by decide) (by decide) hk ⟨Yv ks,YX ks,by kernel_rfl,by kernel_rfl,Y0 ks,by kernel_rfl,by kernel_rfl,by kernel_rfl⟩
end Rg
namespace Rg
theorem Zf (ks:Nat->Nat):F29 (TS 5 ks) xF [] oF ((List.range 5).map vD) 4 10 (11+5*5):=⟨by kernel_rfl,by kernel_rfl,by kernel_rfl,by kernel_rfl,by kernel_rfl,by kernel_rfl,by kernel_rfl⟩
theorem Ys (ks:Nat->Nat):∀ i,i<6->BX (TS 5 ks) (de 5 ks) xF (qF 5 ks) (zl 5) i
 | 0,_=>⟨by kernel_rfl,by kernel_rfl⟩
 | 1,_=>⟨by kernel_rfl,by kernel_rfl⟩
 | 2,_=>⟨by kernel_rfl,by kernel_rfl⟩
 | 3,_=>⟨by kernel_rfl,by kernel_rfl⟩
 | 4,_=>⟨by kernel_rfl,by kernel_rfl⟩
 | 5,_=>⟨by kernel_rfl,by kernel_rfl⟩
 | i+6,h=>absurd h (by omega)
theorem Yx (ks:Nat->Nat):xf (TS 5 ks) (gs (35*5+44)) [de 5 ks] 0 (17+13*5) (127+13*5):=cw 105 (by kernel_rfl) (by kernel_rfl) (cw 132 (by kernel_rfl) (by kernel_rfl) (cw 161 (by kernel_rfl) (by kernel_rfl) (cw 192 (by kernel_rfl) (by kernel_rfl) ⟨rfl,by kernel_rfl⟩)))
theorem Ri (ks:Nat->Nat)(hk:∀ i,ks i<4):Pk (dZ 5 ks) (bZ 5 ks):=eL (by decide) (by decide) hk ⟨Zf ks,Ys ks,by kernel_rfl,by kernel_rfl,Yx ks,by kernel_rfl,by kernel_rfl,by kernel_rfl⟩
theorem Yu (ks:Nat->Nat):F29 (TS 6 ks) xF [] oF ((List.range 6).map vD) 4 10 (11+5*6):=⟨by kernel_rfl,by kernel_rfl,by kernel_rfl,by kernel_rfl,by kernel_rfl,by kernel_rfl,by kernel_rfl⟩
theorem YJ (ks:Nat->Nat):∀ i,i<7->BX (TS 6 ks) (de 6 ks) xF (qF 6 ks) (zl 6) i
 | 0,_=>⟨by kernel_rfl,by kernel_rfl⟩
 | 1,_=>⟨by kernel_rfl,by kernel_rfl⟩
 | 2,_=>⟨by kernel_rfl,by kernel_rfl⟩
 | 3,_=>⟨by kernel_rfl,by kernel_rfl⟩
 | 4,_=>⟨by kernel_rfl,by kernel_rfl⟩
 | 5,_=>⟨by kernel_rfl,by kernel_rfl⟩
 | 6,_=>⟨by kernel_rfl,by kernel_rfl⟩
 | i+7,h=>absurd h (by omega)
theorem Zc (ks:Nat->Nat):xf (TS 6 ks) (gs (35*6+44)) [de 6 ks] 0 (17+13*6) (127+13*6):=cw 118 (by kernel_rfl) (by kernel_rfl) (cw 145 (by kernel_rfl) (by kernel_rfl) (cw 174 (by kernel_rfl) (by kernel_rfl) (cw 205 (by kernel_rfl) (by kernel_rfl) ⟨rfl,by kernel_rfl⟩)))
theorem Sj (ks:Nat->Nat)(hk:∀ i,ks i<4):Pk (dZ 6 ks) (bZ 6 ks):=eL (by decide) (by decide) hk ⟨Yu ks,YJ ks,by kernel_rfl,by kernel_rfl,Zc ks,by kernel_rfl,by kernel_rfl,by kernel_rfl⟩
end Rg
namespace Rg
theorem YD (ks:Nat->Nat):F29 (TS 7 ks) xF [] oF ((List.range 7).map vD) 4 10 (11+5*7):=⟨by kernel_rfl,by kernel_rfl,by kernel_rfl,by kernel_rfl,by kernel_rfl,by kernel_rfl,by kernel_rfl⟩
theorem Zb (ks:Nat->Nat):∀ i,i<8->BX (TS 7 ks) (de 7 ks) xF (qF 7 ks) (zl 7) i
 | 0,_=>⟨by kernel_rfl,by kernel_rfl⟩
 | 1,_=>⟨by kernel_rfl,by kernel_rfl⟩
 | 2,_=>⟨by kernel_rfl,by kernel_rfl⟩
 | 3,_=>⟨by kernel_rfl,by kernel_rfl⟩
 | 4,_=>⟨by kernel_rfl,by kernel_rfl⟩
 | 5,_=>⟨by kernel_rfl,by kernel_rfl⟩
 | 6,_=>⟨by kernel_rfl,by kernel_rfl⟩
 | 7,_=>⟨by kernel_rfl,by kernel_rfl⟩
 | i+8,h=>absurd h (by omega)
theorem Yr (ks:Nat->Nat):xf (TS 7 ks) (gs (35*7+44)) [de 7 ks] 0 (17+13*7) (127+13*7):=cw 131 (by kernel_rfl) (by kernel_rfl) (cw 158 (by kernel_rfl) (by kernel_rfl) (cw 187 (by kernel_rfl) (by kernel_rfl) (cw 218 (by kernel_rfl) (by kernel_rfl) ⟨rfl,by kernel_rfl⟩)))
theorem QL (ks:Nat->Nat)(hk:∀ i,ks i<4):Pk (dZ 7 ks) (bZ 7 ks):=eL (by decide) (by decide) hk ⟨YD ks,Zb ks,by kernel_rfl,by kernel_rfl,Yr ks,by kernel_rfl,by kernel_rfl,by kernel_rfl⟩
end Rg
namespace Rg
theorem YC (ks:Nat->Nat):F29 (TS 8 ks) xF [] oF ((List.range 8).map vD) 4 10 (11+5*8):=⟨by kernel_rfl,by kernel_rfl,by kernel_rfl,by kernel_rfl,by kernel_rfl,by kernel_rfl,by kernel_rfl⟩
theorem YG (ks:Nat->Nat):∀ i,i<9->BX (TS 8 ks) (de 8 ks) xF (qF 8 ks) (zl 8) i
 | 0,_=>⟨by kernel_rfl,by kernel_rfl⟩
 | 1,_=>⟨by kernel_rfl,by kernel_rfl⟩
 | 2,_=>⟨by kernel_rfl,by kernel_rfl⟩
 | 3,_=>⟨by kernel_rfl,by kernel_rfl⟩
 | 4,_=>⟨by kernel_rfl,by kernel_rfl⟩
 | 5,_=>⟨by kernel_rfl,by kernel_rfl⟩
 | 6,_=>⟨by kernel_rfl,by kernel_rfl⟩
 | 7,_=>⟨by kernel_rfl,by kernel_rfl⟩
 | 8,_=>⟨by kernel_rfl,by kernel_rfl⟩
 | i+9,h=>absurd h (by omega)
theorem Yw (ks:Nat->Nat):xf (TS 8 ks) (gs (35*8+44)) [de 8 ks] 0 (17+13*8) (127+13*8):=cw 144 (by kernel_rfl) (by kernel_rfl) (cw 171 (by kernel_rfl) (by kernel_rfl) (cw 200 (by kernel_rfl) (by kernel_rfl) (cw 231 (by kernel_rfl) (by kernel_rfl) ⟨rfl,by kernel_rfl⟩)))
theorem QN (ks:Nat->Nat)(hk:∀ i,ks i<4):Pk (dZ 8 ks) (bZ 8 ks):=eL (by decide) (by decide) hk ⟨YC ks,YG ks,by kernel_rfl,by kernel_rfl,Yw ks,by kernel_rfl,by kernel_rfl,by kernel_rfl⟩
end Rg
end Go.Proofs
