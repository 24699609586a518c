/- The code of more functions that the law reaches. -/
import Derived.Test.YtgdbpnpolelfoaaGreatDoorCodeC
set_option linter.all false
namespace Go.AJ
open Go
noncomputable section
def aV:Aa:=.reg [Yb 5 0,Yb 6 1,Yu 10]
def aU:Aa:=Sq [Ws 31 (.call 6 []),Yv 32 31] (Cf 32 10)
def aS:Aa:=Sq [Wd 33 5 3,Yk 34 7 33,Yv 35 34,Wm 36 35,Wg 37 36 false (.loadN (Xv 6) 3),Wg 38 36 false (.call 7 [(Xv 37)]),Wg 39 36 false (.not (Xv 38)),Yp 40 36 39,Wm 41 40,Yn 42 41 3,Wg 43 41 false (.len .sl (Xv 42)),Wg 44 41 false (.ibin .gtr (Xv 43) (Xn 400)),Yp 45 41 44,Wm 46 45,Yn 47 46 4,Wg 48 46 false (.len .sl (Xv 47)),Wg 49 46 false (.ibin .gtr (Xv 48) (Xn 400)),Yp 50 46 49] (.cond (Xv 50) (Sq [Ws 10 (.mv Xt)] .ret) .skip)
def aR:Aa:=.reg [Wd 52 5 3,Yk 53 8 52,Wm 51 53,Yw 54 51 0,Yw 55 51 1,Wm 11 54,Wm 12 55]
def aQ:Aa:=.reg [Wd 57 5 3,Yk 58 9 57,Wm 56 58,Yw 59 56 0,Yw 60 56 1,Wm 13 59,Wm 14 60]
def aP:Aa:=.reg [Wd 62 5 3,Wm 63 2,Yh 64 10 62 63,Wm 61 64,Yw 65 61 0,Yw 66 61 1,Wm 15 65,Wm 16 66]
def aO:Aa:=.reg [Wd 68 5 3,Wm 69 2,Yh 70 11 68 69,Wm 67 70,Yw 71 67 0,Yw 72 67 1,Wm 17 71,Wm 18 72]
def aN:Aa:=.reg [Wd 74 5 3,Wm 75 2,Yh 76 12 74 75,Wm 73 76,Yw 77 73 0,Yw 78 73 1,Wm 19 77,Wm 20 78]
def aM:Aa:=.reg [Wd 80 5 3,Wm 81 2,Yh 82 13 80 81,Wm 79 82,Yw 83 79 0,Yw 84 79 1,Wm 21 83,Wm 22 84]
def aL:Aa:=.reg [Wd 86 5 3,Wm 87 2,Yh 88 14 86 87,Wm 85 88,Yw 89 85 0,Yw 90 85 1,Wm 23 89,Wm 24 90]
def PX:Aa:=.reg [Wd 92 5 3,Wm 93 2,Yh 94 15 92 93,Wm 91 94,Yw 95 91 0,Yw 96 91 1,Wm 25 95,Wm 26 96]
def PW:Aa:=.reg [Wd 98 5 3,Wm 99 3,Wm 100 4,Ws 101 (.call 16 [(Xv 98),(Xv 99),(Xv 100)]),Wm 97 101,Yw 102 97 0,Yw 103 97 1,Wm 27 102,Wm 28 103]
def PV:Aa:=.reg [Wd 105 5 3,Wm 106 3,Wm 107 4,Ws 108 (.call 17 [(Xv 105),(Xv 106),(Xv 107)]),Wm 104 108,Yw 109 104 0,Yw 110 104 1,Wm 29 109,Wm 30 110]
def Kl:Aa:=.draw [(Wz [Wd 111 5 3,Wd 113 5 3] (some (Yk 112 18 111))),⟨[],[Wd 113 5 3],some (Yk 114 19 113)⟩,(Wz [Ws 115 (.ibin .eql (Xv 112) (Xv 114)),Wm 116 115,Wg 117 116 true (.loadN (Xv 5) 3),Wg 118 116 true (.loadN (Xv 6) 3),Wg 120 116 true (.loadN (Xv 5) 3),Wg 121 116 true (.loadN (Xv 6) 3)] (some (Wg 119 116 true (.call 20 [(Xv 117),(Xv 118)])))),⟨[],[Wg 120 116 true (.loadN (Xv 5) 3),Wg 121 116 true (.loadN (Xv 6) 3)],some (Wg 122 116 true (.call 21 [(Xv 120),(Xv 121)]))⟩,(Wz [Wg 123 116 true (.eqv false .bool (Xv 119) (Xv 122)),Yq 124 116 123,Wm 125 124,Ym 126 125 11,Ym 127 125 13] (some (Wg 128 125 true (.call 22 [(Xv 126),(Xv 127)])))),(Wz [Yq 129 125 128,Wm 130 129,Ym 131 130 12,Ym 132 130 14,Wg 133 130 true (.ibin .eql (Xv 131) (Xv 132)),Yq 134 130 133,Wm 135 134,Ym 136 135 15,Ym 137 135 17] (some (Wg 138 135 true (.call 22 [(Xv 136),(Xv 137)])))),(Wz [Yq 139 135 138,Wm 140 139,Ym 141 140 16,Ym 142 140 18,Wg 143 140 true (.ibin .eql (Xv 141) (Xv 142)),Yq 144 140 143,Wm 145 144,Ym 146 145 19,Ym 147 145 21] (some (Wg 148 145 true (.call 23 [(Xv 146),(Xv 147)])))),(Wz [Yq 149 145 148,Wm 150 149,Ym 151 150 20,Ym 152 150 22,Wg 153 150 true (.ibin .eql (Xv 151) (Xv 152)),Yq 154 150 153,Wm 155 154,Ym 156 155 23,Ym 157 155 25] (some (Wg 158 155 true (.call 22 [(Xv 156),(Xv 157)])))),(Wz [Yq 159 155 158,Wm 160 159,Ym 161 160 24,Ym 162 160 26,Wg 163 160 true (.ibin .eql (Xv 161) (Xv 162)),Yq 164 160 163,Wm 165 164,Ym 166 165 27,Ym 167 165 29] (some (Wg 168 165 true (.call 22 [(Xv 166),(Xv 167)])))),(Wz [Yq 169 165 168,Wm 170 169,Ym 171 170 28,Ym 172 170 30,Wg 173 170 true (.ibin .eql (Xv 171) (Xv 172)),Yq 174 170 173,Wm 10 174] none)] (ks 111 64++ [K.of 10])
def wB:Aa:=.seq aV (.seq aU (.seq aS (.seq aR (.seq aQ (.seq aP (.seq aO (.seq aN (.seq aM (.seq aL (.seq PX (.seq PW (.seq PV (.seq Kl .ret)))))))))))))
def rZ:List RV:=rt 10
def aI:Aa:=.reg [Yb 1 0,Ws 2 (.mv (.c .nils)),Yi 3 0]
def aH:Aa:=Sq [Wd 4 1 3,Yk 5 24 4,Yv 6 5] (.cond (Xv 6) (Sq [Ws 2 (.mv (.c .nils)),Yi 3 230] .ret) .skip)
def aG:Aa:=.reg [Wd 7 1 3,Yk 8 48 7,Wm 2 8,Yi 3 0]
def wy:Aa:=.seq aI (.seq aH (.seq aG .ret))
def rX:List RV:= [(.t (K.of 2)),(.t (K.of 3))]
def aF:Aa:=.reg [Yb 2 0,Ws 4 (.mv (.c .nils)),Yi 5 0]
def aE (f:Nat):Aa:=Sq [Wd 6 2 3,Ws 7 (.call f [(Xv 6)]),Yv 8 7] (.cond (Xv 8) (Sq [Ws 4 (.mv (.c .nils)),Yi 5 230] .ret) .skip)
def aD:Aa:=Sq [Wm 9 1,Ws 10 (.ibin .lss (Xv 9) (Xn 0)),Wm 11 10,Yn 12 11 1,Yr 13 11 2 0,Yd 14 11 13,Wg 15 11 false (.len .sl (Xv 14)),Wg 16 11 false (.ibin .geq (Xv 12) (Xv 15)),Yp 17 11 16] (.cond (Xv 17) (Sq [Ws 4 (.mv (.c .nils)),Yi 5 1] .ret) .skip)
def aC (f:Nat):Aa:=.reg [Wd 18 2 3,Wm 19 1,Ws 20 (.call f [(Xv 18),(Xv 19)]),Wm 4 20,Yi 5 0]
def OW (f p:Nat):Aa:=.seq aF (.seq (aE f) (.seq aD (.seq (aC p) .ret)))
def NG:List RV:= [(.t (K.of 4)),(.t (K.of 5))]
def aB:Aa:=.reg [Yb 2 0,Ws 4 (.mv (.c .nils)),Yi 5 0]
def aA:Aa:=.reg [Wd 12 2 3,Wm 13 1,Yh 14 10 12 13,Wm 11 14,Yw 15 11 0,Yw 16 11 1,Wm 6 15,Wm 7 16]
def az:Aa:=Sq [Wm 17 7,Ws 18 (.ibin .neq (Xv 17) (Xn 0))] (.cond (Xv 18) (Sq [Wm 19 7,Ws 4 (.mv (.c .nils)),Wm 5 19] .ret) .skip)
def ay:Aa:=.reg [Ws 8 (.mv (.c .nils))]
def Mo:Aa:=Sq [Yl 23 22 21] (.seq (.cond (Xv 23) .skip (.exit 0)) (.seq (.block 1 (Sq [Wx 24 20 22 1,Wl 25 24,Wm 10 25] (.reg [Wm 26 8,Wo 27 2 0,Wl 28 27,Wm 29 10,Wx 30 28 29 1,Wl 31 30,Yk 32 51 31,Ws 33 (.mkSl [.nils] [(0,1,(Xv 32))] 1),Ws 34 (.app (Xv 26) (Xv 33) 1 24 (some [.nils])),Wm 8 34]))) (.reg [Ya 35 22 1,Wm 22 35])))
def ax:Aa:=Sq [Wm 20 6,We 21 20,Yi 22 0] (Lp 0 Mo)
def aw:Aa:=.reg [Wm 36 8,Wm 4 36,Yi 5 0]
def wx:Aa:=.seq aB (.seq aA (.seq az (.seq ay (.seq ax (.seq aw .ret)))))
def rV:List RV:= [(.t (K.of 4)),(.t (K.of 5))]
def ar:Aa:=.reg [Yb 2 0,Ws 4 (.mv (.c .nils)),Yi 5 0]
def aq:Aa:=.reg [Wd 11 2 3,Wm 12 1,Yh 13 11 11 12,Wm 10 13,Yw 14 10 0,Yw 15 10 1,Wm 6 14,Wm 7 15]
def an:Aa:=Sq [Wm 16 7,Ws 17 (.ibin .neq (Xv 16) (Xn 0))] (.cond (Xv 17) (Sq [Wm 18 7,Ws 4 (.mv (.c .nils)),Wm 5 18] .ret) .skip)
def am:Aa:=.reg [Ws 8 (.mv (.c .nils))]
def Mn:Aa:=.seq (Sq [Wm 19 9,Wm 20 6,We 21 20,Yl 22 19 21] (.cond (Xv 22) .skip (.exit 0))) (.seq (.block 1 (.draw [(Wz [Wm 25 8,Wo 26 2 0,Wl 27 26,Wm 28 6,Wm 29 9,Wx 30 28 29 1,Wl 31 30,Wx 32 27 31 1,Wl 33 32,Ws 34 (.mkSl [.nils] [(0,1,(Xv 33))] 1)] (some (Ws 35 (.app (Xv 25) (Xv 34) 1 24 (some [.nils]))))),(Wz [] (some (Ws 8 (.mvh (Xv 35))))),(Wz [] none)] (ks 25 11++ [K.of 8]))) (.reg [Wm 23 9,Ya 24 23 1,Wm 9 24]))
def ak:Aa:=Sq [Yi 9 0] (Lp 0 Mn)
def aj:Aa:=.reg [Wm 36 8,Wm 4 36,Yi 5 0]
def ww:Aa:=.seq ar (.seq aq (.seq an (.seq am (.seq ak (.seq aj .ret)))))
def rU:List RV:= [(.t (K.of 4)),(.t (K.of 5))]
def ai:Aa:=.reg [Yb 2 0,Ws 4 (.mv (.c .nils)),Yi 5 0]
def ah:Aa:=Sq [Wd 9 2 3,Yk 10 46 9,Yv 11 10] (.cond (Xv 11) (Sq [Ws 4 (.mv (.c .nils)),Yi 5 230] .ret) .skip)
def ag:Aa:=Sq [Wm 12 1,Ws 13 (.ibin .lss (Xv 12) (Xn 0)),Wm 14 13,Yn 15 14 1,Yr 16 14 2 0,Yd 17 14 16,Wg 18 14 false (.len .sl (Xv 17)),Wg 19 14 false (.ibin .geq (Xv 15) (Xv 18)),Yp 20 14 19] (.cond (Xv 20) (Sq [Ws 4 (.mv (.c .nils)),Yi 5 1] .ret) .skip)
def ae:Aa:=.reg [Ws 6 (.mv (.c .nils))]
def Mm:Aa:=Sq [Yl 25 24 23] (.seq (.cond (Xv 25) .skip (.exit 0)) (.seq (.block 1 (Sq [Wx 26 22 24 2,Wd 27 26 2,Ws 8 (.alloc z2),Yt 8 27 2] (Sq [Wo 28 8 0,Wl 29 28,Wm 30 1,Ws 31 (.ibin .eql (Xv 29) (Xv 30))] (.cond (Xv 31) (.reg [Wm 32 6,Wo 33 8 1,Wl 34 33,Ws 35 (.mkSl [(vI 0)] [(0,1,(Xv 34))] 1),Ws 36 (.app (Xv 32) (Xv 35) 1 8 (some [(vI 0)])),Wm 6 36]) .skip)))) (.reg [Ya 37 24 1,Wm 24 37])))
def ad:Aa:=Sq [Wo 21 2 2,Wl 22 21,We 23 22,Yi 24 0] (Lp 0 Mm)
def aa:Aa:=.reg [Wm 38 6,Wm 4 38,Yi 5 0]
def wu:Aa:=.seq ai (.seq ah (.seq ag (.seq ae (.seq ad (.seq aa .ret)))))
def rT:List RV:= [(.t (K.of 4)),(.t (K.of 5))]
def Z8:Aa:=.reg [Yb 2 0,Ws 4 (.mv (.c .nils)),Yi 5 0]
def Z7:Aa:=Sq [Wd 8 2 3,Yk 9 24 8,Yv 10 9] (.cond (Xv 10) (Sq [Ws 4 (.mv (.c .nils)),Yi 5 230] .ret) .skip)
def Z2:Aa:=Sq [Wm 11 1,Ws 12 (.ibin .lss (Xv 11) (Xn 0)),Wm 13 12,Yn 14 13 1,Yr 15 13 2 0,Yd 16 13 15,Wg 17 13 false (.len .sl (Xv 16)),Wg 18 13 false (.ibin .geq (Xv 14) (Xv 17)),Yp 19 13 18] (.cond (Xv 19) (Sq [Ws 4 (.mv (.c .nils)),Yi 5 1] .ret) .skip)
def Z1:Aa:=.reg [Ws 6 (.mv (.c .nils))]
def Ml:Aa:=.seq (Sq [Wm 20 7,Wo 21 2 2,Wl 22 21,We 23 22,Yl 24 20 23] (.cond (Xv 24) .skip (.exit 0))) (.seq (.block 1 (Sq [Wo 27 2 2,Wl 28 27,Wm 29 7,Wx 30 28 29 2,Wo 31 30 0,Wl 32 31,Wm 33 1,Ws 34 (.ibin .eql (Xv 32) (Xv 33))] (.cond (Xv 34) (.reg [Wm 35 6,Wo 36 2 2,Wl 37 36,Wm 38 7,Wx 39 37 38 2,Wo 40 39 1,Wl 41 40,Ws 42 (.mkSl [(vI 0)] [(0,1,(Xv 41))] 1),Ws 43 (.app (Xv 35) (Xv 42) 1 8 (some [(vI 0)])),Wm 6 43]) .skip))) (.reg [Wm 25 7,Ya 26 25 1,Wm 7 26]))
def Z0:Aa:=Sq [Yi 7 0] (Lp 0 Ml)
def ZZ:Aa:=.reg [Wm 44 6,Wm 4 44,Yi 5 0]
def wq:Aa:=.seq Z8 (.seq Z7 (.seq Z2 (.seq Z1 (.seq Z0 (.seq ZZ .ret)))))
def rS:List RV:= [(.t (K.of 4)),(.t (K.of 5))]
def ZQ:Aa:=.reg [Yb 3 0,Ws 6 (.mv (.c .nils)),Yi 7 0]
def ZP:Aa:=.reg [Wo 20 3 0,Wl 21 20,We 22 21,Wm 8 22]
def ZO:Aa:=Sq [Wd 23 3 3,Yk 24 24 23,Yv 25 24] (.cond (Xv 25) (Sq [Ws 6 (.mv (.c .nils)),Yi 7 230] .ret) .skip)
def ZN:Aa:=Sq [Wm 26 1,Wm 27 8,Yh 28 55 26 27,Yv 29 28,Wm 30 29,Yn 31 30 2,Yn 32 30 8,Wg 33 30 false (.call 55 [(Xv 31),(Xv 32)]),Wg 34 30 false (.not (Xv 33)),Yp 35 30 34] (.cond (Xv 35) (Sq [Ws 6 (.mv (.c .nils)),Yi 7 1] .ret) .skip)
def ZM:Aa:=.reg [Wm 36 8,Ws 37 (.mkslice (Xv 36) (Xv 36) [vF] 1),Wm 9 37]
def Mf:Aa:=.seq (Sq [Wm 38 10,Wm 39 2,We 40 39,Yl 41 38 40] (.cond (Xv 41) .skip (.exit 0))) (.seq (.block 1 (.reg [Wm 44 9,Wm 45 2,Wm 46 10,Wx 47 45 46 1,Wl 48 47,Wx 49 44 48 1,Wn (.store (Xv 49) Xt 1)])) (.reg [Wm 42 10,Ya 43 42 1,Wm 10 43]))
def ZL:Aa:=Sq [Yi 10 0] (Lp 0 Mf)
def ZK:Aa:=.reg [Wm 50 8,Ya 51 50 1,Ws 52 (.mkslice (Xv 51) (Xv 51) [(vI 0)] 8),Wm 11 52]
def Me:Aa:=.seq (Sq [Wm 53 12,Wo 54 3 2,Wl 55 54,We 56 55,Yl 57 53 56] (.cond (Xv 57) .skip (.exit 2))) (.seq (.block 3 (.reg [Wm 60 11,Wo 61 3 2,Wl 62 61,Wm 63 12,Wx 64 62 63 2,Wo 65 64 0,Wl 66 65,Ya 67 66 1,Wm 68 12,Ya 69 68 1,Wx 70 60 67 1,Yt 70 69 1])) (.reg [Wm 58 12,Ya 59 58 1,Wm 12 59]))
def ZJ:Aa:=Sq [Yi 12 0] (Lp 2 Me)
def Mc:Aa:=.seq (Sq [Wm 71 13,Wm 72 8,Ws 73 (.ibin .leq (Xv 71) (Xv 72))] (.cond (Xv 73) .skip (.exit 4))) (.seq (.block 5 (.draw [(Wz [Wm 76 11,Wm 77 13,Wm 78 11,Wm 79 13,Wx 80 78 79 1,Wl 81 80,Wm 82 11,Wm 83 13,Ys 84 83 1,Wx 85 82 84 1,Wl 86 85,Ws 87 (.mxn true (Xv 81) [(Xv 86)]),Wx 88 76 77 1] (some (Yt 88 87 1))),(Wz [] none)] (ks 76 13))) (.reg [Wm 74 13,Ya 75 74 1,Wm 13 75]))
def ZI:Aa:=Sq [Yi 13 1] (Lp 4 Mc)
def ZH:Aa:=.reg [Wm 89 8,Ws 90 (.mkslice (Xv 89) (Xv 89) [vF] 1),Wm 14 90]
def PP:Aa:=.reg [Ws 91 (.mkSl [] [] 0),Wm 92 1,Ws 93 (.app (Xv 91) (Xv 92) 1 8 (some [(vI 0)])),Wm 15 93]
def GU:Aa:=.seq (Sq [Wm 119 17,Wm 120 11,Wm 121 16,Ya 122 121 1,Wx 123 120 122 1,Wl 124 123,Yl 125 119 124,Wm 126 125,Ym 127 126 9,Ym 128 126 16,Yx 129 126 127 128 1,Yc 130 126 129,Wg 131 126 true (.not (Xv 130)),Yq 132 126 131] (.cond (Xv 132) .skip (.exit 8))) (.seq (.block 9 (.reg [Wm 135 15,Wo 136 3 2,Wl 137 136,Wm 138 17,Wx 139 137 138 2,Wo 140 139 1,Wl 141 140,Ws 142 (.mkSl [(vI 0)] [(0,1,(Xv 141))] 1),Ws 143 (.app (Xv 135) (Xv 142) 1 8 (some [(vI 0)])),Wm 15 143])) (.reg [Wm 133 17,Ya 134 133 1,Wm 17 134]))
def GT:Aa:=.seq (Sq [Wm 94 15,We 95 94,Ws 96 (.ibin .gtr (Xv 95) (Xn 0))] (.cond (Xv 96) .skip (.exit 6))) (.block 7 (Sq [Wm 97 15,Wm 98 15,We 99 98,Ys 100 99 1,Wx 101 97 100 1,Wl 102 101,Wm 16 102] (Sq [Wm 103 15,Wm 104 15,We 105 104,Ys 106 105 1,Ws 107 (.slice (Xv 103) none (some (Xv 106)) none 1),Wm 15 107] (.seq (Sq [Wm 108 14,Wm 109 16,Wx 110 108 109 1,Wl 111 110] (.cond (Xv 111) (.exit 7) .skip)) (Sq [Wm 112 14,Wm 113 16,Wx 114 112 113 1,Wn (.store (Xv 114) Xt 1)] (Sq [Wm 115 11,Wm 116 16,Wx 117 115 116 1,Wl 118 117,Wm 17 118] (Lp 8 GU)))))))
def PO:Aa:=Lp 6 GT
def PN:Aa:=.reg [Ws 18 (.mv (.c .nils))]
def Mb:Aa:=.seq (Sq [Wm 144 19,Wm 145 8,Yl 146 144 145] (.cond (Xv 146) .skip (.exit 10))) (.seq (.block 11 (Sq [Wm 149 14,Wm 150 19,Wx 151 149 150 1,Wl 152 151] (.cond (Xv 152) (.reg [Wm 153 18,Wm 154 19,Ws 155 (.mkSl [(vI 0)] [(0,1,(Xv 154))] 1),Ws 156 (.app (Xv 153) (Xv 155) 1 8 (some [(vI 0)])),Wm 18 156]) .skip))) (.reg [Wm 147 19,Ya 148 147 1,Wm 19 148]))
def PM:Aa:=Sq [Yi 19 0] (Lp 10 Mb)
def PL:Aa:=.reg [Wm 157 18,Wm 6 157,Yi 7 0]
def wp:Aa:=.seq ZQ (.seq ZP (.seq ZO (.seq ZN (.seq ZM (.seq ZL (.seq ZK (.seq ZJ (.seq ZI (.seq ZH (.seq PP (.seq PO (.seq PN (.seq PM (.seq PL .ret))))))))))))))
def rR:List RV:= [(.t (K.of 6)),(.t (K.of 7))]
def ZG:Aa:=.reg [Yb 1 0,Yi 2 0]
def ZF (f:Nat):Aa:=Sq [Wd 3 1 3,Ws 4 (.call f [(Xv 3)]),Yv 5 4] (.cond (Xv 5) (Sq [Yi 2 230] .ret) .skip)
def ZE:Aa:=.reg [Yi 2 0]
def TU (f:Nat):Aa:=.seq ZG (.seq (ZF f) (.seq ZE .ret))
def Rv:List RV:=rt 2
def ZD:Aa:=.reg [Yb 2 0,Yb 3 1,Yu 4]
def ZC:Aa:=.reg [Ws 5 (.mv (.c (.fn 56 [] [])))]
def ZB:Aa:=.reg [Wo 6 2 0,Wl 7 6,Wo 8 3 0,Wl 9 8,Wm 10 5,Ws 11 (.call 59 [(Xv 7),(Xv 9),(Xv 10)]),Wm 12 11,Yo 13 12 2 1,Yc 14 12 13,Yo 15 12 3 1,Yc 16 12 15,Wg 17 12 true (.call 22 [(Xv 14),(Xv 16)]),Yq 18 12 17,Wm 19 18,Yo 20 19 2 2,Yc 21 19 20,Yo 22 19 3 2,Yc 23 19 22,Wg 24 19 true (.call 34 [(Xv 21),(Xv 23)]),Yq 25 19 24,Wm 4 25]
def wo:Aa:=.seq ZD (.seq ZC (.seq ZB .ret))
def rQ:List RV:=rt 4
def ZA:Aa:=.reg [Yb 2 0,Yb 3 1,Yu 4]
def Zz:Aa:=Sq [Wo 6 2 2,Wl 7 6,We 8 7,Wo 9 3 2,Wl 10 9,We 11 10,Ws 12 (.ibin .neq (Xv 8) (Xv 11)),Wm 13 12,Yr 14 13 2 0,Yd 15 13 14,Yr 16 13 3 0,Yd 17 13 16,Wg 18 13 false (.call 23 [(Xv 15),(Xv 17)]),Wg 19 13 false (.not (Xv 18)),Yp 20 13 19,Wm 21 20,Yr 22 21 2 1,Yd 23 21 22,Yr 24 21 3 1,Yd 25 21 24,Wg 26 21 false (.call 60 [(Xv 23),(Xv 25)]),Wg 27 21 false (.not (Xv 26)),Yp 28 21 27] (Cf 28 4)
def Ma:Aa:=.seq (Sq [Wm 29 5,Wo 30 2 2,Wl 31 30,We 32 31,Yl 33 29 32] (.cond (Xv 33) .skip (.exit 0))) (.seq (.block 1 (.seq (.draw [(Wz [Wo 36 2 2,Wl 37 36,Wm 38 5,Wx 39 37 38 2,Wd 40 39 2,Wo 41 3 2,Wl 42 41,Wm 43 5,Wx 44 42 43 2,Wd 45 44 2,Ws 46 (.eqv true (.cells [.int,.int]) (Xv 40) (Xv 45))] none)] (ks 36 11)) (Cf 46 4))) (.reg [Wm 34 5,Ya 35 34 1,Wm 5 35]))
def Zy:Aa:=Sq [Yi 5 0] (Lp 0 Ma)
def Zx:Aa:=.reg [Ws 4 (.mv Xt)]
def wk:Aa:=.seq ZA (.seq Zz (.seq Zy (.seq Zx .ret)))
def rP:List RV:=rt 4
def Zw:Aa:=.reg [Yu 4]
def Zv:Aa:=Sq [Wm 6 0,We 7 6,Wm 8 1,We 9 8,Ws 10 (.ibin .neq (Xv 7) (Xv 9))] (Cf 10 4)
def L9:Aa:=Sq [Yl 14 13 12] (.seq (.cond (Xv 14) .skip (.exit 0)) (.seq (.block 1 (Sq [Wm 15 13,Wm 5 15] (.seq (.draw [(Wz [Wm 16 0,Wm 17 5,Wx 18 16 17 1,Wl 19 18,Wm 20 1,Wm 21 5,Wx 22 20 21 1,Wl 23 22,Ws 24 (.ibin .neq (Xv 19) (Xv 23))] none)] (ks 16 9)) (Cf 24 4)))) (.reg [Ya 25 13 1,Wm 13 25])))
def Zu:Aa:=Sq [Wm 11 0,We 12 11,Yi 13 0] (Lp 0 L9)
def Zt:Aa:=.reg [Ws 4 (.mv Xt)]
def wj:Aa:=.seq Zw (.seq Zv (.seq Zu (.seq Zt .ret)))
def rO:List RV:=rt 4
def Zr:Aa:=.reg [Yu 4]
def Zq:Aa:=Sq [Wm 6 0,We 7 6,Wm 8 1,We 9 8,Ws 10 (.ibin .neq (Xv 7) (Xv 9))] (Cf 10 4)
def L8:Aa:=.seq (Sq [Wm 11 5,Wm 12 0,We 13 12,Yl 14 11 13] (.cond (Xv 14) .skip (.exit 0))) (.seq (.block 1 (.seq (.draw [(Wz [Wm 17 0,Wm 18 5,Wx 19 17 18 1,Wl 20 19,Wm 21 1,Wm 22 5,Wx 23 21 22 1,Wl 24 23] (some (Yh 25 61 20 24))),(Wz [Ws 26 (.ibin .neq (Xv 25) (Xn 0))] none)] (ks 17 10)) (Cf 26 4))) (.reg [Wm 15 5,Ya 16 15 1,Wm 5 16]))
def Zp:Aa:=Sq [Yi 5 0] (Lp 0 L8)
def Zo:Aa:=.reg [Ws 4 (.mv Xt)]
def wi:Aa:=.seq Zr (.seq Zq (.seq Zp (.seq Zo .ret)))
def rN:List RV:=rt 4
def Zk:Aa:=.reg [Yu 4]
def Zj:Aa:=Sq [Wm 6 0,We 7 6,Wm 8 1,We 9 8,Ws 10 (.ibin .neq (Xv 7) (Xv 9))] (Cf 10 4)
def L5:Aa:=Sq [Yl 14 13 12] (.seq (.cond (Xv 14) .skip (.exit 0)) (.seq (.block 1 (Sq [Wm 15 13,Wm 5 15] (.seq (.draw [(Wz [Wm 16 0,Wm 17 5,Wx 18 16 17 2,Wd 19 18 2,Wm 20 1,Wm 21 5,Wx 22 20 21 2,Wd 23 22 2,Ws 24 (.eqv true (.cells [.int,.int]) (Xv 19) (Xv 23))] none)] (ks 16 9)) (Cf 24 4)))) (.reg [Ya 25 13 1,Wm 13 25])))
def Zi:Aa:=Sq [Wm 11 0,We 12 11,Yi 13 0] (Lp 0 L5)
def Zh:Aa:=.reg [Ws 4 (.mv Xt)]
def wg:Aa:=.seq Zk (.seq Zj (.seq Zi (.seq Zh .ret)))
def rL:List RV:=rt 4
def Zg:Aa:=.reg [Yb 1 0,Ws 2 (.mv (.c .nils))]
def Zf:Aa:=.reg [Wo 6 1 0,Wl 7 6,We 8 7,Ws 9 (.mkslice (Xv 8) (Xv 8) [(vI 0)] 8),Wm 3 9]
def Ze:Aa:=.reg [Wo 10 1 1,Wl 11 10,We 12 11,Wm 4 12]
def L4:Aa:=.seq (Sq [Wm 13 5,Wo 14 1 2,Wl 15 14,We 16 15,Yl 17 13 16] (.cond (Xv 17) .skip (.exit 0))) (.seq (.block 1 (Sq [Wo 20 1 2,Wl 21 20,Wm 22 5,Wx 23 21 22 2,Wo 24 23 1,Wl 25 24,Wm 26 4,Ws 27 (.ibin .eql (Xv 25) (Xv 26))] (.cond (Xv 27) (Sq [Wm 28 3,Wm 29 4,Wm 30 3,Wo 31 1 2,Wl 32 31,Wm 33 5,Wx 34 32 33 2,Wo 35 34 0,Wl 36 35,Wx 37 30 36 1,Wl 38 37,Ya 39 38 1,Wx 40 28 29 1,Yt 40 39 1] (.reg [Wm 41 4,Ya 42 41 1,Wm 4 42])) .skip))) (.reg [Wm 18 5,Ya 19 18 1,Wm 5 19]))
def Zd:Aa:=Sq [Yi 5 0] (Lp 0 L4)
def Zc:Aa:=.reg [Wm 43 3,Wm 2 43]
def we:Aa:=.seq Zg (.seq Zf (.seq Ze (.seq Zd (.seq Zc .ret))))
def rK:List RV:=rt 2
def Zb:Aa:=.reg [Yb 2 0,Ws 4 (.mv (.c .nils))]
def Za:Aa:=.reg [Wd 9 2 3,Yk 10 47 9,Wm 5 10]
def Y2:Aa:=.reg [Wm 11 1,Ws 12 (.mkSl [(vI 0)] [(0,1,(Xv 11))] 1),Wm 6 12]
def Y1:Aa:=.skip
def O4:Aa:=Sq [Yl 22 21 20] (.seq (.cond (Xv 22) .skip (.exit 2)) (.seq (.block 3 (Sq [Wx 23 19 21 2,Wd 24 23 2,Ws 8 (.alloc z2),Yt 8 24 2] (.seq (.draw [(Wz [Wo 25 8 1,Wl 26 25,Wm 27 1,Ws 28 (.ibin .eql (Xv 26) (Xv 27)),Wm 29 28,Ym 30 29 5,Yo 31 29 8 0,Yc 32 29 31,Yx 33 29 30 32 1,Yc 34 29 33,Ym 35 29 5,Ym 36 29 1,Yx 37 29 35 36 1,Yc 38 29 37,Wg 39 29 true (.ibin .sub (Xv 38) (Xn 1)),Wg 40 29 true (.ibin .eql (Xv 34) (Xv 39)),Yq 41 29 40] none)] (ks 25 17)) (.cond (Xv 41) (Sq [Wo 42 8 0,Wl 43 42,Wm 1 43] (Sq [Wm 44 6,Wm 45 1,Ws 46 (.mkSl [(vI 0)] [(0,1,(Xv 45))] 1),Ws 47 (.app (Xv 44) (Xv 46) 1 8 (some [(vI 0)])),Wm 6 47] (.exit 1))) .skip)))) (.reg [Ya 48 21 1,Wm 21 48])))
def L2:Aa:=.seq (Sq [Wm 13 5,Wm 14 1,Wx 15 13 14 1,Wl 16 15,Ws 17 (.ibin .gtr (Xv 16) (Xn 0))] (.cond (Xv 17) .skip (.exit 0))) (.block 1 (.seq (Sq [Wo 18 2 2,Wl 19 18,We 20 19,Yi 21 0] (Lp 2 O4)) (.exit 0)))
def Y0:Aa:=Lp 0 L2
def YZ:Aa:=.reg [Wm 49 6,Yk 50 91 49]
def YY:Aa:=.reg [Wm 51 6,Wm 4 51]
def wd:Aa:=.seq Zb (.seq Za (.seq Y2 (.seq Y1 (.seq Y0 (.seq YZ (.seq YY .ret))))))
def rJ:List RV:=rt 4
def YX:Aa:=.reg [Yb 2 0,Ws 4 (.mv (.c .nils))]
def YW:Aa:=.reg [Wd 12 2 3,Yk 13 48 12,Wm 5 13]
def YV:Aa:=.reg [Wm 14 1,Ws 15 (.mkSl [(vI 0)] [(0,1,(Xv 14))] 1),Wm 6 15]
def L0:Aa:=.seq (Sq [Wm 21 8,Wo 22 2 2,Wl 23 22,We 24 23,Yl 25 21 24] (.cond (Xv 25) .skip (.exit 2))) (.seq (.block 3 (Sq [Wo 28 2 2,Wl 29 28,Wm 30 8,Wx 31 29 30 2,Wd 32 31 2,Ws 9 (.alloc z2),Yt 9 32 2] (.seq (.draw [(Wz [Wo 33 9 1,Wl 34 33,Wm 35 1,Ws 36 (.ibin .eql (Xv 34) (Xv 35)),Wm 37 36,Ym 38 37 5,Yo 39 37 9 0,Yc 40 37 39,Yx 41 37 38 40 1,Yc 42 37 41,Ym 43 37 5,Ym 44 37 1,Yx 45 37 43 44 1,Yc 46 37 45,Wg 47 37 true (.ibin .sub (Xv 46) (Xn 1)),Wg 48 37 true (.ibin .eql (Xv 42) (Xv 47)),Yq 49 37 48,Wm 50 49,Ym 51 50 7,Wg 52 50 true (.ibin .lss (Xv 51) (Xn 0)),Ym 53 50 52,Yr 54 53 9 0,Yd 55 53 54,Yn 56 53 7,Wg 57 53 false (.ibin .lss (Xv 55) (Xv 56)),Wg 58 50 true (.pick (Xv 53) Xt (Xv 57)),Yq 59 50 58] none)] (ks 33 27)) (.cond (Xv 59) (.reg [Wo 60 9 0,Wl 61 60,Wm 7 61]) .skip)))) (.reg [Wm 26 8,Ya 27 26 1,Wm 8 27]))
def LZ:Aa:=.seq (Sq [Wm 16 5,Wm 17 1,Wx 18 16 17 1,Wl 19 18,Ws 20 (.ibin .gtr (Xv 19) (Xn 0))] (.cond (Xv 20) .skip (.exit 0))) (.block 1 (Sq [Ws 7 (.mv (.c (.int .i64 (.negSucc 0))))] (.seq (Sq [Yi 8 0] (Lp 2 L0)) (Sq [Wm 62 7,Wm 1 62] (.reg [Wm 63 6,Wm 64 1,Ws 65 (.mkSl [(vI 0)] [(0,1,(Xv 64))] 1),Ws 66 (.app (Xv 63) (Xv 65) 1 8 (some [(vI 0)])),Wm 6 66])))))
def YU:Aa:=Lp 0 LZ
def YT:Aa:=.reg [Ws 10 (.mv (.c .nils))]
def LY:Aa:=.seq (Sq [Wm 70 11,Ws 71 (.ibin .geq (Xv 70) (Xn 0))] (.cond (Xv 71) .skip (.exit 4))) (.seq (.block 5 (.reg [Wm 74 10,Wm 75 6,Wm 76 11,Wx 77 75 76 1,Wl 78 77,Ws 79 (.mkSl [(vI 0)] [(0,1,(Xv 78))] 1),Ws 80 (.app (Xv 74) (Xv 79) 1 8 (some [(vI 0)])),Wm 10 80])) (.reg [Wm 72 11,Ys 73 72 1,Wm 11 73]))
def YS:Aa:=Sq [Wm 67 6,We 68 67,Ys 69 68 1,Wm 11 69] (Lp 4 LY)
def YR:Aa:=.reg [Wm 81 10,Wm 4 81]
def wc:Aa:=.seq YX (.seq YW (.seq YV (.seq YU (.seq YT (.seq YS (.seq YR .ret))))))
def rI:List RV:=rt 4
def YQ:Aa:=.reg [Ws 2 (.mv (.c .nils))]
def YP:Aa:=Sq [Wm 3 0,Ws 4 (.eqv false .sl (Xv 3) (.c .nils))] (.cond (Xv 4) (Sq [Ws 2 (.mv (.c .nils))] .ret) .skip)
def YO:Aa:=.reg [Ws 5 (.mkSl [] [] 0),Wm 6 0,Ws 7 (.app (Xv 5) (Xv 6) 7 112 (some z7)),Wm 2 7]
def wb:Aa:=.seq YQ (.seq YP (.seq YO .ret))
def rH:List RV:=rt 2
def YK:Aa:=.reg [Yu 4]
def LX:Aa:=.seq (Sq [Wm 6 5,Wm 7 0,We 8 7,Yl 9 6 8] (.cond (Xv 9) .skip (.exit 0))) (.seq (.block 1 (Sq [Wm 12 0,Wm 13 5,Wx 14 12 13 1,Wl 15 14,Ws 16 (.ibin .lss (Xv 15) (Xn 0)),Wm 17 16,Yn 18 17 0,Yn 19 17 5,Yy 20 17 18 19 1,Yd 21 17 20,Yn 22 17 1,Wg 23 17 false (.ibin .geq (Xv 21) (Xv 22)),Yp 24 17 23] (Cf 24 4))) (.reg [Wm 10 5,Ya 11 10 1,Wm 5 11]))
def YJ:Aa:=Sq [Yi 5 0] (Lp 0 LX)
def YI:Aa:=.reg [Ws 4 (.mv Xt)]
def vX:Aa:=.seq YK (.seq YJ (.seq YI .ret))
def rE:List RV:=rt 4
def YH:Aa:=.reg [Yu 4]
def YG:Aa:=.reg [Wm 5 0,Wm 6 1,Ws 7 (.call 57 [(Xv 5),(Xv 6),(.c (.fn 58 [] []))]),Wm 4 7]
def vW:Aa:=.seq YH (.seq YG .ret)
def rC:List RV:=rt 4
def YF:Aa:=.reg [Yu 6]
def YE:Aa:=Sq [Wm 10 0,We 11 10,Wm 12 1,We 13 12,Ws 14 (.ibin .neq (Xv 11) (Xv 13))] (Cf 14 6)
def LW:Aa:=Sq [Yl 18 17 16] (.seq (.cond (Xv 18) .skip (.exit 0)) (.seq (.block 1 (Sq [Wm 19 17,Wx 20 15 17 7,Wd 21 20 7,Ws 8 (.alloc z7),Wm 7 19,Yt 8 21 7] (Sq [Wm 22 1,Wm 23 7,Wx 24 22 23 7,Wd 25 24 7,Ws 9 (.alloc z7),Yt 9 25 7] (Sq [Wm 26 2,Wd 27 8 7,Wd 28 9 7,Ws 29 (.callv (Xv 26) [(Xv 27),(Xv 28)]),Yv 30 29] (Cf 30 6))))) (.reg [Ya 31 17 1,Wm 17 31])))
def YD:Aa:=Sq [Wm 15 0,We 16 15,Yi 17 0] (Lp 0 LW)
def YC:Aa:=.reg [Ws 6 (.mv Xt)]
def vV:Aa:=.seq YF (.seq YE (.seq YD (.seq YC .ret)))
def rB:List RV:=rt 6
def YB:Aa:=.reg [Yb 2 0,Yb 3 1,Yu 4]
def YA:Aa:=.reg [Wd 5 2 7,Wd 6 3 7,Yh 7 94 5 6,Ye 8 7 0,Wm 4 8]
def vU:Aa:=.seq YB (.seq YA .ret)
def rA:List RV:=rt 4
def Yz:Aa:=.reg [Yu 6]
def Yj:Aa:=Sq [Wm 10 0,We 11 10,Wm 12 1,We 13 12,Ws 14 (.ibin .neq (Xv 11) (Xv 13))] (Cf 14 6)
def LV:Aa:=Sq [Yl 18 17 16] (.seq (.cond (Xv 18) .skip (.exit 0)) (.seq (.block 1 (Sq [Wm 19 17,Wx 20 15 17 1,Wl 21 20,Wm 7 19,Wm 8 21] (Sq [Wm 22 1,Wm 23 7,Wx 24 22 23 1,Wl 25 24,Wm 9 25] (Sq [Wm 26 2,Wm 27 8,Wm 28 9,Ws 29 (.callv (Xv 26) [(Xv 27),(Xv 28)]),Yv 30 29] (Cf 30 6))))) (.reg [Ya 31 17 1,Wm 17 31])))
def Yg:Aa:=Sq [Wm 15 0,We 16 15,Yi 17 0] (Lp 0 LV)
def Yf:Aa:=.reg [Ws 6 (.mv Xt)]
def vT:Aa:=.seq Yz (.seq Yj (.seq Yg (.seq Yf .ret)))
def rz:List RV:=rt 6
def X9:Aa:=.reg [Yu 4]
def X8:Aa:=Sq [Wm 6 0,We 7 6,Wm 8 1,We 9 8,Ws 10 (.ibin .neq (Xv 7) (Xv 9))] (Cf 10 4)
def LU:Aa:=.seq (Sq [Wm 11 5,Wm 12 0,We 13 12,Yl 14 11 13] (.cond (Xv 14) .skip (.exit 0))) (.seq (.block 1 (.seq (.draw [(Wz [Wm 17 0,Wm 18 5,Wx 19 17 18 1,Wl 20 19,Wm 21 1,Wm 22 5,Wx 23 21 22 1,Wl 24 23,Ws 25 (.ibin .neq (Xv 20) (Xv 24))] none)] (ks 17 9)) (Cf 25 4))) (.reg [Wm 15 5,Ya 16 15 1,Wm 5 16]))
def X7:Aa:=Sq [Yi 5 0] (Lp 0 LU)
def X6:Aa:=.reg [Ws 4 (.mv Xt)]
def vR:Aa:=.seq X9 (.seq X8 (.seq X7 (.seq X6 .ret)))
def ry:List RV:=rt 4
def XX:Aa:=.reg [Wm 4 0,We 5 4,Ys 6 5 1,Yi 2 0,Wm 3 6]
def LS:Aa:=.seq (Sq [Wm 7 2,Wm 8 3,Yl 9 7 8] (.cond (Xv 9) .skip (.exit 0))) (.seq (.block 1 (.draw [(Wz [Wm 14 0,Wm 15 2,Wm 16 0,Wm 17 3,Wm 18 0,Wm 19 3,Wx 20 18 19 1,Wl 21 20,Wm 22 0,Wm 23 2,Wx 24 22 23 1,Wl 25 24,Wx 26 14 15 1] (some (Yt 26 21 1))),⟨[Wx 27 16 17 1],[Wm 16 0,Wm 17 3,Wx 27 16 17 1],some (Yt 27 25 1)⟩,(Wz [] none)] (ks 14 14))) (.reg [Wm 10 2,Ya 11 10 1,Wm 12 3,Ys 13 12 1,Wm 2 11,Wm 3 13]))
def vO:Aa:=.seq XX (Lp 0 LS)
def ru:List RV:= []
structure Gns (E:Env):Prop where
  f1003:Wf E 3 wB rZ
  f1009:Wf E 9 wy rX
  f1010:Wf E 10 (OW 46 49) NG
  f1011:Wf E 11 (OW 24 50) NG
  f1012:Wf E 12 wx rV
  f1013:Wf E 13 ww rU
  f1014:Wf E 14 wu rT
  f1015:Wf E 15 wq rS
  f1017:Wf E 17 wp rR
  f1018:Wf E 18 (TU 46) Rv
  f1019:Wf E 19 (TU 24) Rv
  f1020:Wf E 20 wo rQ
  f1021:Wf E 21 wk rP
  f1022:Wf E 22 wj rO
  f1023:Wf E 23 wi rN
  f1034:Wf E 34 wg rL
  f1048:Wf E 48 we rK
  f1049:Wf E 49 wd rJ
  f1050:Wf E 50 wc rI
  f1051:Wf E 51 wb rH
  f1055:Wf E 55 vX rE
  f1056:Wf E 56 vW rC
  f1057:Wf E 57 vV rB
  f1058:Wf E 58 vU rA
  f1059:Wf E 59 vT rz
  f1060:Wf E 60 vR ry
  f1091:Wf E 91 vO ru
end
end Go.AJ
