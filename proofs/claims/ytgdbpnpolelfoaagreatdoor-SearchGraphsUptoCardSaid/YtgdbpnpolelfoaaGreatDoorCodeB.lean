/- The code of the functions that the law reaches beside those of the walk of graphs. -/
import Derived.Test.YtgdbpnpolelfoaaGreatDoorCodeA
set_option linter.all false
namespace Go.AJ
open Go
noncomputable section
def aK:Aa:=.reg [Yb 1 0,Yu 2]
def aJ:Aa:=.reg [Wo 3 1 0,Wl 4 3,We 5 4,Ws 6 (.ibin .leq (Xv 5) (Xn 300)),Wm 7 6,Yo 8 7 1 1,Yc 9 7 8,Wg 10 7 true (.len .sl (Xv 9)),Wg 11 7 true (.ibin .leq (Xv 10) (Xn 400)),Yq 12 7 11,Wm 13 12,Yo 14 13 1 2,Yc 15 13 14,Wg 16 13 true (.len .sl (Xv 15)),Wg 17 13 true (.ibin .leq (Xv 16) (Xn 3000)),Yq 18 13 17,Wm 19 18,Wg 20 19 true (.mk [.nils,.nils,.nils,.nils,.nils,(vI 0),(vI 0),.nils,(vI 0),(vI 0),vF,.nils,vE,.nils,.nils,.nils,(vI 0),(vI 0),.nils,(vI 0),(vI 0),vF,.nils,vE,.nils,.nils,.nils,.nils,.nils,.nils,.nils,.nils,.nils,.nils,vF] []),Yo 21 19 1 0,Yc 22 19 21,Wg 23 19 true (.call 45 [(Xv 20),(Xv 22)]),Yq 24 19 23,Wm 2 24]
def wz:Aa:=.seq aK (.seq aJ .ret)
def rY:List RV:=rt 2
def Zn:Aa:=.reg [Yb 1 0,Yu 2]
def Zm:Aa:=.reg [Wo 9 1 0,Wl 10 9,We 11 10,Wm 3 11]
def Zl:Aa:=Sq [Wm 12 3,Ws 13 (.ibin .gtr (Xv 12) (Xn 20000)),Wm 14 13,Yr 15 14 1 2,Yd 16 14 15,Wg 17 14 false (.len .sl (Xv 16)),Wg 18 14 false (.ibin .gtr (Xv 17) (Xn 100000)),Yp 19 14 18,Wm 20 19,Yr 21 20 1 1,Yd 22 20 21,Wg 23 20 false (.len .sl (Xv 22)),Yn 24 20 3,Wg 25 20 false (.ibin .gtr (Xv 23) (Xv 24)),Yp 26 20 25] (Cf 26 2)
def IL:Aa:=.seq (Sq [Wm 27 4,Wm 28 3,Yl 29 27 28] (.cond (Xv 29) .skip (.exit 0))) (.seq (.block 1 (.seq (.draw [(Wz [Wo 32 1 0,Wl 33 32,Wm 34 4,Wx 35 33 34 1,Wl 36 35,We 37 36,Wo 38 1 0,Wl 39 38,Ws 40 (.idx (Xv 39) (Xn 0) 1),Wl 41 40,We 42 41,Ws 43 (.ibin .neq (Xv 37) (Xv 42)),Wm 44 43,Yr 45 44 1 0,Yd 46 44 45,Yn 47 44 4,Yy 48 44 46 47 1,Yd 49 44 48] (some (Wg 50 44 false (.call 62 [(Xv 49)])))),(Wz [Wg 51 44 false (.not (Xv 50)),Yp 52 44 51] none)] (ks 32 21)) (Cf 52 2))) (.reg [Wm 30 4,Ya 31 30 1,Wm 4 31]))
def N3:Aa:=Sq [Yi 4 0] (Lp 0 IL)
def N2:Aa:=Sq [Wo 53 1 0,Wl 54 53,Yk 55 63 54,We 56 55,Wm 57 3,Ws 58 (.ibin .neq (Xv 56) (Xv 57))] (Cf 58 2)
def L7:Aa:=.seq (Sq [Wm 59 5,Wo 60 1 1,Wl 61 60,We 62 61,Yl 63 59 62] (.cond (Xv 63) .skip (.exit 2))) (.seq (.block 3 (Sq [Wo 66 1 1,Wl 67 66,Wm 68 5,Wx 69 67 68 1,Wl 70 69,Wm 71 5,Ws 72 (.ibin .neq (Xv 70) (Xv 71))] (Cf 72 2))) (.reg [Wm 64 5,Ya 65 64 1,Wm 5 65]))
def N1:Aa:=Sq [Yi 5 0] (Lp 2 L7)
def N0:Aa:=.reg [Wo 73 1 1,Wl 74 73,We 75 74,Wm 6 75]
def NN:Aa:=.draw [(Wz [Wo 88 8 0,Wl 89 88,Ws 90 (.ibin .lss (Xv 89) (Xn 0)),Wm 91 90,Yr 92 91 8 0,Yd 93 91 92,Yn 94 91 3,Wg 95 91 false (.ibin .geq (Xv 93) (Xv 94)),Yp 96 91 95,Wm 97 96,Yr 98 97 8 1,Yd 99 97 98,Wg 100 97 false (.ibin .lss (Xv 99) (Xn 0)),Yp 101 97 100,Wm 102 101,Yr 103 102 8 1,Yd 104 102 103,Yn 105 102 3,Wg 106 102 false (.ibin .geq (Xv 104) (Xv 105)),Yp 107 102 106,Wm 108 107,Yn 109 108 7,Wg 110 108 false (.ibin .gtr (Xv 109) (Xn 0)),Yn 111 108 110,Yo 112 111 8 0,Yc 113 111 112,Yo 114 111 1 2,Yc 115 111 114,Ym 116 111 7,Wg 117 111 true (.ibin .sub (Xv 116) (Xn 1)),Yx 118 111 115 117 2,Yo 119 111 118 0,Yc 120 111 119,Wg 121 111 true (.ibin .lss (Xv 113) (Xv 120)),Ym 122 111 121,Yr 123 122 8 0,Yd 124 122 123,Yr 125 122 1 2,Yd 126 122 125,Yn 127 122 7,Wg 128 122 false (.ibin .sub (Xv 127) (Xn 1)),Yy 129 122 126 128 2,Yr 130 122 129 0,Yd 131 122 130,Wg 132 122 false (.ibin .eql (Xv 124) (Xv 131)),Yn 133 122 132,Yo 134 133 8 1,Yc 135 133 134,Yo 136 133 1 2,Yc 137 133 136,Ym 138 133 7,Wg 139 133 true (.ibin .sub (Xv 138) (Xn 1)),Yx 140 133 137 139 2,Yo 141 133 140 1,Yc 142 133 141,Wg 143 133 true (.ibin .leq (Xv 135) (Xv 142)),Wg 144 122 false (.pick (Xv 133) (Xv 143) Xf),Wg 145 111 true (.pick (Xv 122) Xt (Xv 144)),Wg 146 108 false (.pick (Xv 111) (Xv 145) Xf),Yp 147 108 146] none)] (ks 88 60)
def L6:Aa:=.seq (Sq [Wm 76 7,Wo 77 1 2,Wl 78 77,We 79 78,Yl 80 76 79] (.cond (Xv 80) .skip (.exit 4))) (.seq (.block 5 (Sq [Wo 83 1 2,Wl 84 83,Wm 85 7,Wx 86 84 85 2,Wd 87 86 2,Ws 8 (.alloc z2),Yt 8 87 2] (.seq (.seq NN (Cf 147 2)) (.seq (Sq [Wo 148 8 0,Wl 149 148,Wm 150 6,Ws 151 (.ibin .geq (Xv 149) (Xv 150)),Wm 152 151,Yr 153 152 8 1,Yd 154 152 153,Yn 155 152 6,Wg 156 152 false (.ibin .gtr (Xv 154) (Xv 155)),Yp 157 152 156] (Cf 157 2)) (Sq [Wo 158 8 1,Wl 159 158,Wm 160 6,Ws 161 (.ibin .eql (Xv 159) (Xv 160))] (.cond (Xv 161) (.reg [Wm 162 6,Ya 163 162 1,Wm 6 163]) .skip)))))) (.reg [Wm 81 7,Ya 82 81 1,Wm 7 82]))
def NZ:Aa:=Sq [Yi 7 0] (Lp 4 L6)
def NY:Aa:=.reg [Wm 164 6,Wm 165 3,Ws 166 (.ibin .eql (Xv 164) (Xv 165)),Wm 2 166]
def wh:Aa:=.seq Zn (.seq Zm (.seq Zl (.seq N3 (.seq N2 (.seq N1 (.seq N0 (.seq NZ (.seq NY .ret))))))))
def rM:List RV:=rt 2
def X2:Aa:=.reg [Yu 4]
def X1:Aa:=.reg [Wm 5 0,Yk 6 98 5,Wm 7 6,Ym 8 7 1,Wg 9 7 true (.call 98 [(Xv 8)]),Wg 10 7 true (.not (Xv 9)),Yq 11 7 10,Wm 12 11,Yn 13 12 0,Yn 14 12 1,Wg 15 12 false (.ibin .lss (Xv 13) (Xv 14)),Yp 16 12 15,Wm 4 16]
def vP:Aa:=.seq X2 (.seq X1 .ret)
def rv:List RV:=rt 4
def NW:Aa:=.reg [Yi 4 0]
def Ee:Aa:=.seq (Sq [Wm 7 5,Wm 8 0,We 9 8,Yl 10 7 9,Wm 11 10,Ym 12 11 5,Ym 13 11 1,Wg 14 11 true (.len .sl (Xv 13)),Wg 15 11 true (.ibin .lss (Xv 12) (Xv 14)),Yq 16 11 15] (.cond (Xv 16) .skip (.exit 0))) (.seq (.block 1 (.seq (.draw [(Wz [Wm 19 0,Wm 20 5,Wx 21 19 20 7,Wd 22 21 7,Wm 23 1,Wm 24 5,Wx 25 23 24 7,Wd 26 25 7] (some (Yh 27 95 22 26))),(Wz [Wm 6 27] none)] (ks 19 9++ [K.of 6])) (Sq [Wm 28 6,Ws 29 (.ibin .neq (Xv 28) (Xn 0))] (.cond (Xv 29) (Sq [Wm 30 6,Wm 4 30] .ret) .skip)))) (.reg [Wm 17 5,Ya 18 17 1,Wm 5 18]))
def NV:Aa:=Sq [Yi 5 0] (Lp 0 Ee)
def NU:Aa:=Sq [Wm 31 0,We 32 31,Wm 33 1,We 34 33,Yl 35 32 34] (.cond (Xv 35) (Sq [Ws 4 (.mv (.c (.int .i64 (.negSucc 0))))] .ret) .skip)
def NT:Aa:=Sq [Wm 36 0,We 37 36,Wm 38 1,We 39 38,Ws 40 (.ibin .gtr (Xv 37) (Xv 39))] (.cond (Xv 40) (Sq [Yi 4 1] .ret) .skip)
def NS:Aa:=.reg [Yi 4 0]
def jU:Aa:=.seq NW (.seq NV (.seq NU (.seq NT (.seq NS .ret))))
def fA:List RV:=rt 4
def X5:Aa:=.reg [Yu 2]
def LT:Aa:=.seq (Sq [Wm 4 3,Wm 5 0,We 6 5,Yl 7 4 6] (.cond (Xv 7) .skip (.exit 0))) (.seq (.block 1 (Sq [Wm 10 0,Wm 11 3,Wx 12 10 11 7,Wd 13 12 7,Yk 14 96 13,Yv 15 14] (Cf 15 2))) (.reg [Wm 8 3,Ya 9 8 1,Wm 3 9]))
def X4:Aa:=Sq [Yi 3 0] (Lp 0 LT)
def X3:Aa:=.reg [Ws 2 (.mv Xt)]
def vQ:Aa:=.seq X5 (.seq X4 (.seq X3 .ret))
def rx:List RV:=rt 2
def Kk:Aa:=.reg [Ws 2 (.mv (.c .nils))]
def Kj:Aa:=Sq [Wm 4 0,We 5 4,Ws 6 (.ibin .lss (Xv 5) (Xn 2))] (.cond (Xv 6) (Sq [Wm 7 0,Wm 2 7] .ret) .skip)
def Ki:Aa:=.reg [Wm 8 0,We 9 8,Ws 10 (.ibin .quo (Xv 9) (Xn 2)),Wm 3 10]
def Kg:Aa:=.draw [(Wz [Wm 11 0,Wm 12 3,Ws 13 (.slice (Xv 11) none (some (Xv 12)) none 1),Wm 15 0,Wm 16 3,Ws 17 (.slice (Xv 15) (some (Xv 16)) none none 1)] (some (Yk 14 63 13))),⟨[],[Wm 15 0,Wm 16 3,Ws 17 (.slice (Xv 15) (some (Xv 16)) none none 1)],some (Yk 18 63 17)⟩,(Wz [] (some (Yh 19 97 14 18))),(Wz [Wm 2 19] none)] (ks 11 9++ [K.of 2])
def d8:Aa:=.seq Kk (.seq Kj (.seq Ki (.seq Kg .ret)))
def UK:List RV:=rt 2
def XI:Aa:=.reg [Ws 4 (.mv (.c .nils))]
def XH:Aa:=.reg [Ws 5 (.mv (.c .nils))]
def XG:Aa:=.reg [Yi 6 0]
def XF:Aa:=.reg [Yi 7 0]
def FM:Aa:=.seq (Sq [Wm 9 6,Wm 10 0,We 11 10,Yl 12 9 11,Wm 13 12,Yn 14 13 7,Yn 15 13 1,Wg 16 13 false (.len .sl (Xv 15)),Wg 17 13 false (.ibin .lss (Xv 14) (Xv 16)),Yp 18 13 17] (.cond (Xv 18) .skip (.exit 0))) (.block 1 (Sq [Yi 8 0] (.seq (Sq [Wm 19 6,Wm 20 0,We 21 20,Ws 22 (.ibin .eql (Xv 19) (Xv 21))] (.cond (Xv 22) (.reg [Yi 8 1]) (Sq [Wm 23 7,Wm 24 1,We 25 24,Ws 26 (.ibin .eql (Xv 23) (Xv 25))] (.cond (Xv 26) (.reg [Ws 8 (.mv (.c (.int .i64 (.negSucc 0))))]) (.draw [(Wz [Wm 27 0,Wm 28 6,Wx 29 27 28 1,Wl 30 29,Wm 31 1,Wm 32 7,Wx 33 31 32 1,Wl 34 33] (some (Yh 35 61 30 34))),(Wz [Wm 8 35] none)] (ks 27 9++ [K.of 8])))))) (.seq (Sq [Wm 36 8,Ws 37 (.ibin .leq (Xv 36) (Xn 0))] (.cond (Xv 37) (Sq [Wm 38 5,Wm 39 0,Wm 40 6,Wx 41 39 40 1,Wl 42 41,Ws 43 (.mkSl [.nils] [(0,1,(Xv 42))] 1),Ws 44 (.app (Xv 38) (Xv 43) 1 24 (some [.nils])),Wm 5 44] (.reg [Wm 45 6,Ya 46 45 1,Wm 6 46])) (.reg [Wm 47 5,Wm 48 1,Wm 49 7,Wx 50 48 49 1,Wl 51 50,Ws 52 (.mkSl [.nils] [(0,1,(Xv 51))] 1),Ws 53 (.app (Xv 47) (Xv 52) 1 24 (some [.nils])),Wm 5 53]))) (Sq [Wm 54 8,Ws 55 (.ibin .geq (Xv 54) (Xn 0))] (.cond (Xv 55) (.reg [Wm 56 7,Ya 57 56 1,Wm 7 57]) .skip))))))
def XE:Aa:=Lp 0 FM
def XD:Aa:=.reg [Wm 58 5,Wm 4 58]
def vK:Aa:=.seq XI (.seq XH (.seq XG (.seq XF (.seq XE (.seq XD .ret)))))
def rm:List RV:=rt 4
def XT:Aa:=.reg [Yb 2 0,Yb 3 1,Yi 4 0]
def XS:Aa:=Sq [Wo 6 2 0,Wl 7 6,Wo 8 3 0,Wl 9 8,Ws 10 (.ibin .neq (Xv 7) (Xv 9))] (.cond (Xv 10) (Sq [Wo 11 2 0,Wl 12 11,Wo 13 3 0,Wl 14 13,Yh 15 148 12 14,Wm 4 15] .ret) .skip)
def XR:Aa:=Sq [Wo 16 2 1,Wl 17 16,Wo 18 3 1,Wl 19 18,Ws 20 (.ibin .neq (Xv 17) (Xv 19))] (.cond (Xv 20) (Sq [Wo 21 2 1,Wl 22 21,Wo 23 3 1,Wl 24 23,Yh 25 148 22 24,Wm 4 25] .ret) .skip)
def XQ:Aa:=.reg [Wo 26 2 2,Wd 27 26 2,Wo 28 3 2,Wd 29 28 2,Yh 30 149 27 29,Wm 5 30]
def XP:Aa:=Sq [Wm 31 5,Ye 32 31 0] (.cond (Xv 32) (.reg [Wo 33 2 4,Wl 34 33,Wo 35 3 4,Wl 36 35,Yh 37 150 34 36,Wm 5 37]) .skip)
def XO:Aa:=Sq [Wm 38 5,Ye 39 38 0] (.cond (Xv 39) (.reg [Wo 40 2 5,Wl 41 40,Wo 42 3 5,Wl 43 42,Yh 44 151 41 43,Wm 5 44]) .skip)
def XN:Aa:=Sq [Wm 45 5,Ye 46 45 0] (.cond (Xv 46) (.reg [Wo 47 2 6,Wl 48 47,Wo 49 3 6,Wl 50 49,Yh 51 151 48 50,Wm 5 51]) .skip)
def XM:Aa:=.reg [Wm 52 5,Wm 4 52]
def vM:Aa:=.seq XT (.seq XS (.seq XR (.seq XQ (.seq XP (.seq XO (.seq XN (.seq XM .ret)))))))
def ro:List RV:=rt 4
def XL:Aa:=.reg [Yb 1 0,Yu 2]
def XK:Aa:=.reg [Wd 6 1 7,Yk 7 152 6,Wm 5 7,Yw 8 5 0,Yw 9 5 1,Wm 3 8,Wm 4 9]
def XJ:Aa:=.reg [Wm 10 3,Ws 11 (.ibin .leq (Xv 10) (Xn 8000)),Wm 12 11,Ym 13 12 4,Wg 14 12 true (.ibin .leq (Xv 13) (Xn 50)),Yq 15 12 14,Wm 16 15,Wg 17 16 true (.loadN (Xv 1) 7),Wg 18 16 true (.call 153 [(Xv 17)]),Yq 19 16 18,Wm 2 19]
def vL:Aa:=.seq XL (.seq XK (.seq XJ .ret))
def rn:List RV:=rt 2
def WH:Aa:=.reg [Yi 4 0]
def WG:Aa:=Sq [Wm 5 0,Wm 6 1,Yl 7 5 6] (.cond (Xv 7) (Sq [Ws 4 (.mv (.c (.int .i64 (.negSucc 0))))] .ret) .skip)
def WF:Aa:=Sq [Wm 8 0,Wm 9 1,Ws 10 (.ibin .gtr (Xv 8) (Xv 9))] (.cond (Xv 10) (Sq [Yi 4 1] .ret) .skip)
def WE:Aa:=.reg [Yi 4 0]
def vy:Aa:=.seq WH (.seq WG (.seq WF (.seq WE .ret)))
def qV:List RV:=rt 4
def WD:Aa:=.reg [Yb 2 0,Yb 3 1,Yi 4 0]
def WC:Aa:=Sq [Wo 5 2 0,Wl 6 5,Wo 7 3 0,Wl 8 7,Ws 9 (.eqv true .bool (Xv 6) (Xv 8))] (.cond (Xv 9) (.seq (Sq [Wo 10 2 0,Wl 11 10] (.cond (Xv 11) (Sq [Ws 4 (.mv (.c (.int .i64 (.negSucc 0))))] .ret) .skip)) (Sq [Yi 4 1] .ret)) .skip)
def WB:Aa:=Sq [Wo 12 2 0,Wl 13 12] (.cond (Xv 13) (Sq [Wo 14 3 1,Wl 15 14,Wo 16 2 1,Wl 17 16,Yh 18 204 15 17,Wm 4 18] .ret) .skip)
def WA:Aa:=.reg [Wo 19 2 1,Wl 20 19,Wo 21 3 1,Wl 22 21,Yh 23 204 20 22,Wm 4 23]
def vw:Aa:=.seq WD (.seq WC (.seq WB (.seq WA .ret)))
def qU:List RV:=rt 4
def Wy:Aa:=.reg [Yi 4 0]
def Ww:Aa:=.reg [Wm 5 0,Wm 6 1,Yh 7 205 5 6,Wm 4 7]
def vu:Aa:=.seq Wy (.seq Ww .ret)
def qT:List RV:=rt 4
def Wv:Aa:=.reg [Yi 4 0]
def Wu:Aa:=Sq [Wm 7 0,We 8 7,Wm 9 1,We 10 9,Ws 11 (.ibin .neq (Xv 8) (Xv 10))] (.cond (Xv 11) (Sq [Wm 12 0,We 13 12,Wm 14 1,We 15 14,Yh 16 148 13 15,Wm 4 16] .ret) .skip)
def Lz:Aa:=.seq (Sq [Wm 17 5,Wm 18 0,We 19 18,Yl 20 17 19] (.cond (Xv 20) .skip (.exit 0))) (.seq (.block 1 (.seq (.draw [(Wz [Wm 23 0,Wm 24 5,Wx 25 23 24 7,Wd 26 25 7,Wm 27 1,Wm 28 5,Wx 29 27 28 7,Wd 30 29 7] (some (Yh 31 95 26 30))),(Wz [Wm 6 31] none)] (ks 23 9++ [K.of 6])) (Sq [Wm 32 6,Ws 33 (.ibin .neq (Xv 32) (Xn 0))] (.cond (Xv 33) (Sq [Wm 34 6,Wm 4 34] .ret) .skip)))) (.reg [Wm 21 5,Ya 22 21 1,Wm 5 22]))
def Wt:Aa:=Sq [Yi 5 0] (Lp 0 Lz)
def Wq:Aa:=.reg [Yi 4 0]
def vt:Aa:=.seq Wv (.seq Wu (.seq Wt (.seq Wq .ret)))
def qS:List RV:=rt 4
def Wp:Aa:=.reg [Yb 1 0,Yi 2 0,Yi 3 0]
def Wk:Aa:=.reg [Yi 4 1]
def Wj:Aa:=.reg [Yi 5 0]
def Ly:Aa:=.seq (Sq [Wm 12 6,Wo 13 1 5,Wl 14 13,We 15 14,Yl 16 12 15] (.cond (Xv 16) .skip (.exit 0))) (.seq (.block 1 (Sq [Wo 20 1 5,Wl 21 20,Wm 22 6,Wx 23 21 22 7,Wd 24 23 7,Yk 25 152 24,Wm 19 25,Yw 26 19 0,Yw 27 19 1,Wm 7 26,Wm 8 27] (Sq [Wm 28 4,Wm 29 7,Ws 30 (.ibin .add (Xv 28) (Xv 29)),Wm 4 30] (.reg [Wm 31 5,Wm 32 8,Ws 33 (.mxn true (Xv 31) [(Xv 32)]),Wm 5 33])))) (.reg [Wm 17 6,Ya 18 17 1,Wm 6 18]))
def Wi:Aa:=Sq [Yi 6 0] (Lp 0 Ly)
def Lx:Aa:=.seq (Sq [Wm 34 9,Wo 35 1 6,Wl 36 35,We 37 36,Yl 38 34 37] (.cond (Xv 38) .skip (.exit 2))) (.seq (.block 3 (Sq [Wo 42 1 6,Wl 43 42,Wm 44 9,Wx 45 43 44 7,Wd 46 45 7,Yk 47 152 46,Wm 41 47,Yw 48 41 0,Yw 49 41 1,Wm 10 48,Wm 11 49] (Sq [Wm 50 4,Wm 51 10,Ws 52 (.ibin .add (Xv 50) (Xv 51)),Wm 4 52] (.reg [Wm 53 5,Wm 54 11,Ws 55 (.mxn true (Xv 53) [(Xv 54)]),Wm 5 55])))) (.reg [Wm 39 9,Ya 40 39 1,Wm 9 40]))
def Wh:Aa:=Sq [Yi 9 0] (Lp 2 Lx)
def Wb:Aa:=.reg [Wm 56 4,Wm 57 5,Ya 58 57 1,Wm 2 56,Wm 3 58]
def vr:Aa:=.seq Wp (.seq Wk (.seq Wj (.seq Wi (.seq Wh (.seq Wb .ret)))))
def qR:List RV:= [(.t (K.of 2)),(.t (K.of 3))]
def Wa:Aa:=.reg [Yb 1 0,Yu 2]
def V9:Aa:=Sq [Wd 5 1 7,Yk 6 206 5,Yv 7 6] (Cf 7 2)
def V8:Aa:=Sq [Wo 8 1 0,Wl 9 8,Ws 10 (.ibin .neq (Xv 9) (Xn 5)),Wm 11 10,Yo 12 11 1 0,Yc 13 11 12,Wg 14 11 true (.ibin .neq (Xv 13) (Xn 6)),Yq 15 11 14] (.cond (Xv 15) (Sq [Wo 16 1 5,Wl 17 16,We 18 17,Ye 19 18 0,Wm 20 19,Yo 21 20 1 6,Yc 22 20 21,Wg 23 20 true (.len .sl (Xv 22)),Wg 24 20 true (.ibin .eql (Xv 23) (Xn 0)),Yq 25 20 24,Wm 2 25] .ret) .skip)
def V7:Aa:=Sq [Wo 26 1 5,Wl 27 26,We 28 27,Ws 29 (.ibin .gtr (Xv 28) (Xn 4000)),Wm 30 29,Yr 31 30 1 0,Yd 32 30 31,Wg 33 30 false (.ibin .eql (Xv 32) (Xn 5)),Yn 34 30 33,Yo 35 34 1 6,Yc 36 34 35,Wg 37 34 true (.len .sl (Xv 36)),Wg 38 34 true (.ibin .neq (Xv 37) (Xn 0)),Wg 39 30 false (.pick (Xv 34) (Xv 38) Xf),Yp 40 30 39,Wm 41 40,Yr 42 41 1 0,Yd 43 41 42,Wg 44 41 false (.ibin .eql (Xv 43) (Xn 6)),Yn 45 41 44,Yo 46 45 1 6,Yc 47 45 46,Wg 48 45 true (.len .sl (Xv 47)),Yo 49 45 1 5,Yc 50 45 49,Wg 51 45 true (.len .sl (Xv 50)),Wg 52 45 true (.ibin .neq (Xv 48) (Xv 51)),Wg 53 41 false (.pick (Xv 45) (Xv 52) Xf),Yp 54 41 53] (Cf 54 2)
def Lw:Aa:=.seq (Sq [Wm 55 3,Wo 56 1 5,Wl 57 56,We 58 57,Yl 59 55 58] (.cond (Xv 59) .skip (.exit 0))) (.seq (.block 1 (Sq [Wo 62 1 5,Wl 63 62,Wm 64 3,Wx 65 63 64 7,Wd 66 65 7,Yk 67 153 66,Yv 68 67] (Cf 68 2))) (.reg [Wm 60 3,Ya 61 60 1,Wm 3 61]))
def V6:Aa:=Sq [Yi 3 0] (Lp 0 Lw)
def Lv:Aa:=.seq (Sq [Wm 69 4,Wo 70 1 6,Wl 71 70,We 72 71,Yl 73 69 72] (.cond (Xv 73) .skip (.exit 2))) (.seq (.block 3 (Sq [Wo 76 1 6,Wl 77 76,Wm 78 4,Wx 79 77 78 7,Wd 80 79 7,Yk 81 153 80,Yv 82 81] (Cf 82 2))) (.reg [Wm 74 4,Ya 75 74 1,Wm 4 75]))
def V5:Aa:=Sq [Yi 4 0] (Lp 2 Lv)
def V4:Aa:=.reg [Wo 83 1 5,Wl 84 83,Yk 85 207 84,Wm 2 85]
def vq:Aa:=.seq Wa (.seq V9 (.seq V8 (.seq V7 (.seq V6 (.seq V5 (.seq V4 .ret))))))
def qQ:List RV:=rt 2
def VN:Aa:=.reg [Yi 4 0]
def VM:Aa:=Sq [Wm 6 0,We 7 6,Wm 8 1,We 9 8,Ws 10 (.ibin .neq (Xv 7) (Xv 9))] (.cond (Xv 10) (Sq [Wm 11 0,We 12 11,Wm 13 1,We 14 13,Yh 15 148 12 14,Wm 4 15] .ret) .skip)
def Lu:Aa:=.seq (Sq [Wm 19 5,Ws 20 (.ibin .geq (Xv 19) (Xn 0))] (.cond (Xv 20) .skip (.exit 0))) (.seq (.block 1 (.seq (.draw [(Wz [Wm 23 0,Wm 24 5,Wx 25 23 24 1,Wl 26 25,Wm 27 1,Wm 28 5,Wx 29 27 28 1,Wl 30 29,Ws 31 (.ibin .neq (Xv 26) (Xv 30))] none)] (ks 23 9)) (.cond (Xv 31) (.seq (.draw [(Wz [Wm 32 0,Wm 33 5,Wx 34 32 33 1,Wl 35 34,Wm 36 1,Wm 37 5,Wx 38 36 37 1,Wl 39 38] (some (Yh 40 148 35 39))),(Wz [Wm 4 40] none)] (ks 32 9++ [K.of 4])) .ret) .skip))) (.reg [Wm 21 5,Ys 22 21 1,Wm 5 22]))
def VK:Aa:=Sq [Wm 16 0,We 17 16,Ys 18 17 1,Wm 5 18] (Lp 0 Lu)
def VJ:Aa:=.reg [Yi 4 0]
def vk:Aa:=.seq VN (.seq VM (.seq VK (.seq VJ .ret)))
def qK:List RV:=rt 4
def VI:Aa:=.reg [Yi 4 0]
def VH:Aa:=.reg [Wm 5 0,Wm 6 1,Ws 7 (.cmpStr (Xv 5) (Xv 6)),Wm 4 7]
def vj:Aa:=.seq VI (.seq VH .ret)
def qJ:List RV:=rt 4
def VG:Aa:=.reg [Yb 1 0,Yu 2]
def VF:Aa:=Sq [Wo 3 1 0,Wl 4 3] (.block 0 (Sq [Ye 6 4 1,Wm 5 6] (.cond (Xv 5) (Sq [Wo 7 1 1,Wl 8 7,Ye 9 8 0,Wm 10 9,Yr 11 10 1 1,Yd 12 10 11,Wg 13 10 false (.ibin .eql (Xv 12) (Xn 1)),Yp 14 10 13,Wm 15 14,Yo 16 15 1 2,Wg 17 15 true (.loadN (Xv 16) 2),Wg 18 15 true (.call 309 [(Xv 17)]),Yq 19 15 18,Wm 20 19,Yo 21 20 1 4,Yc 22 20 21,Wg 23 20 true (.sbin .eql (Xv 22) (.c (.str []))),Yq 24 20 23,Wm 2 24] .ret) (Sq [Ye 26 4 2,Wm 25 26] (.cond (Xv 25) (Sq [Wo 27 1 1,Wl 28 27,Ye 29 28 0,Wm 30 29,Yo 31 30 1 2,Wg 32 30 true (.loadN (Xv 31) 2),Wg 33 30 true (.call 310 [(Xv 32)]),Yq 34 30 33,Wm 35 34,Yo 36 35 1 4,Yc 37 35 36,Wg 38 35 true (.sbin .eql (Xv 37) (.c (.str []))),Yq 39 35 38,Wm 2 39] .ret) (Sq [Ye 41 4 3,Wm 40 41] (.cond (Xv 40) (Sq [Wo 42 1 1,Wl 43 42,Ye 44 43 0,Wm 45 44,Yo 46 45 1 2,Wg 47 45 true (.loadN (Xv 46) 2),Wg 48 45 true (.call 309 [(Xv 47)]),Yq 49 45 48,Wm 50 49,Yo 51 50 1 4,Yc 52 50 51,Wg 53 50 true (.call 311 [(Xv 52)]),Yq 54 50 53,Wm 2 54] .ret) (Sq [Ye 56 4 4,Wm 55 56] (.cond (Xv 55) (Sq [Wo 57 1 1,Wl 58 57,Ye 59 58 0,Wm 60 59,Yo 61 60 1 2,Wg 62 60 true (.loadN (Xv 61) 2),Wg 63 60 true (.call 309 [(Xv 62)]),Yq 64 60 63,Wm 65 64,Yo 66 65 1 4,Yc 67 65 66,Wg 68 65 true (.call 312 [(Xv 67)]),Yq 69 65 68,Wm 2 69] .ret) (.seq (Sq [Ye 71 4 5,Wm 70 71] (.cond (Xv 70) .skip (.reg [Ye 72 4 6,Wm 70 72]))) (.cond (Xv 70) (Sq [Wo 73 1 1,Wl 74 73,Ye 75 74 0,Wm 76 75,Yo 77 76 1 2,Wg 78 76 true (.loadN (Xv 77) 2),Wg 79 76 true (.call 309 [(Xv 78)]),Yq 80 76 79,Wm 81 80,Yo 82 81 1 4,Yc 83 81 82,Wg 84 81 true (.sbin .eql (Xv 83) (.c (.str []))),Yq 85 81 84,Wm 2 85] .ret) .skip)))))))))))
def VE:Aa:=.reg [Yu 2]
def vi:Aa:=.seq VG (.seq VF (.seq VE .ret))
def qI:List RV:=rt 2
def VD:Aa:=.reg [Yu 2]
def IJ:Aa:=.seq (Sq [Wm 4 3,Wm 5 0,We 6 5,Yl 7 4 6] (.cond (Xv 7) .skip (.exit 0))) (.seq (.block 1 (.seq (.draw [(Wz [Wm 10 0,Wm 11 3,Ys 12 11 1,Wx 13 10 12 7,Wd 14 13 7,Wm 15 0,Wm 16 3,Wx 17 15 16 7,Wd 18 17 7] (some (Yh 19 95 14 18))),(Wz [Ws 20 (.ibin .geq (Xv 19) (Xn 0))] none)] (ks 10 11)) (Cf 20 2))) (.reg [Wm 8 3,Ya 9 8 1,Wm 3 9]))
def VB:Aa:=Sq [Yi 3 1] (Lp 0 IJ)
def VA:Aa:=.reg [Ws 2 (.mv Xt)]
def vh:Aa:=.seq VD (.seq VB (.seq VA .ret))
def qH:List RV:=rt 2
def Vw:Aa:=.reg [Yb 1 0,Yu 2]
def Vv:Aa:=.reg [Wo 3 1 0,Wl 4 3,Yv 5 4,Wm 6 5,Yo 7 6 1 1,Yc 8 6 7,Wg 9 6 true (.len .sl (Xv 8)),Wg 10 6 true (.ibin .eql (Xv 9) (Xn 0)),Yq 11 6 10,Wm 2 11]
def vf:Aa:=.seq Vw (.seq Vv .ret)
def qF:List RV:=rt 2
def Vu:Aa:=.reg [Yb 1 0,Yu 2]
def Vt:Aa:=.reg [Wo 5 1 1,Wl 6 5,We 7 6,Wm 3 7]
def Vs:Aa:=Sq [Wm 8 3,Ws 9 (.ibin .gtr (Xv 8) (Xn 40)),Wm 10 9,Yn 11 10 3,Wg 12 10 false (.ibin .eql (Xv 11) (Xn 0)),Yn 13 10 12,Yo 14 13 1 0,Yc 15 13 14,Wg 16 10 false (.pick (Xv 13) (Xv 15) Xf),Yp 17 10 16,Wm 18 17,Yn 19 18 3,Wg 20 18 false (.ibin .gtr (Xv 19) (Xn 0)),Yn 21 18 20,Yo 22 21 1 1,Yc 23 21 22,Ym 24 21 3,Wg 25 21 true (.ibin .sub (Xv 24) (Xn 1)),Yx 26 21 23 25 1,Yc 27 21 26,Wg 28 21 true (.ibin .eql (Xv 27) (Xn 0)),Wg 29 18 false (.pick (Xv 21) (Xv 28) Xf),Yp 30 18 29] (Cf 30 2)
def Lr:Aa:=.seq (Sq [Wm 31 4,Wm 32 3,Yl 33 31 32] (.cond (Xv 33) .skip (.exit 0))) (.seq (.block 1 (Sq [Wo 36 1 1,Wl 37 36,Wm 38 4,Wx 39 37 38 1,Wl 40 39,Ws 41 (.ibin .lss (Xv 40) (Xn 0)),Wm 42 41,Yr 43 42 1 1,Yd 44 42 43,Yn 45 42 4,Yy 46 42 44 45 1,Yd 47 42 46,Wg 48 42 false (.ibin .gtr (Xv 47) (Xn 999999999)),Yp 49 42 48] (Cf 49 2))) (.reg [Wm 34 4,Ya 35 34 1,Wm 4 35]))
def Vr:Aa:=Sq [Yi 4 0] (Lp 0 Lr)
def Vq:Aa:=.reg [Ws 2 (.mv Xt)]
def ve:Aa:=.seq Vu (.seq Vt (.seq Vs (.seq Vr (.seq Vq .ret))))
def qE:List RV:=rt 2
def Vp:Aa:=.reg [Yu 2]
def Vo:Aa:=Sq [Wm 4 0,Ws 5 (.len .str (Xv 4)),Ws 6 (.ibin .gtr (Xv 5) (Xn 200))] (Cf 6 2)
def Lq:Aa:=.seq (Sq [Wm 7 3,Wm 8 0,Ws 9 (.len .str (Xv 8)),Yl 10 7 9] (.cond (Xv 10) .skip (.exit 0))) (.seq (.block 1 (Sq [Wm 13 0,Wm 14 3,Ws 15 (.idxS (Xv 13) (Xv 14)),Ws 16 (.ibin .lss (Xv 15) (.c (.int .u8 (.ofNat 32)))),Wm 17 16,Yn 18 17 0,Yn 19 17 3,Wg 20 17 false (.idxS (Xv 18) (Xv 19)),Wg 21 17 false (.ibin .gtr (Xv 20) (.c (.int .u8 (.ofNat 126)))),Yp 22 17 21] (Cf 22 2))) (.reg [Wm 11 3,Ya 12 11 1,Wm 3 12]))
def Vn:Aa:=Sq [Yi 3 0] (Lp 0 Lq)
def Vm:Aa:=.reg [Ws 2 (.mv Xt)]
def vd:Aa:=.seq Vp (.seq Vo (.seq Vn (.seq Vm .ret)))
def qD:List RV:=rt 2
def Vl:Aa:=.reg [Yu 2]
def Vk:Aa:=Sq [Wm 7 0,Ws 8 (.len .str (Xv 7)),Ws 9 (.ibin .lss (Xv 8) (Xn 1)),Wm 10 9,Yn 11 10 0,Wg 12 10 false (.len .str (Xv 11)),Wg 13 10 false (.ibin .gtr (Xv 12) (Xn 40)),Yp 14 10 13,Wm 15 14,Yn 16 15 0,Wg 17 15 false (.sbin .eql (Xv 16) (.c (.str [84,82,85,69]))),Yp 18 15 17,Wm 19 18,Yn 20 19 0,Wg 21 19 false (.sbin .eql (Xv 20) (.c (.str [70,65,76,83,69]))),Yp 22 19 21] (Cf 22 2)
def II:Aa:=.seq (Sq [Wm 23 3,Wm 24 0,Ws 25 (.len .str (Xv 24)),Yl 26 23 25] (.cond (Xv 26) .skip (.exit 0))) (.seq (.block 1 (Sq [Wm 29 0,Wm 30 3,Ws 31 (.idxS (Xv 29) (Xv 30)),Wm 4 31] (Sq [Wm 32 4,Ws 33 (.ibin .geq (Xv 32) (.c (.int .u8 (.ofNat 65)))),Wm 34 33,Ym 35 34 4,Wg 36 34 true (.ibin .leq (Xv 35) (.c (.int .u8 (.ofNat 90)))),Yq 37 34 36,Wm 38 37,Yn 39 38 4,Wg 40 38 false (.ibin .geq (Xv 39) (.c (.int .u8 (.ofNat 97)))),Yn 41 38 40,Ym 42 41 4,Wg 43 41 true (.ibin .leq (Xv 42) (.c (.int .u8 (.ofNat 122)))),Wg 44 38 false (.pick (Xv 41) (Xv 43) Xf),Yp 45 38 44,Wm 5 45] (Sq [Wm 46 4,Ws 47 (.ibin .geq (Xv 46) (.c (.int .u8 (.ofNat 48)))),Wm 48 47,Ym 49 48 4,Wg 50 48 true (.ibin .leq (Xv 49) (.c (.int .u8 (.ofNat 57)))),Yq 51 48 50,Wm 52 51,Yn 53 52 4,Wg 54 52 false (.ibin .eql (Xv 53) (.c (.int .u8 (.ofNat 95)))),Yp 55 52 54,Wm 6 55] (Sq [Wm 56 5,Yv 57 56,Wm 58 57,Ym 59 58 6,Wg 60 58 true (.not (Xv 59)),Ym 61 58 60,Yn 62 61 3,Wg 63 61 false (.ibin .eql (Xv 62) (Xn 0)),Wg 64 58 true (.pick (Xv 61) Xt (Xv 63)),Yq 65 58 64] (Cf 65 2)))))) (.reg [Wm 27 3,Ya 28 27 1,Wm 3 28]))
def Vj:Aa:=Sq [Yi 3 0] (Lp 0 II)
def Vi:Aa:=.reg [Ws 2 (.mv Xt)]
def vc:Aa:=.seq Vl (.seq Vk (.seq Vj (.seq Vi .ret)))
def qC:List RV:=rt 2
structure Hns (E:Env):Prop where
  f1007:Wf E 7 wz rY
  f1024:Wf E 24 wh rM
  f1066:Wf E 66 vP rv
  f1061:Wf E 61 jU fA
  f1062:Wf E 62 vQ rx
  f1063:Wf E 63 d8 UK
  f1097:Wf E 97 vK rm
  f1095:Wf E 95 vM ro
  f1096:Wf E 96 vL rn
  f1148:Wf E 148 vy qV
  f1149:Wf E 149 vw qU
  f1150:Wf E 150 vu qT
  f1151:Wf E 151 vt qS
  f1152:Wf E 152 vr qR
  f1153:Wf E 153 vq qQ
  f1204:Wf E 204 vk qK
  f1205:Wf E 205 vj qJ
  f1206:Wf E 206 vi qI
  f1207:Wf E 207 vh qH
  f1309:Wf E 309 vf qF
  f1310:Wf E 310 ve qE
  f1311:Wf E 311 vd qD
  f1312:Wf E 312 vc qC
end
end Go.AJ
