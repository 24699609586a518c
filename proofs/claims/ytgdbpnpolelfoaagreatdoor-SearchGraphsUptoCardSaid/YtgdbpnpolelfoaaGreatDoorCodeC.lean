/- The code of more functions that the law reaches. -/
import Derived.Test.YtgdbpnpolelfoaaGreatDoorCodeB
set_option linter.all false
namespace Go.AJ
open Go
noncomputable section
def N5:Aa:=.reg [Yb 3 0,Ws 6 (.mv (.c .nils)),Yi 7 0]
def N4:Aa:=Sq [Wd 23 3 3,Yk 24 46 23,Yv 25 24] (.cond (Xv 25) (Sq [Ws 6 (.mv (.c .nils)),Yi 7 230] .ret) .skip)
def ZY:Aa:=.reg [Ws 26 (.mkf 52 [] [(Xv 3)]),Wm 8 26]
def ZX:Aa:=Sq [Wm 27 1,Wm 28 8,Yh 29 26 27 28,Wm 30 29,Yn 31 30 2,Yn 32 30 8,Wg 33 30 false (.call 26 [(Xv 31),(Xv 32)]),Yp 34 30 33] (.cond (Xv 34) (Sq [Ws 6 (.mv (.c .nils)),Yi 7 1] .ret) .skip)
def ZW:Aa:=.draw [(Wz [Wo 35 3 0,Wl 36 35,We 37 36,Ws 38 (.mkslice (Xv 37) (Xv 37) [vF] 1),Wo 39 3 0,Wl 40 39,We 41 40,Ws 42 (.mkslice (Xv 41) (Xv 41) [vF] 1),Ws 10 (.alloc [.nils]),Wm 9 38] (some (Yt 10 42 1))),(Wz [] none)] (ks 35 8++ [K.of 10,K.of 9])
def Mk:Aa:=Sq [Yl 46 45 44] (.seq (.cond (Xv 46) .skip (.exit 0)) (.seq (.block 1 (Sq [Wx 47 43 45 1,Wl 48 47,Wm 12 48] (.reg [Wm 49 9,Wm 50 12,Wx 51 49 50 1,Wn (.store (Xv 51) Xt 1)]))) (.reg [Ya 52 45 1,Wm 45 52])))
def ZV:Aa:=Sq [Wm 43 2,We 44 43,Yi 45 0] (Lp 0 Mk)
def ZU:Aa:=.reg [Wo 53 3 0,Wl 54 53,We 55 54,Ws 56 (.mkslice (Xv 55) (Xv 55) [.nils] 24),Wm 13 56]
def Mj:Aa:=Sq [Yl 61 60 59] (.seq (.cond (Xv 61) .skip (.exit 2)) (.seq (.block 3 (Sq [Wx 62 58 60 2,Wd 63 62 2,Ws 15 (.alloc z2),Yt 15 63 2] (.draw [(Wz [Wm 64 13,Wo 65 15 0,Wl 66 65,Wm 67 13,Wo 68 15 0,Wl 69 68,Wx 70 67 69 1,Wl 71 70,Wo 72 15 1,Wl 73 72,Ws 74 (.mkSl [(vI 0)] [(0,1,(Xv 73))] 1)] (some (Ws 75 (.app (Xv 71) (Xv 74) 1 8 (some [(vI 0)]))))),⟨[Wx 76 64 66 1],[Wm 64 13,Wo 65 15 0,Wl 66 65,Wx 76 64 66 1],some (Yt 76 75 1)⟩,(Wz [] none)] (ks 64 13)))) (.reg [Ya 77 60 1,Wm 60 77])))
def ZT:Aa:=Sq [Wo 57 3 2,Wl 58 57,We 59 58,Yi 60 0] (Lp 2 Mj)
def ZS:Aa:=.reg [Ws 16 (.alloc [.nils])]
def ZR:Aa:=.reg [Ws 78 (.mkf 53 [] [(Xv 10),(Xv 16)]),Wm 17 78]
def Mi:Aa:=Sq [Yl 82 81 80] (.seq (.cond (Xv 82) .skip (.exit 4)) (.seq (.block 5 (Sq [Wx 83 79 81 1,Wl 84 83,Wm 19 84] (.reg [Wm 85 17,Wm 86 19,Ws 87 (.callv (Xv 85) [(Xv 86)])]))) (.reg [Ya 88 81 1,Wm 81 88])))
def PU:Aa:=Sq [Wm 79 1,We 80 79,Yi 81 0] (Lp 4 Mi)
def Mh:Aa:=Sq [Yl 111 110 109] (.seq (.cond (Xv 111) .skip (.exit 8)) (.seq (.block 9 (Sq [Wx 112 108 110 1,Wl 113 112,Wm 22 113] (.reg [Wm 114 17,Wm 115 22,Ws 116 (.callv (Xv 114) [(Xv 115)])]))) (.reg [Ya 117 110 1,Wm 110 117])))
def Mg:Aa:=.seq (Sq [Wm 89 20,Wl 90 16,We 91 90,Yl 92 89 91] (.cond (Xv 92) .skip (.exit 6))) (.seq (.block 7 (.seq (Sq [Wm 95 9,Wl 96 16,Wm 97 20,Wx 98 96 97 1,Wl 99 98,Wx 100 95 99 1,Wl 101 100] (.cond (Xv 101) (.exit 7) .skip)) (Sq [Wm 102 13,Wl 103 16,Wm 104 20,Wx 105 103 104 1,Wl 106 105,Wx 107 102 106 1,Wl 108 107,We 109 108,Yi 110 0] (Lp 8 Mh)))) (.reg [Wm 93 20,Ya 94 93 1,Wm 20 94]))
def PT:Aa:=Sq [Yi 20 0] (Lp 6 Mg)
def PS:Aa:=.reg [Wl 118 16,Yk 119 54 118]
def PQ:Aa:=.reg [Wl 120 16,Wm 6 120,Yi 7 0]
def jW:Aa:=.seq N5 (.seq N4 (.seq ZY (.seq ZX (.seq ZW (.seq ZV (.seq ZU (.seq ZT (.seq ZS (.seq ZR (.seq PU (.seq PT (.seq PS (.seq PQ .ret)))))))))))))
def fC:List RV:= [(.t (K.of 6)),(.t (K.of 7))]
def YN:Aa:=.reg [Yu 3]
def YM:Aa:=.reg [Wm 4 0,Ws 5 (.ibin .lss (Xv 4) (Xn 0)),Wm 6 5,Yn 7 6 0,Yr 8 6 1 0,Yd 9 6 8,Wg 10 6 false (.len .sl (Xv 9)),Wg 11 6 false (.ibin .geq (Xv 7) (Xv 10)),Yp 12 6 11,Wm 3 12]
def wa:Aa:=.seq YN (.seq YM .ret)
def rG:List RV:=rt 3
def YL:Aa:=.reg [Wl 4 1,Wm 5 0,Wx 6 4 5 1,Wl 7 6,Yv 8 7]
def vY:Aa:=.seq YL (.cond (Xv 8) (Sq [Wl 9 1,Wm 10 0,Wx 11 9 10 1,Wn (.store (Xv 11) Xt 1)] (.reg [Wl 12 2,Wm 13 0,Ws 14 (.mkSl [(vI 0)] [(0,1,(Xv 13))] 1),Ws 15 (.app (Xv 12) (Xv 14) 1 8 (some [(vI 0)])),Yt 2 15 1])) .skip)
def rF:List RV:= []
def NX:Aa:=.reg [Wm 3 0,We 4 3,Wm 2 4]
def jV:Aa:=.seq NX (.reg [Wm 5 0,Wm 6 2,Wm 7 2,Ws 8 (.conv .u64 (Xv 7)),Yk 9 93 8,Ws 10 (.call 92 [(Xv 5),(Xn 0),(Xv 6),(Xv 9)])])
def fB:List RV:= []
def XW:Aa:=.reg [Yi 2 0]
def XV:Aa:=.cond Xf (Sq [Wm 3 0,Ws 4 (.conv .u32 (Xv 3)),Yk 5 143 4,Wm 2 5] .ret) .skip
def XU:Aa:=.reg [Wm 6 0,Yk 7 144 6,Wm 2 7]
def vN:Aa:=.seq XW (.seq XV (.seq XU .ret))
def rq:List RV:=rt 2
def Kf:Aa:=.reg [Ws 8 (.mv Xt)]
def Ke:Aa:=.reg [Ws 9 (.mv Xt)]
def NJ:Aa:=Sq [Wm 95 0,Wm 96 1,Wm 97 2,Wm 98 11,Ws 99 (.call 142 [(Xv 95),(Xv 96),(Xv 97),(Xv 98)]),Wm 94 99,Yw 100 94 0,Yw 101 94 1,Wm 14 100,Wm 15 101] (Sq [Wm 102 15,Wm 9 102] (Sq [Wm 103 14,Wm 104 1,Ws 105 (.ibin .sub (Xv 103) (Xv 104)),Wm 106 2,Wm 107 14,Ws 108 (.ibin .sub (Xv 106) (Xv 107)),Wm 16 105,Wm 17 108] (Sq [Wm 109 10,Ws 110 (.ibin .quo (Xv 109) (Xn 8)),Wm 18 110] (Sq [Wm 111 16,Wm 112 17,Yl 113 111 112] (.cond (Xv 113) (Sq [Wm 114 16,Wm 115 18,Ws 116 (.ibin .geq (Xv 114) (Xv 115)),Wm 8 116] (Sq [Wm 117 0,Wm 118 1,Wm 119 14,Wm 120 3,Ws 121 (.call 92 [(Xv 117),(Xv 118),(Xv 119),(Xv 120)])] (.reg [Wm 122 14,Ya 123 122 1,Wm 1 123]))) (Sq [Wm 124 17,Wm 125 18,Ws 126 (.ibin .geq (Xv 124) (Xv 125)),Wm 8 126] (Sq [Wm 127 0,Wm 128 14,Ya 129 128 1,Wm 130 2,Wm 131 3,Ws 132 (.call 92 [(Xv 127),(Xv 129),(Xv 130),(Xv 131)])] (.reg [Wm 133 14,Wm 2 133]))))))))
def NK:Aa:=.seq (.seq (.draw [(Wz [Wm 73 1,Ws 74 (.ibin .gtr (Xv 73) (Xn 0)),Wm 75 74,Ym 76 75 0,Ym 77 75 1,Wg 78 75 true (.ibin .sub (Xv 77) (Xn 1)),Yx 79 75 76 78 1,Yc 80 75 79,Ym 81 75 0,Ym 82 75 11,Yx 83 75 81 82 1,Yc 84 75 83] (some (Wg 85 75 true (.call 66 [(Xv 80),(Xv 84)])))),(Wz [Wg 86 75 true (.not (Xv 85)),Yq 87 75 86] none)] (ks 73 15)) (.cond (Xv 87) (Sq [Wm 88 0,Wm 89 1,Wm 90 2,Wm 91 11,Ws 92 (.call 141 [(Xv 88),(Xv 89),(Xv 90),(Xv 91)]),Wm 13 92] (Sq [Wm 93 13,Wm 1 93] (.exit 1))) .skip)) NJ
def NL:Aa:=.seq (Sq [Wm 61 8,Wm 62 61,Ym 63 62 9,Yq 64 62 63,Wm 65 64,Ym 66 65 12,Wg 67 65 true (.ibin .eql (Xv 66) (Xn 1)),Yq 68 65 67] (.cond (Xv 68) (Sq [Wm 69 0,Wm 70 1,Wm 71 2,Ws 72 (.call 140 [(Xv 69),(Xv 70),(Xv 71)])] (.cond (Xv 72) .ret .skip)) .skip)) NK
def NM:Aa:=Sq [Wm 43 0,Wm 44 1,Wm 45 2,Ws 46 (.call 138 [(Xv 43),(Xv 44),(Xv 45)]),Wm 42 46,Yw 47 42 0,Yw 48 42 1,Wm 11 47,Wm 12 48] (.seq (Sq [Wm 49 12,Ye 50 49 2] (.cond (Xv 50) (Sq [Wm 51 0,Wm 52 1,Wm 53 2,Ws 54 (.call 139 [(Xv 51),(Xv 52),(Xv 53)])] (Sq [Wm 55 2,Ys 56 55 1,Wm 57 11,Wm 58 1,Ws 59 (.ibin .sub (Xv 57) (Xv 58)),Ws 60 (.ibin .sub (Xv 56) (Xv 59)),Wm 11 60] (.reg [Yi 12 1]))) .skip)) NL)
def FN:Aa:=.block 1 (Sq [Wm 19 2,Wm 20 1,Ws 21 (.ibin .sub (Xv 19) (Xv 20)),Wm 10 21] (.seq (Sq [Wm 22 10,Ws 23 (.ibin .leq (Xv 22) (Xn 12))] (.cond (Xv 23) (Sq [Wm 24 0,Wm 25 1,Wm 26 2,Ws 27 (.call 135 [(Xv 24),(Xv 25),(Xv 26)])] .ret) .skip)) (.seq (Sq [Wm 28 3,Ye 29 28 0] (.cond (Xv 29) (Sq [Wm 30 0,Wm 31 1,Wm 32 2,Ws 33 (.call 136 [(Xv 30),(Xv 31),(Xv 32)])] .ret) .skip)) (.seq (Sq [Wm 34 8,Yv 35 34] (.cond (Xv 35) (Sq [Wm 36 0,Wm 37 1,Wm 38 2,Ws 39 (.call 137 [(Xv 36),(Xv 37),(Xv 38)])] (.reg [Wm 40 3,Ys 41 40 1,Wm 3 41])) .skip)) NM))))
def d7:Aa:=.seq Kf (.seq Ke (Lp 0 FN))
def UJ:List RV:= []
def sn:Aa:=.reg [Yi 2 0]
def sk:Aa:=Sq [Wm 3 0,Ws 4 (.ibin .geq (Xv 3) (.c (.int .u32 (.ofNat 65536))))] (.cond (Xv 4) (Sq [Wm 5 0,Ws 6 (.ibin .shr (Xv 5) (.c (.int .u64 (.ofNat 16)))),Wm 0 6] (.reg [Yi 2 16])) .skip)
def sj:Aa:=Sq [Wm 7 0,Ws 8 (.ibin .geq (Xv 7) (.c (.int .u32 (.ofNat 256))))] (.cond (Xv 8) (Sq [Wm 9 0,Ws 10 (.ibin .shr (Xv 9) (.c (.int .u64 (.ofNat 8)))),Wm 0 10] (.reg [Wm 11 2,Ya 12 11 8,Wm 2 12])) .skip)
def sg:Aa:=.reg [Wm 13 2,Wm 14 0,Ws 15 (.conv .u8 (Xv 14)),Ws 16 (.idxS (.c (.str [0,1,2,2,3,3,3,3,4,4,4,4,4,4,4,4,5,5,5,5,5,5,5,5,5,5,5,5,5,5,5,5,6,6,6,6,6,6,6,6,6,6,6,6,6,6,6,6,6,6,6,6,6,6,6,6,6,6,6,6,6,6,6,6,7,7,7,7,7,7,7,7,7,7,7,7,7,7,7,7,7,7,7,7,7,7,7,7,7,7,7,7,7,7,7,7,7,7,7,7,7,7,7,7,7,7,7,7,7,7,7,7,7,7,7,7,7,7,7,7,7,7,7,7,7,7,7,7,8,8,8,8,8,8,8,8,8,8,8,8,8,8,8,8,8,8,8,8,8,8,8,8,8,8,8,8,8,8,8,8,8,8,8,8,8,8,8,8,8,8,8,8,8,8,8,8,8,8,8,8,8,8,8,8,8,8,8,8,8,8,8,8,8,8,8,8,8,8,8,8,8,8,8,8,8,8,8,8,8,8,8,8,8,8,8,8,8,8,8,8,8,8,8,8,8,8,8,8,8,8,8,8,8,8,8,8,8,8,8,8,8,8,8,8,8,8,8,8,8,8,8,8,8,8,8,8])) (Xv 15)),Ws 17 (.conv .i64 (Xv 16)),Ws 18 (.ibin .add (Xv 13) (Xv 17)),Wm 2 18]
def Aan:Aa:=.seq sn (.seq sk (.seq sj (.seq sg .ret)))
def xx:List RV:=rt 2
def WM:Aa:=.reg [Yi 2 0]
def WL:Aa:=Sq [Wm 3 0,Ws 4 (.ibin .geq (Xv 3) (.c (.int .u64 (.ofNat 4294967296))))] (.cond (Xv 4) (Sq [Wm 5 0,Ws 6 (.ibin .shr (Xv 5) (.c (.int .u64 (.ofNat 32)))),Wm 0 6] (.reg [Yi 2 32])) .skip)
def WK:Aa:=Sq [Wm 7 0,Ws 8 (.ibin .geq (Xv 7) (.c (.int .u64 (.ofNat 65536))))] (.cond (Xv 8) (Sq [Wm 9 0,Ws 10 (.ibin .shr (Xv 9) (.c (.int .u64 (.ofNat 16)))),Wm 0 10] (.reg [Wm 11 2,Ya 12 11 16,Wm 2 12])) .skip)
def WJ:Aa:=Sq [Wm 13 0,Ws 14 (.ibin .geq (Xv 13) (.c (.int .u64 (.ofNat 256))))] (.cond (Xv 14) (Sq [Wm 15 0,Ws 16 (.ibin .shr (Xv 15) (.c (.int .u64 (.ofNat 8)))),Wm 0 16] (.reg [Wm 17 2,Ya 18 17 8,Wm 2 18])) .skip)
def WI:Aa:=.reg [Wm 19 2,Wm 20 0,Ws 21 (.conv .u8 (Xv 20)),Ws 22 (.idxS (.c (.str [0,1,2,2,3,3,3,3,4,4,4,4,4,4,4,4,5,5,5,5,5,5,5,5,5,5,5,5,5,5,5,5,6,6,6,6,6,6,6,6,6,6,6,6,6,6,6,6,6,6,6,6,6,6,6,6,6,6,6,6,6,6,6,6,7,7,7,7,7,7,7,7,7,7,7,7,7,7,7,7,7,7,7,7,7,7,7,7,7,7,7,7,7,7,7,7,7,7,7,7,7,7,7,7,7,7,7,7,7,7,7,7,7,7,7,7,7,7,7,7,7,7,7,7,7,7,7,7,8,8,8,8,8,8,8,8,8,8,8,8,8,8,8,8,8,8,8,8,8,8,8,8,8,8,8,8,8,8,8,8,8,8,8,8,8,8,8,8,8,8,8,8,8,8,8,8,8,8,8,8,8,8,8,8,8,8,8,8,8,8,8,8,8,8,8,8,8,8,8,8,8,8,8,8,8,8,8,8,8,8,8,8,8,8,8,8,8,8,8,8,8,8,8,8,8,8,8,8,8,8,8,8,8,8,8,8,8,8,8,8,8,8,8,8,8,8,8,8,8,8,8,8,8,8,8,8])) (Xv 21)),Ws 23 (.conv .i64 (Xv 22)),Ws 24 (.ibin .add (Xv 19) (Xv 23)),Wm 2 24]
def vz:Aa:=.seq WM (.seq WL (.seq WK (.seq WJ (.seq WI .ret))))
def qW:List RV:=rt 2
def NR:Aa:=.reg [Wm 8 1,Ya 9 8 1,Wm 6 9]
def LR:Aa:=.seq (.seq (.draw [(Wz [Wm 16 7,Wm 17 1,Ws 18 (.ibin .gtr (Xv 16) (Xv 17)),Wm 19 18,Ym 20 19 0,Ym 21 19 7,Yx 22 19 20 21 1,Yc 23 19 22,Ym 24 19 0,Ym 25 19 7,Wg 26 19 true (.ibin .sub (Xv 25) (Xn 1)),Yx 27 19 24 26 1,Yc 28 19 27] (some (Wg 29 19 true (.call 66 [(Xv 23),(Xv 28)])))),(Wz [Yq 30 19 29] none)] (ks 16 15)) (.cond (Xv 30) .skip (.exit 2))) (.seq (.block 3 (.draw [(Wz [Wm 33 0,Wm 34 7,Wm 35 0,Wm 36 7,Ys 37 36 1,Wm 38 0,Wm 39 7,Ys 40 39 1,Wx 41 38 40 1,Wl 42 41,Wm 43 0,Wm 44 7,Wx 45 43 44 1,Wl 46 45,Wx 47 33 34 1] (some (Yt 47 42 1))),⟨[Wx 48 35 37 1],[Wm 35 0,Wm 36 7,Ys 37 36 1,Wx 48 35 37 1],some (Yt 48 46 1)⟩,(Wz [] none)] (ks 33 16))) (.reg [Wm 31 7,Ys 32 31 1,Wm 7 32]))
def GS:Aa:=.seq (Sq [Wm 10 6,Wm 11 2,Yl 12 10 11] (.cond (Xv 12) .skip (.exit 0))) (.seq (.block 1 (Sq [Wm 15 6,Wm 7 15] (Lp 2 LR))) (.reg [Wm 13 6,Ya 14 13 1,Wm 6 14]))
def jT:Aa:=.seq NR (Lp 0 GS)
def fu:List RV:= []
def XC:Aa:=.reg [Wm 11 1,Wm 6 11]
def XB:Aa:=.reg [Yi 7 0]
def XA:Aa:=.reg [Wm 12 2,Wm 13 1,Ws 14 (.ibin .sub (Xv 12) (Xv 13)),Wm 8 14]
def LQ:Aa:=.seq (Sq [Wm 18 9,Ws 19 (.ibin .geq (Xv 18) (Xn 0))] (.cond (Xv 19) .skip (.exit 0))) (.seq (.block 1 (.reg [Wm 22 0,Wm 23 9,Wm 24 8,Wm 25 6,Ws 26 (.call 198 [(Xv 22),(Xv 23),(Xv 24),(Xv 25)])])) (.reg [Wm 20 9,Ys 21 20 1,Wm 9 21]))
def Xy:Aa:=Sq [Wm 15 8,Ys 16 15 1,Ws 17 (.ibin .quo (Xv 16) (Xn 2)),Wm 9 17] (Lp 0 LQ)
def Xx:Aa:=.reg [Wm 27 8,Ys 28 27 1,Wm 10 28]
def LP:Aa:=.seq (Sq [Wm 29 10,Ws 30 (.ibin .geq (Xv 29) (Xn 0))] (.cond (Xv 30) .skip (.exit 2))) (.seq (.block 3 (.seq (.draw [(Wz [Wm 33 0,Wm 34 6,Wm 35 0,Wm 36 6,Wm 37 10,Ws 38 (.ibin .add (Xv 36) (Xv 37)),Wm 39 0,Wm 40 6,Wm 41 10,Ws 42 (.ibin .add (Xv 40) (Xv 41)),Wx 43 39 42 1,Wl 44 43,Wm 45 0,Wm 46 6,Wx 47 45 46 1,Wl 48 47,Wx 49 33 34 1] (some (Yt 49 44 1))),⟨[Wx 50 35 38 1],[Wm 35 0,Wm 36 6,Wm 37 10,Ws 38 (.ibin .add (Xv 36) (Xv 37)),Wx 50 35 38 1],some (Yt 50 48 1)⟩,(Wz [] none)] (ks 33 18)) (.reg [Wm 51 0,Wm 52 7,Wm 53 10,Wm 54 6,Ws 55 (.call 198 [(Xv 51),(Xv 52),(Xv 53),(Xv 54)])]))) (.reg [Wm 31 10,Ys 32 31 1,Wm 10 32]))
def vJ:Aa:=.seq XC (.seq XB (.seq XA (.seq Xy (.seq Xx (Lp 2 LP)))))
def rk:List RV:= []
def Xw:Aa:=.reg [Wm 11 2,Wm 12 1,Ws 13 (.ibin .sub (Xv 11) (Xv 12)),Wm 6 13]
def Xu:Aa:=.reg [Wm 14 6,Ws 15 (.ibin .geq (Xv 14) (Xn 8))]
def LO:Aa:=.seq (Sq [Wm 26 9,Wm 27 1,Wm 28 6,Ws 29 (.ibin .quo (Xv 28) (Xn 4)),Ws 30 (.ibin .mul (Xv 29) (Xn 2)),Ws 31 (.ibin .add (Xv 27) (Xv 30)),Ya 32 31 1,Ws 33 (.ibin .leq (Xv 26) (Xv 32))] (.cond (Xv 33) .skip (.exit 0))) (.seq (.block 1 (Sq [Yk 36 200 7,Wm 37 8,Ws 38 (.ibin .sub (Xv 37) (.c (.int .u64 (.ofNat 1)))),Ws 39 (.ibin .and (Xv 36) (Xv 38)),Ws 40 (.conv .i64 (Xv 39)),Wm 10 40] (.seq (Sq [Wm 41 10,Wm 42 6,Ws 43 (.ibin .geq (Xv 41) (Xv 42))] (.cond (Xv 43) (.reg [Wm 44 10,Wm 45 6,Ws 46 (.ibin .sub (Xv 44) (Xv 45)),Wm 10 46]) .skip)) (.draw [(Wz [Wm 47 0,Wm 48 9,Wm 49 0,Wm 50 1,Wm 51 10,Ws 52 (.ibin .add (Xv 50) (Xv 51)),Wm 53 0,Wm 54 1,Wm 55 10,Ws 56 (.ibin .add (Xv 54) (Xv 55)),Wx 57 53 56 1,Wl 58 57,Wm 59 0,Wm 60 9,Wx 61 59 60 1,Wl 62 61,Wx 63 47 48 1] (some (Yt 63 58 1))),⟨[Wx 64 49 52 1],[Wm 49 0,Wm 50 1,Wm 51 10,Ws 52 (.ibin .add (Xv 50) (Xv 51)),Wx 64 49 52 1],some (Yt 64 62 1)⟩,(Wz [] none)] (ks 47 18))))) (.reg [Wm 34 9,Ya 35 34 1,Wm 9 35]))
def vH:Aa:=.seq Xw (.seq Xu (.cond (Xv 15) (Sq [Wm 16 6,Ws 17 (.conv .u64 (Xv 16)),Ws 7 (.alloc [(.int .u64 (.ofNat 0))]),Yt 7 17 1] (Sq [Wm 18 6,Yk 19 199 18,Wm 8 19] (Sq [Wm 20 1,Wm 21 6,Ws 22 (.ibin .quo (Xv 21) (Xn 4)),Ws 23 (.ibin .mul (Xv 22) (Xn 2)),Ws 24 (.ibin .add (Xv 20) (Xv 23)),Ys 25 24 1,Wm 9 25] (Lp 0 LO)))) .skip))
def rj:List RV:= []
def Xs:Aa:=.reg [Yi 6 0,Yi 7 0]
def Xr:Aa:=.reg [Wm 13 2,Wm 14 1,Ws 15 (.ibin .sub (Xv 13) (Xv 14)),Wm 8 15]
def Xq:Aa:=.reg [Ws 9 (.alloc [(vI 0)])]
def Xp:Aa:=.reg [Wm 16 1,Wm 17 8,Ws 18 (.ibin .quo (Xv 17) (Xn 4)),Ws 19 (.ibin .mul (Xv 18) (Xn 1)),Ws 20 (.ibin .add (Xv 16) (Xv 19)),Wm 10 20]
def Xo:Aa:=.reg [Wm 21 1,Wm 22 8,Ws 23 (.ibin .quo (Xv 22) (Xn 4)),Ws 24 (.ibin .mul (Xv 23) (Xn 2)),Ws 25 (.ibin .add (Xv 21) (Xv 24)),Wm 11 25]
def Xm:Aa:=.reg [Wm 26 1,Wm 27 8,Ws 28 (.ibin .quo (Xv 27) (Xn 4)),Ws 29 (.ibin .mul (Xv 28) (Xn 3)),Ws 30 (.ibin .add (Xv 26) (Xv 29)),Wm 12 30]
def Xl:Aa:=Sq [Wm 31 8,Ws 32 (.ibin .geq (Xv 31) (Xn 8))] (.cond (Xv 32) (.seq (Sq [Wm 33 8,Ws 34 (.ibin .geq (Xv 33) (Xn 50))] (.cond (Xv 34) (Sq [Wm 35 0,Wm 36 10,Ws 37 (.call 201 [(Xv 35),(Xv 36),(Xv 9)]),Wm 10 37] (Sq [Wm 38 0,Wm 39 11,Ws 40 (.call 201 [(Xv 38),(Xv 39),(Xv 9)]),Wm 11 40] (.reg [Wm 41 0,Wm 42 12,Ws 43 (.call 201 [(Xv 41),(Xv 42),(Xv 9)]),Wm 12 43]))) .skip)) (.reg [Wm 44 0,Wm 45 10,Wm 46 11,Wm 47 12,Ws 48 (.call 202 [(Xv 44),(Xv 45),(Xv 46),(Xv 47),(Xv 9)]),Wm 11 48])) .skip)
def Xk:Aa:=.reg [Wl 49 9]
def NI:Aa:=.seq Xk (.block 0 (Sq [Ye 52 49 0,Wm 51 52] (.cond (Xv 51) (Sq [Wm 53 11,Wm 6 53,Yi 7 1] .ret) (Sq [Ye 55 49 12,Wm 54 55] (.cond (Xv 54) (Sq [Wm 56 11,Wm 6 56,Yi 7 2] .ret) (Sq [Wm 50 11,Wm 6 50,Yi 7 0] .ret))))))
def vG:Aa:=.seq Xs (.seq Xr (.seq Xq (.seq Xp (.seq Xo (.seq Xm (.seq Xl NI))))))
def ri:List RV:= [(.t (K.of 6)),(.t (K.of 7))]
def Xj:Aa:=.reg [Wm 8 1,Wm 6 8]
def Xi:Aa:=.reg [Wm 9 2,Ys 10 9 1,Wm 7 10]
def LN:Aa:=.seq (Sq [Wm 11 6,Wm 12 7,Yl 13 11 12] (.cond (Xv 13) .skip (.exit 0))) (.block 1 (.seq (.draw [(Wz [Wm 14 0,Wm 15 6,Wm 16 0,Wm 17 7,Wm 18 0,Wm 19 7,Wx 20 18 19 1,Wl 21 20,Wm 22 0,Wm 23 6,Wx 24 22 23 1,Wl 25 24,Wx 26 14 15 1] (some (Yt 26 21 1))),⟨[Wx 27 16 17 1],[Wm 16 0,Wm 17 7,Wx 27 16 17 1],some (Yt 27 25 1)⟩,(Wz [] none)] (ks 14 14)) (Sq [Wm 28 6,Ya 29 28 1,Wm 6 29] (.reg [Wm 30 7,Ys 31 30 1,Wm 7 31]))))
def vD:Aa:=.seq Xj (.seq Xi (Lp 0 LN))
def rh:List RV:= []
def Xh:Aa:=.reg [Yu 6]
def Xg:Aa:=.reg [Wm 11 1,Ya 12 11 1,Wm 7 12]
def LM:Aa:=.seq (.seq (.draw [(Wz [Wm 17 7,Wm 18 2,Yl 19 17 18,Wm 20 19,Ym 21 20 0,Ym 22 20 7,Yx 23 20 21 22 1,Yc 24 20 23,Ym 25 20 0,Ym 26 20 7,Wg 27 20 true (.ibin .sub (Xv 26) (Xn 1)),Yx 28 20 25 27 1,Yc 29 20 28] (some (Wg 30 20 true (.call 66 [(Xv 24),(Xv 29)])))),(Wz [Wg 31 20 true (.not (Xv 30)),Yq 32 20 31] none)] (ks 17 16)) (.cond (Xv 32) .skip (.exit 2))) (.block 3 (.reg [Wm 33 7,Ya 34 33 1,Wm 7 34]))
def LL:Aa:=.seq (Sq [Wm 64 9,Ws 65 (.ibin .geq (Xv 64) (Xn 1))] (.cond (Xv 65) .skip (.exit 4))) (.seq (.block 5 (.seq (.seq (.draw [(Wz [Wm 68 0,Wm 69 9,Wx 70 68 69 1,Wl 71 70,Wm 72 0,Wm 73 9,Ys 74 73 1,Wx 75 72 74 1,Wl 76 75] (some (Yh 77 66 71 76))),(Wz [Yv 78 77] none)] (ks 68 11)) (.cond (Xv 78) (.exit 4) .skip)) (.draw [(Wz [Wm 79 0,Wm 80 9,Wm 81 0,Wm 82 9,Ys 83 82 1,Wm 84 0,Wm 85 9,Ys 86 85 1,Wx 87 84 86 1,Wl 88 87,Wm 89 0,Wm 90 9,Wx 91 89 90 1,Wl 92 91,Wx 93 79 80 1] (some (Yt 93 88 1))),⟨[Wx 94 81 83 1],[Wm 81 0,Wm 82 9,Ys 83 82 1,Wx 94 81 83 1],some (Yt 94 92 1)⟩,(Wz [] none)] (ks 79 16)))) (.reg [Wm 66 9,Ys 67 66 1,Wm 9 67]))
def LJ:Aa:=.seq (Sq [Wm 101 10,Wm 102 2,Yl 103 101 102] (.cond (Xv 103) .skip (.exit 6))) (.seq (.block 7 (.seq (.seq (.draw [(Wz [Wm 106 0,Wm 107 10,Wx 108 106 107 1,Wl 109 108,Wm 110 0,Wm 111 10,Ys 112 111 1,Wx 113 110 112 1,Wl 114 113] (some (Yh 115 66 109 114))),(Wz [Yv 116 115] none)] (ks 106 11)) (.cond (Xv 116) (.exit 6) .skip)) (.draw [(Wz [Wm 117 0,Wm 118 10,Wm 119 0,Wm 120 10,Ys 121 120 1,Wm 122 0,Wm 123 10,Ys 124 123 1,Wx 125 122 124 1,Wl 126 125,Wm 127 0,Wm 128 10,Wx 129 127 128 1,Wl 130 129,Wx 131 117 118 1] (some (Yt 131 126 1))),⟨[Wx 132 119 121 1],[Wm 119 0,Wm 120 10,Ys 121 120 1,Wx 132 119 121 1],some (Yt 132 130 1)⟩,(Wz [] none)] (ks 117 16)))) (.reg [Wm 104 10,Ya 105 104 1,Wm 10 105]))
def NH:Aa:=Sq [Wm 95 2,Wm 96 7,Ws 97 (.ibin .sub (Xv 95) (Xv 96)),Ws 98 (.ibin .geq (Xv 97) (Xn 2))] (.cond (Xv 98) (Sq [Wm 99 7,Ya 100 99 1,Wm 10 100] (Lp 6 LJ)) .skip)
def LI:Aa:=.seq (Sq [Wm 13 8,Ws 14 (.ibin .lss (Xv 13) (Xn 5))] (.cond (Xv 14) .skip (.exit 0))) (.seq (.block 1 (.seq (Lp 2 LM) (.seq (Sq [Wm 35 7,Wm 36 2,Ws 37 (.ibin .eql (Xv 35) (Xv 36))] (.cond (Xv 37) (Sq [Ws 6 (.mv Xt)] .ret) .skip)) (.seq (Sq [Wm 38 2,Wm 39 1,Ws 40 (.ibin .sub (Xv 38) (Xv 39)),Ws 41 (.ibin .lss (Xv 40) (Xn 50))] (Cf 41 6)) (.seq (.draw [(Wz [Wm 42 0,Wm 43 7,Wm 44 0,Wm 45 7,Ys 46 45 1,Wm 47 0,Wm 48 7,Ys 49 48 1,Wx 50 47 49 1,Wl 51 50,Wm 52 0,Wm 53 7,Wx 54 52 53 1,Wl 55 54,Wx 56 42 43 1] (some (Yt 56 51 1))),⟨[Wx 57 44 46 1],[Wm 44 0,Wm 45 7,Ys 46 45 1,Wx 57 44 46 1],some (Yt 57 55 1)⟩,(Wz [] none)] (ks 42 16)) (.seq (Sq [Wm 58 7,Wm 59 1,Ws 60 (.ibin .sub (Xv 58) (Xv 59)),Ws 61 (.ibin .geq (Xv 60) (Xn 2))] (.cond (Xv 61) (Sq [Wm 62 7,Ys 63 62 1,Wm 9 63] (Lp 4 LL)) .skip)) NH)))))) (.reg [Wm 15 8,Ya 16 15 1,Wm 8 16]))
def Xd:Aa:=Sq [Yi 8 0] (Lp 0 LI)
def Xc:Aa:=.reg [Yu 6]
def vC:Aa:=.seq Xh (.seq Xg (.seq Xd (.seq Xc .ret)))
def qZ:List RV:=rt 6
def Xb:Aa:=.reg [Yi 8 0]
def Xa:Aa:=.draw [(Wz [Wm 11 0,Wm 12 1,Wm 13 0,Wm 14 3,Wm 15 0,Wm 16 3,Wx 17 15 16 1,Wl 18 17,Wm 19 0,Wm 20 1,Wx 21 19 20 1,Wl 22 21,Wx 23 11 12 1] (some (Yt 23 18 1))),⟨[Wx 24 13 14 1],[Wm 13 0,Wm 14 3,Wx 24 13 14 1],some (Yt 24 22 1)⟩,(Wz [] none)] (ks 11 14)
def W0:Aa:=.reg [Wm 25 1,Ya 26 25 1,Wm 27 2,Ys 28 27 1,Wm 9 26,Wm 10 28]
def LH:Aa:=.seq (.seq (.draw [(Wz [Wm 29 9,Wm 30 10,Ws 31 (.ibin .leq (Xv 29) (Xv 30)),Wm 32 31,Ym 33 32 0,Ym 34 32 1,Yx 35 32 33 34 1,Yc 36 32 35,Ym 37 32 0,Ym 38 32 9,Yx 39 32 37 38 1,Yc 40 32 39] (some (Wg 41 32 true (.call 66 [(Xv 36),(Xv 40)])))),(Wz [Wg 42 32 true (.not (Xv 41)),Yq 43 32 42] none)] (ks 29 15)) (.cond (Xv 43) .skip (.exit 2))) (.block 3 (.reg [Wm 44 9,Ya 45 44 1,Wm 9 45]))
def LG:Aa:=.seq (.seq (.draw [(Wz [Wm 46 9,Wm 47 10,Ws 48 (.ibin .leq (Xv 46) (Xv 47)),Wm 49 48,Ym 50 49 0,Ym 51 49 1,Yx 52 49 50 51 1,Yc 53 49 52,Ym 54 49 0,Ym 55 49 10,Yx 56 49 54 55 1,Yc 57 49 56] (some (Wg 58 49 true (.call 66 [(Xv 53),(Xv 57)])))),(Wz [Yq 59 49 58] none)] (ks 46 14)) (.cond (Xv 59) .skip (.exit 4))) (.block 5 (.reg [Wm 60 10,Ys 61 60 1,Wm 10 61]))
def LF:Aa:=.block 1 (.seq (Lp 2 LH) (.seq (Lp 4 LG) (.seq (Sq [Wm 62 9,Wm 63 10,Ws 64 (.ibin .gtr (Xv 62) (Xv 63))] (.cond (Xv 64) (.exit 0) .skip)) (.seq (.draw [(Wz [Wm 65 0,Wm 66 9,Wm 67 0,Wm 68 10,Wm 69 0,Wm 70 10,Wx 71 69 70 1,Wl 72 71,Wm 73 0,Wm 74 9,Wx 75 73 74 1,Wl 76 75,Wx 77 65 66 1] (some (Yt 77 72 1))),⟨[Wx 78 67 68 1],[Wm 67 0,Wm 68 10,Wx 78 67 68 1],some (Yt 78 76 1)⟩,(Wz [] none)] (ks 65 14)) (Sq [Wm 79 9,Ya 80 79 1,Wm 9 80] (.reg [Wm 81 10,Ys 82 81 1,Wm 10 82]))))))
def WZ:Aa:=Lp 0 LF
def WY:Aa:=.reg [Wm 83 9,Wm 8 83]
def vB:Aa:=.seq Xb (.seq Xa (.seq W0 (.seq WZ (.seq WY .ret))))
def qY:List RV:=rt 8
def WX:Aa:=.reg [Yi 8 0,Yu 9]
def WW:Aa:=.draw [(Wz [Wm 12 0,Wm 13 1,Wm 14 0,Wm 15 3,Wm 16 0,Wm 17 3,Wx 18 16 17 1,Wl 19 18,Wm 20 0,Wm 21 1,Wx 22 20 21 1,Wl 23 22,Wx 24 12 13 1] (some (Yt 24 19 1))),⟨[Wx 25 14 15 1],[Wm 14 0,Wm 15 3,Wx 25 14 15 1],some (Yt 25 23 1)⟩,(Wz [] none)] (ks 12 14)
def WV:Aa:=.reg [Wm 26 1,Ya 27 26 1,Wm 28 2,Ys 29 28 1,Wm 10 27,Wm 11 29]
def LE:Aa:=.seq (.seq (.draw [(Wz [Wm 30 10,Wm 31 11,Ws 32 (.ibin .leq (Xv 30) (Xv 31)),Wm 33 32,Ym 34 33 0,Ym 35 33 10,Yx 36 33 34 35 1,Yc 37 33 36,Ym 38 33 0,Ym 39 33 1,Yx 40 33 38 39 1,Yc 41 33 40] (some (Wg 42 33 true (.call 66 [(Xv 37),(Xv 41)])))),(Wz [Yq 43 33 42] none)] (ks 30 14)) (.cond (Xv 43) .skip (.exit 0))) (.block 1 (.reg [Wm 44 10,Ya 45 44 1,Wm 10 45]))
def WU:Aa:=Lp 0 LE
def LD:Aa:=.seq (.seq (.draw [(Wz [Wm 46 10,Wm 47 11,Ws 48 (.ibin .leq (Xv 46) (Xv 47)),Wm 49 48,Ym 50 49 0,Ym 51 49 11,Yx 52 49 50 51 1,Yc 53 49 52,Ym 54 49 0,Ym 55 49 1,Yx 56 49 54 55 1,Yc 57 49 56] (some (Wg 58 49 true (.call 66 [(Xv 53),(Xv 57)])))),(Wz [Wg 59 49 true (.not (Xv 58)),Yq 60 49 59] none)] (ks 46 15)) (.cond (Xv 60) .skip (.exit 2))) (.block 3 (.reg [Wm 61 11,Ys 62 61 1,Wm 11 62]))
def WT:Aa:=Lp 2 LD
def WR:Aa:=Sq [Wm 63 10,Wm 64 11,Ws 65 (.ibin .gtr (Xv 63) (Xv 64))] (.cond (Xv 65) (.seq (.draw [(Wz [Wm 66 0,Wm 67 11,Wm 68 0,Wm 69 1,Wm 70 0,Wm 71 1,Wx 72 70 71 1,Wl 73 72,Wm 74 0,Wm 75 11,Wx 76 74 75 1,Wl 77 76,Wx 78 66 67 1] (some (Yt 78 73 1))),⟨[Wx 79 68 69 1],[Wm 68 0,Wm 69 1,Wx 79 68 69 1],some (Yt 79 77 1)⟩,(Wz [] none)] (ks 66 14)) (Sq [Wm 80 11,Wm 8 80,Ws 9 (.mv Xt)] .ret)) .skip)
def WQ:Aa:=.draw [(Wz [Wm 81 0,Wm 82 10,Wm 83 0,Wm 84 11,Wm 85 0,Wm 86 11,Wx 87 85 86 1,Wl 88 87,Wm 89 0,Wm 90 10,Wx 91 89 90 1,Wl 92 91,Wx 93 81 82 1] (some (Yt 93 88 1))),⟨[Wx 94 83 84 1],[Wm 83 0,Wm 84 11,Wx 94 83 84 1],some (Yt 94 92 1)⟩,(Wz [] none)] (ks 81 14)
def WP:Aa:=.reg [Wm 95 10,Ya 96 95 1,Wm 10 96]
def WO:Aa:=.reg [Wm 97 11,Ys 98 97 1,Wm 11 98]
def LC:Aa:=.seq (.seq (.draw [(Wz [Wm 99 10,Wm 100 11,Ws 101 (.ibin .leq (Xv 99) (Xv 100)),Wm 102 101,Ym 103 102 0,Ym 104 102 10,Yx 105 102 103 104 1,Yc 106 102 105,Ym 107 102 0,Ym 108 102 1,Yx 109 102 107 108 1,Yc 110 102 109] (some (Wg 111 102 true (.call 66 [(Xv 106),(Xv 110)])))),(Wz [Yq 112 102 111] none)] (ks 99 14)) (.cond (Xv 112) .skip (.exit 6))) (.block 7 (.reg [Wm 113 10,Ya 114 113 1,Wm 10 114]))
def LB:Aa:=.seq (.seq (.draw [(Wz [Wm 115 10,Wm 116 11,Ws 117 (.ibin .leq (Xv 115) (Xv 116)),Wm 118 117,Ym 119 118 0,Ym 120 118 11,Yx 121 118 119 120 1,Yc 122 118 121,Ym 123 118 0,Ym 124 118 1,Yx 125 118 123 124 1,Yc 126 118 125] (some (Wg 127 118 true (.call 66 [(Xv 122),(Xv 126)])))),(Wz [Wg 128 118 true (.not (Xv 127)),Yq 129 118 128] none)] (ks 115 15)) (.cond (Xv 129) .skip (.exit 8))) (.block 9 (.reg [Wm 130 11,Ys 131 130 1,Wm 11 131]))
def LA:Aa:=.block 5 (.seq (Lp 6 LC) (.seq (Lp 8 LB) (.seq (Sq [Wm 132 10,Wm 133 11,Ws 134 (.ibin .gtr (Xv 132) (Xv 133))] (.cond (Xv 134) (.exit 4) .skip)) (.seq (.draw [(Wz [Wm 135 0,Wm 136 10,Wm 137 0,Wm 138 11,Wm 139 0,Wm 140 11,Wx 141 139 140 1,Wl 142 141,Wm 143 0,Wm 144 10,Wx 145 143 144 1,Wl 146 145,Wx 147 135 136 1] (some (Yt 147 142 1))),⟨[Wx 148 137 138 1],[Wm 137 0,Wm 138 11,Wx 148 137 138 1],some (Yt 148 146 1)⟩,(Wz [] none)] (ks 135 14)) (Sq [Wm 149 10,Ya 150 149 1,Wm 10 150] (.reg [Wm 151 11,Ys 152 151 1,Wm 11 152]))))))
def WN:Aa:=Lp 4 LA
def PK:Aa:=.draw [(Wz [Wm 153 0,Wm 154 11,Wm 155 0,Wm 156 1,Wm 157 0,Wm 158 1,Wx 159 157 158 1,Wl 160 159,Wm 161 0,Wm 162 11,Wx 163 161 162 1,Wl 164 163,Wx 165 153 154 1] (some (Yt 165 160 1))),⟨[Wx 166 155 156 1],[Wm 155 0,Wm 156 1,Wx 166 155 156 1],some (Yt 166 164 1)⟩,(Wz [] none)] (ks 153 14)
def PJ:Aa:=.reg [Wm 167 11,Wm 8 167,Yu 9]
def vA:Aa:=.seq WX (.seq WW (.seq WV (.seq WU (.seq WT (.seq WR (.seq WQ (.seq WP (.seq WO (.seq WN (.seq PK (.seq PJ .ret)))))))))))
def qX:List RV:= [(.t (K.of 8)),(.t (K.of 9))]
def V3:Aa:=.reg [Wm 10 1,Wm 8 10]
def J1:Aa:=.seq (.seq (.draw [(Wz [Wm 39 0,Wm 40 3,Wm 41 8,Ws 42 (.ibin .add (Xv 40) (Xv 41)),Wx 43 39 42 1,Wl 44 43,Wm 45 0,Wm 46 3,Wm 47 9,Ws 48 (.ibin .add (Xv 46) (Xv 47)),Wx 49 45 48 1,Wl 50 49] (some (Yh 51 66 44 50))),(Wz [Yv 52 51] none)] (ks 39 14)) (.cond (Xv 52) .ret .skip)) (.seq (.draw [(Wz [Wm 53 0,Wm 54 3,Wm 55 8,Ws 56 (.ibin .add (Xv 54) (Xv 55)),Wm 57 0,Wm 58 3,Wm 59 9,Ws 60 (.ibin .add (Xv 58) (Xv 59)),Wm 61 0,Wm 62 3,Wm 63 9,Ws 64 (.ibin .add (Xv 62) (Xv 63)),Wx 65 61 64 1,Wl 66 65,Wm 67 0,Wm 68 3,Wm 69 8,Ws 70 (.ibin .add (Xv 68) (Xv 69)),Wx 71 67 70 1,Wl 72 71,Wx 73 53 56 1] (some (Yt 73 66 1))),⟨[Wx 74 57 60 1],[Wm 57 0,Wm 58 3,Wm 59 9,Ws 60 (.ibin .add (Xv 58) (Xv 59)),Wx 74 57 60 1],some (Yt 74 72 1)⟩,(Wz [] none)] (ks 53 22)) (.reg [Wm 75 9,Wm 8 75]))
def IK:Aa:=.block 1 (Sq [Wm 11 8,Ws 12 (.ibin .mul (Xn 2) (Xv 11)),Ya 13 12 1,Wm 9 13] (.seq (Sq [Wm 14 9,Wm 15 2,Ws 16 (.ibin .geq (Xv 14) (Xv 15))] (.cond (Xv 16) (.exit 0) .skip)) (.seq (.seq (.draw [(Wz [Wm 17 9,Ya 18 17 1,Wm 19 2,Yl 20 18 19,Wm 21 20,Ym 22 21 0,Ym 23 21 3,Ym 24 21 9,Wg 25 21 true (.ibin .add (Xv 23) (Xv 24)),Yx 26 21 22 25 1,Yc 27 21 26,Ym 28 21 0,Ym 29 21 3,Ym 30 21 9,Wg 31 21 true (.ibin .add (Xv 29) (Xv 30)),Wg 32 21 true (.ibin .add (Xv 31) (Xn 1)),Yx 33 21 28 32 1,Yc 34 21 33] (some (Wg 35 21 true (.call 66 [(Xv 27),(Xv 34)])))),(Wz [Yq 36 21 35] none)] (ks 17 20)) (.cond (Xv 36) (.reg [Wm 37 9,Ya 38 37 1,Wm 9 38]) .skip)) J1)))
def vp:Aa:=.seq V3 (Lp 0 IK)
def qP:List RV:= []
def V2:Aa:=.reg [Ws 2 (.mv (.c (.int .u64 (.ofNat 0))))]
def V1:Aa:=.reg [Wm 3 0,Ws 4 (.conv .u64 (Xv 3)),Yk 5 93 4,Ws 6 (.ibin .shl (.c (.int .u64 (.ofNat 1))) (Xv 5)),Wm 2 6]
def vo:Aa:=.seq V2 (.seq V1 .ret)
def qO:List RV:=rt 2
def V0:Aa:=.reg [Ws 2 (.mv (.c (.int .u64 (.ofNat 0))))]
def VZ:Aa:=.draw [(Wz [Wm 3 0,Wc 4 3,Wl 5 4,Wm 6 0,Wc 7 6,Wl 8 7,Ws 9 (.ibin .shl (Xv 8) (.c (.int .u64 (.ofNat 13)))),Ws 10 (.ibin .xor (Xv 5) (Xv 9)),Wc 11 3] (some (Yt 11 10 1))),(Wz [] none)] (ks 3 9)
def VY:Aa:=.draw [(Wz [Wm 12 0,Wc 13 12,Wl 14 13,Wm 15 0,Wc 16 15,Wl 17 16,Ws 18 (.ibin .shr (Xv 17) (.c (.int .u64 (.ofNat 7)))),Ws 19 (.ibin .xor (Xv 14) (Xv 18)),Wc 20 12] (some (Yt 20 19 1))),(Wz [] none)] (ks 12 9)
def VX:Aa:=.draw [(Wz [Wm 21 0,Wc 22 21,Wl 23 22,Wm 24 0,Wc 25 24,Wl 26 25,Ws 27 (.ibin .shl (Xv 26) (.c (.int .u64 (.ofNat 17)))),Ws 28 (.ibin .xor (Xv 23) (Xv 27)),Wc 29 21] (some (Yt 29 28 1))),(Wz [] none)] (ks 21 9)
def VW:Aa:=.reg [Wm 30 0,Wc 31 30,Wl 32 31,Wm 2 32]
def vn:Aa:=.seq V0 (.seq VZ (.seq VY (.seq VX (.seq VW .ret))))
def qN:List RV:=rt 2
def VV:Aa:=.reg [Yi 6 0]
def VU:Aa:=.reg [Wm 7 0,Wm 8 1,Ys 9 8 1,Wm 10 1,Wm 11 1,Ya 12 11 1,Wm 13 2,Ws 14 (.call 202 [(Xv 7),(Xv 9),(Xv 10),(Xv 12),(Xv 13)]),Wm 6 14]
def vm:Aa:=.seq VV (.seq VU .ret)
def qM:List RV:=rt 6
def VT:Aa:=.reg [Yi 10 0]
def VS:Aa:=.reg [Wm 12 0,Wm 13 1,Wm 14 2,Wm 15 4,Ws 16 (.call 307 [(Xv 12),(Xv 13),(Xv 14),(Xv 15)]),Wm 11 16,Yw 17 11 0,Yw 18 11 1,Wm 1 17,Wm 2 18]
def VQ:Aa:=.reg [Wm 20 0,Wm 21 2,Wm 22 3,Wm 23 4,Ws 24 (.call 307 [(Xv 20),(Xv 21),(Xv 22),(Xv 23)]),Wm 19 24,Yw 25 19 0,Yw 26 19 1,Wm 2 25,Wm 3 26]
def VP:Aa:=.reg [Wm 28 0,Wm 29 1,Wm 30 2,Wm 31 4,Ws 32 (.call 307 [(Xv 28),(Xv 29),(Xv 30),(Xv 31)]),Wm 27 32,Yw 33 27 0,Yw 34 27 1,Wm 1 33,Wm 2 34]
def VO:Aa:=.reg [Wm 35 2,Wm 10 35]
def vl:Aa:=.seq VT (.seq VS (.seq VQ (.seq VP (.seq VO .ret))))
def qL:List RV:=rt 10
def Vz:Aa:=.reg [Yi 8 0,Yi 9 0]
def Vy:Aa:=.seq (.draw [(Wz [Wm 10 0,Wm 11 2,Wx 12 10 11 1,Wl 13 12,Wm 14 0,Wm 15 1,Wx 16 14 15 1,Wl 17 16] (some (Yh 18 66 13 17))),(Wz [] none)] (ks 10 9)) (.cond (Xv 18) (Sq [Wm 19 3,Wc 20 19,Wl 21 20,Ya 22 21 1,Wc 23 19,Yt 23 22 1] (Sq [Wm 24 2,Wm 25 1,Wm 8 24,Wm 9 25] .ret)) .skip)
def Vx:Aa:=.reg [Wm 26 1,Wm 27 2,Wm 8 26,Wm 9 27]
def vg:Aa:=.seq Vz (.seq Vy (.seq Vx .ret))
def qG:List RV:= [(.t (K.of 8)),(.t (K.of 9))]
structure Sns (E:Env):Prop where
  f1016:Wf E 16 jW fC
  f1052:Wf E 52 wa rG
  f1053:Wf E 53 vY rF
  f1054:Wf E 54 jV fB
  f1093:Wf E 93 vN rq
  f1092:Wf E 92 d7 UJ
  f1143:Wf E 143 Aan xx
  f1144:Wf E 144 vz qW
  f1135:Wf E 135 jT fu
  f1136:Wf E 136 vJ rk
  f1137:Wf E 137 vH rj
  f1138:Wf E 138 vG ri
  f1139:Wf E 139 vD rh
  f1140:Wf E 140 vC qZ
  f1141:Wf E 141 vB qY
  f1142:Wf E 142 vA qX
  f1198:Wf E 198 vp qP
  f1199:Wf E 199 vo qO
  f1200:Wf E 200 vn qN
  f1201:Wf E 201 vm qM
  f1202:Wf E 202 vl qL
  f1307:Wf E 307 vg qG
end
end Go.AJ
