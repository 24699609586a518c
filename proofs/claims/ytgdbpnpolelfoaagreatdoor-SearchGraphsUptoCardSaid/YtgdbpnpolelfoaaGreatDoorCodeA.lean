/- The code of the functions that the law reaches. -/
import Derived.Test.YtgdbpnpolelfoaaGreatDoorAiE
set_option linter.all false
namespace Go.AJ
open Go
abbrev Xv (n:Nat):X:=.t (K.of n)
abbrev Ws (n:Nat) (o:AOp):AO:=⟨some (K.of n),none,o⟩
abbrev Wn (o:AOp):AO:=⟨none,none,o⟩
abbrev Wg (n g:Nat) (b:Bool) (o:AOp):AO:=⟨some (K.of n),some (K.of g,b),o⟩
abbrev Wz (l:List AO) (h:Option AO):Fe:=⟨l,l,h⟩
abbrev Xn (n:Nat):X:=.c (.int .i64 (.ofNat n))
abbrev Wm (a b:Nat):AO:=Ws a (.mv (Xv b))
abbrev Wl (a b:Nat):AO:=Ws a (.load1 (Xv b))
abbrev Wo (a b c:Nat):AO:=Ws a (.addOff (Xv b) c)
abbrev Wd (a b c:Nat):AO:=Ws a (.loadN (Xv b) c)
abbrev Wx (a b c d:Nat):AO:=Ws a (.idx (Xv b) (Xv c) d)
abbrev We (a b:Nat):AO:=Ws a (.len .sl (Xv b))
abbrev Wc (a b:Nat):AO:=Ws a (.nilchk (Xv b))
abbrev Wf (E:Env) (n:Nat) (c:Aa) (r:List RV):Prop:=T.get .no (K.of n) E.fn=.fn (some ⟨c,r⟩)
abbrev Xt:X:=.c (.bool true)
abbrev Xf:X:=.c (.bool false)
abbrev z2:List V:= [vI 0,vI 0]
abbrev z7:List V:= [vI 0,vI 0,vF,.nils,vE,.nils,.nils]
abbrev z11:List V:= [vI 0,vI 0,.nils,vI 0,vI 0,vF,.nils,vE,.nils,.nils,.nils]
abbrev ks (a n:Nat):List K:=(List.range' a n).map K.of
abbrev rt (n:Nat):List RV:= [.t (K.of n)]
abbrev Yp (a b c:Nat):AO:=Ws a (.pick (Xv b) Xt (Xv c))
abbrev Yq (a b c:Nat):AO:=Ws a (.pick (Xv b) (Xv c) Xf)
abbrev Ya (a b c:Nat):AO:=Ws a (.ibin .add (Xv b) (Xn c))
abbrev Ys (a b c:Nat):AO:=Ws a (.ibin .sub (Xv b) (Xn c))
abbrev Ye (a b c:Nat):AO:=Ws a (.ibin .eql (Xv b) (Xn c))
abbrev Yl (a b c:Nat):AO:=Ws a (.ibin .lss (Xv b) (Xv c))
abbrev Yu (a:Nat):AO:=Ws a (.mv Xf)
abbrev Yi (a n:Nat):AO:=Ws a (.mv (Xn n))
abbrev Ym (a g b:Nat):AO:=Wg a g true (.mv (Xv b))
abbrev Yn (a g b:Nat):AO:=Wg a g false (.mv (Xv b))
abbrev Yc (a g b:Nat):AO:=Wg a g true (.load1 (Xv b))
abbrev Yd (a g b:Nat):AO:=Wg a g false (.load1 (Xv b))
abbrev Yo (a g b c:Nat):AO:=Wg a g true (.addOff (Xv b) c)
abbrev Yr (a g b c:Nat):AO:=Wg a g false (.addOff (Xv b) c)
abbrev Yx (a g b c d:Nat):AO:=Wg a g true (.idx (Xv b) (Xv c) d)
abbrev Yy (a g b c d:Nat):AO:=Wg a g false (.idx (Xv b) (Xv c) d)
abbrev Yt (a b n:Nat):AO:=Wn (.store (Xv a) (Xv b) n)
abbrev Yk (a f b:Nat):AO:=Ws a (.call f [Xv b])
abbrev Yh (a f b c:Nat):AO:=Ws a (.call f [Xv b,Xv c])
abbrev Yb (a b:Nat):AO:=Ws a (.box (Xv b))
abbrev Yv (a b:Nat):AO:=Ws a (.not (Xv b))
abbrev Yw (a b c:Nat):AO:=Ws a (.ext (Xv b) c)
abbrev Sq (l:List AO) (c:Aa):Aa:=.seq (.reg l) c
abbrev Cf (n m:Nat):Aa:=.cond (Xv n) (Sq [Yu m] .ret) .skip
abbrev Lp (b:Nat) (c:Aa):Aa:=.block b (.loop c)
noncomputable section
def yx:Aa:=.reg [Yb 2 0,Yu 4]
def yw:Aa:=.reg [Wd 5 2 35,Wm 6 1,Ws 7 (.call 85 [(Xv 5),(Xv 6),(.c .nils)]),Wm 4 7]
def c31:Aa:=.seq yx (.seq yw .ret)
def r31:List RV:=rt 4
def yb:Aa:=.reg [Yb 3 0,Yu 6]
def ya:Aa:=.reg [Ws 8 (.mk [(vI 0)] [(0,1,(Xn 12000))]),Yb 9 8,Wm 7 9]
def xY:Aa:=.reg [Wm 10 7,Wd 11 3 35,Yh 12 126 10 11,Wm 13 12,Ym 14 13 7,Ym 15 13 1,Wg 16 13 true (.call 127 [(Xv 14),(Xv 15)]),Yq 17 13 16,Wm 18 17,Ym 19 18 7,Ym 20 18 2,Wg 21 18 true (.call 128 [(Xv 19),(Xn 1),(Xv 20)]),Yq 22 18 21,Wm 6 22]
def c64:Aa:=.seq yb (.seq ya (.seq xY .ret))
def r64:List RV:=rt 6
def ol:Aa:=.reg [Yb 3 1,Yu 4]
def oj:Aa:=.draw [(Wz [Wm 17 0,Wc 18 17,Wo 19 18 0,Wl 20 19,Wo 21 3 0,Wl 22 21,We 23 22,Wo 24 3 32,Wl 25 24,We 26 25,Ws 27 (.ibin .add (Xv 23) (Xv 26)),Wo 28 3 29,Wl 29 28,We 30 29,Ws 31 (.ibin .add (Xv 27) (Xv 30)),Ws 32 (.ibin .sub (Xv 20) (Xv 31)),Wc 33 17,Wo 34 33 0] (some (Yt 34 32 1))),(Wz [] none)] (ks 17 18)
def pN:Aa:=Sq [Yl 39 38 37] (.seq (.cond (Xv 39) .skip (.exit 0)) (.seq (.block 1 (Sq [Wx 40 36 38 1,Wl 41 40,Wm 6 41] (.reg [Wm 42 0,Wc 43 42,Wo 44 43 0,Wl 45 44,Wm 46 6,We 47 46,Ws 48 (.ibin .sub (Xv 45) (Xv 47)),Wc 49 42,Wo 50 49 0,Yt 50 48 1]))) (.reg [Ya 51 38 1,Wm 38 51])))
def oi:Aa:=Sq [Wo 35 3 32,Wl 36 35,We 37 36,Yi 38 0] (Lp 0 pN)
def pL:Aa:=Sq [Yl 56 55 54] (.seq (.cond (Xv 56) .skip (.exit 2)) (.seq (.block 3 (Sq [Wx 57 53 55 8,Wd 58 57 8,Ws 8 (.alloc [vE,(vI 0),(vI 0),vF,.nils,vE,.nils,.nils]),Yt 8 58 8] (Sq [Wm 59 0,Wo 60 8 1,Wd 61 60 7,Ws 62 (.call 190 [(Xv 59),(Xv 61),(Xn 1)]),Yv 63 62] (Cf 63 4)))) (.reg [Ya 64 55 1,Wm 55 64])))
def oh:Aa:=Sq [Wo 52 3 1,Wl 53 52,We 54 53,Yi 55 0] (Lp 2 pL)
def pK:Aa:=Sq [Yl 69 68 67] (.seq (.cond (Xv 69) .skip (.exit 4)) (.seq (.block 5 (Sq [Wx 70 66 68 12,Wd 71 70 12,Ws 10 (.alloc [vE,(vI 0),(vI 0),.nils,(vI 0),(vI 0),vF,.nils,vE,.nils,.nils,.nils]),Yt 10 71 12] (Sq [Wm 72 0,Wo 73 10 1,Wd 74 73 11,Ws 75 (.mkSl z11 [(0,11,(Xv 74))] 1),Ws 76 (.call 128 [(Xv 72),(Xn 1),(Xv 75)]),Yv 77 76] (Cf 77 4)))) (.reg [Ya 78 68 1,Wm 68 78])))
def og:Aa:=Sq [Wo 65 3 2,Wl 66 65,We 67 66,Yi 68 0] (Lp 4 pK)
def pJ:Aa:=Sq [Yl 83 82 81] (.seq (.cond (Xv 83) .skip (.exit 6)) (.seq (.block 7 (Sq [Wx 84 80 82 14,Wd 85 84 14,Ws 12 (.alloc [vE,.nils,vF,(vI 0),(vI 0),.nils,(vI 0),(vI 0),vF,.nils,vE,.nils,.nils,.nils]),Yt 12 85 14] (.seq (.draw [(Wz [Wm 86 0,Wc 87 86,Wo 88 87 0,Wl 89 88,Wo 90 12 1,Wl 91 90,We 92 91,Ws 93 (.ibin .sub (Xv 89) (Xv 92)),Wc 94 86,Wo 95 94 0] (some (Yt 95 93 1))),(Wz [] none)] (ks 86 10)) (Sq [Wm 96 0,Wo 97 12 3,Wd 98 97 11,Ws 99 (.mkSl z11 [(0,11,(Xv 98))] 1),Ws 100 (.call 128 [(Xv 96),(Xn 1),(Xv 99)]),Yv 101 100] (Cf 101 4))))) (.reg [Ya 102 82 1,Wm 82 102])))
def oe:Aa:=Sq [Wo 79 3 3,Wl 80 79,We 81 80,Yi 82 0] (Lp 6 pJ)
def pI:Aa:=Sq [Yl 107 106 105] (.seq (.cond (Xv 107) .skip (.exit 8)) (.seq (.block 9 (Sq [Wx 108 104 106 23,Wd 109 108 23,Ws 14 (.alloc [vF,(vI 0),(vI 0),.nils,(vI 0),(vI 0),vF,.nils,vE,.nils,.nils,.nils,(vI 0),(vI 0),.nils,(vI 0),(vI 0),vF,.nils,vE,.nils,.nils,.nils]),Yt 14 109 23] (Sq [Wm 110 0,Wo 111 14 1,Wd 112 111 11,Wo 113 14 12,Wd 114 113 11,Ws 115 (.mkSl [(vI 0),(vI 0),.nils,(vI 0),(vI 0),vF,.nils,vE,.nils,.nils,.nils,(vI 0),(vI 0),.nils,(vI 0),(vI 0),vF,.nils,vE,.nils,.nils,.nils] [(0,11,(Xv 112)),(11,11,(Xv 114))] 2),Ws 116 (.call 128 [(Xv 110),(Xn 1),(Xv 115)]),Yv 117 116] (Cf 117 4)))) (.reg [Ya 118 106 1,Wm 106 118])))
def od:Aa:=Sq [Wo 103 3 27,Wl 104 103,We 105 104,Yi 106 0] (Lp 8 pI)
def pH:Aa:=Sq [Yl 123 122 121] (.seq (.cond (Xv 123) .skip (.exit 10)) (.seq (.block 11 (Sq [Wx 124 120 122 12,Wd 125 124 12,Ws 16 (.alloc [vE,(vI 0),(vI 0),.nils,(vI 0),(vI 0),vF,.nils,vE,.nils,.nils,.nils]),Yt 16 125 12] (Sq [Wm 126 0,Wo 127 16 1,Wd 128 127 11,Ws 129 (.mkSl z11 [(0,11,(Xv 128))] 1),Ws 130 (.call 128 [(Xv 126),(Xn 1),(Xv 129)]),Yv 131 130] (Cf 131 4)))) (.reg [Ya 132 122 1,Wm 122 132])))
def oc:Aa:=Sq [Wo 119 3 28,Wl 120 119,We 121 120,Yi 122 0] (Lp 10 pH)
def n9:Aa:=.reg [Wm 133 0,Wo 134 3 5,Wd 135 134 11,Wo 136 3 16,Wd 137 136 11,Ws 138 (.mkSl [(vI 0),(vI 0),.nils,(vI 0),(vI 0),vF,.nils,vE,.nils,.nils,.nils,(vI 0),(vI 0),.nils,(vI 0),(vI 0),vF,.nils,vE,.nils,.nils,.nils] [(0,11,(Xv 135)),(11,11,(Xv 137))] 2),Ws 139 (.call 128 [(Xv 133),(Xn 1),(Xv 138)]),Wm 140 139,Ym 141 140 0,Yo 142 140 3 4,Yc 143 140 142,Wg 144 140 true (.call 128 [(Xv 141),(Xn 1),(Xv 143)]),Yq 145 140 144,Wm 146 145,Ym 147 146 0,Yo 148 146 3 30,Yc 149 146 148,Wg 150 146 true (.call 128 [(Xv 147),(Xn 1),(Xv 149)]),Yq 151 146 150,Wm 152 151,Ym 153 152 0,Yo 154 152 3 31,Yc 155 152 154,Wg 156 152 true (.call 128 [(Xv 153),(Xn 1),(Xv 155)]),Yq 157 152 156,Wm 158 157,Ym 159 158 0,Yo 160 158 3 33,Yc 161 158 160,Wg 162 158 true (.call 128 [(Xv 159),(Xn 1),(Xv 161)]),Yq 163 158 162,Wm 4 163]
def AcV:Aa:=.seq ol (.seq oj (.seq oi (.seq oh (.seq og (.seq oe (.seq od (.seq oc (.seq n9 .ret))))))))
def Abt:List RV:=rt 4
def n8:Aa:=.reg [Yb 2 0,Yu 4]
def QT:Aa:=Sq [Yl 10 9 8] (.seq (.cond (Xv 10) .skip (.exit 0)) (.seq (.block 1 (Sq [Wx 11 7 9 1,Wl 12 11,Wm 6 12] (Sq [Wm 13 6,Ws 14 (.mkf 191 [] [(Xv 2)]),Yh 15 86 13 14] (Cf 15 4)))) (.reg [Ya 16 9 1,Wm 9 16])))
def nZ:Aa:=Sq [Wm 7 1,We 8 7,Yi 9 0] (Lp 0 QT)
def nY:Aa:=.reg [Ws 4 (.mv Xt)]
def AcU:Aa:=.seq n8 (.seq nZ (.seq nY .ret))
def Abs:List RV:=rt 4
def nF:Aa:=.reg [Yb 3 0,Yb 4 1,Yb 5 2,Yu 6]
def nE:Aa:=.draw [(Wz [Wl 7 3,Wc 8 7,Wo 9 8 0,Wl 10 9,Wo 11 4 2,Wo 12 11 1,Wl 13 12,We 14 13,Ws 15 (.ibin .add (Xn 1) (Xv 14)),Wo 16 4 4,Wl 17 16,Ws 18 (.len .str (Xv 17)),Ws 19 (.ibin .quo (Xv 18) (Xn 20)),Ws 20 (.ibin .add (Xv 15) (Xv 19)),Ws 21 (.ibin .sub (Xv 10) (Xv 20)),Wc 22 7,Wo 23 22 0] (some (Yt 23 21 1))),(Wz [] none)] (ks 7 17)
def nD:Aa:=Sq [Wl 24 3,Wc 25 24,Wo 26 25 0,Wl 27 26,Ws 28 (.ibin .lss (Xv 27) (Xn 0)),Wm 29 28,Yd 30 29 5,Wg 31 29 false (.ibin .gtr (Xv 30) (Xn 60)),Yp 32 29 31] (Cf 32 6)
def nC:Aa:=.reg [Wo 33 4 5,Wl 34 33,Ws 35 (.mkf 292 [] [(Xv 3),(Xv 5)]),Yh 36 86 34 35,Yv 37 36,Wm 38 37,Yo 39 38 4 6,Yc 40 38 39,Wg 41 38 true (.mkf 293 [] [(Xv 3),(Xv 5)]),Wg 42 38 true (.call 86 [(Xv 40),(Xv 41)]),Wg 43 38 true (.not (Xv 42)),Yq 44 38 43,Wm 6 44]
def AcP:Aa:=.seq nF (.seq nE (.seq nD (.seq nC .ret)))
def Abn:List RV:=rt 6
def nA:Aa:=.reg [Yb 2 0,Yu 3]
def nt:Aa:=.reg [Wl 4 1,Wd 5 2 7,Ws 6 (.call 190 [(Xv 4),(Xv 5),(Xn 1)]),Yv 7 6,Wm 3 7]
def AcO:Aa:=.seq nA (.seq nt .ret)
def Abm:List RV:=rt 3
def mV:Aa:=.reg [Yb 3 0,Yu 4]
def mU:Aa:=.reg [Wl 5 1,Wd 6 3 7,Wl 7 2,Ya 8 7 1,Ws 9 (.call 190 [(Xv 5),(Xv 6),(Xv 8)]),Yv 10 9,Wm 4 10]
def AcI:Aa:=.seq mV (.seq mU .ret)
def Abg:List RV:=rt 4
def mT:Aa:=.reg [Yb 3 0,Yu 4]
def mS:Aa:=.reg [Wl 5 1,Wd 6 3 7,Wl 7 2,Ya 8 7 1,Ws 9 (.call 190 [(Xv 5),(Xv 6),(Xv 8)]),Yv 10 9,Wm 4 10]
def AcH:Aa:=.seq mT (.seq mS .ret)
def Abf:List RV:=rt 4
def X0:Aa:=.reg [Yu 6]
def Nq:Aa:=Sq [Yl 12 11 10] (.seq (.cond (Xv 12) .skip (.exit 0)) (.seq (.block 1 (Sq [Wx 13 9 11 11,Wd 14 13 11,Ws 8 (.alloc z11),Yt 8 14 11] (.seq (.draw [(Wz [Wm 15 0,Wc 16 15,Wo 17 16 0,Wl 18 17,Wo 19 8 2,Wl 20 19,We 21 20,Ws 22 (.ibin .add (Xn 1) (Xv 21)),Ws 23 (.ibin .sub (Xv 18) (Xv 22)),Wc 24 15,Wo 25 24 0] (some (Yt 25 23 1))),(Wz [] none)] (ks 15 11)) (Sq [Wm 26 0,Wc 27 26,Wo 28 27 0,Wl 29 28,Ws 30 (.ibin .lss (Xv 29) (Xn 0)),Wm 31 30,Yn 32 31 1,Wg 33 31 false (.ibin .gtr (Xv 32) (Xn 150)),Yp 34 31 33,Wm 35 34,Yn 36 35 0,Yr 37 35 8 3,Wg 38 35 false (.loadN (Xv 37) 7),Wg 39 35 false (.call 190 [(Xv 36),(Xv 38),(Xn 1)]),Wg 40 35 false (.not (Xv 39)),Yp 41 35 40,Wm 42 41,Yn 43 42 0,Yn 44 42 1,Wg 45 42 false (.ibin .add (Xv 44) (Xn 1)),Yr 46 42 8 10,Yd 47 42 46,Wg 48 42 false (.call 128 [(Xv 43),(Xv 45),(Xv 47)]),Wg 49 42 false (.not (Xv 48)),Yp 50 42 49] (Cf 50 6))))) (.reg [Ya 51 11 1,Wm 11 51])))
def XZ:Aa:=Sq [Wm 9 2,We 10 9,Yi 11 0] (Lp 0 Nq)
def XY:Aa:=.reg [Ws 6 (.mv Xt)]
def AaK:Aa:=.seq X0 (.seq XZ (.seq XY .ret))
def AaC:List RV:=rt 6
def yJ:Aa:=.reg [Yb 1 0,Ws 2 (.mv (.c .nils)),Yi 3 0]
def yI:Aa:=Sq [Wd 4 1 3,Yk 5 46 4,Yv 6 5] (.cond (Xv 6) (Sq [Ws 2 (.mv (.c .nils)),Yi 3 230] .ret) .skip)
def yH:Aa:=.reg [Wd 7 1 3,Yk 8 47 7,Wm 2 8,Yi 3 0]
def c29:Aa:=.seq yJ (.seq yI (.seq yH .ret))
def r29:List RV:= [(.t (K.of 2)),(.t (K.of 3))]
def yn:Aa:=.reg [Yb 1 0,Yu 2]
def ym:Aa:=.reg [Wo 13 1 0,Wl 14 13,We 15 14,Wm 3 15]
def yk:Aa:=Sq [Wm 16 3,Ws 17 (.ibin .gtr (Xv 16) (Xn 20000)),Wm 18 17,Yr 19 18 1 2,Yd 20 18 19,Wg 21 18 false (.len .sl (Xv 20)),Wg 22 18 false (.ibin .gtr (Xv 21) (Xn 100000)),Yp 23 18 22,Wm 24 23,Yr 25 24 1 1,Yd 26 24 25,Wg 27 24 false (.len .sl (Xv 26)),Yn 28 24 3,Wg 29 24 false (.ibin .gtr (Xv 27) (Xv 28)),Yp 30 24 29] (Cf 30 2)
def yj:Aa:=.reg [Ws 31 (.mkmap),Wm 4 31]
def eu:Aa:=Sq [Yl 36 35 34] (.seq (.cond (Xv 36) .skip (.exit 0)) (.seq (.block 1 (Sq [Wx 37 33 35 1,Wl 38 37,Wm 6 38] (.seq (Sq [Wm 39 6,We 40 39,Wo 41 1 0,Wl 42 41,Ws 43 (.idx (Xv 42) (Xn 0) 1),Wl 44 43,We 45 44,Ws 46 (.ibin .neq (Xv 40) (Xv 45)),Wm 47 46,Yn 48 47 6,Wg 49 47 false (.call 86 [(Xv 48),(.c (.fn 87 [] []))]),Yp 50 47 49] (Cf 50 2)) (Sq [Wm 51 6,Yk 52 89 51,Wm 7 52] (.seq (Sq [Wm 53 4,Wm 54 7,Ws 55 (.mapget .str (Xv 53) (Xv 54) (.bool false) false)] (Cf 55 2)) (.reg [Wm 56 4,Wm 57 7,Wn (.mapset .str (Xv 56) (Xv 57) Xt)])))))) (.reg [Ya 58 35 1,Wm 35 58])))
def sf:Aa:=Sq [Wo 32 1 0,Wl 33 32,We 34 33,Yi 35 0] (Lp 0 eu)
def ke:Aa:=Sq [Yl 63 62 61] (.seq (.cond (Xv 63) .skip (.exit 2)) (.seq (.block 3 (Sq [Wm 64 62,Wx 65 60 62 1,Wl 66 65,Wm 8 64,Wm 9 66] (Sq [Wm 67 9,Wm 68 8,Ws 69 (.ibin .neq (Xv 67) (Xv 68))] (Cf 69 2)))) (.reg [Ya 70 62 1,Wm 62 70])))
def se:Aa:=Sq [Wo 59 1 1,Wl 60 59,We 61 60,Yi 62 0] (Lp 2 ke)
def sd:Aa:=.reg [Wo 71 1 1,Wl 72 71,We 73 72,Wm 10 73]
def TW:Aa:=Sq [Yl 78 77 76] (.seq (.cond (Xv 78) .skip (.exit 4)) (.seq (.block 5 (Sq [Wm 79 77,Wx 80 75 77 2,Wd 81 80 2,Ws 12 (.alloc z2),Wm 11 79,Yt 12 81 2] (.seq (.seq (.draw [(Wz [Wo 82 12 0,Wl 83 82,Ws 84 (.ibin .lss (Xv 83) (Xn 0)),Wm 85 84,Yr 86 85 12 0,Yd 87 85 86,Yn 88 85 3,Wg 89 85 false (.ibin .geq (Xv 87) (Xv 88)),Yp 90 85 89,Wm 91 90,Yr 92 91 12 1,Yd 93 91 92,Wg 94 91 false (.ibin .lss (Xv 93) (Xn 0)),Yp 95 91 94,Wm 96 95,Yr 97 96 12 1,Yd 98 96 97,Yn 99 96 3,Wg 100 96 false (.ibin .geq (Xv 98) (Xv 99)),Yp 101 96 100,Wm 102 101,Yn 103 102 11,Wg 104 102 false (.ibin .gtr (Xv 103) (Xn 0)),Yn 105 102 104,Yo 106 105 1 2,Yc 107 105 106,Ym 108 105 11,Wg 109 105 true (.ibin .sub (Xv 108) (Xn 1)),Yx 110 105 107 109 2,Wg 111 105 true (.loadN (Xv 110) 2),Wg 112 105 true (.loadN (Xv 12) 2)] (some (Wg 113 105 true (.call 90 [(Xv 111),(Xv 112)])))),(Wz [Wg 114 105 true (.ibin .geq (Xv 113) (Xn 0)),Wg 115 102 false (.pick (Xv 105) (Xv 114) Xf),Yp 116 102 115,Wm 117 116,Yr 118 117 12 0,Yd 119 117 118,Yn 120 117 10,Wg 121 117 false (.ibin .geq (Xv 119) (Xv 120)),Yp 122 117 121,Wm 123 122,Yr 124 123 12 1,Yd 125 123 124,Yn 126 123 10,Wg 127 123 false (.ibin .gtr (Xv 125) (Xv 126)),Yp 128 123 127] none)] (ks 82 47)) (Cf 128 2)) (Sq [Wo 129 12 1,Wl 130 129,Wm 131 10,Ws 132 (.ibin .eql (Xv 130) (Xv 131))] (.cond (Xv 132) (.reg [Wm 133 10,Ya 134 133 1,Wm 10 134]) .skip))))) (.reg [Ya 135 77 1,Wm 77 135])))
def sa:Aa:=Sq [Wo 74 1 2,Wl 75 74,We 76 75,Yi 77 0] (Lp 4 TW)
def r7:Aa:=.reg [Wm 136 10,Wm 137 3,Ws 138 (.ibin .eql (Xv 136) (Xv 137)),Wm 2 138]
def c61:Aa:=.seq yn (.seq ym (.seq yk (.seq yj (.seq sf (.seq se (.seq sd (.seq sa (.seq r7 .ret))))))))
def r61:List RV:=rt 2
def yi:Aa:=.reg [Yb 1 0,Ws 2 (.mv (.c .nils))]
def yh:Aa:=.reg [Wo 7 1 0,Wl 8 7,We 9 8,Ws 10 (.mkslice (Xv 9) (Xv 9) [(vI 0)] 8),Wm 3 10]
def yg:Aa:=.reg [Wo 11 1 1,Wl 12 11,We 13 12,Wm 4 13]
def ka:Aa:=Sq [Yl 18 17 16] (.seq (.cond (Xv 18) .skip (.exit 0)) (.seq (.block 1 (Sq [Wx 19 15 17 2,Wd 20 19 2,Ws 6 (.alloc z2),Yt 6 20 2] (Sq [Wo 21 6 1,Wl 22 21,Wm 23 4,Ws 24 (.ibin .eql (Xv 22) (Xv 23))] (.cond (Xv 24) (.seq (.draw [(Wz [Wm 25 3,Wo 26 6 1,Wl 27 26,Wm 28 3,Wo 29 6 0,Wl 30 29,Wx 31 28 30 1,Wl 32 31,Ya 33 32 1,Wx 34 25 27 1] (some (Yt 34 33 1))),(Wz [] none)] (ks 25 10)) (.reg [Wm 35 4,Ya 36 35 1,Wm 4 36])) .skip)))) (.reg [Ya 37 17 1,Wm 17 37])))
def yf:Aa:=Sq [Wo 14 1 2,Wl 15 14,We 16 15,Yi 17 0] (Lp 0 ka)
def ye:Aa:=.reg [Wm 38 3,Wm 2 38]
def c62:Aa:=.seq yi (.seq yh (.seq yg (.seq yf (.seq ye .ret))))
def r62:List RV:=rt 2
def yG:Aa:=.reg [Yi 4 0]
def yF:Aa:=.reg [Wm 7 0,Yk 8 98 7,Wm 5 8]
def yE:Aa:=.reg [Wm 9 1,Yk 10 98 9,Wm 6 10]
def yC:Aa:=Sq [Wm 11 5] (.cond (Xv 11) (.seq (Sq [Wm 12 6] (.cond (Xv 12) (Sq [Yi 4 0] .ret) .skip)) (Sq [Ws 4 (.mv (.c (.int .i64 (.negSucc 0))))] .ret)) .skip)
def yB:Aa:=Sq [Wm 13 6] (.cond (Xv 13) (Sq [Yi 4 1] .ret) .skip)
def yA:Aa:=Sq [Wm 14 0,Wm 15 1,Yl 16 14 15] (.cond (Xv 16) (Sq [Ws 4 (.mv (.c (.int .i64 (.negSucc 0))))] .ret) .skip)
def yz:Aa:=Sq [Wm 17 0,Wm 18 1,Ws 19 (.ibin .gtr (Xv 17) (Xv 18))] (.cond (Xv 19) (Sq [Yi 4 1] .ret) .skip)
def yy:Aa:=.reg [Yi 4 0]
def c30:Aa:=.seq yG (.seq yF (.seq yE (.seq yC (.seq yB (.seq yA (.seq yz (.seq yy .ret)))))))
def r30:List RV:=rt 4
def yd:Aa:=.reg [Yu 2]
def yc:Aa:=.reg [Wm 3 0,Wm 4 0,Ws 5 (.ibin .neq (Xv 3) (Xv 4)),Wm 2 5]
def c63:Aa:=.seq yd (.seq yc .ret)
def r63:List RV:=rt 2
def xX:Aa:=.reg [Yi 2 0]
def xW:Aa:=.reg [Yi 3 0]
def Aaq:Aa:=Sq [Yl 9 8 7] (.seq (.cond (Xv 9) .skip (.exit 0)) (.seq (.block 1 (Sq [Wx 10 6 8 1,Wl 11 10,Wm 5 11] (Sq [Wm 12 5,Wm 13 3,Ws 14 (.ibin .neq (Xv 12) (Xv 13))] (.cond (Xv 14) (Sq [Wm 15 5,Wm 2 15] .ret) .skip)))) (.reg [Ya 16 8 1,Wm 8 16])))
def xU:Aa:=Sq [Wm 6 0,We 7 6,Yi 8 0] (Lp 0 Aaq)
def xT:Aa:=.reg [Wm 17 3,Wm 2 17]
def c67:Aa:=.seq xX (.seq xW (.seq xU (.seq xT .ret)))
def r67:List RV:=rt 2
def xS:Aa:=.reg [Yb 2 0,Yb 3 1,Yi 4 0]
def xR:Aa:=Sq [Wo 7 2 0,Wl 8 7,Wo 9 3 0,Wl 10 9,Ws 11 (.eqv true .bool (Xv 8) (Xv 10))] (.cond (Xv 11) (.seq (Sq [Wo 12 2 0,Wl 13 12] (.cond (Xv 13) (Sq [Ws 4 (.mv (.c (.int .i64 (.negSucc 0))))] .ret) .skip)) (Sq [Yi 4 1] .ret)) .skip)
def xQ:Aa:=.reg [Wo 14 2 1,Wl 15 14,We 16 15,Wo 17 3 1,Wl 18 17,We 19 18,Yh 20 134 16 19,Wm 5 20]
def j9:Aa:=.seq (Sq [Wm 25 5,Ye 26 25 0,Wm 27 26,Ym 28 27 6,Wg 29 27 true (.ibin .geq (Xv 28) (Xn 0)),Yq 30 27 29] (.cond (Xv 30) .skip (.exit 0))) (.seq (.block 1 (.draw [(Wz [Wo 33 2 1,Wl 34 33,Wm 35 6,Wx 36 34 35 1,Wl 37 36,Wo 38 3 1,Wl 39 38,Wm 40 6,Wx 41 39 40 1,Wl 42 41] (some (Yh 43 134 37 42))),(Wz [Wm 5 43] none)] (ks 33 11++ [K.of 5]))) (.reg [Wm 31 6,Ys 32 31 1,Wm 6 32]))
def xP:Aa:=Sq [Wo 21 2 1,Wl 22 21,We 23 22,Ys 24 23 1,Wm 6 24] (Lp 0 j9)
def xO:Aa:=Sq [Wo 44 2 0,Wl 45 44] (.cond (Xv 45) (Sq [Wm 46 5,Ws 47 (.neg (Xv 46)),Wm 4 47] .ret) .skip)
def xN:Aa:=.reg [Wm 48 5,Wm 4 48]
def c68:Aa:=.seq xS (.seq xR (.seq xQ (.seq xP (.seq xO (.seq xN .ret)))))
def r68:List RV:=rt 4
def xM:Aa:=.reg [Yi 4 0]
def xK:Aa:=.reg [Wm 7 0,Yk 8 203 7,Wm 5 8]
def xJ:Aa:=.reg [Wm 9 1,Yk 10 203 9,Wm 6 10]
def xI:Aa:=Sq [Wm 11 5] (.cond (Xv 11) (.seq (Sq [Wm 12 6] (.cond (Xv 12) (Sq [Yi 4 0] .ret) .skip)) (Sq [Ws 4 (.mv (.c (.int .i64 (.negSucc 0))))] .ret)) .skip)
def xH:Aa:=Sq [Wm 13 6] (.cond (Xv 13) (Sq [Yi 4 1] .ret) .skip)
def xG:Aa:=Sq [Wm 14 0,Wm 15 1,Ws 16 (.sbin .lss (Xv 14) (Xv 15))] (.cond (Xv 16) (Sq [Ws 4 (.mv (.c (.int .i64 (.negSucc 0))))] .ret) .skip)
def xF:Aa:=Sq [Wm 17 0,Wm 18 1,Ws 19 (.sbin .gtr (Xv 17) (Xv 18))] (.cond (Xv 19) (Sq [Yi 4 1] .ret) .skip)
def xD:Aa:=.reg [Yi 4 0]
def c69:Aa:=.seq xM (.seq xK (.seq xJ (.seq xI (.seq xH (.seq xG (.seq xF (.seq xD .ret)))))))
def r69:List RV:=rt 4
def nX:Aa:=.reg [Yu 2]
def nW:Aa:=.reg [Wm 3 0,Wm 4 0,Ws 5 (.sbin .neq (Xv 3) (Xv 4)),Wm 2 5]
def AcT:Aa:=.seq nX (.seq nW .ret)
def Abr:List RV:=rt 2
def xC:Aa:=.reg [Yi 6 0]
def xB:Aa:=Sq [Wm 10 0,We 11 10,Wm 12 1,We 13 12,Yh 14 134 11 13,Wm 7 14] (Sq [Wm 15 7,Ws 16 (.ibin .neq (Xv 15) (Xn 0))] (.cond (Xv 16) (Sq [Wm 17 7,Wm 6 17] .ret) .skip))
def j8:Aa:=Sq [Yl 21 20 19] (.seq (.cond (Xv 21) .skip (.exit 0)) (.seq (.block 1 (Sq [Wm 22 20,Wm 8 22] (.seq (.draw [(Wz [Wm 23 2,Wm 24 0,Wm 25 8,Wx 26 24 25 7,Wd 27 26 7,Wm 28 1,Wm 29 8,Wx 30 28 29 7,Wd 31 30 7] (some (Ws 32 (.callv (Xv 23) [(Xv 27),(Xv 31)])))),(Wz [Wm 9 32] none)] (ks 23 10++ [K.of 9])) (Sq [Wm 33 9,Ws 34 (.ibin .neq (Xv 33) (Xn 0))] (.cond (Xv 34) (Sq [Wm 35 9,Wm 6 35] .ret) .skip))))) (.reg [Ya 36 20 1,Wm 20 36])))
def xA:Aa:=Sq [Wm 18 0,We 19 18,Yi 20 0] (Lp 0 j8)
def xz:Aa:=.reg [Yi 6 0]
def c70:Aa:=.seq xC (.seq xB (.seq xA (.seq xz .ret)))
def r70:List RV:=rt 6
def yv:Aa:=.reg [Yb 2 0,Yb 3 1,Yi 4 0]
def yu:Aa:=.seq (.draw [(Wz [Wo 8 2 0,Wl 9 8,Wo 10 3 0,Wl 11 10,Wo 13 2 1,Wl 14 13,Wo 15 3 1,Wl 16 15] (some (Yh 12 134 9 11))),⟨[],[Wo 13 2 1,Wl 14 13,Wo 15 3 1,Wl 16 15],some (Yh 17 134 14 16)⟩,(Wz [Ws 18 (.mkSl z2 [(0,1,(Xv 12)),(1,1,(Xv 17))] 2)] (some (Yk 19 133 18))),(Wz [Wm 5 19] none)] (ks 8 12++ [K.of 5])) (Sq [Wm 20 5,Ws 21 (.ibin .neq (Xv 20) (Xn 0))] (.cond (Xv 21) (Sq [Wm 22 5,Wm 4 22] .ret) .skip))
def yt:Aa:=.seq (.draw [(Wz [Wo 23 2 2,Wd 24 23 2,Wo 25 3 2,Wd 26 25 2,Wo 28 2 4,Wl 29 28,Wo 30 3 4,Wl 31 30] (some (Yh 27 145 24 26))),⟨[],[Wo 28 2 4,Wl 29 28,Wo 30 3 4,Wl 31 30],some (Yh 32 146 29 31)⟩,(Wz [Ws 33 (.mkSl z2 [(0,1,(Xv 27)),(1,1,(Xv 32))] 2)] (some (Yk 34 133 33))),(Wz [Wm 6 34] none)] (ks 23 12++ [K.of 6])) (Sq [Wm 35 6,Ws 36 (.ibin .neq (Xv 35) (Xn 0))] (.cond (Xv 36) (Sq [Wm 37 6,Wm 4 37] .ret) .skip))
def yq:Aa:=Sq [Wo 38 2 5,Wl 39 38,Wo 40 3 5,Wl 41 40,Ws 42 (.call 147 [(Xv 39),(Xv 41),(.c (.fn 94 [] []))]),Wm 7 42] (Sq [Wm 43 7,Ws 44 (.ibin .neq (Xv 43) (Xn 0))] (.cond (Xv 44) (Sq [Wm 45 7,Wm 4 45] .ret) .skip))
def yp:Aa:=.reg [Wo 46 2 6,Wl 47 46,Wo 48 3 6,Wl 49 48,Ws 50 (.call 147 [(Xv 47),(Xv 49),(.c (.fn 94 [] []))]),Wm 4 50]
def c34:Aa:=.seq yv (.seq yu (.seq yt (.seq yq (.seq yp .ret))))
def r34:List RV:=rt 4
def r6:Aa:=.reg [Yu 4]
def r5:Aa:=.reg [Wm 5 0,Wm 6 1,Yh 7 129 5 6,Ws 8 (.ibin .geq (Xv 7) (Xn 0)),Wm 4 8]
def c99:Aa:=.seq r6 (.seq r5 .ret)
def r99:List RV:=rt 4
def Vh:Aa:=.reg [Yi 4 0]
def IH:Aa:=Sq [Yl 9 8 7] (.seq (.cond (Xv 9) .skip (.exit 0)) (.seq (.block 1 (Sq [Wm 10 8,Wm 5 10] (Sq [Wm 11 1,Wm 12 0,Wm 13 5,Wx 14 12 13 7,Wd 15 14 7,Ws 16 (.callv (Xv 11) [(Xv 15)])] (.cond (Xv 16) (Sq [Wm 17 5,Wm 4 17] .ret) .skip)))) (.reg [Ya 18 8 1,Wm 8 18])))
def Vg:Aa:=Sq [Wm 6 0,We 7 6,Yi 8 0] (Lp 0 IH)
def Vf:Aa:=.reg [Ws 4 (.mv (.c (.int .i64 (.negSucc 0))))]
def AaJ:Aa:=.seq Vh (.seq Vg (.seq Vf .ret))
def AaB:List RV:=rt 4
def oD:Aa:=.reg [Yb 1 0,Yu 2]
def oC:Aa:=.reg [Wd 3 1 7,Yk 4 88 3,Ws 5 (.ibin .neq (Xv 4) (Xn 0)),Wm 2 5]
def AcZ:Aa:=.seq oD (.seq oC .ret)
def Abx:List RV:=rt 2
def oA:Aa:=.reg [Yb 1 0,Yi 2 0]
def oz:Aa:=Sq [Wd 3 1 7,Yk 4 130 3,Yv 5 4] (.cond (Xv 5) (Sq [Yi 2 4] .ret) .skip)
def oy:Aa:=.reg [Yi 2 0]
def AcY:Aa:=.seq oA (.seq oz (.seq oy .ret))
def Abw:List RV:=rt 2
def nQ:Aa:=.reg [Yb 1 0,Ws 2 (.alloc [vF])]
def nP:Aa:=Sq [Wd 4 1 7,Yk 5 192 4,Yv 6 5] (.cond (Xv 6) (Sq [Wn (.store (Xv 2) Xf 1)] .ret) .skip)
def nN:Aa:=Sq [Wd 7 1 7,Yk 8 193 7] (.block 0 (.range (Xv 8) [(K.of 9),(K.of 10)] (.reg [Ws 3 (.alloc z7),Yt 3 9 7]) (.block 1 (Sq [Wd 11 3 7,Yk 12 194 11,Yv 13 12] (.cond (Xv 13) (Sq [Wn (.store (Xv 2) Xf 1)] .ret) .skip)))))
def nM:Aa:=.reg [Wn (.store (Xv 2) Xt 1)]
def AcR:Aa:=.seq nQ (.seq nP (.seq nN (.seq nM .ret)))
def Abp:List RV:= [(.cell1 (K.of 2))]
def nr:Aa:=.reg [Yb 1 0,Yu 2]
def np:Aa:=.reg [Wd 6 1 7,Ws 7 (.call 294 [(Xv 6),(Xn 8000),(Xn 50)]),Wm 5 7,Yw 8 5 0,Yw 9 5 1,Wm 3 8,Wm 4 9]
def nj:Aa:=.reg [Wm 10 3,Ws 11 (.ibin .leq (Xv 10) (Xn 8000)),Wm 12 11,Ym 13 12 4,Wg 14 12 true (.ibin .leq (Xv 13) (Xn 50)),Yq 15 12 14,Wm 2 15]
def AcN:Aa:=.seq nr (.seq np (.seq nj .ret))
def Abl:List RV:=rt 2
def mL:Aa:=.reg [Yb 3 0,Yb 4 1,Yb 5 2,Yi 6 0,Yi 7 0]
def mK:Aa:=.reg [Ws 8 (.alloc [(vI 0)]),Ws 9 (.alloc [(vI 0)]),Wn (.store (Xv 8) (Xn 0) 1),Wn (.store (Xv 9) (Xn 0) 1)]
def mJ:Aa:=Sq [Wd 12 3 7,Yk 13 193 12] (.block 0 (.range (Xv 13) [(K.of 14),(K.of 15)] (.reg [Wm 11 15]) (.block 1 (Sq [Wl 16 8,Ya 17 16 1,Yt 8 17 1] (Sq [Wl 18 9,Wm 19 11,Ws 20 (.mxn true (Xv 18) [(Xv 19)]),Yt 9 20 1] (Sq [Wl 21 8,Wl 22 4,Ws 23 (.ibin .gtr (Xv 21) (Xv 22)),Wm 24 23,Yn 25 24 11,Yd 26 24 5,Wg 27 24 false (.ibin .gtr (Xv 25) (Xv 26)),Yp 28 24 27] (.cond (Xv 28) (.exit 0) .skip)))))))
def mI:Aa:=.draw [(Wz [Wl 29 8,Wl 30 9,Wm 6 29,Wm 7 30] none)] [K.of 29,K.of 30,K.of 6,K.of 7]
def AcF:Aa:=.seq mL (.seq mK (.seq mJ (.seq mI .ret)))
def Abd:List RV:= [(.t (K.of 6)),(.t (K.of 7))]
def nh:Aa:=.reg [Yb 1 0,Ws 2 (.mv (.c .nilf))]
def nf:Aa:=.reg [Ws 3 (.mkf 295 [] [(Xv 1)]),Wm 2 3]
def AcM:Aa:=.seq nh (.seq nf .ret)
def Abk:List RV:=rt 2
def mG:Aa:=.reg [Yb 2 0]
def mF:Aa:=.reg [Ws 3 (.alloc [.nilf])]
def mE:Aa:=.reg [Ws 4 (.mkf 296 [] [(Xv 2),(Xv 3)]),Yt 3 4 1]
def AcE:Aa:=.seq mG (.seq mF (.seq mE (.reg [Wl 5 3,Wd 6 1 7,Ws 7 (.callv (Xv 5) [(Xv 6),(Xn 1)])])))
def Abc:List RV:= []
def mC:Aa:=.reg [Yb 4 0,Yu 6]
def mB:Aa:=Sq [Wl 11 2,Wd 12 4 7,Wm 13 1,Ws 14 (.callv (Xv 11) [(Xv 12),(Xv 13)]),Yv 15 14] (Cf 15 6)
def QS:Aa:=Sq [Yl 29 28 27] (.seq (.cond (Xv 29) .skip (.exit 2)) (.seq (.block 3 (Sq [Wx 30 26 28 7,Wd 31 30 7,Ws 10 (.alloc z7),Yt 10 31 7] (Sq [Wl 32 3,Wd 33 10 7,Wm 34 1,Ya 35 34 1,Ws 36 (.callv (Xv 32) [(Xv 33),(Xv 35)]),Yv 37 36] (Cf 37 6)))) (.reg [Ya 38 28 1,Wm 28 38])))
def Nl:Aa:=Sq [Yl 23 22 21] (.seq (.cond (Xv 23) .skip (.exit 0)) (.seq (.block 1 (Sq [Wx 24 20 22 1,Wl 25 24,Wm 8 25] (Sq [Wm 26 8,We 27 26,Yi 28 0] (Lp 2 QS)))) (.reg [Ya 39 22 1,Wm 22 39])))
def mA:Aa:=Sq [Wo 16 4 5,Wl 17 16,Wo 18 4 6,Wl 19 18,Ws 20 (.mkSl [.nils,.nils] [(0,1,(Xv 17)),(1,1,(Xv 19))] 2),We 21 20,Yi 22 0] (Lp 0 Nl)
def mz:Aa:=.reg [Ws 6 (.mv Xt)]
def AcD:Aa:=.seq mC (.seq mB (.seq mA (.seq mz .ret)))
def Abb:List RV:=rt 6
def mZ:Aa:=.reg [Yb 1 0,Yu 2]
def mY:Aa:=.reg [Wo 4 1 2,Wo 5 4 0,Wl 6 5,Wm 7 6,Yr 8 7 1 2,Yr 9 7 8 1,Yd 10 7 9,Wg 11 7 false (.len .sl (Xv 10)),Wg 12 7 false (.ibin .gtr (Xv 11) (Xn 0)),Yp 13 7 12,Wm 3 13]
def Vd:Aa:=Sq [Wo 14 1 0,Wl 15 14] (.block 0 (Sq [Ye 17 15 1,Wm 16 17] (.cond (Xv 16) (Sq [Wo 18 1 1,Wl 19 18,Ye 20 19 0,Wm 21 20,Yr 22 21 1 1,Yd 23 21 22,Wg 24 21 false (.ibin .eql (Xv 23) (Xn 1)),Yp 25 21 24,Wm 26 25,Ym 27 26 3,Wg 28 26 true (.not (Xv 27)),Yq 29 26 28,Wm 30 29,Yo 31 30 1 4,Yc 32 30 31,Wg 33 30 true (.sbin .eql (Xv 32) (.c (.str []))),Yq 34 30 33,Wm 35 34,Yo 36 35 1 5,Yc 37 35 36,Wg 38 35 true (.len .sl (Xv 37)),Yo 39 35 1 6,Yc 40 35 39,Wg 41 35 true (.len .sl (Xv 40)),Wg 42 35 true (.ibin .add (Xv 38) (Xv 41)),Wg 43 35 true (.ibin .eql (Xv 42) (Xn 0)),Yq 44 35 43,Wm 2 44] .ret) (Sq [Ye 46 15 2,Wm 45 46] (.cond (Xv 45) (Sq [Wo 47 1 2,Wd 48 47 2,Yk 49 297 48,Ye 50 49 0,Wm 51 50,Yo 52 51 1 1,Yc 53 51 52,Wg 54 51 true (.ibin .eql (Xv 53) (Xn 0)),Yq 55 51 54,Wm 56 55,Yo 57 56 1 4,Yc 58 56 57,Wg 59 56 true (.sbin .eql (Xv 58) (.c (.str []))),Yq 60 56 59,Wm 61 60,Yo 62 61 1 5,Yc 63 61 62,Wg 64 61 true (.len .sl (Xv 63)),Yo 65 61 1 6,Yc 66 61 65,Wg 67 61 true (.len .sl (Xv 66)),Wg 68 61 true (.ibin .add (Xv 64) (Xv 67)),Wg 69 61 true (.ibin .eql (Xv 68) (Xn 0)),Yq 70 61 69,Wm 2 70] .ret) (.seq (Sq [Ye 72 15 3,Wm 71 72] (.cond (Xv 71) .skip (.reg [Ye 73 15 4,Wm 71 73]))) (.cond (Xv 71) (.seq (Sq [Wo 74 1 1,Wl 75 74,Ws 76 (.ibin .neq (Xv 75) (Xn 0)),Wm 77 76,Yn 78 77 3,Yp 79 77 78,Wm 80 79,Yr 81 80 1 5,Yd 82 80 81,Wg 83 80 false (.len .sl (Xv 82)),Yr 84 80 1 6,Yd 85 80 84,Wg 86 80 false (.len .sl (Xv 85)),Wg 87 80 false (.ibin .add (Xv 83) (Xv 86)),Wg 88 80 false (.ibin .gtr (Xv 87) (Xn 0)),Yp 89 80 88] (Cf 89 2)) (.seq (Sq [Wo 90 1 0,Wl 91 90,Ye 92 91 3] (.cond (Xv 92) (Sq [Wo 93 1 4,Wl 94 93,Yk 95 298 94,Wm 2 95] .ret) .skip)) (Sq [Wo 96 1 4,Wl 97 96,Yk 98 299 97,Wm 2 98] .ret))) (.seq (Sq [Ye 100 15 5,Wm 99 100] (.cond (Xv 99) .skip (.reg [Ye 101 15 6,Wm 99 101]))) (.cond (Xv 99) (.seq (Sq [Wo 102 1 1,Wl 103 102,Ws 104 (.ibin .neq (Xv 103) (Xn 0)),Wm 105 104,Yn 106 105 3,Yp 107 105 106,Wm 108 107,Yr 109 108 1 4,Yd 110 108 109,Wg 111 108 false (.sbin .neq (Xv 110) (.c (.str []))),Yp 112 108 111,Wm 113 112,Yr 114 113 1 5,Yd 115 113 114,Wg 116 113 false (.call 300 [(Xv 115)]),Wg 117 113 false (.not (Xv 116)),Yp 118 113 117] (Cf 118 2)) (.seq (Sq [Wo 119 1 0,Wl 120 119,Ye 121 120 5] (.cond (Xv 121) (Sq [Wo 122 1 6,Wl 123 122,We 124 123,Ye 125 124 0,Wm 2 125] .ret) .skip)) (Sq [Wo 126 1 6,Wl 127 126,We 128 127,Wo 129 1 5,Wl 130 129,We 131 130,Ws 132 (.ibin .eql (Xv 128) (Xv 131)),Wm 2 132] .ret))) .skip)))))))))
def Vc:Aa:=.reg [Yu 2]
def AcL:Aa:=.seq mZ (.seq mY (.seq Vd (.seq Vc .ret)))
def Abj:List RV:=rt 2
def my:Aa:=.reg [Yb 1 0,Yi 2 0]
def mu:Aa:=.reg [Wo 4 1 1,Wl 5 4,We 6 5,Wm 3 6]
def mn:Aa:=Sq [Wm 7 3,Ws 8 (.ibin .gtr (Xv 7) (Xn 40)),Wm 9 8,Yn 10 9 3,Wg 11 9 false (.ibin .eql (Xv 10) (Xn 0)),Yn 12 9 11,Yo 13 12 1 0,Yc 14 12 13,Wg 15 9 false (.pick (Xv 12) (Xv 14) Xf),Yp 16 9 15,Wm 17 16,Yn 18 17 3,Wg 19 17 false (.ibin .gtr (Xv 18) (Xn 0)),Yn 20 17 19,Yo 21 20 1 1,Yc 22 20 21,Ym 23 20 3,Wg 24 20 true (.ibin .sub (Xv 23) (Xn 1)),Yx 25 20 22 24 1,Yc 26 20 25,Wg 27 20 true (.ibin .eql (Xv 26) (Xn 0)),Wg 28 17 false (.pick (Xv 20) (Xv 27) Xf),Yp 29 17 28] (.cond (Xv 29) (Sq [Yi 2 10] .ret) .skip)
def mj:Aa:=Sq [Wo 30 1 1,Wl 31 30,Ws 32 (.call 26 [(Xv 31),(.c (.fn 422 [] []))])] (.cond (Xv 32) (Sq [Yi 2 10] .ret) .skip)
def mh:Aa:=.reg [Yi 2 0]
def AcC:Aa:=.seq my (.seq mu (.seq mn (.seq mj (.seq mh .ret))))
def Aba:List RV:=rt 2
def lH:Aa:=.reg [Yu 2]
def lG:Aa:=.reg [Wm 3 0,Ws 4 (.ibin .lss (Xv 3) (Xn 0)),Wm 5 4,Yn 6 5 0,Wg 7 5 false (.ibin .geq (Xv 6) (Xn 1000000000)),Yp 8 5 7,Wm 2 8]
def Acu:Aa:=.seq lH (.seq lG .ret)
def Aa2:List RV:=rt 2
def U7:Aa:=.reg [Yu 4]
def U6:Aa:=.reg [Wm 5 0,Wm 6 1,Yh 7 64 5 6,Ws 8 (.ibin .geq (Xv 7) (Xn 0)),Wm 4 8]
def AaI:Aa:=.seq U7 (.seq U6 .ret)
def AaA:List RV:=rt 4
def UZ:Aa:=.reg [Yi 4 0]
def IG:Aa:=Sq [Yl 9 8 7] (.seq (.cond (Xv 9) .skip (.exit 0)) (.seq (.block 1 (Sq [Wm 10 8,Wm 5 10] (Sq [Wm 11 1,Wm 12 0,Wm 13 5,Wx 14 12 13 1,Wl 15 14,Ws 16 (.callv (Xv 11) [(Xv 15)])] (.cond (Xv 16) (Sq [Wm 17 5,Wm 4 17] .ret) .skip)))) (.reg [Ya 18 8 1,Wm 8 18])))
def UY:Aa:=Sq [Wm 6 0,We 7 6,Yi 8 0] (Lp 0 IG)
def UX:Aa:=.reg [Ws 4 (.mv (.c (.int .i64 (.negSucc 0))))]
def AaH:Aa:=.seq UZ (.seq UY (.seq UX .ret))
def Aaz:List RV:=rt 4
def mf:Aa:=.reg [Yu 2]
def QR:Aa:=Sq [Yl 7 6 5] (.seq (.cond (Xv 7) .skip (.exit 0)) (.seq (.block 1 (Sq [Wm 8 6,Wm 3 8] (Sq [Wm 9 0,Wm 10 3,Ws 11 (.idxS (Xv 9) (Xv 10)),Ws 12 (.ibin .lss (Xv 11) (.c (.int .u8 (.ofNat 32)))),Wm 13 12,Yn 14 13 0,Yn 15 13 3,Wg 16 13 false (.idxS (Xv 14) (Xv 15)),Wg 17 13 false (.ibin .gtr (Xv 16) (.c (.int .u8 (.ofNat 126)))),Yp 18 13 17] (Cf 18 2)))) (.reg [Ya 19 6 1,Wm 6 19])))
def me:Aa:=Sq [Wm 4 0,Ws 5 (.len .str (Xv 4)),Yi 6 0] (Lp 0 QR)
def md:Aa:=.reg [Wm 20 0,Ws 21 (.len .str (Xv 20)),Ws 22 (.ibin .leq (Xv 21) (Xn 200)),Wm 2 22]
def AcB:Aa:=.seq mf (.seq me (.seq md .ret))
def Aa9:List RV:=rt 2
def l9:Aa:=.reg [Yu 2]
def l8:Aa:=Sq [Wm 4 0,Ws 5 (.sbin .eql (Xv 4) (.c (.str []))),Wm 6 5,Yn 7 6 0,Wg 8 6 false (.len .str (Xv 7)),Wg 9 6 false (.ibin .gtr (Xv 8) (Xn 40)),Yp 10 6 9,Wm 11 10,Yn 12 11 0,Wg 13 11 false (.idxS (Xv 12) (Xn 0)),Wg 14 11 false (.call 423 [(Xv 13)]),Wg 15 11 false (.not (Xv 14)),Yp 16 11 15,Wm 17 16,Yn 18 17 0,Wg 19 17 false (.sbin .eql (Xv 18) (.c (.str [84,82,85,69]))),Yp 20 17 19,Wm 21 20,Yn 22 21 0,Wg 23 21 false (.sbin .eql (Xv 22) (.c (.str [70,65,76,83,69]))),Yp 24 21 23] (Cf 24 2)
def QQ:Aa:=Sq [Yl 28 27 26] (.seq (.cond (Xv 28) .skip (.exit 0)) (.seq (.block 1 (Sq [Wm 29 27,Wm 3 29] (Sq [Wm 30 0,Wm 31 3,Ws 32 (.idxS (Xv 30) (Xv 31)),Yk 33 424 32,Yv 34 33] (Cf 34 2)))) (.reg [Ya 35 27 1,Wm 27 35])))
def lZ:Aa:=Sq [Wm 25 0,Ws 26 (.len .str (Xv 25)),Yi 27 0] (Lp 0 QQ)
def lY:Aa:=.reg [Ws 2 (.mv Xt)]
def AcA:Aa:=.seq l9 (.seq l8 (.seq lZ (.seq lY .ret)))
def Aa8:List RV:=rt 2
def lX:Aa:=.reg [Yu 2]
def Nk:Aa:=.seq (Sq [Wm 4 3,Wm 5 0,We 6 5,Yl 7 4 6] (.cond (Xv 7) .skip (.exit 0))) (.seq (.block 1 (.seq (.draw [(Wz [Wm 10 0,Wm 11 3,Ys 12 11 1,Wx 13 10 12 7,Wd 14 13 7,Wm 15 0,Wm 16 3,Wx 17 15 16 7,Wd 18 17 7] (some (Yh 19 94 14 18))),(Wz [Ws 20 (.ibin .geq (Xv 19) (Xn 0))] none)] (ks 10 11)) (Cf 20 2))) (.reg [Wm 8 3,Ya 9 8 1,Wm 3 9]))
def lW:Aa:=Sq [Yi 3 1] (Lp 0 Nk)
def lV:Aa:=.reg [Wm 21 0,We 22 21,Ws 23 (.ibin .leq (Xv 22) (Xn 4000)),Wm 2 23]
def Acz:Aa:=.seq lX (.seq lW (.seq lV .ret))
def Aa7:List RV:=rt 2
def lF:Aa:=.reg [Yu 2]
def lE:Aa:=.reg [Wm 3 0,Ws 4 (.ibin .leq (.c (.int .u8 (.ofNat 97))) (Xv 3)),Wm 5 4,Ym 6 5 0,Wg 7 5 true (.ibin .leq (Xv 6) (.c (.int .u8 (.ofNat 122)))),Yq 8 5 7,Wm 9 8,Yn 10 9 0,Wg 11 9 false (.ibin .leq (.c (.int .u8 (.ofNat 65))) (Xv 10)),Yn 12 9 11,Ym 13 12 0,Wg 14 12 true (.ibin .leq (Xv 13) (.c (.int .u8 (.ofNat 90)))),Wg 15 9 false (.pick (Xv 12) (Xv 14) Xf),Yp 16 9 15,Wm 2 16]
def Acs:Aa:=.seq lF (.seq lE .ret)
def Aa1:List RV:=rt 2
def lD:Aa:=.reg [Yu 2]
def lC:Aa:=.reg [Wm 3 0,Yk 4 423 3,Wm 5 4,Yn 6 5 0,Wg 7 5 false (.ibin .leq (.c (.int .u8 (.ofNat 48))) (Xv 6)),Yn 8 5 7,Ym 9 8 0,Wg 10 8 true (.ibin .leq (Xv 9) (.c (.int .u8 (.ofNat 57)))),Wg 11 5 false (.pick (Xv 8) (Xv 10) Xf),Yp 12 5 11,Wm 13 12,Yn 14 13 0,Wg 15 13 false (.ibin .eql (Xv 14) (.c (.int .u8 (.ofNat 95)))),Yp 16 13 15,Wm 2 16]
def Acr:Aa:=.seq lD (.seq lC .ret)
def Aa0:List RV:=rt 2
def ox:Aa:=.reg [Ws 2 (.mv (.c (.str [])))]
def ov:Aa:=.reg [Ws 3 (.mv (.c .nils))]
def QU:Aa:=Sq [Yl 11 10 9] (.seq (.cond (Xv 11) .skip (.exit 0)) (.seq (.block 1 (Sq [Wx 12 8 10 7,Wd 13 12 7,Ws 5 (.alloc z7),Yt 5 13 7] (Sq [Wd 15 5 7,Yk 16 131 15,Wm 14 16,Yw 17 14 0,Yw 18 14 1,Wm 6 17,Wm 7 18] (.seq (Sq [Wm 19 7,Ws 20 (.ibin .neq (Xv 19) (Xn 0))] (.cond (Xv 20) (Sq [Wm 21 0,Yk 22 132 21,Wm 2 22] .ret) .skip)) (Sq [Wm 23 3,Wm 24 6,We 25 24,Ws 26 (.ibin .shr (Xv 25) (.c (.int .u64 (.ofNat 24)))),Ws 27 (.conv .u8 (Xv 26)),Wm 28 6,We 29 28,Ws 30 (.ibin .shr (Xv 29) (.c (.int .u64 (.ofNat 16)))),Ws 31 (.conv .u8 (Xv 30)),Wm 32 6,We 33 32,Ws 34 (.ibin .shr (Xv 33) (.c (.int .u64 (.ofNat 8)))),Ws 35 (.conv .u8 (Xv 34)),Wm 36 6,We 37 36,Ws 38 (.conv .u8 (Xv 37)),Ws 39 (.mkSl [(.int .u8 (.ofNat 0)),(.int .u8 (.ofNat 0)),(.int .u8 (.ofNat 0)),(.int .u8 (.ofNat 0))] [(0,1,(Xv 27)),(1,1,(Xv 31)),(2,1,(Xv 35)),(3,1,(Xv 38))] 4),Ws 40 (.app (Xv 23) (Xv 39) 1 1 (some [(.int .u8 (.ofNat 0))])),Wm 3 40] (.reg [Wm 41 3,Wm 42 6,Ws 43 (.app (Xv 41) (Xv 42) 1 1 (some [(.int .u8 (.ofNat 0))])),Wm 3 43])))))) (.reg [Ya 44 10 1,Wm 10 44])))
def ou:Aa:=Sq [Wm 8 0,We 9 8,Yi 10 0] (Lp 0 QU)
def ot:Aa:=.reg [Wm 45 3,Ws 46 (.ofBytes (Xv 45)),Ws 47 (.sbin .add (.c (.str [98])) (Xv 46)),Wm 2 47]
def AcX:Aa:=.seq ox (.seq ov (.seq ou (.seq ot .ret)))
def Abv:List RV:=rt 2
def oq:Aa:=.reg [Yb 2 0,Yb 3 1,Yi 4 0]
def oo:Aa:=.draw [(Wz [Wo 5 2 0,Wl 6 5,Wo 7 3 0,Wl 8 7,Wo 10 2 1,Wl 11 10,Wo 12 3 1,Wl 13 12] (some (Yh 9 134 6 8))),⟨[],[Wo 10 2 1,Wl 11 10,Wo 12 3 1,Wl 13 12],some (Yh 14 134 11 13)⟩,(Wz [Ws 15 (.mkSl z2 [(0,1,(Xv 9)),(1,1,(Xv 14))] 2)] (some (Yk 16 133 15))),(Wz [Wm 4 16] none)] (ks 5 12++ [K.of 4])
def AcW:Aa:=.seq oq (.seq oo .ret)
def Abu:List RV:=rt 4
def nL:Aa:=.reg [Yb 1 0,Ws 2 (.mv (.c .nils)),Yi 3 0]
def nK:Aa:=Sq [Wd 5 1 7,Yk 6 130 5,Yv 7 6] (.cond (Xv 7) (Sq [Ws 2 (.mv (.c .nils)),Yi 3 4] .ret) .skip)
def nJ:Aa:=.reg [Ws 4 (.alloc [.nils,(vI 0),(.int .i8 (.ofNat 0))])]
def nI:Aa:=.reg [Wd 8 1 7,Yh 9 195 4 8]
def nG:Aa:=.reg [Wo 10 4 0,Yk 11 196 10,Wm 2 11,Yi 3 0]
def AcQ:Aa:=.seq nL (.seq nK (.seq nJ (.seq nI (.seq nG .ret))))
def Abo:List RV:= [(.t (K.of 2)),(.t (K.of 3))]
def nV:Aa:=.reg [Ws 2 (.alloc z7)]
def nU:Aa:=.reg [Ws 4 (.mk z7 [(0,1,(Xn 1))]),Ws 3 (.alloc z7),Yt 3 4 7]
def nT:Aa:=Sq [Wm 5 0] (.cond (Xv 5) (.reg [Wo 6 3 1,Wn (.store (Xv 6) (Xn 1) 1)]) .skip)
def nR:Aa:=.reg [Wd 7 3 7,Yt 2 7 7]
def AcS:Aa:=.seq nV (.seq nU (.seq nT (.seq nR .ret)))
def Abq:List RV:= [(.cellN (K.of 2) 7)]
def Vb:Aa:=.reg [Yb 3 1]
def U9:Aa:=.draw [(Wz [Wm 8 0,Wc 9 8,Wo 10 9 0,Wo 11 3 0,Wl 12 11,Ws 13 (.conv .u8 (Xv 12))] (some (Yh 14 301 10 13))),(Wz [] none)] (ks 8 7)
def U8:Aa:=.reg [Wo 15 3 0,Wl 16 15]
def Np:Aa:=Sq [Yl 69 68 67] (.seq (.cond (Xv 69) .skip (.exit 3)) (.seq (.block 4 (Sq [Wx 70 66 68 1,Wl 71 70,Wm 5 71] (.reg [Wm 72 0,Wm 73 5,Ws 74 (.call 303 [(Xv 72),(Xv 73),(Xn 4)])]))) (.reg [Ya 75 68 1,Wm 68 75])))
def JN:Aa:=Sq [Yl 30 29 28] (.seq (.cond (Xv 30) .skip (.exit 1)) (.seq (.block 2 (Sq [Wx 31 27 29 7,Wd 32 31 7,Ws 7 (.alloc z7),Yt 7 32 7] (.reg [Wm 33 0,Wd 34 7 7,Yh 35 195 33 34]))) (.reg [Ya 36 29 1,Wm 29 36])))
def AcK:Aa:=.seq Vb (.seq U9 (.seq U8 (.block 0 (Sq [Ye 38 16 1,Wm 37 38] (.cond (Xv 37) (.draw [(Wz [Wm 39 0,Wc 40 39,Wo 41 40 0,Wo 42 3 1,Wl 43 42,Ws 44 (.conv .u8 (Xv 43))] (some (Yh 45 301 41 44))),(Wz [] none)] (ks 39 7)) (Sq [Ye 47 16 2,Wm 46 47] (.cond (Xv 46) (.seq (.draw [(Wz [Wm 48 0,Wc 49 48,Wo 50 49 0,Wo 51 3 2,Wo 52 51 0,Wl 53 52] (some (Yk 54 302 53))),⟨[Ws 55 (.fld (Xv 54) 1 1 false),Ws 56 (.conv .u8 (Xv 55))],[Wm 48 0,Wc 49 48,Wo 50 49 0,Ws 55 (.fld (Xv 54) 1 1 false),Ws 56 (.conv .u8 (Xv 55))],some (Yh 57 301 50 56)⟩,(Wz [] none)] (ks 48 10)) (Sq [Wm 58 0,Wo 59 3 2,Wo 60 59 1,Wl 61 60,We 62 61,Ws 63 (.call 303 [(Xv 58),(Xv 62),(Xn 1)])] (Sq [Wo 64 3 2,Wo 65 64 1,Wl 66 65,We 67 66,Yi 68 0] (Lp 3 Np)))) (.seq (Sq [Ye 77 16 3,Wm 76 77] (.cond (Xv 76) .skip (.reg [Ye 78 16 4,Wm 76 78]))) (.cond (Xv 76) (Sq [Wm 79 0,Wo 80 3 4,Wl 81 80,Ws 82 (.len .str (Xv 81)),Ws 83 (.call 303 [(Xv 79),(Xv 82),(Xn 1)])] (.draw [(Wz [Wm 84 0,Wc 85 84,Wo 86 85 0,Wo 87 3 4,Wl 88 87] (some (Yh 89 304 86 88))),(Wz [] none)] (ks 84 6))) (Sq [Wm 17 0,Wo 18 3 5,Wl 19 18,We 20 19,Ws 21 (.call 303 [(Xv 17),(Xv 20),(Xn 2)])] (Sq [Wo 22 3 5,Wl 23 22,Wo 24 3 6,Wl 25 24,Ws 26 (.mkSl [.nils,.nils] [(0,1,(Xv 23)),(1,1,(Xv 25))] 2),Yk 27 305 26,We 28 27,Yi 29 0] (Lp 1 JN))))))))))))
def Abi:List RV:= []
def mR:Aa:=.reg [Ws 2 (.mv (.c .nils))]
def mQ:Aa:=.reg [Yi 3 0]
def Nn:Aa:=Sq [Yl 12 11 10] (.seq (.cond (Xv 12) .skip (.exit 0)) (.seq (.block 1 (Sq [Wx 13 9 11 1,Wl 14 13,Wm 5 14] (Sq [Wm 15 3,Wm 16 5,We 17 16,Ws 18 (.ibin .add (Xv 15) (Xv 17)),Wm 3 18] (Sq [Wm 19 3,Ws 20 (.ibin .lss (Xv 19) (Xn 0))] (.cond (Xv 20) (.reg [Ws 21 (.mkif 9 (.c (.str [108,101,110,32,111,117,116,32,111,102,32,114,97,110,103,101]))),Wn (.panic (Xv 21))]) .skip))))) (.reg [Ya 22 11 1,Wm 11 22])))
def mP:Aa:=Sq [Wm 9 0,We 10 9,Yi 11 0] (Lp 0 Nn)
def mO:Aa:=.reg [Wm 23 3,Ws 24 (.call 427 [(.c .nils),(Xv 23)]),Wm 6 24]
def Nm:Aa:=Sq [Yl 28 27 26] (.seq (.cond (Xv 28) .skip (.exit 2)) (.seq (.block 3 (Sq [Wx 29 25 27 1,Wl 30 29,Wm 8 30] (.reg [Wm 31 6,Wm 32 8,Ws 33 (.app (Xv 31) (Xv 32) 7 112 (some z7)),Wm 6 33]))) (.reg [Ya 34 27 1,Wm 27 34])))
def mN:Aa:=Sq [Wm 25 0,We 26 25,Yi 27 0] (Lp 2 Nm)
def mM:Aa:=.reg [Wm 35 6,Wm 2 35]
def AcG:Aa:=.seq mR (.seq mQ (.seq mP (.seq mO (.seq mN (.seq mM .ret)))))
def Abe:List RV:=rt 2
def lL:Aa:=.reg [Ws 4 (.mv (.c .nils))]
def lK:Aa:=Sq [Wm 5 1,Ws 6 (.ibin .lss (Xv 5) (Xn 0))] (.cond (Xv 6) (.reg [Ws 7 (.mkif 9 (.c (.str [99,97,110,110,111,116,32,98,101,32,110,101,103,97,116,105,118,101]))),Wn (.panic (Xv 7))]) .skip)
def lJ:Aa:=Sq [Wm 8 1,Wm 9 0,Ws 10 (.cap (Xv 9)),Wm 11 0,We 12 11,Ws 13 (.ibin .sub (Xv 10) (Xv 12)),Ws 14 (.ibin .sub (Xv 8) (Xv 13)),Wm 1 14] (Sq [Wm 15 1,Ws 16 (.ibin .gtr (Xv 15) (Xn 0))] (.cond (Xv 16) (.reg [Wm 17 0,Wm 18 0,Ws 19 (.cap (Xv 18)),Ws 20 (.slice (Xv 17) none (some (Xv 19)) none 7),Wm 21 1,Ws 22 (.appz (Xv 20) (Xv 21) 7 112 z7 (some z7)),Wm 23 0,We 24 23,Ws 25 (.slice (Xv 22) none (some (Xv 24)) none 7),Wm 0 25]) .skip))
def lI:Aa:=.reg [Wm 26 0,Wm 4 26]
def Acv:Aa:=.seq lL (.seq lK (.seq lJ (.seq lI .ret)))
def Aa3:List RV:=rt 4
def mX:Aa:=.reg [Ws 2 (.mv (.c .nils))]
def mW:Aa:=.draw [(Wz [Wm 3 0,Wc 4 3,Wo 5 4 0,Wl 6 5,Wm 7 0,Wc 8 7,Wo 9 8 1,Wl 10 9,Ws 11 (.slice (Xv 6) (some (Xv 10)) none none 1),Wm 2 11] none)] (ks 3 9++ [K.of 2])
def AcJ:Aa:=.seq mX (.seq mW .ret)
def Abh:List RV:=rt 2
def lU:Aa:=.reg [Ws 4 (.mv (.c .nili))]
def lT:Aa:=.reg [Wm 7 0,Wc 8 7,Wo 9 8 2,Wn (.store (Xv 9) (.c (.int .i8 (.ofNat 0))) 1)]
def lS:Aa:=.reg [Wm 11 0,Ws 12 (.call 425 [(Xv 11),(Xn 1)]),Wm 10 12,Yw 13 10 0,Yw 14 10 1,Wm 5 13,Wm 6 14]
def lR:Aa:=Sq [Wm 15 6,Yv 16 15] (.cond (Xv 16) (.reg [Wm 17 0,Ws 18 (.call 426 [(Xv 17),(Xn 1)]),Wm 5 18]) .skip)
def HY:Aa:=.reg [Wm 19 0,Wc 20 19,Wo 21 20 0,Wl 22 21,Wm 23 5,Wm 24 1,Wx 25 22 23 1,Yt 25 24 1]
def HX:Aa:=.reg [Ws 4 (.mv (.c .nili))]
def Acy:Aa:=.seq lU (.seq lT (.seq lS (.seq lR (.seq HY (.seq HX .ret)))))
def Aa6:List RV:=rt 4
def lQ:Aa:=.reg [Wm 7 2,Ys 8 7 1,Wm 6 8]
def QP:Aa:=.seq (Sq [Wm 9 6,Ws 10 (.ibin .geq (Xv 9) (Xn 0))] (.cond (Xv 10) .skip (.exit 0))) (.seq (.block 1 (.draw [(Wz [Wm 13 0,Wc 14 13,Wo 15 14 0,Wm 16 1,Wm 17 6,Ws 18 (.ibin .mul (Xn 8) (Xv 17)),Ws 19 (.ibin .shr (Xv 16) (Xv 18)),Ws 20 (.conv .u8 (Xv 19))] (some (Yh 21 301 15 20))),(Wz [] none)] (ks 13 9))) (.reg [Wm 11 6,Ys 12 11 1,Wm 6 12]))
def Acx:Aa:=.seq lQ (Lp 0 QP)
def Aa5:List RV:= []
def lP:Aa:=.reg [Yi 4 0,Ws 5 (.mv (.c .nili))]
def lO:Aa:=.reg [Wm 8 0,Wc 9 8,Wo 10 9 2,Wn (.store (Xv 10) (.c (.int .i8 (.ofNat 0))) 1)]
def lN:Aa:=.reg [Wm 12 0,Wm 13 1,Ws 14 (.len .str (Xv 13)),Yh 15 425 12 14,Wm 11 15,Yw 16 11 0,Yw 17 11 1,Wm 6 16,Wm 7 17]
def lM:Aa:=Sq [Wm 18 7,Yv 19 18] (.cond (Xv 19) (.reg [Wm 20 0,Wm 21 1,Ws 22 (.len .str (Xv 21)),Yh 23 426 20 22,Wm 6 23]) .skip)
def U0:Aa:=.reg [Wm 24 0,Wc 25 24,Wo 26 25 0,Wl 27 26,Wm 28 6,Ws 29 (.slice (Xv 27) (some (Xv 28)) none none 1),Wm 30 1,Ws 31 (.copy (Xv 29) (Xv 30) 1),Wm 4 31,Ws 5 (.mv (.c .nili))]
def Acw:Aa:=.seq lP (.seq lO (.seq lN (.seq lM (.seq U0 .ret))))
def Aa4:List RV:= [(.t (K.of 4)),(.t (K.of 5))]
def PI:Aa:=.reg [Yi 4 0,Yu 5]
def PH:Aa:=Sq [Wm 7 0,Wc 8 7,Wo 9 8 0,Wl 10 9,We 11 10,Wm 6 11] (Sq [Wm 12 1,Wm 13 0,Wc 14 13,Wo 15 14 0,Wl 16 15,Ws 17 (.cap (Xv 16)),Wm 18 6,Ws 19 (.ibin .sub (Xv 17) (Xv 18)),Ws 20 (.ibin .leq (Xv 12) (Xv 19))] (.cond (Xv 20) (Sq [Wm 21 0,Wm 22 0,Wc 23 22,Wo 24 23 0,Wl 25 24,Wm 26 6,Wm 27 1,Ws 28 (.ibin .add (Xv 26) (Xv 27)),Ws 29 (.slice (Xv 25) none (some (Xv 28)) none 1),Wc 30 21,Wo 31 30 0,Yt 31 29 1] (Sq [Wm 32 6,Wm 4 32,Ws 5 (.mv Xt)] .ret)) .skip))
def PG:Aa:=.reg [Yi 4 0,Yu 5]
def Aam:Aa:=.seq PI (.seq PH (.seq PG .ret))
def xw:List RV:= [(.t (K.of 4)),(.t (K.of 5))]
def PF:Aa:=.reg [Yi 4 0]
def PD:Aa:=.reg [Wm 9 0,Yk 10 518 9,Wm 5 10]
def PC:Aa:=Sq [Wm 11 5,Ye 12 11 0,Wm 13 12,Ym 14 13 0,Wg 15 13 true (.nilchk (Xv 14)),Yo 16 13 15 1,Yc 17 13 16,Wg 18 13 true (.ibin .neq (Xv 17) (Xn 0)),Yq 19 13 18] (.cond (Xv 19) (.reg [Wm 20 0,Yk 21 519 20]) .skip)
def PB:Aa:=Sq [Wm 23 0,Wm 24 1,Yh 25 425 23 24,Wm 22 25,Yw 26 22 0,Yw 27 22 1,Wm 6 26,Wm 7 27] (Sq [Wm 28 7] (.cond (Xv 28) (Sq [Wm 29 6,Wm 4 29] .ret) .skip))
def PA:Aa:=Sq [Wm 30 0,Wc 31 30,Wo 32 31 0,Wl 33 32,Ws 34 (.eqv false .sl (Xv 33) (.c .nils)),Wm 35 34,Ym 36 35 1,Wg 37 35 true (.ibin .leq (Xv 36) (Xn 64)),Yq 38 35 37] (.cond (Xv 38) (Sq [Wm 39 0,Wm 40 1,Ws 41 (.mkslice (Xv 40) (Xn 64) [(.int .u8 (.ofNat 0))] 1),Wc 42 39,Wo 43 42 0,Yt 43 41 1] (Sq [Yi 4 0] .ret)) .skip)
def Pz:Aa:=.reg [Wm 44 0,Wc 45 44,Wo 46 45 0,Wl 47 46,Ws 48 (.cap (Xv 47)),Wm 8 48]
def Py:Aa:=Sq [Wm 49 1,Wm 50 8,Ws 51 (.ibin .quo (Xv 50) (Xn 2)),Wm 52 5,Ws 53 (.ibin .sub (Xv 51) (Xv 52)),Ws 54 (.ibin .leq (Xv 49) (Xv 53))] (.cond (Xv 54) (.draw [(Wz [Wm 55 0,Wc 56 55,Wo 57 56 0,Wl 58 57,Wm 59 0,Wc 60 59,Wo 61 60 0,Wl 62 61,Wm 63 0,Wc 64 63,Wo 65 64 1,Wl 66 65,Ws 67 (.slice (Xv 62) (some (Xv 66)) none none 1)] (some (Ws 68 (.copy (Xv 58) (Xv 67) 1)))),(Wz [] none)] (ks 55 14)) (Sq [Wm 69 8,Wm 70 8,Ws 71 (.ibin .sub (Xn 9223372036854775807) (Xv 70)),Wm 72 1,Ws 73 (.ibin .sub (Xv 71) (Xv 72)),Ws 74 (.ibin .gtr (Xv 69) (Xv 73))] (.cond (Xv 74) (.reg [Wn (.bad),Wn (.panic (Xv 75))]) (.draw [(Wz [Wm 76 0,Wm 77 0,Wc 78 77,Wo 79 78 0,Wl 80 79,Wm 81 0,Wc 82 81,Wo 83 82 1,Wl 84 83,Ws 85 (.slice (Xv 80) (some (Xv 84)) none none 1),Wm 86 0,Wc 87 86,Wo 88 87 1,Wl 89 88,Wm 90 1,Ws 91 (.ibin .add (Xv 89) (Xv 90))] (some (Yh 92 520 85 91))),⟨[Wc 93 76,Wo 94 93 0],[Wm 76 0,Wc 93 76,Wo 94 93 0],some (Yt 94 92 1)⟩,(Wz [] none)] (ks 76 19)))))
def Px:Aa:=.reg [Wm 95 0,Wc 96 95,Wo 97 96 1,Wn (.store (Xv 97) (Xn 0) 1)]
def Pw:Aa:=.reg [Wm 98 0,Wm 99 0,Wc 100 99,Wo 101 100 0,Wl 102 101,Wm 103 5,Wm 104 1,Ws 105 (.ibin .add (Xv 103) (Xv 104)),Ws 106 (.slice (Xv 102) none (some (Xv 105)) none 1),Wc 107 98,Wo 108 107 0,Yt 108 106 1]
def Pv:Aa:=.reg [Wm 109 5,Wm 4 109]
def Aal:Aa:=.seq PF (.seq PD (.seq PC (.seq PB (.seq PA (.seq Pz (.seq Py (.seq Px (.seq Pw (.seq Pv .ret)))))))))
def xq:List RV:=rt 4
def lu:Aa:=.reg [Ws 4 (.mv (.c .nils))]
def lq:Aa:=.reg [Wn (.defer (.c (.fn 580 [] [])) [])]
def lp:Aa:=.reg [Wm 8 0,We 9 8,Wm 10 1,Ws 11 (.ibin .add (Xv 9) (Xv 10)),Wm 5 11]
def lm:Aa:=Sq [Wm 12 5,Wm 13 0,Ws 14 (.cap (Xv 13)),Ws 15 (.ibin .mul (Xn 2) (Xv 14)),Yl 16 12 15] (.cond (Xv 16) (.reg [Wm 17 0,Ws 18 (.cap (Xv 17)),Ws 19 (.ibin .mul (Xn 2) (Xv 18)),Wm 5 19]) .skip)
def UW:Aa:=.reg [Wm 20 5,Ws 21 (.appz (.c .nils) (Xv 20) 1 1 [(.int .u8 (.ofNat 0))] (some [(.int .u8 (.ofNat 0))])),Wm 6 21]
def UV:Aa:=.reg [Wm 22 6,Wm 23 0,Ws 24 (.copy (Xv 22) (Xv 23) 1),Wm 7 24]
def UU:Aa:=.reg [Wm 25 6,Wm 26 7,Ws 27 (.slice (Xv 25) none (some (Xv 26)) none 1),Wm 4 27]
def Acp:Aa:=.seq lu (.seq lq (.seq lp (.seq lm (.seq UW (.seq UV (.seq UU .ret))))))
def AaY:List RV:=rt 4
def lj:Aa:=.reg [Ws 0 (.recover),Ws 1 (.eqv true .ifc (Xv 0) (.c .nili))]
def Aco:Aa:=.seq lj (.cond (Xv 1) (.reg [Wn (.bad),Wn (.panic (Xv 2))]) .skip)
def AaX:List RV:= []
def lB:Aa:=.reg [Yi 2 0]
def lA:Aa:=.draw [(Wz [Wm 3 0,Wc 4 3,Wo 5 4 0,Wl 6 5,We 7 6,Wm 8 0,Wc 9 8,Wo 10 9 1,Wl 11 10,Ws 12 (.ibin .sub (Xv 7) (Xv 11)),Wm 2 12] none)] (ks 3 10++ [K.of 2])
def Acq:Aa:=.seq lB (.seq lA .ret)
def AaZ:List RV:=rt 2
structure Fns (E:Env):Prop where
  f31:Wf E 45 c31 r31
  f64:Wf E 85 c64 r64
  f104:Wf E 126 AcV Abt
  f105:Wf E 127 AcU Abs
  f163:Wf E 190 AcP Abn
  f164:Wf E 191 AcO Abm
  f282:Wf E 292 AcI Abg
  f283:Wf E 293 AcH Abf
  f106:Wf E 128 AaK AaC
  f29:Wf E 8 c29 r29
  f61:Wf E 46 c61 r61
  f62:Wf E 47 c62 r62
  f30:Wf E 134 c30 r30
  f63:Wf E 98 c63 r63
  f67:Wf E 133 c67 r67
  f68:Wf E 145 c68 r68
  f69:Wf E 146 c69 r69
  f117:Wf E 203 AcT Abr
  f70:Wf E 147 c70 r70
  f34:Wf E 94 c34 r34
  f99:Wf E 86 c99 r99
  f159:Wf E 129 AaJ AaB
  f100:Wf E 87 AcZ Abx
  f101:Wf E 88 AcY Abw
  f160:Wf E 130 AcR Abp
  f276:Wf E 192 AcN Abl
  f424:Wf E 294 AcF Abd
  f277:Wf E 193 AcM Abk
  f425:Wf E 295 AcE Abc
  f426:Wf E 296 AcD Abb
  f278:Wf E 194 AcL Abj
  f427:Wf E 297 AcC Aba
  f567:Wf E 422 Acu Aa2
  f313:Wf E 26 AaI AaA
  f453:Wf E 64 AaH Aaz
  f428:Wf E 298 AcB Aa9
  f429:Wf E 299 AcA Aa8
  f430:Wf E 300 Acz Aa7
  f568:Wf E 423 Acs Aa1
  f569:Wf E 424 Acr Aa0
  f102:Wf E 89 AcX Abv
  f103:Wf E 90 AcW Abu
  f161:Wf E 131 AcQ Abo
  f158:Wf E 302 AcS Abq
  f279:Wf E 195 AcK Abi
  f397:Wf E 305 AcG Abe
  f543:Wf E 427 Acv Aa3
  f280:Wf E 196 AcJ Abh
  f431:Wf E 301 Acy Aa6
  f432:Wf E 303 Acx Aa5
  f433:Wf E 304 Acw Aa4
  f570:Wf E 425 Aam xw
  f571:Wf E 426 Aal xq
  f685:Wf E 520 Acp AaY
  f761:Wf E 580 Aco AaX
  f683:Wf E 518 Acq AaZ
end
end Go.AJ
