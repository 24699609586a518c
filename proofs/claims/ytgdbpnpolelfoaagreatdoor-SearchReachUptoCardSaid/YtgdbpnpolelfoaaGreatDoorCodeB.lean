/- The code of the functions that the law reaches beside those of the walk of graphs. -/
import Derived.Test.YtgdbpnpolelfoaaGreatDoorCodeA
set_option linter.all false
namespace Go.AJ
open Go
noncomputable section
def p1005_0:Aa:=(.reg [Ws 1 (.box (Xv 0)),Ws 2 (.mv (.c (.bool false)))])
def p1005_1:Aa:=(.seq (.reg [Ws 10 (.call 6 []),Ws 11 (.not (Xv 10))]) (.cond (Xv 11) (.seq (.reg [Ws 2 (.mv (.c (.bool false)))]) .ret) .skip))
def p1005_2:Aa:=(.seq (.reg [Wd 12 1 3,Ws 13 (.call 7 [(Xv 12)]),Ws 14 (.not (Xv 13)),Wm 15 14,Wg 16 15 false (.loadN (Xv 1) 3),Wg 17 15 false (.call 24 [(Xv 16)]),Wg 18 15 false (.not (Xv 17)),Ws 19 (.pick (Xv 15) (.c (.bool true)) (Xv 18))]) (.cond (Xv 19) (.seq (.reg [Ws 2 (.mv (.c (.bool true)))]) .ret) .skip))
def p1005_3:Aa:=(.reg [Wd 21 1 3,Ws 22 (.call 8 [(Xv 21)]),Wm 20 22,Ws 23 (.ext (Xv 20) 0),Ws 24 (.ext (Xv 20) 1),Wm 3 23,Wm 4 24])
def p1005_4:Aa:=(.seq (.reg [Wm 25 4,Ws 26 (.ibin .neq (Xv 25) (Xn 0)),Wm 27 26,Wg 28 27 false (.mv (Xv 3)),Wg 29 27 false (.len .sl (Xv 28)),Wg 30 27 false (.addOff (Xv 1) 0),Wg 31 27 false (.load1 (Xv 30)),Wg 32 27 false (.len .sl (Xv 31)),Wg 33 27 false (.ibin .neq (Xv 29) (Xv 32)),Ws 34 (.pick (Xv 27) (.c (.bool true)) (Xv 33))]) (.cond (Xv 34) (.seq (.reg [Ws 2 (.mv (.c (.bool false)))]) .ret) .skip))
def p1005_5:Aa:=(.reg [Wm 35 3,We 36 35,Ws 37 (.mkslice (Xv 36) (Xv 36) [(.bool false)] 1),Wm 5 37])
def b1005_0:Aa:=(.seq (.reg [Ws 42 (.ibin .lss (Xv 41) (Xv 40))]) (.seq (.cond (Xv 42) .skip (.exit 0)) (.seq (.block 1 (.seq (.reg [Wx 43 39 41 1,Wl 44 43,Wm 7 44]) (.reg [Wm 45 5,Wm 46 7,Wm 47 3,Wm 48 7,Wx 49 47 48 1,Wl 50 49,Ws 51 (.ibin .eql (Xv 50) (Xn 0)),Wx 52 45 46 1,Wn (.store (Xv 52) (Xv 51) 1)]))) (.reg [Ws 53 (.ibin .add (Xv 41) (Xn 1)),Wm 41 53]))))
def p1005_6:Aa:=(.seq (.reg [Wo 38 1 1,Wl 39 38,We 40 39,Ws 41 (.mv (Xn 0))]) (.block 0 (.loop b1005_0)))
def q1005_0:Aa:=(.draw [(Wz [Wm 61 3,Wo 62 9 1,Wl 63 62,Wx 64 61 63 1,Wl 65 64,Wm 66 3,Wo 67 9 0,Wl 68 67,Wx 69 66 68 1,Wl 70 69,Ws 71 (.ibin .add (Xv 70) (Xn 1)),Ws 72 (.ibin .gtr (Xv 65) (Xv 71))] none)] [(K.of 61),(K.of 62),(K.of 63),(K.of 64),(K.of 65),(K.of 66),(K.of 67),(K.of 68),(K.of 69),(K.of 70),(K.of 71),(K.of 72)])
def q1005_1:Aa:=(.draw [(Wz [Wm 73 5,Wo 74 9 1,Wl 75 74,Wm 76 5,Wo 77 9 1,Wl 78 77,Wx 79 76 78 1,Wl 80 79,Wm 81 80,Wg 82 81 false (.mv (Xv 3)),Wg 83 81 false (.addOff (Xv 9) 1),Wg 84 81 false (.load1 (Xv 83)),Wg 85 81 false (.idx (Xv 82) (Xv 84) 1),Wg 86 81 false (.load1 (Xv 85)),Wg 87 81 false (.mv (Xv 3)),Wg 88 81 false (.addOff (Xv 9) 0),Wg 89 81 false (.load1 (Xv 88)),Wg 90 81 false (.idx (Xv 87) (Xv 89) 1),Wg 91 81 false (.load1 (Xv 90)),Wg 92 81 false (.ibin .add (Xv 91) (Xn 1)),Wg 93 81 false (.ibin .eql (Xv 86) (Xv 92)),Wg 94 81 false (.mv (Xv 93)),Wg 95 94 true (.addOff (Xv 9) 1),Wg 96 94 true (.load1 (Xv 95)),Wg 97 94 true (.addOff (Xv 1) 1),Wg 98 94 true (.load1 (Xv 97)),Wg 99 94 true (.len .sl (Xv 98)),Wg 100 94 true (.ibin .geq (Xv 96) (Xv 99)),Wg 101 81 false (.pick (Xv 94) (Xv 100) (.c (.bool false))),Ws 102 (.pick (Xv 81) (.c (.bool true)) (Xv 101)),Wx 103 73 75 1] (some (Wn (.store (Xv 103) (Xv 102) 1)))),(Wz [] none)] [(K.of 73),(K.of 74),(K.of 75),(K.of 76),(K.of 77),(K.of 78),(K.of 79),(K.of 80),(K.of 81),(K.of 82),(K.of 83),(K.of 84),(K.of 85),(K.of 86),(K.of 87),(K.of 88),(K.of 89),(K.of 90),(K.of 91),(K.of 92),(K.of 93),(K.of 94),(K.of 95),(K.of 96),(K.of 97),(K.of 98),(K.of 99),(K.of 100),(K.of 101),(K.of 102),(K.of 103)])
def b1005_1:Aa:=(.seq (.reg [Ws 58 (.ibin .lss (Xv 57) (Xv 56))]) (.seq (.cond (Xv 58) .skip (.exit 2)) (.seq (.block 3 (.seq (.reg [Wx 59 55 57 2,Wd 60 59 2,Ws 9 (.alloc [(.int .i64 (.ofNat 0)),(.int .i64 (.ofNat 0))]),Wn (.store (Xv 9) (Xv 60) 2)]) (.seq (.seq q1005_0 (.cond (Xv 72) (.seq (.reg [Ws 2 (.mv (.c (.bool false)))]) .ret) .skip)) q1005_1))) (.reg [Ws 104 (.ibin .add (Xv 57) (Xn 1)),Wm 57 104]))))
def p1005_7:Aa:=(.seq (.reg [Wo 54 1 2,Wl 55 54,We 56 55,Ws 57 (.mv (Xn 0))]) (.block 2 (.loop b1005_1)))
def p1005_8:Aa:=(.reg [Wm 105 3,Ws 106 (.call 29 [(Xv 105)]),Wm 107 106,Wg 108 107 true (.mv (Xv 5)),Wg 109 107 true (.call 30 [(Xv 108),(.c (.bool false))]),Wg 110 107 true (.not (Xv 109)),Ws 111 (.pick (Xv 107) (Xv 110) (.c (.bool false))),Wm 2 111])
/-- foregone/foregonelaw23.SearchLevels -/
def c1005:Aa:=(.seq p1005_0 (.seq p1005_1 (.seq p1005_2 (.seq p1005_3 (.seq p1005_4 (.seq p1005_5 (.seq p1005_6 (.seq p1005_7 (.seq p1005_8 .ret)))))))))
def r1005:List RV:= [(.t (K.of 2))]
def p1007_0:Aa:=(.reg [Ws 1 (.box (Xv 0)),Ws 2 (.mv (.c (.bool false)))])
def p1007_1:Aa:=(.reg [Wo 3 1 0,Wl 4 3,We 5 4,Ws 6 (.ibin .leq (Xv 5) (Xn 300)),Wm 7 6,Wg 8 7 true (.addOff (Xv 1) 1),Wg 9 7 true (.load1 (Xv 8)),Wg 10 7 true (.len .sl (Xv 9)),Wg 11 7 true (.ibin .leq (Xv 10) (Xn 400)),Ws 12 (.pick (Xv 7) (Xv 11) (.c (.bool false))),Wm 13 12,Wg 14 13 true (.addOff (Xv 1) 2),Wg 15 13 true (.load1 (Xv 14)),Wg 16 13 true (.len .sl (Xv 15)),Wg 17 13 true (.ibin .leq (Xv 16) (Xn 3000)),Ws 18 (.pick (Xv 13) (Xv 17) (.c (.bool false))),Wm 19 18,Wg 20 19 true (.mk [.nils,.nils,.nils,.nils,.nils,(.int .i64 (.ofNat 0)),(.int .i64 (.ofNat 0)),.nils,(.int .i64 (.ofNat 0)),(.int .i64 (.ofNat 0)),(.bool false),.nils,(.str []),.nils,.nils,.nils,(.int .i64 (.ofNat 0)),(.int .i64 (.ofNat 0)),.nils,(.int .i64 (.ofNat 0)),(.int .i64 (.ofNat 0)),(.bool false),.nils,(.str []),.nils,.nils,.nils,.nils,.nils,.nils,.nils,.nils,.nils,.nils,(.bool false)] []),Wg 21 19 true (.addOff (Xv 1) 0),Wg 22 19 true (.load1 (Xv 21)),Wg 23 19 true (.call 45 [(Xv 20),(Xv 22)]),Ws 24 (.pick (Xv 19) (Xv 23) (.c (.bool false))),Wm 2 24])
/-- foregone/foregonelaw23.few -/
def c1007:Aa:=(.seq p1007_0 (.seq p1007_1 .ret))
def r1007:List RV:= [(.t (K.of 2))]
def p1024_0:Aa:=(.reg [Ws 1 (.box (Xv 0)),Ws 2 (.mv (.c (.bool false)))])
def p1024_1:Aa:=(.reg [Wo 9 1 0,Wl 10 9,We 11 10,Wm 3 11])
def p1024_2:Aa:=(.seq (.reg [Wm 12 3,Ws 13 (.ibin .gtr (Xv 12) (Xn 20000)),Wm 14 13,Wg 15 14 false (.addOff (Xv 1) 2),Wg 16 14 false (.load1 (Xv 15)),Wg 17 14 false (.len .sl (Xv 16)),Wg 18 14 false (.ibin .gtr (Xv 17) (Xn 100000)),Ws 19 (.pick (Xv 14) (.c (.bool true)) (Xv 18)),Wm 20 19,Wg 21 20 false (.addOff (Xv 1) 1),Wg 22 20 false (.load1 (Xv 21)),Wg 23 20 false (.len .sl (Xv 22)),Wg 24 20 false (.mv (Xv 3)),Wg 25 20 false (.ibin .gtr (Xv 23) (Xv 24)),Ws 26 (.pick (Xv 20) (.c (.bool true)) (Xv 25))]) (.cond (Xv 26) (.seq (.reg [Ws 2 (.mv (.c (.bool false)))]) .ret) .skip))
def HO:Aa:=(.seq (.seq (.reg [Wm 27 4,Wm 28 3,Ws 29 (.ibin .lss (Xv 27) (Xv 28))]) (.cond (Xv 29) .skip (.exit 0))) (.seq (.block 1 (.seq (.draw [(Wz [Wo 32 1 0,Wl 33 32,Wm 34 4,Wx 35 33 34 1,Wl 36 35,We 37 36,Wo 38 1 0,Wl 39 38,Ws 40 (.idx (Xv 39) (Xn 0) 1),Wl 41 40,We 42 41,Ws 43 (.ibin .neq (Xv 37) (Xv 42)),Wm 44 43,Wg 45 44 false (.addOff (Xv 1) 0),Wg 46 44 false (.load1 (Xv 45)),Wg 47 44 false (.mv (Xv 4)),Wg 48 44 false (.idx (Xv 46) (Xv 47) 1),Wg 49 44 false (.load1 (Xv 48))] (some (Wg 50 44 false (.call 62 [(Xv 49)])))),(Wz [Wg 51 44 false (.not (Xv 50)),Ws 52 (.pick (Xv 44) (.c (.bool true)) (Xv 51))] none)] [(K.of 32),(K.of 33),(K.of 34),(K.of 35),(K.of 36),(K.of 37),(K.of 38),(K.of 39),(K.of 40),(K.of 41),(K.of 42),(K.of 43),(K.of 44),(K.of 45),(K.of 46),(K.of 47),(K.of 48),(K.of 49),(K.of 50),(K.of 51),(K.of 52)]) (.cond (Xv 52) (.seq (.reg [Ws 2 (.mv (.c (.bool false)))]) .ret) .skip))) (.reg [Wm 30 4,Ws 31 (.ibin .add (Xv 30) (Xn 1)),Wm 4 31])))
def p1024_3:Aa:=(.seq (.reg [Ws 4 (.mv (Xn 0))]) (.block 0 (.loop HO)))
def p1024_4:Aa:=(.seq (.reg [Wo 53 1 0,Wl 54 53,Ws 55 (.call 63 [(Xv 54)]),We 56 55,Wm 57 3,Ws 58 (.ibin .neq (Xv 56) (Xv 57))]) (.cond (Xv 58) (.seq (.reg [Ws 2 (.mv (.c (.bool false)))]) .ret) .skip))
def KY:Aa:=(.seq (.seq (.reg [Wm 59 5,Wo 60 1 1,Wl 61 60,We 62 61,Ws 63 (.ibin .lss (Xv 59) (Xv 62))]) (.cond (Xv 63) .skip (.exit 2))) (.seq (.block 3 (.seq (.reg [Wo 66 1 1,Wl 67 66,Wm 68 5,Wx 69 67 68 1,Wl 70 69,Wm 71 5,Ws 72 (.ibin .neq (Xv 70) (Xv 71))]) (.cond (Xv 72) (.seq (.reg [Ws 2 (.mv (.c (.bool false)))]) .ret) .skip))) (.reg [Wm 64 5,Ws 65 (.ibin .add (Xv 64) (Xn 1)),Wm 5 65])))
def p1024_5:Aa:=(.seq (.reg [Ws 5 (.mv (Xn 0))]) (.block 2 (.loop KY)))
def p1024_6:Aa:=(.reg [Wo 73 1 1,Wl 74 73,We 75 74,Wm 6 75])
def q1024_0:Aa:=(.draw [(Wz [Wo 88 8 0,Wl 89 88,Ws 90 (.ibin .lss (Xv 89) (Xn 0)),Wm 91 90,Wg 92 91 false (.addOff (Xv 8) 0),Wg 93 91 false (.load1 (Xv 92)),Wg 94 91 false (.mv (Xv 3)),Wg 95 91 false (.ibin .geq (Xv 93) (Xv 94)),Ws 96 (.pick (Xv 91) (.c (.bool true)) (Xv 95)),Wm 97 96,Wg 98 97 false (.addOff (Xv 8) 1),Wg 99 97 false (.load1 (Xv 98)),Wg 100 97 false (.ibin .lss (Xv 99) (Xn 0)),Ws 101 (.pick (Xv 97) (.c (.bool true)) (Xv 100)),Wm 102 101,Wg 103 102 false (.addOff (Xv 8) 1),Wg 104 102 false (.load1 (Xv 103)),Wg 105 102 false (.mv (Xv 3)),Wg 106 102 false (.ibin .geq (Xv 104) (Xv 105)),Ws 107 (.pick (Xv 102) (.c (.bool true)) (Xv 106)),Wm 108 107,Wg 109 108 false (.mv (Xv 7)),Wg 110 108 false (.ibin .gtr (Xv 109) (Xn 0)),Wg 111 108 false (.mv (Xv 110)),Wg 112 111 true (.addOff (Xv 8) 0),Wg 113 111 true (.load1 (Xv 112)),Wg 114 111 true (.addOff (Xv 1) 2),Wg 115 111 true (.load1 (Xv 114)),Wg 116 111 true (.mv (Xv 7)),Wg 117 111 true (.ibin .sub (Xv 116) (Xn 1)),Wg 118 111 true (.idx (Xv 115) (Xv 117) 2),Wg 119 111 true (.addOff (Xv 118) 0),Wg 120 111 true (.load1 (Xv 119)),Wg 121 111 true (.ibin .lss (Xv 113) (Xv 120)),Wg 122 111 true (.mv (Xv 121)),Wg 123 122 false (.addOff (Xv 8) 0),Wg 124 122 false (.load1 (Xv 123)),Wg 125 122 false (.addOff (Xv 1) 2),Wg 126 122 false (.load1 (Xv 125)),Wg 127 122 false (.mv (Xv 7)),Wg 128 122 false (.ibin .sub (Xv 127) (Xn 1)),Wg 129 122 false (.idx (Xv 126) (Xv 128) 2),Wg 130 122 false (.addOff (Xv 129) 0),Wg 131 122 false (.load1 (Xv 130)),Wg 132 122 false (.ibin .eql (Xv 124) (Xv 131)),Wg 133 122 false (.mv (Xv 132)),Wg 134 133 true (.addOff (Xv 8) 1),Wg 135 133 true (.load1 (Xv 134)),Wg 136 133 true (.addOff (Xv 1) 2),Wg 137 133 true (.load1 (Xv 136)),Wg 138 133 true (.mv (Xv 7)),Wg 139 133 true (.ibin .sub (Xv 138) (Xn 1)),Wg 140 133 true (.idx (Xv 137) (Xv 139) 2),Wg 141 133 true (.addOff (Xv 140) 1),Wg 142 133 true (.load1 (Xv 141)),Wg 143 133 true (.ibin .leq (Xv 135) (Xv 142)),Wg 144 122 false (.pick (Xv 133) (Xv 143) (.c (.bool false))),Wg 145 111 true (.pick (Xv 122) (.c (.bool true)) (Xv 144)),Wg 146 108 false (.pick (Xv 111) (Xv 145) (.c (.bool false))),Ws 147 (.pick (Xv 108) (.c (.bool true)) (Xv 146))] none)] [(K.of 88),(K.of 89),(K.of 90),(K.of 91),(K.of 92),(K.of 93),(K.of 94),(K.of 95),(K.of 96),(K.of 97),(K.of 98),(K.of 99),(K.of 100),(K.of 101),(K.of 102),(K.of 103),(K.of 104),(K.of 105),(K.of 106),(K.of 107),(K.of 108),(K.of 109),(K.of 110),(K.of 111),(K.of 112),(K.of 113),(K.of 114),(K.of 115),(K.of 116),(K.of 117),(K.of 118),(K.of 119),(K.of 120),(K.of 121),(K.of 122),(K.of 123),(K.of 124),(K.of 125),(K.of 126),(K.of 127),(K.of 128),(K.of 129),(K.of 130),(K.of 131),(K.of 132),(K.of 133),(K.of 134),(K.of 135),(K.of 136),(K.of 137),(K.of 138),(K.of 139),(K.of 140),(K.of 141),(K.of 142),(K.of 143),(K.of 144),(K.of 145),(K.of 146),(K.of 147)])
def KX:Aa:=(.seq (.seq (.reg [Wm 76 7,Wo 77 1 2,Wl 78 77,We 79 78,Ws 80 (.ibin .lss (Xv 76) (Xv 79))]) (.cond (Xv 80) .skip (.exit 4))) (.seq (.block 5 (.seq (.reg [Wo 83 1 2,Wl 84 83,Wm 85 7,Wx 86 84 85 2,Wd 87 86 2,Ws 8 (.alloc [(.int .i64 (.ofNat 0)),(.int .i64 (.ofNat 0))]),Wn (.store (Xv 8) (Xv 87) 2)]) (.seq (.seq q1024_0 (.cond (Xv 147) (.seq (.reg [Ws 2 (.mv (.c (.bool false)))]) .ret) .skip)) (.seq (.seq (.reg [Wo 148 8 0,Wl 149 148,Wm 150 6,Ws 151 (.ibin .geq (Xv 149) (Xv 150)),Wm 152 151,Wg 153 152 false (.addOff (Xv 8) 1),Wg 154 152 false (.load1 (Xv 153)),Wg 155 152 false (.mv (Xv 6)),Wg 156 152 false (.ibin .gtr (Xv 154) (Xv 155)),Ws 157 (.pick (Xv 152) (.c (.bool true)) (Xv 156))]) (.cond (Xv 157) (.seq (.reg [Ws 2 (.mv (.c (.bool false)))]) .ret) .skip)) (.seq (.reg [Wo 158 8 1,Wl 159 158,Wm 160 6,Ws 161 (.ibin .eql (Xv 159) (Xv 160))]) (.cond (Xv 161) (.reg [Wm 162 6,Ws 163 (.ibin .add (Xv 162) (Xn 1)),Wm 6 163]) .skip)))))) (.reg [Wm 81 7,Ws 82 (.ibin .add (Xv 81) (Xn 1)),Wm 7 82])))
def p1024_7:Aa:=(.seq (.reg [Ws 7 (.mv (Xn 0))]) (.block 4 (.loop KX)))
def p1024_8:Aa:=(.reg [Wm 164 6,Wm 165 3,Ws 166 (.ibin .eql (Xv 164) (Xv 165)),Wm 2 166])
/-- foregone/foregoneref23.Is -/
def c1024:Aa:=(.seq p1024_0 (.seq p1024_1 (.seq p1024_2 (.seq p1024_3 (.seq p1024_4 (.seq p1024_5 (.seq p1024_6 (.seq p1024_7 (.seq p1024_8 .ret)))))))))
def r1024:List RV:= [(.t (K.of 2))]
def p1029_0:Aa:=(.reg [Ws 2 (.mv (.c (.bool false)))])
def b1029_0:Aa:=(.seq (.seq (.reg [Wm 7 3,Ws 8 (.ibin .gtr (Xv 7) (Xn 0))]) (.cond (Xv 8) .skip (.exit 0))) (.seq (.block 1 (.seq (.draw [(Wz [Wm 11 0,Wm 12 3,Wx 13 11 12 1,Wl 14 13,Wm 15 0,Wm 16 3,Ws 17 (.ibin .sub (Xv 16) (Xn 1)),Wx 18 15 17 1,Wl 19 18] (some (Ws 20 (.call 66 [(Xv 14),(Xv 19)])))),(Wz [] none)] [(K.of 11),(K.of 12),(K.of 13),(K.of 14),(K.of 15),(K.of 16),(K.of 17),(K.of 18),(K.of 19),(K.of 20)]) (.cond (Xv 20) (.seq (.reg [Ws 2 (.mv (.c (.bool false)))]) .ret) .skip))) (.reg [Wm 9 3,Ws 10 (.ibin .sub (Xv 9) (Xn 1)),Wm 3 10])))
def p1029_1:Aa:=(.seq (.reg [Wm 4 0,We 5 4,Ws 6 (.ibin .sub (Xv 5) (Xn 1)),Wm 3 6]) (.block 0 (.loop b1029_0)))
def p1029_2:Aa:=(.reg [Ws 2 (.mv (.c (.bool true)))])
/-- slices.IsSorted[[]int,int] -/
def c1029:Aa:=(.seq p1029_0 (.seq p1029_1 (.seq p1029_2 .ret)))
def r1029:List RV:= [(.t (K.of 2))]
def p1030_0:Aa:=(.reg [Ws 4 (.mv (.c (.bool false)))])
def p1030_1:Aa:=(.reg [Wm 5 0,Wm 6 1,Ws 7 (.call 67 [(Xv 5),(Xv 6)]),Ws 8 (.ibin .geq (Xv 7) (Xn 0)),Wm 4 8])
/-- slices.Contains[[]bool,bool] -/
def c1030:Aa:=(.seq p1030_0 (.seq p1030_1 .ret))
def r1030:List RV:= [(.t (K.of 4))]
def p1066_0:Aa:=(.reg [Ws 4 (.mv (.c (.bool false)))])
def p1066_1:Aa:=(.reg [Wm 5 0,Ws 6 (.call 98 [(Xv 5)]),Wm 7 6,Wg 8 7 true (.mv (Xv 1)),Wg 9 7 true (.call 98 [(Xv 8)]),Wg 10 7 true (.not (Xv 9)),Ws 11 (.pick (Xv 7) (Xv 10) (.c (.bool false))),Wm 12 11,Wg 13 12 false (.mv (Xv 0)),Wg 14 12 false (.mv (Xv 1)),Wg 15 12 false (.ibin .lss (Xv 13) (Xv 14)),Ws 16 (.pick (Xv 12) (.c (.bool true)) (Xv 15)),Wm 4 16])
/-- cmp.Less[int] -/
def c1066:Aa:=(.seq p1066_0 (.seq p1066_1 .ret))
def r1066:List RV:= [(.t (K.of 4))]
def p1067_0:Aa:=(.reg [Ws 4 (.mv (Xn 0))])
def b1067_0:Aa:=(.seq (.reg [Ws 9 (.ibin .lss (Xv 8) (Xv 7))]) (.seq (.cond (Xv 9) .skip (.exit 0)) (.seq (.block 1 (.seq (.reg [Wm 10 8,Wm 5 10]) (.seq (.reg [Wm 11 1,Wm 12 0,Wm 13 5,Wx 14 12 13 1,Wl 15 14,Ws 16 (.eqv false .bool (Xv 11) (Xv 15))]) (.cond (Xv 16) (.seq (.reg [Wm 17 5,Wm 4 17]) .ret) .skip)))) (.reg [Ws 18 (.ibin .add (Xv 8) (Xn 1)),Wm 8 18]))))
def p1067_1:Aa:=(.seq (.reg [Wm 6 0,We 7 6,Ws 8 (.mv (Xn 0))]) (.block 0 (.loop b1067_0)))
def p1067_2:Aa:=(.reg [Ws 4 (.mv (.c (.int .i64 (.negSucc 0))))])
/-- slices.Index[[]bool,bool] -/
def c1067:Aa:=(.seq p1067_0 (.seq p1067_1 (.seq p1067_2 .ret)))
def r1067:List RV:= [(.t (K.of 4))]
def p1061_0:Aa:=(.reg [Ws 4 (.mv (Xn 0))])
def HN:Aa:=(.seq (.seq (.reg [Wm 7 5,Wm 8 0,We 9 8,Ws 10 (.ibin .lss (Xv 7) (Xv 9)),Wm 11 10,Wg 12 11 true (.mv (Xv 5)),Wg 13 11 true (.mv (Xv 1)),Wg 14 11 true (.len .sl (Xv 13)),Wg 15 11 true (.ibin .lss (Xv 12) (Xv 14)),Ws 16 (.pick (Xv 11) (Xv 15) (.c (.bool false)))]) (.cond (Xv 16) .skip (.exit 0))) (.seq (.block 1 (.seq (.draw [(Wz [Wm 19 0,Wm 20 5,Wx 21 19 20 7,Wd 22 21 7,Wm 23 1,Wm 24 5,Wx 25 23 24 7,Wd 26 25 7] (some (Ws 27 (.call 95 [(Xv 22),(Xv 26)])))),(Wz [Wm 6 27] none)] [(K.of 19),(K.of 20),(K.of 21),(K.of 22),(K.of 23),(K.of 24),(K.of 25),(K.of 26),(K.of 27),(K.of 6)]) (.seq (.reg [Wm 28 6,Ws 29 (.ibin .neq (Xv 28) (Xn 0))]) (.cond (Xv 29) (.seq (.reg [Wm 30 6,Wm 4 30]) .ret) .skip)))) (.reg [Wm 17 5,Ws 18 (.ibin .add (Xv 17) (Xn 1)),Wm 5 18])))
def p1061_1:Aa:=(.seq (.reg [Ws 5 (.mv (Xn 0))]) (.block 0 (.loop HN)))
def p1061_2:Aa:=(.seq (.reg [Wm 31 0,We 32 31,Wm 33 1,We 34 33,Ws 35 (.ibin .lss (Xv 32) (Xv 34))]) (.cond (Xv 35) (.seq (.reg [Ws 4 (.mv (.c (.int .i64 (.negSucc 0))))]) .ret) .skip))
def p1061_3:Aa:=(.seq (.reg [Wm 36 0,We 37 36,Wm 38 1,We 39 38,Ws 40 (.ibin .gtr (Xv 37) (Xv 39))]) (.cond (Xv 40) (.seq (.reg [Ws 4 (.mv (Xn 1))]) .ret) .skip))
def p1061_4:Aa:=(.reg [Ws 4 (.mv (Xn 0))])
/-- foregone/foregoneref12.CompareStates -/
def c1061:Aa:=(.seq p1061_0 (.seq p1061_1 (.seq p1061_2 (.seq p1061_3 (.seq p1061_4 .ret)))))
def r1061:List RV:= [(.t (K.of 4))]
def p1062_0:Aa:=(.reg [Ws 2 (.mv (.c (.bool false)))])
def KU:Aa:=(.seq (.seq (.reg [Wm 4 3,Wm 5 0,We 6 5,Ws 7 (.ibin .lss (Xv 4) (Xv 6))]) (.cond (Xv 7) .skip (.exit 0))) (.seq (.block 1 (.seq (.reg [Wm 10 0,Wm 11 3,Wx 12 10 11 7,Wd 13 12 7,Ws 14 (.call 96 [(Xv 13)]),Ws 15 (.not (Xv 14))]) (.cond (Xv 15) (.seq (.reg [Ws 2 (.mv (.c (.bool false)))]) .ret) .skip))) (.reg [Wm 8 3,Ws 9 (.ibin .add (Xv 8) (Xn 1)),Wm 3 9])))
def p1062_1:Aa:=(.seq (.reg [Ws 3 (.mv (Xn 0))]) (.block 0 (.loop KU)))
def p1062_2:Aa:=(.reg [Ws 2 (.mv (.c (.bool true)))])
/-- foregone/foregoneref09.Are -/
def c1062:Aa:=(.seq p1062_0 (.seq p1062_1 (.seq p1062_2 .ret)))
def r1062:List RV:= [(.t (K.of 2))]
def Js:Aa:=(.reg [Ws 2 (.mv (.c .nils))])
def Jr:Aa:=(.seq (.reg [Wm 4 0,We 5 4,Ws 6 (.ibin .lss (Xv 5) (Xn 2))]) (.cond (Xv 6) (.seq (.reg [Wm 7 0,Wm 2 7]) .ret) .skip))
def Jq:Aa:=(.reg [Wm 8 0,We 9 8,Ws 10 (.ibin .quo (Xv 9) (Xn 2)),Wm 3 10])
def Jp:Aa:=(.draw [(Wz [Wm 11 0,Wm 12 3,Ws 13 (.slice (Xv 11) none (some (Xv 12)) none 1),Wm 15 0,Wm 16 3,Ws 17 (.slice (Xv 15) (some (Xv 16)) none none 1)] (some (Ws 14 (.call 63 [(Xv 13)])))),⟨[],[Wm 15 0,Wm 16 3,Ws 17 (.slice (Xv 15) (some (Xv 16)) none none 1)],some (Ws 18 (.call 63 [(Xv 17)]))⟩,(Wz [] (some (Ws 19 (.call 97 [(Xv 14),(Xv 18)])))),(Wz [Wm 2 19] none)] [(K.of 11),(K.of 12),(K.of 13),(K.of 14),(K.of 15),(K.of 16),(K.of 17),(K.of 18),(K.of 19),(K.of 2)])
/-- foregone/foregoneref16.Sorted -/
def c1063:Aa:=(.seq Js (.seq Jr (.seq Jq (.seq Jp .ret))))
def r1063:List RV:= [(.t (K.of 2))]
def p1097_0:Aa:=(.reg [Ws 4 (.mv (.c .nils))])
def p1097_1:Aa:=(.reg [Ws 5 (.mv (.c .nils))])
def p1097_2:Aa:=(.reg [Ws 6 (.mv (Xn 0))])
def p1097_3:Aa:=(.reg [Ws 7 (.mv (Xn 0))])
def Fj:Aa:=(.seq (.seq (.reg [Wm 9 6,Wm 10 0,We 11 10,Ws 12 (.ibin .lss (Xv 9) (Xv 11)),Wm 13 12,Wg 14 13 false (.mv (Xv 7)),Wg 15 13 false (.mv (Xv 1)),Wg 16 13 false (.len .sl (Xv 15)),Wg 17 13 false (.ibin .lss (Xv 14) (Xv 16)),Ws 18 (.pick (Xv 13) (.c (.bool true)) (Xv 17))]) (.cond (Xv 18) .skip (.exit 0))) (.block 1 (.seq (.reg [Ws 8 (.mv (Xn 0))]) (.seq (.seq (.reg [Wm 19 6,Wm 20 0,We 21 20,Ws 22 (.ibin .eql (Xv 19) (Xv 21))]) (.cond (Xv 22) (.reg [Ws 8 (.mv (Xn 1))]) (.seq (.reg [Wm 23 7,Wm 24 1,We 25 24,Ws 26 (.ibin .eql (Xv 23) (Xv 25))]) (.cond (Xv 26) (.reg [Ws 8 (.mv (.c (.int .i64 (.negSucc 0))))]) (.draw [(Wz [Wm 27 0,Wm 28 6,Wx 29 27 28 1,Wl 30 29,Wm 31 1,Wm 32 7,Wx 33 31 32 1,Wl 34 33] (some (Ws 35 (.call 61 [(Xv 30),(Xv 34)])))),(Wz [Wm 8 35] none)] [(K.of 27),(K.of 28),(K.of 29),(K.of 30),(K.of 31),(K.of 32),(K.of 33),(K.of 34),(K.of 35),(K.of 8)]))))) (.seq (.seq (.reg [Wm 36 8,Ws 37 (.ibin .leq (Xv 36) (Xn 0))]) (.cond (Xv 37) (.seq (.reg [Wm 38 5,Wm 39 0,Wm 40 6,Wx 41 39 40 1,Wl 42 41,Ws 43 (.mkSl [.nils] [(0,1,(Xv 42))] 1),Ws 44 (.app (Xv 38) (Xv 43) 1 24 (some [.nils])),Wm 5 44]) (.reg [Wm 45 6,Ws 46 (.ibin .add (Xv 45) (Xn 1)),Wm 6 46])) (.reg [Wm 47 5,Wm 48 1,Wm 49 7,Wx 50 48 49 1,Wl 51 50,Ws 52 (.mkSl [.nils] [(0,1,(Xv 51))] 1),Ws 53 (.app (Xv 47) (Xv 52) 1 24 (some [.nils])),Wm 5 53]))) (.seq (.reg [Wm 54 8,Ws 55 (.ibin .geq (Xv 54) (Xn 0))]) (.cond (Xv 55) (.reg [Wm 56 7,Ws 57 (.ibin .add (Xv 56) (Xn 1)),Wm 7 57]) .skip)))))))
def p1097_4:Aa:=(.block 0 (.loop Fj))
def p1097_5:Aa:=(.reg [Wm 58 5,Wm 4 58])
/-- foregone/foregoneref16.merged -/
def c1097:Aa:=(.seq p1097_0 (.seq p1097_1 (.seq p1097_2 (.seq p1097_3 (.seq p1097_4 (.seq p1097_5 .ret))))))
def r1097:List RV:= [(.t (K.of 4))]
def p1095_0:Aa:=(.reg [Ws 2 (.box (Xv 0)),Ws 3 (.box (Xv 1)),Ws 4 (.mv (Xn 0))])
def p1095_1:Aa:=(.seq (.reg [Wo 6 2 0,Wl 7 6,Wo 8 3 0,Wl 9 8,Ws 10 (.ibin .neq (Xv 7) (Xv 9))]) (.cond (Xv 10) (.seq (.reg [Wo 11 2 0,Wl 12 11,Wo 13 3 0,Wl 14 13,Ws 15 (.call 148 [(Xv 12),(Xv 14)]),Wm 4 15]) .ret) .skip))
def p1095_2:Aa:=(.seq (.reg [Wo 16 2 1,Wl 17 16,Wo 18 3 1,Wl 19 18,Ws 20 (.ibin .neq (Xv 17) (Xv 19))]) (.cond (Xv 20) (.seq (.reg [Wo 21 2 1,Wl 22 21,Wo 23 3 1,Wl 24 23,Ws 25 (.call 148 [(Xv 22),(Xv 24)]),Wm 4 25]) .ret) .skip))
def p1095_3:Aa:=(.reg [Wo 26 2 2,Wd 27 26 2,Wo 28 3 2,Wd 29 28 2,Ws 30 (.call 149 [(Xv 27),(Xv 29)]),Wm 5 30])
def p1095_4:Aa:=(.seq (.reg [Wm 31 5,Ws 32 (.ibin .eql (Xv 31) (Xn 0))]) (.cond (Xv 32) (.reg [Wo 33 2 4,Wl 34 33,Wo 35 3 4,Wl 36 35,Ws 37 (.call 150 [(Xv 34),(Xv 36)]),Wm 5 37]) .skip))
def p1095_5:Aa:=(.seq (.reg [Wm 38 5,Ws 39 (.ibin .eql (Xv 38) (Xn 0))]) (.cond (Xv 39) (.reg [Wo 40 2 5,Wl 41 40,Wo 42 3 5,Wl 43 42,Ws 44 (.call 151 [(Xv 41),(Xv 43)]),Wm 5 44]) .skip))
def p1095_6:Aa:=(.seq (.reg [Wm 45 5,Ws 46 (.ibin .eql (Xv 45) (Xn 0))]) (.cond (Xv 46) (.reg [Wo 47 2 6,Wl 48 47,Wo 49 3 6,Wl 50 49,Ws 51 (.call 151 [(Xv 48),(Xv 50)]),Wm 5 51]) .skip))
def p1095_7:Aa:=(.reg [Wm 52 5,Wm 4 52])
/-- foregone/foregoneref09.Compare -/
def c1095:Aa:=(.seq p1095_0 (.seq p1095_1 (.seq p1095_2 (.seq p1095_3 (.seq p1095_4 (.seq p1095_5 (.seq p1095_6 (.seq p1095_7 .ret))))))))
def r1095:List RV:= [(.t (K.of 4))]
def p1096_0:Aa:=(.reg [Ws 1 (.box (Xv 0)),Ws 2 (.mv (.c (.bool false)))])
def p1096_1:Aa:=(.reg [Wd 6 1 7,Ws 7 (.call 152 [(Xv 6)]),Wm 5 7,Ws 8 (.ext (Xv 5) 0),Ws 9 (.ext (Xv 5) 1),Wm 3 8,Wm 4 9])
def p1096_2:Aa:=(.reg [Wm 10 3,Ws 11 (.ibin .leq (Xv 10) (Xn 8000)),Wm 12 11,Wg 13 12 true (.mv (Xv 4)),Wg 14 12 true (.ibin .leq (Xv 13) (Xn 50)),Ws 15 (.pick (Xv 12) (Xv 14) (.c (.bool false))),Wm 16 15,Wg 17 16 true (.loadN (Xv 1) 7),Wg 18 16 true (.call 153 [(Xv 17)]),Ws 19 (.pick (Xv 16) (Xv 18) (.c (.bool false))),Wm 2 19])
/-- foregone/foregoneref09.Is -/
def c1096:Aa:=(.seq p1096_0 (.seq p1096_1 (.seq p1096_2 .ret)))
def r1096:List RV:= [(.t (K.of 2))]
def p1148_0:Aa:=(.reg [Ws 4 (.mv (Xn 0))])
def p1148_1:Aa:=(.seq (.reg [Wm 5 0,Wm 6 1,Ws 7 (.ibin .lss (Xv 5) (Xv 6))]) (.cond (Xv 7) (.seq (.reg [Ws 4 (.mv (.c (.int .i64 (.negSucc 0))))]) .ret) .skip))
def p1148_2:Aa:=(.seq (.reg [Wm 8 0,Wm 9 1,Ws 10 (.ibin .gtr (Xv 8) (Xv 9))]) (.cond (Xv 10) (.seq (.reg [Ws 4 (.mv (Xn 1))]) .ret) .skip))
def p1148_3:Aa:=(.reg [Ws 4 (.mv (Xn 0))])
/-- foregone/foregoneref09.compare -/
def c1148:Aa:=(.seq p1148_0 (.seq p1148_1 (.seq p1148_2 (.seq p1148_3 .ret))))
def r1148:List RV:= [(.t (K.of 4))]
def p1149_0:Aa:=(.reg [Ws 2 (.box (Xv 0)),Ws 3 (.box (Xv 1)),Ws 4 (.mv (Xn 0))])
def p1149_1:Aa:=(.seq (.reg [Wo 5 2 0,Wl 6 5,Wo 7 3 0,Wl 8 7,Ws 9 (.eqv true .bool (Xv 6) (Xv 8))]) (.cond (Xv 9) (.seq (.seq (.reg [Wo 10 2 0,Wl 11 10]) (.cond (Xv 11) (.seq (.reg [Ws 4 (.mv (.c (.int .i64 (.negSucc 0))))]) .ret) .skip)) (.seq (.reg [Ws 4 (.mv (Xn 1))]) .ret)) .skip))
def p1149_2:Aa:=(.seq (.reg [Wo 12 2 0,Wl 13 12]) (.cond (Xv 13) (.seq (.reg [Wo 14 3 1,Wl 15 14,Wo 16 2 1,Wl 17 16,Ws 18 (.call 204 [(Xv 15),(Xv 17)]),Wm 4 18]) .ret) .skip))
def p1149_3:Aa:=(.reg [Wo 19 2 1,Wl 20 19,Wo 21 3 1,Wl 22 21,Ws 23 (.call 204 [(Xv 20),(Xv 22)]),Wm 4 23])
/-- foregone/foregoneref09.CompareInt -/
def c1149:Aa:=(.seq p1149_0 (.seq p1149_1 (.seq p1149_2 (.seq p1149_3 .ret))))
def r1149:List RV:= [(.t (K.of 4))]
def p1150_0:Aa:=(.reg [Ws 4 (.mv (Xn 0))])
def p1150_1:Aa:=(.reg [Wm 5 0,Wm 6 1,Ws 7 (.call 205 [(Xv 5),(Xv 6)]),Wm 4 7])
/-- strings.Compare -/
def c1150:Aa:=(.seq p1150_0 (.seq p1150_1 .ret))
def r1150:List RV:= [(.t (K.of 4))]
def p1151_0:Aa:=(.reg [Ws 4 (.mv (Xn 0))])
def p1151_1:Aa:=(.seq (.reg [Wm 7 0,We 8 7,Wm 9 1,We 10 9,Ws 11 (.ibin .neq (Xv 8) (Xv 10))]) (.cond (Xv 11) (.seq (.reg [Wm 12 0,We 13 12,Wm 14 1,We 15 14,Ws 16 (.call 148 [(Xv 13),(Xv 15)]),Wm 4 16]) .ret) .skip))
def Kx:Aa:=(.seq (.seq (.reg [Wm 17 5,Wm 18 0,We 19 18,Ws 20 (.ibin .lss (Xv 17) (Xv 19))]) (.cond (Xv 20) .skip (.exit 0))) (.seq (.block 1 (.seq (.draw [(Wz [Wm 23 0,Wm 24 5,Wx 25 23 24 7,Wd 26 25 7,Wm 27 1,Wm 28 5,Wx 29 27 28 7,Wd 30 29 7] (some (Ws 31 (.call 95 [(Xv 26),(Xv 30)])))),(Wz [Wm 6 31] none)] [(K.of 23),(K.of 24),(K.of 25),(K.of 26),(K.of 27),(K.of 28),(K.of 29),(K.of 30),(K.of 31),(K.of 6)]) (.seq (.reg [Wm 32 6,Ws 33 (.ibin .neq (Xv 32) (Xn 0))]) (.cond (Xv 33) (.seq (.reg [Wm 34 6,Wm 4 34]) .ret) .skip)))) (.reg [Wm 21 5,Ws 22 (.ibin .add (Xv 21) (Xn 1)),Wm 5 22])))
def p1151_2:Aa:=(.seq (.reg [Ws 5 (.mv (Xn 0))]) (.block 0 (.loop Kx)))
def p1151_3:Aa:=(.reg [Ws 4 (.mv (Xn 0))])
/-- foregone/foregoneref09.CompareLists -/
def c1151:Aa:=(.seq p1151_0 (.seq p1151_1 (.seq p1151_2 (.seq p1151_3 .ret))))
def r1151:List RV:= [(.t (K.of 4))]
def p1152_0:Aa:=(.reg [Ws 1 (.box (Xv 0)),Ws 2 (.mv (Xn 0)),Ws 3 (.mv (Xn 0))])
def p1152_1:Aa:=(.reg [Ws 4 (.mv (Xn 1))])
def p1152_2:Aa:=(.reg [Ws 5 (.mv (Xn 0))])
def Kw:Aa:=(.seq (.seq (.reg [Wm 12 6,Wo 13 1 5,Wl 14 13,We 15 14,Ws 16 (.ibin .lss (Xv 12) (Xv 15))]) (.cond (Xv 16) .skip (.exit 0))) (.seq (.block 1 (.seq (.reg [Wo 20 1 5,Wl 21 20,Wm 22 6,Wx 23 21 22 7,Wd 24 23 7,Ws 25 (.call 152 [(Xv 24)]),Wm 19 25,Ws 26 (.ext (Xv 19) 0),Ws 27 (.ext (Xv 19) 1),Wm 7 26,Wm 8 27]) (.seq (.reg [Wm 28 4,Wm 29 7,Ws 30 (.ibin .add (Xv 28) (Xv 29)),Wm 4 30]) (.reg [Wm 31 5,Wm 32 8,Ws 33 (.mxn true (Xv 31) [(Xv 32)]),Wm 5 33])))) (.reg [Wm 17 6,Ws 18 (.ibin .add (Xv 17) (Xn 1)),Wm 6 18])))
def p1152_3:Aa:=(.seq (.reg [Ws 6 (.mv (Xn 0))]) (.block 0 (.loop Kw)))
def Kv:Aa:=(.seq (.seq (.reg [Wm 34 9,Wo 35 1 6,Wl 36 35,We 37 36,Ws 38 (.ibin .lss (Xv 34) (Xv 37))]) (.cond (Xv 38) .skip (.exit 2))) (.seq (.block 3 (.seq (.reg [Wo 42 1 6,Wl 43 42,Wm 44 9,Wx 45 43 44 7,Wd 46 45 7,Ws 47 (.call 152 [(Xv 46)]),Wm 41 47,Ws 48 (.ext (Xv 41) 0),Ws 49 (.ext (Xv 41) 1),Wm 10 48,Wm 11 49]) (.seq (.reg [Wm 50 4,Wm 51 10,Ws 52 (.ibin .add (Xv 50) (Xv 51)),Wm 4 52]) (.reg [Wm 53 5,Wm 54 11,Ws 55 (.mxn true (Xv 53) [(Xv 54)]),Wm 5 55])))) (.reg [Wm 39 9,Ws 40 (.ibin .add (Xv 39) (Xn 1)),Wm 9 40])))
def p1152_4:Aa:=(.seq (.reg [Ws 9 (.mv (Xn 0))]) (.block 2 (.loop Kv)))
def p1152_5:Aa:=(.reg [Wm 56 4,Wm 57 5,Ws 58 (.ibin .add (Xv 57) (Xn 1)),Wm 2 56,Wm 3 58])
/-- foregone/foregoneref09.Size -/
def c1152:Aa:=(.seq p1152_0 (.seq p1152_1 (.seq p1152_2 (.seq p1152_3 (.seq p1152_4 (.seq p1152_5 .ret))))))
def r1152:List RV:= [(.t (K.of 2)),(.t (K.of 3))]
def p1153_0:Aa:=(.reg [Ws 1 (.box (Xv 0)),Ws 2 (.mv (.c (.bool false)))])
def p1153_1:Aa:=(.seq (.reg [Wd 5 1 7,Ws 6 (.call 206 [(Xv 5)]),Ws 7 (.not (Xv 6))]) (.cond (Xv 7) (.seq (.reg [Ws 2 (.mv (.c (.bool false)))]) .ret) .skip))
def p1153_2:Aa:=(.seq (.reg [Wo 8 1 0,Wl 9 8,Ws 10 (.ibin .neq (Xv 9) (Xn 5)),Wm 11 10,Wg 12 11 true (.addOff (Xv 1) 0),Wg 13 11 true (.load1 (Xv 12)),Wg 14 11 true (.ibin .neq (Xv 13) (Xn 6)),Ws 15 (.pick (Xv 11) (Xv 14) (.c (.bool false)))]) (.cond (Xv 15) (.seq (.reg [Wo 16 1 5,Wl 17 16,We 18 17,Ws 19 (.ibin .eql (Xv 18) (Xn 0)),Wm 20 19,Wg 21 20 true (.addOff (Xv 1) 6),Wg 22 20 true (.load1 (Xv 21)),Wg 23 20 true (.len .sl (Xv 22)),Wg 24 20 true (.ibin .eql (Xv 23) (Xn 0)),Ws 25 (.pick (Xv 20) (Xv 24) (.c (.bool false))),Wm 2 25]) .ret) .skip))
def p1153_3:Aa:=(.seq (.reg [Wo 26 1 5,Wl 27 26,We 28 27,Ws 29 (.ibin .gtr (Xv 28) (Xn 4000)),Wm 30 29,Wg 31 30 false (.addOff (Xv 1) 0),Wg 32 30 false (.load1 (Xv 31)),Wg 33 30 false (.ibin .eql (Xv 32) (Xn 5)),Wg 34 30 false (.mv (Xv 33)),Wg 35 34 true (.addOff (Xv 1) 6),Wg 36 34 true (.load1 (Xv 35)),Wg 37 34 true (.len .sl (Xv 36)),Wg 38 34 true (.ibin .neq (Xv 37) (Xn 0)),Wg 39 30 false (.pick (Xv 34) (Xv 38) (.c (.bool false))),Ws 40 (.pick (Xv 30) (.c (.bool true)) (Xv 39)),Wm 41 40,Wg 42 41 false (.addOff (Xv 1) 0),Wg 43 41 false (.load1 (Xv 42)),Wg 44 41 false (.ibin .eql (Xv 43) (Xn 6)),Wg 45 41 false (.mv (Xv 44)),Wg 46 45 true (.addOff (Xv 1) 6),Wg 47 45 true (.load1 (Xv 46)),Wg 48 45 true (.len .sl (Xv 47)),Wg 49 45 true (.addOff (Xv 1) 5),Wg 50 45 true (.load1 (Xv 49)),Wg 51 45 true (.len .sl (Xv 50)),Wg 52 45 true (.ibin .neq (Xv 48) (Xv 51)),Wg 53 41 false (.pick (Xv 45) (Xv 52) (.c (.bool false))),Ws 54 (.pick (Xv 41) (.c (.bool true)) (Xv 53))]) (.cond (Xv 54) (.seq (.reg [Ws 2 (.mv (.c (.bool false)))]) .ret) .skip))
def Ku:Aa:=(.seq (.seq (.reg [Wm 55 3,Wo 56 1 5,Wl 57 56,We 58 57,Ws 59 (.ibin .lss (Xv 55) (Xv 58))]) (.cond (Xv 59) .skip (.exit 0))) (.seq (.block 1 (.seq (.reg [Wo 62 1 5,Wl 63 62,Wm 64 3,Wx 65 63 64 7,Wd 66 65 7,Ws 67 (.call 153 [(Xv 66)]),Ws 68 (.not (Xv 67))]) (.cond (Xv 68) (.seq (.reg [Ws 2 (.mv (.c (.bool false)))]) .ret) .skip))) (.reg [Wm 60 3,Ws 61 (.ibin .add (Xv 60) (Xn 1)),Wm 3 61])))
def p1153_4:Aa:=(.seq (.reg [Ws 3 (.mv (Xn 0))]) (.block 0 (.loop Ku)))
def Kt:Aa:=(.seq (.seq (.reg [Wm 69 4,Wo 70 1 6,Wl 71 70,We 72 71,Ws 73 (.ibin .lss (Xv 69) (Xv 72))]) (.cond (Xv 73) .skip (.exit 2))) (.seq (.block 3 (.seq (.reg [Wo 76 1 6,Wl 77 76,Wm 78 4,Wx 79 77 78 7,Wd 80 79 7,Ws 81 (.call 153 [(Xv 80)]),Ws 82 (.not (Xv 81))]) (.cond (Xv 82) (.seq (.reg [Ws 2 (.mv (.c (.bool false)))]) .ret) .skip))) (.reg [Wm 74 4,Ws 75 (.ibin .add (Xv 74) (Xn 1)),Wm 4 75])))
def p1153_5:Aa:=(.seq (.reg [Ws 4 (.mv (Xn 0))]) (.block 2 (.loop Kt)))
def p1153_6:Aa:=(.reg [Wo 83 1 5,Wl 84 83,Ws 85 (.call 207 [(Xv 84)]),Wm 2 85])
/-- foregone/foregoneref09.formed -/
def c1153:Aa:=(.seq p1153_0 (.seq p1153_1 (.seq p1153_2 (.seq p1153_3 (.seq p1153_4 (.seq p1153_5 (.seq p1153_6 .ret)))))))
def r1153:List RV:= [(.t (K.of 2))]
def p1204_0:Aa:=(.reg [Ws 4 (.mv (Xn 0))])
def p1204_1:Aa:=(.seq (.reg [Wm 6 0,We 7 6,Wm 8 1,We 9 8,Ws 10 (.ibin .neq (Xv 7) (Xv 9))]) (.cond (Xv 10) (.seq (.reg [Wm 11 0,We 12 11,Wm 13 1,We 14 13,Ws 15 (.call 148 [(Xv 12),(Xv 14)]),Wm 4 15]) .ret) .skip))
def Kr:Aa:=(.seq (.seq (.reg [Wm 19 5,Ws 20 (.ibin .geq (Xv 19) (Xn 0))]) (.cond (Xv 20) .skip (.exit 0))) (.seq (.block 1 (.seq (.draw [(Wz [Wm 23 0,Wm 24 5,Wx 25 23 24 1,Wl 26 25,Wm 27 1,Wm 28 5,Wx 29 27 28 1,Wl 30 29,Ws 31 (.ibin .neq (Xv 26) (Xv 30))] none)] [(K.of 23),(K.of 24),(K.of 25),(K.of 26),(K.of 27),(K.of 28),(K.of 29),(K.of 30),(K.of 31)]) (.cond (Xv 31) (.seq (.draw [(Wz [Wm 32 0,Wm 33 5,Wx 34 32 33 1,Wl 35 34,Wm 36 1,Wm 37 5,Wx 38 36 37 1,Wl 39 38] (some (Ws 40 (.call 148 [(Xv 35),(Xv 39)])))),(Wz [Wm 4 40] none)] [(K.of 32),(K.of 33),(K.of 34),(K.of 35),(K.of 36),(K.of 37),(K.of 38),(K.of 39),(K.of 40),(K.of 4)]) .ret) .skip))) (.reg [Wm 21 5,Ws 22 (.ibin .sub (Xv 21) (Xn 1)),Wm 5 22])))
def p1204_2:Aa:=(.seq (.reg [Wm 16 0,We 17 16,Ws 18 (.ibin .sub (Xv 17) (Xn 1)),Wm 5 18]) (.block 0 (.loop Kr)))
def p1204_3:Aa:=(.reg [Ws 4 (.mv (Xn 0))])
/-- foregone/foregoneref09.sizes -/
def c1204:Aa:=(.seq p1204_0 (.seq p1204_1 (.seq p1204_2 (.seq p1204_3 .ret))))
def r1204:List RV:= [(.t (K.of 4))]
def p1205_0:Aa:=(.reg [Ws 4 (.mv (Xn 0))])
def p1205_1:Aa:=(.reg [Wm 5 0,Wm 6 1,Ws 7 (.cmpStr (Xv 5) (Xv 6)),Wm 4 7])
/-- internal/bytealg.CompareString -/
def c1205:Aa:=(.seq p1205_0 (.seq p1205_1 .ret))
def r1205:List RV:= [(.t (K.of 4))]
def p1206_0:Aa:=(.reg [Ws 1 (.box (Xv 0)),Ws 2 (.mv (.c (.bool false)))])
def p1206_1:Aa:=(.seq (.reg [Wo 3 1 0,Wl 4 3]) (.block 0 (.seq (.reg [Ws 6 (.ibin .eql (Xv 4) (Xn 1)),Wm 5 6]) (.cond (Xv 5) (.seq (.reg [Wo 7 1 1,Wl 8 7,Ws 9 (.ibin .eql (Xv 8) (Xn 0)),Wm 10 9,Wg 11 10 false (.addOff (Xv 1) 1),Wg 12 10 false (.load1 (Xv 11)),Wg 13 10 false (.ibin .eql (Xv 12) (Xn 1)),Ws 14 (.pick (Xv 10) (.c (.bool true)) (Xv 13)),Wm 15 14,Wg 16 15 true (.addOff (Xv 1) 2),Wg 17 15 true (.loadN (Xv 16) 2),Wg 18 15 true (.call 309 [(Xv 17)]),Ws 19 (.pick (Xv 15) (Xv 18) (.c (.bool false))),Wm 20 19,Wg 21 20 true (.addOff (Xv 1) 4),Wg 22 20 true (.load1 (Xv 21)),Wg 23 20 true (.sbin .eql (Xv 22) (.c (.str []))),Ws 24 (.pick (Xv 20) (Xv 23) (.c (.bool false))),Wm 2 24]) .ret) (.seq (.reg [Ws 26 (.ibin .eql (Xv 4) (Xn 2)),Wm 25 26]) (.cond (Xv 25) (.seq (.reg [Wo 27 1 1,Wl 28 27,Ws 29 (.ibin .eql (Xv 28) (Xn 0)),Wm 30 29,Wg 31 30 true (.addOff (Xv 1) 2),Wg 32 30 true (.loadN (Xv 31) 2),Wg 33 30 true (.call 310 [(Xv 32)]),Ws 34 (.pick (Xv 30) (Xv 33) (.c (.bool false))),Wm 35 34,Wg 36 35 true (.addOff (Xv 1) 4),Wg 37 35 true (.load1 (Xv 36)),Wg 38 35 true (.sbin .eql (Xv 37) (.c (.str []))),Ws 39 (.pick (Xv 35) (Xv 38) (.c (.bool false))),Wm 2 39]) .ret) (.seq (.reg [Ws 41 (.ibin .eql (Xv 4) (Xn 3)),Wm 40 41]) (.cond (Xv 40) (.seq (.reg [Wo 42 1 1,Wl 43 42,Ws 44 (.ibin .eql (Xv 43) (Xn 0)),Wm 45 44,Wg 46 45 true (.addOff (Xv 1) 2),Wg 47 45 true (.loadN (Xv 46) 2),Wg 48 45 true (.call 309 [(Xv 47)]),Ws 49 (.pick (Xv 45) (Xv 48) (.c (.bool false))),Wm 50 49,Wg 51 50 true (.addOff (Xv 1) 4),Wg 52 50 true (.load1 (Xv 51)),Wg 53 50 true (.call 311 [(Xv 52)]),Ws 54 (.pick (Xv 50) (Xv 53) (.c (.bool false))),Wm 2 54]) .ret) (.seq (.reg [Ws 56 (.ibin .eql (Xv 4) (Xn 4)),Wm 55 56]) (.cond (Xv 55) (.seq (.reg [Wo 57 1 1,Wl 58 57,Ws 59 (.ibin .eql (Xv 58) (Xn 0)),Wm 60 59,Wg 61 60 true (.addOff (Xv 1) 2),Wg 62 60 true (.loadN (Xv 61) 2),Wg 63 60 true (.call 309 [(Xv 62)]),Ws 64 (.pick (Xv 60) (Xv 63) (.c (.bool false))),Wm 65 64,Wg 66 65 true (.addOff (Xv 1) 4),Wg 67 65 true (.load1 (Xv 66)),Wg 68 65 true (.call 312 [(Xv 67)]),Ws 69 (.pick (Xv 65) (Xv 68) (.c (.bool false))),Wm 2 69]) .ret) (.seq (.seq (.reg [Ws 71 (.ibin .eql (Xv 4) (Xn 5)),Wm 70 71]) (.cond (Xv 70) .skip (.reg [Ws 72 (.ibin .eql (Xv 4) (Xn 6)),Wm 70 72]))) (.cond (Xv 70) (.seq (.reg [Wo 73 1 1,Wl 74 73,Ws 75 (.ibin .eql (Xv 74) (Xn 0)),Wm 76 75,Wg 77 76 true (.addOff (Xv 1) 2),Wg 78 76 true (.loadN (Xv 77) 2),Wg 79 76 true (.call 309 [(Xv 78)]),Ws 80 (.pick (Xv 76) (Xv 79) (.c (.bool false))),Wm 81 80,Wg 82 81 true (.addOff (Xv 1) 4),Wg 83 81 true (.load1 (Xv 82)),Wg 84 81 true (.sbin .eql (Xv 83) (.c (.str []))),Ws 85 (.pick (Xv 81) (Xv 84) (.c (.bool false))),Wm 2 85]) .ret) .skip))))))))))))
def p1206_2:Aa:=(.reg [Ws 2 (.mv (.c (.bool false)))])
/-- foregone/foregoneref09.leaf -/
def c1206:Aa:=(.seq p1206_0 (.seq p1206_1 (.seq p1206_2 .ret)))
def r1206:List RV:= [(.t (K.of 2))]
def p1207_0:Aa:=(.reg [Ws 2 (.mv (.c (.bool false)))])
def HL:Aa:=(.seq (.seq (.reg [Wm 4 3,Wm 5 0,We 6 5,Ws 7 (.ibin .lss (Xv 4) (Xv 6))]) (.cond (Xv 7) .skip (.exit 0))) (.seq (.block 1 (.seq (.draw [(Wz [Wm 10 0,Wm 11 3,Ws 12 (.ibin .sub (Xv 11) (Xn 1)),Wx 13 10 12 7,Wd 14 13 7,Wm 15 0,Wm 16 3,Wx 17 15 16 7,Wd 18 17 7] (some (Ws 19 (.call 95 [(Xv 14),(Xv 18)])))),(Wz [Ws 20 (.ibin .geq (Xv 19) (Xn 0))] none)] [(K.of 10),(K.of 11),(K.of 12),(K.of 13),(K.of 14),(K.of 15),(K.of 16),(K.of 17),(K.of 18),(K.of 19),(K.of 20)]) (.cond (Xv 20) (.seq (.reg [Ws 2 (.mv (.c (.bool false)))]) .ret) .skip))) (.reg [Wm 8 3,Ws 9 (.ibin .add (Xv 8) (Xn 1)),Wm 3 9])))
def p1207_1:Aa:=(.seq (.reg [Ws 3 (.mv (Xn 1))]) (.block 0 (.loop HL)))
def p1207_2:Aa:=(.reg [Ws 2 (.mv (.c (.bool true)))])
/-- foregone/foregoneref09.increasing -/
def c1207:Aa:=(.seq p1207_0 (.seq p1207_1 (.seq p1207_2 .ret)))
def r1207:List RV:= [(.t (K.of 2))]
def p1309_0:Aa:=(.reg [Ws 1 (.box (Xv 0)),Ws 2 (.mv (.c (.bool false)))])
def p1309_1:Aa:=(.reg [Wo 3 1 0,Wl 4 3,Ws 5 (.not (Xv 4)),Wm 6 5,Wg 7 6 true (.addOff (Xv 1) 1),Wg 8 6 true (.load1 (Xv 7)),Wg 9 6 true (.len .sl (Xv 8)),Wg 10 6 true (.ibin .eql (Xv 9) (Xn 0)),Ws 11 (.pick (Xv 6) (Xv 10) (.c (.bool false))),Wm 2 11])
/-- foregone/foregoneref09.none -/
def c1309:Aa:=(.seq p1309_0 (.seq p1309_1 .ret))
def r1309:List RV:= [(.t (K.of 2))]
def p1310_0:Aa:=(.reg [Ws 1 (.box (Xv 0)),Ws 2 (.mv (.c (.bool false)))])
def p1310_1:Aa:=(.reg [Wo 5 1 1,Wl 6 5,We 7 6,Wm 3 7])
def p1310_2:Aa:=(.seq (.reg [Wm 8 3,Ws 9 (.ibin .gtr (Xv 8) (Xn 40)),Wm 10 9,Wg 11 10 false (.mv (Xv 3)),Wg 12 10 false (.ibin .eql (Xv 11) (Xn 0)),Wg 13 10 false (.mv (Xv 12)),Wg 14 13 true (.addOff (Xv 1) 0),Wg 15 13 true (.load1 (Xv 14)),Wg 16 10 false (.pick (Xv 13) (Xv 15) (.c (.bool false))),Ws 17 (.pick (Xv 10) (.c (.bool true)) (Xv 16)),Wm 18 17,Wg 19 18 false (.mv (Xv 3)),Wg 20 18 false (.ibin .gtr (Xv 19) (Xn 0)),Wg 21 18 false (.mv (Xv 20)),Wg 22 21 true (.addOff (Xv 1) 1),Wg 23 21 true (.load1 (Xv 22)),Wg 24 21 true (.mv (Xv 3)),Wg 25 21 true (.ibin .sub (Xv 24) (Xn 1)),Wg 26 21 true (.idx (Xv 23) (Xv 25) 1),Wg 27 21 true (.load1 (Xv 26)),Wg 28 21 true (.ibin .eql (Xv 27) (Xn 0)),Wg 29 18 false (.pick (Xv 21) (Xv 28) (.c (.bool false))),Ws 30 (.pick (Xv 18) (.c (.bool true)) (Xv 29))]) (.cond (Xv 30) (.seq (.reg [Ws 2 (.mv (.c (.bool false)))]) .ret) .skip))
def Kq:Aa:=(.seq (.seq (.reg [Wm 31 4,Wm 32 3,Ws 33 (.ibin .lss (Xv 31) (Xv 32))]) (.cond (Xv 33) .skip (.exit 0))) (.seq (.block 1 (.seq (.reg [Wo 36 1 1,Wl 37 36,Wm 38 4,Wx 39 37 38 1,Wl 40 39,Ws 41 (.ibin .lss (Xv 40) (Xn 0)),Wm 42 41,Wg 43 42 false (.addOff (Xv 1) 1),Wg 44 42 false (.load1 (Xv 43)),Wg 45 42 false (.mv (Xv 4)),Wg 46 42 false (.idx (Xv 44) (Xv 45) 1),Wg 47 42 false (.load1 (Xv 46)),Wg 48 42 false (.ibin .gtr (Xv 47) (Xn 999999999)),Ws 49 (.pick (Xv 42) (.c (.bool true)) (Xv 48))]) (.cond (Xv 49) (.seq (.reg [Ws 2 (.mv (.c (.bool false)))]) .ret) .skip))) (.reg [Wm 34 4,Ws 35 (.ibin .add (Xv 34) (Xn 1)),Wm 4 35])))
def p1310_3:Aa:=(.seq (.reg [Ws 4 (.mv (Xn 0))]) (.block 0 (.loop Kq)))
def p1310_4:Aa:=(.reg [Ws 2 (.mv (.c (.bool true)))])
/-- foregone/foregoneref09.IsInt -/
def c1310:Aa:=(.seq p1310_0 (.seq p1310_1 (.seq p1310_2 (.seq p1310_3 (.seq p1310_4 .ret)))))
def r1310:List RV:= [(.t (K.of 2))]
def p1311_0:Aa:=(.reg [Ws 2 (.mv (.c (.bool false)))])
def p1311_1:Aa:=(.seq (.reg [Wm 4 0,Ws 5 (.len .str (Xv 4)),Ws 6 (.ibin .gtr (Xv 5) (Xn 200))]) (.cond (Xv 6) (.seq (.reg [Ws 2 (.mv (.c (.bool false)))]) .ret) .skip))
def Ko:Aa:=(.seq (.seq (.reg [Wm 7 3,Wm 8 0,Ws 9 (.len .str (Xv 8)),Ws 10 (.ibin .lss (Xv 7) (Xv 9))]) (.cond (Xv 10) .skip (.exit 0))) (.seq (.block 1 (.seq (.reg [Wm 13 0,Wm 14 3,Ws 15 (.idxS (Xv 13) (Xv 14)),Ws 16 (.ibin .lss (Xv 15) (.c (.int .u8 (.ofNat 32)))),Wm 17 16,Wg 18 17 false (.mv (Xv 0)),Wg 19 17 false (.mv (Xv 3)),Wg 20 17 false (.idxS (Xv 18) (Xv 19)),Wg 21 17 false (.ibin .gtr (Xv 20) (.c (.int .u8 (.ofNat 126)))),Ws 22 (.pick (Xv 17) (.c (.bool true)) (Xv 21))]) (.cond (Xv 22) (.seq (.reg [Ws 2 (.mv (.c (.bool false)))]) .ret) .skip))) (.reg [Wm 11 3,Ws 12 (.ibin .add (Xv 11) (Xn 1)),Wm 3 12])))
def p1311_2:Aa:=(.seq (.reg [Ws 3 (.mv (Xn 0))]) (.block 0 (.loop Ko)))
def p1311_3:Aa:=(.reg [Ws 2 (.mv (.c (.bool true)))])
/-- foregone/foregoneref09.IsStr -/
def c1311:Aa:=(.seq p1311_0 (.seq p1311_1 (.seq p1311_2 (.seq p1311_3 .ret))))
def r1311:List RV:= [(.t (K.of 2))]
def p1312_0:Aa:=(.reg [Ws 2 (.mv (.c (.bool false)))])
def p1312_1:Aa:=(.seq (.reg [Wm 7 0,Ws 8 (.len .str (Xv 7)),Ws 9 (.ibin .lss (Xv 8) (Xn 1)),Wm 10 9,Wg 11 10 false (.mv (Xv 0)),Wg 12 10 false (.len .str (Xv 11)),Wg 13 10 false (.ibin .gtr (Xv 12) (Xn 40)),Ws 14 (.pick (Xv 10) (.c (.bool true)) (Xv 13)),Wm 15 14,Wg 16 15 false (.mv (Xv 0)),Wg 17 15 false (.sbin .eql (Xv 16) (.c (.str [84,82,85,69]))),Ws 18 (.pick (Xv 15) (.c (.bool true)) (Xv 17)),Wm 19 18,Wg 20 19 false (.mv (Xv 0)),Wg 21 19 false (.sbin .eql (Xv 20) (.c (.str [70,65,76,83,69]))),Ws 22 (.pick (Xv 19) (.c (.bool true)) (Xv 21))]) (.cond (Xv 22) (.seq (.reg [Ws 2 (.mv (.c (.bool false)))]) .ret) .skip))
def HK:Aa:=(.seq (.seq (.reg [Wm 23 3,Wm 24 0,Ws 25 (.len .str (Xv 24)),Ws 26 (.ibin .lss (Xv 23) (Xv 25))]) (.cond (Xv 26) .skip (.exit 0))) (.seq (.block 1 (.seq (.reg [Wm 29 0,Wm 30 3,Ws 31 (.idxS (Xv 29) (Xv 30)),Wm 4 31]) (.seq (.reg [Wm 32 4,Ws 33 (.ibin .geq (Xv 32) (.c (.int .u8 (.ofNat 65)))),Wm 34 33,Wg 35 34 true (.mv (Xv 4)),Wg 36 34 true (.ibin .leq (Xv 35) (.c (.int .u8 (.ofNat 90)))),Ws 37 (.pick (Xv 34) (Xv 36) (.c (.bool false))),Wm 38 37,Wg 39 38 false (.mv (Xv 4)),Wg 40 38 false (.ibin .geq (Xv 39) (.c (.int .u8 (.ofNat 97)))),Wg 41 38 false (.mv (Xv 40)),Wg 42 41 true (.mv (Xv 4)),Wg 43 41 true (.ibin .leq (Xv 42) (.c (.int .u8 (.ofNat 122)))),Wg 44 38 false (.pick (Xv 41) (Xv 43) (.c (.bool false))),Ws 45 (.pick (Xv 38) (.c (.bool true)) (Xv 44)),Wm 5 45]) (.seq (.reg [Wm 46 4,Ws 47 (.ibin .geq (Xv 46) (.c (.int .u8 (.ofNat 48)))),Wm 48 47,Wg 49 48 true (.mv (Xv 4)),Wg 50 48 true (.ibin .leq (Xv 49) (.c (.int .u8 (.ofNat 57)))),Ws 51 (.pick (Xv 48) (Xv 50) (.c (.bool false))),Wm 52 51,Wg 53 52 false (.mv (Xv 4)),Wg 54 52 false (.ibin .eql (Xv 53) (.c (.int .u8 (.ofNat 95)))),Ws 55 (.pick (Xv 52) (.c (.bool true)) (Xv 54)),Wm 6 55]) (.seq (.reg [Wm 56 5,Ws 57 (.not (Xv 56)),Wm 58 57,Wg 59 58 true (.mv (Xv 6)),Wg 60 58 true (.not (Xv 59)),Wg 61 58 true (.mv (Xv 60)),Wg 62 61 false (.mv (Xv 3)),Wg 63 61 false (.ibin .eql (Xv 62) (Xn 0)),Wg 64 58 true (.pick (Xv 61) (.c (.bool true)) (Xv 63)),Ws 65 (.pick (Xv 58) (Xv 64) (.c (.bool false)))]) (.cond (Xv 65) (.seq (.reg [Ws 2 (.mv (.c (.bool false)))]) .ret) .skip)))))) (.reg [Wm 27 3,Ws 28 (.ibin .add (Xv 27) (Xn 1)),Wm 3 28])))
def p1312_2:Aa:=(.seq (.reg [Ws 3 (.mv (Xn 0))]) (.block 0 (.loop HK)))
def p1312_3:Aa:=(.reg [Ws 2 (.mv (.c (.bool true)))])
/-- foregone/foregoneref09.IsName -/
def c1312:Aa:=(.seq p1312_0 (.seq p1312_1 (.seq p1312_2 (.seq p1312_3 .ret))))
def r1312:List RV:= [(.t (K.of 2))]
/-- A table that bears them. -/
structure Hns (E:Env):Prop where
  f1005:Wf E 5 c1005 r1005
  f1007:Wf E 7 c1007 r1007
  f1024:Wf E 24 c1024 r1024
  f1029:Wf E 29 c1029 r1029
  f1030:Wf E 30 c1030 r1030
  f1066:Wf E 66 c1066 r1066
  f1067:Wf E 67 c1067 r1067
  f1061:Wf E 61 c1061 r1061
  f1062:Wf E 62 c1062 r1062
  f1063:Wf E 63 c1063 r1063
  f1097:Wf E 97 c1097 r1097
  f1095:Wf E 95 c1095 r1095
  f1096:Wf E 96 c1096 r1096
  f1148:Wf E 148 c1148 r1148
  f1149:Wf E 149 c1149 r1149
  f1150:Wf E 150 c1150 r1150
  f1151:Wf E 151 c1151 r1151
  f1152:Wf E 152 c1152 r1152
  f1153:Wf E 153 c1153 r1153
  f1204:Wf E 204 c1204 r1204
  f1205:Wf E 205 c1205 r1205
  f1206:Wf E 206 c1206 r1206
  f1207:Wf E 207 c1207 r1207
  f1309:Wf E 309 c1309 r1309
  f1310:Wf E 310 c1310 r1310
  f1311:Wf E 311 c1311 r1311
  f1312:Wf E 312 c1312 r1312
end
end Go.AJ
