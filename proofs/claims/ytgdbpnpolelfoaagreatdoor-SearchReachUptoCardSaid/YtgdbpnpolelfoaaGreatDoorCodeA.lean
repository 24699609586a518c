/- The code of the functions that the law reaches. -/
import Derived.Test.YtgdbpnpolelfoaaGreatDoorAiE
set_option linter.all false
namespace Go.AJ
open Go
/-- A variable; an operation that sets one; one that sets none; one under a guard. -/
abbrev Xv (n:Nat):X:=.t (K.of n)
abbrev Ws (n:Nat) (o:AOp):AO:=⟨some (K.of n),none,o⟩
abbrev Wn (o:AOp):AO:=⟨none,none,o⟩
abbrev Wg (n g:Nat) (b:Bool) (o:AOp):AO:=⟨some (K.of n),some (K.of g,b),o⟩
abbrev Wz (l:List AO) (h:Option AO):ES:=⟨l,l,h⟩
abbrev Xn (n:Nat):X:=.c (.int .i64 (.ofNat n))
abbrev Wm (a b:Nat):AO:=Ws a (.mv (Xv b))
abbrev Wl (a b:Nat):AO:=Ws a (.load1 (Xv b))
abbrev Wo (a b c:Nat):AO:=Ws a (.addOff (Xv b) c)
abbrev Wd (a b c:Nat):AO:=Ws a (.loadN (Xv b) c)
abbrev Wx (a b c d:Nat):AO:=Ws a (.idx (Xv b) (Xv c) d)
abbrev We (a b:Nat):AO:=Ws a (.len .sl (Xv b))
abbrev Wc (a b:Nat):AO:=Ws a (.nilchk (Xv b))
abbrev Wf (E:Env) (n:Nat) (c:Aa) (r:List RV):Prop:=T.get .no (K.of n) E.fn=.fn (some ⟨c,r⟩)
noncomputable section
def p31_0:Aa:=(.reg [Ws 2 (.box (Xv 0)),Ws 4 (.mv (.c (.bool false)))])
def p31_1:Aa:=(.reg [Wd 5 2 35,Wm 6 1,Ws 7 (.call 85 [(Xv 5),(Xv 6),(.c .nils)]),Wm 4 7])
def c31:Aa:=(.seq p31_0 (.seq p31_1 .ret))
def r31:List RV:= [(.t (K.of 4))]
def p64_0:Aa:=(.reg [Ws 3 (.box (Xv 0)),Ws 6 (.mv (.c (.bool false)))])
def p64_1:Aa:=(.reg [Ws 8 (.mk [(.int .i64 (.ofNat 0))] [(0,1,(Xn 12000))]),Ws 9 (.box (Xv 8)),Wm 7 9])
def p64_2:Aa:=(.reg [Wm 10 7,Wd 11 3 35,Ws 12 (.call 126 [(Xv 10),(Xv 11)]),Wm 13 12,Wg 14 13 true (.mv (Xv 7)),Wg 15 13 true (.mv (Xv 1)),Wg 16 13 true (.call 127 [(Xv 14),(Xv 15)]),Ws 17 (.pick (Xv 13) (Xv 16) (.c (.bool false))),Wm 18 17,Wg 19 18 true (.mv (Xv 7)),Wg 20 18 true (.mv (Xv 2)),Wg 21 18 true (.call 128 [(Xv 19),(Xn 1),(Xv 20)]),Ws 22 (.pick (Xv 18) (Xv 21) (.c (.bool false))),Wm 6 22])
def c64:Aa:=(.seq p64_0 (.seq p64_1 (.seq p64_2 .ret)))
def r64:List RV:= [(.t (K.of 6))]
def p104_0:Aa:=(.reg [Ws 3 (.box (Xv 1)),Ws 4 (.mv (.c (.bool false)))])
def p104_1:Aa:=(.draw [(Wz [Wm 17 0,Wc 18 17,Wo 19 18 0,Wl 20 19,Wo 21 3 0,Wl 22 21,We 23 22,Wo 24 3 32,Wl 25 24,We 26 25,Ws 27 (.ibin .add (Xv 23) (Xv 26)),Wo 28 3 29,Wl 29 28,We 30 29,Ws 31 (.ibin .add (Xv 27) (Xv 30)),Ws 32 (.ibin .sub (Xv 20) (Xv 31)),Wc 33 17,Wo 34 33 0] (some (Wn (.store (Xv 34) (Xv 32) 1)))),(Wz [] none)] [(K.of 17),(K.of 18),(K.of 19),(K.of 20),(K.of 21),(K.of 22),(K.of 23),(K.of 24),(K.of 25),(K.of 26),(K.of 27),(K.of 28),(K.of 29),(K.of 30),(K.of 31),(K.of 32),(K.of 33),(K.of 34)])
def b104_0:Aa:=(.seq (.reg [Ws 39 (.ibin .lss (Xv 38) (Xv 37))]) (.seq (.cond (Xv 39) .skip (.exit 0)) (.seq (.block 1 (.seq (.reg [Wx 40 36 38 1,Wl 41 40,Wm 6 41]) (.reg [Wm 42 0,Wc 43 42,Wo 44 43 0,Wl 45 44,Wm 46 6,We 47 46,Ws 48 (.ibin .sub (Xv 45) (Xv 47)),Wc 49 42,Wo 50 49 0,Wn (.store (Xv 50) (Xv 48) 1)]))) (.reg [Ws 51 (.ibin .add (Xv 38) (Xn 1)),Wm 38 51]))))
def p104_2:Aa:=(.seq (.reg [Wo 35 3 32,Wl 36 35,We 37 36,Ws 38 (.mv (Xn 0))]) (.block 0 (.loop b104_0)))
def b104_1:Aa:=(.seq (.reg [Ws 56 (.ibin .lss (Xv 55) (Xv 54))]) (.seq (.cond (Xv 56) .skip (.exit 2)) (.seq (.block 3 (.seq (.reg [Wx 57 53 55 8,Wd 58 57 8,Ws 8 (.alloc [(.str []),(.int .i64 (.ofNat 0)),(.int .i64 (.ofNat 0)),(.bool false),.nils,(.str []),.nils,.nils]),Wn (.store (Xv 8) (Xv 58) 8)]) (.seq (.reg [Wm 59 0,Wo 60 8 1,Wd 61 60 7,Ws 62 (.call 190 [(Xv 59),(Xv 61),(Xn 1)]),Ws 63 (.not (Xv 62))]) (.cond (Xv 63) (.seq (.reg [Ws 4 (.mv (.c (.bool false)))]) .ret) .skip)))) (.reg [Ws 64 (.ibin .add (Xv 55) (Xn 1)),Wm 55 64]))))
def p104_3:Aa:=(.seq (.reg [Wo 52 3 1,Wl 53 52,We 54 53,Ws 55 (.mv (Xn 0))]) (.block 2 (.loop b104_1)))
def b104_2:Aa:=(.seq (.reg [Ws 69 (.ibin .lss (Xv 68) (Xv 67))]) (.seq (.cond (Xv 69) .skip (.exit 4)) (.seq (.block 5 (.seq (.reg [Wx 70 66 68 12,Wd 71 70 12,Ws 10 (.alloc [(.str []),(.int .i64 (.ofNat 0)),(.int .i64 (.ofNat 0)),.nils,(.int .i64 (.ofNat 0)),(.int .i64 (.ofNat 0)),(.bool false),.nils,(.str []),.nils,.nils,.nils]),Wn (.store (Xv 10) (Xv 71) 12)]) (.seq (.reg [Wm 72 0,Wo 73 10 1,Wd 74 73 11,Ws 75 (.mkSl [(.int .i64 (.ofNat 0)),(.int .i64 (.ofNat 0)),.nils,(.int .i64 (.ofNat 0)),(.int .i64 (.ofNat 0)),(.bool false),.nils,(.str []),.nils,.nils,.nils] [(0,11,(Xv 74))] 1),Ws 76 (.call 128 [(Xv 72),(Xn 1),(Xv 75)]),Ws 77 (.not (Xv 76))]) (.cond (Xv 77) (.seq (.reg [Ws 4 (.mv (.c (.bool false)))]) .ret) .skip)))) (.reg [Ws 78 (.ibin .add (Xv 68) (Xn 1)),Wm 68 78]))))
def p104_4:Aa:=(.seq (.reg [Wo 65 3 2,Wl 66 65,We 67 66,Ws 68 (.mv (Xn 0))]) (.block 4 (.loop b104_2)))
def b104_3:Aa:=(.seq (.reg [Ws 83 (.ibin .lss (Xv 82) (Xv 81))]) (.seq (.cond (Xv 83) .skip (.exit 6)) (.seq (.block 7 (.seq (.reg [Wx 84 80 82 14,Wd 85 84 14,Ws 12 (.alloc [(.str []),.nils,(.bool false),(.int .i64 (.ofNat 0)),(.int .i64 (.ofNat 0)),.nils,(.int .i64 (.ofNat 0)),(.int .i64 (.ofNat 0)),(.bool false),.nils,(.str []),.nils,.nils,.nils]),Wn (.store (Xv 12) (Xv 85) 14)]) (.seq (.draw [(Wz [Wm 86 0,Wc 87 86,Wo 88 87 0,Wl 89 88,Wo 90 12 1,Wl 91 90,We 92 91,Ws 93 (.ibin .sub (Xv 89) (Xv 92)),Wc 94 86,Wo 95 94 0] (some (Wn (.store (Xv 95) (Xv 93) 1)))),(Wz [] none)] [(K.of 86),(K.of 87),(K.of 88),(K.of 89),(K.of 90),(K.of 91),(K.of 92),(K.of 93),(K.of 94),(K.of 95)]) (.seq (.reg [Wm 96 0,Wo 97 12 3,Wd 98 97 11,Ws 99 (.mkSl [(.int .i64 (.ofNat 0)),(.int .i64 (.ofNat 0)),.nils,(.int .i64 (.ofNat 0)),(.int .i64 (.ofNat 0)),(.bool false),.nils,(.str []),.nils,.nils,.nils] [(0,11,(Xv 98))] 1),Ws 100 (.call 128 [(Xv 96),(Xn 1),(Xv 99)]),Ws 101 (.not (Xv 100))]) (.cond (Xv 101) (.seq (.reg [Ws 4 (.mv (.c (.bool false)))]) .ret) .skip))))) (.reg [Ws 102 (.ibin .add (Xv 82) (Xn 1)),Wm 82 102]))))
def p104_5:Aa:=(.seq (.reg [Wo 79 3 3,Wl 80 79,We 81 80,Ws 82 (.mv (Xn 0))]) (.block 6 (.loop b104_3)))
def b104_4:Aa:=(.seq (.reg [Ws 107 (.ibin .lss (Xv 106) (Xv 105))]) (.seq (.cond (Xv 107) .skip (.exit 8)) (.seq (.block 9 (.seq (.reg [Wx 108 104 106 23,Wd 109 108 23,Ws 14 (.alloc [(.bool false),(.int .i64 (.ofNat 0)),(.int .i64 (.ofNat 0)),.nils,(.int .i64 (.ofNat 0)),(.int .i64 (.ofNat 0)),(.bool false),.nils,(.str []),.nils,.nils,.nils,(.int .i64 (.ofNat 0)),(.int .i64 (.ofNat 0)),.nils,(.int .i64 (.ofNat 0)),(.int .i64 (.ofNat 0)),(.bool false),.nils,(.str []),.nils,.nils,.nils]),Wn (.store (Xv 14) (Xv 109) 23)]) (.seq (.reg [Wm 110 0,Wo 111 14 1,Wd 112 111 11,Wo 113 14 12,Wd 114 113 11,Ws 115 (.mkSl [(.int .i64 (.ofNat 0)),(.int .i64 (.ofNat 0)),.nils,(.int .i64 (.ofNat 0)),(.int .i64 (.ofNat 0)),(.bool false),.nils,(.str []),.nils,.nils,.nils,(.int .i64 (.ofNat 0)),(.int .i64 (.ofNat 0)),.nils,(.int .i64 (.ofNat 0)),(.int .i64 (.ofNat 0)),(.bool false),.nils,(.str []),.nils,.nils,.nils] [(0,11,(Xv 112)),(11,11,(Xv 114))] 2),Ws 116 (.call 128 [(Xv 110),(Xn 1),(Xv 115)]),Ws 117 (.not (Xv 116))]) (.cond (Xv 117) (.seq (.reg [Ws 4 (.mv (.c (.bool false)))]) .ret) .skip)))) (.reg [Ws 118 (.ibin .add (Xv 106) (Xn 1)),Wm 106 118]))))
def p104_6:Aa:=(.seq (.reg [Wo 103 3 27,Wl 104 103,We 105 104,Ws 106 (.mv (Xn 0))]) (.block 8 (.loop b104_4)))
def b104_5:Aa:=(.seq (.reg [Ws 123 (.ibin .lss (Xv 122) (Xv 121))]) (.seq (.cond (Xv 123) .skip (.exit 10)) (.seq (.block 11 (.seq (.reg [Wx 124 120 122 12,Wd 125 124 12,Ws 16 (.alloc [(.str []),(.int .i64 (.ofNat 0)),(.int .i64 (.ofNat 0)),.nils,(.int .i64 (.ofNat 0)),(.int .i64 (.ofNat 0)),(.bool false),.nils,(.str []),.nils,.nils,.nils]),Wn (.store (Xv 16) (Xv 125) 12)]) (.seq (.reg [Wm 126 0,Wo 127 16 1,Wd 128 127 11,Ws 129 (.mkSl [(.int .i64 (.ofNat 0)),(.int .i64 (.ofNat 0)),.nils,(.int .i64 (.ofNat 0)),(.int .i64 (.ofNat 0)),(.bool false),.nils,(.str []),.nils,.nils,.nils] [(0,11,(Xv 128))] 1),Ws 130 (.call 128 [(Xv 126),(Xn 1),(Xv 129)]),Ws 131 (.not (Xv 130))]) (.cond (Xv 131) (.seq (.reg [Ws 4 (.mv (.c (.bool false)))]) .ret) .skip)))) (.reg [Ws 132 (.ibin .add (Xv 122) (Xn 1)),Wm 122 132]))))
def p104_7:Aa:=(.seq (.reg [Wo 119 3 28,Wl 120 119,We 121 120,Ws 122 (.mv (Xn 0))]) (.block 10 (.loop b104_5)))
def p104_8:Aa:=(.reg [Wm 133 0,Wo 134 3 5,Wd 135 134 11,Wo 136 3 16,Wd 137 136 11,Ws 138 (.mkSl [(.int .i64 (.ofNat 0)),(.int .i64 (.ofNat 0)),.nils,(.int .i64 (.ofNat 0)),(.int .i64 (.ofNat 0)),(.bool false),.nils,(.str []),.nils,.nils,.nils,(.int .i64 (.ofNat 0)),(.int .i64 (.ofNat 0)),.nils,(.int .i64 (.ofNat 0)),(.int .i64 (.ofNat 0)),(.bool false),.nils,(.str []),.nils,.nils,.nils] [(0,11,(Xv 135)),(11,11,(Xv 137))] 2),Ws 139 (.call 128 [(Xv 133),(Xn 1),(Xv 138)]),Wm 140 139,Wg 141 140 true (.mv (Xv 0)),Wg 142 140 true (.addOff (Xv 3) 4),Wg 143 140 true (.load1 (Xv 142)),Wg 144 140 true (.call 128 [(Xv 141),(Xn 1),(Xv 143)]),Ws 145 (.pick (Xv 140) (Xv 144) (.c (.bool false))),Wm 146 145,Wg 147 146 true (.mv (Xv 0)),Wg 148 146 true (.addOff (Xv 3) 30),Wg 149 146 true (.load1 (Xv 148)),Wg 150 146 true (.call 128 [(Xv 147),(Xn 1),(Xv 149)]),Ws 151 (.pick (Xv 146) (Xv 150) (.c (.bool false))),Wm 152 151,Wg 153 152 true (.mv (Xv 0)),Wg 154 152 true (.addOff (Xv 3) 31),Wg 155 152 true (.load1 (Xv 154)),Wg 156 152 true (.call 128 [(Xv 153),(Xn 1),(Xv 155)]),Ws 157 (.pick (Xv 152) (Xv 156) (.c (.bool false))),Wm 158 157,Wg 159 158 true (.mv (Xv 0)),Wg 160 158 true (.addOff (Xv 3) 33),Wg 161 158 true (.load1 (Xv 160)),Wg 162 158 true (.call 128 [(Xv 159),(Xn 1),(Xv 161)]),Ws 163 (.pick (Xv 158) (Xv 162) (.c (.bool false))),Wm 4 163])
def c104:Aa:=(.seq p104_0 (.seq p104_1 (.seq p104_2 (.seq p104_3 (.seq p104_4 (.seq p104_5 (.seq p104_6 (.seq p104_7 (.seq p104_8 .ret)))))))))
def r104:List RV:= [(.t (K.of 4))]
def p105_0:Aa:=(.reg [Ws 2 (.box (Xv 0)),Ws 4 (.mv (.c (.bool false)))])
def b105_0:Aa:=(.seq (.reg [Ws 10 (.ibin .lss (Xv 9) (Xv 8))]) (.seq (.cond (Xv 10) .skip (.exit 0)) (.seq (.block 1 (.seq (.reg [Wx 11 7 9 1,Wl 12 11,Wm 6 12]) (.seq (.reg [Wm 13 6,Ws 14 (.mkf 191 [] [(Xv 2)]),Ws 15 (.call 86 [(Xv 13),(Xv 14)])]) (.cond (Xv 15) (.seq (.reg [Ws 4 (.mv (.c (.bool false)))]) .ret) .skip)))) (.reg [Ws 16 (.ibin .add (Xv 9) (Xn 1)),Wm 9 16]))))
def p105_1:Aa:=(.seq (.reg [Wm 7 1,We 8 7,Ws 9 (.mv (Xn 0))]) (.block 0 (.loop b105_0)))
def p105_2:Aa:=(.reg [Ws 4 (.mv (.c (.bool true)))])
def c105:Aa:=(.seq p105_0 (.seq p105_1 (.seq p105_2 .ret)))
def r105:List RV:= [(.t (K.of 4))]
def p163_0:Aa:=(.reg [Ws 3 (.box (Xv 0)),Ws 4 (.box (Xv 1)),Ws 5 (.box (Xv 2)),Ws 6 (.mv (.c (.bool false)))])
def p163_1:Aa:=(.draw [(Wz [Wl 7 3,Wc 8 7,Wo 9 8 0,Wl 10 9,Wo 11 4 2,Wo 12 11 1,Wl 13 12,We 14 13,Ws 15 (.ibin .add (Xn 1) (Xv 14)),Wo 16 4 4,Wl 17 16,Ws 18 (.len .str (Xv 17)),Ws 19 (.ibin .quo (Xv 18) (Xn 20)),Ws 20 (.ibin .add (Xv 15) (Xv 19)),Ws 21 (.ibin .sub (Xv 10) (Xv 20)),Wc 22 7,Wo 23 22 0] (some (Wn (.store (Xv 23) (Xv 21) 1)))),(Wz [] none)] [(K.of 7),(K.of 8),(K.of 9),(K.of 10),(K.of 11),(K.of 12),(K.of 13),(K.of 14),(K.of 15),(K.of 16),(K.of 17),(K.of 18),(K.of 19),(K.of 20),(K.of 21),(K.of 22),(K.of 23)])
def p163_2:Aa:=(.seq (.reg [Wl 24 3,Wc 25 24,Wo 26 25 0,Wl 27 26,Ws 28 (.ibin .lss (Xv 27) (Xn 0)),Wm 29 28,Wg 30 29 false (.load1 (Xv 5)),Wg 31 29 false (.ibin .gtr (Xv 30) (Xn 60)),Ws 32 (.pick (Xv 29) (.c (.bool true)) (Xv 31))]) (.cond (Xv 32) (.seq (.reg [Ws 6 (.mv (.c (.bool false)))]) .ret) .skip))
def p163_3:Aa:=(.reg [Wo 33 4 5,Wl 34 33,Ws 35 (.mkf 292 [] [(Xv 3),(Xv 5)]),Ws 36 (.call 86 [(Xv 34),(Xv 35)]),Ws 37 (.not (Xv 36)),Wm 38 37,Wg 39 38 true (.addOff (Xv 4) 6),Wg 40 38 true (.load1 (Xv 39)),Wg 41 38 true (.mkf 293 [] [(Xv 3),(Xv 5)]),Wg 42 38 true (.call 86 [(Xv 40),(Xv 41)]),Wg 43 38 true (.not (Xv 42)),Ws 44 (.pick (Xv 38) (Xv 43) (.c (.bool false))),Wm 6 44])
def c163:Aa:=(.seq p163_0 (.seq p163_1 (.seq p163_2 (.seq p163_3 .ret))))
def r163:List RV:= [(.t (K.of 6))]
def p164_0:Aa:=(.reg [Ws 2 (.box (Xv 0)),Ws 3 (.mv (.c (.bool false)))])
def p164_1:Aa:=(.reg [Wl 4 1,Wd 5 2 7,Ws 6 (.call 190 [(Xv 4),(Xv 5),(Xn 1)]),Ws 7 (.not (Xv 6)),Wm 3 7])
def c164:Aa:=(.seq p164_0 (.seq p164_1 .ret))
def r164:List RV:= [(.t (K.of 3))]
def p282_0:Aa:=(.reg [Ws 3 (.box (Xv 0)),Ws 4 (.mv (.c (.bool false)))])
def p282_1:Aa:=(.reg [Wl 5 1,Wd 6 3 7,Wl 7 2,Ws 8 (.ibin .add (Xv 7) (Xn 1)),Ws 9 (.call 190 [(Xv 5),(Xv 6),(Xv 8)]),Ws 10 (.not (Xv 9)),Wm 4 10])
def c282:Aa:=(.seq p282_0 (.seq p282_1 .ret))
def r282:List RV:= [(.t (K.of 4))]
def p283_0:Aa:=(.reg [Ws 3 (.box (Xv 0)),Ws 4 (.mv (.c (.bool false)))])
def p283_1:Aa:=(.reg [Wl 5 1,Wd 6 3 7,Wl 7 2,Ws 8 (.ibin .add (Xv 7) (Xn 1)),Ws 9 (.call 190 [(Xv 5),(Xv 6),(Xv 8)]),Ws 10 (.not (Xv 9)),Wm 4 10])
def c283:Aa:=(.seq p283_0 (.seq p283_1 .ret))
def r283:List RV:= [(.t (K.of 4))]
def p106_0:Aa:=(.reg [Ws 6 (.mv (.c (.bool false)))])
def b106_0:Aa:=(.seq (.reg [Ws 12 (.ibin .lss (Xv 11) (Xv 10))]) (.seq (.cond (Xv 12) .skip (.exit 0)) (.seq (.block 1 (.seq (.reg [Wx 13 9 11 11,Wd 14 13 11,Ws 8 (.alloc [(.int .i64 (.ofNat 0)),(.int .i64 (.ofNat 0)),.nils,(.int .i64 (.ofNat 0)),(.int .i64 (.ofNat 0)),(.bool false),.nils,(.str []),.nils,.nils,.nils]),Wn (.store (Xv 8) (Xv 14) 11)]) (.seq (.draw [(Wz [Wm 15 0,Wc 16 15,Wo 17 16 0,Wl 18 17,Wo 19 8 2,Wl 20 19,We 21 20,Ws 22 (.ibin .add (Xn 1) (Xv 21)),Ws 23 (.ibin .sub (Xv 18) (Xv 22)),Wc 24 15,Wo 25 24 0] (some (Wn (.store (Xv 25) (Xv 23) 1)))),(Wz [] none)] [(K.of 15),(K.of 16),(K.of 17),(K.of 18),(K.of 19),(K.of 20),(K.of 21),(K.of 22),(K.of 23),(K.of 24),(K.of 25)]) (.seq (.reg [Wm 26 0,Wc 27 26,Wo 28 27 0,Wl 29 28,Ws 30 (.ibin .lss (Xv 29) (Xn 0)),Wm 31 30,Wg 32 31 false (.mv (Xv 1)),Wg 33 31 false (.ibin .gtr (Xv 32) (Xn 150)),Ws 34 (.pick (Xv 31) (.c (.bool true)) (Xv 33)),Wm 35 34,Wg 36 35 false (.mv (Xv 0)),Wg 37 35 false (.addOff (Xv 8) 3),Wg 38 35 false (.loadN (Xv 37) 7),Wg 39 35 false (.call 190 [(Xv 36),(Xv 38),(Xn 1)]),Wg 40 35 false (.not (Xv 39)),Ws 41 (.pick (Xv 35) (.c (.bool true)) (Xv 40)),Wm 42 41,Wg 43 42 false (.mv (Xv 0)),Wg 44 42 false (.mv (Xv 1)),Wg 45 42 false (.ibin .add (Xv 44) (Xn 1)),Wg 46 42 false (.addOff (Xv 8) 10),Wg 47 42 false (.load1 (Xv 46)),Wg 48 42 false (.call 128 [(Xv 43),(Xv 45),(Xv 47)]),Wg 49 42 false (.not (Xv 48)),Ws 50 (.pick (Xv 42) (.c (.bool true)) (Xv 49))]) (.cond (Xv 50) (.seq (.reg [Ws 6 (.mv (.c (.bool false)))]) .ret) .skip))))) (.reg [Ws 51 (.ibin .add (Xv 11) (Xn 1)),Wm 11 51]))))
def p106_1:Aa:=(.seq (.reg [Wm 9 2,We 10 9,Ws 11 (.mv (Xn 0))]) (.block 0 (.loop b106_0)))
def p106_2:Aa:=(.reg [Ws 6 (.mv (.c (.bool true)))])
def c106:Aa:=(.seq p106_0 (.seq p106_1 (.seq p106_2 .ret)))
def r106:List RV:= [(.t (K.of 6))]
def p29_0:Aa:=(.reg [Ws 1 (.box (Xv 0)),Ws 2 (.mv (.c .nils)),Ws 3 (.mv (Xn 0))])
def p29_1:Aa:=(.seq (.reg [Wd 4 1 3,Ws 5 (.call 46 [(Xv 4)]),Ws 6 (.not (Xv 5))]) (.cond (Xv 6) (.seq (.reg [Ws 2 (.mv (.c .nils)),Ws 3 (.mv (Xn 230))]) .ret) .skip))
def p29_2:Aa:=(.reg [Wd 7 1 3,Ws 8 (.call 47 [(Xv 7)]),Wm 2 8,Ws 3 (.mv (Xn 0))])
def c29:Aa:=(.seq p29_0 (.seq p29_1 (.seq p29_2 .ret)))
def r29:List RV:= [(.t (K.of 2)),(.t (K.of 3))]
def p61_0:Aa:=(.reg [Ws 1 (.box (Xv 0)),Ws 2 (.mv (.c (.bool false)))])
def p61_1:Aa:=(.reg [Wo 13 1 0,Wl 14 13,We 15 14,Wm 3 15])
def p61_2:Aa:=(.seq (.reg [Wm 16 3,Ws 17 (.ibin .gtr (Xv 16) (Xn 20000)),Wm 18 17,Wg 19 18 false (.addOff (Xv 1) 2),Wg 20 18 false (.load1 (Xv 19)),Wg 21 18 false (.len .sl (Xv 20)),Wg 22 18 false (.ibin .gtr (Xv 21) (Xn 100000)),Ws 23 (.pick (Xv 18) (.c (.bool true)) (Xv 22)),Wm 24 23,Wg 25 24 false (.addOff (Xv 1) 1),Wg 26 24 false (.load1 (Xv 25)),Wg 27 24 false (.len .sl (Xv 26)),Wg 28 24 false (.mv (Xv 3)),Wg 29 24 false (.ibin .gtr (Xv 27) (Xv 28)),Ws 30 (.pick (Xv 24) (.c (.bool true)) (Xv 29))]) (.cond (Xv 30) (.seq (.reg [Ws 2 (.mv (.c (.bool false)))]) .ret) .skip))
def p61_3:Aa:=(.reg [Ws 31 (.mkmap),Wm 4 31])
def b61_0:Aa:=(.seq (.reg [Ws 36 (.ibin .lss (Xv 35) (Xv 34))]) (.seq (.cond (Xv 36) .skip (.exit 0)) (.seq (.block 1 (.seq (.reg [Wx 37 33 35 1,Wl 38 37,Wm 6 38]) (.seq (.seq (.reg [Wm 39 6,We 40 39,Wo 41 1 0,Wl 42 41,Ws 43 (.idx (Xv 42) (Xn 0) 1),Wl 44 43,We 45 44,Ws 46 (.ibin .neq (Xv 40) (Xv 45)),Wm 47 46,Wg 48 47 false (.mv (Xv 6)),Wg 49 47 false (.call 86 [(Xv 48),(.c (.fn 87 [] []))]),Ws 50 (.pick (Xv 47) (.c (.bool true)) (Xv 49))]) (.cond (Xv 50) (.seq (.reg [Ws 2 (.mv (.c (.bool false)))]) .ret) .skip)) (.seq (.reg [Wm 51 6,Ws 52 (.call 89 [(Xv 51)]),Wm 7 52]) (.seq (.seq (.reg [Wm 53 4,Wm 54 7,Ws 55 (.mapget .str (Xv 53) (Xv 54) (.bool false) false)]) (.cond (Xv 55) (.seq (.reg [Ws 2 (.mv (.c (.bool false)))]) .ret) .skip)) (.reg [Wm 56 4,Wm 57 7,Wn (.mapset .str (Xv 56) (Xv 57) (.c (.bool true)))])))))) (.reg [Ws 58 (.ibin .add (Xv 35) (Xn 1)),Wm 35 58]))))
def p61_4:Aa:=(.seq (.reg [Wo 32 1 0,Wl 33 32,We 34 33,Ws 35 (.mv (Xn 0))]) (.block 0 (.loop b61_0)))
def b61_1:Aa:=(.seq (.reg [Ws 63 (.ibin .lss (Xv 62) (Xv 61))]) (.seq (.cond (Xv 63) .skip (.exit 2)) (.seq (.block 3 (.seq (.reg [Wm 64 62,Wx 65 60 62 1,Wl 66 65,Wm 8 64,Wm 9 66]) (.seq (.reg [Wm 67 9,Wm 68 8,Ws 69 (.ibin .neq (Xv 67) (Xv 68))]) (.cond (Xv 69) (.seq (.reg [Ws 2 (.mv (.c (.bool false)))]) .ret) .skip)))) (.reg [Ws 70 (.ibin .add (Xv 62) (Xn 1)),Wm 62 70]))))
def p61_5:Aa:=(.seq (.reg [Wo 59 1 1,Wl 60 59,We 61 60,Ws 62 (.mv (Xn 0))]) (.block 2 (.loop b61_1)))
def p61_6:Aa:=(.reg [Wo 71 1 1,Wl 72 71,We 73 72,Wm 10 73])
def b61_2:Aa:=(.seq (.reg [Ws 78 (.ibin .lss (Xv 77) (Xv 76))]) (.seq (.cond (Xv 78) .skip (.exit 4)) (.seq (.block 5 (.seq (.reg [Wm 79 77,Wx 80 75 77 2,Wd 81 80 2,Ws 12 (.alloc [(.int .i64 (.ofNat 0)),(.int .i64 (.ofNat 0))]),Wm 11 79,Wn (.store (Xv 12) (Xv 81) 2)]) (.seq (.seq (.draw [(Wz [Wo 82 12 0,Wl 83 82,Ws 84 (.ibin .lss (Xv 83) (Xn 0)),Wm 85 84,Wg 86 85 false (.addOff (Xv 12) 0),Wg 87 85 false (.load1 (Xv 86)),Wg 88 85 false (.mv (Xv 3)),Wg 89 85 false (.ibin .geq (Xv 87) (Xv 88)),Ws 90 (.pick (Xv 85) (.c (.bool true)) (Xv 89)),Wm 91 90,Wg 92 91 false (.addOff (Xv 12) 1),Wg 93 91 false (.load1 (Xv 92)),Wg 94 91 false (.ibin .lss (Xv 93) (Xn 0)),Ws 95 (.pick (Xv 91) (.c (.bool true)) (Xv 94)),Wm 96 95,Wg 97 96 false (.addOff (Xv 12) 1),Wg 98 96 false (.load1 (Xv 97)),Wg 99 96 false (.mv (Xv 3)),Wg 100 96 false (.ibin .geq (Xv 98) (Xv 99)),Ws 101 (.pick (Xv 96) (.c (.bool true)) (Xv 100)),Wm 102 101,Wg 103 102 false (.mv (Xv 11)),Wg 104 102 false (.ibin .gtr (Xv 103) (Xn 0)),Wg 105 102 false (.mv (Xv 104)),Wg 106 105 true (.addOff (Xv 1) 2),Wg 107 105 true (.load1 (Xv 106)),Wg 108 105 true (.mv (Xv 11)),Wg 109 105 true (.ibin .sub (Xv 108) (Xn 1)),Wg 110 105 true (.idx (Xv 107) (Xv 109) 2),Wg 111 105 true (.loadN (Xv 110) 2),Wg 112 105 true (.loadN (Xv 12) 2)] (some (Wg 113 105 true (.call 90 [(Xv 111),(Xv 112)])))),(Wz [Wg 114 105 true (.ibin .geq (Xv 113) (Xn 0)),Wg 115 102 false (.pick (Xv 105) (Xv 114) (.c (.bool false))),Ws 116 (.pick (Xv 102) (.c (.bool true)) (Xv 115)),Wm 117 116,Wg 118 117 false (.addOff (Xv 12) 0),Wg 119 117 false (.load1 (Xv 118)),Wg 120 117 false (.mv (Xv 10)),Wg 121 117 false (.ibin .geq (Xv 119) (Xv 120)),Ws 122 (.pick (Xv 117) (.c (.bool true)) (Xv 121)),Wm 123 122,Wg 124 123 false (.addOff (Xv 12) 1),Wg 125 123 false (.load1 (Xv 124)),Wg 126 123 false (.mv (Xv 10)),Wg 127 123 false (.ibin .gtr (Xv 125) (Xv 126)),Ws 128 (.pick (Xv 123) (.c (.bool true)) (Xv 127))] none)] [(K.of 82),(K.of 83),(K.of 84),(K.of 85),(K.of 86),(K.of 87),(K.of 88),(K.of 89),(K.of 90),(K.of 91),(K.of 92),(K.of 93),(K.of 94),(K.of 95),(K.of 96),(K.of 97),(K.of 98),(K.of 99),(K.of 100),(K.of 101),(K.of 102),(K.of 103),(K.of 104),(K.of 105),(K.of 106),(K.of 107),(K.of 108),(K.of 109),(K.of 110),(K.of 111),(K.of 112),(K.of 113),(K.of 114),(K.of 115),(K.of 116),(K.of 117),(K.of 118),(K.of 119),(K.of 120),(K.of 121),(K.of 122),(K.of 123),(K.of 124),(K.of 125),(K.of 126),(K.of 127),(K.of 128)]) (.cond (Xv 128) (.seq (.reg [Ws 2 (.mv (.c (.bool false)))]) .ret) .skip)) (.seq (.reg [Wo 129 12 1,Wl 130 129,Wm 131 10,Ws 132 (.ibin .eql (Xv 130) (Xv 131))]) (.cond (Xv 132) (.reg [Wm 133 10,Ws 134 (.ibin .add (Xv 133) (Xn 1)),Wm 10 134]) .skip))))) (.reg [Ws 135 (.ibin .add (Xv 77) (Xn 1)),Wm 77 135]))))
def p61_7:Aa:=(.seq (.reg [Wo 74 1 2,Wl 75 74,We 76 75,Ws 77 (.mv (Xn 0))]) (.block 4 (.loop b61_2)))
def p61_8:Aa:=(.reg [Wm 136 10,Wm 137 3,Ws 138 (.ibin .eql (Xv 136) (Xv 137)),Wm 2 138])
def c61:Aa:=(.seq p61_0 (.seq p61_1 (.seq p61_2 (.seq p61_3 (.seq p61_4 (.seq p61_5 (.seq p61_6 (.seq p61_7 (.seq p61_8 .ret)))))))))
def r61:List RV:= [(.t (K.of 2))]
def p62_0:Aa:=(.reg [Ws 1 (.box (Xv 0)),Ws 2 (.mv (.c .nils))])
def p62_1:Aa:=(.reg [Wo 7 1 0,Wl 8 7,We 9 8,Ws 10 (.mkslice (Xv 9) (Xv 9) [(.int .i64 (.ofNat 0))] 8),Wm 3 10])
def p62_2:Aa:=(.reg [Wo 11 1 1,Wl 12 11,We 13 12,Wm 4 13])
def b62_0:Aa:=(.seq (.reg [Ws 18 (.ibin .lss (Xv 17) (Xv 16))]) (.seq (.cond (Xv 18) .skip (.exit 0)) (.seq (.block 1 (.seq (.reg [Wx 19 15 17 2,Wd 20 19 2,Ws 6 (.alloc [(.int .i64 (.ofNat 0)),(.int .i64 (.ofNat 0))]),Wn (.store (Xv 6) (Xv 20) 2)]) (.seq (.reg [Wo 21 6 1,Wl 22 21,Wm 23 4,Ws 24 (.ibin .eql (Xv 22) (Xv 23))]) (.cond (Xv 24) (.seq (.draw [(Wz [Wm 25 3,Wo 26 6 1,Wl 27 26,Wm 28 3,Wo 29 6 0,Wl 30 29,Wx 31 28 30 1,Wl 32 31,Ws 33 (.ibin .add (Xv 32) (Xn 1)),Wx 34 25 27 1] (some (Wn (.store (Xv 34) (Xv 33) 1)))),(Wz [] none)] [(K.of 25),(K.of 26),(K.of 27),(K.of 28),(K.of 29),(K.of 30),(K.of 31),(K.of 32),(K.of 33),(K.of 34)]) (.reg [Wm 35 4,Ws 36 (.ibin .add (Xv 35) (Xn 1)),Wm 4 36])) .skip)))) (.reg [Ws 37 (.ibin .add (Xv 17) (Xn 1)),Wm 17 37]))))
def p62_3:Aa:=(.seq (.reg [Wo 14 1 2,Wl 15 14,We 16 15,Ws 17 (.mv (Xn 0))]) (.block 0 (.loop b62_0)))
def p62_4:Aa:=(.reg [Wm 38 3,Wm 2 38])
def c62:Aa:=(.seq p62_0 (.seq p62_1 (.seq p62_2 (.seq p62_3 (.seq p62_4 .ret)))))
def r62:List RV:= [(.t (K.of 2))]
def p30_0:Aa:=(.reg [Ws 4 (.mv (Xn 0))])
def p30_1:Aa:=(.reg [Wm 7 0,Ws 8 (.call 98 [(Xv 7)]),Wm 5 8])
def p30_2:Aa:=(.reg [Wm 9 1,Ws 10 (.call 98 [(Xv 9)]),Wm 6 10])
def p30_3:Aa:=(.seq (.reg [Wm 11 5]) (.cond (Xv 11) (.seq (.seq (.reg [Wm 12 6]) (.cond (Xv 12) (.seq (.reg [Ws 4 (.mv (Xn 0))]) .ret) .skip)) (.seq (.reg [Ws 4 (.mv (.c (.int .i64 (.negSucc 0))))]) .ret)) .skip))
def p30_4:Aa:=(.seq (.reg [Wm 13 6]) (.cond (Xv 13) (.seq (.reg [Ws 4 (.mv (Xn 1))]) .ret) .skip))
def p30_5:Aa:=(.seq (.reg [Wm 14 0,Wm 15 1,Ws 16 (.ibin .lss (Xv 14) (Xv 15))]) (.cond (Xv 16) (.seq (.reg [Ws 4 (.mv (.c (.int .i64 (.negSucc 0))))]) .ret) .skip))
def p30_6:Aa:=(.seq (.reg [Wm 17 0,Wm 18 1,Ws 19 (.ibin .gtr (Xv 17) (Xv 18))]) (.cond (Xv 19) (.seq (.reg [Ws 4 (.mv (Xn 1))]) .ret) .skip))
def p30_7:Aa:=(.reg [Ws 4 (.mv (Xn 0))])
def c30:Aa:=(.seq p30_0 (.seq p30_1 (.seq p30_2 (.seq p30_3 (.seq p30_4 (.seq p30_5 (.seq p30_6 (.seq p30_7 .ret))))))))
def r30:List RV:= [(.t (K.of 4))]
def p63_0:Aa:=(.reg [Ws 2 (.mv (.c (.bool false)))])
def p63_1:Aa:=(.reg [Wm 3 0,Wm 4 0,Ws 5 (.ibin .neq (Xv 3) (Xv 4)),Wm 2 5])
def c63:Aa:=(.seq p63_0 (.seq p63_1 .ret))
def r63:List RV:= [(.t (K.of 2))]
def p67_0:Aa:=(.reg [Ws 2 (.mv (Xn 0))])
def p67_1:Aa:=(.reg [Ws 3 (.mv (Xn 0))])
def b67_0:Aa:=(.seq (.reg [Ws 9 (.ibin .lss (Xv 8) (Xv 7))]) (.seq (.cond (Xv 9) .skip (.exit 0)) (.seq (.block 1 (.seq (.reg [Wx 10 6 8 1,Wl 11 10,Wm 5 11]) (.seq (.reg [Wm 12 5,Wm 13 3,Ws 14 (.ibin .neq (Xv 12) (Xv 13))]) (.cond (Xv 14) (.seq (.reg [Wm 15 5,Wm 2 15]) .ret) .skip)))) (.reg [Ws 16 (.ibin .add (Xv 8) (Xn 1)),Wm 8 16]))))
def p67_2:Aa:=(.seq (.reg [Wm 6 0,We 7 6,Ws 8 (.mv (Xn 0))]) (.block 0 (.loop b67_0)))
def p67_3:Aa:=(.reg [Wm 17 3,Wm 2 17])
def c67:Aa:=(.seq p67_0 (.seq p67_1 (.seq p67_2 (.seq p67_3 .ret))))
def r67:List RV:= [(.t (K.of 2))]
def p68_0:Aa:=(.reg [Ws 2 (.box (Xv 0)),Ws 3 (.box (Xv 1)),Ws 4 (.mv (Xn 0))])
def p68_1:Aa:=(.seq (.reg [Wo 7 2 0,Wl 8 7,Wo 9 3 0,Wl 10 9,Ws 11 (.eqv true .bool (Xv 8) (Xv 10))]) (.cond (Xv 11) (.seq (.seq (.reg [Wo 12 2 0,Wl 13 12]) (.cond (Xv 13) (.seq (.reg [Ws 4 (.mv (.c (.int .i64 (.negSucc 0))))]) .ret) .skip)) (.seq (.reg [Ws 4 (.mv (Xn 1))]) .ret)) .skip))
def p68_2:Aa:=(.reg [Wo 14 2 1,Wl 15 14,We 16 15,Wo 17 3 1,Wl 18 17,We 19 18,Ws 20 (.call 134 [(Xv 16),(Xv 19)]),Wm 5 20])
def b68_0:Aa:=(.seq (.seq (.reg [Wm 25 5,Ws 26 (.ibin .eql (Xv 25) (Xn 0)),Wm 27 26,Wg 28 27 true (.mv (Xv 6)),Wg 29 27 true (.ibin .geq (Xv 28) (Xn 0)),Ws 30 (.pick (Xv 27) (Xv 29) (.c (.bool false)))]) (.cond (Xv 30) .skip (.exit 0))) (.seq (.block 1 (.draw [(Wz [Wo 33 2 1,Wl 34 33,Wm 35 6,Wx 36 34 35 1,Wl 37 36,Wo 38 3 1,Wl 39 38,Wm 40 6,Wx 41 39 40 1,Wl 42 41] (some (Ws 43 (.call 134 [(Xv 37),(Xv 42)])))),(Wz [Wm 5 43] none)] [(K.of 33),(K.of 34),(K.of 35),(K.of 36),(K.of 37),(K.of 38),(K.of 39),(K.of 40),(K.of 41),(K.of 42),(K.of 43),(K.of 5)])) (.reg [Wm 31 6,Ws 32 (.ibin .sub (Xv 31) (Xn 1)),Wm 6 32])))
def p68_3:Aa:=(.seq (.reg [Wo 21 2 1,Wl 22 21,We 23 22,Ws 24 (.ibin .sub (Xv 23) (Xn 1)),Wm 6 24]) (.block 0 (.loop b68_0)))
def p68_4:Aa:=(.seq (.reg [Wo 44 2 0,Wl 45 44]) (.cond (Xv 45) (.seq (.reg [Wm 46 5,Ws 47 (.neg (Xv 46)),Wm 4 47]) .ret) .skip))
def p68_5:Aa:=(.reg [Wm 48 5,Wm 4 48])
def c68:Aa:=(.seq p68_0 (.seq p68_1 (.seq p68_2 (.seq p68_3 (.seq p68_4 (.seq p68_5 .ret))))))
def r68:List RV:= [(.t (K.of 4))]
def p69_0:Aa:=(.reg [Ws 4 (.mv (Xn 0))])
def p69_1:Aa:=(.reg [Wm 7 0,Ws 8 (.call 203 [(Xv 7)]),Wm 5 8])
def p69_2:Aa:=(.reg [Wm 9 1,Ws 10 (.call 203 [(Xv 9)]),Wm 6 10])
def p69_3:Aa:=(.seq (.reg [Wm 11 5]) (.cond (Xv 11) (.seq (.seq (.reg [Wm 12 6]) (.cond (Xv 12) (.seq (.reg [Ws 4 (.mv (Xn 0))]) .ret) .skip)) (.seq (.reg [Ws 4 (.mv (.c (.int .i64 (.negSucc 0))))]) .ret)) .skip))
def p69_4:Aa:=(.seq (.reg [Wm 13 6]) (.cond (Xv 13) (.seq (.reg [Ws 4 (.mv (Xn 1))]) .ret) .skip))
def p69_5:Aa:=(.seq (.reg [Wm 14 0,Wm 15 1,Ws 16 (.sbin .lss (Xv 14) (Xv 15))]) (.cond (Xv 16) (.seq (.reg [Ws 4 (.mv (.c (.int .i64 (.negSucc 0))))]) .ret) .skip))
def p69_6:Aa:=(.seq (.reg [Wm 17 0,Wm 18 1,Ws 19 (.sbin .gtr (Xv 17) (Xv 18))]) (.cond (Xv 19) (.seq (.reg [Ws 4 (.mv (Xn 1))]) .ret) .skip))
def p69_7:Aa:=(.reg [Ws 4 (.mv (Xn 0))])
def c69:Aa:=(.seq p69_0 (.seq p69_1 (.seq p69_2 (.seq p69_3 (.seq p69_4 (.seq p69_5 (.seq p69_6 (.seq p69_7 .ret))))))))
def r69:List RV:= [(.t (K.of 4))]
def p117_0:Aa:=(.reg [Ws 2 (.mv (.c (.bool false)))])
def p117_1:Aa:=(.reg [Wm 3 0,Wm 4 0,Ws 5 (.sbin .neq (Xv 3) (Xv 4)),Wm 2 5])
def c117:Aa:=(.seq p117_0 (.seq p117_1 .ret))
def r117:List RV:= [(.t (K.of 2))]
def p70_0:Aa:=(.reg [Ws 6 (.mv (Xn 0))])
def p70_1:Aa:=(.seq (.reg [Wm 10 0,We 11 10,Wm 12 1,We 13 12,Ws 14 (.call 134 [(Xv 11),(Xv 13)]),Wm 7 14]) (.seq (.reg [Wm 15 7,Ws 16 (.ibin .neq (Xv 15) (Xn 0))]) (.cond (Xv 16) (.seq (.reg [Wm 17 7,Wm 6 17]) .ret) .skip)))
def b70_0:Aa:=(.seq (.reg [Ws 21 (.ibin .lss (Xv 20) (Xv 19))]) (.seq (.cond (Xv 21) .skip (.exit 0)) (.seq (.block 1 (.seq (.reg [Wm 22 20,Wm 8 22]) (.seq (.draw [(Wz [Wm 23 2,Wm 24 0,Wm 25 8,Wx 26 24 25 7,Wd 27 26 7,Wm 28 1,Wm 29 8,Wx 30 28 29 7,Wd 31 30 7] (some (Ws 32 (.callv (Xv 23) [(Xv 27),(Xv 31)])))),(Wz [Wm 9 32] none)] [(K.of 23),(K.of 24),(K.of 25),(K.of 26),(K.of 27),(K.of 28),(K.of 29),(K.of 30),(K.of 31),(K.of 32),(K.of 9)]) (.seq (.reg [Wm 33 9,Ws 34 (.ibin .neq (Xv 33) (Xn 0))]) (.cond (Xv 34) (.seq (.reg [Wm 35 9,Wm 6 35]) .ret) .skip))))) (.reg [Ws 36 (.ibin .add (Xv 20) (Xn 1)),Wm 20 36]))))
def p70_2:Aa:=(.seq (.reg [Wm 18 0,We 19 18,Ws 20 (.mv (Xn 0))]) (.block 0 (.loop b70_0)))
def p70_3:Aa:=(.reg [Ws 6 (.mv (Xn 0))])
def c70:Aa:=(.seq p70_0 (.seq p70_1 (.seq p70_2 (.seq p70_3 .ret))))
def r70:List RV:= [(.t (K.of 6))]
def p34_0:Aa:=(.reg [Ws 2 (.box (Xv 0)),Ws 3 (.box (Xv 1)),Ws 4 (.mv (Xn 0))])
def p34_1:Aa:=(.seq (.draw [(Wz [Wo 8 2 0,Wl 9 8,Wo 10 3 0,Wl 11 10,Wo 13 2 1,Wl 14 13,Wo 15 3 1,Wl 16 15] (some (Ws 12 (.call 134 [(Xv 9),(Xv 11)])))),⟨[],[Wo 13 2 1,Wl 14 13,Wo 15 3 1,Wl 16 15],some (Ws 17 (.call 134 [(Xv 14),(Xv 16)]))⟩,(Wz [Ws 18 (.mkSl [(.int .i64 (.ofNat 0)),(.int .i64 (.ofNat 0))] [(0,1,(Xv 12)),(1,1,(Xv 17))] 2)] (some (Ws 19 (.call 133 [(Xv 18)])))),(Wz [Wm 5 19] none)] [(K.of 8),(K.of 9),(K.of 10),(K.of 11),(K.of 12),(K.of 13),(K.of 14),(K.of 15),(K.of 16),(K.of 17),(K.of 18),(K.of 19),(K.of 5)]) (.seq (.reg [Wm 20 5,Ws 21 (.ibin .neq (Xv 20) (Xn 0))]) (.cond (Xv 21) (.seq (.reg [Wm 22 5,Wm 4 22]) .ret) .skip)))
def p34_2:Aa:=(.seq (.draw [(Wz [Wo 23 2 2,Wd 24 23 2,Wo 25 3 2,Wd 26 25 2,Wo 28 2 4,Wl 29 28,Wo 30 3 4,Wl 31 30] (some (Ws 27 (.call 145 [(Xv 24),(Xv 26)])))),⟨[],[Wo 28 2 4,Wl 29 28,Wo 30 3 4,Wl 31 30],some (Ws 32 (.call 146 [(Xv 29),(Xv 31)]))⟩,(Wz [Ws 33 (.mkSl [(.int .i64 (.ofNat 0)),(.int .i64 (.ofNat 0))] [(0,1,(Xv 27)),(1,1,(Xv 32))] 2)] (some (Ws 34 (.call 133 [(Xv 33)])))),(Wz [Wm 6 34] none)] [(K.of 23),(K.of 24),(K.of 25),(K.of 26),(K.of 27),(K.of 28),(K.of 29),(K.of 30),(K.of 31),(K.of 32),(K.of 33),(K.of 34),(K.of 6)]) (.seq (.reg [Wm 35 6,Ws 36 (.ibin .neq (Xv 35) (Xn 0))]) (.cond (Xv 36) (.seq (.reg [Wm 37 6,Wm 4 37]) .ret) .skip)))
def p34_3:Aa:=(.seq (.reg [Wo 38 2 5,Wl 39 38,Wo 40 3 5,Wl 41 40,Ws 42 (.call 147 [(Xv 39),(Xv 41),(.c (.fn 94 [] []))]),Wm 7 42]) (.seq (.reg [Wm 43 7,Ws 44 (.ibin .neq (Xv 43) (Xn 0))]) (.cond (Xv 44) (.seq (.reg [Wm 45 7,Wm 4 45]) .ret) .skip)))
def p34_4:Aa:=(.reg [Wo 46 2 6,Wl 47 46,Wo 48 3 6,Wl 49 48,Ws 50 (.call 147 [(Xv 47),(Xv 49),(.c (.fn 94 [] []))]),Wm 4 50])
def c34:Aa:=(.seq p34_0 (.seq p34_1 (.seq p34_2 (.seq p34_3 (.seq p34_4 .ret)))))
def r34:List RV:= [(.t (K.of 4))]
def p99_0:Aa:=(.reg [Ws 4 (.mv (.c (.bool false)))])
def p99_1:Aa:=(.reg [Wm 5 0,Wm 6 1,Ws 7 (.call 129 [(Xv 5),(Xv 6)]),Ws 8 (.ibin .geq (Xv 7) (Xn 0)),Wm 4 8])
def c99:Aa:=(.seq p99_0 (.seq p99_1 .ret))
def r99:List RV:= [(.t (K.of 4))]
def p159_0:Aa:=(.reg [Ws 4 (.mv (Xn 0))])
def HJ:Aa:=(.seq (.reg [Ws 9 (.ibin .lss (Xv 8) (Xv 7))]) (.seq (.cond (Xv 9) .skip (.exit 0)) (.seq (.block 1 (.seq (.reg [Wm 10 8,Wm 5 10]) (.seq (.reg [Wm 11 1,Wm 12 0,Wm 13 5,Wx 14 12 13 7,Wd 15 14 7,Ws 16 (.callv (Xv 11) [(Xv 15)])]) (.cond (Xv 16) (.seq (.reg [Wm 17 5,Wm 4 17]) .ret) .skip)))) (.reg [Ws 18 (.ibin .add (Xv 8) (Xn 1)),Wm 8 18]))))
def p159_1:Aa:=(.seq (.reg [Wm 6 0,We 7 6,Ws 8 (.mv (Xn 0))]) (.block 0 (.loop HJ)))
def p159_2:Aa:=(.reg [Ws 4 (.mv (.c (.int .i64 (.negSucc 0))))])
def c159:Aa:=(.seq p159_0 (.seq p159_1 (.seq p159_2 .ret)))
def r159:List RV:= [(.t (K.of 4))]
def p100_0:Aa:=(.reg [Ws 1 (.box (Xv 0)),Ws 2 (.mv (.c (.bool false)))])
def p100_1:Aa:=(.reg [Wd 3 1 7,Ws 4 (.call 88 [(Xv 3)]),Ws 5 (.ibin .neq (Xv 4) (Xn 0)),Wm 2 5])
def c100:Aa:=(.seq p100_0 (.seq p100_1 .ret))
def r100:List RV:= [(.t (K.of 2))]
def p101_0:Aa:=(.reg [Ws 1 (.box (Xv 0)),Ws 2 (.mv (Xn 0))])
def p101_1:Aa:=(.seq (.reg [Wd 3 1 7,Ws 4 (.call 130 [(Xv 3)]),Ws 5 (.not (Xv 4))]) (.cond (Xv 5) (.seq (.reg [Ws 2 (.mv (Xn 4))]) .ret) .skip))
def p101_2:Aa:=(.reg [Ws 2 (.mv (Xn 0))])
def c101:Aa:=(.seq p101_0 (.seq p101_1 (.seq p101_2 .ret)))
def r101:List RV:= [(.t (K.of 2))]
def p160_0:Aa:=(.reg [Ws 1 (.box (Xv 0)),Ws 2 (.alloc [(.bool false)])])
def p160_1:Aa:=(.seq (.reg [Wd 4 1 7,Ws 5 (.call 192 [(Xv 4)]),Ws 6 (.not (Xv 5))]) (.cond (Xv 6) (.seq (.reg [Wn (.store (Xv 2) (.c (.bool false)) 1)]) .ret) .skip))
def p160_2:Aa:=(.seq (.reg [Wd 7 1 7,Ws 8 (.call 193 [(Xv 7)])]) (.block 0 (.range (Xv 8) [(K.of 9),(K.of 10)] (.reg [Ws 3 (.alloc [(.int .i64 (.ofNat 0)),(.int .i64 (.ofNat 0)),(.bool false),.nils,(.str []),.nils,.nils]),Wn (.store (Xv 3) (Xv 9) 7)]) (.block 1 (.seq (.reg [Wd 11 3 7,Ws 12 (.call 194 [(Xv 11)]),Ws 13 (.not (Xv 12))]) (.cond (Xv 13) (.seq (.reg [Wn (.store (Xv 2) (.c (.bool false)) 1)]) .ret) .skip))))))
def p160_3:Aa:=(.reg [Wn (.store (Xv 2) (.c (.bool true)) 1)])
def c160:Aa:=(.seq p160_0 (.seq p160_1 (.seq p160_2 (.seq p160_3 .ret))))
def r160:List RV:= [(.cell1 (K.of 2))]
def p276_0:Aa:=(.reg [Ws 1 (.box (Xv 0)),Ws 2 (.mv (.c (.bool false)))])
def p276_1:Aa:=(.reg [Wd 6 1 7,Ws 7 (.call 294 [(Xv 6),(Xn 8000),(Xn 50)]),Wm 5 7,Ws 8 (.ext (Xv 5) 0),Ws 9 (.ext (Xv 5) 1),Wm 3 8,Wm 4 9])
def p276_2:Aa:=(.reg [Wm 10 3,Ws 11 (.ibin .leq (Xv 10) (Xn 8000)),Wm 12 11,Wg 13 12 true (.mv (Xv 4)),Wg 14 12 true (.ibin .leq (Xv 13) (Xn 50)),Ws 15 (.pick (Xv 12) (Xv 14) (.c (.bool false))),Wm 2 15])
def c276:Aa:=(.seq p276_0 (.seq p276_1 (.seq p276_2 .ret)))
def r276:List RV:= [(.t (K.of 2))]
def p424_0:Aa:=(.reg [Ws 3 (.box (Xv 0)),Ws 4 (.box (Xv 1)),Ws 5 (.box (Xv 2)),Ws 6 (.mv (Xn 0)),Ws 7 (.mv (Xn 0))])
def p424_1:Aa:=(.reg [Ws 8 (.alloc [(.int .i64 (.ofNat 0))]),Ws 9 (.alloc [(.int .i64 (.ofNat 0))]),Wn (.store (Xv 8) (Xn 0) 1),Wn (.store (Xv 9) (Xn 0) 1)])
def p424_2:Aa:=(.seq (.reg [Wd 12 3 7,Ws 13 (.call 193 [(Xv 12)])]) (.block 0 (.range (Xv 13) [(K.of 14),(K.of 15)] (.reg [Wm 11 15]) (.block 1 (.seq (.reg [Wl 16 8,Ws 17 (.ibin .add (Xv 16) (Xn 1)),Wn (.store (Xv 8) (Xv 17) 1)]) (.seq (.reg [Wl 18 9,Wm 19 11,Ws 20 (.mxn true (Xv 18) [(Xv 19)]),Wn (.store (Xv 9) (Xv 20) 1)]) (.seq (.reg [Wl 21 8,Wl 22 4,Ws 23 (.ibin .gtr (Xv 21) (Xv 22)),Wm 24 23,Wg 25 24 false (.mv (Xv 11)),Wg 26 24 false (.load1 (Xv 5)),Wg 27 24 false (.ibin .gtr (Xv 25) (Xv 26)),Ws 28 (.pick (Xv 24) (.c (.bool true)) (Xv 27))]) (.cond (Xv 28) (.exit 0) .skip))))))))
def p424_3:Aa:=(.draw [(Wz [Wl 29 8,Wl 30 9,Wm 6 29,Wm 7 30] none)] [(K.of 29),(K.of 30),(K.of 6),(K.of 7)])
def c424:Aa:=(.seq p424_0 (.seq p424_1 (.seq p424_2 (.seq p424_3 .ret))))
def r424:List RV:= [(.t (K.of 6)),(.t (K.of 7))]
def p277_0:Aa:=(.reg [Ws 1 (.box (Xv 0)),Ws 2 (.mv (.c .nilf))])
def p277_1:Aa:=(.reg [Ws 3 (.mkf 295 [] [(Xv 1)]),Wm 2 3])
def c277:Aa:=(.seq p277_0 (.seq p277_1 .ret))
def r277:List RV:= [(.t (K.of 2))]
def p425_0:Aa:=(.reg [Ws 2 (.box (Xv 0))])
def p425_1:Aa:=(.reg [Ws 3 (.alloc [.nilf])])
def p425_2:Aa:=(.reg [Ws 4 (.mkf 296 [] [(Xv 2),(Xv 3)]),Wn (.store (Xv 3) (Xv 4) 1)])
def c425:Aa:=(.seq p425_0 (.seq p425_1 (.seq p425_2 (.reg [Wl 5 3,Wd 6 1 7,Ws 7 (.callv (Xv 5) [(Xv 6),(Xn 1)])]))))
def r425:List RV:= []
def p426_0:Aa:=(.reg [Ws 4 (.box (Xv 0)),Ws 6 (.mv (.c (.bool false)))])
def p426_1:Aa:=(.seq (.reg [Wl 11 2,Wd 12 4 7,Wm 13 1,Ws 14 (.callv (Xv 11) [(Xv 12),(Xv 13)]),Ws 15 (.not (Xv 14))]) (.cond (Xv 15) (.seq (.reg [Ws 6 (.mv (.c (.bool false)))]) .ret) .skip))
def b426_0:Aa:=(.seq (.reg [Ws 29 (.ibin .lss (Xv 28) (Xv 27))]) (.seq (.cond (Xv 29) .skip (.exit 2)) (.seq (.block 3 (.seq (.reg [Wx 30 26 28 7,Wd 31 30 7,Ws 10 (.alloc [(.int .i64 (.ofNat 0)),(.int .i64 (.ofNat 0)),(.bool false),.nils,(.str []),.nils,.nils]),Wn (.store (Xv 10) (Xv 31) 7)]) (.seq (.reg [Wl 32 3,Wd 33 10 7,Wm 34 1,Ws 35 (.ibin .add (Xv 34) (Xn 1)),Ws 36 (.callv (Xv 32) [(Xv 33),(Xv 35)]),Ws 37 (.not (Xv 36))]) (.cond (Xv 37) (.seq (.reg [Ws 6 (.mv (.c (.bool false)))]) .ret) .skip)))) (.reg [Ws 38 (.ibin .add (Xv 28) (Xn 1)),Wm 28 38]))))
def b426_1:Aa:=(.seq (.reg [Ws 23 (.ibin .lss (Xv 22) (Xv 21))]) (.seq (.cond (Xv 23) .skip (.exit 0)) (.seq (.block 1 (.seq (.reg [Wx 24 20 22 1,Wl 25 24,Wm 8 25]) (.seq (.reg [Wm 26 8,We 27 26,Ws 28 (.mv (Xn 0))]) (.block 2 (.loop b426_0))))) (.reg [Ws 39 (.ibin .add (Xv 22) (Xn 1)),Wm 22 39]))))
def p426_2:Aa:=(.seq (.reg [Wo 16 4 5,Wl 17 16,Wo 18 4 6,Wl 19 18,Ws 20 (.mkSl [.nils,.nils] [(0,1,(Xv 17)),(1,1,(Xv 19))] 2),We 21 20,Ws 22 (.mv (Xn 0))]) (.block 0 (.loop b426_1)))
def p426_3:Aa:=(.reg [Ws 6 (.mv (.c (.bool true)))])
def c426:Aa:=(.seq p426_0 (.seq p426_1 (.seq p426_2 (.seq p426_3 .ret))))
def r426:List RV:= [(.t (K.of 6))]
def p278_0:Aa:=(.reg [Ws 1 (.box (Xv 0)),Ws 2 (.mv (.c (.bool false)))])
def p278_1:Aa:=(.reg [Wo 4 1 2,Wo 5 4 0,Wl 6 5,Wm 7 6,Wg 8 7 false (.addOff (Xv 1) 2),Wg 9 7 false (.addOff (Xv 8) 1),Wg 10 7 false (.load1 (Xv 9)),Wg 11 7 false (.len .sl (Xv 10)),Wg 12 7 false (.ibin .gtr (Xv 11) (Xn 0)),Ws 13 (.pick (Xv 7) (.c (.bool true)) (Xv 12)),Wm 3 13])
def p278_2:Aa:=(.seq (.reg [Wo 14 1 0,Wl 15 14]) (.block 0 (.seq (.reg [Ws 17 (.ibin .eql (Xv 15) (Xn 1)),Wm 16 17]) (.cond (Xv 16) (.seq (.reg [Wo 18 1 1,Wl 19 18,Ws 20 (.ibin .eql (Xv 19) (Xn 0)),Wm 21 20,Wg 22 21 false (.addOff (Xv 1) 1),Wg 23 21 false (.load1 (Xv 22)),Wg 24 21 false (.ibin .eql (Xv 23) (Xn 1)),Ws 25 (.pick (Xv 21) (.c (.bool true)) (Xv 24)),Wm 26 25,Wg 27 26 true (.mv (Xv 3)),Wg 28 26 true (.not (Xv 27)),Ws 29 (.pick (Xv 26) (Xv 28) (.c (.bool false))),Wm 30 29,Wg 31 30 true (.addOff (Xv 1) 4),Wg 32 30 true (.load1 (Xv 31)),Wg 33 30 true (.sbin .eql (Xv 32) (.c (.str []))),Ws 34 (.pick (Xv 30) (Xv 33) (.c (.bool false))),Wm 35 34,Wg 36 35 true (.addOff (Xv 1) 5),Wg 37 35 true (.load1 (Xv 36)),Wg 38 35 true (.len .sl (Xv 37)),Wg 39 35 true (.addOff (Xv 1) 6),Wg 40 35 true (.load1 (Xv 39)),Wg 41 35 true (.len .sl (Xv 40)),Wg 42 35 true (.ibin .add (Xv 38) (Xv 41)),Wg 43 35 true (.ibin .eql (Xv 42) (Xn 0)),Ws 44 (.pick (Xv 35) (Xv 43) (.c (.bool false))),Wm 2 44]) .ret) (.seq (.reg [Ws 46 (.ibin .eql (Xv 15) (Xn 2)),Wm 45 46]) (.cond (Xv 45) (.seq (.reg [Wo 47 1 2,Wd 48 47 2,Ws 49 (.call 297 [(Xv 48)]),Ws 50 (.ibin .eql (Xv 49) (Xn 0)),Wm 51 50,Wg 52 51 true (.addOff (Xv 1) 1),Wg 53 51 true (.load1 (Xv 52)),Wg 54 51 true (.ibin .eql (Xv 53) (Xn 0)),Ws 55 (.pick (Xv 51) (Xv 54) (.c (.bool false))),Wm 56 55,Wg 57 56 true (.addOff (Xv 1) 4),Wg 58 56 true (.load1 (Xv 57)),Wg 59 56 true (.sbin .eql (Xv 58) (.c (.str []))),Ws 60 (.pick (Xv 56) (Xv 59) (.c (.bool false))),Wm 61 60,Wg 62 61 true (.addOff (Xv 1) 5),Wg 63 61 true (.load1 (Xv 62)),Wg 64 61 true (.len .sl (Xv 63)),Wg 65 61 true (.addOff (Xv 1) 6),Wg 66 61 true (.load1 (Xv 65)),Wg 67 61 true (.len .sl (Xv 66)),Wg 68 61 true (.ibin .add (Xv 64) (Xv 67)),Wg 69 61 true (.ibin .eql (Xv 68) (Xn 0)),Ws 70 (.pick (Xv 61) (Xv 69) (.c (.bool false))),Wm 2 70]) .ret) (.seq (.seq (.reg [Ws 72 (.ibin .eql (Xv 15) (Xn 3)),Wm 71 72]) (.cond (Xv 71) .skip (.reg [Ws 73 (.ibin .eql (Xv 15) (Xn 4)),Wm 71 73]))) (.cond (Xv 71) (.seq (.seq (.reg [Wo 74 1 1,Wl 75 74,Ws 76 (.ibin .neq (Xv 75) (Xn 0)),Wm 77 76,Wg 78 77 false (.mv (Xv 3)),Ws 79 (.pick (Xv 77) (.c (.bool true)) (Xv 78)),Wm 80 79,Wg 81 80 false (.addOff (Xv 1) 5),Wg 82 80 false (.load1 (Xv 81)),Wg 83 80 false (.len .sl (Xv 82)),Wg 84 80 false (.addOff (Xv 1) 6),Wg 85 80 false (.load1 (Xv 84)),Wg 86 80 false (.len .sl (Xv 85)),Wg 87 80 false (.ibin .add (Xv 83) (Xv 86)),Wg 88 80 false (.ibin .gtr (Xv 87) (Xn 0)),Ws 89 (.pick (Xv 80) (.c (.bool true)) (Xv 88))]) (.cond (Xv 89) (.seq (.reg [Ws 2 (.mv (.c (.bool false)))]) .ret) .skip)) (.seq (.seq (.reg [Wo 90 1 0,Wl 91 90,Ws 92 (.ibin .eql (Xv 91) (Xn 3))]) (.cond (Xv 92) (.seq (.reg [Wo 93 1 4,Wl 94 93,Ws 95 (.call 298 [(Xv 94)]),Wm 2 95]) .ret) .skip)) (.seq (.reg [Wo 96 1 4,Wl 97 96,Ws 98 (.call 299 [(Xv 97)]),Wm 2 98]) .ret))) (.seq (.seq (.reg [Ws 100 (.ibin .eql (Xv 15) (Xn 5)),Wm 99 100]) (.cond (Xv 99) .skip (.reg [Ws 101 (.ibin .eql (Xv 15) (Xn 6)),Wm 99 101]))) (.cond (Xv 99) (.seq (.seq (.reg [Wo 102 1 1,Wl 103 102,Ws 104 (.ibin .neq (Xv 103) (Xn 0)),Wm 105 104,Wg 106 105 false (.mv (Xv 3)),Ws 107 (.pick (Xv 105) (.c (.bool true)) (Xv 106)),Wm 108 107,Wg 109 108 false (.addOff (Xv 1) 4),Wg 110 108 false (.load1 (Xv 109)),Wg 111 108 false (.sbin .neq (Xv 110) (.c (.str []))),Ws 112 (.pick (Xv 108) (.c (.bool true)) (Xv 111)),Wm 113 112,Wg 114 113 false (.addOff (Xv 1) 5),Wg 115 113 false (.load1 (Xv 114)),Wg 116 113 false (.call 300 [(Xv 115)]),Wg 117 113 false (.not (Xv 116)),Ws 118 (.pick (Xv 113) (.c (.bool true)) (Xv 117))]) (.cond (Xv 118) (.seq (.reg [Ws 2 (.mv (.c (.bool false)))]) .ret) .skip)) (.seq (.seq (.reg [Wo 119 1 0,Wl 120 119,Ws 121 (.ibin .eql (Xv 120) (Xn 5))]) (.cond (Xv 121) (.seq (.reg [Wo 122 1 6,Wl 123 122,We 124 123,Ws 125 (.ibin .eql (Xv 124) (Xn 0)),Wm 2 125]) .ret) .skip)) (.seq (.reg [Wo 126 1 6,Wl 127 126,We 128 127,Wo 129 1 5,Wl 130 129,We 131 130,Ws 132 (.ibin .eql (Xv 128) (Xv 131)),Wm 2 132]) .ret))) .skip))))))))))
def p278_3:Aa:=(.reg [Ws 2 (.mv (.c (.bool false)))])
def c278:Aa:=(.seq p278_0 (.seq p278_1 (.seq p278_2 (.seq p278_3 .ret))))
def r278:List RV:= [(.t (K.of 2))]
def p427_0:Aa:=(.reg [Ws 1 (.box (Xv 0)),Ws 2 (.mv (Xn 0))])
def p427_1:Aa:=(.reg [Wo 4 1 1,Wl 5 4,We 6 5,Wm 3 6])
def p427_2:Aa:=(.seq (.reg [Wm 7 3,Ws 8 (.ibin .gtr (Xv 7) (Xn 40)),Wm 9 8,Wg 10 9 false (.mv (Xv 3)),Wg 11 9 false (.ibin .eql (Xv 10) (Xn 0)),Wg 12 9 false (.mv (Xv 11)),Wg 13 12 true (.addOff (Xv 1) 0),Wg 14 12 true (.load1 (Xv 13)),Wg 15 9 false (.pick (Xv 12) (Xv 14) (.c (.bool false))),Ws 16 (.pick (Xv 9) (.c (.bool true)) (Xv 15)),Wm 17 16,Wg 18 17 false (.mv (Xv 3)),Wg 19 17 false (.ibin .gtr (Xv 18) (Xn 0)),Wg 20 17 false (.mv (Xv 19)),Wg 21 20 true (.addOff (Xv 1) 1),Wg 22 20 true (.load1 (Xv 21)),Wg 23 20 true (.mv (Xv 3)),Wg 24 20 true (.ibin .sub (Xv 23) (Xn 1)),Wg 25 20 true (.idx (Xv 22) (Xv 24) 1),Wg 26 20 true (.load1 (Xv 25)),Wg 27 20 true (.ibin .eql (Xv 26) (Xn 0)),Wg 28 17 false (.pick (Xv 20) (Xv 27) (.c (.bool false))),Ws 29 (.pick (Xv 17) (.c (.bool true)) (Xv 28))]) (.cond (Xv 29) (.seq (.reg [Ws 2 (.mv (Xn 10))]) .ret) .skip))
def p427_3:Aa:=(.seq (.reg [Wo 30 1 1,Wl 31 30,Ws 32 (.call 26 [(Xv 31),(.c (.fn 422 [] []))])]) (.cond (Xv 32) (.seq (.reg [Ws 2 (.mv (Xn 10))]) .ret) .skip))
def p427_4:Aa:=(.reg [Ws 2 (.mv (Xn 0))])
def c427:Aa:=(.seq p427_0 (.seq p427_1 (.seq p427_2 (.seq p427_3 (.seq p427_4 .ret)))))
def r427:List RV:= [(.t (K.of 2))]
def p567_0:Aa:=(.reg [Ws 2 (.mv (.c (.bool false)))])
def p567_1:Aa:=(.reg [Wm 3 0,Ws 4 (.ibin .lss (Xv 3) (Xn 0)),Wm 5 4,Wg 6 5 false (.mv (Xv 0)),Wg 7 5 false (.ibin .geq (Xv 6) (Xn 1000000000)),Ws 8 (.pick (Xv 5) (.c (.bool true)) (Xv 7)),Wm 2 8])
def c567:Aa:=(.seq p567_0 (.seq p567_1 .ret))
def r567:List RV:= [(.t (K.of 2))]
def p313_0:Aa:=(.reg [Ws 4 (.mv (.c (.bool false)))])
def p313_1:Aa:=(.reg [Wm 5 0,Wm 6 1,Ws 7 (.call 64 [(Xv 5),(Xv 6)]),Ws 8 (.ibin .geq (Xv 7) (Xn 0)),Wm 4 8])
def c313:Aa:=(.seq p313_0 (.seq p313_1 .ret))
def r313:List RV:= [(.t (K.of 4))]
def p453_0:Aa:=(.reg [Ws 4 (.mv (Xn 0))])
def HI:Aa:=(.seq (.reg [Ws 9 (.ibin .lss (Xv 8) (Xv 7))]) (.seq (.cond (Xv 9) .skip (.exit 0)) (.seq (.block 1 (.seq (.reg [Wm 10 8,Wm 5 10]) (.seq (.reg [Wm 11 1,Wm 12 0,Wm 13 5,Wx 14 12 13 1,Wl 15 14,Ws 16 (.callv (Xv 11) [(Xv 15)])]) (.cond (Xv 16) (.seq (.reg [Wm 17 5,Wm 4 17]) .ret) .skip)))) (.reg [Ws 18 (.ibin .add (Xv 8) (Xn 1)),Wm 8 18]))))
def p453_1:Aa:=(.seq (.reg [Wm 6 0,We 7 6,Ws 8 (.mv (Xn 0))]) (.block 0 (.loop HI)))
def p453_2:Aa:=(.reg [Ws 4 (.mv (.c (.int .i64 (.negSucc 0))))])
def c453:Aa:=(.seq p453_0 (.seq p453_1 (.seq p453_2 .ret)))
def r453:List RV:= [(.t (K.of 4))]
def p428_0:Aa:=(.reg [Ws 2 (.mv (.c (.bool false)))])
def b428_0:Aa:=(.seq (.reg [Ws 7 (.ibin .lss (Xv 6) (Xv 5))]) (.seq (.cond (Xv 7) .skip (.exit 0)) (.seq (.block 1 (.seq (.reg [Wm 8 6,Wm 3 8]) (.seq (.reg [Wm 9 0,Wm 10 3,Ws 11 (.idxS (Xv 9) (Xv 10)),Ws 12 (.ibin .lss (Xv 11) (.c (.int .u8 (.ofNat 32)))),Wm 13 12,Wg 14 13 false (.mv (Xv 0)),Wg 15 13 false (.mv (Xv 3)),Wg 16 13 false (.idxS (Xv 14) (Xv 15)),Wg 17 13 false (.ibin .gtr (Xv 16) (.c (.int .u8 (.ofNat 126)))),Ws 18 (.pick (Xv 13) (.c (.bool true)) (Xv 17))]) (.cond (Xv 18) (.seq (.reg [Ws 2 (.mv (.c (.bool false)))]) .ret) .skip)))) (.reg [Ws 19 (.ibin .add (Xv 6) (Xn 1)),Wm 6 19]))))
def p428_1:Aa:=(.seq (.reg [Wm 4 0,Ws 5 (.len .str (Xv 4)),Ws 6 (.mv (Xn 0))]) (.block 0 (.loop b428_0)))
def p428_2:Aa:=(.reg [Wm 20 0,Ws 21 (.len .str (Xv 20)),Ws 22 (.ibin .leq (Xv 21) (Xn 200)),Wm 2 22])
def c428:Aa:=(.seq p428_0 (.seq p428_1 (.seq p428_2 .ret)))
def r428:List RV:= [(.t (K.of 2))]
def p429_0:Aa:=(.reg [Ws 2 (.mv (.c (.bool false)))])
def p429_1:Aa:=(.seq (.reg [Wm 4 0,Ws 5 (.sbin .eql (Xv 4) (.c (.str []))),Wm 6 5,Wg 7 6 false (.mv (Xv 0)),Wg 8 6 false (.len .str (Xv 7)),Wg 9 6 false (.ibin .gtr (Xv 8) (Xn 40)),Ws 10 (.pick (Xv 6) (.c (.bool true)) (Xv 9)),Wm 11 10,Wg 12 11 false (.mv (Xv 0)),Wg 13 11 false (.idxS (Xv 12) (Xn 0)),Wg 14 11 false (.call 423 [(Xv 13)]),Wg 15 11 false (.not (Xv 14)),Ws 16 (.pick (Xv 11) (.c (.bool true)) (Xv 15)),Wm 17 16,Wg 18 17 false (.mv (Xv 0)),Wg 19 17 false (.sbin .eql (Xv 18) (.c (.str [84,82,85,69]))),Ws 20 (.pick (Xv 17) (.c (.bool true)) (Xv 19)),Wm 21 20,Wg 22 21 false (.mv (Xv 0)),Wg 23 21 false (.sbin .eql (Xv 22) (.c (.str [70,65,76,83,69]))),Ws 24 (.pick (Xv 21) (.c (.bool true)) (Xv 23))]) (.cond (Xv 24) (.seq (.reg [Ws 2 (.mv (.c (.bool false)))]) .ret) .skip))
def b429_0:Aa:=(.seq (.reg [Ws 28 (.ibin .lss (Xv 27) (Xv 26))]) (.seq (.cond (Xv 28) .skip (.exit 0)) (.seq (.block 1 (.seq (.reg [Wm 29 27,Wm 3 29]) (.seq (.reg [Wm 30 0,Wm 31 3,Ws 32 (.idxS (Xv 30) (Xv 31)),Ws 33 (.call 424 [(Xv 32)]),Ws 34 (.not (Xv 33))]) (.cond (Xv 34) (.seq (.reg [Ws 2 (.mv (.c (.bool false)))]) .ret) .skip)))) (.reg [Ws 35 (.ibin .add (Xv 27) (Xn 1)),Wm 27 35]))))
def p429_2:Aa:=(.seq (.reg [Wm 25 0,Ws 26 (.len .str (Xv 25)),Ws 27 (.mv (Xn 0))]) (.block 0 (.loop b429_0)))
def p429_3:Aa:=(.reg [Ws 2 (.mv (.c (.bool true)))])
def c429:Aa:=(.seq p429_0 (.seq p429_1 (.seq p429_2 (.seq p429_3 .ret))))
def r429:List RV:= [(.t (K.of 2))]
def p430_0:Aa:=(.reg [Ws 2 (.mv (.c (.bool false)))])
def b430_0:Aa:=(.seq (.seq (.reg [Wm 4 3,Wm 5 0,We 6 5,Ws 7 (.ibin .lss (Xv 4) (Xv 6))]) (.cond (Xv 7) .skip (.exit 0))) (.seq (.block 1 (.seq (.draw [(Wz [Wm 10 0,Wm 11 3,Ws 12 (.ibin .sub (Xv 11) (Xn 1)),Wx 13 10 12 7,Wd 14 13 7,Wm 15 0,Wm 16 3,Wx 17 15 16 7,Wd 18 17 7] (some (Ws 19 (.call 94 [(Xv 14),(Xv 18)])))),(Wz [Ws 20 (.ibin .geq (Xv 19) (Xn 0))] none)] [(K.of 10),(K.of 11),(K.of 12),(K.of 13),(K.of 14),(K.of 15),(K.of 16),(K.of 17),(K.of 18),(K.of 19),(K.of 20)]) (.cond (Xv 20) (.seq (.reg [Ws 2 (.mv (.c (.bool false)))]) .ret) .skip))) (.reg [Wm 8 3,Ws 9 (.ibin .add (Xv 8) (Xn 1)),Wm 3 9])))
def p430_1:Aa:=(.seq (.reg [Ws 3 (.mv (Xn 1))]) (.block 0 (.loop b430_0)))
def p430_2:Aa:=(.reg [Wm 21 0,We 22 21,Ws 23 (.ibin .leq (Xv 22) (Xn 4000)),Wm 2 23])
def c430:Aa:=(.seq p430_0 (.seq p430_1 (.seq p430_2 .ret)))
def r430:List RV:= [(.t (K.of 2))]
def p568_0:Aa:=(.reg [Ws 2 (.mv (.c (.bool false)))])
def p568_1:Aa:=(.reg [Wm 3 0,Ws 4 (.ibin .leq (.c (.int .u8 (.ofNat 97))) (Xv 3)),Wm 5 4,Wg 6 5 true (.mv (Xv 0)),Wg 7 5 true (.ibin .leq (Xv 6) (.c (.int .u8 (.ofNat 122)))),Ws 8 (.pick (Xv 5) (Xv 7) (.c (.bool false))),Wm 9 8,Wg 10 9 false (.mv (Xv 0)),Wg 11 9 false (.ibin .leq (.c (.int .u8 (.ofNat 65))) (Xv 10)),Wg 12 9 false (.mv (Xv 11)),Wg 13 12 true (.mv (Xv 0)),Wg 14 12 true (.ibin .leq (Xv 13) (.c (.int .u8 (.ofNat 90)))),Wg 15 9 false (.pick (Xv 12) (Xv 14) (.c (.bool false))),Ws 16 (.pick (Xv 9) (.c (.bool true)) (Xv 15)),Wm 2 16])
def c568:Aa:=(.seq p568_0 (.seq p568_1 .ret))
def r568:List RV:= [(.t (K.of 2))]
def p569_0:Aa:=(.reg [Ws 2 (.mv (.c (.bool false)))])
def p569_1:Aa:=(.reg [Wm 3 0,Ws 4 (.call 423 [(Xv 3)]),Wm 5 4,Wg 6 5 false (.mv (Xv 0)),Wg 7 5 false (.ibin .leq (.c (.int .u8 (.ofNat 48))) (Xv 6)),Wg 8 5 false (.mv (Xv 7)),Wg 9 8 true (.mv (Xv 0)),Wg 10 8 true (.ibin .leq (Xv 9) (.c (.int .u8 (.ofNat 57)))),Wg 11 5 false (.pick (Xv 8) (Xv 10) (.c (.bool false))),Ws 12 (.pick (Xv 5) (.c (.bool true)) (Xv 11)),Wm 13 12,Wg 14 13 false (.mv (Xv 0)),Wg 15 13 false (.ibin .eql (Xv 14) (.c (.int .u8 (.ofNat 95)))),Ws 16 (.pick (Xv 13) (.c (.bool true)) (Xv 15)),Wm 2 16])
def c569:Aa:=(.seq p569_0 (.seq p569_1 .ret))
def r569:List RV:= [(.t (K.of 2))]
def p102_0:Aa:=(.reg [Ws 2 (.mv (.c (.str [])))])
def p102_1:Aa:=(.reg [Ws 3 (.mv (.c .nils))])
def b102_0:Aa:=(.seq (.reg [Ws 11 (.ibin .lss (Xv 10) (Xv 9))]) (.seq (.cond (Xv 11) .skip (.exit 0)) (.seq (.block 1 (.seq (.reg [Wx 12 8 10 7,Wd 13 12 7,Ws 5 (.alloc [(.int .i64 (.ofNat 0)),(.int .i64 (.ofNat 0)),(.bool false),.nils,(.str []),.nils,.nils]),Wn (.store (Xv 5) (Xv 13) 7)]) (.seq (.reg [Wd 15 5 7,Ws 16 (.call 131 [(Xv 15)]),Wm 14 16,Ws 17 (.ext (Xv 14) 0),Ws 18 (.ext (Xv 14) 1),Wm 6 17,Wm 7 18]) (.seq (.seq (.reg [Wm 19 7,Ws 20 (.ibin .neq (Xv 19) (Xn 0))]) (.cond (Xv 20) (.seq (.reg [Wm 21 0,Ws 22 (.call 132 [(Xv 21)]),Wm 2 22]) .ret) .skip)) (.seq (.reg [Wm 23 3,Wm 24 6,We 25 24,Ws 26 (.ibin .shr (Xv 25) (.c (.int .u64 (.ofNat 24)))),Ws 27 (.conv .u8 (Xv 26)),Wm 28 6,We 29 28,Ws 30 (.ibin .shr (Xv 29) (.c (.int .u64 (.ofNat 16)))),Ws 31 (.conv .u8 (Xv 30)),Wm 32 6,We 33 32,Ws 34 (.ibin .shr (Xv 33) (.c (.int .u64 (.ofNat 8)))),Ws 35 (.conv .u8 (Xv 34)),Wm 36 6,We 37 36,Ws 38 (.conv .u8 (Xv 37)),Ws 39 (.mkSl [(.int .u8 (.ofNat 0)),(.int .u8 (.ofNat 0)),(.int .u8 (.ofNat 0)),(.int .u8 (.ofNat 0))] [(0,1,(Xv 27)),(1,1,(Xv 31)),(2,1,(Xv 35)),(3,1,(Xv 38))] 4),Ws 40 (.app (Xv 23) (Xv 39) 1 1 (some [(.int .u8 (.ofNat 0))])),Wm 3 40]) (.reg [Wm 41 3,Wm 42 6,Ws 43 (.app (Xv 41) (Xv 42) 1 1 (some [(.int .u8 (.ofNat 0))])),Wm 3 43])))))) (.reg [Ws 44 (.ibin .add (Xv 10) (Xn 1)),Wm 10 44]))))
def p102_2:Aa:=(.seq (.reg [Wm 8 0,We 9 8,Ws 10 (.mv (Xn 0))]) (.block 0 (.loop b102_0)))
def p102_3:Aa:=(.reg [Wm 45 3,Ws 46 (.ofBytes (Xv 45)),Ws 47 (.sbin .add (.c (.str [98])) (Xv 46)),Wm 2 47])
def c102:Aa:=(.seq p102_0 (.seq p102_1 (.seq p102_2 (.seq p102_3 .ret))))
def r102:List RV:= [(.t (K.of 2))]
def p103_0:Aa:=(.reg [Ws 2 (.box (Xv 0)),Ws 3 (.box (Xv 1)),Ws 4 (.mv (Xn 0))])
def p103_1:Aa:=(.draw [(Wz [Wo 5 2 0,Wl 6 5,Wo 7 3 0,Wl 8 7,Wo 10 2 1,Wl 11 10,Wo 12 3 1,Wl 13 12] (some (Ws 9 (.call 134 [(Xv 6),(Xv 8)])))),⟨[],[Wo 10 2 1,Wl 11 10,Wo 12 3 1,Wl 13 12],some (Ws 14 (.call 134 [(Xv 11),(Xv 13)]))⟩,(Wz [Ws 15 (.mkSl [(.int .i64 (.ofNat 0)),(.int .i64 (.ofNat 0))] [(0,1,(Xv 9)),(1,1,(Xv 14))] 2)] (some (Ws 16 (.call 133 [(Xv 15)])))),(Wz [Wm 4 16] none)] [(K.of 5),(K.of 6),(K.of 7),(K.of 8),(K.of 9),(K.of 10),(K.of 11),(K.of 12),(K.of 13),(K.of 14),(K.of 15),(K.of 16),(K.of 4)])
def c103:Aa:=(.seq p103_0 (.seq p103_1 .ret))
def r103:List RV:= [(.t (K.of 4))]
def p161_0:Aa:=(.reg [Ws 1 (.box (Xv 0)),Ws 2 (.mv (.c .nils)),Ws 3 (.mv (Xn 0))])
def p161_1:Aa:=(.seq (.reg [Wd 5 1 7,Ws 6 (.call 130 [(Xv 5)]),Ws 7 (.not (Xv 6))]) (.cond (Xv 7) (.seq (.reg [Ws 2 (.mv (.c .nils)),Ws 3 (.mv (Xn 4))]) .ret) .skip))
def p161_2:Aa:=(.reg [Ws 4 (.alloc [.nils,(.int .i64 (.ofNat 0)),(.int .i8 (.ofNat 0))])])
def p161_3:Aa:=(.reg [Wd 8 1 7,Ws 9 (.call 195 [(Xv 4),(Xv 8)])])
def p161_4:Aa:=(.reg [Wo 10 4 0,Ws 11 (.call 196 [(Xv 10)]),Wm 2 11,Ws 3 (.mv (Xn 0))])
def c161:Aa:=(.seq p161_0 (.seq p161_1 (.seq p161_2 (.seq p161_3 (.seq p161_4 .ret)))))
def r161:List RV:= [(.t (K.of 2)),(.t (K.of 3))]
def p158_0:Aa:=(.reg [Ws 2 (.alloc [(.int .i64 (.ofNat 0)),(.int .i64 (.ofNat 0)),(.bool false),.nils,(.str []),.nils,.nils])])
def p158_1:Aa:=(.reg [Ws 4 (.mk [(.int .i64 (.ofNat 0)),(.int .i64 (.ofNat 0)),(.bool false),.nils,(.str []),.nils,.nils] [(0,1,(Xn 1))]),Ws 3 (.alloc [(.int .i64 (.ofNat 0)),(.int .i64 (.ofNat 0)),(.bool false),.nils,(.str []),.nils,.nils]),Wn (.store (Xv 3) (Xv 4) 7)])
def p158_2:Aa:=(.seq (.reg [Wm 5 0]) (.cond (Xv 5) (.reg [Wo 6 3 1,Wn (.store (Xv 6) (Xn 1) 1)]) .skip))
def p158_3:Aa:=(.reg [Wd 7 3 7,Wn (.store (Xv 2) (Xv 7) 7)])
def c158:Aa:=(.seq p158_0 (.seq p158_1 (.seq p158_2 (.seq p158_3 .ret))))
def r158:List RV:= [(.cellN (K.of 2) 7)]
def p279_0:Aa:=(.reg [Ws 3 (.box (Xv 1))])
def p279_1:Aa:=(.draw [(Wz [Wm 8 0,Wc 9 8,Wo 10 9 0,Wo 11 3 0,Wl 12 11,Ws 13 (.conv .u8 (Xv 12))] (some (Ws 14 (.call 301 [(Xv 10),(Xv 13)])))),(Wz [] none)] [(K.of 8),(K.of 9),(K.of 10),(K.of 11),(K.of 12),(K.of 13),(K.of 14)])
def p279_2:Aa:=(.reg [Wo 15 3 0,Wl 16 15])
def b279_0:Aa:=(.seq (.reg [Ws 69 (.ibin .lss (Xv 68) (Xv 67))]) (.seq (.cond (Xv 69) .skip (.exit 3)) (.seq (.block 4 (.seq (.reg [Wx 70 66 68 1,Wl 71 70,Wm 5 71]) (.reg [Wm 72 0,Wm 73 5,Ws 74 (.call 303 [(Xv 72),(Xv 73),(Xn 4)])]))) (.reg [Ws 75 (.ibin .add (Xv 68) (Xn 1)),Wm 68 75]))))
def I5:Aa:=(.seq (.reg [Ws 30 (.ibin .lss (Xv 29) (Xv 28))]) (.seq (.cond (Xv 30) .skip (.exit 1)) (.seq (.block 2 (.seq (.reg [Wx 31 27 29 7,Wd 32 31 7,Ws 7 (.alloc [(.int .i64 (.ofNat 0)),(.int .i64 (.ofNat 0)),(.bool false),.nils,(.str []),.nils,.nils]),Wn (.store (Xv 7) (Xv 32) 7)]) (.reg [Wm 33 0,Wd 34 7 7,Ws 35 (.call 195 [(Xv 33),(Xv 34)])]))) (.reg [Ws 36 (.ibin .add (Xv 29) (Xn 1)),Wm 29 36]))))
def c279:Aa:=(.seq p279_0 (.seq p279_1 (.seq p279_2 (.block 0 (.seq (.reg [Ws 38 (.ibin .eql (Xv 16) (Xn 1)),Wm 37 38]) (.cond (Xv 37) (.draw [(Wz [Wm 39 0,Wc 40 39,Wo 41 40 0,Wo 42 3 1,Wl 43 42,Ws 44 (.conv .u8 (Xv 43))] (some (Ws 45 (.call 301 [(Xv 41),(Xv 44)])))),(Wz [] none)] [(K.of 39),(K.of 40),(K.of 41),(K.of 42),(K.of 43),(K.of 44),(K.of 45)]) (.seq (.reg [Ws 47 (.ibin .eql (Xv 16) (Xn 2)),Wm 46 47]) (.cond (Xv 46) (.seq (.draw [(Wz [Wm 48 0,Wc 49 48,Wo 50 49 0,Wo 51 3 2,Wo 52 51 0,Wl 53 52] (some (Ws 54 (.call 302 [(Xv 53)])))),⟨[Ws 55 (.fld (Xv 54) 1 1 false),Ws 56 (.conv .u8 (Xv 55))],[Wm 48 0,Wc 49 48,Wo 50 49 0,Ws 55 (.fld (Xv 54) 1 1 false),Ws 56 (.conv .u8 (Xv 55))],some (Ws 57 (.call 301 [(Xv 50),(Xv 56)]))⟩,(Wz [] none)] [(K.of 48),(K.of 49),(K.of 50),(K.of 51),(K.of 52),(K.of 53),(K.of 54),(K.of 55),(K.of 56),(K.of 57)]) (.seq (.reg [Wm 58 0,Wo 59 3 2,Wo 60 59 1,Wl 61 60,We 62 61,Ws 63 (.call 303 [(Xv 58),(Xv 62),(Xn 1)])]) (.seq (.reg [Wo 64 3 2,Wo 65 64 1,Wl 66 65,We 67 66,Ws 68 (.mv (Xn 0))]) (.block 3 (.loop b279_0))))) (.seq (.seq (.reg [Ws 77 (.ibin .eql (Xv 16) (Xn 3)),Wm 76 77]) (.cond (Xv 76) .skip (.reg [Ws 78 (.ibin .eql (Xv 16) (Xn 4)),Wm 76 78]))) (.cond (Xv 76) (.seq (.reg [Wm 79 0,Wo 80 3 4,Wl 81 80,Ws 82 (.len .str (Xv 81)),Ws 83 (.call 303 [(Xv 79),(Xv 82),(Xn 1)])]) (.draw [(Wz [Wm 84 0,Wc 85 84,Wo 86 85 0,Wo 87 3 4,Wl 88 87] (some (Ws 89 (.call 304 [(Xv 86),(Xv 88)])))),(Wz [] none)] [(K.of 84),(K.of 85),(K.of 86),(K.of 87),(K.of 88),(K.of 89)])) (.seq (.reg [Wm 17 0,Wo 18 3 5,Wl 19 18,We 20 19,Ws 21 (.call 303 [(Xv 17),(Xv 20),(Xn 2)])]) (.seq (.reg [Wo 22 3 5,Wl 23 22,Wo 24 3 6,Wl 25 24,Ws 26 (.mkSl [.nils,.nils] [(0,1,(Xv 23)),(1,1,(Xv 25))] 2),Ws 27 (.call 305 [(Xv 26)]),We 28 27,Ws 29 (.mv (Xn 0))]) (.block 1 (.loop I5))))))))))))))
def r279:List RV:= []
def p397_0:Aa:=(.reg [Ws 2 (.mv (.c .nils))])
def p397_1:Aa:=(.reg [Ws 3 (.mv (Xn 0))])
def b397_0:Aa:=(.seq (.reg [Ws 12 (.ibin .lss (Xv 11) (Xv 10))]) (.seq (.cond (Xv 12) .skip (.exit 0)) (.seq (.block 1 (.seq (.reg [Wx 13 9 11 1,Wl 14 13,Wm 5 14]) (.seq (.reg [Wm 15 3,Wm 16 5,We 17 16,Ws 18 (.ibin .add (Xv 15) (Xv 17)),Wm 3 18]) (.seq (.reg [Wm 19 3,Ws 20 (.ibin .lss (Xv 19) (Xn 0))]) (.cond (Xv 20) (.reg [Ws 21 (.mkif 9 (.c (.str [108,101,110,32,111,117,116,32,111,102,32,114,97,110,103,101]))),Wn (.panic (Xv 21))]) .skip))))) (.reg [Ws 22 (.ibin .add (Xv 11) (Xn 1)),Wm 11 22]))))
def p397_2:Aa:=(.seq (.reg [Wm 9 0,We 10 9,Ws 11 (.mv (Xn 0))]) (.block 0 (.loop b397_0)))
def p397_3:Aa:=(.reg [Wm 23 3,Ws 24 (.call 427 [(.c .nils),(Xv 23)]),Wm 6 24])
def b397_1:Aa:=(.seq (.reg [Ws 28 (.ibin .lss (Xv 27) (Xv 26))]) (.seq (.cond (Xv 28) .skip (.exit 2)) (.seq (.block 3 (.seq (.reg [Wx 29 25 27 1,Wl 30 29,Wm 8 30]) (.reg [Wm 31 6,Wm 32 8,Ws 33 (.app (Xv 31) (Xv 32) 7 112 (some [(.int .i64 (.ofNat 0)),(.int .i64 (.ofNat 0)),(.bool false),.nils,(.str []),.nils,.nils])),Wm 6 33]))) (.reg [Ws 34 (.ibin .add (Xv 27) (Xn 1)),Wm 27 34]))))
def p397_4:Aa:=(.seq (.reg [Wm 25 0,We 26 25,Ws 27 (.mv (Xn 0))]) (.block 2 (.loop b397_1)))
def p397_5:Aa:=(.reg [Wm 35 6,Wm 2 35])
def c397:Aa:=(.seq p397_0 (.seq p397_1 (.seq p397_2 (.seq p397_3 (.seq p397_4 (.seq p397_5 .ret))))))
def r397:List RV:= [(.t (K.of 2))]
def p543_0:Aa:=(.reg [Ws 4 (.mv (.c .nils))])
def p543_1:Aa:=(.seq (.reg [Wm 5 1,Ws 6 (.ibin .lss (Xv 5) (Xn 0))]) (.cond (Xv 6) (.reg [Ws 7 (.mkif 9 (.c (.str [99,97,110,110,111,116,32,98,101,32,110,101,103,97,116,105,118,101]))),Wn (.panic (Xv 7))]) .skip))
def p543_2:Aa:=(.seq (.reg [Wm 8 1,Wm 9 0,Ws 10 (.cap (Xv 9)),Wm 11 0,We 12 11,Ws 13 (.ibin .sub (Xv 10) (Xv 12)),Ws 14 (.ibin .sub (Xv 8) (Xv 13)),Wm 1 14]) (.seq (.reg [Wm 15 1,Ws 16 (.ibin .gtr (Xv 15) (Xn 0))]) (.cond (Xv 16) (.reg [Wm 17 0,Wm 18 0,Ws 19 (.cap (Xv 18)),Ws 20 (.slice (Xv 17) none (some (Xv 19)) none 7),Wm 21 1,Ws 22 (.appz (Xv 20) (Xv 21) 7 112 [(.int .i64 (.ofNat 0)),(.int .i64 (.ofNat 0)),(.bool false),.nils,(.str []),.nils,.nils] (some [(.int .i64 (.ofNat 0)),(.int .i64 (.ofNat 0)),(.bool false),.nils,(.str []),.nils,.nils])),Wm 23 0,We 24 23,Ws 25 (.slice (Xv 22) none (some (Xv 24)) none 7),Wm 0 25]) .skip)))
def p543_3:Aa:=(.reg [Wm 26 0,Wm 4 26])
def c543:Aa:=(.seq p543_0 (.seq p543_1 (.seq p543_2 (.seq p543_3 .ret))))
def r543:List RV:= [(.t (K.of 4))]
def p280_0:Aa:=(.reg [Ws 2 (.mv (.c .nils))])
def p280_1:Aa:=(.draw [(Wz [Wm 3 0,Wc 4 3,Wo 5 4 0,Wl 6 5,Wm 7 0,Wc 8 7,Wo 9 8 1,Wl 10 9,Ws 11 (.slice (Xv 6) (some (Xv 10)) none none 1),Wm 2 11] none)] [(K.of 3),(K.of 4),(K.of 5),(K.of 6),(K.of 7),(K.of 8),(K.of 9),(K.of 10),(K.of 11),(K.of 2)])
def c280:Aa:=(.seq p280_0 (.seq p280_1 .ret))
def r280:List RV:= [(.t (K.of 2))]
def p431_0:Aa:=(.reg [Ws 4 (.mv (.c .nili))])
def p431_1:Aa:=(.reg [Wm 7 0,Wc 8 7,Wo 9 8 2,Wn (.store (Xv 9) (.c (.int .i8 (.ofNat 0))) 1)])
def p431_2:Aa:=(.reg [Wm 11 0,Ws 12 (.call 425 [(Xv 11),(Xn 1)]),Wm 10 12,Ws 13 (.ext (Xv 10) 0),Ws 14 (.ext (Xv 10) 1),Wm 5 13,Wm 6 14])
def p431_3:Aa:=(.seq (.reg [Wm 15 6,Ws 16 (.not (Xv 15))]) (.cond (Xv 16) (.reg [Wm 17 0,Ws 18 (.call 426 [(Xv 17),(Xn 1)]),Wm 5 18]) .skip))
def G8:Aa:=(.reg [Wm 19 0,Wc 20 19,Wo 21 20 0,Wl 22 21,Wm 23 5,Wm 24 1,Wx 25 22 23 1,Wn (.store (Xv 25) (Xv 24) 1)])
def G7:Aa:=(.reg [Ws 4 (.mv (.c .nili))])
def c431:Aa:=(.seq p431_0 (.seq p431_1 (.seq p431_2 (.seq p431_3 (.seq G8 (.seq G7 .ret))))))
def r431:List RV:= [(.t (K.of 4))]
def p432_0:Aa:=(.reg [Wm 7 2,Ws 8 (.ibin .sub (Xv 7) (Xn 1)),Wm 6 8])
def b432_0:Aa:=(.seq (.seq (.reg [Wm 9 6,Ws 10 (.ibin .geq (Xv 9) (Xn 0))]) (.cond (Xv 10) .skip (.exit 0))) (.seq (.block 1 (.draw [(Wz [Wm 13 0,Wc 14 13,Wo 15 14 0,Wm 16 1,Wm 17 6,Ws 18 (.ibin .mul (Xn 8) (Xv 17)),Ws 19 (.ibin .shr (Xv 16) (Xv 18)),Ws 20 (.conv .u8 (Xv 19))] (some (Ws 21 (.call 301 [(Xv 15),(Xv 20)])))),(Wz [] none)] [(K.of 13),(K.of 14),(K.of 15),(K.of 16),(K.of 17),(K.of 18),(K.of 19),(K.of 20),(K.of 21)])) (.reg [Wm 11 6,Ws 12 (.ibin .sub (Xv 11) (Xn 1)),Wm 6 12])))
def c432:Aa:=(.seq p432_0 (.block 0 (.loop b432_0)))
def r432:List RV:= []
def p433_0:Aa:=(.reg [Ws 4 (.mv (Xn 0)),Ws 5 (.mv (.c .nili))])
def p433_1:Aa:=(.reg [Wm 8 0,Wc 9 8,Wo 10 9 2,Wn (.store (Xv 10) (.c (.int .i8 (.ofNat 0))) 1)])
def p433_2:Aa:=(.reg [Wm 12 0,Wm 13 1,Ws 14 (.len .str (Xv 13)),Ws 15 (.call 425 [(Xv 12),(Xv 14)]),Wm 11 15,Ws 16 (.ext (Xv 11) 0),Ws 17 (.ext (Xv 11) 1),Wm 6 16,Wm 7 17])
def p433_3:Aa:=(.seq (.reg [Wm 18 7,Ws 19 (.not (Xv 18))]) (.cond (Xv 19) (.reg [Wm 20 0,Wm 21 1,Ws 22 (.len .str (Xv 21)),Ws 23 (.call 426 [(Xv 20),(Xv 22)]),Wm 6 23]) .skip))
def p433_4:Aa:=(.reg [Wm 24 0,Wc 25 24,Wo 26 25 0,Wl 27 26,Wm 28 6,Ws 29 (.slice (Xv 27) (some (Xv 28)) none none 1),Wm 30 1,Ws 31 (.copy (Xv 29) (Xv 30) 1),Wm 4 31,Ws 5 (.mv (.c .nili))])
def c433:Aa:=(.seq p433_0 (.seq p433_1 (.seq p433_2 (.seq p433_3 (.seq p433_4 .ret)))))
def r433:List RV:= [(.t (K.of 4)),(.t (K.of 5))]
def p570_0:Aa:=(.reg [Ws 4 (.mv (Xn 0)),Ws 5 (.mv (.c (.bool false)))])
def p570_1:Aa:=(.seq (.reg [Wm 7 0,Wc 8 7,Wo 9 8 0,Wl 10 9,We 11 10,Wm 6 11]) (.seq (.reg [Wm 12 1,Wm 13 0,Wc 14 13,Wo 15 14 0,Wl 16 15,Ws 17 (.cap (Xv 16)),Wm 18 6,Ws 19 (.ibin .sub (Xv 17) (Xv 18)),Ws 20 (.ibin .leq (Xv 12) (Xv 19))]) (.cond (Xv 20) (.seq (.reg [Wm 21 0,Wm 22 0,Wc 23 22,Wo 24 23 0,Wl 25 24,Wm 26 6,Wm 27 1,Ws 28 (.ibin .add (Xv 26) (Xv 27)),Ws 29 (.slice (Xv 25) none (some (Xv 28)) none 1),Wc 30 21,Wo 31 30 0,Wn (.store (Xv 31) (Xv 29) 1)]) (.seq (.reg [Wm 32 6,Wm 4 32,Ws 5 (.mv (.c (.bool true)))]) .ret)) .skip)))
def p570_2:Aa:=(.reg [Ws 4 (.mv (Xn 0)),Ws 5 (.mv (.c (.bool false)))])
def c570:Aa:=(.seq p570_0 (.seq p570_1 (.seq p570_2 .ret)))
def r570:List RV:= [(.t (K.of 4)),(.t (K.of 5))]
def p571_0:Aa:=(.reg [Ws 4 (.mv (Xn 0))])
def p571_1:Aa:=(.reg [Wm 9 0,Ws 10 (.call 518 [(Xv 9)]),Wm 5 10])
def p571_2:Aa:=(.seq (.reg [Wm 11 5,Ws 12 (.ibin .eql (Xv 11) (Xn 0)),Wm 13 12,Wg 14 13 true (.mv (Xv 0)),Wg 15 13 true (.nilchk (Xv 14)),Wg 16 13 true (.addOff (Xv 15) 1),Wg 17 13 true (.load1 (Xv 16)),Wg 18 13 true (.ibin .neq (Xv 17) (Xn 0)),Ws 19 (.pick (Xv 13) (Xv 18) (.c (.bool false)))]) (.cond (Xv 19) (.reg [Wm 20 0,Ws 21 (.call 519 [(Xv 20)])]) .skip))
def p571_3:Aa:=(.seq (.reg [Wm 23 0,Wm 24 1,Ws 25 (.call 425 [(Xv 23),(Xv 24)]),Wm 22 25,Ws 26 (.ext (Xv 22) 0),Ws 27 (.ext (Xv 22) 1),Wm 6 26,Wm 7 27]) (.seq (.reg [Wm 28 7]) (.cond (Xv 28) (.seq (.reg [Wm 29 6,Wm 4 29]) .ret) .skip)))
def p571_4:Aa:=(.seq (.reg [Wm 30 0,Wc 31 30,Wo 32 31 0,Wl 33 32,Ws 34 (.eqv false .sl (Xv 33) (.c .nils)),Wm 35 34,Wg 36 35 true (.mv (Xv 1)),Wg 37 35 true (.ibin .leq (Xv 36) (Xn 64)),Ws 38 (.pick (Xv 35) (Xv 37) (.c (.bool false)))]) (.cond (Xv 38) (.seq (.reg [Wm 39 0,Wm 40 1,Ws 41 (.mkslice (Xv 40) (Xn 64) [(.int .u8 (.ofNat 0))] 1),Wc 42 39,Wo 43 42 0,Wn (.store (Xv 43) (Xv 41) 1)]) (.seq (.reg [Ws 4 (.mv (Xn 0))]) .ret)) .skip))
def p571_5:Aa:=(.reg [Wm 44 0,Wc 45 44,Wo 46 45 0,Wl 47 46,Ws 48 (.cap (Xv 47)),Wm 8 48])
def p571_6:Aa:=(.seq (.reg [Wm 49 1,Wm 50 8,Ws 51 (.ibin .quo (Xv 50) (Xn 2)),Wm 52 5,Ws 53 (.ibin .sub (Xv 51) (Xv 52)),Ws 54 (.ibin .leq (Xv 49) (Xv 53))]) (.cond (Xv 54) (.draw [(Wz [Wm 55 0,Wc 56 55,Wo 57 56 0,Wl 58 57,Wm 59 0,Wc 60 59,Wo 61 60 0,Wl 62 61,Wm 63 0,Wc 64 63,Wo 65 64 1,Wl 66 65,Ws 67 (.slice (Xv 62) (some (Xv 66)) none none 1)] (some (Ws 68 (.copy (Xv 58) (Xv 67) 1)))),(Wz [] none)] [(K.of 55),(K.of 56),(K.of 57),(K.of 58),(K.of 59),(K.of 60),(K.of 61),(K.of 62),(K.of 63),(K.of 64),(K.of 65),(K.of 66),(K.of 67),(K.of 68)]) (.seq (.reg [Wm 69 8,Wm 70 8,Ws 71 (.ibin .sub (Xn 9223372036854775807) (Xv 70)),Wm 72 1,Ws 73 (.ibin .sub (Xv 71) (Xv 72)),Ws 74 (.ibin .gtr (Xv 69) (Xv 73))]) (.cond (Xv 74) (.reg [Wn (.bad),Wn (.panic (Xv 75))]) (.draw [(Wz [Wm 76 0,Wm 77 0,Wc 78 77,Wo 79 78 0,Wl 80 79,Wm 81 0,Wc 82 81,Wo 83 82 1,Wl 84 83,Ws 85 (.slice (Xv 80) (some (Xv 84)) none none 1),Wm 86 0,Wc 87 86,Wo 88 87 1,Wl 89 88,Wm 90 1,Ws 91 (.ibin .add (Xv 89) (Xv 90))] (some (Ws 92 (.call 520 [(Xv 85),(Xv 91)])))),⟨[Wc 93 76,Wo 94 93 0],[Wm 76 0,Wc 93 76,Wo 94 93 0],some (Wn (.store (Xv 94) (Xv 92) 1))⟩,(Wz [] none)] [(K.of 76),(K.of 77),(K.of 78),(K.of 79),(K.of 80),(K.of 81),(K.of 82),(K.of 83),(K.of 84),(K.of 85),(K.of 86),(K.of 87),(K.of 88),(K.of 89),(K.of 90),(K.of 91),(K.of 92),(K.of 93),(K.of 94)])))))
def p571_7:Aa:=(.reg [Wm 95 0,Wc 96 95,Wo 97 96 1,Wn (.store (Xv 97) (Xn 0) 1)])
def p571_8:Aa:=(.reg [Wm 98 0,Wm 99 0,Wc 100 99,Wo 101 100 0,Wl 102 101,Wm 103 5,Wm 104 1,Ws 105 (.ibin .add (Xv 103) (Xv 104)),Ws 106 (.slice (Xv 102) none (some (Xv 105)) none 1),Wc 107 98,Wo 108 107 0,Wn (.store (Xv 108) (Xv 106) 1)])
def p571_9:Aa:=(.reg [Wm 109 5,Wm 4 109])
def c571:Aa:=(.seq p571_0 (.seq p571_1 (.seq p571_2 (.seq p571_3 (.seq p571_4 (.seq p571_5 (.seq p571_6 (.seq p571_7 (.seq p571_8 (.seq p571_9 .ret))))))))))
def r571:List RV:= [(.t (K.of 4))]
def p685_0:Aa:=(.reg [Ws 4 (.mv (.c .nils))])
def p685_1:Aa:=(.reg [Wn (.defer (.c (.fn 580 [] [])) [])])
def p685_2:Aa:=(.reg [Wm 8 0,We 9 8,Wm 10 1,Ws 11 (.ibin .add (Xv 9) (Xv 10)),Wm 5 11])
def p685_3:Aa:=(.seq (.reg [Wm 12 5,Wm 13 0,Ws 14 (.cap (Xv 13)),Ws 15 (.ibin .mul (Xn 2) (Xv 14)),Ws 16 (.ibin .lss (Xv 12) (Xv 15))]) (.cond (Xv 16) (.reg [Wm 17 0,Ws 18 (.cap (Xv 17)),Ws 19 (.ibin .mul (Xn 2) (Xv 18)),Wm 5 19]) .skip))
def p685_4:Aa:=(.reg [Wm 20 5,Ws 21 (.appz (.c .nils) (Xv 20) 1 1 [(.int .u8 (.ofNat 0))] (some [(.int .u8 (.ofNat 0))])),Wm 6 21])
def p685_5:Aa:=(.reg [Wm 22 6,Wm 23 0,Ws 24 (.copy (Xv 22) (Xv 23) 1),Wm 7 24])
def p685_6:Aa:=(.reg [Wm 25 6,Wm 26 7,Ws 27 (.slice (Xv 25) none (some (Xv 26)) none 1),Wm 4 27])
def c685:Aa:=(.seq p685_0 (.seq p685_1 (.seq p685_2 (.seq p685_3 (.seq p685_4 (.seq p685_5 (.seq p685_6 .ret)))))))
def r685:List RV:= [(.t (K.of 4))]
def p761_0:Aa:=(.reg [Ws 0 (.recover),Ws 1 (.eqv true .ifc (Xv 0) (.c .nili))])
def c761:Aa:=(.seq p761_0 (.cond (Xv 1) (.reg [Wn (.bad),Wn (.panic (Xv 2))]) .skip))
def r761:List RV:= []
def p683_0:Aa:=(.reg [Ws 2 (.mv (Xn 0))])
def p683_1:Aa:=(.draw [(Wz [Wm 3 0,Wc 4 3,Wo 5 4 0,Wl 6 5,We 7 6,Wm 8 0,Wc 9 8,Wo 10 9 1,Wl 11 10,Ws 12 (.ibin .sub (Xv 7) (Xv 11)),Wm 2 12] none)] [(K.of 3),(K.of 4),(K.of 5),(K.of 6),(K.of 7),(K.of 8),(K.of 9),(K.of 10),(K.of 11),(K.of 12),(K.of 2)])
def c683:Aa:=(.seq p683_0 (.seq p683_1 .ret))
def r683:List RV:= [(.t (K.of 2))]
structure Fns (E:Env):Prop where
  f31:Wf E 45 c31 r31
  f64:Wf E 85 c64 r64
  f104:Wf E 126 c104 r104
  f105:Wf E 127 c105 r105
  f163:Wf E 190 c163 r163
  f164:Wf E 191 c164 r164
  f282:Wf E 292 c282 r282
  f283:Wf E 293 c283 r283
  f106:Wf E 128 c106 r106
  f29:Wf E 8 c29 r29
  f61:Wf E 46 c61 r61
  f62:Wf E 47 c62 r62
  f30:Wf E 134 c30 r30
  f63:Wf E 98 c63 r63
  f67:Wf E 133 c67 r67
  f68:Wf E 145 c68 r68
  f69:Wf E 146 c69 r69
  f117:Wf E 203 c117 r117
  f70:Wf E 147 c70 r70
  f34:Wf E 94 c34 r34
  f99:Wf E 86 c99 r99
  f159:Wf E 129 c159 r159
  f100:Wf E 87 c100 r100
  f101:Wf E 88 c101 r101
  f160:Wf E 130 c160 r160
  f276:Wf E 192 c276 r276
  f424:Wf E 294 c424 r424
  f277:Wf E 193 c277 r277
  f425:Wf E 295 c425 r425
  f426:Wf E 296 c426 r426
  f278:Wf E 194 c278 r278
  f427:Wf E 297 c427 r427
  f567:Wf E 422 c567 r567
  f313:Wf E 26 c313 r313
  f453:Wf E 64 c453 r453
  f428:Wf E 298 c428 r428
  f429:Wf E 299 c429 r429
  f430:Wf E 300 c430 r430
  f568:Wf E 423 c568 r568
  f569:Wf E 424 c569 r569
  f102:Wf E 89 c102 r102
  f103:Wf E 90 c103 r103
  f161:Wf E 131 c161 r161
  f158:Wf E 302 c158 r158
  f279:Wf E 195 c279 r279
  f397:Wf E 305 c397 r397
  f543:Wf E 427 c543 r543
  f280:Wf E 196 c280 r280
  f431:Wf E 301 c431 r431
  f432:Wf E 303 c432 r432
  f433:Wf E 304 c433 r433
  f570:Wf E 425 c570 r570
  f571:Wf E 426 c571 r571
  f685:Wf E 520 c685 r685
  f761:Wf E 580 c761 r761
  f683:Wf E 518 c683 r683
end
end Go.AJ
