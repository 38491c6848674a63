/- The functions in the machine's language; no conditions. -/
import Derived.Test.YtbbahpjmdjlhgaaDoorMc
set_option linter.unusedSectionVars false
set_option linter.unusedVariables false
set_option linter.unusedSimpArgs false
set_option maxRecDepth 100000
namespace M
open Go
namespace Z
instance : Coe aM G:=⟨fun o=>⟨none,o⟩⟩
abbrev y (o : aM) : G:=⟨none,o⟩
abbrev a (k : List Nat) (o : List G) (y : A) : A:=.seq (.pk k (.ops o)) y
abbrev r (k : List Nat) (o : List G) : A:=.seq (.pk k (.ops o)) .ret
abbrev o (k : List Nat) (l : List G) : A:=.pk k (.ops l)
abbrev i (k : List Nat) (o : List G) (q : List Nat) (n : Nat) (x y : A) : A:=.seq (.seq (.pk k (.ops o)) (.pk q (.cond (.t n) x .skip))) y
abbrev j (k : List Nat) (o : List G) (q : List Nat) (n : Nat) (x z y : A) : A:=.seq (.seq (.pk k (.ops o)) (.pk q (.cond (.t n) x z))) y
abbrev g (t : Nat) (o : aM) : G:=⟨some (t,true),o⟩
abbrev h (t : Nat) (o : aM) : G:=⟨some (t,false),o⟩
abbrev m (d a : Nat) : aM:=.mv d (.t a)
abbrev s (d a : Nat) : aM:=.bn d .bh (.t a)
abbrev F (d : Nat) : aM:=.bn d .bh (.k (.bool false))
abbrev T (d : Nat) : aM:=.bn d .bh (.k (.bool true))
abbrev v (d : Nat) (n : Int) : aM:=.bn d .bh (.k (.int .i64 n))
abbrev f (d a n : Nat) : aM:=.iN d (.t a) n
abbrev l (d n a : Nat) : aM:=.load d n false (.t a)
abbrev L (d n a : Nat) : aM:=.load d n true (.t a)
abbrev c1 (d k a : Nat) : aM:=.call (some d) k [(.t a,.ak)]
abbrev c2 (d k a b : Nat) : aM:=.call (some d) k [(.t a,.ak),(.t b,.ak)]
abbrev c3 (d k a b c : Nat) : aM:=.call (some d) k [(.t a,.ak),(.t b,.ak),(.t c,.ak)]
abbrev c4 (d k a b c e : Nat) : aM:=.call (some d) k [(.t a,.ak),(.t b,.ak),(.t c,.ak),(.t e,.ak)]
abbrev b (d : Nat) (p : BinOp) (x y : Nat) : aM:=.bin d p (.t x) (.t y)
abbrev n (d : Nat) (p : BinOp) (x : Nat) (y : Int) : aM:=.bin d p (.t x) (.k (.int .i64 y))
abbrev w (n x y : Nat) : aM:=.store n .mv (.t x) (.t y)
abbrev p (d x y : Nat) : aM:=.pick d (.t x) (.t y) (.k (.bool false))
abbrev q (d x y : Nat) : aM:=.pick d (.t x) (.k (.bool true)) (.t y)
abbrev d (d n x y : Nat) : aM:=.gu d n (.t x) (.t y)
abbrev e (d x : Nat) : aM:=.len d (.t x)
abbrev E (d x : Nat) : aM:=.ji d (.t x)
abbrev x (d y : Nat) : aM:=.box d .mv (.t y)
abbrev u (d y : Nat) : aM:=.un d .not (.t y)
end Z
open Z
def ja : A:=a [0] [F 2] (i [0,23] [m 22 0,c1 23 6 22] [0] 23 (r [2] [T 2]) (a [0,3,4] [m 25 0,y (.call (some 26) 7 [(.t 25,.mv)]),m 24 26,y (.ext 27 (.t 24) 0),y (.ext 28 (.t 24) 1),s 3 27,s 4 28] (a [0,3,4,5] [m 29 3,m 30 4,c2 31 8 29 30,s 5 31] (i [0,3,4,5,36] [m 32 5,m 33 3,m 34 4,c2 35 9 33 34,b 36 .neq 32 35] [0,3,4,5] 36 (r [2] [F 2]) (i [0,3,4,5,38] [m 37 5,y (.bin 38 .neq (.t 37) (.k (.str ⟨#[]⟩)))] [0] 38 (a [0,3,4,5,6,7,8] [m 40 5,c1 41 10 40,m 39 41,y (.ext 42 (.t 39) 0),y (.ext 43 (.t 39) 1),y (.ext 44 (.t 39) 2),s 6 42,s 7 43,s 8 44] (i [0,5,56] [m 45 8,u 46 45,m 47 46,h 47 (m 48 6),h 47 (m 49 3),h 47 (b 50 .neq 48 49),q 51 47 50,m 52 51,h 52 (m 53 7),h 52 (m 54 4),h 52 (b 55 .neq 53 54),q 56 52 55] [0,5] 56 (r [2] [F 2]) (a [0,5,9] [m 57 0,y (.call (some 58) 11 [(.t 57,.ak),(.k (.int .i64 1),.ak)]),m 59 5,E 60 59,b 61 .mul 58 60,n 62 .quo 61 256,s 9 62] (.seq (.draw (.step 0 (m 63 5) (.step 1 (m 64 9) (.step 2 (y (.bN 65 (.t 63) none (some (.t 64)))) (.step 3 (m 66 5) (.step 4 (m 67 9) (.step 5 (y (.dO 68 (.t 66) (.t 67))) (.step 6 (y (.bin 69 .xor (.t 68) (.k (.int .u8 1)))) (.step 10 (m 73 5) (.step 11 (m 74 9) (.step 12 (n 75 .add 74 1) (.step 13 (y (.bN 76 (.t 73) (some (.t 75)) none)) (.step 7 (y (.lit 70 .mv 1 [.t 69])) (.step 8 (y (.text 71 (.t 70))) (.step 9 (b 72 .add 65 71) (.step 14 (b 77 .add 72 76) (.step 15 (s 10 77) (.nil [0,10])))))))))))))))))) (a [0,13] [m 79 10,c1 80 10 79,m 78 80,y (.ext 81 (.t 78) 0),y (.ext 82 (.t 78) 1),y (.ext 83 (.t 78) 2),s 11 81,s 12 82,s 13 83] (a [0,84] [m 84 13] (.pk [0] (.cond (.t 84) (r [2] [F 2]) .skip)))))))) (a [0,14] [m 85 0,y (.call (some 86) 12 [(.t 85,.mv)]),s 14 86] (a [0,14,15,16,17] [m 88 14,c1 89 10 88,m 87 89,y (.ext 90 (.t 87) 0),y (.ext 91 (.t 87) 1),y (.ext 92 (.t 87) 2),s 15 90,s 16 91,s 17 92] (a [0,14,15,16,17,20] [m 94 14,c1 95 13 94,m 93 95,y (.ext 96 (.t 93) 0),y (.ext 97 (.t 93) 1),y (.ext 98 (.t 93) 2),s 18 96,s 19 97,s 20 98] (a [14,15,16,17,20,21] [m 99 0,y (.call (some 100) 14 [(.t 99,.mv)]),s 21 100] (r [2] [m 101 17,m 102 20,y (.beq 103 false (.t 101) (.t 102)),m 104 103,g 104 (m 105 21),g 104 (c1 106 15 105),g 104 (m 107 21),g 104 (c1 108 16 107),g 104 (b 109 .eql 106 108),p 110 104 109,m 111 110,g 111 (m 112 17),g 111 (u 113 112),g 111 (m 114 113),g 114 (m 115 15),g 114 (n 116 .eql 115 0),g 111 (p 117 114 116),g 111 (m 118 117),g 118 (m 119 16),g 118 (.bin 120 .eql (.t 119) (.k (.str ⟨#[]⟩))),g 111 (p 121 118 120),g 111 (m 122 121),h 122 (m 123 17),h 122 (m 124 123),g 124 (m 125 15),g 124 (m 126 16),g 124 (c2 127 8 125 126),g 124 (m 128 14),g 124 (b 129 .eql 127 128),h 122 (p 130 124 129),g 111 (q 131 122 130),p 132 111 131,s 2 132]))))))))))
def qA : A:=a [0] [F 2] (r [2] [m 3 0,e 4 3,n 5 .gtr 4 1048576,s 2 5])
def n5 : A:=j [4,5,7,17] [m 12 5,E 13 12,m 14 4,y (.call (some 15) 29 [(.t 14,.mut 3),(.k (.int .i64 2),.ak)]),y (.bin 16 .add (.k (.int .i64 2000)) (.t 15)),b 17 .lss 13 16] [4,5,7] 17 .skip (.exit 0) (.pk [4,5,7] (.block 1 (o [4,5,7] [m 18 5,y (.bin 19 .add (.t 18) (.k (.str ⟨#[48,49,50,51,52,53,54,55,56,57]⟩))),s 5 19])))
def je : A:=n5
def lA : A:=a [0,100000] [v 2 0,y (.bn 3 .bh (.k (.str ⟨#[]⟩)))] (a [4,7] [m 6 0,y (.call (some 7) 26 [(.t 6,.mv)]),s 4 7] (a [4,5,7] [m 8 4,y (.call (some 9) 27 [(.t 8,.mut 3)]),s 5 9] (i [4,5,7,11] [m 10 4,y (.call (some 11) 28 [(.t 10,.mut 3),(.k (.int .i64 20),.ak)])] [4,5,7] 11 (.pk [4,5,7] (.block 0 (.loop je))) (r [2,3] [m 20 4,y (.lit 21 .mv 1 [.k (.int .i64 1),.k (.int .i64 2),.k (.int .i64 77),.k (.int .i64 100000),.k (.int .i64 100001),.k (.int .i64 0),.k (.int .i64 (-1))]),y (.call (some 22) 30 [(.t 20,.mut 3),(.t 21,.ak)]),m 23 5,s 2 22,s 3 23]))))
def kU : A:=a [0,1] [y (.bn 4 .bh (.k (.str ⟨#[]⟩)))] (i [0,1,13] [m 6 0,y (.call (some 7) 31 [(.t 6,.ak),(.k (.int .i64 1),.ak),(.k (.int .i64 100000),.ak)]),u 8 7,m 9 8,h 9 (m 10 1),h 9 (E 11 10),h 9 (n 12 .gtr 11 2000),q 13 9 12] [0,1] 13 (r [4] [y (.bn 4 .bh (.k (.str ⟨#[]⟩)))]) (a [5] [m 14 0,c1 15 32 14,y (.bin 16 .add (.t 15) (.k (.str ⟨#[32]⟩))),m 17 1,E 18 17,c1 19 32 18,b 20 .add 16 19,y (.bin 21 .add (.t 20) (.k (.str ⟨#[10]⟩))),m 22 1,b 23 .add 21 22,s 5 23] (r [4] [m 24 5,c1 25 15 24,c1 26 32 25,y (.bin 27 .add (.t 26) (.k (.str ⟨#[32]⟩))),m 28 5,b 29 .add 27 28,s 4 29])))
def lC : A:=a [0,1] [y (.bn 4 .bh (.k (.str ⟨#[]⟩)))] (i [0,1,13] [m 6 0,y (.call (some 7) 33 [(.t 6,.ak),(.k (.int .i64 1),.ak),(.k (.int .i64 100000),.ak)]),u 8 7,m 9 8,h 9 (m 10 1),h 9 (E 11 10),h 9 (n 12 .gtr 11 2000),q 13 9 12] [0,1] 13 (r [4] [y (.bn 4 .bh (.k (.str ⟨#[]⟩)))]) (a [5] [m 14 0,c1 15 34 14,y (.bin 16 .add (.t 15) (.k (.str ⟨#[32]⟩))),m 17 1,E 18 17,c1 19 34 18,b 20 .add 16 19,y (.bin 21 .add (.t 20) (.k (.str ⟨#[10]⟩))),m 22 1,b 23 .add 21 22,s 5 23] (r [4] [m 24 5,c1 25 16 24,c1 26 34 25,y (.bin 27 .add (.t 26) (.k (.str ⟨#[32]⟩))),m 28 5,b 29 .add 27 28,s 4 29])))
def fR : A:=a [0] [v 2 0,y (.bn 3 .bh (.k (.str ⟨#[]⟩))),F 4] (a [0,5,6,7] [m 12 0,y (.call (some 13) 35 [(.t 12,.ak),(.k (.str ⟨#[10]⟩),.ak)]),m 11 13,y (.ext 14 (.t 11) 0),y (.ext 15 (.t 11) 1),y (.ext 16 (.t 11) 2),s 5 14,s 6 15,s 7 16] (a [0,6,7,8] [m 17 5,y (.call (some 18) 36 [(.t 17,.ak),(.k (.str ⟨#[32]⟩),.ak)]),s 8 18] (i [0,6,8,25] [m 19 7,u 20 19,m 21 20,h 21 (m 22 8),h 21 (e 23 22),h 21 (n 24 .neq 23 3),q 25 21 24] [0,6,8] 25 (r [2,3,4] [v 2 0,y (.bn 3 .bh (.k (.str ⟨#[]⟩))),F 4]) (a [0,6,9,10] [m 27 8,y (.gu 28 1 (.t 27) (.k (.int .i64 1))),l 29 1 28,c1 30 37 29,m 26 30,y (.ext 31 (.t 26) 0),y (.ext 32 (.t 26) 1),s 9 31,s 10 32] (i [6,9,45] [m 33 10,u 34 33,m 35 34,h 35 (m 36 9),h 35 (n 37 .eql 36 0),q 38 35 37,m 39 38,h 39 (m 40 9),h 39 (m 41 6),h 39 (c2 42 8 40 41),h 39 (m 43 0),h 39 (b 44 .neq 42 43),q 45 39 44] [6,9] 45 (r [2,3,4] [v 2 0,y (.bn 3 .bh (.k (.str ⟨#[]⟩))),F 4]) (r [2,3,4] [m 46 9,m 47 6,s 2 46,s 3 47,T 4]))))))
def kY : A:=a [0,1] [v 4 0] (i [0,1,8] [m 5 1,m 6 0,e 7 6,b 8 .lss 5 7] [0,1] 8 (r [4] [m 9 0,m 10 1,d 11 1 9 10,l 12 1 11,y (.conv 13 .i64 (.t 12)),s 4 13]) (r [4] [m 14 1,n 15 .mul 14 7,m 16 0,e 17 16,b 18 .add 15 17,n 19 .rem 18 256,s 4 19]))
def qP : A:=a [0,100000] [y (.bn 2 .bh (.k (.str ⟨#[]⟩)))] (a [3,5] [m 4 0,y (.call (some 5) 26 [(.t 4,.mv)]),s 3 5] (r [2] [m 6 3,m 7 3,y (.call (some 8) 29 [(.t 7,.mut 3),(.k (.int .i64 300),.ak)]),y (.bin 9 .add (.k (.int .i64 1)) (.t 8)),m 10 3,y (.call (some 11) 27 [(.t 10,.mut 3)]),c2 12 9 9 11,y (.lit 13 .mv 1 [.k (.str ⟨#[48]⟩),.k (.str ⟨#[32]⟩),.k (.str ⟨#[10]⟩),.k (.str ⟨#[120]⟩),.k (.str ⟨#[49]⟩)]),y (.call (some 14) 38 [(.t 6,.mut 3),(.t 12,.ak),(.t 13,.ak)]),s 2 14]))
def hO : A:=a [0] [v 2 0,y (.bn 3 .bh (.k (.str ⟨#[]⟩))),F 4] (a [0,5,6] [m 11 0,y (.call (some 12) 39 [(.t 11,.ak),(.k (.int .i64 0),.ak)]),m 10 12,y (.ext 13 (.t 10) 0),y (.ext 14 (.t 10) 1),s 5 13,s 6 14] (a [0,6,7] [m 15 5,c1 16 40 15,s 7 16] (i [0,6,7,23] [m 17 6,n 18 .lss 17 0,m 19 18,h 19 (m 20 7),h 19 (e 21 20),h 19 (n 22 .neq 21 3),q 23 19 22] [0,6,7] 23 (r [2,3,4] [v 2 0,y (.bn 3 .bh (.k (.str ⟨#[]⟩))),F 4]) (a [0,6,8] [m 25 7,y (.gu 26 1 (.t 25) (.k (.int .i64 1))),l 27 1 26,c1 28 41 27,m 24 28,y (.ext 29 (.t 24) 0),y (.ext 30 (.t 24) 1),s 8 29,s 9 30] (i [0,6,8,41] [m 31 0,y (.bin 32 .eql (.t 31) (.k (.str ⟨#[]⟩))),m 33 32,h 33 (m 34 8),h 33 (m 35 0),h 33 (m 36 6),h 33 (.bN 37 (.t 35) (some (.t 36)) none),h 33 (c2 38 9 34 37),h 33 (m 39 0),h 33 (b 40 .neq 38 39),q 41 33 40] [0,6,8] 41 (r [2,3,4] [v 2 0,y (.bn 3 .bh (.k (.str ⟨#[]⟩))),F 4]) (.seq (.draw (.step 0 (m 42 8) (.step 1 (m 43 0) (.step 2 (m 44 6) (.step 3 (y (.bN 45 (.t 43) (some (.t 44)) none)) (.step 4 (s 2 42) (.step 5 (s 3 45) (.step 6 (T 4) (.nil [2,3,4]))))))))) .ret))))))
def uA : A:=j [3,4,5,7,13] [m 10 5,m 11 3,y (.call (some 12) 29 [(.t 11,.mut 3),(.k (.int .i64 6),.ak)]),b 13 .lss 10 12] [3,4,5,7] 13 .skip (.exit 0) (.seq (.pk [3,4,5,7] (.block 1 (o [3,4,5,7] [m 16 4,m 17 4,b 18 .add 16 17,y (.bin 19 .add (.t 18) (.k (.str ⟨#[255]⟩))),s 4 19]))) (o [3,4,5,7] [m 14 5,n 15 .add 14 1,s 5 15]))
def qQ : A:=uA
def qR : A:=a [0,100000] [y (.bn 2 .bh (.k (.str ⟨#[]⟩)))] (a [3,7] [m 6 0,y (.call (some 7) 26 [(.t 6,.mv)]),s 3 7] (a [3,4,7] [m 8 3,y (.call (some 9) 27 [(.t 8,.mut 3)]),s 4 9] (.seq (a [3,4,5,7] [v 5 0] (.pk [4] (.block 0 (.loop qQ)))) (r [2] [m 20 4,s 2 20]))))
def tF : A:=j [0,3,4,5,9] [m 6 5,m 7 0,E 8 7,b 9 .lss 6 8] [0,3,4,5] 9 .skip (.exit 0) (.seq (.pk [0,3,4,5] (.block 1 (a [0,3,4,5] [m 12 3,m 13 0,m 14 5,y (.dO 15 (.t 13) (.t 14)),y (.conv 16 .i64 (.t 15)),b 17 .add 12 16,n 18 .rem 17 65521,s 3 18] (o [0,3,4,5] [m 19 4,m 20 3,b 21 .add 19 20,n 22 .rem 21 65521,s 4 22])))) (o [0,3,4,5] [m 10 5,n 11 .add 10 1,s 5 11]))
def nB : A:=tF
def qv : A:=a [0] [v 2 0] (a [0,3,4] [v 3 1,v 4 0] (.seq (a [0,3,4,5] [v 5 0] (.pk [3,4] (.block 0 (.loop nB)))) (r [2] [m 23 4,y (.bin 24 .mul (.k (.int .i64 65521)) (.t 23)),m 25 3,b 26 .add 24 25,s 2 26])))
def uC : A:=j [0,3,4,5,9] [m 6 5,m 7 0,E 8 7,b 9 .lss 6 8] [0,3,4,5] 9 .skip (.exit 0) (.seq (.pk [0,3,4,5] (.block 1 (a [0,3,4,5] [m 12 3,m 13 0,m 14 5,y (.dO 15 (.t 13) (.t 14)),y (.conv 16 .i64 (.t 15)),b 17 .add 12 16,n 18 .rem 17 65521,s 3 18] (o [0,3,4,5] [m 19 4,m 20 3,b 21 .add 19 20,n 22 .rem 21 65521,s 4 22])))) (o [0,3,4,5] [m 10 5,n 11 .add 10 1,s 5 11]))
def n6 : A:=uC
def qT : A:=a [0] [v 2 0] (a [0,3,4] [v 3 1,v 4 0] (.seq (a [0,3,4,5] [v 5 0] (.pk [3,4] (.block 0 (.loop n6)))) (r [2] [m 23 4,y (.bin 24 .mul (.k (.int .i64 65521)) (.t 23)),m 25 3,b 26 .add 24 25,s 2 26])))
def qY : A:=j [0,3,4,15,100000] [m 8 4,m 9 0,e 10 9,b 11 .lss 8 10,m 12 11,g 12 (m 13 4),g 12 (n 14 .lss 13 4000),p 15 12 14] [0,3,4,100000] 15 .skip (.exit 0) (.seq (.pk [0,3,4,100000] (.block 1 (o [0,3,4,100000] [m 18 3,n 19 .mul 18 131,m 20 0,m 21 4,d 22 1 20 21,l 23 1 22,y (.conv 24 .i64 (.t 23)),b 25 .add 19 24,n 26 .add 25 7,n 27 .and 26 1073741823,s 3 27]))) (o [0,3,4,100000] [m 16 4,n 17 .add 16 1,s 4 17]))
def lE : A:=qY
def qZ : A:=a [0,100000] [y (.bn 2 .bh (.k .dead))] (a [0,3,100000] [m 5 0,e 6 5,y (.bin 7 .add (.k (.int .i64 18850)) (.t 6)),s 3 7] (.seq (a [0,3,4,100000] [v 4 0] (.pk [0,3,100000] (.block 0 (.loop lE)))) (r [2,31] [m 28 0,m 29 3,y (.build 30 .mv [.row .own 1 [],.int .i64 0,.int .i64 0] [((0,1),.t 28),((2,1),.t 29)]),x 31 30,s 2 31])))
def uF : A:=j [0,3,4,9,100000] [m 6 4,m 7 0,y (.call (some 8) 29 [(.t 7,.mut 3),(.k (.int .i64 14),.ak)]),b 9 .lss 6 8] [0,3,4,100000] 9 .skip (.exit 0) (.seq (.pk [0,3,4,100000] (.block 1 (o [0,3,4,100000] [m 12 3,m 13 0,y (.lit 14 .mv 1 [.k (.str ⟨#[32]⟩),.k (.str ⟨#[44]⟩),.k (.str ⟨#[97]⟩),.k (.str ⟨#[90]⟩),.k (.str ⟨#[55]⟩),.k (.str ⟨#[45]⟩),.k (.str ⟨#[61]⟩),.k (.str ⟨#[120]⟩),.k (.str ⟨#[58]⟩),.k (.str ⟨#[1]⟩),.k (.str ⟨#[64]⟩),.k (.str ⟨#[91]⟩)]),y (.call (some 15) 54 [(.t 13,.mut 3),(.t 14,.ak)]),y (.dO 16 (.t 15) (.k (.int .i64 0))),y (.lit 17 .mv 1 [.t 16]),y (.app 18 .mv 1 1 (.t 12) (.t 17)),s 3 18]))) (o [0,3,4,100000] [m 10 4,n 11 .add 10 1,s 4 11]))
def qV : A:=uF
def qW : A:=a [0,100000] [y (.bn 2 .bh (.k (.str ⟨#[]⟩)))] (a [0,3,100000] [y (.lit 5 .mv 1 []),s 3 5] (.seq (a [0,3,4,100000] [v 4 0] (.pk [3,100000] (.block 0 (.loop qV)))) (r [2,100000] [m 19 3,y (.text 20 (.t 19)),s 2 20])))
def q5 : A:=a [0,1,100000] [F 4] (r [4,100000] [m 5 0,m 6 1,y (.call (some 7) 29 [(.t 5,.mut 3),(.t 6,.ak)]),n 8 .eql 7 0,s 4 8])
def j7 : A:=a [0,1,100000] [v 4 0] (i [0,1,10,100000] [m 9 1,n 10 .leq 9 0] [0,1,100000] 10 (r [4,100000] [v 4 0]) (i [0,1,12,100000] [m 11 1,n 12 .leq 11 256] [0,1,100000] 12 (r [4,100000] [m 13 0,y (.call (some 14) 55 [(.t 13,.mut 3)]),m 15 1,b 16 .rem 14 15,s 4 16]) (a [0,1,5,100000] [m 17 0,y (.call (some 18) 55 [(.t 17,.mut 3)]),s 5 18] (a [0,1,5,6,100000] [m 19 0,y (.call (some 20) 55 [(.t 19,.mut 3)]),s 6 20] (a [0,1,5,6,7,100000] [m 21 0,y (.call (some 22) 55 [(.t 21,.mut 3)]),s 7 22] (a [1,5,6,7,8,100000] [m 23 0,y (.call (some 24) 55 [(.t 23,.mut 3)]),s 8 24] (r [4,100000] [m 25 5,n 26 .mul 25 16777216,m 27 6,n 28 .mul 27 65536,b 29 .add 26 28,m 30 7,n 31 .mul 30 256,b 32 .add 29 31,m 33 8,b 34 .add 32 33,m 35 1,b 36 .rem 34 35,s 4 36])))))))
def q6 : A:=a [0,1,100000] [v 4 0] (r [4,100000] [m 5 1,m 6 0,m 7 1,e 8 7,y (.call (some 9) 29 [(.t 6,.mut 3),(.t 8,.ak)]),d 10 1 5 9,l 11 1 10,s 4 11])
def qw : A:=a [0,1,2] [F 6] (r [6] [m 7 0,m 8 1,b 9 .geq 7 8,m 10 9,g 10 (m 11 0),g 10 (m 12 2),g 10 (b 13 .leq 11 12),p 14 10 13,s 6 14])
def qX : A:=a [0,1,2] [F 6] (r [6] [m 7 0,m 8 1,b 9 .geq 7 8,m 10 9,g 10 (m 11 0),g 10 (m 12 2),g 10 (b 13 .leq 11 12),p 14 10 13,s 6 14])
def qU : A:=j [0,3,7] [m 6 0,n 7 .gtr 6 0] [0,3] 7 .skip (.exit 0) (.pk [0,3] (.block 1 (a [0,3] [m 8 0,n 9 .rem 8 10,y (.bin 10 .add (.k (.int .i64 48)) (.t 9)),y (.conv 11 .u8 (.t 10)),y (.lit 12 .mv 1 [.t 11]),y (.text 13 (.t 12)),m 14 3,b 15 .add 13 14,s 3 15] (o [0,3] [m 16 0,n 17 .quo 16 10,s 0 17]))))
def uE : A:=qU
def n9 : A:=a [0] [y (.bn 2 .bh (.k (.str ⟨#[]⟩)))] (i [0,5] [m 4 0,n 5 .eql 4 0] [0] 5 (r [2] [y (.bn 2 .bh (.k (.str ⟨#[48]⟩)))]) (a [0,3] [y (.bn 3 .bh (.k (.str ⟨#[]⟩)))] (.seq (.pk [3] (.block 0 (.loop uE))) (r [2] [m 18 3,s 2 18]))))
def oa : DT:=.step 10 (b 32 .add 28 31) (.step 11 (s 6 32) (.nil [6,100000]))
def lF : DT:=.step 9 (y (.bN 31 (.t 29) (some (.t 30)) none)) oa
def od : DT:=.step 8 (m 30 7) lF
def ow : DT:=.step 6 (b 28 .add 24 27) (.step 7 (m 29 1) od)
def oC : DT:=.step 6 (b 28 .add 24 27) od
def oD : DT:=.step 6 (b 28 .add 24 27) lF
def oE : DT:=.step 6 (b 28 .add 24 27) oa
def oF : DT:=.step 5 (y (.call (some 27) 54 [(.t 25,.mut 3),(.t 26,.ak)])) oE
def lR : DT:=.alt (.step 5 (y (.call (some 27) 54 [(.t 25,.mut 3),(.t 26,.ak)])) (.kp [24,27,29,30,100000] oD)) (.step 9 (y (.bN 31 (.t 29) (some (.t 30)) none)) (.kp [0,2,24,25,26,31,100000] oF))
def oG : DT:=.alt (.step 5 (y (.call (some 27) 54 [(.t 25,.mut 3),(.t 26,.ak)])) (.kp [7,24,27,29,100000] oC)) (.step 8 (m 30 7) (.kp [0,2,24,25,26,29,30,100000] lR))
def ob : DT:=.step 6 (b 28 .add 24 27) (.step 7 (m 29 1) lF)
def oc : DT:=.alt (.step 5 (y (.call (some 27) 54 [(.t 25,.mut 3),(.t 26,.ak)])) (.kp [1,24,27,30,100000] ob)) (.step 7 (m 29 1) (.kp [0,2,24,25,26,29,30,100000] lR))
def lG : DT:=.step 2 (y (.bN 24 (.t 22) none (some (.t 23)))) ow
def lH : DT:=.step 2 (y (.bN 24 (.t 22) none (some (.t 23)))) oC
def lI : DT:=.step 2 (y (.bN 24 (.t 22) none (some (.t 23)))) oD
def lJ : DT:=.step 2 (y (.bN 24 (.t 22) none (some (.t 23)))) oE
def lK : DT:=.alt (.step 2 (y (.bN 24 (.t 22) none (some (.t 23)))) (.kp [0,2,24,25,26,31,100000] oF)) (.step 5 (y (.call (some 27) 54 [(.t 25,.mut 3),(.t 26,.ak)])) (.kp [22,23,27,31,100000] lJ))
def j8 : DT:=.alt (.step 2 (y (.bN 24 (.t 22) none (some (.t 23)))) (.kp [0,2,24,25,26,29,30,100000] lR)) (.alt (.step 5 (y (.call (some 27) 54 [(.t 25,.mut 3),(.t 26,.ak)])) (.kp [22,23,27,29,30,100000] lI)) (.step 9 (y (.bN 31 (.t 29) (some (.t 30)) none)) (.kp [0,2,22,23,25,26,31,100000] lK)))
def lM : DT:=.alt (.step 2 (y (.bN 24 (.t 22) none (some (.t 23)))) (.kp [0,2,7,24,25,26,29,100000] oG)) (.alt (.step 5 (y (.call (some 27) 54 [(.t 25,.mut 3),(.t 26,.ak)])) (.kp [7,22,23,27,29,100000] lH)) (.step 8 (m 30 7) (.kp [0,2,22,23,25,26,29,30,100000] j8)))
def lN : DT:=.step 2 (y (.bN 24 (.t 22) none (some (.t 23)))) ob
def lO : DT:=.alt (.step 2 (y (.bN 24 (.t 22) none (some (.t 23)))) (.kp [0,1,2,24,25,26,30,100000] oc)) (.alt (.step 5 (y (.call (some 27) 54 [(.t 25,.mut 3),(.t 26,.ak)])) (.kp [1,22,23,27,30,100000] lN)) (.step 7 (m 29 1) (.kp [0,2,22,23,25,26,29,30,100000] j8)))
def og : DT:=.alt (.step 2 (y (.bN 24 (.t 22) none (some (.t 23)))) (.kp [0,1,2,7,24,25,26,100000] (.alt (.step 5 (y (.call (some 27) 54 [(.t 25,.mut 3),(.t 26,.ak)])) (.kp [1,7,24,27,100000] ow)) (.alt (.step 7 (m 29 1) (.kp [0,2,7,24,25,26,29,100000] oG)) (.step 8 (m 30 7) (.kp [0,1,2,24,25,26,30,100000] oc)))))) (.alt (.step 5 (y (.call (some 27) 54 [(.t 25,.mut 3),(.t 26,.ak)])) (.kp [1,7,22,23,27,100000] lG)) (.alt (.step 7 (m 29 1) (.kp [0,2,7,22,23,25,26,29,100000] lM)) (.step 8 (m 30 7) (.kp [0,1,2,22,23,25,26,30,100000] lO))))
def oh : DT:=.step 1 (m 23 7) lG
def om : DT:=.step 1 (m 23 7) lH
def oo : DT:=.step 1 (m 23 7) lI
def oq : DT:=.step 1 (m 23 7) lJ
def ot : DT:=.alt (.step 1 (m 23 7) (.kp [0,2,22,23,25,26,31,100000] lK)) (.step 5 (y (.call (some 27) 54 [(.t 25,.mut 3),(.t 26,.ak)])) (.kp [7,22,27,31,100000] oq))
def lP : DT:=.alt (.step 1 (m 23 7) (.kp [0,2,22,23,25,26,29,30,100000] j8)) (.alt (.step 5 (y (.call (some 27) 54 [(.t 25,.mut 3),(.t 26,.ak)])) (.kp [7,22,27,29,30,100000] oo)) (.step 9 (y (.bN 31 (.t 29) (some (.t 30)) none)) (.kp [0,2,7,22,25,26,31,100000] ot)))
def ou : DT:=.alt (.step 1 (m 23 7) (.kp [0,2,7,22,23,25,26,29,100000] lM)) (.alt (.step 5 (y (.call (some 27) 54 [(.t 25,.mut 3),(.t 26,.ak)])) (.kp [7,22,27,29,100000] om)) (.step 8 (m 30 7) (.kp [0,2,7,22,25,26,29,30,100000] lP)))
def ov : DT:=.step 1 (m 23 7) lN
def ox : DT:=.alt (.step 1 (m 23 7) (.kp [0,1,2,22,23,25,26,30,100000] lO)) (.alt (.step 5 (y (.call (some 27) 54 [(.t 25,.mut 3),(.t 26,.ak)])) (.kp [1,7,22,27,30,100000] ov)) (.step 7 (m 29 1) (.kp [0,2,7,22,25,26,29,30,100000] lP)))
def oy : DT:=.alt (.step 0 (m 22 1) (.kp [0,2,22,23,25,26,31,100000] lK)) (.step 5 (y (.call (some 27) 54 [(.t 25,.mut 3),(.t 26,.ak)])) (.kp [1,23,27,31,100000] (.step 0 (m 22 1) lJ)))
def lQ : DT:=.alt (.step 0 (m 22 1) (.kp [0,2,22,23,25,26,29,30,100000] j8)) (.alt (.step 5 (y (.call (some 27) 54 [(.t 25,.mut 3),(.t 26,.ak)])) (.kp [1,23,27,29,30,100000] (.step 0 (m 22 1) lI))) (.step 9 (y (.bN 31 (.t 29) (some (.t 30)) none)) (.kp [0,1,2,23,25,26,31,100000] oy)))
def oz : DT:=.alt (.step 0 (m 22 1) (.kp [0,2,7,22,23,25,26,29,100000] lM)) (.alt (.step 5 (y (.call (some 27) 54 [(.t 25,.mut 3),(.t 26,.ak)])) (.kp [1,7,23,27,29,100000] (.step 0 (m 22 1) lH))) (.step 8 (m 30 7) (.kp [0,1,2,23,25,26,29,30,100000] lQ)))
def oA : DT:=.alt (.step 0 (m 22 1) (.kp [0,1,2,22,23,25,26,30,100000] lO)) (.alt (.step 5 (y (.call (some 27) 54 [(.t 25,.mut 3),(.t 26,.ak)])) (.kp [1,23,27,30,100000] (.step 0 (m 22 1) lN))) (.step 7 (m 29 1) (.kp [0,1,2,23,25,26,29,30,100000] lQ)))
def oB : DT:=.alt (.step 0 (m 22 1) (.kp [0,2,7,22,25,26,29,30,100000] lP)) (.alt (.step 1 (m 23 7) (.kp [0,1,2,23,25,26,29,30,100000] lQ)) (.alt (.step 5 (y (.call (some 27) 54 [(.t 25,.mut 3),(.t 26,.ak)])) (.kp [1,7,27,29,30,100000] (.step 0 (m 22 1) oo))) (.step 9 (y (.bN 31 (.t 29) (some (.t 30)) none)) (.kp [0,1,2,7,25,26,31,100000] (.alt (.step 0 (m 22 1) (.kp [0,2,7,22,25,26,31,100000] ot)) (.alt (.step 1 (m 23 7) (.kp [0,1,2,23,25,26,31,100000] oy)) (.step 5 (y (.call (some 27) 54 [(.t 25,.mut 3),(.t 26,.ak)])) (.kp [1,7,27,31,100000] (.step 0 (m 22 1) oq)))))))))
def jg : A:=a [0,1,2,100000] [y (.bn 6 .bh (.k (.str ⟨#[]⟩)))] (a [0,1,2,7,100000] [m 8 0,m 9 1,E 10 9,n 11 .add 10 1,y (.call (some 12) 29 [(.t 8,.mut 3),(.t 11,.ak)]),s 7 12] (.seq (a [0,1,2,7,14,100000] [m 13 0,y (.call (some 14) 29 [(.t 13,.mut 3),(.k (.int .i64 5),.ak)])] (.pk [1,100000] (.block 0 (a [0,1,2,7,14,15,100000] [n 16 .eql 14 0,s 15 16] (.pk [1,100000] (.cond (.t 15) (r [6,100000] [m 17 1,m 18 7,y (.bN 19 (.t 17) none (some (.t 18))),s 6 19]) (a [0,1,2,7,20,100000] [n 21 .eql 14 1,s 20 21] (.pk [1,100000] (.cond (.t 20) (.seq (.draw (.step 3 (m 25 0) (.step 4 (m 26 2) (.alt (.step 0 (m 22 1) (.kp [0,1,2,7,22,25,26,100000] (.alt (.step 1 (m 23 7) (.kp [0,1,2,7,22,23,25,26,100000] og)) (.alt (.step 5 (y (.call (some 27) 54 [(.t 25,.mut 3),(.t 26,.ak)])) (.kp [1,7,22,27,100000] oh)) (.alt (.step 7 (m 29 1) (.kp [0,2,7,22,25,26,29,100000] ou)) (.step 8 (m 30 7) (.kp [0,1,2,7,22,25,26,30,100000] ox))))))) (.alt (.step 1 (m 23 7) (.kp [0,1,2,7,23,25,26,100000] (.alt (.step 0 (m 22 1) (.kp [0,1,2,7,22,23,25,26,100000] og)) (.alt (.step 5 (y (.call (some 27) 54 [(.t 25,.mut 3),(.t 26,.ak)])) (.kp [1,7,23,27,100000] (.step 0 (m 22 1) lG))) (.alt (.step 7 (m 29 1) (.kp [0,1,2,7,23,25,26,29,100000] oz)) (.step 8 (m 30 7) (.kp [0,1,2,23,25,26,30,100000] oA))))))) (.alt (.step 5 (y (.call (some 27) 54 [(.t 25,.mut 3),(.t 26,.ak)])) (.kp [1,7,27,100000] (.step 0 (m 22 1) oh))) (.alt (.step 7 (m 29 1) (.kp [0,1,2,7,25,26,29,100000] (.alt (.step 0 (m 22 1) (.kp [0,2,7,22,25,26,29,100000] ou)) (.alt (.step 1 (m 23 7) (.kp [0,1,2,7,23,25,26,29,100000] oz)) (.alt (.step 5 (y (.call (some 27) 54 [(.t 25,.mut 3),(.t 26,.ak)])) (.kp [1,7,27,29,100000] (.step 0 (m 22 1) om))) (.step 8 (m 30 7) (.kp [0,1,2,7,25,26,29,30,100000] oB))))))) (.step 8 (m 30 7) (.kp [0,1,2,7,25,26,30,100000] (.alt (.step 0 (m 22 1) (.kp [0,1,2,7,22,25,26,30,100000] ox)) (.alt (.step 1 (m 23 7) (.kp [0,1,2,23,25,26,30,100000] oA)) (.alt (.step 5 (y (.call (some 27) 54 [(.t 25,.mut 3),(.t 26,.ak)])) (.kp [1,7,27,30,100000] (.step 0 (m 22 1) ov))) (.step 7 (m 29 1) (.kp [0,1,2,7,25,26,29,30,100000] oB)))))))))))))) .ret) .skip))))))))) (r [6,100000] [m 33 1,s 6 33])))
def uD : A:=j [0,1,6,11] [m 8 6,m 9 0,E 10 9,b 11 .lss 8 10] [0,1,6] 11 .skip (.exit 0) (.seq (.pk [0,1,6] (.block 1 (a [0,1,6,17] [m 14 0,m 15 6,y (.dO 16 (.t 14) (.t 15)),y (.bin 17 .eql (.t 16) (.k (.int .u8 10)))] (.pk [0,1,6] (.cond (.t 17) (r [4,5] [m 18 0,m 19 1,m 20 6,y (.bN 21 (.t 18) (some (.t 19)) (some (.t 20))),m 22 6,n 23 .add 22 1,s 4 21,s 5 23]) .skip))))) (o [0,1,6] [m 12 6,n 13 .add 12 1,s 6 13]))
def n7 : A:=uD
def n8 : A:=a [0,1] [y (.bn 4 .bh (.k (.str ⟨#[]⟩))),v 5 0] (.seq (a [0,1,6] [m 7 1,s 6 7] (.pk [] (.block 0 (.loop n7)))) (r [4,5] [y (.bn 4 .bh (.k (.str ⟨#[]⟩))),v 5 (-1)]))
def oH : A:=j [0,3,4,5,10] [m 7 5,m 8 0,E 9 8,b 10 .leq 7 9] [0,3,4,5] 10 .skip (.exit 0) (.seq (.pk [0,3,4,5] (.block 1 (a [0,3,4,5,22] [m 13 5,m 14 0,E 15 14,b 16 .eql 13 15,m 17 16,h 17 (m 18 0),h 17 (m 19 5),h 17 (.dO 20 (.t 18) (.t 19)),h 17 (.bin 21 .eql (.t 20) (.k (.int .u8 32))),q 22 17 21] (.pk [0,3,4,5] (.cond (.t 22) (a [0,3,5] [m 23 3,m 24 0,m 25 4,m 26 5,y (.bN 27 (.t 24) (some (.t 25)) (some (.t 26))),y (.lit 28 .mv 1 [.t 27]),y (.app 29 .mv 1 16 (.t 23) (.t 28)),s 3 29] (o [0,3,4,5] [m 30 5,n 31 .add 30 1,s 4 31])) .skip))))) (o [0,3,4,5] [m 11 5,n 12 .add 11 1,s 5 12]))
def j9 : A:=oH
def q8 : A:=a [0] [y (.bn 2 .bh (.k (.row .own 1 [])))] (a [0,3] [y (.lit 6 .mv 1 []),s 3 6] (a [0,3,4] [v 4 0] (.seq (a [0,3,4,5] [v 5 0] (.pk [3] (.block 0 (.loop j9)))) (r [2,3] [m 32 3,s 2 32]))))
def j6 : A:=j [0,4,5,16] [m 13 5,m 14 0,E 15 14,b 16 .lss 13 15] [0,4,5] 16 .skip (.exit 0) (.seq (.pk [0,4,5] (.block 1 (i [0,4,5,28] [m 19 0,m 20 5,y (.dO 21 (.t 19) (.t 20)),y (.bin 22 .lss (.t 21) (.k (.int .u8 48))),m 23 22,h 23 (m 24 0),h 23 (m 25 5),h 23 (.dO 26 (.t 24) (.t 25)),h 23 (.bin 27 .gtr (.t 26) (.k (.int .u8 57))),q 28 23 27] [0,4,5] 28 (r [2,3] [v 2 0,F 3]) (o [0,4,5] [m 29 4,y (.bin 30 .mul (.k (.int .i64 10)) (.t 29)),m 31 0,m 32 5,y (.dO 33 (.t 31) (.t 32)),y (.conv 34 .i64 (.t 33)),b 35 .add 30 34,n 36 .sub 35 48,s 4 36])))) (o [0,4,5] [m 17 5,n 18 .add 17 1,s 5 18]))
def fW : A:=j6
def jf : A:=a [0] [v 2 0,F 3] (i [0,12] [m 6 0,y (.bin 7 .eql (.t 6) (.k (.str ⟨#[]⟩))),m 8 7,h 8 (m 9 0),h 8 (E 10 9),h 8 (n 11 .gtr 10 7),q 12 8 11] [0] 12 (r [2,3] [v 2 0,F 3]) (a [0,4] [v 4 0] (.seq (a [0,4,5] [v 5 0] (.pk [0,4] (.block 0 (.loop fW)))) (i [4,40] [m 37 4,c1 38 60 37,m 39 0,b 40 .neq 38 39] [4] 40 (r [2,3] [v 2 0,F 3]) (r [2,3] [m 41 4,s 2 41,T 3])))))
def q7 : A:=a [0,1,100000] [y (.bn 4 .bh (.k (.str ⟨#[]⟩)))] (r [4,100000] [m 5 1,m 6 0,m 7 1,e 8 7,y (.call (some 9) 29 [(.t 6,.mut 3),(.t 8,.ak)]),d 10 1 5 9,l 11 1 10,s 4 11])
def lD : A:=a [0,100000] [v 2 0] (a [0,100000] [m 4 0,m 5 0,y (.dm 6 (.t 5)),f 7 6 2,l 8 1 7,n 9 .mul 8 6364136223846793005,n 10 .add 9 1442695040888963407,y (.dm 11 (.t 4)),f 12 11 2,w 1 12 10] (.seq (.draw (.step 0 (m 13 0) (.step 1 (y (.dm 14 (.t 13))) (.step 2 (f 15 14 2) (.step 3 (l 16 1 15) (.step 4 (y (.bin 17 .shr (.t 16) (.k (.int .u64 33)))) (.step 5 (m 18 0) (.step 6 (y (.dm 19 (.t 18))) (.step 7 (f 20 19 2) (.step 8 (l 21 1 20) (.step 9 (y (.bin 22 .shr (.t 21) (.k (.int .u64 45)))) (.step 10 (b 23 .xor 17 22) (.step 11 (n 24 .and 23 255) (.step 12 (s 3 24) (.nil [0,3,100000]))))))))))))))) (.seq (.seq (.draw (.step 0 (m 25 0) (.step 1 (y (.dm 26 (.t 25))) (.step 2 (f 27 26 1) (.step 3 (l 28 1 27) (.step 4 (m 29 0) (.step 5 (y (.dm 30 (.t 29))) (.step 6 (f 31 30 0) (.step 7 (l 32 1 31) (.step 8 (e 33 32) (.step 9 (b 34 .lss 28 33) (.nil [0,3,34,100000])))))))))))) (.pk [3,100000] (.cond (.t 34) (.seq (.draw (.step 0 (m 35 3) (.step 1 (m 36 0) (.step 2 (y (.dm 37 (.t 36))) (.step 3 (f 38 37 0) (.step 4 (l 39 1 38) (.step 5 (m 40 0) (.step 6 (y (.dm 41 (.t 40))) (.step 7 (f 42 41 1) (.step 8 (l 43 1 42) (.step 9 (d 44 1 39 43) (.step 10 (l 45 1 44) (.step 11 (y (.conv 46 .i64 (.t 45))) (.step 12 (b 47 .add 35 46) (.step 13 (n 48 .and 47 255) (.step 14 (s 3 48) (.nil [0,3,100000]))))))))))))))))) (o [3,100000] [m 49 0,m 50 0,y (.dm 51 (.t 50)),f 52 51 1,l 53 1 52,n 54 .add 53 1,y (.dm 55 (.t 49)),f 56 55 1,w 1 56 54])) .skip))) (r [2,100000] [m 57 3,s 2 57]))))
def qS : A:=j [0,3,10] [m 9 0,n 10 .gtr 9 0] [0,3] 10 .skip (.exit 0) (.pk [0,3] (.block 1 (a [0,3] [m 11 0,n 12 .rem 11 10,y (.bin 13 .add (.k (.int .i64 48)) (.t 12)),y (.conv 14 .u8 (.t 13)),y (.lit 15 .mv 1 [.t 14]),y (.text 16 (.t 15)),m 17 3,b 18 .add 16 17,s 3 18] (o [0,3] [m 19 0,n 20 .quo 19 10,s 0 20]))))
def uB : A:=qS
def lB : A:=a [0] [y (.bn 2 .bh (.k (.str ⟨#[]⟩)))] (i [0,6] [m 4 0,y (.call (some 5) 33 [(.t 4,.ak),(.k (.int .i64 0),.ak),(.k (.int .i64 1000000),.ak)]),u 6 5] [0] 6 (r [2] [y (.bn 2 .bh (.k (.str ⟨#[]⟩)))]) (i [0,8] [m 7 0,n 8 .eql 7 0] [0] 8 (r [2] [y (.bn 2 .bh (.k (.str ⟨#[48]⟩)))]) (a [0,3] [y (.bn 3 .bh (.k (.str ⟨#[]⟩)))] (.seq (.pk [3] (.block 0 (.loop uB))) (r [2] [m 21 3,s 2 21])))))
def TT : dF:=fun f=>match f with
 | 3=>some ⟨ja,[.t 2],1⟩
 | 6=>some ⟨qA,[.t 2],1⟩
 | 7=>some ⟨lA,[.t 2,.t 3],1⟩
 | 8=>some ⟨kU,[.t 4],2⟩
 | 9=>some ⟨lC,[.t 4],2⟩
 | 10=>some ⟨fR,[.t 2,.t 3,.t 4],1⟩
 | 11=>some ⟨kY,[.t 4],2⟩
 | 12=>some ⟨qP,[.t 2],1⟩
 | 13=>some ⟨hO,[.t 2,.t 3,.t 4],1⟩
 | 14=>some ⟨qR,[.t 2],1⟩
 | 15=>some ⟨qv,[.t 2],1⟩
 | 16=>some ⟨qT,[.t 2],1⟩
 | 26=>some ⟨qZ,[.t 2],1⟩
 | 27=>some ⟨qW,[.t 2],1⟩
 | 28=>some ⟨q5,[.t 4],2⟩
 | 29=>some ⟨j7,[.t 4],2⟩
 | 30=>some ⟨q6,[.t 4],2⟩
 | 31=>some ⟨qw,[.t 6],3⟩
 | 33=>some ⟨qX,[.t 6],3⟩
 | 34=>some ⟨n9,[.t 2],1⟩
 | 38=>some ⟨jg,[.t 6],3⟩
 | 39=>some ⟨n8,[.t 4,.t 5],2⟩
 | 40=>some ⟨q8,[.t 2],1⟩
 | 41=>some ⟨jf,[.t 2,.t 3],1⟩
 | 54=>some ⟨q7,[.t 4],2⟩
 | 55=>some ⟨lD,[.t 2],1⟩
 | 60=>some ⟨lB,[.t 2],1⟩
 | _=>none
end M
namespace M
open Go
def LI : aN:=gU (fB 37 qK) (gU (gX 32 nE) (gU (fB 35 pJ) (fB 36 ry)))
theorem Aw (s : aj) (h : s.length≤9223372036854775807) : ev LI TT 37 [.str ⟨s.toArray⟩] = some (.ai [.int .i64 (((bH s).getD 0 : Nat) : Int),.bool (bH s).isSome],[.dead]):=by
 rw [pU rfl]; cases hn : bH s <;> simp [LI,gU,fB,gX,pH,qK,h,hn]
theorem sj (n : Nat) (h : n < 10 ^ 18) : ev LI TT 32 [.int .i64 (n : Int)] = some (.str ⟨(ay n).toArray⟩,[.dead]):=by
 rw [pU rfl]; have:=C7 32 n h; simp [LI,gU,fB,pH,this]
theorem AF (s c : aj) (h : s.length < 4294967281) : ev LI TT 35 [.str ⟨s.toArray⟩,.str ⟨c.toArray⟩] = some (.ai [.str ⟨(Lib.cut s c).1.toArray⟩,.str ⟨(Lib.cut s c).2.1.toArray⟩,.bool (Lib.cut s c).2.2],[.dead,.dead]):=by
 rw [pU rfl]; simp [LI,gU,fB,gX,pH,pJ,uH,h]
theorem vt (s : aj) (c : UInt8) (h : s.length < 4294967281) : ev LI TT 36 [.str ⟨s.toArray⟩,.str ⟨#[c]⟩] = some (.row .own 1 ((br c s).map eS),[.dead,.dead]):=by
 rw [pU rfl]; simp [LI,gU,fB,gX,pH,ry,ux,h,Fm,ByteArray.size]
end M
