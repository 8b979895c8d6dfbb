/-
  The program as a system of the abstract machine.
-/
import Derived.Test.YtkfngecllhhooaaGreatDoorMf
import Derived.KernelRfl
import Derived.Test.YtkfngecllhhooaaGreatDoorProg
set_option linter.all false
set_option maxRecDepth 100000
namespace Go.Abs
abbrev om(d a:Nat):aj:=⟨some d,.mov (.t a),none,0⟩
abbrev of(d f a:Nat):aj:=⟨some d,.abr f (.t a),none,0⟩
abbrev ol(d a:Nat):aj:=⟨some d,.load none (.t a),none,0⟩
abbrev ox(d s a:Nat):aj:=⟨some d,.load (some s) (.t a),none,0⟩
abbrev oo(d:Nat)(x:vQ):aj:=⟨some d,x,none,0⟩
abbrev op(x:vQ):aj:=⟨none,x,none,0⟩
abbrev ob(d:Nat)(b:BinOp)(x y:aC):aj:=⟨some d,.bin b x y,none,0⟩
abbrev oi(d z a b:Nat):aj:=⟨some d,.aaU z (.t a) (.t b),none,0⟩
abbrev oc(d s f:Nat)(a:List aC):aj:=⟨some d,.call s (.k (.one (.p (.fn f [] [])))) a,none,0⟩
abbrev dm(d a n:Nat):aj:=⟨some d,.mov (.t a),none,n⟩
abbrev df(d f a n:Nat):aj:=⟨some d,.abr f (.t a),none,n⟩
abbrev dl(d a n:Nat):aj:=⟨some d,.load none (.t a),none,n⟩
abbrev dx(d s a n:Nat):aj:=⟨some d,.load (some s) (.t a),none,n⟩
abbrev di(d z a b n:Nat):aj:=⟨some d,.aaU z (.t a) (.t b),none,n⟩
abbrev db(d:Nat)(b:BinOp)(x y:aC)(n:Nat):aj:=⟨some d,.bin b x y,none,n⟩
abbrev dc(d s f:Nat)(a:List aC)(n:Nat):aj:=⟨some d,.call s (.k (.one (.p (.fn f [] [])))) a,none,n⟩
abbrev os(z a b:Nat):aj:=⟨none,.store z (.t a) (.t b),none,0⟩
abbrev on(d a:Nat):aj:=⟨some d,.aa5 (.t a),none,0⟩
abbrev mb(d:Nat)(b:Bool):aj:=⟨some d,.mov (.b b),none,0⟩
abbrev mi(d:Nat)(k:Int):aj:=⟨some d,.mov (.i k),none,0⟩
abbrev ot(d:Nat)(b:BinOp)(x y:Nat):aj:=⟨some d,.bin b (.t x) (.t y),none,0⟩
abbrev oj(d:Nat)(b:BinOp)(x:Nat)(y:Int):aj:=⟨some d,.bin b (.t x) (.i y),none,0⟩
abbrev dt(d:Nat)(b:BinOp)(x y n:Nat):aj:=⟨some d,.bin b (.t x) (.t y),none,n⟩
abbrev dj(d:Nat)(b:BinOp)(x:Nat)(y:Int)(n:Nat):aj:=⟨some d,.bin b (.t x) (.i y),none,n⟩
abbrev oh(d a:Nat):aj:=⟨some d,.adr (.t a),none,0⟩
abbrev oe(d a k:Nat):aj:=⟨some d,.extract (.t a) k,none,0⟩
abbrev ct(a:Nat)(x y:am):am:=.cond (.t a) x y
abbrev rf(l:List aj):am:=.region false l
abbrev rt(l:List aj):am:=.region true l
abbrev il(k:Int):PV:=.int .i64 k
abbrev od(d:Nat)(x:vQ)(n:Nat):aj:=⟨some d,x,none,n⟩
abbrev ai(l:List aj)(c:am):am:=.seq (.region false l) c
abbrev ko(l:List aj)(c:am):am:=.seq (.region true l) c
abbrev bd(l:List aj):am:=.seq (.region false l) .ret
abbrev jZ(c:am):am:=.block 0 (.loop c)
abbrev lJ(a:Nat):am:=.cond (.t a) .skip (.exit 0)
abbrev ju(d:Nat):aj:=⟨some d,.mov (.k (.one (.p .nils))),none,0⟩
abbrev Yc(d:Nat):aj:=⟨some d,.mov (.k (.one (.p .abN))),none,0⟩
abbrev eG:PV:=.bool false
abbrev Yf(d:Nat)(a b:Nat)(y:Nat):aj:=⟨some d,.load (some a) (.t b),some (y,false),0⟩
abbrev So(d:Nat)(a b:Nat)(l:List aC)(y:Nat):aj:=⟨some d,.call a (.k (.one (.p (.fn b [] [])))) l,some (y,false),0⟩
abbrev wC(d:Nat)(a:BinOp)(b:Nat)(c:Int)(y:Nat):aj:=⟨some d,.bin a (.t b) (.i c),some (y,false),0⟩
abbrev mz(d:Nat)(a b:Nat)(y:Nat):aj:=⟨some d,.abr a (.t b),some (y,false),0⟩
abbrev qj(d:Nat)(a:Nat)(y:Nat):aj:=⟨some d,.load none (.t a),some (y,false),0⟩
abbrev tJ(d:Nat)(a b:Nat)(y:Nat)(n:Nat):aj:=⟨some d,.abr a (.t b),some (y,false),n⟩
abbrev vR(d:Nat)(a:Nat)(y:Nat)(n:Nat):aj:=⟨some d,.load none (.t a),some (y,false),n⟩
abbrev X8(d:Nat)(a:Nat)(y:Nat)(n:Nat):aj:=⟨some d,.aa5 (.t a),some (y,false),n⟩
abbrev X7(d:Nat)(a:BinOp)(b:Nat)(c:Nat)(y:Nat)(n:Nat):aj:=⟨some d,.bin a (.t b) (.t c),some (y,false),n⟩
abbrev Yj(d:Nat)(a:BinOp)(b:Nat)(c:Int)(y:Nat)(n:Nat):aj:=⟨some d,.bin a (.t b) (.i c),some (y,false),n⟩
abbrev jc(d:Nat)(a:Nat)(y:Nat):aj:=⟨some d,.mov (.t a),some (y,false),0⟩
abbrev my(d:Nat)(a b:Nat)(y:Nat):aj:=⟨some d,.abr a (.t b),some (y,true),0⟩
abbrev qe(d:Nat)(a:Nat)(y:Nat):aj:=⟨some d,.load none (.t a),some (y,true),0⟩
abbrev Ql(d:Nat)(o:vQ)(y:Nat):aj:=⟨some d,o,some (y,true),0⟩
abbrev Ku(d:Nat)(a b:Nat)(y:Nat):aj:=⟨some d,.pick (.t a) (.t b) (.b false),some (y,false),0⟩
abbrev lc(d:Nat)(a:Nat)(y:Nat):aj:=⟨some d,.mov (.t a),some (y,true),0⟩
abbrev V0(d:Nat)(a:Nat)(y:Nat):aj:=⟨some d,.aa5 (.t a),some (y,true),0⟩
abbrev Sm(d:Nat)(a b:Nat)(y:Nat):aj:=⟨some d,.load (some a) (.t b),some (y,true),0⟩
abbrev MJ(d:Nat)(a b:Nat)(l:List aC)(y:Nat):aj:=⟨some d,.call a (.k (.one (.p (.fn b [] [])))) l,some (y,true),0⟩
abbrev AM(d:Nat)(a:BinOp)(b:Nat)(c:Int)(y:Nat):aj:=⟨some d,.bin a (.t b) (.i c),some (y,true),0⟩
abbrev nV(a b c:Nat)(n:Nat):aj:=⟨none,.store a (.t b) (.t c),none,n⟩
abbrev AO(d:Nat)(a:Nat)(y:Nat)(n:Nat):aj:=⟨some d,.mov (.t a),some (y,false),n⟩
abbrev X9(d:Nat)(a b c:Nat)(y:Nat)(n:Nat):aj:=⟨some d,.aaU a (.t b) (.t c),some (y,false),n⟩
abbrev ML(d:Nat)(a:BinOp)(b:Nat)(c:Nat)(y:Nat):aj:=⟨some d,.bin a (.t b) (.t c),some (y,false),0⟩
abbrev xz(d:Nat)(a:Nat)(y:Nat)(n:Nat):aj:=⟨some d,.mov (.t a),some (y,true),n⟩
abbrev Hn_(d:Nat)(a:Nat)(y:Nat)(n:Nat):aj:=⟨some d,.aa5 (.t a),some (y,true),n⟩
abbrev Jr(d:Nat)(a b:Nat)(y:Nat)(n:Nat):aj:=⟨some d,.abr a (.t b),some (y,true),n⟩
abbrev EB(d:Nat)(a:Nat)(y:Nat)(n:Nat):aj:=⟨some d,.load none (.t a),some (y,true),n⟩
abbrev Hz_(d:Nat)(o:vQ)(y:Nat)(n:Nat):aj:=⟨some d,o,some (y,true),n⟩
abbrev Sc(d:Nat)(a b c:Nat)(y:Nat)(n:Nat):aj:=⟨some d,.aaU a (.t b) (.t c),some (y,true),n⟩
abbrev Ht_(d:Nat)(a:BinOp)(b:Nat)(c:Nat)(y:Nat)(n:Nat):aj:=⟨some d,.bin a (.t b) (.t c),some (y,true),n⟩
abbrev Gq_(d:Nat)(a b:Nat)(y:Nat)(n:Nat):aj:=⟨some d,.pick (.t a) (.t b) (.b false),some (y,false),n⟩
abbrev Zw(d:Nat)(a:Nat)(y:Nat):aj:=⟨some d,.aa5 (.t a),some (y,false),0⟩
abbrev V2(d:Nat)(a:Nat)(y:Nat):aj:=⟨some d,.un .not (.t a),some (y,false),0⟩
abbrev Xh(d:Nat)(a:Nat)(y:Nat):aj:=⟨some d,.un .not (.t a),some (y,true),0⟩
abbrev Zu(d:Nat)(o:vQ)(y:Nat):aj:=⟨some d,o,some (y,false),0⟩
abbrev St(d:Nat)(a:BinOp)(b:Nat)(c:Int)(y:Nat)(n:Nat):aj:=⟨some d,.bin a (.t b) (.i c),some (y,true),n⟩
abbrev hp_(d:Nat)(a b:Nat)(y:Nat):aj:=⟨some d,.pick (.t a) (.b true) (.t b),some (y,true),0⟩
abbrev Zt(d:Nat)(a:BinOp)(b:Nat)(c:Nat)(y:Nat):aj:=⟨some d,.bin a (.t b) (.t c),some (y,true),0⟩
abbrev Gu_(d:Nat)(a:Nat)(y:Nat)(n:Nat):aj:=⟨some d,.un .not (.t a),some (y,false),n⟩
abbrev Gz_(d:Nat)(o:vQ)(y:Nat)(n:Nat):aj:=⟨some d,o,some (y,false),n⟩
abbrev Gc_(d:Nat)(a b:Nat)(l:List aC)(y:Nat)(n:Nat):aj:=⟨some d,.call a (.k (.one (.p (.fn b [] [])))) l,some (y,false),n⟩
abbrev gi_(d:Nat)(a b c:Nat)(y:Nat):aj:=⟨some d,.aaU a (.t b) (.t c),some (y,false),0⟩
abbrev V1(d:Nat)(a b c:Nat)(y:Nat):aj:=⟨some d,.aaU a (.t b) (.t c),some (y,true),0⟩
abbrev gp_(d:Nat)(a b:Nat)(y:Nat):aj:=⟨some d,.pick (.t a) (.b true) (.t b),some (y,false),0⟩
abbrev gh_(d:Nat)(a:Nat)(y:Nat):aj:=⟨some d,.adr (.t a),some (y,false),0⟩
abbrev Hc_(d:Nat)(a b:Nat)(l:List aC)(y:Nat)(n:Nat):aj:=⟨some d,.call a (.k (.one (.p (.fn b [] [])))) l,some (y,true),n⟩
abbrev Hu_(d:Nat)(a:Nat)(y:Nat)(n:Nat):aj:=⟨some d,.un .not (.t a),some (y,true),n⟩
abbrev Hx_(d:Nat)(a b:Nat)(y:Nat)(n:Nat):aj:=⟨some d,.load (some a) (.t b),some (y,true),n⟩
abbrev Gx_(d:Nat)(a b:Nat)(y:Nat)(n:Nat):aj:=⟨some d,.load (some a) (.t b),some (y,false),n⟩
abbrev hh_(d:Nat)(a:Nat)(y:Nat):aj:=⟨some d,.adr (.t a),some (y,true),0⟩
abbrev iU(d:Nat)(a b:Nat):aj:=⟨some d,.box a (.t b),none,0⟩
abbrev mf(d:Nat)(a b:Nat):aj:=⟨some d,.pick (.t a) (.b true) (.t b),none,0⟩
abbrev xj(d:Nat)(a:Nat):aj:=⟨some d,.un .not (.t a),none,0⟩
abbrev Ho(d:Nat)(a b:Nat)(n:Nat):aj:=⟨some d,.pick (.t a) (.b true) (.t b),none,n⟩
abbrev pZ(d:Nat)(a b:Nat):aj:=⟨some d,.pick (.t a) (.t b) (.b false),none,0⟩
abbrev kJ(d:Nat)(a:Nat)(n:Nat):aj:=⟨some d,.aa5 (.t a),none,n⟩
abbrev Ke_(d:Nat)(a b:Nat)(n:Nat):aj:=⟨some d,.extract (.t a) b,none,n⟩
abbrev Lf(d:Nat)(a:Nat)(n:Nat):aj:=⟨some d,.adr (.t a),none,n⟩
abbrev Az(d:Nat)(a b c e g h:Nat):aj:=⟨some d,.append a b c e (.t g) (.t h),none,0⟩
abbrev NE(d:Nat)(a b c e g h:Nat)(n:Nat):aj:=⟨some d,.append a b c e (.t g) (.t h),none,n⟩
abbrev Kb_(d:Nat)(a b:Nat)(n:Nat):aj:=⟨some d,.box a (.t b),none,n⟩
abbrev Vh(d:Nat)(a b:Nat)(n:Nat):aj:=⟨some d,.pick (.t a) (.t b) (.b false),none,n⟩
abbrev Ku_(d:Nat)(a:Nat)(n:Nat):aj:=⟨some d,.un .not (.t a),none,n⟩
def i8:cX:=⟨11,[(2,none)],(ai [iU 1 512000000 0,mi 2 0] (ai [ox 6 2 1,oc 7 512064064 20 [.t 6],om 5 7,oe 8 5 0,oe 9 5 1,om 3 8,om 4 9] (bd [om 10 4,om 2 10])))⟩
def i20:cX:=⟨29,[(2,none),(3,none)],(ai [iU 1 1280000000 0,Yc 2,mi 3 0] (.seq (ai [of 5 1 1,ol 6 5,oh 7 6,oj 8 .gtr 7 400,om 9 8,Yf 10 2 1 9,So 11 1280064384 36 [.t 10] 9,wC 12 .gtr 11 200 9,mf 13 9 12] (ct 13 (bd [Yc 2,mi 3 7]) .skip)) (.seq (ai [of 14 0 1,ol 15 14,oj 16 .lss 15 0,om 17 16,mz 18 0 1 17,qj 19 18 17,wC 20 .gtr 19 40 17,mf 21 17 20] (ct 21 (bd [Yc 2,mi 3 2]) .skip)) (ai [ox 22 2 1,
 oo 23 (.build [il 0,.nils,.nils,.nils,.nils,.abn,.nils] [(0,2,.t 22)]),iU 24 1280320128 23,om 4 24] (.seq (ai [om 25 4,oc 26 1280384064 37 [.t 25],xj 27 26] (ct 27 (bd [Yc 2,mi 3 3]) .skip)) (bd [om 28 4,om 2 28,mi 3 0]))))))⟩
def i36_l1:am:=(ai [ot 10 .lss 9 8] (.seq (lJ 10) (.seq (.block 1 (ai [oi 11 6 7 9,ox 12 6 11,oo 5 (.alloc 2304256128 [il 0,il 0,il 0,il 0,il 0,eG]),os 6 5 12] (ai [of 13 0 5,ol 14 13,oj 15 .eql 14 2] (ct 15 (rf [om 16 3,oj 17 .add 16 1,om 3 17]) .skip)))) (rf [oj 18 .add 9 1,om 9 18]))))
def i36_r2:am:=(bd [om 19 3,om 2 19])
def i36:cX:=⟨20,[(2,none)],(ai [iU 1 2304000000 0,mi 2 0] (ai [mi 3 0] (.seq (ai [of 6 1 1,ol 7 6,oh 8 7,mi 9 0] (jZ i36_l1)) i36_r2)))⟩
def i66_l1:am:=(ai [ot 10 .lss 9 8] (.seq (lJ 10) (.seq (.block 1 (ai [oi 11 6 7 9,ox 12 6 11,oo 5 (.alloc 4224256128 [il 0,il 0,il 0,il 0,il 0,eG]),os 6 5 12] (ai [of 13 0 5,ol 14 13,oj 15 .eql 14 1] (ct 15 (rf [om 16 3,oj 17 .add 16 1,om 3 17]) .skip)))) (rf [oj 18 .add 9 1,om 9 18]))))
def i66_r2:am:=(bd [om 19 3,om 2 19])
def i66:cX:=⟨20,[(2,none)],(ai [iU 1 4224000000 0,mi 2 0] (ai [mi 3 0] (.seq (ai [of 6 1 1,ol 7 6,oh 8 7,mi 9 0] (jZ i66_l1)) i66_r2)))⟩
def i69:cX:=⟨6,[(2,none)],(ai [iU 1 4416000000 0,mi 2 0] (bd [ox 3 2 1,oc 4 4416064064 36 [.t 3],oj 5 .quo 4 2,om 2 5]))⟩
def i50:cX:=⟨11,[(2,none)],(ai [iU 1 3200000000 0,mb 2 false] (bd [ol 3 1,on 4 3,of 5 0 4,of 6 1 5,ol 7 6,oo 8 (.mkfn 65 [] [.t 1]),oc 9 3200064384 64 [.t 7,.t 8],xj 10 9,om 2 10]))⟩
def i65:cX:=⟨55,[(3,none)],(ai [iU 2 4160000000 0,mb 3 false] (.seq (ai [of 4 0 2,ol 5 4] (.block 0 (ai [oj 7 .eql 5 1,om 6 7] (ct 6 (ko [of 8 1 2,dl 9 8 1,dj 10 .lss 9 0 3,dm 11 10 7,tJ 12 1 2 11 15,vR 13 12 11 31,vR 14 1 11 15,X8 15 14 11 79,tJ 16 0 15 11 207,tJ 17 0 16 11 463,vR 18 17 11 975,X7 19 .gtr 13 18 11 2047,Ho 20 11 19 4095,dm 21 20 8191,tJ 22 3 2 21 16383,vR 23 22 21 32767,Yj 24 .neq 23 0 21 65535,
 Ho 25 21 24 131071,dm 26 25 262143,tJ 27 4 2 26 524287,vR 28 27 26 1048575,Yj 29 .neq 28 0 26 2097151,Ho 30 26 29 4194303,dm 31 30 8388607,tJ 32 5 2 31 16777215,vR 33 32 31 33554431,Ho 34 31 33 67108863,dm 3 34 134217727] .ret) (ai [oj 36 .eql 5 2,om 35 36] (ct 35 (bd [of 37 1 2,ol 38 37,oj 39 .neq 38 0,om 40 39,mz 41 2 2 40,qj 42 41 40,wC 43 .neq 42 0 40,mf 44 40 43,om 45 44,mz 46 4 2 45,qj 47 46 45,
 wC 48 .neq 47 1 45,jc 49 48 45,my 50 4 2 49,qe 51 50 49,Ql 52 (.bin .neq (.t 51) (.i (-1))) 49,Ku 53 49 52 45,mf 54 45 53,om 3 54]) .skip)))))) (bd [mb 3 true])))⟩
def i51:cX:=⟨21,[(2,none)],(ai [mb 2 false] (bd [om 3 0,on 4 3,of 5 0 4,of 6 1 5,ol 7 6,oo 8 (.aaU 6 (.t 7) (.i 0)),of 9 0 8,ol 10 9,oj 11 .eql 10 1,om 12 11,lc 13 0 12,V0 14 13 12,my 15 0 14 12,Sm 16 2 15 12,MJ 17 3264064896 66 [.t 16] 12,AM 18 .rem 17 2 12,AM 19 .eql 18 0 12,pZ 20 12 19,om 2 20]))⟩
def i52_l1:am:=(ai [ot 51 .lss 50 49] (.seq (lJ 51) (.seq (.block 1 (ai [om 52 50,oi 53 6 48 50,ox 54 6 53,oo 5 (.alloc 3328448192 [il 0,il 0,il 0,il 0,il 0,eG]),om 4 52,os 6 5 54] (ai [of 55 0 5,ol 56 55,oj 57 .eql 56 1] (ct 57 (ko [om 58 0,kJ 59 58 1,df 60 6 59 3,dl 61 60 7,of 62 1 5,dl 63 62 16,di 64 1 61 63 63,dl 65 64 127,dj 66 .add 65 1 255,di 67 1 61 63 511,nV 1 67 66 1023] (ai [om 68 0,on 69 68,of 70 2 69,ol 71 70,om 72 4,om 73 3,oi 74 1 71 72,os 1 74 73] (rf [om 75 3,xj 76 75,om 3 76]))) .skip)))) (rf [oj 77 .add 50 1,om 50 77]))))
def i52_l2:am:=(ai [ot 91 .lss 90 89] (.seq (ct 91 .skip (.exit 2)) (.seq (.block 3 (ai [om 92 90,oi 93 1 88 90,ol 94 93,om 8 92,om 9 94] (ai [om 95 6,om 96 8,om 97 7,oi 98 1 95 96,os 1 98 97] (rf [om 99 7,om 100 9,ot 101 .add 99 100,om 7 101])))) (rf [oj 102 .add 90 1,om 90 102]))))
def i52_l3:am:=(ai [ot 117 .lss 116 115] (.seq (ct 117 .skip (.exit 4)) (.seq (.block 5 (ai [om 118 116,oi 119 6 114 116,ox 120 6 119,oo 12 (.alloc 3329600192 [il 0,il 0,il 0,il 0,il 0,eG]),om 11 118,os 6 12 120] (.seq (ai [of 121 0 12,ol 122 121,oj 123 .neq 122 1] (ct 123 (.exit 5) .skip)) (.seq (ko [of 124 2 12,dl 125 124 1,dj 126 .lss 125 1 3,dm 127 126 7,tJ 128 2 12 127 15,vR 129 128 127 31,AO 130 0 127 15,X8 131 130 127 79,tJ 132 6 131 127 207,vR 133 132 127 463,tJ 134 1 12 127 15,vR 135 134 127 1039,X9 136 1 133 135 127 4047,
 vR 137 136 127 8143,X7 138 .gtr 129 137 127 16383,Ho 139 127 138 32767] (ct 139 (bd [mb 2 false]) .skip)) (ko [om 140 6,of 141 1 12,dl 142 141 2,di 143 1 140 142 7,dl 144 143 15,of 145 2 12,dl 146 145 32,dt 147 .add 144 146 127,dj 148 .sub 147 1 255,dm 13 148 511] (.seq (ai [om 149 10,om 150 13,oi 151 1 149 150,ol 152 151] (ct 152 (bd [mb 2 false]) .skip)) (rt [om 153 10,om 154 13,om 155 0,kJ 156 155 4,df 157 3 156 12,dl 158 157 28,om 159 13,om 160 0,kJ 161 160 128,df 162 4 161 384,dl 163 162 896,om 164 11,om 165 11,om 166 13,di 167 1 153 154 1983,⟨none,.store 1 (.t 167) (.b true),none,18367⟩,di 168 1 158 159 55295,nV 1 168 165 120831,di 169 1 163 164 262143,
 nV 1 169 166 524287]))))))) (rf [oj 170 .add 116 1,om 116 170]))))
def i52_r4:am:=(bd [mb 2 true])
def i52_r5:am:=(ai [om 103 0,om 104 7,oo 105 (.aaA 3329344128 3 1 8 [il 0] (.t 104) (.t 104)),on 106 103,of 107 3 106,os 1 107 105] (ai [om 108 7,oo 109 (.aaA 3329408064 4 1 1 [eG] (.t 108) (.t 108)),om 10 109] (.seq (ai [om 110 0,on 111 110,of 112 0 111,of 113 1 112,ol 114 113,oh 115 114,mi 116 0] (.block 4 (.loop i52_l3))) i52_r4)))
def i52_r6:am:=(ai [om 78 0,on 79 78,of 80 0 79,of 81 0 80,ol 82 81,oj 83 .add 82 1,oo 84 (.aaA 3328832384 3 1 8 [il 0] (.t 83) (.t 83)),om 6 84] (ai [mi 7 0] (.seq (ai [om 85 0,on 86 85,of 87 6 86,ol 88 87,oh 89 88,mi 90 0] (.block 2 (.loop i52_l2))) i52_r5)))
def i52:cX:=⟨171,[(2,none)],(ai [mb 2 false] (ai [om 14 0,om 15 0,on 16 15,of 17 0 16,of 18 0 17,ol 19 18,oj 20 .add 19 1,oo 21 (.aaA 3328064448 3 1 8 [il 0] (.t 20) (.t 20)),on 22 14,of 23 6 22,os 1 23 21] (ai [om 24 0,om 25 0,on 26 25,of 27 0 26,of 28 1 27,ol 29 28,oh 30 29,oo 31 (.aaA 3328128448 4 1 1 [eG] (.t 30) (.t 30)),on 32 24,of 33 2 32,os 1 33 31] (ai [om 34 0,om 35 0,on 36 35,of 37 0 36,of 38 1 37,ol 39 38,oh 40 39,oo 41 (.aaA 3328192448 3 1 8 [il 0] (.t 40) (.t 40)),on 42 34,of 43 4 42,os 1 43 41] (ai [mb 3 true] (.seq (ai [om 44 0,on 45 44,of 46 0 45,of 47 1 46,ol 48 47,oh 49 48,mi 50 0] (jZ i52_l1)) i52_r6))))))⟩
def i53_l1:am:=(ai [ot 28 .lss 27 26] (.seq (lJ 28) (.seq (.block 1 (ai [om 29 27,oi 30 6 25 27,ox 31 6 30,oo 5 (.alloc 3392448192 [il 0,il 0,il 0,il 0,il 0,eG]),om 4 29,os 6 5 31] (.seq (ai [of 32 0 5,ol 33 32,oj 34 .neq 33 2] (ct 34 (.exit 1) .skip)) (.seq (ai [of 35 3 5,ol 36 35,oj 37 .lss 36 1,om 38 37,mz 39 3 5 38,qj 40 39 38,jc 41 3 38,wC 42 .quo 41 2 38,ML 43 .gtr 40 42 38,mf 44 38 43] (ct 44 (bd [mb 2 false]) .skip)) (ko [om 46 0,kJ 47 46 1,df 48 5 47 3,dl 49 48 7,of 50 3 5,dl 51 50 16,od 52 (.lookup 0 [il 0,il 0] true true (.t 49) (.t 51)) 63,
 dm 45 52 127,Ke_ 53 45 0 255,Ke_ 54 45 1 255,oo 6 (.alloc 3392704640 [il 0,il 0]),nV 2 6 53 1535,dm 7 54 4095] (.seq (ai [om 55 7,xj 56 55] (ct 56 (rf [oo 57 (.build [il 0,il 0] [(0,1,.i (-1)),(1,1,.i (-1))]),os 2 6 57]) .skip)) (ai [mi 8 0] (.seq (ai [of 58 5 5,ol 59 58] (ct 59 (rf [mi 8 1]) .skip)) (.seq (ko [om 60 8,od 61 (.abg 2 1 (.t 6) (.t 60)) 1,dl 62 61 3,dj 63 .geq 62 0 7,dm 64 63 15,AO 65 7 64 31,AO 66 65 64 63,xz 67 0 66 127,Hn_ 68 67 66 255,Jr 69 0 68 66 511,Jr 70 1 69 66 1023,EB 71 70 66 2047,xz 72 8 66 127,
 Hz_ 73 (.bin .sub (.i 1) (.t 72)) 66 4223,Hz_ 74 (.abg 2 1 (.t 6) (.t 73)) 66 12415,EB 75 74 66 28799,Sc 76 6 71 75 66 65535,Jr 77 4 76 66 131071,EB 78 77 66 262143,Jr 79 4 5 66 127,EB 80 79 66 524415,Ht_ 81 .neq 78 80 66 2097151,Gq_ 82 66 81 64 4194303,Ho 83 64 82 8388607] (ct 83 (bd [mb 2 false]) .skip)) (ai [om 84 8,om 85 4,oo 86 (.abg 2 1 (.t 6) (.t 84)),os 1 86 85] (rt [om 87 0,kJ 88 87 1,df 89 5 88 3,dl 90 89 7,of 91 3 5,dl 92 91 16,ox 93 2 6,⟨none,.mupd 0 true (.t 90) (.t 92) (.t 93),none,127⟩]))))))))))) (rf [oj 94 .add 27 1,
 om 27 94]))))
def i53_r2:am:=(bd [om 95 0,on 96 95,of 97 5 96,ol 98 97,oo 99 (.mlen (.t 98)),om 100 3,oj 101 .quo 100 2,ot 102 .eql 99 101,om 2 102])
def i53:cX:=⟨103,[(2,none)],(ai [mb 2 false] (ai [om 9 0,on 10 9,of 11 0 10,ox 12 2 11,oc 13 3392064256 36 [.t 12],om 3 13] (.seq (ai [om 14 3,oj 15 .rem 14 2,oj 16 .neq 15 0] (ct 16 (bd [mb 2 false]) .skip)) (ai [om 17 0,oo 18 (.mkmap 3392256064 true),on 19 17,of 20 5 19,os 1 20 18] (.seq (ai [om 21 0,on 22 21,of 23 0 22,of 24 1 23,ol 25 24,oh 26 25,mi 27 0] (jZ i53_l1)) i53_r2)))))⟩
def i54_l1:am:=(.seq (ai [om 35 4,om 36 7,oi 37 1 35 36,ol 38 37,xj 39 38] (ct 39 .skip (.exit 2))) (.seq (.block 3 (rf [om 43 4,om 44 7,oi 45 1 43 44,op (.store 1 (.t 45) (.b true))])) (rf [om 40 0,om 41 7,oc 42 3456704128 67 [.t 40,.t 41],om 7 42])))
def i54_r2:am:=(rf [oj 46 .add 25 1,om 25 46])
def i54_l3:am:=(ai [ot 26 .lss 25 24] (.seq (lJ 26) (.seq (.block 1 (ai [om 27 25,om 6 27] (.seq (ai [om 28 4,om 29 6,oi 30 1 28 29,ol 31 30] (ct 31 (.exit 1) .skip)) (ai [om 32 5,oj 33 .add 32 1,om 5 33] (ai [om 34 6,om 7 34] (.block 2 (.loop i54_l1))))))) i54_r2)))
def i54_r4:am:=(ko [om 47 5,om 48 0,kJ 49 48 2,df 50 3 49 6,dl 51 50 14,Lf 52 51 30,om 53 0,kJ 54 53 64,df 55 5 54 192,dl 56 55 448,od 57 (.mlen (.t 56)) 960,dt 58 .add 52 57 2046,dj 59 .add 58 2 4094,dt 60 .eql 47 59 8191,dm 2 60 16383] .ret)
def i54:cX:=⟨61,[(2,none)],(ai [mb 2 false] (ko [om 8 0,kJ 9 8 1,df 10 0 9 3,df 11 1 10 7,dl 12 11 15,Lf 13 12 31,db 14 .mul (.i 2) (.t 13) 63,om 15 0,kJ 16 15 128,df 17 3 16 384,dl 18 17 896,Lf 19 18 1920,db 20 .mul (.i 2) (.t 19) 3968,dt 21 .add 14 20 8191,dm 3 21 16383] (ai [om 22 3,oo 23 (.aaA 3456128064 4 1 1 [eG] (.t 22) (.t 22)),om 4 23] (ai [mi 5 0] (.seq (ai [om 24 3,mi 25 0] (jZ i54_l3)) i54_r4)))))⟩
def i37_l1:am:=(ai [ot 25 .lss 24 23] (.seq (lJ 25) (.seq (.block 1 (ai [oi 26 1 22 24,ol 27 26,om 4 27] (ai [om 28 4,oo 29 (.call 2368384064 (.t 28) []),xj 30 29] (ct 30 (bd [mb 2 false]) .skip)))) (rf [oj 31 .add 24 1,om 24 31]))))
def i37_r2:am:=(bd [mb 2 true])
def i37:cX:=⟨32,[(2,none)],(ai [mb 2 false] (.seq (ai [om 5 0,on 6 5,of 7 0 6,of 8 1 7,ol 9 8,oh 10 9,oj 11 .eql 10 0] (ct 11 (bd [mb 2 true]) .skip)) (.seq (ai [om 12 0,oo 13 (.mkfn 50 [.t 12] []),om 14 0,oo 15 (.mkfn 51 [.t 14] []),om 16 0,oo 17 (.mkfn 52 [.t 16] []),om 18 0,oo 19 (.mkfn 53 [.t 18] []),om 20 0,oo 21 (.mkfn 54 [.t 20] []),oo 22 (.aaq 2368192640 25 1 [.t 13,.t 15,.t 17,.t 19,.t 21]),oh 23 22,mi 24 0] (jZ i37_l1)) i37_r2)))⟩
def i67:cX:=⟨156,[(4,none)],(ai [mi 4 0] (ko [om 15 0,kJ 16 15 1,df 17 0 16 3,df 18 1 17 7,dl 19 18 15,Lf 20 19 31,om 21 0,kJ 22 21 64,df 23 3 22 192,dl 24 23 448,Lf 25 24 960,dm 5 20 63,dm 6 25 4095] (.seq (ai [om 26 1,om 27 5,ob 28 .mul (.i 2) (.t 27),ot 29 .geq 26 28] (ct 29 (ai [om 30 1,om 31 5,ob 32 .mul (.i 2) (.t 31),ot 33 .sub 30 32,oj 34 .quo 33 2,om 7 34] (ai [om 35 1,oj 36 .rem 35 2,oj 37 .eql 36 0,om 8 37] (ai [om 38 0,on 39 38,of 40 3 39,ol 41 40,om 42 7,oi 43 1 41 42,ol 44 43,om 9 44] (.seq (ai [om 45 8] (ct 45 (rt [om 46 0,kJ 47 46 1,df 48 3 47 3,dl 49 48 7,om 50 7,dj 51 .add 50 1 16,om 52 6,dt 53 .rem 51 52 112,di 54 1 49 53 255,dl 55 54 511,dm 9 55 1023]) .skip)) (.seq (ai [om 56 8,om 57 0,on 58 57,of 59 2 58,ol 60 59,om 61 9,
 oi 62 1 60 61,ol 63 62,oo 64 (.eqc .bool false (.t 56) (.t 63))] (ct 64 (bd [om 65 0,om 66 9,oc 67 4288576128 80 [.t 65,.t 66],om 4 67]) .skip)) (bd [om 68 0,om 69 9,oc 70 4288640128 81 [.t 68,.t 69],om 4 70])))))) .skip)) (ai [om 71 1,oj 72 .rem 71 2,oj 73 .eql 72 0,om 10 73] (ai [om 74 1,oj 75 .quo 74 2,om 11 75] (.seq (ai [om 76 10] (ct 76 (rf [om 77 11,oj 78 .add 77 1,om 79 5,ot 80 .rem 78 79,om 11 80]) .skip)) (ai [om 81 0,on 82 81,of 83 0 82,of 84 1 83,ol 85 84,om 86 11,oi 87 6 85 86,ox 88 6 87,oo 12 (.alloc 4288960512 [il 0,il 0,il 0,il 0,il 0,eG]),os 6 12 88] (.seq (ai [of 89 0 12,ol 90 89,oj 91 .eql 90 1] (ct 91 (.seq (ai [om 92 10,om 93 0,on 94 93,of 95 2 94,ol 96 95,om 97 11,oi 98 1 96 97,ol 99 98,oo 100 (.eqc .bool false (.t 92) (.t 99))] (ct 100 (bd [om 101 5,
 ob 102 .mul (.i 2) (.t 101),om 103 0,on 104 103,of 105 4 104,ol 106 105,om 107 11,oi 108 1 106 107,ol 109 108,ob 110 .mul (.i 2) (.t 109),ot 111 .add 102 110,om 4 111]) .skip)) (bd [om 112 5,ob 113 .mul (.i 2) (.t 112),om 114 0,on 115 114,of 116 4 115,ol 117 116,om 118 11,oi 119 1 117 118,ol 120 119,oj 121 .sub 120 1,om 122 6,ot 123 .add 121 122,om 124 6,ot 125 .rem 123 124,ob 126 .mul (.i 2) (.t 125),ot 127 .add 113 126,oj 128 .add 127 1,om 4 128])) .skip)) (ko [om 129 0,kJ 130 129 1,df 131 5 130 3,dl 132 131 7,of 133 3 12,dl 134 133 16,od 135 (.lookup 0 [il 0,il 0] true false (.t 132) (.t 134)) 63,oo 13 (.alloc 4289280448 [il 0,il 0]),nV 2 13 135 255] (ai [oo 136 (.abg 2 1 (.t 13) (.i 1)),ol 137 136,om 14 137] (.seq (ai [of 138 5 12,ol 139 138] (ct 139 (rf [oo 140 (.abg 2 1 (.t 13) (.i 0)),
 ol 141 140,om 14 141]) .skip)) (.seq (ai [om 142 10,of 143 5 12,ol 144 143,of 145 4 12,ol 146 145,oj 147 .eql 146 1,oo 148 (.eqc .bool false (.t 144) (.t 147)),oo 149 (.eqc .bool false (.t 142) (.t 148))] (ct 149 (bd [om 150 0,om 151 14,oc 152 4289600128 81 [.t 150,.t 151],om 4 152]) .skip)) (bd [om 153 0,om 154 14,oc 155 4289664128 80 [.t 153,.t 154],om 4 155])))))))))))))⟩
def i81:cX:=⟨7,[(4,none)],(ai [mi 4 0] (bd [om 5 1,ob 6 .mul (.i 2) (.t 5),om 4 6]))⟩
def i80:cX:=⟨20,[(4,none)],(ai [mi 4 0] (ai [om 6 0,on 7 6,of 8 0 7,of 9 1 8,ol 10 9,oh 11 10,om 5 11] (bd [om 12 1,oj 13 .sub 12 1,om 14 5,ot 15 .add 13 14,om 16 5,ot 17 .rem 15 16,ob 18 .mul (.i 2) (.t 17),oj 19 .add 18 1,om 4 19])))⟩
def i64:cX:=⟨9,[(4,none)],(ai [mb 4 false] (bd [om 5 0,om 6 1,oc 7 4096064128 79 [.t 5,.t 6],oj 8 .geq 7 0,om 4 8]))⟩
def i79_l1:am:=(ai [ot 9 .lss 8 7] (.seq (lJ 9) (.seq (.block 1 (ai [om 10 8,om 5 10] (ai [om 11 1,om 12 0,om 13 5,oi 14 6 12 13,ox 15 6 14,oo 16 (.call 5056256320 (.t 11) [.t 15])] (ct 16 (bd [om 17 5,om 4 17]) .skip)))) (rf [oj 18 .add 8 1,om 8 18]))))
def i79_r2:am:=(bd [oo 4 (.mov (.i (-1)))])
def i79:cX:=⟨19,[(4,none)],(ai [mi 4 0] (.seq (ai [om 6 0,oh 7 6,mi 8 0] (jZ i79_l1)) i79_r2))⟩
def i68_l1:am:=(ai [ot 31 .lss 30 29] (.seq (lJ 31) (.seq (.block 1 (ai [om 32 30,om 9 32] (ai [om 33 7,om 34 9,oi 35 1 33 34,ol 36 35,xj 37 36] (ct 37 (rf [om 38 6,om 39 4,om 40 9,om 41 7,om 42 8,oc 43 4352704320 83 [.t 39,.t 40,.t 41,.t 42],oo 44 (.aaq 4352704384 135 5 [.t 43]),Az 45 4352704448 135 5 88 38 44,om 6 45]) .skip)))) (rf [oj 46 .add 30 1,om 30 46]))))
def i68_r2:am:=(bd [om 47 6,om 2 47,mi 3 0])
def i68:cX:=⟨48,[(2,none),(3,none)],(ai [iU 1 4352000000 0,ju 2,mi 3 0] (ai [ox 11 2 1,oc 12 4352064064 20 [.t 11],om 10 12,oe 13 10 0,oe 14 10 1,om 4 13,om 5 14] (.seq (ai [om 15 5,oj 16 .neq 15 0] (ct 16 (bd [om 17 5,ju 2,om 3 17]) .skip)) (ai [ju 6] (ai [om 18 4,on 19 18,of 20 0 19,of 21 1 20,ol 22 21,oh 23 22,ob 24 .mul (.i 2) (.t 23),oo 25 (.aaA 4352320448 4 1 1 [eG] (.t 24) (.t 24)),om 7 25] (ai [om 26 4,oc 27 4352384064 82 [.t 26],om 8 27] (.seq (ai [om 28 7,oh 29 28,mi 30 0] (jZ i68_l1)) i68_r2)))))))⟩
def i55_l1:am:=(ai [ot 45 .lss 44 43] (.seq (lJ 45) (.seq (.block 1 (ai [oi 46 6 42 44,ox 47 6 46,oo 9 (.alloc 3520512128 [il 0,il 0,il 0,il 0,il 0,eG]),os 6 9 47] (ai [ox 48 6 9,oo 49 (.build [il 0,il 0,il 0,il 0,il 0,eG,eG] [(0,6,.t 48)]),oo 10 (.alloc 3520576128 [il 0,il 0,il 0,il 0,il 0,eG,eG]),os 7 10 49] (.seq (ai [of 50 0 9,ol 51 50,oj 52 .eql 51 1] (ct 52 (ai [om 53 7,of 54 6 10,os 1 54 53] (ai [om 55 7,xj 56 55,om 7 56] (rt [om 57 6,kJ 58 57 1,df 59 6 58 3,dl 60 59 7,of 61 1 9,dl 62 61 16,di 63 1 60 62 63,dl 64 63 127,dj 65 .add 64 1 255,di 66 1 60 62 511,nV 1 66 65 1023]))) .skip)) (rt [om 67 6,om 68 6,kJ 69 68 2,df 70 1 69 6,dl 71 70 14,ox 72 7 10,od 73 (.aaq 3520896384 132 7 [.t 72]) 32,
 NE 74 3520896448 132 7 56 71 73 126,kJ 75 67 255,df 76 1 75 511,nV 1 76 74 1023]))))) (rf [oj 77 .add 44 1,om 44 77]))))
def i55_l2:am:=(ai [ot 89 .lss 88 87] (.seq (ct 89 .skip (.exit 4)) (.seq (.block 5 (ai [oi 90 1 86 88,ol 91 90,om 14 91] (rf [om 92 6,on 93 92,of 94 3 93,ol 95 94,om 96 14,om 97 11,oi 98 1 95 96,os 1 98 97]))) (rf [oj 99 .add 88 1,om 88 99]))))
def i55_r3:am:=(rf [oj 100 .add 80 1,om 80 100])
def i55_l4:am:=(ai [ot 81 .lss 80 79] (.seq (ct 81 .skip (.exit 2)) (.seq (.block 3 (ai [om 82 80,oi 83 5 78 80,ox 84 5 83,oo 12 (.alloc 3521152192 [eG,.nils,.nils,.nils,eG]),om 11 82,os 5 12 84] (ai [of 85 1 12,ol 86 85,oh 87 86,mi 88 0] (.block 4 (.loop i55_l2))))) i55_r3)))
def i55_r5:am:=(bd [om 101 6,om 2 101,mi 3 0])
def i55_r6:am:=(.seq (ai [om 78 4,oh 79 78,mi 80 0] (.block 2 (.loop i55_l4))) i55_r5)
def i55:cX:=⟨102,[(2,none),(3,none)],(ai [iU 1 3520000000 0,Yc 2,mi 3 0] (ai [ox 16 2 1,oc 17 3520064064 68 [.t 16],om 15 17,oe 18 15 0,oe 19 15 1,om 4 18,om 5 19] (.seq (ai [om 20 5,oj 21 .neq 20 0] (ct 21 (bd [om 22 5,Yc 2,om 3 22]) .skip)) (ko [of 23 0 1,dl 24 23 1,om 25 4,of 26 1 1,dl 27 26 8,Lf 28 27 24,db 29 .mul (.i 2) (.t 28) 56,od 30 (.aaA 3520256448 3 1 8 [il 0] (.t 29) (.t 29)) 120,ox 31 2 1,dc 32 3520256576 66 [.t 31] 256,ox 33 2 1,dc 34 3520256704 69 [.t 33] 1792,of 35 0 1,dl 36 35 4096,dj 37 .add 36 1 12288,od 38 (.aaA 3520256960 3 1 8 [il 0] (.t 37) (.t 37)) 28672,od 39 (.build [il 0,.nils,.nils,.nils,il 0,il 0,.nils] [(0,1,.t 24),(2,1,.t 25),(3,1,.t 30),(4,1,.t 32),(5,1,.t 34),(6,1,.t 38)]) 65535,
 Kb_ 40 3520257088 39 131071,dm 6 40 262143] (ai [mb 7 true] (.seq (ai [of 41 1 1,ol 42 41,oh 43 42,mi 44 0] (jZ i55_l1)) i55_r6))))))⟩
def i38:cX:=⟨22,[(4,some (some 2)),(5,none)],(ai [iU 2 2432000000 0,iU 3 2432000064 1,oo 4 (.alloc 2432000128 [il 0,.nils]),mi 5 0] (ai [ox 9 2 2,oc 10 2432064064 55 [.t 9],om 8 10,oe 11 8 0,oe 12 8 1,om 6 11,om 7 12] (.seq (ai [om 13 7,oj 14 .neq 13 0] (ct 14 (bd [oo 15 (.build [il 0,.nils] []),om 16 7,os 2 4 15,om 5 16]) .skip)) (bd [om 17 6,ox 18 7 3,oc 19 2432256128 56 [.t 17,.t 18],oe 20 19 0,oe 21 19 1,os 2 4 20,om 5 21]))))⟩
def i44:cX:=⟨25,[(4,none),(5,none)],(ai [iU 2 2816000000 0,ju 4,mi 5 0] (ai [ox 11 2 2,oc 12 2816064064 55 [.t 11],om 10 12,oe 13 10 0,oe 14 10 1,om 6 13,om 7 14] (.seq (ai [om 15 7,oj 16 .neq 15 0] (ct 16 (bd [om 17 7,ju 4,om 5 17]) .skip)) (ai [om 19 6,om 20 1,oc 21 2816256128 63 [.t 19,.t 20],om 18 21,oe 22 18 0,oe 23 18 1,om 8 22,om 9 23] (bd [om 24 8,om 4 24,mi 5 0])))))⟩
def i34_l1:am:=(ai [ot 25 .lss 24 23] (.seq (lJ 25) (.seq (.block 1 (ai [om 26 24,oi 27 7 22 24,ox 28 7 27,oo 9 (.alloc 2176448192 [il 0,il 0,il 0,il 0,eG,eG,il 0]),om 8 26,os 7 9 28] (ai [ox 30 2 2,ox 31 7 9,oc 32 2176512128 38 [.t 30,.t 31],om 29 32,oe 33 29 0,oe 34 29 1,oo 10 (.alloc 2176512384 [il 0,.nils]),os 2 10 33,om 11 34] (.seq (ai [om 35 11,oj 36 .neq 35 0] (ct 36 (bd [oo 37 (.build [il 0,.nils] []),om 38 8,om 39 11,os 2 4 37,om 5 38,om 6 39]) .skip)) (rf [ox 40 2 10,os 2 2 40]))))) (rf [oj 41 .add 24 1,om 24 41]))))
def i34_r2:am:=(bd [ox 42 2 2,om 43 1,oh 44 43,os 2 4 42,om 5 44,mi 6 0])
def i34:cX:=⟨45,[(4,some (some 2)),(5,none),(6,none)],(ai [iU 2 2176000000 0,oo 4 (.alloc 2176000064 [il 0,.nils]),mi 5 0,mi 6 0] (.seq (ai [ox 12 2 2,oc 13 2176064064 8 [.t 12],om 7 13] (ai [om 14 7,oj 15 .neq 14 0] (ct 15 (bd [oo 16 (.build [il 0,.nils] []),om 17 7,os 2 4 16,mi 5 0,om 6 17]) .skip))) (ai [of 18 1 2,ol 19 18,oc 20 2176256128 39 [.t 19],of 21 1 2,os 1 21 20] (.seq (ai [om 22 1,oh 23 22,mi 24 0] (jZ i34_l1)) i34_r2))))⟩
def i7_l1:am:=(.seq (ai [om 11 5,om 12 0,oh 13 12,ot 14 .lss 11 13] (lJ 14)) (.seq (.block 1 (ko [om 17 0,om 18 5,di 19 7 17 18 3,dx 20 7 19 7,om 21 1,om 22 5,di 23 7 21 22 48,dx 24 7 23 112,od 25 (.eqc (.str [true,true,true,true,false,false,true]) true (.t 20) (.t 24)) 255] (ct 25 (bd [mb 4 false]) .skip))) (rf [om 15 5,oj 16 .add 15 1,om 5 16])))
def i7_r2:am:=(bd [mb 4 true])
def i7:cX:=⟨26,[(4,none)],(ai [mb 4 false] (.seq (ai [om 6 0,oh 7 6,om 8 1,oh 9 8,ot 10 .neq 7 9] (ct 10 (bd [mb 4 false]) .skip)) (.seq (ai [mi 5 0] (jZ i7_l1)) i7_r2)))⟩
def i56:cX:=⟨55,[(4,some (some 2)),(5,none)],(ai [iU 3 3584000000 1,oo 4 (.alloc 3584000064 [il 0,.nils]),mi 5 0] (.seq (ai [om 10 0,ox 11 7 3,oc 12 3584064128 70 [.t 10,.t 11],xj 13 12] (ct 13 (bd [oo 14 (.build [il 0,.nils] []),os 2 4 14,mi 5 2]) .skip)) (ko [oc 16 3584192000 71 [],of 17 0 3,dl 18 17 2,od 19 (.aidx 11 1 none (.t 16) (.t 18)) 7,om 20 0,ox 21 7 3,od 22 (.call 3584192384 (.t 19) [.t 20,.t 21]) 63,dm 15 22 127,Ke_ 23 15 0 255,Ke_ 24 15 1 255,dm 6 23 511,dm 7 24 2047] (.seq (ai [om 25 7,xj 26 25] (ct 26 (bd [oo 27 (.build [il 0,.nils] []),os 2 4 27,mi 5 4]) .skip)) (.seq (ai [of 29 0 3,ol 30 29,oc 31 3584384128 72 [.t 30],om 28 31,oe 32 28 0,oe 33 28 1,om 8 32,om 9 33] (ai [om 34 0,on 35 34,of 36 1 35,
 ol 37 36,oh 38 37,om 39 8,ot 40 .add 38 39,oj 41 .gtr 40 400,om 42 41,jc 43 0 42,Zw 44 43 42,mz 45 5 44 42,qj 46 45 42,jc 47 9 42,ML 48 .add 46 47 42,wC 49 .gtr 48 100 42,mf 50 42 49] (ct 50 (bd [oo 51 (.build [il 0,.nils] []),os 2 4 51,mi 5 7]) .skip))) (bd [om 52 0,om 53 6,oc 54 3584576128 73 [.t 52,.t 53],os 2 4 54,mi 5 0]))))))⟩
def i63_l1:am:=(ai [ot 26 .lss 25 24] (.seq (ct 26 .skip (.exit 2)) (.seq (.block 3 (ai [oi 27 7 23 25,ox 28 7 27,oo 10 (.alloc 4032576128 [il 0,il 0,il 0,il 0,eG,eG,il 0]),os 7 10 28] (ai [om 30 0,ox 31 7 10,oc 32 4032640128 56 [.t 30,.t 31],om 29 32,oe 33 29 0,oe 34 29 1,oo 11 (.alloc 4032640384 [il 0,.nils]),os 2 11 33,om 12 34] (ai [om 35 12,oj 36 .eql 35 0] (ct 36 (rt [om 37 6,ox 38 7 10,od 39 (.aaq 4032768128 52 7 [.t 38]) 2,NE 40 4032768192 52 7 48 37 39 7,om 41 7,ox 42 2 11,od 43 (.aaq 4032768384 24 2 [.t 42]) 32,NE 44 4032768448 24 2 32 41 43 127,dm 6 40 255,dm 7 44 511]) .skip))))) (rf [oj 45 .add 25 1,om 25 45]))))
def i63_r2:am:=(rf [om 15 8,oj 16 .add 15 1,om 8 16])
def i63_l3:am:=(.seq (ai [om 13 8,oj 14 .leq 13 10] (lJ 14)) (.seq (.block 1 (.seq (ai [om 17 1,om 18 8,oc 19 4032384128 77 [.t 17,.t 18],xj 20 19] (ct 20 (.exit 1) .skip)) (ai [om 21 0,om 22 8,oc 23 4032448128 78 [.t 21,.t 22],oh 24 23,mi 25 0] (.block 2 (.loop i63_l1))))) i63_r2))
def i63_r4:am:=(bd [om 46 6,om 47 7,om 4 46,om 5 47])
def i63:cX:=⟨48,[(4,none),(5,none)],(ai [ju 4,ju 5] (ai [ju 6] (ai [ju 7] (.seq (ai [mi 8 1] (jZ i63_l3)) i63_r4))))⟩
def i39:cX:=⟨8,[(2,none)],(ai [ju 2] (.seq (ai [om 3 0,oo 4 (.eqc .slc false (.t 3) (.k (.one (.p (.nils)))))] (ct 4 (bd [ju 2]) .skip)) (bd [oo 5 (.aaq 2496192000 38 6 []),om 6 0,Az 7 2496192128 38 6 48 5 6,om 2 7])))⟩
def i70:cX:=⟨190,[(4,none)],(ai [iU 3 4480000000 1,mb 4 false] (ai [om 11 0,on 12 11,of 13 1 12,ol 14 13,oh 15 14,oo 5 (.alloc 4480064320 [il 0]),os 1 5 15] (ai [oo 16 (.mkfn 84 [] [.t 5]),om 6 16] (ai [mi 7 1,mb 8 false,mb 9 false,mb 10 false] (.seq (ai [of 17 0 3,ol 18 17] (.block 0 (ai [oj 20 .eql 18 2,om 19 20] (ct 19 (rf [mb 8 true]) (.seq (ai [oj 22 .eql 18 3,om 21 22] (ct 21 .skip (rf [oj 23 .eql 18 6,om 21 23]))) (ct 21 (rf [mi 7 2]) (ai [oj 25 .eql 18 5,om 24 25] (ct 24 (rf [mb 10 true]) (ai [oj 27 .eql 18 7,om 26 27] (ct 26 (rf [mi 7 2,mb 9 true]) (ai [oj 29 .eql 18 8,om 28 29] (ct 28 (rf [mi 7 3]) (.seq (ai [oj 31 .eql 18 1,om 30 31] (ct 30 .skip (ai [oj 32 .eql 18 4,om 30 32] (ct 30 .skip (ai [oj 33 .eql 18 9,
 om 30 33] (ct 30 .skip (rf [oj 34 .eql 18 10,om 30 34]))))))) (ct 30 .skip (bd [mb 4 false]))))))))))))))) (.seq (ai [om 35 9,xj 36 35,om 37 36,my 38 4 3 37,qe 39 38 37,pZ 40 37 39,om 41 40,jc 42 9 41,V2 43 42 41,jc 44 43 41,lc 45 10 44,Xh 46 45 44,Ku 47 44 46 41,jc 48 47 41,my 49 5 3 48,qe 50 49 48,Ku 51 48 50 41,mf 52 41 51,
 om 53 52,jc 54 10 53,mz 55 6 3 53,qj 56 55 53,wC 57 .neq 56 0 53,Zu 58 (.eqc .bool true (.t 54) (.t 57)) 53,mf 59 53 58,om 60 59,jc 61 10 60,jc 62 61 60,my 63 6 3 62,qe 64 63 62,AM 65 .neq 64 1 62,Ku 66 62 65 60,jc 67 66 60,my 68 6 3 67,qe 69 68 67,Ql 70 (.bin .neq (.t 69) (.i (-1))) 67,Ku 71 67 70 60,
 mf 72 60 71] (ct 72 (bd [mb 4 false]) .skip)) (.seq (ai [om 73 8] (ct 73 (ko [om 74 6,of 75 1 3,dl 76 75 2,od 77 (.call 4481536192 (.t 74) [.t 76]) 7,dm 78 77 15,vR 79 5 78 31,Yj 80 .eql 79 0 78 63,AO 81 80 78 127,Jr 82 1 3 81 255,EB 83 82 81 511,St 84 .eql 83 0 81 1023,Gq_ 85 81 84 78 2047,Ho 86 78 85 4095,dm 87 86 8191,Jr 88 2 3 87 16383,EB 89 88 87 32767,St 90 .geq 89 0 87 65535,Vh 91 87 90 131071,
 dm 92 91 262143,Jr 93 2 3 92 524287,EB 94 93 92 1048575,xz 95 0 92 524287,Hn_ 96 95 92 2621439,Jr 97 0 96 92 6815743,EB 98 97 92 15204351,Ht_ 99 .leq 94 98 92 33554431,Vh 100 92 99 67108863,dm 101 100 134217727,Jr 102 3 3 101 268435455,EB 103 102 101 536870911,St 104 .geq 103 0 101 1073741823,Vh 105 101 104 2147483647,dm 106 105 4294967295,Jr 107 3 3 106 8589934591,EB 108 107 106 17179869183,
 xz 109 0 106 8589934591,Hn_ 110 109 106 42949672959,Jr 111 6 110 106 111669149695,EB 112 111 106 249108103167,Jr 113 2 3 106 8589934591,EB 114 113 106 558345748479,Sc 115 1 112 114 106 2173253451775,EB 116 115 106 4372276707327,Ht_ 117 .leq 108 116 106 8796093022207,Vh 118 106 117 17592186044415,dm 4 118 35184372088831] .ret) .skip)) (.seq (ai [om 119 6,of 120 1 3,ol 121 120,oo 122 (.call 4481600192 (.t 119) [.t 121]),xj 123 122,om 124 123,jc 125 7 124,wC 126 .lss 125 2 124,
 jc 127 126 124,my 128 2 3 127,qe 129 128 127,AM 130 .neq 129 0 127,Ku 131 127 130 124,mf 132 124 131,om 133 132,jc 134 7 133,wC 135 .lss 134 3 133,jc 136 135 133,my 137 3 3 136,qe 138 137 136,AM 139 .neq 138 0 136,Ku 140 136 139 133,mf 141 133 140,om 142 141,jc 143 7 142,wC 144 .geq 143 2 142,
 jc 145 144 142,lc 146 6 145,my 147 2 3 145,qe 148 147 145,Ql 149 (.call 4481601920 (.t 146) [.t 148]) 145,Xh 150 149 145,Ku 151 145 150 142,mf 152 142 151,om 153 152,jc 154 7 153,wC 155 .eql 154 3 153,jc 156 155 153,lc 157 6 156,my 158 3 3 156,qe 159 158 156,Ql 160 (.call 4481602624 (.t 157) [.t 159]) 156,Xh 161 160 156,
 Ku 162 156 161 153,mf 163 153 162] (ct 163 (bd [mb 4 false]) .skip)) (.seq (ai [om 164 9] (ct 164 (bd [of 165 1 3,ol 166 165,of 167 2 3,ol 168 167,ot 169 .neq 166 168,om 4 169]) .skip)) (bd [om 170 7,oj 171 .lss 170 2,om 172 171,mz 173 1 3 172,qj 174 173 172,mz 175 2 3 172,qj 176 175 172,ML 177 .lss 174 176 172,jc 178 177 172,lc 179 7 178,AM 180 .lss 179 3 178,lc 181 180 178,mz 182 2 3 181,
 qj 183 182 181,mz 184 3 3 181,qj 185 184 181,ML 186 .lss 183 185 181,hp_ 187 181 186 178,Ku 188 178 187 172,mf 189 172 188,om 4 189]))))))))))⟩
def i71:cX:=⟨2,[(0,some (some 11))],(ai [oo 0 (.alloc 4544000000 [.aaI,.aaI,.aaI,.aaI,.aaI,.aaI,.aaI,.aaI,.aaI,.aaI,.aaI])] (bd [oo 1 (.build [.aaI,.aaI,.aaI,.aaI,.aaI,.aaI,.aaI,.aaI,.aaI,.aaI,.aaI] [(1,1,.k (.one (.p (.fn 85 [] [])))),(2,1,.k (.one (.p (.fn 86 [] [])))),(3,1,.k (.one (.p (.fn 87 [] [])))),(4,1,.k (.one (.p (.fn 88 [] [])))),(5,1,.k (.one (.p (.fn 89 [] [])))),(6,1,.k (.one (.p (.fn 90 [] [])))),(7,1,.k (.one (.p (.fn 91 [] [])))),(8,1,.k (.one (.p (.fn 92 [] [])))),(9,1,.k (.one (.p (.fn 93 [] [])))),(10,1,.k (.one (.p (.fn 93 [] []))))]),os 11 0 1]))⟩
def i72:cX:=⟨11,[(2,none),(3,none)],(ai [mi 2 0,mi 3 0] (.seq (ai [om 4 0] (.block 0 (ai [oj 6 .eql 4 2,om 5 6] (ct 5 (bd [mi 2 2,mi 3 0]) (ai [oj 8 .eql 4 5,om 7 8] (ct 7 (bd [mi 2 2,mi 3 1]) (ai [oj 10 .eql 4 7,om 9 10] (ct 9 (bd [mi 2 4,mi 3 2]) .skip)))))))) (bd [mi 2 0,mi 3 0])))⟩
def i73_l1:am:=(ai [ot 19 .lss 18 17] (.seq (lJ 19) (.seq (.block 1 (ai [om 20 18,om 7 20] (rt [of 21 1 5,dl 22 21 1,om 23 1,om 24 6,om 25 7,dt 26 .add 24 25 24,om 27 1,Lf 28 27 64,dt 29 .rem 26 28 248,di 30 7 23 29 508,df 31 0 30 1020,dx 32 6 31 2044,od 33 (.aaq 4672384768 38 6 [.t 32]) 4092,NE 34 4672384832 38 6 48 22 33 8191,df 35 1 5 16383,nV 1 35 34 32767]))) (rf [oj 36 .add 18 1,om 18 36]))))
def i73_r2:am:=(bd [ox 37 2 5,os 2 4 37])
def i73:cX:=⟨38,[(4,some (some 2))],(ai [oo 4 (.alloc 4672000000 [il 0,.nils])] (ai [om 8 0,on 9 8,of 10 0 9,ol 11 10,oo 12 (.build [il 0,.nils] [(0,1,.t 11)]),oo 5 (.alloc 4672064320 [il 0,.nils]),os 2 5 12] (ai [om 13 1,oc 14 4672128064 94 [.t 13,.k (.one (.p (.fn 95 [] [])))],oo 15 (.max (.i 0) (.t 14)),om 6 15] (.seq (ai [om 16 1,oh 17 16,mi 18 0] (jZ i73_l1)) i73_r2))))⟩
def i77:cX:=⟨9,[(4,none)],(ai [mb 4 false] (bd [om 5 0,om 6 1,oc 7 4928064128 97 [.t 5,.t 6],oj 8 .geq 7 0,om 4 8]))⟩
def i78_l1:am:=(.seq (ai [om 27 7,om 28 0,on 29 28,of 30 0 29,ol 31 30,ot 32 .leq 27 31] (lJ 32)) (.seq (.block 1 (rf [om 35 5,om 36 1,om 37 7,oo 38 (.build [il 0,il 0,il 0,il 0,eG,eG,il 0] [(0,1,.t 36),(2,1,.t 37)]),oo 39 (.aaq 4992448256 52 7 [.t 38]),Az 40 4992448320 52 7 48 35 39,om 5 40])) (rf [om 33 7,oj 34 .add 33 1,om 7 34])))
def i78_l2:am:=(ai [oj 55 .lss 54 2] (.seq (ct 55 .skip (.exit 5)) (.seq (.block 6 (ai [om 56 54,om 10 56] (rt [om 57 9,om 58 0,kJ 59 58 2,df 60 2 59 6,dl 61 60 14,om 62 0,kJ 63 62 32,df 64 3 63 96,dl 65 64 224,om 66 8,db 67 .mul (.i 2) (.t 66) 512,om 68 10,dt 69 .add 67 68 3584,di 70 1 65 69 8160,dl 71 70 16352,di 72 5 61 71 32766,df 73 2 72 65534,dl 74 73 131070,NE 75 4993153152 159 2 16 57 74 262143,dm 9 75 524287]))) (rf [oj 76 .add 54 1,om 54 76]))))
def i78_l3:am:=(ai [ot 83 .lss 82 81] (.seq (ct 83 .skip (.exit 7)) (.seq (.block 8 (ai [oi 84 2 80 82,ox 85 2 84,oo 12 (.alloc 4993472128 [il 0,il 0]),os 2 12 85] (rf [om 86 5,om 87 1,om 88 8,of 89 0 12,ol 90 89,of 91 1 12,ol 92 91,oo 93 (.build [il 0,il 0,il 0,il 0,eG,eG,il 0] [(0,1,.t 87),(1,1,.t 88),(2,1,.t 90),(3,1,.t 92)]),oo 94 (.aaq 4993536512 52 7 [.t 93]),Az 95 4993536576 52 7 48 86 94,om 5 95]))) (rf [oj 96 .add 82 1,om 82 96]))))
def i78_r4:am:=(ai [om 77 9,oc 78 4993280064 98 [.t 77,.k (.one (.p (.fn 99 [] [])))]] (ai [om 79 9,oc 80 4993344064 100 [.t 79],oh 81 80,mi 82 0] (.block 7 (.loop i78_l3))))
def i78_l5:am:=(ai [oj 100 .lss 99 4] (.seq (ct 100 .skip (.exit 9)) (.seq (.block 10 (ai [om 101 99,om 13 101] (rf [om 102 5,om 103 1,om 104 8,om 105 13,oj 106 .gtr 105 1,om 107 13,oj 108 .rem 107 2,ob 109 .mul (.i 2) (.t 108),oj 110 .sub 109 1,oo 111 (.build [il 0,il 0,il 0,il 0,eG,eG,il 0] [(0,1,.t 103),(1,1,.t 104),(5,1,.t 106),(6,1,.t 110)]),oo 112 (.aaq 4993920640 52 7 [.t 111]),Az 113 4993920704 52 7 48 102 112,om 5 113]))) (rf [oj 114 .add 99 1,om 99 114]))))
def i78_l6:am:=(ai [oj 122 .lss 121 4] (.seq (ct 122 .skip (.exit 13)) (.seq (.block 14 (ai [om 123 121,om 15 123] (ai [om 124 14,om 125 8,ot 126 .neq 124 125] (ct 126 (rf [om 127 5,om 128 1,om 129 8,om 130 14,om 131 15,oj 132 .gtr 131 1,om 133 15,oj 134 .rem 133 2,oj 135 .eql 134 1,oo 136 (.build [il 0,il 0,il 0,il 0,eG,eG,il 0] [(0,1,.t 128),(1,1,.t 129),(2,1,.t 130),(4,1,.t 132),(5,1,.t 135)]),oo 137 (.aaq 4994560640 52 7 [.t 136]),Az 138 4994560704 52 7 48 127 137,om 5 138]) .skip)))) (rf [oj 139 .add 121 1,om 121 139]))))
def i78_r7:am:=(rf [oj 140 .add 118 1,om 118 140])
def i78_l8:am:=(ai [ot 119 .lss 118 117] (.seq (ct 119 .skip (.exit 11)) (.seq (.block 12 (ai [om 120 118,om 14 120] (ai [mi 121 0] (.block 13 (.loop i78_l6))))) i78_r7)))
def i78_r9:am:=(rf [oj 151 .add 42 1,om 42 151])
def i78_l10:am:=(ai [ot 43 .lss 42 41] (.seq (ct 43 .skip (.exit 2)) (.seq (.block 3 (ai [om 44 42,om 8 44] (ai [om 45 1] (.block 4 (ai [oj 53 .eql 45 2,om 52 53] (ct 52 (ai [ju 9] (.seq (ai [mi 54 0] (.block 5 (.loop i78_l2))) i78_r4)) (ai [oj 98 .eql 45 5,om 97 98] (ct 97 (ai [mi 99 0] (.block 9 (.loop i78_l5))) (ai [oj 116 .eql 45 7,om 115 116] (ct 115 (ai [om 117 6,mi 118 0] (.block 11 (.loop i78_l8))) (.seq (ai [oj 142 .eql 45 3,om 141 142] (ct 141 .skip (ai [oj 143 .eql 45 6,om 141 143] (ct 141 .skip (rf [oj 144 .eql 45 8,om 141 144]))))) (ct 141 (rf [om 145 5,om 146 0,om 147 1,om 148 8,oc 149 4994944256 101 [.t 146,.t 147,.t 148],Az 150 4994944320 52 7 48 145 149,om 5 150]) (rf [om 46 5,
 om 47 1,om 48 8,oo 49 (.build [il 0,il 0,il 0,il 0,eG,eG,il 0] [(0,1,.t 47),(1,1,.t 48)]),oo 50 (.aaq 4992768256 52 7 [.t 49]),Az 51 4992768320 52 7 48 46 50,om 5 51]))))))))))))) i78_r9)))
def i78_r11:am:=(bd [om 152 5,om 4 152])
def i78_r12:am:=(.seq (ai [om 41 6,mi 42 0] (.block 2 (.loop i78_l10))) i78_r11)
def i78:cX:=⟨153,[(4,none)],(ai [ju 4] (ai [ju 5] (ai [om 16 0,on 17 16,of 18 1 17,ol 19 18,oh 20 19,om 6 20] (.seq (ai [om 21 6,oj 22 .eql 21 0,om 23 22,lc 24 1 23,AM 25 .eql 24 2 23,pZ 26 23 25] (ct 26 (ai [mi 7 0] (jZ i78_l1)) .skip)) i78_r12))))⟩
def i23:cX:=⟨17,[(2,some (some 2)),(3,none)],(ai [iU 1 1472000000 0,oo 2 (.alloc 1472000064 [il 0,.nils]),mi 3 0] (ai [ox 7 2 1,oc 8 1472064064 20 [.t 7],om 6 8,oe 9 6 0,oe 10 6 1,om 4 9,om 5 10] (.seq (ai [om 11 5,oj 12 .neq 11 0] (ct 12 (bd [oo 13 (.build [il 0,.nils] []),om 14 5,os 2 2 13,om 3 14]) .skip)) (bd [om 15 4,oc 16 1472256064 40 [.t 15],os 2 2 16,mi 3 0]))))⟩
def i35_l1:am:=(ai [ot 14 .lss 13 12] (.seq (lJ 14) (.seq (.block 1 (ai [om 15 13,om 5 15] (ko [om 16 0,om 17 5,di 18 6 16 17 3,dx 19 6 18 7,om 20 1,om 21 5,di 22 6 20 21 48,dx 23 6 22 112,od 24 (.eqc (.str [true,true,true,true,true,false]) true (.t 19) (.t 23)) 255] (ct 24 (bd [mb 4 false]) .skip)))) (rf [oj 25 .add 13 1,om 13 25]))))
def i35_r2:am:=(bd [mb 4 true])
def i35:cX:=⟨26,[(4,none)],(ai [mb 4 false] (.seq (ai [om 6 0,oh 7 6,om 8 1,oh 9 8,ot 10 .neq 7 9] (ct 10 (bd [mb 4 false]) .skip)) (.seq (ai [om 11 0,oh 12 11,mi 13 0] (jZ i35_l1)) i35_r2)))⟩
def i82_l1:am:=(ai [ot 21 .lss 20 19] (.seq (lJ 21) (.seq (.block 1 (ai [om 22 20,oi 23 6 18 20,ox 24 6 23,oo 6 (.alloc 5248320192 [il 0,il 0,il 0,il 0,il 0,eG]),om 5 22,os 6 6 24] (.seq (ai [of 25 0 6,ol 26 25,oj 27 .eql 26 1] (ct 27 (rf [om 28 0,on 29 28,of 30 2 29,ol 31 30,om 32 5,oi 33 1 31 32,ol 34 33,om 4 34]) .skip)) (rf [om 35 3,om 36 5,om 37 4,oi 38 1 35 36,os 1 38 37])))) (rf [oj 39 .add 20 1,om 20 39]))))
def i82_r2:am:=(bd [om 40 3,om 2 40])
def i82:cX:=⟨41,[(2,none)],(ai [ju 2] (ai [om 7 0,on 8 7,of 9 0 8,of 10 1 9,ol 11 10,oh 12 11,oo 13 (.aaA 5248064384 4 1 1 [eG] (.t 12) (.t 12)),om 3 13] (ai [mb 4 false] (.seq (ai [om 14 0,on 15 14,of 16 0 15,of 17 1 16,ol 18 17,oh 19 18,mi 20 0] (jZ i82_l1)) i82_r2))))⟩
def i83_l1:am:=(.seq (.block 1 (.seq (ai [om 38 12,om 39 9,ob 40 .mul (.i 2) (.t 39),ot 41 .lss 38 40] (ct 41 (.seq (ai [om 42 2,om 43 12,oi 44 1 42 43,ol 45 44] (ct 45 (.exit 0) .skip)) (ai [om 46 2,om 47 12,oi 48 1 46 47,op (.store 1 (.t 48) (.b true))] (ai [of 49 1 11,ol 50 49,om 51 12,oo 52 (.aaq 5312512192 3 1 [.t 51]),Az 53 5312512256 3 1 8 50 52,of 54 1 11,os 1 54 53] (.exit 1)))) .skip)) (ai [om 55 12,om 56 9,ob 57 .mul (.i 2) (.t 56),ot 58 .sub 55 57,oj 59 .quo 58 2,om 13 59] (ai [om 61 0,om 62 13,oc 63 5312640128 102 [.t 61,.t 62],om 60 63,oe 64 60 0,oe 65 60 1,om 14 64,om 15 65] (.seq (ai [om 66 12,oj 67 .rem 66 2,oj 68 .eql 67 1] (ct 68 (ai [om 69 14,oc 70 5312768064 103 [.t 69]] (rf [om 71 15,oc 72 5312832064 104 [.t 71]])) .skip)) (ko [of 73 2 11,dl 74 73 1,
 om 75 14,NE 76 5312896192 159 2 16 74 75 7,of 77 3 11,dl 78 77 16,om 79 15,NE 80 5312896448 3 1 8 78 79 127,df 81 2 11 63,nV 1 81 76 511,df 82 3 11 1023,nV 1 82 80 2047] (rf [of 83 4 11,ol 84 83,om 85 84,jc 86 13 85,jc 87 10 85,wC 88 .sub 87 1 85,ML 89 .eql 86 88 85,mf 90 85 89,of 91 4 11,os 1 91 90]))))))) (rf [om 35 0,om 36 12,oc 37 5312256128 67 [.t 35,.t 36],om 12 37]))
def i83_r2:am:=(bd [ox 92 5 11,os 5 8 92])
def i83:cX:=⟨93,[(8,some (some 5))],(ai [oo 8 (.alloc 5312000000 [eG,.nils,.nils,.nils,eG])] (ko [om 16 0,kJ 17 16 1,df 18 0 17 3,df 19 1 18 7,dl 20 19 15,Lf 21 20 31,om 22 0,kJ 23 22 64,df 24 3 23 192,dl 25 24 448,Lf 26 25 960,dm 9 21 63,dm 10 26 4095] (ai [om 27 3,om 28 1,oj 29 .quo 28 2,oi 30 1 27 29,ol 31 30,xj 32 31,oo 33 (.build [eG,.nils,.nils,.nils,eG] [(0,1,.t 32)]),oo 11 (.alloc 5312128448 [eG,.nils,.nils,.nils,eG]),os 5 11 33] (.seq .skip (.seq (ai [om 34 1,om 12 34] (jZ i83_l1)) i83_r2)))))⟩
def i84:cX:=⟨11,[(3,none)],(ai [mb 3 false] (bd [om 4 0,oj 5 .geq 4 0,om 6 5,lc 7 0 6,qe 8 1 6,Zt 9 .lss 7 8 6,pZ 10 6 9,om 3 10]))⟩
def i85:cX:=⟨102,[(4,none),(5,none)],(ai [iU 3 5440000000 1,ju 4,mb 5 false] (ai [om 12 0,of 13 1 3,ol 14 13,oc 15 5440064192 105 [.t 12,.t 14],om 11 15,oe 16 11 0,oe 17 11 1,oo 6 (.alloc 5440064448 [il 0]),oo 7 (.alloc 5440064512 [il 0]),os 1 6 16,os 1 7 17] (ko [om 18 0,kJ 19 18 1,df 20 1 19 3,dl 21 20 7,ol 22 6,di 23 7 21 22 31,dx 24 7 23 63,om 25 0,kJ 26 25 128,df 27 1 26 384,dl 28 27 896,ol 29 7,di 30 7 28 29 3968,dx 31 7 30 8064,oo 8 (.alloc 5440128896 [il 0,il 0,il 0,il 0,il 0,eG,eG]),oo 9 (.alloc 5440128960 [il 0,il 0,il 0,il 0,il 0,eG,eG]),nV 7 8 24 49279,nV 7 9 31 131071] (.seq (ai [of 32 0 8,of 33 0 32,ol 34 33,oj 35 .neq 34 1,om 36 35,mz 37 0 9 36,
 mz 38 0 37 36,qj 39 38 36,wC 40 .neq 39 1 36,mf 41 36 40,om 42 41,mz 43 0 8 42,mz 44 1 43 42,qj 45 44 42,mz 46 0 9 42,mz 47 1 46 42,qj 48 47 42,ML 49 .neq 45 48 42,mf 50 42 49,om 51 50,mz 52 0 8 51,mz 53 2 52 51,qj 54 53 51,mz 55 0 9 51,mz 56 2 55 51,
 qj 57 56 51,Zu 58 (.max (.t 54) (.t 57)) 51,mz 59 0 8 51,mz 60 2 59 51,qj 61 60 51,mz 62 0 9 51,mz 63 2 62 51,qj 64 63 51,Zu 65 (.min (.t 61) (.t 64)) 51,ML 66 .sub 58 65 51,wC 67 .neq 66 1 51,mf 68 51 67,om 69 68,jc 70 0 69,Zw 71 70 69,mz 72 4 71 69,qj 73 72 69,wC 74 .leq 73 2 69,
 jc 75 74 69,lc 76 0 75,V0 77 76 75,my 78 5 77 75,qe 79 78 75,AM 80 .gtr 79 0 75,Ku 81 75 80 69,mf 82 69 81] (ct 82 (bd [ju 4,mb 5 false]) .skip)) (ai [om 83 0,on 84 83,of 85 1 84,ol 86 85,oo 87 (.mkfn 107 [] [.t 6,.t 7]),oc 88 5440320320 106 [.t 86,.t 87],om 10 88] (ai [om 89 10,of 90 0 8,of 91 1 90,ol 92 91,of 93 0 8,of 94 2 93,ol 95 94,of 96 0 9,of 97 2 96,ol 98 97,oo 99 (.max (.t 95) (.t 98)),oc 100 5440384704 108 [.t 89,.t 92,.t 99,.i (-2)]] (bd [om 101 10,om 4 101,mb 5 true])))))))⟩
def i86_l1:am:=(ai [oj 41 .lss 40 2] (.seq (lJ 41) (.seq (.block 1 (ai [om 42 40,om 9 42] (ko [om 43 0,kJ 44 43 1,df 45 2 44 3,dl 46 45 7,om 47 0,kJ 48 47 16,df 49 3 48 48,dl 50 49 112,of 51 1 3,dl 52 51 256,db 53 .mul (.i 2) (.t 52) 768,om 54 9,dt 55 .add 53 54 3840,di 56 1 50 55 8176,dl 57 56 16368,di 58 5 46 57 32767,dx 59 5 58 65535,oo 10 (.alloc 5504577088 [eG,.nils,.nils,.nils,eG]),nV 5 10 59 262143] (.seq (ai [of 60 2 10,ol 61 60,ox 62 2 6,oc 63 5504640192 109 [.t 61,.t 62],xj 64 63] (ct 64 (.exit 1) .skip)) (.seq (ai [of 65 0 10,ol 66 65,om 67 9,oj 68 .eql 67 1,oo 69 (.eqc .bool true (.t 66) (.t 68))] (ct 69 (rf [of 70 0 8,of 71 2 70,ol 72 71,of 73 0 7,of 74 2 73,ol 75 74,of 76 0 7,of 77 2 76,os 1 77 72,
 of 78 0 8,of 79 2 78,os 1 79 75]) .skip)) (ko [of 80 0 10,dl 81 80 1,of 82 0 10,dl 83 82 4,Ku_ 84 83 12,df 85 6 7 3,nV 1 85 81 35,df 86 6 8 127,nV 1 86 84 255] (ai [om 87 0,on 88 87,of 89 1 88,ol 90 89,oc 91 5504896256 110 [.t 90],om 11 91] (ai [om 92 11,of 93 2 3,ol 94 93,of 95 3 3,ol 96 95,oc 97 5504960320 108 [.t 92,.t 94,.t 96,.i 2]] (bd [om 98 11,of 99 1 3,ol 100 99,ox 101 7 7,ox 102 7 8,oo 103 (.aaq 5505024320 132 7 [.t 101,.t 102]),oc 104 5505024384 111 [.t 98,.t 100,.t 103],om 4 104,mb 5 true]))))))))) (rf [oj 105 .add 40 1,om 40 105]))))
def i86_r2:am:=(bd [ju 4,mb 5 false])
def i86:cX:=⟨106,[(4,none),(5,none)],(ai [iU 3 5504000000 1,ju 4,mb 5 false] (ai [of 12 2 3,ol 13 12,of 14 3 3,ol 15 14,oo 16 (.build [il 0,il 0] [(0,1,.t 13),(1,1,.t 15)]),oo 6 (.alloc 5504064320 [il 0,il 0]),os 2 6 16] (ai [of 17 2 3,ol 18 17,of 19 3 3,ol 20 19,oj 21 .add 20 1,oo 22 (.build [il 0,il 0,il 0,il 0,il 0,eG] [(0,1,.i 1),(1,1,.t 18),(2,1,.t 21)]),oo 23 (.build [il 0,il 0,il 0,il 0,il 0,eG,eG] [(0,6,.t 22),(6,1,.b true)]),oo 7 (.alloc 5504128448 [il 0,il 0,il 0,il 0,il 0,eG,eG]),os 7 7 23] (ai [of 24 2 3,ol 25 24,of 26 3 3,ol 27 26,oj 28 .add 27 2,oo 29 (.build [il 0,il 0,il 0,il 0,il 0,eG] [(0,1,.i 1),(1,1,.t 25),(2,1,.t 28)]),oo 30 (.build [il 0,il 0,il 0,il 0,il 0,eG,eG] [(0,6,.t 29),(6,1,.b false)]),
 oo 8 (.alloc 5504192448 [il 0,il 0,il 0,il 0,il 0,eG,eG]),os 7 8 30] (.seq (ai [om 31 0,on 32 31,of 33 1 32,ol 34 33,oh 35 34,oj 36 .eql 35 0] (ct 36 (bd [ox 37 7 7,ox 38 7 8,oo 39 (.aaq 5504320128 132 7 [.t 37,.t 38]),om 4 39,mb 5 true]) .skip)) (.seq (ai [mi 40 0] (jZ i86_l1)) i86_r2))))))⟩
def i87_l1:am:=(ai [ot 119 .lss 118 117] (.seq (lJ 119) (.seq (.block 1 (ai [oi 120 1 116 118,ol 121 120,om 16 121] (ai [om 123 0,om 124 16,oc 125 5568704128 105 [.t 123,.t 124],om 122 125,oe 126 122 0,oe 127 122 1,om 17 126,om 18 127] (rt [om 128 14,om 129 17,om 130 14,om 131 18,om 132 14,om 133 18,di 134 7 132 133 48,dx 135 7 134 112,om 136 14,om 137 17,di 138 7 136 137 768,dx 139 7 138 1792,di 140 7 128 129 4083,nV 7 140 135 8179,di 141 7 130 131 16383,nV 7 141 139 32767])))) (rf [oj 142 .add 118 1,om 118 142]))))
def i87_r2:am:=(bd [om 143 14,om 4 143,mb 5 true])
def i87:cX:=⟨144,[(4,none),(5,none)],(ai [iU 3 5568000000 1,ju 4,mb 5 false] (ai [om 20 0,of 21 1 3,ol 22 21,oc 23 5568064192 112 [.t 20,.t 22],om 19 23,oe 24 19 0,oe 25 19 1,oe 26 19 2,om 6 24,om 7 25,om 8 26] (ai [om 28 0,of 29 2 3,ol 30 29,oc 31 5568128192 112 [.t 28,.t 30],om 27 31,oe 32 27 0,oe 33 27 1,oe 34 27 2,om 9 32,om 10 33,om 11 34] (.seq (ko [om 35 8,Ku_ 36 35 1,dm 37 36 3,AO 38 11 37 7,Gu_ 39 38 37 15,Ho 40 37 39 31,dm 41 40 63,AO 42 7 41 127,AO 43 10 41 127,X7 44 .eql 42 43 41 511,Ho 45 41 44 1023,dm 46 45 2047,AO 47 0 46 4095,
 X8 48 47 46 8191,tJ 49 1 48 46 16383,vR 50 49 46 32767,AO 51 7 46 4095,X9 52 7 50 51 46 131071,tJ 53 0 52 46 262143,tJ 54 3 53 46 524287,vR 55 54 46 1048575,AO 56 0 46 4095,X8 57 56 46 2101247,tJ 58 1 57 46 6295551,vR 59 58 46 14684159,AO 60 10 46 4095,X9 61 7 59 60 46 65015807,tJ 62 0 61 46 132124671,tJ 63 3 62 46 266342399,
 vR 64 63 46 534777855,X7 65 .neq 55 64 46 1073741823,Ho 66 46 65 2147483647,dm 67 66 4294967295,AO 68 0 67 8589934591,tJ 69 1 3 67 8589934591,vR 70 69 67 25769803775,tJ 71 2 3 67 8589934591,vR 72 71 67 77309411327,Gz_ 73 (.aaq 5568194432 3 1 [.t 70,.t 72]) 67 266287972351,Gc_ 74 5568194496 113 [.t 68,.i 1,.t 73] 67 549755813887,Gu_ 75 74 67 1099511627775,Ho 76 67 75 2199023255551] (ct 76 (bd [ju 4,
 mb 5 false]) .skip)) (ko [om 77 0,kJ 78 77 1,df 79 1 78 3,dl 80 79 7,om 81 6,di 82 7 80 81 31,df 83 0 82 63,df 84 2 83 127,dl 85 84 255,om 86 0,kJ 87 86 512,df 88 1 87 1536,dl 89 88 3584,om 90 9,di 91 7 89 90 15872,df 92 0 91 32256,df 93 2 92 65024,dl 94 93 130560,dm 12 85 511,dm 13 94 524287] (ai [om 95 0,on 96 95,of 97 1 96,ol 98 97,oc 99 5568384256 110 [.t 98],om 14 99] (ai [om 100 14,om 101 6,om 102 14,om 103 9,om 104 13,om 105 12,oi 106 7 100 101,of 107 0 106,of 108 2 107,os 1 108 104,oi 109 7 102 103,of 110 0 109,of 111 2 110,os 1 111 105] (.seq (ai [of 112 1 3,ol 113 112,of 114 2 3,ol 115 114,oo 116 (.aaq 5568512256 3 1 [.t 113,.t 115]),oh 117 116,mi 118 0] (jZ i87_l1)) i87_r2))))))))⟩
def i88:cX:=⟨73,[(4,none),(5,none)],(ai [iU 3 5632000000 1,ju 4,mb 5 false] (ai [om 9 0,of 10 1 3,ol 11 10,oc 12 5632064192 105 [.t 9,.t 11],om 8 12,oe 13 8 0,oe 14 8 1,om 6 13,om 7 14] (.seq (ko [om 15 0,kJ 16 15 1,df 17 1 16 3,dl 18 17 7,om 19 6,di 20 7 18 19 31,df 21 0 20 63,df 22 0 21 127,dl 23 22 255,dj 24 .neq 23 2 511,dm 25 24 1023,AO 26 0 25 2047,X8 27 26 25 4095,tJ 28 1 27 25 8191,vR 29 28 25 16383,AO 30 7 25 2047,X9 31 7 29 30 25 65535,tJ 32 0 31 25 131071,tJ 33 0 32 25 262143,vR 34 33 25 524287,
 Yj 35 .neq 34 2 25 1048575,Ho 36 25 35 2097151,dm 37 36 4194303,AO 38 0 37 8388607,X8 39 38 37 16777215,tJ 40 1 39 37 33554431,vR 41 40 37 67108863,AO 42 6 37 8388607,X9 43 7 41 42 37 268435455,tJ 44 0 43 37 536870911,tJ 45 3 44 37 1073741823,vR 46 45 37 2147483647,AO 47 0 37 8388607,X8 48 47 37 4303355903,tJ 49 1 48 37 12893290495,vR 50 49 37 30073159679,
 AO 51 7 37 8388607,X9 52 7 50 51 37 133152374783,tJ 53 0 52 37 270591328255,tJ 54 3 53 37 545469235199,vR 55 54 37 1095225049087,X7 56 .neq 46 55 37 2199023255551,Ho 57 37 56 4398046511103] (ct 57 (bd [ju 4,mb 5 false]) .skip)) (ko [om 58 0,kJ 59 58 1,df 60 1 59 3,dl 61 60 7,om 62 0,kJ 63 62 16,df 64 1 63 48,dl 65 64 112,om 66 6,di 67 7 65 66 496,df 68 0 67 1008,df 69 3 68 2032,dl 70 69 4080,od 71 (.aaq 5632256832 3 1 [.t 70]) 8176,dc 72 5632256896 114 [.t 61,.t 71] 16383,dm 4 72 32767,od 5 (.mov (.b true)) 65535] .ret))))⟩
def i90:cX:=⟨165,[(4,none),(5,none)],(ai [iU 3 5760000000 1,ju 4,mb 5 false] (ai [om 13 0,on 14 13,of 15 1 14,ol 16 15,oh 17 16,om 6 17] (.seq (ai [om 18 0,of 19 1 3,ol 20 19,oc 21 5760128192 116 [.t 18,.t 20,.b true],om 22 21,lc 23 0 22,my 24 2 3 22,qe 25 24 22,MJ 26 5760128512 116 [.t 23,.t 25,.b false] 22,pZ 27 22 26,om 28 27,jc 29 0 28,mz 30 1 3 28,qj 31 30 28,So 32 5760128896 116 [.t 29,.t 31,.b false] 28,jc 33 32 28,
 lc 34 0 33,my 35 2 3 33,qe 36 35 33,MJ 37 5760129216 116 [.t 34,.t 36,.b true] 33,Ku 38 33 37 28,mf 39 28 38,xj 40 39] (ct 40 (bd [ju 4,mb 5 false]) .skip)) (ai [om 42 0,of 43 1 3,ol 44 43,oc 45 5760256192 105 [.t 42,.t 44],om 41 45,oe 46 41 0,oe 47 41 1,om 7 46,om 8 47] (ai [om 49 0,of 50 2 3,ol 51 50,oc 52 5760320192 105 [.t 49,.t 51],om 48 52,oe 53 48 0,oe 54 48 1,om 9 53,om 10 54] (ko [om 55 0,kJ 56 55 1,df 57 1 56 3,dl 58 57 7,om 59 7,di 60 7 58 59 31,df 61 0 60 63,df 62 3 61 127,dl 63 62 255,om 64 0,kJ 65 64 512,
 df 66 1 65 1536,dl 67 66 3584,om 68 8,di 69 7 67 68 15872,df 70 0 69 32256,df 71 3 70 65024,dl 72 71 130560,dm 11 63 511,dm 12 72 524287] (.seq (ai [om 73 11,om 74 12,ot 75 .eql 73 74,om 76 75,jc 77 0 76,Zw 78 77 76,mz 79 1 78 76,qj 80 79 76,jc 81 9 76,gi_ 82 7 80 81 76,mz 83 0 82 76,mz 84 3 83 76,qj 85 84 76,jc 86 11 76,ML 87 .eql 85 86 76,jc 88 87 76,lc 89 0 88,V0 90 89 88,
 my 91 1 90 88,qe 92 91 88,lc 93 10 88,V1 94 7 92 93 88,my 95 0 94 88,my 96 3 95 88,qe 97 96 88,lc 98 12 88,Zt 99 .eql 97 98 88,Ku 100 88 99 76,jc 101 100 76,jc 102 0 101,Zw 103 102 101,mz 104 1 103 101,qj 105 104 101,jc 106 9 101,gi_ 107 7 105 106 101,
 mz 108 0 107 101,mz 109 3 108 101,qj 110 109 101,jc 111 12 101,ML 112 .eql 110 111 101,jc 113 112 101,lc 114 0 113,V0 115 114 113,my 116 1 115 113,qe 117 116 113,lc 118 10 113,V1 119 7 117 118 113,my 120 0 119 113,my 121 3 120 113,qe 122 121 113,lc 123 11 113,Zt 124 .eql 122 123 113,
 Ku 125 113 124 101,gp_ 126 101 125 76,V2 127 126 76,mf 128 76 127] (ct 128 (bd [ju 4,mb 5 false]) .skip)) (.seq (ko [of 129 1 3,dl 130 129 1,dj 131 .add 130 2 3,om 132 6,dt 133 .rem 131 132 15,of 134 2 3,dl 135 134 32,dt 136 .eql 133 135 127,dm 137 136 255,tJ 138 2 3 137 511,vR 139 138 137 1023,Yj 140 .add 139 2 137 2047,AO 141 6 137 511,X7 142 .rem 140 141 137 8191,tJ 143 1 3 137 511,vR 144 143 137 16895,
 X7 145 .eql 142 144 137 65535,Ho 146 137 145 131071,dm 147 146 262143,AO 148 0 147 524287,tJ 149 1 3 147 524287,vR 150 149 147 1572863,tJ 151 2 3 147 524287,vR 152 151 147 4718591,Gz_ 153 (.aaq 5760577536 3 1 [.t 150,.t 152]) 147 16252927,Gc_ 154 5760577600 113 [.t 148,.i 0,.t 153] 147 33554431,Gu_ 155 154 147 67108863,Ho 156 147 155 134217727] (ct 156 (bd [ju 4,mb 5 false]) .skip)) (bd [om 157 0,on 158 157,of 159 1 158,ol 160 159,
 om 161 11,om 162 12,oo 163 (.aaq 5760704384 3 1 [.t 161,.t 162]),oc 164 5760704448 114 [.t 160,.t 163],om 4 164,mb 5 true])))))))))⟩
def i92_l1:am:=(ai [ot 25 .lss 24 23] (.seq (lJ 25) (.seq (.block 1 (ai [oi 26 1 22 24,ol 27 26,om 12 27] (ai [om 29 0,om 30 12,oc 31 5888448128 105 [.t 29,.t 30],om 28 31,oe 32 28 0,oe 33 28 1,om 13 32,om 14 33] (.seq (ai [om 34 0,on 35 34,of 36 1 35,ol 37 36,om 38 13,oi 39 7 37 38,of 40 0 39,of 41 0 40,ol 42 41,oj 43 .neq 42 2,om 44 43,jc 45 0 44,Zw 46 45 44,mz 47 1 46 44,qj 48 47 44,jc 49 14 44,gi_ 50 7 48 49 44,mz 51 0 50 44,mz 52 0 51 44,qj 53 52 44,wC 54 .neq 53 2 44,
 mf 55 44 54] (ct 55 (bd [ju 4,mb 5 false]) .skip)) (ai [om 56 7,om 57 13,om 58 14,oo 59 (.aaq 5888640192 3 1 [.t 57,.t 58]),Az 60 5888640256 3 1 8 56 59,om 7 60] (ko [om 61 8,om 62 0,kJ 63 62 2,df 64 1 63 6,dl 65 64 14,om 66 13,di 67 7 65 66 62,df 68 0 67 126,df 69 3 68 254,dl 70 69 510,om 71 0,kJ 72 71 1024,df 73 1 72 3072,dl 74 73 7168,om 75 14,di 76 7 74 75 31744,df 77 0 76 64512,df 78 3 77 130048,dl 79 78 261120,od 80 (.aaq 5888705216 3 1 [.t 70,.t 79]) 524286,NE 81 5888705280 3 1 8 61 80 1048575,dm 8 81 2097151] (rf [om 82 9,om 83 82,jc 84 0 83,jc 85 12 83,So 86 5888768256 116 [.t 84,.t 85,.b true] 83,
 mf 87 83 86,om 88 10,om 89 88,jc 90 0 89,jc 91 12 89,So 92 5888768640 116 [.t 90,.t 91,.b false] 89,mf 93 89 92,om 9 87,om 10 93]))))))) (rf [oj 94 .add 24 1,om 24 94]))))
def i92_r2:am:=(ai [om 95 7,oc 96 5888896064 118 [.t 95]] (ai [om 97 8,oc 98 5888960064 118 [.t 97]] (.seq (ai [om 99 7,oc 100 5889024064 119 [.t 99],oh 101 100,oj 102 .neq 101 6,om 103 102,jc 104 8 103,So 105 5889024384 119 [.t 104] 103,gh_ 106 105 103,wC 107 .neq 106 3 103,mf 108 103 107,om 109 108,jc 110 9 109,V2 111 110 109,mf 112 109 111,om 113 112,jc 114 10 113,V2 115 114 113,mf 116 113 115,om 117 116,jc 118 0 117,
 jc 119 6 117,So 120 5889025344 113 [.t 118,.i 0,.t 119] 117,V2 121 120 117,mf 122 117 121] (ct 122 (bd [ju 4,mb 5 false]) .skip)) (bd [om 123 0,om 124 6,oc 125 5889152128 120 [.t 123,.t 124],om 4 125,mb 5 true]))))
def i92:cX:=⟨126,[(4,none),(5,none)],(ai [iU 3 5888000000 1,ju 4,mb 5 false] (ai [of 15 1 3,ol 16 15,of 17 2 3,ol 18 17,of 19 3 3,ol 20 19,oo 21 (.aaq 5888064384 3 1 [.t 16,.t 18,.t 20]),om 6 21] (ai [ju 7,ju 8] (ai [mb 9 false,mb 10 false] (.seq (ai [om 22 6,oh 23 22,mi 24 0] (jZ i92_l1)) i92_r2)))))⟩
def i94_l1:am:=(ai [ot 9 .lss 8 7] (.seq (lJ 9) (.seq (.block 1 (ai [om 10 8,om 5 10] (ai [om 11 1,om 12 0,om 13 5,oi 14 7 12 13,ox 15 7 14,oo 16 (.call 6016256320 (.t 11) [.t 15])] (ct 16 (bd [om 17 5,om 4 17]) .skip)))) (rf [oj 18 .add 8 1,om 8 18]))))
def i94_r2:am:=(bd [oo 4 (.mov (.i (-1)))])
def i94:cX:=⟨19,[(4,none)],(ai [mi 4 0] (.seq (ai [om 6 0,oh 7 6,mi 8 0] (jZ i94_l1)) i94_r2))⟩
def i95:cX:=⟨11,[(2,none)],(ai [iU 1 6080000000 0,mb 2 false] (bd [of 3 0 1,of 4 0 3,ol 5 4,oj 6 .eql 5 1,om 7 6,my 8 6 1 7,qe 9 8 7,pZ 10 7 9,om 2 10]))⟩
def i97_l1:am:=(ai [ot 9 .lss 8 7] (.seq (lJ 9) (.seq (.block 1 (ai [om 10 8,om 5 10] (ai [om 11 1,om 12 0,om 13 5,oi 14 1 12 13,ol 15 14,ot 16 .eql 11 15] (ct 16 (bd [om 17 5,om 4 17]) .skip)))) (rf [oj 18 .add 8 1,om 8 18]))))
def i97_r2:am:=(bd [oo 4 (.mov (.i (-1)))])
def i97:cX:=⟨19,[(4,none)],(ai [mi 4 0] (.seq (ai [om 6 0,oh 7 6,mi 8 0] (jZ i97_l1)) i97_r2))⟩
def i101_l1:am:=(ai [ot 37 .lss 36 35] (.seq (ct 37 .skip (.exit 2)) (.seq (.block 3 (ai [oi 38 1 34 36,ol 39 38,om 12 39] (.seq (ai [om 40 12,oj 41 .quo 40 2,om 42 2,ot 43 .lss 41 42,om 44 43,mz 45 1 9 44,qj 46 45 44,gh_ 47 46 44,wC 48 .gtr 47 3 44,mf 49 44 48] (ct 49 (.exit 1) .skip)) (rf [om 50 10,om 51 12,oj 52 .quo 51 2,oo 53 (.aaq 6464704192 3 1 [.t 52]),Az 54 6464704256 3 1 8 50 53,om 10 54])))) (rf [oj 55 .add 36 1,om 36 55]))))
def i101_r2:am:=(ai [om 56 10,oc 57 6464832064 118 [.t 56]] (ai [om 58 1,om 59 2,oo 60 (.build [il 0,il 0,il 0,il 0,eG,eG,il 0] [(0,1,.t 58),(1,1,.t 59)]),oo 13 (.alloc 6464896192 [il 0,il 0,il 0,il 0,eG,eG,il 0]),os 7 13 60] (.seq (.block 4 (ai [om 62 10,oh 63 62,oj 64 .eql 63 2,om 65 64,lc 66 1 65,AM 67 .neq 66 8 65,pZ 68 65 67,om 61 68] (ct 61 (rf [om 69 10,oo 70 (.aaU 1 (.t 69) (.i 1)),ol 71 70,of 72 2 13,os 1 72 71]) (ai [om 74 10,oh 75 74,oj 76 .eql 75 3,om 77 76,lc 78 1 77,AM 79 .eql 78 8 77,pZ 80 77 79,om 73 80] (ct 73 (rt [om 81 10,od 82 (.aaU 1 (.t 81) (.i 1)) 1,dl 83 82 3,
 om 84 10,od 85 (.aaU 1 (.t 84) (.i 2)) 8,dl 86 85 24,df 87 2 13 7,nV 1 87 83 71,df 88 3 13 255,nV 1 88 86 511]) (.exit 1)))))) (ai [om 89 7,ox 90 7 13,oc 91 6465216128 127 [.t 89,.t 90],xj 92 91] (ct 92 (rf [om 93 7,ox 94 7 13,oo 95 (.aaq 6465280128 52 7 [.t 94]),Az 96 6465280192 52 7 48 93 95,om 7 96]) .skip)))))
def i101_r3:am:=(rf [oj 97 .add 14 1,om 14 97])
def i101_l4:am:=(ai [oj 15 .lss 14 2] (.seq (lJ 15) (.seq (.block 1 (ai [om 16 14,om 8 16] (ko [om 17 0,kJ 18 17 1,df 19 2 18 3,dl 20 19 7,om 21 0,kJ 22 21 16,df 23 3 22 48,dl 24 23 112,om 25 2,db 26 .mul (.i 2) (.t 25) 256,om 27 8,dt 28 .add 26 27 1792,di 29 1 24 28 4080,dl 30 29 8176,di 31 5 20 30 16383,dx 32 5 31 32767,oo 9 (.alloc 6464321024 [eG,.nils,.nils,.nils,eG]),nV 5 9 32 131071] (ai [ju 10] (.seq (ai [of 33 1 9,ol 34 33,oh 35 34,mi 36 0] (.block 2 (.loop i101_l1))) i101_r2))))) i101_r3)))
def i101_r5:am:=(ai [om 98 7,oc 99 6465408064 128 [.t 98,.k (.one (.p (.fn 129 [] [])))]] (bd [om 100 7,om 6 100]))
def i101:cX:=⟨101,[(6,none)],(ai [ju 6] (ai [ju 7] (.seq .skip (.seq (ai [mi 14 0] (jZ i101_l4)) i101_r5))))⟩
def i40_l1:am:=(ai [ot 26 .lss 25 24] (.seq (ct 26 .skip (.exit 2)) (.seq (.block 3 (ai [om 27 25,oi 28 6 23 25,ox 29 6 28,oo 8 (.alloc 2560512192 [il 0,il 0,il 0,il 0,il 0,eG]),om 7 27,os 6 8 29] (.seq (ai [of 30 0 8,ol 31 30,oj 32 .neq 31 1] (ct 32 (.exit 3) .skip)) (.seq (ai [om 33 6] (ct 33 (ai [om 34 5,om 35 7,oc 36 2560704128 59 [.t 34,.t 35],oc 37 2560704192 58 [.t 36],om 9 37] (ai [om 38 3,oo 39 (.eqc .slc false (.t 38) (.k (.one (.p (.nils))))),om 40 39,jc 41 9 40,jc 42 3 40,So 43 2560768320 60 [.t 41,.t 42] 40,mf 44 40 43] (ct 44 (rf [om 45 9,om 3 45]) .skip))) .skip)) (rf [om 46 6,xj 47 46,om 6 47]))))) (rf [oj 48 .add 25 1,
 om 25 48]))))
def i40_r2:am:=(rf [oj 49 .add 19 1,om 19 49])
def i40_l3:am:=(ai [ot 20 .lss 19 18] (.seq (lJ 20) (.seq (.block 1 (ai [oi 21 1 17 19,ol 22 21,om 5 22] (ai [mb 6 true] (ai [om 23 5,oh 24 23,mi 25 0] (.block 2 (.loop i40_l1)))))) i40_r2)))
def i40_r4:am:=(bd [om 50 0,on 51 50,of 52 0 51,of 53 0 52,ol 54 53,om 55 3,oo 56 (.build [il 0,.nils] [(0,1,.t 54),(1,1,.t 55)]),os 2 2 56])
def i40:cX:=⟨57,[(2,some (some 2))],(ai [oo 2 (.alloc 2560000000 [il 0,.nils])] (ai [ju 3] (.seq (ko [om 10 0,kJ 11 10 1,df 12 0 11 3,df 13 1 12 7,dl 14 13 15,om 15 0,dc 16 2560128384 57 [.t 15] 32,od 17 (.aaq 2560128448 22 1 [.t 14,.t 16]) 127,Lf 18 17 255,mi 19 0] (jZ i40_l3)) i40_r4)))⟩
def i102:cX:=⟨98,[(4,none),(5,none)],(ai [ju 4,ju 5] (ai [om 14 0,on 15 14,of 16 3 15,ol 17 16,oh 18 17,om 6 18] (ko [om 19 0,kJ 20 19 1,df 21 0 20 3,df 22 1 21 7,dl 23 22 15,om 24 0,kJ 25 24 32,df 26 3 25 96,dl 27 26 224,om 28 1,di 29 1 27 28 992,dl 30 29 2016,di 31 6 23 30 4095,dx 32 6 31 8191,om 33 0,kJ 34 33 16384,df 35 0 34 49152,df 36 1 35 114688,dl 37 36 245760,om 38 0,kJ 39 38 524288,df 40 3 39 1572864,dl 41 40 3670016,om 42 1,dj 43 .add 42 1 8388608,om 44 6,dt 45 .rem 43 44 58720256,di 46 1 41 45 133693440,dl 47 46 267911168,di 48 6 37 47 536854528,dx 49 6 48 1073725440,oo 7 (.alloc 6528129984 [il 0,il 0,il 0,il 0,il 0,eG]),oo 8 (.alloc 6528130048 [il 0,il 0,il 0,il 0,il 0,eG]),nV 6 7 32 6442467327,
 nV 6 8 49 17179869183] (ai [of 50 1 7,ol 51 50,of 52 2 7,ol 53 52,oo 54 (.build [il 0,il 0] [(0,1,.t 51),(1,1,.t 53)]),oo 9 (.alloc 6528192320 [il 0,il 0]),os 2 9 54] (ai [of 55 1 8,ol 56 55,of 57 2 8,ol 58 57,oj 59 .sub 58 1,oo 60 (.build [il 0,il 0] [(0,1,.t 56),(1,1,.t 59)]),oo 10 (.alloc 6528256384 [il 0,il 0]),os 2 10 60] (.seq (ai [om 61 1,om 62 6,oj 63 .sub 62 1,ot 64 .lss 61 63] (ct 64 (bd [ox 65 2 9,ox 66 2 10,oc 67 6528384128 130 [.t 65,.t 66,.k (.one (.p (.nils))),.k (.one (.p (.nils)))],oe 68 67 0,oe 69 67 1,om 4 68,om 5 69]) .skip)) (ai [om 70 0,on 71 70,of 72 0 71,of 73 0 72,ol 74 73,oo 75 (.build [il 0,il 0] [(0,1,.t 74)]),oo 11 (.alloc 6528448384 [il 0,il 0]),os 2 11 75] (.seq (ko [of 76 1 7,dl 77 76 1,om 78 0,kJ 79 78 4,df 80 0 79 12,df 81 0 80 28,dl 82 81 60,
 dt 83 .eql 77 82 127] (ct 83 (rf [ox 84 2 9,os 2 11 84]) .skip)) (ai [ox 86 2 9,ox 87 2 11,oc 88 6528640128 130 [.t 86,.t 87,.k (.one (.p (.nils))),.k (.one (.p (.nils)))],om 85 88,oe 89 85 0,oe 90 85 1,om 12 89,om 13 90] (bd [oo 91 (.build [il 0,il 0] []),ox 92 2 10,om 93 12,om 94 13,oc 95 6528704256 130 [.t 91,.t 92,.t 93,.t 94],oe 96 95 0,oe 97 95 1,om 4 96,om 5 97]))))))))))⟩
def i103_l1:am:=(.seq (ai [om 7 2,om 8 3,ot 9 .lss 7 8] (lJ 9)) (.seq (.block 1 (rt [om 14 0,om 15 2,om 16 0,om 17 3,om 18 0,om 19 3,di 20 2 18 19 48,dx 21 2 20 112,om 22 0,om 23 2,di 24 2 22 23 768,dx 25 2 24 1792,di 26 2 14 15 4083,nV 2 26 21 8179,di 27 2 16 17 16383,nV 2 27 25 32767])) (rf [om 10 2,oj 11 .add 10 1,om 12 3,oj 13 .sub 12 1,om 2 11,om 3 13])))
def i103:cX:=⟨28,[],(ai [om 4 0,oh 5 4,oj 6 .sub 5 1,mi 2 0,om 3 6] (jZ i103_l1))⟩
def i104_l1:am:=(.seq (ai [om 7 2,om 8 3,ot 9 .lss 7 8] (lJ 9)) (.seq (.block 1 (rt [om 14 0,om 15 2,om 16 0,om 17 3,om 18 0,om 19 3,di 20 1 18 19 48,dl 21 20 112,om 22 0,om 23 2,di 24 1 22 23 768,dl 25 24 1792,di 26 1 14 15 4083,nV 1 26 21 8179,di 27 1 16 17 16383,nV 1 27 25 32767])) (rf [om 10 2,oj 11 .add 10 1,om 12 3,oj 13 .sub 12 1,om 2 11,om 3 13])))
def i104:cX:=⟨28,[],(ai [om 4 0,oh 5 4,oj 6 .sub 5 1,mi 2 0,om 3 6] (jZ i104_l1))⟩
def i105:cX:=⟨15,[(4,none),(5,none)],(ai [mi 4 0,mi 5 0] (ko [om 6 1,om 7 1,dj 8 .add 7 1 2,om 9 0,kJ 10 9 8,df 11 1 10 24,dl 12 11 56,Lf 13 12 120,dt 14 .rem 8 13 254,dm 4 6 1,dm 5 14 1023] .ret))⟩
def i106_l1:am:=(ai [ot 11 .lss 10 9] (.seq (lJ 11) (.seq (.block 1 (ai [om 12 10,oi 13 7 8 10,ox 14 7 13,oo 7 (.alloc 6784256192 [il 0,il 0,il 0,il 0,il 0,eG,eG]),om 6 12,os 7 7 14] (ai [om 15 1,om 16 6,ox 17 7 7,oo 18 (.call 6784320192 (.t 15) [.t 16,.t 17]),xj 19 18] (ct 19 (rf [om 20 5,ox 21 7 7,oo 22 (.aaq 6784384128 132 7 [.t 21]),Az 23 6784384192 132 7 56 20 22,om 5 23]) .skip)))) (rf [oj 24 .add 10 1,om 10 24]))))
def i106_r2:am:=(bd [om 25 5,om 4 25])
def i106:cX:=⟨26,[(4,none)],(ai [ju 4] (ai [ju 5] (.seq (ai [om 8 0,oh 9 8,mi 10 0] (jZ i106_l1)) i106_r2)))⟩
def i108_l1:am:=(ai [ot 12 .lss 11 10] (.seq (lJ 12) (.seq (.block 1 (ai [om 13 11,om 8 13] (ai [om 14 0,om 15 8,oi 16 7 14 15,of 17 0 16,of 18 0 17,ol 19 18,oj 20 .eql 19 1,om 21 20,lc 22 0 21,lc 23 8 21,V1 24 7 22 23 21,my 25 0 24 21,my 26 1 25 21,qe 27 26 21,lc 28 1 21,Zt 29 .eql 27 28 21,pZ 30 21 29,om 31 30,lc 32 0 31,lc 33 8 31,V1 34 7 32 33 31,my 35 0 34 31,
 my 36 2 35 31,qe 37 36 31,lc 38 2 31,Zt 39 .gtr 37 38 31,pZ 40 31 39] (ct 40 (rf [om 41 0,om 42 8,oi 43 7 41 42,of 44 0 43,of 45 2 44,ol 46 45,om 47 3,ot 48 .add 46 47,oi 49 7 41 42,of 50 0 49,of 51 2 50,os 1 51 48]) .skip)))) (rf [oj 52 .add 11 1,om 11 52]))))
def i108:cX:=⟨53,[],(ai [om 9 0,oh 10 9,mi 11 0] (jZ i108_l1))⟩
def i107:cX:=⟨15,[(6,none)],(ai [iU 5 6848000000 1,mb 6 false] (bd [om 7 0,ol 8 2,ot 9 .eql 7 8,om 10 9,jc 11 0 10,qj 12 3 10,ML 13 .eql 11 12 10,mf 14 10 13,om 6 14]))⟩
def i110:cX:=⟨8,[(2,none)],(ai [ju 2] (.seq (ai [om 3 0,oo 4 (.eqc .slc false (.t 3) (.k (.one (.p (.nils)))))] (ct 4 (bd [ju 2]) .skip)) (bd [oo 5 (.aaq 7040192000 132 7 []),om 6 0,Az 7 7040192128 132 7 56 5 6,om 2 7])))⟩
def i112:cX:=⟨51,[(4,none),(5,none),(6,none)],(ai [mi 4 0,mi 5 0,mb 6 false] (ai [om 10 0,om 11 1,oc 12 7168064128 105 [.t 10,.t 11],om 9 12,oe 13 9 0,oe 14 9 1,om 7 13,om 8 14] (.seq (ai [om 15 0,on 16 15,of 17 1 16,ol 18 17,om 19 7,oi 20 7 18 19,of 21 0 20,of 22 0 21,ol 23 22,oj 24 .eql 23 2] (ct 24 (rf [om 25 8,om 26 7,om 7 25,om 8 26]) .skip)) (ko [om 27 7,om 28 8,om 29 0,kJ 30 29 4,df 31 1 30 12,dl 32 31 28,om 33 7,di 34 7 32 33 124,df 35 0 34 252,df 36 0 35 508,dl 37 36 1020,dj 38 .eql 37 1 2044,dm 39 38 4092,xz 40 0 39 8188,Hn_ 41 40 39 16380,Jr 42 1 41 39 32764,EB 43 42 39 65532,xz 44 8 39 8188,Sc 45 7 43 44 39 262140,
 Jr 46 0 45 39 524284,Jr 47 0 46 39 1048572,EB 48 47 39 2097148,St 49 .eql 48 2 39 4194300,Vh 50 39 49 8388604,dm 4 27 8189,dm 5 28 16785407,dm 6 50 67108863] .ret))))⟩
def i113:cX:=⟨31,[(6,none)],(ai [iU 3 7232000000 0,iU 4 7232000064 1,iU 5 7232000128 2,mb 6 false] (ko [ol 7 3,kJ 8 7 1,df 9 3 8 3,dl 10 9 7,ol 11 5,od 12 (.aaU 1 (.t 11) (.i 0)) 16,dl 13 12 48,db 14 .mul (.i 2) (.t 13) 112,di 15 1 10 14 255,dl 16 15 511,ol 17 3,kJ 18 17 1024,df 19 3 18 3072,dl 20 19 7168,ol 21 5,od 22 (.aaU 1 (.t 21) (.i 0)) 16384,dl 23 22 49152,db 24 .mul (.i 2) (.t 23) 114688,dj 25 .add 24 1 245760,di 26 1 20 25 523264,dl 27 26 1047552,od 28 (.aaq 7232065344 3 1 [.t 16,.t 27]) 2097151,oo 29 (.mkfn 133 [] [.t 3,.t 5,.t 4]),dc 30 7232065472 132 [.t 28,.t 29] 8388607,dm 6 30 16777215] .ret))⟩
def i114_l1:am:=(ai [ot 27 .lss 26 25] (.seq (ct 27 .skip (.exit 2)) (.seq (.block 3 (ai [oi 28 1 24 26,ol 29 28,om 9 29] (ai [of 30 0 7,of 31 3 30,ol 32 31,om 33 9,ot 34 .gtr 32 33] (ct 34 (rf [om 35 5,om 36 6,oi 37 7 35 36,of 38 0 37,of 39 3 38,ol 40 39,oj 41 .sub 40 1,oi 42 7 35 36,of 43 0 42,of 44 3 43,os 1 44 41]) .skip)))) (rf [oj 45 .add 26 1,om 26 45]))))
def i114_r2:am:=(rf [oj 46 .add 15 1,om 15 46])
def i114_l3:am:=(ai [ot 16 .lss 15 14] (.seq (lJ 16) (.seq (.block 1 (ai [om 17 15,oi 18 7 13 15,ox 19 7 18,oo 7 (.alloc 7296256192 [il 0,il 0,il 0,il 0,il 0,eG,eG]),om 6 17,os 7 7 19] (.seq (ai [of 20 0 7,of 21 0 20,ol 22 21,oj 23 .neq 22 2] (ct 23 (.exit 1) .skip)) (ai [ol 24 3,oh 25 24,mi 26 0] (.block 2 (.loop i114_l1)))))) i114_r2)))
def i114_r4:am:=(bd [om 47 5,om 4 47])
def i114:cX:=⟨48,[(4,none)],(ai [iU 3 7296000000 1,ju 4] (ai [om 10 0,oo 11 (.mkfn 134 [] [.t 3]),oc 12 7296064128 106 [.t 10,.t 11],om 5 12] (.seq (ai [om 13 5,oh 14 13,mi 15 0] (jZ i114_l3)) i114_r4)))⟩
def i116:cX:=⟨63,[(6,none)],(ai [mb 6 false] (ai [om 10 0,om 11 1,oc 12 7424064128 105 [.t 10,.t 11],om 9 12,oe 13 9 0,oe 14 9 1,om 7 13,om 8 14] (bd [om 15 0,on 16 15,of 17 1 16,ol 18 17,om 19 7,oi 20 7 18 19,of 21 0 20,of 22 0 21,ol 23 22,oj 24 .eql 23 2,om 25 24,lc 26 0 25,V0 27 26 25,my 28 1 27 25,qe 29 28 25,lc 30 8 25,V1 31 7 29 30 25,my 32 0 31 25,my 33 0 32 25,qe 34 33 25,AM 35 .eql 34 2 25,pZ 36 25 35,om 37 36,lc 38 0 37,
 V0 39 38 37,my 40 1 39 37,qe 41 40 37,lc 42 7 37,V1 43 7 41 42 37,my 44 0 43 37,my 45 5 44 37,qe 46 45 37,lc 47 2 37,Ql 48 (.eqc .bool false (.t 46) (.t 47)) 37,pZ 49 37 48,om 50 49,lc 51 0 50,V0 52 51 50,my 53 1 52 50,qe 54 53 50,lc 55 8 50,V1 56 7 54 55 50,my 57 0 56 50,
 my 58 5 57 50,qe 59 58 50,lc 60 2 50,Ql 61 (.eqc .bool false (.t 59) (.t 60)) 50,pZ 62 50 61,om 6 62])))⟩
def i118:cX:=⟨11,[],(ai [om 3 0,oh 4 3,om 2 4] (rf [om 5 0,om 6 2,om 7 2,oo 8 (.conv .u64 (.t 7)),oc 9 7552064256 126 [.t 8],oc 10 7552064320 136 [.t 5,.i 0,.t 6,.t 9]]))⟩
def i119_l1:am:=(.seq (ai [om 29 5,om 30 4,oh 31 30,ot 32 .lss 29 31] (ct 32 .skip (.exit 2))) (.seq (.block 3 (ko [om 35 4,om 36 5,di 37 1 35 36 3,dl 38 37 7,om 39 4,om 40 5,dj 41 .sub 40 1 32,di 42 1 39 41 112,dl 43 42 240,dt 44 .neq 38 43 511] (ct 44 (ai [om 45 0,om 46 3,om 47 4,om 48 5,oi 49 1 47 48,ol 50 49,oi 51 1 45 46,os 1 51 50] (rf [om 52 3,oj 53 .add 52 1,om 3 53])) .skip))) (rf [om 33 5,oj 34 .add 33 1,om 5 34])))
def i119_r2:am:=(ai [om 54 0,om 55 3,oo 56 (.slice 1 (.t 54) (some (.t 55)) none),op (.clear [il 0] (.t 56))] (bd [om 57 0,om 58 3,oo 59 (.slice 1 (.t 57) none (some (.t 58))),om 2 59]))
def i119_r3:am:=(rf [om 14 3,oj 15 .add 14 1,om 3 15])
def i119_l4:am:=(.seq (ai [om 10 3,om 11 0,oh 12 11,ot 13 .lss 10 12] (lJ 13)) (.seq (.block 1 (ko [om 16 0,om 17 3,di 18 1 16 17 3,dl 19 18 7,om 20 0,om 21 3,dj 22 .sub 21 1 32,di 23 1 20 22 112,dl 24 23 240,dt 25 .eql 19 24 511] (ct 25 (ai [om 26 0,om 27 3,oo 28 (.slice 1 (.t 26) (some (.t 27)) none),om 4 28] (.seq (ai [mi 5 1] (.block 2 (.loop i119_l1))) i119_r2)) .skip))) i119_r3))
def i119_r5:am:=(bd [om 60 0,om 2 60])
def i119:cX:=⟨61,[(2,none)],(ai [ju 2] (.seq (ai [om 6 0,oh 7 6,oj 8 .lss 7 2] (ct 8 (bd [om 9 0,om 2 9]) .skip)) (.seq (ai [mi 3 1] (jZ i119_l4)) i119_r5)))⟩
def i120_l1:am:=(ai [ot 18 .lss 17 16] (.seq (lJ 18) (.seq (.block 1 (ai [oi 19 1 15 17,ol 20 19,om 7 20] (ai [om 22 0,om 23 7,oc 24 7680320128 105 [.t 22,.t 23],om 21 24,oe 25 21 0,oe 26 21 1,om 8 25,om 9 26] (rt [om 27 5,om 28 8,om 29 5,om 30 9,om 31 5,om 32 9,di 33 7 31 32 48,dx 34 7 33 112,om 35 5,om 36 8,di 37 7 35 36 768,dx 38 7 37 1792,di 39 7 27 28 4083,nV 7 39 34 8179,di 40 7 29 30 16383,nV 7 40 38 32767])))) (rf [oj 41 .add 17 1,om 17 41]))))
def i120_r2:am:=(bd [om 42 5,om 4 42])
def i120:cX:=⟨43,[(4,none)],(ai [ju 4] (ai [om 10 0,on 11 10,of 12 1 11,ol 13 12,oc 14 7680064256 110 [.t 13],om 5 14] (.seq (ai [om 15 1,oh 16 15,mi 17 0] (jZ i120_l1)) i120_r2)))⟩
def i127:cX:=⟨9,[(4,none)],(ai [iU 3 8128000000 1,mb 4 false] (bd [om 5 0,ox 6 7 3,oc 7 8128064128 151 [.t 5,.t 6],oj 8 .geq 7 0,om 4 8]))⟩
def i128:cX:=⟨14,[],(ai [om 5 0,oh 6 5,om 4 6] (rf [om 7 0,om 8 4,om 9 4,oo 10 (.conv .u64 (.t 9)),oc 11 8192064256 126 [.t 10],om 12 1,oc 13 8192064384 152 [.t 7,.i 0,.t 8,.t 11,.t 12]]))⟩
def i129:cX:=⟨20,[(4,none)],(ai [iU 2 8256000000 0,iU 3 8256000064 1,mi 4 0] (.seq (ai [of 5 2 2,ol 6 5,of 7 2 3,ol 8 7,ot 9 .neq 6 8] (ct 9 (bd [of 10 2 2,ol 11 10,of 12 2 3,ol 13 12,ot 14 .sub 11 13,om 4 14]) .skip)) (bd [of 15 3 2,ol 16 15,of 17 3 3,ol 18 17,ot 19 .sub 16 18,om 4 19])))⟩
def i57_l1:am:=(ai [ot 17 .lss 16 15] (.seq (lJ 17) (.seq (.block 1 (ai [om 18 16,om 4 18] (ai [om 19 3,oh 20 19,oj 21 .sub 20 1,om 22 4,ot 23 .sub 21 22,om 5 23] (ai [om 24 3,om 25 4,oi 26 6 24 25,of 27 0 26,ol 28 27,oj 29 .eql 28 1,om 30 29,lc 31 0 30,V0 32 31 30,my 33 2 32 30,qe 34 33 30,lc 35 5 30,V1 36 1 34 35 30,qe 37 36 30,Xh 38 37 30,pZ 39 30 38] (ct 39 (bd [om 40 3,om 41 4,oc 42 3648512128 59 [.t 40,.t 41],om 2 42]) .skip))))) (rf [oj 43 .add 16 1,om 16 43]))))
def i57_r2:am:=(bd [om 44 3,om 2 44])
def i57:cX:=⟨45,[(2,none)],(ai [ju 2] (ai [om 6 0,on 7 6,of 8 0 7,of 9 1 8,ol 10 9,oc 11 3648064320 39 [.t 10],om 3 11] (ai [om 12 3,oc 13 3648128064 74 [.t 12]] (.seq (ai [om 14 3,oh 15 14,mi 16 0] (jZ i57_l1)) i57_r2))))⟩
def i59:cX:=⟨13,[(4,none)],(ai [ju 4] (ko [om 5 0,om 6 1,od 7 (.slice 6 (.t 5) (some (.t 6)) none) 3,od 8 (.append 3776064192 38 6 48 (.k (.one (.p (.nils)))) (.t 7)) 7,om 9 0,om 10 1,od 11 (.slice 6 (.t 9) none (some (.t 10))) 48,NE 12 3776064448 38 6 48 8 11 127,dm 4 12 255] .ret))⟩
def i58_l1:am:=(ai [ot 13 .lss 12 11] (.seq (lJ 13) (.seq (.block 1 (ai [om 14 12,oi 15 6 10 12,ox 16 6 15,oo 6 (.alloc 3712320192 [il 0,il 0,il 0,il 0,il 0,eG]),om 5 14,os 6 6 16] (.seq (ai [of 17 0 6,ol 18 17,oj 19 .neq 18 2] (ct 19 (.exit 1) .skip)) (.seq (ai [om 20 3,of 21 3 6,ol 22 21,oo 23 (.lookup 0 [il 0] false false (.t 20) (.t 22)),oj 24 .eql 23 0] (ct 24 (rf [om 25 3,of 26 3 6,ol 27 26,om 28 3,oo 29 (.mlen (.t 28)),oj 30 .add 29 1,op (.mupd 0 false (.t 25) (.t 27) (.t 30))]) .skip)) (rf [om 31 4,om 32 5,om 33 3,of 34 3 6,ol 35 34,oo 36 (.lookup 0 [il 0] false false (.t 33) (.t 35)),oi 37 6 31 32,of 38 3 37,os 1 38 36]))))) (rf [oj 39 .add 12 1,om 12 39]))))
def i58_r2:am:=(bd [om 40 4,om 2 40])
def i58:cX:=⟨41,[(2,none)],(ai [ju 2] (ai [oo 7 (.mkmap 3712064000 false),om 3 7] (ai [om 8 0,oc 9 3712128064 39 [.t 8],om 4 9] (.seq (ai [om 10 4,oh 11 10,mi 12 0] (jZ i58_l1)) i58_r2))))⟩
def i60_l1:am:=(ai [ot 9 .lss 8 7] (.seq (lJ 9) (.seq (.block 1 (ai [om 10 8,om 5 10] (.seq (ko [om 11 0,om 12 5,di 13 6 11 12 3,dx 14 6 13 7,om 15 1,om 16 5,di 17 6 15 16 48,dx 18 6 17 112,od 19 (.eqc (.str [true,true,true,true,true,false]) false (.t 14) (.t 18)) 255] (ct 19 (.exit 1) .skip)) (ko [om 20 0,om 21 5,di 22 6 20 21 3,dx 23 6 22 7,om 24 1,om 25 5,di 26 6 24 25 48,dx 27 6 26 112,dc 28 3840320512 75 [.t 23,.t 27] 255,dm 4 28 511] .ret)))) (rf [oj 29 .add 8 1,om 8 29]))))
def i60_r2:am:=(bd [mb 4 false])
def i60:cX:=⟨30,[(4,none)],(ai [mb 4 false] (.seq (ai [om 6 0,oh 7 6,mi 8 0] (jZ i60_l1)) i60_r2))⟩
def i130_l1:am:=(.seq (ai [of 10 0 4,ol 11 10,of 12 0 5,ol 13 12,ot 14 .lss 11 13] (lJ 14)) (.block 1 (ai [om 15 2,ox 16 2 4,oo 17 (.aaq 8320128128 159 2 [.t 16]),Az 18 8320128192 159 2 16 15 17,om 2 18] (ai [of 19 0 4,ol 20 19,oj 21 .add 20 1,oo 22 (.build [il 0,il 0] [(0,1,.t 21)]),os 2 4 22] (rf [om 23 3,of 24 0 4,ol 25 24,oo 26 (.aaq 8320256192 3 1 [.t 25]),Az 27 8320256256 3 1 8 23 26,om 3 27])))))
def i130_r2:am:=(bd [om 28 2,ox 29 2 5,oo 30 (.aaq 8320320128 159 2 [.t 29]),Az 31 8320320192 159 2 16 28 30,om 32 3,om 8 31,om 9 32])
def i130:cX:=⟨33,[(8,none),(9,none)],(ai [iU 4 8320000000 0,iU 5 8320000064 1,ju 8,ju 9] (.seq (jZ i130_l1) i130_r2))⟩
def i132:cX:=⟨9,[(4,none)],(ai [mb 4 false] (bd [om 5 0,om 6 1,oc 7 8448064128 153 [.t 5,.t 6],oj 8 .geq 7 0,om 4 8]))⟩
def i133_l1:am:=(ai [ot 42 .lss 41 40] (.seq (ct 42 .skip (.exit 2)) (.seq (.block 3 (ai [oi 43 1 39 41,ol 44 43,om 11 44] (ai [om 45 11,oj 46 .quo 45 2,om 47 8,ot 48 .eql 46 47] (ct 48 (rf [om 49 9,oj 50 .add 49 1,om 9 50]) .skip)))) (rf [oj 51 .add 41 1,om 41 51]))))
def i133_r2:am:=(ai [om 52 9,oj 53 .neq 52 1] (ct 53 (bd [mb 5 false]) .skip))
def i133_r3:am:=(rf [oj 54 .add 34 1,om 34 54])
def i133_l4:am:=(ai [ot 35 .lss 34 33] (.seq (lJ 35) (.seq (.block 1 (ai [oi 36 1 32 34,ol 37 36,om 8 37] (ai [mi 9 0] (.seq (ai [of 38 1 6,ol 39 38,oh 40 39,mi 41 0] (.block 2 (.loop i133_l1))) i133_r2)))) i133_r3)))
def i133_r5:am:=(bd [mb 5 true])
def i133:cX:=⟨55,[(5,none)],(ai [mb 5 false] (ai [ol 12 1,on 13 12,of 14 2 13,ol 15 14,om 16 0,oi 17 5 15 16,ox 18 5 17,oo 6 (.alloc 8512064448 [eG,.nils,.nils,.nils,eG]),os 5 6 18] (.seq (ai [of 19 1 6,ol 20 19,oh 21 20,ol 22 2,oh 23 22,ot 24 .neq 21 23,om 25 24,mz 26 2 6 25,qj 27 26 25,gh_ 28 27 25,qj 29 3 25,ML 30 .neq 28 29 25,mf 31 25 30] (ct 31 (bd [mb 5 false]) .skip)) (.seq (ai [ol 32 2,oh 33 32,mi 34 0] (jZ i133_l4)) i133_r5))))⟩
def i134:cX:=⟨17,[(5,none)],(ai [iU 4 8576000000 1,mb 5 false] (bd [of 6 0 4,of 7 0 6,ol 8 7,oj 9 .eql 8 2,om 10 9,qe 11 2 10,my 12 0 4 10,my 13 3 12 10,qe 14 13 10,MJ 15 8576064576 135 [.t 11,.t 14] 10,pZ 16 10 15,om 5 16]))⟩
def i136_l1:am:=(.block 1 (ai [om 19 2,om 20 1,ot 21 .sub 19 20,om 10 21] (.seq (ai [om 22 10,oj 23 .leq 22 12] (ct 23 (bd [om 24 0,om 25 1,om 26 2,oc 27 8704256192 155 [.t 24,.t 25,.t 26]]) .skip)) (.seq (ai [om 28 3,oj 29 .eql 28 0] (ct 29 (bd [om 30 0,om 31 1,om 32 2,oc 33 8704384192 156 [.t 30,.t 31,.t 32]]) .skip)) (.seq (ai [om 34 8,xj 35 34] (ct 35 (ai [om 36 0,om 37 1,om 38 2,oc 39 8704512192 157 [.t 36,.t 37,.t 38]] (rf [om 40 3,oj 41 .sub 40 1,om 3 41])) .skip)) (ai [om 43 0,om 44 1,om 45 2,oc 46 8704640192 158 [.t 43,.t 44,.t 45],om 42 46,oe 47 42 0,oe 48 42 1,om 11 47,om 12 48] (.seq (ai [om 49 12,oj 50 .eql 49 2] (ct 50 (ai [om 51 0,om 52 1,om 53 2,oc 54 8704768192 159 [.t 51,.t 52,.t 53]] (ai [om 55 2,oj 56 .sub 55 1,
 om 57 11,om 58 1,ot 59 .sub 57 58,ot 60 .sub 56 59,om 11 60] (rf [mi 12 1]))) .skip)) (.seq (ai [om 61 8,om 62 61,lc 63 9 62,pZ 64 62 63,om 65 64,lc 66 12 65,AM 67 .eql 66 1 65,pZ 68 65 67] (ct 68 (ai [om 69 0,om 70 1,om 71 2,oc 72 8705024192 160 [.t 69,.t 70,.t 71]] (ct 72 .ret .skip)) .skip)) (.seq (ko [om 73 1,dj 74 .gtr 73 0 1,dm 75 74 3,xz 76 0 75 7,xz 77 1 75 7,St 78 .sub 77 1 75 23,Sc 79 1 76 78 75 63,EB 80 79 75 127,xz 81 0 75 7,xz 82 11 75 7,
 Sc 83 1 81 82 75 775,EB 84 83 75 1799,Hc_ 85 8705088768 161 [.t 80,.t 84] 75 4095,Hu_ 86 85 75 8191,Vh 87 75 86 16383] (ct 87 (ai [om 88 0,om 89 1,om 90 2,om 91 11,oc 92 8705152256 162 [.t 88,.t 89,.t 90,.t 91],om 13 92] (ai [om 93 13,om 1 93] (.exit 1))) .skip)) (ai [om 95 0,om 96 1,om 97 2,om 98 11,oc 99 8705280256 163 [.t 95,.t 96,.t 97,.t 98],om 94 99,oe 100 94 0,oe 101 94 1,om 14 100,om 15 101] (ai [om 102 15,om 9 102] (ai [om 103 14,om 104 1,ot 105 .sub 103 104,om 106 2,om 107 14,ot 108 .sub 106 107,om 16 105,om 17 108] (ai [om 109 10,oj 110 .quo 109 8,om 18 110] (ai [om 111 16,om 112 17,ot 113 .lss 111 112] (ct 113 (ai [om 114 16,
 om 115 18,ot 116 .geq 114 115,om 8 116] (ai [om 117 0,om 118 1,om 119 14,om 120 3,oc 121 8705664256 136 [.t 117,.t 118,.t 119,.t 120]] (rf [om 122 14,oj 123 .add 122 1,om 1 123]))) (ai [om 124 17,om 125 18,ot 126 .geq 124 125,om 8 126] (ai [om 127 0,om 128 14,oj 129 .add 128 1,om 130 2,om 131 3,oc 132 8705856320 136 [.t 127,.t 129,.t 130,.t 131]] (rf [om 133 14,om 2 133]))))))))))))))))))
def i136:cX:=⟨134,[],(ai [mb 8 true] (ai [mb 9 true] (jZ i136_l1)))⟩
def i151_l1:am:=(ai [ot 9 .lss 8 7] (.seq (lJ 9) (.seq (.block 1 (ai [om 10 8,om 5 10] (ko [ox 11 7 3,om 12 0,om 13 5,di 14 7 12 13 6,dx 15 7 14 14,od 16 (.eqc (.str [true,true,true,true,false,false,true]) false (.t 11) (.t 15)) 31] (ct 16 (bd [om 17 5,om 4 17]) .skip)))) (rf [oj 18 .add 8 1,om 8 18]))))
def i151_r2:am:=(bd [oo 4 (.mov (.i (-1)))])
def i151:cX:=⟨19,[(4,none)],(ai [iU 3 9664000000 1,mi 4 0] (.seq (ai [om 6 0,oh 7 6,mi 8 0] (jZ i151_l1)) i151_r2))⟩
def i152_l1:am:=(.block 1 (ai [om 21 2,om 22 1,ot 23 .sub 21 22,om 12 23] (.seq (ai [om 24 12,oj 25 .leq 24 12] (ct 25 (bd [om 26 0,om 27 1,om 28 2,om 29 4,oc 30 9728256256 171 [.t 26,.t 27,.t 28,.t 29]]) .skip)) (.seq (ai [om 31 3,oj 32 .eql 31 0] (ct 32 (bd [om 33 0,om 34 1,om 35 2,om 36 4,oc 37 9728384256 172 [.t 33,.t 34,.t 35,.t 36]]) .skip)) (.seq (ai [om 38 10,xj 39 38] (ct 39 (ai [om 40 0,om 41 1,om 42 2,om 43 4,oc 44 9728512256 173 [.t 40,.t 41,.t 42,.t 43]] (rf [om 45 3,oj 46 .sub 45 1,om 3 46])) .skip)) (ai [om 48 0,om 49 1,om 50 2,om 51 4,oc 52 9728640256 174 [.t 48,.t 49,.t 50,.t 51],om 47 52,oe 53 47 0,oe 54 47 1,om 13 53,om 14 54] (.seq (ai [om 55 14,oj 56 .eql 55 2] (ct 56 (ai [om 57 0,om 58 1,om 59 2,om 60 4,oc 61 9728768256 175 [.t 57,.t 58,.t 59,.t 60]] (ai [om 62 2,
 oj 63 .sub 62 1,om 64 13,om 65 1,ot 66 .sub 64 65,ot 67 .sub 63 66,om 13 67] (rf [mi 14 1]))) .skip)) (.seq (ai [om 68 10,om 69 68,lc 70 11 69,pZ 71 69 70,om 72 71,lc 73 14 72,AM 74 .eql 73 1 72,pZ 75 72 74] (ct 75 (ai [om 76 0,om 77 1,om 78 2,om 79 4,oc 80 9729024256 176 [.t 76,.t 77,.t 78,.t 79]] (ct 80 .ret .skip)) .skip)) (.seq (ko [om 81 1,dj 82 .gtr 81 0 1,dm 83 82 3,xz 84 4 83 7,xz 85 0 83 7,xz 86 1 83 7,St 87 .sub 86 1 83 39,Sc 88 7 85 87 83 119,Hx_ 89 7 88 83 247,
 xz 90 0 83 7,xz 91 13 83 7,Sc 92 7 90 91 83 1543,Hx_ 93 7 92 83 3591,Hz_ 94 (.call 9729088832 (.t 84) [.t 89,.t 93]) 83 8191,St 95 .lss 94 0 83 16383,Hu_ 96 95 83 32767,Vh 97 83 96 65535] (ct 97 (ai [om 98 0,om 99 1,om 100 2,om 101 13,om 102 4,oc 103 9729152320 177 [.t 98,.t 99,.t 100,.t 101,.t 102],om 15 103] (ai [om 104 15,om 1 104] (.exit 1))) .skip)) (ai [om 106 0,om 107 1,om 108 2,om 109 13,om 110 4,oc 111 9729280320 178 [.t 106,.t 107,.t 108,.t 109,.t 110],om 105 111,oe 112 105 0,oe 113 105 1,om 16 112,om 17 113] (ai [om 114 17,om 11 114] (ai [om 115 16,om 116 1,
 ot 117 .sub 115 116,om 118 2,om 119 16,ot 120 .sub 118 119,om 18 117,om 19 120] (ai [om 121 12,oj 122 .quo 121 8,om 20 122] (ai [om 123 18,om 124 19,ot 125 .lss 123 124] (ct 125 (ai [om 126 18,om 127 20,ot 128 .geq 126 127,om 10 128] (ai [om 129 0,om 130 1,om 131 16,om 132 3,om 133 4,oc 134 9729664320 152 [.t 129,.t 130,.t 131,.t 132,.t 133]] (rf [om 135 16,oj 136 .add 135 1,om 1 136]))) (ai [om 137 19,om 138 20,ot 139 .geq 137 138,om 10 139] (ai [om 140 0,om 141 16,oj 142 .add 141 1,om 143 2,om 144 3,om 145 4,oc 146 9729856384 152 [.t 140,.t 142,.t 143,.t 144,.t 145]] (rf [om 147 16,om 2 147]))))))))))))))))))
def i152:cX:=⟨148,[],(ai [mb 10 true] (ai [mb 11 true] (jZ i152_l1)))⟩
def i74_l1:am:=(.seq (ai [om 7 2,om 8 3,ot 9 .lss 7 8] (lJ 9)) (.seq (.block 1 (rt [om 14 0,om 15 2,om 16 0,om 17 3,om 18 0,om 19 3,di 20 6 18 19 48,dx 21 6 20 112,om 22 0,om 23 2,di 24 6 22 23 768,dx 25 6 24 1792,di 26 6 14 15 4083,nV 6 26 21 8179,di 27 6 16 17 16383,nV 6 27 25 32767])) (rf [om 10 2,oj 11 .add 10 1,om 12 3,oj 13 .sub 12 1,om 2 11,om 3 13])))
def i74:cX:=⟨28,[],(ai [om 4 0,oh 5 4,oj 6 .sub 5 1,mi 2 0,om 3 6] (jZ i74_l1))⟩
def i75:cX:=⟨62,[(4,none)],(ai [iU 2 4800000000 0,iU 3 4800000064 1,mb 4 false] (.seq (.block 0 (ai [of 6 0 2,ol 7 6,of 8 0 3,ol 9 8,ot 10 .neq 7 9,om 5 10] (ct 5 (bd [of 11 0 2,ol 12 11,of 13 0 3,ol 14 13,ot 15 .lss 12 14,om 4 15]) (ai [of 17 1 2,ol 18 17,of 19 1 3,ol 20 19,ot 21 .neq 18 20,om 16 21] (ct 16 (bd [of 22 1 2,ol 23 22,of 24 1 3,ol 25 24,ot 26 .lss 23 25,om 4 26]) (ai [of 28 2 2,ol 29 28,of 30 2 3,ol 31 30,ot 32 .neq 29 31,om 27 32] (ct 27 (bd [of 33 2 2,ol 34 33,of 35 2 3,ol 36 35,ot 37 .lss 34 36,om 4 37]) (ai [of 39 3 2,ol 40 39,of 41 3 3,ol 42 41,ot 43 .neq 40 42,om 38 43] (ct 38 (bd [of 44 3 2,ol 45 44,of 46 3 3,ol 47 46,ot 48 .lss 45 47,om 4 48]) (ai [of 50 5 2,ol 51 50,of 52 5 3,ol 53 52,oo 54 (.eqc .bool true (.t 51) (.t 53)),
 om 49 54] (ct 49 (bd [of 55 5 3,ol 56 55,om 4 56]) .skip))))))))))) (bd [of 57 4 2,ol 58 57,of 59 4 3,ol 60 59,ot 61 .lss 58 60,om 4 61])))⟩
def i153_l1:am:=(ai [ot 9 .lss 8 7] (.seq (lJ 9) (.seq (.block 1 (ai [om 10 8,om 5 10] (ai [om 11 1,om 12 0,om 13 5,oi 14 1 12 13,ol 15 14,oo 16 (.call 9792256320 (.t 11) [.t 15])] (ct 16 (bd [om 17 5,om 4 17]) .skip)))) (rf [oj 18 .add 8 1,om 8 18]))))
def i153_r2:am:=(bd [oo 4 (.mov (.i (-1)))])
def i153:cX:=⟨19,[(4,none)],(ai [mi 4 0] (.seq (ai [om 6 0,oh 7 6,mi 8 0] (jZ i153_l1)) i153_r2))⟩
def i135:cX:=⟨9,[(4,none)],(ai [mb 4 false] (bd [om 5 0,om 6 1,oc 7 8640064128 154 [.t 5,.t 6],oj 8 .geq 7 0,om 4 8]))⟩
def i155_l1:am:=(.seq (ko [om 16 7,om 17 1,dt 18 .gtr 16 17 3,dm 19 18 7,xz 20 0 19 15,xz 21 7 19 15,Sc 22 1 20 21 19 63,EB 23 22 19 127,xz 24 0 19 15,xz 25 7 19 15,St 26 .sub 25 1 19 527,Sc 27 1 24 26 19 1807,EB 28 27 19 3855,Hc_ 29 9920256832 161 [.t 23,.t 28] 19 8191,Vh 30 19 29 16383] (ct 30 .skip (.exit 2))) (.seq (.block 3 (rt [om 33 0,om 34 7,om 35 0,om 36 7,dj 37 .sub 36 1 8,om 38 0,om 39 7,dj 40 .sub 39 1 64,di 41 1 38 40 224,dl 42 41 480,
 om 43 0,om 44 7,di 45 1 43 44 3072,dl 46 45 7168,di 47 1 33 34 16355,nV 1 47 42 32739,di 48 1 35 37 65535,nV 1 48 46 131071])) (rf [om 31 7,oj 32 .sub 31 1,om 7 32])))
def i155_r2:am:=(rf [om 13 6,oj 14 .add 13 1,om 6 14])
def i155_l3:am:=(.seq (ai [om 10 6,om 11 2,ot 12 .lss 10 11] (lJ 12)) (.seq (.block 1 (ai [om 15 6,om 7 15] (.block 2 (.loop i155_l1)))) i155_r2))
def i155:cX:=⟨49,[],(ai [om 8 1,oj 9 .add 8 1,om 6 9] (jZ i155_l3))⟩
def i161:cX:=⟨17,[(4,none)],(ai [mb 4 false] (bd [om 5 0,oc 6 10304064064 182 [.t 5],om 7 6,lc 8 1 7,MJ 9 10304064256 182 [.t 8] 7,Xh 10 9 7,pZ 11 7 10,om 12 11,jc 13 0 12,jc 14 1 12,ML 15 .lss 13 14 12,mf 16 12 15,om 4 16]))⟩
def i171_l1:am:=(.seq (ko [om 18 9,om 19 1,dt 20 .gtr 18 19 3,dm 21 20 7,xz 22 3 21 15,xz 23 0 21 15,xz 24 9 21 15,Sc 25 7 23 24 21 111,Hx_ 26 7 25 21 239,xz 27 0 21 15,xz 28 9 21 15,St 29 .sub 28 1 21 1039,Sc 30 7 27 29 21 3599,Hx_ 31 7 30 21 7695,Hz_ 32 (.call 10944256896 (.t 22) [.t 26,.t 31]) 21 16383,St 33 .lss 32 0 21 32767,Vh 34 21 33 65535] (ct 34 .skip (.exit 2))) (.seq (.block 3 (rt [om 37 0,om 38 9,om 39 0,
 om 40 9,dj 41 .sub 40 1 8,om 42 0,om 43 9,dj 44 .sub 43 1 64,di 45 7 42 44 224,dx 46 7 45 480,om 47 0,om 48 9,di 49 7 47 48 3072,dx 50 7 49 7168,di 51 7 37 38 16355,nV 7 51 46 32739,di 52 7 39 41 65535,nV 7 52 50 131071])) (rf [om 35 9,oj 36 .sub 35 1,om 9 36])))
def i171_r2:am:=(rf [om 15 8,oj 16 .add 15 1,om 8 16])
def i171_l3:am:=(.seq (ai [om 12 8,om 13 2,ot 14 .lss 12 13] (lJ 14)) (.seq (.block 1 (ai [om 17 8,om 9 17] (.block 2 (.loop i171_l1)))) i171_r2))
def i171:cX:=⟨53,[],(ai [om 10 1,oj 11 .add 10 1,om 8 11] (jZ i171_l3))⟩
def i154_l1:am:=(ai [ot 9 .lss 8 7] (.seq (lJ 9) (.seq (.block 1 (ai [om 10 8,om 5 10] (ai [om 11 1,om 12 0,om 13 5,oi 14 1 12 13,ol 15 14,ot 16 .eql 11 15] (ct 16 (bd [om 17 5,om 4 17]) .skip)))) (rf [oj 18 .add 8 1,om 8 18]))))
def i154_r2:am:=(bd [oo 4 (.mov (.i (-1)))])
def i154:cX:=⟨19,[(4,none)],(ai [mi 4 0] (.seq (ai [om 6 0,oh 7 6,mi 8 0] (jZ i154_l1)) i154_r2))⟩
def i182:cX:=⟨6,[(2,none)],(ai [mb 2 false] (bd [om 3 0,om 4 0,ot 5 .neq 3 4,om 2 5]))⟩
def i3:cX:=⟨115,[(6,none)],(ai [iU 3 192000000 0,iU 4 192000064 1,mb 6 false] (.seq (ai [of 13 1 3,ol 14 13,oh 15 14,oj 16 .gtr 15 30,om 17 16,mz 18 1 4 17,qj 19 18 17,gh_ 20 19 17,wC 21 .gtr 20 30 17,mf 22 17 21,om 23 22,jc 24 2 23,wC 25 .lss 24 1 23,mf 26 23 25,om 27 26,jc 28 2 27,wC 29 .gtr 28 20 27,mf 30 27 29] (ct 30 (bd [oc 31 192128000 4 [],om 6 31]) .skip)) (ai [ox 33 2 3,ox 34 2 4,om 35 2,oc 36 192192192 5 [.t 33,.t 34,.t 35],
 om 32 36,oe 37 32 0,oe 38 32 1,oo 7 (.alloc 192192448 [.nils,.nils]),os 2 7 37,om 8 38] (.seq (ai [om 39 8,oj 40 .eql 39 0,om 41 40,Sm 42 2 3 41,Sm 43 2 4 41,Sm 44 2 7 41,MJ 45 192256384 6 [.t 42,.t 43,.t 44] 41,Xh 46 45 41,lc 47 46 41,Yf 48 2 4 47,Yf 49 2 3 47,mz 50 1 7 47,qj 51 50 47,mz 52 0 7 47,qj 53 52 47,Zu 54 (.build [.nils,.nils] [(0,1,.t 51),(1,1,.t 53)]) 47,
 So 55 192257024 6 [.t 48,.t 49,.t 54] 47,V2 56 55 47,hp_ 57 47 56 41,pZ 58 41 57] (ct 58 (bd [mb 6 false]) .skip)) (ai [ox 60 2 4,ox 61 2 3,om 62 2,oc 63 192384192 5 [.t 60,.t 61,.t 62],om 59 63,oe 64 59 0,oe 65 59 1,oo 9 (.alloc 192384448 [.nils,.nils]),os 2 9 64,om 10 65] (.seq (ai [om 66 10,oj 67 .eql 66 0,om 68 8,oj 69 .eql 68 0,oo 70 (.eqc .bool true (.t 67) (.t 69))] (ct 70 (bd [mb 6 false]) .skip)) (.seq (ai [om 71 8,oj 72 .eql 71 0,om 73 72,my 74 0 9 73,qe 75 74 73,my 76 1 7 73,qe 77 76 73,
 MJ 78 192576448 7 [.t 75,.t 77] 73,Xh 79 78 73,lc 80 79 73,mz 81 1 9 80,qj 82 81 80,mz 83 0 7 80,qj 84 83 80,So 85 192576896 7 [.t 82,.t 84] 80,V2 86 85 80,hp_ 87 80 86 73,pZ 88 73 87] (ct 88 (bd [mb 6 false]) .skip)) (ai [ox 90 2 3,ox 91 2 3,om 92 2,oc 93 192704192 5 [.t 90,.t 91,.t 92],om 89 93,oe 94 89 0,oe 95 89 1,oo 11 (.alloc 192704448 [.nils,.nils]),os 2 11 94,om 12 95] (bd [om 96 12,
 oj 97 .neq 96 0,om 98 97,Yf 99 2 3 98,Yf 100 2 3 98,Yf 101 2 11 98,So 102 192768384 6 [.t 99,.t 100,.t 101] 98,mf 103 98 102,om 104 103,lc 105 12 104,AM 106 .eql 105 0 104,Sm 107 2 3 104,MJ 108 192768768 8 [.t 107] 104,AM 109 .eql 108 0 104,Ql 110 (.eqc .bool false (.t 106) (.t 109)) 104,pZ 111 104 110,om 112 111,MJ 113 192769088 4 [] 112,
 pZ 114 112 113,om 6 114])))))))))⟩
end Go.Abs
namespace Go.Abs
open Go.Proofs
def FJ:List Nat->Nat->Bool
 |[],_=>false
 |a::r,n=>bif Nat.beq a n then true else FJ r n
def Vv:List (Nat×List Nat)->Nat->List Nat
 |[],_=>[]
 |(a,l)::r,n=>bif Nat.beq a n then l else Vv r n
def Ta:List Nat:=[24,25,37,43,46,52,53,74,83,98,100,103,104,108,117,118,119,125,128,130,136,142,143,144,145,146,147,148,149,152,155,156,157,158,159,160,162,163,166,168,169,170,171,172,173,174,175,176,177,178,179,180,181,183,184,185,186,187,188]
def WC:List (Nat×List Nat):=[(24,[24,43,46,25]),(25,[25]),(37,[37,52,53]),(43,[43]),(46,[46]),(52,[52]),(53,[53]),(74,[74]),(83,[83,103,104]),(98,[98,125,142,143,144,145,146,147,148,149,166,168,169,170,183]),(100,[100]),(103,[103]),(104,[104]),(108,[108]),(117,[117]),(118,[118,136,155,156,157,158,159,160,162,163,168,179,180,181,187]),(119,[119]),(125,[125,142,143,144,145,146,147,148,149,166,168,169,170,183]),(128,[128,152,168,171,172,173,174,175,176,177,178,184,185,186,188]),(130,[130]),(136,[136,155,156,157,158,159,160,162,163,168,179,180,181,187]),(142,[142]),(143,[143,166]),(144,[144,168]),(145,[145,169,170,183]),(146,[146]),(147,[147]),(148,[148]),(149,[149]),(152,[152,168,171,172,173,174,175,176,177,178,184,185,186,188]),(155,[155]),(156,[156,179]),(157,[157,168]),(158,[158,180,181,187]),(159,[159]),(160,[160]),(162,[162]),(163,[163]),(166,[166]),(168,[168]),(169,[169,170,183]),(170,[170,183]),(171,[171]),(172,[172,184]),(173,[168,173]),(174,[174,185,186,188]),(175,[175]),(176,[176]),(177,[177]),(178,[178]),(179,[179]),(180,[180,181,187]),(181,[181,187]),(183,[183]),(184,[184]),(185,[185,186,188]),(186,[186,188]),(187,[187]),(188,[188])]
def Vw:List Nat:=[40]
def OT(f:Nat)(args:List V):Option (Option RV):=
 bif Nat.beq f 61 then some (tZ args)
 else bif Nat.beq f 126 then some (qD args)
 else bif FJ [39,110] f then rJ args
 else bif Nat.beq f 45 then og args
 else none
noncomputable def S:Sys:={P:=Tryz.prog,shared:=FJ Ta,sites:=Vv WC,lone:=fun s=>FJ Vw (s/64000000),fns:=uH Tryz.prog,prim:=OT}
abbrev fi(n:Nat):Prop:=S.shared n=false
theorem c8:S.fns 8=some i8:=by kernel_rfl
theorem s8:fi 8:=rfl
theorem c20:S.fns 20=some i20:=by kernel_rfl
theorem s20:fi 20:=rfl
theorem c36:S.fns 36=some i36:=by kernel_rfl
theorem s36:fi 36:=rfl
theorem c66:S.fns 66=some i66:=by kernel_rfl
theorem s66:fi 66:=rfl
theorem c69:S.fns 69=some i69:=by kernel_rfl
theorem s69:fi 69:=rfl
theorem c50:S.fns 50=some i50:=by kernel_rfl
theorem s50:fi 50:=rfl
theorem c65:S.fns 65=some i65:=by kernel_rfl
theorem s65:fi 65:=rfl
theorem c51:S.fns 51=some i51:=by kernel_rfl
theorem s51:fi 51:=rfl
theorem c52:S.fns 52=some i52:=by kernel_rfl
theorem c53:S.fns 53=some i53:=by kernel_rfl
theorem c54:S.fns 54=some i54:=by kernel_rfl
theorem s54:fi 54:=rfl
theorem c37:S.fns 37=some i37:=by kernel_rfl
theorem c67:S.fns 67=some i67:=by kernel_rfl
theorem s67:fi 67:=rfl
theorem c81:S.fns 81=some i81:=by kernel_rfl
theorem s81:fi 81:=rfl
theorem c80:S.fns 80=some i80:=by kernel_rfl
theorem s80:fi 80:=rfl
theorem c64:S.fns 64=some i64:=by kernel_rfl
theorem s64:fi 64:=rfl
theorem c79:S.fns 79=some i79:=by kernel_rfl
theorem s79:fi 79:=rfl
theorem c68:S.fns 68=some i68:=by kernel_rfl
theorem s68:fi 68:=rfl
theorem c55:S.fns 55=some i55:=by kernel_rfl
theorem s55:fi 55:=rfl
theorem c38:S.fns 38=some i38:=by kernel_rfl
theorem s38:fi 38:=rfl
theorem c44:S.fns 44=some i44:=by kernel_rfl
theorem s44:fi 44:=rfl
theorem c34:S.fns 34=some i34:=by kernel_rfl
theorem s34:fi 34:=rfl
theorem c7:S.fns 7=some i7:=by kernel_rfl
theorem s7:fi 7:=rfl
theorem c56:S.fns 56=some i56:=by kernel_rfl
theorem s56:fi 56:=rfl
theorem c63:S.fns 63=some i63:=by kernel_rfl
theorem s63:fi 63:=rfl
theorem c39:S.fns 39=some i39:=by kernel_rfl
theorem s39:fi 39:=rfl
theorem c70:S.fns 70=some i70:=by kernel_rfl
theorem s70:fi 70:=rfl
theorem c71:S.fns 71=some i71:=by kernel_rfl
theorem s71:fi 71:=rfl
theorem c72:S.fns 72=some i72:=by kernel_rfl
theorem s72:fi 72:=rfl
theorem c73:S.fns 73=some i73:=by kernel_rfl
theorem s73:fi 73:=rfl
theorem c77:S.fns 77=some i77:=by kernel_rfl
theorem s77:fi 77:=rfl
theorem c78:S.fns 78=some i78:=by kernel_rfl
theorem s78:fi 78:=rfl
theorem c23:S.fns 23=some i23:=by kernel_rfl
theorem s23:fi 23:=rfl
theorem c35:S.fns 35=some i35:=by kernel_rfl
theorem s35:fi 35:=rfl
theorem c82:S.fns 82=some i82:=by kernel_rfl
theorem s82:fi 82:=rfl
theorem c83:S.fns 83=some i83:=by kernel_rfl
theorem c84:S.fns 84=some i84:=by kernel_rfl
theorem s84:fi 84:=rfl
theorem c85:S.fns 85=some i85:=by kernel_rfl
theorem c86:S.fns 86=some i86:=by kernel_rfl
theorem s86:fi 86:=rfl
theorem c87:S.fns 87=some i87:=by kernel_rfl
theorem c88:S.fns 88=some i88:=by kernel_rfl
theorem c90:S.fns 90=some i90:=by kernel_rfl
theorem c92:S.fns 92=some i92:=by kernel_rfl
theorem c94:S.fns 94=some i94:=by kernel_rfl
theorem s94:fi 94:=rfl
theorem c95:S.fns 95=some i95:=by kernel_rfl
theorem s95:fi 95:=rfl
theorem c97:S.fns 97=some i97:=by kernel_rfl
theorem s97:fi 97:=rfl
theorem c101:S.fns 101=some i101:=by kernel_rfl
theorem s101:fi 101:=rfl
theorem c40:S.fns 40=some i40:=by kernel_rfl
theorem s40:fi 40:=rfl
theorem c102:S.fns 102=some i102:=by kernel_rfl
theorem s102:fi 102:=rfl
theorem c103:S.fns 103=some i103:=by kernel_rfl
theorem c104:S.fns 104=some i104:=by kernel_rfl
theorem c105:S.fns 105=some i105:=by kernel_rfl
theorem s105:fi 105:=rfl
theorem c106:S.fns 106=some i106:=by kernel_rfl
theorem s106:fi 106:=rfl
theorem c108:S.fns 108=some i108:=by kernel_rfl
theorem c107:S.fns 107=some i107:=by kernel_rfl
theorem s107:fi 107:=rfl
theorem c110:S.fns 110=some i110:=by kernel_rfl
theorem s110:fi 110:=rfl
theorem c112:S.fns 112=some i112:=by kernel_rfl
theorem s112:fi 112:=rfl
theorem c113:S.fns 113=some i113:=by kernel_rfl
theorem s113:fi 113:=rfl
theorem c114:S.fns 114=some i114:=by kernel_rfl
theorem s114:fi 114:=rfl
theorem c116:S.fns 116=some i116:=by kernel_rfl
theorem s116:fi 116:=rfl
theorem c118:S.fns 118=some i118:=by kernel_rfl
theorem c119:S.fns 119=some i119:=by kernel_rfl
theorem c120:S.fns 120=some i120:=by kernel_rfl
theorem s120:fi 120:=rfl
theorem c127:S.fns 127=some i127:=by kernel_rfl
theorem c128:S.fns 128=some i128:=by kernel_rfl
theorem c129:S.fns 129=some i129:=by kernel_rfl
theorem c57:S.fns 57=some i57:=by kernel_rfl
theorem s57:fi 57:=rfl
theorem c59:S.fns 59=some i59:=by kernel_rfl
theorem s59:fi 59:=rfl
theorem c58:S.fns 58=some i58:=by kernel_rfl
theorem s58:fi 58:=rfl
theorem c60:S.fns 60=some i60:=by kernel_rfl
theorem s60:fi 60:=rfl
theorem c130:S.fns 130=some i130:=by kernel_rfl
theorem c132:S.fns 132=some i132:=by kernel_rfl
theorem s132:fi 132:=rfl
theorem c133:S.fns 133=some i133:=by kernel_rfl
theorem s133:fi 133:=rfl
theorem c134:S.fns 134=some i134:=by kernel_rfl
theorem s134:fi 134:=rfl
theorem c136:S.fns 136=some i136:=by kernel_rfl
theorem s136:S.shared 136=true:=by kernel_rfl
theorem c151:S.fns 151=some i151:=by kernel_rfl
theorem s151:fi 151:=rfl
theorem c152:S.fns 152=some i152:=by kernel_rfl
theorem s152:S.shared 152=true:=by kernel_rfl
theorem c74:S.fns 74=some i74:=by kernel_rfl
theorem s74:S.shared 74=true:=by kernel_rfl
theorem c75:S.fns 75=some i75:=by kernel_rfl
theorem s75:fi 75:=rfl
theorem c153:S.fns 153=some i153:=by kernel_rfl
theorem s153:fi 153:=rfl
theorem c135:S.fns 135=some i135:=by kernel_rfl
theorem s135:fi 135:=rfl
theorem c155:S.fns 155=some i155:=by kernel_rfl
theorem s155:S.shared 155=true:=by kernel_rfl
theorem c161:S.fns 161=some i161:=by kernel_rfl
theorem s161:fi 161:=rfl
theorem c171:S.fns 171=some i171:=by kernel_rfl
theorem s171:S.shared 171=true:=by kernel_rfl
theorem c154:S.fns 154=some i154:=by kernel_rfl
theorem s154:fi 154:=rfl
theorem c182:S.fns 182=some i182:=by kernel_rfl
theorem s182:fi 182:=rfl
theorem c3:S.fns 3=some i3:=by kernel_rfl
theorem s3:fi 3:=rfl
end Go.Abs
namespace Go.Abs
def i46:cX:=⟨14,[],(ai [iU 3 2944000000 1] (rt [om 4 0,om 5 0,kJ 6 5 2,df 7 0 6 6,dl 8 7 14,ox 9 5 3,od 10 (.aaq 2944064384 72 5 [.t 9]) 32,NE 11 2944064448 72 5 88 8 10 126,kJ 12 4 255,df 13 0 12 511,nV 1 13 11 1023]))⟩
def i43:cX:=⟨34,[(2,some (some 5)),(3,none)],(ai [oo 2 (.alloc 2752000000 [il 0,.nils,il 0,.nils,.nils]),mb 3 false] (.seq (ko [om 5 0,kJ 6 5 1,df 7 1 6 3,dl 8 7 7,om 9 0,kJ 10 9 16,df 11 0 10 48,dl 12 11 112,Lf 13 12 240,dt 14 .eql 8 13 511] (ct 14 (ai [oo 4 (.alloc 2752128000 [il 0,.nils,il 0,.nils,.nils])] (bd [ox 15 5 4,os 5 2 15,mb 3 false])) .skip)) (ai [om 16 0,on 17 16,of 18 1 17,ol 19 18,oj 20 .add 19 1,on 21 16,of 22 1 21,os 1 22 20] (ko [om 23 0,kJ 24 23 1,df 25 0 24 3,dl 26 25 7,om 27 0,kJ 28 27 16,df 29 1 28 48,dl 30 29 112,dj 31 .sub 30 1 240,di 32 5 26 31 511,dx 33 5 32 1023,nV 5 2 33 2047,od 3 (.mov (.b true)) 4095] .ret))))⟩
def i42_l1:am:=(ai [ot 14 .lss 13 12] (.seq (lJ 14) (.seq (.block 1 (ai [oi 15 6 11 13,ox 16 6 15,oo 5 (.alloc 2688256128 [il 0,il 0,il 0,il 0,il 0,eG]),os 6 5 16] (rf [om 17 3,ox 18 6 5,oc 19 2688320128 62 [.t 18],oo 20 (.bin .add (.k (.one (.p (.str ⟨#[32]⟩)))) (.t 19)),ot 21 .add 17 20,om 3 21]))) (rf [oj 22 .add 13 1,om 13 22]))))
def i42_r2:am:=(bd [om 23 3,om 2 23])
def i42:cX:=⟨24,[(2,none)],(ai [iU 1 2688000000 0,oo 2 (.mov (.k (.one (.p (.str ⟨#[]⟩)))))] (ai [of 6 0 1,ol 7 6,oc 8 2688064128 61 [.t 7],oo 9 (.bin .add (.t 8) (.k (.one (.p (.str ⟨#[58]⟩))))),om 3 9] (.seq (ai [of 10 1 1,ol 11 10,oh 12 11,mi 13 0] (jZ i42_l1)) i42_r2)))⟩
def i19:cX:=⟨37,[(4,none),(5,none)],(ai [iU 2 1216000000 0,iU 3 1216000064 1,mb 4 false,mi 5 0] (ai [ox 10 2 2,oc 11 1216064064 23 [.t 10],om 9 11,oe 12 9 0,oe 13 9 1,oo 6 (.alloc 1216064320 [il 0,.nils]),os 2 6 12,om 7 13] (.seq (ai [om 14 7,oj 15 .neq 14 0] (ct 15 (bd [om 16 7,mb 4 false,om 5 16]) .skip)) (ai [ox 18 2 3,oc 19 1216256064 23 [.t 18],om 17 19,oe 20 17 0,oe 21 17 1,oo 8 (.alloc 1216256320 [il 0,.nils]),os 2 8 20,om 7 21] (.seq (ai [om 22 7,oj 23 .neq 22 0] (ct 23 (bd [om 24 7,mb 4 false,om 5 24]) .skip)) (bd [of 25 0 6,ol 26 25,of 27 0 8,ol 28 27,ot 29 .eql 26 28,om 30 29,my 31 1 6 30,qe 32 31 30,my 33 1 8 30,qe 34 33 30,
 MJ 35 1216448640 35 [.t 32,.t 34] 30,pZ 36 30 35,om 4 36,mi 5 0]))))))⟩
def i62:cX:=⟨40,[(2,none)],(ai [iU 1 3968000000 0,oo 2 (.mov (.k (.one (.p (.str ⟨#[]⟩)))))] (.seq (ai [of 4 0 1,ol 5 4] (.block 0 (ai [oj 7 .eql 5 1,om 6 7] (ct 6 (ko [of 8 1 1,dl 9 8 1,dc 10 3968192128 61 [.t 9] 3,od 11 (.bin .add (.t 10) (.k (.one (.p (.str ⟨#[46]⟩))))) 7,of 12 2 1,dl 13 12 16,dc 14 3968192384 61 [.t 13] 55,dt 15 .add 11 14 127,dm 2 15 255] .ret) (ai [oj 17 .eql 5 2,om 16 17] (ct 16 (ai [of 18 3 1,ol 19 18,oc 20 3968320128 61 [.t 19],oo 21 (.bin .add (.t 20) (.k (.one (.p (.str ⟨#[117]⟩))))),om 3 21] (.seq (ai [of 22 5 1,ol 23 22] (ct 23 (rf [of 24 3 1,ol 25 24,oc 26 3968448128 61 [.t 25],oo 27 (.bin .add (.t 26) (.k (.one (.p (.str ⟨#[111]⟩))))),om 3 27]) .skip)) (.seq (ai [of 28 4 1,ol 29 28] (.block 1 (ai [oj 31 .eql 29 1,om 30 31] (ct 30 (bd [om 32 3,
 oo 33 (.bin .add (.t 32) (.k (.one (.p (.str ⟨#[43]⟩))))),om 2 33]) (ai [oo 35 (.bin .eql (.t 29) (.i (-1))),om 34 35] (ct 34 (bd [om 36 3,oo 37 (.bin .add (.t 36) (.k (.one (.p (.str ⟨#[45]⟩))))),om 2 37]) .skip)))))) (bd [om 38 3,oo 39 (.bin .add (.t 38) (.k (.one (.p (.str ⟨#[63]⟩))))),om 2 39])))) .skip)))))) (bd [oo 2 (.mov (.k (.one (.p (.str ⟨#[63]⟩)))))])))⟩
def i6:cX:=⟨51,[(6,none)],(ai [iU 3 384000000 0,iU 4 384000064 1,iU 5 384000128 2,mb 6 false] (ai [ox 14 2 3,of 15 0 5,ol 16 15,oc 17 384064192 18 [.t 14,.t 16],om 13 17,oe 18 13 0,oe 19 13 1,oo 7 (.alloc 384064448 [il 0,.nils]),os 2 7 18,om 8 19] (ai [ox 21 2 4,of 22 1 5,ol 23 22,oc 24 384128192 18 [.t 21,.t 23],om 20 24,oe 25 20 0,oe 26 20 1,oo 9 (.alloc 384128448 [il 0,.nils]),os 2 9 25,om 10 26] (.seq (ai [om 27 8,xj 28 27,om 29 28,jc 30 10 29,V2 31 30 29,mf 32 29 31,om 33 32,mz 34 0 3 33,qj 35 34 33,mz 36 0 4 33,qj 37 36 33,ML 38 .neq 35 37 33,
 mf 39 33 38] (ct 39 (bd [mb 6 false]) .skip)) (ai [ox 41 2 7,ox 42 2 9,oc 43 384320128 19 [.t 41,.t 42],om 40 43,oe 44 40 0,oe 45 40 1,om 11 44,om 12 45] (bd [om 46 11,om 47 46,lc 48 12 47,AM 49 .eql 48 0 47,pZ 50 47 49,om 6 50]))))))⟩
def i17_l1:am:=(ai [ot 36 .lss 35 34] (.seq (lJ 36) (.seq (.block 1 (ai [om 37 35,oi 38 6 33 35,ox 39 6 38,oo 7 (.alloc 1088384192 [il 0,il 0,il 0,il 0,il 0,eG]),om 6 37,os 6 7 39] (ai [of 40 1 3,ol 41 40,om 42 6,oi 43 6 41 42,ox 44 6 43,oo 8 (.alloc 1088448320 [il 0,il 0,il 0,il 0,il 0,eG]),os 6 8 44] (ko [of 45 0 7,dl 46 45 1,of 47 0 8,dl 48 47 4,od 49 (.build [il 0,il 0] [(0,1,.t 46),(1,1,.t 48)]) 15,of 50 1 7,dl 51 50 32,of 52 1 8,dl 53 52 128,od 54 (.build [il 0,il 0] [(0,1,.t 51),(1,1,.t 53)]) 480,of 55 2 7,dl 56 55 1024,of 57 2 8,dl 58 57 4096,od 59 (.build [il 0,il 0] [(0,1,.t 56),(1,1,.t 58)]) 15360,of 60 3 7,dl 61 60 32768,of 62 3 8,dl 63 62 131072,od 64 (.build [il 0,il 0] [(0,1,.t 61),(1,1,.t 63)]) 491520,of 65 5 7,dl 66 65 1048576,dc 67 1088513408 30 [.t 66] 3145728,
 of 68 5 8,dl 69 68 8388608,dc 70 1088513600 30 [.t 69] 32505856,od 71 (.build [il 0,il 0] [(0,1,.t 67),(1,1,.t 70)]) 66060288,of 72 4 7,dl 73 72 134217728,of 74 4 8,dl 75 74 536870912,od 76 (.build [il 0,il 0] [(0,1,.t 73),(1,1,.t 75)]) 2013265920,od 77 (.aaq 1088514048 79 2 [.t 49,.t 54,.t 59,.t 64,.t 71,.t 76]) 4294967295,dc 78 1088514112 28 [.t 77] 8589934591,dm 9 78 17179869183] (ai [om 79 9,oj 80 .neq 79 0] (ct 80 (bd [om 81 9,om 4 81]) .skip)))))) (rf [oj 82 .add 35 1,om 35 82]))))
def i17_r2:am:=(bd [mi 4 0])
def i17:cX:=⟨83,[(4,none)],(ai [iU 2 1088000000 0,iU 3 1088000064 1,mi 4 0] (.seq (ko [of 10 0 2,dl 11 10 1,of 12 0 3,dl 13 12 4,od 14 (.build [il 0,il 0] [(0,1,.t 11),(1,1,.t 13)]) 15,ox 15 2 2,dc 16 1088064384 29 [.t 15] 32,ox 17 2 3,dc 18 1088064512 29 [.t 17] 224,od 19 (.build [il 0,il 0] [(0,1,.t 16),(1,1,.t 18)]) 480,of 20 1 2,dl 21 20 1024,Lf 22 21 3072,of 23 1 3,dl 24 23 8192,Lf 25 24 24576,od 26 (.build [il 0,il 0] [(0,1,.t 22),(1,1,.t 25)]) 64512,od 27 (.aaq 1088065088 79 2 [.t 14,.t 19,.t 26]) 131071,dc 28 1088065152 28 [.t 27] 262143,dm 5 28 524287] (ai [om 29 5,oj 30 .neq 29 0] (ct 30 (bd [om 31 5,om 4 31]) .skip))) (.seq (ai [of 32 1 2,ol 33 32,oh 34 33,mi 35 0] (jZ i17_l1)) i17_r2)))⟩
def i5:cX:=⟨57,[(6,some (some 2)),(7,none)],(ai [iU 3 320000000 0,iU 4 320000064 1,oo 6 (.alloc 320000128 [.nils,.nils]),mi 7 0] (.seq (ai [ox 14 2 3,oc 15 320064064 8 [.t 14],om 8 15] (ai [om 16 8,oj 17 .neq 16 0] (ct 17 (bd [oo 18 (.build [.nils,.nils] []),om 19 8,os 2 6 18,om 7 19]) .skip))) (.seq (ai [ox 20 2 4,om 21 2,oc 22 320256128 16 [.t 20,.t 21],om 9 22] (ai [om 23 9,oj 24 .neq 23 0] (ct 24 (bd [oo 25 (.build [.nils,.nils] []),om 26 9,os 2 6 25,om 7 26]) .skip))) (.seq (ai [of 27 0 3,ol 28 27,of 29 0 4,ol 30 29,ot 31 .neq 28 30] (ct 31 (bd [oo 32 (.build [.nils,.nils] []),os 2 6 32,mi 7 2]) .skip)) (ai [ox 34 2 3,om 35 2,oc 36 320576128 13 [.t 34,.t 35],om 33 36,oe 37 33 0,oe 38 33 1,oo 10 (.alloc 320576384 [il 0,.nils,.nils,eG]),
 os 4 10 37,om 11 38] (ai [ox 40 2 4,om 41 2,oc 42 320640128 13 [.t 40,.t 41],om 39 42,oe 43 39 0,oe 44 39 1,oo 12 (.alloc 320640384 [il 0,.nils,.nils,eG]),os 4 12 43,om 13 44] (.seq (ai [of 45 0 10,ox 46 2 45,of 47 0 12,ox 48 2 47,oc 49 320704256 17 [.t 46,.t 48],oj 50 .neq 49 0] (ct 50 (bd [oo 51 (.build [.nils,.nils] []),os 2 6 51,mi 7 9]) .skip)) (bd [of 52 2 10,ol 53 52,of 54 2 12,ol 55 54,oo 56 (.build [.nils,.nils] [(0,1,.t 53),(1,1,.t 55)]),os 2 6 56,mi 7 0]))))))))⟩
def i15_l1:am:=(ai [ot 9 .lss 8 7] (.seq (lJ 9) (.seq (.block 1 (ai [om 10 8,oi 11 2 6 8,ox 12 2 11,oo 5 (.alloc 960256192 [il 0,.nils]),om 4 10,os 2 5 12] (ko [om 13 3,dj 14 .lss 13 0 1,dm 15 14 3,Gx_ 16 2 5 15 7,AO 17 0 15 7,AO 18 3 15 7,X9 19 2 17 18 15 55,Gx_ 20 2 19 15 119,Gc_ 21 960320512 17 [.t 16,.t 20] 15 255,Yj 22 .lss 21 0 15 511,Ho 23 15 22 1023] (ct 23 (rf [om 24 4,om 3 24]) .skip)))) (rf [oj 25 .add 8 1,om 8 25]))))
def i15_r2:am:=(bd [om 26 3,om 2 26])
def i15:cX:=⟨27,[(2,none)],(ai [mi 2 0] (ai [oo 3 (.mov (.i (-1)))] (.seq (ai [om 6 0,oh 7 6,mi 8 0] (jZ i15_l1)) i15_r2)))⟩
def i13_l1:am:=(ai [ot 67 .lss 66 65] (.seq (ct 67 .skip (.exit 2)) (.seq (.block 3 (ai [oi 68 5 64 66,ox 69 5 68,oo 18 (.alloc 833088128 [il 0,.nils,il 0,.nils,.nils]),os 5 18 69] (rf [om 70 16,of 71 2 18,ox 72 2 71,oo 73 (.aaq 833152192 24 2 [.t 72]),Az 74 833152256 24 2 32 70 73,om 16 74]))) (rf [oj 75 .add 66 1,om 66 75]))))
def i13_r2:am:=(ai [om 76 13,om 77 16,oc 78 833280128 15 [.t 77],oi 79 5 76 78,ox 80 5 79,oo 19 (.alloc 833280320 [il 0,.nils,il 0,.nils,.nils]),os 5 19 80] (ko [of 81 2 19,dx 82 2 81 1,of 83 2 9,dl 84 83 4,of 85 4 19,dl 86 85 16,NE 87 833344384 52 7 48 84 86 60,om 88 14,df 89 0 9 15,nV 2 89 82 383,df 90 2 9 895,nV 1 90 87 1919,df 91 3 9 4095,nV 1 91 88 8191] (bd [ox 92 4 9,os 4 4 92,mi 5 0])))
def i13_l3:am:=(.block 1 (ai [ox 33 2 7,oc 34 832384064 21 [.t 33],om 32 34,oe 35 32 0,oe 36 32 1,oo 10 (.alloc 832384320 [il 0,.nils]),os 2 10 35,om 11 36] (ai [of 37 2 9,ol 38 37,om 39 11,Az 40 832448192 52 7 48 38 39,of 41 2 9,os 1 41 40] (ai [oo 12 (.alloc 832512000 [eG]),op (.store 1 (.t 12) (.b false))] (ai [ox 43 2 10,om 44 1,oo 45 (.mkfn 25 [] [.t 12]),oc 46 832576192 24 [.t 43,.t 44,.t 45],om 42 46,oe 47 42 0,oe 48 42 1,om 13 47,om 14 48] (ai [om 49 13,om 50 13,oh 51 50,oj 52 .sub 51 1,oi 53 5 49 52,ox 54 5 53,oo 15 (.alloc 832640384 [il 0,.nils,il 0,.nils,.nils]),os 5 15 54] (.seq (ai [ol 55 12] (ct 55 (ai [of 56 0 15,ox 57 2 56,os 2 7 57] (ai [of 58 2 9,ol 59 58,of 60 4 15,ol 61 60,Az 62 832832256 52 7 48 59 61,of 63 2 9,os 1 63 62] (.exit 1))) .skip)) (ai [ju 16] (.seq (ai [om 64 13,
 oh 65 64,mi 66 0] (.block 2 (.loop i13_l1))) i13_r2)))))))))
def i13:cX:=⟨93,[(4,some (some 4)),(5,none)],(ai [iU 2 832000000 0,oo 4 (.alloc 832000064 [il 0,.nils,.nils,eG]),mi 5 0] (.seq (ai [ox 20 2 2,om 21 1,oc 22 832064128 16 [.t 20,.t 21],om 6 22] (ai [om 23 6,oj 24 .neq 23 0] (ct 24 (bd [oo 25 (.build [il 0,.nils,.nils,eG] []),om 26 6,os 4 4 25,om 5 26]) .skip))) (ai [ox 28 2 2,oc 29 832256064 23 [.t 28],om 27 29,oe 30 27 0,oe 31 27 1,oo 7 (.alloc 832256320 [il 0,.nils]),os 2 7 30,om 8 31] (ai [oo 9 (.alloc 832320000 [il 0,.nils,.nils,eG])] (jZ i13_l3)))))⟩
def i25:cX:=⟨11,[(3,none)],(ai [iU 2 1600000000 0,mb 3 false] (ai [of 5 0 2,ox 6 2 5,oc 7 1600064128 26 [.t 6],om 4 7,oe 8 4 0,oe 9 4 1,os 1 1 9] (bd [ol 10 1,om 3 10])))⟩
def i24_l1:am:=(ai [ot 49 .lss 48 47] (.seq (ct 49 .skip (.exit 2)) (.seq (.block 3 (ai [oi 50 7 46 48,ox 51 7 50,oo 16 (.alloc 1536640128 [il 0,il 0,il 0,il 0,eG,eG,il 0]),os 7 16 51] (ai [of 53 0 11,ox 54 2 53,ox 55 7 16,oc 56 1536704192 38 [.t 54,.t 55],om 52 56,oe 57 52 0,oe 58 52 1,oo 17 (.alloc 1536704448 [il 0,.nils]),os 2 17 57,om 18 58] (ko [ox 59 2 17,of 60 4 11,dl 61 60 2,dc 62 1536768192 45 [.t 61] 6,ox 63 7 16,od 64 (.aaq 1536768320 52 7 [.t 63]) 16,NE 65 1536768384 52 7 48 62 64 62,dc 66 1536768448 41 [.t 59,.t 65] 127,oo 19 (.alloc 1536768512 [il 0,.nils,il 0,.nils,.nils]),nV 5 19 66 511] (ai [of 67 2 19,ox 68 2 67,oc 69 1536832128 42 [.t 68],om 20 69] (.seq (ai [om 70 9,om 71 20,oo 72 (.lookup 1 [eG] false false (.t 70) (.t 71))] (ct 72 (.exit 3) .skip)) (.seq (ai [of 73 0 10,
 ol 74 73,oh 75 74,om 76 1,ot 77 .eql 75 76] (ct 77 (.exit 0) .skip)) (ai [om 78 9,om 79 20,op (.mupd 1 false (.t 78) (.t 79) (.b true))] (ai [ox 80 5 19,oc 81 1537088064 46 [.t 10,.t 80]] (ai [om 82 2,ox 83 5 19,oo 84 (.call 1537152128 (.t 82) [.t 83])] (ct 84 (.exit 0) .skip))))))))))) (rf [oj 85 .add 48 1,om 48 85]))))
def i24_l2:am:=(.block 1 (ai [oc 32 1536256000 43 [.t 10],om 31 32,oe 33 31 0,oe 34 31 1,oo 11 (.alloc 1536256256 [il 0,.nils,il 0,.nils,.nils]),os 5 11 33,om 12 34] (.seq (ai [om 35 12,xj 36 35] (ct 36 (bd [of 37 0 10,ol 38 37,om 6 38,mb 7 true]) .skip)) (ai [of 40 0 11,ox 41 2 40,oo 42 (.aaq 1536448128 50 1 [.i 3,.i 8]),oc 43 1536448192 44 [.t 41,.t 42],om 39 43,oe 44 39 0,oe 45 39 1,om 13 44,om 14 45] (ai [om 46 13,oh 47 46,mi 48 0] (.block 2 (.loop i24_l1)))))))
def i24_r3:am:=(bd [of 86 0 10,ol 87 86,om 6 87,mb 7 false])
def i24:cX:=⟨88,[(6,none),(7,none)],(ai [iU 3 1536000000 0,ju 6,mb 7 false] (ai [ox 21 2 3,oc 22 1536064064 41 [.t 21,.k (.one (.p (.nils)))],oo 8 (.alloc 1536064128 [il 0,.nils,il 0,.nils,.nils]),os 5 8 22] (ai [oo 23 (.mkmap 1536128000 false),of 24 2 8,ox 25 2 24,oc 26 1536128192 42 [.t 25],op (.mupd 1 false (.t 23) (.t 26) (.b true)),om 27 23,om 9 27] (ai [ox 28 5 8,oo 29 (.aaq 1536192064 72 5 [.t 28]),oo 30 (.build [.nils,il 0] [(0,1,.t 29)]),oo 10 (.alloc 1536192192 [.nils,il 0]),os 2 10 30] (.seq .skip (.seq (jZ i24_l2) i24_r3))))))⟩
def i29_l1:am:=(ai [ot 10 .lss 9 8] (.seq (lJ 10) (.seq (.block 1 (ai [oi 11 6 7 9,ox 12 6 11,oo 5 (.alloc 1856256128 [il 0,il 0,il 0,il 0,il 0,eG]),os 6 5 12] (ai [of 13 0 5,ol 14 13,oj 15 .eql 14 2] (ct 15 (rf [om 16 3,oj 17 .add 16 1,om 3 17]) .skip)))) (rf [oj 18 .add 9 1,om 9 18]))))
def i29_r2:am:=(bd [om 19 3,om 2 19])
def i29:cX:=⟨20,[(2,none)],(ai [iU 1 1856000000 0,mi 2 0] (ai [mi 3 0] (.seq (ai [of 6 1 1,ol 7 6,oh 8 7,mi 9 0] (jZ i29_l1)) i29_r2)))⟩
def i18:cX:=⟨32,[(4,some (some 2)),(5,none)],(ai [iU 2 1152000000 0,oo 4 (.alloc 1152000064 [il 0,.nils]),mb 5 false] (ai [ox 11 2 2,oc 12 1152064064 23 [.t 11],om 10 12,oe 13 10 0,oe 14 10 1,oo 6 (.alloc 1152064320 [il 0,.nils]),os 2 6 13,om 7 14] (.seq (ai [om 15 7,oj 16 .neq 15 0,om 17 16,jc 18 1 17,Zu 19 (.call 1152128256 (.k (.one (.p (.fn 31 [] [])))) [.t 18,.k (.one (.p (.fn 32 [] [])))]) 17,mf 20 17 19] (ct 20 (bd [oo 21 (.build [il 0,.nils] []),os 2 4 21,mb 5 false]) .skip)) (ai [ox 23 2 6,om 24 1,oc 25 1152256128 34 [.t 23,.t 24],om 22 25,oe 26 22 0,oe 27 22 1,oe 28 22 2,oo 8 (.alloc 1152256448 [il 0,.nils]),os 2 8 26,om 9 27,om 7 28] (bd [ox 29 2 8,om 30 7,oj 31 .eql 30 0,os 2 4 29,om 5 31])))))⟩
def i32:cX:=⟨7,[(2,none)],(ai [iU 1 2048000000 0,mb 2 false] (bd [of 3 0 1,ol 4 3,oc 5 2048064128 33 [.t 4],xj 6 5,om 2 6]))⟩
def i16:cX:=⟨17,[(4,none)],(ai [iU 2 1024000000 0,mi 4 0] (.seq (ai [ox 6 2 2,oc 7 1024064064 8 [.t 6],om 5 7] (ai [om 8 5,oj 9 .neq 8 0] (ct 9 (bd [om 10 5,om 4 10]) .skip))) (.seq (ai [om 11 1,oj 12 .lss 11 1,om 13 12,jc 14 1 13,wC 15 .gtr 14 20000 13,mf 16 13 15] (ct 16 (bd [mi 4 2]) .skip)) (bd [mi 4 0]))))⟩
def i41:cX:=⟨16,[(4,some (some 5))],(ai [iU 2 2624000000 0,oo 4 (.alloc 2624000064 [il 0,.nils,il 0,.nils,.nils])] (ai [ox 8 2 2,oc 9 2624064064 23 [.t 8],om 7 9,oe 10 7 0,oe 11 7 1,oo 5 (.alloc 2624064320 [il 0,.nils]),os 2 5 10,om 6 11] (bd [ox 12 2 2,ox 13 2 5,om 14 1,oo 15 (.build [il 0,.nils,il 0,.nils,.nils] [(0,2,.t 12),(2,2,.t 13),(4,1,.t 14)]),os 5 4 15])))⟩
def i30:cX:=⟨4,[(2,none)],(ai [mi 2 0] (.seq (ai [om 3 0] (ct 3 (bd [mi 2 1]) .skip)) (bd [mi 2 0])))⟩
def i28_l1:am:=(ai [ot 8 .lss 7 6] (.seq (lJ 8) (.seq (.block 1 (ai [oi 9 2 5 7,ox 10 2 9,oo 4 (.alloc 1792192128 [il 0,il 0]),os 2 4 10] (ai [oo 11 (.abg 2 1 (.t 4) (.i 0)),ol 12 11,oo 13 (.abg 2 1 (.t 4) (.i 1)),ol 14 13,ot 15 .neq 12 14] (ct 15 (.seq (ai [oo 16 (.abg 2 1 (.t 4) (.i 0)),ol 17 16,oo 18 (.abg 2 1 (.t 4) (.i 1)),ol 19 18,ot 20 .lss 17 19] (ct 20 (bd [oo 2 (.mov (.i (-1)))]) .skip)) (bd [mi 2 1])) .skip)))) (rf [oj 21 .add 7 1,om 7 21]))))
def i28_r2:am:=(bd [mi 2 0])
def i28:cX:=⟨22,[(2,none)],(ai [mi 2 0] (.seq (ai [om 5 0,oh 6 5,mi 7 0] (jZ i28_l1)) i28_r2))⟩
def i21_l1:am:=(.seq (ai [om 12 6] (lJ 12)) (.seq (.block 1 (ai [ox 19 2 1,ox 20 7 5,oc 21 1344320128 38 [.t 19,.t 20],om 18 21,oe 22 18 0,oe 23 18 1,os 2 1 22] (rf [om 24 4,ox 25 7 5,oo 26 (.aaq 1344384128 52 7 [.t 25]),Az 27 1344384192 52 7 48 24 26,om 4 27]))) (.seq (ai [ox 28 7 5] (rf [oo 5 (.alloc 1344512000 [il 0,il 0,il 0,il 0,eG,eG,il 0]),os 7 5 28])) (rf [ox 14 2 1,oc 15 1344256064 26 [.t 14],om 13 15,oe 16 13 0,oe 17 13 1,os 7 5 16,om 6 17]))))
def i21_r2:am:=(bd [ox 29 2 1,om 30 4,os 2 2 29,om 3 30])
def i21:cX:=⟨31,[(2,some (some 2)),(3,none)],(ai [iU 1 1344000000 0,oo 2 (.alloc 1344000064 [il 0,.nils]),ju 3] (ai [ju 4] (.seq (ai [ox 8 2 1,oc 9 1344128064 26 [.t 8],om 7 9,oe 10 7 0,oe 11 7 1,oo 5 (.alloc 1344128320 [il 0,il 0,il 0,il 0,eG,eG,il 0]),os 7 5 10,om 6 11] (jZ i21_l1)) i21_r2)))⟩
def i26:cX:=⟨19,[(2,some (some 7)),(3,none)],(ai [iU 1 1664000000 0,oo 2 (.alloc 1664000064 [il 0,il 0,il 0,il 0,eG,eG,il 0]),mb 3 false] (ai [ox 7 2 1,oo 8 (.aaq 1664064064 50 1 [.i 1,.i 4,.i 6]),oc 9 1664064128 44 [.t 7,.t 8],om 6 9,oe 10 6 0,oe 11 6 1,om 4 10,om 5 11] (.seq (ai [om 12 4,oh 13 12,oj 14 .eql 13 0] (ct 14 (bd [oo 15 (.build [il 0,il 0,il 0,il 0,eG,eG,il 0] []),os 7 2 15,mb 3 false]) .skip)) (bd [om 16 4,oo 17 (.aaU 7 (.t 16) (.i 0)),ox 18 7 17,os 7 2 18,mb 3 true]))))⟩
def i4:cX:=⟨124,[(0,none)],(ai [mb 0 false] (ai [oc 14 256064000 9 [.i 0,.i 1],oc 15 256064064 10 [.i 1,.b true,.i 1],oc 16 256064128 10 [.i 1,.b false,.i 1],oc 17 256064192 9 [.i 1,.i 1],oo 18 (.aaq 256064256 38 6 [.t 14,.t 15,.t 16,.t 17]),oo 19 (.build [il 0,.nils] [(0,1,.i 2),(1,1,.t 18)]),oo 1 (.alloc 256064384 [il 0,.nils]),os 2 1 19] (ai [oc 20 256128000 9 [.i 1,.i 1],oc 21 256128064 9 [.i 0,.i 1],oo 22 (.aaq 256128128 38 6 [.t 20,.t 21]),oo 23 (.build [il 0,.nils] [(0,1,.i 2),(1,1,.t 22)]),oo 2 (.alloc 256128256 [il 0,.nils]),os 2 2 23] (ai [ox 25 2 1,oc 26 256192064 11 [.t 25],om 24 26,oe 27 24 0,oe 28 24 1,oe 29 24 2,oo 3 (.alloc 256192384 [il 0,.nils]),os 2 3 27,om 4 28,om 5 29] (ai [ox 31 2 1,ox 32 2 2,oc 33 256256128 5 [.t 31,.t 32,.i 10],om 30 33,oe 34 30 0,oe 35 30 1,oo 6 (.alloc 256256384 [.nils,.nils]),
 os 2 6 34,om 7 35] (ai [oc 37 256320000 9 [.i 0,.i 1],oc 38 256320064 9 [.i 0,.i 2],oo 39 (.aaq 256320128 38 6 [.t 37,.t 38]),oo 40 (.build [il 0,.nils] [(0,1,.i 1),(1,1,.t 39)]),oc 41 256320256 12 [.t 40,.i 10],om 36 41,oe 42 36 0,oe 43 36 1,om 8 42,om 9 43] (ai [ox 45 2 2,oc 46 256384064 12 [.t 45,.i 10],om 44 46,oe 47 44 0,oe 48 44 1,om 10 47,om 11 48] (ai [ox 50 2 2,oc 51 256448064 13 [.t 50,.i 10],om 49 51,oe 52 49 0,oe 53 49 1,oo 12 (.alloc 256448320 [il 0,.nils,.nils,eG]),os 4 12 52,om 13 53] (.seq (ai [om 54 5,oj 55 .neq 54 0,om 56 55,jc 57 7 56,wC 58 .neq 57 0 56,mf 59 56 58,om 60 59,jc 61 9 60,wC 62 .neq 61 0 60,mf 63 60 62,
 om 64 63,jc 65 11 64,wC 66 .neq 65 9 64,mf 67 64 66,om 68 67,jc 69 13 68,wC 70 .neq 69 0 68,mf 71 68 70] (ct 71 (bd [mb 0 false]) .skip)) (bd [ox 72 2 3,oc 73 256640064 14 [.t 72],oo 74 (.bin .eql (.t 73) (.k (.one (.p (.str ⟨#[50,58,32,48,46,49,32,49,46,49]⟩))))),om 75 74,lc 76 4 75,hh_ 77 76 75,AM 78 .eql 77 1 75,pZ 79 75 78,om 80 79,lc 81 4 80,Ql 82 (.aaU 7 (.t 81) (.i 0)) 80,Sm 83 7 82 80,Ql 84 (.build [il 0,il 0,il 0,il 0,eG,eG,il 0] [(0,1,.i 4),(1,1,.i 1)]) 80,
 Ql 85 (.eqc (.str [true,true,true,true,false,false,true]) false (.t 83) (.t 84)) 80,pZ 86 80 85,om 87 86,my 88 0 6 87,qe 89 88 87,hh_ 90 89 87,AM 91 .eql 90 1 87,pZ 92 87 91,om 93 92,my 94 1 6 93,qe 95 94 93,hh_ 96 95 93,AM 97 .eql 96 0 93,pZ 98 93 97,om 99 98,lc 100 8 99,hh_ 101 100 99,AM 102 .eql 101 1 99,pZ 103 99 102,om 104 103,
 my 105 3 12 104,qe 106 105 104,pZ 107 104 106,om 108 107,my 109 0 12 108,Sm 110 2 109 108,MJ 111 256642496 14 [.t 110] 108,⟨(some 112),.bin .eql (.t 111) (.k (.one (.p (.str ⟨#[50,58,32,48,46,49,32,49,46,49]⟩)))),(some (108,true)),0⟩,pZ 113 108 112,om 114 113,MJ 115 256642752 15 [.k (.one (.p (.nils)))] 114,Ql 116 (.bin .eql (.t 115) (.i (-1))) 114,pZ 117 114 116,om 118 117,Sm 119 2 1 118,Sm 120 2 2 118,
 Sm 121 2 6 118,MJ 122 256643200 6 [.t 119,.t 120,.t 121] 118,pZ 123 118 122,om 0 123]))))))))))⟩
def i33:cX:=⟨9,[(2,none)],(ai [mb 2 false] (bd [om 3 0,oc 4 2112064064 49 [.t 3],om 5 4,lc 6 0 5,AM 7 .lss 6 9 5,pZ 8 5 7,om 2 8]))⟩
def i49:cX:=⟨9,[(2,none)],(ai [mb 2 false] (bd [om 3 0,oj 4 .geq 3 1,om 5 4,lc 6 0 5,AM 7 .leq 6 10 5,pZ 8 5 7,om 2 8]))⟩
def i45:cX:=⟨8,[(2,none)],(ai [ju 2] (.seq (ai [om 3 0,oo 4 (.eqc .slc false (.t 3) (.k (.one (.p (.nils)))))] (ct 4 (bd [ju 2]) .skip)) (bd [oo 5 (.aaq 2880192000 52 7 []),om 6 0,Az 7 2880192128 52 7 48 5 6,om 2 7])))⟩
def i31:cX:=⟨9,[(4,none)],(ai [mb 4 false] (bd [om 5 0,om 6 1,oc 7 1984064128 48 [.t 5,.t 6],oj 8 .geq 7 0,om 4 8]))⟩
def i48_l1:am:=(ai [ot 9 .lss 8 7] (.seq (lJ 9) (.seq (.block 1 (ai [om 10 8,om 5 10] (ai [om 11 1,om 12 0,om 13 5,oi 14 7 12 13,ox 15 7 14,oo 16 (.call 3072256320 (.t 11) [.t 15])] (ct 16 (bd [om 17 5,om 4 17]) .skip)))) (rf [oj 18 .add 8 1,om 8 18]))))
def i48_r2:am:=(bd [oo 4 (.mov (.i (-1)))])
def i48:cX:=⟨19,[(4,none)],(ai [mi 4 0] (.seq (ai [om 6 0,oh 7 6,mi 8 0] (jZ i48_l1)) i48_r2))⟩
theorem c46:S.fns 46=some i46:=by kernel_rfl
theorem s46 : S.shared 46 = true := by kernel_rfl
theorem c43:S.fns 43=some i43:=by kernel_rfl
theorem s43 : S.shared 43 = true := by kernel_rfl
theorem c42:S.fns 42=some i42:=by kernel_rfl
theorem s42:fi 42:=rfl
theorem c19:S.fns 19=some i19:=by kernel_rfl
theorem s19:fi 19:=rfl
theorem c62:S.fns 62=some i62:=by kernel_rfl
theorem s62:fi 62:=rfl
theorem c6:S.fns 6=some i6:=by kernel_rfl
theorem s6:fi 6:=rfl
theorem c17:S.fns 17=some i17:=by kernel_rfl
theorem s17:fi 17:=rfl
theorem c5:S.fns 5=some i5:=by kernel_rfl
theorem s5:fi 5:=rfl
theorem c15:S.fns 15=some i15:=by kernel_rfl
theorem s15:fi 15:=rfl
theorem c13:S.fns 13=some i13:=by kernel_rfl
theorem s13:fi 13:=rfl
theorem c25:S.fns 25=some i25:=by kernel_rfl
theorem s25 : S.shared 25 = true := by kernel_rfl
theorem c24:S.fns 24=some i24:=by kernel_rfl
theorem s24 : S.shared 24 = true := by kernel_rfl
theorem c29:S.fns 29=some i29:=by kernel_rfl
theorem s29:fi 29:=rfl
theorem c18:S.fns 18=some i18:=by kernel_rfl
theorem s18:fi 18:=rfl
theorem c32:S.fns 32=some i32:=by kernel_rfl
theorem s32:fi 32:=rfl
theorem c16:S.fns 16=some i16:=by kernel_rfl
theorem s16:fi 16:=rfl
theorem c41:S.fns 41=some i41:=by kernel_rfl
theorem s41:fi 41:=rfl
theorem c30:S.fns 30=some i30:=by kernel_rfl
theorem s30:fi 30:=rfl
theorem c28:S.fns 28=some i28:=by kernel_rfl
theorem s28:fi 28:=rfl
theorem c21:S.fns 21=some i21:=by kernel_rfl
theorem s21:fi 21:=rfl
theorem c26:S.fns 26=some i26:=by kernel_rfl
theorem s26:fi 26:=rfl
theorem c4:S.fns 4=some i4:=by kernel_rfl
theorem s4:fi 4:=rfl
theorem c33:S.fns 33=some i33:=by kernel_rfl
theorem s33:fi 33:=rfl
theorem c49:S.fns 49=some i49:=by kernel_rfl
theorem s49:fi 49:=rfl
theorem c45:S.fns 45=some i45:=by kernel_rfl
theorem s45:fi 45:=rfl
theorem c31:S.fns 31=some i31:=by kernel_rfl
theorem s31:fi 31:=rfl
theorem c48:S.fns 48=some i48:=by kernel_rfl
theorem s48:fi 48:=rfl
end Go.Abs
