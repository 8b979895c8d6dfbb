/-
  The program as a system of the abstract machine.
-/
import Derived.Test.YtfgognempokgkaaGreatDoorMd
import Derived.Test.YtfgognempokgkaaGreatDoorMf
import Derived.Test.YtfgognempokgkaaGreatDoorProg
set_option linter.all false
set_option maxRecDepth 100000
namespace Go.Abs
abbrev om(d a:Nat):aI:=⟨some d,.jh (.t a),none,0⟩
abbrev of(d f a:Nat):aI:=⟨some d,.sW f (.t a),none,0⟩
abbrev ol(d a:Nat):aI:=⟨some d,.load none (.t a),none,0⟩
abbrev ox(d s a:Nat):aI:=⟨some d,.load (some s) (.t a),none,0⟩
abbrev oo(d:Nat)(x:jk):aI:=⟨some d,x,none,0⟩
abbrev op(x:jk):aI:=⟨none,x,none,0⟩
abbrev ob(d:Nat)(b:BinOp)(x y:aK):aI:=⟨some d,.bin b x y,none,0⟩
abbrev oi(d z a b:Nat):aI:=⟨some d,.mH z (.t a) (.t b),none,0⟩
abbrev oc(d s f:Nat)(a:List aK):aI:=⟨some d,.call s (.k (.one (.p (.fn f [] [])))) a,none,0⟩
abbrev dm(d a n:Nat):aI:=⟨some d,.jh (.t a),none,n⟩
abbrev df(d f a n:Nat):aI:=⟨some d,.sW f (.t a),none,n⟩
abbrev dl(d a n:Nat):aI:=⟨some d,.load none (.t a),none,n⟩
abbrev dx(d s a n:Nat):aI:=⟨some d,.load (some s) (.t a),none,n⟩
abbrev di(d z a b n:Nat):aI:=⟨some d,.mH z (.t a) (.t b),none,n⟩
abbrev db(d:Nat)(b:BinOp)(x y:aK)(n:Nat):aI:=⟨some d,.bin b x y,none,n⟩
abbrev dc(d s f:Nat)(a:List aK)(n:Nat):aI:=⟨some d,.call s (.k (.one (.p (.fn f [] [])))) a,none,n⟩
abbrev os(z a b:Nat):aI:=⟨none,.store z (.t a) (.t b),none,0⟩
abbrev on(d a:Nat):aI:=⟨some d,.tF (.t a),none,0⟩
abbrev mb(d:Nat)(b:Bool):aI:=⟨some d,.jh (.b b),none,0⟩
abbrev mi(d:Nat)(k:Int):aI:=⟨some d,.jh (.i k),none,0⟩
abbrev ot(d:Nat)(b:BinOp)(x y:Nat):aI:=⟨some d,.bin b (.t x) (.t y),none,0⟩
abbrev oj(d:Nat)(b:BinOp)(x:Nat)(y:Int):aI:=⟨some d,.bin b (.t x) (.i y),none,0⟩
abbrev dt(d:Nat)(b:BinOp)(x y n:Nat):aI:=⟨some d,.bin b (.t x) (.t y),none,n⟩
abbrev dj(d:Nat)(b:BinOp)(x:Nat)(y:Int)(n:Nat):aI:=⟨some d,.bin b (.t x) (.i y),none,n⟩
abbrev oh(d a:Nat):aI:=⟨some d,.xr (.t a),none,0⟩
abbrev oe(d a k:Nat):aI:=⟨some d,.extract (.t a) k,none,0⟩
abbrev ct(a:Nat)(x y:aH):aH:=.cond (.t a) x y
abbrev rf(l:List aI):aH:=.region false l
abbrev rt(l:List aI):aH:=.region true l
abbrev il(k:Int):PV:=.int .i64 k
abbrev od(d:Nat)(x:jk)(n:Nat):aI:=⟨some d,x,none,n⟩
abbrev ao(l:List aI)(c:aH):aH:=.seq (.region false l) c
abbrev dq(l:List aI)(c:aH):aH:=.seq (.region true l) c
abbrev aM(l:List aI):aH:=.seq (.region false l) .ret
abbrev eh(c:aH):aH:=.block 0 (.loop c)
abbrev eD(a:Nat):aH:=.cond (.t a) .skip (.exit 0)
abbrev dr(d:Nat):aI:=⟨some d,.jh (.k (.one (.p .nils))),none,0⟩
abbrev CU(d:Nat):aI:=⟨some d,.jh (.k (.one (.p .qU))),none,0⟩
abbrev bK:PV:=.bool false
abbrev gx_(d:Nat)(a b:Nat)(y:Nat):aI:=⟨some d,.load (some a) (.t b),some (y,false),0⟩
abbrev Ab(d:Nat)(a b:Nat)(l:List aK)(y:Nat):aI:=⟨some d,.call a (.k (.one (.p (.fn b [] [])))) l,some (y,false),0⟩
abbrev kx(d:Nat)(a:BinOp)(b:Nat)(c:Int)(y:Nat):aI:=⟨some d,.bin a (.t b) (.i c),some (y,false),0⟩
abbrev fg(d:Nat)(a b:Nat)(y:Nat):aI:=⟨some d,.sW a (.t b),some (y,false),0⟩
abbrev gV(d:Nat)(a:Nat)(y:Nat):aI:=⟨some d,.load none (.t a),some (y,false),0⟩
abbrev eV(d:Nat)(a b:Nat)(y:Nat)(n:Nat):aI:=⟨some d,.sW a (.t b),some (y,false),n⟩
abbrev fl(d:Nat)(a:Nat)(y:Nat)(n:Nat):aI:=⟨some d,.load none (.t a),some (y,false),n⟩
abbrev zJ(d:Nat)(a:Nat)(y:Nat)(n:Nat):aI:=⟨some d,.tF (.t a),some (y,false),n⟩
abbrev sN(d:Nat)(a:BinOp)(b:Nat)(c:Nat)(y:Nat)(n:Nat):aI:=⟨some d,.bin a (.t b) (.t c),some (y,false),n⟩
abbrev mS(d:Nat)(a:BinOp)(b:Nat)(c:Int)(y:Nat)(n:Nat):aI:=⟨some d,.bin a (.t b) (.i c),some (y,false),n⟩
abbrev dS(d:Nat)(a:Nat)(y:Nat):aI:=⟨some d,.jh (.t a),some (y,false),0⟩
abbrev dz(d:Nat)(a b:Nat)(y:Nat):aI:=⟨some d,.sW a (.t b),some (y,true),0⟩
abbrev en(d:Nat)(a:Nat)(y:Nat):aI:=⟨some d,.load none (.t a),some (y,true),0⟩
abbrev xk(d:Nat)(o:jk)(y:Nat):aI:=⟨some d,o,some (y,true),0⟩
abbrev qc(d:Nat)(a b:Nat)(y:Nat):aI:=⟨some d,.pick (.t a) (.t b) (.b false),some (y,false),0⟩
abbrev dA(d:Nat)(a:Nat)(y:Nat):aI:=⟨some d,.jh (.t a),some (y,true),0⟩
abbrev AM(d:Nat)(a:Nat)(y:Nat):aI:=⟨some d,.tF (.t a),some (y,true),0⟩
abbrev hx_(d:Nat)(a b:Nat)(y:Nat):aI:=⟨some d,.load (some a) (.t b),some (y,true),0⟩
abbrev rY(d:Nat)(a b:Nat)(l:List aK)(y:Nat):aI:=⟨some d,.call a (.k (.one (.p (.fn b [] [])))) l,some (y,true),0⟩
abbrev jo(d:Nat)(a:BinOp)(b:Nat)(c:Int)(y:Nat):aI:=⟨some d,.bin a (.t b) (.i c),some (y,true),0⟩
abbrev fJ(a b c:Nat)(n:Nat):aI:=⟨none,.store a (.t b) (.t c),none,n⟩
abbrev jK(d:Nat)(a:Nat)(y:Nat)(n:Nat):aI:=⟨some d,.jh (.t a),some (y,false),n⟩
abbrev By(d:Nat)(a b c:Nat)(y:Nat)(n:Nat):aI:=⟨some d,.mH a (.t b) (.t c),some (y,false),n⟩
abbrev rS(d:Nat)(a:BinOp)(b:Nat)(c:Nat)(y:Nat):aI:=⟨some d,.bin a (.t b) (.t c),some (y,false),0⟩
abbrev gk(d:Nat)(a:Nat)(y:Nat)(n:Nat):aI:=⟨some d,.jh (.t a),some (y,true),n⟩
abbrev zK(d:Nat)(a:Nat)(y:Nat)(n:Nat):aI:=⟨some d,.tF (.t a),some (y,true),n⟩
abbrev gG(d:Nat)(a b:Nat)(y:Nat)(n:Nat):aI:=⟨some d,.sW a (.t b),some (y,true),n⟩
abbrev fI(d:Nat)(a:Nat)(y:Nat)(n:Nat):aI:=⟨some d,.load none (.t a),some (y,true),n⟩
abbrev BB(d:Nat)(o:jk)(y:Nat)(n:Nat):aI:=⟨some d,o,some (y,true),n⟩
abbrev mr(d:Nat)(a b c:Nat)(y:Nat)(n:Nat):aI:=⟨some d,.mH a (.t b) (.t c),some (y,true),n⟩
abbrev xW(d:Nat)(a:BinOp)(b:Nat)(c:Nat)(y:Nat)(n:Nat):aI:=⟨some d,.bin a (.t b) (.t c),some (y,true),n⟩
abbrev Gq_(d:Nat)(a b:Nat)(y:Nat)(n:Nat):aI:=⟨some d,.pick (.t a) (.t b) (.b false),some (y,false),n⟩
abbrev Bz(d:Nat)(a b:Nat)(y:Nat)(n:Nat):aI:=⟨some d,.load (some a) (.t b),some (y,false),n⟩
abbrev xV(d:Nat)(a b:Nat)(l:List aK)(y:Nat)(n:Nat):aI:=⟨some d,.call a (.k (.one (.p (.fn b [] [])))) l,some (y,false),n⟩
abbrev Gu_(d:Nat)(a:Nat)(y:Nat)(n:Nat):aI:=⟨some d,.un .not (.t a),some (y,false),n⟩
abbrev Gh_(d:Nat)(a:Nat)(y:Nat)(n:Nat):aI:=⟨some d,.xr (.t a),some (y,false),n⟩
abbrev vc(d:Nat)(a b c:Nat)(y:Nat):aI:=⟨some d,.mH a (.t b) (.t c),some (y,true),0⟩
abbrev qM(d:Nat)(a:BinOp)(b:Nat)(c:Nat)(y:Nat):aI:=⟨some d,.bin a (.t b) (.t c),some (y,true),0⟩
abbrev sO(d:Nat)(a:BinOp)(b:Nat)(c:Int)(y:Nat)(n:Nat):aI:=⟨some d,.bin a (.t b) (.i c),some (y,true),n⟩
abbrev BA(d:Nat)(a b:Nat)(y:Nat)(n:Nat):aI:=⟨some d,.load (some a) (.t b),some (y,true),n⟩
abbrev Hc_(d:Nat)(a b:Nat)(l:List aK)(y:Nat)(n:Nat):aI:=⟨some d,.call a (.k (.one (.p (.fn b [] [])))) l,some (y,true),n⟩
abbrev ET(d:Nat)(a:Nat)(y:Nat):aI:=⟨some d,.tF (.t a),some (y,false),0⟩
abbrev EY(d:Nat)(a:Nat)(y:Nat):aI:=⟨some d,.un .not (.t a),some (y,false),0⟩
abbrev hu_(d:Nat)(a:Nat)(y:Nat):aI:=⟨some d,.un .not (.t a),some (y,true),0⟩
abbrev gz_(d:Nat)(o:jk)(y:Nat):aI:=⟨some d,o,some (y,false),0⟩
abbrev hp_(d:Nat)(a b:Nat)(y:Nat):aI:=⟨some d,.pick (.t a) (.b true) (.t b),some (y,true),0⟩
abbrev Gz_(d:Nat)(o:jk)(y:Nat)(n:Nat):aI:=⟨some d,o,some (y,false),n⟩
abbrev gi_(d:Nat)(a b c:Nat)(y:Nat):aI:=⟨some d,.mH a (.t b) (.t c),some (y,false),0⟩
abbrev gp_(d:Nat)(a b:Nat)(y:Nat):aI:=⟨some d,.pick (.t a) (.b true) (.t b),some (y,false),0⟩
abbrev ES(d:Nat)(a:Nat)(y:Nat):aI:=⟨some d,.xr (.t a),some (y,false),0⟩
abbrev Hu_(d:Nat)(a:Nat)(y:Nat)(n:Nat):aI:=⟨some d,.un .not (.t a),some (y,true),n⟩
abbrev dC(d:Nat)(a b:Nat):aI:=⟨some d,.box a (.t b),none,0⟩
abbrev fK(d:Nat)(a b:Nat):aI:=⟨some d,.pick (.t a) (.b true) (.t b),none,0⟩
abbrev kE(d:Nat)(a:Nat):aI:=⟨some d,.un .not (.t a),none,0⟩
abbrev iu(d:Nat)(a b:Nat)(n:Nat):aI:=⟨some d,.pick (.t a) (.b true) (.t b),none,n⟩
abbrev ec(d:Nat)(a b:Nat):aI:=⟨some d,.pick (.t a) (.t b) (.b false),none,0⟩
abbrev dX(d:Nat)(a:Nat)(n:Nat):aI:=⟨some d,.tF (.t a),none,n⟩
abbrev Ke_(d:Nat)(a b:Nat)(n:Nat):aI:=⟨some d,.extract (.t a) b,none,n⟩
abbrev tT(d:Nat)(a:Nat)(n:Nat):aI:=⟨some d,.xr (.t a),none,n⟩
abbrev pO(d:Nat)(a b:Nat)(n:Nat):aI:=⟨some d,.pick (.t a) (.t b) (.b false),none,n⟩
abbrev uW(d:Nat)(a b c e g h:Nat)(n:Nat):aI:=⟨some d,.append a b c e (.t g) (.t h),none,n⟩
abbrev zL(d:Nat)(a:Nat)(n:Nat):aI:=⟨some d,.un .not (.t a),none,n⟩
abbrev lH(d:Nat)(a b c e g h:Nat):aI:=⟨some d,.append a b c e (.t g) (.t h),none,0⟩
abbrev Kb_(d:Nat)(a b:Nat)(n:Nat):aI:=⟨some d,.box a (.t b),none,n⟩
def i43:aU:=⟨29,[(2,none),(3,none)],(ao [dC 1 2752000000 0,CU 2,mi 3 0] (.seq (ao [of 5 1 1,ol 6 5,oh 7 6,oj 8 .gtr 7 400,om 9 8,gx_ 10 2 1 9,Ab 11 2752064384 52 [.t 10] 9,kx 12 .gtr 11 200 9,fK 13 9 12] (ct 13 (aM [CU 2,mi 3 7]) .skip)) (.seq (ao [of 14 0 1,ol 15 14,oj 16 .lss 15 0,om 17 16,fg 18 0 1 17,gV 19 18 17,kx 20 .gtr 19 40 17,fK 21 17 20] (ct 21 (aM [CU 2,mi 3 2]) .skip)) (ao [ox 22 2 1,
 oo 23 (.build [il 0,.nils,.nils,.nils,.nils,.mf,.nils] [(0,2,.t 22)]),dC 24 2752320128 23,om 4 24] (.seq (ao [om 25 4,oc 26 2752384064 70 [.t 25],kE 27 26] (ct 27 (aM [CU 2,mi 3 3]) .skip)) (aM [om 28 4,om 2 28,mi 3 0]))))))⟩
def i52_l1:aH:=(ao [ot 10 .lss 9 8] (.seq (eD 10) (.seq (.block 1 (ao [oi 11 6 7 9,ox 12 6 11,oo 5 (.alloc 3328256128 [il 0,il 0,il 0,il 0,il 0,bK]),os 6 5 12] (ao [of 13 0 5,ol 14 13,oj 15 .eql 14 2] (ct 15 (rf [om 16 3,oj 17 .add 16 1,om 3 17]) .skip)))) (rf [oj 18 .add 9 1,om 9 18]))))
def i52_r2:aH:=(aM [om 19 3,om 2 19])
def i52:aU:=⟨20,[(2,none)],(ao [dC 1 3328000000 0,mi 2 0] (ao [mi 3 0] (.seq (ao [of 6 1 1,ol 7 6,oh 8 7,mi 9 0] (eh i52_l1)) i52_r2)))⟩
def i33_l1:aH:=(ao [ot 10 .lss 9 8] (.seq (eD 10) (.seq (.block 1 (ao [oi 11 6 7 9,ox 12 6 11,oo 5 (.alloc 2112256128 [il 0,il 0,il 0,il 0,il 0,bK]),os 6 5 12] (ao [of 13 0 5,ol 14 13,oj 15 .eql 14 1] (ct 15 (rf [om 16 3,oj 17 .add 16 1,om 3 17]) .skip)))) (rf [oj 18 .add 9 1,om 9 18]))))
def i33_r2:aH:=(aM [om 19 3,om 2 19])
def i33:aU:=⟨20,[(2,none)],(ao [dC 1 2112000000 0,mi 2 0] (ao [mi 3 0] (.seq (ao [of 6 1 1,ol 7 6,oh 8 7,mi 9 0] (eh i33_l1)) i33_r2)))⟩
def i34:aU:=⟨6,[(2,none)],(ao [dC 1 2176000000 0,mi 2 0] (aM [ox 3 2 1,oc 4 2176064064 52 [.t 3],oj 5 .quo 4 2,om 2 5]))⟩
def i96:aU:=⟨11,[(2,none)],(ao [dC 1 6144000000 0,mb 2 false] (aM [ol 3 1,on 4 3,of 5 0 4,of 6 1 5,ol 7 6,oo 8 (.mkfn 123 [] [.t 1]),oc 9 6144064384 122 [.t 7,.t 8],kE 10 9,om 2 10]))⟩
def i123:aU:=⟨55,[(3,none)],(ao [dC 2 7872000000 0,mb 3 false] (.seq (ao [of 4 0 2,ol 5 4] (.block 0 (ao [oj 7 .eql 5 1,om 6 7] (ct 6 (dq [of 8 1 2,dl 9 8 1,dj 10 .lss 9 0 3,dm 11 10 7,eV 12 1 2 11 15,fl 13 12 11 31,fl 14 1 11 15,zJ 15 14 11 79,eV 16 0 15 11 207,eV 17 0 16 11 463,fl 18 17 11 975,sN 19 .gtr 13 18 11 2047,iu 20 11 19 4095,dm 21 20 8191,eV 22 3 2 21 16383,fl 23 22 21 32767,mS 24 .neq 23 0 21 65535,
 iu 25 21 24 131071,dm 26 25 262143,eV 27 4 2 26 524287,fl 28 27 26 1048575,mS 29 .neq 28 0 26 2097151,iu 30 26 29 4194303,dm 31 30 8388607,eV 32 5 2 31 16777215,fl 33 32 31 33554431,iu 34 31 33 67108863,dm 3 34 134217727] .ret) (ao [oj 36 .eql 5 2,om 35 36] (ct 35 (aM [of 37 1 2,ol 38 37,oj 39 .neq 38 0,om 40 39,fg 41 2 2 40,gV 42 41 40,kx 43 .neq 42 0 40,fK 44 40 43,om 45 44,fg 46 4 2 45,gV 47 46 45,
 kx 48 .neq 47 1 45,dS 49 48 45,dz 50 4 2 49,en 51 50 49,xk 52 (.bin .neq (.t 51) (.i (-1))) 49,qc 53 49 52 45,fK 54 45 53,om 3 54]) .skip)))))) (aM [mb 3 true])))⟩
def i97:aU:=⟨21,[(2,none)],(ao [mb 2 false] (aM [om 3 0,on 4 3,of 5 0 4,of 6 1 5,ol 7 6,oo 8 (.mH 6 (.t 7) (.i 0)),of 9 0 8,ol 10 9,oj 11 .eql 10 1,om 12 11,dA 13 0 12,AM 14 13 12,dz 15 0 14 12,hx_ 16 2 15 12,rY 17 6208064896 33 [.t 16] 12,jo 18 .rem 17 2 12,jo 19 .eql 18 0 12,ec 20 12 19,om 2 20]))⟩
def i98_l1:aH:=(ao [ot 51 .lss 50 49] (.seq (eD 51) (.seq (.block 1 (ao [om 52 50,oi 53 6 48 50,ox 54 6 53,oo 5 (.alloc 6272448192 [il 0,il 0,il 0,il 0,il 0,bK]),om 4 52,os 6 5 54] (ao [of 55 0 5,ol 56 55,oj 57 .eql 56 1] (ct 57 (dq [om 58 0,dX 59 58 1,df 60 6 59 3,dl 61 60 7,of 62 1 5,dl 63 62 16,di 64 1 61 63 63,dl 65 64 127,dj 66 .add 65 1 255,di 67 1 61 63 511,fJ 1 67 66 1023] (ao [om 68 0,on 69 68,of 70 2 69,ol 71 70,om 72 4,om 73 3,oi 74 1 71 72,os 1 74 73] (rf [om 75 3,kE 76 75,om 3 76]))) .skip)))) (rf [oj 77 .add 50 1,om 50 77]))))
def i98_l2:aH:=(ao [ot 91 .lss 90 89] (.seq (ct 91 .skip (.exit 2)) (.seq (.block 3 (ao [om 92 90,oi 93 1 88 90,ol 94 93,om 8 92,om 9 94] (ao [om 95 6,om 96 8,om 97 7,oi 98 1 95 96,os 1 98 97] (rf [om 99 7,om 100 9,ot 101 .add 99 100,om 7 101])))) (rf [oj 102 .add 90 1,om 90 102]))))
def i98_l3:aH:=(ao [ot 117 .lss 116 115] (.seq (ct 117 .skip (.exit 4)) (.seq (.block 5 (ao [om 118 116,oi 119 6 114 116,ox 120 6 119,oo 12 (.alloc 6273600192 [il 0,il 0,il 0,il 0,il 0,bK]),om 11 118,os 6 12 120] (.seq (ao [of 121 0 12,ol 122 121,oj 123 .neq 122 1] (ct 123 (.exit 5) .skip)) (.seq (dq [of 124 2 12,dl 125 124 1,dj 126 .lss 125 1 3,dm 127 126 7,eV 128 2 12 127 15,fl 129 128 127 31,jK 130 0 127 15,zJ 131 130 127 79,eV 132 6 131 127 207,fl 133 132 127 463,eV 134 1 12 127 15,fl 135 134 127 1039,By 136 1 133 135 127 4047,
 fl 137 136 127 8143,sN 138 .gtr 129 137 127 16383,iu 139 127 138 32767] (ct 139 (aM [mb 2 false]) .skip)) (dq [om 140 6,of 141 1 12,dl 142 141 2,di 143 1 140 142 7,dl 144 143 15,of 145 2 12,dl 146 145 32,dt 147 .add 144 146 127,dj 148 .sub 147 1 255,dm 13 148 511] (.seq (ao [om 149 10,om 150 13,oi 151 1 149 150,ol 152 151] (ct 152 (aM [mb 2 false]) .skip)) (rt [om 153 10,om 154 13,om 155 0,dX 156 155 4,df 157 3 156 12,dl 158 157 28,om 159 13,om 160 0,dX 161 160 128,df 162 4 161 384,dl 163 162 896,om 164 11,om 165 11,om 166 13,di 167 1 153 154 1983,⟨none,.store 1 (.t 167) (.b true),none,18367⟩,di 168 1 158 159 55295,fJ 1 168 165 120831,di 169 1 163 164 262143,
 fJ 1 169 166 524287]))))))) (rf [oj 170 .add 116 1,om 116 170]))))
def i98_r4:aH:=(aM [mb 2 true])
def i98_r5:aH:=(ao [om 103 0,om 104 7,oo 105 (.ny 6273344128 3 1 8 [il 0] (.t 104) (.t 104)),on 106 103,of 107 3 106,os 1 107 105] (ao [om 108 7,oo 109 (.ny 6273408064 4 1 1 [bK] (.t 108) (.t 108)),om 10 109] (.seq (ao [om 110 0,on 111 110,of 112 0 111,of 113 1 112,ol 114 113,oh 115 114,mi 116 0] (.block 4 (.loop i98_l3))) i98_r4)))
def i98_r6:aH:=(ao [om 78 0,on 79 78,of 80 0 79,of 81 0 80,ol 82 81,oj 83 .add 82 1,oo 84 (.ny 6272832384 3 1 8 [il 0] (.t 83) (.t 83)),om 6 84] (ao [mi 7 0] (.seq (ao [om 85 0,on 86 85,of 87 6 86,ol 88 87,oh 89 88,mi 90 0] (.block 2 (.loop i98_l2))) i98_r5)))
def i98:aU:=⟨171,[(2,none)],(ao [mb 2 false] (ao [om 14 0,om 15 0,on 16 15,of 17 0 16,of 18 0 17,ol 19 18,oj 20 .add 19 1,oo 21 (.ny 6272064448 3 1 8 [il 0] (.t 20) (.t 20)),on 22 14,of 23 6 22,os 1 23 21] (ao [om 24 0,om 25 0,on 26 25,of 27 0 26,of 28 1 27,ol 29 28,oh 30 29,oo 31 (.ny 6272128448 4 1 1 [bK] (.t 30) (.t 30)),on 32 24,of 33 2 32,os 1 33 31] (ao [om 34 0,om 35 0,on 36 35,of 37 0 36,of 38 1 37,ol 39 38,oh 40 39,oo 41 (.ny 6272192448 3 1 8 [il 0] (.t 40) (.t 40)),on 42 34,of 43 4 42,os 1 43 41] (ao [mb 3 true] (.seq (ao [om 44 0,on 45 44,of 46 0 45,of 47 1 46,ol 48 47,oh 49 48,mi 50 0] (eh i98_l1)) i98_r6))))))⟩
def i99_l1:aH:=(ao [ot 28 .lss 27 26] (.seq (eD 28) (.seq (.block 1 (ao [om 29 27,oi 30 6 25 27,ox 31 6 30,oo 5 (.alloc 6336448192 [il 0,il 0,il 0,il 0,il 0,bK]),om 4 29,os 6 5 31] (.seq (ao [of 32 0 5,ol 33 32,oj 34 .neq 33 2] (ct 34 (.exit 1) .skip)) (.seq (ao [of 35 3 5,ol 36 35,oj 37 .lss 36 1,om 38 37,fg 39 3 5 38,gV 40 39 38,dS 41 3 38,kx 42 .quo 41 2 38,rS 43 .gtr 40 42 38,fK 44 38 43] (ct 44 (aM [mb 2 false]) .skip)) (dq [om 46 0,dX 47 46 1,df 48 5 47 3,dl 49 48 7,of 50 3 5,dl 51 50 16,od 52 (.lookup 0 [il 0,il 0] true true (.t 49) (.t 51)) 63,
 dm 45 52 127,Ke_ 53 45 0 255,Ke_ 54 45 1 255,oo 6 (.alloc 6336704640 [il 0,il 0]),fJ 2 6 53 1535,dm 7 54 4095] (.seq (ao [om 55 7,kE 56 55] (ct 56 (rf [oo 57 (.build [il 0,il 0] [(0,1,.i (-1)),(1,1,.i (-1))]),os 2 6 57]) .skip)) (ao [mi 8 0] (.seq (ao [of 58 5 5,ol 59 58] (ct 59 (rf [mi 8 1]) .skip)) (.seq (dq [om 60 8,od 61 (.tX 2 1 (.t 6) (.t 60)) 1,dl 62 61 3,dj 63 .geq 62 0 7,dm 64 63 15,jK 65 7 64 31,jK 66 65 64 63,gk 67 0 66 127,zK 68 67 66 255,gG 69 0 68 66 511,gG 70 1 69 66 1023,fI 71 70 66 2047,gk 72 8 66 127,
 BB 73 (.bin .sub (.i 1) (.t 72)) 66 4223,BB 74 (.tX 2 1 (.t 6) (.t 73)) 66 12415,fI 75 74 66 28799,mr 76 6 71 75 66 65535,gG 77 4 76 66 131071,fI 78 77 66 262143,gG 79 4 5 66 127,fI 80 79 66 524415,xW 81 .neq 78 80 66 2097151,Gq_ 82 66 81 64 4194303,iu 83 64 82 8388607] (ct 83 (aM [mb 2 false]) .skip)) (ao [om 84 8,om 85 4,oo 86 (.tX 2 1 (.t 6) (.t 84)),os 1 86 85] (rt [om 87 0,dX 88 87 1,df 89 5 88 3,dl 90 89 7,of 91 3 5,dl 92 91 16,ox 93 2 6,⟨none,.mupd 0 true (.t 90) (.t 92) (.t 93),none,127⟩]))))))))))) (rf [oj 94 .add 27 1,
 om 27 94]))))
def i99_r2:aH:=(aM [om 95 0,on 96 95,of 97 5 96,ol 98 97,oo 99 (.mlen (.t 98)),om 100 3,oj 101 .quo 100 2,ot 102 .eql 99 101,om 2 102])
def i99:aU:=⟨103,[(2,none)],(ao [mb 2 false] (ao [om 9 0,on 10 9,of 11 0 10,ox 12 2 11,oc 13 6336064256 52 [.t 12],om 3 13] (.seq (ao [om 14 3,oj 15 .rem 14 2,oj 16 .neq 15 0] (ct 16 (aM [mb 2 false]) .skip)) (ao [om 17 0,oo 18 (.mkmap 6336256064 true),on 19 17,of 20 5 19,os 1 20 18] (.seq (ao [om 21 0,on 22 21,of 23 0 22,of 24 1 23,ol 25 24,oh 26 25,mi 27 0] (eh i99_l1)) i99_r2)))))⟩
def i100_l1:aH:=(.seq (ao [om 35 4,om 36 7,oi 37 1 35 36,ol 38 37,kE 39 38] (ct 39 .skip (.exit 2))) (.seq (.block 3 (rf [om 43 4,om 44 7,oi 45 1 43 44,op (.store 1 (.t 45) (.b true))])) (rf [om 40 0,om 41 7,oc 42 6400704128 76 [.t 40,.t 41],om 7 42])))
def i100_r2:aH:=(rf [oj 46 .add 25 1,om 25 46])
def i100_l3:aH:=(ao [ot 26 .lss 25 24] (.seq (eD 26) (.seq (.block 1 (ao [om 27 25,om 6 27] (.seq (ao [om 28 4,om 29 6,oi 30 1 28 29,ol 31 30] (ct 31 (.exit 1) .skip)) (ao [om 32 5,oj 33 .add 32 1,om 5 33] (ao [om 34 6,om 7 34] (.block 2 (.loop i100_l1))))))) i100_r2)))
def i100_r4:aH:=(dq [om 47 5,om 48 0,dX 49 48 2,df 50 3 49 6,dl 51 50 14,tT 52 51 30,om 53 0,dX 54 53 64,df 55 5 54 192,dl 56 55 448,od 57 (.mlen (.t 56)) 960,dt 58 .add 52 57 2046,dj 59 .add 58 2 4094,dt 60 .eql 47 59 8191,dm 2 60 16383] .ret)
def i100:aU:=⟨61,[(2,none)],(ao [mb 2 false] (dq [om 8 0,dX 9 8 1,df 10 0 9 3,df 11 1 10 7,dl 12 11 15,tT 13 12 31,db 14 .mul (.i 2) (.t 13) 63,om 15 0,dX 16 15 128,df 17 3 16 384,dl 18 17 896,tT 19 18 1920,db 20 .mul (.i 2) (.t 19) 3968,dt 21 .add 14 20 8191,dm 3 21 16383] (ao [om 22 3,oo 23 (.ny 6400128064 4 1 1 [bK] (.t 22) (.t 22)),om 4 23] (ao [mi 5 0] (.seq (ao [om 24 3,mi 25 0] (eh i100_l3)) i100_r4)))))⟩
def i70_l1:aH:=(ao [ot 25 .lss 24 23] (.seq (eD 25) (.seq (.block 1 (ao [oi 26 1 22 24,ol 27 26,om 4 27] (ao [om 28 4,oo 29 (.call 4480384064 (.t 28) []),kE 30 29] (ct 30 (aM [mb 2 false]) .skip)))) (rf [oj 31 .add 24 1,om 24 31]))))
def i70_r2:aH:=(aM [mb 2 true])
def i70:aU:=⟨32,[(2,none)],(ao [mb 2 false] (.seq (ao [om 5 0,on 6 5,of 7 0 6,of 8 1 7,ol 9 8,oh 10 9,oj 11 .eql 10 0] (ct 11 (aM [mb 2 true]) .skip)) (.seq (ao [om 12 0,oo 13 (.mkfn 96 [.t 12] []),om 14 0,oo 15 (.mkfn 97 [.t 14] []),om 16 0,oo 17 (.mkfn 98 [.t 16] []),om 18 0,oo 19 (.mkfn 99 [.t 18] []),om 20 0,oo 21 (.mkfn 100 [.t 20] []),oo 22 (.eW 4480192640 26 1 [.t 13,.t 15,.t 17,.t 19,.t 21]),oh 23 22,mi 24 0] (eh i70_l1)) i70_r2)))⟩
def i76:aU:=⟨156,[(4,none)],(ao [mi 4 0] (dq [om 15 0,dX 16 15 1,df 17 0 16 3,df 18 1 17 7,dl 19 18 15,tT 20 19 31,om 21 0,dX 22 21 64,df 23 3 22 192,dl 24 23 448,tT 25 24 960,dm 5 20 63,dm 6 25 4095] (.seq (ao [om 26 1,om 27 5,ob 28 .mul (.i 2) (.t 27),ot 29 .geq 26 28] (ct 29 (ao [om 30 1,om 31 5,ob 32 .mul (.i 2) (.t 31),ot 33 .sub 30 32,oj 34 .quo 33 2,om 7 34] (ao [om 35 1,oj 36 .rem 35 2,oj 37 .eql 36 0,om 8 37] (ao [om 38 0,on 39 38,of 40 3 39,ol 41 40,om 42 7,oi 43 1 41 42,ol 44 43,om 9 44] (.seq (ao [om 45 8] (ct 45 (rt [om 46 0,dX 47 46 1,df 48 3 47 3,dl 49 48 7,om 50 7,dj 51 .add 50 1 16,om 52 6,dt 53 .rem 51 52 112,di 54 1 49 53 255,dl 55 54 511,dm 9 55 1023]) .skip)) (.seq (ao [om 56 8,om 57 0,on 58 57,of 59 2 58,ol 60 59,om 61 9,
 oi 62 1 60 61,ol 63 62,oo 64 (.eqc .bool false (.t 56) (.t 63))] (ct 64 (aM [om 65 0,om 66 9,oc 67 4864576128 112 [.t 65,.t 66],om 4 67]) .skip)) (aM [om 68 0,om 69 9,oc 70 4864640128 113 [.t 68,.t 69],om 4 70])))))) .skip)) (ao [om 71 1,oj 72 .rem 71 2,oj 73 .eql 72 0,om 10 73] (ao [om 74 1,oj 75 .quo 74 2,om 11 75] (.seq (ao [om 76 10] (ct 76 (rf [om 77 11,oj 78 .add 77 1,om 79 5,ot 80 .rem 78 79,om 11 80]) .skip)) (ao [om 81 0,on 82 81,of 83 0 82,of 84 1 83,ol 85 84,om 86 11,oi 87 6 85 86,ox 88 6 87,oo 12 (.alloc 4864960512 [il 0,il 0,il 0,il 0,il 0,bK]),os 6 12 88] (.seq (ao [of 89 0 12,ol 90 89,oj 91 .eql 90 1] (ct 91 (.seq (ao [om 92 10,om 93 0,on 94 93,of 95 2 94,ol 96 95,om 97 11,oi 98 1 96 97,ol 99 98,oo 100 (.eqc .bool false (.t 92) (.t 99))] (ct 100 (aM [om 101 5,
 ob 102 .mul (.i 2) (.t 101),om 103 0,on 104 103,of 105 4 104,ol 106 105,om 107 11,oi 108 1 106 107,ol 109 108,ob 110 .mul (.i 2) (.t 109),ot 111 .add 102 110,om 4 111]) .skip)) (aM [om 112 5,ob 113 .mul (.i 2) (.t 112),om 114 0,on 115 114,of 116 4 115,ol 117 116,om 118 11,oi 119 1 117 118,ol 120 119,oj 121 .sub 120 1,om 122 6,ot 123 .add 121 122,om 124 6,ot 125 .rem 123 124,ob 126 .mul (.i 2) (.t 125),ot 127 .add 113 126,oj 128 .add 127 1,om 4 128])) .skip)) (dq [om 129 0,dX 130 129 1,df 131 5 130 3,dl 132 131 7,of 133 3 12,dl 134 133 16,od 135 (.lookup 0 [il 0,il 0] true false (.t 132) (.t 134)) 63,oo 13 (.alloc 4865280448 [il 0,il 0]),fJ 2 13 135 255] (ao [oo 136 (.tX 2 1 (.t 13) (.i 1)),ol 137 136,om 14 137] (.seq (ao [of 138 5 12,ol 139 138] (ct 139 (rf [oo 140 (.tX 2 1 (.t 13) (.i 0)),
 ol 141 140,om 14 141]) .skip)) (.seq (ao [om 142 10,of 143 5 12,ol 144 143,of 145 4 12,ol 146 145,oj 147 .eql 146 1,oo 148 (.eqc .bool false (.t 144) (.t 147)),oo 149 (.eqc .bool false (.t 142) (.t 148))] (ct 149 (aM [om 150 0,om 151 14,oc 152 4865600128 113 [.t 150,.t 151],om 4 152]) .skip)) (aM [om 153 0,om 154 14,oc 155 4865664128 112 [.t 153,.t 154],om 4 155])))))))))))))⟩
def i113:aU:=⟨7,[(4,none)],(ao [mi 4 0] (aM [om 5 1,ob 6 .mul (.i 2) (.t 5),om 4 6]))⟩
def i112:aU:=⟨20,[(4,none)],(ao [mi 4 0] (ao [om 6 0,on 7 6,of 8 0 7,of 9 1 8,ol 10 9,oh 11 10,om 5 11] (aM [om 12 1,oj 13 .sub 12 1,om 14 5,ot 15 .add 13 14,om 16 5,ot 17 .rem 15 16,ob 18 .mul (.i 2) (.t 17),oj 19 .add 18 1,om 4 19])))⟩
def i122:aU:=⟨9,[(4,none)],(ao [mb 4 false] (aM [om 5 0,om 6 1,oc 7 7808064128 145 [.t 5,.t 6],oj 8 .geq 7 0,om 4 8]))⟩
def i145_l1:aH:=(ao [ot 9 .lss 8 7] (.seq (eD 9) (.seq (.block 1 (ao [om 10 8,om 5 10] (ao [om 11 1,om 12 0,om 13 5,oi 14 6 12 13,ox 15 6 14,oo 16 (.call 9280256320 (.t 11) [.t 15])] (ct 16 (aM [om 17 5,om 4 17]) .skip)))) (rf [oj 18 .add 8 1,om 8 18]))))
def i145_r2:aH:=(aM [oo 4 (.jh (.i (-1)))])
def i145:aU:=⟨19,[(4,none)],(ao [mi 4 0] (.seq (ao [om 6 0,oh 7 6,mi 8 0] (eh i145_l1)) i145_r2))⟩
def i11:aU:=⟨54,[(2,none)],(ao [dC 1 704000000 0,mi 2 0] (.seq (ao [of 4 1 1,ol 5 4,oh 6 5,oj 7 .gtr 6 400,om 8 7,gx_ 9 2 1 8,Ab 10 704064384 19 [.t 9] 8,kx 11 .gtr 10 200 8,fK 12 8 11] (ct 12 (aM [mi 2 7]) .skip)) (.seq (ao [of 13 0 1,ol 14 13,oj 15 .lss 14 0,om 16 15,fg 17 0 1 16,gV 18 17 16,kx 19 .gtr 18 40 16,fK 20 16 19] (ct 20 (aM [mi 2 2]) .skip)) (.seq (ao [of 21 1 1,ol 22 21,oh 23 22,oj 24 .eql 23 0] (ct 24 (aM [mi 2 0]) .skip)) (ao [ox 25 2 1,
 oc 26 704448064 8 [.t 25],om 3 26] (.seq (dq [of 27 1 1,dl 28 27 1,od 29 (.mH 6 (.t 28) (.i 0)) 3,df 30 0 29 7,dl 31 30 15,dj 32 .neq 31 1 31,dm 33 32 63,jK 34 3 33 127,mS 35 .rem 34 2 33 255,mS 36 .neq 35 0 33 511,iu 37 33 36 1023,dm 38 37 2047,Bz 39 2 1 38 4095,xV 40 704512832 20 [.t 39] 38 8191,Gu_ 41 40 38 16383,iu 42 38 41 32767,dm 43 42 65535,Bz 44 2 1 43 131071,xV 45 704513152 21 [.t 44] 43 262143,Gh_ 46 45 43 524287,jK 47 3 43 131071,
 Bz 48 2 1 43 131071,xV 49 704513408 9 [.t 48] 43 2621439,sN 50 .add 47 49 43 7864319,mS 51 .add 50 2 43 16252927,sN 52 .neq 46 51 43 33554431,iu 53 43 52 67108863] (ct 53 (aM [mi 2 3]) .skip)) (aM [mi 2 0])))))))⟩
def i8_l1:aH:=(.seq (ao [om 5 4,of 6 1 1,ol 7 6,oh 8 7,ot 9 .lss 5 8] (eD 9)) (.seq (.block 1 (ao [of 12 1 1,ol 13 12,om 14 4,oi 15 6 13 14,of 16 0 15,ol 17 16,oj 18 .eql 17 1] (ct 18 (rf [om 19 3,oj 20 .add 19 1,om 3 20]) .skip))) (rf [om 10 4,oj 11 .add 10 1,om 4 11])))
def i8_r2:aH:=(aM [om 21 3,om 2 21])
def i8:aU:=⟨22,[(2,none)],(ao [dC 1 512000000 0,mi 2 0] (ao [mi 3 0] (.seq (ao [mi 4 0] (eh i8_l1)) i8_r2)))⟩
def i9:aU:=⟨6,[(2,none)],(ao [dC 1 576000000 0,mi 2 0] (aM [ox 3 2 1,oc 4 576064064 19 [.t 3],oj 5 .quo 4 2,om 2 5]))⟩
def i19_l1:aH:=(.seq (ao [om 5 4,of 6 1 1,ol 7 6,oh 8 7,ot 9 .lss 5 8] (eD 9)) (.seq (.block 1 (ao [of 12 1 1,ol 13 12,om 14 4,oi 15 6 13 14,of 16 0 15,ol 17 16,oj 18 .eql 17 2] (ct 18 (rf [om 19 3,oj 20 .add 19 1,om 3 20]) .skip))) (rf [om 10 4,oj 11 .add 10 1,om 4 11])))
def i19_r2:aH:=(aM [om 21 3,om 2 21])
def i19:aU:=⟨22,[(2,none)],(ao [dC 1 1216000000 0,mi 2 0] (ao [mi 3 0] (.seq (ao [mi 4 0] (eh i19_l1)) i19_r2)))⟩
def i39_l1:aH:=(.seq (ao [om 7 6,of 8 1 2,ol 9 8,oh 10 9,ot 11 .lss 7 10] (eD 11)) (.seq (.block 1 (ao [of 14 1 2,ol 15 14,om 16 6,oi 17 6 15 16,of 18 0 17,ol 19 18,oj 20 .eql 19 1,om 21 20,dz 22 1 2 21,en 23 22 21,dA 24 6 21,vc 25 6 23 24 21,dz 26 1 25 21,en 27 26 21,dA 28 1 21,qM 29 .eql 27 28 21,ec 30 21 29] (ct 30 (rf [om 31 5,oj 32 .add 31 1,om 5 32]) .skip))) (rf [om 12 6,oj 13 .add 12 1,om 6 13])))
def i39_r2:aH:=(aM [om 33 5,om 4 33])
def i39:aU:=⟨34,[(4,none)],(ao [dC 2 2496000000 0,mi 4 0] (ao [mi 5 0] (.seq (ao [mi 6 0] (eh i39_l1)) i39_r2)))⟩
def i67_l1:aH:=(.seq (ao [om 7 6,om 8 1,ot 9 .lss 7 8] (eD 9)) (.seq (.block 1 (ao [of 12 1 2,ol 13 12,om 14 6,oi 15 6 13 14,of 16 0 15,ol 17 16,oj 18 .eql 17 1] (ct 18 (rf [om 19 5,oj 20 .add 19 1,om 5 20]) .skip))) (rf [om 10 6,oj 11 .add 10 1,om 6 11])))
def i67_r2:aH:=(aM [om 21 5,oj 22 .rem 21 2,oj 23 .eql 22 0,om 4 23])
def i67:aU:=⟨24,[(4,none)],(ao [dC 2 4288000000 0,mb 4 false] (ao [mi 5 0] (.seq (ao [mi 6 0] (eh i67_l1)) i67_r2)))⟩
def i20_l1:aH:=(.seq (ao [om 21 7,of 22 1 1,ol 23 22,oh 24 23,ot 25 .lss 21 24] (ct 25 .skip (.exit 2))) (.seq (.block 3 (ao [of 28 1 1,ol 29 28,om 30 7,oi 31 6 29 30,ox 32 6 31,oo 8 (.alloc 1280576320 [il 0,il 0,il 0,il 0,il 0,bK]),os 6 8 32] (.seq (ao [of 33 0 8,ol 34 33,of 35 0 4,ol 36 35,ot 37 .eql 34 36,om 38 37,dz 39 1 8 38,en 40 39 38,dz 41 1 4 38,en 42 41 38,qM 43 .eql 40 42 38,ec 44 38 43,om 45 44,dz 46 2 8 45,en 47 46 45,dz 48 2 4 45,en 49 48 45,
 qM 50 .eql 47 49 45,ec 51 45 50] (ct 51 (rf [om 52 5,oj 53 .add 52 1,om 5 53]) .skip)) (ao [of 54 0 8,ol 55 54,of 56 0 4,ol 57 56,ot 58 .eql 55 57,om 59 58,dz 60 3 8 59,en 61 60 59,dz 62 3 4 59,en 63 62 59,qM 64 .eql 61 63 59,ec 65 59 64,om 66 65,dz 67 4 8 66,en 68 67 66,dz 69 4 4 66,en 70 69 66,qM 71 .eql 68 70 66,ec 72 66 71,om 73 72,dz 74 5 8 73,
 en 75 74 73,dz 76 5 4 73,en 77 76 73,xk 78 (.eqc .bool true (.t 75) (.t 77)) 73,ec 79 73 78] (ct 79 (rf [om 80 6,oj 81 .add 80 1,om 6 81]) .skip))))) (rf [om 26 7,oj 27 .add 26 1,om 7 27])))
def i20_r2:aH:=(ao [of 82 0 4,ol 83 82] (.block 4 (ao [oj 85 .eql 83 1,om 84 85] (ct 84 (dq [of 86 3 4,dl 87 86 1,dj 88 .neq 87 0 3,dm 89 88 7,eV 90 4 4 89 15,fl 91 90 89 31,mS 92 .neq 91 0 89 63,iu 93 89 92 127,dm 94 93 255,eV 95 5 4 94 511,fl 96 95 94 1023,iu 97 94 96 2047,dm 98 97 4095,eV 99 1 4 98 8191,fl 100 99 98 16383,mS 101 .lss 100 0 98 32767,iu 102 98 101 65535,dm 103 102 131071,eV 104 1 4 103 262143,fl 105 104 103 524287,
 eV 106 0 1 103 262143,fl 107 106 103 1310719,sN 108 .gtr 105 107 103 4194303,iu 109 103 108 8388607,dm 110 109 16777215,eV 111 2 4 110 33554431,fl 112 111 110 67108863,mS 113 .lss 112 1 110 134217727,iu 114 110 113 268435455,dm 115 114 536870911,eV 116 2 4 115 1073741823,fl 117 116 115 2147483647,Bz 118 2 1 115 1073741823,eV 119 1 4 115 1073741823,fl 120 119 115 9663676415,xV 121 1281090240 39 [.t 118,.t 120] 115 31138512895,
 sN 122 .gtr 117 121 115 68719476735,iu 123 115 122 137438953471,dm 124 123 274877906943,jK 125 5 124 549755813887,mS 126 .neq 125 1 124 1099511627775,iu 127 124 126 2199023255551] (ct 127 (aM [mb 2 false]) .skip)) (ao [oj 129 .eql 83 2,om 128 129] (ct 128 (dq [of 130 1 4,dl 131 130 1,dj 132 .neq 131 0 3,dm 133 132 7,eV 134 2 4 133 15,fl 135 134 133 31,mS 136 .neq 135 0 133 63,iu 137 133 136 127,dm 138 137 255,eV 139 4 4 138 511,fl 140 139 138 1023,mS 141 .neq 140 1 138 2047,
 jK 142 141 138 4095,gG 143 4 4 142 8191,fI 144 143 142 16383,BB 145 (.bin .neq (.t 144) (.i (-1))) 142 32767,Gq_ 146 142 145 138 65535,iu 147 138 146 131071,dm 148 147 262143,eV 149 3 4 148 524287,fl 150 149 148 1048575,mS 151 .lss 150 1 148 2097151,iu 152 148 151 4194303,dm 153 152 8388607,eV 154 3 4 153 16777215,fl 155 154 153 33554431,Bz 156 2 1 153 16777215,xV 157 1281281728 19 [.t 156] 153 83886079,
 mS 158 .quo 157 2 153 218103807,sN 159 .gtr 155 158 153 536870911,iu 160 153 159 1073741823,dm 161 160 2147483647,jK 162 6 161 4294967295,mS 163 .neq 162 1 161 8589934591,iu 164 161 163 17179869183,dm 165 164 34359738367,Bz 166 2 1 165 68719476735,eV 167 3 4 165 68719476735,fl 168 167 165 206158430207,xV 169 1281282496 40 [.t 166,.t 168] 165 549755813887,mS 170 .neq 169 2 165 1099511627775,iu 171 165 170 2199023255551] (ct 171 (aM [mb 2 false]) .skip)) (aM [mb 2 false])))))))
def i20_r3:aH:=(rf [om 14 3,oj 15 .add 14 1,om 3 15])
def i20_l4:aH:=(.seq (ao [om 9 3,of 10 1 1,ol 11 10,oh 12 11,ot 13 .lss 9 12] (eD 13)) (.seq (.block 1 (ao [of 16 1 1,ol 17 16,om 18 3,oi 19 6 17 18,ox 20 6 19,oo 4 (.alloc 1280256320 [il 0,il 0,il 0,il 0,il 0,bK]),os 6 4 20] (ao [mi 5 0,mi 6 0] (.seq (ao [mi 7 0] (.block 2 (.loop i20_l1))) i20_r2)))) i20_r3))
def i20_r5:aH:=(aM [mb 2 true])
def i20:aU:=⟨172,[(2,none)],(ao [dC 1 1280000000 0,mb 2 false] (.seq (ao [mi 3 0] (eh i20_l4)) i20_r5))⟩
def i40_l1:aH:=(.seq (ao [om 7 6,of 8 1 2,ol 9 8,oh 10 9,ot 11 .lss 7 10] (eD 11)) (.seq (.block 1 (ao [of 14 1 2,ol 15 14,om 16 6,oi 17 6 15 16,of 18 0 17,ol 19 18,oj 20 .eql 19 2,om 21 20,dz 22 1 2 21,en 23 22 21,dA 24 6 21,vc 25 6 23 24 21,dz 26 3 25 21,en 27 26 21,dA 28 1 21,qM 29 .eql 27 28 21,ec 30 21 29] (ct 30 (rf [om 31 5,oj 32 .add 31 1,om 5 32]) .skip))) (rf [om 12 6,oj 13 .add 12 1,om 6 13])))
def i40_r2:aH:=(aM [om 33 5,om 4 33])
def i40:aU:=⟨34,[(4,none)],(ao [dC 2 2560000000 0,mi 4 0] (ao [mi 5 0] (.seq (ao [mi 6 0] (eh i40_l1)) i40_r2)))⟩
def i68_l1:aH:=(.seq (ao [om 6 5,of 7 1 2,ol 8 7,oh 9 8,ot 10 .lss 6 9] (eD 10)) (.seq (.block 1 (dq [om 13 5,om 14 1,dt 15 .neq 13 14 3,dm 16 15 7,gG 17 1 2 16 15,fI 18 17 16 31,gk 19 5 16 15,mr 20 6 18 19 16 127,gG 21 0 20 16 255,fI 22 21 16 511,sO 23 .eql 22 2 16 1023,pO 24 16 23 2047,dm 25 24 4095,gG 26 1 2 25 8191,fI 27 26 25 16383,gk 28 5 25 8191,mr 29 6 27 28 25 65535,gG 30 3 29 25 131071,
 fI 31 30 25 262143,gG 32 1 2 25 8191,fI 33 32 25 532479,gk 34 1 25 8191,mr 35 6 33 34 25 3678207,gG 36 3 35 25 7872511,fI 37 36 25 16261119,xW 38 .eql 31 37 25 33554431,pO 39 25 38 67108863] (ct 39 (aM [om 40 5,om 4 40]) .skip))) (rf [om 11 5,oj 12 .add 11 1,om 5 12])))
def i68_r2:aH:=(aM [om 41 1,om 4 41])
def i68:aU:=⟨42,[(4,none)],(ao [dC 2 4352000000 0,mi 4 0] (.seq (ao [mi 5 0] (eh i68_l1)) i68_r2))⟩
def i65:aU:=⟨24,[(4,none)],(ao [dC 2 4160000000 0,dC 3 4160000064 1,mb 4 false] (aM [of 5 1 2,ol 6 5,of 7 1 3,ol 8 7,ot 9 .lss 6 8,om 10 9,fg 11 1 2 10,gV 12 11 10,fg 13 1 3 10,gV 14 13 10,rS 15 .eql 12 14 10,dS 16 15 10,dz 17 2 2 16,en 18 17 16,dz 19 2 3 16,en 20 19 16,qM 21 .lss 18 20 16,qc 22 16 21 10,fK 23 10 22,om 4 23]))⟩
def i41_l1:aH:=(.seq (dq [om 20 5,om 21 3,tT 22 21 2,dt 23 .lss 20 22 7,dm 24 23 15,gG 25 1 1 24 31,fI 26 25 24 63,gk 27 3 24 31,gk 28 5 24 31,mr 29 1 27 28 24 415,fI 30 29 24 927,mr 31 6 26 30 24 2047,BA 32 6 31 24 4095,gG 33 1 1 24 31,fI 34 33 24 8223,gk 35 4 24 31,mr 36 6 34 35 24 57375,BA 37 6 36 24 122911,Hc_ 38 2624449152 65 [.t 32,.t 37] 24 262143,
 pO 39 24 38 524287] (ct 39 .skip (.exit 2))) (.block 3 (rf [om 40 5,oj 41 .add 40 1,om 5 41])))
def i41_r2:aH:=(rt [om 42 3,om 43 5,od 44 (.slice 1 (.t 42) none (some (.t 43))) 3,od 45 (.append 2624576192 3 1 8 (.k (.one (.p (.nils)))) (.t 44)) 7,om 46 4,od 47 (.eW 2624576320 3 1 [.t 46]) 16,uW 48 2624576384 3 1 8 45 47 63,om 49 3,om 50 5,od 51 (.slice 1 (.t 49) (some (.t 50)) none) 384,uW 52 2624576640 3 1 8 48 51 1023,dm 3 52 2047])
def i41_r3:aH:=(rf [om 11 4,oj 12 .add 11 1,om 4 12])
def i41_l4:aH:=(.seq (ao [om 6 4,of 7 1 1,ol 8 7,oh 9 8,ot 10 .lss 6 9] (eD 10)) (.seq (.block 1 (.seq (ao [of 13 1 1,ol 14 13,om 15 4,oi 16 6 14 15,of 17 0 16,ol 18 17,oj 19 .neq 18 1] (ct 19 (.exit 1) .skip)) (ao [mi 5 0] (.seq (.block 2 (.loop i41_l1)) i41_r2)))) i41_r3))
def i41_r5:aH:=(aM [om 53 3,om 2 53])
def i41:aU:=⟨54,[(2,none)],(ao [dC 1 2624000000 0,dr 2] (ao [dr 3] (.seq (ao [mi 4 0] (eh i41_l4)) i41_r5)))⟩
def i69_l1:aH:=(.seq (ao [om 6 5,om 7 0,oh 8 7,ot 9 .lss 6 8] (eD 9)) (.seq (.block 1 (ao [om 12 0,om 13 5,oi 14 1 12 13,ol 15 14,om 16 1,ot 17 .eql 15 16] (ct 17 (aM [om 18 5,om 4 18]) .skip))) (rf [om 10 5,oj 11 .add 10 1,om 5 11])))
def i69_r2:aH:=(aM [oo 4 (.jh (.i (-1)))])
def i69:aU:=⟨19,[(4,none)],(ao [mi 4 0] (.seq (ao [mi 5 0] (eh i69_l1)) i69_r2))⟩
def i66:aU:=⟨22,[(6,none)],(ao [dC 3 4224000000 0,mi 6 0] (ao [of 8 1 3,ol 9 8,oh 10 9,om 7 10] (.seq (ao [om 11 2] (ct 11 (aM [om 12 1,ob 13 .mul (.i 2) (.t 12),om 6 13]) .skip)) (aM [om 14 1,om 15 7,ot 16 .add 14 15,oj 17 .sub 16 1,om 18 7,ot 19 .rem 17 18,ob 20 .mul (.i 2) (.t 19),oj 21 .add 20 1,om 6 21]))))⟩
def i42:aU:=⟨114,[(6,none)],(ao [dC 3 2688000000 0,mi 6 0] (ao [of 17 1 3,ol 18 17,oh 19 18,om 20 1,oh 21 20,om 7 19,om 8 21] (.seq (ao [om 22 2,om 23 7,ob 24 .mul (.i 2) (.t 23),ot 25 .geq 22 24] (ct 25 (ao [om 26 2,om 27 7,ob 28 .mul (.i 2) (.t 27),ot 29 .sub 26 28,oj 30 .quo 29 2,om 9 30] (.seq (ao [om 31 2,oj 32 .rem 31 2,oj 33 .eql 32 0] (ct 33 (ao [om 34 1,om 35 9,oj 36 .add 35 1,om 37 8,ot 38 .rem 36 37,oi 39 1 34 38,ol 40 39,om 10 40] (dq [ox 41 2 3,om 42 10,ox 43 2 3,om 44 10,dc 45 2688384256 67 [.t 43,.t 44] 12,zL 46 45 28,dc 47 2688384384 66 [.t 41,.t 42,.t 46] 63,dm 6 47 127] .ret)) .skip)) (ao [om 48 1,om 49 9,oi 50 1 48 49,ol 51 50,om 11 51] (dq [ox 52 2 3,om 53 11,ox 54 2 3,om 55 11,dc 56 2688512256 67 [.t 54,.t 55] 12,dc 57 2688512320 66 [.t 52,.t 53,.t 56] 31,
 dm 6 57 63] .ret)))) .skip)) (ao [om 58 2,oj 59 .rem 58 2,oj 60 .eql 59 0,om 12 60] (ao [om 61 2,oj 62 .quo 61 2,om 13 62] (.seq (ao [om 63 12] (ct 63 (rf [om 64 13,oj 65 .add 64 1,om 66 7,ot 67 .rem 65 66,om 13 67]) .skip)) (ao [of 68 1 3,ol 69 68,om 70 13,oi 71 6 69 70,ox 72 6 71,oo 14 (.alloc 2688832320 [il 0,il 0,il 0,il 0,il 0,bK]),os 6 14 72] (.seq (ao [of 73 0 14,ol 74 73,oj 75 .eql 74 2] (ct 75 (ao [of 76 5 14,ol 77 76,of 78 4 14,ol 79 78,oj 80 .eql 79 1,oo 81 (.eqc .bool false (.t 77) (.t 80)),om 15 81] (dq [ox 82 2 3,ox 83 2 3,om 84 13,dc 85 2689024192 68 [.t 83,.t 84] 6,om 86 12,om 87 15,od 88 (.eqc .bool false (.t 86) (.t 87)) 48,dc 89 2689024448 66 [.t 82,.t 85,.t 88] 127,dm 6 89 255] .ret)) .skip)) (ao [om 90 1,om 91 13,oc 92 2689088128 69 [.t 90,.t 91],om 16 92] (.seq (ao [ox 93 2 3,
 om 94 13,oc 95 2689152128 67 [.t 93,.t 94],om 96 12,oo 97 (.eqc .bool false (.t 95) (.t 96))] (ct 97 (aM [om 98 7,ob 99 .mul (.i 2) (.t 98),om 100 16,ob 101 .mul (.i 2) (.t 100),ot 102 .add 99 101,om 6 102]) .skip)) (aM [om 103 7,ob 104 .mul (.i 2) (.t 103),om 105 16,om 106 8,ot 107 .add 105 106,oj 108 .sub 107 1,om 109 8,ot 110 .rem 108 109,ob 111 .mul (.i 2) (.t 110),ot 112 .add 104 111,oj 113 .add 112 1,om 6 113])))))))))))⟩
def i21_l1:aH:=(.seq (ao [om 31 5,om 32 8,oi 33 1 31 32,ol 34 33,kE 35 34] (ct 35 .skip (.exit 2))) (.seq (.block 3 (ao [om 40 5,om 41 8,oi 42 1 40 41,op (.store 1 (.t 42) (.b true))] (rf [om 43 7,om 44 8,oo 45 (.eW 1344832128 3 1 [.t 44]),lH 46 1344832192 3 1 8 43 45,om 7 46]))) (rf [ox 36 2 1,om 37 4,om 38 8,oc 39 1344704192 42 [.t 36,.t 37,.t 38],om 8 39])))
def i21_r2:aH:=(rf [om 47 3,om 48 7,oo 49 (.eW 1344896128 61 1 [.t 48]),lH 50 1344896192 61 1 24 47 49,om 3 50])
def i21_r3:aH:=(rf [om 24 6,oj 25 .add 24 1,om 6 25])
def i21_l4:aH:=(.seq (ao [om 20 6,om 21 5,oh 22 21,ot 23 .lss 20 22] (eD 23)) (.seq (.block 1 (.seq (ao [om 26 5,om 27 6,oi 28 1 26 27,ol 29 28] (ct 29 (.exit 1) .skip)) (ao [dr 7] (.seq (ao [om 30 6,om 8 30] (.block 2 (.loop i21_l1))) i21_r2)))) i21_r3))
def i21_r5:aH:=(aM [om 51 3,om 2 51])
def i21:aU:=⟨52,[(2,none)],(ao [dC 1 1344000000 0,dr 2] (ao [dr 3] (ao [ox 9 2 1,oc 10 1344128064 41 [.t 9],om 4 10] (ao [of 11 1 1,ol 12 11,oh 13 12,ob 14 .mul (.i 2) (.t 13),om 15 4,oh 16 15,ob 17 .mul (.i 2) (.t 16),ot 18 .add 14 17,oo 19 (.ny 1344192512 4 1 1 [bK] (.t 18) (.t 18)),om 5 19] (.seq (ao [mi 6 0] (eh i21_l4)) i21_r5)))))⟩
def i32_l1:aH:=(ao [ot 31 .lss 30 29] (.seq (eD 31) (.seq (.block 1 (ao [om 32 30,om 9 32] (ao [om 33 7,om 34 9,oi 35 1 33 34,ol 36 35,kE 37 36] (ct 37 (rf [om 38 6,om 39 4,om 40 9,om 41 7,om 42 8,oc 43 2048704320 51 [.t 39,.t 40,.t 41,.t 42],oo 44 (.eW 2048704384 77 5 [.t 43]),lH 45 2048704448 77 5 88 38 44,om 6 45]) .skip)))) (rf [oj 46 .add 30 1,om 30 46]))))
def i32_r2:aH:=(aM [om 47 6,om 2 47,mi 3 0])
def i32:aU:=⟨48,[(2,none),(3,none)],(ao [dC 1 2048000000 0,dr 2,mi 3 0] (ao [ox 11 2 1,oc 12 2048064064 43 [.t 11],om 10 12,oe 13 10 0,oe 14 10 1,om 4 13,om 5 14] (.seq (ao [om 15 5,oj 16 .neq 15 0] (ct 16 (aM [om 17 5,dr 2,om 3 17]) .skip)) (ao [dr 6] (ao [om 18 4,on 19 18,of 20 0 19,of 21 1 20,ol 22 21,oh 23 22,ob 24 .mul (.i 2) (.t 23),oo 25 (.ny 2048320448 4 1 1 [bK] (.t 24) (.t 24)),om 7 25] (ao [om 26 4,oc 27 2048384064 50 [.t 26],om 8 27] (.seq (ao [om 28 7,oh 29 28,mi 30 0] (eh i32_l1)) i32_r2)))))))⟩
def i17_l1:aH:=(ao [ot 45 .lss 44 43] (.seq (eD 45) (.seq (.block 1 (ao [oi 46 6 42 44,ox 47 6 46,oo 9 (.alloc 1088512128 [il 0,il 0,il 0,il 0,il 0,bK]),os 6 9 47] (ao [ox 48 6 9,oo 49 (.build [il 0,il 0,il 0,il 0,il 0,bK,bK] [(0,6,.t 48)]),oo 10 (.alloc 1088576128 [il 0,il 0,il 0,il 0,il 0,bK,bK]),os 7 10 49] (.seq (ao [of 50 0 9,ol 51 50,oj 52 .eql 51 1] (ct 52 (ao [om 53 7,of 54 6 10,os 1 54 53] (ao [om 55 7,kE 56 55,om 7 56] (rt [om 57 6,dX 58 57 1,df 59 6 58 3,dl 60 59 7,of 61 1 9,dl 62 61 16,di 63 1 60 62 63,dl 64 63 127,dj 65 .add 64 1 255,di 66 1 60 62 511,fJ 1 66 65 1023]))) .skip)) (rt [om 67 6,om 68 6,dX 69 68 2,df 70 1 69 6,dl 71 70 14,ox 72 7 10,od 73 (.eW 1088896384 74 7 [.t 72]) 32,
 uW 74 1088896448 74 7 56 71 73 126,dX 75 67 255,df 76 1 75 511,fJ 1 76 74 1023]))))) (rf [oj 77 .add 44 1,om 44 77]))))
def i17_l2:aH:=(ao [ot 89 .lss 88 87] (.seq (ct 89 .skip (.exit 4)) (.seq (.block 5 (ao [oi 90 1 86 88,ol 91 90,om 14 91] (rf [om 92 6,on 93 92,of 94 3 93,ol 95 94,om 96 14,om 97 11,oi 98 1 95 96,os 1 98 97]))) (rf [oj 99 .add 88 1,om 88 99]))))
def i17_r3:aH:=(rf [oj 100 .add 80 1,om 80 100])
def i17_l4:aH:=(ao [ot 81 .lss 80 79] (.seq (ct 81 .skip (.exit 2)) (.seq (.block 3 (ao [om 82 80,oi 83 5 78 80,ox 84 5 83,oo 12 (.alloc 1089152192 [bK,.nils,.nils,.nils,bK]),om 11 82,os 5 12 84] (ao [of 85 1 12,ol 86 85,oh 87 86,mi 88 0] (.block 4 (.loop i17_l2))))) i17_r3)))
def i17_r5:aH:=(aM [om 101 6,om 2 101,mi 3 0])
def i17_r6:aH:=(.seq (ao [om 78 4,oh 79 78,mi 80 0] (.block 2 (.loop i17_l4))) i17_r5)
def i17:aU:=⟨102,[(2,none),(3,none)],(ao [dC 1 1088000000 0,CU 2,mi 3 0] (ao [ox 16 2 1,oc 17 1088064064 32 [.t 16],om 15 17,oe 18 15 0,oe 19 15 1,om 4 18,om 5 19] (.seq (ao [om 20 5,oj 21 .neq 20 0] (ct 21 (aM [om 22 5,CU 2,om 3 22]) .skip)) (dq [of 23 0 1,dl 24 23 1,om 25 4,of 26 1 1,dl 27 26 8,tT 28 27 24,db 29 .mul (.i 2) (.t 28) 56,od 30 (.ny 1088256448 3 1 8 [il 0] (.t 29) (.t 29)) 120,ox 31 2 1,dc 32 1088256576 33 [.t 31] 256,ox 33 2 1,dc 34 1088256704 34 [.t 33] 1792,of 35 0 1,dl 36 35 4096,dj 37 .add 36 1 12288,od 38 (.ny 1088256960 3 1 8 [il 0] (.t 37) (.t 37)) 28672,od 39 (.build [il 0,.nils,.nils,.nils,il 0,il 0,.nils] [(0,1,.t 24),(2,1,.t 25),(3,1,.t 30),(4,1,.t 32),(5,1,.t 34),(6,1,.t 38)]) 65535,
 Kb_ 40 1088257088 39 131071,dm 6 40 262143] (ao [mb 7 true] (.seq (ao [of 41 1 1,ol 42 41,oh 43 42,mi 44 0] (eh i17_l1)) i17_r6))))))⟩
def i7:aU:=⟨22,[(4,some (some 2)),(5,none)],(ao [dC 2 448000000 0,dC 3 448000064 1,oo 4 (.alloc 448000128 [il 0,.nils]),mi 5 0] (ao [ox 9 2 2,oc 10 448064064 17 [.t 9],om 8 10,oe 11 8 0,oe 12 8 1,om 6 11,om 7 12] (.seq (ao [om 13 7,oj 14 .neq 13 0] (ct 14 (aM [oo 15 (.build [il 0,.nils] []),om 16 7,os 2 4 15,om 5 16]) .skip)) (aM [om 17 6,ox 18 7 3,oc 19 448256128 18 [.t 17,.t 18],oe 20 19 0,oe 21 19 1,os 2 4 20,om 5 21]))))⟩
def i31:aU:=⟨25,[(4,none),(5,none)],(ao [dC 2 1984000000 0,dr 4,mi 5 0] (ao [ox 11 2 2,oc 12 1984064064 17 [.t 11],om 10 12,oe 13 10 0,oe 14 10 1,om 6 13,om 7 14] (.seq (ao [om 15 7,oj 16 .neq 15 0] (ct 16 (aM [om 17 7,dr 4,om 5 17]) .skip)) (ao [om 19 6,om 20 1,oc 21 1984256128 49 [.t 19,.t 20],om 18 21,oe 22 18 0,oe 23 18 1,om 8 22,om 9 23] (aM [om 24 8,om 4 24,mi 5 0])))))⟩
def i16_l1:aH:=(.seq (ao [om 6 5,oj 7 .leq 6 10] (eD 7)) (.seq (.block 1 (rf [om 10 4,om 11 5,oo 12 (.eW 1024320128 27 1 [.t 11]),lH 13 1024320192 27 1 8 10 12,om 4 13])) (rf [om 8 5,oj 9 .add 8 1,om 5 9])))
def i16_r2:aH:=(aM [ox 14 2 1,om 15 4,oc 16 1024384128 31 [.t 14,.t 15],oe 17 16 0,oe 18 16 1,om 2 17,om 3 18])
def i16:aU:=⟨19,[(2,none),(3,none)],(ao [dC 1 1024000000 0,dr 2,mi 3 0] (ao [dr 4] (.seq (ao [mi 5 1] (eh i16_l1)) i16_r2)))⟩
def i4:aU:=⟨15,[(4,none)],(ao [dC 2 256000000 0,mb 4 false] (aM [of 5 1 2,ol 6 5,oh 7 6,om 8 1,ot 9 .leq 7 8,om 10 9,hx_ 11 2 2 10,rY 12 256064448 11 [.t 11] 10,jo 13 .eql 12 0 10,ec 14 10 13,om 4 14]))⟩
def i18:aU:=⟨55,[(4,some (some 2)),(5,none)],(ao [dC 3 1152000000 1,oo 4 (.alloc 1152000064 [il 0,.nils]),mi 5 0] (.seq (ao [om 10 0,ox 11 7 3,oc 12 1152064128 35 [.t 10,.t 11],kE 13 12] (ct 13 (aM [oo 14 (.build [il 0,.nils] []),os 2 4 14,mi 5 2]) .skip)) (dq [oc 16 1152192000 36 [],of 17 0 3,dl 18 17 2,od 19 (.aidx 11 1 none (.t 16) (.t 18)) 7,om 20 0,ox 21 7 3,od 22 (.call 1152192384 (.t 19) [.t 20,.t 21]) 63,dm 15 22 127,Ke_ 23 15 0 255,Ke_ 24 15 1 255,dm 6 23 511,dm 7 24 2047] (.seq (ao [om 25 7,kE 26 25] (ct 26 (aM [oo 27 (.build [il 0,.nils] []),os 2 4 27,mi 5 4]) .skip)) (.seq (ao [of 29 0 3,ol 30 29,oc 31 1152384128 37 [.t 30],om 28 31,oe 32 28 0,oe 33 28 1,om 8 32,om 9 33] (ao [om 34 0,on 35 34,of 36 1 35,
 ol 37 36,oh 38 37,om 39 8,ot 40 .add 38 39,oj 41 .gtr 40 400,om 42 41,dS 43 0 42,ET 44 43 42,fg 45 5 44 42,gV 46 45 42,dS 47 9 42,rS 48 .add 46 47 42,kx 49 .gtr 48 100 42,fK 50 42 49] (ct 50 (aM [oo 51 (.build [il 0,.nils] []),os 2 4 51,mi 5 7]) .skip))) (aM [om 52 0,om 53 6,oc 54 1152576128 38 [.t 52,.t 53],os 2 4 54,mi 5 0]))))))⟩
def i49_l1:aH:=(ao [ot 26 .lss 25 24] (.seq (ct 26 .skip (.exit 2)) (.seq (.block 3 (ao [oi 27 7 23 25,ox 28 7 27,oo 10 (.alloc 3136576128 [il 0,il 0,il 0,il 0,bK,bK,il 0]),os 7 10 28] (ao [om 30 0,ox 31 7 10,oc 32 3136640128 18 [.t 30,.t 31],om 29 32,oe 33 29 0,oe 34 29 1,oo 11 (.alloc 3136640384 [il 0,.nils]),os 2 11 33,om 12 34] (ao [om 35 12,oj 36 .eql 35 0] (ct 36 (rt [om 37 6,ox 38 7 10,od 39 (.eW 3136768128 29 7 [.t 38]) 2,uW 40 3136768192 29 7 48 37 39 7,om 41 7,ox 42 2 11,od 43 (.eW 3136768384 24 2 [.t 42]) 32,uW 44 3136768448 24 2 32 41 43 127,dm 6 40 255,dm 7 44 511]) .skip))))) (rf [oj 45 .add 25 1,om 25 45]))))
def i49_r2:aH:=(rf [om 15 8,oj 16 .add 15 1,om 8 16])
def i49_l3:aH:=(.seq (ao [om 13 8,oj 14 .leq 13 10] (eD 14)) (.seq (.block 1 (.seq (ao [om 17 1,om 18 8,oc 19 3136384128 74 [.t 17,.t 18],kE 20 19] (ct 20 (.exit 1) .skip)) (ao [om 21 0,om 22 8,oc 23 3136448128 75 [.t 21,.t 22],oh 24 23,mi 25 0] (.block 2 (.loop i49_l1))))) i49_r2))
def i49_r4:aH:=(aM [om 46 6,om 47 7,om 4 46,om 5 47])
def i49:aU:=⟨48,[(4,none),(5,none)],(ao [dr 4,dr 5] (ao [dr 6] (ao [dr 7] (.seq (ao [mi 8 1] (eh i49_l3)) i49_r4))))⟩
def i35:aU:=⟨190,[(4,none)],(ao [dC 3 2240000000 1,mb 4 false] (ao [om 11 0,on 12 11,of 13 1 12,ol 14 13,oh 15 14,oo 5 (.alloc 2240064320 [il 0]),os 1 5 15] (ao [oo 16 (.mkfn 53 [] [.t 5]),om 6 16] (ao [mi 7 1,mb 8 false,mb 9 false,mb 10 false] (.seq (ao [of 17 0 3,ol 18 17] (.block 0 (ao [oj 20 .eql 18 2,om 19 20] (ct 19 (rf [mb 8 true]) (.seq (ao [oj 22 .eql 18 3,om 21 22] (ct 21 .skip (rf [oj 23 .eql 18 6,om 21 23]))) (ct 21 (rf [mi 7 2]) (ao [oj 25 .eql 18 5,om 24 25] (ct 24 (rf [mb 10 true]) (ao [oj 27 .eql 18 7,om 26 27] (ct 26 (rf [mi 7 2,mb 9 true]) (ao [oj 29 .eql 18 8,om 28 29] (ct 28 (rf [mi 7 3]) (.seq (ao [oj 31 .eql 18 1,om 30 31] (ct 30 .skip (ao [oj 32 .eql 18 4,om 30 32] (ct 30 .skip (ao [oj 33 .eql 18 9,
 om 30 33] (ct 30 .skip (rf [oj 34 .eql 18 10,om 30 34]))))))) (ct 30 .skip (aM [mb 4 false]))))))))))))))) (.seq (ao [om 35 9,kE 36 35,om 37 36,dz 38 4 3 37,en 39 38 37,ec 40 37 39,om 41 40,dS 42 9 41,EY 43 42 41,dS 44 43 41,dA 45 10 44,hu_ 46 45 44,qc 47 44 46 41,dS 48 47 41,dz 49 5 3 48,en 50 49 48,qc 51 48 50 41,fK 52 41 51,
 om 53 52,dS 54 10 53,fg 55 6 3 53,gV 56 55 53,kx 57 .neq 56 0 53,gz_ 58 (.eqc .bool true (.t 54) (.t 57)) 53,fK 59 53 58,om 60 59,dS 61 10 60,dS 62 61 60,dz 63 6 3 62,en 64 63 62,jo 65 .neq 64 1 62,qc 66 62 65 60,dS 67 66 60,dz 68 6 3 67,en 69 68 67,xk 70 (.bin .neq (.t 69) (.i (-1))) 67,qc 71 67 70 60,
 fK 72 60 71] (ct 72 (aM [mb 4 false]) .skip)) (.seq (ao [om 73 8] (ct 73 (dq [om 74 6,of 75 1 3,dl 76 75 2,od 77 (.call 2241536192 (.t 74) [.t 76]) 7,dm 78 77 15,fl 79 5 78 31,mS 80 .eql 79 0 78 63,jK 81 80 78 127,gG 82 1 3 81 255,fI 83 82 81 511,sO 84 .eql 83 0 81 1023,Gq_ 85 81 84 78 2047,iu 86 78 85 4095,dm 87 86 8191,gG 88 2 3 87 16383,fI 89 88 87 32767,sO 90 .geq 89 0 87 65535,pO 91 87 90 131071,
 dm 92 91 262143,gG 93 2 3 92 524287,fI 94 93 92 1048575,gk 95 0 92 524287,zK 96 95 92 2621439,gG 97 0 96 92 6815743,fI 98 97 92 15204351,xW 99 .leq 94 98 92 33554431,pO 100 92 99 67108863,dm 101 100 134217727,gG 102 3 3 101 268435455,fI 103 102 101 536870911,sO 104 .geq 103 0 101 1073741823,pO 105 101 104 2147483647,dm 106 105 4294967295,gG 107 3 3 106 8589934591,fI 108 107 106 17179869183,
 gk 109 0 106 8589934591,zK 110 109 106 42949672959,gG 111 6 110 106 111669149695,fI 112 111 106 249108103167,gG 113 2 3 106 8589934591,fI 114 113 106 558345748479,mr 115 1 112 114 106 2173253451775,fI 116 115 106 4372276707327,xW 117 .leq 108 116 106 8796093022207,pO 118 106 117 17592186044415,dm 4 118 35184372088831] .ret) .skip)) (.seq (ao [om 119 6,of 120 1 3,ol 121 120,oo 122 (.call 2241600192 (.t 119) [.t 121]),kE 123 122,om 124 123,dS 125 7 124,kx 126 .lss 125 2 124,
 dS 127 126 124,dz 128 2 3 127,en 129 128 127,jo 130 .neq 129 0 127,qc 131 127 130 124,fK 132 124 131,om 133 132,dS 134 7 133,kx 135 .lss 134 3 133,dS 136 135 133,dz 137 3 3 136,en 138 137 136,jo 139 .neq 138 0 136,qc 140 136 139 133,fK 141 133 140,om 142 141,dS 143 7 142,kx 144 .geq 143 2 142,
 dS 145 144 142,dA 146 6 145,dz 147 2 3 145,en 148 147 145,xk 149 (.call 2241601920 (.t 146) [.t 148]) 145,hu_ 150 149 145,qc 151 145 150 142,fK 152 142 151,om 153 152,dS 154 7 153,kx 155 .eql 154 3 153,dS 156 155 153,dA 157 6 156,dz 158 3 3 156,en 159 158 156,xk 160 (.call 2241602624 (.t 157) [.t 159]) 156,hu_ 161 160 156,
 qc 162 156 161 153,fK 163 153 162] (ct 163 (aM [mb 4 false]) .skip)) (.seq (ao [om 164 9] (ct 164 (aM [of 165 1 3,ol 166 165,of 167 2 3,ol 168 167,ot 169 .neq 166 168,om 4 169]) .skip)) (aM [om 170 7,oj 171 .lss 170 2,om 172 171,fg 173 1 3 172,gV 174 173 172,fg 175 2 3 172,gV 176 175 172,rS 177 .lss 174 176 172,dS 178 177 172,dA 179 7 178,jo 180 .lss 179 3 178,dA 181 180 178,fg 182 2 3 181,
 gV 183 182 181,fg 184 3 3 181,gV 185 184 181,rS 186 .lss 183 185 181,hp_ 187 181 186 178,qc 188 178 187 172,fK 189 172 188,om 4 189]))))))))))⟩
def i36:aU:=⟨2,[(0,some (some 11))],(ao [oo 0 (.alloc 2304000000 [.fX,.fX,.fX,.fX,.fX,.fX,.fX,.fX,.fX,.fX,.fX])] (aM [oo 1 (.build [.fX,.fX,.fX,.fX,.fX,.fX,.fX,.fX,.fX,.fX,.fX] [(1,1,.k (.one (.p (.fn 54 [] [])))),(2,1,.k (.one (.p (.fn 55 [] [])))),(3,1,.k (.one (.p (.fn 56 [] [])))),(4,1,.k (.one (.p (.fn 57 [] [])))),(5,1,.k (.one (.p (.fn 58 [] [])))),(6,1,.k (.one (.p (.fn 59 [] [])))),(7,1,.k (.one (.p (.fn 60 [] [])))),(8,1,.k (.one (.p (.fn 61 [] [])))),(9,1,.k (.one (.p (.fn 62 [] [])))),(10,1,.k (.one (.p (.fn 62 [] []))))]),os 11 0 1]))⟩
def i37:aU:=⟨11,[(2,none),(3,none)],(ao [mi 2 0,mi 3 0] (.seq (ao [om 4 0] (.block 0 (ao [oj 6 .eql 4 2,om 5 6] (ct 5 (aM [mi 2 2,mi 3 0]) (ao [oj 8 .eql 4 5,om 7 8] (ct 7 (aM [mi 2 2,mi 3 1]) (ao [oj 10 .eql 4 7,om 9 10] (ct 9 (aM [mi 2 4,mi 3 2]) .skip)))))))) (aM [mi 2 0,mi 3 0])))⟩
def i38_l1:aH:=(ao [ot 19 .lss 18 17] (.seq (eD 19) (.seq (.block 1 (ao [om 20 18,om 7 20] (rt [of 21 1 5,dl 22 21 1,om 23 1,om 24 6,om 25 7,dt 26 .add 24 25 24,om 27 1,tT 28 27 64,dt 29 .rem 26 28 248,di 30 7 23 29 508,df 31 0 30 1020,dx 32 6 31 2044,od 33 (.eW 2432384768 51 6 [.t 32]) 4092,uW 34 2432384832 51 6 48 22 33 8191,df 35 1 5 16383,fJ 1 35 34 32767]))) (rf [oj 36 .add 18 1,om 18 36]))))
def i38_r2:aH:=(aM [ox 37 2 5,os 2 4 37])
def i38:aU:=⟨38,[(4,some (some 2))],(ao [oo 4 (.alloc 2432000000 [il 0,.nils])] (ao [om 8 0,on 9 8,of 10 0 9,ol 11 10,oo 12 (.build [il 0,.nils] [(0,1,.t 11)]),oo 5 (.alloc 2432064320 [il 0,.nils]),os 2 5 12] (ao [om 13 1,oc 14 2432128064 63 [.t 13,.k (.one (.p (.fn 64 [] [])))],oo 15 (.max (.i 0) (.t 14)),om 6 15] (.seq (ao [om 16 1,oh 17 16,mi 18 0] (eh i38_l1)) i38_r2))))⟩
def i74:aU:=⟨9,[(4,none)],(ao [mb 4 false] (aM [om 5 0,om 6 1,oc 7 4736064128 107 [.t 5,.t 6],oj 8 .geq 7 0,om 4 8]))⟩
def i75_l1:aH:=(.seq (ao [om 27 7,om 28 0,on 29 28,of 30 0 29,ol 31 30,ot 32 .leq 27 31] (eD 32)) (.seq (.block 1 (rf [om 35 5,om 36 1,om 37 7,oo 38 (.build [il 0,il 0,il 0,il 0,bK,bK,il 0] [(0,1,.t 36),(2,1,.t 37)]),oo 39 (.eW 4800448256 29 7 [.t 38]),lH 40 4800448320 29 7 48 35 39,om 5 40])) (rf [om 33 7,oj 34 .add 33 1,om 7 34])))
def i75_l2:aH:=(ao [oj 55 .lss 54 2] (.seq (ct 55 .skip (.exit 5)) (.seq (.block 6 (ao [om 56 54,om 10 56] (rt [om 57 9,om 58 0,dX 59 58 2,df 60 2 59 6,dl 61 60 14,om 62 0,dX 63 62 32,df 64 3 63 96,dl 65 64 224,om 66 8,db 67 .mul (.i 2) (.t 66) 512,om 68 10,dt 69 .add 67 68 3584,di 70 1 65 69 8160,dl 71 70 16352,di 72 5 61 71 32766,df 73 2 72 65534,dl 74 73 131070,uW 75 4801153152 127 2 16 57 74 262143,dm 9 75 524287]))) (rf [oj 76 .add 54 1,om 54 76]))))
def i75_l3:aH:=(ao [ot 83 .lss 82 81] (.seq (ct 83 .skip (.exit 7)) (.seq (.block 8 (ao [oi 84 2 80 82,ox 85 2 84,oo 12 (.alloc 4801472128 [il 0,il 0]),os 2 12 85] (rf [om 86 5,om 87 1,om 88 8,of 89 0 12,ol 90 89,of 91 1 12,ol 92 91,oo 93 (.build [il 0,il 0,il 0,il 0,bK,bK,il 0] [(0,1,.t 87),(1,1,.t 88),(2,1,.t 90),(3,1,.t 92)]),oo 94 (.eW 4801536512 29 7 [.t 93]),lH 95 4801536576 29 7 48 86 94,om 5 95]))) (rf [oj 96 .add 82 1,om 82 96]))))
def i75_r4:aH:=(ao [om 77 9,oc 78 4801280064 108 [.t 77,.k (.one (.p (.fn 109 [] [])))]] (ao [om 79 9,oc 80 4801344064 110 [.t 79],oh 81 80,mi 82 0] (.block 7 (.loop i75_l3))))
def i75_l5:aH:=(ao [oj 100 .lss 99 4] (.seq (ct 100 .skip (.exit 9)) (.seq (.block 10 (ao [om 101 99,om 13 101] (rf [om 102 5,om 103 1,om 104 8,om 105 13,oj 106 .gtr 105 1,om 107 13,oj 108 .rem 107 2,ob 109 .mul (.i 2) (.t 108),oj 110 .sub 109 1,oo 111 (.build [il 0,il 0,il 0,il 0,bK,bK,il 0] [(0,1,.t 103),(1,1,.t 104),(5,1,.t 106),(6,1,.t 110)]),oo 112 (.eW 4801920640 29 7 [.t 111]),lH 113 4801920704 29 7 48 102 112,om 5 113]))) (rf [oj 114 .add 99 1,om 99 114]))))
def i75_l6:aH:=(ao [oj 122 .lss 121 4] (.seq (ct 122 .skip (.exit 13)) (.seq (.block 14 (ao [om 123 121,om 15 123] (ao [om 124 14,om 125 8,ot 126 .neq 124 125] (ct 126 (rf [om 127 5,om 128 1,om 129 8,om 130 14,om 131 15,oj 132 .gtr 131 1,om 133 15,oj 134 .rem 133 2,oj 135 .eql 134 1,oo 136 (.build [il 0,il 0,il 0,il 0,bK,bK,il 0] [(0,1,.t 128),(1,1,.t 129),(2,1,.t 130),(4,1,.t 132),(5,1,.t 135)]),oo 137 (.eW 4802560640 29 7 [.t 136]),lH 138 4802560704 29 7 48 127 137,om 5 138]) .skip)))) (rf [oj 139 .add 121 1,om 121 139]))))
def i75_r7:aH:=(rf [oj 140 .add 118 1,om 118 140])
def i75_l8:aH:=(ao [ot 119 .lss 118 117] (.seq (ct 119 .skip (.exit 11)) (.seq (.block 12 (ao [om 120 118,om 14 120] (ao [mi 121 0] (.block 13 (.loop i75_l6))))) i75_r7)))
def i75_r9:aH:=(rf [oj 151 .add 42 1,om 42 151])
def i75_l10:aH:=(ao [ot 43 .lss 42 41] (.seq (ct 43 .skip (.exit 2)) (.seq (.block 3 (ao [om 44 42,om 8 44] (ao [om 45 1] (.block 4 (ao [oj 53 .eql 45 2,om 52 53] (ct 52 (ao [dr 9] (.seq (ao [mi 54 0] (.block 5 (.loop i75_l2))) i75_r4)) (ao [oj 98 .eql 45 5,om 97 98] (ct 97 (ao [mi 99 0] (.block 9 (.loop i75_l5))) (ao [oj 116 .eql 45 7,om 115 116] (ct 115 (ao [om 117 6,mi 118 0] (.block 11 (.loop i75_l8))) (.seq (ao [oj 142 .eql 45 3,om 141 142] (ct 141 .skip (ao [oj 143 .eql 45 6,om 141 143] (ct 141 .skip (rf [oj 144 .eql 45 8,om 141 144]))))) (ct 141 (rf [om 145 5,om 146 0,om 147 1,om 148 8,oc 149 4802944256 111 [.t 146,.t 147,.t 148],lH 150 4802944320 29 7 48 145 149,om 5 150]) (rf [om 46 5,
 om 47 1,om 48 8,oo 49 (.build [il 0,il 0,il 0,il 0,bK,bK,il 0] [(0,1,.t 47),(1,1,.t 48)]),oo 50 (.eW 4800768256 29 7 [.t 49]),lH 51 4800768320 29 7 48 46 50,om 5 51]))))))))))))) i75_r9)))
def i75_r11:aH:=(aM [om 152 5,om 4 152])
def i75_r12:aH:=(.seq (ao [om 41 6,mi 42 0] (.block 2 (.loop i75_l10))) i75_r11)
def i75:aU:=⟨153,[(4,none)],(ao [dr 4] (ao [dr 5] (ao [om 16 0,on 17 16,of 18 1 17,ol 19 18,oh 20 19,om 6 20] (.seq (ao [om 21 6,oj 22 .eql 21 0,om 23 22,dA 24 1 23,jo 25 .eql 24 2 23,ec 26 23 25] (ct 26 (ao [mi 7 0] (eh i75_l1)) .skip)) i75_r12))))⟩
def i50_l1:aH:=(ao [ot 21 .lss 20 19] (.seq (eD 21) (.seq (.block 1 (ao [om 22 20,oi 23 6 18 20,ox 24 6 23,oo 6 (.alloc 3200320192 [il 0,il 0,il 0,il 0,il 0,bK]),om 5 22,os 6 6 24] (.seq (ao [of 25 0 6,ol 26 25,oj 27 .eql 26 1] (ct 27 (rf [om 28 0,on 29 28,of 30 2 29,ol 31 30,om 32 5,oi 33 1 31 32,ol 34 33,om 4 34]) .skip)) (rf [om 35 3,om 36 5,om 37 4,oi 38 1 35 36,os 1 38 37])))) (rf [oj 39 .add 20 1,om 20 39]))))
def i50_r2:aH:=(aM [om 40 3,om 2 40])
def i50:aU:=⟨41,[(2,none)],(ao [dr 2] (ao [om 7 0,on 8 7,of 9 0 8,of 10 1 9,ol 11 10,oh 12 11,oo 13 (.ny 3200064384 4 1 1 [bK] (.t 12) (.t 12)),om 3 13] (ao [mb 4 false] (.seq (ao [om 14 0,on 15 14,of 16 0 15,of 17 1 16,ol 18 17,oh 19 18,mi 20 0] (eh i50_l1)) i50_r2))))⟩
def i51_l1:aH:=(.seq (.block 1 (.seq (ao [om 38 12,om 39 9,ob 40 .mul (.i 2) (.t 39),ot 41 .lss 38 40] (ct 41 (.seq (ao [om 42 2,om 43 12,oi 44 1 42 43,ol 45 44] (ct 45 (.exit 0) .skip)) (ao [om 46 2,om 47 12,oi 48 1 46 47,op (.store 1 (.t 48) (.b true))] (ao [of 49 1 11,ol 50 49,om 51 12,oo 52 (.eW 3264512192 3 1 [.t 51]),lH 53 3264512256 3 1 8 50 52,of 54 1 11,os 1 54 53] (.exit 1)))) .skip)) (ao [om 55 12,om 56 9,ob 57 .mul (.i 2) (.t 56),ot 58 .sub 55 57,oj 59 .quo 58 2,om 13 59] (ao [om 61 0,om 62 13,oc 63 3264640128 77 [.t 61,.t 62],om 60 63,oe 64 60 0,oe 65 60 1,om 14 64,om 15 65] (.seq (ao [om 66 12,oj 67 .rem 66 2,oj 68 .eql 67 1] (ct 68 (ao [om 69 14,oc 70 3264768064 78 [.t 69]] (rf [om 71 15,oc 72 3264832064 79 [.t 71]])) .skip)) (dq [of 73 2 11,dl 74 73 1,
 om 75 14,uW 76 3264896192 127 2 16 74 75 7,of 77 3 11,dl 78 77 16,om 79 15,uW 80 3264896448 3 1 8 78 79 127,df 81 2 11 63,fJ 1 81 76 511,df 82 3 11 1023,fJ 1 82 80 2047] (rf [of 83 4 11,ol 84 83,om 85 84,dS 86 13 85,dS 87 10 85,kx 88 .sub 87 1 85,rS 89 .eql 86 88 85,fK 90 85 89,of 91 4 11,os 1 91 90]))))))) (rf [om 35 0,om 36 12,oc 37 3264256128 76 [.t 35,.t 36],om 12 37]))
def i51_r2:aH:=(aM [ox 92 5 11,os 5 8 92])
def i51:aU:=⟨93,[(8,some (some 5))],(ao [oo 8 (.alloc 3264000000 [bK,.nils,.nils,.nils,bK])] (dq [om 16 0,dX 17 16 1,df 18 0 17 3,df 19 1 18 7,dl 20 19 15,tT 21 20 31,om 22 0,dX 23 22 64,df 24 3 23 192,dl 25 24 448,tT 26 25 960,dm 9 21 63,dm 10 26 4095] (ao [om 27 3,om 28 1,oj 29 .quo 28 2,oi 30 1 27 29,ol 31 30,kE 32 31,oo 33 (.build [bK,.nils,.nils,.nils,bK] [(0,1,.t 32)]),oo 11 (.alloc 3264128448 [bK,.nils,.nils,.nils,bK]),os 5 11 33] (.seq .skip (.seq (ao [om 34 1,om 12 34] (eh i51_l1)) i51_r2)))))⟩
def i53:aU:=⟨11,[(3,none)],(ao [mb 3 false] (aM [om 4 0,oj 5 .geq 4 0,om 6 5,dA 7 0 6,en 8 1 6,qM 9 .lss 7 8 6,ec 10 6 9,om 3 10]))⟩
def i54:aU:=⟨102,[(4,none),(5,none)],(ao [dC 3 3456000000 1,dr 4,mb 5 false] (ao [om 12 0,of 13 1 3,ol 14 13,oc 15 3456064192 80 [.t 12,.t 14],om 11 15,oe 16 11 0,oe 17 11 1,oo 6 (.alloc 3456064448 [il 0]),oo 7 (.alloc 3456064512 [il 0]),os 1 6 16,os 1 7 17] (dq [om 18 0,dX 19 18 1,df 20 1 19 3,dl 21 20 7,ol 22 6,di 23 7 21 22 31,dx 24 7 23 63,om 25 0,dX 26 25 128,df 27 1 26 384,dl 28 27 896,ol 29 7,di 30 7 28 29 3968,dx 31 7 30 8064,oo 8 (.alloc 3456128896 [il 0,il 0,il 0,il 0,il 0,bK,bK]),oo 9 (.alloc 3456128960 [il 0,il 0,il 0,il 0,il 0,bK,bK]),fJ 7 8 24 49279,fJ 7 9 31 131071] (.seq (ao [of 32 0 8,of 33 0 32,ol 34 33,oj 35 .neq 34 1,om 36 35,fg 37 0 9 36,
 fg 38 0 37 36,gV 39 38 36,kx 40 .neq 39 1 36,fK 41 36 40,om 42 41,fg 43 0 8 42,fg 44 1 43 42,gV 45 44 42,fg 46 0 9 42,fg 47 1 46 42,gV 48 47 42,rS 49 .neq 45 48 42,fK 50 42 49,om 51 50,fg 52 0 8 51,fg 53 2 52 51,gV 54 53 51,fg 55 0 9 51,fg 56 2 55 51,
 gV 57 56 51,gz_ 58 (.max (.t 54) (.t 57)) 51,fg 59 0 8 51,fg 60 2 59 51,gV 61 60 51,fg 62 0 9 51,fg 63 2 62 51,gV 64 63 51,gz_ 65 (.min (.t 61) (.t 64)) 51,rS 66 .sub 58 65 51,kx 67 .neq 66 1 51,fK 68 51 67,om 69 68,dS 70 0 69,ET 71 70 69,fg 72 4 71 69,gV 73 72 69,kx 74 .leq 73 2 69,
 dS 75 74 69,dA 76 0 75,AM 77 76 75,dz 78 5 77 75,en 79 78 75,jo 80 .gtr 79 0 75,qc 81 75 80 69,fK 82 69 81] (ct 82 (aM [dr 4,mb 5 false]) .skip)) (ao [om 83 0,on 84 83,of 85 1 84,ol 86 85,oo 87 (.mkfn 82 [] [.t 6,.t 7]),oc 88 3456320320 81 [.t 86,.t 87],om 10 88] (ao [om 89 10,of 90 0 8,of 91 1 90,ol 92 91,of 93 0 8,of 94 2 93,ol 95 94,of 96 0 9,of 97 2 96,ol 98 97,oo 99 (.max (.t 95) (.t 98)),oc 100 3456384704 83 [.t 89,.t 92,.t 99,.i (-2)]] (aM [om 101 10,om 4 101,mb 5 true])))))))⟩
def i55_l1:aH:=(ao [oj 41 .lss 40 2] (.seq (eD 41) (.seq (.block 1 (ao [om 42 40,om 9 42] (dq [om 43 0,dX 44 43 1,df 45 2 44 3,dl 46 45 7,om 47 0,dX 48 47 16,df 49 3 48 48,dl 50 49 112,of 51 1 3,dl 52 51 256,db 53 .mul (.i 2) (.t 52) 768,om 54 9,dt 55 .add 53 54 3840,di 56 1 50 55 8176,dl 57 56 16368,di 58 5 46 57 32767,dx 59 5 58 65535,oo 10 (.alloc 3520577088 [bK,.nils,.nils,.nils,bK]),fJ 5 10 59 262143] (.seq (ao [of 60 2 10,ol 61 60,ox 62 2 6,oc 63 3520640192 84 [.t 61,.t 62],kE 64 63] (ct 64 (.exit 1) .skip)) (.seq (ao [of 65 0 10,ol 66 65,om 67 9,oj 68 .eql 67 1,oo 69 (.eqc .bool true (.t 66) (.t 68))] (ct 69 (rf [of 70 0 8,of 71 2 70,ol 72 71,of 73 0 7,of 74 2 73,ol 75 74,of 76 0 7,of 77 2 76,os 1 77 72,
 of 78 0 8,of 79 2 78,os 1 79 75]) .skip)) (dq [of 80 0 10,dl 81 80 1,of 82 0 10,dl 83 82 4,zL 84 83 12,df 85 6 7 3,fJ 1 85 81 35,df 86 6 8 127,fJ 1 86 84 255] (ao [om 87 0,on 88 87,of 89 1 88,ol 90 89,oc 91 3520896256 85 [.t 90],om 11 91] (ao [om 92 11,of 93 2 3,ol 94 93,of 95 3 3,ol 96 95,oc 97 3520960320 83 [.t 92,.t 94,.t 96,.i 2]] (aM [om 98 11,of 99 1 3,ol 100 99,ox 101 7 7,ox 102 7 8,oo 103 (.eW 3521024320 74 7 [.t 101,.t 102]),oc 104 3521024384 86 [.t 98,.t 100,.t 103],om 4 104,mb 5 true]))))))))) (rf [oj 105 .add 40 1,om 40 105]))))
def i55_r2:aH:=(aM [dr 4,mb 5 false])
def i55:aU:=⟨106,[(4,none),(5,none)],(ao [dC 3 3520000000 1,dr 4,mb 5 false] (ao [of 12 2 3,ol 13 12,of 14 3 3,ol 15 14,oo 16 (.build [il 0,il 0] [(0,1,.t 13),(1,1,.t 15)]),oo 6 (.alloc 3520064320 [il 0,il 0]),os 2 6 16] (ao [of 17 2 3,ol 18 17,of 19 3 3,ol 20 19,oj 21 .add 20 1,oo 22 (.build [il 0,il 0,il 0,il 0,il 0,bK] [(0,1,.i 1),(1,1,.t 18),(2,1,.t 21)]),oo 23 (.build [il 0,il 0,il 0,il 0,il 0,bK,bK] [(0,6,.t 22),(6,1,.b true)]),oo 7 (.alloc 3520128448 [il 0,il 0,il 0,il 0,il 0,bK,bK]),os 7 7 23] (ao [of 24 2 3,ol 25 24,of 26 3 3,ol 27 26,oj 28 .add 27 2,oo 29 (.build [il 0,il 0,il 0,il 0,il 0,bK] [(0,1,.i 1),(1,1,.t 25),(2,1,.t 28)]),oo 30 (.build [il 0,il 0,il 0,il 0,il 0,bK,bK] [(0,6,.t 29),(6,1,.b false)]),
 oo 8 (.alloc 3520192448 [il 0,il 0,il 0,il 0,il 0,bK,bK]),os 7 8 30] (.seq (ao [om 31 0,on 32 31,of 33 1 32,ol 34 33,oh 35 34,oj 36 .eql 35 0] (ct 36 (aM [ox 37 7 7,ox 38 7 8,oo 39 (.eW 3520320128 74 7 [.t 37,.t 38]),om 4 39,mb 5 true]) .skip)) (.seq (ao [mi 40 0] (eh i55_l1)) i55_r2))))))⟩
def i56_l1:aH:=(ao [ot 119 .lss 118 117] (.seq (eD 119) (.seq (.block 1 (ao [oi 120 1 116 118,ol 121 120,om 16 121] (ao [om 123 0,om 124 16,oc 125 3584704128 80 [.t 123,.t 124],om 122 125,oe 126 122 0,oe 127 122 1,om 17 126,om 18 127] (rt [om 128 14,om 129 17,om 130 14,om 131 18,om 132 14,om 133 18,di 134 7 132 133 48,dx 135 7 134 112,om 136 14,om 137 17,di 138 7 136 137 768,dx 139 7 138 1792,di 140 7 128 129 4083,fJ 7 140 135 8179,di 141 7 130 131 16383,fJ 7 141 139 32767])))) (rf [oj 142 .add 118 1,om 118 142]))))
def i56_r2:aH:=(aM [om 143 14,om 4 143,mb 5 true])
def i56:aU:=⟨144,[(4,none),(5,none)],(ao [dC 3 3584000000 1,dr 4,mb 5 false] (ao [om 20 0,of 21 1 3,ol 22 21,oc 23 3584064192 87 [.t 20,.t 22],om 19 23,oe 24 19 0,oe 25 19 1,oe 26 19 2,om 6 24,om 7 25,om 8 26] (ao [om 28 0,of 29 2 3,ol 30 29,oc 31 3584128192 87 [.t 28,.t 30],om 27 31,oe 32 27 0,oe 33 27 1,oe 34 27 2,om 9 32,om 10 33,om 11 34] (.seq (dq [om 35 8,zL 36 35 1,dm 37 36 3,jK 38 11 37 7,Gu_ 39 38 37 15,iu 40 37 39 31,dm 41 40 63,jK 42 7 41 127,jK 43 10 41 127,sN 44 .eql 42 43 41 511,iu 45 41 44 1023,dm 46 45 2047,jK 47 0 46 4095,
 zJ 48 47 46 8191,eV 49 1 48 46 16383,fl 50 49 46 32767,jK 51 7 46 4095,By 52 7 50 51 46 131071,eV 53 0 52 46 262143,eV 54 3 53 46 524287,fl 55 54 46 1048575,jK 56 0 46 4095,zJ 57 56 46 2101247,eV 58 1 57 46 6295551,fl 59 58 46 14684159,jK 60 10 46 4095,By 61 7 59 60 46 65015807,eV 62 0 61 46 132124671,eV 63 3 62 46 266342399,
 fl 64 63 46 534777855,sN 65 .neq 55 64 46 1073741823,iu 66 46 65 2147483647,dm 67 66 4294967295,jK 68 0 67 8589934591,eV 69 1 3 67 8589934591,fl 70 69 67 25769803775,eV 71 2 3 67 8589934591,fl 72 71 67 77309411327,Gz_ 73 (.eW 3584194432 3 1 [.t 70,.t 72]) 67 266287972351,xV 74 3584194496 88 [.t 68,.i 1,.t 73] 67 549755813887,Gu_ 75 74 67 1099511627775,iu 76 67 75 2199023255551] (ct 76 (aM [dr 4,
 mb 5 false]) .skip)) (dq [om 77 0,dX 78 77 1,df 79 1 78 3,dl 80 79 7,om 81 6,di 82 7 80 81 31,df 83 0 82 63,df 84 2 83 127,dl 85 84 255,om 86 0,dX 87 86 512,df 88 1 87 1536,dl 89 88 3584,om 90 9,di 91 7 89 90 15872,df 92 0 91 32256,df 93 2 92 65024,dl 94 93 130560,dm 12 85 511,dm 13 94 524287] (ao [om 95 0,on 96 95,of 97 1 96,ol 98 97,oc 99 3584384256 85 [.t 98],om 14 99] (ao [om 100 14,om 101 6,om 102 14,om 103 9,om 104 13,om 105 12,oi 106 7 100 101,of 107 0 106,of 108 2 107,os 1 108 104,oi 109 7 102 103,of 110 0 109,of 111 2 110,os 1 111 105] (.seq (ao [of 112 1 3,ol 113 112,of 114 2 3,ol 115 114,oo 116 (.eW 3584512256 3 1 [.t 113,.t 115]),oh 117 116,mi 118 0] (eh i56_l1)) i56_r2))))))))⟩
def i57:aU:=⟨73,[(4,none),(5,none)],(ao [dC 3 3648000000 1,dr 4,mb 5 false] (ao [om 9 0,of 10 1 3,ol 11 10,oc 12 3648064192 80 [.t 9,.t 11],om 8 12,oe 13 8 0,oe 14 8 1,om 6 13,om 7 14] (.seq (dq [om 15 0,dX 16 15 1,df 17 1 16 3,dl 18 17 7,om 19 6,di 20 7 18 19 31,df 21 0 20 63,df 22 0 21 127,dl 23 22 255,dj 24 .neq 23 2 511,dm 25 24 1023,jK 26 0 25 2047,zJ 27 26 25 4095,eV 28 1 27 25 8191,fl 29 28 25 16383,jK 30 7 25 2047,By 31 7 29 30 25 65535,eV 32 0 31 25 131071,eV 33 0 32 25 262143,fl 34 33 25 524287,
 mS 35 .neq 34 2 25 1048575,iu 36 25 35 2097151,dm 37 36 4194303,jK 38 0 37 8388607,zJ 39 38 37 16777215,eV 40 1 39 37 33554431,fl 41 40 37 67108863,jK 42 6 37 8388607,By 43 7 41 42 37 268435455,eV 44 0 43 37 536870911,eV 45 3 44 37 1073741823,fl 46 45 37 2147483647,jK 47 0 37 8388607,zJ 48 47 37 4303355903,eV 49 1 48 37 12893290495,fl 50 49 37 30073159679,
 jK 51 7 37 8388607,By 52 7 50 51 37 133152374783,eV 53 0 52 37 270591328255,eV 54 3 53 37 545469235199,fl 55 54 37 1095225049087,sN 56 .neq 46 55 37 2199023255551,iu 57 37 56 4398046511103] (ct 57 (aM [dr 4,mb 5 false]) .skip)) (dq [om 58 0,dX 59 58 1,df 60 1 59 3,dl 61 60 7,om 62 0,dX 63 62 16,df 64 1 63 48,dl 65 64 112,om 66 6,di 67 7 65 66 496,df 68 0 67 1008,df 69 3 68 2032,dl 70 69 4080,od 71 (.eW 3648256832 3 1 [.t 70]) 8176,dc 72 3648256896 89 [.t 61,.t 71] 16383,dm 4 72 32767,od 5 (.jh (.b true)) 65535] .ret))))⟩
def i58:aU:=⟨27,[(4,none),(5,none)],(ao [dC 3 3712000000 1,dr 4,mb 5 false] (dq [om 6 0,dX 7 6 1,df 8 1 7 3,dl 9 8 7,of 10 1 3,dl 11 10 16,om 12 0,of 13 6 3,dl 14 13 128,of 15 5 3,dl 16 15 512,dc 17 3712064704 90 [.t 12,.i 1,.t 14,.t 16] 1984,om 18 0,of 19 6 3,dl 20 19 8192,of 21 5 3,dl 22 21 32768,zL 23 22 98304,dc 24 3712065152 90 [.t 18,.i 1,.t 20,.t 23] 262080,od 25 (.eW 3712065216 74 7 [.t 17,.t 24]) 524224,dc 26 3712065280 86 [.t 9,.t 11,.t 25] 1048575,dm 4 26 2097151,od 5 (.jh (.b true)) 4194303] .ret))⟩
def i59:aU:=⟨165,[(4,none),(5,none)],(ao [dC 3 3776000000 1,dr 4,mb 5 false] (ao [om 13 0,on 14 13,of 15 1 14,ol 16 15,oh 17 16,om 6 17] (.seq (ao [om 18 0,of 19 1 3,ol 20 19,oc 21 3776128192 91 [.t 18,.t 20,.b true],om 22 21,dA 23 0 22,dz 24 2 3 22,en 25 24 22,rY 26 3776128512 91 [.t 23,.t 25,.b false] 22,ec 27 22 26,om 28 27,dS 29 0 28,fg 30 1 3 28,gV 31 30 28,Ab 32 3776128896 91 [.t 29,.t 31,.b false] 28,dS 33 32 28,
 dA 34 0 33,dz 35 2 3 33,en 36 35 33,rY 37 3776129216 91 [.t 34,.t 36,.b true] 33,qc 38 33 37 28,fK 39 28 38,kE 40 39] (ct 40 (aM [dr 4,mb 5 false]) .skip)) (ao [om 42 0,of 43 1 3,ol 44 43,oc 45 3776256192 80 [.t 42,.t 44],om 41 45,oe 46 41 0,oe 47 41 1,om 7 46,om 8 47] (ao [om 49 0,of 50 2 3,ol 51 50,oc 52 3776320192 80 [.t 49,.t 51],om 48 52,oe 53 48 0,oe 54 48 1,om 9 53,om 10 54] (dq [om 55 0,dX 56 55 1,df 57 1 56 3,dl 58 57 7,om 59 7,di 60 7 58 59 31,df 61 0 60 63,df 62 3 61 127,dl 63 62 255,om 64 0,dX 65 64 512,
 df 66 1 65 1536,dl 67 66 3584,om 68 8,di 69 7 67 68 15872,df 70 0 69 32256,df 71 3 70 65024,dl 72 71 130560,dm 11 63 511,dm 12 72 524287] (.seq (ao [om 73 11,om 74 12,ot 75 .eql 73 74,om 76 75,dS 77 0 76,ET 78 77 76,fg 79 1 78 76,gV 80 79 76,dS 81 9 76,gi_ 82 7 80 81 76,fg 83 0 82 76,fg 84 3 83 76,gV 85 84 76,dS 86 11 76,rS 87 .eql 85 86 76,dS 88 87 76,dA 89 0 88,AM 90 89 88,
 dz 91 1 90 88,en 92 91 88,dA 93 10 88,vc 94 7 92 93 88,dz 95 0 94 88,dz 96 3 95 88,en 97 96 88,dA 98 12 88,qM 99 .eql 97 98 88,qc 100 88 99 76,dS 101 100 76,dS 102 0 101,ET 103 102 101,fg 104 1 103 101,gV 105 104 101,dS 106 9 101,gi_ 107 7 105 106 101,
 fg 108 0 107 101,fg 109 3 108 101,gV 110 109 101,dS 111 12 101,rS 112 .eql 110 111 101,dS 113 112 101,dA 114 0 113,AM 115 114 113,dz 116 1 115 113,en 117 116 113,dA 118 10 113,vc 119 7 117 118 113,dz 120 0 119 113,dz 121 3 120 113,en 122 121 113,dA 123 11 113,qM 124 .eql 122 123 113,
 qc 125 113 124 101,gp_ 126 101 125 76,EY 127 126 76,fK 128 76 127] (ct 128 (aM [dr 4,mb 5 false]) .skip)) (.seq (dq [of 129 1 3,dl 130 129 1,dj 131 .add 130 2 3,om 132 6,dt 133 .rem 131 132 15,of 134 2 3,dl 135 134 32,dt 136 .eql 133 135 127,dm 137 136 255,eV 138 2 3 137 511,fl 139 138 137 1023,mS 140 .add 139 2 137 2047,jK 141 6 137 511,sN 142 .rem 140 141 137 8191,eV 143 1 3 137 511,fl 144 143 137 16895,
 sN 145 .eql 142 144 137 65535,iu 146 137 145 131071,dm 147 146 262143,jK 148 0 147 524287,eV 149 1 3 147 524287,fl 150 149 147 1572863,eV 151 2 3 147 524287,fl 152 151 147 4718591,Gz_ 153 (.eW 3776577536 3 1 [.t 150,.t 152]) 147 16252927,xV 154 3776577600 88 [.t 148,.i 0,.t 153] 147 33554431,Gu_ 155 154 147 67108863,iu 156 147 155 134217727] (ct 156 (aM [dr 4,mb 5 false]) .skip)) (aM [om 157 0,on 158 157,of 159 1 158,ol 160 159,
 om 161 11,om 162 12,oo 163 (.eW 3776704384 3 1 [.t 161,.t 162]),oc 164 3776704448 89 [.t 160,.t 163],om 4 164,mb 5 true])))))))))⟩
def i60:aU:=⟨121,[(4,none),(5,none)],(ao [dC 3 3840000000 1,dr 4,mb 5 false] (ao [mi 6 1,oo 7 (.jh (.i (-1)))] (.seq (ao [of 12 4 3,ol 13 12] (ct 13 (rf [mi 6 0]) .skip)) (dq [om 14 0,dX 15 14 1,df 16 3 15 3,dl 17 16 7,of 18 1 3,dl 19 18 16,db 20 .mul (.i 2) (.t 19) 48,om 21 6,dt 22 .add 20 21 240,di 23 1 17 22 511,dl 24 23 1023,dm 8 24 2047] (dq [om 25 0,dX 26 25 1,df 27 3 26 3,dl 28 27 7,of 29 2 3,dl 30 29 16,db 31 .mul (.i 2) (.t 30) 48,om 32 6,dt 33 .add 31 32 240,di 34 1 28 33 511,dl 35 34 1023,om 36 8,dt 37 .eql 35 36 4095,dm 9 37 8191] (.seq (dq [om 38 9,zL 39 38 1,dm 40 39 3,gk 41 0 40 7,zK 42 41 40 15,gG 43 3 42 40 31,fI 44 43 40 63,
 gG 45 2 3 40 7,fI 46 45 40 135,BB 47 (.bin .mul (.i 2) (.t 46)) 40 391,sO 48 .add 47 1 40 903,gk 49 6 40 7,xW 50 .sub 48 49 40 3975,mr 51 1 44 50 40 8191,fI 52 51 40 16383,gk 53 8 40 7,xW 54 .neq 52 53 40 65535,pO 55 40 54 131071] (ct 55 (aM [dr 4,mb 5 false]) .skip)) (.seq (ao [of 56 5 3,ol 57 56,om 58 9,of 59 4 3,ol 60 59,oo 61 (.eqc .bool false (.t 58) (.t 60)),oo 62 (.eqc .bool false (.t 57) (.t 61))] (ct 62 (rf [mi 7 1]) .skip)) (dq [om 63 0,
 om 64 7,of 65 5 3,dl 66 65 4,dc 67 3840640256 90 [.t 63,.i 1,.t 64,.t 66] 15,om 68 0,om 69 7,od 70 (.un .neg (.t 69)) 64,of 71 5 3,dl 72 71 256,dc 73 3840640640 90 [.t 68,.i 2,.t 70,.t 72] 1023,od 74 (.eW 3840640704 74 7 [.t 67,.t 73]) 2047,dm 10 74 4095] (dq [om 75 0,om 76 7,of 77 5 3,dl 78 77 4,zL 79 78 12,dc 80 3840704320 90 [.t 75,.i 1,.t 76,.t 79] 31,om 81 0,om 82 7,od 83 (.un .neg (.t 82)) 128,of 84 5 3,dl 85 84 512,zL 86 85 1536,dc 87 3840704768 90 [.t 81,.i 2,.t 83,.t 86] 4095,od 88 (.eW 3840704832 74 7 [.t 80,.t 87]) 8191,dm 11 88 16383] (.seq (ao [om 89 9] (ct 89 (rf [om 90 11,oc 91 3840832064 92 [.t 90]]) .skip)) (.seq (ao [of 92 1 3,ol 93 92,of 94 2 3,ol 95 94,ot 96 .lss 93 95] (ct 96 (dq [om 97 0,dX 98 97 1,df 99 1 98 3,dl 100 99 7,of 101 2 3,dl 102 101 16,om 103 11,
 dc 104 3840960448 86 [.t 100,.t 102,.t 103] 127,of 105 1 3,dl 106 105 256,om 107 10,dc 108 3840960704 86 [.t 104,.t 106,.t 107] 2047,dm 4 108 4095,od 5 (.jh (.b true)) 8191] .ret) .skip)) (dq [om 109 0,dX 110 109 1,df 111 1 110 3,dl 112 111 7,of 113 1 3,dl 114 113 16,om 115 10,dc 116 3841024448 86 [.t 112,.t 114,.t 115] 127,of 117 2 3,dl 118 117 256,om 119 11,dc 120 3841024704 86 [.t 116,.t 118,.t 119] 2047,dm 4 120 4095,od 5 (.jh (.b true)) 8191] .ret))))))))))))⟩
def i61_l1:aH:=(ao [ot 25 .lss 24 23] (.seq (eD 25) (.seq (.block 1 (ao [oi 26 1 22 24,ol 27 26,om 12 27] (ao [om 29 0,om 30 12,oc 31 3904448128 80 [.t 29,.t 30],om 28 31,oe 32 28 0,oe 33 28 1,om 13 32,om 14 33] (.seq (ao [om 34 0,on 35 34,of 36 1 35,ol 37 36,om 38 13,oi 39 7 37 38,of 40 0 39,of 41 0 40,ol 42 41,oj 43 .neq 42 2,om 44 43,dS 45 0 44,ET 46 45 44,fg 47 1 46 44,gV 48 47 44,dS 49 14 44,gi_ 50 7 48 49 44,fg 51 0 50 44,fg 52 0 51 44,gV 53 52 44,kx 54 .neq 53 2 44,
 fK 55 44 54] (ct 55 (aM [dr 4,mb 5 false]) .skip)) (ao [om 56 7,om 57 13,om 58 14,oo 59 (.eW 3904640192 3 1 [.t 57,.t 58]),lH 60 3904640256 3 1 8 56 59,om 7 60] (dq [om 61 8,om 62 0,dX 63 62 2,df 64 1 63 6,dl 65 64 14,om 66 13,di 67 7 65 66 62,df 68 0 67 126,df 69 3 68 254,dl 70 69 510,om 71 0,dX 72 71 1024,df 73 1 72 3072,dl 74 73 7168,om 75 14,di 76 7 74 75 31744,df 77 0 76 64512,df 78 3 77 130048,dl 79 78 261120,od 80 (.eW 3904705216 3 1 [.t 70,.t 79]) 524286,uW 81 3904705280 3 1 8 61 80 1048575,dm 8 81 2097151] (rf [om 82 9,om 83 82,dS 84 0 83,dS 85 12 83,Ab 86 3904768256 91 [.t 84,.t 85,.b true] 83,
 fK 87 83 86,om 88 10,om 89 88,dS 90 0 89,dS 91 12 89,Ab 92 3904768640 91 [.t 90,.t 91,.b false] 89,fK 93 89 92,om 9 87,om 10 93]))))))) (rf [oj 94 .add 24 1,om 24 94]))))
def i61_r2:aH:=(ao [om 95 7,oc 96 3904896064 93 [.t 95]] (ao [om 97 8,oc 98 3904960064 93 [.t 97]] (.seq (ao [om 99 7,oc 100 3905024064 94 [.t 99],oh 101 100,oj 102 .neq 101 6,om 103 102,dS 104 8 103,Ab 105 3905024384 94 [.t 104] 103,ES 106 105 103,kx 107 .neq 106 3 103,fK 108 103 107,om 109 108,dS 110 9 109,EY 111 110 109,fK 112 109 111,om 113 112,dS 114 10 113,EY 115 114 113,fK 116 113 115,om 117 116,dS 118 0 117,
 dS 119 6 117,Ab 120 3905025344 88 [.t 118,.i 0,.t 119] 117,EY 121 120 117,fK 122 117 121] (ct 122 (aM [dr 4,mb 5 false]) .skip)) (aM [om 123 0,om 124 6,oc 125 3905152128 95 [.t 123,.t 124],om 4 125,mb 5 true]))))
def i61:aU:=⟨126,[(4,none),(5,none)],(ao [dC 3 3904000000 1,dr 4,mb 5 false] (ao [of 15 1 3,ol 16 15,of 17 2 3,ol 18 17,of 19 3 3,ol 20 19,oo 21 (.eW 3904064384 3 1 [.t 16,.t 18,.t 20]),om 6 21] (ao [dr 7,dr 8] (ao [mb 9 false,mb 10 false] (.seq (ao [om 22 6,oh 23 22,mi 24 0] (eh i61_l1)) i61_r2)))))⟩
def i62:aU:=⟨125,[(4,none),(5,none)],(ao [dC 3 3968000000 1,dr 4,mb 5 false] (dq [om 8 0,dX 9 8 1,df 10 1 9 3,dl 11 10 7,of 12 1 3,dl 13 12 16,di 14 7 11 13 63,dx 15 7 14 127,oo 6 (.alloc 3968064512 [il 0,il 0,il 0,il 0,il 0,bK,bK]),fJ 7 6 15 511] (.seq (ao [of 16 0 6,of 17 0 16,ol 18 17,oj 19 .neq 18 1] (ct 19 (aM [dr 4,mb 5 false]) .skip)) (ao [om 20 0,on 21 20,of 22 1 21,ol 23 22,oc 24 3968256256 85 [.t 23],om 7 24] (.seq (.block 0 (dq [of 26 0 3,dl 27 26 1,dj 28 .eql 27 9 3,dm 29 28 7,gG 30 0 6 29 15,gG 31 1 30 29 31,fI 32 31 29 63,gk 33 0 29 15,
 zK 34 33 29 143,gG 35 0 34 29 399,fI 36 35 29 911,xW 37 .lss 32 36 29 2047,pO 38 29 37 4095,dm 39 38 8191,gG 40 0 6 39 16383,gG 41 2 40 39 32767,fI 42 41 39 65535,gk 43 0 39 16383,zK 44 43 39 147455,gG 45 6 44 39 409599,fI 46 45 39 933887,gG 47 0 6 39 16383,gG 48 1 47 39 2113535,fI 49 48 39 6307839,mr 50 1 46 49 39 16662527,
 fI 51 50 39 33439743,xW 52 .eql 42 51 39 67108863,pO 53 39 52 134217727,dm 25 53 268435455] (ct 25 (ao [om 54 7,of 55 0 6,of 56 1 55,ol 57 56,oj 58 .add 57 1,oc 59 3968448320 83 [.t 54,.t 58,.i 0,.i 1]] (rt [om 60 7,of 61 1 3,dl 62 61 2,om 63 7,of 64 1 3,dl 65 64 16,of 66 0 6,df 67 1 66 64,dl 68 67 192,dj 69 .add 68 1 448,di 70 7 60 62 967,df 71 0 70 1991,df 72 1 71 4039,fJ 1 72 69 8135,di 73 7 63 65 16383,df 74 0 73 32767,df 75 2 74 65535,⟨none,.store 1 (.t 75) (.i 1),none,131071⟩])) (ao [of 77 0 3,ol 78 77,oj 79 .eql 78 10,om 80 79,dz 81 0 6 80,dz 82 1 81 80,en 83 82 80,jo 84 .gtr 83 0 80,
 ec 85 80 84,om 86 85,dz 87 0 6 86,dz 88 2 87 86,en 89 88 86,jo 90 .eql 89 1 86,ec 91 86 90,om 76 91] (ct 76 (ao [om 92 7,of 93 0 6,of 94 1 93,ol 95 94,oc 96 3968640256 83 [.t 92,.t 95,.i 1,.i (-1)]] (rt [om 97 7,of 98 1 3,dl 99 98 2,om 100 7,of 101 1 3,dl 102 101 16,of 103 0 6,df 104 1 103 64,dl 105 104 192,dj 106 .sub 105 1 448,om 107 0,dX 108 107 1024,df 109 6 108 3072,dl 110 109 7168,of 111 0 6,df 112 1 111 16384,dl 113 112 49152,dj 114 .sub 113 1 114688,di 115 1 110 114 261120,dl 116 115 523264,dj 117 .add 116 1 1047552,di 118 7 97 99 1048519,df 119 0 118 3145671,df 120 1 119 7339975,fJ 1 120 106 15728583,di 121 7 100 102 33554431,
 df 122 0 121 67108863,df 123 2 122 134217727,fJ 1 123 117 268435455])) (aM [dr 4,mb 5 false])))))) (aM [om 124 7,om 4 124,mb 5 true]))))))⟩
def i63_l1:aH:=(ao [ot 9 .lss 8 7] (.seq (eD 9) (.seq (.block 1 (ao [om 10 8,om 5 10] (ao [om 11 1,om 12 0,om 13 5,oi 14 7 12 13,ox 15 7 14,oo 16 (.call 4032256320 (.t 11) [.t 15])] (ct 16 (aM [om 17 5,om 4 17]) .skip)))) (rf [oj 18 .add 8 1,om 8 18]))))
def i63_r2:aH:=(aM [oo 4 (.jh (.i (-1)))])
def i63:aU:=⟨19,[(4,none)],(ao [mi 4 0] (.seq (ao [om 6 0,oh 7 6,mi 8 0] (eh i63_l1)) i63_r2))⟩
def i64:aU:=⟨11,[(2,none)],(ao [dC 1 4096000000 0,mb 2 false] (aM [of 3 0 1,of 4 0 3,ol 5 4,oj 6 .eql 5 1,om 7 6,dz 8 6 1 7,en 9 8 7,ec 10 7 9,om 2 10]))⟩
def i108:aU:=⟨14,[],(ao [om 5 0,oh 6 5,om 4 6] (rf [om 7 0,om 8 4,om 9 4,oo 10 (.conv .u64 (.t 9)),oc 11 6912064256 121 [.t 10],om 12 1,oc 13 6912064384 129 [.t 7,.i 0,.t 8,.t 11,.t 12]]))⟩
def i110_l1:aH:=(.seq (ao [om 29 5,om 30 4,oh 31 30,ot 32 .lss 29 31] (ct 32 .skip (.exit 2))) (.seq (.block 3 (dq [om 35 4,om 36 5,di 37 2 35 36 3,dx 38 2 37 7,om 39 4,om 40 5,dj 41 .sub 40 1 32,di 42 2 39 41 112,dx 43 2 42 240,od 44 (.eqc (.str [true,true]) true (.t 38) (.t 43)) 511] (ct 44 (ao [om 45 0,om 46 3,om 47 4,om 48 5,oi 49 2 47 48,ox 50 2 49,oi 51 2 45 46,os 2 51 50] (rf [om 52 3,oj 53 .add 52 1,om 3 53])) .skip))) (rf [om 33 5,oj 34 .add 33 1,om 5 34])))
def i110_r2:aH:=(ao [om 54 0,om 55 3,oo 56 (.slice 2 (.t 54) (some (.t 55)) none),op (.clear [il 0,il 0] (.t 56))] (aM [om 57 0,om 58 3,oo 59 (.slice 2 (.t 57) none (some (.t 58))),om 2 59]))
def i110_r3:aH:=(rf [om 14 3,oj 15 .add 14 1,om 3 15])
def i110_l4:aH:=(.seq (ao [om 10 3,om 11 0,oh 12 11,ot 13 .lss 10 12] (eD 13)) (.seq (.block 1 (dq [om 16 0,om 17 3,di 18 2 16 17 3,dx 19 2 18 7,om 20 0,om 21 3,dj 22 .sub 21 1 32,di 23 2 20 22 112,dx 24 2 23 240,od 25 (.eqc (.str [true,true]) false (.t 19) (.t 24)) 511] (ct 25 (ao [om 26 0,om 27 3,oo 28 (.slice 2 (.t 26) (some (.t 27)) none),om 4 28] (.seq (ao [mi 5 1] (.block 2 (.loop i110_l1))) i110_r2)) .skip))) i110_r3))
def i110_r5:aH:=(aM [om 60 0,om 2 60])
def i110:aU:=⟨61,[(2,none)],(ao [dr 2] (.seq (ao [om 6 0,oh 7 6,oj 8 .lss 7 2] (ct 8 (aM [om 9 0,om 2 9]) .skip)) (.seq (ao [mi 3 1] (eh i110_l4)) i110_r5)))⟩
def i111_l1:aH:=(ao [ot 37 .lss 36 35] (.seq (ct 37 .skip (.exit 2)) (.seq (.block 3 (ao [oi 38 1 34 36,ol 39 38,om 12 39] (.seq (ao [om 40 12,oj 41 .quo 40 2,om 42 2,ot 43 .lss 41 42,om 44 43,fg 45 1 9 44,gV 46 45 44,ES 47 46 44,kx 48 .gtr 47 3 44,fK 49 44 48] (ct 49 (.exit 1) .skip)) (rf [om 50 10,om 51 12,oj 52 .quo 51 2,oo 53 (.eW 7104704192 3 1 [.t 52]),lH 54 7104704256 3 1 8 50 53,om 10 54])))) (rf [oj 55 .add 36 1,om 36 55]))))
def i111_r2:aH:=(ao [om 56 10,oc 57 7104832064 93 [.t 56]] (ao [om 58 1,om 59 2,oo 60 (.build [il 0,il 0,il 0,il 0,bK,bK,il 0] [(0,1,.t 58),(1,1,.t 59)]),oo 13 (.alloc 7104896192 [il 0,il 0,il 0,il 0,bK,bK,il 0]),os 7 13 60] (.seq (.block 4 (ao [om 62 10,oh 63 62,oj 64 .eql 63 2,om 65 64,dA 66 1 65,jo 67 .neq 66 8 65,ec 68 65 67,om 61 68] (ct 61 (rf [om 69 10,oo 70 (.mH 1 (.t 69) (.i 1)),ol 71 70,of 72 2 13,os 1 72 71]) (ao [om 74 10,oh 75 74,oj 76 .eql 75 3,om 77 76,dA 78 1 77,jo 79 .eql 78 8 77,ec 80 77 79,om 73 80] (ct 73 (rt [om 81 10,od 82 (.mH 1 (.t 81) (.i 1)) 1,dl 83 82 3,
 om 84 10,od 85 (.mH 1 (.t 84) (.i 2)) 8,dl 86 85 24,df 87 2 13 7,fJ 1 87 83 71,df 88 3 13 255,fJ 1 88 86 511]) (.exit 1)))))) (ao [om 89 7,ox 90 7 13,oc 91 7105216128 130 [.t 89,.t 90],kE 92 91] (ct 92 (rf [om 93 7,ox 94 7 13,oo 95 (.eW 7105280128 29 7 [.t 94]),lH 96 7105280192 29 7 48 93 95,om 7 96]) .skip)))))
def i111_r3:aH:=(rf [oj 97 .add 14 1,om 14 97])
def i111_l4:aH:=(ao [oj 15 .lss 14 2] (.seq (eD 15) (.seq (.block 1 (ao [om 16 14,om 8 16] (dq [om 17 0,dX 18 17 1,df 19 2 18 3,dl 20 19 7,om 21 0,dX 22 21 16,df 23 3 22 48,dl 24 23 112,om 25 2,db 26 .mul (.i 2) (.t 25) 256,om 27 8,dt 28 .add 26 27 1792,di 29 1 24 28 4080,dl 30 29 8176,di 31 5 20 30 16383,dx 32 5 31 32767,oo 9 (.alloc 7104321024 [bK,.nils,.nils,.nils,bK]),fJ 5 9 32 131071] (ao [dr 10] (.seq (ao [of 33 1 9,ol 34 33,oh 35 34,mi 36 0] (.block 2 (.loop i111_l1))) i111_r2))))) i111_r3)))
def i111_r5:aH:=(ao [om 98 7,oc 99 7105408064 131 [.t 98,.k (.one (.p (.fn 132 [] [])))]] (aM [om 100 7,om 6 100]))
def i111:aU:=⟨101,[(6,none)],(ao [dr 6] (ao [dr 7] (.seq .skip (.seq (ao [mi 14 0] (eh i111_l4)) i111_r5))))⟩
def i77:aU:=⟨98,[(4,none),(5,none)],(ao [dr 4,dr 5] (ao [om 14 0,on 15 14,of 16 3 15,ol 17 16,oh 18 17,om 6 18] (dq [om 19 0,dX 20 19 1,df 21 0 20 3,df 22 1 21 7,dl 23 22 15,om 24 0,dX 25 24 32,df 26 3 25 96,dl 27 26 224,om 28 1,di 29 1 27 28 992,dl 30 29 2016,di 31 6 23 30 4095,dx 32 6 31 8191,om 33 0,dX 34 33 16384,df 35 0 34 49152,df 36 1 35 114688,dl 37 36 245760,om 38 0,dX 39 38 524288,df 40 3 39 1572864,dl 41 40 3670016,om 42 1,dj 43 .add 42 1 8388608,om 44 6,dt 45 .rem 43 44 58720256,di 46 1 41 45 133693440,dl 47 46 267911168,di 48 6 37 47 536854528,dx 49 6 48 1073725440,oo 7 (.alloc 4928129984 [il 0,il 0,il 0,il 0,il 0,bK]),oo 8 (.alloc 4928130048 [il 0,il 0,il 0,il 0,il 0,bK]),fJ 6 7 32 6442467327,
 fJ 6 8 49 17179869183] (ao [of 50 1 7,ol 51 50,of 52 2 7,ol 53 52,oo 54 (.build [il 0,il 0] [(0,1,.t 51),(1,1,.t 53)]),oo 9 (.alloc 4928192320 [il 0,il 0]),os 2 9 54] (ao [of 55 1 8,ol 56 55,of 57 2 8,ol 58 57,oj 59 .sub 58 1,oo 60 (.build [il 0,il 0] [(0,1,.t 56),(1,1,.t 59)]),oo 10 (.alloc 4928256384 [il 0,il 0]),os 2 10 60] (.seq (ao [om 61 1,om 62 6,oj 63 .sub 62 1,ot 64 .lss 61 63] (ct 64 (aM [ox 65 2 9,ox 66 2 10,oc 67 4928384128 114 [.t 65,.t 66,.k (.one (.p (.nils))),.k (.one (.p (.nils)))],oe 68 67 0,oe 69 67 1,om 4 68,om 5 69]) .skip)) (ao [om 70 0,on 71 70,of 72 0 71,of 73 0 72,ol 74 73,oo 75 (.build [il 0,il 0] [(0,1,.t 74)]),oo 11 (.alloc 4928448384 [il 0,il 0]),os 2 11 75] (.seq (dq [of 76 1 7,dl 77 76 1,om 78 0,dX 79 78 4,df 80 0 79 12,df 81 0 80 28,dl 82 81 60,
 dt 83 .eql 77 82 127] (ct 83 (rf [ox 84 2 9,os 2 11 84]) .skip)) (ao [ox 86 2 9,ox 87 2 11,oc 88 4928640128 114 [.t 86,.t 87,.k (.one (.p (.nils))),.k (.one (.p (.nils)))],om 85 88,oe 89 85 0,oe 90 85 1,om 12 89,om 13 90] (aM [oo 91 (.build [il 0,il 0] []),ox 92 2 10,om 93 12,om 94 13,oc 95 4928704256 114 [.t 91,.t 92,.t 93,.t 94],oe 96 95 0,oe 97 95 1,om 4 96,om 5 97]))))))))))⟩
def i78_l1:aH:=(.seq (ao [om 7 2,om 8 3,ot 9 .lss 7 8] (eD 9)) (.seq (.block 1 (rt [om 14 0,om 15 2,om 16 0,om 17 3,om 18 0,om 19 3,di 20 2 18 19 48,dx 21 2 20 112,om 22 0,om 23 2,di 24 2 22 23 768,dx 25 2 24 1792,di 26 2 14 15 4083,fJ 2 26 21 8179,di 27 2 16 17 16383,fJ 2 27 25 32767])) (rf [om 10 2,oj 11 .add 10 1,om 12 3,oj 13 .sub 12 1,om 2 11,om 3 13])))
def i78:aU:=⟨28,[],(ao [om 4 0,oh 5 4,oj 6 .sub 5 1,mi 2 0,om 3 6] (eh i78_l1))⟩
def i79_l1:aH:=(.seq (ao [om 7 2,om 8 3,ot 9 .lss 7 8] (eD 9)) (.seq (.block 1 (rt [om 14 0,om 15 2,om 16 0,om 17 3,om 18 0,om 19 3,di 20 1 18 19 48,dl 21 20 112,om 22 0,om 23 2,di 24 1 22 23 768,dl 25 24 1792,di 26 1 14 15 4083,fJ 1 26 21 8179,di 27 1 16 17 16383,fJ 1 27 25 32767])) (rf [om 10 2,oj 11 .add 10 1,om 12 3,oj 13 .sub 12 1,om 2 11,om 3 13])))
def i79:aU:=⟨28,[],(ao [om 4 0,oh 5 4,oj 6 .sub 5 1,mi 2 0,om 3 6] (eh i79_l1))⟩
def i80:aU:=⟨15,[(4,none),(5,none)],(ao [mi 4 0,mi 5 0] (dq [om 6 1,om 7 1,dj 8 .add 7 1 2,om 9 0,dX 10 9 8,df 11 1 10 24,dl 12 11 56,tT 13 12 120,dt 14 .rem 8 13 254,dm 4 6 1,dm 5 14 1023] .ret))⟩
def i81_l1:aH:=(ao [ot 11 .lss 10 9] (.seq (eD 11) (.seq (.block 1 (ao [om 12 10,oi 13 7 8 10,ox 14 7 13,oo 7 (.alloc 5184256192 [il 0,il 0,il 0,il 0,il 0,bK,bK]),om 6 12,os 7 7 14] (ao [om 15 1,om 16 6,ox 17 7 7,oo 18 (.call 5184320192 (.t 15) [.t 16,.t 17]),kE 19 18] (ct 19 (rf [om 20 5,ox 21 7 7,oo 22 (.eW 5184384128 74 7 [.t 21]),lH 23 5184384192 74 7 56 20 22,om 5 23]) .skip)))) (rf [oj 24 .add 10 1,om 10 24]))))
def i81_r2:aH:=(aM [om 25 5,om 4 25])
def i81:aU:=⟨26,[(4,none)],(ao [dr 4] (ao [dr 5] (.seq (ao [om 8 0,oh 9 8,mi 10 0] (eh i81_l1)) i81_r2)))⟩
def i83_l1:aH:=(ao [ot 12 .lss 11 10] (.seq (eD 12) (.seq (.block 1 (ao [om 13 11,om 8 13] (ao [om 14 0,om 15 8,oi 16 7 14 15,of 17 0 16,of 18 0 17,ol 19 18,oj 20 .eql 19 1,om 21 20,dA 22 0 21,dA 23 8 21,vc 24 7 22 23 21,dz 25 0 24 21,dz 26 1 25 21,en 27 26 21,dA 28 1 21,qM 29 .eql 27 28 21,ec 30 21 29,om 31 30,dA 32 0 31,dA 33 8 31,vc 34 7 32 33 31,dz 35 0 34 31,
 dz 36 2 35 31,en 37 36 31,dA 38 2 31,qM 39 .gtr 37 38 31,ec 40 31 39] (ct 40 (rf [om 41 0,om 42 8,oi 43 7 41 42,of 44 0 43,of 45 2 44,ol 46 45,om 47 3,ot 48 .add 46 47,oi 49 7 41 42,of 50 0 49,of 51 2 50,os 1 51 48]) .skip)))) (rf [oj 52 .add 11 1,om 11 52]))))
def i83:aU:=⟨53,[],(ao [om 9 0,oh 10 9,mi 11 0] (eh i83_l1))⟩
def i82:aU:=⟨15,[(6,none)],(ao [dC 5 5248000000 1,mb 6 false] (aM [om 7 0,ol 8 2,ot 9 .eql 7 8,om 10 9,dS 11 0 10,gV 12 3 10,rS 13 .eql 11 12 10,fK 14 10 13,om 6 14]))⟩
def i84:aU:=⟨9,[(4,none)],(ao [dC 3 5376000000 1,mb 4 false] (aM [om 5 0,ox 6 2 3,oc 7 5376064128 115 [.t 5,.t 6],oj 8 .geq 7 0,om 4 8]))⟩
def i85:aU:=⟨8,[(2,none)],(ao [dr 2] (.seq (ao [om 3 0,oo 4 (.eqc .slc false (.t 3) (.k (.one (.p (.nils)))))] (ct 4 (aM [dr 2]) .skip)) (aM [oo 5 (.eW 5440192000 74 7 []),om 6 0,lH 7 5440192128 74 7 56 5 6,om 2 7])))⟩
def i86:aU:=⟨22,[(6,none)],(ao [dr 6] (ao [om 8 0,om 9 1,oj 10 .add 9 1,oo 11 (.slice 7 (.t 8) none (some (.t 10))),oo 12 (.append 5504064256 74 7 56 (.k (.one (.p (.nils)))) (.t 11)),om 7 12] (ao [om 13 7,om 14 2,lH 15 5504128128 74 7 56 13 14,om 7 15] (aM [om 16 7,om 17 0,om 18 1,oj 19 .add 18 1,oo 20 (.slice 7 (.t 17) (some (.t 19)) none),lH 21 5504192320 74 7 56 16 20,om 6 21]))))⟩
def i87:aU:=⟨51,[(4,none),(5,none),(6,none)],(ao [mi 4 0,mi 5 0,mb 6 false] (ao [om 10 0,om 11 1,oc 12 5568064128 80 [.t 10,.t 11],om 9 12,oe 13 9 0,oe 14 9 1,om 7 13,om 8 14] (.seq (ao [om 15 0,on 16 15,of 17 1 16,ol 18 17,om 19 7,oi 20 7 18 19,of 21 0 20,of 22 0 21,ol 23 22,oj 24 .eql 23 2] (ct 24 (rf [om 25 8,om 26 7,om 7 25,om 8 26]) .skip)) (dq [om 27 7,om 28 8,om 29 0,dX 30 29 4,df 31 1 30 12,dl 32 31 28,om 33 7,di 34 7 32 33 124,df 35 0 34 252,df 36 0 35 508,dl 37 36 1020,dj 38 .eql 37 1 2044,dm 39 38 4092,gk 40 0 39 8188,zK 41 40 39 16380,gG 42 1 41 39 32764,fI 43 42 39 65532,gk 44 8 39 8188,mr 45 7 43 44 39 262140,
 gG 46 0 45 39 524284,gG 47 0 46 39 1048572,fI 48 47 39 2097148,sO 49 .eql 48 2 39 4194300,pO 50 39 49 8388604,dm 4 27 8189,dm 5 28 16785407,dm 6 50 67108863] .ret))))⟩
def i88:aU:=⟨31,[(6,none)],(ao [dC 3 5632000000 0,dC 4 5632000064 1,dC 5 5632000128 2,mb 6 false] (dq [ol 7 3,dX 8 7 1,df 9 3 8 3,dl 10 9 7,ol 11 5,od 12 (.mH 1 (.t 11) (.i 0)) 16,dl 13 12 48,db 14 .mul (.i 2) (.t 13) 112,di 15 1 10 14 255,dl 16 15 511,ol 17 3,dX 18 17 1024,df 19 3 18 3072,dl 20 19 7168,ol 21 5,od 22 (.mH 1 (.t 21) (.i 0)) 16384,dl 23 22 49152,db 24 .mul (.i 2) (.t 23) 114688,dj 25 .add 24 1 245760,di 26 1 20 25 523264,dl 27 26 1047552,od 28 (.eW 5632065344 3 1 [.t 16,.t 27]) 2097151,oo 29 (.mkfn 117 [] [.t 3,.t 5,.t 4]),dc 30 5632065472 116 [.t 28,.t 29] 8388607,dm 6 30 16777215] .ret))⟩
def i89_l1:aH:=(ao [ot 27 .lss 26 25] (.seq (ct 27 .skip (.exit 2)) (.seq (.block 3 (ao [oi 28 1 24 26,ol 29 28,om 9 29] (ao [of 30 0 7,of 31 3 30,ol 32 31,om 33 9,ot 34 .gtr 32 33] (ct 34 (rf [om 35 5,om 36 6,oi 37 7 35 36,of 38 0 37,of 39 3 38,ol 40 39,oj 41 .sub 40 1,oi 42 7 35 36,of 43 0 42,of 44 3 43,os 1 44 41]) .skip)))) (rf [oj 45 .add 26 1,om 26 45]))))
def i89_r2:aH:=(rf [oj 46 .add 15 1,om 15 46])
def i89_l3:aH:=(ao [ot 16 .lss 15 14] (.seq (eD 16) (.seq (.block 1 (ao [om 17 15,oi 18 7 13 15,ox 19 7 18,oo 7 (.alloc 5696256192 [il 0,il 0,il 0,il 0,il 0,bK,bK]),om 6 17,os 7 7 19] (.seq (ao [of 20 0 7,of 21 0 20,ol 22 21,oj 23 .neq 22 2] (ct 23 (.exit 1) .skip)) (ao [ol 24 3,oh 25 24,mi 26 0] (.block 2 (.loop i89_l1)))))) i89_r2)))
def i89_r4:aH:=(aM [om 47 5,om 4 47])
def i89:aU:=⟨48,[(4,none)],(ao [dC 3 5696000000 1,dr 4] (ao [om 10 0,oo 11 (.mkfn 118 [] [.t 3]),oc 12 5696064128 81 [.t 10,.t 11],om 5 12] (.seq (ao [om 13 5,oh 14 13,mi 15 0] (eh i89_l3)) i89_r4)))⟩
def i90:aU:=⟨19,[(8,some (some 7))],(ao [oo 8 (.alloc 5760000000 [il 0,il 0,il 0,il 0,il 0,bK,bK])] (aM [om 9 0,on 10 9,of 11 5 10,ol 12 11,om 13 1,ot 14 .add 12 13,om 15 2,om 16 3,oo 17 (.build [il 0,il 0,il 0,il 0,il 0,bK] [(0,1,.i 2),(3,1,.t 14),(4,1,.t 15),(5,1,.t 16)]),oo 18 (.build [il 0,il 0,il 0,il 0,il 0,bK,bK] [(0,6,.t 17)]),os 7 8 18]))⟩
def i91:aU:=⟨63,[(6,none)],(ao [mb 6 false] (ao [om 10 0,om 11 1,oc 12 5824064128 80 [.t 10,.t 11],om 9 12,oe 13 9 0,oe 14 9 1,om 7 13,om 8 14] (aM [om 15 0,on 16 15,of 17 1 16,ol 18 17,om 19 7,oi 20 7 18 19,of 21 0 20,of 22 0 21,ol 23 22,oj 24 .eql 23 2,om 25 24,dA 26 0 25,AM 27 26 25,dz 28 1 27 25,en 29 28 25,dA 30 8 25,vc 31 7 29 30 25,dz 32 0 31 25,dz 33 0 32 25,en 34 33 25,jo 35 .eql 34 2 25,ec 36 25 35,om 37 36,dA 38 0 37,
 AM 39 38 37,dz 40 1 39 37,en 41 40 37,dA 42 7 37,vc 43 7 41 42 37,dz 44 0 43 37,dz 45 5 44 37,en 46 45 37,dA 47 2 37,xk 48 (.eqc .bool false (.t 46) (.t 47)) 37,ec 49 37 48,om 50 49,dA 51 0 50,AM 52 51 50,dz 53 1 52 50,en 54 53 50,dA 55 8 50,vc 56 7 54 55 50,dz 57 0 56 50,
 dz 58 5 57 50,en 59 58 50,dA 60 2 50,xk 61 (.eqc .bool false (.t 59) (.t 60)) 50,ec 62 50 61,om 6 62])))⟩
def i92_l1:aH:=(.seq (ao [om 7 2,om 8 3,ot 9 .lss 7 8] (eD 9)) (.seq (.block 1 (rt [om 14 0,om 15 2,om 16 0,om 17 3,om 18 0,om 19 3,di 20 7 18 19 48,dx 21 7 20 112,om 22 0,om 23 2,di 24 7 22 23 768,dx 25 7 24 1792,di 26 7 14 15 4083,fJ 7 26 21 8179,di 27 7 16 17 16383,fJ 7 27 25 32767])) (rf [om 10 2,oj 11 .add 10 1,om 12 3,oj 13 .sub 12 1,om 2 11,om 3 13])))
def i92:aU:=⟨28,[],(ao [om 4 0,oh 5 4,oj 6 .sub 5 1,mi 2 0,om 3 6] (eh i92_l1))⟩
def i93:aU:=⟨11,[],(ao [om 3 0,oh 4 3,om 2 4] (rf [om 5 0,om 6 2,om 7 2,oo 8 (.conv .u64 (.t 7)),oc 9 5952064256 121 [.t 8],oc 10 5952064320 120 [.t 5,.i 0,.t 6,.t 9]]))⟩
def i94_l1:aH:=(.seq (ao [om 29 5,om 30 4,oh 31 30,ot 32 .lss 29 31] (ct 32 .skip (.exit 2))) (.seq (.block 3 (dq [om 35 4,om 36 5,di 37 1 35 36 3,dl 38 37 7,om 39 4,om 40 5,dj 41 .sub 40 1 32,di 42 1 39 41 112,dl 43 42 240,dt 44 .neq 38 43 511] (ct 44 (ao [om 45 0,om 46 3,om 47 4,om 48 5,oi 49 1 47 48,ol 50 49,oi 51 1 45 46,os 1 51 50] (rf [om 52 3,oj 53 .add 52 1,om 3 53])) .skip))) (rf [om 33 5,oj 34 .add 33 1,om 5 34])))
def i94_r2:aH:=(ao [om 54 0,om 55 3,oo 56 (.slice 1 (.t 54) (some (.t 55)) none),op (.clear [il 0] (.t 56))] (aM [om 57 0,om 58 3,oo 59 (.slice 1 (.t 57) none (some (.t 58))),om 2 59]))
def i94_r3:aH:=(rf [om 14 3,oj 15 .add 14 1,om 3 15])
def i94_l4:aH:=(.seq (ao [om 10 3,om 11 0,oh 12 11,ot 13 .lss 10 12] (eD 13)) (.seq (.block 1 (dq [om 16 0,om 17 3,di 18 1 16 17 3,dl 19 18 7,om 20 0,om 21 3,dj 22 .sub 21 1 32,di 23 1 20 22 112,dl 24 23 240,dt 25 .eql 19 24 511] (ct 25 (ao [om 26 0,om 27 3,oo 28 (.slice 1 (.t 26) (some (.t 27)) none),om 4 28] (.seq (ao [mi 5 1] (.block 2 (.loop i94_l1))) i94_r2)) .skip))) i94_r3))
def i94_r5:aH:=(aM [om 60 0,om 2 60])
def i94:aU:=⟨61,[(2,none)],(ao [dr 2] (.seq (ao [om 6 0,oh 7 6,oj 8 .lss 7 2] (ct 8 (aM [om 9 0,om 2 9]) .skip)) (.seq (ao [mi 3 1] (eh i94_l4)) i94_r5)))⟩
def i95_l1:aH:=(ao [ot 18 .lss 17 16] (.seq (eD 18) (.seq (.block 1 (ao [oi 19 1 15 17,ol 20 19,om 7 20] (ao [om 22 0,om 23 7,oc 24 6080320128 80 [.t 22,.t 23],om 21 24,oe 25 21 0,oe 26 21 1,om 8 25,om 9 26] (rt [om 27 5,om 28 8,om 29 5,om 30 9,om 31 5,om 32 9,di 33 7 31 32 48,dx 34 7 33 112,om 35 5,om 36 8,di 37 7 35 36 768,dx 38 7 37 1792,di 39 7 27 28 4083,fJ 7 39 34 8179,di 40 7 29 30 16383,fJ 7 40 38 32767])))) (rf [oj 41 .add 17 1,om 17 41]))))
def i95_r2:aH:=(aM [om 42 5,om 4 42])
def i95:aU:=⟨43,[(4,none)],(ao [dr 4] (ao [om 10 0,on 11 10,of 12 1 11,ol 13 12,oc 14 6080064256 85 [.t 13],om 5 14] (.seq (ao [om 15 1,oh 16 15,mi 17 0] (eh i95_l1)) i95_r2)))⟩
def i130:aU:=⟨9,[(4,none)],(ao [dC 3 8320000000 1,mb 4 false] (aM [om 5 0,ox 6 7 3,oc 7 8320064128 156 [.t 5,.t 6],oj 8 .geq 7 0,om 4 8]))⟩
def i131:aU:=⟨14,[],(ao [om 5 0,oh 6 5,om 4 6] (rf [om 7 0,om 8 4,om 9 4,oo 10 (.conv .u64 (.t 9)),oc 11 8384064256 121 [.t 10],om 12 1,oc 13 8384064384 157 [.t 7,.i 0,.t 8,.t 11,.t 12]]))⟩
def i132:aU:=⟨20,[(4,none)],(ao [dC 2 8448000000 0,dC 3 8448000064 1,mi 4 0] (.seq (ao [of 5 2 2,ol 6 5,of 7 2 3,ol 8 7,ot 9 .neq 6 8] (ct 9 (aM [of 10 2 2,ol 11 10,of 12 2 3,ol 13 12,ot 14 .sub 11 13,om 4 14]) .skip)) (aM [of 15 3 2,ol 16 15,of 17 3 3,ol 18 17,ot 19 .sub 16 18,om 4 19])))⟩
def i114_l1:aH:=(.seq (ao [of 10 0 4,ol 11 10,of 12 0 5,ol 13 12,ot 14 .lss 11 13] (eD 14)) (.block 1 (ao [om 15 2,ox 16 2 4,oo 17 (.eW 7296128128 127 2 [.t 16]),lH 18 7296128192 127 2 16 15 17,om 2 18] (ao [of 19 0 4,ol 20 19,oj 21 .add 20 1,oo 22 (.build [il 0,il 0] [(0,1,.t 21)]),os 2 4 22] (rf [om 23 3,of 24 0 4,ol 25 24,oo 26 (.eW 7296256192 3 1 [.t 25]),lH 27 7296256256 3 1 8 23 26,om 3 27])))))
def i114_r2:aH:=(aM [om 28 2,ox 29 2 5,oo 30 (.eW 7296320128 127 2 [.t 29]),lH 31 7296320192 127 2 16 28 30,om 32 3,om 8 31,om 9 32])
def i114:aU:=⟨33,[(8,none),(9,none)],(ao [dC 4 7296000000 0,dC 5 7296000064 1,dr 8,dr 9] (.seq (eh i114_l1) i114_r2))⟩
def i115_l1:aH:=(ao [ot 9 .lss 8 7] (.seq (eD 9) (.seq (.block 1 (ao [om 10 8,om 5 10] (dq [ox 11 2 3,om 12 0,om 13 5,di 14 2 12 13 6,dx 15 2 14 14,od 16 (.eqc (.str [true,true]) false (.t 11) (.t 15)) 31] (ct 16 (aM [om 17 5,om 4 17]) .skip)))) (rf [oj 18 .add 8 1,om 8 18]))))
def i115_r2:aH:=(aM [oo 4 (.jh (.i (-1)))])
def i115:aU:=⟨19,[(4,none)],(ao [dC 3 7360000000 1,mi 4 0] (.seq (ao [om 6 0,oh 7 6,mi 8 0] (eh i115_l1)) i115_r2))⟩
def i116:aU:=⟨9,[(4,none)],(ao [mb 4 false] (aM [om 5 0,om 6 1,oc 7 7424064128 133 [.t 5,.t 6],oj 8 .geq 7 0,om 4 8]))⟩
def i117_l1:aH:=(ao [ot 42 .lss 41 40] (.seq (ct 42 .skip (.exit 2)) (.seq (.block 3 (ao [oi 43 1 39 41,ol 44 43,om 11 44] (ao [om 45 11,oj 46 .quo 45 2,om 47 8,ot 48 .eql 46 47] (ct 48 (rf [om 49 9,oj 50 .add 49 1,om 9 50]) .skip)))) (rf [oj 51 .add 41 1,om 41 51]))))
def i117_r2:aH:=(ao [om 52 9,oj 53 .neq 52 1] (ct 53 (aM [mb 5 false]) .skip))
def i117_r3:aH:=(rf [oj 54 .add 34 1,om 34 54])
def i117_l4:aH:=(ao [ot 35 .lss 34 33] (.seq (eD 35) (.seq (.block 1 (ao [oi 36 1 32 34,ol 37 36,om 8 37] (ao [mi 9 0] (.seq (ao [of 38 1 6,ol 39 38,oh 40 39,mi 41 0] (.block 2 (.loop i117_l1))) i117_r2)))) i117_r3)))
def i117_r5:aH:=(aM [mb 5 true])
def i117:aU:=⟨55,[(5,none)],(ao [mb 5 false] (ao [ol 12 1,on 13 12,of 14 2 13,ol 15 14,om 16 0,oi 17 5 15 16,ox 18 5 17,oo 6 (.alloc 7488064448 [bK,.nils,.nils,.nils,bK]),os 5 6 18] (.seq (ao [of 19 1 6,ol 20 19,oh 21 20,ol 22 2,oh 23 22,ot 24 .neq 21 23,om 25 24,fg 26 2 6 25,gV 27 26 25,ES 28 27 25,gV 29 3 25,rS 30 .neq 28 29 25,fK 31 25 30] (ct 31 (aM [mb 5 false]) .skip)) (.seq (ao [ol 32 2,oh 33 32,mi 34 0] (eh i117_l4)) i117_r5))))⟩
def i118:aU:=⟨17,[(5,none)],(ao [dC 4 7552000000 1,mb 5 false] (aM [of 6 0 4,of 7 0 6,ol 8 7,oj 9 .eql 8 2,om 10 9,en 11 2 10,dz 12 0 4 10,dz 13 3 12 10,en 14 13 10,rY 15 7552064576 119 [.t 11,.t 14] 10,ec 16 10 15,om 5 16]))⟩
def i120_l1:aH:=(.block 1 (ao [om 19 2,om 20 1,ot 21 .sub 19 20,om 10 21] (.seq (ao [om 22 10,oj 23 .leq 22 12] (ct 23 (aM [om 24 0,om 25 1,om 26 2,oc 27 7680256192 135 [.t 24,.t 25,.t 26]]) .skip)) (.seq (ao [om 28 3,oj 29 .eql 28 0] (ct 29 (aM [om 30 0,om 31 1,om 32 2,oc 33 7680384192 136 [.t 30,.t 31,.t 32]]) .skip)) (.seq (ao [om 34 8,kE 35 34] (ct 35 (ao [om 36 0,om 37 1,om 38 2,oc 39 7680512192 137 [.t 36,.t 37,.t 38]] (rf [om 40 3,oj 41 .sub 40 1,om 3 41])) .skip)) (ao [om 43 0,om 44 1,om 45 2,oc 46 7680640192 138 [.t 43,.t 44,.t 45],om 42 46,oe 47 42 0,oe 48 42 1,om 11 47,om 12 48] (.seq (ao [om 49 12,oj 50 .eql 49 2] (ct 50 (ao [om 51 0,om 52 1,om 53 2,oc 54 7680768192 139 [.t 51,.t 52,.t 53]] (ao [om 55 2,oj 56 .sub 55 1,
 om 57 11,om 58 1,ot 59 .sub 57 58,ot 60 .sub 56 59,om 11 60] (rf [mi 12 1]))) .skip)) (.seq (ao [om 61 8,om 62 61,dA 63 9 62,ec 64 62 63,om 65 64,dA 66 12 65,jo 67 .eql 66 1 65,ec 68 65 67] (ct 68 (ao [om 69 0,om 70 1,om 71 2,oc 72 7681024192 140 [.t 69,.t 70,.t 71]] (ct 72 .ret .skip)) .skip)) (.seq (dq [om 73 1,dj 74 .gtr 73 0 1,dm 75 74 3,gk 76 0 75 7,gk 77 1 75 7,sO 78 .sub 77 1 75 23,mr 79 1 76 78 75 63,fI 80 79 75 127,gk 81 0 75 7,gk 82 11 75 7,
 mr 83 1 81 82 75 775,fI 84 83 75 1799,Hc_ 85 7681088768 141 [.t 80,.t 84] 75 4095,Hu_ 86 85 75 8191,pO 87 75 86 16383] (ct 87 (ao [om 88 0,om 89 1,om 90 2,om 91 11,oc 92 7681152256 142 [.t 88,.t 89,.t 90,.t 91],om 13 92] (ao [om 93 13,om 1 93] (.exit 1))) .skip)) (ao [om 95 0,om 96 1,om 97 2,om 98 11,oc 99 7681280256 143 [.t 95,.t 96,.t 97,.t 98],om 94 99,oe 100 94 0,oe 101 94 1,om 14 100,om 15 101] (ao [om 102 15,om 9 102] (ao [om 103 14,om 104 1,ot 105 .sub 103 104,om 106 2,om 107 14,ot 108 .sub 106 107,om 16 105,om 17 108] (ao [om 109 10,oj 110 .quo 109 8,om 18 110] (ao [om 111 16,om 112 17,ot 113 .lss 111 112] (ct 113 (ao [om 114 16,
 om 115 18,ot 116 .geq 114 115,om 8 116] (ao [om 117 0,om 118 1,om 119 14,om 120 3,oc 121 7681664256 120 [.t 117,.t 118,.t 119,.t 120]] (rf [om 122 14,oj 123 .add 122 1,om 1 123]))) (ao [om 124 17,om 125 18,ot 126 .geq 124 125,om 8 126] (ao [om 127 0,om 128 14,oj 129 .add 128 1,om 130 2,om 131 3,oc 132 7681856320 120 [.t 127,.t 129,.t 130,.t 131]] (rf [om 133 14,om 2 133]))))))))))))))))))
def i120:aU:=⟨134,[],(ao [mb 8 true] (ao [mb 9 true] (eh i120_l1)))⟩
def i156_l1:aH:=(ao [ot 9 .lss 8 7] (.seq (eD 9) (.seq (.block 1 (ao [om 10 8,om 5 10] (dq [ox 11 7 3,om 12 0,om 13 5,di 14 7 12 13 6,dx 15 7 14 14,od 16 (.eqc (.str [true,true,true,true,false,false,true]) false (.t 11) (.t 15)) 31] (ct 16 (aM [om 17 5,om 4 17]) .skip)))) (rf [oj 18 .add 8 1,om 8 18]))))
def i156_r2:aH:=(aM [oo 4 (.jh (.i (-1)))])
def i156:aU:=⟨19,[(4,none)],(ao [dC 3 9984000000 1,mi 4 0] (.seq (ao [om 6 0,oh 7 6,mi 8 0] (eh i156_l1)) i156_r2))⟩
def i157_l1:aH:=(.block 1 (ao [om 21 2,om 22 1,ot 23 .sub 21 22,om 12 23] (.seq (ao [om 24 12,oj 25 .leq 24 12] (ct 25 (aM [om 26 0,om 27 1,om 28 2,om 29 4,oc 30 10048256256 167 [.t 26,.t 27,.t 28,.t 29]]) .skip)) (.seq (ao [om 31 3,oj 32 .eql 31 0] (ct 32 (aM [om 33 0,om 34 1,om 35 2,om 36 4,oc 37 10048384256 168 [.t 33,.t 34,.t 35,.t 36]]) .skip)) (.seq (ao [om 38 10,kE 39 38] (ct 39 (ao [om 40 0,om 41 1,om 42 2,om 43 4,oc 44 10048512256 169 [.t 40,.t 41,.t 42,.t 43]] (rf [om 45 3,oj 46 .sub 45 1,om 3 46])) .skip)) (ao [om 48 0,om 49 1,om 50 2,om 51 4,oc 52 10048640256 170 [.t 48,.t 49,.t 50,.t 51],om 47 52,oe 53 47 0,oe 54 47 1,om 13 53,om 14 54] (.seq (ao [om 55 14,oj 56 .eql 55 2] (ct 56 (ao [om 57 0,om 58 1,om 59 2,om 60 4,oc 61 10048768256 171 [.t 57,.t 58,.t 59,.t 60]] (ao [om 62 2,
 oj 63 .sub 62 1,om 64 13,om 65 1,ot 66 .sub 64 65,ot 67 .sub 63 66,om 13 67] (rf [mi 14 1]))) .skip)) (.seq (ao [om 68 10,om 69 68,dA 70 11 69,ec 71 69 70,om 72 71,dA 73 14 72,jo 74 .eql 73 1 72,ec 75 72 74] (ct 75 (ao [om 76 0,om 77 1,om 78 2,om 79 4,oc 80 10049024256 172 [.t 76,.t 77,.t 78,.t 79]] (ct 80 .ret .skip)) .skip)) (.seq (dq [om 81 1,dj 82 .gtr 81 0 1,dm 83 82 3,gk 84 4 83 7,gk 85 0 83 7,gk 86 1 83 7,sO 87 .sub 86 1 83 39,mr 88 7 85 87 83 119,BA 89 7 88 83 247,
 gk 90 0 83 7,gk 91 13 83 7,mr 92 7 90 91 83 1543,BA 93 7 92 83 3591,BB 94 (.call 10049088832 (.t 84) [.t 89,.t 93]) 83 8191,sO 95 .lss 94 0 83 16383,Hu_ 96 95 83 32767,pO 97 83 96 65535] (ct 97 (ao [om 98 0,om 99 1,om 100 2,om 101 13,om 102 4,oc 103 10049152320 173 [.t 98,.t 99,.t 100,.t 101,.t 102],om 15 103] (ao [om 104 15,om 1 104] (.exit 1))) .skip)) (ao [om 106 0,om 107 1,om 108 2,om 109 13,om 110 4,oc 111 10049280320 174 [.t 106,.t 107,.t 108,.t 109,.t 110],om 105 111,oe 112 105 0,oe 113 105 1,om 16 112,om 17 113] (ao [om 114 17,om 11 114] (ao [om 115 16,om 116 1,
 ot 117 .sub 115 116,om 118 2,om 119 16,ot 120 .sub 118 119,om 18 117,om 19 120] (ao [om 121 12,oj 122 .quo 121 8,om 20 122] (ao [om 123 18,om 124 19,ot 125 .lss 123 124] (ct 125 (ao [om 126 18,om 127 20,ot 128 .geq 126 127,om 10 128] (ao [om 129 0,om 130 1,om 131 16,om 132 3,om 133 4,oc 134 10049664320 157 [.t 129,.t 130,.t 131,.t 132,.t 133]] (rf [om 135 16,oj 136 .add 135 1,om 1 136]))) (ao [om 137 19,om 138 20,ot 139 .geq 137 138,om 10 139] (ao [om 140 0,om 141 16,oj 142 .add 141 1,om 143 2,om 144 3,om 145 4,oc 146 10049856384 157 [.t 140,.t 142,.t 143,.t 144,.t 145]] (rf [om 147 16,om 2 147]))))))))))))))))))
def i157:aU:=⟨148,[],(ao [mb 10 true] (ao [mb 11 true] (eh i157_l1)))⟩
def i133_l1:aH:=(ao [ot 9 .lss 8 7] (.seq (eD 9) (.seq (.block 1 (ao [om 10 8,om 5 10] (ao [om 11 1,om 12 0,om 13 5,oi 14 1 12 13,ol 15 14,oo 16 (.call 8512256320 (.t 11) [.t 15])] (ct 16 (aM [om 17 5,om 4 17]) .skip)))) (rf [oj 18 .add 8 1,om 8 18]))))
def i133_r2:aH:=(aM [oo 4 (.jh (.i (-1)))])
def i133:aU:=⟨19,[(4,none)],(ao [mi 4 0] (.seq (ao [om 6 0,oh 7 6,mi 8 0] (eh i133_l1)) i133_r2))⟩
def i119:aU:=⟨9,[(4,none)],(ao [mb 4 false] (aM [om 5 0,om 6 1,oc 7 7616064128 134 [.t 5,.t 6],oj 8 .geq 7 0,om 4 8]))⟩
def i135_l1:aH:=(.seq (dq [om 16 7,om 17 1,dt 18 .gtr 16 17 3,dm 19 18 7,gk 20 0 19 15,gk 21 7 19 15,mr 22 1 20 21 19 63,fI 23 22 19 127,gk 24 0 19 15,gk 25 7 19 15,sO 26 .sub 25 1 19 527,mr 27 1 24 26 19 1807,fI 28 27 19 3855,Hc_ 29 8640256832 141 [.t 23,.t 28] 19 8191,pO 30 19 29 16383] (ct 30 .skip (.exit 2))) (.seq (.block 3 (rt [om 33 0,om 34 7,om 35 0,om 36 7,dj 37 .sub 36 1 8,om 38 0,om 39 7,dj 40 .sub 39 1 64,di 41 1 38 40 224,dl 42 41 480,
 om 43 0,om 44 7,di 45 1 43 44 3072,dl 46 45 7168,di 47 1 33 34 16355,fJ 1 47 42 32739,di 48 1 35 37 65535,fJ 1 48 46 131071])) (rf [om 31 7,oj 32 .sub 31 1,om 7 32])))
def i135_r2:aH:=(rf [om 13 6,oj 14 .add 13 1,om 6 14])
def i135_l3:aH:=(.seq (ao [om 10 6,om 11 2,ot 12 .lss 10 11] (eD 12)) (.seq (.block 1 (ao [om 15 6,om 7 15] (.block 2 (.loop i135_l1)))) i135_r2))
def i135:aU:=⟨49,[],(ao [om 8 1,oj 9 .add 8 1,om 6 9] (eh i135_l3))⟩
def i141:aU:=⟨17,[(4,none)],(ao [mb 4 false] (aM [om 5 0,oc 6 9024064064 163 [.t 5],om 7 6,dA 8 1 7,rY 9 9024064256 163 [.t 8] 7,hu_ 10 9 7,ec 11 7 10,om 12 11,dS 13 0 12,dS 14 1 12,rS 15 .lss 13 14 12,fK 16 12 15,om 4 16]))⟩
def i167_l1:aH:=(.seq (dq [om 18 9,om 19 1,dt 20 .gtr 18 19 3,dm 21 20 7,gk 22 3 21 15,gk 23 0 21 15,gk 24 9 21 15,mr 25 7 23 24 21 111,BA 26 7 25 21 239,gk 27 0 21 15,gk 28 9 21 15,sO 29 .sub 28 1 21 1039,mr 30 7 27 29 21 3599,BA 31 7 30 21 7695,BB 32 (.call 10688256896 (.t 22) [.t 26,.t 31]) 21 16383,sO 33 .lss 32 0 21 32767,pO 34 21 33 65535] (ct 34 .skip (.exit 2))) (.seq (.block 3 (rt [om 37 0,om 38 9,om 39 0,
 om 40 9,dj 41 .sub 40 1 8,om 42 0,om 43 9,dj 44 .sub 43 1 64,di 45 7 42 44 224,dx 46 7 45 480,om 47 0,om 48 9,di 49 7 47 48 3072,dx 50 7 49 7168,di 51 7 37 38 16355,fJ 7 51 46 32739,di 52 7 39 41 65535,fJ 7 52 50 131071])) (rf [om 35 9,oj 36 .sub 35 1,om 9 36])))
def i167_r2:aH:=(rf [om 15 8,oj 16 .add 15 1,om 8 16])
def i167_l3:aH:=(.seq (ao [om 12 8,om 13 2,ot 14 .lss 12 13] (eD 14)) (.seq (.block 1 (ao [om 17 8,om 9 17] (.block 2 (.loop i167_l1)))) i167_r2))
def i167:aU:=⟨53,[],(ao [om 10 1,oj 11 .add 10 1,om 8 11] (eh i167_l3))⟩
def i134_l1:aH:=(ao [ot 9 .lss 8 7] (.seq (eD 9) (.seq (.block 1 (ao [om 10 8,om 5 10] (ao [om 11 1,om 12 0,om 13 5,oi 14 1 12 13,ol 15 14,ot 16 .eql 11 15] (ct 16 (aM [om 17 5,om 4 17]) .skip)))) (rf [oj 18 .add 8 1,om 8 18]))))
def i134_r2:aH:=(aM [oo 4 (.jh (.i (-1)))])
def i134:aU:=⟨19,[(4,none)],(ao [mi 4 0] (.seq (ao [om 6 0,oh 7 6,mi 8 0] (eh i134_l1)) i134_r2))⟩
def i163:aU:=⟨6,[(2,none)],(ao [mb 2 false] (aM [om 3 0,om 4 0,ot 5 .neq 3 4,om 2 5]))⟩
def i3:aU:=⟨157,[(4,none)],(ao [dC 2 192000000 0,mb 4 false] (.seq (ao [ox 12 2 2,oc 13 192064064 4 [.t 12,.i 24],kE 14 13] (ct 14 (aM [oc 15 192128000 5 [],om 4 15]) .skip)) (ao [ox 17 2 2,om 18 1,oc 19 192192128 6 [.t 17,.t 18],om 16 19,oe 20 16 0,oe 21 16 1,oo 5 (.alloc 192192384 [il 0,il 0,il 0,il 0,bK,bK,il 0]),os 7 5 20,om 6 21] (.seq (ao [om 22 6,kE 23 22] (ct 23 (aM [oc 24 192320000 5 [],om 4 24]) .skip)) (ao [ox 26 2 2,ox 27 7 5,oc 28 192384128 7 [.t 26,.t 27],om 25 28,oe 29 25 0,oe 30 25 1,oo 7 (.alloc 192384384 [il 0,.nils]),os 2 7 29,om 8 30] (.seq (ao [om 31 8,oj 32 .neq 31 0] (ct 32 (aM [mb 4 false]) .skip)) (dq [ox 33 2 7,dc 34 192576064 8 [.t 33] 1,ox 35 2 2,dc 36 192576192 8 [.t 35] 7,
 dt 37 .sub 34 36 15,ox 38 2 7,dc 39 192576384 9 [.t 38] 47,ox 40 2 2,dc 41 192576512 9 [.t 40] 239,dt 42 .sub 39 41 495,ox 43 2 7,dc 44 192576704 10 [.t 43] 1519,ox 45 2 2,dc 46 192576832 10 [.t 45] 7663,dt 47 .sub 44 46 15855,dm 9 37 15871,dm 10 42 49151,dm 11 47 131071] (.seq (ao [of 48 0 5,ol 49 48] (.block 0 (ao [oj 51 .eql 49 2,om 50 51] (ct 50 (aM [om 52 9,oj 53 .eql 52 2,om 54 53,dA 55 10 54,jo 56 .eql 55 0 54,ec 57 54 56,om 58 57,dA 59 11 58,jo 60 .eql 59 0 58,ec 61 58 60,om 62 61,rY 63 192768704 5 [] 62,ec 64 62 63,om 4 64]) (ao [oj 66 .eql 49 1,
 om 65 66] (ct 65 (aM [om 67 9,oo 68 (.bin .eql (.t 67) (.i (-2))),om 69 68,dA 70 10 69,jo 71 .eql 70 0 69,ec 72 69 71,om 73 72,dA 74 11 73,jo 75 .eql 74 0 73,ec 76 73 75,om 77 76,rY 78 192896704 5 [] 77,ec 79 77 78,om 4 79]) (ao [oj 81 .eql 49 5,om 80 81] (ct 80 (aM [om 82 9,oj 83 .eql 82 0,om 84 83,dA 85 10 84,jo 86 .eql 85 1 84,ec 87 84 86,om 88 87,dA 89 11 88,dz 90 6 5 88,
 en 91 90 88,qM 92 .eql 89 91 88,ec 93 88 92,om 94 93,rY 95 193024832 5 [] 94,ec 96 94 95,om 4 96]) (ao [oj 98 .eql 49 4,om 97 98] (ct 97 (aM [om 99 9,oj 100 .eql 99 0,om 101 100,dA 102 10 101,xk 103 (.bin .eql (.t 102) (.i (-1))) 101,ec 104 101 103,om 105 104,dA 106 11 105,dA 107 11 105,qM 108 .mul 106 107 105,jo 109 .eql 108 1 105,ec 110 105 109,om 111 110,rY 112 193152832 5 [] 111,
 ec 113 111 112,om 4 113]) (ao [oj 115 .eql 49 7,om 114 115] (ct 114 (aM [om 116 9,oj 117 .eql 116 0,om 118 117,dA 119 10 118,jo 120 .eql 119 2 118,ec 121 118 120,om 122 121,dA 123 11 122,jo 124 .eql 123 0 122,ec 125 122 124,om 126 125,rY 127 193280704 5 [] 126,ec 128 126 127,om 4 128]) (ao [oj 130 .eql 49 6,om 129 130] (ct 129 (aM [om 131 9,oj 132 .eql 131 0,om 133 132,dA 134 10 133,xk 135 (.bin .eql (.t 134) (.i (-2))) 133,ec 136 133 135,
 om 137 136,dA 138 11 137,jo 139 .eql 138 0 137,ec 140 137 139,om 141 140,rY 142 193408704 5 [] 141,ec 143 141 142,om 4 143]) .skip)))))))))))))) (aM [om 144 9,oj 145 .eql 144 0,om 146 145,dA 147 10 146,jo 148 .eql 147 0 146,ec 149 146 148,om 150 149,dA 151 11 150,jo 152 .eql 151 0 150,ec 153 150 152,om 154 153,rY 155 193472704 5 [] 154,ec 156 154 155,om 4 156])))))))))⟩
end Go.Abs
namespace Go.Abs
open Go.Proofs
def A3:List Nat->Nat->Bool
 |[],_=>false
 |a::r,n=>bif Nat.beq a n then true else A3 r n
def TU:List (Nat×List Nat)->Nat->List Nat
 |[],_=>[]
 |(a,l)::r,n=>bif Nat.beq a n then l else TU r n
def aeW:List Nat:=[51,70,78,79,83,92,93,94,98,99,108,110,114,120,129,131,135,136,137,138,139,140,142,143,148,149,150,151,152,153,154,155,157,158,160,161,162,164,165,166,167,168,169,170,171,172,173,174,175,176,177,178,179,180]
def afD:List (Nat×List Nat):=[(51,[51,78,79]),(70,[70,98,99]),(78,[78]),(79,[79]),(83,[83]),(92,[92]),(93,[93,120,135,136,137,138,139,140,142,143,158,160,161,162,175]),(94,[94]),(98,[98]),(99,[99]),(108,[108,129,148,149,150,151,152,153,154,155,160,164,165,166,176]),(110,[110]),(114,[114]),(120,[120,135,136,137,138,139,140,142,143,158,160,161,162,175]),(129,[129,148,149,150,151,152,153,154,155,160,164,165,166,176]),(131,[131,157,160,167,168,169,170,171,172,173,174,177,178,179,180]),(135,[135]),(136,[136,158]),(137,[137,160]),(138,[138,161,162,175]),(139,[139]),(140,[140]),(142,[142]),(143,[143]),(148,[148]),(149,[149,164]),(150,[150,160]),(151,[151,165,166,176]),(152,[152]),(153,[153]),(154,[154]),(155,[155]),(157,[157,160,167,168,169,170,171,172,173,174,177,178,179,180]),(158,[158]),(160,[160]),(161,[161,162,175]),(162,[162,175]),(164,[164]),(165,[165,166,176]),(166,[166,176]),(167,[167]),(168,[168,177]),(169,[160,169]),(170,[170,178,179,180]),(171,[171]),(172,[172]),(173,[173]),(174,[174]),(175,[175]),(176,[176]),(177,[177]),(178,[178,179,180]),(179,[179,180]),(180,[180])]
def acM:List Nat:=[]
def NH(f:Nat)(args:List V):Option (Option RV):=
 bif Nat.beq f 28 then some (NI args)
 else bif Nat.beq f 30 then some (NJ args)
 else bif Nat.beq f 121 then some (Gv args)
 else bif A3 [23,85] f then IJ args
 else none
noncomputable def S:Sys:={P:=Tryz.prog,shared:=A3 aeW,sites:=TU afD,lone:=fun s=>A3 acM (s/64000000),fns:=wx Tryz.prog,prim:=NH,trig:=I6 108 109,primS:=fun _=>vH kG}
abbrev cD(n:Nat):Prop:=S.shared n=false
theorem c43:S.fns 43=some i43:=ah
theorem s43:cD 43:=rfl
theorem c52:S.fns 52=some i52:=ah
theorem s52:cD 52:=rfl
theorem c33:S.fns 33=some i33:=ah
theorem s33:cD 33:=rfl
theorem c34:S.fns 34=some i34:=ah
theorem s34:cD 34:=rfl
theorem c96:S.fns 96=some i96:=ah
theorem s96:cD 96:=rfl
theorem c123:S.fns 123=some i123:=ah
theorem s123:cD 123:=rfl
theorem c97:S.fns 97=some i97:=ah
theorem s97:cD 97:=rfl
theorem c98:S.fns 98=some i98:=ah
theorem c99:S.fns 99=some i99:=ah
theorem c100:S.fns 100=some i100:=ah
theorem s100:cD 100:=rfl
theorem c70:S.fns 70=some i70:=ah
theorem c76:S.fns 76=some i76:=ah
theorem s76:cD 76:=rfl
theorem c113:S.fns 113=some i113:=ah
theorem s113:cD 113:=rfl
theorem c112:S.fns 112=some i112:=ah
theorem s112:cD 112:=rfl
theorem c122:S.fns 122=some i122:=ah
theorem s122:cD 122:=rfl
theorem c145:S.fns 145=some i145:=ah
theorem s145:cD 145:=rfl
theorem c11:S.fns 11=some i11:=ah
theorem s11:cD 11:=rfl
theorem c8:S.fns 8=some i8:=ah
theorem s8:cD 8:=rfl
theorem c9:S.fns 9=some i9:=ah
theorem s9:cD 9:=rfl
theorem c19:S.fns 19=some i19:=ah
theorem s19:cD 19:=rfl
theorem c39:S.fns 39=some i39:=ah
theorem s39:cD 39:=rfl
theorem c67:S.fns 67=some i67:=ah
theorem s67:cD 67:=rfl
theorem c20:S.fns 20=some i20:=ah
theorem s20:cD 20:=rfl
theorem c40:S.fns 40=some i40:=ah
theorem s40:cD 40:=rfl
theorem c68:S.fns 68=some i68:=ah
theorem s68:cD 68:=rfl
theorem c65:S.fns 65=some i65:=ah
theorem s65:cD 65:=rfl
theorem c41:S.fns 41=some i41:=ah
theorem s41:cD 41:=rfl
theorem c69:S.fns 69=some i69:=ah
theorem s69:cD 69:=rfl
theorem c66:S.fns 66=some i66:=ah
theorem s66:cD 66:=rfl
theorem c42:S.fns 42=some i42:=ah
theorem s42:cD 42:=rfl
theorem c21:S.fns 21=some i21:=ah
theorem s21:cD 21:=rfl
theorem c32:S.fns 32=some i32:=ah
theorem s32:cD 32:=rfl
theorem c17:S.fns 17=some i17:=ah
theorem s17:cD 17:=rfl
theorem c7:S.fns 7=some i7:=ah
theorem s7:cD 7:=rfl
theorem c31:S.fns 31=some i31:=ah
theorem s31:cD 31:=rfl
theorem c16:S.fns 16=some i16:=ah
theorem s16:cD 16:=rfl
theorem c4:S.fns 4=some i4:=ah
theorem s4:cD 4:=rfl
theorem c18:S.fns 18=some i18:=ah
theorem s18:cD 18:=rfl
theorem c49:S.fns 49=some i49:=ah
theorem s49:cD 49:=rfl
theorem c35:S.fns 35=some i35:=ah
theorem s35:cD 35:=rfl
theorem c36:S.fns 36=some i36:=ah
theorem s36:cD 36:=rfl
theorem c37:S.fns 37=some i37:=ah
theorem s37:cD 37:=rfl
theorem c38:S.fns 38=some i38:=ah
theorem s38:cD 38:=rfl
theorem s74:cD 74:=rfl
theorem c75:S.fns 75=some i75:=ah
theorem s75:cD 75:=rfl
theorem c50:S.fns 50=some i50:=ah
theorem s50:cD 50:=rfl
theorem c51:S.fns 51=some i51:=ah
theorem c53:S.fns 53=some i53:=ah
theorem s53:cD 53:=rfl
theorem c54:S.fns 54=some i54:=ah
theorem c55:S.fns 55=some i55:=ah
theorem s55:cD 55:=rfl
theorem c56:S.fns 56=some i56:=ah
theorem c57:S.fns 57=some i57:=ah
theorem c58:S.fns 58=some i58:=ah
theorem c59:S.fns 59=some i59:=ah
theorem c60:S.fns 60=some i60:=ah
theorem c61:S.fns 61=some i61:=ah
theorem c62:S.fns 62=some i62:=ah
theorem c63:S.fns 63=some i63:=ah
theorem s63:cD 63:=rfl
theorem c64:S.fns 64=some i64:=ah
theorem s64:cD 64:=rfl
theorem s108:S.shared 108=true:=ah
theorem c110:S.fns 110=some i110:=ah
theorem s110:S.shared 110=true:=ah
theorem c111:S.fns 111=some i111:=ah
theorem s111:cD 111:=rfl
theorem c77:S.fns 77=some i77:=ah
theorem s77:cD 77:=rfl
theorem c78:S.fns 78=some i78:=ah
theorem c79:S.fns 79=some i79:=ah
theorem c80:S.fns 80=some i80:=ah
theorem s80:cD 80:=rfl
theorem c81:S.fns 81=some i81:=ah
theorem s81:cD 81:=rfl
theorem c83:S.fns 83=some i83:=ah
theorem c82:S.fns 82=some i82:=ah
theorem s82:cD 82:=rfl
theorem c84:S.fns 84=some i84:=ah
theorem s84:cD 84:=rfl
theorem c85:S.fns 85=some i85:=ah
theorem s85:cD 85:=rfl
theorem c86:S.fns 86=some i86:=ah
theorem s86:cD 86:=rfl
theorem c87:S.fns 87=some i87:=ah
theorem s87:cD 87:=rfl
theorem c88:S.fns 88=some i88:=ah
theorem s88:cD 88:=rfl
theorem c89:S.fns 89=some i89:=ah
theorem s89:cD 89:=rfl
theorem c90:S.fns 90=some i90:=ah
theorem s90:cD 90:=rfl
theorem c91:S.fns 91=some i91:=ah
theorem s91:cD 91:=rfl
theorem c92:S.fns 92=some i92:=ah
theorem c93:S.fns 93=some i93:=ah
theorem c94:S.fns 94=some i94:=ah
theorem c95:S.fns 95=some i95:=ah
theorem s95:cD 95:=rfl
theorem c130:S.fns 130=some i130:=ah
theorem c131:S.fns 131=some i131:=ah
theorem c132:S.fns 132=some i132:=ah
theorem c114:S.fns 114=some i114:=ah
theorem c115:S.fns 115=some i115:=ah
theorem s115:cD 115:=rfl
theorem c116:S.fns 116=some i116:=ah
theorem s116:cD 116:=rfl
theorem c117:S.fns 117=some i117:=ah
theorem s117:cD 117:=rfl
theorem c118:S.fns 118=some i118:=ah
theorem s118:cD 118:=rfl
theorem c120:S.fns 120=some i120:=ah
theorem s120:S.shared 120=true:=ah
theorem c156:S.fns 156=some i156:=ah
theorem s156:cD 156:=rfl
theorem c157:S.fns 157=some i157:=ah
theorem s157:S.shared 157=true:=ah
theorem c133:S.fns 133=some i133:=ah
theorem s133:cD 133:=rfl
theorem c119:S.fns 119=some i119:=ah
theorem s119:cD 119:=rfl
theorem c135:S.fns 135=some i135:=ah
theorem s135:S.shared 135=true:=ah
theorem c141:S.fns 141=some i141:=ah
theorem s141:cD 141:=rfl
theorem c167:S.fns 167=some i167:=ah
theorem s167:S.shared 167=true:=ah
theorem c134:S.fns 134=some i134:=ah
theorem s134:cD 134:=rfl
theorem c163:S.fns 163=some i163:=ah
theorem s163:cD 163:=rfl
theorem c3:S.fns 3=some i3:=ah
theorem s3:cD 3:=rfl
end Go.Abs
namespace Go.Abs
def i6:aU:=⟨38,[(4,some (some 7)),(5,none)],(ao [dC 2 384000000 0,oo 4 (.alloc 384000064 [il 0,il 0,il 0,il 0,bK,bK,il 0]),mb 5 false] (ao [ox 9 2 2,oc 10 384064064 16 [.t 9],om 8 10,oe 11 8 0,oe 12 8 1,om 6 11,om 7 12] (.seq (ao [om 13 7,oj 14 .neq 13 0,om 15 14,dS 16 6 15,ES 17 16 15,kx 18 .eql 17 0 15,fK 19 15 18,om 20 19,dS 21 1 20,kx 22 .lss 21 0 20,fK 23 20 22,om 24 23,fg 25 1 2 24,gV 26 25 24,ES 27 26 24,kx 28 .gtr 27 30 24,
 fK 29 24 28] (ct 29 (aM [oo 30 (.build [il 0,il 0,il 0,il 0,bK,bK,il 0] []),os 7 4 30,mb 5 false]) .skip)) (aM [om 31 6,om 32 1,om 33 6,oh 34 33,ot 35 .rem 32 34,oi 36 7 31 35,ox 37 7 36,os 7 4 37,mb 5 true]))))⟩
def i10_l1:aH:=(.seq (ao [om 5 4,of 6 1 1,ol 7 6,oh 8 7,ot 9 .lss 5 8] (eD 9)) (.seq (.block 1 (ao [of 12 1 1,ol 13 12,om 14 4,oi 15 6 13 14,of 16 0 15,ol 17 16,oj 18 .eql 17 2,om 19 18,dz 20 1 1 19,en 21 20 19,dA 22 4 19,vc 23 6 21 22 19,dz 24 5 23 19,en 25 24 19,ec 26 19 25] (ct 26 (rf [om 27 3,of 28 1 1,ol 29 28,om 30 4,oi 31 6 29 30,of 32 4 31,ol 33 32,ot 34 .add 27 33,om 3 34]) .skip))) (rf [om 10 4,oj 11 .add 10 1,om 4 11])))
def i10_r2:aH:=(aM [om 35 3,om 2 35])
def i10:aU:=⟨36,[(2,none)],(ao [dC 1 640000000 0,mi 2 0] (ao [mi 3 0] (.seq (ao [mi 4 0] (eh i10_l1)) i10_r2)))⟩
theorem s5:cD 5:=rfl
theorem c6:S.fns 6=some i6:=ah
theorem s6:cD 6:=rfl
theorem c10:S.fns 10=some i10:=ah
theorem s10:cD 10:=rfl
end Go.Abs
