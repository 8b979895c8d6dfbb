/-
  The program as a system of the abstract machine.
-/
import Derived.Test.YtfohniicngjeoaaGreatDoorMf
import Derived.Test.YtfohniicngjeoaaGreatDoorProg
set_option linter.all false
set_option maxRecDepth 100000
namespace Go.Abs
abbrev om(d a:Nat):aO:=⟨some d,.jU (.t a),none,0⟩
abbrev of(d f a:Nat):aO:=⟨some d,.xf f (.t a),none,0⟩
abbrev ol(d a:Nat):aO:=⟨some d,.load none (.t a),none,0⟩
abbrev ox(d s a:Nat):aO:=⟨some d,.load (some s) (.t a),none,0⟩
abbrev oo(d:Nat)(x:lB):aO:=⟨some d,x,none,0⟩
abbrev op(x:lB):aO:=⟨none,x,none,0⟩
abbrev ob(d:Nat)(b:BinOp)(x y:aR):aO:=⟨some d,.bin b x y,none,0⟩
abbrev oi(d z a b:Nat):aO:=⟨some d,.ql z (.t a) (.t b),none,0⟩
abbrev oc(d s f:Nat)(a:List aR):aO:=⟨some d,.call s (.k (.one (.p (.fn f [] [])))) a,none,0⟩
abbrev dm(d a n:Nat):aO:=⟨some d,.jU (.t a),none,n⟩
abbrev df(d f a n:Nat):aO:=⟨some d,.xf f (.t a),none,n⟩
abbrev dl(d a n:Nat):aO:=⟨some d,.load none (.t a),none,n⟩
abbrev dx(d s a n:Nat):aO:=⟨some d,.load (some s) (.t a),none,n⟩
abbrev di(d z a b n:Nat):aO:=⟨some d,.ql z (.t a) (.t b),none,n⟩
abbrev db(d:Nat)(b:BinOp)(x y:aR)(n:Nat):aO:=⟨some d,.bin b x y,none,n⟩
abbrev dc(d s f:Nat)(a:List aR)(n:Nat):aO:=⟨some d,.call s (.k (.one (.p (.fn f [] [])))) a,none,n⟩
abbrev os(z a b:Nat):aO:=⟨none,.store z (.t a) (.t b),none,0⟩
abbrev on(d a:Nat):aO:=⟨some d,.xT (.t a),none,0⟩
abbrev mb(d:Nat)(b:Bool):aO:=⟨some d,.jU (.b b),none,0⟩
abbrev mi(d:Nat)(k:Int):aO:=⟨some d,.jU (.i k),none,0⟩
abbrev ot(d:Nat)(b:BinOp)(x y:Nat):aO:=⟨some d,.bin b (.t x) (.t y),none,0⟩
abbrev oj(d:Nat)(b:BinOp)(x:Nat)(y:Int):aO:=⟨some d,.bin b (.t x) (.i y),none,0⟩
abbrev dt(d:Nat)(b:BinOp)(x y n:Nat):aO:=⟨some d,.bin b (.t x) (.t y),none,n⟩
abbrev dj(d:Nat)(b:BinOp)(x:Nat)(y:Int)(n:Nat):aO:=⟨some d,.bin b (.t x) (.i y),none,n⟩
abbrev oh(d a:Nat):aO:=⟨some d,.CG (.t a),none,0⟩
abbrev oe(d a k:Nat):aO:=⟨some d,.extract (.t a) k,none,0⟩
abbrev ct(a:Nat)(x y:aK):aK:=.cond (.t a) x y
abbrev rf(l:List aO):aK:=.region false l
abbrev rt(l:List aO):aK:=.region true l
abbrev il(k:Int):PV:=.int .i64 k
abbrev od(d:Nat)(x:lB)(n:Nat):aO:=⟨some d,x,none,n⟩
abbrev aq(l:List aO)(c:aK):aK:=.seq (.region false l) c
abbrev ef(l:List aO)(c:aK):aK:=.seq (.region true l) c
abbrev aP(l:List aO):aK:=.seq (.region false l) .ret
abbrev dZ(c:aK):aK:=.block 0 (.loop c)
abbrev eO(a:Nat):aK:=.cond (.t a) .skip (.exit 0)
abbrev eo(d:Nat):aO:=⟨some d,.jU (.k (.one (.p .nils))),none,0⟩
abbrev Jk(d:Nat):aO:=⟨some d,.jU (.k (.one (.p .tQ))),none,0⟩
abbrev cZ:PV:=.bool false
abbrev gx_(d:Nat)(a b:Nat)(y:Nat):aO:=⟨some d,.load (some a) (.t b),some (y,false),0⟩
abbrev DJ(d:Nat)(a b:Nat)(l:List aR)(y:Nat):aO:=⟨some d,.call a (.k (.one (.p (.fn b [] [])))) l,some (y,false),0⟩
abbrev ny(d:Nat)(a:BinOp)(b:Nat)(c:Int)(y:Nat):aO:=⟨some d,.bin a (.t b) (.i c),some (y,false),0⟩
abbrev fS(d:Nat)(a b:Nat)(y:Nat):aO:=⟨some d,.xf a (.t b),some (y,false),0⟩
abbrev iL(d:Nat)(a:Nat)(y:Nat):aO:=⟨some d,.load none (.t a),some (y,false),0⟩
abbrev gk(d:Nat)(a b:Nat)(y:Nat)(n:Nat):aO:=⟨some d,.xf a (.t b),some (y,false),n⟩
abbrev ig(d:Nat)(a:Nat)(y:Nat)(n:Nat):aO:=⟨some d,.load none (.t a),some (y,false),n⟩
abbrev Fg(d:Nat)(a:Nat)(y:Nat)(n:Nat):aO:=⟨some d,.xT (.t a),some (y,false),n⟩
abbrev wW(d:Nat)(a:BinOp)(b:Nat)(c:Nat)(y:Nat)(n:Nat):aO:=⟨some d,.bin a (.t b) (.t c),some (y,false),n⟩
abbrev qw(d:Nat)(a:BinOp)(b:Nat)(c:Int)(y:Nat)(n:Nat):aO:=⟨some d,.bin a (.t b) (.i c),some (y,false),n⟩
abbrev eh(d:Nat)(a:Nat)(y:Nat):aO:=⟨some d,.jU (.t a),some (y,false),0⟩
abbrev eL(d:Nat)(a b:Nat)(y:Nat):aO:=⟨some d,.xf a (.t b),some (y,true),0⟩
abbrev fA(d:Nat)(a:Nat)(y:Nat):aO:=⟨some d,.load none (.t a),some (y,true),0⟩
abbrev Ew(d:Nat)(o:lB)(y:Nat):aO:=⟨some d,o,some (y,true),0⟩
abbrev ur(d:Nat)(a b:Nat)(y:Nat):aO:=⟨some d,.pick (.t a) (.t b) (.b false),some (y,false),0⟩
abbrev fU(d:Nat)(a:Nat)(y:Nat):aO:=⟨some d,.jU (.t a),some (y,true),0⟩
abbrev Ej(d:Nat)(a:Nat)(y:Nat):aO:=⟨some d,.xT (.t a),some (y,true),0⟩
abbrev hx_(d:Nat)(a b:Nat)(y:Nat):aO:=⟨some d,.load (some a) (.t b),some (y,true),0⟩
abbrev Ci(d:Nat)(a b:Nat)(l:List aR)(y:Nat):aO:=⟨some d,.call a (.k (.one (.p (.fn b [] [])))) l,some (y,true),0⟩
abbrev ux(d:Nat)(a:BinOp)(b:Nat)(c:Int)(y:Nat):aO:=⟨some d,.bin a (.t b) (.i c),some (y,true),0⟩
abbrev iw(a b c:Nat)(n:Nat):aO:=⟨none,.store a (.t b) (.t c),none,n⟩
abbrev lz(d:Nat)(a:Nat)(y:Nat)(n:Nat):aO:=⟨some d,.jU (.t a),some (y,false),n⟩
abbrev Ff(d:Nat)(a b c:Nat)(y:Nat)(n:Nat):aO:=⟨some d,.ql a (.t b) (.t c),some (y,false),n⟩
abbrev uu(d:Nat)(a:BinOp)(b:Nat)(c:Nat)(y:Nat):aO:=⟨some d,.bin a (.t b) (.t c),some (y,false),0⟩
abbrev kr(d:Nat)(a:Nat)(y:Nat)(n:Nat):aO:=⟨some d,.jU (.t a),some (y,true),n⟩
abbrev Hn_(d:Nat)(a:Nat)(y:Nat)(n:Nat):aO:=⟨some d,.xT (.t a),some (y,true),n⟩
abbrev mE(d:Nat)(a b:Nat)(y:Nat)(n:Nat):aO:=⟨some d,.xf a (.t b),some (y,true),n⟩
abbrev kD(d:Nat)(a:Nat)(y:Nat)(n:Nat):aO:=⟨some d,.load none (.t a),some (y,true),n⟩
abbrev Ki(d:Nat)(o:lB)(y:Nat)(n:Nat):aO:=⟨some d,o,some (y,true),n⟩
abbrev r9(d:Nat)(a b c:Nat)(y:Nat)(n:Nat):aO:=⟨some d,.ql a (.t b) (.t c),some (y,true),n⟩
abbrev Ht_(d:Nat)(a:BinOp)(b:Nat)(c:Nat)(y:Nat)(n:Nat):aO:=⟨some d,.bin a (.t b) (.t c),some (y,true),n⟩
abbrev Gq_(d:Nat)(a b:Nat)(y:Nat)(n:Nat):aO:=⟨some d,.pick (.t a) (.t b) (.b false),some (y,false),n⟩
abbrev Dm(d:Nat)(a b:Nat)(y:Nat)(n:Nat):aO:=⟨some d,.load (some a) (.t b),some (y,false),n⟩
abbrev Bw(d:Nat)(a b:Nat)(l:List aR)(y:Nat)(n:Nat):aO:=⟨some d,.call a (.k (.one (.p (.fn b [] [])))) l,some (y,false),n⟩
abbrev Gu_(d:Nat)(a:Nat)(y:Nat)(n:Nat):aO:=⟨some d,.un .not (.t a),some (y,false),n⟩
abbrev Gh_(d:Nat)(a:Nat)(y:Nat)(n:Nat):aO:=⟨some d,.CG (.t a),some (y,false),n⟩
abbrev Af(d:Nat)(a b c:Nat)(y:Nat):aO:=⟨some d,.ql a (.t b) (.t c),some (y,true),0⟩
abbrev xM(d:Nat)(a:BinOp)(b:Nat)(c:Nat)(y:Nat):aO:=⟨some d,.bin a (.t b) (.t c),some (y,true),0⟩
abbrev yn(d:Nat)(a:BinOp)(b:Nat)(c:Int)(y:Nat)(n:Nat):aO:=⟨some d,.bin a (.t b) (.i c),some (y,true),n⟩
abbrev Hk(d:Nat)(a b:Nat)(y:Nat)(n:Nat):aO:=⟨some d,.load (some a) (.t b),some (y,true),n⟩
abbrev Hc_(d:Nat)(a b:Nat)(l:List aR)(y:Nat)(n:Nat):aO:=⟨some d,.call a (.k (.one (.p (.fn b [] [])))) l,some (y,true),n⟩
abbrev Il(d:Nat)(a:Nat)(y:Nat):aO:=⟨some d,.CG (.t a),some (y,false),0⟩
abbrev FM(d:Nat)(a:Nat)(y:Nat):aO:=⟨some d,.xT (.t a),some (y,false),0⟩
abbrev Io(d:Nat)(a:Nat)(y:Nat):aO:=⟨some d,.un .not (.t a),some (y,false),0⟩
abbrev Mt(d:Nat)(a:Nat)(y:Nat):aO:=⟨some d,.un .not (.t a),some (y,true),0⟩
abbrev gz_(d:Nat)(o:lB)(y:Nat):aO:=⟨some d,o,some (y,false),0⟩
abbrev hp_(d:Nat)(a b:Nat)(y:Nat):aO:=⟨some d,.pick (.t a) (.b true) (.t b),some (y,true),0⟩
abbrev Gz_(d:Nat)(o:lB)(y:Nat)(n:Nat):aO:=⟨some d,o,some (y,false),n⟩
abbrev gi_(d:Nat)(a b c:Nat)(y:Nat):aO:=⟨some d,.ql a (.t b) (.t c),some (y,false),0⟩
abbrev gp_(d:Nat)(a b:Nat)(y:Nat):aO:=⟨some d,.pick (.t a) (.b true) (.t b),some (y,false),0⟩
abbrev Hu_(d:Nat)(a:Nat)(y:Nat)(n:Nat):aO:=⟨some d,.un .not (.t a),some (y,true),n⟩
abbrev dB(d:Nat)(a b:Nat):aO:=⟨some d,.box a (.t b),none,0⟩
abbrev gJ(d:Nat)(a b:Nat):aO:=⟨some d,.pick (.t a) (.b true) (.t b),none,0⟩
abbrev nH(d:Nat)(a:Nat):aO:=⟨some d,.un .not (.t a),none,0⟩
abbrev jM(d:Nat)(a b:Nat)(n:Nat):aO:=⟨some d,.pick (.t a) (.b true) (.t b),none,n⟩
abbrev jH(d:Nat)(a b:Nat):aO:=⟨some d,.pick (.t a) (.t b) (.b false),none,0⟩
abbrev fq(d:Nat)(a:Nat)(n:Nat):aO:=⟨some d,.xT (.t a),none,n⟩
abbrev Ke_(d:Nat)(a b:Nat)(n:Nat):aO:=⟨some d,.extract (.t a) b,none,n⟩
abbrev uc(d:Nat)(a:Nat)(n:Nat):aO:=⟨some d,.CG (.t a),none,n⟩
abbrev wX(d:Nat)(a b:Nat)(n:Nat):aO:=⟨some d,.pick (.t a) (.t b) (.b false),none,n⟩
abbrev uO(d:Nat)(a b c e g h:Nat)(n:Nat):aO:=⟨some d,.append a b c e (.t g) (.t h),none,n⟩
abbrev Ku_(d:Nat)(a:Nat)(n:Nat):aO:=⟨some d,.un .not (.t a),none,n⟩
abbrev mR(d:Nat)(a b c e g h:Nat):aO:=⟨some d,.append a b c e (.t g) (.t h),none,0⟩
abbrev Kb_(d:Nat)(a b:Nat)(n:Nat):aO:=⟨some d,.box a (.t b),none,n⟩
def i36:aX:=⟨11,[(2,none)],(aq [dB 1 2304000000 0,mi 2 0] (aq [ox 6 2 1,oc 7 2304064064 19 [.t 6],om 5 7,oe 8 5 0,oe 9 5 1,om 3 8,om 4 9] (aP [om 10 4,om 2 10])))⟩
def i19:aX:=⟨29,[(2,none),(3,none)],(aq [dB 1 1216000000 0,Jk 2,mi 3 0] (.seq (aq [of 5 1 1,ol 6 5,oh 7 6,oj 8 .gtr 7 400,om 9 8,gx_ 10 2 1 9,DJ 11 1216064384 42 [.t 10] 9,ny 12 .gtr 11 200 9,gJ 13 9 12] (ct 13 (aP [Jk 2,mi 3 7]) .skip)) (.seq (aq [of 14 0 1,ol 15 14,oj 16 .lss 15 0,om 17 16,fS 18 0 1 17,iL 19 18 17,ny 20 .gtr 19 40 17,gJ 21 17 20] (ct 21 (aP [Jk 2,mi 3 2]) .skip)) (aq [ox 22 2 1,
 oo 23 (.build [il 0,.nils,.nils,.nils,.nils,.qp,.nils] [(0,2,.t 22)]),dB 24 1216320128 23,om 4 24] (.seq (aq [om 25 4,oc 26 1216384064 43 [.t 25],nH 27 26] (ct 27 (aP [Jk 2,mi 3 3]) .skip)) (aP [om 28 4,om 2 28,mi 3 0]))))))⟩
def i42_l1:aK:=(aq [ot 10 .lss 9 8] (.seq (eO 10) (.seq (.block 1 (aq [oi 11 6 7 9,ox 12 6 11,oo 5 (.alloc 2688256128 [il 0,il 0,il 0,il 0,il 0,cZ]),os 6 5 12] (aq [of 13 0 5,ol 14 13,oj 15 .eql 14 2] (ct 15 (rf [om 16 3,oj 17 .add 16 1,om 3 17]) .skip)))) (rf [oj 18 .add 9 1,om 9 18]))))
def i42_r2:aK:=(aP [om 19 3,om 2 19])
def i42:aX:=⟨20,[(2,none)],(aq [dB 1 2688000000 0,mi 2 0] (aq [mi 3 0] (.seq (aq [of 6 1 1,ol 7 6,oh 8 7,mi 9 0] (dZ i42_l1)) i42_r2)))⟩
def i88_l1:aK:=(aq [ot 10 .lss 9 8] (.seq (eO 10) (.seq (.block 1 (aq [oi 11 6 7 9,ox 12 6 11,oo 5 (.alloc 5632256128 [il 0,il 0,il 0,il 0,il 0,cZ]),os 6 5 12] (aq [of 13 0 5,ol 14 13,oj 15 .eql 14 1] (ct 15 (rf [om 16 3,oj 17 .add 16 1,om 3 17]) .skip)))) (rf [oj 18 .add 9 1,om 9 18]))))
def i88_r2:aK:=(aP [om 19 3,om 2 19])
def i88:aX:=⟨20,[(2,none)],(aq [dB 1 5632000000 0,mi 2 0] (aq [mi 3 0] (.seq (aq [of 6 1 1,ol 7 6,oh 8 7,mi 9 0] (dZ i88_l1)) i88_r2)))⟩
def i92:aX:=⟨6,[(2,none)],(aq [dB 1 5888000000 0,mi 2 0] (aP [ox 3 2 1,oc 4 5888064064 42 [.t 3],oj 5 .quo 4 2,om 2 5]))⟩
def i67:aX:=⟨11,[(2,none)],(aq [dB 1 4288000000 0,mb 2 false] (aP [ol 3 1,on 4 3,of 5 0 4,of 6 1 5,ol 7 6,oo 8 (.mkfn 87 [] [.t 1]),oc 9 4288064384 86 [.t 7,.t 8],nH 10 9,om 2 10]))⟩
def i87:aX:=⟨55,[(3,none)],(aq [dB 2 5568000000 0,mb 3 false] (.seq (aq [of 4 0 2,ol 5 4] (.block 0 (aq [oj 7 .eql 5 1,om 6 7] (ct 6 (ef [of 8 1 2,dl 9 8 1,dj 10 .lss 9 0 3,dm 11 10 7,gk 12 1 2 11 15,ig 13 12 11 31,ig 14 1 11 15,Fg 15 14 11 79,gk 16 0 15 11 207,gk 17 0 16 11 463,ig 18 17 11 975,wW 19 .gtr 13 18 11 2047,jM 20 11 19 4095,dm 21 20 8191,gk 22 3 2 21 16383,ig 23 22 21 32767,qw 24 .neq 23 0 21 65535,
 jM 25 21 24 131071,dm 26 25 262143,gk 27 4 2 26 524287,ig 28 27 26 1048575,qw 29 .neq 28 0 26 2097151,jM 30 26 29 4194303,dm 31 30 8388607,gk 32 5 2 31 16777215,ig 33 32 31 33554431,jM 34 31 33 67108863,dm 3 34 134217727] .ret) (aq [oj 36 .eql 5 2,om 35 36] (ct 35 (aP [of 37 1 2,ol 38 37,oj 39 .neq 38 0,om 40 39,fS 41 2 2 40,iL 42 41 40,ny 43 .neq 42 0 40,gJ 44 40 43,om 45 44,fS 46 4 2 45,iL 47 46 45,
 ny 48 .neq 47 1 45,eh 49 48 45,eL 50 4 2 49,fA 51 50 49,Ew 52 (.bin .neq (.t 51) (.i (-1))) 49,ur 53 49 52 45,gJ 54 45 53,om 3 54]) .skip)))))) (aP [mb 3 true])))⟩
def i68:aX:=⟨21,[(2,none)],(aq [mb 2 false] (aP [om 3 0,on 4 3,of 5 0 4,of 6 1 5,ol 7 6,oo 8 (.ql 6 (.t 7) (.i 0)),of 9 0 8,ol 10 9,oj 11 .eql 10 1,om 12 11,fU 13 0 12,Ej 14 13 12,eL 15 0 14 12,hx_ 16 2 15 12,Ci 17 4352064896 88 [.t 16] 12,ux 18 .rem 17 2 12,ux 19 .eql 18 0 12,jH 20 12 19,om 2 20]))⟩
def i69_l1:aK:=(aq [ot 51 .lss 50 49] (.seq (eO 51) (.seq (.block 1 (aq [om 52 50,oi 53 6 48 50,ox 54 6 53,oo 5 (.alloc 4416448192 [il 0,il 0,il 0,il 0,il 0,cZ]),om 4 52,os 6 5 54] (aq [of 55 0 5,ol 56 55,oj 57 .eql 56 1] (ct 57 (ef [om 58 0,fq 59 58 1,df 60 6 59 3,dl 61 60 7,of 62 1 5,dl 63 62 16,di 64 1 61 63 63,dl 65 64 127,dj 66 .add 65 1 255,di 67 1 61 63 511,iw 1 67 66 1023] (aq [om 68 0,on 69 68,of 70 2 69,ol 71 70,om 72 4,om 73 3,oi 74 1 71 72,os 1 74 73] (rf [om 75 3,nH 76 75,om 3 76]))) .skip)))) (rf [oj 77 .add 50 1,om 50 77]))))
def i69_l2:aK:=(aq [ot 91 .lss 90 89] (.seq (ct 91 .skip (.exit 2)) (.seq (.block 3 (aq [om 92 90,oi 93 1 88 90,ol 94 93,om 8 92,om 9 94] (aq [om 95 6,om 96 8,om 97 7,oi 98 1 95 96,os 1 98 97] (rf [om 99 7,om 100 9,ot 101 .add 99 100,om 7 101])))) (rf [oj 102 .add 90 1,om 90 102]))))
def i69_l3:aK:=(aq [ot 117 .lss 116 115] (.seq (ct 117 .skip (.exit 4)) (.seq (.block 5 (aq [om 118 116,oi 119 6 114 116,ox 120 6 119,oo 12 (.alloc 4417600192 [il 0,il 0,il 0,il 0,il 0,cZ]),om 11 118,os 6 12 120] (.seq (aq [of 121 0 12,ol 122 121,oj 123 .neq 122 1] (ct 123 (.exit 5) .skip)) (.seq (ef [of 124 2 12,dl 125 124 1,dj 126 .lss 125 1 3,dm 127 126 7,gk 128 2 12 127 15,ig 129 128 127 31,lz 130 0 127 15,Fg 131 130 127 79,gk 132 6 131 127 207,ig 133 132 127 463,gk 134 1 12 127 15,ig 135 134 127 1039,Ff 136 1 133 135 127 4047,
 ig 137 136 127 8143,wW 138 .gtr 129 137 127 16383,jM 139 127 138 32767] (ct 139 (aP [mb 2 false]) .skip)) (ef [om 140 6,of 141 1 12,dl 142 141 2,di 143 1 140 142 7,dl 144 143 15,of 145 2 12,dl 146 145 32,dt 147 .add 144 146 127,dj 148 .sub 147 1 255,dm 13 148 511] (.seq (aq [om 149 10,om 150 13,oi 151 1 149 150,ol 152 151] (ct 152 (aP [mb 2 false]) .skip)) (rt [om 153 10,om 154 13,om 155 0,fq 156 155 4,df 157 3 156 12,dl 158 157 28,om 159 13,om 160 0,fq 161 160 128,df 162 4 161 384,dl 163 162 896,om 164 11,om 165 11,om 166 13,di 167 1 153 154 1983,⟨none,.store 1 (.t 167) (.b true),none,18367⟩,di 168 1 158 159 55295,iw 1 168 165 120831,di 169 1 163 164 262143,
 iw 1 169 166 524287]))))))) (rf [oj 170 .add 116 1,om 116 170]))))
def i69_r4:aK:=(aP [mb 2 true])
def i69_r5:aK:=(aq [om 103 0,om 104 7,oo 105 (.rS 4417344128 3 1 8 [il 0] (.t 104) (.t 104)),on 106 103,of 107 3 106,os 1 107 105] (aq [om 108 7,oo 109 (.rS 4417408064 4 1 1 [cZ] (.t 108) (.t 108)),om 10 109] (.seq (aq [om 110 0,on 111 110,of 112 0 111,of 113 1 112,ol 114 113,oh 115 114,mi 116 0] (.block 4 (.loop i69_l3))) i69_r4)))
def i69_r6:aK:=(aq [om 78 0,on 79 78,of 80 0 79,of 81 0 80,ol 82 81,oj 83 .add 82 1,oo 84 (.rS 4416832384 3 1 8 [il 0] (.t 83) (.t 83)),om 6 84] (aq [mi 7 0] (.seq (aq [om 85 0,on 86 85,of 87 6 86,ol 88 87,oh 89 88,mi 90 0] (.block 2 (.loop i69_l2))) i69_r5)))
def i69:aX:=⟨171,[(2,none)],(aq [mb 2 false] (aq [om 14 0,om 15 0,on 16 15,of 17 0 16,of 18 0 17,ol 19 18,oj 20 .add 19 1,oo 21 (.rS 4416064448 3 1 8 [il 0] (.t 20) (.t 20)),on 22 14,of 23 6 22,os 1 23 21] (aq [om 24 0,om 25 0,on 26 25,of 27 0 26,of 28 1 27,ol 29 28,oh 30 29,oo 31 (.rS 4416128448 4 1 1 [cZ] (.t 30) (.t 30)),on 32 24,of 33 2 32,os 1 33 31] (aq [om 34 0,om 35 0,on 36 35,of 37 0 36,of 38 1 37,ol 39 38,oh 40 39,oo 41 (.rS 4416192448 3 1 8 [il 0] (.t 40) (.t 40)),on 42 34,of 43 4 42,os 1 43 41] (aq [mb 3 true] (.seq (aq [om 44 0,on 45 44,of 46 0 45,of 47 1 46,ol 48 47,oh 49 48,mi 50 0] (dZ i69_l1)) i69_r6))))))⟩
def i70_l1:aK:=(aq [ot 28 .lss 27 26] (.seq (eO 28) (.seq (.block 1 (aq [om 29 27,oi 30 6 25 27,ox 31 6 30,oo 5 (.alloc 4480448192 [il 0,il 0,il 0,il 0,il 0,cZ]),om 4 29,os 6 5 31] (.seq (aq [of 32 0 5,ol 33 32,oj 34 .neq 33 2] (ct 34 (.exit 1) .skip)) (.seq (aq [of 35 3 5,ol 36 35,oj 37 .lss 36 1,om 38 37,fS 39 3 5 38,iL 40 39 38,eh 41 3 38,ny 42 .quo 41 2 38,uu 43 .gtr 40 42 38,gJ 44 38 43] (ct 44 (aP [mb 2 false]) .skip)) (ef [om 46 0,fq 47 46 1,df 48 5 47 3,dl 49 48 7,of 50 3 5,dl 51 50 16,od 52 (.lookup 0 [il 0,il 0] true true (.t 49) (.t 51)) 63,
 dm 45 52 127,Ke_ 53 45 0 255,Ke_ 54 45 1 255,oo 6 (.alloc 4480704640 [il 0,il 0]),iw 2 6 53 1535,dm 7 54 4095] (.seq (aq [om 55 7,nH 56 55] (ct 56 (rf [oo 57 (.build [il 0,il 0] [(0,1,.i (-1)),(1,1,.i (-1))]),os 2 6 57]) .skip)) (aq [mi 8 0] (.seq (aq [of 58 5 5,ol 59 58] (ct 59 (rf [mi 8 1]) .skip)) (.seq (ef [om 60 8,od 61 (.ud 2 1 (.t 6) (.t 60)) 1,dl 62 61 3,dj 63 .geq 62 0 7,dm 64 63 15,lz 65 7 64 31,lz 66 65 64 63,kr 67 0 66 127,Hn_ 68 67 66 255,mE 69 0 68 66 511,mE 70 1 69 66 1023,kD 71 70 66 2047,kr 72 8 66 127,
 Ki 73 (.bin .sub (.i 1) (.t 72)) 66 4223,Ki 74 (.ud 2 1 (.t 6) (.t 73)) 66 12415,kD 75 74 66 28799,r9 76 6 71 75 66 65535,mE 77 4 76 66 131071,kD 78 77 66 262143,mE 79 4 5 66 127,kD 80 79 66 524415,Ht_ 81 .neq 78 80 66 2097151,Gq_ 82 66 81 64 4194303,jM 83 64 82 8388607] (ct 83 (aP [mb 2 false]) .skip)) (aq [om 84 8,om 85 4,oo 86 (.ud 2 1 (.t 6) (.t 84)),os 1 86 85] (rt [om 87 0,fq 88 87 1,df 89 5 88 3,dl 90 89 7,of 91 3 5,dl 92 91 16,ox 93 2 6,⟨none,.mupd 0 true (.t 90) (.t 92) (.t 93),none,127⟩]))))))))))) (rf [oj 94 .add 27 1,
 om 27 94]))))
def i70_r2:aK:=(aP [om 95 0,on 96 95,of 97 5 96,ol 98 97,oo 99 (.mlen (.t 98)),om 100 3,oj 101 .quo 100 2,ot 102 .eql 99 101,om 2 102])
def i70:aX:=⟨103,[(2,none)],(aq [mb 2 false] (aq [om 9 0,on 10 9,of 11 0 10,ox 12 2 11,oc 13 4480064256 42 [.t 12],om 3 13] (.seq (aq [om 14 3,oj 15 .rem 14 2,oj 16 .neq 15 0] (ct 16 (aP [mb 2 false]) .skip)) (aq [om 17 0,oo 18 (.mkmap 4480256064 true),on 19 17,of 20 5 19,os 1 20 18] (.seq (aq [om 21 0,on 22 21,of 23 0 22,of 24 1 23,ol 25 24,oh 26 25,mi 27 0] (dZ i70_l1)) i70_r2)))))⟩
def i71_l1:aK:=(.seq (aq [om 35 4,om 36 7,oi 37 1 35 36,ol 38 37,nH 39 38] (ct 39 .skip (.exit 2))) (.seq (.block 3 (rf [om 43 4,om 44 7,oi 45 1 43 44,op (.store 1 (.t 45) (.b true))])) (rf [om 40 0,om 41 7,oc 42 4544704128 89 [.t 40,.t 41],om 7 42])))
def i71_r2:aK:=(rf [oj 46 .add 25 1,om 25 46])
def i71_l3:aK:=(aq [ot 26 .lss 25 24] (.seq (eO 26) (.seq (.block 1 (aq [om 27 25,om 6 27] (.seq (aq [om 28 4,om 29 6,oi 30 1 28 29,ol 31 30] (ct 31 (.exit 1) .skip)) (aq [om 32 5,oj 33 .add 32 1,om 5 33] (aq [om 34 6,om 7 34] (.block 2 (.loop i71_l1))))))) i71_r2)))
def i71_r4:aK:=(ef [om 47 5,om 48 0,fq 49 48 2,df 50 3 49 6,dl 51 50 14,uc 52 51 30,om 53 0,fq 54 53 64,df 55 5 54 192,dl 56 55 448,od 57 (.mlen (.t 56)) 960,dt 58 .add 52 57 2046,dj 59 .add 58 2 4094,dt 60 .eql 47 59 8191,dm 2 60 16383] .ret)
def i71:aX:=⟨61,[(2,none)],(aq [mb 2 false] (ef [om 8 0,fq 9 8 1,df 10 0 9 3,df 11 1 10 7,dl 12 11 15,uc 13 12 31,db 14 .mul (.i 2) (.t 13) 63,om 15 0,fq 16 15 128,df 17 3 16 384,dl 18 17 896,uc 19 18 1920,db 20 .mul (.i 2) (.t 19) 3968,dt 21 .add 14 20 8191,dm 3 21 16383] (aq [om 22 3,oo 23 (.rS 4544128064 4 1 1 [cZ] (.t 22) (.t 22)),om 4 23] (aq [mi 5 0] (.seq (aq [om 24 3,mi 25 0] (dZ i71_l3)) i71_r4)))))⟩
def i43_l1:aK:=(aq [ot 25 .lss 24 23] (.seq (eO 25) (.seq (.block 1 (aq [oi 26 1 22 24,ol 27 26,om 4 27] (aq [om 28 4,oo 29 (.call 2752384064 (.t 28) []),nH 30 29] (ct 30 (aP [mb 2 false]) .skip)))) (rf [oj 31 .add 24 1,om 24 31]))))
def i43_r2:aK:=(aP [mb 2 true])
def i43:aX:=⟨32,[(2,none)],(aq [mb 2 false] (.seq (aq [om 5 0,on 6 5,of 7 0 6,of 8 1 7,ol 9 8,oh 10 9,oj 11 .eql 10 0] (ct 11 (aP [mb 2 true]) .skip)) (.seq (aq [om 12 0,oo 13 (.mkfn 67 [.t 12] []),om 14 0,oo 15 (.mkfn 68 [.t 14] []),om 16 0,oo 17 (.mkfn 69 [.t 16] []),om 18 0,oo 19 (.mkfn 70 [.t 18] []),om 20 0,oo 21 (.mkfn 71 [.t 20] []),oo 22 (.fi 2752192640 26 1 [.t 13,.t 15,.t 17,.t 19,.t 21]),oh 23 22,mi 24 0] (dZ i43_l1)) i43_r2)))⟩
def i89:aX:=⟨156,[(4,none)],(aq [mi 4 0] (ef [om 15 0,fq 16 15 1,df 17 0 16 3,df 18 1 17 7,dl 19 18 15,uc 20 19 31,om 21 0,fq 22 21 64,df 23 3 22 192,dl 24 23 448,uc 25 24 960,dm 5 20 63,dm 6 25 4095] (.seq (aq [om 26 1,om 27 5,ob 28 .mul (.i 2) (.t 27),ot 29 .geq 26 28] (ct 29 (aq [om 30 1,om 31 5,ob 32 .mul (.i 2) (.t 31),ot 33 .sub 30 32,oj 34 .quo 33 2,om 7 34] (aq [om 35 1,oj 36 .rem 35 2,oj 37 .eql 36 0,om 8 37] (aq [om 38 0,on 39 38,of 40 3 39,ol 41 40,om 42 7,oi 43 1 41 42,ol 44 43,om 9 44] (.seq (aq [om 45 8] (ct 45 (rt [om 46 0,fq 47 46 1,df 48 3 47 3,dl 49 48 7,om 50 7,dj 51 .add 50 1 16,om 52 6,dt 53 .rem 51 52 112,di 54 1 49 53 255,dl 55 54 511,dm 9 55 1023]) .skip)) (.seq (aq [om 56 8,om 57 0,on 58 57,of 59 2 58,ol 60 59,om 61 9,
 oi 62 1 60 61,ol 63 62,oo 64 (.eqc .bool false (.t 56) (.t 63))] (ct 64 (aP [om 65 0,om 66 9,oc 67 5696576128 101 [.t 65,.t 66],om 4 67]) .skip)) (aP [om 68 0,om 69 9,oc 70 5696640128 102 [.t 68,.t 69],om 4 70])))))) .skip)) (aq [om 71 1,oj 72 .rem 71 2,oj 73 .eql 72 0,om 10 73] (aq [om 74 1,oj 75 .quo 74 2,om 11 75] (.seq (aq [om 76 10] (ct 76 (rf [om 77 11,oj 78 .add 77 1,om 79 5,ot 80 .rem 78 79,om 11 80]) .skip)) (aq [om 81 0,on 82 81,of 83 0 82,of 84 1 83,ol 85 84,om 86 11,oi 87 6 85 86,ox 88 6 87,oo 12 (.alloc 5696960512 [il 0,il 0,il 0,il 0,il 0,cZ]),os 6 12 88] (.seq (aq [of 89 0 12,ol 90 89,oj 91 .eql 90 1] (ct 91 (.seq (aq [om 92 10,om 93 0,on 94 93,of 95 2 94,ol 96 95,om 97 11,oi 98 1 96 97,ol 99 98,oo 100 (.eqc .bool false (.t 92) (.t 99))] (ct 100 (aP [om 101 5,
 ob 102 .mul (.i 2) (.t 101),om 103 0,on 104 103,of 105 4 104,ol 106 105,om 107 11,oi 108 1 106 107,ol 109 108,ob 110 .mul (.i 2) (.t 109),ot 111 .add 102 110,om 4 111]) .skip)) (aP [om 112 5,ob 113 .mul (.i 2) (.t 112),om 114 0,on 115 114,of 116 4 115,ol 117 116,om 118 11,oi 119 1 117 118,ol 120 119,oj 121 .sub 120 1,om 122 6,ot 123 .add 121 122,om 124 6,ot 125 .rem 123 124,ob 126 .mul (.i 2) (.t 125),ot 127 .add 113 126,oj 128 .add 127 1,om 4 128])) .skip)) (ef [om 129 0,fq 130 129 1,df 131 5 130 3,dl 132 131 7,of 133 3 12,dl 134 133 16,od 135 (.lookup 0 [il 0,il 0] true false (.t 132) (.t 134)) 63,oo 13 (.alloc 5697280448 [il 0,il 0]),iw 2 13 135 255] (aq [oo 136 (.ud 2 1 (.t 13) (.i 1)),ol 137 136,om 14 137] (.seq (aq [of 138 5 12,ol 139 138] (ct 139 (rf [oo 140 (.ud 2 1 (.t 13) (.i 0)),
 ol 141 140,om 14 141]) .skip)) (.seq (aq [om 142 10,of 143 5 12,ol 144 143,of 145 4 12,ol 146 145,oj 147 .eql 146 1,oo 148 (.eqc .bool false (.t 144) (.t 147)),oo 149 (.eqc .bool false (.t 142) (.t 148))] (ct 149 (aP [om 150 0,om 151 14,oc 152 5697600128 102 [.t 150,.t 151],om 4 152]) .skip)) (aP [om 153 0,om 154 14,oc 155 5697664128 101 [.t 153,.t 154],om 4 155])))))))))))))⟩
def i102:aX:=⟨7,[(4,none)],(aq [mi 4 0] (aP [om 5 1,ob 6 .mul (.i 2) (.t 5),om 4 6]))⟩
def i101:aX:=⟨20,[(4,none)],(aq [mi 4 0] (aq [om 6 0,on 7 6,of 8 0 7,of 9 1 8,ol 10 9,oh 11 10,om 5 11] (aP [om 12 1,oj 13 .sub 12 1,om 14 5,ot 15 .add 13 14,om 16 5,ot 17 .rem 15 16,ob 18 .mul (.i 2) (.t 17),oj 19 .add 18 1,om 4 19])))⟩
def i86:aX:=⟨9,[(4,none)],(aq [mb 4 false] (aP [om 5 0,om 6 1,oc 7 5504064128 100 [.t 5,.t 6],oj 8 .geq 7 0,om 4 8]))⟩
def i100_l1:aK:=(aq [ot 9 .lss 8 7] (.seq (eO 9) (.seq (.block 1 (aq [om 10 8,om 5 10] (aq [om 11 1,om 12 0,om 13 5,oi 14 6 12 13,ox 15 6 14,oo 16 (.call 6400256320 (.t 11) [.t 15])] (ct 16 (aP [om 17 5,om 4 17]) .skip)))) (rf [oj 18 .add 8 1,om 8 18]))))
def i100_r2:aK:=(aP [oo 4 (.jU (.i (-1)))])
def i100:aX:=⟨19,[(4,none)],(aq [mi 4 0] (.seq (aq [om 6 0,oh 7 6,mi 8 0] (dZ i100_l1)) i100_r2))⟩
def i10:aX:=⟨54,[(2,none)],(aq [dB 1 640000000 0,mi 2 0] (.seq (aq [of 4 1 1,ol 5 4,oh 6 5,oj 7 .gtr 6 400,om 8 7,gx_ 9 2 1 8,DJ 10 640064384 31 [.t 9] 8,ny 11 .gtr 10 200 8,gJ 12 8 11] (ct 12 (aP [mi 2 7]) .skip)) (.seq (aq [of 13 0 1,ol 14 13,oj 15 .lss 14 0,om 16 15,fS 17 0 1 16,iL 18 17 16,ny 19 .gtr 18 40 16,gJ 20 16 19] (ct 20 (aP [mi 2 2]) .skip)) (.seq (aq [of 21 1 1,ol 22 21,oh 23 22,oj 24 .eql 23 0] (ct 24 (aP [mi 2 0]) .skip)) (aq [ox 25 2 1,
 oc 26 640448064 32 [.t 25],om 3 26] (.seq (ef [of 27 1 1,dl 28 27 1,od 29 (.ql 6 (.t 28) (.i 0)) 3,df 30 0 29 7,dl 31 30 15,dj 32 .neq 31 1 31,dm 33 32 63,lz 34 3 33 127,qw 35 .rem 34 2 33 255,qw 36 .neq 35 0 33 511,jM 37 33 36 1023,dm 38 37 2047,Dm 39 2 1 38 4095,Bw 40 640512832 33 [.t 39] 38 8191,Gu_ 41 40 38 16383,jM 42 38 41 32767,dm 43 42 65535,Dm 44 2 1 43 131071,Bw 45 640513152 34 [.t 44] 43 262143,Gh_ 46 45 43 524287,lz 47 3 43 131071,
 Dm 48 2 1 43 131071,Bw 49 640513408 35 [.t 48] 43 2621439,wW 50 .add 47 49 43 7864319,qw 51 .add 50 2 43 16252927,wW 52 .neq 46 51 43 33554431,jM 53 43 52 67108863] (ct 53 (aP [mi 2 3]) .skip)) (aP [mi 2 0])))))))⟩
def i32_l1:aK:=(.seq (aq [om 5 4,of 6 1 1,ol 7 6,oh 8 7,ot 9 .lss 5 8] (eO 9)) (.seq (.block 1 (aq [of 12 1 1,ol 13 12,om 14 4,oi 15 6 13 14,of 16 0 15,ol 17 16,oj 18 .eql 17 1] (ct 18 (rf [om 19 3,oj 20 .add 19 1,om 3 20]) .skip))) (rf [om 10 4,oj 11 .add 10 1,om 4 11])))
def i32_r2:aK:=(aP [om 21 3,om 2 21])
def i32:aX:=⟨22,[(2,none)],(aq [dB 1 2048000000 0,mi 2 0] (aq [mi 3 0] (.seq (aq [mi 4 0] (dZ i32_l1)) i32_r2)))⟩
def i35:aX:=⟨6,[(2,none)],(aq [dB 1 2240000000 0,mi 2 0] (aP [ox 3 2 1,oc 4 2240064064 31 [.t 3],oj 5 .quo 4 2,om 2 5]))⟩
def i31_l1:aK:=(.seq (aq [om 5 4,of 6 1 1,ol 7 6,oh 8 7,ot 9 .lss 5 8] (eO 9)) (.seq (.block 1 (aq [of 12 1 1,ol 13 12,om 14 4,oi 15 6 13 14,of 16 0 15,ol 17 16,oj 18 .eql 17 2] (ct 18 (rf [om 19 3,oj 20 .add 19 1,om 3 20]) .skip))) (rf [om 10 4,oj 11 .add 10 1,om 4 11])))
def i31_r2:aK:=(aP [om 21 3,om 2 21])
def i31:aX:=⟨22,[(2,none)],(aq [dB 1 1984000000 0,mi 2 0] (aq [mi 3 0] (.seq (aq [mi 4 0] (dZ i31_l1)) i31_r2)))⟩
def i54_l1:aK:=(.seq (aq [om 7 6,of 8 1 2,ol 9 8,oh 10 9,ot 11 .lss 7 10] (eO 11)) (.seq (.block 1 (aq [of 14 1 2,ol 15 14,om 16 6,oi 17 6 15 16,of 18 0 17,ol 19 18,oj 20 .eql 19 1,om 21 20,eL 22 1 2 21,fA 23 22 21,fU 24 6 21,Af 25 6 23 24 21,eL 26 1 25 21,fA 27 26 21,fU 28 1 21,xM 29 .eql 27 28 21,jH 30 21 29] (ct 30 (rf [om 31 5,oj 32 .add 31 1,om 5 32]) .skip))) (rf [om 12 6,oj 13 .add 12 1,om 6 13])))
def i54_r2:aK:=(aP [om 33 5,om 4 33])
def i54:aX:=⟨34,[(4,none)],(aq [dB 2 3456000000 0,mi 4 0] (aq [mi 5 0] (.seq (aq [mi 6 0] (dZ i54_l1)) i54_r2)))⟩
def i81_l1:aK:=(.seq (aq [om 7 6,om 8 1,ot 9 .lss 7 8] (eO 9)) (.seq (.block 1 (aq [of 12 1 2,ol 13 12,om 14 6,oi 15 6 13 14,of 16 0 15,ol 17 16,oj 18 .eql 17 1] (ct 18 (rf [om 19 5,oj 20 .add 19 1,om 5 20]) .skip))) (rf [om 10 6,oj 11 .add 10 1,om 6 11])))
def i81_r2:aK:=(aP [om 21 5,oj 22 .rem 21 2,oj 23 .eql 22 0,om 4 23])
def i81:aX:=⟨24,[(4,none)],(aq [dB 2 5184000000 0,mb 4 false] (aq [mi 5 0] (.seq (aq [mi 6 0] (dZ i81_l1)) i81_r2)))⟩
def i33_l1:aK:=(.seq (aq [om 21 7,of 22 1 1,ol 23 22,oh 24 23,ot 25 .lss 21 24] (ct 25 .skip (.exit 2))) (.seq (.block 3 (aq [of 28 1 1,ol 29 28,om 30 7,oi 31 6 29 30,ox 32 6 31,oo 8 (.alloc 2112576320 [il 0,il 0,il 0,il 0,il 0,cZ]),os 6 8 32] (.seq (aq [of 33 0 8,ol 34 33,of 35 0 4,ol 36 35,ot 37 .eql 34 36,om 38 37,eL 39 1 8 38,fA 40 39 38,eL 41 1 4 38,fA 42 41 38,xM 43 .eql 40 42 38,jH 44 38 43,om 45 44,eL 46 2 8 45,fA 47 46 45,eL 48 2 4 45,fA 49 48 45,
 xM 50 .eql 47 49 45,jH 51 45 50] (ct 51 (rf [om 52 5,oj 53 .add 52 1,om 5 53]) .skip)) (aq [of 54 0 8,ol 55 54,of 56 0 4,ol 57 56,ot 58 .eql 55 57,om 59 58,eL 60 3 8 59,fA 61 60 59,eL 62 3 4 59,fA 63 62 59,xM 64 .eql 61 63 59,jH 65 59 64,om 66 65,eL 67 4 8 66,fA 68 67 66,eL 69 4 4 66,fA 70 69 66,xM 71 .eql 68 70 66,jH 72 66 71,om 73 72,eL 74 5 8 73,
 fA 75 74 73,eL 76 5 4 73,fA 77 76 73,Ew 78 (.eqc .bool true (.t 75) (.t 77)) 73,jH 79 73 78] (ct 79 (rf [om 80 6,oj 81 .add 80 1,om 6 81]) .skip))))) (rf [om 26 7,oj 27 .add 26 1,om 7 27])))
def i33_r2:aK:=(aq [of 82 0 4,ol 83 82] (.block 4 (aq [oj 85 .eql 83 1,om 84 85] (ct 84 (ef [of 86 3 4,dl 87 86 1,dj 88 .neq 87 0 3,dm 89 88 7,gk 90 4 4 89 15,ig 91 90 89 31,qw 92 .neq 91 0 89 63,jM 93 89 92 127,dm 94 93 255,gk 95 5 4 94 511,ig 96 95 94 1023,jM 97 94 96 2047,dm 98 97 4095,gk 99 1 4 98 8191,ig 100 99 98 16383,qw 101 .lss 100 0 98 32767,jM 102 98 101 65535,dm 103 102 131071,gk 104 1 4 103 262143,ig 105 104 103 524287,
 gk 106 0 1 103 262143,ig 107 106 103 1310719,wW 108 .gtr 105 107 103 4194303,jM 109 103 108 8388607,dm 110 109 16777215,gk 111 2 4 110 33554431,ig 112 111 110 67108863,qw 113 .lss 112 1 110 134217727,jM 114 110 113 268435455,dm 115 114 536870911,gk 116 2 4 115 1073741823,ig 117 116 115 2147483647,Dm 118 2 1 115 1073741823,gk 119 1 4 115 1073741823,ig 120 119 115 9663676415,Bw 121 2113090240 54 [.t 118,.t 120] 115 31138512895,
 wW 122 .gtr 117 121 115 68719476735,jM 123 115 122 137438953471,dm 124 123 274877906943,lz 125 5 124 549755813887,qw 126 .neq 125 1 124 1099511627775,jM 127 124 126 2199023255551] (ct 127 (aP [mb 2 false]) .skip)) (aq [oj 129 .eql 83 2,om 128 129] (ct 128 (ef [of 130 1 4,dl 131 130 1,dj 132 .neq 131 0 3,dm 133 132 7,gk 134 2 4 133 15,ig 135 134 133 31,qw 136 .neq 135 0 133 63,jM 137 133 136 127,dm 138 137 255,gk 139 4 4 138 511,ig 140 139 138 1023,qw 141 .neq 140 1 138 2047,
 lz 142 141 138 4095,mE 143 4 4 142 8191,kD 144 143 142 16383,Ki 145 (.bin .neq (.t 144) (.i (-1))) 142 32767,Gq_ 146 142 145 138 65535,jM 147 138 146 131071,dm 148 147 262143,gk 149 3 4 148 524287,ig 150 149 148 1048575,qw 151 .lss 150 1 148 2097151,jM 152 148 151 4194303,dm 153 152 8388607,gk 154 3 4 153 16777215,ig 155 154 153 33554431,Dm 156 2 1 153 16777215,Bw 157 2113281728 31 [.t 156] 153 83886079,
 qw 158 .quo 157 2 153 218103807,wW 159 .gtr 155 158 153 536870911,jM 160 153 159 1073741823,dm 161 160 2147483647,lz 162 6 161 4294967295,qw 163 .neq 162 1 161 8589934591,jM 164 161 163 17179869183,dm 165 164 34359738367,Dm 166 2 1 165 68719476735,gk 167 3 4 165 68719476735,ig 168 167 165 206158430207,Bw 169 2113282496 55 [.t 166,.t 168] 165 549755813887,qw 170 .neq 169 2 165 1099511627775,jM 171 165 170 2199023255551] (ct 171 (aP [mb 2 false]) .skip)) (aP [mb 2 false])))))))
def i33_r3:aK:=(rf [om 14 3,oj 15 .add 14 1,om 3 15])
def i33_l4:aK:=(.seq (aq [om 9 3,of 10 1 1,ol 11 10,oh 12 11,ot 13 .lss 9 12] (eO 13)) (.seq (.block 1 (aq [of 16 1 1,ol 17 16,om 18 3,oi 19 6 17 18,ox 20 6 19,oo 4 (.alloc 2112256320 [il 0,il 0,il 0,il 0,il 0,cZ]),os 6 4 20] (aq [mi 5 0,mi 6 0] (.seq (aq [mi 7 0] (.block 2 (.loop i33_l1))) i33_r2)))) i33_r3))
def i33_r5:aK:=(aP [mb 2 true])
def i33:aX:=⟨172,[(2,none)],(aq [dB 1 2112000000 0,mb 2 false] (.seq (aq [mi 3 0] (dZ i33_l4)) i33_r5))⟩
def i55_l1:aK:=(.seq (aq [om 7 6,of 8 1 2,ol 9 8,oh 10 9,ot 11 .lss 7 10] (eO 11)) (.seq (.block 1 (aq [of 14 1 2,ol 15 14,om 16 6,oi 17 6 15 16,of 18 0 17,ol 19 18,oj 20 .eql 19 2,om 21 20,eL 22 1 2 21,fA 23 22 21,fU 24 6 21,Af 25 6 23 24 21,eL 26 3 25 21,fA 27 26 21,fU 28 1 21,xM 29 .eql 27 28 21,jH 30 21 29] (ct 30 (rf [om 31 5,oj 32 .add 31 1,om 5 32]) .skip))) (rf [om 12 6,oj 13 .add 12 1,om 6 13])))
def i55_r2:aK:=(aP [om 33 5,om 4 33])
def i55:aX:=⟨34,[(4,none)],(aq [dB 2 3520000000 0,mi 4 0] (aq [mi 5 0] (.seq (aq [mi 6 0] (dZ i55_l1)) i55_r2)))⟩
def i82_l1:aK:=(.seq (aq [om 6 5,of 7 1 2,ol 8 7,oh 9 8,ot 10 .lss 6 9] (eO 10)) (.seq (.block 1 (ef [om 13 5,om 14 1,dt 15 .neq 13 14 3,dm 16 15 7,mE 17 1 2 16 15,kD 18 17 16 31,kr 19 5 16 15,r9 20 6 18 19 16 127,mE 21 0 20 16 255,kD 22 21 16 511,yn 23 .eql 22 2 16 1023,wX 24 16 23 2047,dm 25 24 4095,mE 26 1 2 25 8191,kD 27 26 25 16383,kr 28 5 25 8191,r9 29 6 27 28 25 65535,mE 30 3 29 25 131071,
 kD 31 30 25 262143,mE 32 1 2 25 8191,kD 33 32 25 532479,kr 34 1 25 8191,r9 35 6 33 34 25 3678207,mE 36 3 35 25 7872511,kD 37 36 25 16261119,Ht_ 38 .eql 31 37 25 33554431,wX 39 25 38 67108863] (ct 39 (aP [om 40 5,om 4 40]) .skip))) (rf [om 11 5,oj 12 .add 11 1,om 5 12])))
def i82_r2:aK:=(aP [om 41 1,om 4 41])
def i82:aX:=⟨42,[(4,none)],(aq [dB 2 5248000000 0,mi 4 0] (.seq (aq [mi 5 0] (dZ i82_l1)) i82_r2))⟩
def i79:aX:=⟨24,[(4,none)],(aq [dB 2 5056000000 0,dB 3 5056000064 1,mb 4 false] (aP [of 5 1 2,ol 6 5,of 7 1 3,ol 8 7,ot 9 .lss 6 8,om 10 9,fS 11 1 2 10,iL 12 11 10,fS 13 1 3 10,iL 14 13 10,uu 15 .eql 12 14 10,eh 16 15 10,eL 17 2 2 16,fA 18 17 16,eL 19 2 3 16,fA 20 19 16,xM 21 .lss 18 20 16,ur 22 16 21 10,gJ 23 10 22,om 4 23]))⟩
def i56_l1:aK:=(.seq (ef [om 20 5,om 21 3,uc 22 21 2,dt 23 .lss 20 22 7,dm 24 23 15,mE 25 1 1 24 31,kD 26 25 24 63,kr 27 3 24 31,kr 28 5 24 31,r9 29 1 27 28 24 415,kD 30 29 24 927,r9 31 6 26 30 24 2047,Hk 32 6 31 24 4095,mE 33 1 1 24 31,kD 34 33 24 8223,kr 35 4 24 31,r9 36 6 34 35 24 57375,Hk 37 6 36 24 122911,Hc_ 38 3584449152 79 [.t 32,.t 37] 24 262143,
 wX 39 24 38 524287] (ct 39 .skip (.exit 2))) (.block 3 (rf [om 40 5,oj 41 .add 40 1,om 5 41])))
def i56_r2:aK:=(rt [om 42 3,om 43 5,od 44 (.slice 1 (.t 42) none (some (.t 43))) 3,od 45 (.append 3584576192 3 1 8 (.k (.one (.p (.nils)))) (.t 44)) 7,om 46 4,od 47 (.fi 3584576320 3 1 [.t 46]) 16,uO 48 3584576384 3 1 8 45 47 63,om 49 3,om 50 5,od 51 (.slice 1 (.t 49) (some (.t 50)) none) 384,uO 52 3584576640 3 1 8 48 51 1023,dm 3 52 2047])
def i56_r3:aK:=(rf [om 11 4,oj 12 .add 11 1,om 4 12])
def i56_l4:aK:=(.seq (aq [om 6 4,of 7 1 1,ol 8 7,oh 9 8,ot 10 .lss 6 9] (eO 10)) (.seq (.block 1 (.seq (aq [of 13 1 1,ol 14 13,om 15 4,oi 16 6 14 15,of 17 0 16,ol 18 17,oj 19 .neq 18 1] (ct 19 (.exit 1) .skip)) (aq [mi 5 0] (.seq (.block 2 (.loop i56_l1)) i56_r2)))) i56_r3))
def i56_r5:aK:=(aP [om 53 3,om 2 53])
def i56:aX:=⟨54,[(2,none)],(aq [dB 1 3584000000 0,eo 2] (aq [eo 3] (.seq (aq [mi 4 0] (dZ i56_l4)) i56_r5)))⟩
def i83_l1:aK:=(.seq (aq [om 6 5,om 7 0,oh 8 7,ot 9 .lss 6 8] (eO 9)) (.seq (.block 1 (aq [om 12 0,om 13 5,oi 14 1 12 13,ol 15 14,om 16 1,ot 17 .eql 15 16] (ct 17 (aP [om 18 5,om 4 18]) .skip))) (rf [om 10 5,oj 11 .add 10 1,om 5 11])))
def i83_r2:aK:=(aP [oo 4 (.jU (.i (-1)))])
def i83:aX:=⟨19,[(4,none)],(aq [mi 4 0] (.seq (aq [mi 5 0] (dZ i83_l1)) i83_r2))⟩
def i80:aX:=⟨22,[(6,none)],(aq [dB 3 5120000000 0,mi 6 0] (aq [of 8 1 3,ol 9 8,oh 10 9,om 7 10] (.seq (aq [om 11 2] (ct 11 (aP [om 12 1,ob 13 .mul (.i 2) (.t 12),om 6 13]) .skip)) (aP [om 14 1,om 15 7,ot 16 .add 14 15,oj 17 .sub 16 1,om 18 7,ot 19 .rem 17 18,ob 20 .mul (.i 2) (.t 19),oj 21 .add 20 1,om 6 21]))))⟩
def i57:aX:=⟨114,[(6,none)],(aq [dB 3 3648000000 0,mi 6 0] (aq [of 17 1 3,ol 18 17,oh 19 18,om 20 1,oh 21 20,om 7 19,om 8 21] (.seq (aq [om 22 2,om 23 7,ob 24 .mul (.i 2) (.t 23),ot 25 .geq 22 24] (ct 25 (aq [om 26 2,om 27 7,ob 28 .mul (.i 2) (.t 27),ot 29 .sub 26 28,oj 30 .quo 29 2,om 9 30] (.seq (aq [om 31 2,oj 32 .rem 31 2,oj 33 .eql 32 0] (ct 33 (aq [om 34 1,om 35 9,oj 36 .add 35 1,om 37 8,ot 38 .rem 36 37,oi 39 1 34 38,ol 40 39,om 10 40] (ef [ox 41 2 3,om 42 10,ox 43 2 3,om 44 10,dc 45 3648384256 81 [.t 43,.t 44] 12,Ku_ 46 45 28,dc 47 3648384384 80 [.t 41,.t 42,.t 46] 63,dm 6 47 127] .ret)) .skip)) (aq [om 48 1,om 49 9,oi 50 1 48 49,ol 51 50,om 11 51] (ef [ox 52 2 3,om 53 11,ox 54 2 3,om 55 11,dc 56 3648512256 81 [.t 54,.t 55] 12,dc 57 3648512320 80 [.t 52,.t 53,.t 56] 31,
 dm 6 57 63] .ret)))) .skip)) (aq [om 58 2,oj 59 .rem 58 2,oj 60 .eql 59 0,om 12 60] (aq [om 61 2,oj 62 .quo 61 2,om 13 62] (.seq (aq [om 63 12] (ct 63 (rf [om 64 13,oj 65 .add 64 1,om 66 7,ot 67 .rem 65 66,om 13 67]) .skip)) (aq [of 68 1 3,ol 69 68,om 70 13,oi 71 6 69 70,ox 72 6 71,oo 14 (.alloc 3648832320 [il 0,il 0,il 0,il 0,il 0,cZ]),os 6 14 72] (.seq (aq [of 73 0 14,ol 74 73,oj 75 .eql 74 2] (ct 75 (aq [of 76 5 14,ol 77 76,of 78 4 14,ol 79 78,oj 80 .eql 79 1,oo 81 (.eqc .bool false (.t 77) (.t 80)),om 15 81] (ef [ox 82 2 3,ox 83 2 3,om 84 13,dc 85 3649024192 82 [.t 83,.t 84] 6,om 86 12,om 87 15,od 88 (.eqc .bool false (.t 86) (.t 87)) 48,dc 89 3649024448 80 [.t 82,.t 85,.t 88] 127,dm 6 89 255] .ret)) .skip)) (aq [om 90 1,om 91 13,oc 92 3649088128 83 [.t 90,.t 91],om 16 92] (.seq (aq [ox 93 2 3,
 om 94 13,oc 95 3649152128 81 [.t 93,.t 94],om 96 12,oo 97 (.eqc .bool false (.t 95) (.t 96))] (ct 97 (aP [om 98 7,ob 99 .mul (.i 2) (.t 98),om 100 16,ob 101 .mul (.i 2) (.t 100),ot 102 .add 99 101,om 6 102]) .skip)) (aP [om 103 7,ob 104 .mul (.i 2) (.t 103),om 105 16,om 106 8,ot 107 .add 105 106,oj 108 .sub 107 1,om 109 8,ot 110 .rem 108 109,ob 111 .mul (.i 2) (.t 110),ot 112 .add 104 111,oj 113 .add 112 1,om 6 113])))))))))))⟩
def i34_l1:aK:=(.seq (aq [om 31 5,om 32 8,oi 33 1 31 32,ol 34 33,nH 35 34] (ct 35 .skip (.exit 2))) (.seq (.block 3 (aq [om 40 5,om 41 8,oi 42 1 40 41,op (.store 1 (.t 42) (.b true))] (rf [om 43 7,om 44 8,oo 45 (.fi 2176832128 3 1 [.t 44]),mR 46 2176832192 3 1 8 43 45,om 7 46]))) (rf [ox 36 2 1,om 37 4,om 38 8,oc 39 2176704192 57 [.t 36,.t 37,.t 38],om 8 39])))
def i34_r2:aK:=(rf [om 47 3,om 48 7,oo 49 (.fi 2176896128 62 1 [.t 48]),mR 50 2176896192 62 1 24 47 49,om 3 50])
def i34_r3:aK:=(rf [om 24 6,oj 25 .add 24 1,om 6 25])
def i34_l4:aK:=(.seq (aq [om 20 6,om 21 5,oh 22 21,ot 23 .lss 20 22] (eO 23)) (.seq (.block 1 (.seq (aq [om 26 5,om 27 6,oi 28 1 26 27,ol 29 28] (ct 29 (.exit 1) .skip)) (aq [eo 7] (.seq (aq [om 30 6,om 8 30] (.block 2 (.loop i34_l1))) i34_r2)))) i34_r3))
def i34_r5:aK:=(aP [om 51 3,om 2 51])
def i34:aX:=⟨52,[(2,none)],(aq [dB 1 2176000000 0,eo 2] (aq [eo 3] (aq [ox 9 2 1,oc 10 2176128064 56 [.t 9],om 4 10] (aq [of 11 1 1,ol 12 11,oh 13 12,ob 14 .mul (.i 2) (.t 13),om 15 4,oh 16 15,ob 17 .mul (.i 2) (.t 16),ot 18 .add 14 17,oo 19 (.rS 2176192512 4 1 1 [cZ] (.t 18) (.t 18)),om 5 19] (.seq (aq [mi 6 0] (dZ i34_l4)) i34_r5)))))⟩
def i91_l1:aK:=(aq [ot 31 .lss 30 29] (.seq (eO 31) (.seq (.block 1 (aq [om 32 30,om 9 32] (aq [om 33 7,om 34 9,oi 35 1 33 34,ol 36 35,nH 37 36] (ct 37 (rf [om 38 6,om 39 4,om 40 9,om 41 7,om 42 8,oc 43 5824704320 104 [.t 39,.t 40,.t 41,.t 42],oo 44 (.fi 5824704384 152 5 [.t 43]),mR 45 5824704448 152 5 88 38 44,om 6 45]) .skip)))) (rf [oj 46 .add 30 1,om 30 46]))))
def i91_r2:aK:=(aP [om 47 6,om 2 47,mi 3 0])
def i91:aX:=⟨48,[(2,none),(3,none)],(aq [dB 1 5824000000 0,eo 2,mi 3 0] (aq [ox 11 2 1,oc 12 5824064064 19 [.t 11],om 10 12,oe 13 10 0,oe 14 10 1,om 4 13,om 5 14] (.seq (aq [om 15 5,oj 16 .neq 15 0] (ct 16 (aP [om 17 5,eo 2,om 3 17]) .skip)) (aq [eo 6] (aq [om 18 4,on 19 18,of 20 0 19,of 21 1 20,ol 22 21,oh 23 22,ob 24 .mul (.i 2) (.t 23),oo 25 (.rS 5824320448 4 1 1 [cZ] (.t 24) (.t 24)),om 7 25] (aq [om 26 4,oc 27 5824384064 103 [.t 26],om 8 27] (.seq (aq [om 28 7,oh 29 28,mi 30 0] (dZ i91_l1)) i91_r2)))))))⟩
def i74_l1:aK:=(aq [ot 45 .lss 44 43] (.seq (eO 45) (.seq (.block 1 (aq [oi 46 6 42 44,ox 47 6 46,oo 9 (.alloc 4736512128 [il 0,il 0,il 0,il 0,il 0,cZ]),os 6 9 47] (aq [ox 48 6 9,oo 49 (.build [il 0,il 0,il 0,il 0,il 0,cZ,cZ] [(0,6,.t 48)]),oo 10 (.alloc 4736576128 [il 0,il 0,il 0,il 0,il 0,cZ,cZ]),os 7 10 49] (.seq (aq [of 50 0 9,ol 51 50,oj 52 .eql 51 1] (ct 52 (aq [om 53 7,of 54 6 10,os 1 54 53] (aq [om 55 7,nH 56 55,om 7 56] (rt [om 57 6,fq 58 57 1,df 59 6 58 3,dl 60 59 7,of 61 1 9,dl 62 61 16,di 63 1 60 62 63,dl 64 63 127,dj 65 .add 64 1 255,di 66 1 60 62 511,iw 1 66 65 1023]))) .skip)) (rt [om 67 6,om 68 6,fq 69 68 2,df 70 1 69 6,dl 71 70 14,ox 72 7 10,od 73 (.fi 4736896384 149 7 [.t 72]) 32,
 uO 74 4736896448 149 7 56 71 73 126,fq 75 67 255,df 76 1 75 511,iw 1 76 74 1023]))))) (rf [oj 77 .add 44 1,om 44 77]))))
def i74_l2:aK:=(aq [ot 89 .lss 88 87] (.seq (ct 89 .skip (.exit 4)) (.seq (.block 5 (aq [oi 90 1 86 88,ol 91 90,om 14 91] (rf [om 92 6,on 93 92,of 94 3 93,ol 95 94,om 96 14,om 97 11,oi 98 1 95 96,os 1 98 97]))) (rf [oj 99 .add 88 1,om 88 99]))))
def i74_r3:aK:=(rf [oj 100 .add 80 1,om 80 100])
def i74_l4:aK:=(aq [ot 81 .lss 80 79] (.seq (ct 81 .skip (.exit 2)) (.seq (.block 3 (aq [om 82 80,oi 83 5 78 80,ox 84 5 83,oo 12 (.alloc 4737152192 [cZ,.nils,.nils,.nils,cZ]),om 11 82,os 5 12 84] (aq [of 85 1 12,ol 86 85,oh 87 86,mi 88 0] (.block 4 (.loop i74_l2))))) i74_r3)))
def i74_r5:aK:=(aP [om 101 6,om 2 101,mi 3 0])
def i74_r6:aK:=(.seq (aq [om 78 4,oh 79 78,mi 80 0] (.block 2 (.loop i74_l4))) i74_r5)
def i74:aX:=⟨102,[(2,none),(3,none)],(aq [dB 1 4736000000 0,Jk 2,mi 3 0] (aq [ox 16 2 1,oc 17 4736064064 91 [.t 16],om 15 17,oe 18 15 0,oe 19 15 1,om 4 18,om 5 19] (.seq (aq [om 20 5,oj 21 .neq 20 0] (ct 21 (aP [om 22 5,Jk 2,om 3 22]) .skip)) (ef [of 23 0 1,dl 24 23 1,om 25 4,of 26 1 1,dl 27 26 8,uc 28 27 24,db 29 .mul (.i 2) (.t 28) 56,od 30 (.rS 4736256448 3 1 8 [il 0] (.t 29) (.t 29)) 120,ox 31 2 1,dc 32 4736256576 88 [.t 31] 256,ox 33 2 1,dc 34 4736256704 92 [.t 33] 1792,of 35 0 1,dl 36 35 4096,dj 37 .add 36 1 12288,od 38 (.rS 4736256960 3 1 8 [il 0] (.t 37) (.t 37)) 28672,od 39 (.build [il 0,.nils,.nils,.nils,il 0,il 0,.nils] [(0,1,.t 24),(2,1,.t 25),(3,1,.t 30),(4,1,.t 32),(5,1,.t 34),(6,1,.t 38)]) 65535,
 Kb_ 40 4736257088 39 131071,dm 6 40 262143] (aq [mb 7 true] (.seq (aq [of 41 1 1,ol 42 41,oh 43 42,mi 44 0] (dZ i74_l1)) i74_r6))))))⟩
def i47:aX:=⟨22,[(4,some (some 2)),(5,none)],(aq [dB 2 3008000000 0,dB 3 3008000064 1,oo 4 (.alloc 3008000128 [il 0,.nils]),mi 5 0] (aq [ox 9 2 2,oc 10 3008064064 74 [.t 9],om 8 10,oe 11 8 0,oe 12 8 1,om 6 11,om 7 12] (.seq (aq [om 13 7,oj 14 .neq 13 0] (ct 14 (aP [oo 15 (.build [il 0,.nils] []),om 16 7,os 2 4 15,om 5 16]) .skip)) (aP [om 17 6,ox 18 7 3,oc 19 3008256128 75 [.t 17,.t 18],oe 20 19 0,oe 21 19 1,os 2 4 20,om 5 21]))))⟩
def i51:aX:=⟨25,[(4,none),(5,none)],(aq [dB 2 3264000000 0,eo 4,mi 5 0] (aq [ox 11 2 2,oc 12 3264064064 74 [.t 11],om 10 12,oe 13 10 0,oe 14 10 1,om 6 13,om 7 14] (.seq (aq [om 15 7,oj 16 .neq 15 0] (ct 16 (aP [om 17 7,eo 4,om 5 17]) .skip)) (aq [om 19 6,om 20 1,oc 21 3264256128 78 [.t 19,.t 20],om 18 21,oe 22 18 0,oe 23 18 1,om 8 22,om 9 23] (aP [om 24 8,om 4 24,mi 5 0])))))⟩
def i29_l1:aK:=(.seq (aq [om 20 5,of 21 1 2,ol 22 21,oh 23 22,ot 24 .lss 20 23] (eO 24)) (.seq (.block 1 (ef [of 27 1 2,dl 28 27 1,om 29 5,di 30 6 28 29 7,dx 31 6 30 15,of 32 1 3,dl 33 32 32,om 34 5,di 35 6 33 34 224,dx 36 6 35 480,od 37 (.eqc (.str [true,true,true,true,true,false]) true (.t 31) (.t 36)) 1023] (ct 37 (aP [mb 4 false]) .skip))) (rf [om 25 5,oj 26 .add 25 1,om 5 26])))
def i29_r2:aK:=(aP [mb 4 true])
def i29:aX:=⟨38,[(4,none)],(aq [dB 2 1856000000 0,dB 3 1856000064 1,mb 4 false] (.seq (aq [of 6 0 2,ol 7 6,of 8 0 3,ol 9 8,ot 10 .neq 7 9,om 11 10,fS 12 1 2 11,iL 13 12 11,Il 14 13 11,fS 15 1 3 11,iL 16 15 11,Il 17 16 11,uu 18 .neq 14 17 11,gJ 19 11 18] (ct 19 (aP [mb 4 false]) .skip)) (.seq (aq [mi 5 0] (dZ i29_l1)) i29_r2)))⟩
def i30_l1:aK:=(.seq (aq [om 11 5,om 12 0,oh 13 12,ot 14 .lss 11 13] (eO 14)) (.seq (.block 1 (ef [om 17 0,om 18 5,di 19 7 17 18 3,dx 20 7 19 7,om 21 1,om 22 5,di 23 7 21 22 48,dx 24 7 23 112,od 25 (.eqc (.str [true,true,true,true,false,false,true]) true (.t 20) (.t 24)) 255] (ct 25 (aP [mb 4 false]) .skip))) (rf [om 15 5,oj 16 .add 15 1,om 5 16])))
def i30_r2:aK:=(aP [mb 4 true])
def i30:aX:=⟨26,[(4,none)],(aq [mb 4 false] (.seq (aq [om 6 0,oh 7 6,om 8 1,oh 9 8,ot 10 .neq 7 9] (ct 10 (aP [mb 4 false]) .skip)) (.seq (aq [mi 5 0] (dZ i30_l1)) i30_r2)))⟩
def i75:aX:=⟨55,[(4,some (some 2)),(5,none)],(aq [dB 3 4800000000 1,oo 4 (.alloc 4800000064 [il 0,.nils]),mi 5 0] (.seq (aq [om 10 0,ox 11 7 3,oc 12 4800064128 93 [.t 10,.t 11],nH 13 12] (ct 13 (aP [oo 14 (.build [il 0,.nils] []),os 2 4 14,mi 5 2]) .skip)) (ef [oc 16 4800192000 94 [],of 17 0 3,dl 18 17 2,od 19 (.aidx 11 1 none (.t 16) (.t 18)) 7,om 20 0,ox 21 7 3,od 22 (.call 4800192384 (.t 19) [.t 20,.t 21]) 63,dm 15 22 127,Ke_ 23 15 0 255,Ke_ 24 15 1 255,dm 6 23 511,dm 7 24 2047] (.seq (aq [om 25 7,nH 26 25] (ct 26 (aP [oo 27 (.build [il 0,.nils] []),os 2 4 27,mi 5 4]) .skip)) (.seq (aq [of 29 0 3,ol 30 29,oc 31 4800384128 95 [.t 30],om 28 31,oe 32 28 0,oe 33 28 1,om 8 32,om 9 33] (aq [om 34 0,on 35 34,of 36 1 35,
 ol 37 36,oh 38 37,om 39 8,ot 40 .add 38 39,oj 41 .gtr 40 400,om 42 41,eh 43 0 42,FM 44 43 42,fS 45 5 44 42,iL 46 45 42,eh 47 9 42,uu 48 .add 46 47 42,ny 49 .gtr 48 100 42,gJ 50 42 49] (ct 50 (aP [oo 51 (.build [il 0,.nils] []),os 2 4 51,mi 5 7]) .skip))) (aP [om 52 0,om 53 6,oc 54 4800576128 96 [.t 52,.t 53],os 2 4 54,mi 5 0]))))))⟩
def i78_l1:aK:=(aq [ot 26 .lss 25 24] (.seq (ct 26 .skip (.exit 2)) (.seq (.block 3 (aq [oi 27 7 23 25,ox 28 7 27,oo 10 (.alloc 4992576128 [il 0,il 0,il 0,il 0,cZ,cZ,il 0]),os 7 10 28] (aq [om 30 0,ox 31 7 10,oc 32 4992640128 75 [.t 30,.t 31],om 29 32,oe 33 29 0,oe 34 29 1,oo 11 (.alloc 4992640384 [il 0,.nils]),os 2 11 33,om 12 34] (aq [om 35 12,oj 36 .eql 35 0] (ct 36 (rt [om 37 6,ox 38 7 10,od 39 (.fi 4992768128 55 7 [.t 38]) 2,uO 40 4992768192 55 7 48 37 39 7,om 41 7,ox 42 2 11,od 43 (.fi 4992768384 24 2 [.t 42]) 32,uO 44 4992768448 24 2 32 41 43 127,dm 6 40 255,dm 7 44 511]) .skip))))) (rf [oj 45 .add 25 1,om 25 45]))))
def i78_r2:aK:=(rf [om 15 8,oj 16 .add 15 1,om 8 16])
def i78_l3:aK:=(.seq (aq [om 13 8,oj 14 .leq 13 10] (eO 14)) (.seq (.block 1 (.seq (aq [om 17 1,om 18 8,oc 19 4992384128 98 [.t 17,.t 18],nH 20 19] (ct 20 (.exit 1) .skip)) (aq [om 21 0,om 22 8,oc 23 4992448128 99 [.t 21,.t 22],oh 24 23,mi 25 0] (.block 2 (.loop i78_l1))))) i78_r2))
def i78_r4:aK:=(aP [om 46 6,om 47 7,om 4 46,om 5 47])
def i78:aX:=⟨48,[(4,none),(5,none)],(aq [eo 4,eo 5] (aq [eo 6] (aq [eo 7] (.seq (aq [mi 8 1] (dZ i78_l3)) i78_r4))))⟩
def i44:aX:=⟨8,[(2,none)],(aq [eo 2] (.seq (aq [om 3 0,oo 4 (.eqc .slc false (.t 3) (.k (.one (.p (.nils)))))] (ct 4 (aP [eo 2]) .skip)) (aP [oo 5 (.fi 2816192000 41 6 []),om 6 0,mR 7 2816192128 41 6 48 5 6,om 2 7])))⟩
def i93:aX:=⟨190,[(4,none)],(aq [dB 3 5952000000 1,mb 4 false] (aq [om 11 0,on 12 11,of 13 1 12,ol 14 13,oh 15 14,oo 5 (.alloc 5952064320 [il 0]),os 1 5 15] (aq [oo 16 (.mkfn 105 [] [.t 5]),om 6 16] (aq [mi 7 1,mb 8 false,mb 9 false,mb 10 false] (.seq (aq [of 17 0 3,ol 18 17] (.block 0 (aq [oj 20 .eql 18 2,om 19 20] (ct 19 (rf [mb 8 true]) (.seq (aq [oj 22 .eql 18 3,om 21 22] (ct 21 .skip (rf [oj 23 .eql 18 6,om 21 23]))) (ct 21 (rf [mi 7 2]) (aq [oj 25 .eql 18 5,om 24 25] (ct 24 (rf [mb 10 true]) (aq [oj 27 .eql 18 7,om 26 27] (ct 26 (rf [mi 7 2,mb 9 true]) (aq [oj 29 .eql 18 8,om 28 29] (ct 28 (rf [mi 7 3]) (.seq (aq [oj 31 .eql 18 1,om 30 31] (ct 30 .skip (aq [oj 32 .eql 18 4,om 30 32] (ct 30 .skip (aq [oj 33 .eql 18 9,
 om 30 33] (ct 30 .skip (rf [oj 34 .eql 18 10,om 30 34]))))))) (ct 30 .skip (aP [mb 4 false]))))))))))))))) (.seq (aq [om 35 9,nH 36 35,om 37 36,eL 38 4 3 37,fA 39 38 37,jH 40 37 39,om 41 40,eh 42 9 41,Io 43 42 41,eh 44 43 41,fU 45 10 44,Mt 46 45 44,ur 47 44 46 41,eh 48 47 41,eL 49 5 3 48,fA 50 49 48,ur 51 48 50 41,gJ 52 41 51,
 om 53 52,eh 54 10 53,fS 55 6 3 53,iL 56 55 53,ny 57 .neq 56 0 53,gz_ 58 (.eqc .bool true (.t 54) (.t 57)) 53,gJ 59 53 58,om 60 59,eh 61 10 60,eh 62 61 60,eL 63 6 3 62,fA 64 63 62,ux 65 .neq 64 1 62,ur 66 62 65 60,eh 67 66 60,eL 68 6 3 67,fA 69 68 67,Ew 70 (.bin .neq (.t 69) (.i (-1))) 67,ur 71 67 70 60,
 gJ 72 60 71] (ct 72 (aP [mb 4 false]) .skip)) (.seq (aq [om 73 8] (ct 73 (ef [om 74 6,of 75 1 3,dl 76 75 2,od 77 (.call 5953536192 (.t 74) [.t 76]) 7,dm 78 77 15,ig 79 5 78 31,qw 80 .eql 79 0 78 63,lz 81 80 78 127,mE 82 1 3 81 255,kD 83 82 81 511,yn 84 .eql 83 0 81 1023,Gq_ 85 81 84 78 2047,jM 86 78 85 4095,dm 87 86 8191,mE 88 2 3 87 16383,kD 89 88 87 32767,yn 90 .geq 89 0 87 65535,wX 91 87 90 131071,
 dm 92 91 262143,mE 93 2 3 92 524287,kD 94 93 92 1048575,kr 95 0 92 524287,Hn_ 96 95 92 2621439,mE 97 0 96 92 6815743,kD 98 97 92 15204351,Ht_ 99 .leq 94 98 92 33554431,wX 100 92 99 67108863,dm 101 100 134217727,mE 102 3 3 101 268435455,kD 103 102 101 536870911,yn 104 .geq 103 0 101 1073741823,wX 105 101 104 2147483647,dm 106 105 4294967295,mE 107 3 3 106 8589934591,kD 108 107 106 17179869183,
 kr 109 0 106 8589934591,Hn_ 110 109 106 42949672959,mE 111 6 110 106 111669149695,kD 112 111 106 249108103167,mE 113 2 3 106 8589934591,kD 114 113 106 558345748479,r9 115 1 112 114 106 2173253451775,kD 116 115 106 4372276707327,Ht_ 117 .leq 108 116 106 8796093022207,wX 118 106 117 17592186044415,dm 4 118 35184372088831] .ret) .skip)) (.seq (aq [om 119 6,of 120 1 3,ol 121 120,oo 122 (.call 5953600192 (.t 119) [.t 121]),nH 123 122,om 124 123,eh 125 7 124,ny 126 .lss 125 2 124,
 eh 127 126 124,eL 128 2 3 127,fA 129 128 127,ux 130 .neq 129 0 127,ur 131 127 130 124,gJ 132 124 131,om 133 132,eh 134 7 133,ny 135 .lss 134 3 133,eh 136 135 133,eL 137 3 3 136,fA 138 137 136,ux 139 .neq 138 0 136,ur 140 136 139 133,gJ 141 133 140,om 142 141,eh 143 7 142,ny 144 .geq 143 2 142,
 eh 145 144 142,fU 146 6 145,eL 147 2 3 145,fA 148 147 145,Ew 149 (.call 5953601920 (.t 146) [.t 148]) 145,Mt 150 149 145,ur 151 145 150 142,gJ 152 142 151,om 153 152,eh 154 7 153,ny 155 .eql 154 3 153,eh 156 155 153,fU 157 6 156,eL 158 3 3 156,fA 159 158 156,Ew 160 (.call 5953602624 (.t 157) [.t 159]) 156,Mt 161 160 156,
 ur 162 156 161 153,gJ 163 153 162] (ct 163 (aP [mb 4 false]) .skip)) (.seq (aq [om 164 9] (ct 164 (aP [of 165 1 3,ol 166 165,of 167 2 3,ol 168 167,ot 169 .neq 166 168,om 4 169]) .skip)) (aP [om 170 7,oj 171 .lss 170 2,om 172 171,fS 173 1 3 172,iL 174 173 172,fS 175 2 3 172,iL 176 175 172,uu 177 .lss 174 176 172,eh 178 177 172,fU 179 7 178,ux 180 .lss 179 3 178,fU 181 180 178,fS 182 2 3 181,
 iL 183 182 181,fS 184 3 3 181,iL 185 184 181,uu 186 .lss 183 185 181,hp_ 187 181 186 178,ur 188 178 187 172,gJ 189 172 188,om 4 189]))))))))))⟩
def i94:aX:=⟨2,[(0,some (some 11))],(aq [oo 0 (.alloc 6016000000 [.jx,.jx,.jx,.jx,.jx,.jx,.jx,.jx,.jx,.jx,.jx])] (aP [oo 1 (.build [.jx,.jx,.jx,.jx,.jx,.jx,.jx,.jx,.jx,.jx,.jx] [(1,1,.k (.one (.p (.fn 106 [] [])))),(2,1,.k (.one (.p (.fn 107 [] [])))),(3,1,.k (.one (.p (.fn 108 [] [])))),(4,1,.k (.one (.p (.fn 109 [] [])))),(5,1,.k (.one (.p (.fn 110 [] [])))),(6,1,.k (.one (.p (.fn 111 [] [])))),(7,1,.k (.one (.p (.fn 112 [] [])))),(8,1,.k (.one (.p (.fn 113 [] [])))),(9,1,.k (.one (.p (.fn 114 [] [])))),(10,1,.k (.one (.p (.fn 114 [] []))))]),os 11 0 1]))⟩
def i95:aX:=⟨11,[(2,none),(3,none)],(aq [mi 2 0,mi 3 0] (.seq (aq [om 4 0] (.block 0 (aq [oj 6 .eql 4 2,om 5 6] (ct 5 (aP [mi 2 2,mi 3 0]) (aq [oj 8 .eql 4 5,om 7 8] (ct 7 (aP [mi 2 2,mi 3 1]) (aq [oj 10 .eql 4 7,om 9 10] (ct 9 (aP [mi 2 4,mi 3 2]) .skip)))))))) (aP [mi 2 0,mi 3 0])))⟩
def i96_l1:aK:=(aq [ot 19 .lss 18 17] (.seq (eO 19) (.seq (.block 1 (aq [om 20 18,om 7 20] (rt [of 21 1 5,dl 22 21 1,om 23 1,om 24 6,om 25 7,dt 26 .add 24 25 24,om 27 1,uc 28 27 64,dt 29 .rem 26 28 248,di 30 7 23 29 508,df 31 0 30 1020,dx 32 6 31 2044,od 33 (.fi 6144384768 41 6 [.t 32]) 4092,uO 34 6144384832 41 6 48 22 33 8191,df 35 1 5 16383,iw 1 35 34 32767]))) (rf [oj 36 .add 18 1,om 18 36]))))
def i96_r2:aK:=(aP [ox 37 2 5,os 2 4 37])
def i96:aX:=⟨38,[(4,some (some 2))],(aq [oo 4 (.alloc 6144000000 [il 0,.nils])] (aq [om 8 0,on 9 8,of 10 0 9,ol 11 10,oo 12 (.build [il 0,.nils] [(0,1,.t 11)]),oo 5 (.alloc 6144064320 [il 0,.nils]),os 2 5 12] (aq [om 13 1,oc 14 6144128064 115 [.t 13,.k (.one (.p (.fn 116 [] [])))],oo 15 (.max (.i 0) (.t 14)),om 6 15] (.seq (aq [om 16 1,oh 17 16,mi 18 0] (dZ i96_l1)) i96_r2))))⟩
def i98:aX:=⟨9,[(4,none)],(aq [mb 4 false] (aP [om 5 0,om 6 1,oc 7 6272064128 118 [.t 5,.t 6],oj 8 .geq 7 0,om 4 8]))⟩
def i99_l1:aK:=(.seq (aq [om 27 7,om 28 0,on 29 28,of 30 0 29,ol 31 30,ot 32 .leq 27 31] (eO 32)) (.seq (.block 1 (rf [om 35 5,om 36 1,om 37 7,oo 38 (.build [il 0,il 0,il 0,il 0,cZ,cZ,il 0] [(0,1,.t 36),(2,1,.t 37)]),oo 39 (.fi 6336448256 55 7 [.t 38]),mR 40 6336448320 55 7 48 35 39,om 5 40])) (rf [om 33 7,oj 34 .add 33 1,om 7 34])))
def i99_l2:aK:=(aq [oj 55 .lss 54 2] (.seq (ct 55 .skip (.exit 5)) (.seq (.block 6 (aq [om 56 54,om 10 56] (rt [om 57 9,om 58 0,fq 59 58 2,df 60 2 59 6,dl 61 60 14,om 62 0,fq 63 62 32,df 64 3 63 96,dl 65 64 224,om 66 8,db 67 .mul (.i 2) (.t 66) 512,om 68 10,dt 69 .add 67 68 3584,di 70 1 65 69 8160,dl 71 70 16352,di 72 5 61 71 32766,df 73 2 72 65534,dl 74 73 131070,uO 75 6337153152 173 2 16 57 74 262143,dm 9 75 524287]))) (rf [oj 76 .add 54 1,om 54 76]))))
def i99_l3:aK:=(aq [ot 83 .lss 82 81] (.seq (ct 83 .skip (.exit 7)) (.seq (.block 8 (aq [oi 84 2 80 82,ox 85 2 84,oo 12 (.alloc 6337472128 [il 0,il 0]),os 2 12 85] (rf [om 86 5,om 87 1,om 88 8,of 89 0 12,ol 90 89,of 91 1 12,ol 92 91,oo 93 (.build [il 0,il 0,il 0,il 0,cZ,cZ,il 0] [(0,1,.t 87),(1,1,.t 88),(2,1,.t 90),(3,1,.t 92)]),oo 94 (.fi 6337536512 55 7 [.t 93]),mR 95 6337536576 55 7 48 86 94,om 5 95]))) (rf [oj 96 .add 82 1,om 82 96]))))
def i99_r4:aK:=(aq [om 77 9,oc 78 6337280064 119 [.t 77,.k (.one (.p (.fn 120 [] [])))]] (aq [om 79 9,oc 80 6337344064 121 [.t 79],oh 81 80,mi 82 0] (.block 7 (.loop i99_l3))))
def i99_l5:aK:=(aq [oj 100 .lss 99 4] (.seq (ct 100 .skip (.exit 9)) (.seq (.block 10 (aq [om 101 99,om 13 101] (rf [om 102 5,om 103 1,om 104 8,om 105 13,oj 106 .gtr 105 1,om 107 13,oj 108 .rem 107 2,ob 109 .mul (.i 2) (.t 108),oj 110 .sub 109 1,oo 111 (.build [il 0,il 0,il 0,il 0,cZ,cZ,il 0] [(0,1,.t 103),(1,1,.t 104),(5,1,.t 106),(6,1,.t 110)]),oo 112 (.fi 6337920640 55 7 [.t 111]),mR 113 6337920704 55 7 48 102 112,om 5 113]))) (rf [oj 114 .add 99 1,om 99 114]))))
def i99_l6:aK:=(aq [oj 122 .lss 121 4] (.seq (ct 122 .skip (.exit 13)) (.seq (.block 14 (aq [om 123 121,om 15 123] (aq [om 124 14,om 125 8,ot 126 .neq 124 125] (ct 126 (rf [om 127 5,om 128 1,om 129 8,om 130 14,om 131 15,oj 132 .gtr 131 1,om 133 15,oj 134 .rem 133 2,oj 135 .eql 134 1,oo 136 (.build [il 0,il 0,il 0,il 0,cZ,cZ,il 0] [(0,1,.t 128),(1,1,.t 129),(2,1,.t 130),(4,1,.t 132),(5,1,.t 135)]),oo 137 (.fi 6338560640 55 7 [.t 136]),mR 138 6338560704 55 7 48 127 137,om 5 138]) .skip)))) (rf [oj 139 .add 121 1,om 121 139]))))
def i99_r7:aK:=(rf [oj 140 .add 118 1,om 118 140])
def i99_l8:aK:=(aq [ot 119 .lss 118 117] (.seq (ct 119 .skip (.exit 11)) (.seq (.block 12 (aq [om 120 118,om 14 120] (aq [mi 121 0] (.block 13 (.loop i99_l6))))) i99_r7)))
def i99_r9:aK:=(rf [oj 151 .add 42 1,om 42 151])
def i99_l10:aK:=(aq [ot 43 .lss 42 41] (.seq (ct 43 .skip (.exit 2)) (.seq (.block 3 (aq [om 44 42,om 8 44] (aq [om 45 1] (.block 4 (aq [oj 53 .eql 45 2,om 52 53] (ct 52 (aq [eo 9] (.seq (aq [mi 54 0] (.block 5 (.loop i99_l2))) i99_r4)) (aq [oj 98 .eql 45 5,om 97 98] (ct 97 (aq [mi 99 0] (.block 9 (.loop i99_l5))) (aq [oj 116 .eql 45 7,om 115 116] (ct 115 (aq [om 117 6,mi 118 0] (.block 11 (.loop i99_l8))) (.seq (aq [oj 142 .eql 45 3,om 141 142] (ct 141 .skip (aq [oj 143 .eql 45 6,om 141 143] (ct 141 .skip (rf [oj 144 .eql 45 8,om 141 144]))))) (ct 141 (rf [om 145 5,om 146 0,om 147 1,om 148 8,oc 149 6338944256 122 [.t 146,.t 147,.t 148],mR 150 6338944320 55 7 48 145 149,om 5 150]) (rf [om 46 5,
 om 47 1,om 48 8,oo 49 (.build [il 0,il 0,il 0,il 0,cZ,cZ,il 0] [(0,1,.t 47),(1,1,.t 48)]),oo 50 (.fi 6336768256 55 7 [.t 49]),mR 51 6336768320 55 7 48 46 50,om 5 51]))))))))))))) i99_r9)))
def i99_r11:aK:=(aP [om 152 5,om 4 152])
def i99_r12:aK:=(.seq (aq [om 41 6,mi 42 0] (.block 2 (.loop i99_l10))) i99_r11)
def i99:aX:=⟨153,[(4,none)],(aq [eo 4] (aq [eo 5] (aq [om 16 0,on 17 16,of 18 1 17,ol 19 18,oh 20 19,om 6 20] (.seq (aq [om 21 6,oj 22 .eql 21 0,om 23 22,fU 24 1 23,ux 25 .eql 24 2 23,jH 26 23 25] (ct 26 (aq [mi 7 0] (dZ i99_l1)) .skip)) i99_r12))))⟩
def i24:aX:=⟨17,[(2,some (some 2)),(3,none)],(aq [dB 1 1536000000 0,oo 2 (.alloc 1536000064 [il 0,.nils]),mi 3 0] (aq [ox 7 2 1,oc 8 1536064064 19 [.t 7],om 6 8,oe 9 6 0,oe 10 6 1,om 4 9,om 5 10] (.seq (aq [om 11 5,oj 12 .neq 11 0] (ct 12 (aP [oo 13 (.build [il 0,.nils] []),om 14 5,os 2 2 13,om 3 14]) .skip)) (aP [om 15 4,oc 16 1536256064 46 [.t 15],os 2 2 16,mi 3 0]))))⟩
def i103_l1:aK:=(aq [ot 21 .lss 20 19] (.seq (eO 21) (.seq (.block 1 (aq [om 22 20,oi 23 6 18 20,ox 24 6 23,oo 6 (.alloc 6592320192 [il 0,il 0,il 0,il 0,il 0,cZ]),om 5 22,os 6 6 24] (.seq (aq [of 25 0 6,ol 26 25,oj 27 .eql 26 1] (ct 27 (rf [om 28 0,on 29 28,of 30 2 29,ol 31 30,om 32 5,oi 33 1 31 32,ol 34 33,om 4 34]) .skip)) (rf [om 35 3,om 36 5,om 37 4,oi 38 1 35 36,os 1 38 37])))) (rf [oj 39 .add 20 1,om 20 39]))))
def i103_r2:aK:=(aP [om 40 3,om 2 40])
def i103:aX:=⟨41,[(2,none)],(aq [eo 2] (aq [om 7 0,on 8 7,of 9 0 8,of 10 1 9,ol 11 10,oh 12 11,oo 13 (.rS 6592064384 4 1 1 [cZ] (.t 12) (.t 12)),om 3 13] (aq [mb 4 false] (.seq (aq [om 14 0,on 15 14,of 16 0 15,of 17 1 16,ol 18 17,oh 19 18,mi 20 0] (dZ i103_l1)) i103_r2))))⟩
def i104_l1:aK:=(.seq (.block 1 (.seq (aq [om 38 12,om 39 9,ob 40 .mul (.i 2) (.t 39),ot 41 .lss 38 40] (ct 41 (.seq (aq [om 42 2,om 43 12,oi 44 1 42 43,ol 45 44] (ct 45 (.exit 0) .skip)) (aq [om 46 2,om 47 12,oi 48 1 46 47,op (.store 1 (.t 48) (.b true))] (aq [of 49 1 11,ol 50 49,om 51 12,oo 52 (.fi 6656512192 3 1 [.t 51]),mR 53 6656512256 3 1 8 50 52,of 54 1 11,os 1 54 53] (.exit 1)))) .skip)) (aq [om 55 12,om 56 9,ob 57 .mul (.i 2) (.t 56),ot 58 .sub 55 57,oj 59 .quo 58 2,om 13 59] (aq [om 61 0,om 62 13,oc 63 6656640128 123 [.t 61,.t 62],om 60 63,oe 64 60 0,oe 65 60 1,om 14 64,om 15 65] (.seq (aq [om 66 12,oj 67 .rem 66 2,oj 68 .eql 67 1] (ct 68 (aq [om 69 14,oc 70 6656768064 124 [.t 69]] (rf [om 71 15,oc 72 6656832064 125 [.t 71]])) .skip)) (ef [of 73 2 11,dl 74 73 1,
 om 75 14,uO 76 6656896192 173 2 16 74 75 7,of 77 3 11,dl 78 77 16,om 79 15,uO 80 6656896448 3 1 8 78 79 127,df 81 2 11 63,iw 1 81 76 511,df 82 3 11 1023,iw 1 82 80 2047] (rf [of 83 4 11,ol 84 83,om 85 84,eh 86 13 85,eh 87 10 85,ny 88 .sub 87 1 85,uu 89 .eql 86 88 85,gJ 90 85 89,of 91 4 11,os 1 91 90]))))))) (rf [om 35 0,om 36 12,oc 37 6656256128 89 [.t 35,.t 36],om 12 37]))
def i104_r2:aK:=(aP [ox 92 5 11,os 5 8 92])
def i104:aX:=⟨93,[(8,some (some 5))],(aq [oo 8 (.alloc 6656000000 [cZ,.nils,.nils,.nils,cZ])] (ef [om 16 0,fq 17 16 1,df 18 0 17 3,df 19 1 18 7,dl 20 19 15,uc 21 20 31,om 22 0,fq 23 22 64,df 24 3 23 192,dl 25 24 448,uc 26 25 960,dm 9 21 63,dm 10 26 4095] (aq [om 27 3,om 28 1,oj 29 .quo 28 2,oi 30 1 27 29,ol 31 30,nH 32 31,oo 33 (.build [cZ,.nils,.nils,.nils,cZ] [(0,1,.t 32)]),oo 11 (.alloc 6656128448 [cZ,.nils,.nils,.nils,cZ]),os 5 11 33] (.seq .skip (.seq (aq [om 34 1,om 12 34] (dZ i104_l1)) i104_r2)))))⟩
def i105:aX:=⟨11,[(3,none)],(aq [mb 3 false] (aP [om 4 0,oj 5 .geq 4 0,om 6 5,fU 7 0 6,fA 8 1 6,xM 9 .lss 7 8 6,jH 10 6 9,om 3 10]))⟩
def i106:aX:=⟨102,[(4,none),(5,none)],(aq [dB 3 6784000000 1,eo 4,mb 5 false] (aq [om 12 0,of 13 1 3,ol 14 13,oc 15 6784064192 126 [.t 12,.t 14],om 11 15,oe 16 11 0,oe 17 11 1,oo 6 (.alloc 6784064448 [il 0]),oo 7 (.alloc 6784064512 [il 0]),os 1 6 16,os 1 7 17] (ef [om 18 0,fq 19 18 1,df 20 1 19 3,dl 21 20 7,ol 22 6,di 23 7 21 22 31,dx 24 7 23 63,om 25 0,fq 26 25 128,df 27 1 26 384,dl 28 27 896,ol 29 7,di 30 7 28 29 3968,dx 31 7 30 8064,oo 8 (.alloc 6784128896 [il 0,il 0,il 0,il 0,il 0,cZ,cZ]),oo 9 (.alloc 6784128960 [il 0,il 0,il 0,il 0,il 0,cZ,cZ]),iw 7 8 24 49279,iw 7 9 31 131071] (.seq (aq [of 32 0 8,of 33 0 32,ol 34 33,oj 35 .neq 34 1,om 36 35,fS 37 0 9 36,
 fS 38 0 37 36,iL 39 38 36,ny 40 .neq 39 1 36,gJ 41 36 40,om 42 41,fS 43 0 8 42,fS 44 1 43 42,iL 45 44 42,fS 46 0 9 42,fS 47 1 46 42,iL 48 47 42,uu 49 .neq 45 48 42,gJ 50 42 49,om 51 50,fS 52 0 8 51,fS 53 2 52 51,iL 54 53 51,fS 55 0 9 51,fS 56 2 55 51,
 iL 57 56 51,gz_ 58 (.max (.t 54) (.t 57)) 51,fS 59 0 8 51,fS 60 2 59 51,iL 61 60 51,fS 62 0 9 51,fS 63 2 62 51,iL 64 63 51,gz_ 65 (.min (.t 61) (.t 64)) 51,uu 66 .sub 58 65 51,ny 67 .neq 66 1 51,gJ 68 51 67,om 69 68,eh 70 0 69,FM 71 70 69,fS 72 4 71 69,iL 73 72 69,ny 74 .leq 73 2 69,
 eh 75 74 69,fU 76 0 75,Ej 77 76 75,eL 78 5 77 75,fA 79 78 75,ux 80 .gtr 79 0 75,ur 81 75 80 69,gJ 82 69 81] (ct 82 (aP [eo 4,mb 5 false]) .skip)) (aq [om 83 0,on 84 83,of 85 1 84,ol 86 85,oo 87 (.mkfn 128 [] [.t 6,.t 7]),oc 88 6784320320 127 [.t 86,.t 87],om 10 88] (aq [om 89 10,of 90 0 8,of 91 1 90,ol 92 91,of 93 0 8,of 94 2 93,ol 95 94,of 96 0 9,of 97 2 96,ol 98 97,oo 99 (.max (.t 95) (.t 98)),oc 100 6784384704 129 [.t 89,.t 92,.t 99,.i (-2)]] (aP [om 101 10,om 4 101,mb 5 true])))))))⟩
def i108_l1:aK:=(aq [ot 119 .lss 118 117] (.seq (eO 119) (.seq (.block 1 (aq [oi 120 1 116 118,ol 121 120,om 16 121] (aq [om 123 0,om 124 16,oc 125 6912704128 126 [.t 123,.t 124],om 122 125,oe 126 122 0,oe 127 122 1,om 17 126,om 18 127] (rt [om 128 14,om 129 17,om 130 14,om 131 18,om 132 14,om 133 18,di 134 7 132 133 48,dx 135 7 134 112,om 136 14,om 137 17,di 138 7 136 137 768,dx 139 7 138 1792,di 140 7 128 129 4083,iw 7 140 135 8179,di 141 7 130 131 16383,iw 7 141 139 32767])))) (rf [oj 142 .add 118 1,om 118 142]))))
def i108_r2:aK:=(aP [om 143 14,om 4 143,mb 5 true])
def i108:aX:=⟨144,[(4,none),(5,none)],(aq [dB 3 6912000000 1,eo 4,mb 5 false] (aq [om 20 0,of 21 1 3,ol 22 21,oc 23 6912064192 133 [.t 20,.t 22],om 19 23,oe 24 19 0,oe 25 19 1,oe 26 19 2,om 6 24,om 7 25,om 8 26] (aq [om 28 0,of 29 2 3,ol 30 29,oc 31 6912128192 133 [.t 28,.t 30],om 27 31,oe 32 27 0,oe 33 27 1,oe 34 27 2,om 9 32,om 10 33,om 11 34] (.seq (ef [om 35 8,Ku_ 36 35 1,dm 37 36 3,lz 38 11 37 7,Gu_ 39 38 37 15,jM 40 37 39 31,dm 41 40 63,lz 42 7 41 127,lz 43 10 41 127,wW 44 .eql 42 43 41 511,jM 45 41 44 1023,dm 46 45 2047,lz 47 0 46 4095,
 Fg 48 47 46 8191,gk 49 1 48 46 16383,ig 50 49 46 32767,lz 51 7 46 4095,Ff 52 7 50 51 46 131071,gk 53 0 52 46 262143,gk 54 3 53 46 524287,ig 55 54 46 1048575,lz 56 0 46 4095,Fg 57 56 46 2101247,gk 58 1 57 46 6295551,ig 59 58 46 14684159,lz 60 10 46 4095,Ff 61 7 59 60 46 65015807,gk 62 0 61 46 132124671,gk 63 3 62 46 266342399,
 ig 64 63 46 534777855,wW 65 .neq 55 64 46 1073741823,jM 66 46 65 2147483647,dm 67 66 4294967295,lz 68 0 67 8589934591,gk 69 1 3 67 8589934591,ig 70 69 67 25769803775,gk 71 2 3 67 8589934591,ig 72 71 67 77309411327,Gz_ 73 (.fi 6912194432 3 1 [.t 70,.t 72]) 67 266287972351,Bw 74 6912194496 134 [.t 68,.i 1,.t 73] 67 549755813887,Gu_ 75 74 67 1099511627775,jM 76 67 75 2199023255551] (ct 76 (aP [eo 4,
 mb 5 false]) .skip)) (ef [om 77 0,fq 78 77 1,df 79 1 78 3,dl 80 79 7,om 81 6,di 82 7 80 81 31,df 83 0 82 63,df 84 2 83 127,dl 85 84 255,om 86 0,fq 87 86 512,df 88 1 87 1536,dl 89 88 3584,om 90 9,di 91 7 89 90 15872,df 92 0 91 32256,df 93 2 92 65024,dl 94 93 130560,dm 12 85 511,dm 13 94 524287] (aq [om 95 0,on 96 95,of 97 1 96,ol 98 97,oc 99 6912384256 131 [.t 98],om 14 99] (aq [om 100 14,om 101 6,om 102 14,om 103 9,om 104 13,om 105 12,oi 106 7 100 101,of 107 0 106,of 108 2 107,os 1 108 104,oi 109 7 102 103,of 110 0 109,of 111 2 110,os 1 111 105] (.seq (aq [of 112 1 3,ol 113 112,of 114 2 3,ol 115 114,oo 116 (.fi 6912512256 3 1 [.t 113,.t 115]),oh 117 116,mi 118 0] (dZ i108_l1)) i108_r2))))))))⟩
def i109:aX:=⟨73,[(4,none),(5,none)],(aq [dB 3 6976000000 1,eo 4,mb 5 false] (aq [om 9 0,of 10 1 3,ol 11 10,oc 12 6976064192 126 [.t 9,.t 11],om 8 12,oe 13 8 0,oe 14 8 1,om 6 13,om 7 14] (.seq (ef [om 15 0,fq 16 15 1,df 17 1 16 3,dl 18 17 7,om 19 6,di 20 7 18 19 31,df 21 0 20 63,df 22 0 21 127,dl 23 22 255,dj 24 .neq 23 2 511,dm 25 24 1023,lz 26 0 25 2047,Fg 27 26 25 4095,gk 28 1 27 25 8191,ig 29 28 25 16383,lz 30 7 25 2047,Ff 31 7 29 30 25 65535,gk 32 0 31 25 131071,gk 33 0 32 25 262143,ig 34 33 25 524287,
 qw 35 .neq 34 2 25 1048575,jM 36 25 35 2097151,dm 37 36 4194303,lz 38 0 37 8388607,Fg 39 38 37 16777215,gk 40 1 39 37 33554431,ig 41 40 37 67108863,lz 42 6 37 8388607,Ff 43 7 41 42 37 268435455,gk 44 0 43 37 536870911,gk 45 3 44 37 1073741823,ig 46 45 37 2147483647,lz 47 0 37 8388607,Fg 48 47 37 4303355903,gk 49 1 48 37 12893290495,ig 50 49 37 30073159679,
 lz 51 7 37 8388607,Ff 52 7 50 51 37 133152374783,gk 53 0 52 37 270591328255,gk 54 3 53 37 545469235199,ig 55 54 37 1095225049087,wW 56 .neq 46 55 37 2199023255551,jM 57 37 56 4398046511103] (ct 57 (aP [eo 4,mb 5 false]) .skip)) (ef [om 58 0,fq 59 58 1,df 60 1 59 3,dl 61 60 7,om 62 0,fq 63 62 16,df 64 1 63 48,dl 65 64 112,om 66 6,di 67 7 65 66 496,df 68 0 67 1008,df 69 3 68 2032,dl 70 69 4080,od 71 (.fi 6976256832 3 1 [.t 70]) 8176,dc 72 6976256896 135 [.t 61,.t 71] 16383,dm 4 72 32767,od 5 (.jU (.b true)) 65535] .ret))))⟩
def i111:aX:=⟨165,[(4,none),(5,none)],(aq [dB 3 7104000000 1,eo 4,mb 5 false] (aq [om 13 0,on 14 13,of 15 1 14,ol 16 15,oh 17 16,om 6 17] (.seq (aq [om 18 0,of 19 1 3,ol 20 19,oc 21 7104128192 137 [.t 18,.t 20,.b true],om 22 21,fU 23 0 22,eL 24 2 3 22,fA 25 24 22,Ci 26 7104128512 137 [.t 23,.t 25,.b false] 22,jH 27 22 26,om 28 27,eh 29 0 28,fS 30 1 3 28,iL 31 30 28,DJ 32 7104128896 137 [.t 29,.t 31,.b false] 28,eh 33 32 28,
 fU 34 0 33,eL 35 2 3 33,fA 36 35 33,Ci 37 7104129216 137 [.t 34,.t 36,.b true] 33,ur 38 33 37 28,gJ 39 28 38,nH 40 39] (ct 40 (aP [eo 4,mb 5 false]) .skip)) (aq [om 42 0,of 43 1 3,ol 44 43,oc 45 7104256192 126 [.t 42,.t 44],om 41 45,oe 46 41 0,oe 47 41 1,om 7 46,om 8 47] (aq [om 49 0,of 50 2 3,ol 51 50,oc 52 7104320192 126 [.t 49,.t 51],om 48 52,oe 53 48 0,oe 54 48 1,om 9 53,om 10 54] (ef [om 55 0,fq 56 55 1,df 57 1 56 3,dl 58 57 7,om 59 7,di 60 7 58 59 31,df 61 0 60 63,df 62 3 61 127,dl 63 62 255,om 64 0,fq 65 64 512,
 df 66 1 65 1536,dl 67 66 3584,om 68 8,di 69 7 67 68 15872,df 70 0 69 32256,df 71 3 70 65024,dl 72 71 130560,dm 11 63 511,dm 12 72 524287] (.seq (aq [om 73 11,om 74 12,ot 75 .eql 73 74,om 76 75,eh 77 0 76,FM 78 77 76,fS 79 1 78 76,iL 80 79 76,eh 81 9 76,gi_ 82 7 80 81 76,fS 83 0 82 76,fS 84 3 83 76,iL 85 84 76,eh 86 11 76,uu 87 .eql 85 86 76,eh 88 87 76,fU 89 0 88,Ej 90 89 88,
 eL 91 1 90 88,fA 92 91 88,fU 93 10 88,Af 94 7 92 93 88,eL 95 0 94 88,eL 96 3 95 88,fA 97 96 88,fU 98 12 88,xM 99 .eql 97 98 88,ur 100 88 99 76,eh 101 100 76,eh 102 0 101,FM 103 102 101,fS 104 1 103 101,iL 105 104 101,eh 106 9 101,gi_ 107 7 105 106 101,
 fS 108 0 107 101,fS 109 3 108 101,iL 110 109 101,eh 111 12 101,uu 112 .eql 110 111 101,eh 113 112 101,fU 114 0 113,Ej 115 114 113,eL 116 1 115 113,fA 117 116 113,fU 118 10 113,Af 119 7 117 118 113,eL 120 0 119 113,eL 121 3 120 113,fA 122 121 113,fU 123 11 113,xM 124 .eql 122 123 113,
 ur 125 113 124 101,gp_ 126 101 125 76,Io 127 126 76,gJ 128 76 127] (ct 128 (aP [eo 4,mb 5 false]) .skip)) (.seq (ef [of 129 1 3,dl 130 129 1,dj 131 .add 130 2 3,om 132 6,dt 133 .rem 131 132 15,of 134 2 3,dl 135 134 32,dt 136 .eql 133 135 127,dm 137 136 255,gk 138 2 3 137 511,ig 139 138 137 1023,qw 140 .add 139 2 137 2047,lz 141 6 137 511,wW 142 .rem 140 141 137 8191,gk 143 1 3 137 511,ig 144 143 137 16895,
 wW 145 .eql 142 144 137 65535,jM 146 137 145 131071,dm 147 146 262143,lz 148 0 147 524287,gk 149 1 3 147 524287,ig 150 149 147 1572863,gk 151 2 3 147 524287,ig 152 151 147 4718591,Gz_ 153 (.fi 7104577536 3 1 [.t 150,.t 152]) 147 16252927,Bw 154 7104577600 134 [.t 148,.i 0,.t 153] 147 33554431,Gu_ 155 154 147 67108863,jM 156 147 155 134217727] (ct 156 (aP [eo 4,mb 5 false]) .skip)) (aP [om 157 0,on 158 157,of 159 1 158,ol 160 159,
 om 161 11,om 162 12,oo 163 (.fi 7104704384 3 1 [.t 161,.t 162]),oc 164 7104704448 135 [.t 160,.t 163],om 4 164,mb 5 true])))))))))⟩
def i113_l1:aK:=(aq [ot 25 .lss 24 23] (.seq (eO 25) (.seq (.block 1 (aq [oi 26 1 22 24,ol 27 26,om 12 27] (aq [om 29 0,om 30 12,oc 31 7232448128 126 [.t 29,.t 30],om 28 31,oe 32 28 0,oe 33 28 1,om 13 32,om 14 33] (.seq (aq [om 34 0,on 35 34,of 36 1 35,ol 37 36,om 38 13,oi 39 7 37 38,of 40 0 39,of 41 0 40,ol 42 41,oj 43 .neq 42 2,om 44 43,eh 45 0 44,FM 46 45 44,fS 47 1 46 44,iL 48 47 44,eh 49 14 44,gi_ 50 7 48 49 44,fS 51 0 50 44,fS 52 0 51 44,iL 53 52 44,ny 54 .neq 53 2 44,
 gJ 55 44 54] (ct 55 (aP [eo 4,mb 5 false]) .skip)) (aq [om 56 7,om 57 13,om 58 14,oo 59 (.fi 7232640192 3 1 [.t 57,.t 58]),mR 60 7232640256 3 1 8 56 59,om 7 60] (ef [om 61 8,om 62 0,fq 63 62 2,df 64 1 63 6,dl 65 64 14,om 66 13,di 67 7 65 66 62,df 68 0 67 126,df 69 3 68 254,dl 70 69 510,om 71 0,fq 72 71 1024,df 73 1 72 3072,dl 74 73 7168,om 75 14,di 76 7 74 75 31744,df 77 0 76 64512,df 78 3 77 130048,dl 79 78 261120,od 80 (.fi 7232705216 3 1 [.t 70,.t 79]) 524286,uO 81 7232705280 3 1 8 61 80 1048575,dm 8 81 2097151] (rf [om 82 9,om 83 82,eh 84 0 83,eh 85 12 83,DJ 86 7232768256 137 [.t 84,.t 85,.b true] 83,
 gJ 87 83 86,om 88 10,om 89 88,eh 90 0 89,eh 91 12 89,DJ 92 7232768640 137 [.t 90,.t 91,.b false] 89,gJ 93 89 92,om 9 87,om 10 93]))))))) (rf [oj 94 .add 24 1,om 24 94]))))
def i113_r2:aK:=(aq [om 95 7,oc 96 7232896064 139 [.t 95]] (aq [om 97 8,oc 98 7232960064 139 [.t 97]] (.seq (aq [om 99 7,oc 100 7233024064 140 [.t 99],oh 101 100,oj 102 .neq 101 6,om 103 102,eh 104 8 103,DJ 105 7233024384 140 [.t 104] 103,Il 106 105 103,ny 107 .neq 106 3 103,gJ 108 103 107,om 109 108,eh 110 9 109,Io 111 110 109,gJ 112 109 111,om 113 112,eh 114 10 113,Io 115 114 113,gJ 116 113 115,om 117 116,eh 118 0 117,
 eh 119 6 117,DJ 120 7233025344 134 [.t 118,.i 0,.t 119] 117,Io 121 120 117,gJ 122 117 121] (ct 122 (aP [eo 4,mb 5 false]) .skip)) (aP [om 123 0,om 124 6,oc 125 7233152128 141 [.t 123,.t 124],om 4 125,mb 5 true]))))
def i113:aX:=⟨126,[(4,none),(5,none)],(aq [dB 3 7232000000 1,eo 4,mb 5 false] (aq [of 15 1 3,ol 16 15,of 17 2 3,ol 18 17,of 19 3 3,ol 20 19,oo 21 (.fi 7232064384 3 1 [.t 16,.t 18,.t 20]),om 6 21] (aq [eo 7,eo 8] (aq [mb 9 false,mb 10 false] (.seq (aq [om 22 6,oh 23 22,mi 24 0] (dZ i113_l1)) i113_r2)))))⟩
def i115_l1:aK:=(aq [ot 9 .lss 8 7] (.seq (eO 9) (.seq (.block 1 (aq [om 10 8,om 5 10] (aq [om 11 1,om 12 0,om 13 5,oi 14 7 12 13,ox 15 7 14,oo 16 (.call 7360256320 (.t 11) [.t 15])] (ct 16 (aP [om 17 5,om 4 17]) .skip)))) (rf [oj 18 .add 8 1,om 8 18]))))
def i115_r2:aK:=(aP [oo 4 (.jU (.i (-1)))])
def i115:aX:=⟨19,[(4,none)],(aq [mi 4 0] (.seq (aq [om 6 0,oh 7 6,mi 8 0] (dZ i115_l1)) i115_r2))⟩
def i116:aX:=⟨11,[(2,none)],(aq [dB 1 7424000000 0,mb 2 false] (aP [of 3 0 1,of 4 0 3,ol 5 4,oj 6 .eql 5 1,om 7 6,eL 8 6 1 7,fA 9 8 7,jH 10 7 9,om 2 10]))⟩
def i118_l1:aK:=(aq [ot 9 .lss 8 7] (.seq (eO 9) (.seq (.block 1 (aq [om 10 8,om 5 10] (aq [om 11 1,om 12 0,om 13 5,oi 14 1 12 13,ol 15 14,ot 16 .eql 11 15] (ct 16 (aP [om 17 5,om 4 17]) .skip)))) (rf [oj 18 .add 8 1,om 8 18]))))
def i118_r2:aK:=(aP [oo 4 (.jU (.i (-1)))])
def i118:aX:=⟨19,[(4,none)],(aq [mi 4 0] (.seq (aq [om 6 0,oh 7 6,mi 8 0] (dZ i118_l1)) i118_r2))⟩
def i122_l1:aK:=(aq [ot 37 .lss 36 35] (.seq (ct 37 .skip (.exit 2)) (.seq (.block 3 (aq [oi 38 1 34 36,ol 39 38,om 12 39] (.seq (aq [om 40 12,oj 41 .quo 40 2,om 42 2,ot 43 .lss 41 42,om 44 43,fS 45 1 9 44,iL 46 45 44,Il 47 46 44,ny 48 .gtr 47 3 44,gJ 49 44 48] (ct 49 (.exit 1) .skip)) (rf [om 50 10,om 51 12,oj 52 .quo 51 2,oo 53 (.fi 7808704192 3 1 [.t 52]),mR 54 7808704256 3 1 8 50 53,om 10 54])))) (rf [oj 55 .add 36 1,om 36 55]))))
def i122_r2:aK:=(aq [om 56 10,oc 57 7808832064 139 [.t 56]] (aq [om 58 1,om 59 2,oo 60 (.build [il 0,il 0,il 0,il 0,cZ,cZ,il 0] [(0,1,.t 58),(1,1,.t 59)]),oo 13 (.alloc 7808896192 [il 0,il 0,il 0,il 0,cZ,cZ,il 0]),os 7 13 60] (.seq (.block 4 (aq [om 62 10,oh 63 62,oj 64 .eql 63 2,om 65 64,fU 66 1 65,ux 67 .neq 66 8 65,jH 68 65 67,om 61 68] (ct 61 (rf [om 69 10,oo 70 (.ql 1 (.t 69) (.i 1)),ol 71 70,of 72 2 13,os 1 72 71]) (aq [om 74 10,oh 75 74,oj 76 .eql 75 3,om 77 76,fU 78 1 77,ux 79 .eql 78 8 77,jH 80 77 79,om 73 80] (ct 73 (rt [om 81 10,od 82 (.ql 1 (.t 81) (.i 1)) 1,dl 83 82 3,
 om 84 10,od 85 (.ql 1 (.t 84) (.i 2)) 8,dl 86 85 24,df 87 2 13 7,iw 1 87 83 71,df 88 3 13 255,iw 1 88 86 511]) (.exit 1)))))) (aq [om 89 7,ox 90 7 13,oc 91 7809216128 148 [.t 89,.t 90],nH 92 91] (ct 92 (rf [om 93 7,ox 94 7 13,oo 95 (.fi 7809280128 55 7 [.t 94]),mR 96 7809280192 55 7 48 93 95,om 7 96]) .skip)))))
def i122_r3:aK:=(rf [oj 97 .add 14 1,om 14 97])
def i122_l4:aK:=(aq [oj 15 .lss 14 2] (.seq (eO 15) (.seq (.block 1 (aq [om 16 14,om 8 16] (ef [om 17 0,fq 18 17 1,df 19 2 18 3,dl 20 19 7,om 21 0,fq 22 21 16,df 23 3 22 48,dl 24 23 112,om 25 2,db 26 .mul (.i 2) (.t 25) 256,om 27 8,dt 28 .add 26 27 1792,di 29 1 24 28 4080,dl 30 29 8176,di 31 5 20 30 16383,dx 32 5 31 32767,oo 9 (.alloc 7808321024 [cZ,.nils,.nils,.nils,cZ]),iw 5 9 32 131071] (aq [eo 10] (.seq (aq [of 33 1 9,ol 34 33,oh 35 34,mi 36 0] (.block 2 (.loop i122_l1))) i122_r2))))) i122_r3)))
def i122_r5:aK:=(aq [om 98 7,oc 99 7809408064 149 [.t 98,.k (.one (.p (.fn 150 [] [])))]] (aP [om 100 7,om 6 100]))
def i122:aX:=⟨101,[(6,none)],(aq [eo 6] (aq [eo 7] (.seq .skip (.seq (aq [mi 14 0] (dZ i122_l4)) i122_r5))))⟩
def i46_l1:aK:=(aq [ot 26 .lss 25 24] (.seq (ct 26 .skip (.exit 2)) (.seq (.block 3 (aq [om 27 25,oi 28 6 23 25,ox 29 6 28,oo 8 (.alloc 2944512192 [il 0,il 0,il 0,il 0,il 0,cZ]),om 7 27,os 6 8 29] (.seq (aq [of 30 0 8,ol 31 30,oj 32 .neq 31 1] (ct 32 (.exit 3) .skip)) (.seq (aq [om 33 6] (ct 33 (aq [om 34 5,om 35 7,oc 36 2944704128 20 [.t 34,.t 35],oc 37 2944704192 72 [.t 36],om 9 37] (aq [om 38 3,oo 39 (.eqc .slc false (.t 38) (.k (.one (.p (.nils))))),om 40 39,eh 41 9 40,eh 42 3 40,DJ 43 2944768320 73 [.t 41,.t 42] 40,gJ 44 40 43] (ct 44 (rf [om 45 9,om 3 45]) .skip))) .skip)) (rf [om 46 6,nH 47 46,om 6 47]))))) (rf [oj 48 .add 25 1,
 om 25 48]))))
def i46_r2:aK:=(rf [oj 49 .add 19 1,om 19 49])
def i46_l3:aK:=(aq [ot 20 .lss 19 18] (.seq (eO 20) (.seq (.block 1 (aq [oi 21 1 17 19,ol 22 21,om 5 22] (aq [mb 6 true] (aq [om 23 5,oh 24 23,mi 25 0] (.block 2 (.loop i46_l1)))))) i46_r2)))
def i46_r4:aK:=(aP [om 50 0,on 51 50,of 52 0 51,of 53 0 52,ol 54 53,om 55 3,oo 56 (.build [il 0,.nils] [(0,1,.t 54),(1,1,.t 55)]),os 2 2 56])
def i46:aX:=⟨57,[(2,some (some 2))],(aq [oo 2 (.alloc 2944000000 [il 0,.nils])] (aq [eo 3] (.seq (ef [om 10 0,fq 11 10 1,df 12 0 11 3,df 13 1 12 7,dl 14 13 15,om 15 0,dc 16 2944128384 22 [.t 15] 32,od 17 (.fi 2944128448 22 1 [.t 14,.t 16]) 127,uc 18 17 255,mi 19 0] (dZ i46_l3)) i46_r4)))⟩
def i123:aX:=⟨98,[(4,none),(5,none)],(aq [eo 4,eo 5] (aq [om 14 0,on 15 14,of 16 3 15,ol 17 16,oh 18 17,om 6 18] (ef [om 19 0,fq 20 19 1,df 21 0 20 3,df 22 1 21 7,dl 23 22 15,om 24 0,fq 25 24 32,df 26 3 25 96,dl 27 26 224,om 28 1,di 29 1 27 28 992,dl 30 29 2016,di 31 6 23 30 4095,dx 32 6 31 8191,om 33 0,fq 34 33 16384,df 35 0 34 49152,df 36 1 35 114688,dl 37 36 245760,om 38 0,fq 39 38 524288,df 40 3 39 1572864,dl 41 40 3670016,om 42 1,dj 43 .add 42 1 8388608,om 44 6,dt 45 .rem 43 44 58720256,di 46 1 41 45 133693440,dl 47 46 267911168,di 48 6 37 47 536854528,dx 49 6 48 1073725440,oo 7 (.alloc 7872129984 [il 0,il 0,il 0,il 0,il 0,cZ]),oo 8 (.alloc 7872130048 [il 0,il 0,il 0,il 0,il 0,cZ]),iw 6 7 32 6442467327,
 iw 6 8 49 17179869183] (aq [of 50 1 7,ol 51 50,of 52 2 7,ol 53 52,oo 54 (.build [il 0,il 0] [(0,1,.t 51),(1,1,.t 53)]),oo 9 (.alloc 7872192320 [il 0,il 0]),os 2 9 54] (aq [of 55 1 8,ol 56 55,of 57 2 8,ol 58 57,oj 59 .sub 58 1,oo 60 (.build [il 0,il 0] [(0,1,.t 56),(1,1,.t 59)]),oo 10 (.alloc 7872256384 [il 0,il 0]),os 2 10 60] (.seq (aq [om 61 1,om 62 6,oj 63 .sub 62 1,ot 64 .lss 61 63] (ct 64 (aP [ox 65 2 9,ox 66 2 10,oc 67 7872384128 151 [.t 65,.t 66,.k (.one (.p (.nils))),.k (.one (.p (.nils)))],oe 68 67 0,oe 69 67 1,om 4 68,om 5 69]) .skip)) (aq [om 70 0,on 71 70,of 72 0 71,of 73 0 72,ol 74 73,oo 75 (.build [il 0,il 0] [(0,1,.t 74)]),oo 11 (.alloc 7872448384 [il 0,il 0]),os 2 11 75] (.seq (ef [of 76 1 7,dl 77 76 1,om 78 0,fq 79 78 4,df 80 0 79 12,df 81 0 80 28,dl 82 81 60,
 dt 83 .eql 77 82 127] (ct 83 (rf [ox 84 2 9,os 2 11 84]) .skip)) (aq [ox 86 2 9,ox 87 2 11,oc 88 7872640128 151 [.t 86,.t 87,.k (.one (.p (.nils))),.k (.one (.p (.nils)))],om 85 88,oe 89 85 0,oe 90 85 1,om 12 89,om 13 90] (aP [oo 91 (.build [il 0,il 0] []),ox 92 2 10,om 93 12,om 94 13,oc 95 7872704256 151 [.t 91,.t 92,.t 93,.t 94],oe 96 95 0,oe 97 95 1,om 4 96,om 5 97]))))))))))⟩
def i124_l1:aK:=(.seq (aq [om 7 2,om 8 3,ot 9 .lss 7 8] (eO 9)) (.seq (.block 1 (rt [om 14 0,om 15 2,om 16 0,om 17 3,om 18 0,om 19 3,di 20 2 18 19 48,dx 21 2 20 112,om 22 0,om 23 2,di 24 2 22 23 768,dx 25 2 24 1792,di 26 2 14 15 4083,iw 2 26 21 8179,di 27 2 16 17 16383,iw 2 27 25 32767])) (rf [om 10 2,oj 11 .add 10 1,om 12 3,oj 13 .sub 12 1,om 2 11,om 3 13])))
def i124:aX:=⟨28,[],(aq [om 4 0,oh 5 4,oj 6 .sub 5 1,mi 2 0,om 3 6] (dZ i124_l1))⟩
def i125_l1:aK:=(.seq (aq [om 7 2,om 8 3,ot 9 .lss 7 8] (eO 9)) (.seq (.block 1 (rt [om 14 0,om 15 2,om 16 0,om 17 3,om 18 0,om 19 3,di 20 1 18 19 48,dl 21 20 112,om 22 0,om 23 2,di 24 1 22 23 768,dl 25 24 1792,di 26 1 14 15 4083,iw 1 26 21 8179,di 27 1 16 17 16383,iw 1 27 25 32767])) (rf [om 10 2,oj 11 .add 10 1,om 12 3,oj 13 .sub 12 1,om 2 11,om 3 13])))
def i125:aX:=⟨28,[],(aq [om 4 0,oh 5 4,oj 6 .sub 5 1,mi 2 0,om 3 6] (dZ i125_l1))⟩
def i126:aX:=⟨15,[(4,none),(5,none)],(aq [mi 4 0,mi 5 0] (ef [om 6 1,om 7 1,dj 8 .add 7 1 2,om 9 0,fq 10 9 8,df 11 1 10 24,dl 12 11 56,uc 13 12 120,dt 14 .rem 8 13 254,dm 4 6 1,dm 5 14 1023] .ret))⟩
def i127_l1:aK:=(aq [ot 11 .lss 10 9] (.seq (eO 11) (.seq (.block 1 (aq [om 12 10,oi 13 7 8 10,ox 14 7 13,oo 7 (.alloc 8128256192 [il 0,il 0,il 0,il 0,il 0,cZ,cZ]),om 6 12,os 7 7 14] (aq [om 15 1,om 16 6,ox 17 7 7,oo 18 (.call 8128320192 (.t 15) [.t 16,.t 17]),nH 19 18] (ct 19 (rf [om 20 5,ox 21 7 7,oo 22 (.fi 8128384128 149 7 [.t 21]),mR 23 8128384192 149 7 56 20 22,om 5 23]) .skip)))) (rf [oj 24 .add 10 1,om 10 24]))))
def i127_r2:aK:=(aP [om 25 5,om 4 25])
def i127:aX:=⟨26,[(4,none)],(aq [eo 4] (aq [eo 5] (.seq (aq [om 8 0,oh 9 8,mi 10 0] (dZ i127_l1)) i127_r2)))⟩
def i129_l1:aK:=(aq [ot 12 .lss 11 10] (.seq (eO 12) (.seq (.block 1 (aq [om 13 11,om 8 13] (aq [om 14 0,om 15 8,oi 16 7 14 15,of 17 0 16,of 18 0 17,ol 19 18,oj 20 .eql 19 1,om 21 20,fU 22 0 21,fU 23 8 21,Af 24 7 22 23 21,eL 25 0 24 21,eL 26 1 25 21,fA 27 26 21,fU 28 1 21,xM 29 .eql 27 28 21,jH 30 21 29,om 31 30,fU 32 0 31,fU 33 8 31,Af 34 7 32 33 31,eL 35 0 34 31,
 eL 36 2 35 31,fA 37 36 31,fU 38 2 31,xM 39 .gtr 37 38 31,jH 40 31 39] (ct 40 (rf [om 41 0,om 42 8,oi 43 7 41 42,of 44 0 43,of 45 2 44,ol 46 45,om 47 3,ot 48 .add 46 47,oi 49 7 41 42,of 50 0 49,of 51 2 50,os 1 51 48]) .skip)))) (rf [oj 52 .add 11 1,om 11 52]))))
def i129:aX:=⟨53,[],(aq [om 9 0,oh 10 9,mi 11 0] (dZ i129_l1))⟩
def i128:aX:=⟨15,[(6,none)],(aq [dB 5 8192000000 1,mb 6 false] (aP [om 7 0,ol 8 2,ot 9 .eql 7 8,om 10 9,eh 11 0 10,iL 12 3 10,uu 13 .eql 11 12 10,gJ 14 10 13,om 6 14]))⟩
def i131:aX:=⟨8,[(2,none)],(aq [eo 2] (.seq (aq [om 3 0,oo 4 (.eqc .slc false (.t 3) (.k (.one (.p (.nils)))))] (ct 4 (aP [eo 2]) .skip)) (aP [oo 5 (.fi 8384192000 149 7 []),om 6 0,mR 7 8384192128 149 7 56 5 6,om 2 7])))⟩
def i133:aX:=⟨51,[(4,none),(5,none),(6,none)],(aq [mi 4 0,mi 5 0,mb 6 false] (aq [om 10 0,om 11 1,oc 12 8512064128 126 [.t 10,.t 11],om 9 12,oe 13 9 0,oe 14 9 1,om 7 13,om 8 14] (.seq (aq [om 15 0,on 16 15,of 17 1 16,ol 18 17,om 19 7,oi 20 7 18 19,of 21 0 20,of 22 0 21,ol 23 22,oj 24 .eql 23 2] (ct 24 (rf [om 25 8,om 26 7,om 7 25,om 8 26]) .skip)) (ef [om 27 7,om 28 8,om 29 0,fq 30 29 4,df 31 1 30 12,dl 32 31 28,om 33 7,di 34 7 32 33 124,df 35 0 34 252,df 36 0 35 508,dl 37 36 1020,dj 38 .eql 37 1 2044,dm 39 38 4092,kr 40 0 39 8188,Hn_ 41 40 39 16380,mE 42 1 41 39 32764,kD 43 42 39 65532,kr 44 8 39 8188,r9 45 7 43 44 39 262140,
 mE 46 0 45 39 524284,mE 47 0 46 39 1048572,kD 48 47 39 2097148,yn 49 .eql 48 2 39 4194300,wX 50 39 49 8388604,dm 4 27 8189,dm 5 28 16785407,dm 6 50 67108863] .ret))))⟩
def i134:aX:=⟨31,[(6,none)],(aq [dB 3 8576000000 0,dB 4 8576000064 1,dB 5 8576000128 2,mb 6 false] (ef [ol 7 3,fq 8 7 1,df 9 3 8 3,dl 10 9 7,ol 11 5,od 12 (.ql 1 (.t 11) (.i 0)) 16,dl 13 12 48,db 14 .mul (.i 2) (.t 13) 112,di 15 1 10 14 255,dl 16 15 511,ol 17 3,fq 18 17 1024,df 19 3 18 3072,dl 20 19 7168,ol 21 5,od 22 (.ql 1 (.t 21) (.i 0)) 16384,dl 23 22 49152,db 24 .mul (.i 2) (.t 23) 114688,dj 25 .add 24 1 245760,di 26 1 20 25 523264,dl 27 26 1047552,od 28 (.fi 8576065344 3 1 [.t 16,.t 27]) 2097151,oo 29 (.mkfn 154 [] [.t 3,.t 5,.t 4]),dc 30 8576065472 153 [.t 28,.t 29] 8388607,dm 6 30 16777215] .ret))⟩
def i135_l1:aK:=(aq [ot 27 .lss 26 25] (.seq (ct 27 .skip (.exit 2)) (.seq (.block 3 (aq [oi 28 1 24 26,ol 29 28,om 9 29] (aq [of 30 0 7,of 31 3 30,ol 32 31,om 33 9,ot 34 .gtr 32 33] (ct 34 (rf [om 35 5,om 36 6,oi 37 7 35 36,of 38 0 37,of 39 3 38,ol 40 39,oj 41 .sub 40 1,oi 42 7 35 36,of 43 0 42,of 44 3 43,os 1 44 41]) .skip)))) (rf [oj 45 .add 26 1,om 26 45]))))
def i135_r2:aK:=(rf [oj 46 .add 15 1,om 15 46])
def i135_l3:aK:=(aq [ot 16 .lss 15 14] (.seq (eO 16) (.seq (.block 1 (aq [om 17 15,oi 18 7 13 15,ox 19 7 18,oo 7 (.alloc 8640256192 [il 0,il 0,il 0,il 0,il 0,cZ,cZ]),om 6 17,os 7 7 19] (.seq (aq [of 20 0 7,of 21 0 20,ol 22 21,oj 23 .neq 22 2] (ct 23 (.exit 1) .skip)) (aq [ol 24 3,oh 25 24,mi 26 0] (.block 2 (.loop i135_l1)))))) i135_r2)))
def i135_r4:aK:=(aP [om 47 5,om 4 47])
def i135:aX:=⟨48,[(4,none)],(aq [dB 3 8640000000 1,eo 4] (aq [om 10 0,oo 11 (.mkfn 155 [] [.t 3]),oc 12 8640064128 127 [.t 10,.t 11],om 5 12] (.seq (aq [om 13 5,oh 14 13,mi 15 0] (dZ i135_l3)) i135_r4)))⟩
def i137:aX:=⟨63,[(6,none)],(aq [mb 6 false] (aq [om 10 0,om 11 1,oc 12 8768064128 126 [.t 10,.t 11],om 9 12,oe 13 9 0,oe 14 9 1,om 7 13,om 8 14] (aP [om 15 0,on 16 15,of 17 1 16,ol 18 17,om 19 7,oi 20 7 18 19,of 21 0 20,of 22 0 21,ol 23 22,oj 24 .eql 23 2,om 25 24,fU 26 0 25,Ej 27 26 25,eL 28 1 27 25,fA 29 28 25,fU 30 8 25,Af 31 7 29 30 25,eL 32 0 31 25,eL 33 0 32 25,fA 34 33 25,ux 35 .eql 34 2 25,jH 36 25 35,om 37 36,fU 38 0 37,
 Ej 39 38 37,eL 40 1 39 37,fA 41 40 37,fU 42 7 37,Af 43 7 41 42 37,eL 44 0 43 37,eL 45 5 44 37,fA 46 45 37,fU 47 2 37,Ew 48 (.eqc .bool false (.t 46) (.t 47)) 37,jH 49 37 48,om 50 49,fU 51 0 50,Ej 52 51 50,eL 53 1 52 50,fA 54 53 50,fU 55 8 50,Af 56 7 54 55 50,eL 57 0 56 50,
 eL 58 5 57 50,fA 59 58 50,fU 60 2 50,Ew 61 (.eqc .bool false (.t 59) (.t 60)) 50,jH 62 50 61,om 6 62])))⟩
def i139:aX:=⟨11,[],(aq [om 3 0,oh 4 3,om 2 4] (rf [om 5 0,om 6 2,om 7 2,oo 8 (.conv .u64 (.t 7)),oc 9 8896064256 147 [.t 8],oc 10 8896064320 157 [.t 5,.i 0,.t 6,.t 9]]))⟩
def i140_l1:aK:=(.seq (aq [om 29 5,om 30 4,oh 31 30,ot 32 .lss 29 31] (ct 32 .skip (.exit 2))) (.seq (.block 3 (ef [om 35 4,om 36 5,di 37 1 35 36 3,dl 38 37 7,om 39 4,om 40 5,dj 41 .sub 40 1 32,di 42 1 39 41 112,dl 43 42 240,dt 44 .neq 38 43 511] (ct 44 (aq [om 45 0,om 46 3,om 47 4,om 48 5,oi 49 1 47 48,ol 50 49,oi 51 1 45 46,os 1 51 50] (rf [om 52 3,oj 53 .add 52 1,om 3 53])) .skip))) (rf [om 33 5,oj 34 .add 33 1,om 5 34])))
def i140_r2:aK:=(aq [om 54 0,om 55 3,oo 56 (.slice 1 (.t 54) (some (.t 55)) none),op (.clear [il 0] (.t 56))] (aP [om 57 0,om 58 3,oo 59 (.slice 1 (.t 57) none (some (.t 58))),om 2 59]))
def i140_r3:aK:=(rf [om 14 3,oj 15 .add 14 1,om 3 15])
def i140_l4:aK:=(.seq (aq [om 10 3,om 11 0,oh 12 11,ot 13 .lss 10 12] (eO 13)) (.seq (.block 1 (ef [om 16 0,om 17 3,di 18 1 16 17 3,dl 19 18 7,om 20 0,om 21 3,dj 22 .sub 21 1 32,di 23 1 20 22 112,dl 24 23 240,dt 25 .eql 19 24 511] (ct 25 (aq [om 26 0,om 27 3,oo 28 (.slice 1 (.t 26) (some (.t 27)) none),om 4 28] (.seq (aq [mi 5 1] (.block 2 (.loop i140_l1))) i140_r2)) .skip))) i140_r3))
def i140_r5:aK:=(aP [om 60 0,om 2 60])
def i140:aX:=⟨61,[(2,none)],(aq [eo 2] (.seq (aq [om 6 0,oh 7 6,oj 8 .lss 7 2] (ct 8 (aP [om 9 0,om 2 9]) .skip)) (.seq (aq [mi 3 1] (dZ i140_l4)) i140_r5)))⟩
def i141_l1:aK:=(aq [ot 18 .lss 17 16] (.seq (eO 18) (.seq (.block 1 (aq [oi 19 1 15 17,ol 20 19,om 7 20] (aq [om 22 0,om 23 7,oc 24 9024320128 126 [.t 22,.t 23],om 21 24,oe 25 21 0,oe 26 21 1,om 8 25,om 9 26] (rt [om 27 5,om 28 8,om 29 5,om 30 9,om 31 5,om 32 9,di 33 7 31 32 48,dx 34 7 33 112,om 35 5,om 36 8,di 37 7 35 36 768,dx 38 7 37 1792,di 39 7 27 28 4083,iw 7 39 34 8179,di 40 7 29 30 16383,iw 7 40 38 32767])))) (rf [oj 41 .add 17 1,om 17 41]))))
def i141_r2:aK:=(aP [om 42 5,om 4 42])
def i141:aX:=⟨43,[(4,none)],(aq [eo 4] (aq [om 10 0,on 11 10,of 12 1 11,ol 13 12,oc 14 9024064256 131 [.t 13],om 5 14] (.seq (aq [om 15 1,oh 16 15,mi 17 0] (dZ i141_l1)) i141_r2)))⟩
def i148:aX:=⟨9,[(4,none)],(aq [dB 3 9472000000 1,mb 4 false] (aP [om 5 0,ox 6 7 3,oc 7 9472064128 172 [.t 5,.t 6],oj 8 .geq 7 0,om 4 8]))⟩
def i149:aX:=⟨14,[],(aq [om 5 0,oh 6 5,om 4 6] (rf [om 7 0,om 8 4,om 9 4,oo 10 (.conv .u64 (.t 9)),oc 11 9536064256 147 [.t 10],om 12 1,oc 13 9536064384 173 [.t 7,.i 0,.t 8,.t 11,.t 12]]))⟩
def i150:aX:=⟨20,[(4,none)],(aq [dB 2 9600000000 0,dB 3 9600000064 1,mi 4 0] (.seq (aq [of 5 2 2,ol 6 5,of 7 2 3,ol 8 7,ot 9 .neq 6 8] (ct 9 (aP [of 10 2 2,ol 11 10,of 12 2 3,ol 13 12,ot 14 .sub 11 13,om 4 14]) .skip)) (aP [of 15 3 2,ol 16 15,of 17 3 3,ol 18 17,ot 19 .sub 16 18,om 4 19])))⟩
def i22_l1:aK:=(aq [ot 17 .lss 16 15] (.seq (eO 17) (.seq (.block 1 (aq [om 18 16,om 4 18] (aq [om 19 3,oh 20 19,oj 21 .sub 20 1,om 22 4,ot 23 .sub 21 22,om 5 23] (aq [om 24 3,om 25 4,oi 26 6 24 25,of 27 0 26,ol 28 27,oj 29 .eql 28 1,om 30 29,fU 31 0 30,Ej 32 31 30,eL 33 2 32 30,fA 34 33 30,fU 35 5 30,Af 36 1 34 35 30,fA 37 36 30,Mt 38 37 30,jH 39 30 38] (ct 39 (aP [om 40 3,om 41 4,oc 42 1408512128 20 [.t 40,.t 41],om 2 42]) .skip))))) (rf [oj 43 .add 16 1,om 16 43]))))
def i22_r2:aK:=(aP [om 44 3,om 2 44])
def i22:aX:=⟨45,[(2,none)],(aq [eo 2] (aq [om 6 0,on 7 6,of 8 0 7,of 9 1 8,ol 10 9,oc 11 1408064320 44 [.t 10],om 3 11] (aq [om 12 3,oc 13 1408128064 45 [.t 12]] (.seq (aq [om 14 3,oh 15 14,mi 16 0] (dZ i22_l1)) i22_r2))))⟩
def i20:aX:=⟨13,[(4,none)],(aq [eo 4] (ef [om 5 0,om 6 1,od 7 (.slice 6 (.t 5) (some (.t 6)) none) 3,od 8 (.append 1280064192 41 6 48 (.k (.one (.p (.nils)))) (.t 7)) 7,om 9 0,om 10 1,od 11 (.slice 6 (.t 9) none (some (.t 10))) 48,uO 12 1280064448 41 6 48 8 11 127,dm 4 12 255] .ret))⟩
def i72_l1:aK:=(aq [ot 13 .lss 12 11] (.seq (eO 13) (.seq (.block 1 (aq [om 14 12,oi 15 6 10 12,ox 16 6 15,oo 6 (.alloc 4608320192 [il 0,il 0,il 0,il 0,il 0,cZ]),om 5 14,os 6 6 16] (.seq (aq [of 17 0 6,ol 18 17,oj 19 .neq 18 2] (ct 19 (.exit 1) .skip)) (.seq (aq [om 20 3,of 21 3 6,ol 22 21,oo 23 (.lookup 0 [il 0] false false (.t 20) (.t 22)),oj 24 .eql 23 0] (ct 24 (rf [om 25 3,of 26 3 6,ol 27 26,om 28 3,oo 29 (.mlen (.t 28)),oj 30 .add 29 1,op (.mupd 0 false (.t 25) (.t 27) (.t 30))]) .skip)) (rf [om 31 4,om 32 5,om 33 3,of 34 3 6,ol 35 34,oo 36 (.lookup 0 [il 0] false false (.t 33) (.t 35)),oi 37 6 31 32,of 38 3 37,os 1 38 36]))))) (rf [oj 39 .add 12 1,om 12 39]))))
def i72_r2:aK:=(aP [om 40 4,om 2 40])
def i72:aX:=⟨41,[(2,none)],(aq [eo 2] (aq [oo 7 (.mkmap 4608064000 false),om 3 7] (aq [om 8 0,oc 9 4608128064 44 [.t 8],om 4 9] (.seq (aq [om 10 4,oh 11 10,mi 12 0] (dZ i72_l1)) i72_r2))))⟩
def i73_l1:aK:=(aq [ot 9 .lss 8 7] (.seq (eO 9) (.seq (.block 1 (aq [om 10 8,om 5 10] (.seq (ef [om 11 0,om 12 5,di 13 6 11 12 3,dx 14 6 13 7,om 15 1,om 16 5,di 17 6 15 16 48,dx 18 6 17 112,od 19 (.eqc (.str [true,true,true,true,true,false]) false (.t 14) (.t 18)) 255] (ct 19 (.exit 1) .skip)) (ef [om 20 0,om 21 5,di 22 6 20 21 3,dx 23 6 22 7,om 24 1,om 25 5,di 26 6 24 25 48,dx 27 6 26 112,dc 28 4672320512 90 [.t 23,.t 27] 255,dm 4 28 511] .ret)))) (rf [oj 29 .add 8 1,om 8 29]))))
def i73_r2:aK:=(aP [mb 4 false])
def i73:aX:=⟨30,[(4,none)],(aq [mb 4 false] (.seq (aq [om 6 0,oh 7 6,mi 8 0] (dZ i73_l1)) i73_r2))⟩
def i151_l1:aK:=(.seq (aq [of 10 0 4,ol 11 10,of 12 0 5,ol 13 12,ot 14 .lss 11 13] (eO 14)) (.block 1 (aq [om 15 2,ox 16 2 4,oo 17 (.fi 9664128128 173 2 [.t 16]),mR 18 9664128192 173 2 16 15 17,om 2 18] (aq [of 19 0 4,ol 20 19,oj 21 .add 20 1,oo 22 (.build [il 0,il 0] [(0,1,.t 21)]),os 2 4 22] (rf [om 23 3,of 24 0 4,ol 25 24,oo 26 (.fi 9664256192 3 1 [.t 25]),mR 27 9664256256 3 1 8 23 26,om 3 27])))))
def i151_r2:aK:=(aP [om 28 2,ox 29 2 5,oo 30 (.fi 9664320128 173 2 [.t 29]),mR 31 9664320192 173 2 16 28 30,om 32 3,om 8 31,om 9 32])
def i151:aX:=⟨33,[(8,none),(9,none)],(aq [dB 4 9664000000 0,dB 5 9664000064 1,eo 8,eo 9] (.seq (dZ i151_l1) i151_r2))⟩
def i153:aX:=⟨9,[(4,none)],(aq [mb 4 false] (aP [om 5 0,om 6 1,oc 7 9792064128 174 [.t 5,.t 6],oj 8 .geq 7 0,om 4 8]))⟩
def i154_l1:aK:=(aq [ot 42 .lss 41 40] (.seq (ct 42 .skip (.exit 2)) (.seq (.block 3 (aq [oi 43 1 39 41,ol 44 43,om 11 44] (aq [om 45 11,oj 46 .quo 45 2,om 47 8,ot 48 .eql 46 47] (ct 48 (rf [om 49 9,oj 50 .add 49 1,om 9 50]) .skip)))) (rf [oj 51 .add 41 1,om 41 51]))))
def i154_r2:aK:=(aq [om 52 9,oj 53 .neq 52 1] (ct 53 (aP [mb 5 false]) .skip))
def i154_r3:aK:=(rf [oj 54 .add 34 1,om 34 54])
def i154_l4:aK:=(aq [ot 35 .lss 34 33] (.seq (eO 35) (.seq (.block 1 (aq [oi 36 1 32 34,ol 37 36,om 8 37] (aq [mi 9 0] (.seq (aq [of 38 1 6,ol 39 38,oh 40 39,mi 41 0] (.block 2 (.loop i154_l1))) i154_r2)))) i154_r3)))
def i154_r5:aK:=(aP [mb 5 true])
def i154:aX:=⟨55,[(5,none)],(aq [mb 5 false] (aq [ol 12 1,on 13 12,of 14 2 13,ol 15 14,om 16 0,oi 17 5 15 16,ox 18 5 17,oo 6 (.alloc 9856064448 [cZ,.nils,.nils,.nils,cZ]),os 5 6 18] (.seq (aq [of 19 1 6,ol 20 19,oh 21 20,ol 22 2,oh 23 22,ot 24 .neq 21 23,om 25 24,fS 26 2 6 25,iL 27 26 25,Il 28 27 25,iL 29 3 25,uu 30 .neq 28 29 25,gJ 31 25 30] (ct 31 (aP [mb 5 false]) .skip)) (.seq (aq [ol 32 2,oh 33 32,mi 34 0] (dZ i154_l4)) i154_r5))))⟩
def i155:aX:=⟨17,[(5,none)],(aq [dB 4 9920000000 1,mb 5 false] (aP [of 6 0 4,of 7 0 6,ol 8 7,oj 9 .eql 8 2,om 10 9,fA 11 2 10,eL 12 0 4 10,eL 13 3 12 10,fA 14 13 10,Ci 15 9920064576 156 [.t 11,.t 14] 10,jH 16 10 15,om 5 16]))⟩
def i157_l1:aK:=(.block 1 (aq [om 19 2,om 20 1,ot 21 .sub 19 20,om 10 21] (.seq (aq [om 22 10,oj 23 .leq 22 12] (ct 23 (aP [om 24 0,om 25 1,om 26 2,oc 27 10048256192 176 [.t 24,.t 25,.t 26]]) .skip)) (.seq (aq [om 28 3,oj 29 .eql 28 0] (ct 29 (aP [om 30 0,om 31 1,om 32 2,oc 33 10048384192 177 [.t 30,.t 31,.t 32]]) .skip)) (.seq (aq [om 34 8,nH 35 34] (ct 35 (aq [om 36 0,om 37 1,om 38 2,oc 39 10048512192 178 [.t 36,.t 37,.t 38]] (rf [om 40 3,oj 41 .sub 40 1,om 3 41])) .skip)) (aq [om 43 0,om 44 1,om 45 2,oc 46 10048640192 179 [.t 43,.t 44,.t 45],om 42 46,oe 47 42 0,oe 48 42 1,om 11 47,om 12 48] (.seq (aq [om 49 12,oj 50 .eql 49 2] (ct 50 (aq [om 51 0,om 52 1,om 53 2,oc 54 10048768192 180 [.t 51,.t 52,.t 53]] (aq [om 55 2,oj 56 .sub 55 1,
 om 57 11,om 58 1,ot 59 .sub 57 58,ot 60 .sub 56 59,om 11 60] (rf [mi 12 1]))) .skip)) (.seq (aq [om 61 8,om 62 61,fU 63 9 62,jH 64 62 63,om 65 64,fU 66 12 65,ux 67 .eql 66 1 65,jH 68 65 67] (ct 68 (aq [om 69 0,om 70 1,om 71 2,oc 72 10049024192 181 [.t 69,.t 70,.t 71]] (ct 72 .ret .skip)) .skip)) (.seq (ef [om 73 1,dj 74 .gtr 73 0 1,dm 75 74 3,kr 76 0 75 7,kr 77 1 75 7,yn 78 .sub 77 1 75 23,r9 79 1 76 78 75 63,kD 80 79 75 127,kr 81 0 75 7,kr 82 11 75 7,
 r9 83 1 81 82 75 775,kD 84 83 75 1799,Hc_ 85 10049088768 182 [.t 80,.t 84] 75 4095,Hu_ 86 85 75 8191,wX 87 75 86 16383] (ct 87 (aq [om 88 0,om 89 1,om 90 2,om 91 11,oc 92 10049152256 183 [.t 88,.t 89,.t 90,.t 91],om 13 92] (aq [om 93 13,om 1 93] (.exit 1))) .skip)) (aq [om 95 0,om 96 1,om 97 2,om 98 11,oc 99 10049280256 184 [.t 95,.t 96,.t 97,.t 98],om 94 99,oe 100 94 0,oe 101 94 1,om 14 100,om 15 101] (aq [om 102 15,om 9 102] (aq [om 103 14,om 104 1,ot 105 .sub 103 104,om 106 2,om 107 14,ot 108 .sub 106 107,om 16 105,om 17 108] (aq [om 109 10,oj 110 .quo 109 8,om 18 110] (aq [om 111 16,om 112 17,ot 113 .lss 111 112] (ct 113 (aq [om 114 16,
 om 115 18,ot 116 .geq 114 115,om 8 116] (aq [om 117 0,om 118 1,om 119 14,om 120 3,oc 121 10049664256 157 [.t 117,.t 118,.t 119,.t 120]] (rf [om 122 14,oj 123 .add 122 1,om 1 123]))) (aq [om 124 17,om 125 18,ot 126 .geq 124 125,om 8 126] (aq [om 127 0,om 128 14,oj 129 .add 128 1,om 130 2,om 131 3,oc 132 10049856320 157 [.t 127,.t 129,.t 130,.t 131]] (rf [om 133 14,om 2 133]))))))))))))))))))
def i157:aX:=⟨134,[],(aq [mb 8 true] (aq [mb 9 true] (dZ i157_l1)))⟩
def i172_l1:aK:=(aq [ot 9 .lss 8 7] (.seq (eO 9) (.seq (.block 1 (aq [om 10 8,om 5 10] (ef [ox 11 7 3,om 12 0,om 13 5,di 14 7 12 13 6,dx 15 7 14 14,od 16 (.eqc (.str [true,true,true,true,false,false,true]) false (.t 11) (.t 15)) 31] (ct 16 (aP [om 17 5,om 4 17]) .skip)))) (rf [oj 18 .add 8 1,om 8 18]))))
def i172_r2:aK:=(aP [oo 4 (.jU (.i (-1)))])
def i172:aX:=⟨19,[(4,none)],(aq [dB 3 11008000000 1,mi 4 0] (.seq (aq [om 6 0,oh 7 6,mi 8 0] (dZ i172_l1)) i172_r2))⟩
def i173_l1:aK:=(.block 1 (aq [om 21 2,om 22 1,ot 23 .sub 21 22,om 12 23] (.seq (aq [om 24 12,oj 25 .leq 24 12] (ct 25 (aP [om 26 0,om 27 1,om 28 2,om 29 4,oc 30 11072256256 192 [.t 26,.t 27,.t 28,.t 29]]) .skip)) (.seq (aq [om 31 3,oj 32 .eql 31 0] (ct 32 (aP [om 33 0,om 34 1,om 35 2,om 36 4,oc 37 11072384256 193 [.t 33,.t 34,.t 35,.t 36]]) .skip)) (.seq (aq [om 38 10,nH 39 38] (ct 39 (aq [om 40 0,om 41 1,om 42 2,om 43 4,oc 44 11072512256 194 [.t 40,.t 41,.t 42,.t 43]] (rf [om 45 3,oj 46 .sub 45 1,om 3 46])) .skip)) (aq [om 48 0,om 49 1,om 50 2,om 51 4,oc 52 11072640256 195 [.t 48,.t 49,.t 50,.t 51],om 47 52,oe 53 47 0,oe 54 47 1,om 13 53,om 14 54] (.seq (aq [om 55 14,oj 56 .eql 55 2] (ct 56 (aq [om 57 0,om 58 1,om 59 2,om 60 4,oc 61 11072768256 196 [.t 57,.t 58,.t 59,.t 60]] (aq [om 62 2,
 oj 63 .sub 62 1,om 64 13,om 65 1,ot 66 .sub 64 65,ot 67 .sub 63 66,om 13 67] (rf [mi 14 1]))) .skip)) (.seq (aq [om 68 10,om 69 68,fU 70 11 69,jH 71 69 70,om 72 71,fU 73 14 72,ux 74 .eql 73 1 72,jH 75 72 74] (ct 75 (aq [om 76 0,om 77 1,om 78 2,om 79 4,oc 80 11073024256 197 [.t 76,.t 77,.t 78,.t 79]] (ct 80 .ret .skip)) .skip)) (.seq (ef [om 81 1,dj 82 .gtr 81 0 1,dm 83 82 3,kr 84 4 83 7,kr 85 0 83 7,kr 86 1 83 7,yn 87 .sub 86 1 83 39,r9 88 7 85 87 83 119,Hk 89 7 88 83 247,
 kr 90 0 83 7,kr 91 13 83 7,r9 92 7 90 91 83 1543,Hk 93 7 92 83 3591,Ki 94 (.call 11073088832 (.t 84) [.t 89,.t 93]) 83 8191,yn 95 .lss 94 0 83 16383,Hu_ 96 95 83 32767,wX 97 83 96 65535] (ct 97 (aq [om 98 0,om 99 1,om 100 2,om 101 13,om 102 4,oc 103 11073152320 198 [.t 98,.t 99,.t 100,.t 101,.t 102],om 15 103] (aq [om 104 15,om 1 104] (.exit 1))) .skip)) (aq [om 106 0,om 107 1,om 108 2,om 109 13,om 110 4,oc 111 11073280320 199 [.t 106,.t 107,.t 108,.t 109,.t 110],om 105 111,oe 112 105 0,oe 113 105 1,om 16 112,om 17 113] (aq [om 114 17,om 11 114] (aq [om 115 16,om 116 1,
 ot 117 .sub 115 116,om 118 2,om 119 16,ot 120 .sub 118 119,om 18 117,om 19 120] (aq [om 121 12,oj 122 .quo 121 8,om 20 122] (aq [om 123 18,om 124 19,ot 125 .lss 123 124] (ct 125 (aq [om 126 18,om 127 20,ot 128 .geq 126 127,om 10 128] (aq [om 129 0,om 130 1,om 131 16,om 132 3,om 133 4,oc 134 11073664320 173 [.t 129,.t 130,.t 131,.t 132,.t 133]] (rf [om 135 16,oj 136 .add 135 1,om 1 136]))) (aq [om 137 19,om 138 20,ot 139 .geq 137 138,om 10 139] (aq [om 140 0,om 141 16,oj 142 .add 141 1,om 143 2,om 144 3,om 145 4,oc 146 11073856384 173 [.t 140,.t 142,.t 143,.t 144,.t 145]] (rf [om 147 16,om 2 147]))))))))))))))))))
def i173:aX:=⟨148,[],(aq [mb 10 true] (aq [mb 11 true] (dZ i173_l1)))⟩
def i45_l1:aK:=(.seq (aq [om 7 2,om 8 3,ot 9 .lss 7 8] (eO 9)) (.seq (.block 1 (rt [om 14 0,om 15 2,om 16 0,om 17 3,om 18 0,om 19 3,di 20 6 18 19 48,dx 21 6 20 112,om 22 0,om 23 2,di 24 6 22 23 768,dx 25 6 24 1792,di 26 6 14 15 4083,iw 6 26 21 8179,di 27 6 16 17 16383,iw 6 27 25 32767])) (rf [om 10 2,oj 11 .add 10 1,om 12 3,oj 13 .sub 12 1,om 2 11,om 3 13])))
def i45:aX:=⟨28,[],(aq [om 4 0,oh 5 4,oj 6 .sub 5 1,mi 2 0,om 3 6] (dZ i45_l1))⟩
def i90:aX:=⟨62,[(4,none)],(aq [dB 2 5760000000 0,dB 3 5760000064 1,mb 4 false] (.seq (.block 0 (aq [of 6 0 2,ol 7 6,of 8 0 3,ol 9 8,ot 10 .neq 7 9,om 5 10] (ct 5 (aP [of 11 0 2,ol 12 11,of 13 0 3,ol 14 13,ot 15 .lss 12 14,om 4 15]) (aq [of 17 1 2,ol 18 17,of 19 1 3,ol 20 19,ot 21 .neq 18 20,om 16 21] (ct 16 (aP [of 22 1 2,ol 23 22,of 24 1 3,ol 25 24,ot 26 .lss 23 25,om 4 26]) (aq [of 28 2 2,ol 29 28,of 30 2 3,ol 31 30,ot 32 .neq 29 31,om 27 32] (ct 27 (aP [of 33 2 2,ol 34 33,of 35 2 3,ol 36 35,ot 37 .lss 34 36,om 4 37]) (aq [of 39 3 2,ol 40 39,of 41 3 3,ol 42 41,ot 43 .neq 40 42,om 38 43] (ct 38 (aP [of 44 3 2,ol 45 44,of 46 3 3,ol 47 46,ot 48 .lss 45 47,om 4 48]) (aq [of 50 5 2,ol 51 50,of 52 5 3,ol 53 52,oo 54 (.eqc .bool true (.t 51) (.t 53)),
 om 49 54] (ct 49 (aP [of 55 5 3,ol 56 55,om 4 56]) .skip))))))))))) (aP [of 57 4 2,ol 58 57,of 59 4 3,ol 60 59,ot 61 .lss 58 60,om 4 61])))⟩
def i174_l1:aK:=(aq [ot 9 .lss 8 7] (.seq (eO 9) (.seq (.block 1 (aq [om 10 8,om 5 10] (aq [om 11 1,om 12 0,om 13 5,oi 14 1 12 13,ol 15 14,oo 16 (.call 11136256320 (.t 11) [.t 15])] (ct 16 (aP [om 17 5,om 4 17]) .skip)))) (rf [oj 18 .add 8 1,om 8 18]))))
def i174_r2:aK:=(aP [oo 4 (.jU (.i (-1)))])
def i174:aX:=⟨19,[(4,none)],(aq [mi 4 0] (.seq (aq [om 6 0,oh 7 6,mi 8 0] (dZ i174_l1)) i174_r2))⟩
def i156:aX:=⟨9,[(4,none)],(aq [mb 4 false] (aP [om 5 0,om 6 1,oc 7 9984064128 175 [.t 5,.t 6],oj 8 .geq 7 0,om 4 8]))⟩
def i176_l1:aK:=(.seq (ef [om 16 7,om 17 1,dt 18 .gtr 16 17 3,dm 19 18 7,kr 20 0 19 15,kr 21 7 19 15,r9 22 1 20 21 19 63,kD 23 22 19 127,kr 24 0 19 15,kr 25 7 19 15,yn 26 .sub 25 1 19 527,r9 27 1 24 26 19 1807,kD 28 27 19 3855,Hc_ 29 11264256832 182 [.t 23,.t 28] 19 8191,wX 30 19 29 16383] (ct 30 .skip (.exit 2))) (.seq (.block 3 (rt [om 33 0,om 34 7,om 35 0,om 36 7,dj 37 .sub 36 1 8,om 38 0,om 39 7,dj 40 .sub 39 1 64,di 41 1 38 40 224,dl 42 41 480,
 om 43 0,om 44 7,di 45 1 43 44 3072,dl 46 45 7168,di 47 1 33 34 16355,iw 1 47 42 32739,di 48 1 35 37 65535,iw 1 48 46 131071])) (rf [om 31 7,oj 32 .sub 31 1,om 7 32])))
def i176_r2:aK:=(rf [om 13 6,oj 14 .add 13 1,om 6 14])
def i176_l3:aK:=(.seq (aq [om 10 6,om 11 2,ot 12 .lss 10 11] (eO 12)) (.seq (.block 1 (aq [om 15 6,om 7 15] (.block 2 (.loop i176_l1)))) i176_r2))
def i176:aX:=⟨49,[],(aq [om 8 1,oj 9 .add 8 1,om 6 9] (dZ i176_l3))⟩
def i182:aX:=⟨17,[(4,none)],(aq [mb 4 false] (aP [om 5 0,oc 6 11648064064 203 [.t 5],om 7 6,fU 8 1 7,Ci 9 11648064256 203 [.t 8] 7,Mt 10 9 7,jH 11 7 10,om 12 11,eh 13 0 12,eh 14 1 12,uu 15 .lss 13 14 12,gJ 16 12 15,om 4 16]))⟩
def i192_l1:aK:=(.seq (ef [om 18 9,om 19 1,dt 20 .gtr 18 19 3,dm 21 20 7,kr 22 3 21 15,kr 23 0 21 15,kr 24 9 21 15,r9 25 7 23 24 21 111,Hk 26 7 25 21 239,kr 27 0 21 15,kr 28 9 21 15,yn 29 .sub 28 1 21 1039,r9 30 7 27 29 21 3599,Hk 31 7 30 21 7695,Ki 32 (.call 12288256896 (.t 22) [.t 26,.t 31]) 21 16383,yn 33 .lss 32 0 21 32767,wX 34 21 33 65535] (ct 34 .skip (.exit 2))) (.seq (.block 3 (rt [om 37 0,om 38 9,om 39 0,
 om 40 9,dj 41 .sub 40 1 8,om 42 0,om 43 9,dj 44 .sub 43 1 64,di 45 7 42 44 224,dx 46 7 45 480,om 47 0,om 48 9,di 49 7 47 48 3072,dx 50 7 49 7168,di 51 7 37 38 16355,iw 7 51 46 32739,di 52 7 39 41 65535,iw 7 52 50 131071])) (rf [om 35 9,oj 36 .sub 35 1,om 9 36])))
def i192_r2:aK:=(rf [om 15 8,oj 16 .add 15 1,om 8 16])
def i192_l3:aK:=(.seq (aq [om 12 8,om 13 2,ot 14 .lss 12 13] (eO 14)) (.seq (.block 1 (aq [om 17 8,om 9 17] (.block 2 (.loop i192_l1)))) i192_r2))
def i192:aX:=⟨53,[],(aq [om 10 1,oj 11 .add 10 1,om 8 11] (dZ i192_l3))⟩
def i175_l1:aK:=(aq [ot 9 .lss 8 7] (.seq (eO 9) (.seq (.block 1 (aq [om 10 8,om 5 10] (aq [om 11 1,om 12 0,om 13 5,oi 14 1 12 13,ol 15 14,ot 16 .eql 11 15] (ct 16 (aP [om 17 5,om 4 17]) .skip)))) (rf [oj 18 .add 8 1,om 8 18]))))
def i175_r2:aK:=(aP [oo 4 (.jU (.i (-1)))])
def i175:aX:=⟨19,[(4,none)],(aq [mi 4 0] (.seq (aq [om 6 0,oh 7 6,mi 8 0] (dZ i175_l1)) i175_r2))⟩
def i203:aX:=⟨6,[(2,none)],(aq [mb 2 false] (aP [om 3 0,om 4 0,ot 5 .neq 3 4,om 2 5]))⟩
def i3:aX:=⟨75,[(8,none)],(aq [dB 4 192000000 0,mb 8 false] (.seq (aq [ox 18 2 4,oc 19 192064064 4 [.t 18,.i 30],nH 20 19,om 21 20,eh 22 1 21,ny 23 .lss 22 1 21,gJ 24 21 23,om 25 24,eh 26 1 25,ny 27 .gtr 26 20 25,gJ 28 25 27] (ct 28 (aP [oc 29 192128000 5 [],om 8 29]) .skip)) (aq [ox 30 2 4,oo 9 (.alloc 192192064 [il 0,.nils]),os 2 9 30] (.seq (aq [ox 32 2 4,om 33 2,oc 34 192256128 6 [.t 32,.t 33],om 31 34,oe 35 31 0,oe 36 31 1,oo 10 (.alloc 192256384 [il 0,.nils]),os 2 10 35,om 11 36] (aq [om 37 11,oj 38 .eql 37 0] (ct 38 (rf [ox 39 2 10,os 2 9 39]) .skip))) (.seq (aq [om 40 3] (ct 40 (aq [ox 42 2 9,
 oc 43 192512064 7 [.t 42],om 41 43,oe 44 41 0,oe 45 41 1,oo 12 (.alloc 192512320 [il 0,.nils]),os 2 12 44,om 13 45] (.seq (aq [om 46 13,oj 47 .neq 46 0] (ct 47 (aP [mb 8 false]) .skip)) (rf [ox 48 2 12,os 2 9 48]))) .skip)) (aq [ox 50 2 4,om 51 1,oc 52 192768128 8 [.t 50,.t 51],om 49 52,oe 53 49 0,oe 54 49 1,oo 14 (.alloc 192768384 [il 0,.nils,.nils,cZ]),os 4 14 53,om 15 54] (aq [ox 56 2 9,om 57 1,oc 58 192832128 8 [.t 56,.t 57],om 55 58,oe 59 55 0,oe 60 55 1,oo 16 (.alloc 192832384 [il 0,.nils,.nils,cZ]),os 4 16 59,om 17 60] (aP [om 61 15,oj 62 .eql 61 0,om 63 62,fU 64 17 63,ux 65 .eql 64 0 63,jH 66 63 65,om 67 66,hx_ 68 4 14 67,hx_ 69 4 16 67,
 Ci 70 192896576 9 [.t 68,.t 69] 67,jH 71 67 70,om 72 71,Ci 73 192896768 5 [] 72,jH 74 72 73,om 8 74]))))))))⟩
end Go.Abs
namespace Go.Abs
open Go.Proofs
def EF:List Nat->Nat->Bool
 |[],_=>false
 |a::r,n=>bif Nat.beq a n then true else EF r n
def acU:List (Nat×List Nat)->Nat->List Nat
 |[],_=>[]
 |(a,l)::r,n=>bif Nat.beq a n then l else acU r n
def apY:List Nat:=[26,27,43,45,50,53,69,70,104,119,121,124,125,129,138,139,140,146,149,151,157,163,164,165,166,167,168,169,170,173,176,177,178,179,180,181,183,184,187,189,190,191,192,193,194,195,196,197,198,199,200,201,202,204,205,206,207,208,209]
def aqI:List (Nat×List Nat):=[(26,[26,50,53,27]),(27,[27]),(43,[43,69,70]),(45,[45]),(50,[50]),(53,[53]),(69,[69]),(70,[70]),(104,[104,124,125]),(119,[119,146,163,164,165,166,167,168,169,170,187,189,190,191,204]),(121,[121]),(124,[124]),(125,[125]),(129,[129]),(138,[138]),(139,[139,157,176,177,178,179,180,181,183,184,189,200,201,202,208]),(140,[140]),(146,[146,163,164,165,166,167,168,169,170,187,189,190,191,204]),(149,[149,173,189,192,193,194,195,196,197,198,199,205,206,207,209]),(151,[151]),(157,[157,176,177,178,179,180,181,183,184,189,200,201,202,208]),(163,[163]),(164,[164,187]),(165,[165,189]),(166,[166,190,191,204]),(167,[167]),(168,[168]),(169,[169]),(170,[170]),(173,[173,189,192,193,194,195,196,197,198,199,205,206,207,209]),(176,[176]),(177,[177,200]),(178,[178,189]),(179,[179,201,202,208]),(180,[180]),(181,[181]),(183,[183]),(184,[184]),(187,[187]),(189,[189]),(190,[190,191,204]),(191,[191,204]),(192,[192]),(193,[193,205]),(194,[189,194]),(195,[195,206,207,209]),(196,[196]),(197,[197]),(198,[198]),(199,[199]),(200,[200]),(201,[201,202,208]),(202,[202,208]),(204,[204]),(205,[205]),(206,[206,207,209]),(207,[207,209]),(208,[208]),(209,[209])]
def acT:List Nat:=[46]
def VU(f:Nat)(args:List V):Option (Option RV):=
 bif Nat.beq f 76 then some (PY args)
 else bif Nat.beq f 147 then some (M4 args)
 else bif EF [44,131] f then PW args
 else bif Nat.beq f 52 then PX args
 else none
noncomputable def S:Sys:={P:=Tryz.prog,shared:=EF apY,sites:=acU aqI,lone:=fun s=>EF acT (s/64000000),fns:=BR Tryz.prog,prim:=VU}
abbrev cG(n:Nat):Prop:=S.shared n=false
theorem c36:S.fns 36=some i36:=ah
theorem s36:cG 36:=rfl
theorem c19:S.fns 19=some i19:=ah
theorem s19:cG 19:=rfl
theorem c42:S.fns 42=some i42:=ah
theorem s42:cG 42:=rfl
theorem c88:S.fns 88=some i88:=ah
theorem s88:cG 88:=rfl
theorem c92:S.fns 92=some i92:=ah
theorem s92:cG 92:=rfl
theorem c67:S.fns 67=some i67:=ah
theorem s67:cG 67:=rfl
theorem c87:S.fns 87=some i87:=ah
theorem s87:cG 87:=rfl
theorem c68:S.fns 68=some i68:=ah
theorem s68:cG 68:=rfl
theorem c69:S.fns 69=some i69:=ah
theorem c70:S.fns 70=some i70:=ah
theorem c71:S.fns 71=some i71:=ah
theorem s71:cG 71:=rfl
theorem c43:S.fns 43=some i43:=ah
theorem c89:S.fns 89=some i89:=ah
theorem s89:cG 89:=rfl
theorem c102:S.fns 102=some i102:=ah
theorem s102:cG 102:=rfl
theorem c101:S.fns 101=some i101:=ah
theorem s101:cG 101:=rfl
theorem c86:S.fns 86=some i86:=ah
theorem s86:cG 86:=rfl
theorem c100:S.fns 100=some i100:=ah
theorem s100:cG 100:=rfl
theorem c10:S.fns 10=some i10:=ah
theorem s10:cG 10:=rfl
theorem c32:S.fns 32=some i32:=ah
theorem s32:cG 32:=rfl
theorem c35:S.fns 35=some i35:=ah
theorem s35:cG 35:=rfl
theorem c31:S.fns 31=some i31:=ah
theorem s31:cG 31:=rfl
theorem c54:S.fns 54=some i54:=ah
theorem s54:cG 54:=rfl
theorem c81:S.fns 81=some i81:=ah
theorem s81:cG 81:=rfl
theorem c33:S.fns 33=some i33:=ah
theorem s33:cG 33:=rfl
theorem c55:S.fns 55=some i55:=ah
theorem s55:cG 55:=rfl
theorem c82:S.fns 82=some i82:=ah
theorem s82:cG 82:=rfl
theorem c79:S.fns 79=some i79:=ah
theorem s79:cG 79:=rfl
theorem c56:S.fns 56=some i56:=ah
theorem s56:cG 56:=rfl
theorem c83:S.fns 83=some i83:=ah
theorem s83:cG 83:=rfl
theorem c80:S.fns 80=some i80:=ah
theorem s80:cG 80:=rfl
theorem c57:S.fns 57=some i57:=ah
theorem s57:cG 57:=rfl
theorem c34:S.fns 34=some i34:=ah
theorem s34:cG 34:=rfl
theorem c91:S.fns 91=some i91:=ah
theorem s91:cG 91:=rfl
theorem c74:S.fns 74=some i74:=ah
theorem s74:cG 74:=rfl
theorem c47:S.fns 47=some i47:=ah
theorem s47:cG 47:=rfl
theorem c51:S.fns 51=some i51:=ah
theorem s51:cG 51:=rfl
theorem c29:S.fns 29=some i29:=ah
theorem s29:cG 29:=rfl
theorem c30:S.fns 30=some i30:=ah
theorem s30:cG 30:=rfl
theorem c75:S.fns 75=some i75:=ah
theorem s75:cG 75:=rfl
theorem c78:S.fns 78=some i78:=ah
theorem s78:cG 78:=rfl
theorem c44:S.fns 44=some i44:=ah
theorem s44:cG 44:=rfl
theorem c93:S.fns 93=some i93:=ah
theorem s93:cG 93:=rfl
theorem c94:S.fns 94=some i94:=ah
theorem s94:cG 94:=rfl
theorem c95:S.fns 95=some i95:=ah
theorem s95:cG 95:=rfl
theorem c96:S.fns 96=some i96:=ah
theorem s96:cG 96:=rfl
theorem c98:S.fns 98=some i98:=ah
theorem s98:cG 98:=rfl
theorem c99:S.fns 99=some i99:=ah
theorem s99:cG 99:=rfl
theorem c24:S.fns 24=some i24:=ah
theorem s24:cG 24:=rfl
theorem c103:S.fns 103=some i103:=ah
theorem s103:cG 103:=rfl
theorem c104:S.fns 104=some i104:=ah
theorem c105:S.fns 105=some i105:=ah
theorem s105:cG 105:=rfl
theorem c106:S.fns 106=some i106:=ah
theorem c108:S.fns 108=some i108:=ah
theorem c109:S.fns 109=some i109:=ah
theorem c111:S.fns 111=some i111:=ah
theorem c113:S.fns 113=some i113:=ah
theorem c115:S.fns 115=some i115:=ah
theorem s115:cG 115:=rfl
theorem c116:S.fns 116=some i116:=ah
theorem s116:cG 116:=rfl
theorem c118:S.fns 118=some i118:=ah
theorem s118:cG 118:=rfl
theorem c122:S.fns 122=some i122:=ah
theorem s122:cG 122:=rfl
theorem c46:S.fns 46=some i46:=ah
theorem s46:cG 46:=rfl
theorem c123:S.fns 123=some i123:=ah
theorem s123:cG 123:=rfl
theorem c124:S.fns 124=some i124:=ah
theorem c125:S.fns 125=some i125:=ah
theorem c126:S.fns 126=some i126:=ah
theorem s126:cG 126:=rfl
theorem c127:S.fns 127=some i127:=ah
theorem s127:cG 127:=rfl
theorem c129:S.fns 129=some i129:=ah
theorem c128:S.fns 128=some i128:=ah
theorem s128:cG 128:=rfl
theorem c131:S.fns 131=some i131:=ah
theorem s131:cG 131:=rfl
theorem c133:S.fns 133=some i133:=ah
theorem s133:cG 133:=rfl
theorem c134:S.fns 134=some i134:=ah
theorem s134:cG 134:=rfl
theorem c135:S.fns 135=some i135:=ah
theorem s135:cG 135:=rfl
theorem c137:S.fns 137=some i137:=ah
theorem s137:cG 137:=rfl
theorem c139:S.fns 139=some i139:=ah
theorem c140:S.fns 140=some i140:=ah
theorem c141:S.fns 141=some i141:=ah
theorem s141:cG 141:=rfl
theorem c148:S.fns 148=some i148:=ah
theorem c149:S.fns 149=some i149:=ah
theorem c150:S.fns 150=some i150:=ah
theorem c22:S.fns 22=some i22:=ah
theorem s22:cG 22:=rfl
theorem c20:S.fns 20=some i20:=ah
theorem s20:cG 20:=rfl
theorem c72:S.fns 72=some i72:=ah
theorem s72:cG 72:=rfl
theorem c73:S.fns 73=some i73:=ah
theorem s73:cG 73:=rfl
theorem c151:S.fns 151=some i151:=ah
theorem c153:S.fns 153=some i153:=ah
theorem s153:cG 153:=rfl
theorem c154:S.fns 154=some i154:=ah
theorem s154:cG 154:=rfl
theorem c155:S.fns 155=some i155:=ah
theorem s155:cG 155:=rfl
theorem c157:S.fns 157=some i157:=ah
theorem s157:S.shared 157=true:=ah
theorem c172:S.fns 172=some i172:=ah
theorem s172:cG 172:=rfl
theorem c173:S.fns 173=some i173:=ah
theorem s173:S.shared 173=true:=ah
theorem c45:S.fns 45=some i45:=ah
theorem s45:S.shared 45=true:=ah
theorem c90:S.fns 90=some i90:=ah
theorem s90:cG 90:=rfl
theorem c174:S.fns 174=some i174:=ah
theorem s174:cG 174:=rfl
theorem c156:S.fns 156=some i156:=ah
theorem s156:cG 156:=rfl
theorem c176:S.fns 176=some i176:=ah
theorem s176:S.shared 176=true:=ah
theorem c182:S.fns 182=some i182:=ah
theorem s182:cG 182:=rfl
theorem c192:S.fns 192=some i192:=ah
theorem s192:S.shared 192=true:=ah
theorem c175:S.fns 175=some i175:=ah
theorem s175:cG 175:=rfl
theorem c203:S.fns 203=some i203:=ah
theorem s203:cG 203:=rfl
theorem c3:S.fns 3=some i3:=ah
theorem s3:cG 3:=rfl
end Go.Abs
namespace Go.Abs
def i53:aX:=⟨14,[],(aq [dB 3 3392000000 1] (rt [om 4 0,om 5 0,fq 6 5 2,df 7 0 6 6,dl 8 7 14,ox 9 5 3,od 10 (.fi 3392064384 77 5 [.t 9]) 32,uO 11 3392064448 77 5 88 8 10 126,fq 12 4 255,df 13 0 12 511,iw 1 13 11 1023]))⟩
def i50:aX:=⟨34,[(2,some (some 5)),(3,none)],(aq [oo 2 (.alloc 3200000000 [il 0,.nils,il 0,.nils,.nils]),mb 3 false] (.seq (ef [om 5 0,fq 6 5 1,df 7 1 6 3,dl 8 7 7,om 9 0,fq 10 9 16,df 11 0 10 48,dl 12 11 112,uc 13 12 240,dt 14 .eql 8 13 511] (ct 14 (aq [oo 4 (.alloc 3200128000 [il 0,.nils,il 0,.nils,.nils])] (aP [ox 15 5 4,os 5 2 15,mb 3 false])) .skip)) (aq [om 16 0,on 17 16,of 18 1 17,ol 19 18,oj 20 .add 19 1,on 21 16,of 22 1 21,os 1 22 20] (ef [om 23 0,fq 24 23 1,df 25 0 24 3,dl 26 25 7,om 27 0,fq 28 27 16,df 29 1 28 48,dl 30 29 112,dj 31 .sub 30 1 240,di 32 5 26 31 511,dx 33 5 32 1023,iw 5 2 33 2047,od 3 (.jU (.b true)) 4095] .ret))))⟩
def i7:aX:=⟨8,[(2,some (some 2)),(3,none)],(aq [dB 1 448000000 0,oo 2 (.alloc 448000064 [il 0,.nils]),mi 3 0] (aP [ox 4 2 1,oc 5 448064064 21 [.t 4,.k (.one (.p (.fn 22 [] [])))],oe 6 5 0,oe 7 5 1,os 2 2 6,om 3 7]))⟩
def i49_l1:aK:=(aq [ot 14 .lss 13 12] (.seq (eO 14) (.seq (.block 1 (aq [oi 15 6 11 13,ox 16 6 15,oo 5 (.alloc 3136256128 [il 0,il 0,il 0,il 0,il 0,cZ]),os 6 5 16] (rf [om 17 3,ox 18 6 5,oc 19 3136320128 77 [.t 18],oo 20 (.bin .add (.k (.one (.p (.str ⟨#[32]⟩)))) (.t 19)),ot 21 .add 17 20,om 3 21]))) (rf [oj 22 .add 13 1,om 13 22]))))
def i49_r2:aK:=(aP [om 23 3,om 2 23])
def i49:aX:=⟨24,[(2,none)],(aq [dB 1 3136000000 0,oo 2 (.jU (.k (.one (.p (.str ⟨#[]⟩)))))] (aq [of 6 0 1,ol 7 6,oc 8 3136064128 76 [.t 7],oo 9 (.bin .add (.t 8) (.k (.one (.p (.str ⟨#[58]⟩))))),om 3 9] (.seq (aq [of 10 1 1,ol 11 10,oh 12 11,mi 13 0] (dZ i49_l1)) i49_r2)))⟩
def i6:aX:=⟨50,[(4,some (some 2)),(5,none)],(aq [dB 2 384000000 0,oo 4 (.alloc 384000064 [il 0,.nils]),mi 5 0] (aq [ox 9 2 2,oc 10 384064064 19 [.t 9],om 8 10,oe 11 8 0,oe 12 8 1,om 6 11,om 7 12] (.seq (aq [om 13 7,oj 14 .neq 13 0] (ct 14 (aP [oo 15 (.build [il 0,.nils] []),om 16 7,os 2 4 15,om 5 16]) .skip)) (.seq (aq [om 17 1,oj 18 .lss 17 0,om 19 18,eh 20 1 19,eh 21 6 19,FM 22 21 19,fS 23 0 22 19,fS 24 1 23 19,iL 25 24 19,Il 26 25 19,uu 27 .geq 20 26 19,gJ 28 19 27,om 29 28,eh 30 6 29,
 FM 31 30 29,fS 32 2 31 29,iL 33 32 29,eh 34 1 29,gi_ 35 1 33 34 29,iL 36 35 29,Io 37 36 29,gJ 38 29 37] (ct 38 (aP [oo 39 (.build [il 0,.nils] []),os 2 4 39,mi 5 2]) .skip)) (ef [of 40 0 2,dl 41 40 1,om 42 6,fq 43 42 4,df 44 0 43 12,df 45 1 44 28,dl 46 45 60,om 47 1,dc 48 384384512 20 [.t 46,.t 47] 252,od 49 (.build [il 0,.nils] [(0,1,.t 41),(1,1,.t 48)]) 511,iw 2 4 49 1023,od 5 (.jU (.i 0)) 2047] .ret)))))⟩
def i21:aX:=⟨23,[(4,some (some 2)),(5,none)],(aq [dB 2 1344000000 0,oo 4 (.alloc 1344000064 [il 0,.nils]),mi 5 0] (aq [ox 9 2 2,oc 10 1344064064 19 [.t 9],om 8 10,oe 11 8 0,oe 12 8 1,om 6 11,om 7 12] (.seq (aq [om 13 7,oj 14 .neq 13 0] (ct 14 (aP [oo 15 (.build [il 0,.nils] []),om 16 7,os 2 4 15,om 5 16]) .skip)) (ef [of 17 0 2,dl 18 17 1,om 19 1,om 20 6,od 21 (.call 1344256256 (.t 19) [.t 20]) 12,od 22 (.build [il 0,.nils] [(0,1,.t 18),(1,1,.t 21)]) 31,iw 2 4 22 63,od 5 (.jU (.i 0)) 127] .ret))))⟩
def i77:aX:=⟨40,[(2,none)],(aq [dB 1 4928000000 0,oo 2 (.jU (.k (.one (.p (.str ⟨#[]⟩)))))] (.seq (aq [of 4 0 1,ol 5 4] (.block 0 (aq [oj 7 .eql 5 1,om 6 7] (ct 6 (ef [of 8 1 1,dl 9 8 1,dc 10 4928192128 76 [.t 9] 3,od 11 (.bin .add (.t 10) (.k (.one (.p (.str ⟨#[46]⟩))))) 7,of 12 2 1,dl 13 12 16,dc 14 4928192384 76 [.t 13] 55,dt 15 .add 11 14 127,dm 2 15 255] .ret) (aq [oj 17 .eql 5 2,om 16 17] (ct 16 (aq [of 18 3 1,ol 19 18,oc 20 4928320128 76 [.t 19],oo 21 (.bin .add (.t 20) (.k (.one (.p (.str ⟨#[117]⟩))))),om 3 21] (.seq (aq [of 22 5 1,ol 23 22] (ct 23 (rf [of 24 3 1,ol 25 24,oc 26 4928448128 76 [.t 25],oo 27 (.bin .add (.t 26) (.k (.one (.p (.str ⟨#[111]⟩))))),om 3 27]) .skip)) (.seq (aq [of 28 4 1,ol 29 28] (.block 1 (aq [oj 31 .eql 29 1,om 30 31] (ct 30 (aP [om 32 3,
 oo 33 (.bin .add (.t 32) (.k (.one (.p (.str ⟨#[43]⟩))))),om 2 33]) (aq [oo 35 (.bin .eql (.t 29) (.i (-1))),om 34 35] (ct 34 (aP [om 36 3,oo 37 (.bin .add (.t 36) (.k (.one (.p (.str ⟨#[45]⟩))))),om 2 37]) .skip)))))) (aP [om 38 3,oo 39 (.bin .add (.t 38) (.k (.one (.p (.str ⟨#[63]⟩))))),om 2 39])))) .skip)))))) (aP [oo 2 (.jU (.k (.one (.p (.str ⟨#[63]⟩)))))])))⟩
def i38_l1:aK:=(aq [ot 36 .lss 35 34] (.seq (eO 36) (.seq (.block 1 (aq [om 37 35,oi 38 6 33 35,ox 39 6 38,oo 7 (.alloc 2432384192 [il 0,il 0,il 0,il 0,il 0,cZ]),om 6 37,os 6 7 39] (aq [of 40 1 3,ol 41 40,om 42 6,oi 43 6 41 42,ox 44 6 43,oo 8 (.alloc 2432448320 [il 0,il 0,il 0,il 0,il 0,cZ]),os 6 8 44] (ef [of 45 0 7,dl 46 45 1,of 47 0 8,dl 48 47 4,od 49 (.build [il 0,il 0] [(0,1,.t 46),(1,1,.t 48)]) 15,of 50 1 7,dl 51 50 32,of 52 1 8,dl 53 52 128,od 54 (.build [il 0,il 0] [(0,1,.t 51),(1,1,.t 53)]) 480,of 55 2 7,dl 56 55 1024,of 57 2 8,dl 58 57 4096,od 59 (.build [il 0,il 0] [(0,1,.t 56),(1,1,.t 58)]) 15360,of 60 3 7,dl 61 60 32768,of 62 3 8,dl 63 62 131072,od 64 (.build [il 0,il 0] [(0,1,.t 61),(1,1,.t 63)]) 491520,of 65 5 7,dl 66 65 1048576,dc 67 2432513408 60 [.t 66] 3145728,
 of 68 5 8,dl 69 68 8388608,dc 70 2432513600 60 [.t 69] 32505856,od 71 (.build [il 0,il 0] [(0,1,.t 67),(1,1,.t 70)]) 66060288,of 72 4 7,dl 73 72 134217728,of 74 4 8,dl 75 74 536870912,od 76 (.build [il 0,il 0] [(0,1,.t 73),(1,1,.t 75)]) 2013265920,od 77 (.fi 2432514048 112 2 [.t 49,.t 54,.t 59,.t 64,.t 71,.t 76]) 4294967295,dc 78 2432514112 58 [.t 77] 8589934591,dm 9 78 17179869183] (aq [om 79 9,oj 80 .neq 79 0] (ct 80 (aP [om 81 9,om 4 81]) .skip)))))) (rf [oj 82 .add 35 1,om 35 82]))))
def i38_r2:aK:=(aP [mi 4 0])
def i38:aX:=⟨83,[(4,none)],(aq [dB 2 2432000000 0,dB 3 2432000064 1,mi 4 0] (.seq (ef [of 10 0 2,dl 11 10 1,of 12 0 3,dl 13 12 4,od 14 (.build [il 0,il 0] [(0,1,.t 11),(1,1,.t 13)]) 15,ox 15 2 2,dc 16 2432064384 59 [.t 15] 32,ox 17 2 3,dc 18 2432064512 59 [.t 17] 224,od 19 (.build [il 0,il 0] [(0,1,.t 16),(1,1,.t 18)]) 480,of 20 1 2,dl 21 20 1024,uc 22 21 3072,of 23 1 3,dl 24 23 8192,uc 25 24 24576,od 26 (.build [il 0,il 0] [(0,1,.t 22),(1,1,.t 25)]) 64512,od 27 (.fi 2432065088 112 2 [.t 14,.t 19,.t 26]) 131071,dc 28 2432065152 58 [.t 27] 262143,dm 5 28 524287] (aq [om 29 5,oj 30 .neq 29 0] (ct 30 (aP [om 31 5,om 4 31]) .skip))) (.seq (aq [of 32 1 2,ol 33 32,oh 34 33,mi 35 0] (dZ i38_l1)) i38_r2)))⟩
def i17_l1:aK:=(aq [ot 9 .lss 8 7] (.seq (eO 9) (.seq (.block 1 (aq [om 10 8,oi 11 2 6 8,ox 12 2 11,oo 5 (.alloc 1088256192 [il 0,.nils]),om 4 10,os 2 5 12] (ef [om 13 3,dj 14 .lss 13 0 1,dm 15 14 3,Dm 16 2 5 15 7,lz 17 0 15 7,lz 18 3 15 7,Ff 19 2 17 18 15 55,Dm 20 2 19 15 119,Bw 21 1088320512 38 [.t 16,.t 20] 15 255,qw 22 .lss 21 0 15 511,jM 23 15 22 1023] (ct 23 (rf [om 24 4,om 3 24]) .skip)))) (rf [oj 25 .add 8 1,om 8 25]))))
def i17_r2:aK:=(aP [om 26 3,om 2 26])
def i17:aX:=⟨27,[(2,none)],(aq [mi 2 0] (aq [oo 3 (.jU (.i (-1)))] (.seq (aq [om 6 0,oh 7 6,mi 8 0] (dZ i17_l1)) i17_r2)))⟩
def i8_l1:aK:=(aq [ot 67 .lss 66 65] (.seq (ct 67 .skip (.exit 2)) (.seq (.block 3 (aq [oi 68 5 64 66,ox 69 5 68,oo 18 (.alloc 513088128 [il 0,.nils,il 0,.nils,.nils]),os 5 18 69] (rf [om 70 16,of 71 2 18,ox 72 2 71,oo 73 (.fi 513152192 24 2 [.t 72]),mR 74 513152256 24 2 32 70 73,om 16 74]))) (rf [oj 75 .add 66 1,om 66 75]))))
def i8_r2:aK:=(aq [om 76 13,om 77 16,oc 78 513280128 17 [.t 77],oi 79 5 76 78,ox 80 5 79,oo 19 (.alloc 513280320 [il 0,.nils,il 0,.nils,.nils]),os 5 19 80] (ef [of 81 2 19,dx 82 2 81 1,of 83 2 9,dl 84 83 4,of 85 4 19,dl 86 85 16,uO 87 513344384 55 7 48 84 86 60,om 88 14,df 89 0 9 15,iw 2 89 82 383,df 90 2 9 895,iw 1 90 87 1919,df 91 3 9 4095,iw 1 91 88 8191] (aP [ox 92 4 9,os 4 4 92,mi 5 0])))
def i8_l3:aK:=(.block 1 (aq [ox 33 2 7,oc 34 512384064 25 [.t 33],om 32 34,oe 35 32 0,oe 36 32 1,oo 10 (.alloc 512384320 [il 0,.nils]),os 2 10 35,om 11 36] (aq [of 37 2 9,ol 38 37,om 39 11,mR 40 512448192 55 7 48 38 39,of 41 2 9,os 1 41 40] (aq [oo 12 (.alloc 512512000 [cZ]),op (.store 1 (.t 12) (.b false))] (aq [ox 43 2 10,om 44 1,oo 45 (.mkfn 27 [] [.t 12]),oc 46 512576192 26 [.t 43,.t 44,.t 45],om 42 46,oe 47 42 0,oe 48 42 1,om 13 47,om 14 48] (aq [om 49 13,om 50 13,oh 51 50,oj 52 .sub 51 1,oi 53 5 49 52,ox 54 5 53,oo 15 (.alloc 512640384 [il 0,.nils,il 0,.nils,.nils]),os 5 15 54] (.seq (aq [ol 55 12] (ct 55 (aq [of 56 0 15,ox 57 2 56,os 2 7 57] (aq [of 58 2 9,ol 59 58,of 60 4 15,ol 61 60,mR 62 512832256 55 7 48 59 61,of 63 2 9,os 1 63 62] (.exit 1))) .skip)) (aq [eo 16] (.seq (aq [om 64 13,
 oh 65 64,mi 66 0] (.block 2 (.loop i8_l1))) i8_r2)))))))))
def i8:aX:=⟨93,[(4,some (some 4)),(5,none)],(aq [dB 2 512000000 0,oo 4 (.alloc 512000064 [il 0,.nils,.nils,cZ]),mi 5 0] (.seq (aq [ox 20 2 2,om 21 1,oc 22 512064128 23 [.t 20,.t 21],om 6 22] (aq [om 23 6,oj 24 .neq 23 0] (ct 24 (aP [oo 25 (.build [il 0,.nils,.nils,cZ] []),om 26 6,os 4 4 25,om 5 26]) .skip))) (aq [ox 28 2 2,oc 29 512256064 24 [.t 28],om 27 29,oe 30 27 0,oe 31 27 1,oo 7 (.alloc 512256320 [il 0,.nils]),os 2 7 30,om 8 31] (aq [oo 9 (.alloc 512320000 [il 0,.nils,.nils,cZ])] (dZ i8_l3)))))⟩
def i27:aX:=⟨11,[(3,none)],(aq [dB 2 1728000000 0,mb 3 false] (aq [of 5 0 2,ox 6 2 5,oc 7 1728064128 28 [.t 6],om 4 7,oe 8 4 0,oe 9 4 1,os 1 1 9] (aP [ol 10 1,om 3 10])))⟩
def i26_l1:aK:=(aq [ot 49 .lss 48 47] (.seq (ct 49 .skip (.exit 2)) (.seq (.block 3 (aq [oi 50 7 46 48,ox 51 7 50,oo 16 (.alloc 1664640128 [il 0,il 0,il 0,il 0,cZ,cZ,il 0]),os 7 16 51] (aq [of 53 0 11,ox 54 2 53,ox 55 7 16,oc 56 1664704192 47 [.t 54,.t 55],om 52 56,oe 57 52 0,oe 58 52 1,oo 17 (.alloc 1664704448 [il 0,.nils]),os 2 17 57,om 18 58] (ef [ox 59 2 17,of 60 4 11,dl 61 60 2,dc 62 1664768192 52 [.t 61] 6,ox 63 7 16,od 64 (.fi 1664768320 55 7 [.t 63]) 16,uO 65 1664768384 55 7 48 62 64 62,dc 66 1664768448 48 [.t 59,.t 65] 127,oo 19 (.alloc 1664768512 [il 0,.nils,il 0,.nils,.nils]),iw 5 19 66 511] (aq [of 67 2 19,ox 68 2 67,oc 69 1664832128 49 [.t 68],om 20 69] (.seq (aq [om 70 9,om 71 20,oo 72 (.lookup 1 [cZ] false false (.t 70) (.t 71))] (ct 72 (.exit 3) .skip)) (.seq (aq [of 73 0 10,
 ol 74 73,oh 75 74,om 76 1,ot 77 .eql 75 76] (ct 77 (.exit 0) .skip)) (aq [om 78 9,om 79 20,op (.mupd 1 false (.t 78) (.t 79) (.b true))] (aq [ox 80 5 19,oc 81 1665088064 53 [.t 10,.t 80]] (aq [om 82 2,ox 83 5 19,oo 84 (.call 1665152128 (.t 82) [.t 83])] (ct 84 (.exit 0) .skip))))))))))) (rf [oj 85 .add 48 1,om 48 85]))))
def i26_l2:aK:=(.block 1 (aq [oc 32 1664256000 50 [.t 10],om 31 32,oe 33 31 0,oe 34 31 1,oo 11 (.alloc 1664256256 [il 0,.nils,il 0,.nils,.nils]),os 5 11 33,om 12 34] (.seq (aq [om 35 12,nH 36 35] (ct 36 (aP [of 37 0 10,ol 38 37,om 6 38,mb 7 true]) .skip)) (aq [of 40 0 11,ox 41 2 40,oo 42 (.fi 1664448128 53 1 [.i 3,.i 8]),oc 43 1664448192 51 [.t 41,.t 42],om 39 43,oe 44 39 0,oe 45 39 1,om 13 44,om 14 45] (aq [om 46 13,oh 47 46,mi 48 0] (.block 2 (.loop i26_l1)))))))
def i26_r3:aK:=(aP [of 86 0 10,ol 87 86,om 6 87,mb 7 false])
def i26:aX:=⟨88,[(6,none),(7,none)],(aq [dB 3 1664000000 0,eo 6,mb 7 false] (aq [ox 21 2 3,oc 22 1664064064 48 [.t 21,.k (.one (.p (.nils)))],oo 8 (.alloc 1664064128 [il 0,.nils,il 0,.nils,.nils]),os 5 8 22] (aq [oo 23 (.mkmap 1664128000 false),of 24 2 8,ox 25 2 24,oc 26 1664128192 49 [.t 25],op (.mupd 1 false (.t 23) (.t 26) (.b true)),om 27 23,om 9 27] (aq [ox 28 5 8,oo 29 (.fi 1664192064 77 5 [.t 28]),oo 30 (.build [.nils,il 0] [(0,1,.t 29)]),oo 10 (.alloc 1664192192 [.nils,il 0]),os 2 10 30] (.seq .skip (.seq (dZ i26_l2) i26_r3))))))⟩
def i59_l1:aK:=(aq [ot 10 .lss 9 8] (.seq (eO 10) (.seq (.block 1 (aq [oi 11 6 7 9,ox 12 6 11,oo 5 (.alloc 3776256128 [il 0,il 0,il 0,il 0,il 0,cZ]),os 6 5 12] (aq [of 13 0 5,ol 14 13,oj 15 .eql 14 2] (ct 15 (rf [om 16 3,oj 17 .add 16 1,om 3 17]) .skip)))) (rf [oj 18 .add 9 1,om 9 18]))))
def i59_r2:aK:=(aP [om 19 3,om 2 19])
def i59:aX:=⟨20,[(2,none)],(aq [dB 1 3776000000 0,mi 2 0] (aq [mi 3 0] (.seq (aq [of 6 1 1,ol 7 6,oh 8 7,mi 9 0] (dZ i59_l1)) i59_r2)))⟩
def i23:aX:=⟨17,[(4,none)],(aq [dB 2 1472000000 0,mi 4 0] (.seq (aq [ox 6 2 2,oc 7 1472064064 36 [.t 6],om 5 7] (aq [om 8 5,oj 9 .neq 8 0] (ct 9 (aP [om 10 5,om 4 10]) .skip))) (.seq (aq [om 11 1,oj 12 .lss 11 1,om 13 12,eh 14 1 13,ny 15 .gtr 14 20000 13,gJ 16 13 15] (ct 16 (aP [mi 4 2]) .skip)) (aP [mi 4 0]))))⟩
def i48:aX:=⟨16,[(4,some (some 5))],(aq [dB 2 3072000000 0,oo 4 (.alloc 3072000064 [il 0,.nils,il 0,.nils,.nils])] (aq [ox 8 2 2,oc 9 3072064064 24 [.t 8],om 7 9,oe 10 7 0,oe 11 7 1,oo 5 (.alloc 3072064320 [il 0,.nils]),os 2 5 10,om 6 11] (aP [ox 12 2 2,ox 13 2 5,om 14 1,oo 15 (.build [il 0,.nils,il 0,.nils,.nils] [(0,2,.t 12),(2,2,.t 13),(4,1,.t 14)]),os 5 4 15])))⟩
def i60:aX:=⟨4,[(2,none)],(aq [mi 2 0] (.seq (aq [om 3 0] (ct 3 (aP [mi 2 1]) .skip)) (aP [mi 2 0])))⟩
def i58_l1:aK:=(aq [ot 8 .lss 7 6] (.seq (eO 8) (.seq (.block 1 (aq [oi 9 2 5 7,ox 10 2 9,oo 4 (.alloc 3712192128 [il 0,il 0]),os 2 4 10] (aq [oo 11 (.ud 2 1 (.t 4) (.i 0)),ol 12 11,oo 13 (.ud 2 1 (.t 4) (.i 1)),ol 14 13,ot 15 .neq 12 14] (ct 15 (.seq (aq [oo 16 (.ud 2 1 (.t 4) (.i 0)),ol 17 16,oo 18 (.ud 2 1 (.t 4) (.i 1)),ol 19 18,ot 20 .lss 17 19] (ct 20 (aP [oo 2 (.jU (.i (-1)))]) .skip)) (aP [mi 2 1])) .skip)))) (rf [oj 21 .add 7 1,om 7 21]))))
def i58_r2:aK:=(aP [mi 2 0])
def i58:aX:=⟨22,[(2,none)],(aq [mi 2 0] (.seq (aq [om 5 0,oh 6 5,mi 7 0] (dZ i58_l1)) i58_r2))⟩
def i25_l1:aK:=(.seq (aq [om 12 6] (eO 12)) (.seq (.block 1 (aq [ox 19 2 1,ox 20 7 5,oc 21 1600320128 47 [.t 19,.t 20],om 18 21,oe 22 18 0,oe 23 18 1,os 2 1 22] (rf [om 24 4,ox 25 7 5,oo 26 (.fi 1600384128 55 7 [.t 25]),mR 27 1600384192 55 7 48 24 26,om 4 27]))) (.seq (aq [ox 28 7 5] (rf [oo 5 (.alloc 1600512000 [il 0,il 0,il 0,il 0,cZ,cZ,il 0]),os 7 5 28])) (rf [ox 14 2 1,oc 15 1600256064 28 [.t 14],om 13 15,oe 16 13 0,oe 17 13 1,os 7 5 16,om 6 17]))))
def i25_r2:aK:=(aP [ox 29 2 1,om 30 4,os 2 2 29,om 3 30])
def i25:aX:=⟨31,[(2,some (some 2)),(3,none)],(aq [dB 1 1600000000 0,oo 2 (.alloc 1600000064 [il 0,.nils]),eo 3] (aq [eo 4] (.seq (aq [ox 8 2 1,oc 9 1600128064 28 [.t 8],om 7 9,oe 10 7 0,oe 11 7 1,oo 5 (.alloc 1600128320 [il 0,il 0,il 0,il 0,cZ,cZ,il 0]),os 7 5 10,om 6 11] (dZ i25_l1)) i25_r2)))⟩
def i28:aX:=⟨19,[(2,some (some 7)),(3,none)],(aq [dB 1 1792000000 0,oo 2 (.alloc 1792000064 [il 0,il 0,il 0,il 0,cZ,cZ,il 0]),mb 3 false] (aq [ox 7 2 1,oo 8 (.fi 1792064064 53 1 [.i 1,.i 4,.i 6]),oc 9 1792064128 51 [.t 7,.t 8],om 6 9,oe 10 6 0,oe 11 6 1,om 4 10,om 5 11] (.seq (aq [om 12 4,oh 13 12,oj 14 .eql 13 0] (ct 14 (aP [oo 15 (.build [il 0,il 0,il 0,il 0,cZ,cZ,il 0] []),os 7 2 15,mb 3 false]) .skip)) (aP [om 16 4,oo 17 (.ql 7 (.t 16) (.i 0)),ox 18 7 17,os 7 2 18,mb 3 true]))))⟩
def i4:aX:=⟨15,[(4,none)],(aq [dB 2 256000000 0,mb 4 false] (aP [of 5 1 2,ol 6 5,oh 7 6,om 8 1,ot 9 .leq 7 8,om 10 9,hx_ 11 2 2 10,Ci 12 256064448 10 [.t 11] 10,ux 13 .eql 12 0 10,jH 14 10 13,om 4 14]))⟩
def i9:aX:=⟨24,[(4,none)],(aq [dB 2 576000000 0,dB 3 576000064 1,mb 4 false] (aP [of 5 0 2,ox 6 2 5,of 7 0 3,ox 8 2 7,oc 9 576064256 29 [.t 6,.t 8],om 10 9,eL 11 2 2 10,fA 12 11 10,eL 13 2 3 10,fA 14 13 10,Ci 15 576064640 30 [.t 12,.t 14] 10,jH 16 10 15,om 17 16,eL 18 3 2 17,fA 19 18 17,eL 20 3 3 17,fA 21 20 17,Ew 22 (.eqc .bool false (.t 19) (.t 21)) 17,jH 23 17 22,om 4 23]))⟩
def i52:aX:=⟨8,[(2,none)],(aq [eo 2] (.seq (aq [om 3 0,oo 4 (.eqc .slc false (.t 3) (.k (.one (.p (.nils)))))] (ct 4 (aP [eo 2]) .skip)) (aP [oo 5 (.fi 3328192000 55 7 []),om 6 0,mR 7 3328192128 55 7 48 5 6,om 2 7])))⟩
theorem c53:S.fns 53=some i53:=ah
theorem s53 : S.shared 53 = true :=ah
theorem c50:S.fns 50=some i50:=ah
theorem s50 : S.shared 50 = true :=ah
theorem c7:S.fns 7=some i7:=ah
theorem s7:cG 7:=rfl
theorem c49:S.fns 49=some i49:=ah
theorem s49:cG 49:=rfl
theorem c6:S.fns 6=some i6:=ah
theorem s6:cG 6:=rfl
theorem c21:S.fns 21=some i21:=ah
theorem s21:cG 21:=rfl
theorem c77:S.fns 77=some i77:=ah
theorem s77:cG 77:=rfl
theorem c38:S.fns 38=some i38:=ah
theorem s38:cG 38:=rfl
theorem c17:S.fns 17=some i17:=ah
theorem s17:cG 17:=rfl
theorem c8:S.fns 8=some i8:=ah
theorem s8:cG 8:=rfl
theorem c27:S.fns 27=some i27:=ah
theorem s27 : S.shared 27 = true :=ah
theorem c26:S.fns 26=some i26:=ah
theorem s26 : S.shared 26 = true :=ah
theorem c59:S.fns 59=some i59:=ah
theorem s59:cG 59:=rfl
theorem c23:S.fns 23=some i23:=ah
theorem s23:cG 23:=rfl
theorem c48:S.fns 48=some i48:=ah
theorem s48:cG 48:=rfl
theorem c60:S.fns 60=some i60:=ah
theorem s60:cG 60:=rfl
theorem c58:S.fns 58=some i58:=ah
theorem s58:cG 58:=rfl
theorem c25:S.fns 25=some i25:=ah
theorem s25:cG 25:=rfl
theorem c28:S.fns 28=some i28:=ah
theorem s28:cG 28:=rfl
theorem s5:cG 5:=rfl
theorem c4:S.fns 4=some i4:=ah
theorem s4:cG 4:=rfl
theorem c9:S.fns 9=some i9:=ah
theorem s9:cG 9:=rfl
theorem c52:S.fns 52=some i52:=ah
theorem s52:cG 52:=rfl
end Go.Abs
