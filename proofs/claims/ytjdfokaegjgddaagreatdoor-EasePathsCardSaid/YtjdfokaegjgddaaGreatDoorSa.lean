/-
  The program as a system of the abstract machine.
-/
import Derived.Test.YtjdfokaegjgddaaGreatDoorMf
import Derived.KernelRfl
import Derived.Test.YtjdfokaegjgddaaGreatDoorProg
set_option linter.all false
set_option maxRecDepth 100000
namespace Go.Abs
abbrev om(d a:Nat):aj:=⟨some d,.mov (.t a),none,0⟩
abbrev of(d f a:Nat):aj:=⟨some d,.ZH f (.t a),none,0⟩
abbrev ol(d a:Nat):aj:=⟨some d,.load none (.t a),none,0⟩
abbrev ox(d s a:Nat):aj:=⟨some d,.load (some s) (.t a),none,0⟩
abbrev oo(d:Nat)(x:vP):aj:=⟨some d,x,none,0⟩
abbrev op(x:vP):aj:=⟨none,x,none,0⟩
abbrev ob(d:Nat)(b:BinOp)(x y:aC):aj:=⟨some d,.bin b x y,none,0⟩
abbrev oi(d z a b:Nat):aj:=⟨some d,.Zc z (.t a) (.t b),none,0⟩
abbrev oc(d s f:Nat)(a:List aC):aj:=⟨some d,.call s (.k (.one (.p (.fn f [] [])))) a,none,0⟩
abbrev dm(d a n:Nat):aj:=⟨some d,.mov (.t a),none,n⟩
abbrev df(d f a n:Nat):aj:=⟨some d,.ZH f (.t a),none,n⟩
abbrev dl(d a n:Nat):aj:=⟨some d,.load none (.t a),none,n⟩
abbrev dx(d s a n:Nat):aj:=⟨some d,.load (some s) (.t a),none,n⟩
abbrev di(d z a b n:Nat):aj:=⟨some d,.Zc z (.t a) (.t b),none,n⟩
abbrev db(d:Nat)(b:BinOp)(x y:aC)(n:Nat):aj:=⟨some d,.bin b x y,none,n⟩
abbrev dc(d s f:Nat)(a:List aC)(n:Nat):aj:=⟨some d,.call s (.k (.one (.p (.fn f [] [])))) a,none,n⟩
abbrev os(z a b:Nat):aj:=⟨none,.store z (.t a) (.t b),none,0⟩
abbrev on(d a:Nat):aj:=⟨some d,.Zf (.t a),none,0⟩
abbrev mb(d:Nat)(b:Bool):aj:=⟨some d,.mov (.b b),none,0⟩
abbrev mi(d:Nat)(k:Int):aj:=⟨some d,.mov (.i k),none,0⟩
abbrev ot(d:Nat)(b:BinOp)(x y:Nat):aj:=⟨some d,.bin b (.t x) (.t y),none,0⟩
abbrev oj(d:Nat)(b:BinOp)(x:Nat)(y:Int):aj:=⟨some d,.bin b (.t x) (.i y),none,0⟩
abbrev dt(d:Nat)(b:BinOp)(x y n:Nat):aj:=⟨some d,.bin b (.t x) (.t y),none,n⟩
abbrev dj(d:Nat)(b:BinOp)(x:Nat)(y:Int)(n:Nat):aj:=⟨some d,.bin b (.t x) (.i y),none,n⟩
abbrev oh(d a:Nat):aj:=⟨some d,.abg (.t a),none,0⟩
abbrev oe(d a k:Nat):aj:=⟨some d,.extract (.t a) k,none,0⟩
abbrev ct(a:Nat)(x y:aq):aq:=.cond (.t a) x y
abbrev rf(l:List aj):aq:=.region false l
abbrev rt(l:List aj):aq:=.region true l
abbrev il(k:Int):PV:=.int .i64 k
abbrev od(d:Nat)(x:vP)(n:Nat):aj:=⟨some d,x,none,n⟩
abbrev ak(l:List aj)(c:aq):aq:=.seq (.region false l) c
abbrev jt(l:List aj)(c:aq):aq:=.seq (.region true l) c
abbrev ch(l:List aj):aq:=.seq (.region false l) .ret
abbrev kM(c:aq):aq:=.block 0 (.loop c)
abbrev ll(a:Nat):aq:=.cond (.t a) .skip (.exit 0)
abbrev kI(d:Nat):aj:=⟨some d,.mov (.k (.one (.p .nils))),none,0⟩
abbrev Ww(d:Nat):aj:=⟨some d,.mov (.k (.one (.p .ZX))),none,0⟩
abbrev iz:PV:=.bool false
abbrev gx_(d:Nat)(a b:Nat)(y:Nat):aj:=⟨some d,.load (some a) (.t b),some (y,false),0⟩
abbrev UB(d:Nat)(a b:Nat)(l:List aC)(y:Nat):aj:=⟨some d,.call a (.k (.one (.p (.fn b [] [])))) l,some (y,false),0⟩
abbrev wX(d:Nat)(a:BinOp)(b:Nat)(c:Int)(y:Nat):aj:=⟨some d,.bin a (.t b) (.i c),some (y,false),0⟩
abbrev mY(d:Nat)(a b:Nat)(y:Nat):aj:=⟨some d,.ZH a (.t b),some (y,false),0⟩
abbrev rO(d:Nat)(a:Nat)(y:Nat):aj:=⟨some d,.load none (.t a),some (y,false),0⟩
abbrev mW(d:Nat)(a b:Nat)(y:Nat)(n:Nat):aj:=⟨some d,.ZH a (.t b),some (y,false),n⟩
abbrev nY(d:Nat)(a:Nat)(y:Nat)(n:Nat):aj:=⟨some d,.load none (.t a),some (y,false),n⟩
abbrev Wu(d:Nat)(a:Nat)(y:Nat)(n:Nat):aj:=⟨some d,.Zf (.t a),some (y,false),n⟩
abbrev Nd(d:Nat)(a:BinOp)(b:Nat)(c:Nat)(y:Nat)(n:Nat):aj:=⟨some d,.bin a (.t b) (.t c),some (y,false),n⟩
abbrev Ek(d:Nat)(a:BinOp)(b:Nat)(c:Int)(y:Nat)(n:Nat):aj:=⟨some d,.bin a (.t b) (.i c),some (y,false),n⟩
abbrev jl(d:Nat)(a:Nat)(y:Nat):aj:=⟨some d,.mov (.t a),some (y,false),0⟩
abbrev iQ(d:Nat)(a b:Nat)(y:Nat):aj:=⟨some d,.ZH a (.t b),some (y,true),0⟩
abbrev jO(d:Nat)(a:Nat)(y:Nat):aj:=⟨some d,.load none (.t a),some (y,true),0⟩
abbrev Mi(d:Nat)(o:vP)(y:Nat):aj:=⟨some d,o,some (y,true),0⟩
abbrev Iq(d:Nat)(a b:Nat)(y:Nat):aj:=⟨some d,.pick (.t a) (.t b) (.b false),some (y,false),0⟩
abbrev kY(d:Nat)(a:Nat)(y:Nat):aj:=⟨some d,.mov (.t a),some (y,true),0⟩
abbrev Uz(d:Nat)(a:Nat)(y:Nat):aj:=⟨some d,.Zf (.t a),some (y,true),0⟩
abbrev SO(d:Nat)(a b:Nat)(y:Nat):aj:=⟨some d,.load (some a) (.t b),some (y,true),0⟩
abbrev Mj(d:Nat)(a b:Nat)(l:List aC)(y:Nat):aj:=⟨some d,.call a (.k (.one (.p (.fn b [] [])))) l,some (y,true),0⟩
abbrev Dy(d:Nat)(a:BinOp)(b:Nat)(c:Int)(y:Nat):aj:=⟨some d,.bin a (.t b) (.i c),some (y,true),0⟩
abbrev qZ(a b c:Nat)(n:Nat):aj:=⟨none,.store a (.t b) (.t c),none,n⟩
abbrev w8(d:Nat)(a:Nat)(y:Nat)(n:Nat):aj:=⟨some d,.mov (.t a),some (y,false),n⟩
abbrev WD(d:Nat)(a b c:Nat)(y:Nat)(n:Nat):aj:=⟨some d,.Zc a (.t b) (.t c),some (y,false),n⟩
abbrev Kd(d:Nat)(a:BinOp)(b:Nat)(c:Nat)(y:Nat):aj:=⟨some d,.bin a (.t b) (.t c),some (y,false),0⟩
abbrev w7(d:Nat)(a:Nat)(y:Nat)(n:Nat):aj:=⟨some d,.mov (.t a),some (y,true),n⟩
abbrev Wt(d:Nat)(a:Nat)(y:Nat)(n:Nat):aj:=⟨some d,.Zf (.t a),some (y,true),n⟩
abbrev r6(d:Nat)(a b:Nat)(y:Nat)(n:Nat):aj:=⟨some d,.ZH a (.t b),some (y,true),n⟩
abbrev pP(d:Nat)(a:Nat)(y:Nat)(n:Nat):aj:=⟨some d,.load none (.t a),some (y,true),n⟩
abbrev Hz_(d:Nat)(o:vP)(y:Nat)(n:Nat):aj:=⟨some d,o,some (y,true),n⟩
abbrev Je(d:Nat)(a b c:Nat)(y:Nat)(n:Nat):aj:=⟨some d,.Zc a (.t b) (.t c),some (y,true),n⟩
abbrev UU(d:Nat)(a:BinOp)(b:Nat)(c:Nat)(y:Nat)(n:Nat):aj:=⟨some d,.bin a (.t b) (.t c),some (y,true),n⟩
abbrev Gq_(d:Nat)(a b:Nat)(y:Nat)(n:Nat):aj:=⟨some d,.pick (.t a) (.t b) (.b false),some (y,false),n⟩
abbrev WC(d:Nat)(a b:Nat)(y:Nat)(n:Nat):aj:=⟨some d,.load (some a) (.t b),some (y,false),n⟩
abbrev UW(d:Nat)(a b:Nat)(l:List aC)(y:Nat)(n:Nat):aj:=⟨some d,.call a (.k (.one (.p (.fn b [] [])))) l,some (y,false),n⟩
abbrev Gu_(d:Nat)(a:Nat)(y:Nat)(n:Nat):aj:=⟨some d,.un .not (.t a),some (y,false),n⟩
abbrev Gh_(d:Nat)(a:Nat)(y:Nat)(n:Nat):aj:=⟨some d,.abg (.t a),some (y,false),n⟩
abbrev Pm(d:Nat)(a b c:Nat)(y:Nat):aj:=⟨some d,.Zc a (.t b) (.t c),some (y,true),0⟩
abbrev M9(d:Nat)(a:BinOp)(b:Nat)(c:Nat)(y:Nat):aj:=⟨some d,.bin a (.t b) (.t c),some (y,true),0⟩
abbrev UV(d:Nat)(a:BinOp)(b:Nat)(c:Int)(y:Nat)(n:Nat):aj:=⟨some d,.bin a (.t b) (.i c),some (y,true),n⟩
abbrev Hx_(d:Nat)(a b:Nat)(y:Nat)(n:Nat):aj:=⟨some d,.load (some a) (.t b),some (y,true),n⟩
abbrev Hc_(d:Nat)(a b:Nat)(l:List aC)(y:Nat)(n:Nat):aj:=⟨some d,.call a (.k (.one (.p (.fn b [] [])))) l,some (y,true),n⟩
abbrev XA(d:Nat)(a:Nat)(y:Nat):aj:=⟨some d,.Zf (.t a),some (y,false),0⟩
abbrev Wz(d:Nat)(a:Nat)(y:Nat):aj:=⟨some d,.un .not (.t a),some (y,false),0⟩
abbrev Xy(d:Nat)(a:Nat)(y:Nat):aj:=⟨some d,.un .not (.t a),some (y,true),0⟩
abbrev gz_(d:Nat)(o:vP)(y:Nat):aj:=⟨some d,o,some (y,false),0⟩
abbrev hp_(d:Nat)(a b:Nat)(y:Nat):aj:=⟨some d,.pick (.t a) (.b true) (.t b),some (y,true),0⟩
abbrev Gz_(d:Nat)(o:vP)(y:Nat)(n:Nat):aj:=⟨some d,o,some (y,false),n⟩
abbrev gi_(d:Nat)(a b c:Nat)(y:Nat):aj:=⟨some d,.Zc a (.t b) (.t c),some (y,false),0⟩
abbrev gp_(d:Nat)(a b:Nat)(y:Nat):aj:=⟨some d,.pick (.t a) (.b true) (.t b),some (y,false),0⟩
abbrev gh_(d:Nat)(a:Nat)(y:Nat):aj:=⟨some d,.abg (.t a),some (y,false),0⟩
abbrev Hu_(d:Nat)(a:Nat)(y:Nat)(n:Nat):aj:=⟨some d,.un .not (.t a),some (y,true),n⟩
abbrev hh_(d:Nat)(a:Nat)(y:Nat):aj:=⟨some d,.abg (.t a),some (y,true),0⟩
abbrev iZ(d:Nat)(a b:Nat):aj:=⟨some d,.box a (.t b),none,0⟩
abbrev mz(d:Nat)(a b:Nat):aj:=⟨some d,.pick (.t a) (.b true) (.t b),none,0⟩
abbrev Az(d:Nat)(a:Nat):aj:=⟨some d,.un .not (.t a),none,0⟩
abbrev tH(d:Nat)(a b:Nat)(n:Nat):aj:=⟨some d,.pick (.t a) (.b true) (.t b),none,n⟩
abbrev ny(d:Nat)(a b:Nat):aj:=⟨some d,.pick (.t a) (.t b) (.b false),none,0⟩
abbrev lm(d:Nat)(a:Nat)(n:Nat):aj:=⟨some d,.Zf (.t a),none,n⟩
abbrev Ke_(d:Nat)(a b:Nat)(n:Nat):aj:=⟨some d,.extract (.t a) b,none,n⟩
abbrev Nc(d:Nat)(a:Nat)(n:Nat):aj:=⟨some d,.abg (.t a),none,n⟩
abbrev M4(d:Nat)(a b:Nat)(n:Nat):aj:=⟨some d,.pick (.t a) (.t b) (.b false),none,n⟩
abbrev US(d:Nat)(a b c e g h:Nat)(n:Nat):aj:=⟨some d,.append a b c e (.t g) (.t h),none,n⟩
abbrev Ws(d:Nat)(a:Nat)(n:Nat):aj:=⟨some d,.un .not (.t a),none,n⟩
abbrev Me(d:Nat)(a b c e g h:Nat):aj:=⟨some d,.append a b c e (.t g) (.t h),none,0⟩
abbrev Kb_(d:Nat)(a b:Nat)(n:Nat):aj:=⟨some d,.box a (.t b),none,n⟩
def i21:dD:=⟨11,[(2,none)],(ak [iZ 1 1344000000 0,mi 2 0] (ak [ox 6 2 1,oc 7 1344064064 19 [.t 6],om 5 7,oe 8 5 0,oe 9 5 1,om 3 8,om 4 9] (ch [om 10 4,om 2 10])))⟩
def i19:dD:=⟨29,[(2,none),(3,none)],(ak [iZ 1 1216000000 0,Ww 2,mi 3 0] (.seq (ak [of 5 1 1,ol 6 5,oh 7 6,oj 8 .gtr 7 400,om 9 8,gx_ 10 2 1 9,UB 11 1216064384 40 [.t 10] 9,wX 12 .gtr 11 200 9,mz 13 9 12] (ct 13 (ch [Ww 2,mi 3 7]) .skip)) (.seq (ak [of 14 0 1,ol 15 14,oj 16 .lss 15 0,om 17 16,mY 18 0 1 17,rO 19 18 17,wX 20 .gtr 19 40 17,mz 21 17 20] (ct 21 (ch [Ww 2,mi 3 2]) .skip)) (ak [ox 22 2 1,
 oo 23 (.build [il 0,.nils,.nils,.nils,.nils,.Zt,.nils] [(0,2,.t 22)]),iZ 24 1216320128 23,om 4 24] (.seq (ak [om 25 4,oc 26 1216384064 41 [.t 25],Az 27 26] (ct 27 (ch [Ww 2,mi 3 3]) .skip)) (ch [om 28 4,om 2 28,mi 3 0]))))))⟩
def i40_l1:aq:=(ak [ot 10 .lss 9 8] (.seq (ll 10) (.seq (.block 1 (ak [oi 11 6 7 9,ox 12 6 11,oo 5 (.alloc 2560256128 [il 0,il 0,il 0,il 0,il 0,iz]),os 6 5 12] (ak [of 13 0 5,ol 14 13,oj 15 .eql 14 2] (ct 15 (rf [om 16 3,oj 17 .add 16 1,om 3 17]) .skip)))) (rf [oj 18 .add 9 1,om 9 18]))))
def i40_r2:aq:=(ch [om 19 3,om 2 19])
def i40:dD:=⟨20,[(2,none)],(ak [iZ 1 2560000000 0,mi 2 0] (ak [mi 3 0] (.seq (ak [of 6 1 1,ol 7 6,oh 8 7,mi 9 0] (kM i40_l1)) i40_r2)))⟩
def i73_l1:aq:=(ak [ot 10 .lss 9 8] (.seq (ll 10) (.seq (.block 1 (ak [oi 11 6 7 9,ox 12 6 11,oo 5 (.alloc 4672256128 [il 0,il 0,il 0,il 0,il 0,iz]),os 6 5 12] (ak [of 13 0 5,ol 14 13,oj 15 .eql 14 1] (ct 15 (rf [om 16 3,oj 17 .add 16 1,om 3 17]) .skip)))) (rf [oj 18 .add 9 1,om 9 18]))))
def i73_r2:aq:=(ch [om 19 3,om 2 19])
def i73:dD:=⟨20,[(2,none)],(ak [iZ 1 4672000000 0,mi 2 0] (ak [mi 3 0] (.seq (ak [of 6 1 1,ol 7 6,oh 8 7,mi 9 0] (kM i73_l1)) i73_r2)))⟩
def i74:dD:=⟨6,[(2,none)],(ak [iZ 1 4736000000 0,mi 2 0] (ch [ox 3 2 1,oc 4 4736064064 40 [.t 3],oj 5 .quo 4 2,om 2 5]))⟩
def i65:dD:=⟨11,[(2,none)],(ak [iZ 1 4160000000 0,mb 2 false] (ch [ol 3 1,on 4 3,of 5 0 4,of 6 1 5,ol 7 6,oo 8 (.mkfn 89 [] [.t 1]),oc 9 4160064384 88 [.t 7,.t 8],Az 10 9,om 2 10]))⟩
def i89:dD:=⟨55,[(3,none)],(ak [iZ 2 5696000000 0,mb 3 false] (.seq (ak [of 4 0 2,ol 5 4] (.block 0 (ak [oj 7 .eql 5 1,om 6 7] (ct 6 (jt [of 8 1 2,dl 9 8 1,dj 10 .lss 9 0 3,dm 11 10 7,mW 12 1 2 11 15,nY 13 12 11 31,nY 14 1 11 15,Wu 15 14 11 79,mW 16 0 15 11 207,mW 17 0 16 11 463,nY 18 17 11 975,Nd 19 .gtr 13 18 11 2047,tH 20 11 19 4095,dm 21 20 8191,mW 22 3 2 21 16383,nY 23 22 21 32767,Ek 24 .neq 23 0 21 65535,
 tH 25 21 24 131071,dm 26 25 262143,mW 27 4 2 26 524287,nY 28 27 26 1048575,Ek 29 .neq 28 0 26 2097151,tH 30 26 29 4194303,dm 31 30 8388607,mW 32 5 2 31 16777215,nY 33 32 31 33554431,tH 34 31 33 67108863,dm 3 34 134217727] .ret) (ak [oj 36 .eql 5 2,om 35 36] (ct 35 (ch [of 37 1 2,ol 38 37,oj 39 .neq 38 0,om 40 39,mY 41 2 2 40,rO 42 41 40,wX 43 .neq 42 0 40,mz 44 40 43,om 45 44,mY 46 4 2 45,rO 47 46 45,
 wX 48 .neq 47 1 45,jl 49 48 45,iQ 50 4 2 49,jO 51 50 49,Mi 52 (.bin .neq (.t 51) (.i (-1))) 49,Iq 53 49 52 45,mz 54 45 53,om 3 54]) .skip)))))) (ch [mb 3 true])))⟩
def i66:dD:=⟨21,[(2,none)],(ak [mb 2 false] (ch [om 3 0,on 4 3,of 5 0 4,of 6 1 5,ol 7 6,oo 8 (.Zc 6 (.t 7) (.i 0)),of 9 0 8,ol 10 9,oj 11 .eql 10 1,om 12 11,kY 13 0 12,Uz 14 13 12,iQ 15 0 14 12,SO 16 2 15 12,Mj 17 4224064896 73 [.t 16] 12,Dy 18 .rem 17 2 12,Dy 19 .eql 18 0 12,ny 20 12 19,om 2 20]))⟩
def i67_l1:aq:=(ak [ot 51 .lss 50 49] (.seq (ll 51) (.seq (.block 1 (ak [om 52 50,oi 53 6 48 50,ox 54 6 53,oo 5 (.alloc 4288448192 [il 0,il 0,il 0,il 0,il 0,iz]),om 4 52,os 6 5 54] (ak [of 55 0 5,ol 56 55,oj 57 .eql 56 1] (ct 57 (jt [om 58 0,lm 59 58 1,df 60 6 59 3,dl 61 60 7,of 62 1 5,dl 63 62 16,di 64 1 61 63 63,dl 65 64 127,dj 66 .add 65 1 255,di 67 1 61 63 511,qZ 1 67 66 1023] (ak [om 68 0,on 69 68,of 70 2 69,ol 71 70,om 72 4,om 73 3,oi 74 1 71 72,os 1 74 73] (rf [om 75 3,Az 76 75,om 3 76]))) .skip)))) (rf [oj 77 .add 50 1,om 50 77]))))
def i67_l2:aq:=(ak [ot 91 .lss 90 89] (.seq (ct 91 .skip (.exit 2)) (.seq (.block 3 (ak [om 92 90,oi 93 1 88 90,ol 94 93,om 8 92,om 9 94] (ak [om 95 6,om 96 8,om 97 7,oi 98 1 95 96,os 1 98 97] (rf [om 99 7,om 100 9,ot 101 .add 99 100,om 7 101])))) (rf [oj 102 .add 90 1,om 90 102]))))
def i67_l3:aq:=(ak [ot 117 .lss 116 115] (.seq (ct 117 .skip (.exit 4)) (.seq (.block 5 (ak [om 118 116,oi 119 6 114 116,ox 120 6 119,oo 12 (.alloc 4289600192 [il 0,il 0,il 0,il 0,il 0,iz]),om 11 118,os 6 12 120] (.seq (ak [of 121 0 12,ol 122 121,oj 123 .neq 122 1] (ct 123 (.exit 5) .skip)) (.seq (jt [of 124 2 12,dl 125 124 1,dj 126 .lss 125 1 3,dm 127 126 7,mW 128 2 12 127 15,nY 129 128 127 31,w8 130 0 127 15,Wu 131 130 127 79,mW 132 6 131 127 207,nY 133 132 127 463,mW 134 1 12 127 15,nY 135 134 127 1039,WD 136 1 133 135 127 4047,
 nY 137 136 127 8143,Nd 138 .gtr 129 137 127 16383,tH 139 127 138 32767] (ct 139 (ch [mb 2 false]) .skip)) (jt [om 140 6,of 141 1 12,dl 142 141 2,di 143 1 140 142 7,dl 144 143 15,of 145 2 12,dl 146 145 32,dt 147 .add 144 146 127,dj 148 .sub 147 1 255,dm 13 148 511] (.seq (ak [om 149 10,om 150 13,oi 151 1 149 150,ol 152 151] (ct 152 (ch [mb 2 false]) .skip)) (rt [om 153 10,om 154 13,om 155 0,lm 156 155 4,df 157 3 156 12,dl 158 157 28,om 159 13,om 160 0,lm 161 160 128,df 162 4 161 384,dl 163 162 896,om 164 11,om 165 11,om 166 13,di 167 1 153 154 1983,⟨none,.store 1 (.t 167) (.b true),none,18367⟩,di 168 1 158 159 55295,qZ 1 168 165 120831,di 169 1 163 164 262143,
 qZ 1 169 166 524287]))))))) (rf [oj 170 .add 116 1,om 116 170]))))
def i67_r4:aq:=(ch [mb 2 true])
def i67_r5:aq:=(ak [om 103 0,om 104 7,oo 105 (.Yx 4289344128 3 1 8 [il 0] (.t 104) (.t 104)),on 106 103,of 107 3 106,os 1 107 105] (ak [om 108 7,oo 109 (.Yx 4289408064 4 1 1 [iz] (.t 108) (.t 108)),om 10 109] (.seq (ak [om 110 0,on 111 110,of 112 0 111,of 113 1 112,ol 114 113,oh 115 114,mi 116 0] (.block 4 (.loop i67_l3))) i67_r4)))
def i67_r6:aq:=(ak [om 78 0,on 79 78,of 80 0 79,of 81 0 80,ol 82 81,oj 83 .add 82 1,oo 84 (.Yx 4288832384 3 1 8 [il 0] (.t 83) (.t 83)),om 6 84] (ak [mi 7 0] (.seq (ak [om 85 0,on 86 85,of 87 6 86,ol 88 87,oh 89 88,mi 90 0] (.block 2 (.loop i67_l2))) i67_r5)))
def i67:dD:=⟨171,[(2,none)],(ak [mb 2 false] (ak [om 14 0,om 15 0,on 16 15,of 17 0 16,of 18 0 17,ol 19 18,oj 20 .add 19 1,oo 21 (.Yx 4288064448 3 1 8 [il 0] (.t 20) (.t 20)),on 22 14,of 23 6 22,os 1 23 21] (ak [om 24 0,om 25 0,on 26 25,of 27 0 26,of 28 1 27,ol 29 28,oh 30 29,oo 31 (.Yx 4288128448 4 1 1 [iz] (.t 30) (.t 30)),on 32 24,of 33 2 32,os 1 33 31] (ak [om 34 0,om 35 0,on 36 35,of 37 0 36,of 38 1 37,ol 39 38,oh 40 39,oo 41 (.Yx 4288192448 3 1 8 [il 0] (.t 40) (.t 40)),on 42 34,of 43 4 42,os 1 43 41] (ak [mb 3 true] (.seq (ak [om 44 0,on 45 44,of 46 0 45,of 47 1 46,ol 48 47,oh 49 48,mi 50 0] (kM i67_l1)) i67_r6))))))⟩
def i68_l1:aq:=(ak [ot 28 .lss 27 26] (.seq (ll 28) (.seq (.block 1 (ak [om 29 27,oi 30 6 25 27,ox 31 6 30,oo 5 (.alloc 4352448192 [il 0,il 0,il 0,il 0,il 0,iz]),om 4 29,os 6 5 31] (.seq (ak [of 32 0 5,ol 33 32,oj 34 .neq 33 2] (ct 34 (.exit 1) .skip)) (.seq (ak [of 35 3 5,ol 36 35,oj 37 .lss 36 1,om 38 37,mY 39 3 5 38,rO 40 39 38,jl 41 3 38,wX 42 .quo 41 2 38,Kd 43 .gtr 40 42 38,mz 44 38 43] (ct 44 (ch [mb 2 false]) .skip)) (jt [om 46 0,lm 47 46 1,df 48 5 47 3,dl 49 48 7,of 50 3 5,dl 51 50 16,od 52 (.lookup 0 [il 0,il 0] true true (.t 49) (.t 51)) 63,
 dm 45 52 127,Ke_ 53 45 0 255,Ke_ 54 45 1 255,oo 6 (.alloc 4352704640 [il 0,il 0]),qZ 2 6 53 1535,dm 7 54 4095] (.seq (ak [om 55 7,Az 56 55] (ct 56 (rf [oo 57 (.build [il 0,il 0] [(0,1,.i (-1)),(1,1,.i (-1))]),os 2 6 57]) .skip)) (ak [mi 8 0] (.seq (ak [of 58 5 5,ol 59 58] (ct 59 (rf [mi 8 1]) .skip)) (.seq (jt [om 60 8,od 61 (.ZT 2 1 (.t 6) (.t 60)) 1,dl 62 61 3,dj 63 .geq 62 0 7,dm 64 63 15,w8 65 7 64 31,w8 66 65 64 63,w7 67 0 66 127,Wt 68 67 66 255,r6 69 0 68 66 511,r6 70 1 69 66 1023,pP 71 70 66 2047,w7 72 8 66 127,
 Hz_ 73 (.bin .sub (.i 1) (.t 72)) 66 4223,Hz_ 74 (.ZT 2 1 (.t 6) (.t 73)) 66 12415,pP 75 74 66 28799,Je 76 6 71 75 66 65535,r6 77 4 76 66 131071,pP 78 77 66 262143,r6 79 4 5 66 127,pP 80 79 66 524415,UU 81 .neq 78 80 66 2097151,Gq_ 82 66 81 64 4194303,tH 83 64 82 8388607] (ct 83 (ch [mb 2 false]) .skip)) (ak [om 84 8,om 85 4,oo 86 (.ZT 2 1 (.t 6) (.t 84)),os 1 86 85] (rt [om 87 0,lm 88 87 1,df 89 5 88 3,dl 90 89 7,of 91 3 5,dl 92 91 16,ox 93 2 6,⟨none,.mupd 0 true (.t 90) (.t 92) (.t 93),none,127⟩]))))))))))) (rf [oj 94 .add 27 1,
 om 27 94]))))
def i68_r2:aq:=(ch [om 95 0,on 96 95,of 97 5 96,ol 98 97,oo 99 (.mlen (.t 98)),om 100 3,oj 101 .quo 100 2,ot 102 .eql 99 101,om 2 102])
def i68:dD:=⟨103,[(2,none)],(ak [mb 2 false] (ak [om 9 0,on 10 9,of 11 0 10,ox 12 2 11,oc 13 4352064256 40 [.t 12],om 3 13] (.seq (ak [om 14 3,oj 15 .rem 14 2,oj 16 .neq 15 0] (ct 16 (ch [mb 2 false]) .skip)) (ak [om 17 0,oo 18 (.mkmap 4352256064 true),on 19 17,of 20 5 19,os 1 20 18] (.seq (ak [om 21 0,on 22 21,of 23 0 22,of 24 1 23,ol 25 24,oh 26 25,mi 27 0] (kM i68_l1)) i68_r2)))))⟩
def i69_l1:aq:=(.seq (ak [om 35 4,om 36 7,oi 37 1 35 36,ol 38 37,Az 39 38] (ct 39 .skip (.exit 2))) (.seq (.block 3 (rf [om 43 4,om 44 7,oi 45 1 43 44,op (.store 1 (.t 45) (.b true))])) (rf [om 40 0,om 41 7,oc 42 4416704128 90 [.t 40,.t 41],om 7 42])))
def i69_r2:aq:=(rf [oj 46 .add 25 1,om 25 46])
def i69_l3:aq:=(ak [ot 26 .lss 25 24] (.seq (ll 26) (.seq (.block 1 (ak [om 27 25,om 6 27] (.seq (ak [om 28 4,om 29 6,oi 30 1 28 29,ol 31 30] (ct 31 (.exit 1) .skip)) (ak [om 32 5,oj 33 .add 32 1,om 5 33] (ak [om 34 6,om 7 34] (.block 2 (.loop i69_l1))))))) i69_r2)))
def i69_r4:aq:=(jt [om 47 5,om 48 0,lm 49 48 2,df 50 3 49 6,dl 51 50 14,Nc 52 51 30,om 53 0,lm 54 53 64,df 55 5 54 192,dl 56 55 448,od 57 (.mlen (.t 56)) 960,dt 58 .add 52 57 2046,dj 59 .add 58 2 4094,dt 60 .eql 47 59 8191,dm 2 60 16383] .ret)
def i69:dD:=⟨61,[(2,none)],(ak [mb 2 false] (jt [om 8 0,lm 9 8 1,df 10 0 9 3,df 11 1 10 7,dl 12 11 15,Nc 13 12 31,db 14 .mul (.i 2) (.t 13) 63,om 15 0,lm 16 15 128,df 17 3 16 384,dl 18 17 896,Nc 19 18 1920,db 20 .mul (.i 2) (.t 19) 3968,dt 21 .add 14 20 8191,dm 3 21 16383] (ak [om 22 3,oo 23 (.Yx 4416128064 4 1 1 [iz] (.t 22) (.t 22)),om 4 23] (ak [mi 5 0] (.seq (ak [om 24 3,mi 25 0] (kM i69_l3)) i69_r4)))))⟩
def i41_l1:aq:=(ak [ot 25 .lss 24 23] (.seq (ll 25) (.seq (.block 1 (ak [oi 26 1 22 24,ol 27 26,om 4 27] (ak [om 28 4,oo 29 (.call 2624384064 (.t 28) []),Az 30 29] (ct 30 (ch [mb 2 false]) .skip)))) (rf [oj 31 .add 24 1,om 24 31]))))
def i41_r2:aq:=(ch [mb 2 true])
def i41:dD:=⟨32,[(2,none)],(ak [mb 2 false] (.seq (ak [om 5 0,on 6 5,of 7 0 6,of 8 1 7,ol 9 8,oh 10 9,oj 11 .eql 10 0] (ct 11 (ch [mb 2 true]) .skip)) (.seq (ak [om 12 0,oo 13 (.mkfn 65 [.t 12] []),om 14 0,oo 15 (.mkfn 66 [.t 14] []),om 16 0,oo 17 (.mkfn 67 [.t 16] []),om 18 0,oo 19 (.mkfn 68 [.t 18] []),om 20 0,oo 21 (.mkfn 69 [.t 20] []),oo 22 (.Yl 2624192640 27 1 [.t 13,.t 15,.t 17,.t 19,.t 21]),oh 23 22,mi 24 0] (kM i41_l1)) i41_r2)))⟩
def i90:dD:=⟨156,[(4,none)],(ak [mi 4 0] (jt [om 15 0,lm 16 15 1,df 17 0 16 3,df 18 1 17 7,dl 19 18 15,Nc 20 19 31,om 21 0,lm 22 21 64,df 23 3 22 192,dl 24 23 448,Nc 25 24 960,dm 5 20 63,dm 6 25 4095] (.seq (ak [om 26 1,om 27 5,ob 28 .mul (.i 2) (.t 27),ot 29 .geq 26 28] (ct 29 (ak [om 30 1,om 31 5,ob 32 .mul (.i 2) (.t 31),ot 33 .sub 30 32,oj 34 .quo 33 2,om 7 34] (ak [om 35 1,oj 36 .rem 35 2,oj 37 .eql 36 0,om 8 37] (ak [om 38 0,on 39 38,of 40 3 39,ol 41 40,om 42 7,oi 43 1 41 42,ol 44 43,om 9 44] (.seq (ak [om 45 8] (ct 45 (rt [om 46 0,lm 47 46 1,df 48 3 47 3,dl 49 48 7,om 50 7,dj 51 .add 50 1 16,om 52 6,dt 53 .rem 51 52 112,di 54 1 49 53 255,dl 55 54 511,dm 9 55 1023]) .skip)) (.seq (ak [om 56 8,om 57 0,on 58 57,of 59 2 58,ol 60 59,om 61 9,
 oi 62 1 60 61,ol 63 62,oo 64 (.eqc .bool false (.t 56) (.t 63))] (ct 64 (ch [om 65 0,om 66 9,oc 67 5760576128 109 [.t 65,.t 66],om 4 67]) .skip)) (ch [om 68 0,om 69 9,oc 70 5760640128 110 [.t 68,.t 69],om 4 70])))))) .skip)) (ak [om 71 1,oj 72 .rem 71 2,oj 73 .eql 72 0,om 10 73] (ak [om 74 1,oj 75 .quo 74 2,om 11 75] (.seq (ak [om 76 10] (ct 76 (rf [om 77 11,oj 78 .add 77 1,om 79 5,ot 80 .rem 78 79,om 11 80]) .skip)) (ak [om 81 0,on 82 81,of 83 0 82,of 84 1 83,ol 85 84,om 86 11,oi 87 6 85 86,ox 88 6 87,oo 12 (.alloc 5760960512 [il 0,il 0,il 0,il 0,il 0,iz]),os 6 12 88] (.seq (ak [of 89 0 12,ol 90 89,oj 91 .eql 90 1] (ct 91 (.seq (ak [om 92 10,om 93 0,on 94 93,of 95 2 94,ol 96 95,om 97 11,oi 98 1 96 97,ol 99 98,oo 100 (.eqc .bool false (.t 92) (.t 99))] (ct 100 (ch [om 101 5,
 ob 102 .mul (.i 2) (.t 101),om 103 0,on 104 103,of 105 4 104,ol 106 105,om 107 11,oi 108 1 106 107,ol 109 108,ob 110 .mul (.i 2) (.t 109),ot 111 .add 102 110,om 4 111]) .skip)) (ch [om 112 5,ob 113 .mul (.i 2) (.t 112),om 114 0,on 115 114,of 116 4 115,ol 117 116,om 118 11,oi 119 1 117 118,ol 120 119,oj 121 .sub 120 1,om 122 6,ot 123 .add 121 122,om 124 6,ot 125 .rem 123 124,ob 126 .mul (.i 2) (.t 125),ot 127 .add 113 126,oj 128 .add 127 1,om 4 128])) .skip)) (jt [om 129 0,lm 130 129 1,df 131 5 130 3,dl 132 131 7,of 133 3 12,dl 134 133 16,od 135 (.lookup 0 [il 0,il 0] true false (.t 132) (.t 134)) 63,oo 13 (.alloc 5761280448 [il 0,il 0]),qZ 2 13 135 255] (ak [oo 136 (.ZT 2 1 (.t 13) (.i 1)),ol 137 136,om 14 137] (.seq (ak [of 138 5 12,ol 139 138] (ct 139 (rf [oo 140 (.ZT 2 1 (.t 13) (.i 0)),
 ol 141 140,om 14 141]) .skip)) (.seq (ak [om 142 10,of 143 5 12,ol 144 143,of 145 4 12,ol 146 145,oj 147 .eql 146 1,oo 148 (.eqc .bool false (.t 144) (.t 147)),oo 149 (.eqc .bool false (.t 142) (.t 148))] (ct 149 (ch [om 150 0,om 151 14,oc 152 5761600128 110 [.t 150,.t 151],om 4 152]) .skip)) (ch [om 153 0,om 154 14,oc 155 5761664128 109 [.t 153,.t 154],om 4 155])))))))))))))⟩
def i110:dD:=⟨7,[(4,none)],(ak [mi 4 0] (ch [om 5 1,ob 6 .mul (.i 2) (.t 5),om 4 6]))⟩
def i109:dD:=⟨20,[(4,none)],(ak [mi 4 0] (ak [om 6 0,on 7 6,of 8 0 7,of 9 1 8,ol 10 9,oh 11 10,om 5 11] (ch [om 12 1,oj 13 .sub 12 1,om 14 5,ot 15 .add 13 14,om 16 5,ot 17 .rem 15 16,ob 18 .mul (.i 2) (.t 17),oj 19 .add 18 1,om 4 19])))⟩
def i88:dD:=⟨9,[(4,none)],(ak [mb 4 false] (ch [om 5 0,om 6 1,oc 7 5632064128 108 [.t 5,.t 6],oj 8 .geq 7 0,om 4 8]))⟩
def i108_l1:aq:=(ak [ot 9 .lss 8 7] (.seq (ll 9) (.seq (.block 1 (ak [om 10 8,om 5 10] (ak [om 11 1,om 12 0,om 13 5,oi 14 6 12 13,ox 15 6 14,oo 16 (.call 6912256320 (.t 11) [.t 15])] (ct 16 (ch [om 17 5,om 4 17]) .skip)))) (rf [oj 18 .add 8 1,om 8 18]))))
def i108_r2:aq:=(ch [oo 4 (.mov (.i (-1)))])
def i108:dD:=⟨19,[(4,none)],(ak [mi 4 0] (.seq (ak [om 6 0,oh 7 6,mi 8 0] (kM i108_l1)) i108_r2))⟩
def i10:dD:=⟨54,[(2,none)],(ak [iZ 1 640000000 0,mi 2 0] (.seq (ak [of 4 1 1,ol 5 4,oh 6 5,oj 7 .gtr 6 400,om 8 7,gx_ 9 2 1 8,UB 10 640064384 27 [.t 9] 8,wX 11 .gtr 10 200 8,mz 12 8 11] (ct 12 (ch [mi 2 7]) .skip)) (.seq (ak [of 13 0 1,ol 14 13,oj 15 .lss 14 0,om 16 15,mY 17 0 1 16,rO 18 17 16,wX 19 .gtr 18 40 16,mz 20 16 19] (ct 20 (ch [mi 2 2]) .skip)) (.seq (ak [of 21 1 1,ol 22 21,oh 23 22,oj 24 .eql 23 0] (ct 24 (ch [mi 2 0]) .skip)) (ak [ox 25 2 1,
 oc 26 640448064 28 [.t 25],om 3 26] (.seq (jt [of 27 1 1,dl 28 27 1,od 29 (.Zc 6 (.t 28) (.i 0)) 3,df 30 0 29 7,dl 31 30 15,dj 32 .neq 31 1 31,dm 33 32 63,w8 34 3 33 127,Ek 35 .rem 34 2 33 255,Ek 36 .neq 35 0 33 511,tH 37 33 36 1023,dm 38 37 2047,WC 39 2 1 38 4095,UW 40 640512832 29 [.t 39] 38 8191,Gu_ 41 40 38 16383,tH 42 38 41 32767,dm 43 42 65535,WC 44 2 1 43 131071,UW 45 640513152 30 [.t 44] 43 262143,Gh_ 46 45 43 524287,w8 47 3 43 131071,
 WC 48 2 1 43 131071,UW 49 640513408 31 [.t 48] 43 2621439,Nd 50 .add 47 49 43 7864319,Ek 51 .add 50 2 43 16252927,Nd 52 .neq 46 51 43 33554431,tH 53 43 52 67108863] (ct 53 (ch [mi 2 3]) .skip)) (ch [mi 2 0])))))))⟩
def i28_l1:aq:=(.seq (ak [om 5 4,of 6 1 1,ol 7 6,oh 8 7,ot 9 .lss 5 8] (ll 9)) (.seq (.block 1 (ak [of 12 1 1,ol 13 12,om 14 4,oi 15 6 13 14,of 16 0 15,ol 17 16,oj 18 .eql 17 1] (ct 18 (rf [om 19 3,oj 20 .add 19 1,om 3 20]) .skip))) (rf [om 10 4,oj 11 .add 10 1,om 4 11])))
def i28_r2:aq:=(ch [om 21 3,om 2 21])
def i28:dD:=⟨22,[(2,none)],(ak [iZ 1 1792000000 0,mi 2 0] (ak [mi 3 0] (.seq (ak [mi 4 0] (kM i28_l1)) i28_r2)))⟩
def i31:dD:=⟨6,[(2,none)],(ak [iZ 1 1984000000 0,mi 2 0] (ch [ox 3 2 1,oc 4 1984064064 27 [.t 3],oj 5 .quo 4 2,om 2 5]))⟩
def i27_l1:aq:=(.seq (ak [om 5 4,of 6 1 1,ol 7 6,oh 8 7,ot 9 .lss 5 8] (ll 9)) (.seq (.block 1 (ak [of 12 1 1,ol 13 12,om 14 4,oi 15 6 13 14,of 16 0 15,ol 17 16,oj 18 .eql 17 2] (ct 18 (rf [om 19 3,oj 20 .add 19 1,om 3 20]) .skip))) (rf [om 10 4,oj 11 .add 10 1,om 4 11])))
def i27_r2:aq:=(ch [om 21 3,om 2 21])
def i27:dD:=⟨22,[(2,none)],(ak [iZ 1 1728000000 0,mi 2 0] (ak [mi 3 0] (.seq (ak [mi 4 0] (kM i27_l1)) i27_r2)))⟩
def i51_l1:aq:=(.seq (ak [om 7 6,of 8 1 2,ol 9 8,oh 10 9,ot 11 .lss 7 10] (ll 11)) (.seq (.block 1 (ak [of 14 1 2,ol 15 14,om 16 6,oi 17 6 15 16,of 18 0 17,ol 19 18,oj 20 .eql 19 1,om 21 20,iQ 22 1 2 21,jO 23 22 21,kY 24 6 21,Pm 25 6 23 24 21,iQ 26 1 25 21,jO 27 26 21,kY 28 1 21,M9 29 .eql 27 28 21,ny 30 21 29] (ct 30 (rf [om 31 5,oj 32 .add 31 1,om 5 32]) .skip))) (rf [om 12 6,oj 13 .add 12 1,om 6 13])))
def i51_r2:aq:=(ch [om 33 5,om 4 33])
def i51:dD:=⟨34,[(4,none)],(ak [iZ 2 3264000000 0,mi 4 0] (ak [mi 5 0] (.seq (ak [mi 6 0] (kM i51_l1)) i51_r2)))⟩
def i82_l1:aq:=(.seq (ak [om 7 6,om 8 1,ot 9 .lss 7 8] (ll 9)) (.seq (.block 1 (ak [of 12 1 2,ol 13 12,om 14 6,oi 15 6 13 14,of 16 0 15,ol 17 16,oj 18 .eql 17 1] (ct 18 (rf [om 19 5,oj 20 .add 19 1,om 5 20]) .skip))) (rf [om 10 6,oj 11 .add 10 1,om 6 11])))
def i82_r2:aq:=(ch [om 21 5,oj 22 .rem 21 2,oj 23 .eql 22 0,om 4 23])
def i82:dD:=⟨24,[(4,none)],(ak [iZ 2 5248000000 0,mb 4 false] (ak [mi 5 0] (.seq (ak [mi 6 0] (kM i82_l1)) i82_r2)))⟩
def i29_l1:aq:=(.seq (ak [om 21 7,of 22 1 1,ol 23 22,oh 24 23,ot 25 .lss 21 24] (ct 25 .skip (.exit 2))) (.seq (.block 3 (ak [of 28 1 1,ol 29 28,om 30 7,oi 31 6 29 30,ox 32 6 31,oo 8 (.alloc 1856576320 [il 0,il 0,il 0,il 0,il 0,iz]),os 6 8 32] (.seq (ak [of 33 0 8,ol 34 33,of 35 0 4,ol 36 35,ot 37 .eql 34 36,om 38 37,iQ 39 1 8 38,jO 40 39 38,iQ 41 1 4 38,jO 42 41 38,M9 43 .eql 40 42 38,ny 44 38 43,om 45 44,iQ 46 2 8 45,jO 47 46 45,iQ 48 2 4 45,jO 49 48 45,
 M9 50 .eql 47 49 45,ny 51 45 50] (ct 51 (rf [om 52 5,oj 53 .add 52 1,om 5 53]) .skip)) (ak [of 54 0 8,ol 55 54,of 56 0 4,ol 57 56,ot 58 .eql 55 57,om 59 58,iQ 60 3 8 59,jO 61 60 59,iQ 62 3 4 59,jO 63 62 59,M9 64 .eql 61 63 59,ny 65 59 64,om 66 65,iQ 67 4 8 66,jO 68 67 66,iQ 69 4 4 66,jO 70 69 66,M9 71 .eql 68 70 66,ny 72 66 71,om 73 72,iQ 74 5 8 73,
 jO 75 74 73,iQ 76 5 4 73,jO 77 76 73,Mi 78 (.eqc .bool true (.t 75) (.t 77)) 73,ny 79 73 78] (ct 79 (rf [om 80 6,oj 81 .add 80 1,om 6 81]) .skip))))) (rf [om 26 7,oj 27 .add 26 1,om 7 27])))
def i29_r2:aq:=(ak [of 82 0 4,ol 83 82] (.block 4 (ak [oj 85 .eql 83 1,om 84 85] (ct 84 (jt [of 86 3 4,dl 87 86 1,dj 88 .neq 87 0 3,dm 89 88 7,mW 90 4 4 89 15,nY 91 90 89 31,Ek 92 .neq 91 0 89 63,tH 93 89 92 127,dm 94 93 255,mW 95 5 4 94 511,nY 96 95 94 1023,tH 97 94 96 2047,dm 98 97 4095,mW 99 1 4 98 8191,nY 100 99 98 16383,Ek 101 .lss 100 0 98 32767,tH 102 98 101 65535,dm 103 102 131071,mW 104 1 4 103 262143,nY 105 104 103 524287,
 mW 106 0 1 103 262143,nY 107 106 103 1310719,Nd 108 .gtr 105 107 103 4194303,tH 109 103 108 8388607,dm 110 109 16777215,mW 111 2 4 110 33554431,nY 112 111 110 67108863,Ek 113 .lss 112 1 110 134217727,tH 114 110 113 268435455,dm 115 114 536870911,mW 116 2 4 115 1073741823,nY 117 116 115 2147483647,WC 118 2 1 115 1073741823,mW 119 1 4 115 1073741823,nY 120 119 115 9663676415,UW 121 1857090240 51 [.t 118,.t 120] 115 31138512895,
 Nd 122 .gtr 117 121 115 68719476735,tH 123 115 122 137438953471,dm 124 123 274877906943,w8 125 5 124 549755813887,Ek 126 .neq 125 1 124 1099511627775,tH 127 124 126 2199023255551] (ct 127 (ch [mb 2 false]) .skip)) (ak [oj 129 .eql 83 2,om 128 129] (ct 128 (jt [of 130 1 4,dl 131 130 1,dj 132 .neq 131 0 3,dm 133 132 7,mW 134 2 4 133 15,nY 135 134 133 31,Ek 136 .neq 135 0 133 63,tH 137 133 136 127,dm 138 137 255,mW 139 4 4 138 511,nY 140 139 138 1023,Ek 141 .neq 140 1 138 2047,
 w8 142 141 138 4095,r6 143 4 4 142 8191,pP 144 143 142 16383,Hz_ 145 (.bin .neq (.t 144) (.i (-1))) 142 32767,Gq_ 146 142 145 138 65535,tH 147 138 146 131071,dm 148 147 262143,mW 149 3 4 148 524287,nY 150 149 148 1048575,Ek 151 .lss 150 1 148 2097151,tH 152 148 151 4194303,dm 153 152 8388607,mW 154 3 4 153 16777215,nY 155 154 153 33554431,WC 156 2 1 153 16777215,UW 157 1857281728 27 [.t 156] 153 83886079,
 Ek 158 .quo 157 2 153 218103807,Nd 159 .gtr 155 158 153 536870911,tH 160 153 159 1073741823,dm 161 160 2147483647,w8 162 6 161 4294967295,Ek 163 .neq 162 1 161 8589934591,tH 164 161 163 17179869183,dm 165 164 34359738367,WC 166 2 1 165 68719476735,mW 167 3 4 165 68719476735,nY 168 167 165 206158430207,UW 169 1857282496 52 [.t 166,.t 168] 165 549755813887,Ek 170 .neq 169 2 165 1099511627775,tH 171 165 170 2199023255551] (ct 171 (ch [mb 2 false]) .skip)) (ch [mb 2 false])))))))
def i29_r3:aq:=(rf [om 14 3,oj 15 .add 14 1,om 3 15])
def i29_l4:aq:=(.seq (ak [om 9 3,of 10 1 1,ol 11 10,oh 12 11,ot 13 .lss 9 12] (ll 13)) (.seq (.block 1 (ak [of 16 1 1,ol 17 16,om 18 3,oi 19 6 17 18,ox 20 6 19,oo 4 (.alloc 1856256320 [il 0,il 0,il 0,il 0,il 0,iz]),os 6 4 20] (ak [mi 5 0,mi 6 0] (.seq (ak [mi 7 0] (.block 2 (.loop i29_l1))) i29_r2)))) i29_r3))
def i29_r5:aq:=(ch [mb 2 true])
def i29:dD:=⟨172,[(2,none)],(ak [iZ 1 1856000000 0,mb 2 false] (.seq (ak [mi 3 0] (kM i29_l4)) i29_r5))⟩
def i52_l1:aq:=(.seq (ak [om 7 6,of 8 1 2,ol 9 8,oh 10 9,ot 11 .lss 7 10] (ll 11)) (.seq (.block 1 (ak [of 14 1 2,ol 15 14,om 16 6,oi 17 6 15 16,of 18 0 17,ol 19 18,oj 20 .eql 19 2,om 21 20,iQ 22 1 2 21,jO 23 22 21,kY 24 6 21,Pm 25 6 23 24 21,iQ 26 3 25 21,jO 27 26 21,kY 28 1 21,M9 29 .eql 27 28 21,ny 30 21 29] (ct 30 (rf [om 31 5,oj 32 .add 31 1,om 5 32]) .skip))) (rf [om 12 6,oj 13 .add 12 1,om 6 13])))
def i52_r2:aq:=(ch [om 33 5,om 4 33])
def i52:dD:=⟨34,[(4,none)],(ak [iZ 2 3328000000 0,mi 4 0] (ak [mi 5 0] (.seq (ak [mi 6 0] (kM i52_l1)) i52_r2)))⟩
def i83_l1:aq:=(.seq (ak [om 6 5,of 7 1 2,ol 8 7,oh 9 8,ot 10 .lss 6 9] (ll 10)) (.seq (.block 1 (jt [om 13 5,om 14 1,dt 15 .neq 13 14 3,dm 16 15 7,r6 17 1 2 16 15,pP 18 17 16 31,w7 19 5 16 15,Je 20 6 18 19 16 127,r6 21 0 20 16 255,pP 22 21 16 511,UV 23 .eql 22 2 16 1023,M4 24 16 23 2047,dm 25 24 4095,r6 26 1 2 25 8191,pP 27 26 25 16383,w7 28 5 25 8191,Je 29 6 27 28 25 65535,r6 30 3 29 25 131071,
 pP 31 30 25 262143,r6 32 1 2 25 8191,pP 33 32 25 532479,w7 34 1 25 8191,Je 35 6 33 34 25 3678207,r6 36 3 35 25 7872511,pP 37 36 25 16261119,UU 38 .eql 31 37 25 33554431,M4 39 25 38 67108863] (ct 39 (ch [om 40 5,om 4 40]) .skip))) (rf [om 11 5,oj 12 .add 11 1,om 5 12])))
def i83_r2:aq:=(ch [om 41 1,om 4 41])
def i83:dD:=⟨42,[(4,none)],(ak [iZ 2 5312000000 0,mi 4 0] (.seq (ak [mi 5 0] (kM i83_l1)) i83_r2))⟩
def i80:dD:=⟨24,[(4,none)],(ak [iZ 2 5120000000 0,iZ 3 5120000064 1,mb 4 false] (ch [of 5 1 2,ol 6 5,of 7 1 3,ol 8 7,ot 9 .lss 6 8,om 10 9,mY 11 1 2 10,rO 12 11 10,mY 13 1 3 10,rO 14 13 10,Kd 15 .eql 12 14 10,jl 16 15 10,iQ 17 2 2 16,jO 18 17 16,iQ 19 2 3 16,jO 20 19 16,M9 21 .lss 18 20 16,Iq 22 16 21 10,mz 23 10 22,om 4 23]))⟩
def i53_l1:aq:=(.seq (jt [om 20 5,om 21 3,Nc 22 21 2,dt 23 .lss 20 22 7,dm 24 23 15,r6 25 1 1 24 31,pP 26 25 24 63,w7 27 3 24 31,w7 28 5 24 31,Je 29 1 27 28 24 415,pP 30 29 24 927,Je 31 6 26 30 24 2047,Hx_ 32 6 31 24 4095,r6 33 1 1 24 31,pP 34 33 24 8223,w7 35 4 24 31,Je 36 6 34 35 24 57375,Hx_ 37 6 36 24 122911,Hc_ 38 3392449152 80 [.t 32,.t 37] 24 262143,
 M4 39 24 38 524287] (ct 39 .skip (.exit 2))) (.block 3 (rf [om 40 5,oj 41 .add 40 1,om 5 41])))
def i53_r2:aq:=(rt [om 42 3,om 43 5,od 44 (.slice 1 (.t 42) none (some (.t 43))) 3,od 45 (.append 3392576192 3 1 8 (.k (.one (.p (.nils)))) (.t 44)) 7,om 46 4,od 47 (.Yl 3392576320 3 1 [.t 46]) 16,US 48 3392576384 3 1 8 45 47 63,om 49 3,om 50 5,od 51 (.slice 1 (.t 49) (some (.t 50)) none) 384,US 52 3392576640 3 1 8 48 51 1023,dm 3 52 2047])
def i53_r3:aq:=(rf [om 11 4,oj 12 .add 11 1,om 4 12])
def i53_l4:aq:=(.seq (ak [om 6 4,of 7 1 1,ol 8 7,oh 9 8,ot 10 .lss 6 9] (ll 10)) (.seq (.block 1 (.seq (ak [of 13 1 1,ol 14 13,om 15 4,oi 16 6 14 15,of 17 0 16,ol 18 17,oj 19 .neq 18 1] (ct 19 (.exit 1) .skip)) (ak [mi 5 0] (.seq (.block 2 (.loop i53_l1)) i53_r2)))) i53_r3))
def i53_r5:aq:=(ch [om 53 3,om 2 53])
def i53:dD:=⟨54,[(2,none)],(ak [iZ 1 3392000000 0,kI 2] (ak [kI 3] (.seq (ak [mi 4 0] (kM i53_l4)) i53_r5)))⟩
def i84_l1:aq:=(.seq (ak [om 6 5,om 7 0,oh 8 7,ot 9 .lss 6 8] (ll 9)) (.seq (.block 1 (ak [om 12 0,om 13 5,oi 14 1 12 13,ol 15 14,om 16 1,ot 17 .eql 15 16] (ct 17 (ch [om 18 5,om 4 18]) .skip))) (rf [om 10 5,oj 11 .add 10 1,om 5 11])))
def i84_r2:aq:=(ch [oo 4 (.mov (.i (-1)))])
def i84:dD:=⟨19,[(4,none)],(ak [mi 4 0] (.seq (ak [mi 5 0] (kM i84_l1)) i84_r2))⟩
def i81:dD:=⟨22,[(6,none)],(ak [iZ 3 5184000000 0,mi 6 0] (ak [of 8 1 3,ol 9 8,oh 10 9,om 7 10] (.seq (ak [om 11 2] (ct 11 (ch [om 12 1,ob 13 .mul (.i 2) (.t 12),om 6 13]) .skip)) (ch [om 14 1,om 15 7,ot 16 .add 14 15,oj 17 .sub 16 1,om 18 7,ot 19 .rem 17 18,ob 20 .mul (.i 2) (.t 19),oj 21 .add 20 1,om 6 21]))))⟩
def i54:dD:=⟨114,[(6,none)],(ak [iZ 3 3456000000 0,mi 6 0] (ak [of 17 1 3,ol 18 17,oh 19 18,om 20 1,oh 21 20,om 7 19,om 8 21] (.seq (ak [om 22 2,om 23 7,ob 24 .mul (.i 2) (.t 23),ot 25 .geq 22 24] (ct 25 (ak [om 26 2,om 27 7,ob 28 .mul (.i 2) (.t 27),ot 29 .sub 26 28,oj 30 .quo 29 2,om 9 30] (.seq (ak [om 31 2,oj 32 .rem 31 2,oj 33 .eql 32 0] (ct 33 (ak [om 34 1,om 35 9,oj 36 .add 35 1,om 37 8,ot 38 .rem 36 37,oi 39 1 34 38,ol 40 39,om 10 40] (jt [ox 41 2 3,om 42 10,ox 43 2 3,om 44 10,dc 45 3456384256 82 [.t 43,.t 44] 12,Ws 46 45 28,dc 47 3456384384 81 [.t 41,.t 42,.t 46] 63,dm 6 47 127] .ret)) .skip)) (ak [om 48 1,om 49 9,oi 50 1 48 49,ol 51 50,om 11 51] (jt [ox 52 2 3,om 53 11,ox 54 2 3,om 55 11,dc 56 3456512256 82 [.t 54,.t 55] 12,dc 57 3456512320 81 [.t 52,.t 53,.t 56] 31,
 dm 6 57 63] .ret)))) .skip)) (ak [om 58 2,oj 59 .rem 58 2,oj 60 .eql 59 0,om 12 60] (ak [om 61 2,oj 62 .quo 61 2,om 13 62] (.seq (ak [om 63 12] (ct 63 (rf [om 64 13,oj 65 .add 64 1,om 66 7,ot 67 .rem 65 66,om 13 67]) .skip)) (ak [of 68 1 3,ol 69 68,om 70 13,oi 71 6 69 70,ox 72 6 71,oo 14 (.alloc 3456832320 [il 0,il 0,il 0,il 0,il 0,iz]),os 6 14 72] (.seq (ak [of 73 0 14,ol 74 73,oj 75 .eql 74 2] (ct 75 (ak [of 76 5 14,ol 77 76,of 78 4 14,ol 79 78,oj 80 .eql 79 1,oo 81 (.eqc .bool false (.t 77) (.t 80)),om 15 81] (jt [ox 82 2 3,ox 83 2 3,om 84 13,dc 85 3457024192 83 [.t 83,.t 84] 6,om 86 12,om 87 15,od 88 (.eqc .bool false (.t 86) (.t 87)) 48,dc 89 3457024448 81 [.t 82,.t 85,.t 88] 127,dm 6 89 255] .ret)) .skip)) (ak [om 90 1,om 91 13,oc 92 3457088128 84 [.t 90,.t 91],om 16 92] (.seq (ak [ox 93 2 3,
 om 94 13,oc 95 3457152128 82 [.t 93,.t 94],om 96 12,oo 97 (.eqc .bool false (.t 95) (.t 96))] (ct 97 (ch [om 98 7,ob 99 .mul (.i 2) (.t 98),om 100 16,ob 101 .mul (.i 2) (.t 100),ot 102 .add 99 101,om 6 102]) .skip)) (ch [om 103 7,ob 104 .mul (.i 2) (.t 103),om 105 16,om 106 8,ot 107 .add 105 106,oj 108 .sub 107 1,om 109 8,ot 110 .rem 108 109,ob 111 .mul (.i 2) (.t 110),ot 112 .add 104 111,oj 113 .add 112 1,om 6 113])))))))))))⟩
def i30_l1:aq:=(.seq (ak [om 31 5,om 32 8,oi 33 1 31 32,ol 34 33,Az 35 34] (ct 35 .skip (.exit 2))) (.seq (.block 3 (ak [om 40 5,om 41 8,oi 42 1 40 41,op (.store 1 (.t 42) (.b true))] (rf [om 43 7,om 44 8,oo 45 (.Yl 1920832128 3 1 [.t 44]),Me 46 1920832192 3 1 8 43 45,om 7 46]))) (rf [ox 36 2 1,om 37 4,om 38 8,oc 39 1920704192 54 [.t 36,.t 37,.t 38],om 8 39])))
def i30_r2:aq:=(rf [om 47 3,om 48 7,oo 49 (.Yl 1920896128 89 1 [.t 48]),Me 50 1920896192 89 1 24 47 49,om 3 50])
def i30_r3:aq:=(rf [om 24 6,oj 25 .add 24 1,om 6 25])
def i30_l4:aq:=(.seq (ak [om 20 6,om 21 5,oh 22 21,ot 23 .lss 20 22] (ll 23)) (.seq (.block 1 (.seq (ak [om 26 5,om 27 6,oi 28 1 26 27,ol 29 28] (ct 29 (.exit 1) .skip)) (ak [kI 7] (.seq (ak [om 30 6,om 8 30] (.block 2 (.loop i30_l1))) i30_r2)))) i30_r3))
def i30_r5:aq:=(ch [om 51 3,om 2 51])
def i30:dD:=⟨52,[(2,none)],(ak [iZ 1 1920000000 0,kI 2] (ak [kI 3] (ak [ox 9 2 1,oc 10 1920128064 53 [.t 9],om 4 10] (ak [of 11 1 1,ol 12 11,oh 13 12,ob 14 .mul (.i 2) (.t 13),om 15 4,oh 16 15,ob 17 .mul (.i 2) (.t 16),ot 18 .add 14 17,oo 19 (.Yx 1920192512 4 1 1 [iz] (.t 18) (.t 18)),om 5 19] (.seq (ak [mi 6 0] (kM i30_l4)) i30_r5)))))⟩
def i72_l1:aq:=(ak [ot 31 .lss 30 29] (.seq (ll 31) (.seq (.block 1 (ak [om 32 30,om 9 32] (ak [om 33 7,om 34 9,oi 35 1 33 34,ol 36 35,Az 37 36] (ct 37 (rf [om 38 6,om 39 4,om 40 9,om 41 7,om 42 8,oc 43 4608704320 92 [.t 39,.t 40,.t 41,.t 42],oo 44 (.Yl 4608704384 132 5 [.t 43]),Me 45 4608704448 132 5 88 38 44,om 6 45]) .skip)))) (rf [oj 46 .add 30 1,om 30 46]))))
def i72_r2:aq:=(ch [om 47 6,om 2 47,mi 3 0])
def i72:dD:=⟨48,[(2,none),(3,none)],(ak [iZ 1 4608000000 0,kI 2,mi 3 0] (ak [ox 11 2 1,oc 12 4608064064 19 [.t 11],om 10 12,oe 13 10 0,oe 14 10 1,om 4 13,om 5 14] (.seq (ak [om 15 5,oj 16 .neq 15 0] (ct 16 (ch [om 17 5,kI 2,om 3 17]) .skip)) (ak [kI 6] (ak [om 18 4,on 19 18,of 20 0 19,of 21 1 20,ol 22 21,oh 23 22,ob 24 .mul (.i 2) (.t 23),oo 25 (.Yx 4608320448 4 1 1 [iz] (.t 24) (.t 24)),om 7 25] (ak [om 26 4,oc 27 4608384064 91 [.t 26],om 8 27] (.seq (ak [om 28 7,oh 29 28,mi 30 0] (kM i72_l1)) i72_r2)))))))⟩
def i46_l1:aq:=(ak [ot 45 .lss 44 43] (.seq (ll 45) (.seq (.block 1 (ak [oi 46 6 42 44,ox 47 6 46,oo 9 (.alloc 2944512128 [il 0,il 0,il 0,il 0,il 0,iz]),os 6 9 47] (ak [ox 48 6 9,oo 49 (.build [il 0,il 0,il 0,il 0,il 0,iz,iz] [(0,6,.t 48)]),oo 10 (.alloc 2944576128 [il 0,il 0,il 0,il 0,il 0,iz,iz]),os 7 10 49] (.seq (ak [of 50 0 9,ol 51 50,oj 52 .eql 51 1] (ct 52 (ak [om 53 7,of 54 6 10,os 1 54 53] (ak [om 55 7,Az 56 55,om 7 56] (rt [om 57 6,lm 58 57 1,df 59 6 58 3,dl 60 59 7,of 61 1 9,dl 62 61 16,di 63 1 60 62 63,dl 64 63 127,dj 65 .add 64 1 255,di 66 1 60 62 511,qZ 1 66 65 1023]))) .skip)) (rt [om 67 6,om 68 6,lm 69 68 2,df 70 1 69 6,dl 71 70 14,ox 72 7 10,od 73 (.Yl 2944896384 129 7 [.t 72]) 32,
 US 74 2944896448 129 7 56 71 73 126,lm 75 67 255,df 76 1 75 511,qZ 1 76 74 1023]))))) (rf [oj 77 .add 44 1,om 44 77]))))
def i46_l2:aq:=(ak [ot 89 .lss 88 87] (.seq (ct 89 .skip (.exit 4)) (.seq (.block 5 (ak [oi 90 1 86 88,ol 91 90,om 14 91] (rf [om 92 6,on 93 92,of 94 3 93,ol 95 94,om 96 14,om 97 11,oi 98 1 95 96,os 1 98 97]))) (rf [oj 99 .add 88 1,om 88 99]))))
def i46_r3:aq:=(rf [oj 100 .add 80 1,om 80 100])
def i46_l4:aq:=(ak [ot 81 .lss 80 79] (.seq (ct 81 .skip (.exit 2)) (.seq (.block 3 (ak [om 82 80,oi 83 5 78 80,ox 84 5 83,oo 12 (.alloc 2945152192 [iz,.nils,.nils,.nils,iz]),om 11 82,os 5 12 84] (ak [of 85 1 12,ol 86 85,oh 87 86,mi 88 0] (.block 4 (.loop i46_l2))))) i46_r3)))
def i46_r5:aq:=(ch [om 101 6,om 2 101,mi 3 0])
def i46_r6:aq:=(.seq (ak [om 78 4,oh 79 78,mi 80 0] (.block 2 (.loop i46_l4))) i46_r5)
def i46:dD:=⟨102,[(2,none),(3,none)],(ak [iZ 1 2944000000 0,Ww 2,mi 3 0] (ak [ox 16 2 1,oc 17 2944064064 72 [.t 16],om 15 17,oe 18 15 0,oe 19 15 1,om 4 18,om 5 19] (.seq (ak [om 20 5,oj 21 .neq 20 0] (ct 21 (ch [om 22 5,Ww 2,om 3 22]) .skip)) (jt [of 23 0 1,dl 24 23 1,om 25 4,of 26 1 1,dl 27 26 8,Nc 28 27 24,db 29 .mul (.i 2) (.t 28) 56,od 30 (.Yx 2944256448 3 1 8 [il 0] (.t 29) (.t 29)) 120,ox 31 2 1,dc 32 2944256576 73 [.t 31] 256,ox 33 2 1,dc 34 2944256704 74 [.t 33] 1792,of 35 0 1,dl 36 35 4096,dj 37 .add 36 1 12288,od 38 (.Yx 2944256960 3 1 8 [il 0] (.t 37) (.t 37)) 28672,od 39 (.build [il 0,.nils,.nils,.nils,il 0,il 0,.nils] [(0,1,.t 24),(2,1,.t 25),(3,1,.t 30),(4,1,.t 32),(5,1,.t 34),(6,1,.t 38)]) 65535,
 Kb_ 40 2944257088 39 131071,dm 6 40 262143] (ak [mb 7 true] (.seq (ak [of 41 1 1,ol 42 41,oh 43 42,mi 44 0] (kM i46_l1)) i46_r6))))))⟩
def i23:dD:=⟨22,[(4,some (some 2)),(5,none)],(ak [iZ 2 1472000000 0,iZ 3 1472000064 1,oo 4 (.alloc 1472000128 [il 0,.nils]),mi 5 0] (ak [ox 9 2 2,oc 10 1472064064 46 [.t 9],om 8 10,oe 11 8 0,oe 12 8 1,om 6 11,om 7 12] (.seq (ak [om 13 7,oj 14 .neq 13 0] (ct 14 (ch [oo 15 (.build [il 0,.nils] []),om 16 7,os 2 4 15,om 5 16]) .skip)) (ch [om 17 6,ox 18 7 3,oc 19 1472256128 47 [.t 17,.t 18],oe 20 19 0,oe 21 19 1,os 2 4 20,om 5 21]))))⟩
def i7_l1:aq:=(ak [ot 25 .lss 24 23] (.seq (ll 25) (.seq (.block 1 (ak [om 26 24,oi 27 7 22 24,ox 28 7 27,oo 9 (.alloc 448448192 [il 0,il 0,il 0,il 0,iz,iz,il 0]),om 8 26,os 7 9 28] (ak [ox 30 2 2,ox 31 7 9,oc 32 448512128 23 [.t 30,.t 31],om 29 32,oe 33 29 0,oe 34 29 1,oo 10 (.alloc 448512384 [il 0,.nils]),os 2 10 33,om 11 34] (.seq (ak [om 35 11,oj 36 .neq 35 0] (ct 36 (ch [oo 37 (.build [il 0,.nils] []),om 38 8,om 39 11,os 2 4 37,om 5 38,om 6 39]) .skip)) (rf [ox 40 2 10,os 2 2 40]))))) (rf [oj 41 .add 24 1,om 24 41]))))
def i7_r2:aq:=(ch [ox 42 2 2,om 43 1,oh 44 43,os 2 4 42,om 5 44,mi 6 0])
def i7:dD:=⟨45,[(4,some (some 2)),(5,none),(6,none)],(ak [iZ 2 448000000 0,oo 4 (.alloc 448000064 [il 0,.nils]),mi 5 0,mi 6 0] (.seq (ak [ox 12 2 2,oc 13 448064064 21 [.t 12],om 7 13] (ak [om 14 7,oj 15 .neq 14 0] (ct 15 (ch [oo 16 (.build [il 0,.nils] []),om 17 7,os 2 4 16,mi 5 0,om 6 17]) .skip))) (ak [of 18 1 2,ol 19 18,oc 20 448256128 22 [.t 19],of 21 1 2,os 1 21 20] (.seq (ak [om 22 1,oh 23 22,mi 24 0] (kM i7_l1)) i7_r2))))⟩
def i47:dD:=⟨55,[(4,some (some 2)),(5,none)],(ak [iZ 3 3008000000 1,oo 4 (.alloc 3008000064 [il 0,.nils]),mi 5 0] (.seq (ak [om 10 0,ox 11 7 3,oc 12 3008064128 75 [.t 10,.t 11],Az 13 12] (ct 13 (ch [oo 14 (.build [il 0,.nils] []),os 2 4 14,mi 5 2]) .skip)) (jt [oc 16 3008192000 76 [],of 17 0 3,dl 18 17 2,od 19 (.aidx 11 1 none (.t 16) (.t 18)) 7,om 20 0,ox 21 7 3,od 22 (.call 3008192384 (.t 19) [.t 20,.t 21]) 63,dm 15 22 127,Ke_ 23 15 0 255,Ke_ 24 15 1 255,dm 6 23 511,dm 7 24 2047] (.seq (ak [om 25 7,Az 26 25] (ct 26 (ch [oo 27 (.build [il 0,.nils] []),os 2 4 27,mi 5 4]) .skip)) (.seq (ak [of 29 0 3,ol 30 29,oc 31 3008384128 77 [.t 30],om 28 31,oe 32 28 0,oe 33 28 1,om 8 32,om 9 33] (ak [om 34 0,on 35 34,of 36 1 35,
 ol 37 36,oh 38 37,om 39 8,ot 40 .add 38 39,oj 41 .gtr 40 400,om 42 41,jl 43 0 42,XA 44 43 42,mY 45 5 44 42,rO 46 45 42,jl 47 9 42,Kd 48 .add 46 47 42,wX 49 .gtr 48 100 42,mz 50 42 49] (ct 50 (ch [oo 51 (.build [il 0,.nils] []),os 2 4 51,mi 5 7]) .skip))) (ch [om 52 0,om 53 6,oc 54 3008576128 78 [.t 52,.t 53],os 2 4 54,mi 5 0]))))))⟩
def i22:dD:=⟨8,[(2,none)],(ak [kI 2] (.seq (ak [om 3 0,oo 4 (.eqc .slc false (.t 3) (.k (.one (.p (.nils)))))] (ct 4 (ch [kI 2]) .skip)) (ch [oo 5 (.Yl 1408192000 44 6 []),om 6 0,Me 7 1408192128 44 6 48 5 6,om 2 7])))⟩
def i75:dD:=⟨190,[(4,none)],(ak [iZ 3 4800000000 1,mb 4 false] (ak [om 11 0,on 12 11,of 13 1 12,ol 14 13,oh 15 14,oo 5 (.alloc 4800064320 [il 0]),os 1 5 15] (ak [oo 16 (.mkfn 93 [] [.t 5]),om 6 16] (ak [mi 7 1,mb 8 false,mb 9 false,mb 10 false] (.seq (ak [of 17 0 3,ol 18 17] (.block 0 (ak [oj 20 .eql 18 2,om 19 20] (ct 19 (rf [mb 8 true]) (.seq (ak [oj 22 .eql 18 3,om 21 22] (ct 21 .skip (rf [oj 23 .eql 18 6,om 21 23]))) (ct 21 (rf [mi 7 2]) (ak [oj 25 .eql 18 5,om 24 25] (ct 24 (rf [mb 10 true]) (ak [oj 27 .eql 18 7,om 26 27] (ct 26 (rf [mi 7 2,mb 9 true]) (ak [oj 29 .eql 18 8,om 28 29] (ct 28 (rf [mi 7 3]) (.seq (ak [oj 31 .eql 18 1,om 30 31] (ct 30 .skip (ak [oj 32 .eql 18 4,om 30 32] (ct 30 .skip (ak [oj 33 .eql 18 9,
 om 30 33] (ct 30 .skip (rf [oj 34 .eql 18 10,om 30 34]))))))) (ct 30 .skip (ch [mb 4 false]))))))))))))))) (.seq (ak [om 35 9,Az 36 35,om 37 36,iQ 38 4 3 37,jO 39 38 37,ny 40 37 39,om 41 40,jl 42 9 41,Wz 43 42 41,jl 44 43 41,kY 45 10 44,Xy 46 45 44,Iq 47 44 46 41,jl 48 47 41,iQ 49 5 3 48,jO 50 49 48,Iq 51 48 50 41,mz 52 41 51,
 om 53 52,jl 54 10 53,mY 55 6 3 53,rO 56 55 53,wX 57 .neq 56 0 53,gz_ 58 (.eqc .bool true (.t 54) (.t 57)) 53,mz 59 53 58,om 60 59,jl 61 10 60,jl 62 61 60,iQ 63 6 3 62,jO 64 63 62,Dy 65 .neq 64 1 62,Iq 66 62 65 60,jl 67 66 60,iQ 68 6 3 67,jO 69 68 67,Mi 70 (.bin .neq (.t 69) (.i (-1))) 67,Iq 71 67 70 60,
 mz 72 60 71] (ct 72 (ch [mb 4 false]) .skip)) (.seq (ak [om 73 8] (ct 73 (jt [om 74 6,of 75 1 3,dl 76 75 2,od 77 (.call 4801536192 (.t 74) [.t 76]) 7,dm 78 77 15,nY 79 5 78 31,Ek 80 .eql 79 0 78 63,w8 81 80 78 127,r6 82 1 3 81 255,pP 83 82 81 511,UV 84 .eql 83 0 81 1023,Gq_ 85 81 84 78 2047,tH 86 78 85 4095,dm 87 86 8191,r6 88 2 3 87 16383,pP 89 88 87 32767,UV 90 .geq 89 0 87 65535,M4 91 87 90 131071,
 dm 92 91 262143,r6 93 2 3 92 524287,pP 94 93 92 1048575,w7 95 0 92 524287,Wt 96 95 92 2621439,r6 97 0 96 92 6815743,pP 98 97 92 15204351,UU 99 .leq 94 98 92 33554431,M4 100 92 99 67108863,dm 101 100 134217727,r6 102 3 3 101 268435455,pP 103 102 101 536870911,UV 104 .geq 103 0 101 1073741823,M4 105 101 104 2147483647,dm 106 105 4294967295,r6 107 3 3 106 8589934591,pP 108 107 106 17179869183,
 w7 109 0 106 8589934591,Wt 110 109 106 42949672959,r6 111 6 110 106 111669149695,pP 112 111 106 249108103167,r6 113 2 3 106 8589934591,pP 114 113 106 558345748479,Je 115 1 112 114 106 2173253451775,pP 116 115 106 4372276707327,UU 117 .leq 108 116 106 8796093022207,M4 118 106 117 17592186044415,dm 4 118 35184372088831] .ret) .skip)) (.seq (ak [om 119 6,of 120 1 3,ol 121 120,oo 122 (.call 4801600192 (.t 119) [.t 121]),Az 123 122,om 124 123,jl 125 7 124,wX 126 .lss 125 2 124,
 jl 127 126 124,iQ 128 2 3 127,jO 129 128 127,Dy 130 .neq 129 0 127,Iq 131 127 130 124,mz 132 124 131,om 133 132,jl 134 7 133,wX 135 .lss 134 3 133,jl 136 135 133,iQ 137 3 3 136,jO 138 137 136,Dy 139 .neq 138 0 136,Iq 140 136 139 133,mz 141 133 140,om 142 141,jl 143 7 142,wX 144 .geq 143 2 142,
 jl 145 144 142,kY 146 6 145,iQ 147 2 3 145,jO 148 147 145,Mi 149 (.call 4801601920 (.t 146) [.t 148]) 145,Xy 150 149 145,Iq 151 145 150 142,mz 152 142 151,om 153 152,jl 154 7 153,wX 155 .eql 154 3 153,jl 156 155 153,kY 157 6 156,iQ 158 3 3 156,jO 159 158 156,Mi 160 (.call 4801602624 (.t 157) [.t 159]) 156,Xy 161 160 156,
 Iq 162 156 161 153,mz 163 153 162] (ct 163 (ch [mb 4 false]) .skip)) (.seq (ak [om 164 9] (ct 164 (ch [of 165 1 3,ol 166 165,of 167 2 3,ol 168 167,ot 169 .neq 166 168,om 4 169]) .skip)) (ch [om 170 7,oj 171 .lss 170 2,om 172 171,mY 173 1 3 172,rO 174 173 172,mY 175 2 3 172,rO 176 175 172,Kd 177 .lss 174 176 172,jl 178 177 172,kY 179 7 178,Dy 180 .lss 179 3 178,kY 181 180 178,mY 182 2 3 181,
 rO 183 182 181,mY 184 3 3 181,rO 185 184 181,Kd 186 .lss 183 185 181,hp_ 187 181 186 178,Iq 188 178 187 172,mz 189 172 188,om 4 189]))))))))))⟩
def i76:dD:=⟨2,[(0,some (some 11))],(ak [oo 0 (.alloc 4864000000 [.YF,.YF,.YF,.YF,.YF,.YF,.YF,.YF,.YF,.YF,.YF])] (ch [oo 1 (.build [.YF,.YF,.YF,.YF,.YF,.YF,.YF,.YF,.YF,.YF,.YF] [(1,1,.k (.one (.p (.fn 94 [] [])))),(2,1,.k (.one (.p (.fn 95 [] [])))),(3,1,.k (.one (.p (.fn 96 [] [])))),(4,1,.k (.one (.p (.fn 97 [] [])))),(5,1,.k (.one (.p (.fn 98 [] [])))),(6,1,.k (.one (.p (.fn 99 [] [])))),(7,1,.k (.one (.p (.fn 100 [] [])))),(8,1,.k (.one (.p (.fn 101 [] [])))),(9,1,.k (.one (.p (.fn 102 [] [])))),(10,1,.k (.one (.p (.fn 102 [] []))))]),os 11 0 1]))⟩
def i77:dD:=⟨11,[(2,none),(3,none)],(ak [mi 2 0,mi 3 0] (.seq (ak [om 4 0] (.block 0 (ak [oj 6 .eql 4 2,om 5 6] (ct 5 (ch [mi 2 2,mi 3 0]) (ak [oj 8 .eql 4 5,om 7 8] (ct 7 (ch [mi 2 2,mi 3 1]) (ak [oj 10 .eql 4 7,om 9 10] (ct 9 (ch [mi 2 4,mi 3 2]) .skip)))))))) (ch [mi 2 0,mi 3 0])))⟩
def i78_l1:aq:=(ak [ot 19 .lss 18 17] (.seq (ll 19) (.seq (.block 1 (ak [om 20 18,om 7 20] (rt [of 21 1 5,dl 22 21 1,om 23 1,om 24 6,om 25 7,dt 26 .add 24 25 24,om 27 1,Nc 28 27 64,dt 29 .rem 26 28 248,di 30 7 23 29 508,df 31 0 30 1020,dx 32 6 31 2044,od 33 (.Yl 4992384768 44 6 [.t 32]) 4092,US 34 4992384832 44 6 48 22 33 8191,df 35 1 5 16383,qZ 1 35 34 32767]))) (rf [oj 36 .add 18 1,om 18 36]))))
def i78_r2:aq:=(ch [ox 37 2 5,os 2 4 37])
def i78:dD:=⟨38,[(4,some (some 2))],(ak [oo 4 (.alloc 4992000000 [il 0,.nils])] (ak [om 8 0,on 9 8,of 10 0 9,ol 11 10,oo 12 (.build [il 0,.nils] [(0,1,.t 11)]),oo 5 (.alloc 4992064320 [il 0,.nils]),os 2 5 12] (ak [om 13 1,oc 14 4992128064 103 [.t 13,.k (.one (.p (.fn 104 [] [])))],oo 15 (.max (.i 0) (.t 14)),om 6 15] (.seq (ak [om 16 1,oh 17 16,mi 18 0] (kM i78_l1)) i78_r2))))⟩
def i6:dD:=⟨17,[(2,some (some 2)),(3,none)],(ak [iZ 1 384000000 0,oo 2 (.alloc 384000064 [il 0,.nils]),mi 3 0] (ak [ox 7 2 1,oc 8 384064064 19 [.t 7],om 6 8,oe 9 6 0,oe 10 6 1,om 4 9,om 5 10] (.seq (ak [om 11 5,oj 12 .neq 11 0] (ct 12 (ch [oo 13 (.build [il 0,.nils] []),om 14 5,os 2 2 13,om 3 14]) .skip)) (ch [om 15 4,oc 16 384256064 20 [.t 15],os 2 2 16,mi 3 0]))))⟩
def i50_l1:aq:=(ak [ot 14 .lss 13 12] (.seq (ll 14) (.seq (.block 1 (ak [om 15 13,om 5 15] (jt [om 16 0,om 17 5,di 18 6 16 17 3,dx 19 6 18 7,om 20 1,om 21 5,di 22 6 20 21 48,dx 23 6 22 112,od 24 (.eqc (.str [true,true,true,true,true,false]) true (.t 19) (.t 23)) 255] (ct 24 (ch [mb 4 false]) .skip)))) (rf [oj 25 .add 13 1,om 13 25]))))
def i50_r2:aq:=(ch [mb 4 true])
def i50:dD:=⟨26,[(4,none)],(ak [mb 4 false] (.seq (ak [om 6 0,oh 7 6,om 8 1,oh 9 8,ot 10 .neq 7 9] (ct 10 (ch [mb 4 false]) .skip)) (.seq (ak [om 11 0,oh 12 11,mi 13 0] (kM i50_l1)) i50_r2)))⟩
def i91_l1:aq:=(ak [ot 21 .lss 20 19] (.seq (ll 21) (.seq (.block 1 (ak [om 22 20,oi 23 6 18 20,ox 24 6 23,oo 6 (.alloc 5824320192 [il 0,il 0,il 0,il 0,il 0,iz]),om 5 22,os 6 6 24] (.seq (ak [of 25 0 6,ol 26 25,oj 27 .eql 26 1] (ct 27 (rf [om 28 0,on 29 28,of 30 2 29,ol 31 30,om 32 5,oi 33 1 31 32,ol 34 33,om 4 34]) .skip)) (rf [om 35 3,om 36 5,om 37 4,oi 38 1 35 36,os 1 38 37])))) (rf [oj 39 .add 20 1,om 20 39]))))
def i91_r2:aq:=(ch [om 40 3,om 2 40])
def i91:dD:=⟨41,[(2,none)],(ak [kI 2] (ak [om 7 0,on 8 7,of 9 0 8,of 10 1 9,ol 11 10,oh 12 11,oo 13 (.Yx 5824064384 4 1 1 [iz] (.t 12) (.t 12)),om 3 13] (ak [mb 4 false] (.seq (ak [om 14 0,on 15 14,of 16 0 15,of 17 1 16,ol 18 17,oh 19 18,mi 20 0] (kM i91_l1)) i91_r2))))⟩
def i92_l1:aq:=(.seq (.block 1 (.seq (ak [om 38 12,om 39 9,ob 40 .mul (.i 2) (.t 39),ot 41 .lss 38 40] (ct 41 (.seq (ak [om 42 2,om 43 12,oi 44 1 42 43,ol 45 44] (ct 45 (.exit 0) .skip)) (ak [om 46 2,om 47 12,oi 48 1 46 47,op (.store 1 (.t 48) (.b true))] (ak [of 49 1 11,ol 50 49,om 51 12,oo 52 (.Yl 5888512192 3 1 [.t 51]),Me 53 5888512256 3 1 8 50 52,of 54 1 11,os 1 54 53] (.exit 1)))) .skip)) (ak [om 55 12,om 56 9,ob 57 .mul (.i 2) (.t 56),ot 58 .sub 55 57,oj 59 .quo 58 2,om 13 59] (ak [om 61 0,om 62 13,oc 63 5888640128 111 [.t 61,.t 62],om 60 63,oe 64 60 0,oe 65 60 1,om 14 64,om 15 65] (.seq (ak [om 66 12,oj 67 .rem 66 2,oj 68 .eql 67 1] (ct 68 (ak [om 69 14,oc 70 5888768064 112 [.t 69]] (rf [om 71 15,oc 72 5888832064 113 [.t 71]])) .skip)) (jt [of 73 2 11,dl 74 73 1,
 om 75 14,US 76 5888896192 167 2 16 74 75 7,of 77 3 11,dl 78 77 16,om 79 15,US 80 5888896448 3 1 8 78 79 127,df 81 2 11 63,qZ 1 81 76 511,df 82 3 11 1023,qZ 1 82 80 2047] (rf [of 83 4 11,ol 84 83,om 85 84,jl 86 13 85,jl 87 10 85,wX 88 .sub 87 1 85,Kd 89 .eql 86 88 85,mz 90 85 89,of 91 4 11,os 1 91 90]))))))) (rf [om 35 0,om 36 12,oc 37 5888256128 90 [.t 35,.t 36],om 12 37]))
def i92_r2:aq:=(ch [ox 92 5 11,os 5 8 92])
def i92:dD:=⟨93,[(8,some (some 5))],(ak [oo 8 (.alloc 5888000000 [iz,.nils,.nils,.nils,iz])] (jt [om 16 0,lm 17 16 1,df 18 0 17 3,df 19 1 18 7,dl 20 19 15,Nc 21 20 31,om 22 0,lm 23 22 64,df 24 3 23 192,dl 25 24 448,Nc 26 25 960,dm 9 21 63,dm 10 26 4095] (ak [om 27 3,om 28 1,oj 29 .quo 28 2,oi 30 1 27 29,ol 31 30,Az 32 31,oo 33 (.build [iz,.nils,.nils,.nils,iz] [(0,1,.t 32)]),oo 11 (.alloc 5888128448 [iz,.nils,.nils,.nils,iz]),os 5 11 33] (.seq .skip (.seq (ak [om 34 1,om 12 34] (kM i92_l1)) i92_r2)))))⟩
def i93:dD:=⟨11,[(3,none)],(ak [mb 3 false] (ch [om 4 0,oj 5 .geq 4 0,om 6 5,kY 7 0 6,jO 8 1 6,M9 9 .lss 7 8 6,ny 10 6 9,om 3 10]))⟩
def i94:dD:=⟨102,[(4,none),(5,none)],(ak [iZ 3 6016000000 1,kI 4,mb 5 false] (ak [om 12 0,of 13 1 3,ol 14 13,oc 15 6016064192 114 [.t 12,.t 14],om 11 15,oe 16 11 0,oe 17 11 1,oo 6 (.alloc 6016064448 [il 0]),oo 7 (.alloc 6016064512 [il 0]),os 1 6 16,os 1 7 17] (jt [om 18 0,lm 19 18 1,df 20 1 19 3,dl 21 20 7,ol 22 6,di 23 7 21 22 31,dx 24 7 23 63,om 25 0,lm 26 25 128,df 27 1 26 384,dl 28 27 896,ol 29 7,di 30 7 28 29 3968,dx 31 7 30 8064,oo 8 (.alloc 6016128896 [il 0,il 0,il 0,il 0,il 0,iz,iz]),oo 9 (.alloc 6016128960 [il 0,il 0,il 0,il 0,il 0,iz,iz]),qZ 7 8 24 49279,qZ 7 9 31 131071] (.seq (ak [of 32 0 8,of 33 0 32,ol 34 33,oj 35 .neq 34 1,om 36 35,mY 37 0 9 36,
 mY 38 0 37 36,rO 39 38 36,wX 40 .neq 39 1 36,mz 41 36 40,om 42 41,mY 43 0 8 42,mY 44 1 43 42,rO 45 44 42,mY 46 0 9 42,mY 47 1 46 42,rO 48 47 42,Kd 49 .neq 45 48 42,mz 50 42 49,om 51 50,mY 52 0 8 51,mY 53 2 52 51,rO 54 53 51,mY 55 0 9 51,mY 56 2 55 51,
 rO 57 56 51,gz_ 58 (.max (.t 54) (.t 57)) 51,mY 59 0 8 51,mY 60 2 59 51,rO 61 60 51,mY 62 0 9 51,mY 63 2 62 51,rO 64 63 51,gz_ 65 (.min (.t 61) (.t 64)) 51,Kd 66 .sub 58 65 51,wX 67 .neq 66 1 51,mz 68 51 67,om 69 68,jl 70 0 69,XA 71 70 69,mY 72 4 71 69,rO 73 72 69,wX 74 .leq 73 2 69,
 jl 75 74 69,kY 76 0 75,Uz 77 76 75,iQ 78 5 77 75,jO 79 78 75,Dy 80 .gtr 79 0 75,Iq 81 75 80 69,mz 82 69 81] (ct 82 (ch [kI 4,mb 5 false]) .skip)) (ak [om 83 0,on 84 83,of 85 1 84,ol 86 85,oo 87 (.mkfn 116 [] [.t 6,.t 7]),oc 88 6016320320 115 [.t 86,.t 87],om 10 88] (ak [om 89 10,of 90 0 8,of 91 1 90,ol 92 91,of 93 0 8,of 94 2 93,ol 95 94,of 96 0 9,of 97 2 96,ol 98 97,oo 99 (.max (.t 95) (.t 98)),oc 100 6016384704 117 [.t 89,.t 92,.t 99,.i (-2)]] (ch [om 101 10,om 4 101,mb 5 true])))))))⟩
def i95_l1:aq:=(ak [oj 41 .lss 40 2] (.seq (ll 41) (.seq (.block 1 (ak [om 42 40,om 9 42] (jt [om 43 0,lm 44 43 1,df 45 2 44 3,dl 46 45 7,om 47 0,lm 48 47 16,df 49 3 48 48,dl 50 49 112,of 51 1 3,dl 52 51 256,db 53 .mul (.i 2) (.t 52) 768,om 54 9,dt 55 .add 53 54 3840,di 56 1 50 55 8176,dl 57 56 16368,di 58 5 46 57 32767,dx 59 5 58 65535,oo 10 (.alloc 6080577088 [iz,.nils,.nils,.nils,iz]),qZ 5 10 59 262143] (.seq (ak [of 60 2 10,ol 61 60,ox 62 2 6,oc 63 6080640192 118 [.t 61,.t 62],Az 64 63] (ct 64 (.exit 1) .skip)) (.seq (ak [of 65 0 10,ol 66 65,om 67 9,oj 68 .eql 67 1,oo 69 (.eqc .bool true (.t 66) (.t 68))] (ct 69 (rf [of 70 0 8,of 71 2 70,ol 72 71,of 73 0 7,of 74 2 73,ol 75 74,of 76 0 7,of 77 2 76,os 1 77 72,
 of 78 0 8,of 79 2 78,os 1 79 75]) .skip)) (jt [of 80 0 10,dl 81 80 1,of 82 0 10,dl 83 82 4,Ws 84 83 12,df 85 6 7 3,qZ 1 85 81 35,df 86 6 8 127,qZ 1 86 84 255] (ak [om 87 0,on 88 87,of 89 1 88,ol 90 89,oc 91 6080896256 119 [.t 90],om 11 91] (ak [om 92 11,of 93 2 3,ol 94 93,of 95 3 3,ol 96 95,oc 97 6080960320 117 [.t 92,.t 94,.t 96,.i 2]] (ch [om 98 11,of 99 1 3,ol 100 99,ox 101 7 7,ox 102 7 8,oo 103 (.Yl 6081024320 129 7 [.t 101,.t 102]),oc 104 6081024384 120 [.t 98,.t 100,.t 103],om 4 104,mb 5 true]))))))))) (rf [oj 105 .add 40 1,om 40 105]))))
def i95_r2:aq:=(ch [kI 4,mb 5 false])
def i95:dD:=⟨106,[(4,none),(5,none)],(ak [iZ 3 6080000000 1,kI 4,mb 5 false] (ak [of 12 2 3,ol 13 12,of 14 3 3,ol 15 14,oo 16 (.build [il 0,il 0] [(0,1,.t 13),(1,1,.t 15)]),oo 6 (.alloc 6080064320 [il 0,il 0]),os 2 6 16] (ak [of 17 2 3,ol 18 17,of 19 3 3,ol 20 19,oj 21 .add 20 1,oo 22 (.build [il 0,il 0,il 0,il 0,il 0,iz] [(0,1,.i 1),(1,1,.t 18),(2,1,.t 21)]),oo 23 (.build [il 0,il 0,il 0,il 0,il 0,iz,iz] [(0,6,.t 22),(6,1,.b true)]),oo 7 (.alloc 6080128448 [il 0,il 0,il 0,il 0,il 0,iz,iz]),os 7 7 23] (ak [of 24 2 3,ol 25 24,of 26 3 3,ol 27 26,oj 28 .add 27 2,oo 29 (.build [il 0,il 0,il 0,il 0,il 0,iz] [(0,1,.i 1),(1,1,.t 25),(2,1,.t 28)]),oo 30 (.build [il 0,il 0,il 0,il 0,il 0,iz,iz] [(0,6,.t 29),(6,1,.b false)]),
 oo 8 (.alloc 6080192448 [il 0,il 0,il 0,il 0,il 0,iz,iz]),os 7 8 30] (.seq (ak [om 31 0,on 32 31,of 33 1 32,ol 34 33,oh 35 34,oj 36 .eql 35 0] (ct 36 (ch [ox 37 7 7,ox 38 7 8,oo 39 (.Yl 6080320128 129 7 [.t 37,.t 38]),om 4 39,mb 5 true]) .skip)) (.seq (ak [mi 40 0] (kM i95_l1)) i95_r2))))))⟩
def i96_l1:aq:=(ak [ot 119 .lss 118 117] (.seq (ll 119) (.seq (.block 1 (ak [oi 120 1 116 118,ol 121 120,om 16 121] (ak [om 123 0,om 124 16,oc 125 6144704128 114 [.t 123,.t 124],om 122 125,oe 126 122 0,oe 127 122 1,om 17 126,om 18 127] (rt [om 128 14,om 129 17,om 130 14,om 131 18,om 132 14,om 133 18,di 134 7 132 133 48,dx 135 7 134 112,om 136 14,om 137 17,di 138 7 136 137 768,dx 139 7 138 1792,di 140 7 128 129 4083,qZ 7 140 135 8179,di 141 7 130 131 16383,qZ 7 141 139 32767])))) (rf [oj 142 .add 118 1,om 118 142]))))
def i96_r2:aq:=(ch [om 143 14,om 4 143,mb 5 true])
def i96:dD:=⟨144,[(4,none),(5,none)],(ak [iZ 3 6144000000 1,kI 4,mb 5 false] (ak [om 20 0,of 21 1 3,ol 22 21,oc 23 6144064192 121 [.t 20,.t 22],om 19 23,oe 24 19 0,oe 25 19 1,oe 26 19 2,om 6 24,om 7 25,om 8 26] (ak [om 28 0,of 29 2 3,ol 30 29,oc 31 6144128192 121 [.t 28,.t 30],om 27 31,oe 32 27 0,oe 33 27 1,oe 34 27 2,om 9 32,om 10 33,om 11 34] (.seq (jt [om 35 8,Ws 36 35 1,dm 37 36 3,w8 38 11 37 7,Gu_ 39 38 37 15,tH 40 37 39 31,dm 41 40 63,w8 42 7 41 127,w8 43 10 41 127,Nd 44 .eql 42 43 41 511,tH 45 41 44 1023,dm 46 45 2047,w8 47 0 46 4095,
 Wu 48 47 46 8191,mW 49 1 48 46 16383,nY 50 49 46 32767,w8 51 7 46 4095,WD 52 7 50 51 46 131071,mW 53 0 52 46 262143,mW 54 3 53 46 524287,nY 55 54 46 1048575,w8 56 0 46 4095,Wu 57 56 46 2101247,mW 58 1 57 46 6295551,nY 59 58 46 14684159,w8 60 10 46 4095,WD 61 7 59 60 46 65015807,mW 62 0 61 46 132124671,mW 63 3 62 46 266342399,
 nY 64 63 46 534777855,Nd 65 .neq 55 64 46 1073741823,tH 66 46 65 2147483647,dm 67 66 4294967295,w8 68 0 67 8589934591,mW 69 1 3 67 8589934591,nY 70 69 67 25769803775,mW 71 2 3 67 8589934591,nY 72 71 67 77309411327,Gz_ 73 (.Yl 6144194432 3 1 [.t 70,.t 72]) 67 266287972351,UW 74 6144194496 122 [.t 68,.i 1,.t 73] 67 549755813887,Gu_ 75 74 67 1099511627775,tH 76 67 75 2199023255551] (ct 76 (ch [kI 4,
 mb 5 false]) .skip)) (jt [om 77 0,lm 78 77 1,df 79 1 78 3,dl 80 79 7,om 81 6,di 82 7 80 81 31,df 83 0 82 63,df 84 2 83 127,dl 85 84 255,om 86 0,lm 87 86 512,df 88 1 87 1536,dl 89 88 3584,om 90 9,di 91 7 89 90 15872,df 92 0 91 32256,df 93 2 92 65024,dl 94 93 130560,dm 12 85 511,dm 13 94 524287] (ak [om 95 0,on 96 95,of 97 1 96,ol 98 97,oc 99 6144384256 119 [.t 98],om 14 99] (ak [om 100 14,om 101 6,om 102 14,om 103 9,om 104 13,om 105 12,oi 106 7 100 101,of 107 0 106,of 108 2 107,os 1 108 104,oi 109 7 102 103,of 110 0 109,of 111 2 110,os 1 111 105] (.seq (ak [of 112 1 3,ol 113 112,of 114 2 3,ol 115 114,oo 116 (.Yl 6144512256 3 1 [.t 113,.t 115]),oh 117 116,mi 118 0] (kM i96_l1)) i96_r2))))))))⟩
def i97:dD:=⟨73,[(4,none),(5,none)],(ak [iZ 3 6208000000 1,kI 4,mb 5 false] (ak [om 9 0,of 10 1 3,ol 11 10,oc 12 6208064192 114 [.t 9,.t 11],om 8 12,oe 13 8 0,oe 14 8 1,om 6 13,om 7 14] (.seq (jt [om 15 0,lm 16 15 1,df 17 1 16 3,dl 18 17 7,om 19 6,di 20 7 18 19 31,df 21 0 20 63,df 22 0 21 127,dl 23 22 255,dj 24 .neq 23 2 511,dm 25 24 1023,w8 26 0 25 2047,Wu 27 26 25 4095,mW 28 1 27 25 8191,nY 29 28 25 16383,w8 30 7 25 2047,WD 31 7 29 30 25 65535,mW 32 0 31 25 131071,mW 33 0 32 25 262143,nY 34 33 25 524287,
 Ek 35 .neq 34 2 25 1048575,tH 36 25 35 2097151,dm 37 36 4194303,w8 38 0 37 8388607,Wu 39 38 37 16777215,mW 40 1 39 37 33554431,nY 41 40 37 67108863,w8 42 6 37 8388607,WD 43 7 41 42 37 268435455,mW 44 0 43 37 536870911,mW 45 3 44 37 1073741823,nY 46 45 37 2147483647,w8 47 0 37 8388607,Wu 48 47 37 4303355903,mW 49 1 48 37 12893290495,nY 50 49 37 30073159679,
 w8 51 7 37 8388607,WD 52 7 50 51 37 133152374783,mW 53 0 52 37 270591328255,mW 54 3 53 37 545469235199,nY 55 54 37 1095225049087,Nd 56 .neq 46 55 37 2199023255551,tH 57 37 56 4398046511103] (ct 57 (ch [kI 4,mb 5 false]) .skip)) (jt [om 58 0,lm 59 58 1,df 60 1 59 3,dl 61 60 7,om 62 0,lm 63 62 16,df 64 1 63 48,dl 65 64 112,om 66 6,di 67 7 65 66 496,df 68 0 67 1008,df 69 3 68 2032,dl 70 69 4080,od 71 (.Yl 6208256832 3 1 [.t 70]) 8176,dc 72 6208256896 123 [.t 61,.t 71] 16383,dm 4 72 32767,od 5 (.mov (.b true)) 65535] .ret))))⟩
def i98:dD:=⟨27,[(4,none),(5,none)],(ak [iZ 3 6272000000 1,kI 4,mb 5 false] (jt [om 6 0,lm 7 6 1,df 8 1 7 3,dl 9 8 7,of 10 1 3,dl 11 10 16,om 12 0,of 13 6 3,dl 14 13 128,of 15 5 3,dl 16 15 512,dc 17 6272064704 124 [.t 12,.i 1,.t 14,.t 16] 1984,om 18 0,of 19 6 3,dl 20 19 8192,of 21 5 3,dl 22 21 32768,Ws 23 22 98304,dc 24 6272065152 124 [.t 18,.i 1,.t 20,.t 23] 262080,od 25 (.Yl 6272065216 129 7 [.t 17,.t 24]) 524224,dc 26 6272065280 120 [.t 9,.t 11,.t 25] 1048575,dm 4 26 2097151,od 5 (.mov (.b true)) 4194303] .ret))⟩
def i99:dD:=⟨165,[(4,none),(5,none)],(ak [iZ 3 6336000000 1,kI 4,mb 5 false] (ak [om 13 0,on 14 13,of 15 1 14,ol 16 15,oh 17 16,om 6 17] (.seq (ak [om 18 0,of 19 1 3,ol 20 19,oc 21 6336128192 125 [.t 18,.t 20,.b true],om 22 21,kY 23 0 22,iQ 24 2 3 22,jO 25 24 22,Mj 26 6336128512 125 [.t 23,.t 25,.b false] 22,ny 27 22 26,om 28 27,jl 29 0 28,mY 30 1 3 28,rO 31 30 28,UB 32 6336128896 125 [.t 29,.t 31,.b false] 28,jl 33 32 28,
 kY 34 0 33,iQ 35 2 3 33,jO 36 35 33,Mj 37 6336129216 125 [.t 34,.t 36,.b true] 33,Iq 38 33 37 28,mz 39 28 38,Az 40 39] (ct 40 (ch [kI 4,mb 5 false]) .skip)) (ak [om 42 0,of 43 1 3,ol 44 43,oc 45 6336256192 114 [.t 42,.t 44],om 41 45,oe 46 41 0,oe 47 41 1,om 7 46,om 8 47] (ak [om 49 0,of 50 2 3,ol 51 50,oc 52 6336320192 114 [.t 49,.t 51],om 48 52,oe 53 48 0,oe 54 48 1,om 9 53,om 10 54] (jt [om 55 0,lm 56 55 1,df 57 1 56 3,dl 58 57 7,om 59 7,di 60 7 58 59 31,df 61 0 60 63,df 62 3 61 127,dl 63 62 255,om 64 0,lm 65 64 512,
 df 66 1 65 1536,dl 67 66 3584,om 68 8,di 69 7 67 68 15872,df 70 0 69 32256,df 71 3 70 65024,dl 72 71 130560,dm 11 63 511,dm 12 72 524287] (.seq (ak [om 73 11,om 74 12,ot 75 .eql 73 74,om 76 75,jl 77 0 76,XA 78 77 76,mY 79 1 78 76,rO 80 79 76,jl 81 9 76,gi_ 82 7 80 81 76,mY 83 0 82 76,mY 84 3 83 76,rO 85 84 76,jl 86 11 76,Kd 87 .eql 85 86 76,jl 88 87 76,kY 89 0 88,Uz 90 89 88,
 iQ 91 1 90 88,jO 92 91 88,kY 93 10 88,Pm 94 7 92 93 88,iQ 95 0 94 88,iQ 96 3 95 88,jO 97 96 88,kY 98 12 88,M9 99 .eql 97 98 88,Iq 100 88 99 76,jl 101 100 76,jl 102 0 101,XA 103 102 101,mY 104 1 103 101,rO 105 104 101,jl 106 9 101,gi_ 107 7 105 106 101,
 mY 108 0 107 101,mY 109 3 108 101,rO 110 109 101,jl 111 12 101,Kd 112 .eql 110 111 101,jl 113 112 101,kY 114 0 113,Uz 115 114 113,iQ 116 1 115 113,jO 117 116 113,kY 118 10 113,Pm 119 7 117 118 113,iQ 120 0 119 113,iQ 121 3 120 113,jO 122 121 113,kY 123 11 113,M9 124 .eql 122 123 113,
 Iq 125 113 124 101,gp_ 126 101 125 76,Wz 127 126 76,mz 128 76 127] (ct 128 (ch [kI 4,mb 5 false]) .skip)) (.seq (jt [of 129 1 3,dl 130 129 1,dj 131 .add 130 2 3,om 132 6,dt 133 .rem 131 132 15,of 134 2 3,dl 135 134 32,dt 136 .eql 133 135 127,dm 137 136 255,mW 138 2 3 137 511,nY 139 138 137 1023,Ek 140 .add 139 2 137 2047,w8 141 6 137 511,Nd 142 .rem 140 141 137 8191,mW 143 1 3 137 511,nY 144 143 137 16895,
 Nd 145 .eql 142 144 137 65535,tH 146 137 145 131071,dm 147 146 262143,w8 148 0 147 524287,mW 149 1 3 147 524287,nY 150 149 147 1572863,mW 151 2 3 147 524287,nY 152 151 147 4718591,Gz_ 153 (.Yl 6336577536 3 1 [.t 150,.t 152]) 147 16252927,UW 154 6336577600 122 [.t 148,.i 0,.t 153] 147 33554431,Gu_ 155 154 147 67108863,tH 156 147 155 134217727] (ct 156 (ch [kI 4,mb 5 false]) .skip)) (ch [om 157 0,on 158 157,of 159 1 158,ol 160 159,
 om 161 11,om 162 12,oo 163 (.Yl 6336704384 3 1 [.t 161,.t 162]),oc 164 6336704448 123 [.t 160,.t 163],om 4 164,mb 5 true])))))))))⟩
def i100:dD:=⟨121,[(4,none),(5,none)],(ak [iZ 3 6400000000 1,kI 4,mb 5 false] (ak [mi 6 1,oo 7 (.mov (.i (-1)))] (.seq (ak [of 12 4 3,ol 13 12] (ct 13 (rf [mi 6 0]) .skip)) (jt [om 14 0,lm 15 14 1,df 16 3 15 3,dl 17 16 7,of 18 1 3,dl 19 18 16,db 20 .mul (.i 2) (.t 19) 48,om 21 6,dt 22 .add 20 21 240,di 23 1 17 22 511,dl 24 23 1023,dm 8 24 2047] (jt [om 25 0,lm 26 25 1,df 27 3 26 3,dl 28 27 7,of 29 2 3,dl 30 29 16,db 31 .mul (.i 2) (.t 30) 48,om 32 6,dt 33 .add 31 32 240,di 34 1 28 33 511,dl 35 34 1023,om 36 8,dt 37 .eql 35 36 4095,dm 9 37 8191] (.seq (jt [om 38 9,Ws 39 38 1,dm 40 39 3,w7 41 0 40 7,Wt 42 41 40 15,r6 43 3 42 40 31,pP 44 43 40 63,
 r6 45 2 3 40 7,pP 46 45 40 135,Hz_ 47 (.bin .mul (.i 2) (.t 46)) 40 391,UV 48 .add 47 1 40 903,w7 49 6 40 7,UU 50 .sub 48 49 40 3975,Je 51 1 44 50 40 8191,pP 52 51 40 16383,w7 53 8 40 7,UU 54 .neq 52 53 40 65535,M4 55 40 54 131071] (ct 55 (ch [kI 4,mb 5 false]) .skip)) (.seq (ak [of 56 5 3,ol 57 56,om 58 9,of 59 4 3,ol 60 59,oo 61 (.eqc .bool false (.t 58) (.t 60)),oo 62 (.eqc .bool false (.t 57) (.t 61))] (ct 62 (rf [mi 7 1]) .skip)) (jt [om 63 0,
 om 64 7,of 65 5 3,dl 66 65 4,dc 67 6400640256 124 [.t 63,.i 1,.t 64,.t 66] 15,om 68 0,om 69 7,od 70 (.un .neg (.t 69)) 64,of 71 5 3,dl 72 71 256,dc 73 6400640640 124 [.t 68,.i 2,.t 70,.t 72] 1023,od 74 (.Yl 6400640704 129 7 [.t 67,.t 73]) 2047,dm 10 74 4095] (jt [om 75 0,om 76 7,of 77 5 3,dl 78 77 4,Ws 79 78 12,dc 80 6400704320 124 [.t 75,.i 1,.t 76,.t 79] 31,om 81 0,om 82 7,od 83 (.un .neg (.t 82)) 128,of 84 5 3,dl 85 84 512,Ws 86 85 1536,dc 87 6400704768 124 [.t 81,.i 2,.t 83,.t 86] 4095,od 88 (.Yl 6400704832 129 7 [.t 80,.t 87]) 8191,dm 11 88 16383] (.seq (ak [om 89 9] (ct 89 (rf [om 90 11,oc 91 6400832064 126 [.t 90]]) .skip)) (.seq (ak [of 92 1 3,ol 93 92,of 94 2 3,ol 95 94,ot 96 .lss 93 95] (ct 96 (jt [om 97 0,lm 98 97 1,df 99 1 98 3,dl 100 99 7,of 101 2 3,dl 102 101 16,
 om 103 11,dc 104 6400960448 120 [.t 100,.t 102,.t 103] 127,of 105 1 3,dl 106 105 256,om 107 10,dc 108 6400960704 120 [.t 104,.t 106,.t 107] 2047,dm 4 108 4095,od 5 (.mov (.b true)) 8191] .ret) .skip)) (jt [om 109 0,lm 110 109 1,df 111 1 110 3,dl 112 111 7,of 113 1 3,dl 114 113 16,om 115 10,dc 116 6401024448 120 [.t 112,.t 114,.t 115] 127,of 117 2 3,dl 118 117 256,om 119 11,dc 120 6401024704 120 [.t 116,.t 118,.t 119] 2047,dm 4 120 4095,od 5 (.mov (.b true)) 8191] .ret))))))))))))⟩
def i101_l1:aq:=(ak [ot 25 .lss 24 23] (.seq (ll 25) (.seq (.block 1 (ak [oi 26 1 22 24,ol 27 26,om 12 27] (ak [om 29 0,om 30 12,oc 31 6464448128 114 [.t 29,.t 30],om 28 31,oe 32 28 0,oe 33 28 1,om 13 32,om 14 33] (.seq (ak [om 34 0,on 35 34,of 36 1 35,ol 37 36,om 38 13,oi 39 7 37 38,of 40 0 39,of 41 0 40,ol 42 41,oj 43 .neq 42 2,om 44 43,jl 45 0 44,XA 46 45 44,mY 47 1 46 44,rO 48 47 44,jl 49 14 44,gi_ 50 7 48 49 44,mY 51 0 50 44,mY 52 0 51 44,rO 53 52 44,wX 54 .neq 53 2 44,
 mz 55 44 54] (ct 55 (ch [kI 4,mb 5 false]) .skip)) (ak [om 56 7,om 57 13,om 58 14,oo 59 (.Yl 6464640192 3 1 [.t 57,.t 58]),Me 60 6464640256 3 1 8 56 59,om 7 60] (jt [om 61 8,om 62 0,lm 63 62 2,df 64 1 63 6,dl 65 64 14,om 66 13,di 67 7 65 66 62,df 68 0 67 126,df 69 3 68 254,dl 70 69 510,om 71 0,lm 72 71 1024,df 73 1 72 3072,dl 74 73 7168,om 75 14,di 76 7 74 75 31744,df 77 0 76 64512,df 78 3 77 130048,dl 79 78 261120,od 80 (.Yl 6464705216 3 1 [.t 70,.t 79]) 524286,US 81 6464705280 3 1 8 61 80 1048575,dm 8 81 2097151] (rf [om 82 9,om 83 82,jl 84 0 83,jl 85 12 83,UB 86 6464768256 125 [.t 84,.t 85,.b true] 83,
 mz 87 83 86,om 88 10,om 89 88,jl 90 0 89,jl 91 12 89,UB 92 6464768640 125 [.t 90,.t 91,.b false] 89,mz 93 89 92,om 9 87,om 10 93]))))))) (rf [oj 94 .add 24 1,om 24 94]))))
def i101_r2:aq:=(ak [om 95 7,oc 96 6464896064 127 [.t 95]] (ak [om 97 8,oc 98 6464960064 127 [.t 97]] (.seq (ak [om 99 7,oc 100 6465024064 128 [.t 99],oh 101 100,oj 102 .neq 101 6,om 103 102,jl 104 8 103,UB 105 6465024384 128 [.t 104] 103,gh_ 106 105 103,wX 107 .neq 106 3 103,mz 108 103 107,om 109 108,jl 110 9 109,Wz 111 110 109,mz 112 109 111,om 113 112,jl 114 10 113,Wz 115 114 113,mz 116 113 115,om 117 116,jl 118 0 117,
 jl 119 6 117,UB 120 6465025344 122 [.t 118,.i 0,.t 119] 117,Wz 121 120 117,mz 122 117 121] (ct 122 (ch [kI 4,mb 5 false]) .skip)) (ch [om 123 0,om 124 6,oc 125 6465152128 129 [.t 123,.t 124],om 4 125,mb 5 true]))))
def i101:dD:=⟨126,[(4,none),(5,none)],(ak [iZ 3 6464000000 1,kI 4,mb 5 false] (ak [of 15 1 3,ol 16 15,of 17 2 3,ol 18 17,of 19 3 3,ol 20 19,oo 21 (.Yl 6464064384 3 1 [.t 16,.t 18,.t 20]),om 6 21] (ak [kI 7,kI 8] (ak [mb 9 false,mb 10 false] (.seq (ak [om 22 6,oh 23 22,mi 24 0] (kM i101_l1)) i101_r2)))))⟩
def i102:dD:=⟨125,[(4,none),(5,none)],(ak [iZ 3 6528000000 1,kI 4,mb 5 false] (jt [om 8 0,lm 9 8 1,df 10 1 9 3,dl 11 10 7,of 12 1 3,dl 13 12 16,di 14 7 11 13 63,dx 15 7 14 127,oo 6 (.alloc 6528064512 [il 0,il 0,il 0,il 0,il 0,iz,iz]),qZ 7 6 15 511] (.seq (ak [of 16 0 6,of 17 0 16,ol 18 17,oj 19 .neq 18 1] (ct 19 (ch [kI 4,mb 5 false]) .skip)) (ak [om 20 0,on 21 20,of 22 1 21,ol 23 22,oc 24 6528256256 119 [.t 23],om 7 24] (.seq (.block 0 (jt [of 26 0 3,dl 27 26 1,dj 28 .eql 27 9 3,dm 29 28 7,r6 30 0 6 29 15,r6 31 1 30 29 31,pP 32 31 29 63,w7 33 0 29 15,
 Wt 34 33 29 143,r6 35 0 34 29 399,pP 36 35 29 911,UU 37 .lss 32 36 29 2047,M4 38 29 37 4095,dm 39 38 8191,r6 40 0 6 39 16383,r6 41 2 40 39 32767,pP 42 41 39 65535,w7 43 0 39 16383,Wt 44 43 39 147455,r6 45 6 44 39 409599,pP 46 45 39 933887,r6 47 0 6 39 16383,r6 48 1 47 39 2113535,pP 49 48 39 6307839,Je 50 1 46 49 39 16662527,
 pP 51 50 39 33439743,UU 52 .eql 42 51 39 67108863,M4 53 39 52 134217727,dm 25 53 268435455] (ct 25 (ak [om 54 7,of 55 0 6,of 56 1 55,ol 57 56,oj 58 .add 57 1,oc 59 6528448320 117 [.t 54,.t 58,.i 0,.i 1]] (rt [om 60 7,of 61 1 3,dl 62 61 2,om 63 7,of 64 1 3,dl 65 64 16,of 66 0 6,df 67 1 66 64,dl 68 67 192,dj 69 .add 68 1 448,di 70 7 60 62 967,df 71 0 70 1991,df 72 1 71 4039,qZ 1 72 69 8135,di 73 7 63 65 16383,df 74 0 73 32767,df 75 2 74 65535,⟨none,.store 1 (.t 75) (.i 1),none,131071⟩])) (ak [of 77 0 3,ol 78 77,oj 79 .eql 78 10,om 80 79,iQ 81 0 6 80,iQ 82 1 81 80,jO 83 82 80,Dy 84 .gtr 83 0 80,
 ny 85 80 84,om 86 85,iQ 87 0 6 86,iQ 88 2 87 86,jO 89 88 86,Dy 90 .eql 89 1 86,ny 91 86 90,om 76 91] (ct 76 (ak [om 92 7,of 93 0 6,of 94 1 93,ol 95 94,oc 96 6528640256 117 [.t 92,.t 95,.i 1,.i (-1)]] (rt [om 97 7,of 98 1 3,dl 99 98 2,om 100 7,of 101 1 3,dl 102 101 16,of 103 0 6,df 104 1 103 64,dl 105 104 192,dj 106 .sub 105 1 448,om 107 0,lm 108 107 1024,df 109 6 108 3072,dl 110 109 7168,of 111 0 6,df 112 1 111 16384,dl 113 112 49152,dj 114 .sub 113 1 114688,di 115 1 110 114 261120,dl 116 115 523264,dj 117 .add 116 1 1047552,di 118 7 97 99 1048519,df 119 0 118 3145671,df 120 1 119 7339975,qZ 1 120 106 15728583,di 121 7 100 102 33554431,
 df 122 0 121 67108863,df 123 2 122 134217727,qZ 1 123 117 268435455])) (ch [kI 4,mb 5 false])))))) (ch [om 124 7,om 4 124,mb 5 true]))))))⟩
def i103_l1:aq:=(ak [ot 9 .lss 8 7] (.seq (ll 9) (.seq (.block 1 (ak [om 10 8,om 5 10] (ak [om 11 1,om 12 0,om 13 5,oi 14 7 12 13,ox 15 7 14,oo 16 (.call 6592256320 (.t 11) [.t 15])] (ct 16 (ch [om 17 5,om 4 17]) .skip)))) (rf [oj 18 .add 8 1,om 8 18]))))
def i103_r2:aq:=(ch [oo 4 (.mov (.i (-1)))])
def i103:dD:=⟨19,[(4,none)],(ak [mi 4 0] (.seq (ak [om 6 0,oh 7 6,mi 8 0] (kM i103_l1)) i103_r2))⟩
def i104:dD:=⟨11,[(2,none)],(ak [iZ 1 6656000000 0,mb 2 false] (ch [of 3 0 1,of 4 0 3,ol 5 4,oj 6 .eql 5 1,om 7 6,iQ 8 6 1 7,jO 9 8 7,ny 10 7 9,om 2 10]))⟩
def i20_l1:aq:=(ak [ot 26 .lss 25 24] (.seq (ct 26 .skip (.exit 2)) (.seq (.block 3 (ak [om 27 25,oi 28 6 23 25,ox 29 6 28,oo 8 (.alloc 1280512192 [il 0,il 0,il 0,il 0,il 0,iz]),om 7 27,os 6 8 29] (.seq (ak [of 30 0 8,ol 31 30,oj 32 .neq 31 1] (ct 32 (.exit 3) .skip)) (.seq (ak [om 33 6] (ct 33 (ak [om 34 5,om 35 7,oc 36 1280704128 44 [.t 34,.t 35],oc 37 1280704192 43 [.t 36],om 9 37] (ak [om 38 3,oo 39 (.eqc .slc false (.t 38) (.k (.one (.p (.nils))))),om 40 39,jl 41 9 40,jl 42 3 40,UB 43 1280768320 45 [.t 41,.t 42] 40,mz 44 40 43] (ct 44 (rf [om 45 9,om 3 45]) .skip))) .skip)) (rf [om 46 6,Az 47 46,om 6 47]))))) (rf [oj 48 .add 25 1,
 om 25 48]))))
def i20_r2:aq:=(rf [oj 49 .add 19 1,om 19 49])
def i20_l3:aq:=(ak [ot 20 .lss 19 18] (.seq (ll 20) (.seq (.block 1 (ak [oi 21 1 17 19,ol 22 21,om 5 22] (ak [mb 6 true] (ak [om 23 5,oh 24 23,mi 25 0] (.block 2 (.loop i20_l1)))))) i20_r2)))
def i20_r4:aq:=(ch [om 50 0,on 51 50,of 52 0 51,of 53 0 52,ol 54 53,om 55 3,oo 56 (.build [il 0,.nils] [(0,1,.t 54),(1,1,.t 55)]),os 2 2 56])
def i20:dD:=⟨57,[(2,some (some 2))],(ak [oo 2 (.alloc 1280000000 [il 0,.nils])] (ak [kI 3] (.seq (jt [om 10 0,lm 11 10 1,df 12 0 11 3,df 13 1 12 7,dl 14 13 15,om 15 0,dc 16 1280128384 42 [.t 15] 32,od 17 (.Yl 1280128448 22 1 [.t 14,.t 16]) 127,Nc 18 17 255,mi 19 0] (kM i20_l3)) i20_r4)))⟩
def i111:dD:=⟨98,[(4,none),(5,none)],(ak [kI 4,kI 5] (ak [om 14 0,on 15 14,of 16 3 15,ol 17 16,oh 18 17,om 6 18] (jt [om 19 0,lm 20 19 1,df 21 0 20 3,df 22 1 21 7,dl 23 22 15,om 24 0,lm 25 24 32,df 26 3 25 96,dl 27 26 224,om 28 1,di 29 1 27 28 992,dl 30 29 2016,di 31 6 23 30 4095,dx 32 6 31 8191,om 33 0,lm 34 33 16384,df 35 0 34 49152,df 36 1 35 114688,dl 37 36 245760,om 38 0,lm 39 38 524288,df 40 3 39 1572864,dl 41 40 3670016,om 42 1,dj 43 .add 42 1 8388608,om 44 6,dt 45 .rem 43 44 58720256,di 46 1 41 45 133693440,dl 47 46 267911168,di 48 6 37 47 536854528,dx 49 6 48 1073725440,oo 7 (.alloc 7104129984 [il 0,il 0,il 0,il 0,il 0,iz]),oo 8 (.alloc 7104130048 [il 0,il 0,il 0,il 0,il 0,iz]),qZ 6 7 32 6442467327,
 qZ 6 8 49 17179869183] (ak [of 50 1 7,ol 51 50,of 52 2 7,ol 53 52,oo 54 (.build [il 0,il 0] [(0,1,.t 51),(1,1,.t 53)]),oo 9 (.alloc 7104192320 [il 0,il 0]),os 2 9 54] (ak [of 55 1 8,ol 56 55,of 57 2 8,ol 58 57,oj 59 .sub 58 1,oo 60 (.build [il 0,il 0] [(0,1,.t 56),(1,1,.t 59)]),oo 10 (.alloc 7104256384 [il 0,il 0]),os 2 10 60] (.seq (ak [om 61 1,om 62 6,oj 63 .sub 62 1,ot 64 .lss 61 63] (ct 64 (ch [ox 65 2 9,ox 66 2 10,oc 67 7104384128 136 [.t 65,.t 66,.k (.one (.p (.nils))),.k (.one (.p (.nils)))],oe 68 67 0,oe 69 67 1,om 4 68,om 5 69]) .skip)) (ak [om 70 0,on 71 70,of 72 0 71,of 73 0 72,ol 74 73,oo 75 (.build [il 0,il 0] [(0,1,.t 74)]),oo 11 (.alloc 7104448384 [il 0,il 0]),os 2 11 75] (.seq (jt [of 76 1 7,dl 77 76 1,om 78 0,lm 79 78 4,df 80 0 79 12,df 81 0 80 28,dl 82 81 60,
 dt 83 .eql 77 82 127] (ct 83 (rf [ox 84 2 9,os 2 11 84]) .skip)) (ak [ox 86 2 9,ox 87 2 11,oc 88 7104640128 136 [.t 86,.t 87,.k (.one (.p (.nils))),.k (.one (.p (.nils)))],om 85 88,oe 89 85 0,oe 90 85 1,om 12 89,om 13 90] (ch [oo 91 (.build [il 0,il 0] []),ox 92 2 10,om 93 12,om 94 13,oc 95 7104704256 136 [.t 91,.t 92,.t 93,.t 94],oe 96 95 0,oe 97 95 1,om 4 96,om 5 97]))))))))))⟩
def i112_l1:aq:=(.seq (ak [om 7 2,om 8 3,ot 9 .lss 7 8] (ll 9)) (.seq (.block 1 (rt [om 14 0,om 15 2,om 16 0,om 17 3,om 18 0,om 19 3,di 20 2 18 19 48,dx 21 2 20 112,om 22 0,om 23 2,di 24 2 22 23 768,dx 25 2 24 1792,di 26 2 14 15 4083,qZ 2 26 21 8179,di 27 2 16 17 16383,qZ 2 27 25 32767])) (rf [om 10 2,oj 11 .add 10 1,om 12 3,oj 13 .sub 12 1,om 2 11,om 3 13])))
def i112:dD:=⟨28,[],(ak [om 4 0,oh 5 4,oj 6 .sub 5 1,mi 2 0,om 3 6] (kM i112_l1))⟩
def i113_l1:aq:=(.seq (ak [om 7 2,om 8 3,ot 9 .lss 7 8] (ll 9)) (.seq (.block 1 (rt [om 14 0,om 15 2,om 16 0,om 17 3,om 18 0,om 19 3,di 20 1 18 19 48,dl 21 20 112,om 22 0,om 23 2,di 24 1 22 23 768,dl 25 24 1792,di 26 1 14 15 4083,qZ 1 26 21 8179,di 27 1 16 17 16383,qZ 1 27 25 32767])) (rf [om 10 2,oj 11 .add 10 1,om 12 3,oj 13 .sub 12 1,om 2 11,om 3 13])))
def i113:dD:=⟨28,[],(ak [om 4 0,oh 5 4,oj 6 .sub 5 1,mi 2 0,om 3 6] (kM i113_l1))⟩
def i114:dD:=⟨15,[(4,none),(5,none)],(ak [mi 4 0,mi 5 0] (jt [om 6 1,om 7 1,dj 8 .add 7 1 2,om 9 0,lm 10 9 8,df 11 1 10 24,dl 12 11 56,Nc 13 12 120,dt 14 .rem 8 13 254,dm 4 6 1,dm 5 14 1023] .ret))⟩
def i115_l1:aq:=(ak [ot 11 .lss 10 9] (.seq (ll 11) (.seq (.block 1 (ak [om 12 10,oi 13 7 8 10,ox 14 7 13,oo 7 (.alloc 7360256192 [il 0,il 0,il 0,il 0,il 0,iz,iz]),om 6 12,os 7 7 14] (ak [om 15 1,om 16 6,ox 17 7 7,oo 18 (.call 7360320192 (.t 15) [.t 16,.t 17]),Az 19 18] (ct 19 (rf [om 20 5,ox 21 7 7,oo 22 (.Yl 7360384128 129 7 [.t 21]),Me 23 7360384192 129 7 56 20 22,om 5 23]) .skip)))) (rf [oj 24 .add 10 1,om 10 24]))))
def i115_r2:aq:=(ch [om 25 5,om 4 25])
def i115:dD:=⟨26,[(4,none)],(ak [kI 4] (ak [kI 5] (.seq (ak [om 8 0,oh 9 8,mi 10 0] (kM i115_l1)) i115_r2)))⟩
def i117_l1:aq:=(ak [ot 12 .lss 11 10] (.seq (ll 12) (.seq (.block 1 (ak [om 13 11,om 8 13] (ak [om 14 0,om 15 8,oi 16 7 14 15,of 17 0 16,of 18 0 17,ol 19 18,oj 20 .eql 19 1,om 21 20,kY 22 0 21,kY 23 8 21,Pm 24 7 22 23 21,iQ 25 0 24 21,iQ 26 1 25 21,jO 27 26 21,kY 28 1 21,M9 29 .eql 27 28 21,ny 30 21 29,om 31 30,kY 32 0 31,kY 33 8 31,Pm 34 7 32 33 31,iQ 35 0 34 31,
 iQ 36 2 35 31,jO 37 36 31,kY 38 2 31,M9 39 .gtr 37 38 31,ny 40 31 39] (ct 40 (rf [om 41 0,om 42 8,oi 43 7 41 42,of 44 0 43,of 45 2 44,ol 46 45,om 47 3,ot 48 .add 46 47,oi 49 7 41 42,of 50 0 49,of 51 2 50,os 1 51 48]) .skip)))) (rf [oj 52 .add 11 1,om 11 52]))))
def i117:dD:=⟨53,[],(ak [om 9 0,oh 10 9,mi 11 0] (kM i117_l1))⟩
def i116:dD:=⟨15,[(6,none)],(ak [iZ 5 7424000000 1,mb 6 false] (ch [om 7 0,ol 8 2,ot 9 .eql 7 8,om 10 9,jl 11 0 10,rO 12 3 10,Kd 13 .eql 11 12 10,mz 14 10 13,om 6 14]))⟩
def i118:dD:=⟨9,[(4,none)],(ak [iZ 3 7552000000 1,mb 4 false] (ch [om 5 0,ox 6 2 3,oc 7 7552064128 137 [.t 5,.t 6],oj 8 .geq 7 0,om 4 8]))⟩
def i119:dD:=⟨8,[(2,none)],(ak [kI 2] (.seq (ak [om 3 0,oo 4 (.eqc .slc false (.t 3) (.k (.one (.p (.nils)))))] (ct 4 (ch [kI 2]) .skip)) (ch [oo 5 (.Yl 7616192000 129 7 []),om 6 0,Me 7 7616192128 129 7 56 5 6,om 2 7])))⟩
def i120:dD:=⟨22,[(6,none)],(ak [kI 6] (ak [om 8 0,om 9 1,oj 10 .add 9 1,oo 11 (.slice 7 (.t 8) none (some (.t 10))),oo 12 (.append 7680064256 129 7 56 (.k (.one (.p (.nils)))) (.t 11)),om 7 12] (ak [om 13 7,om 14 2,Me 15 7680128128 129 7 56 13 14,om 7 15] (ch [om 16 7,om 17 0,om 18 1,oj 19 .add 18 1,oo 20 (.slice 7 (.t 17) (some (.t 19)) none),Me 21 7680192320 129 7 56 16 20,om 6 21]))))⟩
def i121:dD:=⟨51,[(4,none),(5,none),(6,none)],(ak [mi 4 0,mi 5 0,mb 6 false] (ak [om 10 0,om 11 1,oc 12 7744064128 114 [.t 10,.t 11],om 9 12,oe 13 9 0,oe 14 9 1,om 7 13,om 8 14] (.seq (ak [om 15 0,on 16 15,of 17 1 16,ol 18 17,om 19 7,oi 20 7 18 19,of 21 0 20,of 22 0 21,ol 23 22,oj 24 .eql 23 2] (ct 24 (rf [om 25 8,om 26 7,om 7 25,om 8 26]) .skip)) (jt [om 27 7,om 28 8,om 29 0,lm 30 29 4,df 31 1 30 12,dl 32 31 28,om 33 7,di 34 7 32 33 124,df 35 0 34 252,df 36 0 35 508,dl 37 36 1020,dj 38 .eql 37 1 2044,dm 39 38 4092,w7 40 0 39 8188,Wt 41 40 39 16380,r6 42 1 41 39 32764,pP 43 42 39 65532,w7 44 8 39 8188,Je 45 7 43 44 39 262140,
 r6 46 0 45 39 524284,r6 47 0 46 39 1048572,pP 48 47 39 2097148,UV 49 .eql 48 2 39 4194300,M4 50 39 49 8388604,dm 4 27 8189,dm 5 28 16785407,dm 6 50 67108863] .ret))))⟩
def i122:dD:=⟨31,[(6,none)],(ak [iZ 3 7808000000 0,iZ 4 7808000064 1,iZ 5 7808000128 2,mb 6 false] (jt [ol 7 3,lm 8 7 1,df 9 3 8 3,dl 10 9 7,ol 11 5,od 12 (.Zc 1 (.t 11) (.i 0)) 16,dl 13 12 48,db 14 .mul (.i 2) (.t 13) 112,di 15 1 10 14 255,dl 16 15 511,ol 17 3,lm 18 17 1024,df 19 3 18 3072,dl 20 19 7168,ol 21 5,od 22 (.Zc 1 (.t 21) (.i 0)) 16384,dl 23 22 49152,db 24 .mul (.i 2) (.t 23) 114688,dj 25 .add 24 1 245760,di 26 1 20 25 523264,dl 27 26 1047552,od 28 (.Yl 7808065344 3 1 [.t 16,.t 27]) 2097151,oo 29 (.mkfn 139 [] [.t 3,.t 5,.t 4]),dc 30 7808065472 138 [.t 28,.t 29] 8388607,dm 6 30 16777215] .ret))⟩
def i123_l1:aq:=(ak [ot 27 .lss 26 25] (.seq (ct 27 .skip (.exit 2)) (.seq (.block 3 (ak [oi 28 1 24 26,ol 29 28,om 9 29] (ak [of 30 0 7,of 31 3 30,ol 32 31,om 33 9,ot 34 .gtr 32 33] (ct 34 (rf [om 35 5,om 36 6,oi 37 7 35 36,of 38 0 37,of 39 3 38,ol 40 39,oj 41 .sub 40 1,oi 42 7 35 36,of 43 0 42,of 44 3 43,os 1 44 41]) .skip)))) (rf [oj 45 .add 26 1,om 26 45]))))
def i123_r2:aq:=(rf [oj 46 .add 15 1,om 15 46])
def i123_l3:aq:=(ak [ot 16 .lss 15 14] (.seq (ll 16) (.seq (.block 1 (ak [om 17 15,oi 18 7 13 15,ox 19 7 18,oo 7 (.alloc 7872256192 [il 0,il 0,il 0,il 0,il 0,iz,iz]),om 6 17,os 7 7 19] (.seq (ak [of 20 0 7,of 21 0 20,ol 22 21,oj 23 .neq 22 2] (ct 23 (.exit 1) .skip)) (ak [ol 24 3,oh 25 24,mi 26 0] (.block 2 (.loop i123_l1)))))) i123_r2)))
def i123_r4:aq:=(ch [om 47 5,om 4 47])
def i123:dD:=⟨48,[(4,none)],(ak [iZ 3 7872000000 1,kI 4] (ak [om 10 0,oo 11 (.mkfn 140 [] [.t 3]),oc 12 7872064128 115 [.t 10,.t 11],om 5 12] (.seq (ak [om 13 5,oh 14 13,mi 15 0] (kM i123_l3)) i123_r4)))⟩
def i124:dD:=⟨19,[(8,some (some 7))],(ak [oo 8 (.alloc 7936000000 [il 0,il 0,il 0,il 0,il 0,iz,iz])] (ch [om 9 0,on 10 9,of 11 5 10,ol 12 11,om 13 1,ot 14 .add 12 13,om 15 2,om 16 3,oo 17 (.build [il 0,il 0,il 0,il 0,il 0,iz] [(0,1,.i 2),(3,1,.t 14),(4,1,.t 15),(5,1,.t 16)]),oo 18 (.build [il 0,il 0,il 0,il 0,il 0,iz,iz] [(0,6,.t 17)]),os 7 8 18]))⟩
def i125:dD:=⟨63,[(6,none)],(ak [mb 6 false] (ak [om 10 0,om 11 1,oc 12 8000064128 114 [.t 10,.t 11],om 9 12,oe 13 9 0,oe 14 9 1,om 7 13,om 8 14] (ch [om 15 0,on 16 15,of 17 1 16,ol 18 17,om 19 7,oi 20 7 18 19,of 21 0 20,of 22 0 21,ol 23 22,oj 24 .eql 23 2,om 25 24,kY 26 0 25,Uz 27 26 25,iQ 28 1 27 25,jO 29 28 25,kY 30 8 25,Pm 31 7 29 30 25,iQ 32 0 31 25,iQ 33 0 32 25,jO 34 33 25,Dy 35 .eql 34 2 25,ny 36 25 35,om 37 36,kY 38 0 37,
 Uz 39 38 37,iQ 40 1 39 37,jO 41 40 37,kY 42 7 37,Pm 43 7 41 42 37,iQ 44 0 43 37,iQ 45 5 44 37,jO 46 45 37,kY 47 2 37,Mi 48 (.eqc .bool false (.t 46) (.t 47)) 37,ny 49 37 48,om 50 49,kY 51 0 50,Uz 52 51 50,iQ 53 1 52 50,jO 54 53 50,kY 55 8 50,Pm 56 7 54 55 50,iQ 57 0 56 50,
 iQ 58 5 57 50,jO 59 58 50,kY 60 2 50,Mi 61 (.eqc .bool false (.t 59) (.t 60)) 50,ny 62 50 61,om 6 62])))⟩
def i126_l1:aq:=(.seq (ak [om 7 2,om 8 3,ot 9 .lss 7 8] (ll 9)) (.seq (.block 1 (rt [om 14 0,om 15 2,om 16 0,om 17 3,om 18 0,om 19 3,di 20 7 18 19 48,dx 21 7 20 112,om 22 0,om 23 2,di 24 7 22 23 768,dx 25 7 24 1792,di 26 7 14 15 4083,qZ 7 26 21 8179,di 27 7 16 17 16383,qZ 7 27 25 32767])) (rf [om 10 2,oj 11 .add 10 1,om 12 3,oj 13 .sub 12 1,om 2 11,om 3 13])))
def i126:dD:=⟨28,[],(ak [om 4 0,oh 5 4,oj 6 .sub 5 1,mi 2 0,om 3 6] (kM i126_l1))⟩
def i127:dD:=⟨11,[],(ak [om 3 0,oh 4 3,om 2 4] (rf [om 5 0,om 6 2,om 7 2,oo 8 (.conv .u64 (.t 7)),oc 9 8128064256 143 [.t 8],oc 10 8128064320 142 [.t 5,.i 0,.t 6,.t 9]]))⟩
def i128_l1:aq:=(.seq (ak [om 29 5,om 30 4,oh 31 30,ot 32 .lss 29 31] (ct 32 .skip (.exit 2))) (.seq (.block 3 (jt [om 35 4,om 36 5,di 37 1 35 36 3,dl 38 37 7,om 39 4,om 40 5,dj 41 .sub 40 1 32,di 42 1 39 41 112,dl 43 42 240,dt 44 .neq 38 43 511] (ct 44 (ak [om 45 0,om 46 3,om 47 4,om 48 5,oi 49 1 47 48,ol 50 49,oi 51 1 45 46,os 1 51 50] (rf [om 52 3,oj 53 .add 52 1,om 3 53])) .skip))) (rf [om 33 5,oj 34 .add 33 1,om 5 34])))
def i128_r2:aq:=(ak [om 54 0,om 55 3,oo 56 (.slice 1 (.t 54) (some (.t 55)) none),op (.clear [il 0] (.t 56))] (ch [om 57 0,om 58 3,oo 59 (.slice 1 (.t 57) none (some (.t 58))),om 2 59]))
def i128_r3:aq:=(rf [om 14 3,oj 15 .add 14 1,om 3 15])
def i128_l4:aq:=(.seq (ak [om 10 3,om 11 0,oh 12 11,ot 13 .lss 10 12] (ll 13)) (.seq (.block 1 (jt [om 16 0,om 17 3,di 18 1 16 17 3,dl 19 18 7,om 20 0,om 21 3,dj 22 .sub 21 1 32,di 23 1 20 22 112,dl 24 23 240,dt 25 .eql 19 24 511] (ct 25 (ak [om 26 0,om 27 3,oo 28 (.slice 1 (.t 26) (some (.t 27)) none),om 4 28] (.seq (ak [mi 5 1] (.block 2 (.loop i128_l1))) i128_r2)) .skip))) i128_r3))
def i128_r5:aq:=(ch [om 60 0,om 2 60])
def i128:dD:=⟨61,[(2,none)],(ak [kI 2] (.seq (ak [om 6 0,oh 7 6,oj 8 .lss 7 2] (ct 8 (ch [om 9 0,om 2 9]) .skip)) (.seq (ak [mi 3 1] (kM i128_l4)) i128_r5)))⟩
def i129_l1:aq:=(ak [ot 18 .lss 17 16] (.seq (ll 18) (.seq (.block 1 (ak [oi 19 1 15 17,ol 20 19,om 7 20] (ak [om 22 0,om 23 7,oc 24 8256320128 114 [.t 22,.t 23],om 21 24,oe 25 21 0,oe 26 21 1,om 8 25,om 9 26] (rt [om 27 5,om 28 8,om 29 5,om 30 9,om 31 5,om 32 9,di 33 7 31 32 48,dx 34 7 33 112,om 35 5,om 36 8,di 37 7 35 36 768,dx 38 7 37 1792,di 39 7 27 28 4083,qZ 7 39 34 8179,di 40 7 29 30 16383,qZ 7 40 38 32767])))) (rf [oj 41 .add 17 1,om 17 41]))))
def i129_r2:aq:=(ch [om 42 5,om 4 42])
def i129:dD:=⟨43,[(4,none)],(ak [kI 4] (ak [om 10 0,on 11 10,of 12 1 11,ol 13 12,oc 14 8256064256 119 [.t 13],om 5 14] (.seq (ak [om 15 1,oh 16 15,mi 17 0] (kM i129_l1)) i129_r2)))⟩
def i42_l1:aq:=(ak [ot 17 .lss 16 15] (.seq (ll 17) (.seq (.block 1 (ak [om 18 16,om 4 18] (ak [om 19 3,oh 20 19,oj 21 .sub 20 1,om 22 4,ot 23 .sub 21 22,om 5 23] (ak [om 24 3,om 25 4,oi 26 6 24 25,of 27 0 26,ol 28 27,oj 29 .eql 28 1,om 30 29,kY 31 0 30,Uz 32 31 30,iQ 33 2 32 30,jO 34 33 30,kY 35 5 30,Pm 36 1 34 35 30,jO 37 36 30,Xy 38 37 30,ny 39 30 38] (ct 39 (ch [om 40 3,om 41 4,oc 42 2688512128 44 [.t 40,.t 41],om 2 42]) .skip))))) (rf [oj 43 .add 16 1,om 16 43]))))
def i42_r2:aq:=(ch [om 44 3,om 2 44])
def i42:dD:=⟨45,[(2,none)],(ak [kI 2] (ak [om 6 0,on 7 6,of 8 0 7,of 9 1 8,ol 10 9,oc 11 2688064320 22 [.t 10],om 3 11] (ak [om 12 3,oc 13 2688128064 70 [.t 12]] (.seq (ak [om 14 3,oh 15 14,mi 16 0] (kM i42_l1)) i42_r2))))⟩
def i44:dD:=⟨13,[(4,none)],(ak [kI 4] (jt [om 5 0,om 6 1,od 7 (.slice 6 (.t 5) (some (.t 6)) none) 3,od 8 (.append 2816064192 44 6 48 (.k (.one (.p (.nils)))) (.t 7)) 7,om 9 0,om 10 1,od 11 (.slice 6 (.t 9) none (some (.t 10))) 48,US 12 2816064448 44 6 48 8 11 127,dm 4 12 255] .ret))⟩
def i43_l1:aq:=(ak [ot 13 .lss 12 11] (.seq (ll 13) (.seq (.block 1 (ak [om 14 12,oi 15 6 10 12,ox 16 6 15,oo 6 (.alloc 2752320192 [il 0,il 0,il 0,il 0,il 0,iz]),om 5 14,os 6 6 16] (.seq (ak [of 17 0 6,ol 18 17,oj 19 .neq 18 2] (ct 19 (.exit 1) .skip)) (.seq (ak [om 20 3,of 21 3 6,ol 22 21,oo 23 (.lookup 0 [il 0] false false (.t 20) (.t 22)),oj 24 .eql 23 0] (ct 24 (rf [om 25 3,of 26 3 6,ol 27 26,om 28 3,oo 29 (.mlen (.t 28)),oj 30 .add 29 1,op (.mupd 0 false (.t 25) (.t 27) (.t 30))]) .skip)) (rf [om 31 4,om 32 5,om 33 3,of 34 3 6,ol 35 34,oo 36 (.lookup 0 [il 0] false false (.t 33) (.t 35)),oi 37 6 31 32,of 38 3 37,os 1 38 36]))))) (rf [oj 39 .add 12 1,om 12 39]))))
def i43_r2:aq:=(ch [om 40 4,om 2 40])
def i43:dD:=⟨41,[(2,none)],(ak [kI 2] (ak [oo 7 (.mkmap 2752064000 false),om 3 7] (ak [om 8 0,oc 9 2752128064 22 [.t 8],om 4 9] (.seq (ak [om 10 4,oh 11 10,mi 12 0] (kM i43_l1)) i43_r2))))⟩
def i45_l1:aq:=(ak [ot 9 .lss 8 7] (.seq (ll 9) (.seq (.block 1 (ak [om 10 8,om 5 10] (.seq (jt [om 11 0,om 12 5,di 13 6 11 12 3,dx 14 6 13 7,om 15 1,om 16 5,di 17 6 15 16 48,dx 18 6 17 112,od 19 (.eqc (.str [true,true,true,true,true,false]) false (.t 14) (.t 18)) 255] (ct 19 (.exit 1) .skip)) (jt [om 20 0,om 21 5,di 22 6 20 21 3,dx 23 6 22 7,om 24 1,om 25 5,di 26 6 24 25 48,dx 27 6 26 112,dc 28 2880320512 71 [.t 23,.t 27] 255,dm 4 28 511] .ret)))) (rf [oj 29 .add 8 1,om 8 29]))))
def i45_r2:aq:=(ch [mb 4 false])
def i45:dD:=⟨30,[(4,none)],(ak [mb 4 false] (.seq (ak [om 6 0,oh 7 6,mi 8 0] (kM i45_l1)) i45_r2))⟩
def i136_l1:aq:=(.seq (ak [of 10 0 4,ol 11 10,of 12 0 5,ol 13 12,ot 14 .lss 11 13] (ll 14)) (.block 1 (ak [om 15 2,ox 16 2 4,oo 17 (.Yl 8704128128 167 2 [.t 16]),Me 18 8704128192 167 2 16 15 17,om 2 18] (ak [of 19 0 4,ol 20 19,oj 21 .add 20 1,oo 22 (.build [il 0,il 0] [(0,1,.t 21)]),os 2 4 22] (rf [om 23 3,of 24 0 4,ol 25 24,oo 26 (.Yl 8704256192 3 1 [.t 25]),Me 27 8704256256 3 1 8 23 26,om 3 27])))))
def i136_r2:aq:=(ch [om 28 2,ox 29 2 5,oo 30 (.Yl 8704320128 167 2 [.t 29]),Me 31 8704320192 167 2 16 28 30,om 32 3,om 8 31,om 9 32])
def i136:dD:=⟨33,[(8,none),(9,none)],(ak [iZ 4 8704000000 0,iZ 5 8704000064 1,kI 8,kI 9] (.seq (kM i136_l1) i136_r2))⟩
def i137_l1:aq:=(ak [ot 9 .lss 8 7] (.seq (ll 9) (.seq (.block 1 (ak [om 10 8,om 5 10] (jt [ox 11 2 3,om 12 0,om 13 5,di 14 2 12 13 6,dx 15 2 14 14,od 16 (.eqc (.str [true,true]) false (.t 11) (.t 15)) 31] (ct 16 (ch [om 17 5,om 4 17]) .skip)))) (rf [oj 18 .add 8 1,om 8 18]))))
def i137_r2:aq:=(ch [oo 4 (.mov (.i (-1)))])
def i137:dD:=⟨19,[(4,none)],(ak [iZ 3 8768000000 1,mi 4 0] (.seq (ak [om 6 0,oh 7 6,mi 8 0] (kM i137_l1)) i137_r2))⟩
def i138:dD:=⟨9,[(4,none)],(ak [mb 4 false] (ch [om 5 0,om 6 1,oc 7 8832064128 152 [.t 5,.t 6],oj 8 .geq 7 0,om 4 8]))⟩
def i139_l1:aq:=(ak [ot 42 .lss 41 40] (.seq (ct 42 .skip (.exit 2)) (.seq (.block 3 (ak [oi 43 1 39 41,ol 44 43,om 11 44] (ak [om 45 11,oj 46 .quo 45 2,om 47 8,ot 48 .eql 46 47] (ct 48 (rf [om 49 9,oj 50 .add 49 1,om 9 50]) .skip)))) (rf [oj 51 .add 41 1,om 41 51]))))
def i139_r2:aq:=(ak [om 52 9,oj 53 .neq 52 1] (ct 53 (ch [mb 5 false]) .skip))
def i139_r3:aq:=(rf [oj 54 .add 34 1,om 34 54])
def i139_l4:aq:=(ak [ot 35 .lss 34 33] (.seq (ll 35) (.seq (.block 1 (ak [oi 36 1 32 34,ol 37 36,om 8 37] (ak [mi 9 0] (.seq (ak [of 38 1 6,ol 39 38,oh 40 39,mi 41 0] (.block 2 (.loop i139_l1))) i139_r2)))) i139_r3)))
def i139_r5:aq:=(ch [mb 5 true])
def i139:dD:=⟨55,[(5,none)],(ak [mb 5 false] (ak [ol 12 1,on 13 12,of 14 2 13,ol 15 14,om 16 0,oi 17 5 15 16,ox 18 5 17,oo 6 (.alloc 8896064448 [iz,.nils,.nils,.nils,iz]),os 5 6 18] (.seq (ak [of 19 1 6,ol 20 19,oh 21 20,ol 22 2,oh 23 22,ot 24 .neq 21 23,om 25 24,mY 26 2 6 25,rO 27 26 25,gh_ 28 27 25,rO 29 3 25,Kd 30 .neq 28 29 25,mz 31 25 30] (ct 31 (ch [mb 5 false]) .skip)) (.seq (ak [ol 32 2,oh 33 32,mi 34 0] (kM i139_l4)) i139_r5))))⟩
def i140:dD:=⟨17,[(5,none)],(ak [iZ 4 8960000000 1,mb 5 false] (ch [of 6 0 4,of 7 0 6,ol 8 7,oj 9 .eql 8 2,om 10 9,jO 11 2 10,iQ 12 0 4 10,iQ 13 3 12 10,jO 14 13 10,Mj 15 8960064576 141 [.t 11,.t 14] 10,ny 16 10 15,om 5 16]))⟩
def i142_l1:aq:=(.block 1 (ak [om 19 2,om 20 1,ot 21 .sub 19 20,om 10 21] (.seq (ak [om 22 10,oj 23 .leq 22 12] (ct 23 (ch [om 24 0,om 25 1,om 26 2,oc 27 9088256192 154 [.t 24,.t 25,.t 26]]) .skip)) (.seq (ak [om 28 3,oj 29 .eql 28 0] (ct 29 (ch [om 30 0,om 31 1,om 32 2,oc 33 9088384192 155 [.t 30,.t 31,.t 32]]) .skip)) (.seq (ak [om 34 8,Az 35 34] (ct 35 (ak [om 36 0,om 37 1,om 38 2,oc 39 9088512192 156 [.t 36,.t 37,.t 38]] (rf [om 40 3,oj 41 .sub 40 1,om 3 41])) .skip)) (ak [om 43 0,om 44 1,om 45 2,oc 46 9088640192 157 [.t 43,.t 44,.t 45],om 42 46,oe 47 42 0,oe 48 42 1,om 11 47,om 12 48] (.seq (ak [om 49 12,oj 50 .eql 49 2] (ct 50 (ak [om 51 0,om 52 1,om 53 2,oc 54 9088768192 158 [.t 51,.t 52,.t 53]] (ak [om 55 2,oj 56 .sub 55 1,
 om 57 11,om 58 1,ot 59 .sub 57 58,ot 60 .sub 56 59,om 11 60] (rf [mi 12 1]))) .skip)) (.seq (ak [om 61 8,om 62 61,kY 63 9 62,ny 64 62 63,om 65 64,kY 66 12 65,Dy 67 .eql 66 1 65,ny 68 65 67] (ct 68 (ak [om 69 0,om 70 1,om 71 2,oc 72 9089024192 159 [.t 69,.t 70,.t 71]] (ct 72 .ret .skip)) .skip)) (.seq (jt [om 73 1,dj 74 .gtr 73 0 1,dm 75 74 3,w7 76 0 75 7,w7 77 1 75 7,UV 78 .sub 77 1 75 23,Je 79 1 76 78 75 63,pP 80 79 75 127,w7 81 0 75 7,w7 82 11 75 7,
 Je 83 1 81 82 75 775,pP 84 83 75 1799,Hc_ 85 9089088768 160 [.t 80,.t 84] 75 4095,Hu_ 86 85 75 8191,M4 87 75 86 16383] (ct 87 (ak [om 88 0,om 89 1,om 90 2,om 91 11,oc 92 9089152256 161 [.t 88,.t 89,.t 90,.t 91],om 13 92] (ak [om 93 13,om 1 93] (.exit 1))) .skip)) (ak [om 95 0,om 96 1,om 97 2,om 98 11,oc 99 9089280256 162 [.t 95,.t 96,.t 97,.t 98],om 94 99,oe 100 94 0,oe 101 94 1,om 14 100,om 15 101] (ak [om 102 15,om 9 102] (ak [om 103 14,om 104 1,ot 105 .sub 103 104,om 106 2,om 107 14,ot 108 .sub 106 107,om 16 105,om 17 108] (ak [om 109 10,oj 110 .quo 109 8,om 18 110] (ak [om 111 16,om 112 17,ot 113 .lss 111 112] (ct 113 (ak [om 114 16,
 om 115 18,ot 116 .geq 114 115,om 8 116] (ak [om 117 0,om 118 1,om 119 14,om 120 3,oc 121 9089664256 142 [.t 117,.t 118,.t 119,.t 120]] (rf [om 122 14,oj 123 .add 122 1,om 1 123]))) (ak [om 124 17,om 125 18,ot 126 .geq 124 125,om 8 126] (ak [om 127 0,om 128 14,oj 129 .add 128 1,om 130 2,om 131 3,oc 132 9089856320 142 [.t 127,.t 129,.t 130,.t 131]] (rf [om 133 14,om 2 133]))))))))))))))))))
def i142:dD:=⟨134,[],(ak [mb 8 true] (ak [mb 9 true] (kM i142_l1)))⟩
def i70_l1:aq:=(.seq (ak [om 7 2,om 8 3,ot 9 .lss 7 8] (ll 9)) (.seq (.block 1 (rt [om 14 0,om 15 2,om 16 0,om 17 3,om 18 0,om 19 3,di 20 6 18 19 48,dx 21 6 20 112,om 22 0,om 23 2,di 24 6 22 23 768,dx 25 6 24 1792,di 26 6 14 15 4083,qZ 6 26 21 8179,di 27 6 16 17 16383,qZ 6 27 25 32767])) (rf [om 10 2,oj 11 .add 10 1,om 12 3,oj 13 .sub 12 1,om 2 11,om 3 13])))
def i70:dD:=⟨28,[],(ak [om 4 0,oh 5 4,oj 6 .sub 5 1,mi 2 0,om 3 6] (kM i70_l1))⟩
def i71:dD:=⟨62,[(4,none)],(ak [iZ 2 4544000000 0,iZ 3 4544000064 1,mb 4 false] (.seq (.block 0 (ak [of 6 0 2,ol 7 6,of 8 0 3,ol 9 8,ot 10 .neq 7 9,om 5 10] (ct 5 (ch [of 11 0 2,ol 12 11,of 13 0 3,ol 14 13,ot 15 .lss 12 14,om 4 15]) (ak [of 17 1 2,ol 18 17,of 19 1 3,ol 20 19,ot 21 .neq 18 20,om 16 21] (ct 16 (ch [of 22 1 2,ol 23 22,of 24 1 3,ol 25 24,ot 26 .lss 23 25,om 4 26]) (ak [of 28 2 2,ol 29 28,of 30 2 3,ol 31 30,ot 32 .neq 29 31,om 27 32] (ct 27 (ch [of 33 2 2,ol 34 33,of 35 2 3,ol 36 35,ot 37 .lss 34 36,om 4 37]) (ak [of 39 3 2,ol 40 39,of 41 3 3,ol 42 41,ot 43 .neq 40 42,om 38 43] (ct 38 (ch [of 44 3 2,ol 45 44,of 46 3 3,ol 47 46,ot 48 .lss 45 47,om 4 48]) (ak [of 50 5 2,ol 51 50,of 52 5 3,ol 53 52,oo 54 (.eqc .bool true (.t 51) (.t 53)),
 om 49 54] (ct 49 (ch [of 55 5 3,ol 56 55,om 4 56]) .skip))))))))))) (ch [of 57 4 2,ol 58 57,of 59 4 3,ol 60 59,ot 61 .lss 58 60,om 4 61])))⟩
def i152_l1:aq:=(ak [ot 9 .lss 8 7] (.seq (ll 9) (.seq (.block 1 (ak [om 10 8,om 5 10] (ak [om 11 1,om 12 0,om 13 5,oi 14 1 12 13,ol 15 14,oo 16 (.call 9728256320 (.t 11) [.t 15])] (ct 16 (ch [om 17 5,om 4 17]) .skip)))) (rf [oj 18 .add 8 1,om 8 18]))))
def i152_r2:aq:=(ch [oo 4 (.mov (.i (-1)))])
def i152:dD:=⟨19,[(4,none)],(ak [mi 4 0] (.seq (ak [om 6 0,oh 7 6,mi 8 0] (kM i152_l1)) i152_r2))⟩
def i141:dD:=⟨9,[(4,none)],(ak [mb 4 false] (ch [om 5 0,om 6 1,oc 7 9024064128 153 [.t 5,.t 6],oj 8 .geq 7 0,om 4 8]))⟩
def i154_l1:aq:=(.seq (jt [om 16 7,om 17 1,dt 18 .gtr 16 17 3,dm 19 18 7,w7 20 0 19 15,w7 21 7 19 15,Je 22 1 20 21 19 63,pP 23 22 19 127,w7 24 0 19 15,w7 25 7 19 15,UV 26 .sub 25 1 19 527,Je 27 1 24 26 19 1807,pP 28 27 19 3855,Hc_ 29 9856256832 160 [.t 23,.t 28] 19 8191,M4 30 19 29 16383] (ct 30 .skip (.exit 2))) (.seq (.block 3 (rt [om 33 0,om 34 7,om 35 0,om 36 7,dj 37 .sub 36 1 8,om 38 0,om 39 7,dj 40 .sub 39 1 64,di 41 1 38 40 224,dl 42 41 480,
 om 43 0,om 44 7,di 45 1 43 44 3072,dl 46 45 7168,di 47 1 33 34 16355,qZ 1 47 42 32739,di 48 1 35 37 65535,qZ 1 48 46 131071])) (rf [om 31 7,oj 32 .sub 31 1,om 7 32])))
def i154_r2:aq:=(rf [om 13 6,oj 14 .add 13 1,om 6 14])
def i154_l3:aq:=(.seq (ak [om 10 6,om 11 2,ot 12 .lss 10 11] (ll 12)) (.seq (.block 1 (ak [om 15 6,om 7 15] (.block 2 (.loop i154_l1)))) i154_r2))
def i154:dD:=⟨49,[],(ak [om 8 1,oj 9 .add 8 1,om 6 9] (kM i154_l3))⟩
def i160:dD:=⟨17,[(4,none)],(ak [mb 4 false] (ch [om 5 0,oc 6 10240064064 184 [.t 5],om 7 6,kY 8 1 7,Mj 9 10240064256 184 [.t 8] 7,Xy 10 9 7,ny 11 7 10,om 12 11,jl 13 0 12,jl 14 1 12,Kd 15 .lss 13 14 12,mz 16 12 15,om 4 16]))⟩
def i153_l1:aq:=(ak [ot 9 .lss 8 7] (.seq (ll 9) (.seq (.block 1 (ak [om 10 8,om 5 10] (ak [om 11 1,om 12 0,om 13 5,oi 14 1 12 13,ol 15 14,ot 16 .eql 11 15] (ct 16 (ch [om 17 5,om 4 17]) .skip)))) (rf [oj 18 .add 8 1,om 8 18]))))
def i153_r2:aq:=(ch [oo 4 (.mov (.i (-1)))])
def i153:dD:=⟨19,[(4,none)],(ak [mi 4 0] (.seq (ak [om 6 0,oh 7 6,mi 8 0] (kM i153_l1)) i153_r2))⟩
def i184:dD:=⟨6,[(2,none)],(ak [mb 2 false] (ch [om 3 0,om 4 0,ot 5 .neq 3 4,om 2 5]))⟩
def i3_l1:aq:=(.seq (ak [om 44 11,om 45 1,oh 46 45,ot 47 .lss 44 46] (ll 47)) (.seq (.block 1 (rf [om 50 10,om 51 50,kY 52 1 51,kY 53 11 51,Pm 54 7 52 53 51,iQ 55 0 54 51,jO 56 55 51,Mj 57 192832448 8 [.t 56] 51,ny 58 51 57,om 10 58])) (rf [om 48 11,oj 49 .add 48 1,om 11 49])))
def i3_r2:aq:=(ch [ox 59 2 2,ox 60 2 7,om 61 1,oo 62 (.build [.nils,.nils] [(0,1,.t 61)]),oc 63 192896256 9 [.t 59,.t 60,.t 62],om 64 10,oo 65 (.eqc .bool false (.t 63) (.t 64)),om 66 65,SO 67 2 7 66,SO 68 2 2 66,kY 69 1 66,Mi 70 (.build [.nils,.nils] [(1,1,.t 69)]) 66,Mj 71 192896768 9 [.t 67,.t 68,.t 70] 66,kY 72 10 66,Mi 73 (.eqc .bool false (.t 71) (.t 72)) 66,ny 74 66 73,om 75 74,Mj 76 192897088 5 [] 75,ny 77 75 76,om 4 77])
def i3:dD:=⟨78,[(4,none)],(ak [iZ 2 192000000 0,mb 4 false] (.seq (ak [ox 12 2 2,oc 13 192064064 4 [.t 12,.i 30],Az 14 13,om 15 14,jl 16 1 15,gh_ 17 16 15,wX 18 .gtr 17 20 15,mz 19 15 18] (ct 19 (ch [oc 20 192128000 5 [],om 4 20]) .skip)) (ak [ox 22 2 2,oc 23 192192064 6 [.t 22],om 21 23,oe 24 21 0,oe 25 21 1,oo 5 (.alloc 192192320 [il 0,.nils]),os 2 5 24,om 6 25] (ak [ox 27 2 5,om 28 1,oc 29 192256128 7 [.t 27,.t 28],om 26 29,oe 30 26 0,oe 31 26 1,oe 32 26 2,oo 7 (.alloc 192256448 [il 0,.nils]),os 2 7 30,om 8 31,om 9 32] (.seq (ak [om 33 6,oj 34 .neq 33 0] (ct 34 (ch [mb 4 false]) .skip)) (.seq (ak [om 35 9,oj 36 .neq 35 0,
 om 37 36,mY 38 1 7 37,rO 39 38 37,gh_ 40 39 37,wX 41 .gtr 40 60 37,mz 42 37 41] (ct 42 (ch [oc 43 192512000 5 [],om 4 43]) .skip)) (ak [mb 10 true] (.seq (ak [mi 11 0] (kM i3_l1)) i3_r2))))))))⟩
end Go.Abs
namespace Go.Abs
open Go.Proofs
def Fy:List Nat->Nat->Bool
 |[],_=>false
 |a::r,n=>bif Nat.beq a n then true else Fy r n
def T6:List (Nat×List Nat)->Nat->List Nat
 |[],_=>[]
 |(a,l)::r,n=>bif Nat.beq a n then l else T6 r n
def RW:List Nat:=[36,37,41,60,63,67,68,70,92,112,113,117,126,127,128,132,134,136,142,148,150,154,155,156,157,158,159,161,162,169,170,171,172,173,174,175,176,178,179,181,182,183,187,188,189,190,191,192,193,194,195,196,197,198,199,200,201,202,203]
def Ve:List (Nat×List Nat):=[(36,[36,60,63]),(37,[37]),(41,[41,67,68]),(60,[60]),(63,[63]),(67,[67]),(68,[68]),(70,[70]),(92,[92,112,113]),(112,[112]),(113,[113]),(117,[117]),(126,[126]),(127,[127,142,154,155,156,157,158,159,161,162,179,181,182,183,198]),(128,[128]),(132,[132,148,169,170,171,172,173,174,175,176,181,187,188,189,199]),(134,[134]),(136,[136]),(142,[142,154,155,156,157,158,159,161,162,179,181,182,183,198]),(148,[148,169,170,171,172,173,174,175,176,181,187,188,189,199]),(150,[150,178,181,190,191,192,193,194,195,196,197,200,201,202,203]),(154,[154]),(155,[155,179]),(156,[156,181]),(157,[157,182,183,198]),(158,[158]),(159,[159]),(161,[161]),(162,[162]),(169,[169]),(170,[170,187]),(171,[171,181]),(172,[172,188,189,199]),(173,[173]),(174,[174]),(175,[175]),(176,[176]),(178,[178,181,190,191,192,193,194,195,196,197,200,201,202,203]),(179,[179]),(181,[181]),(182,[182,183,198]),(183,[183,198]),(187,[187]),(188,[188,189,199]),(189,[189,199]),(190,[190]),(191,[191,200]),(192,[181,192]),(193,[193,201,202,203]),(194,[194]),(195,[195]),(196,[196]),(197,[197]),(198,[198]),(199,[199]),(200,[200]),(201,[201,202,203]),(202,[202,203]),(203,[203])]
def T7:List Nat:=[20]
def Oj(f:Nat)(args:List V):Option (Option RV):=
 bif Nat.beq f 85 then some (yE args)
 else bif Nat.beq f 143 then some (qx args)
 else bif Fy [22,62,119] f then rz args
 else none
noncomputable def S:Sys:={P:=Tryz.prog,shared:=Fy RW,sites:=T6 Ve,lone:=fun s=>Fy T7 (s/64000000),fns:=sH Tryz.prog,prim:=Oj}
abbrev fJ(n:Nat):Prop:=S.shared n=false
theorem c21:S.fns 21=some i21:=by kernel_rfl
theorem s21:fJ 21:=rfl
theorem c19:S.fns 19=some i19:=by kernel_rfl
theorem s19:fJ 19:=rfl
theorem c40:S.fns 40=some i40:=by kernel_rfl
theorem s40:fJ 40:=rfl
theorem c73:S.fns 73=some i73:=by kernel_rfl
theorem s73:fJ 73:=rfl
theorem c74:S.fns 74=some i74:=by kernel_rfl
theorem s74:fJ 74:=rfl
theorem c65:S.fns 65=some i65:=by kernel_rfl
theorem s65:fJ 65:=rfl
theorem c89:S.fns 89=some i89:=by kernel_rfl
theorem s89:fJ 89:=rfl
theorem c66:S.fns 66=some i66:=by kernel_rfl
theorem s66:fJ 66:=rfl
theorem c67:S.fns 67=some i67:=by kernel_rfl
theorem c68:S.fns 68=some i68:=by kernel_rfl
theorem c69:S.fns 69=some i69:=by kernel_rfl
theorem s69:fJ 69:=rfl
theorem c41:S.fns 41=some i41:=by kernel_rfl
theorem c90:S.fns 90=some i90:=by kernel_rfl
theorem s90:fJ 90:=rfl
theorem c110:S.fns 110=some i110:=by kernel_rfl
theorem s110:fJ 110:=rfl
theorem c109:S.fns 109=some i109:=by kernel_rfl
theorem s109:fJ 109:=rfl
theorem c88:S.fns 88=some i88:=by kernel_rfl
theorem s88:fJ 88:=rfl
theorem c108:S.fns 108=some i108:=by kernel_rfl
theorem s108:fJ 108:=rfl
theorem c10:S.fns 10=some i10:=by kernel_rfl
theorem s10:fJ 10:=rfl
theorem c28:S.fns 28=some i28:=by kernel_rfl
theorem s28:fJ 28:=rfl
theorem c31:S.fns 31=some i31:=by kernel_rfl
theorem s31:fJ 31:=rfl
theorem c27:S.fns 27=some i27:=by kernel_rfl
theorem s27:fJ 27:=rfl
theorem c51:S.fns 51=some i51:=by kernel_rfl
theorem s51:fJ 51:=rfl
theorem c82:S.fns 82=some i82:=by kernel_rfl
theorem s82:fJ 82:=rfl
theorem c29:S.fns 29=some i29:=by kernel_rfl
theorem s29:fJ 29:=rfl
theorem c52:S.fns 52=some i52:=by kernel_rfl
theorem s52:fJ 52:=rfl
theorem c83:S.fns 83=some i83:=by kernel_rfl
theorem s83:fJ 83:=rfl
theorem c80:S.fns 80=some i80:=by kernel_rfl
theorem s80:fJ 80:=rfl
theorem c53:S.fns 53=some i53:=by kernel_rfl
theorem s53:fJ 53:=rfl
theorem c84:S.fns 84=some i84:=by kernel_rfl
theorem s84:fJ 84:=rfl
theorem c81:S.fns 81=some i81:=by kernel_rfl
theorem s81:fJ 81:=rfl
theorem c54:S.fns 54=some i54:=by kernel_rfl
theorem s54:fJ 54:=rfl
theorem c30:S.fns 30=some i30:=by kernel_rfl
theorem s30:fJ 30:=rfl
theorem c72:S.fns 72=some i72:=by kernel_rfl
theorem s72:fJ 72:=rfl
theorem c46:S.fns 46=some i46:=by kernel_rfl
theorem s46:fJ 46:=rfl
theorem c23:S.fns 23=some i23:=by kernel_rfl
theorem s23:fJ 23:=rfl
theorem c7:S.fns 7=some i7:=by kernel_rfl
theorem s7:fJ 7:=rfl
theorem c47:S.fns 47=some i47:=by kernel_rfl
theorem s47:fJ 47:=rfl
theorem c22:S.fns 22=some i22:=by kernel_rfl
theorem s22:fJ 22:=rfl
theorem c75:S.fns 75=some i75:=by kernel_rfl
theorem s75:fJ 75:=rfl
theorem c76:S.fns 76=some i76:=by kernel_rfl
theorem s76:fJ 76:=rfl
theorem c77:S.fns 77=some i77:=by kernel_rfl
theorem s77:fJ 77:=rfl
theorem c78:S.fns 78=some i78:=by kernel_rfl
theorem s78:fJ 78:=rfl
theorem c6:S.fns 6=some i6:=by kernel_rfl
theorem s6:fJ 6:=rfl
theorem c50:S.fns 50=some i50:=by kernel_rfl
theorem s50:fJ 50:=rfl
theorem c91:S.fns 91=some i91:=by kernel_rfl
theorem s91:fJ 91:=rfl
theorem c92:S.fns 92=some i92:=by kernel_rfl
theorem c93:S.fns 93=some i93:=by kernel_rfl
theorem s93:fJ 93:=rfl
theorem c94:S.fns 94=some i94:=by kernel_rfl
theorem c95:S.fns 95=some i95:=by kernel_rfl
theorem s95:fJ 95:=rfl
theorem c96:S.fns 96=some i96:=by kernel_rfl
theorem c97:S.fns 97=some i97:=by kernel_rfl
theorem c98:S.fns 98=some i98:=by kernel_rfl
theorem c99:S.fns 99=some i99:=by kernel_rfl
theorem c100:S.fns 100=some i100:=by kernel_rfl
theorem c101:S.fns 101=some i101:=by kernel_rfl
theorem c102:S.fns 102=some i102:=by kernel_rfl
theorem c103:S.fns 103=some i103:=by kernel_rfl
theorem s103:fJ 103:=rfl
theorem c104:S.fns 104=some i104:=by kernel_rfl
theorem s104:fJ 104:=rfl
theorem c20:S.fns 20=some i20:=by kernel_rfl
theorem s20:fJ 20:=rfl
theorem c111:S.fns 111=some i111:=by kernel_rfl
theorem s111:fJ 111:=rfl
theorem c112:S.fns 112=some i112:=by kernel_rfl
theorem c113:S.fns 113=some i113:=by kernel_rfl
theorem c114:S.fns 114=some i114:=by kernel_rfl
theorem s114:fJ 114:=rfl
theorem c115:S.fns 115=some i115:=by kernel_rfl
theorem s115:fJ 115:=rfl
theorem c117:S.fns 117=some i117:=by kernel_rfl
theorem c116:S.fns 116=some i116:=by kernel_rfl
theorem s116:fJ 116:=rfl
theorem c118:S.fns 118=some i118:=by kernel_rfl
theorem s118:fJ 118:=rfl
theorem c119:S.fns 119=some i119:=by kernel_rfl
theorem s119:fJ 119:=rfl
theorem c120:S.fns 120=some i120:=by kernel_rfl
theorem s120:fJ 120:=rfl
theorem c121:S.fns 121=some i121:=by kernel_rfl
theorem s121:fJ 121:=rfl
theorem c122:S.fns 122=some i122:=by kernel_rfl
theorem s122:fJ 122:=rfl
theorem c123:S.fns 123=some i123:=by kernel_rfl
theorem s123:fJ 123:=rfl
theorem c124:S.fns 124=some i124:=by kernel_rfl
theorem s124:fJ 124:=rfl
theorem c125:S.fns 125=some i125:=by kernel_rfl
theorem s125:fJ 125:=rfl
theorem c126:S.fns 126=some i126:=by kernel_rfl
theorem c127:S.fns 127=some i127:=by kernel_rfl
theorem c128:S.fns 128=some i128:=by kernel_rfl
theorem c129:S.fns 129=some i129:=by kernel_rfl
theorem s129:fJ 129:=rfl
theorem c42:S.fns 42=some i42:=by kernel_rfl
theorem s42:fJ 42:=rfl
theorem c44:S.fns 44=some i44:=by kernel_rfl
theorem s44:fJ 44:=rfl
theorem c43:S.fns 43=some i43:=by kernel_rfl
theorem s43:fJ 43:=rfl
theorem c45:S.fns 45=some i45:=by kernel_rfl
theorem s45:fJ 45:=rfl
theorem c136:S.fns 136=some i136:=by kernel_rfl
theorem c137:S.fns 137=some i137:=by kernel_rfl
theorem s137:fJ 137:=rfl
theorem c138:S.fns 138=some i138:=by kernel_rfl
theorem s138:fJ 138:=rfl
theorem c139:S.fns 139=some i139:=by kernel_rfl
theorem s139:fJ 139:=rfl
theorem c140:S.fns 140=some i140:=by kernel_rfl
theorem s140:fJ 140:=rfl
theorem c142:S.fns 142=some i142:=by kernel_rfl
theorem s142:S.shared 142=true:=by kernel_rfl
theorem c70:S.fns 70=some i70:=by kernel_rfl
theorem s70:S.shared 70=true:=by kernel_rfl
theorem c71:S.fns 71=some i71:=by kernel_rfl
theorem s71:fJ 71:=rfl
theorem c152:S.fns 152=some i152:=by kernel_rfl
theorem s152:fJ 152:=rfl
theorem c141:S.fns 141=some i141:=by kernel_rfl
theorem s141:fJ 141:=rfl
theorem c154:S.fns 154=some i154:=by kernel_rfl
theorem s154:S.shared 154=true:=by kernel_rfl
theorem c160:S.fns 160=some i160:=by kernel_rfl
theorem s160:fJ 160:=rfl
theorem c153:S.fns 153=some i153:=by kernel_rfl
theorem s153:fJ 153:=rfl
theorem c184:S.fns 184=some i184:=by kernel_rfl
theorem s184:fJ 184:=rfl
theorem c3:S.fns 3=some i3:=by kernel_rfl
theorem s3:fJ 3:=rfl
end Go.Abs
namespace Go.Abs
def i26:dD:=⟨37,[(4,none),(5,none)],(ak [iZ 2 1664000000 0,iZ 3 1664000064 1,mb 4 false,mi 5 0] (ak [ox 10 2 2,oc 11 1664064064 6 [.t 10],om 9 11,oe 12 9 0,oe 13 9 1,oo 6 (.alloc 1664064320 [il 0,.nils]),os 2 6 12,om 7 13] (.seq (ak [om 14 7,oj 15 .neq 14 0] (ct 15 (ch [om 16 7,mb 4 false,om 5 16]) .skip)) (ak [ox 18 2 3,oc 19 1664256064 6 [.t 18],om 17 19,oe 20 17 0,oe 21 17 1,oo 8 (.alloc 1664256320 [il 0,.nils]),os 2 8 20,om 7 21] (.seq (ak [om 22 7,oj 23 .neq 22 0] (ct 23 (ch [om 24 7,mb 4 false,om 5 24]) .skip)) (ch [of 25 0 6,ol 26 25,of 27 0 8,ol 28 27,ot 29 .eql 26 28,om 30 29,iQ 31 1 6 30,jO 32 31 30,iQ 33 1 8 30,jO 34 33 30,
 Mj 35 1664448640 50 [.t 32,.t 34] 30,ny 36 30 35,om 4 36,mi 5 0]))))))⟩
def i9:dD:=⟨51,[(6,none)],(ak [iZ 3 576000000 0,iZ 4 576000064 1,iZ 5 576000128 2,mb 6 false] (ak [ox 14 2 3,of 15 0 5,ol 16 15,oc 17 576064192 25 [.t 14,.t 16],om 13 17,oe 18 13 0,oe 19 13 1,oo 7 (.alloc 576064448 [il 0,.nils]),os 2 7 18,om 8 19] (ak [ox 21 2 4,of 22 1 5,ol 23 22,oc 24 576128192 25 [.t 21,.t 23],om 20 24,oe 25 20 0,oe 26 20 1,oo 9 (.alloc 576128448 [il 0,.nils]),os 2 9 25,om 10 26] (.seq (ak [om 27 8,Az 28 27,om 29 28,jl 30 10 29,Wz 31 30 29,mz 32 29 31,om 33 32,mY 34 0 3 33,rO 35 34 33,mY 36 0 4 33,rO 37 36 33,Kd 38 .neq 35 37 33,
 mz 39 33 38] (ct 39 (ch [mb 6 false]) .skip)) (ak [ox 41 2 7,ox 42 2 9,oc 43 576320128 26 [.t 41,.t 42],om 40 43,oe 44 40 0,oe 45 40 1,om 11 44,om 12 45] (ch [om 46 11,om 47 46,kY 48 12 47,Dy 49 .eql 48 0 47,ny 50 47 49,om 6 50]))))))⟩
def i25:dD:=⟨32,[(4,some (some 2)),(5,none)],(ak [iZ 2 1600000000 0,oo 4 (.alloc 1600000064 [il 0,.nils]),mb 5 false] (ak [ox 11 2 2,oc 12 1600064064 6 [.t 11],om 10 12,oe 13 10 0,oe 14 10 1,oo 6 (.alloc 1600064320 [il 0,.nils]),os 2 6 13,om 7 14] (.seq (ak [om 15 7,oj 16 .neq 15 0,om 17 16,jl 18 1 17,gz_ 19 (.call 1600128256 (.k (.one (.p (.fn 48 [] [])))) [.t 18,.k (.one (.p (.fn 49 [] [])))]) 17,mz 20 17 19] (ct 20 (ch [oo 21 (.build [il 0,.nils] []),os 2 4 21,mb 5 false]) .skip)) (ak [ox 23 2 6,om 24 1,oc 25 1600256128 7 [.t 23,.t 24],om 22 25,oe 26 22 0,oe 27 22 1,oe 28 22 2,oo 8 (.alloc 1600256448 [il 0,.nils]),os 2 8 26,om 9 27,om 7 28] (ch [ox 29 2 8,om 30 7,oj 31 .eql 30 0,os 2 4 29,om 5 31])))))⟩
def i49:dD:=⟨7,[(2,none)],(ak [iZ 1 3136000000 0,mb 2 false] (ch [of 3 0 1,ol 4 3,oc 5 3136064128 8 [.t 4],Az 6 5,om 2 6]))⟩
def i5:dD:=⟨124,[(0,none)],(ak [mb 0 false] (ak [oc 14 320064000 11 [.i 0,.i 1],oc 15 320064064 12 [.i 1,.b true,.i 1],oc 16 320064128 12 [.i 1,.b false,.i 1],oc 17 320064192 11 [.i 1,.i 1],oo 18 (.Yl 320064256 44 6 [.t 14,.t 15,.t 16,.t 17]),oo 19 (.build [il 0,.nils] [(0,1,.i 2),(1,1,.t 18)]),oo 1 (.alloc 320064384 [il 0,.nils]),os 2 1 19] (ak [oc 20 320128000 11 [.i 1,.i 1],oc 21 320128064 11 [.i 0,.i 1],oo 22 (.Yl 320128128 44 6 [.t 20,.t 21]),oo 23 (.build [il 0,.nils] [(0,1,.i 2),(1,1,.t 22)]),oo 2 (.alloc 320128256 [il 0,.nils]),os 2 2 23] (ak [ox 25 2 1,oc 26 320192064 13 [.t 25],om 24 26,oe 27 24 0,oe 28 24 1,oe 29 24 2,oo 3 (.alloc 320192384 [il 0,.nils]),os 2 3 27,om 4 28,om 5 29] (ak [ox 31 2 1,ox 32 2 2,oc 33 320256128 14 [.t 31,.t 32,.i 10],om 30 33,oe 34 30 0,oe 35 30 1,oo 6 (.alloc 320256384 [.nils,.nils]),
 os 2 6 34,om 7 35] (ak [oc 37 320320000 11 [.i 0,.i 1],oc 38 320320064 11 [.i 0,.i 2],oo 39 (.Yl 320320128 44 6 [.t 37,.t 38]),oo 40 (.build [il 0,.nils] [(0,1,.i 1),(1,1,.t 39)]),oc 41 320320256 15 [.t 40,.i 10],om 36 41,oe 42 36 0,oe 43 36 1,om 8 42,om 9 43] (ak [ox 45 2 2,oc 46 320384064 15 [.t 45,.i 10],om 44 46,oe 47 44 0,oe 48 44 1,om 10 47,om 11 48] (ak [ox 50 2 2,oc 51 320448064 16 [.t 50,.i 10],om 49 51,oe 52 49 0,oe 53 49 1,oo 12 (.alloc 320448320 [il 0,.nils,.nils,iz]),os 4 12 52,om 13 53] (.seq (ak [om 54 5,oj 55 .neq 54 0,om 56 55,jl 57 7 56,wX 58 .neq 57 0 56,mz 59 56 58,om 60 59,jl 61 9 60,wX 62 .neq 61 0 60,mz 63 60 62,
 om 64 63,jl 65 11 64,wX 66 .neq 65 9 64,mz 67 64 66,om 68 67,jl 69 13 68,wX 70 .neq 69 0 68,mz 71 68 70] (ct 71 (ch [mb 0 false]) .skip)) (ch [ox 72 2 3,oc 73 320640064 17 [.t 72],oo 74 (.bin .eql (.t 73) (.k (.one (.p (.str ⟨#[50,58,32,48,46,49,32,49,46,49]⟩))))),om 75 74,kY 76 4 75,hh_ 77 76 75,Dy 78 .eql 77 1 75,ny 79 75 78,om 80 79,kY 81 4 80,Mi 82 (.Zc 7 (.t 81) (.i 0)) 80,SO 83 7 82 80,Mi 84 (.build [il 0,il 0,il 0,il 0,iz,iz,il 0] [(0,1,.i 4),(1,1,.i 1)]) 80,
 Mi 85 (.eqc (.str [true,true,true,true,false,false,true]) false (.t 83) (.t 84)) 80,ny 86 80 85,om 87 86,iQ 88 0 6 87,jO 89 88 87,hh_ 90 89 87,Dy 91 .eql 90 1 87,ny 92 87 91,om 93 92,iQ 94 1 6 93,jO 95 94 93,hh_ 96 95 93,Dy 97 .eql 96 0 93,ny 98 93 97,om 99 98,kY 100 8 99,hh_ 101 100 99,Dy 102 .eql 101 1 99,ny 103 99 102,om 104 103,
 iQ 105 3 12 104,jO 106 105 104,ny 107 104 106,om 108 107,iQ 109 0 12 108,SO 110 2 109 108,Mj 111 320642496 17 [.t 110] 108,⟨(some 112),.bin .eql (.t 111) (.k (.one (.p (.str ⟨#[50,58,32,48,46,49,32,49,46,49]⟩)))),(some (108,true)),0⟩,ny 113 108 112,om 114 113,Mj 115 320642752 18 [.k (.one (.p (.nils)))] 114,Mi 116 (.bin .eql (.t 115) (.i (-1))) 114,ny 117 114 116,om 118 117,SO 119 2 1 118,SO 120 2 2 118,
 SO 121 2 6 118,Mj 122 320643200 9 [.t 119,.t 120,.t 121] 118,ny 123 118 122,om 0 123]))))))))))⟩
def i4:dD:=⟨15,[(4,none)],(ak [iZ 2 256000000 0,mb 4 false] (ch [of 5 1 2,ol 6 5,oh 7 6,om 8 1,ot 9 .leq 7 8,om 10 9,SO 11 2 2 10,Mj 12 256064448 10 [.t 11] 10,Dy 13 .eql 12 0 10,ny 14 10 13,om 4 14]))⟩
def i8:dD:=⟨9,[(2,none)],(ak [mb 2 false] (ch [om 3 0,oc 4 512064064 24 [.t 3],om 5 4,kY 6 0 5,Dy 7 .lss 6 9 5,ny 8 5 7,om 2 8]))⟩
def i24:dD:=⟨9,[(2,none)],(ak [mb 2 false] (ch [om 3 0,oj 4 .geq 3 1,om 5 4,kY 6 0 5,Dy 7 .leq 6 10 5,ny 8 5 7,om 2 8]))⟩
def i48:dD:=⟨9,[(4,none)],(ak [mb 4 false] (ch [om 5 0,om 6 1,oc 7 3072064128 79 [.t 5,.t 6],oj 8 .geq 7 0,om 4 8]))⟩
def i79_l1:aq:=(ak [ot 9 .lss 8 7] (.seq (ll 9) (.seq (.block 1 (ak [om 10 8,om 5 10] (ak [om 11 1,om 12 0,om 13 5,oi 14 7 12 13,ox 15 7 14,oo 16 (.call 5056256320 (.t 11) [.t 15])] (ct 16 (ch [om 17 5,om 4 17]) .skip)))) (rf [oj 18 .add 8 1,om 8 18]))))
def i79_r2:aq:=(ch [oo 4 (.mov (.i (-1)))])
def i79:dD:=⟨19,[(4,none)],(ak [mi 4 0] (.seq (ak [om 6 0,oh 7 6,mi 8 0] (kM i79_l1)) i79_r2))⟩
theorem c26:S.fns 26=some i26:=by kernel_rfl
theorem s26:fJ 26:=rfl
theorem c9:S.fns 9=some i9:=by kernel_rfl
theorem s9:fJ 9:=rfl
theorem c25:S.fns 25=some i25:=by kernel_rfl
theorem s25:fJ 25:=rfl
theorem c49:S.fns 49=some i49:=by kernel_rfl
theorem s49:fJ 49:=rfl
theorem c5:S.fns 5=some i5:=by kernel_rfl
theorem s5:fJ 5:=rfl
theorem c4:S.fns 4=some i4:=by kernel_rfl
theorem s4:fJ 4:=rfl
theorem c8:S.fns 8=some i8:=by kernel_rfl
theorem s8:fJ 8:=rfl
theorem c24:S.fns 24=some i24:=by kernel_rfl
theorem s24:fJ 24:=rfl
theorem c48:S.fns 48=some i48:=by kernel_rfl
theorem s48:fJ 48:=rfl
theorem c79:S.fns 79=some i79:=by kernel_rfl
theorem s79:fJ 79:=rfl
end Go.Abs
