/-
  The moves of the document.
-/
import Derived.Test.YtkdkhndppjfpmaaGreatDoorVb
import Derived.Test.YtkdkhndppjfpmaaGreatDoorVe
set_option linter.all false
open List renaming length->I
set_option maxRecDepth 100000
set_option maxHeartbeats 16000000
namespace Go.Abs
variable{x y z F m n j:Nat}{L:ai}{D:dS}{g v u:Int}{h:dd}
section
variable{f:ai}
abbrev Hd(F:Nat)(ls:ai):eE:=[.p (.int .i64 F),.p (eg ls),.p (.int .i64 (I ls)),.p (.sl (kz (dG F ls)))]
abbrev kQ(F:Nat)(ls:ai):V:=.agg (Hd F ls)
abbrev Dr(l:aa):RV:=.agg [.p (.int .i64 l.kind),.p (.int .i64 l.gate),.p (.int .i64 l.ay),.p (.int .i64 l.id),.p (.int .i64 l.sign),.p (.bool l.over)]
def axa{E:q_}{c:dI}{X Y w:PV}{aj:aN}(h:cg x y z E (.one c) aj):iR aj (.agg [.p X,.p Y,.p w,c])=some (.agg [.p X,.p Y,.p w,cF y z E]):=by obtain⟨u,o,n,H,m⟩:=h.ij;cases n;have f:ij aj (.p X)=some (.p X,[],[]):=rfl;have j:ij aj (.p Y)=some (.p Y,[],[]):=rfl;have g:ij aj (.p w)=some (.p w,[],[]):=rfl;rcases m with rfl|rfl<;>simp[iR,n_,lX,kS,H,f,j,g,mg,pK,oh]
def DZ(g:cE F f):aK S 71 [c_ F f] (.agg [.p (.int .i64 F),.p (eg f),.p (.int .i64 (I f)),cF sq 5 (kz (dG F f))]):=by
 have x:=g.fing;have m:=avo g.ok J g.axne;have lo:S.lone 4544192064=false:=ah;have n:(0:Int)<(I f:Int):=by have:=jH.2 g.ne;omega
 refine bj adP ?_;simp only[go_sem,W6,n,avk,af,ao];refine mX m lo (.inl rfl) λu v j H=>?_;have B:=H 4544064320 U;have h:=H 4544000064 U;simp only[go_sem]at B h;simp only[go_sem,B,h,af,ao];exact axa (j.of_eq ((bK U).trans (bK U)))
def BG{e:Nat}(H:e<I f)(hl:I f<=1000000):aK S 76 [kQ F f,aH e] (ja ((e+1)%I f:Nat)):=by have g:=cN (n:=e) J;have h:¬((I f:Int)=0):=J;have T:=tB (e+1) (I f);refine bj azK ?_;simp only[go_sem,adO,g,h,T,af,ao]
def K9{e:Nat}(h:e<I f)(hl:I f<=1000000):aK S 74 [kQ F f,aH e] (.tup [Dr (aY f e),Dr (aY f (aJ f e))]):=by have j:=BG (F:=F) h hl;have g:=fk (e+1) (show 0<I f by omega);have H:=gb (jx h);have m:=gb (jx g);refine bj aoF ?_;simp only[go_sem,akf,w9,dp j,H,m,aa.ps,af,ao];exact⟨aA,rfl⟩
def Lg(o:dd)(x:Int)(hl:I o<=1000000):aK S 107 [.one (.p (.sl (fy o))),aH x] (cO (decide (x∈o))):=by
 refine bj avu ?_;simp only[go_sem,aeB,af,ao];refine dy (λk A aj=>A 0=.one (.p (.sl (fy o)))/\A 1=aH x/\A 5=aH k/\ ∀j,j<k->o[j]? ≠some x) 0 (I o) (cG _) ?_ ?_
 .simp only[go_sem];exact⟨rfl,λj H=>absurd H (pG j)⟩
 rintro k A aj Q ⟨g,u,v,D⟩
 by_cases B:k<I o
 .have E:((k:Int)<(I o:Int)):=J;obtain⟨y,f⟩:=aT B;have F:=xC f;have L:=cN (n:=k) J;by_cases m:y=x
  .subst m;have z:decide (y∈o)=true:=by simpa using bR f
   simp only[go_sem,Sp,g,u,v,E,F,z,af,ao]
  have O:=(xt m).1;have M:∀j,j<k+1->o[j]? ≠some x:=λj H=>by
   rcases mQ.1 H with h|rfl
   .exact D j h
   rw[f];intro h;cases h;exact m rfl
  simp only[go_sem,Sp,g,u,v,B,E,F,O,L,af,ao];exact M
 have:k=I o:=J;subst this;have z:decide (x∈o)=false:=by simp only[decide_eq_false_iff_not];intro N;obtain⟨j,H⟩:=j9 N;exact absurd H (D j (cn.1 H).1)
 simp only[go_sem,Sp,ajA,g,u,v,eR,z,af,ao]
def atE(o:aF):a_ o=fy (o.map λn:Nat=>(n:Int)):=by simp[nU]
def DJ(o:aF)(x:Nat)(hl:I o<=1000000):aK S 107 [.one (.p (.sl (a_ o))),aH x] (cO (decide (x∈o))):=by
 have:=Lg (o.map λn:Nat=>(n:Int)) x (by rw[cY];exact hl);rw[atE];rw[show decide ((x:Int)∈o.map λn:Nat=>(n:Int))=decide (x∈o) by
  rw[decide_eq_decide,dY];constructor
  .rintro ⟨a,h,e⟩
   have:a=x:=J;exact this▸h
  exactλh=>⟨x,h,rfl⟩]at this
 exact this
def iX(i:Int):aK S 133 [kQ F f,aH i] (cO (nm (I f) i)):=by
 refine bj aAZ ?_;unfold nm;by_cases h:0<=i
 .by_cases H:i<(I f:Int)
  .simp only[go_sem,Vf,h,H,af,ao]
  simp only[go_sem,Vf,h,H,af,ao]
 simp only[go_sem,Vf,h,af,ao]
def yX(a b:aa):Bool:=(a.kind==1)&&((b.kind==1)&&((a.gate==b.gate)&&((a.ay==b.ay+1)||(b.ay==a.ay+1))))
abbrev Ll(a:aa):Prop:= -1000000<=a.ay/\a.ay<=1000000
def amI(a b:aa)(H:Ll a)(h:Ll b):aK S 135 [uT a,uT b] (cO (yX a b)):=by
 have f:IntKind.i64.wrap (a.ay+1)=a.ay+1:=kA (by have:=H.1;omega) (by have:=H.2;omega);have wb:IntKind.i64.wrap (b.ay+1)=b.ay+1:=kA (by have:=h.1;omega) (by have:=h.2;omega);unfold yX;refine bj aw1 ?_;simp only[go_sem,ajx,f,wb,bne,af,ao];repeat' ((first|apply oO|apply oE|apply oK|apply oj|apply om|apply oH)<;>intro g<;>simp only[go_sem, *,f,wb,bne,af,ao])
 all_goals(first|done|exact aA|exact⟨aA,rfl⟩|rfl)
def P1{aj:aN}{s:Nat}{l:Bool}(a b:aa):fg aj [] s ((RV.tup [Dr a,Dr b]).fR l)=some (.tup [uT a,uT b],[]):=by cases l<;>rfl
def zF{aj:aN}{s:Nat}{l:Bool}(a b:aa)(x:Bool):fg aj [] s ((RV.tup [Dr a,Dr b,.one (.p (.bool x))]).fR l)=some (.tup [uT a,uT b,gE x],[]):=by cases l<;>rfl
def kY(f:ai)(e:Nat):aa×aa×Bool:=if(aY f e).kind==1 then(aY f (aJ f e),aY f e,((aY f (aJ f e)).kind==2)&&((aY f e).kind==1))else(aY f e,aY f (aJ f e),((aY f e).kind==2)&&((aY f (aJ f e)).kind==1))
def rS(f:ai)(e:Nat):Bool:=((aY f e).kind==2)&&((aY f (aJ f e)).kind==2)
def FZ(f:ai)(e:Nat):Int:=(if(aY f e).over then 1 else 0)+(if(aY f (aJ f e)).over then 1 else 0)
section
variable {F:Nat} {f:ai}
def Tu{e:Nat}(H:e<I f)(hl:I f<=1000000):aK S 79 [kQ F f,aH e] (.tup [Dr (kY f e).1,Dr (kY f e).2.1,.one (.p (.bool (kY f e).2.2))]):=by
 have pb:=K9 (F:=F) H hl;unfold kY;generalize aY f e=A at pb |-;generalize aY f (aJ f e)=B at pb |-;refine bj aAW ?_;cases h:(A.kind==1)with
 |true=>
  rw[aD rfl];simp only[go_sem,Xh,AY,aU pb (P1 _ _),h,bne,af,ao];repeat' ((first|apply oO|apply oE|apply oK|apply oj|apply om|apply oH)<;>intro H<;>simp only[go_sem, *,h,bne,af,ao])
  all_goals(first|done|exact aA|exact⟨aA,rfl⟩|rfl)
 |false=>
  rw[aC U];simp only[go_sem,Xh,AY,aU pb (P1 _ _),h,bne,af,ao];repeat' ((first|apply oO|apply oE|apply oK|apply oj|apply om|apply oH)<;>intro H<;>simp only[go_sem, *,h,bne,af,ao])
  all_goals(first|done|exact aA|exact⟨aA,rfl⟩|rfl)
def Vu{e:Nat}(h:e<I f)(hl:I f<=1000000):aK S 137 [kQ F f,aH e] (.tup [Dr (aY f e),Dr (aY f (aJ f e)),.one (.p (.bool (rS f e)))]):=by
 have pb:=K9 (F:=F) h hl;unfold rS;generalize aY f e=A at pb |-;generalize aY f (aJ f e)=B at pb |-;refine bj ay2 ?_;simp only[go_sem,ag4,AY,aU pb (P1 _ _),bne,af,ao];repeat' ((first|apply oO|apply oE|apply oK|apply oj|apply om|apply oH)<;>intro h<;>simp only[go_sem, *,AY,aU pb (P1 _ _),bne,af,ao])
 all_goals(first|done|exact aA|exact⟨aA,rfl⟩|rfl)
def arZ{e:Nat}(h:e<I f)(hl:I f<=1000000):aK S 165 [kQ F f,aH e] (ja (FZ f e)):=by
 have pb:=K9 (F:=F) h hl;unfold FZ;generalize aY f e=A at pb |-;generalize aY f (aJ f e)=B at pb |-;have j:IntKind.i64.wrap (0+1)=1:=U;have g:IntKind.i64.wrap (1+1)=2:=U;refine bj aBr ?_;cases H:A.over<;>cases m:B.over<;>simp only[go_sem,akP,AY,aU pb (P1 _ _),H,m,j,g,bne,af,ao]
 all_goals rfl
def arC(b c:Int)(hl:I f<=1000000):aK S 134 [c_ F f,.agg [.p (.int .i64 b),.p (.int .i64 c)]] (cO (decide (0<=b)&&(decide (b<=(F:Int))&&(decide (0<=c)&&decide (c<=((an (pQ b) f:Nat):Int)))))):=by
 have g:=afk F f hl b;refine bj ayz ?_;simp only[go_sem,aeI,pX,dp g,bne,af,ao];repeat' ((first|apply oO|apply oE|apply oK|apply oj|apply om|apply oH)<;>intro h<;>simp only[go_sem, *,pX,dp g,bne,af,ao])
 all_goals(first|done|exact aA|exact⟨aA,rfl⟩|rfl)
def V1(f:dt)(p:Nat×Nat)(hl:I f.places<=1000000):aK S 108 [.agg (f.ps.map .p),.agg [.p (.int .i64 p.1),.p (.int .i64 p.2)]] (cO (decide (p∈f.places))):=by
 refine bj as9 ?_;simp only[go_sem,ae9,dt.ps,af,ao];refine dy (λk A aj=>A 2=.one (.bm 6912000000 1 0)/\A 3=.one (.bm 6912000064 1 0)/\A 5=aH k/\aj 6912000000=(1,some (.var [.p (.bool f.eF),.p (.sl (a_ f.bQ)),.p (.sl (eO f.places)),.p (.sl (a_ f.rH)),.p (.bool f.outer)]))/\aj 6912000064=(1,some (.var [.p (.int .i64 p.1),.p (.int .i64 p.2)]))/\ ∀j,j<k->f.places[j]? ≠some p) 0 (I f.places) (cG _) ?_ ?_
 .simp only[go_sem];exact⟨rfl,λj H=>absurd H (pG j)⟩
 rintro k A aj X ⟨g,m,u,b0,B,O⟩
 by_cases D:k<I f.places
 .have E:((k:Int)<(I f.places:Int)):=J;obtain⟨y,x⟩:=aT D;have L:=abk x;have N:=cN (n:=k) J;by_cases z:y=p
  .subst z;have M:decide (y∈f.places)=true:=by simpa using bR x
   simp only[go_sem,Pb,g,m,u,b0,B,E,L,M,tv,uq,af,ao];first|done|exact aA
  have v:∀j,j<k+1->f.places[j]? ≠some p:=λj H=>by
   rcases mQ.1 H with h|rfl
   .exact O j h
   rw[x];intro h;cases h;exact z rfl
  cases F:((y.1:Int)==(p.1:Int))with
  |false=>simp only[go_sem,Pb,g,m,u,b0,B,D,E,L,F,N,tv,uq,af,ao];first|exact v|exact⟨aA,v⟩
  |true=>
   have Q:((y.2:Int)==(p.2:Int))=false:=by
    have T:y.1=p.1:=by have:=dk.1 F;omega
    simp only[sK];intro h;exact z (Prod.ext T J)
   simp only[go_sem,Pb,g,m,u,b0,B,D,E,L,F,Q,N,tv,uq,af,ao];first|exact v|exact⟨aA,v⟩
 have:k=I f.places:=J;subst this;have M:decide (p∈f.places)=false:=by simp only[decide_eq_false_iff_not];intro R;obtain⟨j,H⟩:=j9 R;exact absurd H (O j (cn.1 H).1)
 simp only[go_sem,Pb,aku,g,m,u,b0,eR,M,af,ao]
abbrev ayn(f:dt):RV:=.agg [.p (.bool f.eF),.p (.sl (a_ f.bQ)),.p (.sl (eO f.places)),.p (.sl (a_ f.rH)),.p (.bool f.outer)]
def O5(g:cE F f){e:Nat}(he:e<I f)(l:Bool):aK S 109 [kQ F f,aH e,gE l] (ayn (dF F f (if l then 2*e else 2*e+1))):=by
 have X:=g.len;have M:=rB (a:=e) J;have m3:=cN (n:=2*e) J;have L:∀x:Bool,(if x then 2*e else 2*e+1)<2*I f:=λx=>by cases x<;>simp<;>omega
 have xK:I (dG F f)<=1000000:=by have h1:=g.nw;have h2:=o7 aa.aI f;have H:=o7 aa.aB f;rw[Su];omega
 have m:∀d,d<2*I f->∀Q:hs,(∀A aj,A 6=.one (.bm 6976000064 1 0)->aj 6976000064=(1,some (.var [.p (.bool (dF F f d).eF),.p (.sl (a_ (dF F f d).bQ)),.p (.sl (eO (dF F f d).places)),.p (.sl (a_ (dF F f d).rH)),.p (.bool (dF F f d).outer)]))->Q .ret A aj)->∀A aj,A 3=.one (.bm 6976000000 1 0)->A 6=.one (.bm 6976000064 1 0)->A 7=aH d->A 8=aH 0->aj 6976000000=(1,some (.var (Hd F f)))->aj 6976000064=(1,some (.var [.p (.bool false),.p .nils,.p .nils,.p .nils,.p (.bool false)]))->ch S .all (.loop Uy) (oR 0 (v_ S .all afw Q)) A aj:=by
  intro d L Q hQ A aj H h u y b0 B;obtain⟨j,D,Y,_⟩:=B6 (F:=F) L;have u5:=(cn.1 D).1;refine dy (λk A aj=>k<=j/\A 3=.one (.bm 6976000000 1 0)/\A 6=.one (.bm 6976000064 1 0)/\A 7=aH d/\A 8=aH k/\aj 6976000000=(1,some (.var (Hd F f)))/\aj 6976000064=(1,some (.var [.p (.bool false),.p .nils,.p .nils,.p .nils,.p (.bool false)]))) 0 (I (dG F f)) (cG _) ⟨cG _,H,h,u,y,b0,B⟩ ?_;rintro k A aj hk ⟨Et,H,h,u,y,b0,B⟩
  have N:k<I (dG F f):=J;have O:((k:Int)<(I (dG F f):Int)):=J;obtain⟨R,v⟩:=aT N;have T:=OI v;have Z:=cN (n:=k) J;have xJ:I R.bQ<=1000000:=by have h9:I R.bQ<=2*I f+2*I (aE f):=Kv g.ok (bR v);have kK:I (aE f)<=I f:=sF f (I f);omega
  have z:=DJ R.bQ d xJ;by_cases e:k=j
  .subst e;obtain rfl:R=dF F f d:=rz (v.symm.trans D);have E:decide (d∈(dF F f d).bQ)=true:=by simpa using Y
   rw[E]at z;simp only[go_sem,Uy,H,h,u,y,b0,B,O,T,dt.ps,sd,au z,af,ao];exact hQ _ _ (by simp only[go_sem,h]) (by simp only[go_sem])
  have E:decide (d∈R.bQ)=false:=by simp only[decide_eq_false_iff_not];exactλhh=>absurd (Ro v D hh Y) e
  rw[E]at z;simp only[go_sem,Uy,H,h,u,y,b0,B,N,O,T,dt.ps,sd,au z,Z,af,ao];omega
 refine bj atW ?_;cases l with
 |true=>
  simp only[go_sem,abg,M,af,ao];refine m (2*e) J _ (λA aj h B=>?_) _ _ ?_ ?_ ?_ ?_ ?_ ?_;all_goals simp only[go_sem]
  simp only[go_sem,h,B];rfl
 |false=>
  simp only[go_sem,abg,M,m3,af,ao];refine m (2*e+1) J _ (λA aj h B=>?_) _ _ ?_ ?_ ?_ ?_ ?_ ?_;all_goals simp only[go_sem]
  simp only[go_sem,h,B];rfl
end
abbrev pk(s:ByteArray):V:=.one (.p (.str s))
abbrev GS(s:ByteArray):RV:=.one (.p (.str s))
def adS:aK S 131 [aH 1] (GS ⟨#[65]⟩):=mx S 20 ah
def aeT:aK S 131 [aH 2] (GS ⟨#[65,66,67]⟩):=mx S 20 ah
def ajE:aK S 131 [aH 3] (GS ⟨#[65,66]⟩):=mx S 20 ah
def aew:aK S 131 [aH 4] (GS ⟨#[65]⟩):=mx S 20 ah
def aes:aK S 131 [aH 5] (GS ⟨#[65,79,83]⟩):=mx S 20 ah
def afF:aK S 131 [aH 6] (GS ⟨#[65,66]⟩):=mx S 20 ah
def afZ:aK S 131 [aH 7] (GS ⟨#[65,66,76,79]⟩):=mx S 20 ah
def afS:aK S 131 [aH 8] (GS ⟨#[65,66,67]⟩):=mx S 20 ah
def QW:aK S 132 [pk ⟨#[65]⟩,.one (.p (.int .u8 66))] (cO false):=mx S 30 ah
def TS:aK S 132 [pk ⟨#[65]⟩,.one (.p (.int .u8 67))] (cO false):=mx S 30 ah
def Q4:aK S 132 [pk ⟨#[65]⟩,.one (.p (.int .u8 76))] (cO false):=mx S 30 ah
def VV:aK S 132 [pk ⟨#[65]⟩,.one (.p (.int .u8 79))] (cO false):=mx S 30 ah
def T6:aK S 132 [pk ⟨#[65]⟩,.one (.p (.int .u8 83))] (cO false):=mx S 30 ah
def Vo:aK S 132 [pk ⟨#[65,66]⟩,.one (.p (.int .u8 66))] (cO true):=mx S 30 ah
def UE:aK S 132 [pk ⟨#[65,66]⟩,.one (.p (.int .u8 67))] (cO false):=mx S 30 ah
def Q_:aK S 132 [pk ⟨#[65,66]⟩,.one (.p (.int .u8 76))] (cO false):=mx S 30 ah
def RE:aK S 132 [pk ⟨#[65,66]⟩,.one (.p (.int .u8 79))] (cO false):=mx S 30 ah
def Tx:aK S 132 [pk ⟨#[65,66]⟩,.one (.p (.int .u8 83))] (cO false):=mx S 30 ah
def Um:aK S 132 [pk ⟨#[65,66,67]⟩,.one (.p (.int .u8 66))] (cO true):=mx S 30 ah
def Tn:aK S 132 [pk ⟨#[65,66,67]⟩,.one (.p (.int .u8 67))] (cO true):=mx S 30 ah
def Uo:aK S 132 [pk ⟨#[65,66,67]⟩,.one (.p (.int .u8 76))] (cO false):=mx S 30 ah
def UC:aK S 132 [pk ⟨#[65,66,67]⟩,.one (.p (.int .u8 79))] (cO false):=mx S 30 ah
def Ui:aK S 132 [pk ⟨#[65,66,67]⟩,.one (.p (.int .u8 83))] (cO false):=mx S 30 ah
def ahJ:aK S 132 [pk ⟨#[65,66,76,79]⟩,.one (.p (.int .u8 66))] (cO true):=mx S 30 ah
def an8:aK S 132 [pk ⟨#[65,66,76,79]⟩,.one (.p (.int .u8 67))] (cO false):=mx S 30 ah
def aky:aK S 132 [pk ⟨#[65,66,76,79]⟩,.one (.p (.int .u8 76))] (cO true):=mx S 30 ah
def amu:aK S 132 [pk ⟨#[65,66,76,79]⟩,.one (.p (.int .u8 79))] (cO true):=mx S 30 ah
def ad6:aK S 132 [pk ⟨#[65,66,76,79]⟩,.one (.p (.int .u8 83))] (cO false):=mx S 30 ah
def ajY:aK S 132 [pk ⟨#[65,79,83]⟩,.one (.p (.int .u8 66))] (cO false):=mx S 30 ah
def ag0:aK S 132 [pk ⟨#[65,79,83]⟩,.one (.p (.int .u8 67))] (cO false):=mx S 30 ah
def alf:aK S 132 [pk ⟨#[65,79,83]⟩,.one (.p (.int .u8 76))] (cO false):=mx S 30 ah
def amX:aK S 132 [pk ⟨#[65,79,83]⟩,.one (.p (.int .u8 79))] (cO true):=mx S 30 ah
def afK:aK S 132 [pk ⟨#[65,79,83]⟩,.one (.p (.int .u8 83))] (cO true):=mx S 30 ah
def US:E9 .eql ⟨#[65]⟩ ⟨#[]⟩=some (.bool false):=ah
def Rg:E9 .eql ⟨#[65,66]⟩ ⟨#[]⟩=some (.bool false):=ah
def Rc:E9 .eql ⟨#[65,66,67]⟩ ⟨#[]⟩=some (.bool false):=ah
def ahf:E9 .eql ⟨#[65,66,76,79]⟩ ⟨#[]⟩=some (.bool false):=ah
def ahq:E9 .eql ⟨#[65,79,83]⟩ ⟨#[]⟩=some (.bool false):=ah
def Gf{a b:Int}:decide (a<b)= !decide (b<=a):=by
 by_cases h:a<b
 .have:¬b<=a:=J;simp[h,this]
 have:b<=a:=J;simp[h,this]
section
variable {F:Nat} {f:ai} {a b c:Int} {l o:Bool} {sg:Int}
def asV(F:Nat)(f:ai)(b c:Int):(decide (0<=b)&&(decide (b<=(F:Int))&&(decide (0<=c)&&decide (c<=((an (pQ b) f:Nat):Int)))))=(decide (0<=b)&&(decide (b<=(F:Int))&&(decide (0<=c)&&decide (c<=(bU f b.toNat:Int))))):=by
 by_cases h:0<=b
 .rw[show an (pQ b) f=bU f b.toNat by rw[bU,an,an];congr 1;funext x;exact O4 b h x]
 simp[h]
def aoI(hl:I f<=1000000):aK S 104 [kQ F f,ep 1 a b c l o sg] (cO (!dh F f 1 a b c l o sg)):=by
 unfold dh;simp only[Int.reduceEq,if_true,if_false,false_or,or_false,or_true,true_or,reduceIte,or_self,Gf];refine bj F_ ?_;simp only[go_sem,Ec,vA,uP adS,US,uU,au QW,au TS,au Q4,au VV,au T6,uR,au (iX a),au (iX b),au (iX c),bne,af,ao];repeat' ((first|apply oO|apply oE|apply oK|apply oj|apply om|apply oH)<;>intro h<;>simp only[go_sem, *,vA,uP adS,US,uU,au QW,au TS,au Q4,au VV,au T6,uR,au (iX a),au (iX b),au (iX c),bne,af,ao])
 all_goals(first|done|exact aA|exact⟨aA,rfl⟩|rfl)
def aqG(hl:I f<=1000000):aK S 104 [kQ F f,ep 2 a b c l o sg] (cO (!dh F f 2 a b c l o sg)):=by
 unfold dh;simp only[Int.reduceEq,if_true,if_false,false_or,or_false,or_true,true_or,reduceIte,or_self,Gf];have pl:=arC (F:=F) b c hl;rw[asV]at pl;generalize(decide (0<=b)&&(decide (b<=(F:Int))&&(decide (0<=c)&&decide (c<=(bU f b.toNat:Int)))))=PB at pl |-;have h:(I f==0)=((I f:Int)==0):=by rw[pS];simp
 rw[h];refine bj F_ ?_;simp only[go_sem,Ec,vA,uP aeT,Rc,uU,au Um,au Tn,au Uo,au UC,au Ui,uR,au (iX a),au (iX b),au (iX c),akI,au pl,bne,af,ao];repeat' ((first|apply oO|apply oE|apply oK|apply oj|apply om|apply oH)<;>intro H<;>simp only[go_sem, *,vA,uP aeT,Rc,uU,au Um,au Tn,au Uo,au UC,au Ui,uR,au (iX a),au (iX b),au (iX c),akI,au pl,bne,af,ao])
 all_goals(first|done|exact aA|exact⟨aA,rfl⟩|rfl)
def aqk(hl:I f<=1000000):aK S 104 [kQ F f,ep 4 a b c l o sg] (cO (!dh F f 4 a b c l o sg)):=by
 unfold dh;simp only[Int.reduceEq,if_true,if_false,false_or,or_false,or_true,true_or,reduceIte,or_self,Gf];refine bj F_ ?_;simp only[go_sem,Ec,vA,uP aew,US,uU,au QW,au TS,au Q4,au VV,au T6,uR,au (iX a),au (iX b),au (iX c),bne,af,ao];repeat' ((first|apply oO|apply oE|apply oK|apply oj|apply om|apply oH)<;>intro h<;>simp only[go_sem, *,vA,uP aew,US,uU,au QW,au TS,au Q4,au VV,au T6,uR,au (iX a),au (iX b),au (iX c),bne,af,ao])
 all_goals(first|done|exact aA|exact⟨aA,rfl⟩|rfl)
end
section
variable {F:Nat} {f:ai} {a b c:Int} {l o:Bool} {sg:Int}
def ay8(hl:I f<=1000000):aK S 104 [kQ F f,ep 3 a b c l o sg] (cO (!dh F f 3 a b c l o sg)):=by
 unfold dh;simp only[Int.reduceEq,if_true,if_false,false_or,or_false,or_true,true_or,reduceIte,or_self,Gf];refine bj F_ ?_;simp only[go_sem,Ec,vA,uP ajE,Rg,uU,au Vo,au UE,au Q_,au RE,au Tx,uR,au (iX a),au (iX b),au (iX c),bne,af,ao];repeat' ((first|apply oO|apply oE|apply oK|apply oj|apply om|apply oH)<;>intro h<;>simp only[go_sem, *,vA,uP ajE,Rg,uU,au Vo,au UE,au Q_,au RE,au Tx,uR,au (iX a),au (iX b),au (iX c),bne,af,ao])
 all_goals(first|done|exact aA|exact⟨aA,rfl⟩|rfl)
def aqI(hl:I f<=1000000):aK S 104 [kQ F f,ep 6 a b c l o sg] (cO (!dh F f 6 a b c l o sg)):=by
 unfold dh;simp only[Int.reduceEq,if_true,if_false,false_or,or_false,or_true,true_or,reduceIte,or_self,Gf];refine bj F_ ?_;simp only[go_sem,Ec,vA,uP afF,Rg,uU,au Vo,au UE,au Q_,au RE,au Tx,uR,au (iX a),au (iX b),au (iX c),bne,af,ao];repeat' ((first|apply oO|apply oE|apply oK|apply oj|apply om|apply oH)<;>intro h<;>simp only[go_sem, *,vA,uP afF,Rg,uU,au Vo,au UE,au Q_,au RE,au Tx,uR,au (iX a),au (iX b),au (iX c),bne,af,ao])
 all_goals(first|done|exact aA|exact⟨aA,rfl⟩|rfl)
end
section
variable {F:Nat} {f:ai} {a b c:Int} {l o:Bool} {sg:Int}
def axh(hl:I f<=1000000):aK S 104 [kQ F f,ep 5 a b c l o sg] (cO (!dh F f 5 a b c l o sg)):=by
 unfold dh;simp only[Int.reduceEq,if_true,if_false,false_or,or_false,or_true,true_or,reduceIte,or_self,Gf];refine bj F_ ?_;simp only[go_sem,Ec,vA,uP aes,ahq,uU,au ajY,au ag0,au alf,au amX,au afK,uR,au (iX a),au (iX b),au (iX c),bne,af,ao];repeat' ((first|apply oO|apply oE|apply oK|apply oj|apply om|apply oH)<;>intro h<;>simp only[go_sem, *,vA,uP aes,ahq,uU,au ajY,au ag0,au alf,au amX,au afK,uR,au (iX a),au (iX b),au (iX c),bne,af,ao])
 all_goals(first|done|exact aA|exact⟨aA,rfl⟩|rfl)
def aos(hl:I f<=1000000):aK S 104 [kQ F f,ep 7 a b c l o sg] (cO (!dh F f 7 a b c l o sg)):=by
 unfold dh;simp only[Int.reduceEq,if_true,if_false,false_or,or_false,or_true,true_or,reduceIte,or_self,Gf];refine bj F_ ?_;simp only[go_sem,Ec,vA,uP afZ,ahf,uU,au ahJ,au an8,au aky,au amu,au ad6,uR,au (iX a),au (iX b),au (iX c),bne,af,ao];repeat' ((first|apply oO|apply oE|apply oK|apply oj|apply om|apply oH)<;>intro h<;>simp only[go_sem, *,vA,uP afZ,ahf,uU,au ahJ,au an8,au aky,au amu,au ad6,uR,au (iX a),au (iX b),au (iX c),bne,af,ao])
 all_goals(first|done|exact aA|exact⟨aA,rfl⟩|rfl)
def axP(hl:I f<=1000000):aK S 104 [kQ F f,ep 8 a b c l o sg] (cO (!dh F f 8 a b c l o sg)):=by
 unfold dh;simp only[Int.reduceEq,if_true,if_false,false_or,or_false,or_true,true_or,reduceIte,or_self,Gf];refine bj F_ ?_;simp only[go_sem,Ec,vA,uP afS,Rc,uU,au Um,au Tn,au Uo,au UC,au Ui,uR,au (iX a),au (iX b),au (iX c),bne,af,ao];repeat' ((first|apply oO|apply oE|apply oK|apply oj|apply om|apply oH)<;>intro h<;>simp only[go_sem, *,vA,uP afS,Rc,uU,au Um,au Tn,au Uo,au UC,au Ui,uR,au (iX a),au (iX b),au (iX c),bne,af,ao])
 all_goals(first|done|exact aA|exact⟨aA,rfl⟩|rfl)
end
section
variable {F:Nat} {f:ai}
def aDf(f:Nat->Bool)(l:aF)(k e:Nat)(h:l[k]?=some e):(l.take (k+1)).all f=((l.take k).all f&&f e):=by rw[jT,h];simp
abbrev H3(f:dt)(e:Nat):Bool:= !(decide (2*e∈f.bQ)==decide (2*e+1∈f.bQ))
def Xi(g:cE F f)(pl:Nat)(E:aF)(mv:∀e∈E,e<I f)(eh:I E<=1000):aK S 164 [kQ F f,.one (.p (.sl (a_ E))),aH pl] (cO (vF F f pl E)):=by
 have ag:=g.len;have xK:I (dG F f)<=1000000:=by have Q:=g.nw;have H:=o7 aa.aI f;have T:=o7 aa.aB f;rw[Su];omega
 refine bj aul ?_;simp only[go_sem,afc,af,ao];refine dy (λi A aj=>A 1=.one (.p (.sl (a_ E)))/\A 2=aH pl/\A 3=.one (.bm 10496000000 1 0)/\A 7=aH i/\aj 10496000000=(1,some (.var (Hd F f)))/\ ∀j m,j<i->(dG F f)[j]?=some m->De pl E m=false) 0 (I (dG F f)) (cG _) ?_ ?_
 .simp only[go_sem];exact⟨rfl,λj m Z=>absurd Z (pG j)⟩
 rintro i A aj hi ⟨Q,H,T,h7,b0,hn⟩
 by_cases aw:i<I (dG F f)
 .have aM:((i:Int)<(I (dG F f):Int)):=J;obtain⟨m,R⟩:=aT aw;have eV:=OI R;have w1:=cN (n:=i) J;have xJ:I m.bQ<=1000000:=by
   have h9:I m.bQ<=2*I f+2*I (aE f):=Kv g.ok (bR R);have kK:I (aE f)<=I f:=sF f (I f);omega
  have Gk:De pl E m=((((I m.bQ:Int)==(I E:Int))&&((I m.places:Int)==(pl:Int)))&&E.all (H3 m)):=by unfold De;rw[Ig,Ig,MP]
  generalize zV:(((I m.bQ:Int)==(I E:Int))&&((I m.places:Int)==(pl:Int)))=c0 at Gk;have ac:∀z bG g1,z 1=.one (.p (.sl (a_ E)))->z 2=aH pl->z 3=.one (.bm 10496000000 1 0)->z 7=aH i->bG 10496000000=(1,some (.var (Hd F f)))->z 8=.one (.bm 10496256320 g1 0)->z 9=gE c0->z 10=aH 0->bG 10496256320=(g1,some (.var [.p (.bool m.eF),.p (.sl (a_ m.bQ)),.p (.sl (eO m.places)),.p (.sl (a_ m.rH)),.p (.bool m.outer)]))->
    ch S .all (.loop Kk) (oR 2 (v_ S .all Ts (oR 1 (v_ S .all ac3 (N_ (I (dG F f)) (λi A aj=>A 1=.one (.p (.sl (a_ E)))/\A 2=aH pl/\A 3=.one (.bm 10496000000 1 0)/\A 7=aH i/\aj 10496000000=(1,some (.var (Hd F f)))/\ ∀j m,j<i->(dG F f)[j]?=some m->De pl E m=false) i (oR 0 (v_ S .all Y7 (sO .all [(6,none)] λv aj=>iR aj v=some (cO (vF F f pl E)))))))))) z bG:=by
   intro z bG g1 M Y O N kb k8 u X B;refine dy (λk A aj=>A 1=.one (.p (.sl (a_ E)))/\A 2=aH pl/\A 3=.one (.bm 10496000000 1 0)/\A 7=aH i/\aj 10496000000=(1,some (.var (Hd F f)))/\A 8=.one (.bm 10496256320 g1 0)/\A 9=gE (c0&&(E.take k).all (H3 m))/\A 10=aH k/\aj 10496256320=(g1,some (.var [.p (.bool m.eF),.p (.sl (a_ m.bQ)),.p (.sl (eO m.places)),.p (.sl (a_ m.rH)),.p (.bool m.outer)]))) 0 (I E) (cG _) ⟨M,Y,O,N,kb,k8,by rw[u];simp,X,B⟩ ?_;rintro k dK bh hk ⟨M,Y,O,N,kb,k8,u,X,B⟩
   by_cases L:k<I E
   .have ad:((k:Int)<(I E:Int)):=J;obtain⟨e,he⟩:=aT L;have zY:=mv e (bR he);have CW:=jG he;have wk:=cN (n:=k) J;have m2:=rB (a:=e) J;have m3:=cN (n:=2*e) J;have p1:=DJ m.bQ (2*e) xJ;have p2:=DJ m.bQ (2*e+1) xJ;have ae:=aDf (H3 m) E k e he;generalize(E.take k).all (H3 m)=x at u ae;cases y:(c0&&x)with
    |false=>
     rw[y]at u;have D:(c0&&(x&&H3 m e))=false:=by rw[<-MP,y];rfl
     simp only[go_sem,Kk,M,Y,O,N,kb,k8,u,X,B,L,ad,wk,ae,D,af,ao];exact aA
    |true=>
     rw[y]at u;have D:(c0&&(x&&H3 m e))=H3 m e:=by rw[<-MP,y];rfl
     simp only[go_sem,Kk,M,Y,O,N,kb,k8,u,X,B,L,ad,wk,ae,D,CW,m2,m3,sd,dq p1,dq p2,af,ao];exact aA
   have:k=I E:=J;subst this;rw[lA,<-Gk]at u;cases D:De pl E m with
   |true=>have ha:vF F f pl E:=G_.2 ⟨m,bR R,D⟩;rw[D]at u;simp only[go_sem,Kk,Ts,M,Y,O,N,u,X,eR,ha,af,ao]
   |false=>
    rw[D]at u;simp only[go_sem,Kk,Ts,ac3,M,Y,O,N,kb,u,X,eR,w1,aw,af,ao];intro j f' Z HO;rcases mQ.1 Z with h|rfl
    .exact hn j f' h HO
    rw[R]at HO;cases HO;exact D
  cases hA:((I m.bQ:Int)==(I E:Int))with
  |false=>rw[hA]at zV;simp only[zq]at zV;subst zV;simp only[go_sem,UW,Q,H,T,h7,b0,aM,eV,dt.ps,hA,af,ao];refine ac _ _ ((aj 10496256320).1+1) ?_ ?_ ?_ ?_ ?_ ?_ ?_ ?_ ?_ <;>simp only[go_sem,Q,H,T,h7,b0]
  |true=>rw[hA]at zV;simp only[sf]at zV;simp only[go_sem,UW,Q,H,T,h7,b0,aM,eV,dt.ps,hA,zV,af,ao];refine ac _ _ ((aj 10496256320).1+1) ?_ ?_ ?_ ?_ ?_ ?_ ?_ ?_ ?_ <;>simp only[go_sem,Q,H,T,h7,b0]
 have:i=I (dG F f):=J;subst this;have ha:vF F f pl E=false:=by
  cases h:vF F f pl E with
  |false=>rfl
  |true=>obtain⟨m,R,H⟩:=G_.1 h;obtain⟨j,Z⟩:=j9 R;rw[hn j m (cn.1 Z).1 Z]at H;cases H
 simp only[go_sem,UW,Y7,Q,H,T,h7,b0,eR,ha,af,ao]
end
section
variable {F:Nat} {f:ai}
def Ut(g:cE F f){i:Nat}(h:i<I f):Ll (aY f i):=by have hp:=oJ (jx h);exact Hh g _ (bR hp)
def Dm{e:Nat}(h:e<I f):aJ f e<I f:=fk _ J
def am1(g:cE F f){e:Nat}(h:e<I f):Ll (kY f e).2.1:=by
 unfold kY;split
 .exact Ut g h
 exact Ut g (Dm h)
def Hw(F:Nat)(f:ai)(a b:Nat):Bool:=(kY f a).2.2&&((kY f b).2.2&&(((kY f a).1.id==(kY f b).1.id)&&(!((kY f a).1.over==(kY f b).1.over)&&(yX (kY f a).2.1 (kY f b).2.1&&vF F f 1 [a,b]))))
def ayU(g:cE F f)(v:m<I f)(H:n<I f):aK S 136 [kQ F f,aH m,aH n] (cO (Hw F f m n)):=by
 have z:=g.len;have u:=Tu (F:=F) v J;have pb:=Tu (F:=F) H J;have j:=amI _ _ (am1 g v) (am1 g H);have h:=Xi g 1 [m,n] (by simp;omega) aP;simp only[eJ,lr]at h;have A:((1:Nat):Int)=1:=rfl;rw[A]at h;unfold Hw;generalize kY f m=M at*;generalize kY f n=bY at*;obtain⟨x,p,is⟩:=M;obtain⟨y,q,T⟩:=bY;simp only at u pb j h |-;refine bj atS ?_;simp only[go_sem,aju,aaY,aU u (zF _ _ _),aU pb (zF _ _ _),UN,au j,OY,au h,bne,af,ao];repeat' ((first|apply oO|apply oE|apply oK|apply oj|apply om|apply oH)<;>intro B<;>simp only[go_sem, *,aaY,aU u (zF _ _ _),aU pb (zF _ _ _),UN,au j,OY,au h,bne,af,ao])
 all_goals(first|done|exact aA|exact⟨aA,rfl⟩|rfl)
def I4(F:Nat)(f:ai)(a b:Nat):Bool:=
 rS f a&&(rS f b&&(!((aY f a).id==(aY f (aJ f a)).id)&&(!((((a+2)%I f:Nat):Int)==(b:Int))&&(!((((b+2)%I f:Nat):Int)==(a:Int))&&
  (((((aY f a).id==(aY f b).id)&&((aY f (aJ f a)).id==(aY f (aJ f b)).id))||(((aY f a).id==(aY f (aJ f b)).id)&&((aY f (aJ f a)).id==(aY f b).id)))&&
   (((aY f a).over==(aY f (aJ f a)).over)&&(((aY f b).over==(aY f (aJ f b)).over)&&(!((aY f a).over==(aY f b).over)&&vF F f 0 [a,b]))))))))
def awP(g:cE F f)(M:m<I f)(L:n<I f):aK S 138 [kQ F f,aH m,aH n] (cO (I4 F f m n)):=by
 have H:=g.len;have B:=Vu (F:=F) M J;have pb:=Vu (F:=F) L J;have A:=Xi g 0 [m,n] (by simp;omega) aP;simp only[eJ,lr]at A;have N:((0:Nat):Int)=0:=rfl;rw[N]at A;have D:¬((I f:Int)=0):=J;have z:IntKind.i64.wrap ((m:Int)+2)=((m+2:Nat):Int):=(kA (x:=(m:Int)+2) J J).trans J;have h:=tB (m+2) (I f);have j:IntKind.i64.wrap ((n:Int)+2)=((n+2:Nat):Int):=(kA (x:=(n:Int)+2) J J).trans J;have E:=tB (n+2) (I f);unfold I4;generalize rS f m=is at*;generalize rS f n=T at*;generalize aY f m=x at*;generalize aY f (aJ f m)=y at*;generalize aY f n=u at*;generalize aY f (aJ f n)=v at*;refine bj avs ?_
 simp only[go_sem,ajd,FB,aU B (zF _ _ _),aU pb (zF _ _ _),z,h,j,E,D,OY,au A,bne,af,ao];repeat' ((first|apply oO|apply oE|apply oK|apply oj|apply om|apply oH)<;>intro O<;>simp only[go_sem, *,FB,aU B (zF _ _ _),aU pb (zF _ _ _),z,h,j,E,D,OY,au A,bne,af,ao])
 all_goals(first|done|exact aA|exact⟨aA,rfl⟩|rfl)
end
section
variable {F:Nat} {f:ai}
def jn(l:dd)(x:Int):dd:=if x∈l then l else l++[x]
def B2(f:ai)(l:dd)(e:Nat):dd:=jn (jn l (aY f e).id) (aY f (aJ f e)).id
def vl(f:ai)(E:aF):aF:=E.flatMap λe=>[e,aJ f e]
def r9(f:ai)(E:aF):dd:=E.map (FZ f)
def mS(f:ai)(E:aF):dd:=E.foldl (B2 f) []
def AX(f:ai)(E:aF)(j:Nat):Bool:=match E[j]? with|some e=>rS f e&&(!decide (e∈vl f (E.take j))&& !decide (aJ f e∈vl f (E.take j)))|none=>true
def ER(F:Nat)(f:ai)(E:aF):Bool:=(List.range (I E)).all (AX f E)&&((I (mS f E)==3)&&(decide ((2:Int)∈r9 f E)&&(decide ((0:Int)∈r9 f E)&&vF F f 0 E)))
def acg(E:aF):I (vl f E)=2*I E:=by
 unfold vl
 induction E with
 |nil=>rfl
 |cons a r g=>rw[Jm,gT,g,dW];simp;omega
def asA(l:dd)(e:Nat):I (B2 f l e)<=I l+2:=by
 unfold B2 jn;repeat' split
 all_goals simp
def KT(E:aF):I (mS f E)<=2*I E:=by
 unfold mS;have:∀(E:aF) (l:dd),I (E.foldl (B2 f) l)<=I l+2*I E:=by
  intro E
  induction E with
  |nil=>intro l;simp
  |cons a r g=>intro l;have H:=g (B2 f l a);have h:=asA (f:=f) l a;simp only[sh,dW];omega
 have:=this E []
 simpa using this
def axK(g:cE F f){cv:Nat}(ha:m<I f)(hb:n<I f)(hc:cv<I f):aK S 139 [kQ F f,aH m,aH n,aH cv] (cO (ER F f [m,n,cv])):=by
 have bu:=g.len;have mv:∀e∈[m,n,cv],e<I f:=λe h=>by simp at h;rcases h with rfl|rfl|rfl<;>assumption
 have po:=Xi g 0 [m,n,cv] mv aP;have c1:((0:Nat):Int)=0:=rfl;rw[c1]at po;have HZ:a_ [m,n,cv]=[[.int .i64 m],[.int .i64 n],[.int .i64 cv]]:=rfl;generalize hE:[m,n,cv]=E at*;have eh:I E=3:=by rw[<-hE];rfl
 refine bj aBv ?_;simp only[go_sem,anI,af,ao];refine dy (λj ak aj=>ak 4=.one (.bm 8896000000 1 0)/\ak 9=.one (.hsl 8896064192 1 1 0 3)/\ak 13=aH j/\aj 8896000000=(1,some (.var (Hd F f)))/\aj 8896064192=(1,some (.arr 3 1 (a_ E)))/\(∀i,i<j->AX f E i)/\
  ∃aq ad a1,∃u,ak 10=.one aq/\ak 11=.one ad/\ak 12=.one a1/\(u=8896832256\/u=8896960256)/\cg 8896640768 3 1 (a_ (vl f (E.take j))) (.one aq) aj/\cg u 3 1 (fy (mS f (E.take j))) (.one ad) aj/\cg 8896704512 3 1 (fy (r9 f (E.take j))) (.one a1) aj) 0 3 (cG _) ?_ ?_
 .simp only[go_sem];exact⟨rfl,by rw[HZ],λi hi=>absurd hi (pG i),_,_,_,8896832256,rfl,rfl,rfl,.inl rfl,cg.nil,cg.nil,cg.nil⟩
 rintro j ak aj hj ⟨H,x,M,b0,B,aG,aq,ad,a1,u,Y,z,L,A,a0,ap,a6⟩
 have u5:I (E.take j)<=3:=by rw[gX];omega
 by_cases Q:j<3
 .have aM:((j:Int)<3):=J;obtain⟨e,he⟩:=aT (L:=E) (k:=j) J;have zY:=mv e (bR he);have CW:=jG he;have w1:=cN (n:=j) J;have pc:=Vu (F:=F) zY J;have pe:=BG (F:=F) zY J;have pl:=arZ (F:=F) zY J;have p1:=DJ (vl f (E.take j)) e (by rw[acg];omega);have p2:=DJ (vl f (E.take j)) (aJ f e) (by rw[acg];omega);obtain⟨bx,aL,a5⟩:=a0.GJ;have D:AX f E j=(rS f e&&(!decide (e∈vl f (E.take j))&& !decide (aJ f e∈vl f (E.take j)))):=by unfold AX;rw[he]
  have dM:AX f E j=false->ER F f E=false:=λh=>by
   have:(List.range (I E)).all (AX f E)=false:=by
    cases hh:(List.range (I E)).all (AX f E)with
    |false=>rfl
    |true=>rw[kr.1 hh j (gN.2 J)]at h;cases h
   unfold ER;rw[this];rfl
  cases cr:rS f e with
  |false=>rw[cr]at D;rw[dM D];rw[cr]at pc;simp only[go_sem,Cx,H,x,Y,z,L,M,b0,B,Q,aM,CW,FB,fp pc (zF _ _ _)];first|done|exact aA|exact⟨aA,rfl⟩|exact⟨aA,aA,rfl⟩
  |true=>
   rw[cr]at D pc;cases m1:decide (e∈vl f (E.take j))with
   |true=>rw[m1]at D p1;rw[dM D];simp only[go_sem,Cx,H,x,Y,z,L,M,b0,B,Q,aM,CW,aL,FB,fp pc (zF _ _ _),sd,dq p1];refine⟨aA,?_⟩;rcases a5 with rfl|rfl<;>exact aA
   |false=>
    rw[m1]at D p1;cases m2:decide (aJ f e∈vl f (E.take j))with
    |true=>rw[m2]at D p2;rw[dM D];simp only[go_sem,Cx,H,x,Y,z,L,M,b0,B,Q,aM,CW,aL,FB,fp pc (zF _ _ _),sd,dq p1,dq p2,w9,dp pe];refine⟨aA,?_⟩;rcases a5 with rfl|rfl<;>exact aA
    |false=>
     rw[m2]at D p2;simp only[go_sem,Cx,H,x,Y,z,L,M,b0,B,Q,aM,CW,aL,FB,fp pc (zF _ _ _),sd,dq p1,dq p2,w9,dp pe];refine⟨aA,?_,?_⟩
     .rcases a5 with rfl|rfl<;>exact aA
     have n1:u≠8896640768:=by rcases A with rfl|rfl<;>decide
     have n2:u≠8896704512:=by rcases A with rfl|rfl<;>decide
     have n3:u≠8896448640:=by rcases A with rfl|rfl<;>decide
     have n4:u≠8896448704:=by rcases A with rfl|rfl<;>decide
     have n5:u≠8896640704:=by rcases A with rfl|rfl<;>decide
     have n6:u≠8896704448:=by rcases A with rfl|rfl<;>decide
     refine qe (B:=[[.int .i64 (e:Nat)],[.int .i64 ((e+1)%I f:Nat)]]) (a0.of_eq (by simp only[go_sem])) (by simp only[js,cD,if_true];rfl) (.inl rfl) (by simp only[Nx,acg,dW,fU];omega) λag bG r w bs ba hw=>?_;have q0:=ba 8896000000 U U;have q9:=ba 8896064192 U U;have a8:=ba 8896448640 U U;have be:=ba 8896448704 U U;have a9:=ba 8896704512 U U;have Dy:=ba u n1 n1;simp only[go_sem,b0,B,n3,n4,n5]at q0 q9 a8 be a9 Dy;have bp:=a6.of_eq a9;have bk:=ap.of_eq Dy;simp only[go_sem,H,x,L,M,q0,q9,Q,aM,CW,avP,dp pl];refine⟨?_,?_⟩
     .rcases hw with⟨rfl,rfl⟩|⟨rfl,rfl⟩|⟨rfl,rfl⟩<;>kernel_rfl
     refine qe (B:=[[.int .i64 (FZ f e)]]) (bp.of_eq (bK U)) (by simp only[js,cD,if_true];rfl) (.inl rfl) (by simp[r9];omega) λac bh r2 w2 ar aW gJ=>?_;have a2:=bs.of_eq ((aW 8896640768 U U).trans (bK U));have p0:=aW 8896000000 U U;have p9:=aW 8896064192 U U;have Ds:=aW 8896448640 U U;have Dt:=aW 8896448704 U U;have QU:=aW u n2 n2;simp only[go_sem,q0,q9,a8,be,n6]at p0 p9 Ds Dt QU;have O1:=bk.of_eq QU;have X:a_ (vl f (E.take (j+1)))=a_ (vl f (E.take j))++[[.int .i64 (e:Nat)],[.int .i64 ((e+1)%I f:Nat)]]:=by rw[jT,he,vl,vl];simp
     have Z:fy (r9 f (E.take (j+1)))=fy (r9 f (E.take j))++[[.int .i64 (FZ f e)]]:=by rw[jT,he,r9,r9];simp
     have O:mS f (E.take (j+1))=jn (jn (mS f (E.take j)) (aY f e).id) (aY f (aJ f e)).id:=by rw[jT,he];simp[mS,BN,B2]
     have TV:∀i,i<j+1->AX f E i:=λi hi=>by
      rcases mQ.1 hi with h|rfl
      .exact aG i h
      rw[D];rfl
     simp only[go_sem,H,x,z,M,p0,p9,Ds,Dt];refine⟨?_,?_⟩
     .rcases gJ with⟨rfl,rfl⟩|⟨rfl,rfl⟩|⟨rfl,rfl⟩<;>kernel_rfl
     have m0:8896000000≠u:=by rcases A with rfl|rfl<;>decide
     have m9:8896064192≠u:=by rcases A with rfl|rfl<;>decide
     have m3:u≠8896832192:=by rcases A with rfl|rfl<;>decide
     have m4:u≠8896960192:=by rcases A with rfl|rfl<;>decide
     have bn:8896448640≠u:=n3.symm;have bi:8896448704≠u:=n4.symm;have Kr:=Lg (mS f (E.take j)) (aY f e).id (by have:=KT (f:=f) (E.take j);omega);obtain⟨bw,bg,_⟩:=O1.GJ;cases hx:decide ((aY f e).id∈mS f (E.take j))with
     |true=>
      rw[hx]at Kr;simp only[go_sem,H,x,z,M,p0,p9,Ds,Dt,bg,sd,au Kr];have Pk:jn (mS f (E.take j)) (aY f e).id=mS f (E.take j):=by rw[jn,aD (pJ hx)]
      have y:=Lg (mS f (E.take j)) (aY f (aJ f e)).id (by have:=KT (f:=f) (E.take j);omega);obtain⟨bd,v,_⟩:=O1.GJ;cases R:decide ((aY f (aJ f e)).id∈mS f (E.take j))with
      |true=>
       rw[R]at y;have hI:mS f (E.take (j+1))=mS f (E.take j):=by rw[O,Pk,jn,aD (pJ R)]
       simp only[go_sem,H,x,M,z,p0,p9,Ds,Dt,v,sd,au y,w1,Q];exact⟨TV,ag,ad,ac,u,rfl,rfl,rfl,A,by rw[X];exact a2,by rw[hI];exact O1,by rw[Z];exact ar⟩
      |false=>
       rw[R]at y;have hI:fy (mS f (E.take (j+1)))=fy (mS f (E.take j))++[[.int .i64 (aY f (aJ f e)).id]]:=by rw[O,Pk,jn,aC (iY R)];simp
       simp only[go_sem,H,x,M,z,p0,p9,Ds,Dt,v,sd,au y];refine th (B:=[[.int .i64 (aY f (aJ f e)).id]]) (O1.of_eq (bK (m4))) (by simp only[js,cD,if_true];rfl) (.inl rfl) (by have:=KT (f:=f) (E.take j);simp only[sT,gT,dW,fU];omega) λLD bq ge F5=>?_;have z0:=F5 8896000000 U m0;have z9:=F5 8896064192 U m9;simp only[go_sem,p0,p9]at z0 z9;have az:=a2.of_eq ((F5 8896640768 U n1.symm).trans (bK U));have a3:=ar.of_eq ((F5 8896704512 U n2.symm).trans (bK U));simp only[go_sem,H,x,M,z0,z9,w1,Q];exact⟨TV,ag,LD,ac,8896960256,rfl,rfl,rfl,.inr rfl,by rw[X];exact az,by rw[hI];exact ge,by rw[Z];exact a3⟩
     |false=>
      rw[hx]at Kr;simp only[go_sem,H,x,z,M,p0,p9,Ds,Dt,bg,sd,au Kr];have Pk:jn (mS f (E.take j)) (aY f e).id=mS f (E.take j)++[(aY f e).id]:=by rw[jn,aC (iY hx)]
      refine th (B:=[[.int .i64 (aY f e).id]]) (O1.of_eq (bK m3)) (by simp only[js,cD,if_true];rfl) (.inl rfl) (by have:=KT (f:=f) (E.take j);simp only[sT,dW,fU];omega) λam br ga L8=>?_;have y0:=L8 8896000000 U m0;have y9:=L8 8896064192 U m9;have aO:=L8 8896448640 U bn;have a4:=L8 8896448704 U bi;simp only[go_sem,p0,p9,Ds,Dt]at y0 y9 aO a4;have bc:=a2.of_eq ((L8 8896640768 U n1.symm).trans (bK U));have bf:=ar.of_eq ((L8 8896704512 U n2.symm).trans (bK U));have a7:cg 8896832256 3 1 (fy (mS f (E.take j)++[(aY f e).id])) (.one am) br:=by rw[fy,kP];exact ga
      have y:=Lg (mS f (E.take j)++[(aY f e).id]) (aY f (aJ f e)).id (by have:=KT (f:=f) (E.take j);simp only[gT,dW,fU];omega);obtain⟨bd,v,_⟩:=a7.GJ;cases R:decide ((aY f (aJ f e)).id∈mS f (E.take j)++[(aY f e).id])with
      |true=>
       rw[R]at y;have hI:mS f (E.take (j+1))=mS f (E.take j)++[(aY f e).id]:=by rw[O,Pk,jn,aD (pJ R)]
       simp only[go_sem,H,x,M,y0,y9,aO,a4,v,sd,au y,w1,Q];exact⟨TV,ag,am,ac,8896832256,rfl,rfl,rfl,.inl rfl,by rw[X];exact bc,by rw[hI];exact a7,by rw[Z];exact bf⟩
      |false=>
       rw[R]at y;have hI:fy (mS f (E.take (j+1)))=fy (mS f (E.take j)++[(aY f e).id])++[[.int .i64 (aY f (aJ f e)).id]]:=by rw[O,Pk,jn,aC (iY R)];simp
       simp only[go_sem,H,x,M,y0,y9,aO,a4,v,sd,au y];refine th (B:=[[.int .i64 (aY f (aJ f e)).id]]) (a7.of_eq (bK U)) (by simp only[js,cD,if_true];rfl) (.inl rfl) (by have:=KT (f:=f) (E.take j);simp only[sT,gT,dW,fU];omega) λLD bq ge F5=>?_;have z0:=F5 8896000000 U U;have z9:=F5 8896064192 U U;simp only[go_sem,y0,y9]at z0 z9;have az:=bc.of_eq ((F5 8896640768 U U).trans (bK U));have a3:=bf.of_eq ((F5 8896704512 U U).trans (bK U));simp only[go_sem,H,x,M,z0,z9,w1,Q];exact⟨TV,ag,LD,ac,8896960256,rfl,rfl,rfl,.inr rfl,by rw[X];exact az,by rw[hI];exact ge,by rw[Z];exact a3⟩
 have:j=3:=J;subst this;have ht:E.take 3=E:=by rw[<-hE];rfl
 rw[ht]at a0 ap a6;have ef:(List.range (I E)).all (AX f E):=by rw[kr];intro i hi;exact aG i (by have:=gN.1 hi;omega)
 have bo:ER F f E=(((I (mS f E):Int)==3)&&(decide ((2:Int)∈r9 f E)&&(decide ((0:Int)∈r9 f E)&&vF F f 0 E))):=by unfold ER;rw[ef,Ig];rfl
 rw[bo];have Cv:¬(((3:Nat):Int)<3):=U;have y:=Lg (r9 f E) 2 (by simp[r9];omega);have T:=Lg (r9 f E) 0 (by simp[r9];omega);obtain⟨bC,Vv,_⟩:=a6.GJ;have N:3<=I E:=J;have JS:List.take 3 (a_ E)=a_ E:=fx (by rw[Nx];omega);rcases ap with⟨LD,q⟩|⟨_,gg,q,bb⟩
 .cases q;have e0:mS f E=[]:=by simpa using LD
  rw[e0];simp only[go_sem,Cx,K5,H,x,Y,z,L,M,b0,B,Cv,show((((0:Nat):Int))==3)=false from rfl];try rfl
 cases q;cases q1:((I (mS f E):Int)==3)with
 |false=>simp only[go_sem,Cx,K5,H,x,Y,z,L,M,b0,B,Cv,sT,Vv,JS,N,q1];try rfl
 |true=>
  cases q2:decide ((2:Int)∈r9 f E)with
  |false=>rw[q2]at y;simp only[go_sem,Cx,K5,H,x,Y,z,L,M,b0,B,Cv,sT,Vv,JS,N,q1,sd,au y];try rfl
  |true=>
   rw[q2]at y;cases q3:decide ((0:Int)∈r9 f E)with
   |false=>rw[q3]at T;simp only[go_sem,Cx,K5,H,x,Y,z,L,M,b0,B,Cv,sT,Vv,JS,N,q1,sd,au y,au T];try rfl
   |true=>rw[q3]at T;simp only[go_sem,Cx,K5,H,x,Y,z,L,M,b0,B,Cv,sT,Vv,JS,N,q1,sd,au y,au T,OY,au po];try rfl
end
def WZ(l:dS):ao 1 (dB l):=by simp[ao]
def aeX(l:dS):((dB l).all λe=>e.all PV.scalar):=by simp[PV.scalar]
def atT(a b:dS):dB (a++b)=dB a++dB b:=kP
def mV(l:ai):I (bP l)=I l:=cY _
def D6(l:dS):I (dB l)=I l:=cY _
def W1{f T Z:Nat}{E fs:q_}{c d:dI}{aj:aN}(ae:x≠f)(h:cg x y z E (.one c) aj)(n:cg f T Z fs (.one d) aj):iR aj (.agg [c,d])=some (.agg [cF y z E,cF T Z fs]):=by obtain⟨A,o,v,g,j⟩:=h.ij;cases v;obtain⟨D,q,H,m,u⟩:=n.ij;cases H;rcases j with rfl|rfl<;>rcases u with rfl|rfl<;>simp[iR,n_,lX,kS,g,m,mg,pK,oh,ae]
def Gw(f:ai)(k:Nat):dS:=(List.range k).map (bN f)
abbrev fL(ls:ai):dS:=Gw ls (I ls)
def axD(f:ai)(k:Nat):dB (Gw f (k+1))=dB (Gw f k)++[[.bool (bN f k)]]:=by simp[Gw,rN]
def ash(f:ai)(k:Nat):I (Gw f k)=k:=by simp[Gw]
def axA(F:Int)(f:ai)(hl:I f<=1000000):aK S 106 [c_ F f] (.one (cF 4 1 (dB (fL f)))):=by
 refine bj ayi ?_;simp only[go_sem,ae0];refine dy (λk A aj=>A 1=.one (.bm 6784000000 1 0)/\A 4=aH k/\aj 6784000000=(1,some (.var (qg F f)))/\ ∃c,A 3=.one c/\cg 6784320320 4 1 (dB (Gw f k)) (.one c) aj) 0 (I f) (cG _) ?_ ?_
 .simp only[go_sem];exact⟨rfl,_,rfl,cg.nil⟩
 rintro k A aj E ⟨H,h,b0,c,j,g⟩
 by_cases x:k<I f
 .have z:((k:Int)<(I f:Int)):=J;have u:=cN (n:=k) J;have y:=I_ F f k hl J;simp only[go_sem,abn,H,j,h,b0,z,zP,au y];refine th (B:=[[.bool (bN f k)]]) (g.of_eq (bK U)) (by simp only[js,cD,if_true];rfl) (.inl rfl) (by simp[ash];omega) λm D B v=>?_;have Q:=v 6784000000 U U;simp only[go_sem,b0]at Q;simp only[go_sem,H,h,u,x,Q];exact⟨m,rfl,by rw[axD];exact B⟩
 have:k=I f:=J;subst this;simp only[go_sem,abn,akU,H,j,h,b0,eR];exact wX g
def EX(F:Int)(f:ai)(hl:I f<=1000000):aK S 73 [c_ F f] (.agg [cF eo 6 (bP f),cF 4 1 (dB (fL f))]):=by have n:=axA F f hl;have lo:S.lone 4672064256=false:=ah;refine bj aCC ?_;simp only[go_sem,alw];refine qe (id:=4672064128) (bytes:=48) cg.nil (B:=bP f) (rd:=[]) rfl (.inr (vL _)) (by simp;omega) λD x r w g1 B h=>?_;rw[iZ]at g1;have Q:=B 4672000000 U U;have g:=B 4672000064 U U;simp only[go_sem]at Q g;simp only[go_sem,Q,aCD];refine lU n lo (.inr (fN (aeX _))) λv y z u A m=>?_;have O:=g1.of_eq (A 4672064128 U);have j:=(A 4672000064 U).trans g;simp only[go_sem,j];refine⟨?_,W1 U (O.of_eq (bK U)) (u.of_eq (bK U))⟩;rcases h with⟨rfl,rfl⟩|⟨rfl,rfl⟩|⟨rfl,rfl⟩<;>rcases m with rfl|rfl<;>kernel_rfl
def Z_(F:Int)(f:ai)(hl:I f<=1000000):aK S 44 [c_ F f] (.agg [.p (.int .i64 F),cF eo 6 (bP f)]):=by refine bj aze ?_;simp only[go_sem,anH];refine qe (id:=2816064256) (bytes:=48) cg.nil (B:=bP f) (rd:=[]) rfl (.inr (vL _)) (by simp;omega) λj g r w g1 B h=>?_;rw[iZ]at g1;have Q:=B 2816000064 U U;simp only[go_sem]at Q;simp only[go_sem,Q];refine⟨?_,Fb (g1.of_eq (bK U))⟩;rcases h with⟨rfl,rfl⟩|⟨rfl,rfl⟩|⟨rfl,rfl⟩<;>kernel_rfl
def G0(L:ai)(D:dS)(i:Nat):Bool:=match L[i]?,D[i]? with|some l,some d=>(l.kind==1)&&d|_,_=>false
def Ja(L:ai)(D:dS):eC:=(List.range (I L)).find? (G0 L D)
def lp(L:ai)(D:dS):ai:=match Ja L D with|some i=>L.drop i++L.take i|none=>L
def aeu(ac:Int)(L:ai)(D:dS)(hl:I L<=1000000)(hd:I D=I L):aK S 86 [c_ ac L,.one (.p (.sl (dB D)))] (.agg [.p (.int .i64 ac),cF eo 6 (bP (lp L D))]):=by
 have pc:=Z_ ac L hl;have lo:S.lone 5504384064=false:=ah;refine bj aCb ?_;simp only[go_sem,ajI];refine dy (λk y aj=>y 1=.one (.p (.sl (dB D)))/\y 2=.one (.bm 5504000000 1 0)/\y 4=.one (.bm 5504000064 1 0)/\y 5=aH k/\aj 5504000000=(1,some (.var (qg ac L)))/\aj 5504000064=(1,some (.var [.p (.int .i64 0),.p .nils]))/\ ∀j,j<k->G0 L D j=false) 0 (I L) (cG _) ?_ ?_
 .simp only[go_sem];exact⟨rfl,λj N=>absurd N (pG j)⟩
 rintro k y aj hk ⟨g,u,H,x,b0,B,M⟩
 by_cases A:k<I L
 .have z:((k:Int)<(I L:Int)):=J;obtain⟨l,hL⟩:=aT A;obtain⟨d,Y⟩:=aT (L:=D) (k:=k) J;have R:=gb hL;have Z:=qO Y;have T:=cN (n:=k) J;have ae:G0 L D k=((l.kind==1)&&d):=by simp[G0,hL,Y]
  have m:G0 L D k=false->∀j,j<k+1->G0 L D j=false:=λh j N=>by
   rcases mQ.1 N with g|rfl
   .exact M j g
   exact h
  cases v:(l.kind==1)with
  |false=>rw[v]at ae;simp only[go_sem,Nk,g,u,H,x,b0,B,A,z,R,aa.ps,v,T];exact m ae
  |true=>
   rw[v]at ae;cases d with
   |false=>simp only[go_sem,Nk,g,u,H,x,b0,B,A,z,R,Z,aa.ps,v,T];exact m ae
   |true=>
    have F:Ja L D=some k:=AR A M ae;have E:lp L D=L.drop k++L.take k:=by unfold lp;rw[F]
    have kl:k<=I L:=J;have X:=vL L;have zX:List.take (I L-k) (List.drop k (bP L))=bP (L.drop k):=by rw[fx aP];simp[u_]
    have iw:List.take k (bP L)=bP (L.take k):=by simp[uJ]
    rw[E,Uq];simp only[go_sem,Nk,g,u,H,x,b0,B,A,z,R,Z,aa.ps,v,kl,X,zX];refine qe (id:=5504320384) (bytes:=48) cg.nil (B:=bP (L.drop k)) (rd:=[]) rfl (.inr (vL _)) (by simp;omega) λc1 bG r w g1 ba hw=>?_;rw[iZ]at g1;have q0:=(ba 5504000000 U U).trans b0;have Q:=(ba 5504000064 U U).trans B;simp only[go_sem,u,H,x,q0,kl,X,iw];refine qe (bytes:=48) g1 (B:=bP (L.take k)) (rd:=[]) rfl (.inr (vL _)) (by simp;omega) λc2 bh r2 w2 g2 O gJ=>?_;have Ku:=(O 5504000064 U U).trans Q;simp only[go_sem,H,Ku];refine⟨?_,Fb (g2.of_eq (bK U))⟩;rcases hw with⟨rfl,rfl⟩|⟨rfl,rfl⟩|⟨rfl,rfl⟩<;>rcases gJ with⟨rfl,rfl⟩|⟨rfl,rfl⟩|⟨rfl,rfl⟩<;>kernel_rfl
 have:k=I L:=J;subst this;have F:Ja L D=none:=Gx M;have E:lp L D=L:=by unfold lp;rw[F]
 rw[E];simp only[go_sem,Nk,alO,g,u,H,x,b0,B,eR,VQ];refine LQ pc lo rfl (AK _) λc2 bh xI O=>?_;have Q:=(O 5504000064 U).trans B;simp only[go_sem,H,Q];exact Fb (xI.of_eq (bK U))
def AI(F:Int)(f L:ai)(D:dS)(hl:I L<=1000000)(h:I D=I L):aK S 84 [.agg [.p (eg L),.p (.sl (dB D))],c_ F f] (.agg [.p (.int .i64 F),cF eo 6 (bP (lp L D))]):=by have ps:=aeu F L D hl h;have lo:S.lone 5376064448=false:=ah;refine bj ayH ?_;simp only[go_sem,anX,ae8];refine LQ ps lo rfl (AK _) λg B x A=>?_;have Q:=A 5376000128 U;simp only[go_sem]at Q;simp only[go_sem,Q];exact Fb (x.of_eq (bK U))
abbrev Fm(L:ai)(D:dS):V:=.agg [.p (eg L),.p (.sl (dB D))]
abbrev wW(L:ai)(D:dS):RV:=.agg [cF eo 6 (bP L),cF 4 1 (dB D)]
def ie{α:Type}(l x:List α)(k:Nat):List α:=l.take (k+1)++x++l.drop (k+1)
def l9{α:Type}(l x:List α)(k:Nat):I (ie l x k)=I l+I x:=by simp only[ie,gT,gX,kV];omega
def KN(L:ai)(D:dS)(k:Nat)(aw aq:aa)(bN:Bool)(hl:I L<=1000000)(hd:I D=I L)(hk:k<I L):
  aK S 82 [Fm L D,aH k,uT aw,uT aq,gE bN] (wW (ie L [aw,aq] k) (ie D [bN,!bN] k)):=by
 have g:=cN (n:=k) J;have k1:k+1<=I L:=J;have R:k+1<=I D:=J;have x:=vL L;have s2:=WZ D;have y:List.take (k+1) (bP L)=bP (L.take (k+1)):=by simp[uJ]
 have t2:List.take (k+1) (dB D)=dB (D.take (k+1)):=by simp[uJ]
 have t3:List.take (I L-(k+1)) (List.drop (k+1) (bP L))=bP (L.drop (k+1)):=by rw[fx aP];simp[u_]
 have t4:List.take (I D-(k+1)) (List.drop (k+1) (dB D))=dB (D.drop (k+1)):=by rw[fx aP];simp[u_]
 have r1:∀X:ai,I X<=2000000->I (bP X)<=2000000:=λX h=>by rw[mV];exact h
 refine bj auu ?_;simp only[go_sem,ajn,g,k1,x,y];refine qe (id:=5248064320) (bytes:=48) cg.nil (B:=bP (L.take (k+1))) (rd:=[]) rfl (.inr (vL _)) (by simp;omega) λc1 bG ra wa g1 B iV=>?_;rw[iZ]at g1;have p0:=B 5248000000 U U;have M:=B 5248000064 U U;have p8:=B 5248000128 U U;have f:=B 5248000192 U U;simp only[go_sem]at p0 M p8 f;simp only[go_sem,p0,M,p8,g,R,s2,t2];refine qe (id:=5248064704) (bytes:=1) cg.nil (B:=dB (D.take (k+1))) (rd:=[]) rfl (.inr (WZ _)) (by simp;omega) λc2 bh cO wb g2 A gJ=>?_
 rw[iZ]at g2;have q0:=(A 5248000000 U U).trans p0;have q7:=(A 5248000064 U U).trans M;have q8:=(A 5248000128 U U).trans p8;have ap:=(A 5248000192 U U).trans f;have am:=g1.of_eq (A 5248064320 U U);simp only[go_sem,q0,q7,q8,g,k1,R,x,s2,t3];refine⟨?_,?_⟩
 .rcases iV with⟨rfl,rfl⟩|⟨rfl,rfl⟩|⟨rfl,rfl⟩<;>rcases gJ with⟨rfl,rfl⟩|⟨rfl,rfl⟩|⟨rfl,rfl⟩<;>kernel_rfl
 refine qe (B:=[aw.ps,aq.ps]) (am.of_eq (by simp only[go_sem])) (by simp only[js,cD,if_true];rfl) (.inl rfl) (by simp only[mV,gX,dW,fU];omega) λc9 mW rc wc g3 m F=>?_;have Z:=m 5248000000 U U;have Rx:=m 5248000192 U U;have N:=m 5248064832 U U;have zg:=m 5248064704 U U;simp only[go_sem,q0,ap]at Z Rx N zg;have ad:=g2.of_eq zg;simp only[go_sem,Z,N,g,k1,x,t3];refine qe (bytes:=48) g3 (B:=bP (L.drop (k+1))) (rd:=[]) rfl (.inr (vL _)) (by simp only[mV,gT,gX,kV,dW,fU];omega) λc4 St az aG g4 j E=>?_
 have y0:=(j 5248000000 U U).trans Z;have Y:=(j 5248000192 U U).trans Rx;have ac:=(j 5248064832 U U).trans N;have Q:=ad.of_eq (j 5248064704 U U);simp only[go_sem,y0,ac];refine⟨?_,?_⟩
 .rcases F with⟨rfl,rfl⟩|⟨rfl,rfl⟩|⟨rfl,rfl⟩<;>rcases E with⟨rfl,rfl⟩|⟨rfl,rfl⟩|⟨rfl,rfl⟩<;>kernel_rfl
 refine qe (B:=[[.bool bN],[.bool !bN]]) (Q.of_eq (by simp only[go_sem])) (by simp only[js,cD,if_true];rfl) (.inl rfl) (by simp only[D6,gX,dW,fU];omega) λeT FC re we g5 z ak=>?_;have x0:=z 5248000000 U U;have Fh:=z 5248000192 U U;have Fi:=z 5248064832 U U;have xg:=z 5248128704 U U;simp only[go_sem,y0,Y]at x0 Fh Fi xg;have ag:=g4.of_eq xg;simp only[go_sem,x0,Fi,g,R,s2,t4];refine qe (bytes:=1) g5 (B:=dB (D.drop (k+1))) (rd:=[]) rfl (.inr (WZ _)) (by simp only[D6,gT,gX,kV,dW,fU];omega) λfB ar CP wf g6 H u=>?_
 have v:=(H 5248000192 U U).trans Fh;have T:=(H 5248064832 U U).trans Fi;have O:=ag.of_eq (H 5248128704 U U);simp only[go_sem,v,T];refine⟨?_,?_⟩
 .rcases ak with⟨rfl,rfl⟩|⟨rfl,rfl⟩|⟨rfl,rfl⟩<;>rcases u with⟨rfl,rfl⟩|⟨rfl,rfl⟩|⟨rfl,rfl⟩<;>kernel_rfl
 have e1:bP (ie L [aw,aq] k)=bP (L.take (k+1))++[aw.ps,aq.ps]++bP (L.drop (k+1)):=by simp[ie]
 have e2:dB (ie D [bN,!bN] k)=dB (D.take (k+1))++[[.bool bN],[.bool !bN]]++dB (D.drop (k+1)):=by simp[ie]
 rw[wW,e1,e2];exact W1 U (O.of_eq (by simp only[go_sem])) (g6.of_eq (by simp only[go_sem]))
def FT{α:Type}(l:List α)(out:aF)(i:Nat):Option α:=if i∈out then none else l[i]?
def vb{α:Type}(l:List α)(out:aF)(k:Nat):List α:=(List.range k).filterMap (FT l out)
abbrev ke{α:Type}(l:List α)(out:aF):List α:=vb l out (I l)
def Sk{α:Type}{l:List α}{out:aF}{k:Nat}(h:k∈out):vb l out (k+1)=vb l out k:=by simp[vb,rN,PQ,FT,h]
def Rq{α:Type}{l:List α}{out:aF}{k:Nat}{x:α}(h:¬k∈out)(H:l[k]?=some x):vb l out (k+1)=vb l out k++[x]:=by simp[vb,rN,PQ,FT,h,H]
def abo{α:Type}(l:List α)(out:aF)(k:Nat):I (vb l out k)<=k:=by
 have:=List.length_filterMap_le (FT l out) (List.range k)
 simpa [vb]using this
def adj(L:ai)(D:dS)(out:aF)(hl:I L<=1000000)(hd:I D=I L)(ho:I out<=1000000):aK S 75 [Fm L D,.one (.p (.sl (a_ out)))] (wW (ke L out) (ke D out)):=by
 refine bj as2 ?_;simp only[go_sem,aeh];refine dy (λk A aj=>A 1=.one (.p (.sl (a_ out)))/\A 2=.one (.bm 4800000000 1 0)/\A 4=.one (.bm 4800000064 1 0)/\A 5=.one (.bm 4800064000 1 0)/\A 6=aH k/\aj 4800000000=(1,some (.var [.p (eg L),.p (.sl (dB D))]))/\aj 4800000064=(1,some (.var [.p .nils,.p .nils]))/\
  ∃R T,aj 4800064000=(1,some (.var [R,T]))/\cg 4800384512 eo 6 (bP (vb L out k)) (.one R) aj/\cg 4800448512 4 1 (dB (vb D out k)) (.one T) aj) 0 (I L) (cG _) ?_ ?_
 .simp only[go_sem];exact⟨rfl,_,_,rfl,cg.nil,cg.nil⟩
 rintro k A aj hk ⟨y,h,v,H,g,b0,B,R,T,j,g1,u⟩
 by_cases m:k<I L
 .have aM:((k:Int)<(I L:Int)):=J;have N:=cN (n:=k) J;have F:=DJ out k ho;obtain⟨x,hx⟩:=aT m;obtain⟨d,hD⟩:=aT (L:=D) (k:=k) J;have fY:=gb hx;have mL:=qO hD;have k2:k<I D:=J;have l1:=abo L out k;have l2:=abo D out k;cases E:decide (k∈out)with
  |true=>rw[E]at F;have X:=pJ E;simp only[go_sem,RU,y,h,v,H,g,b0,B,j,m,aM,sd,au F,N];exact⟨_,_,rfl,by rw[Sk X];exact g1,by rw[Sk X];exact u⟩
  |false=>
   rw[E]at F;have X:=iY E;simp only[go_sem,RU,y,h,v,H,g,b0,B,j,m,aM,sd,au F,N,fY,aa.ps];refine qe (B:=[x.ps]) (g1.of_eq (bK U)) (by simp only[js,cD,if_true];rfl) (.inl rfl) (by simp only[mV,dW,fU];omega) λc9 bG ra wa g3 z iV=>?_;have O:=z 4800000000 U U;have q1:=z 4800000064 U U;have q5:=z 4800064000 U U;have Q:=z 4800448512 U U;simp only[go_sem,b0,B,j]at O q1 q5 Q;have Y:=u.of_eq Q;simp only[go_sem,h,H,g,O,q5,k2,mL];refine⟨?_,?_⟩
   .rcases iV with⟨rfl,rfl⟩|⟨rfl,rfl⟩|⟨rfl,rfl⟩<;>kernel_rfl
   refine qe (B:=[[.bool d]]) (Y.of_eq (by simp only[go_sem])) (by simp only[js,cD,if_true];rfl) (.inl rfl) (by simp only[D6,dW,fU];omega) λc4 bh cO wb g4 M gJ=>?_;have p0:=M 4800000000 U U;have p1:=M 4800000064 U U;have p5:=M 4800064000 U U;have M5:=M 4800384512 U U;simp only[go_sem,O,q1]at p0 p1 p5 M5;have Z:=g3.of_eq M5;simp only[go_sem,y,h,v,H,g,p0,p1,p5,N,m];refine⟨?_,?_⟩
   .rcases gJ with⟨rfl,rfl⟩|⟨rfl,rfl⟩|⟨rfl,rfl⟩<;>kernel_rfl
   refine⟨_,_,rfl,?_,?_⟩
   .rw[Rq X hx,Uq];exact Z.of_eq (by simp only[go_sem])
   rw[Rq X hD,atT];exact g4.of_eq (by simp only[go_sem])
 have:k=I L:=J;subst this;rw[<-hd]at u;simp only[go_sem,RU,aiY,y,h,v,H,g,b0,B,j,eR];exact W1 U (g1.of_eq (by simp only[go_sem])) (u.of_eq (by simp only[go_sem]))
def ajs(j d_ f g box:Nat)(L:ai)(D:dS)(aj:aN)(v:V)(A:aN):Prop:=v=.tup []/\A j=(d_,some (.arr eo 6 (bP L)))/\A f=(g,some (.arr 4 1 (dB D)))/\dE (λi=>i=j\/i=f\/i=box) aj A
def EV{α:Type}(l:List α)(i j:Nat)(x y:α):List α:=(l.set i y).set j x
def aza{al:cT}{aj:aN}{d_ f u i m:Nat}{x y:aa}{c d:Bool}(o1:al.ok j)(Y:al.ok f)(o3:al.ok 5120000000)(n:j≠f)(g:j≠5120000000)(N:f≠5120000000)
  (Z:aj j=(d_,some (.arr eo 6 (bP L)))) (O:aj f=(u,some (.arr 4 1 (dB D)))) (hd:I D=I L) (E:L[i]?=some x) (z:L[m]?=some y) (T:D[i]?=some c) (he:D[m]?=some d) (B:i≠m):
  ∃v A,lK S 80 [.agg [.hsl j d_ 6 0 (I L),.hsl f u 1 0 (I D)],aH i,aH m] al aj v A/\ajs j d_ f u 5120000000 (EV L i m x y) (EV D i m c d) aj v A:=by
 have hi:=(cn.1 E).1;have hj:=(cn.1 z).1;have Q:i<I D:=J;have pN:m<I D:=J;have F:=gb E;have py:=gb z;have pc:=qO T;have pd:=qO he;have M:¬(m=i):=λh=>B h.symm;refine qK aDa (jc rfl) ?_;simp only[go_sem,akH,o1,Y,o3,Z,O,n,n.symm,g,g.symm,N,N.symm,hi,hj,Q,pN,F,py,pc,pd,aa.ps,B,M,mT,jo,mV,D6,af,ao];refine⟨aA (by simp[ql,A3,xG,rJ,xy,n,g,N,n.symm,g.symm,N.symm];decide),aA (by simp[ql,A3,xG,rJ,xy,n,g,N,n.symm,g.symm,N.symm];decide),?_⟩;refine⟨rfl,?_,?_,?_⟩
 .simp only[go_sem,n,g];simp[EV,bP,wZ,aa.ps]
 .simp only[go_sem,n.symm,N];simp[EV,wZ]
 intro q H;have R:q≠j:=λh=>H (.inl h);have q2:q≠f:=λh=>H (.inr (.inl h));have X:q≠5120000000:=λh=>H (.inr (.inr h));simp only[go_sem,R,q2,X]
def oc(g v u:Int)(l:aa):aa:=if(l.kind==1)&&((l.gate==g)&&decide (v<l.ay))then{l with ay:=l.ay-u}else l
def VI{α:Type}{f:α->α}{L:List α}{k:Nat}{x:α}(h:L[k]?=some x):((L.take k).map f++L.drop k)[k]?=some x:=by have hl:k<I L:=(cn.1 h).1;rw[wY (by simp;omega)];simp only[cY,gX,vm (Nat.le_of_lt hl),zB,BY,vu,h]
def P7{α:Type}{f:α->α}{L:List α}{k:Nat}{x:α}(h:L[k]?=some x):((L.take k).map f++L.drop k).set k (f x)=(L.take (k+1)).map f++L.drop (k+1):=by
 have hl:k<I L:=(cn.1 h).1;rw[IZ _ _ (by simp;omega)];simp only[cY,gX,vm (Nat.le_of_lt hl),zB];rw[jT,h];have H:L.drop k=x::L.drop (k+1):=by rw[Kz hl];congr 1;exact(cn.1 h).2
 rw[H];simp
def Wy{α:Type}{f:α->α}{L:List α}{k:Nat}{x:α}(h:L[k]?=some x)(H:f x=x):(L.take k).map f++L.drop k=(L.take (k+1)).map f++L.drop (k+1):=by rw[<-P7 h,H];have:=VI (f:=f) h;obtain⟨g,j⟩:=cn.1 this;have e:=Ve g;rw[j]at e;exact e.symm
def adt{α:Type}{f:α->α}(L:List α)(k:Nat):I ((L.take k).map f++L.drop k)=I L:=by simp;omega
def gY{α:Type}(l:List α)(i j:Nat):List α:=match l[i]?,l[j]? with
 |some x,some y=>(l.set i y).set j x
 |_,_=>l
def Le{k:Nat}(H:2<=I f)(g:k<I f):k≠aJ f k:=by
 unfold aJ;by_cases h:k+1<I f
 .rw[jh h];omega
 have:k+1=I f:=J;rw[this,zu];omega
def Nv(j d_ box:Nat)(L:ai)(aj:aN)(v:V)(A:aN):Prop:=v=.tup []/\A j=(d_,some (.arr eo 6 (bP L)))/\dE (λi=>i=j\/i=box) aj A
abbrev qD{α:Type}(f:α->α)(L:List α)(k:Nat):List α:=(L.take k).map f++L.drop k
def J2(L:ai)(i:Nat)(y:aa){z:b_}(h:y.ps=z):(bP L).set i z=bP (L.set i y):=by subst h;simp[bP,wZ]
def ajL{al:cT}{aj:aN}{d_:Nat}{Y:Abs.dI}(R:al.ok j)(O:al.ok 4928000000)(N:j≠4928000000)
  (hl:I L<=1000000) (Q:aj j=(d_,some (.arr eo 6 (bP L)))) (hw:∀x∈L,IntKind.i64.wrap (x.ay-u)=x.ay-u):
  ∃ac A,lK S 77 [.agg [.hsl j d_ 6 0 (I L),Y],aH g,aH v,aH u] al aj ac A/\Nv j d_ 4928000000 (L.map (oc g v u)) aj ac A:=by
 refine qK amU (jc rfl) ?_;simp only[go_sem,Xj,R,O,Q,N,N.symm,af,ao];refine dy (λk h A=>h 1=aH g/\h 2=aH v/\h 3=aH u/\h 4=.one (.bm 4928000000 ((aj 4928000000).1+1) 0)/\h 8=aH k/\A 4928000000=((aj 4928000000).1+1,some (.var [.hsl j d_ 6 0 (I L),Y]))/\A j=(d_,some (.arr eo 6 (bP (qD (oc g v u) L k))))/\dE (λi=>i=j\/i=4928000000) aj A) 0 (I L) (cG _) ?_ ?_
 .simp only[go_sem,N,N.symm];exact⟨rfl,by simpa [qD]using Q,(dE.refl _ _).dx (.inr rfl) _⟩
 rintro k h bG hk ⟨F,B,X,E,T,D,H,M⟩
 by_cases y:k<I L
 .have aM:((k:Int)<(I L:Int)):=J;have Z:=cN (n:=k) J;obtain⟨x,m⟩:=aT y;have hm:=VI (f:=oc g v u) m;have fY:=gb hm;have im:k<I (qD (oc g v u) L k):=by rw[adt];exact y
  have wr:=hw x (bR m);simp only[go_sem,Ss,F,B,X,E,T,D,H,y,aM,fY,aa.ps,R,O,af,ao];repeat' ((first|apply oO|apply oE|apply oK|apply oj|apply om|apply oH)<;>intro he<;>simp only[go_sem, *,Z,wr,N.symm,aa.ps,mV,jo,bne,af,ao])
  all_goals(first|rw[show qD (oc g v u) L k=qD (oc g v u) L (k+1)from Wy m (by simp only[oc, *];rfl)]|skip)
  refine⟨aA (by simp[ql,A3,xG,rJ,xy,N,N.symm]<;>decide),?_,?_⟩
  .rw[J2 _ _ (oc g v u x) (by simp[oc,aa.ps, *])];exact congrArg (λz=>(d_,some (f_.arr eo 6 (bP z)))) (P7 m)
  exact M.dx (.inl rfl) _
 have:k=I L:=J;subst this;rw[show qD (oc g v u) L (I L)=L.map (oc g v u) by simp[qD]]at H;simp only[go_sem,Ss,F,B,X,E,T,D,H,O,eR,af,ao];exact⟨rfl,H,M⟩
def aCT{al:cT}{aj:aN}{f:Abs.dI}(O:al.ok 4928000000):
  ∃j A,lK S 77 [.agg [.p .nils,f],aH g,aH v,aH u] al aj j A/\j=.tup []/\dE (· =4928000000) aj A:=by
 refine qK amU (jc rfl) ?_;simp only[go_sem,Xj,O,af,ao];refine sZ ?_;simp only[go_sem,Ss,O,af,ao];have h:decide ((0:Int)<((0:Nat):Int))=false:=rfl;simp only[go_sem,h,af,ao];exact dE.dx (dE.refl (λi=>i=4928000000) aj) rfl _
def AQ(h:dd)(i:Int)(k:Nat):Nat:=I ((h.take k).filter (λx=>decide (x<i)))
def ang(h:dd)(i:Int)(k:Nat):AQ h i k<=k:=by have:=List.length_filter_le (λx=>decide (x<i)) (h.take k);simp only[AQ];have H:=List.length_take_le k h;omega
def auP{i x:Int}{k:Nat}(f:h[k]?=some x):AQ h i (k+1)=if decide (x<i)then AQ h i k+1 else AQ h i k:=by simp only[AQ,jT,f,Js];cases H:decide (x<i)<;>simp[H]
def oL(h:dd)(l:aa):aa:=if l.kind==2 then{l with id:=l.id-(AQ h l.id (I h):Int)}else l
def aAL{al:cT}{aj:aN}{d_ g gG tG:Nat}{vd:Abs.dI}(Y:al.ok j)(X:al.ok g)(O:al.ok 5184000000)(N:j≠5184000000)(m:g≠5184000000)(R:j≠g)
  (hl:I L<=1000000) (hg:I h<=1000000) (hL:aj j=(d_,some (.arr eo 6 (bP L)))) (hG:aj g=(gG,some (.arr tG 1 (fy h)))) (hw:∀x∈L,∀k:Nat,k<=I h->IntKind.i64.wrap (x.id-(k:Int))=x.id-k):
  ∃v u,lK S 81 [.agg [.hsl j d_ 6 0 (I L),vd],.one (.hsl g gG 1 0 (I h))] al aj v u/\Nv j d_ 5184000000 (L.map (oL h)) aj v u:=by
 refine qK ai2 (jc rfl) ?_;simp only[go_sem,abi,Y,X,O,hL,hG,N,N.symm,m,m.symm,af,ao];refine dy (λk A u=>A 1=.one (.hsl g gG 1 0 (I h))/\A 2=.one (.bm 5184000000 ((aj 5184000000).1+1) 0)/\A 4=aH k/\u 5184000000=((aj 5184000000).1+1,some (.var [.hsl j d_ 6 0 (I L),vd]))/\u g=(gG,some (.arr tG 1 (fy h)))/\u j=(d_,some (.arr eo 6 (bP (qD (oL h) L k))))/\dE (λi=>i=j\/i=5184000000) aj u) 0 (I L) (cG _) ?_ ?_
 .simp only[go_sem,N,N.symm,m,m.symm];refine⟨rfl,hG,?_,(dE.refl _ _).dx (.inr rfl) _⟩;simp only[qD,Od,lr,iZ,Lm];exact hL
 rintro k A bG hk ⟨h1,h2,h4,Q,Jw,D,dz⟩
 by_cases E:k<I L
 .have aM:((k:Int)<(I L:Int)):=J;have w1:=cN (n:=k) J;obtain⟨x,hx⟩:=aT E;have hm:=VI (f:=oL h) hx;have fY:=gb hm;have im:k<I (qD (oL h) L k):=by rw[adt];exact E
  have wr:=hw x (bR hx);simp only[go_sem,VU,h1,h2,h4,Q,Jw,D,E,aM,fY,aa.ps,Y,X,O,af,ao];refine dy (λq A u=>A 1=.one (.hsl g gG 1 0 (I h))/\A 2=.one (.bm 5184000000 ((aj 5184000000).1+1) 0)/\A 4=aH k/\A 5=aH (AQ h x.id q)/\A 6=aH q/\u=bG) 0 (I h) (cG _) ?_ ?_
  .simp only[go_sem,h1,h2,h4];exact⟨rfl,rfl⟩
  rintro q dK bh hq ⟨M,k2,k4,T,Z,rfl⟩
  by_cases H:q<I h
  .have ad:((q:Int)<(I h:Int)):=J;have w2:=cN (n:=q) J;have w3:=cN (n:=AQ h x.id q) (by have:=ang h x.id q;omega);obtain⟨y,hy⟩:=aT H;have ac:=xC hy;have ae:=auP (i:=x.id) hy;simp only[go_sem,aaM,M,k2,k4,T,Z,Q,Jw,D,E,H,ad,fY,ac,aa.ps,Y,X,O,af,ao];cases B:decide (y<x.id)with
   |true=>have F:=pJ B;rw[B]at ae;simp only[go_sem,F,M,k2,k4,T,Z,w2,w3,af,ao];exact⟨aA (by simp[ql,A3,xG,rJ,xy,N,N.symm,m,m.symm,R,R.symm]<;>decide),H,by rw[ae];rfl⟩
   |false=>have F:=iY B;rw[B]at ae;simp only[go_sem,F,M,k2,k4,T,Z,w2,w3,af,ao];exact⟨aA (by simp[ql,A3,xG,rJ,xy,N,N.symm,m,m.symm,R,R.symm]<;>decide),H,by rw[ae];rfl⟩
  have:q=I h:=J;subst this;have wk:=wr (AQ h x.id (I h)) (ang _ _ _);simp only[go_sem,aaM,ahg,anp,M,k2,k4,T,Z,Q,Jw,D,E,fY,aa.ps,Y,X,O,eR,af,ao];cases iH:x.kind==2 with
  |true=>
   simp only[go_sem,iH,M,k2,k4,T,Z,Q,Jw,D,E,fY,aa.ps,Y,X,O,w1,wk,N,N.symm,m,m.symm,R,R.symm,mV,jo,im,af,ao];refine⟨aA (by simp[ql,A3,xG,rJ,xy,N,N.symm]<;>decide),?_,?_⟩
   .rw[J2 _ _ (oL h x) (by simp[oL,aa.ps,iH])];exact congrArg (λz=>(d_,some (f_.arr eo 6 (bP z)))) (P7 hx)
   exact dz.dx (.inl rfl) _
  |false=>simp only[go_sem,iH,M,k2,k4,T,Z,Q,Jw,D,E,fY,aa.ps,Y,X,O,w1,af,ao];refine⟨?_,dz⟩;rw[show qD (oL h) L k=qD (oL h) L (k+1)from Wy hx (by simp only[oL,iH];rfl)]
 have:k=I L:=J;subst this;rw[show qD (oL h) L (I L)=L.map (oL h) by simp[qD]]at D;simp only[go_sem,VU,h1,h2,h4,Q,Jw,D,O,eR,af,ao];exact⟨rfl,D,dz⟩
def aCB{i:Nat}:cT.all.ok i:=rfl
attribute [go_sem] aCB
def nQ(f:ai):I (fL f)=I f:=by simp[fL,Gw]
def Ep(L:ai)(D:dS):I (lp L D)=I L:=by
 simp only[lp];split
 .simp only[gT,kV,gX];omega
 rfl
def ar3{L:dS}(h:L≠[]):dB L≠[]:=by simpa using h
abbrev DU(L:ai)(D:dS):RV:=.agg [.own eo 6 (bP L),.own 4 1 (dB D)]
def ui(h:L≠[])(H:I D=I L):wW L D=DU L D:=by have f:D≠[]:=λe=>h (vj.1 (by rw[<-H,e];rfl));simp only[wW,DU,ri (AO h),ri (ar3 f)]
def Cz(L:ai)(D:dS):(DU L D).alone:=by have a:=AK L;have b:=aeX D;simp[RV.alone,mz,m_,nO.alone,a,b]
def EK(F:Nat)(L:ai):(RV.agg [.p (.int .i64 F),.own eo 6 (bP L)]).alone:=by have a:=AK L;simp[RV.alone,mz,m_,nO.alone,PV.scalar,a]
def ml(l:ai):(bP l).take (I l)=bP l:=fx aP
def qE(l:dS):(dB l).take (I l)=dB l:=fx aP
def IG{α:Type}{l:List α}{n:Nat}(h:I l=n+1):l≠[]:=λe=>by rw[e]at h;cases h
def ET(g:cE F f):kz (dG F f)≠[]:=by
 have hl:0<I f:=jH.2 g.ne;obtain⟨j,h,_⟩:=B6 (F:=F) (g:=f) (d:=0) J;intro e;have:dG F f=[]:=by simpa using e
 rw[this]at h;cases h
def atn(g:cE F f)(k:Nat)(b c:Int)(l o:Bool)(sg:Int)(B:k<I f)(hl:I f<=400):
  aK S 43 [c_ F f,ep 5 k b c l o sg] (.agg [.p (.int .i64 F),cF eo 6 (bP (lp (ie f [⟨2,0,0,(an aa.aB f/2:Nat)+1,sg,o⟩,⟨2,0,0,(an aa.aB f/2:Nat)+1,sg,!o⟩] k) (ie (fL f) [false,!false] k)))]):=by
 have m:=DZ g;have u:=EX (F:Int) f J;have n:=NO (F:Int) f J;have X:an aa.aB f<=I f:=o7 _ _;have v:IntKind.i64.wrap (((an aa.aB f/2:Nat):Int)+1)=((an aa.aB f/2:Nat):Int)+1:=kA J J;have h:=KN f (fL f) k ⟨2,0,0,(an aa.aB f/2:Nat)+1,sg,o⟩ ⟨2,0,0,(an aa.aB f/2:Nat)+1,sg,!o⟩ false J (nQ f) B;have L:I (ie f [⟨2,0,0,(an aa.aB f/2:Nat)+1,sg,o⟩,⟨2,0,0,(an aa.aB f/2:Nat)+1,sg,!o⟩] k)=I f+2:=l9 _ _ _;have H:I (ie (fL f) [false,!false] k)=I f+2:=by rw[l9,nQ];rfl
 have j:=AI (F:Int) f _ _ J (H.trans L.symm);have E:S.lone 2752064064=false:=ah;have M:S.lone 2752128064=false:=ah;have T:S.lone 2753920320=false:=ah;have x:S.lone 2755136128=false:=ah;have O:=ri (m:=sq) (z:=5) (ET g);rw[O]at m;have R:=ui g.ne (nQ f);simp only[wW]at R;rw[R]at u;generalize Q:ie f [⟨2,0,0,(an aa.aB f/2:Nat)+1,sg,o⟩,⟨2,0,0,(an aa.aB f/2:Nat)+1,sg,!o⟩] k=A at*;generalize y:ie (fL f) [false,!false] k=N at*;rw[ui (IG L) (H.trans L.symm)]at h;have D:I (lp A N)=I f+1+1:=by rw[Ep];exact L
 rw[ri (AO (IG D))]at j |-;refine bj Ai ?_;simp only[go_sem,zf,ya,ia m E (.inl rfl),af,ao];simp only[go_sem,Az,ia u M (.inl rfl),IL,dp n,v,af,ao];refine⟨aA,?_⟩;simp only[go_sem,acn,ml,qE,ia h T (.inr (Cz _ _)),yC,zI,ia j x (.inr (EK _ _)),af,ao];simp[iR,n_,lX,kS,ij,cD,mg,pK,oh,mV,ml]
end
end Go.Abs
