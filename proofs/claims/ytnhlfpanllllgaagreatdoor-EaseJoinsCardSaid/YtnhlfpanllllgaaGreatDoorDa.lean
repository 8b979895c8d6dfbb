/-
  The moves of the document.
-/
import Derived.Test.YtnhlfpanllllgaaGreatDoorVb
import Derived.Test.YtnhlfpanllllgaaGreatDoorVe
set_option linter.all false
open List renaming length->I
set_option maxRecDepth 100000
set_option maxHeartbeats 16000000
namespace Go.Abs
variable{A y z F m j:Nat}{f L:ae}{D:eH}{g x u:Int}{h:cV}
abbrev Mz(F:Nat)(ls:ae):eG:=[.p (.int .i64 F),.p (c8 ls),.p (.int .i64 (I ls)),.p (.sl (mv (eD F ls)))]
abbrev kQ(F:Nat)(ls:ae):V:=.agg (Mz F ls)
abbrev CA(l:aa):RV:=.agg [.p (.int .i64 l.kind),.p (.int .i64 l.gate),.p (.int .i64 l.ay),.p (.int .i64 l.id),.p (.int .i64 l.sign),.p (.bool l.over)]
def axt{E:s_}{c:c6}{x Y w:PV}{aj:aB}(h:aY A y z E (.one c) aj):gr aj (.agg [.p x,.p Y,.p w,c])=some (.agg [.p x,.p Y,.p w,aX y z E]):=by obtain⟨m,o,j,H,g⟩:=h.gR;cases j;have e1:gR aj (.p x)=some (.p x,[],[]):=rfl;have e2:gR aj (.p Y)=some (.p Y,[],[]):=rfl;have f:gR aj (.p w)=some (.p w,[],[]):=rfl;rcases g with rfl|rfl<;>simp[gr,nx,k5,kj,H,e1,e2,f,lG,pB,nD]
def K4(g:cK F f):aJ S 96 [df F f] (.agg [.p (.int .i64 F),.p (c8 f),.p (.int .i64 (I f)),aX uO 5 (mv (eD F f))]):=by
 have z:=g.fing;have m:=awv g.ok J g.axne;have lo:S.lone 6144192064=false:=ah;have u:(0:Int)<(I f:Int):=by have:=jr.2 g.ne;omega
 refine bt aho ?_;simp only[go_sem,aa1,u,aCg,af,au];refine qW m lo (.inl rfl) λx y j H=>?_;have B:=H 6144064320 U;have h:=H 6144000064 U;simp only[go_sem]at B h;simp only[go_sem,B,h,af,au];exact axt (j.of_eq ((bU U).trans (bU U)))
def An{e:Nat}(H:e<I f)(hl:I f<=1000000):aJ S 100 [kQ F f,aC e] (fQ ((e+1)%I f:Nat)):=by have g:=cP (n:=e) J;have h:¬((I f:Int)=0):=J;have T:=tf (e+1) (I f);refine bt aA1 ?_;simp only[go_sem,anb,g,h,T,af,au]
def Mp{e:Nat}(h:e<I f)(hl:I f<=1000000):aJ S 98 [kQ F f,aC e] (.tup [CA (aZ f e),CA (aZ f (aK f e))]):=by have j:=An (F:=F) h hl;have g:=fC (e+1) (show 0<I f by omega);have H:=fP (js h);have m:=fP (js g);refine bt aFb ?_;simp only[go_sem,apv,xh,ek j,H,m,aa.ps,af,au];exact⟨aI,rfl⟩
def J5(o:cV)(x:Int)(hl:I o<=1000000):aJ S 136 [.one (.p (.sl (dR o))),aC x] (dn (decide (x∈o))):=by
 refine bt awH ?_;simp only[go_sem,als,af,au];refine c_ (λk A aj=>A 0=.one (.p (.sl (dR o)))/\A 1=aC x/\A 5=aC k/\ ∀j,j<k->o[j]? ≠some x) 0 (I o) (cE _) ?_ ?_
 .simp only[go_sem];exact⟨rfl,λj H=>absurd H (mX j)⟩
 rintro k A aj R ⟨g,u,z,E⟩
 by_cases F:k<I o
 .have L:((k:Int)<(I o:Int)):=J;obtain⟨y,f⟩:=aR F;have D:=vT f;have N:=cP (n:=k) J;by_cases m:y=x
  .subst m;have B:decide (y∈o)=true:=by simpa using ch f
   simp only[go_sem,Rr,g,u,z,L,D,B,af,au]
  have Q:=(wA m).1;have M:∀j,j<k+1->o[j]? ≠some x:=λj H=>by
   rcases m_.1 H with h|rfl
   .exact E j h
   rw[f];intro h;cases h;exact m rfl
  simp only[go_sem,Rr,g,u,z,F,L,D,Q,N,af,au];exact M
 have:k=I o:=J;subst this;have B:decide (x∈o)=false:=by simp only[decide_eq_false_iff_not];intro O;obtain⟨j,H⟩:=jL O;exact absurd H (E j (cD.1 H).1)
 simp only[go_sem,Rr,ah3,g,u,z,dW,B,af,au]
def auo(o:aG):cg o=dR (o.map λn:Nat=>(n:Int)):=by simp[o9]
def M7(o:aG)(x:Nat)(hl:I o<=1000000):aJ S 136 [.one (.p (.sl (cg o))),aC x] (dn (decide (x∈o))):=by
 have:=J5 (o.map λn:Nat=>(n:Int)) x (by rw[cH];exact hl);rw[auo];rw[show decide ((x:Int)∈o.map λn:Nat=>(n:Int))=decide (x∈o) by
  rw[decide_eq_decide,eg];constructor
  .rintro ⟨a,h,e⟩
   have:a=x:=J;exact this▸h
  exactλh=>⟨x,h,rfl⟩]at this
 exact this
def mI(i:Int):aJ S 224 [kQ F f,aC i] (dn (kR (I f) i)):=by
 refine bt ax9 ?_;unfold kR;by_cases h:0<=i
 .by_cases H:i<(I f:Int)
  .simp only[go_sem,S_,h,H,af,au]
  simp only[go_sem,S_,h,H,af,au]
 simp only[go_sem,S_,h,af,au]
def yB(a b:aa):Bool:=(a.kind==1)&&((b.kind==1)&&((a.gate==b.gate)&&((a.ay==b.ay+1)||(b.ay==a.ay+1))))
abbrev KL(a:aa):Prop:= -1000000<=a.ay/\a.ay<=1000000
def amU(a b:aa)(H:KL a)(h:KL b):aJ S 226 [xt a,xt b] (dn (yB a b)):=by
 have f:IntKind.i64.wrap (a.ay+1)=a.ay+1:=nK (by have:=H.1;omega) (by have:=H.2;omega);have wb:IntKind.i64.wrap (b.ay+1)=b.ay+1:=nK (by have:=h.1;omega) (by have:=h.2;omega);unfold yB;refine bt avX ?_;simp only[go_sem,agD,f,wb,bne,af,au];repeat' ((first|apply sd|apply rC|apply r_|apply rL|apply r7|apply rY)<;>intro g<;>simp only[go_sem, *,f,wb,bne,af,au])
 all_goals(first|done|exact aI|exact⟨aI,rfl⟩|rfl)
def NP{aj:aB}{s:Nat}{l:Bool}(a b:aa):eF aj [] s ((RV.tup [CA a,CA b]).fi l)=some (.tup [xt a,xt b],[]):=by cases l<;>rfl
def zq{aj:aB}{s:Nat}{l:Bool}(a b:aa)(x:Bool):eF aj [] s ((RV.tup [CA a,CA b,.one (.p (.bool x))]).fi l)=some (.tup [xt a,xt b,fT x],[]):=by cases l<;>rfl
def j6(f:ae)(e:Nat):aa×aa×Bool:=if(aZ f e).kind==1 then(aZ f (aK f e),aZ f e,((aZ f (aK f e)).kind==2)&&((aZ f e).kind==1))else(aZ f e,aZ f (aK f e),((aZ f e).kind==2)&&((aZ f (aK f e)).kind==1))
def qK(f:ae)(e:Nat):Bool:=((aZ f e).kind==2)&&((aZ f (aK f e)).kind==2)
def EN(f:ae)(e:Nat):Int:=(if(aZ f e).over then 1 else 0)+(if(aZ f (aK f e)).over then 1 else 0)
section
variable {F:Nat} {f:ae}
def Ro{e:Nat}(H:e<I f)(hl:I f<=1000000):aJ S 103 [kQ F f,aC e] (.tup [CA (j6 f e).1,CA (j6 f e).2.1,.one (.p (.bool (j6 f e).2.2))]):=by
 have pb:=Mp (F:=F) H hl;unfold j6;generalize aZ f e=A at pb |-;generalize aZ f (aK f e)=B at pb |-;refine bt aEt ?_;cases h:(A.kind==1)with
 |true=>
  rw[aH rfl];simp only[go_sem,aeo,AP,a_ pb (NP _ _),h,bne,af,au];repeat' ((first|apply sd|apply rC|apply r_|apply rL|apply r7|apply rY)<;>intro H<;>simp only[go_sem, *,h,bne,af,au])
  all_goals(first|done|exact aI|exact⟨aI,rfl⟩|rfl)
 |false=>
  rw[aw U];simp only[go_sem,aeo,AP,a_ pb (NP _ _),h,bne,af,au];repeat' ((first|apply sd|apply rC|apply r_|apply rL|apply r7|apply rY)<;>intro H<;>simp only[go_sem, *,h,bne,af,au])
  all_goals(first|done|exact aI|exact⟨aI,rfl⟩|rfl)
def RP{e:Nat}(h:e<I f)(hl:I f<=1000000):aJ S 228 [kQ F f,aC e] (.tup [CA (aZ f e),CA (aZ f (aK f e)),.one (.p (.bool (qK f e)))]):=by
 have pb:=Mp (F:=F) h hl;unfold qK;generalize aZ f e=A at pb |-;generalize aZ f (aK f e)=B at pb |-;refine bt aG0 ?_;simp only[go_sem,amc,AP,a_ pb (NP _ _),bne,af,au];repeat' ((first|apply sd|apply rC|apply r_|apply rL|apply r7|apply rY)<;>intro h<;>simp only[go_sem, *,AP,a_ pb (NP _ _),bne,af,au])
 all_goals(first|done|exact aI|exact⟨aI,rfl⟩|rfl)
def axB{e:Nat}(h:e<I f)(hl:I f<=1000000):aJ S 258 [kQ F f,aC e] (fQ (EN f e)):=by
 have pb:=Mp (F:=F) h hl;unfold EN;generalize aZ f e=A at pb |-;generalize aZ f (aK f e)=B at pb |-;have j:IntKind.i64.wrap (0+1)=1:=U;have g:IntKind.i64.wrap (1+1)=2:=U;refine bt avs ?_;cases H:A.over<;>cases m:B.over<;>simp only[go_sem,ao9,AP,a_ pb (NP _ _),H,m,j,g,bne,af,au]
 all_goals rfl
end
abbrev mT(s:ByteArray):V:=.one (.p (.str s))
abbrev Ke(s:ByteArray):RV:=.one (.p (.str s))
def adC:aJ S 131 [aC 1] (Ke ⟨#[65]⟩):=rV S 20 ah
def adW:aJ S 131 [aC 3] (Ke ⟨#[65,66]⟩):=rV S 20 ah
def ad2:aJ S 131 [aC 4] (Ke ⟨#[65]⟩):=rV S 20 ah
def acQ:aJ S 131 [aC 6] (Ke ⟨#[65,66]⟩):=rV S 20 ah
def Z6:aJ S 131 [aC 8] (Ke ⟨#[65,66,67]⟩):=rV S 20 ah
def KD:aJ S 132 [mT ⟨#[65]⟩,.one (.p (.int .u8 66))] (dn false):=rV S 30 ah
def JA:aJ S 132 [mT ⟨#[65]⟩,.one (.p (.int .u8 67))] (dn false):=rV S 30 ah
def Jy:aJ S 132 [mT ⟨#[65]⟩,.one (.p (.int .u8 76))] (dn false):=rV S 30 ah
def My:aJ S 132 [mT ⟨#[65]⟩,.one (.p (.int .u8 79))] (dn false):=rV S 30 ah
def TX:aJ S 132 [mT ⟨#[65]⟩,.one (.p (.int .u8 83))] (dn false):=rV S 30 ah
def Ly:aJ S 132 [mT ⟨#[65,66]⟩,.one (.p (.int .u8 66))] (dn true):=rV S 30 ah
def Ju:aJ S 132 [mT ⟨#[65,66]⟩,.one (.p (.int .u8 67))] (dn false):=rV S 30 ah
def Mv:aJ S 132 [mT ⟨#[65,66]⟩,.one (.p (.int .u8 76))] (dn false):=rV S 30 ah
def JT:aJ S 132 [mT ⟨#[65,66]⟩,.one (.p (.int .u8 79))] (dn false):=rV S 30 ah
def UK:aJ S 132 [mT ⟨#[65,66]⟩,.one (.p (.int .u8 83))] (dn false):=rV S 30 ah
def abp:aJ S 132 [mT ⟨#[65,66,67]⟩,.one (.p (.int .u8 66))] (dn true):=rV S 30 ah
def Xn:aJ S 132 [mT ⟨#[65,66,67]⟩,.one (.p (.int .u8 67))] (dn true):=rV S 30 ah
def acv:aJ S 132 [mT ⟨#[65,66,67]⟩,.one (.p (.int .u8 76))] (dn false):=rV S 30 ah
def adt:aJ S 132 [mT ⟨#[65,66,67]⟩,.one (.p (.int .u8 79))] (dn false):=rV S 30 ah
def af7:aJ S 132 [mT ⟨#[65,66,67]⟩,.one (.p (.int .u8 83))] (dn false):=rV S 30 ah
def Vc:C_ .eql ⟨#[65]⟩ ⟨#[]⟩=some (.bool false):=ah
def Sb:C_ .eql ⟨#[65,66]⟩ ⟨#[]⟩=some (.bool false):=ah
def agL:C_ .eql ⟨#[65,66,67]⟩ ⟨#[]⟩=some (.bool false):=ah
def N7{a b:Int}:decide (a<b)= !decide (b<=a):=by
 by_cases h:a<b
 .have:¬b<=a:=J;simp[h,this]
 have:b<=a:=J;simp[h,this]
section
variable {F:Nat} {f:ae} {a b c:Int} {l o:Bool} {sg:Int}
def aDK(hl:I f<=1000000):aJ S 198 [kQ F f,gP 1 a b c l o sg] (dn (!dc F f 1 a b c l o sg)):=by
 unfold dc;simp only[Int.reduceEq,if_true,if_false,false_or,or_false,or_true,true_or,reduceIte,or_self,N7];refine bt O3 ?_;simp only[go_sem,L_,Bf,sh adC,Vc,yc,aD KD,aD JA,aD Jy,aD My,aD TX,BF,aD (mI a),aD (mI b),aD (mI c),bne,af,au];repeat' ((first|apply sd|apply rC|apply r_|apply rL|apply r7|apply rY)<;>intro h<;>simp only[go_sem, *,Bf,sh adC,Vc,yc,aD KD,aD JA,aD Jy,aD My,aD TX,BF,aD (mI a),aD (mI b),aD (mI c),bne,af,au])
 all_goals(first|done|exact aI|exact⟨aI,rfl⟩|rfl)
def ayh(hl:I f<=1000000):aJ S 198 [kQ F f,gP 4 a b c l o sg] (dn (!dc F f 4 a b c l o sg)):=by
 unfold dc;simp only[Int.reduceEq,if_true,if_false,false_or,or_false,or_true,true_or,reduceIte,or_self,N7];refine bt O3 ?_;simp only[go_sem,L_,Bf,sh ad2,Vc,yc,aD KD,aD JA,aD Jy,aD My,aD TX,BF,aD (mI a),aD (mI b),aD (mI c),bne,af,au];repeat' ((first|apply sd|apply rC|apply r_|apply rL|apply r7|apply rY)<;>intro h<;>simp only[go_sem, *,Bf,sh ad2,Vc,yc,aD KD,aD JA,aD Jy,aD My,aD TX,BF,aD (mI a),aD (mI b),aD (mI c),bne,af,au])
 all_goals(first|done|exact aI|exact⟨aI,rfl⟩|rfl)
end
section
variable {F:Nat} {f:ae} {a b c:Int} {l o:Bool} {sg:Int}
def aBO(hl:I f<=1000000):aJ S 198 [kQ F f,gP 3 a b c l o sg] (dn (!dc F f 3 a b c l o sg)):=by
 unfold dc;simp only[Int.reduceEq,if_true,if_false,false_or,or_false,or_true,true_or,reduceIte,or_self,N7];refine bt O3 ?_;simp only[go_sem,L_,Bf,sh adW,Sb,yc,aD Ly,aD Ju,aD Mv,aD JT,aD UK,BF,aD (mI a),aD (mI b),aD (mI c),bne,af,au];repeat' ((first|apply sd|apply rC|apply r_|apply rL|apply r7|apply rY)<;>intro h<;>simp only[go_sem, *,Bf,sh adW,Sb,yc,aD Ly,aD Ju,aD Mv,aD JT,aD UK,BF,aD (mI a),aD (mI b),aD (mI c),bne,af,au])
 all_goals(first|done|exact aI|exact⟨aI,rfl⟩|rfl)
def atK(hl:I f<=1000000):aJ S 198 [kQ F f,gP 6 a b c l o sg] (dn (!dc F f 6 a b c l o sg)):=by
 unfold dc;simp only[Int.reduceEq,if_true,if_false,false_or,or_false,or_true,true_or,reduceIte,or_self,N7];refine bt O3 ?_;simp only[go_sem,L_,Bf,sh acQ,Sb,yc,aD Ly,aD Ju,aD Mv,aD JT,aD UK,BF,aD (mI a),aD (mI b),aD (mI c),bne,af,au];repeat' ((first|apply sd|apply rC|apply r_|apply rL|apply r7|apply rY)<;>intro h<;>simp only[go_sem, *,Bf,sh acQ,Sb,yc,aD Ly,aD Ju,aD Mv,aD JT,aD UK,BF,aD (mI a),aD (mI b),aD (mI c),bne,af,au])
 all_goals(first|done|exact aI|exact⟨aI,rfl⟩|rfl)
end
section
variable {F:Nat} {f:ae} {a b c:Int} {l o:Bool} {sg:Int}
def az4(hl:I f<=1000000):aJ S 198 [kQ F f,gP 8 a b c l o sg] (dn (!dc F f 8 a b c l o sg)):=by
 unfold dc;simp only[Int.reduceEq,if_true,if_false,false_or,or_false,or_true,true_or,reduceIte,or_self,N7];refine bt O3 ?_;simp only[go_sem,L_,Bf,sh Z6,agL,yc,aD abp,aD Xn,aD acv,aD adt,aD af7,BF,aD (mI a),aD (mI b),aD (mI c),bne,af,au];repeat' ((first|apply sd|apply rC|apply r_|apply rL|apply r7|apply rY)<;>intro h<;>simp only[go_sem, *,Bf,sh Z6,agL,yc,aD abp,aD Xn,aD acv,aD adt,aD af7,BF,aD (mI a),aD (mI b),aD (mI c),bne,af,au])
 all_goals(first|done|exact aI|exact⟨aI,rfl⟩|rfl)
end
section
variable {F:Nat} {f:ae}
def aEV(f:Nat->Bool)(l:aG)(k e:Nat)(h:l[k]?=some e):(l.take (k+1)).all f=((l.take k).all f&&f e):=by rw[iJ,h];simp
abbrev GI(f:dV)(e:Nat):Bool:= !(decide (2*e∈f.cn)==decide (2*e+1∈f.cn))
def Wi(g:cK F f)(pl:Nat)(E:aG)(mQ:∀e∈E,e<I f)(dY:I E<=1000):aJ S 257 [kQ F f,.one (.p (.sl (cg E))),aC pl] (dn (vP F f pl E)):=by
 have ad:=g.len;have xD:I (eD F f)<=1000000:=by have O:=g.nw;have H:=qk aa.aM f;have T:=qk aa.aF f;rw[aeK];omega
 refine bt awh ?_;simp only[go_sem,alH,af,au];refine c_ (λi A aj=>A 1=.one (.p (.sl (cg E)))/\A 2=aC pl/\A 3=.one (.bh 16448000000 1 0)/\A 7=aC i/\aj 16448000000=(1,some (.var (Mz F f)))/\ ∀j m,j<i->(eD F f)[j]?=some m->CE pl E m=false) 0 (I (eD F f)) (cE _) ?_ ?_
 .simp only[go_sem];exact⟨rfl,λj m Y=>absurd Y (mX j)⟩
 rintro i A aj hi ⟨O,H,T,h7,b0,hn⟩
 by_cases aq:i<I (eD F f)
 .have aO:((i:Int)<(I (eD F f):Int)):=J;obtain⟨m,R⟩:=aR aq;have iD:=Ul R;have w1:=cP (n:=i) J;have DT:I m.cn<=1000000:=by
   have h9:I m.cn<=2*I f+2*I (aL f):=RZ g.ok (ch R);have lN:I (aL f)<=I f:=uq f (I f);omega
  have Hy:CE pl E m=((((I m.cn:Int)==(I E:Int))&&((I m.places:Int)==(pl:Int)))&&E.all (GI m)):=by unfold CE;rw[HV,HV,KX]
  generalize Z:(((I m.cn:Int)==(I E:Int))&&((I m.places:Int)==(pl:Int)))=c0 at Hy;have key:∀y bY g1,y 1=.one (.p (.sl (cg E)))->y 2=aC pl->y 3=.one (.bh 16448000000 1 0)->y 7=aC i->bY 16448000000=(1,some (.var (Mz F f)))->y 8=.one (.bh 16448256320 g1 0)->y 9=fT c0->y 10=aC 0->bY 16448256320=(g1,some (.var [.p (.bool m.gZ),.p (.sl (cg m.cn)),.p (.sl (fB m.places)),.p (.sl (cg m.wm)),.p (.bool m.outer)]))->
    bP S .all (.loop JV) (ld 2 (vb S .all SO (ld 1 (vb S .all abW (Iq (I (eD F f)) (λi A aj=>A 1=.one (.p (.sl (cg E)))/\A 2=aC pl/\A 3=.one (.bh 16448000000 1 0)/\A 7=aC i/\aj 16448000000=(1,some (.var (Mz F f)))/\ ∀j m,j<i->(eD F f)[j]?=some m->CE pl E m=false) i (ld 0 (vb S .all abY (ns .all [(6,none)] λv aj=>gr aj v=some (dn (vP F f pl E)))))))))) y bY:=by
   intro y bY g1 L X N M kb k8 u Q z;refine c_ (λk A aj=>A 1=.one (.p (.sl (cg E)))/\A 2=aC pl/\A 3=.one (.bh 16448000000 1 0)/\A 7=aC i/\aj 16448000000=(1,some (.var (Mz F f)))/\A 8=.one (.bh 16448256320 g1 0)/\A 9=fT (c0&&(E.take k).all (GI m))/\A 10=aC k/\aj 16448256320=(g1,some (.var [.p (.bool m.gZ),.p (.sl (cg m.cn)),.p (.sl (fB m.places)),.p (.sl (cg m.wm)),.p (.bool m.outer)]))) 0 (I E) (cE _) ⟨L,X,N,M,kb,k8,by rw[u];simp,Q,z⟩ ?_;rintro k dz bJ hk ⟨L,X,N,M,kb,k8,u,Q,z⟩
   by_cases D:k<I E
   .have ac:((k:Int)<(I E:Int)):=J;obtain⟨e,he⟩:=aR D;have zL:=mQ e (ch he);have xI:=jZ he;have wk:=cP (n:=k) J;have m2:=tP (a:=e) J;have m3:=cP (n:=2*e) J;have p1:=M7 m.cn (2*e) DT;have p2:=M7 m.cn (2*e+1) DT;have hs:=aEV (GI m) E k e he;generalize(E.take k).all (GI m)=x at u hs;cases Hh:(c0&&x)with
    |false=>
     rw[Hh]at u;have B:(c0&&(x&&GI m e))=false:=by rw[<-KX,Hh];rfl
     simp only[go_sem,JV,L,X,N,M,kb,k8,u,Q,z,D,ac,wk,hs,B,af,au];exact aI
    |true=>
     rw[Hh]at u;have B:(c0&&(x&&GI m e))=GI m e:=by rw[<-KX,Hh];rfl
     simp only[go_sem,JV,L,X,N,M,kb,k8,u,Q,z,D,ac,wk,hs,B,xI,m2,m3,vJ,dC p1,dC p2,af,au];exact aI
   have:k=I E:=J;subst this;rw[jN,<-Hy]at u;cases B:CE pl E m with
   |true=>have ha:vP F f pl E:=CQ.2 ⟨m,ch R,B⟩;rw[B]at u;simp only[go_sem,JV,SO,L,X,N,M,u,Q,dW,ha,af,au]
   |false=>
    rw[B]at u;simp only[go_sem,JV,SO,abW,L,X,N,M,kb,u,Q,dW,w1,aq,af,au];intro j f' Y Hj;rcases m_.1 Y with h|rfl
    .exact hn j f' h Hj
    rw[R]at Hj;cases Hj;exact B
  cases hA:((I m.cn:Int)==(I E:Int))with
  |false=>rw[hA]at Z;simp only[Ts]at Z;subst Z;simp only[go_sem,VW,O,H,T,h7,b0,aO,iD,dV.ps,hA,af,au];refine key _ _ ((aj 16448256320).1+1) ?_ ?_ ?_ ?_ ?_ ?_ ?_ ?_ ?_ <;>simp only[go_sem,O,H,T,h7,b0]
  |true=>rw[hA]at Z;simp only[tg]at Z;simp only[go_sem,VW,O,H,T,h7,b0,aO,iD,dV.ps,hA,Z,af,au];refine key _ _ ((aj 16448256320).1+1) ?_ ?_ ?_ ?_ ?_ ?_ ?_ ?_ ?_ <;>simp only[go_sem,O,H,T,h7,b0]
 have:i=I (eD F f):=J;subst this;have ha:vP F f pl E=false:=by
  cases h:vP F f pl E with
  |false=>rfl
  |true=>obtain⟨m,R,H⟩:=CQ.1 h;obtain⟨j,Y⟩:=jL R;rw[hn j m (cD.1 Y).1 Y]at H;cases H
 simp only[go_sem,VW,abY,O,H,T,h7,b0,dW,ha,af,au]
end
section
variable {F:Nat} {f:ae}
def U8(g:cK F f){i:Nat}(h:i<I f):KL (aZ f i):=by have hp:=nR (js h);exact aak g _ (ch hp)
def CV{e:Nat}(h:e<I f):aK f e<I f:=fC _ J
def ahL(g:cK F f){e:Nat}(h:e<I f):KL (j6 f e).2.1:=by
 unfold j6;split
 .exact U8 g h
 exact U8 g (CV h)
def Gk(F:Nat)(f:ae)(a b:Nat):Bool:=(j6 f a).2.2&&((j6 f b).2.2&&(((j6 f a).1.id==(j6 f b).1.id)&&(!((j6 f a).1.over==(j6 f b).1.over)&&(yB (j6 f a).2.1 (j6 f b).2.1&&vP F f 1 [a,b]))))
def aqv(g:cK F f){bv:Nat}(u:m<I f)(H:bv<I f):aJ S 227 [kQ F f,aC m,aC bv] (dn (Gk F f m bv)):=by
 have z:=g.len;have pa:=Ro (F:=F) u J;have pb:=Ro (F:=F) H J;have j:=amU _ _ (ahL g u) (ahL g H);have h:=Wi g 1 [m,bv] (by simp;omega) aQ;simp only[eR,jS]at h;have A:((1:Nat):Int)=1:=rfl;rw[A]at h;unfold Gk;generalize j6 f m=M at*;generalize j6 f bv=bK at*;obtain⟨x,p,is⟩:=M;obtain⟨y,q,T⟩:=bK;simp only at pa pb j h |-;refine bt asq ?_;simp only[go_sem,amK,aa8,a_ pa (zq _ _ _),a_ pb (zq _ _ _),R0,aD j,M8,aD h,bne,af,au];repeat' ((first|apply sd|apply rC|apply r_|apply rL|apply r7|apply rY)<;>intro B<;>simp only[go_sem, *,aa8,a_ pa (zq _ _ _),a_ pb (zq _ _ _),R0,aD j,M8,aD h,bne,af,au])
 all_goals(first|done|exact aI|exact⟨aI,rfl⟩|rfl)
def Ia(F:Nat)(f:ae)(a b:Nat):Bool:=
 qK f a&&(qK f b&&(!((aZ f a).id==(aZ f (aK f a)).id)&&(!((((a+2)%I f:Nat):Int)==(b:Int))&&(!((((b+2)%I f:Nat):Int)==(a:Int))&&
  (((((aZ f a).id==(aZ f b).id)&&((aZ f (aK f a)).id==(aZ f (aK f b)).id))||(((aZ f a).id==(aZ f (aK f b)).id)&&((aZ f (aK f a)).id==(aZ f b).id)))&&
   (((aZ f a).over==(aZ f (aK f a)).over)&&(((aZ f b).over==(aZ f (aK f b)).over)&&(!((aZ f a).over==(aZ f b).over)&&vP F f 0 [a,b]))))))))
def asI(g:cK F f){bv:Nat}(L:m<I f)(D:bv<I f):aJ S 229 [kQ F f,aC m,aC bv] (dn (Ia F f m bv)):=by
 have H:=g.len;have pa:=RP (F:=F) L J;have pb:=RP (F:=F) D J;have A:=Wi g 0 [m,bv] (by simp;omega) aQ;simp only[eR,jS]at A;have M:((0:Nat):Int)=0:=rfl;rw[M]at A;have B:¬((I f:Int)=0):=J;have z:IntKind.i64.wrap ((m:Int)+2)=((m+2:Nat):Int):=(nK (x:=(m:Int)+2) J J).trans J;have h:=tf (m+2) (I f);have j:IntKind.i64.wrap ((bv:Int)+2)=((bv+2:Nat):Int):=(nK (x:=(bv:Int)+2) J J).trans J;have E:=tf (bv+2) (I f);unfold Ia;generalize qK f m=is at*;generalize qK f bv=T at*;generalize aZ f m=x at*;generalize aZ f (aK f m)=y at*;generalize aZ f bv=u at*;generalize aZ f (aK f bv)=v at*;refine bt aGT ?_
 simp only[go_sem,aoY,F5,a_ pa (zq _ _ _),a_ pb (zq _ _ _),z,h,j,E,B,M8,aD A,bne,af,au];repeat' ((first|apply sd|apply rC|apply r_|apply rL|apply r7|apply rY)<;>intro N<;>simp only[go_sem, *,F5,a_ pa (zq _ _ _),a_ pb (zq _ _ _),z,h,j,E,B,M8,aD A,bne,af,au])
 all_goals(first|done|exact aI|exact⟨aI,rfl⟩|rfl)
end
section
variable {F:Nat} {f:ae}
def iZ(l:cV)(x:Int):cV:=if x∈l then l else l++[x]
def AS(f:ae)(l:cV)(e:Nat):cV:=iZ (iZ l (aZ f e).id) (aZ f (aK f e)).id
def u7(f:ae)(E:aG):aG:=E.flatMap λe=>[e,aK f e]
def rR(f:ae)(E:aG):cV:=E.map (EN f)
def lS(f:ae)(E:aG):cV:=E.foldl (AS f) []
def Aa(f:ae)(E:aG)(j:Nat):Bool:=match E[j]? with|some e=>qK f e&&(!decide (e∈u7 f (E.take j))&& !decide (aK f e∈u7 f (E.take j)))|none=>true
def Dy(F:Nat)(f:ae)(E:aG):Bool:=(List.range (I E)).all (Aa f E)&&((I (lS f E)==3)&&(decide ((2:Int)∈rR f E)&&(decide ((0:Int)∈rR f E)&&vP F f 0 E)))
def aag(E:aG):I (u7 f E)=2*I E:=by
 unfold u7
 induction E with
 |nil=>rfl
 |cons a r g=>rw[Bw,fv,g,dw];simp;omega
def au1(l:cV)(e:Nat):I (AS f l e)<=I l+2:=by
 unfold AS iZ;repeat' split
 all_goals simp
def Lg(E:aG):I (lS f E)<=2*I E:=by
 unfold lS;have:∀(E:aG) (l:cV),I (E.foldl (AS f) l)<=I l+2*I E:=by
  intro E
  induction E with
  |nil=>intro l;simp
  |cons a r g=>intro l;have H:=g (AS f l a);have h:=au1 (f:=f) l a;simp only[vi,dw];omega
 have:=this E []
 simpa using this
def aDP(g:cK F f){bv cv:Nat}(ha:m<I f)(hb:bv<I f)(hc:cv<I f):aJ S 230 [kQ F f,aC m,aC bv,aC cv] (dn (Dy F f [m,bv,cv])):=by
 have bw:=g.len;have mQ:∀e∈[m,bv,cv],e<I f:=λe h=>by simp at h;rcases h with rfl|rfl|rfl<;>assumption
 have po:=Wi g 0 [m,bv,cv] mQ aQ;have c1:((0:Nat):Int)=0:=rfl;rw[c1]at po;have Hu:cg [m,bv,cv]=[[.int .i64 m],[.int .i64 bv],[.int .i64 cv]]:=rfl;generalize hE:[m,bv,cv]=E at*;have dY:I E=3:=by rw[<-hE];rfl
 refine bt aDC ?_;simp only[go_sem,anL,af,au];refine c_ (λj ak aj=>ak 4=.one (.bh 14720000000 1 0)/\ak 9=.one (.hsl 14720064192 1 1 0 3)/\ak 13=aC j/\aj 14720000000=(1,some (.var (Mz F f)))/\aj 14720064192=(1,some (.arr 3 1 (cg E)))/\(∀i,i<j->Aa f E i)/\
  ∃ap KV o6,∃qH,ak 10=.one ap/\ak 11=.one KV/\ak 12=.one o6/\(qH=14720832256\/qH=14720960256)/\aY 14720640768 3 1 (cg (u7 f (E.take j))) (.one ap) aj/\aY qH 3 1 (dR (lS f (E.take j))) (.one KV) aj/\aY 14720704512 3 1 (dR (rR f (E.take j))) (.one o6) aj) 0 3 (cE _) ?_ ?_
 .simp only[go_sem];exact⟨rfl,by rw[Hu],λi hi=>absurd hi (mX i),_,_,_,14720832256,rfl,rfl,rfl,.inl rfl,aY.nil,aY.nil,aY.nil⟩
 rintro j ak aj hj ⟨H,x,L,b0,B,aA,ap,KV,o6,qH,R,fe,z,y,aE,ao,a5⟩
 have wG:I (E.take j)<=3:=by rw[iM];omega
 by_cases M:j<3
 .have aO:((j:Int)<3):=J;obtain⟨e,he⟩:=aR (L:=E) (k:=j) J;have zL:=mQ e (ch he);have xI:=jZ he;have w1:=cP (n:=j) J;have pc:=RP (F:=F) zL J;have pe:=An (F:=F) zL J;have pl:=axB (F:=F) zL J;have p1:=M7 (u7 f (E.take j)) e (by rw[aag];omega);have p2:=M7 (u7 f (E.take j)) (aK f e) (by rw[aag];omega);obtain⟨bz,a2,a3⟩:=aE.xW;have D:Aa f E j=(qK f e&&(!decide (e∈u7 f (E.take j))&& !decide (aK f e∈u7 f (E.take j)))):=by unfold Aa;rw[he]
  have dL:Aa f E j=false->Dy F f E=false:=λh=>by
   have:(List.range (I E)).all (Aa f E)=false:=by
    cases hh:(List.range (I E)).all (Aa f E)with
    |false=>rfl
    |true=>rw[jP.1 hh j (gI.2 J)]at h;cases h
   unfold Dy;rw[this];rfl
  cases cr:qK f e with
  |false=>rw[cr]at D;rw[dL D];rw[cr]at pc;simp only[go_sem,Cb,H,x,R,fe,z,L,b0,B,M,aO,xI,F5,ow pc (zq _ _ _)];first|done|exact aI|exact⟨aI,rfl⟩|exact⟨aI,aI,rfl⟩
  |true=>
   rw[cr]at D pc;cases m1:decide (e∈u7 f (E.take j))with
   |true=>rw[m1]at D p1;rw[dL D];simp only[go_sem,Cb,H,x,R,fe,z,L,b0,B,M,aO,xI,a2,F5,ow pc (zq _ _ _),vJ,dC p1];refine⟨aI,?_⟩;rcases a3 with rfl|rfl<;>exact aI
   |false=>
    rw[m1]at D p1;cases m2:decide (aK f e∈u7 f (E.take j))with
    |true=>rw[m2]at D p2;rw[dL D];simp only[go_sem,Cb,H,x,R,fe,z,L,b0,B,M,aO,xI,a2,F5,ow pc (zq _ _ _),vJ,dC p1,dC p2,xh,ek pe];refine⟨aI,?_⟩;rcases a3 with rfl|rfl<;>exact aI
    |false=>
     rw[m2]at D p2;simp only[go_sem,Cb,H,x,R,fe,z,L,b0,B,M,aO,xI,a2,F5,ow pc (zq _ _ _),vJ,dC p1,dC p2,xh,ek pe];refine⟨aI,?_,?_⟩
     .rcases a3 with rfl|rfl<;>exact aI
     have n1:qH≠14720640768:=by rcases y with rfl|rfl<;>decide
     have n2:qH≠14720704512:=by rcases y with rfl|rfl<;>decide
     have n3:qH≠14720448640:=by rcases y with rfl|rfl<;>decide
     have n4:qH≠14720448704:=by rcases y with rfl|rfl<;>decide
     have n5:qH≠14720640704:=by rcases y with rfl|rfl<;>decide
     have n6:qH≠14720704448:=by rcases y with rfl|rfl<;>decide
     refine nP (B:=[[.int .i64 (e:Nat)],[.int .i64 ((e+1)%I f:Nat)]]) (aE.of_eq (by simp only[go_sem])) (by simp only[fz,aT,if_true];rfl) (.inl rfl) (by simp only[MF,aag,dw,eK];omega) λag bY r w bi cF hw=>?_;have q0:=cF 14720000000 U U;have q9:=cF 14720064192 U U;have a8:=cF 14720448640 U U;have be:=cF 14720448704 U U;have a9:=cF 14720704512 U U;have Dd:=cF qH n1 n1;simp only[go_sem,b0,B,n3,n4,n5]at q0 q9 a8 be a9 Dd;have bp:=a5.of_eq a9;have br:=ao.of_eq Dd;simp only[go_sem,H,x,z,L,q0,q9,M,aO,xI,aHv,ek pl];refine⟨?_,?_⟩
     .rcases hw with⟨rfl,rfl⟩|⟨rfl,rfl⟩|⟨rfl,rfl⟩<;>kernel_rfl
     refine nP (B:=[[.int .i64 (EN f e)]]) (bp.of_eq (bU U)) (by simp only[fz,aT,if_true];rfl) (.inl rfl) (by simp[rR];omega) λad bJ r2 w2 ar bl wQ=>?_;have a4:=bi.of_eq ((bl 14720640768 U U).trans (bU U));have p0:=bl 14720000000 U U;have p9:=bl 14720064192 U U;have mJ:=bl 14720448640 U U;have CZ:=bl 14720448704 U U;have QT:=bl qH n2 n2;simp only[go_sem,q0,q9,a8,be,n6]at p0 p9 mJ CZ QT;have OY:=br.of_eq QT;have Y:cg (u7 f (E.take (j+1)))=cg (u7 f (E.take j))++[[.int .i64 (e:Nat)],[.int .i64 ((e+1)%I f:Nat)]]:=by rw[iJ,he,u7,u7];simp
     have ac:dR (rR f (E.take (j+1)))=dR (rR f (E.take j))++[[.int .i64 (EN f e)]]:=by rw[iJ,he,rR,rR];simp
     have O:lS f (E.take (j+1))=iZ (iZ (lS f (E.take j)) (aZ f e).id) (aZ f (aK f e)).id:=by rw[iJ,he];simp[lS,za,AS]
     have T3:∀i,i<j+1->Aa f E i:=λi hi=>by
      rcases m_.1 hi with h|rfl
      .exact aA i h
      rw[D];rfl
     simp only[go_sem,H,x,fe,L,p0,p9,mJ,CZ];refine⟨?_,?_⟩
     .rcases wQ with⟨rfl,rfl⟩|⟨rfl,rfl⟩|⟨rfl,rfl⟩<;>kernel_rfl
     have m0:14720000000≠qH:=by rcases y with rfl|rfl<;>decide
     have m9:14720064192≠qH:=by rcases y with rfl|rfl<;>decide
     have m3:qH≠14720832192:=by rcases y with rfl|rfl<;>decide
     have m4:qH≠14720960192:=by rcases y with rfl|rfl<;>decide
     have bo:14720448640≠qH:=n3.symm;have bm:14720448704≠qH:=n4.symm;have Z:=J5 (lS f (E.take j)) (aZ f e).id (by have:=Lg (f:=f) (E.take j);omega);obtain⟨bx,bc,_⟩:=OY.xW;cases hx:decide ((aZ f e).id∈lS f (E.take j))with
     |true=>
      rw[hx]at Z;simp only[go_sem,H,x,fe,L,p0,p9,mJ,CZ,bc,vJ,aD Z];have Pb:iZ (lS f (E.take j)) (aZ f e).id=lS f (E.take j):=by rw[iZ,aH (lp hx)]
      have X:=J5 (lS f (E.take j)) (aZ f (aK f e)).id (by have:=Lg (f:=f) (E.take j);omega);obtain⟨bd,u,_⟩:=OY.xW;cases Q:decide ((aZ f (aK f e)).id∈lS f (E.take j))with
      |true=>
       rw[Q]at X;have hI:lS f (E.take (j+1))=lS f (E.take j):=by rw[O,Pb,iZ,aH (lp Q)]
       simp only[go_sem,H,x,L,fe,p0,p9,mJ,CZ,u,vJ,aD X,w1,M];exact⟨T3,ag,KV,ad,qH,rfl,rfl,rfl,y,by rw[Y];exact a4,by rw[hI];exact OY,by rw[ac];exact ar⟩
      |false=>
       rw[Q]at X;have hI:dR (lS f (E.take (j+1)))=dR (lS f (E.take j))++[[.int .i64 (aZ f (aK f e)).id]]:=by rw[O,Pb,iZ,aw (gU Q)];simp
       simp only[go_sem,H,x,L,fe,p0,p9,mJ,CZ,u,vJ,aD X];refine l_ (B:=[[.int .i64 (aZ f (aK f e)).id]]) (OY.of_eq (bU (m4))) (by simp only[fz,aT,if_true];rfl) (.inl rfl) (by have:=Lg (f:=f) (E.take j);simp only[qy,fv,dw,eK];omega) λkG bj ge A=>?_;have z0:=A 14720000000 U m0;have z9:=A 14720064192 U m9;simp only[go_sem,p0,p9]at z0 z9;have a1:=a4.of_eq ((A 14720640768 U n1.symm).trans (bU U));have aN:=ar.of_eq ((A 14720704512 U n2.symm).trans (bU U));simp only[go_sem,H,x,L,z0,z9,w1,M];exact⟨T3,ag,kG,ad,14720960256,rfl,rfl,rfl,.inr rfl,by rw[Y];exact a1,by rw[hI];exact ge,by rw[ac];exact aN⟩
     |false=>
      rw[hx]at Z;simp only[go_sem,H,x,fe,L,p0,p9,mJ,CZ,bc,vJ,aD Z];have Pb:iZ (lS f (E.take j)) (aZ f e).id=lS f (E.take j)++[(aZ f e).id]:=by rw[iZ,aw (gU hx)]
      refine l_ (B:=[[.int .i64 (aZ f e).id]]) (OY.of_eq (bU m3)) (by simp only[fz,aT,if_true];rfl) (.inl rfl) (by have:=Lg (f:=f) (E.take j);simp only[qy,dw,eK];omega) λan bu ga Lz=>?_;have y0:=Lz 14720000000 U m0;have y9:=Lz 14720064192 U m9;have az:=Lz 14720448640 U bo;have a0:=Lz 14720448704 U bm;simp only[go_sem,p0,p9,mJ,CZ]at y0 y9 az a0;have a7:=a4.of_eq ((Lz 14720640768 U n1.symm).trans (bU U));have bg:=ar.of_eq ((Lz 14720704512 U n2.symm).trans (bU U));have a6:aY 14720832256 3 1 (dR (lS f (E.take j)++[(aZ f e).id])) (.one an) bu:=by rw[dR,lU];exact ga
      have X:=J5 (lS f (E.take j)++[(aZ f e).id]) (aZ f (aK f e)).id (by have:=Lg (f:=f) (E.take j);simp only[fv,dw,eK];omega);obtain⟨bd,u,_⟩:=a6.xW;cases Q:decide ((aZ f (aK f e)).id∈lS f (E.take j)++[(aZ f e).id])with
      |true=>
       rw[Q]at X;have hI:lS f (E.take (j+1))=lS f (E.take j)++[(aZ f e).id]:=by rw[O,Pb,iZ,aH (lp Q)]
       simp only[go_sem,H,x,L,y0,y9,az,a0,u,vJ,aD X,w1,M];exact⟨T3,ag,an,ad,14720832256,rfl,rfl,rfl,.inl rfl,by rw[Y];exact a7,by rw[hI];exact a6,by rw[ac];exact bg⟩
      |false=>
       rw[Q]at X;have hI:dR (lS f (E.take (j+1)))=dR (lS f (E.take j)++[(aZ f e).id])++[[.int .i64 (aZ f (aK f e)).id]]:=by rw[O,Pb,iZ,aw (gU Q)];simp
       simp only[go_sem,H,x,L,y0,y9,az,a0,u,vJ,aD X];refine l_ (B:=[[.int .i64 (aZ f (aK f e)).id]]) (a6.of_eq (bU U)) (by simp only[fz,aT,if_true];rfl) (.inl rfl) (by have:=Lg (f:=f) (E.take j);simp only[qy,fv,dw,eK];omega) λkG bj ge A=>?_;have z0:=A 14720000000 U U;have z9:=A 14720064192 U U;simp only[go_sem,y0,y9]at z0 z9;have a1:=a7.of_eq ((A 14720640768 U U).trans (bU U));have aN:=bg.of_eq ((A 14720704512 U U).trans (bU U));simp only[go_sem,H,x,L,z0,z9,w1,M];exact⟨T3,ag,kG,ad,14720960256,rfl,rfl,rfl,.inr rfl,by rw[Y];exact a1,by rw[hI];exact ge,by rw[ac];exact aN⟩
 have:j=3:=J;subst this;have ht:E.take 3=E:=by rw[<-hE];rfl
 rw[ht]at aE ao a5;have dp:(List.range (I E)).all (Aa f E):=by rw[jP];intro i hi;exact aA i (by have:=gI.1 hi;omega)
 have bq:Dy F f E=(((I (lS f E):Int)==3)&&(decide ((2:Int)∈rR f E)&&(decide ((0:Int)∈rR f E)&&vP F f 0 E))):=by unfold Dy;rw[dp,HV];rfl
 rw[bq];have xB:¬(((3:Nat):Int)<3):=U;have X:=J5 (rR f E) 2 (by simp[rR];omega);have T:=J5 (rR f E) 0 (by simp[rR];omega);obtain⟨bC,Vr,_⟩:=a5.xW;have N:3<=I E:=J;have Jh:List.take 3 (cg E)=cg E:=e_ (by rw[MF];omega);rcases ao with⟨kG,q⟩|⟨_,gg,q,bb⟩
 .cases q;have e0:lS f E=[]:=by simpa using kG
  rw[e0];simp only[go_sem,Cb,KG,H,x,R,fe,z,L,b0,B,xB,show((((0:Nat):Int))==3)=false from rfl];try rfl
 cases q;cases q1:((I (lS f E):Int)==3)with
 |false=>simp only[go_sem,Cb,KG,H,x,R,fe,z,L,b0,B,xB,qy,Vr,Jh,N,q1];try rfl
 |true=>
  cases q2:decide ((2:Int)∈rR f E)with
  |false=>rw[q2]at X;simp only[go_sem,Cb,KG,H,x,R,fe,z,L,b0,B,xB,qy,Vr,Jh,N,q1,vJ,aD X];try rfl
  |true=>
   rw[q2]at X;cases q3:decide ((0:Int)∈rR f E)with
   |false=>rw[q3]at T;simp only[go_sem,Cb,KG,H,x,R,fe,z,L,b0,B,xB,qy,Vr,Jh,N,q1,vJ,aD X,aD T];try rfl
   |true=>rw[q3]at T;simp only[go_sem,Cb,KG,H,x,R,fe,z,L,b0,B,xB,qy,Vr,Jh,N,q1,vJ,aD X,aD T,M8,aD po];try rfl
end
def aph(l:eH):((eC l).all λe=>e.all PV.scalar):=by simp[PV.scalar]
def arf(a b:eH):eC (a++b)=eC a++eC b:=lU
def qz(l:ae):I (bQ l)=I l:=cH _
def Vs(l:eH):I (eC l)=I l:=cH _
def akx{f T Z:Nat}{E fs:s_}{c d:c6}{aj:aB}(hs:A≠f)(h:aY A y z E (.one c) aj)(u:aY f T Z fs (.one d) aj):gr aj (.agg [c,d])=some (.agg [aX y z E,aX T Z fs]):=by obtain⟨D,o,B,g,j⟩:=h.gR;cases B;obtain⟨F,q,H,m,x⟩:=u.gR;cases H;rcases j with rfl|rfl<;>rcases x with rfl|rfl<;>simp[gr,nx,k5,kj,g,m,lG,pB,nD,hs]
def E6(f:ae)(k:Nat):eH:=(List.range k).map (c9 f)
abbrev lC(ls:ae):eH:=E6 ls (I ls)
def aA3(f:ae)(k:Nat):eC (E6 f (k+1))=eC (E6 f k)++[[.bool (c9 f k)]]:=by simp[E6,r9]
def aGm(f:ae)(k:Nat):I (E6 f k)=k:=by simp[E6]
def asj(F:Int)(f:ae)(hl:I f<=1000000):aJ S 135 [df F f] (.one (aX 4 1 (eC (lC f)))):=by
 refine bt aAe ?_;simp only[go_sem,alx];refine c_ (λk A aj=>A 1=.one (.bh 8640000000 1 0)/\A 4=aC k/\aj 8640000000=(1,some (.var (oz F f)))/\ ∃c,A 3=.one c/\aY 8640320320 4 1 (eC (E6 f k)) (.one c) aj) 0 (I f) (cE _) ?_ ?_
 .simp only[go_sem];exact⟨rfl,_,rfl,aY.nil⟩
 rintro k A aj E ⟨H,h,b0,c,j,g⟩
 by_cases z:k<I f
 .have D:((k:Int)<(I f:Int)):=J;have u:=cP (n:=k) J;have y:=Ir F f k hl J;simp only[go_sem,aaO,H,j,h,b0,D,zz,aD y];refine l_ (B:=[[.bool (c9 f k)]]) (g.of_eq (bU U)) (by simp only[fz,aT,if_true];rfl) (.inl rfl) (by simp[aGm];omega) λm L B x=>?_;have Q:=x 8640000000 U U;simp only[go_sem,b0]at Q;simp only[go_sem,H,h,u,z,Q];exact⟨m,rfl,by rw[aA3];exact B⟩
 have:k=I f:=J;subst this;simp only[go_sem,aaO,apY,H,j,h,b0,dW];exact uX g
def O1(F:Int)(f:ae)(hl:I f<=1000000):aJ S 97 [df F f] (.agg [aX fI 6 (bQ f),aX 4 1 (eC (lC f))]):=by have m:=asj F f hl;have lo:S.lone 6208064256=false:=ah;refine bt aGr ?_;simp only[go_sem,al4];refine nP (id:=6208064128) (bytes:=48) aY.nil (B:=bQ f) (rd:=[]) rfl (.inr (y7 _)) (by simp;omega) λE A r w g1 g H=>?_;rw[fN]at g1;have Q:=g 6208000000 U U;have h:=g 6208000064 U U;simp only[go_sem]at Q h;simp only[go_sem,Q,aDB];refine apD m lo (.inr (pA (aph _))) λy z D u B x=>?_;have O:=g1.of_eq (B 6208064128 U);have j:=(B 6208000064 U).trans h;simp only[go_sem,j];refine⟨?_,akx U (O.of_eq (bU U)) (u.of_eq (bU U))⟩;rcases H with⟨rfl,rfl⟩|⟨rfl,rfl⟩|⟨rfl,rfl⟩<;>rcases x with rfl|rfl<;>kernel_rfl
def aaF(F:Int)(f:ae)(hl:I f<=1000000):aJ S 58 [df F f] (.agg [.p (.int .i64 F),aX fI 6 (bQ f)]):=by refine bt aBm ?_;simp only[go_sem,aiD];refine nP (id:=3712064256) (bytes:=48) aY.nil (B:=bQ f) (rd:=[]) rfl (.inr (y7 _)) (by simp;omega) λj B r w g1 g h=>?_;rw[fN]at g1;have Q:=g 3712000064 U U;simp only[go_sem]at Q;simp only[go_sem,Q];refine⟨?_,E7 (g1.of_eq (bU U))⟩;rcases h with⟨rfl,rfl⟩|⟨rfl,rfl⟩|⟨rfl,rfl⟩<;>kernel_rfl
def EL(L:ae)(D:eH)(i:Nat):Bool:=match L[i]?,D[i]? with|some l,some d=>(l.kind==1)&&d|_,_=>false
def Il(L:ae)(D:eH):eh:=(List.range (I L)).find? (EL L D)
def nM(L:ae)(D:eH):ae:=match Il L D with|some i=>L.drop i++L.take i|none=>L
def apX(ac:Int)(L:ae)(D:eH)(hl:I L<=1000000)(hd:I D=I L):aJ S 92 [df ac L,.one (.p (.sl (eC D)))] (.agg [.p (.int .i64 ac),aX fI 6 (bQ (nM L D))]):=by
 have pc:=aaF ac L hl;have lo:S.lone 5888384064=false:=ah;refine bt avV ?_;simp only[go_sem,ao3];refine c_ (λk y aj=>y 1=.one (.p (.sl (eC D)))/\y 2=.one (.bh 5888000000 1 0)/\y 4=.one (.bh 5888000064 1 0)/\y 5=aC k/\aj 5888000000=(1,some (.var (oz ac L)))/\aj 5888000064=(1,some (.var [.p (.int .i64 0),.p .nils]))/\ ∀j,j<k->EL L D j=false) 0 (I L) (cE _) ?_ ?_
 .simp only[go_sem];exact⟨rfl,λj T=>absurd T (mX j)⟩
 rintro k y aj hk ⟨g,u,H,x,b0,B,R⟩
 by_cases A:k<I L
 .have M:((k:Int)<(I L:Int)):=J;obtain⟨l,hL⟩:=aR A;obtain⟨d,Z⟩:=aR (L:=D) (k:=k) J;have O:=fP hL;have xJ:=qG Z;have X:=cP (n:=k) J;have hs:EL L D k=((l.kind==1)&&d):=by simp[EL,hL,Z]
  have m:EL L D k=false->∀j,j<k+1->EL L D j=false:=λh j T=>by
   rcases m_.1 T with g|rfl
   .exact R j g
   exact h
  cases z:(l.kind==1)with
  |false=>rw[z]at hs;simp only[go_sem,Oy,g,u,H,x,b0,B,A,M,O,aa.ps,z,X];exact m hs
  |true=>
   rw[z]at hs;cases d with
   |false=>simp only[go_sem,Oy,g,u,H,x,b0,B,A,M,O,xJ,aa.ps,z,X];exact m hs
   |true=>
    have N:Il L D=some k:=Cz A R hs;have E:nM L D=L.drop k++L.take k:=by unfold nM;rw[N]
    have kl:k<=I L:=J;have Qb:=y7 L;have zK:List.take (I L-k) (List.drop k (bQ L))=bQ (L.drop k):=by rw[e_ aQ];simp[E_]
    have gC:List.take k (bQ L)=bQ (L.take k):=by simp[Ex]
    rw[E,V3];simp only[go_sem,Oy,g,u,H,x,b0,B,A,M,O,xJ,aa.ps,z,kl,Qb,zK];refine nP (id:=5888320384) (bytes:=48) aY.nil (B:=bQ (L.drop k)) (rd:=[]) rfl (.inr (y7 _)) (by simp;omega) λc1 bY r w g1 Y hw=>?_;rw[fN]at g1;have q0:=(Y 5888000000 U U).trans b0;have Q:=(Y 5888000064 U U).trans B;simp only[go_sem,u,H,x,q0,kl,Qb,gC];refine nP (bytes:=48) g1 (B:=bQ (L.take k)) (rd:=[]) rfl (.inr (y7 _)) (by simp;omega) λc2 bJ r2 w2 g2 F wQ=>?_;have JR:=(F 5888000064 U U).trans Q;simp only[go_sem,H,JR];refine⟨?_,E7 (g2.of_eq (bU U))⟩;rcases hw with⟨rfl,rfl⟩|⟨rfl,rfl⟩|⟨rfl,rfl⟩<;>rcases wQ with⟨rfl,rfl⟩|⟨rfl,rfl⟩|⟨rfl,rfl⟩<;>kernel_rfl
 have:k=I L:=J;subst this;have N:Il L D=none:=Gb R;have E:nM L D=L:=by unfold nM;rw[N]
 rw[E];simp only[go_sem,Oy,aoG,g,u,H,x,b0,B,dW,Rx];refine Qc pc lo rfl (zf _) λc2 bJ uK F=>?_;have Q:=(F 5888000064 U).trans B;simp only[go_sem,H,Q];exact E7 (uK.of_eq (bU U))
def Fz(F:Int)(f L:ae)(D:eH)(hl:I L<=1000000)(h:I D=I L):aJ S 108 [.agg [.p (c8 L),.p (.sl (eC D))],df F f] (.agg [.p (.int .i64 F),aX fI 6 (bQ (nM L D))]):=by have ps:=apX F L D hl h;have lo:S.lone 6912064448=false:=ah;refine bt av0 ?_;simp only[go_sem,agw,afG];refine Qc ps lo rfl (zf _) λg j u B=>?_;have Q:=B 6912000128 U;simp only[go_sem]at Q;simp only[go_sem,Q];exact E7 (u.of_eq (bU U))
abbrev atw(L:ae)(D:eH):V:=.agg [.p (c8 L),.p (.sl (eC D))]
abbrev CL(L:ae)(D:eH):RV:=.agg [aX fI 6 (bQ L),aX 4 1 (eC D)]
def Ev{α:Type}(l:List α)(out:aG)(i:Nat):Option α:=if i∈out then none else l[i]?
def u5{α:Type}(l:List α)(out:aG)(k:Nat):List α:=(List.range k).filterMap (Ev l out)
abbrev jB{α:Type}(l:List α)(out:aG):List α:=u5 l out (I l)
def UU{α:Type}{l:List α}{out:aG}{k:Nat}(h:k∈out):u5 l out (k+1)=u5 l out k:=by simp[u5,r9,Pu,Ev,h]
def SP{α:Type}{l:List α}{out:aG}{k:Nat}{x:α}(h:¬k∈out)(H:l[k]?=some x):u5 l out (k+1)=u5 l out k++[x]:=by simp[u5,r9,Pu,Ev,h,H]
def ab2{α:Type}(l:List α)(out:aG)(k:Nat):I (u5 l out k)<=k:=by
 have:=List.length_filterMap_le (Ev l out) (List.range k)
 simpa [u5]using this
def adq(L:ae)(D:eH)(out:aG)(hl:I L<=1000000)(hd:I D=I L)(ho:I out<=1000000):aJ S 99 [atw L D,.one (.p (.sl (cg out)))] (CL (jB L out) (jB D out)):=by
 refine bt atW ?_;simp only[go_sem,ahZ];refine c_ (λk A aj=>A 1=.one (.p (.sl (cg out)))/\A 2=.one (.bh 6336000000 1 0)/\A 4=.one (.bh 6336000064 1 0)/\A 5=.one (.bh 6336064000 1 0)/\A 6=aC k/\aj 6336000000=(1,some (.var [.p (c8 L),.p (.sl (eC D))]))/\aj 6336000064=(1,some (.var [.p .nils,.p .nils]))/\
  ∃X Y,aj 6336064000=(1,some (.var [X,Y]))/\aY 6336384512 fI 6 (bQ (u5 L out k)) (.one X) aj/\aY 6336448512 4 1 (eC (u5 D out k)) (.one Y) aj) 0 (I L) (cE _) ?_ ?_
 .simp only[go_sem];exact⟨rfl,_,_,rfl,aY.nil,aY.nil⟩
 rintro k A aj hk ⟨F,h,E,H,g,b0,B,X,Y,j,g1,z⟩
 by_cases y:k<I L
 .have aO:((k:Int)<(I L:Int)):=J;have R:=cP (n:=k) J;have O:=M7 out k ho;obtain⟨x,hx⟩:=aR y;obtain⟨d,hD⟩:=aR (L:=D) (k:=k) J;have iE:=fP hx;have mf:=qG hD;have k2:k<I D:=J;have l1:=ab2 L out k;have l2:=ab2 D out k;cases M:decide (k∈out)with
  |true=>rw[M]at O;have N:=lp M;simp only[go_sem,VZ,F,h,E,H,g,b0,B,j,y,aO,vJ,aD O,R];exact⟨_,_,rfl,by rw[UU N];exact g1,by rw[UU N];exact z⟩
  |false=>
   rw[M]at O;have N:=gU M;simp only[go_sem,VZ,F,h,E,H,g,b0,B,j,y,aO,vJ,aD O,R,iE,aa.ps];refine nP (B:=[x.ps]) (g1.of_eq (bU U)) (by simp only[fz,aT,if_true];rfl) (.inl rfl) (by simp only[qz,dw,eK];omega) λc3 bY ra wa g3 m Bb=>?_;have T:=m 6336000000 U U;have q1:=m 6336000064 U U;have q5:=m 6336064000 U U;have Q:=m 6336448512 U U;simp only[go_sem,b0,B,j]at T q1 q5 Q;have Z:=z.of_eq Q;simp only[go_sem,h,H,g,T,q5,k2,mf];refine⟨?_,?_⟩
   .rcases Bb with⟨rfl,rfl⟩|⟨rfl,rfl⟩|⟨rfl,rfl⟩<;>kernel_rfl
   refine nP (B:=[[.bool d]]) (Z.of_eq (by simp only[go_sem])) (by simp only[fz,aT,if_true];rfl) (.inl rfl) (by simp only[Vs,dw,eK];omega) λc5 bJ dn wb g4 u wQ=>?_;have p0:=u 6336000000 U U;have p1:=u 6336000064 U U;have p5:=u 6336064000 U U;have MI:=u 6336384512 U U;simp only[go_sem,T,q1]at p0 p1 p5 MI;have ac:=g3.of_eq MI;simp only[go_sem,F,h,E,H,g,p0,p1,p5,R,y];refine⟨?_,?_⟩
   .rcases wQ with⟨rfl,rfl⟩|⟨rfl,rfl⟩|⟨rfl,rfl⟩<;>kernel_rfl
   refine⟨_,_,rfl,?_,?_⟩
   .rw[SP N hx,V3];exact ac.of_eq (by simp only[go_sem])
   rw[SP N hD,arf];exact g4.of_eq (by simp only[go_sem])
 have:k=I L:=J;subst this;rw[<-hd]at z;simp only[go_sem,VZ,agl,F,h,E,H,g,b0,B,j,dW];exact akx U (g1.of_eq (by simp only[go_sem])) (z.of_eq (by simp only[go_sem]))
def amE(j fh f g box:Nat)(L:ae)(D:eH)(aj:aB)(v:V)(A:aB):Prop:=v=.tup []/\A j=(fh,some (.arr fI 6 (bQ L)))/\A f=(g,some (.arr 4 1 (eC D)))/\dG (λi=>i=j\/i=f\/i=box) aj A
def D2{α:Type}(l:List α)(i j:Nat)(x y:α):List α:=(l.set i y).set j x
def aGS{al:cG}{aj:aB}{fh f z i u:Nat}{x y:aa}{c d:Bool}(o1:al.ok j)(Z:al.ok f)(o3:al.ok 6656000000)(N:j≠f)(m:j≠6656000000)(g:f≠6656000000)
  (hL:aj j=(fh,some (.arr fI 6 (bQ L)))) (O:aj f=(z,some (.arr 4 1 (eC D)))) (hd:I D=I L) (E:L[i]?=some x) (B:L[u]?=some y) (X:D[i]?=some c) (he:D[u]?=some d) (F:i≠u):
  ∃v A,je S 104 [.agg [.hsl j fh 6 0 (I L),.hsl f z 1 0 (I D)],aC i,aC u] al aj v A/\amE j fh f z 6656000000 (D2 L i u x y) (D2 D i u c d) aj v A:=by
 have hi:=(cD.1 E).1;have hj:=(cD.1 B).1;have LP:i<I D:=J;have Q:u<I D:=J;have M:=fP E;have py:=fP B;have pc:=qG X;have pd:=qG he;have T:¬(u=i):=λh=>F h.symm;refine nc ay3 (jn rfl) ?_;simp only[go_sem,akW,o1,Z,o3,hL,O,N,N.symm,m,m.symm,g,g.symm,hi,hj,LP,Q,M,py,pc,pd,aa.ps,F,T,mA,kI,qz,Vs,af,au];refine⟨aI (by simp[pK,BC,xZ,rQ,yg,N,m,g,N.symm,m.symm,g.symm];decide),aI (by simp[pK,BC,xZ,rQ,yg,N,m,g,N.symm,m.symm,g.symm];decide),?_⟩;refine⟨rfl,?_,?_,?_⟩
 .simp only[go_sem,N,m];simp[D2,bQ,xf,aa.ps]
 .simp only[go_sem,N.symm,g];simp[D2,xf]
 intro q H;have R:q≠j:=λh=>H (.inl h);have q2:q≠f:=λh=>H (.inr (.inl h));have Y:q≠6656000000:=λh=>H (.inr (.inr h));simp only[go_sem,R,q2,Y]
def rM(g x u:Int)(l:aa):aa:=if(l.kind==1)&&((l.gate==g)&&decide (x<l.ay))then{l with ay:=l.ay-u}else l
def UL{α:Type}{f:α->α}{L:List α}{k:Nat}{x:α}(h:L[k]?=some x):((L.take k).map f++L.drop k)[k]?=some x:=by have hl:k<I L:=(cD.1 h).1;rw[vI (by simp;omega)];simp only[cH,iM,wS (Nat.le_of_lt hl),ze,yt,vX,h]
def OV{α:Type}{f:α->α}{L:List α}{k:Nat}{x:α}(h:L[k]?=some x):((L.take k).map f++L.drop k).set k (f x)=(L.take (k+1)).map f++L.drop (k+1):=by
 have hl:k<I L:=(cD.1 h).1;rw[J3 _ _ (by simp;omega)];simp only[cH,iM,wS (Nat.le_of_lt hl),ze];rw[iJ,h];have H:L.drop k=x::L.drop (k+1):=by rw[Kv hl];congr 1;exact(cD.1 h).2
 rw[H];simp
def ab3{α:Type}{f:α->α}{L:List α}{k:Nat}{x:α}(h:L[k]?=some x)(H:f x=x):(L.take k).map f++L.drop k=(L.take (k+1)).map f++L.drop (k+1):=by rw[<-OV h,H];have:=UL (f:=f) h;obtain⟨g,j⟩:=cD.1 this;have e:=Ra g;rw[j]at e;exact e.symm
def abu{α:Type}{f:α->α}(L:List α)(k:Nat):I ((L.take k).map f++L.drop k)=I L:=by simp;omega
def gL{α:Type}(l:List α)(i j:Nat):List α:=match l[i]?,l[j]? with
 |some x,some y=>(l.set i y).set j x
 |_,_=>l
def JS{k:Nat}(H:2<=I f)(g:k<I f):k≠aK f k:=by
 unfold aK;by_cases h:k+1<I f
 .rw[jv h];omega
 have:k+1=I f:=J;rw[this,Am];omega
def Ug(j fh box:Nat)(L:ae)(aj:aB)(v:V)(A:aB):Prop:=v=.tup []/\A j=(fh,some (.arr fI 6 (bQ L)))/\dG (λi=>i=j\/i=box) aj A
abbrev pL{α:Type}(f:α->α)(L:List α)(k:Nat):List α:=(L.take k).map f++L.drop k
def IN(L:ae)(i:Nat)(y:aa){z:b_}(h:y.ps=z):(bQ L).set i z=bQ (L.set i y):=by subst h;simp[bQ,xf]
def aFS{al:cG}{aj:aB}{fh:Nat}{Z:Abs.c6}(R:al.ok j)(O:al.ok 6464000000)(N:j≠6464000000)
  (hl:I L<=1000000) (Q:aj j=(fh,some (.arr fI 6 (bQ L)))) (hw:∀X∈L,IntKind.i64.wrap (X.ay-u)=X.ay-u):
  ∃v A,je S 101 [.agg [.hsl j fh 6 0 (I L),Z],aC g,aC x,aC u] al aj v A/\Ug j fh 6464000000 (L.map (rM g x u)) aj v A:=by
 refine nc ag5 (jn rfl) ?_;simp only[go_sem,Ws,R,O,Q,N,N.symm,af,au];refine c_ (λk h A=>h 1=aC g/\h 2=aC x/\h 3=aC u/\h 4=.one (.bh 6464000000 ((aj 6464000000).1+1) 0)/\h 8=aC k/\A 6464000000=((aj 6464000000).1+1,some (.var [.hsl j fh 6 0 (I L),Z]))/\A j=(fh,some (.arr fI 6 (bQ (pL (rM g x u) L k))))/\dG (λi=>i=j\/i=6464000000) aj A) 0 (I L) (cE _) ?_ ?_
 .simp only[go_sem,N,N.symm];exact⟨rfl,by simpa [pL]using Q,(dG.refl _ _).dE (.inr rfl) _⟩
 rintro k h bY hk ⟨M,B,Y,F,T,D,H,E⟩
 by_cases y:k<I L
 .have aO:((k:Int)<(I L:Int)):=J;have w1:=cP (n:=k) J;obtain⟨X,m⟩:=aR y;have hm:=UL (f:=rM g x u) m;have iE:=fP hm;have iB:k<I (pL (rM g x u) L k):=by rw[abu];exact y
  have wr:=hw X (ch m);simp only[go_sem,TE,M,B,Y,F,T,D,H,y,aO,iE,aa.ps,R,O,af,au];repeat' ((first|apply sd|apply rC|apply r_|apply rL|apply r7|apply rY)<;>intro he<;>simp only[go_sem, *,w1,wr,N.symm,aa.ps,qz,kI,bne,af,au])
  all_goals(first|rw[show pL (rM g x u) L k=pL (rM g x u) L (k+1)from ab3 m (by simp only[rM, *];rfl)]|skip)
  refine⟨aI (by simp[pK,BC,xZ,rQ,yg,N,N.symm]<;>decide),?_,?_⟩
  .rw[IN _ _ (rM g x u X) (by simp[rM,aa.ps, *])];exact congrArg (λz=>(fh,some (fZ.arr fI 6 (bQ z)))) (OV m)
  exact E.dE (.inl rfl) _
 have:k=I L:=J;subst this;rw[show pL (rM g x u) L (I L)=L.map (rM g x u) by simp[pL]]at H;simp only[go_sem,TE,M,B,Y,F,T,D,H,O,dW,af,au];exact⟨rfl,H,E⟩
def aAh{al:cG}{aj:aB}{f:Abs.c6}(O:al.ok 6464000000):
  ∃v A,je S 101 [.agg [.p .nils,f],aC g,aC x,aC u] al aj v A/\v=.tup []/\dG (· =6464000000) aj A:=by
 refine nc ag5 (jn rfl) ?_;simp only[go_sem,Ws,O,af,au];refine mx ?_;simp only[go_sem,TE,O,af,au];have h:decide ((0:Int)<((0:Nat):Int))=false:=rfl;simp only[go_sem,h,af,au];exact dG.dE (dG.refl (λi=>i=6464000000) aj) rfl _
def AO(h:cV)(i:Int)(k:Nat):Nat:=I ((h.take k).filter (λx=>decide (x<i)))
def ajV(h:cV)(i:Int)(k:Nat):AO h i k<=k:=by have:=List.length_filter_le (λx=>decide (x<i)) (h.take k);simp only[AO];have H:=List.length_take_le k h;omega
def aCr{i x:Int}{k:Nat}(f:h[k]?=some x):AO h i (k+1)=if decide (x<i)then AO h i k+1 else AO h i k:=by simp only[AO,iJ,f,KN];cases H:decide (x<i)<;>simp[H]
def nU(h:cV)(l:aa):aa:=if l.kind==2 then{l with id:=l.id-(AO h l.id (I h):Int)}else l
def awp{al:cG}{aj:aB}{fh g gG tG:Nat}{vd:Abs.c6}(Z:al.ok j)(Y:al.ok g)(O:al.ok 6720000000)(N:j≠6720000000)(m:g≠6720000000)(R:j≠g)
  (hl:I L<=1000000) (hg:I h<=1000000) (hL:aj j=(fh,some (.arr fI 6 (bQ L)))) (hG:aj g=(gG,some (.arr tG 1 (dR h)))) (hw:∀x∈L,∀k:Nat,k<=I h->IntKind.i64.wrap (x.id-(k:Int))=x.id-k):
  ∃v u,je S 105 [.agg [.hsl j fh 6 0 (I L),vd],.one (.hsl g gG 1 0 (I h))] al aj v u/\Ug j fh 6720000000 (L.map (nU h)) aj v u:=by
 refine nc amx (jn rfl) ?_;simp only[go_sem,adV,Z,Y,O,hL,hG,N,N.symm,m,m.symm,af,au];refine c_ (λk A u=>A 1=.one (.hsl g gG 1 0 (I h))/\A 2=.one (.bh 6720000000 ((aj 6720000000).1+1) 0)/\A 4=aC k/\u 6720000000=((aj 6720000000).1+1,some (.var [.hsl j fh 6 0 (I L),vd]))/\u g=(gG,some (.arr tG 1 (dR h)))/\u j=(fh,some (.arr fI 6 (bQ (pL (nU h) L k))))/\dG (λi=>i=j\/i=6720000000) aj u) 0 (I L) (cE _) ?_ ?_
 .simp only[go_sem,N,N.symm,m,m.symm];refine⟨rfl,hG,?_,(dG.refl _ _).dE (.inr rfl) _⟩;simp only[pL,Qh,jS,fN,Ih];exact hL
 rintro k A bY hk ⟨h1,h2,h4,Q,T,D,dD⟩
 by_cases E:k<I L
 .have aO:((k:Int)<(I L:Int)):=J;have w1:=cP (n:=k) J;obtain⟨x,hx⟩:=aR E;have hm:=UL (f:=nU h) hx;have iE:=fP hm;have iB:k<I (pL (nU h) L k):=by rw[abu];exact E
  have wr:=hw x (ch hx);simp only[go_sem,Su,h1,h2,h4,Q,T,D,E,aO,iE,aa.ps,Z,Y,O,af,au];refine c_ (λq A u=>A 1=.one (.hsl g gG 1 0 (I h))/\A 2=.one (.bh 6720000000 ((aj 6720000000).1+1) 0)/\A 4=aC k/\A 5=aC (AO h x.id q)/\A 6=aC q/\u=bY) 0 (I h) (cE _) ?_ ?_
  .simp only[go_sem,h1,h2,h4];exact⟨rfl,rfl⟩
  rintro q dz bJ hq ⟨M,k2,X,ef,k6,rfl⟩
  by_cases H:q<I h
  .have ad:((q:Int)<(I h:Int)):=J;have w2:=cP (n:=q) J;have w3:=cP (n:=AO h x.id q) (by have:=ajV h x.id q;omega);obtain⟨y,hy⟩:=aR H;have ac:=vT hy;have hs:=aCr (i:=x.id) hy;simp only[go_sem,acB,M,k2,X,ef,k6,Q,T,D,E,H,ad,iE,ac,aa.ps,Z,Y,O,af,au];cases B:decide (y<x.id)with
   |true=>have F:=lp B;rw[B]at hs;simp only[go_sem,F,M,k2,X,ef,k6,w2,w3,af,au];exact⟨aI (by simp[pK,BC,xZ,rQ,yg,N,N.symm,m,m.symm,R,R.symm]<;>decide),H,by rw[hs];rfl⟩
   |false=>have F:=gU B;rw[B]at hs;simp only[go_sem,F,M,k2,X,ef,k6,w2,w3,af,au];exact⟨aI (by simp[pK,BC,xZ,rQ,yg,N,N.symm,m,m.symm,R,R.symm]<;>decide),H,by rw[hs];rfl⟩
  have:q=I h:=J;subst this;have wk:=wr (AO h x.id (I h)) (ajV _ _ _);simp only[go_sem,acB,an9,agc,M,k2,X,ef,k6,Q,T,D,E,iE,aa.ps,Z,Y,O,dW,af,au];cases jk:x.kind==2 with
  |true=>
   simp only[go_sem,jk,M,k2,X,ef,k6,Q,T,D,E,iE,aa.ps,Z,Y,O,w1,wk,N,N.symm,m,m.symm,R,R.symm,qz,kI,iB,af,au];refine⟨aI (by simp[pK,BC,xZ,rQ,yg,N,N.symm]<;>decide),?_,?_⟩
   .rw[IN _ _ (nU h x) (by simp[nU,aa.ps,jk])];exact congrArg (λz=>(fh,some (fZ.arr fI 6 (bQ z)))) (OV hx)
   exact dD.dE (.inl rfl) _
  |false=>simp only[go_sem,jk,M,k2,X,ef,k6,Q,T,D,E,iE,aa.ps,Z,Y,O,w1,af,au];refine⟨?_,dD⟩;rw[show pL (nU h) L k=pL (nU h) L (k+1)from ab3 hx (by simp only[nU,jk];rfl)]
 have:k=I L:=J;subst this;rw[show pL (nU h) L (I L)=L.map (nU h) by simp[pL]]at D;simp only[go_sem,Su,h1,h2,h4,Q,T,D,O,dW,af,au];exact⟨rfl,D,dD⟩
def aGs{i:Nat}:cG.all.ok i:=rfl
attribute [go_sem] aGs
def vE(f:ae):I (lC f)=I f:=by simp[lC,E6]
def MO(L:ae)(D:eH):I (nM L D)=I L:=by
 simp only[nM];split
 .simp only[fv,l8,iM];omega
 rfl
def aGO{L:eH}(h:L≠[]):eC L≠[]:=by simpa using h
abbrev abC(L:ae)(D:eH):RV:=.agg [.own fI 6 (bQ L),.own 4 1 (eC D)]
def FZ(h:L≠[])(H:I D=I L):CL L D=abC L D:=by have f:D≠[]:=λe=>h (uE.1 (by rw[<-H,e];rfl));simp only[CL,abC,vq (Gs h),vq (aGO f)]
def Wx(L:ae)(D:eH):(abC L D).alone:=by have a:=zf L;have b:=aph D;simp[RV.alone,iV,ja,kJ.alone,a,b]
def O8(F:Nat)(L:ae):(RV.agg [.p (.int .i64 F),.own fI 6 (bQ L)]).alone:=by have a:=zf L;simp[RV.alone,iV,ja,kJ.alone,PV.scalar,a]
def qS(l:ae):(bQ l).take (I l)=bQ l:=e_ aQ
def vu(l:eH):(eC l).take (I l)=eC l:=e_ aQ
def Lh(g:cK F f):mv (eD F f)≠[]:=by
 have hl:0<I f:=jr.2 g.ne;obtain⟨j,h,_⟩:=U7 (F:=F) (g:=f) (d:=0) J;intro e;have:eD F f=[]:=by simpa using e
 rw[this]at h;cases h
end Go.Abs
